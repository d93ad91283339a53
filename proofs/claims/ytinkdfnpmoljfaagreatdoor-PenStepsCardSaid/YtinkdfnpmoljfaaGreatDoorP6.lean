import Derived.Test.YtinkdfnpmoljfaaGreatDoorD2
import Derived.Test.YtinkdfnpmoljfaaGreatDoorFenX
import Derived.Test.YtinkdfnpmoljfaaGreatDoorIto
import Derived.Test.YtinkdfnpmoljfaaGreatDoorProg
import Derived.Test.YtinkdfnpmoljfaaGreatDoorP1
import Derived.Test.YtinkdfnpmoljfaaGreatDoorP2
import Derived.Test.YtinkdfnpmoljfaaGreatDoorP3
import Derived.Test.YtinkdfnpmoljfaaGreatDoorP4
import Derived.Test.YtinkdfnpmoljfaaGreatDoorP5
set_option linter.unusedVariables false
set_option linter.unusedSimpArgs false
set_option linter.unnecessarySimpa false
set_option maxRecDepth 100000
namespace Go.Proofs.YtinkdfnpmoljfaaGreatDoor
open Go Go.Fen
theorem eqt26 : EqT Tryz.prog 26 cAct := EqT.of 20 rfl (by kernel_rfl) (by kernel_rfl) (fun _ _ => by kernel_rfl) cAct.inj
def ref26_pen (what : Int) (m : Int) : Act :=
 { Act.zero with kind := 39, n := what, m := m }

theorem ref26_pen_c (what : Int) (m : Int) (R : Act) (hR : ref26_pen what m = R) : ConV Tryz.prog 82 [iv what, iv m] [] (ag (cAct R)) := by
 refine con_of_J (n := 8) Tryz.func82 rfl (by kernel_rfl) rfl rfl [(0, iv what), (1, iv m)] ⟨rfl, rfl, trivial⟩ fun X hX hr hD => ?_
 replace hR := (ref26_pen.eq_1 ..).symm.trans hR
 refine sr 1 rfl ?_
 refine it rfl (tri_alloc (cs := cAct Act.zero) zero26 rfl) fun b1 => ?_
 refine ie ?_
 refine sr 4 rfl ?_
 refine ip 2 2 [(5, iv what), (6, iv m)] (by kernel_rfl) ?_
 refine ix rfl (det_build (cs := cAct ({ Act.zero with kind := 39, n := what, m := m })) rfl rfl (by kernel_rfl)) ?_
 refine it rfl (tri_store (us := cAct ({ Act.zero with kind := 39, n := what, m := m })) (cs' := cAct ({ Act.zero with kind := 39, n := what, m := m })) ty26 rfl rfl rfl 0 rfl rfl rfl rfl rfl rfl) fun _ => ?_
 refine ie ?_
 refine J_ret ?_
 subst hR
 exact ends_ret rfl ⟨hr, hD⟩ (by simp [hD]) (res1 rfl (resV_cell (us := cAct ({ Act.zero with kind := 39, n := what, m := m })) ty26 rfl 0 rfl rfl rfl)) () (by rfl) (mk [false] rfl) Foll.nil

def ref26_tint (what : Int) (c : Col) : Act :=
 { Act.zero with kind := 39, n := what, color := c }

theorem ref26_tint_c (what : Int) (c : Col) (R : Act) (hR : ref26_tint what c = R) : ConV Tryz.prog 83 [iv what, ag (cCol c)] [] (ag (cAct R)) := by
 refine con_of_J (n := 8) Tryz.func83 rfl (by kernel_rfl) rfl rfl [(0, iv what), (1, ag (cCol c))] ⟨rfl, rfl, trivial⟩ fun X hX hr hD => ?_
 replace hR := (ref26_tint.eq_1 ..).symm.trans hR
 refine sr 2 rfl ?_
 refine it rfl (tri_box (cs := cCol c) rfl rfl rfl) fun b1 => ?_
 refine it rfl (tri_alloc (cs := cAct Act.zero) zero26 rfl) fun b2 => ?_
 refine ie ?_
 refine sr 4 rfl ?_
 refine ip 1 3 [(5, iv what)] (by kernel_rfl) ?_
 refine ix rfl (det_own_agg (us := cCol c) ty24 rfl rfl 1 rfl rfl rfl) ?_
 refine ix rfl (det_build (cs := cAct ({ Act.zero with kind := 39, n := what, color := c })) rfl rfl (by kernel_rfl)) ?_
 refine it rfl (tri_store (us := cAct ({ Act.zero with kind := 39, n := what, color := c })) (cs' := cAct ({ Act.zero with kind := 39, n := what, color := c })) ty26 rfl rfl rfl 0 rfl rfl rfl rfl rfl rfl) fun _ => ?_
 refine ie ?_
 refine J_ret ?_
 subst hR
 exact ends_ret rfl ⟨hr, hD⟩ (by simp [hD]) (res1 rfl (resV_cell (us := cAct ({ Act.zero with kind := 39, n := what, color := c })) ty26 rfl 0 rfl rfl rfl)) () (by rfl) (mk [false, false] rfl) Foll.nil

def ref26_Changes_j3 (bit : Int) (ag_ref26_Changes_l0 : List Act → Int → List Act) (out2 : List Act) : List Act :=
 ag_ref26_Changes_l0 out2 (2 * bit)
def ref26_Changes_j11 (bit1 : Int) (ag_ref26_Changes_l1 : List Act → Int → List Act) (out4 : List Act) : List Act :=
 ag_ref26_Changes_l1 out4 (2 * bit1)
def ref26_Changes_j12 (to : Sty) (out3 : List Act) (bit1 : Int) (ag_ref26_Changes_l1 : List Act → Int → List Act) (there : Bool) : List Act :=
 (bif ((decide ((0 : Int) < (bOp .and .i64 to.attr bit1))) && (!there)) then ref26_Changes_j11 bit1 ag_ref26_Changes_l1 (out3 ++ ([(ref26_pen 1 bit1)] : List Act)) else ref26_Changes_j11 bit1 ag_ref26_Changes_l1 out3)
def ref26_Changes_j15 (from_ : Sty) (to : Sty) (out7 : List Act) : List Act :=
 (bif (!(decide (from_.line = to.line))) then (out7 ++ ([(ref26_tint 6 to.line)] : List Act)) else out7)
def ref26_Changes_j14 (from_ : Sty) (to : Sty) (out6 : List Act) : List Act :=
 (bif (!(decide (from_.back = to.back))) then ref26_Changes_j15 from_ to (out6 ++ ([(ref26_tint 5 to.back)] : List Act)) else ref26_Changes_j15 from_ to out6)
def ref26_Changes_j13 (from_ : Sty) (to : Sty) (out5 : List Act) : List Act :=
 (bif (!(decide (from_.fore = to.fore))) then ref26_Changes_j14 from_ to (out5 ++ ([(ref26_tint 4 to.fore)] : List Act)) else ref26_Changes_j14 from_ to out5)
def ref26_Changes_l1 (from_ : Sty) (to : Sty) (gone : Bool) : Nat → List Act → Int → List Act
 | 0, _, _ => []
 | fu3 + 1, out3, bit1 => (bif (decide (bit1 < 256)) then (bif (gone && (decide (bit1 < 4))) then ref26_Changes_j12 to out3 bit1 (ref26_Changes_l1 from_ to gone fu3) false else ref26_Changes_j12 to out3 bit1 (ref26_Changes_l1 from_ to gone fu3) (decide ((0 : Int) < (bOp .and .i64 from_.attr bit1)))) else (bif (!decide (from_.under = to.under)) then ref26_Changes_j13 from_ to (out3 ++ ([(ref26_pen 3 to.under)] : List Act)) else ref26_Changes_j13 from_ to out3))
def ref26_Changes_l0 (from_ : Sty) (to : Sty) (gone : Bool) : Nat → List Act → Int → List Act
 | 0, _, _ => []
 | fu1 + 1, out1, bit => (bif (decide (bit < 256)) then (bif (decide ((bOp .and .i64 to.attr bit) < (bOp .and .i64 from_.attr bit))) then ref26_Changes_j3 bit (ref26_Changes_l0 from_ to gone fu1) (out1 ++ ([(ref26_pen 2 bit)] : List Act)) else ref26_Changes_j3 bit (ref26_Changes_l0 from_ to gone fu1) out1) else ref26_Changes_l1 from_ to gone (((512 : Int) - 1).toNat + 1) out1 1)
def ref26_Changes_j0 (from_ : Sty) (to : Sty) (out : List Act) (gone : Bool) : List Act :=
 ref26_Changes_l0 from_ to gone (((512 : Int) - 4).toNat + 1) out 4
def ref26_Changes (from_ : Sty) (to : Sty) : List Act :=
 (bif ((decide ((bOp .and .i64 to.attr 1) < (bOp .and .i64 from_.attr 1))) || (decide ((bOp .and .i64 to.attr 2) < (bOp .and .i64 from_.attr 2)))) then ref26_Changes_j0 from_ to (([] : List Act) ++ ([(ref26_pen 2 3)] : List Act)) true else ref26_Changes_j0 from_ to ([] : List Act) false)

theorem ref26_Changes_j13_eq (f t : Sty) (l : List Act) : ref26_Changes_j13 f t l = l ++ (oneIf (!decide (f.fore = t.fore)) (pC 4 t.fore) ++ (oneIf (!decide (f.back = t.back)) (pC 5 t.back) ++ oneIf (!decide (f.line = t.line)) (pC 6 t.line))) := by
 unfold ref26_Changes_j13 ref26_Changes_j14 ref26_Changes_j15
 simp only [ref26_tint]
 generalize decide (f.fore = t.fore) = a
 generalize decide (f.back = t.back) = b
 generalize decide (f.line = t.line) = c
 cases a <;> cases b <;> cases c <;> simp [oneIf, pC]
def thereC (f : Sty) (g : Bool) (b : Int) : Bool := bif g && decide (b < 4) then false else decide ((0 : Int) < (bOp .and .i64 f.attr b))
def rsetC (f t : Sty) (g : Bool) (b : Int) : Bool := decide ((0 : Int) < (bOp .and .i64 t.attr b)) && !(thereC f g b)
def rclrC (f t : Sty) (b : Int) : Bool := decide ((bOp .and .i64 t.attr b) < (bOp .and .i64 f.attr b))
def rgone (f t : Sty) : Bool := (decide ((bOp .and .i64 t.attr 1) < (bOp .and .i64 f.attr 1))) || (decide ((bOp .and .i64 t.attr 2) < (bOp .and .i64 f.attr 2)))
def rchg (f t : Sty) : List Act := oneIf (rgone f t) (pA 2 3) ++ (([4, 8, 16, 32, 64, 128] : List Int).flatMap (fun b => oneIf (rclrC f t b) (pA 2 b)) ++ (bits8.flatMap (fun b => oneIf (rsetC f t (rgone f t) b) (pA 1 b)) ++ tails f t))
theorem ref26_Changes_l1_step (f t : Sty) (g : Bool) (F : Nat) (b : Int) (l : List Act) (hb : b ≤ 255) : ref26_Changes_l1 f t g (F + 1) l b = ref26_Changes_l1 f t g F (l ++ oneIf (rsetC f t g b) (pA 1 b)) (2 * b) := by
 rw [ref26_Changes_l1, decide_eq_true (by omega : b < 256), cond_true]
 have e : ∀ th : Bool, ref26_Changes_j12 t l b (ref26_Changes_l1 f t g F) th = ref26_Changes_l1 f t g F (l ++ oneIf (decide ((0 : Int) < (bOp .and .i64 t.attr b)) && !th) (pA 1 b)) (2 * b) := by
  intro th
  unfold ref26_Changes_j12
  cases decide ((0 : Int) < (bOp .and .i64 t.attr b)) && !th with
  | true => simp only [cond_true, ref26_Changes_j11]; rfl
  | false => simp only [cond_false, ref26_Changes_j11, oneIf, List.append_nil]
 unfold rsetC thereC
 cases g && decide (b < 4) with
 | true => rw [cond_true, cond_true, e]
 | false => rw [cond_false, cond_false, e]
theorem ref26_Changes_l1_end (f t : Sty) (g : Bool) (F : Nat) (l : List Act) : ref26_Changes_l1 f t g (F + 1) l 256 = l ++ tails f t := by
 rw [ref26_Changes_l1, decide_eq_false (by omega : ¬ (256 : Int) < 256), cond_false]
 unfold tails
 cases decide (f.under = t.under) with
 | true => simp only [Bool.not_true, cond_false, ref26_Changes_j13_eq, oneIf, List.nil_append]
 | false => simp only [Bool.not_false, cond_true, ref26_Changes_j13_eq, oneIf, List.append_assoc]; rfl
theorem ref26_Changes_l1_eq (f t : Sty) (g : Bool) (F : Nat) (hF : 9 ≤ F) (l : List Act) : ref26_Changes_l1 f t g F l 1 = l ++ (bits8.flatMap (fun b => oneIf (rsetC f t g b) (pA 1 b)) ++ tails f t) := by
 obtain ⟨G, rfl⟩ : ∃ G, F = G + 1 + 1 + 1 + 1 + 1 + 1 + 1 + 1 + 1 := ⟨F - 9, by omega⟩
 rw [ref26_Changes_l1_step _ _ _ _ _ _ (by omega), ref26_Changes_l1_step _ _ _ _ _ _ (by omega), ref26_Changes_l1_step _ _ _ _ _ _ (by omega), ref26_Changes_l1_step _ _ _ _ _ _ (by omega), ref26_Changes_l1_step _ _ _ _ _ _ (by omega), ref26_Changes_l1_step _ _ _ _ _ _ (by omega), ref26_Changes_l1_step _ _ _ _ _ _ (by omega), ref26_Changes_l1_step _ _ _ _ _ _ (by omega)]
 rw [show (2 : Int) * (2 * (2 * (2 * (2 * (2 * (2 * (2 * 1))))))) = 256 by omega, ref26_Changes_l1_end]
 unfold bits8
 simp only [List.flatMap_cons, List.flatMap_nil, List.append_assoc, List.append_nil, List.nil_append]
 rfl
theorem ref26_Changes_l0_step (f t : Sty) (g : Bool) (F : Nat) (b : Int) (l : List Act) (hb : b ≤ 255) : ref26_Changes_l0 f t g (F + 1) l b = ref26_Changes_l0 f t g F (l ++ oneIf (rclrC f t b) (pA 2 b)) (2 * b) := by
 rw [ref26_Changes_l0, decide_eq_true (by omega : b < 256), cond_true]
 generalize ((512 : Int) - 1).toNat + 1 = Z
 show (bif rclrC f t b then _ else _) = _
 cases rclrC f t b with
 | true => simp only [cond_true, ref26_Changes_j3]; rfl
 | false => simp only [cond_false, ref26_Changes_j3, oneIf, List.append_nil]
theorem ref26_Changes_l0_end (f t : Sty) (g : Bool) (F : Nat) (l : List Act) : ref26_Changes_l0 f t g (F + 1) l 256 = l ++ (bits8.flatMap (fun b => oneIf (rsetC f t g b) (pA 1 b)) ++ tails f t) := by
 rw [ref26_Changes_l0, decide_eq_false (by omega : ¬ (256 : Int) < 256), cond_false]
 generalize hF : ((512 : Int) - 1).toNat + 1 = Z
 exact ref26_Changes_l1_eq f t g Z (by omega) l
theorem ref26_Changes_j0_eq (f t : Sty) (g : Bool) (l : List Act) : ref26_Changes_j0 f t l g = l ++ (([4, 8, 16, 32, 64, 128] : List Int).flatMap (fun b => oneIf (rclrC f t b) (pA 2 b)) ++ (bits8.flatMap (fun b => oneIf (rsetC f t g b) (pA 1 b)) ++ tails f t)) := by
 rw [ref26_Changes_j0]
 generalize hF : ((512 : Int) - 4).toNat + 1 = F
 obtain ⟨G, rfl⟩ : ∃ G, F = G + 1 + 1 + 1 + 1 + 1 + 1 + 1 := ⟨F - 7, by omega⟩
 clear hF
 rw [ref26_Changes_l0_step _ _ _ _ _ _ (by omega), ref26_Changes_l0_step _ _ _ _ _ _ (by omega), ref26_Changes_l0_step _ _ _ _ _ _ (by omega), ref26_Changes_l0_step _ _ _ _ _ _ (by omega), ref26_Changes_l0_step _ _ _ _ _ _ (by omega), ref26_Changes_l0_step _ _ _ _ _ _ (by omega)]
 rw [show (2 : Int) * (2 * (2 * (2 * (2 * (2 * 4))))) = 256 by omega, ref26_Changes_l0_end]
 simp only [List.flatMap_cons, List.flatMap_nil, List.append_assoc, List.append_nil, List.nil_append]
 rfl
theorem ref26_Changes_aux (f t : Sty) (X : List Act) (c : Bool) (hc : rgone f t = c) (h : (bif c then ref26_Changes_j0 f t (([] : List Act) ++ ([(ref26_pen 2 3)] : List Act)) true else ref26_Changes_j0 f t ([] : List Act) false) = X) : X = rchg f t := by
 unfold rchg
 rw [hc]
 clear hc
 cases c with
 | true => rw [cond_true, ref26_Changes_j0_eq] at h; rw [← h, List.nil_append]; rfl
 | false => rw [cond_false, ref26_Changes_j0_eq] at h; rw [← h]; rfl
theorem ref26_Changes_eq (f t : Sty) : ref26_Changes f t = rchg f t := ref26_Changes_aux f t _ _ rfl (ref26_Changes.eq_1 f t).symm
theorem rchg_pen (f t : Sty) : ∀ a ∈ rchg f t, penA a := by
 intro a ha
 have hp : ∀ n m, penA (pA n m) := fun n m => ⟨rfl, rfl⟩
 have hq : ∀ n c, penA (pC n c) := fun n c => ⟨rfl, rfl⟩
 unfold rchg tails at ha
 simp only [List.mem_append, List.mem_flatMap] at ha
 rcases ha with h | ⟨b, _, h⟩ | ⟨b, _, h⟩ | h | h | h | h <;> (rw [oneIf_mem h]; first | exact hp _ _ | exact hq _ _)
theorem rchg_len (f t : Sty) : (rchg f t).length ≤ 19 := by
 have h := oneIf_len
 unfold rchg tails bits8
 simp only [List.flatMap_cons, List.flatMap_nil, List.length_append, List.length_nil]
 have h0 := h (rgone f t) (pA 2 3)
 have hc := fun b => h (rclrC f t b) (pA 2 b)
 have hs := fun b => h (rsetC f t (rgone f t) b) (pA 1 b)
 have c3 := hc 4; have c4 := hc 8; have c5 := hc 16; have c6 := hc 32; have c7 := hc 64; have c8 := hc 128
 have s1 := hs 1; have s2 := hs 2; have s3 := hs 4; have s4 := hs 8; have s5 := hs 16; have s6 := hs 32; have s7 := hs 64; have s8 := hs 128
 have u := h (!decide (f.under = t.under)) (pA 3 t.under); have v := h (!decide (f.fore = t.fore)) (pC 4 t.fore); have w := h (!decide (f.back = t.back)) (pC 5 t.back); have x := h (!decide (f.line = t.line)) (pC 6 t.line)
 omega
theorem ref26_Changes_len (f t : Sty) : (ref26_Changes f t).length ≤ 1100 := by rw [ref26_Changes_eq]; have := rchg_len f t; omega
theorem ref26_Changes_pen (f t : Sty) : ∀ a ∈ ref26_Changes f t, penA a := by rw [ref26_Changes_eq]; exact rchg_pen f t

theorem ref26_Changes_c (from_ : Sty) (to : Sty) (R : List Act) (hR : ref26_Changes from_ to = R) : Con Tryz.prog 50 [ag (cSty from_), ag (cSty to)] [] [] ({r : VR // VOk 6 R.length r}) (fun x => .slice (va x.1.q) R.length x.1.k) (fun x => ((vo cAct 26 x.1 R) ++ ([]))) (fun x => []) := by
 refine con_of_J (n := 121) Tryz.func50 rfl (by kernel_rfl) rfl rfl [(0, ag (cSty from_)), (1, ag (cSty to))] ⟨rfl, rfl, trivial⟩ fun X hX hr hD => ?_
 replace hR := (ref26_Changes.eq_1 ..).symm.trans hR
 refine sr 3 rfl ?_
 refine it rfl (tri_box (cs := cSty from_) rfl rfl rfl) fun b1 => ?_
 refine it rfl (tri_box (cs := cSty to) rfl rfl rfl) fun b2 => ?_
 refine ip 1 0 [] (by kernel_rfl) ?_
 refine ie ?_
 refine sr 1 rfl ?_
 refine ip 1 0 [(5, .slice none 0 0)] (by kernel_rfl) ?_
 refine ie ?_
 refine sr 1 rfl ?_
 refine ip 1 0 [(6, bv false)] (by kernel_rfl) ?_
 refine ie ?_
 refine JS3 (fun (out : List Act) (outr : VR) (gone : Bool) => ref26_Changes_j0 from_ to out gone = R ∧ VOk 6 out.length outr ∧ out.length ≤ 1) (fun (out : List Act) (outr : VR) (gone : Bool) => [(2, pt b1 0), (3, pt b2 0), (5, .slice (va outr.q) out.length outr.k), (6, bv gone)]) (fun (out : List Act) (outr : VR) (gone : Bool) => (bx b2 (cSty to) 70 :: bx b1 (cSty from_) 70 :: (vo cAct 26 outr out) ++ ([]))) (fun (out : List Act) (outr : VR) (gone : Bool) => []) ?_ ?_
 ·refine sr 16 rfl ?_
  refine ip 1 15 [(10, pt b1 0)] (by kernel_rfl) ?_
  refine ix rfl (det_own_one (v := iv from_.attr) ty3 rfl rfl 1 rfl rfl) ?_
  refine ip 2 12 [(12, iv (bOp .and .i64 from_.attr 1)), (13, pt b2 0)] (by kernel_rfl) ?_
  refine ix rfl (det_own_one (v := iv to.attr) ty3 rfl rfl 0 rfl rfl) ?_
  refine ip 3 8 [(17, bv (decide ((bOp .and .i64 to.attr 1) < (bOp .and .i64 from_.attr 1))))] (by kernel_rfl) ?_
  refine ior 8 0 17 25 (decide ((bOp .and .i64 to.attr 2) < (bOp .and .i64 from_.attr 2))) rfl (by kernel_rfl) (fun g3 => ?_) ?_
  ·have g3p : ¬ ((bOp .and .i64 to.attr 1) < (bOp .and .i64 from_.attr 1)) := by simpa using g3
   refine ip 1 7 [(18, pt b1 0)] (by kernel_rfl) ?_
   refine ix rfl (det_own_one (v := iv from_.attr) ty3 rfl rfl 1 rfl rfl) ?_
   refine ip 2 4 [(20, iv (bOp .and .i64 from_.attr 2)), (21, pt b2 0)] (by kernel_rfl) ?_
   refine ix rfl (det_own_one (v := iv to.attr) ty3 rfl rfl 0 rfl rfl) ?_
   refine ip 3 0 [(25, bv (decide ((bOp .and .i64 to.attr 2) < (bOp .and .i64 from_.attr 2))))] (by kernel_rfl) ?_
   exact JI_end (armI 7 17 25 g3 Foll.nil (mk [true, true] rfl) rfl rfl rfl rfl rfl)
  refine ie ?_
  refine J_if rfl (fun h4 => ?_) (fun h4 => ?_)
  ·have h4p : ((bOp .and .i64 to.attr 1) < (bOp .and .i64 from_.attr 1)) ∨ ((bOp .and .i64 to.attr 2) < (bOp .and .i64 from_.attr 2)) := by simpa using h4
   replace hR := bt hR h4
   refine sr 5 rfl ?_
   refine ip 1 4 [(26, .slice none 0 0)] (by kernel_rfl) ?_
   refine ixc rfl (det_call (ref26_pen_c 2 3 _ rfl) rfl rfl rfl rfl rfl Foll.nil) ?_
   refine it rfl (tri_buildSl (c := cAct) (xs := ([(ref26_pen 2 3)] : List Act)) slt27 rfl rfl rfl (by kernel_rfl)) fun b5 => ?_
   have : ([(ref26_pen 2 3)] : List Act).length = 1 := rfl
   refine it rfl (tri_app1 (f := cAct) (r := VR.nil) (xs := ([] : List Act)) (ys := ([(ref26_pen 2 3)] : List Act)) (pre := [bx b2 (cSty to) 70, bx b1 (cSty from_) 70]) (post := []) apt27 (fun _ => rfl) (fun _ => rfl) rfl rfl rfl rfl rfl rfl rfl rfl rfl (at_of 0 rfl) VOk.nil (by first | omega | (simp <;> omega)) (by first | omega | (simp <;> omega))) fun ⟨r6, hr7⟩ => ?_
   have := VOk.le hr7
   have := VOk.cap hr7
   refine ip 1 0 [(5, .slice (va r6.q) ((([] : List Act) ++ ([(ref26_pen 2 3)] : List Act)).length) r6.k)] (by kernel_rfl) ?_
   refine ie ?_
   refine J_region 1 rfl ?_
   refine ip 1 0 [(6, bv true)] (by kernel_rfl) ?_
   refine JI_end ?_
   exact meet3 (([] : List Act) ++ ([(ref26_pen 2 3)] : List Act)) r6 true ⟨hR, hr7, (by first | omega | (simp <;> omega))⟩ ⟨rfl, rfl, (by first | rfl | (simp only [List.length_set]; rfl) | (simp; done) | (simp; omega)), (by first | rfl | (simp only [List.length_set]; rfl) | (simp; done) | (simp; omega)), trivial⟩ (mc [[bx b2 (cSty to) 70], [bx b1 (cSty from_) 70], vo cAct 26 r6 (([] : List Act) ++ ([(ref26_pen 2 3)] : List Act))] [true, true, true] rfl (by first | rfl | (simp only [List.length_set] <;> rfl))) Foll.nil
  ·have h4p : ¬ (((bOp .and .i64 to.attr 1) < (bOp .and .i64 from_.attr 1)) ∨ ((bOp .and .i64 to.attr 2) < (bOp .and .i64 from_.attr 2))) := by simpa using h4
   replace hR := bf hR h4
   refine J_skip ?_
   refine JQ_perm (permC [vo cAct 26 VR.nil ([] : List Act), [bx b2 (cSty to) 70], [bx b1 (cSty from_) 70]] [1, 2, 0] 3 rfl (by decide) rfl [[bx b2 (cSty to) 70], [bx b1 (cSty from_) 70], vo cAct 26 VR.nil ([] : List Act)] rfl (by first | rfl | simp)) ?_
   exact meet3 ([] : List Act) VR.nil false ⟨hR, VOk.nil, (by first | omega | (simp <;> omega))⟩ ⟨rfl, rfl, (by first | rfl | (simp only [List.length_set]; rfl) | (simp; done) | (simp; omega)), (by first | rfl | (simp only [List.length_set]; rfl) | (simp; done) | (simp; omega)), trivial⟩ (mc [[bx b2 (cSty to) 70], [bx b1 (cSty from_) 70], vo cAct 26 VR.nil ([] : List Act)] [true, true, true] rfl (by first | rfl | (simp only [List.length_set] <;> rfl))) Foll.nil
 ·intro out outr gone
  rintro ⟨hR, hokoutr, hj⟩
  replace hR := (ref26_Changes_j0.eq_1 ..).symm.trans hR
  refine J_seq ?_
  refine sr 1 rfl ?_
  refine ip 1 0 [(7, iv 4)] (by kernel_rfl) ?_
  refine ie ?_
  refine J_block ?_
  refine JL4 (fun (fu : Nat) (out1 : List Act) (outr1 : VR) (bit : Int) => ((512 : Int) - bit).toNat < fu ∧ ref26_Changes_l0 from_ to gone fu out1 bit = R ∧ VOk 6 out1.length outr1 ∧ 1 ≤ bit ∧ bit ≤ 510 ∧ out1.length ≤ bit) (fun (fu : Nat) (out1 : List Act) (outr1 : VR) (bit : Int) => [(2, pt b1 0), (3, pt b2 0), (5, .slice (va outr1.q) out1.length outr1.k), (6, bv gone), (7, iv bit)]) (fun (fu : Nat) (out1 : List Act) (outr1 : VR) (bit : Int) => (bx b2 (cSty to) 70 :: bx b1 (cSty from_) 70 :: (vo cAct 26 outr1 out1) ++ ([]))) (fun (fu : Nat) (out1 : List Act) (outr1 : VR) (bit : Int) => []) (fun (fu : Nat) (out1 : List Act) (outr1 : VR) (bit : Int) => fu) (((512 : Int) - 4).toNat + 1) out outr 4 ⟨(Nat.lt_succ_self _), hR, hokoutr, (by omega), (by first | omega | (simp <;> omega))⟩ ⟨rfl, rfl, (by first | rfl | (simp only [List.length_set]; rfl) | (simp; done) | (simp; omega)), rfl, (by first | rfl | (simp only [List.length_set]; rfl) | (simp; done) | (simp; omega)), trivial⟩ (mc [[bx b2 (cSty to) 70], [bx b1 (cSty from_) 70], vo cAct 26 outr out] [true, true, true] rfl (by first | rfl | (simp only [List.length_set] <;> rfl))) Foll.nil ?_
  rintro fu out1 outr1 bit ⟨hm8, hR, hokoutr1, hb, hn⟩
  have := VOk.le hokoutr1
  obtain ⟨fu1, rfl⟩ : ∃ m, fu = m + 1 := ⟨fu - 1, by omega⟩
  replace hR := (ref26_Changes_l0.eq_2 ..).symm.trans hR
  refine J_seq ?_
  refine sr 2 rfl ?_
  refine ip 2 0 [(31, bv (decide (bit < 256)))] (by kernel_rfl) ?_
  refine ie ?_
  refine J_if rfl (fun h9 => ?_) (fun h9 => ?_)
  ·have h9p : bit < 256 := by simpa using h9
   replace hR := bt hR h9
   refine J_skip ?_
   refine nx ?_
   refine JS2 (fun (out2 : List Act) (outr2 : VR) => ref26_Changes_j3 bit (ref26_Changes_l0 from_ to gone fu1) out2 = R ∧ VOk 6 out2.length outr2 ∧ out2.length ≤ bit + 1) (fun (out2 : List Act) (outr2 : VR) => [(2, pt b1 0), (3, pt b2 0), (5, .slice (va outr2.q) out2.length outr2.k), (6, bv gone), (7, iv bit)]) (fun (out2 : List Act) (outr2 : VR) => (bx b2 (cSty to) 70 :: bx b1 (cSty from_) 70 :: (vo cAct 26 outr2 out2) ++ ([]))) (fun (out2 : List Act) (outr2 : VR) => []) ?_ ?_
   ·refine J_block ?_
    refine sr 9 rfl ?_
    refine ip 1 8 [(34, pt b1 0)] (by kernel_rfl) ?_
    refine ix rfl (det_own_one (v := iv from_.attr) ty3 rfl rfl 1 rfl rfl) ?_
    refine ip 3 4 [(37, iv (bOp .and .i64 from_.attr bit)), (38, pt b2 0)] (by kernel_rfl) ?_
    refine ix rfl (det_own_one (v := iv to.attr) ty3 rfl rfl 0 rfl rfl) ?_
    refine ip 3 0 [(42, bv (decide ((bOp .and .i64 to.attr bit) < (bOp .and .i64 from_.attr bit))))] (by kernel_rfl) ?_
    refine ie ?_
    refine J_if rfl (fun h10 => ?_) (fun h10 => ?_)
    ·have h10p : (bOp .and .i64 to.attr bit) < (bOp .and .i64 from_.attr bit) := by simpa using h10
     replace hR := bt hR h10
     refine J_region 6 rfl ?_
     refine ip 2 4 [(43, .slice (va outr1.q) out1.length outr1.k), (44, iv bit)] (by kernel_rfl) ?_
     refine ixc rfl (det_call (ref26_pen_c 2 bit _ rfl) rfl rfl rfl rfl rfl Foll.nil) ?_
     refine it rfl (tri_buildSl (c := cAct) (xs := ([(ref26_pen 2 bit)] : List Act)) slt27 rfl rfl rfl (by kernel_rfl)) fun b11 => ?_
     have : ([(ref26_pen 2 bit)] : List Act).length = 1 := rfl
     refine it rfl (tri_app1 (f := cAct) (r := outr1) (xs := out1) (ys := ([(ref26_pen 2 bit)] : List Act)) (pre := [bx b2 (cSty to) 70, bx b1 (cSty from_) 70]) (post := []) apt27 (fun _ => rfl) (fun _ => rfl) rfl rfl rfl rfl rfl rfl rfl rfl rfl (at_of 0 rfl) hokoutr1 (by first | omega | (simp <;> omega)) (by first | omega | (simp <;> omega))) fun ⟨r12, hr13⟩ => ?_
     have := VOk.le hr13
     have := VOk.cap hr13
     refine ip 1 0 [(5, .slice (va r12.q) ((out1 ++ ([(ref26_pen 2 bit)] : List Act)).length) r12.k)] (by kernel_rfl) ?_
     refine JI_end ?_
     exact meet2 (out1 ++ ([(ref26_pen 2 bit)] : List Act)) r12 ⟨hR, hr13, (by first | omega | (simp <;> omega))⟩ ⟨rfl, rfl, (by first | rfl | (simp only [List.length_set]; rfl) | (simp; done) | (simp; omega)), rfl, rfl, trivial⟩ (mc [[bx b2 (cSty to) 70], [bx b1 (cSty from_) 70], vo cAct 26 r12 (out1 ++ ([(ref26_pen 2 bit)] : List Act))] [true, true, true] rfl (by first | rfl | (simp only [List.length_set] <;> rfl))) Foll.nil
    ·have h10p : ¬ ((bOp .and .i64 to.attr bit) < (bOp .and .i64 from_.attr bit)) := by simpa using h10
     replace hR := bf hR h10
     refine J_skip ?_
     exact meet2 out1 outr1 ⟨hR, hokoutr1, (by first | omega | (simp <;> omega))⟩ ⟨rfl, rfl, (by first | rfl | (simp only [List.length_set]; rfl) | (simp; done) | (simp; omega)), rfl, rfl, trivial⟩ (mc [[bx b2 (cSty to) 70], [bx b1 (cSty from_) 70], vo cAct 26 outr1 out1] [true, true, true] rfl (by first | rfl | (simp only [List.length_set] <;> rfl))) Foll.nil
   ·intro out2 outr2
    rintro ⟨hR, hokoutr2, hj⟩
    replace hR := (ref26_Changes_j3.eq_1 ..).symm.trans hR
    refine J_region 3 rfl ?_
    refine ip 1 2 [(32, iv bit)] (by kernel_rfl) ?_
    refine ix rfl (det_mul64 rfl rfl rfl rfl (by omega)) ?_
    refine ip 1 0 [(7, iv (2 * bit))] (by kernel_rfl) ?_
    refine JI_end ?_
    exact againL4 (z1 := (fu1 + 1)) (z2 := out1) (z3 := outr1) (z4 := bit) fu1 out2 outr2 (2 * bit) ⟨(by omega), hR, hokoutr2, (by first | omega | (rw [wrap_in (by simp [IntKind.min, IntKind.signed, IntKind.bits]; omega) (by simp [IntKind.max, IntKind.signed, IntKind.bits]; omega)]; omega)), (by first | omega | (simp <;> omega))⟩ (Nat.lt_succ_self _) ⟨rfl, rfl, (by first | rfl | (simp only [List.length_set]; rfl) | (simp; done) | (simp; omega)), rfl, (by first | rfl | (simp only [List.length_set]; rfl) | (simp; done) | (simp; omega)), trivial⟩ (mc [[bx b2 (cSty to) 70], [bx b1 (cSty from_) 70], vo cAct 26 outr2 out2] [true, true, true] rfl (by first | rfl | (simp only [List.length_set] <;> rfl))) Foll.nil
  ·have h9p : ¬ (bit < 256) := by simpa using h9
   replace hR := bf hR h9
   refine J_exit ?_
   refine nx ?_
   refine J_seq ?_
   refine sr 1 rfl ?_
   refine ip 1 0 [(8, iv 1)] (by kernel_rfl) ?_
   refine ie ?_
   refine J_block ?_
   refine JL4 (fun (fu2 : Nat) (out3 : List Act) (outr3 : VR) (bit1 : Int) => ((512 : Int) - bit1).toNat < fu2 ∧ ref26_Changes_l1 from_ to gone fu2 out3 bit1 = R ∧ VOk 6 out3.length outr3 ∧ 1 ≤ bit1 ∧ bit1 ≤ 510 ∧ out3.length ≤ 512 + bit1) (fun (fu2 : Nat) (out3 : List Act) (outr3 : VR) (bit1 : Int) => [(2, pt b1 0), (3, pt b2 0), (5, .slice (va outr3.q) out3.length outr3.k), (6, bv gone), (8, iv bit1)]) (fun (fu2 : Nat) (out3 : List Act) (outr3 : VR) (bit1 : Int) => (bx b2 (cSty to) 70 :: bx b1 (cSty from_) 70 :: (vo cAct 26 outr3 out3) ++ ([]))) (fun (fu2 : Nat) (out3 : List Act) (outr3 : VR) (bit1 : Int) => []) (fun (fu2 : Nat) (out3 : List Act) (outr3 : VR) (bit1 : Int) => fu2) (((512 : Int) - 1).toNat + 1) out1 outr1 1 ⟨(Nat.lt_succ_self _), hR, hokoutr1, (by omega), (by first | omega | (simp <;> omega))⟩ ⟨rfl, rfl, (by first | rfl | (simp only [List.length_set]; rfl) | (simp; done) | (simp; omega)), rfl, (by first | rfl | (simp only [List.length_set]; rfl) | (simp; done) | (simp; omega)), trivial⟩ (mc [[bx b2 (cSty to) 70], [bx b1 (cSty from_) 70], vo cAct 26 outr1 out1] [true, true, true] rfl (by first | rfl | (simp only [List.length_set] <;> rfl))) Foll.nil ?_
   rintro fu2 out3 outr3 bit1 ⟨hm14, hR, hokoutr3, hb, hn⟩
   have := VOk.le hokoutr3
   obtain ⟨fu3, rfl⟩ : ∃ m, fu2 = m + 1 := ⟨fu2 - 1, by omega⟩
   replace hR := (ref26_Changes_l1.eq_2 ..).symm.trans hR
   refine J_seq ?_
   refine sr 2 rfl ?_
   refine ip 2 0 [(49, bv (decide (bit1 < 256)))] (by kernel_rfl) ?_
   refine ie ?_
   refine J_if rfl (fun h15 => ?_) (fun h15 => ?_)
   ·have h15p : bit1 < 256 := by simpa using h15
    replace hR := bt hR h15
    refine J_skip ?_
    refine nx ?_
    refine JS2 (fun (out4 : List Act) (outr4 : VR) => ref26_Changes_j11 bit1 (ref26_Changes_l1 from_ to gone fu3) out4 = R ∧ VOk 6 out4.length outr4 ∧ out4.length ≤ 513 + bit1) (fun (out4 : List Act) (outr4 : VR) => [(2, pt b1 0), (3, pt b2 0), (5, .slice (va outr4.q) out4.length outr4.k), (6, bv gone), (8, iv bit1)]) (fun (out4 : List Act) (outr4 : VR) => (bx b2 (cSty to) 70 :: bx b1 (cSty from_) 70 :: (vo cAct 26 outr4 out4) ++ ([]))) (fun (out4 : List Act) (outr4 : VR) => []) ?_ ?_
    ·refine J_block ?_
     refine sr 6 rfl ?_
     refine ip 1 5 [(52, pt b1 0)] (by kernel_rfl) ?_
     refine ix rfl (det_own_one (v := iv from_.attr) ty3 rfl rfl 1 rfl rfl) ?_
     refine ip 4 0 [(9, bv (decide ((0 : Int) < (bOp .and .i64 from_.attr bit1))))] (by kernel_rfl) ?_
     refine ie ?_
     refine JS1 (fun (there : Bool) => ref26_Changes_j12 to out3 bit1 (ref26_Changes_l1 from_ to gone fu3) there = R) (fun (there : Bool) => [(2, pt b1 0), (3, pt b2 0), (5, .slice (va outr3.q) out3.length outr3.k), (6, bv gone), (8, iv bit1), (9, bv there)]) (fun (there : Bool) => (bx b2 (cSty to) 70 :: bx b1 (cSty from_) 70 :: (vo cAct 26 outr3 out3) ++ ([]))) (fun (there : Bool) => []) ?_ ?_
     ·refine sr 5 rfl ?_
      refine ip 2 3 [(58, bv gone)] (by kernel_rfl) ?_
      refine iand 3 0 58 61 (decide (bit1 < 4)) rfl (by kernel_rfl) (fun g16 => ?_) ?_
      ·refine ip 3 0 [(61, bv (decide (bit1 < 4)))] (by kernel_rfl) ?_
       exact JI_end (armI 2 58 61 g16 Foll.nil (mc [[bx b2 (cSty to) 70], [bx b1 (cSty from_) 70], vo cAct 26 outr3 out3] [true, true, true] rfl (by first | rfl | (simp only [List.length_set] <;> rfl))) rfl rfl rfl rfl rfl)
      refine ie ?_
      refine J_if rfl (fun h17 => ?_) (fun h17 => ?_)
      ·have h17p := h17; try simp at h17p
       replace hR := bt hR h17
       refine J_region 1 rfl ?_
       refine ip 1 0 [(9, bv false)] (by kernel_rfl) ?_
       refine JI_end ?_
       exact meet1 false hR ⟨rfl, rfl, rfl, rfl, rfl, (by first | rfl | (simp only [List.length_set]; rfl) | (simp; done) | (simp; omega)), trivial⟩ (mc [[bx b2 (cSty to) 70], [bx b1 (cSty from_) 70], vo cAct 26 outr3 out3] [true, true, true] rfl (by first | rfl | (simp only [List.length_set] <;> rfl))) Foll.nil
      ·have h17p := h17; try simp at h17p
       replace hR := bf hR h17
       refine J_skip ?_
       exact meet1 (decide ((0 : Int) < (bOp .and .i64 from_.attr bit1))) hR ⟨rfl, rfl, rfl, rfl, rfl, (by first | rfl | (simp only [List.length_set]; rfl) | (simp; done) | (simp; omega)), trivial⟩ (mc [[bx b2 (cSty to) 70], [bx b1 (cSty from_) 70], vo cAct 26 outr3 out3] [true, true, true] rfl (by first | rfl | (simp only [List.length_set] <;> rfl))) Foll.nil
     ·intro there
      rintro hR
      replace hR := (ref26_Changes_j12.eq_1 ..).symm.trans hR
      refine sr 9 rfl ?_
      refine ip 1 8 [(62, pt b2 0)] (by kernel_rfl) ?_
      refine ix rfl (det_own_one (v := iv to.attr) ty3 rfl rfl 0 rfl rfl) ?_
      refine ip 4 3 [(67, bv (decide ((0 : Int) < (bOp .and .i64 to.attr bit1))))] (by kernel_rfl) ?_
      refine iand 3 0 67 70 (!there) rfl (by kernel_rfl) (fun g18 => ?_) ?_
      ·have g18p : (0 : Int) < (bOp .and .i64 to.attr bit1) := by simpa using g18
       refine ip 3 0 [(70, bv (!there))] (by kernel_rfl) ?_
       exact JI_end (armI 2 67 70 g18 Foll.nil (mc [[bx b2 (cSty to) 70], [bx b1 (cSty from_) 70], vo cAct 26 outr3 out3] [true, true, true] rfl (by first | rfl | (simp only [List.length_set] <;> rfl))) rfl rfl rfl rfl rfl)
      refine ie ?_
      refine J_if rfl (fun h19 => ?_) (fun h19 => ?_)
      ·have h19p := h19; try simp at h19p
       replace hR := bt hR h19
       refine J_region 6 rfl ?_
       refine ip 2 4 [(71, .slice (va outr3.q) out3.length outr3.k), (72, iv bit1)] (by kernel_rfl) ?_
       refine ixc rfl (det_call (ref26_pen_c 1 bit1 _ rfl) rfl rfl rfl rfl rfl Foll.nil) ?_
       refine it rfl (tri_buildSl (c := cAct) (xs := ([(ref26_pen 1 bit1)] : List Act)) slt27 rfl rfl rfl (by kernel_rfl)) fun b20 => ?_
       have : ([(ref26_pen 1 bit1)] : List Act).length = 1 := rfl
       refine it rfl (tri_app1 (f := cAct) (r := outr3) (xs := out3) (ys := ([(ref26_pen 1 bit1)] : List Act)) (pre := [bx b2 (cSty to) 70, bx b1 (cSty from_) 70]) (post := []) apt27 (fun _ => rfl) (fun _ => rfl) rfl rfl rfl rfl rfl rfl rfl rfl rfl (at_of 0 rfl) hokoutr3 (by first | omega | (simp <;> omega)) (by first | omega | (simp <;> omega))) fun ⟨r21, hr22⟩ => ?_
       have := VOk.le hr22
       have := VOk.cap hr22
       refine ip 1 0 [(5, .slice (va r21.q) ((out3 ++ ([(ref26_pen 1 bit1)] : List Act)).length) r21.k)] (by kernel_rfl) ?_
       refine JI_end ?_
       exact meet2 (out3 ++ ([(ref26_pen 1 bit1)] : List Act)) r21 ⟨hR, hr22, (by first | omega | (simp <;> omega))⟩ ⟨rfl, rfl, (by first | rfl | (simp only [List.length_set]; rfl) | (simp; done) | (simp; omega)), rfl, rfl, trivial⟩ (mc [[bx b2 (cSty to) 70], [bx b1 (cSty from_) 70], vo cAct 26 r21 (out3 ++ ([(ref26_pen 1 bit1)] : List Act))] [true, true, true] rfl (by first | rfl | (simp only [List.length_set] <;> rfl))) Foll.nil
      ·have h19p := h19; try simp at h19p
       replace hR := bf hR h19
       refine J_skip ?_
       exact meet2 out3 outr3 ⟨hR, hokoutr3, (by first | omega | (simp <;> omega))⟩ ⟨rfl, rfl, (by first | rfl | (simp only [List.length_set]; rfl) | (simp; done) | (simp; omega)), rfl, rfl, trivial⟩ (mc [[bx b2 (cSty to) 70], [bx b1 (cSty from_) 70], vo cAct 26 outr3 out3] [true, true, true] rfl (by first | rfl | (simp only [List.length_set] <;> rfl))) Foll.nil
    ·intro out4 outr4
     rintro ⟨hR, hokoutr4, hj⟩
     replace hR := (ref26_Changes_j11.eq_1 ..).symm.trans hR
     refine J_region 3 rfl ?_
     refine ip 1 2 [(50, iv bit1)] (by kernel_rfl) ?_
     refine ix rfl (det_mul64 rfl rfl rfl rfl (by omega)) ?_
     refine ip 1 0 [(8, iv (2 * bit1))] (by kernel_rfl) ?_
     refine JI_end ?_
     exact againL4 (z1 := (fu3 + 1)) (z2 := out3) (z3 := outr3) (z4 := bit1) fu3 out4 outr4 (2 * bit1) ⟨(by omega), hR, hokoutr4, (by first | omega | (rw [wrap_in (by simp [IntKind.min, IntKind.signed, IntKind.bits]; omega) (by simp [IntKind.max, IntKind.signed, IntKind.bits]; omega)]; omega)), (by first | omega | (simp <;> omega))⟩ (Nat.lt_succ_self _) ⟨rfl, rfl, (by first | rfl | (simp only [List.length_set]; rfl) | (simp; done) | (simp; omega)), rfl, (by first | rfl | (simp only [List.length_set]; rfl) | (simp; done) | (simp; omega)), trivial⟩ (mc [[bx b2 (cSty to) 70], [bx b1 (cSty from_) 70], vo cAct 26 outr4 out4] [true, true, true] rfl (by first | rfl | (simp only [List.length_set] <;> rfl))) Foll.nil
   ·have h15p : ¬ (bit1 < 256) := by simpa using h15
    replace hR := bf hR h15
    refine J_exit ?_
    refine nx ?_
    refine JS2 (fun (out5 : List Act) (outr5 : VR) => ref26_Changes_j13 from_ to out5 = R ∧ VOk 6 out5.length outr5 ∧ out5.length ≤ 1100) (fun (out5 : List Act) (outr5 : VR) => [(2, pt b1 0), (3, pt b2 0), (5, .slice (va outr5.q) out5.length outr5.k)]) (fun (out5 : List Act) (outr5 : VR) => (bx b2 (cSty to) 70 :: bx b1 (cSty from_) 70 :: (vo cAct 26 outr5 out5) ++ ([]))) (fun (out5 : List Act) (outr5 : VR) => []) ?_ ?_
    ·refine sr 5 rfl ?_
     refine ip 1 4 [(76, pt b1 1)] (by kernel_rfl) ?_
     refine ix rfl (det_own_one (v := iv from_.under) ty3 rfl rfl 1 rfl rfl) ?_
     refine ip 1 2 [(78, pt b2 1)] (by kernel_rfl) ?_
     refine ix rfl (det_own_one (v := iv to.under) ty3 rfl rfl 0 rfl rfl) ?_
     refine ip 1 0 [(80, bv (!decide (from_.under = to.under)))] (by kernel_rfl) ?_
     refine ie ?_
     refine J_if rfl (fun h23 => ?_) (fun h23 => ?_)
     ·have h23p : ¬ from_.under = to.under := by simpa using h23
      replace hR := bt hR h23
      refine J_region 7 rfl ?_
      refine ip 2 5 [(81, .slice (va outr3.q) out3.length outr3.k), (82, pt b2 1)] (by kernel_rfl) ?_
      refine ix rfl (det_own_one (v := iv to.under) ty3 rfl rfl 0 rfl rfl) ?_
      refine ixc rfl (det_call (ref26_pen_c 3 to.under _ rfl) rfl rfl rfl rfl rfl Foll.nil) ?_
      refine it rfl (tri_buildSl (c := cAct) (xs := ([(ref26_pen 3 to.under)] : List Act)) slt27 rfl rfl rfl (by kernel_rfl)) fun b24 => ?_
      have : ([(ref26_pen 3 to.under)] : List Act).length = 1 := rfl
      refine it rfl (tri_app1 (f := cAct) (r := outr3) (xs := out3) (ys := ([(ref26_pen 3 to.under)] : List Act)) (pre := [bx b2 (cSty to) 70, bx b1 (cSty from_) 70]) (post := []) apt27 (fun _ => rfl) (fun _ => rfl) rfl rfl rfl rfl rfl rfl rfl rfl rfl (at_of 0 rfl) hokoutr3 (by first | omega | (simp <;> omega)) (by first | omega | (simp <;> omega))) fun ⟨r25, hr26⟩ => ?_
      have := VOk.le hr26
      have := VOk.cap hr26
      refine ip 1 0 [(5, .slice (va r25.q) ((out3 ++ ([(ref26_pen 3 to.under)] : List Act)).length) r25.k)] (by kernel_rfl) ?_
      refine JI_end ?_
      exact meet2 (out3 ++ ([(ref26_pen 3 to.under)] : List Act)) r25 ⟨hR, hr26, (by first | omega | (simp <;> omega))⟩ ⟨rfl, rfl, (by first | rfl | (simp only [List.length_set]; rfl) | (simp; done) | (simp; omega)), trivial⟩ (mc [[bx b2 (cSty to) 70], [bx b1 (cSty from_) 70], vo cAct 26 r25 (out3 ++ ([(ref26_pen 3 to.under)] : List Act))] [true, true, true] rfl (by first | rfl | (simp only [List.length_set] <;> rfl))) Foll.nil
     ·have h23p : ¬ (¬ from_.under = to.under) := by simpa using h23
      replace hR := bf hR h23
      refine J_skip ?_
      exact meet2 out3 outr3 ⟨hR, hokoutr3, (by first | omega | (simp <;> omega))⟩ ⟨rfl, rfl, (by first | rfl | (simp only [List.length_set]; rfl) | (simp; done) | (simp; omega)), trivial⟩ (mc [[bx b2 (cSty to) 70], [bx b1 (cSty from_) 70], vo cAct 26 outr3 out3] [true, true, true] rfl (by first | rfl | (simp only [List.length_set] <;> rfl))) Foll.nil
    ·intro out5 outr5
     rintro ⟨hR, hokoutr5, hj⟩
     replace hR := (ref26_Changes_j13.eq_1 ..).symm.trans hR
     refine JS2 (fun (out6 : List Act) (outr6 : VR) => ref26_Changes_j14 from_ to out6 = R ∧ VOk 6 out6.length outr6 ∧ out6.length ≤ 1101) (fun (out6 : List Act) (outr6 : VR) => [(2, pt b1 0), (3, pt b2 0), (5, .slice (va outr6.q) out6.length outr6.k)]) (fun (out6 : List Act) (outr6 : VR) => (bx b2 (cSty to) 70 :: bx b1 (cSty from_) 70 :: (vo cAct 26 outr6 out6) ++ ([]))) (fun (out6 : List Act) (outr6 : VR) => []) ?_ ?_
     ·refine sr 5 rfl ?_
      refine ip 1 4 [(87, pt b1 2)] (by kernel_rfl) ?_
      refine ix rfl (det_own_agg (us := cCol from_.fore) ty24 rfl rfl 1 rfl rfl rfl) ?_
      refine ip 1 2 [(89, pt b2 2)] (by kernel_rfl) ?_
      refine ix rfl (det_own_agg (us := cCol to.fore) ty24 rfl rfl 0 rfl rfl rfl) ?_
      refine ix rfl (det_nes (a := from_.fore) (b := to.fore) eqt24 rfl rfl rfl) ?_
      refine ie ?_
      refine J_if rfl (fun h27 => ?_) (fun h27 => ?_)
      ·have h27p : ¬ from_.fore = to.fore := by simpa using h27
       replace hR := bt hR h27
       refine J_region 7 rfl ?_
       refine ip 2 5 [(92, .slice (va outr5.q) out5.length outr5.k), (93, pt b2 2)] (by kernel_rfl) ?_
       refine ix rfl (det_own_agg (us := cCol to.fore) ty24 rfl rfl 0 rfl rfl rfl) ?_
       refine ixc rfl (det_call (ref26_tint_c 4 to.fore _ rfl) rfl rfl rfl rfl rfl Foll.nil) ?_
       refine it rfl (tri_buildSl (c := cAct) (xs := ([(ref26_tint 4 to.fore)] : List Act)) slt27 rfl rfl rfl (by kernel_rfl)) fun b28 => ?_
       have : ([(ref26_tint 4 to.fore)] : List Act).length = 1 := rfl
       refine it rfl (tri_app1 (f := cAct) (r := outr5) (xs := out5) (ys := ([(ref26_tint 4 to.fore)] : List Act)) (pre := [bx b2 (cSty to) 70, bx b1 (cSty from_) 70]) (post := []) apt27 (fun _ => rfl) (fun _ => rfl) rfl rfl rfl rfl rfl rfl rfl rfl rfl (at_of 0 rfl) hokoutr5 (by first | omega | (simp <;> omega)) (by first | omega | (simp <;> omega))) fun ⟨r29, hr30⟩ => ?_
       have := VOk.le hr30
       have := VOk.cap hr30
       refine ip 1 0 [(5, .slice (va r29.q) ((out5 ++ ([(ref26_tint 4 to.fore)] : List Act)).length) r29.k)] (by kernel_rfl) ?_
       refine JI_end ?_
       exact meet2 (out5 ++ ([(ref26_tint 4 to.fore)] : List Act)) r29 ⟨hR, hr30, (by first | omega | (simp <;> omega))⟩ ⟨rfl, rfl, (by first | rfl | (simp only [List.length_set]; rfl) | (simp; done) | (simp; omega)), trivial⟩ (mc [[bx b2 (cSty to) 70], [bx b1 (cSty from_) 70], vo cAct 26 r29 (out5 ++ ([(ref26_tint 4 to.fore)] : List Act))] [true, true, true] rfl (by first | rfl | (simp only [List.length_set] <;> rfl))) Foll.nil
      ·have h27p : ¬ (¬ from_.fore = to.fore) := by simpa using h27
       replace hR := bf hR h27
       refine J_skip ?_
       exact meet2 out5 outr5 ⟨hR, hokoutr5, (by first | omega | (simp <;> omega))⟩ ⟨rfl, rfl, (by first | rfl | (simp only [List.length_set]; rfl) | (simp; done) | (simp; omega)), trivial⟩ (mc [[bx b2 (cSty to) 70], [bx b1 (cSty from_) 70], vo cAct 26 outr5 out5] [true, true, true] rfl (by first | rfl | (simp only [List.length_set] <;> rfl))) Foll.nil
     ·intro out6 outr6
      rintro ⟨hR, hokoutr6, hj⟩
      replace hR := (ref26_Changes_j14.eq_1 ..).symm.trans hR
      refine JS2 (fun (out7 : List Act) (outr7 : VR) => ref26_Changes_j15 from_ to out7 = R ∧ VOk 6 out7.length outr7 ∧ out7.length ≤ 1102) (fun (out7 : List Act) (outr7 : VR) => [(2, pt b1 0), (3, pt b2 0), (5, .slice (va outr7.q) out7.length outr7.k)]) (fun (out7 : List Act) (outr7 : VR) => (bx b2 (cSty to) 70 :: bx b1 (cSty from_) 70 :: (vo cAct 26 outr7 out7) ++ ([]))) (fun (out7 : List Act) (outr7 : VR) => []) ?_ ?_
      ·refine sr 5 rfl ?_
       refine ip 1 4 [(98, pt b1 4)] (by kernel_rfl) ?_
       refine ix rfl (det_own_agg (us := cCol from_.back) ty24 rfl rfl 1 rfl rfl rfl) ?_
       refine ip 1 2 [(100, pt b2 4)] (by kernel_rfl) ?_
       refine ix rfl (det_own_agg (us := cCol to.back) ty24 rfl rfl 0 rfl rfl rfl) ?_
       refine ix rfl (det_nes (a := from_.back) (b := to.back) eqt24 rfl rfl rfl) ?_
       refine ie ?_
       refine J_if rfl (fun h31 => ?_) (fun h31 => ?_)
       ·have h31p : ¬ from_.back = to.back := by simpa using h31
        replace hR := bt hR h31
        refine J_region 7 rfl ?_
        refine ip 2 5 [(103, .slice (va outr6.q) out6.length outr6.k), (104, pt b2 4)] (by kernel_rfl) ?_
        refine ix rfl (det_own_agg (us := cCol to.back) ty24 rfl rfl 0 rfl rfl rfl) ?_
        refine ixc rfl (det_call (ref26_tint_c 5 to.back _ rfl) rfl rfl rfl rfl rfl Foll.nil) ?_
        refine it rfl (tri_buildSl (c := cAct) (xs := ([(ref26_tint 5 to.back)] : List Act)) slt27 rfl rfl rfl (by kernel_rfl)) fun b32 => ?_
        have : ([(ref26_tint 5 to.back)] : List Act).length = 1 := rfl
        refine it rfl (tri_app1 (f := cAct) (r := outr6) (xs := out6) (ys := ([(ref26_tint 5 to.back)] : List Act)) (pre := [bx b2 (cSty to) 70, bx b1 (cSty from_) 70]) (post := []) apt27 (fun _ => rfl) (fun _ => rfl) rfl rfl rfl rfl rfl rfl rfl rfl rfl (at_of 0 rfl) hokoutr6 (by first | omega | (simp <;> omega)) (by first | omega | (simp <;> omega))) fun ⟨r33, hr34⟩ => ?_
        have := VOk.le hr34
        have := VOk.cap hr34
        refine ip 1 0 [(5, .slice (va r33.q) ((out6 ++ ([(ref26_tint 5 to.back)] : List Act)).length) r33.k)] (by kernel_rfl) ?_
        refine JI_end ?_
        exact meet2 (out6 ++ ([(ref26_tint 5 to.back)] : List Act)) r33 ⟨hR, hr34, (by first | omega | (simp <;> omega))⟩ ⟨rfl, rfl, (by first | rfl | (simp only [List.length_set]; rfl) | (simp; done) | (simp; omega)), trivial⟩ (mc [[bx b2 (cSty to) 70], [bx b1 (cSty from_) 70], vo cAct 26 r33 (out6 ++ ([(ref26_tint 5 to.back)] : List Act))] [true, true, true] rfl (by first | rfl | (simp only [List.length_set] <;> rfl))) Foll.nil
       ·have h31p : ¬ (¬ from_.back = to.back) := by simpa using h31
        replace hR := bf hR h31
        refine J_skip ?_
        exact meet2 out6 outr6 ⟨hR, hokoutr6, (by first | omega | (simp <;> omega))⟩ ⟨rfl, rfl, (by first | rfl | (simp only [List.length_set]; rfl) | (simp; done) | (simp; omega)), trivial⟩ (mc [[bx b2 (cSty to) 70], [bx b1 (cSty from_) 70], vo cAct 26 outr6 out6] [true, true, true] rfl (by first | rfl | (simp only [List.length_set] <;> rfl))) Foll.nil
      ·intro out7 outr7
       rintro ⟨hR, hokoutr7, hj⟩
       replace hR := (ref26_Changes_j15.eq_1 ..).symm.trans hR
       refine J_seq ?_
       refine sr 5 rfl ?_
       refine ip 1 4 [(109, pt b1 6)] (by kernel_rfl) ?_
       refine ix rfl (det_own_agg (us := cCol from_.line) ty24 rfl rfl 1 rfl rfl rfl) ?_
       refine ip 1 2 [(111, pt b2 6)] (by kernel_rfl) ?_
       refine ix rfl (det_own_agg (us := cCol to.line) ty24 rfl rfl 0 rfl rfl rfl) ?_
       refine ix rfl (det_nes (a := from_.line) (b := to.line) eqt24 rfl rfl rfl) ?_
       refine ie ?_
       refine J_if rfl (fun h35 => ?_) (fun h35 => ?_)
       ·have h35p : ¬ from_.line = to.line := by simpa using h35
        replace hR := bt hR h35
        refine J_region 7 rfl ?_
        refine ip 2 5 [(114, .slice (va outr7.q) out7.length outr7.k), (115, pt b2 6)] (by kernel_rfl) ?_
        refine ix rfl (det_own_agg (us := cCol to.line) ty24 rfl rfl 0 rfl rfl rfl) ?_
        refine ixc rfl (det_call (ref26_tint_c 6 to.line _ rfl) rfl rfl rfl rfl rfl Foll.nil) ?_
        refine it rfl (tri_buildSl (c := cAct) (xs := ([(ref26_tint 6 to.line)] : List Act)) slt27 rfl rfl rfl (by kernel_rfl)) fun b36 => ?_
        have : ([(ref26_tint 6 to.line)] : List Act).length = 1 := rfl
        refine it rfl (tri_app1 (f := cAct) (r := outr7) (xs := out7) (ys := ([(ref26_tint 6 to.line)] : List Act)) (pre := [bx b2 (cSty to) 70, bx b1 (cSty from_) 70]) (post := []) apt27 (fun _ => rfl) (fun _ => rfl) rfl rfl rfl rfl rfl rfl rfl rfl rfl (at_of 0 rfl) hokoutr7 (by first | omega | (simp <;> omega)) (by first | omega | (simp <;> omega))) fun ⟨r37, hr38⟩ => ?_
        have := VOk.le hr38
        have := VOk.cap hr38
        refine ip 1 0 [(5, .slice (va r37.q) ((out7 ++ ([(ref26_tint 6 to.line)] : List Act)).length) r37.k)] (by kernel_rfl) ?_
        refine JI_end ?_
        refine nx ?_
        refine sr 2 rfl ?_
        refine ip 2 0 [(4, .slice (va r37.q) ((out7 ++ ([(ref26_tint 6 to.line)] : List Act)).length) r37.k)] (by kernel_rfl) ?_
        refine ie ?_
        refine J_ret ?_
        subst hR
        exact ends_ret rfl ⟨hr, hD⟩ (by simp [hD]) (res1 rfl (resV_tmp rfl)) ⟨r37, hr38⟩ (by rfl) (mc [[bx b2 (cSty to) 70], [bx b1 (cSty from_) 70], vo cAct 26 r37 (out7 ++ ([(ref26_tint 6 to.line)] : List Act))] [false, false, true] rfl (by first | rfl | (simp only [List.length_set] <;> rfl))) Foll.nil
       ·have h35p : ¬ (¬ from_.line = to.line) := by simpa using h35
        replace hR := bf hR h35
        refine J_skip ?_
        refine nx ?_
        refine sr 2 rfl ?_
        refine ip 2 0 [(4, .slice (va outr7.q) out7.length outr7.k)] (by kernel_rfl) ?_
        refine ie ?_
        refine J_ret ?_
        subst hR
        exact ends_ret rfl ⟨hr, hD⟩ (by simp [hD]) (res1 rfl (resV_tmp rfl)) ⟨outr7, hokoutr7⟩ (by rfl) (mc [[bx b2 (cSty to) 70], [bx b1 (cSty from_) 70], vo cAct 26 outr7 out7] [false, false, true] rfl (by first | rfl | (simp only [List.length_set] <;> rfl))) Foll.nil

def ref26_Anew (to : Sty) : List Act :=
 (bindV (ref26_Changes Sty.zero to) fun (y0 : List Act) => (([(ref26_pen 0 0)] : List Act) ++ y0))

theorem ref26_Anew_eq (t : Sty) : ref26_Anew t = pA 0 0 :: rchg Sty.zero t := by unfold ref26_Anew bindV; rw [ref26_Changes_eq]; rfl
theorem ref26_Anew_len (t : Sty) : (ref26_Anew t).length ≤ 20 := by rw [ref26_Anew_eq]; have := rchg_len Sty.zero t; simp only [List.length_cons]; omega
theorem ref26_Anew_pen (t : Sty) : ∀ a ∈ ref26_Anew t, penA a := by
 rw [ref26_Anew_eq]; intro a ha
 rcases List.mem_cons.1 ha with rfl | ha
 ·exact ⟨rfl, rfl⟩
 ·exact rchg_pen _ _ a ha

theorem ref26_Anew_c (to : Sty) (R : List Act) (hR : ref26_Anew to = R) : Con Tryz.prog 49 [ag (cSty to)] [] [] ({t : Option Addr × Nat // R.length ≤ t.2 ∧ R.length ≤ 9223372036854775807}) (fun x => .slice x.1.1 R.length x.1.2) (fun x => []) (fun x => [sl cAct x.1.1 R]) := by
 refine con_of_J (n := 11) Tryz.func49 rfl (by kernel_rfl) rfl rfl [(0, ag (cSty to))] ⟨rfl, trivial⟩ fun X hX hr hD => ?_
 replace hR := (ref26_Anew.eq_1 ..).symm.trans hR
 refine sr 2 rfl ?_
 refine it rfl (tri_box (cs := cSty to) rfl rfl rfl) fun b1 => ?_
 refine ip 1 0 [] (by kernel_rfl) ?_
 refine ie ?_
 refine sr 3 rfl ?_
 refine ixc rfl (det_call (ref26_pen_c 0 0 _ rfl) rfl rfl rfl rfl rfl Foll.nil) ?_
 refine it rfl (tri_buildSl (c := cAct) (xs := ([(ref26_pen 0 0)] : List Act)) slt27 rfl rfl rfl (by kernel_rfl)) fun b2 => ?_
 have : ([(ref26_pen 0 0)] : List Act).length = 1 := rfl
 refine ip 1 0 [(3, .slice (some ⟨b2, 0, none⟩) 1 1)] (by kernel_rfl) ?_
 refine ie ?_
 refine sr 6 rfl ?_
 refine ip 1 5 [(6, .slice (some ⟨b2, 0, none⟩) 1 1)] (by kernel_rfl) ?_
 refine ix rfl (det_build (cs := cSty Sty.zero) rfl rfl (by kernel_rfl)) ?_
 refine ix rfl (det_own_agg (us := cSty to) ty70 rfl rfl 0 rfl rfl rfl) ?_
 have hQ := bindVx hR; clear hR; obtain ⟨y0, hy0, hR⟩ := hQ
 refine it rfl (tri_callP (L2 := [bx b1 (cSty to) 70]) (ref26_Changes_c Sty.zero to y0 hy0) rfl rfl rfl rfl rfl Foll.nil (List.Perm.refl _) (fun ⟨r3, hk4⟩ => (bx b1 (cSty to) 70 :: (vo cAct 26 r3 y0) ++ ([]))) (fun ⟨r3, hk4⟩ => permC [vo cAct 26 r3 y0, [bx b1 (cSty to) 70]] [1, 0] 2 rfl (by decide) (by first | rfl | simp only [List.flatten_cons, List.flatten_nil, List.append_nil, List.cons_append, List.nil_append, List.append_assoc]) [[bx b1 (cSty to) 70], vo cAct 26 r3 y0] rfl (by first | rfl | simp only [List.flatten_cons, List.flatten_nil, List.append_nil, List.cons_append, List.nil_append, List.append_assoc]))) fun ⟨r3, hk4⟩ => ?_
 have := VOk.le hk4
 have := VOk.cap hk4
 have := ref26_Changes_len Sty.zero to; try rw [hy0] at this
 have := ref26_Changes_pen Sty.zero to; try rw [hy0] at this
 refine JI_seal [bx b1 (cSty to) 70] [] (T := 26) (c := cAct) (r := r3) (xs := y0) hk4 (by first | rfl | simp only [List.cons_append, List.append_assoc, List.nil_append, List.append_nil]) ?_
 refine it rfl (tri_appq (f := cAct) (xs := ([(ref26_pen 0 0)] : List Act)) (ys := y0) apt27 (fun _ => rfl) (fun _ => rfl) rfl rfl rfl rfl rfl rfl (by omega) (by omega) (by rfl) (at_of 1 rfl) (at_of 0 rfl) (by first | omega | (simp <;> omega)) (by first | omega | (simp <;> omega))) fun ⟨⟨q5, k6⟩, hq7⟩ => ?_
 refine ip 1 0 [(2, .slice q5 ((([(ref26_pen 0 0)] : List Act) ++ y0).length) k6)] (by kernel_rfl) ?_
 refine ie ?_
 refine J_ret ?_
 subst hR
 exact ends_ret rfl ⟨hr, hD⟩ (by simp [hD]) (res1 rfl (resV_tmp rfl)) ⟨(q5, k6), (by first | omega | (simp <;> omega) | (dsimp only; omega) | decide), (by first | omega | (simp <;> omega) | (dsimp only; omega) | decide)⟩ (by rfl) (mk [false] rfl) (Foll.con1 (at_of 0 rfl) Foll.nil)

def ref26_Same_l0 (b : List Act) : List Act → Nat → Bool
 | [], i => true
 | hd_l0 :: tl_l0, i => (bif (!(decide (hd_l0 = (b.getD i Act.zero)))) then false else ref26_Same_l0 b tl_l0 (i + 1))
def ref26_Same (a : List Act) (b : List Act) : Bool :=
 (bif (!decide ((a.length : Int) = (b.length : Int))) then false else ref26_Same_l0 b a 0)

theorem ref26_Same_c (a : List Act) (b : List Act) (aq : Option Addr) (ak : Nat) (bq : Option Addr) (bk : Nat) (hla : a.length ≤ 9223372036854775807) (hca : a.length ≤ ak) (hlb : b.length ≤ 9223372036854775807) (hcb : b.length ≤ bk) (R : Bool) (hR : ref26_Same a b = R) : ConV Tryz.prog 29 [.slice aq a.length ak, .slice bq b.length bk] [sl cAct aq a, sl cAct bq b] (bv R) := by
 refine con_of_J (n := 26) Tryz.func29 rfl (by kernel_rfl) rfl rfl [(0, .slice aq a.length ak), (1, .slice bq b.length bk)] ⟨rfl, rfl, trivial⟩ fun X hX hr hD => ?_
 replace hR := (ref26_Same.eq_1 ..).symm.trans hR
 refine sr 1 rfl ?_
 refine ip 1 0 [] (by kernel_rfl) ?_
 refine ie ?_
 refine J_seq ?_
 refine sr 5 rfl ?_
 refine ip 5 0 [(10, bv (!decide ((a.length : Int) = (b.length : Int))))] (by kernel_rfl) ?_
 refine ie ?_
 refine J_if rfl (fun h1 => ?_) (fun h1 => ?_)
 ·have h1p : ¬ (a.length : Int) = (b.length : Int) := by simpa using h1
  replace hR := bt hR h1
  refine sr 1 rfl ?_
  refine ip 1 0 [(4, bv false)] (by kernel_rfl) ?_
  refine ie ?_
  refine J_ret ?_
  subst hR
  exact ends_ret rfl ⟨hr, hD⟩ (by simp [hD]) (res1 rfl (resV_tmp rfl)) () (by rfl) (mk [] rfl) Foll.nil
 ·have h1p : ¬ (¬ (a.length : Int) = (b.length : Int)) := by simpa using h1
  replace hR := bf hR h1
  refine J_skip ?_
  refine nx ?_
  refine J_seq ?_
  refine sr 1 rfl ?_
  refine ip 1 0 [(5, iv 0)] (by kernel_rfl) ?_
  refine ie ?_
  refine J_block ?_
  refine JL1 (fun (i : Nat) => i ≤ a.length ∧ ref26_Same_l0 b (a.drop i) i = R) (fun (i : Nat) => [(0, .slice aq a.length ak), (1, .slice bq b.length bk), (5, iv (i : Int))]) (fun (i : Nat) => []) (fun (i : Nat) => [sl cAct aq a, sl cAct bq b]) (fun (i : Nat) => a.length - i) 0 ⟨(by omega), hR⟩ ⟨rfl, rfl, (by first | rfl | (simp only [List.length_set]; rfl) | (simp; done) | (simp; omega)), trivial⟩ (mk [] rfl) Foll.refl ?_
  rintro i ⟨hm2, hR⟩
  refine J_seq ?_
  refine sr 4 rfl ?_
  refine ip 4 0 [(14, bv (decide ((i : Int) < (a.length : Int))))] (by kernel_rfl) ?_
  refine ie ?_
  refine J_if rfl (fun h3 => ?_) (fun h3 => ?_)
  ·have h3p : (i : Int) < (a.length : Int) := by simpa using h3
   rw [dropc Act.zero (show i < a.length by omega)] at hR; replace hR := (ref26_Same_l0.eq_2 ..).symm.trans hR
   refine J_skip ?_
   refine nx ?_
   refine J_seq ?_
   refine J_block ?_
   refine sd 9 rfl (by kernel_rfl) rfl ?_
   refine dp 2 7 [(17, .slice aq a.length ak), (18, iv (i : Int))] (by kernel_rfl) ?_
   refine JD_base 0 rfl (by omega) fun a4 hq5 => ?_
   refine dd rfl (det_ixq slt27 rfl rfl hq5 rfl i rfl (by omega)) ?_
   refine dd rfl (det_ld_agg (us := cAct (a.getD i Act.zero)) ty26 rfl rfl (at_slq (c := cAct) (sz := 6) hq5 (fun _ => rfl) 0 rfl (gd Act.zero (by omega))) rfl) ?_
   refine dp 2 3 [(21, .slice bq b.length bk), (22, iv (i : Int))] (by kernel_rfl) ?_
   refine JD_base 1 rfl (by omega) fun a6 hq7 => ?_
   refine dd rfl (det_ixq slt27 rfl rfl hq7 rfl i rfl (by omega)) ?_
   refine dd rfl (det_ld_agg (us := cAct (b.getD i Act.zero)) ty26 rfl rfl (at_slq (c := cAct) (sz := 6) hq7 (fun _ => rfl) 1 rfl (gd Act.zero (by omega))) rfl) ?_
   refine dd rfl (det_nes (a := (a.getD i Act.zero)) (b := (b.getD i Act.zero)) eqt26 rfl rfl rfl) ?_
   refine de ?_
   refine J_if rfl (fun h8 => ?_) (fun h8 => ?_)
   ·have h8p : ¬ (a.getD i Act.zero) = (b.getD i Act.zero) := by simpa using h8
    replace hR := bt hR h8
    refine sr 1 rfl ?_
    refine ip 1 0 [(4, bv false)] (by kernel_rfl) ?_
    refine ie ?_
    refine J_ret ?_
    subst hR
    exact ends_ret rfl ⟨hr, hD⟩ (by simp [hD]) (res1 rfl (resV_tmp rfl)) () (by rfl) (mk [] rfl) Foll.nil
   ·have h8p : ¬ (¬ (a.getD i Act.zero) = (b.getD i Act.zero)) := by simpa using h8
    replace hR := bf hR h8
    refine J_skip ?_
    refine nx ?_
    refine J_region 3 rfl ?_
    refine ip 1 2 [(15, iv (i : Int))] (by kernel_rfl) ?_
    refine ix rfl (det_add64 rfl rfl rfl rfl (by omega)) ?_
    refine ip 1 0 [(5, iv ((i : Int) + 1))] (by kernel_rfl) ?_
    refine JI_end ?_
    exact againL1 (z1 := i) (i + 1) ⟨(by omega), hR⟩ (by (try dsimp only); omega) ⟨rfl, rfl, (by first | rfl | (simp only [List.length_set]; rfl) | (simp; done) | (simp; omega)), trivial⟩ (mk [] rfl) Foll.refl
  ·have h3p : ¬ ((i : Int) < (a.length : Int)) := by simpa using h3
   rw [dropn h3p] at hR; replace hR := (ref26_Same_l0.eq_1 ..).symm.trans hR
   refine J_exit ?_
   refine nx ?_
   refine sr 1 rfl ?_
   refine ip 1 0 [(4, bv true)] (by kernel_rfl) ?_
   refine ie ?_
   refine J_ret ?_
   subst hR
   exact ends_ret rfl ⟨hr, hD⟩ (by simp [hD]) (res1 rfl (resV_tmp rfl)) () (by rfl) (mk [] rfl) Foll.nil

def ref03_Check (c : Col) : Int :=
 (bif (decide (c.kind = 0)) then (bif (decide (c.n = 0)) then 0 else 130) else (bif (decide (c.kind = 1)) then (bif ((decide ((0 : Int) ≤ c.n)) && (decide (c.n ≤ 255))) then 0 else 130) else (bif (decide (c.kind = 2)) then (bif ((decide ((0 : Int) ≤ c.n)) && (decide (c.n ≤ 16777215))) then 0 else 130) else 130)))

theorem ref03_Check_c (c : Col) (R : Int) (hR : ref03_Check c = R) : ConV Tryz.prog 132 [ag (cCol c)] [] (iv R) := by
 refine con_of_J (n := 30) Tryz.func132 rfl (by kernel_rfl) rfl rfl [(0, ag (cCol c))] ⟨rfl, trivial⟩ fun X hX hr hD => ?_
 replace hR := (ref03_Check.eq_1 ..).symm.trans hR
 refine sr 2 rfl ?_
 refine it rfl (tri_box (cs := cCol c) rfl rfl rfl) fun b1 => ?_
 refine ip 1 0 [] (by kernel_rfl) ?_
 refine ie ?_
 refine J_seq ?_
 refine sr 2 rfl ?_
 refine ip 1 1 [(3, pt b1 0)] (by kernel_rfl) ?_
 refine ix rfl (det_own_one (v := iv c.kind) ty3 rfl rfl 0 rfl rfl) ?_
 refine ie ?_
 refine J_block ?_
 refine sr 2 rfl ?_
 refine ip 2 0 [(5, bv (decide (c.kind = 0)))] (by kernel_rfl) ?_
 refine ie ?_
 refine J_if rfl (fun h2 => ?_) (fun h2 => ?_)
 ·have h2p : c.kind = 0 := by simpa using h2
  replace hR := bt hR h2
  refine sr 3 rfl ?_
  refine ip 1 2 [(7, pt b1 1)] (by kernel_rfl) ?_
  refine ix rfl (det_own_one (v := iv c.n) ty3 rfl rfl 0 rfl rfl) ?_
  refine ip 1 0 [(9, bv (decide (c.n = 0)))] (by kernel_rfl) ?_
  refine ie ?_
  refine J_if rfl (fun h3 => ?_) (fun h3 => ?_)
  ·have h3p : c.n = 0 := by simpa using h3
   replace hR := bt hR h3
   refine sr 1 rfl ?_
   refine ip 1 0 [(2, iv 0)] (by kernel_rfl) ?_
   refine ie ?_
   refine J_ret ?_
   subst hR
   exact ends_ret rfl ⟨hr, hD⟩ (by simp [hD]) (res1 rfl (resV_tmp rfl)) () (by rfl) (mk [false] rfl) Foll.nil
  ·have h3p : ¬ (c.n = 0) := by simpa using h3
   replace hR := bf hR h3
   refine J_skip ?_
   refine nx ?_
   refine sr 1 rfl ?_
   refine ip 1 0 [(2, iv 130)] (by kernel_rfl) ?_
   refine ie ?_
   refine J_ret ?_
   subst hR
   exact ends_ret rfl ⟨hr, hD⟩ (by simp [hD]) (res1 rfl (resV_tmp rfl)) () (by rfl) (mk [false] rfl) Foll.nil
 ·have h2p : ¬ (c.kind = 0) := by simpa using h2
  replace hR := bf hR h2
  refine sr 2 rfl ?_
  refine ip 2 0 [(10, bv (decide (c.kind = 1)))] (by kernel_rfl) ?_
  refine ie ?_
  refine J_if rfl (fun h4 => ?_) (fun h4 => ?_)
  ·have h4p : c.kind = 1 := by simpa using h4
   replace hR := bt hR h4
   refine sr 8 rfl ?_
   refine ip 1 7 [(12, pt b1 1)] (by kernel_rfl) ?_
   refine ix rfl (det_own_one (v := iv c.n) ty3 rfl rfl 0 rfl rfl) ?_
   refine ip 2 4 [(15, bv (decide ((0 : Int) ≤ c.n)))] (by kernel_rfl) ?_
   refine iand 4 0 15 19 (decide (c.n ≤ 255)) rfl (by kernel_rfl) (fun g5 => ?_) ?_
   ·have g5p : (0 : Int) ≤ c.n := by simpa using g5
    refine ip 1 3 [(16, pt b1 1)] (by kernel_rfl) ?_
    refine ix rfl (det_own_one (v := iv c.n) ty3 rfl rfl 0 rfl rfl) ?_
    refine ip 2 0 [(19, bv (decide (c.n ≤ 255)))] (by kernel_rfl) ?_
    exact JI_end (armI 4 15 19 g5 Foll.nil (mk [true] rfl) rfl rfl rfl rfl rfl)
   refine ie ?_
   refine J_if rfl (fun h6 => ?_) (fun h6 => ?_)
   ·have h6p : ((0 : Int) ≤ c.n) ∧ (c.n ≤ 255) := by simpa using h6
    replace hR := bt hR h6
    refine sr 1 rfl ?_
    refine ip 1 0 [(2, iv 0)] (by kernel_rfl) ?_
    refine ie ?_
    refine J_ret ?_
    subst hR
    exact ends_ret rfl ⟨hr, hD⟩ (by simp [hD]) (res1 rfl (resV_tmp rfl)) () (by rfl) (mk [false] rfl) Foll.nil
   ·have h6p : ¬ (((0 : Int) ≤ c.n) ∧ (c.n ≤ 255)) := by simpa using h6
    replace hR := bf hR h6
    refine J_skip ?_
    refine nx ?_
    refine sr 1 rfl ?_
    refine ip 1 0 [(2, iv 130)] (by kernel_rfl) ?_
    refine ie ?_
    refine J_ret ?_
    subst hR
    exact ends_ret rfl ⟨hr, hD⟩ (by simp [hD]) (res1 rfl (resV_tmp rfl)) () (by rfl) (mk [false] rfl) Foll.nil
  ·have h4p : ¬ (c.kind = 1) := by simpa using h4
   replace hR := bf hR h4
   refine sr 2 rfl ?_
   refine ip 2 0 [(20, bv (decide (c.kind = 2)))] (by kernel_rfl) ?_
   refine ie ?_
   refine J_if rfl (fun h7 => ?_) (fun h7 => ?_)
   ·have h7p : c.kind = 2 := by simpa using h7
    replace hR := bt hR h7
    refine sr 8 rfl ?_
    refine ip 1 7 [(22, pt b1 1)] (by kernel_rfl) ?_
    refine ix rfl (det_own_one (v := iv c.n) ty3 rfl rfl 0 rfl rfl) ?_
    refine ip 2 4 [(25, bv (decide ((0 : Int) ≤ c.n)))] (by kernel_rfl) ?_
    refine iand 4 0 25 29 (decide (c.n ≤ 16777215)) rfl (by kernel_rfl) (fun g8 => ?_) ?_
    ·have g8p : (0 : Int) ≤ c.n := by simpa using g8
     refine ip 1 3 [(26, pt b1 1)] (by kernel_rfl) ?_
     refine ix rfl (det_own_one (v := iv c.n) ty3 rfl rfl 0 rfl rfl) ?_
     refine ip 2 0 [(29, bv (decide (c.n ≤ 16777215)))] (by kernel_rfl) ?_
     exact JI_end (armI 4 25 29 g8 Foll.nil (mk [true] rfl) rfl rfl rfl rfl rfl)
    refine ie ?_
    refine J_if rfl (fun h9 => ?_) (fun h9 => ?_)
    ·have h9p : ((0 : Int) ≤ c.n) ∧ (c.n ≤ 16777215) := by simpa using h9
     replace hR := bt hR h9
     refine sr 1 rfl ?_
     refine ip 1 0 [(2, iv 0)] (by kernel_rfl) ?_
     refine ie ?_
     refine J_ret ?_
     subst hR
     exact ends_ret rfl ⟨hr, hD⟩ (by simp [hD]) (res1 rfl (resV_tmp rfl)) () (by rfl) (mk [false] rfl) Foll.nil
    ·have h9p : ¬ (((0 : Int) ≤ c.n) ∧ (c.n ≤ 16777215)) := by simpa using h9
     replace hR := bf hR h9
     refine J_skip ?_
     refine nx ?_
     refine sr 1 rfl ?_
     refine ip 1 0 [(2, iv 130)] (by kernel_rfl) ?_
     refine ie ?_
     refine J_ret ?_
     subst hR
     exact ends_ret rfl ⟨hr, hD⟩ (by simp [hD]) (res1 rfl (resV_tmp rfl)) () (by rfl) (mk [false] rfl) Foll.nil
   ·have h7p : ¬ (c.kind = 2) := by simpa using h7
    replace hR := bf hR h7
    refine J_skip ?_
    refine nx ?_
    refine sr 1 rfl ?_
    refine ip 1 0 [(2, iv 130)] (by kernel_rfl) ?_
    refine ie ?_
    refine J_ret ?_
    subst hR
    exact ends_ret rfl ⟨hr, hD⟩ (by simp [hD]) (res1 rfl (resV_tmp rfl)) () (by rfl) (mk [false] rfl) Foll.nil

def ref04_Check (s : Sty) : Int :=
 (bif ((((decide (s.attr < 0)) || (decide ((255 : Int) < s.attr))) || (decide (s.under < 0))) || (decide ((5 : Int) < s.under))) then 140 else (bif (!decide ((ref03_Check s.fore) = 0)) then (ref03_Check s.fore) else (bif (!decide ((ref03_Check s.back) = 0)) then (ref03_Check s.back) else (bif (!decide ((ref03_Check s.line) = 0)) then (ref03_Check s.line) else 0))))

theorem ref04_Check_c (s : Sty) (R : Int) (hR : ref04_Check s = R) : ConV Tryz.prog 78 [ag (cSty s)] [] (iv R) := by
 refine con_of_J (n := 40) Tryz.func78 rfl (by kernel_rfl) rfl rfl [(0, ag (cSty s))] ⟨rfl, trivial⟩ fun X hX hr hD => ?_
 replace hR := (ref04_Check.eq_1 ..).symm.trans hR
 refine sr 2 rfl ?_
 refine it rfl (tri_box (cs := cSty s) rfl rfl rfl) fun b1 => ?_
 refine ip 1 0 [] (by kernel_rfl) ?_
 refine ie ?_
 refine J_seq ?_
 refine sr 18 rfl ?_
 refine ip 1 17 [(6, pt b1 0)] (by kernel_rfl) ?_
 refine ix rfl (det_own_one (v := iv s.attr) ty3 rfl rfl 0 rfl rfl) ?_
 refine ip 2 14 [(9, bv (decide (s.attr < 0)))] (by kernel_rfl) ?_
 refine ior 4 10 9 13 (decide ((255 : Int) < s.attr)) rfl (by kernel_rfl) (fun g2 => ?_) ?_
 ·have g2p : ¬ (s.attr < 0) := by simpa using g2
  refine ip 1 3 [(10, pt b1 0)] (by kernel_rfl) ?_
  refine ix rfl (det_own_one (v := iv s.attr) ty3 rfl rfl 0 rfl rfl) ?_
  refine ip 2 0 [(13, bv (decide ((255 : Int) < s.attr)))] (by kernel_rfl) ?_
  exact JI_end (armI 4 9 13 g2 Foll.nil (mk [true] rfl) rfl rfl rfl rfl rfl)
 refine ip 1 9 [(14, bv ((decide (s.attr < 0)) || (decide ((255 : Int) < s.attr))))] (by kernel_rfl) ?_
 refine ior 4 5 14 18 (decide (s.under < 0)) rfl (by kernel_rfl) (fun g3 => ?_) ?_
 ·have g3p : ¬ ((s.attr < 0) ∨ ((255 : Int) < s.attr)) := by simpa using g3
  refine ip 1 3 [(15, pt b1 1)] (by kernel_rfl) ?_
  refine ix rfl (det_own_one (v := iv s.under) ty3 rfl rfl 0 rfl rfl) ?_
  refine ip 2 0 [(18, bv (decide (s.under < 0)))] (by kernel_rfl) ?_
  exact JI_end (armI 4 14 18 g3 Foll.nil (mk [true] rfl) rfl rfl rfl rfl rfl)
 refine ip 1 4 [(19, bv (((decide (s.attr < 0)) || (decide ((255 : Int) < s.attr))) || (decide (s.under < 0))))] (by kernel_rfl) ?_
 refine ior 4 0 19 23 (decide ((5 : Int) < s.under)) rfl (by kernel_rfl) (fun g4 => ?_) ?_
 ·have g4p : ¬ (((s.attr < 0) ∨ ((255 : Int) < s.attr)) ∨ (s.under < 0)) := by simpa using g4
  refine ip 1 3 [(20, pt b1 1)] (by kernel_rfl) ?_
  refine ix rfl (det_own_one (v := iv s.under) ty3 rfl rfl 0 rfl rfl) ?_
  refine ip 2 0 [(23, bv (decide ((5 : Int) < s.under)))] (by kernel_rfl) ?_
  exact JI_end (armI 4 19 23 g4 Foll.nil (mk [true] rfl) rfl rfl rfl rfl rfl)
 refine ie ?_
 refine J_if rfl (fun h5 => ?_) (fun h5 => ?_)
 ·have h5p : (((s.attr < 0) ∨ ((255 : Int) < s.attr)) ∨ (s.under < 0)) ∨ ((5 : Int) < s.under) := by simpa using h5
  replace hR := bt hR h5
  refine sr 1 rfl ?_
  refine ip 1 0 [(2, iv 140)] (by kernel_rfl) ?_
  refine ie ?_
  refine J_ret ?_
  subst hR
  exact ends_ret rfl ⟨hr, hD⟩ (by simp [hD]) (res1 rfl (resV_tmp rfl)) () (by rfl) (mk [false] rfl) Foll.nil
 ·have h5p : ¬ ((((s.attr < 0) ∨ ((255 : Int) < s.attr)) ∨ (s.under < 0)) ∨ ((5 : Int) < s.under)) := by simpa using h5
  replace hR := bf hR h5
  refine J_skip ?_
  refine nx ?_
  refine J_seq ?_
  refine sr 8 rfl ?_
  refine ip 1 7 [(24, pt b1 2)] (by kernel_rfl) ?_
  refine ix rfl (det_own_agg (us := cCol s.fore) ty24 rfl rfl 0 rfl rfl rfl) ?_
  refine ip 1 5 [(26, pt b1 4)] (by kernel_rfl) ?_
  refine ix rfl (det_own_agg (us := cCol s.back) ty24 rfl rfl 0 rfl rfl rfl) ?_
  refine ip 1 3 [(28, pt b1 6)] (by kernel_rfl) ?_
  refine ix rfl (det_own_agg (us := cCol s.line) ty24 rfl rfl 0 rfl rfl rfl) ?_
  refine ix rfl (det_build (cs := [iv s.fore.kind, iv s.fore.n, iv s.back.kind, iv s.back.n, iv s.line.kind, iv s.line.n]) rfl rfl (by kernel_rfl)) ?_
  refine ip 1 0 [(31, iv 0)] (by kernel_rfl) ?_
  refine ie ?_
  refine J_block ?_
  refine J_rounds 5 ?_
  refine JR_succ ?_
  refine sr 1 rfl ?_
  refine ip 1 0 [(32, bv true)] (by kernel_rfl) ?_
  refine ie ?_
  refine J_seq ?_
  refine J_yes rfl ?_
  refine J_skip ?_
  refine nx ?_
  refine J_seq ?_
  refine J_block ?_
  refine sr 3 rfl ?_
  refine ix rfl (det_index (v := ag [iv s.fore.kind, iv s.fore.n]) (us := [iv s.fore.kind, iv s.fore.n]) Tryz.underlying143 ty24 rfl rfl rfl 0 rfl (by decide) rfl rfl rfl) ?_
  refine it rfl (tri_alloc (cs := cCol Col.zero) zero24 rfl) fun b6 => ?_
  refine it rfl (tri_store (us := [iv s.fore.kind, iv s.fore.n]) (cs' := cCol s.fore) ty24 rfl rfl rfl 0 rfl rfl rfl rfl rfl rfl) fun _ => ?_
  refine ie ?_
  refine sr 3 rfl ?_
  refine ix rfl (det_own_agg (us := cCol s.fore) ty24 rfl rfl 0 rfl rfl rfl) ?_
  refine ixc rfl (det_call (ref03_Check_c s.fore _ rfl) rfl rfl rfl rfl rfl Foll.nil) ?_
  refine ip 1 0 [(5, iv (ref03_Check s.fore))] (by kernel_rfl) ?_
  refine ie ?_
  refine sr 2 rfl ?_
  refine ip 2 0 [(37, bv (!decide ((ref03_Check s.fore) = 0)))] (by kernel_rfl) ?_
  refine ie ?_
  refine J_if rfl (fun h7 => ?_) (fun h7 => ?_)
  ·have h7p : ¬ (ref03_Check s.fore) = 0 := by simpa using h7
   replace hR := bt hR h7
   refine sr 2 rfl ?_
   refine ip 2 0 [(2, iv (ref03_Check s.fore))] (by kernel_rfl) ?_
   refine ie ?_
   refine J_ret ?_
   subst hR
   exact ends_ret rfl ⟨hr, hD⟩ (by simp [hD]) (res1 rfl (resV_tmp rfl)) () (by rfl) (mk [false, false] rfl) Foll.nil
  ·have h7p : ¬ (¬ (ref03_Check s.fore) = 0) := by simpa using h7
   replace hR := bf hR h7
   refine J_skip ?_
   refine nx ?_
   refine J_region 2 rfl ?_
   refine ix rfl (det_add64 (c := 1) rfl rfl rfl rfl (by decide)) ?_
   refine ip 1 0 [(31, iv 1)] (by kernel_rfl) ?_
   refine JI_end ?_
   refine JR_succ ?_
   refine sr 1 rfl ?_
   refine ip 1 0 [(32, bv true)] (by kernel_rfl) ?_
   refine ie ?_
   refine J_seq ?_
   refine J_yes rfl ?_
   refine J_skip ?_
   refine nx ?_
   refine J_seq ?_
   refine J_block ?_
   refine sr 3 rfl ?_
   refine ix rfl (det_index (v := ag [iv s.back.kind, iv s.back.n]) (us := [iv s.back.kind, iv s.back.n]) Tryz.underlying143 ty24 rfl rfl rfl 1 rfl (by decide) rfl rfl rfl) ?_
   refine it rfl (tri_alloc (cs := cCol Col.zero) zero24 rfl) fun b8 => ?_
   refine it rfl (tri_store (us := [iv s.back.kind, iv s.back.n]) (cs' := cCol s.back) ty24 rfl rfl rfl 0 rfl rfl rfl rfl rfl rfl) fun _ => ?_
   refine ie ?_
   refine sr 3 rfl ?_
   refine ix rfl (det_own_agg (us := cCol s.back) ty24 rfl rfl 0 rfl rfl rfl) ?_
   refine ixc rfl (det_call (ref03_Check_c s.back _ rfl) rfl rfl rfl rfl rfl Foll.nil) ?_
   refine ip 1 0 [(5, iv (ref03_Check s.back))] (by kernel_rfl) ?_
   refine ie ?_
   refine sr 2 rfl ?_
   refine ip 2 0 [(37, bv (!decide ((ref03_Check s.back) = 0)))] (by kernel_rfl) ?_
   refine ie ?_
   refine J_if rfl (fun h9 => ?_) (fun h9 => ?_)
   ·have h9p : ¬ (ref03_Check s.back) = 0 := by simpa using h9
    replace hR := bt hR h9
    refine sr 2 rfl ?_
    refine ip 2 0 [(2, iv (ref03_Check s.back))] (by kernel_rfl) ?_
    refine ie ?_
    refine J_ret ?_
    subst hR
    exact ends_ret rfl ⟨hr, hD⟩ (by simp [hD]) (res1 rfl (resV_tmp rfl)) () (by rfl) (mk [false, false, false] rfl) Foll.nil
   ·have h9p : ¬ (¬ (ref03_Check s.back) = 0) := by simpa using h9
    replace hR := bf hR h9
    refine J_skip ?_
    refine nx ?_
    refine J_region 2 rfl ?_
    refine ix rfl (det_add64 (c := 2) rfl rfl rfl rfl (by decide)) ?_
    refine ip 1 0 [(31, iv 2)] (by kernel_rfl) ?_
    refine JI_end ?_
    refine JR_succ ?_
    refine sr 1 rfl ?_
    refine ip 1 0 [(32, bv true)] (by kernel_rfl) ?_
    refine ie ?_
    refine J_seq ?_
    refine J_yes rfl ?_
    refine J_skip ?_
    refine nx ?_
    refine J_seq ?_
    refine J_block ?_
    refine sr 3 rfl ?_
    refine ix rfl (det_index (v := ag [iv s.line.kind, iv s.line.n]) (us := [iv s.line.kind, iv s.line.n]) Tryz.underlying143 ty24 rfl rfl rfl 2 rfl (by decide) rfl rfl rfl) ?_
    refine it rfl (tri_alloc (cs := cCol Col.zero) zero24 rfl) fun b10 => ?_
    refine it rfl (tri_store (us := [iv s.line.kind, iv s.line.n]) (cs' := cCol s.line) ty24 rfl rfl rfl 0 rfl rfl rfl rfl rfl rfl) fun _ => ?_
    refine ie ?_
    refine sr 3 rfl ?_
    refine ix rfl (det_own_agg (us := cCol s.line) ty24 rfl rfl 0 rfl rfl rfl) ?_
    refine ixc rfl (det_call (ref03_Check_c s.line _ rfl) rfl rfl rfl rfl rfl Foll.nil) ?_
    refine ip 1 0 [(5, iv (ref03_Check s.line))] (by kernel_rfl) ?_
    refine ie ?_
    refine sr 2 rfl ?_
    refine ip 2 0 [(37, bv (!decide ((ref03_Check s.line) = 0)))] (by kernel_rfl) ?_
    refine ie ?_
    refine J_if rfl (fun h11 => ?_) (fun h11 => ?_)
    ·have h11p : ¬ (ref03_Check s.line) = 0 := by simpa using h11
     replace hR := bt hR h11
     refine sr 2 rfl ?_
     refine ip 2 0 [(2, iv (ref03_Check s.line))] (by kernel_rfl) ?_
     refine ie ?_
     refine J_ret ?_
     subst hR
     exact ends_ret rfl ⟨hr, hD⟩ (by simp [hD]) (res1 rfl (resV_tmp rfl)) () (by rfl) (mk [false, false, false, false] rfl) Foll.nil
    ·have h11p : ¬ (¬ (ref03_Check s.line) = 0) := by simpa using h11
     replace hR := bf hR h11
     refine J_skip ?_
     refine nx ?_
     refine J_region 2 rfl ?_
     refine ix rfl (det_add64 (c := 3) rfl rfl rfl rfl (by decide)) ?_
     refine ip 1 0 [(31, iv 3)] (by kernel_rfl) ?_
     refine JI_end ?_
     refine JR_succ ?_
     refine sr 1 rfl ?_
     refine ip 1 0 [(32, bv false)] (by kernel_rfl) ?_
     refine ie ?_
     refine J_seq ?_
     refine J_no rfl ?_
     refine J_exit ?_
     refine nx ?_
     refine sr 1 rfl ?_
     refine ip 1 0 [(2, iv 0)] (by kernel_rfl) ?_
     refine ie ?_
     refine J_ret ?_
     subst hR
     exact ends_ret rfl ⟨hr, hD⟩ (by simp [hD]) (res1 rfl (resV_tmp rfl)) () (by rfl) (mk [false, false, false, false] rfl) Foll.nil

def ref04_Right (s : Sty) : Bool :=
 (decide ((ref04_Check s) = 0))

theorem ref04_Right_c (s : Sty) (R : Bool) (hR : ref04_Right s = R) : ConV Tryz.prog 42 [ag (cSty s)] [] (bv R) := by
 refine con_of_J (n := 6) Tryz.func42 rfl (by kernel_rfl) rfl rfl [(0, ag (cSty s))] ⟨rfl, trivial⟩ fun X hX hr hD => ?_
 replace hR := (ref04_Right.eq_1 ..).symm.trans hR
 refine sr 2 rfl ?_
 refine it rfl (tri_box (cs := cSty s) rfl rfl rfl) fun b1 => ?_
 refine ip 1 0 [] (by kernel_rfl) ?_
 refine ie ?_
 refine sr 4 rfl ?_
 refine ix rfl (det_own_agg (us := cSty s) ty70 rfl rfl 0 rfl rfl rfl) ?_
 refine ixc rfl (det_call (ref04_Check_c s _ rfl) rfl rfl rfl rfl rfl Foll.nil) ?_
 refine ip 2 0 [(2, bv (decide ((ref04_Check s) = 0)))] (by kernel_rfl) ?_
 refine ie ?_
 refine J_ret ?_
 subst hR
 exact ends_ret rfl ⟨hr, hD⟩ (by simp [hD]) (res1 rfl (resV_tmp rfl)) () (by rfl) (mk [false] rfl) Foll.nil

end Go.Proofs.YtinkdfnpmoljfaaGreatDoor

