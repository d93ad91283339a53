import Derived.Test.YtinkdfnpmoljfaaGreatDoorD2
import Derived.Test.YtinkdfnpmoljfaaGreatDoorFenX
import Derived.Test.YtinkdfnpmoljfaaGreatDoorProg
import Derived.Test.YtinkdfnpmoljfaaGreatDoorT4a
import Derived.Test.YtinkdfnpmoljfaaGreatDoorT4b
import Derived.Test.YtinkdfnpmoljfaaGreatDoorT5
import Derived.Test.YtinkdfnpmoljfaaGreatDoorT6
import Derived.Test.YtinkdfnpmoljfaaGreatDoorT7
import Derived.Test.YtinkdfnpmoljfaaGreatDoorT8
import Derived.Test.YtinkdfnpmoljfaaGreatDoorT9
import Derived.Test.YtinkdfnpmoljfaaGreatDoorT10
set_option linter.unusedVariables false
set_option linter.unusedSimpArgs false
set_option linter.unnecessarySimpa false
set_option maxRecDepth 100000
namespace Go.Proofs.YtinkdfnpmoljfaaGreatDoor
open Go Go.Fen

def ref28_Is (s : Shf) (rows : Int) : Bool :=
 (bif ((((((decide (rows < 1)) || (decide ((40 : Int) < rows))) || (decide (s.top < 0))) || (decide (s.bottom < s.top))) || (decide (rows ≤ s.bottom))) || (decide (s.amt = 0))) then false else ((decide (s.amt ≤ (s.bottom - s.top))) && (decide ((-(s.bottom - s.top)) ≤ s.amt))))

theorem ref28_Is_ok {s : Shf} {rows : Int} (h : ref28_Is s rows = true) : (1 ≤ rows ∧ rows ≤ 40) ∧ (0 ≤ s.top ∧ s.top ≤ s.bottom ∧ s.bottom < rows) ∧ s.amt ≠ 0 ∧ s.top - s.bottom ≤ s.amt ∧ s.amt ≤ s.bottom - s.top := by
 unfold ref28_Is at h
 generalize hc : ((((((decide (rows < 1)) || (decide ((40 : Int) < rows))) || (decide (s.top < 0))) || (decide (s.bottom < s.top))) || (decide (rows ≤ s.bottom))) || (decide (s.amt = 0))) = c at h
 cases c with
 | true => simp at h
 | false =>
  simp only [Bool.or_eq_false_iff, decide_eq_false_iff_not] at hc
  simp only [cond_false, Bool.and_eq_true, decide_eq_true_eq] at h
  omega

theorem ref28_Is_c (s : Shf) (rows : Int) (R : Bool) (hR : ref28_Is s rows = R) : ConV Tryz.prog 26 [ag (cShf s), iv rows] [] (bv R) := by
 refine con_of_J (n := 51) Tryz.func26 rfl (by kernel_rfl) rfl rfl [(0, ag (cShf s)), (1, iv rows)] ⟨rfl, rfl, trivial⟩ fun X hX hr hD => ?_
 replace hR := (ref28_Is.eq_1 ..).symm.trans hR
 refine sr 2 rfl ?_
 refine it rfl (tri_box (cs := cShf s) rfl rfl rfl) fun b1 => ?_
 refine ip 1 0 [] (by kernel_rfl) ?_
 refine ie ?_
 refine J_seq ?_
 refine sr 29 rfl ?_
 refine ip 3 26 [(8, bv (decide (rows < 1)))] (by kernel_rfl) ?_
 refine ior 3 23 8 11 (decide ((40 : Int) < rows)) rfl (by kernel_rfl) (fun g2 => ?_) ?_
 ·have g2p : ¬ (rows < 1) := by simpa using g2
  refine ip 3 0 [(11, bv (decide ((40 : Int) < rows)))] (by kernel_rfl) ?_
  exact JI_end (armI 2 8 11 g2 Foll.nil (mk [true] rfl) rfl rfl rfl rfl rfl)
 refine ip 1 22 [(12, bv ((decide (rows < 1)) || (decide ((40 : Int) < rows))))] (by kernel_rfl) ?_
 refine ior 4 18 12 16 (decide (s.top < 0)) rfl (by kernel_rfl) (fun g3 => ?_) ?_
 ·have g3p : ¬ ((rows < 1) ∨ ((40 : Int) < rows)) := by simpa using g3
  refine ip 1 3 [(13, pt b1 0)] (by kernel_rfl) ?_
  refine ix rfl (det_own_one (v := iv s.top) ty3 rfl rfl 0 rfl rfl) ?_
  refine ip 2 0 [(16, bv (decide (s.top < 0)))] (by kernel_rfl) ?_
  exact JI_end (armI 4 12 16 g3 Foll.nil (mk [true] rfl) rfl rfl rfl rfl rfl)
 refine ip 1 17 [(17, bv (((decide (rows < 1)) || (decide ((40 : Int) < rows))) || (decide (s.top < 0))))] (by kernel_rfl) ?_
 refine ior 6 11 17 23 (decide (s.bottom < s.top)) rfl (by kernel_rfl) (fun g4 => ?_) ?_
 ·have g4p : ¬ (((rows < 1) ∨ ((40 : Int) < rows)) ∨ (s.top < 0)) := by simpa using g4
  refine ip 1 5 [(18, pt b1 1)] (by kernel_rfl) ?_
  refine ix rfl (det_own_one (v := iv s.bottom) ty3 rfl rfl 0 rfl rfl) ?_
  refine ip 1 3 [(20, pt b1 0)] (by kernel_rfl) ?_
  refine ix rfl (det_own_one (v := iv s.top) ty3 rfl rfl 0 rfl rfl) ?_
  refine ip 2 0 [(23, bv (decide (s.bottom < s.top)))] (by kernel_rfl) ?_
  exact JI_end (armI 6 17 23 g4 Foll.nil (mk [true] rfl) rfl rfl rfl rfl rfl)
 refine ip 1 10 [(24, bv ((((decide (rows < 1)) || (decide ((40 : Int) < rows))) || (decide (s.top < 0))) || (decide (s.bottom < s.top))))] (by kernel_rfl) ?_
 refine ior 5 5 24 29 (decide (rows ≤ s.bottom)) rfl (by kernel_rfl) (fun g5 => ?_) ?_
 ·have g5p : ¬ ((((rows < 1) ∨ ((40 : Int) < rows)) ∨ (s.top < 0)) ∨ (s.bottom < s.top)) := by simpa using g5
  refine ip 1 4 [(25, pt b1 1)] (by kernel_rfl) ?_
  refine ix rfl (det_own_one (v := iv s.bottom) ty3 rfl rfl 0 rfl rfl) ?_
  refine ip 3 0 [(29, bv (decide (rows ≤ s.bottom)))] (by kernel_rfl) ?_
  exact JI_end (armI 4 24 29 g5 Foll.nil (mk [true] rfl) rfl rfl rfl rfl rfl)
 refine ip 1 4 [(30, bv (((((decide (rows < 1)) || (decide ((40 : Int) < rows))) || (decide (s.top < 0))) || (decide (s.bottom < s.top))) || (decide (rows ≤ s.bottom))))] (by kernel_rfl) ?_
 refine ior 4 0 30 34 (decide (s.amt = 0)) rfl (by kernel_rfl) (fun g6 => ?_) ?_
 ·have g6p : ¬ (((((rows < 1) ∨ ((40 : Int) < rows)) ∨ (s.top < 0)) ∨ (s.bottom < s.top)) ∨ (rows ≤ s.bottom)) := by simpa using g6
  refine ip 1 3 [(31, pt b1 2)] (by kernel_rfl) ?_
  refine ix rfl (det_own_one (v := iv s.amt) ty3 rfl rfl 0 rfl rfl) ?_
  refine ip 2 0 [(34, bv (decide (s.amt = 0)))] (by kernel_rfl) ?_
  exact JI_end (armI 4 30 34 g6 Foll.nil (mk [true] rfl) rfl rfl rfl rfl rfl)
 refine ie ?_
 refine J_if rfl (fun h7 => ?_) (fun h7 => ?_)
 ·have h7p : (((((rows < 1) ∨ ((40 : Int) < rows)) ∨ (s.top < 0)) ∨ (s.bottom < s.top)) ∨ (rows ≤ s.bottom)) ∨ (s.amt = 0) := by simpa using h7
  replace hR := bt hR h7
  refine sr 1 rfl ?_
  refine ip 1 0 [(4, bv false)] (by kernel_rfl) ?_
  refine ie ?_
  refine J_ret ?_
  subst hR
  exact ends_ret rfl ⟨hr, hD⟩ (by simp [hD]) (res1 rfl (resV_tmp rfl)) () (by rfl) (mk [false] rfl) Foll.nil
 ·have h7p : ¬ ((((((rows < 1) ∨ ((40 : Int) < rows)) ∨ (s.top < 0)) ∨ (s.bottom < s.top)) ∨ (rows ≤ s.bottom)) ∨ (s.amt = 0)) := by simpa using h7
  replace hR := bf hR h7
  refine J_skip ?_
  refine nx ?_
  refine sr 6 rfl ?_
  refine ip 1 5 [(35, pt b1 1)] (by kernel_rfl) ?_
  refine ix rfl (det_own_one (v := iv s.bottom) ty3 rfl rfl 0 rfl rfl) ?_
  refine ip 1 3 [(37, pt b1 0)] (by kernel_rfl) ?_
  refine ix rfl (det_own_one (v := iv s.top) ty3 rfl rfl 0 rfl rfl) ?_
  refine ix rfl (det_sub64 rfl rfl rfl rfl (by omega)) ?_
  refine ip 1 0 [(5, iv (s.bottom - s.top))] (by kernel_rfl) ?_
  refine ie ?_
  refine sr 12 rfl ?_
  refine ip 1 11 [(40, pt b1 2)] (by kernel_rfl) ?_
  refine ix rfl (det_own_one (v := iv s.amt) ty3 rfl rfl 0 rfl rfl) ?_
  refine ip 3 7 [(44, bv (decide (s.amt ≤ (s.bottom - s.top))))] (by kernel_rfl) ?_
  refine iand 6 1 44 50 (decide ((-(s.bottom - s.top)) ≤ s.amt)) rfl (by kernel_rfl) (fun g8 => ?_) ?_
  ·have g8p : s.amt ≤ (s.bottom - s.top) := by simpa using g8
   refine ip 1 5 [(45, pt b1 2)] (by kernel_rfl) ?_
   refine ix rfl (det_own_one (v := iv s.amt) ty3 rfl rfl 0 rfl rfl) ?_
   refine ip 1 3 [(47, iv (s.bottom - s.top))] (by kernel_rfl) ?_
   refine ix rfl (det_neg64 rfl rfl rfl (by omega)) ?_
   refine ip 2 0 [(50, bv (decide ((-(s.bottom - s.top)) ≤ s.amt)))] (by kernel_rfl) ?_
   exact JI_end (armI 6 44 50 g8 Foll.nil (mk [true] rfl) rfl rfl rfl rfl rfl)
  refine ip 1 0 [(4, bv ((decide (s.amt ≤ (s.bottom - s.top))) && (decide ((-(s.bottom - s.top)) ≤ s.amt))))] (by kernel_rfl) ?_
  refine ie ?_
  refine J_ret ?_
  subst hR
  exact ends_ret rfl ⟨hr, hD⟩ (by simp [hD]) (res1 rfl (resV_tmp rfl)) () (by rfl) (mk [false] rfl) Foll.nil

section
variable {P : Program} {n : Nat} {X : Cx} {K : Go.Act → World → Prop} {Q : Exit → Go.Act → World → Prop} {E : Env} {L L' : Go.Fen.Own} {Φ : List Pers}
theorem JI_perm {ops : Array Oper} {i m : Nat} (hp : L.Perm L') (h : JI P n X ops i m K Q E L' Φ) : JI P n X ops i m K Q E L Φ := fun a w hs => h a w ⟨hs.size, hs.defers, hs.has, hs.world.perm hp⟩
end

def ref23_Blank_l4 (cols : Int) (i : Nat) (fR : List (List Cel)) (ag_ref23_Blank_l3 : Nat → List (List Cel) → (Int × List (List Cel) × Int × Int × Bool × Int × List UInt8)) : Nat → List Cel → Nat → (Int × List (List Cel) × Int × Int × Bool × Int × List UInt8)
 | 0, _, _ => (0, [], 0, 0, false, 0, [])
 | fu3 + 1, l, k => (bif (decide ((k : Int) < cols)) then ref23_Blank_l4 cols i fR ag_ref23_Blank_l3 fu3 (l ++ ([{ Cel.zero with base := 32 }] : List Cel)) (k + 1) else ag_ref23_Blank_l3 (i + 1) (fR ++ ([l] : List (List Cel))))
def ref23_Blank_l3 (cols : Int) (rows : Int) : Nat → Nat → List (List Cel) → (Int × List (List Cel) × Int × Int × Bool × Int × List UInt8)
 | 0, _, _ => (0, [], 0, 0, false, 0, [])
 | fu1 + 1, i, fR => (bif (decide ((i : Int) < rows)) then ref23_Blank_l4 cols i fR (ref23_Blank_l3 cols rows fu1) ((cols - (0 : Int)).toNat + 1) ([] : List Cel) 0 else (cols, fR, 0, 0, true, 0, ([] : List UInt8)))
def ref23_Blank (cols : Int) (rows : Int) : Int × List (List Cel) × Int × Int × Bool × Int × List UInt8 :=
 ref23_Blank_l3 cols rows ((rows - (0 : Int)).toNat + 1) 0 ([] : List (List Cel))

theorem ref23_Blank_l4_eq (cols : Int) (i : Nat) (fR : List (List Cel)) (ag : Nat → List (List Cel) → (Int × List (List Cel) × Int × Int × Bool × Int × List UInt8)) : ∀ (fu : Nat) (l : List Cel) (k : Nat), (cols - (k : Int)).toNat < fu → ref23_Blank_l4 cols i fR ag fu l k = ag (i + 1) (fR ++ [l ++ List.replicate (cols - (k : Int)).toNat { Cel.zero with base := 32 }])
 | 0, l, k, h => by omega
 | fu + 1, l, k, h => by
  simp only [ref23_Blank_l4]
  by_cases c : (k : Int) < cols
  ·rw [decide_eq_true c, cond_true, ref23_Blank_l4_eq cols i fR ag fu _ (k + 1) (by omega), show (cols - (k : Int)).toNat = (cols - ((k + 1 : Nat) : Int)).toNat + 1 by omega, List.replicate_succ, List.append_assoc]; rfl
  ·rw [decide_eq_false c, cond_false, show (cols - (k : Int)).toNat = 0 by omega, List.replicate_zero, List.append_nil]
theorem ref23_Blank_l3_len (cols rows : Int) : ∀ (fu i : Nat) (fR : List (List Cel)), (rows - (i : Int)).toNat < fu → (ref23_Blank_l3 cols rows fu i fR).2.1.length = fR.length + (rows - (i : Int)).toNat
 | 0, i, fR, h => by omega
 | fu + 1, i, fR, h => by
  simp only [ref23_Blank_l3]
  by_cases c : (i : Int) < rows
  ·rw [decide_eq_true c, cond_true, ref23_Blank_l4_eq _ _ _ _ _ _ _ (by omega), ref23_Blank_l3_len cols rows fu (i + 1) _ (by omega), List.length_append, List.length_cons, List.length_nil]; omega
  ·rw [decide_eq_false c, cond_false]; show fR.length = _; omega
theorem ref23_Blank_len (cols rows : Int) : (ref23_Blank cols rows).2.1.length = rows.toNat := by
 unfold ref23_Blank
 rw [ref23_Blank_l3_len _ _ _ _ _ (by omega)]
 show 0 + _ = _; omega

theorem ref23_Blank_c (cols : Int) (rows : Int) (hbl : cols ≤ 1000 ∧ rows ≤ 1000) (R : Int × List (List Cel) × Int × Int × Bool × Int × List UInt8) (hR : ref23_Blank cols rows = R) : Con Tryz.prog 70 [iv cols, iv rows] [] [] ({t : VR × List Slc // VOk 1 R.2.1.length t.1 ∧ RowsOk t.2 R.2.1}) (fun x => ag [iv R.1, .slice (va x.1.1.q) R.2.1.length x.1.1.k, iv R.2.2.1, iv R.2.2.2.1, bv R.2.2.2.2.1, iv R.2.2.2.2.2.1, sv R.2.2.2.2.2.2]) (fun x => ((vo cSlc 67 x.1.1 x.1.2) ++ ([]))) (fun x => [rowsF cCel x.1.2 R.2.1]) := by
 refine con_of_J (n := 32) Tryz.func70 rfl (by kernel_rfl) rfl rfl [(0, iv cols), (1, iv rows)] ⟨rfl, rfl, trivial⟩ fun X hX hr hD => ?_
 replace hR := (ref23_Blank.eq_1 ..).symm.trans hR
 refine sr 1 rfl ?_
 refine it rfl (tri_alloc (cs := [iv 0, .slice none 0 0, iv 0, iv 0, bv false, iv 0, sv ([] : List UInt8)]) zero53 rfl) fun b1 => ?_
 refine ie ?_
 refine sr 4 rfl ?_
 refine ip 1 3 [(9, iv cols)] (by kernel_rfl) ?_
 refine ix rfl (det_build (cs := [iv cols, .slice none 0 0, iv 0, iv 0, bv true, iv 0, sv ([] : List UInt8)]) rfl rfl (by kernel_rfl)) ?_
 refine it rfl (tri_alloc (cs := [iv 0, .slice none 0 0, iv 0, iv 0, bv false, iv 0, sv ([] : List UInt8)]) zero53 rfl) fun b2 => ?_
 refine it rfl (tri_store (us := [iv cols, .slice none 0 0, iv 0, iv 0, bv true, iv 0, sv ([] : List UInt8)]) (cs' := [iv cols, .slice none 0 0, iv 0, iv 0, bv true, iv 0, sv ([] : List UInt8)]) ty53 rfl rfl rfl 0 rfl rfl rfl rfl rfl rfl) fun _ => ?_
 refine ie ?_
 refine J_seq ?_
 refine sr 1 rfl ?_
 refine ip 1 0 [(6, iv 0)] (by kernel_rfl) ?_
 refine ie ?_
 refine J_block ?_
 refine JQ_perm (permC [vo cSlc 67 VR.nil ([] : List Slc), [bx b2 [iv cols, .slice none 0 0, iv 0, iv 0, bv true, iv 0, sv ([] : List UInt8)] 53], [bx b1 [iv 0, .slice none 0 0, iv 0, iv 0, bv false, iv 0, sv ([] : List UInt8)] 53]] [1, 2, 0] 3 rfl (by decide) rfl [[bx b2 [iv cols, .slice none 0 0, iv 0, iv 0, bv true, iv 0, sv ([] : List UInt8)] 53], [bx b1 [iv 0, .slice none 0 0, iv 0, iv 0, bv false, iv 0, sv ([] : List UInt8)] 53], vo cSlc 67 VR.nil ([] : List Slc)] rfl (by first | rfl | simp)) ?_
 refine JL5 (fun (fu : Nat) (i : Nat) (fR : List (List Cel)) (fRowsr : VR) (fZ : List Slc) => (rows - (i : Int)).toNat < fu ∧ ref23_Blank_l3 cols rows fu i fR = R ∧ VOk 1 fR.length fRowsr ∧ RowsOk fZ fR ∧ fR.length ≤ i) (fun (fu : Nat) (i : Nat) (fR : List (List Cel)) (fRowsr : VR) (fZ : List Slc) => [(0, iv cols), (1, iv rows), (4, pt b1 0), (5, pt b2 0), (6, iv (i : Int))]) (fun (fu : Nat) (i : Nat) (fR : List (List Cel)) (fRowsr : VR) (fZ : List Slc) => (bx b2 [iv cols, .slice (va fRowsr.q) fR.length fRowsr.k, iv 0, iv 0, bv true, iv 0, sv ([] : List UInt8)] 53 :: bx b1 [iv 0, .slice none 0 0, iv 0, iv 0, bv false, iv 0, sv ([] : List UInt8)] 53 :: (vo cSlc 67 fRowsr fZ) ++ ([]))) (fun (fu : Nat) (i : Nat) (fR : List (List Cel)) (fRowsr : VR) (fZ : List Slc) => [rowsF cCel fZ fR]) (fun (fu : Nat) (i : Nat) (fR : List (List Cel)) (fRowsr : VR) (fZ : List Slc) => fu) ((rows - (0 : Int)).toNat + 1) 0 ([] : List (List Cel)) VR.nil ([] : List Slc) ⟨(Nat.lt_succ_self _), hR, VOk.nil, RowsOk.none, (by simp)⟩ ⟨rfl, rfl, rfl, rfl, (by first | rfl | (simp only [List.length_set]; rfl) | (simp; done) | (simp; omega)), trivial⟩ (mc [[bx b2 [iv cols, .slice none 0 0, iv 0, iv 0, bv true, iv 0, sv ([] : List UInt8)] 53], [bx b1 [iv 0, .slice none 0 0, iv 0, iv 0, bv false, iv 0, sv ([] : List UInt8)] 53], vo cSlc 67 VR.nil ([] : List Slc)] [true, true, true] rfl (by first | rfl | (simp only [List.length_set] <;> rfl))) (Foll.con1 rows_none Foll.nil) ?_
 rintro fu i fR fRowsr fZ ⟨hm3, hR, hokfRowsr, hrowsfRowsrs, hfr⟩
 have := VOk.le hokfRowsr
 have := hrowsfRowsrs.1
 obtain ⟨fu1, rfl⟩ : ∃ m, fu = m + 1 := ⟨fu - 1, by omega⟩
 replace hR := (ref23_Blank_l3.eq_2 ..).symm.trans hR
 refine J_seq ?_
 refine sr 3 rfl ?_
 refine ip 3 0 [(13, bv (decide ((i : Int) < rows)))] (by kernel_rfl) ?_
 refine ie ?_
 refine J_if rfl (fun h4 => ?_) (fun h4 => ?_)
 ·have h4p : (i : Int) < rows := by simpa using h4
  replace hR := bt hR h4
  refine J_skip ?_
  refine nx ?_
  refine J_seq ?_
  refine J_block ?_
  refine sr 1 rfl ?_
  refine ip 1 0 [(7, .slice none 0 0)] (by kernel_rfl) ?_
  refine ie ?_
  refine J_seq ?_
  refine sr 1 rfl ?_
  refine ip 1 0 [(8, iv 0)] (by kernel_rfl) ?_
  refine ie ?_
  refine J_block ?_
  refine JQ_perm (permC [vo cCel 72 VR.nil ([] : List Cel), [bx b2 [iv cols, .slice (va fRowsr.q) fR.length fRowsr.k, iv 0, iv 0, bv true, iv 0, sv ([] : List UInt8)] 53], [bx b1 [iv 0, .slice none 0 0, iv 0, iv 0, bv false, iv 0, sv ([] : List UInt8)] 53], vo cSlc 67 fRowsr fZ] [1, 2, 3, 0] 4 rfl (by decide) rfl [[bx b2 [iv cols, .slice (va fRowsr.q) fR.length fRowsr.k, iv 0, iv 0, bv true, iv 0, sv ([] : List UInt8)] 53], [bx b1 [iv 0, .slice none 0 0, iv 0, iv 0, bv false, iv 0, sv ([] : List UInt8)] 53], vo cSlc 67 fRowsr fZ, vo cCel 72 VR.nil ([] : List Cel)] rfl (by first | rfl | simp)) ?_
  refine JL4 (fun (fu2 : Nat) (l : List Cel) (lr : VR) (k : Nat) => (cols - (k : Int)).toNat < fu2 ∧ ref23_Blank_l4 cols i fR (ref23_Blank_l3 cols rows fu1) fu2 l k = R ∧ VOk 12 l.length lr ∧ l.length ≤ k) (fun (fu2 : Nat) (l : List Cel) (lr : VR) (k : Nat) => [(0, iv cols), (1, iv rows), (4, pt b1 0), (5, pt b2 0), (6, iv (i : Int)), (7, .slice (va lr.q) l.length lr.k), (8, iv (k : Int))]) (fun (fu2 : Nat) (l : List Cel) (lr : VR) (k : Nat) => (bx b2 [iv cols, .slice (va fRowsr.q) fR.length fRowsr.k, iv 0, iv 0, bv true, iv 0, sv ([] : List UInt8)] 53 :: bx b1 [iv 0, .slice none 0 0, iv 0, iv 0, bv false, iv 0, sv ([] : List UInt8)] 53 :: (vo cSlc 67 fRowsr fZ) ++ ((vo cCel 72 lr l) ++ ([])))) (fun (fu2 : Nat) (l : List Cel) (lr : VR) (k : Nat) => [rowsF cCel fZ fR]) (fun (fu2 : Nat) (l : List Cel) (lr : VR) (k : Nat) => fu2) ((cols - (0 : Int)).toNat + 1) ([] : List Cel) VR.nil 0 ⟨(Nat.lt_succ_self _), hR, VOk.nil, (by simp)⟩ ⟨rfl, rfl, rfl, rfl, rfl, (by first | rfl | (simp only [List.length_set]; rfl) | (simp; done) | (simp; omega)), (by first | rfl | (simp only [List.length_set]; rfl) | (simp; done) | (simp; omega)), trivial⟩ (mc [[bx b2 [iv cols, .slice (va fRowsr.q) fR.length fRowsr.k, iv 0, iv 0, bv true, iv 0, sv ([] : List UInt8)] 53], [bx b1 [iv 0, .slice none 0 0, iv 0, iv 0, bv false, iv 0, sv ([] : List UInt8)] 53], vo cSlc 67 fRowsr fZ, vo cCel 72 VR.nil ([] : List Cel)] [true, true, true, true] rfl (by first | rfl | (simp only [List.length_set] <;> rfl))) Foll.refl ?_
  rintro fu2 l lr k ⟨hm5, hR, hoklr, hll⟩
  have := VOk.le hoklr
  obtain ⟨fu3, rfl⟩ : ∃ m, fu2 = m + 1 := ⟨fu2 - 1, by omega⟩
  replace hR := (ref23_Blank_l4.eq_2 ..).symm.trans hR
  refine J_seq ?_
  refine sr 3 rfl ?_
  refine ip 3 0 [(18, bv (decide ((k : Int) < cols)))] (by kernel_rfl) ?_
  refine ie ?_
  refine J_if rfl (fun h6 => ?_) (fun h6 => ?_)
  ·have h6p : (k : Int) < cols := by simpa using h6
   replace hR := bt hR h6
   refine J_skip ?_
   refine nx ?_
   refine J_seq ?_
   refine J_block ?_
   refine J_region 5 rfl ?_
   refine ip 1 4 [(21, .slice (va lr.q) l.length lr.k)] (by kernel_rfl) ?_
   refine ix rfl (det_build (cs := cCel ({ Cel.zero with base := 32 })) rfl rfl (by kernel_rfl)) ?_
   refine it rfl (tri_buildSl (c := cCel) (xs := ([{ Cel.zero with base := 32 }] : List Cel)) slt67 rfl rfl rfl (by kernel_rfl)) fun b7 => ?_
   have : ([{ Cel.zero with base := 32 }] : List Cel).length = 1 := rfl
   refine JI_perm (permC [[bx b2 [iv cols, .slice (va fRowsr.q) fR.length fRowsr.k, iv 0, iv 0, bv true, iv 0, sv ([] : List UInt8)] 53], [bx b1 [iv 0, .slice none 0 0, iv 0, iv 0, bv false, iv 0, sv ([] : List UInt8)] 53], vo cSlc 67 fRowsr fZ, vo cCel 72 lr l] [0, 1, 3, 2] 4 rfl (by decide) rfl [[bx b2 [iv cols, .slice (va fRowsr.q) fR.length fRowsr.k, iv 0, iv 0, bv true, iv 0, sv ([] : List UInt8)] 53], [bx b1 [iv 0, .slice none 0 0, iv 0, iv 0, bv false, iv 0, sv ([] : List UInt8)] 53], vo cCel 72 lr l, vo cSlc 67 fRowsr fZ] rfl (by first | rfl | simp only [List.flatten_cons, List.flatten_nil, List.append_nil, List.cons_append, List.nil_append, List.append_assoc])) ?_
   refine it rfl (tri_app1 (f := cCel) (r := lr) (xs := l) (ys := ([{ Cel.zero with base := 32 }] : List Cel)) (pre := [bx b2 [iv cols, .slice (va fRowsr.q) fR.length fRowsr.k, iv 0, iv 0, bv true, iv 0, sv ([] : List UInt8)] 53, bx b1 [iv 0, .slice none 0 0, iv 0, iv 0, bv false, iv 0, sv ([] : List UInt8)] 53]) (post := ((vo cSlc 67 fRowsr fZ) ++ ([]))) apt67 (fun _ => rfl) (fun _ => rfl) rfl rfl rfl rfl rfl rfl rfl rfl rfl (at_of 0 rfl) hoklr (by first | omega | (simp <;> omega)) (by first | omega | (simp <;> omega))) fun ⟨r8, hr9⟩ => ?_
   have := VOk.le hr9
   have := VOk.cap hr9
   refine JI_perm (permC [[bx b2 [iv cols, .slice (va fRowsr.q) fR.length fRowsr.k, iv 0, iv 0, bv true, iv 0, sv ([] : List UInt8)] 53], [bx b1 [iv 0, .slice none 0 0, iv 0, iv 0, bv false, iv 0, sv ([] : List UInt8)] 53], vo cCel 72 r8 (l ++ ([{ Cel.zero with base := 32 }] : List Cel)), vo cSlc 67 fRowsr fZ] [0, 1, 3, 2] 4 rfl (by decide) rfl [[bx b2 [iv cols, .slice (va fRowsr.q) fR.length fRowsr.k, iv 0, iv 0, bv true, iv 0, sv ([] : List UInt8)] 53], [bx b1 [iv 0, .slice none 0 0, iv 0, iv 0, bv false, iv 0, sv ([] : List UInt8)] 53], vo cSlc 67 fRowsr fZ, vo cCel 72 r8 (l ++ ([{ Cel.zero with base := 32 }] : List Cel))] rfl (by first | rfl | simp only [List.flatten_cons, List.flatten_nil, List.append_nil, List.cons_append, List.nil_append, List.append_assoc])) ?_
   refine ip 1 0 [(7, .slice (va r8.q) ((l ++ ([{ Cel.zero with base := 32 }] : List Cel)).length) r8.k)] (by kernel_rfl) ?_
   refine JI_end ?_
   refine nx ?_
   refine J_region 3 rfl ?_
   refine ip 1 2 [(19, iv (k : Int))] (by kernel_rfl) ?_
   refine ix rfl (det_add64 rfl rfl rfl rfl (by omega)) ?_
   refine ip 1 0 [(8, iv ((k : Int) + 1))] (by kernel_rfl) ?_
   refine JI_end ?_
   exact againL4 (z1 := (fu3 + 1)) (z2 := l) (z3 := lr) (z4 := k) fu3 (l ++ ([{ Cel.zero with base := 32 }] : List Cel)) r8 (k + 1) ⟨(by omega), hR, hr9, (by first | omega | (simp <;> omega))⟩ (Nat.lt_succ_self _) ⟨rfl, rfl, rfl, rfl, rfl, (by first | rfl | (simp only [List.length_set]; rfl) | (simp; done) | (simp; omega)), (by first | rfl | (simp only [List.length_set]; rfl) | (simp; done) | (simp; omega)), trivial⟩ (mc [[bx b2 [iv cols, .slice (va fRowsr.q) fR.length fRowsr.k, iv 0, iv 0, bv true, iv 0, sv ([] : List UInt8)] 53], [bx b1 [iv 0, .slice none 0 0, iv 0, iv 0, bv false, iv 0, sv ([] : List UInt8)] 53], vo cSlc 67 fRowsr fZ, vo cCel 72 r8 (l ++ ([{ Cel.zero with base := 32 }] : List Cel))] [true, true, true, true] rfl (by first | rfl | (simp only [List.length_set] <;> rfl))) (Foll.pick [1] rfl)
  ·have h6p : ¬ ((k : Int) < cols) := by simpa using h6
   replace hR := bf hR h6
   refine J_exit ?_
   refine nx ?_
   refine J_region 7 rfl ?_
   refine ip 1 6 [(25, pt b2 1)] (by kernel_rfl) ?_
   refine ix rfl (det_own_one (v := .slice (va fRowsr.q) fR.length fRowsr.k) ty49 rfl rfl 0 rfl rfl) ?_
   refine ip 1 4 [(27, .slice (va lr.q) l.length lr.k)] (by kernel_rfl) ?_
   refine JI_seal (bx b2 [iv cols, .slice (va fRowsr.q) fR.length fRowsr.k, iv 0, iv 0, bv true, iv 0, sv ([] : List UInt8)] 53 :: bx b1 [iv 0, .slice none 0 0, iv 0, iv 0, bv false, iv 0, sv ([] : List UInt8)] 53 :: (vo cSlc 67 fRowsr fZ) ++ ([])) [] (T := 72) (c := cCel) (r := lr) (xs := l) hoklr (by first | rfl | simp only [List.cons_append, List.append_assoc, List.nil_append, List.append_nil]) ?_
   have := VOk.cap hoklr
   refine it rfl (tri_buildSl (c := cSlc) (xs := ([⟨va lr.q, l.length, lr.k⟩] : List Slc)) slt49 rfl rfl rfl (by kernel_rfl)) fun b10 => ?_
   have hrows11 : RowsOk ([⟨va lr.q, l.length, lr.k⟩] : List Slc) ([l] : List (List Cel)) := (RowsOk.cons ⟨rfl, (by first | omega | (simp <;> omega) | (dsimp only; omega) | decide), (by first | omega | (simp <;> omega) | (dsimp only; omega) | decide)⟩ RowsOk.none)
   refine JI_fact1 (q := rowsF cCel ([⟨va lr.q, l.length, lr.k⟩] : List Slc) ([l] : List (List Cel))) (rows_cons (at_of 1 rfl) rows_none) ?_
   have : ([⟨va lr.q, l.length, lr.k⟩] : List Slc).length = 1 := rfl
   have hw14 : RowsOk (fZ ++ ([⟨va lr.q, l.length, lr.k⟩] : List Slc)) (fR ++ ([l] : List (List Cel))) := RowsOk.append hrowsfRowsrs hrows11
   refine it rfl (tri_app_rows (r := fRowsr) (rs := fZ) (xss := fR) (pre := [bx b2 [iv cols, .slice (va fRowsr.q) fR.length fRowsr.k, iv 0, iv 0, bv true, iv 0, sv ([] : List UInt8)] 53, bx b1 [iv 0, .slice none 0 0, iv 0, iv 0, bv false, iv 0, sv ([] : List UInt8)] 53]) (post := []) apt49 rfl rfl rfl rfl rfl rfl rfl rfl (by first | rfl | simp only [List.cons_append, List.append_assoc, List.nil_append, List.append_nil]) (at_of 1 rfl) (at_of 3 rfl) (at_of 0 rfl) hrowsfRowsrs hrows11 hokfRowsr (by first | omega | (simp <;> omega)) (by first | omega | (simp <;> omega))) fun ⟨r12, hr13⟩ => ?_
   have := VOk.le hr13
   have := VOk.cap hr13
   refine ip 1 1 [(30, pt b2 1)] (by kernel_rfl) ?_
   refine it rfl (tri_store (us := [.slice (va r12.q) ((fR ++ ([l] : List (List Cel))).length) r12.k]) (cs' := [iv cols, .slice (va r12.q) ((fR ++ ([l] : List (List Cel))).length) r12.k, iv 0, iv 0, bv true, iv 0, sv ([] : List UInt8)]) ty49 rfl rfl rfl 0 rfl rfl rfl rfl rfl rfl) fun _ => ?_
   refine JI_end ?_
   refine nx ?_
   refine J_region 3 rfl ?_
   refine ip 1 2 [(14, iv (i : Int))] (by kernel_rfl) ?_
   refine ix rfl (det_add64 rfl rfl rfl rfl (by omega)) ?_
   refine ip 1 0 [(6, iv ((i : Int) + 1))] (by kernel_rfl) ?_
   refine JI_end ?_
   exact againL5 (z1 := (fu1 + 1)) (z2 := i) (z3 := fR) (z4 := fRowsr) (z5 := fZ) fu1 (i + 1) (fR ++ ([l] : List (List Cel))) r12 (fZ ++ ([⟨va lr.q, l.length, lr.k⟩] : List Slc)) ⟨(by omega), hR, hr13, hw14, (by first | omega | (simp <;> omega))⟩ (Nat.lt_succ_self _) ⟨rfl, rfl, rfl, rfl, (by first | rfl | (simp only [List.length_set]; rfl) | (simp; done) | (simp; omega)), trivial⟩ (mc [[bx b2 [iv cols, .slice (va r12.q) ((fR ++ ([l] : List (List Cel))).length) r12.k, iv 0, iv 0, bv true, iv 0, sv ([] : List UInt8)] 53], [bx b1 [iv 0, .slice none 0 0, iv 0, iv 0, bv false, iv 0, sv ([] : List UInt8)] 53], vo cSlc 67 r12 (fZ ++ ([⟨va lr.q, l.length, lr.k⟩] : List Slc))] [true, true, true] rfl (by first | rfl | (simp only [List.length_set] <;> rfl))) (Foll.pick [0] rfl)
 ·have h4p : ¬ ((i : Int) < rows) := by simpa using h4
  replace hR := bf hR h4
  refine J_exit ?_
  refine nx ?_
  refine sr 2 rfl ?_
  refine ix rfl (det_own_agg (us := [iv cols, .slice (va fRowsr.q) fR.length fRowsr.k, iv 0, iv 0, bv true, iv 0, sv ([] : List UInt8)]) ty53 rfl rfl 0 rfl rfl rfl) ?_
  refine it rfl (tri_store (us := [iv cols, .slice (va fRowsr.q) fR.length fRowsr.k, iv 0, iv 0, bv true, iv 0, sv ([] : List UInt8)]) (cs' := [iv cols, .slice (va fRowsr.q) fR.length fRowsr.k, iv 0, iv 0, bv true, iv 0, sv ([] : List UInt8)]) ty53 rfl rfl rfl 1 rfl rfl rfl rfl rfl rfl) fun _ => ?_
  refine ie ?_
  refine J_ret ?_
  subst hR
  exact ends_ret rfl ⟨hr, hD⟩ (by simp [hD]) (res1 rfl (resV_cell (us := [iv cols, .slice (va fRowsr.q) fR.length fRowsr.k, iv 0, iv 0, bv true, iv 0, sv ([] : List UInt8)]) ty53 rfl 1 rfl rfl rfl)) ⟨(fRowsr, fZ), ⟨hokfRowsr, hrowsfRowsrs⟩⟩ (by rfl) (mc [[bx b2 [iv cols, .slice (va fRowsr.q) fR.length fRowsr.k, iv 0, iv 0, bv true, iv 0, sv ([] : List UInt8)] 53], [bx b1 [iv cols, .slice (va fRowsr.q) fR.length fRowsr.k, iv 0, iv 0, bv true, iv 0, sv ([] : List UInt8)] 53], vo cSlc 67 fRowsr fZ] [false, false, true] rfl (by first | rfl | (simp only [List.length_set] <;> rfl))) (Foll.con1 (at_of 0 rfl) Foll.nil)

def ref28_Done_l0 (fC : Int) (fR : List (List Cel)) (fU : Plc) (fV : Bool) (fS : Int) (fT : List UInt8) (s : Shf) (y0 : Int × List (List Cel) × Int × Int × Bool × Int × List UInt8) : List (List Cel) → Nat → List (List Cel) → (Int × List (List Cel) × Int × Int × Bool × Int × List UInt8)
 | [], r, outRows => (fC, outRows, fU.row, fU.col, fV, fS, fT)
 | hd_l0 :: tl_l0, r, outRows => (bif ((decide (s.top ≤ (r : Int))) && (decide ((r : Int) ≤ s.bottom))) then (bif ((decide (s.top ≤ (IntKind.i64.wrap ((r : Int) + s.amt)))) && (decide ((IntKind.i64.wrap ((r : Int) + s.amt)) ≤ s.bottom))) then ref28_Done_l0 fC fR fU fV fS fT s y0 tl_l0 (r + 1) (outRows ++ ([(fR.getD ((IntKind.i64.wrap ((r : Int) + s.amt)).toNat) [])] : List (List Cel))) else ref28_Done_l0 fC fR fU fV fS fT s y0 tl_l0 (r + 1) (outRows ++ ([(y0.2.1.getD 0 [])] : List (List Cel)))) else ref28_Done_l0 fC fR fU fV fS fT s y0 tl_l0 (r + 1) (outRows ++ ([hd_l0] : List (List Cel))))
def ref28_Done (fC : Int) (fR : List (List Cel)) (fU : Plc) (fV : Bool) (fS : Int) (fT : List UInt8) (s : Shf) : Int × List (List Cel) × Int × Int × Bool × Int × List UInt8 :=
 (bindV (ref23_Blank fC 1) fun (y0 : Int × List (List Cel) × Int × Int × Bool × Int × List UInt8) => ref28_Done_l0 fC fR fU fV fS fT s y0 fR 0 ([] : List (List Cel)))

theorem ref28_Done_c (fC : Int) (fR : List (List Cel)) (fU : Plc) (fV : Bool) (fS : Int) (fT : List UInt8) (s : Shf) (fQ : Option Addr) (fZ : List Slc) (fK : Nat) (hrowsfRowsrs : RowsOk fZ fR) (hlfRows : fR.length ≤ 9223372036854775807) (hcfRows : fR.length ≤ fK) (hD : 2 ≤ fC ∧ fC ≤ 80 ∧ fR.length ≤ 40 ∧ 0 ≤ s.top ∧ s.bottom < (fR.length : Int)) (R : Int × List (List Cel) × Int × Int × Bool × Int × List UInt8) (hR : ref28_Done fC fR fU fV fS fT s = R) : Con Tryz.prog 33 [ag [iv fC, .slice fQ fR.length fK, iv fU.row, iv fU.col, bv fV, iv fS, sv fT], ag (cShf s)] [] [sl cSlc fQ fZ, rowsF cCel fZ fR] ({t : VR × List Slc // VOk 1 R.2.1.length t.1 ∧ RowsOk t.2 R.2.1}) (fun x => ag [iv R.1, .slice (va x.1.1.q) R.2.1.length x.1.1.k, iv R.2.2.1, iv R.2.2.2.1, bv R.2.2.2.2.1, iv R.2.2.2.2.2.1, sv R.2.2.2.2.2.2]) (fun x => ((vo cSlc 67 x.1.1 x.1.2) ++ ([]))) (fun x => [rowsF cCel x.1.2 R.2.1]) := by
 refine con_of_J (n := 71) Tryz.func33 rfl (by kernel_rfl) rfl rfl [(0, ag [iv fC, .slice fQ fR.length fK, iv fU.row, iv fU.col, bv fV, iv fS, sv fT]), (1, ag (cShf s))] ⟨rfl, rfl, trivial⟩ fun X hX hr hD => ?_
 replace hR := (ref28_Done.eq_1 ..).symm.trans hR
 have := hrowsfRowsrs.1
 refine sr 3 rfl ?_
 refine it rfl (tri_box (cs := [iv fC, .slice fQ fR.length fK, iv fU.row, iv fU.col, bv fV, iv fS, sv fT]) rfl rfl rfl) fun b1 => ?_
 refine it rfl (tri_box (cs := cShf s) rfl rfl rfl) fun b2 => ?_
 refine it rfl (tri_alloc (cs := [iv 0, .slice none 0 0, iv 0, iv 0, bv false, iv 0, sv ([] : List UInt8)]) zero53 rfl) fun b3 => ?_
 refine ie ?_
 refine sr 7 rfl ?_
 refine ip 1 6 [(9, pt b1 0)] (by kernel_rfl) ?_
 refine ix rfl (det_own_one (v := iv fC) ty3 rfl rfl 2 rfl rfl) ?_
 have hQ := bindVx hR; clear hR; obtain ⟨y0, hy0, hR⟩ := hQ
 refine it rfl (tri_callP (L2 := [bx b3 [iv 0, .slice none 0 0, iv 0, iv 0, bv false, iv 0, sv ([] : List UInt8)] 53, bx b2 (cShf s) 55, bx b1 [iv fC, .slice fQ fR.length fK, iv fU.row, iv fU.col, bv fV, iv fS, sv fT] 53]) (ref23_Blank_c fC 1 (by first | omega | (simp <;> omega)) y0 hy0) rfl rfl rfl rfl rfl Foll.nil (List.Perm.refl _) (fun ⟨⟨r4, rs5⟩, hp8⟩ => (bx b3 [iv 0, .slice none 0 0, iv 0, iv 0, bv false, iv 0, sv ([] : List UInt8)] 53 :: bx b2 (cShf s) 55 :: bx b1 [iv fC, .slice fQ fR.length fK, iv fU.row, iv fU.col, bv fV, iv fS, sv fT] 53 :: (vo cSlc 67 r4 rs5) ++ ([]))) (fun ⟨⟨r4, rs5⟩, hp8⟩ => permC [vo cSlc 67 r4 rs5, [bx b3 [iv 0, .slice none 0 0, iv 0, iv 0, bv false, iv 0, sv ([] : List UInt8)] 53], [bx b2 (cShf s) 55], [bx b1 [iv fC, .slice fQ fR.length fK, iv fU.row, iv fU.col, bv fV, iv fS, sv fT] 53]] [1, 2, 3, 0] 4 rfl (by decide) (by first | rfl | simp only [List.flatten_cons, List.flatten_nil, List.append_nil, List.cons_append, List.nil_append, List.append_assoc]) [[bx b3 [iv 0, .slice none 0 0, iv 0, iv 0, bv false, iv 0, sv ([] : List UInt8)] 53], [bx b2 (cShf s) 55], [bx b1 [iv fC, .slice fQ fR.length fK, iv fU.row, iv fU.col, bv fV, iv fS, sv fT] 53], vo cSlc 67 r4 rs5] rfl (by first | rfl | simp only [List.flatten_cons, List.flatten_nil, List.append_nil, List.cons_append, List.nil_append, List.append_assoc]))) fun ⟨⟨r4, rs5⟩, hp8⟩ => ?_
 try dsimp only at hp8
 obtain ⟨hk6, hw7⟩ := hp8
 have := VOk.le hk6
 have := VOk.cap hk6
 have := hw7.1
 have := ref23_Blank_len fC 1; try rw [hy0] at this
 refine ip 1 3 [(12, .slice (va r4.q) y0.2.1.length r4.k)] (by kernel_rfl) ?_
 obtain ⟨b9, hb10⟩ := VOk.some hk6 (by omega)
 obtain ⟨q11, k12, j13⟩ := r4
 obtain rfl : q11 = some b9 := hb10
 refine JI_fact1 (rows_atD (k := 0) (d := (⟨none, 0, 0⟩ : Slc)) hw7 0 rfl (by have := hw7.1; omega)) ?_
 have := rows_cap hw7 (k := 0) (d := (⟨none, 0, 0⟩ : Slc)) (by have := hw7.1; omega)
 refine ix rfl (det_ix_vec slt49 rfl rfl rfl 0 rfl (by have := hw7.1; omega)) ?_
 refine ix rfl (det_conv (det_vec_one (u := .slice ((rs5.getD 0 (⟨none, 0, 0⟩ : Slc)).q) ((rs5.getD 0 (⟨none, 0, 0⟩ : Slc)).n) ((rs5.getD 0 (⟨none, 0, 0⟩ : Slc)).k)) (c := cSlc) (sz := 1) ty67 (fun _ => rfl) rfl rfl 3 rfl 0 0 rfl (gd (⟨none, 0, 0⟩ : Slc) (by have := hw7.1; omega)) rfl) (rows_val hw7 (by have := hw7.1; omega))) ?_
 refine ip 1 0 [(5, .slice ((rs5.getD 0 (⟨none, 0, 0⟩ : Slc)).q) ((y0.2.1.getD 0 []).length) ((rs5.getD 0 (⟨none, 0, 0⟩ : Slc)).k))] (by kernel_rfl) ?_
 refine ie ?_
 refine sr 3 rfl ?_
 refine ix rfl (det_own_agg (us := [iv fC, .slice fQ fR.length fK, iv fU.row, iv fU.col, bv fV, iv fS, sv fT]) ty53 rfl rfl 2 rfl rfl rfl) ?_
 refine it rfl (tri_alloc (cs := [iv 0, .slice none 0 0, iv 0, iv 0, bv false, iv 0, sv ([] : List UInt8)]) zero53 rfl) fun b14 => ?_
 refine it rfl (tri_store (us := [iv fC, .slice fQ fR.length fK, iv fU.row, iv fU.col, bv fV, iv fS, sv fT]) (cs' := [iv fC, .slice fQ fR.length fK, iv fU.row, iv fU.col, bv fV, iv fS, sv fT]) ty53 rfl rfl rfl 0 rfl rfl rfl rfl rfl rfl) fun _ => ?_
 refine ie ?_
 refine sr 2 rfl ?_
 refine ip 1 1 [(16, pt b14 1)] (by kernel_rfl) ?_
 refine it rfl (tri_store (us := [.slice none 0 0]) (cs' := [iv fC, .slice none 0 0, iv fU.row, iv fU.col, bv fV, iv fS, sv fT]) ty49 rfl rfl rfl 0 rfl rfl rfl rfl rfl rfl) fun _ => ?_
 refine ie ?_
 refine J_seq ?_
 refine sr 1 rfl ?_
 refine ip 1 0 [(7, iv 0)] (by kernel_rfl) ?_
 refine ie ?_
 refine J_block ?_
 refine JQ_perm (permC [vo cSlc 67 VR.nil ([] : List Slc), [bx b14 [iv fC, .slice none 0 0, iv fU.row, iv fU.col, bv fV, iv fS, sv fT] 53], [bx b3 [iv 0, .slice none 0 0, iv 0, iv 0, bv false, iv 0, sv ([] : List UInt8)] 53], [bx b2 (cShf s) 55], [bx b1 [iv fC, .slice fQ fR.length fK, iv fU.row, iv fU.col, bv fV, iv fS, sv fT] 53], vo cSlc 67 (⟨some b9, k12, j13⟩ : VR) rs5] [1, 2, 3, 4, 5, 0] 6 rfl (by decide) rfl [[bx b14 [iv fC, .slice none 0 0, iv fU.row, iv fU.col, bv fV, iv fS, sv fT] 53], [bx b3 [iv 0, .slice none 0 0, iv 0, iv 0, bv false, iv 0, sv ([] : List UInt8)] 53], [bx b2 (cShf s) 55], [bx b1 [iv fC, .slice fQ fR.length fK, iv fU.row, iv fU.col, bv fV, iv fS, sv fT] 53], vo cSlc 67 (⟨some b9, k12, j13⟩ : VR) rs5, vo cSlc 67 VR.nil ([] : List Slc)] rfl (by first | rfl | simp)) ?_
 refine JL4 (fun (r : Nat) (outRows : List (List Cel)) (outRowsr : VR) (outRowsrs : List Slc) => r ≤ fR.length ∧ ref28_Done_l0 fC fR fU fV fS fT s y0 (fR.drop r) r outRows = R ∧ VOk 1 outRows.length outRowsr ∧ RowsOk outRowsrs outRows ∧ outRows.length ≤ r) (fun (r : Nat) (outRows : List (List Cel)) (outRowsr : VR) (outRowsrs : List Slc) => [(2, pt b1 0), (3, pt b2 0), (4, pt b3 0), (5, .slice ((rs5.getD 0 (⟨none, 0, 0⟩ : Slc)).q) ((y0.2.1.getD 0 []).length) ((rs5.getD 0 (⟨none, 0, 0⟩ : Slc)).k)), (6, pt b14 0), (7, iv (r : Int))]) (fun (r : Nat) (outRows : List (List Cel)) (outRowsr : VR) (outRowsrs : List Slc) => (bx b14 [iv fC, .slice (va outRowsr.q) outRows.length outRowsr.k, iv fU.row, iv fU.col, bv fV, iv fS, sv fT] 53 :: bx b3 [iv 0, .slice none 0 0, iv 0, iv 0, bv false, iv 0, sv ([] : List UInt8)] 53 :: bx b2 (cShf s) 55 :: bx b1 [iv fC, .slice fQ fR.length fK, iv fU.row, iv fU.col, bv fV, iv fS, sv fT] 53 :: (vo cSlc 67 (⟨some b9, k12, j13⟩ : VR) rs5) ++ ((vo cSlc 67 outRowsr outRowsrs) ++ ([])))) (fun (r : Nat) (outRows : List (List Cel)) (outRowsr : VR) (outRowsrs : List Slc) => [sl cCel ((rs5.getD 0 (⟨none, 0, 0⟩ : Slc)).q) (y0.2.1.getD 0 []), rowsF cCel rs5 y0.2.1, sl cSlc fQ fZ, rowsF cCel fZ fR, rowsF cCel outRowsrs outRows]) (fun (r : Nat) (outRows : List (List Cel)) (outRowsr : VR) (outRowsrs : List Slc) => fR.length - r) 0 ([] : List (List Cel)) VR.nil ([] : List Slc) ⟨(by omega), hR, VOk.nil, RowsOk.none, (by simp)⟩ ⟨rfl, rfl, rfl, rfl, rfl, (by first | rfl | (simp only [List.length_set]; rfl) | (simp; done) | (simp; omega)), trivial⟩ (mc [[bx b14 [iv fC, .slice none 0 0, iv fU.row, iv fU.col, bv fV, iv fS, sv fT] 53], [bx b3 [iv 0, .slice none 0 0, iv 0, iv 0, bv false, iv 0, sv ([] : List UInt8)] 53], [bx b2 (cShf s) 55], [bx b1 [iv fC, .slice fQ fR.length fK, iv fU.row, iv fU.col, bv fV, iv fS, sv fT] 53], vo cSlc 67 (⟨some b9, k12, j13⟩ : VR) rs5, vo cSlc 67 VR.nil ([] : List Slc)] [true, true, true, true, true, true] rfl (by first | rfl | (simp only [List.length_set] <;> rfl))) (Foll.con1 (at_of 0 rfl) (Foll.con1 (at_of 1 rfl) (Foll.con1 (at_of 2 rfl) (Foll.con1 (at_of 3 rfl) (Foll.con1 rows_none Foll.nil))))) ?_
 rintro r outRows outRowsr outRowsrs ⟨hm15, hR, hokoutRowsr, hrowsoutRowsrs, hol⟩
 have := VOk.le hokoutRowsr
 have := hrowsoutRowsrs.1
 refine J_seq ?_
 refine sr 5 rfl ?_
 refine ip 2 3 [(17, iv (r : Int)), (18, pt b1 1)] (by kernel_rfl) ?_
 refine ix rfl (det_own_one (v := .slice fQ fR.length fK) ty49 rfl rfl 3 rfl rfl) ?_
 refine ip 2 0 [(21, bv (decide ((r : Int) < (fR.length : Int))))] (by kernel_rfl) ?_
 refine ie ?_
 refine J_if rfl (fun h16 => ?_) (fun h16 => ?_)
 ·have h16p : (r : Int) < (fR.length : Int) := by simpa using h16
  rw [dropc [] (show r < fR.length by omega)] at hR; replace hR := (ref28_Done_l0.eq_2 ..).symm.trans hR
  refine J_skip ?_
  refine nx ?_
  refine J_seq ?_
  refine J_block ?_
  refine sr 6 rfl ?_
  refine ip 1 5 [(24, pt b1 1)] (by kernel_rfl) ?_
  refine ix rfl (det_own_one (v := .slice fQ fR.length fK) ty49 rfl rfl 3 rfl rfl) ?_
  refine ip 1 3 [(26, iv (r : Int))] (by kernel_rfl) ?_
  refine JI_base 2 rfl (by omega) fun a17 hq18 => ?_
  refine JI_fact1 (rows_atD (k := r) (d := (⟨none, 0, 0⟩ : Slc)) hrowsfRowsrs 3 rfl (by have := hrowsfRowsrs.1; omega)) ?_
  have := rows_cap hrowsfRowsrs (k := r) (d := (⟨none, 0, 0⟩ : Slc)) (by have := hrowsfRowsrs.1; omega)
  refine ix rfl (det_ixq slt49 rfl rfl hq18 rfl r rfl (by omega)) ?_
  refine ix rfl (det_conv (det_ld_one (v := .slice ((fZ.getD r (⟨none, 0, 0⟩ : Slc)).q) ((fZ.getD r (⟨none, 0, 0⟩ : Slc)).n) ((fZ.getD r (⟨none, 0, 0⟩ : Slc)).k)) (us := [.slice ((fZ.getD r (⟨none, 0, 0⟩ : Slc)).q) ((fZ.getD r (⟨none, 0, 0⟩ : Slc)).n) ((fZ.getD r (⟨none, 0, 0⟩ : Slc)).k)]) ty67 rfl rfl (at_slq (c := cSlc) (sz := 1) hq18 (fun _ => rfl) 3 rfl (gd (⟨none, 0, 0⟩ : Slc) (by have := hrowsfRowsrs.1; omega))) rfl) (rows_val hrowsfRowsrs (by have := hrowsfRowsrs.1; omega))) ?_
  refine ip 1 0 [(8, .slice ((fZ.getD r (⟨none, 0, 0⟩ : Slc)).q) ((fR.getD r []).length) ((fZ.getD r (⟨none, 0, 0⟩ : Slc)).k))] (by kernel_rfl) ?_
  refine ie ?_
  refine J_seq ?_
  refine sr 10 rfl ?_
  refine ip 2 8 [(29, iv (r : Int)), (30, pt b2 0)] (by kernel_rfl) ?_
  refine ix rfl (det_own_one (v := iv s.top) ty3 rfl rfl 2 rfl rfl) ?_
  refine ip 2 5 [(33, bv (decide (s.top ≤ (r : Int))))] (by kernel_rfl) ?_
  refine iand 5 0 33 38 (decide ((r : Int) ≤ s.bottom)) rfl (by kernel_rfl) (fun g19 => ?_) ?_
  ·have g19p : s.top ≤ (r : Int) := by simpa using g19
   refine ip 2 3 [(34, iv (r : Int)), (35, pt b2 1)] (by kernel_rfl) ?_
   refine ix rfl (det_own_one (v := iv s.bottom) ty3 rfl rfl 2 rfl rfl) ?_
   refine ip 2 0 [(38, bv (decide ((r : Int) ≤ s.bottom)))] (by kernel_rfl) ?_
   exact JI_end (armI 5 33 38 g19 Foll.refl (mc [[bx b14 [iv fC, .slice (va outRowsr.q) outRows.length outRowsr.k, iv fU.row, iv fU.col, bv fV, iv fS, sv fT] 53], [bx b3 [iv 0, .slice none 0 0, iv 0, iv 0, bv false, iv 0, sv ([] : List UInt8)] 53], [bx b2 (cShf s) 55], [bx b1 [iv fC, .slice fQ fR.length fK, iv fU.row, iv fU.col, bv fV, iv fS, sv fT] 53], vo cSlc 67 (⟨some b9, k12, j13⟩ : VR) rs5, vo cSlc 67 outRowsr outRowsrs] [true, true, true, true, true, true] rfl (by first | rfl | (simp only [List.length_set] <;> rfl))) rfl rfl rfl rfl rfl)
  refine ie ?_
  refine J_if rfl (fun h20 => ?_) (fun h20 => ?_)
  ·have h20p : (s.top ≤ (r : Int)) ∧ ((r : Int) ≤ s.bottom) := by simpa using h20
   replace hR := bt hR h20
   refine sr 2 rfl ?_
   refine ip 2 0 [(8, .slice ((rs5.getD 0 (⟨none, 0, 0⟩ : Slc)).q) ((y0.2.1.getD 0 []).length) ((rs5.getD 0 (⟨none, 0, 0⟩ : Slc)).k))] (by kernel_rfl) ?_
   refine ie ?_
   refine sr 16 rfl ?_
   refine ip 2 14 [(40, iv (r : Int)), (41, pt b2 2)] (by kernel_rfl) ?_
   refine ix rfl (det_own_one (v := iv s.amt) ty3 rfl rfl 2 rfl rfl) ?_
   refine ix rfl (DetR.pure rfl) ?_
   refine ip 1 11 [(44, pt b2 0)] (by kernel_rfl) ?_
   refine ix rfl (det_own_one (v := iv s.top) ty3 rfl rfl 2 rfl rfl) ?_
   refine ip 2 8 [(47, bv (decide (s.top ≤ (IntKind.i64.wrap ((r : Int) + s.amt)))))] (by kernel_rfl) ?_
   refine iand 8 0 47 55 (decide ((IntKind.i64.wrap ((r : Int) + s.amt)) ≤ s.bottom)) rfl (by kernel_rfl) (fun g21 => ?_) ?_
   ·have g21p : s.top ≤ (IntKind.i64.wrap ((r : Int) + s.amt)) := by simpa using g21
    refine ip 2 6 [(48, iv (r : Int)), (49, pt b2 2)] (by kernel_rfl) ?_
    refine ix rfl (det_own_one (v := iv s.amt) ty3 rfl rfl 2 rfl rfl) ?_
    refine ix rfl (DetR.pure rfl) ?_
    refine ip 1 3 [(52, pt b2 1)] (by kernel_rfl) ?_
    refine ix rfl (det_own_one (v := iv s.bottom) ty3 rfl rfl 2 rfl rfl) ?_
    refine ip 2 0 [(55, bv (decide ((IntKind.i64.wrap ((r : Int) + s.amt)) ≤ s.bottom)))] (by kernel_rfl) ?_
    exact JI_end (armI 8 47 55 g21 Foll.refl (mc [[bx b14 [iv fC, .slice (va outRowsr.q) outRows.length outRowsr.k, iv fU.row, iv fU.col, bv fV, iv fS, sv fT] 53], [bx b3 [iv 0, .slice none 0 0, iv 0, iv 0, bv false, iv 0, sv ([] : List UInt8)] 53], [bx b2 (cShf s) 55], [bx b1 [iv fC, .slice fQ fR.length fK, iv fU.row, iv fU.col, bv fV, iv fS, sv fT] 53], vo cSlc 67 (⟨some b9, k12, j13⟩ : VR) rs5, vo cSlc 67 outRowsr outRowsrs] [true, true, true, true, true, true] rfl (by first | rfl | (simp only [List.length_set] <;> rfl))) rfl rfl rfl rfl rfl)
   refine ie ?_
   refine J_if rfl (fun h22 => ?_) (fun h22 => ?_)
   ·have h22p : (s.top ≤ (IntKind.i64.wrap ((r : Int) + s.amt))) ∧ ((IntKind.i64.wrap ((r : Int) + s.amt)) ≤ s.bottom) := by simpa using h22
    replace hR := bt hR h22
    refine J_region 9 rfl ?_
    refine ip 1 8 [(56, pt b1 1)] (by kernel_rfl) ?_
    refine ix rfl (det_own_one (v := .slice fQ fR.length fK) ty49 rfl rfl 3 rfl rfl) ?_
    refine ip 2 5 [(58, iv (r : Int)), (59, pt b2 2)] (by kernel_rfl) ?_
    refine ix rfl (det_own_one (v := iv s.amt) ty3 rfl rfl 2 rfl rfl) ?_
    refine ix rfl (DetR.pure rfl) ?_
    refine JI_fact1 (rows_atD (k := (IntKind.i64.wrap ((r : Int) + s.amt)).toNat) (d := (⟨none, 0, 0⟩ : Slc)) hrowsfRowsrs 4 rfl (by have := hrowsfRowsrs.1; omega)) ?_
    have := rows_cap hrowsfRowsrs (k := (IntKind.i64.wrap ((r : Int) + s.amt)).toNat) (d := (⟨none, 0, 0⟩ : Slc)) (by have := hrowsfRowsrs.1; omega)
    refine ix rfl (det_ixq slt49 rfl rfl hq18 rfl ((IntKind.i64.wrap ((r : Int) + s.amt)).toNat) (by omega) (by omega)) ?_
    refine ix rfl (det_conv (det_ld_one (v := .slice ((fZ.getD ((IntKind.i64.wrap ((r : Int) + s.amt)).toNat) (⟨none, 0, 0⟩ : Slc)).q) ((fZ.getD ((IntKind.i64.wrap ((r : Int) + s.amt)).toNat) (⟨none, 0, 0⟩ : Slc)).n) ((fZ.getD ((IntKind.i64.wrap ((r : Int) + s.amt)).toNat) (⟨none, 0, 0⟩ : Slc)).k)) (us := [.slice ((fZ.getD ((IntKind.i64.wrap ((r : Int) + s.amt)).toNat) (⟨none, 0, 0⟩ : Slc)).q) ((fZ.getD ((IntKind.i64.wrap ((r : Int) + s.amt)).toNat) (⟨none, 0, 0⟩ : Slc)).n) ((fZ.getD ((IntKind.i64.wrap ((r : Int) + s.amt)).toNat) (⟨none, 0, 0⟩ : Slc)).k)]) ty67 rfl rfl (at_slq (c := cSlc) (sz := 1) hq18 (fun _ => rfl) 4 rfl (gd (⟨none, 0, 0⟩ : Slc) (by have := hrowsfRowsrs.1; omega))) rfl) (rows_val hrowsfRowsrs (by have := hrowsfRowsrs.1; omega))) ?_
    refine ip 1 0 [(8, .slice ((fZ.getD ((IntKind.i64.wrap ((r : Int) + s.amt)).toNat) (⟨none, 0, 0⟩ : Slc)).q) ((fR.getD ((IntKind.i64.wrap ((r : Int) + s.amt)).toNat) []).length) ((fZ.getD ((IntKind.i64.wrap ((r : Int) + s.amt)).toNat) (⟨none, 0, 0⟩ : Slc)).k))] (by kernel_rfl) ?_
    refine JI_end ?_
    refine nx ?_
    refine J_region 7 rfl ?_
    refine ip 1 6 [(64, pt b14 1)] (by kernel_rfl) ?_
    refine ix rfl (det_own_one (v := .slice (va outRowsr.q) outRows.length outRowsr.k) ty49 rfl rfl 0 rfl rfl) ?_
    refine ip 1 4 [(66, .slice ((fZ.getD ((IntKind.i64.wrap ((r : Int) + s.amt)).toNat) (⟨none, 0, 0⟩ : Slc)).q) ((fR.getD ((IntKind.i64.wrap ((r : Int) + s.amt)).toNat) []).length) ((fZ.getD ((IntKind.i64.wrap ((r : Int) + s.amt)).toNat) (⟨none, 0, 0⟩ : Slc)).k))] (by kernel_rfl) ?_
    refine it rfl (tri_buildSl (c := cSlc) (xs := ([⟨(fZ.getD ((IntKind.i64.wrap ((r : Int) + s.amt)).toNat) (⟨none, 0, 0⟩ : Slc)).q, (fR.getD ((IntKind.i64.wrap ((r : Int) + s.amt)).toNat) []).length, (fZ.getD ((IntKind.i64.wrap ((r : Int) + s.amt)).toNat) (⟨none, 0, 0⟩ : Slc)).k⟩] : List Slc)) slt49 rfl rfl rfl (by kernel_rfl)) fun b23 => ?_
    have hrows24 : RowsOk ([⟨(fZ.getD ((IntKind.i64.wrap ((r : Int) + s.amt)).toNat) (⟨none, 0, 0⟩ : Slc)).q, (fR.getD ((IntKind.i64.wrap ((r : Int) + s.amt)).toNat) []).length, (fZ.getD ((IntKind.i64.wrap ((r : Int) + s.amt)).toNat) (⟨none, 0, 0⟩ : Slc)).k⟩] : List Slc) ([(fR.getD ((IntKind.i64.wrap ((r : Int) + s.amt)).toNat) [])] : List (List Cel)) := (RowsOk.cons ⟨rfl, (by first | omega | (simp <;> omega) | (dsimp only; omega) | decide), (by first | omega | (simp <;> omega) | (dsimp only; omega) | decide)⟩ RowsOk.none)
    refine JI_fact1 (q := rowsF cCel ([⟨(fZ.getD ((IntKind.i64.wrap ((r : Int) + s.amt)).toNat) (⟨none, 0, 0⟩ : Slc)).q, (fR.getD ((IntKind.i64.wrap ((r : Int) + s.amt)).toNat) []).length, (fZ.getD ((IntKind.i64.wrap ((r : Int) + s.amt)).toNat) (⟨none, 0, 0⟩ : Slc)).k⟩] : List Slc) ([(fR.getD ((IntKind.i64.wrap ((r : Int) + s.amt)).toNat) [])] : List (List Cel))) (rows_cons (at_of 1 rfl) rows_none) ?_
    have : ([⟨(fZ.getD ((IntKind.i64.wrap ((r : Int) + s.amt)).toNat) (⟨none, 0, 0⟩ : Slc)).q, (fR.getD ((IntKind.i64.wrap ((r : Int) + s.amt)).toNat) []).length, (fZ.getD ((IntKind.i64.wrap ((r : Int) + s.amt)).toNat) (⟨none, 0, 0⟩ : Slc)).k⟩] : List Slc).length = 1 := rfl
    refine JI_perm (permC [[bx b14 [iv fC, .slice (va outRowsr.q) outRows.length outRowsr.k, iv fU.row, iv fU.col, bv fV, iv fS, sv fT] 53], [bx b3 [iv 0, .slice none 0 0, iv 0, iv 0, bv false, iv 0, sv ([] : List UInt8)] 53], [bx b2 (cShf s) 55], [bx b1 [iv fC, .slice fQ fR.length fK, iv fU.row, iv fU.col, bv fV, iv fS, sv fT] 53], vo cSlc 67 (⟨some b9, k12, j13⟩ : VR) rs5, vo cSlc 67 outRowsr outRowsrs] [0, 1, 2, 3, 5, 4] 6 rfl (by decide) rfl [[bx b14 [iv fC, .slice (va outRowsr.q) outRows.length outRowsr.k, iv fU.row, iv fU.col, bv fV, iv fS, sv fT] 53], [bx b3 [iv 0, .slice none 0 0, iv 0, iv 0, bv false, iv 0, sv ([] : List UInt8)] 53], [bx b2 (cShf s) 55], [bx b1 [iv fC, .slice fQ fR.length fK, iv fU.row, iv fU.col, bv fV, iv fS, sv fT] 53], vo cSlc 67 outRowsr outRowsrs, vo cSlc 67 (⟨some b9, k12, j13⟩ : VR) rs5] rfl (by first | rfl | simp only [List.flatten_cons, List.flatten_nil, List.append_nil, List.cons_append, List.nil_append, List.append_assoc])) ?_
    have hw27 : RowsOk (outRowsrs ++ ([⟨(fZ.getD ((IntKind.i64.wrap ((r : Int) + s.amt)).toNat) (⟨none, 0, 0⟩ : Slc)).q, (fR.getD ((IntKind.i64.wrap ((r : Int) + s.amt)).toNat) []).length, (fZ.getD ((IntKind.i64.wrap ((r : Int) + s.amt)).toNat) (⟨none, 0, 0⟩ : Slc)).k⟩] : List Slc)) (outRows ++ ([(fR.getD ((IntKind.i64.wrap ((r : Int) + s.amt)).toNat) [])] : List (List Cel))) := RowsOk.append hrowsoutRowsrs hrows24
    refine it rfl (tri_app_rows (r := outRowsr) (rs := outRowsrs) (xss := outRows) (pre := [bx b14 [iv fC, .slice (va outRowsr.q) outRows.length outRowsr.k, iv fU.row, iv fU.col, bv fV, iv fS, sv fT] 53, bx b3 [iv 0, .slice none 0 0, iv 0, iv 0, bv false, iv 0, sv ([] : List UInt8)] 53, bx b2 (cShf s) 55, bx b1 [iv fC, .slice fQ fR.length fK, iv fU.row, iv fU.col, bv fV, iv fS, sv fT] 53]) (post := ((vo cSlc 67 (⟨some b9, k12, j13⟩ : VR) rs5) ++ ([]))) apt49 rfl rfl rfl rfl rfl rfl rfl rfl (by first | rfl | simp only [List.cons_append, List.append_assoc, List.nil_append, List.append_nil]) (at_of 1 rfl) (at_of 8 rfl) (at_of 0 rfl) hrowsoutRowsrs hrows24 hokoutRowsr (by first | omega | (simp <;> omega)) (by first | omega | (simp <;> omega))) fun ⟨r25, hr26⟩ => ?_
    have := VOk.le hr26
    have := VOk.cap hr26
    refine JI_perm (permC [[bx b14 [iv fC, .slice (va outRowsr.q) outRows.length outRowsr.k, iv fU.row, iv fU.col, bv fV, iv fS, sv fT] 53], [bx b3 [iv 0, .slice none 0 0, iv 0, iv 0, bv false, iv 0, sv ([] : List UInt8)] 53], [bx b2 (cShf s) 55], [bx b1 [iv fC, .slice fQ fR.length fK, iv fU.row, iv fU.col, bv fV, iv fS, sv fT] 53], vo cSlc 67 r25 (outRowsrs ++ ([⟨(fZ.getD ((IntKind.i64.wrap ((r : Int) + s.amt)).toNat) (⟨none, 0, 0⟩ : Slc)).q, (fR.getD ((IntKind.i64.wrap ((r : Int) + s.amt)).toNat) []).length, (fZ.getD ((IntKind.i64.wrap ((r : Int) + s.amt)).toNat) (⟨none, 0, 0⟩ : Slc)).k⟩] : List Slc)), vo cSlc 67 (⟨some b9, k12, j13⟩ : VR) rs5] [0, 1, 2, 3, 5, 4] 6 rfl (by decide) rfl [[bx b14 [iv fC, .slice (va outRowsr.q) outRows.length outRowsr.k, iv fU.row, iv fU.col, bv fV, iv fS, sv fT] 53], [bx b3 [iv 0, .slice none 0 0, iv 0, iv 0, bv false, iv 0, sv ([] : List UInt8)] 53], [bx b2 (cShf s) 55], [bx b1 [iv fC, .slice fQ fR.length fK, iv fU.row, iv fU.col, bv fV, iv fS, sv fT] 53], vo cSlc 67 (⟨some b9, k12, j13⟩ : VR) rs5, vo cSlc 67 r25 (outRowsrs ++ ([⟨(fZ.getD ((IntKind.i64.wrap ((r : Int) + s.amt)).toNat) (⟨none, 0, 0⟩ : Slc)).q, (fR.getD ((IntKind.i64.wrap ((r : Int) + s.amt)).toNat) []).length, (fZ.getD ((IntKind.i64.wrap ((r : Int) + s.amt)).toNat) (⟨none, 0, 0⟩ : Slc)).k⟩] : List Slc))] rfl (by first | rfl | simp only [List.flatten_cons, List.flatten_nil, List.append_nil, List.cons_append, List.nil_append, List.append_assoc])) ?_
    refine ip 1 1 [(69, pt b14 1)] (by kernel_rfl) ?_
    refine it rfl (tri_store (us := [.slice (va r25.q) ((outRows ++ ([(fR.getD ((IntKind.i64.wrap ((r : Int) + s.amt)).toNat) [])] : List (List Cel))).length) r25.k]) (cs' := [iv fC, .slice (va r25.q) ((outRows ++ ([(fR.getD ((IntKind.i64.wrap ((r : Int) + s.amt)).toNat) [])] : List (List Cel))).length) r25.k, iv fU.row, iv fU.col, bv fV, iv fS, sv fT]) ty49 rfl rfl rfl 0 rfl rfl rfl rfl rfl rfl) fun _ => ?_
    refine JI_end ?_
    refine nx ?_
    refine J_region 3 rfl ?_
    refine ip 1 2 [(22, iv (r : Int))] (by kernel_rfl) ?_
    refine ix rfl (det_add64 rfl rfl rfl rfl (by omega)) ?_
    refine ip 1 0 [(7, iv ((r : Int) + 1))] (by kernel_rfl) ?_
    refine JI_end ?_
    exact againL4 (z1 := r) (z2 := outRows) (z3 := outRowsr) (z4 := outRowsrs) (r + 1) (outRows ++ ([(fR.getD ((IntKind.i64.wrap ((r : Int) + s.amt)).toNat) [])] : List (List Cel))) r25 (outRowsrs ++ ([⟨(fZ.getD ((IntKind.i64.wrap ((r : Int) + s.amt)).toNat) (⟨none, 0, 0⟩ : Slc)).q, (fR.getD ((IntKind.i64.wrap ((r : Int) + s.amt)).toNat) []).length, (fZ.getD ((IntKind.i64.wrap ((r : Int) + s.amt)).toNat) (⟨none, 0, 0⟩ : Slc)).k⟩] : List Slc)) ⟨(by omega), hR, hr26, hw27, (by first | omega | (simp <;> omega))⟩ (by (try dsimp only); omega) ⟨rfl, rfl, rfl, rfl, rfl, (by first | rfl | (simp only [List.length_set]; rfl) | (simp; done) | (simp; omega)), trivial⟩ (mc [[bx b14 [iv fC, .slice (va r25.q) ((outRows ++ ([(fR.getD ((IntKind.i64.wrap ((r : Int) + s.amt)).toNat) [])] : List (List Cel))).length) r25.k, iv fU.row, iv fU.col, bv fV, iv fS, sv fT] 53], [bx b3 [iv 0, .slice none 0 0, iv 0, iv 0, bv false, iv 0, sv ([] : List UInt8)] 53], [bx b2 (cShf s) 55], [bx b1 [iv fC, .slice fQ fR.length fK, iv fU.row, iv fU.col, bv fV, iv fS, sv fT] 53], vo cSlc 67 (⟨some b9, k12, j13⟩ : VR) rs5, vo cSlc 67 r25 (outRowsrs ++ ([⟨(fZ.getD ((IntKind.i64.wrap ((r : Int) + s.amt)).toNat) (⟨none, 0, 0⟩ : Slc)).q, (fR.getD ((IntKind.i64.wrap ((r : Int) + s.amt)).toNat) []).length, (fZ.getD ((IntKind.i64.wrap ((r : Int) + s.amt)).toNat) (⟨none, 0, 0⟩ : Slc)).k⟩] : List Slc))] [true, true, true, true, true, true] rfl (by first | rfl | (simp only [List.length_set] <;> rfl))) (Foll.pick [5, 6, 7, 8, 0] rfl)
   ·have h22p : ¬ ((s.top ≤ (IntKind.i64.wrap ((r : Int) + s.amt))) ∧ ((IntKind.i64.wrap ((r : Int) + s.amt)) ≤ s.bottom)) := by simpa using h22
    replace hR := bf hR h22
    refine J_skip ?_
    refine nx ?_
    refine J_region 7 rfl ?_
    refine ip 1 6 [(64, pt b14 1)] (by kernel_rfl) ?_
    refine ix rfl (det_own_one (v := .slice (va outRowsr.q) outRows.length outRowsr.k) ty49 rfl rfl 0 rfl rfl) ?_
    refine ip 1 4 [(66, .slice ((rs5.getD 0 (⟨none, 0, 0⟩ : Slc)).q) ((y0.2.1.getD 0 []).length) ((rs5.getD 0 (⟨none, 0, 0⟩ : Slc)).k))] (by kernel_rfl) ?_
    refine it rfl (tri_buildSl (c := cSlc) (xs := ([⟨(rs5.getD 0 (⟨none, 0, 0⟩ : Slc)).q, (y0.2.1.getD 0 []).length, (rs5.getD 0 (⟨none, 0, 0⟩ : Slc)).k⟩] : List Slc)) slt49 rfl rfl rfl (by kernel_rfl)) fun b28 => ?_
    have hrows29 : RowsOk ([⟨(rs5.getD 0 (⟨none, 0, 0⟩ : Slc)).q, (y0.2.1.getD 0 []).length, (rs5.getD 0 (⟨none, 0, 0⟩ : Slc)).k⟩] : List Slc) ([(y0.2.1.getD 0 [])] : List (List Cel)) := (RowsOk.cons ⟨rfl, (by first | omega | (simp <;> omega) | (dsimp only; omega) | decide), (by first | omega | (simp <;> omega) | (dsimp only; omega) | decide)⟩ RowsOk.none)
    refine JI_fact1 (q := rowsF cCel ([⟨(rs5.getD 0 (⟨none, 0, 0⟩ : Slc)).q, (y0.2.1.getD 0 []).length, (rs5.getD 0 (⟨none, 0, 0⟩ : Slc)).k⟩] : List Slc) ([(y0.2.1.getD 0 [])] : List (List Cel))) (rows_cons (at_of 2 rfl) rows_none) ?_
    have : ([⟨(rs5.getD 0 (⟨none, 0, 0⟩ : Slc)).q, (y0.2.1.getD 0 []).length, (rs5.getD 0 (⟨none, 0, 0⟩ : Slc)).k⟩] : List Slc).length = 1 := rfl
    refine JI_perm (permC [[bx b14 [iv fC, .slice (va outRowsr.q) outRows.length outRowsr.k, iv fU.row, iv fU.col, bv fV, iv fS, sv fT] 53], [bx b3 [iv 0, .slice none 0 0, iv 0, iv 0, bv false, iv 0, sv ([] : List UInt8)] 53], [bx b2 (cShf s) 55], [bx b1 [iv fC, .slice fQ fR.length fK, iv fU.row, iv fU.col, bv fV, iv fS, sv fT] 53], vo cSlc 67 (⟨some b9, k12, j13⟩ : VR) rs5, vo cSlc 67 outRowsr outRowsrs] [0, 1, 2, 3, 5, 4] 6 rfl (by decide) rfl [[bx b14 [iv fC, .slice (va outRowsr.q) outRows.length outRowsr.k, iv fU.row, iv fU.col, bv fV, iv fS, sv fT] 53], [bx b3 [iv 0, .slice none 0 0, iv 0, iv 0, bv false, iv 0, sv ([] : List UInt8)] 53], [bx b2 (cShf s) 55], [bx b1 [iv fC, .slice fQ fR.length fK, iv fU.row, iv fU.col, bv fV, iv fS, sv fT] 53], vo cSlc 67 outRowsr outRowsrs, vo cSlc 67 (⟨some b9, k12, j13⟩ : VR) rs5] rfl (by first | rfl | simp only [List.flatten_cons, List.flatten_nil, List.append_nil, List.cons_append, List.nil_append, List.append_assoc])) ?_
    have hw32 : RowsOk (outRowsrs ++ ([⟨(rs5.getD 0 (⟨none, 0, 0⟩ : Slc)).q, (y0.2.1.getD 0 []).length, (rs5.getD 0 (⟨none, 0, 0⟩ : Slc)).k⟩] : List Slc)) (outRows ++ ([(y0.2.1.getD 0 [])] : List (List Cel))) := RowsOk.append hrowsoutRowsrs hrows29
    refine it rfl (tri_app_rows (r := outRowsr) (rs := outRowsrs) (xss := outRows) (pre := [bx b14 [iv fC, .slice (va outRowsr.q) outRows.length outRowsr.k, iv fU.row, iv fU.col, bv fV, iv fS, sv fT] 53, bx b3 [iv 0, .slice none 0 0, iv 0, iv 0, bv false, iv 0, sv ([] : List UInt8)] 53, bx b2 (cShf s) 55, bx b1 [iv fC, .slice fQ fR.length fK, iv fU.row, iv fU.col, bv fV, iv fS, sv fT] 53]) (post := ((vo cSlc 67 (⟨some b9, k12, j13⟩ : VR) rs5) ++ ([]))) apt49 rfl rfl rfl rfl rfl rfl rfl rfl (by first | rfl | simp only [List.cons_append, List.append_assoc, List.nil_append, List.append_nil]) (at_of 1 rfl) (at_of 7 rfl) (at_of 0 rfl) hrowsoutRowsrs hrows29 hokoutRowsr (by first | omega | (simp <;> omega)) (by first | omega | (simp <;> omega))) fun ⟨r30, hr31⟩ => ?_
    have := VOk.le hr31
    have := VOk.cap hr31
    refine JI_perm (permC [[bx b14 [iv fC, .slice (va outRowsr.q) outRows.length outRowsr.k, iv fU.row, iv fU.col, bv fV, iv fS, sv fT] 53], [bx b3 [iv 0, .slice none 0 0, iv 0, iv 0, bv false, iv 0, sv ([] : List UInt8)] 53], [bx b2 (cShf s) 55], [bx b1 [iv fC, .slice fQ fR.length fK, iv fU.row, iv fU.col, bv fV, iv fS, sv fT] 53], vo cSlc 67 r30 (outRowsrs ++ ([⟨(rs5.getD 0 (⟨none, 0, 0⟩ : Slc)).q, (y0.2.1.getD 0 []).length, (rs5.getD 0 (⟨none, 0, 0⟩ : Slc)).k⟩] : List Slc)), vo cSlc 67 (⟨some b9, k12, j13⟩ : VR) rs5] [0, 1, 2, 3, 5, 4] 6 rfl (by decide) rfl [[bx b14 [iv fC, .slice (va outRowsr.q) outRows.length outRowsr.k, iv fU.row, iv fU.col, bv fV, iv fS, sv fT] 53], [bx b3 [iv 0, .slice none 0 0, iv 0, iv 0, bv false, iv 0, sv ([] : List UInt8)] 53], [bx b2 (cShf s) 55], [bx b1 [iv fC, .slice fQ fR.length fK, iv fU.row, iv fU.col, bv fV, iv fS, sv fT] 53], vo cSlc 67 (⟨some b9, k12, j13⟩ : VR) rs5, vo cSlc 67 r30 (outRowsrs ++ ([⟨(rs5.getD 0 (⟨none, 0, 0⟩ : Slc)).q, (y0.2.1.getD 0 []).length, (rs5.getD 0 (⟨none, 0, 0⟩ : Slc)).k⟩] : List Slc))] rfl (by first | rfl | simp only [List.flatten_cons, List.flatten_nil, List.append_nil, List.cons_append, List.nil_append, List.append_assoc])) ?_
    refine ip 1 1 [(69, pt b14 1)] (by kernel_rfl) ?_
    refine it rfl (tri_store (us := [.slice (va r30.q) ((outRows ++ ([(y0.2.1.getD 0 [])] : List (List Cel))).length) r30.k]) (cs' := [iv fC, .slice (va r30.q) ((outRows ++ ([(y0.2.1.getD 0 [])] : List (List Cel))).length) r30.k, iv fU.row, iv fU.col, bv fV, iv fS, sv fT]) ty49 rfl rfl rfl 0 rfl rfl rfl rfl rfl rfl) fun _ => ?_
    refine JI_end ?_
    refine nx ?_
    refine J_region 3 rfl ?_
    refine ip 1 2 [(22, iv (r : Int))] (by kernel_rfl) ?_
    refine ix rfl (det_add64 rfl rfl rfl rfl (by omega)) ?_
    refine ip 1 0 [(7, iv ((r : Int) + 1))] (by kernel_rfl) ?_
    refine JI_end ?_
    exact againL4 (z1 := r) (z2 := outRows) (z3 := outRowsr) (z4 := outRowsrs) (r + 1) (outRows ++ ([(y0.2.1.getD 0 [])] : List (List Cel))) r30 (outRowsrs ++ ([⟨(rs5.getD 0 (⟨none, 0, 0⟩ : Slc)).q, (y0.2.1.getD 0 []).length, (rs5.getD 0 (⟨none, 0, 0⟩ : Slc)).k⟩] : List Slc)) ⟨(by omega), hR, hr31, hw32, (by first | omega | (simp <;> omega))⟩ (by (try dsimp only); omega) ⟨rfl, rfl, rfl, rfl, rfl, (by first | rfl | (simp only [List.length_set]; rfl) | (simp; done) | (simp; omega)), trivial⟩ (mc [[bx b14 [iv fC, .slice (va r30.q) ((outRows ++ ([(y0.2.1.getD 0 [])] : List (List Cel))).length) r30.k, iv fU.row, iv fU.col, bv fV, iv fS, sv fT] 53], [bx b3 [iv 0, .slice none 0 0, iv 0, iv 0, bv false, iv 0, sv ([] : List UInt8)] 53], [bx b2 (cShf s) 55], [bx b1 [iv fC, .slice fQ fR.length fK, iv fU.row, iv fU.col, bv fV, iv fS, sv fT] 53], vo cSlc 67 (⟨some b9, k12, j13⟩ : VR) rs5, vo cSlc 67 r30 (outRowsrs ++ ([⟨(rs5.getD 0 (⟨none, 0, 0⟩ : Slc)).q, (y0.2.1.getD 0 []).length, (rs5.getD 0 (⟨none, 0, 0⟩ : Slc)).k⟩] : List Slc))] [true, true, true, true, true, true] rfl (by first | rfl | (simp only [List.length_set] <;> rfl))) (Foll.pick [4, 5, 6, 7, 0] rfl)
  ·have h20p : ¬ ((s.top ≤ (r : Int)) ∧ ((r : Int) ≤ s.bottom)) := by simpa using h20
   replace hR := bf hR h20
   refine J_skip ?_
   refine nx ?_
   refine J_region 7 rfl ?_
   refine ip 1 6 [(64, pt b14 1)] (by kernel_rfl) ?_
   refine ix rfl (det_own_one (v := .slice (va outRowsr.q) outRows.length outRowsr.k) ty49 rfl rfl 0 rfl rfl) ?_
   refine ip 1 4 [(66, .slice ((fZ.getD r (⟨none, 0, 0⟩ : Slc)).q) ((fR.getD r []).length) ((fZ.getD r (⟨none, 0, 0⟩ : Slc)).k))] (by kernel_rfl) ?_
   refine it rfl (tri_buildSl (c := cSlc) (xs := ([⟨(fZ.getD r (⟨none, 0, 0⟩ : Slc)).q, (fR.getD r []).length, (fZ.getD r (⟨none, 0, 0⟩ : Slc)).k⟩] : List Slc)) slt49 rfl rfl rfl (by kernel_rfl)) fun b33 => ?_
   have hrows34 : RowsOk ([⟨(fZ.getD r (⟨none, 0, 0⟩ : Slc)).q, (fR.getD r []).length, (fZ.getD r (⟨none, 0, 0⟩ : Slc)).k⟩] : List Slc) ([(fR.getD r [])] : List (List Cel)) := (RowsOk.cons ⟨rfl, (by first | omega | (simp <;> omega) | (dsimp only; omega) | decide), (by first | omega | (simp <;> omega) | (dsimp only; omega) | decide)⟩ RowsOk.none)
   refine JI_fact1 (q := rowsF cCel ([⟨(fZ.getD r (⟨none, 0, 0⟩ : Slc)).q, (fR.getD r []).length, (fZ.getD r (⟨none, 0, 0⟩ : Slc)).k⟩] : List Slc) ([(fR.getD r [])] : List (List Cel))) (rows_cons (at_of 1 rfl) rows_none) ?_
   have : ([⟨(fZ.getD r (⟨none, 0, 0⟩ : Slc)).q, (fR.getD r []).length, (fZ.getD r (⟨none, 0, 0⟩ : Slc)).k⟩] : List Slc).length = 1 := rfl
   refine JI_perm (permC [[bx b14 [iv fC, .slice (va outRowsr.q) outRows.length outRowsr.k, iv fU.row, iv fU.col, bv fV, iv fS, sv fT] 53], [bx b3 [iv 0, .slice none 0 0, iv 0, iv 0, bv false, iv 0, sv ([] : List UInt8)] 53], [bx b2 (cShf s) 55], [bx b1 [iv fC, .slice fQ fR.length fK, iv fU.row, iv fU.col, bv fV, iv fS, sv fT] 53], vo cSlc 67 (⟨some b9, k12, j13⟩ : VR) rs5, vo cSlc 67 outRowsr outRowsrs] [0, 1, 2, 3, 5, 4] 6 rfl (by decide) rfl [[bx b14 [iv fC, .slice (va outRowsr.q) outRows.length outRowsr.k, iv fU.row, iv fU.col, bv fV, iv fS, sv fT] 53], [bx b3 [iv 0, .slice none 0 0, iv 0, iv 0, bv false, iv 0, sv ([] : List UInt8)] 53], [bx b2 (cShf s) 55], [bx b1 [iv fC, .slice fQ fR.length fK, iv fU.row, iv fU.col, bv fV, iv fS, sv fT] 53], vo cSlc 67 outRowsr outRowsrs, vo cSlc 67 (⟨some b9, k12, j13⟩ : VR) rs5] rfl (by first | rfl | simp only [List.flatten_cons, List.flatten_nil, List.append_nil, List.cons_append, List.nil_append, List.append_assoc])) ?_
   have hw37 : RowsOk (outRowsrs ++ ([⟨(fZ.getD r (⟨none, 0, 0⟩ : Slc)).q, (fR.getD r []).length, (fZ.getD r (⟨none, 0, 0⟩ : Slc)).k⟩] : List Slc)) (outRows ++ ([(fR.getD r [])] : List (List Cel))) := RowsOk.append hrowsoutRowsrs hrows34
   refine it rfl (tri_app_rows (r := outRowsr) (rs := outRowsrs) (xss := outRows) (pre := [bx b14 [iv fC, .slice (va outRowsr.q) outRows.length outRowsr.k, iv fU.row, iv fU.col, bv fV, iv fS, sv fT] 53, bx b3 [iv 0, .slice none 0 0, iv 0, iv 0, bv false, iv 0, sv ([] : List UInt8)] 53, bx b2 (cShf s) 55, bx b1 [iv fC, .slice fQ fR.length fK, iv fU.row, iv fU.col, bv fV, iv fS, sv fT] 53]) (post := ((vo cSlc 67 (⟨some b9, k12, j13⟩ : VR) rs5) ++ ([]))) apt49 rfl rfl rfl rfl rfl rfl rfl rfl (by first | rfl | simp only [List.cons_append, List.append_assoc, List.nil_append, List.append_nil]) (at_of 1 rfl) (at_of 7 rfl) (at_of 0 rfl) hrowsoutRowsrs hrows34 hokoutRowsr (by first | omega | (simp <;> omega)) (by first | omega | (simp <;> omega))) fun ⟨r35, hr36⟩ => ?_
   have := VOk.le hr36
   have := VOk.cap hr36
   refine JI_perm (permC [[bx b14 [iv fC, .slice (va outRowsr.q) outRows.length outRowsr.k, iv fU.row, iv fU.col, bv fV, iv fS, sv fT] 53], [bx b3 [iv 0, .slice none 0 0, iv 0, iv 0, bv false, iv 0, sv ([] : List UInt8)] 53], [bx b2 (cShf s) 55], [bx b1 [iv fC, .slice fQ fR.length fK, iv fU.row, iv fU.col, bv fV, iv fS, sv fT] 53], vo cSlc 67 r35 (outRowsrs ++ ([⟨(fZ.getD r (⟨none, 0, 0⟩ : Slc)).q, (fR.getD r []).length, (fZ.getD r (⟨none, 0, 0⟩ : Slc)).k⟩] : List Slc)), vo cSlc 67 (⟨some b9, k12, j13⟩ : VR) rs5] [0, 1, 2, 3, 5, 4] 6 rfl (by decide) rfl [[bx b14 [iv fC, .slice (va outRowsr.q) outRows.length outRowsr.k, iv fU.row, iv fU.col, bv fV, iv fS, sv fT] 53], [bx b3 [iv 0, .slice none 0 0, iv 0, iv 0, bv false, iv 0, sv ([] : List UInt8)] 53], [bx b2 (cShf s) 55], [bx b1 [iv fC, .slice fQ fR.length fK, iv fU.row, iv fU.col, bv fV, iv fS, sv fT] 53], vo cSlc 67 (⟨some b9, k12, j13⟩ : VR) rs5, vo cSlc 67 r35 (outRowsrs ++ ([⟨(fZ.getD r (⟨none, 0, 0⟩ : Slc)).q, (fR.getD r []).length, (fZ.getD r (⟨none, 0, 0⟩ : Slc)).k⟩] : List Slc))] rfl (by first | rfl | simp only [List.flatten_cons, List.flatten_nil, List.append_nil, List.cons_append, List.nil_append, List.append_assoc])) ?_
   refine ip 1 1 [(69, pt b14 1)] (by kernel_rfl) ?_
   refine it rfl (tri_store (us := [.slice (va r35.q) ((outRows ++ ([(fR.getD r [])] : List (List Cel))).length) r35.k]) (cs' := [iv fC, .slice (va r35.q) ((outRows ++ ([(fR.getD r [])] : List (List Cel))).length) r35.k, iv fU.row, iv fU.col, bv fV, iv fS, sv fT]) ty49 rfl rfl rfl 0 rfl rfl rfl rfl rfl rfl) fun _ => ?_
   refine JI_end ?_
   refine nx ?_
   refine J_region 3 rfl ?_
   refine ip 1 2 [(22, iv (r : Int))] (by kernel_rfl) ?_
   refine ix rfl (det_add64 rfl rfl rfl rfl (by omega)) ?_
   refine ip 1 0 [(7, iv ((r : Int) + 1))] (by kernel_rfl) ?_
   refine JI_end ?_
   exact againL4 (z1 := r) (z2 := outRows) (z3 := outRowsr) (z4 := outRowsrs) (r + 1) (outRows ++ ([(fR.getD r [])] : List (List Cel))) r35 (outRowsrs ++ ([⟨(fZ.getD r (⟨none, 0, 0⟩ : Slc)).q, (fR.getD r []).length, (fZ.getD r (⟨none, 0, 0⟩ : Slc)).k⟩] : List Slc)) ⟨(by omega), hR, hr36, hw37, (by first | omega | (simp <;> omega))⟩ (by (try dsimp only); omega) ⟨rfl, rfl, rfl, rfl, rfl, (by first | rfl | (simp only [List.length_set]; rfl) | (simp; done) | (simp; omega)), trivial⟩ (mc [[bx b14 [iv fC, .slice (va r35.q) ((outRows ++ ([(fR.getD r [])] : List (List Cel))).length) r35.k, iv fU.row, iv fU.col, bv fV, iv fS, sv fT] 53], [bx b3 [iv 0, .slice none 0 0, iv 0, iv 0, bv false, iv 0, sv ([] : List UInt8)] 53], [bx b2 (cShf s) 55], [bx b1 [iv fC, .slice fQ fR.length fK, iv fU.row, iv fU.col, bv fV, iv fS, sv fT] 53], vo cSlc 67 (⟨some b9, k12, j13⟩ : VR) rs5, vo cSlc 67 r35 (outRowsrs ++ ([⟨(fZ.getD r (⟨none, 0, 0⟩ : Slc)).q, (fR.getD r []).length, (fZ.getD r (⟨none, 0, 0⟩ : Slc)).k⟩] : List Slc))] [true, true, true, true, true, true] rfl (by first | rfl | (simp only [List.length_set] <;> rfl))) (Foll.pick [4, 5, 6, 7, 0] rfl)
 ·have h16p : ¬ ((r : Int) < (fR.length : Int)) := by simpa using h16
  rw [dropn h16p] at hR; replace hR := (ref28_Done_l0.eq_1 ..).symm.trans hR
  refine J_exit ?_
  refine nx ?_
  refine sr 2 rfl ?_
  refine ix rfl (det_own_agg (us := [iv fC, .slice (va outRowsr.q) outRows.length outRowsr.k, iv fU.row, iv fU.col, bv fV, iv fS, sv fT]) ty53 rfl rfl 0 rfl rfl rfl) ?_
  refine it rfl (tri_store (us := [iv fC, .slice (va outRowsr.q) outRows.length outRowsr.k, iv fU.row, iv fU.col, bv fV, iv fS, sv fT]) (cs' := [iv fC, .slice (va outRowsr.q) outRows.length outRowsr.k, iv fU.row, iv fU.col, bv fV, iv fS, sv fT]) ty53 rfl rfl rfl 1 rfl rfl rfl rfl rfl rfl) fun _ => ?_
  refine ie ?_
  refine J_ret ?_
  subst hR
  exact ends_ret rfl ⟨hr, hD⟩ (by simp [hD]) (res1 rfl (resV_cell (us := [iv fC, .slice (va outRowsr.q) outRows.length outRowsr.k, iv fU.row, iv fU.col, bv fV, iv fS, sv fT]) ty53 rfl 1 rfl rfl rfl)) ⟨(outRowsr, outRowsrs), ⟨hokoutRowsr, hrowsoutRowsrs⟩⟩ (by rfl) (mc [[bx b14 [iv fC, .slice (va outRowsr.q) outRows.length outRowsr.k, iv fU.row, iv fU.col, bv fV, iv fS, sv fT] 53], [bx b3 [iv fC, .slice (va outRowsr.q) outRows.length outRowsr.k, iv fU.row, iv fU.col, bv fV, iv fS, sv fT] 53], [bx b2 (cShf s) 55], [bx b1 [iv fC, .slice fQ fR.length fK, iv fU.row, iv fU.col, bv fV, iv fS, sv fT] 53], vo cSlc 67 (⟨some b9, k12, j13⟩ : VR) rs5, vo cSlc 67 outRowsr outRowsrs] [false, false, false, false, false, true] rfl (by first | rfl | (simp only [List.length_set] <;> rfl))) (Foll.con1 (at_of 4 rfl) Foll.nil)

end Go.Proofs.YtinkdfnpmoljfaaGreatDoor

