import Derived.Test.YtinkdfnpmoljfaaGreatDoorD2
import Derived.Test.YtinkdfnpmoljfaaGreatDoorFenX
import Derived.Test.YtinkdfnpmoljfaaGreatDoorIto
import Derived.Test.YtinkdfnpmoljfaaGreatDoorProg
import Derived.Test.YtinkdfnpmoljfaaGreatDoorP1
import Derived.Test.YtinkdfnpmoljfaaGreatDoorP2
import Derived.Test.YtinkdfnpmoljfaaGreatDoorP3
import Derived.Test.YtinkdfnpmoljfaaGreatDoorP4
set_option linter.unusedVariables false
set_option linter.unusedSimpArgs false
set_option linter.unnecessarySimpa false
set_option maxRecDepth 100000
namespace Go.Proofs.YtinkdfnpmoljfaaGreatDoor
open Go Go.Fen
theorem apt27 : ApTy Tryz.prog 27 26 6 56 := ⟨by kernel_rfl, by kernel_rfl, rfl⟩
theorem eqt70 : EqT Tryz.prog 70 cSty := EqT.of 20 rfl (by kernel_rfl) (by kernel_rfl) (fun _ _ => by kernel_rfl) cSty.inj
theorem ty27 : Ty Tryz.prog 27 1 false := ⟨by kernel_rfl⟩
theorem ty70 : Ty Tryz.prog 70 8 true := ⟨by kernel_rfl⟩
theorem ty187 : Ty Tryz.prog 187 5 true := ⟨by kernel_rfl⟩
theorem zero70 : Zero Tryz.prog 70 (cSty Sty.zero) := ⟨by kernel_rfl⟩
theorem zero187 : Zero Tryz.prog 187 [iv 0, iv 0, iv 0, iv 0, iv 0] := ⟨by kernel_rfl⟩
def pen_row_add (what : Int) (m : Int) (c : Col) : List Act :=
 (([] : List Act) ++ ([{ Act.zero with kind := 39, n := what, m := m, color := c }] : List Act))

theorem pen_row_add_len (what m : Int) (c : Col) : (pen_row_add what m c).length = 1 := by
 unfold pen_row_add; simp

theorem pen_row_add_c (what : Int) (m : Int) (c : Col) (rb : Nat) (hn : ([] : List Act).length ≤ 2000) (R : List Act) (hR : pen_row_add what m c = R) : Con Tryz.prog 133 [pt rb 0, iv what, iv m, ag (cCol c)] [bx rb [.slice none 0 0] 184] [] ({r : VR // VOk 6 R.length r}) (fun x => .tuple #[]) (fun x => (bx rb [.slice (va x.1.q) R.length x.1.k] 184 :: (vo cAct 26 x.1 R) ++ ([]))) (fun x => []) := by
 refine con_of_J (n := 23) Tryz.func133 rfl (by kernel_rfl) rfl rfl [(0, pt rb 0), (1, iv what), (2, iv m), (3, ag (cCol c))] ⟨rfl, rfl, rfl, rfl, trivial⟩ fun X hX hr hD => ?_
 replace hR := (pen_row_add.eq_1 ..).symm.trans hR
 refine sr 1 rfl ?_
 refine it rfl (tri_box (cs := cCol c) rfl rfl rfl) fun b1 => ?_
 refine ie ?_
 refine sh' 16 [(16, [bx b1 (cCol c) 24]), (15, [bx rb [.slice none 0 0] 184])] [] [bx b1 (cCol c) 24, bx rb [.slice none 0 0] 184] #[false, false, false, false, false, false, false, false, false, false, false, false, false, false, false, false] (by kernel_rfl) rfl (by kernel_rfl) (by kernel_rfl) (by kernel_rfl) (mk [true, true] rfl) Foll.refl ?_
 refine hpur [0, 1, 2, 3, 4, 6, 7] 9 #[true, true, true, true, true, false, true, true, false, false, false, false, false, false, false, false] [(8, pt rb 0), (12, pt rb 0), (14, iv what), (15, iv m)] (by kernel_rfl) ?_
 refine htak 5 [bx b1 (cCol c) 24, bx rb [.slice none 0 0] 184] #[true, true, true, true, true, true, true, true, false, false, false, false, false, false, false, false] rfl rfl rfl (by kernel_rfl) (by kernel_rfl) (by kernel_rfl) (det_own_one (v := .slice none 0 0) ty27 rfl rfl 1 rfl rfl) ?_
 refine htak 8 [bx b1 (cCol c) 24, bx rb [.slice none 0 0] 184] #[true, true, true, true, true, true, true, true, true, false, false, false, false, false, false, false] rfl rfl rfl (by kernel_rfl) (by kernel_rfl) (by kernel_rfl) (det_own_agg (us := cCol c) ty24 rfl rfl 0 rfl rfl rfl) ?_
 refine htak 9 [bx b1 (cCol c) 24, bx rb [.slice none 0 0] 184] #[true, true, true, true, true, true, true, true, true, true, false, false, false, false, false, false] rfl rfl rfl (by kernel_rfl) (by kernel_rfl) (by kernel_rfl) (det_build (cs := cAct ({ Act.zero with kind := 39, n := what, m := m, color := c })) rfl rfl (by kernel_rfl)) ?_
 refine hone 10 [bx b1 (cCol c) 24, bx rb [.slice none 0 0] 184] #[true, true, true, true, true, true, true, true, true, true, true, false, false, false, false, false] rfl rfl rfl (by kernel_rfl) (by kernel_rfl) (by kernel_rfl) (tri_buildSl (c := cAct) (xs := ([{ Act.zero with kind := 39, n := what, m := m, color := c }] : List Act)) slt27 rfl rfl rfl (by kernel_rfl)) (fun b2 => (mk [true, true] rfl)) (fun b2 => Foll.nil) fun b2 => ?_
 have : ([{ Act.zero with kind := 39, n := what, m := m, color := c }] : List Act).length = 1 := rfl
 refine hone 11 [bx b1 (cCol c) 24, bx rb [.slice none 0 0] 184] #[true, true, true, true, true, true, true, true, true, true, true, true, false, false, false, false] rfl rfl rfl (by kernel_rfl) (by kernel_rfl) (by kernel_rfl) (tri_app1 (f := cAct) (r := VR.nil) (xs := ([] : List Act)) (ys := ([{ Act.zero with kind := 39, n := what, m := m, color := c }] : List Act)) (pre := [bx b1 (cCol c) 24, bx rb [.slice none 0 0] 184]) (post := []) apt27 (fun _ => rfl) (fun _ => rfl) rfl rfl rfl rfl rfl rfl rfl rfl rfl (at_of 0 rfl) VOk.nil (by first | omega | (simp <;> omega)) (by first | omega | (simp <;> omega))) (fun ⟨r3, hr4⟩ => (mc [[bx b1 (cCol c) 24], [bx rb [.slice none 0 0] 184], vo cAct 26 r3 (([] : List Act) ++ ([{ Act.zero with kind := 39, n := what, m := m, color := c }] : List Act))] [true, true, false] rfl (by first | rfl | (simp only [List.length_set] <;> rfl)))) (fun ⟨r3, hr4⟩ => Foll.nil) fun ⟨r3, hr4⟩ => ?_
 have := VOk.le hr4
 have := VOk.cap hr4
 refine hpur [12, 13, 14] 1 #[true, true, true, true, true, true, true, true, true, true, true, true, true, true, true, false] [(22, pt rb 0)] (by kernel_rfl) ?_
 refine hone 15 [bx b1 (cCol c) 24] #[true, true, true, true, true, true, true, true, true, true, true, true, true, true, true, true] rfl rfl rfl (by kernel_rfl) (by kernel_rfl) (by kernel_rfl) (tri_store (us := [.slice (va r3.q) ((([] : List Act) ++ ([{ Act.zero with kind := 39, n := what, m := m, color := c }] : List Act)).length) r3.k]) (cs' := [.slice (va r3.q) ((([] : List Act) ++ ([{ Act.zero with kind := 39, n := what, m := m, color := c }] : List Act)).length) r3.k]) ty27 rfl rfl rfl 1 rfl rfl rfl rfl rfl rfl) (fun _ => (mc [[bx b1 (cCol c) 24], [bx rb [.slice (va r3.q) ((([] : List Act) ++ ([{ Act.zero with kind := 39, n := what, m := m, color := c }] : List Act)).length) r3.k] 184], vo cAct 26 r3 (([] : List Act) ++ ([{ Act.zero with kind := 39, n := what, m := m, color := c }] : List Act))] [true, false, false] rfl (by first | rfl | (simp only [List.length_set] <;> rfl)))) (fun _ => Foll.nil) fun _ => ?_
 refine JH_done (by kernel_rfl) ?_
 subst hR
 exact ends_normal rfl ⟨hr, hD⟩ (by simp [hD]) (res0 rfl) ⟨r3, hr4⟩ (by rfl) (mc [[bx b1 (cCol c) 24], [bx rb [.slice (va r3.q) ((([] : List Act) ++ ([{ Act.zero with kind := 39, n := what, m := m, color := c }] : List Act)).length) r3.k] 184], vo cAct 26 r3 (([] : List Act) ++ ([{ Act.zero with kind := 39, n := what, m := m, color := c }] : List Act))] [false, true, true] rfl (by first | rfl | (simp only [List.length_set] <;> rfl))) Foll.nil

def pen_row_adda (r : List Act) (what : Int) (m : Int) (c : Col) : List Act :=
 (r ++ ([{ Act.zero with kind := 39, n := what, m := m, color := c }] : List Act))

theorem pen_row_adda_len (r : List Act) (what m : Int) (c : Col) : (pen_row_adda r what m c).length = r.length + 1 := by
 unfold pen_row_adda; simp

theorem pen_row_adda_c (r : List Act) (what : Int) (m : Int) (c : Col) (rb : Nat) (rr : VR) (hokrr : VOk 6 r.length rr) (hn : r.length ≤ 2000) (R : List Act) (hR : pen_row_adda r what m c = R) : Con Tryz.prog 133 [pt rb 0, iv what, iv m, ag (cCol c)] (bx rb [.slice (va rr.q) r.length rr.k] 184 :: (vo cAct 26 rr r) ++ ([])) [] ({r : VR // VOk 6 R.length r}) (fun x => .tuple #[]) (fun x => (bx rb [.slice (va x.1.q) R.length x.1.k] 184 :: (vo cAct 26 x.1 R) ++ ([]))) (fun x => []) := by
 refine con_of_J (n := 23) Tryz.func133 rfl (by kernel_rfl) rfl rfl [(0, pt rb 0), (1, iv what), (2, iv m), (3, ag (cCol c))] ⟨rfl, rfl, rfl, rfl, trivial⟩ fun X hX hr hD => ?_
 replace hR := (pen_row_adda.eq_1 ..).symm.trans hR
 have := VOk.le hokrr
 refine sr 1 rfl ?_
 refine it rfl (tri_box (cs := cCol c) rfl rfl rfl) fun b1 => ?_
 refine ie ?_
 refine sh' 16 [(16, [bx b1 (cCol c) 24]), (15, [bx rb [.slice (va rr.q) r.length rr.k] 184]), (11, vo cAct 26 rr r)] [] (bx b1 (cCol c) 24 :: bx rb [.slice (va rr.q) r.length rr.k] 184 :: (vo cAct 26 rr r) ++ ([])) #[false, false, false, false, false, false, false, false, false, false, false, false, false, false, false, false] (by kernel_rfl) rfl (by kernel_rfl) (by kernel_rfl) (by kernel_rfl) (mc [[bx b1 (cCol c) 24], [bx rb [.slice (va rr.q) r.length rr.k] 184], vo cAct 26 rr r] [true, true, true] rfl (by first | rfl | (simp only [List.length_set] <;> rfl))) Foll.refl ?_
 refine hpur [0, 1, 2, 3, 4, 6, 7] 9 #[true, true, true, true, true, false, true, true, false, false, false, false, false, false, false, false] [(8, pt rb 0), (12, pt rb 0), (14, iv what), (15, iv m)] (by kernel_rfl) ?_
 refine htak 5 (bx b1 (cCol c) 24 :: bx rb [.slice (va rr.q) r.length rr.k] 184 :: (vo cAct 26 rr r) ++ ([])) #[true, true, true, true, true, true, true, true, false, false, false, false, false, false, false, false] rfl rfl rfl (by kernel_rfl) (by kernel_rfl) (by kernel_rfl) (det_own_one (v := .slice (va rr.q) r.length rr.k) ty27 rfl rfl 1 rfl rfl) ?_
 refine htak 8 [bx b1 (cCol c) 24, bx rb [.slice (va rr.q) r.length rr.k] 184] #[true, true, true, true, true, true, true, true, true, false, false, false, false, false, false, false] rfl rfl rfl (by kernel_rfl) (by kernel_rfl) (by kernel_rfl) (det_own_agg (us := cCol c) ty24 rfl rfl 0 rfl rfl rfl) ?_
 refine htak 9 [bx b1 (cCol c) 24, bx rb [.slice (va rr.q) r.length rr.k] 184] #[true, true, true, true, true, true, true, true, true, true, false, false, false, false, false, false] rfl rfl rfl (by kernel_rfl) (by kernel_rfl) (by kernel_rfl) (det_build (cs := cAct ({ Act.zero with kind := 39, n := what, m := m, color := c })) rfl rfl (by kernel_rfl)) ?_
 refine hone 10 (bx b1 (cCol c) 24 :: bx rb [.slice (va rr.q) r.length rr.k] 184 :: (vo cAct 26 rr r) ++ ([])) #[true, true, true, true, true, true, true, true, true, true, true, false, false, false, false, false] rfl rfl rfl (by kernel_rfl) (by kernel_rfl) (by kernel_rfl) (tri_buildSl (c := cAct) (xs := ([{ Act.zero with kind := 39, n := what, m := m, color := c }] : List Act)) slt27 rfl rfl rfl (by kernel_rfl)) (fun b2 => (mc [[bx b1 (cCol c) 24], [bx rb [.slice (va rr.q) r.length rr.k] 184], vo cAct 26 rr r] [true, true, true] rfl (by first | rfl | (simp only [List.length_set] <;> rfl)))) (fun b2 => Foll.nil) fun b2 => ?_
 have : ([{ Act.zero with kind := 39, n := what, m := m, color := c }] : List Act).length = 1 := rfl
 refine hone 11 [bx b1 (cCol c) 24, bx rb [.slice (va rr.q) r.length rr.k] 184] #[true, true, true, true, true, true, true, true, true, true, true, true, false, false, false, false] rfl rfl rfl (by kernel_rfl) (by kernel_rfl) (by kernel_rfl) (tri_app1 (f := cAct) (r := rr) (xs := r) (ys := ([{ Act.zero with kind := 39, n := what, m := m, color := c }] : List Act)) (pre := [bx b1 (cCol c) 24, bx rb [.slice (va rr.q) r.length rr.k] 184]) (post := []) apt27 (fun _ => rfl) (fun _ => rfl) rfl rfl rfl rfl rfl rfl rfl rfl rfl (at_of 0 rfl) hokrr (by first | omega | (simp <;> omega)) (by first | omega | (simp <;> omega))) (fun ⟨r3, hr4⟩ => (mc [[bx b1 (cCol c) 24], [bx rb [.slice (va rr.q) r.length rr.k] 184], vo cAct 26 r3 (r ++ ([{ Act.zero with kind := 39, n := what, m := m, color := c }] : List Act))] [true, true, false] rfl (by first | rfl | (simp only [List.length_set] <;> rfl)))) (fun ⟨r3, hr4⟩ => Foll.nil) fun ⟨r3, hr4⟩ => ?_
 have := VOk.le hr4
 have := VOk.cap hr4
 refine hpur [12, 13, 14] 1 #[true, true, true, true, true, true, true, true, true, true, true, true, true, true, true, false] [(22, pt rb 0)] (by kernel_rfl) ?_
 refine hone 15 [bx b1 (cCol c) 24] #[true, true, true, true, true, true, true, true, true, true, true, true, true, true, true, true] rfl rfl rfl (by kernel_rfl) (by kernel_rfl) (by kernel_rfl) (tri_store (us := [.slice (va r3.q) ((r ++ ([{ Act.zero with kind := 39, n := what, m := m, color := c }] : List Act)).length) r3.k]) (cs' := [.slice (va r3.q) ((r ++ ([{ Act.zero with kind := 39, n := what, m := m, color := c }] : List Act)).length) r3.k]) ty27 rfl rfl rfl 1 rfl rfl rfl rfl rfl rfl) (fun _ => (mc [[bx b1 (cCol c) 24], [bx rb [.slice (va r3.q) ((r ++ ([{ Act.zero with kind := 39, n := what, m := m, color := c }] : List Act)).length) r3.k] 184], vo cAct 26 r3 (r ++ ([{ Act.zero with kind := 39, n := what, m := m, color := c }] : List Act))] [true, false, false] rfl (by first | rfl | (simp only [List.length_set] <;> rfl)))) (fun _ => Foll.nil) fun _ => ?_
 refine JH_done (by kernel_rfl) ?_
 subst hR
 exact ends_normal rfl ⟨hr, hD⟩ (by simp [hD]) (res0 rfl) ⟨r3, hr4⟩ (by rfl) (mc [[bx b1 (cCol c) 24], [bx rb [.slice (va r3.q) ((r ++ ([{ Act.zero with kind := 39, n := what, m := m, color := c }] : List Act)).length) r3.k] 184], vo cAct 26 r3 (r ++ ([{ Act.zero with kind := 39, n := what, m := m, color := c }] : List Act))] [false, true, true] rfl (by first | rfl | (simp only [List.length_set] <;> rfl))) Foll.nil

def pen_changes_j4 (bit : Int) (ag_pen_changes_l0 : Int → List Act → List Act) (y16 : List Act) : List Act :=
 ag_pen_changes_l0 (bit * 2) y16
def pen_changes_j15 (y15 : List Act) : List Act :=
 y15
def pen_changes_j14 (from_ : Sty) (to : Sty) (y5 : List Act) : List Act :=
 (bif (!(decide (from_.line = to.line))) then (bindV (pen_row_adda y5 6 0 to.line) fun (y14 : List Act) => pen_changes_j15 y14) else pen_changes_j15 y5)
def pen_changes_j13 (from_ : Sty) (to : Sty) (y8 : List Act) : List Act :=
 (bif (!(decide (from_.back = to.back))) then (bindV (pen_row_adda y8 5 0 to.back) fun (y12 : List Act) => pen_changes_j14 from_ to y12) else pen_changes_j14 from_ to y8)
def pen_changes_j9 (from_ : Sty) (to : Sty) (y6 : List Act) : List Act :=
 (bif (!(decide (from_.fore = to.fore))) then (bindV (pen_row_adda y6 4 0 to.fore) fun (y13 : List Act) => pen_changes_j13 from_ to y13) else pen_changes_j13 from_ to y6)
def pen_changes_j8 (bit1 : Int) (ag_pen_changes_l1 : Int → List Act → List Act) (y17 : List Act) : List Act :=
 ag_pen_changes_l1 (bit1 * 2) y17
def pen_changes_l1 (from_ : Sty) (to : Sty) (has : Int) : Nat → Int → List Act → List Act
 | 0, _, _ => []
 | fu3 + 1, bit1, rlaid2 => (bif (decide ((255 : Int) < bit1)) then (bif (!decide (from_.under = to.under)) then (bindV (pen_row_adda rlaid2 3 to.under Col.zero) fun (y11 : List Act) => pen_changes_j9 from_ to y11) else pen_changes_j9 from_ to rlaid2) else (bif ((!decide ((bOp .and .i64 to.attr bit1) = 0)) && (decide ((bOp .and .i64 has bit1) = 0))) then (bindV (pen_row_adda rlaid2 1 bit1 Col.zero) fun (y10 : List Act) => pen_changes_j8 bit1 (pen_changes_l1 from_ to has fu3) y10) else pen_changes_j8 bit1 (pen_changes_l1 from_ to has fu3) rlaid2))
def pen_changes_l0 (from_ : Sty) (to : Sty) (has : Int) : Nat → Int → List Act → List Act
 | 0, _, _ => []
 | fu1 + 1, bit, rlaid => (bif (decide (bit ≤ 255)) then (bif ((!decide ((bOp .and .i64 has bit) = 0)) && (decide ((bOp .and .i64 to.attr bit) = 0))) then (bindV (pen_row_adda rlaid 2 bit Col.zero) fun (y1 : List Act) => pen_changes_j4 bit (pen_changes_l0 from_ to has fu1) y1) else pen_changes_j4 bit (pen_changes_l0 from_ to has fu1) rlaid) else pen_changes_l1 from_ to has (((512 : Int) - 1).toNat + 1) 1 rlaid)
def pen_changes_j0 (from_ : Sty) (to : Sty) (has : Int) (t14laid : List Act) : List Act :=
 pen_changes_l0 from_ to has (((512 : Int) - 1).toNat + 1) 1 t14laid
def pen_changes (from_ : Sty) (to : Sty) : List Act :=
 (bif (!decide ((bOp .and .i64 (bOp .andNot .i64 from_.attr to.attr) 3) = 0)) then (bindV (pen_row_add 2 3 Col.zero) fun (y0 : List Act) => pen_changes_j0 from_ to (bOp .andNot .i64 from_.attr 3) y0) else pen_changes_j0 from_ to from_.attr ([] : List Act))

def pA (n m : Int) : Act := { Act.zero with kind := 39, n := n, m := m }
def pC (n : Int) (c : Col) : Act := { Act.zero with kind := 39, n := n, color := c }
def oneIf (c : Bool) (a : Act) : List Act := bif c then [a] else []
def bits8 : List Int := [1, 2, 4, 8, 16, 32, 64, 128]
def clrC (has : Int) (t : Sty) (b : Int) : Bool := (!decide ((bOp .and .i64 has b) = 0)) && (decide ((bOp .and .i64 t.attr b) = 0))
def setC (has : Int) (t : Sty) (b : Int) : Bool := (!decide ((bOp .and .i64 t.attr b) = 0)) && (decide ((bOp .and .i64 has b) = 0))
def clrs (has : Int) (t : Sty) : List Act := bits8.flatMap fun b => oneIf (clrC has t b) (pA 2 b)
def sets (has : Int) (t : Sty) : List Act := bits8.flatMap fun b => oneIf (setC has t b) (pA 1 b)
def tails (f t : Sty) : List Act := oneIf (!decide (f.under = t.under)) (pA 3 t.under) ++ (oneIf (!decide (f.fore = t.fore)) (pC 4 t.fore) ++ (oneIf (!decide (f.back = t.back)) (pC 5 t.back) ++ oneIf (!decide (f.line = t.line)) (pC 6 t.line)))
def goneC (f t : Sty) : Bool := !decide ((bOp .and .i64 (bOp .andNot .i64 f.attr t.attr) 3) = 0)
def hasA (f t : Sty) : Int := bif goneC f t then bOp .andNot .i64 f.attr 3 else f.attr
def chg (f t : Sty) : List Act := oneIf (goneC f t) (pA 2 3) ++ (clrs (hasA f t) t ++ (sets (hasA f t) t ++ tails f t))
theorem oneIf_mem {c : Bool} {a x : Act} (h : x ∈ oneIf c a) : x = a := by cases c <;> simp [oneIf] at h; exact h
theorem oneIf_len (c : Bool) (a : Act) : (oneIf c a).length ≤ 1 := by cases c <;> simp [oneIf]
theorem pen_changes_j9_eq (f t : Sty) (l : List Act) : pen_changes_j9 f t l = l ++ (oneIf (!decide (f.fore = t.fore)) (pC 4 t.fore) ++ (oneIf (!decide (f.back = t.back)) (pC 5 t.back) ++ oneIf (!decide (f.line = t.line)) (pC 6 t.line))) := by
 unfold pen_changes_j9 pen_changes_j13 pen_changes_j14 pen_changes_j15
 simp only [bindV, pen_row_adda]
 generalize decide (f.fore = t.fore) = a
 generalize decide (f.back = t.back) = b
 generalize decide (f.line = t.line) = c
 cases a <;> cases b <;> cases c <;> simp [oneIf, pC, Act.zero]
theorem pen_changes_l1_step (f t : Sty) (has : Int) (F : Nat) (b : Int) (l : List Act) (hb : b ≤ 255) : pen_changes_l1 f t has (F + 1) b l = pen_changes_l1 f t has F (b * 2) (l ++ oneIf (setC has t b) (pA 1 b)) := by
 rw [pen_changes_l1, decide_eq_false (by omega : ¬ (255 : Int) < b), cond_false]
 show (bif setC has t b then _ else _) = _
 cases setC has t b with
 | true => simp only [cond_true, bindV, pen_changes_j8]; rfl
 | false => simp only [cond_false, pen_changes_j8, oneIf, List.append_nil]
theorem pen_changes_l1_end (f t : Sty) (has : Int) (F : Nat) (l : List Act) : pen_changes_l1 f t has (F + 1) 256 l = l ++ tails f t := by
 rw [pen_changes_l1, decide_eq_true (by omega : (255 : Int) < 256), cond_true]
 unfold tails
 cases decide (f.under = t.under) with
 | true => simp only [Bool.not_true, cond_false, pen_changes_j9_eq, oneIf, List.nil_append]
 | false => simp only [Bool.not_false, cond_true, bindV, pen_changes_j9_eq, oneIf, pen_row_adda, List.append_assoc]; rfl
theorem pen_changes_l1_eq (f t : Sty) (has : Int) (F : Nat) (hF : 9 ≤ F) (l : List Act) : pen_changes_l1 f t has F 1 l = l ++ (sets has t ++ tails f t) := by
 obtain ⟨G, rfl⟩ : ∃ G, F = G + 1 + 1 + 1 + 1 + 1 + 1 + 1 + 1 + 1 := ⟨F - 9, by omega⟩
 rw [pen_changes_l1_step _ _ _ _ _ _ (by omega), pen_changes_l1_step _ _ _ _ _ _ (by omega), pen_changes_l1_step _ _ _ _ _ _ (by omega), pen_changes_l1_step _ _ _ _ _ _ (by omega), pen_changes_l1_step _ _ _ _ _ _ (by omega), pen_changes_l1_step _ _ _ _ _ _ (by omega), pen_changes_l1_step _ _ _ _ _ _ (by omega), pen_changes_l1_step _ _ _ _ _ _ (by omega)]
 rw [show (1 : Int) * 2 * 2 * 2 * 2 * 2 * 2 * 2 * 2 = 256 by omega, pen_changes_l1_end]
 unfold sets bits8
 simp only [List.flatMap_cons, List.flatMap_nil, List.append_assoc, List.append_nil, List.nil_append]
 rfl
theorem pen_changes_l0_step (f t : Sty) (has : Int) (F : Nat) (b : Int) (l : List Act) (hb : b ≤ 255) : pen_changes_l0 f t has (F + 1) b l = pen_changes_l0 f t has F (b * 2) (l ++ oneIf (clrC has t b) (pA 2 b)) := by
 rw [pen_changes_l0, decide_eq_true hb, cond_true]
 generalize ((512 : Int) - 1).toNat + 1 = Z
 show (bif clrC has t b then _ else _) = _
 cases clrC has t b with
 | true => simp only [cond_true, bindV, pen_changes_j4]; rfl
 | false => simp only [cond_false, pen_changes_j4, oneIf, List.append_nil]
theorem pen_changes_l0_end (f t : Sty) (has : Int) (F : Nat) (l : List Act) : pen_changes_l0 f t has (F + 1) 256 l = l ++ (sets has t ++ tails f t) := by
 rw [pen_changes_l0, decide_eq_false (by omega : ¬ (256 : Int) ≤ 255), cond_false]
 generalize hF : ((512 : Int) - 1).toNat + 1 = Z
 exact pen_changes_l1_eq f t has Z (by omega) l
theorem pen_changes_j0_eq (f t : Sty) (has : Int) (l : List Act) : pen_changes_j0 f t has l = l ++ (clrs has t ++ (sets has t ++ tails f t)) := by
 rw [pen_changes_j0]
 generalize hF : ((512 : Int) - 1).toNat + 1 = F
 obtain ⟨G, rfl⟩ : ∃ G, F = G + 1 + 1 + 1 + 1 + 1 + 1 + 1 + 1 + 1 := ⟨F - 9, by omega⟩
 clear hF
 rw [pen_changes_l0_step _ _ _ _ _ _ (by omega), pen_changes_l0_step _ _ _ _ _ _ (by omega), pen_changes_l0_step _ _ _ _ _ _ (by omega), pen_changes_l0_step _ _ _ _ _ _ (by omega), pen_changes_l0_step _ _ _ _ _ _ (by omega), pen_changes_l0_step _ _ _ _ _ _ (by omega), pen_changes_l0_step _ _ _ _ _ _ (by omega), pen_changes_l0_step _ _ _ _ _ _ (by omega)]
 rw [show (1 : Int) * 2 * 2 * 2 * 2 * 2 * 2 * 2 * 2 = 256 by omega, pen_changes_l0_end]
 unfold clrs bits8
 simp only [List.flatMap_cons, List.flatMap_nil, List.append_assoc, List.append_nil, List.nil_append]
 rfl
theorem pen_changes_aux (f t : Sty) (X : List Act) (c : Bool) (hc : goneC f t = c) (h : (bif c then (bindV (pen_row_add 2 3 Col.zero) fun (r : List Act) => pen_changes_j0 f t (bOp .andNot .i64 f.attr 3) r) else pen_changes_j0 f t f.attr ([] : List Act)) = X) : X = chg f t := by
 unfold chg hasA
 rw [hc]
 clear hc
 cases c with
 | true => rw [cond_true] at h; obtain ⟨r, hr, h⟩ := bindVx h; rw [pen_changes_j0_eq] at h; rw [← h, ← hr, cond_true]; unfold pen_row_add oneIf pA; rw [cond_true, List.nil_append]; rfl
 | false => rw [cond_false, pen_changes_j0_eq] at h; rw [← h, cond_false]; unfold oneIf; rw [cond_false]
theorem pen_changes_eq (f t : Sty) : pen_changes f t = chg f t := pen_changes_aux f t _ _ rfl (pen_changes.eq_1 f t).symm
theorem chg_len (f t : Sty) : (chg f t).length ≤ 21 := by
 have h := oneIf_len
 unfold chg clrs sets tails bits8
 simp only [List.flatMap_cons, List.flatMap_nil, List.length_append, List.length_nil]
 have h0 := h (goneC f t) (pA 2 3)
 have hc := fun b => h (clrC (hasA f t) t b) (pA 2 b)
 have hs := fun b => h (setC (hasA f t) t b) (pA 1 b)
 have c1 := hc 1; have c2 := hc 2; have c3 := hc 4; have c4 := hc 8; have c5 := hc 16; have c6 := hc 32; have c7 := hc 64; have c8 := hc 128
 have s1 := hs 1; have s2 := hs 2; have s3 := hs 4; have s4 := hs 8; have s5 := hs 16; have s6 := hs 32; have s7 := hs 64; have s8 := hs 128
 have u := h (!decide (f.under = t.under)) (pA 3 t.under); have v := h (!decide (f.fore = t.fore)) (pC 4 t.fore); have w := h (!decide (f.back = t.back)) (pC 5 t.back); have x := h (!decide (f.line = t.line)) (pC 6 t.line)
 omega
theorem chg_pen (f t : Sty) : ∀ a ∈ chg f t, penA a := by
 intro a ha
 have hp : ∀ n m, penA (pA n m) := fun n m => ⟨rfl, rfl⟩
 have hq : ∀ n c, penA (pC n c) := fun n c => ⟨rfl, rfl⟩
 unfold chg clrs sets tails at ha
 simp only [List.mem_append, List.mem_flatMap] at ha
 rcases ha with h | ⟨b, _, h⟩ | ⟨b, _, h⟩ | h | h | h | h <;> (rw [oneIf_mem h]; first | exact hp _ _ | exact hq _ _)
theorem pen_changes_len (f t : Sty) : (pen_changes f t).length ≤ 1100 := by rw [pen_changes_eq]; have := chg_len f t; omega

theorem pen_changes_c (from_ : Sty) (to : Sty) (R : List Act) (hR : pen_changes from_ to = R) : Con Tryz.prog 80 [ag (cSty from_), ag (cSty to)] [] [] ({r : VR // VOk 6 R.length r}) (fun x => .slice (va x.1.q) R.length x.1.k) (fun x => ((vo cAct 26 x.1 R) ++ ([]))) (fun x => []) := by
 refine con_of_J (n := 116) Tryz.func80 rfl (by kernel_rfl) rfl rfl [(0, ag (cSty from_)), (1, ag (cSty to))] ⟨rfl, rfl, trivial⟩ fun X hX hr hD => ?_
 replace hR := (pen_changes.eq_1 ..).symm.trans hR
 refine sr 3 rfl ?_
 refine it rfl (tri_box (cs := cSty from_) rfl rfl rfl) fun b1 => ?_
 refine it rfl (tri_box (cs := cSty to) rfl rfl rfl) fun b2 => ?_
 refine ip 1 0 [] (by kernel_rfl) ?_
 refine ie ?_
 refine J_scope ?_
 refine sr 3 rfl ?_
 refine ix rfl (det_build (cs := [.slice none 0 0]) rfl rfl (by kernel_rfl)) ?_
 refine it rfl (tri_box (cs := [.slice none 0 0]) rfl rfl rfl) fun b3 => ?_
 refine ip 1 0 [(5, pt b3 0)] (by kernel_rfl) ?_
 refine ie ?_
 refine sr 3 rfl ?_
 refine ip 3 0 [(6, .func (.func 133) #[pt b3 0] #[])] (by kernel_rfl) ?_
 refine ie ?_
 refine sr 3 rfl ?_
 refine ip 1 2 [(17, pt b1 0)] (by kernel_rfl) ?_
 refine ix rfl (det_own_one (v := iv from_.attr) ty3 rfl rfl 2 rfl rfl) ?_
 refine ip 1 0 [(7, iv from_.attr)] (by kernel_rfl) ?_
 refine ie ?_
 refine JS3 (fun (has : Int) (t14laid : List Act) (t14laidr : VR) => pen_changes_j0 from_ to has t14laid = R ∧ VOk 6 t14laid.length t14laidr ∧ t14laid.length ≤ 1) (fun (has : Int) (t14laid : List Act) (t14laidr : VR) => [(2, pt b1 0), (3, pt b2 0), (5, pt b3 0), (6, .func (.func 133) #[pt b3 0] #[]), (7, iv has)]) (fun (has : Int) (t14laid : List Act) (t14laidr : VR) => (bx b3 [.slice (va t14laidr.q) t14laid.length t14laidr.k] 184 :: bx b2 (cSty to) 70 :: bx b1 (cSty from_) 70 :: (vo cAct 26 t14laidr t14laid) ++ ([]))) (fun (has : Int) (t14laid : List Act) (t14laidr : VR) => []) ?_ ?_
 ·refine sr 6 rfl ?_
  refine ip 1 5 [(19, pt b1 0)] (by kernel_rfl) ?_
  refine ix rfl (det_own_one (v := iv from_.attr) ty3 rfl rfl 2 rfl rfl) ?_
  refine ip 1 3 [(21, pt b2 0)] (by kernel_rfl) ?_
  refine ix rfl (det_own_one (v := iv to.attr) ty3 rfl rfl 1 rfl rfl) ?_
  refine ip 2 0 [(8, iv (bOp .andNot .i64 from_.attr to.attr))] (by kernel_rfl) ?_
  refine ie ?_
  refine sr 3 rfl ?_
  refine ip 3 0 [(26, bv (!decide ((bOp .and .i64 (bOp .andNot .i64 from_.attr to.attr) 3) = 0)))] (by kernel_rfl) ?_
  refine ie ?_
  refine J_if rfl (fun h4 => ?_) (fun h4 => ?_)
  ·have h4p : ¬ (bOp .and .i64 (bOp .andNot .i64 from_.attr to.attr) 3) = 0 := by simpa using h4
   replace hR := bt hR h4
   refine sr 3 rfl ?_
   refine ip 1 2 [(27, .func (.func 133) #[pt b3 0] #[])] (by kernel_rfl) ?_
   refine ix rfl (det_build (cs := cCol Col.zero) rfl rfl (by kernel_rfl)) ?_
   have hQ := bindVx hR; clear hR; obtain ⟨y0, hy0, hR⟩ := hQ
   refine it rfl (tri_callP (L2 := [bx b2 (cSty to) 70, bx b1 (cSty from_) 70]) (pen_row_add_c 2 3 Col.zero b3 (by first | omega | (simp <;> omega)) y0 hy0) rfl rfl rfl rfl rfl Foll.nil (permC [[bx b3 [.slice none 0 0] 184], [bx b2 (cSty to) 70], [bx b1 (cSty from_) 70]] [0, 1, 2] 3 rfl (by decide) rfl [[bx b3 [.slice none 0 0] 184], [bx b2 (cSty to) 70], [bx b1 (cSty from_) 70]] rfl (by first | rfl | simp only [List.flatten_cons, List.flatten_nil, List.append_nil, List.cons_append, List.nil_append, List.append_assoc])) (fun ⟨r5, hk6⟩ => (bx b3 [.slice (va r5.q) y0.length r5.k] 184 :: bx b2 (cSty to) 70 :: bx b1 (cSty from_) 70 :: (vo cAct 26 r5 y0) ++ ([]))) (fun ⟨r5, hk6⟩ => permC [[bx b3 [.slice (va r5.q) y0.length r5.k] 184], vo cAct 26 r5 y0, [bx b2 (cSty to) 70], [bx b1 (cSty from_) 70]] [0, 2, 3, 1] 4 rfl (by decide) (by first | rfl | simp only [List.flatten_cons, List.flatten_nil, List.append_nil, List.cons_append, List.nil_append, List.append_assoc]) [[bx b3 [.slice (va r5.q) y0.length r5.k] 184], [bx b2 (cSty to) 70], [bx b1 (cSty from_) 70], vo cAct 26 r5 y0] rfl (by first | rfl | simp only [List.flatten_cons, List.flatten_nil, List.append_nil, List.cons_append, List.nil_append, List.append_assoc]))) fun ⟨r5, hk6⟩ => ?_
   have := VOk.le hk6
   have := VOk.cap hk6
   have := pen_row_add_len 2 3 Col.zero; try rw [hy0] at this
   refine ie ?_
   refine J_region 3 rfl ?_
   refine ip 3 0 [(7, iv (bOp .andNot .i64 from_.attr 3))] (by kernel_rfl) ?_
   refine JI_end ?_
   exact meet3 (bOp .andNot .i64 from_.attr 3) y0 r5 ⟨hR, hk6, (by first | omega | (simp <;> omega))⟩ ⟨rfl, rfl, rfl, rfl, (by first | rfl | (simp only [List.length_set]; rfl) | (simp; done) | (simp; omega)), trivial⟩ (mc [[bx b3 [.slice (va r5.q) y0.length r5.k] 184], [bx b2 (cSty to) 70], [bx b1 (cSty from_) 70], vo cAct 26 r5 y0] [true, true, true, true] rfl (by first | rfl | (simp only [List.length_set] <;> rfl))) Foll.nil
  ·have h4p : ¬ (¬ (bOp .and .i64 (bOp .andNot .i64 from_.attr to.attr) 3) = 0) := by simpa using h4
   replace hR := bf hR h4
   refine J_skip ?_
   refine JQ_perm (permC [vo cAct 26 VR.nil ([] : List Act), [bx b3 [.slice none 0 0] 184], [bx b2 (cSty to) 70], [bx b1 (cSty from_) 70]] [1, 2, 3, 0] 4 rfl (by decide) rfl [[bx b3 [.slice none 0 0] 184], [bx b2 (cSty to) 70], [bx b1 (cSty from_) 70], vo cAct 26 VR.nil ([] : List Act)] rfl (by first | rfl | simp)) ?_
   exact meet3 from_.attr ([] : List Act) VR.nil ⟨hR, VOk.nil, (by first | omega | (simp <;> omega))⟩ ⟨rfl, rfl, rfl, rfl, (by first | rfl | (simp only [List.length_set]; rfl) | (simp; done) | (simp; omega)), trivial⟩ (mc [[bx b3 [.slice none 0 0] 184], [bx b2 (cSty to) 70], [bx b1 (cSty from_) 70], vo cAct 26 VR.nil ([] : List Act)] [true, true, true, true] rfl (by first | rfl | (simp only [List.length_set] <;> rfl))) Foll.nil
 ·intro has t14laid t14laidr
  rintro ⟨hR, hokt14laidr, hj⟩
  replace hR := (pen_changes_j0.eq_1 ..).symm.trans hR
  refine J_seq ?_
  refine sr 1 rfl ?_
  refine ip 1 0 [(9, iv 1)] (by kernel_rfl) ?_
  refine ie ?_
  refine J_block ?_
  refine JL4 (fun (fu : Nat) (bit : Int) (rlaid : List Act) (rlaidr : VR) => ((512 : Int) - bit).toNat < fu ∧ pen_changes_l0 from_ to has fu bit rlaid = R ∧ VOk 6 rlaid.length rlaidr ∧ 1 ≤ bit ∧ bit ≤ 510 ∧ rlaid.length ≤ bit) (fun (fu : Nat) (bit : Int) (rlaid : List Act) (rlaidr : VR) => [(2, pt b1 0), (3, pt b2 0), (5, pt b3 0), (6, .func (.func 133) #[pt b3 0] #[]), (7, iv has), (9, iv bit)]) (fun (fu : Nat) (bit : Int) (rlaid : List Act) (rlaidr : VR) => (bx b3 [.slice (va rlaidr.q) rlaid.length rlaidr.k] 184 :: bx b2 (cSty to) 70 :: bx b1 (cSty from_) 70 :: (vo cAct 26 rlaidr rlaid) ++ ([]))) (fun (fu : Nat) (bit : Int) (rlaid : List Act) (rlaidr : VR) => []) (fun (fu : Nat) (bit : Int) (rlaid : List Act) (rlaidr : VR) => fu) (((512 : Int) - 1).toNat + 1) 1 t14laid t14laidr ⟨(Nat.lt_succ_self _), hR, hokt14laidr, (by omega), (by first | omega | (simp <;> omega))⟩ ⟨rfl, rfl, rfl, rfl, rfl, (by first | rfl | (simp only [List.length_set]; rfl) | (simp; done) | (simp; omega)), trivial⟩ (mc [[bx b3 [.slice (va t14laidr.q) t14laid.length t14laidr.k] 184], [bx b2 (cSty to) 70], [bx b1 (cSty from_) 70], vo cAct 26 t14laidr t14laid] [true, true, true, true] rfl (by first | rfl | (simp only [List.length_set] <;> rfl))) Foll.nil ?_
  rintro fu bit rlaid rlaidr ⟨hm7, hR, hokrlaidr, hb, hn⟩
  have := VOk.le hokrlaidr
  obtain ⟨fu1, rfl⟩ : ∃ m, fu = m + 1 := ⟨fu - 1, by omega⟩
  replace hR := (pen_changes_l0.eq_2 ..).symm.trans hR
  refine J_seq ?_
  refine sr 2 rfl ?_
  refine ip 2 0 [(33, bv (decide (bit ≤ 255)))] (by kernel_rfl) ?_
  refine ie ?_
  refine J_if rfl (fun h8 => ?_) (fun h8 => ?_)
  ·have h8p : bit ≤ 255 := by simpa using h8
   replace hR := bt hR h8
   refine J_skip ?_
   refine nx ?_
   refine JS2 (fun (y16 : List Act) (rlaidr1 : VR) => pen_changes_j4 bit (pen_changes_l0 from_ to has fu1) y16 = R ∧ VOk 6 y16.length rlaidr1 ∧ y16.length ≤ bit + 1) (fun (y16 : List Act) (rlaidr1 : VR) => [(2, pt b1 0), (3, pt b2 0), (5, pt b3 0), (6, .func (.func 133) #[pt b3 0] #[]), (7, iv has), (9, iv bit)]) (fun (y16 : List Act) (rlaidr1 : VR) => (bx b3 [.slice (va rlaidr1.q) y16.length rlaidr1.k] 184 :: bx b2 (cSty to) 70 :: bx b1 (cSty from_) 70 :: (vo cAct 26 rlaidr1 y16) ++ ([]))) (fun (y16 : List Act) (rlaidr1 : VR) => []) ?_ ?_
   ·refine J_block ?_
    refine sr 11 rfl ?_
    refine ip 5 6 [(40, bv (!decide ((bOp .and .i64 has bit) = 0)))] (by kernel_rfl) ?_
    refine iand 6 0 40 46 (decide ((bOp .and .i64 to.attr bit) = 0)) rfl (by kernel_rfl) (fun g9 => ?_) ?_
    ·have g9p : ¬ (bOp .and .i64 has bit) = 0 := by simpa using g9
     refine ip 1 5 [(41, pt b2 0)] (by kernel_rfl) ?_
     refine ix rfl (det_own_one (v := iv to.attr) ty3 rfl rfl 1 rfl rfl) ?_
     refine ip 4 0 [(46, bv (decide ((bOp .and .i64 to.attr bit) = 0)))] (by kernel_rfl) ?_
     exact JI_end (armI 4 40 46 g9 Foll.nil (mc [[bx b3 [.slice (va rlaidr.q) rlaid.length rlaidr.k] 184], [bx b2 (cSty to) 70], [bx b1 (cSty from_) 70], vo cAct 26 rlaidr rlaid] [true, true, true, true] rfl (by first | rfl | (simp only [List.length_set] <;> rfl))) rfl rfl rfl rfl rfl)
    refine ie ?_
    refine J_if rfl (fun h10 => ?_) (fun h10 => ?_)
    ·have h10p : (¬ (bOp .and .i64 has bit) = 0) ∧ ((bOp .and .i64 to.attr bit) = 0) := by simpa using h10
     replace hR := bt hR h10
     refine J_region 4 rfl ?_
     refine ip 2 2 [(47, .func (.func 133) #[pt b3 0] #[]), (48, iv bit)] (by kernel_rfl) ?_
     refine ix rfl (det_build (cs := cCol Col.zero) rfl rfl (by kernel_rfl)) ?_
     have hQ := bindVx hR; clear hR; obtain ⟨y1, hy1, hR⟩ := hQ
     refine it rfl (tri_callP (L2 := [bx b2 (cSty to) 70, bx b1 (cSty from_) 70]) (pen_row_adda_c rlaid 2 bit Col.zero b3 rlaidr hokrlaidr (by first | omega | (simp <;> omega)) y1 hy1) rfl rfl rfl rfl rfl Foll.nil (permC [[bx b3 [.slice (va rlaidr.q) rlaid.length rlaidr.k] 184], [bx b2 (cSty to) 70], [bx b1 (cSty from_) 70], vo cAct 26 rlaidr rlaid] [0, 3, 1, 2] 4 rfl (by decide) rfl [[bx b3 [.slice (va rlaidr.q) rlaid.length rlaidr.k] 184], vo cAct 26 rlaidr rlaid, [bx b2 (cSty to) 70], [bx b1 (cSty from_) 70]] rfl (by first | rfl | simp only [List.flatten_cons, List.flatten_nil, List.append_nil, List.cons_append, List.nil_append, List.append_assoc])) (fun ⟨r11, hk12⟩ => (bx b3 [.slice (va r11.q) y1.length r11.k] 184 :: bx b2 (cSty to) 70 :: bx b1 (cSty from_) 70 :: (vo cAct 26 r11 y1) ++ ([]))) (fun ⟨r11, hk12⟩ => permC [[bx b3 [.slice (va r11.q) y1.length r11.k] 184], vo cAct 26 r11 y1, [bx b2 (cSty to) 70], [bx b1 (cSty from_) 70]] [0, 2, 3, 1] 4 rfl (by decide) (by first | rfl | simp only [List.flatten_cons, List.flatten_nil, List.append_nil, List.cons_append, List.nil_append, List.append_assoc]) [[bx b3 [.slice (va r11.q) y1.length r11.k] 184], [bx b2 (cSty to) 70], [bx b1 (cSty from_) 70], vo cAct 26 r11 y1] rfl (by first | rfl | simp only [List.flatten_cons, List.flatten_nil, List.append_nil, List.cons_append, List.nil_append, List.append_assoc]))) fun ⟨r11, hk12⟩ => ?_
     have := VOk.le hk12
     have := VOk.cap hk12
     have := pen_row_adda_len rlaid 2 bit Col.zero; try rw [hy1] at this
     refine JI_end ?_
     exact meet2 y1 r11 ⟨hR, hk12, (by first | omega | (simp <;> omega))⟩ ⟨rfl, rfl, rfl, rfl, rfl, rfl, trivial⟩ (mc [[bx b3 [.slice (va r11.q) y1.length r11.k] 184], [bx b2 (cSty to) 70], [bx b1 (cSty from_) 70], vo cAct 26 r11 y1] [true, true, true, true] rfl (by first | rfl | (simp only [List.length_set] <;> rfl))) Foll.nil
    ·have h10p : ¬ ((¬ (bOp .and .i64 has bit) = 0) ∧ ((bOp .and .i64 to.attr bit) = 0)) := by simpa using h10
     replace hR := bf hR h10
     try (have hb255 : bit1 ≤ 255 := by have q := h10; simp at q; omega)
     refine J_skip ?_
     exact meet2 rlaid rlaidr ⟨hR, hokrlaidr, (by first | omega | (simp <;> omega))⟩ ⟨rfl, rfl, rfl, rfl, rfl, rfl, trivial⟩ (mc [[bx b3 [.slice (va rlaidr.q) rlaid.length rlaidr.k] 184], [bx b2 (cSty to) 70], [bx b1 (cSty from_) 70], vo cAct 26 rlaidr rlaid] [true, true, true, true] rfl (by first | rfl | (simp only [List.length_set] <;> rfl))) Foll.nil
   ·intro y16 rlaidr1
    rintro ⟨hR, hokrlaidr1, hj⟩
    replace hR := (pen_changes_j4.eq_1 ..).symm.trans hR
    refine J_region 3 rfl ?_
    refine ip 1 2 [(34, iv bit)] (by kernel_rfl) ?_
    refine ix rfl (det_shl (c := (bit * 2)) rfl rfl rfl (by decide) (by show IntKind.i64.wrap (bit * 2) = _; exact wrap_in (by simp [IntKind.min, IntKind.signed, IntKind.bits]; omega) (by simp [IntKind.max, IntKind.signed, IntKind.bits]; omega))) ?_
    refine ip 1 0 [(9, iv (bit * 2))] (by kernel_rfl) ?_
    refine JI_end ?_
    exact againL4 (z1 := (fu1 + 1)) (z2 := bit) (z3 := rlaid) (z4 := rlaidr) fu1 (bit * 2) y16 rlaidr1 ⟨(by omega), hR, hokrlaidr1, (by first | omega | (rw [wrap_in (by simp [IntKind.min, IntKind.signed, IntKind.bits]; omega) (by simp [IntKind.max, IntKind.signed, IntKind.bits]; omega)]; omega)), (by first | omega | (simp <;> omega))⟩ (Nat.lt_succ_self _) ⟨rfl, rfl, rfl, rfl, rfl, (by first | rfl | (simp only [List.length_set]; rfl) | (simp; done) | (simp; omega)), trivial⟩ (mc [[bx b3 [.slice (va rlaidr1.q) y16.length rlaidr1.k] 184], [bx b2 (cSty to) 70], [bx b1 (cSty from_) 70], vo cAct 26 rlaidr1 y16] [true, true, true, true] rfl (by first | rfl | (simp only [List.length_set] <;> rfl))) Foll.nil
  ·have h8p : ¬ (bit ≤ 255) := by simpa using h8
   replace hR := bf hR h8
   refine J_exit ?_
   refine nx ?_
   refine J_seq ?_
   refine J_label ?_
   refine nx ?_
   refine J_seq ?_
   refine sr 1 rfl ?_
   refine ip 1 0 [(10, iv 1)] (by kernel_rfl) ?_
   refine ie ?_
   refine J_block ?_
   refine JL4 (fun (fu2 : Nat) (bit1 : Int) (rlaid2 : List Act) (rlaidr2 : VR) => ((512 : Int) - bit1).toNat < fu2 ∧ pen_changes_l1 from_ to has fu2 bit1 rlaid2 = R ∧ VOk 6 rlaid2.length rlaidr2 ∧ 1 ≤ bit1 ∧ bit1 ≤ 510 ∧ rlaid2.length ≤ 512 + bit1) (fun (fu2 : Nat) (bit1 : Int) (rlaid2 : List Act) (rlaidr2 : VR) => [(2, pt b1 0), (3, pt b2 0), (5, pt b3 0), (6, .func (.func 133) #[pt b3 0] #[]), (7, iv has), (10, iv bit1)]) (fun (fu2 : Nat) (bit1 : Int) (rlaid2 : List Act) (rlaidr2 : VR) => (bx b3 [.slice (va rlaidr2.q) rlaid2.length rlaidr2.k] 184 :: bx b2 (cSty to) 70 :: bx b1 (cSty from_) 70 :: (vo cAct 26 rlaidr2 rlaid2) ++ ([]))) (fun (fu2 : Nat) (bit1 : Int) (rlaid2 : List Act) (rlaidr2 : VR) => []) (fun (fu2 : Nat) (bit1 : Int) (rlaid2 : List Act) (rlaidr2 : VR) => fu2) (((512 : Int) - 1).toNat + 1) 1 rlaid rlaidr ⟨(Nat.lt_succ_self _), hR, hokrlaidr, (by omega), (by first | omega | (simp <;> omega))⟩ ⟨rfl, rfl, rfl, rfl, rfl, (by first | rfl | (simp only [List.length_set]; rfl) | (simp; done) | (simp; omega)), trivial⟩ (mc [[bx b3 [.slice (va rlaidr.q) rlaid.length rlaidr.k] 184], [bx b2 (cSty to) 70], [bx b1 (cSty from_) 70], vo cAct 26 rlaidr rlaid] [true, true, true, true] rfl (by first | rfl | (simp only [List.length_set] <;> rfl))) Foll.nil ?_
   rintro fu2 bit1 rlaid2 rlaidr2 ⟨hm13, hR, hokrlaidr2, hb, hn⟩
   have := VOk.le hokrlaidr2
   obtain ⟨fu3, rfl⟩ : ∃ m, fu2 = m + 1 := ⟨fu2 - 1, by omega⟩
   replace hR := (pen_changes_l1.eq_2 ..).symm.trans hR
   refine JS2 (fun (y17 : List Act) (rlaidr3 : VR) => pen_changes_j8 bit1 (pen_changes_l1 from_ to has fu3) y17 = R ∧ VOk 6 y17.length rlaidr3 ∧ y17.length ≤ 513 + bit1 ∧ bit1 ≤ 255) (fun (y17 : List Act) (rlaidr3 : VR) => [(2, pt b1 0), (3, pt b2 0), (5, pt b3 0), (6, .func (.func 133) #[pt b3 0] #[]), (7, iv has), (10, iv bit1)]) (fun (y17 : List Act) (rlaidr3 : VR) => (bx b3 [.slice (va rlaidr3.q) y17.length rlaidr3.k] 184 :: bx b2 (cSty to) 70 :: bx b1 (cSty from_) 70 :: (vo cAct 26 rlaidr3 y17) ++ ([]))) (fun (y17 : List Act) (rlaidr3 : VR) => []) ?_ ?_
   ·refine J_block ?_
    refine J_seq ?_
    refine sr 2 rfl ?_
    refine ip 2 0 [(54, bv (decide ((255 : Int) < bit1)))] (by kernel_rfl) ?_
    refine ie ?_
    refine J_if rfl (fun h14 => ?_) (fun h14 => ?_)
    ·have h14p : (255 : Int) < bit1 := by simpa using h14
     replace hR := bt hR h14
     refine J_exit ?_
     refine nx ?_
     refine JS2 (fun (y6 : List Act) (rlaidr4 : VR) => pen_changes_j9 from_ to y6 = R ∧ VOk 6 y6.length rlaidr4 ∧ y6.length ≤ 1100) (fun (y6 : List Act) (rlaidr4 : VR) => [(2, pt b1 0), (3, pt b2 0), (5, pt b3 0), (6, .func (.func 133) #[pt b3 0] #[])]) (fun (y6 : List Act) (rlaidr4 : VR) => (bx b3 [.slice (va rlaidr4.q) y6.length rlaidr4.k] 184 :: bx b2 (cSty to) 70 :: bx b1 (cSty from_) 70 :: (vo cAct 26 rlaidr4 y6) ++ ([]))) (fun (y6 : List Act) (rlaidr4 : VR) => []) ?_ ?_
     ·refine sr 5 rfl ?_
      refine ip 1 4 [(70, pt b1 1)] (by kernel_rfl) ?_
      refine ix rfl (det_own_one (v := iv from_.under) ty3 rfl rfl 2 rfl rfl) ?_
      refine ip 1 2 [(72, pt b2 1)] (by kernel_rfl) ?_
      refine ix rfl (det_own_one (v := iv to.under) ty3 rfl rfl 1 rfl rfl) ?_
      refine ip 1 0 [(74, bv (!decide (from_.under = to.under)))] (by kernel_rfl) ?_
      refine ie ?_
      refine J_if rfl (fun h15 => ?_) (fun h15 => ?_)
      ·have h15p : ¬ from_.under = to.under := by simpa using h15
       replace hR := bt hR h15
       refine J_region 5 rfl ?_
       refine ip 2 3 [(75, .func (.func 133) #[pt b3 0] #[]), (76, pt b2 1)] (by kernel_rfl) ?_
       refine ix rfl (det_own_one (v := iv to.under) ty3 rfl rfl 1 rfl rfl) ?_
       refine ix rfl (det_build (cs := cCol Col.zero) rfl rfl (by kernel_rfl)) ?_
       have hQ := bindVx hR; clear hR; obtain ⟨y11, hy11, hR⟩ := hQ
       refine it rfl (tri_callP (L2 := [bx b2 (cSty to) 70, bx b1 (cSty from_) 70]) (pen_row_adda_c rlaid2 3 to.under Col.zero b3 rlaidr2 hokrlaidr2 (by first | omega | (simp <;> omega)) y11 hy11) rfl rfl rfl rfl rfl Foll.nil (permC [[bx b3 [.slice (va rlaidr2.q) rlaid2.length rlaidr2.k] 184], [bx b2 (cSty to) 70], [bx b1 (cSty from_) 70], vo cAct 26 rlaidr2 rlaid2] [0, 3, 1, 2] 4 rfl (by decide) rfl [[bx b3 [.slice (va rlaidr2.q) rlaid2.length rlaidr2.k] 184], vo cAct 26 rlaidr2 rlaid2, [bx b2 (cSty to) 70], [bx b1 (cSty from_) 70]] rfl (by first | rfl | simp only [List.flatten_cons, List.flatten_nil, List.append_nil, List.cons_append, List.nil_append, List.append_assoc])) (fun ⟨r16, hk17⟩ => (bx b3 [.slice (va r16.q) y11.length r16.k] 184 :: bx b2 (cSty to) 70 :: bx b1 (cSty from_) 70 :: (vo cAct 26 r16 y11) ++ ([]))) (fun ⟨r16, hk17⟩ => permC [[bx b3 [.slice (va r16.q) y11.length r16.k] 184], vo cAct 26 r16 y11, [bx b2 (cSty to) 70], [bx b1 (cSty from_) 70]] [0, 2, 3, 1] 4 rfl (by decide) (by first | rfl | simp only [List.flatten_cons, List.flatten_nil, List.append_nil, List.cons_append, List.nil_append, List.append_assoc]) [[bx b3 [.slice (va r16.q) y11.length r16.k] 184], [bx b2 (cSty to) 70], [bx b1 (cSty from_) 70], vo cAct 26 r16 y11] rfl (by first | rfl | simp only [List.flatten_cons, List.flatten_nil, List.append_nil, List.cons_append, List.nil_append, List.append_assoc]))) fun ⟨r16, hk17⟩ => ?_
       have := VOk.le hk17
       have := VOk.cap hk17
       have := pen_row_adda_len rlaid2 3 to.under Col.zero; try rw [hy11] at this
       refine JI_end ?_
       exact meet2 y11 r16 ⟨hR, hk17, (by first | omega | (simp <;> omega))⟩ ⟨rfl, rfl, rfl, rfl, trivial⟩ (mc [[bx b3 [.slice (va r16.q) y11.length r16.k] 184], [bx b2 (cSty to) 70], [bx b1 (cSty from_) 70], vo cAct 26 r16 y11] [true, true, true, true] rfl (by first | rfl | (simp only [List.length_set] <;> rfl))) Foll.nil
      ·have h15p : ¬ (¬ from_.under = to.under) := by simpa using h15
       replace hR := bf hR h15
       try (have hb255 : bit1 ≤ 255 := by have q := h15; simp at q; omega)
       refine J_skip ?_
       exact meet2 rlaid2 rlaidr2 ⟨hR, hokrlaidr2, (by first | omega | (simp <;> omega))⟩ ⟨rfl, rfl, rfl, rfl, trivial⟩ (mc [[bx b3 [.slice (va rlaidr2.q) rlaid2.length rlaidr2.k] 184], [bx b2 (cSty to) 70], [bx b1 (cSty from_) 70], vo cAct 26 rlaidr2 rlaid2] [true, true, true, true] rfl (by first | rfl | (simp only [List.length_set] <;> rfl))) Foll.nil
     ·intro y6 rlaidr4
      rintro ⟨hR, hokrlaidr4, hj⟩
      replace hR := (pen_changes_j9.eq_1 ..).symm.trans hR
      refine J_seq ?_
      refine sr 17 rfl ?_
      refine ip 1 16 [(80, pt b1 2)] (by kernel_rfl) ?_
      refine ix rfl (det_own_agg (us := cCol from_.fore) ty24 rfl rfl 2 rfl rfl rfl) ?_
      refine ip 1 14 [(82, pt b2 2)] (by kernel_rfl) ?_
      refine ix rfl (det_own_agg (us := cCol to.fore) ty24 rfl rfl 1 rfl rfl rfl) ?_
      refine ix rfl (det_build (cs := [iv 4, iv from_.fore.kind, iv from_.fore.n, iv to.fore.kind, iv to.fore.n]) rfl rfl (by kernel_rfl)) ?_
      refine ip 1 11 [(85, pt b1 4)] (by kernel_rfl) ?_
      refine ix rfl (det_own_agg (us := cCol from_.back) ty24 rfl rfl 2 rfl rfl rfl) ?_
      refine ip 1 9 [(87, pt b2 4)] (by kernel_rfl) ?_
      refine ix rfl (det_own_agg (us := cCol to.back) ty24 rfl rfl 1 rfl rfl rfl) ?_
      refine ix rfl (det_build (cs := [iv 5, iv from_.back.kind, iv from_.back.n, iv to.back.kind, iv to.back.n]) rfl rfl (by kernel_rfl)) ?_
      refine ip 1 6 [(90, pt b1 6)] (by kernel_rfl) ?_
      refine ix rfl (det_own_agg (us := cCol from_.line) ty24 rfl rfl 2 rfl rfl rfl) ?_
      refine ip 1 4 [(92, pt b2 6)] (by kernel_rfl) ?_
      refine ix rfl (det_own_agg (us := cCol to.line) ty24 rfl rfl 1 rfl rfl rfl) ?_
      refine ix rfl (det_build (cs := [iv 6, iv from_.line.kind, iv from_.line.n, iv to.line.kind, iv to.line.n]) rfl rfl (by kernel_rfl)) ?_
      refine ix rfl (det_build (cs := [iv 4, iv from_.fore.kind, iv from_.fore.n, iv to.fore.kind, iv to.fore.n, iv 5, iv from_.back.kind, iv from_.back.n, iv to.back.kind, iv to.back.n, iv 6, iv from_.line.kind, iv from_.line.n, iv to.line.kind, iv to.line.n]) rfl rfl (by kernel_rfl)) ?_
      refine ip 1 0 [(96, iv 0)] (by kernel_rfl) ?_
      refine ie ?_
      refine J_block ?_
      refine J_rounds 5 ?_
      refine JR_succ ?_
      refine sr 1 rfl ?_
      refine ip 1 0 [(97, bv true)] (by kernel_rfl) ?_
      refine ie ?_
      refine J_seq ?_
      refine J_yes rfl ?_
      refine J_skip ?_
      refine nx ?_
      refine JS2 (fun (y8 : List Act) (rlaidr5 : VR) => pen_changes_j13 from_ to y8 = R ∧ VOk 6 y8.length rlaidr5 ∧ y8.length ≤ 1101) (fun (y8 : List Act) (rlaidr5 : VR) => [(5, pt b3 0), (6, .func (.func 133) #[pt b3 0] #[]), (95, ag [iv 4, iv from_.fore.kind, iv from_.fore.n, iv to.fore.kind, iv to.fore.n, iv 5, iv from_.back.kind, iv from_.back.n, iv to.back.kind, iv to.back.n, iv 6, iv from_.line.kind, iv from_.line.n, iv to.line.kind, iv to.line.n]), (96, iv 0)]) (fun (y8 : List Act) (rlaidr5 : VR) => (bx b3 [.slice (va rlaidr5.q) y8.length rlaidr5.k] 184 :: bx b2 (cSty to) 70 :: bx b1 (cSty from_) 70 :: (vo cAct 26 rlaidr5 y8) ++ ([]))) (fun (y8 : List Act) (rlaidr5 : VR) => []) ?_ ?_
      ·refine J_block ?_
       refine sr 3 rfl ?_
       refine ix rfl (det_index (v := ag [iv 4, iv from_.fore.kind, iv from_.fore.n, iv to.fore.kind, iv to.fore.n]) (us := [iv 4, iv from_.fore.kind, iv from_.fore.n, iv to.fore.kind, iv to.fore.n]) Tryz.underlying188 ty187 rfl rfl rfl 0 rfl (by decide) rfl rfl rfl) ?_
       refine it rfl (tri_alloc (cs := [iv 0, iv 0, iv 0, iv 0, iv 0]) zero187 rfl) fun b18 => ?_
       refine it rfl (tri_store (us := [iv 4, iv from_.fore.kind, iv from_.fore.n, iv to.fore.kind, iv to.fore.n]) (cs' := [iv 4, iv from_.fore.kind, iv from_.fore.n, iv to.fore.kind, iv to.fore.n]) ty187 rfl rfl rfl 0 rfl rfl rfl rfl rfl rfl) fun _ => ?_
       refine ie ?_
       refine sr 5 rfl ?_
       refine ip 1 4 [(99, pt b18 1)] (by kernel_rfl) ?_
       refine ix rfl (det_own_agg (us := [iv from_.fore.kind, iv from_.fore.n]) ty24 rfl rfl 0 rfl rfl rfl) ?_
       refine ip 1 2 [(101, pt b18 3)] (by kernel_rfl) ?_
       refine ix rfl (det_own_agg (us := [iv to.fore.kind, iv to.fore.n]) ty24 rfl rfl 0 rfl rfl rfl) ?_
       refine ix rfl (det_nes (a := from_.fore) (b := to.fore) eqt24 rfl rfl rfl) ?_
       refine ie ?_
       refine J_if rfl (fun h19 => ?_) (fun h19 => ?_)
       ·have h19p : ¬ from_.fore = to.fore := by simpa using h19
        replace hR := bt hR h19
        refine J_region 6 rfl ?_
        refine ip 2 4 [(104, .func (.func 133) #[pt b3 0] #[]), (105, pt b18 0)] (by kernel_rfl) ?_
        refine ix rfl (det_own_one (v := iv 4) ty3 rfl rfl 0 rfl rfl) ?_
        refine ip 1 2 [(107, pt b18 3)] (by kernel_rfl) ?_
        refine ix rfl (det_own_agg (us := [iv to.fore.kind, iv to.fore.n]) ty24 rfl rfl 0 rfl rfl rfl) ?_
        have hQ := bindVx hR; clear hR; obtain ⟨y13, hy13, hR⟩ := hQ
        refine it rfl (tri_callP (L2 := [bx b18 [iv 4, iv from_.fore.kind, iv from_.fore.n, iv to.fore.kind, iv to.fore.n] 187, bx b2 (cSty to) 70, bx b1 (cSty from_) 70]) (pen_row_adda_c y6 4 0 to.fore b3 rlaidr4 hokrlaidr4 (by first | omega | (simp <;> omega)) y13 hy13) rfl rfl rfl rfl rfl Foll.nil (permC [[bx b18 [iv 4, iv from_.fore.kind, iv from_.fore.n, iv to.fore.kind, iv to.fore.n] 187], [bx b3 [.slice (va rlaidr4.q) y6.length rlaidr4.k] 184], [bx b2 (cSty to) 70], [bx b1 (cSty from_) 70], vo cAct 26 rlaidr4 y6] [1, 4, 0, 2, 3] 5 rfl (by decide) rfl [[bx b3 [.slice (va rlaidr4.q) y6.length rlaidr4.k] 184], vo cAct 26 rlaidr4 y6, [bx b18 [iv 4, iv from_.fore.kind, iv from_.fore.n, iv to.fore.kind, iv to.fore.n] 187], [bx b2 (cSty to) 70], [bx b1 (cSty from_) 70]] rfl (by first | rfl | simp only [List.flatten_cons, List.flatten_nil, List.append_nil, List.cons_append, List.nil_append, List.append_assoc])) (fun ⟨r20, hk21⟩ => (bx b3 [.slice (va r20.q) y13.length r20.k] 184 :: bx b18 [iv 4, iv from_.fore.kind, iv from_.fore.n, iv to.fore.kind, iv to.fore.n] 187 :: bx b2 (cSty to) 70 :: bx b1 (cSty from_) 70 :: (vo cAct 26 r20 y13) ++ ([]))) (fun ⟨r20, hk21⟩ => permC [[bx b3 [.slice (va r20.q) y13.length r20.k] 184], vo cAct 26 r20 y13, [bx b18 [iv 4, iv from_.fore.kind, iv from_.fore.n, iv to.fore.kind, iv to.fore.n] 187], [bx b2 (cSty to) 70], [bx b1 (cSty from_) 70]] [0, 2, 3, 4, 1] 5 rfl (by decide) (by first | rfl | simp only [List.flatten_cons, List.flatten_nil, List.append_nil, List.cons_append, List.nil_append, List.append_assoc]) [[bx b3 [.slice (va r20.q) y13.length r20.k] 184], [bx b18 [iv 4, iv from_.fore.kind, iv from_.fore.n, iv to.fore.kind, iv to.fore.n] 187], [bx b2 (cSty to) 70], [bx b1 (cSty from_) 70], vo cAct 26 r20 y13] rfl (by first | rfl | simp only [List.flatten_cons, List.flatten_nil, List.append_nil, List.cons_append, List.nil_append, List.append_assoc]))) fun ⟨r20, hk21⟩ => ?_
        have := VOk.le hk21
        have := VOk.cap hk21
        have := pen_row_adda_len y6 4 0 to.fore; try rw [hy13] at this
        refine JI_end ?_
        exact meet2 y13 r20 ⟨hR, hk21, (by first | omega | (simp <;> omega))⟩ ⟨rfl, rfl, rfl, rfl, trivial⟩ (mc [[bx b3 [.slice (va r20.q) y13.length r20.k] 184], [bx b18 [iv 4, iv from_.fore.kind, iv from_.fore.n, iv to.fore.kind, iv to.fore.n] 187], [bx b2 (cSty to) 70], [bx b1 (cSty from_) 70], vo cAct 26 r20 y13] [true, false, true, true, true] rfl (by first | rfl | (simp only [List.length_set] <;> rfl))) Foll.nil
       ·have h19p : ¬ (¬ from_.fore = to.fore) := by simpa using h19
        replace hR := bf hR h19
        refine J_skip ?_
        exact meet2 y6 rlaidr4 ⟨hR, hokrlaidr4, (by first | omega | (simp <;> omega))⟩ ⟨rfl, rfl, rfl, rfl, trivial⟩ (mc [[bx b18 [iv 4, iv from_.fore.kind, iv from_.fore.n, iv to.fore.kind, iv to.fore.n] 187], [bx b3 [.slice (va rlaidr4.q) y6.length rlaidr4.k] 184], [bx b2 (cSty to) 70], [bx b1 (cSty from_) 70], vo cAct 26 rlaidr4 y6] [false, true, true, true, true] rfl (by first | rfl | (simp only [List.length_set] <;> rfl))) Foll.nil
      ·intro y8 rlaidr5
       rintro ⟨hR, hokrlaidr5, hj⟩
       replace hR := (pen_changes_j13.eq_1 ..).symm.trans hR
       refine J_region 2 rfl ?_
       refine ix rfl (det_add64 (c := 1) rfl rfl rfl rfl (by decide)) ?_
       refine ip 1 0 [(96, iv 1)] (by kernel_rfl) ?_
       refine JI_end ?_
       refine JR_succ ?_
       refine sr 1 rfl ?_
       refine ip 1 0 [(97, bv true)] (by kernel_rfl) ?_
       refine ie ?_
       refine J_seq ?_
       refine J_yes rfl ?_
       refine J_skip ?_
       refine nx ?_
       refine JS2 (fun (y5 : List Act) (rlaidr6 : VR) => pen_changes_j14 from_ to y5 = R ∧ VOk 6 y5.length rlaidr6 ∧ y5.length ≤ 1102) (fun (y5 : List Act) (rlaidr6 : VR) => [(5, pt b3 0), (6, .func (.func 133) #[pt b3 0] #[]), (95, ag [iv 4, iv from_.fore.kind, iv from_.fore.n, iv to.fore.kind, iv to.fore.n, iv 5, iv from_.back.kind, iv from_.back.n, iv to.back.kind, iv to.back.n, iv 6, iv from_.line.kind, iv from_.line.n, iv to.line.kind, iv to.line.n]), (96, iv 1)]) (fun (y5 : List Act) (rlaidr6 : VR) => (bx b3 [.slice (va rlaidr6.q) y5.length rlaidr6.k] 184 :: bx b2 (cSty to) 70 :: bx b1 (cSty from_) 70 :: (vo cAct 26 rlaidr6 y5) ++ ([]))) (fun (y5 : List Act) (rlaidr6 : VR) => []) ?_ ?_
       ·refine J_block ?_
        refine sr 3 rfl ?_
        refine ix rfl (det_index (v := ag [iv 5, iv from_.back.kind, iv from_.back.n, iv to.back.kind, iv to.back.n]) (us := [iv 5, iv from_.back.kind, iv from_.back.n, iv to.back.kind, iv to.back.n]) Tryz.underlying188 ty187 rfl rfl rfl 1 rfl (by decide) rfl rfl rfl) ?_
        refine it rfl (tri_alloc (cs := [iv 0, iv 0, iv 0, iv 0, iv 0]) zero187 rfl) fun b22 => ?_
        refine it rfl (tri_store (us := [iv 5, iv from_.back.kind, iv from_.back.n, iv to.back.kind, iv to.back.n]) (cs' := [iv 5, iv from_.back.kind, iv from_.back.n, iv to.back.kind, iv to.back.n]) ty187 rfl rfl rfl 0 rfl rfl rfl rfl rfl rfl) fun _ => ?_
        refine ie ?_
        refine sr 5 rfl ?_
        refine ip 1 4 [(99, pt b22 1)] (by kernel_rfl) ?_
        refine ix rfl (det_own_agg (us := [iv from_.back.kind, iv from_.back.n]) ty24 rfl rfl 0 rfl rfl rfl) ?_
        refine ip 1 2 [(101, pt b22 3)] (by kernel_rfl) ?_
        refine ix rfl (det_own_agg (us := [iv to.back.kind, iv to.back.n]) ty24 rfl rfl 0 rfl rfl rfl) ?_
        refine ix rfl (det_nes (a := from_.back) (b := to.back) eqt24 rfl rfl rfl) ?_
        refine ie ?_
        refine J_if rfl (fun h23 => ?_) (fun h23 => ?_)
        ·have h23p : ¬ from_.back = to.back := by simpa using h23
         replace hR := bt hR h23
         refine J_region 6 rfl ?_
         refine ip 2 4 [(104, .func (.func 133) #[pt b3 0] #[]), (105, pt b22 0)] (by kernel_rfl) ?_
         refine ix rfl (det_own_one (v := iv 5) ty3 rfl rfl 0 rfl rfl) ?_
         refine ip 1 2 [(107, pt b22 3)] (by kernel_rfl) ?_
         refine ix rfl (det_own_agg (us := [iv to.back.kind, iv to.back.n]) ty24 rfl rfl 0 rfl rfl rfl) ?_
         have hQ := bindVx hR; clear hR; obtain ⟨y12, hy12, hR⟩ := hQ
         refine it rfl (tri_callP (L2 := [bx b22 [iv 5, iv from_.back.kind, iv from_.back.n, iv to.back.kind, iv to.back.n] 187, bx b2 (cSty to) 70, bx b1 (cSty from_) 70]) (pen_row_adda_c y8 5 0 to.back b3 rlaidr5 hokrlaidr5 (by first | omega | (simp <;> omega)) y12 hy12) rfl rfl rfl rfl rfl Foll.nil (permC [[bx b22 [iv 5, iv from_.back.kind, iv from_.back.n, iv to.back.kind, iv to.back.n] 187], [bx b3 [.slice (va rlaidr5.q) y8.length rlaidr5.k] 184], [bx b2 (cSty to) 70], [bx b1 (cSty from_) 70], vo cAct 26 rlaidr5 y8] [1, 4, 0, 2, 3] 5 rfl (by decide) rfl [[bx b3 [.slice (va rlaidr5.q) y8.length rlaidr5.k] 184], vo cAct 26 rlaidr5 y8, [bx b22 [iv 5, iv from_.back.kind, iv from_.back.n, iv to.back.kind, iv to.back.n] 187], [bx b2 (cSty to) 70], [bx b1 (cSty from_) 70]] rfl (by first | rfl | simp only [List.flatten_cons, List.flatten_nil, List.append_nil, List.cons_append, List.nil_append, List.append_assoc])) (fun ⟨r24, hk25⟩ => (bx b3 [.slice (va r24.q) y12.length r24.k] 184 :: bx b22 [iv 5, iv from_.back.kind, iv from_.back.n, iv to.back.kind, iv to.back.n] 187 :: bx b2 (cSty to) 70 :: bx b1 (cSty from_) 70 :: (vo cAct 26 r24 y12) ++ ([]))) (fun ⟨r24, hk25⟩ => permC [[bx b3 [.slice (va r24.q) y12.length r24.k] 184], vo cAct 26 r24 y12, [bx b22 [iv 5, iv from_.back.kind, iv from_.back.n, iv to.back.kind, iv to.back.n] 187], [bx b2 (cSty to) 70], [bx b1 (cSty from_) 70]] [0, 2, 3, 4, 1] 5 rfl (by decide) (by first | rfl | simp only [List.flatten_cons, List.flatten_nil, List.append_nil, List.cons_append, List.nil_append, List.append_assoc]) [[bx b3 [.slice (va r24.q) y12.length r24.k] 184], [bx b22 [iv 5, iv from_.back.kind, iv from_.back.n, iv to.back.kind, iv to.back.n] 187], [bx b2 (cSty to) 70], [bx b1 (cSty from_) 70], vo cAct 26 r24 y12] rfl (by first | rfl | simp only [List.flatten_cons, List.flatten_nil, List.append_nil, List.cons_append, List.nil_append, List.append_assoc]))) fun ⟨r24, hk25⟩ => ?_
         have := VOk.le hk25
         have := VOk.cap hk25
         have := pen_row_adda_len y8 5 0 to.back; try rw [hy12] at this
         refine JI_end ?_
         exact meet2 y12 r24 ⟨hR, hk25, (by first | omega | (simp <;> omega))⟩ ⟨rfl, rfl, rfl, rfl, trivial⟩ (mc [[bx b3 [.slice (va r24.q) y12.length r24.k] 184], [bx b22 [iv 5, iv from_.back.kind, iv from_.back.n, iv to.back.kind, iv to.back.n] 187], [bx b2 (cSty to) 70], [bx b1 (cSty from_) 70], vo cAct 26 r24 y12] [true, false, true, true, true] rfl (by first | rfl | (simp only [List.length_set] <;> rfl))) Foll.nil
        ·have h23p : ¬ (¬ from_.back = to.back) := by simpa using h23
         replace hR := bf hR h23
         refine J_skip ?_
         exact meet2 y8 rlaidr5 ⟨hR, hokrlaidr5, (by first | omega | (simp <;> omega))⟩ ⟨rfl, rfl, rfl, rfl, trivial⟩ (mc [[bx b22 [iv 5, iv from_.back.kind, iv from_.back.n, iv to.back.kind, iv to.back.n] 187], [bx b3 [.slice (va rlaidr5.q) y8.length rlaidr5.k] 184], [bx b2 (cSty to) 70], [bx b1 (cSty from_) 70], vo cAct 26 rlaidr5 y8] [false, true, true, true, true] rfl (by first | rfl | (simp only [List.length_set] <;> rfl))) Foll.nil
       ·intro y5 rlaidr6
        rintro ⟨hR, hokrlaidr6, hj⟩
        replace hR := (pen_changes_j14.eq_1 ..).symm.trans hR
        refine J_region 2 rfl ?_
        refine ix rfl (det_add64 (c := 2) rfl rfl rfl rfl (by decide)) ?_
        refine ip 1 0 [(96, iv 2)] (by kernel_rfl) ?_
        refine JI_end ?_
        refine JR_succ ?_
        refine sr 1 rfl ?_
        refine ip 1 0 [(97, bv true)] (by kernel_rfl) ?_
        refine ie ?_
        refine J_seq ?_
        refine J_yes rfl ?_
        refine J_skip ?_
        refine nx ?_
        refine JS2 (fun (y15 : List Act) (rlaidr7 : VR) => pen_changes_j15 y15 = R ∧ VOk 6 y15.length rlaidr7) (fun (y15 : List Act) (rlaidr7 : VR) => [(5, pt b3 0), (6, .func (.func 133) #[pt b3 0] #[]), (95, ag [iv 4, iv from_.fore.kind, iv from_.fore.n, iv to.fore.kind, iv to.fore.n, iv 5, iv from_.back.kind, iv from_.back.n, iv to.back.kind, iv to.back.n, iv 6, iv from_.line.kind, iv from_.line.n, iv to.line.kind, iv to.line.n]), (96, iv 2)]) (fun (y15 : List Act) (rlaidr7 : VR) => (bx b3 [.slice (va rlaidr7.q) y15.length rlaidr7.k] 184 :: bx b2 (cSty to) 70 :: bx b1 (cSty from_) 70 :: (vo cAct 26 rlaidr7 y15) ++ ([]))) (fun (y15 : List Act) (rlaidr7 : VR) => []) ?_ ?_
        ·refine J_block ?_
         refine sr 3 rfl ?_
         refine ix rfl (det_index (v := ag [iv 6, iv from_.line.kind, iv from_.line.n, iv to.line.kind, iv to.line.n]) (us := [iv 6, iv from_.line.kind, iv from_.line.n, iv to.line.kind, iv to.line.n]) Tryz.underlying188 ty187 rfl rfl rfl 2 rfl (by decide) rfl rfl rfl) ?_
         refine it rfl (tri_alloc (cs := [iv 0, iv 0, iv 0, iv 0, iv 0]) zero187 rfl) fun b26 => ?_
         refine it rfl (tri_store (us := [iv 6, iv from_.line.kind, iv from_.line.n, iv to.line.kind, iv to.line.n]) (cs' := [iv 6, iv from_.line.kind, iv from_.line.n, iv to.line.kind, iv to.line.n]) ty187 rfl rfl rfl 0 rfl rfl rfl rfl rfl rfl) fun _ => ?_
         refine ie ?_
         refine sr 5 rfl ?_
         refine ip 1 4 [(99, pt b26 1)] (by kernel_rfl) ?_
         refine ix rfl (det_own_agg (us := [iv from_.line.kind, iv from_.line.n]) ty24 rfl rfl 0 rfl rfl rfl) ?_
         refine ip 1 2 [(101, pt b26 3)] (by kernel_rfl) ?_
         refine ix rfl (det_own_agg (us := [iv to.line.kind, iv to.line.n]) ty24 rfl rfl 0 rfl rfl rfl) ?_
         refine ix rfl (det_nes (a := from_.line) (b := to.line) eqt24 rfl rfl rfl) ?_
         refine ie ?_
         refine J_if rfl (fun h27 => ?_) (fun h27 => ?_)
         ·have h27p : ¬ from_.line = to.line := by simpa using h27
          replace hR := bt hR h27
          refine J_region 6 rfl ?_
          refine ip 2 4 [(104, .func (.func 133) #[pt b3 0] #[]), (105, pt b26 0)] (by kernel_rfl) ?_
          refine ix rfl (det_own_one (v := iv 6) ty3 rfl rfl 0 rfl rfl) ?_
          refine ip 1 2 [(107, pt b26 3)] (by kernel_rfl) ?_
          refine ix rfl (det_own_agg (us := [iv to.line.kind, iv to.line.n]) ty24 rfl rfl 0 rfl rfl rfl) ?_
          have hQ := bindVx hR; clear hR; obtain ⟨y14, hy14, hR⟩ := hQ
          refine it rfl (tri_callP (L2 := [bx b26 [iv 6, iv from_.line.kind, iv from_.line.n, iv to.line.kind, iv to.line.n] 187, bx b2 (cSty to) 70, bx b1 (cSty from_) 70]) (pen_row_adda_c y5 6 0 to.line b3 rlaidr6 hokrlaidr6 (by first | omega | (simp <;> omega)) y14 hy14) rfl rfl rfl rfl rfl Foll.nil (permC [[bx b26 [iv 6, iv from_.line.kind, iv from_.line.n, iv to.line.kind, iv to.line.n] 187], [bx b3 [.slice (va rlaidr6.q) y5.length rlaidr6.k] 184], [bx b2 (cSty to) 70], [bx b1 (cSty from_) 70], vo cAct 26 rlaidr6 y5] [1, 4, 0, 2, 3] 5 rfl (by decide) rfl [[bx b3 [.slice (va rlaidr6.q) y5.length rlaidr6.k] 184], vo cAct 26 rlaidr6 y5, [bx b26 [iv 6, iv from_.line.kind, iv from_.line.n, iv to.line.kind, iv to.line.n] 187], [bx b2 (cSty to) 70], [bx b1 (cSty from_) 70]] rfl (by first | rfl | simp only [List.flatten_cons, List.flatten_nil, List.append_nil, List.cons_append, List.nil_append, List.append_assoc])) (fun ⟨r28, hk29⟩ => (bx b3 [.slice (va r28.q) y14.length r28.k] 184 :: bx b26 [iv 6, iv from_.line.kind, iv from_.line.n, iv to.line.kind, iv to.line.n] 187 :: bx b2 (cSty to) 70 :: bx b1 (cSty from_) 70 :: (vo cAct 26 r28 y14) ++ ([]))) (fun ⟨r28, hk29⟩ => permC [[bx b3 [.slice (va r28.q) y14.length r28.k] 184], vo cAct 26 r28 y14, [bx b26 [iv 6, iv from_.line.kind, iv from_.line.n, iv to.line.kind, iv to.line.n] 187], [bx b2 (cSty to) 70], [bx b1 (cSty from_) 70]] [0, 2, 3, 4, 1] 5 rfl (by decide) (by first | rfl | simp only [List.flatten_cons, List.flatten_nil, List.append_nil, List.cons_append, List.nil_append, List.append_assoc]) [[bx b3 [.slice (va r28.q) y14.length r28.k] 184], [bx b26 [iv 6, iv from_.line.kind, iv from_.line.n, iv to.line.kind, iv to.line.n] 187], [bx b2 (cSty to) 70], [bx b1 (cSty from_) 70], vo cAct 26 r28 y14] rfl (by first | rfl | simp only [List.flatten_cons, List.flatten_nil, List.append_nil, List.cons_append, List.nil_append, List.append_assoc]))) fun ⟨r28, hk29⟩ => ?_
          have := VOk.le hk29
          have := VOk.cap hk29
          have := pen_row_adda_len y5 6 0 to.line; try rw [hy14] at this
          refine JI_end ?_
          exact meet2 y14 r28 ⟨hR, hk29⟩ ⟨rfl, rfl, rfl, rfl, trivial⟩ (mc [[bx b3 [.slice (va r28.q) y14.length r28.k] 184], [bx b26 [iv 6, iv from_.line.kind, iv from_.line.n, iv to.line.kind, iv to.line.n] 187], [bx b2 (cSty to) 70], [bx b1 (cSty from_) 70], vo cAct 26 r28 y14] [true, false, true, true, true] rfl (by first | rfl | (simp only [List.length_set] <;> rfl))) Foll.nil
         ·have h27p : ¬ (¬ from_.line = to.line) := by simpa using h27
          replace hR := bf hR h27
          refine J_skip ?_
          exact meet2 y5 rlaidr6 ⟨hR, hokrlaidr6⟩ ⟨rfl, rfl, rfl, rfl, trivial⟩ (mc [[bx b26 [iv 6, iv from_.line.kind, iv from_.line.n, iv to.line.kind, iv to.line.n] 187], [bx b3 [.slice (va rlaidr6.q) y5.length rlaidr6.k] 184], [bx b2 (cSty to) 70], [bx b1 (cSty from_) 70], vo cAct 26 rlaidr6 y5] [false, true, true, true, true] rfl (by first | rfl | (simp only [List.length_set] <;> rfl))) Foll.nil
        ·intro y15 rlaidr7
         rintro ⟨hR, hokrlaidr7⟩
         replace hR := (pen_changes_j15.eq_1 ..).symm.trans hR
         refine J_region 2 rfl ?_
         refine ix rfl (det_add64 (c := 3) rfl rfl rfl rfl (by decide)) ?_
         refine ip 1 0 [(96, iv 3)] (by kernel_rfl) ?_
         refine JI_end ?_
         refine JR_succ ?_
         refine sr 1 rfl ?_
         refine ip 1 0 [(97, bv false)] (by kernel_rfl) ?_
         refine ie ?_
         refine J_seq ?_
         refine J_no rfl ?_
         refine J_exit ?_
         refine nx ?_
         refine sr 6 rfl ?_
         refine ip 4 2 [(114, pt b3 0)] (by kernel_rfl) ?_
         refine ix rfl (det_own_one (v := .slice (va rlaidr7.q) y15.length rlaidr7.k) ty27 rfl rfl 0 rfl rfl) ?_
         refine ip 1 0 [(4, .slice (va rlaidr7.q) y15.length rlaidr7.k)] (by kernel_rfl) ?_
         refine ie ?_
         refine J_ret ?_
         subst hR
         exact ends_ret rfl ⟨hr, hD⟩ (by simp [hD]) (res1 rfl (resV_tmp rfl)) ⟨rlaidr7, hokrlaidr7⟩ (by rfl) (mc [[bx b3 [.slice (va rlaidr7.q) y15.length rlaidr7.k] 184], [bx b2 (cSty to) 70], [bx b1 (cSty from_) 70], vo cAct 26 rlaidr7 y15] [false, false, false, true] rfl (by first | rfl | (simp only [List.length_set] <;> rfl))) Foll.nil
    ·have h14p : ¬ ((255 : Int) < bit1) := by simpa using h14
     replace hR := bf hR h14
     try (have hb255 : bit1 ≤ 255 := by have q := h14; simp at q; omega)
     refine J_skip ?_
     refine nx ?_
     refine sr 11 rfl ?_
     refine ip 1 10 [(55, pt b2 0)] (by kernel_rfl) ?_
     refine ix rfl (det_own_one (v := iv to.attr) ty3 rfl rfl 1 rfl rfl) ?_
     refine ip 4 5 [(60, bv (!decide ((bOp .and .i64 to.attr bit1) = 0)))] (by kernel_rfl) ?_
     refine iand 5 0 60 65 (decide ((bOp .and .i64 has bit1) = 0)) rfl (by kernel_rfl) (fun g30 => ?_) ?_
     ·have g30p : ¬ (bOp .and .i64 to.attr bit1) = 0 := by simpa using g30
      refine ip 5 0 [(65, bv (decide ((bOp .and .i64 has bit1) = 0)))] (by kernel_rfl) ?_
      exact JI_end (armI 2 60 65 g30 Foll.nil (mc [[bx b3 [.slice (va rlaidr2.q) rlaid2.length rlaidr2.k] 184], [bx b2 (cSty to) 70], [bx b1 (cSty from_) 70], vo cAct 26 rlaidr2 rlaid2] [true, true, true, true] rfl (by first | rfl | (simp only [List.length_set] <;> rfl))) rfl rfl rfl rfl rfl)
     refine ie ?_
     refine J_if rfl (fun h31 => ?_) (fun h31 => ?_)
     ·have h31p : (¬ (bOp .and .i64 to.attr bit1) = 0) ∧ ((bOp .and .i64 has bit1) = 0) := by simpa using h31
      replace hR := bt hR h31
      refine J_region 4 rfl ?_
      refine ip 2 2 [(66, .func (.func 133) #[pt b3 0] #[]), (67, iv bit1)] (by kernel_rfl) ?_
      refine ix rfl (det_build (cs := cCol Col.zero) rfl rfl (by kernel_rfl)) ?_
      have hQ := bindVx hR; clear hR; obtain ⟨y10, hy10, hR⟩ := hQ
      refine it rfl (tri_callP (L2 := [bx b2 (cSty to) 70, bx b1 (cSty from_) 70]) (pen_row_adda_c rlaid2 1 bit1 Col.zero b3 rlaidr2 hokrlaidr2 (by first | omega | (simp <;> omega)) y10 hy10) rfl rfl rfl rfl rfl Foll.nil (permC [[bx b3 [.slice (va rlaidr2.q) rlaid2.length rlaidr2.k] 184], [bx b2 (cSty to) 70], [bx b1 (cSty from_) 70], vo cAct 26 rlaidr2 rlaid2] [0, 3, 1, 2] 4 rfl (by decide) rfl [[bx b3 [.slice (va rlaidr2.q) rlaid2.length rlaidr2.k] 184], vo cAct 26 rlaidr2 rlaid2, [bx b2 (cSty to) 70], [bx b1 (cSty from_) 70]] rfl (by first | rfl | simp only [List.flatten_cons, List.flatten_nil, List.append_nil, List.cons_append, List.nil_append, List.append_assoc])) (fun ⟨r32, hk33⟩ => (bx b3 [.slice (va r32.q) y10.length r32.k] 184 :: bx b2 (cSty to) 70 :: bx b1 (cSty from_) 70 :: (vo cAct 26 r32 y10) ++ ([]))) (fun ⟨r32, hk33⟩ => permC [[bx b3 [.slice (va r32.q) y10.length r32.k] 184], vo cAct 26 r32 y10, [bx b2 (cSty to) 70], [bx b1 (cSty from_) 70]] [0, 2, 3, 1] 4 rfl (by decide) (by first | rfl | simp only [List.flatten_cons, List.flatten_nil, List.append_nil, List.cons_append, List.nil_append, List.append_assoc]) [[bx b3 [.slice (va r32.q) y10.length r32.k] 184], [bx b2 (cSty to) 70], [bx b1 (cSty from_) 70], vo cAct 26 r32 y10] rfl (by first | rfl | simp only [List.flatten_cons, List.flatten_nil, List.append_nil, List.cons_append, List.nil_append, List.append_assoc]))) fun ⟨r32, hk33⟩ => ?_
      have := VOk.le hk33
      have := VOk.cap hk33
      have := pen_row_adda_len rlaid2 1 bit1 Col.zero; try rw [hy10] at this
      refine JI_end ?_
      exact meet2 y10 r32 ⟨hR, hk33, (by first | omega | (simp <;> omega))⟩ ⟨rfl, rfl, rfl, rfl, rfl, rfl, trivial⟩ (mc [[bx b3 [.slice (va r32.q) y10.length r32.k] 184], [bx b2 (cSty to) 70], [bx b1 (cSty from_) 70], vo cAct 26 r32 y10] [true, true, true, true] rfl (by first | rfl | (simp only [List.length_set] <;> rfl))) Foll.nil
     ·have h31p : ¬ ((¬ (bOp .and .i64 to.attr bit1) = 0) ∧ ((bOp .and .i64 has bit1) = 0)) := by simpa using h31
      replace hR := bf hR h31
      try (have hb255 : bit1 ≤ 255 := by have q := h31; simp at q; omega)
      refine J_skip ?_
      exact meet2 rlaid2 rlaidr2 ⟨hR, hokrlaidr2, (by first | omega | (simp <;> omega))⟩ ⟨rfl, rfl, rfl, rfl, rfl, rfl, trivial⟩ (mc [[bx b3 [.slice (va rlaidr2.q) rlaid2.length rlaidr2.k] 184], [bx b2 (cSty to) 70], [bx b1 (cSty from_) 70], vo cAct 26 rlaidr2 rlaid2] [true, true, true, true] rfl (by first | rfl | (simp only [List.length_set] <;> rfl))) Foll.nil
   ·intro y17 rlaidr3
    rintro ⟨hR, hokrlaidr3, hj⟩
    replace hR := (pen_changes_j8.eq_1 ..).symm.trans hR
    refine J_region 3 rfl ?_
    refine ip 1 2 [(51, iv bit1)] (by kernel_rfl) ?_
    refine ix rfl (det_shl (c := (bit1 * 2)) rfl rfl rfl (by decide) (by show IntKind.i64.wrap (bit1 * 2) = _; exact wrap_in (by simp [IntKind.min, IntKind.signed, IntKind.bits]; omega) (by simp [IntKind.max, IntKind.signed, IntKind.bits]; omega))) ?_
    refine ip 1 0 [(10, iv (bit1 * 2))] (by kernel_rfl) ?_
    refine JI_end ?_
    exact againL4 (z1 := (fu3 + 1)) (z2 := bit1) (z3 := rlaid2) (z4 := rlaidr2) fu3 (bit1 * 2) y17 rlaidr3 ⟨(by omega), hR, hokrlaidr3, (by first | omega | (rw [wrap_in (by simp [IntKind.min, IntKind.signed, IntKind.bits]; omega) (by simp [IntKind.max, IntKind.signed, IntKind.bits]; omega)]; omega)), (by first | omega | (simp <;> omega))⟩ (Nat.lt_succ_self _) ⟨rfl, rfl, rfl, rfl, rfl, (by first | rfl | (simp only [List.length_set]; rfl) | (simp; done) | (simp; omega)), trivial⟩ (mc [[bx b3 [.slice (va rlaidr3.q) y17.length rlaidr3.k] 184], [bx b2 (cSty to) 70], [bx b1 (cSty from_) 70], vo cAct 26 rlaidr3 y17] [true, true, true, true] rfl (by first | rfl | (simp only [List.length_set] <;> rfl))) Foll.nil

def pen_Changes (from_ : Sty) (to : Sty) : List Act × Int :=
 (bif (!decide ((style_Check from_) = 0)) then (([] : List Act), (style_Check from_)) else (bif (!decide ((style_Check to) = 0)) then (([] : List Act), (style_Check to)) else (bindV (pen_changes from_ to) fun (y4 : List Act) => (y4, 0))))

theorem pen_Changes_len (f t : Sty) : (pen_Changes f t).1.length ≤ 21 := by
 have h := chg_len f t; rw [← pen_changes_eq] at h
 unfold pen_Changes; simp only [bindV, Bool.cond_eq_ite]; repeat' split
 all_goals first | exact h | simp
theorem pen_Changes_pen (f t : Sty) : ∀ a ∈ (pen_Changes f t).1, penA a := by
 have h := chg_pen f t; rw [← pen_changes_eq] at h
 unfold pen_Changes; simp only [bindV, Bool.cond_eq_ite]; repeat' split
 all_goals first | exact h | simp

theorem pen_Changes_c (from_ : Sty) (to : Sty) (R : List Act × Int) (hR : pen_Changes from_ to = R) : Con Tryz.prog 46 [ag (cSty from_), ag (cSty to)] [] [] ({r : VR // VOk 6 R.1.length r}) (fun x => .tuple #[.slice (va x.1.q) R.1.length x.1.k, iv R.2]) (fun x => ((vo cAct 26 x.1 R.1) ++ ([]))) (fun x => []) := by
 refine con_of_J (n := 24) Tryz.func46 rfl (by kernel_rfl) rfl rfl [(0, ag (cSty from_)), (1, ag (cSty to))] ⟨rfl, rfl, trivial⟩ fun X hX hr hD => ?_
 replace hR := (pen_Changes.eq_1 ..).symm.trans hR
 refine sr 4 rfl ?_
 refine it rfl (tri_box (cs := cSty from_) rfl rfl rfl) fun b1 => ?_
 refine it rfl (tri_box (cs := cSty to) rfl rfl rfl) fun b2 => ?_
 refine ip 2 0 [] (by kernel_rfl) ?_
 refine ie ?_
 refine J_seq ?_
 refine sr 4 rfl ?_
 refine ix rfl (det_own_agg (us := cSty from_) ty70 rfl rfl 1 rfl rfl rfl) ?_
 refine ix rfl (det_own_agg (us := cSty to) ty70 rfl rfl 0 rfl rfl rfl) ?_
 refine ix rfl (det_build (cs := [iv from_.attr, iv from_.under, iv from_.fore.kind, iv from_.fore.n, iv from_.back.kind, iv from_.back.n, iv from_.line.kind, iv from_.line.n, iv to.attr, iv to.under, iv to.fore.kind, iv to.fore.n, iv to.back.kind, iv to.back.n, iv to.line.kind, iv to.line.n]) rfl rfl (by kernel_rfl)) ?_
 refine ip 1 0 [(12, iv 0)] (by kernel_rfl) ?_
 refine ie ?_
 refine J_block ?_
 refine J_rounds 4 ?_
 refine JR_succ ?_
 refine sr 1 rfl ?_
 refine ip 1 0 [(13, bv true)] (by kernel_rfl) ?_
 refine ie ?_
 refine J_seq ?_
 refine J_yes rfl ?_
 refine J_skip ?_
 refine nx ?_
 refine J_seq ?_
 refine J_block ?_
 refine sr 3 rfl ?_
 refine ix rfl (det_index (v := ag [iv from_.attr, iv from_.under, iv from_.fore.kind, iv from_.fore.n, iv from_.back.kind, iv from_.back.n, iv from_.line.kind, iv from_.line.n]) (us := [iv from_.attr, iv from_.under, iv from_.fore.kind, iv from_.fore.n, iv from_.back.kind, iv from_.back.n, iv from_.line.kind, iv from_.line.n]) Tryz.underlying142 ty70 rfl rfl rfl 0 rfl (by decide) rfl rfl rfl) ?_
 refine it rfl (tri_alloc (cs := cSty Sty.zero) zero70 rfl) fun b3 => ?_
 refine it rfl (tri_store (us := [iv from_.attr, iv from_.under, iv from_.fore.kind, iv from_.fore.n, iv from_.back.kind, iv from_.back.n, iv from_.line.kind, iv from_.line.n]) (cs' := cSty from_) ty70 rfl rfl rfl 0 rfl rfl rfl rfl rfl rfl) fun _ => ?_
 refine ie ?_
 refine sr 3 rfl ?_
 refine ix rfl (det_own_agg (us := cSty from_) ty70 rfl rfl 0 rfl rfl rfl) ?_
 refine ixc rfl (det_call (style_Check_c from_ _ rfl) rfl rfl rfl rfl rfl Foll.nil) ?_
 refine ip 1 0 [(8, iv (style_Check from_))] (by kernel_rfl) ?_
 refine ie ?_
 refine sr 2 rfl ?_
 refine ip 2 0 [(18, bv (!decide ((style_Check from_) = 0)))] (by kernel_rfl) ?_
 refine ie ?_
 refine J_if rfl (fun h4 => ?_) (fun h4 => ?_)
 ·have h4p : ¬ (style_Check from_) = 0 := by simpa using h4
  replace hR := bt hR h4
  refine sr 3 rfl ?_
  refine ip 3 0 [(4, .slice none 0 0), (5, iv (style_Check from_))] (by kernel_rfl) ?_
  refine ie ?_
  refine J_ret ?_
  subst hR
  exact ends_ret rfl ⟨hr, hD⟩ (by simp [hD]) (res2 rfl (resV_tmp rfl) (resV_tmp rfl)) ⟨VR.nil, VOk.nil⟩ (by rfl) (mc [[bx b3 (cSty from_) 70], [bx b2 (cSty to) 70], [bx b1 (cSty from_) 70], vo cAct 26 VR.nil ([] : List Act)] [false, false, false, true] rfl (by first | rfl | (simp only [List.length_set] <;> rfl))) Foll.nil
 ·have h4p : ¬ (¬ (style_Check from_) = 0) := by simpa using h4
  replace hR := bf hR h4
  refine J_skip ?_
  refine nx ?_
  refine J_region 2 rfl ?_
  refine ix rfl (det_add64 (c := 1) rfl rfl rfl rfl (by decide)) ?_
  refine ip 1 0 [(12, iv 1)] (by kernel_rfl) ?_
  refine JI_end ?_
  refine JR_succ ?_
  refine sr 1 rfl ?_
  refine ip 1 0 [(13, bv true)] (by kernel_rfl) ?_
  refine ie ?_
  refine J_seq ?_
  refine J_yes rfl ?_
  refine J_skip ?_
  refine nx ?_
  refine J_seq ?_
  refine J_block ?_
  refine sr 3 rfl ?_
  refine ix rfl (det_index (v := ag [iv to.attr, iv to.under, iv to.fore.kind, iv to.fore.n, iv to.back.kind, iv to.back.n, iv to.line.kind, iv to.line.n]) (us := [iv to.attr, iv to.under, iv to.fore.kind, iv to.fore.n, iv to.back.kind, iv to.back.n, iv to.line.kind, iv to.line.n]) Tryz.underlying142 ty70 rfl rfl rfl 1 rfl (by decide) rfl rfl rfl) ?_
  refine it rfl (tri_alloc (cs := cSty Sty.zero) zero70 rfl) fun b5 => ?_
  refine it rfl (tri_store (us := [iv to.attr, iv to.under, iv to.fore.kind, iv to.fore.n, iv to.back.kind, iv to.back.n, iv to.line.kind, iv to.line.n]) (cs' := cSty to) ty70 rfl rfl rfl 0 rfl rfl rfl rfl rfl rfl) fun _ => ?_
  refine ie ?_
  refine sr 3 rfl ?_
  refine ix rfl (det_own_agg (us := cSty to) ty70 rfl rfl 0 rfl rfl rfl) ?_
  refine ixc rfl (det_call (style_Check_c to _ rfl) rfl rfl rfl rfl rfl Foll.nil) ?_
  refine ip 1 0 [(8, iv (style_Check to))] (by kernel_rfl) ?_
  refine ie ?_
  refine sr 2 rfl ?_
  refine ip 2 0 [(18, bv (!decide ((style_Check to) = 0)))] (by kernel_rfl) ?_
  refine ie ?_
  refine J_if rfl (fun h6 => ?_) (fun h6 => ?_)
  ·have h6p : ¬ (style_Check to) = 0 := by simpa using h6
   replace hR := bt hR h6
   refine sr 3 rfl ?_
   refine ip 3 0 [(4, .slice none 0 0), (5, iv (style_Check to))] (by kernel_rfl) ?_
   refine ie ?_
   refine J_ret ?_
   subst hR
   exact ends_ret rfl ⟨hr, hD⟩ (by simp [hD]) (res2 rfl (resV_tmp rfl) (resV_tmp rfl)) ⟨VR.nil, VOk.nil⟩ (by rfl) (mc [[bx b5 (cSty to) 70], [bx b3 (cSty from_) 70], [bx b2 (cSty to) 70], [bx b1 (cSty from_) 70], vo cAct 26 VR.nil ([] : List Act)] [false, false, false, false, true] rfl (by first | rfl | (simp only [List.length_set] <;> rfl))) Foll.nil
  ·have h6p : ¬ (¬ (style_Check to) = 0) := by simpa using h6
   replace hR := bf hR h6
   refine J_skip ?_
   refine nx ?_
   refine J_region 2 rfl ?_
   refine ix rfl (det_add64 (c := 2) rfl rfl rfl rfl (by decide)) ?_
   refine ip 1 0 [(12, iv 2)] (by kernel_rfl) ?_
   refine JI_end ?_
   refine JR_succ ?_
   refine sr 1 rfl ?_
   refine ip 1 0 [(13, bv false)] (by kernel_rfl) ?_
   refine ie ?_
   refine J_seq ?_
   refine J_no rfl ?_
   refine J_exit ?_
   refine nx ?_
   refine sr 5 rfl ?_
   refine ix rfl (det_own_agg (us := cSty from_) ty70 rfl rfl 3 rfl rfl rfl) ?_
   refine ix rfl (det_own_agg (us := cSty to) ty70 rfl rfl 2 rfl rfl rfl) ?_
   have hQ := bindVx hR; clear hR; obtain ⟨y4, hy4, hR⟩ := hQ
   refine it rfl (tri_callP (L2 := [bx b5 (cSty to) 70, bx b3 (cSty from_) 70, bx b2 (cSty to) 70, bx b1 (cSty from_) 70]) (pen_changes_c from_ to y4 hy4) rfl rfl rfl rfl rfl Foll.nil (List.Perm.refl _) (fun ⟨r7, hk8⟩ => (bx b5 (cSty to) 70 :: bx b3 (cSty from_) 70 :: bx b2 (cSty to) 70 :: bx b1 (cSty from_) 70 :: (vo cAct 26 r7 y4) ++ ([]))) (fun ⟨r7, hk8⟩ => permC [vo cAct 26 r7 y4, [bx b5 (cSty to) 70], [bx b3 (cSty from_) 70], [bx b2 (cSty to) 70], [bx b1 (cSty from_) 70]] [1, 2, 3, 4, 0] 5 rfl (by decide) (by first | rfl | simp only [List.flatten_cons, List.flatten_nil, List.append_nil, List.cons_append, List.nil_append, List.append_assoc]) [[bx b5 (cSty to) 70], [bx b3 (cSty from_) 70], [bx b2 (cSty to) 70], [bx b1 (cSty from_) 70], vo cAct 26 r7 y4] rfl (by first | rfl | simp only [List.flatten_cons, List.flatten_nil, List.append_nil, List.cons_append, List.nil_append, List.append_assoc]))) fun ⟨r7, hk8⟩ => ?_
   have := VOk.le hk8
   have := VOk.cap hk8
   have := pen_changes_len from_ to; try rw [hy4] at this
   refine ip 2 0 [(4, .slice (va r7.q) y4.length r7.k), (5, iv 0)] (by kernel_rfl) ?_
   refine ie ?_
   refine J_ret ?_
   subst hR
   exact ends_ret rfl ⟨hr, hD⟩ (by simp [hD]) (res2 rfl (resV_tmp rfl) (resV_tmp rfl)) ⟨r7, hk8⟩ (by rfl) (mc [[bx b5 (cSty to) 70], [bx b3 (cSty from_) 70], [bx b2 (cSty to) 70], [bx b1 (cSty from_) 70], vo cAct 26 r7 y4] [false, false, false, false, true] rfl (by first | rfl | (simp only [List.length_set] <;> rfl))) Foll.nil

def pen_anew (to : Sty) : List Act :=
 (bindV (pen_changes Sty.zero to) fun (y4 : List Act) => (([{ Act.zero with kind := 39, n := 0 }] : List Act) ++ y4))

theorem pen_anew_eq (t : Sty) : pen_anew t = pA 0 0 :: chg Sty.zero t := by unfold pen_anew bindV; rw [pen_changes_eq]; rfl
theorem pen_anew_len (t : Sty) : (pen_anew t).length ≤ 22 := by rw [pen_anew_eq]; have := chg_len Sty.zero t; simp only [List.length_cons]; omega
theorem pen_anew_pen (t : Sty) : ∀ a ∈ pen_anew t, penA a := by
 rw [pen_anew_eq]; intro a ha
 rcases List.mem_cons.1 ha with rfl | ha
 ·exact ⟨rfl, rfl⟩
 ·exact chg_pen _ _ a ha

theorem pen_anew_c (to : Sty) (R : List Act) (hR : pen_anew to = R) : Con Tryz.prog 77 [ag (cSty to)] [] [] ({t : Option Addr × Nat // R.length ≤ t.2 ∧ R.length ≤ 9223372036854775807}) (fun x => .slice x.1.1 R.length x.1.2) (fun x => []) (fun x => [sl cAct x.1.1 R]) := by
 refine con_of_J (n := 9) Tryz.func77 rfl (by kernel_rfl) rfl rfl [(0, ag (cSty to))] ⟨rfl, trivial⟩ fun X hX hr hD => ?_
 replace hR := (pen_anew.eq_1 ..).symm.trans hR
 refine sr 2 rfl ?_
 refine it rfl (tri_box (cs := cSty to) rfl rfl rfl) fun b1 => ?_
 refine ip 1 0 [] (by kernel_rfl) ?_
 refine ie ?_
 refine sr 7 rfl ?_
 refine ix rfl (det_build (cs := cAct ({ Act.zero with kind := 39, n := 0 })) rfl rfl (by kernel_rfl)) ?_
 refine it rfl (tri_buildSl (c := cAct) (xs := ([{ Act.zero with kind := 39, n := 0 }] : List Act)) slt27 rfl rfl rfl (by kernel_rfl)) fun b2 => ?_
 have : ([{ Act.zero with kind := 39, n := 0 }] : List Act).length = 1 := rfl
 refine ix rfl (det_build (cs := cSty Sty.zero) rfl rfl (by kernel_rfl)) ?_
 refine ix rfl (det_own_agg (us := cSty to) ty70 rfl rfl 0 rfl rfl rfl) ?_
 have hQ := bindVx hR; clear hR; obtain ⟨y4, hy4, hR⟩ := hQ
 refine it rfl (tri_callP (L2 := [bx b1 (cSty to) 70]) (pen_changes_c Sty.zero to y4 hy4) rfl rfl rfl rfl rfl Foll.nil (List.Perm.refl _) (fun ⟨r3, hk4⟩ => (bx b1 (cSty to) 70 :: (vo cAct 26 r3 y4) ++ ([]))) (fun ⟨r3, hk4⟩ => permC [vo cAct 26 r3 y4, [bx b1 (cSty to) 70]] [1, 0] 2 rfl (by decide) (by first | rfl | simp only [List.flatten_cons, List.flatten_nil, List.append_nil, List.cons_append, List.nil_append, List.append_assoc]) [[bx b1 (cSty to) 70], vo cAct 26 r3 y4] rfl (by first | rfl | simp only [List.flatten_cons, List.flatten_nil, List.append_nil, List.cons_append, List.nil_append, List.append_assoc]))) fun ⟨r3, hk4⟩ => ?_
 have := VOk.le hk4
 have := VOk.cap hk4
 have := pen_changes_len Sty.zero to; try rw [hy4] at this
 refine JI_seal [bx b1 (cSty to) 70] [] (T := 26) (c := cAct) (r := r3) (xs := y4) hk4 (by first | rfl | simp only [List.cons_append, List.append_assoc, List.nil_append, List.append_nil]) ?_
 refine it rfl (tri_appq (f := cAct) (xs := ([{ Act.zero with kind := 39, n := 0 }] : List Act)) (ys := y4) apt27 (fun _ => rfl) (fun _ => rfl) rfl rfl rfl rfl rfl rfl (by omega) (by omega) (by rfl) (at_of 1 rfl) (at_of 0 rfl) (by first | omega | (simp <;> omega)) (by first | omega | (simp <;> omega))) fun ⟨⟨q5, k6⟩, hq7⟩ => ?_
 refine ip 1 0 [(2, .slice q5 ((([{ Act.zero with kind := 39, n := 0 }] : List Act) ++ y4).length) k6)] (by kernel_rfl) ?_
 refine ie ?_
 refine J_ret ?_
 subst hR
 exact ends_ret rfl ⟨hr, hD⟩ (by simp [hD]) (res1 rfl (resV_tmp rfl)) ⟨(q5, k6), (by first | omega | (simp <;> omega) | (dsimp only; omega) | decide), (by first | omega | (simp <;> omega) | (dsimp only; omega) | decide)⟩ (by rfl) (mk [false] rfl) (Foll.con1 (at_of 0 rfl) Foll.nil)

def pen_Anew (to : Sty) : List Act × Int :=
 (bif (!decide ((style_Check to) = 0)) then (([] : List Act), (style_Check to)) else (bindV (pen_anew to) fun (y7 : List Act) => (y7, 0)))

theorem pen_Anew_len (t : Sty) : (pen_Anew t).1.length ≤ 22 := by
 have h := pen_anew_len t
 unfold pen_Anew; simp only [bindV, Bool.cond_eq_ite]; repeat' split
 all_goals first | exact h | simp
theorem pen_Anew_pen (t : Sty) : ∀ a ∈ (pen_Anew t).1, penA a := by
 have h := pen_anew_pen t
 unfold pen_Anew; simp only [bindV, Bool.cond_eq_ite]; repeat' split
 all_goals first | exact h | simp

theorem pen_Anew_c (to : Sty) (R : List Act × Int) (hR : pen_Anew to = R) : Con Tryz.prog 47 [ag (cSty to)] [] [] ({t : Option Addr × Nat // R.1.length ≤ t.2 ∧ R.1.length ≤ 9223372036854775807}) (fun x => .tuple #[.slice x.1.1 R.1.length x.1.2, iv R.2]) (fun x => []) (fun x => [sl cAct x.1.1 R.1]) := by
 refine con_of_J (n := 12) Tryz.func47 rfl (by kernel_rfl) rfl rfl [(0, ag (cSty to))] ⟨rfl, trivial⟩ fun X hX hr hD => ?_
 replace hR := (pen_Anew.eq_1 ..).symm.trans hR
 refine sr 3 rfl ?_
 refine it rfl (tri_box (cs := cSty to) rfl rfl rfl) fun b1 => ?_
 refine ip 2 0 [] (by kernel_rfl) ?_
 refine ie ?_
 refine J_seq ?_
 refine sr 3 rfl ?_
 refine ix rfl (det_own_agg (us := cSty to) ty70 rfl rfl 0 rfl rfl rfl) ?_
 refine ixc rfl (det_call (style_Check_c to _ rfl) rfl rfl rfl rfl rfl Foll.nil) ?_
 refine ip 1 0 [(4, iv (style_Check to))] (by kernel_rfl) ?_
 refine ie ?_
 refine sr 2 rfl ?_
 refine ip 2 0 [(8, bv (!decide ((style_Check to) = 0)))] (by kernel_rfl) ?_
 refine ie ?_
 refine J_if rfl (fun h2 => ?_) (fun h2 => ?_)
 ·have h2p : ¬ (style_Check to) = 0 := by simpa using h2
  replace hR := bt hR h2
  refine sr 3 rfl ?_
  refine ip 3 0 [(2, .slice none 0 0), (3, iv (style_Check to))] (by kernel_rfl) ?_
  refine ie ?_
  refine J_ret ?_
  subst hR
  exact ends_ret rfl ⟨hr, hD⟩ (by simp [hD]) (res2 rfl (resV_tmp rfl) (resV_tmp rfl)) ⟨(none, 0), (by first | omega | (simp <;> omega) | (dsimp only; omega) | decide), (by first | omega | (simp <;> omega) | (dsimp only; omega) | decide)⟩ (by rfl) (mk [false] rfl) (Foll.con1 sl_nil Foll.nil)
 ·have h2p : ¬ (¬ (style_Check to) = 0) := by simpa using h2
  replace hR := bf hR h2
  refine J_skip ?_
  refine nx ?_
  refine sr 4 rfl ?_
  refine ix rfl (det_own_agg (us := cSty to) ty70 rfl rfl 0 rfl rfl rfl) ?_
  have hQ := bindVx hR; clear hR; obtain ⟨y7, hy7, hR⟩ := hQ
  refine it rfl (tri_callN (L2 := [bx b1 (cSty to) 70]) (pen_anew_c to y7 hy7) rfl rfl rfl rfl rfl Foll.nil (List.Perm.refl _) (fun ⟨⟨q3, k4⟩, hp5⟩ => [bx b1 (cSty to) 70]) (fun _ => rfl)) fun ⟨⟨q3, k4⟩, hp5⟩ => ?_
  obtain ⟨hc6, hl7⟩ := hp5
  have := pen_anew_len to; try rw [hy7] at this
  have := pen_anew_pen to; try rw [hy7] at this
  refine ip 2 0 [(2, .slice q3 y7.length k4), (3, iv 0)] (by kernel_rfl) ?_
  refine ie ?_
  refine J_ret ?_
  subst hR
  exact ends_ret rfl ⟨hr, hD⟩ (by simp [hD]) (res2 rfl (resV_tmp rfl) (resV_tmp rfl)) ⟨(q3, k4), (by first | omega | (simp <;> omega) | (dsimp only; omega) | decide), (by first | omega | (simp <;> omega) | (dsimp only; omega) | decide)⟩ (by rfl) (mk [false] rfl) (Foll.con1 (at_of 0 rfl) Foll.nil)

def pen_Steps (from_ : Sty) (to : Sty) : List Act × Int :=
 (bindV (pen_Changes from_ to) fun (y3 : List Act × Int) => (bif ((!decide (y3.2 = 0)) || (decide (from_ = to))) then (([] : List Act), y3.2) else (bindV (pen_anew to) fun (y7 : List Act) => (bindV (pen_Cost y3.1) fun (y2 : Int × Int) => (bindV (pen_Cost y7) fun (y9 : Int × Int) => (bif (((!decide (y2.2 = 0)) || (!decide (y9.2 = 0))) || (decide (y2.1 ≤ y9.1))) then (y3.1, 0) else (y7, 0)))))))

theorem pen_Steps_len (f t : Sty) : (pen_Steps f t).1.length ≤ 22 := by
 have h := pen_Changes_len f t; have h2 := pen_anew_len t
 unfold pen_Steps; simp only [bindV, Bool.cond_eq_ite]; repeat' split
 all_goals first | exact h2 | exact Nat.le_trans h (by omega) | simp
theorem pen_Steps_pen (f t : Sty) : ∀ a ∈ (pen_Steps f t).1, penA a := by
 have h := pen_Changes_pen f t; have h2 := pen_anew_pen t
 unfold pen_Steps; simp only [bindV, Bool.cond_eq_ite]; repeat' split
 all_goals first | exact h2 | exact h | simp

theorem pen_Steps_c (from_ : Sty) (to : Sty) (R : List Act × Int) (hR : pen_Steps from_ to = R) : Con Tryz.prog 41 [ag (cSty from_), ag (cSty to)] [] [sl cAtr (some ⟨2, 0, none⟩) tab2, tabP 5 pow10Cells] ({t : Option Addr × Nat // R.1.length ≤ t.2 ∧ R.1.length ≤ 9223372036854775807}) (fun x => .tuple #[.slice x.1.1 R.1.length x.1.2, iv R.2]) (fun x => []) (fun x => [sl cAct x.1.1 R.1]) := by
 refine con_of_J (n := 51) Tryz.func41 rfl (by kernel_rfl) rfl rfl [(0, ag (cSty from_)), (1, ag (cSty to))] ⟨rfl, rfl, trivial⟩ fun X hX hr hD => ?_
 replace hR := (pen_Steps.eq_1 ..).symm.trans hR
 refine sr 4 rfl ?_
 refine it rfl (tri_box (cs := cSty from_) rfl rfl rfl) fun b1 => ?_
 refine it rfl (tri_box (cs := cSty to) rfl rfl rfl) fun b2 => ?_
 refine ip 2 0 [] (by kernel_rfl) ?_
 refine ie ?_
 refine sr 8 rfl ?_
 refine ix rfl (det_own_agg (us := cSty from_) ty70 rfl rfl 1 rfl rfl rfl) ?_
 refine ix rfl (det_own_agg (us := cSty to) ty70 rfl rfl 0 rfl rfl rfl) ?_
 have hQ := bindVx hR; clear hR; obtain ⟨y3, hy3, hR⟩ := hQ
 refine it rfl (tri_callP (L2 := [bx b2 (cSty to) 70, bx b1 (cSty from_) 70]) (pen_Changes_c from_ to y3 hy3) rfl rfl rfl rfl rfl Foll.nil (List.Perm.refl _) (fun ⟨r3, hk4⟩ => (bx b2 (cSty to) 70 :: bx b1 (cSty from_) 70 :: (vo cAct 26 r3 y3.1) ++ ([]))) (fun ⟨r3, hk4⟩ => permC [vo cAct 26 r3 y3.1, [bx b2 (cSty to) 70], [bx b1 (cSty from_) 70]] [1, 2, 0] 3 rfl (by decide) (by first | rfl | simp only [List.flatten_cons, List.flatten_nil, List.append_nil, List.cons_append, List.nil_append, List.append_assoc]) [[bx b2 (cSty to) 70], [bx b1 (cSty from_) 70], vo cAct 26 r3 y3.1] rfl (by first | rfl | simp only [List.flatten_cons, List.flatten_nil, List.append_nil, List.cons_append, List.nil_append, List.append_assoc]))) fun ⟨r3, hk4⟩ => ?_
 have := VOk.le hk4
 have := VOk.cap hk4
 have := pen_Changes_len from_ to; try rw [hy3] at this
 have := pen_Changes_pen from_ to; try rw [hy3] at this
 refine ip 5 0 [(6, .slice (va r3.q) y3.1.length r3.k), (7, iv y3.2)] (by kernel_rfl) ?_
 refine ie ?_
 refine J_seq ?_
 refine sr 7 rfl ?_
 refine ip 3 4 [(20, bv (!decide (y3.2 = 0)))] (by kernel_rfl) ?_
 refine ior 4 0 20 24 (decide (from_ = to)) rfl (by kernel_rfl) (fun g5 => ?_) ?_
 ·have g5p : ¬ (¬ y3.2 = 0) := by simpa using g5
  refine ix rfl (det_own_agg (us := cSty from_) ty70 rfl rfl 1 rfl rfl rfl) ?_
  refine ix rfl (det_own_agg (us := cSty to) ty70 rfl rfl 0 rfl rfl rfl) ?_
  refine ix rfl (det_eqs (a := from_) (b := to) eqt70 rfl rfl rfl) ?_
  refine ip 1 0 [(24, bv (decide (from_ = to)))] (by kernel_rfl) ?_
  exact JI_end (armI 5 20 24 g5 Foll.refl (mc [[bx b2 (cSty to) 70], [bx b1 (cSty from_) 70], vo cAct 26 r3 y3.1] [true, true, true] rfl (by first | rfl | (simp only [List.length_set] <;> rfl))) rfl rfl rfl rfl rfl)
 refine ie ?_
 refine J_if rfl (fun h6 => ?_) (fun h6 => ?_)
 ·have h6p : (¬ y3.2 = 0) ∨ (from_ = to) := by simpa using h6
  replace hR := bt hR h6
  refine sr 3 rfl ?_
  refine ip 3 0 [(4, .slice none 0 0), (5, iv y3.2)] (by kernel_rfl) ?_
  refine ie ?_
  refine J_ret ?_
  subst hR
  exact ends_ret rfl ⟨hr, hD⟩ (by simp [hD]) (res2 rfl (resV_tmp rfl) (resV_tmp rfl)) ⟨(none, 0), (by first | omega | (simp <;> omega) | (dsimp only; omega) | decide), (by first | omega | (simp <;> omega) | (dsimp only; omega) | decide)⟩ (by rfl) (List.nil_sublist _) (Foll.con1 sl_nil Foll.nil)
 ·have h6p : ¬ ((¬ y3.2 = 0) ∨ (from_ = to)) := by simpa using h6
  replace hR := bf hR h6
  refine J_skip ?_
  refine nx ?_
  refine sr 3 rfl ?_
  refine ix rfl (det_own_agg (us := cSty to) ty70 rfl rfl 0 rfl rfl rfl) ?_
  have hQ := bindVx hR; clear hR; obtain ⟨y7, hy7, hR⟩ := hQ
  refine it rfl (tri_callN (L2 := (bx b2 (cSty to) 70 :: bx b1 (cSty from_) 70 :: (vo cAct 26 r3 y3.1) ++ ([]))) (pen_anew_c to y7 hy7) rfl rfl rfl rfl rfl Foll.nil (List.Perm.refl _) (fun ⟨⟨q7, k8⟩, hp9⟩ => (bx b2 (cSty to) 70 :: bx b1 (cSty from_) 70 :: (vo cAct 26 r3 y3.1) ++ ([]))) (fun _ => by first | rfl | simp only [List.append_nil, List.cons_append, List.nil_append, List.append_assoc])) fun ⟨⟨q7, k8⟩, hp9⟩ => ?_
  obtain ⟨hc10, hl11⟩ := hp9
  have := pen_anew_len to; try rw [hy7] at this
  have := pen_anew_pen to; try rw [hy7] at this
  refine ip 1 0 [(8, .slice q7 y7.length k8)] (by kernel_rfl) ?_
  refine ie ?_
  refine sr 7 rfl ?_
  refine ip 1 6 [(29, .slice (va r3.q) y3.1.length r3.k)] (by kernel_rfl) ?_
  have := VOk.cap hk4
  have := VOk.le hk4
  refine JI_seal [bx b2 (cSty to) 70, bx b1 (cSty from_) 70] [] (T := 26) (c := cAct) (r := r3) (xs := y3.1) hk4 (by first | rfl | simp only [List.cons_append, List.append_assoc, List.nil_append, List.append_nil]) ?_
  have hQ := bindVx hR; clear hR; obtain ⟨y2, hy2, hR⟩ := hQ
  refine ixc rfl (det_call (pen_Cost_c y3.1 (va r3.q) r3.k (by first | omega | (simp <;> omega) | (dsimp only; omega) | decide) (by first | omega | (simp <;> omega) | (dsimp only; omega) | decide) (by first | assumption | omega) (by first | omega | (simp <;> omega)) y2 hy2) rfl rfl rfl rfl rfl (Foll.pick [0, 2, 3] rfl)) ?_
  refine ip 5 0 [(9, iv y2.1), (7, iv y2.2)] (by kernel_rfl) ?_
  refine ie ?_
  refine sr 7 rfl ?_
  refine ip 1 6 [(34, .slice q7 y7.length k8)] (by kernel_rfl) ?_
  have hQ := bindVx hR; clear hR; obtain ⟨y9, hy9, hR⟩ := hQ
  refine ixc rfl (det_call (pen_Cost_c y7 q7 k8 (by first | omega | (simp <;> omega) | (dsimp only; omega) | decide) (by first | omega | (simp <;> omega) | (dsimp only; omega) | decide) (by first | assumption | omega) (by first | omega | (simp <;> omega)) y9 hy9) rfl rfl rfl rfl rfl (Foll.pick [1, 2, 3] rfl)) ?_
  refine ip 5 0 [(10, iv y9.1), (11, iv y9.2)] (by kernel_rfl) ?_
  refine ie ?_
  refine J_seq ?_
  refine sr 11 rfl ?_
  refine ip 3 8 [(40, bv (!decide (y2.2 = 0)))] (by kernel_rfl) ?_
  refine ior 3 5 40 43 (!decide (y9.2 = 0)) rfl (by kernel_rfl) (fun g12 => ?_) ?_
  ·have g12p : ¬ (¬ y2.2 = 0) := by simpa using g12
   refine ip 3 0 [(43, bv (!decide (y9.2 = 0)))] (by kernel_rfl) ?_
   exact JI_end (armI 2 40 43 g12 Foll.refl (mk [true, true] rfl) rfl rfl rfl rfl rfl)
  refine ip 1 4 [(44, bv ((!decide (y2.2 = 0)) || (!decide (y9.2 = 0))))] (by kernel_rfl) ?_
  refine ior 4 0 44 48 (decide (y2.1 ≤ y9.1)) rfl (by kernel_rfl) (fun g13 => ?_) ?_
  ·have g13p : ¬ ((¬ y2.2 = 0) ∨ (¬ y9.2 = 0)) := by simpa using g13
   refine ip 4 0 [(48, bv (decide (y2.1 ≤ y9.1)))] (by kernel_rfl) ?_
   exact JI_end (armI 2 44 48 g13 Foll.refl (mk [true, true] rfl) rfl rfl rfl rfl rfl)
  refine ie ?_
  refine J_if rfl (fun h14 => ?_) (fun h14 => ?_)
  ·have h14p : ((¬ y2.2 = 0) ∨ (¬ y9.2 = 0)) ∨ (y2.1 ≤ y9.1) := by simpa using h14
   replace hR := bt hR h14
   refine sr 3 rfl ?_
   refine ip 3 0 [(4, .slice (va r3.q) y3.1.length r3.k), (5, iv 0)] (by kernel_rfl) ?_
   refine ie ?_
   refine J_ret ?_
   subst hR
   exact ends_ret rfl ⟨hr, hD⟩ (by simp [hD]) (res2 rfl (resV_tmp rfl) (resV_tmp rfl)) ⟨(va r3.q, r3.k), (by first | omega | (simp <;> omega) | (dsimp only; omega) | decide), (by first | omega | (simp <;> omega) | (dsimp only; omega) | decide)⟩ (by rfl) (mk [false, false] rfl) (Foll.con1 (at_of 0 rfl) Foll.nil)
  ·have h14p : ¬ (((¬ y2.2 = 0) ∨ (¬ y9.2 = 0)) ∨ (y2.1 ≤ y9.1)) := by simpa using h14
   replace hR := bf hR h14
   refine J_skip ?_
   refine nx ?_
   refine sr 3 rfl ?_
   refine ip 3 0 [(4, .slice q7 y7.length k8), (5, iv 0)] (by kernel_rfl) ?_
   refine ie ?_
   refine J_ret ?_
   subst hR
   exact ends_ret rfl ⟨hr, hD⟩ (by simp [hD]) (res2 rfl (resV_tmp rfl) (resV_tmp rfl)) ⟨(q7, k8), (by first | omega | (simp <;> omega) | (dsimp only; omega) | decide), (by first | omega | (simp <;> omega) | (dsimp only; omega) | decide)⟩ (by rfl) (mk [false, false] rfl) (Foll.con1 (at_of 1 rfl) Foll.nil)

end Go.Proofs.YtinkdfnpmoljfaaGreatDoor

