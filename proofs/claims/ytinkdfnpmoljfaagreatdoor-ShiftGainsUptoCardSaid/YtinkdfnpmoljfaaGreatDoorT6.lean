import Derived.Test.YtinkdfnpmoljfaaGreatDoorD2
import Derived.Test.YtinkdfnpmoljfaaGreatDoorFenX
import Derived.Test.YtinkdfnpmoljfaaGreatDoorProg
import Derived.Test.YtinkdfnpmoljfaaGreatDoorT4a
import Derived.Test.YtinkdfnpmoljfaaGreatDoorT4b
import Derived.Test.YtinkdfnpmoljfaaGreatDoorT5
set_option linter.unusedVariables false
set_option linter.unusedSimpArgs false
set_option linter.unnecessarySimpa false
set_option maxRecDepth 100000
namespace Go.Proofs.YtinkdfnpmoljfaaGreatDoor
open Go Go.Fen
theorem eqt55 : EqT Tryz.prog 55 cShf := EqT.of 20 rfl (by kernel_rfl) (by kernel_rfl) (fun _ _ => by kernel_rfl) cShf.inj
theorem ty135 : Ty Tryz.prog 135 4 true := ⟨by kernel_rfl⟩
theorem zero55 : Zero Tryz.prog 55 (cShf Shf.zero) := ⟨by kernel_rfl⟩
theorem zero135 : Zero Tryz.prog 135 (cHld Hld.zero) := ⟨by kernel_rfl⟩
def shift_shifts (rows : Int) : Int :=
 rows

theorem shift_shifts_c (rows : Int) (R : Int) (hR : shift_shifts rows = R) : Con Tryz.prog 74 [iv rows] [] [] (Addr) (fun x => .func (.func 130) #[] #[pa x]) (fun x => []) (fun x => [at_ x [iv R]]) := by
 refine con_of_J (n := 4) Tryz.func74 rfl (by kernel_rfl) rfl rfl [(0, iv rows)] ⟨rfl, trivial⟩ fun X hX hr hD => ?_
 replace hR := (shift_shifts.eq_1 ..).symm.trans hR
 refine sr 2 rfl ?_
 refine it rfl (tri_box (cs := [iv rows]) rfl rfl rfl) fun b1 => ?_
 refine JI_fix 0 rfl ?_
 refine ip 1 0 [] (by kernel_rfl) ?_
 refine ie ?_
 refine sr 2 rfl ?_
 refine ip 2 0 [(2, .func (.func 130) #[] #[pa ⟨b1, 0, none⟩])] (by kernel_rfl) ?_
 refine ie ?_
 refine J_ret ?_
 subst hR
 exact ends_ret rfl ⟨hr, hD⟩ (by simp [hD]) (res1 rfl (resV_tmp rfl)) ⟨b1, 0, none⟩ (by rfl) (mk [] rfl) (Foll.con1 (at_of 0 rfl) Foll.nil)

def shift_shifts_1_l12 (t7 : Nat) (bottom : Nat) (ag_shift_shifts_1_l11 : Nat → List Shf) : Nat → Nat → List Shf
 | 0, _ => []
 | fu5 + 1, by_ => (bif (decide (((bottom : Int) - (t7 : Int)) < (by_ : Int))) then ag_shift_shifts_1_l11 (bottom + 1) else ({ Shf.zero with top := (t7 : Int), bottom := (bottom : Int), amt := (by_ : Int) } :: ({ Shf.zero with top := (t7 : Int), bottom := (bottom : Int), amt := (-(by_ : Int)) } :: shift_shifts_1_l12 t7 bottom ag_shift_shifts_1_l11 fu5 (by_ + 1))))
def shift_shifts_1_l11 (c0 : Int) (t7 : Nat) (ag_shift_shifts_1_l8 : Nat → List Shf) : Nat → Nat → List Shf
 | 0, _ => []
 | fu3 + 1, bottom => (bif (decide ((bottom : Int) < c0)) then shift_shifts_1_l12 t7 bottom (shift_shifts_1_l11 c0 t7 ag_shift_shifts_1_l8 fu3) ((bottom + 1 - (t7 + 1)) + 1) 1 else ag_shift_shifts_1_l8 (t7 + 1))
def shift_shifts_1_l8 (c0 : Int) : Nat → Nat → List Shf
 | 0, _ => []
 | fu1 + 1, t7 => (bif (decide ((t7 : Int) < c0)) then shift_shifts_1_l11 c0 t7 (shift_shifts_1_l8 c0 fu1) ((c0 - ((t7 + 1) : Int)).toNat + 1) (t7 + 1) else [])
def shift_shifts_1 (c0 : Int) : List Shf :=
 shift_shifts_1_l8 c0 ((c0 - (0 : Int)).toNat + 1) 0

theorem shifts_l12_in (c0 : Int) (hc : c0 ≤ 40) (t b : Nat) (htb : t ≤ b) (hb : (b : Int) < c0) (ag : Nat → List Shf) (hag : ∀ x ∈ ag (b + 1), shIn x) : ∀ (fu k : Nat), 1 ≤ k → ∀ x ∈ shift_shifts_1_l12 t b ag fu k, shIn x
 | 0, k, _, x, hx => by simp [shift_shifts_1_l12] at hx
 | fu + 1, k, hk, x, hx => by
  simp only [shift_shifts_1_l12] at hx
  by_cases c : (b : Int) - (t : Int) < (k : Int)
  ·rw [decide_eq_true c] at hx; exact hag x hx
  ·rw [decide_eq_false c, cond_false] at hx
   rcases List.mem_cons.1 hx with rfl | hx
   ·unfold shIn; dsimp only; omega
   ·rcases List.mem_cons.1 hx with rfl | hx
    ·unfold shIn; dsimp only; omega
    ·exact shifts_l12_in c0 hc t b htb hb ag hag fu (k + 1) (by omega) x hx
theorem shifts_l11_in (c0 : Int) (hc : c0 ≤ 40) (t : Nat) (ag : Nat → List Shf) (hag : ∀ x ∈ ag (t + 1), shIn x) : ∀ (fu b : Nat), t ≤ b → ∀ x ∈ shift_shifts_1_l11 c0 t ag fu b, shIn x
 | 0, b, _, x, hx => by simp [shift_shifts_1_l11] at hx
 | fu + 1, b, hb, x, hx => by
  simp only [shift_shifts_1_l11] at hx
  by_cases c : (b : Int) < c0
  ·rw [decide_eq_true c, cond_true] at hx
   exact shifts_l12_in c0 hc t b hb c _ (fun x hx => shifts_l11_in c0 hc t ag hag fu (b + 1) (by omega) x hx) _ 1 (Nat.le_refl _) x hx
  ·rw [decide_eq_false c, cond_false] at hx; exact hag x hx
theorem shifts_l8_in (c0 : Int) (hc : c0 ≤ 40) : ∀ (fu t : Nat), ∀ x ∈ shift_shifts_1_l8 c0 fu t, shIn x
 | 0, t, x, hx => by simp [shift_shifts_1_l8] at hx
 | fu + 1, t, x, hx => by
  simp only [shift_shifts_1_l8] at hx
  by_cases c : (t : Int) < c0
  ·rw [decide_eq_true c, cond_true] at hx
   exact shifts_l11_in c0 hc t _ (fun x hx => shifts_l8_in c0 hc fu (t + 1) x hx) _ (t + 1) (by omega) x hx
  ·rw [decide_eq_false c] at hx; simp at hx
theorem shifts_in (c0 : Int) (hc : c0 ≤ 40) : ∀ x ∈ shift_shifts_1 (shift_shifts c0), shIn x := shifts_l8_in c0 hc _ _

theorem shift_shifts_1_c (c0 : Int) (c0p : Addr) (hc : c0 ≤ 40) (R : List Shf) (hR : shift_shifts_1 c0 = R) : IterCon Tryz.prog 130 [pa c0p] [at_ c0p [iv c0]] (fun x => ag (cShf x)) R := by
 refine iter_of_J (n := 42) Tryz.func130 rfl (by kernel_rfl) rfl rfl (fun l => [(0, .func (.yield l) #[] #[]), (1, pa c0p)]) (fun l => ⟨rfl, rfl, trivial⟩) fun X l I Ix L Φ hX hr hD hI0 hY => ?_
 replace hR := (shift_shifts_1.eq_1 ..).symm.trans hR
 refine sr 2 rfl ?_
 refine ix rfl (det_ld_one (v := iv c0) (us := [iv c0]) ty3 rfl rfl (at_of 0 rfl) rfl) ?_
 refine ip 1 0 [(7, iv 0)] (by kernel_rfl) ?_
 refine ie ?_
 refine J_block ?_
 refine JL5 (fun (fu : Nat) (t7 : Nat) (R_ : List Shf) (Lt : Fen.Own) (Ft : List Pers) => (c0 - (t7 : Int)).toNat < fu ∧ shift_shifts_1_l8 c0 fu t7 = R_ ∧ I R_ Lt Ft ∧ t7 ≤ 40) (fun (fu : Nat) (t7 : Nat) (R_ : List Shf) (Lt : Fen.Own) (Ft : List Pers) => [(0, .func (.yield l) #[] #[]), (1, pa c0p), (6, iv c0), (7, iv (t7 : Int))]) (fun (fu : Nat) (t7 : Nat) (R_ : List Shf) (Lt : Fen.Own) (Ft : List Pers) => (Lt ++ ([]))) (fun (fu : Nat) (t7 : Nat) (R_ : List Shf) (Lt : Fen.Own) (Ft : List Pers) => (at_ c0p [iv c0] :: Ft)) (fun (fu : Nat) (t7 : Nat) (R_ : List Shf) (Lt : Fen.Own) (Ft : List Pers) => fu) ((c0 - (0 : Int)).toNat + 1) 0 R L Φ ⟨(Nat.lt_succ_self _), hR, hI0, (by omega)⟩ ⟨rfl, rfl, rfl, (by first | rfl | (simp only [List.length_set]; rfl) | (simp; done) | (simp; omega)), trivial⟩ (mc [L] [true] rfl (by first | rfl | (simp only [List.length_set] <;> rfl))) (Foll.con1 (at_of 0 rfl) (Foll.dropT 1 rfl)) ?_
 rintro fu t7 R_ Lt Ft ⟨hm1, hR, hILt, ht⟩
 obtain ⟨fu1, rfl⟩ : ∃ m, fu = m + 1 := ⟨fu - 1, by omega⟩
 replace hR := (shift_shifts_1_l8.eq_2 ..).symm.trans hR
 refine sr 1 rfl ?_
 refine ip 1 0 [(8, bv (decide ((t7 : Int) < c0)))] (by kernel_rfl) ?_
 refine ie ?_
 refine J_seq ?_
 refine J_if rfl (fun h2 => ?_) (fun h2 => ?_)
 ·have h2p : (t7 : Int) < c0 := by simpa using h2
  replace hR := bt hR h2
  refine J_skip ?_
  refine nx ?_
  refine J_seq ?_
  refine J_block ?_
  refine sr 2 rfl ?_
  refine ip 2 0 [(3, iv (t7 : Int))] (by kernel_rfl) ?_
  refine ie ?_
  refine J_scope ?_
  refine J_seq ?_
  refine J_label ?_
  refine nx ?_
  refine sr 3 rfl ?_
  refine ip 1 2 [(10, iv (t7 : Int))] (by kernel_rfl) ?_
  refine ix rfl (det_add64 rfl rfl rfl rfl (by omega)) ?_
  refine ip 1 0 [(4, iv ((t7 : Int) + 1))] (by kernel_rfl) ?_
  refine ie ?_
  refine J_block ?_
  refine JL5 (fun (fu2 : Nat) (bottom : Nat) (R_1 : List Shf) (Lt1 : Fen.Own) (Ft1 : List Pers) => (c0 - (bottom : Int)).toNat < fu2 ∧ shift_shifts_1_l11 c0 t7 (shift_shifts_1_l8 c0 fu1) fu2 bottom = R_1 ∧ I R_1 Lt1 Ft1 ∧ bottom ≤ 41 ∧ t7 < bottom) (fun (fu2 : Nat) (bottom : Nat) (R_1 : List Shf) (Lt1 : Fen.Own) (Ft1 : List Pers) => [(0, .func (.yield l) #[] #[]), (1, pa c0p), (3, iv (t7 : Int)), (4, iv (bottom : Int)), (6, iv c0), (7, iv (t7 : Int))]) (fun (fu2 : Nat) (bottom : Nat) (R_1 : List Shf) (Lt1 : Fen.Own) (Ft1 : List Pers) => (Lt1 ++ ([]))) (fun (fu2 : Nat) (bottom : Nat) (R_1 : List Shf) (Lt1 : Fen.Own) (Ft1 : List Pers) => (at_ c0p [iv c0] :: Ft1)) (fun (fu2 : Nat) (bottom : Nat) (R_1 : List Shf) (Lt1 : Fen.Own) (Ft1 : List Pers) => fu2) ((c0 - ((t7 + 1) : Int)).toNat + 1) (t7 + 1) R_ Lt Ft ⟨(Nat.lt_succ_self _), hR, hILt, (by omega)⟩ ⟨rfl, rfl, rfl, (by first | rfl | (simp only [List.length_set]; rfl) | (simp; done) | (simp; omega)), rfl, rfl, trivial⟩ (mc [Lt] [true] rfl (by first | rfl | (simp only [List.length_set] <;> rfl))) (Foll.con1 (at_of 0 rfl) (Foll.dropT 1 rfl)) ?_
  rintro fu2 bottom R_1 Lt1 Ft1 ⟨hm3, hR, hILt1, hb⟩
  obtain ⟨fu3, rfl⟩ : ∃ m, fu2 = m + 1 := ⟨fu2 - 1, by omega⟩
  replace hR := (shift_shifts_1_l11.eq_2 ..).symm.trans hR
  refine J_seq ?_
  refine sr 3 rfl ?_
  refine ip 1 2 [(12, iv (bottom : Int))] (by kernel_rfl) ?_
  refine ix rfl (det_ld_one (v := iv c0) (us := [iv c0]) ty3 rfl rfl (at_of 0 rfl) rfl) ?_
  refine ip 1 0 [(14, bv (decide ((bottom : Int) < c0)))] (by kernel_rfl) ?_
  refine ie ?_
  refine J_if rfl (fun h4 => ?_) (fun h4 => ?_)
  ·have h4p : (bottom : Int) < c0 := by simpa using h4
   replace hR := bt hR h4
   refine J_skip ?_
   refine nx ?_
   refine J_seq ?_
   refine J_block ?_
   refine sr 1 rfl ?_
   refine ip 1 0 [(5, iv 1)] (by kernel_rfl) ?_
   refine ie ?_
   refine J_block ?_
   refine JL5 (fun (fu4 : Nat) (by_ : Nat) (R_2 : List Shf) (Lt2 : Fen.Own) (Ft2 : List Pers) => (bottom + 1 - (t7 + by_)) < fu4 ∧ shift_shifts_1_l12 t7 bottom (shift_shifts_1_l11 c0 t7 (shift_shifts_1_l8 c0 fu1) fu3) fu4 by_ = R_2 ∧ I R_2 Lt2 Ft2 ∧ 1 ≤ by_ ∧ by_ ≤ 41) (fun (fu4 : Nat) (by_ : Nat) (R_2 : List Shf) (Lt2 : Fen.Own) (Ft2 : List Pers) => [(0, .func (.yield l) #[] #[]), (1, pa c0p), (3, iv (t7 : Int)), (4, iv (bottom : Int)), (5, iv (by_ : Int)), (6, iv c0), (7, iv (t7 : Int))]) (fun (fu4 : Nat) (by_ : Nat) (R_2 : List Shf) (Lt2 : Fen.Own) (Ft2 : List Pers) => (Lt2 ++ ([]))) (fun (fu4 : Nat) (by_ : Nat) (R_2 : List Shf) (Lt2 : Fen.Own) (Ft2 : List Pers) => (at_ c0p [iv c0] :: Ft2)) (fun (fu4 : Nat) (by_ : Nat) (R_2 : List Shf) (Lt2 : Fen.Own) (Ft2 : List Pers) => fu4) ((bottom + 1 - (t7 + 1)) + 1) 1 R_1 Lt1 Ft1 ⟨(Nat.lt_succ_self _), hR, hILt1, (by omega)⟩ ⟨rfl, rfl, rfl, rfl, (by first | rfl | (simp only [List.length_set]; rfl) | (simp; done) | (simp; omega)), rfl, rfl, trivial⟩ (mc [Lt1] [true] rfl (by first | rfl | (simp only [List.length_set] <;> rfl))) (Foll.con1 (at_of 0 rfl) (Foll.dropT 1 rfl)) ?_
   rintro fu4 by_ R_2 Lt2 Ft2 ⟨hm5, hR, hILt2, hy⟩
   obtain ⟨fu5, rfl⟩ : ∃ m, fu4 = m + 1 := ⟨fu4 - 1, by omega⟩
   replace hR := (shift_shifts_1_l12.eq_2 ..).symm.trans hR
   refine J_seq ?_
   refine J_block ?_
   refine J_seq ?_
   refine sr 5 rfl ?_
   refine ip 3 2 [(19, iv (by_ : Int)), (20, iv (bottom : Int)), (21, iv (t7 : Int))] (by kernel_rfl) ?_
   refine ix rfl (det_sub64 rfl rfl rfl rfl (by omega)) ?_
   refine ip 1 0 [(23, bv (decide (((bottom : Int) - (t7 : Int)) < (by_ : Int))))] (by kernel_rfl) ?_
   refine ie ?_
   refine J_if rfl (fun h6 => ?_) (fun h6 => ?_)
   ·have h6p : ((bottom : Int) - (t7 : Int)) < (by_ : Int) := by simpa using h6
    replace hR := bt hR h6
    refine J_exit ?_
    refine nx ?_
    refine J_region 3 rfl ?_
    refine ip 1 2 [(15, iv (bottom : Int))] (by kernel_rfl) ?_
    refine ix rfl (det_add64 rfl rfl rfl rfl (by omega)) ?_
    refine ip 1 0 [(4, iv ((bottom : Int) + 1))] (by kernel_rfl) ?_
    refine JI_end ?_
    exact againL5 (z1 := (fu3 + 1)) (z2 := bottom) (z3 := R_1) (z4 := Lt1) (z5 := Ft1) fu3 (bottom + 1) R_2 Lt2 Ft2 ⟨(by omega), hR, hILt2, (by omega)⟩ (Nat.lt_succ_self _) ⟨rfl, rfl, rfl, (by first | rfl | (simp only [List.length_set]; rfl) | (simp; done) | (simp; omega)), rfl, rfl, trivial⟩ (mc [Lt2] [true] rfl (by first | rfl | (simp only [List.length_set] <;> rfl))) (Foll.con1 (at_of 0 rfl) (Foll.dropT 1 rfl))
   ·have h6p : ¬ (((bottom : Int) - (t7 : Int)) < (by_ : Int)) := by simpa using h6
    replace hR := bf hR h6
    refine J_skip ?_
    refine nx ?_
    refine sr 17 rfl ?_
    refine ip 4 13 [(24, .func (.yield l) #[] #[]), (25, iv (t7 : Int)), (26, iv (bottom : Int)), (27, iv (by_ : Int))] (by kernel_rfl) ?_
    refine ix rfl (det_build (cs := cShf ({ Shf.zero with top := (t7 : Int), bottom := (bottom : Int), amt := (by_ : Int) })) rfl rfl (by kernel_rfl)) ?_
    have hq12 := consR hR; clear hR; obtain ⟨R7, hR, hq12⟩ := hq12; rw [hq12] at hILt2
    refine it rfl (tri_yield (L2 := []) (hY _ R7 _ _ hILt2) rfl rfl rfl rfl (Foll.dropT 1 rfl) (permC [Lt2] [0] 1 rfl (by decide) rfl [Lt2] rfl (by simp only [List.flatten_cons, List.flatten_nil, List.append_nil, List.cons_append, List.nil_append, List.append_assoc]))) fun ⟨⟨y8, L9, Φ10⟩, hy11⟩ => ?_
    refine JI_foll (Foll.yield [at_ c0p [iv c0]]) ?_
    refine ip 2 9 [(31, bv (!y8))] (by kernel_rfl) ?_
    rcases Bool.eq_false_or_eq_true y8 with g13 | g13
    ·refine JI_lit (b := false) 31 rfl (by rw [g13]; rfl) ?_
     rw [g13] at hy11; try simp only [if_true, if_false, Bool.false_eq_true] at hy11
     refine ip 4 5 [(32, .func (.yield l) #[] #[]), (33, iv (t7 : Int)), (34, iv (bottom : Int)), (35, iv (by_ : Int))] (by kernel_rfl) ?_
     refine ix rfl (det_neg64 rfl rfl rfl (by omega)) ?_
     refine ix rfl (det_build (cs := cShf ({ Shf.zero with top := (t7 : Int), bottom := (bottom : Int), amt := (-(by_ : Int)) })) rfl rfl (by kernel_rfl)) ?_
     have hq19 := consR hR; clear hR; obtain ⟨R14, hR, hq19⟩ := hq19; rw [hq19] at hy11
     refine it rfl (tri_yield (L2 := []) (hY _ R14 _ _ hy11) rfl rfl rfl rfl (Foll.dropT 1 rfl) (permC [L9] [0] 1 rfl (by decide) rfl [L9] rfl (by simp only [List.flatten_cons, List.flatten_nil, List.append_nil, List.cons_append, List.nil_append, List.append_assoc]))) fun ⟨⟨y15, L16, Φ17⟩, hy18⟩ => ?_
     refine JI_foll (Foll.yield [at_ c0p [iv c0]]) ?_
     refine ip 2 0 [(40, bv (!y15))] (by kernel_rfl) ?_
     refine ie ?_
     refine J_if rfl (fun h20 => ?_) (fun h20 => ?_)
     ·have h20b : y15 = false := by simpa using h20
      rw [h20b] at hy18; try simp only [if_true, if_false, Bool.false_eq_true] at hy18
      refine J_ret ?_
      exact iends_ret rfl ⟨hr, hD⟩ (by simp [hD]) (res0 rfl) (L' := L16) (Φ' := Φ17) (by exact .inr hy18) (mcT [L16] 0 rfl rfl) (Foll.dropT 1 rfl)
     ·have h20b : y15 = true := by simpa using h20
      rw [h20b] at hy18; try simp only [if_true, if_false, Bool.false_eq_true] at hy18
      refine J_skip ?_
      refine nx ?_
      refine J_region 3 rfl ?_
      refine ip 1 2 [(17, iv (by_ : Int))] (by kernel_rfl) ?_
      refine ix rfl (det_add64 rfl rfl rfl rfl (by omega)) ?_
      refine ip 1 0 [(5, iv ((by_ : Int) + 1))] (by kernel_rfl) ?_
      refine JI_end ?_
      exact againL5 (z1 := (fu5 + 1)) (z2 := by_) (z3 := R_2) (z4 := Lt2) (z5 := Ft2) fu5 (by_ + 1) R14 L16 Φ17 ⟨(by omega), hR, hy18, (by omega)⟩ (Nat.lt_succ_self _) ⟨rfl, rfl, rfl, rfl, (by first | rfl | (simp only [List.length_set]; rfl) | (simp; done) | (simp; omega)), rfl, rfl, trivial⟩ (mc [L16] [true] rfl (by first | rfl | (simp only [List.length_set] <;> rfl))) (Foll.con1 (at_of 0 rfl) (Foll.dropT 1 rfl))
    ·refine JI_lit (b := true) 31 rfl (by rw [g13]; rfl) ?_
     rw [g13] at hy11; try simp only [if_true, if_false, Bool.false_eq_true] at hy11
     refine ip 9 0 [(40, bv true)] (by kernel_rfl) ?_
     refine ie ?_
     refine J_yes rfl ?_
     refine J_ret ?_
     exact iends_ret rfl ⟨hr, hD⟩ (by simp [hD]) (res0 rfl) (L' := L9) (Φ' := Φ10) (by exact .inr hy11) (mcT [L9] 0 rfl rfl) (Foll.dropT 1 rfl)
  ·have h4p : ¬ ((bottom : Int) < c0) := by simpa using h4
   replace hR := bf hR h4
   refine J_exit ?_
   refine nx ?_
   refine J_region 2 rfl ?_
   refine ix rfl (det_add64 rfl rfl rfl rfl (by omega)) ?_
   refine ip 1 0 [(7, iv ((t7 : Int) + 1))] (by kernel_rfl) ?_
   refine JI_end ?_
   exact againL5 (z1 := (fu1 + 1)) (z2 := t7) (z3 := R_) (z4 := Lt) (z5 := Ft) fu1 (t7 + 1) R_1 Lt1 Ft1 ⟨(by omega), hR, hILt1, (by omega)⟩ (Nat.lt_succ_self _) ⟨rfl, rfl, rfl, (by first | rfl | (simp only [List.length_set]; rfl) | (simp; done) | (simp; omega)), trivial⟩ (mc [Lt1] [true] rfl (by first | rfl | (simp only [List.length_set] <;> rfl))) (Foll.con1 (at_of 0 rfl) (Foll.dropT 1 rfl))
 ·have h2p : ¬ ((t7 : Int) < c0) := by simpa using h2
  replace hR := bf hR h2
  refine J_exit ?_
  subst hR
  exact iends_normal rfl ⟨hr, hD⟩ (by simp [hD]) (res0 rfl) (L' := Lt) (Φ' := Ft) (by exact .inl hILt) (mcT [Lt] 0 rfl rfl) (Foll.dropT 1 rfl)

def shift_Best_r0 (aC : Int) (aR : List (List Cel)) (aU : Plc) (aV : Bool) (aS : Int) (aT : List UInt8) (bC : Int) (bR : List (List Cel)) (bU : Plc) (bV : Bool) (bS : Int) (bT : List UInt8) : List Shf → Hld → (Shf × Int × Int)
 | [], f => (bif (decide (f.shift = Shf.zero)) then (Shf.zero, 0, 4) else (f.shift, f.gain, 0))
 | el :: rest, f => (bif (decide (f.gain < (shift_gain (shift_like aC aR aU aV aS aT bC bR bU bV bS bT) el))) then shift_Best_r0 aC aR aU aV aS aT bC bR bU bV bS bT rest ({ f with shift := el, gain := (shift_gain (shift_like aC aR aU aV aS aT bC bR bU bV bS bT) el) }) else shift_Best_r0 aC aR aU aV aS aT bC bR bU bV bS bT rest f)
def shift_Best (aC : Int) (aR : List (List Cel)) (aU : Plc) (aV : Bool) (aS : Int) (aT : List UInt8) (bC : Int) (bR : List (List Cel)) (bU : Plc) (bV : Bool) (bS : Int) (bT : List UInt8) : Shf × Int × Int :=
 (bif (!decide ((shift_sized aC aR aU aV aS aT bC bR bU bV bS bT) = 0)) then (Shf.zero, 0, (shift_sized aC aR aU aV aS aT bC bR bU bV bS bT)) else shift_Best_r0 aC aR aU aV aS aT bC bR bU bV bS bT (shift_shifts_1 (shift_shifts (aR.length : Int))) Hld.zero)

theorem shift_Best_c (aC : Int) (aR : List (List Cel)) (aU : Plc) (aV : Bool) (aS : Int) (aT : List UInt8) (bC : Int) (bR : List (List Cel)) (bU : Plc) (bV : Bool) (bS : Int) (bT : List UInt8) (aQ : Option Addr) (aZ : List Slc) (aK : Nat) (bQ : Option Addr) (bZ : List Slc) (bK : Nat) (hrowsaRowsrs : RowsOk aZ aR) (hlaRows : aR.length ≤ 9223372036854775807) (hcaRows : aR.length ≤ aK) (hrowsbRowsrs : RowsOk bZ bR) (hlbRows : bR.length ≤ 9223372036854775807) (hcbRows : bR.length ≤ bK) (hT : aT.length ≤ 100000000) (hT2 : bT.length ≤ 100000000) (R : Shf × Int × Int) (hR : shift_Best aC aR aU aV aS aT bC bR bU bV bS bT = R) : ConV Tryz.prog 35 [ag [iv aC, .slice aQ aR.length aK, iv aU.row, iv aU.col, bv aV, iv aS, sv aT], ag [iv bC, .slice bQ bR.length bK, iv bU.row, iv bU.col, bv bV, iv bS, sv bT]] [sl cSlc aQ aZ, rowsF cCel aZ aR, sl cSlc bQ bZ, rowsF cCel bZ bR, sl cSpn (some ⟨0, 0, none⟩) tab0, sl cSpn (some ⟨1, 0, none⟩) tab1] (.tuple #[ag (cShf R.1), iv R.2.1, iv R.2.2]) := by
 refine con_of_J (n := 53) Tryz.func35 rfl (by kernel_rfl) rfl rfl [(0, ag [iv aC, .slice aQ aR.length aK, iv aU.row, iv aU.col, bv aV, iv aS, sv aT]), (1, ag [iv bC, .slice bQ bR.length bK, iv bU.row, iv bU.col, bv bV, iv bS, sv bT])] ⟨rfl, rfl, trivial⟩ fun X hX hr hD => ?_
 replace hR := (shift_Best.eq_1 ..).symm.trans hR
 have := hrowsaRowsrs.1
 have := hrowsbRowsrs.1
 refine sr 5 rfl ?_
 refine it rfl (tri_box (cs := [iv aC, .slice aQ aR.length aK, iv aU.row, iv aU.col, bv aV, iv aS, sv aT]) rfl rfl rfl) fun b1 => ?_
 refine it rfl (tri_box (cs := [iv bC, .slice bQ bR.length bK, iv bU.row, iv bU.col, bv bV, iv bS, sv bT]) rfl rfl rfl) fun b2 => ?_
 refine it rfl (tri_alloc (cs := cShf Shf.zero) zero55 rfl) fun b3 => ?_
 refine ip 2 0 [] (by kernel_rfl) ?_
 refine ie ?_
 refine J_seq ?_
 refine sr 4 rfl ?_
 refine ix rfl (det_own_agg (us := [iv aC, .slice aQ aR.length aK, iv aU.row, iv aU.col, bv aV, iv aS, sv aT]) ty53 rfl rfl 2 rfl rfl rfl) ?_
 refine ix rfl (det_own_agg (us := [iv bC, .slice bQ bR.length bK, iv bU.row, iv bU.col, bv bV, iv bS, sv bT]) ty53 rfl rfl 1 rfl rfl rfl) ?_
 refine ixc rfl (det_call (shift_sized_c aC aR aU aV aS aT bC bR bU bV bS bT aQ aZ aK bQ bZ bK hrowsaRowsrs (by first | omega | (simp <;> omega) | (dsimp only; omega) | decide) (by first | omega | (simp <;> omega) | (dsimp only; omega) | decide) hrowsbRowsrs (by first | omega | (simp <;> omega) | (dsimp only; omega) | decide) (by first | omega | (simp <;> omega) | (dsimp only; omega) | decide) (by first | omega | (simp <;> omega)) (by first | omega | (simp <;> omega)) _ rfl) rfl rfl rfl rfl rfl Foll.refl) ?_
 refine ip 1 0 [(7, iv (shift_sized aC aR aU aV aS aT bC bR bU bV bS bT))] (by kernel_rfl) ?_
 refine ie ?_
 refine sr 2 rfl ?_
 refine ip 2 0 [(16, bv (!decide ((shift_sized aC aR aU aV aS aT bC bR bU bV bS bT) = 0)))] (by kernel_rfl) ?_
 refine ie ?_
 refine J_if rfl (fun h4 => ?_) (fun h4 => ?_)
 ·have h4p : ¬ (shift_sized aC aR aU aV aS aT bC bR bU bV bS bT) = 0 := by simpa using h4
  replace hR := bt hR h4
  refine sr 5 rfl ?_
  refine ix rfl (det_build (cs := cShf Shf.zero) rfl rfl (by kernel_rfl)) ?_
  refine ip 1 3 [(18, iv (shift_sized aC aR aU aV aS aT bC bR bU bV bS bT))] (by kernel_rfl) ?_
  refine it rfl (tri_store (us := cShf Shf.zero) (cs' := cShf Shf.zero) ty55 rfl rfl rfl 0 rfl rfl rfl rfl rfl rfl) fun _ => ?_
  refine ip 2 0 [(5, iv 0), (6, iv (shift_sized aC aR aU aV aS aT bC bR bU bV bS bT))] (by kernel_rfl) ?_
  refine ie ?_
  refine J_ret ?_
  subst hR
  exact ends_ret rfl ⟨hr, hD⟩ (by simp [hD]) (res3 rfl (resV_cell (us := cShf Shf.zero) ty55 rfl 0 rfl rfl rfl) (resV_tmp rfl) (resV_tmp rfl)) () (by rfl) (mk [false, false, false] rfl) Foll.nil
 ·have h4p : ¬ (¬ (shift_sized aC aR aU aV aS aT bC bR bU bV bS bT) = 0) := by simpa using h4
  replace hR := bf hR h4
  have hz : (damage_Spans aC aR aU aV aS aT bC bR bU bV bS bT).2 = 0 := Classical.not_not.1 h4p
  have hchk := damage_checked_ok (damage_Spans_ok rfl hz)
  have hra := hchk.1.2.2.2.2
  have hrb := hchk.2.1.2.2.2.2
  refine J_skip ?_
  refine nx ?_
  refine sr 8 rfl ?_
  refine ix rfl (det_own_agg (us := [iv aC, .slice aQ aR.length aK, iv aU.row, iv aU.col, bv aV, iv aS, sv aT]) ty53 rfl rfl 2 rfl rfl rfl) ?_
  refine ix rfl (det_own_agg (us := [iv bC, .slice bQ bR.length bK, iv bU.row, iv bU.col, bv bV, iv bS, sv bT]) ty53 rfl rfl 1 rfl rfl rfl) ?_
  refine ixc rfl (det_call (shift_like_c aC aR aU aV aS aT bC bR bU bV bS bT aQ aZ aK bQ bZ bK hrowsaRowsrs (by first | omega | (simp <;> omega) | (dsimp only; omega) | decide) (by first | omega | (simp <;> omega) | (dsimp only; omega) | decide) hrowsbRowsrs (by first | omega | (simp <;> omega) | (dsimp only; omega) | decide) (by first | omega | (simp <;> omega) | (dsimp only; omega) | decide) (by first | omega | (simp <;> omega)) (by first | omega | (simp <;> omega)) _ rfl) rfl rfl rfl rfl rfl (Foll.pick [0, 1, 2, 3] rfl)) ?_
  refine ix rfl (det_build (cs := cHld Hld.zero) rfl rfl (by kernel_rfl)) ?_
  refine it rfl (tri_alloc (cs := cLks Lks.zero) zero128 rfl) fun b5 => ?_
  refine it rfl (tri_alloc (cs := cHld Hld.zero) zero135 rfl) fun b6 => ?_
  refine it rfl (tri_store (us := cLks (shift_like aC aR aU aV aS aT bC bR bU bV bS bT)) (cs' := cLks (shift_like aC aR aU aV aS aT bC bR bU bV bS bT)) ty128 rfl rfl rfl 1 rfl rfl rfl rfl rfl rfl) fun _ => ?_
  refine it rfl (tri_store (us := cHld Hld.zero) (cs' := cHld Hld.zero) ty135 rfl rfl rfl 0 rfl rfl rfl rfl rfl rfl) fun _ => ?_
  refine ie ?_
  refine J_seq ?_
  refine sr 4 rfl ?_
  refine ip 1 3 [(23, pt b1 1)] (by kernel_rfl) ?_
  refine ix rfl (det_own_one (v := .slice aQ aR.length aK) ty49 rfl rfl 4 rfl rfl) ?_
  refine ip 1 1 [(25, iv (aR.length : Int))] (by kernel_rfl) ?_
  refine it rfl (tri_callN (L2 := [bx b6 (cHld Hld.zero) 135, bx b5 (cLks (shift_like aC aR aU aV aS aT bC bR bU bV bS bT)) 128, bx b3 (cShf Shf.zero) 55, bx b2 [iv bC, .slice bQ bR.length bK, iv bU.row, iv bU.col, bv bV, iv bS, sv bT] 53, bx b1 [iv aC, .slice aQ aR.length aK, iv aU.row, iv aU.col, bv aV, iv aS, sv aT] 53]) (shift_shifts_c (aR.length : Int) _ rfl) rfl rfl rfl rfl rfl Foll.nil (List.Perm.refl _) (fun b7 => [bx b6 (cHld Hld.zero) 135, bx b5 (cLks (shift_like aC aR aU aV aS aT bC bR bU bV bS bT)) 128, bx b3 (cShf Shf.zero) 55, bx b2 [iv bC, .slice bQ bR.length bK, iv bU.row, iv bU.col, bv bV, iv bS, sv bT] 53, bx b1 [iv aC, .slice aQ aR.length aK, iv aU.row, iv aU.col, bv aV, iv aS, sv aT] 53]) (fun _ => rfl)) fun b7 => ?_
  refine ie ?_
  refine J_block ?_
  refine J_env [(4, pt b3 0), (8, pt b5 0), (9, pt b6 0), (26, .func (.func 130) #[] #[pa b7])] ⟨rfl, rfl, rfl, rfl, trivial⟩ ?_
  refine J_range (β := Shf) (enc := (fun x => ag (cShf x))) (xs := (shift_shifts_1 (shift_shifts (aR.length : Int)))) (σ := Hld) hr rfl (shift_shifts_1_c (shift_shifts (aR.length : Int)) b7 (by simp only [shift_shifts]; omega) _ rfl) (Foll.pick [0] rfl) rfl rfl (fun rem x => shift_Best_r0 aC aR aU aV aS aT bC bR bU bV bS bT rem x = R ∧ ∀ x ∈ rem, shIn x) (fun _ _ => False) (fun x => [bx b6 (cHld x) 135, bx b5 (cLks (shift_like aC aR aU aV aS aT bC bR bU bV bS bT)) 128, bx b3 (cShf Shf.zero) 55, bx b2 [iv bC, .slice bQ bR.length bK, iv bU.row, iv bU.col, bv bV, iv bS, sv bT] 53, bx b1 [iv aC, .slice aQ aR.length aK, iv aU.row, iv aU.col, bv aV, iv aS, sv aT] 53]) (fun x => [at_ b7 [iv (shift_shifts (aR.length : Int))], sl cSlc aQ aZ, rowsF cCel aZ aR, sl cSlc bQ bZ, rowsF cCel bZ bR, sl cSpn (some ⟨0, 0, none⟩) tab0, sl cSpn (some ⟨1, 0, none⟩) tab1]) Hld.zero (by exact ⟨hR, (by exact shifts_in _ (by omega))⟩) (mk [true, true, true, true, true] rfl) Foll.refl ?_ ?_ (fun _ _ _ _ h => h.elim)
  ·rintro el rest f hI Y Y' K' hY' hK
   try dsimp only at hI
   obtain ⟨hR, hsh⟩ := hI
   replace hR := (shift_Best_r0.eq_2 ..).symm.trans hR
   refine J_region 2 rfl ?_
   refine it rfl (tri_alloc (cs := cShf Shf.zero) zero55 rfl) fun b8 => ?_
   refine it rfl (tri_store (us := cShf el) (cs' := cShf el) ty55 rfl rfl rfl 0 rfl rfl rfl rfl rfl rfl) fun _ => ?_
   refine JI_end ?_
   refine hK _ _ _ ?_
   refine J_block ?_
   refine sr 3 rfl ?_
   refine ix rfl (det_own_agg (us := cShf el) ty55 rfl rfl 0 rfl rfl rfl) ?_
   refine it rfl (tri_callN (L2 := [bx b8 (cShf el) 55, bx b6 (cHld f) 135, bx b3 (cShf Shf.zero) 55, bx b2 [iv bC, .slice bQ bR.length bK, iv bU.row, iv bU.col, bv bV, iv bS, sv bT] 53, bx b1 [iv aC, .slice aQ aR.length aK, iv aU.row, iv aU.col, bv aV, iv aS, sv aT] 53]) (shift_gain_c (shift_like aC aR aU aV aS aT bC bR bU bV bS bT) el b5 (by first | omega | (have := hsh _ (List.mem_cons_self ..); unfold shIn at this; omega)) _ rfl) rfl rfl rfl rfl rfl Foll.nil (permC [[bx b8 (cShf el) 55], [bx b6 (cHld f) 135], [bx b5 (cLks (shift_like aC aR aU aV aS aT bC bR bU bV bS bT)) 128], [bx b3 (cShf Shf.zero) 55], [bx b2 [iv bC, .slice bQ bR.length bK, iv bU.row, iv bU.col, bv bV, iv bS, sv bT] 53], [bx b1 [iv aC, .slice aQ aR.length aK, iv aU.row, iv aU.col, bv aV, iv aS, sv aT] 53]] [2, 0, 1, 3, 4, 5] 6 rfl (by decide) rfl [[bx b5 (cLks (shift_like aC aR aU aV aS aT bC bR bU bV bS bT)) 128], [bx b8 (cShf el) 55], [bx b6 (cHld f) 135], [bx b3 (cShf Shf.zero) 55], [bx b2 [iv bC, .slice bQ bR.length bK, iv bU.row, iv bU.col, bv bV, iv bS, sv bT] 53], [bx b1 [iv aC, .slice aQ aR.length aK, iv aU.row, iv aU.col, bv aV, iv aS, sv aT] 53]] rfl (by first | rfl | simp only [List.flatten_cons, List.flatten_nil, List.append_nil, List.cons_append, List.nil_append, List.append_assoc])) (fun _ => [bx b5 (cLks (shift_like aC aR aU aV aS aT bC bR bU bV bS bT)) 128, bx b8 (cShf el) 55, bx b6 (cHld f) 135, bx b3 (cShf Shf.zero) 55, bx b2 [iv bC, .slice bQ bR.length bK, iv bU.row, iv bU.col, bv bV, iv bS, sv bT] 53, bx b1 [iv aC, .slice aQ aR.length aK, iv aU.row, iv aU.col, bv aV, iv aS, sv aT] 53]) (fun _ => rfl)) fun _ => ?_
   refine ip 1 0 [(11, iv (shift_gain (shift_like aC aR aU aV aS aT bC bR bU bV bS bT) el))] (by kernel_rfl) ?_
   refine ie ?_
   refine sr 5 rfl ?_
   refine ip 3 2 [(30, iv (shift_gain (shift_like aC aR aU aV aS aT bC bR bU bV bS bT) el)), (32, pt b6 3)] (by kernel_rfl) ?_
   refine ix rfl (det_own_one (v := iv f.gain) ty3 rfl rfl 2 rfl rfl) ?_
   refine ip 1 0 [(34, bv (decide (f.gain < (shift_gain (shift_like aC aR aU aV aS aT bC bR bU bV bS bT) el))))] (by kernel_rfl) ?_
   refine ie ?_
   refine J_if rfl (fun h9 => ?_) (fun h9 => ?_)
   ·have h9p : f.gain < (shift_gain (shift_like aC aR aU aV aS aT bC bR bU bV bS bT) el) := by simpa using h9
    replace hR := bt hR h9
    refine J_region 8 rfl ?_
    refine ix rfl (det_own_agg (us := cShf el) ty55 rfl rfl 1 rfl rfl rfl) ?_
    refine ip 3 4 [(36, iv (shift_gain (shift_like aC aR aU aV aS aT bC bR bU bV bS bT) el)), (38, pt b6 0)] (by kernel_rfl) ?_
    refine it rfl (tri_store (us := cShf el) (cs' := cHld ({ f with shift := el })) ty55 rfl rfl rfl 2 rfl rfl rfl rfl rfl rfl) fun _ => ?_
    refine ip 2 1 [(40, pt b6 3)] (by kernel_rfl) ?_
    refine it rfl (tri_store (us := [iv (shift_gain (shift_like aC aR aU aV aS aT bC bR bU bV bS bT) el)]) (cs' := cHld ({ f with shift := el, gain := (shift_gain (shift_like aC aR aU aV aS aT bC bR bU bV bS bT) el) })) ty3 rfl rfl rfl 2 rfl rfl rfl rfl rfl rfl) fun _ => ?_
    refine JI_end ?_
    refine JQ_perm (permC [[bx b5 (cLks (shift_like aC aR aU aV aS aT bC bR bU bV bS bT)) 128], [bx b8 (cShf el) 55], [bx b6 (cHld ({ f with shift := el, gain := (shift_gain (shift_like aC aR aU aV aS aT bC bR bU bV bS bT) el) })) 135], [bx b3 (cShf Shf.zero) 55], [bx b2 [iv bC, .slice bQ bR.length bK, iv bU.row, iv bU.col, bv bV, iv bS, sv bT] 53], [bx b1 [iv aC, .slice aQ aR.length aK, iv aU.row, iv aU.col, bv aV, iv aS, sv aT] 53]] [2, 0, 3, 4, 5, 1] 6 rfl (by decide) rfl [[bx b6 (cHld ({ f with shift := el, gain := (shift_gain (shift_like aC aR aU aV aS aT bC bR bU bV bS bT) el) })) 135], [bx b5 (cLks (shift_like aC aR aU aV aS aT bC bR bU bV bS bT)) 128], [bx b3 (cShf Shf.zero) 55], [bx b2 [iv bC, .slice bQ bR.length bK, iv bU.row, iv bU.col, bv bV, iv bS, sv bT] 53], [bx b1 [iv aC, .slice aQ aR.length aK, iv aU.row, iv aU.col, bv aV, iv aS, sv aT] 53], [bx b8 (cShf el) 55]] rfl (by first | rfl | simp)) ?_
    exact rp_normal (I := fun rem x => shift_Best_r0 aC aR aU aV aS aT bC bR bU bV bS bT rem x = R ∧ ∀ x ∈ rem, shIn x) (Jx := fun _ _ => False) (Lk := fun x => [bx b6 (cHld x) 135, bx b5 (cLks (shift_like aC aR aU aV aS aT bC bR bU bV bS bT)) 128, bx b3 (cShf Shf.zero) 55, bx b2 [iv bC, .slice bQ bR.length bK, iv bU.row, iv bU.col, bv bV, iv bS, sv bT] 53, bx b1 [iv aC, .slice aQ aR.length aK, iv aU.row, iv aU.col, bv aV, iv aS, sv aT] 53]) (Φk := fun x => [at_ b7 [iv (shift_shifts (aR.length : Int))], sl cSlc aQ aZ, rowsF cCel aZ aR, sl cSlc bQ bZ, rowsF cCel bZ bR, sl cSpn (some ⟨0, 0, none⟩) tab0, sl cSpn (some ⟨1, 0, none⟩) tab1]) (rest := rest) ({ f with shift := el, gain := (shift_gain (shift_like aC aR aU aV aS aT bC bR bU bV bS bT) el) }) (by exact ⟨hR, (by exact fun x hx => hsh x (List.mem_cons_of_mem _ hx))⟩) (mk [true, true, true, true, true, false] rfl) Foll.refl
   ·have h9p : ¬ (f.gain < (shift_gain (shift_like aC aR aU aV aS aT bC bR bU bV bS bT) el)) := by simpa using h9
    replace hR := bf hR h9
    refine J_skip ?_
    refine JQ_perm (permC [[bx b5 (cLks (shift_like aC aR aU aV aS aT bC bR bU bV bS bT)) 128], [bx b8 (cShf el) 55], [bx b6 (cHld f) 135], [bx b3 (cShf Shf.zero) 55], [bx b2 [iv bC, .slice bQ bR.length bK, iv bU.row, iv bU.col, bv bV, iv bS, sv bT] 53], [bx b1 [iv aC, .slice aQ aR.length aK, iv aU.row, iv aU.col, bv aV, iv aS, sv aT] 53]] [2, 0, 3, 4, 5, 1] 6 rfl (by decide) rfl [[bx b6 (cHld f) 135], [bx b5 (cLks (shift_like aC aR aU aV aS aT bC bR bU bV bS bT)) 128], [bx b3 (cShf Shf.zero) 55], [bx b2 [iv bC, .slice bQ bR.length bK, iv bU.row, iv bU.col, bv bV, iv bS, sv bT] 53], [bx b1 [iv aC, .slice aQ aR.length aK, iv aU.row, iv aU.col, bv aV, iv aS, sv aT] 53], [bx b8 (cShf el) 55]] rfl (by first | rfl | simp)) ?_
    exact rp_normal (I := fun rem x => shift_Best_r0 aC aR aU aV aS aT bC bR bU bV bS bT rem x = R ∧ ∀ x ∈ rem, shIn x) (Jx := fun _ _ => False) (Lk := fun x => [bx b6 (cHld x) 135, bx b5 (cLks (shift_like aC aR aU aV aS aT bC bR bU bV bS bT)) 128, bx b3 (cShf Shf.zero) 55, bx b2 [iv bC, .slice bQ bR.length bK, iv bU.row, iv bU.col, bv bV, iv bS, sv bT] 53, bx b1 [iv aC, .slice aQ aR.length aK, iv aU.row, iv aU.col, bv aV, iv aS, sv aT] 53]) (Φk := fun x => [at_ b7 [iv (shift_shifts (aR.length : Int))], sl cSlc aQ aZ, rowsF cCel aZ aR, sl cSlc bQ bZ, rowsF cCel bZ bR, sl cSpn (some ⟨0, 0, none⟩) tab0, sl cSpn (some ⟨1, 0, none⟩) tab1]) (rest := rest) f (by exact ⟨hR, (by exact fun x hx => hsh x (List.mem_cons_of_mem _ hx))⟩) (mk [true, true, true, true, true, false] rfl) Foll.refl
  ·rintro d10 f hd10 hI
   try dsimp only at hI
   obtain ⟨hR, hsh⟩ := hI
   replace hR := (shift_Best_r0.eq_1 ..).symm.trans hR
   refine nx ?_
   refine J_seq ?_
   refine sr 5 rfl ?_
   refine ip 2 3 [(42, pt b6 0)] (by kernel_rfl) ?_
   refine ix rfl (det_own_agg (us := cShf f.shift) ty55 rfl rfl 0 rfl rfl rfl) ?_
   refine ix rfl (det_build (cs := cShf Shf.zero) rfl rfl (by kernel_rfl)) ?_
   refine ix rfl (det_eqs (a := f.shift) (b := Shf.zero) eqt55 rfl rfl rfl) ?_
   refine ie ?_
   refine J_if rfl (fun h11 => ?_) (fun h11 => ?_)
   ·have h11p : f.shift = Shf.zero := by simpa using h11
    replace hR := bt hR h11
    refine sr 4 rfl ?_
    refine ix rfl (det_build (cs := cShf Shf.zero) rfl rfl (by kernel_rfl)) ?_
    refine it rfl (tri_store (us := cShf Shf.zero) (cs' := cShf Shf.zero) ty55 rfl rfl rfl 2 rfl rfl rfl rfl rfl rfl) fun _ => ?_
    refine ip 2 0 [(5, iv 0), (6, iv 4)] (by kernel_rfl) ?_
    refine ie ?_
    refine J_ret ?_
    subst hR
    exact ends_ret rfl ⟨hr, hD⟩ (by exact (MarksOk.cons (show MarksOk X.D by rw [hD]; exact MarksOk.nil) hd10)) (res3 rfl (resV_cell (us := cShf Shf.zero) ty55 rfl 2 rfl rfl rfl) (resV_tmp rfl) (resV_tmp rfl)) () (by rfl) (mk [false, false, false, false, false] rfl) Foll.nil
   ·have h11p : ¬ (f.shift = Shf.zero) := by simpa using h11
    replace hR := bf hR h11
    refine J_skip ?_
    refine nx ?_
    refine sh 9 [(9, [bx b6 (cHld f) 135]), (9, [bx b5 (cLks (shift_like aC aR aU aV aS aT bC bR bU bV bS bT)) 128]), (6, [bx b3 (cShf Shf.zero) 55]), (9, [bx b2 [iv bC, .slice bQ bR.length bK, iv bU.row, iv bU.col, bv bV, iv bS, sv bT] 53]), (9, [bx b1 [iv aC, .slice aQ aR.length aK, iv aU.row, iv aU.col, bv aV, iv aS, sv aT] 53])] [at_ b7 [iv (shift_shifts (aR.length : Int))], sl cSlc aQ aZ, rowsF cCel aZ aR, sl cSlc bQ bZ, rowsF cCel bZ bR, sl cSpn (some ⟨0, 0, none⟩) tab0, sl cSpn (some ⟨1, 0, none⟩) tab1] [bx b6 (cHld f) 135, bx b5 (cLks (shift_like aC aR aU aV aS aT bC bR bU bV bS bT)) 128, bx b3 (cShf Shf.zero) 55, bx b2 [iv bC, .slice bQ bR.length bK, iv bU.row, iv bU.col, bv bV, iv bS, sv bT] 53, bx b1 [iv aC, .slice aQ aR.length aK, iv aU.row, iv aU.col, bv aV, iv aS, sv aT] 53] #[false, false, false, false, false, false, false, false, false] (by kernel_rfl) rfl (by kernel_rfl) (by kernel_rfl) (by kernel_rfl) (mk [true, true, true, true, true] rfl) Foll.refl ?_
    refine hpur [0, 1, 3, 4] 5 #[true, true, false, true, true, false, false, false, false] [(48, pt b6 0), (51, pt b6 3)] (by kernel_rfl) ?_
    refine htak 2 [bx b6 (cHld f) 135, bx b5 (cLks (shift_like aC aR aU aV aS aT bC bR bU bV bS bT)) 128, bx b3 (cShf Shf.zero) 55, bx b2 [iv bC, .slice bQ bR.length bK, iv bU.row, iv bU.col, bv bV, iv bS, sv bT] 53, bx b1 [iv aC, .slice aQ aR.length aK, iv aU.row, iv aU.col, bv aV, iv aS, sv aT] 53] #[true, true, true, true, true, false, false, false, false] rfl rfl rfl (by kernel_rfl) (by kernel_rfl) (by kernel_rfl) (det_own_agg (us := cShf f.shift) ty55 rfl rfl 0 rfl rfl rfl) ?_
    refine htak 5 [bx b6 (cHld f) 135, bx b5 (cLks (shift_like aC aR aU aV aS aT bC bR bU bV bS bT)) 128, bx b2 [iv bC, .slice bQ bR.length bK, iv bU.row, iv bU.col, bv bV, iv bS, sv bT] 53, bx b1 [iv aC, .slice aQ aR.length aK, iv aU.row, iv aU.col, bv aV, iv aS, sv aT] 53] #[true, true, true, true, true, true, false, false, false] rfl rfl rfl (by kernel_rfl) (by kernel_rfl) (by kernel_rfl) (det_own_one (v := iv f.gain) ty3 rfl rfl 0 rfl rfl) ?_
    refine hone 6 [bx b6 (cHld f) 135, bx b5 (cLks (shift_like aC aR aU aV aS aT bC bR bU bV bS bT)) 128, bx b2 [iv bC, .slice bQ bR.length bK, iv bU.row, iv bU.col, bv bV, iv bS, sv bT] 53, bx b1 [iv aC, .slice aQ aR.length aK, iv aU.row, iv aU.col, bv aV, iv aS, sv aT] 53] #[true, true, true, true, true, true, true, false, false] rfl rfl rfl (by kernel_rfl) (by kernel_rfl) (by kernel_rfl) (tri_store (us := cShf f.shift) (cs' := cShf f.shift) ty55 rfl rfl rfl 2 rfl rfl rfl rfl rfl rfl) (fun _ => (mk [true, true, false, true, true] rfl)) (fun _ => Foll.refl) fun _ => ?_
    refine hpur [7, 8] 0 #[true, true, true, true, true, true, true, true, true] [(5, iv f.gain), (6, iv 0)] (by kernel_rfl) ?_
    refine hend (by kernel_rfl) ?_
    refine J_ret ?_
    subst hR
    exact ends_ret rfl ⟨hr, hD⟩ (by exact (MarksOk.cons (show MarksOk X.D by rw [hD]; exact MarksOk.nil) hd10)) (res3 rfl (resV_cell (us := cShf f.shift) ty55 rfl 2 rfl rfl rfl) (resV_tmp rfl) (resV_tmp rfl)) () (by rfl) (mk [false, false, false, false, false] rfl) Foll.nil

end Go.Proofs.YtinkdfnpmoljfaaGreatDoor

