import Derived.Test.YtinkdfnpmoljfaaGreatDoorD2
import Derived.Test.YtinkdfnpmoljfaaGreatDoorFenX
import Derived.Test.YtinkdfnpmoljfaaGreatDoorIto
import Derived.Test.YtinkdfnpmoljfaaGreatDoorProg
import Derived.Test.YtinkdfnpmoljfaaGreatDoorP1
set_option linter.unusedVariables false
set_option linter.unusedSimpArgs false
set_option linter.unnecessarySimpa false
set_option maxRecDepth 100000
namespace Go.Proofs.YtinkdfnpmoljfaaGreatDoor
open Go Go.Fen
theorem apt163 : ApTy Tryz.prog 163 217 1 24 := ⟨by kernel_rfl, by kernel_rfl, rfl⟩
theorem slt27 : SlTy Tryz.prog 27 26 6 := ⟨by kernel_rfl, by kernel_rfl⟩
theorem slt163 : SlTy Tryz.prog 163 217 1 := ⟨by kernel_rfl, by kernel_rfl⟩
theorem slt168 : SlTy Tryz.prog 168 3 1 := ⟨by kernel_rfl, by kernel_rfl⟩
theorem ty26 : Ty Tryz.prog 26 6 true := ⟨by kernel_rfl⟩
theorem ty217 : Ty Tryz.prog 217 1 true := ⟨by kernel_rfl⟩
theorem ty257 : Ty Tryz.prog 257 3 true := ⟨by kernel_rfl⟩
theorem ty258 : Ty Tryz.prog 258 24 true := ⟨by kernel_rfl⟩
theorem zero26 : Zero Tryz.prog 26 (cAct Act.zero) := ⟨by kernel_rfl⟩
theorem zero217 : Zero Tryz.prog 217 [.slice none 0 0] := ⟨by kernel_rfl⟩
theorem zero257 : Zero Tryz.prog 257 (cAtr Atr.zero) := ⟨by kernel_rfl⟩
def sgr_row (l : List Int) : List Int :=
 l

theorem sgr_row_c (l : List Int) (lq : Option Addr) (lk : Nat) (hll : l.length ≤ 9223372036854775807) (hcl : l.length ≤ lk) (R : List Int) (hR : sgr_row l = R) : Con Tryz.prog 196 [.slice lq l.length lk] [] [sl cInt lq l] ({t : Option Addr × Nat // R.length ≤ t.2 ∧ R.length ≤ 9223372036854775807}) (fun x => ag [.slice x.1.1 R.length x.1.2]) (fun x => []) (fun x => [sl cInt x.1.1 R]) := by
 refine con_of_J (n := 5) Tryz.func196 rfl (by kernel_rfl) rfl rfl [(0, .slice lq l.length lk)] ⟨rfl, trivial⟩ fun X hX hr hD => ?_
 replace hR := (sgr_row.eq_1 ..).symm.trans hR
 refine sr 1 rfl ?_
 refine it rfl (tri_alloc (cs := [.slice none 0 0]) zero217 rfl) fun b1 => ?_
 refine ie ?_
 refine sr 3 rfl ?_
 refine ip 1 2 [(3, .slice lq l.length lk)] (by kernel_rfl) ?_
 refine ix rfl (det_build (cs := [.slice lq l.length lk]) rfl rfl (by kernel_rfl)) ?_
 refine it rfl (tri_store (us := [.slice lq l.length lk]) (cs' := [.slice lq l.length lk]) ty217 rfl rfl rfl 0 rfl rfl rfl rfl rfl rfl) fun _ => ?_
 refine ie ?_
 refine J_ret ?_
 subst hR
 exact ends_ret rfl ⟨hr, hD⟩ (by simp [hD]) (res1 rfl (resV_cell (us := [.slice lq l.length lk]) ty217 rfl 0 rfl rfl rfl)) ⟨(lq, lk), (by first | omega | (simp <;> omega) | (dsimp only; omega) | decide), (by first | omega | (simp <;> omega) | (dsimp only; omega) | decide)⟩ (by rfl) (mk [false] rfl) (Foll.con1 (at_of 0 rfl) Foll.nil)

def sgr_colour (a : Act) : List Int :=
 (bif (decide (a.color.kind = 0)) then (bindV (sgr_row ([(IntKind.i64.wrap ((IntKind.i64.wrap ((38 : Int) + (IntKind.i64.wrap ((10 : Int) * (IntKind.i64.wrap (a.n - (4 : Int))))))) + (1 : Int)))] : List Int)) fun (y0 : List Int) => y0) else (bif (decide (a.color.kind = 2)) then (bindV (sgr_row ([(IntKind.i64.wrap ((38 : Int) + (IntKind.i64.wrap ((10 : Int) * (IntKind.i64.wrap (a.n - (4 : Int))))))), 2, (-1), (a.color.n / 65536), (bOp .and .i64 (a.color.n / 256) 255), (bOp .and .i64 a.color.n 255)] : List Int)) fun (y1 : List Int) => y1) else (bif ((decide (a.color.n < 8)) && (!decide (a.n = 6))) then (bindV (sgr_row ([(IntKind.i64.wrap ((IntKind.i64.wrap ((IntKind.i64.wrap ((38 : Int) + (IntKind.i64.wrap ((10 : Int) * (IntKind.i64.wrap (a.n - (4 : Int))))))) - (8 : Int))) + a.color.n))] : List Int)) fun (y5 : List Int) => y5) else (bif ((decide (a.color.n < 16)) && (!decide (a.n = 6))) then (bindV (sgr_row ([(IntKind.i64.wrap ((IntKind.i64.wrap ((IntKind.i64.wrap ((IntKind.i64.wrap ((38 : Int) + (IntKind.i64.wrap ((10 : Int) * (IntKind.i64.wrap (a.n - (4 : Int))))))) + (52 : Int))) + a.color.n)) - (8 : Int)))] : List Int)) fun (y4 : List Int) => y4) else (bindV (sgr_row ([(IntKind.i64.wrap ((38 : Int) + (IntKind.i64.wrap ((10 : Int) * (IntKind.i64.wrap (a.n - (4 : Int))))))), 5, a.color.n] : List Int)) fun (y3 : List Int) => y3)))))

theorem sgr_colour_c (a : Act) (R : List Int) (hR : sgr_colour a = R) : Con Tryz.prog 197 [ag (cAct a)] [] [] ({t : Option Addr × Nat // R.length ≤ t.2 ∧ R.length ≤ 9223372036854775807}) (fun x => ag [.slice x.1.1 R.length x.1.2]) (fun x => []) (fun x => [sl cInt x.1.1 R]) := by
 refine con_of_J (n := 70) Tryz.func197 rfl (by kernel_rfl) rfl rfl [(0, ag (cAct a))] ⟨rfl, trivial⟩ fun X hX hr hD => ?_
 replace hR := (sgr_colour.eq_1 ..).symm.trans hR
 refine sr 2 rfl ?_
 refine it rfl (tri_box (cs := cAct a) rfl rfl rfl) fun b1 => ?_
 refine it rfl (tri_alloc (cs := [.slice none 0 0]) zero217 rfl) fun b2 => ?_
 refine ie ?_
 refine sr 6 rfl ?_
 refine ip 1 5 [(5, pt b1 1)] (by kernel_rfl) ?_
 refine ix rfl (det_own_one (v := iv a.n) ty3 rfl rfl 1 rfl rfl) ?_
 refine ix rfl (DetR.pure rfl) ?_
 refine ix rfl (DetR.pure rfl) ?_
 refine ix rfl (DetR.pure rfl) ?_
 refine ip 1 0 [(3, iv (IntKind.i64.wrap ((38 : Int) + (IntKind.i64.wrap ((10 : Int) * (IntKind.i64.wrap (a.n - (4 : Int))))))))] (by kernel_rfl) ?_
 refine ie ?_
 refine sr 4 rfl ?_
 refine ip 2 2 [(11, pt b1 4)] (by kernel_rfl) ?_
 refine ix rfl (det_own_one (v := iv a.color.n) ty3 rfl rfl 1 rfl rfl) ?_
 refine ip 1 0 [(4, iv a.color.n)] (by kernel_rfl) ?_
 refine ie ?_
 refine J_block ?_
 refine sr 5 rfl ?_
 refine ip 2 3 [(19, pt b1 3)] (by kernel_rfl) ?_
 refine ix rfl (det_own_one (v := iv a.color.kind) ty3 rfl rfl 1 rfl rfl) ?_
 refine ip 2 0 [(17, bv (decide (a.color.kind = 0)))] (by kernel_rfl) ?_
 refine ie ?_
 refine J_if rfl (fun h3 => ?_) (fun h3 => ?_)
 ·have h3p : a.color.kind = 0 := by simpa using h3
  replace hR := bt hR h3
  refine sr 5 rfl ?_
  refine ip 1 4 [(22, iv (IntKind.i64.wrap ((38 : Int) + (IntKind.i64.wrap ((10 : Int) * (IntKind.i64.wrap (a.n - (4 : Int))))))))] (by kernel_rfl) ?_
  refine ix rfl (DetR.pure rfl) ?_
  refine it rfl (tri_buildSl (c := cInt) (xs := ([(IntKind.i64.wrap ((IntKind.i64.wrap ((38 : Int) + (IntKind.i64.wrap ((10 : Int) * (IntKind.i64.wrap (a.n - (4 : Int))))))) + (1 : Int)))] : List Int)) slt168 rfl rfl rfl (by kernel_rfl)) fun b4 => ?_
  have : ([(IntKind.i64.wrap ((IntKind.i64.wrap ((38 : Int) + (IntKind.i64.wrap ((10 : Int) * (IntKind.i64.wrap (a.n - (4 : Int))))))) + (1 : Int)))] : List Int).length = 1 := rfl
  have hQ := bindVx hR; clear hR; obtain ⟨y0, hy0, hR⟩ := hQ
  refine it rfl (tri_callN (L2 := [bx b2 [.slice none 0 0] 217, bx b1 (cAct a) 26]) (sgr_row_c ([(IntKind.i64.wrap ((IntKind.i64.wrap ((38 : Int) + (IntKind.i64.wrap ((10 : Int) * (IntKind.i64.wrap (a.n - (4 : Int))))))) + (1 : Int)))] : List Int) (some ⟨b4, 0, none⟩) 1 (by first | omega | (simp <;> omega) | (dsimp only; omega) | decide) (by first | omega | (simp <;> omega) | (dsimp only; omega) | decide) y0 hy0) rfl rfl rfl rfl rfl Foll.refl (List.Perm.refl _) (fun ⟨⟨q5, k6⟩, hp7⟩ => [bx b2 [.slice none 0 0] 217, bx b1 (cAct a) 26]) (fun _ => rfl)) fun ⟨⟨q5, k6⟩, hp7⟩ => ?_
  obtain ⟨hc8, hl9⟩ := hp7
  refine it rfl (tri_store (us := [.slice q5 y0.length k6]) (cs' := [.slice q5 y0.length k6]) ty217 rfl rfl rfl 0 rfl rfl rfl rfl rfl rfl) fun _ => ?_
  refine ie ?_
  refine J_ret ?_
  subst hR
  exact ends_ret rfl ⟨hr, hD⟩ (by simp [hD]) (res1 rfl (resV_cell (us := [.slice q5 y0.length k6]) ty217 rfl 0 rfl rfl rfl)) ⟨(q5, k6), (by first | omega | (simp <;> omega) | (dsimp only; omega) | decide), (by first | omega | (simp <;> omega) | (dsimp only; omega) | decide)⟩ (by rfl) (mk [false, false] rfl) (Foll.con1 (at_of 0 rfl) Foll.nil)
 ·have h3p : ¬ (a.color.kind = 0) := by simpa using h3
  replace hR := bf hR h3
  refine sr 5 rfl ?_
  refine ip 2 3 [(28, pt b1 3)] (by kernel_rfl) ?_
  refine ix rfl (det_own_one (v := iv a.color.kind) ty3 rfl rfl 1 rfl rfl) ?_
  refine ip 2 0 [(26, bv (decide (a.color.kind = 2)))] (by kernel_rfl) ?_
  refine ie ?_
  refine J_if rfl (fun h10 => ?_) (fun h10 => ?_)
  ·have h10p : a.color.kind = 2 := by simpa using h10
   replace hR := bt hR h10
   refine sr 11 rfl ?_
   refine ip 2 9 [(31, iv (IntKind.i64.wrap ((38 : Int) + (IntKind.i64.wrap ((10 : Int) * (IntKind.i64.wrap (a.n - (4 : Int)))))))), (32, iv a.color.n)] (by kernel_rfl) ?_
   refine ix rfl (det_shr (c := a.color.n / 65536) rfl rfl rfl (by decide) (by simp [Int.fdiv_eq_ediv_of_nonneg, IntKind.bits])) ?_
   refine ip 1 7 [(34, iv a.color.n)] (by kernel_rfl) ?_
   refine ix rfl (det_shr (c := a.color.n / 256) rfl rfl rfl (by decide) (by simp [Int.fdiv_eq_ediv_of_nonneg, IntKind.bits])) ?_
   refine ip 3 3 [(36, iv (bOp .and .i64 (a.color.n / 256) 255)), (38, iv (bOp .and .i64 a.color.n 255))] (by kernel_rfl) ?_
   refine it rfl (tri_buildSl (c := cInt) (xs := ([(IntKind.i64.wrap ((38 : Int) + (IntKind.i64.wrap ((10 : Int) * (IntKind.i64.wrap (a.n - (4 : Int))))))), 2, (-1), (a.color.n / 65536), (bOp .and .i64 (a.color.n / 256) 255), (bOp .and .i64 a.color.n 255)] : List Int)) slt168 rfl rfl rfl (by kernel_rfl)) fun b11 => ?_
   have : ([(IntKind.i64.wrap ((38 : Int) + (IntKind.i64.wrap ((10 : Int) * (IntKind.i64.wrap (a.n - (4 : Int))))))), 2, (-1), (a.color.n / 65536), (bOp .and .i64 (a.color.n / 256) 255), (bOp .and .i64 a.color.n 255)] : List Int).length = 6 := rfl
   have hQ := bindVx hR; clear hR; obtain ⟨y1, hy1, hR⟩ := hQ
   refine it rfl (tri_callN (L2 := [bx b2 [.slice none 0 0] 217, bx b1 (cAct a) 26]) (sgr_row_c ([(IntKind.i64.wrap ((38 : Int) + (IntKind.i64.wrap ((10 : Int) * (IntKind.i64.wrap (a.n - (4 : Int))))))), 2, (-1), (a.color.n / 65536), (bOp .and .i64 (a.color.n / 256) 255), (bOp .and .i64 a.color.n 255)] : List Int) (some ⟨b11, 0, none⟩) 6 (by first | omega | (simp <;> omega) | (dsimp only; omega) | decide) (by first | omega | (simp <;> omega) | (dsimp only; omega) | decide) y1 hy1) rfl rfl rfl rfl rfl Foll.refl (List.Perm.refl _) (fun ⟨⟨q12, k13⟩, hp14⟩ => [bx b2 [.slice none 0 0] 217, bx b1 (cAct a) 26]) (fun _ => rfl)) fun ⟨⟨q12, k13⟩, hp14⟩ => ?_
   obtain ⟨hc15, hl16⟩ := hp14
   refine it rfl (tri_store (us := [.slice q12 y1.length k13]) (cs' := [.slice q12 y1.length k13]) ty217 rfl rfl rfl 0 rfl rfl rfl rfl rfl rfl) fun _ => ?_
   refine ie ?_
   refine J_ret ?_
   subst hR
   exact ends_ret rfl ⟨hr, hD⟩ (by simp [hD]) (res1 rfl (resV_cell (us := [.slice q12 y1.length k13]) ty217 rfl 0 rfl rfl rfl)) ⟨(q12, k13), (by first | omega | (simp <;> omega) | (dsimp only; omega) | decide), (by first | omega | (simp <;> omega) | (dsimp only; omega) | decide)⟩ (by rfl) (mk [false, false] rfl) (Foll.con1 (at_of 0 rfl) Foll.nil)
  ·have h10p : ¬ (a.color.kind = 2) := by simpa using h10
   replace hR := bf hR h10
   refine sr 8 rfl ?_
   refine ip 3 5 [(44, bv (decide (a.color.n < 8)))] (by kernel_rfl) ?_
   refine iand 4 1 44 48 (!decide (a.n = 6)) rfl (by kernel_rfl) (fun g17 => ?_) ?_
   ·have g17p : a.color.n < 8 := by simpa using g17
    refine ip 1 3 [(45, pt b1 1)] (by kernel_rfl) ?_
    refine ix rfl (det_own_one (v := iv a.n) ty3 rfl rfl 1 rfl rfl) ?_
    refine ip 2 0 [(48, bv (!decide (a.n = 6)))] (by kernel_rfl) ?_
    exact JI_end (armI 4 44 48 g17 Foll.nil (mk [true, true] rfl) rfl rfl rfl rfl rfl)
   refine ip 1 0 [(41, bv ((decide (a.color.n < 8)) && (!decide (a.n = 6))))] (by kernel_rfl) ?_
   refine ie ?_
   refine J_if rfl (fun h18 => ?_) (fun h18 => ?_)
   ·have h18p : (a.color.n < 8) ∧ (¬ a.n = 6) := by simpa using h18
    replace hR := bt hR h18
    refine sr 7 rfl ?_
    refine ip 1 6 [(49, iv (IntKind.i64.wrap ((38 : Int) + (IntKind.i64.wrap ((10 : Int) * (IntKind.i64.wrap (a.n - (4 : Int))))))))] (by kernel_rfl) ?_
    refine ix rfl (DetR.pure rfl) ?_
    refine ip 1 4 [(51, iv a.color.n)] (by kernel_rfl) ?_
    refine ix rfl (DetR.pure rfl) ?_
    refine it rfl (tri_buildSl (c := cInt) (xs := ([(IntKind.i64.wrap ((IntKind.i64.wrap ((IntKind.i64.wrap ((38 : Int) + (IntKind.i64.wrap ((10 : Int) * (IntKind.i64.wrap (a.n - (4 : Int))))))) - (8 : Int))) + a.color.n))] : List Int)) slt168 rfl rfl rfl (by kernel_rfl)) fun b19 => ?_
    have : ([(IntKind.i64.wrap ((IntKind.i64.wrap ((IntKind.i64.wrap ((38 : Int) + (IntKind.i64.wrap ((10 : Int) * (IntKind.i64.wrap (a.n - (4 : Int))))))) - (8 : Int))) + a.color.n))] : List Int).length = 1 := rfl
    have hQ := bindVx hR; clear hR; obtain ⟨y5, hy5, hR⟩ := hQ
    refine it rfl (tri_callN (L2 := [bx b2 [.slice none 0 0] 217, bx b1 (cAct a) 26]) (sgr_row_c ([(IntKind.i64.wrap ((IntKind.i64.wrap ((IntKind.i64.wrap ((38 : Int) + (IntKind.i64.wrap ((10 : Int) * (IntKind.i64.wrap (a.n - (4 : Int))))))) - (8 : Int))) + a.color.n))] : List Int) (some ⟨b19, 0, none⟩) 1 (by first | omega | (simp <;> omega) | (dsimp only; omega) | decide) (by first | omega | (simp <;> omega) | (dsimp only; omega) | decide) y5 hy5) rfl rfl rfl rfl rfl Foll.refl (List.Perm.refl _) (fun ⟨⟨q20, k21⟩, hp22⟩ => [bx b2 [.slice none 0 0] 217, bx b1 (cAct a) 26]) (fun _ => rfl)) fun ⟨⟨q20, k21⟩, hp22⟩ => ?_
    obtain ⟨hc23, hl24⟩ := hp22
    refine it rfl (tri_store (us := [.slice q20 y5.length k21]) (cs' := [.slice q20 y5.length k21]) ty217 rfl rfl rfl 0 rfl rfl rfl rfl rfl rfl) fun _ => ?_
    refine ie ?_
    refine J_ret ?_
    subst hR
    exact ends_ret rfl ⟨hr, hD⟩ (by simp [hD]) (res1 rfl (resV_cell (us := [.slice q20 y5.length k21]) ty217 rfl 0 rfl rfl rfl)) ⟨(q20, k21), (by first | omega | (simp <;> omega) | (dsimp only; omega) | decide), (by first | omega | (simp <;> omega) | (dsimp only; omega) | decide)⟩ (by rfl) (mk [false, false] rfl) (Foll.con1 (at_of 0 rfl) Foll.nil)
   ·have h18p : ¬ ((a.color.n < 8) ∧ (¬ a.n = 6)) := by simpa using h18
    replace hR := bf hR h18
    refine sr 8 rfl ?_
    refine ip 3 5 [(58, bv (decide (a.color.n < 16)))] (by kernel_rfl) ?_
    refine iand 4 1 58 62 (!decide (a.n = 6)) rfl (by kernel_rfl) (fun g25 => ?_) ?_
    ·have g25p : a.color.n < 16 := by simpa using g25
     refine ip 1 3 [(59, pt b1 1)] (by kernel_rfl) ?_
     refine ix rfl (det_own_one (v := iv a.n) ty3 rfl rfl 1 rfl rfl) ?_
     refine ip 2 0 [(62, bv (!decide (a.n = 6)))] (by kernel_rfl) ?_
     exact JI_end (armI 4 58 62 g25 Foll.nil (mk [true, true] rfl) rfl rfl rfl rfl rfl)
    refine ip 1 0 [(55, bv ((decide (a.color.n < 16)) && (!decide (a.n = 6))))] (by kernel_rfl) ?_
    refine ie ?_
    refine J_if rfl (fun h26 => ?_) (fun h26 => ?_)
    ·have h26p : (a.color.n < 16) ∧ (¬ a.n = 6) := by simpa using h26
     replace hR := bt hR h26
     refine sr 8 rfl ?_
     refine ip 1 7 [(63, iv (IntKind.i64.wrap ((38 : Int) + (IntKind.i64.wrap ((10 : Int) * (IntKind.i64.wrap (a.n - (4 : Int))))))))] (by kernel_rfl) ?_
     refine ix rfl (DetR.pure rfl) ?_
     refine ip 1 5 [(65, iv a.color.n)] (by kernel_rfl) ?_
     refine ix rfl (DetR.pure rfl) ?_
     refine ix rfl (DetR.pure rfl) ?_
     refine it rfl (tri_buildSl (c := cInt) (xs := ([(IntKind.i64.wrap ((IntKind.i64.wrap ((IntKind.i64.wrap ((IntKind.i64.wrap ((38 : Int) + (IntKind.i64.wrap ((10 : Int) * (IntKind.i64.wrap (a.n - (4 : Int))))))) + (52 : Int))) + a.color.n)) - (8 : Int)))] : List Int)) slt168 rfl rfl rfl (by kernel_rfl)) fun b27 => ?_
     have : ([(IntKind.i64.wrap ((IntKind.i64.wrap ((IntKind.i64.wrap ((IntKind.i64.wrap ((38 : Int) + (IntKind.i64.wrap ((10 : Int) * (IntKind.i64.wrap (a.n - (4 : Int))))))) + (52 : Int))) + a.color.n)) - (8 : Int)))] : List Int).length = 1 := rfl
     have hQ := bindVx hR; clear hR; obtain ⟨y4, hy4, hR⟩ := hQ
     refine it rfl (tri_callN (L2 := [bx b2 [.slice none 0 0] 217, bx b1 (cAct a) 26]) (sgr_row_c ([(IntKind.i64.wrap ((IntKind.i64.wrap ((IntKind.i64.wrap ((IntKind.i64.wrap ((38 : Int) + (IntKind.i64.wrap ((10 : Int) * (IntKind.i64.wrap (a.n - (4 : Int))))))) + (52 : Int))) + a.color.n)) - (8 : Int)))] : List Int) (some ⟨b27, 0, none⟩) 1 (by first | omega | (simp <;> omega) | (dsimp only; omega) | decide) (by first | omega | (simp <;> omega) | (dsimp only; omega) | decide) y4 hy4) rfl rfl rfl rfl rfl Foll.refl (List.Perm.refl _) (fun ⟨⟨q28, k29⟩, hp30⟩ => [bx b2 [.slice none 0 0] 217, bx b1 (cAct a) 26]) (fun _ => rfl)) fun ⟨⟨q28, k29⟩, hp30⟩ => ?_
     obtain ⟨hc31, hl32⟩ := hp30
     refine it rfl (tri_store (us := [.slice q28 y4.length k29]) (cs' := [.slice q28 y4.length k29]) ty217 rfl rfl rfl 0 rfl rfl rfl rfl rfl rfl) fun _ => ?_
     refine ie ?_
     refine J_ret ?_
     subst hR
     exact ends_ret rfl ⟨hr, hD⟩ (by simp [hD]) (res1 rfl (resV_cell (us := [.slice q28 y4.length k29]) ty217 rfl 0 rfl rfl rfl)) ⟨(q28, k29), (by first | omega | (simp <;> omega) | (dsimp only; omega) | decide), (by first | omega | (simp <;> omega) | (dsimp only; omega) | decide)⟩ (by rfl) (mk [false, false] rfl) (Foll.con1 (at_of 0 rfl) Foll.nil)
    ·have h26p : ¬ ((a.color.n < 16) ∧ (¬ a.n = 6)) := by simpa using h26
     replace hR := bf hR h26
     refine sr 5 rfl ?_
     refine ip 2 3 [(13, iv (IntKind.i64.wrap ((38 : Int) + (IntKind.i64.wrap ((10 : Int) * (IntKind.i64.wrap (a.n - (4 : Int)))))))), (14, iv a.color.n)] (by kernel_rfl) ?_
     refine it rfl (tri_buildSl (c := cInt) (xs := ([(IntKind.i64.wrap ((38 : Int) + (IntKind.i64.wrap ((10 : Int) * (IntKind.i64.wrap (a.n - (4 : Int))))))), 5, a.color.n] : List Int)) slt168 rfl rfl rfl (by kernel_rfl)) fun b33 => ?_
     have : ([(IntKind.i64.wrap ((38 : Int) + (IntKind.i64.wrap ((10 : Int) * (IntKind.i64.wrap (a.n - (4 : Int))))))), 5, a.color.n] : List Int).length = 3 := rfl
     have hQ := bindVx hR; clear hR; obtain ⟨y3, hy3, hR⟩ := hQ
     refine it rfl (tri_callN (L2 := [bx b2 [.slice none 0 0] 217, bx b1 (cAct a) 26]) (sgr_row_c ([(IntKind.i64.wrap ((38 : Int) + (IntKind.i64.wrap ((10 : Int) * (IntKind.i64.wrap (a.n - (4 : Int))))))), 5, a.color.n] : List Int) (some ⟨b33, 0, none⟩) 3 (by first | omega | (simp <;> omega) | (dsimp only; omega) | decide) (by first | omega | (simp <;> omega) | (dsimp only; omega) | decide) y3 hy3) rfl rfl rfl rfl rfl Foll.refl (List.Perm.refl _) (fun ⟨⟨q34, k35⟩, hp36⟩ => [bx b2 [.slice none 0 0] 217, bx b1 (cAct a) 26]) (fun _ => rfl)) fun ⟨⟨q34, k35⟩, hp36⟩ => ?_
     obtain ⟨hc37, hl38⟩ := hp36
     refine it rfl (tri_store (us := [.slice q34 y3.length k35]) (cs' := [.slice q34 y3.length k35]) ty217 rfl rfl rfl 0 rfl rfl rfl rfl rfl rfl) fun _ => ?_
     refine ie ?_
     refine J_ret ?_
     subst hR
     exact ends_ret rfl ⟨hr, hD⟩ (by simp [hD]) (res1 rfl (resV_cell (us := [.slice q34 y3.length k35]) ty217 rfl 0 rfl rfl rfl)) ⟨(q34, k35), (by first | omega | (simp <;> omega) | (dsimp only; omega) | decide), (by first | omega | (simp <;> omega) | (dsimp only; omega) | decide)⟩ (by rfl) (mk [false, false] rfl) (Foll.con1 (at_of 0 rfl) Foll.nil)

def sgr_told (a : Act) : List Int :=
 (bif (decide (a.n = 0)) then (bindV (sgr_row ([0] : List Int)) fun (y0 : List Int) => y0) else (bif ((decide (a.n = 3)) && (decide (a.m = 0))) then (bindV (sgr_row ([24] : List Int)) fun (y1 : List Int) => y1) else (bif ((decide (a.n = 3)) && (decide (a.m = 1))) then (bindV (sgr_row ([4] : List Int)) fun (y5 : List Int) => y5) else (bif (decide (a.n = 3)) then (bindV (sgr_row ([4, a.m] : List Int)) fun (y4 : List Int) => y4) else (bif (decide ((4 : Int) ≤ a.n)) then (bindV (sgr_colour a) fun (y15 : List Int) => y15) else (bif (decide ((bOp .and .i64 1 a.m) = 0)) then (bif (decide ((bOp .and .i64 2 a.m) = 0)) then (bif (decide ((bOp .and .i64 4 a.m) = 0)) then (bif (decide ((bOp .and .i64 8 a.m) = 0)) then (bif (decide ((bOp .and .i64 16 a.m) = 0)) then (bif (decide ((bOp .and .i64 32 a.m) = 0)) then (bif (decide ((bOp .and .i64 64 a.m) = 0)) then (bif (decide ((bOp .and .i64 128 a.m) = 0)) then ([] : List Int) else (bif (decide (a.n = 1)) then (bindV (sgr_row ([53] : List Int)) fun (y3 : List Int) => y3) else (bindV (sgr_row ([55] : List Int)) fun (y19 : List Int) => y19))) else (bif (decide (a.n = 1)) then (bindV (sgr_row ([9] : List Int)) fun (y7 : List Int) => y7) else (bindV (sgr_row ([29] : List Int)) fun (y20 : List Int) => y20))) else (bif (decide (a.n = 1)) then (bindV (sgr_row ([8] : List Int)) fun (y9 : List Int) => y9) else (bindV (sgr_row ([28] : List Int)) fun (y14 : List Int) => y14))) else (bif (decide (a.n = 1)) then (bindV (sgr_row ([7] : List Int)) fun (y18 : List Int) => y18) else (bindV (sgr_row ([27] : List Int)) fun (y10 : List Int) => y10))) else (bif (decide (a.n = 1)) then (bindV (sgr_row ([5] : List Int)) fun (y6 : List Int) => y6) else (bindV (sgr_row ([25] : List Int)) fun (y21 : List Int) => y21))) else (bif (decide (a.n = 1)) then (bindV (sgr_row ([3] : List Int)) fun (y17 : List Int) => y17) else (bindV (sgr_row ([23] : List Int)) fun (y12 : List Int) => y12))) else (bif (decide (a.n = 1)) then (bindV (sgr_row ([2] : List Int)) fun (y16 : List Int) => y16) else (bindV (sgr_row ([22] : List Int)) fun (y13 : List Int) => y13))) else (bif (decide (a.n = 1)) then (bindV (sgr_row ([1] : List Int)) fun (y8 : List Int) => y8) else (bindV (sgr_row ([22] : List Int)) fun (y11 : List Int) => y11))))))))

theorem sgr_told_c (a : Act) (R : List Int) (hR : sgr_told a = R) : Con Tryz.prog 147 [ag (cAct a)] [] [sl cAtr (some ⟨2, 0, none⟩) tab2] ({t : Option Addr × Nat // R.length ≤ t.2 ∧ R.length ≤ 9223372036854775807}) (fun x => ag [.slice x.1.1 R.length x.1.2]) (fun x => []) (fun x => [sl cInt x.1.1 R]) := by
 refine con_of_J (n := 72) Tryz.func147 rfl (by kernel_rfl) rfl rfl [(0, ag (cAct a))] ⟨rfl, trivial⟩ fun X hX hr hD => ?_
 replace hR := (sgr_told.eq_1 ..).symm.trans hR
 refine sr 2 rfl ?_
 refine it rfl (tri_box (cs := cAct a) rfl rfl rfl) fun b1 => ?_
 refine it rfl (tri_alloc (cs := [.slice none 0 0]) zero217 rfl) fun b2 => ?_
 refine ie ?_
 refine J_seq ?_
 refine J_block ?_
 refine sr 4 rfl ?_
 refine ip 1 3 [(6, pt b1 1)] (by kernel_rfl) ?_
 refine ix rfl (det_own_one (v := iv a.n) ty3 rfl rfl 1 rfl rfl) ?_
 refine ip 2 0 [(5, bv (decide (a.n = 0)))] (by kernel_rfl) ?_
 refine ie ?_
 refine J_if rfl (fun h3 => ?_) (fun h3 => ?_)
 ·have h3p : a.n = 0 := by simpa using h3
  replace hR := bt hR h3
  refine sr 3 rfl ?_
  refine it rfl (tri_buildSl (c := cInt) (xs := ([0] : List Int)) slt168 rfl rfl rfl (by kernel_rfl)) fun b4 => ?_
  have : ([0] : List Int).length = 1 := rfl
  have hQ := bindVx hR; clear hR; obtain ⟨y0, hy0, hR⟩ := hQ
  refine it rfl (tri_callN (L2 := [bx b2 [.slice none 0 0] 217, bx b1 (cAct a) 26]) (sgr_row_c ([0] : List Int) (some ⟨b4, 0, none⟩) 1 (by first | omega | (simp <;> omega) | (dsimp only; omega) | decide) (by first | omega | (simp <;> omega) | (dsimp only; omega) | decide) y0 hy0) rfl rfl rfl rfl rfl (Foll.pick [0] rfl) (List.Perm.refl _) (fun ⟨⟨q5, k6⟩, hp7⟩ => [bx b2 [.slice none 0 0] 217, bx b1 (cAct a) 26]) (fun _ => rfl)) fun ⟨⟨q5, k6⟩, hp7⟩ => ?_
  obtain ⟨hc8, hl9⟩ := hp7
  refine it rfl (tri_store (us := [.slice q5 y0.length k6]) (cs' := [.slice q5 y0.length k6]) ty217 rfl rfl rfl 0 rfl rfl rfl rfl rfl rfl) fun _ => ?_
  refine ie ?_
  refine J_ret ?_
  subst hR
  exact ends_ret rfl ⟨hr, hD⟩ (by simp [hD]) (res1 rfl (resV_cell (us := [.slice q5 y0.length k6]) ty217 rfl 0 rfl rfl rfl)) ⟨(q5, k6), (by first | omega | (simp <;> omega) | (dsimp only; omega) | decide), (by first | omega | (simp <;> omega) | (dsimp only; omega) | decide)⟩ (by rfl) (mk [false, false] rfl) (Foll.con1 (at_of 0 rfl) Foll.nil)
 ·have h3p : ¬ (a.n = 0) := by simpa using h3
  replace hR := bf hR h3
  refine sr 9 rfl ?_
  refine ip 1 8 [(12, pt b1 1)] (by kernel_rfl) ?_
  refine ix rfl (det_own_one (v := iv a.n) ty3 rfl rfl 1 rfl rfl) ?_
  refine ip 2 5 [(15, bv (decide (a.n = 3)))] (by kernel_rfl) ?_
  refine iand 4 1 15 19 (decide (a.m = 0)) rfl (by kernel_rfl) (fun g10 => ?_) ?_
  ·have g10p : a.n = 3 := by simpa using g10
   refine ip 1 3 [(16, pt b1 2)] (by kernel_rfl) ?_
   refine ix rfl (det_own_one (v := iv a.m) ty3 rfl rfl 1 rfl rfl) ?_
   refine ip 2 0 [(19, bv (decide (a.m = 0)))] (by kernel_rfl) ?_
   exact JI_end (armI 4 15 19 g10 Foll.refl (mk [true, true] rfl) rfl rfl rfl rfl rfl)
  refine ip 1 0 [(11, bv ((decide (a.n = 3)) && (decide (a.m = 0))))] (by kernel_rfl) ?_
  refine ie ?_
  refine J_if rfl (fun h11 => ?_) (fun h11 => ?_)
  ·have h11p : (a.n = 3) ∧ (a.m = 0) := by simpa using h11
   replace hR := bt hR h11
   refine sr 3 rfl ?_
   refine it rfl (tri_buildSl (c := cInt) (xs := ([24] : List Int)) slt168 rfl rfl rfl (by kernel_rfl)) fun b12 => ?_
   have : ([24] : List Int).length = 1 := rfl
   have hQ := bindVx hR; clear hR; obtain ⟨y1, hy1, hR⟩ := hQ
   refine it rfl (tri_callN (L2 := [bx b2 [.slice none 0 0] 217, bx b1 (cAct a) 26]) (sgr_row_c ([24] : List Int) (some ⟨b12, 0, none⟩) 1 (by first | omega | (simp <;> omega) | (dsimp only; omega) | decide) (by first | omega | (simp <;> omega) | (dsimp only; omega) | decide) y1 hy1) rfl rfl rfl rfl rfl (Foll.pick [0] rfl) (List.Perm.refl _) (fun ⟨⟨q13, k14⟩, hp15⟩ => [bx b2 [.slice none 0 0] 217, bx b1 (cAct a) 26]) (fun _ => rfl)) fun ⟨⟨q13, k14⟩, hp15⟩ => ?_
   obtain ⟨hc16, hl17⟩ := hp15
   refine it rfl (tri_store (us := [.slice q13 y1.length k14]) (cs' := [.slice q13 y1.length k14]) ty217 rfl rfl rfl 0 rfl rfl rfl rfl rfl rfl) fun _ => ?_
   refine ie ?_
   refine J_ret ?_
   subst hR
   exact ends_ret rfl ⟨hr, hD⟩ (by simp [hD]) (res1 rfl (resV_cell (us := [.slice q13 y1.length k14]) ty217 rfl 0 rfl rfl rfl)) ⟨(q13, k14), (by first | omega | (simp <;> omega) | (dsimp only; omega) | decide), (by first | omega | (simp <;> omega) | (dsimp only; omega) | decide)⟩ (by rfl) (mk [false, false] rfl) (Foll.con1 (at_of 0 rfl) Foll.nil)
  ·have h11p : ¬ ((a.n = 3) ∧ (a.m = 0)) := by simpa using h11
   replace hR := bf hR h11
   refine sr 9 rfl ?_
   refine ip 1 8 [(23, pt b1 1)] (by kernel_rfl) ?_
   refine ix rfl (det_own_one (v := iv a.n) ty3 rfl rfl 1 rfl rfl) ?_
   refine ip 2 5 [(26, bv (decide (a.n = 3)))] (by kernel_rfl) ?_
   refine iand 4 1 26 30 (decide (a.m = 1)) rfl (by kernel_rfl) (fun g18 => ?_) ?_
   ·have g18p : a.n = 3 := by simpa using g18
    refine ip 1 3 [(27, pt b1 2)] (by kernel_rfl) ?_
    refine ix rfl (det_own_one (v := iv a.m) ty3 rfl rfl 1 rfl rfl) ?_
    refine ip 2 0 [(30, bv (decide (a.m = 1)))] (by kernel_rfl) ?_
    exact JI_end (armI 4 26 30 g18 Foll.refl (mk [true, true] rfl) rfl rfl rfl rfl rfl)
   refine ip 1 0 [(22, bv ((decide (a.n = 3)) && (decide (a.m = 1))))] (by kernel_rfl) ?_
   refine ie ?_
   refine J_if rfl (fun h19 => ?_) (fun h19 => ?_)
   ·have h19p : (a.n = 3) ∧ (a.m = 1) := by simpa using h19
    replace hR := bt hR h19
    refine sr 3 rfl ?_
    refine it rfl (tri_buildSl (c := cInt) (xs := ([4] : List Int)) slt168 rfl rfl rfl (by kernel_rfl)) fun b20 => ?_
    have : ([4] : List Int).length = 1 := rfl
    have hQ := bindVx hR; clear hR; obtain ⟨y5, hy5, hR⟩ := hQ
    refine it rfl (tri_callN (L2 := [bx b2 [.slice none 0 0] 217, bx b1 (cAct a) 26]) (sgr_row_c ([4] : List Int) (some ⟨b20, 0, none⟩) 1 (by first | omega | (simp <;> omega) | (dsimp only; omega) | decide) (by first | omega | (simp <;> omega) | (dsimp only; omega) | decide) y5 hy5) rfl rfl rfl rfl rfl (Foll.pick [0] rfl) (List.Perm.refl _) (fun ⟨⟨q21, k22⟩, hp23⟩ => [bx b2 [.slice none 0 0] 217, bx b1 (cAct a) 26]) (fun _ => rfl)) fun ⟨⟨q21, k22⟩, hp23⟩ => ?_
    obtain ⟨hc24, hl25⟩ := hp23
    refine it rfl (tri_store (us := [.slice q21 y5.length k22]) (cs' := [.slice q21 y5.length k22]) ty217 rfl rfl rfl 0 rfl rfl rfl rfl rfl rfl) fun _ => ?_
    refine ie ?_
    refine J_ret ?_
    subst hR
    exact ends_ret rfl ⟨hr, hD⟩ (by simp [hD]) (res1 rfl (resV_cell (us := [.slice q21 y5.length k22]) ty217 rfl 0 rfl rfl rfl)) ⟨(q21, k22), (by first | omega | (simp <;> omega) | (dsimp only; omega) | decide), (by first | omega | (simp <;> omega) | (dsimp only; omega) | decide)⟩ (by rfl) (mk [false, false] rfl) (Foll.con1 (at_of 0 rfl) Foll.nil)
   ·have h19p : ¬ ((a.n = 3) ∧ (a.m = 1)) := by simpa using h19
    replace hR := bf hR h19
    refine sr 4 rfl ?_
    refine ip 1 3 [(34, pt b1 1)] (by kernel_rfl) ?_
    refine ix rfl (det_own_one (v := iv a.n) ty3 rfl rfl 1 rfl rfl) ?_
    refine ip 2 0 [(33, bv (decide (a.n = 3)))] (by kernel_rfl) ?_
    refine ie ?_
    refine J_if rfl (fun h26 => ?_) (fun h26 => ?_)
    ·have h26p : a.n = 3 := by simpa using h26
     replace hR := bt hR h26
     refine sr 5 rfl ?_
     refine ip 1 4 [(37, pt b1 2)] (by kernel_rfl) ?_
     refine ix rfl (det_own_one (v := iv a.m) ty3 rfl rfl 1 rfl rfl) ?_
     refine it rfl (tri_buildSl (c := cInt) (xs := ([4, a.m] : List Int)) slt168 rfl rfl rfl (by kernel_rfl)) fun b27 => ?_
     have : ([4, a.m] : List Int).length = 2 := rfl
     have hQ := bindVx hR; clear hR; obtain ⟨y4, hy4, hR⟩ := hQ
     refine it rfl (tri_callN (L2 := [bx b2 [.slice none 0 0] 217, bx b1 (cAct a) 26]) (sgr_row_c ([4, a.m] : List Int) (some ⟨b27, 0, none⟩) 2 (by first | omega | (simp <;> omega) | (dsimp only; omega) | decide) (by first | omega | (simp <;> omega) | (dsimp only; omega) | decide) y4 hy4) rfl rfl rfl rfl rfl (Foll.pick [0] rfl) (List.Perm.refl _) (fun ⟨⟨q28, k29⟩, hp30⟩ => [bx b2 [.slice none 0 0] 217, bx b1 (cAct a) 26]) (fun _ => rfl)) fun ⟨⟨q28, k29⟩, hp30⟩ => ?_
     obtain ⟨hc31, hl32⟩ := hp30
     refine it rfl (tri_store (us := [.slice q28 y4.length k29]) (cs' := [.slice q28 y4.length k29]) ty217 rfl rfl rfl 0 rfl rfl rfl rfl rfl rfl) fun _ => ?_
     refine ie ?_
     refine J_ret ?_
     subst hR
     exact ends_ret rfl ⟨hr, hD⟩ (by simp [hD]) (res1 rfl (resV_cell (us := [.slice q28 y4.length k29]) ty217 rfl 0 rfl rfl rfl)) ⟨(q28, k29), (by first | omega | (simp <;> omega) | (dsimp only; omega) | decide), (by first | omega | (simp <;> omega) | (dsimp only; omega) | decide)⟩ (by rfl) (mk [false, false] rfl) (Foll.con1 (at_of 0 rfl) Foll.nil)
    ·have h26p : ¬ (a.n = 3) := by simpa using h26
     replace hR := bf hR h26
     refine sr 4 rfl ?_
     refine ip 1 3 [(42, pt b1 1)] (by kernel_rfl) ?_
     refine ix rfl (det_own_one (v := iv a.n) ty3 rfl rfl 1 rfl rfl) ?_
     refine ip 2 0 [(41, bv (decide ((4 : Int) ≤ a.n)))] (by kernel_rfl) ?_
     refine ie ?_
     refine J_if rfl (fun h33 => ?_) (fun h33 => ?_)
     ·have h33p : (4 : Int) ≤ a.n := by simpa using h33
      replace hR := bt hR h33
      refine sr 3 rfl ?_
      refine ix rfl (det_own_agg (us := cAct a) ty26 rfl rfl 1 rfl rfl rfl) ?_
      have hQ := bindVx hR; clear hR; obtain ⟨y15, hy15, hR⟩ := hQ
      refine it rfl (tri_callN (L2 := [bx b2 [.slice none 0 0] 217, bx b1 (cAct a) 26]) (sgr_colour_c a y15 hy15) rfl rfl rfl rfl rfl Foll.nil (List.Perm.refl _) (fun ⟨⟨q34, k35⟩, hp36⟩ => [bx b2 [.slice none 0 0] 217, bx b1 (cAct a) 26]) (fun _ => rfl)) fun ⟨⟨q34, k35⟩, hp36⟩ => ?_
      obtain ⟨hc37, hl38⟩ := hp36
      refine it rfl (tri_store (us := [.slice q34 y15.length k35]) (cs' := [.slice q34 y15.length k35]) ty217 rfl rfl rfl 0 rfl rfl rfl rfl rfl rfl) fun _ => ?_
      refine ie ?_
      refine J_ret ?_
      subst hR
      exact ends_ret rfl ⟨hr, hD⟩ (by simp [hD]) (res1 rfl (resV_cell (us := [.slice q34 y15.length k35]) ty217 rfl 0 rfl rfl rfl)) ⟨(q34, k35), (by first | omega | (simp <;> omega) | (dsimp only; omega) | decide), (by first | omega | (simp <;> omega) | (dsimp only; omega) | decide)⟩ (by rfl) (mk [false, false] rfl) (Foll.con1 (at_of 0 rfl) Foll.nil)
     ·have h33p : ¬ ((4 : Int) ≤ a.n) := by simpa using h33
      replace hR := bf hR h33
      refine J_skip ?_
      refine nx ?_
      refine J_seq ?_
      refine sr 2 rfl ?_
      refine ix rfl (det_ld_agg (us := [iv 1, iv 1, iv 22, iv 2, iv 2, iv 22, iv 4, iv 3, iv 23, iv 8, iv 5, iv 25, iv 16, iv 7, iv 27, iv 32, iv 8, iv 28, iv 64, iv 9, iv 29, iv 128, iv 53, iv 55]) ty258 rfl rfl (at_all 0 rfl (by kernel_rfl)) rfl) ?_
      refine ip 1 0 [(48, iv 0)] (by kernel_rfl) ?_
      refine ie ?_
      refine J_block ?_
      refine J_rounds 10 ?_
      refine JR_succ ?_
      refine sr 1 rfl ?_
      refine ip 1 0 [(49, bv true)] (by kernel_rfl) ?_
      refine ie ?_
      refine J_seq ?_
      refine J_yes rfl ?_
      refine J_skip ?_
      refine nx ?_
      refine J_seq ?_
      refine J_block ?_
      refine sr 3 rfl ?_
      refine ix rfl (det_index (v := ag [iv 1, iv 1, iv 22]) (us := [iv 1, iv 1, iv 22]) Tryz.underlying258 ty257 rfl rfl rfl 0 rfl (by decide) rfl rfl rfl) ?_
      refine it rfl (tri_alloc (cs := cAtr Atr.zero) zero257 rfl) fun b39 => ?_
      refine it rfl (tri_store (us := [iv 1, iv 1, iv 22]) (cs' := cAtr (⟨1, 1, 22⟩ : Atr)) ty257 rfl rfl rfl 0 rfl rfl rfl rfl rfl rfl) fun _ => ?_
      refine ie ?_
      refine J_block ?_
      refine sr 7 rfl ?_
      refine ip 1 6 [(56, pt b39 0)] (by kernel_rfl) ?_
      refine ix rfl (det_own_one (v := iv 1) ty3 rfl rfl 0 rfl rfl) ?_
      refine ip 1 4 [(58, pt b1 2)] (by kernel_rfl) ?_
      refine ix rfl (det_own_one (v := iv a.m) ty3 rfl rfl 2 rfl rfl) ?_
      refine ip 3 0 [(55, bv (decide ((bOp .and .i64 1 a.m) = 0)))] (by kernel_rfl) ?_
      refine ie ?_
      refine J_if rfl (fun h40 => ?_) (fun h40 => ?_)
      ·have h40p : (bOp .and .i64 1 a.m) = 0 := by simpa using h40
       replace hR := bt hR h40
       refine J_skip ?_
       refine nx ?_
       refine J_region 2 rfl ?_
       refine ix rfl (det_add64 (c := 1) rfl rfl rfl rfl (by decide)) ?_
       refine ip 1 0 [(48, iv 1)] (by kernel_rfl) ?_
       refine JI_end ?_
       refine JR_succ ?_
       refine sr 1 rfl ?_
       refine ip 1 0 [(49, bv true)] (by kernel_rfl) ?_
       refine ie ?_
       refine J_seq ?_
       refine J_yes rfl ?_
       refine J_skip ?_
       refine nx ?_
       refine J_seq ?_
       refine J_block ?_
       refine sr 3 rfl ?_
       refine ix rfl (det_index (v := ag [iv 2, iv 2, iv 22]) (us := [iv 2, iv 2, iv 22]) Tryz.underlying258 ty257 rfl rfl rfl 1 rfl (by decide) rfl rfl rfl) ?_
       refine it rfl (tri_alloc (cs := cAtr Atr.zero) zero257 rfl) fun b41 => ?_
       refine it rfl (tri_store (us := [iv 2, iv 2, iv 22]) (cs' := cAtr (⟨2, 2, 22⟩ : Atr)) ty257 rfl rfl rfl 0 rfl rfl rfl rfl rfl rfl) fun _ => ?_
       refine ie ?_
       refine J_block ?_
       refine sr 7 rfl ?_
       refine ip 1 6 [(56, pt b41 0)] (by kernel_rfl) ?_
       refine ix rfl (det_own_one (v := iv 2) ty3 rfl rfl 0 rfl rfl) ?_
       refine ip 1 4 [(58, pt b1 2)] (by kernel_rfl) ?_
       refine ix rfl (det_own_one (v := iv a.m) ty3 rfl rfl 3 rfl rfl) ?_
       refine ip 3 0 [(55, bv (decide ((bOp .and .i64 2 a.m) = 0)))] (by kernel_rfl) ?_
       refine ie ?_
       refine J_if rfl (fun h42 => ?_) (fun h42 => ?_)
       ·have h42p : (bOp .and .i64 2 a.m) = 0 := by simpa using h42
        replace hR := bt hR h42
        refine J_skip ?_
        refine nx ?_
        refine J_region 2 rfl ?_
        refine ix rfl (det_add64 (c := 2) rfl rfl rfl rfl (by decide)) ?_
        refine ip 1 0 [(48, iv 2)] (by kernel_rfl) ?_
        refine JI_end ?_
        refine JR_succ ?_
        refine sr 1 rfl ?_
        refine ip 1 0 [(49, bv true)] (by kernel_rfl) ?_
        refine ie ?_
        refine J_seq ?_
        refine J_yes rfl ?_
        refine J_skip ?_
        refine nx ?_
        refine J_seq ?_
        refine J_block ?_
        refine sr 3 rfl ?_
        refine ix rfl (det_index (v := ag [iv 4, iv 3, iv 23]) (us := [iv 4, iv 3, iv 23]) Tryz.underlying258 ty257 rfl rfl rfl 2 rfl (by decide) rfl rfl rfl) ?_
        refine it rfl (tri_alloc (cs := cAtr Atr.zero) zero257 rfl) fun b43 => ?_
        refine it rfl (tri_store (us := [iv 4, iv 3, iv 23]) (cs' := cAtr (⟨4, 3, 23⟩ : Atr)) ty257 rfl rfl rfl 0 rfl rfl rfl rfl rfl rfl) fun _ => ?_
        refine ie ?_
        refine J_block ?_
        refine sr 7 rfl ?_
        refine ip 1 6 [(56, pt b43 0)] (by kernel_rfl) ?_
        refine ix rfl (det_own_one (v := iv 4) ty3 rfl rfl 0 rfl rfl) ?_
        refine ip 1 4 [(58, pt b1 2)] (by kernel_rfl) ?_
        refine ix rfl (det_own_one (v := iv a.m) ty3 rfl rfl 4 rfl rfl) ?_
        refine ip 3 0 [(55, bv (decide ((bOp .and .i64 4 a.m) = 0)))] (by kernel_rfl) ?_
        refine ie ?_
        refine J_if rfl (fun h44 => ?_) (fun h44 => ?_)
        ·have h44p : (bOp .and .i64 4 a.m) = 0 := by simpa using h44
         replace hR := bt hR h44
         refine J_skip ?_
         refine nx ?_
         refine J_region 2 rfl ?_
         refine ix rfl (det_add64 (c := 3) rfl rfl rfl rfl (by decide)) ?_
         refine ip 1 0 [(48, iv 3)] (by kernel_rfl) ?_
         refine JI_end ?_
         refine JR_succ ?_
         refine sr 1 rfl ?_
         refine ip 1 0 [(49, bv true)] (by kernel_rfl) ?_
         refine ie ?_
         refine J_seq ?_
         refine J_yes rfl ?_
         refine J_skip ?_
         refine nx ?_
         refine J_seq ?_
         refine J_block ?_
         refine sr 3 rfl ?_
         refine ix rfl (det_index (v := ag [iv 8, iv 5, iv 25]) (us := [iv 8, iv 5, iv 25]) Tryz.underlying258 ty257 rfl rfl rfl 3 rfl (by decide) rfl rfl rfl) ?_
         refine it rfl (tri_alloc (cs := cAtr Atr.zero) zero257 rfl) fun b45 => ?_
         refine it rfl (tri_store (us := [iv 8, iv 5, iv 25]) (cs' := cAtr (⟨8, 5, 25⟩ : Atr)) ty257 rfl rfl rfl 0 rfl rfl rfl rfl rfl rfl) fun _ => ?_
         refine ie ?_
         refine J_block ?_
         refine sr 7 rfl ?_
         refine ip 1 6 [(56, pt b45 0)] (by kernel_rfl) ?_
         refine ix rfl (det_own_one (v := iv 8) ty3 rfl rfl 0 rfl rfl) ?_
         refine ip 1 4 [(58, pt b1 2)] (by kernel_rfl) ?_
         refine ix rfl (det_own_one (v := iv a.m) ty3 rfl rfl 5 rfl rfl) ?_
         refine ip 3 0 [(55, bv (decide ((bOp .and .i64 8 a.m) = 0)))] (by kernel_rfl) ?_
         refine ie ?_
         refine J_if rfl (fun h46 => ?_) (fun h46 => ?_)
         ·have h46p : (bOp .and .i64 8 a.m) = 0 := by simpa using h46
          replace hR := bt hR h46
          refine J_skip ?_
          refine nx ?_
          refine J_region 2 rfl ?_
          refine ix rfl (det_add64 (c := 4) rfl rfl rfl rfl (by decide)) ?_
          refine ip 1 0 [(48, iv 4)] (by kernel_rfl) ?_
          refine JI_end ?_
          refine JR_succ ?_
          refine sr 1 rfl ?_
          refine ip 1 0 [(49, bv true)] (by kernel_rfl) ?_
          refine ie ?_
          refine J_seq ?_
          refine J_yes rfl ?_
          refine J_skip ?_
          refine nx ?_
          refine J_seq ?_
          refine J_block ?_
          refine sr 3 rfl ?_
          refine ix rfl (det_index (v := ag [iv 16, iv 7, iv 27]) (us := [iv 16, iv 7, iv 27]) Tryz.underlying258 ty257 rfl rfl rfl 4 rfl (by decide) rfl rfl rfl) ?_
          refine it rfl (tri_alloc (cs := cAtr Atr.zero) zero257 rfl) fun b47 => ?_
          refine it rfl (tri_store (us := [iv 16, iv 7, iv 27]) (cs' := cAtr (⟨16, 7, 27⟩ : Atr)) ty257 rfl rfl rfl 0 rfl rfl rfl rfl rfl rfl) fun _ => ?_
          refine ie ?_
          refine J_block ?_
          refine sr 7 rfl ?_
          refine ip 1 6 [(56, pt b47 0)] (by kernel_rfl) ?_
          refine ix rfl (det_own_one (v := iv 16) ty3 rfl rfl 0 rfl rfl) ?_
          refine ip 1 4 [(58, pt b1 2)] (by kernel_rfl) ?_
          refine ix rfl (det_own_one (v := iv a.m) ty3 rfl rfl 6 rfl rfl) ?_
          refine ip 3 0 [(55, bv (decide ((bOp .and .i64 16 a.m) = 0)))] (by kernel_rfl) ?_
          refine ie ?_
          refine J_if rfl (fun h48 => ?_) (fun h48 => ?_)
          ·have h48p : (bOp .and .i64 16 a.m) = 0 := by simpa using h48
           replace hR := bt hR h48
           refine J_skip ?_
           refine nx ?_
           refine J_region 2 rfl ?_
           refine ix rfl (det_add64 (c := 5) rfl rfl rfl rfl (by decide)) ?_
           refine ip 1 0 [(48, iv 5)] (by kernel_rfl) ?_
           refine JI_end ?_
           refine JR_succ ?_
           refine sr 1 rfl ?_
           refine ip 1 0 [(49, bv true)] (by kernel_rfl) ?_
           refine ie ?_
           refine J_seq ?_
           refine J_yes rfl ?_
           refine J_skip ?_
           refine nx ?_
           refine J_seq ?_
           refine J_block ?_
           refine sr 3 rfl ?_
           refine ix rfl (det_index (v := ag [iv 32, iv 8, iv 28]) (us := [iv 32, iv 8, iv 28]) Tryz.underlying258 ty257 rfl rfl rfl 5 rfl (by decide) rfl rfl rfl) ?_
           refine it rfl (tri_alloc (cs := cAtr Atr.zero) zero257 rfl) fun b49 => ?_
           refine it rfl (tri_store (us := [iv 32, iv 8, iv 28]) (cs' := cAtr (⟨32, 8, 28⟩ : Atr)) ty257 rfl rfl rfl 0 rfl rfl rfl rfl rfl rfl) fun _ => ?_
           refine ie ?_
           refine J_block ?_
           refine sr 7 rfl ?_
           refine ip 1 6 [(56, pt b49 0)] (by kernel_rfl) ?_
           refine ix rfl (det_own_one (v := iv 32) ty3 rfl rfl 0 rfl rfl) ?_
           refine ip 1 4 [(58, pt b1 2)] (by kernel_rfl) ?_
           refine ix rfl (det_own_one (v := iv a.m) ty3 rfl rfl 7 rfl rfl) ?_
           refine ip 3 0 [(55, bv (decide ((bOp .and .i64 32 a.m) = 0)))] (by kernel_rfl) ?_
           refine ie ?_
           refine J_if rfl (fun h50 => ?_) (fun h50 => ?_)
           ·have h50p : (bOp .and .i64 32 a.m) = 0 := by simpa using h50
            replace hR := bt hR h50
            refine J_skip ?_
            refine nx ?_
            refine J_region 2 rfl ?_
            refine ix rfl (det_add64 (c := 6) rfl rfl rfl rfl (by decide)) ?_
            refine ip 1 0 [(48, iv 6)] (by kernel_rfl) ?_
            refine JI_end ?_
            refine JR_succ ?_
            refine sr 1 rfl ?_
            refine ip 1 0 [(49, bv true)] (by kernel_rfl) ?_
            refine ie ?_
            refine J_seq ?_
            refine J_yes rfl ?_
            refine J_skip ?_
            refine nx ?_
            refine J_seq ?_
            refine J_block ?_
            refine sr 3 rfl ?_
            refine ix rfl (det_index (v := ag [iv 64, iv 9, iv 29]) (us := [iv 64, iv 9, iv 29]) Tryz.underlying258 ty257 rfl rfl rfl 6 rfl (by decide) rfl rfl rfl) ?_
            refine it rfl (tri_alloc (cs := cAtr Atr.zero) zero257 rfl) fun b51 => ?_
            refine it rfl (tri_store (us := [iv 64, iv 9, iv 29]) (cs' := cAtr (⟨64, 9, 29⟩ : Atr)) ty257 rfl rfl rfl 0 rfl rfl rfl rfl rfl rfl) fun _ => ?_
            refine ie ?_
            refine J_block ?_
            refine sr 7 rfl ?_
            refine ip 1 6 [(56, pt b51 0)] (by kernel_rfl) ?_
            refine ix rfl (det_own_one (v := iv 64) ty3 rfl rfl 0 rfl rfl) ?_
            refine ip 1 4 [(58, pt b1 2)] (by kernel_rfl) ?_
            refine ix rfl (det_own_one (v := iv a.m) ty3 rfl rfl 8 rfl rfl) ?_
            refine ip 3 0 [(55, bv (decide ((bOp .and .i64 64 a.m) = 0)))] (by kernel_rfl) ?_
            refine ie ?_
            refine J_if rfl (fun h52 => ?_) (fun h52 => ?_)
            ·have h52p : (bOp .and .i64 64 a.m) = 0 := by simpa using h52
             replace hR := bt hR h52
             refine J_skip ?_
             refine nx ?_
             refine J_region 2 rfl ?_
             refine ix rfl (det_add64 (c := 7) rfl rfl rfl rfl (by decide)) ?_
             refine ip 1 0 [(48, iv 7)] (by kernel_rfl) ?_
             refine JI_end ?_
             refine JR_succ ?_
             refine sr 1 rfl ?_
             refine ip 1 0 [(49, bv true)] (by kernel_rfl) ?_
             refine ie ?_
             refine J_seq ?_
             refine J_yes rfl ?_
             refine J_skip ?_
             refine nx ?_
             refine J_seq ?_
             refine J_block ?_
             refine sr 3 rfl ?_
             refine ix rfl (det_index (v := ag [iv 128, iv 53, iv 55]) (us := [iv 128, iv 53, iv 55]) Tryz.underlying258 ty257 rfl rfl rfl 7 rfl (by decide) rfl rfl rfl) ?_
             refine it rfl (tri_alloc (cs := cAtr Atr.zero) zero257 rfl) fun b53 => ?_
             refine it rfl (tri_store (us := [iv 128, iv 53, iv 55]) (cs' := cAtr (⟨128, 53, 55⟩ : Atr)) ty257 rfl rfl rfl 0 rfl rfl rfl rfl rfl rfl) fun _ => ?_
             refine ie ?_
             refine J_block ?_
             refine sr 7 rfl ?_
             refine ip 1 6 [(56, pt b53 0)] (by kernel_rfl) ?_
             refine ix rfl (det_own_one (v := iv 128) ty3 rfl rfl 0 rfl rfl) ?_
             refine ip 1 4 [(58, pt b1 2)] (by kernel_rfl) ?_
             refine ix rfl (det_own_one (v := iv a.m) ty3 rfl rfl 9 rfl rfl) ?_
             refine ip 3 0 [(55, bv (decide ((bOp .and .i64 128 a.m) = 0)))] (by kernel_rfl) ?_
             refine ie ?_
             refine J_if rfl (fun h54 => ?_) (fun h54 => ?_)
             ·have h54p : (bOp .and .i64 128 a.m) = 0 := by simpa using h54
              replace hR := bt hR h54
              refine J_skip ?_
              refine nx ?_
              refine J_region 2 rfl ?_
              refine ix rfl (det_add64 (c := 8) rfl rfl rfl rfl (by decide)) ?_
              refine ip 1 0 [(48, iv 8)] (by kernel_rfl) ?_
              refine JI_end ?_
              refine JR_succ ?_
              refine sr 1 rfl ?_
              refine ip 1 0 [(49, bv false)] (by kernel_rfl) ?_
              refine ie ?_
              refine J_seq ?_
              refine J_no rfl ?_
              refine J_exit ?_
              refine nx ?_
              refine sr 2 rfl ?_
              refine ix rfl (det_build (cs := [.slice none 0 0]) rfl rfl (by kernel_rfl)) ?_
              refine it rfl (tri_store (us := [.slice none 0 0]) (cs' := [.slice none 0 0]) ty217 rfl rfl rfl 8 rfl rfl rfl rfl rfl rfl) fun _ => ?_
              refine ie ?_
              refine J_ret ?_
              subst hR
              exact ends_ret rfl ⟨hr, hD⟩ (by simp [hD]) (res1 rfl (resV_cell (us := [.slice none 0 0]) ty217 rfl 8 rfl rfl rfl)) ⟨(none, 0), (by first | omega | (simp <;> omega) | (dsimp only; omega) | decide), (by first | omega | (simp <;> omega) | (dsimp only; omega) | decide)⟩ (by rfl) (mk [false, false, false, false, false, false, false, false, false, false] rfl) (Foll.con1 sl_nil Foll.nil)
             ·have h54p : ¬ ((bOp .and .i64 128 a.m) = 0) := by simpa using h54
              replace hR := bf hR h54
              refine sr 4 rfl ?_
              refine ip 1 3 [(63, pt b1 1)] (by kernel_rfl) ?_
              refine ix rfl (det_own_one (v := iv a.n) ty3 rfl rfl 9 rfl rfl) ?_
              refine ip 2 0 [(62, bv (decide (a.n = 1)))] (by kernel_rfl) ?_
              refine ie ?_
              refine J_if rfl (fun h55 => ?_) (fun h55 => ?_)
              ·have h55p : a.n = 1 := by simpa using h55
               replace hR := bt hR h55
               refine sr 5 rfl ?_
               refine ip 1 4 [(66, pt b53 1)] (by kernel_rfl) ?_
               refine ix rfl (det_own_one (v := iv 53) ty3 rfl rfl 0 rfl rfl) ?_
               refine it rfl (tri_buildSl (c := cInt) (xs := ([53] : List Int)) slt168 rfl rfl rfl (by kernel_rfl)) fun b56 => ?_
               have : ([53] : List Int).length = 1 := rfl
               have hQ := bindVx hR; clear hR; obtain ⟨y3, hy3, hR⟩ := hQ
               refine it rfl (tri_callN (L2 := [bx b53 (cAtr (⟨128, 53, 55⟩ : Atr)) 257, bx b51 (cAtr (⟨64, 9, 29⟩ : Atr)) 257, bx b49 (cAtr (⟨32, 8, 28⟩ : Atr)) 257, bx b47 (cAtr (⟨16, 7, 27⟩ : Atr)) 257, bx b45 (cAtr (⟨8, 5, 25⟩ : Atr)) 257, bx b43 (cAtr (⟨4, 3, 23⟩ : Atr)) 257, bx b41 (cAtr (⟨2, 2, 22⟩ : Atr)) 257, bx b39 (cAtr (⟨1, 1, 22⟩ : Atr)) 257, bx b2 [.slice none 0 0] 217, bx b1 (cAct a) 26]) (sgr_row_c ([53] : List Int) (some ⟨b56, 0, none⟩) 1 (by first | omega | (simp <;> omega) | (dsimp only; omega) | decide) (by first | omega | (simp <;> omega) | (dsimp only; omega) | decide) y3 hy3) rfl rfl rfl rfl rfl (Foll.pick [0] rfl) (List.Perm.refl _) (fun ⟨⟨q57, k58⟩, hp59⟩ => [bx b53 (cAtr (⟨128, 53, 55⟩ : Atr)) 257, bx b51 (cAtr (⟨64, 9, 29⟩ : Atr)) 257, bx b49 (cAtr (⟨32, 8, 28⟩ : Atr)) 257, bx b47 (cAtr (⟨16, 7, 27⟩ : Atr)) 257, bx b45 (cAtr (⟨8, 5, 25⟩ : Atr)) 257, bx b43 (cAtr (⟨4, 3, 23⟩ : Atr)) 257, bx b41 (cAtr (⟨2, 2, 22⟩ : Atr)) 257, bx b39 (cAtr (⟨1, 1, 22⟩ : Atr)) 257, bx b2 [.slice none 0 0] 217, bx b1 (cAct a) 26]) (fun _ => rfl)) fun ⟨⟨q57, k58⟩, hp59⟩ => ?_
               obtain ⟨hc60, hl61⟩ := hp59
               refine it rfl (tri_store (us := [.slice q57 y3.length k58]) (cs' := [.slice q57 y3.length k58]) ty217 rfl rfl rfl 8 rfl rfl rfl rfl rfl rfl) fun _ => ?_
               refine ie ?_
               refine J_ret ?_
               subst hR
               exact ends_ret rfl ⟨hr, hD⟩ (by simp [hD]) (res1 rfl (resV_cell (us := [.slice q57 y3.length k58]) ty217 rfl 8 rfl rfl rfl)) ⟨(q57, k58), (by first | omega | (simp <;> omega) | (dsimp only; omega) | decide), (by first | omega | (simp <;> omega) | (dsimp only; omega) | decide)⟩ (by rfl) (mk [false, false, false, false, false, false, false, false, false, false] rfl) (Foll.con1 (at_of 0 rfl) Foll.nil)
              ·have h55p : ¬ (a.n = 1) := by simpa using h55
               replace hR := bf hR h55
               refine sr 5 rfl ?_
               refine ip 1 4 [(51, pt b53 2)] (by kernel_rfl) ?_
               refine ix rfl (det_own_one (v := iv 55) ty3 rfl rfl 0 rfl rfl) ?_
               refine it rfl (tri_buildSl (c := cInt) (xs := ([55] : List Int)) slt168 rfl rfl rfl (by kernel_rfl)) fun b62 => ?_
               have : ([55] : List Int).length = 1 := rfl
               have hQ := bindVx hR; clear hR; obtain ⟨y19, hy19, hR⟩ := hQ
               refine it rfl (tri_callN (L2 := [bx b53 (cAtr (⟨128, 53, 55⟩ : Atr)) 257, bx b51 (cAtr (⟨64, 9, 29⟩ : Atr)) 257, bx b49 (cAtr (⟨32, 8, 28⟩ : Atr)) 257, bx b47 (cAtr (⟨16, 7, 27⟩ : Atr)) 257, bx b45 (cAtr (⟨8, 5, 25⟩ : Atr)) 257, bx b43 (cAtr (⟨4, 3, 23⟩ : Atr)) 257, bx b41 (cAtr (⟨2, 2, 22⟩ : Atr)) 257, bx b39 (cAtr (⟨1, 1, 22⟩ : Atr)) 257, bx b2 [.slice none 0 0] 217, bx b1 (cAct a) 26]) (sgr_row_c ([55] : List Int) (some ⟨b62, 0, none⟩) 1 (by first | omega | (simp <;> omega) | (dsimp only; omega) | decide) (by first | omega | (simp <;> omega) | (dsimp only; omega) | decide) y19 hy19) rfl rfl rfl rfl rfl (Foll.pick [0] rfl) (List.Perm.refl _) (fun ⟨⟨q63, k64⟩, hp65⟩ => [bx b53 (cAtr (⟨128, 53, 55⟩ : Atr)) 257, bx b51 (cAtr (⟨64, 9, 29⟩ : Atr)) 257, bx b49 (cAtr (⟨32, 8, 28⟩ : Atr)) 257, bx b47 (cAtr (⟨16, 7, 27⟩ : Atr)) 257, bx b45 (cAtr (⟨8, 5, 25⟩ : Atr)) 257, bx b43 (cAtr (⟨4, 3, 23⟩ : Atr)) 257, bx b41 (cAtr (⟨2, 2, 22⟩ : Atr)) 257, bx b39 (cAtr (⟨1, 1, 22⟩ : Atr)) 257, bx b2 [.slice none 0 0] 217, bx b1 (cAct a) 26]) (fun _ => rfl)) fun ⟨⟨q63, k64⟩, hp65⟩ => ?_
               obtain ⟨hc66, hl67⟩ := hp65
               refine it rfl (tri_store (us := [.slice q63 y19.length k64]) (cs' := [.slice q63 y19.length k64]) ty217 rfl rfl rfl 8 rfl rfl rfl rfl rfl rfl) fun _ => ?_
               refine ie ?_
               refine J_ret ?_
               subst hR
               exact ends_ret rfl ⟨hr, hD⟩ (by simp [hD]) (res1 rfl (resV_cell (us := [.slice q63 y19.length k64]) ty217 rfl 8 rfl rfl rfl)) ⟨(q63, k64), (by first | omega | (simp <;> omega) | (dsimp only; omega) | decide), (by first | omega | (simp <;> omega) | (dsimp only; omega) | decide)⟩ (by rfl) (mk [false, false, false, false, false, false, false, false, false, false] rfl) (Foll.con1 (at_of 0 rfl) Foll.nil)
            ·have h52p : ¬ ((bOp .and .i64 64 a.m) = 0) := by simpa using h52
             replace hR := bf hR h52
             refine sr 4 rfl ?_
             refine ip 1 3 [(63, pt b1 1)] (by kernel_rfl) ?_
             refine ix rfl (det_own_one (v := iv a.n) ty3 rfl rfl 8 rfl rfl) ?_
             refine ip 2 0 [(62, bv (decide (a.n = 1)))] (by kernel_rfl) ?_
             refine ie ?_
             refine J_if rfl (fun h68 => ?_) (fun h68 => ?_)
             ·have h68p : a.n = 1 := by simpa using h68
              replace hR := bt hR h68
              refine sr 5 rfl ?_
              refine ip 1 4 [(66, pt b51 1)] (by kernel_rfl) ?_
              refine ix rfl (det_own_one (v := iv 9) ty3 rfl rfl 0 rfl rfl) ?_
              refine it rfl (tri_buildSl (c := cInt) (xs := ([9] : List Int)) slt168 rfl rfl rfl (by kernel_rfl)) fun b69 => ?_
              have : ([9] : List Int).length = 1 := rfl
              have hQ := bindVx hR; clear hR; obtain ⟨y7, hy7, hR⟩ := hQ
              refine it rfl (tri_callN (L2 := [bx b51 (cAtr (⟨64, 9, 29⟩ : Atr)) 257, bx b49 (cAtr (⟨32, 8, 28⟩ : Atr)) 257, bx b47 (cAtr (⟨16, 7, 27⟩ : Atr)) 257, bx b45 (cAtr (⟨8, 5, 25⟩ : Atr)) 257, bx b43 (cAtr (⟨4, 3, 23⟩ : Atr)) 257, bx b41 (cAtr (⟨2, 2, 22⟩ : Atr)) 257, bx b39 (cAtr (⟨1, 1, 22⟩ : Atr)) 257, bx b2 [.slice none 0 0] 217, bx b1 (cAct a) 26]) (sgr_row_c ([9] : List Int) (some ⟨b69, 0, none⟩) 1 (by first | omega | (simp <;> omega) | (dsimp only; omega) | decide) (by first | omega | (simp <;> omega) | (dsimp only; omega) | decide) y7 hy7) rfl rfl rfl rfl rfl (Foll.pick [0] rfl) (List.Perm.refl _) (fun ⟨⟨q70, k71⟩, hp72⟩ => [bx b51 (cAtr (⟨64, 9, 29⟩ : Atr)) 257, bx b49 (cAtr (⟨32, 8, 28⟩ : Atr)) 257, bx b47 (cAtr (⟨16, 7, 27⟩ : Atr)) 257, bx b45 (cAtr (⟨8, 5, 25⟩ : Atr)) 257, bx b43 (cAtr (⟨4, 3, 23⟩ : Atr)) 257, bx b41 (cAtr (⟨2, 2, 22⟩ : Atr)) 257, bx b39 (cAtr (⟨1, 1, 22⟩ : Atr)) 257, bx b2 [.slice none 0 0] 217, bx b1 (cAct a) 26]) (fun _ => rfl)) fun ⟨⟨q70, k71⟩, hp72⟩ => ?_
              obtain ⟨hc73, hl74⟩ := hp72
              refine it rfl (tri_store (us := [.slice q70 y7.length k71]) (cs' := [.slice q70 y7.length k71]) ty217 rfl rfl rfl 7 rfl rfl rfl rfl rfl rfl) fun _ => ?_
              refine ie ?_
              refine J_ret ?_
              subst hR
              exact ends_ret rfl ⟨hr, hD⟩ (by simp [hD]) (res1 rfl (resV_cell (us := [.slice q70 y7.length k71]) ty217 rfl 7 rfl rfl rfl)) ⟨(q70, k71), (by first | omega | (simp <;> omega) | (dsimp only; omega) | decide), (by first | omega | (simp <;> omega) | (dsimp only; omega) | decide)⟩ (by rfl) (mk [false, false, false, false, false, false, false, false, false] rfl) (Foll.con1 (at_of 0 rfl) Foll.nil)
             ·have h68p : ¬ (a.n = 1) := by simpa using h68
              replace hR := bf hR h68
              refine sr 5 rfl ?_
              refine ip 1 4 [(51, pt b51 2)] (by kernel_rfl) ?_
              refine ix rfl (det_own_one (v := iv 29) ty3 rfl rfl 0 rfl rfl) ?_
              refine it rfl (tri_buildSl (c := cInt) (xs := ([29] : List Int)) slt168 rfl rfl rfl (by kernel_rfl)) fun b75 => ?_
              have : ([29] : List Int).length = 1 := rfl
              have hQ := bindVx hR; clear hR; obtain ⟨y20, hy20, hR⟩ := hQ
              refine it rfl (tri_callN (L2 := [bx b51 (cAtr (⟨64, 9, 29⟩ : Atr)) 257, bx b49 (cAtr (⟨32, 8, 28⟩ : Atr)) 257, bx b47 (cAtr (⟨16, 7, 27⟩ : Atr)) 257, bx b45 (cAtr (⟨8, 5, 25⟩ : Atr)) 257, bx b43 (cAtr (⟨4, 3, 23⟩ : Atr)) 257, bx b41 (cAtr (⟨2, 2, 22⟩ : Atr)) 257, bx b39 (cAtr (⟨1, 1, 22⟩ : Atr)) 257, bx b2 [.slice none 0 0] 217, bx b1 (cAct a) 26]) (sgr_row_c ([29] : List Int) (some ⟨b75, 0, none⟩) 1 (by first | omega | (simp <;> omega) | (dsimp only; omega) | decide) (by first | omega | (simp <;> omega) | (dsimp only; omega) | decide) y20 hy20) rfl rfl rfl rfl rfl (Foll.pick [0] rfl) (List.Perm.refl _) (fun ⟨⟨q76, k77⟩, hp78⟩ => [bx b51 (cAtr (⟨64, 9, 29⟩ : Atr)) 257, bx b49 (cAtr (⟨32, 8, 28⟩ : Atr)) 257, bx b47 (cAtr (⟨16, 7, 27⟩ : Atr)) 257, bx b45 (cAtr (⟨8, 5, 25⟩ : Atr)) 257, bx b43 (cAtr (⟨4, 3, 23⟩ : Atr)) 257, bx b41 (cAtr (⟨2, 2, 22⟩ : Atr)) 257, bx b39 (cAtr (⟨1, 1, 22⟩ : Atr)) 257, bx b2 [.slice none 0 0] 217, bx b1 (cAct a) 26]) (fun _ => rfl)) fun ⟨⟨q76, k77⟩, hp78⟩ => ?_
              obtain ⟨hc79, hl80⟩ := hp78
              refine it rfl (tri_store (us := [.slice q76 y20.length k77]) (cs' := [.slice q76 y20.length k77]) ty217 rfl rfl rfl 7 rfl rfl rfl rfl rfl rfl) fun _ => ?_
              refine ie ?_
              refine J_ret ?_
              subst hR
              exact ends_ret rfl ⟨hr, hD⟩ (by simp [hD]) (res1 rfl (resV_cell (us := [.slice q76 y20.length k77]) ty217 rfl 7 rfl rfl rfl)) ⟨(q76, k77), (by first | omega | (simp <;> omega) | (dsimp only; omega) | decide), (by first | omega | (simp <;> omega) | (dsimp only; omega) | decide)⟩ (by rfl) (mk [false, false, false, false, false, false, false, false, false] rfl) (Foll.con1 (at_of 0 rfl) Foll.nil)
           ·have h50p : ¬ ((bOp .and .i64 32 a.m) = 0) := by simpa using h50
            replace hR := bf hR h50
            refine sr 4 rfl ?_
            refine ip 1 3 [(63, pt b1 1)] (by kernel_rfl) ?_
            refine ix rfl (det_own_one (v := iv a.n) ty3 rfl rfl 7 rfl rfl) ?_
            refine ip 2 0 [(62, bv (decide (a.n = 1)))] (by kernel_rfl) ?_
            refine ie ?_
            refine J_if rfl (fun h81 => ?_) (fun h81 => ?_)
            ·have h81p : a.n = 1 := by simpa using h81
             replace hR := bt hR h81
             refine sr 5 rfl ?_
             refine ip 1 4 [(66, pt b49 1)] (by kernel_rfl) ?_
             refine ix rfl (det_own_one (v := iv 8) ty3 rfl rfl 0 rfl rfl) ?_
             refine it rfl (tri_buildSl (c := cInt) (xs := ([8] : List Int)) slt168 rfl rfl rfl (by kernel_rfl)) fun b82 => ?_
             have : ([8] : List Int).length = 1 := rfl
             have hQ := bindVx hR; clear hR; obtain ⟨y9, hy9, hR⟩ := hQ
             refine it rfl (tri_callN (L2 := [bx b49 (cAtr (⟨32, 8, 28⟩ : Atr)) 257, bx b47 (cAtr (⟨16, 7, 27⟩ : Atr)) 257, bx b45 (cAtr (⟨8, 5, 25⟩ : Atr)) 257, bx b43 (cAtr (⟨4, 3, 23⟩ : Atr)) 257, bx b41 (cAtr (⟨2, 2, 22⟩ : Atr)) 257, bx b39 (cAtr (⟨1, 1, 22⟩ : Atr)) 257, bx b2 [.slice none 0 0] 217, bx b1 (cAct a) 26]) (sgr_row_c ([8] : List Int) (some ⟨b82, 0, none⟩) 1 (by first | omega | (simp <;> omega) | (dsimp only; omega) | decide) (by first | omega | (simp <;> omega) | (dsimp only; omega) | decide) y9 hy9) rfl rfl rfl rfl rfl (Foll.pick [0] rfl) (List.Perm.refl _) (fun ⟨⟨q83, k84⟩, hp85⟩ => [bx b49 (cAtr (⟨32, 8, 28⟩ : Atr)) 257, bx b47 (cAtr (⟨16, 7, 27⟩ : Atr)) 257, bx b45 (cAtr (⟨8, 5, 25⟩ : Atr)) 257, bx b43 (cAtr (⟨4, 3, 23⟩ : Atr)) 257, bx b41 (cAtr (⟨2, 2, 22⟩ : Atr)) 257, bx b39 (cAtr (⟨1, 1, 22⟩ : Atr)) 257, bx b2 [.slice none 0 0] 217, bx b1 (cAct a) 26]) (fun _ => rfl)) fun ⟨⟨q83, k84⟩, hp85⟩ => ?_
             obtain ⟨hc86, hl87⟩ := hp85
             refine it rfl (tri_store (us := [.slice q83 y9.length k84]) (cs' := [.slice q83 y9.length k84]) ty217 rfl rfl rfl 6 rfl rfl rfl rfl rfl rfl) fun _ => ?_
             refine ie ?_
             refine J_ret ?_
             subst hR
             exact ends_ret rfl ⟨hr, hD⟩ (by simp [hD]) (res1 rfl (resV_cell (us := [.slice q83 y9.length k84]) ty217 rfl 6 rfl rfl rfl)) ⟨(q83, k84), (by first | omega | (simp <;> omega) | (dsimp only; omega) | decide), (by first | omega | (simp <;> omega) | (dsimp only; omega) | decide)⟩ (by rfl) (mk [false, false, false, false, false, false, false, false] rfl) (Foll.con1 (at_of 0 rfl) Foll.nil)
            ·have h81p : ¬ (a.n = 1) := by simpa using h81
             replace hR := bf hR h81
             refine sr 5 rfl ?_
             refine ip 1 4 [(51, pt b49 2)] (by kernel_rfl) ?_
             refine ix rfl (det_own_one (v := iv 28) ty3 rfl rfl 0 rfl rfl) ?_
             refine it rfl (tri_buildSl (c := cInt) (xs := ([28] : List Int)) slt168 rfl rfl rfl (by kernel_rfl)) fun b88 => ?_
             have : ([28] : List Int).length = 1 := rfl
             have hQ := bindVx hR; clear hR; obtain ⟨y14, hy14, hR⟩ := hQ
             refine it rfl (tri_callN (L2 := [bx b49 (cAtr (⟨32, 8, 28⟩ : Atr)) 257, bx b47 (cAtr (⟨16, 7, 27⟩ : Atr)) 257, bx b45 (cAtr (⟨8, 5, 25⟩ : Atr)) 257, bx b43 (cAtr (⟨4, 3, 23⟩ : Atr)) 257, bx b41 (cAtr (⟨2, 2, 22⟩ : Atr)) 257, bx b39 (cAtr (⟨1, 1, 22⟩ : Atr)) 257, bx b2 [.slice none 0 0] 217, bx b1 (cAct a) 26]) (sgr_row_c ([28] : List Int) (some ⟨b88, 0, none⟩) 1 (by first | omega | (simp <;> omega) | (dsimp only; omega) | decide) (by first | omega | (simp <;> omega) | (dsimp only; omega) | decide) y14 hy14) rfl rfl rfl rfl rfl (Foll.pick [0] rfl) (List.Perm.refl _) (fun ⟨⟨q89, k90⟩, hp91⟩ => [bx b49 (cAtr (⟨32, 8, 28⟩ : Atr)) 257, bx b47 (cAtr (⟨16, 7, 27⟩ : Atr)) 257, bx b45 (cAtr (⟨8, 5, 25⟩ : Atr)) 257, bx b43 (cAtr (⟨4, 3, 23⟩ : Atr)) 257, bx b41 (cAtr (⟨2, 2, 22⟩ : Atr)) 257, bx b39 (cAtr (⟨1, 1, 22⟩ : Atr)) 257, bx b2 [.slice none 0 0] 217, bx b1 (cAct a) 26]) (fun _ => rfl)) fun ⟨⟨q89, k90⟩, hp91⟩ => ?_
             obtain ⟨hc92, hl93⟩ := hp91
             refine it rfl (tri_store (us := [.slice q89 y14.length k90]) (cs' := [.slice q89 y14.length k90]) ty217 rfl rfl rfl 6 rfl rfl rfl rfl rfl rfl) fun _ => ?_
             refine ie ?_
             refine J_ret ?_
             subst hR
             exact ends_ret rfl ⟨hr, hD⟩ (by simp [hD]) (res1 rfl (resV_cell (us := [.slice q89 y14.length k90]) ty217 rfl 6 rfl rfl rfl)) ⟨(q89, k90), (by first | omega | (simp <;> omega) | (dsimp only; omega) | decide), (by first | omega | (simp <;> omega) | (dsimp only; omega) | decide)⟩ (by rfl) (mk [false, false, false, false, false, false, false, false] rfl) (Foll.con1 (at_of 0 rfl) Foll.nil)
          ·have h48p : ¬ ((bOp .and .i64 16 a.m) = 0) := by simpa using h48
           replace hR := bf hR h48
           refine sr 4 rfl ?_
           refine ip 1 3 [(63, pt b1 1)] (by kernel_rfl) ?_
           refine ix rfl (det_own_one (v := iv a.n) ty3 rfl rfl 6 rfl rfl) ?_
           refine ip 2 0 [(62, bv (decide (a.n = 1)))] (by kernel_rfl) ?_
           refine ie ?_
           refine J_if rfl (fun h94 => ?_) (fun h94 => ?_)
           ·have h94p : a.n = 1 := by simpa using h94
            replace hR := bt hR h94
            refine sr 5 rfl ?_
            refine ip 1 4 [(66, pt b47 1)] (by kernel_rfl) ?_
            refine ix rfl (det_own_one (v := iv 7) ty3 rfl rfl 0 rfl rfl) ?_
            refine it rfl (tri_buildSl (c := cInt) (xs := ([7] : List Int)) slt168 rfl rfl rfl (by kernel_rfl)) fun b95 => ?_
            have : ([7] : List Int).length = 1 := rfl
            have hQ := bindVx hR; clear hR; obtain ⟨y18, hy18, hR⟩ := hQ
            refine it rfl (tri_callN (L2 := [bx b47 (cAtr (⟨16, 7, 27⟩ : Atr)) 257, bx b45 (cAtr (⟨8, 5, 25⟩ : Atr)) 257, bx b43 (cAtr (⟨4, 3, 23⟩ : Atr)) 257, bx b41 (cAtr (⟨2, 2, 22⟩ : Atr)) 257, bx b39 (cAtr (⟨1, 1, 22⟩ : Atr)) 257, bx b2 [.slice none 0 0] 217, bx b1 (cAct a) 26]) (sgr_row_c ([7] : List Int) (some ⟨b95, 0, none⟩) 1 (by first | omega | (simp <;> omega) | (dsimp only; omega) | decide) (by first | omega | (simp <;> omega) | (dsimp only; omega) | decide) y18 hy18) rfl rfl rfl rfl rfl (Foll.pick [0] rfl) (List.Perm.refl _) (fun ⟨⟨q96, k97⟩, hp98⟩ => [bx b47 (cAtr (⟨16, 7, 27⟩ : Atr)) 257, bx b45 (cAtr (⟨8, 5, 25⟩ : Atr)) 257, bx b43 (cAtr (⟨4, 3, 23⟩ : Atr)) 257, bx b41 (cAtr (⟨2, 2, 22⟩ : Atr)) 257, bx b39 (cAtr (⟨1, 1, 22⟩ : Atr)) 257, bx b2 [.slice none 0 0] 217, bx b1 (cAct a) 26]) (fun _ => rfl)) fun ⟨⟨q96, k97⟩, hp98⟩ => ?_
            obtain ⟨hc99, hl100⟩ := hp98
            refine it rfl (tri_store (us := [.slice q96 y18.length k97]) (cs' := [.slice q96 y18.length k97]) ty217 rfl rfl rfl 5 rfl rfl rfl rfl rfl rfl) fun _ => ?_
            refine ie ?_
            refine J_ret ?_
            subst hR
            exact ends_ret rfl ⟨hr, hD⟩ (by simp [hD]) (res1 rfl (resV_cell (us := [.slice q96 y18.length k97]) ty217 rfl 5 rfl rfl rfl)) ⟨(q96, k97), (by first | omega | (simp <;> omega) | (dsimp only; omega) | decide), (by first | omega | (simp <;> omega) | (dsimp only; omega) | decide)⟩ (by rfl) (mk [false, false, false, false, false, false, false] rfl) (Foll.con1 (at_of 0 rfl) Foll.nil)
           ·have h94p : ¬ (a.n = 1) := by simpa using h94
            replace hR := bf hR h94
            refine sr 5 rfl ?_
            refine ip 1 4 [(51, pt b47 2)] (by kernel_rfl) ?_
            refine ix rfl (det_own_one (v := iv 27) ty3 rfl rfl 0 rfl rfl) ?_
            refine it rfl (tri_buildSl (c := cInt) (xs := ([27] : List Int)) slt168 rfl rfl rfl (by kernel_rfl)) fun b101 => ?_
            have : ([27] : List Int).length = 1 := rfl
            have hQ := bindVx hR; clear hR; obtain ⟨y10, hy10, hR⟩ := hQ
            refine it rfl (tri_callN (L2 := [bx b47 (cAtr (⟨16, 7, 27⟩ : Atr)) 257, bx b45 (cAtr (⟨8, 5, 25⟩ : Atr)) 257, bx b43 (cAtr (⟨4, 3, 23⟩ : Atr)) 257, bx b41 (cAtr (⟨2, 2, 22⟩ : Atr)) 257, bx b39 (cAtr (⟨1, 1, 22⟩ : Atr)) 257, bx b2 [.slice none 0 0] 217, bx b1 (cAct a) 26]) (sgr_row_c ([27] : List Int) (some ⟨b101, 0, none⟩) 1 (by first | omega | (simp <;> omega) | (dsimp only; omega) | decide) (by first | omega | (simp <;> omega) | (dsimp only; omega) | decide) y10 hy10) rfl rfl rfl rfl rfl (Foll.pick [0] rfl) (List.Perm.refl _) (fun ⟨⟨q102, k103⟩, hp104⟩ => [bx b47 (cAtr (⟨16, 7, 27⟩ : Atr)) 257, bx b45 (cAtr (⟨8, 5, 25⟩ : Atr)) 257, bx b43 (cAtr (⟨4, 3, 23⟩ : Atr)) 257, bx b41 (cAtr (⟨2, 2, 22⟩ : Atr)) 257, bx b39 (cAtr (⟨1, 1, 22⟩ : Atr)) 257, bx b2 [.slice none 0 0] 217, bx b1 (cAct a) 26]) (fun _ => rfl)) fun ⟨⟨q102, k103⟩, hp104⟩ => ?_
            obtain ⟨hc105, hl106⟩ := hp104
            refine it rfl (tri_store (us := [.slice q102 y10.length k103]) (cs' := [.slice q102 y10.length k103]) ty217 rfl rfl rfl 5 rfl rfl rfl rfl rfl rfl) fun _ => ?_
            refine ie ?_
            refine J_ret ?_
            subst hR
            exact ends_ret rfl ⟨hr, hD⟩ (by simp [hD]) (res1 rfl (resV_cell (us := [.slice q102 y10.length k103]) ty217 rfl 5 rfl rfl rfl)) ⟨(q102, k103), (by first | omega | (simp <;> omega) | (dsimp only; omega) | decide), (by first | omega | (simp <;> omega) | (dsimp only; omega) | decide)⟩ (by rfl) (mk [false, false, false, false, false, false, false] rfl) (Foll.con1 (at_of 0 rfl) Foll.nil)
         ·have h46p : ¬ ((bOp .and .i64 8 a.m) = 0) := by simpa using h46
          replace hR := bf hR h46
          refine sr 4 rfl ?_
          refine ip 1 3 [(63, pt b1 1)] (by kernel_rfl) ?_
          refine ix rfl (det_own_one (v := iv a.n) ty3 rfl rfl 5 rfl rfl) ?_
          refine ip 2 0 [(62, bv (decide (a.n = 1)))] (by kernel_rfl) ?_
          refine ie ?_
          refine J_if rfl (fun h107 => ?_) (fun h107 => ?_)
          ·have h107p : a.n = 1 := by simpa using h107
           replace hR := bt hR h107
           refine sr 5 rfl ?_
           refine ip 1 4 [(66, pt b45 1)] (by kernel_rfl) ?_
           refine ix rfl (det_own_one (v := iv 5) ty3 rfl rfl 0 rfl rfl) ?_
           refine it rfl (tri_buildSl (c := cInt) (xs := ([5] : List Int)) slt168 rfl rfl rfl (by kernel_rfl)) fun b108 => ?_
           have : ([5] : List Int).length = 1 := rfl
           have hQ := bindVx hR; clear hR; obtain ⟨y6, hy6, hR⟩ := hQ
           refine it rfl (tri_callN (L2 := [bx b45 (cAtr (⟨8, 5, 25⟩ : Atr)) 257, bx b43 (cAtr (⟨4, 3, 23⟩ : Atr)) 257, bx b41 (cAtr (⟨2, 2, 22⟩ : Atr)) 257, bx b39 (cAtr (⟨1, 1, 22⟩ : Atr)) 257, bx b2 [.slice none 0 0] 217, bx b1 (cAct a) 26]) (sgr_row_c ([5] : List Int) (some ⟨b108, 0, none⟩) 1 (by first | omega | (simp <;> omega) | (dsimp only; omega) | decide) (by first | omega | (simp <;> omega) | (dsimp only; omega) | decide) y6 hy6) rfl rfl rfl rfl rfl (Foll.pick [0] rfl) (List.Perm.refl _) (fun ⟨⟨q109, k110⟩, hp111⟩ => [bx b45 (cAtr (⟨8, 5, 25⟩ : Atr)) 257, bx b43 (cAtr (⟨4, 3, 23⟩ : Atr)) 257, bx b41 (cAtr (⟨2, 2, 22⟩ : Atr)) 257, bx b39 (cAtr (⟨1, 1, 22⟩ : Atr)) 257, bx b2 [.slice none 0 0] 217, bx b1 (cAct a) 26]) (fun _ => rfl)) fun ⟨⟨q109, k110⟩, hp111⟩ => ?_
           obtain ⟨hc112, hl113⟩ := hp111
           refine it rfl (tri_store (us := [.slice q109 y6.length k110]) (cs' := [.slice q109 y6.length k110]) ty217 rfl rfl rfl 4 rfl rfl rfl rfl rfl rfl) fun _ => ?_
           refine ie ?_
           refine J_ret ?_
           subst hR
           exact ends_ret rfl ⟨hr, hD⟩ (by simp [hD]) (res1 rfl (resV_cell (us := [.slice q109 y6.length k110]) ty217 rfl 4 rfl rfl rfl)) ⟨(q109, k110), (by first | omega | (simp <;> omega) | (dsimp only; omega) | decide), (by first | omega | (simp <;> omega) | (dsimp only; omega) | decide)⟩ (by rfl) (mk [false, false, false, false, false, false] rfl) (Foll.con1 (at_of 0 rfl) Foll.nil)
          ·have h107p : ¬ (a.n = 1) := by simpa using h107
           replace hR := bf hR h107
           refine sr 5 rfl ?_
           refine ip 1 4 [(51, pt b45 2)] (by kernel_rfl) ?_
           refine ix rfl (det_own_one (v := iv 25) ty3 rfl rfl 0 rfl rfl) ?_
           refine it rfl (tri_buildSl (c := cInt) (xs := ([25] : List Int)) slt168 rfl rfl rfl (by kernel_rfl)) fun b114 => ?_
           have : ([25] : List Int).length = 1 := rfl
           have hQ := bindVx hR; clear hR; obtain ⟨y21, hy21, hR⟩ := hQ
           refine it rfl (tri_callN (L2 := [bx b45 (cAtr (⟨8, 5, 25⟩ : Atr)) 257, bx b43 (cAtr (⟨4, 3, 23⟩ : Atr)) 257, bx b41 (cAtr (⟨2, 2, 22⟩ : Atr)) 257, bx b39 (cAtr (⟨1, 1, 22⟩ : Atr)) 257, bx b2 [.slice none 0 0] 217, bx b1 (cAct a) 26]) (sgr_row_c ([25] : List Int) (some ⟨b114, 0, none⟩) 1 (by first | omega | (simp <;> omega) | (dsimp only; omega) | decide) (by first | omega | (simp <;> omega) | (dsimp only; omega) | decide) y21 hy21) rfl rfl rfl rfl rfl (Foll.pick [0] rfl) (List.Perm.refl _) (fun ⟨⟨q115, k116⟩, hp117⟩ => [bx b45 (cAtr (⟨8, 5, 25⟩ : Atr)) 257, bx b43 (cAtr (⟨4, 3, 23⟩ : Atr)) 257, bx b41 (cAtr (⟨2, 2, 22⟩ : Atr)) 257, bx b39 (cAtr (⟨1, 1, 22⟩ : Atr)) 257, bx b2 [.slice none 0 0] 217, bx b1 (cAct a) 26]) (fun _ => rfl)) fun ⟨⟨q115, k116⟩, hp117⟩ => ?_
           obtain ⟨hc118, hl119⟩ := hp117
           refine it rfl (tri_store (us := [.slice q115 y21.length k116]) (cs' := [.slice q115 y21.length k116]) ty217 rfl rfl rfl 4 rfl rfl rfl rfl rfl rfl) fun _ => ?_
           refine ie ?_
           refine J_ret ?_
           subst hR
           exact ends_ret rfl ⟨hr, hD⟩ (by simp [hD]) (res1 rfl (resV_cell (us := [.slice q115 y21.length k116]) ty217 rfl 4 rfl rfl rfl)) ⟨(q115, k116), (by first | omega | (simp <;> omega) | (dsimp only; omega) | decide), (by first | omega | (simp <;> omega) | (dsimp only; omega) | decide)⟩ (by rfl) (mk [false, false, false, false, false, false] rfl) (Foll.con1 (at_of 0 rfl) Foll.nil)
        ·have h44p : ¬ ((bOp .and .i64 4 a.m) = 0) := by simpa using h44
         replace hR := bf hR h44
         refine sr 4 rfl ?_
         refine ip 1 3 [(63, pt b1 1)] (by kernel_rfl) ?_
         refine ix rfl (det_own_one (v := iv a.n) ty3 rfl rfl 4 rfl rfl) ?_
         refine ip 2 0 [(62, bv (decide (a.n = 1)))] (by kernel_rfl) ?_
         refine ie ?_
         refine J_if rfl (fun h120 => ?_) (fun h120 => ?_)
         ·have h120p : a.n = 1 := by simpa using h120
          replace hR := bt hR h120
          refine sr 5 rfl ?_
          refine ip 1 4 [(66, pt b43 1)] (by kernel_rfl) ?_
          refine ix rfl (det_own_one (v := iv 3) ty3 rfl rfl 0 rfl rfl) ?_
          refine it rfl (tri_buildSl (c := cInt) (xs := ([3] : List Int)) slt168 rfl rfl rfl (by kernel_rfl)) fun b121 => ?_
          have : ([3] : List Int).length = 1 := rfl
          have hQ := bindVx hR; clear hR; obtain ⟨y17, hy17, hR⟩ := hQ
          refine it rfl (tri_callN (L2 := [bx b43 (cAtr (⟨4, 3, 23⟩ : Atr)) 257, bx b41 (cAtr (⟨2, 2, 22⟩ : Atr)) 257, bx b39 (cAtr (⟨1, 1, 22⟩ : Atr)) 257, bx b2 [.slice none 0 0] 217, bx b1 (cAct a) 26]) (sgr_row_c ([3] : List Int) (some ⟨b121, 0, none⟩) 1 (by first | omega | (simp <;> omega) | (dsimp only; omega) | decide) (by first | omega | (simp <;> omega) | (dsimp only; omega) | decide) y17 hy17) rfl rfl rfl rfl rfl (Foll.pick [0] rfl) (List.Perm.refl _) (fun ⟨⟨q122, k123⟩, hp124⟩ => [bx b43 (cAtr (⟨4, 3, 23⟩ : Atr)) 257, bx b41 (cAtr (⟨2, 2, 22⟩ : Atr)) 257, bx b39 (cAtr (⟨1, 1, 22⟩ : Atr)) 257, bx b2 [.slice none 0 0] 217, bx b1 (cAct a) 26]) (fun _ => rfl)) fun ⟨⟨q122, k123⟩, hp124⟩ => ?_
          obtain ⟨hc125, hl126⟩ := hp124
          refine it rfl (tri_store (us := [.slice q122 y17.length k123]) (cs' := [.slice q122 y17.length k123]) ty217 rfl rfl rfl 3 rfl rfl rfl rfl rfl rfl) fun _ => ?_
          refine ie ?_
          refine J_ret ?_
          subst hR
          exact ends_ret rfl ⟨hr, hD⟩ (by simp [hD]) (res1 rfl (resV_cell (us := [.slice q122 y17.length k123]) ty217 rfl 3 rfl rfl rfl)) ⟨(q122, k123), (by first | omega | (simp <;> omega) | (dsimp only; omega) | decide), (by first | omega | (simp <;> omega) | (dsimp only; omega) | decide)⟩ (by rfl) (mk [false, false, false, false, false] rfl) (Foll.con1 (at_of 0 rfl) Foll.nil)
         ·have h120p : ¬ (a.n = 1) := by simpa using h120
          replace hR := bf hR h120
          refine sr 5 rfl ?_
          refine ip 1 4 [(51, pt b43 2)] (by kernel_rfl) ?_
          refine ix rfl (det_own_one (v := iv 23) ty3 rfl rfl 0 rfl rfl) ?_
          refine it rfl (tri_buildSl (c := cInt) (xs := ([23] : List Int)) slt168 rfl rfl rfl (by kernel_rfl)) fun b127 => ?_
          have : ([23] : List Int).length = 1 := rfl
          have hQ := bindVx hR; clear hR; obtain ⟨y12, hy12, hR⟩ := hQ
          refine it rfl (tri_callN (L2 := [bx b43 (cAtr (⟨4, 3, 23⟩ : Atr)) 257, bx b41 (cAtr (⟨2, 2, 22⟩ : Atr)) 257, bx b39 (cAtr (⟨1, 1, 22⟩ : Atr)) 257, bx b2 [.slice none 0 0] 217, bx b1 (cAct a) 26]) (sgr_row_c ([23] : List Int) (some ⟨b127, 0, none⟩) 1 (by first | omega | (simp <;> omega) | (dsimp only; omega) | decide) (by first | omega | (simp <;> omega) | (dsimp only; omega) | decide) y12 hy12) rfl rfl rfl rfl rfl (Foll.pick [0] rfl) (List.Perm.refl _) (fun ⟨⟨q128, k129⟩, hp130⟩ => [bx b43 (cAtr (⟨4, 3, 23⟩ : Atr)) 257, bx b41 (cAtr (⟨2, 2, 22⟩ : Atr)) 257, bx b39 (cAtr (⟨1, 1, 22⟩ : Atr)) 257, bx b2 [.slice none 0 0] 217, bx b1 (cAct a) 26]) (fun _ => rfl)) fun ⟨⟨q128, k129⟩, hp130⟩ => ?_
          obtain ⟨hc131, hl132⟩ := hp130
          refine it rfl (tri_store (us := [.slice q128 y12.length k129]) (cs' := [.slice q128 y12.length k129]) ty217 rfl rfl rfl 3 rfl rfl rfl rfl rfl rfl) fun _ => ?_
          refine ie ?_
          refine J_ret ?_
          subst hR
          exact ends_ret rfl ⟨hr, hD⟩ (by simp [hD]) (res1 rfl (resV_cell (us := [.slice q128 y12.length k129]) ty217 rfl 3 rfl rfl rfl)) ⟨(q128, k129), (by first | omega | (simp <;> omega) | (dsimp only; omega) | decide), (by first | omega | (simp <;> omega) | (dsimp only; omega) | decide)⟩ (by rfl) (mk [false, false, false, false, false] rfl) (Foll.con1 (at_of 0 rfl) Foll.nil)
       ·have h42p : ¬ ((bOp .and .i64 2 a.m) = 0) := by simpa using h42
        replace hR := bf hR h42
        refine sr 4 rfl ?_
        refine ip 1 3 [(63, pt b1 1)] (by kernel_rfl) ?_
        refine ix rfl (det_own_one (v := iv a.n) ty3 rfl rfl 3 rfl rfl) ?_
        refine ip 2 0 [(62, bv (decide (a.n = 1)))] (by kernel_rfl) ?_
        refine ie ?_
        refine J_if rfl (fun h133 => ?_) (fun h133 => ?_)
        ·have h133p : a.n = 1 := by simpa using h133
         replace hR := bt hR h133
         refine sr 5 rfl ?_
         refine ip 1 4 [(66, pt b41 1)] (by kernel_rfl) ?_
         refine ix rfl (det_own_one (v := iv 2) ty3 rfl rfl 0 rfl rfl) ?_
         refine it rfl (tri_buildSl (c := cInt) (xs := ([2] : List Int)) slt168 rfl rfl rfl (by kernel_rfl)) fun b134 => ?_
         have : ([2] : List Int).length = 1 := rfl
         have hQ := bindVx hR; clear hR; obtain ⟨y16, hy16, hR⟩ := hQ
         refine it rfl (tri_callN (L2 := [bx b41 (cAtr (⟨2, 2, 22⟩ : Atr)) 257, bx b39 (cAtr (⟨1, 1, 22⟩ : Atr)) 257, bx b2 [.slice none 0 0] 217, bx b1 (cAct a) 26]) (sgr_row_c ([2] : List Int) (some ⟨b134, 0, none⟩) 1 (by first | omega | (simp <;> omega) | (dsimp only; omega) | decide) (by first | omega | (simp <;> omega) | (dsimp only; omega) | decide) y16 hy16) rfl rfl rfl rfl rfl (Foll.pick [0] rfl) (List.Perm.refl _) (fun ⟨⟨q135, k136⟩, hp137⟩ => [bx b41 (cAtr (⟨2, 2, 22⟩ : Atr)) 257, bx b39 (cAtr (⟨1, 1, 22⟩ : Atr)) 257, bx b2 [.slice none 0 0] 217, bx b1 (cAct a) 26]) (fun _ => rfl)) fun ⟨⟨q135, k136⟩, hp137⟩ => ?_
         obtain ⟨hc138, hl139⟩ := hp137
         refine it rfl (tri_store (us := [.slice q135 y16.length k136]) (cs' := [.slice q135 y16.length k136]) ty217 rfl rfl rfl 2 rfl rfl rfl rfl rfl rfl) fun _ => ?_
         refine ie ?_
         refine J_ret ?_
         subst hR
         exact ends_ret rfl ⟨hr, hD⟩ (by simp [hD]) (res1 rfl (resV_cell (us := [.slice q135 y16.length k136]) ty217 rfl 2 rfl rfl rfl)) ⟨(q135, k136), (by first | omega | (simp <;> omega) | (dsimp only; omega) | decide), (by first | omega | (simp <;> omega) | (dsimp only; omega) | decide)⟩ (by rfl) (mk [false, false, false, false] rfl) (Foll.con1 (at_of 0 rfl) Foll.nil)
        ·have h133p : ¬ (a.n = 1) := by simpa using h133
         replace hR := bf hR h133
         refine sr 5 rfl ?_
         refine ip 1 4 [(51, pt b41 2)] (by kernel_rfl) ?_
         refine ix rfl (det_own_one (v := iv 22) ty3 rfl rfl 0 rfl rfl) ?_
         refine it rfl (tri_buildSl (c := cInt) (xs := ([22] : List Int)) slt168 rfl rfl rfl (by kernel_rfl)) fun b140 => ?_
         have : ([22] : List Int).length = 1 := rfl
         have hQ := bindVx hR; clear hR; obtain ⟨y13, hy13, hR⟩ := hQ
         refine it rfl (tri_callN (L2 := [bx b41 (cAtr (⟨2, 2, 22⟩ : Atr)) 257, bx b39 (cAtr (⟨1, 1, 22⟩ : Atr)) 257, bx b2 [.slice none 0 0] 217, bx b1 (cAct a) 26]) (sgr_row_c ([22] : List Int) (some ⟨b140, 0, none⟩) 1 (by first | omega | (simp <;> omega) | (dsimp only; omega) | decide) (by first | omega | (simp <;> omega) | (dsimp only; omega) | decide) y13 hy13) rfl rfl rfl rfl rfl (Foll.pick [0] rfl) (List.Perm.refl _) (fun ⟨⟨q141, k142⟩, hp143⟩ => [bx b41 (cAtr (⟨2, 2, 22⟩ : Atr)) 257, bx b39 (cAtr (⟨1, 1, 22⟩ : Atr)) 257, bx b2 [.slice none 0 0] 217, bx b1 (cAct a) 26]) (fun _ => rfl)) fun ⟨⟨q141, k142⟩, hp143⟩ => ?_
         obtain ⟨hc144, hl145⟩ := hp143
         refine it rfl (tri_store (us := [.slice q141 y13.length k142]) (cs' := [.slice q141 y13.length k142]) ty217 rfl rfl rfl 2 rfl rfl rfl rfl rfl rfl) fun _ => ?_
         refine ie ?_
         refine J_ret ?_
         subst hR
         exact ends_ret rfl ⟨hr, hD⟩ (by simp [hD]) (res1 rfl (resV_cell (us := [.slice q141 y13.length k142]) ty217 rfl 2 rfl rfl rfl)) ⟨(q141, k142), (by first | omega | (simp <;> omega) | (dsimp only; omega) | decide), (by first | omega | (simp <;> omega) | (dsimp only; omega) | decide)⟩ (by rfl) (mk [false, false, false, false] rfl) (Foll.con1 (at_of 0 rfl) Foll.nil)
      ·have h40p : ¬ ((bOp .and .i64 1 a.m) = 0) := by simpa using h40
       replace hR := bf hR h40
       refine sr 4 rfl ?_
       refine ip 1 3 [(63, pt b1 1)] (by kernel_rfl) ?_
       refine ix rfl (det_own_one (v := iv a.n) ty3 rfl rfl 2 rfl rfl) ?_
       refine ip 2 0 [(62, bv (decide (a.n = 1)))] (by kernel_rfl) ?_
       refine ie ?_
       refine J_if rfl (fun h146 => ?_) (fun h146 => ?_)
       ·have h146p : a.n = 1 := by simpa using h146
        replace hR := bt hR h146
        refine sr 5 rfl ?_
        refine ip 1 4 [(66, pt b39 1)] (by kernel_rfl) ?_
        refine ix rfl (det_own_one (v := iv 1) ty3 rfl rfl 0 rfl rfl) ?_
        refine it rfl (tri_buildSl (c := cInt) (xs := ([1] : List Int)) slt168 rfl rfl rfl (by kernel_rfl)) fun b147 => ?_
        have : ([1] : List Int).length = 1 := rfl
        have hQ := bindVx hR; clear hR; obtain ⟨y8, hy8, hR⟩ := hQ
        refine it rfl (tri_callN (L2 := [bx b39 (cAtr (⟨1, 1, 22⟩ : Atr)) 257, bx b2 [.slice none 0 0] 217, bx b1 (cAct a) 26]) (sgr_row_c ([1] : List Int) (some ⟨b147, 0, none⟩) 1 (by first | omega | (simp <;> omega) | (dsimp only; omega) | decide) (by first | omega | (simp <;> omega) | (dsimp only; omega) | decide) y8 hy8) rfl rfl rfl rfl rfl (Foll.pick [0] rfl) (List.Perm.refl _) (fun ⟨⟨q148, k149⟩, hp150⟩ => [bx b39 (cAtr (⟨1, 1, 22⟩ : Atr)) 257, bx b2 [.slice none 0 0] 217, bx b1 (cAct a) 26]) (fun _ => rfl)) fun ⟨⟨q148, k149⟩, hp150⟩ => ?_
        obtain ⟨hc151, hl152⟩ := hp150
        refine it rfl (tri_store (us := [.slice q148 y8.length k149]) (cs' := [.slice q148 y8.length k149]) ty217 rfl rfl rfl 1 rfl rfl rfl rfl rfl rfl) fun _ => ?_
        refine ie ?_
        refine J_ret ?_
        subst hR
        exact ends_ret rfl ⟨hr, hD⟩ (by simp [hD]) (res1 rfl (resV_cell (us := [.slice q148 y8.length k149]) ty217 rfl 1 rfl rfl rfl)) ⟨(q148, k149), (by first | omega | (simp <;> omega) | (dsimp only; omega) | decide), (by first | omega | (simp <;> omega) | (dsimp only; omega) | decide)⟩ (by rfl) (mk [false, false, false] rfl) (Foll.con1 (at_of 0 rfl) Foll.nil)
       ·have h146p : ¬ (a.n = 1) := by simpa using h146
        replace hR := bf hR h146
        refine sr 5 rfl ?_
        refine ip 1 4 [(51, pt b39 2)] (by kernel_rfl) ?_
        refine ix rfl (det_own_one (v := iv 22) ty3 rfl rfl 0 rfl rfl) ?_
        refine it rfl (tri_buildSl (c := cInt) (xs := ([22] : List Int)) slt168 rfl rfl rfl (by kernel_rfl)) fun b153 => ?_
        have : ([22] : List Int).length = 1 := rfl
        have hQ := bindVx hR; clear hR; obtain ⟨y11, hy11, hR⟩ := hQ
        refine it rfl (tri_callN (L2 := [bx b39 (cAtr (⟨1, 1, 22⟩ : Atr)) 257, bx b2 [.slice none 0 0] 217, bx b1 (cAct a) 26]) (sgr_row_c ([22] : List Int) (some ⟨b153, 0, none⟩) 1 (by first | omega | (simp <;> omega) | (dsimp only; omega) | decide) (by first | omega | (simp <;> omega) | (dsimp only; omega) | decide) y11 hy11) rfl rfl rfl rfl rfl (Foll.pick [0] rfl) (List.Perm.refl _) (fun ⟨⟨q154, k155⟩, hp156⟩ => [bx b39 (cAtr (⟨1, 1, 22⟩ : Atr)) 257, bx b2 [.slice none 0 0] 217, bx b1 (cAct a) 26]) (fun _ => rfl)) fun ⟨⟨q154, k155⟩, hp156⟩ => ?_
        obtain ⟨hc157, hl158⟩ := hp156
        refine it rfl (tri_store (us := [.slice q154 y11.length k155]) (cs' := [.slice q154 y11.length k155]) ty217 rfl rfl rfl 1 rfl rfl rfl rfl rfl rfl) fun _ => ?_
        refine ie ?_
        refine J_ret ?_
        subst hR
        exact ends_ret rfl ⟨hr, hD⟩ (by simp [hD]) (res1 rfl (resV_cell (us := [.slice q154 y11.length k155]) ty217 rfl 1 rfl rfl rfl)) ⟨(q154, k155), (by first | omega | (simp <;> omega) | (dsimp only; omega) | decide), (by first | omega | (simp <;> omega) | (dsimp only; omega) | decide)⟩ (by rfl) (mk [false, false, false] rfl) (Foll.con1 (at_of 0 rfl) Foll.nil)

def sgr_Params_l1 : List Act → List (List Int) → Nat → (List (List Int) × Int)
 | [], out, t26 => (out, 0)
 | hd_l1 :: tl_l1, out, t26 => (bindV (sgr_told hd_l1) fun (y2 : List Int) => sgr_Params_l1 tl_l1 (out ++ ([y2] : List (List Int))) (t26 + 1))
def sgr_Params_l0 (l : List Act) : List Act → Nat → (List (List Int) × Int)
 | [], t11 => (bif (decide ((16 : Int) < (l.length : Int))) then (([] : List (List Int)), 3) else sgr_Params_l1 l ([] : List (List Int)) 0)
 | hd_l0 :: tl_l0, t11 => (bif (!decide ((style_CheckPen hd_l0) = 0)) then (([] : List (List Int)), (style_CheckPen hd_l0)) else sgr_Params_l0 l tl_l0 (t11 + 1))
def sgr_Params (l : List Act) : List (List Int) × Int :=
 sgr_Params_l0 l l 0

theorem sgr_Params_c (l : List Act) (lq : Option Addr) (lk : Nat) (hll : l.length ≤ 9223372036854775807) (hcl : l.length ≤ lk) (R : List (List Int) × Int) (hR : sgr_Params l = R) : Con Tryz.prog 111 [.slice lq l.length lk] [] [sl cAct lq l, sl cAtr (some ⟨2, 0, none⟩) tab2] ({t : VR × List Slc // VOk 1 R.1.length t.1 ∧ RowsOk t.2 R.1}) (fun x => .tuple #[.slice (va x.1.1.q) R.1.length x.1.1.k, iv R.2]) (fun x => ((vo cSlc 217 x.1.1 x.1.2) ++ ([]))) (fun x => [rowsF cInt x.1.2 R.1]) := by
 refine con_of_J (n := 37) Tryz.func111 rfl (by kernel_rfl) rfl rfl [(0, .slice lq l.length lk)] ⟨rfl, trivial⟩ fun X hX hr hD => ?_
 replace hR := (sgr_Params.eq_1 ..).symm.trans hR
 refine sr 2 rfl ?_
 refine ip 2 0 [(2, .slice none 0 0)] (by kernel_rfl) ?_
 refine ie ?_
 refine J_seq ?_
 refine sr 3 rfl ?_
 refine ip 3 0 [(9, .slice lq l.length lk), (10, iv (l.length : Int)), (11, iv 0)] (by kernel_rfl) ?_
 refine ie ?_
 refine J_block ?_
 refine JL1 (fun (t11 : Nat) => t11 ≤ l.length ∧ sgr_Params_l0 l (l.drop t11) t11 = R) (fun (t11 : Nat) => [(0, .slice lq l.length lk), (2, .slice none 0 0), (9, .slice lq l.length lk), (10, iv (l.length : Int)), (11, iv (t11 : Int))]) (fun (t11 : Nat) => []) (fun (t11 : Nat) => [sl cAct lq l, sl cAtr (some ⟨2, 0, none⟩) tab2]) (fun (t11 : Nat) => l.length - t11) 0 ⟨(by omega), hR⟩ ⟨rfl, rfl, rfl, rfl, (by first | rfl | (simp only [List.length_set]; rfl) | (simp; done) | (simp; omega)), trivial⟩ (mk [] rfl) Foll.refl ?_
 rintro t11 ⟨hm1, hR⟩
 refine sr 1 rfl ?_
 refine ip 1 0 [(12, bv (decide ((t11 : Int) < (l.length : Int))))] (by kernel_rfl) ?_
 refine ie ?_
 refine J_seq ?_
 refine J_if rfl (fun h2 => ?_) (fun h2 => ?_)
 ·have h2p : (t11 : Int) < (l.length : Int) := by simpa using h2
  rw [dropc Act.zero (show t11 < l.length by omega)] at hR; replace hR := (sgr_Params_l0.eq_2 ..).symm.trans hR
  refine J_skip ?_
  refine nx ?_
  refine J_seq ?_
  refine J_block ?_
  refine sr 4 rfl ?_
  refine JI_base 0 rfl (by omega) fun a3 hq4 => ?_
  refine ix rfl (det_ixq slt27 rfl rfl hq4 rfl t11 rfl (by omega)) ?_
  refine ix rfl (det_ld_agg (us := cAct (l.getD t11 Act.zero)) ty26 rfl rfl (at_slq (c := cAct) (sz := 6) hq4 (fun _ => rfl) 0 rfl (gd Act.zero (by omega))) rfl) ?_
  refine it rfl (tri_alloc (cs := cAct Act.zero) zero26 rfl) fun b5 => ?_
  refine it rfl (tri_store (us := cAct (l.getD t11 Act.zero)) (cs' := cAct (l.getD t11 Act.zero)) ty26 rfl rfl rfl 0 rfl rfl rfl rfl rfl rfl) fun _ => ?_
  refine ie ?_
  refine sr 3 rfl ?_
  refine ix rfl (det_own_agg (us := cAct (l.getD t11 Act.zero)) ty26 rfl rfl 0 rfl rfl rfl) ?_
  refine ixc rfl (det_call (style_CheckPen_c (l.getD t11 Act.zero) _ rfl) rfl rfl rfl rfl rfl Foll.nil) ?_
  refine ip 1 0 [(6, iv (style_CheckPen (l.getD t11 Act.zero)))] (by kernel_rfl) ?_
  refine ie ?_
  refine sr 2 rfl ?_
  refine ip 2 0 [(18, bv (!decide ((style_CheckPen (l.getD t11 Act.zero)) = 0)))] (by kernel_rfl) ?_
  refine ie ?_
  refine J_if rfl (fun h6 => ?_) (fun h6 => ?_)
  ·have h6p : ¬ (style_CheckPen (l.getD t11 Act.zero)) = 0 := by simpa using h6
   replace hR := bt hR h6
   refine sr 3 rfl ?_
   refine ip 3 0 [(2, .slice none 0 0), (3, iv (style_CheckPen (l.getD t11 Act.zero)))] (by kernel_rfl) ?_
   refine ie ?_
   refine J_ret ?_
   subst hR
   exact ends_ret rfl ⟨hr, hD⟩ (by simp [hD]) (res2 rfl (resV_tmp rfl) (resV_tmp rfl)) ⟨(VR.nil, ([] : List Slc)), ⟨VOk.nil, RowsOk.none⟩⟩ (by rfl) (mc [[bx b5 (cAct (l.getD t11 Act.zero)) 26], vo cSlc 217 VR.nil ([] : List Slc)] [false, true] rfl (by first | rfl | (simp only [List.length_set] <;> rfl))) (Foll.con1 rows_none Foll.nil)
  ·have h6p : ¬ (¬ (style_CheckPen (l.getD t11 Act.zero)) = 0) := by simpa using h6
   replace hR := bf hR h6
   refine J_skip ?_
   refine nx ?_
   refine J_region 2 rfl ?_
   refine ix rfl (det_add64 rfl rfl rfl rfl (by omega)) ?_
   refine ip 1 0 [(11, iv ((t11 : Int) + 1))] (by kernel_rfl) ?_
   refine JI_end ?_
   exact againL1 (z1 := t11) (t11 + 1) ⟨(by omega), hR⟩ (by (try dsimp only); omega) ⟨rfl, rfl, rfl, rfl, (by first | rfl | (simp only [List.length_set]; rfl) | (simp; done) | (simp; omega)), trivial⟩ (mk [false] rfl) Foll.refl
 ·have h2p : ¬ ((t11 : Int) < (l.length : Int)) := by simpa using h2
  rw [dropn h2p] at hR; replace hR := (sgr_Params_l0.eq_1 ..).symm.trans hR
  refine J_exit ?_
  refine nx ?_
  refine J_seq ?_
  refine sr 3 rfl ?_
  refine ip 3 0 [(23, bv (decide ((16 : Int) < (l.length : Int))))] (by kernel_rfl) ?_
  refine ie ?_
  refine J_if rfl (fun h7 => ?_) (fun h7 => ?_)
  ·have h7p : (16 : Int) < (l.length : Int) := by simpa using h7
   replace hR := bt hR h7
   refine sr 2 rfl ?_
   refine ip 2 0 [(2, .slice none 0 0), (3, iv 3)] (by kernel_rfl) ?_
   refine ie ?_
   refine J_ret ?_
   subst hR
   exact ends_ret rfl ⟨hr, hD⟩ (by simp [hD]) (res2 rfl (resV_tmp rfl) (resV_tmp rfl)) ⟨(VR.nil, ([] : List Slc)), ⟨VOk.nil, RowsOk.none⟩⟩ (by rfl) (mc [vo cSlc 217 VR.nil ([] : List Slc)] [true] rfl (by first | rfl | (simp only [List.length_set] <;> rfl))) (Foll.con1 rows_none Foll.nil)
  ·have h7p : ¬ ((16 : Int) < (l.length : Int)) := by simpa using h7
   replace hR := bf hR h7
   refine J_skip ?_
   refine nx ?_
   refine J_seq ?_
   refine sr 3 rfl ?_
   refine ip 3 0 [(24, .slice lq l.length lk), (25, iv (l.length : Int)), (26, iv 0)] (by kernel_rfl) ?_
   refine ie ?_
   refine J_block ?_
   refine JL4 (fun (out : List (List Int)) (outr : VR) (outrs : List Slc) (t26 : Nat) => t26 ≤ l.length ∧ sgr_Params_l1 (l.drop t26) out t26 = R ∧ VOk 1 out.length outr ∧ RowsOk outrs out ∧ out.length ≤ t26 ∧ l.length ≤ 16) (fun (out : List (List Int)) (outr : VR) (outrs : List Slc) (t26 : Nat) => [(2, .slice (va outr.q) out.length outr.k), (24, .slice lq l.length lk), (25, iv (l.length : Int)), (26, iv (t26 : Int))]) (fun (out : List (List Int)) (outr : VR) (outrs : List Slc) (t26 : Nat) => ((vo cSlc 217 outr outrs) ++ ([]))) (fun (out : List (List Int)) (outr : VR) (outrs : List Slc) (t26 : Nat) => [sl cAct lq l, sl cAtr (some ⟨2, 0, none⟩) tab2, rowsF cInt outrs out]) (fun (out : List (List Int)) (outr : VR) (outrs : List Slc) (t26 : Nat) => l.length - t26) ([] : List (List Int)) VR.nil ([] : List Slc) 0 ⟨(by omega), hR, VOk.nil, RowsOk.none, (by constructor <;> first | omega | simp)⟩ ⟨(by first | rfl | (simp only [List.length_set]; rfl) | (simp; done) | (simp; omega)), rfl, rfl, (by first | rfl | (simp only [List.length_set]; rfl) | (simp; done) | (simp; omega)), trivial⟩ (mc [vo cSlc 217 VR.nil ([] : List Slc)] [true] rfl (by first | rfl | (simp only [List.length_set] <;> rfl))) (Foll.con1 (at_of 0 rfl) (Foll.con1 (at_of 1 rfl) (Foll.con1 rows_none Foll.nil))) ?_
   rintro out outr outrs t26 ⟨hm8, hR, hokoutr, hrowsoutrs, ho⟩
   have := VOk.le hokoutr
   have := hrowsoutrs.1
   refine sr 1 rfl ?_
   refine ip 1 0 [(27, bv (decide ((t26 : Int) < (l.length : Int))))] (by kernel_rfl) ?_
   refine ie ?_
   refine J_seq ?_
   refine J_if rfl (fun h9 => ?_) (fun h9 => ?_)
   ·have h9p : (t26 : Int) < (l.length : Int) := by simpa using h9
    rw [dropc Act.zero (show t26 < l.length by omega)] at hR; replace hR := (sgr_Params_l1.eq_2 ..).symm.trans hR
    refine J_skip ?_
    refine nx ?_
    refine J_seq ?_
    refine J_block ?_
    refine sr 4 rfl ?_
    refine JI_base 0 rfl (by omega) fun a10 hq11 => ?_
    refine ix rfl (det_ixq slt27 rfl rfl hq11 rfl t26 rfl (by omega)) ?_
    refine ix rfl (det_ld_agg (us := cAct (l.getD t26 Act.zero)) ty26 rfl rfl (at_slq (c := cAct) (sz := 6) hq11 (fun _ => rfl) 0 rfl (gd Act.zero (by omega))) rfl) ?_
    refine it rfl (tri_alloc (cs := cAct Act.zero) zero26 rfl) fun b12 => ?_
    refine it rfl (tri_store (us := cAct (l.getD t26 Act.zero)) (cs' := cAct (l.getD t26 Act.zero)) ty26 rfl rfl rfl 0 rfl rfl rfl rfl rfl rfl) fun _ => ?_
    refine ie ?_
    refine J_region 6 rfl ?_
    refine ip 1 5 [(30, .slice (va outr.q) out.length outr.k)] (by kernel_rfl) ?_
    refine ix rfl (det_own_agg (us := cAct (l.getD t26 Act.zero)) ty26 rfl rfl 0 rfl rfl rfl) ?_
    have hQ := bindVx hR; clear hR; obtain ⟨y2, hy2, hR⟩ := hQ
    refine it rfl (tri_callN (L2 := (bx b12 (cAct (l.getD t26 Act.zero)) 26 :: (vo cSlc 217 outr outrs) ++ ([]))) (sgr_told_c (l.getD t26 Act.zero) y2 hy2) rfl rfl rfl rfl rfl (Foll.pick [1] rfl) (List.Perm.refl _) (fun ⟨⟨q13, k14⟩, hp15⟩ => (bx b12 (cAct (l.getD t26 Act.zero)) 26 :: (vo cSlc 217 outr outrs) ++ ([]))) (fun _ => by first | rfl | simp only [List.append_nil, List.cons_append, List.nil_append, List.append_assoc])) fun ⟨⟨q13, k14⟩, hp15⟩ => ?_
    obtain ⟨hc16, hl17⟩ := hp15
    refine it rfl (tri_buildSl (c := cSlc) (xs := ([⟨q13, y2.length, k14⟩] : List Slc)) slt163 rfl rfl rfl (by kernel_rfl)) fun b18 => ?_
    have hrows19 : RowsOk ([⟨q13, y2.length, k14⟩] : List Slc) ([y2] : List (List Int)) := (RowsOk.cons ⟨rfl, (by first | omega | (simp <;> omega) | (dsimp only; omega) | decide), (by first | omega | (simp <;> omega) | (dsimp only; omega) | decide)⟩ RowsOk.none)
    refine JI_fact1 (q := rowsF cInt ([⟨q13, y2.length, k14⟩] : List Slc) ([y2] : List (List Int))) (rows_cons (at_of 1 rfl) rows_none) ?_
    have : ([⟨q13, y2.length, k14⟩] : List Slc).length = 1 := rfl
    have hw22 : RowsOk (outrs ++ ([⟨q13, y2.length, k14⟩] : List Slc)) (out ++ ([y2] : List (List Int))) := RowsOk.append hrowsoutrs hrows19
    refine it rfl (tri_app_rows (r := outr) (rs := outrs) (xss := out) (pre := [bx b12 (cAct (l.getD t26 Act.zero)) 26]) (post := []) apt163 rfl rfl rfl rfl rfl rfl rfl rfl rfl (at_of 1 rfl) (at_of 5 rfl) (at_of 0 rfl) hrowsoutrs hrows19 hokoutr (by first | omega | (simp <;> omega)) (by first | omega | (simp <;> omega))) fun ⟨r20, hr21⟩ => ?_
    have := VOk.le hr21
    have := VOk.cap hr21
    refine ip 1 0 [(2, .slice (va r20.q) ((out ++ ([y2] : List (List Int))).length) r20.k)] (by kernel_rfl) ?_
    refine JI_end ?_
    refine nx ?_
    refine J_region 2 rfl ?_
    refine ix rfl (det_add64 rfl rfl rfl rfl (by omega)) ?_
    refine ip 1 0 [(26, iv ((t26 : Int) + 1))] (by kernel_rfl) ?_
    refine JI_end ?_
    exact againL4 (z1 := out) (z2 := outr) (z3 := outrs) (z4 := t26) (out ++ ([y2] : List (List Int))) r20 (outrs ++ ([⟨q13, y2.length, k14⟩] : List Slc)) (t26 + 1) ⟨(by omega), hR, hr21, hw22, (by first | omega | (simp <;> omega))⟩ (by (try dsimp only); omega) ⟨(by first | rfl | (simp only [List.length_set]; rfl) | (simp; done) | (simp; omega)), rfl, rfl, (by first | rfl | (simp only [List.length_set]; rfl) | (simp; done) | (simp; omega)), trivial⟩ (mc [[bx b12 (cAct (l.getD t26 Act.zero)) 26], vo cSlc 217 r20 (outrs ++ ([⟨q13, y2.length, k14⟩] : List Slc))] [false, true] rfl (by first | rfl | (simp only [List.length_set] <;> rfl))) (Foll.pick [4, 5, 0] rfl)
   ·have h9p : ¬ ((t26 : Int) < (l.length : Int)) := by simpa using h9
    rw [dropn h9p] at hR; replace hR := (sgr_Params_l1.eq_1 ..).symm.trans hR
    refine J_exit ?_
    refine nx ?_
    refine sr 3 rfl ?_
    refine ip 3 0 [(2, .slice (va outr.q) out.length outr.k), (3, iv 0)] (by kernel_rfl) ?_
    refine ie ?_
    refine J_ret ?_
    subst hR
    exact ends_ret rfl ⟨hr, hD⟩ (by simp [hD]) (res2 rfl (resV_tmp rfl) (resV_tmp rfl)) ⟨(outr, outrs), ⟨hokoutr, hrowsoutrs⟩⟩ (by rfl) (mc [vo cSlc 217 outr outrs] [true] rfl (by first | rfl | (simp only [List.length_set] <;> rfl))) (Foll.con1 (at_of 2 rfl) Foll.nil)

end Go.Proofs.YtinkdfnpmoljfaaGreatDoor

