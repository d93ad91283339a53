import Derived.Test.YtinkdfnpmoljfaaGreatDoorD2
import Derived.Test.YtinkdfnpmoljfaaGreatDoorFenX
import Derived.Test.YtinkdfnpmoljfaaGreatDoorProg
import Derived.Test.YtinkdfnpmoljfaaGreatDoorT4a
import Derived.Test.YtinkdfnpmoljfaaGreatDoorT4b
import Derived.Test.YtinkdfnpmoljfaaGreatDoorT5
import Derived.Test.YtinkdfnpmoljfaaGreatDoorT6
set_option linter.unusedVariables false
set_option linter.unusedSimpArgs false
set_option linter.unnecessarySimpa false
set_option maxRecDepth 100000
namespace Go.Proofs.YtinkdfnpmoljfaaGreatDoor
open Go Go.Fen
theorem eqt51 : EqT Tryz.prog 51 cPlc := EqT.of 20 rfl (by kernel_rfl) (by kernel_rfl) (fun _ _ => by kernel_rfl) cPlc.inj
theorem ty4 : Ty Tryz.prog 4 1 false := ⟨by kernel_rfl⟩
theorem ty51 : Ty Tryz.prog 51 2 true := ⟨by kernel_rfl⟩
def law28_of_l0 : List UInt8 → Nat → List (List Cel) → (Int × List (List Cel) × Int × Int × Bool × Int × List UInt8)
 | [], t8, fR => (2, fR, 0, 0, false, 0, ([] : List UInt8))
 | hd_l0 :: tl_l0, t8, fR => law28_of_l0 tl_l0 (t8 + 1) (fR ++ ([([{ Cel.zero with base := (hd_l0.toNat : Int) }, { Cel.zero with base := 32 }] : List Cel)] : List (List Cel)))
def law28_of (s : List UInt8) : Int × List (List Cel) × Int × Int × Bool × Int × List UInt8 :=
 law28_of_l0 s 0 ([] : List (List Cel))

theorem law28_of_l0_title : ∀ (cs : List UInt8) (t : Nat) (l : List (List Cel)), (law28_of_l0 cs t l).2.2.2.2.2.2.length = 0
 | [], t, l => rfl
 | c :: cs, t, l => by simp only [law28_of_l0]; exact law28_of_l0_title cs _ _
theorem law28_of_title (s : List UInt8) : (law28_of s).2.2.2.2.2.2.length = 0 := law28_of_l0_title _ _ _

theorem law28_of_c (s : List UInt8) (hs : s.length ≤ 1000) (R : Int × List (List Cel) × Int × Int × Bool × Int × List UInt8) (hR : law28_of s = R) : Con Tryz.prog 65 [sv s] [] [] ({t : Option Addr × List Slc × Nat // RowsOk t.2.1 R.2.1 ∧ R.2.1.length ≤ t.2.2 ∧ R.2.1.length ≤ 9223372036854775807}) (fun x => ag [iv R.1, .slice x.1.1 R.2.1.length x.1.2.2, iv R.2.2.1, iv R.2.2.2.1, bv R.2.2.2.2.1, iv R.2.2.2.2.2.1, sv R.2.2.2.2.2.2]) (fun x => []) (fun x => [sl cSlc x.1.1 x.1.2.1, rowsF cCel x.1.2.1 R.2.1]) := by
 refine con_of_J (n := 25) Tryz.func65 rfl (by kernel_rfl) rfl rfl [(0, sv s)] ⟨rfl, trivial⟩ fun X hX hr hD => ?_
 replace hR := (law28_of.eq_1 ..).symm.trans hR
 refine sr 1 rfl ?_
 refine it rfl (tri_alloc (cs := [iv 0, .slice none 0 0, iv 0, iv 0, bv false, iv 0, sv ([] : List UInt8)]) zero53 rfl) fun b1 => ?_
 refine ie ?_
 refine sr 3 rfl ?_
 refine ix rfl (det_build (cs := [iv 2, .slice none 0 0, iv 0, iv 0, bv false, iv 0, sv ([] : List UInt8)]) rfl rfl (by kernel_rfl)) ?_
 refine it rfl (tri_alloc (cs := [iv 0, .slice none 0 0, iv 0, iv 0, bv false, iv 0, sv ([] : List UInt8)]) zero53 rfl) fun b2 => ?_
 refine it rfl (tri_store (us := [iv 2, .slice none 0 0, iv 0, iv 0, bv false, iv 0, sv ([] : List UInt8)]) (cs' := [iv 2, .slice none 0 0, iv 0, iv 0, bv false, iv 0, sv ([] : List UInt8)]) ty53 rfl rfl rfl 0 rfl rfl rfl rfl rfl rfl) fun _ => ?_
 refine ie ?_
 refine J_seq ?_
 refine sr 3 rfl ?_
 refine ip 3 0 [(7, iv (s.length : Int)), (8, iv 0)] (by kernel_rfl) ?_
 refine ie ?_
 refine J_block ?_
 refine JQ_perm (permC [vo cSlc 67 VR.nil ([] : List Slc), [bx b2 [iv 2, .slice none 0 0, iv 0, iv 0, bv false, iv 0, sv ([] : List UInt8)] 53], [bx b1 [iv 0, .slice none 0 0, iv 0, iv 0, bv false, iv 0, sv ([] : List UInt8)] 53]] [1, 2, 0] 3 rfl (by decide) rfl [[bx b2 [iv 2, .slice none 0 0, iv 0, iv 0, bv false, iv 0, sv ([] : List UInt8)] 53], [bx b1 [iv 0, .slice none 0 0, iv 0, iv 0, bv false, iv 0, sv ([] : List UInt8)] 53], vo cSlc 67 VR.nil ([] : List Slc)] rfl (by first | rfl | simp)) ?_
 refine JL4 (fun (t8 : Nat) (fR : List (List Cel)) (fRowsr : VR) (fZ : List Slc) => t8 ≤ s.length ∧ law28_of_l0 (s.drop t8) t8 fR = R ∧ VOk 1 fR.length fRowsr ∧ RowsOk fZ fR ∧ fR.length = t8) (fun (t8 : Nat) (fR : List (List Cel)) (fRowsr : VR) (fZ : List Slc) => [(0, sv s), (2, pt b1 0), (3, pt b2 0), (7, iv (s.length : Int)), (8, iv (t8 : Int))]) (fun (t8 : Nat) (fR : List (List Cel)) (fRowsr : VR) (fZ : List Slc) => (bx b2 [iv 2, .slice (va fRowsr.q) fR.length fRowsr.k, iv 0, iv 0, bv false, iv 0, sv ([] : List UInt8)] 53 :: bx b1 [iv 0, .slice none 0 0, iv 0, iv 0, bv false, iv 0, sv ([] : List UInt8)] 53 :: (vo cSlc 67 fRowsr fZ) ++ ([]))) (fun (t8 : Nat) (fR : List (List Cel)) (fRowsr : VR) (fZ : List Slc) => [rowsF cCel fZ fR]) (fun (t8 : Nat) (fR : List (List Cel)) (fRowsr : VR) (fZ : List Slc) => s.length - t8) 0 ([] : List (List Cel)) VR.nil ([] : List Slc) ⟨(by omega), hR, VOk.nil, RowsOk.none, (by rfl)⟩ ⟨rfl, rfl, rfl, rfl, (by first | rfl | (simp only [List.length_set]; rfl) | (simp; done) | (simp; omega)), trivial⟩ (mc [[bx b2 [iv 2, .slice none 0 0, iv 0, iv 0, bv false, iv 0, sv ([] : List UInt8)] 53], [bx b1 [iv 0, .slice none 0 0, iv 0, iv 0, bv false, iv 0, sv ([] : List UInt8)] 53], vo cSlc 67 VR.nil ([] : List Slc)] [true, true, true] rfl (by first | rfl | (simp only [List.length_set] <;> rfl))) (Foll.con1 rows_none Foll.nil) ?_
 rintro t8 fR fRowsr fZ ⟨hm3, hR, hokfRowsr, hrowsfRowsrs, hg2⟩
 have := VOk.le hokfRowsr
 have := hrowsfRowsrs.1
 refine sr 1 rfl ?_
 refine ip 1 0 [(9, bv (decide ((t8 : Int) < (s.length : Int))))] (by kernel_rfl) ?_
 refine ie ?_
 refine J_seq ?_
 refine J_if rfl (fun h4 => ?_) (fun h4 => ?_)
 ·have h4p : (t8 : Int) < (s.length : Int) := by simpa using h4
  rw [dropc 0 (show t8 < s.length by omega)] at hR; replace hR := (law28_of_l0.eq_2 ..).symm.trans hR
  refine J_skip ?_
  refine nx ?_
  refine J_seq ?_
  refine J_block ?_
  refine sr 2 rfl ?_
  refine ip 2 0 [(4, iv (t8 : Int))] (by kernel_rfl) ?_
  refine ie ?_
  refine sh' 13 [(12, [bx b2 [iv 2, .slice (va fRowsr.q) fR.length fRowsr.k, iv 0, iv 0, bv false, iv 0, sv ([] : List UInt8)] 53]), (13, [bx b1 [iv 0, .slice none 0 0, iv 0, iv 0, bv false, iv 0, sv ([] : List UInt8)] 53]), (10, vo cSlc 67 fRowsr fZ)] [rowsF cCel fZ fR] (bx b2 [iv 2, .slice (va fRowsr.q) fR.length fRowsr.k, iv 0, iv 0, bv false, iv 0, sv ([] : List UInt8)] 53 :: bx b1 [iv 0, .slice none 0 0, iv 0, iv 0, bv false, iv 0, sv ([] : List UInt8)] 53 :: (vo cSlc 67 fRowsr fZ) ++ ([])) #[false, false, false, false, false, false, false, false, false, false, false, false, false] (by kernel_rfl) rfl (by kernel_rfl) (by kernel_rfl) (by kernel_rfl) (mc [[bx b2 [iv 2, .slice (va fRowsr.q) fR.length fRowsr.k, iv 0, iv 0, bv false, iv 0, sv ([] : List UInt8)] 53], [bx b1 [iv 0, .slice none 0 0, iv 0, iv 0, bv false, iv 0, sv ([] : List UInt8)] 53], vo cSlc 67 fRowsr fZ] [true, true, true] rfl (by first | rfl | (simp only [List.length_set] <;> rfl))) Foll.refl ?_
  refine hpur [0, 2, 3] 10 #[true, false, true, true, false, false, false, false, false, false, false, false, false] [(11, pt b2 1), (13, sv s), (14, iv (t8 : Int))] (by kernel_rfl) ?_
  refine htak 1 (bx b2 [iv 2, .slice (va fRowsr.q) fR.length fRowsr.k, iv 0, iv 0, bv false, iv 0, sv ([] : List UInt8)] 53 :: bx b1 [iv 0, .slice none 0 0, iv 0, iv 0, bv false, iv 0, sv ([] : List UInt8)] 53 :: (vo cSlc 67 fRowsr fZ) ++ ([])) #[true, true, true, true, false, false, false, false, false, false, false, false, false] rfl rfl rfl (by kernel_rfl) (by kernel_rfl) (by kernel_rfl) (det_own_one (v := .slice (va fRowsr.q) fR.length fRowsr.k) ty49 rfl rfl 0 rfl rfl) ?_
  refine htak 4 [bx b2 [iv 2, .slice (va fRowsr.q) fR.length fRowsr.k, iv 0, iv 0, bv false, iv 0, sv ([] : List UInt8)] 53, bx b1 [iv 0, .slice none 0 0, iv 0, iv 0, bv false, iv 0, sv ([] : List UInt8)] 53] #[true, true, true, true, true, false, false, false, false, false, false, false, false] rfl rfl rfl (by kernel_rfl) (by kernel_rfl) (by kernel_rfl) (det_stix (T := 9) Tryz.underlying9 rfl rfl rfl t8 rfl (by omega)) ?_
  refine htak 5 [bx b2 [iv 2, .slice (va fRowsr.q) fR.length fRowsr.k, iv 0, iv 0, bv false, iv 0, sv ([] : List UInt8)] 53, bx b1 [iv 0, .slice none 0 0, iv 0, iv 0, bv false, iv 0, sv ([] : List UInt8)] 53] #[true, true, true, true, true, true, false, false, false, false, false, false, false] rfl rfl rfl (by kernel_rfl) (by kernel_rfl) (by kernel_rfl) (det_toInt (c := ((s.getD t8 0).toNat : Int)) Tryz.underlying3 (by kernel_rfl) rfl rfl (wrap_u8_i64 (s.getD t8 0))) ?_
  refine htak 6 [bx b2 [iv 2, .slice (va fRowsr.q) fR.length fRowsr.k, iv 0, iv 0, bv false, iv 0, sv ([] : List UInt8)] 53, bx b1 [iv 0, .slice none 0 0, iv 0, iv 0, bv false, iv 0, sv ([] : List UInt8)] 53] #[true, true, true, true, true, true, true, false, false, false, false, false, false] rfl rfl rfl (by kernel_rfl) (by kernel_rfl) (by kernel_rfl) (det_build (cs := cCel ({ Cel.zero with base := ((s.getD t8 0).toNat : Int) })) rfl rfl (by kernel_rfl)) ?_
  refine htak 7 [bx b2 [iv 2, .slice (va fRowsr.q) fR.length fRowsr.k, iv 0, iv 0, bv false, iv 0, sv ([] : List UInt8)] 53, bx b1 [iv 0, .slice none 0 0, iv 0, iv 0, bv false, iv 0, sv ([] : List UInt8)] 53] #[true, true, true, true, true, true, true, true, false, false, false, false, false] rfl rfl rfl (by kernel_rfl) (by kernel_rfl) (by kernel_rfl) (det_build (cs := cCel ({ Cel.zero with base := 32 })) rfl rfl (by kernel_rfl)) ?_
  refine hone 8 (bx b2 [iv 2, .slice (va fRowsr.q) fR.length fRowsr.k, iv 0, iv 0, bv false, iv 0, sv ([] : List UInt8)] 53 :: bx b1 [iv 0, .slice none 0 0, iv 0, iv 0, bv false, iv 0, sv ([] : List UInt8)] 53 :: (vo cSlc 67 fRowsr fZ) ++ ([])) #[true, true, true, true, true, true, true, true, true, false, false, false, false] rfl rfl rfl (by kernel_rfl) (by kernel_rfl) (by kernel_rfl) (tri_buildSl (c := cCel) (xs := ([{ Cel.zero with base := ((s.getD t8 0).toNat : Int) }, { Cel.zero with base := 32 }] : List Cel)) slt67 rfl rfl rfl (by kernel_rfl)) (fun b5 => (mc [[bx b2 [iv 2, .slice (va fRowsr.q) fR.length fRowsr.k, iv 0, iv 0, bv false, iv 0, sv ([] : List UInt8)] 53], [bx b1 [iv 0, .slice none 0 0, iv 0, iv 0, bv false, iv 0, sv ([] : List UInt8)] 53], vo cSlc 67 fRowsr fZ] [true, true, true] rfl (by first | rfl | (simp only [List.length_set] <;> rfl)))) (fun b5 => (Foll.pick [1] rfl)) fun b5 => ?_
  have : ([{ Cel.zero with base := ((s.getD t8 0).toNat : Int) }, { Cel.zero with base := 32 }] : List Cel).length = 2 := rfl
  refine hone 9 (bx b2 [iv 2, .slice (va fRowsr.q) fR.length fRowsr.k, iv 0, iv 0, bv false, iv 0, sv ([] : List UInt8)] 53 :: bx b1 [iv 0, .slice none 0 0, iv 0, iv 0, bv false, iv 0, sv ([] : List UInt8)] 53 :: (vo cSlc 67 fRowsr fZ) ++ ([])) #[true, true, true, true, true, true, true, true, true, true, false, false, false] rfl rfl rfl (by kernel_rfl) (by kernel_rfl) (by kernel_rfl) (tri_buildSl (c := cSlc) (xs := ([⟨some ⟨b5, 0, none⟩, 2, 2⟩] : List Slc)) slt49 rfl rfl rfl (by kernel_rfl)) (fun b6 => (mc [[bx b2 [iv 2, .slice (va fRowsr.q) fR.length fRowsr.k, iv 0, iv 0, bv false, iv 0, sv ([] : List UInt8)] 53], [bx b1 [iv 0, .slice none 0 0, iv 0, iv 0, bv false, iv 0, sv ([] : List UInt8)] 53], vo cSlc 67 fRowsr fZ] [true, true, true] rfl (by first | rfl | (simp only [List.length_set] <;> rfl)))) (fun b6 => (Foll.pick [2] rfl)) fun b6 => ?_
  have hrows7 : RowsOk ([⟨some ⟨b5, 0, none⟩, 2, 2⟩] : List Slc) ([([{ Cel.zero with base := ((s.getD t8 0).toNat : Int) }, { Cel.zero with base := 32 }] : List Cel)] : List (List Cel)) := (RowsOk.cons ⟨rfl, (by first | omega | (simp <;> omega) | (dsimp only; omega) | decide), (by first | omega | (simp <;> omega) | (dsimp only; omega) | decide)⟩ RowsOk.none)
  refine JH_fact1 (q := rowsF cCel ([⟨some ⟨b5, 0, none⟩, 2, 2⟩] : List Slc) ([([{ Cel.zero with base := ((s.getD t8 0).toNat : Int) }, { Cel.zero with base := 32 }] : List Cel)] : List (List Cel))) (rows_cons (at_of 1 rfl) rows_none) ?_
  have : ([⟨some ⟨b5, 0, none⟩, 2, 2⟩] : List Slc).length = 1 := rfl
  have hw10 : RowsOk (fZ ++ ([⟨some ⟨b5, 0, none⟩, 2, 2⟩] : List Slc)) (fR ++ ([([{ Cel.zero with base := ((s.getD t8 0).toNat : Int) }, { Cel.zero with base := 32 }] : List Cel)] : List (List Cel))) := RowsOk.append hrowsfRowsrs hrows7
  refine hone 10 [bx b2 [iv 2, .slice (va fRowsr.q) fR.length fRowsr.k, iv 0, iv 0, bv false, iv 0, sv ([] : List UInt8)] 53, bx b1 [iv 0, .slice none 0 0, iv 0, iv 0, bv false, iv 0, sv ([] : List UInt8)] 53] #[true, true, true, true, true, true, true, true, true, true, true, false, false] rfl rfl rfl (by kernel_rfl) (by kernel_rfl) (by kernel_rfl) (tri_app_rows (r := fRowsr) (rs := fZ) (xss := fR) (pre := [bx b2 [iv 2, .slice (va fRowsr.q) fR.length fRowsr.k, iv 0, iv 0, bv false, iv 0, sv ([] : List UInt8)] 53, bx b1 [iv 0, .slice none 0 0, iv 0, iv 0, bv false, iv 0, sv ([] : List UInt8)] 53]) (post := []) apt49 rfl rfl rfl rfl rfl rfl rfl rfl rfl (at_of 1 rfl) (at_of 3 rfl) (at_of 0 rfl) hrowsfRowsrs hrows7 hokfRowsr (by first | omega | (simp <;> omega)) (by first | omega | (simp <;> omega))) (fun ⟨r8, hr9⟩ => (mc [[bx b2 [iv 2, .slice (va fRowsr.q) fR.length fRowsr.k, iv 0, iv 0, bv false, iv 0, sv ([] : List UInt8)] 53], [bx b1 [iv 0, .slice none 0 0, iv 0, iv 0, bv false, iv 0, sv ([] : List UInt8)] 53], vo cSlc 67 r8 (fZ ++ ([⟨some ⟨b5, 0, none⟩, 2, 2⟩] : List Slc))] [true, true, false] rfl (by first | rfl | (simp only [List.length_set] <;> rfl)))) (fun ⟨r8, hr9⟩ => (Foll.pick [4] rfl)) fun ⟨r8, hr9⟩ => ?_
  have := VOk.le hr9
  have := VOk.cap hr9
  refine hpur [11] 1 #[true, true, true, true, true, true, true, true, true, true, true, true, false] [(22, pt b2 1)] (by kernel_rfl) ?_
  refine hone 12 [bx b1 [iv 0, .slice none 0 0, iv 0, iv 0, bv false, iv 0, sv ([] : List UInt8)] 53] #[true, true, true, true, true, true, true, true, true, true, true, true, true] rfl rfl rfl (by kernel_rfl) (by kernel_rfl) (by kernel_rfl) (tri_store (us := [.slice (va r8.q) ((fR ++ ([([{ Cel.zero with base := ((s.getD t8 0).toNat : Int) }, { Cel.zero with base := 32 }] : List Cel)] : List (List Cel))).length) r8.k]) (cs' := [iv 2, .slice (va r8.q) ((fR ++ ([([{ Cel.zero with base := ((s.getD t8 0).toNat : Int) }, { Cel.zero with base := 32 }] : List Cel)] : List (List Cel))).length) r8.k, iv 0, iv 0, bv false, iv 0, sv ([] : List UInt8)]) ty49 rfl rfl rfl 0 rfl rfl rfl rfl rfl rfl) (fun _ => (mc [[bx b2 [iv 2, .slice (va r8.q) ((fR ++ ([([{ Cel.zero with base := ((s.getD t8 0).toNat : Int) }, { Cel.zero with base := 32 }] : List Cel)] : List (List Cel))).length) r8.k, iv 0, iv 0, bv false, iv 0, sv ([] : List UInt8)] 53], [bx b1 [iv 0, .slice none 0 0, iv 0, iv 0, bv false, iv 0, sv ([] : List UInt8)] 53], vo cSlc 67 r8 (fZ ++ ([⟨some ⟨b5, 0, none⟩, 2, 2⟩] : List Slc))] [false, true, false] rfl (by first | rfl | (simp only [List.length_set] <;> rfl)))) (fun _ => (Foll.pick [4] rfl)) fun _ => ?_
  refine JH_done (by kernel_rfl) ?_
  refine nx ?_
  refine J_region 2 rfl ?_
  refine ix rfl (det_add64 rfl rfl rfl rfl (by omega)) ?_
  refine ip 1 0 [(8, iv ((t8 : Int) + 1))] (by kernel_rfl) ?_
  refine JI_end ?_
  exact againL4 (z1 := t8) (z2 := fR) (z3 := fRowsr) (z4 := fZ) (t8 + 1) (fR ++ ([([{ Cel.zero with base := ((s.getD t8 0).toNat : Int) }, { Cel.zero with base := 32 }] : List Cel)] : List (List Cel))) r8 (fZ ++ ([⟨some ⟨b5, 0, none⟩, 2, 2⟩] : List Slc)) ⟨(by omega), hR, hr9, hw10, (by simp only [List.length_append, List.length_cons, List.length_nil]; omega)⟩ (by (try dsimp only); omega) ⟨rfl, rfl, rfl, rfl, (by first | rfl | (simp only [List.length_set]; rfl) | (simp; done) | (simp; omega)), trivial⟩ (mc [[bx b2 [iv 2, .slice (va r8.q) ((fR ++ ([([{ Cel.zero with base := ((s.getD t8 0).toNat : Int) }, { Cel.zero with base := 32 }] : List Cel)] : List (List Cel))).length) r8.k, iv 0, iv 0, bv false, iv 0, sv ([] : List UInt8)] 53], [bx b1 [iv 0, .slice none 0 0, iv 0, iv 0, bv false, iv 0, sv ([] : List UInt8)] 53], vo cSlc 67 r8 (fZ ++ ([⟨some ⟨b5, 0, none⟩, 2, 2⟩] : List Slc))] [true, true, true] rfl (by first | rfl | (simp only [List.length_set] <;> rfl))) (Foll.pick [0] rfl)
 ·have h4p : ¬ ((t8 : Int) < (s.length : Int)) := by simpa using h4
  rw [dropn h4p] at hR; replace hR := (law28_of_l0.eq_1 ..).symm.trans hR
  refine J_exit ?_
  refine nx ?_
  refine sr 2 rfl ?_
  refine ix rfl (det_own_agg (us := [iv 2, .slice (va fRowsr.q) fR.length fRowsr.k, iv 0, iv 0, bv false, iv 0, sv ([] : List UInt8)]) ty53 rfl rfl 0 rfl rfl rfl) ?_
  refine it rfl (tri_store (us := [iv 2, .slice (va fRowsr.q) fR.length fRowsr.k, iv 0, iv 0, bv false, iv 0, sv ([] : List UInt8)]) (cs' := [iv 2, .slice (va fRowsr.q) fR.length fRowsr.k, iv 0, iv 0, bv false, iv 0, sv ([] : List UInt8)]) ty53 rfl rfl rfl 1 rfl rfl rfl rfl rfl rfl) fun _ => ?_
  refine ie ?_
  refine J_ret ?_
  have := VOk.le hokfRowsr
  have := VOk.cap hokfRowsr
  have := hrowsfRowsrs.1
  refine JQ_seal [bx b2 [iv 2, .slice (va fRowsr.q) fR.length fRowsr.k, iv 0, iv 0, bv false, iv 0, sv ([] : List UInt8)] 53, bx b1 [iv 2, .slice (va fRowsr.q) fR.length fRowsr.k, iv 0, iv 0, bv false, iv 0, sv ([] : List UInt8)] 53] [] (T := 67) (c := cSlc) (r := fRowsr) (xs := fZ) (VOk.cast hokfRowsr (by rw [hrowsfRowsrs.1])) (by first | rfl | simp only [List.cons_append, List.append_assoc, List.nil_append, List.append_nil]) ?_
  subst hR
  exact ends_ret rfl ⟨hr, hD⟩ (by simp [hD]) (res1 rfl (resV_cell (us := [iv 2, .slice (va fRowsr.q) fR.length fRowsr.k, iv 0, iv 0, bv false, iv 0, sv ([] : List UInt8)]) ty53 rfl 1 rfl rfl rfl)) ⟨(va fRowsr.q, fZ, fRowsr.k), ⟨hrowsfRowsrs, (by first | omega | (simp <;> omega) | (dsimp only; omega) | decide), (by first | omega | (simp <;> omega) | (dsimp only; omega) | decide)⟩⟩ (by rfl) (mk [false, false] rfl) (Foll.con1 (at_of 0 rfl) (Foll.con1 (at_of 1 rfl) Foll.nil))

def ref23_SameCells_l0 (b : List Cel) : List Cel → Nat → Bool
 | [], i => true
 | hd_l0 :: tl_l0, i => (bif (!(decide (hd_l0 = (b.getD i Cel.zero)))) then false else ref23_SameCells_l0 b tl_l0 (i + 1))
def ref23_SameCells (a : List Cel) (b : List Cel) : Bool :=
 (bif (!decide ((a.length : Int) = (b.length : Int))) then false else ref23_SameCells_l0 b a 0)

theorem ref23_SameCells_c (a : List Cel) (b : List Cel) (aq : Option Addr) (ak : Nat) (bq : Option Addr) (bk : Nat) (hla : a.length ≤ 9223372036854775807) (hca : a.length ≤ ak) (hlb : b.length ≤ 9223372036854775807) (hcb : b.length ≤ bk) (R : Bool) (hR : ref23_SameCells a b = R) : ConV Tryz.prog 69 [.slice aq a.length ak, .slice bq b.length bk] [sl cCel aq a, sl cCel bq b] (bv R) := by
 refine con_of_J (n := 26) Tryz.func69 rfl (by kernel_rfl) rfl rfl [(0, .slice aq a.length ak), (1, .slice bq b.length bk)] ⟨rfl, rfl, trivial⟩ fun X hX hr hD => ?_
 replace hR := (ref23_SameCells.eq_1 ..).symm.trans hR
 refine sr 1 rfl ?_
 refine ip 1 0 [] (by kernel_rfl) ?_
 refine ie ?_
 refine J_seq ?_
 refine sr 5 rfl ?_
 refine ip 5 0 [(10, bv (!decide ((a.length : Int) = (b.length : Int))))] (by kernel_rfl) ?_
 refine ie ?_
 refine J_if rfl (fun h1 => ?_) (fun h1 => ?_)
 ·have h1p : ¬ (a.length : Int) = (b.length : Int) := by simpa using h1
  replace hR := bt hR h1
  refine sr 1 rfl ?_
  refine ip 1 0 [(4, bv false)] (by kernel_rfl) ?_
  refine ie ?_
  refine J_ret ?_
  subst hR
  exact ends_ret rfl ⟨hr, hD⟩ (by simp [hD]) (res1 rfl (resV_tmp rfl)) () (by rfl) (mk [] rfl) Foll.nil
 ·have h1p : ¬ (¬ (a.length : Int) = (b.length : Int)) := by simpa using h1
  replace hR := bf hR h1
  refine J_skip ?_
  refine nx ?_
  refine J_seq ?_
  refine sr 1 rfl ?_
  refine ip 1 0 [(5, iv 0)] (by kernel_rfl) ?_
  refine ie ?_
  refine J_block ?_
  refine JL1 (fun (i : Nat) => i ≤ a.length ∧ ref23_SameCells_l0 b (a.drop i) i = R) (fun (i : Nat) => [(0, .slice aq a.length ak), (1, .slice bq b.length bk), (5, iv (i : Int))]) (fun (i : Nat) => []) (fun (i : Nat) => [sl cCel aq a, sl cCel bq b]) (fun (i : Nat) => a.length - i) 0 ⟨(by omega), hR⟩ ⟨rfl, rfl, (by first | rfl | (simp only [List.length_set]; rfl) | (simp; done) | (simp; omega)), trivial⟩ (mk [] rfl) Foll.refl ?_
  rintro i ⟨hm2, hR⟩
  refine J_seq ?_
  refine sr 4 rfl ?_
  refine ip 4 0 [(14, bv (decide ((i : Int) < (a.length : Int))))] (by kernel_rfl) ?_
  refine ie ?_
  refine J_if rfl (fun h3 => ?_) (fun h3 => ?_)
  ·have h3p : (i : Int) < (a.length : Int) := by simpa using h3
   rw [dropc Cel.zero (show i < a.length by omega)] at hR; replace hR := (ref23_SameCells_l0.eq_2 ..).symm.trans hR
   refine J_skip ?_
   refine nx ?_
   refine J_seq ?_
   refine J_block ?_
   refine sd 9 rfl (by kernel_rfl) rfl ?_
   refine dp 2 7 [(17, .slice aq a.length ak), (18, iv (i : Int))] (by kernel_rfl) ?_
   refine JD_base 0 rfl (by omega) fun a4 hq5 => ?_
   refine dd rfl (det_ixq slt67 rfl rfl hq5 rfl i rfl (by omega)) ?_
   refine dd rfl (det_ld_agg (us := cCel (a.getD i Cel.zero)) ty72 rfl rfl (at_slq (c := cCel) (sz := 12) hq5 (fun _ => rfl) 0 rfl (gd Cel.zero (by omega))) rfl) ?_
   refine dp 2 3 [(21, .slice bq b.length bk), (22, iv (i : Int))] (by kernel_rfl) ?_
   refine JD_base 1 rfl (by omega) fun a6 hq7 => ?_
   refine dd rfl (det_ixq slt67 rfl rfl hq7 rfl i rfl (by omega)) ?_
   refine dd rfl (det_ld_agg (us := cCel (b.getD i Cel.zero)) ty72 rfl rfl (at_slq (c := cCel) (sz := 12) hq7 (fun _ => rfl) 1 rfl (gd Cel.zero (by omega))) rfl) ?_
   refine dd rfl (det_nes (a := (a.getD i Cel.zero)) (b := (b.getD i Cel.zero)) eqt72 rfl rfl rfl) ?_
   refine de ?_
   refine J_if rfl (fun h8 => ?_) (fun h8 => ?_)
   ·have h8p : ¬ (a.getD i Cel.zero) = (b.getD i Cel.zero) := by simpa using h8
    replace hR := bt hR h8
    refine sr 1 rfl ?_
    refine ip 1 0 [(4, bv false)] (by kernel_rfl) ?_
    refine ie ?_
    refine J_ret ?_
    subst hR
    exact ends_ret rfl ⟨hr, hD⟩ (by simp [hD]) (res1 rfl (resV_tmp rfl)) () (by rfl) (mk [] rfl) Foll.nil
   ·have h8p : ¬ (¬ (a.getD i Cel.zero) = (b.getD i Cel.zero)) := by simpa using h8
    replace hR := bf hR h8
    refine J_skip ?_
    refine nx ?_
    refine J_region 3 rfl ?_
    refine ip 1 2 [(15, iv (i : Int))] (by kernel_rfl) ?_
    refine ix rfl (det_add64 rfl rfl rfl rfl (by omega)) ?_
    refine ip 1 0 [(5, iv ((i : Int) + 1))] (by kernel_rfl) ?_
    refine JI_end ?_
    exact againL1 (z1 := i) (i + 1) ⟨(by omega), hR⟩ (by (try dsimp only); omega) ⟨rfl, rfl, (by first | rfl | (simp only [List.length_set]; rfl) | (simp; done) | (simp; omega)), trivial⟩ (mk [] rfl) Foll.refl
  ·have h3p : ¬ ((i : Int) < (a.length : Int)) := by simpa using h3
   rw [dropn h3p] at hR; replace hR := (ref23_SameCells_l0.eq_1 ..).symm.trans hR
   refine J_exit ?_
   refine nx ?_
   refine sr 1 rfl ?_
   refine ip 1 0 [(4, bv true)] (by kernel_rfl) ?_
   refine ie ?_
   refine J_ret ?_
   subst hR
   exact ends_ret rfl ⟨hr, hD⟩ (by simp [hD]) (res1 rfl (resV_tmp rfl)) () (by rfl) (mk [] rfl) Foll.nil

def ref23_Same_l0 (bR : List (List Cel)) : List (List Cel) → Nat → Bool
 | [], i => true
 | hd_l0 :: tl_l0, i => (bif (!(ref23_SameCells hd_l0 (bR.getD i []))) then false else ref23_Same_l0 bR tl_l0 (i + 1))
def ref23_Same (aC : Int) (aR : List (List Cel)) (aU : Plc) (aV : Bool) (aS : Int) (aT : List UInt8) (bC : Int) (bR : List (List Cel)) (bU : Plc) (bV : Bool) (bS : Int) (bT : List UInt8) : Bool :=
 (bif ((((((!decide (aC = bC)) || (!decide ((aR.length : Int) = (bR.length : Int)))) || (!(decide (aU = bU)))) || (!(aV == bV))) || (!decide (aS = bS))) || (!(decide (aT = bT)))) then false else ref23_Same_l0 bR aR 0)

theorem ref23_Same_c (aC : Int) (aR : List (List Cel)) (aU : Plc) (aV : Bool) (aS : Int) (aT : List UInt8) (bC : Int) (bR : List (List Cel)) (bU : Plc) (bV : Bool) (bS : Int) (bT : List UInt8) (aQ : Option Addr) (aZ : List Slc) (aK : Nat) (bQ : Option Addr) (bZ : List Slc) (bK : Nat) (hrowsaRowsrs : RowsOk aZ aR) (hlaRows : aR.length ≤ 9223372036854775807) (hcaRows : aR.length ≤ aK) (hrowsbRowsrs : RowsOk bZ bR) (hlbRows : bR.length ≤ 9223372036854775807) (hcbRows : bR.length ≤ bK) (R : Bool) (hR : ref23_Same aC aR aU aV aS aT bC bR bU bV bS bT = R) : ConV Tryz.prog 32 [ag [iv aC, .slice aQ aR.length aK, iv aU.row, iv aU.col, bv aV, iv aS, sv aT], ag [iv bC, .slice bQ bR.length bK, iv bU.row, iv bU.col, bv bV, iv bS, sv bT]] [sl cSlc aQ aZ, rowsF cCel aZ aR, sl cSlc bQ bZ, rowsF cCel bZ bR] (bv R) := by
 refine con_of_J (n := 67) Tryz.func32 rfl (by kernel_rfl) rfl rfl [(0, ag [iv aC, .slice aQ aR.length aK, iv aU.row, iv aU.col, bv aV, iv aS, sv aT]), (1, ag [iv bC, .slice bQ bR.length bK, iv bU.row, iv bU.col, bv bV, iv bS, sv bT])] ⟨rfl, rfl, trivial⟩ fun X hX hr hD => ?_
 replace hR := (ref23_Same.eq_1 ..).symm.trans hR
 have := hrowsaRowsrs.1
 have := hrowsbRowsrs.1
 refine sr 3 rfl ?_
 refine it rfl (tri_box (cs := [iv aC, .slice aQ aR.length aK, iv aU.row, iv aU.col, bv aV, iv aS, sv aT]) rfl rfl rfl) fun b1 => ?_
 refine it rfl (tri_box (cs := [iv bC, .slice bQ bR.length bK, iv bU.row, iv bU.col, bv bV, iv bS, sv bT]) rfl rfl rfl) fun b2 => ?_
 refine ip 1 0 [] (by kernel_rfl) ?_
 refine ie ?_
 refine J_seq ?_
 refine sr 42 rfl ?_
 refine ip 1 41 [(6, pt b1 0)] (by kernel_rfl) ?_
 refine ix rfl (det_own_one (v := iv aC) ty3 rfl rfl 1 rfl rfl) ?_
 refine ip 1 39 [(8, pt b2 0)] (by kernel_rfl) ?_
 refine ix rfl (det_own_one (v := iv bC) ty3 rfl rfl 0 rfl rfl) ?_
 refine ip 2 36 [(11, bv (!decide (aC = bC)))] (by kernel_rfl) ?_
 refine ior 8 28 11 19 (!decide ((aR.length : Int) = (bR.length : Int))) rfl (by kernel_rfl) (fun g3 => ?_) ?_
 ·have g3p : ¬ (¬ aC = bC) := by simpa using g3
  refine ip 1 7 [(12, pt b1 1)] (by kernel_rfl) ?_
  refine ix rfl (det_own_one (v := .slice aQ aR.length aK) ty49 rfl rfl 1 rfl rfl) ?_
  refine ip 2 4 [(14, iv (aR.length : Int)), (15, pt b2 1)] (by kernel_rfl) ?_
  refine ix rfl (det_own_one (v := .slice bQ bR.length bK) ty49 rfl rfl 0 rfl rfl) ?_
  refine ip 3 0 [(19, bv (!decide ((aR.length : Int) = (bR.length : Int))))] (by kernel_rfl) ?_
  exact JI_end (armI 7 11 19 g3 Foll.refl (mk [true, true] rfl) rfl rfl rfl rfl rfl)
 refine ip 1 27 [(20, bv ((!decide (aC = bC)) || (!decide ((aR.length : Int) = (bR.length : Int)))))] (by kernel_rfl) ?_
 refine ior 6 21 20 26 (!(decide (aU = bU))) rfl (by kernel_rfl) (fun g4 => ?_) ?_
 ·have g4p : ¬ ((¬ aC = bC) ∨ (¬ (aR.length : Int) = (bR.length : Int))) := by simpa using g4
  refine ip 1 5 [(21, pt b1 2)] (by kernel_rfl) ?_
  refine ix rfl (det_own_agg (us := [iv aU.row, iv aU.col]) ty51 rfl rfl 1 rfl rfl rfl) ?_
  refine ip 1 3 [(23, pt b2 2)] (by kernel_rfl) ?_
  refine ix rfl (det_own_agg (us := [iv bU.row, iv bU.col]) ty51 rfl rfl 0 rfl rfl rfl) ?_
  refine ix rfl (det_nes (a := aU) (b := bU) eqt51 rfl rfl rfl) ?_
  refine ip 1 0 [(26, bv (!(decide (aU = bU))))] (by kernel_rfl) ?_
  exact JI_end (armI 7 20 26 g4 Foll.refl (mk [true, true] rfl) rfl rfl rfl rfl rfl)
 refine ip 1 20 [(27, bv (((!decide (aC = bC)) || (!decide ((aR.length : Int) = (bR.length : Int)))) || (!(decide (aU = bU)))))] (by kernel_rfl) ?_
 refine ior 6 14 27 33 (!(aV == bV)) rfl (by kernel_rfl) (fun g5 => ?_) ?_
 ·have g5p : ¬ (((¬ aC = bC) ∨ (¬ (aR.length : Int) = (bR.length : Int))) ∨ (¬ aU = bU)) := by simpa using g5
  refine ip 1 5 [(28, pt b1 4)] (by kernel_rfl) ?_
  refine ix rfl (det_own_one (v := bv aV) ty4 rfl rfl 1 rfl rfl) ?_
  refine ip 1 3 [(30, pt b2 4)] (by kernel_rfl) ?_
  refine ix rfl (det_own_one (v := bv bV) ty4 rfl rfl 0 rfl rfl) ?_
  refine ix rfl (det_neb Tryz.underlying4 rfl rfl rfl) ?_
  refine ip 1 0 [(33, bv (!(aV == bV)))] (by kernel_rfl) ?_
  exact JI_end (armI 7 27 33 g5 Foll.refl (mk [true, true] rfl) rfl rfl rfl rfl rfl)
 refine ip 1 13 [(34, bv ((((!decide (aC = bC)) || (!decide ((aR.length : Int) = (bR.length : Int)))) || (!(decide (aU = bU)))) || (!(aV == bV))))] (by kernel_rfl) ?_
 refine ior 6 7 34 40 (!decide (aS = bS)) rfl (by kernel_rfl) (fun g6 => ?_) ?_
 ·have g6p := g6; try simp at g6p
  refine ip 1 5 [(35, pt b1 5)] (by kernel_rfl) ?_
  refine ix rfl (det_own_one (v := iv aS) ty3 rfl rfl 1 rfl rfl) ?_
  refine ip 1 3 [(37, pt b2 5)] (by kernel_rfl) ?_
  refine ix rfl (det_own_one (v := iv bS) ty3 rfl rfl 0 rfl rfl) ?_
  refine ip 2 0 [(40, bv (!decide (aS = bS)))] (by kernel_rfl) ?_
  exact JI_end (armI 6 34 40 g6 Foll.refl (mk [true, true] rfl) rfl rfl rfl rfl rfl)
 refine ip 1 6 [(41, bv (((((!decide (aC = bC)) || (!decide ((aR.length : Int) = (bR.length : Int)))) || (!(decide (aU = bU)))) || (!(aV == bV))) || (!decide (aS = bS))))] (by kernel_rfl) ?_
 refine ior 6 0 41 47 (!(decide (aT = bT))) rfl (by kernel_rfl) (fun g7 => ?_) ?_
 ·have g7p := g7; try simp at g7p
  refine ip 1 5 [(42, pt b1 6)] (by kernel_rfl) ?_
  refine ix rfl (det_own_one (v := sv aT) ty9 rfl rfl 1 rfl rfl) ?_
  refine ip 1 3 [(44, pt b2 6)] (by kernel_rfl) ?_
  refine ix rfl (det_own_one (v := sv bT) ty9 rfl rfl 0 rfl rfl) ?_
  refine ix rfl (det_stne rfl rfl rfl) ?_
  refine ip 1 0 [(47, bv (!(decide (aT = bT))))] (by kernel_rfl) ?_
  exact JI_end (armI 7 41 47 g7 Foll.refl (mk [true, true] rfl) rfl rfl rfl rfl rfl)
 refine ie ?_
 refine J_if rfl (fun h8 => ?_) (fun h8 => ?_)
 ·have h8p := h8; try simp at h8p
  replace hR := bt hR h8
  refine sr 1 rfl ?_
  refine ip 1 0 [(4, bv false)] (by kernel_rfl) ?_
  refine ie ?_
  refine J_ret ?_
  subst hR
  exact ends_ret rfl ⟨hr, hD⟩ (by simp [hD]) (res1 rfl (resV_tmp rfl)) () (by rfl) (mk [false, false] rfl) Foll.nil
 ·have h8p := h8; try simp at h8p
  replace hR := bf hR h8
  refine J_skip ?_
  refine nx ?_
  refine J_seq ?_
  refine sr 1 rfl ?_
  refine ip 1 0 [(5, iv 0)] (by kernel_rfl) ?_
  refine ie ?_
  refine J_block ?_
  refine JL1 (fun (i : Nat) => i ≤ aR.length ∧ ref23_Same_l0 bR (aR.drop i) i = R) (fun (i : Nat) => [(2, pt b1 0), (3, pt b2 0), (5, iv (i : Int))]) (fun (i : Nat) => [bx b2 [iv bC, .slice bQ bR.length bK, iv bU.row, iv bU.col, bv bV, iv bS, sv bT] 53, bx b1 [iv aC, .slice aQ aR.length aK, iv aU.row, iv aU.col, bv aV, iv aS, sv aT] 53]) (fun (i : Nat) => [sl cSlc aQ aZ, rowsF cCel aZ aR, sl cSlc bQ bZ, rowsF cCel bZ bR]) (fun (i : Nat) => aR.length - i) 0 ⟨(by omega), hR⟩ ⟨rfl, rfl, (by first | rfl | (simp only [List.length_set]; rfl) | (simp; done) | (simp; omega)), trivial⟩ (mk [true, true] rfl) Foll.refl ?_
  rintro i ⟨hm9, hR⟩
  refine J_seq ?_
  refine sr 5 rfl ?_
  refine ip 2 3 [(48, iv (i : Int)), (49, pt b1 1)] (by kernel_rfl) ?_
  refine ix rfl (det_own_one (v := .slice aQ aR.length aK) ty49 rfl rfl 1 rfl rfl) ?_
  refine ip 2 0 [(52, bv (decide ((i : Int) < (aR.length : Int))))] (by kernel_rfl) ?_
  refine ie ?_
  refine J_if rfl (fun h10 => ?_) (fun h10 => ?_)
  ·have h10p : (i : Int) < (aR.length : Int) := by simpa using h10
   rw [dropc [] (show i < aR.length by omega)] at hR; replace hR := (ref23_Same_l0.eq_2 ..).symm.trans hR
   refine J_skip ?_
   refine nx ?_
   refine J_seq ?_
   refine J_block ?_
   refine sd 12 rfl (by kernel_rfl) rfl ?_
   refine dp 1 11 [(55, pt b1 1)] (by kernel_rfl) ?_
   refine dd rfl (det_own_one (v := .slice aQ aR.length aK) ty49 rfl rfl 1 rfl rfl) ?_
   refine dp 1 9 [(57, iv (i : Int))] (by kernel_rfl) ?_
   refine JD_base 0 rfl (by omega) fun a11 hq12 => ?_
   refine JD_fact1 (rows_atD (k := i) (d := (⟨none, 0, 0⟩ : Slc)) hrowsaRowsrs 1 rfl (by have := hrowsaRowsrs.1; omega)) ?_
   have := rows_cap hrowsaRowsrs (k := i) (d := (⟨none, 0, 0⟩ : Slc)) (by have := hrowsaRowsrs.1; omega)
   refine dd rfl (det_ixq slt49 rfl rfl hq12 rfl i rfl (by omega)) ?_
   refine dd rfl (det_conv (det_ld_one (v := .slice ((aZ.getD i (⟨none, 0, 0⟩ : Slc)).q) ((aZ.getD i (⟨none, 0, 0⟩ : Slc)).n) ((aZ.getD i (⟨none, 0, 0⟩ : Slc)).k)) (us := [.slice ((aZ.getD i (⟨none, 0, 0⟩ : Slc)).q) ((aZ.getD i (⟨none, 0, 0⟩ : Slc)).n) ((aZ.getD i (⟨none, 0, 0⟩ : Slc)).k)]) ty67 rfl rfl (at_slq (c := cSlc) (sz := 1) hq12 (fun _ => rfl) 1 rfl (gd (⟨none, 0, 0⟩ : Slc) (by have := hrowsaRowsrs.1; omega))) rfl) (rows_val hrowsaRowsrs (by have := hrowsaRowsrs.1; omega))) ?_
   refine dp 1 6 [(60, pt b2 1)] (by kernel_rfl) ?_
   refine dd rfl (det_own_one (v := .slice bQ bR.length bK) ty49 rfl rfl 0 rfl rfl) ?_
   refine dp 1 4 [(62, iv (i : Int))] (by kernel_rfl) ?_
   refine JD_base 3 rfl (by omega) fun a13 hq14 => ?_
   refine JD_fact1 (rows_atD (k := i) (d := (⟨none, 0, 0⟩ : Slc)) hrowsbRowsrs 4 rfl (by have := hrowsbRowsrs.1; omega)) ?_
   have := rows_cap hrowsbRowsrs (k := i) (d := (⟨none, 0, 0⟩ : Slc)) (by have := hrowsbRowsrs.1; omega)
   refine dd rfl (det_ixq slt49 rfl rfl hq14 rfl i rfl (by omega)) ?_
   refine dd rfl (det_conv (det_ld_one (v := .slice ((bZ.getD i (⟨none, 0, 0⟩ : Slc)).q) ((bZ.getD i (⟨none, 0, 0⟩ : Slc)).n) ((bZ.getD i (⟨none, 0, 0⟩ : Slc)).k)) (us := [.slice ((bZ.getD i (⟨none, 0, 0⟩ : Slc)).q) ((bZ.getD i (⟨none, 0, 0⟩ : Slc)).n) ((bZ.getD i (⟨none, 0, 0⟩ : Slc)).k)]) ty67 rfl rfl (at_slq (c := cSlc) (sz := 1) hq14 (fun _ => rfl) 4 rfl (gd (⟨none, 0, 0⟩ : Slc) (by have := hrowsbRowsrs.1; omega))) rfl) (rows_val hrowsbRowsrs (by have := hrowsbRowsrs.1; omega))) ?_
   refine ddc rfl (det_call (ref23_SameCells_c (aR.getD i []) (bR.getD i []) ((aZ.getD i (⟨none, 0, 0⟩ : Slc)).q) ((aZ.getD i (⟨none, 0, 0⟩ : Slc)).k) ((bZ.getD i (⟨none, 0, 0⟩ : Slc)).q) ((bZ.getD i (⟨none, 0, 0⟩ : Slc)).k) (by first | omega | (simp <;> omega) | (dsimp only; omega) | decide) (by first | omega | (simp <;> omega) | (dsimp only; omega) | decide) (by first | omega | (simp <;> omega) | (dsimp only; omega) | decide) (by first | omega | (simp <;> omega) | (dsimp only; omega) | decide) _ rfl) rfl rfl rfl rfl rfl (Foll.pick [1, 0] rfl)) ?_
   refine dp 1 0 [(66, bv (!(ref23_SameCells (aR.getD i []) (bR.getD i []))))] (by kernel_rfl) ?_
   refine de ?_
   refine J_if rfl (fun h15 => ?_) (fun h15 => ?_)
   ·replace hR := bt hR h15
    refine sr 1 rfl ?_
    refine ip 1 0 [(4, bv false)] (by kernel_rfl) ?_
    refine ie ?_
    refine J_ret ?_
    subst hR
    exact ends_ret rfl ⟨hr, hD⟩ (by simp [hD]) (res1 rfl (resV_tmp rfl)) () (by rfl) (mk [false, false] rfl) Foll.nil
   ·replace hR := bf hR h15
    refine J_skip ?_
    refine nx ?_
    refine J_region 3 rfl ?_
    refine ip 1 2 [(53, iv (i : Int))] (by kernel_rfl) ?_
    refine ix rfl (det_add64 rfl rfl rfl rfl (by omega)) ?_
    refine ip 1 0 [(5, iv ((i : Int) + 1))] (by kernel_rfl) ?_
    refine JI_end ?_
    exact againL1 (z1 := i) (i + 1) ⟨(by omega), hR⟩ (by (try dsimp only); omega) ⟨rfl, rfl, (by first | rfl | (simp only [List.length_set]; rfl) | (simp; done) | (simp; omega)), trivial⟩ (mk [true, true] rfl) (Foll.pick [2, 3, 4, 5] rfl)
  ·have h10p : ¬ ((i : Int) < (aR.length : Int)) := by simpa using h10
   rw [dropn h10p] at hR; replace hR := (ref23_Same_l0.eq_1 ..).symm.trans hR
   refine J_exit ?_
   refine nx ?_
   refine sr 1 rfl ?_
   refine ip 1 0 [(4, bv true)] (by kernel_rfl) ?_
   refine ie ?_
   refine J_ret ?_
   subst hR
   exact ends_ret rfl ⟨hr, hD⟩ (by simp [hD]) (res1 rfl (resV_tmp rfl)) () (by rfl) (mk [false, false] rfl) Foll.nil

def law28_wakes : Bool :=
 (bindV (law28_of ([97, 98, 99, 100] : List UInt8)) fun (y2 : Int × List (List Cel) × Int × Int × Bool × Int × List UInt8) => (bindV (law28_of ([98, 99, 100, 120] : List UInt8)) fun (y9 : Int × List (List Cel) × Int × Int × Bool × Int × List UInt8) => (bindV (shift_Best y2.1 y2.2.1 (⟨y2.2.2.1, y2.2.2.2.1⟩ : Plc) y2.2.2.2.2.1 y2.2.2.2.2.2.1 y2.2.2.2.2.2.2 y9.1 y9.2.1 (⟨y9.2.2.1, y9.2.2.2.1⟩ : Plc) y9.2.2.2.2.1 y9.2.2.2.2.2.1 y9.2.2.2.2.2.2) fun (y1 : Shf × Int × Int) => (bindV (law28_of ([97, 98, 99, 100] : List UInt8)) fun (y11 : Int × List (List Cel) × Int × Int × Bool × Int × List UInt8) => (bindV (law28_of ([97, 120, 98, 99] : List UInt8)) fun (y7 : Int × List (List Cel) × Int × Int × Bool × Int × List UInt8) => (bindV (shift_Best y11.1 y11.2.1 (⟨y11.2.2.1, y11.2.2.2.1⟩ : Plc) y11.2.2.2.2.1 y11.2.2.2.2.2.1 y11.2.2.2.2.2.2 y7.1 y7.2.1 (⟨y7.2.2.1, y7.2.2.2.1⟩ : Plc) y7.2.2.2.2.1 y7.2.2.2.2.2.1 y7.2.2.2.2.2.2) fun (y3 : Shf × Int × Int) => (bindV (law28_of ([97, 98, 99, 100] : List UInt8)) fun (y10 : Int × List (List Cel) × Int × Int × Bool × Int × List UInt8) => (bindV (law28_of ([97, 98, 99, 100] : List UInt8)) fun (y8 : Int × List (List Cel) × Int × Int × Bool × Int × List UInt8) => (bindV (shift_Best y10.1 y10.2.1 (⟨y10.2.2.1, y10.2.2.2.1⟩ : Plc) y10.2.2.2.2.1 y10.2.2.2.2.2.1 y10.2.2.2.2.2.2 y8.1 y8.2.1 (⟨y8.2.2.1, y8.2.2.2.1⟩ : Plc) y8.2.2.2.2.1 y8.2.2.2.2.2.1 y8.2.2.2.2.2.2) fun (y4 : Shf × Int × Int) => (bindV (shift_Actions y1.1 4) fun (y5 : List Act × Int) => (bindV (law28_of ([97, 98, 99, 100] : List UInt8)) fun (rof4 : Int × List (List Cel) × Int × Int × Bool × Int × List UInt8) => (bindV (shift_Done rof4.1 rof4.2.1 (⟨rof4.2.2.1, rof4.2.2.2.1⟩ : Plc) rof4.2.2.2.2.1 rof4.2.2.2.2.2.1 rof4.2.2.2.2.2.2 y1.1) fun (y0 : Int × List (List Cel) × Int × Int × Bool × Int × List UInt8 × Int) => (bif (decide (y1.2.2 = 0)) then (bif (((decide (y1.1 = { Shf.zero with bottom := 3, amt := 1 })) && (decide (y1.2.1 = 3))) && (decide (y3.2.2 = 0))) then (bif ((((((decide (y3.1 = { Shf.zero with top := 1, bottom := 3, amt := (-1) })) && (decide (y3.2.1 = 2))) && (decide (y4.2.2 = 4))) && (decide (y5.2 = 0))) && (decide ((y5.1.length : Int) = 3))) && (decide (y0.2.2.2.2.2.2.2 = 0))) then (bindV (law28_of ([98, 99, 100, 32] : List UInt8)) fun (y6 : Int × List (List Cel) × Int × Int × Bool × Int × List UInt8) => (bif (ref23_Same y0.1 y0.2.1 (⟨y0.2.2.1, y0.2.2.2.1⟩ : Plc) y0.2.2.2.2.1 y0.2.2.2.2.2.1 y0.2.2.2.2.2.2.1 y6.1 y6.2.1 (⟨y6.2.2.1, y6.2.2.2.1⟩ : Plc) y6.2.2.2.2.1 y6.2.2.2.2.2.1 y6.2.2.2.2.2.2) then (decide ((shift_Check ({ Shf.zero with top := 1, bottom := 2, amt := 2 }) 4) = 2)) else false)) else false) else false) else false)))))))))))))

theorem law28_wakes_c (R : Bool) (hR : law28_wakes = R) : ConV Tryz.prog 25 [] [sl cSpn (some ⟨0, 0, none⟩) tab0, sl cSpn (some ⟨1, 0, none⟩) tab1] (bv R) := by
 refine con_of_J (n := 97) Tryz.func25 rfl (by kernel_rfl) rfl rfl [] trivial fun X hX hr hD => ?_
 replace hR := (law28_wakes.eq_1 ..).symm.trans hR
 refine sr 1 rfl ?_
 refine ip 1 0 [] (by kernel_rfl) ?_
 refine ie ?_
 refine sr 11 rfl ?_
 have hQ := bindVx hR; clear hR; obtain ⟨y2, hy2, hR⟩ := hQ
 refine it rfl (tri_callN (L2 := []) (law28_of_c ([97, 98, 99, 100] : List UInt8) (by first | omega | decide) y2 hy2) rfl rfl rfl rfl rfl Foll.nil (List.Perm.refl _) (fun ⟨⟨q1, rs2, k3⟩, hp6⟩ => []) (fun _ => rfl)) fun ⟨⟨q1, rs2, k3⟩, hp6⟩ => ?_
 obtain ⟨hr4, hc5, hl7⟩ := hp6
 have := hr4.1
 have := law28_of_title ([97, 98, 99, 100] : List UInt8); try rw [hy2] at this
 have hQ := bindVx hR; clear hR; obtain ⟨y9, hy9, hR⟩ := hQ
 refine it rfl (tri_callN (L2 := []) (law28_of_c ([98, 99, 100, 120] : List UInt8) (by first | omega | decide) y9 hy9) rfl rfl rfl rfl rfl Foll.nil (List.Perm.refl _) (fun ⟨⟨q8, rs9, k10⟩, hp13⟩ => []) (fun _ => rfl)) fun ⟨⟨q8, rs9, k10⟩, hp13⟩ => ?_
 obtain ⟨hr11, hc12, hl14⟩ := hp13
 have := hr11.1
 have := law28_of_title ([98, 99, 100, 120] : List UInt8); try rw [hy9] at this
 have hQ := bindVx hR; clear hR; obtain ⟨y1, hy1, hR⟩ := hQ
 refine ixc rfl (det_call (shift_Best_c y2.1 y2.2.1 (⟨y2.2.2.1, y2.2.2.2.1⟩ : Plc) y2.2.2.2.2.1 y2.2.2.2.2.2.1 y2.2.2.2.2.2.2 y9.1 y9.2.1 (⟨y9.2.2.1, y9.2.2.2.1⟩ : Plc) y9.2.2.2.2.1 y9.2.2.2.2.2.1 y9.2.2.2.2.2.2 q1 rs2 k3 q8 rs9 k10 hr4 (by first | omega | (simp <;> omega) | (dsimp only; omega) | decide) (by first | omega | (simp <;> omega) | (dsimp only; omega) | decide) hr11 (by first | omega | (simp <;> omega) | (dsimp only; omega) | decide) (by first | omega | (simp <;> omega) | (dsimp only; omega) | decide) (by first | omega | (simp <;> omega)) (by first | omega | (simp <;> omega)) y1 hy1) rfl rfl rfl rfl rfl (Foll.pick [2, 3, 0, 1, 4, 5] rfl)) ?_
 refine ip 4 4 [(18, ag (cShf y1.1)), (19, iv y1.2.1), (20, iv y1.2.2)] (by kernel_rfl) ?_
 refine it rfl (tri_alloc (cs := cShf Shf.zero) zero55 rfl) fun b15 => ?_
 refine it rfl (tri_store (us := cShf y1.1) (cs' := cShf y1.1) ty55 rfl rfl rfl 0 rfl rfl rfl rfl rfl rfl) fun _ => ?_
 refine ip 2 0 [(2, iv y1.2.1), (3, iv y1.2.2)] (by kernel_rfl) ?_
 refine ie ?_
 refine sr 11 rfl ?_
 have hQ := bindVx hR; clear hR; obtain ⟨y11, hy11, hR⟩ := hQ
 refine it rfl (tri_callN (L2 := [bx b15 (cShf y1.1) 55]) (law28_of_c ([97, 98, 99, 100] : List UInt8) (by first | omega | decide) y11 hy11) rfl rfl rfl rfl rfl Foll.nil (List.Perm.refl _) (fun ⟨⟨q16, rs17, k18⟩, hp21⟩ => [bx b15 (cShf y1.1) 55]) (fun _ => rfl)) fun ⟨⟨q16, rs17, k18⟩, hp21⟩ => ?_
 obtain ⟨hr19, hc20, hl22⟩ := hp21
 have := hr19.1
 have := law28_of_title ([97, 98, 99, 100] : List UInt8); try rw [hy11] at this
 have hQ := bindVx hR; clear hR; obtain ⟨y7, hy7, hR⟩ := hQ
 refine it rfl (tri_callN (L2 := [bx b15 (cShf y1.1) 55]) (law28_of_c ([97, 120, 98, 99] : List UInt8) (by first | omega | decide) y7 hy7) rfl rfl rfl rfl rfl Foll.nil (List.Perm.refl _) (fun ⟨⟨q23, rs24, k25⟩, hp28⟩ => [bx b15 (cShf y1.1) 55]) (fun _ => rfl)) fun ⟨⟨q23, rs24, k25⟩, hp28⟩ => ?_
 obtain ⟨hr26, hc27, hl29⟩ := hp28
 have := hr26.1
 have := law28_of_title ([97, 120, 98, 99] : List UInt8); try rw [hy7] at this
 have hQ := bindVx hR; clear hR; obtain ⟨y3, hy3, hR⟩ := hQ
 refine ixc rfl (det_call (shift_Best_c y11.1 y11.2.1 (⟨y11.2.2.1, y11.2.2.2.1⟩ : Plc) y11.2.2.2.2.1 y11.2.2.2.2.2.1 y11.2.2.2.2.2.2 y7.1 y7.2.1 (⟨y7.2.2.1, y7.2.2.2.1⟩ : Plc) y7.2.2.2.2.1 y7.2.2.2.2.2.1 y7.2.2.2.2.2.2 q16 rs17 k18 q23 rs24 k25 hr19 (by first | omega | (simp <;> omega) | (dsimp only; omega) | decide) (by first | omega | (simp <;> omega) | (dsimp only; omega) | decide) hr26 (by first | omega | (simp <;> omega) | (dsimp only; omega) | decide) (by first | omega | (simp <;> omega) | (dsimp only; omega) | decide) (by first | omega | (simp <;> omega)) (by first | omega | (simp <;> omega)) y3 hy3) rfl rfl rfl rfl rfl (Foll.pick [2, 3, 0, 1, 8, 9] rfl)) ?_
 refine ip 4 4 [(25, ag (cShf y3.1)), (26, iv y3.2.1), (27, iv y3.2.2)] (by kernel_rfl) ?_
 refine it rfl (tri_alloc (cs := cShf Shf.zero) zero55 rfl) fun b30 => ?_
 refine it rfl (tri_store (us := cShf y3.1) (cs' := cShf y3.1) ty55 rfl rfl rfl 0 rfl rfl rfl rfl rfl rfl) fun _ => ?_
 refine ip 2 0 [(5, iv y3.2.1), (6, iv y3.2.2)] (by kernel_rfl) ?_
 refine ie ?_
 refine sr 11 rfl ?_
 have hQ := bindVx hR; clear hR; obtain ⟨y10, hy10, hR⟩ := hQ
 refine it rfl (tri_callN (L2 := [bx b30 (cShf y3.1) 55, bx b15 (cShf y1.1) 55]) (law28_of_c ([97, 98, 99, 100] : List UInt8) (by first | omega | decide) y10 hy10) rfl rfl rfl rfl rfl Foll.nil (List.Perm.refl _) (fun ⟨⟨q31, rs32, k33⟩, hp36⟩ => [bx b30 (cShf y3.1) 55, bx b15 (cShf y1.1) 55]) (fun _ => rfl)) fun ⟨⟨q31, rs32, k33⟩, hp36⟩ => ?_
 obtain ⟨hr34, hc35, hl37⟩ := hp36
 have := hr34.1
 have := law28_of_title ([97, 98, 99, 100] : List UInt8); try rw [hy10] at this
 have hQ := bindVx hR; clear hR; obtain ⟨y8, hy8, hR⟩ := hQ
 refine it rfl (tri_callN (L2 := [bx b30 (cShf y3.1) 55, bx b15 (cShf y1.1) 55]) (law28_of_c ([97, 98, 99, 100] : List UInt8) (by first | omega | decide) y8 hy8) rfl rfl rfl rfl rfl Foll.nil (List.Perm.refl _) (fun ⟨⟨q38, rs39, k40⟩, hp43⟩ => [bx b30 (cShf y3.1) 55, bx b15 (cShf y1.1) 55]) (fun _ => rfl)) fun ⟨⟨q38, rs39, k40⟩, hp43⟩ => ?_
 obtain ⟨hr41, hc42, hl44⟩ := hp43
 have := hr41.1
 have := law28_of_title ([97, 98, 99, 100] : List UInt8); try rw [hy8] at this
 have hQ := bindVx hR; clear hR; obtain ⟨y4, hy4, hR⟩ := hQ
 refine ixc rfl (det_call (shift_Best_c y10.1 y10.2.1 (⟨y10.2.2.1, y10.2.2.2.1⟩ : Plc) y10.2.2.2.2.1 y10.2.2.2.2.2.1 y10.2.2.2.2.2.2 y8.1 y8.2.1 (⟨y8.2.2.1, y8.2.2.2.1⟩ : Plc) y8.2.2.2.2.1 y8.2.2.2.2.2.1 y8.2.2.2.2.2.2 q31 rs32 k33 q38 rs39 k40 hr34 (by first | omega | (simp <;> omega) | (dsimp only; omega) | decide) (by first | omega | (simp <;> omega) | (dsimp only; omega) | decide) hr41 (by first | omega | (simp <;> omega) | (dsimp only; omega) | decide) (by first | omega | (simp <;> omega) | (dsimp only; omega) | decide) (by first | omega | (simp <;> omega)) (by first | omega | (simp <;> omega)) y4 hy4) rfl rfl rfl rfl rfl (Foll.pick [2, 3, 0, 1, 12, 13] rfl)) ?_
 refine ip 4 4 [(32, ag (cShf y4.1)), (33, iv y4.2.1), (34, iv y4.2.2)] (by kernel_rfl) ?_
 refine it rfl (tri_alloc (cs := cShf Shf.zero) zero55 rfl) fun b45 => ?_
 refine it rfl (tri_store (us := cShf y4.1) (cs' := cShf y4.1) ty55 rfl rfl rfl 0 rfl rfl rfl rfl rfl rfl) fun _ => ?_
 refine ip 2 0 [(9, iv y4.2.2)] (by kernel_rfl) ?_
 refine ie ?_
 refine sr 7 rfl ?_
 refine ix rfl (det_own_agg (us := cShf y1.1) ty55 rfl rfl 2 rfl rfl rfl) ?_
 have hQ := bindVx hR; clear hR; obtain ⟨y5, hy5, hR⟩ := hQ
 refine it rfl (tri_callN (L2 := [bx b45 (cShf y4.1) 55, bx b30 (cShf y3.1) 55, bx b15 (cShf y1.1) 55]) (shift_Actions_c y1.1 4 y5 hy5) rfl rfl rfl rfl rfl Foll.nil (List.Perm.refl _) (fun ⟨⟨q46, k47⟩, hp48⟩ => [bx b45 (cShf y4.1) 55, bx b30 (cShf y3.1) 55, bx b15 (cShf y1.1) 55]) (fun _ => rfl)) fun ⟨⟨q46, k47⟩, hp48⟩ => ?_
 obtain ⟨hc49, hl50⟩ := hp48
 refine ip 5 0 [(10, .slice q46 y5.1.length k47), (11, iv y5.2)] (by kernel_rfl) ?_
 refine ie ?_
 have hQ := bindVx hR; clear hR; obtain ⟨rof4, hrof4, hR⟩ := hQ
 have hQ := bindVx hR; clear hR; obtain ⟨y0, hy0, hR⟩ := hQ
 refine sh 9 [(9, [bx b45 (cShf y4.1) 55]), (9, [bx b30 (cShf y3.1) 55]), (9, [bx b15 (cShf y1.1) 55])] [sl cAct q46 y5.1, sl cSlc q38 rs39, rowsF cCel rs39 y8.2.1, sl cSlc q31 rs32, rowsF cCel rs32 y10.2.1, sl cSlc q23 rs24, rowsF cCel rs24 y7.2.1, sl cSlc q16 rs17, rowsF cCel rs17 y11.2.1, sl cSlc q8 rs9, rowsF cCel rs9 y9.2.1, sl cSlc q1 rs2, rowsF cCel rs2 y2.2.1, sl cSpn (some ⟨0, 0, none⟩) tab0, sl cSpn (some ⟨1, 0, none⟩) tab1] [bx b45 (cShf y4.1) 55, bx b30 (cShf y3.1) 55, bx b15 (cShf y1.1) 55] #[false, false, false, false, false, false, false, false, false] (by kernel_rfl) rfl (by kernel_rfl) (by kernel_rfl) (by kernel_rfl) (mk [true, true, true] rfl) Foll.refl ?_
 refine htak 1 [bx b45 (cShf y4.1) 55, bx b30 (cShf y3.1) 55, bx b15 (cShf y1.1) 55] #[false, true, false, false, false, false, false, false, false] rfl rfl rfl (by kernel_rfl) (by kernel_rfl) (by kernel_rfl) (det_own_agg (us := cShf y1.1) ty55 rfl rfl 2 rfl rfl rfl) ?_
 refine JH_fork 0 6 (by kernel_rfl) ?_ ?_
 ·refine harm 0 [bx b45 (cShf y4.1) 55, bx b30 (cShf y3.1) 55, bx b15 (cShf y1.1) 55] #[true, true, false, false, false, false, false, false, false] rfl rfl rfl (by kernel_rfl) (by kernel_rfl) (by kernel_rfl) (tri_callN (L2 := [bx b45 (cShf y4.1) 55, bx b30 (cShf y3.1) 55, bx b15 (cShf y1.1) 55]) (law28_of_c ([97, 98, 99, 100] : List UInt8) (by first | omega | decide) rof4 hrof4) rfl rfl rfl rfl rfl Foll.nil (List.Perm.refl _) (fun ⟨⟨q51, rs52, k53⟩, hp56⟩ => [bx b45 (cShf y4.1) 55, bx b30 (cShf y3.1) 55, bx b15 (cShf y1.1) 55]) (fun _ => rfl)) (fun ⟨⟨q51, rs52, k53⟩, hp56⟩ => (mk [true, true, true] rfl)) (fun ⟨⟨q51, rs52, k53⟩, hp56⟩ => (Foll.pick [2, 3, 4, 5, 6, 7, 8, 9, 10, 11, 12, 13, 14, 15, 16] rfl)) fun ⟨⟨q51, rs52, k53⟩, hp56⟩ => ?_
  obtain ⟨hr54, hc55, hl57⟩ := hp56
  have := hr54.1
  have := law28_of_title ([97, 98, 99, 100] : List UInt8); try rw [hrof4] at this
  refine JH_fork 2 6 (by kernel_rfl) ?_ ?_
  ·refine harm 2 [bx b45 (cShf y4.1) 55, bx b30 (cShf y3.1) 55, bx b15 (cShf y1.1) 55] #[true, true, true, false, false, false, false, false, false] rfl rfl rfl (by kernel_rfl) (by kernel_rfl) (by kernel_rfl) (tri_callP (L2 := [bx b45 (cShf y4.1) 55, bx b30 (cShf y3.1) 55, bx b15 (cShf y1.1) 55]) (shift_Done_c rof4.1 rof4.2.1 (⟨rof4.2.2.1, rof4.2.2.2.1⟩ : Plc) rof4.2.2.2.2.1 rof4.2.2.2.2.2.1 rof4.2.2.2.2.2.2 y1.1 q51 rs52 k53 hr54 (by first | omega | (simp <;> omega) | (dsimp only; omega) | decide) (by first | omega | (simp <;> omega) | (dsimp only; omega) | decide) (by first | omega | (simp <;> omega)) y0 hy0) rfl rfl rfl rfl rfl (Foll.pick [0, 1, 15, 16] rfl) (List.Perm.refl _) (fun ⟨⟨r58, rs59⟩, hp62⟩ => (bx b45 (cShf y4.1) 55 :: bx b30 (cShf y3.1) 55 :: bx b15 (cShf y1.1) 55 :: (vo cSlc 67 r58 rs59) ++ ([]))) (fun ⟨⟨r58, rs59⟩, hp62⟩ => permC [vo cSlc 67 r58 rs59, [bx b45 (cShf y4.1) 55], [bx b30 (cShf y3.1) 55], [bx b15 (cShf y1.1) 55]] [1, 2, 3, 0] 4 rfl (by decide) (by first | rfl | simp only [List.flatten_cons, List.flatten_nil, List.append_nil, List.cons_append, List.nil_append, List.append_assoc]) [[bx b45 (cShf y4.1) 55], [bx b30 (cShf y3.1) 55], [bx b15 (cShf y1.1) 55], vo cSlc 67 r58 rs59] rfl (by first | rfl | simp only [List.flatten_cons, List.flatten_nil, List.append_nil, List.cons_append, List.nil_append, List.append_assoc]))) (fun ⟨⟨r58, rs59⟩, hp62⟩ => (mc [[bx b45 (cShf y4.1) 55], [bx b30 (cShf y3.1) 55], [bx b15 (cShf y1.1) 55], vo cSlc 67 r58 rs59] [true, true, true, false] rfl (by first | rfl | (simp only [List.length_set] <;> rfl)))) (fun ⟨⟨r58, rs59⟩, hp62⟩ => (Foll.pick [3, 4, 5, 6, 7, 8, 9, 10, 11, 12, 13, 14, 15, 16, 17] rfl)) fun ⟨⟨r58, rs59⟩, hp62⟩ => ?_
   try dsimp only at hp62
   obtain ⟨hk60, hw61⟩ := hp62
   have := VOk.le hk60
   have := VOk.cap hk60
   have := hw61.1
   have := shift_Done_title rof4.1 rof4.2.1 (⟨rof4.2.2.1, rof4.2.2.2.1⟩ : Plc) rof4.2.2.2.2.1 rof4.2.2.2.2.2.1 rof4.2.2.2.2.2.2 y1.1; try rw [hy0] at this
   refine hpur [3, 4, 5] 3 #[true, true, true, true, true, true, false, false, false] [(44, ag [iv y0.1, .slice (va r58.q) y0.2.1.length r58.k, iv y0.2.2.1, iv y0.2.2.2.1, bv y0.2.2.2.2.1, iv y0.2.2.2.2.2.1, sv y0.2.2.2.2.2.2.1]), (45, iv y0.2.2.2.2.2.2.2)] (by kernel_rfl) ?_
   refine hone 6 [bx b45 (cShf y4.1) 55, bx b30 (cShf y3.1) 55, bx b15 (cShf y1.1) 55] #[true, true, true, true, true, true, true, false, false] rfl rfl rfl (by kernel_rfl) (by kernel_rfl) (by kernel_rfl) (tri_alloc (cs := [iv 0, .slice none 0 0, iv 0, iv 0, bv false, iv 0, sv ([] : List UInt8)]) zero53 rfl) (fun b63 => (mc [[bx b63 [iv 0, .slice none 0 0, iv 0, iv 0, bv false, iv 0, sv ([] : List UInt8)] 53], [bx b45 (cShf y4.1) 55], [bx b30 (cShf y3.1) 55], [bx b15 (cShf y1.1) 55], vo cSlc 67 r58 rs59] [false, true, true, true, false] rfl (by first | rfl | (simp only [List.length_set] <;> rfl)))) (fun b63 => (Foll.pick [3, 4, 5, 6, 7, 8, 9, 10, 11, 12, 13, 14, 15, 16, 17] rfl)) fun b63 => ?_
   refine hone 7 [bx b45 (cShf y4.1) 55, bx b30 (cShf y3.1) 55, bx b15 (cShf y1.1) 55] #[true, true, true, true, true, true, true, true, false] rfl rfl rfl (by kernel_rfl) (by kernel_rfl) (by kernel_rfl) (tri_store (us := [iv y0.1, .slice (va r58.q) y0.2.1.length r58.k, iv y0.2.2.1, iv y0.2.2.2.1, bv y0.2.2.2.2.1, iv y0.2.2.2.2.2.1, sv y0.2.2.2.2.2.2.1]) (cs' := [iv y0.1, .slice (va r58.q) y0.2.1.length r58.k, iv y0.2.2.1, iv y0.2.2.2.1, bv y0.2.2.2.2.1, iv y0.2.2.2.2.2.1, sv y0.2.2.2.2.2.2.1]) ty53 rfl rfl rfl 0 rfl rfl rfl rfl rfl rfl) (fun _ => (mc [[bx b63 [iv y0.1, .slice (va r58.q) y0.2.1.length r58.k, iv y0.2.2.1, iv y0.2.2.2.1, bv y0.2.2.2.2.1, iv y0.2.2.2.2.2.1, sv y0.2.2.2.2.2.2.1] 53], [bx b45 (cShf y4.1) 55], [bx b30 (cShf y3.1) 55], [bx b15 (cShf y1.1) 55], vo cSlc 67 r58 rs59] [false, true, true, true, false] rfl (by first | rfl | (simp only [List.length_set] <;> rfl)))) (fun _ => (Foll.pick [3, 4, 5, 6, 7, 8, 9, 10, 11, 12, 13, 14, 15, 16, 17] rfl)) fun _ => ?_
   refine hpur [8] 0 #[true, true, true, true, true, true, true, true, true] [(13, iv y0.2.2.2.2.2.2.2)] (by kernel_rfl) ?_
   refine hend (by kernel_rfl) ?_
   have := VOk.cap hk60
   have := VOk.le hk60
   refine J_seal [bx b63 [iv y0.1, .slice (va r58.q) y0.2.1.length r58.k, iv y0.2.2.1, iv y0.2.2.2.1, bv y0.2.2.2.2.1, iv y0.2.2.2.2.2.1, sv y0.2.2.2.2.2.2.1] 53, bx b45 (cShf y4.1) 55, bx b30 (cShf y3.1) 55, bx b15 (cShf y1.1) 55] [] (T := 67) (c := cSlc) (r := r58) (xs := rs59) (VOk.cast hk60 (by rw [hw61.1])) (by first | rfl | simp only [List.cons_append, List.append_assoc, List.nil_append, List.append_nil]) ?_
   refine sh 52 [(52, [bx b63 [iv y0.1, .slice (va r58.q) y0.2.1.length r58.k, iv y0.2.2.1, iv y0.2.2.2.1, bv y0.2.2.2.2.1, iv y0.2.2.2.2.2.1, sv y0.2.2.2.2.2.2.1] 53]), (52, [bx b45 (cShf y4.1) 55]), (52, [bx b30 (cShf y3.1) 55]), (52, [bx b15 (cShf y1.1) 55])] [sl cSlc (va r58.q) rs59, rowsF cCel rs59 y0.2.1, sl cSlc q51 rs52, rowsF cCel rs52 rof4.2.1, sl cAct q46 y5.1, sl cSlc q38 rs39, rowsF cCel rs39 y8.2.1, sl cSlc q31 rs32, rowsF cCel rs32 y10.2.1, sl cSlc q23 rs24, rowsF cCel rs24 y7.2.1, sl cSlc q16 rs17, rowsF cCel rs17 y11.2.1, sl cSlc q8 rs9, rowsF cCel rs9 y9.2.1, sl cSlc q1 rs2, rowsF cCel rs2 y2.2.1, sl cSpn (some ⟨0, 0, none⟩) tab0, sl cSpn (some ⟨1, 0, none⟩) tab1] [bx b63 [iv y0.1, .slice (va r58.q) y0.2.1.length r58.k, iv y0.2.2.1, iv y0.2.2.2.1, bv y0.2.2.2.2.1, iv y0.2.2.2.2.2.1, sv y0.2.2.2.2.2.2.1] 53, bx b45 (cShf y4.1) 55, bx b30 (cShf y3.1) 55, bx b15 (cShf y1.1) 55] #[false, false, false, false, false, false, false, false, false, false, false, false, false, false, false, false, false, false, false, false, false, false, false, false, false, false, false, false, false, false, false, false, false, false, false, false, false, false, false, false, false, false, false, false, false, false, false, false, false, false, false, false] (by kernel_rfl) rfl (by kernel_rfl) (by kernel_rfl) (by kernel_rfl) (mk [true, true, true, true] rfl) Foll.refl ?_
   refine hpur [0, 1, 2] 49 #[true, true, true, false, false, false, false, false, false, false, false, false, false, false, false, false, false, false, false, false, false, false, false, false, false, false, false, false, false, false, false, false, false, false, false, false, false, false, false, false, false, false, false, false, false, false, false, false, false, false, false, false] [(48, bv (decide (y1.2.2 = 0)))] (by kernel_rfl) ?_
   refine JH_cases 48 _ rfl (fun g64 => ?_) (fun g64 => ?_)
   ·have g64p : y1.2.2 = 0 := by simpa using g64
    replace hR := bt hR g64
    refine htak 3 [bx b63 [iv y0.1, .slice (va r58.q) y0.2.1.length r58.k, iv y0.2.2.1, iv y0.2.2.2.1, bv y0.2.2.2.2.1, iv y0.2.2.2.2.2.1, sv y0.2.2.2.2.2.2.1] 53, bx b45 (cShf y4.1) 55, bx b30 (cShf y3.1) 55, bx b15 (cShf y1.1) 55] #[true, true, true, true, false, false, false, false, false, false, false, false, false, false, false, false, false, false, false, false, false, false, false, false, false, false, false, false, false, false, false, false, false, false, false, false, false, false, false, false, false, false, false, false, false, false, false, false, false, false, false, false] rfl rfl rfl (by kernel_rfl) (by kernel_rfl) (by kernel_rfl) (det_own_agg (us := cShf y1.1) ty55 rfl rfl 3 rfl rfl rfl) ?_
    refine htak 4 [bx b63 [iv y0.1, .slice (va r58.q) y0.2.1.length r58.k, iv y0.2.2.1, iv y0.2.2.2.1, bv y0.2.2.2.2.1, iv y0.2.2.2.2.2.1, sv y0.2.2.2.2.2.2.1] 53, bx b45 (cShf y4.1) 55, bx b30 (cShf y3.1) 55, bx b15 (cShf y1.1) 55] #[true, true, true, true, true, false, false, false, false, false, false, false, false, false, false, false, false, false, false, false, false, false, false, false, false, false, false, false, false, false, false, false, false, false, false, false, false, false, false, false, false, false, false, false, false, false, false, false, false, false, false, false] rfl rfl rfl (by kernel_rfl) (by kernel_rfl) (by kernel_rfl) (det_build (cs := cShf ({ Shf.zero with bottom := 3, amt := 1 })) rfl rfl (by kernel_rfl)) ?_
    refine htak 5 [bx b63 [iv y0.1, .slice (va r58.q) y0.2.1.length r58.k, iv y0.2.2.1, iv y0.2.2.2.1, bv y0.2.2.2.2.1, iv y0.2.2.2.2.2.1, sv y0.2.2.2.2.2.2.1] 53, bx b45 (cShf y4.1) 55, bx b30 (cShf y3.1) 55, bx b15 (cShf y1.1) 55] #[true, true, true, true, true, true, false, false, false, false, false, false, false, false, false, false, false, false, false, false, false, false, false, false, false, false, false, false, false, false, false, false, false, false, false, false, false, false, false, false, false, false, false, false, false, false, false, false, false, false, false, false] rfl rfl rfl (by kernel_rfl) (by kernel_rfl) (by kernel_rfl) (det_eqs (a := y1.1) (b := { Shf.zero with bottom := 3, amt := 1 }) eqt55 rfl rfl rfl) ?_
    refine hpur [6, 7] 44 #[true, true, true, true, true, true, true, true, false, false, false, false, false, false, false, false, false, false, false, false, false, false, false, false, false, false, false, false, false, false, false, false, false, false, false, false, false, false, false, false, false, false, false, false, false, false, false, false, false, false, false, false] [(53, bv (decide (y1.1 = { Shf.zero with bottom := 3, amt := 1 })))] (by kernel_rfl) ?_
    refine hpandA [8, 9, 10] 41 #[true, true, true, true, true, true, true, true, true, true, true, false, false, false, false, false, false, false, false, false, false, false, false, false, false, false, false, false, false, false, false, false, false, false, false, false, false, false, false, false, false, false, false, false, false, false, false, false, false, false, false, false] 53 56 (decide (y1.2.1 = 3)) rfl (by kernel_rfl) (by kernel_rfl) ?_
    refine hpur [11] 40 #[true, true, true, true, true, true, true, true, true, true, true, true, false, false, false, false, false, false, false, false, false, false, false, false, false, false, false, false, false, false, false, false, false, false, false, false, false, false, false, false, false, false, false, false, false, false, false, false, false, false, false, false] [(57, bv ((decide (y1.1 = { Shf.zero with bottom := 3, amt := 1 })) && (decide (y1.2.1 = 3))))] (by kernel_rfl) ?_
    refine hpandA [12, 13, 14] 37 #[true, true, true, true, true, true, true, true, true, true, true, true, true, true, true, false, false, false, false, false, false, false, false, false, false, false, false, false, false, false, false, false, false, false, false, false, false, false, false, false, false, false, false, false, false, false, false, false, false, false, false, false] 57 60 (decide (y3.2.2 = 0)) rfl (by kernel_rfl) (by kernel_rfl) ?_
    refine hpur [15] 36 #[true, true, true, true, true, true, true, true, true, true, true, true, true, true, true, true, false, false, false, false, false, false, false, false, false, false, false, false, false, false, false, false, false, false, false, false, false, false, false, false, false, false, false, false, false, false, false, false, false, false, false, false] [(61, bv (((decide (y1.1 = { Shf.zero with bottom := 3, amt := 1 })) && (decide (y1.2.1 = 3))) && (decide (y3.2.2 = 0))))] (by kernel_rfl) ?_
    refine JH_cases 61 _ rfl (fun g65 => ?_) (fun g65 => ?_)
    ·have g65p : ((y1.1 = { Shf.zero with bottom := 3, amt := 1 }) ∧ (y1.2.1 = 3)) ∧ (y3.2.2 = 0) := by simpa using g65
     replace hR := bt hR g65
     refine htak 16 [bx b63 [iv y0.1, .slice (va r58.q) y0.2.1.length r58.k, iv y0.2.2.1, iv y0.2.2.2.1, bv y0.2.2.2.2.1, iv y0.2.2.2.2.2.1, sv y0.2.2.2.2.2.2.1] 53, bx b45 (cShf y4.1) 55, bx b30 (cShf y3.1) 55, bx b15 (cShf y1.1) 55] #[true, true, true, true, true, true, true, true, true, true, true, true, true, true, true, true, true, false, false, false, false, false, false, false, false, false, false, false, false, false, false, false, false, false, false, false, false, false, false, false, false, false, false, false, false, false, false, false, false, false, false, false] rfl rfl rfl (by kernel_rfl) (by kernel_rfl) (by kernel_rfl) (det_own_agg (us := cShf y3.1) ty55 rfl rfl 2 rfl rfl rfl) ?_
     refine htak 17 [bx b63 [iv y0.1, .slice (va r58.q) y0.2.1.length r58.k, iv y0.2.2.1, iv y0.2.2.2.1, bv y0.2.2.2.2.1, iv y0.2.2.2.2.2.1, sv y0.2.2.2.2.2.2.1] 53, bx b45 (cShf y4.1) 55, bx b30 (cShf y3.1) 55, bx b15 (cShf y1.1) 55] #[true, true, true, true, true, true, true, true, true, true, true, true, true, true, true, true, true, true, false, false, false, false, false, false, false, false, false, false, false, false, false, false, false, false, false, false, false, false, false, false, false, false, false, false, false, false, false, false, false, false, false, false] rfl rfl rfl (by kernel_rfl) (by kernel_rfl) (by kernel_rfl) (det_build (cs := cShf ({ Shf.zero with top := 1, bottom := 3, amt := (-1) })) rfl rfl (by kernel_rfl)) ?_
     refine htak 18 [bx b63 [iv y0.1, .slice (va r58.q) y0.2.1.length r58.k, iv y0.2.2.1, iv y0.2.2.2.1, bv y0.2.2.2.2.1, iv y0.2.2.2.2.2.1, sv y0.2.2.2.2.2.2.1] 53, bx b45 (cShf y4.1) 55, bx b30 (cShf y3.1) 55, bx b15 (cShf y1.1) 55] #[true, true, true, true, true, true, true, true, true, true, true, true, true, true, true, true, true, true, true, false, false, false, false, false, false, false, false, false, false, false, false, false, false, false, false, false, false, false, false, false, false, false, false, false, false, false, false, false, false, false, false, false] rfl rfl rfl (by kernel_rfl) (by kernel_rfl) (by kernel_rfl) (det_eqs (a := y3.1) (b := { Shf.zero with top := 1, bottom := 3, amt := (-1) }) eqt55 rfl rfl rfl) ?_
     refine hpur [19, 20] 31 #[true, true, true, true, true, true, true, true, true, true, true, true, true, true, true, true, true, true, true, true, true, false, false, false, false, false, false, false, false, false, false, false, false, false, false, false, false, false, false, false, false, false, false, false, false, false, false, false, false, false, false, false] [(66, bv (decide (y3.1 = { Shf.zero with top := 1, bottom := 3, amt := (-1) })))] (by kernel_rfl) ?_
     refine hpandA [21, 22, 23] 28 #[true, true, true, true, true, true, true, true, true, true, true, true, true, true, true, true, true, true, true, true, true, true, true, true, false, false, false, false, false, false, false, false, false, false, false, false, false, false, false, false, false, false, false, false, false, false, false, false, false, false, false, false] 66 69 (decide (y3.2.1 = 2)) rfl (by kernel_rfl) (by kernel_rfl) ?_
     refine hpur [24] 27 #[true, true, true, true, true, true, true, true, true, true, true, true, true, true, true, true, true, true, true, true, true, true, true, true, true, false, false, false, false, false, false, false, false, false, false, false, false, false, false, false, false, false, false, false, false, false, false, false, false, false, false, false] [(70, bv ((decide (y3.1 = { Shf.zero with top := 1, bottom := 3, amt := (-1) })) && (decide (y3.2.1 = 2))))] (by kernel_rfl) ?_
     refine hpandA [25, 26, 27] 24 #[true, true, true, true, true, true, true, true, true, true, true, true, true, true, true, true, true, true, true, true, true, true, true, true, true, true, true, true, false, false, false, false, false, false, false, false, false, false, false, false, false, false, false, false, false, false, false, false, false, false, false, false] 70 73 (decide (y4.2.2 = 4)) rfl (by kernel_rfl) (by kernel_rfl) ?_
     refine hpur [28] 23 #[true, true, true, true, true, true, true, true, true, true, true, true, true, true, true, true, true, true, true, true, true, true, true, true, true, true, true, true, true, false, false, false, false, false, false, false, false, false, false, false, false, false, false, false, false, false, false, false, false, false, false, false] [(74, bv (((decide (y3.1 = { Shf.zero with top := 1, bottom := 3, amt := (-1) })) && (decide (y3.2.1 = 2))) && (decide (y4.2.2 = 4))))] (by kernel_rfl) ?_
     refine hpandA [29, 30, 31] 20 #[true, true, true, true, true, true, true, true, true, true, true, true, true, true, true, true, true, true, true, true, true, true, true, true, true, true, true, true, true, true, true, true, false, false, false, false, false, false, false, false, false, false, false, false, false, false, false, false, false, false, false, false] 74 77 (decide (y5.2 = 0)) rfl (by kernel_rfl) (by kernel_rfl) ?_
     refine hpur [32] 19 #[true, true, true, true, true, true, true, true, true, true, true, true, true, true, true, true, true, true, true, true, true, true, true, true, true, true, true, true, true, true, true, true, true, false, false, false, false, false, false, false, false, false, false, false, false, false, false, false, false, false, false, false] [(78, bv ((((decide (y3.1 = { Shf.zero with top := 1, bottom := 3, amt := (-1) })) && (decide (y3.2.1 = 2))) && (decide (y4.2.2 = 4))) && (decide (y5.2 = 0))))] (by kernel_rfl) ?_
     refine hpandA [33, 34, 35, 36] 15 #[true, true, true, true, true, true, true, true, true, true, true, true, true, true, true, true, true, true, true, true, true, true, true, true, true, true, true, true, true, true, true, true, true, true, true, true, true, false, false, false, false, false, false, false, false, false, false, false, false, false, false, false] 78 82 (decide ((y5.1.length : Int) = 3)) rfl (by kernel_rfl) (by kernel_rfl) ?_
     refine hpur [37] 14 #[true, true, true, true, true, true, true, true, true, true, true, true, true, true, true, true, true, true, true, true, true, true, true, true, true, true, true, true, true, true, true, true, true, true, true, true, true, true, false, false, false, false, false, false, false, false, false, false, false, false, false, false] [(83, bv (((((decide (y3.1 = { Shf.zero with top := 1, bottom := 3, amt := (-1) })) && (decide (y3.2.1 = 2))) && (decide (y4.2.2 = 4))) && (decide (y5.2 = 0))) && (decide ((y5.1.length : Int) = 3))))] (by kernel_rfl) ?_
     refine hpandA [38, 39, 40] 11 #[true, true, true, true, true, true, true, true, true, true, true, true, true, true, true, true, true, true, true, true, true, true, true, true, true, true, true, true, true, true, true, true, true, true, true, true, true, true, true, true, true, false, false, false, false, false, false, false, false, false, false, false] 83 86 (decide (y0.2.2.2.2.2.2.2 = 0)) rfl (by kernel_rfl) (by kernel_rfl) ?_
     refine hpur [41] 10 #[true, true, true, true, true, true, true, true, true, true, true, true, true, true, true, true, true, true, true, true, true, true, true, true, true, true, true, true, true, true, true, true, true, true, true, true, true, true, true, true, true, true, false, false, false, false, false, false, false, false, false, false] [(87, bv ((((((decide (y3.1 = { Shf.zero with top := 1, bottom := 3, amt := (-1) })) && (decide (y3.2.1 = 2))) && (decide (y4.2.2 = 4))) && (decide (y5.2 = 0))) && (decide ((y5.1.length : Int) = 3))) && (decide (y0.2.2.2.2.2.2.2 = 0))))] (by kernel_rfl) ?_
     refine JH_cases 87 _ rfl (fun g66 => ?_) (fun g66 => ?_)
     ·have g66p : (((((y3.1 = { Shf.zero with top := 1, bottom := 3, amt := (-1) }) ∧ (y3.2.1 = 2)) ∧ (y4.2.2 = 4)) ∧ (y5.2 = 0)) ∧ ((y5.1.length : Int) = 3)) ∧ (y0.2.2.2.2.2.2.2 = 0) := by simpa using g66
      replace hR := bt hR g66
      refine htak 42 [bx b63 [iv y0.1, .slice (va r58.q) y0.2.1.length r58.k, iv y0.2.2.1, iv y0.2.2.2.1, bv y0.2.2.2.2.1, iv y0.2.2.2.2.2.1, sv y0.2.2.2.2.2.2.1] 53, bx b45 (cShf y4.1) 55, bx b30 (cShf y3.1) 55, bx b15 (cShf y1.1) 55] #[true, true, true, true, true, true, true, true, true, true, true, true, true, true, true, true, true, true, true, true, true, true, true, true, true, true, true, true, true, true, true, true, true, true, true, true, true, true, true, true, true, true, true, false, false, false, false, false, false, false, false, false] rfl rfl rfl (by kernel_rfl) (by kernel_rfl) (by kernel_rfl) (det_own_agg (us := [iv y0.1, .slice (va r58.q) y0.2.1.length r58.k, iv y0.2.2.1, iv y0.2.2.2.1, bv y0.2.2.2.2.1, iv y0.2.2.2.2.2.1, sv y0.2.2.2.2.2.2.1]) ty53 rfl rfl 0 rfl rfl rfl) ?_
      have hQ := bindVx hR; clear hR; obtain ⟨y6, hy6, hR⟩ := hQ
      refine hone 43 [bx b63 [iv y0.1, .slice (va r58.q) y0.2.1.length r58.k, iv y0.2.2.1, iv y0.2.2.2.1, bv y0.2.2.2.2.1, iv y0.2.2.2.2.2.1, sv y0.2.2.2.2.2.2.1] 53, bx b45 (cShf y4.1) 55, bx b30 (cShf y3.1) 55, bx b15 (cShf y1.1) 55] #[true, true, true, true, true, true, true, true, true, true, true, true, true, true, true, true, true, true, true, true, true, true, true, true, true, true, true, true, true, true, true, true, true, true, true, true, true, true, true, true, true, true, true, true, false, false, false, false, false, false, false, false] rfl rfl rfl (by kernel_rfl) (by kernel_rfl) (by kernel_rfl) (tri_callN (L2 := [bx b63 [iv y0.1, .slice (va r58.q) y0.2.1.length r58.k, iv y0.2.2.1, iv y0.2.2.2.1, bv y0.2.2.2.2.1, iv y0.2.2.2.2.2.1, sv y0.2.2.2.2.2.2.1] 53, bx b45 (cShf y4.1) 55, bx b30 (cShf y3.1) 55, bx b15 (cShf y1.1) 55]) (law28_of_c ([98, 99, 100, 32] : List UInt8) (by first | omega | decide) y6 hy6) rfl rfl rfl rfl rfl Foll.nil (List.Perm.refl _) (fun ⟨⟨q67, rs68, k69⟩, hp72⟩ => [bx b63 [iv y0.1, .slice (va r58.q) y0.2.1.length r58.k, iv y0.2.2.1, iv y0.2.2.2.1, bv y0.2.2.2.2.1, iv y0.2.2.2.2.2.1, sv y0.2.2.2.2.2.2.1] 53, bx b45 (cShf y4.1) 55, bx b30 (cShf y3.1) 55, bx b15 (cShf y1.1) 55]) (fun _ => rfl)) (fun ⟨⟨q67, rs68, k69⟩, hp72⟩ => (mk [true, true, true, true] rfl)) (fun ⟨⟨q67, rs68, k69⟩, hp72⟩ => (Foll.pick [2, 3, 4, 5, 6, 7, 8, 9, 10, 11, 12, 13, 14, 15, 16, 17, 18, 19, 20] rfl)) fun ⟨⟨q67, rs68, k69⟩, hp72⟩ => ?_
      obtain ⟨hr70, hc71, hl73⟩ := hp72
      have := hr70.1
      have := law28_of_title ([98, 99, 100, 32] : List UInt8); try rw [hy6] at this
      refine hone 44 [bx b63 [iv y0.1, .slice (va r58.q) y0.2.1.length r58.k, iv y0.2.2.1, iv y0.2.2.2.1, bv y0.2.2.2.2.1, iv y0.2.2.2.2.2.1, sv y0.2.2.2.2.2.2.1] 53, bx b45 (cShf y4.1) 55, bx b30 (cShf y3.1) 55, bx b15 (cShf y1.1) 55] #[true, true, true, true, true, true, true, true, true, true, true, true, true, true, true, true, true, true, true, true, true, true, true, true, true, true, true, true, true, true, true, true, true, true, true, true, true, true, true, true, true, true, true, true, true, false, false, false, false, false, false, false] rfl rfl rfl (by kernel_rfl) (by kernel_rfl) (by kernel_rfl) (Det.tri (det_call (ref23_Same_c y0.1 y0.2.1 (⟨y0.2.2.1, y0.2.2.2.1⟩ : Plc) y0.2.2.2.2.1 y0.2.2.2.2.2.1 y0.2.2.2.2.2.2.1 y6.1 y6.2.1 (⟨y6.2.2.1, y6.2.2.2.1⟩ : Plc) y6.2.2.2.2.1 y6.2.2.2.2.2.1 y6.2.2.2.2.2.2 (va r58.q) rs59 r58.k q67 rs68 k69 hw61 (by first | omega | (simp <;> omega) | (dsimp only; omega) | decide) (by first | omega | (simp <;> omega) | (dsimp only; omega) | decide) hr70 (by first | omega | (simp <;> omega) | (dsimp only; omega) | decide) (by first | omega | (simp <;> omega) | (dsimp only; omega) | decide) _ rfl) rfl rfl rfl rfl rfl (Foll.pick [2, 3, 0, 1] rfl))) (fun _ => (mk [true, true, true, true] rfl)) (fun _ => (Foll.pick [2, 3, 4, 5, 6, 7, 8, 9, 10, 11, 12, 13, 14, 15, 16, 17, 18, 19, 20] rfl)) fun _ => ?_
      refine hpur [45, 46] 5 #[true, true, true, true, true, true, true, true, true, true, true, true, true, true, true, true, true, true, true, true, true, true, true, true, true, true, true, true, true, true, true, true, true, true, true, true, true, true, true, true, true, true, true, true, true, true, true, false, false, false, false, false] [(92, bv (ref23_Same y0.1 y0.2.1 (⟨y0.2.2.1, y0.2.2.2.1⟩ : Plc) y0.2.2.2.2.1 y0.2.2.2.2.2.1 y0.2.2.2.2.2.2.1 y6.1 y6.2.1 (⟨y6.2.2.1, y6.2.2.2.1⟩ : Plc) y6.2.2.2.2.1 y6.2.2.2.2.2.1 y6.2.2.2.2.2.2))] (by kernel_rfl) ?_
      refine JH_cases 92 _ rfl (fun g74 => ?_) (fun g74 => ?_)
      ·replace hR := bt hR g74
       refine htak 47 [bx b63 [iv y0.1, .slice (va r58.q) y0.2.1.length r58.k, iv y0.2.2.1, iv y0.2.2.2.1, bv y0.2.2.2.2.1, iv y0.2.2.2.2.2.1, sv y0.2.2.2.2.2.2.1] 53, bx b45 (cShf y4.1) 55, bx b30 (cShf y3.1) 55, bx b15 (cShf y1.1) 55] #[true, true, true, true, true, true, true, true, true, true, true, true, true, true, true, true, true, true, true, true, true, true, true, true, true, true, true, true, true, true, true, true, true, true, true, true, true, true, true, true, true, true, true, true, true, true, true, true, false, false, false, false] rfl rfl rfl (by kernel_rfl) (by kernel_rfl) (by kernel_rfl) (det_build (cs := cShf ({ Shf.zero with top := 1, bottom := 2, amt := 2 })) rfl rfl (by kernel_rfl)) ?_
       refine hone 48 [bx b63 [iv y0.1, .slice (va r58.q) y0.2.1.length r58.k, iv y0.2.2.1, iv y0.2.2.2.1, bv y0.2.2.2.2.1, iv y0.2.2.2.2.2.1, sv y0.2.2.2.2.2.2.1] 53, bx b45 (cShf y4.1) 55, bx b30 (cShf y3.1) 55, bx b15 (cShf y1.1) 55] #[true, true, true, true, true, true, true, true, true, true, true, true, true, true, true, true, true, true, true, true, true, true, true, true, true, true, true, true, true, true, true, true, true, true, true, true, true, true, true, true, true, true, true, true, true, true, true, true, true, false, false, false] rfl rfl rfl (by kernel_rfl) (by kernel_rfl) (by kernel_rfl) (Det.tri (det_call (shift_Check_c ({ Shf.zero with top := 1, bottom := 2, amt := 2 }) 4 _ rfl) rfl rfl rfl rfl rfl Foll.nil)) (fun _ => (mk [true, true, true, true] rfl)) (fun _ => (Foll.pick [2, 3, 4, 5, 6, 7, 8, 9, 10, 11, 12, 13, 14, 15, 16, 17, 18, 19, 20] rfl)) fun _ => ?_
       refine hpur [49, 50, 51] 0 #[true, true, true, true, true, true, true, true, true, true, true, true, true, true, true, true, true, true, true, true, true, true, true, true, true, true, true, true, true, true, true, true, true, true, true, true, true, true, true, true, true, true, true, true, true, true, true, true, true, true, true, true] [(0, bv (decide ((shift_Check ({ Shf.zero with top := 1, bottom := 2, amt := 2 }) 4) = 2)))] (by kernel_rfl) ?_
       refine hend (by kernel_rfl) ?_
       refine J_ret ?_
       subst hR
       exact ends_ret rfl ⟨hr, hD⟩ (by simp [hD]) (res1 rfl (resV_tmp rfl)) () (by rfl) (mk [false, false, false, false] rfl) Foll.nil
      ·replace hR := bf hR g74
       refine hpur [47, 48, 49, 50, 51] 0 #[true, true, true, true, true, true, true, true, true, true, true, true, true, true, true, true, true, true, true, true, true, true, true, true, true, true, true, true, true, true, true, true, true, true, true, true, true, true, true, true, true, true, true, true, true, true, true, true, true, true, true, true] [(0, bv false)] (by kernel_rfl) ?_
       refine hend (by kernel_rfl) ?_
       refine J_ret ?_
       subst hR
       exact ends_ret rfl ⟨hr, hD⟩ (by simp [hD]) (res1 rfl (resV_tmp rfl)) () (by rfl) (mk [false, false, false, false] rfl) Foll.nil
     ·have g66p : ¬ ((((((y3.1 = { Shf.zero with top := 1, bottom := 3, amt := (-1) }) ∧ (y3.2.1 = 2)) ∧ (y4.2.2 = 4)) ∧ (y5.2 = 0)) ∧ ((y5.1.length : Int) = 3)) ∧ (y0.2.2.2.2.2.2.2 = 0)) := by simpa using g66
      replace hR := bf hR g66
      refine hpur [42, 43, 44, 45, 46, 47, 48, 49, 50, 51] 0 #[true, true, true, true, true, true, true, true, true, true, true, true, true, true, true, true, true, true, true, true, true, true, true, true, true, true, true, true, true, true, true, true, true, true, true, true, true, true, true, true, true, true, true, true, true, true, true, true, true, true, true, true] [(0, bv false)] (by kernel_rfl) ?_
      refine hend (by kernel_rfl) ?_
      refine J_ret ?_
      subst hR
      exact ends_ret rfl ⟨hr, hD⟩ (by simp [hD]) (res1 rfl (resV_tmp rfl)) () (by rfl) (mk [false, false, false, false] rfl) Foll.nil
    ·have g65p : ¬ (((y1.1 = { Shf.zero with bottom := 3, amt := 1 }) ∧ (y1.2.1 = 3)) ∧ (y3.2.2 = 0)) := by simpa using g65
     replace hR := bf hR g65
     refine hpur [16, 17, 18, 19, 20, 21, 22, 23, 24, 25, 26, 27, 28, 29, 30, 31, 32, 33, 34, 35, 36, 37, 38, 39, 40, 41, 42, 43, 44, 45, 46, 47, 48, 49, 50, 51] 0 #[true, true, true, true, true, true, true, true, true, true, true, true, true, true, true, true, true, true, true, true, true, true, true, true, true, true, true, true, true, true, true, true, true, true, true, true, true, true, true, true, true, true, true, true, true, true, true, true, true, true, true, true] [(0, bv false)] (by kernel_rfl) ?_
     refine hend (by kernel_rfl) ?_
     refine J_ret ?_
     subst hR
     exact ends_ret rfl ⟨hr, hD⟩ (by simp [hD]) (res1 rfl (resV_tmp rfl)) () (by rfl) (mk [false, false, false, false] rfl) Foll.nil
   ·have g64p : ¬ (y1.2.2 = 0) := by simpa using g64
    replace hR := bf hR g64
    refine hpur [3, 4, 5, 6, 7, 8, 9, 10, 11, 12, 13, 14, 15, 16, 17, 18, 19, 20, 21, 22, 23, 24, 25, 26, 27, 28, 29, 30, 31, 32, 33, 34, 35, 36, 37, 38, 39, 40, 41, 42, 43, 44, 45, 46, 47, 48, 49, 50, 51] 0 #[true, true, true, true, true, true, true, true, true, true, true, true, true, true, true, true, true, true, true, true, true, true, true, true, true, true, true, true, true, true, true, true, true, true, true, true, true, true, true, true, true, true, true, true, true, true, true, true, true, true, true, true] [(0, bv false)] (by kernel_rfl) ?_
    refine hend (by kernel_rfl) ?_
    refine J_ret ?_
    subst hR
    exact ends_ret rfl ⟨hr, hD⟩ (by simp [hD]) (res1 rfl (resV_tmp rfl)) () (by rfl) (mk [false, false, false, false] rfl) Foll.nil
  ·refine harm 6 [bx b45 (cShf y4.1) 55, bx b30 (cShf y3.1) 55, bx b15 (cShf y1.1) 55] #[true, true, false, false, false, false, true, false, false] rfl rfl rfl (by kernel_rfl) (by kernel_rfl) (by kernel_rfl) (tri_alloc (cs := [iv 0, .slice none 0 0, iv 0, iv 0, bv false, iv 0, sv ([] : List UInt8)]) zero53 rfl) (fun b75 => (mk [false, true, true, true] rfl)) (fun b75 => (Foll.pick [2, 3, 4, 5, 6, 7, 8, 9, 10, 11, 12, 13, 14, 15, 16] rfl)) fun b75 => ?_
   refine hone 2 [bx b45 (cShf y4.1) 55, bx b30 (cShf y3.1) 55, bx b15 (cShf y1.1) 55] #[true, true, true, false, false, false, true, false, false] rfl rfl rfl (by kernel_rfl) (by kernel_rfl) (by kernel_rfl) (tri_callP (L2 := [bx b75 [iv 0, .slice none 0 0, iv 0, iv 0, bv false, iv 0, sv ([] : List UInt8)] 53, bx b45 (cShf y4.1) 55, bx b30 (cShf y3.1) 55, bx b15 (cShf y1.1) 55]) (shift_Done_c rof4.1 rof4.2.1 (⟨rof4.2.2.1, rof4.2.2.2.1⟩ : Plc) rof4.2.2.2.2.1 rof4.2.2.2.2.2.1 rof4.2.2.2.2.2.2 y1.1 q51 rs52 k53 hr54 (by first | omega | (simp <;> omega) | (dsimp only; omega) | decide) (by first | omega | (simp <;> omega) | (dsimp only; omega) | decide) (by first | omega | (simp <;> omega)) y0 hy0) rfl rfl rfl rfl rfl (Foll.pick [0, 1, 15, 16] rfl) (List.Perm.refl _) (fun ⟨⟨r76, rs77⟩, hp80⟩ => (bx b75 [iv 0, .slice none 0 0, iv 0, iv 0, bv false, iv 0, sv ([] : List UInt8)] 53 :: bx b45 (cShf y4.1) 55 :: bx b30 (cShf y3.1) 55 :: bx b15 (cShf y1.1) 55 :: (vo cSlc 67 r76 rs77) ++ ([]))) (fun ⟨⟨r76, rs77⟩, hp80⟩ => permC [vo cSlc 67 r76 rs77, [bx b75 [iv 0, .slice none 0 0, iv 0, iv 0, bv false, iv 0, sv ([] : List UInt8)] 53], [bx b45 (cShf y4.1) 55], [bx b30 (cShf y3.1) 55], [bx b15 (cShf y1.1) 55]] [1, 2, 3, 4, 0] 5 rfl (by decide) (by first | rfl | simp only [List.flatten_cons, List.flatten_nil, List.append_nil, List.cons_append, List.nil_append, List.append_assoc]) [[bx b75 [iv 0, .slice none 0 0, iv 0, iv 0, bv false, iv 0, sv ([] : List UInt8)] 53], [bx b45 (cShf y4.1) 55], [bx b30 (cShf y3.1) 55], [bx b15 (cShf y1.1) 55], vo cSlc 67 r76 rs77] rfl (by first | rfl | simp only [List.flatten_cons, List.flatten_nil, List.append_nil, List.cons_append, List.nil_append, List.append_assoc]))) (fun ⟨⟨r76, rs77⟩, hp80⟩ => (mc [[bx b75 [iv 0, .slice none 0 0, iv 0, iv 0, bv false, iv 0, sv ([] : List UInt8)] 53], [bx b45 (cShf y4.1) 55], [bx b30 (cShf y3.1) 55], [bx b15 (cShf y1.1) 55], vo cSlc 67 r76 rs77] [false, true, true, true, false] rfl (by first | rfl | (simp only [List.length_set] <;> rfl)))) (fun ⟨⟨r76, rs77⟩, hp80⟩ => (Foll.pick [3, 4, 5, 6, 7, 8, 9, 10, 11, 12, 13, 14, 15, 16, 17] rfl)) fun ⟨⟨r76, rs77⟩, hp80⟩ => ?_
   try dsimp only at hp80
   obtain ⟨hk78, hw79⟩ := hp80
   have := VOk.le hk78
   have := VOk.cap hk78
   have := hw79.1
   have := shift_Done_title rof4.1 rof4.2.1 (⟨rof4.2.2.1, rof4.2.2.2.1⟩ : Plc) rof4.2.2.2.2.1 rof4.2.2.2.2.2.1 rof4.2.2.2.2.2.2 y1.1; try rw [hy0] at this
   refine hpur [3, 4, 5] 2 #[true, true, true, true, true, true, true, false, false] [(44, ag [iv y0.1, .slice (va r76.q) y0.2.1.length r76.k, iv y0.2.2.1, iv y0.2.2.2.1, bv y0.2.2.2.2.1, iv y0.2.2.2.2.2.1, sv y0.2.2.2.2.2.2.1]), (45, iv y0.2.2.2.2.2.2.2)] (by kernel_rfl) ?_
   refine hone 7 [bx b45 (cShf y4.1) 55, bx b30 (cShf y3.1) 55, bx b15 (cShf y1.1) 55] #[true, true, true, true, true, true, true, true, false] rfl rfl rfl (by kernel_rfl) (by kernel_rfl) (by kernel_rfl) (tri_store (us := [iv y0.1, .slice (va r76.q) y0.2.1.length r76.k, iv y0.2.2.1, iv y0.2.2.2.1, bv y0.2.2.2.2.1, iv y0.2.2.2.2.2.1, sv y0.2.2.2.2.2.2.1]) (cs' := [iv y0.1, .slice (va r76.q) y0.2.1.length r76.k, iv y0.2.2.1, iv y0.2.2.2.1, bv y0.2.2.2.2.1, iv y0.2.2.2.2.2.1, sv y0.2.2.2.2.2.2.1]) ty53 rfl rfl rfl 0 rfl rfl rfl rfl rfl rfl) (fun _ => (mc [[bx b75 [iv y0.1, .slice (va r76.q) y0.2.1.length r76.k, iv y0.2.2.1, iv y0.2.2.2.1, bv y0.2.2.2.2.1, iv y0.2.2.2.2.2.1, sv y0.2.2.2.2.2.2.1] 53], [bx b45 (cShf y4.1) 55], [bx b30 (cShf y3.1) 55], [bx b15 (cShf y1.1) 55], vo cSlc 67 r76 rs77] [false, true, true, true, false] rfl (by first | rfl | (simp only [List.length_set] <;> rfl)))) (fun _ => (Foll.pick [3, 4, 5, 6, 7, 8, 9, 10, 11, 12, 13, 14, 15, 16, 17] rfl)) fun _ => ?_
   refine hpur [8] 0 #[true, true, true, true, true, true, true, true, true] [(13, iv y0.2.2.2.2.2.2.2)] (by kernel_rfl) ?_
   refine hend (by kernel_rfl) ?_
   have := VOk.cap hk78
   have := VOk.le hk78
   refine J_seal [bx b75 [iv y0.1, .slice (va r76.q) y0.2.1.length r76.k, iv y0.2.2.1, iv y0.2.2.2.1, bv y0.2.2.2.2.1, iv y0.2.2.2.2.2.1, sv y0.2.2.2.2.2.2.1] 53, bx b45 (cShf y4.1) 55, bx b30 (cShf y3.1) 55, bx b15 (cShf y1.1) 55] [] (T := 67) (c := cSlc) (r := r76) (xs := rs77) (VOk.cast hk78 (by rw [hw79.1])) (by first | rfl | simp only [List.cons_append, List.append_assoc, List.nil_append, List.append_nil]) ?_
   refine sh 52 [(52, [bx b75 [iv y0.1, .slice (va r76.q) y0.2.1.length r76.k, iv y0.2.2.1, iv y0.2.2.2.1, bv y0.2.2.2.2.1, iv y0.2.2.2.2.2.1, sv y0.2.2.2.2.2.2.1] 53]), (52, [bx b45 (cShf y4.1) 55]), (52, [bx b30 (cShf y3.1) 55]), (52, [bx b15 (cShf y1.1) 55])] [sl cSlc (va r76.q) rs77, rowsF cCel rs77 y0.2.1, sl cSlc q51 rs52, rowsF cCel rs52 rof4.2.1, sl cAct q46 y5.1, sl cSlc q38 rs39, rowsF cCel rs39 y8.2.1, sl cSlc q31 rs32, rowsF cCel rs32 y10.2.1, sl cSlc q23 rs24, rowsF cCel rs24 y7.2.1, sl cSlc q16 rs17, rowsF cCel rs17 y11.2.1, sl cSlc q8 rs9, rowsF cCel rs9 y9.2.1, sl cSlc q1 rs2, rowsF cCel rs2 y2.2.1, sl cSpn (some ⟨0, 0, none⟩) tab0, sl cSpn (some ⟨1, 0, none⟩) tab1] [bx b75 [iv y0.1, .slice (va r76.q) y0.2.1.length r76.k, iv y0.2.2.1, iv y0.2.2.2.1, bv y0.2.2.2.2.1, iv y0.2.2.2.2.2.1, sv y0.2.2.2.2.2.2.1] 53, bx b45 (cShf y4.1) 55, bx b30 (cShf y3.1) 55, bx b15 (cShf y1.1) 55] #[false, false, false, false, false, false, false, false, false, false, false, false, false, false, false, false, false, false, false, false, false, false, false, false, false, false, false, false, false, false, false, false, false, false, false, false, false, false, false, false, false, false, false, false, false, false, false, false, false, false, false, false] (by kernel_rfl) rfl (by kernel_rfl) (by kernel_rfl) (by kernel_rfl) (mk [true, true, true, true] rfl) Foll.refl ?_
   refine hpur [0, 1, 2] 49 #[true, true, true, false, false, false, false, false, false, false, false, false, false, false, false, false, false, false, false, false, false, false, false, false, false, false, false, false, false, false, false, false, false, false, false, false, false, false, false, false, false, false, false, false, false, false, false, false, false, false, false, false] [(48, bv (decide (y1.2.2 = 0)))] (by kernel_rfl) ?_
   refine JH_cases 48 _ rfl (fun g81 => ?_) (fun g81 => ?_)
   ·have g81p : y1.2.2 = 0 := by simpa using g81
    replace hR := bt hR g81
    refine htak 3 [bx b75 [iv y0.1, .slice (va r76.q) y0.2.1.length r76.k, iv y0.2.2.1, iv y0.2.2.2.1, bv y0.2.2.2.2.1, iv y0.2.2.2.2.2.1, sv y0.2.2.2.2.2.2.1] 53, bx b45 (cShf y4.1) 55, bx b30 (cShf y3.1) 55, bx b15 (cShf y1.1) 55] #[true, true, true, true, false, false, false, false, false, false, false, false, false, false, false, false, false, false, false, false, false, false, false, false, false, false, false, false, false, false, false, false, false, false, false, false, false, false, false, false, false, false, false, false, false, false, false, false, false, false, false, false] rfl rfl rfl (by kernel_rfl) (by kernel_rfl) (by kernel_rfl) (det_own_agg (us := cShf y1.1) ty55 rfl rfl 3 rfl rfl rfl) ?_
    refine htak 4 [bx b75 [iv y0.1, .slice (va r76.q) y0.2.1.length r76.k, iv y0.2.2.1, iv y0.2.2.2.1, bv y0.2.2.2.2.1, iv y0.2.2.2.2.2.1, sv y0.2.2.2.2.2.2.1] 53, bx b45 (cShf y4.1) 55, bx b30 (cShf y3.1) 55, bx b15 (cShf y1.1) 55] #[true, true, true, true, true, false, false, false, false, false, false, false, false, false, false, false, false, false, false, false, false, false, false, false, false, false, false, false, false, false, false, false, false, false, false, false, false, false, false, false, false, false, false, false, false, false, false, false, false, false, false, false] rfl rfl rfl (by kernel_rfl) (by kernel_rfl) (by kernel_rfl) (det_build (cs := cShf ({ Shf.zero with bottom := 3, amt := 1 })) rfl rfl (by kernel_rfl)) ?_
    refine htak 5 [bx b75 [iv y0.1, .slice (va r76.q) y0.2.1.length r76.k, iv y0.2.2.1, iv y0.2.2.2.1, bv y0.2.2.2.2.1, iv y0.2.2.2.2.2.1, sv y0.2.2.2.2.2.2.1] 53, bx b45 (cShf y4.1) 55, bx b30 (cShf y3.1) 55, bx b15 (cShf y1.1) 55] #[true, true, true, true, true, true, false, false, false, false, false, false, false, false, false, false, false, false, false, false, false, false, false, false, false, false, false, false, false, false, false, false, false, false, false, false, false, false, false, false, false, false, false, false, false, false, false, false, false, false, false, false] rfl rfl rfl (by kernel_rfl) (by kernel_rfl) (by kernel_rfl) (det_eqs (a := y1.1) (b := { Shf.zero with bottom := 3, amt := 1 }) eqt55 rfl rfl rfl) ?_
    refine hpur [6, 7] 44 #[true, true, true, true, true, true, true, true, false, false, false, false, false, false, false, false, false, false, false, false, false, false, false, false, false, false, false, false, false, false, false, false, false, false, false, false, false, false, false, false, false, false, false, false, false, false, false, false, false, false, false, false] [(53, bv (decide (y1.1 = { Shf.zero with bottom := 3, amt := 1 })))] (by kernel_rfl) ?_
    refine hpandA [8, 9, 10] 41 #[true, true, true, true, true, true, true, true, true, true, true, false, false, false, false, false, false, false, false, false, false, false, false, false, false, false, false, false, false, false, false, false, false, false, false, false, false, false, false, false, false, false, false, false, false, false, false, false, false, false, false, false] 53 56 (decide (y1.2.1 = 3)) rfl (by kernel_rfl) (by kernel_rfl) ?_
    refine hpur [11] 40 #[true, true, true, true, true, true, true, true, true, true, true, true, false, false, false, false, false, false, false, false, false, false, false, false, false, false, false, false, false, false, false, false, false, false, false, false, false, false, false, false, false, false, false, false, false, false, false, false, false, false, false, false] [(57, bv ((decide (y1.1 = { Shf.zero with bottom := 3, amt := 1 })) && (decide (y1.2.1 = 3))))] (by kernel_rfl) ?_
    refine hpandA [12, 13, 14] 37 #[true, true, true, true, true, true, true, true, true, true, true, true, true, true, true, false, false, false, false, false, false, false, false, false, false, false, false, false, false, false, false, false, false, false, false, false, false, false, false, false, false, false, false, false, false, false, false, false, false, false, false, false] 57 60 (decide (y3.2.2 = 0)) rfl (by kernel_rfl) (by kernel_rfl) ?_
    refine hpur [15] 36 #[true, true, true, true, true, true, true, true, true, true, true, true, true, true, true, true, false, false, false, false, false, false, false, false, false, false, false, false, false, false, false, false, false, false, false, false, false, false, false, false, false, false, false, false, false, false, false, false, false, false, false, false] [(61, bv (((decide (y1.1 = { Shf.zero with bottom := 3, amt := 1 })) && (decide (y1.2.1 = 3))) && (decide (y3.2.2 = 0))))] (by kernel_rfl) ?_
    refine JH_cases 61 _ rfl (fun g82 => ?_) (fun g82 => ?_)
    ·have g82p : ((y1.1 = { Shf.zero with bottom := 3, amt := 1 }) ∧ (y1.2.1 = 3)) ∧ (y3.2.2 = 0) := by simpa using g82
     replace hR := bt hR g82
     refine htak 16 [bx b75 [iv y0.1, .slice (va r76.q) y0.2.1.length r76.k, iv y0.2.2.1, iv y0.2.2.2.1, bv y0.2.2.2.2.1, iv y0.2.2.2.2.2.1, sv y0.2.2.2.2.2.2.1] 53, bx b45 (cShf y4.1) 55, bx b30 (cShf y3.1) 55, bx b15 (cShf y1.1) 55] #[true, true, true, true, true, true, true, true, true, true, true, true, true, true, true, true, true, false, false, false, false, false, false, false, false, false, false, false, false, false, false, false, false, false, false, false, false, false, false, false, false, false, false, false, false, false, false, false, false, false, false, false] rfl rfl rfl (by kernel_rfl) (by kernel_rfl) (by kernel_rfl) (det_own_agg (us := cShf y3.1) ty55 rfl rfl 2 rfl rfl rfl) ?_
     refine htak 17 [bx b75 [iv y0.1, .slice (va r76.q) y0.2.1.length r76.k, iv y0.2.2.1, iv y0.2.2.2.1, bv y0.2.2.2.2.1, iv y0.2.2.2.2.2.1, sv y0.2.2.2.2.2.2.1] 53, bx b45 (cShf y4.1) 55, bx b30 (cShf y3.1) 55, bx b15 (cShf y1.1) 55] #[true, true, true, true, true, true, true, true, true, true, true, true, true, true, true, true, true, true, false, false, false, false, false, false, false, false, false, false, false, false, false, false, false, false, false, false, false, false, false, false, false, false, false, false, false, false, false, false, false, false, false, false] rfl rfl rfl (by kernel_rfl) (by kernel_rfl) (by kernel_rfl) (det_build (cs := cShf ({ Shf.zero with top := 1, bottom := 3, amt := (-1) })) rfl rfl (by kernel_rfl)) ?_
     refine htak 18 [bx b75 [iv y0.1, .slice (va r76.q) y0.2.1.length r76.k, iv y0.2.2.1, iv y0.2.2.2.1, bv y0.2.2.2.2.1, iv y0.2.2.2.2.2.1, sv y0.2.2.2.2.2.2.1] 53, bx b45 (cShf y4.1) 55, bx b30 (cShf y3.1) 55, bx b15 (cShf y1.1) 55] #[true, true, true, true, true, true, true, true, true, true, true, true, true, true, true, true, true, true, true, false, false, false, false, false, false, false, false, false, false, false, false, false, false, false, false, false, false, false, false, false, false, false, false, false, false, false, false, false, false, false, false, false] rfl rfl rfl (by kernel_rfl) (by kernel_rfl) (by kernel_rfl) (det_eqs (a := y3.1) (b := { Shf.zero with top := 1, bottom := 3, amt := (-1) }) eqt55 rfl rfl rfl) ?_
     refine hpur [19, 20] 31 #[true, true, true, true, true, true, true, true, true, true, true, true, true, true, true, true, true, true, true, true, true, false, false, false, false, false, false, false, false, false, false, false, false, false, false, false, false, false, false, false, false, false, false, false, false, false, false, false, false, false, false, false] [(66, bv (decide (y3.1 = { Shf.zero with top := 1, bottom := 3, amt := (-1) })))] (by kernel_rfl) ?_
     refine hpandA [21, 22, 23] 28 #[true, true, true, true, true, true, true, true, true, true, true, true, true, true, true, true, true, true, true, true, true, true, true, true, false, false, false, false, false, false, false, false, false, false, false, false, false, false, false, false, false, false, false, false, false, false, false, false, false, false, false, false] 66 69 (decide (y3.2.1 = 2)) rfl (by kernel_rfl) (by kernel_rfl) ?_
     refine hpur [24] 27 #[true, true, true, true, true, true, true, true, true, true, true, true, true, true, true, true, true, true, true, true, true, true, true, true, true, false, false, false, false, false, false, false, false, false, false, false, false, false, false, false, false, false, false, false, false, false, false, false, false, false, false, false] [(70, bv ((decide (y3.1 = { Shf.zero with top := 1, bottom := 3, amt := (-1) })) && (decide (y3.2.1 = 2))))] (by kernel_rfl) ?_
     refine hpandA [25, 26, 27] 24 #[true, true, true, true, true, true, true, true, true, true, true, true, true, true, true, true, true, true, true, true, true, true, true, true, true, true, true, true, false, false, false, false, false, false, false, false, false, false, false, false, false, false, false, false, false, false, false, false, false, false, false, false] 70 73 (decide (y4.2.2 = 4)) rfl (by kernel_rfl) (by kernel_rfl) ?_
     refine hpur [28] 23 #[true, true, true, true, true, true, true, true, true, true, true, true, true, true, true, true, true, true, true, true, true, true, true, true, true, true, true, true, true, false, false, false, false, false, false, false, false, false, false, false, false, false, false, false, false, false, false, false, false, false, false, false] [(74, bv (((decide (y3.1 = { Shf.zero with top := 1, bottom := 3, amt := (-1) })) && (decide (y3.2.1 = 2))) && (decide (y4.2.2 = 4))))] (by kernel_rfl) ?_
     refine hpandA [29, 30, 31] 20 #[true, true, true, true, true, true, true, true, true, true, true, true, true, true, true, true, true, true, true, true, true, true, true, true, true, true, true, true, true, true, true, true, false, false, false, false, false, false, false, false, false, false, false, false, false, false, false, false, false, false, false, false] 74 77 (decide (y5.2 = 0)) rfl (by kernel_rfl) (by kernel_rfl) ?_
     refine hpur [32] 19 #[true, true, true, true, true, true, true, true, true, true, true, true, true, true, true, true, true, true, true, true, true, true, true, true, true, true, true, true, true, true, true, true, true, false, false, false, false, false, false, false, false, false, false, false, false, false, false, false, false, false, false, false] [(78, bv ((((decide (y3.1 = { Shf.zero with top := 1, bottom := 3, amt := (-1) })) && (decide (y3.2.1 = 2))) && (decide (y4.2.2 = 4))) && (decide (y5.2 = 0))))] (by kernel_rfl) ?_
     refine hpandA [33, 34, 35, 36] 15 #[true, true, true, true, true, true, true, true, true, true, true, true, true, true, true, true, true, true, true, true, true, true, true, true, true, true, true, true, true, true, true, true, true, true, true, true, true, false, false, false, false, false, false, false, false, false, false, false, false, false, false, false] 78 82 (decide ((y5.1.length : Int) = 3)) rfl (by kernel_rfl) (by kernel_rfl) ?_
     refine hpur [37] 14 #[true, true, true, true, true, true, true, true, true, true, true, true, true, true, true, true, true, true, true, true, true, true, true, true, true, true, true, true, true, true, true, true, true, true, true, true, true, true, false, false, false, false, false, false, false, false, false, false, false, false, false, false] [(83, bv (((((decide (y3.1 = { Shf.zero with top := 1, bottom := 3, amt := (-1) })) && (decide (y3.2.1 = 2))) && (decide (y4.2.2 = 4))) && (decide (y5.2 = 0))) && (decide ((y5.1.length : Int) = 3))))] (by kernel_rfl) ?_
     refine hpandA [38, 39, 40] 11 #[true, true, true, true, true, true, true, true, true, true, true, true, true, true, true, true, true, true, true, true, true, true, true, true, true, true, true, true, true, true, true, true, true, true, true, true, true, true, true, true, true, false, false, false, false, false, false, false, false, false, false, false] 83 86 (decide (y0.2.2.2.2.2.2.2 = 0)) rfl (by kernel_rfl) (by kernel_rfl) ?_
     refine hpur [41] 10 #[true, true, true, true, true, true, true, true, true, true, true, true, true, true, true, true, true, true, true, true, true, true, true, true, true, true, true, true, true, true, true, true, true, true, true, true, true, true, true, true, true, true, false, false, false, false, false, false, false, false, false, false] [(87, bv ((((((decide (y3.1 = { Shf.zero with top := 1, bottom := 3, amt := (-1) })) && (decide (y3.2.1 = 2))) && (decide (y4.2.2 = 4))) && (decide (y5.2 = 0))) && (decide ((y5.1.length : Int) = 3))) && (decide (y0.2.2.2.2.2.2.2 = 0))))] (by kernel_rfl) ?_
     refine JH_cases 87 _ rfl (fun g83 => ?_) (fun g83 => ?_)
     ·have g83p : (((((y3.1 = { Shf.zero with top := 1, bottom := 3, amt := (-1) }) ∧ (y3.2.1 = 2)) ∧ (y4.2.2 = 4)) ∧ (y5.2 = 0)) ∧ ((y5.1.length : Int) = 3)) ∧ (y0.2.2.2.2.2.2.2 = 0) := by simpa using g83
      replace hR := bt hR g83
      refine htak 42 [bx b75 [iv y0.1, .slice (va r76.q) y0.2.1.length r76.k, iv y0.2.2.1, iv y0.2.2.2.1, bv y0.2.2.2.2.1, iv y0.2.2.2.2.2.1, sv y0.2.2.2.2.2.2.1] 53, bx b45 (cShf y4.1) 55, bx b30 (cShf y3.1) 55, bx b15 (cShf y1.1) 55] #[true, true, true, true, true, true, true, true, true, true, true, true, true, true, true, true, true, true, true, true, true, true, true, true, true, true, true, true, true, true, true, true, true, true, true, true, true, true, true, true, true, true, true, false, false, false, false, false, false, false, false, false] rfl rfl rfl (by kernel_rfl) (by kernel_rfl) (by kernel_rfl) (det_own_agg (us := [iv y0.1, .slice (va r76.q) y0.2.1.length r76.k, iv y0.2.2.1, iv y0.2.2.2.1, bv y0.2.2.2.2.1, iv y0.2.2.2.2.2.1, sv y0.2.2.2.2.2.2.1]) ty53 rfl rfl 0 rfl rfl rfl) ?_
      have hQ := bindVx hR; clear hR; obtain ⟨y12, hy12, hR⟩ := hQ
      refine hone 43 [bx b75 [iv y0.1, .slice (va r76.q) y0.2.1.length r76.k, iv y0.2.2.1, iv y0.2.2.2.1, bv y0.2.2.2.2.1, iv y0.2.2.2.2.2.1, sv y0.2.2.2.2.2.2.1] 53, bx b45 (cShf y4.1) 55, bx b30 (cShf y3.1) 55, bx b15 (cShf y1.1) 55] #[true, true, true, true, true, true, true, true, true, true, true, true, true, true, true, true, true, true, true, true, true, true, true, true, true, true, true, true, true, true, true, true, true, true, true, true, true, true, true, true, true, true, true, true, false, false, false, false, false, false, false, false] rfl rfl rfl (by kernel_rfl) (by kernel_rfl) (by kernel_rfl) (tri_callN (L2 := [bx b75 [iv y0.1, .slice (va r76.q) y0.2.1.length r76.k, iv y0.2.2.1, iv y0.2.2.2.1, bv y0.2.2.2.2.1, iv y0.2.2.2.2.2.1, sv y0.2.2.2.2.2.2.1] 53, bx b45 (cShf y4.1) 55, bx b30 (cShf y3.1) 55, bx b15 (cShf y1.1) 55]) (law28_of_c ([98, 99, 100, 32] : List UInt8) (by first | omega | decide) y12 hy12) rfl rfl rfl rfl rfl Foll.nil (List.Perm.refl _) (fun ⟨⟨q84, rs85, k86⟩, hp89⟩ => [bx b75 [iv y0.1, .slice (va r76.q) y0.2.1.length r76.k, iv y0.2.2.1, iv y0.2.2.2.1, bv y0.2.2.2.2.1, iv y0.2.2.2.2.2.1, sv y0.2.2.2.2.2.2.1] 53, bx b45 (cShf y4.1) 55, bx b30 (cShf y3.1) 55, bx b15 (cShf y1.1) 55]) (fun _ => rfl)) (fun ⟨⟨q84, rs85, k86⟩, hp89⟩ => (mk [true, true, true, true] rfl)) (fun ⟨⟨q84, rs85, k86⟩, hp89⟩ => (Foll.pick [2, 3, 4, 5, 6, 7, 8, 9, 10, 11, 12, 13, 14, 15, 16, 17, 18, 19, 20] rfl)) fun ⟨⟨q84, rs85, k86⟩, hp89⟩ => ?_
      obtain ⟨hr87, hc88, hl90⟩ := hp89
      have := hr87.1
      have := law28_of_title ([98, 99, 100, 32] : List UInt8); try rw [hy12] at this
      refine hone 44 [bx b75 [iv y0.1, .slice (va r76.q) y0.2.1.length r76.k, iv y0.2.2.1, iv y0.2.2.2.1, bv y0.2.2.2.2.1, iv y0.2.2.2.2.2.1, sv y0.2.2.2.2.2.2.1] 53, bx b45 (cShf y4.1) 55, bx b30 (cShf y3.1) 55, bx b15 (cShf y1.1) 55] #[true, true, true, true, true, true, true, true, true, true, true, true, true, true, true, true, true, true, true, true, true, true, true, true, true, true, true, true, true, true, true, true, true, true, true, true, true, true, true, true, true, true, true, true, true, false, false, false, false, false, false, false] rfl rfl rfl (by kernel_rfl) (by kernel_rfl) (by kernel_rfl) (Det.tri (det_call (ref23_Same_c y0.1 y0.2.1 (⟨y0.2.2.1, y0.2.2.2.1⟩ : Plc) y0.2.2.2.2.1 y0.2.2.2.2.2.1 y0.2.2.2.2.2.2.1 y12.1 y12.2.1 (⟨y12.2.2.1, y12.2.2.2.1⟩ : Plc) y12.2.2.2.2.1 y12.2.2.2.2.2.1 y12.2.2.2.2.2.2 (va r76.q) rs77 r76.k q84 rs85 k86 hw79 (by first | omega | (simp <;> omega) | (dsimp only; omega) | decide) (by first | omega | (simp <;> omega) | (dsimp only; omega) | decide) hr87 (by first | omega | (simp <;> omega) | (dsimp only; omega) | decide) (by first | omega | (simp <;> omega) | (dsimp only; omega) | decide) _ rfl) rfl rfl rfl rfl rfl (Foll.pick [2, 3, 0, 1] rfl))) (fun _ => (mk [true, true, true, true] rfl)) (fun _ => (Foll.pick [2, 3, 4, 5, 6, 7, 8, 9, 10, 11, 12, 13, 14, 15, 16, 17, 18, 19, 20] rfl)) fun _ => ?_
      refine hpur [45, 46] 5 #[true, true, true, true, true, true, true, true, true, true, true, true, true, true, true, true, true, true, true, true, true, true, true, true, true, true, true, true, true, true, true, true, true, true, true, true, true, true, true, true, true, true, true, true, true, true, true, false, false, false, false, false] [(92, bv (ref23_Same y0.1 y0.2.1 (⟨y0.2.2.1, y0.2.2.2.1⟩ : Plc) y0.2.2.2.2.1 y0.2.2.2.2.2.1 y0.2.2.2.2.2.2.1 y12.1 y12.2.1 (⟨y12.2.2.1, y12.2.2.2.1⟩ : Plc) y12.2.2.2.2.1 y12.2.2.2.2.2.1 y12.2.2.2.2.2.2))] (by kernel_rfl) ?_
      refine JH_cases 92 _ rfl (fun g91 => ?_) (fun g91 => ?_)
      ·replace hR := bt hR g91
       refine htak 47 [bx b75 [iv y0.1, .slice (va r76.q) y0.2.1.length r76.k, iv y0.2.2.1, iv y0.2.2.2.1, bv y0.2.2.2.2.1, iv y0.2.2.2.2.2.1, sv y0.2.2.2.2.2.2.1] 53, bx b45 (cShf y4.1) 55, bx b30 (cShf y3.1) 55, bx b15 (cShf y1.1) 55] #[true, true, true, true, true, true, true, true, true, true, true, true, true, true, true, true, true, true, true, true, true, true, true, true, true, true, true, true, true, true, true, true, true, true, true, true, true, true, true, true, true, true, true, true, true, true, true, true, false, false, false, false] rfl rfl rfl (by kernel_rfl) (by kernel_rfl) (by kernel_rfl) (det_build (cs := cShf ({ Shf.zero with top := 1, bottom := 2, amt := 2 })) rfl rfl (by kernel_rfl)) ?_
       refine hone 48 [bx b75 [iv y0.1, .slice (va r76.q) y0.2.1.length r76.k, iv y0.2.2.1, iv y0.2.2.2.1, bv y0.2.2.2.2.1, iv y0.2.2.2.2.2.1, sv y0.2.2.2.2.2.2.1] 53, bx b45 (cShf y4.1) 55, bx b30 (cShf y3.1) 55, bx b15 (cShf y1.1) 55] #[true, true, true, true, true, true, true, true, true, true, true, true, true, true, true, true, true, true, true, true, true, true, true, true, true, true, true, true, true, true, true, true, true, true, true, true, true, true, true, true, true, true, true, true, true, true, true, true, true, false, false, false] rfl rfl rfl (by kernel_rfl) (by kernel_rfl) (by kernel_rfl) (Det.tri (det_call (shift_Check_c ({ Shf.zero with top := 1, bottom := 2, amt := 2 }) 4 _ rfl) rfl rfl rfl rfl rfl Foll.nil)) (fun _ => (mk [true, true, true, true] rfl)) (fun _ => (Foll.pick [2, 3, 4, 5, 6, 7, 8, 9, 10, 11, 12, 13, 14, 15, 16, 17, 18, 19, 20] rfl)) fun _ => ?_
       refine hpur [49, 50, 51] 0 #[true, true, true, true, true, true, true, true, true, true, true, true, true, true, true, true, true, true, true, true, true, true, true, true, true, true, true, true, true, true, true, true, true, true, true, true, true, true, true, true, true, true, true, true, true, true, true, true, true, true, true, true] [(0, bv (decide ((shift_Check ({ Shf.zero with top := 1, bottom := 2, amt := 2 }) 4) = 2)))] (by kernel_rfl) ?_
       refine hend (by kernel_rfl) ?_
       refine J_ret ?_
       subst hR
       exact ends_ret rfl ⟨hr, hD⟩ (by simp [hD]) (res1 rfl (resV_tmp rfl)) () (by rfl) (mk [false, false, false, false] rfl) Foll.nil
      ·replace hR := bf hR g91
       refine hpur [47, 48, 49, 50, 51] 0 #[true, true, true, true, true, true, true, true, true, true, true, true, true, true, true, true, true, true, true, true, true, true, true, true, true, true, true, true, true, true, true, true, true, true, true, true, true, true, true, true, true, true, true, true, true, true, true, true, true, true, true, true] [(0, bv false)] (by kernel_rfl) ?_
       refine hend (by kernel_rfl) ?_
       refine J_ret ?_
       subst hR
       exact ends_ret rfl ⟨hr, hD⟩ (by simp [hD]) (res1 rfl (resV_tmp rfl)) () (by rfl) (mk [false, false, false, false] rfl) Foll.nil
     ·have g83p : ¬ ((((((y3.1 = { Shf.zero with top := 1, bottom := 3, amt := (-1) }) ∧ (y3.2.1 = 2)) ∧ (y4.2.2 = 4)) ∧ (y5.2 = 0)) ∧ ((y5.1.length : Int) = 3)) ∧ (y0.2.2.2.2.2.2.2 = 0)) := by simpa using g83
      replace hR := bf hR g83
      refine hpur [42, 43, 44, 45, 46, 47, 48, 49, 50, 51] 0 #[true, true, true, true, true, true, true, true, true, true, true, true, true, true, true, true, true, true, true, true, true, true, true, true, true, true, true, true, true, true, true, true, true, true, true, true, true, true, true, true, true, true, true, true, true, true, true, true, true, true, true, true] [(0, bv false)] (by kernel_rfl) ?_
      refine hend (by kernel_rfl) ?_
      refine J_ret ?_
      subst hR
      exact ends_ret rfl ⟨hr, hD⟩ (by simp [hD]) (res1 rfl (resV_tmp rfl)) () (by rfl) (mk [false, false, false, false] rfl) Foll.nil
    ·have g82p : ¬ (((y1.1 = { Shf.zero with bottom := 3, amt := 1 }) ∧ (y1.2.1 = 3)) ∧ (y3.2.2 = 0)) := by simpa using g82
     replace hR := bf hR g82
     refine hpur [16, 17, 18, 19, 20, 21, 22, 23, 24, 25, 26, 27, 28, 29, 30, 31, 32, 33, 34, 35, 36, 37, 38, 39, 40, 41, 42, 43, 44, 45, 46, 47, 48, 49, 50, 51] 0 #[true, true, true, true, true, true, true, true, true, true, true, true, true, true, true, true, true, true, true, true, true, true, true, true, true, true, true, true, true, true, true, true, true, true, true, true, true, true, true, true, true, true, true, true, true, true, true, true, true, true, true, true] [(0, bv false)] (by kernel_rfl) ?_
     refine hend (by kernel_rfl) ?_
     refine J_ret ?_
     subst hR
     exact ends_ret rfl ⟨hr, hD⟩ (by simp [hD]) (res1 rfl (resV_tmp rfl)) () (by rfl) (mk [false, false, false, false] rfl) Foll.nil
   ·have g81p : ¬ (y1.2.2 = 0) := by simpa using g81
    replace hR := bf hR g81
    refine hpur [3, 4, 5, 6, 7, 8, 9, 10, 11, 12, 13, 14, 15, 16, 17, 18, 19, 20, 21, 22, 23, 24, 25, 26, 27, 28, 29, 30, 31, 32, 33, 34, 35, 36, 37, 38, 39, 40, 41, 42, 43, 44, 45, 46, 47, 48, 49, 50, 51] 0 #[true, true, true, true, true, true, true, true, true, true, true, true, true, true, true, true, true, true, true, true, true, true, true, true, true, true, true, true, true, true, true, true, true, true, true, true, true, true, true, true, true, true, true, true, true, true, true, true, true, true, true, true] [(0, bv false)] (by kernel_rfl) ?_
    refine hend (by kernel_rfl) ?_
    refine J_ret ?_
    subst hR
    exact ends_ret rfl ⟨hr, hD⟩ (by simp [hD]) (res1 rfl (resV_tmp rfl)) () (by rfl) (mk [false, false, false, false] rfl) Foll.nil
 ·refine harm 6 [bx b45 (cShf y4.1) 55, bx b30 (cShf y3.1) 55, bx b15 (cShf y1.1) 55] #[false, true, false, false, false, false, true, false, false] rfl rfl rfl (by kernel_rfl) (by kernel_rfl) (by kernel_rfl) (tri_alloc (cs := [iv 0, .slice none 0 0, iv 0, iv 0, bv false, iv 0, sv ([] : List UInt8)]) zero53 rfl) (fun b92 => (mk [false, true, true, true] rfl)) (fun b92 => Foll.refl) fun b92 => ?_
  refine hone 0 [bx b45 (cShf y4.1) 55, bx b30 (cShf y3.1) 55, bx b15 (cShf y1.1) 55] #[true, true, false, false, false, false, true, false, false] rfl rfl rfl (by kernel_rfl) (by kernel_rfl) (by kernel_rfl) (tri_callN (L2 := [bx b92 [iv 0, .slice none 0 0, iv 0, iv 0, bv false, iv 0, sv ([] : List UInt8)] 53, bx b45 (cShf y4.1) 55, bx b30 (cShf y3.1) 55, bx b15 (cShf y1.1) 55]) (law28_of_c ([97, 98, 99, 100] : List UInt8) (by first | omega | decide) rof4 hrof4) rfl rfl rfl rfl rfl Foll.nil (List.Perm.refl _) (fun ⟨⟨q93, rs94, k95⟩, hp98⟩ => [bx b92 [iv 0, .slice none 0 0, iv 0, iv 0, bv false, iv 0, sv ([] : List UInt8)] 53, bx b45 (cShf y4.1) 55, bx b30 (cShf y3.1) 55, bx b15 (cShf y1.1) 55]) (fun _ => rfl)) (fun ⟨⟨q93, rs94, k95⟩, hp98⟩ => (mk [false, true, true, true] rfl)) (fun ⟨⟨q93, rs94, k95⟩, hp98⟩ => (Foll.pick [2, 3, 4, 5, 6, 7, 8, 9, 10, 11, 12, 13, 14, 15, 16] rfl)) fun ⟨⟨q93, rs94, k95⟩, hp98⟩ => ?_
  obtain ⟨hr96, hc97, hl99⟩ := hp98
  have := hr96.1
  have := law28_of_title ([97, 98, 99, 100] : List UInt8); try rw [hrof4] at this
  refine hone 2 [bx b45 (cShf y4.1) 55, bx b30 (cShf y3.1) 55, bx b15 (cShf y1.1) 55] #[true, true, true, false, false, false, true, false, false] rfl rfl rfl (by kernel_rfl) (by kernel_rfl) (by kernel_rfl) (tri_callP (L2 := [bx b92 [iv 0, .slice none 0 0, iv 0, iv 0, bv false, iv 0, sv ([] : List UInt8)] 53, bx b45 (cShf y4.1) 55, bx b30 (cShf y3.1) 55, bx b15 (cShf y1.1) 55]) (shift_Done_c rof4.1 rof4.2.1 (⟨rof4.2.2.1, rof4.2.2.2.1⟩ : Plc) rof4.2.2.2.2.1 rof4.2.2.2.2.2.1 rof4.2.2.2.2.2.2 y1.1 q93 rs94 k95 hr96 (by first | omega | (simp <;> omega) | (dsimp only; omega) | decide) (by first | omega | (simp <;> omega) | (dsimp only; omega) | decide) (by first | omega | (simp <;> omega)) y0 hy0) rfl rfl rfl rfl rfl (Foll.pick [0, 1, 15, 16] rfl) (List.Perm.refl _) (fun ⟨⟨r100, rs101⟩, hp104⟩ => (bx b92 [iv 0, .slice none 0 0, iv 0, iv 0, bv false, iv 0, sv ([] : List UInt8)] 53 :: bx b45 (cShf y4.1) 55 :: bx b30 (cShf y3.1) 55 :: bx b15 (cShf y1.1) 55 :: (vo cSlc 67 r100 rs101) ++ ([]))) (fun ⟨⟨r100, rs101⟩, hp104⟩ => permC [vo cSlc 67 r100 rs101, [bx b92 [iv 0, .slice none 0 0, iv 0, iv 0, bv false, iv 0, sv ([] : List UInt8)] 53], [bx b45 (cShf y4.1) 55], [bx b30 (cShf y3.1) 55], [bx b15 (cShf y1.1) 55]] [1, 2, 3, 4, 0] 5 rfl (by decide) (by first | rfl | simp only [List.flatten_cons, List.flatten_nil, List.append_nil, List.cons_append, List.nil_append, List.append_assoc]) [[bx b92 [iv 0, .slice none 0 0, iv 0, iv 0, bv false, iv 0, sv ([] : List UInt8)] 53], [bx b45 (cShf y4.1) 55], [bx b30 (cShf y3.1) 55], [bx b15 (cShf y1.1) 55], vo cSlc 67 r100 rs101] rfl (by first | rfl | simp only [List.flatten_cons, List.flatten_nil, List.append_nil, List.cons_append, List.nil_append, List.append_assoc]))) (fun ⟨⟨r100, rs101⟩, hp104⟩ => (mc [[bx b92 [iv 0, .slice none 0 0, iv 0, iv 0, bv false, iv 0, sv ([] : List UInt8)] 53], [bx b45 (cShf y4.1) 55], [bx b30 (cShf y3.1) 55], [bx b15 (cShf y1.1) 55], vo cSlc 67 r100 rs101] [false, true, true, true, false] rfl (by first | rfl | (simp only [List.length_set] <;> rfl)))) (fun ⟨⟨r100, rs101⟩, hp104⟩ => (Foll.pick [3, 4, 5, 6, 7, 8, 9, 10, 11, 12, 13, 14, 15, 16, 17] rfl)) fun ⟨⟨r100, rs101⟩, hp104⟩ => ?_
  try dsimp only at hp104
  obtain ⟨hk102, hw103⟩ := hp104
  have := VOk.le hk102
  have := VOk.cap hk102
  have := hw103.1
  have := shift_Done_title rof4.1 rof4.2.1 (⟨rof4.2.2.1, rof4.2.2.2.1⟩ : Plc) rof4.2.2.2.2.1 rof4.2.2.2.2.2.1 rof4.2.2.2.2.2.2 y1.1; try rw [hy0] at this
  refine hpur [3, 4, 5] 2 #[true, true, true, true, true, true, true, false, false] [(44, ag [iv y0.1, .slice (va r100.q) y0.2.1.length r100.k, iv y0.2.2.1, iv y0.2.2.2.1, bv y0.2.2.2.2.1, iv y0.2.2.2.2.2.1, sv y0.2.2.2.2.2.2.1]), (45, iv y0.2.2.2.2.2.2.2)] (by kernel_rfl) ?_
  refine hone 7 [bx b45 (cShf y4.1) 55, bx b30 (cShf y3.1) 55, bx b15 (cShf y1.1) 55] #[true, true, true, true, true, true, true, true, false] rfl rfl rfl (by kernel_rfl) (by kernel_rfl) (by kernel_rfl) (tri_store (us := [iv y0.1, .slice (va r100.q) y0.2.1.length r100.k, iv y0.2.2.1, iv y0.2.2.2.1, bv y0.2.2.2.2.1, iv y0.2.2.2.2.2.1, sv y0.2.2.2.2.2.2.1]) (cs' := [iv y0.1, .slice (va r100.q) y0.2.1.length r100.k, iv y0.2.2.1, iv y0.2.2.2.1, bv y0.2.2.2.2.1, iv y0.2.2.2.2.2.1, sv y0.2.2.2.2.2.2.1]) ty53 rfl rfl rfl 0 rfl rfl rfl rfl rfl rfl) (fun _ => (mc [[bx b92 [iv y0.1, .slice (va r100.q) y0.2.1.length r100.k, iv y0.2.2.1, iv y0.2.2.2.1, bv y0.2.2.2.2.1, iv y0.2.2.2.2.2.1, sv y0.2.2.2.2.2.2.1] 53], [bx b45 (cShf y4.1) 55], [bx b30 (cShf y3.1) 55], [bx b15 (cShf y1.1) 55], vo cSlc 67 r100 rs101] [false, true, true, true, false] rfl (by first | rfl | (simp only [List.length_set] <;> rfl)))) (fun _ => (Foll.pick [3, 4, 5, 6, 7, 8, 9, 10, 11, 12, 13, 14, 15, 16, 17] rfl)) fun _ => ?_
  refine hpur [8] 0 #[true, true, true, true, true, true, true, true, true] [(13, iv y0.2.2.2.2.2.2.2)] (by kernel_rfl) ?_
  refine hend (by kernel_rfl) ?_
  have := VOk.cap hk102
  have := VOk.le hk102
  refine J_seal [bx b92 [iv y0.1, .slice (va r100.q) y0.2.1.length r100.k, iv y0.2.2.1, iv y0.2.2.2.1, bv y0.2.2.2.2.1, iv y0.2.2.2.2.2.1, sv y0.2.2.2.2.2.2.1] 53, bx b45 (cShf y4.1) 55, bx b30 (cShf y3.1) 55, bx b15 (cShf y1.1) 55] [] (T := 67) (c := cSlc) (r := r100) (xs := rs101) (VOk.cast hk102 (by rw [hw103.1])) (by first | rfl | simp only [List.cons_append, List.append_assoc, List.nil_append, List.append_nil]) ?_
  refine sh 52 [(52, [bx b92 [iv y0.1, .slice (va r100.q) y0.2.1.length r100.k, iv y0.2.2.1, iv y0.2.2.2.1, bv y0.2.2.2.2.1, iv y0.2.2.2.2.2.1, sv y0.2.2.2.2.2.2.1] 53]), (52, [bx b45 (cShf y4.1) 55]), (52, [bx b30 (cShf y3.1) 55]), (52, [bx b15 (cShf y1.1) 55])] [sl cSlc (va r100.q) rs101, rowsF cCel rs101 y0.2.1, sl cSlc q93 rs94, rowsF cCel rs94 rof4.2.1, sl cAct q46 y5.1, sl cSlc q38 rs39, rowsF cCel rs39 y8.2.1, sl cSlc q31 rs32, rowsF cCel rs32 y10.2.1, sl cSlc q23 rs24, rowsF cCel rs24 y7.2.1, sl cSlc q16 rs17, rowsF cCel rs17 y11.2.1, sl cSlc q8 rs9, rowsF cCel rs9 y9.2.1, sl cSlc q1 rs2, rowsF cCel rs2 y2.2.1, sl cSpn (some ⟨0, 0, none⟩) tab0, sl cSpn (some ⟨1, 0, none⟩) tab1] [bx b92 [iv y0.1, .slice (va r100.q) y0.2.1.length r100.k, iv y0.2.2.1, iv y0.2.2.2.1, bv y0.2.2.2.2.1, iv y0.2.2.2.2.2.1, sv y0.2.2.2.2.2.2.1] 53, bx b45 (cShf y4.1) 55, bx b30 (cShf y3.1) 55, bx b15 (cShf y1.1) 55] #[false, false, false, false, false, false, false, false, false, false, false, false, false, false, false, false, false, false, false, false, false, false, false, false, false, false, false, false, false, false, false, false, false, false, false, false, false, false, false, false, false, false, false, false, false, false, false, false, false, false, false, false] (by kernel_rfl) rfl (by kernel_rfl) (by kernel_rfl) (by kernel_rfl) (mk [true, true, true, true] rfl) Foll.refl ?_
  refine hpur [0, 1, 2] 49 #[true, true, true, false, false, false, false, false, false, false, false, false, false, false, false, false, false, false, false, false, false, false, false, false, false, false, false, false, false, false, false, false, false, false, false, false, false, false, false, false, false, false, false, false, false, false, false, false, false, false, false, false] [(48, bv (decide (y1.2.2 = 0)))] (by kernel_rfl) ?_
  refine JH_cases 48 _ rfl (fun g105 => ?_) (fun g105 => ?_)
  ·have g105p : y1.2.2 = 0 := by simpa using g105
   replace hR := bt hR g105
   refine htak 3 [bx b92 [iv y0.1, .slice (va r100.q) y0.2.1.length r100.k, iv y0.2.2.1, iv y0.2.2.2.1, bv y0.2.2.2.2.1, iv y0.2.2.2.2.2.1, sv y0.2.2.2.2.2.2.1] 53, bx b45 (cShf y4.1) 55, bx b30 (cShf y3.1) 55, bx b15 (cShf y1.1) 55] #[true, true, true, true, false, false, false, false, false, false, false, false, false, false, false, false, false, false, false, false, false, false, false, false, false, false, false, false, false, false, false, false, false, false, false, false, false, false, false, false, false, false, false, false, false, false, false, false, false, false, false, false] rfl rfl rfl (by kernel_rfl) (by kernel_rfl) (by kernel_rfl) (det_own_agg (us := cShf y1.1) ty55 rfl rfl 3 rfl rfl rfl) ?_
   refine htak 4 [bx b92 [iv y0.1, .slice (va r100.q) y0.2.1.length r100.k, iv y0.2.2.1, iv y0.2.2.2.1, bv y0.2.2.2.2.1, iv y0.2.2.2.2.2.1, sv y0.2.2.2.2.2.2.1] 53, bx b45 (cShf y4.1) 55, bx b30 (cShf y3.1) 55, bx b15 (cShf y1.1) 55] #[true, true, true, true, true, false, false, false, false, false, false, false, false, false, false, false, false, false, false, false, false, false, false, false, false, false, false, false, false, false, false, false, false, false, false, false, false, false, false, false, false, false, false, false, false, false, false, false, false, false, false, false] rfl rfl rfl (by kernel_rfl) (by kernel_rfl) (by kernel_rfl) (det_build (cs := cShf ({ Shf.zero with bottom := 3, amt := 1 })) rfl rfl (by kernel_rfl)) ?_
   refine htak 5 [bx b92 [iv y0.1, .slice (va r100.q) y0.2.1.length r100.k, iv y0.2.2.1, iv y0.2.2.2.1, bv y0.2.2.2.2.1, iv y0.2.2.2.2.2.1, sv y0.2.2.2.2.2.2.1] 53, bx b45 (cShf y4.1) 55, bx b30 (cShf y3.1) 55, bx b15 (cShf y1.1) 55] #[true, true, true, true, true, true, false, false, false, false, false, false, false, false, false, false, false, false, false, false, false, false, false, false, false, false, false, false, false, false, false, false, false, false, false, false, false, false, false, false, false, false, false, false, false, false, false, false, false, false, false, false] rfl rfl rfl (by kernel_rfl) (by kernel_rfl) (by kernel_rfl) (det_eqs (a := y1.1) (b := { Shf.zero with bottom := 3, amt := 1 }) eqt55 rfl rfl rfl) ?_
   refine hpur [6, 7] 44 #[true, true, true, true, true, true, true, true, false, false, false, false, false, false, false, false, false, false, false, false, false, false, false, false, false, false, false, false, false, false, false, false, false, false, false, false, false, false, false, false, false, false, false, false, false, false, false, false, false, false, false, false] [(53, bv (decide (y1.1 = { Shf.zero with bottom := 3, amt := 1 })))] (by kernel_rfl) ?_
   refine hpandA [8, 9, 10] 41 #[true, true, true, true, true, true, true, true, true, true, true, false, false, false, false, false, false, false, false, false, false, false, false, false, false, false, false, false, false, false, false, false, false, false, false, false, false, false, false, false, false, false, false, false, false, false, false, false, false, false, false, false] 53 56 (decide (y1.2.1 = 3)) rfl (by kernel_rfl) (by kernel_rfl) ?_
   refine hpur [11] 40 #[true, true, true, true, true, true, true, true, true, true, true, true, false, false, false, false, false, false, false, false, false, false, false, false, false, false, false, false, false, false, false, false, false, false, false, false, false, false, false, false, false, false, false, false, false, false, false, false, false, false, false, false] [(57, bv ((decide (y1.1 = { Shf.zero with bottom := 3, amt := 1 })) && (decide (y1.2.1 = 3))))] (by kernel_rfl) ?_
   refine hpandA [12, 13, 14] 37 #[true, true, true, true, true, true, true, true, true, true, true, true, true, true, true, false, false, false, false, false, false, false, false, false, false, false, false, false, false, false, false, false, false, false, false, false, false, false, false, false, false, false, false, false, false, false, false, false, false, false, false, false] 57 60 (decide (y3.2.2 = 0)) rfl (by kernel_rfl) (by kernel_rfl) ?_
   refine hpur [15] 36 #[true, true, true, true, true, true, true, true, true, true, true, true, true, true, true, true, false, false, false, false, false, false, false, false, false, false, false, false, false, false, false, false, false, false, false, false, false, false, false, false, false, false, false, false, false, false, false, false, false, false, false, false] [(61, bv (((decide (y1.1 = { Shf.zero with bottom := 3, amt := 1 })) && (decide (y1.2.1 = 3))) && (decide (y3.2.2 = 0))))] (by kernel_rfl) ?_
   refine JH_cases 61 _ rfl (fun g106 => ?_) (fun g106 => ?_)
   ·have g106p : ((y1.1 = { Shf.zero with bottom := 3, amt := 1 }) ∧ (y1.2.1 = 3)) ∧ (y3.2.2 = 0) := by simpa using g106
    replace hR := bt hR g106
    refine htak 16 [bx b92 [iv y0.1, .slice (va r100.q) y0.2.1.length r100.k, iv y0.2.2.1, iv y0.2.2.2.1, bv y0.2.2.2.2.1, iv y0.2.2.2.2.2.1, sv y0.2.2.2.2.2.2.1] 53, bx b45 (cShf y4.1) 55, bx b30 (cShf y3.1) 55, bx b15 (cShf y1.1) 55] #[true, true, true, true, true, true, true, true, true, true, true, true, true, true, true, true, true, false, false, false, false, false, false, false, false, false, false, false, false, false, false, false, false, false, false, false, false, false, false, false, false, false, false, false, false, false, false, false, false, false, false, false] rfl rfl rfl (by kernel_rfl) (by kernel_rfl) (by kernel_rfl) (det_own_agg (us := cShf y3.1) ty55 rfl rfl 2 rfl rfl rfl) ?_
    refine htak 17 [bx b92 [iv y0.1, .slice (va r100.q) y0.2.1.length r100.k, iv y0.2.2.1, iv y0.2.2.2.1, bv y0.2.2.2.2.1, iv y0.2.2.2.2.2.1, sv y0.2.2.2.2.2.2.1] 53, bx b45 (cShf y4.1) 55, bx b30 (cShf y3.1) 55, bx b15 (cShf y1.1) 55] #[true, true, true, true, true, true, true, true, true, true, true, true, true, true, true, true, true, true, false, false, false, false, false, false, false, false, false, false, false, false, false, false, false, false, false, false, false, false, false, false, false, false, false, false, false, false, false, false, false, false, false, false] rfl rfl rfl (by kernel_rfl) (by kernel_rfl) (by kernel_rfl) (det_build (cs := cShf ({ Shf.zero with top := 1, bottom := 3, amt := (-1) })) rfl rfl (by kernel_rfl)) ?_
    refine htak 18 [bx b92 [iv y0.1, .slice (va r100.q) y0.2.1.length r100.k, iv y0.2.2.1, iv y0.2.2.2.1, bv y0.2.2.2.2.1, iv y0.2.2.2.2.2.1, sv y0.2.2.2.2.2.2.1] 53, bx b45 (cShf y4.1) 55, bx b30 (cShf y3.1) 55, bx b15 (cShf y1.1) 55] #[true, true, true, true, true, true, true, true, true, true, true, true, true, true, true, true, true, true, true, false, false, false, false, false, false, false, false, false, false, false, false, false, false, false, false, false, false, false, false, false, false, false, false, false, false, false, false, false, false, false, false, false] rfl rfl rfl (by kernel_rfl) (by kernel_rfl) (by kernel_rfl) (det_eqs (a := y3.1) (b := { Shf.zero with top := 1, bottom := 3, amt := (-1) }) eqt55 rfl rfl rfl) ?_
    refine hpur [19, 20] 31 #[true, true, true, true, true, true, true, true, true, true, true, true, true, true, true, true, true, true, true, true, true, false, false, false, false, false, false, false, false, false, false, false, false, false, false, false, false, false, false, false, false, false, false, false, false, false, false, false, false, false, false, false] [(66, bv (decide (y3.1 = { Shf.zero with top := 1, bottom := 3, amt := (-1) })))] (by kernel_rfl) ?_
    refine hpandA [21, 22, 23] 28 #[true, true, true, true, true, true, true, true, true, true, true, true, true, true, true, true, true, true, true, true, true, true, true, true, false, false, false, false, false, false, false, false, false, false, false, false, false, false, false, false, false, false, false, false, false, false, false, false, false, false, false, false] 66 69 (decide (y3.2.1 = 2)) rfl (by kernel_rfl) (by kernel_rfl) ?_
    refine hpur [24] 27 #[true, true, true, true, true, true, true, true, true, true, true, true, true, true, true, true, true, true, true, true, true, true, true, true, true, false, false, false, false, false, false, false, false, false, false, false, false, false, false, false, false, false, false, false, false, false, false, false, false, false, false, false] [(70, bv ((decide (y3.1 = { Shf.zero with top := 1, bottom := 3, amt := (-1) })) && (decide (y3.2.1 = 2))))] (by kernel_rfl) ?_
    refine hpandA [25, 26, 27] 24 #[true, true, true, true, true, true, true, true, true, true, true, true, true, true, true, true, true, true, true, true, true, true, true, true, true, true, true, true, false, false, false, false, false, false, false, false, false, false, false, false, false, false, false, false, false, false, false, false, false, false, false, false] 70 73 (decide (y4.2.2 = 4)) rfl (by kernel_rfl) (by kernel_rfl) ?_
    refine hpur [28] 23 #[true, true, true, true, true, true, true, true, true, true, true, true, true, true, true, true, true, true, true, true, true, true, true, true, true, true, true, true, true, false, false, false, false, false, false, false, false, false, false, false, false, false, false, false, false, false, false, false, false, false, false, false] [(74, bv (((decide (y3.1 = { Shf.zero with top := 1, bottom := 3, amt := (-1) })) && (decide (y3.2.1 = 2))) && (decide (y4.2.2 = 4))))] (by kernel_rfl) ?_
    refine hpandA [29, 30, 31] 20 #[true, true, true, true, true, true, true, true, true, true, true, true, true, true, true, true, true, true, true, true, true, true, true, true, true, true, true, true, true, true, true, true, false, false, false, false, false, false, false, false, false, false, false, false, false, false, false, false, false, false, false, false] 74 77 (decide (y5.2 = 0)) rfl (by kernel_rfl) (by kernel_rfl) ?_
    refine hpur [32] 19 #[true, true, true, true, true, true, true, true, true, true, true, true, true, true, true, true, true, true, true, true, true, true, true, true, true, true, true, true, true, true, true, true, true, false, false, false, false, false, false, false, false, false, false, false, false, false, false, false, false, false, false, false] [(78, bv ((((decide (y3.1 = { Shf.zero with top := 1, bottom := 3, amt := (-1) })) && (decide (y3.2.1 = 2))) && (decide (y4.2.2 = 4))) && (decide (y5.2 = 0))))] (by kernel_rfl) ?_
    refine hpandA [33, 34, 35, 36] 15 #[true, true, true, true, true, true, true, true, true, true, true, true, true, true, true, true, true, true, true, true, true, true, true, true, true, true, true, true, true, true, true, true, true, true, true, true, true, false, false, false, false, false, false, false, false, false, false, false, false, false, false, false] 78 82 (decide ((y5.1.length : Int) = 3)) rfl (by kernel_rfl) (by kernel_rfl) ?_
    refine hpur [37] 14 #[true, true, true, true, true, true, true, true, true, true, true, true, true, true, true, true, true, true, true, true, true, true, true, true, true, true, true, true, true, true, true, true, true, true, true, true, true, true, false, false, false, false, false, false, false, false, false, false, false, false, false, false] [(83, bv (((((decide (y3.1 = { Shf.zero with top := 1, bottom := 3, amt := (-1) })) && (decide (y3.2.1 = 2))) && (decide (y4.2.2 = 4))) && (decide (y5.2 = 0))) && (decide ((y5.1.length : Int) = 3))))] (by kernel_rfl) ?_
    refine hpandA [38, 39, 40] 11 #[true, true, true, true, true, true, true, true, true, true, true, true, true, true, true, true, true, true, true, true, true, true, true, true, true, true, true, true, true, true, true, true, true, true, true, true, true, true, true, true, true, false, false, false, false, false, false, false, false, false, false, false] 83 86 (decide (y0.2.2.2.2.2.2.2 = 0)) rfl (by kernel_rfl) (by kernel_rfl) ?_
    refine hpur [41] 10 #[true, true, true, true, true, true, true, true, true, true, true, true, true, true, true, true, true, true, true, true, true, true, true, true, true, true, true, true, true, true, true, true, true, true, true, true, true, true, true, true, true, true, false, false, false, false, false, false, false, false, false, false] [(87, bv ((((((decide (y3.1 = { Shf.zero with top := 1, bottom := 3, amt := (-1) })) && (decide (y3.2.1 = 2))) && (decide (y4.2.2 = 4))) && (decide (y5.2 = 0))) && (decide ((y5.1.length : Int) = 3))) && (decide (y0.2.2.2.2.2.2.2 = 0))))] (by kernel_rfl) ?_
    refine JH_cases 87 _ rfl (fun g107 => ?_) (fun g107 => ?_)
    ·have g107p : (((((y3.1 = { Shf.zero with top := 1, bottom := 3, amt := (-1) }) ∧ (y3.2.1 = 2)) ∧ (y4.2.2 = 4)) ∧ (y5.2 = 0)) ∧ ((y5.1.length : Int) = 3)) ∧ (y0.2.2.2.2.2.2.2 = 0) := by simpa using g107
     replace hR := bt hR g107
     refine htak 42 [bx b92 [iv y0.1, .slice (va r100.q) y0.2.1.length r100.k, iv y0.2.2.1, iv y0.2.2.2.1, bv y0.2.2.2.2.1, iv y0.2.2.2.2.2.1, sv y0.2.2.2.2.2.2.1] 53, bx b45 (cShf y4.1) 55, bx b30 (cShf y3.1) 55, bx b15 (cShf y1.1) 55] #[true, true, true, true, true, true, true, true, true, true, true, true, true, true, true, true, true, true, true, true, true, true, true, true, true, true, true, true, true, true, true, true, true, true, true, true, true, true, true, true, true, true, true, false, false, false, false, false, false, false, false, false] rfl rfl rfl (by kernel_rfl) (by kernel_rfl) (by kernel_rfl) (det_own_agg (us := [iv y0.1, .slice (va r100.q) y0.2.1.length r100.k, iv y0.2.2.1, iv y0.2.2.2.1, bv y0.2.2.2.2.1, iv y0.2.2.2.2.2.1, sv y0.2.2.2.2.2.2.1]) ty53 rfl rfl 0 rfl rfl rfl) ?_
     have hQ := bindVx hR; clear hR; obtain ⟨y13, hy13, hR⟩ := hQ
     refine hone 43 [bx b92 [iv y0.1, .slice (va r100.q) y0.2.1.length r100.k, iv y0.2.2.1, iv y0.2.2.2.1, bv y0.2.2.2.2.1, iv y0.2.2.2.2.2.1, sv y0.2.2.2.2.2.2.1] 53, bx b45 (cShf y4.1) 55, bx b30 (cShf y3.1) 55, bx b15 (cShf y1.1) 55] #[true, true, true, true, true, true, true, true, true, true, true, true, true, true, true, true, true, true, true, true, true, true, true, true, true, true, true, true, true, true, true, true, true, true, true, true, true, true, true, true, true, true, true, true, false, false, false, false, false, false, false, false] rfl rfl rfl (by kernel_rfl) (by kernel_rfl) (by kernel_rfl) (tri_callN (L2 := [bx b92 [iv y0.1, .slice (va r100.q) y0.2.1.length r100.k, iv y0.2.2.1, iv y0.2.2.2.1, bv y0.2.2.2.2.1, iv y0.2.2.2.2.2.1, sv y0.2.2.2.2.2.2.1] 53, bx b45 (cShf y4.1) 55, bx b30 (cShf y3.1) 55, bx b15 (cShf y1.1) 55]) (law28_of_c ([98, 99, 100, 32] : List UInt8) (by first | omega | decide) y13 hy13) rfl rfl rfl rfl rfl Foll.nil (List.Perm.refl _) (fun ⟨⟨q108, rs109, k110⟩, hp113⟩ => [bx b92 [iv y0.1, .slice (va r100.q) y0.2.1.length r100.k, iv y0.2.2.1, iv y0.2.2.2.1, bv y0.2.2.2.2.1, iv y0.2.2.2.2.2.1, sv y0.2.2.2.2.2.2.1] 53, bx b45 (cShf y4.1) 55, bx b30 (cShf y3.1) 55, bx b15 (cShf y1.1) 55]) (fun _ => rfl)) (fun ⟨⟨q108, rs109, k110⟩, hp113⟩ => (mk [true, true, true, true] rfl)) (fun ⟨⟨q108, rs109, k110⟩, hp113⟩ => (Foll.pick [2, 3, 4, 5, 6, 7, 8, 9, 10, 11, 12, 13, 14, 15, 16, 17, 18, 19, 20] rfl)) fun ⟨⟨q108, rs109, k110⟩, hp113⟩ => ?_
     obtain ⟨hr111, hc112, hl114⟩ := hp113
     have := hr111.1
     have := law28_of_title ([98, 99, 100, 32] : List UInt8); try rw [hy13] at this
     refine hone 44 [bx b92 [iv y0.1, .slice (va r100.q) y0.2.1.length r100.k, iv y0.2.2.1, iv y0.2.2.2.1, bv y0.2.2.2.2.1, iv y0.2.2.2.2.2.1, sv y0.2.2.2.2.2.2.1] 53, bx b45 (cShf y4.1) 55, bx b30 (cShf y3.1) 55, bx b15 (cShf y1.1) 55] #[true, true, true, true, true, true, true, true, true, true, true, true, true, true, true, true, true, true, true, true, true, true, true, true, true, true, true, true, true, true, true, true, true, true, true, true, true, true, true, true, true, true, true, true, true, false, false, false, false, false, false, false] rfl rfl rfl (by kernel_rfl) (by kernel_rfl) (by kernel_rfl) (Det.tri (det_call (ref23_Same_c y0.1 y0.2.1 (⟨y0.2.2.1, y0.2.2.2.1⟩ : Plc) y0.2.2.2.2.1 y0.2.2.2.2.2.1 y0.2.2.2.2.2.2.1 y13.1 y13.2.1 (⟨y13.2.2.1, y13.2.2.2.1⟩ : Plc) y13.2.2.2.2.1 y13.2.2.2.2.2.1 y13.2.2.2.2.2.2 (va r100.q) rs101 r100.k q108 rs109 k110 hw103 (by first | omega | (simp <;> omega) | (dsimp only; omega) | decide) (by first | omega | (simp <;> omega) | (dsimp only; omega) | decide) hr111 (by first | omega | (simp <;> omega) | (dsimp only; omega) | decide) (by first | omega | (simp <;> omega) | (dsimp only; omega) | decide) _ rfl) rfl rfl rfl rfl rfl (Foll.pick [2, 3, 0, 1] rfl))) (fun _ => (mk [true, true, true, true] rfl)) (fun _ => (Foll.pick [2, 3, 4, 5, 6, 7, 8, 9, 10, 11, 12, 13, 14, 15, 16, 17, 18, 19, 20] rfl)) fun _ => ?_
     refine hpur [45, 46] 5 #[true, true, true, true, true, true, true, true, true, true, true, true, true, true, true, true, true, true, true, true, true, true, true, true, true, true, true, true, true, true, true, true, true, true, true, true, true, true, true, true, true, true, true, true, true, true, true, false, false, false, false, false] [(92, bv (ref23_Same y0.1 y0.2.1 (⟨y0.2.2.1, y0.2.2.2.1⟩ : Plc) y0.2.2.2.2.1 y0.2.2.2.2.2.1 y0.2.2.2.2.2.2.1 y13.1 y13.2.1 (⟨y13.2.2.1, y13.2.2.2.1⟩ : Plc) y13.2.2.2.2.1 y13.2.2.2.2.2.1 y13.2.2.2.2.2.2))] (by kernel_rfl) ?_
     refine JH_cases 92 _ rfl (fun g115 => ?_) (fun g115 => ?_)
     ·replace hR := bt hR g115
      refine htak 47 [bx b92 [iv y0.1, .slice (va r100.q) y0.2.1.length r100.k, iv y0.2.2.1, iv y0.2.2.2.1, bv y0.2.2.2.2.1, iv y0.2.2.2.2.2.1, sv y0.2.2.2.2.2.2.1] 53, bx b45 (cShf y4.1) 55, bx b30 (cShf y3.1) 55, bx b15 (cShf y1.1) 55] #[true, true, true, true, true, true, true, true, true, true, true, true, true, true, true, true, true, true, true, true, true, true, true, true, true, true, true, true, true, true, true, true, true, true, true, true, true, true, true, true, true, true, true, true, true, true, true, true, false, false, false, false] rfl rfl rfl (by kernel_rfl) (by kernel_rfl) (by kernel_rfl) (det_build (cs := cShf ({ Shf.zero with top := 1, bottom := 2, amt := 2 })) rfl rfl (by kernel_rfl)) ?_
      refine hone 48 [bx b92 [iv y0.1, .slice (va r100.q) y0.2.1.length r100.k, iv y0.2.2.1, iv y0.2.2.2.1, bv y0.2.2.2.2.1, iv y0.2.2.2.2.2.1, sv y0.2.2.2.2.2.2.1] 53, bx b45 (cShf y4.1) 55, bx b30 (cShf y3.1) 55, bx b15 (cShf y1.1) 55] #[true, true, true, true, true, true, true, true, true, true, true, true, true, true, true, true, true, true, true, true, true, true, true, true, true, true, true, true, true, true, true, true, true, true, true, true, true, true, true, true, true, true, true, true, true, true, true, true, true, false, false, false] rfl rfl rfl (by kernel_rfl) (by kernel_rfl) (by kernel_rfl) (Det.tri (det_call (shift_Check_c ({ Shf.zero with top := 1, bottom := 2, amt := 2 }) 4 _ rfl) rfl rfl rfl rfl rfl Foll.nil)) (fun _ => (mk [true, true, true, true] rfl)) (fun _ => (Foll.pick [2, 3, 4, 5, 6, 7, 8, 9, 10, 11, 12, 13, 14, 15, 16, 17, 18, 19, 20] rfl)) fun _ => ?_
      refine hpur [49, 50, 51] 0 #[true, true, true, true, true, true, true, true, true, true, true, true, true, true, true, true, true, true, true, true, true, true, true, true, true, true, true, true, true, true, true, true, true, true, true, true, true, true, true, true, true, true, true, true, true, true, true, true, true, true, true, true] [(0, bv (decide ((shift_Check ({ Shf.zero with top := 1, bottom := 2, amt := 2 }) 4) = 2)))] (by kernel_rfl) ?_
      refine hend (by kernel_rfl) ?_
      refine J_ret ?_
      subst hR
      exact ends_ret rfl ⟨hr, hD⟩ (by simp [hD]) (res1 rfl (resV_tmp rfl)) () (by rfl) (mk [false, false, false, false] rfl) Foll.nil
     ·replace hR := bf hR g115
      refine hpur [47, 48, 49, 50, 51] 0 #[true, true, true, true, true, true, true, true, true, true, true, true, true, true, true, true, true, true, true, true, true, true, true, true, true, true, true, true, true, true, true, true, true, true, true, true, true, true, true, true, true, true, true, true, true, true, true, true, true, true, true, true] [(0, bv false)] (by kernel_rfl) ?_
      refine hend (by kernel_rfl) ?_
      refine J_ret ?_
      subst hR
      exact ends_ret rfl ⟨hr, hD⟩ (by simp [hD]) (res1 rfl (resV_tmp rfl)) () (by rfl) (mk [false, false, false, false] rfl) Foll.nil
    ·have g107p : ¬ ((((((y3.1 = { Shf.zero with top := 1, bottom := 3, amt := (-1) }) ∧ (y3.2.1 = 2)) ∧ (y4.2.2 = 4)) ∧ (y5.2 = 0)) ∧ ((y5.1.length : Int) = 3)) ∧ (y0.2.2.2.2.2.2.2 = 0)) := by simpa using g107
     replace hR := bf hR g107
     refine hpur [42, 43, 44, 45, 46, 47, 48, 49, 50, 51] 0 #[true, true, true, true, true, true, true, true, true, true, true, true, true, true, true, true, true, true, true, true, true, true, true, true, true, true, true, true, true, true, true, true, true, true, true, true, true, true, true, true, true, true, true, true, true, true, true, true, true, true, true, true] [(0, bv false)] (by kernel_rfl) ?_
     refine hend (by kernel_rfl) ?_
     refine J_ret ?_
     subst hR
     exact ends_ret rfl ⟨hr, hD⟩ (by simp [hD]) (res1 rfl (resV_tmp rfl)) () (by rfl) (mk [false, false, false, false] rfl) Foll.nil
   ·have g106p : ¬ (((y1.1 = { Shf.zero with bottom := 3, amt := 1 }) ∧ (y1.2.1 = 3)) ∧ (y3.2.2 = 0)) := by simpa using g106
    replace hR := bf hR g106
    refine hpur [16, 17, 18, 19, 20, 21, 22, 23, 24, 25, 26, 27, 28, 29, 30, 31, 32, 33, 34, 35, 36, 37, 38, 39, 40, 41, 42, 43, 44, 45, 46, 47, 48, 49, 50, 51] 0 #[true, true, true, true, true, true, true, true, true, true, true, true, true, true, true, true, true, true, true, true, true, true, true, true, true, true, true, true, true, true, true, true, true, true, true, true, true, true, true, true, true, true, true, true, true, true, true, true, true, true, true, true] [(0, bv false)] (by kernel_rfl) ?_
    refine hend (by kernel_rfl) ?_
    refine J_ret ?_
    subst hR
    exact ends_ret rfl ⟨hr, hD⟩ (by simp [hD]) (res1 rfl (resV_tmp rfl)) () (by rfl) (mk [false, false, false, false] rfl) Foll.nil
  ·have g105p : ¬ (y1.2.2 = 0) := by simpa using g105
   replace hR := bf hR g105
   refine hpur [3, 4, 5, 6, 7, 8, 9, 10, 11, 12, 13, 14, 15, 16, 17, 18, 19, 20, 21, 22, 23, 24, 25, 26, 27, 28, 29, 30, 31, 32, 33, 34, 35, 36, 37, 38, 39, 40, 41, 42, 43, 44, 45, 46, 47, 48, 49, 50, 51] 0 #[true, true, true, true, true, true, true, true, true, true, true, true, true, true, true, true, true, true, true, true, true, true, true, true, true, true, true, true, true, true, true, true, true, true, true, true, true, true, true, true, true, true, true, true, true, true, true, true, true, true, true, true] [(0, bv false)] (by kernel_rfl) ?_
   refine hend (by kernel_rfl) ?_
   refine J_ret ?_
   subst hR
   exact ends_ret rfl ⟨hr, hD⟩ (by simp [hD]) (res1 rfl (resV_tmp rfl)) () (by rfl) (mk [false, false, false, false] rfl) Foll.nil

end Go.Proofs.YtinkdfnpmoljfaaGreatDoor

