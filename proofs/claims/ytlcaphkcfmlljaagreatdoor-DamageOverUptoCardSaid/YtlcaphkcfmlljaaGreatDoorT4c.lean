import Derived.Test.YtlcaphkcfmlljaaGreatDoorD2
import Derived.Test.YtlcaphkcfmlljaaGreatDoorFenV
import Derived.Test.YtlcaphkcfmlljaaGreatDoorProg
import Derived.Test.YtlcaphkcfmlljaaGreatDoorT4a
import Derived.Test.YtlcaphkcfmlljaaGreatDoorT4b
set_option linter.unusedVariables false
set_option linter.unusedSimpArgs false
set_option linter.unnecessarySimpa false
namespace Go.Proofs.YtlcaphkcfmlljaaGreatDoor
open Go Go.Fen
theorem apt51 : ApTy Tryz.prog 51 74 1 24 := ⟨by kernel_rfl, by kernel_rfl, rfl⟩
theorem apt74 : ApTy Tryz.prog 74 79 12 96 := ⟨by kernel_rfl, by kernel_rfl, rfl⟩
theorem eqt53 : EqT Tryz.prog 53 cPlc := EqT.of 20 rfl (by kernel_rfl) (by kernel_rfl) (fun _ _ => by kernel_rfl) cPlc.inj
theorem eqt63 : EqT Tryz.prog 63 cSp3 := EqT.of 20 rfl (by kernel_rfl) (by kernel_rfl) (fun _ _ => by kernel_rfl) cSp3.inj
theorem ty4 : Ty Tryz.prog 4 1 false := ⟨by kernel_rfl⟩
theorem ty53 : Ty Tryz.prog 53 2 true := ⟨by kernel_rfl⟩
def slices_Clone_api_Cell_api_Cell (s : List (List Cel)) : List (List Cel) :=
  (([] : List (List Cel)) ++ s)

theorem slices_Clone_api_Cell_api_Cell_eq (s : List (List Cel)) : slices_Clone_api_Cell_api_Cell s = s := by simp [slices_Clone_api_Cell_api_Cell]

set_option maxRecDepth 100000 in
theorem slices_Clone_api_Cell_api_Cell_c (s : List (List Cel)) (sq : Option Addr) (srs : List Slc) (sk : Nat) (hrowssrs : RowsOk srs s) (hls : s.length ≤ 9223372036854775807) (hcs : s.length ≤ sk) (hs : s.length ≤ 1000000) (R : List (List Cel)) (hR : slices_Clone_api_Cell_api_Cell s = R) : Con Tryz.prog 70 [.slice sq s.length sk] [] [sl cSlc sq srs, rowsF cCel srs s] ({t : VR × List Slc // VOk 1 R.length t.1 ∧ RowsOk t.2 R}) (fun x => .slice (va x.1.1.q) R.length x.1.1.k) (fun x => ((vo cSlc 74 x.1.1 x.1.2) ++ ([]))) (fun x => [rowsF cCel x.1.2 R]) := by
  refine con_of_J (n := 8) Tryz.func70 rfl (by kernel_rfl) rfl rfl [(0, .slice sq s.length sk)] ⟨rfl, trivial⟩ fun X hX hr hD => ?_
  replace hR := (slices_Clone_api_Cell_api_Cell.eq_1 ..).symm.trans hR
  have := hrowssrs.1
  refine sr 1 rfl ?_
  refine ip 1 0 [] (by kernel_rfl) ?_
  refine ie ?_
  refine J_seq ?_
  refine sr 2 rfl ?_
  refine ip 1 1 [(3, .slice sq s.length sk)] (by kernel_rfl) ?_
  refine ix rfl (det_nil Tryz.underlying51 rfl rfl rfl) ?_
  refine ie ?_
  refine J_if rfl (fun h1 => ?_) (fun h1 => ?_)
  · refine J_nil 0 rfl (Option.isNone_iff_eq_none.1 h1) fun hx2 => ?_
    have hx2 := rows_nil hrowssrs hx2
    replace hR : ([] : List (List Cel)) = R := by rw [← hR]; simp [hx2]
    refine sr 1 rfl ?_
    refine ip 1 0 [(2, .slice none 0 0)] (by kernel_rfl) ?_
    refine ie ?_
    refine J_ret ?_
    subst hR
    exact ends_ret rfl ⟨hr, hD⟩ (by simp [hD]) (res1 rfl (resV_tmp rfl)) ⟨(VR.nil, ([] : List Slc)), ⟨VOk.nil, RowsOk.none⟩⟩ (by rfl) (mc [vo cSlc 74 VR.nil ([] : List Slc)] [true] rfl (by first | rfl | (simp only [List.length_set] <;> rfl))) (Foll.con1 rows_none Foll.nil)
  · refine J_skip ?_
    refine nx ?_
    refine sr 4 rfl ?_
    refine it rfl (tri_buildSl0 slt51 rfl rfl) fun b3 => ?_
    refine JI_fact1 (q := rowsF cCel [] ([] : List (List Cel))) rows_none ?_
    have : ([] : List Slc).length = 0 := rfl
    refine ip 1 2 [(6, .slice sq s.length sk)] (by kernel_rfl) ?_
    have hw6 : RowsOk (([] : List Slc) ++ srs) (([] : List (List Cel)) ++ s) := RowsOk.append RowsOk.none hrowssrs
    refine it rfl (tri_app_rows (r := (⟨some b3, 0, []⟩ : VR)) (rs := ([] : List Slc)) (xss := ([] : List (List Cel))) (pre := []) (post := []) apt51 rfl rfl rfl rfl rfl rfl rfl rfl rfl (at_of 1 rfl) (at_of 0 rfl) (at_of 2 rfl) RowsOk.none hrowssrs (show VOk 1 0 _ from ⟨rfl, Nat.zero_le _, Nat.zero_le _⟩) (by first | omega | (simp only [List.length_cons, List.length_nil, List.length_append, List.length_take, List.length_drop]; omega)) (by first | omega | (simp only [List.length_cons, List.length_nil, List.length_append, List.length_take, List.length_drop]; omega))) fun ⟨r4, hr5⟩ => ?_
    have := VOk.le hr5
    have := VOk.cap hr5
    refine ip 1 0 [(2, .slice (va r4.q) ((([] : List (List Cel)) ++ s).length) r4.k)] (by kernel_rfl) ?_
    refine ie ?_
    refine J_ret ?_
    subst hR
    exact ends_ret rfl ⟨hr, hD⟩ (by simp [hD]) (res1 rfl (resV_tmp rfl)) ⟨(r4, (([] : List Slc) ++ srs)), ⟨hr5, hw6⟩⟩ (by rfl) (mc [vo cSlc 74 r4 (([] : List Slc) ++ srs)] [true] rfl (by first | rfl | (simp only [List.length_set] <;> rfl))) (Foll.con1 (at_of 0 rfl) Foll.nil)

def damage_cuts (l : List Cel) (s : Sp3) : Bool :=
  ((decide ((l.getD ((s.frm).toNat) Cel.zero).wide = 2)) || ((decide (s.to < (l.length : Int))) && (decide ((l.getD ((s.to).toNat) Cel.zero).wide = 2))))

set_option maxRecDepth 100000 in
theorem damage_cuts_c (l : List Cel) (s : Sp3) (lq : Option Addr) (lk : Nat) (hll : l.length ≤ 9223372036854775807) (hcl : l.length ≤ lk) (h1 : 0 ≤ s.frm) (h2 : s.frm < s.to) (h3 : s.to ≤ l.length) (R : Bool) (hR : damage_cuts l s = R) : ConV Tryz.prog 71 [.slice lq l.length lk, ag (cSp3 s)] [sl cCel lq l] (bv R) := by
  refine con_of_J (n := 28) Tryz.func71 rfl (by kernel_rfl) rfl rfl [(0, .slice lq l.length lk), (1, ag (cSp3 s))] ⟨rfl, rfl, trivial⟩ fun X hX hr hD => ?_
  replace hR := (damage_cuts.eq_1 ..).symm.trans hR
  refine sr 2 rfl ?_
  refine it rfl (tri_box (cs := cSp3 s) rfl rfl rfl) fun b1 => ?_
  refine ip 1 0 [] (by kernel_rfl) ?_
  refine ie ?_
  refine sr 24 rfl ?_
  refine ip 2 22 [(5, .slice lq l.length lk), (6, pt b1 1)] (by kernel_rfl) ?_
  refine ix rfl (det_own_one (v := iv s.frm) ty3 rfl rfl 0 rfl rfl) ?_
  refine JI_base 0 rfl (by omega) fun a2 hq3 => ?_
  refine ix rfl (det_ixq slt74 rfl rfl hq3 rfl ((s.frm).toNat) (by omega) (by omega)) ?_
  refine ip 1 19 [(9, pa ((Addr.add a2 (((s.frm).toNat) * 12)).add 3))] (by kernel_rfl) ?_
  refine ix rfl (det_ld_one (v := iv ((l.getD ((s.frm).toNat) Cel.zero).wide)) (us := [iv ((l.getD ((s.frm).toNat) Cel.zero).wide)]) ty3 rfl rfl (at_part (at_slq (c := cCel) (sz := 12) hq3 (fun _ => rfl) 0 rfl (gd Cel.zero (by omega))) (ws := [iv ((l.getD ((s.frm).toNat) Cel.zero).wide)]) 3 1 rfl) rfl) ?_
  refine ip 2 16 [(12, bv (decide ((l.getD ((s.frm).toNat) Cel.zero).wide = 2)))] (by kernel_rfl) ?_
  refine ior 15 1 12 27 ((decide (s.to < (l.length : Int))) && (decide ((l.getD ((s.to).toNat) Cel.zero).wide = 2))) rfl (by kernel_rfl) (fun g4 => ?_) ?_
  · have g4p : ¬ ((l.getD ((s.frm).toNat) Cel.zero).wide = 2) := by simpa using g4
    refine ip 1 14 [(13, pt b1 2)] (by kernel_rfl) ?_
    refine ix rfl (det_own_one (v := iv s.to) ty3 rfl rfl 0 rfl rfl) ?_
    refine ip 4 9 [(18, bv (decide (s.to < (l.length : Int))))] (by kernel_rfl) ?_
    refine iand 8 1 18 26 (decide ((l.getD ((s.to).toNat) Cel.zero).wide = 2)) rfl (by kernel_rfl) (fun g5 => ?_) ?_
    · have g5p : s.to < (l.length : Int) := by simpa using g5
      refine ip 2 6 [(19, .slice lq l.length lk), (20, pt b1 2)] (by kernel_rfl) ?_
      refine ix rfl (det_own_one (v := iv s.to) ty3 rfl rfl 0 rfl rfl) ?_
      refine ix rfl (det_ixq slt74 rfl rfl hq3 rfl ((s.to).toNat) (by omega) (by omega)) ?_
      refine ip 1 3 [(23, pa ((Addr.add a2 (((s.to).toNat) * 12)).add 3))] (by kernel_rfl) ?_
      refine ix rfl (det_ld_one (v := iv ((l.getD ((s.to).toNat) Cel.zero).wide)) (us := [iv ((l.getD ((s.to).toNat) Cel.zero).wide)]) ty3 rfl rfl (at_part (at_slq (c := cCel) (sz := 12) hq3 (fun _ => rfl) 0 rfl (gd Cel.zero (by omega))) (ws := [iv ((l.getD ((s.to).toNat) Cel.zero).wide)]) 3 1 rfl) rfl) ?_
      refine ip 2 0 [(26, bv (decide ((l.getD ((s.to).toNat) Cel.zero).wide = 2)))] (by kernel_rfl) ?_
      exact JI_end (armI 8 18 26 g5 Foll.refl (mk [true] rfl) rfl rfl rfl rfl rfl)
    refine ip 1 0 [(27, bv ((decide (s.to < (l.length : Int))) && (decide ((l.getD ((s.to).toNat) Cel.zero).wide = 2))))] (by kernel_rfl) ?_
    exact JI_end (armI 6 12 27 g4 Foll.refl (mk [true] rfl) rfl rfl rfl rfl rfl)
  refine ip 1 0 [(4, bv ((decide ((l.getD ((s.frm).toNat) Cel.zero).wide = 2)) || ((decide (s.to < (l.length : Int))) && (decide ((l.getD ((s.to).toNat) Cel.zero).wide = 2)))))] (by kernel_rfl) ?_
  refine ie ?_
  refine J_ret ?_
  subst hR
  exact ends_ret rfl ⟨hr, hD⟩ (by simp [hD]) (res1 rfl (resV_tmp rfl)) () (by rfl) (mk [false] rfl) Foll.nil

def slices_Grow_api_Cell_api_Cell (n : Nat) : List Cel :=
  (bif (decide ((0 : Int) < (n : Int))) then ([] : List Cel) else ([] : List Cel))

theorem slices_Grow_api_Cell_api_Cell_nil (n : Nat) : slices_Grow_api_Cell_api_Cell n = [] := by
  unfold slices_Grow_api_Cell_api_Cell; cases decide ((0 : Int) < (n : Int)) <;> rfl

set_option maxRecDepth 100000 in
theorem slices_Grow_api_Cell_api_Cell_c (n : Nat) (hn : n ≤ 1000000) (R : List Cel) (hR : slices_Grow_api_Cell_api_Cell n = R) : Con Tryz.prog 123 [.slice none 0 0, iv (n : Int)] [] [] ({r : VR // VOk 12 R.length r}) (fun x => .slice (va x.1.q) R.length x.1.k) (fun x => ((vo cCel 79 x.1 R) ++ ([]))) (fun x => []) := by
  refine con_of_J (n := 27) Tryz.func123 rfl (by kernel_rfl) rfl rfl [(0, .slice none 0 0), (1, iv (n : Int))] ⟨rfl, rfl, trivial⟩ fun X hX hr hD => ?_
  replace hR := (slices_Grow_api_Cell_api_Cell.eq_1 ..).symm.trans hR
  refine sr 1 rfl ?_
  refine ip 1 0 [] (by kernel_rfl) ?_
  refine ie ?_
  refine J_seq ?_
  refine sr 2 rfl ?_
  refine ip 2 0 [(6, bv (decide ((n : Int) < 0)))] (by kernel_rfl) ?_
  refine ie ?_
  refine J_if rfl (fun h1 => ?_) (fun h1 => ?_)
  · have h1p : (n : Int) < 0 := by simpa using h1
    exfalso; omega
  · have h1p : ¬ ((n : Int) < 0) := by simpa using h1
    refine J_skip ?_
    refine nx ?_
    refine J_seq ?_
    refine sr 8 rfl ?_
    refine ip 2 6 [(8, iv (n : Int)), (9, .slice none 0 0)] (by kernel_rfl) ?_
    refine ix rfl (det_cap slt74 rfl rfl rfl rfl rfl) ?_
    refine ip 2 3 [(12, iv 0)] (by kernel_rfl) ?_
    refine ix rfl (det_sub64 (c := 0) rfl rfl rfl rfl (by decide)) ?_
    refine ix rfl (det_sub64 (c := (n : Int)) rfl rfl rfl (by omega) (by omega)) ?_
    refine ip 1 0 [(1, iv (n : Int))] (by kernel_rfl) ?_
    refine ie ?_
    refine sr 2 rfl ?_
    refine ip 2 0 [(16, bv (decide ((0 : Int) < (n : Int))))] (by kernel_rfl) ?_
    refine ie ?_
    refine J_if rfl (fun h2 => ?_) (fun h2 => ?_)
    · have h2p : (0 : Int) < (n : Int) := by simpa using h2
      replace hR := bt hR h2
      refine J_region 10 rfl ?_
      refine ip 2 8 [(17, .slice none 0 0), (18, .slice none 0 0)] (by kernel_rfl) ?_
      refine ix rfl (det_cap slt74 rfl rfl rfl rfl rfl) ?_
      refine ix rfl (det_slc slt74 rfl rfl 0 0 0 sb_none (sb_some rfl rfl) sb_none (by decide) (by decide) (by decide) (n' := 0) rfl rfl) ?_
      refine ip 1 5 [(21, iv (n : Int))] (by kernel_rfl) ?_
      refine it rfl (tri_app_make (f := cCel) (m := n) apt74 Tryz.underlying3 rfl rfl rfl rfl rfl (rfl) (by omega) (by first | omega | (simp only [List.length_cons, List.length_nil, List.length_append, List.length_take, List.length_drop]; omega)) (by first | omega | (simp only [List.length_cons, List.length_nil, List.length_append, List.length_take, List.length_drop]; omega))) fun ⟨r3, hr4, hm5⟩ => ?_
      have : ([] : List Cel).length = 0 := rfl
      refine ip 2 2 [(24, iv 0)] (by kernel_rfl) ?_
      refine ix rfl (det_slc0 (n' := 0) slt74 rfl rfl 0 r3.k (sb_some rfl rfl) sb_none (by omega) (by omega) rfl rfl) ?_
      have : ([] : List Cel).length = 0 := rfl
      refine ip 1 0 [(0, .slice (va r3.q) 0 r3.k)] (by kernel_rfl) ?_
      refine JI_end ?_
      refine nx ?_
      refine sr 2 rfl ?_
      refine ip 2 0 [(4, .slice (va r3.q) 0 r3.k)] (by kernel_rfl) ?_
      refine ie ?_
      refine J_ret ?_
      subst hR
      exact ends_ret rfl ⟨hr, hD⟩ (by simp [hD]) (res1 rfl (resV_tmp rfl)) ⟨r3, hr4⟩ (by rfl) (mc [vo cCel 79 r3 ([] : List Cel)] [true] rfl (by first | rfl | (simp only [List.length_set] <;> rfl))) Foll.nil
    · have h2p : ¬ ((0 : Int) < (n : Int)) := by simpa using h2
      replace hR := bf hR h2
      refine J_skip ?_
      refine nx ?_
      refine sr 2 rfl ?_
      refine ip 2 0 [(4, .slice none 0 0)] (by kernel_rfl) ?_
      refine ie ?_
      refine J_ret ?_
      subst hR
      exact ends_ret rfl ⟨hr, hD⟩ (by simp [hD]) (res1 rfl (resV_tmp rfl)) ⟨VR.nil, VOk.nil⟩ (by rfl) (mc [vo cCel 79 VR.nil ([] : List Cel)] [true] rfl (by first | rfl | (simp only [List.length_set] <;> rfl))) Foll.nil

def slices_Concat_api_Cell_api_Cell_l1 : List (List Cel) → List Cel → Nat → List Cel
  | [], newslice, t27 => newslice
  | hd_l1 :: tl_l1, newslice, t27 => slices_Concat_api_Cell_api_Cell_l1 tl_l1 (newslice ++ hd_l1) (t27 + 1)
def slices_Concat_api_Cell_api_Cell_l0 (slices : List (List Cel)) : List (List Cel) → Nat → Nat → List Cel
  | [], size, t11 => slices_Concat_api_Cell_api_Cell_l1 slices (slices_Grow_api_Cell_api_Cell size) 0
  | hd_l0 :: tl_l0, size, t11 => slices_Concat_api_Cell_api_Cell_l0 slices tl_l0 (size + hd_l0.length) (t11 + 1)
def slices_Concat_api_Cell_api_Cell (slices : List (List Cel)) : List Cel :=
  slices_Concat_api_Cell_api_Cell_l0 slices slices 0 0

theorem concat_l1_eq : ∀ (ls : List (List Cel)) (acc : List Cel) (t : Nat), slices_Concat_api_Cell_api_Cell_l1 ls acc t = acc ++ ls.flatten
  | [], acc, t => by simp [slices_Concat_api_Cell_api_Cell_l1]
  | x :: ls, acc, t => by simp [slices_Concat_api_Cell_api_Cell_l1, concat_l1_eq ls]
theorem concat_l0_eq (s : List (List Cel)) : ∀ (ls : List (List Cel)) (z t : Nat), slices_Concat_api_Cell_api_Cell_l0 s ls z t = s.flatten
  | [], z, t => by simp [slices_Concat_api_Cell_api_Cell_l0, concat_l1_eq, slices_Grow_api_Cell_api_Cell_nil]
  | x :: ls, z, t => by simp [slices_Concat_api_Cell_api_Cell_l0, concat_l0_eq s ls]
theorem slices_Concat_api_Cell_api_Cell_eq (s : List (List Cel)) : slices_Concat_api_Cell_api_Cell s = s.flatten := concat_l0_eq s s 0 0
theorem getD_set_len {rows : List (List Cel)} {k : Nat} {r : List Cel} {c : Int} (h : ∀ i, i < rows.length → ((rows.getD i []).length : Int) = c) (hr : (r.length : Int) = c) : ∀ i, i < (rows.set k r).length → (((rows.set k r).getD i []).length : Int) = c := fun i hi => by
  rw [List.length_set] at hi
  by_cases e : k = i
  · subst e; simp [List.getD_eq_getElem?_getD, hi, hr]
  · have := h i hi
    simpa [List.getD_eq_getElem?_getD, List.getElem?_set_ne e] using this

set_option maxRecDepth 100000 in
theorem slices_Concat_api_Cell_api_Cell_c (slices : List (List Cel)) (slicesq : Option Addr) (slicesrs : List Slc) (slicesk : Nat) (hrowsslicesrs : RowsOk slicesrs slices) (hlslices : slices.length ≤ 9223372036854775807) (hcslices : slices.length ≤ slicesk) (hs : slices.length ≤ 1000) (hb : ∀ i, i < slices.length → (slices.getD i []).length ≤ 1000) (R : List Cel) (hR : slices_Concat_api_Cell_api_Cell slices = R) : Con Tryz.prog 72 [.slice slicesq slices.length slicesk] [] [sl cSlc slicesq slicesrs, rowsF cCel slicesrs slices] ({r : VR // VOk 12 R.length r}) (fun x => .slice (va x.1.q) R.length x.1.k) (fun x => ((vo cCel 79 x.1 R) ++ ([]))) (fun x => []) := by
  refine con_of_J (n := 36) Tryz.func72 rfl (by kernel_rfl) rfl rfl [(0, .slice slicesq slices.length slicesk)] ⟨rfl, trivial⟩ fun X hX hr hD => ?_
  replace hR := (slices_Concat_api_Cell_api_Cell.eq_1 ..).symm.trans hR
  have := hrowsslicesrs.1
  refine sr 1 rfl ?_
  refine ip 1 0 [] (by kernel_rfl) ?_
  refine ie ?_
  refine sr 1 rfl ?_
  refine ip 1 0 [(3, iv 0)] (by kernel_rfl) ?_
  refine ie ?_
  refine J_seq ?_
  refine sr 3 rfl ?_
  refine ip 3 0 [(9, .slice slicesq slices.length slicesk), (10, iv (slices.length : Int)), (11, iv 0)] (by kernel_rfl) ?_
  refine ie ?_
  refine J_block ?_
  refine JL2 (fun (size : Nat) (t11 : Nat) => t11 ≤ slices.length ∧ slices_Concat_api_Cell_api_Cell_l0 slices (slices.drop t11) size t11 = R ∧ size ≤ 1000 * t11) (fun (size : Nat) (t11 : Nat) => [(0, .slice slicesq slices.length slicesk), (3, iv (size : Int)), (9, .slice slicesq slices.length slicesk), (10, iv (slices.length : Int)), (11, iv (t11 : Int))]) (fun (size : Nat) (t11 : Nat) => []) (fun (size : Nat) (t11 : Nat) => [sl cSlc slicesq slicesrs, rowsF cCel slicesrs slices]) (fun (size : Nat) (t11 : Nat) => slices.length - t11) 0 0 ⟨(by omega), hR, (by omega)⟩ ⟨rfl, (by first | rfl | (simp only [List.length_set, List.length_append, List.length_cons, List.length_nil]; rfl) | simp | (simp; omega)), rfl, rfl, (by first | rfl | (simp only [List.length_set, List.length_append, List.length_cons, List.length_nil]; rfl) | simp | (simp; omega)), trivial⟩ (mk [] rfl) Foll.refl ?_
  rintro size t11 ⟨hm1, hR, hz⟩
  refine sr 1 rfl ?_
  refine ip 1 0 [(12, bv (decide ((t11 : Int) < (slices.length : Int))))] (by kernel_rfl) ?_
  refine ie ?_
  refine J_seq ?_
  refine J_if rfl (fun h2 => ?_) (fun h2 => ?_)
  · have h2p : (t11 : Int) < (slices.length : Int) := by simpa using h2
    rw [dropc [] (show t11 < slices.length by omega)] at hR; replace hR := (slices_Concat_api_Cell_api_Cell_l0.eq_2 ..).symm.trans hR
    have := hb t11 (by omega)
    refine J_skip ?_
    refine nx ?_
    refine J_seq ?_
    refine J_block ?_
    refine sr 3 rfl ?_
    refine JI_base 0 rfl (by omega) fun a3 hq4 => ?_
    refine JI_fact1 (rows_atD (k := t11) (d := (⟨none, 0, 0⟩ : Slc)) hrowsslicesrs 1 rfl (by have := hrowsslicesrs.1; omega)) ?_
    have := rows_cap hrowsslicesrs (k := t11) (d := (⟨none, 0, 0⟩ : Slc)) (by have := hrowsslicesrs.1; omega)
    refine ix rfl (det_ixq slt51 rfl rfl hq4 rfl t11 rfl (by omega)) ?_
    refine ix rfl (det_conv (det_ld_one (v := .slice ((slicesrs.getD t11 (⟨none, 0, 0⟩ : Slc)).q) ((slicesrs.getD t11 (⟨none, 0, 0⟩ : Slc)).n) ((slicesrs.getD t11 (⟨none, 0, 0⟩ : Slc)).k)) (us := [.slice ((slicesrs.getD t11 (⟨none, 0, 0⟩ : Slc)).q) ((slicesrs.getD t11 (⟨none, 0, 0⟩ : Slc)).n) ((slicesrs.getD t11 (⟨none, 0, 0⟩ : Slc)).k)]) ty74 rfl rfl (at_slq (c := cSlc) (sz := 1) hq4 (fun _ => rfl) 1 rfl (gd (⟨none, 0, 0⟩ : Slc) (by have := hrowsslicesrs.1; omega))) rfl) (rows_val hrowsslicesrs (by have := hrowsslicesrs.1; omega))) ?_
    refine ip 1 0 [(5, .slice ((slicesrs.getD t11 (⟨none, 0, 0⟩ : Slc)).q) ((slices.getD t11 []).length) ((slicesrs.getD t11 (⟨none, 0, 0⟩ : Slc)).k))] (by kernel_rfl) ?_
    refine ie ?_
    refine sr 5 rfl ?_
    refine ip 3 2 [(15, iv (size : Int)), (17, iv ((slices.getD t11 []).length : Int))] (by kernel_rfl) ?_
    refine ix rfl (det_add64 rfl rfl rfl rfl (by omega)) ?_
    refine ip 1 0 [(3, iv ((size : Int) + ((slices.getD t11 []).length : Int)))] (by kernel_rfl) ?_
    refine ie ?_
    refine sr 2 rfl ?_
    refine ip 2 0 [(20, bv (decide (((size : Int) + ((slices.getD t11 []).length : Int)) < 0)))] (by kernel_rfl) ?_
    refine ie ?_
    refine J_if rfl (fun h5 => ?_) (fun h5 => ?_)
    · have h5p : ((size : Int) + ((slices.getD t11 []).length : Int)) < 0 := by simpa using h5
      exfalso; omega
    · have h5p : ¬ (((size : Int) + ((slices.getD t11 []).length : Int)) < 0) := by simpa using h5
      refine J_skip ?_
      refine nx ?_
      refine J_region 2 rfl ?_
      refine ix rfl (det_add64 rfl rfl rfl rfl (by omega)) ?_
      refine ip 1 0 [(11, iv ((t11 : Int) + 1))] (by kernel_rfl) ?_
      refine JI_end ?_
      exact againL2 (z1 := size) (z2 := t11) (size + (slices.getD t11 []).length) (t11 + 1) ⟨(by omega), hR, (by omega)⟩ (by (try dsimp only); omega) ⟨rfl, (by first | rfl | (simp only [List.length_set, List.length_append, List.length_cons, List.length_nil]; rfl) | simp | (simp; omega)), rfl, rfl, (by first | rfl | (simp only [List.length_set, List.length_append, List.length_cons, List.length_nil]; rfl) | simp | (simp; omega)), trivial⟩ (mk [] rfl) (Foll.pick [1, 2] rfl)
  · have h2p : ¬ ((t11 : Int) < (slices.length : Int)) := by simpa using h2
    rw [dropn h2p] at hR; replace hR := (slices_Concat_api_Cell_api_Cell_l0.eq_1 ..).symm.trans hR
    refine J_exit ?_
    refine nx ?_
    refine sr 3 rfl ?_
    refine ip 1 2 [(23, iv (size : Int))] (by kernel_rfl) ?_
    refine it rfl (tri_callN (L2 := []) (slices_Grow_api_Cell_api_Cell_c size (by first | omega | (simp only [List.length_append, List.length_cons, List.length_nil, List.length_take, List.length_drop, List.length_set]; omega)) _ rfl) rfl rfl rfl rfl rfl Foll.nil (List.Perm.refl _) (fun ⟨r6, hk7⟩ => ((vo cCel 79 r6 (slices_Grow_api_Cell_api_Cell size)) ++ ([]))) (fun _ => by first | rfl | simp only [List.append_nil, List.cons_append, List.nil_append, List.append_assoc])) fun ⟨r6, hk7⟩ => ?_
    have := VOk.le hk7
    have := VOk.cap hk7
    refine ip 1 0 [(6, .slice (va r6.q) ((slices_Grow_api_Cell_api_Cell size).length) r6.k)] (by kernel_rfl) ?_
    refine ie ?_
    refine J_seq ?_
    refine sr 3 rfl ?_
    refine ip 3 0 [(25, .slice slicesq slices.length slicesk), (26, iv (slices.length : Int)), (27, iv 0)] (by kernel_rfl) ?_
    refine ie ?_
    refine J_block ?_
    refine JL3 (fun (newslice : List Cel) (newslicer : VR) (t27 : Nat) => t27 ≤ slices.length ∧ slices_Concat_api_Cell_api_Cell_l1 (slices.drop t27) newslice t27 = R ∧ VOk 12 newslice.length newslicer ∧ newslice.length ≤ 1000 * t27) (fun (newslice : List Cel) (newslicer : VR) (t27 : Nat) => [(6, .slice (va newslicer.q) newslice.length newslicer.k), (25, .slice slicesq slices.length slicesk), (26, iv (slices.length : Int)), (27, iv (t27 : Int))]) (fun (newslice : List Cel) (newslicer : VR) (t27 : Nat) => ((vo cCel 79 newslicer newslice) ++ ([]))) (fun (newslice : List Cel) (newslicer : VR) (t27 : Nat) => [sl cSlc slicesq slicesrs, rowsF cCel slicesrs slices]) (fun (newslice : List Cel) (newslicer : VR) (t27 : Nat) => slices.length - t27) (slices_Grow_api_Cell_api_Cell size) r6 0 ⟨(by omega), hR, hk7, (by rw [slices_Grow_api_Cell_api_Cell_nil]; simp)⟩ ⟨(by first | rfl | (simp only [List.length_set, List.length_append, List.length_cons, List.length_nil]; rfl) | simp | (simp; omega)), rfl, rfl, (by first | rfl | (simp only [List.length_set, List.length_append, List.length_cons, List.length_nil]; rfl) | simp | (simp; omega)), trivial⟩ (mc [vo cCel 79 r6 (slices_Grow_api_Cell_api_Cell size)] [true] rfl (by first | rfl | (simp only [List.length_set] <;> rfl))) Foll.refl ?_
    rintro newslice newslicer t27 ⟨hm8, hR, hoknewslicer, hz2⟩
    have := VOk.le hoknewslicer
    refine sr 1 rfl ?_
    refine ip 1 0 [(28, bv (decide ((t27 : Int) < (slices.length : Int))))] (by kernel_rfl) ?_
    refine ie ?_
    refine J_seq ?_
    refine J_if rfl (fun h9 => ?_) (fun h9 => ?_)
    · have h9p : (t27 : Int) < (slices.length : Int) := by simpa using h9
      rw [dropc [] (show t27 < slices.length by omega)] at hR; replace hR := (slices_Concat_api_Cell_api_Cell_l1.eq_2 ..).symm.trans hR
      have := hb t27 (by omega)
      refine J_skip ?_
      refine nx ?_
      refine J_seq ?_
      refine J_block ?_
      refine sr 3 rfl ?_
      refine JI_base 0 rfl (by omega) fun a10 hq11 => ?_
      refine JI_fact1 (rows_atD (k := t27) (d := (⟨none, 0, 0⟩ : Slc)) hrowsslicesrs 1 rfl (by have := hrowsslicesrs.1; omega)) ?_
      have := rows_cap hrowsslicesrs (k := t27) (d := (⟨none, 0, 0⟩ : Slc)) (by have := hrowsslicesrs.1; omega)
      refine ix rfl (det_ixq slt51 rfl rfl hq11 rfl t27 rfl (by omega)) ?_
      refine ix rfl (det_conv (det_ld_one (v := .slice ((slicesrs.getD t27 (⟨none, 0, 0⟩ : Slc)).q) ((slicesrs.getD t27 (⟨none, 0, 0⟩ : Slc)).n) ((slicesrs.getD t27 (⟨none, 0, 0⟩ : Slc)).k)) (us := [.slice ((slicesrs.getD t27 (⟨none, 0, 0⟩ : Slc)).q) ((slicesrs.getD t27 (⟨none, 0, 0⟩ : Slc)).n) ((slicesrs.getD t27 (⟨none, 0, 0⟩ : Slc)).k)]) ty74 rfl rfl (at_slq (c := cSlc) (sz := 1) hq11 (fun _ => rfl) 1 rfl (gd (⟨none, 0, 0⟩ : Slc) (by have := hrowsslicesrs.1; omega))) rfl) (rows_val hrowsslicesrs (by have := hrowsslicesrs.1; omega))) ?_
      refine ip 1 0 [(8, .slice ((slicesrs.getD t27 (⟨none, 0, 0⟩ : Slc)).q) ((slices.getD t27 []).length) ((slicesrs.getD t27 (⟨none, 0, 0⟩ : Slc)).k))] (by kernel_rfl) ?_
      refine ie ?_
      refine J_region 4 rfl ?_
      refine ip 2 2 [(31, .slice (va newslicer.q) newslice.length newslicer.k), (32, .slice ((slicesrs.getD t27 (⟨none, 0, 0⟩ : Slc)).q) ((slices.getD t27 []).length) ((slicesrs.getD t27 (⟨none, 0, 0⟩ : Slc)).k))] (by kernel_rfl) ?_
      refine it rfl (tri_app2 (f := cCel) (r := newslicer) (xs := newslice) (ys := (slices.getD t27 [])) (pre := []) (post := []) apt74 (fun _ => rfl) (fun _ => rfl) rfl rfl rfl rfl rfl rfl rfl rfl (at_of 0 rfl) hoknewslicer (by first | omega | (simp only [List.length_cons, List.length_nil, List.length_append, List.length_take, List.length_drop]; omega)) (by first | omega | (simp only [List.length_cons, List.length_nil, List.length_append, List.length_take, List.length_drop]; omega))) fun ⟨r12, hr13⟩ => ?_
      have : (newslice ++ (slices.getD t27 [])).length = newslice.length + (slices.getD t27 []).length := List.length_append
      have := VOk.le hr13
      have := VOk.cap hr13
      refine ip 1 0 [(6, .slice (va r12.q) ((newslice ++ (slices.getD t27 [])).length) r12.k)] (by kernel_rfl) ?_
      refine JI_end ?_
      refine nx ?_
      refine J_region 2 rfl ?_
      refine ix rfl (det_add64 rfl rfl rfl rfl (by omega)) ?_
      refine ip 1 0 [(27, iv ((t27 : Int) + 1))] (by kernel_rfl) ?_
      refine JI_end ?_
      exact againL3 (z1 := newslice) (z2 := newslicer) (z3 := t27) (newslice ++ (slices.getD t27 [])) r12 (t27 + 1) ⟨(by omega), hR, hr13, (by omega)⟩ (by (try dsimp only); omega) ⟨(by first | rfl | (simp only [List.length_set, List.length_append, List.length_cons, List.length_nil]; rfl) | simp | (simp; omega)), rfl, rfl, (by first | rfl | (simp only [List.length_set, List.length_append, List.length_cons, List.length_nil]; rfl) | simp | (simp; omega)), trivial⟩ (mc [vo cCel 79 r12 (newslice ++ (slices.getD t27 []))] [true] rfl (by first | rfl | (simp only [List.length_set] <;> rfl))) (Foll.pick [1, 2] rfl)
    · have h9p : ¬ ((t27 : Int) < (slices.length : Int)) := by simpa using h9
      rw [dropn h9p] at hR; replace hR := (slices_Concat_api_Cell_api_Cell_l1.eq_1 ..).symm.trans hR
      refine J_exit ?_
      refine nx ?_
      refine sr 2 rfl ?_
      refine ip 2 0 [(2, .slice (va newslicer.q) newslice.length newslicer.k)] (by kernel_rfl) ?_
      refine ie ?_
      refine J_ret ?_
      subst hR
      exact ends_ret rfl ⟨hr, hD⟩ (by simp [hD]) (res1 rfl (resV_tmp rfl)) ⟨newslicer, hoknewslicer⟩ (by rfl) (mc [vo cCel 79 newslicer newslice] [true] rfl (by first | rfl | (simp only [List.length_set] <;> rfl))) Foll.nil

def damage_Over_l0 (aCols : Int) (aRows : List (List Cel)) (aCursor : Plc) (aVisible : Bool) (aShape : Int) (aTitle : List UInt8) (bRows : List (List Cel)) : List Sp3 → Nat → List (List Cel) → (Int × List (List Cel) × Int × Int × Bool × Int × List UInt8 × Int)
  | [], t27, outRows => (aCols, outRows, aCursor.row, aCursor.col, aVisible, aShape, aTitle, 0)
  | hd_l0 :: tl_l0, t27, outRows => (bif (((((((decide (hd_l0.row < 0)) || (decide ((aRows.length : Int) ≤ hd_l0.row))) || (decide (hd_l0.frm < 0))) || (decide (hd_l0.to ≤ hd_l0.frm))) || (decide (aCols < hd_l0.to))) || (damage_cuts (aRows.getD ((hd_l0.row).toNat) []) hd_l0)) || (damage_cuts (bRows.getD ((hd_l0.row).toNat) []) hd_l0)) then (0, ([] : List (List Cel)), 0, 0, false, 0, ([] : List UInt8), 2) else (bindV (slices_Concat_api_Cell_api_Cell ([((outRows.getD ((hd_l0.row).toNat) []).take ((hd_l0.frm).toNat)), (((bRows.getD ((hd_l0.row).toNat) []).drop ((hd_l0.frm).toNat)).take (((hd_l0.to).toNat) - ((hd_l0.frm).toNat))), ((outRows.getD ((hd_l0.row).toNat) []).drop ((hd_l0.to).toNat))] : List (List Cel))) fun (rslicesConcatapiCellapiCell : List Cel) => damage_Over_l0 aCols aRows aCursor aVisible aShape aTitle bRows tl_l0 (t27 + 1) (outRows.set ((hd_l0.row).toNat) rslicesConcatapiCellapiCell)))
def damage_Over (aCols : Int) (aRows : List (List Cel)) (aCursor : Plc) (aVisible : Bool) (aShape : Int) (aTitle : List UInt8) (bCols : Int) (bRows : List (List Cel)) (bCursor : Plc) (bVisible : Bool) (bShape : Int) (bTitle : List UInt8) (l : List Sp3) : Int × List (List Cel) × Int × Int × Bool × Int × List UInt8 × Int :=
  (bif (!decide ((damage_checked aCols aRows aCursor aVisible aShape aTitle bCols bRows bCursor bVisible bShape bTitle) = 0)) then (0, ([] : List (List Cel)), 0, 0, false, 0, ([] : List UInt8), (damage_checked aCols aRows aCursor aVisible aShape aTitle bCols bRows bCursor bVisible bShape bTitle)) else (bindV (slices_Clone_api_Cell_api_Cell aRows) fun (rslicesCloneapiCellapiCell : List (List Cel)) => damage_Over_l0 aCols aRows aCursor aVisible aShape aTitle bRows l 0 rslicesCloneapiCellapiCell))

theorem damage_Over_l0_title (aCols : Int) (aRows : List (List Cel)) (aCursor : Plc) (aVisible : Bool) (aShape : Int) (aTitle : List UInt8) (bRows : List (List Cel)) : ∀ (l : List Sp3) (t : Nat) (o : List (List Cel)), (damage_Over_l0 aCols aRows aCursor aVisible aShape aTitle bRows l t o).2.2.2.2.2.2.1.length ≤ aTitle.length
  | [], t, o => by simp [damage_Over_l0]
  | s :: l, t, o => by
    simp only [damage_Over_l0, bindV]
    generalize (((((((decide (s.row < 0)) || (decide ((aRows.length : Int) ≤ s.row))) || (decide (s.frm < 0))) || (decide (s.to ≤ s.frm))) || (decide (aCols < s.to))) || (damage_cuts (aRows.getD ((s.row).toNat) []) s)) || (damage_cuts (bRows.getD ((s.row).toNat) []) s)) = c
    cases c with
    | true => simp
    | false => exact damage_Over_l0_title aCols aRows aCursor aVisible aShape aTitle bRows l _ _
theorem damage_Over_title (aCols : Int) (aRows : List (List Cel)) (aCursor : Plc) (aVisible : Bool) (aShape : Int) (aTitle : List UInt8) (bCols : Int) (bRows : List (List Cel)) (bCursor : Plc) (bVisible : Bool) (bShape : Int) (bTitle : List UInt8) (l : List Sp3) :
    (damage_Over aCols aRows aCursor aVisible aShape aTitle bCols bRows bCursor bVisible bShape bTitle l).2.2.2.2.2.2.1.length ≤ aTitle.length := by
  unfold damage_Over
  cases decide (damage_checked aCols aRows aCursor aVisible aShape aTitle bCols bRows bCursor bVisible bShape bTitle = 0) with
  | false => simp
  | true => exact damage_Over_l0_title _ _ _ _ _ _ _ _ _ _

set_option maxRecDepth 100000 in
theorem damage_Over_c (aCols : Int) (aRows : List (List Cel)) (aCursor : Plc) (aVisible : Bool) (aShape : Int) (aTitle : List UInt8) (bCols : Int) (bRows : List (List Cel)) (bCursor : Plc) (bVisible : Bool) (bShape : Int) (bTitle : List UInt8) (l : List Sp3) (aRowsq : Option Addr) (aRowsrs : List Slc) (aRowsk : Nat) (bRowsq : Option Addr) (bRowsrs : List Slc) (bRowsk : Nat) (lq : Option Addr) (lk : Nat) (hrowsaRowsrs : RowsOk aRowsrs aRows) (hlaRows : aRows.length ≤ 9223372036854775807) (hcaRows : aRows.length ≤ aRowsk) (hrowsbRowsrs : RowsOk bRowsrs bRows) (hlbRows : bRows.length ≤ 9223372036854775807) (hcbRows : bRows.length ≤ bRowsk) (hll : l.length ≤ 9223372036854775807) (hcl : l.length ≤ lk) (hT : aTitle.length ≤ 100000000) (hT2 : bTitle.length ≤ 100000000) (R : Int × List (List Cel) × Int × Int × Bool × Int × List UInt8 × Int) (hR : damage_Over aCols aRows aCursor aVisible aShape aTitle bCols bRows bCursor bVisible bShape bTitle l = R) : Con Tryz.prog 37 [ag [iv aCols, .slice aRowsq aRows.length aRowsk, iv aCursor.row, iv aCursor.col, bv aVisible, iv aShape, sv aTitle], ag [iv bCols, .slice bRowsq bRows.length bRowsk, iv bCursor.row, iv bCursor.col, bv bVisible, iv bShape, sv bTitle], .slice lq l.length lk] [] [sl cSlc aRowsq aRowsrs, rowsF cCel aRowsrs aRows, sl cSlc bRowsq bRowsrs, rowsF cCel bRowsrs bRows, sl cSp3 lq l, sl cSpn (some ⟨0, 0, none⟩) tab0, sl cSpn (some ⟨1, 0, none⟩) tab1] ({t : VR × List Slc // VOk 1 R.2.1.length t.1 ∧ RowsOk t.2 R.2.1}) (fun x => .tuple #[ag [iv R.1, .slice (va x.1.1.q) R.2.1.length x.1.1.k, iv R.2.2.1, iv R.2.2.2.1, bv R.2.2.2.2.1, iv R.2.2.2.2.2.1, sv R.2.2.2.2.2.2.1], iv R.2.2.2.2.2.2.2]) (fun x => ((vo cSlc 74 x.1.1 x.1.2) ++ ([]))) (fun x => [rowsF cCel x.1.2 R.2.1]) := by
  refine con_of_J (n := 116) Tryz.func37 rfl (by kernel_rfl) rfl rfl [(0, ag [iv aCols, .slice aRowsq aRows.length aRowsk, iv aCursor.row, iv aCursor.col, bv aVisible, iv aShape, sv aTitle]), (1, ag [iv bCols, .slice bRowsq bRows.length bRowsk, iv bCursor.row, iv bCursor.col, bv bVisible, iv bShape, sv bTitle]), (2, .slice lq l.length lk)] ⟨rfl, rfl, rfl, trivial⟩ fun X hX hr hD => ?_
  replace hR := (damage_Over.eq_1 ..).symm.trans hR
  have := hrowsaRowsrs.1
  have := hrowsbRowsrs.1
  refine sr 4 rfl ?_
  refine it rfl (tri_box (cs := [iv aCols, .slice aRowsq aRows.length aRowsk, iv aCursor.row, iv aCursor.col, bv aVisible, iv aShape, sv aTitle]) rfl rfl rfl) fun b1 => ?_
  refine it rfl (tri_box (cs := [iv bCols, .slice bRowsq bRows.length bRowsk, iv bCursor.row, iv bCursor.col, bv bVisible, iv bShape, sv bTitle]) rfl rfl rfl) fun b2 => ?_
  refine it rfl (tri_alloc (cs := [iv 0, .slice none 0 0, iv 0, iv 0, bv false, iv 0, sv ([] : List UInt8)]) zero55 rfl) fun b3 => ?_
  refine ip 1 0 [] (by kernel_rfl) ?_
  refine ie ?_
  refine J_seq ?_
  refine sr 4 rfl ?_
  refine ix rfl (det_own_agg (us := [iv aCols, .slice aRowsq aRows.length aRowsk, iv aCursor.row, iv aCursor.col, bv aVisible, iv aShape, sv aTitle]) ty55 rfl rfl 2 rfl rfl rfl) ?_
  refine ix rfl (det_own_agg (us := [iv bCols, .slice bRowsq bRows.length bRowsk, iv bCursor.row, iv bCursor.col, bv bVisible, iv bShape, sv bTitle]) ty55 rfl rfl 1 rfl rfl rfl) ?_
  refine ixc rfl (det_call (damage_checked_c aCols aRows aCursor aVisible aShape aTitle bCols bRows bCursor bVisible bShape bTitle aRowsq aRowsrs aRowsk bRowsq bRowsrs bRowsk hrowsaRowsrs (by first | omega | (simp only [List.length_take, List.length_drop, List.length_append, List.length_cons, List.length_nil, List.length_set, List.length_map]; omega) | decide) (by first | omega | (simp only [List.length_take, List.length_drop, List.length_append, List.length_cons, List.length_nil, List.length_set, List.length_map]; omega) | decide) hrowsbRowsrs (by first | omega | (simp only [List.length_take, List.length_drop, List.length_append, List.length_cons, List.length_nil, List.length_set, List.length_map]; omega) | decide) (by first | omega | (simp only [List.length_take, List.length_drop, List.length_append, List.length_cons, List.length_nil, List.length_set, List.length_map]; omega) | decide) (by first | omega | (simp only [List.length_nil]; omega)) (by first | omega | (simp only [List.length_nil]; omega)) _ rfl) rfl rfl rfl rfl rfl (Foll.pick [0, 1, 2, 3, 5, 6] rfl)) ?_
  refine ip 1 0 [(8, iv (damage_checked aCols aRows aCursor aVisible aShape aTitle bCols bRows bCursor bVisible bShape bTitle))] (by kernel_rfl) ?_
  refine ie ?_
  refine sr 2 rfl ?_
  refine ip 2 0 [(17, bv (!decide ((damage_checked aCols aRows aCursor aVisible aShape aTitle bCols bRows bCursor bVisible bShape bTitle) = 0)))] (by kernel_rfl) ?_
  refine ie ?_
  refine J_if rfl (fun h4 => ?_) (fun h4 => ?_)
  · have h4p : ¬ (damage_checked aCols aRows aCursor aVisible aShape aTitle bCols bRows bCursor bVisible bShape bTitle) = 0 := by simpa using h4
    replace hR := bt hR h4
    refine sr 4 rfl ?_
    refine ix rfl (det_build (cs := [iv 0, .slice none 0 0, iv 0, iv 0, bv false, iv 0, sv ([] : List UInt8)]) rfl rfl (by kernel_rfl)) ?_
    refine ip 1 2 [(19, iv (damage_checked aCols aRows aCursor aVisible aShape aTitle bCols bRows bCursor bVisible bShape bTitle))] (by kernel_rfl) ?_
    refine it rfl (tri_store (us := [iv 0, .slice none 0 0, iv 0, iv 0, bv false, iv 0, sv ([] : List UInt8)]) (cs' := [iv 0, .slice none 0 0, iv 0, iv 0, bv false, iv 0, sv ([] : List UInt8)]) ty55 rfl rfl rfl 0 rfl rfl rfl rfl rfl rfl) fun _ => ?_
    refine ip 1 0 [(7, iv (damage_checked aCols aRows aCursor aVisible aShape aTitle bCols bRows bCursor bVisible bShape bTitle))] (by kernel_rfl) ?_
    refine ie ?_
    refine J_ret ?_
    subst hR
    exact ends_ret rfl ⟨hr, hD⟩ (by simp [hD]) (res2 rfl (resV_cell (us := [iv 0, .slice none 0 0, iv 0, iv 0, bv false, iv 0, sv ([] : List UInt8)]) ty55 rfl 0 rfl rfl rfl) (resV_tmp rfl)) ⟨(VR.nil, ([] : List Slc)), ⟨VOk.nil, RowsOk.none⟩⟩ (by rfl) (mc [[bx b3 [iv 0, .slice none 0 0, iv 0, iv 0, bv false, iv 0, sv ([] : List UInt8)] 55], [bx b2 [iv bCols, .slice bRowsq bRows.length bRowsk, iv bCursor.row, iv bCursor.col, bv bVisible, iv bShape, sv bTitle] 55], [bx b1 [iv aCols, .slice aRowsq aRows.length aRowsk, iv aCursor.row, iv aCursor.col, bv aVisible, iv aShape, sv aTitle] 55], vo cSlc 74 VR.nil ([] : List Slc)] [false, false, false, true] rfl (by first | rfl | (simp only [List.length_set] <;> rfl))) (Foll.con1 rows_none Foll.nil)
  · have h4p : ¬ (¬ (damage_checked aCols aRows aCursor aVisible aShape aTitle bCols bRows bCursor bVisible bShape bTitle) = 0) := by simpa using h4
    replace hR := bf hR h4
    have hchk := damage_checked_ok (by simpa using h4)
    have hra := hchk.1.2.2.2.2
    have hrb := hchk.2.1.2.2.2.2
    have hc3 := hchk.2.2
    refine J_skip ?_
    refine nx ?_
    refine sr 3 rfl ?_
    refine ix rfl (det_own_agg (us := [iv aCols, .slice aRowsq aRows.length aRowsk, iv aCursor.row, iv aCursor.col, bv aVisible, iv aShape, sv aTitle]) ty55 rfl rfl 2 rfl rfl rfl) ?_
    refine it rfl (tri_alloc (cs := [iv 0, .slice none 0 0, iv 0, iv 0, bv false, iv 0, sv ([] : List UInt8)]) zero55 rfl) fun b5 => ?_
    refine it rfl (tri_store (us := [iv aCols, .slice aRowsq aRows.length aRowsk, iv aCursor.row, iv aCursor.col, bv aVisible, iv aShape, sv aTitle]) (cs' := [iv aCols, .slice aRowsq aRows.length aRowsk, iv aCursor.row, iv aCursor.col, bv aVisible, iv aShape, sv aTitle]) ty55 rfl rfl rfl 0 rfl rfl rfl rfl rfl rfl) fun _ => ?_
    refine ie ?_
    refine sr 5 rfl ?_
    refine ip 1 4 [(21, pt b1 1)] (by kernel_rfl) ?_
    refine ix rfl (det_own_one (v := .slice aRowsq aRows.length aRowsk) ty51 rfl rfl 3 rfl rfl) ?_
    have hQ := bindVx hR; clear hR; obtain ⟨rslicesCloneapiCellapiCell, hrslicesCloneapiCellapiCell, hR⟩ := hQ
    refine it rfl (tri_callP (L2 := [bx b5 [iv aCols, .slice aRowsq aRows.length aRowsk, iv aCursor.row, iv aCursor.col, bv aVisible, iv aShape, sv aTitle] 55, bx b3 [iv 0, .slice none 0 0, iv 0, iv 0, bv false, iv 0, sv ([] : List UInt8)] 55, bx b2 [iv bCols, .slice bRowsq bRows.length bRowsk, iv bCursor.row, iv bCursor.col, bv bVisible, iv bShape, sv bTitle] 55, bx b1 [iv aCols, .slice aRowsq aRows.length aRowsk, iv aCursor.row, iv aCursor.col, bv aVisible, iv aShape, sv aTitle] 55]) (slices_Clone_api_Cell_api_Cell_c aRows aRowsq aRowsrs aRowsk hrowsaRowsrs (by first | omega | (simp only [List.length_take, List.length_drop, List.length_append, List.length_cons, List.length_nil, List.length_set, List.length_map]; omega) | decide) (by first | omega | (simp only [List.length_take, List.length_drop, List.length_append, List.length_cons, List.length_nil, List.length_set, List.length_map]; omega) | decide) (by first | omega | (simp only [List.length_append, List.length_cons, List.length_nil, List.length_take, List.length_drop, List.length_set]; omega)) rslicesCloneapiCellapiCell hrslicesCloneapiCellapiCell) rfl rfl rfl rfl rfl (Foll.pick [0, 1] rfl) (List.Perm.refl _) (fun ⟨⟨r6, rs7⟩, hp10⟩ => (bx b5 [iv aCols, .slice aRowsq aRows.length aRowsk, iv aCursor.row, iv aCursor.col, bv aVisible, iv aShape, sv aTitle] 55 :: bx b3 [iv 0, .slice none 0 0, iv 0, iv 0, bv false, iv 0, sv ([] : List UInt8)] 55 :: bx b2 [iv bCols, .slice bRowsq bRows.length bRowsk, iv bCursor.row, iv bCursor.col, bv bVisible, iv bShape, sv bTitle] 55 :: bx b1 [iv aCols, .slice aRowsq aRows.length aRowsk, iv aCursor.row, iv aCursor.col, bv aVisible, iv aShape, sv aTitle] 55 :: (vo cSlc 74 r6 rs7) ++ ([]))) (fun ⟨⟨r6, rs7⟩, hp10⟩ => permC [vo cSlc 74 r6 rs7, [bx b5 [iv aCols, .slice aRowsq aRows.length aRowsk, iv aCursor.row, iv aCursor.col, bv aVisible, iv aShape, sv aTitle] 55], [bx b3 [iv 0, .slice none 0 0, iv 0, iv 0, bv false, iv 0, sv ([] : List UInt8)] 55], [bx b2 [iv bCols, .slice bRowsq bRows.length bRowsk, iv bCursor.row, iv bCursor.col, bv bVisible, iv bShape, sv bTitle] 55], [bx b1 [iv aCols, .slice aRowsq aRows.length aRowsk, iv aCursor.row, iv aCursor.col, bv aVisible, iv aShape, sv aTitle] 55]] [1, 2, 3, 4, 0] 5 rfl (by decide) (by first | rfl | simp only [List.flatten_cons, List.flatten_nil, List.append_nil, List.cons_append, List.nil_append, List.append_assoc]) [[bx b5 [iv aCols, .slice aRowsq aRows.length aRowsk, iv aCursor.row, iv aCursor.col, bv aVisible, iv aShape, sv aTitle] 55], [bx b3 [iv 0, .slice none 0 0, iv 0, iv 0, bv false, iv 0, sv ([] : List UInt8)] 55], [bx b2 [iv bCols, .slice bRowsq bRows.length bRowsk, iv bCursor.row, iv bCursor.col, bv bVisible, iv bShape, sv bTitle] 55], [bx b1 [iv aCols, .slice aRowsq aRows.length aRowsk, iv aCursor.row, iv aCursor.col, bv aVisible, iv aShape, sv aTitle] 55], vo cSlc 74 r6 rs7] rfl (by first | rfl | simp only [List.flatten_cons, List.flatten_nil, List.append_nil, List.cons_append, List.nil_append, List.append_assoc]))) fun ⟨⟨r6, rs7⟩, hp10⟩ => ?_
    obtain ⟨hk8, hw9⟩ := hp10
    have := VOk.le hk8
    have := VOk.cap hk8
    have := hw9.1
    have hcl_rslicesCloneapiCellapiCell := slices_Clone_api_Cell_api_Cell_eq aRows; rw [hrslicesCloneapiCellapiCell] at hcl_rslicesCloneapiCellapiCell; have := congrArg List.length hcl_rslicesCloneapiCellapiCell; try simp only [List.length_take, List.length_drop] at this
    refine ip 1 1 [(24, pt b5 1)] (by kernel_rfl) ?_
    refine it rfl (tri_store (us := [.slice (va r6.q) rslicesCloneapiCellapiCell.length r6.k]) (cs' := [iv aCols, .slice (va r6.q) rslicesCloneapiCellapiCell.length r6.k, iv aCursor.row, iv aCursor.col, bv aVisible, iv aShape, sv aTitle]) ty51 rfl rfl rfl 0 rfl rfl rfl rfl rfl rfl) fun _ => ?_
    refine ie ?_
    refine J_seq ?_
    refine sr 3 rfl ?_
    refine ip 3 0 [(25, .slice lq l.length lk), (26, iv (l.length : Int)), (27, iv 0)] (by kernel_rfl) ?_
    refine ie ?_
    refine J_block ?_
    refine JL4 (fun (t27 : Nat) (outRows : List (List Cel)) (outRowsr : VR) (outRowsrs : List Slc) => t27 ≤ l.length ∧ damage_Over_l0 aCols aRows aCursor aVisible aShape aTitle bRows (l.drop t27) t27 outRows = R ∧ VOk 1 outRows.length outRowsr ∧ RowsOk outRowsrs outRows ∧ outRows.length = aRows.length ∧ ∀ i, i < outRows.length → ((outRows.getD i []).length : Int) = aCols) (fun (t27 : Nat) (outRows : List (List Cel)) (outRowsr : VR) (outRowsrs : List Slc) => [(3, pt b1 0), (4, pt b2 0), (6, pt b3 0), (9, pt b5 0), (25, .slice lq l.length lk), (26, iv (l.length : Int)), (27, iv (t27 : Int))]) (fun (t27 : Nat) (outRows : List (List Cel)) (outRowsr : VR) (outRowsrs : List Slc) => (bx b5 [iv aCols, .slice (va outRowsr.q) outRows.length outRowsr.k, iv aCursor.row, iv aCursor.col, bv aVisible, iv aShape, sv aTitle] 55 :: bx b3 [iv 0, .slice none 0 0, iv 0, iv 0, bv false, iv 0, sv ([] : List UInt8)] 55 :: bx b2 [iv bCols, .slice bRowsq bRows.length bRowsk, iv bCursor.row, iv bCursor.col, bv bVisible, iv bShape, sv bTitle] 55 :: bx b1 [iv aCols, .slice aRowsq aRows.length aRowsk, iv aCursor.row, iv aCursor.col, bv aVisible, iv aShape, sv aTitle] 55 :: (vo cSlc 74 outRowsr outRowsrs) ++ ([]))) (fun (t27 : Nat) (outRows : List (List Cel)) (outRowsr : VR) (outRowsrs : List Slc) => [rowsF cCel rs7 rslicesCloneapiCellapiCell, sl cSlc aRowsq aRowsrs, rowsF cCel aRowsrs aRows, sl cSlc bRowsq bRowsrs, rowsF cCel bRowsrs bRows, sl cSp3 lq l, sl cSpn (some ⟨0, 0, none⟩) tab0, sl cSpn (some ⟨1, 0, none⟩) tab1, rowsF cCel outRowsrs outRows]) (fun (t27 : Nat) (outRows : List (List Cel)) (outRowsr : VR) (outRowsrs : List Slc) => l.length - t27) 0 rslicesCloneapiCellapiCell r6 rs7 ⟨(by omega), hR, hk8, hw9, (by rw [hcl_rslicesCloneapiCellapiCell]), (by rw [hcl_rslicesCloneapiCellapiCell]; exact hra)⟩ ⟨rfl, rfl, rfl, rfl, rfl, rfl, (by first | rfl | (simp only [List.length_set, List.length_append, List.length_cons, List.length_nil]; rfl) | simp | (simp; omega)), trivial⟩ (mc [[bx b5 [iv aCols, .slice (va r6.q) rslicesCloneapiCellapiCell.length r6.k, iv aCursor.row, iv aCursor.col, bv aVisible, iv aShape, sv aTitle] 55], [bx b3 [iv 0, .slice none 0 0, iv 0, iv 0, bv false, iv 0, sv ([] : List UInt8)] 55], [bx b2 [iv bCols, .slice bRowsq bRows.length bRowsk, iv bCursor.row, iv bCursor.col, bv bVisible, iv bShape, sv bTitle] 55], [bx b1 [iv aCols, .slice aRowsq aRows.length aRowsk, iv aCursor.row, iv aCursor.col, bv aVisible, iv aShape, sv aTitle] 55], vo cSlc 74 r6 rs7] [true, true, true, true, true] rfl (by first | rfl | (simp only [List.length_set] <;> rfl))) (Foll.pick [0, 1, 2, 3, 4, 5, 6, 7, 0] rfl) ?_
    rintro t27 outRows outRowsr outRowsrs ⟨hm11, hR, hokoutRowsr, hrowsoutRowsrs, ho, ho2⟩
    have := VOk.le hokoutRowsr
    have := hrowsoutRowsrs.1
    refine sr 1 rfl ?_
    refine ip 1 0 [(28, bv (decide ((t27 : Int) < (l.length : Int))))] (by kernel_rfl) ?_
    refine ie ?_
    refine J_seq ?_
    refine J_if rfl (fun h12 => ?_) (fun h12 => ?_)
    · have h12p : (t27 : Int) < (l.length : Int) := by simpa using h12
      rw [dropc Sp3.zero (show t27 < l.length by omega)] at hR; replace hR := (damage_Over_l0.eq_2 ..).symm.trans hR
      refine J_skip ?_
      refine nx ?_
      refine J_seq ?_
      refine J_block ?_
      refine sr 4 rfl ?_
      refine JI_base 5 rfl (by omega) fun a13 hq14 => ?_
      refine ix rfl (det_ixq slt56 rfl rfl hq14 rfl t27 rfl (by omega)) ?_
      refine ix rfl (det_ld_agg (us := cSp3 (l.getD t27 Sp3.zero)) ty63 rfl rfl (at_slq (c := cSp3) (sz := 3) hq14 (fun _ => rfl) 5 rfl (gd Sp3.zero (by omega))) rfl) ?_
      refine it rfl (tri_alloc (cs := cSp3 Sp3.zero) zero63 rfl) fun b15 => ?_
      refine it rfl (tri_store (us := cSp3 (l.getD t27 Sp3.zero)) (cs' := cSp3 (l.getD t27 Sp3.zero)) ty63 rfl rfl rfl 0 rfl rfl rfl rfl rfl rfl) fun _ => ?_
      refine ie ?_
      refine J_seq ?_
      refine sd 50 rfl (by kernel_rfl) rfl ?_
      refine dp 1 49 [(31, pt b15 0)] (by kernel_rfl) ?_
      refine dd rfl (det_own_one (v := iv ((l.getD t27 Sp3.zero).row)) ty3 rfl rfl 0 rfl rfl) ?_
      refine dp 2 46 [(34, bv (decide ((l.getD t27 Sp3.zero).row < 0)))] (by kernel_rfl) ?_
      refine dor 7 39 34 41 (decide ((aRows.length : Int) ≤ (l.getD t27 Sp3.zero).row)) rfl (by kernel_rfl) (fun g16 => ?_) ?_
      · have g16p : ¬ ((l.getD t27 Sp3.zero).row < 0) := by simpa using g16
        refine dp 1 6 [(35, pt b15 0)] (by kernel_rfl) ?_
        refine dd rfl (det_own_one (v := iv ((l.getD t27 Sp3.zero).row)) ty3 rfl rfl 0 rfl rfl) ?_
        refine dp 1 4 [(37, pt b1 1)] (by kernel_rfl) ?_
        refine dd rfl (det_own_one (v := .slice aRowsq aRows.length aRowsk) ty51 rfl rfl 4 rfl rfl) ?_
        refine dp 3 0 [(41, bv (decide ((aRows.length : Int) ≤ (l.getD t27 Sp3.zero).row)))] (by kernel_rfl) ?_
        exact JD_end (armD 6 34 41 g16 rfl rfl rfl rfl rfl)
      refine dp 1 38 [(42, bv ((decide ((l.getD t27 Sp3.zero).row < 0)) || (decide ((aRows.length : Int) ≤ (l.getD t27 Sp3.zero).row))))] (by kernel_rfl) ?_
      refine dor 4 34 42 46 (decide ((l.getD t27 Sp3.zero).frm < 0)) rfl (by kernel_rfl) (fun g17 => ?_) ?_
      · have g17p : ¬ (((l.getD t27 Sp3.zero).row < 0) ∨ ((aRows.length : Int) ≤ (l.getD t27 Sp3.zero).row)) := by simpa using g17
        refine dp 1 3 [(43, pt b15 1)] (by kernel_rfl) ?_
        refine dd rfl (det_own_one (v := iv ((l.getD t27 Sp3.zero).frm)) ty3 rfl rfl 0 rfl rfl) ?_
        refine dp 2 0 [(46, bv (decide ((l.getD t27 Sp3.zero).frm < 0)))] (by kernel_rfl) ?_
        exact JD_end (armD 4 42 46 g17 rfl rfl rfl rfl rfl)
      refine dp 1 33 [(47, bv (((decide ((l.getD t27 Sp3.zero).row < 0)) || (decide ((aRows.length : Int) ≤ (l.getD t27 Sp3.zero).row))) || (decide ((l.getD t27 Sp3.zero).frm < 0))))] (by kernel_rfl) ?_
      refine dor 6 27 47 53 (decide ((l.getD t27 Sp3.zero).to ≤ (l.getD t27 Sp3.zero).frm)) rfl (by kernel_rfl) (fun g18 => ?_) ?_
      · have g18p : ¬ ((((l.getD t27 Sp3.zero).row < 0) ∨ ((aRows.length : Int) ≤ (l.getD t27 Sp3.zero).row)) ∨ ((l.getD t27 Sp3.zero).frm < 0)) := by simpa using g18
        refine dp 1 5 [(48, pt b15 1)] (by kernel_rfl) ?_
        refine dd rfl (det_own_one (v := iv ((l.getD t27 Sp3.zero).frm)) ty3 rfl rfl 0 rfl rfl) ?_
        refine dp 1 3 [(50, pt b15 2)] (by kernel_rfl) ?_
        refine dd rfl (det_own_one (v := iv ((l.getD t27 Sp3.zero).to)) ty3 rfl rfl 0 rfl rfl) ?_
        refine dp 2 0 [(53, bv (decide ((l.getD t27 Sp3.zero).to ≤ (l.getD t27 Sp3.zero).frm)))] (by kernel_rfl) ?_
        exact JD_end (armD 6 47 53 g18 rfl rfl rfl rfl rfl)
      refine dp 1 26 [(54, bv ((((decide ((l.getD t27 Sp3.zero).row < 0)) || (decide ((aRows.length : Int) ≤ (l.getD t27 Sp3.zero).row))) || (decide ((l.getD t27 Sp3.zero).frm < 0))) || (decide ((l.getD t27 Sp3.zero).to ≤ (l.getD t27 Sp3.zero).frm))))] (by kernel_rfl) ?_
      refine dor 6 20 54 60 (decide (aCols < (l.getD t27 Sp3.zero).to)) rfl (by kernel_rfl) (fun g19 => ?_) ?_
      · have g19p : ¬ (((((l.getD t27 Sp3.zero).row < 0) ∨ ((aRows.length : Int) ≤ (l.getD t27 Sp3.zero).row)) ∨ ((l.getD t27 Sp3.zero).frm < 0)) ∨ ((l.getD t27 Sp3.zero).to ≤ (l.getD t27 Sp3.zero).frm)) := by simpa using g19
        refine dp 1 5 [(55, pt b15 2)] (by kernel_rfl) ?_
        refine dd rfl (det_own_one (v := iv ((l.getD t27 Sp3.zero).to)) ty3 rfl rfl 0 rfl rfl) ?_
        refine dp 1 3 [(57, pt b1 0)] (by kernel_rfl) ?_
        refine dd rfl (det_own_one (v := iv aCols) ty3 rfl rfl 4 rfl rfl) ?_
        refine dp 2 0 [(60, bv (decide (aCols < (l.getD t27 Sp3.zero).to)))] (by kernel_rfl) ?_
        exact JD_end (armD 6 54 60 g19 rfl rfl rfl rfl rfl)
      refine dp 1 19 [(61, bv (((((decide ((l.getD t27 Sp3.zero).row < 0)) || (decide ((aRows.length : Int) ≤ (l.getD t27 Sp3.zero).row))) || (decide ((l.getD t27 Sp3.zero).frm < 0))) || (decide ((l.getD t27 Sp3.zero).to ≤ (l.getD t27 Sp3.zero).frm))) || (decide (aCols < (l.getD t27 Sp3.zero).to))))] (by kernel_rfl) ?_
      refine dor 9 10 61 70 (damage_cuts (aRows.getD (((l.getD t27 Sp3.zero).row).toNat) []) (l.getD t27 Sp3.zero)) rfl (by kernel_rfl) (fun g20 => ?_) ?_
      · have g20p : ¬ ((((((l.getD t27 Sp3.zero).row < 0) ∨ ((aRows.length : Int) ≤ (l.getD t27 Sp3.zero).row)) ∨ ((l.getD t27 Sp3.zero).frm < 0)) ∨ ((l.getD t27 Sp3.zero).to ≤ (l.getD t27 Sp3.zero).frm)) ∨ (aCols < (l.getD t27 Sp3.zero).to)) := by simpa using g20
        have hxa := hra (((l.getD t27 Sp3.zero).row).toNat) (by omega)
        refine dp 1 8 [(62, pt b1 1)] (by kernel_rfl) ?_
        refine dd rfl (det_own_one (v := .slice aRowsq aRows.length aRowsk) ty51 rfl rfl 4 rfl rfl) ?_
        refine dp 1 6 [(64, pt b15 0)] (by kernel_rfl) ?_
        refine dd rfl (det_own_one (v := iv ((l.getD t27 Sp3.zero).row)) ty3 rfl rfl 0 rfl rfl) ?_
        refine JD_base 1 rfl (by omega) fun a21 hq22 => ?_
        refine JD_fact1 (rows_atD (k := ((l.getD t27 Sp3.zero).row).toNat) (d := (⟨none, 0, 0⟩ : Slc)) hrowsaRowsrs 2 rfl (by have := hrowsaRowsrs.1; omega)) ?_
        have := rows_cap hrowsaRowsrs (k := ((l.getD t27 Sp3.zero).row).toNat) (d := (⟨none, 0, 0⟩ : Slc)) (by have := hrowsaRowsrs.1; omega)
        refine dd rfl (det_ixq slt51 rfl rfl hq22 rfl (((l.getD t27 Sp3.zero).row).toNat) (by omega) (by omega)) ?_
        refine dd rfl (det_conv (det_ld_one (v := .slice ((aRowsrs.getD (((l.getD t27 Sp3.zero).row).toNat) (⟨none, 0, 0⟩ : Slc)).q) ((aRowsrs.getD (((l.getD t27 Sp3.zero).row).toNat) (⟨none, 0, 0⟩ : Slc)).n) ((aRowsrs.getD (((l.getD t27 Sp3.zero).row).toNat) (⟨none, 0, 0⟩ : Slc)).k)) (us := [.slice ((aRowsrs.getD (((l.getD t27 Sp3.zero).row).toNat) (⟨none, 0, 0⟩ : Slc)).q) ((aRowsrs.getD (((l.getD t27 Sp3.zero).row).toNat) (⟨none, 0, 0⟩ : Slc)).n) ((aRowsrs.getD (((l.getD t27 Sp3.zero).row).toNat) (⟨none, 0, 0⟩ : Slc)).k)]) ty74 rfl rfl (at_slq (c := cSlc) (sz := 1) hq22 (fun _ => rfl) 2 rfl (gd (⟨none, 0, 0⟩ : Slc) (by have := hrowsaRowsrs.1; omega))) rfl) (rows_val hrowsaRowsrs (by have := hrowsaRowsrs.1; omega))) ?_
        refine dd rfl (det_own_agg (us := cSp3 (l.getD t27 Sp3.zero)) ty63 rfl rfl 0 rfl rfl rfl) ?_
        refine ddc rfl (det_call (damage_cuts_c (aRows.getD (((l.getD t27 Sp3.zero).row).toNat) []) (l.getD t27 Sp3.zero) ((aRowsrs.getD (((l.getD t27 Sp3.zero).row).toNat) (⟨none, 0, 0⟩ : Slc)).q) ((aRowsrs.getD (((l.getD t27 Sp3.zero).row).toNat) (⟨none, 0, 0⟩ : Slc)).k) (by first | omega | (simp only [List.length_take, List.length_drop, List.length_append, List.length_cons, List.length_nil, List.length_set, List.length_map]; omega) | decide) (by first | omega | (simp only [List.length_take, List.length_drop, List.length_append, List.length_cons, List.length_nil, List.length_set, List.length_map]; omega) | decide) (by first | omega | (simp only [List.length_append, List.length_cons, List.length_nil, List.length_take, List.length_drop, List.length_set]; omega)) (by first | omega | (simp only [List.length_append, List.length_cons, List.length_nil, List.length_take, List.length_drop, List.length_set]; omega)) (by first | omega | (simp only [List.length_append, List.length_cons, List.length_nil, List.length_take, List.length_drop, List.length_set]; omega)) _ rfl) rfl rfl rfl rfl rfl (Foll.pick [0] rfl)) ?_
        refine dp 1 0 [(70, bv (damage_cuts (aRows.getD (((l.getD t27 Sp3.zero).row).toNat) []) (l.getD t27 Sp3.zero)))] (by kernel_rfl) ?_
        exact JD_end (armD 10 61 70 g20 rfl rfl rfl rfl rfl)
      refine dp 1 9 [(71, bv ((((((decide ((l.getD t27 Sp3.zero).row < 0)) || (decide ((aRows.length : Int) ≤ (l.getD t27 Sp3.zero).row))) || (decide ((l.getD t27 Sp3.zero).frm < 0))) || (decide ((l.getD t27 Sp3.zero).to ≤ (l.getD t27 Sp3.zero).frm))) || (decide (aCols < (l.getD t27 Sp3.zero).to))) || (damage_cuts (aRows.getD (((l.getD t27 Sp3.zero).row).toNat) []) (l.getD t27 Sp3.zero))))] (by kernel_rfl) ?_
      refine dor 9 0 71 80 (damage_cuts (bRows.getD (((l.getD t27 Sp3.zero).row).toNat) []) (l.getD t27 Sp3.zero)) rfl (by kernel_rfl) (fun g23 => ?_) ?_
      · have g23p := g23; try simp only [Bool.and_eq_true, Bool.or_eq_true, Bool.and_eq_false_iff, Bool.or_eq_false_iff, Bool.not_eq_true', Bool.not_eq_false', decide_eq_true_eq, decide_eq_false_iff_not] at g23p
        have hxb := hrb (((l.getD t27 Sp3.zero).row).toNat) (by omega)
        refine dp 1 8 [(72, pt b2 1)] (by kernel_rfl) ?_
        refine dd rfl (det_own_one (v := .slice bRowsq bRows.length bRowsk) ty51 rfl rfl 3 rfl rfl) ?_
        refine dp 1 6 [(74, pt b15 0)] (by kernel_rfl) ?_
        refine dd rfl (det_own_one (v := iv ((l.getD t27 Sp3.zero).row)) ty3 rfl rfl 0 rfl rfl) ?_
        refine JD_base 3 rfl (by omega) fun a24 hq25 => ?_
        refine JD_fact1 (rows_atD (k := ((l.getD t27 Sp3.zero).row).toNat) (d := (⟨none, 0, 0⟩ : Slc)) hrowsbRowsrs 4 rfl (by have := hrowsbRowsrs.1; omega)) ?_
        have := rows_cap hrowsbRowsrs (k := ((l.getD t27 Sp3.zero).row).toNat) (d := (⟨none, 0, 0⟩ : Slc)) (by have := hrowsbRowsrs.1; omega)
        refine dd rfl (det_ixq slt51 rfl rfl hq25 rfl (((l.getD t27 Sp3.zero).row).toNat) (by omega) (by omega)) ?_
        refine dd rfl (det_conv (det_ld_one (v := .slice ((bRowsrs.getD (((l.getD t27 Sp3.zero).row).toNat) (⟨none, 0, 0⟩ : Slc)).q) ((bRowsrs.getD (((l.getD t27 Sp3.zero).row).toNat) (⟨none, 0, 0⟩ : Slc)).n) ((bRowsrs.getD (((l.getD t27 Sp3.zero).row).toNat) (⟨none, 0, 0⟩ : Slc)).k)) (us := [.slice ((bRowsrs.getD (((l.getD t27 Sp3.zero).row).toNat) (⟨none, 0, 0⟩ : Slc)).q) ((bRowsrs.getD (((l.getD t27 Sp3.zero).row).toNat) (⟨none, 0, 0⟩ : Slc)).n) ((bRowsrs.getD (((l.getD t27 Sp3.zero).row).toNat) (⟨none, 0, 0⟩ : Slc)).k)]) ty74 rfl rfl (at_slq (c := cSlc) (sz := 1) hq25 (fun _ => rfl) 4 rfl (gd (⟨none, 0, 0⟩ : Slc) (by have := hrowsbRowsrs.1; omega))) rfl) (rows_val hrowsbRowsrs (by have := hrowsbRowsrs.1; omega))) ?_
        refine dd rfl (det_own_agg (us := cSp3 (l.getD t27 Sp3.zero)) ty63 rfl rfl 0 rfl rfl rfl) ?_
        refine ddc rfl (det_call (damage_cuts_c (bRows.getD (((l.getD t27 Sp3.zero).row).toNat) []) (l.getD t27 Sp3.zero) ((bRowsrs.getD (((l.getD t27 Sp3.zero).row).toNat) (⟨none, 0, 0⟩ : Slc)).q) ((bRowsrs.getD (((l.getD t27 Sp3.zero).row).toNat) (⟨none, 0, 0⟩ : Slc)).k) (by first | omega | (simp only [List.length_take, List.length_drop, List.length_append, List.length_cons, List.length_nil, List.length_set, List.length_map]; omega) | decide) (by first | omega | (simp only [List.length_take, List.length_drop, List.length_append, List.length_cons, List.length_nil, List.length_set, List.length_map]; omega) | decide) (by first | omega | (simp only [List.length_append, List.length_cons, List.length_nil, List.length_take, List.length_drop, List.length_set]; omega)) (by first | omega | (simp only [List.length_append, List.length_cons, List.length_nil, List.length_take, List.length_drop, List.length_set]; omega)) (by first | omega | (simp only [List.length_append, List.length_cons, List.length_nil, List.length_take, List.length_drop, List.length_set]; omega)) _ rfl) rfl rfl rfl rfl rfl (Foll.pick [0] rfl)) ?_
        refine dp 1 0 [(80, bv (damage_cuts (bRows.getD (((l.getD t27 Sp3.zero).row).toNat) []) (l.getD t27 Sp3.zero)))] (by kernel_rfl) ?_
        exact JD_end (armD 10 71 80 g23 rfl rfl rfl rfl rfl)
      refine de ?_
      refine J_if rfl (fun h26 => ?_) (fun h26 => ?_)
      · have h26p := h26; try simp only [Bool.and_eq_true, Bool.or_eq_true, Bool.and_eq_false_iff, Bool.or_eq_false_iff, Bool.not_eq_true', Bool.not_eq_false', decide_eq_true_eq, decide_eq_false_iff_not] at h26p
        replace hR := bt hR h26
        refine sr 3 rfl ?_
        refine ix rfl (det_build (cs := [iv 0, .slice none 0 0, iv 0, iv 0, bv false, iv 0, sv ([] : List UInt8)]) rfl rfl (by kernel_rfl)) ?_
        refine it rfl (tri_store (us := [iv 0, .slice none 0 0, iv 0, iv 0, bv false, iv 0, sv ([] : List UInt8)]) (cs' := [iv 0, .slice none 0 0, iv 0, iv 0, bv false, iv 0, sv ([] : List UInt8)]) ty55 rfl rfl rfl 2 rfl rfl rfl rfl rfl rfl) fun _ => ?_
        refine ip 1 0 [(7, iv 2)] (by kernel_rfl) ?_
        refine ie ?_
        refine J_ret ?_
        subst hR
        exact ends_ret rfl ⟨hr, hD⟩ (by simp [hD]) (res2 rfl (resV_cell (us := [iv 0, .slice none 0 0, iv 0, iv 0, bv false, iv 0, sv ([] : List UInt8)]) ty55 rfl 2 rfl rfl rfl) (resV_tmp rfl)) ⟨(VR.nil, ([] : List Slc)), ⟨VOk.nil, RowsOk.none⟩⟩ (by rfl) (mc [[bx b15 (cSp3 (l.getD t27 Sp3.zero)) 63], [bx b5 [iv aCols, .slice (va outRowsr.q) outRows.length outRowsr.k, iv aCursor.row, iv aCursor.col, bv aVisible, iv aShape, sv aTitle] 55], [bx b3 [iv 0, .slice none 0 0, iv 0, iv 0, bv false, iv 0, sv ([] : List UInt8)] 55], [bx b2 [iv bCols, .slice bRowsq bRows.length bRowsk, iv bCursor.row, iv bCursor.col, bv bVisible, iv bShape, sv bTitle] 55], [bx b1 [iv aCols, .slice aRowsq aRows.length aRowsk, iv aCursor.row, iv aCursor.col, bv aVisible, iv aShape, sv aTitle] 55], vo cSlc 74 outRowsr outRowsrs, vo cSlc 74 VR.nil ([] : List Slc)] [false, false, false, false, false, false, true] rfl (by first | rfl | (simp only [List.length_set] <;> rfl))) (Foll.con1 rows_none Foll.nil)
      · have h26p := h26; try simp only [Bool.and_eq_true, Bool.or_eq_true, Bool.and_eq_false_iff, Bool.or_eq_false_iff, Bool.not_eq_true', Bool.not_eq_false', decide_eq_true_eq, decide_eq_false_iff_not] at h26p
        replace hR := bf hR h26
        have hxo := ho2 (((l.getD t27 Sp3.zero).row).toNat) (by omega)
        have hxb := hrb (((l.getD t27 Sp3.zero).row).toNat) (by omega)
        refine J_skip ?_
        refine nx ?_
        refine sr 7 rfl ?_
        refine ip 1 6 [(82, pt b5 1)] (by kernel_rfl) ?_
        refine ix rfl (det_own_one (v := .slice (va outRowsr.q) outRows.length outRowsr.k) ty51 rfl rfl 1 rfl rfl) ?_
        refine ip 1 4 [(84, pt b15 0)] (by kernel_rfl) ?_
        refine ix rfl (det_own_one (v := iv ((l.getD t27 Sp3.zero).row)) ty3 rfl rfl 0 rfl rfl) ?_
        obtain ⟨b27, hb28⟩ := VOk.some hokoutRowsr (by omega)
        obtain ⟨q29, k30, j31⟩ := outRowsr
        obtain rfl : q29 = some b27 := hb28
        refine JI_fact1 (rows_atD (k := ((l.getD t27 Sp3.zero).row).toNat) (d := (⟨none, 0, 0⟩ : Slc)) hrowsoutRowsrs 8 rfl (by have := hrowsoutRowsrs.1; omega)) ?_
        have := rows_cap hrowsoutRowsrs (k := ((l.getD t27 Sp3.zero).row).toNat) (d := (⟨none, 0, 0⟩ : Slc)) (by have := hrowsoutRowsrs.1; omega)
        refine ix rfl (det_ix_vec slt51 rfl rfl rfl (((l.getD t27 Sp3.zero).row).toNat) (by omega) (by have := hrowsoutRowsrs.1; omega)) ?_
        refine ix rfl (det_conv (det_vec_one (u := .slice ((outRowsrs.getD (((l.getD t27 Sp3.zero).row).toNat) (⟨none, 0, 0⟩ : Slc)).q) ((outRowsrs.getD (((l.getD t27 Sp3.zero).row).toNat) (⟨none, 0, 0⟩ : Slc)).n) ((outRowsrs.getD (((l.getD t27 Sp3.zero).row).toNat) (⟨none, 0, 0⟩ : Slc)).k)) (c := cSlc) (sz := 1) ty74 (fun _ => rfl) rfl rfl 5 rfl (((l.getD t27 Sp3.zero).row).toNat) 0 rfl (gd (⟨none, 0, 0⟩ : Slc) (by have := hrowsoutRowsrs.1; omega)) rfl) (rows_val hrowsoutRowsrs (by have := hrowsoutRowsrs.1; omega))) ?_
        refine ip 1 0 [(12, .slice ((outRowsrs.getD (((l.getD t27 Sp3.zero).row).toNat) (⟨none, 0, 0⟩ : Slc)).q) ((outRows.getD (((l.getD t27 Sp3.zero).row).toNat) []).length) ((outRowsrs.getD (((l.getD t27 Sp3.zero).row).toNat) (⟨none, 0, 0⟩ : Slc)).k))] (by kernel_rfl) ?_
        refine ie ?_
        refine J_fact1 (sl_take (at_of 0 rfl) (((l.getD t27 Sp3.zero).frm).toNat)) ?_
        refine J_fact1 (rows_atD (k := ((l.getD t27 Sp3.zero).row).toNat) (d := (⟨none, 0, 0⟩ : Slc)) hrowsbRowsrs 6 rfl (by have := hrowsbRowsrs.1; omega)) ?_
        have := rows_cap hrowsbRowsrs (k := ((l.getD t27 Sp3.zero).row).toNat) (d := (⟨none, 0, 0⟩ : Slc)) (by have := hrowsbRowsrs.1; omega)
        refine J_fact1 (sl_sub (c := cCel) (sz := 12) (xs := (bRows.getD (((l.getD t27 Sp3.zero).row).toNat) [])) (at_of 0 rfl) (((l.getD t27 Sp3.zero).frm).toNat) (((l.getD t27 Sp3.zero).to).toNat) ((bRowsrs.getD (((l.getD t27 Sp3.zero).row).toNat) (⟨none, 0, 0⟩ : Slc)).k) (fun _ => rfl) rfl (by omega) (by omega)) ?_
        refine J_fact1 (sl_drop (c := cCel) (sz := 12) (xs := (outRows.getD (((l.getD t27 Sp3.zero).row).toNat) [])) (at_of 3 rfl) (((l.getD t27 Sp3.zero).to).toNat) ((outRowsrs.getD (((l.getD t27 Sp3.zero).row).toNat) (⟨none, 0, 0⟩ : Slc)).k) (fun _ => rfl) (by omega) (by omega)) ?_
        refine sh' 27 [(27, [bx b15 (cSp3 (l.getD t27 Sp3.zero)) 63]), (27, [bx b5 [iv aCols, .slice (va (⟨some b27, k30, j31⟩ : VR).q) outRows.length ((⟨some b27, k30, j31⟩ : VR).k), iv aCursor.row, iv aCursor.col, bv aVisible, iv aShape, sv aTitle] 55]), (27, [bx b3 [iv 0, .slice none 0 0, iv 0, iv 0, bv false, iv 0, sv ([] : List UInt8)] 55]), (27, [bx b2 [iv bCols, .slice bRowsq bRows.length bRowsk, iv bCursor.row, iv bCursor.col, bv bVisible, iv bShape, sv bTitle] 55]), (27, [bx b1 [iv aCols, .slice aRowsq aRows.length aRowsk, iv aCursor.row, iv aCursor.col, bv aVisible, iv aShape, sv aTitle] 55]), (26, vo cSlc 74 (⟨some b27, k30, j31⟩ : VR) outRowsrs)] [sl cCel (subq ((outRowsrs.getD (((l.getD t27 Sp3.zero).row).toNat) (⟨none, 0, 0⟩ : Slc)).q) (((l.getD t27 Sp3.zero).to).toNat) 12 ((outRowsrs.getD (((l.getD t27 Sp3.zero).row).toNat) (⟨none, 0, 0⟩ : Slc)).k)) ((outRows.getD (((l.getD t27 Sp3.zero).row).toNat) []).drop (((l.getD t27 Sp3.zero).to).toNat)), sl cCel (subq ((bRowsrs.getD (((l.getD t27 Sp3.zero).row).toNat) (⟨none, 0, 0⟩ : Slc)).q) (((l.getD t27 Sp3.zero).frm).toNat) 12 ((bRowsrs.getD (((l.getD t27 Sp3.zero).row).toNat) (⟨none, 0, 0⟩ : Slc)).k)) (((bRows.getD (((l.getD t27 Sp3.zero).row).toNat) []).drop (((l.getD t27 Sp3.zero).frm).toNat)).take ((((l.getD t27 Sp3.zero).to).toNat) - (((l.getD t27 Sp3.zero).frm).toNat))), sl cCel ((bRowsrs.getD (((l.getD t27 Sp3.zero).row).toNat) (⟨none, 0, 0⟩ : Slc)).q) (bRows.getD (((l.getD t27 Sp3.zero).row).toNat) []), sl cCel ((outRowsrs.getD (((l.getD t27 Sp3.zero).row).toNat) (⟨none, 0, 0⟩ : Slc)).q) ((outRows.getD (((l.getD t27 Sp3.zero).row).toNat) []).take (((l.getD t27 Sp3.zero).frm).toNat)), sl cCel ((outRowsrs.getD (((l.getD t27 Sp3.zero).row).toNat) (⟨none, 0, 0⟩ : Slc)).q) (outRows.getD (((l.getD t27 Sp3.zero).row).toNat) []), rowsF cCel rs7 rslicesCloneapiCellapiCell, sl cSlc aRowsq aRowsrs, rowsF cCel aRowsrs aRows, sl cSlc bRowsq bRowsrs, rowsF cCel bRowsrs bRows, sl cSp3 lq l, sl cSpn (some ⟨0, 0, none⟩) tab0, sl cSpn (some ⟨1, 0, none⟩) tab1, rowsF cCel outRowsrs outRows] (bx b15 (cSp3 (l.getD t27 Sp3.zero)) 63 :: bx b5 [iv aCols, .slice (va (⟨some b27, k30, j31⟩ : VR).q) outRows.length ((⟨some b27, k30, j31⟩ : VR).k), iv aCursor.row, iv aCursor.col, bv aVisible, iv aShape, sv aTitle] 55 :: bx b3 [iv 0, .slice none 0 0, iv 0, iv 0, bv false, iv 0, sv ([] : List UInt8)] 55 :: bx b2 [iv bCols, .slice bRowsq bRows.length bRowsk, iv bCursor.row, iv bCursor.col, bv bVisible, iv bShape, sv bTitle] 55 :: bx b1 [iv aCols, .slice aRowsq aRows.length aRowsk, iv aCursor.row, iv aCursor.col, bv aVisible, iv aShape, sv aTitle] 55 :: (vo cSlc 74 (⟨some b27, k30, j31⟩ : VR) outRowsrs) ++ ([])) #[false, false, false, false, false, false, false, false, false, false, false, false, false, false, false, false, false, false, false, false, false, false, false, false, false, false, false] (by kernel_rfl) rfl (by kernel_rfl) (by kernel_rfl) (by kernel_rfl) (mc [[bx b15 (cSp3 (l.getD t27 Sp3.zero)) 63], [bx b5 [iv aCols, .slice (va (⟨some b27, k30, j31⟩ : VR).q) outRows.length ((⟨some b27, k30, j31⟩ : VR).k), iv aCursor.row, iv aCursor.col, bv aVisible, iv aShape, sv aTitle] 55], [bx b3 [iv 0, .slice none 0 0, iv 0, iv 0, bv false, iv 0, sv ([] : List UInt8)] 55], [bx b2 [iv bCols, .slice bRowsq bRows.length bRowsk, iv bCursor.row, iv bCursor.col, bv bVisible, iv bShape, sv bTitle] 55], [bx b1 [iv aCols, .slice aRowsq aRows.length aRowsk, iv aCursor.row, iv aCursor.col, bv aVisible, iv aShape, sv aTitle] 55], vo cSlc 74 (⟨some b27, k30, j31⟩ : VR) outRowsrs] [true, true, true, true, true, true] rfl (by first | rfl | (simp only [List.length_set] <;> rfl))) Foll.refl ?_
        refine hpur [0, 2, 4, 5, 8, 10, 14, 16, 19, 20] 17 #[true, false, true, false, true, true, false, false, true, false, true, false, false, false, true, false, true, false, false, true, true, false, false, false, false, false, false] [(88, pt b5 1), (90, pt b15 0), (92, .slice ((outRowsrs.getD (((l.getD t27 Sp3.zero).row).toNat) (⟨none, 0, 0⟩ : Slc)).q) ((outRows.getD (((l.getD t27 Sp3.zero).row).toNat) []).length) ((outRowsrs.getD (((l.getD t27 Sp3.zero).row).toNat) (⟨none, 0, 0⟩ : Slc)).k)), (93, pt b15 1), (96, pt b2 1), (98, pt b15 0), (102, pt b15 1), (104, pt b15 2), (107, .slice ((outRowsrs.getD (((l.getD t27 Sp3.zero).row).toNat) (⟨none, 0, 0⟩ : Slc)).q) ((outRows.getD (((l.getD t27 Sp3.zero).row).toNat) []).length) ((outRowsrs.getD (((l.getD t27 Sp3.zero).row).toNat) (⟨none, 0, 0⟩ : Slc)).k)), (108, pt b15 2)] (by kernel_rfl) ?_
        refine htak 1 (bx b15 (cSp3 (l.getD t27 Sp3.zero)) 63 :: bx b5 [iv aCols, .slice (va (⟨some b27, k30, j31⟩ : VR).q) outRows.length ((⟨some b27, k30, j31⟩ : VR).k), iv aCursor.row, iv aCursor.col, bv aVisible, iv aShape, sv aTitle] 55 :: bx b3 [iv 0, .slice none 0 0, iv 0, iv 0, bv false, iv 0, sv ([] : List UInt8)] 55 :: bx b2 [iv bCols, .slice bRowsq bRows.length bRowsk, iv bCursor.row, iv bCursor.col, bv bVisible, iv bShape, sv bTitle] 55 :: bx b1 [iv aCols, .slice aRowsq aRows.length aRowsk, iv aCursor.row, iv aCursor.col, bv aVisible, iv aShape, sv aTitle] 55 :: (vo cSlc 74 (⟨some b27, k30, j31⟩ : VR) outRowsrs) ++ ([])) #[true, true, true, false, true, true, false, false, true, false, true, false, false, false, true, false, true, false, false, true, true, false, false, false, false, false, false] rfl rfl rfl (by kernel_rfl) (by kernel_rfl) (by kernel_rfl) (det_own_one (v := .slice (va (⟨some b27, k30, j31⟩ : VR).q) outRows.length ((⟨some b27, k30, j31⟩ : VR).k)) ty51 rfl rfl 1 rfl rfl) ?_
        refine htak 3 (bx b15 (cSp3 (l.getD t27 Sp3.zero)) 63 :: bx b5 [iv aCols, .slice (va (⟨some b27, k30, j31⟩ : VR).q) outRows.length ((⟨some b27, k30, j31⟩ : VR).k), iv aCursor.row, iv aCursor.col, bv aVisible, iv aShape, sv aTitle] 55 :: bx b3 [iv 0, .slice none 0 0, iv 0, iv 0, bv false, iv 0, sv ([] : List UInt8)] 55 :: bx b2 [iv bCols, .slice bRowsq bRows.length bRowsk, iv bCursor.row, iv bCursor.col, bv bVisible, iv bShape, sv bTitle] 55 :: bx b1 [iv aCols, .slice aRowsq aRows.length aRowsk, iv aCursor.row, iv aCursor.col, bv aVisible, iv aShape, sv aTitle] 55 :: (vo cSlc 74 (⟨some b27, k30, j31⟩ : VR) outRowsrs) ++ ([])) #[true, true, true, true, true, true, false, false, true, false, true, false, false, false, true, false, true, false, false, true, true, false, false, false, false, false, false] rfl rfl rfl (by kernel_rfl) (by kernel_rfl) (by kernel_rfl) (det_own_one (v := iv ((l.getD t27 Sp3.zero).row)) ty3 rfl rfl 0 rfl rfl) ?_
        refine htak 6 (bx b15 (cSp3 (l.getD t27 Sp3.zero)) 63 :: bx b5 [iv aCols, .slice (va (⟨some b27, k30, j31⟩ : VR).q) outRows.length ((⟨some b27, k30, j31⟩ : VR).k), iv aCursor.row, iv aCursor.col, bv aVisible, iv aShape, sv aTitle] 55 :: bx b3 [iv 0, .slice none 0 0, iv 0, iv 0, bv false, iv 0, sv ([] : List UInt8)] 55 :: bx b2 [iv bCols, .slice bRowsq bRows.length bRowsk, iv bCursor.row, iv bCursor.col, bv bVisible, iv bShape, sv bTitle] 55 :: bx b1 [iv aCols, .slice aRowsq aRows.length aRowsk, iv aCursor.row, iv aCursor.col, bv aVisible, iv aShape, sv aTitle] 55 :: (vo cSlc 74 (⟨some b27, k30, j31⟩ : VR) outRowsrs) ++ ([])) #[true, true, true, true, true, true, true, false, true, false, true, false, false, false, true, false, true, false, false, true, true, false, false, false, false, false, false] rfl rfl rfl (by kernel_rfl) (by kernel_rfl) (by kernel_rfl) (det_own_one (v := iv ((l.getD t27 Sp3.zero).frm)) ty3 rfl rfl 0 rfl rfl) ?_
        refine htak 7 (bx b15 (cSp3 (l.getD t27 Sp3.zero)) 63 :: bx b5 [iv aCols, .slice (va (⟨some b27, k30, j31⟩ : VR).q) outRows.length ((⟨some b27, k30, j31⟩ : VR).k), iv aCursor.row, iv aCursor.col, bv aVisible, iv aShape, sv aTitle] 55 :: bx b3 [iv 0, .slice none 0 0, iv 0, iv 0, bv false, iv 0, sv ([] : List UInt8)] 55 :: bx b2 [iv bCols, .slice bRowsq bRows.length bRowsk, iv bCursor.row, iv bCursor.col, bv bVisible, iv bShape, sv bTitle] 55 :: bx b1 [iv aCols, .slice aRowsq aRows.length aRowsk, iv aCursor.row, iv aCursor.col, bv aVisible, iv aShape, sv aTitle] 55 :: (vo cSlc 74 (⟨some b27, k30, j31⟩ : VR) outRowsrs) ++ ([])) #[true, true, true, true, true, true, true, true, true, false, true, false, false, false, true, false, true, false, false, true, true, false, false, false, false, false, false] rfl rfl rfl (by kernel_rfl) (by kernel_rfl) (by kernel_rfl) (det_slc0 (n' := ((outRows.getD (((l.getD t27 Sp3.zero).row).toNat) []).take (((l.getD t27 Sp3.zero).frm).toNat)).length) slt74 rfl rfl (((l.getD t27 Sp3.zero).frm).toNat) ((outRowsrs.getD (((l.getD t27 Sp3.zero).row).toNat) (⟨none, 0, 0⟩ : Slc)).k) (sb_some rfl (by omega)) sb_none (by omega) (by omega) (by first | rfl | omega | (simp only [List.length_take, List.length_drop]; omega) | (simp; done)) rfl) ?_
        have : ((outRows.getD (((l.getD t27 Sp3.zero).row).toNat) []).take (((l.getD t27 Sp3.zero).frm).toNat)).length = min (((l.getD t27 Sp3.zero).frm).toNat) (outRows.getD (((l.getD t27 Sp3.zero).row).toNat) []).length := List.length_take
        refine htak 9 (bx b15 (cSp3 (l.getD t27 Sp3.zero)) 63 :: bx b5 [iv aCols, .slice (va (⟨some b27, k30, j31⟩ : VR).q) outRows.length ((⟨some b27, k30, j31⟩ : VR).k), iv aCursor.row, iv aCursor.col, bv aVisible, iv aShape, sv aTitle] 55 :: bx b3 [iv 0, .slice none 0 0, iv 0, iv 0, bv false, iv 0, sv ([] : List UInt8)] 55 :: bx b2 [iv bCols, .slice bRowsq bRows.length bRowsk, iv bCursor.row, iv bCursor.col, bv bVisible, iv bShape, sv bTitle] 55 :: bx b1 [iv aCols, .slice aRowsq aRows.length aRowsk, iv aCursor.row, iv aCursor.col, bv aVisible, iv aShape, sv aTitle] 55 :: (vo cSlc 74 (⟨some b27, k30, j31⟩ : VR) outRowsrs) ++ ([])) #[true, true, true, true, true, true, true, true, true, true, true, false, false, false, true, false, true, false, false, true, true, false, false, false, false, false, false] rfl rfl rfl (by kernel_rfl) (by kernel_rfl) (by kernel_rfl) (det_own_one (v := .slice bRowsq bRows.length bRowsk) ty51 rfl rfl 3 rfl rfl) ?_
        refine htak 11 (bx b15 (cSp3 (l.getD t27 Sp3.zero)) 63 :: bx b5 [iv aCols, .slice (va (⟨some b27, k30, j31⟩ : VR).q) outRows.length ((⟨some b27, k30, j31⟩ : VR).k), iv aCursor.row, iv aCursor.col, bv aVisible, iv aShape, sv aTitle] 55 :: bx b3 [iv 0, .slice none 0 0, iv 0, iv 0, bv false, iv 0, sv ([] : List UInt8)] 55 :: bx b2 [iv bCols, .slice bRowsq bRows.length bRowsk, iv bCursor.row, iv bCursor.col, bv bVisible, iv bShape, sv bTitle] 55 :: bx b1 [iv aCols, .slice aRowsq aRows.length aRowsk, iv aCursor.row, iv aCursor.col, bv aVisible, iv aShape, sv aTitle] 55 :: (vo cSlc 74 (⟨some b27, k30, j31⟩ : VR) outRowsrs) ++ ([])) #[true, true, true, true, true, true, true, true, true, true, true, true, false, false, true, false, true, false, false, true, true, false, false, false, false, false, false] rfl rfl rfl (by kernel_rfl) (by kernel_rfl) (by kernel_rfl) (det_own_one (v := iv ((l.getD t27 Sp3.zero).row)) ty3 rfl rfl 0 rfl rfl) ?_
        refine JH_base 8 rfl (by omega) fun a32 hq33 => ?_
        refine htak 12 (bx b15 (cSp3 (l.getD t27 Sp3.zero)) 63 :: bx b5 [iv aCols, .slice (va (⟨some b27, k30, j31⟩ : VR).q) outRows.length ((⟨some b27, k30, j31⟩ : VR).k), iv aCursor.row, iv aCursor.col, bv aVisible, iv aShape, sv aTitle] 55 :: bx b3 [iv 0, .slice none 0 0, iv 0, iv 0, bv false, iv 0, sv ([] : List UInt8)] 55 :: bx b2 [iv bCols, .slice bRowsq bRows.length bRowsk, iv bCursor.row, iv bCursor.col, bv bVisible, iv bShape, sv bTitle] 55 :: bx b1 [iv aCols, .slice aRowsq aRows.length aRowsk, iv aCursor.row, iv aCursor.col, bv aVisible, iv aShape, sv aTitle] 55 :: (vo cSlc 74 (⟨some b27, k30, j31⟩ : VR) outRowsrs) ++ ([])) #[true, true, true, true, true, true, true, true, true, true, true, true, true, false, true, false, true, false, false, true, true, false, false, false, false, false, false] rfl rfl rfl (by kernel_rfl) (by kernel_rfl) (by kernel_rfl) (det_ixq slt51 rfl rfl hq33 rfl (((l.getD t27 Sp3.zero).row).toNat) (by omega) (by omega)) ?_
        refine htak 13 (bx b15 (cSp3 (l.getD t27 Sp3.zero)) 63 :: bx b5 [iv aCols, .slice (va (⟨some b27, k30, j31⟩ : VR).q) outRows.length ((⟨some b27, k30, j31⟩ : VR).k), iv aCursor.row, iv aCursor.col, bv aVisible, iv aShape, sv aTitle] 55 :: bx b3 [iv 0, .slice none 0 0, iv 0, iv 0, bv false, iv 0, sv ([] : List UInt8)] 55 :: bx b2 [iv bCols, .slice bRowsq bRows.length bRowsk, iv bCursor.row, iv bCursor.col, bv bVisible, iv bShape, sv bTitle] 55 :: bx b1 [iv aCols, .slice aRowsq aRows.length aRowsk, iv aCursor.row, iv aCursor.col, bv aVisible, iv aShape, sv aTitle] 55 :: (vo cSlc 74 (⟨some b27, k30, j31⟩ : VR) outRowsrs) ++ ([])) #[true, true, true, true, true, true, true, true, true, true, true, true, true, true, true, false, true, false, false, true, true, false, false, false, false, false, false] rfl rfl rfl (by kernel_rfl) (by kernel_rfl) (by kernel_rfl) (det_conv (det_ld_one (v := .slice ((bRowsrs.getD (((l.getD t27 Sp3.zero).row).toNat) (⟨none, 0, 0⟩ : Slc)).q) ((bRowsrs.getD (((l.getD t27 Sp3.zero).row).toNat) (⟨none, 0, 0⟩ : Slc)).n) ((bRowsrs.getD (((l.getD t27 Sp3.zero).row).toNat) (⟨none, 0, 0⟩ : Slc)).k)) (us := [.slice ((bRowsrs.getD (((l.getD t27 Sp3.zero).row).toNat) (⟨none, 0, 0⟩ : Slc)).q) ((bRowsrs.getD (((l.getD t27 Sp3.zero).row).toNat) (⟨none, 0, 0⟩ : Slc)).n) ((bRowsrs.getD (((l.getD t27 Sp3.zero).row).toNat) (⟨none, 0, 0⟩ : Slc)).k)]) ty74 rfl rfl (at_slq (c := cSlc) (sz := 1) hq33 (fun _ => rfl) 8 rfl (gd (⟨none, 0, 0⟩ : Slc) (by have := hrowsbRowsrs.1; omega))) rfl) (rows_val hrowsbRowsrs (by have := hrowsbRowsrs.1; omega))) ?_
        refine htak 15 (bx b15 (cSp3 (l.getD t27 Sp3.zero)) 63 :: bx b5 [iv aCols, .slice (va (⟨some b27, k30, j31⟩ : VR).q) outRows.length ((⟨some b27, k30, j31⟩ : VR).k), iv aCursor.row, iv aCursor.col, bv aVisible, iv aShape, sv aTitle] 55 :: bx b3 [iv 0, .slice none 0 0, iv 0, iv 0, bv false, iv 0, sv ([] : List UInt8)] 55 :: bx b2 [iv bCols, .slice bRowsq bRows.length bRowsk, iv bCursor.row, iv bCursor.col, bv bVisible, iv bShape, sv bTitle] 55 :: bx b1 [iv aCols, .slice aRowsq aRows.length aRowsk, iv aCursor.row, iv aCursor.col, bv aVisible, iv aShape, sv aTitle] 55 :: (vo cSlc 74 (⟨some b27, k30, j31⟩ : VR) outRowsrs) ++ ([])) #[true, true, true, true, true, true, true, true, true, true, true, true, true, true, true, true, true, false, false, true, true, false, false, false, false, false, false] rfl rfl rfl (by kernel_rfl) (by kernel_rfl) (by kernel_rfl) (det_own_one (v := iv ((l.getD t27 Sp3.zero).frm)) ty3 rfl rfl 0 rfl rfl) ?_
        refine htak 17 (bx b15 (cSp3 (l.getD t27 Sp3.zero)) 63 :: bx b5 [iv aCols, .slice (va (⟨some b27, k30, j31⟩ : VR).q) outRows.length ((⟨some b27, k30, j31⟩ : VR).k), iv aCursor.row, iv aCursor.col, bv aVisible, iv aShape, sv aTitle] 55 :: bx b3 [iv 0, .slice none 0 0, iv 0, iv 0, bv false, iv 0, sv ([] : List UInt8)] 55 :: bx b2 [iv bCols, .slice bRowsq bRows.length bRowsk, iv bCursor.row, iv bCursor.col, bv bVisible, iv bShape, sv bTitle] 55 :: bx b1 [iv aCols, .slice aRowsq aRows.length aRowsk, iv aCursor.row, iv aCursor.col, bv aVisible, iv aShape, sv aTitle] 55 :: (vo cSlc 74 (⟨some b27, k30, j31⟩ : VR) outRowsrs) ++ ([])) #[true, true, true, true, true, true, true, true, true, true, true, true, true, true, true, true, true, true, false, true, true, false, false, false, false, false, false] rfl rfl rfl (by kernel_rfl) (by kernel_rfl) (by kernel_rfl) (det_own_one (v := iv ((l.getD t27 Sp3.zero).to)) ty3 rfl rfl 0 rfl rfl) ?_
        refine htak 18 (bx b15 (cSp3 (l.getD t27 Sp3.zero)) 63 :: bx b5 [iv aCols, .slice (va (⟨some b27, k30, j31⟩ : VR).q) outRows.length ((⟨some b27, k30, j31⟩ : VR).k), iv aCursor.row, iv aCursor.col, bv aVisible, iv aShape, sv aTitle] 55 :: bx b3 [iv 0, .slice none 0 0, iv 0, iv 0, bv false, iv 0, sv ([] : List UInt8)] 55 :: bx b2 [iv bCols, .slice bRowsq bRows.length bRowsk, iv bCursor.row, iv bCursor.col, bv bVisible, iv bShape, sv bTitle] 55 :: bx b1 [iv aCols, .slice aRowsq aRows.length aRowsk, iv aCursor.row, iv aCursor.col, bv aVisible, iv aShape, sv aTitle] 55 :: (vo cSlc 74 (⟨some b27, k30, j31⟩ : VR) outRowsrs) ++ ([])) #[true, true, true, true, true, true, true, true, true, true, true, true, true, true, true, true, true, true, true, true, true, false, false, false, false, false, false] rfl rfl rfl (by kernel_rfl) (by kernel_rfl) (by kernel_rfl) (det_slc (n' := (((bRows.getD (((l.getD t27 Sp3.zero).row).toNat) []).drop (((l.getD t27 Sp3.zero).frm).toNat)).take ((((l.getD t27 Sp3.zero).to).toNat) - (((l.getD t27 Sp3.zero).frm).toNat))).length) slt74 rfl rfl (((l.getD t27 Sp3.zero).frm).toNat) (((l.getD t27 Sp3.zero).to).toNat) ((bRowsrs.getD (((l.getD t27 Sp3.zero).row).toNat) (⟨none, 0, 0⟩ : Slc)).k) (sb_some rfl (by omega)) (sb_some rfl (by omega)) sb_none (by omega) (by omega) (by omega) (by first | rfl | omega | (simp only [List.length_take, List.length_drop]; omega) | (simp; done)) rfl) ?_
        have : ((bRows.getD (((l.getD t27 Sp3.zero).row).toNat) []).drop (((l.getD t27 Sp3.zero).frm).toNat)).length = (bRows.getD (((l.getD t27 Sp3.zero).row).toNat) []).length - (((l.getD t27 Sp3.zero).frm).toNat) := List.length_drop
        have : (((bRows.getD (((l.getD t27 Sp3.zero).row).toNat) []).drop (((l.getD t27 Sp3.zero).frm).toNat)).take ((((l.getD t27 Sp3.zero).to).toNat) - (((l.getD t27 Sp3.zero).frm).toNat))).length = min ((((l.getD t27 Sp3.zero).to).toNat) - (((l.getD t27 Sp3.zero).frm).toNat)) ((bRows.getD (((l.getD t27 Sp3.zero).row).toNat) []).drop (((l.getD t27 Sp3.zero).frm).toNat)).length := List.length_take
        refine htak 21 (bx b15 (cSp3 (l.getD t27 Sp3.zero)) 63 :: bx b5 [iv aCols, .slice (va (⟨some b27, k30, j31⟩ : VR).q) outRows.length ((⟨some b27, k30, j31⟩ : VR).k), iv aCursor.row, iv aCursor.col, bv aVisible, iv aShape, sv aTitle] 55 :: bx b3 [iv 0, .slice none 0 0, iv 0, iv 0, bv false, iv 0, sv ([] : List UInt8)] 55 :: bx b2 [iv bCols, .slice bRowsq bRows.length bRowsk, iv bCursor.row, iv bCursor.col, bv bVisible, iv bShape, sv bTitle] 55 :: bx b1 [iv aCols, .slice aRowsq aRows.length aRowsk, iv aCursor.row, iv aCursor.col, bv aVisible, iv aShape, sv aTitle] 55 :: (vo cSlc 74 (⟨some b27, k30, j31⟩ : VR) outRowsrs) ++ ([])) #[true, true, true, true, true, true, true, true, true, true, true, true, true, true, true, true, true, true, true, true, true, true, false, false, false, false, false] rfl rfl rfl (by kernel_rfl) (by kernel_rfl) (by kernel_rfl) (det_own_one (v := iv ((l.getD t27 Sp3.zero).to)) ty3 rfl rfl 0 rfl rfl) ?_
        refine htak 22 (bx b15 (cSp3 (l.getD t27 Sp3.zero)) 63 :: bx b5 [iv aCols, .slice (va (⟨some b27, k30, j31⟩ : VR).q) outRows.length ((⟨some b27, k30, j31⟩ : VR).k), iv aCursor.row, iv aCursor.col, bv aVisible, iv aShape, sv aTitle] 55 :: bx b3 [iv 0, .slice none 0 0, iv 0, iv 0, bv false, iv 0, sv ([] : List UInt8)] 55 :: bx b2 [iv bCols, .slice bRowsq bRows.length bRowsk, iv bCursor.row, iv bCursor.col, bv bVisible, iv bShape, sv bTitle] 55 :: bx b1 [iv aCols, .slice aRowsq aRows.length aRowsk, iv aCursor.row, iv aCursor.col, bv aVisible, iv aShape, sv aTitle] 55 :: (vo cSlc 74 (⟨some b27, k30, j31⟩ : VR) outRowsrs) ++ ([])) #[true, true, true, true, true, true, true, true, true, true, true, true, true, true, true, true, true, true, true, true, true, true, true, false, false, false, false] rfl rfl rfl (by kernel_rfl) (by kernel_rfl) (by kernel_rfl) (det_slc (n' := ((outRows.getD (((l.getD t27 Sp3.zero).row).toNat) []).drop (((l.getD t27 Sp3.zero).to).toNat)).length) slt74 rfl rfl (((l.getD t27 Sp3.zero).to).toNat) ((outRows.getD (((l.getD t27 Sp3.zero).row).toNat) []).length) ((outRowsrs.getD (((l.getD t27 Sp3.zero).row).toNat) (⟨none, 0, 0⟩ : Slc)).k) (sb_some rfl (by omega)) sb_none sb_none (by omega) (by omega) (by omega) (by first | rfl | omega | (simp only [List.length_take, List.length_drop]; omega) | (simp; done)) rfl) ?_
        have : ((outRows.getD (((l.getD t27 Sp3.zero).row).toNat) []).drop (((l.getD t27 Sp3.zero).to).toNat)).length = (outRows.getD (((l.getD t27 Sp3.zero).row).toNat) []).length - (((l.getD t27 Sp3.zero).to).toNat) := List.length_drop
        refine hone 23 (bx b15 (cSp3 (l.getD t27 Sp3.zero)) 63 :: bx b5 [iv aCols, .slice (va (⟨some b27, k30, j31⟩ : VR).q) outRows.length ((⟨some b27, k30, j31⟩ : VR).k), iv aCursor.row, iv aCursor.col, bv aVisible, iv aShape, sv aTitle] 55 :: bx b3 [iv 0, .slice none 0 0, iv 0, iv 0, bv false, iv 0, sv ([] : List UInt8)] 55 :: bx b2 [iv bCols, .slice bRowsq bRows.length bRowsk, iv bCursor.row, iv bCursor.col, bv bVisible, iv bShape, sv bTitle] 55 :: bx b1 [iv aCols, .slice aRowsq aRows.length aRowsk, iv aCursor.row, iv aCursor.col, bv aVisible, iv aShape, sv aTitle] 55 :: (vo cSlc 74 (⟨some b27, k30, j31⟩ : VR) outRowsrs) ++ ([])) #[true, true, true, true, true, true, true, true, true, true, true, true, true, true, true, true, true, true, true, true, true, true, true, true, false, false, false] rfl rfl rfl (by kernel_rfl) (by kernel_rfl) (by kernel_rfl) (tri_buildSl (c := cSlc) (xs := ([⟨(outRowsrs.getD (((l.getD t27 Sp3.zero).row).toNat) (⟨none, 0, 0⟩ : Slc)).q, ((outRows.getD (((l.getD t27 Sp3.zero).row).toNat) []).take (((l.getD t27 Sp3.zero).frm).toNat)).length, (outRowsrs.getD (((l.getD t27 Sp3.zero).row).toNat) (⟨none, 0, 0⟩ : Slc)).k⟩, ⟨(subq ((bRowsrs.getD (((l.getD t27 Sp3.zero).row).toNat) (⟨none, 0, 0⟩ : Slc)).q) (((l.getD t27 Sp3.zero).frm).toNat) 12 ((bRowsrs.getD (((l.getD t27 Sp3.zero).row).toNat) (⟨none, 0, 0⟩ : Slc)).k)), (((bRows.getD (((l.getD t27 Sp3.zero).row).toNat) []).drop (((l.getD t27 Sp3.zero).frm).toNat)).take ((((l.getD t27 Sp3.zero).to).toNat) - (((l.getD t27 Sp3.zero).frm).toNat))).length, (((bRowsrs.getD (((l.getD t27 Sp3.zero).row).toNat) (⟨none, 0, 0⟩ : Slc)).k) - (((l.getD t27 Sp3.zero).frm).toNat))⟩, ⟨(subq ((outRowsrs.getD (((l.getD t27 Sp3.zero).row).toNat) (⟨none, 0, 0⟩ : Slc)).q) (((l.getD t27 Sp3.zero).to).toNat) 12 ((outRowsrs.getD (((l.getD t27 Sp3.zero).row).toNat) (⟨none, 0, 0⟩ : Slc)).k)), ((outRows.getD (((l.getD t27 Sp3.zero).row).toNat) []).drop (((l.getD t27 Sp3.zero).to).toNat)).length, (((outRowsrs.getD (((l.getD t27 Sp3.zero).row).toNat) (⟨none, 0, 0⟩ : Slc)).k) - (((l.getD t27 Sp3.zero).to).toNat))⟩] : List Slc)) slt51 rfl rfl rfl (by kernel_rfl)) (fun b34 => (mc [[bx b15 (cSp3 (l.getD t27 Sp3.zero)) 63], [bx b5 [iv aCols, .slice (va (⟨some b27, k30, j31⟩ : VR).q) outRows.length ((⟨some b27, k30, j31⟩ : VR).k), iv aCursor.row, iv aCursor.col, bv aVisible, iv aShape, sv aTitle] 55], [bx b3 [iv 0, .slice none 0 0, iv 0, iv 0, bv false, iv 0, sv ([] : List UInt8)] 55], [bx b2 [iv bCols, .slice bRowsq bRows.length bRowsk, iv bCursor.row, iv bCursor.col, bv bVisible, iv bShape, sv bTitle] 55], [bx b1 [iv aCols, .slice aRowsq aRows.length aRowsk, iv aCursor.row, iv aCursor.col, bv aVisible, iv aShape, sv aTitle] 55], vo cSlc 74 (⟨some b27, k30, j31⟩ : VR) outRowsrs] [true, true, true, true, true, true] rfl (by first | rfl | (simp only [List.length_set] <;> rfl)))) (fun b34 => (Foll.pick [1, 2, 3, 4, 5, 6, 7, 8, 9, 10, 11, 12, 13, 14] rfl)) fun b34 => ?_
        have hrows35 : RowsOk ([⟨(outRowsrs.getD (((l.getD t27 Sp3.zero).row).toNat) (⟨none, 0, 0⟩ : Slc)).q, ((outRows.getD (((l.getD t27 Sp3.zero).row).toNat) []).take (((l.getD t27 Sp3.zero).frm).toNat)).length, (outRowsrs.getD (((l.getD t27 Sp3.zero).row).toNat) (⟨none, 0, 0⟩ : Slc)).k⟩, ⟨(subq ((bRowsrs.getD (((l.getD t27 Sp3.zero).row).toNat) (⟨none, 0, 0⟩ : Slc)).q) (((l.getD t27 Sp3.zero).frm).toNat) 12 ((bRowsrs.getD (((l.getD t27 Sp3.zero).row).toNat) (⟨none, 0, 0⟩ : Slc)).k)), (((bRows.getD (((l.getD t27 Sp3.zero).row).toNat) []).drop (((l.getD t27 Sp3.zero).frm).toNat)).take ((((l.getD t27 Sp3.zero).to).toNat) - (((l.getD t27 Sp3.zero).frm).toNat))).length, (((bRowsrs.getD (((l.getD t27 Sp3.zero).row).toNat) (⟨none, 0, 0⟩ : Slc)).k) - (((l.getD t27 Sp3.zero).frm).toNat))⟩, ⟨(subq ((outRowsrs.getD (((l.getD t27 Sp3.zero).row).toNat) (⟨none, 0, 0⟩ : Slc)).q) (((l.getD t27 Sp3.zero).to).toNat) 12 ((outRowsrs.getD (((l.getD t27 Sp3.zero).row).toNat) (⟨none, 0, 0⟩ : Slc)).k)), ((outRows.getD (((l.getD t27 Sp3.zero).row).toNat) []).drop (((l.getD t27 Sp3.zero).to).toNat)).length, (((outRowsrs.getD (((l.getD t27 Sp3.zero).row).toNat) (⟨none, 0, 0⟩ : Slc)).k) - (((l.getD t27 Sp3.zero).to).toNat))⟩] : List Slc) ([((outRows.getD (((l.getD t27 Sp3.zero).row).toNat) []).take (((l.getD t27 Sp3.zero).frm).toNat)), (((bRows.getD (((l.getD t27 Sp3.zero).row).toNat) []).drop (((l.getD t27 Sp3.zero).frm).toNat)).take ((((l.getD t27 Sp3.zero).to).toNat) - (((l.getD t27 Sp3.zero).frm).toNat))), ((outRows.getD (((l.getD t27 Sp3.zero).row).toNat) []).drop (((l.getD t27 Sp3.zero).to).toNat))] : List (List Cel)) := (RowsOk.cons ⟨rfl, (by first | omega | (simp only [List.length_take, List.length_drop, List.length_append, List.length_cons, List.length_nil, List.length_set, List.length_map]; omega) | decide), (by first | omega | (simp only [List.length_take, List.length_drop, List.length_append, List.length_cons, List.length_nil, List.length_set, List.length_map]; omega) | decide)⟩ (RowsOk.cons ⟨rfl, (by first | omega | (simp only [List.length_take, List.length_drop, List.length_append, List.length_cons, List.length_nil, List.length_set, List.length_map]; omega) | decide), (by first | omega | (simp only [List.length_take, List.length_drop, List.length_append, List.length_cons, List.length_nil, List.length_set, List.length_map]; omega) | decide)⟩ (RowsOk.cons ⟨rfl, (by first | omega | (simp only [List.length_take, List.length_drop, List.length_append, List.length_cons, List.length_nil, List.length_set, List.length_map]; omega) | decide), (by first | omega | (simp only [List.length_take, List.length_drop, List.length_append, List.length_cons, List.length_nil, List.length_set, List.length_map]; omega) | decide)⟩ RowsOk.none)))
        refine JH_fact1 (q := rowsF cCel ([⟨(outRowsrs.getD (((l.getD t27 Sp3.zero).row).toNat) (⟨none, 0, 0⟩ : Slc)).q, ((outRows.getD (((l.getD t27 Sp3.zero).row).toNat) []).take (((l.getD t27 Sp3.zero).frm).toNat)).length, (outRowsrs.getD (((l.getD t27 Sp3.zero).row).toNat) (⟨none, 0, 0⟩ : Slc)).k⟩, ⟨(subq ((bRowsrs.getD (((l.getD t27 Sp3.zero).row).toNat) (⟨none, 0, 0⟩ : Slc)).q) (((l.getD t27 Sp3.zero).frm).toNat) 12 ((bRowsrs.getD (((l.getD t27 Sp3.zero).row).toNat) (⟨none, 0, 0⟩ : Slc)).k)), (((bRows.getD (((l.getD t27 Sp3.zero).row).toNat) []).drop (((l.getD t27 Sp3.zero).frm).toNat)).take ((((l.getD t27 Sp3.zero).to).toNat) - (((l.getD t27 Sp3.zero).frm).toNat))).length, (((bRowsrs.getD (((l.getD t27 Sp3.zero).row).toNat) (⟨none, 0, 0⟩ : Slc)).k) - (((l.getD t27 Sp3.zero).frm).toNat))⟩, ⟨(subq ((outRowsrs.getD (((l.getD t27 Sp3.zero).row).toNat) (⟨none, 0, 0⟩ : Slc)).q) (((l.getD t27 Sp3.zero).to).toNat) 12 ((outRowsrs.getD (((l.getD t27 Sp3.zero).row).toNat) (⟨none, 0, 0⟩ : Slc)).k)), ((outRows.getD (((l.getD t27 Sp3.zero).row).toNat) []).drop (((l.getD t27 Sp3.zero).to).toNat)).length, (((outRowsrs.getD (((l.getD t27 Sp3.zero).row).toNat) (⟨none, 0, 0⟩ : Slc)).k) - (((l.getD t27 Sp3.zero).to).toNat))⟩] : List Slc) ([((outRows.getD (((l.getD t27 Sp3.zero).row).toNat) []).take (((l.getD t27 Sp3.zero).frm).toNat)), (((bRows.getD (((l.getD t27 Sp3.zero).row).toNat) []).drop (((l.getD t27 Sp3.zero).frm).toNat)).take ((((l.getD t27 Sp3.zero).to).toNat) - (((l.getD t27 Sp3.zero).frm).toNat))), ((outRows.getD (((l.getD t27 Sp3.zero).row).toNat) []).drop (((l.getD t27 Sp3.zero).to).toNat))] : List (List Cel))) (rows_cons (at_of 4 rfl) (rows_cons (at_of 2 rfl) (rows_cons (at_of 1 rfl) rows_none))) ?_
        have : ([⟨(outRowsrs.getD (((l.getD t27 Sp3.zero).row).toNat) (⟨none, 0, 0⟩ : Slc)).q, ((outRows.getD (((l.getD t27 Sp3.zero).row).toNat) []).take (((l.getD t27 Sp3.zero).frm).toNat)).length, (outRowsrs.getD (((l.getD t27 Sp3.zero).row).toNat) (⟨none, 0, 0⟩ : Slc)).k⟩, ⟨(subq ((bRowsrs.getD (((l.getD t27 Sp3.zero).row).toNat) (⟨none, 0, 0⟩ : Slc)).q) (((l.getD t27 Sp3.zero).frm).toNat) 12 ((bRowsrs.getD (((l.getD t27 Sp3.zero).row).toNat) (⟨none, 0, 0⟩ : Slc)).k)), (((bRows.getD (((l.getD t27 Sp3.zero).row).toNat) []).drop (((l.getD t27 Sp3.zero).frm).toNat)).take ((((l.getD t27 Sp3.zero).to).toNat) - (((l.getD t27 Sp3.zero).frm).toNat))).length, (((bRowsrs.getD (((l.getD t27 Sp3.zero).row).toNat) (⟨none, 0, 0⟩ : Slc)).k) - (((l.getD t27 Sp3.zero).frm).toNat))⟩, ⟨(subq ((outRowsrs.getD (((l.getD t27 Sp3.zero).row).toNat) (⟨none, 0, 0⟩ : Slc)).q) (((l.getD t27 Sp3.zero).to).toNat) 12 ((outRowsrs.getD (((l.getD t27 Sp3.zero).row).toNat) (⟨none, 0, 0⟩ : Slc)).k)), ((outRows.getD (((l.getD t27 Sp3.zero).row).toNat) []).drop (((l.getD t27 Sp3.zero).to).toNat)).length, (((outRowsrs.getD (((l.getD t27 Sp3.zero).row).toNat) (⟨none, 0, 0⟩ : Slc)).k) - (((l.getD t27 Sp3.zero).to).toNat))⟩] : List Slc).length = 3 := rfl
        have hQ := bindVx hR; clear hR; obtain ⟨rslicesConcatapiCellapiCell, hrslicesConcatapiCellapiCell, hR⟩ := hQ
        refine hone 24 (bx b15 (cSp3 (l.getD t27 Sp3.zero)) 63 :: bx b5 [iv aCols, .slice (va (⟨some b27, k30, j31⟩ : VR).q) outRows.length ((⟨some b27, k30, j31⟩ : VR).k), iv aCursor.row, iv aCursor.col, bv aVisible, iv aShape, sv aTitle] 55 :: bx b3 [iv 0, .slice none 0 0, iv 0, iv 0, bv false, iv 0, sv ([] : List UInt8)] 55 :: bx b2 [iv bCols, .slice bRowsq bRows.length bRowsk, iv bCursor.row, iv bCursor.col, bv bVisible, iv bShape, sv bTitle] 55 :: bx b1 [iv aCols, .slice aRowsq aRows.length aRowsk, iv aCursor.row, iv aCursor.col, bv aVisible, iv aShape, sv aTitle] 55 :: (vo cSlc 74 (⟨some b27, k30, j31⟩ : VR) outRowsrs) ++ ([])) #[true, true, true, true, true, true, true, true, true, true, true, true, true, true, true, true, true, true, true, true, true, true, true, true, true, false, false] rfl rfl rfl (by kernel_rfl) (by kernel_rfl) (by kernel_rfl) (tri_callP (L2 := (bx b15 (cSp3 (l.getD t27 Sp3.zero)) 63 :: bx b5 [iv aCols, .slice (va (⟨some b27, k30, j31⟩ : VR).q) outRows.length ((⟨some b27, k30, j31⟩ : VR).k), iv aCursor.row, iv aCursor.col, bv aVisible, iv aShape, sv aTitle] 55 :: bx b3 [iv 0, .slice none 0 0, iv 0, iv 0, bv false, iv 0, sv ([] : List UInt8)] 55 :: bx b2 [iv bCols, .slice bRowsq bRows.length bRowsk, iv bCursor.row, iv bCursor.col, bv bVisible, iv bShape, sv bTitle] 55 :: bx b1 [iv aCols, .slice aRowsq aRows.length aRowsk, iv aCursor.row, iv aCursor.col, bv aVisible, iv aShape, sv aTitle] 55 :: (vo cSlc 74 (⟨some b27, k30, j31⟩ : VR) outRowsrs) ++ ([]))) (slices_Concat_api_Cell_api_Cell_c ([((outRows.getD (((l.getD t27 Sp3.zero).row).toNat) []).take (((l.getD t27 Sp3.zero).frm).toNat)), (((bRows.getD (((l.getD t27 Sp3.zero).row).toNat) []).drop (((l.getD t27 Sp3.zero).frm).toNat)).take ((((l.getD t27 Sp3.zero).to).toNat) - (((l.getD t27 Sp3.zero).frm).toNat))), ((outRows.getD (((l.getD t27 Sp3.zero).row).toNat) []).drop (((l.getD t27 Sp3.zero).to).toNat))] : List (List Cel)) (some ⟨b34, 0, none⟩) ([⟨(outRowsrs.getD (((l.getD t27 Sp3.zero).row).toNat) (⟨none, 0, 0⟩ : Slc)).q, ((outRows.getD (((l.getD t27 Sp3.zero).row).toNat) []).take (((l.getD t27 Sp3.zero).frm).toNat)).length, (outRowsrs.getD (((l.getD t27 Sp3.zero).row).toNat) (⟨none, 0, 0⟩ : Slc)).k⟩, ⟨(subq ((bRowsrs.getD (((l.getD t27 Sp3.zero).row).toNat) (⟨none, 0, 0⟩ : Slc)).q) (((l.getD t27 Sp3.zero).frm).toNat) 12 ((bRowsrs.getD (((l.getD t27 Sp3.zero).row).toNat) (⟨none, 0, 0⟩ : Slc)).k)), (((bRows.getD (((l.getD t27 Sp3.zero).row).toNat) []).drop (((l.getD t27 Sp3.zero).frm).toNat)).take ((((l.getD t27 Sp3.zero).to).toNat) - (((l.getD t27 Sp3.zero).frm).toNat))).length, (((bRowsrs.getD (((l.getD t27 Sp3.zero).row).toNat) (⟨none, 0, 0⟩ : Slc)).k) - (((l.getD t27 Sp3.zero).frm).toNat))⟩, ⟨(subq ((outRowsrs.getD (((l.getD t27 Sp3.zero).row).toNat) (⟨none, 0, 0⟩ : Slc)).q) (((l.getD t27 Sp3.zero).to).toNat) 12 ((outRowsrs.getD (((l.getD t27 Sp3.zero).row).toNat) (⟨none, 0, 0⟩ : Slc)).k)), ((outRows.getD (((l.getD t27 Sp3.zero).row).toNat) []).drop (((l.getD t27 Sp3.zero).to).toNat)).length, (((outRowsrs.getD (((l.getD t27 Sp3.zero).row).toNat) (⟨none, 0, 0⟩ : Slc)).k) - (((l.getD t27 Sp3.zero).to).toNat))⟩] : List Slc) 3 hrows35 (by first | omega | (simp only [List.length_take, List.length_drop, List.length_append, List.length_cons, List.length_nil, List.length_set, List.length_map]; omega) | decide) (by first | omega | (simp only [List.length_take, List.length_drop, List.length_append, List.length_cons, List.length_nil, List.length_set, List.length_map]; omega) | decide) (by first | omega | (simp only [List.length_cons, List.length_nil]; omega)) (by intro i hi; simp only [List.length_cons, List.length_nil] at hi; match i, hi with | 0, _ => (simp only [List.getD_cons_zero, List.length_take, List.length_drop]; omega) | 1, _ => (simp only [List.getD_cons_zero, List.getD_cons_succ, List.length_take, List.length_drop]; omega) | 2, _ => (simp only [List.getD_cons_zero, List.getD_cons_succ, List.length_take, List.length_drop]; omega)) rslicesConcatapiCellapiCell hrslicesConcatapiCellapiCell) rfl rfl rfl rfl rfl (Foll.pick [1, 0] rfl) (List.Perm.refl _) (fun ⟨r36, hk37⟩ => (bx b15 (cSp3 (l.getD t27 Sp3.zero)) 63 :: bx b5 [iv aCols, .slice (va (⟨some b27, k30, j31⟩ : VR).q) outRows.length ((⟨some b27, k30, j31⟩ : VR).k), iv aCursor.row, iv aCursor.col, bv aVisible, iv aShape, sv aTitle] 55 :: bx b3 [iv 0, .slice none 0 0, iv 0, iv 0, bv false, iv 0, sv ([] : List UInt8)] 55 :: bx b2 [iv bCols, .slice bRowsq bRows.length bRowsk, iv bCursor.row, iv bCursor.col, bv bVisible, iv bShape, sv bTitle] 55 :: bx b1 [iv aCols, .slice aRowsq aRows.length aRowsk, iv aCursor.row, iv aCursor.col, bv aVisible, iv aShape, sv aTitle] 55 :: (vo cCel 79 r36 rslicesConcatapiCellapiCell) ++ ((vo cSlc 74 (⟨some b27, k30, j31⟩ : VR) outRowsrs) ++ ([])))) (fun ⟨r36, hk37⟩ => permC [vo cCel 79 r36 rslicesConcatapiCellapiCell, [bx b15 (cSp3 (l.getD t27 Sp3.zero)) 63], [bx b5 [iv aCols, .slice (va (⟨some b27, k30, j31⟩ : VR).q) outRows.length ((⟨some b27, k30, j31⟩ : VR).k), iv aCursor.row, iv aCursor.col, bv aVisible, iv aShape, sv aTitle] 55], [bx b3 [iv 0, .slice none 0 0, iv 0, iv 0, bv false, iv 0, sv ([] : List UInt8)] 55], [bx b2 [iv bCols, .slice bRowsq bRows.length bRowsk, iv bCursor.row, iv bCursor.col, bv bVisible, iv bShape, sv bTitle] 55], [bx b1 [iv aCols, .slice aRowsq aRows.length aRowsk, iv aCursor.row, iv aCursor.col, bv aVisible, iv aShape, sv aTitle] 55], vo cSlc 74 (⟨some b27, k30, j31⟩ : VR) outRowsrs] [1, 2, 3, 4, 5, 0, 6] 7 rfl (by decide) (by first | rfl | simp only [List.flatten_cons, List.flatten_nil, List.append_nil, List.cons_append, List.nil_append, List.append_assoc]) [[bx b15 (cSp3 (l.getD t27 Sp3.zero)) 63], [bx b5 [iv aCols, .slice (va (⟨some b27, k30, j31⟩ : VR).q) outRows.length ((⟨some b27, k30, j31⟩ : VR).k), iv aCursor.row, iv aCursor.col, bv aVisible, iv aShape, sv aTitle] 55], [bx b3 [iv 0, .slice none 0 0, iv 0, iv 0, bv false, iv 0, sv ([] : List UInt8)] 55], [bx b2 [iv bCols, .slice bRowsq bRows.length bRowsk, iv bCursor.row, iv bCursor.col, bv bVisible, iv bShape, sv bTitle] 55], [bx b1 [iv aCols, .slice aRowsq aRows.length aRowsk, iv aCursor.row, iv aCursor.col, bv aVisible, iv aShape, sv aTitle] 55], vo cCel 79 r36 rslicesConcatapiCellapiCell, vo cSlc 74 (⟨some b27, k30, j31⟩ : VR) outRowsrs] rfl (by first | rfl | simp only [List.flatten_cons, List.flatten_nil, List.append_nil, List.cons_append, List.nil_append, List.append_assoc]))) (fun ⟨r36, hk37⟩ => (mc [[bx b15 (cSp3 (l.getD t27 Sp3.zero)) 63], [bx b5 [iv aCols, .slice (va (⟨some b27, k30, j31⟩ : VR).q) outRows.length ((⟨some b27, k30, j31⟩ : VR).k), iv aCursor.row, iv aCursor.col, bv aVisible, iv aShape, sv aTitle] 55], [bx b3 [iv 0, .slice none 0 0, iv 0, iv 0, bv false, iv 0, sv ([] : List UInt8)] 55], [bx b2 [iv bCols, .slice bRowsq bRows.length bRowsk, iv bCursor.row, iv bCursor.col, bv bVisible, iv bShape, sv bTitle] 55], [bx b1 [iv aCols, .slice aRowsq aRows.length aRowsk, iv aCursor.row, iv aCursor.col, bv aVisible, iv aShape, sv aTitle] 55], vo cCel 79 r36 rslicesConcatapiCellapiCell, vo cSlc 74 (⟨some b27, k30, j31⟩ : VR) outRowsrs] [true, true, true, true, true, false, true] rfl (by first | rfl | (simp only [List.length_set] <;> rfl)))) (fun ⟨r36, hk37⟩ => (Foll.pick [2, 3, 4, 5, 6, 7, 8, 9, 10, 11, 12, 13, 14, 15] rfl)) fun ⟨r36, hk37⟩ => ?_
        have := VOk.le hk37
        have := VOk.cap hk37
        have hcc := slices_Concat_api_Cell_api_Cell_eq ([((outRows.getD (((l.getD t27 Sp3.zero).row).toNat) []).take (((l.getD t27 Sp3.zero).frm).toNat)), (((bRows.getD (((l.getD t27 Sp3.zero).row).toNat) []).drop (((l.getD t27 Sp3.zero).frm).toNat)).take ((((l.getD t27 Sp3.zero).to).toNat) - (((l.getD t27 Sp3.zero).frm).toNat))), ((outRows.getD (((l.getD t27 Sp3.zero).row).toNat) []).drop (((l.getD t27 Sp3.zero).to).toNat))] : List (List Cel)); rw [hrslicesConcatapiCellapiCell] at hcc
        refine htak 25 (bx b15 (cSp3 (l.getD t27 Sp3.zero)) 63 :: bx b5 [iv aCols, .slice (va (⟨some b27, k30, j31⟩ : VR).q) outRows.length ((⟨some b27, k30, j31⟩ : VR).k), iv aCursor.row, iv aCursor.col, bv aVisible, iv aShape, sv aTitle] 55 :: bx b3 [iv 0, .slice none 0 0, iv 0, iv 0, bv false, iv 0, sv ([] : List UInt8)] 55 :: bx b2 [iv bCols, .slice bRowsq bRows.length bRowsk, iv bCursor.row, iv bCursor.col, bv bVisible, iv bShape, sv bTitle] 55 :: bx b1 [iv aCols, .slice aRowsq aRows.length aRowsk, iv aCursor.row, iv aCursor.col, bv aVisible, iv aShape, sv aTitle] 55 :: (vo cSlc 74 (⟨some b27, k30, j31⟩ : VR) outRowsrs) ++ ([])) #[true, true, true, true, true, true, true, true, true, true, true, true, true, true, true, true, true, true, true, true, true, true, true, true, true, true, false] rfl rfl rfl (by kernel_rfl) (by kernel_rfl) (by kernel_rfl) (det_ix_vec slt51 rfl rfl rfl (((l.getD t27 Sp3.zero).row).toNat) (by omega) (by have := hrowsoutRowsrs.1; omega)) ?_
        have := VOk.cap hk37
        have := VOk.le hk37
        refine JH_seal [bx b15 (cSp3 (l.getD t27 Sp3.zero)) 63, bx b5 [iv aCols, .slice (va (⟨some b27, k30, j31⟩ : VR).q) outRows.length ((⟨some b27, k30, j31⟩ : VR).k), iv aCursor.row, iv aCursor.col, bv aVisible, iv aShape, sv aTitle] 55, bx b3 [iv 0, .slice none 0 0, iv 0, iv 0, bv false, iv 0, sv ([] : List UInt8)] 55, bx b2 [iv bCols, .slice bRowsq bRows.length bRowsk, iv bCursor.row, iv bCursor.col, bv bVisible, iv bShape, sv bTitle] 55, bx b1 [iv aCols, .slice aRowsq aRows.length aRowsk, iv aCursor.row, iv aCursor.col, bv aVisible, iv aShape, sv aTitle] 55] ((vo cSlc 74 (⟨some b27, k30, j31⟩ : VR) outRowsrs) ++ ([])) (T := 79) (c := cCel) (r := r36) (xs := rslicesConcatapiCellapiCell) hk37 (by first | rfl | simp only [List.cons_append, List.append_assoc, List.nil_append, List.append_nil]) (bx b15 (cSp3 (l.getD t27 Sp3.zero)) 63 :: bx b5 [iv aCols, .slice (va (⟨some b27, k30, j31⟩ : VR).q) outRows.length ((⟨some b27, k30, j31⟩ : VR).k), iv aCursor.row, iv aCursor.col, bv aVisible, iv aShape, sv aTitle] 55 :: bx b3 [iv 0, .slice none 0 0, iv 0, iv 0, bv false, iv 0, sv ([] : List UInt8)] 55 :: bx b2 [iv bCols, .slice bRowsq bRows.length bRowsk, iv bCursor.row, iv bCursor.col, bv bVisible, iv bShape, sv bTitle] 55 :: bx b1 [iv aCols, .slice aRowsq aRows.length aRowsk, iv aCursor.row, iv aCursor.col, bv aVisible, iv aShape, sv aTitle] 55 :: (vo cSlc 74 (⟨some b27, k30, j31⟩ : VR) outRowsrs) ++ ([])) rfl (mc [[bx b15 (cSp3 (l.getD t27 Sp3.zero)) 63], [bx b5 [iv aCols, .slice (va (⟨some b27, k30, j31⟩ : VR).q) outRows.length ((⟨some b27, k30, j31⟩ : VR).k), iv aCursor.row, iv aCursor.col, bv aVisible, iv aShape, sv aTitle] 55], [bx b3 [iv 0, .slice none 0 0, iv 0, iv 0, bv false, iv 0, sv ([] : List UInt8)] 55], [bx b2 [iv bCols, .slice bRowsq bRows.length bRowsk, iv bCursor.row, iv bCursor.col, bv bVisible, iv bShape, sv bTitle] 55], [bx b1 [iv aCols, .slice aRowsq aRows.length aRowsk, iv aCursor.row, iv aCursor.col, bv aVisible, iv aShape, sv aTitle] 55], vo cSlc 74 (⟨some b27, k30, j31⟩ : VR) outRowsrs] [true, true, true, true, true, true] rfl (by first | rfl | (simp only [List.length_set] <;> rfl))) ?_
        have hw38 : RowsOk (outRowsrs.set (((l.getD t27 Sp3.zero).row).toNat) (⟨va r36.q, rslicesConcatapiCellapiCell.length, r36.k⟩ : Slc)) (outRows.set (((l.getD t27 Sp3.zero).row).toNat) rslicesConcatapiCellapiCell) := RowsOk.set hrowsoutRowsrs (((l.getD t27 Sp3.zero).row).toNat) ⟨rfl, (by first | omega | (simp only [List.length_take, List.length_drop, List.length_append, List.length_cons, List.length_nil, List.length_set, List.length_map]; omega) | decide), (by first | omega | (simp only [List.length_take, List.length_drop, List.length_append, List.length_cons, List.length_nil, List.length_set, List.length_map]; omega) | decide)⟩
        refine JH_fact1 (rows_set (((l.getD t27 Sp3.zero).row).toNat) (r := (⟨va r36.q, rslicesConcatapiCellapiCell.length, r36.k⟩ : Slc)) (xs := rslicesConcatapiCellapiCell) (at_of 16 rfl) (at_of 0 rfl)) ?_
        refine hone 26 [bx b15 (cSp3 (l.getD t27 Sp3.zero)) 63, bx b5 [iv aCols, .slice (va (⟨some b27, k30, j31⟩ : VR).q) outRows.length ((⟨some b27, k30, j31⟩ : VR).k), iv aCursor.row, iv aCursor.col, bv aVisible, iv aShape, sv aTitle] 55, bx b3 [iv 0, .slice none 0 0, iv 0, iv 0, bv false, iv 0, sv ([] : List UInt8)] 55, bx b2 [iv bCols, .slice bRowsq bRows.length bRowsk, iv bCursor.row, iv bCursor.col, bv bVisible, iv bShape, sv bTitle] 55, bx b1 [iv aCols, .slice aRowsq aRows.length aRowsk, iv aCursor.row, iv aCursor.col, bv aVisible, iv aShape, sv aTitle] 55] #[true, true, true, true, true, true, true, true, true, true, true, true, true, true, true, true, true, true, true, true, true, true, true, true, true, true, true] rfl rfl rfl (by kernel_rfl) (by kernel_rfl) (by kernel_rfl) (tri_vec_store (us := [.slice (va r36.q) rslicesConcatapiCellapiCell.length r36.k]) (u' := (⟨va r36.q, rslicesConcatapiCellapiCell.length, r36.k⟩ : Slc)) (c := cSlc) (sz := 1) ty74 (fun _ => rfl) rfl rfl rfl 5 rfl rfl rfl rfl (((l.getD t27 Sp3.zero).row).toNat) 0 rfl (gd (⟨none, 0, 0⟩ : Slc) (by have := hrowsoutRowsrs.1; omega)) rfl rfl) (fun _ => (mc [[bx b15 (cSp3 (l.getD t27 Sp3.zero)) 63], [bx b5 [iv aCols, .slice (va (⟨some b27, k30, j31⟩ : VR).q) outRows.length ((⟨some b27, k30, j31⟩ : VR).k), iv aCursor.row, iv aCursor.col, bv aVisible, iv aShape, sv aTitle] 55], [bx b3 [iv 0, .slice none 0 0, iv 0, iv 0, bv false, iv 0, sv ([] : List UInt8)] 55], [bx b2 [iv bCols, .slice bRowsq bRows.length bRowsk, iv bCursor.row, iv bCursor.col, bv bVisible, iv bShape, sv bTitle] 55], [bx b1 [iv aCols, .slice aRowsq aRows.length aRowsk, iv aCursor.row, iv aCursor.col, bv aVisible, iv aShape, sv aTitle] 55], vo cSlc 74 (⟨some b27, k30, j31⟩ : VR) (outRowsrs.set (((l.getD t27 Sp3.zero).row).toNat) (⟨va r36.q, rslicesConcatapiCellapiCell.length, r36.k⟩ : Slc))] [true, true, true, true, true, false] rfl (by first | rfl | (simp only [List.length_set] <;> rfl)))) (fun _ => (Foll.pick [4, 5, 6, 7, 8, 9, 10, 11, 12, 13, 14, 15, 16, 17] rfl)) fun _ => ?_
        refine JH_done (by kernel_rfl) ?_
        refine nx ?_
        refine J_region 2 rfl ?_
        refine ix rfl (det_add64 rfl rfl rfl rfl (by omega)) ?_
        refine ip 1 0 [(27, iv ((t27 : Int) + 1))] (by kernel_rfl) ?_
        refine JI_end ?_
        exact againL4 (z1 := t27) (z2 := outRows) (z3 := (⟨some b27, k30, j31⟩ : VR)) (z4 := outRowsrs) (t27 + 1) (outRows.set (((l.getD t27 Sp3.zero).row).toNat) rslicesConcatapiCellapiCell) (⟨some b27, k30, j31⟩ : VR) (outRowsrs.set (((l.getD t27 Sp3.zero).row).toNat) (⟨va r36.q, rslicesConcatapiCellapiCell.length, r36.k⟩ : Slc)) ⟨(by omega), hR, (VOk.cast hokoutRowsr (by simp)), hw38, (by simp only [List.length_set]; omega), (by exact getD_set_len ho2 (by rw [hcc]; simp only [List.flatten_cons, List.flatten_nil, List.length_append, List.length_take, List.length_drop, List.length_nil]; omega))⟩ (by (try dsimp only); omega) ⟨rfl, rfl, rfl, rfl, rfl, rfl, (by first | rfl | (simp only [List.length_set, List.length_append, List.length_cons, List.length_nil]; rfl) | simp | (simp; omega)), trivial⟩ (mc [[bx b15 (cSp3 (l.getD t27 Sp3.zero)) 63], [bx b5 [iv aCols, .slice (va (⟨some b27, k30, j31⟩ : VR).q) outRows.length ((⟨some b27, k30, j31⟩ : VR).k), iv aCursor.row, iv aCursor.col, bv aVisible, iv aShape, sv aTitle] 55], [bx b3 [iv 0, .slice none 0 0, iv 0, iv 0, bv false, iv 0, sv ([] : List UInt8)] 55], [bx b2 [iv bCols, .slice bRowsq bRows.length bRowsk, iv bCursor.row, iv bCursor.col, bv bVisible, iv bShape, sv bTitle] 55], [bx b1 [iv aCols, .slice aRowsq aRows.length aRowsk, iv aCursor.row, iv aCursor.col, bv aVisible, iv aShape, sv aTitle] 55], vo cSlc 74 (⟨some b27, k30, j31⟩ : VR) (outRowsrs.set (((l.getD t27 Sp3.zero).row).toNat) (⟨va r36.q, rslicesConcatapiCellapiCell.length, r36.k⟩ : Slc))] [false, true, true, true, true, true] rfl (by first | rfl | (simp only [List.length_set] <;> rfl))) (Foll.pick [9, 10, 11, 12, 13, 14, 15, 16, 0] rfl)
    · have h12p : ¬ ((t27 : Int) < (l.length : Int)) := by simpa using h12
      rw [dropn h12p] at hR; replace hR := (damage_Over_l0.eq_1 ..).symm.trans hR
      refine J_exit ?_
      refine nx ?_
      refine sr 3 rfl ?_
      refine ix rfl (det_own_agg (us := [iv aCols, .slice (va outRowsr.q) outRows.length outRowsr.k, iv aCursor.row, iv aCursor.col, bv aVisible, iv aShape, sv aTitle]) ty55 rfl rfl 0 rfl rfl rfl) ?_
      refine it rfl (tri_store (us := [iv aCols, .slice (va outRowsr.q) outRows.length outRowsr.k, iv aCursor.row, iv aCursor.col, bv aVisible, iv aShape, sv aTitle]) (cs' := [iv aCols, .slice (va outRowsr.q) outRows.length outRowsr.k, iv aCursor.row, iv aCursor.col, bv aVisible, iv aShape, sv aTitle]) ty55 rfl rfl rfl 1 rfl rfl rfl rfl rfl rfl) fun _ => ?_
      refine ip 1 0 [(7, iv 0)] (by kernel_rfl) ?_
      refine ie ?_
      refine J_ret ?_
      subst hR
      exact ends_ret rfl ⟨hr, hD⟩ (by simp [hD]) (res2 rfl (resV_cell (us := [iv aCols, .slice (va outRowsr.q) outRows.length outRowsr.k, iv aCursor.row, iv aCursor.col, bv aVisible, iv aShape, sv aTitle]) ty55 rfl 1 rfl rfl rfl) (resV_tmp rfl)) ⟨(outRowsr, outRowsrs), ⟨hokoutRowsr, hrowsoutRowsrs⟩⟩ (by rfl) (mc [[bx b5 [iv aCols, .slice (va outRowsr.q) outRows.length outRowsr.k, iv aCursor.row, iv aCursor.col, bv aVisible, iv aShape, sv aTitle] 55], [bx b3 [iv aCols, .slice (va outRowsr.q) outRows.length outRowsr.k, iv aCursor.row, iv aCursor.col, bv aVisible, iv aShape, sv aTitle] 55], [bx b2 [iv bCols, .slice bRowsq bRows.length bRowsk, iv bCursor.row, iv bCursor.col, bv bVisible, iv bShape, sv bTitle] 55], [bx b1 [iv aCols, .slice aRowsq aRows.length aRowsk, iv aCursor.row, iv aCursor.col, bv aVisible, iv aShape, sv aTitle] 55], vo cSlc 74 outRowsr outRowsrs] [false, false, false, false, true] rfl (by first | rfl | (simp only [List.length_set] <;> rfl))) (Foll.con1 (at_of 8 rfl) Foll.nil)

def slices_Clone_api_Span_api_Span (s : List Sp3) : List Sp3 :=
  (([] : List Sp3) ++ s)

theorem slices_Clone_api_Span_api_Span_eq (s : List Sp3) : slices_Clone_api_Span_api_Span s = s := by simp [slices_Clone_api_Span_api_Span]

set_option maxRecDepth 100000 in
theorem slices_Clone_api_Span_api_Span_c (s : List Sp3) (sq : Option Addr) (sk : Nat) (hls : s.length ≤ 9223372036854775807) (hcs : s.length ≤ sk) (hs : s.length ≤ 1000000) (R : List Sp3) (hR : slices_Clone_api_Span_api_Span s = R) : Con Tryz.prog 32 [.slice sq s.length sk] [] [sl cSp3 sq s] ({r : VR // VOk 3 R.length r}) (fun x => .slice (va x.1.q) R.length x.1.k) (fun x => ((vo cSp3 63 x.1 R) ++ ([]))) (fun x => []) := by
  refine con_of_J (n := 8) Tryz.func32 rfl (by kernel_rfl) rfl rfl [(0, .slice sq s.length sk)] ⟨rfl, trivial⟩ fun X hX hr hD => ?_
  replace hR := (slices_Clone_api_Span_api_Span.eq_1 ..).symm.trans hR
  refine sr 1 rfl ?_
  refine ip 1 0 [] (by kernel_rfl) ?_
  refine ie ?_
  refine J_seq ?_
  refine sr 2 rfl ?_
  refine ip 1 1 [(3, .slice sq s.length sk)] (by kernel_rfl) ?_
  refine ix rfl (det_nil Tryz.underlying56 rfl rfl rfl) ?_
  refine ie ?_
  refine J_if rfl (fun h1 => ?_) (fun h1 => ?_)
  · refine J_nil 0 rfl (Option.isNone_iff_eq_none.1 h1) fun hx2 => ?_
    replace hR : ([] : List Sp3) = R := by rw [← hR]; simp [hx2]
    refine sr 1 rfl ?_
    refine ip 1 0 [(2, .slice none 0 0)] (by kernel_rfl) ?_
    refine ie ?_
    refine J_ret ?_
    subst hR
    exact ends_ret rfl ⟨hr, hD⟩ (by simp [hD]) (res1 rfl (resV_tmp rfl)) ⟨VR.nil, VOk.nil⟩ (by rfl) (mc [vo cSp3 63 VR.nil ([] : List Sp3)] [true] rfl (by first | rfl | (simp only [List.length_set] <;> rfl))) Foll.nil
  · refine J_skip ?_
    refine nx ?_
    refine sr 4 rfl ?_
    refine it rfl (tri_buildSl0 slt56 rfl rfl) fun b3 => ?_
    have : ([] : List Sp3).length = 0 := rfl
    refine ip 1 2 [(6, .slice sq s.length sk)] (by kernel_rfl) ?_
    refine it rfl (tri_app2 (f := cSp3) (r := (⟨some b3, 0, []⟩ : VR)) (xs := ([] : List Sp3)) (ys := s) (pre := []) (post := []) apt56 (fun _ => rfl) (fun _ => rfl) rfl rfl rfl rfl rfl rfl rfl rfl (at_of 0 rfl) (show VOk 3 0 _ from ⟨rfl, Nat.zero_le _, Nat.zero_le _⟩) (by first | omega | (simp only [List.length_cons, List.length_nil, List.length_append, List.length_take, List.length_drop]; omega)) (by first | omega | (simp only [List.length_cons, List.length_nil, List.length_append, List.length_take, List.length_drop]; omega))) fun ⟨r4, hr5⟩ => ?_
    have := VOk.le hr5
    have := VOk.cap hr5
    refine ip 1 0 [(2, .slice (va r4.q) ((([] : List Sp3) ++ s).length) r4.k)] (by kernel_rfl) ?_
    refine ie ?_
    refine J_ret ?_
    subst hR
    exact ends_ret rfl ⟨hr, hD⟩ (by simp [hD]) (res1 rfl (resV_tmp rfl)) ⟨r4, hr5⟩ (by rfl) (mc [vo cSp3 63 r4 (([] : List Sp3) ++ s)] [true] rfl (by first | rfl | (simp only [List.length_set] <;> rfl))) Foll.nil

def damage_gatherer_addb (s : Sp3) (touchesc : Int) : List Sp3 :=
  (([] : List Sp3) ++ ([s] : List Sp3))

theorem damage_gatherer_addb_len (s : Sp3) (touchesc : Int) : (damage_gatherer_addb s touchesc).length ≤ 0 + 1 := by
  unfold damage_gatherer_addb; try simp only [Bool.cond_eq_ite]
  repeat' split
  all_goals simp

def damage_Join_1_1 (a : Sp3) (b : Sp3) (p2 : Int) : Bool :=
  (((((decide (a.row = b.row)) && (decide (a.frm < a.to))) && (decide (a.to ≤ b.frm))) && (decide (b.frm < b.to))) && (decide ((IntKind.u64.wrap ((IntKind.u64.wrap b.frm) - (IntKind.u64.wrap a.to))) ≤ (IntKind.u64.wrap p2))))

set_option maxRecDepth 100000 in
theorem damage_Join_1_1_c (a : Sp3) (b : Sp3) (p2 : Int) (p2p : Addr) (R : Bool) (hR : damage_Join_1_1 a b p2 = R) : ConV Tryz.prog 68 [ag (cSp3 a), ag (cSp3 b), pa p2p] [at_ p2p [iv p2]] (bv R) := by
  refine con_of_J (n := 44) Tryz.func68 rfl (by kernel_rfl) rfl rfl [(0, ag (cSp3 a)), (1, ag (cSp3 b)), (2, pa p2p)] ⟨rfl, rfl, rfl, trivial⟩ fun X hX hr hD => ?_
  replace hR := (damage_Join_1_1.eq_1 ..).symm.trans hR
  refine sr 3 rfl ?_
  refine it rfl (tri_box (cs := cSp3 a) rfl rfl rfl) fun b1 => ?_
  refine it rfl (tri_box (cs := cSp3 b) rfl rfl rfl) fun b2 => ?_
  refine ip 1 0 [] (by kernel_rfl) ?_
  refine ie ?_
  refine sr 39 rfl ?_
  refine ip 1 38 [(6, pt b1 0)] (by kernel_rfl) ?_
  refine ix rfl (det_own_one (v := iv a.row) ty3 rfl rfl 1 rfl rfl) ?_
  refine ip 1 36 [(8, pt b2 0)] (by kernel_rfl) ?_
  refine ix rfl (det_own_one (v := iv b.row) ty3 rfl rfl 0 rfl rfl) ?_
  refine ip 2 33 [(11, bv (decide (a.row = b.row)))] (by kernel_rfl) ?_
  refine iand 6 27 11 17 (decide (a.frm < a.to)) rfl (by kernel_rfl) (fun g3 => ?_) ?_
  · have g3p : a.row = b.row := by simpa using g3
    refine ip 1 5 [(12, pt b1 1)] (by kernel_rfl) ?_
    refine ix rfl (det_own_one (v := iv a.frm) ty3 rfl rfl 1 rfl rfl) ?_
    refine ip 1 3 [(14, pt b1 2)] (by kernel_rfl) ?_
    refine ix rfl (det_own_one (v := iv a.to) ty3 rfl rfl 1 rfl rfl) ?_
    refine ip 2 0 [(17, bv (decide (a.frm < a.to)))] (by kernel_rfl) ?_
    exact JI_end (armI 6 11 17 g3 Foll.refl (mk [true, true] rfl) rfl rfl rfl rfl rfl)
  refine ip 1 26 [(18, bv ((decide (a.row = b.row)) && (decide (a.frm < a.to))))] (by kernel_rfl) ?_
  refine iand 6 20 18 24 (decide (a.to ≤ b.frm)) rfl (by kernel_rfl) (fun g4 => ?_) ?_
  · have g4p : (a.row = b.row) ∧ (a.frm < a.to) := by simpa using g4
    refine ip 1 5 [(19, pt b2 1)] (by kernel_rfl) ?_
    refine ix rfl (det_own_one (v := iv b.frm) ty3 rfl rfl 0 rfl rfl) ?_
    refine ip 1 3 [(21, pt b1 2)] (by kernel_rfl) ?_
    refine ix rfl (det_own_one (v := iv a.to) ty3 rfl rfl 1 rfl rfl) ?_
    refine ip 2 0 [(24, bv (decide (a.to ≤ b.frm)))] (by kernel_rfl) ?_
    exact JI_end (armI 6 18 24 g4 Foll.refl (mk [true, true] rfl) rfl rfl rfl rfl rfl)
  refine ip 1 19 [(25, bv (((decide (a.row = b.row)) && (decide (a.frm < a.to))) && (decide (a.to ≤ b.frm))))] (by kernel_rfl) ?_
  refine iand 6 13 25 31 (decide (b.frm < b.to)) rfl (by kernel_rfl) (fun g5 => ?_) ?_
  · have g5p : ((a.row = b.row) ∧ (a.frm < a.to)) ∧ (a.to ≤ b.frm) := by simpa using g5
    refine ip 1 5 [(26, pt b2 1)] (by kernel_rfl) ?_
    refine ix rfl (det_own_one (v := iv b.frm) ty3 rfl rfl 0 rfl rfl) ?_
    refine ip 1 3 [(28, pt b2 2)] (by kernel_rfl) ?_
    refine ix rfl (det_own_one (v := iv b.to) ty3 rfl rfl 0 rfl rfl) ?_
    refine ip 2 0 [(31, bv (decide (b.frm < b.to)))] (by kernel_rfl) ?_
    exact JI_end (armI 6 25 31 g5 Foll.refl (mk [true, true] rfl) rfl rfl rfl rfl rfl)
  refine ip 1 12 [(32, bv ((((decide (a.row = b.row)) && (decide (a.frm < a.to))) && (decide (a.to ≤ b.frm))) && (decide (b.frm < b.to))))] (by kernel_rfl) ?_
  refine iand 11 1 32 43 (decide ((IntKind.u64.wrap ((IntKind.u64.wrap b.frm) - (IntKind.u64.wrap a.to))) ≤ (IntKind.u64.wrap p2))) rfl (by kernel_rfl) (fun g6 => ?_) ?_
  · have g6p : (((a.row = b.row) ∧ (a.frm < a.to)) ∧ (a.to ≤ b.frm)) ∧ (b.frm < b.to) := by simpa using g6
    refine ip 1 10 [(33, pt b2 1)] (by kernel_rfl) ?_
    refine ix rfl (det_own_one (v := iv b.frm) ty3 rfl rfl 0 rfl rfl) ?_
    refine ip 2 7 [(35, .int .u64 (IntKind.u64.wrap b.frm)), (36, pt b1 2)] (by kernel_rfl) ?_
    refine ix rfl (det_own_one (v := iv a.to) ty3 rfl rfl 1 rfl rfl) ?_
    refine ip 2 4 [(39, .int .u64 (IntKind.u64.wrap ((IntKind.u64.wrap b.frm) - (IntKind.u64.wrap a.to))))] (by kernel_rfl) ?_
    refine ix rfl (det_ld_one (v := iv p2) (us := [iv p2]) ty3 rfl rfl (at_of 0 rfl) rfl) ?_
    refine ip 3 0 [(43, bv (decide ((IntKind.u64.wrap ((IntKind.u64.wrap b.frm) - (IntKind.u64.wrap a.to))) ≤ (IntKind.u64.wrap p2))))] (by kernel_rfl) ?_
    exact JI_end (armI 9 32 43 g6 Foll.refl (mk [true, true] rfl) rfl rfl rfl rfl rfl)
  refine ip 1 0 [(5, bv (((((decide (a.row = b.row)) && (decide (a.frm < a.to))) && (decide (a.to ≤ b.frm))) && (decide (b.frm < b.to))) && (decide ((IntKind.u64.wrap ((IntKind.u64.wrap b.frm) - (IntKind.u64.wrap a.to))) ≤ (IntKind.u64.wrap p2)))))] (by kernel_rfl) ?_
  refine ie ?_
  refine J_ret ?_
  subst hR
  exact ends_ret rfl ⟨hr, hD⟩ (by simp [hD]) (res1 rfl (resV_tmp rfl)) () (by rfl) (mk [false, false] rfl) Foll.nil

def damage_gatherer_addc (g : List Sp3) (s : Sp3) (touchesc : Int) : List Sp3 :=
  (bif ((decide ((0 : Int) < (g.length : Int))) && (damage_Join_1_1 (g.getD (g.length - 1) Sp3.zero) s touchesc)) then (g.set (g.length - 1) ({ (g.getD (g.length - 1) Sp3.zero) with to := (if s.to > (g.getD (g.length - 1) Sp3.zero).to then s.to else (g.getD (g.length - 1) Sp3.zero).to) })) else (g ++ ([s] : List Sp3)))

theorem damage_gatherer_addc_len (g : List Sp3) (s : Sp3) (touchesc : Int) : (damage_gatherer_addc g s touchesc).length ≤ g.length + 1 := by
  unfold damage_gatherer_addc; try simp only [Bool.cond_eq_ite]
  repeat' split
  all_goals simp

set_option maxRecDepth 100000 in
theorem damage_gatherer_addc_c (g : List Sp3) (s : Sp3) (touchesc : Int) (gb : Nat) (gr : VR) (touchescp : Addr) (hokgr : VOk 3 g.length gr) (hg : g.length ≤ 1000000) (R : List Sp3) (hR : damage_gatherer_addc g s touchesc = R) : Con Tryz.prog 62 [pt gb 0, ag (cSp3 s), .func (.func 68) #[] #[pa touchescp]] (bx gb [.slice (va gr.q) g.length gr.k] 114 :: (vo cSp3 63 gr g) ++ ([])) [at_ touchescp [iv touchesc]] ({r : VR // VOk 3 R.length r}) (fun x => .tuple #[]) (fun x => (bx gb [.slice (va x.1.q) R.length x.1.k] 114 :: (vo cSp3 63 x.1 R) ++ ([]))) (fun x => []) := by
  refine con_of_J (n := 63) Tryz.func62 rfl (by kernel_rfl) rfl rfl [(0, pt gb 0), (1, ag (cSp3 s)), (2, .func (.func 68) #[] #[pa touchescp])] ⟨rfl, rfl, rfl, trivial⟩ fun X hX hr hD => ?_
  replace hR := (damage_gatherer_addc.eq_1 ..).symm.trans hR
  have := VOk.le hokgr
  refine sr 1 rfl ?_
  refine it rfl (tri_box (cs := cSp3 s) rfl rfl rfl) fun b1 => ?_
  refine ie ?_
  refine J_seq ?_
  refine sr 7 rfl ?_
  refine ip 4 3 [(10, pt gb 0)] (by kernel_rfl) ?_
  refine ix rfl (det_own_one (v := .slice (va gr.q) g.length gr.k) ty56 rfl rfl 1 rfl rfl) ?_
  refine ip 2 0 [(6, iv (g.length : Int))] (by kernel_rfl) ?_
  refine ie ?_
  refine sd 16 rfl (by kernel_rfl) rfl ?_
  refine dp 3 13 [(15, bv (decide ((0 : Int) < (g.length : Int))))] (by kernel_rfl) ?_
  refine dand 13 0 15 28 (damage_Join_1_1 (g.getD (g.length - 1) Sp3.zero) s touchesc) rfl (by kernel_rfl) (fun g2 => ?_) ?_
  · have g2p : (0 : Int) < (g.length : Int) := by simpa using g2
    refine dp 5 8 [(16, .func (.func 68) #[] #[pa touchescp]), (20, pt gb 0)] (by kernel_rfl) ?_
    refine dd rfl (det_own_one (v := .slice (va gr.q) g.length gr.k) ty56 rfl rfl 1 rfl rfl) ?_
    refine dp 1 6 [(22, iv (g.length : Int))] (by kernel_rfl) ?_
    refine dd rfl (det_sub64 rfl rfl rfl rfl (by omega)) ?_
    obtain ⟨b3, hb4⟩ := VOk.some hokgr (by omega)
    obtain ⟨q5, k6, j7⟩ := gr
    obtain rfl : q5 = some b3 := hb4
    refine dd rfl (det_ix_vec slt56 rfl rfl rfl (g.length - 1) (by omega) (by omega)) ?_
    refine dd rfl (det_vec_agg (us := cSp3 (g.getD (g.length - 1) Sp3.zero)) (c := cSp3) (sz := 3) ty63 (fun _ => rfl) rfl rfl 2 rfl (g.length - 1) 0 rfl (gd Sp3.zero (by omega)) rfl rfl) ?_
    refine dd rfl (det_own_agg (us := cSp3 s) ty63 rfl rfl 0 rfl rfl rfl) ?_
    refine ddc rfl (det_call (damage_Join_1_1_c (g.getD (g.length - 1) Sp3.zero) s touchesc touchescp _ rfl) rfl rfl rfl rfl rfl Foll.refl) ?_
    refine dp 1 0 [(28, bv (damage_Join_1_1 (g.getD (g.length - 1) Sp3.zero) s touchesc))] (by kernel_rfl) ?_
    exact JD_end (armD 11 15 28 g2 rfl rfl rfl rfl rfl)
  refine de ?_
  refine J_if rfl (fun h8 => ?_) (fun h8 => ?_)
  · have h8p := h8; try simp only [Bool.and_eq_true, Bool.or_eq_true, Bool.and_eq_false_iff, Bool.or_eq_false_iff, Bool.not_eq_true', Bool.not_eq_false', decide_eq_true_eq, decide_eq_false_iff_not] at h8p
    replace hR := bt hR h8
    refine sh 23 [(23, [bx b1 (cSp3 s) 63]), (23, [bx gb [.slice (va gr.q) g.length gr.k] 114]), (22, vo cSp3 63 gr g)] [at_ touchescp [iv touchesc]] (bx b1 (cSp3 s) 63 :: bx gb [.slice (va gr.q) g.length gr.k] 114 :: (vo cSp3 63 gr g) ++ ([])) #[false, false, false, false, false, false, false, false, false, false, false, false, false, false, false, false, false, false, false, false, false, false, false] (by kernel_rfl) rfl (by kernel_rfl) (by kernel_rfl) (by kernel_rfl) (mc [[bx b1 (cSp3 s) 63], [bx gb [.slice (va gr.q) g.length gr.k] 114], vo cSp3 63 gr g] [true, true, true] rfl (by first | rfl | (simp only [List.length_set] <;> rfl))) Foll.refl ?_
    refine hpur [0, 1, 2, 3, 5, 7, 8, 9, 10, 12, 17] 12 #[true, true, true, true, false, true, false, true, true, true, true, false, true, false, false, false, false, true, false, false, false, false, false] [(32, pt gb 0), (34, iv (g.length : Int)), (39, pt gb 0), (41, iv (g.length : Int)), (46, pt b1 2)] (by kernel_rfl) ?_
    refine htak 4 (bx b1 (cSp3 s) 63 :: bx gb [.slice (va gr.q) g.length gr.k] 114 :: (vo cSp3 63 gr g) ++ ([])) #[true, true, true, true, true, true, false, true, true, true, true, false, true, false, false, false, false, true, false, false, false, false, false] rfl rfl rfl (by kernel_rfl) (by kernel_rfl) (by kernel_rfl) (det_own_one (v := .slice (va gr.q) g.length gr.k) ty56 rfl rfl 1 rfl rfl) ?_
    refine htak 6 (bx b1 (cSp3 s) 63 :: bx gb [.slice (va gr.q) g.length gr.k] 114 :: (vo cSp3 63 gr g) ++ ([])) #[true, true, true, true, true, true, true, true, true, true, true, false, true, false, false, false, false, true, false, false, false, false, false] rfl rfl rfl (by kernel_rfl) (by kernel_rfl) (by kernel_rfl) (det_sub64 rfl rfl rfl rfl (by omega)) ?_
    refine htak 11 (bx b1 (cSp3 s) 63 :: bx gb [.slice (va gr.q) g.length gr.k] 114 :: (vo cSp3 63 gr g) ++ ([])) #[true, true, true, true, true, true, true, true, true, true, true, true, true, false, false, false, false, true, false, false, false, false, false] rfl rfl rfl (by kernel_rfl) (by kernel_rfl) (by kernel_rfl) (det_own_one (v := .slice (va gr.q) g.length gr.k) ty56 rfl rfl 1 rfl rfl) ?_
    refine htak 13 (bx b1 (cSp3 s) 63 :: bx gb [.slice (va gr.q) g.length gr.k] 114 :: (vo cSp3 63 gr g) ++ ([])) #[true, true, true, true, true, true, true, true, true, true, true, true, true, true, false, false, false, true, false, false, false, false, false] rfl rfl rfl (by kernel_rfl) (by kernel_rfl) (by kernel_rfl) (det_sub64 rfl rfl rfl rfl (by omega)) ?_
    obtain ⟨b9, hb10⟩ := VOk.some hokgr (by omega)
    obtain ⟨q11, k12, j13⟩ := gr
    obtain rfl : q11 = some b9 := hb10
    refine htak 14 (bx b1 (cSp3 s) 63 :: bx gb [.slice (va (⟨some b9, k12, j13⟩ : VR).q) g.length ((⟨some b9, k12, j13⟩ : VR).k)] 114 :: (vo cSp3 63 (⟨some b9, k12, j13⟩ : VR) g) ++ ([])) #[true, true, true, true, true, true, true, true, true, true, true, true, true, true, true, false, false, true, false, false, false, false, false] rfl rfl rfl (by kernel_rfl) (by kernel_rfl) (by kernel_rfl) (det_ix_vec slt56 rfl rfl rfl (g.length - 1) (by omega) (by omega)) ?_
    refine hpur [15] 6 #[true, true, true, true, true, true, true, true, true, true, true, true, true, true, true, true, false, true, false, false, false, false, false] [(44, .pointer (some ⟨b9, (g.length - 1) * 3 + 2, none⟩))] (by kernel_rfl) ?_
    refine htak 16 (bx b1 (cSp3 s) 63 :: bx gb [.slice (va (⟨some b9, k12, j13⟩ : VR).q) g.length ((⟨some b9, k12, j13⟩ : VR).k)] 114 :: (vo cSp3 63 (⟨some b9, k12, j13⟩ : VR) g) ++ ([])) #[true, true, true, true, true, true, true, true, true, true, true, true, true, true, true, true, true, true, false, false, false, false, false] rfl rfl rfl (by kernel_rfl) (by kernel_rfl) (by kernel_rfl) (det_vec_one (u := iv ((g.getD (g.length - 1) Sp3.zero).to)) (c := cSp3) (sz := 3) ty3 (fun _ => rfl) rfl rfl 2 rfl (g.length - 1) 2 rfl (gd Sp3.zero (by omega)) rfl) ?_
    refine htak 18 (bx b1 (cSp3 s) 63 :: bx gb [.slice (va (⟨some b9, k12, j13⟩ : VR).q) g.length ((⟨some b9, k12, j13⟩ : VR).k)] 114 :: (vo cSp3 63 (⟨some b9, k12, j13⟩ : VR) g) ++ ([])) #[true, true, true, true, true, true, true, true, true, true, true, true, true, true, true, true, true, true, true, false, false, false, false] rfl rfl rfl (by kernel_rfl) (by kernel_rfl) (by kernel_rfl) (det_own_one (v := iv s.to) ty3 rfl rfl 0 rfl rfl) ?_
    refine hpur [19] 3 #[true, true, true, true, true, true, true, true, true, true, true, true, true, true, true, true, true, true, true, true, false, false, false] [(48, iv (if s.to > (g.getD (g.length - 1) Sp3.zero).to then s.to else (g.getD (g.length - 1) Sp3.zero).to))] (by kernel_rfl) ?_
    refine htak 20 [bx b1 (cSp3 s) 63, bx gb [.slice (va (⟨some b9, k12, j13⟩ : VR).q) g.length ((⟨some b9, k12, j13⟩ : VR).k)] 114] #[true, true, true, true, true, true, true, true, true, true, true, true, true, true, true, true, true, true, true, true, true, false, false] rfl rfl rfl (by kernel_rfl) (by kernel_rfl) (by kernel_rfl) (det_ix_vec slt56 rfl rfl rfl (g.length - 1) (by omega) (by omega)) ?_
    refine hpur [21] 1 #[true, true, true, true, true, true, true, true, true, true, true, true, true, true, true, true, true, true, true, true, true, true, false] [(50, .pointer (some ⟨b9, (g.length - 1) * 3 + 2, none⟩))] (by kernel_rfl) ?_
    refine hone 22 [bx b1 (cSp3 s) 63, bx gb [.slice (va (⟨some b9, k12, j13⟩ : VR).q) g.length ((⟨some b9, k12, j13⟩ : VR).k)] 114] #[true, true, true, true, true, true, true, true, true, true, true, true, true, true, true, true, true, true, true, true, true, true, true] rfl rfl rfl (by kernel_rfl) (by kernel_rfl) (by kernel_rfl) (tri_vec_store (us := [iv (if s.to > (g.getD (g.length - 1) Sp3.zero).to then s.to else (g.getD (g.length - 1) Sp3.zero).to)]) (u' := { (g.getD (g.length - 1) Sp3.zero) with to := (if s.to > (g.getD (g.length - 1) Sp3.zero).to then s.to else (g.getD (g.length - 1) Sp3.zero).to) }) (c := cSp3) (sz := 3) ty3 (fun _ => rfl) rfl rfl rfl 2 rfl rfl rfl rfl (g.length - 1) 2 rfl (gd Sp3.zero (by omega)) rfl rfl) (fun _ => (mc [[bx b1 (cSp3 s) 63], [bx gb [.slice (va (⟨some b9, k12, j13⟩ : VR).q) g.length ((⟨some b9, k12, j13⟩ : VR).k)] 114], vo cSp3 63 (⟨some b9, k12, j13⟩ : VR) (g.set (g.length - 1) ({ (g.getD (g.length - 1) Sp3.zero) with to := (if s.to > (g.getD (g.length - 1) Sp3.zero).to then s.to else (g.getD (g.length - 1) Sp3.zero).to) }))] [true, true, false] rfl (by first | rfl | (simp only [List.length_set] <;> rfl)))) (fun _ => Foll.refl) fun _ => ?_
    refine hend (by kernel_rfl) ?_
    refine J_ret ?_
    subst hR
    exact ends_ret rfl ⟨hr, hD⟩ (by simp [hD]) (res0 rfl) ⟨(⟨some b9, k12, j13⟩ : VR), (VOk.cast hokgr (by simp))⟩ (by rfl) (mc [[bx b1 (cSp3 s) 63], [bx gb [.slice (va (⟨some b9, k12, j13⟩ : VR).q) g.length ((⟨some b9, k12, j13⟩ : VR).k)] 114], vo cSp3 63 (⟨some b9, k12, j13⟩ : VR) (g.set (g.length - 1) ({ (g.getD (g.length - 1) Sp3.zero) with to := (if s.to > (g.getD (g.length - 1) Sp3.zero).to then s.to else (g.getD (g.length - 1) Sp3.zero).to) }))] [false, true, true] rfl (by first | rfl | (simp only [List.length_set] <;> rfl))) Foll.nil
  · have h8p := h8; try simp only [Bool.and_eq_true, Bool.or_eq_true, Bool.and_eq_false_iff, Bool.or_eq_false_iff, Bool.not_eq_true', Bool.not_eq_false', decide_eq_true_eq, decide_eq_false_iff_not] at h8p
    replace hR := bf hR h8
    refine J_skip ?_
    refine nx ?_
    refine sh' 13 [(13, [bx b1 (cSp3 s) 63]), (12, [bx gb [.slice (va gr.q) g.length gr.k] 114]), (8, vo cSp3 63 gr g)] [at_ touchescp [iv touchesc]] (bx b1 (cSp3 s) 63 :: bx gb [.slice (va gr.q) g.length gr.k] 114 :: (vo cSp3 63 gr g) ++ ([])) #[false, false, false, false, false, false, false, false, false, false, false, false, false] (by kernel_rfl) rfl (by kernel_rfl) (by kernel_rfl) (by kernel_rfl) (mc [[bx b1 (cSp3 s) 63], [bx gb [.slice (va gr.q) g.length gr.k] 114], vo cSp3 63 gr g] [true, true, true] rfl (by first | rfl | (simp only [List.length_set] <;> rfl))) Foll.refl ?_
    refine hpur [0, 1, 2, 3, 4] 8 #[true, true, true, true, true, false, false, false, false, false, false, false, false] [(51, pt gb 0), (55, pt gb 0)] (by kernel_rfl) ?_
    refine htak 5 (bx b1 (cSp3 s) 63 :: bx gb [.slice (va gr.q) g.length gr.k] 114 :: (vo cSp3 63 gr g) ++ ([])) #[true, true, true, true, true, true, false, false, false, false, false, false, false] rfl rfl rfl (by kernel_rfl) (by kernel_rfl) (by kernel_rfl) (det_own_one (v := .slice (va gr.q) g.length gr.k) ty56 rfl rfl 1 rfl rfl) ?_
    refine htak 6 [bx b1 (cSp3 s) 63, bx gb [.slice (va gr.q) g.length gr.k] 114] #[true, true, true, true, true, true, true, false, false, false, false, false, false] rfl rfl rfl (by kernel_rfl) (by kernel_rfl) (by kernel_rfl) (det_own_agg (us := cSp3 s) ty63 rfl rfl 0 rfl rfl rfl) ?_
    refine hone 7 (bx b1 (cSp3 s) 63 :: bx gb [.slice (va gr.q) g.length gr.k] 114 :: (vo cSp3 63 gr g) ++ ([])) #[true, true, true, true, true, true, true, true, false, false, false, false, false] rfl rfl rfl (by kernel_rfl) (by kernel_rfl) (by kernel_rfl) (tri_buildSl (c := cSp3) (xs := ([s] : List Sp3)) slt56 rfl rfl rfl (by kernel_rfl)) (fun b14 => (mc [[bx b1 (cSp3 s) 63], [bx gb [.slice (va gr.q) g.length gr.k] 114], vo cSp3 63 gr g] [true, true, true] rfl (by first | rfl | (simp only [List.length_set] <;> rfl)))) (fun b14 => (Foll.pick [1] rfl)) fun b14 => ?_
    have : ([s] : List Sp3).length = 1 := rfl
    refine hone 8 [bx b1 (cSp3 s) 63, bx gb [.slice (va gr.q) g.length gr.k] 114] #[true, true, true, true, true, true, true, true, true, false, false, false, false] rfl rfl rfl (by kernel_rfl) (by kernel_rfl) (by kernel_rfl) (tri_app1 (f := cSp3) (r := gr) (xs := g) (ys := ([s] : List Sp3)) (pre := [bx b1 (cSp3 s) 63, bx gb [.slice (va gr.q) g.length gr.k] 114]) (post := []) apt56 (fun _ => rfl) (fun _ => rfl) rfl rfl rfl rfl rfl rfl rfl rfl rfl (at_of 0 rfl) hokgr (by first | omega | (simp only [List.length_cons, List.length_nil, List.length_append, List.length_take, List.length_drop]; omega)) (by first | omega | (simp only [List.length_cons, List.length_nil, List.length_append, List.length_take, List.length_drop]; omega))) (fun ⟨r15, hr16⟩ => (mc [[bx b1 (cSp3 s) 63], [bx gb [.slice (va gr.q) g.length gr.k] 114], vo cSp3 63 r15 (g ++ ([s] : List Sp3))] [true, true, false] rfl (by first | rfl | (simp only [List.length_set] <;> rfl)))) (fun ⟨r15, hr16⟩ => (Foll.pick [1] rfl)) fun ⟨r15, hr16⟩ => ?_
    have := VOk.le hr16
    have := VOk.cap hr16
    refine hpur [9, 10, 11] 1 #[true, true, true, true, true, true, true, true, true, true, true, true, false] [(62, pt gb 0)] (by kernel_rfl) ?_
    refine hone 12 [bx b1 (cSp3 s) 63] #[true, true, true, true, true, true, true, true, true, true, true, true, true] rfl rfl rfl (by kernel_rfl) (by kernel_rfl) (by kernel_rfl) (tri_store (us := [.slice (va r15.q) ((g ++ ([s] : List Sp3)).length) r15.k]) (cs' := [.slice (va r15.q) ((g ++ ([s] : List Sp3)).length) r15.k]) ty56 rfl rfl rfl 1 rfl rfl rfl rfl rfl rfl) (fun _ => (mc [[bx b1 (cSp3 s) 63], [bx gb [.slice (va r15.q) ((g ++ ([s] : List Sp3)).length) r15.k] 114], vo cSp3 63 r15 (g ++ ([s] : List Sp3))] [true, false, false] rfl (by first | rfl | (simp only [List.length_set] <;> rfl)))) (fun _ => (Foll.pick [1] rfl)) fun _ => ?_
    refine JH_done (by kernel_rfl) ?_
    subst hR
    exact ends_normal rfl ⟨hr, hD⟩ (by simp [hD]) (res0 rfl) ⟨r15, hr16⟩ (by rfl) (mc [[bx b1 (cSp3 s) 63], [bx gb [.slice (va r15.q) ((g ++ ([s] : List Sp3)).length) r15.k] 114], vo cSp3 63 r15 (g ++ ([s] : List Sp3))] [false, true, true] rfl (by first | rfl | (simp only [List.length_set] <;> rfl))) Foll.nil

def damage_Join_1a (g : List Sp3) (s : Sp3) (p2 : Int) : List Sp3 :=
  (bindV (damage_gatherer_addc g s p2) fun (rdamagegathereraddc : List Sp3) => rdamagegathereraddc)

theorem damage_Join_1a_len (g : List Sp3) (s : Sp3) (p2 : Int) : (damage_Join_1a g s p2).length ≤ g.length + 1 := by
  simp only [damage_Join_1a, bindV]; first | exact damage_gatherer_addb_len _ _ | exact damage_gatherer_addc_len _ _ _

set_option maxRecDepth 100000 in
theorem damage_Join_1a_c (g : List Sp3) (s : Sp3) (p2 : Int) (gb : Nat) (gr : VR) (p2p : Addr) (hokgr : VOk 3 g.length gr) (hg : g.length ≤ 1000000) (R : List Sp3) (hR : damage_Join_1a g s p2 = R) : Con Tryz.prog 67 [pt gb 0, ag (cSp3 s), pa p2p] (bx gb [.slice (va gr.q) g.length gr.k] 114 :: (vo cSp3 63 gr g) ++ ([])) [at_ p2p [iv p2]] ({r : VR // VOk 3 R.length r}) (fun x => .tuple #[]) (fun x => (bx gb [.slice (va x.1.q) R.length x.1.k] 114 :: (vo cSp3 63 x.1 R) ++ ([]))) (fun x => []) := by
  refine con_of_J (n := 9) Tryz.func67 rfl (by kernel_rfl) rfl rfl [(0, pt gb 0), (1, ag (cSp3 s)), (2, pa p2p)] ⟨rfl, rfl, rfl, trivial⟩ fun X hX hr hD => ?_
  replace hR := (damage_Join_1a.eq_1 ..).symm.trans hR
  have := VOk.le hokgr
  refine sr 1 rfl ?_
  refine it rfl (tri_box (cs := cSp3 s) rfl rfl rfl) fun b1 => ?_
  refine ie ?_
  refine J_region 4 rfl ?_
  refine ip 1 3 [(5, pt gb 0)] (by kernel_rfl) ?_
  refine ix rfl (det_own_agg (us := cSp3 s) ty63 rfl rfl 0 rfl rfl rfl) ?_
  refine ip 1 1 [(7, .func (.func 68) #[] #[pa p2p])] (by kernel_rfl) ?_
  have hQ := bindVx hR; clear hR; obtain ⟨rdamagegathereraddc, hrdamagegathereraddc, hR⟩ := hQ
  refine it rfl (tri_callP (L2 := [bx b1 (cSp3 s) 63]) (damage_gatherer_addc_c g s p2 gb gr p2p hokgr (by first | omega | (simp only [List.length_nil]; omega)) rdamagegathereraddc hrdamagegathereraddc) rfl rfl rfl rfl rfl Foll.refl (permC [[bx b1 (cSp3 s) 63], [bx gb [.slice (va gr.q) g.length gr.k] 114], vo cSp3 63 gr g] [1, 2, 0] 3 rfl (by decide) rfl [[bx gb [.slice (va gr.q) g.length gr.k] 114], vo cSp3 63 gr g, [bx b1 (cSp3 s) 63]] rfl (by first | rfl | simp only [List.flatten_cons, List.flatten_nil, List.append_nil, List.cons_append, List.nil_append, List.append_assoc])) (fun ⟨r2, hk3⟩ => (bx gb [.slice (va r2.q) rdamagegathereraddc.length r2.k] 114 :: bx b1 (cSp3 s) 63 :: (vo cSp3 63 r2 rdamagegathereraddc) ++ ([]))) (fun ⟨r2, hk3⟩ => permC [[bx gb [.slice (va r2.q) rdamagegathereraddc.length r2.k] 114], vo cSp3 63 r2 rdamagegathereraddc, [bx b1 (cSp3 s) 63]] [0, 2, 1] 3 rfl (by decide) (by first | rfl | simp only [List.flatten_cons, List.flatten_nil, List.append_nil, List.cons_append, List.nil_append, List.append_assoc]) [[bx gb [.slice (va r2.q) rdamagegathereraddc.length r2.k] 114], [bx b1 (cSp3 s) 63], vo cSp3 63 r2 rdamagegathereraddc] rfl (by first | rfl | simp only [List.flatten_cons, List.flatten_nil, List.append_nil, List.cons_append, List.nil_append, List.append_assoc]))) fun ⟨r2, hk3⟩ => ?_
  have := VOk.le hk3
  have := VOk.cap hk3
  have := damage_gatherer_addc_len g s p2; try rw [hrdamagegathereraddc] at this
  refine JI_end ?_
  subst hR
  exact ends_normal rfl ⟨hr, hD⟩ (by simp [hD]) (res0 rfl) ⟨r2, hk3⟩ (by rfl) (mc [[bx gb [.slice (va r2.q) rdamagegathereraddc.length r2.k] 114], [bx b1 (cSp3 s) 63], vo cSp3 63 r2 rdamagegathereraddc] [true, false, true] rfl (by first | rfl | (simp only [List.length_set] <;> rfl))) Foll.nil

def damage_gathered_api_Span_l0 (addc : Int) : List Sp3 → Nat → List Sp3 → List Sp3
  | [], t12, t9list => t9list
  | hd_l0 :: tl_l0, t12, t9list => (bindV (damage_Join_1a t9list hd_l0 addc) fun (rdamageJoin1a : List Sp3) => damage_gathered_api_Span_l0 addc tl_l0 (t12 + 1) rdamageJoin1a)
def damage_gathered_api_Span (l : List Sp3) (addc : Int) : List Sp3 :=
  damage_gathered_api_Span_l0 addc l 0 ([] : List Sp3)

set_option maxRecDepth 100000 in
theorem damage_gathered_api_Span_c (l : List Sp3) (addc : Int) (lq : Option Addr) (lk : Nat) (addcp : Addr) (hll : l.length ≤ 9223372036854775807) (hcl : l.length ≤ lk) (hl : l.length ≤ 1000000) (R : List Sp3) (hR : damage_gathered_api_Span l addc = R) : Con Tryz.prog 66 [.slice lq l.length lk, .func (.func 67) #[] #[pa addcp]] [] [sl cSp3 lq l, at_ addcp [iv addc]] ({r : VR // VOk 3 R.length r}) (fun x => .slice (va x.1.q) R.length x.1.k) (fun x => ((vo cSp3 63 x.1 R) ++ ([]))) (fun x => []) := by
  refine con_of_J (n := 26) Tryz.func66 rfl (by kernel_rfl) rfl rfl [(0, .slice lq l.length lk), (1, .func (.func 67) #[] #[pa addcp])] ⟨rfl, rfl, trivial⟩ fun X hX hr hD => ?_
  replace hR := (damage_gathered_api_Span.eq_1 ..).symm.trans hR
  refine sr 1 rfl ?_
  refine ip 1 0 [] (by kernel_rfl) ?_
  refine ie ?_
  refine sr 3 rfl ?_
  refine ix rfl (det_build (cs := [.slice none 0 0]) rfl rfl (by kernel_rfl)) ?_
  refine it rfl (tri_box (cs := [.slice none 0 0]) rfl rfl rfl) fun b1 => ?_
  refine ip 1 0 [(5, pt b1 0)] (by kernel_rfl) ?_
  refine ie ?_
  refine J_seq ?_
  refine sr 3 rfl ?_
  refine ip 3 0 [(10, .slice lq l.length lk), (11, iv (l.length : Int)), (12, iv 0)] (by kernel_rfl) ?_
  refine ie ?_
  refine J_block ?_
  refine JQ_perm (permC [vo cSp3 63 VR.nil ([] : List Sp3), [bx b1 [.slice none 0 0] 114]] [1, 0] 2 rfl (by decide) rfl [[bx b1 [.slice none 0 0] 114], vo cSp3 63 VR.nil ([] : List Sp3)] rfl (by first | rfl | simp)) ?_
  refine JL3 (fun (t12 : Nat) (t9list : List Sp3) (t9listr : VR) => t12 ≤ l.length ∧ damage_gathered_api_Span_l0 addc (l.drop t12) t12 t9list = R ∧ VOk 3 t9list.length t9listr ∧ t9list.length ≤ t12) (fun (t12 : Nat) (t9list : List Sp3) (t9listr : VR) => [(1, .func (.func 67) #[] #[pa addcp]), (5, pt b1 0), (10, .slice lq l.length lk), (11, iv (l.length : Int)), (12, iv (t12 : Int))]) (fun (t12 : Nat) (t9list : List Sp3) (t9listr : VR) => (bx b1 [.slice (va t9listr.q) t9list.length t9listr.k] 114 :: (vo cSp3 63 t9listr t9list) ++ ([]))) (fun (t12 : Nat) (t9list : List Sp3) (t9listr : VR) => [sl cSp3 lq l, at_ addcp [iv addc]]) (fun (t12 : Nat) (t9list : List Sp3) (t9listr : VR) => l.length - t12) 0 ([] : List Sp3) VR.nil ⟨(by omega), hR, VOk.nil, (by simp)⟩ ⟨rfl, rfl, rfl, rfl, (by first | rfl | (simp only [List.length_set, List.length_append, List.length_cons, List.length_nil]; rfl) | simp | (simp; omega)), trivial⟩ (mc [[bx b1 [.slice none 0 0] 114], vo cSp3 63 VR.nil ([] : List Sp3)] [true, true] rfl (by first | rfl | (simp only [List.length_set] <;> rfl))) Foll.refl ?_
  rintro t12 t9list t9listr ⟨hm2, hR, hokt9listr, hg2⟩
  have := VOk.le hokt9listr
  refine sr 1 rfl ?_
  refine ip 1 0 [(13, bv (decide ((t12 : Int) < (l.length : Int))))] (by kernel_rfl) ?_
  refine ie ?_
  refine J_seq ?_
  refine J_if rfl (fun h3 => ?_) (fun h3 => ?_)
  · have h3p : (t12 : Int) < (l.length : Int) := by simpa using h3
    rw [dropc Sp3.zero (show t12 < l.length by omega)] at hR; replace hR := (damage_gathered_api_Span_l0.eq_2 ..).symm.trans hR
    refine J_skip ?_
    refine nx ?_
    refine J_seq ?_
    refine J_block ?_
    refine sr 4 rfl ?_
    refine JI_base 0 rfl (by omega) fun a4 hq5 => ?_
    refine ix rfl (det_ixq slt56 rfl rfl hq5 rfl t12 rfl (by omega)) ?_
    refine ix rfl (det_ld_agg (us := cSp3 (l.getD t12 Sp3.zero)) ty63 rfl rfl (at_slq (c := cSp3) (sz := 3) hq5 (fun _ => rfl) 0 rfl (gd Sp3.zero (by omega))) rfl) ?_
    refine it rfl (tri_alloc (cs := cSp3 Sp3.zero) zero63 rfl) fun b6 => ?_
    refine it rfl (tri_store (us := cSp3 (l.getD t12 Sp3.zero)) (cs' := cSp3 (l.getD t12 Sp3.zero)) ty63 rfl rfl rfl 0 rfl rfl rfl rfl rfl rfl) fun _ => ?_
    refine ie ?_
    refine J_region 4 rfl ?_
    refine ip 2 2 [(16, .func (.func 67) #[] #[pa addcp]), (17, pt b1 0)] (by kernel_rfl) ?_
    refine ix rfl (det_own_agg (us := cSp3 (l.getD t12 Sp3.zero)) ty63 rfl rfl 0 rfl rfl rfl) ?_
    have hQ := bindVx hR; clear hR; obtain ⟨rdamageJoin1a, hrdamageJoin1a, hR⟩ := hQ
    refine it rfl (tri_callP (L2 := [bx b6 (cSp3 (l.getD t12 Sp3.zero)) 63]) (damage_Join_1a_c t9list (l.getD t12 Sp3.zero) addc b1 t9listr addcp hokt9listr (by first | omega | (simp only [List.length_nil]; omega)) rdamageJoin1a hrdamageJoin1a) rfl rfl rfl rfl rfl (Foll.pick [1] rfl) (permC [[bx b6 (cSp3 (l.getD t12 Sp3.zero)) 63], [bx b1 [.slice (va t9listr.q) t9list.length t9listr.k] 114], vo cSp3 63 t9listr t9list] [1, 2, 0] 3 rfl (by decide) rfl [[bx b1 [.slice (va t9listr.q) t9list.length t9listr.k] 114], vo cSp3 63 t9listr t9list, [bx b6 (cSp3 (l.getD t12 Sp3.zero)) 63]] rfl (by first | rfl | simp only [List.flatten_cons, List.flatten_nil, List.append_nil, List.cons_append, List.nil_append, List.append_assoc])) (fun ⟨r7, hk8⟩ => (bx b1 [.slice (va r7.q) rdamageJoin1a.length r7.k] 114 :: bx b6 (cSp3 (l.getD t12 Sp3.zero)) 63 :: (vo cSp3 63 r7 rdamageJoin1a) ++ ([]))) (fun ⟨r7, hk8⟩ => permC [[bx b1 [.slice (va r7.q) rdamageJoin1a.length r7.k] 114], vo cSp3 63 r7 rdamageJoin1a, [bx b6 (cSp3 (l.getD t12 Sp3.zero)) 63]] [0, 2, 1] 3 rfl (by decide) (by first | rfl | simp only [List.flatten_cons, List.flatten_nil, List.append_nil, List.cons_append, List.nil_append, List.append_assoc]) [[bx b1 [.slice (va r7.q) rdamageJoin1a.length r7.k] 114], [bx b6 (cSp3 (l.getD t12 Sp3.zero)) 63], vo cSp3 63 r7 rdamageJoin1a] rfl (by first | rfl | simp only [List.flatten_cons, List.flatten_nil, List.append_nil, List.cons_append, List.nil_append, List.append_assoc]))) fun ⟨r7, hk8⟩ => ?_
    have := VOk.le hk8
    have := VOk.cap hk8
    have := damage_Join_1a_len t9list (l.getD t12 Sp3.zero) addc; try rw [hrdamageJoin1a] at this
    refine JI_end ?_
    refine nx ?_
    refine J_region 2 rfl ?_
    refine ix rfl (det_add64 rfl rfl rfl rfl (by omega)) ?_
    refine ip 1 0 [(12, iv ((t12 : Int) + 1))] (by kernel_rfl) ?_
    refine JI_end ?_
    exact againL3 (z1 := t12) (z2 := t9list) (z3 := t9listr) (t12 + 1) rdamageJoin1a r7 ⟨(by omega), hR, hk8, (by omega)⟩ (by (try dsimp only); omega) ⟨rfl, rfl, rfl, rfl, (by first | rfl | (simp only [List.length_set, List.length_append, List.length_cons, List.length_nil]; rfl) | simp | (simp; omega)), trivial⟩ (mc [[bx b1 [.slice (va r7.q) rdamageJoin1a.length r7.k] 114], [bx b6 (cSp3 (l.getD t12 Sp3.zero)) 63], vo cSp3 63 r7 rdamageJoin1a] [true, false, true] rfl (by first | rfl | (simp only [List.length_set] <;> rfl))) Foll.refl
  · have h3p : ¬ ((t12 : Int) < (l.length : Int)) := by simpa using h3
    rw [dropn h3p] at hR; replace hR := (damage_gathered_api_Span_l0.eq_1 ..).symm.trans hR
    refine J_exit ?_
    refine nx ?_
    refine sr 6 rfl ?_
    refine ip 4 2 [(24, pt b1 0)] (by kernel_rfl) ?_
    refine ix rfl (det_own_one (v := .slice (va t9listr.q) t9list.length t9listr.k) ty56 rfl rfl 0 rfl rfl) ?_
    refine ip 1 0 [(4, .slice (va t9listr.q) t9list.length t9listr.k)] (by kernel_rfl) ?_
    refine ie ?_
    refine J_ret ?_
    subst hR
    exact ends_ret rfl ⟨hr, hD⟩ (by simp [hD]) (res1 rfl (resV_tmp rfl)) ⟨t9listr, hokt9listr⟩ (by rfl) (mc [[bx b1 [.slice (va t9listr.q) t9list.length t9listr.k] 114], vo cSp3 63 t9listr t9list] [false, true] rfl (by first | rfl | (simp only [List.length_set] <;> rfl))) Foll.nil

def damage_Join (l : List Sp3) (gap : Int) : List Sp3 :=
  (bif (decide (gap < 0)) then (bindV (slices_Clone_api_Span_api_Span l) fun (rslicesCloneapiSpanapiSpan : List Sp3) => rslicesCloneapiSpanapiSpan) else (bindV (damage_gathered_api_Span l gap) fun (rdamagegatheredapiSpan : List Sp3) => rdamagegatheredapiSpan))

set_option maxRecDepth 100000 in
theorem damage_Join_c (l : List Sp3) (gap : Int) (lq : Option Addr) (lk : Nat) (hll : l.length ≤ 9223372036854775807) (hcl : l.length ≤ lk) (hl : l.length ≤ 1000000) (R : List Sp3) (hR : damage_Join l gap = R) : Con Tryz.prog 33 [.slice lq l.length lk, iv gap] [] [sl cSp3 lq l] ({r : VR // VOk 3 R.length r}) (fun x => .slice (va x.1.q) R.length x.1.k) (fun x => ((vo cSp3 63 x.1 R) ++ ([]))) (fun x => []) := by
  refine con_of_J (n := 12) Tryz.func33 rfl (by kernel_rfl) rfl rfl [(0, .slice lq l.length lk), (1, iv gap)] ⟨rfl, rfl, trivial⟩ fun X hX hr hD => ?_
  replace hR := (damage_Join.eq_1 ..).symm.trans hR
  refine sr 2 rfl ?_
  refine it rfl (tri_box (cs := [iv gap]) rfl rfl rfl) fun b1 => ?_
  refine JI_fix 0 rfl ?_
  refine ip 1 0 [] (by kernel_rfl) ?_
  refine ie ?_
  refine J_seq ?_
  refine sr 2 rfl ?_
  refine ix rfl (det_ld_one (v := iv gap) (us := [iv gap]) ty3 rfl rfl (at_of 0 rfl) rfl) ?_
  refine ip 1 0 [(6, bv (decide (gap < 0)))] (by kernel_rfl) ?_
  refine ie ?_
  refine J_if rfl (fun h2 => ?_) (fun h2 => ?_)
  · have h2p : gap < 0 := by simpa using h2
    replace hR := bt hR h2
    refine sr 3 rfl ?_
    refine ip 1 2 [(7, .slice lq l.length lk)] (by kernel_rfl) ?_
    have hQ := bindVx hR; clear hR; obtain ⟨rslicesCloneapiSpanapiSpan, hrslicesCloneapiSpanapiSpan, hR⟩ := hQ
    refine it rfl (tri_callN (L2 := []) (slices_Clone_api_Span_api_Span_c l lq lk (by first | omega | (simp only [List.length_take, List.length_drop, List.length_append, List.length_cons, List.length_nil, List.length_set, List.length_map]; omega) | decide) (by first | omega | (simp only [List.length_take, List.length_drop, List.length_append, List.length_cons, List.length_nil, List.length_set, List.length_map]; omega) | decide) (by first | omega | (simp only [List.length_append, List.length_cons, List.length_nil, List.length_take, List.length_drop, List.length_set]; omega)) rslicesCloneapiSpanapiSpan hrslicesCloneapiSpanapiSpan) rfl rfl rfl rfl rfl (Foll.pick [1] rfl) (List.Perm.refl _) (fun ⟨r3, hk4⟩ => ((vo cSp3 63 r3 rslicesCloneapiSpanapiSpan) ++ ([]))) (fun _ => by first | rfl | simp only [List.append_nil, List.cons_append, List.nil_append, List.append_assoc])) fun ⟨r3, hk4⟩ => ?_
    have := VOk.le hk4
    have := VOk.cap hk4
    have hcl_rslicesCloneapiSpanapiSpan := slices_Clone_api_Span_api_Span_eq l; rw [hrslicesCloneapiSpanapiSpan] at hcl_rslicesCloneapiSpanapiSpan; have := congrArg List.length hcl_rslicesCloneapiSpanapiSpan; try simp only [List.length_take, List.length_drop] at this
    refine ip 1 0 [(4, .slice (va r3.q) rslicesCloneapiSpanapiSpan.length r3.k)] (by kernel_rfl) ?_
    refine ie ?_
    refine J_ret ?_
    subst hR
    exact ends_ret rfl ⟨hr, hD⟩ (by simp [hD]) (res1 rfl (resV_tmp rfl)) ⟨r3, hk4⟩ (by rfl) (mc [vo cSp3 63 r3 rslicesCloneapiSpanapiSpan] [true] rfl (by first | rfl | (simp only [List.length_set] <;> rfl))) Foll.nil
  · have h2p : ¬ (gap < 0) := by simpa using h2
    replace hR := bf hR h2
    refine J_skip ?_
    refine nx ?_
    refine sr 4 rfl ?_
    refine ip 2 2 [(9, .slice lq l.length lk), (10, .func (.func 67) #[] #[pa ⟨b1, 0, none⟩])] (by kernel_rfl) ?_
    have hQ := bindVx hR; clear hR; obtain ⟨rdamagegatheredapiSpan, hrdamagegatheredapiSpan, hR⟩ := hQ
    refine it rfl (tri_callN (L2 := []) (damage_gathered_api_Span_c l gap lq lk ⟨b1, 0, none⟩ (by first | omega | (simp only [List.length_take, List.length_drop, List.length_append, List.length_cons, List.length_nil, List.length_set, List.length_map]; omega) | decide) (by first | omega | (simp only [List.length_take, List.length_drop, List.length_append, List.length_cons, List.length_nil, List.length_set, List.length_map]; omega) | decide) (by first | omega | (simp only [List.length_append, List.length_cons, List.length_nil, List.length_take, List.length_drop, List.length_set]; omega)) rdamagegatheredapiSpan hrdamagegatheredapiSpan) rfl rfl rfl rfl rfl (Foll.pick [1, 0] rfl) (List.Perm.refl _) (fun ⟨r5, hk6⟩ => ((vo cSp3 63 r5 rdamagegatheredapiSpan) ++ ([]))) (fun _ => by first | rfl | simp only [List.append_nil, List.cons_append, List.nil_append, List.append_assoc])) fun ⟨r5, hk6⟩ => ?_
    have := VOk.le hk6
    have := VOk.cap hk6
    refine ip 1 0 [(4, .slice (va r5.q) rdamagegatheredapiSpan.length r5.k)] (by kernel_rfl) ?_
    refine ie ?_
    refine J_ret ?_
    subst hR
    exact ends_ret rfl ⟨hr, hD⟩ (by simp [hD]) (res1 rfl (resV_tmp rfl)) ⟨r5, hk6⟩ (by rfl) (mc [vo cSp3 63 r5 rdamagegatheredapiSpan] [true] rfl (by first | rfl | (simp only [List.length_set] <;> rfl))) Foll.nil

def law24_of_l0 (s : List UInt8) : List UInt8 → List Cel → Nat → (Int × List (List Cel) × Int × Int × Bool × Int × List UInt8)
  | [], l, t7 => ((s.length : Int), ([l] : List (List Cel)), 0, 0, false, 0, ([] : List UInt8))
  | hd_l0 :: tl_l0, l, t7 => law24_of_l0 s tl_l0 (l ++ ([{ Cel.zero with base := (hd_l0.toNat : Int) }] : List Cel)) (t7 + 1)
def law24_of (s : List UInt8) : Int × List (List Cel) × Int × Int × Bool × Int × List UInt8 :=
  law24_of_l0 s s ([] : List Cel) 0

theorem law24_of_l0_eq (s : List UInt8) : ∀ (cs : List UInt8) (l : List Cel) (t : Nat), law24_of_l0 s cs l t = ((s.length : Int), [l ++ cs.map fun c => { Cel.zero with base := (c.toNat : Int) }], 0, 0, false, 0, [])
  | [], l, t => by simp [law24_of_l0]
  | c :: cs, l, t => by simp [law24_of_l0, law24_of_l0_eq s cs]
theorem law24_of_eq (s : List UInt8) : law24_of s = ((s.length : Int), [s.map fun c => { Cel.zero with base := (c.toNat : Int) }], 0, 0, false, 0, []) := by unfold law24_of; rw [law24_of_l0_eq]; simp
theorem law24_of_title (s : List UInt8) : (law24_of s).2.2.2.2.2.2.length = 0 := by rw [law24_of_eq]; rfl

set_option maxRecDepth 100000 in
theorem law24_of_c (s : List UInt8) (hs : s.length ≤ 1000) (R : Int × List (List Cel) × Int × Int × Bool × Int × List UInt8) (hR : law24_of s = R) : Con Tryz.prog 59 [sv s] [] [] ({t : Option Addr × List Slc × Nat // RowsOk t.2.1 R.2.1 ∧ R.2.1.length ≤ t.2.2 ∧ R.2.1.length ≤ 9223372036854775807}) (fun x => ag [iv R.1, .slice x.1.1 R.2.1.length x.1.2.2, iv R.2.2.1, iv R.2.2.2.1, bv R.2.2.2.2.1, iv R.2.2.2.2.2.1, sv R.2.2.2.2.2.2]) (fun x => []) (fun x => [sl cSlc x.1.1 x.1.2.1, rowsF cCel x.1.2.1 R.2.1]) := by
  refine con_of_J (n := 24) Tryz.func59 rfl (by kernel_rfl) rfl rfl [(0, sv s)] ⟨rfl, trivial⟩ fun X hX hr hD => ?_
  replace hR := (law24_of.eq_1 ..).symm.trans hR
  refine sr 1 rfl ?_
  refine it rfl (tri_alloc (cs := [iv 0, .slice none 0 0, iv 0, iv 0, bv false, iv 0, sv ([] : List UInt8)]) zero55 rfl) fun b1 => ?_
  refine ie ?_
  refine sr 1 rfl ?_
  refine ip 1 0 [(3, .slice none 0 0)] (by kernel_rfl) ?_
  refine ie ?_
  refine J_seq ?_
  refine sr 3 rfl ?_
  refine ip 3 0 [(6, iv (s.length : Int)), (7, iv 0)] (by kernel_rfl) ?_
  refine ie ?_
  refine J_block ?_
  refine JQ_perm (permC [vo cCel 79 VR.nil ([] : List Cel), [bx b1 [iv 0, .slice none 0 0, iv 0, iv 0, bv false, iv 0, sv ([] : List UInt8)] 55]] [1, 0] 2 rfl (by decide) rfl [[bx b1 [iv 0, .slice none 0 0, iv 0, iv 0, bv false, iv 0, sv ([] : List UInt8)] 55], vo cCel 79 VR.nil ([] : List Cel)] rfl (by first | rfl | simp)) ?_
  refine JL3 (fun (l : List Cel) (lr : VR) (t7 : Nat) => t7 ≤ s.length ∧ law24_of_l0 s (s.drop t7) l t7 = R ∧ VOk 12 l.length lr ∧ l.length = t7) (fun (l : List Cel) (lr : VR) (t7 : Nat) => [(0, sv s), (2, pt b1 0), (3, .slice (va lr.q) l.length lr.k), (6, iv (s.length : Int)), (7, iv (t7 : Int))]) (fun (l : List Cel) (lr : VR) (t7 : Nat) => (bx b1 [iv 0, .slice none 0 0, iv 0, iv 0, bv false, iv 0, sv ([] : List UInt8)] 55 :: (vo cCel 79 lr l) ++ ([]))) (fun (l : List Cel) (lr : VR) (t7 : Nat) => []) (fun (l : List Cel) (lr : VR) (t7 : Nat) => s.length - t7) ([] : List Cel) VR.nil 0 ⟨(by omega), hR, VOk.nil, (by rfl)⟩ ⟨rfl, rfl, (by first | rfl | (simp only [List.length_set, List.length_append, List.length_cons, List.length_nil]; rfl) | simp | (simp; omega)), rfl, (by first | rfl | (simp only [List.length_set, List.length_append, List.length_cons, List.length_nil]; rfl) | simp | (simp; omega)), trivial⟩ (mc [[bx b1 [iv 0, .slice none 0 0, iv 0, iv 0, bv false, iv 0, sv ([] : List UInt8)] 55], vo cCel 79 VR.nil ([] : List Cel)] [true, true] rfl (by first | rfl | (simp only [List.length_set] <;> rfl))) Foll.nil ?_
  rintro l lr t7 ⟨hm2, hR, hoklr, hg2⟩
  have := VOk.le hoklr
  refine sr 1 rfl ?_
  refine ip 1 0 [(8, bv (decide ((t7 : Int) < (s.length : Int))))] (by kernel_rfl) ?_
  refine ie ?_
  refine J_seq ?_
  refine J_if rfl (fun h3 => ?_) (fun h3 => ?_)
  · have h3p : (t7 : Int) < (s.length : Int) := by simpa using h3
    rw [dropc 0 (show t7 < s.length by omega)] at hR; replace hR := (law24_of_l0.eq_2 ..).symm.trans hR
    refine J_skip ?_
    refine nx ?_
    refine J_seq ?_
    refine J_block ?_
    refine sr 2 rfl ?_
    refine ip 2 0 [(4, iv (t7 : Int))] (by kernel_rfl) ?_
    refine ie ?_
    refine J_region 9 rfl ?_
    refine ip 3 6 [(10, .slice (va lr.q) l.length lr.k), (11, sv s), (12, iv (t7 : Int))] (by kernel_rfl) ?_
    refine ix rfl (det_stix (T := 9) Tryz.underlying9 rfl rfl rfl t7 rfl (by omega)) ?_
    refine ix rfl (det_toInt (c := ((s.getD t7 0).toNat : Int)) Tryz.underlying3 (by kernel_rfl) rfl rfl (wrap_u8_i64 (s.getD t7 0))) ?_
    refine ix rfl (det_build (cs := cCel ({ Cel.zero with base := ((s.getD t7 0).toNat : Int) })) rfl rfl (by kernel_rfl)) ?_
    refine it rfl (tri_buildSl (c := cCel) (xs := ([{ Cel.zero with base := ((s.getD t7 0).toNat : Int) }] : List Cel)) slt74 rfl rfl rfl (by kernel_rfl)) fun b4 => ?_
    have : ([{ Cel.zero with base := ((s.getD t7 0).toNat : Int) }] : List Cel).length = 1 := rfl
    refine it rfl (tri_app1 (f := cCel) (r := lr) (xs := l) (ys := ([{ Cel.zero with base := ((s.getD t7 0).toNat : Int) }] : List Cel)) (pre := [bx b1 [iv 0, .slice none 0 0, iv 0, iv 0, bv false, iv 0, sv ([] : List UInt8)] 55]) (post := []) apt74 (fun _ => rfl) (fun _ => rfl) rfl rfl rfl rfl rfl rfl rfl rfl rfl (at_of 0 rfl) hoklr (by first | omega | (simp only [List.length_cons, List.length_nil, List.length_append, List.length_take, List.length_drop]; omega)) (by first | omega | (simp only [List.length_cons, List.length_nil, List.length_append, List.length_take, List.length_drop]; omega))) fun ⟨r5, hr6⟩ => ?_
    have := VOk.le hr6
    have := VOk.cap hr6
    refine ip 1 0 [(3, .slice (va r5.q) ((l ++ ([{ Cel.zero with base := ((s.getD t7 0).toNat : Int) }] : List Cel)).length) r5.k)] (by kernel_rfl) ?_
    refine JI_end ?_
    refine nx ?_
    refine J_region 2 rfl ?_
    refine ix rfl (det_add64 rfl rfl rfl rfl (by omega)) ?_
    refine ip 1 0 [(7, iv ((t7 : Int) + 1))] (by kernel_rfl) ?_
    refine JI_end ?_
    exact againL3 (z1 := l) (z2 := lr) (z3 := t7) (l ++ ([{ Cel.zero with base := ((s.getD t7 0).toNat : Int) }] : List Cel)) r5 (t7 + 1) ⟨(by omega), hR, hr6, (by simp only [List.length_append, List.length_cons, List.length_nil]; omega)⟩ (by (try dsimp only); omega) ⟨rfl, rfl, (by first | rfl | (simp only [List.length_set, List.length_append, List.length_cons, List.length_nil]; rfl) | simp | (simp; omega)), rfl, (by first | rfl | (simp only [List.length_set, List.length_append, List.length_cons, List.length_nil]; rfl) | simp | (simp; omega)), trivial⟩ (mc [[bx b1 [iv 0, .slice none 0 0, iv 0, iv 0, bv false, iv 0, sv ([] : List UInt8)] 55], vo cCel 79 r5 (l ++ ([{ Cel.zero with base := ((s.getD t7 0).toNat : Int) }] : List Cel))] [true, true] rfl (by first | rfl | (simp only [List.length_set] <;> rfl))) Foll.nil
  · have h3p : ¬ ((t7 : Int) < (s.length : Int)) := by simpa using h3
    rw [dropn h3p] at hR; replace hR := (law24_of_l0.eq_1 ..).symm.trans hR
    refine J_exit ?_
    refine nx ?_
    refine sr 6 rfl ?_
    refine ip 3 3 [(20, iv (s.length : Int)), (21, .slice (va lr.q) l.length lr.k)] (by kernel_rfl) ?_
    refine JI_seal [bx b1 [iv 0, .slice none 0 0, iv 0, iv 0, bv false, iv 0, sv ([] : List UInt8)] 55] [] (T := 79) (c := cCel) (r := lr) (xs := l) hoklr (by first | rfl | simp only [List.cons_append, List.append_assoc, List.nil_append, List.append_nil]) ?_
    have := VOk.cap hoklr
    refine it rfl (tri_buildSl (c := cSlc) (xs := ([⟨va lr.q, l.length, lr.k⟩] : List Slc)) slt51 rfl rfl rfl (by kernel_rfl)) fun b7 => ?_
    have hrows8 : RowsOk ([⟨va lr.q, l.length, lr.k⟩] : List Slc) ([l] : List (List Cel)) := (RowsOk.cons ⟨rfl, (by first | omega | (simp only [List.length_take, List.length_drop, List.length_append, List.length_cons, List.length_nil, List.length_set, List.length_map]; omega) | decide), (by first | omega | (simp only [List.length_take, List.length_drop, List.length_append, List.length_cons, List.length_nil, List.length_set, List.length_map]; omega) | decide)⟩ RowsOk.none)
    refine JI_fact1 (q := rowsF cCel ([⟨va lr.q, l.length, lr.k⟩] : List Slc) ([l] : List (List Cel))) (rows_cons (at_of 1 rfl) rows_none) ?_
    have : ([⟨va lr.q, l.length, lr.k⟩] : List Slc).length = 1 := rfl
    refine ix rfl (det_build (cs := [iv (s.length : Int), .slice (some ⟨b7, 0, none⟩) (([l] : List (List Cel)).length) 1, iv 0, iv 0, bv false, iv 0, sv ([] : List UInt8)]) rfl rfl (by kernel_rfl)) ?_
    refine it rfl (tri_store (us := [iv (s.length : Int), .slice (some ⟨b7, 0, none⟩) (([l] : List (List Cel)).length) 1, iv 0, iv 0, bv false, iv 0, sv ([] : List UInt8)]) (cs' := [iv (s.length : Int), .slice (some ⟨b7, 0, none⟩) (([l] : List (List Cel)).length) 1, iv 0, iv 0, bv false, iv 0, sv ([] : List UInt8)]) ty55 rfl rfl rfl 0 rfl rfl rfl rfl rfl rfl) fun _ => ?_
    refine ie ?_
    refine J_ret ?_
    subst hR
    exact ends_ret rfl ⟨hr, hD⟩ (by simp [hD]) (res1 rfl (resV_cell (us := [iv (s.length : Int), .slice (some ⟨b7, 0, none⟩) (([l] : List (List Cel)).length) 1, iv 0, iv 0, bv false, iv 0, sv ([] : List UInt8)]) ty55 rfl 0 rfl rfl rfl)) ⟨(some ⟨b7, 0, none⟩, ([⟨va lr.q, l.length, lr.k⟩] : List Slc), 1), ⟨hrows8, (by first | omega | (simp only [List.length_take, List.length_drop, List.length_append, List.length_cons, List.length_nil, List.length_set, List.length_map]; omega) | decide), (by first | omega | (simp only [List.length_take, List.length_drop, List.length_append, List.length_cons, List.length_nil, List.length_set, List.length_map]; omega) | decide)⟩⟩ (by rfl) (mk [false] rfl) (Foll.con1 (at_of 1 rfl) (Foll.con1 (at_of 0 rfl) Foll.nil))

def slices_Equal_api_Span_api_Span_l0 (s2 : List Sp3) : List Sp3 → Nat → Bool
  | [], t13 => true
  | hd_l0 :: tl_l0, t13 => (bif (!(decide (hd_l0 = (s2.getD t13 Sp3.zero)))) then false else slices_Equal_api_Span_api_Span_l0 s2 tl_l0 (t13 + 1))
def slices_Equal_api_Span_api_Span (s1 : List Sp3) (s2 : List Sp3) : Bool :=
  (bif (!decide ((s1.length : Int) = (s2.length : Int))) then false else slices_Equal_api_Span_api_Span_l0 s2 s1 0)

set_option maxRecDepth 100000 in
theorem slices_Equal_api_Span_api_Span_c (s1 : List Sp3) (s2 : List Sp3) (s1q : Option Addr) (s1k : Nat) (s2q : Option Addr) (s2k : Nat) (hls1 : s1.length ≤ 9223372036854775807) (hcs1 : s1.length ≤ s1k) (hls2 : s2.length ≤ 9223372036854775807) (hcs2 : s2.length ≤ s2k) (R : Bool) (hR : slices_Equal_api_Span_api_Span s1 s2 = R) : ConV Tryz.prog 30 [.slice s1q s1.length s1k, .slice s2q s2.length s2k] [sl cSp3 s1q s1, sl cSp3 s2q s2] (bv R) := by
  refine con_of_J (n := 26) Tryz.func30 rfl (by kernel_rfl) rfl rfl [(0, .slice s1q s1.length s1k), (1, .slice s2q s2.length s2k)] ⟨rfl, rfl, trivial⟩ fun X hX hr hD => ?_
  replace hR := (slices_Equal_api_Span_api_Span.eq_1 ..).symm.trans hR
  refine sr 1 rfl ?_
  refine ip 1 0 [] (by kernel_rfl) ?_
  refine ie ?_
  refine J_seq ?_
  refine sr 5 rfl ?_
  refine ip 5 0 [(10, bv (!decide ((s1.length : Int) = (s2.length : Int))))] (by kernel_rfl) ?_
  refine ie ?_
  refine J_if rfl (fun h1 => ?_) (fun h1 => ?_)
  · have h1p : ¬ (s1.length : Int) = (s2.length : Int) := by simpa using h1
    replace hR := bt hR h1
    refine sr 1 rfl ?_
    refine ip 1 0 [(4, bv false)] (by kernel_rfl) ?_
    refine ie ?_
    refine J_ret ?_
    subst hR
    exact ends_ret rfl ⟨hr, hD⟩ (by simp [hD]) (res1 rfl (resV_tmp rfl)) () (by rfl) (mk [] rfl) Foll.nil
  · have h1p : ¬ (¬ (s1.length : Int) = (s2.length : Int)) := by simpa using h1
    replace hR := bf hR h1
    refine J_skip ?_
    refine nx ?_
    refine J_seq ?_
    refine sr 3 rfl ?_
    refine ip 3 0 [(12, iv (s1.length : Int)), (13, iv 0)] (by kernel_rfl) ?_
    refine ie ?_
    refine J_block ?_
    refine JL1 (fun (t13 : Nat) => t13 ≤ s1.length ∧ slices_Equal_api_Span_api_Span_l0 s2 (s1.drop t13) t13 = R) (fun (t13 : Nat) => [(0, .slice s1q s1.length s1k), (1, .slice s2q s2.length s2k), (12, iv (s1.length : Int)), (13, iv (t13 : Int))]) (fun (t13 : Nat) => []) (fun (t13 : Nat) => [sl cSp3 s1q s1, sl cSp3 s2q s2]) (fun (t13 : Nat) => s1.length - t13) 0 ⟨(by omega), hR⟩ ⟨rfl, rfl, rfl, (by first | rfl | (simp only [List.length_set, List.length_append, List.length_cons, List.length_nil]; rfl) | simp | (simp; omega)), trivial⟩ (mk [] rfl) Foll.refl ?_
    rintro t13 ⟨hm2, hR⟩
    refine sr 1 rfl ?_
    refine ip 1 0 [(14, bv (decide ((t13 : Int) < (s1.length : Int))))] (by kernel_rfl) ?_
    refine ie ?_
    refine J_seq ?_
    refine J_if rfl (fun h3 => ?_) (fun h3 => ?_)
    · have h3p : (t13 : Int) < (s1.length : Int) := by simpa using h3
      rw [dropc Sp3.zero (show t13 < s1.length by omega)] at hR; replace hR := (slices_Equal_api_Span_api_Span_l0.eq_2 ..).symm.trans hR
      refine J_skip ?_
      refine nx ?_
      refine J_seq ?_
      refine J_block ?_
      refine sr 2 rfl ?_
      refine ip 2 0 [(5, iv (t13 : Int))] (by kernel_rfl) ?_
      refine ie ?_
      refine sd 9 rfl (by kernel_rfl) rfl ?_
      refine dp 2 7 [(16, .slice s1q s1.length s1k), (17, iv (t13 : Int))] (by kernel_rfl) ?_
      refine JD_base 0 rfl (by omega) fun a4 hq5 => ?_
      refine dd rfl (det_ixq slt56 rfl rfl hq5 rfl t13 rfl (by omega)) ?_
      refine dd rfl (det_ld_agg (us := cSp3 (s1.getD t13 Sp3.zero)) ty63 rfl rfl (at_slq (c := cSp3) (sz := 3) hq5 (fun _ => rfl) 0 rfl (gd Sp3.zero (by omega))) rfl) ?_
      refine dp 2 3 [(20, .slice s2q s2.length s2k), (21, iv (t13 : Int))] (by kernel_rfl) ?_
      refine JD_base 1 rfl (by omega) fun a6 hq7 => ?_
      refine dd rfl (det_ixq slt56 rfl rfl hq7 rfl t13 rfl (by omega)) ?_
      refine dd rfl (det_ld_agg (us := cSp3 (s2.getD t13 Sp3.zero)) ty63 rfl rfl (at_slq (c := cSp3) (sz := 3) hq7 (fun _ => rfl) 1 rfl (gd Sp3.zero (by omega))) rfl) ?_
      refine dd rfl (det_nes (a := (s1.getD t13 Sp3.zero)) (b := (s2.getD t13 Sp3.zero)) eqt63 rfl rfl rfl) ?_
      refine de ?_
      refine J_if rfl (fun h8 => ?_) (fun h8 => ?_)
      · have h8p : ¬ (s1.getD t13 Sp3.zero) = (s2.getD t13 Sp3.zero) := by simpa using h8
        replace hR := bt hR h8
        refine sr 1 rfl ?_
        refine ip 1 0 [(4, bv false)] (by kernel_rfl) ?_
        refine ie ?_
        refine J_ret ?_
        subst hR
        exact ends_ret rfl ⟨hr, hD⟩ (by simp [hD]) (res1 rfl (resV_tmp rfl)) () (by rfl) (mk [] rfl) Foll.nil
      · have h8p : ¬ (¬ (s1.getD t13 Sp3.zero) = (s2.getD t13 Sp3.zero)) := by simpa using h8
        replace hR := bf hR h8
        refine J_skip ?_
        refine nx ?_
        refine J_region 2 rfl ?_
        refine ix rfl (det_add64 rfl rfl rfl rfl (by omega)) ?_
        refine ip 1 0 [(13, iv ((t13 : Int) + 1))] (by kernel_rfl) ?_
        refine JI_end ?_
        exact againL1 (z1 := t13) (t13 + 1) ⟨(by omega), hR⟩ (by (try dsimp only); omega) ⟨rfl, rfl, rfl, (by first | rfl | (simp only [List.length_set, List.length_append, List.length_cons, List.length_nil]; rfl) | simp | (simp; omega)), trivial⟩ (mk [] rfl) Foll.refl
    · have h3p : ¬ ((t13 : Int) < (s1.length : Int)) := by simpa using h3
      rw [dropn h3p] at hR; replace hR := (slices_Equal_api_Span_api_Span_l0.eq_1 ..).symm.trans hR
      refine J_exit ?_
      refine nx ?_
      refine sr 1 rfl ?_
      refine ip 1 0 [(4, bv true)] (by kernel_rfl) ?_
      refine ie ?_
      refine J_ret ?_
      subst hR
      exact ends_ret rfl ⟨hr, hD⟩ (by simp [hD]) (res1 rfl (resV_tmp rfl)) () (by rfl) (mk [] rfl) Foll.nil

def ref23_SameCells_l0 (b : List Cel) : List Cel → Nat → Bool
  | [], i => true
  | hd_l0 :: tl_l0, i => (bif (!(decide (hd_l0 = (b.getD i Cel.zero)))) then false else ref23_SameCells_l0 b tl_l0 (i + 1))
def ref23_SameCells (a : List Cel) (b : List Cel) : Bool :=
  (bif (!decide ((a.length : Int) = (b.length : Int))) then false else ref23_SameCells_l0 b a 0)

set_option maxRecDepth 100000 in
theorem ref23_SameCells_c (a : List Cel) (b : List Cel) (aq : Option Addr) (ak : Nat) (bq : Option Addr) (bk : Nat) (hla : a.length ≤ 9223372036854775807) (hca : a.length ≤ ak) (hlb : b.length ≤ 9223372036854775807) (hcb : b.length ≤ bk) (R : Bool) (hR : ref23_SameCells a b = R) : ConV Tryz.prog 73 [.slice aq a.length ak, .slice bq b.length bk] [sl cCel aq a, sl cCel bq b] (bv R) := by
  refine con_of_J (n := 26) Tryz.func73 rfl (by kernel_rfl) rfl rfl [(0, .slice aq a.length ak), (1, .slice bq b.length bk)] ⟨rfl, rfl, trivial⟩ fun X hX hr hD => ?_
  replace hR := (ref23_SameCells.eq_1 ..).symm.trans hR
  refine sr 1 rfl ?_
  refine ip 1 0 [] (by kernel_rfl) ?_
  refine ie ?_
  refine J_seq ?_
  refine sr 5 rfl ?_
  refine ip 5 0 [(10, bv (!decide ((a.length : Int) = (b.length : Int))))] (by kernel_rfl) ?_
  refine ie ?_
  refine J_if rfl (fun h1 => ?_) (fun h1 => ?_)
  · have h1p : ¬ (a.length : Int) = (b.length : Int) := by simpa using h1
    replace hR := bt hR h1
    refine sr 1 rfl ?_
    refine ip 1 0 [(4, bv false)] (by kernel_rfl) ?_
    refine ie ?_
    refine J_ret ?_
    subst hR
    exact ends_ret rfl ⟨hr, hD⟩ (by simp [hD]) (res1 rfl (resV_tmp rfl)) () (by rfl) (mk [] rfl) Foll.nil
  · have h1p : ¬ (¬ (a.length : Int) = (b.length : Int)) := by simpa using h1
    replace hR := bf hR h1
    refine J_skip ?_
    refine nx ?_
    refine J_seq ?_
    refine sr 1 rfl ?_
    refine ip 1 0 [(5, iv 0)] (by kernel_rfl) ?_
    refine ie ?_
    refine J_block ?_
    refine JL1 (fun (i : Nat) => i ≤ a.length ∧ ref23_SameCells_l0 b (a.drop i) i = R) (fun (i : Nat) => [(0, .slice aq a.length ak), (1, .slice bq b.length bk), (5, iv (i : Int))]) (fun (i : Nat) => []) (fun (i : Nat) => [sl cCel aq a, sl cCel bq b]) (fun (i : Nat) => a.length - i) 0 ⟨(by omega), hR⟩ ⟨rfl, rfl, (by first | rfl | (simp only [List.length_set, List.length_append, List.length_cons, List.length_nil]; rfl) | simp | (simp; omega)), trivial⟩ (mk [] rfl) Foll.refl ?_
    rintro i ⟨hm2, hR⟩
    refine J_seq ?_
    refine sr 4 rfl ?_
    refine ip 4 0 [(14, bv (decide ((i : Int) < (a.length : Int))))] (by kernel_rfl) ?_
    refine ie ?_
    refine J_if rfl (fun h3 => ?_) (fun h3 => ?_)
    · have h3p : (i : Int) < (a.length : Int) := by simpa using h3
      rw [dropc Cel.zero (show i < a.length by omega)] at hR; replace hR := (ref23_SameCells_l0.eq_2 ..).symm.trans hR
      refine J_skip ?_
      refine nx ?_
      refine J_seq ?_
      refine J_block ?_
      refine sd 9 rfl (by kernel_rfl) rfl ?_
      refine dp 2 7 [(17, .slice aq a.length ak), (18, iv (i : Int))] (by kernel_rfl) ?_
      refine JD_base 0 rfl (by omega) fun a4 hq5 => ?_
      refine dd rfl (det_ixq slt74 rfl rfl hq5 rfl i rfl (by omega)) ?_
      refine dd rfl (det_ld_agg (us := cCel (a.getD i Cel.zero)) ty79 rfl rfl (at_slq (c := cCel) (sz := 12) hq5 (fun _ => rfl) 0 rfl (gd Cel.zero (by omega))) rfl) ?_
      refine dp 2 3 [(21, .slice bq b.length bk), (22, iv (i : Int))] (by kernel_rfl) ?_
      refine JD_base 1 rfl (by omega) fun a6 hq7 => ?_
      refine dd rfl (det_ixq slt74 rfl rfl hq7 rfl i rfl (by omega)) ?_
      refine dd rfl (det_ld_agg (us := cCel (b.getD i Cel.zero)) ty79 rfl rfl (at_slq (c := cCel) (sz := 12) hq7 (fun _ => rfl) 1 rfl (gd Cel.zero (by omega))) rfl) ?_
      refine dd rfl (det_nes (a := (a.getD i Cel.zero)) (b := (b.getD i Cel.zero)) eqt79 rfl rfl rfl) ?_
      refine de ?_
      refine J_if rfl (fun h8 => ?_) (fun h8 => ?_)
      · have h8p : ¬ (a.getD i Cel.zero) = (b.getD i Cel.zero) := by simpa using h8
        replace hR := bt hR h8
        refine sr 1 rfl ?_
        refine ip 1 0 [(4, bv false)] (by kernel_rfl) ?_
        refine ie ?_
        refine J_ret ?_
        subst hR
        exact ends_ret rfl ⟨hr, hD⟩ (by simp [hD]) (res1 rfl (resV_tmp rfl)) () (by rfl) (mk [] rfl) Foll.nil
      · have h8p : ¬ (¬ (a.getD i Cel.zero) = (b.getD i Cel.zero)) := by simpa using h8
        replace hR := bf hR h8
        refine J_skip ?_
        refine nx ?_
        refine J_region 3 rfl ?_
        refine ip 1 2 [(15, iv (i : Int))] (by kernel_rfl) ?_
        refine ix rfl (det_add64 rfl rfl rfl rfl (by omega)) ?_
        refine ip 1 0 [(5, iv ((i : Int) + 1))] (by kernel_rfl) ?_
        refine JI_end ?_
        exact againL1 (z1 := i) (i + 1) ⟨(by omega), hR⟩ (by (try dsimp only); omega) ⟨rfl, rfl, (by first | rfl | (simp only [List.length_set, List.length_append, List.length_cons, List.length_nil]; rfl) | simp | (simp; omega)), trivial⟩ (mk [] rfl) Foll.refl
    · have h3p : ¬ ((i : Int) < (a.length : Int)) := by simpa using h3
      rw [dropn h3p] at hR; replace hR := (ref23_SameCells_l0.eq_1 ..).symm.trans hR
      refine J_exit ?_
      refine nx ?_
      refine sr 1 rfl ?_
      refine ip 1 0 [(4, bv true)] (by kernel_rfl) ?_
      refine ie ?_
      refine J_ret ?_
      subst hR
      exact ends_ret rfl ⟨hr, hD⟩ (by simp [hD]) (res1 rfl (resV_tmp rfl)) () (by rfl) (mk [] rfl) Foll.nil

def ref23_Same_l0 (bRows : List (List Cel)) : List (List Cel) → Nat → Bool
  | [], i => true
  | hd_l0 :: tl_l0, i => (bif (!(ref23_SameCells hd_l0 (bRows.getD i []))) then false else ref23_Same_l0 bRows tl_l0 (i + 1))
def ref23_Same (aCols : Int) (aRows : List (List Cel)) (aCursor : Plc) (aVisible : Bool) (aShape : Int) (aTitle : List UInt8) (bCols : Int) (bRows : List (List Cel)) (bCursor : Plc) (bVisible : Bool) (bShape : Int) (bTitle : List UInt8) : Bool :=
  (bif ((((((!decide (aCols = bCols)) || (!decide ((aRows.length : Int) = (bRows.length : Int)))) || (!(decide (aCursor = bCursor)))) || (!(aVisible == bVisible))) || (!decide (aShape = bShape))) || (!(decide (aTitle = bTitle)))) then false else ref23_Same_l0 bRows aRows 0)

set_option maxRecDepth 100000 in
theorem ref23_Same_c (aCols : Int) (aRows : List (List Cel)) (aCursor : Plc) (aVisible : Bool) (aShape : Int) (aTitle : List UInt8) (bCols : Int) (bRows : List (List Cel)) (bCursor : Plc) (bVisible : Bool) (bShape : Int) (bTitle : List UInt8) (aRowsq : Option Addr) (aRowsrs : List Slc) (aRowsk : Nat) (bRowsq : Option Addr) (bRowsrs : List Slc) (bRowsk : Nat) (hrowsaRowsrs : RowsOk aRowsrs aRows) (hlaRows : aRows.length ≤ 9223372036854775807) (hcaRows : aRows.length ≤ aRowsk) (hrowsbRowsrs : RowsOk bRowsrs bRows) (hlbRows : bRows.length ≤ 9223372036854775807) (hcbRows : bRows.length ≤ bRowsk) (R : Bool) (hR : ref23_Same aCols aRows aCursor aVisible aShape aTitle bCols bRows bCursor bVisible bShape bTitle = R) : ConV Tryz.prog 39 [ag [iv aCols, .slice aRowsq aRows.length aRowsk, iv aCursor.row, iv aCursor.col, bv aVisible, iv aShape, sv aTitle], ag [iv bCols, .slice bRowsq bRows.length bRowsk, iv bCursor.row, iv bCursor.col, bv bVisible, iv bShape, sv bTitle]] [sl cSlc aRowsq aRowsrs, rowsF cCel aRowsrs aRows, sl cSlc bRowsq bRowsrs, rowsF cCel bRowsrs bRows] (bv R) := by
  refine con_of_J (n := 67) Tryz.func39 rfl (by kernel_rfl) rfl rfl [(0, ag [iv aCols, .slice aRowsq aRows.length aRowsk, iv aCursor.row, iv aCursor.col, bv aVisible, iv aShape, sv aTitle]), (1, ag [iv bCols, .slice bRowsq bRows.length bRowsk, iv bCursor.row, iv bCursor.col, bv bVisible, iv bShape, sv bTitle])] ⟨rfl, rfl, trivial⟩ fun X hX hr hD => ?_
  replace hR := (ref23_Same.eq_1 ..).symm.trans hR
  have := hrowsaRowsrs.1
  have := hrowsbRowsrs.1
  refine sr 3 rfl ?_
  refine it rfl (tri_box (cs := [iv aCols, .slice aRowsq aRows.length aRowsk, iv aCursor.row, iv aCursor.col, bv aVisible, iv aShape, sv aTitle]) rfl rfl rfl) fun b1 => ?_
  refine it rfl (tri_box (cs := [iv bCols, .slice bRowsq bRows.length bRowsk, iv bCursor.row, iv bCursor.col, bv bVisible, iv bShape, sv bTitle]) rfl rfl rfl) fun b2 => ?_
  refine ip 1 0 [] (by kernel_rfl) ?_
  refine ie ?_
  refine J_seq ?_
  refine sr 42 rfl ?_
  refine ip 1 41 [(6, pt b1 0)] (by kernel_rfl) ?_
  refine ix rfl (det_own_one (v := iv aCols) ty3 rfl rfl 1 rfl rfl) ?_
  refine ip 1 39 [(8, pt b2 0)] (by kernel_rfl) ?_
  refine ix rfl (det_own_one (v := iv bCols) ty3 rfl rfl 0 rfl rfl) ?_
  refine ip 2 36 [(11, bv (!decide (aCols = bCols)))] (by kernel_rfl) ?_
  refine ior 8 28 11 19 (!decide ((aRows.length : Int) = (bRows.length : Int))) rfl (by kernel_rfl) (fun g3 => ?_) ?_
  · have g3p : ¬ (¬ aCols = bCols) := by simpa using g3
    refine ip 1 7 [(12, pt b1 1)] (by kernel_rfl) ?_
    refine ix rfl (det_own_one (v := .slice aRowsq aRows.length aRowsk) ty51 rfl rfl 1 rfl rfl) ?_
    refine ip 2 4 [(14, iv (aRows.length : Int)), (15, pt b2 1)] (by kernel_rfl) ?_
    refine ix rfl (det_own_one (v := .slice bRowsq bRows.length bRowsk) ty51 rfl rfl 0 rfl rfl) ?_
    refine ip 3 0 [(19, bv (!decide ((aRows.length : Int) = (bRows.length : Int))))] (by kernel_rfl) ?_
    exact JI_end (armI 7 11 19 g3 Foll.refl (mk [true, true] rfl) rfl rfl rfl rfl rfl)
  refine ip 1 27 [(20, bv ((!decide (aCols = bCols)) || (!decide ((aRows.length : Int) = (bRows.length : Int)))))] (by kernel_rfl) ?_
  refine ior 6 21 20 26 (!(decide (aCursor = bCursor))) rfl (by kernel_rfl) (fun g4 => ?_) ?_
  · have g4p : ¬ ((¬ aCols = bCols) ∨ (¬ (aRows.length : Int) = (bRows.length : Int))) := by simpa using g4
    refine ip 1 5 [(21, pt b1 2)] (by kernel_rfl) ?_
    refine ix rfl (det_own_agg (us := [iv aCursor.row, iv aCursor.col]) ty53 rfl rfl 1 rfl rfl rfl) ?_
    refine ip 1 3 [(23, pt b2 2)] (by kernel_rfl) ?_
    refine ix rfl (det_own_agg (us := [iv bCursor.row, iv bCursor.col]) ty53 rfl rfl 0 rfl rfl rfl) ?_
    refine ix rfl (det_nes (a := aCursor) (b := bCursor) eqt53 rfl rfl rfl) ?_
    refine ip 1 0 [(26, bv (!(decide (aCursor = bCursor))))] (by kernel_rfl) ?_
    exact JI_end (armI 7 20 26 g4 Foll.refl (mk [true, true] rfl) rfl rfl rfl rfl rfl)
  refine ip 1 20 [(27, bv (((!decide (aCols = bCols)) || (!decide ((aRows.length : Int) = (bRows.length : Int)))) || (!(decide (aCursor = bCursor)))))] (by kernel_rfl) ?_
  refine ior 6 14 27 33 (!(aVisible == bVisible)) rfl (by kernel_rfl) (fun g5 => ?_) ?_
  · have g5p : ¬ (((¬ aCols = bCols) ∨ (¬ (aRows.length : Int) = (bRows.length : Int))) ∨ (¬ aCursor = bCursor)) := by simpa using g5
    refine ip 1 5 [(28, pt b1 4)] (by kernel_rfl) ?_
    refine ix rfl (det_own_one (v := bv aVisible) ty4 rfl rfl 1 rfl rfl) ?_
    refine ip 1 3 [(30, pt b2 4)] (by kernel_rfl) ?_
    refine ix rfl (det_own_one (v := bv bVisible) ty4 rfl rfl 0 rfl rfl) ?_
    refine ix rfl (det_neb Tryz.underlying4 rfl rfl rfl) ?_
    refine ip 1 0 [(33, bv (!(aVisible == bVisible)))] (by kernel_rfl) ?_
    exact JI_end (armI 7 27 33 g5 Foll.refl (mk [true, true] rfl) rfl rfl rfl rfl rfl)
  refine ip 1 13 [(34, bv ((((!decide (aCols = bCols)) || (!decide ((aRows.length : Int) = (bRows.length : Int)))) || (!(decide (aCursor = bCursor)))) || (!(aVisible == bVisible))))] (by kernel_rfl) ?_
  refine ior 6 7 34 40 (!decide (aShape = bShape)) rfl (by kernel_rfl) (fun g6 => ?_) ?_
  · have g6p := g6; try simp only [Bool.and_eq_true, Bool.or_eq_true, Bool.and_eq_false_iff, Bool.or_eq_false_iff, Bool.not_eq_true', Bool.not_eq_false', decide_eq_true_eq, decide_eq_false_iff_not] at g6p
    refine ip 1 5 [(35, pt b1 5)] (by kernel_rfl) ?_
    refine ix rfl (det_own_one (v := iv aShape) ty3 rfl rfl 1 rfl rfl) ?_
    refine ip 1 3 [(37, pt b2 5)] (by kernel_rfl) ?_
    refine ix rfl (det_own_one (v := iv bShape) ty3 rfl rfl 0 rfl rfl) ?_
    refine ip 2 0 [(40, bv (!decide (aShape = bShape)))] (by kernel_rfl) ?_
    exact JI_end (armI 6 34 40 g6 Foll.refl (mk [true, true] rfl) rfl rfl rfl rfl rfl)
  refine ip 1 6 [(41, bv (((((!decide (aCols = bCols)) || (!decide ((aRows.length : Int) = (bRows.length : Int)))) || (!(decide (aCursor = bCursor)))) || (!(aVisible == bVisible))) || (!decide (aShape = bShape))))] (by kernel_rfl) ?_
  refine ior 6 0 41 47 (!(decide (aTitle = bTitle))) rfl (by kernel_rfl) (fun g7 => ?_) ?_
  · have g7p := g7; try simp only [Bool.and_eq_true, Bool.or_eq_true, Bool.and_eq_false_iff, Bool.or_eq_false_iff, Bool.not_eq_true', Bool.not_eq_false', decide_eq_true_eq, decide_eq_false_iff_not] at g7p
    refine ip 1 5 [(42, pt b1 6)] (by kernel_rfl) ?_
    refine ix rfl (det_own_one (v := sv aTitle) ty9 rfl rfl 1 rfl rfl) ?_
    refine ip 1 3 [(44, pt b2 6)] (by kernel_rfl) ?_
    refine ix rfl (det_own_one (v := sv bTitle) ty9 rfl rfl 0 rfl rfl) ?_
    refine ix rfl (det_stne rfl rfl rfl) ?_
    refine ip 1 0 [(47, bv (!(decide (aTitle = bTitle))))] (by kernel_rfl) ?_
    exact JI_end (armI 7 41 47 g7 Foll.refl (mk [true, true] rfl) rfl rfl rfl rfl rfl)
  refine ie ?_
  refine J_if rfl (fun h8 => ?_) (fun h8 => ?_)
  · have h8p := h8; try simp only [Bool.and_eq_true, Bool.or_eq_true, Bool.and_eq_false_iff, Bool.or_eq_false_iff, Bool.not_eq_true', Bool.not_eq_false', decide_eq_true_eq, decide_eq_false_iff_not] at h8p
    replace hR := bt hR h8
    refine sr 1 rfl ?_
    refine ip 1 0 [(4, bv false)] (by kernel_rfl) ?_
    refine ie ?_
    refine J_ret ?_
    subst hR
    exact ends_ret rfl ⟨hr, hD⟩ (by simp [hD]) (res1 rfl (resV_tmp rfl)) () (by rfl) (mk [false, false] rfl) Foll.nil
  · have h8p := h8; try simp only [Bool.and_eq_true, Bool.or_eq_true, Bool.and_eq_false_iff, Bool.or_eq_false_iff, Bool.not_eq_true', Bool.not_eq_false', decide_eq_true_eq, decide_eq_false_iff_not] at h8p
    replace hR := bf hR h8
    refine J_skip ?_
    refine nx ?_
    refine J_seq ?_
    refine sr 1 rfl ?_
    refine ip 1 0 [(5, iv 0)] (by kernel_rfl) ?_
    refine ie ?_
    refine J_block ?_
    refine JL1 (fun (i : Nat) => i ≤ aRows.length ∧ ref23_Same_l0 bRows (aRows.drop i) i = R) (fun (i : Nat) => [(2, pt b1 0), (3, pt b2 0), (5, iv (i : Int))]) (fun (i : Nat) => [bx b2 [iv bCols, .slice bRowsq bRows.length bRowsk, iv bCursor.row, iv bCursor.col, bv bVisible, iv bShape, sv bTitle] 55, bx b1 [iv aCols, .slice aRowsq aRows.length aRowsk, iv aCursor.row, iv aCursor.col, bv aVisible, iv aShape, sv aTitle] 55]) (fun (i : Nat) => [sl cSlc aRowsq aRowsrs, rowsF cCel aRowsrs aRows, sl cSlc bRowsq bRowsrs, rowsF cCel bRowsrs bRows]) (fun (i : Nat) => aRows.length - i) 0 ⟨(by omega), hR⟩ ⟨rfl, rfl, (by first | rfl | (simp only [List.length_set, List.length_append, List.length_cons, List.length_nil]; rfl) | simp | (simp; omega)), trivial⟩ (mk [true, true] rfl) Foll.refl ?_
    rintro i ⟨hm9, hR⟩
    refine J_seq ?_
    refine sr 5 rfl ?_
    refine ip 2 3 [(48, iv (i : Int)), (49, pt b1 1)] (by kernel_rfl) ?_
    refine ix rfl (det_own_one (v := .slice aRowsq aRows.length aRowsk) ty51 rfl rfl 1 rfl rfl) ?_
    refine ip 2 0 [(52, bv (decide ((i : Int) < (aRows.length : Int))))] (by kernel_rfl) ?_
    refine ie ?_
    refine J_if rfl (fun h10 => ?_) (fun h10 => ?_)
    · have h10p : (i : Int) < (aRows.length : Int) := by simpa using h10
      rw [dropc [] (show i < aRows.length by omega)] at hR; replace hR := (ref23_Same_l0.eq_2 ..).symm.trans hR
      refine J_skip ?_
      refine nx ?_
      refine J_seq ?_
      refine J_block ?_
      refine sd 12 rfl (by kernel_rfl) rfl ?_
      refine dp 1 11 [(55, pt b1 1)] (by kernel_rfl) ?_
      refine dd rfl (det_own_one (v := .slice aRowsq aRows.length aRowsk) ty51 rfl rfl 1 rfl rfl) ?_
      refine dp 1 9 [(57, iv (i : Int))] (by kernel_rfl) ?_
      refine JD_base 0 rfl (by omega) fun a11 hq12 => ?_
      refine JD_fact1 (rows_atD (k := i) (d := (⟨none, 0, 0⟩ : Slc)) hrowsaRowsrs 1 rfl (by have := hrowsaRowsrs.1; omega)) ?_
      have := rows_cap hrowsaRowsrs (k := i) (d := (⟨none, 0, 0⟩ : Slc)) (by have := hrowsaRowsrs.1; omega)
      refine dd rfl (det_ixq slt51 rfl rfl hq12 rfl i rfl (by omega)) ?_
      refine dd rfl (det_conv (det_ld_one (v := .slice ((aRowsrs.getD i (⟨none, 0, 0⟩ : Slc)).q) ((aRowsrs.getD i (⟨none, 0, 0⟩ : Slc)).n) ((aRowsrs.getD i (⟨none, 0, 0⟩ : Slc)).k)) (us := [.slice ((aRowsrs.getD i (⟨none, 0, 0⟩ : Slc)).q) ((aRowsrs.getD i (⟨none, 0, 0⟩ : Slc)).n) ((aRowsrs.getD i (⟨none, 0, 0⟩ : Slc)).k)]) ty74 rfl rfl (at_slq (c := cSlc) (sz := 1) hq12 (fun _ => rfl) 1 rfl (gd (⟨none, 0, 0⟩ : Slc) (by have := hrowsaRowsrs.1; omega))) rfl) (rows_val hrowsaRowsrs (by have := hrowsaRowsrs.1; omega))) ?_
      refine dp 1 6 [(60, pt b2 1)] (by kernel_rfl) ?_
      refine dd rfl (det_own_one (v := .slice bRowsq bRows.length bRowsk) ty51 rfl rfl 0 rfl rfl) ?_
      refine dp 1 4 [(62, iv (i : Int))] (by kernel_rfl) ?_
      refine JD_base 3 rfl (by omega) fun a13 hq14 => ?_
      refine JD_fact1 (rows_atD (k := i) (d := (⟨none, 0, 0⟩ : Slc)) hrowsbRowsrs 4 rfl (by have := hrowsbRowsrs.1; omega)) ?_
      have := rows_cap hrowsbRowsrs (k := i) (d := (⟨none, 0, 0⟩ : Slc)) (by have := hrowsbRowsrs.1; omega)
      refine dd rfl (det_ixq slt51 rfl rfl hq14 rfl i rfl (by omega)) ?_
      refine dd rfl (det_conv (det_ld_one (v := .slice ((bRowsrs.getD i (⟨none, 0, 0⟩ : Slc)).q) ((bRowsrs.getD i (⟨none, 0, 0⟩ : Slc)).n) ((bRowsrs.getD i (⟨none, 0, 0⟩ : Slc)).k)) (us := [.slice ((bRowsrs.getD i (⟨none, 0, 0⟩ : Slc)).q) ((bRowsrs.getD i (⟨none, 0, 0⟩ : Slc)).n) ((bRowsrs.getD i (⟨none, 0, 0⟩ : Slc)).k)]) ty74 rfl rfl (at_slq (c := cSlc) (sz := 1) hq14 (fun _ => rfl) 4 rfl (gd (⟨none, 0, 0⟩ : Slc) (by have := hrowsbRowsrs.1; omega))) rfl) (rows_val hrowsbRowsrs (by have := hrowsbRowsrs.1; omega))) ?_
      refine ddc rfl (det_call (ref23_SameCells_c (aRows.getD i []) (bRows.getD i []) ((aRowsrs.getD i (⟨none, 0, 0⟩ : Slc)).q) ((aRowsrs.getD i (⟨none, 0, 0⟩ : Slc)).k) ((bRowsrs.getD i (⟨none, 0, 0⟩ : Slc)).q) ((bRowsrs.getD i (⟨none, 0, 0⟩ : Slc)).k) (by first | omega | (simp only [List.length_take, List.length_drop, List.length_append, List.length_cons, List.length_nil, List.length_set, List.length_map]; omega) | decide) (by first | omega | (simp only [List.length_take, List.length_drop, List.length_append, List.length_cons, List.length_nil, List.length_set, List.length_map]; omega) | decide) (by first | omega | (simp only [List.length_take, List.length_drop, List.length_append, List.length_cons, List.length_nil, List.length_set, List.length_map]; omega) | decide) (by first | omega | (simp only [List.length_take, List.length_drop, List.length_append, List.length_cons, List.length_nil, List.length_set, List.length_map]; omega) | decide) _ rfl) rfl rfl rfl rfl rfl (Foll.pick [1, 0] rfl)) ?_
      refine dp 1 0 [(66, bv (!(ref23_SameCells (aRows.getD i []) (bRows.getD i []))))] (by kernel_rfl) ?_
      refine de ?_
      refine J_if rfl (fun h15 => ?_) (fun h15 => ?_)
      · replace hR := bt hR h15
        refine sr 1 rfl ?_
        refine ip 1 0 [(4, bv false)] (by kernel_rfl) ?_
        refine ie ?_
        refine J_ret ?_
        subst hR
        exact ends_ret rfl ⟨hr, hD⟩ (by simp [hD]) (res1 rfl (resV_tmp rfl)) () (by rfl) (mk [false, false] rfl) Foll.nil
      · replace hR := bf hR h15
        refine J_skip ?_
        refine nx ?_
        refine J_region 3 rfl ?_
        refine ip 1 2 [(53, iv (i : Int))] (by kernel_rfl) ?_
        refine ix rfl (det_add64 rfl rfl rfl rfl (by omega)) ?_
        refine ip 1 0 [(5, iv ((i : Int) + 1))] (by kernel_rfl) ?_
        refine JI_end ?_
        exact againL1 (z1 := i) (i + 1) ⟨(by omega), hR⟩ (by (try dsimp only); omega) ⟨rfl, rfl, (by first | rfl | (simp only [List.length_set, List.length_append, List.length_cons, List.length_nil]; rfl) | simp | (simp; omega)), trivial⟩ (mk [true, true] rfl) (Foll.pick [2, 3, 4, 5] rfl)
    · have h10p : ¬ ((i : Int) < (aRows.length : Int)) := by simpa using h10
      rw [dropn h10p] at hR; replace hR := (ref23_Same_l0.eq_1 ..).symm.trans hR
      refine J_exit ?_
      refine nx ?_
      refine sr 1 rfl ?_
      refine ip 1 0 [(4, bv true)] (by kernel_rfl) ?_
      refine ie ?_
      refine J_ret ?_
      subst hR
      exact ends_ret rfl ⟨hr, hD⟩ (by simp [hD]) (res1 rfl (resV_tmp rfl)) () (by rfl) (mk [false, false] rfl) Foll.nil

def damage_Count_l0 : List Sp3 → Int → Nat → Int
  | [], n, t9 => n
  | hd_l0 :: tl_l0, n, t9 => (bif (decide (hd_l0.to ≤ hd_l0.frm)) then damage_Count_l0 tl_l0 n (t9 + 1) else (bif (decide ((IntKind.u64.wrap (IntKind.i64.wrap ((3200 : Int) - n))) ≤ (IntKind.u64.wrap ((IntKind.u64.wrap (hd_l0.to)) - (IntKind.u64.wrap (hd_l0.frm)))))) then 3200 else damage_Count_l0 tl_l0 (IntKind.i64.wrap (n + (IntKind.i64.wrap (IntKind.u64.wrap ((IntKind.u64.wrap (hd_l0.to)) - (IntKind.u64.wrap (hd_l0.frm))))))) (t9 + 1)))
def damage_Count (l : List Sp3) : Int :=
  damage_Count_l0 l 0 0

set_option maxRecDepth 100000 in
theorem damage_Count_c (l : List Sp3) (lq : Option Addr) (lk : Nat) (hll : l.length ≤ 9223372036854775807) (hcl : l.length ≤ lk) (R : Int) (hR : damage_Count l = R) : ConV Tryz.prog 35 [.slice lq l.length lk] [sl cSp3 lq l] (iv R) := by
  refine con_of_J (n := 36) Tryz.func35 rfl (by kernel_rfl) rfl rfl [(0, .slice lq l.length lk)] ⟨rfl, trivial⟩ fun X hX hr hD => ?_
  replace hR := (damage_Count.eq_1 ..).symm.trans hR
  refine sr 1 rfl ?_
  refine ip 1 0 [] (by kernel_rfl) ?_
  refine ie ?_
  refine J_scope ?_
  refine sr 1 rfl ?_
  refine ip 1 0 [(3, iv 0)] (by kernel_rfl) ?_
  refine ie ?_
  refine J_seq ?_
  refine J_label ?_
  refine nx ?_
  refine J_seq ?_
  refine sr 3 rfl ?_
  refine ip 3 0 [(7, .slice lq l.length lk), (8, iv (l.length : Int)), (9, iv 0)] (by kernel_rfl) ?_
  refine ie ?_
  refine J_block ?_
  refine JL2 (fun (n : Int) (t9 : Nat) => t9 ≤ l.length ∧ damage_Count_l0 (l.drop t9) n t9 = R) (fun (n : Int) (t9 : Nat) => [(3, iv n), (7, .slice lq l.length lk), (8, iv (l.length : Int)), (9, iv (t9 : Int))]) (fun (n : Int) (t9 : Nat) => []) (fun (n : Int) (t9 : Nat) => [sl cSp3 lq l]) (fun (n : Int) (t9 : Nat) => l.length - t9) 0 0 ⟨(by omega), hR⟩ ⟨(by first | rfl | (simp only [List.length_set, List.length_append, List.length_cons, List.length_nil]; rfl) | simp | (simp; omega)), rfl, rfl, (by first | rfl | (simp only [List.length_set, List.length_append, List.length_cons, List.length_nil]; rfl) | simp | (simp; omega)), trivial⟩ (mk [] rfl) Foll.refl ?_
  rintro n t9 ⟨hm1, hR⟩
  refine sr 1 rfl ?_
  refine ip 1 0 [(10, bv (decide ((t9 : Int) < (l.length : Int))))] (by kernel_rfl) ?_
  refine ie ?_
  refine J_seq ?_
  refine J_if rfl (fun h2 => ?_) (fun h2 => ?_)
  · have h2p : (t9 : Int) < (l.length : Int) := by simpa using h2
    rw [dropc Sp3.zero (show t9 < l.length by omega)] at hR; replace hR := (damage_Count_l0.eq_2 ..).symm.trans hR
    refine J_skip ?_
    refine nx ?_
    refine J_seq ?_
    refine J_block ?_
    refine sr 4 rfl ?_
    refine JI_base 0 rfl (by omega) fun a3 hq4 => ?_
    refine ix rfl (det_ixq slt56 rfl rfl hq4 rfl t9 rfl (by omega)) ?_
    refine ix rfl (det_ld_agg (us := cSp3 (l.getD t9 Sp3.zero)) ty63 rfl rfl (at_slq (c := cSp3) (sz := 3) hq4 (fun _ => rfl) 0 rfl (gd Sp3.zero (by omega))) rfl) ?_
    refine it rfl (tri_alloc (cs := cSp3 Sp3.zero) zero63 rfl) fun b5 => ?_
    refine it rfl (tri_store (us := cSp3 (l.getD t9 Sp3.zero)) (cs' := cSp3 (l.getD t9 Sp3.zero)) ty63 rfl rfl rfl 0 rfl rfl rfl rfl rfl rfl) fun _ => ?_
    refine ie ?_
    refine J_seq ?_
    refine sr 5 rfl ?_
    refine ip 1 4 [(13, pt b5 2)] (by kernel_rfl) ?_
    refine ix rfl (det_own_one (v := iv ((l.getD t9 Sp3.zero).to)) ty3 rfl rfl 0 rfl rfl) ?_
    refine ip 1 2 [(15, pt b5 1)] (by kernel_rfl) ?_
    refine ix rfl (det_own_one (v := iv ((l.getD t9 Sp3.zero).frm)) ty3 rfl rfl 0 rfl rfl) ?_
    refine ip 1 0 [(17, bv (decide ((l.getD t9 Sp3.zero).to ≤ (l.getD t9 Sp3.zero).frm)))] (by kernel_rfl) ?_
    refine ie ?_
    refine J_if rfl (fun h6 => ?_) (fun h6 => ?_)
    · have h6p : (l.getD t9 Sp3.zero).to ≤ (l.getD t9 Sp3.zero).frm := by simpa using h6
      replace hR := bt hR h6
      refine J_exit ?_
      refine nx ?_
      refine J_region 2 rfl ?_
      refine ix rfl (det_add64 rfl rfl rfl rfl (by omega)) ?_
      refine ip 1 0 [(9, iv ((t9 : Int) + 1))] (by kernel_rfl) ?_
      refine JI_end ?_
      exact againL2 (z1 := n) (z2 := t9) n (t9 + 1) ⟨(by omega), hR⟩ (by (try dsimp only); omega) ⟨rfl, rfl, rfl, (by first | rfl | (simp only [List.length_set, List.length_append, List.length_cons, List.length_nil]; rfl) | simp | (simp; omega)), trivial⟩ (mk [false] rfl) Foll.refl
    · have h6p : ¬ ((l.getD t9 Sp3.zero).to ≤ (l.getD t9 Sp3.zero).frm) := by simpa using h6
      replace hR := bf hR h6
      refine J_skip ?_
      refine nx ?_
      refine sr 8 rfl ?_
      refine ip 1 7 [(18, pt b5 2)] (by kernel_rfl) ?_
      refine ix rfl (det_own_one (v := iv ((l.getD t9 Sp3.zero).to)) ty3 rfl rfl 0 rfl rfl) ?_
      refine ip 2 4 [(20, .int .u64 (IntKind.u64.wrap ((l.getD t9 Sp3.zero).to))), (21, pt b5 1)] (by kernel_rfl) ?_
      refine ix rfl (det_own_one (v := iv ((l.getD t9 Sp3.zero).frm)) ty3 rfl rfl 0 rfl rfl) ?_
      refine ip 3 0 [(6, .int .u64 (IntKind.u64.wrap ((IntKind.u64.wrap ((l.getD t9 Sp3.zero).to)) - (IntKind.u64.wrap ((l.getD t9 Sp3.zero).frm)))))] (by kernel_rfl) ?_
      refine ie ?_
      refine sr 5 rfl ?_
      refine ip 2 3 [(25, .int .u64 (IntKind.u64.wrap ((IntKind.u64.wrap ((l.getD t9 Sp3.zero).to)) - (IntKind.u64.wrap ((l.getD t9 Sp3.zero).frm))))), (26, iv n)] (by kernel_rfl) ?_
      refine ix rfl (DetR.pure rfl) ?_
      refine ip 2 0 [(29, bv (decide ((IntKind.u64.wrap (IntKind.i64.wrap ((3200 : Int) - n))) ≤ (IntKind.u64.wrap ((IntKind.u64.wrap ((l.getD t9 Sp3.zero).to)) - (IntKind.u64.wrap ((l.getD t9 Sp3.zero).frm)))))))] (by kernel_rfl) ?_
      refine ie ?_
      refine J_if rfl (fun h7 => ?_) (fun h7 => ?_)
      · have h7p : (IntKind.u64.wrap (IntKind.i64.wrap ((3200 : Int) - n))) ≤ (IntKind.u64.wrap ((IntKind.u64.wrap ((l.getD t9 Sp3.zero).to)) - (IntKind.u64.wrap ((l.getD t9 Sp3.zero).frm)))) := by simpa using h7
        replace hR := bt hR h7
        refine sr 1 rfl ?_
        refine ip 1 0 [(3, iv 3200)] (by kernel_rfl) ?_
        refine ie ?_
        refine J_exit ?_
        refine nx ?_
        refine sr 2 rfl ?_
        refine ip 2 0 [(2, iv 3200)] (by kernel_rfl) ?_
        refine ie ?_
        refine J_ret ?_
        subst hR
        exact ends_ret rfl ⟨hr, hD⟩ (by simp [hD]) (res1 rfl (resV_tmp rfl)) () (by rfl) (mk [false] rfl) Foll.nil
      · have h7p : ¬ ((IntKind.u64.wrap (IntKind.i64.wrap ((3200 : Int) - n))) ≤ (IntKind.u64.wrap ((IntKind.u64.wrap ((l.getD t9 Sp3.zero).to)) - (IntKind.u64.wrap ((l.getD t9 Sp3.zero).frm))))) := by simpa using h7
        replace hR := bf hR h7
        refine J_region 5 rfl ?_
        refine ip 3 2 [(30, iv n), (32, iv (IntKind.i64.wrap (IntKind.u64.wrap ((IntKind.u64.wrap ((l.getD t9 Sp3.zero).to)) - (IntKind.u64.wrap ((l.getD t9 Sp3.zero).frm))))))] (by kernel_rfl) ?_
        refine ix rfl (DetR.pure rfl) ?_
        refine ip 1 0 [(3, iv (IntKind.i64.wrap (n + (IntKind.i64.wrap (IntKind.u64.wrap ((IntKind.u64.wrap ((l.getD t9 Sp3.zero).to)) - (IntKind.u64.wrap ((l.getD t9 Sp3.zero).frm))))))))] (by kernel_rfl) ?_
        refine JI_end ?_
        refine nx ?_
        refine J_region 2 rfl ?_
        refine ix rfl (det_add64 rfl rfl rfl rfl (by omega)) ?_
        refine ip 1 0 [(9, iv ((t9 : Int) + 1))] (by kernel_rfl) ?_
        refine JI_end ?_
        exact againL2 (z1 := n) (z2 := t9) (IntKind.i64.wrap (n + (IntKind.i64.wrap (IntKind.u64.wrap ((IntKind.u64.wrap ((l.getD t9 Sp3.zero).to)) - (IntKind.u64.wrap ((l.getD t9 Sp3.zero).frm))))))) (t9 + 1) ⟨(by omega), hR⟩ (by (try dsimp only); omega) ⟨(by first | rfl | (simp only [List.length_set, List.length_append, List.length_cons, List.length_nil]; rfl) | simp | (simp; omega)), rfl, rfl, (by first | rfl | (simp only [List.length_set, List.length_append, List.length_cons, List.length_nil]; rfl) | simp | (simp; omega)), trivial⟩ (mk [false] rfl) Foll.refl
  · have h2p : ¬ ((t9 : Int) < (l.length : Int)) := by simpa using h2
    rw [dropn h2p] at hR; replace hR := (damage_Count_l0.eq_1 ..).symm.trans hR
    refine J_exit ?_
    refine nx ?_
    refine sr 2 rfl ?_
    refine ip 2 0 [(2, iv n)] (by kernel_rfl) ?_
    refine ie ?_
    refine J_ret ?_
    subst hR
    exact ends_ret rfl ⟨hr, hD⟩ (by simp [hD]) (res1 rfl (resV_tmp rfl)) () (by rfl) (mk [] rfl) Foll.nil

def law24_wakes : Bool :=
  (bindV (law24_of ([97, 98, 99, 100, 101, 102] : List UInt8)) fun (rlaw24of : Int × List (List Cel) × Int × Int × Bool × Int × List UInt8) => (bindV (law24_of ([97, 120, 99, 100, 121, 121] : List UInt8)) fun (rlaw24of1 : Int × List (List Cel) × Int × Int × Bool × Int × List UInt8) => (bindV (damage_Spans rlaw24of.1 rlaw24of.2.1 (⟨rlaw24of.2.2.1, rlaw24of.2.2.2.1⟩ : Plc) rlaw24of.2.2.2.2.1 rlaw24of.2.2.2.2.2.1 rlaw24of.2.2.2.2.2.2 rlaw24of1.1 rlaw24of1.2.1 (⟨rlaw24of1.2.2.1, rlaw24of1.2.2.2.1⟩ : Plc) rlaw24of1.2.2.2.2.1 rlaw24of1.2.2.2.2.2.1 rlaw24of1.2.2.2.2.2.2) fun (rdamageSpans : List Sp3 × Int) => (bindV (law24_of ([97, 98, 99, 100, 101, 102] : List UInt8)) fun (rlaw24of2 : Int × List (List Cel) × Int × Int × Bool × Int × List UInt8) => (bindV (law24_of ([97, 120, 99, 100, 121, 121] : List UInt8)) fun (rlaw24of3 : Int × List (List Cel) × Int × Int × Bool × Int × List UInt8) => (bindV (damage_Over rlaw24of2.1 rlaw24of2.2.1 (⟨rlaw24of2.2.2.1, rlaw24of2.2.2.2.1⟩ : Plc) rlaw24of2.2.2.2.2.1 rlaw24of2.2.2.2.2.2.1 rlaw24of2.2.2.2.2.2.2 rlaw24of3.1 rlaw24of3.2.1 (⟨rlaw24of3.2.2.1, rlaw24of3.2.2.2.1⟩ : Plc) rlaw24of3.2.2.2.2.1 rlaw24of3.2.2.2.2.2.1 rlaw24of3.2.2.2.2.2.2 ([{ Sp3.zero with row := 0, frm := 1, to := 2 }, { Sp3.zero with row := 0, frm := 4, to := 6 }] : List Sp3)) fun (rdamageOver : Int × List (List Cel) × Int × Int × Bool × Int × List UInt8 × Int) => (bindV (law24_of ([97, 98, 99, 100, 101, 102] : List UInt8)) fun (rlaw24of4 : Int × List (List Cel) × Int × Int × Bool × Int × List UInt8) => (bindV (law24_of ([97, 98, 99, 100, 101] : List UInt8)) fun (rlaw24of5 : Int × List (List Cel) × Int × Int × Bool × Int × List UInt8) => (bindV (damage_Spans rlaw24of4.1 rlaw24of4.2.1 (⟨rlaw24of4.2.2.1, rlaw24of4.2.2.2.1⟩ : Plc) rlaw24of4.2.2.2.2.1 rlaw24of4.2.2.2.2.2.1 rlaw24of4.2.2.2.2.2.2 rlaw24of5.1 rlaw24of5.2.1 (⟨rlaw24of5.2.2.1, rlaw24of5.2.2.2.1⟩ : Plc) rlaw24of5.2.2.2.2.1 rlaw24of5.2.2.2.2.2.1 rlaw24of5.2.2.2.2.2.2) fun (rdamageSpans1 : List Sp3 × Int) => (bif (decide (rdamageSpans.2 = 0)) then (bif (slices_Equal_api_Span_api_Span rdamageSpans.1 ([{ Sp3.zero with row := 0, frm := 1, to := 2 }, { Sp3.zero with row := 0, frm := 4, to := 6 }] : List Sp3)) then (bif (decide (rdamageOver.2.2.2.2.2.2.2 = 0)) then (bindV (law24_of ([97, 120, 99, 100, 121, 121] : List UInt8)) fun (rlaw24of6 : Int × List (List Cel) × Int × Int × Bool × Int × List UInt8) => (bif (ref23_Same rdamageOver.1 rdamageOver.2.1 (⟨rdamageOver.2.2.1, rdamageOver.2.2.2.1⟩ : Plc) rdamageOver.2.2.2.2.1 rdamageOver.2.2.2.2.2.1 rdamageOver.2.2.2.2.2.2.1 rlaw24of6.1 rlaw24of6.2.1 (⟨rlaw24of6.2.2.1, rlaw24of6.2.2.2.1⟩ : Plc) rlaw24of6.2.2.2.2.1 rlaw24of6.2.2.2.2.2.1 rlaw24of6.2.2.2.2.2.2) then (bif (decide (rdamageSpans1.2 = 2)) then (bindV (damage_Join rdamageSpans.1 2) fun (rdamageJoin : List Sp3) => (bif (decide ((rdamageJoin.length : Int) = 1)) then (bindV (damage_Join rdamageSpans.1 1) fun (rdamageJoin1 : List Sp3) => (bif (decide ((rdamageJoin1.length : Int) = 2)) then (decide ((damage_Count rdamageSpans.1) = 3)) else false)) else false)) else false) else false)) else false) else false) else false))))))))))

set_option maxRecDepth 100000 in
theorem law24_wakes_c (R : Bool) (hR : law24_wakes = R) : ConV Tryz.prog 26 [] [sl cSpn (some ⟨0, 0, none⟩) tab0, sl cSpn (some ⟨1, 0, none⟩) tab1] (bv R) := by
  refine con_of_J (n := 67) Tryz.func26 rfl (by kernel_rfl) rfl rfl [] trivial fun X hX hr hD => ?_
  replace hR := (law24_wakes.eq_1 ..).symm.trans hR
  refine sr 1 rfl ?_
  refine ip 1 0 [] (by kernel_rfl) ?_
  refine ie ?_
  refine sr 8 rfl ?_
  have hQ := bindVx hR; clear hR; obtain ⟨rlaw24of, hrlaw24of, hR⟩ := hQ
  refine it rfl (tri_callN (L2 := []) (law24_of_c ([97, 98, 99, 100, 101, 102] : List UInt8) (by first | omega | decide) rlaw24of hrlaw24of) rfl rfl rfl rfl rfl Foll.nil (List.Perm.refl _) (fun ⟨⟨q1, rs2, k3⟩, hp6⟩ => []) (fun _ => rfl)) fun ⟨⟨q1, rs2, k3⟩, hp6⟩ => ?_
  obtain ⟨hr4, hc5, hl7⟩ := hp6
  have := hr4.1
  have := law24_of_title ([97, 98, 99, 100, 101, 102] : List UInt8); try rw [hrlaw24of] at this
  have hQ := bindVx hR; clear hR; obtain ⟨rlaw24of1, hrlaw24of1, hR⟩ := hQ
  refine it rfl (tri_callN (L2 := []) (law24_of_c ([97, 120, 99, 100, 121, 121] : List UInt8) (by first | omega | decide) rlaw24of1 hrlaw24of1) rfl rfl rfl rfl rfl Foll.nil (List.Perm.refl _) (fun ⟨⟨q8, rs9, k10⟩, hp13⟩ => []) (fun _ => rfl)) fun ⟨⟨q8, rs9, k10⟩, hp13⟩ => ?_
  obtain ⟨hr11, hc12, hl14⟩ := hp13
  have := hr11.1
  have := law24_of_title ([97, 120, 99, 100, 121, 121] : List UInt8); try rw [hrlaw24of1] at this
  have hQ := bindVx hR; clear hR; obtain ⟨rdamageSpans, hrdamageSpans, hR⟩ := hQ
  refine it rfl (tri_callN (L2 := []) (damage_Spans_c rlaw24of.1 rlaw24of.2.1 (⟨rlaw24of.2.2.1, rlaw24of.2.2.2.1⟩ : Plc) rlaw24of.2.2.2.2.1 rlaw24of.2.2.2.2.2.1 rlaw24of.2.2.2.2.2.2 rlaw24of1.1 rlaw24of1.2.1 (⟨rlaw24of1.2.2.1, rlaw24of1.2.2.2.1⟩ : Plc) rlaw24of1.2.2.2.2.1 rlaw24of1.2.2.2.2.2.1 rlaw24of1.2.2.2.2.2.2 q1 rs2 k3 q8 rs9 k10 hr4 (by first | omega | (simp only [List.length_take, List.length_drop, List.length_append, List.length_cons, List.length_nil, List.length_set, List.length_map]; omega) | decide) (by first | omega | (simp only [List.length_take, List.length_drop, List.length_append, List.length_cons, List.length_nil, List.length_set, List.length_map]; omega) | decide) hr11 (by first | omega | (simp only [List.length_take, List.length_drop, List.length_append, List.length_cons, List.length_nil, List.length_set, List.length_map]; omega) | decide) (by first | omega | (simp only [List.length_take, List.length_drop, List.length_append, List.length_cons, List.length_nil, List.length_set, List.length_map]; omega) | decide) (by first | omega | (simp only [List.length_nil]; omega)) (by first | omega | (simp only [List.length_nil]; omega)) rdamageSpans hrdamageSpans) rfl rfl rfl rfl rfl (Foll.pick [2, 3, 0, 1, 4, 5] rfl) (List.Perm.refl _) (fun ⟨r15, hk16⟩ => ((vo cSp3 63 r15 rdamageSpans.1) ++ ([]))) (fun _ => by first | rfl | simp only [List.append_nil, List.cons_append, List.nil_append, List.append_assoc])) fun ⟨r15, hk16⟩ => ?_
  have := VOk.le hk16
  have := VOk.cap hk16
  have := damage_Spans_len rlaw24of.1 rlaw24of.2.1 (⟨rlaw24of.2.2.1, rlaw24of.2.2.2.1⟩ : Plc) rlaw24of.2.2.2.2.1 rlaw24of.2.2.2.2.2.1 rlaw24of.2.2.2.2.2.2 rlaw24of1.1 rlaw24of1.2.1 (⟨rlaw24of1.2.2.1, rlaw24of1.2.2.2.1⟩ : Plc) rlaw24of1.2.2.2.2.1 rlaw24of1.2.2.2.2.2.1 rlaw24of1.2.2.2.2.2.2; try rw [hrdamageSpans] at this
  refine JI_seal [] [] (T := 63) (c := cSp3) (r := r15) (xs := rdamageSpans.1) hk16 (by first | rfl | simp only [List.cons_append, List.append_assoc, List.nil_append, List.append_nil]) ?_
  refine ip 5 0 [(1, .slice (va r15.q) rdamageSpans.1.length r15.k), (2, iv rdamageSpans.2)] (by kernel_rfl) ?_
  refine ie ?_
  refine sr 4 rfl ?_
  refine ix rfl (det_build (cs := cSp3 ({ Sp3.zero with row := 0, frm := 1, to := 2 })) rfl rfl (by kernel_rfl)) ?_
  refine ix rfl (det_build (cs := cSp3 ({ Sp3.zero with row := 0, frm := 4, to := 6 })) rfl rfl (by kernel_rfl)) ?_
  refine it rfl (tri_buildSl (c := cSp3) (xs := ([{ Sp3.zero with row := 0, frm := 1, to := 2 }, { Sp3.zero with row := 0, frm := 4, to := 6 }] : List Sp3)) slt56 rfl rfl rfl (by kernel_rfl)) fun b17 => ?_
  have : ([{ Sp3.zero with row := 0, frm := 1, to := 2 }, { Sp3.zero with row := 0, frm := 4, to := 6 }] : List Sp3).length = 2 := rfl
  refine ip 1 0 [(3, .slice (some ⟨b17, 0, none⟩) 2 2)] (by kernel_rfl) ?_
  refine ie ?_
  refine sr 10 rfl ?_
  have hQ := bindVx hR; clear hR; obtain ⟨rlaw24of2, hrlaw24of2, hR⟩ := hQ
  refine it rfl (tri_callN (L2 := []) (law24_of_c ([97, 98, 99, 100, 101, 102] : List UInt8) (by first | omega | decide) rlaw24of2 hrlaw24of2) rfl rfl rfl rfl rfl Foll.nil (List.Perm.refl _) (fun ⟨⟨q18, rs19, k20⟩, hp23⟩ => []) (fun _ => rfl)) fun ⟨⟨q18, rs19, k20⟩, hp23⟩ => ?_
  obtain ⟨hr21, hc22, hl24⟩ := hp23
  have := hr21.1
  have := law24_of_title ([97, 98, 99, 100, 101, 102] : List UInt8); try rw [hrlaw24of2] at this
  have hQ := bindVx hR; clear hR; obtain ⟨rlaw24of3, hrlaw24of3, hR⟩ := hQ
  refine it rfl (tri_callN (L2 := []) (law24_of_c ([97, 120, 99, 100, 121, 121] : List UInt8) (by first | omega | decide) rlaw24of3 hrlaw24of3) rfl rfl rfl rfl rfl Foll.nil (List.Perm.refl _) (fun ⟨⟨q25, rs26, k27⟩, hp30⟩ => []) (fun _ => rfl)) fun ⟨⟨q25, rs26, k27⟩, hp30⟩ => ?_
  obtain ⟨hr28, hc29, hl31⟩ := hp30
  have := hr28.1
  have := law24_of_title ([97, 120, 99, 100, 121, 121] : List UInt8); try rw [hrlaw24of3] at this
  refine ip 1 7 [(20, .slice (some ⟨b17, 0, none⟩) 2 2)] (by kernel_rfl) ?_
  have hQ := bindVx hR; clear hR; obtain ⟨rdamageOver, hrdamageOver, hR⟩ := hQ
  refine it rfl (tri_callN (L2 := []) (damage_Over_c rlaw24of2.1 rlaw24of2.2.1 (⟨rlaw24of2.2.2.1, rlaw24of2.2.2.2.1⟩ : Plc) rlaw24of2.2.2.2.2.1 rlaw24of2.2.2.2.2.2.1 rlaw24of2.2.2.2.2.2.2 rlaw24of3.1 rlaw24of3.2.1 (⟨rlaw24of3.2.2.1, rlaw24of3.2.2.2.1⟩ : Plc) rlaw24of3.2.2.2.2.1 rlaw24of3.2.2.2.2.2.1 rlaw24of3.2.2.2.2.2.2 ([{ Sp3.zero with row := 0, frm := 1, to := 2 }, { Sp3.zero with row := 0, frm := 4, to := 6 }] : List Sp3) q18 rs19 k20 q25 rs26 k27 (some ⟨b17, 0, none⟩) 2 hr21 (by first | omega | (simp only [List.length_take, List.length_drop, List.length_append, List.length_cons, List.length_nil, List.length_set, List.length_map]; omega) | decide) (by first | omega | (simp only [List.length_take, List.length_drop, List.length_append, List.length_cons, List.length_nil, List.length_set, List.length_map]; omega) | decide) hr28 (by first | omega | (simp only [List.length_take, List.length_drop, List.length_append, List.length_cons, List.length_nil, List.length_set, List.length_map]; omega) | decide) (by first | omega | (simp only [List.length_take, List.length_drop, List.length_append, List.length_cons, List.length_nil, List.length_set, List.length_map]; omega) | decide) (by first | omega | (simp only [List.length_take, List.length_drop, List.length_append, List.length_cons, List.length_nil, List.length_set, List.length_map]; omega) | decide) (by first | omega | (simp only [List.length_take, List.length_drop, List.length_append, List.length_cons, List.length_nil, List.length_set, List.length_map]; omega) | decide) (by first | omega | (simp only [List.length_nil]; omega)) (by first | omega | (simp only [List.length_nil]; omega)) rdamageOver hrdamageOver) rfl rfl rfl rfl rfl (Foll.pick [2, 3, 0, 1, 4, 10, 11] rfl) (List.Perm.refl _) (fun ⟨⟨r32, rs33⟩, hp36⟩ => ((vo cSlc 74 r32 rs33) ++ ([]))) (fun _ => by first | rfl | simp only [List.append_nil, List.cons_append, List.nil_append, List.append_assoc])) fun ⟨⟨r32, rs33⟩, hp36⟩ => ?_
  obtain ⟨hk34, hw35⟩ := hp36
  have := VOk.le hk34
  have := VOk.cap hk34
  have := hw35.1
  have := damage_Over_title rlaw24of2.1 rlaw24of2.2.1 (⟨rlaw24of2.2.2.1, rlaw24of2.2.2.2.1⟩ : Plc) rlaw24of2.2.2.2.2.1 rlaw24of2.2.2.2.2.2.1 rlaw24of2.2.2.2.2.2.2 rlaw24of3.1 rlaw24of3.2.1 (⟨rlaw24of3.2.2.1, rlaw24of3.2.2.2.1⟩ : Plc) rlaw24of3.2.2.2.2.1 rlaw24of3.2.2.2.2.2.1 rlaw24of3.2.2.2.2.2.2 ([{ Sp3.zero with row := 0, frm := 1, to := 2 }, { Sp3.zero with row := 0, frm := 4, to := 6 }] : List Sp3); try rw [hrdamageOver] at this
  refine JI_seal [] [] (T := 74) (c := cSlc) (r := r32) (xs := rs33) (VOk.cast hk34 (by rw [hw35.1])) (by first | rfl | simp only [List.cons_append, List.append_assoc, List.nil_append, List.append_nil]) ?_
  refine ip 3 3 [(22, ag [iv rdamageOver.1, .slice (va r32.q) rdamageOver.2.1.length r32.k, iv rdamageOver.2.2.1, iv rdamageOver.2.2.2.1, bv rdamageOver.2.2.2.2.1, iv rdamageOver.2.2.2.2.2.1, sv rdamageOver.2.2.2.2.2.2.1]), (23, iv rdamageOver.2.2.2.2.2.2.2)] (by kernel_rfl) ?_
  refine it rfl (tri_alloc (cs := [iv 0, .slice none 0 0, iv 0, iv 0, bv false, iv 0, sv ([] : List UInt8)]) zero55 rfl) fun b37 => ?_
  refine it rfl (tri_store (us := [iv rdamageOver.1, .slice (va r32.q) rdamageOver.2.1.length r32.k, iv rdamageOver.2.2.1, iv rdamageOver.2.2.2.1, bv rdamageOver.2.2.2.2.1, iv rdamageOver.2.2.2.2.2.1, sv rdamageOver.2.2.2.2.2.2.1]) (cs' := [iv rdamageOver.1, .slice (va r32.q) rdamageOver.2.1.length r32.k, iv rdamageOver.2.2.1, iv rdamageOver.2.2.2.1, bv rdamageOver.2.2.2.2.1, iv rdamageOver.2.2.2.2.2.1, sv rdamageOver.2.2.2.2.2.2.1]) ty55 rfl rfl rfl 0 rfl rfl rfl rfl rfl rfl) fun _ => ?_
  refine ip 1 0 [(5, iv rdamageOver.2.2.2.2.2.2.2)] (by kernel_rfl) ?_
  refine ie ?_
  refine sr 8 rfl ?_
  have hQ := bindVx hR; clear hR; obtain ⟨rlaw24of4, hrlaw24of4, hR⟩ := hQ
  refine it rfl (tri_callN (L2 := [bx b37 [iv rdamageOver.1, .slice (va r32.q) rdamageOver.2.1.length r32.k, iv rdamageOver.2.2.1, iv rdamageOver.2.2.2.1, bv rdamageOver.2.2.2.2.1, iv rdamageOver.2.2.2.2.2.1, sv rdamageOver.2.2.2.2.2.2.1] 55]) (law24_of_c ([97, 98, 99, 100, 101, 102] : List UInt8) (by first | omega | decide) rlaw24of4 hrlaw24of4) rfl rfl rfl rfl rfl Foll.nil (List.Perm.refl _) (fun ⟨⟨q38, rs39, k40⟩, hp43⟩ => [bx b37 [iv rdamageOver.1, .slice (va r32.q) rdamageOver.2.1.length r32.k, iv rdamageOver.2.2.1, iv rdamageOver.2.2.2.1, bv rdamageOver.2.2.2.2.1, iv rdamageOver.2.2.2.2.2.1, sv rdamageOver.2.2.2.2.2.2.1] 55]) (fun _ => rfl)) fun ⟨⟨q38, rs39, k40⟩, hp43⟩ => ?_
  obtain ⟨hr41, hc42, hl44⟩ := hp43
  have := hr41.1
  have := law24_of_title ([97, 98, 99, 100, 101, 102] : List UInt8); try rw [hrlaw24of4] at this
  have hQ := bindVx hR; clear hR; obtain ⟨rlaw24of5, hrlaw24of5, hR⟩ := hQ
  refine it rfl (tri_callN (L2 := [bx b37 [iv rdamageOver.1, .slice (va r32.q) rdamageOver.2.1.length r32.k, iv rdamageOver.2.2.1, iv rdamageOver.2.2.2.1, bv rdamageOver.2.2.2.2.1, iv rdamageOver.2.2.2.2.2.1, sv rdamageOver.2.2.2.2.2.2.1] 55]) (law24_of_c ([97, 98, 99, 100, 101] : List UInt8) (by first | omega | decide) rlaw24of5 hrlaw24of5) rfl rfl rfl rfl rfl Foll.nil (List.Perm.refl _) (fun ⟨⟨q45, rs46, k47⟩, hp50⟩ => [bx b37 [iv rdamageOver.1, .slice (va r32.q) rdamageOver.2.1.length r32.k, iv rdamageOver.2.2.1, iv rdamageOver.2.2.2.1, bv rdamageOver.2.2.2.2.1, iv rdamageOver.2.2.2.2.2.1, sv rdamageOver.2.2.2.2.2.2.1] 55]) (fun _ => rfl)) fun ⟨⟨q45, rs46, k47⟩, hp50⟩ => ?_
  obtain ⟨hr48, hc49, hl51⟩ := hp50
  have := hr48.1
  have := law24_of_title ([97, 98, 99, 100, 101] : List UInt8); try rw [hrlaw24of5] at this
  have hQ := bindVx hR; clear hR; obtain ⟨rdamageSpans1, hrdamageSpans1, hR⟩ := hQ
  refine it rfl (tri_callP (L2 := [bx b37 [iv rdamageOver.1, .slice (va r32.q) rdamageOver.2.1.length r32.k, iv rdamageOver.2.2.1, iv rdamageOver.2.2.2.1, bv rdamageOver.2.2.2.2.1, iv rdamageOver.2.2.2.2.2.1, sv rdamageOver.2.2.2.2.2.2.1] 55]) (damage_Spans_c rlaw24of4.1 rlaw24of4.2.1 (⟨rlaw24of4.2.2.1, rlaw24of4.2.2.2.1⟩ : Plc) rlaw24of4.2.2.2.2.1 rlaw24of4.2.2.2.2.2.1 rlaw24of4.2.2.2.2.2.2 rlaw24of5.1 rlaw24of5.2.1 (⟨rlaw24of5.2.2.1, rlaw24of5.2.2.2.1⟩ : Plc) rlaw24of5.2.2.2.2.1 rlaw24of5.2.2.2.2.2.1 rlaw24of5.2.2.2.2.2.2 q38 rs39 k40 q45 rs46 k47 hr41 (by first | omega | (simp only [List.length_take, List.length_drop, List.length_append, List.length_cons, List.length_nil, List.length_set, List.length_map]; omega) | decide) (by first | omega | (simp only [List.length_take, List.length_drop, List.length_append, List.length_cons, List.length_nil, List.length_set, List.length_map]; omega) | decide) hr48 (by first | omega | (simp only [List.length_take, List.length_drop, List.length_append, List.length_cons, List.length_nil, List.length_set, List.length_map]; omega) | decide) (by first | omega | (simp only [List.length_take, List.length_drop, List.length_append, List.length_cons, List.length_nil, List.length_set, List.length_map]; omega) | decide) (by first | omega | (simp only [List.length_nil]; omega)) (by first | omega | (simp only [List.length_nil]; omega)) rdamageSpans1 hrdamageSpans1) rfl rfl rfl rfl rfl (Foll.pick [2, 3, 0, 1, 16, 17] rfl) (List.Perm.refl _) (fun ⟨r52, hk53⟩ => (bx b37 [iv rdamageOver.1, .slice (va r32.q) rdamageOver.2.1.length r32.k, iv rdamageOver.2.2.1, iv rdamageOver.2.2.2.1, bv rdamageOver.2.2.2.2.1, iv rdamageOver.2.2.2.2.2.1, sv rdamageOver.2.2.2.2.2.2.1] 55 :: (vo cSp3 63 r52 rdamageSpans1.1) ++ ([]))) (fun ⟨r52, hk53⟩ => permC [vo cSp3 63 r52 rdamageSpans1.1, [bx b37 [iv rdamageOver.1, .slice (va r32.q) rdamageOver.2.1.length r32.k, iv rdamageOver.2.2.1, iv rdamageOver.2.2.2.1, bv rdamageOver.2.2.2.2.1, iv rdamageOver.2.2.2.2.2.1, sv rdamageOver.2.2.2.2.2.2.1] 55]] [1, 0] 2 rfl (by decide) (by first | rfl | simp only [List.flatten_cons, List.flatten_nil, List.append_nil, List.cons_append, List.nil_append, List.append_assoc]) [[bx b37 [iv rdamageOver.1, .slice (va r32.q) rdamageOver.2.1.length r32.k, iv rdamageOver.2.2.1, iv rdamageOver.2.2.2.1, bv rdamageOver.2.2.2.2.1, iv rdamageOver.2.2.2.2.2.1, sv rdamageOver.2.2.2.2.2.2.1] 55], vo cSp3 63 r52 rdamageSpans1.1] rfl (by first | rfl | simp only [List.flatten_cons, List.flatten_nil, List.append_nil, List.cons_append, List.nil_append, List.append_assoc]))) fun ⟨r52, hk53⟩ => ?_
  have := VOk.le hk53
  have := VOk.cap hk53
  have := damage_Spans_len rlaw24of4.1 rlaw24of4.2.1 (⟨rlaw24of4.2.2.1, rlaw24of4.2.2.2.1⟩ : Plc) rlaw24of4.2.2.2.2.1 rlaw24of4.2.2.2.2.2.1 rlaw24of4.2.2.2.2.2.2 rlaw24of5.1 rlaw24of5.2.1 (⟨rlaw24of5.2.2.1, rlaw24of5.2.2.2.1⟩ : Plc) rlaw24of5.2.2.2.2.1 rlaw24of5.2.2.2.2.2.1 rlaw24of5.2.2.2.2.2.2; try rw [hrdamageSpans1] at this
  refine JI_seal [bx b37 [iv rdamageOver.1, .slice (va r32.q) rdamageOver.2.1.length r32.k, iv rdamageOver.2.2.1, iv rdamageOver.2.2.2.1, bv rdamageOver.2.2.2.2.1, iv rdamageOver.2.2.2.2.2.1, sv rdamageOver.2.2.2.2.2.2.1] 55] [] (T := 63) (c := cSp3) (r := r52) (xs := rdamageSpans1.1) hk53 (by first | rfl | simp only [List.cons_append, List.append_assoc, List.nil_append, List.append_nil]) ?_
  refine ip 5 0 [(7, iv rdamageSpans1.2)] (by kernel_rfl) ?_
  refine ie ?_
  refine sh 38 [(38, [bx b37 [iv rdamageOver.1, .slice (va r32.q) rdamageOver.2.1.length r32.k, iv rdamageOver.2.2.1, iv rdamageOver.2.2.2.1, bv rdamageOver.2.2.2.2.1, iv rdamageOver.2.2.2.2.2.1, sv rdamageOver.2.2.2.2.2.2.1] 55])] [sl cSp3 (va r52.q) rdamageSpans1.1, sl cSlc q45 rs46, rowsF cCel rs46 rlaw24of5.2.1, sl cSlc q38 rs39, rowsF cCel rs39 rlaw24of4.2.1, sl cSlc (va r32.q) rs33, rowsF cCel rs33 rdamageOver.2.1, sl cSlc q25 rs26, rowsF cCel rs26 rlaw24of3.2.1, sl cSlc q18 rs19, rowsF cCel rs19 rlaw24of2.2.1, sl cSp3 (some ⟨b17, 0, none⟩) ([{ Sp3.zero with row := 0, frm := 1, to := 2 }, { Sp3.zero with row := 0, frm := 4, to := 6 }] : List Sp3), sl cSp3 (va r15.q) rdamageSpans.1, sl cSlc q8 rs9, rowsF cCel rs9 rlaw24of1.2.1, sl cSlc q1 rs2, rowsF cCel rs2 rlaw24of.2.1, sl cSpn (some ⟨0, 0, none⟩) tab0, sl cSpn (some ⟨1, 0, none⟩) tab1] [bx b37 [iv rdamageOver.1, .slice (va r32.q) rdamageOver.2.1.length r32.k, iv rdamageOver.2.2.1, iv rdamageOver.2.2.2.1, bv rdamageOver.2.2.2.2.1, iv rdamageOver.2.2.2.2.2.1, sv rdamageOver.2.2.2.2.2.2.1] 55] #[false, false, false, false, false, false, false, false, false, false, false, false, false, false, false, false, false, false, false, false, false, false, false, false, false, false, false, false, false, false, false, false, false, false, false, false, false, false] (by kernel_rfl) rfl (by kernel_rfl) (by kernel_rfl) (by kernel_rfl) (mk [true] rfl) Foll.refl ?_
  refine hpur [0, 1, 2] 35 #[true, true, true, false, false, false, false, false, false, false, false, false, false, false, false, false, false, false, false, false, false, false, false, false, false, false, false, false, false, false, false, false, false, false, false, false, false, false] [(32, bv (decide (rdamageSpans.2 = 0)))] (by kernel_rfl) ?_
  refine JH_cases 32 _ rfl (fun g54 => ?_) (fun g54 => ?_)
  · have g54p : rdamageSpans.2 = 0 := by simpa using g54
    replace hR := bt hR g54
    refine hpur [3, 4] 33 #[true, true, true, true, true, false, false, false, false, false, false, false, false, false, false, false, false, false, false, false, false, false, false, false, false, false, false, false, false, false, false, false, false, false, false, false, false, false] [(33, .slice (va r15.q) rdamageSpans.1.length r15.k), (34, .slice (some ⟨b17, 0, none⟩) 2 2)] (by kernel_rfl) ?_
    refine hone 5 [bx b37 [iv rdamageOver.1, .slice (va r32.q) rdamageOver.2.1.length r32.k, iv rdamageOver.2.2.1, iv rdamageOver.2.2.2.1, bv rdamageOver.2.2.2.2.1, iv rdamageOver.2.2.2.2.2.1, sv rdamageOver.2.2.2.2.2.2.1] 55] #[true, true, true, true, true, true, false, false, false, false, false, false, false, false, false, false, false, false, false, false, false, false, false, false, false, false, false, false, false, false, false, false, false, false, false, false, false, false] rfl rfl rfl (by kernel_rfl) (by kernel_rfl) (by kernel_rfl) (Det.tri (det_call (slices_Equal_api_Span_api_Span_c rdamageSpans.1 ([{ Sp3.zero with row := 0, frm := 1, to := 2 }, { Sp3.zero with row := 0, frm := 4, to := 6 }] : List Sp3) (va r15.q) r15.k (some ⟨b17, 0, none⟩) 2 (by first | omega | (simp only [List.length_take, List.length_drop, List.length_append, List.length_cons, List.length_nil, List.length_set, List.length_map]; omega) | decide) (by first | omega | (simp only [List.length_take, List.length_drop, List.length_append, List.length_cons, List.length_nil, List.length_set, List.length_map]; omega) | decide) (by first | omega | (simp only [List.length_take, List.length_drop, List.length_append, List.length_cons, List.length_nil, List.length_set, List.length_map]; omega) | decide) (by first | omega | (simp only [List.length_take, List.length_drop, List.length_append, List.length_cons, List.length_nil, List.length_set, List.length_map]; omega) | decide) _ rfl) rfl rfl rfl rfl rfl (Foll.pick [12, 11] rfl))) (fun _ => (mk [true] rfl)) (fun _ => Foll.refl) fun _ => ?_
    refine hpur [6, 7] 30 #[true, true, true, true, true, true, true, true, false, false, false, false, false, false, false, false, false, false, false, false, false, false, false, false, false, false, false, false, false, false, false, false, false, false, false, false, false, false] [(37, bv (slices_Equal_api_Span_api_Span rdamageSpans.1 ([{ Sp3.zero with row := 0, frm := 1, to := 2 }, { Sp3.zero with row := 0, frm := 4, to := 6 }] : List Sp3)))] (by kernel_rfl) ?_
    refine JH_cases 37 _ rfl (fun g55 => ?_) (fun g55 => ?_)
    · replace hR := bt hR g55
      refine hpur [8, 9, 10, 11] 26 #[true, true, true, true, true, true, true, true, true, true, true, true, false, false, false, false, false, false, false, false, false, false, false, false, false, false, false, false, false, false, false, false, false, false, false, false, false, false] [(41, bv (decide (rdamageOver.2.2.2.2.2.2.2 = 0)))] (by kernel_rfl) ?_
      refine JH_cases 41 _ rfl (fun g56 => ?_) (fun g56 => ?_)
      · have g56p : rdamageOver.2.2.2.2.2.2.2 = 0 := by simpa using g56
        replace hR := bt hR g56
        refine htak 12 [bx b37 [iv rdamageOver.1, .slice (va r32.q) rdamageOver.2.1.length r32.k, iv rdamageOver.2.2.1, iv rdamageOver.2.2.2.1, bv rdamageOver.2.2.2.2.1, iv rdamageOver.2.2.2.2.2.1, sv rdamageOver.2.2.2.2.2.2.1] 55] #[true, true, true, true, true, true, true, true, true, true, true, true, true, false, false, false, false, false, false, false, false, false, false, false, false, false, false, false, false, false, false, false, false, false, false, false, false, false] rfl rfl rfl (by kernel_rfl) (by kernel_rfl) (by kernel_rfl) (det_own_agg (us := [iv rdamageOver.1, .slice (va r32.q) rdamageOver.2.1.length r32.k, iv rdamageOver.2.2.1, iv rdamageOver.2.2.2.1, bv rdamageOver.2.2.2.2.1, iv rdamageOver.2.2.2.2.2.1, sv rdamageOver.2.2.2.2.2.2.1]) ty55 rfl rfl 0 rfl rfl rfl) ?_
        have hQ := bindVx hR; clear hR; obtain ⟨rlaw24of6, hrlaw24of6, hR⟩ := hQ
        refine hone 13 [bx b37 [iv rdamageOver.1, .slice (va r32.q) rdamageOver.2.1.length r32.k, iv rdamageOver.2.2.1, iv rdamageOver.2.2.2.1, bv rdamageOver.2.2.2.2.1, iv rdamageOver.2.2.2.2.2.1, sv rdamageOver.2.2.2.2.2.2.1] 55] #[true, true, true, true, true, true, true, true, true, true, true, true, true, true, false, false, false, false, false, false, false, false, false, false, false, false, false, false, false, false, false, false, false, false, false, false, false, false] rfl rfl rfl (by kernel_rfl) (by kernel_rfl) (by kernel_rfl) (tri_callN (L2 := [bx b37 [iv rdamageOver.1, .slice (va r32.q) rdamageOver.2.1.length r32.k, iv rdamageOver.2.2.1, iv rdamageOver.2.2.2.1, bv rdamageOver.2.2.2.2.1, iv rdamageOver.2.2.2.2.2.1, sv rdamageOver.2.2.2.2.2.2.1] 55]) (law24_of_c ([97, 120, 99, 100, 121, 121] : List UInt8) (by first | omega | decide) rlaw24of6 hrlaw24of6) rfl rfl rfl rfl rfl Foll.nil (List.Perm.refl _) (fun ⟨⟨q57, rs58, k59⟩, hp62⟩ => [bx b37 [iv rdamageOver.1, .slice (va r32.q) rdamageOver.2.1.length r32.k, iv rdamageOver.2.2.1, iv rdamageOver.2.2.2.1, bv rdamageOver.2.2.2.2.1, iv rdamageOver.2.2.2.2.2.1, sv rdamageOver.2.2.2.2.2.2.1] 55]) (fun _ => rfl)) (fun ⟨⟨q57, rs58, k59⟩, hp62⟩ => (mk [true] rfl)) (fun ⟨⟨q57, rs58, k59⟩, hp62⟩ => (Foll.pick [2, 3, 4, 5, 6, 7, 8, 9, 10, 11, 12, 13, 14, 15, 16, 17, 18, 19, 20] rfl)) fun ⟨⟨q57, rs58, k59⟩, hp62⟩ => ?_
        obtain ⟨hr60, hc61, hl63⟩ := hp62
        have := hr60.1
        have := law24_of_title ([97, 120, 99, 100, 121, 121] : List UInt8); try rw [hrlaw24of6] at this
        refine hone 14 [bx b37 [iv rdamageOver.1, .slice (va r32.q) rdamageOver.2.1.length r32.k, iv rdamageOver.2.2.1, iv rdamageOver.2.2.2.1, bv rdamageOver.2.2.2.2.1, iv rdamageOver.2.2.2.2.2.1, sv rdamageOver.2.2.2.2.2.2.1] 55] #[true, true, true, true, true, true, true, true, true, true, true, true, true, true, true, false, false, false, false, false, false, false, false, false, false, false, false, false, false, false, false, false, false, false, false, false, false, false] rfl rfl rfl (by kernel_rfl) (by kernel_rfl) (by kernel_rfl) (Det.tri (det_call (ref23_Same_c rdamageOver.1 rdamageOver.2.1 (⟨rdamageOver.2.2.1, rdamageOver.2.2.2.1⟩ : Plc) rdamageOver.2.2.2.2.1 rdamageOver.2.2.2.2.2.1 rdamageOver.2.2.2.2.2.2.1 rlaw24of6.1 rlaw24of6.2.1 (⟨rlaw24of6.2.2.1, rlaw24of6.2.2.2.1⟩ : Plc) rlaw24of6.2.2.2.2.1 rlaw24of6.2.2.2.2.2.1 rlaw24of6.2.2.2.2.2.2 (va r32.q) rs33 r32.k q57 rs58 k59 hw35 (by first | omega | (simp only [List.length_take, List.length_drop, List.length_append, List.length_cons, List.length_nil, List.length_set, List.length_map]; omega) | decide) (by first | omega | (simp only [List.length_take, List.length_drop, List.length_append, List.length_cons, List.length_nil, List.length_set, List.length_map]; omega) | decide) hr60 (by first | omega | (simp only [List.length_take, List.length_drop, List.length_append, List.length_cons, List.length_nil, List.length_set, List.length_map]; omega) | decide) (by first | omega | (simp only [List.length_take, List.length_drop, List.length_append, List.length_cons, List.length_nil, List.length_set, List.length_map]; omega) | decide) _ rfl) rfl rfl rfl rfl rfl (Foll.pick [7, 8, 0, 1] rfl))) (fun _ => (mk [true] rfl)) (fun _ => (Foll.pick [2, 3, 4, 5, 6, 7, 8, 9, 10, 11, 12, 13, 14, 15, 16, 17, 18, 19, 20] rfl)) fun _ => ?_
        refine hpur [15, 16] 21 #[true, true, true, true, true, true, true, true, true, true, true, true, true, true, true, true, true, false, false, false, false, false, false, false, false, false, false, false, false, false, false, false, false, false, false, false, false, false] [(46, bv (ref23_Same rdamageOver.1 rdamageOver.2.1 (⟨rdamageOver.2.2.1, rdamageOver.2.2.2.1⟩ : Plc) rdamageOver.2.2.2.2.1 rdamageOver.2.2.2.2.2.1 rdamageOver.2.2.2.2.2.2.1 rlaw24of6.1 rlaw24of6.2.1 (⟨rlaw24of6.2.2.1, rlaw24of6.2.2.2.1⟩ : Plc) rlaw24of6.2.2.2.2.1 rlaw24of6.2.2.2.2.2.1 rlaw24of6.2.2.2.2.2.2))] (by kernel_rfl) ?_
        refine JH_cases 46 _ rfl (fun g64 => ?_) (fun g64 => ?_)
        · replace hR := bt hR g64
          refine hpur [17, 18, 19, 20] 17 #[true, true, true, true, true, true, true, true, true, true, true, true, true, true, true, true, true, true, true, true, true, false, false, false, false, false, false, false, false, false, false, false, false, false, false, false, false, false] [(50, bv (decide (rdamageSpans1.2 = 2)))] (by kernel_rfl) ?_
          refine JH_cases 50 _ rfl (fun g65 => ?_) (fun g65 => ?_)
          · have g65p : rdamageSpans1.2 = 2 := by simpa using g65
            replace hR := bt hR g65
            refine hpur [21] 16 #[true, true, true, true, true, true, true, true, true, true, true, true, true, true, true, true, true, true, true, true, true, true, false, false, false, false, false, false, false, false, false, false, false, false, false, false, false, false] [(51, .slice (va r15.q) rdamageSpans.1.length r15.k)] (by kernel_rfl) ?_
            have hQ := bindVx hR; clear hR; obtain ⟨rdamageJoin, hrdamageJoin, hR⟩ := hQ
            refine hone 22 [bx b37 [iv rdamageOver.1, .slice (va r32.q) rdamageOver.2.1.length r32.k, iv rdamageOver.2.2.1, iv rdamageOver.2.2.2.1, bv rdamageOver.2.2.2.2.1, iv rdamageOver.2.2.2.2.2.1, sv rdamageOver.2.2.2.2.2.2.1] 55] #[true, true, true, true, true, true, true, true, true, true, true, true, true, true, true, true, true, true, true, true, true, true, true, false, false, false, false, false, false, false, false, false, false, false, false, false, false, false] rfl rfl rfl (by kernel_rfl) (by kernel_rfl) (by kernel_rfl) (tri_callP (L2 := [bx b37 [iv rdamageOver.1, .slice (va r32.q) rdamageOver.2.1.length r32.k, iv rdamageOver.2.2.1, iv rdamageOver.2.2.2.1, bv rdamageOver.2.2.2.2.1, iv rdamageOver.2.2.2.2.2.1, sv rdamageOver.2.2.2.2.2.2.1] 55]) (damage_Join_c rdamageSpans.1 2 (va r15.q) r15.k (by first | omega | (simp only [List.length_take, List.length_drop, List.length_append, List.length_cons, List.length_nil, List.length_set, List.length_map]; omega) | decide) (by first | omega | (simp only [List.length_take, List.length_drop, List.length_append, List.length_cons, List.length_nil, List.length_set, List.length_map]; omega) | decide) (by first | omega | (simp only [List.length_append, List.length_cons, List.length_nil, List.length_take, List.length_drop, List.length_set]; omega)) rdamageJoin hrdamageJoin) rfl rfl rfl rfl rfl (Foll.pick [14] rfl) (List.Perm.refl _) (fun ⟨r66, hk67⟩ => (bx b37 [iv rdamageOver.1, .slice (va r32.q) rdamageOver.2.1.length r32.k, iv rdamageOver.2.2.1, iv rdamageOver.2.2.2.1, bv rdamageOver.2.2.2.2.1, iv rdamageOver.2.2.2.2.2.1, sv rdamageOver.2.2.2.2.2.2.1] 55 :: (vo cSp3 63 r66 rdamageJoin) ++ ([]))) (fun ⟨r66, hk67⟩ => permC [vo cSp3 63 r66 rdamageJoin, [bx b37 [iv rdamageOver.1, .slice (va r32.q) rdamageOver.2.1.length r32.k, iv rdamageOver.2.2.1, iv rdamageOver.2.2.2.1, bv rdamageOver.2.2.2.2.1, iv rdamageOver.2.2.2.2.2.1, sv rdamageOver.2.2.2.2.2.2.1] 55]] [1, 0] 2 rfl (by decide) (by first | rfl | simp only [List.flatten_cons, List.flatten_nil, List.append_nil, List.cons_append, List.nil_append, List.append_assoc]) [[bx b37 [iv rdamageOver.1, .slice (va r32.q) rdamageOver.2.1.length r32.k, iv rdamageOver.2.2.1, iv rdamageOver.2.2.2.1, bv rdamageOver.2.2.2.2.1, iv rdamageOver.2.2.2.2.2.1, sv rdamageOver.2.2.2.2.2.2.1] 55], vo cSp3 63 r66 rdamageJoin] rfl (by first | rfl | simp only [List.flatten_cons, List.flatten_nil, List.append_nil, List.cons_append, List.nil_append, List.append_assoc]))) (fun ⟨r66, hk67⟩ => (mc [[bx b37 [iv rdamageOver.1, .slice (va r32.q) rdamageOver.2.1.length r32.k, iv rdamageOver.2.2.1, iv rdamageOver.2.2.2.1, bv rdamageOver.2.2.2.2.1, iv rdamageOver.2.2.2.2.2.1, sv rdamageOver.2.2.2.2.2.2.1] 55], vo cSp3 63 r66 rdamageJoin] [true, false] rfl (by first | rfl | (simp only [List.length_set] <;> rfl)))) (fun ⟨r66, hk67⟩ => (Foll.pick [2, 3, 4, 5, 6, 7, 8, 9, 10, 11, 12, 13, 14, 15, 16, 17, 18, 19, 20] rfl)) fun ⟨r66, hk67⟩ => ?_
            have := VOk.le hk67
            have := VOk.cap hk67
            refine hpur [23, 24, 25, 26] 11 #[true, true, true, true, true, true, true, true, true, true, true, true, true, true, true, true, true, true, true, true, true, true, true, true, true, true, true, false, false, false, false, false, false, false, false, false, false, false] [(56, bv (decide ((rdamageJoin.length : Int) = 1)))] (by kernel_rfl) ?_
            refine JH_cases 56 _ rfl (fun g68 => ?_) (fun g68 => ?_)
            · have g68p : (rdamageJoin.length : Int) = 1 := by simpa using g68
              replace hR := bt hR g68
              refine hpur [27] 10 #[true, true, true, true, true, true, true, true, true, true, true, true, true, true, true, true, true, true, true, true, true, true, true, true, true, true, true, true, false, false, false, false, false, false, false, false, false, false] [(57, .slice (va r15.q) rdamageSpans.1.length r15.k)] (by kernel_rfl) ?_
              have hQ := bindVx hR; clear hR; obtain ⟨rdamageJoin1, hrdamageJoin1, hR⟩ := hQ
              refine hone 28 [bx b37 [iv rdamageOver.1, .slice (va r32.q) rdamageOver.2.1.length r32.k, iv rdamageOver.2.2.1, iv rdamageOver.2.2.2.1, bv rdamageOver.2.2.2.2.1, iv rdamageOver.2.2.2.2.2.1, sv rdamageOver.2.2.2.2.2.2.1] 55] #[true, true, true, true, true, true, true, true, true, true, true, true, true, true, true, true, true, true, true, true, true, true, true, true, true, true, true, true, true, false, false, false, false, false, false, false, false, false] rfl rfl rfl (by kernel_rfl) (by kernel_rfl) (by kernel_rfl) (tri_callP (L2 := (bx b37 [iv rdamageOver.1, .slice (va r32.q) rdamageOver.2.1.length r32.k, iv rdamageOver.2.2.1, iv rdamageOver.2.2.2.1, bv rdamageOver.2.2.2.2.1, iv rdamageOver.2.2.2.2.2.1, sv rdamageOver.2.2.2.2.2.2.1] 55 :: (vo cSp3 63 r66 rdamageJoin) ++ ([]))) (damage_Join_c rdamageSpans.1 1 (va r15.q) r15.k (by first | omega | (simp only [List.length_take, List.length_drop, List.length_append, List.length_cons, List.length_nil, List.length_set, List.length_map]; omega) | decide) (by first | omega | (simp only [List.length_take, List.length_drop, List.length_append, List.length_cons, List.length_nil, List.length_set, List.length_map]; omega) | decide) (by first | omega | (simp only [List.length_append, List.length_cons, List.length_nil, List.length_take, List.length_drop, List.length_set]; omega)) rdamageJoin1 hrdamageJoin1) rfl rfl rfl rfl rfl (Foll.pick [14] rfl) (List.Perm.refl _) (fun ⟨r69, hk70⟩ => (bx b37 [iv rdamageOver.1, .slice (va r32.q) rdamageOver.2.1.length r32.k, iv rdamageOver.2.2.1, iv rdamageOver.2.2.2.1, bv rdamageOver.2.2.2.2.1, iv rdamageOver.2.2.2.2.2.1, sv rdamageOver.2.2.2.2.2.2.1] 55 :: (vo cSp3 63 r69 rdamageJoin1) ++ ((vo cSp3 63 r66 rdamageJoin) ++ ([])))) (fun ⟨r69, hk70⟩ => permC [vo cSp3 63 r69 rdamageJoin1, [bx b37 [iv rdamageOver.1, .slice (va r32.q) rdamageOver.2.1.length r32.k, iv rdamageOver.2.2.1, iv rdamageOver.2.2.2.1, bv rdamageOver.2.2.2.2.1, iv rdamageOver.2.2.2.2.2.1, sv rdamageOver.2.2.2.2.2.2.1] 55], vo cSp3 63 r66 rdamageJoin] [1, 0, 2] 3 rfl (by decide) (by first | rfl | simp only [List.flatten_cons, List.flatten_nil, List.append_nil, List.cons_append, List.nil_append, List.append_assoc]) [[bx b37 [iv rdamageOver.1, .slice (va r32.q) rdamageOver.2.1.length r32.k, iv rdamageOver.2.2.1, iv rdamageOver.2.2.2.1, bv rdamageOver.2.2.2.2.1, iv rdamageOver.2.2.2.2.2.1, sv rdamageOver.2.2.2.2.2.2.1] 55], vo cSp3 63 r69 rdamageJoin1, vo cSp3 63 r66 rdamageJoin] rfl (by first | rfl | simp only [List.flatten_cons, List.flatten_nil, List.append_nil, List.cons_append, List.nil_append, List.append_assoc]))) (fun ⟨r69, hk70⟩ => (mc [[bx b37 [iv rdamageOver.1, .slice (va r32.q) rdamageOver.2.1.length r32.k, iv rdamageOver.2.2.1, iv rdamageOver.2.2.2.1, bv rdamageOver.2.2.2.2.1, iv rdamageOver.2.2.2.2.2.1, sv rdamageOver.2.2.2.2.2.2.1] 55], vo cSp3 63 r69 rdamageJoin1, vo cSp3 63 r66 rdamageJoin] [true, false, false] rfl (by first | rfl | (simp only [List.length_set] <;> rfl)))) (fun ⟨r69, hk70⟩ => (Foll.pick [2, 3, 4, 5, 6, 7, 8, 9, 10, 11, 12, 13, 14, 15, 16, 17, 18, 19, 20] rfl)) fun ⟨r69, hk70⟩ => ?_
              have := VOk.le hk70
              have := VOk.cap hk70
              refine hpur [29, 30, 31, 32] 5 #[true, true, true, true, true, true, true, true, true, true, true, true, true, true, true, true, true, true, true, true, true, true, true, true, true, true, true, true, true, true, true, true, true, false, false, false, false, false] [(62, bv (decide ((rdamageJoin1.length : Int) = 2)))] (by kernel_rfl) ?_
              refine JH_cases 62 _ rfl (fun g71 => ?_) (fun g71 => ?_)
              · have g71p : (rdamageJoin1.length : Int) = 2 := by simpa using g71
                replace hR := bt hR g71
                refine hpur [33] 4 #[true, true, true, true, true, true, true, true, true, true, true, true, true, true, true, true, true, true, true, true, true, true, true, true, true, true, true, true, true, true, true, true, true, true, false, false, false, false] [(63, .slice (va r15.q) rdamageSpans.1.length r15.k)] (by kernel_rfl) ?_
                refine hone 34 [bx b37 [iv rdamageOver.1, .slice (va r32.q) rdamageOver.2.1.length r32.k, iv rdamageOver.2.2.1, iv rdamageOver.2.2.2.1, bv rdamageOver.2.2.2.2.1, iv rdamageOver.2.2.2.2.2.1, sv rdamageOver.2.2.2.2.2.2.1] 55] #[true, true, true, true, true, true, true, true, true, true, true, true, true, true, true, true, true, true, true, true, true, true, true, true, true, true, true, true, true, true, true, true, true, true, true, false, false, false] rfl rfl rfl (by kernel_rfl) (by kernel_rfl) (by kernel_rfl) (Det.tri (det_call (damage_Count_c rdamageSpans.1 (va r15.q) r15.k (by first | omega | (simp only [List.length_take, List.length_drop, List.length_append, List.length_cons, List.length_nil, List.length_set, List.length_map]; omega) | decide) (by first | omega | (simp only [List.length_take, List.length_drop, List.length_append, List.length_cons, List.length_nil, List.length_set, List.length_map]; omega) | decide) _ rfl) rfl rfl rfl rfl rfl (Foll.pick [14] rfl))) (fun _ => (mc [[bx b37 [iv rdamageOver.1, .slice (va r32.q) rdamageOver.2.1.length r32.k, iv rdamageOver.2.2.1, iv rdamageOver.2.2.2.1, bv rdamageOver.2.2.2.2.1, iv rdamageOver.2.2.2.2.2.1, sv rdamageOver.2.2.2.2.2.2.1] 55], vo cSp3 63 r69 rdamageJoin1, vo cSp3 63 r66 rdamageJoin] [true, false, false] rfl (by first | rfl | (simp only [List.length_set] <;> rfl)))) (fun _ => (Foll.pick [2, 3, 4, 5, 6, 7, 8, 9, 10, 11, 12, 13, 14, 15, 16, 17, 18, 19, 20] rfl)) fun _ => ?_
                refine hpur [35, 36, 37] 0 #[true, true, true, true, true, true, true, true, true, true, true, true, true, true, true, true, true, true, true, true, true, true, true, true, true, true, true, true, true, true, true, true, true, true, true, true, true, true] [(0, bv (decide ((damage_Count rdamageSpans.1) = 3)))] (by kernel_rfl) ?_
                refine hend (by kernel_rfl) ?_
                refine J_ret ?_
                subst hR
                exact ends_ret rfl ⟨hr, hD⟩ (by simp [hD]) (res1 rfl (resV_tmp rfl)) () (by rfl) (List.nil_sublist _) Foll.nil
              · have g71p : ¬ ((rdamageJoin1.length : Int) = 2) := by simpa using g71
                replace hR := bf hR g71
                refine hpur [33, 34, 35, 36, 37] 0 #[true, true, true, true, true, true, true, true, true, true, true, true, true, true, true, true, true, true, true, true, true, true, true, true, true, true, true, true, true, true, true, true, true, true, true, true, true, true] [(0, bv false)] (by kernel_rfl) ?_
                refine hend (by kernel_rfl) ?_
                refine J_ret ?_
                subst hR
                exact ends_ret rfl ⟨hr, hD⟩ (by simp [hD]) (res1 rfl (resV_tmp rfl)) () (by rfl) (List.nil_sublist _) Foll.nil
            · have g68p : ¬ ((rdamageJoin.length : Int) = 1) := by simpa using g68
              replace hR := bf hR g68
              refine hpur [27, 28, 29, 30, 31, 32, 33, 34, 35, 36, 37] 0 #[true, true, true, true, true, true, true, true, true, true, true, true, true, true, true, true, true, true, true, true, true, true, true, true, true, true, true, true, true, true, true, true, true, true, true, true, true, true] [(0, bv false)] (by kernel_rfl) ?_
              refine hend (by kernel_rfl) ?_
              refine J_ret ?_
              subst hR
              exact ends_ret rfl ⟨hr, hD⟩ (by simp [hD]) (res1 rfl (resV_tmp rfl)) () (by rfl) (List.nil_sublist _) Foll.nil
          · have g65p : ¬ (rdamageSpans1.2 = 2) := by simpa using g65
            replace hR := bf hR g65
            refine hpur [21, 22, 23, 24, 25, 26, 27, 28, 29, 30, 31, 32, 33, 34, 35, 36, 37] 0 #[true, true, true, true, true, true, true, true, true, true, true, true, true, true, true, true, true, true, true, true, true, true, true, true, true, true, true, true, true, true, true, true, true, true, true, true, true, true] [(0, bv false)] (by kernel_rfl) ?_
            refine hend (by kernel_rfl) ?_
            refine J_ret ?_
            subst hR
            exact ends_ret rfl ⟨hr, hD⟩ (by simp [hD]) (res1 rfl (resV_tmp rfl)) () (by rfl) (mk [false] rfl) Foll.nil
        · replace hR := bf hR g64
          refine hpur [17, 18, 19, 20, 21, 22, 23, 24, 25, 26, 27, 28, 29, 30, 31, 32, 33, 34, 35, 36, 37] 0 #[true, true, true, true, true, true, true, true, true, true, true, true, true, true, true, true, true, true, true, true, true, true, true, true, true, true, true, true, true, true, true, true, true, true, true, true, true, true] [(0, bv false)] (by kernel_rfl) ?_
          refine hend (by kernel_rfl) ?_
          refine J_ret ?_
          subst hR
          exact ends_ret rfl ⟨hr, hD⟩ (by simp [hD]) (res1 rfl (resV_tmp rfl)) () (by rfl) (mk [false] rfl) Foll.nil
      · have g56p : ¬ (rdamageOver.2.2.2.2.2.2.2 = 0) := by simpa using g56
        replace hR := bf hR g56
        refine hpur [12, 13, 14, 15, 16, 17, 18, 19, 20, 21, 22, 23, 24, 25, 26, 27, 28, 29, 30, 31, 32, 33, 34, 35, 36, 37] 0 #[true, true, true, true, true, true, true, true, true, true, true, true, true, true, true, true, true, true, true, true, true, true, true, true, true, true, true, true, true, true, true, true, true, true, true, true, true, true] [(0, bv false)] (by kernel_rfl) ?_
        refine hend (by kernel_rfl) ?_
        refine J_ret ?_
        subst hR
        exact ends_ret rfl ⟨hr, hD⟩ (by simp [hD]) (res1 rfl (resV_tmp rfl)) () (by rfl) (mk [false] rfl) Foll.nil
    · replace hR := bf hR g55
      refine hpur [8, 9, 10, 11, 12, 13, 14, 15, 16, 17, 18, 19, 20, 21, 22, 23, 24, 25, 26, 27, 28, 29, 30, 31, 32, 33, 34, 35, 36, 37] 0 #[true, true, true, true, true, true, true, true, true, true, true, true, true, true, true, true, true, true, true, true, true, true, true, true, true, true, true, true, true, true, true, true, true, true, true, true, true, true] [(0, bv false)] (by kernel_rfl) ?_
      refine hend (by kernel_rfl) ?_
      refine J_ret ?_
      subst hR
      exact ends_ret rfl ⟨hr, hD⟩ (by simp [hD]) (res1 rfl (resV_tmp rfl)) () (by rfl) (mk [false] rfl) Foll.nil
  · have g54p : ¬ (rdamageSpans.2 = 0) := by simpa using g54
    replace hR := bf hR g54
    refine hpur [3, 4, 5, 6, 7, 8, 9, 10, 11, 12, 13, 14, 15, 16, 17, 18, 19, 20, 21, 22, 23, 24, 25, 26, 27, 28, 29, 30, 31, 32, 33, 34, 35, 36, 37] 0 #[true, true, true, true, true, true, true, true, true, true, true, true, true, true, true, true, true, true, true, true, true, true, true, true, true, true, true, true, true, true, true, true, true, true, true, true, true, true] [(0, bv false)] (by kernel_rfl) ?_
    refine hend (by kernel_rfl) ?_
    refine J_ret ?_
    subst hR
    exact ends_ret rfl ⟨hr, hD⟩ (by simp [hD]) (res1 rfl (resV_tmp rfl)) () (by rfl) (mk [false] rfl) Foll.nil

end Go.Proofs.YtlcaphkcfmlljaaGreatDoor

