import Derived.Test.YtlcaphkcfmlljaaGreatDoorD2
import Derived.Test.YtlcaphkcfmlljaaGreatDoorFenV
import Derived.Test.YtlcaphkcfmlljaaGreatDoorProg
import Derived.Test.YtlcaphkcfmlljaaGreatDoorT4a
import Derived.Test.YtlcaphkcfmlljaaGreatDoorT4b
import Derived.Test.YtlcaphkcfmlljaaGreatDoorT4c
import Derived.Test.YtlcaphkcfmlljaaGreatDoorT5
set_option linter.unusedVariables false
set_option linter.unusedSimpArgs false
set_option linter.unnecessarySimpa false
namespace Go.Proofs.YtlcaphkcfmlljaaGreatDoor
open Go Go.Fen

def ref24_near (a : Int) (b : Int) (gap : Int) : Bool :=
  (bif ((decide (a < 0)) && (decide ((0 : Int) ≤ b))) then ((decide (b ≤ gap)) && (decide ((-(a + 1)) ≤ ((gap - b) - 1)))) else (decide ((b - a) ≤ gap)))

set_option maxRecDepth 100000 in
theorem ref24_near_c (a : Int) (b : Int) (gap : Int) (ha : -9223372036854775808 ≤ a ∧ a ≤ b) (hb : b ≤ 9223372036854775807) (hg : -9223372036854775808 ≤ gap ∧ gap ≤ 9223372036854775807) (R : Bool) (hR : ref24_near a b gap = R) : ConV Tryz.prog 69 [iv a, iv b, iv gap] [] (bv R) := by
  refine con_of_J (n := 31) Tryz.func69 rfl (by kernel_rfl) rfl rfl [(0, iv a), (1, iv b), (2, iv gap)] ⟨rfl, rfl, rfl, trivial⟩ fun X hX hr hD => ?_
  replace hR := (ref24_near.eq_1 ..).symm.trans hR
  refine sr 1 rfl ?_
  refine ip 1 0 [] (by kernel_rfl) ?_
  refine ie ?_
  refine J_seq ?_
  refine sr 6 rfl ?_
  refine ip 3 3 [(9, bv (decide (a < 0)))] (by kernel_rfl) ?_
  refine iand 3 0 9 12 (decide ((0 : Int) ≤ b)) rfl (by kernel_rfl) (fun g1 => ?_) ?_
  · have g1p : a < 0 := by simpa using g1
    refine ip 3 0 [(12, bv (decide ((0 : Int) ≤ b)))] (by kernel_rfl) ?_
    exact JI_end (armI 2 9 12 g1 Foll.nil (mk [] rfl) rfl rfl rfl rfl rfl)
  refine ie ?_
  refine J_if rfl (fun h2 => ?_) (fun h2 => ?_)
  · have h2p : (a < 0) ∧ ((0 : Int) ≤ b) := by simpa using h2
    replace hR := bt hR h2
    refine sr 14 rfl ?_
    refine ip 4 10 [(16, bv (decide (b ≤ gap)))] (by kernel_rfl) ?_
    refine iand 9 1 16 25 (decide ((-(a + 1)) ≤ ((gap - b) - 1))) rfl (by kernel_rfl) (fun g3 => ?_) ?_
    · have g3p : b ≤ gap := by simpa using g3
      refine ip 1 8 [(17, iv a)] (by kernel_rfl) ?_
      refine ix rfl (det_add64 rfl rfl rfl rfl (by omega)) ?_
      refine ix rfl (det_neg64 rfl rfl rfl (by omega)) ?_
      refine ip 2 4 [(20, iv gap), (21, iv b)] (by kernel_rfl) ?_
      refine ix rfl (det_sub64 rfl rfl rfl rfl (by omega)) ?_
      refine ix rfl (det_sub64 rfl rfl rfl rfl (by omega)) ?_
      refine ip 2 0 [(25, bv (decide ((-(a + 1)) ≤ ((gap - b) - 1))))] (by kernel_rfl) ?_
      exact JI_end (armI 9 16 25 g3 Foll.nil (mk [] rfl) rfl rfl rfl rfl rfl)
    refine ip 1 0 [(6, bv ((decide (b ≤ gap)) && (decide ((-(a + 1)) ≤ ((gap - b) - 1)))))] (by kernel_rfl) ?_
    refine ie ?_
    refine J_ret ?_
    subst hR
    exact ends_ret rfl ⟨hr, hD⟩ (by simp [hD]) (res1 rfl (resV_tmp rfl)) () (by rfl) (mk [] rfl) Foll.nil
  · have h2p : ¬ ((a < 0) ∧ ((0 : Int) ≤ b)) := by simpa using h2
    replace hR := bf hR h2
    refine J_skip ?_
    refine nx ?_
    refine sr 6 rfl ?_
    refine ip 2 4 [(26, iv b), (27, iv a)] (by kernel_rfl) ?_
    refine ix rfl (det_sub64 rfl rfl rfl rfl (by omega)) ?_
    refine ip 3 0 [(6, bv (decide ((b - a) ≤ gap)))] (by kernel_rfl) ?_
    refine ie ?_
    refine J_ret ?_
    subst hR
    exact ends_ret rfl ⟨hr, hD⟩ (by simp [hD]) (res1 rfl (resV_tmp rfl)) () (by rfl) (mk [] rfl) Foll.nil

def spOk (l : List Sp3) : Prop := ∀ x ∈ l, (-9223372036854775808 ≤ x.frm ∧ x.frm ≤ 9223372036854775807) ∧ -9223372036854775808 ≤ x.to ∧ x.to ≤ 9223372036854775807
theorem spOk.nil : spOk [] := fun x h => by cases h
theorem spOk.getD {l : List Sp3} (h : spOk l) (k : Nat) : (-9223372036854775808 ≤ (l.getD k Sp3.zero).frm ∧ (l.getD k Sp3.zero).frm ≤ 9223372036854775807) ∧ -9223372036854775808 ≤ (l.getD k Sp3.zero).to ∧ (l.getD k Sp3.zero).to ≤ 9223372036854775807 := by
  by_cases hk : k < l.length
  · rw [List.getD_eq_getElem?_getD, List.getElem?_eq_getElem hk]; exact h _ (List.getElem_mem hk)
  · rw [List.getD_eq_getElem?_getD, List.getElem?_eq_none (by omega)]; decide
theorem spOk.append {l : List Sp3} (h : spOk l) {x : Sp3} (hx : (-9223372036854775808 ≤ x.frm ∧ x.frm ≤ 9223372036854775807) ∧ -9223372036854775808 ≤ x.to ∧ x.to ≤ 9223372036854775807) : spOk (l ++ [x]) := fun y hy => by
  rcases List.mem_append.1 hy with hy | hy
  · exact h y hy
  · rw [List.mem_singleton.1 hy]; exact hx
theorem spOk.set {l : List Sp3} (h : spOk l) (k : Nat) {x : Sp3} (hx : (-9223372036854775808 ≤ x.frm ∧ x.frm ≤ 9223372036854775807) ∧ -9223372036854775808 ≤ x.to ∧ x.to ≤ 9223372036854775807) : spOk (l.set k x) := fun y hy => by
  rcases List.mem_or_eq_of_mem_set hy with hy | hy
  · exact h y hy
  · rw [hy]; exact hx
theorem spOk.take {l : List Sp3} (h : spOk l) (k : Nat) : spOk (l.take k) := fun y hy => h y (List.mem_of_mem_take hy)

def ref24_Join_l0 (gap : Int) : List Sp3 → List Sp3 → Nat → List Sp3
  | [], out, i => out
  | hd_l0 :: tl_l0, out, i => (bif ((decide ((0 : Int) < (out.length : Int))) && (decide ((0 : Int) ≤ gap))) then (bif (((((decide ((out.getD (out.length - 1) Sp3.zero).row = hd_l0.row)) && (decide ((out.getD (out.length - 1) Sp3.zero).frm < (out.getD (out.length - 1) Sp3.zero).to))) && (decide (hd_l0.frm < hd_l0.to))) && (decide ((out.getD (out.length - 1) Sp3.zero).to ≤ hd_l0.frm))) && (ref24_near ((out.getD (out.length - 1) Sp3.zero).to) (hd_l0.frm) gap)) then ref24_Join_l0 gap tl_l0 (out.set (out.length - 1) ({ (out.getD (out.length - 1) Sp3.zero) with to := hd_l0.to })) (i + 1) else ref24_Join_l0 gap tl_l0 (out ++ ([hd_l0] : List Sp3)) (i + 1)) else ref24_Join_l0 gap tl_l0 (out ++ ([hd_l0] : List Sp3)) (i + 1))
def ref24_Join (l : List Sp3) (gap : Int) : List Sp3 :=
  ref24_Join_l0 gap l ([] : List Sp3) 0

set_option maxRecDepth 100000 in
theorem ref24_Join_c (l : List Sp3) (gap : Int) (lq : Option Addr) (lk : Nat) (hll : l.length ≤ 9223372036854775807) (hcl : l.length ≤ lk) (hl : l.length ≤ 1000000) (hsl : spOk l) (hg : -9223372036854775808 ≤ gap ∧ gap ≤ 9223372036854775807) (R : List Sp3) (hR : ref24_Join l gap = R) : Con Tryz.prog 34 [.slice lq l.length lk, iv gap] [] [sl cSp3 lq l] ({r : VR // VOk 3 R.length r}) (fun x => .slice (va x.1.q) R.length x.1.k) (fun x => ((vo cSp3 63 x.1 R) ++ ([]))) (fun x => []) := by
  refine con_of_J (n := 82) Tryz.func34 rfl (by kernel_rfl) rfl rfl [(0, .slice lq l.length lk), (1, iv gap)] ⟨rfl, rfl, trivial⟩ fun X hX hr hD => ?_
  replace hR := (ref24_Join.eq_1 ..).symm.trans hR
  refine sr 1 rfl ?_
  refine ip 1 0 [] (by kernel_rfl) ?_
  refine ie ?_
  refine sr 1 rfl ?_
  refine ip 1 0 [(5, .slice none 0 0)] (by kernel_rfl) ?_
  refine ie ?_
  refine J_seq ?_
  refine sr 1 rfl ?_
  refine ip 1 0 [(6, iv 0)] (by kernel_rfl) ?_
  refine ie ?_
  refine J_block ?_
  refine JL3 (fun (out : List Sp3) (outr : VR) (i : Nat) => i ≤ l.length ∧ ref24_Join_l0 gap (l.drop i) out i = R ∧ VOk 3 out.length outr ∧ out.length ≤ i ∧ spOk out) (fun (out : List Sp3) (outr : VR) (i : Nat) => [(0, .slice lq l.length lk), (1, iv gap), (5, .slice (va outr.q) out.length outr.k), (6, iv (i : Int))]) (fun (out : List Sp3) (outr : VR) (i : Nat) => ((vo cSp3 63 outr out) ++ ([]))) (fun (out : List Sp3) (outr : VR) (i : Nat) => [sl cSp3 lq l]) (fun (out : List Sp3) (outr : VR) (i : Nat) => l.length - i) ([] : List Sp3) VR.nil 0 ⟨(by omega), hR, VOk.nil, (by simp), (by exact spOk.nil)⟩ ⟨rfl, rfl, (by first | rfl | (simp only [List.length_set, List.length_append, List.length_cons, List.length_nil]; rfl) | simp | (simp; omega)), (by first | rfl | (simp only [List.length_set, List.length_append, List.length_cons, List.length_nil]; rfl) | simp | (simp; omega)), trivial⟩ (mc [vo cSp3 63 VR.nil ([] : List Sp3)] [true] rfl (by first | rfl | (simp only [List.length_set] <;> rfl))) Foll.refl ?_
  rintro out outr i ⟨hm1, hR, hokoutr, ho, hs⟩
  have := VOk.le hokoutr
  refine J_seq ?_
  refine sr 4 rfl ?_
  refine ip 4 0 [(13, bv (decide ((i : Int) < (l.length : Int))))] (by kernel_rfl) ?_
  refine ie ?_
  refine J_if rfl (fun h2 => ?_) (fun h2 => ?_)
  · have h2p : (i : Int) < (l.length : Int) := by simpa using h2
    rw [dropc Sp3.zero (show i < l.length by omega)] at hR; replace hR := (ref24_Join_l0.eq_2 ..).symm.trans hR
    refine J_skip ?_
    refine nx ?_
    refine J_seq ?_
    refine J_block ?_
    refine sr 3 rfl ?_
    refine ip 3 0 [(7, iv (out.length : Int))] (by kernel_rfl) ?_
    refine ie ?_
    refine J_seq ?_
    refine sr 6 rfl ?_
    refine ip 3 3 [(20, bv (decide ((0 : Int) < (out.length : Int))))] (by kernel_rfl) ?_
    refine iand 3 0 20 23 (decide ((0 : Int) ≤ gap)) rfl (by kernel_rfl) (fun g3 => ?_) ?_
    · have g3p : (0 : Int) < (out.length : Int) := by simpa using g3
      refine ip 3 0 [(23, bv (decide ((0 : Int) ≤ gap)))] (by kernel_rfl) ?_
      exact JI_end (armI 2 20 23 g3 Foll.refl (mc [vo cSp3 63 outr out] [true] rfl (by first | rfl | (simp only [List.length_set] <;> rfl))) rfl rfl rfl rfl rfl)
    refine ie ?_
    refine J_if rfl (fun h4 => ?_) (fun h4 => ?_)
    · have h4p : ((0 : Int) < (out.length : Int)) ∧ ((0 : Int) ≤ gap) := by simpa using h4
      replace hR := bt hR h4
      refine sh 13 [(13, vo cSp3 63 outr out)] [sl cSp3 lq l] ((vo cSp3 63 outr out) ++ ([])) #[false, false, false, false, false, false, false, false, false, false, false, false, false] (by kernel_rfl) rfl (by kernel_rfl) (by kernel_rfl) (by kernel_rfl) (mc [vo cSp3 63 outr out] [true] rfl (by first | rfl | (simp only [List.length_set] <;> rfl))) Foll.refl ?_
      refine hpur [0, 1, 5, 6] 9 #[true, true, false, false, false, true, true, false, false, false, false, false, false] [(24, .slice (va outr.q) out.length outr.k), (25, iv (out.length : Int)), (29, .slice lq l.length lk), (30, iv (i : Int))] (by kernel_rfl) ?_
      refine htak 2 ((vo cSp3 63 outr out) ++ ([])) #[true, true, true, false, false, true, true, false, false, false, false, false, false] rfl rfl rfl (by kernel_rfl) (by kernel_rfl) (by kernel_rfl) (det_sub64 rfl rfl rfl rfl (by omega)) ?_
      obtain ⟨b5, hb6⟩ := VOk.some hokoutr (by omega)
      obtain ⟨q7, k8, j9⟩ := outr
      obtain rfl : q7 = some b5 := hb6
      refine htak 3 ((vo cSp3 63 (⟨some b5, k8, j9⟩ : VR) out) ++ ([])) #[true, true, true, true, false, true, true, false, false, false, false, false, false] rfl rfl rfl (by kernel_rfl) (by kernel_rfl) (by kernel_rfl) (det_ix_vec slt56 rfl rfl rfl (out.length - 1) (by omega) (by omega)) ?_
      refine htak 4 ((vo cSp3 63 (⟨some b5, k8, j9⟩ : VR) out) ++ ([])) #[true, true, true, true, true, true, true, false, false, false, false, false, false] rfl rfl rfl (by kernel_rfl) (by kernel_rfl) (by kernel_rfl) (det_vec_agg (us := cSp3 (out.getD (out.length - 1) Sp3.zero)) (c := cSp3) (sz := 3) ty63 (fun _ => rfl) rfl rfl 0 rfl (out.length - 1) 0 rfl (gd Sp3.zero (by omega)) rfl rfl) ?_
      refine JH_base 0 rfl (by omega) fun a10 hq11 => ?_
      refine htak 7 ((vo cSp3 63 (⟨some b5, k8, j9⟩ : VR) out) ++ ([])) #[true, true, true, true, true, true, true, true, false, false, false, false, false] rfl rfl rfl (by kernel_rfl) (by kernel_rfl) (by kernel_rfl) (det_ixq slt56 rfl rfl hq11 rfl i rfl (by omega)) ?_
      refine htak 8 ((vo cSp3 63 (⟨some b5, k8, j9⟩ : VR) out) ++ ([])) #[true, true, true, true, true, true, true, true, true, false, false, false, false] rfl rfl rfl (by kernel_rfl) (by kernel_rfl) (by kernel_rfl) (det_ld_agg (us := cSp3 (l.getD i Sp3.zero)) ty63 rfl rfl (at_slq (c := cSp3) (sz := 3) hq11 (fun _ => rfl) 0 rfl (gd Sp3.zero (by omega))) rfl) ?_
      refine JH_fork 9 10 (by kernel_rfl) ?_ ?_
      · refine harm 9 ((vo cSp3 63 (⟨some b5, k8, j9⟩ : VR) out) ++ ([])) #[true, true, true, true, true, true, true, true, true, true, false, false, false] rfl rfl rfl (by kernel_rfl) (by kernel_rfl) (by kernel_rfl) (tri_alloc (cs := cSp3 Sp3.zero) zero63 rfl) (fun b12 => (mc [[bx b12 (cSp3 Sp3.zero) 63], vo cSp3 63 (⟨some b5, k8, j9⟩ : VR) out] [false, true] rfl (by first | rfl | (simp only [List.length_set] <;> rfl)))) (fun b12 => Foll.refl) fun b12 => ?_
        refine hone 10 ((vo cSp3 63 (⟨some b5, k8, j9⟩ : VR) out) ++ ([])) #[true, true, true, true, true, true, true, true, true, true, true, false, false] rfl rfl rfl (by kernel_rfl) (by kernel_rfl) (by kernel_rfl) (tri_alloc (cs := cSp3 Sp3.zero) zero63 rfl) (fun b13 => (mc [[bx b13 (cSp3 Sp3.zero) 63], [bx b12 (cSp3 Sp3.zero) 63], vo cSp3 63 (⟨some b5, k8, j9⟩ : VR) out] [false, false, true] rfl (by first | rfl | (simp only [List.length_set] <;> rfl)))) (fun b13 => Foll.refl) fun b13 => ?_
        refine hone 11 ((vo cSp3 63 (⟨some b5, k8, j9⟩ : VR) out) ++ ([])) #[true, true, true, true, true, true, true, true, true, true, true, true, false] rfl rfl rfl (by kernel_rfl) (by kernel_rfl) (by kernel_rfl) (tri_store (us := cSp3 (out.getD (out.length - 1) Sp3.zero)) (cs' := cSp3 (out.getD (out.length - 1) Sp3.zero)) ty63 rfl rfl rfl 1 rfl rfl rfl rfl rfl rfl) (fun _ => (mc [[bx b13 (cSp3 Sp3.zero) 63], [bx b12 (cSp3 (out.getD (out.length - 1) Sp3.zero)) 63], vo cSp3 63 (⟨some b5, k8, j9⟩ : VR) out] [false, false, true] rfl (by first | rfl | (simp only [List.length_set] <;> rfl)))) (fun _ => Foll.refl) fun _ => ?_
        refine hone 12 ((vo cSp3 63 (⟨some b5, k8, j9⟩ : VR) out) ++ ([])) #[true, true, true, true, true, true, true, true, true, true, true, true, true] rfl rfl rfl (by kernel_rfl) (by kernel_rfl) (by kernel_rfl) (tri_store (us := cSp3 (l.getD i Sp3.zero)) (cs' := cSp3 (l.getD i Sp3.zero)) ty63 rfl rfl rfl 0 rfl rfl rfl rfl rfl rfl) (fun _ => (mc [[bx b13 (cSp3 (l.getD i Sp3.zero)) 63], [bx b12 (cSp3 (out.getD (out.length - 1) Sp3.zero)) 63], vo cSp3 63 (⟨some b5, k8, j9⟩ : VR) out] [false, false, true] rfl (by first | rfl | (simp only [List.length_set] <;> rfl)))) (fun _ => Foll.refl) fun _ => ?_
        refine hend (by kernel_rfl) ?_
        refine sr 34 rfl ?_
        refine ip 1 33 [(33, pt b12 0)] (by kernel_rfl) ?_
        refine ix rfl (det_own_one (v := iv ((out.getD (out.length - 1) Sp3.zero).row)) ty3 rfl rfl 1 rfl rfl) ?_
        refine ip 1 31 [(35, pt b13 0)] (by kernel_rfl) ?_
        refine ix rfl (det_own_one (v := iv ((l.getD i Sp3.zero).row)) ty3 rfl rfl 0 rfl rfl) ?_
        refine ip 2 28 [(38, bv (decide ((out.getD (out.length - 1) Sp3.zero).row = (l.getD i Sp3.zero).row)))] (by kernel_rfl) ?_
        refine iand 6 22 38 44 (decide ((out.getD (out.length - 1) Sp3.zero).frm < (out.getD (out.length - 1) Sp3.zero).to)) rfl (by kernel_rfl) (fun g14 => ?_) ?_
        · have g14p : (out.getD (out.length - 1) Sp3.zero).row = (l.getD i Sp3.zero).row := by simpa using g14
          refine ip 1 5 [(39, pt b12 1)] (by kernel_rfl) ?_
          refine ix rfl (det_own_one (v := iv ((out.getD (out.length - 1) Sp3.zero).frm)) ty3 rfl rfl 1 rfl rfl) ?_
          refine ip 1 3 [(41, pt b12 2)] (by kernel_rfl) ?_
          refine ix rfl (det_own_one (v := iv ((out.getD (out.length - 1) Sp3.zero).to)) ty3 rfl rfl 1 rfl rfl) ?_
          refine ip 2 0 [(44, bv (decide ((out.getD (out.length - 1) Sp3.zero).frm < (out.getD (out.length - 1) Sp3.zero).to)))] (by kernel_rfl) ?_
          exact JI_end (armI 6 38 44 g14 Foll.refl (mc [[bx b13 (cSp3 (l.getD i Sp3.zero)) 63], [bx b12 (cSp3 (out.getD (out.length - 1) Sp3.zero)) 63], vo cSp3 63 (⟨some b5, k8, j9⟩ : VR) out] [true, true, true] rfl (by first | rfl | (simp only [List.length_set] <;> rfl))) rfl rfl rfl rfl rfl)
        refine ip 1 21 [(45, bv ((decide ((out.getD (out.length - 1) Sp3.zero).row = (l.getD i Sp3.zero).row)) && (decide ((out.getD (out.length - 1) Sp3.zero).frm < (out.getD (out.length - 1) Sp3.zero).to))))] (by kernel_rfl) ?_
        refine iand 6 15 45 51 (decide ((l.getD i Sp3.zero).frm < (l.getD i Sp3.zero).to)) rfl (by kernel_rfl) (fun g15 => ?_) ?_
        · have g15p : ((out.getD (out.length - 1) Sp3.zero).row = (l.getD i Sp3.zero).row) ∧ ((out.getD (out.length - 1) Sp3.zero).frm < (out.getD (out.length - 1) Sp3.zero).to) := by simpa using g15
          refine ip 1 5 [(46, pt b13 1)] (by kernel_rfl) ?_
          refine ix rfl (det_own_one (v := iv ((l.getD i Sp3.zero).frm)) ty3 rfl rfl 0 rfl rfl) ?_
          refine ip 1 3 [(48, pt b13 2)] (by kernel_rfl) ?_
          refine ix rfl (det_own_one (v := iv ((l.getD i Sp3.zero).to)) ty3 rfl rfl 0 rfl rfl) ?_
          refine ip 2 0 [(51, bv (decide ((l.getD i Sp3.zero).frm < (l.getD i Sp3.zero).to)))] (by kernel_rfl) ?_
          exact JI_end (armI 6 45 51 g15 Foll.refl (mc [[bx b13 (cSp3 (l.getD i Sp3.zero)) 63], [bx b12 (cSp3 (out.getD (out.length - 1) Sp3.zero)) 63], vo cSp3 63 (⟨some b5, k8, j9⟩ : VR) out] [true, true, true] rfl (by first | rfl | (simp only [List.length_set] <;> rfl))) rfl rfl rfl rfl rfl)
        refine ip 1 14 [(52, bv (((decide ((out.getD (out.length - 1) Sp3.zero).row = (l.getD i Sp3.zero).row)) && (decide ((out.getD (out.length - 1) Sp3.zero).frm < (out.getD (out.length - 1) Sp3.zero).to))) && (decide ((l.getD i Sp3.zero).frm < (l.getD i Sp3.zero).to))))] (by kernel_rfl) ?_
        refine iand 6 8 52 58 (decide ((out.getD (out.length - 1) Sp3.zero).to ≤ (l.getD i Sp3.zero).frm)) rfl (by kernel_rfl) (fun g16 => ?_) ?_
        · have g16p : (((out.getD (out.length - 1) Sp3.zero).row = (l.getD i Sp3.zero).row) ∧ ((out.getD (out.length - 1) Sp3.zero).frm < (out.getD (out.length - 1) Sp3.zero).to)) ∧ ((l.getD i Sp3.zero).frm < (l.getD i Sp3.zero).to) := by simpa using g16
          refine ip 1 5 [(53, pt b12 2)] (by kernel_rfl) ?_
          refine ix rfl (det_own_one (v := iv ((out.getD (out.length - 1) Sp3.zero).to)) ty3 rfl rfl 1 rfl rfl) ?_
          refine ip 1 3 [(55, pt b13 1)] (by kernel_rfl) ?_
          refine ix rfl (det_own_one (v := iv ((l.getD i Sp3.zero).frm)) ty3 rfl rfl 0 rfl rfl) ?_
          refine ip 2 0 [(58, bv (decide ((out.getD (out.length - 1) Sp3.zero).to ≤ (l.getD i Sp3.zero).frm)))] (by kernel_rfl) ?_
          exact JI_end (armI 6 52 58 g16 Foll.refl (mc [[bx b13 (cSp3 (l.getD i Sp3.zero)) 63], [bx b12 (cSp3 (out.getD (out.length - 1) Sp3.zero)) 63], vo cSp3 63 (⟨some b5, k8, j9⟩ : VR) out] [true, true, true] rfl (by first | rfl | (simp only [List.length_set] <;> rfl))) rfl rfl rfl rfl rfl)
        refine ip 1 7 [(59, bv ((((decide ((out.getD (out.length - 1) Sp3.zero).row = (l.getD i Sp3.zero).row)) && (decide ((out.getD (out.length - 1) Sp3.zero).frm < (out.getD (out.length - 1) Sp3.zero).to))) && (decide ((l.getD i Sp3.zero).frm < (l.getD i Sp3.zero).to))) && (decide ((out.getD (out.length - 1) Sp3.zero).to ≤ (l.getD i Sp3.zero).frm))))] (by kernel_rfl) ?_
        refine iand 7 0 59 66 (ref24_near ((out.getD (out.length - 1) Sp3.zero).to) ((l.getD i Sp3.zero).frm) gap) rfl (by kernel_rfl) (fun g17 => ?_) ?_
        · have g17p : ((((out.getD (out.length - 1) Sp3.zero).row = (l.getD i Sp3.zero).row) ∧ ((out.getD (out.length - 1) Sp3.zero).frm < (out.getD (out.length - 1) Sp3.zero).to)) ∧ ((l.getD i Sp3.zero).frm < (l.getD i Sp3.zero).to)) ∧ ((out.getD (out.length - 1) Sp3.zero).to ≤ (l.getD i Sp3.zero).frm) := by simpa using g17
          have hq1 := hs.getD (out.length - 1)
          have hq2 := hsl.getD i
          refine ip 1 6 [(60, pt b12 2)] (by kernel_rfl) ?_
          refine ix rfl (det_own_one (v := iv ((out.getD (out.length - 1) Sp3.zero).to)) ty3 rfl rfl 1 rfl rfl) ?_
          refine ip 1 4 [(62, pt b13 1)] (by kernel_rfl) ?_
          refine ix rfl (det_own_one (v := iv ((l.getD i Sp3.zero).frm)) ty3 rfl rfl 0 rfl rfl) ?_
          refine ip 1 2 [(64, iv gap)] (by kernel_rfl) ?_
          refine ixc rfl (det_call (ref24_near_c ((out.getD (out.length - 1) Sp3.zero).to) ((l.getD i Sp3.zero).frm) gap (by first | omega | (simp only [List.length_append, List.length_cons, List.length_nil, List.length_take, List.length_drop, List.length_set]; omega)) (by first | omega | (simp only [List.length_append, List.length_cons, List.length_nil, List.length_take, List.length_drop, List.length_set]; omega)) (by first | omega | (simp only [List.length_append, List.length_cons, List.length_nil, List.length_take, List.length_drop, List.length_set]; omega)) _ rfl) rfl rfl rfl rfl rfl Foll.nil) ?_
          refine ip 1 0 [(66, bv (ref24_near ((out.getD (out.length - 1) Sp3.zero).to) ((l.getD i Sp3.zero).frm) gap))] (by kernel_rfl) ?_
          exact JI_end (armI 8 59 66 g17 Foll.refl (mc [[bx b13 (cSp3 (l.getD i Sp3.zero)) 63], [bx b12 (cSp3 (out.getD (out.length - 1) Sp3.zero)) 63], vo cSp3 63 (⟨some b5, k8, j9⟩ : VR) out] [true, true, true] rfl (by first | rfl | (simp only [List.length_set] <;> rfl))) rfl rfl rfl rfl rfl)
        refine ie ?_
        refine J_if rfl (fun h18 => ?_) (fun h18 => ?_)
        · have h18p := h18; try simp only [Bool.and_eq_true, Bool.or_eq_true, Bool.and_eq_false_iff, Bool.or_eq_false_iff, Bool.not_eq_true', Bool.not_eq_false', decide_eq_true_eq, decide_eq_false_iff_not] at h18p
          replace hR := bt hR h18
          refine sr 8 rfl ?_
          refine ip 2 6 [(67, .slice (va (⟨some b5, k8, j9⟩ : VR).q) out.length ((⟨some b5, k8, j9⟩ : VR).k)), (68, iv (out.length : Int))] (by kernel_rfl) ?_
          refine ix rfl (det_sub64 rfl rfl rfl rfl (by omega)) ?_
          refine ip 1 4 [(70, pt b13 2)] (by kernel_rfl) ?_
          refine ix rfl (det_own_one (v := iv ((l.getD i Sp3.zero).to)) ty3 rfl rfl 0 rfl rfl) ?_
          refine ix rfl (det_ix_vec slt56 rfl rfl rfl (out.length - 1) (by omega) (by omega)) ?_
          refine ip 1 1 [(73, .pointer (some ⟨b5, (out.length - 1) * 3 + 2, none⟩))] (by kernel_rfl) ?_
          refine it rfl (tri_vec_store (us := [iv ((l.getD i Sp3.zero).to)]) (u' := { (out.getD (out.length - 1) Sp3.zero) with to := (l.getD i Sp3.zero).to }) (c := cSp3) (sz := 3) ty3 (fun _ => rfl) rfl rfl rfl 2 rfl rfl rfl rfl (out.length - 1) 2 rfl (gd Sp3.zero (by omega)) rfl rfl) fun _ => ?_
          refine ie ?_
          refine J_exit ?_
          refine nx ?_
          refine J_region 3 rfl ?_
          refine ip 1 2 [(14, iv (i : Int))] (by kernel_rfl) ?_
          refine ix rfl (det_add64 rfl rfl rfl rfl (by omega)) ?_
          refine ip 1 0 [(6, iv ((i : Int) + 1))] (by kernel_rfl) ?_
          refine JI_end ?_
          exact againL3 (z1 := out) (z2 := (⟨some b5, k8, j9⟩ : VR)) (z3 := i) (out.set (out.length - 1) ({ (out.getD (out.length - 1) Sp3.zero) with to := (l.getD i Sp3.zero).to })) (⟨some b5, k8, j9⟩ : VR) (i + 1) ⟨(by omega), hR, (VOk.cast hokoutr (by simp)), (by first | omega | (simp only [List.length_append, List.length_set, List.length_cons, List.length_nil]; omega)), (by first | exact hs | exact hs.append (hsl.getD _) | exact hs.set _ ⟨(hs.getD _).1, (hsl.getD _).2⟩)⟩ (by (try dsimp only); omega) ⟨rfl, rfl, (by first | rfl | (simp only [List.length_set, List.length_append, List.length_cons, List.length_nil]; rfl) | simp | (simp; omega)), (by first | rfl | (simp only [List.length_set, List.length_append, List.length_cons, List.length_nil]; rfl) | simp | (simp; omega)), trivial⟩ (mc [[bx b13 (cSp3 (l.getD i Sp3.zero)) 63], [bx b12 (cSp3 (out.getD (out.length - 1) Sp3.zero)) 63], vo cSp3 63 (⟨some b5, k8, j9⟩ : VR) (out.set (out.length - 1) ({ (out.getD (out.length - 1) Sp3.zero) with to := (l.getD i Sp3.zero).to }))] [false, false, true] rfl (by first | rfl | (simp only [List.length_set] <;> rfl))) Foll.refl
        · have h18p := h18; try simp only [Bool.and_eq_true, Bool.or_eq_true, Bool.and_eq_false_iff, Bool.or_eq_false_iff, Bool.not_eq_true', Bool.not_eq_false', decide_eq_true_eq, decide_eq_false_iff_not] at h18p
          replace hR := bf hR h18
          refine J_skip ?_
          refine nx ?_
          refine J_region 8 rfl ?_
          refine ip 3 5 [(74, .slice (va (⟨some b5, k8, j9⟩ : VR).q) out.length ((⟨some b5, k8, j9⟩ : VR).k)), (75, .slice lq l.length lk), (76, iv (i : Int))] (by kernel_rfl) ?_
          refine ix rfl (det_ixq slt56 rfl rfl hq11 rfl i rfl (by omega)) ?_
          refine ix rfl (det_ld_agg (us := cSp3 (l.getD i Sp3.zero)) ty63 rfl rfl (at_slq (c := cSp3) (sz := 3) hq11 (fun _ => rfl) 0 rfl (gd Sp3.zero (by omega))) rfl) ?_
          refine it rfl (tri_buildSl (c := cSp3) (xs := ([(l.getD i Sp3.zero)] : List Sp3)) slt56 rfl rfl rfl (by kernel_rfl)) fun b19 => ?_
          have : ([(l.getD i Sp3.zero)] : List Sp3).length = 1 := rfl
          refine it rfl (tri_app1 (f := cSp3) (r := (⟨some b5, k8, j9⟩ : VR)) (xs := out) (ys := ([(l.getD i Sp3.zero)] : List Sp3)) (pre := [bx b13 (cSp3 (l.getD i Sp3.zero)) 63, bx b12 (cSp3 (out.getD (out.length - 1) Sp3.zero)) 63]) (post := []) apt56 (fun _ => rfl) (fun _ => rfl) rfl rfl rfl rfl rfl rfl rfl rfl rfl (at_of 0 rfl) hokoutr (by first | omega | (simp only [List.length_cons, List.length_nil, List.length_append, List.length_take, List.length_drop]; omega)) (by first | omega | (simp only [List.length_cons, List.length_nil, List.length_append, List.length_take, List.length_drop]; omega))) fun ⟨r20, hr21⟩ => ?_
          have := VOk.le hr21
          have := VOk.cap hr21
          refine ip 1 0 [(5, .slice (va r20.q) ((out ++ ([(l.getD i Sp3.zero)] : List Sp3)).length) r20.k)] (by kernel_rfl) ?_
          refine JI_end ?_
          refine nx ?_
          refine J_region 3 rfl ?_
          refine ip 1 2 [(14, iv (i : Int))] (by kernel_rfl) ?_
          refine ix rfl (det_add64 rfl rfl rfl rfl (by omega)) ?_
          refine ip 1 0 [(6, iv ((i : Int) + 1))] (by kernel_rfl) ?_
          refine JI_end ?_
          exact againL3 (z1 := out) (z2 := (⟨some b5, k8, j9⟩ : VR)) (z3 := i) (out ++ ([(l.getD i Sp3.zero)] : List Sp3)) r20 (i + 1) ⟨(by omega), hR, hr21, (by first | omega | (simp only [List.length_append, List.length_set, List.length_cons, List.length_nil]; omega)), (by first | exact hs | exact hs.append (hsl.getD _) | exact hs.set _ ⟨(hs.getD _).1, (hsl.getD _).2⟩)⟩ (by (try dsimp only); omega) ⟨rfl, rfl, (by first | rfl | (simp only [List.length_set, List.length_append, List.length_cons, List.length_nil]; rfl) | simp | (simp; omega)), (by first | rfl | (simp only [List.length_set, List.length_append, List.length_cons, List.length_nil]; rfl) | simp | (simp; omega)), trivial⟩ (mc [[bx b13 (cSp3 (l.getD i Sp3.zero)) 63], [bx b12 (cSp3 (out.getD (out.length - 1) Sp3.zero)) 63], vo cSp3 63 r20 (out ++ ([(l.getD i Sp3.zero)] : List Sp3))] [false, false, true] rfl (by first | rfl | (simp only [List.length_set] <;> rfl))) (Foll.pick [1] rfl)
      · refine harm 10 ((vo cSp3 63 (⟨some b5, k8, j9⟩ : VR) out) ++ ([])) #[true, true, true, true, true, true, true, true, true, false, true, false, false] rfl rfl rfl (by kernel_rfl) (by kernel_rfl) (by kernel_rfl) (tri_alloc (cs := cSp3 Sp3.zero) zero63 rfl) (fun b22 => (mc [[bx b22 (cSp3 Sp3.zero) 63], vo cSp3 63 (⟨some b5, k8, j9⟩ : VR) out] [false, true] rfl (by first | rfl | (simp only [List.length_set] <;> rfl)))) (fun b22 => Foll.refl) fun b22 => ?_
        refine hone 9 ((vo cSp3 63 (⟨some b5, k8, j9⟩ : VR) out) ++ ([])) #[true, true, true, true, true, true, true, true, true, true, true, false, false] rfl rfl rfl (by kernel_rfl) (by kernel_rfl) (by kernel_rfl) (tri_alloc (cs := cSp3 Sp3.zero) zero63 rfl) (fun b23 => (mc [[bx b23 (cSp3 Sp3.zero) 63], [bx b22 (cSp3 Sp3.zero) 63], vo cSp3 63 (⟨some b5, k8, j9⟩ : VR) out] [false, false, true] rfl (by first | rfl | (simp only [List.length_set] <;> rfl)))) (fun b23 => Foll.refl) fun b23 => ?_
        refine hone 11 ((vo cSp3 63 (⟨some b5, k8, j9⟩ : VR) out) ++ ([])) #[true, true, true, true, true, true, true, true, true, true, true, true, false] rfl rfl rfl (by kernel_rfl) (by kernel_rfl) (by kernel_rfl) (tri_store (us := cSp3 (out.getD (out.length - 1) Sp3.zero)) (cs' := cSp3 (out.getD (out.length - 1) Sp3.zero)) ty63 rfl rfl rfl 0 rfl rfl rfl rfl rfl rfl) (fun _ => (mc [[bx b23 (cSp3 (out.getD (out.length - 1) Sp3.zero)) 63], [bx b22 (cSp3 Sp3.zero) 63], vo cSp3 63 (⟨some b5, k8, j9⟩ : VR) out] [false, false, true] rfl (by first | rfl | (simp only [List.length_set] <;> rfl)))) (fun _ => Foll.refl) fun _ => ?_
        refine hone 12 ((vo cSp3 63 (⟨some b5, k8, j9⟩ : VR) out) ++ ([])) #[true, true, true, true, true, true, true, true, true, true, true, true, true] rfl rfl rfl (by kernel_rfl) (by kernel_rfl) (by kernel_rfl) (tri_store (us := cSp3 (l.getD i Sp3.zero)) (cs' := cSp3 (l.getD i Sp3.zero)) ty63 rfl rfl rfl 1 rfl rfl rfl rfl rfl rfl) (fun _ => (mc [[bx b23 (cSp3 (out.getD (out.length - 1) Sp3.zero)) 63], [bx b22 (cSp3 (l.getD i Sp3.zero)) 63], vo cSp3 63 (⟨some b5, k8, j9⟩ : VR) out] [false, false, true] rfl (by first | rfl | (simp only [List.length_set] <;> rfl)))) (fun _ => Foll.refl) fun _ => ?_
        refine hend (by kernel_rfl) ?_
        refine sr 34 rfl ?_
        refine ip 1 33 [(33, pt b23 0)] (by kernel_rfl) ?_
        refine ix rfl (det_own_one (v := iv ((out.getD (out.length - 1) Sp3.zero).row)) ty3 rfl rfl 0 rfl rfl) ?_
        refine ip 1 31 [(35, pt b22 0)] (by kernel_rfl) ?_
        refine ix rfl (det_own_one (v := iv ((l.getD i Sp3.zero).row)) ty3 rfl rfl 1 rfl rfl) ?_
        refine ip 2 28 [(38, bv (decide ((out.getD (out.length - 1) Sp3.zero).row = (l.getD i Sp3.zero).row)))] (by kernel_rfl) ?_
        refine iand 6 22 38 44 (decide ((out.getD (out.length - 1) Sp3.zero).frm < (out.getD (out.length - 1) Sp3.zero).to)) rfl (by kernel_rfl) (fun g24 => ?_) ?_
        · have g24p : (out.getD (out.length - 1) Sp3.zero).row = (l.getD i Sp3.zero).row := by simpa using g24
          refine ip 1 5 [(39, pt b23 1)] (by kernel_rfl) ?_
          refine ix rfl (det_own_one (v := iv ((out.getD (out.length - 1) Sp3.zero).frm)) ty3 rfl rfl 0 rfl rfl) ?_
          refine ip 1 3 [(41, pt b23 2)] (by kernel_rfl) ?_
          refine ix rfl (det_own_one (v := iv ((out.getD (out.length - 1) Sp3.zero).to)) ty3 rfl rfl 0 rfl rfl) ?_
          refine ip 2 0 [(44, bv (decide ((out.getD (out.length - 1) Sp3.zero).frm < (out.getD (out.length - 1) Sp3.zero).to)))] (by kernel_rfl) ?_
          exact JI_end (armI 6 38 44 g24 Foll.refl (mc [[bx b23 (cSp3 (out.getD (out.length - 1) Sp3.zero)) 63], [bx b22 (cSp3 (l.getD i Sp3.zero)) 63], vo cSp3 63 (⟨some b5, k8, j9⟩ : VR) out] [true, true, true] rfl (by first | rfl | (simp only [List.length_set] <;> rfl))) rfl rfl rfl rfl rfl)
        refine ip 1 21 [(45, bv ((decide ((out.getD (out.length - 1) Sp3.zero).row = (l.getD i Sp3.zero).row)) && (decide ((out.getD (out.length - 1) Sp3.zero).frm < (out.getD (out.length - 1) Sp3.zero).to))))] (by kernel_rfl) ?_
        refine iand 6 15 45 51 (decide ((l.getD i Sp3.zero).frm < (l.getD i Sp3.zero).to)) rfl (by kernel_rfl) (fun g25 => ?_) ?_
        · have g25p : ((out.getD (out.length - 1) Sp3.zero).row = (l.getD i Sp3.zero).row) ∧ ((out.getD (out.length - 1) Sp3.zero).frm < (out.getD (out.length - 1) Sp3.zero).to) := by simpa using g25
          refine ip 1 5 [(46, pt b22 1)] (by kernel_rfl) ?_
          refine ix rfl (det_own_one (v := iv ((l.getD i Sp3.zero).frm)) ty3 rfl rfl 1 rfl rfl) ?_
          refine ip 1 3 [(48, pt b22 2)] (by kernel_rfl) ?_
          refine ix rfl (det_own_one (v := iv ((l.getD i Sp3.zero).to)) ty3 rfl rfl 1 rfl rfl) ?_
          refine ip 2 0 [(51, bv (decide ((l.getD i Sp3.zero).frm < (l.getD i Sp3.zero).to)))] (by kernel_rfl) ?_
          exact JI_end (armI 6 45 51 g25 Foll.refl (mc [[bx b23 (cSp3 (out.getD (out.length - 1) Sp3.zero)) 63], [bx b22 (cSp3 (l.getD i Sp3.zero)) 63], vo cSp3 63 (⟨some b5, k8, j9⟩ : VR) out] [true, true, true] rfl (by first | rfl | (simp only [List.length_set] <;> rfl))) rfl rfl rfl rfl rfl)
        refine ip 1 14 [(52, bv (((decide ((out.getD (out.length - 1) Sp3.zero).row = (l.getD i Sp3.zero).row)) && (decide ((out.getD (out.length - 1) Sp3.zero).frm < (out.getD (out.length - 1) Sp3.zero).to))) && (decide ((l.getD i Sp3.zero).frm < (l.getD i Sp3.zero).to))))] (by kernel_rfl) ?_
        refine iand 6 8 52 58 (decide ((out.getD (out.length - 1) Sp3.zero).to ≤ (l.getD i Sp3.zero).frm)) rfl (by kernel_rfl) (fun g26 => ?_) ?_
        · have g26p : (((out.getD (out.length - 1) Sp3.zero).row = (l.getD i Sp3.zero).row) ∧ ((out.getD (out.length - 1) Sp3.zero).frm < (out.getD (out.length - 1) Sp3.zero).to)) ∧ ((l.getD i Sp3.zero).frm < (l.getD i Sp3.zero).to) := by simpa using g26
          refine ip 1 5 [(53, pt b23 2)] (by kernel_rfl) ?_
          refine ix rfl (det_own_one (v := iv ((out.getD (out.length - 1) Sp3.zero).to)) ty3 rfl rfl 0 rfl rfl) ?_
          refine ip 1 3 [(55, pt b22 1)] (by kernel_rfl) ?_
          refine ix rfl (det_own_one (v := iv ((l.getD i Sp3.zero).frm)) ty3 rfl rfl 1 rfl rfl) ?_
          refine ip 2 0 [(58, bv (decide ((out.getD (out.length - 1) Sp3.zero).to ≤ (l.getD i Sp3.zero).frm)))] (by kernel_rfl) ?_
          exact JI_end (armI 6 52 58 g26 Foll.refl (mc [[bx b23 (cSp3 (out.getD (out.length - 1) Sp3.zero)) 63], [bx b22 (cSp3 (l.getD i Sp3.zero)) 63], vo cSp3 63 (⟨some b5, k8, j9⟩ : VR) out] [true, true, true] rfl (by first | rfl | (simp only [List.length_set] <;> rfl))) rfl rfl rfl rfl rfl)
        refine ip 1 7 [(59, bv ((((decide ((out.getD (out.length - 1) Sp3.zero).row = (l.getD i Sp3.zero).row)) && (decide ((out.getD (out.length - 1) Sp3.zero).frm < (out.getD (out.length - 1) Sp3.zero).to))) && (decide ((l.getD i Sp3.zero).frm < (l.getD i Sp3.zero).to))) && (decide ((out.getD (out.length - 1) Sp3.zero).to ≤ (l.getD i Sp3.zero).frm))))] (by kernel_rfl) ?_
        refine iand 7 0 59 66 (ref24_near ((out.getD (out.length - 1) Sp3.zero).to) ((l.getD i Sp3.zero).frm) gap) rfl (by kernel_rfl) (fun g27 => ?_) ?_
        · have g27p : ((((out.getD (out.length - 1) Sp3.zero).row = (l.getD i Sp3.zero).row) ∧ ((out.getD (out.length - 1) Sp3.zero).frm < (out.getD (out.length - 1) Sp3.zero).to)) ∧ ((l.getD i Sp3.zero).frm < (l.getD i Sp3.zero).to)) ∧ ((out.getD (out.length - 1) Sp3.zero).to ≤ (l.getD i Sp3.zero).frm) := by simpa using g27
          have hq1 := hs.getD (out.length - 1)
          have hq2 := hsl.getD i
          refine ip 1 6 [(60, pt b23 2)] (by kernel_rfl) ?_
          refine ix rfl (det_own_one (v := iv ((out.getD (out.length - 1) Sp3.zero).to)) ty3 rfl rfl 0 rfl rfl) ?_
          refine ip 1 4 [(62, pt b22 1)] (by kernel_rfl) ?_
          refine ix rfl (det_own_one (v := iv ((l.getD i Sp3.zero).frm)) ty3 rfl rfl 1 rfl rfl) ?_
          refine ip 1 2 [(64, iv gap)] (by kernel_rfl) ?_
          refine ixc rfl (det_call (ref24_near_c ((out.getD (out.length - 1) Sp3.zero).to) ((l.getD i Sp3.zero).frm) gap (by first | omega | (simp only [List.length_append, List.length_cons, List.length_nil, List.length_take, List.length_drop, List.length_set]; omega)) (by first | omega | (simp only [List.length_append, List.length_cons, List.length_nil, List.length_take, List.length_drop, List.length_set]; omega)) (by first | omega | (simp only [List.length_append, List.length_cons, List.length_nil, List.length_take, List.length_drop, List.length_set]; omega)) _ rfl) rfl rfl rfl rfl rfl Foll.nil) ?_
          refine ip 1 0 [(66, bv (ref24_near ((out.getD (out.length - 1) Sp3.zero).to) ((l.getD i Sp3.zero).frm) gap))] (by kernel_rfl) ?_
          exact JI_end (armI 8 59 66 g27 Foll.refl (mc [[bx b23 (cSp3 (out.getD (out.length - 1) Sp3.zero)) 63], [bx b22 (cSp3 (l.getD i Sp3.zero)) 63], vo cSp3 63 (⟨some b5, k8, j9⟩ : VR) out] [true, true, true] rfl (by first | rfl | (simp only [List.length_set] <;> rfl))) rfl rfl rfl rfl rfl)
        refine ie ?_
        refine J_if rfl (fun h28 => ?_) (fun h28 => ?_)
        · have h28p := h28; try simp only [Bool.and_eq_true, Bool.or_eq_true, Bool.and_eq_false_iff, Bool.or_eq_false_iff, Bool.not_eq_true', Bool.not_eq_false', decide_eq_true_eq, decide_eq_false_iff_not] at h28p
          replace hR := bt hR h28
          refine sr 8 rfl ?_
          refine ip 2 6 [(67, .slice (va (⟨some b5, k8, j9⟩ : VR).q) out.length ((⟨some b5, k8, j9⟩ : VR).k)), (68, iv (out.length : Int))] (by kernel_rfl) ?_
          refine ix rfl (det_sub64 rfl rfl rfl rfl (by omega)) ?_
          refine ip 1 4 [(70, pt b22 2)] (by kernel_rfl) ?_
          refine ix rfl (det_own_one (v := iv ((l.getD i Sp3.zero).to)) ty3 rfl rfl 1 rfl rfl) ?_
          refine ix rfl (det_ix_vec slt56 rfl rfl rfl (out.length - 1) (by omega) (by omega)) ?_
          refine ip 1 1 [(73, .pointer (some ⟨b5, (out.length - 1) * 3 + 2, none⟩))] (by kernel_rfl) ?_
          refine it rfl (tri_vec_store (us := [iv ((l.getD i Sp3.zero).to)]) (u' := { (out.getD (out.length - 1) Sp3.zero) with to := (l.getD i Sp3.zero).to }) (c := cSp3) (sz := 3) ty3 (fun _ => rfl) rfl rfl rfl 2 rfl rfl rfl rfl (out.length - 1) 2 rfl (gd Sp3.zero (by omega)) rfl rfl) fun _ => ?_
          refine ie ?_
          refine J_exit ?_
          refine nx ?_
          refine J_region 3 rfl ?_
          refine ip 1 2 [(14, iv (i : Int))] (by kernel_rfl) ?_
          refine ix rfl (det_add64 rfl rfl rfl rfl (by omega)) ?_
          refine ip 1 0 [(6, iv ((i : Int) + 1))] (by kernel_rfl) ?_
          refine JI_end ?_
          exact againL3 (z1 := out) (z2 := (⟨some b5, k8, j9⟩ : VR)) (z3 := i) (out.set (out.length - 1) ({ (out.getD (out.length - 1) Sp3.zero) with to := (l.getD i Sp3.zero).to })) (⟨some b5, k8, j9⟩ : VR) (i + 1) ⟨(by omega), hR, (VOk.cast hokoutr (by simp)), (by first | omega | (simp only [List.length_append, List.length_set, List.length_cons, List.length_nil]; omega)), (by first | exact hs | exact hs.append (hsl.getD _) | exact hs.set _ ⟨(hs.getD _).1, (hsl.getD _).2⟩)⟩ (by (try dsimp only); omega) ⟨rfl, rfl, (by first | rfl | (simp only [List.length_set, List.length_append, List.length_cons, List.length_nil]; rfl) | simp | (simp; omega)), (by first | rfl | (simp only [List.length_set, List.length_append, List.length_cons, List.length_nil]; rfl) | simp | (simp; omega)), trivial⟩ (mc [[bx b23 (cSp3 (out.getD (out.length - 1) Sp3.zero)) 63], [bx b22 (cSp3 (l.getD i Sp3.zero)) 63], vo cSp3 63 (⟨some b5, k8, j9⟩ : VR) (out.set (out.length - 1) ({ (out.getD (out.length - 1) Sp3.zero) with to := (l.getD i Sp3.zero).to }))] [false, false, true] rfl (by first | rfl | (simp only [List.length_set] <;> rfl))) Foll.refl
        · have h28p := h28; try simp only [Bool.and_eq_true, Bool.or_eq_true, Bool.and_eq_false_iff, Bool.or_eq_false_iff, Bool.not_eq_true', Bool.not_eq_false', decide_eq_true_eq, decide_eq_false_iff_not] at h28p
          replace hR := bf hR h28
          refine J_skip ?_
          refine nx ?_
          refine J_region 8 rfl ?_
          refine ip 3 5 [(74, .slice (va (⟨some b5, k8, j9⟩ : VR).q) out.length ((⟨some b5, k8, j9⟩ : VR).k)), (75, .slice lq l.length lk), (76, iv (i : Int))] (by kernel_rfl) ?_
          refine ix rfl (det_ixq slt56 rfl rfl hq11 rfl i rfl (by omega)) ?_
          refine ix rfl (det_ld_agg (us := cSp3 (l.getD i Sp3.zero)) ty63 rfl rfl (at_slq (c := cSp3) (sz := 3) hq11 (fun _ => rfl) 0 rfl (gd Sp3.zero (by omega))) rfl) ?_
          refine it rfl (tri_buildSl (c := cSp3) (xs := ([(l.getD i Sp3.zero)] : List Sp3)) slt56 rfl rfl rfl (by kernel_rfl)) fun b29 => ?_
          have : ([(l.getD i Sp3.zero)] : List Sp3).length = 1 := rfl
          refine it rfl (tri_app1 (f := cSp3) (r := (⟨some b5, k8, j9⟩ : VR)) (xs := out) (ys := ([(l.getD i Sp3.zero)] : List Sp3)) (pre := [bx b23 (cSp3 (out.getD (out.length - 1) Sp3.zero)) 63, bx b22 (cSp3 (l.getD i Sp3.zero)) 63]) (post := []) apt56 (fun _ => rfl) (fun _ => rfl) rfl rfl rfl rfl rfl rfl rfl rfl rfl (at_of 0 rfl) hokoutr (by first | omega | (simp only [List.length_cons, List.length_nil, List.length_append, List.length_take, List.length_drop]; omega)) (by first | omega | (simp only [List.length_cons, List.length_nil, List.length_append, List.length_take, List.length_drop]; omega))) fun ⟨r30, hr31⟩ => ?_
          have := VOk.le hr31
          have := VOk.cap hr31
          refine ip 1 0 [(5, .slice (va r30.q) ((out ++ ([(l.getD i Sp3.zero)] : List Sp3)).length) r30.k)] (by kernel_rfl) ?_
          refine JI_end ?_
          refine nx ?_
          refine J_region 3 rfl ?_
          refine ip 1 2 [(14, iv (i : Int))] (by kernel_rfl) ?_
          refine ix rfl (det_add64 rfl rfl rfl rfl (by omega)) ?_
          refine ip 1 0 [(6, iv ((i : Int) + 1))] (by kernel_rfl) ?_
          refine JI_end ?_
          exact againL3 (z1 := out) (z2 := (⟨some b5, k8, j9⟩ : VR)) (z3 := i) (out ++ ([(l.getD i Sp3.zero)] : List Sp3)) r30 (i + 1) ⟨(by omega), hR, hr31, (by first | omega | (simp only [List.length_append, List.length_set, List.length_cons, List.length_nil]; omega)), (by first | exact hs | exact hs.append (hsl.getD _) | exact hs.set _ ⟨(hs.getD _).1, (hsl.getD _).2⟩)⟩ (by (try dsimp only); omega) ⟨rfl, rfl, (by first | rfl | (simp only [List.length_set, List.length_append, List.length_cons, List.length_nil]; rfl) | simp | (simp; omega)), (by first | rfl | (simp only [List.length_set, List.length_append, List.length_cons, List.length_nil]; rfl) | simp | (simp; omega)), trivial⟩ (mc [[bx b23 (cSp3 (out.getD (out.length - 1) Sp3.zero)) 63], [bx b22 (cSp3 (l.getD i Sp3.zero)) 63], vo cSp3 63 r30 (out ++ ([(l.getD i Sp3.zero)] : List Sp3))] [false, false, true] rfl (by first | rfl | (simp only [List.length_set] <;> rfl))) (Foll.pick [1] rfl)
    · have h4p : ¬ (((0 : Int) < (out.length : Int)) ∧ ((0 : Int) ≤ gap)) := by simpa using h4
      replace hR := bf hR h4
      refine J_skip ?_
      refine nx ?_
      refine J_region 8 rfl ?_
      refine ip 3 5 [(74, .slice (va outr.q) out.length outr.k), (75, .slice lq l.length lk), (76, iv (i : Int))] (by kernel_rfl) ?_
      refine JI_base 0 rfl (by omega) fun a32 hq33 => ?_
      refine ix rfl (det_ixq slt56 rfl rfl hq33 rfl i rfl (by omega)) ?_
      refine ix rfl (det_ld_agg (us := cSp3 (l.getD i Sp3.zero)) ty63 rfl rfl (at_slq (c := cSp3) (sz := 3) hq33 (fun _ => rfl) 0 rfl (gd Sp3.zero (by omega))) rfl) ?_
      refine it rfl (tri_buildSl (c := cSp3) (xs := ([(l.getD i Sp3.zero)] : List Sp3)) slt56 rfl rfl rfl (by kernel_rfl)) fun b34 => ?_
      have : ([(l.getD i Sp3.zero)] : List Sp3).length = 1 := rfl
      refine it rfl (tri_app1 (f := cSp3) (r := outr) (xs := out) (ys := ([(l.getD i Sp3.zero)] : List Sp3)) (pre := []) (post := []) apt56 (fun _ => rfl) (fun _ => rfl) rfl rfl rfl rfl rfl rfl rfl rfl rfl (at_of 0 rfl) hokoutr (by first | omega | (simp only [List.length_cons, List.length_nil, List.length_append, List.length_take, List.length_drop]; omega)) (by first | omega | (simp only [List.length_cons, List.length_nil, List.length_append, List.length_take, List.length_drop]; omega))) fun ⟨r35, hr36⟩ => ?_
      have := VOk.le hr36
      have := VOk.cap hr36
      refine ip 1 0 [(5, .slice (va r35.q) ((out ++ ([(l.getD i Sp3.zero)] : List Sp3)).length) r35.k)] (by kernel_rfl) ?_
      refine JI_end ?_
      refine nx ?_
      refine J_region 3 rfl ?_
      refine ip 1 2 [(14, iv (i : Int))] (by kernel_rfl) ?_
      refine ix rfl (det_add64 rfl rfl rfl rfl (by omega)) ?_
      refine ip 1 0 [(6, iv ((i : Int) + 1))] (by kernel_rfl) ?_
      refine JI_end ?_
      exact againL3 (z1 := out) (z2 := outr) (z3 := i) (out ++ ([(l.getD i Sp3.zero)] : List Sp3)) r35 (i + 1) ⟨(by omega), hR, hr36, (by first | omega | (simp only [List.length_append, List.length_set, List.length_cons, List.length_nil]; omega)), (by first | exact hs | exact hs.append (hsl.getD _) | exact hs.set _ ⟨(hs.getD _).1, (hsl.getD _).2⟩)⟩ (by (try dsimp only); omega) ⟨rfl, rfl, (by first | rfl | (simp only [List.length_set, List.length_append, List.length_cons, List.length_nil]; rfl) | simp | (simp; omega)), (by first | rfl | (simp only [List.length_set, List.length_append, List.length_cons, List.length_nil]; rfl) | simp | (simp; omega)), trivial⟩ (mc [vo cSp3 63 r35 (out ++ ([(l.getD i Sp3.zero)] : List Sp3))] [true] rfl (by first | rfl | (simp only [List.length_set] <;> rfl))) (Foll.pick [1] rfl)
  · have h2p : ¬ ((i : Int) < (l.length : Int)) := by simpa using h2
    rw [dropn h2p] at hR; replace hR := (ref24_Join_l0.eq_1 ..).symm.trans hR
    refine J_exit ?_
    refine nx ?_
    refine sr 2 rfl ?_
    refine ip 2 0 [(4, .slice (va outr.q) out.length outr.k)] (by kernel_rfl) ?_
    refine ie ?_
    refine J_ret ?_
    subst hR
    exact ends_ret rfl ⟨hr, hD⟩ (by simp [hD]) (res1 rfl (resV_tmp rfl)) ⟨outr, hokoutr⟩ (by rfl) (mc [vo cSp3 63 outr out] [true] rfl (by first | rfl | (simp only [List.length_set] <;> rfl))) Foll.nil

def ref24_Count_l3 (l : List Sp3) (i : Nat) (ag_ref24_Count_l2 : Nat → Nat → Int) : Nat → Nat → Int → Int
  | 0, _, _ => 0
  | fu1 + 1, n1, at_ => (bif ((decide (at_ < (l.getD i Sp3.zero).to)) && (decide ((n1 : Int) < 3200))) then ref24_Count_l3 l i ag_ref24_Count_l2 fu1 (n1 + 1) (at_ + 1) else ag_ref24_Count_l2 n1 (i + 1))
def ref24_Count_l2 (l : List Sp3) : List Sp3 → Nat → Nat → Int
  | [], n, i => (n : Int)
  | hd_l2 :: tl_l2, n, i => ref24_Count_l3 l i (ref24_Count_l2 l tl_l2) ((3200 - n) + 1) n (hd_l2.frm)
def ref24_Count (l : List Sp3) : Int :=
  ref24_Count_l2 l l 0 0

set_option maxRecDepth 100000 in
theorem ref24_Count_c (l : List Sp3) (lq : Option Addr) (lk : Nat) (hll : l.length ≤ 9223372036854775807) (hcl : l.length ≤ lk) (hsl : spOk l) (R : Int) (hR : ref24_Count l = R) : ConV Tryz.prog 36 [.slice lq l.length lk] [sl cSp3 lq l] (iv R) := by
  refine con_of_J (n := 33) Tryz.func36 rfl (by kernel_rfl) rfl rfl [(0, .slice lq l.length lk)] ⟨rfl, trivial⟩ fun X hX hr hD => ?_
  replace hR := (ref24_Count.eq_1 ..).symm.trans hR
  refine sr 1 rfl ?_
  refine ip 1 0 [] (by kernel_rfl) ?_
  refine ie ?_
  refine sr 1 rfl ?_
  refine ip 1 0 [(3, iv 0)] (by kernel_rfl) ?_
  refine ie ?_
  refine J_seq ?_
  refine sr 1 rfl ?_
  refine ip 1 0 [(4, iv 0)] (by kernel_rfl) ?_
  refine ie ?_
  refine J_block ?_
  refine JL2 (fun (n : Nat) (i : Nat) => i ≤ l.length ∧ ref24_Count_l2 l (l.drop i) n i = R ∧ n ≤ 3200) (fun (n : Nat) (i : Nat) => [(0, .slice lq l.length lk), (3, iv (n : Int)), (4, iv (i : Int))]) (fun (n : Nat) (i : Nat) => []) (fun (n : Nat) (i : Nat) => [sl cSp3 lq l]) (fun (n : Nat) (i : Nat) => l.length - i) 0 0 ⟨(by omega), hR, (by omega)⟩ ⟨rfl, (by first | rfl | (simp only [List.length_set, List.length_append, List.length_cons, List.length_nil]; rfl) | simp | (simp; omega)), (by first | rfl | (simp only [List.length_set, List.length_append, List.length_cons, List.length_nil]; rfl) | simp | (simp; omega)), trivial⟩ (mk [] rfl) Foll.refl ?_
  rintro n i ⟨hm1, hR, hn⟩
  have hq := hsl.getD i
  refine J_seq ?_
  refine sr 4 rfl ?_
  refine ip 4 0 [(9, bv (decide ((i : Int) < (l.length : Int))))] (by kernel_rfl) ?_
  refine ie ?_
  refine J_if rfl (fun h2 => ?_) (fun h2 => ?_)
  · have h2p : (i : Int) < (l.length : Int) := by simpa using h2
    rw [dropc Sp3.zero (show i < l.length by omega)] at hR; replace hR := (ref24_Count_l2.eq_2 ..).symm.trans hR
    refine J_skip ?_
    refine nx ?_
    refine J_seq ?_
    refine J_block ?_
    refine sr 6 rfl ?_
    refine ip 2 4 [(12, .slice lq l.length lk), (13, iv (i : Int))] (by kernel_rfl) ?_
    refine JI_base 0 rfl (by omega) fun a3 hq4 => ?_
    refine ix rfl (det_ixq slt56 rfl rfl hq4 rfl i rfl (by omega)) ?_
    refine ip 1 2 [(15, pa ((Addr.add a3 (i * 3)).add 1))] (by kernel_rfl) ?_
    refine ix rfl (det_ld_one (v := iv ((l.getD i Sp3.zero).frm)) (us := [iv ((l.getD i Sp3.zero).frm)]) ty3 rfl rfl (at_part (at_slq (c := cSp3) (sz := 3) hq4 (fun _ => rfl) 0 rfl (gd Sp3.zero (by omega))) (ws := [iv ((l.getD i Sp3.zero).frm)]) 1 1 rfl) rfl) ?_
    refine ip 1 0 [(5, iv ((l.getD i Sp3.zero).frm))] (by kernel_rfl) ?_
    refine ie ?_
    refine J_block ?_
    refine JL3 (fun (fu : Nat) (n1 : Nat) (at_ : Int) => (3200 - n1) < fu ∧ ref24_Count_l3 l i (ref24_Count_l2 l (l.drop (i + 1))) fu n1 at_ = R ∧ n1 ≤ 3200 ∧ (l.getD i Sp3.zero).frm ≤ at_) (fun (fu : Nat) (n1 : Nat) (at_ : Int) => [(0, .slice lq l.length lk), (3, iv (n1 : Int)), (4, iv (i : Int)), (5, iv at_)]) (fun (fu : Nat) (n1 : Nat) (at_ : Int) => []) (fun (fu : Nat) (n1 : Nat) (at_ : Int) => [sl cSp3 lq l]) (fun (fu : Nat) (n1 : Nat) (at_ : Int) => fu) ((3200 - n) + 1) n ((l.getD i Sp3.zero).frm) ⟨(Nat.lt_succ_self _), hR, (by omega), (by omega)⟩ ⟨rfl, (by first | rfl | (simp only [List.length_set, List.length_append, List.length_cons, List.length_nil]; rfl) | simp | (simp; omega)), rfl, (by first | rfl | (simp only [List.length_set, List.length_append, List.length_cons, List.length_nil]; rfl) | simp | (simp; omega)), trivial⟩ (mk [] rfl) Foll.refl ?_
    rintro fu n1 at_ ⟨hm5, hR, hn1, ha1⟩
    obtain ⟨fu1, rfl⟩ : ∃ m, fu = m + 1 := ⟨fu - 1, by omega⟩
    replace hR := (ref24_Count_l3.eq_2 ..).symm.trans hR
    refine J_seq ?_
    refine sr 11 rfl ?_
    refine ip 3 8 [(17, iv at_), (18, .slice lq l.length lk), (19, iv (i : Int))] (by kernel_rfl) ?_
    refine ix rfl (det_ixq slt56 rfl rfl hq4 rfl i rfl (by omega)) ?_
    refine ip 1 6 [(21, pa ((Addr.add a3 (i * 3)).add 2))] (by kernel_rfl) ?_
    refine ix rfl (det_ld_one (v := iv ((l.getD i Sp3.zero).to)) (us := [iv ((l.getD i Sp3.zero).to)]) ty3 rfl rfl (at_part (at_slq (c := cSp3) (sz := 3) hq4 (fun _ => rfl) 0 rfl (gd Sp3.zero (by omega))) (ws := [iv ((l.getD i Sp3.zero).to)]) 2 1 rfl) rfl) ?_
    refine ip 2 3 [(24, bv (decide (at_ < (l.getD i Sp3.zero).to)))] (by kernel_rfl) ?_
    refine iand 3 0 24 27 (decide ((n1 : Int) < 3200)) rfl (by kernel_rfl) (fun g6 => ?_) ?_
    · have g6p : at_ < (l.getD i Sp3.zero).to := by simpa using g6
      refine ip 3 0 [(27, bv (decide ((n1 : Int) < 3200)))] (by kernel_rfl) ?_
      exact JI_end (armI 2 24 27 g6 Foll.refl (mk [] rfl) rfl rfl rfl rfl rfl)
    refine ie ?_
    refine J_if rfl (fun h7 => ?_) (fun h7 => ?_)
    · have h7p : (at_ < (l.getD i Sp3.zero).to) ∧ ((n1 : Int) < 3200) := by simpa using h7
      replace hR := bt hR h7
      refine J_skip ?_
      refine nx ?_
      refine J_seq ?_
      refine J_block ?_
      refine J_region 3 rfl ?_
      refine ip 1 2 [(30, iv (n1 : Int))] (by kernel_rfl) ?_
      refine ix rfl (det_add64 rfl rfl rfl rfl (by omega)) ?_
      refine ip 1 0 [(3, iv ((n1 : Int) + 1))] (by kernel_rfl) ?_
      refine JI_end ?_
      refine nx ?_
      refine J_region 3 rfl ?_
      refine ip 1 2 [(28, iv at_)] (by kernel_rfl) ?_
      refine ix rfl (det_add64 rfl rfl rfl rfl (by omega)) ?_
      refine ip 1 0 [(5, iv (at_ + 1))] (by kernel_rfl) ?_
      refine JI_end ?_
      exact againL3 (z1 := (fu1 + 1)) (z2 := n1) (z3 := at_) fu1 (n1 + 1) (at_ + 1) ⟨(by omega), hR, (by omega), (by omega)⟩ (Nat.lt_succ_self _) ⟨rfl, (by first | rfl | (simp only [List.length_set, List.length_append, List.length_cons, List.length_nil]; rfl) | simp | (simp; omega)), rfl, (by first | rfl | (simp only [List.length_set, List.length_append, List.length_cons, List.length_nil]; rfl) | simp | (simp; omega)), trivial⟩ (mk [] rfl) Foll.refl
    · have h7p : ¬ ((at_ < (l.getD i Sp3.zero).to) ∧ ((n1 : Int) < 3200)) := by simpa using h7
      replace hR := bf hR h7
      refine J_exit ?_
      refine nx ?_
      refine J_region 3 rfl ?_
      refine ip 1 2 [(10, iv (i : Int))] (by kernel_rfl) ?_
      refine ix rfl (det_add64 rfl rfl rfl rfl (by omega)) ?_
      refine ip 1 0 [(4, iv ((i : Int) + 1))] (by kernel_rfl) ?_
      refine JI_end ?_
      exact againL2 (z1 := n) (z2 := i) n1 (i + 1) ⟨(by omega), hR, (by omega)⟩ (by (try dsimp only); omega) ⟨rfl, (by first | rfl | (simp only [List.length_set, List.length_append, List.length_cons, List.length_nil]; rfl) | simp | (simp; omega)), (by first | rfl | (simp only [List.length_set, List.length_append, List.length_cons, List.length_nil]; rfl) | simp | (simp; omega)), trivial⟩ (mk [] rfl) Foll.refl
  · have h2p : ¬ ((i : Int) < (l.length : Int)) := by simpa using h2
    rw [dropn h2p] at hR; replace hR := (ref24_Count_l2.eq_1 ..).symm.trans hR
    refine J_exit ?_
    refine nx ?_
    refine sr 2 rfl ?_
    refine ip 2 0 [(2, iv (n : Int))] (by kernel_rfl) ?_
    refine ie ?_
    refine J_ret ?_
    subst hR
    exact ends_ret rfl ⟨hr, hD⟩ (by simp [hD]) (res1 rfl (resV_tmp rfl)) () (by rfl) (mk [] rfl) Foll.nil

def law24_DamageJoins (x : List Sp3) (gap : Int) : Bool :=
  (bif (!law24_wakes) then false else (bindV (slices_Clone_api_Span_api_Span (x.take ((if (100 : Int) < (x.length : Int) then (100 : Int) else (x.length : Int)).toNat))) fun (rslicesCloneapiSpanapiSpan : List Sp3) => (bindV (damage_Join rslicesCloneapiSpanapiSpan gap) fun (rdamageJoin : List Sp3) => (bindV (ref24_Join rslicesCloneapiSpanapiSpan gap) fun (rref24Join : List Sp3) => (((slices_Equal_api_Span_api_Span rdamageJoin rref24Join) && (decide ((damage_Count rslicesCloneapiSpanapiSpan) = (ref24_Count rslicesCloneapiSpanapiSpan)))) && (slices_Equal_api_Span_api_Span rslicesCloneapiSpanapiSpan (x.take rslicesCloneapiSpanapiSpan.length)))))))

set_option maxRecDepth 100000 in
theorem law24_DamageJoins_c (x : List Sp3) (gap : Int) (xq : Option Addr) (xk : Nat) (hlx : x.length ≤ 9223372036854775807) (hcx : x.length ≤ xk) (hsx : spOk x) (hg : -9223372036854775808 ≤ gap ∧ gap ≤ 9223372036854775807) (R : Bool) (hR : law24_DamageJoins x gap = R) : ConV Tryz.prog 9 [.slice xq x.length xk, iv gap] [sl cSp3 xq x, sl cSpn (some ⟨0, 0, none⟩) tab0, sl cSpn (some ⟨1, 0, none⟩) tab1] (bv R) := by
  refine con_of_J (n := 36) Tryz.func9 rfl (by kernel_rfl) rfl rfl [(0, .slice xq x.length xk), (1, iv gap)] ⟨rfl, rfl, trivial⟩ fun X hX hr hD => ?_
  replace hR := (law24_DamageJoins.eq_1 ..).symm.trans hR
  refine sr 1 rfl ?_
  refine ip 1 0 [] (by kernel_rfl) ?_
  refine ie ?_
  refine J_seq ?_
  refine sr 2 rfl ?_
  refine ixc rfl (det_call (law24_wakes_c _ rfl) rfl rfl rfl rfl rfl (Foll.pick [1, 2] rfl)) ?_
  refine ip 1 0 [(7, bv (!law24_wakes))] (by kernel_rfl) ?_
  refine ie ?_
  refine J_if rfl (fun h1 => ?_) (fun h1 => ?_)
  · replace hR := bt hR h1
    refine sr 1 rfl ?_
    refine ip 1 0 [(4, bv false)] (by kernel_rfl) ?_
    refine ie ?_
    refine J_ret ?_
    subst hR
    exact ends_ret rfl ⟨hr, hD⟩ (by simp [hD]) (res1 rfl (resV_tmp rfl)) () (by rfl) (mk [] rfl) Foll.nil
  · replace hR := bf hR h1
    refine J_skip ?_
    refine nx ?_
    refine sr 7 rfl ?_
    refine ip 4 3 [(8, .slice xq x.length xk), (11, iv (if (100 : Int) < (x.length : Int) then (100 : Int) else (x.length : Int)))] (by kernel_rfl) ?_
    have := mm_min (x.length : Int) (100 : Int)
    refine JI_fact1 (sl_take (at_of 0 rfl) ((if (100 : Int) < (x.length : Int) then (100 : Int) else (x.length : Int)).toNat)) ?_
    refine ix rfl (det_slc0 (n' := (x.take ((if (100 : Int) < (x.length : Int) then (100 : Int) else (x.length : Int)).toNat)).length) slt56 rfl rfl ((if (100 : Int) < (x.length : Int) then (100 : Int) else (x.length : Int)).toNat) xk (sb_some rfl (by omega)) sb_none (by omega) (by omega) (by first | rfl | omega | (simp only [List.length_take, List.length_drop]; omega) | (simp; done)) rfl) ?_
    have hQ := bindVx hR; clear hR; obtain ⟨rslicesCloneapiSpanapiSpan, hrslicesCloneapiSpanapiSpan, hR⟩ := hQ
    refine it rfl (tri_callN (L2 := []) (slices_Clone_api_Span_api_Span_c (x.take ((if (100 : Int) < (x.length : Int) then (100 : Int) else (x.length : Int)).toNat)) xq xk (by first | omega | (simp only [List.length_take, List.length_drop, List.length_append, List.length_cons, List.length_nil, List.length_set, List.length_map]; omega) | decide) (by first | omega | (simp only [List.length_take, List.length_drop, List.length_append, List.length_cons, List.length_nil, List.length_set, List.length_map]; omega) | decide) (by first | omega | (simp only [List.length_append, List.length_cons, List.length_nil, List.length_take, List.length_drop, List.length_set]; omega)) rslicesCloneapiSpanapiSpan hrslicesCloneapiSpanapiSpan) rfl rfl rfl rfl rfl (Foll.pick [0] rfl) (List.Perm.refl _) (fun ⟨r2, hk3⟩ => ((vo cSp3 63 r2 rslicesCloneapiSpanapiSpan) ++ ([]))) (fun _ => by first | rfl | simp only [List.append_nil, List.cons_append, List.nil_append, List.append_assoc])) fun ⟨r2, hk3⟩ => ?_
    have := VOk.le hk3
    have := VOk.cap hk3
    have hcl_rslicesCloneapiSpanapiSpan := slices_Clone_api_Span_api_Span_eq (x.take ((if (100 : Int) < (x.length : Int) then (100 : Int) else (x.length : Int)).toNat)); rw [hrslicesCloneapiSpanapiSpan] at hcl_rslicesCloneapiSpanapiSpan; have := congrArg List.length hcl_rslicesCloneapiSpanapiSpan; try simp only [List.length_take, List.length_drop] at this
    refine JI_seal [] [] (T := 63) (c := cSp3) (r := r2) (xs := rslicesCloneapiSpanapiSpan) hk3 (by first | rfl | simp only [List.cons_append, List.append_assoc, List.nil_append, List.append_nil]) ?_
    refine ip 1 0 [(5, .slice (va r2.q) rslicesCloneapiSpanapiSpan.length r2.k)] (by kernel_rfl) ?_
    refine ie ?_
    refine sr 23 rfl ?_
    refine ip 2 21 [(14, .slice (va r2.q) rslicesCloneapiSpanapiSpan.length r2.k), (15, iv gap)] (by kernel_rfl) ?_
    have hQ := bindVx hR; clear hR; obtain ⟨rdamageJoin, hrdamageJoin, hR⟩ := hQ
    refine it rfl (tri_callN (L2 := []) (damage_Join_c rslicesCloneapiSpanapiSpan gap (va r2.q) r2.k (by first | omega | (simp only [List.length_take, List.length_drop, List.length_append, List.length_cons, List.length_nil, List.length_set, List.length_map]; omega) | decide) (by first | omega | (simp only [List.length_take, List.length_drop, List.length_append, List.length_cons, List.length_nil, List.length_set, List.length_map]; omega) | decide) (by first | omega | (simp only [List.length_append, List.length_cons, List.length_nil, List.length_take, List.length_drop, List.length_set]; omega)) rdamageJoin hrdamageJoin) rfl rfl rfl rfl rfl (Foll.pick [0] rfl) (List.Perm.refl _) (fun ⟨r4, hk5⟩ => ((vo cSp3 63 r4 rdamageJoin) ++ ([]))) (fun _ => by first | rfl | simp only [List.append_nil, List.cons_append, List.nil_append, List.append_assoc])) fun ⟨r4, hk5⟩ => ?_
    have := VOk.le hk5
    have := VOk.cap hk5
    refine JI_seal [] [] (T := 63) (c := cSp3) (r := r4) (xs := rdamageJoin) hk5 (by first | rfl | simp only [List.cons_append, List.append_assoc, List.nil_append, List.append_nil]) ?_
    refine ip 2 18 [(17, .slice (va r2.q) rslicesCloneapiSpanapiSpan.length r2.k), (18, iv gap)] (by kernel_rfl) ?_
    have hQ := bindVx hR; clear hR; obtain ⟨rref24Join, hrref24Join, hR⟩ := hQ
    refine it rfl (tri_callN (L2 := []) (ref24_Join_c rslicesCloneapiSpanapiSpan gap (va r2.q) r2.k (by first | omega | (simp only [List.length_take, List.length_drop, List.length_append, List.length_cons, List.length_nil, List.length_set, List.length_map]; omega) | decide) (by first | omega | (simp only [List.length_take, List.length_drop, List.length_append, List.length_cons, List.length_nil, List.length_set, List.length_map]; omega) | decide) (by first | omega | (simp only [List.length_append, List.length_cons, List.length_nil, List.length_take, List.length_drop, List.length_set]; omega)) (by first | assumption | (rw [hcl_rslicesCloneapiSpanapiSpan]; exact hsx.take _)) (by first | omega | (simp only [List.length_append, List.length_cons, List.length_nil, List.length_take, List.length_drop, List.length_set]; omega)) rref24Join hrref24Join) rfl rfl rfl rfl rfl (Foll.pick [1] rfl) (List.Perm.refl _) (fun ⟨r6, hk7⟩ => ((vo cSp3 63 r6 rref24Join) ++ ([]))) (fun _ => by first | rfl | simp only [List.append_nil, List.cons_append, List.nil_append, List.append_assoc])) fun ⟨r6, hk7⟩ => ?_
    have := VOk.le hk7
    have := VOk.cap hk7
    refine JI_seal [] [] (T := 63) (c := cSp3) (r := r6) (xs := rref24Join) hk7 (by first | rfl | simp only [List.cons_append, List.append_assoc, List.nil_append, List.append_nil]) ?_
    refine ixc rfl (det_call (slices_Equal_api_Span_api_Span_c rdamageJoin rref24Join (va r4.q) r4.k (va r6.q) r6.k (by first | omega | (simp only [List.length_take, List.length_drop, List.length_append, List.length_cons, List.length_nil, List.length_set, List.length_map]; omega) | decide) (by first | omega | (simp only [List.length_take, List.length_drop, List.length_append, List.length_cons, List.length_nil, List.length_set, List.length_map]; omega) | decide) (by first | omega | (simp only [List.length_take, List.length_drop, List.length_append, List.length_cons, List.length_nil, List.length_set, List.length_map]; omega) | decide) (by first | omega | (simp only [List.length_take, List.length_drop, List.length_append, List.length_cons, List.length_nil, List.length_set, List.length_map]; omega) | decide) _ rfl) rfl rfl rfl rfl rfl (Foll.pick [1, 0] rfl)) ?_
    refine ip 1 15 [(21, bv (slices_Equal_api_Span_api_Span rdamageJoin rref24Join))] (by kernel_rfl) ?_
    refine iand 6 9 21 27 (decide ((damage_Count rslicesCloneapiSpanapiSpan) = (ref24_Count rslicesCloneapiSpanapiSpan))) rfl (by kernel_rfl) (fun g8 => ?_) ?_
    · refine ip 1 5 [(22, .slice (va r2.q) rslicesCloneapiSpanapiSpan.length r2.k)] (by kernel_rfl) ?_
      refine ixc rfl (det_call (damage_Count_c rslicesCloneapiSpanapiSpan (va r2.q) r2.k (by first | omega | (simp only [List.length_take, List.length_drop, List.length_append, List.length_cons, List.length_nil, List.length_set, List.length_map]; omega) | decide) (by first | omega | (simp only [List.length_take, List.length_drop, List.length_append, List.length_cons, List.length_nil, List.length_set, List.length_map]; omega) | decide) _ rfl) rfl rfl rfl rfl rfl (Foll.pick [2] rfl)) ?_
      refine ip 1 3 [(24, .slice (va r2.q) rslicesCloneapiSpanapiSpan.length r2.k)] (by kernel_rfl) ?_
      refine ixc rfl (det_call (ref24_Count_c rslicesCloneapiSpanapiSpan (va r2.q) r2.k (by first | omega | (simp only [List.length_take, List.length_drop, List.length_append, List.length_cons, List.length_nil, List.length_set, List.length_map]; omega) | decide) (by first | omega | (simp only [List.length_take, List.length_drop, List.length_append, List.length_cons, List.length_nil, List.length_set, List.length_map]; omega) | decide) (by first | assumption | (rw [hcl_rslicesCloneapiSpanapiSpan]; exact hsx.take _)) _ rfl) rfl rfl rfl rfl rfl (Foll.pick [2] rfl)) ?_
      refine ip 2 0 [(27, bv (decide ((damage_Count rslicesCloneapiSpanapiSpan) = (ref24_Count rslicesCloneapiSpanapiSpan))))] (by kernel_rfl) ?_
      exact JI_end (armI 6 21 27 g8 Foll.refl (mk [] rfl) rfl rfl rfl rfl rfl)
    refine ip 1 8 [(28, bv ((slices_Equal_api_Span_api_Span rdamageJoin rref24Join) && (decide ((damage_Count rslicesCloneapiSpanapiSpan) = (ref24_Count rslicesCloneapiSpanapiSpan)))))] (by kernel_rfl) ?_
    refine iand 7 1 28 35 (slices_Equal_api_Span_api_Span rslicesCloneapiSpanapiSpan (x.take rslicesCloneapiSpanapiSpan.length)) rfl (by kernel_rfl) (fun g9 => ?_) ?_
    · have g9p := g9; try simp only [Bool.and_eq_true, Bool.or_eq_true, Bool.and_eq_false_iff, Bool.or_eq_false_iff, Bool.not_eq_true', Bool.not_eq_false', decide_eq_true_eq, decide_eq_false_iff_not] at g9p
      refine ip 4 3 [(29, .slice (va r2.q) rslicesCloneapiSpanapiSpan.length r2.k), (30, .slice xq x.length xk), (32, iv (rslicesCloneapiSpanapiSpan.length : Int))] (by kernel_rfl) ?_
      refine JI_fact1 (sl_take (at_of 4 rfl) rslicesCloneapiSpanapiSpan.length) ?_
      refine ix rfl (det_slc0 (n' := (x.take rslicesCloneapiSpanapiSpan.length).length) slt56 rfl rfl rslicesCloneapiSpanapiSpan.length xk (sb_some rfl rfl) sb_none (by omega) (by omega) (by first | rfl | omega | (simp only [List.length_take, List.length_drop]; omega) | (simp; done)) rfl) ?_
      have : (x.take rslicesCloneapiSpanapiSpan.length).length = min rslicesCloneapiSpanapiSpan.length x.length := List.length_take
      refine ixc rfl (det_call (slices_Equal_api_Span_api_Span_c rslicesCloneapiSpanapiSpan (x.take rslicesCloneapiSpanapiSpan.length) (va r2.q) r2.k xq xk (by first | omega | (simp only [List.length_take, List.length_drop, List.length_append, List.length_cons, List.length_nil, List.length_set, List.length_map]; omega) | decide) (by first | omega | (simp only [List.length_take, List.length_drop, List.length_append, List.length_cons, List.length_nil, List.length_set, List.length_map]; omega) | decide) (by first | omega | (simp only [List.length_take, List.length_drop, List.length_append, List.length_cons, List.length_nil, List.length_set, List.length_map]; omega) | decide) (by first | omega | (simp only [List.length_take, List.length_drop, List.length_append, List.length_cons, List.length_nil, List.length_set, List.length_map]; omega) | decide) _ rfl) rfl rfl rfl rfl rfl (Foll.pick [3, 0] rfl)) ?_
      refine ip 1 0 [(35, bv (slices_Equal_api_Span_api_Span rslicesCloneapiSpanapiSpan (x.take rslicesCloneapiSpanapiSpan.length)))] (by kernel_rfl) ?_
      exact JI_end (armI 7 28 35 g9 (Foll.pick [1, 2, 3, 4, 5, 6, 7] rfl) (mk [] rfl) rfl rfl rfl rfl rfl)
    refine ip 1 0 [(4, bv (((slices_Equal_api_Span_api_Span rdamageJoin rref24Join) && (decide ((damage_Count rslicesCloneapiSpanapiSpan) = (ref24_Count rslicesCloneapiSpanapiSpan)))) && (slices_Equal_api_Span_api_Span rslicesCloneapiSpanapiSpan (x.take rslicesCloneapiSpanapiSpan.length))))] (by kernel_rfl) ?_
    refine ie ?_
    refine J_ret ?_
    subst hR
    exact ends_ret rfl ⟨hr, hD⟩ (by simp [hD]) (res1 rfl (resV_tmp rfl)) () (by rfl) (mk [] rfl) Foll.nil

end Go.Proofs.YtlcaphkcfmlljaaGreatDoor
