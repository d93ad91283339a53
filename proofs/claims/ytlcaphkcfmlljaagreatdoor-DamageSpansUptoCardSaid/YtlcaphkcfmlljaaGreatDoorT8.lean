import Derived.Test.YtlcaphkcfmlljaaGreatDoorD2
import Derived.Test.YtlcaphkcfmlljaaGreatDoorFenV
import Derived.Test.YtlcaphkcfmlljaaGreatDoorProg
import Derived.Test.YtlcaphkcfmlljaaGreatDoorT4a
import Derived.Test.YtlcaphkcfmlljaaGreatDoorT4b
import Derived.Test.YtlcaphkcfmlljaaGreatDoorT4c
import Derived.Test.YtlcaphkcfmlljaaGreatDoorT5
set_option linter.unusedVariables false
set_option linter.unusedSimpArgs false
set_option linter.unnecessarySimpa false
namespace Go.Proofs.YtlcaphkcfmlljaaGreatDoor
open Go Go.Fen
theorem apt123 : ApTy Tryz.prog 123 4 1 1 := ⟨by kernel_rfl, by kernel_rfl, rfl⟩
theorem slt123 : SlTy Tryz.prog 123 4 1 := ⟨by kernel_rfl, by kernel_rfl⟩
theorem zero4 : Zero Tryz.prog 4 [bv false] := ⟨by kernel_rfl⟩
def ref24_together (a : List Cel) (b : List Cel) (i : Int) : Bool :=
  (((decide ((0 : Int) ≤ i)) && (decide ((i + 1) < (a.length : Int)))) && ((decide ((a.getD ((i).toNat) Cel.zero).wide = 1)) || (decide ((b.getD ((i).toNat) Cel.zero).wide = 1))))

set_option maxRecDepth 100000 in
theorem ref24_together_c (a : List Cel) (b : List Cel) (i : Int) (aq : Option Addr) (ak : Nat) (bq : Option Addr) (bk : Nat) (hla : a.length ≤ 9223372036854775807) (hca : a.length ≤ ak) (hlb : b.length ≤ 9223372036854775807) (hcb : b.length ≤ bk) (hab : a.length ≤ b.length) (h6 : a.length ≤ 1000000) (hi : 0 ≤ i ∧ i < 1000000) (R : Bool) (hR : ref24_together a b i = R) : ConV Tryz.prog 122 [.slice aq a.length ak, .slice bq b.length bk, iv i] [sl cCel aq a, sl cCel bq b] (bv R) := by
  refine con_of_J (n := 32) Tryz.func122 rfl (by kernel_rfl) rfl rfl [(0, .slice aq a.length ak), (1, .slice bq b.length bk), (2, iv i)] ⟨rfl, rfl, rfl, trivial⟩ fun X hX hr hD => ?_
  replace hR := (ref24_together.eq_1 ..).symm.trans hR
  refine sr 1 rfl ?_
  refine ip 1 0 [] (by kernel_rfl) ?_
  refine ie ?_
  refine sr 26 rfl ?_
  refine ip 3 23 [(9, bv (decide ((0 : Int) ≤ i)))] (by kernel_rfl) ?_
  refine iand 6 17 9 15 (decide ((i + 1) < (a.length : Int))) rfl (by kernel_rfl) (fun g1 => ?_) ?_
  · have g1p : (0 : Int) ≤ i := by simpa using g1
    refine ip 1 5 [(10, iv i)] (by kernel_rfl) ?_
    refine ix rfl (det_add64 rfl rfl rfl rfl (by omega)) ?_
    refine ip 4 0 [(15, bv (decide ((i + 1) < (a.length : Int))))] (by kernel_rfl) ?_
    exact JI_end (armI 4 9 15 g1 Foll.refl (mk [] rfl) rfl rfl rfl rfl rfl)
  refine ip 1 16 [(16, bv ((decide ((0 : Int) ≤ i)) && (decide ((i + 1) < (a.length : Int)))))] (by kernel_rfl) ?_
  refine iand 15 1 16 31 ((decide ((a.getD ((i).toNat) Cel.zero).wide = 1)) || (decide ((b.getD ((i).toNat) Cel.zero).wide = 1))) rfl (by kernel_rfl) (fun g2 => ?_) ?_
  · have g2p : ((0 : Int) ≤ i) ∧ ((i + 1) < (a.length : Int)) := by simpa using g2
    refine ip 2 13 [(17, .slice aq a.length ak), (18, iv i)] (by kernel_rfl) ?_
    refine JI_base 0 rfl (by omega) fun a3 hq4 => ?_
    refine ix rfl (det_ixq slt74 rfl rfl hq4 rfl ((i).toNat) (by omega) (by omega)) ?_
    refine ip 1 11 [(20, pa ((Addr.add a3 (((i).toNat) * 12)).add 3))] (by kernel_rfl) ?_
    refine ix rfl (det_ld_one (v := iv ((a.getD ((i).toNat) Cel.zero).wide)) (us := [iv ((a.getD ((i).toNat) Cel.zero).wide)]) ty3 rfl rfl (at_part (at_slq (c := cCel) (sz := 12) hq4 (fun _ => rfl) 0 rfl (gd Cel.zero (by omega))) (ws := [iv ((a.getD ((i).toNat) Cel.zero).wide)]) 3 1 rfl) rfl) ?_
    refine ip 2 8 [(23, bv (decide ((a.getD ((i).toNat) Cel.zero).wide = 1)))] (by kernel_rfl) ?_
    refine ior 7 1 23 30 (decide ((b.getD ((i).toNat) Cel.zero).wide = 1)) rfl (by kernel_rfl) (fun g5 => ?_) ?_
    · have g5p : ¬ ((a.getD ((i).toNat) Cel.zero).wide = 1) := by simpa using g5
      refine ip 2 5 [(24, .slice bq b.length bk), (25, iv i)] (by kernel_rfl) ?_
      refine JI_base 1 rfl (by omega) fun a6 hq7 => ?_
      refine ix rfl (det_ixq slt74 rfl rfl hq7 rfl ((i).toNat) (by omega) (by omega)) ?_
      refine ip 1 3 [(27, pa ((Addr.add a6 (((i).toNat) * 12)).add 3))] (by kernel_rfl) ?_
      refine ix rfl (det_ld_one (v := iv ((b.getD ((i).toNat) Cel.zero).wide)) (us := [iv ((b.getD ((i).toNat) Cel.zero).wide)]) ty3 rfl rfl (at_part (at_slq (c := cCel) (sz := 12) hq7 (fun _ => rfl) 1 rfl (gd Cel.zero (by omega))) (ws := [iv ((b.getD ((i).toNat) Cel.zero).wide)]) 3 1 rfl) rfl) ?_
      refine ip 2 0 [(30, bv (decide ((b.getD ((i).toNat) Cel.zero).wide = 1)))] (by kernel_rfl) ?_
      exact JI_end (armI 7 23 30 g5 Foll.refl (mk [] rfl) rfl rfl rfl rfl rfl)
    refine ip 1 0 [(31, bv ((decide ((a.getD ((i).toNat) Cel.zero).wide = 1)) || (decide ((b.getD ((i).toNat) Cel.zero).wide = 1))))] (by kernel_rfl) ?_
    exact JI_end (armI 9 16 31 g2 Foll.refl (mk [] rfl) rfl rfl rfl rfl rfl)
  refine ip 1 0 [(6, bv (((decide ((0 : Int) ≤ i)) && (decide ((i + 1) < (a.length : Int)))) && ((decide ((a.getD ((i).toNat) Cel.zero).wide = 1)) || (decide ((b.getD ((i).toNat) Cel.zero).wide = 1)))))] (by kernel_rfl) ?_
  refine ie ?_
  refine J_ret ?_
  subst hR
  exact ends_ret rfl ⟨hr, hD⟩ (by simp [hD]) (res1 rfl (resV_tmp rfl)) () (by rfl) (mk [] rfl) Foll.nil

theorem count_set2 {l : List Bool} {i : Nat} (h : i + 1 < l.length) (hne : (l.getD i false == l.getD (i + 1) false) = false) : ((l.set i true).set (i + 1) true).count false + 1 ≤ l.count false := by
  have e1 : l.getD i false = l[i] := by simp [List.getD_eq_getElem?_getD, show i < l.length by omega]
  have e2 : l.getD (i + 1) false = l[i + 1] := by simp [List.getD_eq_getElem?_getD, h]
  rw [e1, e2] at hne
  rw [List.count_set (h := by rw [List.length_set]; exact h), List.count_set (h := by omega), List.getElem_set_ne (by omega)]
  have hp : l[i] = false ∨ l[i + 1] = false := by
    cases h1 : l[i] <;> cases h2 : l[i + 1] <;> simp [h1, h2] at hne ⊢
  have hc : 0 < l.count false := by
    rw [List.count_pos_iff]
    rcases hp with h1 | h1 <;> rw [← h1] <;> exact List.getElem_mem _
  cases h1 : l[i] <;> cases h2 : l[i + 1] <;> simp [h1, h2] at hne ⊢ <;> omega

def ref24_marked_l5 (a : List Cel) (b : List Cel) (ag_ref24_marked_l4 : List Bool → Bool → List Bool) : Nat → List Bool → Bool → Nat → List Bool
  | 0, _, _, _ => []
  | fu3 + 1, in_2, more1, i1 => (bif (decide (((i1 : Int) + 1) < (a.length : Int))) then (bif ((ref24_together a b (i1 : Int)) && (!((in_2.getD i1 false) == (in_2.getD (i1 + 1) false)))) then ref24_marked_l5 a b ag_ref24_marked_l4 fu3 ((in_2.set i1 true).set (i1 + 1) true) true (i1 + 1) else ref24_marked_l5 a b ag_ref24_marked_l4 fu3 in_2 more1 (i1 + 1)) else ag_ref24_marked_l4 in_2 more1)
def ref24_marked_l4 (a : List Cel) (b : List Cel) : Nat → List Bool → Bool → List Bool
  | 0, _, _ => []
  | fu1 + 1, in_1, more => (bif more then ref24_marked_l5 a b (ref24_marked_l4 a b fu1) ((a.length - (0 + 1)) + 1) in_1 false 0 else in_1)
def ref24_marked_l0 (a : List Cel) (b : List Cel) : List Cel → List Bool → Nat → List Bool
  | [], in_, i => ref24_marked_l4 a b ((in_.count false + true.toNat) + 1) in_ true
  | hd_l0 :: tl_l0, in_, i => ref24_marked_l0 a b tl_l0 (in_.set i (!(decide (hd_l0 = (b.getD i Cel.zero))))) (i + 1)
def ref24_marked (a : List Cel) (b : List Cel) : List Bool :=
  ref24_marked_l0 a b a (List.replicate a.length false) 0

theorem ref24_marked_l5_len (a b : List Cel) (n : Nat) (ag : List Bool → Bool → List Bool) (hag : ∀ l m, l.length ≤ n → (ag l m).length ≤ n) : ∀ (fu : Nat) (l : List Bool) (m : Bool) (i : Nat), l.length ≤ n → (ref24_marked_l5 a b ag fu l m i).length ≤ n
  | 0, l, m, i, h => by simp [ref24_marked_l5]
  | fu + 1, l, m, i, h => by
    simp only [ref24_marked_l5]
    cases (decide (((i : Int) + 1) < (a.length : Int))) with
    | false => rw [cond_false]; exact hag l m h
    | true =>
      rw [cond_true]
      cases ((ref24_together a b (i : Int)) && (!((l.getD i false) == (l.getD (i + 1) false)))) with
      | true => rw [cond_true]; exact ref24_marked_l5_len a b n ag hag fu _ _ _ (by rw [List.length_set, List.length_set]; exact h)
      | false => rw [cond_false]; exact ref24_marked_l5_len a b n ag hag fu _ _ _ h
theorem ref24_marked_l4_len (a b : List Cel) (n : Nat) : ∀ (fu : Nat) (l : List Bool) (m : Bool), l.length ≤ n → (ref24_marked_l4 a b fu l m).length ≤ n
  | 0, l, m, h => by simp [ref24_marked_l4]
  | fu + 1, l, m, h => by
    simp only [ref24_marked_l4]
    cases m with
    | true => rw [cond_true]; exact ref24_marked_l5_len a b n _ (fun l m h => ref24_marked_l4_len a b n fu l m h) _ _ _ _ h
    | false => rw [cond_false]; exact h
theorem ref24_marked_l0_len (a b : List Cel) (n : Nat) : ∀ (xs : List Cel) (l : List Bool) (i : Nat), l.length ≤ n → (ref24_marked_l0 a b xs l i).length ≤ n
  | [], l, i, h => by simp only [ref24_marked_l0]; exact ref24_marked_l4_len a b n _ _ _ h
  | x :: xs, l, i, h => by simp only [ref24_marked_l0]; exact ref24_marked_l0_len a b n xs _ _ (by rw [List.length_set]; exact h)
theorem ref24_marked_len (a b : List Cel) : (ref24_marked a b).length ≤ a.length := by
  unfold ref24_marked
  first | exact ref24_marked_l0_len a b _ _ _ _ (by simp) | (simp only [bindV]; exact ref24_marked_l0_len a b _ _ _ _ (by simp))

set_option maxRecDepth 100000 in
theorem ref24_marked_c (a : List Cel) (b : List Cel) (aq : Option Addr) (ak : Nat) (bq : Option Addr) (bk : Nat) (hla : a.length ≤ 9223372036854775807) (hca : a.length ≤ ak) (hlb : b.length ≤ 9223372036854775807) (hcb : b.length ≤ bk) (hab : a.length ≤ b.length) (h6 : a.length ≤ 1000000) (R : List Bool) (hR : ref24_marked a b = R) : Con Tryz.prog 65 [.slice aq a.length ak, .slice bq b.length bk] [] [sl cCel aq a, sl cCel bq b] ({r : VR // VOk 1 R.length r}) (fun x => .slice (va x.1.q) R.length x.1.k) (fun x => ((vo cBool 4 x.1 R) ++ ([]))) (fun x => []) := by
  refine con_of_J (n := 62) Tryz.func65 rfl (by kernel_rfl) rfl rfl [(0, .slice aq a.length ak), (1, .slice bq b.length bk)] ⟨rfl, rfl, trivial⟩ fun X hX hr hD => ?_
  replace hR := (ref24_marked.eq_1 ..).symm.trans hR
  refine sr 1 rfl ?_
  refine ip 1 0 [] (by kernel_rfl) ?_
  refine ie ?_
  refine sr 4 rfl ?_
  refine ip 2 2 [(10, iv (a.length : Int))] (by kernel_rfl) ?_
  refine it rfl (tri_make (f := cBool) (l := a.length) (c := a.length) false apt123 zero4.ok (fun _ => rfl) rfl rfl rfl (by omega) (by first | omega | (simp only [List.length_cons, List.length_nil, List.length_append, List.length_take, List.length_drop]; omega)) (by omega)) fun ⟨r1, hr2⟩ => ?_
  have : (List.replicate a.length false).length = a.length := List.length_replicate
  have := VOk.le hr2
  have := VOk.cap hr2
  have : (List.replicate a.length false).length = a.length := List.length_replicate
  refine ip 1 0 [(5, .slice (va r1.q) ((List.replicate a.length false).length) r1.k)] (by kernel_rfl) ?_
  refine ie ?_
  refine J_seq ?_
  refine sr 1 rfl ?_
  refine ip 1 0 [(6, iv 0)] (by kernel_rfl) ?_
  refine ie ?_
  refine J_block ?_
  refine JL3 (fun (in_ : List Bool) (inr : VR) (i : Nat) => i ≤ a.length ∧ ref24_marked_l0 a b (a.drop i) in_ i = R ∧ VOk 1 in_.length inr ∧ in_.length = a.length) (fun (in_ : List Bool) (inr : VR) (i : Nat) => [(0, .slice aq a.length ak), (1, .slice bq b.length bk), (5, .slice (va inr.q) in_.length inr.k), (6, iv (i : Int))]) (fun (in_ : List Bool) (inr : VR) (i : Nat) => ((vo cBool 4 inr in_) ++ ([]))) (fun (in_ : List Bool) (inr : VR) (i : Nat) => [sl cCel aq a, sl cCel bq b]) (fun (in_ : List Bool) (inr : VR) (i : Nat) => a.length - i) (List.replicate a.length false) r1 0 ⟨(by omega), hR, hr2, (by simp)⟩ ⟨rfl, rfl, (by first | rfl | (simp only [List.length_set, List.length_append, List.length_cons, List.length_nil]; rfl) | simp | (simp; omega)), (by first | rfl | (simp only [List.length_set, List.length_append, List.length_cons, List.length_nil]; rfl) | simp | (simp; omega)), trivial⟩ (mc [vo cBool 4 r1 (List.replicate a.length false)] [true] rfl (by first | rfl | (simp only [List.length_set] <;> rfl))) Foll.refl ?_
  rintro in_ inr i ⟨hm3, hR, hokinr, hin⟩
  have := VOk.le hokinr
  refine J_seq ?_
  refine sr 4 rfl ?_
  refine ip 4 0 [(15, bv (decide ((i : Int) < (a.length : Int))))] (by kernel_rfl) ?_
  refine ie ?_
  refine J_if rfl (fun h4 => ?_) (fun h4 => ?_)
  · have h4p : (i : Int) < (a.length : Int) := by simpa using h4
    rw [dropc Cel.zero (show i < a.length by omega)] at hR; replace hR := (ref24_marked_l0.eq_2 ..).symm.trans hR
    refine J_skip ?_
    refine nx ?_
    refine J_seq ?_
    refine J_block ?_
    refine sh' 13 [(12, vo cBool 4 inr in_)] [sl cCel aq a, sl cCel bq b] ((vo cBool 4 inr in_) ++ ([])) #[false, false, false, false, false, false, false, false, false, false, false, false, false] (by kernel_rfl) rfl (by kernel_rfl) (by kernel_rfl) (by kernel_rfl) (mc [vo cBool 4 inr in_] [true] rfl (by first | rfl | (simp only [List.length_set] <;> rfl))) Foll.refl ?_
    refine hpur [0, 1, 2, 3, 6, 7] 7 #[true, true, true, true, false, false, true, true, false, false, false, false, false] [(18, .slice (va inr.q) in_.length inr.k), (19, iv (i : Int)), (20, .slice aq a.length ak), (21, iv (i : Int)), (24, .slice bq b.length bk), (25, iv (i : Int))] (by kernel_rfl) ?_
    refine JH_base 0 rfl (by omega) fun a5 hq6 => ?_
    refine htak 4 ((vo cBool 4 inr in_) ++ ([])) #[true, true, true, true, true, false, true, true, false, false, false, false, false] rfl rfl rfl (by kernel_rfl) (by kernel_rfl) (by kernel_rfl) (det_ixq slt74 rfl rfl hq6 rfl i rfl (by omega)) ?_
    refine htak 5 ((vo cBool 4 inr in_) ++ ([])) #[true, true, true, true, true, true, true, true, false, false, false, false, false] rfl rfl rfl (by kernel_rfl) (by kernel_rfl) (by kernel_rfl) (det_ld_agg (us := cCel (a.getD i Cel.zero)) ty79 rfl rfl (at_slq (c := cCel) (sz := 12) hq6 (fun _ => rfl) 0 rfl (gd Cel.zero (by omega))) rfl) ?_
    refine JH_base 1 rfl (by omega) fun a7 hq8 => ?_
    refine htak 8 ((vo cBool 4 inr in_) ++ ([])) #[true, true, true, true, true, true, true, true, true, false, false, false, false] rfl rfl rfl (by kernel_rfl) (by kernel_rfl) (by kernel_rfl) (det_ixq slt74 rfl rfl hq8 rfl i rfl (by omega)) ?_
    refine htak 9 ((vo cBool 4 inr in_) ++ ([])) #[true, true, true, true, true, true, true, true, true, true, false, false, false] rfl rfl rfl (by kernel_rfl) (by kernel_rfl) (by kernel_rfl) (det_ld_agg (us := cCel (b.getD i Cel.zero)) ty79 rfl rfl (at_slq (c := cCel) (sz := 12) hq8 (fun _ => rfl) 1 rfl (gd Cel.zero (by omega))) rfl) ?_
    refine htak 10 ((vo cBool 4 inr in_) ++ ([])) #[true, true, true, true, true, true, true, true, true, true, true, false, false] rfl rfl rfl (by kernel_rfl) (by kernel_rfl) (by kernel_rfl) (det_nes (a := (a.getD i Cel.zero)) (b := (b.getD i Cel.zero)) eqt79 rfl rfl rfl) ?_
    obtain ⟨b9, hb10⟩ := VOk.some hokinr (by omega)
    obtain ⟨q11, k12, j13⟩ := inr
    obtain rfl : q11 = some b9 := hb10
    refine htak 11 ((vo cBool 4 (⟨some b9, k12, j13⟩ : VR) in_) ++ ([])) #[true, true, true, true, true, true, true, true, true, true, true, true, false] rfl rfl rfl (by kernel_rfl) (by kernel_rfl) (by kernel_rfl) (det_ix_vec slt123 rfl rfl rfl i rfl (by omega)) ?_
    refine hone 12 [] #[true, true, true, true, true, true, true, true, true, true, true, true, true] rfl rfl rfl (by kernel_rfl) (by kernel_rfl) (by kernel_rfl) (tri_vec_store (us := [bv (!(decide ((a.getD i Cel.zero) = (b.getD i Cel.zero))))]) (u' := (!(decide ((a.getD i Cel.zero) = (b.getD i Cel.zero))))) (c := cBool) (sz := 1) ty4 (fun _ => rfl) rfl rfl rfl 0 rfl rfl rfl rfl i 0 rfl (gd false (by omega)) rfl rfl) (fun _ => (List.nil_sublist _)) (fun _ => Foll.refl) fun _ => ?_
    refine JH_done (by kernel_rfl) ?_
    refine nx ?_
    refine J_region 3 rfl ?_
    refine ip 1 2 [(16, iv (i : Int))] (by kernel_rfl) ?_
    refine ix rfl (det_add64 rfl rfl rfl rfl (by omega)) ?_
    refine ip 1 0 [(6, iv ((i : Int) + 1))] (by kernel_rfl) ?_
    refine JI_end ?_
    exact againL3 (z1 := in_) (z2 := (⟨some b9, k12, j13⟩ : VR)) (z3 := i) (in_.set i (!(decide ((a.getD i Cel.zero) = (b.getD i Cel.zero))))) (⟨some b9, k12, j13⟩ : VR) (i + 1) ⟨(by omega), hR, (VOk.cast hokinr (by simp)), (by first | omega | (simp only [List.length_set]; omega))⟩ (by (try dsimp only); omega) ⟨rfl, rfl, (by first | rfl | (simp only [List.length_set, List.length_append, List.length_cons, List.length_nil]; rfl) | simp | (simp; omega)), (by first | rfl | (simp only [List.length_set, List.length_append, List.length_cons, List.length_nil]; rfl) | simp | (simp; omega)), trivial⟩ (mc [vo cBool 4 (⟨some b9, k12, j13⟩ : VR) (in_.set i (!(decide ((a.getD i Cel.zero) = (b.getD i Cel.zero)))))] [true] rfl (by first | rfl | (simp only [List.length_set] <;> rfl))) Foll.refl
  · have h4p : ¬ ((i : Int) < (a.length : Int)) := by simpa using h4
    rw [dropn h4p] at hR; replace hR := (ref24_marked_l0.eq_1 ..).symm.trans hR
    refine J_exit ?_
    refine nx ?_
    refine J_seq ?_
    refine sr 1 rfl ?_
    refine ip 1 0 [(7, bv true)] (by kernel_rfl) ?_
    refine ie ?_
    refine J_block ?_
    refine JL4 (fun (fu : Nat) (in_1 : List Bool) (inr1 : VR) (more : Bool) => (in_1.count false + more.toNat) < fu ∧ ref24_marked_l4 a b fu in_1 more = R ∧ VOk 1 in_1.length inr1 ∧ in_1.length = a.length) (fun (fu : Nat) (in_1 : List Bool) (inr1 : VR) (more : Bool) => [(0, .slice aq a.length ak), (1, .slice bq b.length bk), (5, .slice (va inr1.q) in_1.length inr1.k), (7, bv more)]) (fun (fu : Nat) (in_1 : List Bool) (inr1 : VR) (more : Bool) => ((vo cBool 4 inr1 in_1) ++ ([]))) (fun (fu : Nat) (in_1 : List Bool) (inr1 : VR) (more : Bool) => [sl cCel aq a, sl cCel bq b]) (fun (fu : Nat) (in_1 : List Bool) (inr1 : VR) (more : Bool) => fu) ((in_.count false + true.toNat) + 1) in_ inr true ⟨(Nat.lt_succ_self _), hR, hokinr, (by omega)⟩ ⟨rfl, rfl, (by first | rfl | (simp only [List.length_set, List.length_append, List.length_cons, List.length_nil]; rfl) | simp | (simp; omega)), (by first | rfl | (simp only [List.length_set, List.length_append, List.length_cons, List.length_nil]; rfl) | simp | (simp; omega)), trivial⟩ (mc [vo cBool 4 inr in_] [true] rfl (by first | rfl | (simp only [List.length_set] <;> rfl))) Foll.refl ?_
    rintro fu in_1 inr1 more ⟨hm14, hR, hokinr1, hin1⟩
    have := VOk.le hokinr1
    obtain ⟨fu1, rfl⟩ : ∃ m, fu = m + 1 := ⟨fu - 1, by omega⟩
    replace hR := (ref24_marked_l4.eq_2 ..).symm.trans hR
    refine J_seq ?_
    refine sr 1 rfl ?_
    refine ip 1 0 [(30, bv more)] (by kernel_rfl) ?_
    refine ie ?_
    refine J_if rfl (fun h15 => ?_) (fun h15 => ?_)
    · replace hR := bt hR h15
      refine J_skip ?_
      refine nx ?_
      refine J_block ?_
      refine sr 1 rfl ?_
      refine ip 1 0 [(7, bv false)] (by kernel_rfl) ?_
      refine ie ?_
      refine sr 1 rfl ?_
      refine ip 1 0 [(8, iv 0)] (by kernel_rfl) ?_
      refine ie ?_
      refine J_block ?_
      refine JL5 (fun (fu2 : Nat) (in_2 : List Bool) (inr2 : VR) (more1 : Bool) (i1 : Nat) => (a.length - (i1 + 1)) < fu2 ∧ ref24_marked_l5 a b (ref24_marked_l4 a b fu1) fu2 in_2 more1 i1 = R ∧ VOk 1 in_2.length inr2 ∧ i1 ≤ a.length ∧ in_2.length = a.length ∧ in_2.count false + more1.toNat ≤ in_1.count false) (fun (fu2 : Nat) (in_2 : List Bool) (inr2 : VR) (more1 : Bool) (i1 : Nat) => [(0, .slice aq a.length ak), (1, .slice bq b.length bk), (5, .slice (va inr2.q) in_2.length inr2.k), (7, bv more1), (8, iv (i1 : Int))]) (fun (fu2 : Nat) (in_2 : List Bool) (inr2 : VR) (more1 : Bool) (i1 : Nat) => ((vo cBool 4 inr2 in_2) ++ ([]))) (fun (fu2 : Nat) (in_2 : List Bool) (inr2 : VR) (more1 : Bool) (i1 : Nat) => [sl cCel aq a, sl cCel bq b]) (fun (fu2 : Nat) (in_2 : List Bool) (inr2 : VR) (more1 : Bool) (i1 : Nat) => fu2) ((a.length - (0 + 1)) + 1) in_1 inr1 false 0 ⟨(Nat.lt_succ_self _), hR, hokinr1, (by omega), (by omega), (by first | omega | simp)⟩ ⟨rfl, rfl, (by first | rfl | (simp only [List.length_set, List.length_append, List.length_cons, List.length_nil]; rfl) | simp | (simp; omega)), (by first | rfl | (simp only [List.length_set, List.length_append, List.length_cons, List.length_nil]; rfl) | simp | (simp; omega)), (by first | rfl | (simp only [List.length_set, List.length_append, List.length_cons, List.length_nil]; rfl) | simp | (simp; omega)), trivial⟩ (mc [vo cBool 4 inr1 in_1] [true] rfl (by first | rfl | (simp only [List.length_set] <;> rfl))) Foll.refl ?_
      rintro fu2 in_2 inr2 more1 i1 ⟨hm16, hR, hokinr2, hi1, hin2, hmu⟩
      have := VOk.le hokinr2
      obtain ⟨fu3, rfl⟩ : ∃ m, fu2 = m + 1 := ⟨fu2 - 1, by omega⟩
      replace hR := (ref24_marked_l5.eq_2 ..).symm.trans hR
      have hmt : more.toNat = 1 := by cases more <;> first | rfl | contradiction
      refine J_seq ?_
      refine sr 5 rfl ?_
      refine ip 1 4 [(31, iv (i1 : Int))] (by kernel_rfl) ?_
      refine ix rfl (det_add64 rfl rfl rfl rfl (by omega)) ?_
      refine ip 3 0 [(35, bv (decide (((i1 : Int) + 1) < (a.length : Int))))] (by kernel_rfl) ?_
      refine ie ?_
      refine J_if rfl (fun h17 => ?_) (fun h17 => ?_)
      · have h17p : ((i1 : Int) + 1) < (a.length : Int) := by simpa using h17
        replace hR := bt hR h17
        refine J_skip ?_
        refine nx ?_
        refine J_seq ?_
        refine J_block ?_
        refine sd 16 rfl (by kernel_rfl) rfl ?_
        refine dp 3 13 [(38, .slice aq a.length ak), (39, .slice bq b.length bk), (40, iv (i1 : Int))] (by kernel_rfl) ?_
        refine ddc rfl (det_call (ref24_together_c a b (i1 : Int) aq ak bq bk (by first | omega | (simp only [List.length_take, List.length_drop, List.length_append, List.length_cons, List.length_nil, List.length_set, List.length_map]; omega) | decide) (by first | omega | (simp only [List.length_take, List.length_drop, List.length_append, List.length_cons, List.length_nil, List.length_set, List.length_map]; omega) | decide) (by first | omega | (simp only [List.length_take, List.length_drop, List.length_append, List.length_cons, List.length_nil, List.length_set, List.length_map]; omega) | decide) (by first | omega | (simp only [List.length_take, List.length_drop, List.length_append, List.length_cons, List.length_nil, List.length_set, List.length_map]; omega) | decide) (by first | omega | (simp only [List.length_append, List.length_cons, List.length_nil, List.length_take, List.length_drop, List.length_set]; omega)) (by first | omega | (simp only [List.length_append, List.length_cons, List.length_nil, List.length_take, List.length_drop, List.length_set]; omega)) (by first | omega | (simp only [List.length_append, List.length_cons, List.length_nil, List.length_take, List.length_drop, List.length_set]; omega)) _ rfl) rfl rfl rfl rfl rfl Foll.refl) ?_
        refine dp 1 11 [(42, bv (ref24_together a b (i1 : Int)))] (by kernel_rfl) ?_
        refine dand 11 0 42 53 (!((in_2.getD i1 false) == (in_2.getD (i1 + 1) false))) rfl (by kernel_rfl) (fun g18 => ?_) ?_
        · refine dp 2 9 [(43, .slice (va inr2.q) in_2.length inr2.k), (44, iv (i1 : Int))] (by kernel_rfl) ?_
          obtain ⟨b19, hb20⟩ := VOk.some hokinr2 (by omega)
          obtain ⟨q21, k22, j23⟩ := inr2
          obtain rfl : q21 = some b19 := hb20
          refine dd rfl (det_ix_vec slt123 rfl rfl rfl i1 rfl (by omega)) ?_
          refine dd rfl (det_vec_one (u := bv (in_2.getD i1 false)) (c := cBool) (sz := 1) ty4 (fun _ => rfl) rfl rfl 0 rfl i1 0 rfl (gd false (by omega)) rfl) ?_
          refine dp 2 5 [(47, .slice (va (⟨some b19, k22, j23⟩ : VR).q) in_2.length ((⟨some b19, k22, j23⟩ : VR).k)), (48, iv (i1 : Int))] (by kernel_rfl) ?_
          refine dd rfl (det_add64 rfl rfl rfl rfl (by omega)) ?_
          refine dd rfl (det_ix_vec slt123 rfl rfl rfl (i1 + 1) (by omega) (by omega)) ?_
          refine dd rfl (det_vec_one (u := bv (in_2.getD (i1 + 1) false)) (c := cBool) (sz := 1) ty4 (fun _ => rfl) rfl rfl 0 rfl (i1 + 1) 0 rfl (gd false (by omega)) rfl) ?_
          refine dd rfl (det_neb Tryz.underlying4 rfl rfl rfl) ?_
          refine dp 1 0 [(53, bv (!((in_2.getD i1 false) == (in_2.getD (i1 + 1) false))))] (by kernel_rfl) ?_
          exact JD_end (armD 12 42 53 g18 rfl rfl rfl rfl rfl)
        refine de ?_
        refine J_if rfl (fun h24 => ?_) (fun h24 => ?_)
        · have h24p := h24; try simp only [Bool.and_eq_true, Bool.or_eq_true, Bool.and_eq_false_iff, Bool.or_eq_false_iff, Bool.not_eq_true', Bool.not_eq_false', decide_eq_true_eq, decide_eq_false_iff_not] at h24p
          replace hR := bt hR h24
          refine sr 4 rfl ?_
          refine ip 2 2 [(54, .slice (va inr2.q) in_2.length inr2.k), (55, iv (i1 : Int))] (by kernel_rfl) ?_
          obtain ⟨b25, hb26⟩ := VOk.some hokinr2 (by omega)
          obtain ⟨q27, k28, j29⟩ := inr2
          obtain rfl : q27 = some b25 := hb26
          refine ix rfl (det_ix_vec slt123 rfl rfl rfl i1 rfl (by omega)) ?_
          refine it rfl (tri_vec_store (us := [bv true]) (u' := true) (c := cBool) (sz := 1) ty4 (fun _ => rfl) rfl rfl rfl 0 rfl rfl rfl rfl i1 0 rfl (gd false (by omega)) rfl rfl) fun _ => ?_
          refine ie ?_
          refine sr 5 rfl ?_
          refine ip 2 3 [(57, .slice (va (⟨some b25, k28, j29⟩ : VR).q) in_2.length ((⟨some b25, k28, j29⟩ : VR).k)), (58, iv (i1 : Int))] (by kernel_rfl) ?_
          refine ix rfl (det_add64 rfl rfl rfl rfl (by omega)) ?_
          refine ix rfl (det_ix_vec slt123 rfl rfl rfl (i1 + 1) (by omega) (by first | omega | (simp only [List.length_set]; omega))) ?_
          refine it rfl (tri_vec_store (us := [bv true]) (u' := true) (c := cBool) (sz := 1) ty4 (fun _ => rfl) rfl rfl rfl 0 rfl rfl rfl rfl (i1 + 1) 0 rfl (gd false (by first | omega | (simp only [List.length_set]; omega))) rfl rfl) fun _ => ?_
          refine ie ?_
          refine J_region 1 rfl ?_
          refine ip 1 0 [(7, bv true)] (by kernel_rfl) ?_
          refine JI_end ?_
          refine nx ?_
          refine J_region 3 rfl ?_
          refine ip 1 2 [(36, iv (i1 : Int))] (by kernel_rfl) ?_
          refine ix rfl (det_add64 rfl rfl rfl rfl (by omega)) ?_
          refine ip 1 0 [(8, iv ((i1 : Int) + 1))] (by kernel_rfl) ?_
          refine JI_end ?_
          exact againL5 (z1 := (fu3 + 1)) (z2 := in_2) (z3 := (⟨some b25, k28, j29⟩ : VR)) (z4 := more1) (z5 := i1) fu3 ((in_2.set i1 true).set (i1 + 1) true) (⟨some b25, k28, j29⟩ : VR) true (i1 + 1) ⟨(by omega), hR, (VOk.cast hokinr2 (by simp)), (by omega), (by first | omega | (simp only [List.length_set]; omega)), (by first | omega | (have := count_set2 (l := in_2) (i := i1) (by omega) (by simp_all); simp only [Bool.toNat_true]; omega))⟩ (Nat.lt_succ_self _) ⟨rfl, rfl, (by first | rfl | (simp only [List.length_set, List.length_append, List.length_cons, List.length_nil]; rfl) | simp | (simp; omega)), (by first | rfl | (simp only [List.length_set, List.length_append, List.length_cons, List.length_nil]; rfl) | simp | (simp; omega)), (by first | rfl | (simp only [List.length_set, List.length_append, List.length_cons, List.length_nil]; rfl) | simp | (simp; omega)), trivial⟩ (mc [vo cBool 4 (⟨some b25, k28, j29⟩ : VR) ((in_2.set i1 true).set (i1 + 1) true)] [true] rfl (by first | rfl | (simp only [List.length_set] <;> rfl))) Foll.refl
        · have h24p := h24; try simp only [Bool.and_eq_true, Bool.or_eq_true, Bool.and_eq_false_iff, Bool.or_eq_false_iff, Bool.not_eq_true', Bool.not_eq_false', decide_eq_true_eq, decide_eq_false_iff_not] at h24p
          replace hR := bf hR h24
          refine J_skip ?_
          refine nx ?_
          refine J_region 3 rfl ?_
          refine ip 1 2 [(36, iv (i1 : Int))] (by kernel_rfl) ?_
          refine ix rfl (det_add64 rfl rfl rfl rfl (by omega)) ?_
          refine ip 1 0 [(8, iv ((i1 : Int) + 1))] (by kernel_rfl) ?_
          refine JI_end ?_
          exact againL5 (z1 := (fu3 + 1)) (z2 := in_2) (z3 := inr2) (z4 := more1) (z5 := i1) fu3 in_2 inr2 more1 (i1 + 1) ⟨(by omega), hR, hokinr2, (by omega), (by first | omega | (simp only [List.length_set]; omega)), (by first | omega | (have := count_set2 (l := in_2) (i := i1) (by omega) (by simp_all); simp only [Bool.toNat_true]; omega))⟩ (Nat.lt_succ_self _) ⟨rfl, rfl, rfl, rfl, (by first | rfl | (simp only [List.length_set, List.length_append, List.length_cons, List.length_nil]; rfl) | simp | (simp; omega)), trivial⟩ (mc [vo cBool 4 inr2 in_2] [true] rfl (by first | rfl | (simp only [List.length_set] <;> rfl))) Foll.refl
      · have h17p : ¬ (((i1 : Int) + 1) < (a.length : Int)) := by simpa using h17
        replace hR := bf hR h17
        refine J_exit ?_
        exact againL4 (z1 := (fu1 + 1)) (z2 := in_1) (z3 := inr1) (z4 := more) fu1 in_2 inr2 more1 ⟨(by omega), hR, hokinr2, (by first | omega | (simp only [List.length_set]; omega))⟩ (Nat.lt_succ_self _) ⟨rfl, rfl, (by first | rfl | (simp only [List.length_set, List.length_append, List.length_cons, List.length_nil]; rfl) | simp | (simp; omega)), (by first | rfl | (simp only [List.length_set, List.length_append, List.length_cons, List.length_nil]; rfl) | simp | (simp; omega)), trivial⟩ (mc [vo cBool 4 inr2 in_2] [true] rfl (by first | rfl | (simp only [List.length_set] <;> rfl))) Foll.refl
    · replace hR := bf hR h15
      refine J_exit ?_
      refine nx ?_
      refine sr 2 rfl ?_
      refine ip 2 0 [(4, .slice (va inr1.q) in_1.length inr1.k)] (by kernel_rfl) ?_
      refine ie ?_
      refine J_ret ?_
      subst hR
      exact ends_ret rfl ⟨hr, hD⟩ (by simp [hD]) (res1 rfl (resV_tmp rfl)) ⟨inr1, hokinr1⟩ (by rfl) (mc [vo cBool 4 inr1 in_1] [true] rfl (by first | rfl | (simp only [List.length_set] <;> rfl))) Foll.nil

def ref24_Spans_l1 (r : Nat) (rref24marked : List Bool) (ag_ref24_Spans_l0 : List Sp3 → Nat → List Sp3) : List Bool → List Sp3 → Nat → List Sp3
  | [], out1, i => ag_ref24_Spans_l0 out1 (r + 1)
  | hd_l1 :: tl_l1, out1, i => (bif (!hd_l1) then ref24_Spans_l1 r rref24marked ag_ref24_Spans_l0 tl_l1 out1 (i + 1) else (bif ((decide ((0 : Int) < (i : Int))) && (rref24marked.getD (i - 1) false)) then ref24_Spans_l1 r rref24marked ag_ref24_Spans_l0 tl_l1 (out1.set (out1.length - 1) ({ (out1.getD (out1.length - 1) Sp3.zero) with to := ((i : Int) + 1) })) (i + 1) else ref24_Spans_l1 r rref24marked ag_ref24_Spans_l0 tl_l1 (out1 ++ ([{ Sp3.zero with row := (r : Int), frm := (i : Int), to := ((i : Int) + 1) }] : List Sp3)) (i + 1)))
def ref24_Spans_l0 (bRows : List (List Cel)) : List (List Cel) → List Sp3 → Nat → List Sp3
  | [], out, r => out
  | hd_l0 :: tl_l0, out, r => (bindV (ref24_marked hd_l0 (bRows.getD r [])) fun (rref24marked : List Bool) => ref24_Spans_l1 r rref24marked (ref24_Spans_l0 bRows tl_l0) rref24marked out 0)
def ref24_Spans (aCols : Int) (aRows : List (List Cel)) (aCursor : Plc) (aVisible : Bool) (aShape : Int) (aTitle : List UInt8) (bCols : Int) (bRows : List (List Cel)) (bCursor : Plc) (bVisible : Bool) (bShape : Int) (bTitle : List UInt8) : List Sp3 :=
  ref24_Spans_l0 bRows aRows ([] : List Sp3) 0

set_option maxRecDepth 100000 in
theorem ref24_Spans_c (aCols : Int) (aRows : List (List Cel)) (aCursor : Plc) (aVisible : Bool) (aShape : Int) (aTitle : List UInt8) (bCols : Int) (bRows : List (List Cel)) (bCursor : Plc) (bVisible : Bool) (bShape : Int) (bTitle : List UInt8) (aRowsq : Option Addr) (aRowsrs : List Slc) (aRowsk : Nat) (bRowsq : Option Addr) (bRowsrs : List Slc) (bRowsk : Nat) (hrowsaRowsrs : RowsOk aRowsrs aRows) (hlaRows : aRows.length ≤ 9223372036854775807) (hcaRows : aRows.length ≤ aRowsk) (hrowsbRowsrs : RowsOk bRowsrs bRows) (hlbRows : bRows.length ≤ 9223372036854775807) (hcbRows : bRows.length ≤ bRowsk) (h40 : aRows.length ≤ 40 ∧ aRows.length = bRows.length) (hra : ∀ i, i < aRows.length → (aRows.getD i []).length ≤ 80 ∧ (aRows.getD i []).length = (bRows.getD i []).length) (R : List Sp3) (hR : ref24_Spans aCols aRows aCursor aVisible aShape aTitle bCols bRows bCursor bVisible bShape bTitle = R) : Con Tryz.prog 31 [ag [iv aCols, .slice aRowsq aRows.length aRowsk, iv aCursor.row, iv aCursor.col, bv aVisible, iv aShape, sv aTitle], ag [iv bCols, .slice bRowsq bRows.length bRowsk, iv bCursor.row, iv bCursor.col, bv bVisible, iv bShape, sv bTitle]] [] [sl cSlc aRowsq aRowsrs, rowsF cCel aRowsrs aRows, sl cSlc bRowsq bRowsrs, rowsF cCel bRowsrs bRows] ({r : VR // VOk 3 R.length r}) (fun x => .slice (va x.1.q) R.length x.1.k) (fun x => ((vo cSp3 63 x.1 R) ++ ([]))) (fun x => []) := by
  refine con_of_J (n := 64) Tryz.func31 rfl (by kernel_rfl) rfl rfl [(0, ag [iv aCols, .slice aRowsq aRows.length aRowsk, iv aCursor.row, iv aCursor.col, bv aVisible, iv aShape, sv aTitle]), (1, ag [iv bCols, .slice bRowsq bRows.length bRowsk, iv bCursor.row, iv bCursor.col, bv bVisible, iv bShape, sv bTitle])] ⟨rfl, rfl, trivial⟩ fun X hX hr hD => ?_
  replace hR := (ref24_Spans.eq_1 ..).symm.trans hR
  have := hrowsaRowsrs.1
  have := hrowsbRowsrs.1
  refine sr 3 rfl ?_
  refine it rfl (tri_box (cs := [iv aCols, .slice aRowsq aRows.length aRowsk, iv aCursor.row, iv aCursor.col, bv aVisible, iv aShape, sv aTitle]) rfl rfl rfl) fun b1 => ?_
  refine it rfl (tri_box (cs := [iv bCols, .slice bRowsq bRows.length bRowsk, iv bCursor.row, iv bCursor.col, bv bVisible, iv bShape, sv bTitle]) rfl rfl rfl) fun b2 => ?_
  refine ip 1 0 [] (by kernel_rfl) ?_
  refine ie ?_
  refine sr 1 rfl ?_
  refine ip 1 0 [(5, .slice none 0 0)] (by kernel_rfl) ?_
  refine ie ?_
  refine J_seq ?_
  refine sr 1 rfl ?_
  refine ip 1 0 [(6, iv 0)] (by kernel_rfl) ?_
  refine ie ?_
  refine J_block ?_
  refine JQ_perm (permC [vo cSp3 63 VR.nil ([] : List Sp3), [bx b2 [iv bCols, .slice bRowsq bRows.length bRowsk, iv bCursor.row, iv bCursor.col, bv bVisible, iv bShape, sv bTitle] 55], [bx b1 [iv aCols, .slice aRowsq aRows.length aRowsk, iv aCursor.row, iv aCursor.col, bv aVisible, iv aShape, sv aTitle] 55]] [1, 2, 0] 3 rfl (by decide) rfl [[bx b2 [iv bCols, .slice bRowsq bRows.length bRowsk, iv bCursor.row, iv bCursor.col, bv bVisible, iv bShape, sv bTitle] 55], [bx b1 [iv aCols, .slice aRowsq aRows.length aRowsk, iv aCursor.row, iv aCursor.col, bv aVisible, iv aShape, sv aTitle] 55], vo cSp3 63 VR.nil ([] : List Sp3)] rfl (by first | rfl | simp)) ?_
  refine JL3 (fun (out : List Sp3) (outr : VR) (r : Nat) => r ≤ aRows.length ∧ ref24_Spans_l0 bRows (aRows.drop r) out r = R ∧ VOk 3 out.length outr ∧ out.length ≤ 80 * r) (fun (out : List Sp3) (outr : VR) (r : Nat) => [(2, pt b1 0), (3, pt b2 0), (5, .slice (va outr.q) out.length outr.k), (6, iv (r : Int))]) (fun (out : List Sp3) (outr : VR) (r : Nat) => (bx b2 [iv bCols, .slice bRowsq bRows.length bRowsk, iv bCursor.row, iv bCursor.col, bv bVisible, iv bShape, sv bTitle] 55 :: bx b1 [iv aCols, .slice aRowsq aRows.length aRowsk, iv aCursor.row, iv aCursor.col, bv aVisible, iv aShape, sv aTitle] 55 :: (vo cSp3 63 outr out) ++ ([]))) (fun (out : List Sp3) (outr : VR) (r : Nat) => [sl cSlc aRowsq aRowsrs, rowsF cCel aRowsrs aRows, sl cSlc bRowsq bRowsrs, rowsF cCel bRowsrs bRows]) (fun (out : List Sp3) (outr : VR) (r : Nat) => aRows.length - r) ([] : List Sp3) VR.nil 0 ⟨(by omega), hR, VOk.nil, (by simp)⟩ ⟨rfl, rfl, (by first | rfl | (simp only [List.length_set, List.length_append, List.length_cons, List.length_nil]; rfl) | simp | (simp; omega)), (by first | rfl | (simp only [List.length_set, List.length_append, List.length_cons, List.length_nil]; rfl) | simp | (simp; omega)), trivial⟩ (mc [[bx b2 [iv bCols, .slice bRowsq bRows.length bRowsk, iv bCursor.row, iv bCursor.col, bv bVisible, iv bShape, sv bTitle] 55], [bx b1 [iv aCols, .slice aRowsq aRows.length aRowsk, iv aCursor.row, iv aCursor.col, bv aVisible, iv aShape, sv aTitle] 55], vo cSp3 63 VR.nil ([] : List Sp3)] [true, true, true] rfl (by first | rfl | (simp only [List.length_set] <;> rfl))) Foll.refl ?_
  rintro out outr r ⟨hm3, hR, hokoutr, hb⟩
  have := VOk.le hokoutr
  have hrr := hra r
  refine J_seq ?_
  refine sr 5 rfl ?_
  refine ip 2 3 [(9, iv (r : Int)), (10, pt b1 1)] (by kernel_rfl) ?_
  refine ix rfl (det_own_one (v := .slice aRowsq aRows.length aRowsk) ty51 rfl rfl 1 rfl rfl) ?_
  refine ip 2 0 [(13, bv (decide ((r : Int) < (aRows.length : Int))))] (by kernel_rfl) ?_
  refine ie ?_
  refine J_if rfl (fun h4 => ?_) (fun h4 => ?_)
  · have h4p : (r : Int) < (aRows.length : Int) := by simpa using h4
    rw [dropc [] (show r < aRows.length by omega)] at hR; replace hR := (ref24_Spans_l0.eq_2 ..).symm.trans hR
    refine J_skip ?_
    refine nx ?_
    refine J_seq ?_
    refine J_block ?_
    refine J_fact1 (rows_atD (k := r) (d := (⟨none, 0, 0⟩ : Slc)) hrowsaRowsrs 1 rfl (by have := hrowsaRowsrs.1; omega)) ?_
    have := rows_cap hrowsaRowsrs (k := r) (d := (⟨none, 0, 0⟩ : Slc)) (by have := hrowsaRowsrs.1; omega)
    refine J_fact1 (rows_atD (k := r) (d := (⟨none, 0, 0⟩ : Slc)) hrowsbRowsrs 4 rfl (by have := hrowsbRowsrs.1; omega)) ?_
    have := rows_cap hrowsbRowsrs (k := r) (d := (⟨none, 0, 0⟩ : Slc)) (by have := hrowsbRowsrs.1; omega)
    refine sh 12 [(12, [bx b2 [iv bCols, .slice bRowsq bRows.length bRowsk, iv bCursor.row, iv bCursor.col, bv bVisible, iv bShape, sv bTitle] 55]), (12, [bx b1 [iv aCols, .slice aRowsq aRows.length aRowsk, iv aCursor.row, iv aCursor.col, bv aVisible, iv aShape, sv aTitle] 55]), (12, vo cSp3 63 outr out)] [sl cCel ((bRowsrs.getD r (⟨none, 0, 0⟩ : Slc)).q) (bRows.getD r []), sl cCel ((aRowsrs.getD r (⟨none, 0, 0⟩ : Slc)).q) (aRows.getD r []), sl cSlc aRowsq aRowsrs, rowsF cCel aRowsrs aRows, sl cSlc bRowsq bRowsrs, rowsF cCel bRowsrs bRows] (bx b2 [iv bCols, .slice bRowsq bRows.length bRowsk, iv bCursor.row, iv bCursor.col, bv bVisible, iv bShape, sv bTitle] 55 :: bx b1 [iv aCols, .slice aRowsq aRows.length aRowsk, iv aCursor.row, iv aCursor.col, bv aVisible, iv aShape, sv aTitle] 55 :: (vo cSp3 63 outr out) ++ ([])) #[false, false, false, false, false, false, false, false, false, false, false, false] (by kernel_rfl) rfl (by kernel_rfl) (by kernel_rfl) (by kernel_rfl) (mc [[bx b2 [iv bCols, .slice bRowsq bRows.length bRowsk, iv bCursor.row, iv bCursor.col, bv bVisible, iv bShape, sv bTitle] 55], [bx b1 [iv aCols, .slice aRowsq aRows.length aRowsk, iv aCursor.row, iv aCursor.col, bv aVisible, iv aShape, sv aTitle] 55], vo cSp3 63 outr out] [true, true, true] rfl (by first | rfl | (simp only [List.length_set] <;> rfl))) Foll.refl ?_
    refine hpur [0, 2, 5, 7] 8 #[true, false, true, false, false, true, false, true, false, false, false, false] [(16, pt b1 1), (18, iv (r : Int)), (21, pt b2 1), (23, iv (r : Int))] (by kernel_rfl) ?_
    refine htak 1 (bx b2 [iv bCols, .slice bRowsq bRows.length bRowsk, iv bCursor.row, iv bCursor.col, bv bVisible, iv bShape, sv bTitle] 55 :: bx b1 [iv aCols, .slice aRowsq aRows.length aRowsk, iv aCursor.row, iv aCursor.col, bv aVisible, iv aShape, sv aTitle] 55 :: (vo cSp3 63 outr out) ++ ([])) #[true, true, true, false, false, true, false, true, false, false, false, false] rfl rfl rfl (by kernel_rfl) (by kernel_rfl) (by kernel_rfl) (det_own_one (v := .slice aRowsq aRows.length aRowsk) ty51 rfl rfl 1 rfl rfl) ?_
    refine JH_base 2 rfl (by omega) fun a5 hq6 => ?_
    refine htak 3 (bx b2 [iv bCols, .slice bRowsq bRows.length bRowsk, iv bCursor.row, iv bCursor.col, bv bVisible, iv bShape, sv bTitle] 55 :: bx b1 [iv aCols, .slice aRowsq aRows.length aRowsk, iv aCursor.row, iv aCursor.col, bv aVisible, iv aShape, sv aTitle] 55 :: (vo cSp3 63 outr out) ++ ([])) #[true, true, true, true, false, true, false, true, false, false, false, false] rfl rfl rfl (by kernel_rfl) (by kernel_rfl) (by kernel_rfl) (det_ixq slt51 rfl rfl hq6 rfl r rfl (by omega)) ?_
    refine htak 4 (bx b2 [iv bCols, .slice bRowsq bRows.length bRowsk, iv bCursor.row, iv bCursor.col, bv bVisible, iv bShape, sv bTitle] 55 :: bx b1 [iv aCols, .slice aRowsq aRows.length aRowsk, iv aCursor.row, iv aCursor.col, bv aVisible, iv aShape, sv aTitle] 55 :: (vo cSp3 63 outr out) ++ ([])) #[true, true, true, true, true, true, false, true, false, false, false, false] rfl rfl rfl (by kernel_rfl) (by kernel_rfl) (by kernel_rfl) (det_conv (det_ld_one (v := .slice ((aRowsrs.getD r (⟨none, 0, 0⟩ : Slc)).q) ((aRowsrs.getD r (⟨none, 0, 0⟩ : Slc)).n) ((aRowsrs.getD r (⟨none, 0, 0⟩ : Slc)).k)) (us := [.slice ((aRowsrs.getD r (⟨none, 0, 0⟩ : Slc)).q) ((aRowsrs.getD r (⟨none, 0, 0⟩ : Slc)).n) ((aRowsrs.getD r (⟨none, 0, 0⟩ : Slc)).k)]) ty74 rfl rfl (at_slq (c := cSlc) (sz := 1) hq6 (fun _ => rfl) 2 rfl (gd (⟨none, 0, 0⟩ : Slc) (by have := hrowsaRowsrs.1; omega))) rfl) (rows_val hrowsaRowsrs (by have := hrowsaRowsrs.1; omega))) ?_
    refine htak 6 (bx b2 [iv bCols, .slice bRowsq bRows.length bRowsk, iv bCursor.row, iv bCursor.col, bv bVisible, iv bShape, sv bTitle] 55 :: bx b1 [iv aCols, .slice aRowsq aRows.length aRowsk, iv aCursor.row, iv aCursor.col, bv aVisible, iv aShape, sv aTitle] 55 :: (vo cSp3 63 outr out) ++ ([])) #[true, true, true, true, true, true, true, true, false, false, false, false] rfl rfl rfl (by kernel_rfl) (by kernel_rfl) (by kernel_rfl) (det_own_one (v := .slice bRowsq bRows.length bRowsk) ty51 rfl rfl 0 rfl rfl) ?_
    refine JH_base 4 rfl (by omega) fun a7 hq8 => ?_
    refine htak 8 (bx b2 [iv bCols, .slice bRowsq bRows.length bRowsk, iv bCursor.row, iv bCursor.col, bv bVisible, iv bShape, sv bTitle] 55 :: bx b1 [iv aCols, .slice aRowsq aRows.length aRowsk, iv aCursor.row, iv aCursor.col, bv aVisible, iv aShape, sv aTitle] 55 :: (vo cSp3 63 outr out) ++ ([])) #[true, true, true, true, true, true, true, true, true, false, false, false] rfl rfl rfl (by kernel_rfl) (by kernel_rfl) (by kernel_rfl) (det_ixq slt51 rfl rfl hq8 rfl r rfl (by omega)) ?_
    refine htak 9 (bx b2 [iv bCols, .slice bRowsq bRows.length bRowsk, iv bCursor.row, iv bCursor.col, bv bVisible, iv bShape, sv bTitle] 55 :: bx b1 [iv aCols, .slice aRowsq aRows.length aRowsk, iv aCursor.row, iv aCursor.col, bv aVisible, iv aShape, sv aTitle] 55 :: (vo cSp3 63 outr out) ++ ([])) #[true, true, true, true, true, true, true, true, true, true, false, false] rfl rfl rfl (by kernel_rfl) (by kernel_rfl) (by kernel_rfl) (det_conv (det_ld_one (v := .slice ((bRowsrs.getD r (⟨none, 0, 0⟩ : Slc)).q) ((bRowsrs.getD r (⟨none, 0, 0⟩ : Slc)).n) ((bRowsrs.getD r (⟨none, 0, 0⟩ : Slc)).k)) (us := [.slice ((bRowsrs.getD r (⟨none, 0, 0⟩ : Slc)).q) ((bRowsrs.getD r (⟨none, 0, 0⟩ : Slc)).n) ((bRowsrs.getD r (⟨none, 0, 0⟩ : Slc)).k)]) ty74 rfl rfl (at_slq (c := cSlc) (sz := 1) hq8 (fun _ => rfl) 4 rfl (gd (⟨none, 0, 0⟩ : Slc) (by have := hrowsbRowsrs.1; omega))) rfl) (rows_val hrowsbRowsrs (by have := hrowsbRowsrs.1; omega))) ?_
    have hQ := bindVx hR; clear hR; obtain ⟨rref24marked, hrref24marked, hR⟩ := hQ
    refine hone 10 (bx b2 [iv bCols, .slice bRowsq bRows.length bRowsk, iv bCursor.row, iv bCursor.col, bv bVisible, iv bShape, sv bTitle] 55 :: bx b1 [iv aCols, .slice aRowsq aRows.length aRowsk, iv aCursor.row, iv aCursor.col, bv aVisible, iv aShape, sv aTitle] 55 :: (vo cSp3 63 outr out) ++ ([])) #[true, true, true, true, true, true, true, true, true, true, true, false] rfl rfl rfl (by kernel_rfl) (by kernel_rfl) (by kernel_rfl) (tri_callP (L2 := (bx b2 [iv bCols, .slice bRowsq bRows.length bRowsk, iv bCursor.row, iv bCursor.col, bv bVisible, iv bShape, sv bTitle] 55 :: bx b1 [iv aCols, .slice aRowsq aRows.length aRowsk, iv aCursor.row, iv aCursor.col, bv aVisible, iv aShape, sv aTitle] 55 :: (vo cSp3 63 outr out) ++ ([]))) (ref24_marked_c (aRows.getD r []) (bRows.getD r []) ((aRowsrs.getD r (⟨none, 0, 0⟩ : Slc)).q) ((aRowsrs.getD r (⟨none, 0, 0⟩ : Slc)).k) ((bRowsrs.getD r (⟨none, 0, 0⟩ : Slc)).q) ((bRowsrs.getD r (⟨none, 0, 0⟩ : Slc)).k) (by first | omega | (simp only [List.length_take, List.length_drop, List.length_append, List.length_cons, List.length_nil, List.length_set, List.length_map]; omega) | decide) (by first | omega | (simp only [List.length_take, List.length_drop, List.length_append, List.length_cons, List.length_nil, List.length_set, List.length_map]; omega) | decide) (by first | omega | (simp only [List.length_take, List.length_drop, List.length_append, List.length_cons, List.length_nil, List.length_set, List.length_map]; omega) | decide) (by first | omega | (simp only [List.length_take, List.length_drop, List.length_append, List.length_cons, List.length_nil, List.length_set, List.length_map]; omega) | decide) (by first | omega | (simp only [List.length_append, List.length_cons, List.length_nil, List.length_take, List.length_drop, List.length_set]; omega)) (by first | omega | (simp only [List.length_append, List.length_cons, List.length_nil, List.length_take, List.length_drop, List.length_set]; omega)) rref24marked hrref24marked) rfl rfl rfl rfl rfl (Foll.pick [1, 0] rfl) (List.Perm.refl _) (fun ⟨r9, hk10⟩ => (bx b2 [iv bCols, .slice bRowsq bRows.length bRowsk, iv bCursor.row, iv bCursor.col, bv bVisible, iv bShape, sv bTitle] 55 :: bx b1 [iv aCols, .slice aRowsq aRows.length aRowsk, iv aCursor.row, iv aCursor.col, bv aVisible, iv aShape, sv aTitle] 55 :: (vo cBool 4 r9 rref24marked) ++ ((vo cSp3 63 outr out) ++ ([])))) (fun ⟨r9, hk10⟩ => permC [vo cBool 4 r9 rref24marked, [bx b2 [iv bCols, .slice bRowsq bRows.length bRowsk, iv bCursor.row, iv bCursor.col, bv bVisible, iv bShape, sv bTitle] 55], [bx b1 [iv aCols, .slice aRowsq aRows.length aRowsk, iv aCursor.row, iv aCursor.col, bv aVisible, iv aShape, sv aTitle] 55], vo cSp3 63 outr out] [1, 2, 0, 3] 4 rfl (by decide) (by first | rfl | simp only [List.flatten_cons, List.flatten_nil, List.append_nil, List.cons_append, List.nil_append, List.append_assoc]) [[bx b2 [iv bCols, .slice bRowsq bRows.length bRowsk, iv bCursor.row, iv bCursor.col, bv bVisible, iv bShape, sv bTitle] 55], [bx b1 [iv aCols, .slice aRowsq aRows.length aRowsk, iv aCursor.row, iv aCursor.col, bv aVisible, iv aShape, sv aTitle] 55], vo cBool 4 r9 rref24marked, vo cSp3 63 outr out] rfl (by first | rfl | simp only [List.flatten_cons, List.flatten_nil, List.append_nil, List.cons_append, List.nil_append, List.append_assoc]))) (fun ⟨r9, hk10⟩ => (mc [[bx b2 [iv bCols, .slice bRowsq bRows.length bRowsk, iv bCursor.row, iv bCursor.col, bv bVisible, iv bShape, sv bTitle] 55], [bx b1 [iv aCols, .slice aRowsq aRows.length aRowsk, iv aCursor.row, iv aCursor.col, bv aVisible, iv aShape, sv aTitle] 55], vo cBool 4 r9 rref24marked, vo cSp3 63 outr out] [true, true, false, true] rfl (by first | rfl | (simp only [List.length_set] <;> rfl)))) (fun ⟨r9, hk10⟩ => Foll.refl) fun ⟨r9, hk10⟩ => ?_
    have := VOk.le hk10
    have := VOk.cap hk10
    have := ref24_marked_len (aRows.getD r []) (bRows.getD r []); try rw [hrref24marked] at this
    refine hpur [11] 0 #[true, true, true, true, true, true, true, true, true, true, true, true] [(7, .slice (va r9.q) rref24marked.length r9.k)] (by kernel_rfl) ?_
    refine hend (by kernel_rfl) ?_
    refine sr 1 rfl ?_
    refine ip 1 0 [(8, iv 0)] (by kernel_rfl) ?_
    refine ie ?_
    refine J_block ?_
    have := VOk.cap hk10
    have := VOk.le hk10
    refine J_seal [bx b2 [iv bCols, .slice bRowsq bRows.length bRowsk, iv bCursor.row, iv bCursor.col, bv bVisible, iv bShape, sv bTitle] 55, bx b1 [iv aCols, .slice aRowsq aRows.length aRowsk, iv aCursor.row, iv aCursor.col, bv aVisible, iv aShape, sv aTitle] 55] ((vo cSp3 63 outr out) ++ ([])) (T := 4) (c := cBool) (r := r9) (xs := rref24marked) hk10 (by first | rfl | simp only [List.cons_append, List.append_assoc, List.nil_append, List.append_nil]) ?_
    refine JL3 (fun (out1 : List Sp3) (outr1 : VR) (i : Nat) => i ≤ rref24marked.length ∧ ref24_Spans_l1 r rref24marked (ref24_Spans_l0 bRows (aRows.drop (r + 1))) (rref24marked.drop i) out1 i = R ∧ VOk 3 out1.length outr1 ∧ i ≤ rref24marked.length ∧ out1.length ≤ 80 * r + i ∧ (0 < i → rref24marked.getD (i - 1) false = true → 0 < out1.length)) (fun (out1 : List Sp3) (outr1 : VR) (i : Nat) => [(2, pt b1 0), (3, pt b2 0), (5, .slice (va outr1.q) out1.length outr1.k), (6, iv (r : Int)), (7, .slice (va r9.q) rref24marked.length r9.k), (8, iv (i : Int))]) (fun (out1 : List Sp3) (outr1 : VR) (i : Nat) => (bx b2 [iv bCols, .slice bRowsq bRows.length bRowsk, iv bCursor.row, iv bCursor.col, bv bVisible, iv bShape, sv bTitle] 55 :: bx b1 [iv aCols, .slice aRowsq aRows.length aRowsk, iv aCursor.row, iv aCursor.col, bv aVisible, iv aShape, sv aTitle] 55 :: (vo cSp3 63 outr1 out1) ++ ([]))) (fun (out1 : List Sp3) (outr1 : VR) (i : Nat) => [sl cBool (va r9.q) rref24marked, sl cCel ((bRowsrs.getD r (⟨none, 0, 0⟩ : Slc)).q) (bRows.getD r []), sl cCel ((aRowsrs.getD r (⟨none, 0, 0⟩ : Slc)).q) (aRows.getD r []), sl cSlc aRowsq aRowsrs, rowsF cCel aRowsrs aRows, sl cSlc bRowsq bRowsrs, rowsF cCel bRowsrs bRows]) (fun (out1 : List Sp3) (outr1 : VR) (i : Nat) => rref24marked.length - i) out outr 0 ⟨(by omega), hR, hokoutr, (by omega), (by omega), (by omega)⟩ ⟨rfl, rfl, (by first | rfl | (simp only [List.length_set, List.length_append, List.length_cons, List.length_nil]; rfl) | simp | (simp; omega)), rfl, rfl, (by first | rfl | (simp only [List.length_set, List.length_append, List.length_cons, List.length_nil]; rfl) | simp | (simp; omega)), trivial⟩ (mc [[bx b2 [iv bCols, .slice bRowsq bRows.length bRowsk, iv bCursor.row, iv bCursor.col, bv bVisible, iv bShape, sv bTitle] 55], [bx b1 [iv aCols, .slice aRowsq aRows.length aRowsk, iv aCursor.row, iv aCursor.col, bv aVisible, iv aShape, sv aTitle] 55], vo cSp3 63 outr out] [true, true, true] rfl (by first | rfl | (simp only [List.length_set] <;> rfl))) Foll.refl ?_
    rintro out1 outr1 i ⟨hm11, hR, hokoutr1, hii, hb1, hn1⟩
    have := VOk.le hokoutr1
    refine J_seq ?_
    refine sr 4 rfl ?_
    refine ip 4 0 [(30, bv (decide ((i : Int) < (rref24marked.length : Int))))] (by kernel_rfl) ?_
    refine ie ?_
    refine J_if rfl (fun h12 => ?_) (fun h12 => ?_)
    · have h12p : (i : Int) < (rref24marked.length : Int) := by simpa using h12
      rw [dropc false (show i < rref24marked.length by omega)] at hR; replace hR := (ref24_Spans_l1.eq_2 ..).symm.trans hR
      refine J_skip ?_
      refine nx ?_
      refine J_seq ?_
      refine J_block ?_
      refine J_seq ?_
      refine sr 5 rfl ?_
      refine ip 2 3 [(33, .slice (va r9.q) rref24marked.length r9.k), (34, iv (i : Int))] (by kernel_rfl) ?_
      refine JI_base 0 rfl (by omega) fun a13 hq14 => ?_
      refine ix rfl (det_ixq slt123 rfl rfl hq14 rfl i rfl (by omega)) ?_
      refine ix rfl (det_ld_one (v := bv (rref24marked.getD i false)) (us := [bv (rref24marked.getD i false)]) ty4 rfl rfl (at_slq (c := cBool) (sz := 1) hq14 (fun _ => rfl) 0 rfl (gd false (by omega))) rfl) ?_
      refine ip 1 0 [(37, bv (!(rref24marked.getD i false)))] (by kernel_rfl) ?_
      refine ie ?_
      refine J_if rfl (fun h15 => ?_) (fun h15 => ?_)
      · replace hR := bt hR h15
        try have hne0 : 0 < out1.length := by simp only [Bool.and_eq_true, decide_eq_true_eq] at h15; exact hn1 (by omega) h15.2
        refine J_exit ?_
        refine nx ?_
        refine J_region 3 rfl ?_
        refine ip 1 2 [(31, iv (i : Int))] (by kernel_rfl) ?_
        refine ix rfl (det_add64 rfl rfl rfl rfl (by omega)) ?_
        refine ip 1 0 [(8, iv ((i : Int) + 1))] (by kernel_rfl) ?_
        refine JI_end ?_
        exact againL3 (z1 := out1) (z2 := outr1) (z3 := i) out1 outr1 (i + 1) ⟨(by omega), hR, hokoutr1, (by omega), (by first | omega | (simp only [List.length_append, List.length_set, List.length_cons, List.length_nil]; omega)), (by first | omega | (intros; simp only [List.length_append, List.length_set, List.length_cons, List.length_nil]; omega) | (intro _ hh; simp_all))⟩ (by (try dsimp only); omega) ⟨rfl, rfl, rfl, rfl, rfl, (by first | rfl | (simp only [List.length_set, List.length_append, List.length_cons, List.length_nil]; rfl) | simp | (simp; omega)), trivial⟩ (mc [[bx b2 [iv bCols, .slice bRowsq bRows.length bRowsk, iv bCursor.row, iv bCursor.col, bv bVisible, iv bShape, sv bTitle] 55], [bx b1 [iv aCols, .slice aRowsq aRows.length aRowsk, iv aCursor.row, iv aCursor.col, bv aVisible, iv aShape, sv aTitle] 55], vo cSp3 63 outr1 out1] [true, true, true] rfl (by first | rfl | (simp only [List.length_set] <;> rfl))) Foll.refl
      · replace hR := bf hR h15
        refine J_skip ?_
        refine nx ?_
        refine sr 9 rfl ?_
        refine ip 3 6 [(40, bv (decide ((0 : Int) < (i : Int))))] (by kernel_rfl) ?_
        refine iand 6 0 40 46 (rref24marked.getD (i - 1) false) rfl (by kernel_rfl) (fun g16 => ?_) ?_
        · have g16p : (0 : Int) < (i : Int) := by simpa using g16
          refine ip 2 4 [(41, .slice (va r9.q) rref24marked.length r9.k), (42, iv (i : Int))] (by kernel_rfl) ?_
          refine ix rfl (det_sub64 rfl rfl rfl rfl (by omega)) ?_
          refine ix rfl (det_ixq slt123 rfl rfl hq14 rfl (i - 1) (by omega) (by omega)) ?_
          refine ix rfl (det_ld_one (v := bv (rref24marked.getD (i - 1) false)) (us := [bv (rref24marked.getD (i - 1) false)]) ty4 rfl rfl (at_slq (c := cBool) (sz := 1) hq14 (fun _ => rfl) 0 rfl (gd false (by omega))) rfl) ?_
          refine ip 1 0 [(46, bv (rref24marked.getD (i - 1) false))] (by kernel_rfl) ?_
          exact JI_end (armI 7 40 46 g16 Foll.refl (mc [[bx b2 [iv bCols, .slice bRowsq bRows.length bRowsk, iv bCursor.row, iv bCursor.col, bv bVisible, iv bShape, sv bTitle] 55], [bx b1 [iv aCols, .slice aRowsq aRows.length aRowsk, iv aCursor.row, iv aCursor.col, bv aVisible, iv aShape, sv aTitle] 55], vo cSp3 63 outr1 out1] [true, true, true] rfl (by first | rfl | (simp only [List.length_set] <;> rfl))) rfl rfl rfl rfl rfl)
        refine ie ?_
        refine J_if rfl (fun h17 => ?_) (fun h17 => ?_)
        · have h17p := h17; try simp only [Bool.and_eq_true, Bool.or_eq_true, Bool.and_eq_false_iff, Bool.or_eq_false_iff, Bool.not_eq_true', Bool.not_eq_false', decide_eq_true_eq, decide_eq_false_iff_not] at h17p
          replace hR := bt hR h17
          try have hne0 : 0 < out1.length := by simp only [Bool.and_eq_true, decide_eq_true_eq] at h17; exact hn1 (by omega) h17.2
          refine J_region 9 rfl ?_
          refine ip 3 6 [(47, .slice (va outr1.q) out1.length outr1.k), (49, iv (out1.length : Int))] (by kernel_rfl) ?_
          refine ix rfl (det_sub64 rfl rfl rfl rfl (by omega)) ?_
          refine ip 1 4 [(51, iv (i : Int))] (by kernel_rfl) ?_
          refine ix rfl (det_add64 rfl rfl rfl rfl (by omega)) ?_
          obtain ⟨b18, hb19⟩ := VOk.some hokoutr1 (by omega)
          obtain ⟨q20, k21, j22⟩ := outr1
          obtain rfl : q20 = some b18 := hb19
          refine ix rfl (det_ix_vec slt56 rfl rfl rfl (out1.length - 1) (by omega) (by omega)) ?_
          refine ip 1 1 [(54, .pointer (some ⟨b18, (out1.length - 1) * 3 + 2, none⟩))] (by kernel_rfl) ?_
          refine it rfl (tri_vec_store (us := [iv ((i : Int) + 1)]) (u' := { (out1.getD (out1.length - 1) Sp3.zero) with to := ((i : Int) + 1) }) (c := cSp3) (sz := 3) ty3 (fun _ => rfl) rfl rfl rfl 2 rfl rfl rfl rfl (out1.length - 1) 2 rfl (gd Sp3.zero (by omega)) rfl rfl) fun _ => ?_
          refine JI_end ?_
          refine nx ?_
          refine J_region 3 rfl ?_
          refine ip 1 2 [(31, iv (i : Int))] (by kernel_rfl) ?_
          refine ix rfl (det_add64 rfl rfl rfl rfl (by omega)) ?_
          refine ip 1 0 [(8, iv ((i : Int) + 1))] (by kernel_rfl) ?_
          refine JI_end ?_
          exact againL3 (z1 := out1) (z2 := (⟨some b18, k21, j22⟩ : VR)) (z3 := i) (out1.set (out1.length - 1) ({ (out1.getD (out1.length - 1) Sp3.zero) with to := ((i : Int) + 1) })) (⟨some b18, k21, j22⟩ : VR) (i + 1) ⟨(by omega), hR, (VOk.cast hokoutr1 (by simp)), (by omega), (by first | omega | (simp only [List.length_append, List.length_set, List.length_cons, List.length_nil]; omega)), (by first | omega | (intros; simp only [List.length_append, List.length_set, List.length_cons, List.length_nil]; omega) | (intro _ hh; simp_all))⟩ (by (try dsimp only); omega) ⟨rfl, rfl, (by first | rfl | (simp only [List.length_set, List.length_append, List.length_cons, List.length_nil]; rfl) | simp | (simp; omega)), rfl, rfl, (by first | rfl | (simp only [List.length_set, List.length_append, List.length_cons, List.length_nil]; rfl) | simp | (simp; omega)), trivial⟩ (mc [[bx b2 [iv bCols, .slice bRowsq bRows.length bRowsk, iv bCursor.row, iv bCursor.col, bv bVisible, iv bShape, sv bTitle] 55], [bx b1 [iv aCols, .slice aRowsq aRows.length aRowsk, iv aCursor.row, iv aCursor.col, bv aVisible, iv aShape, sv aTitle] 55], vo cSp3 63 (⟨some b18, k21, j22⟩ : VR) (out1.set (out1.length - 1) ({ (out1.getD (out1.length - 1) Sp3.zero) with to := ((i : Int) + 1) }))] [true, true, true] rfl (by first | rfl | (simp only [List.length_set] <;> rfl))) Foll.refl
        · have h17p := h17; try simp only [Bool.and_eq_true, Bool.or_eq_true, Bool.and_eq_false_iff, Bool.or_eq_false_iff, Bool.not_eq_true', Bool.not_eq_false', decide_eq_true_eq, decide_eq_false_iff_not] at h17p
          replace hR := bf hR h17
          refine J_region 9 rfl ?_
          refine ip 4 5 [(55, .slice (va outr1.q) out1.length outr1.k), (56, iv (r : Int)), (57, iv (i : Int)), (58, iv (i : Int))] (by kernel_rfl) ?_
          refine ix rfl (det_add64 rfl rfl rfl rfl (by omega)) ?_
          refine ix rfl (det_build (cs := cSp3 ({ Sp3.zero with row := (r : Int), frm := (i : Int), to := ((i : Int) + 1) })) rfl rfl (by kernel_rfl)) ?_
          refine it rfl (tri_buildSl (c := cSp3) (xs := ([{ Sp3.zero with row := (r : Int), frm := (i : Int), to := ((i : Int) + 1) }] : List Sp3)) slt56 rfl rfl rfl (by kernel_rfl)) fun b23 => ?_
          have : ([{ Sp3.zero with row := (r : Int), frm := (i : Int), to := ((i : Int) + 1) }] : List Sp3).length = 1 := rfl
          refine it rfl (tri_app1 (f := cSp3) (r := outr1) (xs := out1) (ys := ([{ Sp3.zero with row := (r : Int), frm := (i : Int), to := ((i : Int) + 1) }] : List Sp3)) (pre := [bx b2 [iv bCols, .slice bRowsq bRows.length bRowsk, iv bCursor.row, iv bCursor.col, bv bVisible, iv bShape, sv bTitle] 55, bx b1 [iv aCols, .slice aRowsq aRows.length aRowsk, iv aCursor.row, iv aCursor.col, bv aVisible, iv aShape, sv aTitle] 55]) (post := []) apt56 (fun _ => rfl) (fun _ => rfl) rfl rfl rfl rfl rfl rfl rfl rfl rfl (at_of 0 rfl) hokoutr1 (by first | omega | (simp only [List.length_cons, List.length_nil, List.length_append, List.length_take, List.length_drop]; omega)) (by first | omega | (simp only [List.length_cons, List.length_nil, List.length_append, List.length_take, List.length_drop]; omega))) fun ⟨r24, hr25⟩ => ?_
          have := VOk.le hr25
          have := VOk.cap hr25
          refine ip 1 0 [(5, .slice (va r24.q) ((out1 ++ ([{ Sp3.zero with row := (r : Int), frm := (i : Int), to := ((i : Int) + 1) }] : List Sp3)).length) r24.k)] (by kernel_rfl) ?_
          refine JI_end ?_
          refine nx ?_
          refine J_region 3 rfl ?_
          refine ip 1 2 [(31, iv (i : Int))] (by kernel_rfl) ?_
          refine ix rfl (det_add64 rfl rfl rfl rfl (by omega)) ?_
          refine ip 1 0 [(8, iv ((i : Int) + 1))] (by kernel_rfl) ?_
          refine JI_end ?_
          exact againL3 (z1 := out1) (z2 := outr1) (z3 := i) (out1 ++ ([{ Sp3.zero with row := (r : Int), frm := (i : Int), to := ((i : Int) + 1) }] : List Sp3)) r24 (i + 1) ⟨(by omega), hR, hr25, (by omega), (by first | omega | (simp only [List.length_append, List.length_set, List.length_cons, List.length_nil]; omega)), (by first | omega | (intros; simp only [List.length_append, List.length_set, List.length_cons, List.length_nil]; omega) | (intro _ hh; simp_all))⟩ (by (try dsimp only); omega) ⟨rfl, rfl, (by first | rfl | (simp only [List.length_set, List.length_append, List.length_cons, List.length_nil]; rfl) | simp | (simp; omega)), rfl, rfl, (by first | rfl | (simp only [List.length_set, List.length_append, List.length_cons, List.length_nil]; rfl) | simp | (simp; omega)), trivial⟩ (mc [[bx b2 [iv bCols, .slice bRowsq bRows.length bRowsk, iv bCursor.row, iv bCursor.col, bv bVisible, iv bShape, sv bTitle] 55], [bx b1 [iv aCols, .slice aRowsq aRows.length aRowsk, iv aCursor.row, iv aCursor.col, bv aVisible, iv aShape, sv aTitle] 55], vo cSp3 63 r24 (out1 ++ ([{ Sp3.zero with row := (r : Int), frm := (i : Int), to := ((i : Int) + 1) }] : List Sp3))] [true, true, true] rfl (by first | rfl | (simp only [List.length_set] <;> rfl))) (Foll.pick [1, 2, 3, 4, 5, 6, 7] rfl)
    · have h12p : ¬ ((i : Int) < (rref24marked.length : Int)) := by simpa using h12
      rw [dropn h12p] at hR; replace hR := (ref24_Spans_l1.eq_1 ..).symm.trans hR
      refine J_exit ?_
      refine nx ?_
      refine J_region 3 rfl ?_
      refine ip 1 2 [(14, iv (r : Int))] (by kernel_rfl) ?_
      refine ix rfl (det_add64 rfl rfl rfl rfl (by omega)) ?_
      refine ip 1 0 [(6, iv ((r : Int) + 1))] (by kernel_rfl) ?_
      refine JI_end ?_
      exact againL3 (z1 := out) (z2 := outr) (z3 := r) out1 outr1 (r + 1) ⟨(by omega), hR, hokoutr1, (by omega)⟩ (by (try dsimp only); omega) ⟨rfl, rfl, (by first | rfl | (simp only [List.length_set, List.length_append, List.length_cons, List.length_nil]; rfl) | simp | (simp; omega)), (by first | rfl | (simp only [List.length_set, List.length_append, List.length_cons, List.length_nil]; rfl) | simp | (simp; omega)), trivial⟩ (mc [[bx b2 [iv bCols, .slice bRowsq bRows.length bRowsk, iv bCursor.row, iv bCursor.col, bv bVisible, iv bShape, sv bTitle] 55], [bx b1 [iv aCols, .slice aRowsq aRows.length aRowsk, iv aCursor.row, iv aCursor.col, bv aVisible, iv aShape, sv aTitle] 55], vo cSp3 63 outr1 out1] [true, true, true] rfl (by first | rfl | (simp only [List.length_set] <;> rfl))) (Foll.pick [3, 4, 5, 6] rfl)
  · have h4p : ¬ ((r : Int) < (aRows.length : Int)) := by simpa using h4
    rw [dropn h4p] at hR; replace hR := (ref24_Spans_l0.eq_1 ..).symm.trans hR
    refine J_exit ?_
    refine nx ?_
    refine sr 2 rfl ?_
    refine ip 2 0 [(4, .slice (va outr.q) out.length outr.k)] (by kernel_rfl) ?_
    refine ie ?_
    refine J_ret ?_
    subst hR
    exact ends_ret rfl ⟨hr, hD⟩ (by simp [hD]) (res1 rfl (resV_tmp rfl)) ⟨outr, hokoutr⟩ (by rfl) (mc [[bx b2 [iv bCols, .slice bRowsq bRows.length bRowsk, iv bCursor.row, iv bCursor.col, bv bVisible, iv bShape, sv bTitle] 55], [bx b1 [iv aCols, .slice aRowsq aRows.length aRowsk, iv aCursor.row, iv aCursor.col, bv aVisible, iv aShape, sv aTitle] 55], vo cSp3 63 outr out] [false, false, true] rfl (by first | rfl | (simp only [List.length_set] <;> rfl))) Foll.nil

section
variable {P : Program} {n : Nat} {X : Cx} {K : Go.Act → World → Prop} {Q : Exit → Go.Act → World → Prop} {E : Env} {L L' : Go.Fen.Own} {Φ : List Pers}
end

end Go.Proofs.YtlcaphkcfmlljaaGreatDoor

