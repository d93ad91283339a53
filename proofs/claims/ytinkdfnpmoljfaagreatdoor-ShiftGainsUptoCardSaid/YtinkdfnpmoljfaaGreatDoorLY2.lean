import Derived.Test.YtinkdfnpmoljfaaGreatDoorLY
set_option linter.unusedVariables false
set_option linter.unusedSimpArgs false
set_option linter.unnecessarySimpa false
set_option maxRecDepth 10000
set_option maxHeartbeats 2000000
namespace Go.Proofs.YtinkdfnpmoljfaaGreatDoor
open Go Go.Fen
theorem kg_of {p : List UInt8} {low high n : Int} (least most : Int) (h : ref01_spana p = (low, high, n)) (hn : n ≠ 0) (h1 : ([0, 0, 128, 2048, 65536] : List Int).getD n.toNat 0 = least) (h2 : ([0, 127, 2047, 65535, 1114111] : List Int).getD n.toNat 0 = most)
  (hk : (G low high least most ∧ (p.length : Int) = n ∧ utf_kind p = 2 ∧ utf_code p = low) ∨ (G low high least most ∧ (p.length : Int) ≠ n ∧ utf_kind p = 1) ∨ (¬ G low high least most ∧ utf_kind p = 0)) : KG p := by
 have g := goes_of h hn h1 h2
 rcases hk with ⟨a, b, c, d⟩ | ⟨a, b, c⟩ | ⟨a, c⟩
 ·exact .whole c (by rw [g, decide_eq_true a, decide_eq_true b]; rfl) (by rw [d, h])
 ·exact .front c (by rw [g, decide_eq_true a, decide_eq_false b]; rfl)
 ·exact .no c (by rw [g, decide_eq_false a]; rfl)
theorem kg_no {p : List UInt8} (h : ref01_spana p = (0, 0, 0)) (hk : utf_kind p = 0) : KG p := .no hk (goes_no (by rw [h]))
def Bd8 (c : UInt8) : Prop := (c.toNat : Int) < 128 ∨ (191 : Int) < (c.toNat : Int)
theorem Bd8.not {c : UInt8} (h : ¬ Bd8 c) : 128 ≤ (c.toNat : Int) ∧ (c.toNat : Int) ≤ 191 := by unfold Bd8 at h; omega
theorem st_in {p : List UInt8} {n v : Int} {fu : Nat} {low high : Int} {i : Nat} (h3 : ¬ Bd8 (p.getD i 0)) (hl : 0 ≤ low ∧ low ≤ high ∧ high ≤ 4194304) (h1 : (i : Int) < n) (h2 : (i : Int) < p.length) :
  ref01_spana_l0 p (n, v) (fu + 1) low high i = ref01_spana_l0 p (n, v) fu (low * 64 + ((p.getD i 0).toNat - 128)) (high * 64 + ((p.getD i 0).toNat - 128)) (i + 1) := by
 unfold Bd8 at h3; rw [span_l0 _ _ _ _ _ _ (by omega) (by omega), if_pos h1, if_pos h2, if_neg h3]
theorem st_bad {p : List UInt8} {n v : Int} {fu : Nat} {low high : Int} {i : Nat} (h3 : Bd8 (p.getD i 0)) (hl : 0 ≤ low ∧ low ≤ high ∧ high ≤ 4194304) (h1 : (i : Int) < n) (h2 : (i : Int) < p.length) :
  ref01_spana_l0 p (n, v) (fu + 1) low high i = (0, 0, 0) := by
 unfold Bd8 at h3; rw [span_l0 _ _ _ _ _ _ (by omega) (by omega), if_pos h1, if_pos h2, if_pos h3]
theorem st_out {p : List UInt8} {n v : Int} {fu : Nat} {low high : Int} {i : Nat} (hl : 0 ≤ low ∧ low ≤ high ∧ high ≤ 4194304) (h1 : (i : Int) < n) (h2 : ¬ (i : Int) < p.length) :
  ref01_spana_l0 p (n, v) (fu + 1) low high i = ref01_spana_l0 p (n, v) fu (low * 64) (high * 64 + 63) (i + 1) := by
 rw [span_l0 _ _ _ _ _ _ (by omega) (by omega), if_pos h1, if_neg h2]
theorem st_end {p : List UInt8} {n v : Int} {fu : Nat} {low high : Int} {i : Nat} (hl : 0 ≤ low ∧ low ≤ high ∧ high ≤ 4194304) (h1 : ¬ (i : Int) < n) :
  ref01_spana_l0 p (n, v) (fu + 1) low high i = if n < (p.length : Int) then (0, 0, 0) else (low, high, n) := by
 rw [span_l0 _ _ _ _ _ _ (by omega) (by omega), if_neg h1]
theorem second_in (b : UInt8) : 128 ≤ ((utf_second b).1.toNat : Int) ∧ ((utf_second b).2.toNat : Int) ≤ 191 := by
 rw [(second_eq b).1, (second_eq b).2]; repeat' split
 all_goals omega
theorem span_eq1 (b : UInt8) (cs : List UInt8) {v : Int} (h : ref01_first b = (1, v)) : ref01_spana (b :: cs) = ref01_spana_l0 (b :: cs) (1, v) (0 + 1) v v 1 := span_eq b cs h
theorem span_eq2 (b : UInt8) (cs : List UInt8) {v : Int} (h : ref01_first b = (2, v)) : ref01_spana (b :: cs) = ref01_spana_l0 (b :: cs) (2, v) (0 + 1 + 1) v v 1 := span_eq b cs h
theorem span_eq3 (b : UInt8) (cs : List UInt8) {v : Int} (h : ref01_first b = (3, v)) : ref01_spana (b :: cs) = ref01_spana_l0 (b :: cs) (3, v) (0 + 1 + 1 + 1) v v 1 := span_eq b cs h
theorem span_eq4 (b : UInt8) (cs : List UInt8) {v : Int} (h : ref01_first b = (4, v)) : ref01_spana (b :: cs) = ref01_spana_l0 (b :: cs) (4, v) (0 + 1 + 1 + 1 + 1) v v 1 := span_eq b cs h
theorem kind_out {b : UInt8} {cs : List UInt8} (h : utf_length b < (cs.length : Int) + 1) : utf_kind (b :: cs) = 0 := by rw [kind_nil, if_pos h]
theorem kc_bad {p : List UInt8} {c : UInt8} {cs : List UInt8} {low high : UInt8} {t : Nat} (hl : 128 ≤ (low.toNat : Int)) (hh : (high.toNat : Int) ≤ 191) (h : Bd8 c) : utf_kind_l0 p (c :: cs) low high t = 0 := by
 rw [kind_cons, if_pos (by unfold Bd8 at h; omega)]

theorem kg1 (b : UInt8) (h1 : 0 ≤ (b.toNat : Int)) (h2 : (b.toNat : Int) < 128) (hL : utf_length b = 1) (hF : ref01_first b = (1, (b.toNat : Int))) : ∀ cs : List UInt8, KG (b :: cs)
 | [] => by
  have hs := second_eq b
  refine kg_of 0 127 ((span_eq1 b _ hF).trans <| (st_end (p := b :: []) (i := 1) (by (try simp only [List.getD_cons_succ, List.getD_cons_zero]); omega) (by decide)).trans (if_neg (by simp only [List.length_cons, List.length_nil]; omega))) (by decide) rfl rfl ?_
  have hc := code1 b  (by omega)
  rw [kind_nil, hL, if_neg (by simp only [List.length_cons, List.length_nil]; omega)]
  rw [kind_end]; simp only [List.getD_cons_zero, List.getD_cons_succ, hL, List.length_cons, List.length_nil, show ((128 : UInt8).toNat : Int) = 128 from rfl, show ((191 : UInt8).toNat : Int) = 191 from rfl, hs.1, hs.2]; unfold G
  clear hs hL hF
  generalize (b.toNat : Int) = x0 at *
  repeat' split
  all_goals omega
 | c :: r => by
  have hk : utf_kind (b :: c :: r) = 0 := kind_out (by rw [hL]; simp only [List.length_cons]; omega)
  exact kg_no ((span_eq1 b _ hF).trans <| (st_end (p := b :: c :: r) (i := 1) (by (try simp only [List.getD_cons_succ, List.getD_cons_zero]); omega) (by decide)).trans (if_pos (by simp only [List.length_cons, List.length_nil]; omega))) hk
theorem kg2 (b : UInt8) (h1 : 194 ≤ (b.toNat : Int)) (h2 : (b.toNat : Int) < 224) (hL : utf_length b = 2) (hF : ref01_first b = (2, (b.toNat : Int) - 192)) : ∀ cs : List UInt8, KG (b :: cs)
 | [] => by
  have hs := second_eq b
  refine kg_of 128 2047 ((span_eq2 b _ hF).trans <| (st_out (p := b :: []) (i := 1) (by (try simp only [List.getD_cons_succ, List.getD_cons_zero]); omega) (by decide) (by simp only [List.length_cons, List.length_nil]; omega)).trans <| (st_end (p := b :: []) (i := 2) (by (try simp only [List.getD_cons_succ, List.getD_cons_zero]); omega) (by decide)).trans (if_neg (by simp only [List.length_cons, List.length_nil]; omega))) (by decide) rfl rfl ?_
  rw [kind_nil, hL, if_neg (by simp only [List.length_cons, List.length_nil]; omega)]
  rw [kind_end]; simp only [List.getD_cons_zero, List.getD_cons_succ, hL, List.length_cons, List.length_nil, show ((128 : UInt8).toNat : Int) = 128 from rfl, show ((191 : UInt8).toNat : Int) = 191 from rfl, hs.1, hs.2]; unfold G
  clear hs hL hF
  generalize (b.toNat : Int) = x0 at *
  repeat' split
  all_goals omega
 | [c] => by
  have hs := second_eq b
  have := bN c
  by_cases g0 : Bd8 c
  ·refine kg_no ((span_eq2 b _ hF).trans <| st_bad (p := b :: [c]) (i := 1) g0 (by (try simp only [List.getD_cons_succ, List.getD_cons_zero]); omega) (by decide) (by simp only [List.length_cons, List.length_nil]; omega)) ?_
   rw [kind_nil, hL, if_neg (by simp only [List.length_cons, List.length_nil]; omega)]
   exact kc_bad (second_in b).1 (second_in b).2 g0
  have b0 := Bd8.not g0
  refine kg_of 128 2047 ((span_eq2 b _ hF).trans <| (st_in (p := b :: [c]) (i := 1) g0 (by (try simp only [List.getD_cons_succ, List.getD_cons_zero]); omega) (by decide) (by simp only [List.length_cons, List.length_nil]; omega)).trans <| (st_end (p := b :: [c]) (i := 2) (by (try simp only [List.getD_cons_succ, List.getD_cons_zero]); omega) (by decide)).trans (if_neg (by simp only [List.length_cons, List.length_nil]; omega))) (by decide) rfl rfl ?_
  have hc := code2 b c (by omega) b0
  rw [kind_nil, hL, if_neg (by simp only [List.length_cons, List.length_nil]; omega)]
  rw [kind_cons]
  rw [kind_end]; simp only [List.getD_cons_zero, List.getD_cons_succ, hL, List.length_cons, List.length_nil, show ((128 : UInt8).toNat : Int) = 128 from rfl, show ((191 : UInt8).toNat : Int) = 191 from rfl, hs.1, hs.2]; unfold G
  clear hs hL hF
  generalize (b.toNat : Int) = x0 at *
  generalize (c.toNat : Int) = xc at *
  repeat' split
  all_goals omega
 | c :: d :: r => by
  have hk : utf_kind (b :: c :: d :: r) = 0 := kind_out (by rw [hL]; simp only [List.length_cons]; omega)
  have := bN c
  by_cases g0 : Bd8 c
  ·exact kg_no ((span_eq2 b _ hF).trans <| st_bad (p := b :: c :: d :: r) (i := 1) g0 (by (try simp only [List.getD_cons_succ, List.getD_cons_zero]); omega) (by decide) (by simp only [List.length_cons, List.length_nil]; omega)) hk
  have b0 := Bd8.not g0
  exact kg_no ((span_eq2 b _ hF).trans <| (st_in (p := b :: c :: d :: r) (i := 1) g0 (by (try simp only [List.getD_cons_succ, List.getD_cons_zero]); omega) (by decide) (by simp only [List.length_cons, List.length_nil]; omega)).trans <| (st_end (p := b :: c :: d :: r) (i := 2) (by (try simp only [List.getD_cons_succ, List.getD_cons_zero]); omega) (by decide)).trans (if_pos (by simp only [List.length_cons, List.length_nil]; omega))) hk
theorem kg3 (b : UInt8) (h1 : 224 ≤ (b.toNat : Int)) (h2 : (b.toNat : Int) < 240) (hL : utf_length b = 3) (hF : ref01_first b = (3, (b.toNat : Int) - 224)) : ∀ cs : List UInt8, KG (b :: cs)
 | [] => by
  have hs := second_eq b
  refine kg_of 2048 65535 ((span_eq3 b _ hF).trans <| (st_out (p := b :: []) (i := 1) (by (try simp only [List.getD_cons_succ, List.getD_cons_zero]); omega) (by decide) (by simp only [List.length_cons, List.length_nil]; omega)).trans <| (st_out (p := b :: []) (i := 2) (by (try simp only [List.getD_cons_succ, List.getD_cons_zero]); omega) (by decide) (by simp only [List.length_cons, List.length_nil]; omega)).trans <| (st_end (p := b :: []) (i := 3) (by (try simp only [List.getD_cons_succ, List.getD_cons_zero]); omega) (by decide)).trans (if_neg (by simp only [List.length_cons, List.length_nil]; omega))) (by decide) rfl rfl ?_
  rw [kind_nil, hL, if_neg (by simp only [List.length_cons, List.length_nil]; omega)]
  rw [kind_end]; simp only [List.getD_cons_zero, List.getD_cons_succ, hL, List.length_cons, List.length_nil, show ((128 : UInt8).toNat : Int) = 128 from rfl, show ((191 : UInt8).toNat : Int) = 191 from rfl, hs.1, hs.2]; unfold G
  clear hs hL hF
  generalize (b.toNat : Int) = x0 at *
  repeat' split
  all_goals omega
 | [c] => by
  have hs := second_eq b
  have := bN c
  by_cases g0 : Bd8 c
  ·refine kg_no ((span_eq3 b _ hF).trans <| st_bad (p := b :: [c]) (i := 1) g0 (by (try simp only [List.getD_cons_succ, List.getD_cons_zero]); omega) (by decide) (by simp only [List.length_cons, List.length_nil]; omega)) ?_
   rw [kind_nil, hL, if_neg (by simp only [List.length_cons, List.length_nil]; omega)]
   exact kc_bad (second_in b).1 (second_in b).2 g0
  have b0 := Bd8.not g0
  refine kg_of 2048 65535 ((span_eq3 b _ hF).trans <| (st_in (p := b :: [c]) (i := 1) g0 (by (try simp only [List.getD_cons_succ, List.getD_cons_zero]); omega) (by decide) (by simp only [List.length_cons, List.length_nil]; omega)).trans <| (st_out (p := b :: [c]) (i := 2) (by (try simp only [List.getD_cons_succ, List.getD_cons_zero]); omega) (by decide) (by simp only [List.length_cons, List.length_nil]; omega)).trans <| (st_end (p := b :: [c]) (i := 3) (by (try simp only [List.getD_cons_succ, List.getD_cons_zero]); omega) (by decide)).trans (if_neg (by simp only [List.length_cons, List.length_nil]; omega))) (by decide) rfl rfl ?_
  rw [kind_nil, hL, if_neg (by simp only [List.length_cons, List.length_nil]; omega)]
  rw [kind_cons]
  rw [kind_end]; simp only [List.getD_cons_zero, List.getD_cons_succ, hL, List.length_cons, List.length_nil, show ((128 : UInt8).toNat : Int) = 128 from rfl, show ((191 : UInt8).toNat : Int) = 191 from rfl, hs.1, hs.2]; unfold G
  clear hs hL hF
  generalize (b.toNat : Int) = x0 at *
  generalize (c.toNat : Int) = xc at *
  repeat' split
  all_goals omega
 | [c, d] => by
  have hs := second_eq b
  have := bN c
  have := bN d
  by_cases g0 : Bd8 c
  ·refine kg_no ((span_eq3 b _ hF).trans <| st_bad (p := b :: [c, d]) (i := 1) g0 (by (try simp only [List.getD_cons_succ, List.getD_cons_zero]); omega) (by decide) (by simp only [List.length_cons, List.length_nil]; omega)) ?_
   rw [kind_nil, hL, if_neg (by simp only [List.length_cons, List.length_nil]; omega)]
   exact kc_bad (second_in b).1 (second_in b).2 g0
  have b0 := Bd8.not g0
  by_cases g1 : Bd8 d
  ·refine kg_no ((span_eq3 b _ hF).trans <| (st_in (p := b :: [c, d]) (i := 1) g0 (by (try simp only [List.getD_cons_succ, List.getD_cons_zero]); omega) (by decide) (by simp only [List.length_cons, List.length_nil]; omega)).trans <| st_bad (p := b :: [c, d]) (i := 2) g1 (by (try simp only [List.getD_cons_succ, List.getD_cons_zero]); omega) (by decide) (by simp only [List.length_cons, List.length_nil]; omega)) ?_
   rw [kind_nil, hL, if_neg (by simp only [List.length_cons, List.length_nil]; omega)]
   rw [kind_cons]; split
   ·rfl
   ·exact kc_bad (by decide) (by decide) g1
  have b1 := Bd8.not g1
  refine kg_of 2048 65535 ((span_eq3 b _ hF).trans <| (st_in (p := b :: [c, d]) (i := 1) g0 (by (try simp only [List.getD_cons_succ, List.getD_cons_zero]); omega) (by decide) (by simp only [List.length_cons, List.length_nil]; omega)).trans <| (st_in (p := b :: [c, d]) (i := 2) g1 (by (try simp only [List.getD_cons_succ, List.getD_cons_zero]); omega) (by decide) (by simp only [List.length_cons, List.length_nil]; omega)).trans <| (st_end (p := b :: [c, d]) (i := 3) (by (try simp only [List.getD_cons_succ, List.getD_cons_zero]); omega) (by decide)).trans (if_neg (by simp only [List.length_cons, List.length_nil]; omega))) (by decide) rfl rfl ?_
  have hc := code3 b c d (by omega) b0 b1
  rw [kind_nil, hL, if_neg (by simp only [List.length_cons, List.length_nil]; omega)]
  rw [kind_cons]
  rw [kind_cons]
  rw [kind_end]; simp only [List.getD_cons_zero, List.getD_cons_succ, hL, List.length_cons, List.length_nil, show ((128 : UInt8).toNat : Int) = 128 from rfl, show ((191 : UInt8).toNat : Int) = 191 from rfl, hs.1, hs.2]; unfold G
  clear hs hL hF
  generalize (b.toNat : Int) = x0 at *
  generalize (c.toNat : Int) = xc at *
  generalize (d.toNat : Int) = xd at *
  repeat' split
  all_goals omega
 | c :: d :: e :: r => by
  have hk : utf_kind (b :: c :: d :: e :: r) = 0 := kind_out (by rw [hL]; simp only [List.length_cons]; omega)
  have := bN c
  have := bN d
  by_cases g0 : Bd8 c
  ·exact kg_no ((span_eq3 b _ hF).trans <| st_bad (p := b :: c :: d :: e :: r) (i := 1) g0 (by (try simp only [List.getD_cons_succ, List.getD_cons_zero]); omega) (by decide) (by simp only [List.length_cons, List.length_nil]; omega)) hk
  have b0 := Bd8.not g0
  by_cases g1 : Bd8 d
  ·exact kg_no ((span_eq3 b _ hF).trans <| (st_in (p := b :: c :: d :: e :: r) (i := 1) g0 (by (try simp only [List.getD_cons_succ, List.getD_cons_zero]); omega) (by decide) (by simp only [List.length_cons, List.length_nil]; omega)).trans <| st_bad (p := b :: c :: d :: e :: r) (i := 2) g1 (by (try simp only [List.getD_cons_succ, List.getD_cons_zero]); omega) (by decide) (by simp only [List.length_cons, List.length_nil]; omega)) hk
  have b1 := Bd8.not g1
  exact kg_no ((span_eq3 b _ hF).trans <| (st_in (p := b :: c :: d :: e :: r) (i := 1) g0 (by (try simp only [List.getD_cons_succ, List.getD_cons_zero]); omega) (by decide) (by simp only [List.length_cons, List.length_nil]; omega)).trans <| (st_in (p := b :: c :: d :: e :: r) (i := 2) g1 (by (try simp only [List.getD_cons_succ, List.getD_cons_zero]); omega) (by decide) (by simp only [List.length_cons, List.length_nil]; omega)).trans <| (st_end (p := b :: c :: d :: e :: r) (i := 3) (by (try simp only [List.getD_cons_succ, List.getD_cons_zero]); omega) (by decide)).trans (if_pos (by simp only [List.length_cons, List.length_nil]; omega))) hk
theorem kg4 (b : UInt8) (h1 : 240 ≤ (b.toNat : Int)) (h2 : (b.toNat : Int) < 245) (hL : utf_length b = 4) (hF : ref01_first b = (4, (b.toNat : Int) - 240)) : ∀ cs : List UInt8, KG (b :: cs)
 | [] => by
  have hs := second_eq b
  refine kg_of 65536 1114111 ((span_eq4 b _ hF).trans <| (st_out (p := b :: []) (i := 1) (by (try simp only [List.getD_cons_succ, List.getD_cons_zero]); omega) (by decide) (by simp only [List.length_cons, List.length_nil]; omega)).trans <| (st_out (p := b :: []) (i := 2) (by (try simp only [List.getD_cons_succ, List.getD_cons_zero]); omega) (by decide) (by simp only [List.length_cons, List.length_nil]; omega)).trans <| (st_out (p := b :: []) (i := 3) (by (try simp only [List.getD_cons_succ, List.getD_cons_zero]); omega) (by decide) (by simp only [List.length_cons, List.length_nil]; omega)).trans <| (st_end (p := b :: []) (i := 4) (by (try simp only [List.getD_cons_succ, List.getD_cons_zero]); omega) (by decide)).trans (if_neg (by simp only [List.length_cons, List.length_nil]; omega))) (by decide) rfl rfl ?_
  rw [kind_nil, hL, if_neg (by simp only [List.length_cons, List.length_nil]; omega)]
  rw [kind_end]; simp only [List.getD_cons_zero, List.getD_cons_succ, hL, List.length_cons, List.length_nil, show ((128 : UInt8).toNat : Int) = 128 from rfl, show ((191 : UInt8).toNat : Int) = 191 from rfl, hs.1, hs.2]; unfold G
  clear hs hL hF
  generalize (b.toNat : Int) = x0 at *
  repeat' split
  all_goals omega
 | [c] => by
  have hs := second_eq b
  have := bN c
  by_cases g0 : Bd8 c
  ·refine kg_no ((span_eq4 b _ hF).trans <| st_bad (p := b :: [c]) (i := 1) g0 (by (try simp only [List.getD_cons_succ, List.getD_cons_zero]); omega) (by decide) (by simp only [List.length_cons, List.length_nil]; omega)) ?_
   rw [kind_nil, hL, if_neg (by simp only [List.length_cons, List.length_nil]; omega)]
   exact kc_bad (second_in b).1 (second_in b).2 g0
  have b0 := Bd8.not g0
  refine kg_of 65536 1114111 ((span_eq4 b _ hF).trans <| (st_in (p := b :: [c]) (i := 1) g0 (by (try simp only [List.getD_cons_succ, List.getD_cons_zero]); omega) (by decide) (by simp only [List.length_cons, List.length_nil]; omega)).trans <| (st_out (p := b :: [c]) (i := 2) (by (try simp only [List.getD_cons_succ, List.getD_cons_zero]); omega) (by decide) (by simp only [List.length_cons, List.length_nil]; omega)).trans <| (st_out (p := b :: [c]) (i := 3) (by (try simp only [List.getD_cons_succ, List.getD_cons_zero]); omega) (by decide) (by simp only [List.length_cons, List.length_nil]; omega)).trans <| (st_end (p := b :: [c]) (i := 4) (by (try simp only [List.getD_cons_succ, List.getD_cons_zero]); omega) (by decide)).trans (if_neg (by simp only [List.length_cons, List.length_nil]; omega))) (by decide) rfl rfl ?_
  rw [kind_nil, hL, if_neg (by simp only [List.length_cons, List.length_nil]; omega)]
  rw [kind_cons]
  rw [kind_end]; simp only [List.getD_cons_zero, List.getD_cons_succ, hL, List.length_cons, List.length_nil, show ((128 : UInt8).toNat : Int) = 128 from rfl, show ((191 : UInt8).toNat : Int) = 191 from rfl, hs.1, hs.2]; unfold G
  clear hs hL hF
  generalize (b.toNat : Int) = x0 at *
  generalize (c.toNat : Int) = xc at *
  repeat' split
  all_goals omega
 | [c, d] => by
  have hs := second_eq b
  have := bN c
  have := bN d
  by_cases g0 : Bd8 c
  ·refine kg_no ((span_eq4 b _ hF).trans <| st_bad (p := b :: [c, d]) (i := 1) g0 (by (try simp only [List.getD_cons_succ, List.getD_cons_zero]); omega) (by decide) (by simp only [List.length_cons, List.length_nil]; omega)) ?_
   rw [kind_nil, hL, if_neg (by simp only [List.length_cons, List.length_nil]; omega)]
   exact kc_bad (second_in b).1 (second_in b).2 g0
  have b0 := Bd8.not g0
  by_cases g1 : Bd8 d
  ·refine kg_no ((span_eq4 b _ hF).trans <| (st_in (p := b :: [c, d]) (i := 1) g0 (by (try simp only [List.getD_cons_succ, List.getD_cons_zero]); omega) (by decide) (by simp only [List.length_cons, List.length_nil]; omega)).trans <| st_bad (p := b :: [c, d]) (i := 2) g1 (by (try simp only [List.getD_cons_succ, List.getD_cons_zero]); omega) (by decide) (by simp only [List.length_cons, List.length_nil]; omega)) ?_
   rw [kind_nil, hL, if_neg (by simp only [List.length_cons, List.length_nil]; omega)]
   rw [kind_cons]; split
   ·rfl
   ·exact kc_bad (by decide) (by decide) g1
  have b1 := Bd8.not g1
  refine kg_of 65536 1114111 ((span_eq4 b _ hF).trans <| (st_in (p := b :: [c, d]) (i := 1) g0 (by (try simp only [List.getD_cons_succ, List.getD_cons_zero]); omega) (by decide) (by simp only [List.length_cons, List.length_nil]; omega)).trans <| (st_in (p := b :: [c, d]) (i := 2) g1 (by (try simp only [List.getD_cons_succ, List.getD_cons_zero]); omega) (by decide) (by simp only [List.length_cons, List.length_nil]; omega)).trans <| (st_out (p := b :: [c, d]) (i := 3) (by (try simp only [List.getD_cons_succ, List.getD_cons_zero]); omega) (by decide) (by simp only [List.length_cons, List.length_nil]; omega)).trans <| (st_end (p := b :: [c, d]) (i := 4) (by (try simp only [List.getD_cons_succ, List.getD_cons_zero]); omega) (by decide)).trans (if_neg (by simp only [List.length_cons, List.length_nil]; omega))) (by decide) rfl rfl ?_
  rw [kind_nil, hL, if_neg (by simp only [List.length_cons, List.length_nil]; omega)]
  rw [kind_cons]
  rw [kind_cons]
  rw [kind_end]; simp only [List.getD_cons_zero, List.getD_cons_succ, hL, List.length_cons, List.length_nil, show ((128 : UInt8).toNat : Int) = 128 from rfl, show ((191 : UInt8).toNat : Int) = 191 from rfl, hs.1, hs.2]; unfold G
  clear hs hL hF
  generalize (b.toNat : Int) = x0 at *
  generalize (c.toNat : Int) = xc at *
  generalize (d.toNat : Int) = xd at *
  repeat' split
  all_goals omega
 | [c, d, e] => by
  have hs := second_eq b
  have := bN c
  have := bN d
  have := bN e
  by_cases g0 : Bd8 c
  ·refine kg_no ((span_eq4 b _ hF).trans <| st_bad (p := b :: [c, d, e]) (i := 1) g0 (by (try simp only [List.getD_cons_succ, List.getD_cons_zero]); omega) (by decide) (by simp only [List.length_cons, List.length_nil]; omega)) ?_
   rw [kind_nil, hL, if_neg (by simp only [List.length_cons, List.length_nil]; omega)]
   exact kc_bad (second_in b).1 (second_in b).2 g0
  have b0 := Bd8.not g0
  by_cases g1 : Bd8 d
  ·refine kg_no ((span_eq4 b _ hF).trans <| (st_in (p := b :: [c, d, e]) (i := 1) g0 (by (try simp only [List.getD_cons_succ, List.getD_cons_zero]); omega) (by decide) (by simp only [List.length_cons, List.length_nil]; omega)).trans <| st_bad (p := b :: [c, d, e]) (i := 2) g1 (by (try simp only [List.getD_cons_succ, List.getD_cons_zero]); omega) (by decide) (by simp only [List.length_cons, List.length_nil]; omega)) ?_
   rw [kind_nil, hL, if_neg (by simp only [List.length_cons, List.length_nil]; omega)]
   rw [kind_cons]; split
   ·rfl
   ·exact kc_bad (by decide) (by decide) g1
  have b1 := Bd8.not g1
  by_cases g2 : Bd8 e
  ·refine kg_no ((span_eq4 b _ hF).trans <| (st_in (p := b :: [c, d, e]) (i := 1) g0 (by (try simp only [List.getD_cons_succ, List.getD_cons_zero]); omega) (by decide) (by simp only [List.length_cons, List.length_nil]; omega)).trans <| (st_in (p := b :: [c, d, e]) (i := 2) g1 (by (try simp only [List.getD_cons_succ, List.getD_cons_zero]); omega) (by decide) (by simp only [List.length_cons, List.length_nil]; omega)).trans <| st_bad (p := b :: [c, d, e]) (i := 3) g2 (by (try simp only [List.getD_cons_succ, List.getD_cons_zero]); omega) (by decide) (by simp only [List.length_cons, List.length_nil]; omega)) ?_
   rw [kind_nil, hL, if_neg (by simp only [List.length_cons, List.length_nil]; omega)]
   rw [kind_cons]; split
   ·rfl
   ·skip
    rw [kind_cons]; split
    ·rfl
    ·exact kc_bad (by decide) (by decide) g2
  have b2 := Bd8.not g2
  refine kg_of 65536 1114111 ((span_eq4 b _ hF).trans <| (st_in (p := b :: [c, d, e]) (i := 1) g0 (by (try simp only [List.getD_cons_succ, List.getD_cons_zero]); omega) (by decide) (by simp only [List.length_cons, List.length_nil]; omega)).trans <| (st_in (p := b :: [c, d, e]) (i := 2) g1 (by (try simp only [List.getD_cons_succ, List.getD_cons_zero]); omega) (by decide) (by simp only [List.length_cons, List.length_nil]; omega)).trans <| (st_in (p := b :: [c, d, e]) (i := 3) g2 (by (try simp only [List.getD_cons_succ, List.getD_cons_zero]); omega) (by decide) (by simp only [List.length_cons, List.length_nil]; omega)).trans <| (st_end (p := b :: [c, d, e]) (i := 4) (by (try simp only [List.getD_cons_succ, List.getD_cons_zero]); omega) (by decide)).trans (if_neg (by simp only [List.length_cons, List.length_nil]; omega))) (by decide) rfl rfl ?_
  have hc := code4 b c d e (by omega) b0 b1 b2
  rw [kind_nil, hL, if_neg (by simp only [List.length_cons, List.length_nil]; omega)]
  rw [kind_cons]
  rw [kind_cons]
  rw [kind_cons]
  rw [kind_end]; simp only [List.getD_cons_zero, List.getD_cons_succ, hL, List.length_cons, List.length_nil, show ((128 : UInt8).toNat : Int) = 128 from rfl, show ((191 : UInt8).toNat : Int) = 191 from rfl, hs.1, hs.2]; unfold G
  clear hs hL hF
  generalize (b.toNat : Int) = x0 at *
  generalize (c.toNat : Int) = xc at *
  generalize (d.toNat : Int) = xd at *
  generalize (e.toNat : Int) = xe at *
  repeat' split
  all_goals omega
 | c :: d :: e :: f :: r => by
  have hk : utf_kind (b :: c :: d :: e :: f :: r) = 0 := kind_out (by rw [hL]; simp only [List.length_cons]; omega)
  have := bN c
  have := bN d
  have := bN e
  by_cases g0 : Bd8 c
  ·exact kg_no ((span_eq4 b _ hF).trans <| st_bad (p := b :: c :: d :: e :: f :: r) (i := 1) g0 (by (try simp only [List.getD_cons_succ, List.getD_cons_zero]); omega) (by decide) (by simp only [List.length_cons, List.length_nil]; omega)) hk
  have b0 := Bd8.not g0
  by_cases g1 : Bd8 d
  ·exact kg_no ((span_eq4 b _ hF).trans <| (st_in (p := b :: c :: d :: e :: f :: r) (i := 1) g0 (by (try simp only [List.getD_cons_succ, List.getD_cons_zero]); omega) (by decide) (by simp only [List.length_cons, List.length_nil]; omega)).trans <| st_bad (p := b :: c :: d :: e :: f :: r) (i := 2) g1 (by (try simp only [List.getD_cons_succ, List.getD_cons_zero]); omega) (by decide) (by simp only [List.length_cons, List.length_nil]; omega)) hk
  have b1 := Bd8.not g1
  by_cases g2 : Bd8 e
  ·exact kg_no ((span_eq4 b _ hF).trans <| (st_in (p := b :: c :: d :: e :: f :: r) (i := 1) g0 (by (try simp only [List.getD_cons_succ, List.getD_cons_zero]); omega) (by decide) (by simp only [List.length_cons, List.length_nil]; omega)).trans <| (st_in (p := b :: c :: d :: e :: f :: r) (i := 2) g1 (by (try simp only [List.getD_cons_succ, List.getD_cons_zero]); omega) (by decide) (by simp only [List.length_cons, List.length_nil]; omega)).trans <| st_bad (p := b :: c :: d :: e :: f :: r) (i := 3) g2 (by (try simp only [List.getD_cons_succ, List.getD_cons_zero]); omega) (by decide) (by simp only [List.length_cons, List.length_nil]; omega)) hk
  have b2 := Bd8.not g2
  exact kg_no ((span_eq4 b _ hF).trans <| (st_in (p := b :: c :: d :: e :: f :: r) (i := 1) g0 (by (try simp only [List.getD_cons_succ, List.getD_cons_zero]); omega) (by decide) (by simp only [List.length_cons, List.length_nil]; omega)).trans <| (st_in (p := b :: c :: d :: e :: f :: r) (i := 2) g1 (by (try simp only [List.getD_cons_succ, List.getD_cons_zero]); omega) (by decide) (by simp only [List.length_cons, List.length_nil]; omega)).trans <| (st_in (p := b :: c :: d :: e :: f :: r) (i := 3) g2 (by (try simp only [List.getD_cons_succ, List.getD_cons_zero]); omega) (by decide) (by simp only [List.length_cons, List.length_nil]; omega)).trans <| (st_end (p := b :: c :: d :: e :: f :: r) (i := 4) (by (try simp only [List.getD_cons_succ, List.getD_cons_zero]); omega) (by decide)).trans (if_pos (by simp only [List.length_cons, List.length_nil]; omega))) hk
end Go.Proofs.YtinkdfnpmoljfaaGreatDoor

