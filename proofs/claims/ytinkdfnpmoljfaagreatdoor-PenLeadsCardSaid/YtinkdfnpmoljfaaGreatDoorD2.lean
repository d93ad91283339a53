import Derived.Test.YtinkdfnpmoljfaaGreatDoorD1
import Derived.Lib.Builder
import Derived.Lib.UnsafeStr
import Derived.Laws.Externs
import Derived.WalkKit
import Derived.Shelf.RegionOpenPlain
set_option linter.unusedVariables false
set_option linter.unusedSimpArgs false
namespace Go.Proofs.YtinkdfnpmoljfaaGreatDoor
open Go Go.Fen Go.RowKit
set_option maxHeartbeats 1000000 in
set_option maxRecDepth 100000 in
theorem copyCheck_used (b : Nat) (w : World) (h0 : w.cell? ⟨b, 0, none⟩ = some (.pointer (some ⟨b, 0, none⟩))) :
  Calls Tryz.prog 124 #[.pointer (some ⟨b, 0, none⟩)] w fun e w' => e = .returned (.tuple #[]) ∧ w' = w := by
 obtain ⟨j, hj, _⟩ := Option.map_eq_some_iff.1 (show (Tryz.prog.info? 109).map (·.size) = some 2 by kernel_rfl)
 go_enter Tryz.func124, Tryz.ntmps124
 go_wp2
 rw [Lib.run_neq_ptr_same w _ Tryz.underlying107 hj]
 go_wp2
 go_end0
 exact ⟨rfl, rfl⟩
set_option maxHeartbeats 1000000 in
set_option maxRecDepth 100000 in
theorem copyCheck_fresh (b : Nat) (w : World) (h0 : w.cell? ⟨b, 0, none⟩ = some (.pointer none)) (hsh : w.shape? b = some (109, 2)) (hfz : w.frozen? ⟨b, 0, none⟩ = false) :
  Calls Tryz.prog 124 #[.pointer (some ⟨b, 0, none⟩)] w fun e w' => e = .returned (.tuple #[]) ∧ w' = w.setCell ⟨b, 0, none⟩ (.pointer (some ⟨b, 0, none⟩)) := by
 obtain ⟨j, hj, hjs⟩ := Option.map_eq_some_iff.1 (show (Tryz.prog.info? 109).map (·.size) = some 2 by kernel_rfl)
 go_enter Tryz.func124, Tryz.ntmps124
 go_wp2
 rw [Lib.run_to_unsafe w ⟨b, 0, none⟩ Tryz.underlying107 Tryz.underlying230 hj (by rw [hjs]; decide) hsh (Nat.zero_lt_succ 1)]
 simp only [Result.andThen]
 rw [Oper.upon_value]
 go_wp2
 rw [run_callFunc_extern Tryz.func165 (by kernel_rfl) (by kernel_rfl) (by kernel_rfl) (e := Extern.AbiNoEscape.same) (by kernel_rfl)]
 rw [Lib.run_noEscape]
 simp only [Result.andThen]
 rw [Oper.upon_value]
 go_wp2
 rw [Lib.run_from_unsafe w ⟨b, 0, none⟩ Tryz.underlying230 Tryz.underlying107 hj hsh (by kernel_rfl)]
 simp only [Result.andThen]
 rw [Oper.upon_value]
 go_wp2
 go_end0
 exact ⟨rfl, rfl⟩

theorem keptDrew {M : List Nat} (w : World) : KeptBut M w w.drew := ⟨rfl, rfl, rfl, Nat.le_refl _, fun _ _ _ => rfl⟩
theorem keptFreeze {M : List Nat} {a w : World} {g : Nat} (h : KeptBut M a w) (hg : g ∈ M) (n : Nat) : KeptBut M a (w.freeze ⟨g, 0, none⟩ n) := by
 refine h.trans ?_
 unfold World.freeze
 split
 ·exact KeptBut.refl M w
 ·exact ⟨rfl, rfl, rfl, by simp, fun k hk hm => by
   simp only [Array.getElem?_modify]
   rw [if_neg (by rintro rfl; exact hm hg)]⟩
set_option maxHeartbeats 1000000 in
set_option maxRecDepth 100000 in
theorem String_some (b g cap : Nat) (p : Value) (cur : Array Value) (l : List UInt8) (w : World) (h0 : l ≠ []) (hbk : w.heap[b]? = some (.cells #[p, .slice (some ⟨g, 0, none⟩) l.length cap] 109 (0, 0))) (hg : w.heap[g]? = some (.cells cur 5 (0, 0)))
  (hnc : l.length ≤ cap) (hcm : cap ≤ maxLen) (hcs : cur.size = cap) (hcells : ∀ (j : Nat) (x : UInt8), l[j]? = some x → cur[j]? = some (Value.int .u8 (x.toNat : Int))) :
  Calls Tryz.prog 64 #[.pointer (some ⟨b, 0, none⟩)] w fun e w' => e = .returned (.string ⟨l.toArray⟩) ∧ KeptBut [b, g] w w' := by
 have hl0 : l.length ≠ 0 := by simpa using h0
 have c1 : w.drew.cell? ⟨b, 1, none⟩ = some (.slice (some ⟨g, 0, none⟩) l.length cap) := by
  have : w.drew.heap[b]? = some (.cells #[p, .slice (some ⟨g, 0, none⟩) l.length cap] 109 (0, 0)) := hbk
  rw [Lib.cell_of_heap this]; rfl
 have hSD : (Builtin.unsafeSliceData_ #[30] 173 #[.slice (some ⟨g, 0, none⟩) l.length cap]).run Tryz.prog w.drew = .ok (.pointer (some ⟨g, 0, none⟩)) w.drew :=
  Lib.run_unsafeSliceData_row _ _ _ _ _ _ (by omega)
 have hUS : (Builtin.unsafeString_ #[173, 3] 9 #[.pointer (some ⟨g, 0, none⟩), .int .i64 l.length]).run Tryz.prog w.drew = .ok (.string ⟨l.toArray⟩) (w.drew.freeze ⟨g, 0, none⟩ l.length) := by
  refine Lib.run_unsafeString_row w.drew 173 3 9 5 Tryz.underlying173 (by kernel_rfl) g cur.size (by have hg' : w.drew.heap[g]? = some (.cells cur 5 (0, 0)) := hg; simp [World.shape?, hg']) l h0 (by omega) (by unfold maxLen at hcm; omega) ?_
  intro j x hx
  have hg' : w.drew.heap[g]? = some (.cells cur 5 (0, 0)) := hg
  rw [Addr.add_lit, Nat.zero_add, Lib.cell_of_heap hg']
  exact hcells j x hx
 have mixed : Tryz.prog.follows .mixedOrders = true := by kernel_rfl
 go_enter Tryz.func64, Tryz.ntmps64
 go_wp2
 go_region_o
 all_goals (go_wp2; go_ret; exact ⟨rfl, keptFreeze (keptDrew w) (by simp) _⟩)
set_option maxHeartbeats 2000000 in
set_option maxRecDepth 100000 in
theorem String_nil (b : Nat) (p : Value) (w : World) (hbk : w.heap[b]? = some (.cells #[p, .slice none 0 0] 109 (0, 0))) :
  Calls Tryz.prog 64 #[.pointer (some ⟨b, 0, none⟩)] w fun e w' => e = .returned (.string ⟨#[]⟩) ∧ KeptBut [b] w w' := by
 have hUS := fun (W : World) (q : Option Addr) => Lib.run_unsafeString_none (P := Tryz.prog) W 173 3 9 q
 have c1 : w.drew.cell? ⟨b, 1, none⟩ = some (.slice none 0 0) := by
  have : w.drew.heap[b]? = some (.cells #[p, .slice none 0 0] 109 (0, 0)) := hbk
  rw [Lib.cell_of_heap this]; rfl
 have hSD : (Builtin.unsafeSliceData_ #[30] 173 #[.slice none 0 0]).run Tryz.prog w.drew = .ok (.pointer none) w.drew := rfl
 have mixed : Tryz.prog.follows .mixedOrders = true := by kernel_rfl
 go_enter Tryz.func64, Tryz.ntmps64
 go_wp2
 go_region_o
 all_goals (go_wp2; go_ret; exact ⟨rfl, keptDrew w⟩)
set_option maxHeartbeats 2000000 in
set_option maxRecDepth 100000 in
theorem String_noroom (b g : Nat) (p : Value) (cur : Array Value) (w : World) (hbk : w.heap[b]? = some (.cells #[p, .slice (some ⟨g, 0, none⟩) 0 0] 109 (0, 0))) (hg : w.heap[g]? = some (.cells cur 5 (0, 0))) :
  Calls Tryz.prog 64 #[.pointer (some ⟨b, 0, none⟩)] w fun e w' => e = .returned (.string ⟨#[]⟩) ∧ KeptBut [b, g] w w' := by
 have hUS := fun (W : World) (q : Option Addr) => Lib.run_unsafeString_none (P := Tryz.prog) W 173 3 9 q
 have hlt : b < w.heap.size := by
  rcases Nat.lt_or_ge b w.heap.size with h' | h'
  ·exact h'
  ·simp [Array.getElem?_eq_none h'] at hbk
 have c1 : w.drew.cell? ⟨b, 1, none⟩ = some (.slice (some ⟨g, 0, none⟩) 0 0) := by
  have : w.drew.heap[b]? = some (.cells #[p, .slice (some ⟨g, 0, none⟩) 0 0] 109 (0, 0)) := hbk
  rw [Lib.cell_of_heap this]; rfl
 have hSD : (Builtin.unsafeSliceData_ #[30] 173 #[.slice (some ⟨g, 0, none⟩) 0 0]).run Tryz.prog w.drew = .ok (.pointer (some ⟨w.drew.heap.size, 0, none⟩)) (w.drew.alloc (.view ⟨g, 0, none⟩ 5)) :=
  Lib.run_unsafeSliceData_zero w.drew _ _ 5 Tryz.underlying173 ⟨g, 0, none⟩ 0 (5, cur.size) (by have hg' : w.drew.heap[g]? = some (.cells cur 5 (0, 0)) := hg; simp [World.shape?, hg'])
 have c2 : (w.drew.alloc (.view ⟨g, 0, none⟩ 5)).cell? ⟨b, 1, none⟩ = some (.slice (some ⟨g, 0, none⟩) 0 0) := by
  have : (w.drew.alloc (.view ⟨g, 0, none⟩ 5)).heap[b]? = _ := (Lib.alloc_old w.drew _ b hlt).trans hbk
  rw [Lib.cell_of_heap this]; rfl
 have c3 : (w.alloc (.view ⟨g, 0, none⟩ 5)).drew.cell? ⟨b, 1, none⟩ = some (.slice (some ⟨g, 0, none⟩) 0 0) := c2
 have c0 : w.cell? ⟨b, 1, none⟩ = some (.slice (some ⟨g, 0, none⟩) 0 0) := c1
 have mixed : Tryz.prog.follows .mixedOrders = true := by kernel_rfl
 go_enter Tryz.func64, Tryz.ntmps64
 go_wp2
 go_region_o
 all_goals (go_wp2; go_ret; exact ⟨rfl, (keptDrew w).alloc _⟩)
set_option maxHeartbeats 2000000 in
set_option maxRecDepth 100000 in
theorem String_room (b g cap : Nat) (p : Value) (w : World) (hc0 : cap ≠ 0) (hbk : w.heap[b]? = some (.cells #[p, .slice (some ⟨g, 0, none⟩) 0 cap] 109 (0, 0))) :
  Calls Tryz.prog 64 #[.pointer (some ⟨b, 0, none⟩)] w fun e w' => e = .returned (.string ⟨#[]⟩) ∧ KeptBut [b, g] w w' := by
 have hUS := fun (W : World) (q : Option Addr) => Lib.run_unsafeString_none (P := Tryz.prog) W 173 3 9 q
 have c1 : w.drew.cell? ⟨b, 1, none⟩ = some (.slice (some ⟨g, 0, none⟩) 0 cap) := by
  have : w.drew.heap[b]? = some (.cells #[p, .slice (some ⟨g, 0, none⟩) 0 cap] 109 (0, 0)) := hbk
  rw [Lib.cell_of_heap this]; rfl
 have hSD : (Builtin.unsafeSliceData_ #[30] 173 #[.slice (some ⟨g, 0, none⟩) 0 cap]).run Tryz.prog w.drew = .ok (.pointer (some ⟨g, 0, none⟩)) w.drew :=
  Lib.run_unsafeSliceData_row _ _ _ _ _ _ hc0
 clear hc0
 have mixed : Tryz.prog.follows .mixedOrders = true := by kernel_rfl
 go_enter Tryz.func64, Tryz.ntmps64
 go_wp2
 go_region_o
 all_goals (go_wp2; go_ret; exact ⟨rfl, keptDrew w⟩)

theorem st0 {L0 : Fen.Own} {h : Hp} {w : World} (hs : h.sub w) (ho : OwnIn L0 h w) : StW (cx w h (L0.map Prod.fst)) L0 [] w :=
 ⟨h, ⟨fun q hq => (by cases hq), hs, Hp.le_refl _, fun b hb => .inl hb, ho, fun e he => .inl (List.mem_map_of_mem he), KeptBut.refl _ _, fun d hd => by cases hd⟩⟩
theorem copyCheck_n (b : Nat) (v : Value) : Con Tryz.prog 124 [pt b 0] [bx b [.pointer none, v] 109] [] Unit (fun _ => .tuple #[]) (fun _ => [bx b [pt b 0, v] 109]) (fun _ => []) := by
 refine ⟨⟨by kernel_rfl⟩, fun w h hq hs ho => ?_⟩
 have hb := (ho.1 _ (List.mem_singleton.2 rfl)).1
 simp only at hb
 have hx := st0 hs ho
 refine (copyCheck_fresh b w (by rw [Lib.cell_of_heap hb]; rfl) (by simp [World.shape?, hb]) (Lib.frozen_of_heap hb 0)).mono ?_
 rintro e w' ⟨rfl, rfl⟩
 refine ⟨(), rfl, ?_⟩
 have hset : w.setCell ⟨b, 0, none⟩ (.pointer (some ⟨b, 0, none⟩)) = w.setRow b #[pt b 0, v] := by
  have := setRow_heap w b #[Value.pointer none, v] #[pt b 0, v] 109 (0, 0) hb
  simp only [World.setCell, World.setRow]
  congr 1
  apply Array.ext_getElem?
  intro i
  simp only [Array.getElem?_modify]
  split
  ·rename_i h1; subst h1; simp [hb]
  ·rfl
 rw [hset]
 exact hx.set (i := 0) rfl (setRow_heap w b _ _ 109 (0, 0) hb) (fun k hk => setRow_other w b k _ hk) rfl rfl rfl (by simp)
theorem copyCheck_s (b : Nat) (v : Value) : Con Tryz.prog 124 [pt b 0] [bx b [pt b 0, v] 109] [] Unit (fun _ => .tuple #[]) (fun _ => [bx b [pt b 0, v] 109]) (fun _ => []) := by
 refine ⟨⟨by kernel_rfl⟩, fun w h hq hs ho => ?_⟩
 have hb := (ho.1 _ (List.mem_singleton.2 rfl)).1
 simp only at hb
 have hx := st0 hs ho
 refine (copyCheck_used b w (by rw [Lib.cell_of_heap hb]; rfl)).mono ?_
 rintro e w' ⟨rfl, rfl⟩
 exact ⟨(), rfl, hx⟩
theorem stKept {L0 : Fen.Own} {h : Hp} {w w' : World} (hs : h.sub w) (ho : OwnIn L0 h w) (hk : KeptBut (L0.map Prod.fst) w w') : StW (cx w h (L0.map Prod.fst)) [] [] w' := by
 refine ⟨h, ⟨fun q hq => (by cases hq), fun b o e => ?_, Hp.le_refl _, fun b hb => .inl hb, ⟨fun e he => (by cases he), List.nodup_nil⟩, fun e he => (by cases he), hk, fun d hd => by cases hd⟩⟩
 have hne : b ∉ L0.map Prod.fst := fun hm => by
  obtain ⟨e', he', rfl⟩ := List.mem_map.1 hm
  rw [(ho.1 e' he').2] at e
  cases e
 rw [hk.block b (Hp.lt hs e) hne]
 exact hs b o e
theorem String_c (b : Nat) (p : Value) (l : List UInt8) (r : VR) (hok : VOk 1 l.length r) : Con Tryz.prog 64 [pt b 0] (bx b [p, vv r l.length] 109 :: (vo cU8 5 r l ++ [])) [] Unit (fun _ => sv l) (fun _ => []) (fun _ => []) := by
 refine ⟨⟨by kernel_rfl⟩, fun w h hq hs ho => ?_⟩
 have hb := (ho.1 (bx b [p, vv r l.length] 109) (by simp)).1
 simp only at hb
 have fin : ∀ {R : Ending → World → Prop}, (∀ e w', (e = .returned (.string ⟨l.toArray⟩) ∧ KeptBut ((bx b [p, vv r l.length] 109 :: (vo cU8 5 r l ++ [])).map Prod.fst) w w') → R e w') → (Calls Tryz.prog 64 #[pt b 0] w fun e w' => e = .returned (.string ⟨l.toArray⟩) ∧ KeptBut ((bx b [p, vv r l.length] 109 :: (vo cU8 5 r l ++ [])).map Prod.fst) w w') → Calls Tryz.prog 64 #[pt b 0] w R := fun h1 h2 => h2.mono h1
 refine fin (fun e w' ⟨he, hk⟩ => ⟨(), he, stKept hs ho hk⟩) ?_
 obtain ⟨q, k, j⟩ := r
 cases q with
 | none =>
  have h0 : l.length = 0 ∧ k = 0 := hok
  have hl : l = [] := List.eq_nil_of_length_eq_zero h0.1
  obtain ⟨_, hk⟩ := h0
  subst hl hk
  exact String_nil b p w hb
 | some g =>
  have hok' : l.length * 1 + j.length = k * 1 ∧ l.length ≤ k ∧ k ≤ maxLen := hok
  have hg := (ho.1 (bx g (l.flatMap cU8 ++ j) 5) (by simp [vo])).1
  simp only at hg
  have hfl : (l.flatMap cU8).length = l.length := by rw [flatMap_length (sz := 1) (fun _ => rfl)]; omega
  cases l with
  | nil =>
   by_cases hk : k = 0
   ·subst hk
    exact String_noroom b g p _ w hb hg
   ·exact String_room b g k p w hk hb
  | cons x l =>
   refine String_some b g k p _ (x :: l) w (by simp) hb hg hok'.2.1 hok'.2.2 (by simp only [List.size_toArray, List.length_append, hfl]; omega) ?_
   intro i y hy
   have hi := (List.getElem?_eq_some_iff.1 hy).1
   rw [List.getElem?_toArray, List.getElem?_append_left (by rw [hfl]; exact hi), cU8_get _ _ hi]
   rw [List.getElem?_eq_getElem hi] at hy
   simp only [Option.some.injEq] at hy
   rw [hy]
theorem copyCheck_p (b : Nat) (v : Value) (pz : Option Addr) (h : pz = none ∨ pz = some ⟨b, 0, none⟩) : Con Tryz.prog 124 [pt b 0] [bx b [.pointer pz, v] 109] [] Unit (fun _ => .tuple #[]) (fun _ => [bx b [pt b 0, v] 109]) (fun _ => []) := by
 rcases h with rfl | rfl
 ·exact copyCheck_n b v
 ·exact copyCheck_s b v
end Go.Proofs.YtinkdfnpmoljfaaGreatDoor

