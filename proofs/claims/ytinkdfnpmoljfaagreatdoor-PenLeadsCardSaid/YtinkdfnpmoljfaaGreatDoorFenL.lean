import Derived.Test.YtinkdfnpmoljfaaGreatDoorFenK
import Derived.Maps.AppendAt
set_option linter.unusedVariables false
set_option linter.unusedSimpArgs false
namespace Go.Fen
open Go Go.RowKit
set_option linter.unusedSimpArgs false
set_option linter.unusedVariables false

section
variable {P : Program} {n : Nat} {X : Cx} {K : Act → World → Prop} {Q : Exit → Act → World → Prop} {E E' : Env} {L L' : Own} {Φ Φ' : List Pers}

/-! ### Some owned blocks turn into others -/
theorem StW.perm {w : World} (h : StW X L Φ w) (hp : L.Perm L') : StW X L' Φ w :=
 let ⟨p, q⟩ := h; ⟨p, ⟨q.facts, q.sub, q.le, q.dom, ⟨fun e he => q.own.1 e (hp.symm.subset he), (hp.map Prod.fst).nodup_iff.1 q.own.2⟩, fun e he => q.may e (hp.symm.subset he), q.kept, fun d hd => let ⟨h1, h2, h3, h4⟩ := q.res d hd; ⟨h1, h2, fun e he => h3 e (hp.symm.subset he), h4⟩⟩⟩
theorem perm_mid {α : Type} (a b c : List α) : (a ++ (b ++ c)).Perm (b ++ (a ++ c)) := by
 rw [← List.append_assoc, ← List.append_assoc]
 exact List.perm_append_comm.append_right c
theorem StW.turn {pre L0 L1 post : Own} {w w' : World} (h : StW X (pre ++ (L0 ++ post)) Φ w) (hk : KeptBut (L0.map Prod.fst) w w') (h1 : ∀ e ∈ L1, w'.heap[e.1]? = some e.2 ∧ (e.1 ∈ L0.map Prod.fst ∨ w.heap.size ≤ e.1)) (hn : (L1.map Prod.fst).Nodup) :
  StW X (pre ++ (L1 ++ post)) Φ w' := by
 obtain ⟨p, hp⟩ := h
 have hnone : ∀ b ∈ L0.map Prod.fst, p b = none := fun b hb => by
  obtain ⟨e, he, rfl⟩ := List.mem_map.1 hb
  exact (hp.own.1 e (List.mem_append_right _ (List.mem_append_left _ he))).2
 have hc : StW (cx w p (L0.map Prod.fst)) L1 [] w' := by
  refine ⟨p, ⟨fun q hq => (by cases hq), fun b o e => ?_, Hp.le_refl p, fun b hb => .inl hb, ⟨fun e he => ⟨(h1 e he).1, ?_⟩, hn⟩, fun e he => (h1 e he).2, hk, fun d hd => (by cases hd)⟩⟩
  ·rw [hk.block b (Hp.lt hp.sub e) (fun hm => by rw [hnone b hm] at e; cases e)]; exact hp.sub b o e
  ·rcases (h1 e he).2 with h2 | h2
   ·exact hnone _ h2
   ·cases h3 : p e.1 with
    | none => rfl
    | some o => have := Hp.lt hp.sub h3; omega
 have := StW.call (L0 := L0) (L2 := pre ++ post) hp (perm_mid _ _ _) hc
 exact (this.foll fun _ h => by simpa using h).perm (perm_mid _ _ _).symm

/-! ### Slices that grow -/
structure VR where
 q : Option Nat
 k : Nat
 j : List Value
def va (q : Option Nat) : Option Addr := match q with | none => none | some b => some ⟨b, 0, none⟩
def VOk (sz n : Nat) (r : VR) : Prop := match r.q with
 | none => n = 0 ∧ r.k = 0
 | some _ => n * sz + r.j.length = r.k * sz ∧ n ≤ r.k ∧ r.k ≤ maxLen
def vo {α : Type} (c : α → List Value) (T : Nat) (r : VR) (xs : List α) : Own := match r.q with
 | none => []
 | some b => [bx b (xs.flatMap c ++ r.j) T]
abbrev vv (r : VR) (n : Nat) : Value := .slice (va r.q) n r.k
def VR.nil : VR := ⟨none, 0, []⟩
theorem VOk.nil {sz : Nat} : VOk sz 0 VR.nil := ⟨rfl, rfl⟩
theorem VOk.some {sz n : Nat} {r : VR} (h : VOk sz n r) (hn : 0 < n) : ∃ b, r.q = Option.some b := by
 unfold VOk at h
 split at h
 ·omega
 ·rename_i b hb; exact ⟨b, hb⟩
theorem VOk.cast {sz n m : Nat} {r : VR} (h : VOk sz n r) (hn : n = m) : VOk sz m r := hn ▸ h
structure ApTy (P : Program) (T e sz by' : Nat) : Prop where
 ty : P.underlying T = some (.slice e)
 info : (P.info? e).map (fun i => (i.size, i.bytes, i.zero.map (·.cells.size))) = some (sz, by', some sz)
 pos : Nat.blt 0 sz = true
theorem flatMap_length {α : Type} {c : α → List Value} {sz : Nat} (hc : ∀ x, (c x).length = sz) : ∀ xs : List α, (xs.flatMap c).length = xs.length * sz
 | [] => by simp
 | x :: xs => by rw [List.flatMap_cons, List.length_append, hc, flatMap_length hc xs, List.length_cons, Nat.succ_mul]; omega
theorem flatMap_one {α : Type} {c : α → List Value} (hc : ∀ x, (c x).all (·.oneCell') = true) (xs : List α) : ∀ u ∈ xs.flatMap c, u.oneCell' = true := fun u hu => by
 obtain ⟨x, _, h⟩ := List.mem_flatMap.1 hu
 exact List.all_eq_true.1 (hc x) u h

theorem run_append_vec {T e sz by' ty : Nat} (hT : ApTy P T e sz by') {α : Type} {f : α → List Value} (hf : ∀ x, (f x).length = sz) (hf1 : ∀ x, (f x).all (·.oneCell') = true) {r : VR} {xs ys : List α} {pre post : Own} {w : World} {a : Addr} {m cc : Nat} (hm : m = ys.length)
  (hw : StW X (pre ++ (vo f e r xs ++ post)) Φ w) (hq : Fol1 Φ (sl f (some a) ys)) (hok : VOk sz xs.length r) (hb : (xs.length + ys.length) * by' ≤ 140737488355328) (h63 : xs.length + ys.length ≤ maxLen) :
  ∃ r' w', (Builtin.append_ #[T, T] ty #[vv r xs.length, .slice (some a) m cc]).run P w = .ok (vv r' (xs.length + ys.length)) w' ∧ VOk sz (xs.length + ys.length) r' ∧ StW X (pre ++ (vo f e r' (xs ++ ys) ++ post)) Φ w' := by
 obtain ⟨i, hi, hinf⟩ := Option.map_eq_some_iff.1 hT.info
 simp only [Prod.mk.injEq] at hinf
 obtain ⟨h4, h5, h6⟩ := hinf
 obtain ⟨z, hz, h6⟩ := Option.map_eq_some_iff.1 h6
 obtain ⟨p, hp⟩ := hw
 have hcells : Cells p a (ys.flatMap f) := hq p hp.facts
 have hpos : 0 < sz := by simpa [Nat.blt_eq] using hT.pos
 have hown : w.ownsRow 0 e sz (vv r xs.length) xs.length (xs.flatMap f) := by
  refine ⟨flatMap_length hf xs, ?_⟩
  unfold VOk at hok
  split at hok
  ·rename_i hq0
   refine .inl ⟨?_, hok.1⟩
   unfold vv va
   rw [hq0, hok.1, hok.2]
  ·rename_i b hq0
   refine .inr ⟨b, r.k, (xs.flatMap f ++ r.j).toArray, ?_, Nat.zero_le _, ?_, hok.2.1, hok.2.2, ?_, ?_⟩
   ·unfold vv va; rw [hq0]
   ·have := hp.own.1 (bx b (xs.flatMap f ++ r.j) e) (List.mem_append_right _ (List.mem_append_left _ (by unfold vo; rw [hq0]; simp)))
    exact this.1
   ·simp only [List.size_toArray, List.length_append, flatMap_length hf]; exact hok.1
   ·rw [← flatMap_length hf xs]; simp
 obtain ⟨v', w', hrun, hown', hg, hnil, hlies⟩ := run_append_own_at (P := P) w 0 T ty e i z sz by' hT.ty hi hz h4 h5 h6 hpos (vv r xs.length) xs.length (xs.flatMap f) hown a m cc (ys.flatMap f)
  (by rw [flatMap_length hf, hm]) (fun j u hj => hcells.cell hp.sub hj) (flatMap_one hf1 ys) (by rw [hm]; exact h63) (by rw [hm]; exact hb) (Nat.zero_le _)
 rw [hm] at hown' hnil
 have hkeys : (vo f e r xs).map Prod.fst = r.q.toList := by unfold vo; split <;> simp_all
 have hblk : (vv r xs.length).ownBlock = r.q := by unfold vv va Value.ownBlock; cases r.q <;> rfl
 have hk : KeptBut ((vo f e r xs).map Prod.fst) w w' := ⟨hg.os, hg.tape, hg.output, hg.size, fun k hk hm' => hg.block k hk (fun e' => hm' (by rw [hkeys]; rw [hblk] at e'; rw [← e']; simp))⟩
 obtain ⟨hlen, hor⟩ := hown'
 rcases hor with ⟨rfl, hn0⟩ | ⟨g, cap, cur, rfl, _, hheap, hle, hmax, hsz, htake⟩
 ·refine ⟨VR.nil, w', ?_, ?_, ?_⟩
  ·rw [hrun, hn0]; rfl
  ·rw [hn0]; exact VOk.nil
  ·exact StW.turn ⟨p, hp⟩ hk (by intro e he; cases he) List.nodup_nil
 ·refine ⟨⟨some g, cap, cur.toList.drop ((xs.length + ys.length) * sz)⟩, w', ?_, ?_, ?_⟩
  ·rw [hrun]; rfl
  ·refine ⟨?_, hle, hmax⟩
   have : (xs.length + ys.length) * sz ≤ cap * sz := Nat.mul_le_mul_right _ hle
   simp only [List.length_drop, Array.length_toList, hsz]; omega
  ·refine StW.turn ⟨p, hp⟩ hk (L1 := [bx g ((xs ++ ys).flatMap f ++ cur.toList.drop ((xs.length + ys.length) * sz)) e]) ?_ (by simp)
   intro e' he
   obtain rfl : e' = _ := by simpa using he
   refine ⟨?_, ?_⟩
   ·simp only
    rw [hheap, ← List.append_assoc, ← htake, List.take_append_drop]
   ·rcases hlies with h1 | h1
    ·refine .inl ?_
     rw [hkeys]
     rw [hblk] at h1
     rw [← h1]; simp [Value.ownBlock]
    ·simp [Value.ownBlock] at h1
     exact .inr (by simp only; omega)

theorem tri_append {o : Oper} {c : Call} {T e sz by' : Nat} {x y : Operand} {α : Type} {f : α → List Value} {r : VR} {xs ys : List α} {a : Addr} {m cc : Nat} {pre post : Own} (hT : ApTy P T e sz by') (hf : ∀ x, (f x).length = sz) (hf1 : ∀ x, (f x).all (·.oneCell') = true)
  (ho : o.op = .call c) (hc : c.callee = .builtin .append) (hca : c.args = #[x, y]) (hct : c.argTypes = #[T, T]) (hx : ev E x = some (vv r xs.length)) (hy : ev E y = some (.slice (some a) m cc)) (hm : m = ys.length) (hL : L = pre ++ (vo f e r xs ++ post))
  (hq : Fol1 Φ (sl f (some a) ys)) (hok : VOk sz xs.length r) (hb : (xs.length + ys.length) * by' ≤ 140737488355328) (h63 : xs.length + ys.length ≤ 9223372036854775807) :
  Tri P n X o E L Φ {r' : VR // VOk sz (xs.length + ys.length) r'} (fun r' => vv r'.1 (xs.length + ys.length)) (fun r' => pre ++ (vo f e r'.1 (xs ++ ys) ++ post)) (fun _ => Φ) := by
 intro ac w K Q hs hk
 have hw := hs.world
 rw [hL] at hw
 obtain ⟨r', w', hrun, hok', hw'⟩ := run_append_vec (ty := o.type) hT hf hf1 (cc := cc) hm hw hq hok hb h63
 refine up_in (by rw [ho]; rfl) ?_
 unfold Oper.wp
 rw [show (execOp ac.eval o).run P w = .ok (.value (vv r' (xs.length + ys.length))) w' by
  simp [execOp, ho, resolve, hc, hca, hct, ev_eval hs.has hx, ev_eval hs.has hy, invoke, builtin, hrun]]
 exact hk ⟨r', hok'⟩ w' hw'

/-! ### An element of an owned slice -/
theorem vec_get {α : Type} {c : α → List Value} {sz : Nat} (hc : ∀ x, (c x).length = sz) {xs : List α} {j : List Value} {k : Nat} {v : α} (hv : xs[k]? = some v) {f : Nat} {u : Value} (hu : (c v)[f]? = some u) : (xs.flatMap c ++ j)[k * sz + f]? = some u := by
 have := flatMap_get hc hv f u hu
 rw [List.getElem?_append_left (List.getElem?_eq_some_iff.1 this).1]; exact this
theorem det_vec_one {o : Oper} {T b off TT sz : Nat} {x : Operand} {α : Type} {c : α → List Value} {xs : List α} {j : List Value} {v : α} {u : Value} (hT : Ty P T 1 false) (hc : ∀ x, (c x).length = sz) (ho : o.op = .load T x) (hx : ev E x = some (.pointer (some ⟨b, off, none⟩))) (i : Nat)
  (hL : L[i]? = some (bx b (xs.flatMap c ++ j) TT)) (k f : Nat) (hoff : off = k * sz + f) (hv : xs[k]? = some v) (hu : (c v)[f]? = some u) : DetR P X o E L Φ u :=
 det_own_one hT ho hx i hL (by rw [hoff]; exact vec_get hc hv hu)
/-! ### Slicing -/
end
end Go.Fen

