import Derived.Test.YtinkdfnpmoljfaaGreatDoorFenN
import Derived.Scope
set_option linter.unusedVariables false
set_option linter.unusedSimpArgs false
namespace Go.Fen
open Go Go.RowKit
set_option linter.unusedSimpArgs false
set_option linter.unusedVariables false
section
variable {P : Program} {n : Nat} {X : Cx} {K : Act → World → Prop} {Q : Exit → Act → World → Prop} {E E' : Env} {L L' : Own} {Φ Φ' : List Pers}
theorem base_ex {α : Type} {f : α → List Value} {q : Option Addr} {xs : List α} {w : World} (hw : StW X L Φ w) (j : Nat) (hΦ : Φ[j]? = some (sl f q xs)) (hl : 0 < xs.length) : ∃ a, q = some a :=
 let ⟨_, hp⟩ := hw; sl_some (hp.facts _ (List.mem_of_getElem? hΦ)) hl
theorem JD_base {ops : Array Oper} {i m : Nat} {α : Type} {f : α → List Value} {q : Option Addr} {xs : List α} (j : Nat) (hΦ : Φ[j]? = some (sl f q xs)) (hl : 0 < xs.length) (h : ∀ a, q = some a → JD P n X ops i m K E L Φ) : JD P n X ops i m K E L Φ := fun a h1 h2 h3 => by
 by_cases hC : ∃ w, StW X L Φ w
 ·obtain ⟨w, hw⟩ := hC
  obtain ⟨b, hb⟩ := base_ex hw j hΦ hl
  exact h b hb a h1 h2 h3
 ·exact wpQuiet_void (fun w hw => hC ⟨w, hw⟩) _ _
theorem det_ixq {o : Oper} {T e sz : Nat} {x y : Operand} {q : Option Addr} {a : Addr} {len cap : Nat} {m : Int} (hT : SlTy P T e sz) (ho : o.op = .indexAddr T x y)
  (hx : ev E x = some (.slice q len cap)) (hq : q = some a) (hy : ev E y = some (.int .i64 m)) (k : Nat) (hk : m = k) (hl : k < len) : DetR P X o E L Φ (.pointer (some (a.add (k * sz)))) := by
 subst hq; exact det_ix hT ho hx hy k hk hl
theorem at_slq {α : Type} {c : α → List Value} {sz : Nat} {q : Option Addr} {a : Addr} {xs : List α} (hq : q = some a) (hc : ∀ x, (c x).length = sz) (j : Nat) (h : Φ[j]? = some (sl c q xs)) {k : Nat} {v : α} (hv : xs[k]? = some v) : Fol1 Φ (at_ (a.add (k * sz)) (c v)) := by
 subst hq; exact at_sl hc j h hv
/-- A block of cells that is owned, as a slice that is known from now on. -/
theorem StW.sealed {α : Type} {c : α → List Value} {T : Nat} {r : VR} {xs : List α} {pre post : Own} {w : World} {sz : Nat} (hok : VOk sz xs.length r) (h : StW X (pre ++ (vo c T r xs ++ post)) Φ w) : StW X (pre ++ post) (sl c (va r.q) xs :: Φ) w := by
 unfold vo at h
 cases hq : r.q with
 | none =>
  rw [hq] at h
  unfold VOk at hok
  rw [hq] at hok
  simp only [List.nil_append] at h
  refine h.fact _ fun p _ => ?_
  have : xs = [] := List.length_eq_zero_iff.1 hok.1
  rw [this]; rfl
 | some b =>
  rw [hq] at h
  simp only [List.cons_append, List.nil_append] at h
  have hp : (pre ++ bx b (xs.flatMap c ++ r.j) T :: post).Perm (bx b (xs.flatMap c ++ r.j) T :: (pre ++ post)) := List.perm_middle
  have h1 := (h.perm hp).freeze (i := 0) rfl
  refine StW.foll (Φ := blk b (.cells (xs.flatMap c ++ r.j).toArray T (0, 0)) :: Φ) h1 fun p hp q hq => ?_
  rcases List.mem_cons.1 hq with rfl | hq
  ·have hb : p b = some (.cells (xs.flatMap c ++ r.j).toArray T (0, 0)) := hp (blk b _) (by simp)
   refine .inr ⟨rfl, _, _, _, hb, fun j v hj => ?_⟩
   simp only [Nat.zero_add, List.getElem?_toArray]
   rw [List.getElem?_append_left (List.getElem?_eq_some_iff.1 hj).1]; exact hj
  ·exact hp q (by simp [hq])
theorem JI_seal {ops : Array Oper} {i m : Nat} {α : Type} {c : α → List Value} {T : Nat} {r : VR} {xs : List α} (pre post : Own) {sz : Nat} (hok : VOk sz xs.length r) (hL : L = pre ++ (vo c T r xs ++ post)) (h : JI P n X ops i m K Q E (pre ++ post) (sl c (va r.q) xs :: Φ)) : JI P n X ops i m K Q E L Φ :=
 fun a w hs => h a w ⟨hs.size, hs.defers, hs.has, by have := hs.world; rw [hL] at this; exact this.sealed hok⟩
theorem Foll.dropT (k : Nat) (h : Φ.drop k = Φ') : Foll Φ Φ' := fun p hp q hq => hp q (by rw [← h] at hq; exact (List.drop_sublist k Φ).subset hq)
theorem harm {ops : Array Oper} {fuel : Nat} {listed : Array Bool} {held : Held} {Φs : List Pers} (i : Nat) {o : Oper} {α : Type} {val : α → Value} {L' : α → Own} {Φ' : α → List Pers} (Lh : Own) (listed' : Array Bool) (ho : ops[i]? = some o) (hg : runs ops o E = some true) (hd : okDst n o.dst = true)
  (hl : listed.setIfInBounds i true = listed') (hl2 : listed.setIfInBounds i true = listed') (hh : held.at listed' = Lh) (ht : Tri P n X o E L Φ α val L' Φ') (hL' : ∀ x, Lh.Sublist (L' x)) (hΦ' : ∀ x, Foll (Φ' x) Φs) (h : ∀ x, JH P n X ops fuel listed' K held Φs (Env.put E o.dst (val x)) (L' x) (Φ' x)) :
  ∀ a w, St n X E L Φ a w → noDefer ops = true → Region.noSelect ops = true → listed.size = ops.size → wpOpIn (FW X.rho) 0 P ops (oN K) i (fun a' w' => ((listed.setIfInBounds i true).size = ops.size ∧ StW X (held.at (listed.setIfInBounds i true)) Φs w') ∧ AH X.rho P ops (oN K) (fun l w => l.size = ops.size ∧ StW X (held.at l) Φs w) fuel (listed.setIfInBounds i true) a' w') a w := by
 subst hl hh
 exact JH_arm i ho hg hd ht hL' hΦ' h
theorem StW.fix {w : World} {i b T : Nat} {cs : List Value} (hi : L[i]? = some (bx b cs T)) (h : StW X L Φ w) : StW X (L.eraseIdx i) (at_ ⟨b, 0, none⟩ cs :: Φ) w :=
 (h.freeze hi).foll fun p hp q hq => by
  rcases List.mem_cons.1 hq with rfl | hq
  ·have hb : p b = some (.cells cs.toArray T (0, 0)) := hp (blk b (.cells cs.toArray T (0, 0))) (by simp)
   exact .inr ⟨rfl, _, _, _, hb, fun j v hj => by simpa using hj⟩
  ·exact hp q (by simp [hq])
/-- A block of one's own that does not turn any more. -/
theorem JI_fix {ops : Array Oper} {i m : Nat} (k : Nat) {b T : Nat} {cs : List Value} (hi : L[k]? = some (bx b cs T)) (h : JI P n X ops i m K Q E (L.eraseIdx k) (at_ ⟨b, 0, none⟩ cs :: Φ)) : JI P n X ops i m K Q E L Φ :=
 fun a w hs => h a w ⟨hs.size, hs.defers, hs.has, hs.world.fix hi⟩
theorem tri_callN {o : Oper} {c : Call} {fv : Operand} {k : FuncId} {first cap : Array Value} {vs args : List Value} {L0 L2 : Own} {Φ0 : List Pers} {α : Type} {val : α → Value} {L1 : α → Own} {Φ1 : α → List Pers}
  (hcon : Con P k args L0 Φ0 α val L1 Φ1) (ho : o.op = .call c) (hc : c.callee = .value fv) (hf : ev E fv = some (.func (.func k) first cap)) (hargs : c.args.toList.mapM (ev E) = some vs) (ha : (first ++ vs.toArray ++ cap).toList = args)
  (hΦ : Foll Φ Φ0) (hL : L.Perm (L0 ++ L2)) (L' : α → Own) (hL' : ∀ x, L1 x ++ L2 = L' x) : Tri P n X o E L Φ α val L' (fun x => Φ1 x ++ Φ) := by
 obtain rfl : (fun x => L1 x ++ L2) = L' := funext hL'
 exact tri_call hcon ho hc hf hargs ha hΦ hL
theorem stepR_scope {b : Frame} {a : Act} {k : List Item} {cs : List Frame} {w : World} {c : Code} : step P (lone (b.atR a (.code (.scope c) :: k)) cs w) = .next (lone (b.atR a (.code c :: .inScope c :: k)) cs w) :=
 step_lone_go (by simp [stepG, stepG.exec, Frame.atR])
theorem stepR_inScope {b : Frame} {a : Act} {k : List Item} {cs : List Frame} {w : World} {c : Code} : step P (lone (b.atR a (.inScope c :: k)) cs w) = .next (lone (b.atR a k) cs w) :=
 step_lone_go (by simp [stepG, stepG.exec, Frame.atR])
theorem wpIn_scope {F : Fence} {m : Nat} {c : Code} {a : Act} {w : World} (h : c.wpIn F m P (Exit.noGoto Q) a w) : (Code.scope c).wpIn F m P Q a w := by
 intro b k cs hro hb hr
 have h0 : (lone (b.atR a (.code (.scope c) :: k)) cs w).fenced P F := fenced_calm hb hr rfl
 obtain ⟨e, a₁, w₁, hq, harr⟩ := h b (.inScope c :: k) cs hro hb hr
 cases e with
 | normal => exact ⟨.normal, a₁, w₁, hq, .head h0 stepR_scope (StepsIn.trans harr (.one (fenced_calm hb hr rfl) stepR_inScope))⟩
 | exit id =>
  have hx : exitTo id (.inScope c :: k) = exitTo id k := by simp [exitTo]
  exact ⟨.exit id, a₁, w₁, hq, fun k' hk => .head h0 stepR_scope (harr.1 k' (by rw [hx]; exact hk)),
   fun hr' hk => let ⟨k₁, h1, h2⟩ := harr.2 hr' (by rw [hx]; exact hk); ⟨k₁, h1, .head h0 stepR_scope h2⟩⟩
 | goto l => exact hq.elim
 | ret => exact ⟨_, a₁, w₁, hq, .of_steps (.one h0 stepR_scope) harr⟩
 | panic ch => exact ⟨_, a₁, w₁, hq, .of_steps (.one h0 stepR_scope) harr⟩
 | outgrown => exact ⟨_, a₁, w₁, hq, .of_steps (.one h0 stepR_scope) harr⟩
theorem J_scope {c : Code} (h : J P n X c (Exit.noGoto Q) E L Φ) : J P n X (.scope c) Q E L Φ := fun a w hs => wpIn_scope (h a w hs)
theorem J_label {l : Nat} (h : JQ n X (Q .normal) E L Φ) : J P n X (.label l) Q E L Φ := fun a w hs => wpIn_label (h a w hs)
theorem JI_foll {ops : Array Oper} {i m : Nat} (hΦ : Foll Φ Φ') (h : JI P n X ops i m K Q E L Φ') : JI P n X ops i m K Q E L Φ := fun a w hs => h a w ⟨hs.size, hs.defers, hs.has, hs.world.foll hΦ⟩
theorem Foll.yield (fs : List Pers) {A B : List Pers} : Foll (A ++ (fs ++ B)) (fs ++ A) := fun p hp q hq => hp q (by
 rcases List.mem_append.1 hq with h | h
 ·exact List.mem_append_right _ (List.mem_append_left _ h)
 ·exact List.mem_append_left _ h)
theorem sub_flat {α : Type} {l : List α} : ∀ {cs : List (List α)}, l ∈ cs → l.Sublist cs.flatten
 | [], h => by cases h
 | c :: cs, h => by
  rw [List.flatten_cons]
  rcases List.mem_cons.1 h with rfl | h
  ·exact List.sublist_append_left _ _
  ·exact (sub_flat h).trans (List.sublist_append_right _ _)
theorem mcT (cs : List Fen.Own) (i : Nat) (h1 : L = cs.flatten) (h2 : cs[i]? = some L') : L'.Sublist L := by
 subst h1; exact sub_flat (List.mem_of_getElem? h2)
/-- Rounds. -/
theorem rp_normal {Y : Cx} {β σ : Type} {I : List β → σ → Prop} {Jx : Code → σ → Prop} {Lk : σ → Own} {Φk : σ → List Pers} {rest : List β} (s : σ) (hI : I rest s) (hL : (Lk s).Sublist L) (hΦ : Foll Φ (Φk s)) : JQ n Y (RP Y I Jx Lk Φk rest .normal) E L Φ :=
 fun a w hs => ⟨s, hI, (hs.world.sub hL).foll hΦ⟩
end
end Go.Fen

