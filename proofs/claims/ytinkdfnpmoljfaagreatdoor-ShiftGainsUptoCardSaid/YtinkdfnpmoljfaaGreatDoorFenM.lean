import Derived.Test.YtinkdfnpmoljfaaGreatDoorFenL
set_option linter.unusedVariables false
set_option linter.unusedSimpArgs false
namespace Go.Fen
open Go Go.RowKit
set_option linter.unusedSimpArgs false
set_option linter.unusedVariables false

section
variable {P : Program} {n : Nat} {X : Cx} {K : Act → World → Prop} {Q : Exit → Act → World → Prop} {E E' : Env} {L L' : Own} {Φ Φ' : List Pers}
theorem mc (cs : List Own) (m : List Bool) (h1 : L = cs.flatten) (h2 : (mask m cs).flatten = L') : L'.Sublist L := by
 subst h1 h2; exact flatten_sub (mask_sub m cs)
theorem permC (cs : List Own) (is : List Nat) (m : Nat) (hm : cs.length = m) (h : is.Perm (List.range m)) (h1 : L = cs.flatten) (cs2 : List Own) (h2 : is.map (cs.getD · []) = cs2) (h3 : cs2.flatten = L') : L.Perm L' := by
 subst hm h1 h2 h3
 have e : cs = (List.range cs.length).map (cs.getD · []) := by
  apply List.ext_getElem?
  intro i
  rw [List.getElem?_map]
  by_cases hi : i < cs.length
  ·rw [List.getElem?_range hi]; simp [hi, List.getD]
  ·rw [List.getElem?_eq_none (Nat.le_of_not_lt hi), List.getElem?_eq_none (by simpa using Nat.le_of_not_lt hi)]; rfl
 have := ((h.map (cs.getD · [])).symm).flatten
 rw [← e] at this
 exact this
end

/-! ### Loops over functions -/
/-- One round, from whatever world that fits. -/
def YieldCon (P : Program) (l : Nat) (v : Value) (L : Own) (Φ : List Pers) (post : Bool → Own → List Pers → Prop) : Prop :=
 ∀ (w : World) (h : Hp), (∀ q ∈ Φ, q.p h) → h.sub w → OwnIn L h w →
  YieldAt Fence.wide 0 P l #[v] w fun e w' => ∃ b L' Φ', e = .returned (.bool b) ∧ post b L' Φ' ∧ StW (cx w h (L.map Prod.fst)) L' Φ' w'
/-- A function that hands on xs, one after another, to whatever it is called with. -/
def IterCon (P : Program) (gf : FuncId) (lb : List Value) (Φ0 : List Pers) {β : Type} (enc : β → Value) (xs : List β) : Prop :=
 HasBody P gf ∧ ∀ (l : Nat) (w : World) (h : Hp) (I : List β → Own → List Pers → Prop) (Ix : Own → List Pers → Prop) (L : Own) (Φ : List Pers), I xs L Φ → (∀ q ∈ Φ0, q.p h) → (∀ q ∈ Φ, q.p h) → h.sub w → OwnIn L h w →
  (∀ x rest L Φ, I (x :: rest) L Φ → YieldCon P l (enc x) L Φ fun b L' Φ' => if b then I rest L' Φ' else Ix L' Φ') →
  Calls P gf (#[.func (.yield l) #[] #[]] ++ lb.toArray) w fun e w' => (∃ v, e = .returned v) ∧ ∃ L' Φ', (I [] L' Φ' ∨ Ix L' Φ') ∧ StW (cx w h (L.map Prod.fst)) L' Φ' w'

section
variable {P : Program} {n : Nat} {X : Cx} {K : Act → World → Prop} {Q : Exit → Act → World → Prop} {E E' : Env} {L L' : Own} {Φ Φ' : List Pers}
/-- What the body of such a function must come to. -/
def IEnds (P : Program) (X : Cx) (fn : Func) (R : Own → List Pers → Prop) : Exit → Act → World → Prop :=
 bodyPostM (FW none) 0 P fn fun e w' => (∃ v, e = .returned v) ∧ ∃ L' Φ', R L' Φ' ∧ StW X L' Φ' w'
theorem iends_any {X' : Cx} {a : Act} {w : World} {fn : Func} {R : Own → List Pers → Prop} {v : Value} (hX : X' = X.wd X'.D) (hX0 : X = X.wd []) (hrho : X.rho = none) (hnd : (X'.D.map Prod.fst).Nodup ∧ ∀ d ∈ X'.D, d.2 = .deferred (some [])) (hr : Res P n X fn E L Φ v) (hR : R L' Φ') (hL : L'.Sublist L) (hΦ : Foll Φ Φ')
  (hs : St n X' E L Φ a w) : LeavesInM (FW none) 0 P fn a.tmps (fun e w' => (∃ v, e = .returned v) ∧ ∃ L' Φ', R L' Φ' ∧ StW X L' Φ' w') a.defers .returning w := by
 have hm : X'.marks = X'.D.map (mark ·.1) := by rw [hX]; unfold Cx.marks Cx.wd; simp only [hrho]
 rw [hs.defers, hm]
 refine leaves_marks (X := X) (L := L) (Φ := Φ) X'.D hnd.1 hnd.2 w (hX ▸ hs.world) fun w' hw' => ⟨v, ?_, ⟨v, rfl⟩, L', Φ', hR, ?_⟩
 ·rw [hX0] at hr
  exact hr { a with defers := [] } w' ⟨hs.size, by unfold Cx.marks Cx.wd; simp only [hrho]; rfl, hs.has, hw'⟩
 ·rw [hX0]; exact (hw'.sub hL).foll hΦ
theorem iends_ret {X' : Cx} {fn : Func} {R : Own → List Pers → Prop} {v : Value} (hX : X' = X.wd X'.D) (hX0 : X.rho = none ∧ X.D = []) (hnd : (X'.D.map Prod.fst).Nodup ∧ ∀ d ∈ X'.D, d.2 = .deferred (some [])) (hr : Res P n X fn E L Φ v) (hR : R L' Φ') (hL : L'.Sublist L) (hΦ : Foll Φ Φ') :
  JQ n X' (IEnds P X fn R .ret) E L Φ := fun a w hs => iends_any hX (by obtain ⟨w0, h0, M, r, D⟩ := X; obtain ⟨h1, h2⟩ := hX0; simp only at h1 h2; subst h1 h2; rfl) hX0.1 hnd hr hR hL hΦ hs
theorem iends_normal {X' : Cx} {fn : Func} {R : Own → List Pers → Prop} {v : Value} (hX : X' = X.wd X'.D) (hX0 : X.rho = none ∧ X.D = []) (hnd : (X'.D.map Prod.fst).Nodup ∧ ∀ d ∈ X'.D, d.2 = .deferred (some [])) (hr : Res P n X fn E L Φ v) (hR : R L' Φ') (hL : L'.Sublist L) (hΦ : Foll Φ Φ') :
  JQ n X' (IEnds P X fn R .normal) E L Φ := fun a w hs => iends_any hX (by obtain ⟨w0, h0, M, r, D⟩ := X; obtain ⟨h1, h2⟩ := hX0; simp only at h1 h2; subst h1 h2; rfl) hX0.1 hnd hr hR hL hΦ hs
theorem start_has {args : List Value} {m : Nat} (hle : Nat.ble args.length m = true) {E0 : Env} (hE : sameAll ((List.range args.length).zip args) E0) : Has { tmps := args.toArray ++ Array.replicate (m - args.toArray.size) undef, defers := [] } E0 := by
 have hle' : args.length ≤ m := Nat.le_of_ble_eq_true hle
 have h1 : Has { tmps := args.toArray ++ Array.replicate (m - args.toArray.size) undef, defers := [] } ((List.range args.length).zip args) := by
  intro t v e
  have hm : ∀ (xs : List Value) (k : Nat), ((List.range' k xs.length).zip xs).lookup t = some v → k ≤ t ∧ xs[t - k]? = some v := by
   intro xs
   induction xs with
   | nil => intro k hk; simp at hk
   | cons y ys ih =>
    intro k hk
    rw [List.length_cons, List.range'_succ, List.zip_cons_cons] at hk
    by_cases ht : t = k
    ·subst ht; simp [List.lookup] at hk; simp [hk]
    ·have : (t == k) = false := by simpa using ht
     simp only [List.lookup, this] at hk
     obtain ⟨h1, h2⟩ := ih (k + 1) hk
     refine ⟨by omega, ?_⟩
     rw [show t - k = (t - (k + 1)) + 1 by omega, List.getElem?_cons_succ]
     exact h2
  rw [List.range_eq_range'] at e
  obtain ⟨_, h2⟩ := hm args 0 e
  have h3 : args[t]? = some v := by simpa using h2
  have := (List.getElem?_eq_some_iff.1 h3).1
  rw [Array.getElem?_append_left (by simpa using this)]
  simpa using h3
 exact h1.weaken (sameAll_spec hE)
theorem iter_of_J {gf : FuncId} {fn : Func} {c : Code} {lb : List Value} {Φ0 : List Pers} {β : Type} {enc : β → Value} {xs : List β}
  (hf : P.funcs[gf]? = some fn) (hb : fn.body = some c) (hnm : (fn.name == "runtime.NumGoroutine") = false) (hn : fn.ntmps = n) (hle : Nat.ble (lb.length + 1) n = true) (E0 : Nat → Env) (hE : ∀ l, sameAll ((List.range (lb.length + 1)).zip (.func (.yield l) #[] #[] :: lb)) (E0 l))
  (h : ∀ (X : Cx) (l : Nat) (I : List β → Own → List Pers → Prop) (Ix : Own → List Pers → Prop) (L : Own) (Φ : List Pers), X.M = L.map Prod.fst → X.rho = none → X.D = [] → I xs L Φ →
   (∀ x rest L Φ, I (x :: rest) L Φ → YieldCon P l (enc x) L Φ fun b L' Φ' => if b then I rest L' Φ' else Ix L' Φ') → J P n X c (IEnds P X fn fun L' Φ' => I [] L' Φ' ∨ Ix L' Φ') (E0 l) (L ++ []) (Φ0 ++ Φ)) : IterCon P gf lb Φ0 enc xs := by
 refine ⟨⟨by simp [hf, hb, hnm]⟩, fun l w p I Ix L Φ hI hΦ0 hΦ hs ho hy => ?_⟩
 have hargs : (#[.func (.yield l) #[] #[]] ++ lb.toArray : Array Value) = (Value.func (.yield l) #[] #[] :: lb).toArray := by simp
 rw [hargs]
 simp only [List.append_nil] at h
 refine (callsIn_wide (n := 0)).1 (callsIn_of_wp_marks (F := Fence.wide) hf hb trivial (h (cx w p (L.map Prod.fst)) l I Ix L Φ rfl rfl rfl hI hy _ w ⟨?_, rfl, ?_, p, ⟨?_, hs, Hp.le_refl p, fun b hb => .inl hb, ho, fun e he => .inl (List.mem_map_of_mem he), KeptBut.refl _ w, fun d hd => (by cases hd)⟩⟩))
 ·have hle' : lb.length + 1 ≤ n := Nat.le_of_ble_eq_true hle
  simp [hn]; omega
 ·rw [hn]
  exact start_has (args := Value.func (.yield l) #[] #[] :: lb) hle (hE l)
 ·intro q hq
  rcases List.mem_append.1 hq with hq | hq
  ·exact hΦ0 q hq
  ·exact hΦ q hq

theorem tri_yield {o : Oper} {c : Call} {fv : Operand} {l : Nat} {v : Value} {L0 L2 : Own} {Φ0 : List Pers} {post : Bool → Own → List Pers → Prop} (hy : YieldCon P l v L0 Φ0 post)
  (ho : o.op = .call c) (hc : c.callee = .value fv) (hf : ev E fv = some (.func (.yield l) #[] #[])) (hargs : c.args.toList.mapM (ev E) = some [v]) (hΦ : Foll Φ Φ0) (hL : L.Perm (L0 ++ L2)) :
  Tri P n X o E L Φ {σ : Bool × Own × List Pers // post σ.1 σ.2.1 σ.2.2} (fun σ => .bool σ.1.1) (fun σ => σ.1.2.1 ++ L2) (fun σ => σ.1.2.2 ++ Φ) := by
 intro a w K Q hs hk
 obtain ⟨p, hp⟩ := hs.world
 have hown : OwnIn (L0 ++ L2) p w := ⟨fun e he => hp.own.1 e (hL.symm.subset he), (hL.map Prod.fst).nodup_iff.1 hp.own.2⟩
 obtain ⟨fn, tmps, assign, body, hyr, hround⟩ := hy w p (hΦ p hp.facts) hp.sub (hown.sub (List.sublist_append_left _ _))
 have hr : (execOp a.eval o).run P w = .ok (.round l fn tmps assign body) w := by
  simp [execOp, ho, resolve, hc, ev_eval hs.has hf, Deferred.ofValue, mapM_ev_arr hs.has hargs, invoke, hyr]
 refine ⟨fun _ _ => trivial, ?_⟩
 rw [Oper.semAt_eq _ _ _ (fun c hc => by rw [ho] at hc; cases hc), hr]
 refine ⟨FW_depth, ?_⟩
 have hR : RoundIn (FW X.rho) 0 P l fn tmps assign body w _ := hround
 refine hR.mono fun e w' hx => ?_
 obtain ⟨b, L', Φ', rfl, hpost, hw⟩ := hx
 exact hk ⟨(b, L', Φ'), hpost⟩ w' (StW.call hp hL hw)
end
end Go.Fen

