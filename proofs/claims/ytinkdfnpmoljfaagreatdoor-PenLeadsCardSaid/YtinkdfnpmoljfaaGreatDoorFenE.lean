import Derived.Test.YtinkdfnpmoljfaaGreatDoorFenD
import Derived.Deep.LoopGhost
set_option linter.unusedVariables false
set_option linter.unusedSimpArgs false
namespace Go.Fen
open Go Go.RowKit

/-! ### Contracts -/
structure HasBody (P : Program) (f : FuncId) : Prop where
 ok : ((P.funcs[f]?).map fun fn => !fn.body.isNone && !(fn.name == "runtime.NumGoroutine")) = some true
abbrev cx (w : World) (h : Hp) (M : List Nat) : Cx := ⟨w, h, M, none, []⟩
/-- What a call of f leaves: of a world in which the facts Φ0 hold and the blocks L0 are handed over. -/
def Con (P : Program) (f : FuncId) (args : List Value) (L0 : Own) (Φ0 : List Pers) (α : Type) (val : α → Value) (L1 : α → Own) (Φ1 : α → List Pers) : Prop :=
 HasBody P f ∧ ∀ (w : World) (h : Hp), (∀ q ∈ Φ0, q.p h) → h.sub w → OwnIn L0 h w →
  Calls P f args.toArray w fun e w' => ∃ x, e = .returned (val x) ∧ StW (cx w h (L0.map Prod.fst)) (L1 x) (Φ1 x) w'
/-- One value, nothing turned. -/
abbrev ConV (P : Program) (f : FuncId) (args : List Value) (Φ0 : List Pers) (v : Value) : Prop := Con P f args [] Φ0 Unit (fun _ => v) (fun _ => []) (fun _ => [])

section
variable {P : Program} {n : Nat} {X : Cx} {K : Act → World → Prop} {Q : Exit → Act → World → Prop} {E E' : Env} {L L' : Own} {Φ Φ' : List Pers}

/-- How the results are read. -/
def Res (P : Program) (n : Nat) (X : Cx) (fn : Func) (E : Env) (L : Own) (Φ : List Pers) (v : Value) : Prop := ∀ a w, St n X E L Φ a w → (results fn a.tmps).run P w = .ok v w
def resSem (tmps : Array Value) : ResultVar → Sem Value
 | .tmp t => pure (tmps.getD t undef)
 | .cell t T => do loadVar T (← asAddr (tmps.getD t undef))
theorem results_eq (fn : Func) (tmps : Array Value) : results fn tmps = (do
  let vs ← fn.results.mapM (resSem tmps)
  pure (if h : vs.size = 1 then vs[0] else .tuple vs)) := by
 unfold results
 rfl
def ResV (P : Program) (n : Nat) (X : Cx) (r : ResultVar) (E : Env) (L : Own) (Φ : List Pers) (v : Value) : Prop := ∀ a w, St n X E L Φ a w → (resSem a.tmps r).run P w = .ok v w
theorem resV_tmp {t : Nat} {v : Value} (h : E.lookup t = some v) : ResV P n X (.tmp t) E L Φ v := fun a w hs => by
 have := hs.has _ _ h
 simp [resSem, this]
theorem Has.getD {a : Act} (ha : Has a E) {t : Nat} {v : Value} (h : E.lookup t = some v) : a.tmps.getD t undef = v := by
 have := ha _ _ h
 simp [this]
theorem resV_cell {t T sz b : Nat} {off TT : Nat} {cs us : List Value} (hT : Ty P T sz true) (h : E.lookup t = some (.pointer (some ⟨b, off, none⟩))) (i : Nat) (hL : L[i]? = some (bx b cs TT)) (hu : (cs.drop off).take sz = us) (hn : us.length = sz) :
  ResV P n X (.cell t T) E L Φ (.agg us.toArray) := fun a w hs => by
 obtain ⟨p, hp⟩ := hs.world
 have hr : (Instr.loadAt T (.pointer (some ⟨b, off, none⟩))).run P w = .ok (.agg us.toArray) w := run_load_agg hT hn fun j v hj => by
  rw [addr_add, own_cell hp hL, ← hj, ← hu, List.getElem?_take, if_pos, List.getElem?_drop]
  have := (List.getElem?_eq_some_iff.1 hj).1
  omega
 have hr' : (loadVar T ⟨b, off, none⟩).run P w = .ok (.agg us.toArray) w := by simpa [Instr.loadAt, Instr.sureAddr] using hr
 simp only [resSem, hs.has.getD h, asAddr, Sem.run_bind, Sem.run_pure, Result.andThen_ok, hr']
theorem res0 {fn : Func} (hf : fn.results = #[]) : Res P n X fn E L Φ (.tuple #[]) := fun a w _ => by simp [results_eq, hf]
theorem res1 {fn : Func} {r : ResultVar} {v : Value} (hf : fn.results = #[r]) (h : ResV P n X r E L Φ v) : Res P n X fn E L Φ v := fun a w hs => by
 simp [results_eq, hf, h a w hs]
theorem res2 {fn : Func} {r s : ResultVar} {v u : Value} (hf : fn.results = #[r, s]) (h : ResV P n X r E L Φ v) (k : ResV P n X s E L Φ u) : Res P n X fn E L Φ (.tuple #[v, u]) := fun a w hs => by
 simp [results_eq, hf, h a w hs, k a w hs]
/-- What the body must come to. -/
def Ends (P : Program) (X : Cx) (fn : Func) (α : Type) (val : α → Value) (L1 : α → Own) (Φ1 : α → List Pers) : Exit → Act → World → Prop :=
 bodyPostM (FW none) 0 P fn fun e w' => ∃ x, e = .returned (val x) ∧ StW X (L1 x) (Φ1 x) w'
theorem con_of_J {f : FuncId} {fn : Func} {c : Code} {args : List Value} {L0 : Own} {Φ0 : List Pers} {α : Type} {val : α → Value} {L1 : α → Own} {Φ1 : α → List Pers}
  (hf : P.funcs[f]? = some fn) (hb : fn.body = some c) (hnm : (fn.name == "runtime.NumGoroutine") = false) (hn : fn.ntmps = n) (hle : Nat.ble args.length n = true) (E0 : Env) (hE : sameAll ((List.range args.length).zip args) E0)
  (h : ∀ X : Cx, X.M = L0.map Prod.fst → X.rho = none → X.D = [] → J P n X c (Ends P X fn α val L1 Φ1) E0 L0 Φ0) : Con P f args L0 Φ0 α val L1 Φ1 := by
 refine ⟨⟨by simp [hf, hb, hnm]⟩, fun w p hp hs ho => ?_⟩
 have hle' : args.length ≤ n := Nat.le_of_ble_eq_true hle
 refine (callsIn_wide (n := 0)).1 (callsIn_of_wp_marks (F := Fence.wide) hf hb trivial (h (cx w p (L0.map Prod.fst)) rfl rfl rfl _ w ⟨?_, rfl, ?_, p, ⟨hp, hs, Hp.le_refl p, fun b hb => .inl hb, ho, fun e he => .inl (List.mem_map_of_mem he), KeptBut.refl _ w, fun d hd => by cases hd⟩⟩))
 ·simp [hn]; omega
 ·have h1 : Has { tmps := args.toArray ++ Array.replicate (fn.ntmps - args.toArray.size) undef, defers := [] } ((List.range args.length).zip args) := by
   intro t v e
   have hm : ∀ (xs : List Value) (k : Nat), ((List.range' k xs.length).zip xs).lookup t = some v → k ≤ t ∧ xs[t - k]? = some v := by
    intro xs
    induction xs with
    | nil => intro k hk; simp at hk
    | cons y ys ih =>
     intro k hk
     rw [List.length_cons, List.range'_succ, List.zip_cons_cons] at hk
     by_cases ht : t = k
     ·subst ht; simp [List.lookup] at hk; simp [hk]
     ·have : (t == k) = false := by simpa using ht
      simp only [List.lookup, this] at hk
      obtain ⟨h1, h2⟩ := ih (k + 1) hk
      refine ⟨by omega, ?_⟩
      rw [show t - k = (t - (k + 1)) + 1 by omega, List.getElem?_cons_succ]
      exact h2
   rw [List.range_eq_range'] at e
   obtain ⟨_, h2⟩ := hm args 0 e
   have h3 : args[t]? = some v := by simpa using h2
   have := (List.getElem?_eq_some_iff.1 h3).1
   rw [Array.getElem?_append_left (by simpa using this)]
   simpa using h3
  exact h1.weaken (sameAll_spec hE)

/-- The same call, other blocks of its own loops. -/
def Cx.wd (X : Cx) (ds : List (Nat × Obj)) : Cx := ⟨X.w0, X.h0, X.M, X.rho, ds⟩
theorem StW.take {w : World} {d : Nat × Obj} {ds : List (Nat × Obj)} (hd : d.1 ∉ ds.map Prod.fst) (o : Obj) (h : StW (X.wd (d :: ds)) L Φ w) : StW (X.wd ds) L Φ (w.putObj d.1 o) := by
 obtain ⟨p, hp⟩ := h
 obtain ⟨h1, h2, h3, h4⟩ := hp.res d (List.mem_cons_self ..)
 refine ⟨p, ⟨hp.facts, fun k o e => ?_, hp.le, hp.dom, ⟨fun e he => ⟨?_, (hp.own.1 e he).2⟩, hp.own.2⟩, hp.may, ⟨hp.kept.os, hp.kept.tape, hp.kept.output, by rw [World.putObj_size]; exact hp.kept.size, fun k hk hm => ?_⟩, fun d' hd' => ?_⟩⟩
 ·have : k ≠ d.1 := fun e' => by subst e'; rw [h2] at e; cases e
  rw [World.putObj_heap_other this]; exact hp.sub k o e
 ·rw [World.putObj_heap_other (h3 e he)]; exact (hp.own.1 e he).1
 ·have : k ≠ d.1 := fun e' => by
   subst e'
   rcases h4 with h4 | h4
   ·have : X.w0.heap.size ≤ d.1 := h4
    have : d.1 < X.w0.heap.size := hk
    omega
   ·exact hm h4
  rw [World.putObj_heap_other this]; exact hp.kept.block k hk hm
 ·have : d'.1 ≠ d.1 := fun e' => hd (e' ▸ List.mem_map_of_mem hd')
  obtain ⟨g1, g2⟩ := hp.res d' (List.mem_cons_of_mem _ hd')
  exact ⟨by rw [World.putObj_heap_other this]; exact g1, g2⟩
theorem leaves_marks {fn : Func} {tmps : Array Value} {R : Ending → World → Prop} : ∀ (ds : List (Nat × Obj)), (ds.map Prod.fst).Nodup → (∀ d ∈ ds, d.2 = .deferred (some [])) → ∀ w, StW (X.wd ds) L Φ w →
  (∀ w', StW (X.wd []) L Φ w' → ∃ v, (results fn tmps).run P w' = .ok v w' ∧ R (.returned v) w') → LeavesInM (FW none) 0 P fn tmps R (ds.map (mark ·.1)) .returning w
 | [], _, _, w, hw, k => k w hw
 | d :: ds, hn, ho, w, hw, k => by
  rw [List.map_cons] at hn
  obtain ⟨h1, h2⟩ := List.nodup_cons.1 hn
  obtain ⟨p, hp⟩ := hw
  have hd := (hp.res d (List.mem_cons_self ..)).1
  rw [ho d (List.mem_cons_self ..)] at hd
  exact ⟨by simp, .inl ⟨d.1, _, rfl, run_takeDeferred hd, leaves_marks ds h2 (fun e he => ho e (List.mem_cons_of_mem _ he)) _ (StW.take h1 _ ⟨p, hp⟩) k⟩⟩
theorem ends_any {X' : Cx} {a : Act} {w : World} {fn : Func} {α : Type} {val : α → Value} {L1 : α → Own} {Φ1 : α → List Pers} {v : Value} (hX : X' = X.wd X'.D) (hX0 : X = X.wd []) (hrho : X.rho = none) (hnd : (X'.D.map Prod.fst).Nodup ∧ ∀ d ∈ X'.D, d.2 = .deferred (some [])) (hr : Res P n X fn E L Φ v) (x : α) (hv : val x = v) (hL : List.Sublist (L1 x) L) (hΦ : Foll Φ (Φ1 x))
  (hs : St n X' E L Φ a w) : LeavesInM (FW none) 0 P fn a.tmps (fun e w' => ∃ x, e = .returned (val x) ∧ StW X (L1 x) (Φ1 x) w') a.defers .returning w := by
 have hm : X'.marks = X'.D.map (mark ·.1) := by rw [hX]; unfold Cx.marks Cx.wd; simp only [hrho]
 rw [hs.defers, hm]
 refine leaves_marks (X := X) (L := L) (Φ := Φ) X'.D hnd.1 hnd.2 w (hX ▸ hs.world) fun w' hw' => ⟨v, ?_, x, by rw [hv], ?_⟩
 ·rw [hX0] at hr
  exact hr { a with defers := [] } w' ⟨hs.size, by unfold Cx.marks Cx.wd; simp only [hrho]; rfl, hs.has, hw'⟩
 ·rw [hX0]; exact (hw'.sub hL).foll hΦ
theorem ends_ret {X' : Cx} {fn : Func} {α : Type} {val : α → Value} {L1 : α → Own} {Φ1 : α → List Pers} {v : Value} (hX : X' = X.wd X'.D) (hX0 : X.rho = none ∧ X.D = []) (hnd : (X'.D.map Prod.fst).Nodup ∧ ∀ d ∈ X'.D, d.2 = .deferred (some [])) (hr : Res P n X fn E L Φ v) (x : α) (hv : val x = v) (hL : List.Sublist (L1 x) L) (hΦ : Foll Φ (Φ1 x)) :
  JQ n X' (Ends P X fn α val L1 Φ1 .ret) E L Φ := fun a w hs => ends_any hX (by obtain ⟨w0, h0, M, r, D⟩ := X; obtain ⟨h1, h2⟩ := hX0; simp only at h1 h2; subst h1 h2; rfl) hX0.1 hnd hr x hv hL hΦ hs
theorem ends_normal {X' : Cx} {fn : Func} {α : Type} {val : α → Value} {L1 : α → Own} {Φ1 : α → List Pers} {v : Value} (hX : X' = X.wd X'.D) (hX0 : X.rho = none ∧ X.D = []) (hnd : (X'.D.map Prod.fst).Nodup ∧ ∀ d ∈ X'.D, d.2 = .deferred (some [])) (hr : Res P n X fn E L Φ v) (x : α) (hv : val x = v) (hL : List.Sublist (L1 x) L) (hΦ : Foll Φ (Φ1 x)) :
  JQ n X' (Ends P X fn α val L1 Φ1 .normal) E L Φ := fun a w hs => ends_any hX (by obtain ⟨w0, h0, M, r, D⟩ := X; obtain ⟨h1, h2⟩ := hX0; simp only at h1 h2; subst h1 h2; rfl) hX0.1 hnd hr x hv hL hΦ hs

/-! ### Calls -/
theorem run_callFunc_body {f : FuncId} (h : HasBody P f) (args : Array Value) (w : World) : (callFunc f args).run P w = .ok (.enter f args) w := by
 have := h.ok
 obtain ⟨fn, hf, hb⟩ := Option.map_eq_some_iff.1 this
 simp only [Bool.and_eq_true, Bool.not_eq_true'] at hb
 obtain ⟨h1, h2⟩ := hb
 simp only [callFunc, Sem.run_bind, run_program, Result.andThen_ok, hf, h2, h1, Bool.false_eq_true, if_false]
 rfl
theorem run_call {o : Oper} {c : Call} {fv : Operand} {k : FuncId} {first cap : Array Value} {vs : List Value} {a : Act} (ha : Has a E) (ho : o.op = .call c) (hc : c.callee = .value fv) (hf : ev E fv = some (.func (.func k) first cap))
  (hargs : c.args.toList.mapM (ev E) = some vs) (hb : HasBody P k) (w : World) : (execOp a.eval o).run P w = .ok (.enter k (first ++ vs.toArray ++ cap)) w := by
 simp [execOp, ho, resolve, hc, ev_eval ha hf, Deferred.ofValue, mapM_ev_arr ha hargs, invoke, run_callFunc_body hb]

theorem KeptBut.of_call {M : List Nat} {M0 : List Nat} {w0 w w' : World} (h : KeptBut M w0 w) (k : KeptBut M0 w w') (hM : ∀ b ∈ M0, b ∈ M ∨ w0.heap.size ≤ b) : KeptBut M w0 w' :=
 ⟨k.os.trans h.os, k.tape.trans h.tape, k.output.trans h.output, Nat.le_trans h.size k.size, fun i hi hm => by
  rw [k.block i (Nat.lt_of_lt_of_le hi h.size) (fun hm0 => by rcases hM i hm0 with h1 | h1; exact hm h1; omega)]
  exact h.block i hi hm⟩

/-- The caller's state behind a call that was handed L0 of what it owns. -/
theorem StW.call {L0 L1 L2 : Own} {Φ1 : List Pers} {w w' : World} {p : Hp} (hp : StH X L Φ p w) (hL : L.Perm (L0 ++ L2)) (hc : StW (cx w p (L0.map Prod.fst)) L1 Φ1 w') : StW X (L1 ++ L2) (Φ1 ++ Φ) w' := by
 obtain ⟨p', hp'⟩ := hc
 have hle : p.le p' := hp'.le
 have hmay : ∀ e ∈ L0 ++ L2, e.1 ∈ X.M ∨ X.w0.heap.size ≤ e.1 := fun e he => hp.may e (hL.symm.subset he)
 have hown : OwnIn (L0 ++ L2) p w := ⟨fun e he => hp.own.1 e (hL.symm.subset he), (hL.map Prod.fst).nodup_iff.1 hp.own.2⟩
 have hnd := hown.2
 rw [List.map_append, List.nodup_append] at hnd
 have hdis : ∀ e ∈ L2, e.1 ∉ L0.map Prod.fst := fun e he hm => hnd.2.2 e.1 hm e.1 (List.mem_map_of_mem he) rfl
 have hlt2 : ∀ e ∈ L2, e.1 < w.heap.size := fun e he => hown.lt (List.mem_append_right _ he)
 refine ⟨p', ⟨?_, hp'.sub, Hp.le_trans hp.le hle, ?_, ?_, ?_, hp.kept.of_call hp'.kept fun b hb => ?_, fun d hd => ?_⟩⟩
 ·intro q hq
  rcases List.mem_append.1 hq with hq | hq
  ·exact hp'.facts q hq
  ·exact q.mono hle (hp.facts q hq)
 ·intro b hb
  rcases hp'.dom b hb with h1 | h1 | h1
  ·exact hp.dom b h1
  ·obtain ⟨e, he, rfl⟩ := List.mem_map.1 h1
   exact .inr (hmay e (List.mem_append_left _ he))
  ·exact .inr (.inr (Nat.le_trans hp.kept.size h1))
 ·constructor
  ·intro e he
   rcases List.mem_append.1 he with he | he
   ·exact hp'.own.1 e he
   ·have h1 := hown.1 e (List.mem_append_right _ he)
    refine ⟨by rw [hp'.kept.block _ (hlt2 e he) (hdis e he)]; exact h1.1, ?_⟩
    cases h2 : p' e.1 with
    | none => rfl
    | some o =>
     rcases hp'.dom e.1 (by rw [h2]; simp) with h3 | h3 | h3
     ·exact absurd h1.2 h3
     ·exact absurd h3 (hdis e he)
     ·have := hlt2 e he; simp only at h3; omega
  ·rw [List.map_append, List.nodup_append]
   refine ⟨hp'.own.2, hnd.2.1, ?_⟩
   intro b hb c hc
   obtain ⟨e, he, rfl⟩ := List.mem_map.1 hb
   obtain ⟨e', he', rfl⟩ := List.mem_map.1 hc
   intro heq
   rcases hp'.may e he with h3 | h3
   ·exact hdis e' he' (heq ▸ h3)
   ·have := hlt2 e' he'; simp only at h3; omega
 ·intro e he
  rcases List.mem_append.1 he with he | he
  ·rcases hp'.may e he with h3 | h3
   ·obtain ⟨e', he', h4⟩ := List.mem_map.1 h3
    rw [← h4]; exact hmay e' (List.mem_append_left _ he')
   ·exact .inr (Nat.le_trans hp.kept.size h3)
  ·exact hmay e (List.mem_append_right _ he)
 ·obtain ⟨e, he, rfl⟩ := List.mem_map.1 hb
  exact hmay e (List.mem_append_left _ he)
 ·obtain ⟨h1, h2, h3, h4⟩ := hp.res d hd
  have hlt := (Array.getElem?_eq_some_iff.1 h1).1
  have hd0 : d.1 ∉ L0.map Prod.fst := fun hm => by
   obtain ⟨e, he, hed⟩ := List.mem_map.1 hm
   exact h3 e (hL.symm.subset (List.mem_append_left _ he)) hed
  refine ⟨(hp'.kept.block d.1 hlt hd0).trans h1, ?_, fun e he => ?_, h4⟩
  ·cases h5 : p' d.1 with
   | none => rfl
   | some o =>
    rcases hp'.dom d.1 (by rw [h5]; simp) with h6 | h6 | h6
    ·exact absurd h2 h6
    ·exact absurd h6 hd0
    ·simp only at h6; omega
  ·rcases List.mem_append.1 he with he | he
   ·rcases hp'.may e he with h6 | h6
    ·exact fun hE => hd0 (hE ▸ h6)
    ·simp only at h6; omega
   ·exact h3 e (hL.symm.subset (List.mem_append_right _ he))

theorem tri_call {o : Oper} {c : Call} {fv : Operand} {k : FuncId} {first cap : Array Value} {vs args : List Value} {L0 L2 : Own} {Φ0 : List Pers} {α : Type} {val : α → Value} {L1 : α → Own} {Φ1 : α → List Pers}
  (hcon : Con P k args L0 Φ0 α val L1 Φ1) (ho : o.op = .call c) (hc : c.callee = .value fv) (hf : ev E fv = some (.func (.func k) first cap)) (hargs : c.args.toList.mapM (ev E) = some vs) (ha : (first ++ vs.toArray ++ cap).toList = args)
  (hΦ : Foll Φ Φ0) (hL : L.Perm (L0 ++ L2)) : Tri P n X o E L Φ α val (fun x => L1 x ++ L2) (fun x => Φ1 x ++ Φ) := by
 intro a w K Q hs hk
 obtain ⟨p, hp⟩ := hs.world
 have hr := run_call hs.has ho hc hf hargs hcon.1 w
 refine up_in (by rw [ho]; rfl) ?_
 unfold Oper.wp
 rw [hr, Oper.upon_enter]
 have hown : OwnIn (L0 ++ L2) p w := ⟨fun e he => hp.own.1 e (hL.symm.subset he), (hL.map Prod.fst).nodup_iff.1 hp.own.2⟩
 have := hcon.2 w p (hΦ p hp.facts) hp.sub (hown.sub (List.sublist_append_left _ _))
 rw [← ha, Array.toArray_toList] at this
 refine this.mono fun e w' ⟨x, he, hw⟩ => ?_
 subst he
 exact hk x w' (StW.call hp hL hw)

theorem det_call {o : Oper} {c : Call} {fv : Operand} {k : FuncId} {first cap : Array Value} {vs args : List Value} {Φ0 : List Pers} {v : Value}
  (hcon : ConV P k args Φ0 v) (ho : o.op = .call c) (hc : c.callee = .value fv) (hf : ev E fv = some (.func (.func k) first cap)) (hargs : c.args.toList.mapM (ev E) = some vs) (ha : (first ++ vs.toArray ++ cap).toList = args)
  (hΦ : Foll Φ Φ0) : Det P X o E L Φ v := by
 intro a hh w ⟨p, hp⟩
 have hr := run_call hh ho hc hf hargs hcon.1 w
 unfold Oper.quietAt
 rw [hr]
 refine ⟨rfl, ?_⟩
 have := hcon.2 w p (hΦ p hp.facts) hp.sub (show OwnIn [] p w from ⟨fun e he => (by cases he), List.nodup_nil⟩)
 rw [← ha, Array.toArray_toList] at this
 refine this.mono fun e w' ⟨x, he, hw⟩ => ⟨he, ?_⟩
 have h := StW.call (L0 := []) (L2 := L) hp (by simp) hw
 exact h.foll fun p hp q hq => hp q (List.mem_append_right _ hq)

/-! ### Loops -/
theorem J_loop {c : Code} {β : Type} (I : β → Prop) (Ei : β → Env) (Li : β → Own) (Φi : β → List Pers) (μ : β → Nat) (x0 : β) (hI : I x0) (hE : sameAll E (Ei x0)) (hL : List.Sublist (Li x0) L) (hΦ : Foll Φ (Φi x0))
  (h : ∀ x, I x → J P n X c (Exit.then (fun a w => ∃ y, I y ∧ μ y < μ x ∧ St n X (Ei y) (Li y) (Φi y) a w) Q) (Ei x) (Li x) (Φi x)) : J P n X (.loop c) Q E L Φ := by
 intro a w hs
 refine wpIn_loop_ghost (fun k a w => ∃ x, I x ∧ μ x = k ∧ St n X (Ei x) (Li x) (Φi x) a w) (μ x0) ⟨x0, hI, rfl, hs.size, hs.defers, hs.has.weaken (sameAll_spec hE), (hs.world.sub hL).foll hΦ⟩ ?_
 rintro k a w ⟨x, hx, rfl, hst⟩
 refine Code.wpIn_mono (fun e a w q => ?_) (h x hx a w hst)
 cases e with
 | normal => obtain ⟨y, hIy, hy, hs'⟩ := q; exact ⟨μ y, hy, y, hIy, rfl, hs'⟩
 | _ => exact q
end
end Go.Fen

