import Derived.Test.YtinkdfnpmoljfaaGreatDoorFenL
set_option linter.unusedVariables false
set_option linter.unusedSimpArgs false
namespace Go.Fen
open Go Go.RowKit
set_option linter.unusedSimpArgs false
set_option linter.unusedVariables false

section
variable {P : Program} {n : Nat} {X : Cx} {K : Act → World → Prop} {Q : Exit → Act → World → Prop} {E E' : Env} {L L' : Own} {Φ Φ' : List Pers}
theorem mc (cs : List Own) (m : List Bool) (h1 : L = cs.flatten) (h2 : (mask m cs).flatten = L') : L'.Sublist L := by
 subst h1 h2; exact flatten_sub (mask_sub m cs)
theorem permC (cs : List Own) (is : List Nat) (m : Nat) (hm : cs.length = m) (h : is.Perm (List.range m)) (h1 : L = cs.flatten) (cs2 : List Own) (h2 : is.map (cs.getD · []) = cs2) (h3 : cs2.flatten = L') : L.Perm L' := by
 subst hm h1 h2 h3
 have e : cs = (List.range cs.length).map (cs.getD · []) := by
  apply List.ext_getElem?
  intro i
  rw [List.getElem?_map]
  by_cases hi : i < cs.length
  ·rw [List.getElem?_range hi]; simp [hi, List.getD]
  ·rw [List.getElem?_eq_none (Nat.le_of_not_lt hi), List.getElem?_eq_none (by simpa using Nat.le_of_not_lt hi)]; rfl
 have := ((h.map (cs.getD · [])).symm).flatten
 rw [← e] at this
 exact this
end

/-! ### Loops over functions -/
section
variable {P : Program} {n : Nat} {X : Cx} {K : Act → World → Prop} {Q : Exit → Act → World → Prop} {E E' : Env} {L L' : Own} {Φ Φ' : List Pers}
/-- What the body of such a function must come to. -/
def IEnds (P : Program) (X : Cx) (fn : Func) (R : Own → List Pers → Prop) : Exit → Act → World → Prop :=
 bodyPostM (FW none) 0 P fn fun e w' => (∃ v, e = .returned v) ∧ ∃ L' Φ', R L' Φ' ∧ StW X L' Φ' w'
theorem iends_any {X' : Cx} {a : Act} {w : World} {fn : Func} {R : Own → List Pers → Prop} {v : Value} (hX : X' = X.wd X'.D) (hX0 : X = X.wd []) (hrho : X.rho = none) (hnd : (X'.D.map Prod.fst).Nodup ∧ ∀ d ∈ X'.D, d.2 = .deferred (some [])) (hr : Res P n X fn E L Φ v) (hR : R L' Φ') (hL : L'.Sublist L) (hΦ : Foll Φ Φ')
  (hs : St n X' E L Φ a w) : LeavesInM (FW none) 0 P fn a.tmps (fun e w' => (∃ v, e = .returned v) ∧ ∃ L' Φ', R L' Φ' ∧ StW X L' Φ' w') a.defers .returning w := by
 have hm : X'.marks = X'.D.map (mark ·.1) := by rw [hX]; unfold Cx.marks Cx.wd; simp only [hrho]
 rw [hs.defers, hm]
 refine leaves_marks (X := X) (L := L) (Φ := Φ) X'.D hnd.1 hnd.2 w (hX ▸ hs.world) fun w' hw' => ⟨v, ?_, ⟨v, rfl⟩, L', Φ', hR, ?_⟩
 ·rw [hX0] at hr
  exact hr { a with defers := [] } w' ⟨hs.size, by unfold Cx.marks Cx.wd; simp only [hrho]; rfl, hs.has, hw'⟩
 ·rw [hX0]; exact (hw'.sub hL).foll hΦ
theorem iends_ret {X' : Cx} {fn : Func} {R : Own → List Pers → Prop} {v : Value} (hX : X' = X.wd X'.D) (hX0 : X.rho = none ∧ X.D = []) (hnd : (X'.D.map Prod.fst).Nodup ∧ ∀ d ∈ X'.D, d.2 = .deferred (some [])) (hr : Res P n X fn E L Φ v) (hR : R L' Φ') (hL : L'.Sublist L) (hΦ : Foll Φ Φ') :
  JQ n X' (IEnds P X fn R .ret) E L Φ := fun a w hs => iends_any hX (by obtain ⟨w0, h0, M, r, D⟩ := X; obtain ⟨h1, h2⟩ := hX0; simp only at h1 h2; subst h1 h2; rfl) hX0.1 hnd hr hR hL hΦ hs
theorem iends_normal {X' : Cx} {fn : Func} {R : Own → List Pers → Prop} {v : Value} (hX : X' = X.wd X'.D) (hX0 : X.rho = none ∧ X.D = []) (hnd : (X'.D.map Prod.fst).Nodup ∧ ∀ d ∈ X'.D, d.2 = .deferred (some [])) (hr : Res P n X fn E L Φ v) (hR : R L' Φ') (hL : L'.Sublist L) (hΦ : Foll Φ Φ') :
  JQ n X' (IEnds P X fn R .normal) E L Φ := fun a w hs => iends_any hX (by obtain ⟨w0, h0, M, r, D⟩ := X; obtain ⟨h1, h2⟩ := hX0; simp only at h1 h2; subst h1 h2; rfl) hX0.1 hnd hr hR hL hΦ hs
theorem start_has {args : List Value} {m : Nat} (hle : Nat.ble args.length m = true) {E0 : Env} (hE : sameAll ((List.range args.length).zip args) E0) : Has { tmps := args.toArray ++ Array.replicate (m - args.toArray.size) undef, defers := [] } E0 := by
 have hle' : args.length ≤ m := Nat.le_of_ble_eq_true hle
 have h1 : Has { tmps := args.toArray ++ Array.replicate (m - args.toArray.size) undef, defers := [] } ((List.range args.length).zip args) := by
  intro t v e
  have hm : ∀ (xs : List Value) (k : Nat), ((List.range' k xs.length).zip xs).lookup t = some v → k ≤ t ∧ xs[t - k]? = some v := by
   intro xs
   induction xs with
   | nil => intro k hk; simp at hk
   | cons y ys ih =>
    intro k hk
    rw [List.length_cons, List.range'_succ, List.zip_cons_cons] at hk
    by_cases ht : t = k
    ·subst ht; simp [List.lookup] at hk; simp [hk]
    ·have : (t == k) = false := by simpa using ht
     simp only [List.lookup, this] at hk
     obtain ⟨h1, h2⟩ := ih (k + 1) hk
     refine ⟨by omega, ?_⟩
     rw [show t - k = (t - (k + 1)) + 1 by omega, List.getElem?_cons_succ]
     exact h2
  rw [List.range_eq_range'] at e
  obtain ⟨_, h2⟩ := hm args 0 e
  have h3 : args[t]? = some v := by simpa using h2
  have := (List.getElem?_eq_some_iff.1 h3).1
  rw [Array.getElem?_append_left (by simpa using this)]
  simpa using h3
 exact h1.weaken (sameAll_spec hE)
end
end Go.Fen

