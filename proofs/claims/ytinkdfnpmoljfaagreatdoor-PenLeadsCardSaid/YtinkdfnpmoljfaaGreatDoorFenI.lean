import Derived.Test.YtinkdfnpmoljfaaGreatDoorFenH
set_option linter.unusedVariables false
set_option linter.unusedSimpArgs false
namespace Go.Fen
open Go Go.RowKit
section
variable {P : Program} {n : Nat} {X : Cx} {K : Act → World → Prop} {Q : Exit → Act → World → Prop} {E E' : Env} {L L' : Own} {Φ Φ' : List Pers}
/-- A fact that follows. -/
def Fol1 (Φ : List Pers) (q : Pers) : Prop := ∀ p : Hp, (∀ q ∈ Φ, q.p p) → q.p p
theorem at_of {q : Pers} (j : Nat) (h : Φ[j]? = some q) : Fol1 Φ q := fun _ hp => hp q (List.mem_of_getElem? h)
theorem at_sl {α : Type} {c : α → List Value} {sz : Nat} {a : Addr} {xs : List α} (hc : ∀ x, (c x).length = sz) (j : Nat) (h : Φ[j]? = some (sl c (some a) xs)) {k : Nat} {v : α} (hv : xs[k]? = some v) : Fol1 Φ (at_ (a.add (k * sz)) (c v)) :=
 fun p hp => Cells.sub hc (show Cells p a (xs.flatMap c) from hp _ (List.mem_of_getElem? h)) hv
theorem at_part {a : Addr} {us ws : List Value} (h : Fol1 Φ (at_ a us)) (off n : Nat) (hu : (us.drop off).take n = ws) : Fol1 Φ (at_ (a.add off) ws) := fun p hp => by
 obtain ⟨b, o, sp⟩ := a
 obtain hn | ⟨h0, c, T, fr, h1, h2⟩ := h p hp
 ·exact .inl (by rw [← hu, hn]; simp)
 simp only at h0 h1 h2
 subst h0
 rw [addr_add]
 refine .inr ⟨rfl, c, T, fr, h1, fun j v hj => ?_⟩
 have := h2 (off + j) v (by
  rw [← hu, List.getElem?_take] at hj
  split at hj
  ·rwa [List.getElem?_drop] at hj
  ·cases hj)
 simpa [Nat.add_assoc] using this
theorem at_part0 {a : Addr} {us ws : List Value} (h : Fol1 Φ (at_ a us)) (n : Nat) (hu : us.take n = ws) : Fol1 Φ (at_ a ws) := by
 have := at_part h 0 n (ws := ws) (by simpa using hu)
 simpa [Addr.add] using this
theorem det_ld_agg {o : Oper} {T sz : Nat} {x : Operand} {a : Addr} {us : List Value} (hT : Ty P T sz true) (ho : o.op = .load T x) (hx : ev E x = some (.pointer (some a))) (hΦ : Fol1 Φ (at_ a us)) (hn : us.length = sz) :
  DetR P X o E L Φ (.agg us.toArray) := .of_run fun ac w ha ⟨p, hp⟩ => by
 have hc : Cells p a us := hΦ p hp.facts
 simp [execOp, ho, ev_eval ha hx, run_load_agg hT hn fun j v hj => hc.cell hp.sub hj]
theorem det_ld_one {o : Oper} {T : Nat} {x : Operand} {a : Addr} {v : Value} {us : List Value} (hT : Ty P T 1 false) (ho : o.op = .load T x) (hx : ev E x = some (.pointer (some a))) (hΦ : Fol1 Φ (at_ a us)) (hv : us[0]? = some v) :
  DetR P X o E L Φ v := .of_run fun ac w ha ⟨p, hp⟩ => by
 have hc : Cells p a us := hΦ p hp.facts
 simp [execOp, ho, ev_eval ha hx, run_load_one hT (hc.cell (j := 0) hp.sub hv)]
theorem J_rounds {c : Code} (k : Nat) (h : JQ n X (Code.roundsIn (FW X.rho) 0 P c Q k) E L Φ) : J P n X (.loop c) Q E L Φ := fun a w hs => wpIn_loop_rounds k (h a w hs)
theorem JR_succ {c : Code} {k : Nat} (h : J P n X c (Exit.then (Code.roundsIn (FW X.rho) 0 P c Q k) Q) E L Φ) : JQ n X (Code.roundsIn (FW X.rho) 0 P c Q (k + 1)) E L Φ := fun a w hs => by
 rw [roundsIn_succ]; exact h a w hs
theorem Foll.con1 {q : Pers} (h : Fol1 Φ q) (k : Foll Φ Φ') : Foll Φ (q :: Φ') := Foll.cons h k
end
end Go.Fen

