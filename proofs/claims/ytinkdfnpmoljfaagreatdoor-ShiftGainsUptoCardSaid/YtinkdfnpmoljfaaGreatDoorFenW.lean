import Derived.Test.YtinkdfnpmoljfaaGreatDoorFenV
set_option linter.unusedVariables false
set_option linter.unusedSimpArgs false
namespace Go.Fen
open Go Go.RowKit
/-! ### Maps whose key is not known -/
def lkV (k : Int) (z : Value) : List (Int × Value) → Value
 | [] => z
 | (a, v) :: r => bif decide (k = a) then v else lkV k z r
def hasK {α : Type} (k : Int) : List (Int × α) → Bool
 | [] => false
 | (a, _) :: r => bif decide (k = a) then true else hasK k r
section
variable {P : Program} {n : Nat} {X : Cx} {K : Act → World → Prop} {Q : Exit → Act → World → Prop} {E E' : Env} {L L' : Own} {Φ Φ' : List Pers}
/-! ### Calls of what such a map holds -/
def CallV (P : Program) (fv : Value) (args : List Value) (Φ0 : List Pers) (v : Value) : Prop :=
 ∃ (k : FuncId) (first cap : Array Value), fv = .func (.func k) first cap ∧ ConV P k ((first ++ args.toArray ++ cap).toList) Φ0 v
theorem CallV.of {k : FuncId} {first cap : Array Value} {args args' : List Value} {Φ0 Φ1 : List Pers} {v : Value} (h : ConV P k args' Φ1 v) (ha : (first ++ args.toArray ++ cap).toList = args') (hf : Foll Φ0 Φ1) : CallV P (.func (.func k) first cap) args Φ0 v :=
 ⟨k, first, cap, rfl, ha ▸ ⟨h.1, fun w p hq hs ho => h.2 w p (hf p hq) hs ho⟩⟩
theorem CallV.cons {ρ : Type} (val : ρ → Value) {k a : Int} {z v : Value} {l : List (Int × Value)} {args : List Value} {Φ0 : List Pers} {r1 r2 : ρ} (h : hasK k ((a, v) :: l) = true) (h1 : k = a → CallV P v args Φ0 (val r1)) (h2 : hasK k l = true → ¬ k = a → CallV P (lkV k z l) args Φ0 (val r2)) :
  CallV P (lkV k z ((a, v) :: l)) args Φ0 (val (bif decide (k = a) then r1 else r2)) := by
 by_cases e : k = a
 ·simpa [lkV, e] using h1 e
 ·simpa [lkV, e] using h2 (by simpa [hasK, e] using h) e
theorem CallV.nil {k : Int} {z v : Value} {args : List Value} {Φ0 : List Pers} (h : hasK k ([] : List (Int × Value)) = true) : CallV P z args Φ0 v := by cases h
def CallO (P : Program) (fv : Value) (args : List Value) (Φ0 : List Pers) {ρ : Type} (pv : Value) (R : Option ρ) (val : ρ → Value) : Prop :=
 ∃ (k : FuncId) (first cap : Array Value), fv = .func (.func k) first cap ∧ ConO P k ((first ++ args.toArray ++ cap).toList) [] Φ0 pv R val
theorem CallO.of {k : FuncId} {first cap : Array Value} {args args' : List Value} {Φ0 Φ1 : List Pers} {ρ : Type} {pv : Value} {R : Option ρ} {val : ρ → Value} (h : ConO P k args' [] Φ1 pv R val) (ha : (first ++ args.toArray ++ cap).toList = args') (hf : Foll Φ0 Φ1) : CallO P (.func (.func k) first cap) args Φ0 pv R val :=
 ⟨k, first, cap, rfl, ha ▸ ⟨h.1, fun w p hq hs ho => h.2 w p (hf p hq) hs ho⟩⟩
theorem CallO.cons {ρ : Type} {pv : Value} {val : ρ → Value} {k a : Int} {z v : Value} {l : List (Int × Value)} {args : List Value} {Φ0 : List Pers} {r1 r2 : Option ρ} (h : hasK k ((a, v) :: l) = true) (h1 : k = a → CallO P v args Φ0 pv r1 val) (h2 : hasK k l = true → ¬ k = a → CallO P (lkV k z l) args Φ0 pv r2 val) :
  CallO P (lkV k z ((a, v) :: l)) args Φ0 pv (bif decide (k = a) then r1 else r2) val := by
 by_cases e : k = a
 ·simpa [lkV, e] using h1 e
 ·simpa [lkV, e] using h2 (by simpa [hasK, e] using h) e
theorem CallO.nil {k : Int} {z : Value} {args : List Value} {Φ0 : List Pers} {ρ : Type} {pv : Value} {R : Option ρ} {val : ρ → Value} (h : hasK k ([] : List (Int × Value)) = true) : CallO P z args Φ0 pv R val := by cases h
theorem rows_rep {β : Type} {c : β → List Value} {n : Nat} : Fol1 Φ (rowsF c (List.replicate n (⟨none, 0, 0⟩ : Slc)) (List.replicate n ([] : List β))) := fun p hp i r xs h1 h2 => by
 rw [List.getElem?_replicate] at h1 h2
 split at h1
 ·cases h1; rw [if_pos (by assumption)] at h2; cases h2; exact rfl
 ·cases h1
theorem RowsOk.rep {β : Type} (n : Nat) : RowsOk (List.replicate n (⟨Option.none, 0, 0⟩ : Slc)) (List.replicate n ([] : List β)) := ⟨by simp, fun i r xs h1 h2 => by
 rw [List.getElem?_replicate] at h1 h2
 split at h1
 ·cases h1; rw [if_pos (by assumption)] at h2; cases h2; exact ⟨rfl, Nat.le_refl _, by simp⟩
 ·cases h1⟩
theorem tri_makeR {o : Oper} {T e by' l c : Nat} {x y : Operand} {β : Type} (hT : ApTy P T e 1 by') (hz : ((P.info? e).bind (·.zero)).map (·.cells) = some #[.slice none 0 0])
  (ho : o.op = .makeSlice T x y) (hx : ev E x = some (.int .i64 (l : Int))) (hy : ev E y = some (.int .i64 (c : Int))) (hlc : l ≤ c) (hb : c * by' ≤ 140737488355328) (h63 : c ≤ 9223372036854775807) :
  Tri P n X o E L Φ {r' : VR // VOk 1 (List.replicate l ([] : List β)).length r'} (fun r' => .slice (va r'.1.q) (List.replicate l ([] : List β)).length r'.1.k) (fun r' => L ++ (vo cSlc e r'.1 (List.replicate l (⟨none, 0, 0⟩ : Slc)) ++ [])) (fun _ => Φ) := by
 have := tri_make (P := P) (n := n) (X := X) (E := E) (L := L) (Φ := Φ) (f := cSlc) (⟨none, 0, 0⟩ : Slc) hT hz (fun _ => rfl) ho hx hy hlc hb h63
 have e1 : (List.replicate l ([] : List β)).length = (List.replicate l (⟨none, 0, 0⟩ : Slc)).length := by simp
 rw [e1]
 exact this
theorem hpand {ops : Array Oper} {held : Held} {Φs : List Pers} (is : List Nat) (fuel : Nat) {listed : Array Bool} (listed' : Array Bool) (t pd : Nat) {c r1 r2 r : Bool} (h1r : c = true → r1 = r) (h2r : c = false → r2 = r) (ht : E.lookup t = some (.bool c))
  (h1 : heldN P n ops held is listed ((t, .bool true) :: E) [(pd, .bool r1)] = some (listed', [(pd, .bool r1)])) (h2 : heldN P n ops held is listed ((t, .bool false) :: E) [(pd, .bool r2)] = some (listed', [(pd, .bool r2)]))
  (g : JH P n X ops fuel listed' K held Φs ((pd, .bool r) :: E) L Φ) : JH P n X ops (is.length + fuel) listed K held Φs E L Φ := by
 have fin : ∀ (b : Bool), c = b → ∀ a : Act, Has a ([(pd, Value.bool r)] ++ ((t, .bool b) :: E)) → Has a ((pd, .bool r) :: E) := fun b hb a ha s v e => by
  simp only [List.lookup] at e
  split at e
  ·rename_i hs
   have := ha s v (by simp only [List.cons_append, List.nil_append, List.lookup, hs]; exact e)
   exact this
  ·rename_i hs
   refine ha s v ?_
   simp only [List.cons_append, List.nil_append, List.lookup, hs]
   split
   ·rename_i h2
    have : s = t := by simpa using h2
    subst this
    rw [ht, hb] at e; exact e
   ·exact e
 refine JH_cases t c ht (fun hc => ?_) (fun hc => ?_)
 ·refine hpur is fuel listed' [(pd, .bool r1)] h1 (JH_has (fun a ha => fin true hc a ?_) g)
  rw [← h1r hc]; exact ha
 ·refine hpur is fuel listed' [(pd, .bool r2)] h2 (JH_has (fun a ha => fin false hc a ?_) g)
  rw [← h2r hc]; exact ha
theorem hpandA {ops : Array Oper} {held : Held} {Φs : List Pers} (is : List Nat) (fuel : Nat) {listed : Array Bool} (listed' : Array Bool) (t pd : Nat) {c : Bool} (v : Bool) (ht : E.lookup t = some (.bool c))
  (h1 : heldN P n ops held is listed ((t, .bool true) :: E) [(pd, .bool v)] = some (listed', [(pd, .bool v)])) (h2 : heldN P n ops held is listed ((t, .bool false) :: E) [(pd, .bool false)] = some (listed', [(pd, .bool false)]))
  (g : JH P n X ops fuel listed' K held Φs ((pd, .bool (c && v)) :: E) L Φ) : JH P n X ops (is.length + fuel) listed K held Φs E L Φ :=
 hpand is fuel listed' t pd (fun h => by rw [h]; rfl) (fun h => by rw [h]; rfl) ht h1 h2 g
end
end Go.Fen

