import Derived.Test.YtinkdfnpmoljfaaGreatDoorFenV
set_option linter.unusedVariables false
set_option linter.unusedSimpArgs false
namespace Go.Fen
open Go Go.RowKit
def cU64 (x : Int) : List Value := [.int .u64 x]
/-! ### Maps whose key is not known -/
def lkV (k : Int) (z : Value) : List (Int × Value) → Value
 | [] => z
 | (a, v) :: r => bif decide (k = a) then v else lkV k z r
def hasK {α : Type} (k : Int) : List (Int × α) → Bool
 | [] => false
 | (a, _) :: r => bif decide (k = a) then true else hasK k r
def lkB (k : Int) (z : Bool) : List (Int × Bool) → Bool
 | [] => z
 | (a, v) :: r => bif decide (k = a) then v else lkB k z r
def entsOf : List (Int × Value) → Nat → List MapEntry
 | [], _ => []
 | (a, v) :: r, j => ⟨.int .i64 a, v, j⟩ :: entsOf r (j + 1)
theorem find_ents (k : Int) : ∀ (l : List (Int × Value)) (j i : Nat), ∃ r, Instr.findNow (.int .i64) (.int .i64 k) (entsOf l j) i = some r ∧
  (r = none → hasK k l = false ∧ ∀ z, lkV k z l = z) ∧ ∀ p, r = some p → hasK k l = true ∧ ∀ z, lkV k z l = p.2
 | [], j, i => ⟨none, rfl, fun _ => ⟨rfl, fun _ => rfl⟩, fun _ h => by cases h⟩
 | (a, v) :: l, j, i => by
  by_cases h : k = a
  ·refine ⟨some (i, v), ?_, fun h => (by cases h), fun p hp => ?_⟩
   ·simp [entsOf, Instr.findNow, Instr.sameNow, h]
   ·cases hp; simp [hasK, lkV, h]
  ·obtain ⟨r, h1, h2, h3⟩ := find_ents k l (j + 1) (i + 1)
   refine ⟨r, ?_, fun e => ?_, fun p hp => ?_⟩
   ·have hb : (k == a) = false := by simpa using h
    simp only [entsOf, Instr.findNow, Instr.sameNow, if_true, hb]; exact h1
   ·simpa [hasK, lkV, h] using h2 e
   ·simpa [hasK, lkV, h] using h3 p hp
section
variable {P : Program} {n : Nat} {X : Cx} {K : Act → World → Prop} {Q : Exit → Act → World → Prop} {E E' : Env} {L L' : Own} {Φ Φ' : List Pers}
theorem at_all {α : Type} {c : α → List Value} {a : Addr} {xs : List α} {us : List Value} (j : Nat) (h : Φ[j]? = some (sl c (some a) xs)) (hu : xs.flatMap c = us) : Fol1 Φ (at_ a us) :=
 fun p hp => hu ▸ (show Cells p a (xs.flatMap c) from hp _ (List.mem_of_getElem? h))
theorem det_lookupS {o : Oper} {T kt e : Nat} {m kk : Operand} {b : Nat} {k : Int} {z : Value} {es : Array MapEntry} {clk : Nat} (l : List (Int × Value)) (hT : MapTy P T kt e (.int .i64)) (ho : o.op = .lookup T m kk false) (hm : ev E m = some (.map (some b))) (hk : ev E kk = some (.int .i64 k))
  (i : Nat) (hi : L[i]? = some (b, .map es clk)) (he : es.toList = entsOf l 0) (hz : (P.info? e).bind (·.zero) = some z) : DetR P X o E L Φ (lkV k z l) := .of_run fun ac w ha hw => by
 have hb := own_obj hw hi
 obtain ⟨inf, h1, h2⟩ := Option.bind_eq_some_iff.1 hz
 have hzr : (zeroValue e).run P w = .ok z w := by simp [zeroValue, run_info h1, h2]
 obtain ⟨r, hf, hn, hs⟩ := find_ents k l 0 0
 rw [← he] at hf
 cases r with
 | none =>
  rw [(hn rfl).2]
  simp [execOp, ho, ev_eval ha hm, ev_eval ha hk, Instr.lookup, run_underlying hT.ty, gObj hb, run_checkKey hT, run_findKey hT hf, hzr]
 | some p =>
  rw [(hs p rfl).2]
  obtain ⟨j, v⟩ := p
  simp [execOp, ho, ev_eval ha hm, ev_eval ha hk, Instr.lookup, run_underlying hT.ty, gObj hb, run_checkKey hT, run_findKey hT hf]
theorem det_lookupSo {o : Oper} {T kt e : Nat} {m kk : Operand} {b : Nat} {k : Int} {z : Value} {es : Array MapEntry} {clk : Nat} (l : List (Int × Value)) (hT : MapTy P T kt e (.int .i64)) (ho : o.op = .lookup T m kk true) (hm : ev E m = some (.map (some b))) (hk : ev E kk = some (.int .i64 k))
  (i : Nat) (hi : L[i]? = some (b, .map es clk)) (he : es.toList = entsOf l 0) (hz : (P.info? e).bind (·.zero) = some z) : DetR P X o E L Φ (.tuple #[lkV k z l, .bool (hasK k l)]) := .of_run fun ac w ha hw => by
 have hb := own_obj hw hi
 obtain ⟨inf, h1, h2⟩ := Option.bind_eq_some_iff.1 hz
 have hzr : (zeroValue e).run P w = .ok z w := by simp [zeroValue, run_info h1, h2]
 obtain ⟨r, hf, hn, hs⟩ := find_ents k l 0 0
 rw [← he] at hf
 cases r with
 | none =>
  rw [(hn rfl).2, (hn rfl).1]
  simp [execOp, ho, ev_eval ha hm, ev_eval ha hk, Instr.lookup, run_underlying hT.ty, gObj hb, run_checkKey hT, run_findKey hT hf, hzr]
 | some p =>
  rw [(hs p rfl).2, (hs p rfl).1]
  obtain ⟨j, v⟩ := p
  simp [execOp, ho, ev_eval ha hm, ev_eval ha hk, Instr.lookup, run_underlying hT.ty, gObj hb, run_checkKey hT, run_findKey hT hf]
theorem lkV_three (F : Value → Value → Value → Value) (k : Int) (z1 z2 z3 : Value) : ∀ (l : List (Int × Value × Value × Value)), lkV k (F z1 z2 z3) (l.map fun x => (x.1, F x.2.1 x.2.2.1 x.2.2.2)) =
  F (lkV k z1 (l.map fun x => (x.1, x.2.1))) (lkV k z2 (l.map fun x => (x.1, x.2.2.1))) (lkV k z3 (l.map fun x => (x.1, x.2.2.2)))
 | [] => rfl
 | (a, u, v, w) :: l => by
  simp only [List.map_cons, lkV]
  cases decide (k = a) with
  | true => rfl
  | false => exact lkV_three F k z1 z2 z3 l
theorem lkV_bool (k : Int) (z : Bool) : ∀ (l : List (Int × Bool)), lkV k (.bool z) (l.map fun x => (x.1, .bool x.2)) = .bool (lkB k z l)
 | [] => rfl
 | (a, v) :: l => by
  simp only [List.map_cons, lkV, lkB]
  cases decide (k = a) with
  | true => rfl
  | false => exact lkV_bool k z l
/-! ### Calls of what such a map holds -/
def CallV (P : Program) (fv : Value) (args : List Value) (Φ0 : List Pers) (v : Value) : Prop :=
 ∃ (k : FuncId) (first cap : Array Value), fv = .func (.func k) first cap ∧ ConV P k ((first ++ args.toArray ++ cap).toList) Φ0 v
theorem CallV.of {k : FuncId} {first cap : Array Value} {args args' : List Value} {Φ0 Φ1 : List Pers} {v : Value} (h : ConV P k args' Φ1 v) (ha : (first ++ args.toArray ++ cap).toList = args') (hf : Foll Φ0 Φ1) : CallV P (.func (.func k) first cap) args Φ0 v :=
 ⟨k, first, cap, rfl, ha ▸ ⟨h.1, fun w p hq hs ho => h.2 w p (hf p hq) hs ho⟩⟩
theorem CallV.cons {ρ : Type} (val : ρ → Value) {k a : Int} {z v : Value} {l : List (Int × Value)} {args : List Value} {Φ0 : List Pers} {r1 r2 : ρ} (h : hasK k ((a, v) :: l) = true) (h1 : k = a → CallV P v args Φ0 (val r1)) (h2 : hasK k l = true → ¬ k = a → CallV P (lkV k z l) args Φ0 (val r2)) :
  CallV P (lkV k z ((a, v) :: l)) args Φ0 (val (bif decide (k = a) then r1 else r2)) := by
 by_cases e : k = a
 ·simpa [lkV, e] using h1 e
 ·simpa [lkV, e] using h2 (by simpa [hasK, e] using h) e
theorem CallV.nil {k : Int} {z v : Value} {args : List Value} {Φ0 : List Pers} (h : hasK k ([] : List (Int × Value)) = true) : CallV P z args Φ0 v := by cases h
theorem det_callV {o : Oper} {c : Call} {fv : Operand} {fval : Value} {vs : List Value} {Φ0 : List Pers} {v : Value}
  (hcon : CallV P fval vs Φ0 v) (ho : o.op = .call c) (hc : c.callee = .value fv) (hf : ev E fv = some fval) (hargs : c.args.toList.mapM (ev E) = some vs) (hΦ : Foll Φ Φ0) : Det P X o E L Φ v := by
 obtain ⟨k, first, cap, rfl, h⟩ := hcon
 exact det_call h ho hc hf hargs rfl hΦ
def CallO (P : Program) (fv : Value) (args : List Value) (Φ0 : List Pers) {ρ : Type} (pv : Value) (R : Option ρ) (val : ρ → Value) : Prop :=
 ∃ (k : FuncId) (first cap : Array Value), fv = .func (.func k) first cap ∧ ConO P k ((first ++ args.toArray ++ cap).toList) [] Φ0 pv R val
theorem CallO.of {k : FuncId} {first cap : Array Value} {args args' : List Value} {Φ0 Φ1 : List Pers} {ρ : Type} {pv : Value} {R : Option ρ} {val : ρ → Value} (h : ConO P k args' [] Φ1 pv R val) (ha : (first ++ args.toArray ++ cap).toList = args') (hf : Foll Φ0 Φ1) : CallO P (.func (.func k) first cap) args Φ0 pv R val :=
 ⟨k, first, cap, rfl, ha ▸ ⟨h.1, fun w p hq hs ho => h.2 w p (hf p hq) hs ho⟩⟩
theorem CallO.cons {ρ : Type} {pv : Value} {val : ρ → Value} {k a : Int} {z v : Value} {l : List (Int × Value)} {args : List Value} {Φ0 : List Pers} {r1 r2 : Option ρ} (h : hasK k ((a, v) :: l) = true) (h1 : k = a → CallO P v args Φ0 pv r1 val) (h2 : hasK k l = true → ¬ k = a → CallO P (lkV k z l) args Φ0 pv r2 val) :
  CallO P (lkV k z ((a, v) :: l)) args Φ0 pv (bif decide (k = a) then r1 else r2) val := by
 by_cases e : k = a
 ·simpa [lkV, e] using h1 e
 ·simpa [lkV, e] using h2 (by simpa [hasK, e] using h) e
theorem CallO.nil {k : Int} {z : Value} {args : List Value} {Φ0 : List Pers} {ρ : Type} {pv : Value} {R : Option ρ} {val : ρ → Value} (h : hasK k ([] : List (Int × Value)) = true) : CallO P z args Φ0 pv R val := by cases h
end
end Go.Fen

