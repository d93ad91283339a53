import Derived.Test.YtinkdfnpmoljfaaGreatDoorFenG
set_option linter.unusedVariables false
set_option linter.unusedSimpArgs false
namespace Go.Fen
open Go Go.RowKit
abbrev ag (cs : List Value) : Value := .agg cs.toArray
abbrev bs (l : List UInt8) : ByteArray := ⟨l.toArray⟩
structure Slc where
 q : Option Addr
 n : Nat
 k : Nat
deriving DecidableEq
section
variable {P : Program} {n : Nat} {X : Cx} {K : Act → World → Prop} {Q : Exit → Act → World → Prop} {E E' : Env} {L L' : Own} {Φ Φ' : List Pers}
/-- A slice literal. -/
theorem tri_buildSl {o : Oper} {T e sz len : Nat} {ps : Array (Nat × Operand)} {vs : List (Nat × Value)} {α : Type} {c : α → List Value} {xs : List α} (hT : SlTy P T e sz) (hne : Nat.blt 0 (len * sz) = true) (ho : o.op = .buildSlice T len ps) (hp : evParts E ps.toList = some vs)
  (hc : (if len * sz > 2 ^ 24 then none else match (P.info? e).bind (·.zero) with
   | some z => Instr.fill (fun i => some (i * sz, sz)) ((Array.range (len * sz)).map (z.cells[· % z.cells.size]!)) vs
   | none => none) = some (xs.flatMap c).toArray) :
  Tri P n X o E L Φ Nat (fun b => .slice (some ⟨b, 0, none⟩) len len) (fun _ => L) (fun b => sl c (some ⟨b, 0, none⟩) xs :: Φ) := by
 intro a w K Q hs hk
 have hm : (ps.map fun (x : Nat × Operand) => (x.1, a.eval x.2)).toList = vs := by simpa using evParts_eval hs.has hp
 split at hc
 ·cases hc
 ·rename_i hle
  split at hc
  ·rename_i z hz
   obtain ⟨i, hi, hz'⟩ := Option.bind_eq_some_iff.1 hz
   have hzr : (zeroValue e).run P w = .ok z w := by simp [zeroValue, run_info hi, hz']
   have hr : (execOp a.eval o).run P w = .ok (.value (.slice (some ⟨w.heap.size, 0, none⟩) len len)) (w.alloc (.cells (xs.flatMap c).toArray e (0, 0))) := by
    have h0 : ¬ len * sz = 0 := by
     have : 0 < len * sz := by simpa [Nat.blt_eq] using hne
     omega
    simp only [execOp, ho, Instr.buildSlice, Sem.run_bind, run_underlying hT.ty, Result.andThen_ok, hT.run, hle, h0, Sem.run_ite, if_false, hzr, Sem.run_pure, hm, hc, newRow, run_newObj]
    rfl
   refine up_in (by rw [ho]; rfl) ?_
   unfold Oper.wp
   rw [hr]
   refine hk w.heap.size _ ?_
   have := (hs.world.alloc (.cells (xs.flatMap c).toArray e (0, 0))).freeze (i := 0) rfl
   refine this.foll fun p hp q hq => ?_
   rcases List.mem_cons.1 hq with rfl | hq
   ·have hb : p w.heap.size = some (.cells (xs.flatMap c).toArray e (0, 0)) := hp (blk w.heap.size (.cells (xs.flatMap c).toArray e (0, 0))) (by simp)
    exact .inr ⟨rfl, _, _, _, hb, fun j v hj => by simpa using hj⟩
   ·exact hp q (by simp [hq])
  ·cases hc
end
end Go.Fen

