import Derived.Test.YtinkdfnpmoljfaaGreatDoorFenM
set_option linter.unusedVariables false
set_option linter.unusedSimpArgs false
namespace Go.Fen
open Go Go.RowKit
set_option linter.unusedSimpArgs false
set_option linter.unusedVariables false
section
variable {P : Program} {n : Nat} {X : Cx} {K : Act → World → Prop} {Q : Exit → Act → World → Prop} {E E' : Env} {L L' : Own} {Φ Φ' : List Pers}
/-- A reserved block's object turns. -/
theorem StW.reput {w : World} {d : Nat} {o o' : Obj} {ds : List (Nat × Obj)} (hd : d ∉ ds.map Prod.fst) (h : StW (X.wd ((d, o) :: ds)) L Φ w) : StW (X.wd ((d, o') :: ds)) L Φ (w.putObj d o') := by
 have h' := StW.take hd o' h
 obtain ⟨p0, hp0⟩ := h
 obtain ⟨h1, h2, h3, h4⟩ := hp0.res (d, o) (List.mem_cons_self ..)
 have hlt := (Array.getElem?_eq_some_iff.1 h1).1
 -- the facts of the elder world serve
 refine ⟨p0, ⟨hp0.facts, fun k u e => ?_, hp0.le, hp0.dom, ⟨fun e he => ⟨?_, (hp0.own.1 e he).2⟩, hp0.own.2⟩, hp0.may, ⟨hp0.kept.os, hp0.kept.tape, hp0.kept.output, ?_, fun k hk hm => ?_⟩, fun d' hd' => ?_⟩⟩
 ·have : k ≠ d := fun e' => by subst e'; rw [h2] at e; cases e
  rw [World.putObj_heap_other this]; exact hp0.sub k u e
 ·rw [World.putObj_heap_other (h3 e he)]; exact (hp0.own.1 e he).1
 ·rw [World.putObj_size]; exact hp0.kept.size
 ·have : k ≠ d := fun e' => by
   subst e'
   rcases h4 with h4 | h4
   ·have : X.w0.heap.size ≤ k := h4
    have : k < X.w0.heap.size := hk
    omega
   ·exact hm h4
  rw [World.putObj_heap_other this]; exact hp0.kept.block k hk hm
 ·rcases List.mem_cons.1 hd' with rfl | hd'
  ·exact ⟨World.putObj_heap_same hlt, h2, h3, h4⟩
  ·have : d'.1 ≠ d := fun e' => hd (e' ▸ List.mem_map_of_mem hd')
   obtain ⟨g1, g2⟩ := hp0.res d' (List.mem_cons_of_mem _ hd')
   exact ⟨by rw [World.putObj_heap_other this]; exact g1, g2⟩
/-- Reserved blocks are owned blocks again. -/
theorem StW.unres {w : World} {w0 : World} {h0 : Hp} {M : List Nat} {r : Option Nat} {ds : List (Nat × Obj)} (hn : (ds.map Prod.fst).Nodup) (h : StW ⟨w0, h0, M, r, ds⟩ L Φ w) : StW (cx w0 h0 M) (ds ++ L) Φ w := by
 obtain ⟨p, hp⟩ := h
 refine ⟨p, ⟨hp.facts, hp.sub, hp.le, hp.dom, ⟨fun e he => ?_, ?_⟩, fun e he => ?_, ⟨hp.kept.os, hp.kept.tape, hp.kept.output, hp.kept.size, hp.kept.block⟩, fun d hd => by cases hd⟩⟩
 ·rcases List.mem_append.1 he with he | he
  ·exact ⟨(hp.res e he).1, (hp.res e he).2.1⟩
  ·exact hp.own.1 e he
 ·rw [List.map_append, List.nodup_append]
  refine ⟨hn, hp.own.2, fun b hb c hc => ?_⟩
  obtain ⟨d, hd, rfl⟩ := List.mem_map.1 hb
  obtain ⟨e, he, rfl⟩ := List.mem_map.1 hc
  exact fun h => (hp.res d hd).2.2.1 e he h.symm
 ·rcases List.mem_append.1 he with he | he
  ·exact (hp.res e he).2.2.2.symm
  ·exact hp.may e he
/-- An owned block is reserved. -/
theorem StW.reserve {w : World} {d : Nat} {o : Obj} (h : StW X ((d, o) :: L) Φ w) : StW (X.wd ((d, o) :: X.D)) L Φ w := by
 obtain ⟨p, hp⟩ := h
 refine ⟨p, ⟨hp.facts, hp.sub, hp.le, hp.dom, hp.own.sub (List.sublist_cons_self _ _), fun e he => hp.may e (List.mem_cons_of_mem _ he), ⟨hp.kept.os, hp.kept.tape, hp.kept.output, hp.kept.size, hp.kept.block⟩, fun e he => ?_⟩⟩
 rcases List.mem_cons.1 he with rfl | he
 ·have h1 := hp.own.1 (d, o) (List.mem_cons_self ..)
  refine ⟨h1.1, h1.2, fun e' he' hE => ?_, (hp.may (d, o) (List.mem_cons_self ..)).symm⟩
  have := hp.own.2
  rw [List.map_cons, List.nodup_cons] at this
  exact this.1 (hE ▸ List.mem_map_of_mem he')
 ·obtain ⟨g1, g2, g3, g4⟩ := hp.res e he
  exact ⟨g1, g2, fun e' he' => g3 e' (List.mem_cons_of_mem _ he'), g4⟩

/-- How the body of a round may be left. -/
def RP (Y : Cx) {β σ : Type} (I : List β → σ → Prop) (Jx : Code → σ → Prop) (Lk : σ → Own) (Φk : σ → List Pers) (rest : List β) : Exit → Act → World → Prop
 | .normal, _, w => ∃ s, I rest s ∧ StW Y (Lk s) (Φk s) w
 | .ret, _, w => ∃ s, Jx .ret s ∧ StW Y (Lk s) (Φk s) w
 | .exit id, _, w => ∃ s, Jx (.exit id) s ∧ StW Y (Lk s) (Φk s) w
 | _, _, _ => False

end
end Go.Fen

