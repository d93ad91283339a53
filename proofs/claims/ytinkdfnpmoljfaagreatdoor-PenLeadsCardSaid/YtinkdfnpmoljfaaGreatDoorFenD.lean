import Derived.Test.YtinkdfnpmoljfaaGreatDoorFenC
set_option linter.unusedVariables false
set_option linter.unusedSimpArgs false
namespace Go.Fen
open Go Go.RowKit

section
variable {P : Program} {n : Nat} {X : Cx} {K : Act → World → Prop} {Q : Exit → Act → World → Prop} {E E' : Env} {L L' : Own} {Φ Φ' : List Pers}

/-! ### New blocks -/
theorem heap_alloc (w : World) (o : Obj) (k : Nat) : (w.alloc o).heap[k]? = if k = w.heap.size then some o else w.heap[k]? := by
 show (w.heap.push o)[k]? = _
 rw [Array.getElem?_push]
theorem Hp.lt {p : Hp} {w : World} (h : p.sub w) {b : Nat} {o : Obj} (e : p b = some o) : b < w.heap.size := (Array.getElem?_eq_some_iff.1 (h b o e)).1
theorem sub_alloc {p : Hp} {w : World} (h : p.sub w) (o : Obj) : p.sub (w.alloc o) := fun b u e => by
 rw [heap_alloc, if_neg (Nat.ne_of_lt (Hp.lt h e))]; exact h b u e
theorem OwnIn.lt {p : Hp} {w : World} (h : OwnIn L p w) {e : Nat × Obj} (he : e ∈ L) : e.1 < w.heap.size := (Array.getElem?_eq_some_iff.1 (h.1 e he).1).1
theorem OwnIn.alloc {p : Hp} {w : World} (h : OwnIn L p w) (hs : p.sub w) (o : Obj) : OwnIn ((w.heap.size, o) :: L) p (w.alloc o) := by
 constructor
 ·intro e he
  rcases List.mem_cons.1 he with rfl | he
  ·refine ⟨by rw [heap_alloc, if_pos rfl], ?_⟩
   cases hp : p w.heap.size with
   | none => rfl
   | some u => exact absurd (Hp.lt hs hp) (Nat.lt_irrefl _)
  ·have := h.1 e he
   exact ⟨by rw [heap_alloc, if_neg (Nat.ne_of_lt (h.lt he))]; exact this.1, this.2⟩
 ·simp only [List.map_cons, List.nodup_cons]
  refine ⟨fun hm => ?_, h.2⟩
  obtain ⟨e, he, e1⟩ := List.mem_map.1 hm
  have := h.lt he
  omega
theorem KeptBut.alloc {M : List Nat} {a w : World} (h : KeptBut M a w) (o : Obj) : KeptBut M a (w.alloc o) :=
 ⟨h.os, h.tape, h.output, by have := h.size; simp; omega, fun k hk hm => by rw [heap_alloc, if_neg (by have := h.size; omega)]; exact h.block k hk hm⟩
theorem StW.alloc {w : World} (h : StW X L Φ w) (o : Obj) : StW X ((w.heap.size, o) :: L) Φ (w.alloc o) :=
 let ⟨p, hp⟩ := h
 ⟨p, ⟨hp.facts, sub_alloc hp.sub o, hp.le, hp.dom, hp.own.alloc hp.sub o, fun e he => by
  rcases List.mem_cons.1 he with rfl | he
  ·exact .inr hp.kept.size
  ·exact hp.may e he, hp.kept.alloc o, fun d hd => by
  obtain ⟨h1, h2, h3, h4⟩ := hp.res d hd
  have hlt := (Array.getElem?_eq_some_iff.1 h1).1
  refine ⟨by rw [heap_alloc, if_neg (by omega)]; exact h1, h2, fun e he => ?_, h4⟩
  rcases List.mem_cons.1 he with rfl | he
  ·simp only; omega
  ·exact h3 e he⟩⟩
/-- A new block of which we say at once that it does not turn any more. -/
def blk (b : Nat) (o : Obj) : Pers := ⟨fun h => h b = some o, fun hl e => hl _ _ e⟩

theorem tri_box {o : Oper} {T : Nat} {x : Operand} {v : Value} {cs : List Value} (ho : o.op = .box T x) (hx : ev E x = some v) (hc : v.cells = cs.toArray) :
  Tri P n X o E L Φ Nat (fun b => .pointer (some ⟨b, 0, none⟩)) (fun b => bx b cs T :: L) (fun _ => Φ) := by
 intro a w K Q hs hk
 have hr : (execOp a.eval o).run P w = .ok (.value (.pointer (some ⟨w.heap.size, 0, none⟩))) (w.alloc (.cells cs.toArray T (0, 0))) := by
  simp [execOp, ho, ev_eval hs.has hx, Instr.box, newVar, newRow, hc]
 refine up_in (by rw [ho]; rfl) ?_
 unfold Oper.wp
 rw [hr]
 exact hk w.heap.size _ (hs.world.alloc _)
structure Zero (P : Program) (T : Nat) (cs : List Value) : Prop where
 ok : ((P.info? T).bind (·.zero)).map (·.cells) = some cs.toArray
theorem Zero.run {T : Nat} {cs : List Value} (h : Zero P T cs) (w : World) : ∃ v, (zeroValue T).run P w = .ok v w ∧ v.cells = cs.toArray := by
 obtain ⟨v, hv, hc⟩ := Option.map_eq_some_iff.1 h.ok
 obtain ⟨i, hi, hz⟩ := Option.bind_eq_some_iff.1 hv
 exact ⟨v, by simp [zeroValue, run_info hi, hz], hc⟩
theorem tri_alloc {o : Oper} {T : Nat} {cs : List Value} (hz : Zero P T cs) (ho : o.op = .alloc T) :
  Tri P n X o E L Φ Nat (fun b => .pointer (some ⟨b, 0, none⟩)) (fun b => bx b cs T :: L) (fun _ => Φ) := by
 intro a w K Q hs hk
 obtain ⟨v, hv, hc⟩ := hz.run w
 have hr : (execOp a.eval o).run P w = .ok (.value (.pointer (some ⟨w.heap.size, 0, none⟩))) (w.alloc (.cells cs.toArray T (0, 0))) := by
  simp [execOp, ho, Instr.alloc, hv, newVar, newRow, hc]
 refine up_in (by rw [ho]; rfl) ?_
 unfold Oper.wp
 rw [hr]
 exact hk w.heap.size _ (hs.world.alloc _)

/-! ### A store into an owned block -/
theorem set_nodup_keys {i b : Nat} {o u : Obj} (hi : L[i]? = some (b, o)) : (L.set i (b, u)).map Prod.fst = L.map Prod.fst := by
 apply List.ext_getElem?
 intro k
 simp only [List.getElem?_map, List.getElem?_set]
 by_cases hk : i = k
 ·subst hk
  obtain ⟨h1, h2⟩ := List.getElem?_eq_some_iff.1 hi
  simp [h1, h2]
 ·simp [hk]
theorem key_unique (hn : (L.map Prod.fst).Nodup) {i k b : Nat} {o u : Obj} (hi : L[i]? = some (b, o)) (hk : L[k]? = some (b, u)) : i = k := by
 have h1 : (L.map Prod.fst)[i]? = some b := by simp [hi]
 have h2 : (L.map Prod.fst)[k]? = some b := by simp [hk]
 exact (List.getElem?_inj (List.getElem?_eq_some_iff.1 h1).1 hn).1 (h1.trans h2.symm)
theorem OwnIn.set {p : Hp} {w w' : World} (h : OwnIn L p w) {i b : Nat} {o u : Obj} (hi : L[i]? = some (b, o)) (hb : w'.heap[b]? = some u) (hoth : ∀ k, k ≠ b → w'.heap[k]? = w.heap[k]?) : OwnIn (L.set i (b, u)) p w' := by
 constructor
 ·intro e he
  obtain ⟨k, hk⟩ := List.mem_iff_getElem?.1 he
  rw [List.getElem?_set] at hk
  by_cases hik : i = k
  ·subst hik
   have := (List.getElem?_eq_some_iff.1 hi).1
   simp [this] at hk
   subst hk
   exact ⟨hb, (h.1 _ (List.mem_of_getElem? hi)).2⟩
  ·rw [if_neg hik] at hk
   obtain ⟨k', o'⟩ := e
   have hne : k' ≠ b := fun e => hik (key_unique h.2 hi (e ▸ hk))
   have := h.1 _ (List.mem_of_getElem? hk)
   exact ⟨by rw [hoth _ hne]; exact this.1, this.2⟩
 ·rw [set_nodup_keys hi]; exact h.2
theorem StW.set {w w' : World} (h : StW X L Φ w) {i b : Nat} {o u : Obj} (hi : L[i]? = some (b, o)) (hb : w'.heap[b]? = some u) (hoth : ∀ k, k ≠ b → w'.heap[k]? = w.heap[k]?)
  (hos : w'.os = w.os) (ht : w'.tape = w.tape) (hout : w'.output = w.output) (hsz : w'.heap.size = w.heap.size) : StW X (L.set i (b, u)) Φ w' :=
 let ⟨p, hp⟩ := h
 have hm := List.mem_of_getElem? hi
 ⟨p, ⟨hp.facts, fun k o' e => by
   have : k ≠ b := fun e' => by subst e'; rw [(hp.own.1 _ hm).2] at e; cases e
   rw [hoth _ this]; exact hp.sub k o' e, hp.le, hp.dom, hp.own.set hi hb hoth, fun e he => by
   obtain ⟨k, hk⟩ := List.mem_iff_getElem?.1 he
   rw [List.getElem?_set] at hk
   by_cases hik : i = k
   ·subst hik
    have := (List.getElem?_eq_some_iff.1 hi).1
    simp [this] at hk
    subst hk
    exact hp.may (b, o) hm
   ·rw [if_neg hik] at hk
    exact hp.may _ (List.mem_of_getElem? hk),
  ⟨hos.trans hp.kept.os, ht.trans hp.kept.tape, hout.trans hp.kept.output, by rw [hsz]; exact hp.kept.size, fun k hk hm' => by
   have hne : k ≠ b := by
    rintro rfl
    rcases hp.may (k, o) hm with h1 | h1
    ·exact hm' h1
    ·simp only at h1; omega
   rw [hoth k hne]; exact hp.kept.block k hk hm'⟩, fun d hd => by
   obtain ⟨h1, h2, h3, h4⟩ := hp.res d hd
   refine ⟨by rw [hoth d.1 (fun e' => h3 _ hm e'.symm)]; exact h1, h2, fun e he => ?_, h4⟩
   obtain ⟨k, hk⟩ := List.mem_iff_getElem?.1 he
   rw [List.getElem?_set] at hk
   by_cases hik : i = k
   ·subst hik
    have := (List.getElem?_eq_some_iff.1 hi).1
    simp [this] at hk
    subst hk
    exact h3 (b, o) hm
   ·rw [if_neg hik] at hk
    exact h3 _ (List.mem_of_getElem? hk)⟩⟩

def putCells (cs us : List Value) (off : Nat) : List Value := cs.take off ++ us ++ cs.drop (off + us.length)
theorem tri_store {o : Oper} {T sz b off TT : Nat} {agg : Bool} {x y : Operand} {v : Value} {cs us cs' : List Value} (hT : Ty P T sz agg) (ho : o.op = .store T x y) (hx : ev E x = some (.pointer (some ⟨b, off, none⟩))) (hy : ev E y = some v)
  (i : Nat) (hL : L[i]? = some (bx b cs TT)) (hv : v.cells = us.toArray) (hn : us.length = sz) (hb : us.all (·.oneCell') = true) (hc : putCells cs us off = cs') (hl : Nat.ble (off + sz) cs.length = true) :
  Tri P n X o E L Φ Unit (fun _ => undef) (fun _ => L.set i (bx b cs' TT)) (fun _ => Φ) := by
 intro a w K Q hs hk
 obtain ⟨p, hp⟩ := hs.world
 have hg : w.heap[b]? = some (.cells cs.toArray TT (0, 0)) := own_heap hp hL
 have hl' : off + us.length ≤ cs.length := by rw [hn]; exact Nat.le_of_ble_eq_true hl
 have hst := run_storeCells_at P b off TT us 0 cs.toArray w hg (by simpa using hl') (fun v hv => by simpa using List.all_eq_true.1 hb v hv)
 have hr : (execOp a.eval o).run P w = .ok .skip (w.setRow b cs'.toArray) := by
  have hsv : (storeVar T ⟨b, off, none⟩ v).run P w = .ok () (w.setRow b cs'.toArray) := by
   have hst' : (storeCells ⟨b, off, none⟩ us).run P w = .ok () (w.setRow b cs'.toArray) := by rw [hst, ← hc]; simp [putCells]
   simp only [storeVar, Sem.run_bind, hT.size, Result.andThen_ok, hv, List.size_toArray, hn, ne_eq, not_true_eq_false, if_false, hst']
  simp [execOp, ho, ev_eval hs.has hx, ev_eval hs.has hy, Instr.storeAt, Instr.sureAddr, hsv]
 refine up_in (by rw [ho]; rfl) ?_
 unfold Oper.wp
 rw [hr]
 refine hk () _ (hs.world.set hL (setRow_heap w b _ _ TT (0, 0) hg) (fun k hk => setRow_other w b k _ hk) rfl rfl rfl (by simp))

/-! ### Forgetting, freezing -/
def mask {α : Type} : List Bool → List α → List α
 | true :: m, x :: xs => x :: mask m xs
 | false :: m, _ :: xs => mask m xs
 | _, _ => []
theorem mask_sub {α : Type} : ∀ (m : List Bool) (xs : List α), (mask m xs).Sublist xs
 | true :: m, x :: xs => (mask_sub m xs).cons_cons x
 | false :: m, x :: xs => (mask_sub m xs).cons x
 | [], _ => List.nil_sublist _
 | true :: _, [] => List.nil_sublist _
 | false :: _, [] => List.nil_sublist _
theorem mk {α : Type} {L L' : List α} (m : List Bool) (h : mask m L = L') : L'.Sublist L := h ▸ mask_sub m L
theorem OwnIn.sub {p : Hp} {w : World} (h : OwnIn L p w) (hs : L'.Sublist L) : OwnIn L' p w := ⟨fun e he => h.1 e (hs.subset he), (hs.map Prod.fst).nodup h.2⟩
theorem StW.sub {w : World} (h : StW X L Φ w) (hs : L'.Sublist L) : StW X L' Φ w :=
 let ⟨p, hp⟩ := h; ⟨p, ⟨hp.facts, hp.sub, hp.le, hp.dom, hp.own.sub hs, fun e he => hp.may e (hs.subset he), hp.kept, fun d hd => let ⟨h1, h2, h3, h4⟩ := hp.res d hd; ⟨h1, h2, fun e he => h3 e (hs.subset he), h4⟩⟩⟩
theorem pick_mem {α : Type} {xs ys : List α} {is : List Nat} (h : is.mapM (xs[·]?) = some ys) : ∀ y ∈ ys, y ∈ xs := by
 induction is generalizing ys with
 | nil => simp at h; subst h; intro y hy; cases hy
 | cons i is ih =>
  simp only [List.mapM_cons, Option.bind_eq_bind, Option.bind_eq_some_iff] at h
  obtain ⟨v, hv, us, hus, h⟩ := h
  simp only [Option.pure_def, Option.some.injEq] at h
  subst h
  intro y hy
  rcases List.mem_cons.1 hy with rfl | hy
  ·exact List.mem_of_getElem? hv
  ·exact ih hus y hy
/-- Facts that follow. -/
def Foll (Φ Φ' : List Pers) : Prop := ∀ p : Hp, (∀ q ∈ Φ, q.p p) → ∀ q ∈ Φ', q.p p
theorem Foll.pick (is : List Nat) (h : is.mapM (Φ[·]?) = some Φ') : Foll Φ Φ' := fun _ hp q hq => hp q (pick_mem h q hq)
theorem Foll.nil : Foll Φ [] := fun _ _ _ h => by cases h
theorem Foll.refl : Foll Φ Φ := fun _ h => h
theorem Foll.cons {q : Pers} (hq : ∀ p : Hp, (∀ q ∈ Φ, q.p p) → q.p p) (h : Foll Φ Φ') : Foll Φ (q :: Φ') := fun p hp q' hq' => by
 rcases List.mem_cons.1 hq' with rfl | hq'
 ·exact hq p hp
 ·exact h p hp q' hq'
theorem StW.foll {w : World} (h : StW X L Φ w) (hf : Foll Φ Φ') : StW X L Φ' w := let ⟨p, hp⟩ := h; ⟨p, ⟨hf p hp.facts, hp.sub, hp.le, hp.dom, hp.own, hp.may, hp.kept, hp.res⟩⟩
/-- An owned block does not turn any more: from now on it is a fact. -/
theorem StW.freeze {w : World} (h : StW X L Φ w) {i b : Nat} {o : Obj} (hi : L[i]? = some (b, o)) : StW X (L.eraseIdx i) (blk b o :: Φ) w := by
 obtain ⟨p, hp⟩ := h
 have hm := List.mem_of_getElem? hi
 have hb := hp.own.1 _ hm
 have hnot : ∀ e ∈ L.eraseIdx i, e.1 ≠ b := by
  intro e he hb'
  obtain ⟨k, hk⟩ := List.mem_iff_getElem?.1 he
  rw [List.getElem?_eraseIdx] at hk
  obtain ⟨e1, e2⟩ := e
  simp only at hb'
  subst hb'
  split at hk
  ·have := key_unique hp.own.2 hi hk; omega
  ·have := key_unique hp.own.2 hi hk; omega
 refine ⟨fun k => if k = b then some o else p k, ⟨?_, ?_, ?_, ?_, ?_, ?_, hp.kept, fun d hd => let ⟨h1, h2, h3, h4⟩ := hp.res d hd; ⟨h1, by simp only [if_neg (fun e' : d.1 = b => h3 _ hm e'.symm)]; exact h2, fun e he => h3 e ((List.eraseIdx_sublist _ _).subset he), h4⟩⟩⟩
 ·have hle : p.le (fun k => if k = b then some o else p k) := fun k u e => by
   have : k ≠ b := fun e' => by subst e'; rw [hb.2] at e; cases e
   simp only [if_neg this]; exact e
  intro q hq
  rcases List.mem_cons.1 hq with rfl | hq
  ·simp [blk]
  ·exact q.mono hle (hp.facts q hq)
 ·intro k u e
  by_cases hk : k = b
  ·subst hk; simp at e; subst e; exact hb.1
  ·simp only [if_neg hk] at e; exact hp.sub k u e
 ·intro k u e
  have := hp.le k u e
  have hk : k ≠ b := fun e' => by subst e'; rw [hb.2] at this; cases this
  simp only [if_neg hk]; exact this
 ·intro k hk
  by_cases hkb : k = b
  ·subst hkb; exact .inr (hp.may _ hm)
  ·simp only [if_neg hkb] at hk; exact hp.dom k hk
 ·exact ⟨fun e he => ⟨((hp.own.sub (List.eraseIdx_sublist _ _)).1 e he).1, by simp only [if_neg (hnot e he)]; exact (hp.own.1 e ((List.eraseIdx_sublist _ _).subset he)).2⟩, (hp.own.sub (List.eraseIdx_sublist _ _)).2⟩
 ·exact fun e he => hp.may e ((List.eraseIdx_sublist _ _).subset he)
end
end Go.Fen

