import Derived.WalkKit
import Derived.BigQuiet
import Derived.Deep.QuietTactic
import Derived.Sort.QuietThIn
import Derived.Sort.LoopGhostIn
import Derived.LoopNIn
import Derived.RangeFuncNested
set_option linter.unusedVariables false
set_option linter.unusedSimpArgs false
namespace Go.Fen
open Go Go.RowKit

/-! ### What is known of memory that does not turn any more -/
abbrev Hp := Nat → Option Obj
def Hp.le (h h' : Hp) : Prop := ∀ b o, h b = some o → h' b = some o
def Hp.sub (h : Hp) (w : World) : Prop := ∀ b o, h b = some o → w.heap[b]? = some o
theorem Hp.le_refl (h : Hp) : h.le h := fun _ _ e => e
theorem Hp.le_trans {a b c : Hp} (h : a.le b) (k : b.le c) : a.le c := fun i o e => k i o (h i o e)

structure Pers where
 p : Hp → Prop
 mono : ∀ {h h' : Hp}, h.le h' → p h → p h'

abbrev Own := List (Nat × Obj)
abbrev Env := List (Nat × Value)

/-- Where a call stands: the world in which it began, what was known of it, the blocks that it may turn; whether it is a round of a loop over a function; the blocks that its own loops over functions have laid. -/
structure Cx where
 w0 : World
 h0 : Hp
 M : List Nat
 rho : Option Nat
 D : List (Nat × Obj)
/-- No fence, but for the round. -/
def FW (ρ : Option Nat) : Fence := { fn := fun _ => True, depth := none, alive := false, round := ρ }
theorem calls_FW {ρ : Option Nat} {k : Nat} {P : Program} {f : FuncId} {args : Array Value} {w : World} {R : Ending → World → Prop} (h : Calls P f args w R) : CallsIn (FW ρ) k P f args w R :=
 (callsIn_wide (n := k)).2 h
theorem rows_FW {ρ : Option Nat} {k : Nat} {P : Program} {row : String} {args : Array Value} {w : World} {R : Value → World → Prop} (h : Rows P row args w R) : RowsIn (FW ρ) k P row args w R :=
 fun c cs _ => let ⟨v, w', hR, hs⟩ := h c cs; ⟨v, w', hR, stepsIn_wide.2 hs⟩
theorem FW_depth {ρ : Option Nat} {k : Nat} : (FW ρ).depth.isSome = true → 1 ≤ k := fun h => by simp [FW] at h
def isDefer : Op → Bool
 | .defer _ => true
 | _ => false
theorem up_in {ρ : Option Nat} {P : Program} {o : Oper} {a : Act} {w : World} {K : Act → World → Prop} {Q : Exit → Act → World → Prop} (hd : isDefer o.op = false) (h : o.wp P a w K Q) : o.wpIn (FW ρ) 0 P a w K Q := by
 refine ⟨fun _ _ => trivial, ?_⟩
 rw [Oper.semAt_eq _ _ _ (fun c hc => by rw [hc] at hd; cases hd)]
 unfold Oper.wp at h
 revert h
 generalize (execOp a.eval o).run P w = r
 intro h
 cases r with
 | ok x w' =>
  cases x with
  | value v => exact h
  | skip => exact h
  | defer d => exact h
  | enter f args => exact ⟨FW_depth, calls_FW h⟩
  | row row args => exact ⟨FW_depth, rows_FW h⟩
  | _ => exact h.elim
 | halt x w' => cases x <;> first | exact h | exact h.elim
def mark (d : Nat) : Deferred := { target := .collected d, args := #[] }
/-- The marks on a call's deferred calls: a round has none of its own. -/
def Cx.marks (X : Cx) : List Deferred := match X.rho with | none => X.D.map (mark ·.1) | some _ => []

structure KeptBut (M : List Nat) (w w' : World) : Prop where
 os : w'.os = w.os
 tape : w'.tape = w.tape
 output : w'.output = w.output
 size : w.heap.size ≤ w'.heap.size
 block : ∀ k, k < w.heap.size → k ∉ M → w'.heap[k]? = w.heap[k]?
theorem KeptBut.refl (M : List Nat) (w : World) : KeptBut M w w := ⟨rfl, rfl, rfl, Nat.le_refl _, fun _ _ _ => rfl⟩
theorem KeptBut.below {w w' : World} (h : KeptBut [] w w') : Below w.heap.size w w' := ⟨h.os, h.tape, h.output, h.size, fun k hk => h.block k hk (by simp)⟩
theorem KeptBut.trans {M : List Nat} {a b c : World} (h : KeptBut M a b) (k : KeptBut M b c) : KeptBut M a c :=
 ⟨k.os.trans h.os, k.tape.trans h.tape, k.output.trans h.output, Nat.le_trans h.size k.size, fun i hi hm => (k.block i (Nat.lt_of_lt_of_le hi h.size) hm).trans (h.block i hi hm)⟩

/-- The owned blocks lie in the world, and nothing is known of them beside. -/
def OwnIn (L : Own) (h : Hp) (w : World) : Prop := (∀ e ∈ L, w.heap[e.1]? = some e.2 ∧ h e.1 = none) ∧ (L.map Prod.fst).Nodup

structure StH (X : Cx) (L : Own) (Φ : List Pers) (h : Hp) (w : World) : Prop where
 facts : ∀ q ∈ Φ, q.p h
 sub : h.sub w
 le : X.h0.le h
 dom : ∀ b, h b ≠ none → X.h0 b ≠ none ∨ (b ∈ X.M ∨ X.w0.heap.size ≤ b)
 own : OwnIn L h w
 may : ∀ e ∈ L, e.1 ∈ X.M ∨ X.w0.heap.size ≤ e.1
 kept : KeptBut X.M X.w0 w
 res : ∀ d ∈ X.D, w.heap[d.1]? = some d.2 ∧ h d.1 = none ∧ (∀ e ∈ L, e.1 ≠ d.1) ∧ (X.w0.heap.size ≤ d.1 ∨ d.1 ∈ X.M)

def StW (X : Cx) (L : Own) (Φ : List Pers) (w : World) : Prop := ∃ h, StH X L Φ h w

def Has (a : Act) (E : Env) : Prop := ∀ t v, E.lookup t = some v → a.tmps[t]? = some v
structure St (n : Nat) (X : Cx) (E : Env) (L : Own) (Φ : List Pers) (a : Act) (w : World) : Prop where
 size : a.tmps.size = n
 defers : a.defers = X.marks
 has : Has a E
 world : StW X L Φ w

def ev (E : Env) : Operand → Option Value
 | .tmp t => E.lookup t
 | .const v => some v
 | .global g => some (.pointer (some ⟨g, 0, none⟩))
 | .func f => some (.func (.func f) #[] #[])

theorem ev_eval {a : Act} {E : Env} (h : Has a E) {x : Operand} {v : Value} (e : ev E x = some v) : a.eval x = v := by
 cases x with
 | tmp t => have := h t v e; simp [Act.eval, this]
 | const u => simp [ev] at e; simp [Act.eval, e]
 | global g => simp [ev] at e; simp [Act.eval, e]
 | func f => simp [ev] at e; simp [Act.eval, e]

theorem Has.put {a : Act} {E : Env} (h : Has a E) {d : Nat} (hd : d < a.tmps.size) (v : Value) : Has (a.put (some d) v) ((d, v) :: E) := by
 intro t u e
 simp only [Act.put]
 by_cases ht : t = d
 ·subst ht
  simp [List.lookup] at e
  simp [hd, e]
 ·have : (t == d) = false := by simpa using ht
  simp only [List.lookup, this] at e
  rw [Array.getElem?_setIfInBounds, if_neg (fun e => ht e.symm)]
  exact h t u e
theorem Act.put_size (a : Act) (d : Option Nat) (v : Value) : (a.put d v).tmps.size = a.tmps.size := by cases d <;> simp [Act.put]
theorem Act.put_defers' (a : Act) (d : Option Nat) (v : Value) : (a.put d v).defers = a.defers := by cases d <;> rfl

/-- What is written behind an operation without a place. -/
def Env.put (E : Env) (d : Option Nat) (v : Value) : Env := match d with | some d => (d, v) :: E | none => E
def okDst (n : Nat) : Option Nat → Bool | some d => Nat.blt d n | none => true
theorem St.put {n : Nat} {X : Cx} {E : Env} {L L' : Own} {Φ Φ' : List Pers} {a : Act} {w w' : World} (h : St n X E L Φ a w) {d : Option Nat} (hd : okDst n d = true) (v : Value) (hw : StW X L' Φ' w') : St n X (Env.put E d v) L' Φ' (a.put d v) w' := by
 refine ⟨by rw [Act.put_size, h.size], by rw [Act.put_defers', h.defers], ?_, hw⟩
 cases d with
 | none => exact h.has
 | some d => exact h.has.put (by rw [h.size]; simpa [okDst, Nat.blt_eq] using hd) v

/-! ### Judgements -/
section
variable (P : Program) (n : Nat) (X : Cx)
/-- From every state that fits, the code comes to Q. -/
def J (c : Code) (Q : Exit → Act → World → Prop) (E : Env) (L : Own) (Φ : List Pers) : Prop := ∀ a w, St n X E L Φ a w → c.wpIn (FW X.rho) 0 P Q a w
def JQ (K : Act → World → Prop) (E : Env) (L : Own) (Φ : List Pers) : Prop := ∀ a w, St n X E L Φ a w → K a w
/-- The m operations from number i on; what stands behind them comes to K. -/
def JI (ops : Array Oper) (i m : Nat) (K : Act → World → Prop) (Q : Exit → Act → World → Prop) (E : Env) (L : Own) (Φ : List Pers) : Prop :=
 ∀ a w, St n X E L Φ a w → wpListIn (FW X.rho) 0 P ops (Exit.then K Q) ((ops.toList.drop i).take m) a w
end

section
variable {P : Program} {n : Nat} {X : Cx} {K : Act → World → Prop} {Q : Exit → Act → World → Prop} {E E' : Env} {L L' : Own} {Φ Φ' : List Pers}

theorem J_seq {x y : Code} (h : J P n X x (Exit.then (fun a w => y.wpIn (FW X.rho) 0 P Q a w) Q) E L Φ) : J P n X (.seq x y) Q E L Φ := fun a w hs => wpIn_seq (h a w hs)
theorem then_normal (Q : Exit → Act → World → Prop) : Exit.then (Q .normal) Q = Q := by funext e a w; cases e <;> rfl
theorem J_region {id : Nat} {ops : Array Oper} (m : Nat) (hm : ops.size = m) (h : JI P n X ops 0 m (Q .normal) Q E L Φ) : J P n X (.region id ops false) Q E L Φ := fun a w hs => wpIn_region_list (by
 have := h a w hs
 rw [then_normal, List.drop_zero, List.take_of_length_le (by simp [← hm])] at this
 exact this)
theorem J_skip (h : JQ n X (Q .normal) E L Φ) : J P n X .skip Q E L Φ := fun a w hs => wpIn_skip (h a w hs)
theorem J_block {id : Nat} {c : Code} (h : J P n X c (Exit.inBlock id Q) E L Φ) : J P n X (.block id c) Q E L Φ := fun a w hs => wpIn_block (h a w hs)
theorem J_exit {id : Nat} (h : JQ n X (Q (.exit id)) E L Φ) : J P n X (.exit id) Q E L Φ := fun a w hs => wpIn_exit (h a w hs)
theorem J_ret (h : JQ n X (Q .ret) E L Φ) : J P n X .ret Q E L Φ := fun a w hs => wpIn_ret (h a w hs)
theorem J_if {c : Operand} {x y : Code} {g : Bool} (hc : ev E c = some (.bool g)) (h1 : g = true → J P n X x Q E L Φ) (h2 : g = false → J P n X y Q E L Φ) : J P n X (.cond c x y) Q E L Φ :=
 fun a w hs => wpIn_cond_split (ev_eval hs.has hc) (fun e => h1 e a w hs) (fun e => h2 e a w hs)
theorem J_yes {c : Operand} {x y : Code} (hc : ev E c = some (.bool true)) (h1 : J P n X x Q E L Φ) : J P n X (.cond c x y) Q E L Φ := J_if hc (fun _ => h1) (fun e => by cases e)
theorem J_no {c : Operand} {x y : Code} (hc : ev E c = some (.bool false)) (h1 : J P n X y Q E L Φ) : J P n X (.cond c x y) Q E L Φ := J_if hc (fun e => by cases e) (fun _ => h1)

theorem JI_end {ops : Array Oper} {i : Nat} (h : JQ n X K E L Φ) : JI P n X ops i 0 K Q E L Φ := fun a w hs => by
 rw [List.take_zero]; exact wpListIn_nil (h a w hs)

/-- An operation's outcome, told by the states that may stand behind it. -/
def Tri (P : Program) (n : Nat) (X : Cx) (o : Oper) (E : Env) (L : Own) (Φ : List Pers) (α : Type) (val : α → Value) (L' : α → Own) (Φ' : α → List Pers) : Prop :=
 ∀ a w (K : Act → World → Prop) (Q : Exit → Act → World → Prop), St n X E L Φ a w → (∀ x w', StW X (L' x) (Φ' x) w' → K (a.put o.dst (val x)) w') → o.wpIn (FW X.rho) 0 P a w K Q

/-- Is the operation carried out? -/
def runs (ops : Array Oper) (o : Oper) (E : Env) : Option Bool :=
 match o.guard with
 | none => some true
 | some (j, want) => match ((ops[j]?).bind (·.dst)).bind (E.lookup ·) with
  | some (.bool b) => some (b == want)
  | some (.tuple _) => some false
  | _ => none
theorem runs_wanted {ops : Array Oper} {o : Oper} {a : Act} {b : Bool} (hh : Has a E) (h : runs ops o E = some b) : Region.wanted o (yielded ops a.tmps) = b := by
 unfold runs at h
 unfold Region.wanted
 split at h
 ·simp_all
 ·rename_i j want hg
  simp only [hg]
  split at h
  ·rename_i c hc
   obtain ⟨d, hd, hc'⟩ := Option.bind_eq_some_iff.1 hc
   have := hh d _ hc'
   simp only [Option.some.injEq] at h
   simp only [yielded, hd, Option.bind_some, this]
   rw [← h]
   cases c <;> cases want <;> rfl
  ·rename_i vs hc
   obtain ⟨d, hd, hc'⟩ := Option.bind_eq_some_iff.1 hc
   have := hh d _ hc'
   simp only [Option.some.injEq] at h
   simp only [yielded, hd, Option.bind_some, this]
   rw [← h]
   rfl
  ·cases h

theorem drop_cons {ops : Array Oper} {i : Nat} {o : Oper} (h : ops[i]? = some o) : ops.toList.drop i = o :: ops.toList.drop (i + 1) := by
 have hi : i < ops.toList.length := by
  rcases Nat.lt_or_ge i ops.size with h' | h'
  ·simpa using h'
  ·rw [Array.getElem?_eq_none h'] at h; cases h
 rw [List.drop_eq_getElem_cons hi]
 congr 1
 have : ops[i]? = some (ops.toList[i]) := by rw [Array.getElem?_eq_getElem (by simpa using hi)]; rfl
 rw [this] at h; exact Option.some.inj h

theorem JI_tri {ops : Array Oper} {i m : Nat} {o : Oper} {α : Type} {val : α → Value} {L' : α → Own} {Φ' : α → List Pers} (ho : ops[i]? = some o) (hg : runs ops o E = some true) (hd : okDst n o.dst = true)
  (ht : Tri P n X o E L Φ α val L' Φ') (h : ∀ x, JI P n X ops (i + 1) m K Q (Env.put E o.dst (val x)) (L' x) (Φ' x)) : JI P n X ops i (m + 1) K Q E L Φ := by
 intro a w hs
 rw [drop_cons ho, List.take_succ_cons]
 refine wpListIn_step fun K hK => ?_
 rw [if_pos (runs_wanted hs.has hg)]
 exact ht a w K _ hs fun x w' hw' => hK _ _ (h x _ _ (hs.put hd _ hw'))

theorem JI_pass {ops : Array Oper} {i m : Nat} {o : Oper} (ho : ops[i]? = some o) (hg : runs ops o E = some false) (hd : okDst n o.dst = true)
  (h : JI P n X ops (i + 1) m K Q (Env.put E o.dst undef) L Φ) : JI P n X ops i (m + 1) K Q E L Φ := by
 intro a w hs
 rw [drop_cons ho, List.take_succ_cons]
 refine wpListIn_step fun K hK => ?_
 rw [if_neg (by rw [runs_wanted hs.has hg]; simp)]
 exact ⟨fun _ _ => trivial, hK _ _ (h _ _ (hs.put hd _ hs.world))⟩

/-- ONE VALUE, IN EVERY WORLD THAT FITS, AND THE WORLD FITS BEHIND IT TOO: such operations serve in whatever order. -/
def Det (P : Program) (X : Cx) (o : Oper) (E : Env) (L : Own) (Φ : List Pers) (v : Value) : Prop := ∀ a, Has a E → ∀ w, StW X L Φ w → o.quietAt P a (StW X L Φ) w v

theorem Det.tri {o : Oper} {v : Value} (h : Det P X o E L Φ v) : Tri P n X o E L Φ Unit (fun _ => v) (fun _ => L) (fun _ => Φ) := by
 intro a w K Q' hs hk
 have hq := h a hs.has w hs.world
 have hnd : isDefer o.op = false := by
  cases ho : o.op with
  | defer c =>
   exfalso
   unfold Oper.quietAt at hq
   have : (execOp a.eval o).run P w = Result.andThen ((resolve a.eval c o.type).run P w) fun d => (pure (Next.defer d) : Sem Next).run P := by
    simp [execOp, ho]
    rfl
   rw [this] at hq
   cases hr : (resolve a.eval c o.type).run P w with
   | ok d w' => rw [hr] at hq; exact hq.elim
   | halt x w' => rw [hr] at hq; exact hq.elim
  | _ => rfl
 refine up_in hnd ?_
 unfold Oper.quietAt Oper.quietUpon at hq
 unfold Oper.wp Oper.upon
 split at hq
 ·rename_i u w' hr; rw [hr]; obtain ⟨rfl, rfl⟩ := hq; exact hk () _ hs.world
 ·rename_i w' hr; rw [hr]; obtain ⟨rfl, rfl⟩ := hq; exact hk () _ hs.world
 ·rename_i f args w' hr; rw [hr]; obtain ⟨rfl, hc⟩ := hq
  exact hc.mono fun e w'' ⟨he, hw⟩ => by subst he; exact hk () _ hw
 ·exact hq.elim

theorem JI_det {ops : Array Oper} {i m : Nat} {o : Oper} {v : Value} (ho : ops[i]? = some o) (hg : runs ops o E = some true) (hd : okDst n o.dst = true)
  (ht : Det P X o E L Φ v) (h : JI P n X ops (i + 1) m K Q (Env.put E o.dst v) L Φ) : JI P n X ops i (m + 1) K Q E L Φ := JI_tri ho hg hd ht.tri fun _ => h

/-- What is known may be forgotten. -/
theorem Has.weaken {a : Act} (h : Has a E) (hE : ∀ e ∈ E', E.lookup e.1 = some e.2) : Has a E' := by
 intro t v e
 induction E' with
 | nil => simp [List.lookup] at e
 | cons x xs ih =>
  obtain ⟨t', v'⟩ := x
  by_cases ht : t = t'
  ·subst ht
   simp [List.lookup] at e
   subst e
   exact h _ _ (hE (t, v') (by simp))
  ·have : (t == t') = false := by simpa using ht
   simp only [List.lookup, this] at e
   exact ih (fun e' he' => hE e' (by simp [he'])) e
def sameAll (E : Env) : Env → Prop
 | [] => True
 | (t, v) :: rest => E.lookup t = some v ∧ sameAll E rest
theorem sameAll_spec : ∀ {E' : Env}, sameAll E E' → ∀ e ∈ E', E.lookup e.1 = some e.2
 | [], _, e, he => by cases he
 | (t, v) :: rest, h, e, he => by
  rcases List.mem_cons.1 he with rfl | he
  ·exact h.1
  ·exact sameAll_spec h.2 e he
theorem St.env {a : Act} {w : World} (h : St n X E L Φ a w) (hE : sameAll E E') : St n X E' L Φ a w := ⟨h.size, h.defers, h.has.weaken (sameAll_spec hE), h.world⟩
theorem StW.mono {w : World} (h : StW X L Φ w) (hΦ : ∀ q ∈ Φ', q ∈ Φ) : StW X L Φ' w := let ⟨p, hp⟩ := h; ⟨p, ⟨fun q hq => hp.facts q (hΦ q hq), hp.sub, hp.le, hp.dom, hp.own, hp.may, hp.kept, hp.res⟩⟩
/-- A further fact that follows from what is known. -/
theorem StW.fact {w : World} (h : StW X L Φ w) (q : Pers) (hq : ∀ p : Hp, (∀ q ∈ Φ, q.p p) → q.p p) : StW X L (q :: Φ) w :=
 let ⟨p, hp⟩ := h; ⟨p, ⟨fun q' hq' => by rcases List.mem_cons.1 hq' with rfl | hq'; exact hq _ hp.facts; exact hp.facts q' hq', hp.sub, hp.le, hp.dom, hp.own, hp.may, hp.kept, hp.res⟩⟩

theorem JI_fact {ops : Array Oper} {i m : Nat} (q : Pers) (hq : ∀ p : Hp, (∀ q ∈ Φ, q.p p) → q.p p) (h : JI P n X ops i m K Q E L (q :: Φ)) : JI P n X ops i m K Q E L Φ :=
 fun a w hs => h a w ⟨hs.size, hs.defers, hs.has, hs.world.fact q hq⟩
theorem J_env {c : Code} (E' : Env) (hE : sameAll E E') (h : J P n X c Q E' L Φ) : J P n X c Q E L Φ := fun a w hs => h a w (hs.env hE)

theorem Has.lit {a : Act} (ha : Has a E) {t : Nat} {g b : Bool} (ht : E.lookup t = some (.bool g)) (hb : g = b) : Has a ((t, .bool b) :: E) := by
 intro t' v e
 by_cases he : t' = t
 ·subst he; simp [List.lookup] at e; subst e; rw [← hb]; exact ha _ _ ht
 ·have : (t' == t) = false := by simpa using he
  simp only [List.lookup, this] at e
  exact ha _ _ e
/-- A Bool that is not known: both ways. -/
theorem JI_cases {ops : Array Oper} {i m : Nat} (t : Nat) (g : Bool) (ht : E.lookup t = some (.bool g)) (h1 : g = true → JI P n X ops i m K Q ((t, .bool true) :: E) L Φ) (h2 : g = false → JI P n X ops i m K Q ((t, .bool false) :: E) L Φ) : JI P n X ops i m K Q E L Φ := by
 intro a w hs
 cases hg : g with
 | true => exact h1 hg a w ⟨hs.size, hs.defers, hs.has.lit ht hg, hs.world⟩
 | false => exact h2 hg a w ⟨hs.size, hs.defers, hs.has.lit ht hg, hs.world⟩

/-- A piece of a region, by itself; what stands behind it is said outright. -/
theorem uponIn_mono {F : Fence} {k : Nat} {o : Oper} {a : Act} {K K' : Act → World → Prop} {Q Q' : Exit → Act → World → Prop} (hK : ∀ a w, K a w → K' a w) (hQ : ∀ c a w, Q (.panic c) a w → Q' (.panic c) a w) (hO : LetsOut Q → LetsOut Q') {r : Result Next} (h : o.uponIn F k P a K Q r) : o.uponIn F k P a K' Q' r := by
 cases r with
 | ok x w' =>
  cases x with
  | value v => exact hK _ _ h
  | skip => exact hK _ _ h
  | defer d => exact hK _ _ h
  | enter f args => exact ⟨h.1, h.2.mono fun e w'' he => by
    cases e with
    | returned v => exact hK _ _ he
    | panicked chain => exact hQ _ _ _ he
    | outgrown => exact hO he⟩
  | row row args => exact ⟨h.1, h.2.mono fun v w'' he => hK _ _ he⟩
  | round l f tmps assign body => exact ⟨h.1, h.2.mono fun e w'' he => by
    cases e with
    | returned v => exact hK _ _ he
    | panicked chain => exact hQ _ _ _ he
    | outgrown => exact hO he⟩
  | _ => exact h.elim
 | halt x w' => cases x <;> first | exact hQ _ _ _ h | exact h.elim
theorem wpList_append {F : Fence} {k : Nat} {ops : Array Oper} {K : Act → World → Prop} : ∀ (l1 l2 : List Oper) (a : Act) (w : World), wpListIn F k P ops (Exit.then K Q) l1 a w → (∀ a w, K a w → wpListIn F k P ops Q l2 a w) → wpListIn F k P ops Q (l1 ++ l2) a w
 | [], _, a, w, h, hk => hk a w h
 | o :: l1, l2, a, w, h, hk => by
  simp only [List.cons_append, wpListIn] at h ⊢
  have ih := fun a w h => wpList_append l1 l2 a w h hk
  split
  ·rename_i hw
   rw [if_pos hw] at h
   exact ⟨h.1, uponIn_mono (fun a w h => ih a w h) (fun c a w h => h) (fun h => h) h.2⟩
  ·rename_i hw
   rw [if_neg hw] at h
   exact ⟨h.1, ih _ _ h.2⟩

theorem then_then (K K' : Act → World → Prop) (Q : Exit → Act → World → Prop) : Exit.then K (Exit.then K' Q) = Exit.then K Q := by funext e a w; cases e <;> rfl
/-- The first k operations by themselves; then the other m. -/
theorem JI_cut {ops : Array Oper} {i : Nat} (k m : Nat) (E1 : Env) (L1 : Own) (Φ1 : List Pers) (h : JI P n X ops i k (fun a w => St n X E1 L1 Φ1 a w) Q E L Φ) (h2 : JI P n X ops (i + k) m K Q E1 L1 Φ1) : JI P n X ops i (k + m) K Q E L Φ := by
 intro a w hs
 rw [List.take_add, List.drop_drop]
 refine wpList_append (K := fun a w => St n X E1 L1 Φ1 a w) _ _ a w ?_ fun a w hs' => h2 a w hs'
 rw [then_then]
 exact h a w hs
end
end Go.Fen

