import Derived.Test.YtinkdfnpmoljfaaGreatDoorFenI
set_option linter.unusedVariables false
set_option linter.unusedSimpArgs false
namespace Go.Fen
open Go Go.RowKit
/-! ### Short words for long walks -/
abbrev iv (n : Int) : Value := .int .i64 n
abbrev bv (b : Bool) : Value := .bool b
abbrev pt (b o : Nat) : Value := .pointer (some ⟨b, o, none⟩)
abbrev pa (a : Addr) : Value := .pointer (some a)
abbrev sv (l : List UInt8) : Value := .string (bs l)
section
variable {P : Program} {n : Nat} {X : Cx} {K : Act → World → Prop} {Q : Exit → Act → World → Prop} {E E' : Env} {L L' : Own} {Φ Φ' : List Pers}
def hasKey (E : Env) (t : Nat) : Bool := match E.lookup t with | some _ => true | none => false
/-- Every slot that the operations i .. i+k-1 write is named by 'new', or nothing was known of it. -/
def okNew (ops : Array Oper) (E new : Env) : Nat → Nat → Bool
 | 0, _ => true
 | k + 1, i => (match (ops[i]?).bind (·.dst) with
  | some d => hasKey new d || !hasKey E d
  | none => true) && okNew ops E new k (i + 1)
theorem lookup_append (A B : Env) (t : Nat) : (A ++ B).lookup t = match A.lookup t with | some v => some v | none => B.lookup t := by
 induction A with
 | nil => rfl
 | cons p A ih =>
  obtain ⟨u, v⟩ := p
  by_cases h : t = u
  ·subst h; simp [List.lookup]
  ·have : (t == u) = false := by simpa using h
   simp only [List.cons_append, List.lookup, this]; exact ih
theorem runPure_old {ops : Array Oper} {new : Env} {t : Nat} {v : Value} (E0 : Env) (h0 : E0.lookup t = some v) (hn : new.lookup t = none) : ∀ (k i : Nat) {E R : Env}, okNew ops E0 new k i = true → runPure P n ops k i E = some R → E.lookup t = some v → R.lookup t = some v
 | 0, i, E, R, _, h, he => by simp [runPure] at h; subst h; exact he
 | k + 1, i, E, R, hk, h, he => by
  unfold runPure at h
  unfold okNew at hk
  simp only [Bool.and_eq_true] at hk
  split at h
  ·rename_i o ho
   split at h
   ·rename_i E1 h1
    refine runPure_old E0 h0 hn k (i + 1) hk.2 h ?_
    have hd : o.dst ≠ some t := by
     intro hd
     have := hk.1
     simp only [ho, Option.bind_some, hd, hasKey, hn, h0] at this
     simp at this
    have put : ∀ u, (Env.put E o.dst u).lookup t = some v := by
     intro u
     cases hdst : o.dst with
     | none => exact he
     | some d =>
      have : (t == d) = false := by simp; intro e; exact hd (by rw [hdst, e])
      simp only [Env.put, List.lookup, this]; exact he
    unfold stepPure at h1
    split at h1
    ·split at h1
     ·simp only [Option.some.injEq] at h1; subst h1; exact put _
     ·cases h1
    ·simp only [Option.some.injEq] at h1; subst h1; exact put _
    ·cases h1
   ·cases h
  ·cases h
/-- What the run leaves in the slots that 'new' names; the others are as they were. -/
def pureN (P : Program) (n : Nat) (ops : Array Oper) (k i : Nat) (E new : Env) : Option Env := if okNew ops E new k i then pureTo P n ops k i E new else none
theorem pureN_has {ops : Array Oper} {k i : Nat} {new : Env} (h : pureN P n ops k i E new = some new) : ∃ R, runPure P n ops k i E = some R ∧ ∀ a, Has a R → Has a (new ++ E) := by
 unfold pureN at h
 split at h
 ·rename_i hk
  unfold pureTo at h
  split at h
  ·rename_i R hR
   refine ⟨R, hR, fun a ha t v e => ?_⟩
   rw [lookup_append] at e
   split at e
   ·rename_i u hu
    exact (ha.weaken (sameAll_spec (keep_same h))) t v (by rw [hu]; exact e)
   ·rename_i hu
    exact ha t v (runPure_old E e hu k i hk hR e)
  ·cases h
 ·cases h
theorem ip {ops : Array Oper} {i : Nat} (k m : Nat) (new : Env) (h : pureN P n ops k i E new = some new) (g : JI P n X ops (i + k) m K Q (new ++ E) L Φ) : JI P n X ops i (k + m) K Q E L Φ := by
 obtain ⟨R, hR, hh⟩ := pureN_has h
 exact JI_run k i hR fun a w hs => g a w ⟨hs.size, hs.defers, hh a hs.has, hs.world⟩
theorem dp {ops : Array Oper} {i : Nat} (k m : Nat) (new : Env) (h : pureN P n ops k i E new = some new) (g : JD P n X ops (i + k) m K (new ++ E) L Φ) : JD P n X ops i (k + m) K E L Φ := by
 obtain ⟨R, hR, hh⟩ := pureN_has h
 exact JD_run k i hR fun a h1 h2 ha => g a h1 h2 (hh a ha)
/-- The operation at hand: it is carried out, and its place is there. -/
def opAt (n : Nat) (ops : Array Oper) (i : Nat) (E : Env) : Option Oper :=
 match ops[i]? with
 | some o => if (runs ops o E == some true) && okDst n o.dst then some o else none
 | none => none
theorem opAt_spec {ops : Array Oper} {i : Nat} {o : Oper} (h : opAt n ops i E = some o) : ops[i]? = some o ∧ runs ops o E = some true ∧ okDst n o.dst = true := by
 unfold opAt at h
 split at h
 ·rename_i o' ho
  split at h
  ·rename_i hc
   simp only [Option.some.injEq] at h; subst h
   simp only [Bool.and_eq_true, beq_iff_eq] at hc
   exact ⟨ho, hc.1, hc.2⟩
  ·cases h
 ·cases h
theorem it {ops : Array Oper} {i m : Nat} {o : Oper} {α : Type} {val : α → Value} {L' : α → Own} {Φ' : α → List Pers} (ho : opAt n ops i E = some o) (ht : Tri P n X o E L Φ α val L' Φ')
  (h : ∀ x, JI P n X ops (i + 1) m K Q (Env.put E o.dst (val x)) (L' x) (Φ' x)) : JI P n X ops i (m + 1) K Q E L Φ := JI_tri (opAt_spec ho).1 (opAt_spec ho).2.1 (opAt_spec ho).2.2 ht h
theorem ix {ops : Array Oper} {i m : Nat} {o : Oper} {v : Value} (ho : opAt n ops i E = some o) (ht : DetR P X o E L Φ v)
  (h : JI P n X ops (i + 1) m K Q (Env.put E o.dst v) L Φ) : JI P n X ops i (m + 1) K Q E L Φ := JI_det (opAt_spec ho).1 (opAt_spec ho).2.1 (opAt_spec ho).2.2 ht.det h
theorem ixc {ops : Array Oper} {i m : Nat} {o : Oper} {v : Value} (ho : opAt n ops i E = some o) (ht : Det P X o E L Φ v)
  (h : JI P n X ops (i + 1) m K Q (Env.put E o.dst v) L Φ) : JI P n X ops i (m + 1) K Q E L Φ := JI_det (opAt_spec ho).1 (opAt_spec ho).2.1 (opAt_spec ho).2.2 ht h
theorem dd {ops : Array Oper} {i m : Nat} {o : Oper} {v : Value} (ho : opAt n ops i E = some o) (ht : DetR P X o E L Φ v)
  (h : JD P n X ops (i + 1) m K (Env.put E o.dst v) L Φ) : JD P n X ops i (m + 1) K E L Φ := JD_det (opAt_spec ho).1 (opAt_spec ho).2.1 (opAt_spec ho).2.2 ht.det h
/-- 'a && b', 'a || b': the other operand's operations by themselves. -/
theorem iand {ops : Array Oper} {i : Nat} (k m t p : Nat) {g : Bool} (x : Bool) (ht : E.lookup t = some (.bool g)) (hf : pureN P n ops k i ((t, .bool false) :: E) [(p, .bool false)] = some [(p, .bool false)])
  (h1 : g = true → JI P n X ops i k (fun a w => St n X ((p, .bool x) :: E) L Φ a w) Q ((t, .bool true) :: E) L Φ) (h : JI P n X ops (i + k) m K Q ((p, .bool (g && x)) :: E) L Φ) : JI P n X ops i (k + m) K Q E L Φ := by
 refine JI_cut k m ((p, .bool (g && x)) :: E) L Φ (JI_cases t g ht (fun e => ?_) (fun e => ?_)) h
 ·subst e; exact h1 rfl
 ·subst e
  refine ip k 0 _ hf (JI_end fun a w hs => ⟨hs.size, hs.defers, ?_, hs.world⟩)
  intro u v hu
  by_cases hup : u = p
  ·subst hup; simp [List.lookup] at hu; subst hu; exact hs.has _ _ (by simp [List.lookup])
  ·have hb : (u == p) = false := by simpa using hup
   simp only [List.lookup, hb] at hu
   by_cases hut : u = t
   ·subst hut; rw [ht] at hu; simp at hu; subst hu; exact hs.has _ _ (by simp [List.lookup, hb])
   ·have hc : (u == t) = false := by simpa using hut
    exact hs.has _ _ (by simp [List.lookup, hb, hc, hu])
theorem ior {ops : Array Oper} {i : Nat} (k m t p : Nat) {g : Bool} (x : Bool) (ht : E.lookup t = some (.bool g)) (hf : pureN P n ops k i ((t, .bool true) :: E) [(p, .bool true)] = some [(p, .bool true)])
  (h1 : g = false → JI P n X ops i k (fun a w => St n X ((p, .bool x) :: E) L Φ a w) Q ((t, .bool false) :: E) L Φ) (h : JI P n X ops (i + k) m K Q ((p, .bool (g || x)) :: E) L Φ) : JI P n X ops i (k + m) K Q E L Φ := by
 refine JI_cut k m ((p, .bool (g || x)) :: E) L Φ (JI_cases t g ht (fun e => ?_) (fun e => ?_)) h
 ·subst e
  refine ip k 0 _ hf (JI_end fun a w hs => ⟨hs.size, hs.defers, ?_, hs.world⟩)
  intro u v hu
  by_cases hup : u = p
  ·subst hup; simp [List.lookup] at hu; subst hu; exact hs.has _ _ (by simp [List.lookup])
  ·have hb : (u == p) = false := by simpa using hup
   simp only [List.lookup, hb] at hu
   by_cases hut : u = t
   ·subst hut; rw [ht] at hu; simp at hu; subst hu; exact hs.has _ _ (by simp [List.lookup, hb])
   ·have hc : (u == t) = false := by simpa using hut
    exact hs.has _ _ (by simp [List.lookup, hb, hc, hu])
 ·subst e; exact h1 rfl
theorem dor {ops : Array Oper} {i : Nat} (k m t p : Nat) {g : Bool} (x : Bool) (ht : E.lookup t = some (.bool g)) (hf : pureN P n ops k i ((t, .bool true) :: E) [(p, .bool true)] = some [(p, .bool true)])
  (h1 : g = false → JD P n X ops i k (fun a _ => a.tmps.size = n ∧ a.defers = X.marks ∧ Has a ((p, .bool x) :: E)) ((t, .bool false) :: E) L Φ) (h : JD P n X ops (i + k) m K ((p, .bool (g || x)) :: E) L Φ) : JD P n X ops i (k + m) K E L Φ := by
 refine JD_cut k m ((p, .bool (g || x)) :: E) (JD_cases t g ht (fun e => ?_) (fun e => ?_)) h
 ·subst e
  refine dp k 0 _ hf (JD_end fun a w hs => ⟨hs.size, hs.defers, ?_⟩)
  intro u v hu
  by_cases hup : u = p
  ·subst hup; simp [List.lookup] at hu; subst hu; exact hs.has _ _ (by simp [List.lookup])
  ·have hb : (u == p) = false := by simpa using hup
   simp only [List.lookup, hb] at hu
   by_cases hut : u = t
   ·subst hut; rw [ht] at hu; simp at hu; subst hu; exact hs.has _ _ (by simp [List.lookup, hb])
   ·have hc : (u == t) = false := by simpa using hut
    exact hs.has _ _ (by simp [List.lookup, hb, hc, hu])
 ·subst e; exact h1 rfl
/-- What was laid in front says nothing else of the older slots, but of t and p. -/
def fresh (E : Env) (t p : Nat) : Env → Bool
 | [] => true
 | (u, _) :: rest => (u == t || u == p || !hasKey E u) && fresh E t p rest
theorem arm_has {R : Env} (c t p : Nat) {v : Value} {g b : Bool} (hg : g = b) (hR : R.drop c = E) (hf : fresh E t p (R.take c) = true) (ht : E.lookup t = some (.bool g)) (htR : R.lookup t = some (.bool b)) (hp : R.lookup p = some v) {a : Act} (ha : Has a R) : Has a ((p, v) :: E) := by
 intro u x hu
 by_cases hup : u = p
 ·subst hup; simp [List.lookup] at hu; subst hu; exact ha _ _ hp
 ·have hb : (u == p) = false := by simpa using hup
  simp only [List.lookup, hb] at hu
  by_cases hut : u = t
  ·subst hut; rw [ht] at hu; simp at hu; subst hu; subst hg; exact ha _ _ htR
  ·refine ha _ _ ?_
   have key : ∀ A : Env, fresh E t p A = true → (A ++ E).lookup u = some x := by
    intro A
    induction A with
    | nil => intro _; exact hu
    | cons q A ih =>
     obtain ⟨u', v'⟩ := q
     intro h
     simp only [fresh, Bool.and_eq_true, Bool.or_eq_true, beq_iff_eq, Bool.not_eq_true'] at h
     have hne : (u == u') = false := by
      rcases h.1 with (h1 | h1) | h1
      ·subst h1; simpa using hut
      ·subst h1; simpa using hup
      ·by_cases e : u = u'
       ·subst e; simp [hasKey, hu] at h1
       ·simpa using e
     simp only [List.cons_append, List.lookup, hne]
     exact ih h.2
   rw [← List.take_append_drop c R, hR]
   exact key _ hf
/-- The end of an arm. -/
theorem armI {R : Env} (c t p : Nat) {v : Value} {g b : Bool} (hg : g = b) (hΦ : Foll Φ' Φ) (hL : List.Sublist L L') (hR : R.drop c = E) (hf : fresh E t p (R.take c) = true) (ht : E.lookup t = some (.bool g)) (htR : R.lookup t = some (.bool b)) (hp : R.lookup p = some v) : JQ n X (fun a w => St n X ((p, v) :: E) L Φ a w) R L' Φ' :=
 fun _ _ hs => ⟨hs.size, hs.defers, arm_has c t p hg hR hf ht htR hp hs.has, (hs.world.sub hL).foll hΦ⟩
theorem armD {R : Env} (c t p : Nat) {v : Value} {g b : Bool} (hg : g = b) (hR : R.drop c = E) (hf : fresh E t p (R.take c) = true) (ht : E.lookup t = some (.bool g)) (htR : R.lookup t = some (.bool b)) (hp : R.lookup p = some v) : JQ n X (fun a _ => a.tmps.size = n ∧ a.defers = X.marks ∧ Has a ((p, v) :: E)) R L Φ :=
 fun _ _ hs => ⟨hs.size, hs.defers, arm_has c t p hg hR hf ht htR hp hs.has⟩
/-! two in one -/
theorem sr {id : Nat} {ops : Array Oper} {y : Code} (m : Nat) (hm : ops.size = m) (h : JI P n X ops 0 m (fun a w => y.wpIn (FW X.rho) 0 P Q a w) (Exit.then (fun a w => y.wpIn (FW X.rho) 0 P Q a w) Q) E L Φ) : J P n X (.seq (.region id ops false) y) Q E L Φ := J_seq (J_region m hm h)
theorem sd {id : Nat} {ops : Array Oper} {y : Code} (m : Nat) (hM : P.follows .mixedOrders = true) (hB : Region.lexB .any ops = true) (hm : ops.size = m) (h : JD P n X ops 0 m (fun a w => y.wpIn (FW X.rho) 0 P Q a w) E L Φ) : J P n X (.seq (.region id ops true) y) Q E L Φ := J_seq (J_draw m hM hB hm h)
theorem ie {ops : Array Oper} {i : Nat} {y : Code} (h : J P n X y Q E L Φ) {Q' : Exit → Act → World → Prop} : JI P n X ops i 0 (fun a w => y.wpIn (FW X.rho) 0 P Q a w) Q' E L Φ := JI_end h
theorem de {ops : Array Oper} {i : Nat} {y : Code} (h : J P n X y Q E L Φ) : JD P n X ops i 0 (fun a w => y.wpIn (FW X.rho) 0 P Q a w) E L Φ := JD_end h
theorem nx {y : Code} (h : J P n X y Q E L Φ) : JQ n X (fun a w => y.wpIn (FW X.rho) 0 P Q a w) E L Φ := h
end
end Go.Fen

