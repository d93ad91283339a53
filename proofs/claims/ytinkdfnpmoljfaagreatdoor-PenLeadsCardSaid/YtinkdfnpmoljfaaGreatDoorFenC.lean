import Derived.Test.YtinkdfnpmoljfaaGreatDoorFenB
set_option linter.unusedVariables false
set_option linter.unusedSimpArgs false
namespace Go.Fen
open Go Go.RowKit

section
variable {P : Program} {n : Nat} {X : Cx} {K : Act → World → Prop} {Q : Exit → Act → World → Prop} {E E' : Env} {L L' : Own} {Φ Φ' : List Pers}

/-! ### A run of operations that only reckon, at one stroke -/
def stepPure (P : Program) (n : Nat) (ops : Array Oper) (o : Oper) (E : Env) : Option Env :=
 match runs ops o E, okDst n o.dst with
 | some true, true => match pureOp P E o.op with
  | some v => some (Env.put E o.dst v)
  | none => none
 | some false, true => some (Env.put E o.dst undef)
 | _, _ => none
def runPure (P : Program) (n : Nat) (ops : Array Oper) : Nat → Nat → Env → Option Env
 | 0, _, E => some E
 | m + 1, i, E => match ops[i]? with
  | some o => match stepPure P n ops o E with
   | some E' => runPure P n ops m (i + 1) E'
   | none => none
  | none => none
/-- The slots that E' names, as E has them. -/
def keep (E : Env) : Env → Option Env
 | [] => some []
 | (t, _) :: rest => match E.lookup t, keep E rest with
  | some v, some r => some ((t, v) :: r)
  | _, _ => none
theorem keep_same : ∀ {E' R : Env}, keep E E' = some R → sameAll E R
 | [], R, h => by simp [keep] at h; subst h; trivial
 | (t, u) :: rest, R, h => by
  unfold keep at h
  split at h
  ·rename_i v r hv hr
   simp only [Option.some.injEq] at h; subst h
   exact ⟨hv, keep_same hr⟩
  ·cases h
def pureTo (P : Program) (n : Nat) (ops : Array Oper) (m i : Nat) (E E' : Env) : Option Env := match runPure P n ops m i E with | some R => keep R E' | none => none

theorem DetR.pure {o : Oper} {v : Value} (h : pureOp P E o.op = some v) : DetR P X o E L Φ v := fun a w ha _ => pureOp_run h a w ha
theorem DetR.det {o : Oper} {v : Value} (h : DetR P X o E L Φ v) : Det P X o E L Φ v := .of_run h
theorem Det.pure {o : Oper} {v : Value} (h : pureOp P E o.op = some v) : Det P X o E L Φ v := (DetR.pure h).det

theorem JI_run {ops : Array Oper} {m : Nat} : ∀ (k i : Nat) {E R : Env}, runPure P n ops k i E = some R → JI P n X ops (i + k) m K Q R L Φ → JI P n X ops i (k + m) K Q E L Φ
 | 0, i, E, R, h, k => by simp [runPure] at h; subst h; rw [Nat.zero_add]; exact k
 | c + 1, i, E, R, h, k => by
  unfold runPure at h
  split at h
  ·rename_i o ho
   split at h
   ·rename_i E1 h1
    have k' : JI P n X ops (i + 1) (c + m) K Q E1 L Φ := JI_run c (i + 1) h (by rw [Nat.add_right_comm]; exact k)
    rw [Nat.add_right_comm]
    unfold stepPure at h1
    split at h1
    ·rename_i hr hd
     split at h1
     ·rename_i v hv
      simp only [Option.some.injEq] at h1; subst h1
      exact JI_det ho hr hd (.pure hv) k'
     ·cases h1
    ·rename_i hr hd
     simp only [Option.some.injEq] at h1; subst h1
     exact JI_pass ho hr hd k'
    ·cases h1
   ·cases h
  ·cases h
/-! ### Regions that draw their order -/
def JD (P : Program) (n : Nat) (X : Cx) (ops : Array Oper) (i m : Nat) (K : Act → World → Prop) (E : Env) (L : Own) (Φ : List Pers) : Prop :=
 ∀ a, a.tmps.size = n → a.defers = X.marks → Has a E → wpQuiet P ops (StW X L Φ) (fun a' => ∀ w', StW X L Φ w' → K a' w') ((ops.toList.drop i).take m) a

theorem StW.drawn {w : World} (h : StW X L Φ w) (k : Nat) : StW X L Φ { w with drawn := k } :=
 let ⟨p, hp⟩ := h; ⟨p, ⟨hp.facts, hp.sub, hp.le, hp.dom, hp.own, hp.may, ⟨hp.kept.os, hp.kept.tape, hp.kept.output, hp.kept.size, hp.kept.block⟩, hp.res⟩⟩

theorem wpIn_of_quiet {ρ : Option Nat} {o : Oper} {a : Act} {C : World → Prop} {K : Act → Prop} {K' : Act → World → Prop} {Q' : Exit → Act → World → Prop} {w : World} (hw : C w) (h : ∀ a w', C w' → K a → K' a w')
  (hh : o.quietIn (FW ρ) 0 P a C K) : o.wpIn (FW ρ) 0 P a w K' Q' := by
 obtain ⟨v, h1, h2⟩ := hh
 have h3 := h1 w hw
 unfold Oper.quietAtIn at h3
 have hnd : isDefer o.op = false := by
  cases ho : o.op with
  | defer c =>
   exfalso
   have : (execOp a.eval o).run P w = Result.andThen ((resolve a.eval c o.type).run P w) fun d => (pure (Next.defer d) : Sem Next).run P := by
    simp [execOp, ho]
    rfl
   rw [this] at h3
   cases hr : (resolve a.eval c o.type).run P w with
   | ok d w' => rw [hr] at h3; exact h3.elim
   | halt x w' => rw [hr] at h3; exact h3.elim
  | _ => rfl
 refine ⟨fun _ _ => trivial, ?_⟩
 rw [Oper.semAt_eq _ _ _ (fun c hc => by rw [hc] at hnd; cases hnd)]
 generalize (execOp a.eval o).run P w = r at *
 cases r with
 | ok x w' =>
  cases x <;> simp only [Oper.quietUponIn] at h3 <;> simp only [Oper.uponIn]
  case value u =>
   obtain ⟨e1, e2⟩ := h3
   rw [e1, e2]
   exact h _ _ hw h2
  case skip =>
   obtain ⟨e1, e2⟩ := h3
   rw [e1, ← e2]
   exact h _ _ hw h2
  case enter f args =>
   obtain ⟨e1, hd, hc⟩ := h3
   rw [e1]
   exact ⟨hd, hc.mono fun e w'' ⟨he, hw''⟩ => by subst he; exact h _ _ hw'' h2⟩
 | halt x w' => simp only [Oper.quietUponIn] at h3
theorem wpOpIn_of_quiet {ρ : Option Nat} {ops : Array Oper} {C : World → Prop} {i : Nat} {a : Act} {K : Act → Prop} {K' : Act → World → Prop} {Q' : Exit → Act → World → Prop} {w : World} (hC : C w) (h : ∀ a w', C w' → K a → K' a w')
  (hh : qOpIn (FW ρ) 0 P ops C i K a) : wpOpIn (FW ρ) 0 P ops Q' i K' a w := by
 unfold qOpIn at hh
 unfold wpOpIn
 split
 ·rename_i ho; simp only [ho] at hh; exact h _ _ hC hh
 ·rename_i o ho
  simp only [ho] at hh
  obtain ⟨ha, hh⟩ := hh
  split
  ·rename_i hw; simp only [hw, if_true] at hh; exact wpIn_of_quiet hC h hh
  ·rename_i hw; simp only [hw] at hh; exact ⟨ha w hC, h _ _ hC hh⟩
theorem wpAny_of_quiet {ρ : Option Nat} {md : Region.Mode} {ops : Array Oper} {C : World → Prop} {R : Act → Prop} {Q' : Exit → Act → World → Prop} (hQ : ∀ a w, C w → R a → Q' .normal a w) : ∀ (fuel : Nat) (listed : Array Bool) (a : Act) (w : World), C w →
  wpAnyQIn (FW ρ) 0 P md ops C R fuel listed a → wpAnyIn (FW ρ) 0 P md ops Q' fuel listed a w
 | 0, _, _, _, hw, h => ⟨h.1, hQ _ _ hw h.2⟩
 | fuel + 1, _, _, _, hw, h => ⟨fun h0 => hQ _ _ hw (h.1 h0), fun i hi => wpOpIn_of_quiet hw (fun a' w' hw' => wpAny_of_quiet hQ fuel _ a' w' hw') (h.2 i hi)⟩
theorem quiet_FW {ρ : Option Nat} {ops : Array Oper} {C : World → Prop} {R : Act → Prop} : ∀ (l : List Oper) (a : Act), wpQuiet P ops C R l a → wpQuietIn (FW ρ) 0 P ops C R l a
 | [], a, h => h
 | o :: l, a, h => by
  unfold wpQuiet at h
  unfold wpQuietIn
  refine ⟨fun _ _ _ _ => trivial, ?_⟩
  split
  ·rename_i hw
   rw [if_pos hw] at h
   obtain ⟨v, h1, h2⟩ := h
   refine ⟨v, fun w hC => ?_, quiet_FW l _ h2⟩
   have h3 := h1 w hC
   unfold Oper.quietAt at h3
   unfold Oper.quietAtIn
   generalize (execOp a.eval o).run P w = r at *
   cases r with
   | ok x w' =>
    cases x with
    | value u => exact h3
    | skip => exact h3
    | enter f args => exact ⟨h3.1, FW_depth, calls_FW h3.2⟩
    | _ => exact h3.elim
   | halt x w' => exact h3.elim
  ·rename_i hw
   rw [if_neg hw] at h
   exact quiet_FW l _ h
theorem region_quiet {ρ : Option Nat} {id : Nat} {ops : Array Oper} {C : World → Prop} {R : Act → World → Prop} {a : Act} {w : World} {Q : Exit → Act → World → Prop} (hm : P.follows .mixedOrders = true) (hB : Region.lexB .any ops = true) (hC : C { w with drawn := w.drawn + 1 })
  (h : wpQuiet P ops C (fun a' => ∀ w', C w' → R a' w') ops.toList a) (hR : ∀ a' w', R a' w' → Q .normal a' w') : (Code.region id ops true).wpIn (FW ρ) 0 P Q a w := by
 simp only [Region.lexB, Bool.and_eq_true] at hB
 refine wpIn_region_any hm (wpAny_of_quiet (R := fun a' => ∀ w', C w' → R a' w') (fun _ w' hw' h => hR _ _ (h w' hw')) _ _ _ _ hC ?_)
 have := wpAnyQIn_lex (F := FW ρ) (n := 0) (C := C) (md := .any) hB.1 ops.toList 0 (Array.replicate ops.size false) a (by simp) (by simpa using hB.2) (quiet_FW _ _ h)
 simpa using this

theorem J_draw {id : Nat} {ops : Array Oper} (m : Nat) (hm : P.follows .mixedOrders = true) (hB : Region.lexB .any ops = true) (hz : ops.size = m) (h : JD P n X ops 0 m (Q .normal) E L Φ) : J P n X (.region id ops true) Q E L Φ :=
 fun a w hs => region_quiet (C := StW X L Φ) hm hB (hs.world.drawn _) (by
  have := h a hs.size hs.defers hs.has
  rwa [List.drop_zero, List.take_of_length_le (by simp [← hz])] at this) (fun _ _ h => h)

theorem JD_end {ops : Array Oper} {i : Nat} (h : JQ n X K E L Φ) : JD P n X ops i 0 K E L Φ := fun a hn hd ha => by
 rw [List.take_zero]; exact wpQuiet_nil fun w' hw' => h a w' ⟨hn, hd, ha, hw'⟩
theorem Has.putO {a : Act} (h : Has a E) {d : Option Nat} (hd : okDst n d = true) (hn : a.tmps.size = n) (v : Value) : Has (a.put d v) (Env.put E d v) := by
 cases d with
 | none => exact h
 | some d => exact h.put (by rw [hn]; simpa [okDst, Nat.blt_eq] using hd) v
theorem JD_det {ops : Array Oper} {i m : Nat} {o : Oper} {v : Value} (ho : ops[i]? = some o) (hg : runs ops o E = some true) (hd : okDst n o.dst = true)
  (ht : Det P X o E L Φ v) (h : JD P n X ops (i + 1) m K (Env.put E o.dst v) L Φ) : JD P n X ops i (m + 1) K E L Φ := by
 intro a hn hdf ha
 rw [drop_cons ho, List.take_succ_cons]
 unfold wpQuiet
 rw [if_pos (runs_wanted ha hg)]
 exact ⟨v, ht a ha, h _ (by rw [Act.put_size, hn]) (by rw [Act.put_defers', hdf]) (ha.putO hd hn v)⟩
theorem JD_pass {ops : Array Oper} {i m : Nat} {o : Oper} (ho : ops[i]? = some o) (hg : runs ops o E = some false) (hd : okDst n o.dst = true)
  (h : JD P n X ops (i + 1) m K (Env.put E o.dst undef) L Φ) : JD P n X ops i (m + 1) K E L Φ := by
 intro a hn hdf ha
 rw [drop_cons ho, List.take_succ_cons]
 unfold wpQuiet
 rw [if_neg (by rw [runs_wanted ha hg]; simp)]
 exact h _ (by rw [Act.put_size, hn]) (by rw [Act.put_defers', hdf]) (ha.putO hd hn undef)
theorem JD_run {ops : Array Oper} {m : Nat} : ∀ (k i : Nat) {E R : Env}, runPure P n ops k i E = some R → JD P n X ops (i + k) m K R L Φ → JD P n X ops i (k + m) K E L Φ
 | 0, i, E, R, h, k => by simp [runPure] at h; subst h; rw [Nat.zero_add]; exact k
 | c + 1, i, E, R, h, k => by
  unfold runPure at h
  split at h
  ·rename_i o ho
   split at h
   ·rename_i E1 h1
    have k' : JD P n X ops (i + 1) (c + m) K E1 L Φ := JD_run c (i + 1) h (by rw [Nat.add_right_comm]; exact k)
    rw [Nat.add_right_comm]
    unfold stepPure at h1
    split at h1
    ·rename_i hr hd
     split at h1
     ·rename_i v hv
      simp only [Option.some.injEq] at h1; subst h1
      exact JD_det ho hr hd (.pure hv) k'
     ·cases h1
    ·rename_i hr hd
     simp only [Option.some.injEq] at h1; subst h1
     exact JD_pass ho hr hd k'
    ·cases h1
   ·cases h
  ·cases h
theorem JD_cases {ops : Array Oper} {i m : Nat} (t : Nat) (g : Bool) (ht : E.lookup t = some (.bool g)) (h1 : g = true → JD P n X ops i m K ((t, .bool true) :: E) L Φ) (h2 : g = false → JD P n X ops i m K ((t, .bool false) :: E) L Φ) : JD P n X ops i m K E L Φ := by
 intro a hn hd ha
 cases hg : g with
 | true => exact h1 hg a hn hd (ha.lit ht hg)
 | false => exact h2 hg a hn hd (ha.lit ht hg)
theorem wpQuiet_append {ops : Array Oper} {C : World → Prop} {R T : Act → Prop} : ∀ (l1 l2 : List Oper) (a : Act), wpQuiet P ops C R l1 a → (∀ a, R a → wpQuiet P ops C T l2 a) → wpQuiet P ops C T (l1 ++ l2) a
 | [], _, a, h, hk => hk a h
 | o :: l1, l2, a, h, hk => by
  simp only [List.cons_append, wpQuiet] at h ⊢
  have ih := fun a h => wpQuiet_append l1 l2 a h hk
  split
  ·rename_i hw
   rw [if_pos hw] at h
   obtain ⟨v, h1, h2⟩ := h
   exact ⟨v, h1, ih _ h2⟩
  ·rename_i hw
   rw [if_neg hw] at h
   exact ih _ h
theorem wpQuiet_void {ops : Array Oper} {C : World → Prop} {R : Act → World → Prop} (hC : ∀ w, ¬ C w) : ∀ (l : List Oper) (a : Act), wpQuiet P ops C (fun a' => ∀ w', C w' → R a' w') l a
 | [], _ => fun w' hw' => absurd hw' (hC w')
 | o :: l, a => by
  unfold wpQuiet
  split
  ·exact ⟨undef, fun w hw => absurd hw (hC w), wpQuiet_void hC l _⟩
  ·exact wpQuiet_void hC l _
/-- The first k operations by themselves; behind them this is known of the slots. -/
theorem JD_cut {ops : Array Oper} {i : Nat} (k m : Nat) (E1 : Env) (h : JD P n X ops i k (fun a _ => a.tmps.size = n ∧ a.defers = X.marks ∧ Has a E1) E L Φ)
  (h2 : JD P n X ops (i + k) m K E1 L Φ) : JD P n X ops i (k + m) K E L Φ := by
 intro a hn hd ha
 by_cases hC : ∃ w, StW X L Φ w
 ·obtain ⟨w, hw⟩ := hC
  rw [List.take_add, List.drop_drop]
  exact wpQuiet_append _ _ a (h a hn hd ha) fun a hR => by obtain ⟨h1, h3, h4⟩ := hR w hw; exact h2 a h1 h3 h4
 ·exact wpQuiet_void (fun w hw => hC ⟨w, hw⟩) _ _
/-! ### Types of the program's table -/
def TypeDesc.row : TypeDesc → Bool
 | .struct _ | .array _ _ => true
 | _ => false
/-- T takes sz cells; it is a struct or an array, or it is not. -/
def TyB (P : Program) (T sz : Nat) (agg : Bool) : Bool :=
 match P.info? T, P.underlying T with
 | some i, some d => i.size == sz && (TypeDesc.row d == agg)
 | _, _ => false
structure Ty (P : Program) (T sz : Nat) (agg : Bool) : Prop where
 ok : TyB P T sz agg = true
theorem Ty.size {T sz : Nat} {agg : Bool} (h : Ty P T sz agg) (w : World) : (sizeOf T).run P w = .ok sz w := by
 have := h.ok
 unfold TyB at this
 split at this
 ·rename_i i d hi hd
  simp only [Bool.and_eq_true, beq_iff_eq] at this
  rw [run_sizeOf hi, this.1]
 ·cases this
theorem Ty.agg {T sz : Nat} {agg : Bool} (h : Ty P T sz agg) (w : World) : (isAgg T).run P w = .ok agg w := by
 have := h.ok
 unfold TyB at this
 split at this
 ·rename_i i d hi hd
  simp only [Bool.and_eq_true, beq_iff_eq] at this
  rw [run_isAgg hd, ← this.2]
  cases d <;> rfl
 ·cases this

/-! ### Cells -/
theorem addr_add (b o j : Nat) : (⟨b, o, none⟩ : Addr).add j = ⟨b, o + j, none⟩ := by unfold Addr.add; split <;> simp_all
/-- Cells that lie in memory from an address on. -/
def Cells (h : Hp) (a : Addr) (us : List Value) : Prop := us = [] ∨ (a.spot = none ∧ ∃ c T fr, h a.block = some (.cells c T fr) ∧ ∀ j v, us[j]? = some v → c[a.off + j]? = some v)
def at_ (a : Addr) (us : List Value) : Pers := ⟨fun h => Cells h a us, fun hl hc => match hc with | .inl e => .inl e | .inr ⟨h0, c, T, fr, h1, h2⟩ => .inr ⟨h0, c, T, fr, hl _ _ h1, h2⟩⟩
theorem Cells.cell {h : Hp} {a : Addr} {us : List Value} (hc : Cells h a us) {w : World} (hs : h.sub w) {j : Nat} {v : Value} (hj : us[j]? = some v) : w.cell? (a.add j) = some v := by
 obtain ⟨b, o, sp⟩ := a
 obtain rfl | ⟨h0, c, T, fr, h1, h2⟩ := hc
 ·simp at hj
 simp only at h0 h1 h2
 subst h0
 rw [addr_add]
 simp [World.cell?, hs _ _ h1, h2 j v hj]
theorem run_load_agg {T sz : Nat} (hT : Ty P T sz true) {a : Addr} {us : List Value} (hn : us.length = sz) {w : World} (hc : ∀ j v, us[j]? = some v → w.cell? (a.add j) = some v) :
  (Instr.loadAt T (.pointer (some a))).run P w = .ok (.agg us.toArray) w := by
 have hl := run_loadCells_list (P := P) w a us hc
 rw [hn] at hl
 simp [Instr.loadAt, Instr.sureAddr, loadVar, hT.agg, hT.size, hl]
theorem run_load_one {T : Nat} (hT : Ty P T 1 false) {a : Addr} {v : Value} {w : World} (hc : w.cell? (a.add 0) = some v) :
  (Instr.loadAt T (.pointer (some a))).run P w = .ok v w := by
 have : w.cell? a = some v := by simpa [Addr.add] using hc
 simp [Instr.loadAt, Instr.sureAddr, loadVar, hT.agg, this]

/-- An owned block of cells. -/
abbrev bx (b : Nat) (cs : List Value) (T : Nat) : Nat × Obj := (b, .cells cs.toArray T (0, 0))
theorem own_heap {p : Hp} {w : World} (h : StH X L Φ p w) {i : Nat} {e : Nat × Obj} (hi : L[i]? = some e) : w.heap[e.1]? = some e.2 := (h.own.1 e (List.mem_of_getElem? hi)).1
theorem own_cell {p : Hp} {w : World} (h : StH X L Φ p w) {i b T : Nat} {cs : List Value} (hi : L[i]? = some (bx b cs T)) (k : Nat) : w.cell? ⟨b, k, none⟩ = cs[k]? := by
 have := own_heap h hi
 simp only at this
 simp [World.cell?, this]
theorem det_own_agg {o : Oper} {T sz b off TT : Nat} {x : Operand} {cs us : List Value} (hT : Ty P T sz true) (ho : o.op = .load T x) (hx : ev E x = some (.pointer (some ⟨b, off, none⟩))) (i : Nat) (hL : L[i]? = some (bx b cs TT))
  (hu : (cs.drop off).take sz = us) (hn : us.length = sz) : DetR P X o E L Φ (.agg us.toArray) := .of_run fun ac w ha ⟨p, hp⟩ => by
 have : (Instr.loadAt T (.pointer (some ⟨b, off, none⟩))).run P w = .ok (.agg us.toArray) w := run_load_agg hT hn fun j v hj => by
  rw [addr_add, own_cell hp hL, ← hj, ← hu, List.getElem?_take, if_pos, List.getElem?_drop]
  have := (List.getElem?_eq_some_iff.1 hj).1
  omega
 simp [execOp, ho, ev_eval ha hx, this]
theorem det_own_one {o : Oper} {T b off TT : Nat} {x : Operand} {cs : List Value} {v : Value} (hT : Ty P T 1 false) (ho : o.op = .load T x) (hx : ev E x = some (.pointer (some ⟨b, off, none⟩))) (i : Nat) (hL : L[i]? = some (bx b cs TT))
  (hu : cs[off]? = some v) : DetR P X o E L Φ v := .of_run fun ac w ha ⟨p, hp⟩ => by
 have : (Instr.loadAt T (.pointer (some ⟨b, off, none⟩))).run P w = .ok v w := run_load_one hT (by rw [addr_add, own_cell hp hL]; simpa using hu)
 simp [execOp, ho, ev_eval ha hx, this]
end
end Go.Fen

