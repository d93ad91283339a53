import Derived.Test.YtinkdfnpmoljfaaGreatDoorFenE
set_option linter.unusedVariables false
set_option linter.unusedSimpArgs false
namespace Go.Fen
open Go Go.RowKit

section
variable {P : Program} {n : Nat} {X : Cx} {K : Act → World → Prop} {Q : Exit → Act → World → Prop} {E E' : Env} {L L' : Own} {Φ Φ' : List Pers}

/-! ### Numbers that fit -/
theorem wrap_in {k : IntKind} {m : Int} (h1 : k.min ≤ m) (h2 : m ≤ k.max) : k.wrap m = m := by
 cases k <;> simp only [IntKind.wrap, IntKind.min, IntKind.max, IntKind.bits, IntKind.signed] at * <;> simp at h1 h2 ⊢ <;> omega
theorem det_conv {o : Oper} {v u : Value} (h : DetR P X o E L Φ v) (hv : v = u) : DetR P X o E L Φ u := hv ▸ h
theorem det_add {o : Oper} {T U : TypeId} {x y : Operand} {k : IntKind} {a b c : Int} (ho : o.op = .binOp .add T x y U) (hx : ev E x = some (.int k a)) (hy : ev E y = some (.int k b)) (hc : a + b = c) (h1 : k.min ≤ c) (h2 : c ≤ k.max) : DetR P X o E L Φ (.int k c) :=
 .pure (by simp [pureOp, ho, hx, hy, pureBin, hc, wrap_in h1 h2])
theorem det_sub {o : Oper} {T U : TypeId} {x y : Operand} {k : IntKind} {a b c : Int} (ho : o.op = .binOp .sub T x y U) (hx : ev E x = some (.int k a)) (hy : ev E y = some (.int k b)) (hc : a - b = c) (h1 : k.min ≤ c) (h2 : c ≤ k.max) : DetR P X o E L Φ (.int k c) :=
 .pure (by simp [pureOp, ho, hx, hy, pureBin, hc, wrap_in h1 h2])
theorem det_add64 {o : Oper} {T U : TypeId} {x y : Operand} {a b c : Int} (ho : o.op = .binOp .add T x y U) (hx : ev E x = some (.int .i64 a)) (hy : ev E y = some (.int .i64 b)) (hc : a + b = c) (h : -9223372036854775808 ≤ c ∧ c ≤ 9223372036854775807) : DetR P X o E L Φ (.int .i64 c) := det_add ho hx hy hc h.1 h.2
theorem det_sub64 {o : Oper} {T U : TypeId} {x y : Operand} {a b c : Int} (ho : o.op = .binOp .sub T x y U) (hx : ev E x = some (.int .i64 a)) (hy : ev E y = some (.int .i64 b)) (hc : a - b = c) (h : -9223372036854775808 ≤ c ∧ c ≤ 9223372036854775807) : DetR P X o E L Φ (.int .i64 c) := det_sub ho hx hy hc h.1 h.2
theorem det_shr {o : Oper} {T U : TypeId} {x y : Operand} {k j : IntKind} {a b c : Int} (ho : o.op = .binOp .shr T x y U) (hx : ev E x = some (.int k a)) (hy : ev E y = some (.int j b)) (hb : 0 ≤ b) (hc : a.fdiv (2 ^ (min b.toNat k.bits)) = c) : DetR P X o E L Φ (.int k c) :=
 .of_run fun ac w ha _ => by
  have : ¬ b < 0 := by omega
  simp [execOp, ho, ev_eval ha hx, ev_eval ha hy, eqGuard, binOp, Op.shift, this, hc]
theorem det_shl {o : Oper} {T U : TypeId} {x y : Operand} {k j : IntKind} {a b c : Int} (ho : o.op = .binOp .shl T x y U) (hx : ev E x = some (.int k a)) (hy : ev E y = some (.int j b)) (hb : 0 ≤ b) (hc : k.wrap (a * 2 ^ (min b.toNat k.bits)) = c) : DetR P X o E L Φ (.int k c) :=
 .of_run fun ac w ha _ => by
  have : ¬ b < 0 := by omega
  simp [execOp, ho, ev_eval ha hx, ev_eval ha hy, eqGuard, binOp, Op.shift, this, hc]
/-! ### Composite values -/
def buildV (P : Program) (T : Nat) (parts : List (Nat × Value)) : Option (Array Value) :=
 match (P.info? T).bind (·.zero), P.underlying T with
 | some z, some (.struct fields) =>
  match fields.mapM fun f => (P.info? f.type).map fun i => (f.offset, i.size) with
  | some places => Instr.fill (places[·]?) z.cells parts
  | none => none
 | some z, some (.array _ e) => match P.info? e with
  | some i => Instr.fill (fun k => some (k * i.size, i.size)) z.cells parts
  | none => none
 | _, _ => none
theorem run_mapM_list {α β : Type} {g : α → Sem β} {f : α → Option β} {w : World} (hg : ∀ x y, f x = some y → (g x).run P w = .ok y w) : ∀ {xs : List α} {ys : List β}, xs.mapM f = some ys → (xs.mapM g).run P w = .ok ys w
 | [], ys, h => by simp at h; subst h; rfl
 | x :: xs, ys, h => by
  simp only [List.mapM_cons, Option.bind_eq_bind, Option.bind_eq_some_iff] at h
  obtain ⟨y, hy, zs, hzs, h⟩ := h
  simp only [Option.pure_def, Option.some.injEq] at h
  subst h
  simp [List.mapM_cons, hg x y hy, run_mapM_list hg hzs]
theorem run_mapM_arr {α β : Type} {g : α → Sem β} {f : α → Option β} {w : World} (hg : ∀ x y, f x = some y → (g x).run P w = .ok y w) {xs : Array α} {ys : Array β} (h : xs.mapM f = some ys) : (xs.mapM g).run P w = .ok ys w := by
 rw [Array.mapM_eq_mapM_toList] at h ⊢
 simp only [Option.map_eq_map, Option.map_eq_some_iff] at h
 obtain ⟨zs, hz, rfl⟩ := h
 simp [run_mapM_list hg hz]
def evParts (E : Env) : List (Nat × Operand) → Option (List (Nat × Value))
 | [] => some []
 | (i, x) :: rest => match ev E x, evParts E rest with
  | some v, some r => some ((i, v) :: r)
  | _, _ => none
theorem evParts_eval {a : Act} (ha : Has a E) : ∀ {ps : List (Nat × Operand)} {vs : List (Nat × Value)}, evParts E ps = some vs → ps.map (fun (i, x) => (i, a.eval x)) = vs
 | [], vs, h => by simp [evParts] at h; simp [h]
 | (i, x) :: rest, vs, h => by
  unfold evParts at h
  split at h
  ·rename_i v r hv hr
   simp only [Option.some.injEq] at h; subst h
   simp [ev_eval ha hv, evParts_eval ha hr]
  ·cases h
theorem det_build {o : Oper} {T : Nat} {ps : Array (Nat × Operand)} {vs : List (Nat × Value)} {cs : List Value} (ho : o.op = .build T ps) (hp : evParts E ps.toList = some vs) (hc : buildV P T vs = some cs.toArray) : DetR P X o E L Φ (.agg cs.toArray) :=
 .of_run fun a w ha _ => by
  have hm : (ps.map fun (x : Nat × Operand) => (x.1, a.eval x.2)).toList = vs := by simpa using evParts_eval ha hp
  unfold buildV at hc
  split at hc
  ·rename_i z fields hz hu
   obtain ⟨i, hi, hz⟩ := Option.bind_eq_some_iff.1 hz
   split at hc
   ·rename_i places hpl
    have hzr : (zeroValue T).run P w = .ok z w := by simp [zeroValue, run_info hi, hz]
    have hfm : (fields.mapM fun f => (do pure (f.offset, ← sizeOf f.type) : Sem (Nat × Nat))).run P w = .ok places w := by
     refine run_mapM_arr (fun f y hy => ?_) hpl
     obtain ⟨i, hi, rfl⟩ := Option.map_eq_some_iff.1 hy
     simp [run_sizeOf hi]
    simp only [execOp, ho, Instr.build, Sem.run_bind, hzr, Result.andThen_ok, run_underlying hu, hfm, hm, hc]
    rfl
   ·cases hc
  ·rename_i z k e hz hu
   obtain ⟨i, hi, hz⟩ := Option.bind_eq_some_iff.1 hz
   split at hc
   ·rename_i i2 hi2
    have hzr : (zeroValue T).run P w = .ok z w := by simp [zeroValue, run_info hi, hz]
    simp only [execOp, ho, Instr.build, Sem.run_bind, hzr, Result.andThen_ok, run_underlying hu, run_sizeOf hi2, hm, hc]
    rfl
   ·cases hc
  ·cases hc

/-! ### Slices -/
def sl {α : Type} (c : α → List Value) (q : Option Addr) (xs : List α) : Pers := ⟨fun h => match q with | none => xs = [] | some a => Cells h a (xs.flatMap c), fun {h h'} hl hp => by
 cases q with
 | none => exact hp
 | some a => exact (at_ a (xs.flatMap c)).mono hl hp⟩
theorem flatMap_get {α : Type} {c : α → List Value} {sz : Nat} (hc : ∀ x, (c x).length = sz) : ∀ {xs : List α} {k : Nat} {v : α}, xs[k]? = some v → ∀ j u, (c v)[j]? = some u → (xs.flatMap c)[k * sz + j]? = some u
 | [], k, v, h, j, u, hu => by cases h
 | x :: xs, 0, v, h, j, u, hu => by
  simp only [List.getElem?_cons_zero, Option.some.injEq] at h; subst h
  rw [List.flatMap_cons, Nat.zero_mul, Nat.zero_add, List.getElem?_append_left (List.getElem?_eq_some_iff.1 hu).1]; exact hu
 | x :: xs, k + 1, v, h, j, u, hu => by
  simp only [List.getElem?_cons_succ] at h
  have := flatMap_get hc h j u hu
  rw [List.flatMap_cons, List.getElem?_append_right (by rw [hc, Nat.succ_mul]; omega), hc, show (k + 1) * sz + j - sz = k * sz + j by rw [Nat.succ_mul]; omega]; exact this
theorem Cells.sub {α : Type} {c : α → List Value} {sz : Nat} (hc : ∀ x, (c x).length = sz) {xs : List α} {h : Hp} {a : Addr} (hh : Cells h a (xs.flatMap c)) {k : Nat} {v : α} (hv : xs[k]? = some v) : Cells h (a.add (k * sz)) (c v) := by
 obtain ⟨b, o, sp⟩ := a
 obtain hn | ⟨h0, cc, T, fr, h1, h2⟩ := hh
 ·exact .inl (List.flatMap_eq_nil_iff.1 hn v (List.mem_of_getElem? hv))
 simp only at h0 h1 h2
 subst h0
 rw [addr_add]
 exact .inr ⟨rfl, cc, T, fr, h1, fun j u hu => by rw [Nat.add_assoc]; exact h2 _ _ (flatMap_get hc hv j u hu)⟩
structure SlTy (P : Program) (T e sz : Nat) : Prop where
 ty : P.underlying T = some (.slice e)
 size : (P.info? e).map (·.size) = some sz
theorem SlTy.run {T e sz : Nat} (h : SlTy P T e sz) (w : World) : (sizeOf e).run P w = .ok sz w := by
 obtain ⟨i, hi, hs⟩ := Option.map_eq_some_iff.1 h.size
 rw [run_sizeOf hi, hs]
theorem run_ix {T e sz : Nat} (hT : SlTy P T e sz) {a : Addr} {len cap k : Nat} (hk : k < len) (w : World) : (Instr.indexAt T (.slice (some a) len cap) (.int .i64 k)).run P w = .ok (.pointer (some (a.add (k * sz)))) w := by
 have h1 : (0 : Int) ≤ k ∧ (k : Int) < len := by omega
 simp [Instr.indexAt, asIntOf, run_underlying hT.ty, hT.run, h1, Nat.not_le.2 hk]
theorem sl_some {α : Type} {c : α → List Value} {q : Option Addr} {xs : List α} {p : Hp} (h : (sl c q xs).p p) {k : Nat} (hk : k < xs.length) : ∃ a, q = some a := by
 cases q with
 | none => simp [sl] at h; subst h; simp at hk
 | some a => exact ⟨a, rfl⟩
theorem det_ix {o : Oper} {T e sz : Nat} {x y : Operand} {a : Addr} {len cap : Nat} {m : Int} (hT : SlTy P T e sz) (ho : o.op = .indexAddr T x y)
  (hx : ev E x = some (.slice (some a) len cap)) (hy : ev E y = some (.int .i64 m)) (k : Nat) (hk : m = k) (hl : k < len) : DetR P X o E L Φ (.pointer (some (a.add (k * sz)))) :=
 .of_run fun ac w ha _ => by
  subst hk
  simp [execOp, ho, ev_eval ha hx, ev_eval ha hy, run_ix hT hl]
theorem JI_base {ops : Array Oper} {i m : Nat} {α : Type} {f : α → List Value} {q : Option Addr} {xs : List α} (j : Nat) (hΦ : Φ[j]? = some (sl f q xs)) (hl : 0 < xs.length) (h : ∀ a, q = some a → JI P n X ops i m K Q E L Φ) : JI P n X ops i m K Q E L Φ := fun a w hs => by
 obtain ⟨p, hp⟩ := hs.world
 obtain ⟨b, hb⟩ := sl_some (hp.facts _ (List.mem_of_getElem? hΦ)) hl
 exact h b hb a w hs

/-- An array's element, the array at hand as a value. -/
theorem det_index {o : Oper} {T e sz len : Nat} {x y : Operand} {cs us : List Value} {m : Int} {v : Value} (hT : P.underlying T = some (.array len e)) {agg : Bool} (he : Ty P e sz agg) (ho : o.op = .index T x y)
  (hx : ev E x = some (.agg cs.toArray)) (hy : ev E y = some (.int .i64 m)) (k : Nat) (hk : m = k) (hl : k < len) (hu : (cs.drop (k * sz)).take sz = us) (hv : (if agg then some (.agg us.toArray) else us[0]?) = some v) (hz : Nat.blt 0 sz = true) : DetR P X o E L Φ v :=
 .of_run fun ac w ha _ => by
  subst hk
  have h1 : (0 : Int) ≤ k ∧ (k : Int) < len := by omega
  have hz' : 0 < sz := by simpa [Nat.blt_eq] using hz
  simp only [execOp, ho, ev_eval ha hx, ev_eval ha hy, Instr.index, asIntOf, Sem.run_bind, Sem.run_pure, Result.andThen_ok, run_underlying hT, h1, and_self, if_true, Int.toNat_natCast, he.size, part, he.agg]
  cases agg with
  | true =>
   simp only [if_true, Option.some.injEq] at hv
   subst hv
   simp [he.size]
   exact hu
  | false =>
   simp only [Bool.false_eq_true, if_false] at hv
   have : cs.toArray[k * sz]? = some v := by
    rw [← hv, ← hu, List.getElem?_take, if_pos hz', List.getElem?_drop]
    simp
   simp only [Bool.false_eq_true, if_false, this, Sem.run_pure, Result.andThen_ok]

/-! ### Comparing structs -/
/-- '==' at type T, of values that c writes: are they one? -/
structure EqT (P : Program) (T : Nat) {α : Type} [DecidableEq α] (c : α → List Value) : Prop where
 run : ∀ (x y : α) (w : World), (Op.equal T (.agg (c x).toArray) (.agg (c y).toArray)).run P w = .ok (decide (x = y)) w
 guard : P.eqGuardType P.depth T = false
theorem det_eqs {o : Oper} {T U : TypeId} {x y : Operand} {α : Type} [DecidableEq α] {c : α → List Value} {a b : α} (hT : EqT P T c) (ho : o.op = .binOp .eql T x y U) (hx : ev E x = some (.agg (c a).toArray)) (hy : ev E y = some (.agg (c b).toArray)) : DetR P X o E L Φ (.bool (decide (a = b))) :=
 .of_run fun ac w ha _ => by simp [execOp, ho, ev_eval ha hx, ev_eval ha hy, eqGuard, hT.guard, binOp, hT.run]
theorem det_nes {o : Oper} {T U : TypeId} {x y : Operand} {α : Type} [DecidableEq α] {c : α → List Value} {a b : α} (hT : EqT P T c) (ho : o.op = .binOp .neq T x y U) (hx : ev E x = some (.agg (c a).toArray)) (hy : ev E y = some (.agg (c b).toArray)) : DetR P X o E L Φ (.bool (!decide (a = b))) :=
 .of_run fun ac w ha _ => by simp [execOp, ho, ev_eval ha hx, ev_eval ha hy, eqGuard, hT.guard, binOp, hT.run]
end
end Go.Fen

