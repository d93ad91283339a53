import Derived.Test.YtinkdfnpmoljfaaGreatDoorFenA
set_option linter.unusedVariables false
set_option linter.unusedSimpArgs false
namespace Go.Fen
open Go Go.RowKit

/-! ### Operations that only reckon -/
/-- Go's '&', '|', '^', '&^'. -/
def bOp (op : BinOp) (k : IntKind) (a b : Int) : Int :=
 k.wrap (match op with
  | .and => BitVec.ofInt k.bits a &&& BitVec.ofInt k.bits b
  | .or => BitVec.ofInt k.bits a ||| BitVec.ofInt k.bits b
  | .xor => BitVec.ofInt k.bits a ^^^ BitVec.ofInt k.bits b
  | _ => BitVec.ofInt k.bits a &&& ~~~BitVec.ofInt k.bits b : BitVec k.bits).toNat
def pureBin (op : BinOp) (u v : Value) : Option Value :=
 match op, u, v with
 | .lss, .int j a, .int k b => if j = k then some (.bool (decide (a < b))) else none
 | .leq, .int j a, .int k b => if j = k then some (.bool (decide (a ≤ b))) else none
 | .gtr, .int j a, .int k b => if j = k then some (.bool (decide (b < a))) else none
 | .geq, .int j a, .int k b => if j = k then some (.bool (decide (b ≤ a))) else none
 | .eql, .int j a, .int k b => if j = k then some (.bool (decide (a = b))) else none
 | .neq, .int j a, .int k b => if j = k then some (.bool (!decide (a = b))) else none
 | .add, .int j a, .int k b => if j = k then some (.int j (j.wrap (a + b))) else none
 | .sub, .int j a, .int k b => if j = k then some (.int j (j.wrap (a - b))) else none
 | .mul, .int j a, .int k b => if j = k then some (.int j (j.wrap (a * b))) else none
 | .and, .int j a, .int k b => if j = k then some (.int j (bOp .and j a b)) else none
 | .or, .int j a, .int k b => if j = k then some (.int j (bOp .or j a b)) else none
 | .xor, .int j a, .int k b => if j = k then some (.int j (bOp .xor j a b)) else none
 | .andNot, .int j a, .int k b => if j = k then some (.int j (bOp .andNot j a b)) else none
 | .eql, .string a, .string b => some (.bool (a.toList == b.toList))
 | .neq, .string a, .string b => some (.bool (!(a.toList == b.toList)))
 | _, _, _ => none

def pureLen : Option TypeDesc → Option Value → Option Value
 | some (.slice _), some (.slice _ l _) => some (.int .i64 l)
 | some .string, some (.string s) => some (.int .i64 s.size)
 | _, _ => none
def pureMM (mx : Bool) (u v : Option Value) (n : Nat) : Option Value :=
 match u, v with
 | some (.int j a), some (.int k b) => if j = k ∧ n = 2 then some (.int j (if mx then (if b > a then b else a) else (if b < a then b else a))) else none
 | _, _ => none
def pureOp (P : Program) (E : Env) : Op → Option Value
 | .move x => ev E x
 | .assign x => ev E x
 | .pick c a b => match ev E c with
  | some (.bool true) => ev E a
  | some (.bool false) => ev E b
  | _ => none
 | .binOp op _ x y _ => match ev E x, ev E y with
  | some u, some v => pureBin op u v
  | _, _ => none
 | .unOp op _ x => match op, ev E x with
  | .not, some (.bool b) => some (.bool !b)
  | .neg, some (.int k m) => some (.int k (k.wrap (0 - m)))
  | _, _ => none
 | .extract t i => match ev E t with
  | some (.tuple vs) => vs[i]?
  | _ => none
 | .makeFunc fn first cap => match first.toList.mapM (ev E), cap.toList.mapM (ev E) with
  | some fs, some cs => some (.func fn fs.toArray cs.toArray)
  | _, _ => none
 | .call c => match c.callee, c.args[0]?, c.argTypes[0]? with
  | .builtin .len, some x, some t => pureLen (P.underlying t) (ev E x)
  | .builtin .max, some x, _ => pureMM true (ev E x) (c.args[1]?.bind (ev E)) c.args.size
  | .builtin .min, some x, _ => pureMM false (ev E x) (c.args[1]?.bind (ev E)) c.args.size
  | _, _, _ => none
 | .nilCheck x => match ev E x with
  | some (.pointer (some a)) => some (.pointer (some a))
  | _ => none
 | .convert S T x => match P.underlying S, P.underlying T, ev E x with
  | some _, some (.int k), some (.int _ m) => some (.int k (k.wrap m))
  | _, _, _ => none
 | .fieldAddr s x f => match P.underlying s, ev E x with
  | some (.struct fields), some (.pointer (some a)) => match fields[f]? with
   | some fd => match P.info? fd.type with
    | some i => if i.size = 0 then none else some (.pointer (some (a.add fd.offset)))
    | none => none
   | none => none
  | _, _ => none
 | .field s x f => match P.underlying s, ev E x with
  | some (.struct fields), some (.agg cs) => match fields[f]? with
   | some fd => match P.underlying fd.type, P.info? fd.type with
    | some (.struct _), some i => some (.agg (cs.extract fd.offset (fd.offset + i.size)))
    | some (.array _ _), some i => some (.agg (cs.extract fd.offset (fd.offset + i.size)))
    | some _, some _ => cs[fd.offset]?
    | _, _ => none
   | none => none
  | _, _ => none
 | _ => none

section
variable {P : Program} {n : Nat} {X : Cx} {Q : Exit → Act → World → Prop} {E E' : Env} {L L' : Own} {Φ Φ' : List Pers}

/-- One value in every world that fits, the world left alone. -/
def DetR (P : Program) (X : Cx) (o : Oper) (E : Env) (L : Own) (Φ : List Pers) (v : Value) : Prop := ∀ a w, Has a E → StW X L Φ w → (execOp a.eval o).run P w = .ok (.value v) w
theorem DetR.of_run {o : Oper} {v : Value} (h : ∀ a w, Has a E → StW X L Φ w → (execOp a.eval o).run P w = .ok (.value v) w) : DetR P X o E L Φ v := h
theorem Det.of_run {o : Oper} {v : Value} (h : ∀ a w, Has a E → StW X L Φ w → (execOp a.eval o).run P w = .ok (.value v) w) : Det P X o E L Φ v := by
 intro a ha w hw
 unfold Oper.quietAt
 rw [h a w ha hw]
 exact ⟨rfl, rfl⟩

theorem run_info {t : TypeId} {i : TypeInfo} (h : P.info? t = some i) (w : World) : (typeInfo t).run P w = .ok i w := by
 simp [typeInfo, h]
theorem run_sizeOf {t : TypeId} {i : TypeInfo} (h : P.info? t = some i) (w : World) : (sizeOf t).run P w = .ok i.size w := by
 simp [sizeOf, run_info h]

theorem run_pureBin {op : BinOp} {u v r : Value} (h : pureBin op u v = some r) (t : TypeId) (x y : Operand) (w : World) :
  (do eqGuard op t x y u v; binOp op t u v : Sem Value).run P w = .ok r w := by
 unfold pureBin at h
 split at h <;> (try split at h) <;> simp only [Option.some.injEq, reduceCtorEq] at h <;> (try subst h) <;> (try subst_vars) <;>
  simp [eqGuard, binOp, Op.intCmp, Op.intArith, Op.stringOp, Op.intBits, bOp] <;> rfl

theorem mapM_ev {a : Act} (ha : Has a E) : ∀ {xs : List Operand} {vs : List Value}, xs.mapM (ev E) = some vs → xs.map a.eval = vs
 | [], vs, h => by simp at h; simp [h]
 | x :: xs, vs, h => by
  simp only [List.mapM_cons, Option.bind_eq_bind, Option.bind_eq_some_iff] at h
  obtain ⟨v, hv, us, hus, h⟩ := h
  simp only [Option.pure_def, Option.some.injEq] at h
  subst h
  simp [ev_eval ha hv, mapM_ev ha hus]
theorem mapM_ev_arr {a : Act} (ha : Has a E) {xs : Array Operand} {vs : List Value} (h : xs.toList.mapM (ev E) = some vs) : xs.map a.eval = vs.toArray := by
 have := mapM_ev ha h
 apply Array.ext'
 simpa using this

theorem run_isAgg {t : TypeId} {d : TypeDesc} (h : P.underlying t = some d) (w : World) : (isAgg t).run P w = .ok (match d with | .struct _ | .array _ _ => true | _ => false) w := by
 unfold isAgg
 rw [Sem.run_bind, run_underlying h]
 cases d <;> rfl

theorem run_mm {o : Oper} {c : Call} {mx : Bool} {x : Operand} {v : Value} {a : Act} (ha : Has a E) (ho : o.op = .call c) (hc : (c.callee = .builtin .max ∧ mx = true) ∨ (c.callee = .builtin .min ∧ mx = false)) (hx : c.args[0]? = some x)
  (h : pureMM mx (ev E x) (c.args[1]?.bind (ev E)) c.args.size = some v) (w : World) : (execOp a.eval o).run P w = .ok (.value v) w := by
 unfold pureMM at h
 split at h
 ·rename_i j m k l h1 h2
  split at h
  ·rename_i hjk
   obtain ⟨rfl, hsz⟩ := hjk
   simp only [Option.some.injEq] at h
   obtain ⟨y, hy, h2⟩ := Option.bind_eq_some_iff.1 h2
   obtain ⟨xs⟩ : ∃ xs : List Operand, c.args = xs.toArray := ⟨c.args.toList, by simp⟩
   rename_i hxs
   rw [hxs] at hx hy hsz
   match xs, hx, hy, hsz with
   | [p, q], hx, hy, _ =>
    simp at hx hy
    subst hx hy
    rcases hc with ⟨hc, rfl⟩ | ⟨hc, rfl⟩
    ·subst h
     simp [execOp, ho, resolve, hc, hxs, ev_eval ha h1, ev_eval ha h2, invoke, builtin, Builtin.max_, Builtin.max2]
    ·subst h
     simp [execOp, ho, resolve, hc, hxs, ev_eval ha h1, ev_eval ha h2, invoke, builtin, Builtin.min_, Builtin.min2]
  ·cases h
 ·cases h
theorem pureOp_run {o : Oper} {v : Value} (h : pureOp P E o.op = some v) (a : Act) (w : World) (ha : Has a E) : (execOp a.eval o).run P w = .ok (.value v) w := by
 unfold pureOp at h
 split at h <;> (rename_i hop)
 ·simp [execOp, hop, ev_eval ha h]
 ·simp [execOp, hop, ev_eval ha h]
 ·split at h
  ·rename_i hc
   simp [execOp, hop, ev_eval ha hc, asBool, ev_eval ha h]
  ·rename_i hc
   simp [execOp, hop, ev_eval ha hc, asBool, ev_eval ha h]
  ·cases h
 ·split at h
  ·rename_i hx hy
   have := run_pureBin (P := P) h
   simp only [execOp, hop, ev_eval ha hx, ev_eval ha hy]
   rw [Sem.run_bind, this]
   rfl
  ·cases h
 ·split at h
  ·rename_i hx
   simp only [Option.some.injEq] at h; subst h
   simp [execOp, hop, ev_eval ha hx, Op.unary]
  ·rename_i hx
   simp only [Option.some.injEq] at h; subst h
   simp [execOp, hop, ev_eval ha hx, Op.unary, Op.intArith]
  ·cases h
 ·split at h
  ·rename_i hx
   simp only [execOp, hop, ev_eval ha hx, Instr.extract, h]
   simp
  ·cases h
 ·split at h
  ·rename_i h1 h2
   simp only [Option.some.injEq] at h; subst h
   simp only [execOp, hop, mapM_ev_arr ha h1, mapM_ev_arr ha h2, Instr.makeFunc]
   rfl
  ·cases h
 ·split at h
  ·rename_i hc hx ht
   unfold pureLen at h
   split at h
   ·rename_i hu hv
    simp only [Option.some.injEq] at h; subst h
    simp [execOp, hop, resolve, hc, hx, ht, ev_eval ha hv, invoke, builtin, Builtin.len_, run_underlying hu, goInt]
   ·rename_i hu hv
    simp only [Option.some.injEq] at h; subst h
    simp [execOp, hop, resolve, hc, hx, ht, ev_eval ha hv, invoke, builtin, Builtin.len_, run_underlying hu, goInt]
   ·cases h
  ·rename_i hc hx
   exact run_mm ha hop (.inl ⟨hc, rfl⟩) hx h w
  ·rename_i hc hx
   exact run_mm ha hop (.inr ⟨hc, rfl⟩) hx h w
  ·cases h
 ·split at h
  ·rename_i hx
   simp only [Option.some.injEq] at h; subst h
   simp [execOp, hop, ev_eval ha hx]
  ·cases h
 ·split at h
  ·rename_i hS hT hx
   simp only [Option.some.injEq] at h; subst h
   simp [execOp, hop, ev_eval ha hx, convert, run_underlying hT, run_underlying hS, Conv.intToInt]
  ·cases h
 ·split at h
  ·rename_i hu hx
   split at h
   ·rename_i hf
    split at h
    ·rename_i hi
     split at h
     ·cases h
     ·rename_i hz
      simp only [Option.some.injEq] at h; subst h
      simp [execOp, hop, Instr.fieldAt, ev_eval ha hx, run_underlying hu, hf, Instr.sureAddr, fieldPlace, run_sizeOf hi, hz]
    ·cases h
   ·cases h
  ·cases h
 ·split at h
  ·rename_i hu hx
   split at h
   ·rename_i hf
    split at h
    ·rename_i h1 h2
     simp only [Option.some.injEq] at h; subst h
     simp [execOp, hop, Instr.field, ev_eval ha hx, run_underlying hu, hf, asAgg, part, run_isAgg h1, run_sizeOf h2]
    ·rename_i h1 h2
     simp only [Option.some.injEq] at h; subst h
     simp [execOp, hop, Instr.field, ev_eval ha hx, run_underlying hu, hf, asAgg, part, run_isAgg h1, run_sizeOf h2]
    ·rename_i d i h3 h4 h1 h2
     have hag : (isAgg _).run P w = .ok false w := (run_isAgg h1 w).trans (by
      cases d with
      | struct fs => exact absurd rfl (h3 fs)
      | array l e => exact absurd rfl (h4 l e)
      | _ => rfl)
     simp [execOp, hop, Instr.field, ev_eval ha hx, run_underlying hu, hf, asAgg, part, hag, h]
    ·cases h
   ·cases h
  ·cases h
 ·cases h

end
end Go.Fen

