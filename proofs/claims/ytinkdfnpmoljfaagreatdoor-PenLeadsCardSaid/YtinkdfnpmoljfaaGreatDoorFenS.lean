import Derived.Test.YtinkdfnpmoljfaaGreatDoorFenR
import Derived.Laws.IdiomStrings
set_option linter.unusedVariables false
set_option linter.unusedSimpArgs false
namespace Go.Fen
open Go Go.RowKit
def cInt (n : Int) : List Value := [.int .i64 n]
def cU8 (b : UInt8) : List Value := [.int .u8 (b.toNat : Int)]
theorem consR {α : Type} {x : α} {e R : List α} (h : x :: e = R) : ∃ R', e = R' ∧ R = x :: R' := ⟨e, rfl, h.symm⟩
section
variable {P : Program} {n : Nat} {X : Cx} {K : Act → World → Prop} {Q : Exit → Act → World → Prop} {E E' : Env} {L L' : Own} {Φ Φ' : List Pers}
theorem sl_nil {α : Type} {c : α → List Value} : Fol1 Φ (sl c none []) := fun _ _ => rfl
theorem beq_dec (a b : List UInt8) : (a == b) = decide (a = b) := by
 by_cases h : a = b <;> simp [h]
theorem bs_size (a : List UInt8) : (bs a).size = a.length := rfl
theorem det_stne {o : Oper} {T U : TypeId} {x y : Operand} {a b : List UInt8} (ho : o.op = .binOp .neq T x y U) (hx : ev E x = some (.string (bs a))) (hy : ev E y = some (.string (bs b))) : DetR P X o E L Φ (.bool (!decide (a = b))) :=
 .of_run fun ac w ha _ => by
  simp [execOp, ho, ev_eval ha hx, ev_eval ha hy, eqGuard, binOp, Op.stringOp, beq_dec]
theorem bs_append (a b : List UInt8) : bs a ++ bs b = bs (a ++ b) := by
 apply ByteArray.ext; simp [bs]
theorem det_stadd {o : Oper} {T U : TypeId} {x y : Operand} {a b : List UInt8} (ho : o.op = .binOp .add T x y U) (hx : ev E x = some (.string (bs a))) (hy : ev E y = some (.string (bs b))) (h : a.length + b.length ≤ 9223372036854775807) : DetR P X o E L Φ (.string (bs (a ++ b))) :=
 .of_run fun ac w ha _ => by
  have h' : ¬ ((((bs a).size + (bs b).size : Nat) : Int) > IntKind.i64.max) := by
   rw [bs_size, bs_size]; show ¬ ((_ : Int) > 9223372036854775807); omega
  simp only [execOp, ho, ev_eval ha hx, ev_eval ha hy, eqGuard, binOp, Op.stringOp, if_neg h', bs_append]
  rfl
/-! Rows -/
theorem rows_val {α : Type} {rs : List Slc} {xss : List (List α)} (ok : RowsOk rs xss) {k : Nat} (h : k < rs.length) {d : Slc} : (Value.slice (rs.getD k d).q (rs.getD k d).n (rs.getD k d).k) = .slice (rs.getD k d).q (xss.getD k []).length (rs.getD k d).k := by
 have h1 := gd d h
 have h2 : xss[k]? = some (xss.getD k []) := gd [] (by have := ok.1; omega)
 rw [(ok.2 k _ _ h1 h2).1]
theorem rows_cap {α : Type} {rs : List Slc} {xss : List (List α)} (ok : RowsOk rs xss) {k : Nat} (h : k < rs.length) {d : Slc} : (xss.getD k []).length ≤ (rs.getD k d).k ∧ (xss.getD k []).length ≤ 9223372036854775807 := by
 have h1 := gd d h
 have h2 : xss[k]? = some (xss.getD k []) := gd [] (by have := ok.1; omega)
 have := ok.2 k _ _ h1 h2
 omega
theorem rows_atD {α : Type} {c : α → List Value} {rs : List Slc} {xss : List (List α)} (ok : RowsOk rs xss) (j : Nat) (hj : Φ[j]? = some (rowsF c rs xss)) {k : Nat} (h : k < rs.length) {d : Slc} : Fol1 Φ (sl c (rs.getD k d).q (xss.getD k [])) :=
 rows_at j hj (gd d h) (gd [] (by have := ok.1; omega))
theorem det_ix_arr {o : Oper} {T e sz len : Nat} {agg : Bool} {x y : Operand} {a : Addr} {m : Int} (hT : P.underlying T = some (.array len e)) (he : Ty P e sz agg) (ho : o.op = .indexAddr T x y)
  (hx : ev E x = some (.pointer (some a))) (hy : ev E y = some (.int .i64 m)) (k : Nat) (hk : m = k) (hl : k < len) : DetR P X o E L Φ (.pointer (some (a.add (k * sz)))) := .of_run fun ac w ha _ => by
 subst hk
 have h1 : (0 : Int) ≤ k ∧ (k : Int) < len := by omega
 simp [execOp, ho, ev_eval ha hx, ev_eval ha hy, Instr.indexAt, asIntOf, run_underlying hT, Instr.sureAddr, he.size, h1, Nat.not_le.2 hl]
/-! x[l:h:m] -/
def subq (q : Option Addr) (l sz m : Nat) : Option Addr := if m = l then q else q.map (·.add (l * sz))
def SB (E : Env) (o : Option Operand) (d v : Nat) : Prop := match o with | none => v = d | some x => ∃ m, ev E x = some (.int .i64 m) ∧ m = (v : Int)
theorem sb_none {d : Nat} : SB E none d d := rfl
theorem sb_some {x : Operand} {m : Int} {d v : Nat} (h : ev E x = some (.int .i64 m)) (hm : m = v) : SB E (some x) d v := ⟨m, h, hm⟩
theorem run_bound {a : Act} (ha : Has a E) {x : Operand} {d v y : Nat} (h : SB E (some x) d v) (hy : v ≤ y) (code : BoundsCode) (w : World) : (Instr.sliceBound (a.eval x) y code).run P w = .ok v w := by
 obtain ⟨m, h1, h2⟩ := h
 subst h2
 have h1' : (0 : Int) ≤ v ∧ (v : Int) ≤ y := by omega
 simp [Instr.sliceBound, ev_eval ha h1, asIntOf, h1']
theorem det_slc {o : Oper} {T e sz : Nat} {x : Operand} {lo hi mx : Option Operand} {q : Option Addr} {len cap : Nat} (hT : SlTy P T e sz) (ho : o.op = .slice T x lo hi mx) (hx : ev E x = some (.slice q len cap)) (l h m : Nat) (hl : SB E lo 0 l) (hh : SB E hi len h) (hm : SB E mx cap m)
  (b1 : l ≤ h) (b2 : h ≤ m) (b3 : m ≤ cap) {n' : Nat} (hn : n' = h - l) (hmx : (mx.isSome && !hi.isSome) = false) : DetR P X o E L Φ (.slice (subq q l sz m) n' (m - l)) := .of_run fun ac w ha _ => by
 subst hn
 have key : (Instr.sliceBounds true len cap (lo.map ac.eval) (hi.map ac.eval) (mx.map ac.eval)).run P w = .ok (l, h, m) w := by
  unfold Instr.sliceBounds
  cases mx with
  | none =>
   have hm' : m = cap := hm
   subst hm'
   cases hi with
   | none =>
    have hh' : h = len := hh
    subst hh'
    cases lo with
    | none => have hl' : l = 0 := hl; subst hl'; simp
    | some z => simp [run_bound ha hl b1]
   | some y =>
    cases lo with
    | none => have hl' : l = 0 := hl; subst hl'; simp [run_bound ha hh b2]
    | some z => simp [run_bound ha hl b1, run_bound ha hh b2]
  | some z =>
   cases hi with
   | none => simp at hmx
   | some y =>
    cases lo with
    | none => have hl' : l = 0 := hl; subst hl'; simp [run_bound ha hh b2, run_bound ha hm b3]
    | some z => simp [run_bound ha hl b1, run_bound ha hh b2, run_bound ha hm b3]
 simp only [execOp, ho, Sem.run_bind, ev_eval ha hx, Instr.sliceAt, Instr.slice, run_underlying hT.ty, Result.andThen_ok, key, hT.run, subq]
 rfl
theorem sl_sub {α : Type} {c : α → List Value} {sz : Nat} {q : Option Addr} {xs : List α} (h : Fol1 Φ (sl c q xs)) (l k m : Nat) (hc : ∀ x, (c x).length = sz) {ys : List α} (hy : ys = (xs.drop l).take (k - l)) (h1 : l ≤ xs.length) (h2 : k ≤ m) : Fol1 Φ (sl c (subq q l sz m) ys) := fun p hp => by
 subst hy
 have := h p hp
 unfold subq
 split
 ·rename_i e
  subst e
  rw [show k - m = 0 by omega, List.take_zero]
  cases q with
  | none => rfl
  | some a => exact .inl rfl
 ·cases q with
  | none => have e : xs = [] := this; subst e; simp [sl]
  | some a =>
   obtain ⟨b, of, sp⟩ := a
   obtain hn | ⟨h0, cc, T, fr, h3, h4⟩ := this
   ·exact .inl (List.flatMap_eq_nil_iff.2 fun x hx => List.flatMap_eq_nil_iff.1 hn x (List.mem_of_mem_drop (List.mem_of_mem_take hx)))
   simp only at h0 h3 h4
   subst h0
   simp only [Option.map_some, addr_add]
   refine .inr ⟨rfl, cc, T, fr, h3, fun j v hj => ?_⟩
   have e : xs.flatMap c = (xs.take l).flatMap c ++ ((((xs.drop l).take (k - l)).flatMap c) ++ ((xs.drop l).drop (k - l)).flatMap c) := by
    rw [← List.flatMap_append, ← List.flatMap_append, List.take_append_drop, List.take_append_drop]
   have hl : ((xs.take l).flatMap c).length = l * sz := by rw [flatMap_length hc, List.length_take, Nat.min_eq_left h1]
   simp only
   rw [Nat.add_assoc]
   refine h4 _ _ ?_
   rw [e, List.getElem?_append_right (by omega), hl, Nat.add_sub_cancel_left, List.getElem?_append_left (List.getElem?_eq_some_iff.1 hj).1]
   exact hj
/-! append -/
theorem tri_app1 {o : Oper} {c : Call} {T e sz by' : Nat} {x y : Operand} {α : Type} {f : α → List Value} {r : VR} {xs ys : List α} {a : Addr} {m cc : Nat} {pre post : Own} (hT : ApTy P T e sz by') (hf : ∀ x, (f x).length = sz) (hf1 : ∀ x, (f x).all (·.oneCell') = true)
  (ho : o.op = .call c) (hc : c.callee = .builtin .append) (hca : c.args = #[x, y]) (hct : c.argTypes = #[T, T]) (hx : ev E x = some (vv r xs.length)) (hy : ev E y = some (.slice (some a) m cc)) (_h : True = True) (hm : m = ys.length) (hL : L = pre ++ (vo f e r xs ++ post))
  (hq : Fol1 Φ (sl f (some a) ys)) (hok : VOk sz xs.length r) (hb : (xs.length + ys.length) * by' ≤ 140737488355328) (h63 : xs.length + ys.length ≤ 9223372036854775807) :
  Tri P n X o E L Φ {r' : VR // VOk sz (xs ++ ys).length r'} (fun r' => vv r'.1 (xs ++ ys).length) (fun r' => pre ++ (vo f e r'.1 (xs ++ ys) ++ post)) (fun _ => Φ) := by
 rw [List.length_append]
 exact tri_append hT hf hf1 ho hc hca hct hx hy hm hL hq hok hb h63
theorem run_app_nil {w : World} {base : Nat} {T ty e : TypeId} {i : TypeInfo} {size : Nat} (ht : P.underlying T = some (.slice e)) (hi : P.info? e = some i)
  {v : Value} {n : Nat} {xs : List Value} (hown : w.ownsRow base e size v n xs) (c : Nat) : (Builtin.append_ #[T, T] ty #[v, .slice none 0 c]).run P w = .ok v w := by
 rcases hown.2 with ⟨rfl, rfl⟩ | ⟨g, cap, cur, rfl, _, _, hnc, _⟩
 ·simp [Builtin.append_, run_underlying ht, sizeOf, typeInfo, hi, Builtin.lenOf, Builtin.firstCells]
 ·simp [Builtin.append_, run_underlying ht, sizeOf, typeInfo, hi, Builtin.lenOf, Builtin.firstCells, hnc, storeCells]
theorem own_row {T e sz by' : Nat} (_hT : ApTy P T e sz by') {α : Type} {f : α → List Value} (hf : ∀ x, (f x).length = sz) {r : VR} {xs : List α} {pre post : Own} {w : World} (hw : StW X (pre ++ (vo f e r xs ++ post)) Φ w) (hok : VOk sz xs.length r) :
  w.ownsRow 0 e sz (vv r xs.length) xs.length (xs.flatMap f) := by
 obtain ⟨p, hp⟩ := hw
 refine ⟨flatMap_length hf xs, ?_⟩
 unfold VOk at hok
 split at hok
 ·rename_i hq0
  refine .inl ⟨?_, hok.1⟩
  unfold vv va
  rw [hq0, hok.1, hok.2]
 ·rename_i b hq0
  refine .inr ⟨b, r.k, (xs.flatMap f ++ r.j).toArray, ?_, Nat.zero_le _, ?_, hok.2.1, hok.2.2, ?_, ?_⟩
  ·unfold vv va; rw [hq0]
  ·have := hp.own.1 (bx b (xs.flatMap f ++ r.j) e) (List.mem_append_right _ (List.mem_append_left _ (by unfold vo; rw [hq0]; simp)))
   exact this.1
  ·simp only [List.size_toArray, List.length_append, flatMap_length hf]; exact hok.1
  ·rw [← flatMap_length hf xs]; simp
/-- append of a slice that may be none. -/
theorem tri_app2 {o : Oper} {c : Call} {T e sz by' : Nat} {x y : Operand} {α : Type} {f : α → List Value} {r : VR} {xs ys : List α} {q : Option Addr} {m cc : Nat} {pre post : Own} (hT : ApTy P T e sz by') (hf : ∀ x, (f x).length = sz) (hf1 : ∀ x, (f x).all (·.oneCell') = true)
  (ho : o.op = .call c) (hc : c.callee = .builtin .append) (hca : c.args = #[x, y]) (hct : c.argTypes = #[T, T]) (hx : ev E x = some (vv r xs.length)) (hy : ev E y = some (.slice q m cc)) (hm : m = ys.length) (hL : L = pre ++ (vo f e r xs ++ post))
  (hq : Fol1 Φ (sl f q ys)) (hok : VOk sz xs.length r) (hb : (xs.length + ys.length) * by' ≤ 140737488355328) (h63 : xs.length + ys.length ≤ 9223372036854775807) :
  Tri P n X o E L Φ {r' : VR // VOk sz (xs ++ ys).length r'} (fun r' => vv r'.1 (xs ++ ys).length) (fun r' => pre ++ (vo f e r'.1 (xs ++ ys) ++ post)) (fun _ => Φ) := by
 cases q with
 | some a => exact tri_app1 hT hf hf1 ho hc hca hct hx hy rfl hm hL hq hok hb h63
 | none =>
  intro ac w K Q hs hk
  obtain ⟨p, hp⟩ := hs.world
  have hys : ys = [] := hq p hp.facts
  subst hys
  simp only [List.length_nil] at hm
  subst hm
  have hw := hs.world
  rw [hL] at hw
  obtain ⟨i, hi, _⟩ := Option.map_eq_some_iff.1 hT.info
  refine up_in (by rw [ho]; rfl) ?_
  unfold Oper.wp
  rw [show (execOp ac.eval o).run P w = .ok (.value (vv r xs.length)) w by
   simp [execOp, ho, resolve, hc, hca, hct, ev_eval hs.has hx, ev_eval hs.has hy, invoke, builtin, run_app_nil (P := P) (ty := o.type) hT.ty hi (own_row hT hf hw hok) cc]]
  have := hk ⟨r, by simpa using hok⟩ w (by simpa using hw)
  exact (by simpa using this : K (ac.put o.dst (vv r xs.length)) w)
theorem VOk.cap {sz n : Nat} {r : VR} (h : VOk sz n r) : n ≤ r.k := by
 unfold VOk at h
 split at h
 ·omega
 ·exact h.2.1
theorem VOk.le {sz n : Nat} {r : VR} (h : VOk sz n r) : n ≤ 9223372036854775807 := by
 unfold VOk at h
 split at h
 ·omega
 ·exact Nat.le_trans h.2.1 h.2.2
theorem tri_callP {o : Oper} {c : Call} {fv : Operand} {k : FuncId} {first cap : Array Value} {vs args : List Value} {L0 L2 : Own} {Φ0 : List Pers} {α : Type} {val : α → Value} {L1 : α → Own} {Φ1 : α → List Pers}
  (hcon : Con P k args L0 Φ0 α val L1 Φ1) (ho : o.op = .call c) (hc : c.callee = .value fv) (hf : ev E fv = some (.func (.func k) first cap)) (hargs : c.args.toList.mapM (ev E) = some vs) (ha : (first ++ vs.toArray ++ cap).toList = args)
  (hΦ : Foll Φ Φ0) (hL : L.Perm (L0 ++ L2)) (L' : α → Own) (hL' : ∀ x, (L1 x ++ L2).Perm (L' x)) : Tri P n X o E L Φ α val L' (fun x => Φ1 x ++ Φ) := by
 intro a w K Q hs hk
 exact tri_call hcon ho hc hf hargs ha hΦ hL a w K Q hs fun x w' hw => hk x w' (hw.perm (hL' x))
/-! A slice of bytes that is read as a string -/
theorem cU8_get (s : List UInt8) (j : Nat) (hj : j < s.length) : (s.flatMap cU8)[j]? = some (.int .u8 (s[j].toNat : Int)) := by
 have := flatMap_get (c := cU8) (sz := 1) (fun _ => rfl) (xs := s) (k := j) (v := s[j]) (by simp [hj]) 0 _ rfl
 simpa using this
theorem rows_none {α : Type} {c : α → List Value} : Fol1 Φ (rowsF c [] []) := fun p _ i r xs h => by simp at h
theorem rows_cons {α : Type} {c : α → List Value} {r : Slc} {xs : List α} {rs : List Slc} {xss : List (List α)} (h1 : Fol1 Φ (sl c r.q xs)) (h2 : Fol1 Φ (rowsF c rs xss)) : Fol1 Φ (rowsF c (r :: rs) (xs :: xss)) := fun p hp i r' xs' hr hx => by
 cases i with
 | zero => simp only [List.getElem?_cons_zero, Option.some.injEq] at hr hx; subst hr hx; exact h1 p hp
 | succ i => simp only [List.getElem?_cons_succ] at hr hx; exact h2 p hp i r' xs' hr hx
theorem RowsOk.none {α : Type} : RowsOk [] ([] : List (List α)) := ⟨rfl, fun i r xs h => by simp at h⟩
theorem RowsOk.cons {α : Type} {r : Slc} {xs : List α} {rs : List Slc} {xss : List (List α)} (h1 : r.n = xs.length ∧ r.n ≤ r.k ∧ xs.length ≤ 9223372036854775807) (h2 : RowsOk rs xss) : RowsOk (r :: rs) (xs :: xss) := ⟨by simp [h2.1], fun i r' xs' hr hx => by
 cases i with
 | zero => simp only [List.getElem?_cons_zero, Option.some.injEq] at hr hx; subst hr hx; exact h1
 | succ i => simp only [List.getElem?_cons_succ] at hr hx; exact h2.2 i r' xs' hr hx⟩
end
end Go.Fen

