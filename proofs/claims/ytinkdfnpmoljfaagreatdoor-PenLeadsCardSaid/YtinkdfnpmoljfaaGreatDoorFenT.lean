import Derived.Test.YtinkdfnpmoljfaaGreatDoorFenS
import Derived.ArgAppend
import Derived.Deep.AppendSrc
import Derived.Deep.Upon
set_option linter.unusedVariables false
set_option linter.unusedSimpArgs false
namespace Go.Fen
open Go Go.RowKit
section
variable {P : Program} {n : Nat} {X : Cx} {K : Act → World → Prop} {Q : Exit → Act → World → Prop} {E E' : Env} {L L' : Own} {Φ Φ' : List Pers}
/-! ### Maps of one's own -/
theorem tri_makeMap {o : Oper} {T : TypeId} (ho : o.op = .makeMap T none) : Tri P n X o E L Φ Nat (fun b => .map (some b)) (fun b => (b, .map #[] 0) :: L) (fun _ => Φ) := by
 intro a w K Q hs hk
 refine up_in (by rw [ho]; rfl) ?_
 unfold Oper.wp
 rw [show (execOp a.eval o).run P w = .ok (.value (.map (some w.heap.size))) (w.alloc (.map #[] 0)) by
  simp only [execOp, ho, Sem.run_bind, Option.map_none, run_makeMap]; rfl]
 exact hk w.heap.size _ (hs.world.alloc _)
structure MapTy (P : Program) (T k e : Nat) (kd : TypeDesc) : Prop where
 ty : P.underlying T = some (.map k e)
 key : P.underlying k = some kd
 plain : (match kd with | .int _ | .string | .bool => true | _ => false) = true
theorem run_checkKey {T k e : Nat} {kd : TypeDesc} (hT : MapTy P T k e kd) (em : Bool) (v : Value) (w : World) : (Instr.checkKey em 10000 k v).run P w = .ok () w := by
 have hp := hT.plain
 unfold Instr.checkKey
 rw [Sem.run_bind, run_underlying hT.key]
 cases kd <;> simp_all
theorem run_findKey {T k e : Nat} {kd : TypeDesc} (hT : MapTy P T k e kd) {v : Value} {es : List MapEntry} {r : Option (Nat × Value)} (h : Instr.findNow kd v es 0 = some r) (w : World) : (Instr.findKey k v es).run P w = .ok r w := by
 unfold Instr.findKey
 rw [Sem.run_bind, run_underlying hT.key]
 simp [h]
theorem gObj {w : World} {r : Nat} {es : Array MapEntry} {clk : Nat} (h : w.heap[r]? = some (.map es clk)) : (getObj r).run P w = .ok (.map es clk) w := by simp [getObj, Sem.run, h]
theorem sObj {w : World} {r : Nat} {es : Array MapEntry} {clk : Nat} (o : Obj) (h : w.heap[r]? = some (.map es clk)) : (setObj r o).run P w = .ok () { w with heap := w.heap.setIfInBounds r o } := by simp [setObj, Sem.run, h]
theorem own_obj {w : World} (hs : StW X L Φ w) {i b : Nat} {o : Obj} (hi : L[i]? = some (b, o)) : w.heap[b]? = some o := by
 obtain ⟨p, hp⟩ := hs
 exact own_heap hp hi
theorem tri_insert {o : Oper} {T k e : Nat} {kd : TypeDesc} {m kk vv' : Operand} {b : Nat} {kv v : Value} {es es' : Array MapEntry} {clk : Nat} (hT : MapTy P T k e kd) (ho : o.op = .insert T m kk vv' ∨ o.op = .mapUpdate T m kk vv') (hm : ev E m = some (.map (some b))) (hk : ev E kk = some kv) (hv : ev E vv' = some v)
  (i : Nat) (hi : L[i]? = some (b, .map es clk)) (hf : Instr.findNow kd kv es.toList 0 = some none) (he : es.push ⟨kv, v, clk⟩ = es') :
  Tri P n X o E L Φ Unit (fun _ => undef) (fun _ => L.set i (b, .map es' (clk + 1))) (fun _ => Φ) := by
 intro a w K Q hs hk'
 have hb := own_obj hs.world hi
 subst he
 have hr : (execOp a.eval o).run P w = .ok .skip { w with heap := w.heap.setIfInBounds b (.map (es.push ⟨kv, v, clk⟩) (clk + 1)) } := by
  rcases ho with ho | ho <;>
  simp [execOp, ho, ev_eval hs.has hm, ev_eval hs.has hk, ev_eval hs.has hv, Instr.mapUpdate, run_underlying hT.ty, gObj hb, sObj _ hb, run_checkKey hT, run_findKey hT hf]
 have hlt : b < w.heap.size := (Array.getElem?_eq_some_iff.1 hb).1
 refine up_in (by rcases ho with ho | ho <;> rw [ho] <;> rfl) ?_
 unfold Oper.wp
 rw [hr]
 refine hk' () _ (hs.world.set hi ?_ (fun j hj => ?_) rfl rfl rfl (by simp))
 ·simp [hlt]
 ·simp [Array.getElem?_setIfInBounds, Ne.symm hj]
/-! ### What may panic -/
def endO {ρ : Type} (pv : Value) (val : ρ → Value) : Option ρ → Ending
 | some r => .returned (val r)
 | none => .panicked [{ v := pv, recovered := false }]
/-- A call that comes back with what R tells, or panics with pv. -/
def ConO (P : Program) (f : FuncId) (args : List Value) (L0 : Own) (Φ0 : List Pers) {ρ : Type} (pv : Value) (R : Option ρ) (val : ρ → Value) : Prop :=
 HasBody P f ∧ ∀ (w : World) (h : Hp), (∀ q ∈ Φ0, q.p h) → h.sub w → OwnIn L0 h w →
  Calls P f args.toArray w fun e w' => StW (cx w h (L0.map Prod.fst)) [] [] w' ∧ e = endO pv val R
theorem det_ix_ownk {o : Oper} {T e sz len b : Nat} {agg : Bool} {x y : Operand} {m : Int} (hT : P.underlying T = some (.array len e)) (he : Ty P e sz agg) (ho : o.op = .indexAddr T x y)
  (hx : ev E x = some (.pointer (some ⟨b, 0, none⟩))) (hy : ev E y = some (.int .i64 m)) (k : Nat) (hk : m = k) (hl : k < len) : DetR P X o E L Φ (.pointer (some ⟨b, k * sz, none⟩)) := by
 have := det_ix_arr (L := L) (Φ := Φ) (X := X) hT he ho hx hy k hk hl
 rwa [addr_add, Nat.zero_add] at this
/-- append to a slice that is only read and has no room. -/
theorem tri_appf {o : Oper} {c : Call} {T e sz by' : Nat} {x y : Operand} {α : Type} {f : α → List Value} {xs ys : List α} {qx qy : Option Addr} {n1 k1 m cc : Nat} (hT : ApTy P T e sz by') (hf : ∀ x, (f x).length = sz) (hf1 : ∀ x, (f x).all (·.oneCell') = true)
  (ho : o.op = .call c) (hc : c.callee = .builtin .append) (hca : c.args = #[x, y]) (hct : c.argTypes = #[T, T]) (hx : ev E x = some (.slice qx n1 k1)) (hy : ev E y = some (.slice qy m cc)) (hn1 : n1 = xs.length) (hk1 : k1 = xs.length) (hm : m = ys.length)
  (hqx : Fol1 Φ (sl f qx xs)) (hqy : Fol1 Φ (sl f qy ys)) (hys : 0 < ys.length) (hb : (xs.length + ys.length) * by' ≤ 140737488355328) (h63 : xs.length + ys.length ≤ 9223372036854775807) :
  Tri P n X o E L Φ {r' : VR // VOk sz (xs ++ ys).length r'} (fun r' => vv r'.1 (xs ++ ys).length) (fun r' => L ++ (vo f e r'.1 (xs ++ ys) ++ [])) (fun _ => Φ) := by
 subst hn1 hk1 hm
 cases qx with
 | none =>
  intro ac w K Q hs hk
  obtain ⟨p, hp⟩ := hs.world
  have h0 : xs = [] := hqx p hp.facts
  subst h0
  exact tri_app2 (r := VR.nil) (xs := []) (pre := L) (post := []) hT hf hf1 ho hc hca hct hx hy rfl (by simp [vo, VR.nil]) hqy VOk.nil hb h63 ac w K Q hs hk
 | some a =>
  intro ac w K Q hs hk
  obtain ⟨p, hp⟩ := hs.world
  cases qy with
  | none => have h0 : ys = [] := hqy p hp.facts; subst h0; simp at hys
  | some a' =>
   have c1 : Cells p a (xs.flatMap f) := hqx p hp.facts
   have c2 : Cells p a' (ys.flatMap f) := hqy p hp.facts
   obtain ⟨i, hi, hinf⟩ := Option.map_eq_some_iff.1 hT.info
   simp only [Prod.mk.injEq] at hinf
   obtain ⟨h4, h5, h6⟩ := hinf
   obtain ⟨z, hz, h6⟩ := Option.map_eq_some_iff.1 h6
   have hpos : 0 < sz := by simpa [Nat.blt_eq] using hT.pos
   obtain ⟨v', w', hrun, ⟨hlen, hor⟩, hg⟩ := run_append_arg_grows (P := P) w T o.type e i z sz by' hT.ty hi hz h4 h5 h6 hpos a xs.length xs.length (xs.flatMap f) (flatMap_length hf xs) (fun j u hj => c1.cell hp.sub hj)
    a' ys.length cc (ys.flatMap f) (flatMap_length hf ys) (fun j u hj => c2.cell hp.sub hj) (by omega) h63 hb
   have hkp : KeptBut (([] : Own).map Prod.fst) w w' := ⟨hg.os, hg.tape, hg.output, hg.size, fun k hk _ => hg.block k hk (by simp)⟩
   refine up_in (by rw [ho]; rfl) ?_
   unfold Oper.wp
   rw [show (execOp ac.eval o).run P w = .ok (.value v') w' by
    simp [execOp, ho, resolve, hc, hca, hct, ev_eval hs.has hx, ev_eval hs.has hy, invoke, builtin, hrun]]
   rcases hor with ⟨rfl, hn0⟩ | ⟨g, cap, cur, rfl, hge, hheap, hle, hmax, hsz, htake⟩
   ·omega
   ·have hw2 : StW X (L ++ ([bx g ((xs ++ ys).flatMap f ++ cur.toList.drop ((xs.length + ys.length) * sz)) e] ++ [])) Φ w' := by
     refine StW.turn (L0 := []) (show StW X (L ++ ([] ++ [])) Φ w by simpa using hs.world) hkp ?_ (by simp)
     intro e' he
     obtain rfl : e' = _ := by simpa using he
     refine ⟨?_, .inr hge⟩
     simp only
     rw [hheap, ← List.append_assoc, ← htake, List.take_append_drop]
    have := hk ⟨⟨some g, cap, cur.toList.drop ((xs.length + ys.length) * sz)⟩, ?_⟩ w' (by simpa [vo] using hw2)
    ·simp only [vv, va, List.length_append] at this
     exact this
    ·have h9 : (xs.length + ys.length) * sz ≤ cap * sz := Nat.mul_le_mul_right _ hle
     refine ⟨?_, by simpa using hle, hmax⟩
     simp only [List.length_drop, Array.length_toList, hsz, List.length_append]
     omega
theorem byteCells_bs (s : List UInt8) : byteCells (bs s) = s.flatMap cU8 := by
 simp only [byteCells, bs, cU8]
 induction s with
 | nil => rfl
 | cons x s ih =>
  simp only [List.flatMap_cons]
  rw [← ih]
  rfl
theorem run_app_no {w : World} {T ty e : TypeId} {i : TypeInfo} (ht : P.underlying T = some (.slice e)) (hi : P.info? e = some i) (q q' : Option Addr) (m k : Nat) (hm : m ≤ k) (c : Nat) : (Builtin.append_ #[T, T] ty #[.slice q m k, .slice q' 0 c]).run P w = .ok (.slice q m k) w := by
 cases q <;> cases q' <;> simp [Builtin.append_, run_underlying ht, sizeOf, typeInfo, hi, Builtin.lenOf, Builtin.firstCells, hm, storeCells, loadCells, loadCellsFrom]
/-- append to a slice that is only read and has no room; what comes back is only read. -/
theorem tri_appq {o : Oper} {c : Call} {T e sz by' : Nat} {x y : Operand} {α : Type} {f : α → List Value} {xs ys : List α} {qx qy : Option Addr} {n1 k1 m cc : Nat} (hT : ApTy P T e sz by') (hf : ∀ x, (f x).length = sz) (hf1 : ∀ x, (f x).all (·.oneCell') = true)
  (ho : o.op = .call c) (hc : c.callee = .builtin .append) (hca : c.args = #[x, y]) (hct : c.argTypes = #[T, T]) (hx : ev E x = some (.slice qx n1 k1)) (hy : ev E y = some (.slice qy m cc)) (hn1 : n1 = xs.length) (hk1 : k1 = xs.length) (hm : m = ys.length)
  (hqx : Fol1 Φ (sl f qx xs)) (hqy : Fol1 Φ (sl f qy ys)) (hb : (xs.length + ys.length) * by' ≤ 140737488355328) (h63 : xs.length + ys.length ≤ 9223372036854775807) :
  Tri P n X o E L Φ {t : Option Addr × Nat // (xs ++ ys).length ≤ t.2} (fun t => .slice t.1.1 (xs ++ ys).length t.1.2) (fun _ => L) (fun t => sl f t.1.1 (xs ++ ys) :: Φ) := by
 by_cases hys : 0 < ys.length
 ·intro ac w K Q hs hk
  refine tri_appf hT hf hf1 ho hc hca hct hx hy hn1 hk1 hm hqx hqy hys hb h63 ac w K Q hs fun r w' hw => ?_
  have := hk ⟨(va r.1.q, r.1.k), r.2.cap⟩ w' (by have := hw.sealed (pre := L) (post := []) r.2; simpa using this)
  exact this
 ·have h0 : ys = [] := by cases ys with | nil => rfl | cons a l => simp at hys
  subst h0
  subst hn1 hk1 hm
  intro ac w K Q hs hk
  obtain ⟨i, hi, _⟩ := Option.map_eq_some_iff.1 hT.info
  refine up_in (by rw [ho]; rfl) ?_
  unfold Oper.wp
  rw [show (execOp ac.eval o).run P w = .ok (.value (.slice qx xs.length xs.length)) w by
   simp [execOp, ho, resolve, hc, hca, hct, ev_eval hs.has hx, ev_eval hs.has hy, invoke, builtin, run_app_no (P := P) (ty := o.type) hT.ty hi qx qy xs.length xs.length (Nat.le_refl _) cc]]
  have := hk ⟨(qx, xs.length), by simp⟩ w (by
   obtain ⟨p, hp⟩ := hs.world
   simp only [List.append_nil]
   exact ⟨p, { hp with facts := fun q hq => by rcases List.mem_cons.1 hq with rfl | hq; exact hqx p hp.facts; exact hp.facts q hq }⟩)
  exact (by simpa using this : K (ac.put o.dst (.slice qx xs.length xs.length)) w)
theorem run_app_room {w : World} {T tx ty e : TypeId} {i : TypeInfo} (ht : P.underlying T = some (.slice e)) (hi : P.info? e = some i) {b sLen sCap m TT : Nat} {x : Value} {news : List Value} {cur : Array Value} (hs : Src P i.size tx x m news w)
  (hb : w.heap[b]? = some (.cells cur TT (0, 0))) (hroom : sLen + m ≤ sCap) (hsz : sLen * i.size + news.length ≤ cur.size) :
  (Builtin.append_ #[T, tx] ty #[.slice (some ⟨b, 0, none⟩) sLen sCap, x]).run P w = .ok (.slice (some ⟨b, 0, none⟩) (sLen + m) sCap) (w.setRow b (cur.toList.take (sLen * i.size) ++ news ++ cur.toList.drop (sLen * i.size + news.length)).toArray) := by
 have hst := run_storeCells_at P b (sLen * i.size) TT news 0 cur w hb (by simpa using hsz) hs.one
 simp only [Nat.add_zero] at hst
 rcases hs.kind with ⟨e', hk⟩ | hk <;> simp [Builtin.append_, run_underlying ht, run_underlying hk, sizeOf, typeInfo, hi, hs.len, hroom, hs.cells, addr_add, hst]
/-- append of a string's bytes. -/
theorem tri_app_str {o : Oper} {c : Call} {T U e : Nat} {x y : Operand} {r : VR} {xs s : List UInt8} {pre post : Own} (hT : ApTy P T e 1 1) (hz : (P.info? e).bind (·.zero) = some (.int .u8 0)) (hU : P.underlying U = some .string)
  (ho : o.op = .call c) (hc : c.callee = .builtin .append) (hca : c.args = #[x, y]) (hct : c.argTypes = #[T, U]) (hx : ev E x = some (vv r xs.length)) (hy : ev E y = some (.string (bs s))) (hL : L = pre ++ (vo cU8 e r xs ++ post))
  (hok : VOk 1 xs.length r) (hb : xs.length + s.length ≤ 140737488355328) :
  Tri P n X o E L Φ {r' : VR // VOk 1 (xs ++ s).length r'} (fun r' => vv r'.1 (xs ++ s).length) (fun r' => pre ++ (vo cU8 e r'.1 (xs ++ s) ++ post)) (fun _ => Φ) := by
 intro ac w K Q hs hk
 obtain ⟨i, hi, hinf⟩ := Option.map_eq_some_iff.1 hT.info
 simp only [Prod.mk.injEq] at hinf
 obtain ⟨h4, h5, h6⟩ := hinf
 obtain ⟨i2, hi2, hz2⟩ := Option.bind_eq_some_iff.1 hz
 obtain rfl : i = i2 := by rw [hi] at hi2; exact Option.some.inj hi2
 have hsrc := fun w' => Src.ofString (P := P) w' hU (bs s)
 rw [byteCells_bs] at hsrc
 have hw := hs.world
 rw [hL] at hw
 have hsl : (bs s).size = s.length := rfl
 refine up_in (by rw [ho]; rfl) ?_
 unfold Oper.wp
 have hexec : ∀ v w', (Builtin.append_ #[T, U] o.type #[vv r xs.length, .string (bs s)]).run P w = .ok v w' → (execOp ac.eval o).run P w = .ok (.value v) w' := fun v w' h => by
  simp [execOp, ho, resolve, hc, hca, hct, ev_eval hs.has hx, ev_eval hs.has hy, invoke, builtin, h]
 obtain ⟨q, k, j⟩ := r
 by_cases hroom : xs.length + s.length ≤ k
 ·cases q with
  | none =>
   have h0 : xs.length = 0 ∧ k = 0 := hok
   have hs0 : s = [] := List.eq_nil_of_length_eq_zero (by omega)
   have hx0 : xs = [] := List.eq_nil_of_length_eq_zero h0.1
   obtain ⟨_, hk0⟩ := h0
   subst hs0 hx0 hk0
   have := run_append_nothing (P := P) w T U o.type e i hT.ty hi none 0 0 (Nat.le_refl _) (.string (bs [])) (by have := hsrc w; rw [h4]; exact this)
   rw [hexec _ _ this]
   exact hk ⟨⟨none, 0, j⟩, hok⟩ w (by simpa using hw)
  | some b =>
   have hok' : xs.length * 1 + j.length = k * 1 ∧ xs.length ≤ k ∧ k ≤ maxLen := hok
   obtain ⟨p, hp⟩ := hw
   have hbk := (hp.own.1 (bx b (xs.flatMap cU8 ++ j) e) (List.mem_append_right _ (List.mem_append_left _ (by simp [vo])))).1
   have hfl : ∀ l : List UInt8, (l.flatMap cU8).length = l.length := fun l => by rw [flatMap_length (sz := 1) (fun _ => rfl)]; omega
   have := run_app_room (P := P) (w := w) (T := T) (tx := U) (ty := o.type) hT.ty hi (b := b) (sLen := xs.length) (sCap := k) (m := s.length) (TT := e) (x := .string (bs s)) (news := s.flatMap cU8) (cur := (xs.flatMap cU8 ++ j).toArray) (by rw [h4]; exact hsrc w) hbk hroom (by rw [h4]; simp [hfl]; omega)
   rw [hexec _ _ this]
   have e1 : (((xs.flatMap cU8 ++ j).toArray.toList.take (xs.length * i.size) ++ s.flatMap cU8 ++ (xs.flatMap cU8 ++ j).toArray.toList.drop (xs.length * i.size + (s.flatMap cU8).length)).toArray) = (((xs ++ s).flatMap cU8) ++ j.drop s.length).toArray := by
    rw [h4, Nat.mul_one, hfl]
    simp only [List.flatMap_append]
    rw [List.take_append_of_le_length (by rw [hfl]; omega), List.take_of_length_le (by rw [hfl]; omega), List.drop_append, hfl, List.drop_of_length_le (by rw [hfl]; omega), List.nil_append, show xs.length + s.length - xs.length = s.length by omega]
   rw [e1]
   have hkp : KeptBut (([bx b (xs.flatMap cU8 ++ j) e] : Own).map Prod.fst) w (w.setRow b (((xs ++ s).flatMap cU8) ++ j.drop s.length).toArray) := ⟨rfl, rfl, rfl, by simp, fun k' hk' hm => setRow_other w b k' _ (by rintro rfl; exact hm (by simp))⟩
   have hw2 : StW X (pre ++ ([bx b ((xs ++ s).flatMap cU8 ++ j.drop s.length) e] ++ post)) Φ (w.setRow b (((xs ++ s).flatMap cU8) ++ j.drop s.length).toArray) := by
    refine StW.turn (L0 := [bx b (xs.flatMap cU8 ++ j) e]) ⟨p, hp⟩ hkp ?_ (by simp)
    intro e' he
    obtain rfl : e' = _ := by simpa using he
    refine ⟨?_, .inl (by simp)⟩
    have := setRow_heap w b _ (((xs ++ s).flatMap cU8) ++ j.drop s.length).toArray e (0, 0) hbk
    simpa using this
   have := hk ⟨⟨some b, k, j.drop s.length⟩, ?_⟩ _ hw2
   ·simp only [vv, va, List.length_append] at this
    exact this
   ·refine ⟨?_, by simpa using hroom, hok'.2.2⟩
    simp only [List.length_drop, List.length_append]; omega
 ·have hg : k < xs.length + s.length := by omega
  have hpos : 0 < i.size := by rw [h4]; exact Nat.one_pos
  obtain ⟨p, hp⟩ := hw
  have hfl : ∀ l : List UInt8, (l.flatMap cU8).length = l.length := fun l => by rw [flatMap_length (sz := 1) (fun _ => rfl)]; omega
  have hold : ∀ w' : World, (w'.heap = w.heap) → (Builtin.firstCells i.size xs.length (.slice (va q) xs.length k)).run P w' = .ok (xs.flatMap cU8).toArray w' := by
   intro w' hw'
   cases q with
   | none =>
    have h0 : xs.length = 0 ∧ k = 0 := hok
    have hx0 : xs = [] := List.eq_nil_of_length_eq_zero h0.1
    subst hx0
    simp [va, Builtin.firstCells]
   | some b =>
    have hbk := (hp.own.1 (bx b (xs.flatMap cU8 ++ j) e) (List.mem_append_right _ (List.mem_append_left _ (by simp [vo])))).1
    exact run_firstCells_some w' i.size xs.length ⟨b, 0, none⟩ xs.length k (xs.flatMap cU8) (by rw [hfl, h4]; omega) fun t u ht => by
     rw [addr_add]
     simp only [World.cell?, hw', hbk, Nat.zero_add]
     rw [List.getElem?_toArray, List.getElem?_append_left (List.getElem?_eq_some_iff.1 ht).1]
     exact ht
  have hr := run_append_grow_src (P := P) w T U o.type e i (.int .u8 0) hT.ty hi hz2 (va q) xs.length k (xs.flatMap cU8) (hold w.drew rfl) (.string (bs s)) s.length (s.flatMap cU8) (by rw [h4]; exact hsrc w) hg (by omega) (growslice_fits hg (by rw [h5]; omega))
  rw [hexec _ _ hr]
  have hge := grownCap_ge w (xs.length + s.length) k e
  have hcm : grownCap w (xs.length + s.length) k e ≤ maxLen := grownCap_le_maxLen w (xs.length + s.length) k e (by unfold maxLen; omega)
  have hkp : KeptBut ((vo cU8 e ⟨q, k, j⟩ xs).map Prod.fst) w (w.drew.alloc (.cells ((xs.flatMap cU8 ++ s.flatMap cU8).toArray ++ Builtin.zeroCells (Value.int .u8 0).cells (grownCap w (xs.length + s.length) k e - (xs.length + s.length))) e)) :=
   ⟨rfl, rfl, rfl, by simp, fun k' hk' _ => (by show (w.heap.push _)[k']? = _; rw [Array.getElem?_push, if_neg (by omega)])⟩
  have hw2 : StW X (pre ++ ([bx w.heap.size ((xs ++ s).flatMap cU8 ++ (Builtin.zeroCells (Value.int .u8 0).cells (grownCap w (xs.length + s.length) k e - (xs.length + s.length))).toList) e] ++ post)) Φ (w.drew.alloc (.cells ((xs.flatMap cU8 ++ s.flatMap cU8).toArray ++ Builtin.zeroCells (Value.int .u8 0).cells (grownCap w (xs.length + s.length) k e - (xs.length + s.length))) e)) := by
   refine StW.turn (L0 := vo cU8 e ⟨q, k, j⟩ xs) ⟨p, hp⟩ hkp ?_ (by simp)
   intro e' he
   obtain rfl : e' = _ := by simpa using he
   refine ⟨?_, .inr (Nat.le_refl _)⟩
   simp only
   rw [show (w.drew.alloc (Obj.cells ((xs.flatMap cU8 ++ s.flatMap cU8).toArray ++ Builtin.zeroCells (Value.int .u8 0).cells (grownCap w (xs.length + s.length) k e - (xs.length + s.length))) e)).heap[w.heap.size]? = _ from heap_alloc_new w.drew _]
   simp [List.flatMap_append]
  have := hk ⟨⟨some w.heap.size, grownCap w (xs.length + s.length) k e, (Builtin.zeroCells (Value.int .u8 0).cells (grownCap w (xs.length + s.length) k e - (xs.length + s.length))).toList⟩, ?_⟩ _ hw2
  ·simp only [vv, va, List.length_append] at this
   exact this
  ·refine ⟨?_, by simpa using hge, hcm⟩
   have hz1 : (Value.int IntKind.u8 0).cells.size = 1 := rfl
   simp only [Array.length_toList, size_zeroCells, hz1, List.length_append]; omega
end
end Go.Fen

