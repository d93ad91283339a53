import Derived.Test.YtlcaphkcfmlljaaGreatDoorFenT
set_option linter.unusedVariables false
set_option linter.unusedSimpArgs false
namespace Go.Fen
open Go
theorem RowsOk.append {α : Type} {rs rs' : List Slc} {xss xss' : List (List α)} (h1 : RowsOk rs xss) (h2 : RowsOk rs' xss') : RowsOk (rs ++ rs') (xss ++ xss') := by
  refine ⟨by simp [h1.1, h2.1], fun i r xs hr hx => ?_⟩
  by_cases hi : i < rs.length
  · rw [List.getElem?_append_left hi] at hr
    rw [List.getElem?_append_left (by have := h1.1; omega)] at hx
    exact h1.2 i r xs hr hx
  · have := h1.1
    rw [List.getElem?_append_right (by omega)] at hr
    rw [List.getElem?_append_right (by omega)] at hx
    exact h2.2 (i - rs.length) r xs hr (by rw [this]; exact hx)
theorem RowsOk.set {α : Type} {rs : List Slc} {xss : List (List α)} (h : RowsOk rs xss) (k : Nat) {r : Slc} {xs : List α} (hr : r.n = xs.length ∧ r.n ≤ r.k ∧ xs.length ≤ 9223372036854775807) : RowsOk (rs.set k r) (xss.set k xs) := by
  refine ⟨by simp [h.1], fun i r' xs' h1 h2 => ?_⟩
  rw [List.getElem?_set] at h1 h2
  by_cases hk : k = i
  · subst hk
    simp only [if_true] at h1 h2
    split at h1
    · split at h2
      · obtain rfl := Option.some.inj h1
        obtain rfl := Option.some.inj h2
        exact hr
      · cases h2
    · cases h1
  · simp only [hk, if_false] at h1 h2
    exact h.2 i r' xs' h1 h2
section
variable {P : Program} {n : Nat} {X : Cx} {K : Act → World → Prop} {Q : Exit → Act → World → Prop} {E E' : Env} {L L' : Own} {Φ Φ' : List Pers}
theorem rows_append {α : Type} {c : α → List Value} {rs rs' : List Slc} {xss xss' : List (List α)} (hl : rs.length = xss.length) (h1 : Fol1 Φ (rowsF c rs xss)) (h2 : Fol1 Φ (rowsF c rs' xss')) : Fol1 Φ (rowsF c (rs ++ rs') (xss ++ xss')) := fun p hp i r xs hr hx => by
  by_cases hi : i < rs.length
  · rw [List.getElem?_append_left hi] at hr
    rw [List.getElem?_append_left (by omega)] at hx
    exact h1 p hp i r xs hr hx
  · rw [List.getElem?_append_right (by omega)] at hr
    rw [List.getElem?_append_right (by omega)] at hx
    exact h2 p hp (i - rs.length) r xs hr (by rw [hl]; exact hx)
theorem rows_set {α : Type} {c : α → List Value} {rs : List Slc} {xss : List (List α)} (k : Nat) {r : Slc} {xs : List α} (h1 : Fol1 Φ (rowsF c rs xss)) (h2 : Fol1 Φ (sl c r.q xs)) : Fol1 Φ (rowsF c (rs.set k r) (xss.set k xs)) := fun p hp i r' xs' hr hx => by
  rw [List.getElem?_set] at hr hx
  by_cases hk : k = i
  · subst hk
    simp only [if_true] at hr hx
    split at hr
    · split at hx
      · obtain rfl := Option.some.inj hr
        obtain rfl := Option.some.inj hx
        exact h2 p hp
      · cases hx
    · cases hr
  · simp only [hk, if_false] at hr hx
    exact h1 p hp i r' xs' hr hx
/-- append of slices to a slice of slices of one's own. -/
theorem tri_app_rows {o : Oper} {c : Call} {T e by' : Nat} {x y : Operand} {α : Type} {cc : α → List Value} {r : VR} {rs ys : List Slc} {xss yss : List (List α)} {q : Option Addr} {k m kk : Nat} {pre post : Own} (hT : ApTy P T e 1 by')
    (ho : o.op = .call c) (hc : c.callee = .builtin .append) (hca : c.args = #[x, y]) (hct : c.argTypes = #[T, T]) (hx : ev E x = some (vv r k)) (hk : k = xss.length) (hy : ev E y = some (.slice q m kk)) (hm : m = yss.length) (hL : L = pre ++ (vo cSlc e r rs ++ post))
    (hq : Fol1 Φ (sl cSlc q ys)) (h1 : Fol1 Φ (rowsF cc rs xss)) (h2 : Fol1 Φ (rowsF cc ys yss)) (ok1 : RowsOk rs xss) (ok2 : RowsOk ys yss) (hok : VOk 1 xss.length r) (hb : (xss.length + yss.length) * by' ≤ 140737488355328) (h63 : xss.length + yss.length ≤ 9223372036854775807) :
    Tri P n X o E L Φ {r' : VR // VOk 1 (xss ++ yss).length r'} (fun r' => vv r'.1 (xss ++ yss).length) (fun r' => pre ++ (vo cSlc e r'.1 (rs ++ ys) ++ post)) (fun _ => rowsF cc (rs ++ ys) (xss ++ yss) :: Φ) := by
  have e1 := ok1.1
  have e2 := ok2.1
  have e3 : (rs ++ ys).length = (xss ++ yss).length := by simp [e1, e2]
  intro ac w K Q hs hK
  refine tri_app2 (f := cSlc) (xs := rs) (ys := ys) hT (fun _ => rfl) (fun _ => rfl) ho hc hca hct (by rw [e1, ← hk]; exact hx) hy (by omega) hL hq (by rw [e1]; exact hok) (by rw [e1, e2]; exact hb) (by omega) ac w K Q hs fun r' w' hw => ?_
  have := hK ⟨r'.1, e3 ▸ r'.2⟩ w' (by
    obtain ⟨p, hp⟩ := hw
    exact ⟨p, { hp with facts := fun z hz => by rcases List.mem_cons.1 hz with rfl | hz; exact rows_append e1 h1 h2 p hp.facts; exact hp.facts z hz }⟩)
  simp only [e3]
  exact this
theorem run_app_make {w : World} {T tx ty e : TypeId} {i : TypeInfo} {z : Value} (ht : P.underlying T = some (.slice e)) (hx : P.underlying tx = some (.int .i64)) (hi : P.info? e = some i) (hz : i.zero = some z) (m : Nat) (h0 : 0 < m)
    (h63 : m ≤ 9223372036854775807) (h48 : m * i.bytes ≤ 281474976710656) (hs : 0 < i.size) :
    (Builtin.append_ #[T, tx] ty #[.slice none 0 0, .int .i64 m]).run P w =
      .ok (.slice (some ⟨w.heap.size, 0, none⟩) m (grownCap w m 0 e)) (w.drew.alloc (.cells (Builtin.zeroCells z.cells m ++ Builtin.zeroCells z.cells (grownCap w m 0 e - m)) e)) := by
  have hn : m ≠ 0 := by omega
  have h63' : ¬ (9223372036854775807 < (m : Int)) := by omega
  have h48' : ¬ (281474976710656 < Builtin.nextslicecap m 0 * i.bytes) := by rw [nextslicecap_zero h0]; omega
  have hw : IntKind.i64.wrap (m : Int) = m := wrap_in (by show (-9223372036854775808 : Int) ≤ _; omega) (by show _ ≤ (9223372036854775807 : Int); omega)
  have hneg : ¬ ((m : Int) < 0) := by omega
  have hb : ¬ (281474976710656 < (m : Int) * (i.bytes : Int)) := by omega
  have hsz : i.size ≠ 0 := by omega
  simp [Builtin.append_, run_underlying ht, run_underlying hx, sizeOf, typeInfo, zeroValue, hi, hz, Builtin.lenOf, hn, h63', h48', hw, hneg, hb, hsz, Question.forced, run_firstCells_none, newRow, grownCap, asInt, asIntOf]
  intro h; exact absurd h (Nat.mul_ne_zero hn hsz)
/-- a new row of nothing yet, with room: append of so many zeros to none. -/
theorem tri_app_make {o : Oper} {c : Call} {T tx e sz by' m : Nat} {x y : Operand} {α : Type} {f : α → List Value} (hT : ApTy P T e sz by') (htx : P.underlying tx = some (.int .i64))
    (ho : o.op = .call c) (hc : c.callee = .builtin .append) (hca : c.args = #[x, y]) (hct : c.argTypes = #[T, tx]) (hx : ev E x = some (.slice none 0 0)) (hy : ev E y = some (.int .i64 (m : Int))) (h0 : 0 < m) (hb : m * by' ≤ 140737488355328) (h63 : m ≤ 9223372036854775807) :
    Tri P n X o E L Φ {r' : VR // VOk sz 0 r' ∧ m ≤ r'.k} (fun r' => .slice (va r'.1.q) m r'.1.k) (fun r' => L ++ (vo f e r'.1 [] ++ [])) (fun _ => Φ) := by
  intro ac w K Q hs hk
  obtain ⟨i, hi, hinf⟩ := Option.map_eq_some_iff.1 hT.info
  simp only [Prod.mk.injEq] at hinf
  obtain ⟨h4, h5, h6⟩ := hinf
  obtain ⟨z, hz, h6⟩ := Option.map_eq_some_iff.1 h6
  have hpos : 0 < sz := by simpa [Nat.blt_eq] using hT.pos
  have hge := grownCap_ge w m 0 e
  have hle := grownCap_le_maxLen w m 0 e (by simp only [maxLen]; omega)
  refine up_in (by rw [ho]; rfl) ?_
  unfold Oper.wp
  rw [show (execOp ac.eval o).run P w = .ok (.value (.slice (some ⟨w.heap.size, 0, none⟩) m (grownCap w m 0 e))) (w.drew.alloc (.cells (Builtin.zeroCells z.cells m ++ Builtin.zeroCells z.cells (grownCap w m 0 e - m)) e)) by
    simp [execOp, ho, resolve, hc, hca, hct, ev_eval hs.has hx, ev_eval hs.has hy, invoke, builtin, run_app_make (P := P) (ty := o.type) hT.ty htx hi hz m h0 h63 (by rw [h5]; omega) (by omega)]]
  obtain ⟨cur, hcur⟩ : ∃ cur, cur = Builtin.zeroCells z.cells m ++ Builtin.zeroCells z.cells (grownCap w m 0 e - m) := ⟨_, rfl⟩
  rw [← hcur]
  have hlen : cur.toList.length = grownCap w m 0 e * sz := by
    rw [hcur]; simp only [Array.length_toList, Array.size_append, size_zeroCells, h6, ← Nat.add_mul]; congr 1; omega
  have := hk ⟨⟨some w.heap.size, grownCap w m 0 e, cur.toList⟩, ⟨by simp [hlen], Nat.zero_le _, hle⟩, hge⟩ (w.drew.alloc (.cells cur e)) (by
    refine StW.turn (L0 := []) (show StW X (L ++ ([] ++ [])) Φ w by simpa using hs.world) ⟨rfl, rfl, rfl, by simp, fun k hk' _ => heap_alloc_old w.drew _ hk'⟩ ?_ (by simp [vo])
    intro e' he
    obtain rfl : e' = _ := by simpa [vo] using he
    exact ⟨by simpa using heap_alloc_new w.drew (.cells cur e), .inr (Nat.le_refl _)⟩)
  exact (by simpa [va] using this : K (ac.put o.dst (.slice (some ⟨w.heap.size, 0, none⟩) m (grownCap w m 0 e))) (w.drew.alloc (.cells cur e)))
theorem JH_fact1 {ops : Array Oper} {fuel : Nat} {listed : Array Bool} {held : Held} {Φs : List Pers} {q : Pers} (hq : Fol1 Φ q) (h : JH P n X ops fuel listed K held Φs E L (q :: Φ)) : JH P n X ops fuel listed K held Φs E L Φ :=
  ⟨fun h1 h2 hsz hL hΦ a w hs => h.go h1 h2 hsz hL (fun p hp => hΦ p (fun z hz => hp z (List.mem_cons_of_mem _ hz))) a w ⟨hs.size, hs.defers, hs.has, hs.world.fact q hq⟩⟩
theorem det_cap {o : Oper} {c : Call} {T e sz : Nat} {x : Operand} {q : Option Addr} {m k : Nat} (hT : SlTy P T e sz) (ho : o.op = .call c) (hc : c.callee = .builtin .cap) (hca : c.args = #[x]) (hct : c.argTypes = #[T]) (hx : ev E x = some (.slice q m k)) : DetR P X o E L Φ (.int .i64 k) := .of_run fun ac w ha _ => by
  simp [execOp, ho, resolve, hc, hca, hct, ev_eval ha hx, invoke, builtin, Builtin.cap_, run_underlying hT.ty, goInt]
end
end Go.Fen

