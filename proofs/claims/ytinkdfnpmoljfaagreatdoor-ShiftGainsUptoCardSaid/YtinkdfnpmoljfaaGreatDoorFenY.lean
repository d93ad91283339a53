import Derived.Test.YtinkdfnpmoljfaaGreatDoorFenV
import Derived.Carry
import Derived.ChangeSame
import Derived.ChangeArms
import Derived.ChangeShapes
import Derived.Lib.LaidTab
set_option linter.unusedVariables false
set_option linter.unusedSimpArgs false
namespace Go.Fen
open Go Go.RowKit Go.ChangeShapes
/-! How data are read: what a value is made of, from the reading that a row gives. -/
section
variable {P : Program}
/-- Values of type T are written c a, read as data d with D d a, and fulfil p. -/
def Cod (P : Program) (T : TypeId) (α : Type) (c : α → List Value) (D : {H : Type} → DataW H → α → Prop) (p : Hp → α → Prop) : Prop :=
 ∀ {H : Type} {enc : TypeId × Value → H} {w : World} {base : Nat} {sp : Nat → Bool} {held : Bool} {fuel : Nat} {cs : List Value} {x : DataW H × List MemPlace},
  DataW.trod enc P w base sp held fuel T cs = some x → ∃ a : α, cs = c a ∧ D x.1 a ∧ p (fun b => w.heap[b]?) a
def dInt {H : Type} (d : DataW H) (n : Int) : Prop := d = .lit (.int .i64 n)
def dBool {H : Type} (d : DataW H) (b : Bool) : Prop := d = .lit (.bool b)
def dStr {H : Type} (d : DataW H) (s : List UInt8) : Prop := d = .lit (.string s)
def i64In (n : Int) : Prop := -9223372036854775808 ≤ n ∧ n ≤ 9223372036854775807
theorem wf_in {k : IntKind} {n : Int} (h : (Lit.int k n).wf = true) : k.min ≤ n ∧ n ≤ k.max := by
 simpa only [Lit.wf, decide_eq_true_eq, Bool.and_eq_true] using h
theorem cod_int {T : TypeId} (ht : P.underlying T = some (.int .i64)) : Cod P T Int cInt dInt (fun _ => i64In) := fun h => by
 obtain ⟨n, rfl, rfl, hw⟩ := DataW.trod_int ht h
 exact ⟨n, rfl, rfl, wf_in hw⟩
theorem cod_bool {T : TypeId} (ht : P.underlying T = some .bool) : Cod P T Bool cBool dBool (fun _ _ => True) := fun h => by
 obtain ⟨b, rfl, rfl⟩ := DataW.trod_bool ht h
 exact ⟨b, rfl, rfl, trivial⟩
theorem cod_str {T : TypeId} (ht : P.underlying T = some .string) : Cod P T (List UInt8) cStr dStr (fun _ s => s.length ≤ 9223372036854775807) := fun h => by
 obtain ⟨s, rfl, rfl, hs⟩ := DataW.trod_string ht h
 refine ⟨s.data.toList, by simp [cStr, bs], rfl, ?_⟩
 have e : s.data.toList.length = s.size := by simp
 show s.data.toList.length ≤ 9223372036854775807
 rw [e]; simpa [maxLen] using hs
theorem mapM_get {α β : Type} {f : α → Option β} {l : List α} {r : List β} (h : l.mapM f = some r) (i : Nat) (a : α) (ha : l[i]? = some a) : ∃ b, r[i]? = some b ∧ f a = some b := Lib.mapM_at h i a ha
theorem parts_cons {cs : List Value} {o n m : Nat} {u rest : List Value} (h : (cs.drop o).take n = u) (hr : cs.drop m = rest) (hm : o + n = m) : cs.drop o = u ++ rest := by
 subst h hr hm; rw [← List.drop_drop, List.take_append_drop]
/-- A struct's fields, one by one. -/
theorem trod_struct {H : Type} {enc : TypeId × Value → H} {w : World} {base : Nat} {sp : Nat → Bool} {held : Bool} {fuel : Nat} {T : TypeId} {cs : List Value} {x : DataW H × List MemPlace} {fs : Array Field}
  (ht : P.underlying T = some (.struct fs)) (h : DataW.trod enc P w base sp held fuel T cs = some x) :
  cs.length = P.cellsOf T ∧ ∃ (n : Nat) (ys : List (DataW H × List MemPlace)), fuel = n + 1 ∧ x.1 = .agg (ys.map (·.1)) ∧ ys.length = fs.size ∧ ∀ (i : Nat) f, fs[i]? = some f → ∃ y, ys[i]? = some y ∧ DataW.trod enc P w base sp held n f.type ((cs.drop f.offset).take (P.cellsOf f.type)) = some y := by
 cases fuel with
 | zero => simp [DataW.trod] at h
 | succ n =>
  unfold DataW.trod at h
  simp only [ht] at h
  split at h
  ·rename_i hl
   obtain ⟨ys, hm, rfl⟩ := Option.map_eq_some_iff.1 h
   refine ⟨hl, n, ys, rfl, rfl, by simpa using Lib.mapM_length hm, fun i f hf => ?_⟩
   exact mapM_get hm i f (by simpa using hf)
  ·cases h
theorem trod_array {H : Type} {enc : TypeId × Value → H} {w : World} {base : Nat} {sp : Nat → Bool} {held : Bool} {fuel : Nat} {T e : TypeId} {k : Nat} {cs : List Value} {x : DataW H × List MemPlace}
  (ht : P.underlying T = some (.array k e)) (h : DataW.trod enc P w base sp held fuel T cs = some x) :
  cs.length = P.cellsOf T ∧ ∃ (n : Nat) (ys : List (DataW H × List MemPlace)), fuel = n + 1 ∧ x.1 = .agg (ys.map (·.1)) ∧ ys.length = k ∧ ∀ (i : Nat), i < k → ∃ y, ys[i]? = some y ∧ DataW.trod enc P w base sp held n e ((cs.drop (i * P.cellsOf e)).take (P.cellsOf e)) = some y := by
 cases fuel with
 | zero => simp [DataW.trod] at h
 | succ n =>
  unfold DataW.trod at h
  simp only [ht] at h
  split at h
  ·rename_i hl
   obtain ⟨ys, hm, rfl⟩ := Option.map_eq_some_iff.1 h
   refine ⟨hl, n, ys, rfl, rfl, by simpa using Lib.mapM_length hm, fun i hi => ?_⟩
   exact mapM_get hm i i (by simp [hi])
  ·cases h
/-- Everything that lies in the world, as known. -/
abbrev hpOf (w : World) : Hp := fun b => w.heap[b]?
theorem cells_mem {w : World} {base : Nat} {a : Addr} {n : Nat} {us : List Value} (h : w.cells? base a n = some us) : us.length = n ∧ ∀ j, j < n → w.cell? (a.add j) = us[j]? := by
 unfold World.cells? at h
 split at h
 ·refine ⟨by simpa using Lib.mapM_length h, fun j hj => ?_⟩
  obtain ⟨b, hb, hc⟩ := mapM_get h j j (by simp [hj])
  rw [hc, hb]
 ·cases h
theorem cell_heap {w : World} {a : Addr} {v : Value} (h : w.cell? a = some v) : a.spot = none ∧ ∃ c T fr, w.heap[a.block]? = some (.cells c T fr) ∧ c[a.off]? = some v := by
 unfold World.cell? at h
 cases hs : a.spot with
 | none =>
  rw [hs] at h
  split at h <;> simp_all
 | some s => rw [hs] at h; split at h <;> simp_all
theorem add_block (a : Addr) (n : Nat) : (a.add n).block = a.block := by unfold Addr.add; split <;> rfl
theorem add_off (a : Addr) (n : Nat) : (a.add n).off = a.off + n := by unfold Addr.add; split <;> simp_all
theorem add_add' (a : Addr) (n m : Nat) : (a.add n).add m = a.add (n + m) := by
 unfold Addr.add
 split <;> split <;> split <;> simp_all [Nat.add_assoc]
/-- A slice of such values. -/
theorem open_sl {T e sz : TypeId} {α : Type} {c : α → List Value} {D : {H : Type} → DataW H → α → Prop} {p : Hp → α → Prop} (hc : Cod P e α c D p) (hcl : ∀ x, (c x).length = sz) (hsz : P.cellsOf e = sz) (h0 : 0 < sz) (ht : P.underlying T = some (.slice e))
  {H : Type} {enc : TypeId × Value → H} {w : World} {base : Nat} {sp : Nat → Bool} {held : Bool} {fuel : Nat} {cs : List Value} {x : DataW H × List MemPlace} (h : DataW.trod enc P w base sp held fuel T cs = some x) :
  ∃ (q : Option Addr) (k : Nat) (xs : List α), cs = [.slice q xs.length k] ∧ xs.length ≤ k ∧ k ≤ 9223372036854775807 ∧ (∀ a ∈ xs, p (hpOf w) a) ∧ (sl c q xs).p (hpOf w) ∧
   ((q = none ∧ xs = [] ∧ k = 0) ∨ ∃ (es rest : List (DataW H)), x.1 = .slice es rest ∧ es.length = xs.length ∧ ∀ (i : Nat) (d : DataW H) (a : α), es[i]? = some d → xs[i]? = some a → D d a) := by
 cases fuel with
 | zero => simp [DataW.trod] at h
 | succ n =>
  unfold DataW.trod at h
  simp only [ht] at h
  split at h
  all_goals try (simp_all; done)
  ·rename_i heq
   simp only [Option.some.injEq, TypeDesc.slice.injEq] at heq
   exact ⟨none, 0, [], rfl, Nat.le_refl _, Nat.zero_le _, by simp, rfl, .inl ⟨rfl, rfl, rfl⟩⟩
  ·rename_i e' a len cap heq
   simp only [Option.some.injEq, TypeDesc.slice.injEq] at heq
   subst heq
   split at h
   ·rename_i hb
    obtain ⟨hb1, hb2, hb3⟩ := hb
    obtain ⟨es, hm, h⟩ := Option.bind_eq_some_iff.1 h
    obtain ⟨rest, _, rfl⟩ := Option.map_eq_some_iff.1 h
    have hlen : es.length = len := by simpa using Lib.mapM_length hm
    have hel : ∀ i, i < len → ∃ y, es[i]? = some y ∧ ∃ us, w.cells? base (a.add (i * P.cellsOf e)) (P.cellsOf e) = some us ∧ DataW.trod enc P w base sp held n e us = some y := fun i hi => by
     obtain ⟨y, hy, hyy⟩ := mapM_get hm i i (by simp [hi])
     obtain ⟨us, hu, hut⟩ := Option.bind_eq_some_iff.1 hyy
     exact ⟨y, hy, us, hu, hut⟩
    have hex : ∀ m, m ≤ len → ∃ xs : List α, xs.length = m ∧ (∀ a ∈ xs, p (hpOf w) a) ∧ ∀ i, i < m → ∃ y v, es[i]? = some y ∧ xs[i]? = some v ∧ D y.1 v ∧ w.cells? base (a.add (i * P.cellsOf e)) (P.cellsOf e) = some (c v) := by
     intro m
     induction m with
     | zero => exact fun _ => ⟨[], rfl, by simp, fun i hi => by omega⟩
     | succ m ih =>
      intro hmm
      obtain ⟨xs, hxl, hxp, hx⟩ := ih (by omega)
      obtain ⟨y, hy, us, hu, hut⟩ := hel m (by omega)
      obtain ⟨v, rfl, hd, hp⟩ := hc hut
      refine ⟨xs ++ [v], by simp [hxl], fun a ha => ?_, fun i hi => ?_⟩
      ·rcases List.mem_append.1 ha with ha | ha
       ·exact hxp a ha
       ·rw [List.mem_singleton.1 ha]; exact hp
      ·by_cases him : i < m
       ·obtain ⟨y', v', h1, h2, h3, h4⟩ := hx i him
        exact ⟨y', v', h1, by rw [List.getElem?_append_left (by omega)]; exact h2, h3, h4⟩
       ·obtain rfl : i = m := by omega
        exact ⟨y, v, hy, by rw [List.getElem?_append_right (by omega), hxl]; simp, hd, hu⟩
    obtain ⟨xs, hxl, hxp, hx⟩ := hex len (Nat.le_refl _)
    subst hxl
    refine ⟨some a, cap, xs, rfl, hb2, by simpa [maxLen] using hb3, hxp, ?_, .inr ⟨es.map (·.1), rest.map (·.1), rfl, by simpa using hlen, fun i d v hd hv => ?_⟩⟩
    ·show Cells (hpOf w) a (xs.flatMap c)
     cases hxs : xs with
     | nil => exact .inl rfl
     | cons x0 xr =>
      rw [← hxs]
      have hpos : 0 < xs.length := by rw [hxs]; simp
      have hcell : ∀ i j, i < xs.length → j < sz → w.cell? (a.add (i * sz + j)) = (xs.flatMap c)[i * sz + j]? := by
       intro i j hi hj
       obtain ⟨y, v, _, h2, _, h4⟩ := hx i hi
       have := (cells_mem h4).2 j (by rw [hsz]; exact hj)
       rw [hsz] at this
       rw [flat_getk hcl v hi hj, show xs.getD i v = v by rw [List.getD_eq_getElem?_getD, h2]; rfl, ← this, add_add']
      have hfl : (xs.flatMap c).length = xs.length * sz := flatMap_length hcl xs
      have h00 := hcell 0 0 hpos h0
      obtain ⟨v0, hv0⟩ : ∃ v0, (xs.flatMap c)[0 * sz + 0]? = some v0 := by
       rw [List.getElem?_eq_getElem (show 0 * sz + 0 < (xs.flatMap c).length by rw [hfl, Nat.zero_mul]; exact Nat.mul_pos hpos h0)]; exact ⟨_, rfl⟩
      rw [hv0] at h00
      obtain ⟨hs, cc, TT, fr, hh, _⟩ := cell_heap h00
      have hh2 : w.heap[a.block]? = some (.cells cc TT fr) := by simpa [add_block] using hh
      refine .inr ⟨by simpa [Addr.add] using hs, cc, TT, fr, hh2, fun j v hj => ?_⟩
      have hjl := (List.getElem?_eq_some_iff.1 hj).1
      rw [hfl] at hjl
      have e1 : j / sz * sz + j % sz = j := by rw [Nat.mul_comm]; exact Nat.div_add_mod j sz
      have h1 := hcell (j / sz) (j % sz) (by rw [Nat.div_lt_iff_lt_mul h0]; exact hjl) (Nat.mod_lt _ h0)
      rw [e1, hj] at h1
      obtain ⟨_, cc', TT', fr', hh', hv'⟩ := cell_heap h1
      have hh3 : w.heap[a.block]? = some (.cells cc' TT' fr') := by simpa [add_block] using hh'
      have : cc' = cc := by
       rw [hh2] at hh3; simp at hh3; exact hh3.1.symm
      rw [← this]; simpa [add_off] using hv'
    ·obtain ⟨y, v', h1, h2, h3, _⟩ := hx i (List.getElem?_eq_some_iff.1 hv).1
     rw [hv] at h2
     obtain rfl : v = v' := Option.some.inj h2
     rw [List.getElem?_map, h1] at hd
     obtain rfl : y.1 = d := Option.some.inj hd
     exact h3
   ·cases h
/-- What is known of a slice that lies in memory. -/
def rowP {α : Type} (c : α → List Value) (p : Hp → α → Prop) (h : Hp) (r : Slc) : Prop := ∃ xs : List α, r.n = xs.length ∧ r.n ≤ r.k ∧ xs.length ≤ 9223372036854775807 ∧ (sl c r.q xs).p h ∧ ∀ a ∈ xs, p h a
theorem cod_slc {T e sz : TypeId} {α : Type} {c : α → List Value} {D : {H : Type} → DataW H → α → Prop} {p : Hp → α → Prop} (hc : Cod P e α c D p) (hcl : ∀ x, (c x).length = sz) (hsz : P.cellsOf e = sz) (h0 : 0 < sz) (ht : P.underlying T = some (.slice e)) :
  Cod P T Slc cSlc (fun _ _ => True) (rowP c p) := fun h => by
 obtain ⟨q, k, xs, rfl, h1, h2, h3, h4, _⟩ := open_sl hc hcl hsz h0 ht h
 exact ⟨⟨q, xs.length, k⟩, rfl, trivial, xs, rfl, h1, by omega, h4, h3⟩
theorem rows_of {α : Type} {c : α → List Value} {p : Hp → α → Prop} {h : Hp} : ∀ (rs : List Slc), (∀ r ∈ rs, rowP c p h r) → ∃ xss : List (List α), RowsOk rs xss ∧ (rowsF c rs xss).p h ∧ ∀ xs ∈ xss, ∀ a ∈ xs, p h a
 | [], _ => ⟨[], .none, fun i r xs h => by simp at h, by simp⟩
 | r :: rs, hr => by
  obtain ⟨xs, h1, h2, h3, h4, h5⟩ := hr r (List.mem_cons_self ..)
  obtain ⟨xss, g1, g2, g3⟩ := rows_of rs fun r' h' => hr r' (List.mem_cons_of_mem _ h')
  refine ⟨xs :: xss, .cons ⟨h1, h2, h3⟩ g1, fun i r' xs' hr' hx => ?_, fun ys hy => ?_⟩
  ·cases i with
   | zero => simp at hr' hx; subst hr' hx; exact h4
   | succ i => exact g2 i r' xs' (by simpa using hr') (by simpa using hx)
  ·rcases List.mem_cons.1 hy with rfl | hy
   ·exact h5
   ·exact g3 ys hy
theorem open_rows {T S e sz : TypeId} {α : Type} {c : α → List Value} {D : {H : Type} → DataW H → α → Prop} {p : Hp → α → Prop} (hc : Cod P e α c D p) (hcl : ∀ x, (c x).length = sz) (hsz : P.cellsOf e = sz) (h0 : 0 < sz) (hs : P.underlying S = some (.slice e)) (hs1 : P.cellsOf S = 1) (ht : P.underlying T = some (.slice S))
  {H : Type} {enc : TypeId × Value → H} {w : World} {base : Nat} {sp : Nat → Bool} {held : Bool} {fuel : Nat} {cs : List Value} {x : DataW H × List MemPlace} (h : DataW.trod enc P w base sp held fuel T cs = some x) :
  ∃ (q : Option Addr) (k : Nat) (rs : List Slc) (xss : List (List α)), cs = [.slice q xss.length k] ∧ xss.length ≤ k ∧ k ≤ 9223372036854775807 ∧ RowsOk rs xss ∧ (sl cSlc q rs).p (hpOf w) ∧ (rowsF c rs xss).p (hpOf w) ∧ ∀ xs ∈ xss, ∀ a ∈ xs, p (hpOf w) a := by
 obtain ⟨q, k, rs, rfl, h1, h2, h3, h4, _⟩ := open_sl (c := cSlc) (D := fun _ _ => True) (p := rowP c p) (cod_slc hc hcl hsz h0 hs) (sz := 1) (fun _ => rfl) hs1 Nat.one_pos ht h
 obtain ⟨xss, g1, g2, g3⟩ := rows_of rs h3
 exact ⟨q, k, rs, xss, by rw [g1.1], by rw [← g1.1]; exact h1, h2, g1, h4, g2, g3⟩
/-- A package's table: an array of such values that reads as said. -/
theorem open_tab {T e sz k : Nat} {α : Type} {c : α → List Value} {D : {H : Type} → DataW H → α → Prop} {p : Hp → α → Prop} (hc : Cod P e α c D p) (hcl : ∀ x, (c x).length = sz) (hsz : P.cellsOf e = sz) (ht : P.underlying T = some (.array k e)) (hT : P.cellsOf T = k * sz)
  (dec : DataW Unit → Option α) (hdec : ∀ d a, D d a → dec d = some a) {tab : List α} {ds : List (DataW Unit)} (htab : ds.mapM dec = some tab)
  {enc : TypeId × Value → Unit} {w : World} {base : Nat} {sp : Nat → Bool} {held : Bool} {fuel : Nat} {cs : List Value} {ps : List MemPlace} (h : DataW.trod enc P w base sp held fuel T cs = some (.agg ds, ps)) : cs = tab.flatMap c := by
 obtain ⟨hl, n, ys, rfl, hx, hyl, hy⟩ := trod_array ht h
 have hds : ds = ys.map (·.1) := by simpa using hx
 have hdl : ds.length = k := by rw [hds]; simpa using hyl
 have htl : tab.length = k := by rw [← hdl]; exact Lib.mapM_length htab
 have key : ∀ (i : Nat), i < k → ∃ a, tab[i]? = some a ∧ (cs.drop (i * sz)).take sz = c a := by
  intro i hi
  obtain ⟨y, h1, h2⟩ := hy i hi
  rw [hsz] at h2
  obtain ⟨a, h3, h4, _⟩ := hc h2
  obtain ⟨b, h5, h6⟩ := mapM_get htab i y.1 (by rw [hds]; simp [h1])
  rw [hdec _ _ h4] at h6
  obtain rfl : a = b := Option.some.inj h6
  exact ⟨a, h5, h3⟩
 rw [hT, ← htl] at hl
 apply List.ext_getElem?
 intro j
 by_cases hj : j < tab.length * sz
 ·have hsz0 : 0 < sz := by
   rcases Nat.eq_zero_or_pos sz with h0 | h0
   ·rw [h0, Nat.mul_zero] at hj; omega
   ·exact h0
  have hk : j / sz < tab.length := by rw [Nat.div_lt_iff_lt_mul hsz0]; exact hj
  have hm : j % sz < sz := Nat.mod_lt _ hsz0
  have e1 : j / sz * sz + j % sz = j := by rw [Nat.mul_comm]; exact Nat.div_add_mod j sz
  obtain ⟨a, h0, h1⟩ := key (j / sz) (by omega)
  have h2 := flat_getk hcl a hk hm
  rw [e1] at h2
  rw [h2, show tab.getD (j / sz) a = a by simp [List.getD_eq_getElem?_getD, h0], ← h1, List.getElem?_take, if_pos hm, List.getElem?_drop, e1]
 ·rw [List.getElem?_eq_none (by omega), List.getElem?_eq_none (by rw [flatMap_length hcl]; omega)]
/-- The table lies in the world. -/
theorem laid_fact {laid : List (String × DataW Unit)} {w : World} {name : String} {g T : Nat} {ds : List (DataW Unit)} (hm : (name, .agg ds) ∈ laid) (hg : P.globalNamed name = some g) (hT : (P.globals[g]?).map (·.type) = some T)
  {e sz k : Nat} {α : Type} {c : α → List Value} {D : {H : Type} → DataW H → α → Prop} {p : Hp → α → Prop} (hc : Cod P e α c D p) (hcl : ∀ x, (c x).length = sz) (hsz : P.cellsOf e = sz) (ht : P.underlying T = some (.array k e)) (hTc : P.cellsOf T = k * sz)
  (dec : DataW Unit → Option α) (hdec : ∀ d a, D d a → dec d = some a) {tab : List α} (htab : ds.mapM dec = some tab) (h : laidMet P laid w) : (sl c (some ⟨g, 0, none⟩) tab).p (hpOf w) := by
 obtain ⟨ps, h, _⟩ := h
 have : ∀ (l : List (String × DataW Unit)) (ps : List MemPlace), DataW.LaidVars P w l ps → (name, .agg ds) ∈ l → ∃ cs fuel q, w.var? P name = some cs ∧ DataW.trod (fun _ => ()) P w 0 (fun _ => true) false fuel T cs.toList = some (.agg ds, q) := by
  intro l
  induction l with
  | nil => intro ps _ hm; cases hm
  | cons y r ih =>
   intro ps h hm
   obtain ⟨n, d⟩ := y
   obtain ⟨g', t, cs, fuel, p', q, h1, h2, h3, h4, h5, _⟩ := h
   rcases List.mem_cons.1 hm with e | hm
   ·simp only [Prod.mk.injEq] at e
    obtain ⟨rfl, rfl⟩ := e
    rw [hg] at h1
    obtain rfl : g = g' := Option.some.inj h1
    rw [hT] at h2
    obtain rfl : T = t := Option.some.inj h2
    exact ⟨cs, fuel, p', h3, h4⟩
   ·exact ih q h5 hm
 obtain ⟨cs, fuel, q, hv, htr⟩ := this laid ps h hm
 have hcs := open_tab hc hcl hsz ht hTc dec hdec htab htr
 unfold World.var? at hv
 rw [hg] at hv
 simp only [Option.bind_some] at hv
 split at hv
 ·rename_i cs' TT fr hh
  obtain rfl : cs' = cs := Option.some.inj hv
  refine .inr ⟨rfl, cs', TT, fr, hh, fun j v hj => ?_⟩
  rw [← hcs] at hj
  simpa using hj
 ·cases hv
/-- What a call that answers true and turns nothing leaves. -/
theorem post_true {f : Func} {s : ChangeSpec} {H : Type} {enc : TypeId × Value → H} (hl : laidOutB P = true) (hts : (f.params.toList.all fun t => P.readableRec t && decide (t < P.types.size)) = true) (hres : f.resultTypes = #[4]) (hb : P.underlying 4 = some .bool) (hv : s.vars = [])
  {W W' : World} {args : Array Value} {ds gs : List (DataW H)} {before : List MemPlace} (hW : DataW.Whole enc P f.params.toList s.vars false W args.toList ds gs before) (hk : Below W.heap.size W W')
  (hfn : s.fn H ds = { results := [.lit (.bool true)], args := ds }) : s.post enc P f false true false false W args (.bool true) W' := by
 have hW0 := hW
 obtain ⟨p, q, hA, hV, rfl, hfz, hnd⟩ := hW
 rw [hv] at hV
 have hgs : gs = [] ∧ q = [] := by
  cases gs with
  | nil => exact ⟨rfl, hV⟩
  | cons g gs => exact hV.elim
 obtain ⟨rfl, rfl⟩ := hgs
 simp only [List.append_nil] at hW0
 have hlt : ∀ x ∈ p, x.block < W.heap.size := fun x hx => hW0.lt x hx
 have hfn' : s.fn H (ds ++ []) = { results := [.lit (.bool true)], args := ds } := by simpa using hfn
 have hargs : ∀ (ts : List TypeId) (vs : List Value) (ds : List (DataW H)) (ps : List MemPlace), (ts.all fun t => P.readableRec t && decide (t < P.types.size)) = true → DataW.TrodAll enc P W 0 (fun _ => true) true ts vs ds ps → (∀ x ∈ ps, x.block < W.heap.size) → DataW.TrodAll enc P W' 0 (fun b => decide (b < W.heap.size)) true ts vs ds ps := by
  intro ts
  induction ts with
  | nil => intro vs ds ps _ h _; cases vs <;> cases ds <;> exact h
  | cons t ts ih =>
   intro vs ds ps ha h hx
   cases vs with
   | nil => cases ds <;> exact h.elim
   | cons v vs =>
    cases ds with
    | nil => exact h.elim
    | cons d ds =>
     simp only [List.all_cons, Bool.and_eq_true, decide_eq_true_eq] at ha
     obtain ⟨p1, q1, h1, h2, rfl⟩ := h
     exact ⟨p1, q1, Below.trod hl ha.1.1 ha.1.2 h1 hk (fun x hx' => hx x (List.mem_append_left _ hx')), ih vs ds q1 (by simpa using ha.2) h2 (fun x hx' => hx x (List.mem_append_right _ hx')), rfl⟩
 refine ⟨ds, [], p, [], p, [], hW0, ?_, ?_, ?_, hk.frame _, fun h => by cases h⟩
 ·rw [hfn', hres]
  refine ⟨[], [], ⟨1, ?_⟩, rfl, rfl⟩
  simp [DataW.trod, hb, Value.cells, Value.resultList]
 ·rw [hfn']; exact hargs _ _ _ _ hts hA hlt
 ·rw [hfn', hv]; rfl
end
end Go.Fen

