import Derived.Test.YtinkdfnpmoljfaaGreatDoorFenV
import Derived.Carry
import Derived.ChangeSame
import Derived.ChangeArms
import Derived.ChangeShapes
import Derived.Lib.LaidTab
set_option linter.unusedVariables false
set_option linter.unusedSimpArgs false
namespace Go.Fen
open Go Go.RowKit Go.ChangeShapes
/-! How data are read: what a value is made of, from the reading that a row gives. -/
section
variable {P : Program}
/-- Values of type T are written c a, read as data d with D d a, and fulfil p. -/
def Cod (P : Program) (T : TypeId) (α : Type) (c : α → List Value) (D : {H : Type} → DataW H → α → Prop) (p : Hp → α → Prop) : Prop :=
 ∀ {H : Type} {enc : TypeId × Value → H} {w : World} {base : Nat} {sp : Nat → Bool} {held : Bool} {fuel : Nat} {cs : List Value} {x : DataW H × List MemPlace},
  DataW.trod enc P w base sp held fuel T cs = some x → ∃ a : α, cs = c a ∧ D x.1 a ∧ p (fun b => w.heap[b]?) a
def dInt {H : Type} (d : DataW H) (n : Int) : Prop := d = .lit (.int .i64 n)
def i64In (n : Int) : Prop := -9223372036854775808 ≤ n ∧ n ≤ 9223372036854775807
theorem wf_in {k : IntKind} {n : Int} (h : (Lit.int k n).wf = true) : k.min ≤ n ∧ n ≤ k.max := by
 simpa only [Lit.wf, decide_eq_true_eq, Bool.and_eq_true] using h
theorem cod_int {T : TypeId} (ht : P.underlying T = some (.int .i64)) : Cod P T Int cInt dInt (fun _ => i64In) := fun h => by
 obtain ⟨n, rfl, rfl, hw⟩ := DataW.trod_int ht h
 exact ⟨n, rfl, rfl, wf_in hw⟩
theorem mapM_get {α β : Type} {f : α → Option β} {l : List α} {r : List β} (h : l.mapM f = some r) (i : Nat) (a : α) (ha : l[i]? = some a) : ∃ b, r[i]? = some b ∧ f a = some b := Lib.mapM_at h i a ha
theorem parts_cons {cs : List Value} {o n m : Nat} {u rest : List Value} (h : (cs.drop o).take n = u) (hr : cs.drop m = rest) (hm : o + n = m) : cs.drop o = u ++ rest := by
 subst h hr hm; rw [← List.drop_drop, List.take_append_drop]
/-- A struct's fields, one by one. -/
theorem trod_struct {H : Type} {enc : TypeId × Value → H} {w : World} {base : Nat} {sp : Nat → Bool} {held : Bool} {fuel : Nat} {T : TypeId} {cs : List Value} {x : DataW H × List MemPlace} {fs : Array Field}
  (ht : P.underlying T = some (.struct fs)) (h : DataW.trod enc P w base sp held fuel T cs = some x) :
  cs.length = P.cellsOf T ∧ ∃ (n : Nat) (ys : List (DataW H × List MemPlace)), fuel = n + 1 ∧ x.1 = .agg (ys.map (·.1)) ∧ ys.length = fs.size ∧ ∀ (i : Nat) f, fs[i]? = some f → ∃ y, ys[i]? = some y ∧ DataW.trod enc P w base sp held n f.type ((cs.drop f.offset).take (P.cellsOf f.type)) = some y := by
 cases fuel with
 | zero => simp [DataW.trod] at h
 | succ n =>
  unfold DataW.trod at h
  simp only [ht] at h
  split at h
  ·rename_i hl
   obtain ⟨ys, hm, rfl⟩ := Option.map_eq_some_iff.1 h
   refine ⟨hl, n, ys, rfl, rfl, by simpa using Lib.mapM_length hm, fun i f hf => ?_⟩
   exact mapM_get hm i f (by simpa using hf)
  ·cases h
theorem trod_array {H : Type} {enc : TypeId × Value → H} {w : World} {base : Nat} {sp : Nat → Bool} {held : Bool} {fuel : Nat} {T e : TypeId} {k : Nat} {cs : List Value} {x : DataW H × List MemPlace}
  (ht : P.underlying T = some (.array k e)) (h : DataW.trod enc P w base sp held fuel T cs = some x) :
  cs.length = P.cellsOf T ∧ ∃ (n : Nat) (ys : List (DataW H × List MemPlace)), fuel = n + 1 ∧ x.1 = .agg (ys.map (·.1)) ∧ ys.length = k ∧ ∀ (i : Nat), i < k → ∃ y, ys[i]? = some y ∧ DataW.trod enc P w base sp held n e ((cs.drop (i * P.cellsOf e)).take (P.cellsOf e)) = some y := by
 cases fuel with
 | zero => simp [DataW.trod] at h
 | succ n =>
  unfold DataW.trod at h
  simp only [ht] at h
  split at h
  ·rename_i hl
   obtain ⟨ys, hm, rfl⟩ := Option.map_eq_some_iff.1 h
   refine ⟨hl, n, ys, rfl, rfl, by simpa using Lib.mapM_length hm, fun i hi => ?_⟩
   exact mapM_get hm i i (by simp [hi])
  ·cases h
/-- Everything that lies in the world, as known. -/
abbrev hpOf (w : World) : Hp := fun b => w.heap[b]?
/-- A package's table: an array of such values that reads as said. -/
theorem open_tab {T e sz k : Nat} {α : Type} {c : α → List Value} {D : {H : Type} → DataW H → α → Prop} {p : Hp → α → Prop} (hc : Cod P e α c D p) (hcl : ∀ x, (c x).length = sz) (hsz : P.cellsOf e = sz) (ht : P.underlying T = some (.array k e)) (hT : P.cellsOf T = k * sz)
  (dec : DataW Unit → Option α) (hdec : ∀ d a, D d a → dec d = some a) {tab : List α} {ds : List (DataW Unit)} (htab : ds.mapM dec = some tab)
  {enc : TypeId × Value → Unit} {w : World} {base : Nat} {sp : Nat → Bool} {held : Bool} {fuel : Nat} {cs : List Value} {ps : List MemPlace} (h : DataW.trod enc P w base sp held fuel T cs = some (.agg ds, ps)) : cs = tab.flatMap c := by
 obtain ⟨hl, n, ys, rfl, hx, hyl, hy⟩ := trod_array ht h
 have hds : ds = ys.map (·.1) := by simpa using hx
 have hdl : ds.length = k := by rw [hds]; simpa using hyl
 have htl : tab.length = k := by rw [← hdl]; exact Lib.mapM_length htab
 have key : ∀ (i : Nat), i < k → ∃ a, tab[i]? = some a ∧ (cs.drop (i * sz)).take sz = c a := by
  intro i hi
  obtain ⟨y, h1, h2⟩ := hy i hi
  rw [hsz] at h2
  obtain ⟨a, h3, h4, _⟩ := hc h2
  obtain ⟨b, h5, h6⟩ := mapM_get htab i y.1 (by rw [hds]; simp [h1])
  rw [hdec _ _ h4] at h6
  obtain rfl : a = b := Option.some.inj h6
  exact ⟨a, h5, h3⟩
 rw [hT, ← htl] at hl
 apply List.ext_getElem?
 intro j
 by_cases hj : j < tab.length * sz
 ·have hsz0 : 0 < sz := by
   rcases Nat.eq_zero_or_pos sz with h0 | h0
   ·rw [h0, Nat.mul_zero] at hj; omega
   ·exact h0
  have hk : j / sz < tab.length := by rw [Nat.div_lt_iff_lt_mul hsz0]; exact hj
  have hm : j % sz < sz := Nat.mod_lt _ hsz0
  have e1 : j / sz * sz + j % sz = j := by rw [Nat.mul_comm]; exact Nat.div_add_mod j sz
  obtain ⟨a, h0, h1⟩ := key (j / sz) (by omega)
  have h2 := flat_getk hcl a hk hm
  rw [e1] at h2
  rw [h2, show tab.getD (j / sz) a = a by simp [List.getD_eq_getElem?_getD, h0], ← h1, List.getElem?_take, if_pos hm, List.getElem?_drop, e1]
 ·rw [List.getElem?_eq_none (by omega), List.getElem?_eq_none (by rw [flatMap_length hcl]; omega)]
/-- The table lies in the world. -/
theorem laid_fact {laid : List (String × DataW Unit)} {w : World} {name : String} {g T : Nat} {ds : List (DataW Unit)} (hm : (name, .agg ds) ∈ laid) (hg : P.globalNamed name = some g) (hT : (P.globals[g]?).map (·.type) = some T)
  {e sz k : Nat} {α : Type} {c : α → List Value} {D : {H : Type} → DataW H → α → Prop} {p : Hp → α → Prop} (hc : Cod P e α c D p) (hcl : ∀ x, (c x).length = sz) (hsz : P.cellsOf e = sz) (ht : P.underlying T = some (.array k e)) (hTc : P.cellsOf T = k * sz)
  (dec : DataW Unit → Option α) (hdec : ∀ d a, D d a → dec d = some a) {tab : List α} (htab : ds.mapM dec = some tab) (h : laidMet P laid w) : (sl c (some ⟨g, 0, none⟩) tab).p (hpOf w) := by
 obtain ⟨ps, h, _⟩ := h
 have : ∀ (l : List (String × DataW Unit)) (ps : List MemPlace), DataW.LaidVars P w l ps → (name, .agg ds) ∈ l → ∃ cs fuel q, w.var? P name = some cs ∧ DataW.trod (fun _ => ()) P w 0 (fun _ => true) false fuel T cs.toList = some (.agg ds, q) := by
  intro l
  induction l with
  | nil => intro ps _ hm; cases hm
  | cons y r ih =>
   intro ps h hm
   obtain ⟨n, d⟩ := y
   obtain ⟨g', t, cs, fuel, p', q, h1, h2, h3, h4, h5, _⟩ := h
   rcases List.mem_cons.1 hm with e | hm
   ·simp only [Prod.mk.injEq] at e
    obtain ⟨rfl, rfl⟩ := e
    rw [hg] at h1
    obtain rfl : g = g' := Option.some.inj h1
    rw [hT] at h2
    obtain rfl : T = t := Option.some.inj h2
    exact ⟨cs, fuel, p', h3, h4⟩
   ·exact ih q h5 hm
 obtain ⟨cs, fuel, q, hv, htr⟩ := this laid ps h hm
 have hcs := open_tab hc hcl hsz ht hTc dec hdec htab htr
 unfold World.var? at hv
 rw [hg] at hv
 simp only [Option.bind_some] at hv
 split at hv
 ·rename_i cs' TT fr hh
  obtain rfl : cs' = cs := Option.some.inj hv
  refine .inr ⟨rfl, cs', TT, fr, hh, fun j v hj => ?_⟩
  rw [← hcs] at hj
  simpa using hj
 ·cases hv
/-- What a call that answers true and turns nothing leaves. -/
theorem post_true {f : Func} {s : ChangeSpec} {H : Type} {enc : TypeId × Value → H} (hl : laidOutB P = true) (hts : (f.params.toList.all fun t => P.readableRec t && decide (t < P.types.size)) = true) (hres : f.resultTypes = #[4]) (hb : P.underlying 4 = some .bool) (hv : s.vars = [])
  {W W' : World} {args : Array Value} {ds gs : List (DataW H)} {before : List MemPlace} (hW : DataW.Whole enc P f.params.toList s.vars false W args.toList ds gs before) (hk : Below W.heap.size W W')
  (hfn : s.fn H ds = { results := [.lit (.bool true)], args := ds }) : s.post enc P f false true false false W args (.bool true) W' := by
 have hW0 := hW
 obtain ⟨p, q, hA, hV, rfl, hfz, hnd⟩ := hW
 rw [hv] at hV
 have hgs : gs = [] ∧ q = [] := by
  cases gs with
  | nil => exact ⟨rfl, hV⟩
  | cons g gs => exact hV.elim
 obtain ⟨rfl, rfl⟩ := hgs
 simp only [List.append_nil] at hW0
 have hlt : ∀ x ∈ p, x.block < W.heap.size := fun x hx => hW0.lt x hx
 have hfn' : s.fn H (ds ++ []) = { results := [.lit (.bool true)], args := ds } := by simpa using hfn
 have hargs : ∀ (ts : List TypeId) (vs : List Value) (ds : List (DataW H)) (ps : List MemPlace), (ts.all fun t => P.readableRec t && decide (t < P.types.size)) = true → DataW.TrodAll enc P W 0 (fun _ => true) true ts vs ds ps → (∀ x ∈ ps, x.block < W.heap.size) → DataW.TrodAll enc P W' 0 (fun b => decide (b < W.heap.size)) true ts vs ds ps := by
  intro ts
  induction ts with
  | nil => intro vs ds ps _ h _; cases vs <;> cases ds <;> exact h
  | cons t ts ih =>
   intro vs ds ps ha h hx
   cases vs with
   | nil => cases ds <;> exact h.elim
   | cons v vs =>
    cases ds with
    | nil => exact h.elim
    | cons d ds =>
     simp only [List.all_cons, Bool.and_eq_true, decide_eq_true_eq] at ha
     obtain ⟨p1, q1, h1, h2, rfl⟩ := h
     exact ⟨p1, q1, Below.trod hl ha.1.1 ha.1.2 h1 hk (fun x hx' => hx x (List.mem_append_left _ hx')), ih vs ds q1 (by simpa using ha.2) h2 (fun x hx' => hx x (List.mem_append_right _ hx')), rfl⟩
 refine ⟨ds, [], p, [], p, [], hW0, ?_, ?_, ?_, hk.frame _, fun h => by cases h⟩
 ·rw [hfn', hres]
  refine ⟨[], [], ⟨1, ?_⟩, rfl, rfl⟩
  simp [DataW.trod, hb, Value.cells, Value.resultList]
 ·rw [hfn']; exact hargs _ _ _ _ hts hA hlt
 ·rw [hfn', hv]; rfl
end
end Go.Fen

