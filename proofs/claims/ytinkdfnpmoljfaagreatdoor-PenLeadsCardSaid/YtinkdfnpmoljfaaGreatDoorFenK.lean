import Derived.Test.YtinkdfnpmoljfaaGreatDoorFenJ
import Derived.OrdersHeld
set_option linter.unusedVariables false
set_option linter.unusedSimpArgs false
namespace Go.Fen
open Go Go.RowKit
set_option linter.unusedSimpArgs false
set_option linter.unusedVariables false

/-! ### Regions that draw their order, with operations that turn the world -/
section
variable {P : Program} {ops : Array Oper} {Q : Exit → Act → World → Prop} {S : World → Prop} {ρ : Option Nat}
def noDefer (ops : Array Oper) : Bool := ops.all fun o => !isDefer o.op
theorem noDefer_at (h : noDefer ops = true) {i : Nat} {o : Oper} (hi : ops[i]? = some o) : isDefer o.op = false := by
 obtain ⟨h1, h2⟩ := Array.getElem?_eq_some_iff.1 hi
 have := (Array.all_eq_true.1 h) i h1
 rw [h2] at this; simpa using this
/-- Whatever order is picked from here on, and S holds behind every operation. -/
def AH (ρ : Option Nat) (P : Program) (ops : Array Oper) (Q : Exit → Act → World → Prop) (S : Array Bool → World → Prop) : Nat → Array Bool → Act → World → Prop
 | 0, listed, a, w => Region.ready .any ops listed = [] ∧ Q .normal a w
 | fuel + 1, listed, a, w =>
  (Region.ready .any ops listed = [] → Q .normal a w) ∧
  ∀ i ∈ Region.ready .any ops listed, wpOpIn (FW ρ) 0 P ops Q i (fun a' w' => S (listed.setIfInBounds i true) w' ∧ AH ρ P ops Q S fuel (listed.setIfInBounds i true) a' w') a w
theorem wpOpIn_mono' {i : Nat} {K K' : Act → World → Prop} {a : Act} {w : World} (h : ∀ a w, K a w → K' a w) (hh : wpOpIn (FW ρ) 0 P ops Q i K a w) : wpOpIn (FW ρ) 0 P ops Q i K' a w := by
 unfold wpOpIn at *
 split
 ·rename_i ho; simp only [ho] at hh; exact h _ _ hh
 ·rename_i o ho
  simp only [ho] at hh
  split
  ·rename_i hw; simp only [hw, if_true] at hh; exact ⟨hh.1, uponIn_mono h (fun _ _ _ h => h) (fun h => h) hh.2⟩
  ·rename_i hw; simp only [hw] at hh; exact ⟨hh.1, h _ _ hh.2⟩
theorem AH_any {S : Array Bool → World → Prop} : ∀ (fuel : Nat) (listed : Array Bool) (a : Act) (w : World), AH ρ P ops Q S fuel listed a w → wpAnyIn (FW ρ) 0 P .any ops Q fuel listed a w
 | 0, _, _, _, h => h
 | fuel + 1, _, _, _, h => ⟨h.1, fun i hi => wpOpIn_mono' (fun a' w' h' => AH_any fuel _ a' w' h'.2) (h.2 i hi)⟩
theorem yields_wp {i : Nat} {o : Oper} {v : Value} {a : Act} (hnd : noDefer ops = true) (hi : ops[i]? = some o) (hy : YieldsIf P ops S o v a)
  {K : Act → World → Prop} {w : World} (hS : S w) (h : K (a.put o.dst v) w) : wpOpIn (FW ρ) 0 P ops Q i K a w := by
 unfold wpOpIn
 simp only [hi]
 rcases hy with ⟨hw, hv⟩ | ⟨hw, rfl⟩
 ·simp only [hw, if_true]
  refine up_in (noDefer_at hnd hi) ?_
  simp only [Oper.wp, hv w hS, Oper.upon]; exact h
 ·simp only [hw, Bool.false_eq_true, if_false]; exact ⟨fun _ _ => trivial, h⟩
theorem wpOpIn_put {j : Nat} {oi oj : Oper} {v : Value} (hnd : noDefer ops = true) (hj : ops[j]? = some oj) (hap : oi.apart ops oj = true)
  (hsi : ∀ cs b, oi.op ≠ .select cs b) (hsj : ∀ cs b, oj.op ≠ .select cs b)
  (hQ : ∀ c a w, Q (.panic c) (a.put oi.dst v) w → Q (.panic c) a w) {K : Act → World → Prop} {a : Act} {w : World}
  (hy : YieldsIf P ops S oi v a) (h : wpOpIn (FW ρ) 0 P ops Q j K (a.put oi.dst v) w) :
  wpOpIn (FW ρ) 0 P ops Q j (fun a' w' => YieldsIf P ops S oi v a' ∧ K (a'.put oi.dst v) w') a w := by
 obtain ⟨h1, h2, h3⟩ := Oper.apart_spec hap
 have hnj := noDefer_at hnd hj
 have keep : ∀ (a : Act), YieldsIf P ops S oi v a → ∀ u, YieldsIf P ops S oi v (a.put oj.dst u) := fun a hy u =>
  hy.of_same (execOp_put oi hsi a oj.dst u h3) (wanted_put oi a oj.dst u h3)
 have keepD : ∀ d, YieldsIf P ops S oi v { a with defers := d :: a.defers } := fun d => hy.of_same rfl rfl
 unfold wpOpIn at *
 simp only [hj] at *
 rw [wanted_put oj a oi.dst v h1] at h
 split
 ·rename_i hw
  simp only [hw, if_true] at h
  have hsem : ∀ (b : Act), oj.semAt (FW ρ).round b.eval = execOp b.eval oj := fun b => Oper.semAt_eq _ _ _ (fun c hc => by rw [hc] at hnj; cases hnj)
  refine ⟨fun _ _ => trivial, ?_⟩
  obtain ⟨_, h⟩ := h
  rw [hsem] at h ⊢
  rw [execOp_put oj hsj a oi.dst v h1] at h
  generalize (execOp a.eval oj).run P w = r at *
  cases r with
  | ok n w' =>
   cases n <;> simp only [Oper.uponIn] at h ⊢
   case value u => exact ⟨keep a hy u, by rw [← Act.put_comm a v u h2]; exact h⟩
   case skip => exact ⟨keep a hy _, by rw [← Act.put_comm a v undef h2]; exact h⟩
   case defer d =>
    refine ⟨keep _ (keepD d) _, ?_⟩
    rw [← Act.put_comm _ v undef h2, ← Act.put_defers]
    exact h
   case enter f args =>
    refine ⟨h.1, h.2.mono fun e w'' he => ?_⟩
    cases e with
    | returned u => exact ⟨keep a hy u, by rw [← Act.put_comm a v u h2]; exact he⟩
    | panicked c => exact hQ _ _ _ he
    | outgrown => exact he
   case row row args => exact ⟨h.1, h.2.mono fun u w'' he => ⟨keep a hy u, by rw [← Act.put_comm a v u h2]; exact he⟩⟩
   case round l f tmps assign body =>
    refine ⟨h.1, h.2.mono fun e w'' he => ?_⟩
    cases e with
    | returned u => exact ⟨keep a hy u, by rw [← Act.put_comm a v u h2]; exact he⟩
    | panicked c => exact hQ _ _ _ he
    | outgrown => exact he
  | halt x w' =>
   cases x <;> simp only [Oper.uponIn] at h ⊢
   case panic u => exact hQ _ _ _ h
 ·rename_i hw
  simp only [hw] at h
  exact ⟨fun _ _ => trivial, keep a hy _, by rw [← Act.put_comm a v undef h2]; exact h.2⟩
/-- Those that wait for number i. -/
def late (ops : Array Oper) (i e : Nat) : Bool := match ops[e]? with
 | some o => o.after.any fun d => d.on == i && Region.binds .any d
 | none => false
theorem late_not_ready {i e : Nat} {listed : Array Bool} (hl : late ops i e = true) (hi : listed.getD i true = false) : e ∉ Region.ready .any ops listed := by
 intro he
 obtain ⟨_, o, ho, hall⟩ := mem_ready.1 he
 unfold late at hl
 rw [ho] at hl
 simp only [Array.any_eq_true', Bool.and_eq_true, beq_iff_eq] at hl
 obtain ⟨d, hd, h1, h2⟩ := hl
 have h3 := hall d hd h2
 rw [h1] at h3
 rcases Nat.lt_or_ge i listed.size with h' | h'
 ·simp [h'] at hi h3; rw [hi] at h3; cases h3
 ·simp [Array.getElem?_eq_none h'] at hi
theorem AH_first {S : Array Bool → World → Prop} {i : Nat} {oi : Oper} {v : Value} (hnd : noDefer ops = true) (hi : ops[i]? = some oi) (hsel : ∀ (j : Nat) (o : Oper) cs b, ops[j]? = some o → o.op ≠ .select cs b)
  (hQ : ∀ c a w, Q (.panic c) (a.put oi.dst v) w → Q (.panic c) a w) (Y : World → Prop) (hSi : ∀ (listed : Array Bool) w, S (listed.setIfInBounds i true) w ↔ S listed w) (hY : ∀ listed : Array Bool, (∀ e, late ops i e = true → listed.getD e false = false) → ∀ w, S listed w → Y w) :
  ∀ (fuel : Nat) (listed : Array Bool) (a : Act) (w : World),
   (∀ j oj, ops[j]? = some oj → j ≠ i → listed.getD j true = false → (∀ e ∈ oj.after, Region.binds .any e = true → e.on ≠ i) → oi.apart ops oj = true) →
   (∀ e, late ops i e = true → listed.getD e false = false) →
   i ∈ Region.ready .any ops listed → YieldsIf P ops Y oi v a → S listed w →
   AH ρ P ops Q S fuel (listed.setIfInBounds i true) (a.put oi.dst v) w → AH ρ P ops Q S (fuel + 1) listed a w := by
 intro fuel
 induction fuel with
 | zero =>
  intro listed a w _ hlate hr hy hS H
  refine ⟨fun h => (by rw [h] at hr; cases hr), fun j hj => ?_⟩
  by_cases hji : j = i
  ·subst hji; exact yields_wp hnd hi hy (hY _ hlate _ hS) ⟨(hSi _ _).2 hS, H⟩
  ·have := ready_mono hj hji
   rw [H.1] at this
   cases this
 | succ fuel ih =>
  intro listed a w hfree hlate hr hy hS H
  refine ⟨fun h => (by rw [h] at hr; cases hr), fun j hj => ?_⟩
  by_cases hji : j = i
  ·subst hji; exact yields_wp hnd hi hy (hY _ hlate _ hS) ⟨(hSi _ _).2 hS, H⟩
  ·have h1 := H.2 j (ready_mono hj hji)
   obtain ⟨hjun, oj, hoj, hall⟩ := mem_ready.1 hj
   have hiun := (mem_ready.1 hr).1
   have hnot : ∀ e ∈ oj.after, Region.binds .any e = true → e.on ≠ i := fun e he hb heq => by
    have h1 := hall e he hb
    rw [heq] at h1
    rcases Nat.lt_or_ge i listed.size with h' | h'
    ·simp [h'] at hiun h1; rw [hiun] at h1; cases h1
    ·simp [Array.getElem?_eq_none h'] at hiun
   have h2 := wpOpIn_put hnd hoj (hfree j oj hoj hji hjun hnot) (fun cs b => hsel i oi cs b hi) (fun cs b => hsel j oj cs b hoj) hQ hy h1
   have hfree' : ∀ k ok, ops[k]? = some ok → k ≠ i → (listed.setIfInBounds j true).getD k true = false →
     (∀ e ∈ ok.after, Region.binds .any e = true → e.on ≠ i) → oi.apart ops ok = true := fun k ok hk hki hun hno => by
    refine hfree k ok hk hki ?_ hno
    by_cases hjk : j = k
    ·subst hjk; exact hjun
    ·rw [getD_set_ne true hjk] at hun; exact hun
   have hlate' : ∀ e, late ops i e = true → (listed.setIfInBounds j true).getD e false = false := fun e he => by
    by_cases hje : j = e
    ·subst hje; exact absurd hj (late_not_ready he hiun)
    ·rw [getD_set_ne false hje]; exact hlate e he
   refine wpOpIn_mono' (fun a' w' h3 => ?_) h2
   obtain ⟨y, hs, hh⟩ := h3
   rw [Array.setIfInBounds_comm _ _ (Ne.symm hji)] at hs hh
   have hs' := (hSi _ _).1 hs
   exact ⟨hs', ih (listed.setIfInBounds j true) a' w' hfree' hlate' (ready_mono hr (Ne.symm hji)) y hs' hh⟩
end

section
variable {P : Program} {n : Nat} {X : Cx} {K : Act → World → Prop} {Q : Exit → Act → World → Prop} {E E' : Env} {L L' Ls : Own} {Φ Φ' Φs : List Pers}
/-- Off the end, and no other way. -/
def oN (K : Act → World → Prop) : Exit → Act → World → Prop
 | .normal, a, w => K a w
 | _, _, _ => False
/-- What is held all the while: each piece till the operation that its number tells is listed. -/
abbrev Held := List (Nat × Own)
def Held.at (held : Held) (listed : Array Bool) : Own := ((held.filter fun p => !(listed.getD p.1 false)).map (·.2)).flatten
/-- What is held while number i has not come up. -/
def Held.of (held : Held) (ops : Array Oper) (i : Nat) : Own := ((held.filter fun p => late ops i p.1 || !(Nat.blt p.1 ops.size)).map (·.2)).flatten
theorem flatten_sub {α : Type} {l l' : List (List α)} (h : l.Sublist l') : l.flatten.Sublist l'.flatten := by
 induction h with
 | slnil => exact List.Sublist.slnil
 | cons a _ ih => rw [List.flatten_cons]; exact ih.trans (List.sublist_append_right _ _)
 | cons_cons a _ ih => rw [List.flatten_cons, List.flatten_cons]; exact (List.Sublist.refl _).append ih
theorem filter_sub {α : Type} {p q : α → Bool} : ∀ (l : List α), (∀ x ∈ l, p x = true → q x = true) → (l.filter p).Sublist (l.filter q)
 | [], _ => List.Sublist.slnil
 | x :: l, h => by
  have ih := filter_sub l fun y hy => h y (List.mem_cons_of_mem _ hy)
  rw [List.filter_cons, List.filter_cons]
  by_cases hp : p x = true
  ·rw [if_pos hp, if_pos (h x (List.mem_cons_self ..) hp)]; exact ih.cons_cons x
  ·rw [if_neg hp]
   split
   ·exact ih.cons x
   ·exact ih
theorem Held.of_at {held : Held} {ops : Array Oper} {i : Nat} {listed : Array Bool} (hs : listed.size ≤ ops.size) (h : ∀ e, late ops i e = true → listed.getD e false = false) : (held.of ops i).Sublist (held.at listed) := by
 refine flatten_sub ((filter_sub _ fun x _ hx => ?_).map _)
 simp only [Bool.or_eq_true, Bool.not_eq_true'] at hx ⊢
 rcases hx with hx | hx
 ·exact h _ hx
 ·have : ¬ x.1 < ops.size := fun h' => by have := Nat.ble_eq_true_of_le h'; unfold Nat.blt at hx; rw [hx] at this; cases this
  simp [Array.getElem?_eq_none (show listed.size ≤ x.1 by omega)]
theorem Held.at_set {held : Held} {i : Nat} {listed : Array Bool} (h : held.all (fun p => !(p.1 == i)) = true) : held.at (listed.setIfInBounds i true) = held.at listed := by
 unfold Held.at
 congr 2
 refine List.filter_congr fun x hx => ?_
 have := List.all_eq_true.1 h x hx
 have hne : i ≠ x.1 := by simp at this; exact fun e => this e.symm
 rw [getD_set_ne false hne]
/-- The operations that are not listed yet, in whatever order; all the while what is held holds. -/
structure JH (P : Program) (n : Nat) (X : Cx) (ops : Array Oper) (fuel : Nat) (listed : Array Bool) (K : Act → World → Prop) (held : Held) (Φs : List Pers) (E : Env) (L : Own) (Φ : List Pers) : Prop where
 go : noDefer ops = true → Region.noSelect ops = true → listed.size = ops.size → (held.at listed).Sublist L → Foll Φ Φs → ∀ a w, St n X E L Φ a w → AH X.rho P ops (oN K) (fun l w => l.size = ops.size ∧ StW X (held.at l) Φs w) fuel listed a w

theorem J_held {id : Nat} {ops : Array Oper} (m : Nat) (held : Held) (Φs : List Pers) (hm : P.follows .mixedOrders = true) (hz : ops.size = m) (hb : (noDefer ops && Region.noSelect ops) = true) (hL : (held.at (Array.replicate m false)).Sublist L) (hΦ : Foll Φ Φs)
  (h : JH P n X ops m (Array.replicate m false) (Q .normal) held Φs E L Φ) : J P n X (.region id ops true) Q E L Φ := fun a w hs => by
 simp only [Bool.and_eq_true] at hb
 refine Code.wpIn_mono (Q := oN (Q .normal)) (fun e a w q => by cases e <;> first | exact q | exact q.elim) ?_
 refine wpIn_region_any hm (AH_any (S := fun l w => l.size = ops.size ∧ StW X (held.at l) Φs w) _ _ _ _ ?_)
 subst hz
 exact h.go hb.1 hb.2 (by simp) hL hΦ a _ ⟨hs.size, hs.defers, hs.has, hs.world.drawn _⟩
/-- May it be taken first? It is not one of those by which something is held no longer. -/
def mayTake (ops : Array Oper) (held : Held) (listed : Array Bool) (i : Nat) : Bool := Region.free .any ops listed i && (Region.ready .any ops listed).contains i && (held.all (fun p => !(p.1 == i))) && (List.range ops.size).all fun e => !(late ops i e) || !(listed.getD e false)
theorem late_lt {ops : Array Oper} {i e : Nat} (h : late ops i e = true) : e < ops.size := by
 unfold late at h
 split at h
 ·rename_i o ho; exact (Array.getElem?_eq_some_iff.1 ho).1
 ·cases h
theorem JH_yield {ops : Array Oper} {fuel : Nat} {listed : Array Bool} {held : Held} (i : Nat) {o : Oper} {v : Value} {Ls : Own} (ho : ops[i]? = some o) (hd : okDst n o.dst = true) (ht : mayTake ops held listed i = true) (hLs : held.of ops i = Ls)
  (hy : ∀ a, Has a E → YieldsIf P ops (StW X Ls Φs) o v a) (h : JH P n X ops fuel (listed.setIfInBounds i true) K held Φs (Env.put E o.dst v) L Φ) : JH P n X ops (fuel + 1) listed K held Φs E L Φ :=
 ⟨fun h1 h2 hsz hL hΦ a w hs => by
  simp only [mayTake, Bool.and_eq_true] at ht
  obtain ⟨⟨⟨t1, t2⟩, t3⟩, t4⟩ := ht
  have hlate : ∀ e, late ops i e = true → listed.getD e false = false := fun e he => by
   have := List.all_eq_true.1 t4 e (List.mem_range.2 (late_lt he))
   rw [he] at this; simpa using this
  refine AH_first (Y := StW X Ls Φs) h1 ho (Region.noSelect_spec h2) (fun c a w hq => hq) (fun l w => by rw [Held.at_set t3]; simp) (fun l hl w hw => ?_) fuel listed a w (Region.free_spec ho t1) hlate (by simpa using t2) (hy a hs.has) ⟨hsz, (hs.world.sub hL).foll hΦ⟩ (h.go h1 h2 (by simpa using hsz) (by rw [Held.at_set t3]; exact hL) hΦ _ w (hs.put hd v hs.world))
  exact hw.2.sub (hLs ▸ Held.of_at (Nat.le_of_eq hw.1) hl)⟩
theorem JH_pass {ops : Array Oper} {fuel : Nat} {listed : Array Bool} {held : Held} (i : Nat) {o : Oper} (ho : ops[i]? = some o) (hg : runs ops o E = some false) (hd : okDst n o.dst = true) (ht : mayTake ops held listed i = true)
  (h : JH P n X ops fuel (listed.setIfInBounds i true) K held Φs (Env.put E o.dst undef) L Φ) : JH P n X ops (fuel + 1) listed K held Φs E L Φ :=
 JH_yield i ho hd ht rfl (fun a ha => .inr ⟨runs_wanted ha hg, rfl⟩) h
theorem JH_take {ops : Array Oper} {fuel : Nat} {listed : Array Bool} {held : Held} (i : Nat) {o : Oper} {v : Value} (Ls : Own) (ho : ops[i]? = some o) (hg : runs ops o E = some true) (hd : okDst n o.dst = true) (ht : mayTake ops held listed i = true) (hLs : held.of ops i = Ls)
  (hy : DetR P X o E Ls Φs v) (h : JH P n X ops fuel (listed.setIfInBounds i true) K held Φs (Env.put E o.dst v) L Φ) : JH P n X ops (fuel + 1) listed K held Φs E L Φ :=
 JH_yield i ho hd ht hLs (fun a ha => .inl ⟨runs_wanted ha hg, fun w hw => hy a w ha hw⟩) h
theorem JH_arm {ops : Array Oper} {fuel : Nat} {listed : Array Bool} {held : Held} (i : Nat) {o : Oper} {α : Type} {val : α → Value} {L' : α → Own} {Φ' : α → List Pers} (ho : ops[i]? = some o) (hg : runs ops o E = some true) (hd : okDst n o.dst = true)
  (ht : Tri P n X o E L Φ α val L' Φ') (hL' : ∀ x, (held.at (listed.setIfInBounds i true)).Sublist (L' x)) (hΦ' : ∀ x, Foll (Φ' x) Φs) (h : ∀ x, JH P n X ops fuel (listed.setIfInBounds i true) K held Φs (Env.put E o.dst (val x)) (L' x) (Φ' x)) :
  ∀ a w, St n X E L Φ a w → noDefer ops = true → Region.noSelect ops = true → listed.size = ops.size → wpOpIn (FW X.rho) 0 P ops (oN K) i (fun a' w' => ((listed.setIfInBounds i true).size = ops.size ∧ StW X (held.at (listed.setIfInBounds i true)) Φs w') ∧ AH X.rho P ops (oN K) (fun l w => l.size = ops.size ∧ StW X (held.at l) Φs w) fuel (listed.setIfInBounds i true) a' w') a w := fun a w hs h1 h2 hsz => by
 unfold wpOpIn
 simp only [ho]
 rw [if_pos (runs_wanted hs.has hg)]
 exact ht a w _ _ hs fun x w' hw' => ⟨⟨by simpa using hsz, (hw'.sub (hL' x)).foll (hΦ' x)⟩, (h x).go h1 h2 (by simpa using hsz) (hL' x) (hΦ' x) _ _ (hs.put hd _ hw')⟩
/-- The one that must come. -/
theorem JH_one {ops : Array Oper} {fuel : Nat} {listed : Array Bool} {held : Held} (i : Nat) {o : Oper} {α : Type} {val : α → Value} {L' : α → Own} {Φ' : α → List Pers} (ho : ops[i]? = some o) (hg : runs ops o E = some true) (hd : okDst n o.dst = true) (hr : Region.ready .any ops listed = [i])
  (ht : Tri P n X o E L Φ α val L' Φ') (hL' : ∀ x, (held.at (listed.setIfInBounds i true)).Sublist (L' x)) (hΦ' : ∀ x, Foll (Φ' x) Φs) (h : ∀ x, JH P n X ops fuel (listed.setIfInBounds i true) K held Φs (Env.put E o.dst (val x)) (L' x) (Φ' x)) : JH P n X ops (fuel + 1) listed K held Φs E L Φ :=
 ⟨fun h1 h2 hsz hL hΦ a w hs => by
  refine ⟨fun h0 => (by rw [hr] at h0; cases h0), fun j hj => ?_⟩
  rw [hr] at hj
  obtain rfl : j = i := by simpa using hj
  exact JH_arm j ho hg hd ht hL' hΦ' h a w hs h1 h2 hsz⟩
/-- Either of two. -/
theorem JH_fork {ops : Array Oper} {fuel : Nat} {listed : Array Bool} {held : Held} (i k : Nat) (hr : Region.ready .any ops listed = [i, k])
  (g1 : ∀ a w, St n X E L Φ a w → noDefer ops = true → Region.noSelect ops = true → listed.size = ops.size → wpOpIn (FW X.rho) 0 P ops (oN K) i (fun a' w' => ((listed.setIfInBounds i true).size = ops.size ∧ StW X (held.at (listed.setIfInBounds i true)) Φs w') ∧ AH X.rho P ops (oN K) (fun l w => l.size = ops.size ∧ StW X (held.at l) Φs w) fuel (listed.setIfInBounds i true) a' w') a w)
  (g2 : ∀ a w, St n X E L Φ a w → noDefer ops = true → Region.noSelect ops = true → listed.size = ops.size → wpOpIn (FW X.rho) 0 P ops (oN K) k (fun a' w' => ((listed.setIfInBounds k true).size = ops.size ∧ StW X (held.at (listed.setIfInBounds k true)) Φs w') ∧ AH X.rho P ops (oN K) (fun l w => l.size = ops.size ∧ StW X (held.at l) Φs w) fuel (listed.setIfInBounds k true) a' w') a w) : JH P n X ops (fuel + 1) listed K held Φs E L Φ :=
 ⟨fun h1 h2 hsz hL hΦ a w hs => by
  refine ⟨fun h0 => (by rw [hr] at h0; cases h0), fun j hj => ?_⟩
  rw [hr] at hj
  simp only [List.mem_cons, List.not_mem_nil, or_false] at hj
  rcases hj with rfl | rfl
  ·exact g1 a w hs h1 h2 hsz
  ·exact g2 a w hs h1 h2 hsz⟩
theorem JH_done {ops : Array Oper} {fuel : Nat} {listed : Array Bool} {held : Held} (hr : Region.ready .any ops listed = []) (h : JQ n X K E L Φ) : JH P n X ops fuel listed K held Φs E L Φ :=
 ⟨fun _ _ _ _ _ a w hs => by
  cases fuel with
  | zero => exact ⟨hr, h a w hs⟩
  | succ f => exact ⟨fun _ => h a w hs, fun i hi => by rw [hr] at hi; cases hi⟩⟩
theorem JH_has {ops : Array Oper} {fuel : Nat} {listed : Array Bool} {held : Held} (hE : ∀ a, Has a E → Has a E') (h : JH P n X ops fuel listed K held Φs E' L Φ) : JH P n X ops fuel listed K held Φs E L Φ :=
 ⟨fun h1 h2 hsz hL hΦ a w hs => h.go h1 h2 hsz hL hΦ a w ⟨hs.size, hs.defers, hE a hs.has, hs.world⟩⟩
/-- A run of operations that only reckon, those that 'is' lists, in that order. -/
def runHeld (P : Program) (n : Nat) (ops : Array Oper) (held : Held) : List Nat → Array Bool → Env → Option (Array Bool × Env)
 | [], listed, E => some (listed, E)
 | i :: is, listed, E => match ops[i]? with
  | some o => if mayTake ops held listed i then match stepPure P n ops o E with
    | some E' => runHeld P n ops held is (listed.setIfInBounds i true) E'
    | none => none
   else none
  | none => none
theorem JH_run {ops : Array Oper} {held : Held} : ∀ (is : List Nat) {fuel : Nat} {listed listed' : Array Bool} {E R : Env}, runHeld P n ops held is listed E = some (listed', R) → JH P n X ops fuel listed' K held Φs R L Φ → JH P n X ops (is.length + fuel) listed K held Φs E L Φ
 | [], fuel, listed, listed', E, R, h, k => by
  simp only [runHeld, Option.some.injEq, Prod.mk.injEq] at h
  obtain ⟨rfl, rfl⟩ := h
  simpa using k
 | i :: is, fuel, listed, listed', E, R, h, k => by
  unfold runHeld at h
  rw [List.length_cons, Nat.add_right_comm]
  split at h
  ·rename_i o ho
   split at h
   ·rename_i hc
    split at h
    ·rename_i E1 h1
     have k' := JH_run is h k
     unfold stepPure at h1
     split at h1
     ·rename_i hr hd
      split at h1
      ·rename_i v hv
       simp only [Option.some.injEq] at h1; subst h1
       exact JH_take i _ ho hr hd hc rfl (fun a w ha _ => pureOp_run hv a w ha) k'
      ·cases h1
     ·rename_i hr hd
      simp only [Option.some.injEq] at h1; subst h1
      exact JH_pass i ho hr hd hc k'
     ·cases h1
    ·cases h
   ·cases h
  ·cases h
def okNewL (ops : Array Oper) (E new : Env) : List Nat → Bool
 | [] => true
 | i :: is => (match (ops[i]?).bind (·.dst) with
  | some d => hasKey new d || !hasKey E d
  | none => true) && okNewL ops E new is
theorem runHeld_old {ops : Array Oper} {held : Held} {new : Env} {t : Nat} {v : Value} (E0 : Env) (h0 : E0.lookup t = some v) (hn : new.lookup t = none) : ∀ (is : List Nat) {l l' : Array Bool} {E R : Env}, okNewL ops E0 new is = true → runHeld P n ops held is l E = some (l', R) → E.lookup t = some v → R.lookup t = some v
 | [], l, l', E, R, _, h, he => by simp only [runHeld, Option.some.injEq, Prod.mk.injEq] at h; obtain ⟨_, rfl⟩ := h; exact he
 | i :: is, l, l', E, R, hk, h, he => by
  unfold runHeld at h
  unfold okNewL at hk
  simp only [Bool.and_eq_true] at hk
  split at h
  ·rename_i o ho
   split at h
   ·split at h
    ·rename_i E1 h1
     refine runHeld_old E0 h0 hn is hk.2 h ?_
     have hd : o.dst ≠ some t := by
      intro hd
      have := hk.1
      simp only [ho, Option.bind_some, hd, hasKey, hn, h0] at this
      simp at this
     have put : ∀ u, (Env.put E o.dst u).lookup t = some v := by
      intro u
      cases hdst : o.dst with
      | none => exact he
      | some d =>
       have : (t == d) = false := by simp; intro e; exact hd (by rw [hdst, e])
       simp only [Env.put, List.lookup, this]; exact he
     unfold stepPure at h1
     split at h1
     ·split at h1
      ·simp only [Option.some.injEq] at h1; subst h1; exact put _
      ·cases h1
     ·simp only [Option.some.injEq] at h1; subst h1; exact put _
     ·cases h1
    ·cases h
   ·cases h
  ·cases h
/-- What a run leaves in the slots that 'new' names; the others are as they were. -/
def heldN (P : Program) (n : Nat) (ops : Array Oper) (held : Held) (is : List Nat) (listed : Array Bool) (E new : Env) : Option (Array Bool × Env) :=
 if okNewL ops E new is then match runHeld P n ops held is listed E with
  | some (l, R) => match keep R new with
   | some R' => some (l, R')
   | none => none
  | none => none
 else none
theorem hpur {ops : Array Oper} {held : Held} (is : List Nat) (fuel : Nat) {listed : Array Bool} (listed' : Array Bool) (new : Env) (h : heldN P n ops held is listed E new = some (listed', new)) (g : JH P n X ops fuel listed' K held Φs (new ++ E) L Φ) : JH P n X ops (is.length + fuel) listed K held Φs E L Φ := by
 unfold heldN at h
 split at h
 ·rename_i hk
  split at h
  ·rename_i l R hR
   split at h
   ·rename_i R' hkeep
    simp only [Option.some.injEq, Prod.mk.injEq] at h
    obtain ⟨rfl, rfl⟩ := h
    refine JH_run is hR (JH_has (fun a ha t v e => ?_) g)
    rw [lookup_append] at e
    split at e
    ·rename_i u hu
     exact (ha.weaken (sameAll_spec (keep_same hkeep))) t v (by rw [hu]; exact e)
    ·rename_i hu
     exact ha t v (runHeld_old E e hu is hk hR e)
   ·cases h
  ·cases h
 ·cases h
/-! short -/
theorem htak {ops : Array Oper} {fuel : Nat} {listed : Array Bool} {held : Held} (i : Nat) {o : Oper} {v : Value} (Ls : Own) (listed' : Array Bool) (ho : ops[i]? = some o) (hg : runs ops o E = some true) (hd : okDst n o.dst = true) (hm : mayTake ops held listed i = true) (hLs : held.of ops i = Ls) (hl : listed.setIfInBounds i true = listed')
  (hy : DetR P X o E Ls Φs v) (h : JH P n X ops fuel listed' K held Φs (Env.put E o.dst v) L Φ) : JH P n X ops (fuel + 1) listed K held Φs E L Φ := JH_take i Ls ho hg hd hm hLs hy (hl ▸ h)
theorem hone {ops : Array Oper} {fuel : Nat} {listed : Array Bool} {held : Held} (i : Nat) {o : Oper} {α : Type} {val : α → Value} {L' : α → Own} {Φ' : α → List Pers} (Lh : Own) (listed' : Array Bool) (ho : ops[i]? = some o) (hg : runs ops o E = some true) (hd : okDst n o.dst = true) (hr : Region.ready .any ops listed = [i])
  (hl : listed.setIfInBounds i true = listed') (hh : held.at listed' = Lh) (ht : Tri P n X o E L Φ α val L' Φ') (hL' : ∀ x, Lh.Sublist (L' x)) (hΦ' : ∀ x, Foll (Φ' x) Φs) (h : ∀ x, JH P n X ops fuel listed' K held Φs (Env.put E o.dst (val x)) (L' x) (Φ' x)) : JH P n X ops (fuel + 1) listed K held Φs E L Φ := by
 subst hl hh
 exact JH_one i ho hg hd hr ht hL' hΦ' h
theorem sh {id : Nat} {ops : Array Oper} {y : Code} (m : Nat) (held : Held) (Φs : List Pers) (Lh : Own) (l0 : Array Bool) (hm : P.follows .mixedOrders = true) (hz : ops.size = m) (hb : (noDefer ops && Region.noSelect ops) = true) (hl : Array.replicate m false = l0) (hh : held.at l0 = Lh) (hL : Lh.Sublist L) (hΦ : Foll Φ Φs)
  (h : JH P n X ops m l0 (fun a w => y.wpIn (FW X.rho) 0 P Q a w) held Φs E L Φ) : J P n X (.seq (.region id ops true) y) Q E L Φ := by
 subst hl hh
 exact J_seq (J_held m held Φs hm hz hb hL hΦ h)
theorem sh' {id : Nat} {ops : Array Oper} (m : Nat) (held : Held) (Φs : List Pers) (Lh : Own) (l0 : Array Bool) (hm : P.follows .mixedOrders = true) (hz : ops.size = m) (hb : (noDefer ops && Region.noSelect ops) = true) (hl : Array.replicate m false = l0) (hh : held.at l0 = Lh) (hL : Lh.Sublist L) (hΦ : Foll Φ Φs)
  (h : JH P n X ops m l0 (Q .normal) held Φs E L Φ) : J P n X (.region id ops true) Q E L Φ := by
 subst hl hh
 exact J_held m held Φs hm hz hb hL hΦ h
theorem hend {ops : Array Oper} {fuel : Nat} {listed : Array Bool} {held : Held} {y : Code} (hr : Region.ready .any ops listed = []) (h : J P n X y Q E L Φ) : JH P n X ops fuel listed (fun a w => y.wpIn (FW X.rho) 0 P Q a w) held Φs E L Φ := JH_done hr h
end
end Go.Fen

