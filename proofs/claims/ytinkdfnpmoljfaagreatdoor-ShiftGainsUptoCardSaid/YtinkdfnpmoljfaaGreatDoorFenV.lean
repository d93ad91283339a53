import Derived.Test.YtinkdfnpmoljfaaGreatDoorFenU
import Derived.Laws.MakeOwn
set_option linter.unusedVariables false
set_option linter.unusedSimpArgs false
namespace Go.Fen
open Go Go.RowKit
section
variable {P : Program} {n : Nat} {X : Cx} {K : Act → World → Prop} {Q : Exit → Act → World → Prop} {E E' : Env} {L L' : Own} {Φ Φ' : List Pers}
theorem JH_seal {ops : Array Oper} {fuel : Nat} {listed : Array Bool} {held : Held} {Φs : List Pers} {α : Type} {c : α → List Value} {T : Nat} {r : VR} {xs : List α} (pre post : Own) {sz : Nat} (hok : VOk sz xs.length r) (hL : L = pre ++ (vo c T r xs ++ post))
  (Lh : Own) (hh : held.at listed = Lh) (hm : Lh.Sublist (pre ++ post)) (h : JH P n X ops fuel listed K held Φs E (pre ++ post) (sl c (va r.q) xs :: Φ)) : JH P n X ops fuel listed K held Φs E L Φ :=
 ⟨fun h1 h2 hsz _ hΦ a w hs => h.go h1 h2 hsz (hh ▸ hm) (fun p hp => hΦ p (fun z hz => hp z (List.mem_cons_of_mem _ hz))) a w ⟨hs.size, hs.defers, hs.has, by have := hs.world; rw [hL] at this; exact this.sealed hok⟩⟩
theorem flat_part {α : Type} {c : α → List Value} {sz : Nat} (hc : ∀ x, (c x).length = sz) (d : α) : ∀ (xs : List α) (k : Nat), k < xs.length → ((xs.flatMap c).drop (k * sz)).take sz = c (xs.getD k d)
 | [], k, h => by simp at h
 | x :: xs, 0, _ => by simp [List.take_append_of_le_length, ← hc x]
 | x :: xs, k + 1, h => by
  have := flat_part hc d xs k (by simpa using h)
  rw [List.flatMap_cons, Nat.succ_mul, Nat.add_comm, ← List.drop_drop, ← hc x, List.drop_left, hc x, this]; simp
theorem flat_getk {α : Type} {c : α → List Value} {sz : Nat} (hc : ∀ x, (c x).length = sz) (d : α) {xs : List α} {k j : Nat} (hk : k < xs.length) (hj : j < sz) : (xs.flatMap c)[k * sz + j]? = (c (xs.getD k d))[j]? := by
 rw [← flat_part hc d xs k hk, List.getElem?_take, if_pos hj, List.getElem?_drop]
theorem made_eq {α : Type} {f : α → List Value} {sz : Nat} (hf : ∀ x, (f x).length = sz) (d : α) (n : Nat) : (madeCells (f d).toArray (n * sz)).toList = (List.replicate n d).flatMap f := by
 apply List.ext_getElem?
 intro i
 by_cases h0 : sz = 0
 ·have : (List.replicate n d).flatMap f = [] := List.length_eq_zero_iff.1 (by rw [flatMap_length hf]; simp [h0])
  rw [this]; simp [madeCells, h0]
 ·by_cases hi : i < n * sz
  ·have hk : i / sz < n := by rw [Nat.div_lt_iff_lt_mul (by omega)]; exact hi
   have hj : i % sz < sz := Nat.mod_lt _ (by omega)
   have e : i / sz * sz + i % sz = i := by rw [Nat.mul_comm]; exact Nat.div_add_mod i sz
   have h1 := flat_getk hf d (xs := List.replicate n d) (k := i / sz) (j := i % sz) (by simpa using hk) hj
   rw [e] at h1
   rw [h1]
   have : (List.replicate n d).getD (i / sz) d = d := by simp [List.getD_eq_getElem?_getD, List.getElem?_replicate, hk]
   rw [this]
   simp [madeCells, hi, hf, hj]
  ·rw [List.getElem?_eq_none (by simp [madeCells]; omega), List.getElem?_eq_none (by rw [flatMap_length hf]; simp; omega)]
/-- A new row of zeros. -/
theorem tri_make {o : Oper} {T e sz by' l c : Nat} {x y : Operand} {α : Type} {f : α → List Value} (d : α) (hT : ApTy P T e sz by') (hz : ((P.info? e).bind (·.zero)).map (·.cells) = some (f d).toArray) (hf : ∀ x, (f x).length = sz)
  (ho : o.op = .makeSlice T x y) (hx : ev E x = some (.int .i64 (l : Int))) (hy : ev E y = some (.int .i64 (c : Int))) (hlc : l ≤ c) (hb : c * by' ≤ 140737488355328) (h63 : c ≤ 9223372036854775807) :
  Tri P n X o E L Φ {r' : VR // VOk sz (List.replicate l d).length r'} (fun r' => .slice (va r'.1.q) (List.replicate l d).length r'.1.k) (fun r' => L ++ (vo f e r'.1 (List.replicate l d) ++ [])) (fun _ => Φ) := by
 intro ac w K Q hs hk
 obtain ⟨i, hi, hinf⟩ := Option.map_eq_some_iff.1 hT.info
 simp only [Prod.mk.injEq] at hinf
 obtain ⟨h4, h5, h6⟩ := hinf
 obtain ⟨z, hzz, h7⟩ := Option.map_eq_some_iff.1 h6
 have hzc : z.cells = (f d).toArray := by simpa [hi, hzz] using hz
 have hbb : (i.bytes : Int) * (c : Int) ≤ 281474976710656 := by
  have h : ((c * by' : Nat) : Int) ≤ 140737488355328 := by omega
  rw [Int.natCast_mul, Int.mul_comm] at h
  rw [h5]; omega
 have hr := run_make (P := P) w T e i z hT.ty hi hzz .i64 .i64 l c (by omega) (by omega) hbb (by omega)
 simp only [Int.toNat_natCast, h4, hzc] at hr
 refine up_in (by rw [ho]; rfl) ?_
 unfold Oper.wp
 rw [show (execOp ac.eval o).run P w = .ok (.value (.slice (some ⟨w.heap.size, 0, none⟩) l c)) (w.alloc (.cells (madeCells (f d).toArray (c * sz)) e)) by
  simp [execOp, ho, ev_eval hs.has hx, ev_eval hs.has hy, hr]]
 have hsp : (madeCells (f d).toArray (c * sz)).toList = (List.replicate l d).flatMap f ++ (List.replicate (c - l) d).flatMap f := by
  rw [made_eq hf, ← List.flatMap_append, List.replicate_append_replicate]; congr 2; omega
 have hl2 : ((List.replicate (c - l) d).flatMap f).length = (c - l) * sz := by rw [flatMap_length hf, List.length_replicate]
 have := hk ⟨⟨some w.heap.size, c, (List.replicate (c - l) d).flatMap f⟩, by
  refine ⟨?_, by simpa using hlc, by simp only [maxLen]; omega⟩
  simp only [List.length_replicate, hl2, ← Nat.add_mul]; congr 1; omega⟩ (w.alloc (.cells (madeCells (f d).toArray (c * sz)) e)) (by
  refine StW.turn (L0 := []) (show StW X (L ++ ([] ++ [])) Φ w by simpa using hs.world) ⟨rfl, rfl, rfl, by simp, fun k hk' _ => heap_alloc_old w _ hk'⟩ ?_ (by simp [vo])
  intro e' he
  obtain rfl : e' = _ := by simpa [vo] using he
  refine ⟨?_, .inr (Nat.le_refl _)⟩
  rw [← hsp]
  simpa using heap_alloc_new w (.cells (madeCells (f d).toArray (c * sz)) e))
 exact (by simpa [va] using this : K (ac.put o.dst (.slice (some ⟨w.heap.size, 0, none⟩) l c)) (w.alloc (.cells (madeCells (f d).toArray (c * sz)) e)))
/-- Nothing is appended. -/
theorem det_app_no {o : Oper} {c : Call} {T e sz by' : Nat} {x y : Operand} {q q' : Option Addr} {m k cc : Nat} (hT : ApTy P T e sz by') (ho : o.op = .call c) (hc : c.callee = .builtin .append) (hca : c.args = #[x, y]) (hct : c.argTypes = #[T, T])
  (hx : ev E x = some (.slice q m k)) (hy : ev E y = some (.slice q' 0 cc)) (hm : m ≤ k) : DetR P X o E L Φ (.slice q m k) := .of_run fun ac w ha _ => by
 obtain ⟨i, hi, _⟩ := Option.map_eq_some_iff.1 hT.info
 have := run_app_no (P := P) (w := w) (ty := o.type) hT.ty hi q q' m k hm cc
 simp [execOp, ho, resolve, hc, hca, hct, ev_eval ha hx, ev_eval ha hy, invoke, builtin, this]
end
theorem mm_min (a b : Int) : (if b < a then b else a) ≤ a ∧ (if b < a then b else a) ≤ b ∧ ((if b < a then b else a) = a ∨ (if b < a then b else a) = b) := by split <;> omega
theorem mm_max (a b : Int) : a ≤ (if b > a then b else a) ∧ b ≤ (if b > a then b else a) ∧ ((if b > a then b else a) = a ∨ (if b > a then b else a) = b) := by split <;> omega
/-- What a call gives, under a name. -/
def bindV {α β : Type} (x : α) (k : α → β) : β := k x
theorem bindVx {α β : Type} {x : α} {k : α → β} {R : β} (h : bindV x k = R) : ∃ r, x = r ∧ k r = R := ⟨x, rfl, h⟩
@[simp] theorem bindV_eq {α β : Type} (x : α) (k : α → β) : bindV x k = k x := rfl
end Go.Fen

