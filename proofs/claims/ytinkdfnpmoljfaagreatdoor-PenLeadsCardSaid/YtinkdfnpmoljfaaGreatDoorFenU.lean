import Derived.Test.YtinkdfnpmoljfaaGreatDoorFenT
set_option linter.unusedVariables false
set_option linter.unusedSimpArgs false
namespace Go.Fen
open Go
theorem RowsOk.append {α : Type} {rs rs' : List Slc} {xss xss' : List (List α)} (h1 : RowsOk rs xss) (h2 : RowsOk rs' xss') : RowsOk (rs ++ rs') (xss ++ xss') := by
 refine ⟨by simp [h1.1, h2.1], fun i r xs hr hx => ?_⟩
 by_cases hi : i < rs.length
 ·rw [List.getElem?_append_left hi] at hr
  rw [List.getElem?_append_left (by have := h1.1; omega)] at hx
  exact h1.2 i r xs hr hx
 ·have := h1.1
  rw [List.getElem?_append_right (by omega)] at hr
  rw [List.getElem?_append_right (by omega)] at hx
  exact h2.2 (i - rs.length) r xs hr (by rw [this]; exact hx)
theorem RowsOk.set {α : Type} {rs : List Slc} {xss : List (List α)} (h : RowsOk rs xss) (k : Nat) {r : Slc} {xs : List α} (hr : r.n = xs.length ∧ r.n ≤ r.k ∧ xs.length ≤ 9223372036854775807) : RowsOk (rs.set k r) (xss.set k xs) := by
 refine ⟨by simp [h.1], fun i r' xs' h1 h2 => ?_⟩
 rw [List.getElem?_set] at h1 h2
 by_cases hk : k = i
 ·subst hk
  simp only [if_true] at h1 h2
  split at h1
  ·split at h2
   ·obtain rfl := Option.some.inj h1
    obtain rfl := Option.some.inj h2
    exact hr
   ·cases h2
  ·cases h1
 ·simp only [hk, if_false] at h1 h2
  exact h.2 i r' xs' h1 h2
section
variable {P : Program} {n : Nat} {X : Cx} {K : Act → World → Prop} {Q : Exit → Act → World → Prop} {E E' : Env} {L L' : Own} {Φ Φ' : List Pers}
theorem rows_append {α : Type} {c : α → List Value} {rs rs' : List Slc} {xss xss' : List (List α)} (hl : rs.length = xss.length) (h1 : Fol1 Φ (rowsF c rs xss)) (h2 : Fol1 Φ (rowsF c rs' xss')) : Fol1 Φ (rowsF c (rs ++ rs') (xss ++ xss')) := fun p hp i r xs hr hx => by
 by_cases hi : i < rs.length
 ·rw [List.getElem?_append_left hi] at hr
  rw [List.getElem?_append_left (by omega)] at hx
  exact h1 p hp i r xs hr hx
 ·rw [List.getElem?_append_right (by omega)] at hr
  rw [List.getElem?_append_right (by omega)] at hx
  exact h2 p hp (i - rs.length) r xs hr (by rw [hl]; exact hx)
/-- append of slices to a slice of slices of one's own. -/
theorem tri_app_rows {o : Oper} {c : Call} {T e by' : Nat} {x y : Operand} {α : Type} {cc : α → List Value} {r : VR} {rs ys : List Slc} {xss yss : List (List α)} {q : Option Addr} {k m kk : Nat} {pre post : Own} (hT : ApTy P T e 1 by')
  (ho : o.op = .call c) (hc : c.callee = .builtin .append) (hca : c.args = #[x, y]) (hct : c.argTypes = #[T, T]) (hx : ev E x = some (vv r k)) (hk : k = xss.length) (hy : ev E y = some (.slice q m kk)) (hm : m = yss.length) (hL : L = pre ++ (vo cSlc e r rs ++ post))
  (hq : Fol1 Φ (sl cSlc q ys)) (h1 : Fol1 Φ (rowsF cc rs xss)) (h2 : Fol1 Φ (rowsF cc ys yss)) (ok1 : RowsOk rs xss) (ok2 : RowsOk ys yss) (hok : VOk 1 xss.length r) (hb : (xss.length + yss.length) * by' ≤ 140737488355328) (h63 : xss.length + yss.length ≤ 9223372036854775807) :
  Tri P n X o E L Φ {r' : VR // VOk 1 (xss ++ yss).length r'} (fun r' => vv r'.1 (xss ++ yss).length) (fun r' => pre ++ (vo cSlc e r'.1 (rs ++ ys) ++ post)) (fun _ => rowsF cc (rs ++ ys) (xss ++ yss) :: Φ) := by
 have e1 := ok1.1
 have e2 := ok2.1
 have e3 : (rs ++ ys).length = (xss ++ yss).length := by simp [e1, e2]
 intro ac w K Q hs hK
 refine tri_app2 (f := cSlc) (xs := rs) (ys := ys) hT (fun _ => rfl) (fun _ => rfl) ho hc hca hct (by rw [e1, ← hk]; exact hx) hy (by omega) hL hq (by rw [e1]; exact hok) (by rw [e1, e2]; exact hb) (by omega) ac w K Q hs fun r' w' hw => ?_
 have := hK ⟨r'.1, e3 ▸ r'.2⟩ w' (by
  obtain ⟨p, hp⟩ := hw
  exact ⟨p, { hp with facts := fun z hz => by rcases List.mem_cons.1 hz with rfl | hz; exact rows_append e1 h1 h2 p hp.facts; exact hp.facts z hz }⟩)
 simp only [e3]
 exact this
end
end Go.Fen

