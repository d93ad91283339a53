import Derived.Test.YtinkdfnpmoljfaaGreatDoorC1
set_option linter.unusedVariables false
set_option linter.unusedSimpArgs false
namespace Go.Proofs.YtinkdfnpmoljfaaGreatDoor
open Go Go.Fen Go.RowKit Go.ChangeShapes
/-! What the bound on what is read gives (after the seat's page on such statements), and the tables. -/
namespace bulks
theorem part_le {H : Type} {d : DataW H} {l : List (DataW H)} (h : d ∈ l) : Rows.uptoBulk d ≤ Rows.uptoBulkAll l := by
 induction l with
 | nil => cases h
 | cons x r ih =>
  simp only [Rows.uptoBulkAll]
  cases List.mem_cons.1 h with
  | inl e => subst e; omega
  | inr e => have := ih e; omega
theorem bound {H : Type} {l : List (DataW H)} (hk : Rows.uptoSmall H l = true) : Rows.uptoBulkAll l ≤ 1048576 := by
 simpa [Rows.uptoSmall] using hk
theorem str_in {H : Type} {d : DataW H} {s : List UInt8} (h : ∃ ds, d = .agg ds ∧ DataW.lit (.string s) ∈ ds) : s.length + 2 ≤ Rows.uptoBulk d := by
 obtain ⟨ds, rfl, hm⟩ := h
 have := part_le hm
 simp only [Rows.uptoBulk] at this ⊢
 omega
end bulks
theorem all_nil {h : Hp} : ∀ q ∈ ([] : List Pers), q.p h := fun _ h => by cases h
theorem all_cons {h : Hp} {q : Pers} {Φ : List Pers} (h1 : q.p h) (h2 : ∀ q ∈ Φ, q.p h) : ∀ q' ∈ q :: Φ, q'.p h := fun q' hq => by
 rcases List.mem_cons.1 hq with rfl | hq
 ·exact h1
 ·exact h2 q' hq
def tdecSpn : DataW Unit → Option Spn
 | .agg [.lit (.int .i64 a), .lit (.int .i64 b)] => some ⟨a, b⟩
 | _ => none
theorem tdecSpn_of (d : DataW Unit) (a : Spn) (h : dSpn d a) : tdecSpn d = some a := by
 obtain ⟨d0, d1, rfl, h0, h1⟩ := h
 unfold dInt at h0 h1
 subst h0 h1
 rfl
def putTab (h : Array Obj) (g : Nat) (cs : List Value) : Array Obj := h.modify g fun
 | .cells _ t fr => .cells cs.toArray t fr
 | o => o
mutual
def laidCells : DataW Unit → List Value
 | .agg ds => laidCellsAll ds
 | .lit (.int k n) => [.int k n]
 | .lit (.bool b) => [.bool b]
 | .lit (.string s) => [.string ⟨s.toArray⟩]
 | _ => []
def laidCellsAll : List (DataW Unit) → List Value
 | [] => []
 | d :: r => laidCells d ++ laidCellsAll r
end
end Go.Proofs.YtinkdfnpmoljfaaGreatDoor

