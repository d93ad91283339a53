import Derived.Test.YtinkdfnpmoljfaaGreatDoorC3
set_option linter.unusedVariables false
set_option linter.unusedSimpArgs false
namespace Go.Proofs.YtinkdfnpmoljfaaGreatDoor
open Go Go.Fen Go.RowKit Go.ChangeShapes
/-! What the bound on what is read gives (after the seat's page on such statements), and the tables. -/
namespace bulks
end bulks
theorem all_nil {h : Hp} : ∀ q ∈ ([] : List Pers), q.p h := fun _ h => by cases h
theorem all_cons {h : Hp} {q : Pers} {Φ : List Pers} (h1 : q.p h) (h2 : ∀ q ∈ Φ, q.p h) : ∀ q' ∈ q :: Φ, q'.p h := fun q' hq => by
 rcases List.mem_cons.1 hq with rfl | hq
 ·exact h1
 ·exact h2 q' hq
def tdecAtr : DataW Unit → Option Atr
 | .agg [.lit (.int .i64 a), .lit (.int .i64 b), .lit (.int .i64 c)] => some ⟨a, b, c⟩
 | _ => none
theorem tdecAtr_of (d : DataW Unit) (a : Atr) (h : dAtr d a) : tdecAtr d = some a := by
 obtain ⟨d0, d1, d2, rfl, h0, h1, h2⟩ := h
 unfold dInt at h0 h1 h2
 subst h0 h1 h2
 rfl
def dU64 {H : Type} (d : DataW H) (n : Int) : Prop := d = .lit (.int .u64 n)
theorem cod_u64 {P : Program} {T : TypeId} (ht : P.underlying T = some (.int .u64)) : Cod P T Int cU64 dU64 (fun _ _ => True) := fun h => by
 obtain ⟨n, rfl, rfl, hw⟩ := DataW.trod_int ht h
 exact ⟨n, rfl, rfl, trivial⟩
def tdecU64 : DataW Unit → Option Int
 | .lit (.int .u64 a) => some a
 | _ => none
theorem tdecU64_of (d : DataW Unit) (a : Int) (h : dU64 d a) : tdecU64 d = some a := by
 unfold dU64 at h
 subst h
 rfl
theorem pow10_flat : Lib.pow10Tab.flatMap cU64 = pow10Cells := by kernel_rfl
def putTab (h : Array Obj) (g : Nat) (cs : List Value) : Array Obj := h.modify g fun
 | .cells _ t fr => .cells cs.toArray t fr
 | o => o
mutual
def laidCells : DataW Unit → List Value
 | .agg ds => laidCellsAll ds
 | .lit (.int k n) => [.int k n]
 | .lit (.bool b) => [.bool b]
 | .lit (.string s) => [.string ⟨s.toArray⟩]
 | _ => []
def laidCellsAll : List (DataW Unit) → List Value
 | [] => []
 | d :: r => laidCells d ++ laidCellsAll r
end
end Go.Proofs.YtinkdfnpmoljfaaGreatDoor

