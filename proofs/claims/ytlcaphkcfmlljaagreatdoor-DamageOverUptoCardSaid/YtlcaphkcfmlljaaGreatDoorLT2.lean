import Derived.Test.YtlcaphkcfmlljaaGreatDoorLS

set_option linter.unusedVariables false
set_option linter.unusedSimpArgs false
namespace Go.Proofs.YtlcaphkcfmlljaaGreatDoor
open Go Go.Fen
/-! The spans of two frames: in order, none touching the next, each with a difference, none cutting a wide cell, and whatever differs within one. -/
def Bd (a b : List Cel) (f : Nat) : Prop := f = 0 ∨ f = a.length ∨ damage_linked a b ((f : Int) - 1) = false
def Df (a b : List Cel) (i : Nat) : Prop := a.getD i Cel.zero ≠ b.getD i Cel.zero
def SpQ (a b : List Cel) (r : Int) (s : Sp3) : Prop :=
  s.row = r ∧ ∃ f t : Nat, s.frm = f ∧ s.to = t ∧ f < t ∧ t ≤ a.length ∧ (∃ i, f ≤ i ∧ i < t ∧ Df a b i) ∧ Bd a b f ∧ Bd a b t
def Chn (r : Int) : Int → List Sp3 → Prop
  | _, [] => True
  | f, e :: es => e.row = r ∧ f ≤ e.frm ∧ e.frm < e.to ∧ Chn r e.to es
theorem Chn.mono {r f f' : Int} (h : f' ≤ f) : ∀ {es : List Sp3}, Chn r f es → Chn r f' es
  | [], _ => trivial
  | e :: es, ⟨h1, h2, h3, h4⟩ => ⟨h1, by omega, h3, h4⟩
/-! gathered -/
def Lt3 (x y : Sp3) : Prop := x.row < y.row ∨ (x.row = y.row ∧ x.to < y.frm)
def Below (g : List Sp3) (r f : Int) : Prop := ∀ x ∈ g, x.row < r ∨ (x.row = r ∧ x.to ≤ f)
def SpG (A B : List (List Cel)) (s : Sp3) : Prop := ∃ r : Nat, r < A.length ∧ SpQ (A.getD r []) (B.getD r []) r s
theorem SpG.lt {A B : List (List Cel)} {s : Sp3} (h : SpG A B s) : s.frm < s.to := by
  obtain ⟨r, _, _, f, t, h1, h2, h3, _⟩ := h; omega
structure Inv (A B : List (List Cel)) (g : List Sp3) (r f : Int) : Prop where
  below : Below g r f
  ord : g.Pairwise Lt3
  all : ∀ s ∈ g, SpG A B s
end Go.Proofs.YtlcaphkcfmlljaaGreatDoor

