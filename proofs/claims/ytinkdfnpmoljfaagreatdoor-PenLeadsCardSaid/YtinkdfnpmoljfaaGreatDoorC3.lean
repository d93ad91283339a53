import Derived.Test.YtinkdfnpmoljfaaGreatDoorFenY
import Derived.Test.YtinkdfnpmoljfaaGreatDoorIto
import Derived.Test.YtinkdfnpmoljfaaGreatDoorP1
import Derived.Test.YtinkdfnpmoljfaaGreatDoorRows
set_option linter.unusedVariables false
set_option linter.unusedSimpArgs false
set_option linter.unnecessarySimpa false
namespace Go.Proofs.YtinkdfnpmoljfaaGreatDoor
open Go Go.Fen
open Go.RowKit Go.ChangeShapes
def pCol (a : Col) : Prop := i64In a.kind ∧ i64In a.n
def dCol {H : Type} (d : DataW H) (a : Col) : Prop := ∃ d0 d1, d = .agg [d0, d1] ∧ dInt d0 a.kind ∧ dInt d1 a.n
set_option maxRecDepth 100000 in
theorem cod24 : Cod Tryz.prog 24 Col cCol dCol (fun _ a => pCol a) := fun {H enc w base sp held fuel cs x} h => by
 obtain ⟨hl, n, ys, rfl, hx, hyl, hf⟩ := trod_struct Tryz.underlying24 h
 have hl' : cs.length = 2 := hl.trans (by kernel_rfl)
 obtain ⟨y0, e0, t0⟩ := hf 0 _ rfl
 obtain ⟨a0, c0, q0, p0⟩ := (cod_int Tryz.underlying3) t0
 obtain ⟨y1, e1, t1⟩ := hf 1 _ rfl
 obtain ⟨a1, c1, q1, p1⟩ := (cod_int Tryz.underlying3) t1
 have e : cs = _ := (List.drop_zero).symm.trans (parts_cons c0 (parts_cons c1 (List.drop_eq_nil_of_le (by omega : cs.length ≤ 2)) (by kernel_rfl)) (by kernel_rfl))
 have hys : ys = [y0, y1] := by
  match ys, hyl, e0, e1 with
  | [z0, z1], _, e0, e1 => simp at e0 e1; simp [e0, e1]
 rw [hys] at hx
 exact ⟨⟨a0, a1⟩, e, ⟨_, _, hx, q0, q1⟩, p0, p1⟩
def pSty (a : Sty) : Prop := i64In a.attr ∧ i64In a.under ∧ pCol a.fore ∧ pCol a.back ∧ pCol a.line
def dSty {H : Type} (d : DataW H) (a : Sty) : Prop := ∃ d0 d1 d2 d3 d4, d = .agg [d0, d1, d2, d3, d4] ∧ dInt d0 a.attr ∧ dInt d1 a.under ∧ dCol d2 a.fore ∧ dCol d3 a.back ∧ dCol d4 a.line
set_option maxRecDepth 100000 in
theorem cod70 : Cod Tryz.prog 70 Sty cSty dSty (fun _ a => pSty a) := fun {H enc w base sp held fuel cs x} h => by
 obtain ⟨hl, n, ys, rfl, hx, hyl, hf⟩ := trod_struct Tryz.underlying70 h
 have hl' : cs.length = 8 := hl.trans (by kernel_rfl)
 obtain ⟨y0, e0, t0⟩ := hf 0 _ rfl
 obtain ⟨a0, c0, q0, p0⟩ := (cod_int Tryz.underlying3) t0
 obtain ⟨y1, e1, t1⟩ := hf 1 _ rfl
 obtain ⟨a1, c1, q1, p1⟩ := (cod_int Tryz.underlying3) t1
 obtain ⟨y2, e2, t2⟩ := hf 2 _ rfl
 obtain ⟨a2, c2, q2, p2⟩ := cod24 t2
 obtain ⟨y3, e3, t3⟩ := hf 3 _ rfl
 obtain ⟨a3, c3, q3, p3⟩ := cod24 t3
 obtain ⟨y4, e4, t4⟩ := hf 4 _ rfl
 obtain ⟨a4, c4, q4, p4⟩ := cod24 t4
 have e : cs = _ := (List.drop_zero).symm.trans (parts_cons c0 (parts_cons c1 (parts_cons c2 (parts_cons c3 (parts_cons c4 (List.drop_eq_nil_of_le (by omega : cs.length ≤ 8)) (by kernel_rfl)) (by kernel_rfl)) (by kernel_rfl)) (by kernel_rfl)) (by kernel_rfl))
 have hys : ys = [y0, y1, y2, y3, y4] := by
  match ys, hyl, e0, e1, e2, e3, e4 with
  | [z0, z1, z2, z3, z4], _, e0, e1, e2, e3, e4 => simp at e0 e1 e2 e3 e4; simp [e0, e1, e2, e3, e4]
 rw [hys] at hx
 exact ⟨⟨a0, a1, a2, a3, a4⟩, e, ⟨_, _, _, _, _, hx, q0, q1, q2, q3, q4⟩, p0, p1, p2, p3, p4⟩
def pAtr (a : Atr) : Prop := i64In a.a ∧ i64In a.b ∧ i64In a.c
def dAtr {H : Type} (d : DataW H) (a : Atr) : Prop := ∃ d0 d1 d2, d = .agg [d0, d1, d2] ∧ dInt d0 a.a ∧ dInt d1 a.b ∧ dInt d2 a.c
set_option maxRecDepth 100000 in
theorem cod257 : Cod Tryz.prog 257 Atr cAtr dAtr (fun _ a => pAtr a) := fun {H enc w base sp held fuel cs x} h => by
 obtain ⟨hl, n, ys, rfl, hx, hyl, hf⟩ := trod_struct Tryz.underlying257 h
 have hl' : cs.length = 3 := hl.trans (by kernel_rfl)
 obtain ⟨y0, e0, t0⟩ := hf 0 _ rfl
 obtain ⟨a0, c0, q0, p0⟩ := (cod_int Tryz.underlying3) t0
 obtain ⟨y1, e1, t1⟩ := hf 1 _ rfl
 obtain ⟨a1, c1, q1, p1⟩ := (cod_int Tryz.underlying3) t1
 obtain ⟨y2, e2, t2⟩ := hf 2 _ rfl
 obtain ⟨a2, c2, q2, p2⟩ := (cod_int Tryz.underlying3) t2
 have e : cs = _ := (List.drop_zero).symm.trans (parts_cons c0 (parts_cons c1 (parts_cons c2 (List.drop_eq_nil_of_le (by omega : cs.length ≤ 3)) (by kernel_rfl)) (by kernel_rfl)) (by kernel_rfl))
 have hys : ys = [y0, y1, y2] := by
  match ys, hyl, e0, e1, e2 with
  | [z0, z1, z2], _, e0, e1, e2 => simp at e0 e1 e2; simp [e0, e1, e2]
 rw [hys] at hx
 exact ⟨⟨a0, a1, a2⟩, e, ⟨_, _, _, hx, q0, q1, q2⟩, p0, p1, p2⟩
end Go.Proofs.YtinkdfnpmoljfaaGreatDoor

