import Derived.Test.YtinkdfnpmoljfaaGreatDoorFenY
import Derived.Test.YtinkdfnpmoljfaaGreatDoorT4b
import Derived.Test.YtinkdfnpmoljfaaGreatDoorRows
set_option linter.unusedVariables false
set_option linter.unusedSimpArgs false
set_option linter.unnecessarySimpa false
namespace Go.Proofs.YtinkdfnpmoljfaaGreatDoor
open Go Go.Fen
open Go.RowKit Go.ChangeShapes
def pSpn (a : Spn) : Prop := i64In a.lo ∧ i64In a.hi
def dSpn {H : Type} (d : DataW H) (a : Spn) : Prop := ∃ d0 d1, d = .agg [d0, d1] ∧ dInt d0 a.lo ∧ dInt d1 a.hi
set_option maxRecDepth 100000 in
theorem cod194 : Cod Tryz.prog 194 Spn cSpn dSpn (fun _ a => pSpn a) := fun {H enc w base sp held fuel cs x} h => by
 obtain ⟨hl, n, ys, rfl, hx, hyl, hf⟩ := trod_struct Tryz.underlying194 h
 have hl' : cs.length = 2 := hl.trans (by kernel_rfl)
 obtain ⟨y0, e0, t0⟩ := hf 0 _ rfl
 obtain ⟨a0, c0, q0, p0⟩ := (cod_int Tryz.underlying3) t0
 obtain ⟨y1, e1, t1⟩ := hf 1 _ rfl
 obtain ⟨a1, c1, q1, p1⟩ := (cod_int Tryz.underlying3) t1
 have e : cs = _ := (List.drop_zero).symm.trans (parts_cons c0 (parts_cons c1 (List.drop_eq_nil_of_le (by omega : cs.length ≤ 2)) (by kernel_rfl)) (by kernel_rfl))
 have hys : ys = [y0, y1] := by
  match ys, hyl, e0, e1 with
  | [z0, z1], _, e0, e1 => simp at e0 e1; simp [e0, e1]
 rw [hys] at hx
 exact ⟨⟨a0, a1⟩, e, ⟨_, _, hx, q0, q1⟩, p0, p1⟩
def pAr2 (a : Ar2) : Prop := i64In a.a ∧ i64In a.b
def dAr2 {H : Type} (d : DataW H) (a : Ar2) : Prop := ∃ d0 d1, d = .agg [d0, d1] ∧ dInt d0 a.a ∧ dInt d1 a.b
set_option maxRecDepth 100000 in
theorem cod68 : Cod Tryz.prog 68 Ar2 cAr2 dAr2 (fun _ a => pAr2 a) := fun {H enc w base sp held fuel cs x} h => by
 obtain ⟨hl, n, ys, rfl, hx, hyl, hf⟩ := trod_array Tryz.underlying68 h
 have hl' : cs.length = 2 := hl.trans (by kernel_rfl)
 obtain ⟨y0, e0, t0⟩ := hf 0 (by decide)
 obtain ⟨a0, c0, q0, p0⟩ := (cod_int Tryz.underlying3) t0
 obtain ⟨y1, e1, t1⟩ := hf 1 (by decide)
 obtain ⟨a1, c1, q1, p1⟩ := (cod_int Tryz.underlying3) t1
 have e : cs = _ := (List.drop_zero).symm.trans (parts_cons c0 (parts_cons c1 (List.drop_eq_nil_of_le (by omega : cs.length ≤ 2)) (by kernel_rfl)) (by kernel_rfl))
 have hys : ys = [y0, y1] := by
  match ys, hyl, e0, e1 with
  | [z0, z1], _, e0, e1 => simp at e0 e1; simp [e0, e1]
 rw [hys] at hx
 exact ⟨⟨a0, a1⟩, e, ⟨_, _, hx, q0, q1⟩, p0, p1⟩
def pCol (a : Col) : Prop := i64In a.kind ∧ i64In a.n
def dCol {H : Type} (d : DataW H) (a : Col) : Prop := ∃ d0 d1, d = .agg [d0, d1] ∧ dInt d0 a.kind ∧ dInt d1 a.n
set_option maxRecDepth 100000 in
theorem cod24 : Cod Tryz.prog 24 Col cCol dCol (fun _ a => pCol a) := fun {H enc w base sp held fuel cs x} h => by
 obtain ⟨hl, n, ys, rfl, hx, hyl, hf⟩ := trod_struct Tryz.underlying24 h
 have hl' : cs.length = 2 := hl.trans (by kernel_rfl)
 obtain ⟨y0, e0, t0⟩ := hf 0 _ rfl
 obtain ⟨a0, c0, q0, p0⟩ := (cod_int Tryz.underlying3) t0
 obtain ⟨y1, e1, t1⟩ := hf 1 _ rfl
 obtain ⟨a1, c1, q1, p1⟩ := (cod_int Tryz.underlying3) t1
 have e : cs = _ := (List.drop_zero).symm.trans (parts_cons c0 (parts_cons c1 (List.drop_eq_nil_of_le (by omega : cs.length ≤ 2)) (by kernel_rfl)) (by kernel_rfl))
 have hys : ys = [y0, y1] := by
  match ys, hyl, e0, e1 with
  | [z0, z1], _, e0, e1 => simp at e0 e1; simp [e0, e1]
 rw [hys] at hx
 exact ⟨⟨a0, a1⟩, e, ⟨_, _, hx, q0, q1⟩, p0, p1⟩
def pSty (a : Sty) : Prop := i64In a.attr ∧ i64In a.under ∧ pCol a.fore ∧ pCol a.back ∧ pCol a.line
def dSty {H : Type} (d : DataW H) (a : Sty) : Prop := ∃ d0 d1 d2 d3 d4, d = .agg [d0, d1, d2, d3, d4] ∧ dInt d0 a.attr ∧ dInt d1 a.under ∧ dCol d2 a.fore ∧ dCol d3 a.back ∧ dCol d4 a.line
set_option maxRecDepth 100000 in
theorem cod70 : Cod Tryz.prog 70 Sty cSty dSty (fun _ a => pSty a) := fun {H enc w base sp held fuel cs x} h => by
 obtain ⟨hl, n, ys, rfl, hx, hyl, hf⟩ := trod_struct Tryz.underlying70 h
 have hl' : cs.length = 8 := hl.trans (by kernel_rfl)
 obtain ⟨y0, e0, t0⟩ := hf 0 _ rfl
 obtain ⟨a0, c0, q0, p0⟩ := (cod_int Tryz.underlying3) t0
 obtain ⟨y1, e1, t1⟩ := hf 1 _ rfl
 obtain ⟨a1, c1, q1, p1⟩ := (cod_int Tryz.underlying3) t1
 obtain ⟨y2, e2, t2⟩ := hf 2 _ rfl
 obtain ⟨a2, c2, q2, p2⟩ := cod24 t2
 obtain ⟨y3, e3, t3⟩ := hf 3 _ rfl
 obtain ⟨a3, c3, q3, p3⟩ := cod24 t3
 obtain ⟨y4, e4, t4⟩ := hf 4 _ rfl
 obtain ⟨a4, c4, q4, p4⟩ := cod24 t4
 have e : cs = _ := (List.drop_zero).symm.trans (parts_cons c0 (parts_cons c1 (parts_cons c2 (parts_cons c3 (parts_cons c4 (List.drop_eq_nil_of_le (by omega : cs.length ≤ 8)) (by kernel_rfl)) (by kernel_rfl)) (by kernel_rfl)) (by kernel_rfl)) (by kernel_rfl))
 have hys : ys = [y0, y1, y2, y3, y4] := by
  match ys, hyl, e0, e1, e2, e3, e4 with
  | [z0, z1, z2, z3, z4], _, e0, e1, e2, e3, e4 => simp at e0 e1 e2 e3 e4; simp [e0, e1, e2, e3, e4]
 rw [hys] at hx
 exact ⟨⟨a0, a1, a2, a3, a4⟩, e, ⟨_, _, _, _, _, hx, q0, q1, q2, q3, q4⟩, p0, p1, p2, p3, p4⟩
def pCel (a : Cel) : Prop := i64In a.base ∧ pAr2 a.marks ∧ i64In a.wide ∧ pSty a.sty
def dCel {H : Type} (d : DataW H) (a : Cel) : Prop := ∃ d0 d1 d2 d3, d = .agg [d0, d1, d2, d3] ∧ dInt d0 a.base ∧ dAr2 d1 a.marks ∧ dInt d2 a.wide ∧ dSty d3 a.sty
set_option maxRecDepth 100000 in
theorem cod72 : Cod Tryz.prog 72 Cel cCel dCel (fun _ a => pCel a) := fun {H enc w base sp held fuel cs x} h => by
 obtain ⟨hl, n, ys, rfl, hx, hyl, hf⟩ := trod_struct Tryz.underlying72 h
 have hl' : cs.length = 12 := hl.trans (by kernel_rfl)
 obtain ⟨y0, e0, t0⟩ := hf 0 _ rfl
 obtain ⟨a0, c0, q0, p0⟩ := (cod_int Tryz.underlying3) t0
 obtain ⟨y1, e1, t1⟩ := hf 1 _ rfl
 obtain ⟨a1, c1, q1, p1⟩ := cod68 t1
 obtain ⟨y2, e2, t2⟩ := hf 2 _ rfl
 obtain ⟨a2, c2, q2, p2⟩ := (cod_int Tryz.underlying3) t2
 obtain ⟨y3, e3, t3⟩ := hf 3 _ rfl
 obtain ⟨a3, c3, q3, p3⟩ := cod70 t3
 have e : cs = _ := (List.drop_zero).symm.trans (parts_cons c0 (parts_cons c1 (parts_cons c2 (parts_cons c3 (List.drop_eq_nil_of_le (by omega : cs.length ≤ 12)) (by kernel_rfl)) (by kernel_rfl)) (by kernel_rfl)) (by kernel_rfl))
 have hys : ys = [y0, y1, y2, y3] := by
  match ys, hyl, e0, e1, e2, e3 with
  | [z0, z1, z2, z3], _, e0, e1, e2, e3 => simp at e0 e1 e2 e3; simp [e0, e1, e2, e3]
 rw [hys] at hx
 exact ⟨⟨a0, a1, a2, a3⟩, e, ⟨_, _, _, _, hx, q0, q1, q2, q3⟩, p0, p1, p2, p3⟩
def pPlc (a : Plc) : Prop := i64In a.row ∧ i64In a.col
def dPlc {H : Type} (d : DataW H) (a : Plc) : Prop := ∃ d0 d1, d = .agg [d0, d1] ∧ dInt d0 a.row ∧ dInt d1 a.col
set_option maxRecDepth 100000 in
theorem cod51 : Cod Tryz.prog 51 Plc cPlc dPlc (fun _ a => pPlc a) := fun {H enc w base sp held fuel cs x} h => by
 obtain ⟨hl, n, ys, rfl, hx, hyl, hf⟩ := trod_struct Tryz.underlying51 h
 have hl' : cs.length = 2 := hl.trans (by kernel_rfl)
 obtain ⟨y0, e0, t0⟩ := hf 0 _ rfl
 obtain ⟨a0, c0, q0, p0⟩ := (cod_int Tryz.underlying3) t0
 obtain ⟨y1, e1, t1⟩ := hf 1 _ rfl
 obtain ⟨a1, c1, q1, p1⟩ := (cod_int Tryz.underlying3) t1
 have e : cs = _ := (List.drop_zero).symm.trans (parts_cons c0 (parts_cons c1 (List.drop_eq_nil_of_le (by omega : cs.length ≤ 2)) (by kernel_rfl)) (by kernel_rfl))
 have hys : ys = [y0, y1] := by
  match ys, hyl, e0, e1 with
  | [z0, z1], _, e0, e1 => simp at e0 e1; simp [e0, e1]
 rw [hys] at hx
 exact ⟨⟨a0, a1⟩, e, ⟨_, _, hx, q0, q1⟩, p0, p1⟩
set_option maxRecDepth 100000 in
theorem open53 {H : Type} {enc : TypeId × Value → H} {w : World} {base : Nat} {sp : Nat → Bool} {held : Bool} {fuel : Nat} {cs : List Value} {x : DataW H × List MemPlace} (h : DataW.trod enc Tryz.prog w base sp held fuel 53 cs = some x) :
  ∃ (cols : Int) (rowsq : Option Addr) (rowsk : Nat) (rowsrs : List Slc) (rows : List (List Cel)) (cursor : Plc) (visible : Bool) (shape : Int) (title : List UInt8), cs = (cInt cols ++ ([.slice rowsq rows.length rowsk] ++ (cPlc cursor ++ (cBool visible ++ (cInt shape ++ (cStr title ++ [])))))) ∧ (i64In cols) ∧ (rows.length ≤ rowsk) ∧ (rowsk ≤ 9223372036854775807) ∧ (RowsOk rowsrs rows) ∧ ((sl cSlc rowsq rowsrs).p (hpOf w)) ∧ ((rowsF cCel rowsrs rows).p (hpOf w)) ∧ (∀ xs ∈ rows, ∀ a ∈ xs, pCel a) ∧ (pPlc cursor) ∧ (i64In shape) ∧ (title.length ≤ 9223372036854775807) ∧ (∃ ds, x.1 = .agg ds ∧ DataW.lit (.string title) ∈ ds) := by
 obtain ⟨hl, n, ys, rfl, hx, hyl, hf⟩ := trod_struct Tryz.underlying53 h
 have hl' : cs.length = 7 := hl.trans (by kernel_rfl)
 obtain ⟨y0, e0, t0⟩ := hf 0 _ rfl
 obtain ⟨cols, c0, q0, p0⟩ := (cod_int Tryz.underlying3) t0
 obtain ⟨y1, e1, t1⟩ := hf 1 _ rfl
 obtain ⟨rowsq, rowsk, rowsrs, rows, c1, g1_1, g1_2, g1_3, g1_4, g1_5, g1_6⟩ := open_rows (c := cCel) (D := dCel) (p := fun _ a => pCel a) cod72 (sz := 12) (fun _ => rfl) (by kernel_rfl) (by decide) Tryz.underlying67 (by kernel_rfl) Tryz.underlying49 t1
 obtain ⟨y2, e2, t2⟩ := hf 2 _ rfl
 obtain ⟨cursor, c2, q2, p2⟩ := cod51 t2
 obtain ⟨y3, e3, t3⟩ := hf 3 _ rfl
 obtain ⟨visible, c3, q3, p3⟩ := (cod_bool Tryz.underlying4) t3
 obtain ⟨y4, e4, t4⟩ := hf 4 _ rfl
 obtain ⟨shape, c4, q4, p4⟩ := (cod_int Tryz.underlying3) t4
 obtain ⟨y5, e5, t5⟩ := hf 5 _ rfl
 obtain ⟨title, c5, q5, p5⟩ := (cod_str Tryz.underlying9) t5
 exact ⟨cols, rowsq, rowsk, rowsrs, rows, cursor, visible, shape, title, (List.drop_zero).symm.trans (parts_cons c0 (parts_cons c1 (parts_cons c2 (parts_cons c3 (parts_cons c4 (parts_cons c5 (List.drop_eq_nil_of_le (by omega : cs.length ≤ 7)) (by kernel_rfl)) (by kernel_rfl)) (by kernel_rfl)) (by kernel_rfl)) (by kernel_rfl)) (by kernel_rfl)), p0, g1_1, g1_2, g1_3, g1_4, g1_5, g1_6, p2, p4, p5, ⟨_, hx, by rw [← show y5.1 = DataW.lit (.string title) from q5]; exact List.mem_map_of_mem (List.mem_of_getElem? e5)⟩⟩
def pShf (a : Shf) : Prop := i64In a.top ∧ i64In a.bottom ∧ i64In a.amt
def dShf {H : Type} (d : DataW H) (a : Shf) : Prop := ∃ d0 d1 d2, d = .agg [d0, d1, d2] ∧ dInt d0 a.top ∧ dInt d1 a.bottom ∧ dInt d2 a.amt
set_option maxRecDepth 100000 in
theorem cod55 : Cod Tryz.prog 55 Shf cShf dShf (fun _ a => pShf a) := fun {H enc w base sp held fuel cs x} h => by
 obtain ⟨hl, n, ys, rfl, hx, hyl, hf⟩ := trod_struct Tryz.underlying55 h
 have hl' : cs.length = 3 := hl.trans (by kernel_rfl)
 obtain ⟨y0, e0, t0⟩ := hf 0 _ rfl
 obtain ⟨a0, c0, q0, p0⟩ := (cod_int Tryz.underlying3) t0
 obtain ⟨y1, e1, t1⟩ := hf 1 _ rfl
 obtain ⟨a1, c1, q1, p1⟩ := (cod_int Tryz.underlying3) t1
 obtain ⟨y2, e2, t2⟩ := hf 2 _ rfl
 obtain ⟨a2, c2, q2, p2⟩ := (cod_int Tryz.underlying3) t2
 have e : cs = _ := (List.drop_zero).symm.trans (parts_cons c0 (parts_cons c1 (parts_cons c2 (List.drop_eq_nil_of_le (by omega : cs.length ≤ 3)) (by kernel_rfl)) (by kernel_rfl)) (by kernel_rfl))
 have hys : ys = [y0, y1, y2] := by
  match ys, hyl, e0, e1, e2 with
  | [z0, z1, z2], _, e0, e1, e2 => simp at e0 e1 e2; simp [e0, e1, e2]
 rw [hys] at hx
 exact ⟨⟨a0, a1, a2⟩, e, ⟨_, _, _, hx, q0, q1, q2⟩, p0, p1, p2⟩
end Go.Proofs.YtinkdfnpmoljfaaGreatDoor

