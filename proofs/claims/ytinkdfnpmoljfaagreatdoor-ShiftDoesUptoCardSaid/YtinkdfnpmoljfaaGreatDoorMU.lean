import Derived.Test.YtinkdfnpmoljfaaGreatDoorT12
import Derived.Test.YtinkdfnpmoljfaaGreatDoorMT
import Derived.Test.YtinkdfnpmoljfaaGreatDoorLY4
set_option linter.unusedVariables false
set_option linter.unusedSimpArgs false
namespace Go.Proofs.YtinkdfnpmoljfaaGreatDoor
open Go Go.Fen
/-! ShiftDoes in plain Lean: the shift's check, its actions, the shifted frame, each as defined. -/
theorem check_val (s : Shf) (n : Int) : shift_Check s n = 0 ∨ shift_Check s n = 2 := by
  unfold shift_Check
  generalize ((((((((decide (n < 1)) || (decide ((40 : Int) < n))) || (decide (s.top < 0))) || (decide (s.bottom < s.top))) || (decide (n ≤ s.bottom))) || (decide (s.amt = 0))) || (decide (s.amt < (s.top - s.bottom)))) || (decide ((s.bottom - s.top) < s.amt))) = c
  cases c <;> simp
theorem is_check (s : Shf) (n : Int) : ref28_Is s n = true ↔ shift_Check s n = 0 := by
  constructor
  · intro h; have := ref28_Is_ok h; exact check_of_ok (by omega) (by omega) (by unfold shOk; omega)
  · intro h
    have := shift_Check_ok h
    unfold ref28_Is
    rw [decide_eq_false (by omega : ¬ n < 1), decide_eq_false (by omega : ¬ (40 : Int) < n), decide_eq_false (by omega : ¬ s.top < 0), decide_eq_false (by omega : ¬ s.bottom < s.top), decide_eq_false (by omega : ¬ n ≤ s.bottom), decide_eq_false (by omega : ¬ s.amt = 0), decide_eq_true (by omega : s.amt ≤ _), decide_eq_true (by omega : -(s.bottom - s.top) ≤ s.amt)]
    rfl
theorem samea_l0 : ∀ (xs ys : List Act) (t : Nat), xs = ys.drop t → ref26_Same_l0 ys xs t = true
  | [], ys, t, h => by simp only [ref26_Same_l0]
  | x :: xs, ys, t, h => by
    have hlt : t < ys.length := by
      by_cases hh : t < ys.length
      · exact hh
      · rw [List.drop_eq_nil_of_le (by omega)] at h; cases h
    have hd := List.drop_eq_getElem_cons hlt
    have hx : ys.getD t Act.zero = x := by rw [hd] at h; rw [getD_eq hlt]; exact (List.cons.inj h).1.symm
    have hxs : xs = ys.drop (t + 1) := by rw [hd] at h; exact (List.cons.inj h).2
    simp only [ref26_Same_l0]
    rw [hx, decide_eq_true rfl]
    exact samea_l0 xs ys (t + 1) hxs
theorem samea_self (xs : List Act) : ref26_Same xs xs = true := by
  unfold ref26_Same
  rw [decide_eq_true rfl]
  exact samea_l0 xs xs 0 rfl
theorem samec_l0 : ∀ (xs ys : List Cel) (t : Nat), xs = ys.drop t → ref23_SameCells_l0 ys xs t = true
  | [], ys, t, h => by simp only [ref23_SameCells_l0]
  | x :: xs, ys, t, h => by
    have hlt : t < ys.length := by
      by_cases hh : t < ys.length
      · exact hh
      · rw [List.drop_eq_nil_of_le (by omega)] at h; cases h
    have hd := List.drop_eq_getElem_cons hlt
    have hx : ys.getD t Cel.zero = x := by rw [hd] at h; rw [getD_eq hlt]; exact (List.cons.inj h).1.symm
    have hxs : xs = ys.drop (t + 1) := by rw [hd] at h; exact (List.cons.inj h).2
    simp only [ref23_SameCells_l0]
    rw [hx, decide_eq_true rfl]
    exact samec_l0 xs ys (t + 1) hxs
theorem samec_self (xs : List Cel) : ref23_SameCells xs xs = true := by
  unfold ref23_SameCells
  rw [decide_eq_true rfl]
  exact samec_l0 xs xs 0 rfl
theorem samef_l0 : ∀ (xs ys : List (List Cel)) (t : Nat), xs = ys.drop t → ref23_Same_l0 ys xs t = true
  | [], ys, t, h => by simp only [ref23_Same_l0]
  | x :: xs, ys, t, h => by
    have hlt : t < ys.length := by
      by_cases hh : t < ys.length
      · exact hh
      · rw [List.drop_eq_nil_of_le (by omega)] at h; cases h
    have hd := List.drop_eq_getElem_cons hlt
    have hx : ys.getD t [] = x := by rw [hd] at h; rw [getD_eq hlt]; exact (List.cons.inj h).1.symm
    have hxs : xs = ys.drop (t + 1) := by rw [hd] at h; exact (List.cons.inj h).2
    simp only [ref23_Same_l0]
    rw [hx, samec_self]
    exact samef_l0 xs ys (t + 1) hxs
theorem samef_self (c : Int) (rows : List (List Cel)) (cu : Plc) (v : Bool) (sh : Int) (ti : List UInt8) : ref23_Same c rows cu v sh ti c rows cu v sh ti = true := by
  unfold ref23_Same
  rw [decide_eq_true rfl, decide_eq_true rfl, decide_eq_true rfl, decide_eq_true rfl, decide_eq_true rfl]
  cases v <;> exact samef_l0 rows rows 0 rfl
theorem blank_one (c : Int) : ref23_Blank c 1 = (c, [shift_plain c], 0, 0, true, 0, []) := by
  unfold ref23_Blank
  have h1 : ∀ m, ((1 : Int) - (0 : Int)).toNat + 1 = m + 1 → m = 1 := fun m h => by omega
  show ref23_Blank_l3 c 1 2 0 [] = _
  simp only [ref23_Blank_l3]
  rw [show decide (((0 : Nat) : Int) < 1) = true from rfl, cond_true, ref23_Blank_l4_eq _ _ _ _ _ _ _ (by show (c - ((0 : Nat) : Int)).toNat < (c - 0).toNat + 1; omega)]
  simp only [ref23_Blank_l3]
  rw [show decide (((0 + 1 : Nat) : Int) < 1) = false from rfl, cond_false, List.nil_append, List.nil_append]
  congr 2
  refine congrArg (fun x => [x]) ?_
  refine ext_getD Cel.zero (by rw [List.length_replicate, shift_plain_len]; congr 1; omega) (fun i hi => ?_)
  rw [List.length_replicate] at hi
  rw [shift_plain_get c i (by omega), getD_eq (by rw [List.length_replicate]; exact hi), List.getElem_replicate]
theorem does_l0 (c : Int) (rows : List (List Cel)) (cu : Plc) (v : Bool) (sh : Int) (ti : List UInt8) (s : Shf) (B : Int × List (List Cel) × Int × Int × Bool × Int × List UInt8) (hB : B.2.1.getD 0 [] = shift_plain c) (hs : shift_Check s (rows.length : Int) = 0) :
    ∀ (rs : List (List Cel)) (r : Nat) (out : List (List Cel)), rs = rows.drop r → out.length = r → (∀ i, i < r → out.getD i [] = shRow c rows s i) → r ≤ rows.length →
      ∃ o, ref28_Done_l0 c rows cu v sh ti s B rs r out = (c, o, cu.row, cu.col, v, sh, ti) ∧ o.length = rows.length ∧ ∀ i, i < rows.length → o.getD i [] = shRow c rows s i
  | [], r, out, h, hl, ho, hr => by
    have := congrArg List.length h; simp at this
    exact ⟨out, by simp only [ref28_Done_l0], by omega, fun i hi => ho i (by omega)⟩
  | x :: rs, r, out, h, hl, ho, hr => by
    have hlt : r < rows.length := by
      by_cases hh : r < rows.length
      · exact hh
      · rw [List.drop_eq_nil_of_le (by omega)] at h; cases h
    have hd := List.drop_eq_getElem_cons hlt
    have hx : rows.getD r [] = x := by rw [hd] at h; rw [getD_eq hlt]; exact (List.cons.inj h).1.symm
    have hxs : rs = rows.drop (r + 1) := by rw [hd] at h; exact (List.cons.inj h).2
    have hk := shift_Check_ok hs
    have key : ref28_Done_l0 c rows cu v sh ti s B (x :: rs) r out = ref28_Done_l0 c rows cu v sh ti s B rs (r + 1) (out ++ [shRow c rows s r]) := by
      simp only [ref28_Done_l0]
      rw [wrap_in (k := .i64) (m := (r : Int) + s.amt) (by simp [IntKind.min, IntKind.signed, IntKind.bits]; omega) (by simp [IntKind.max, IntKind.signed, IntKind.bits]; omega), hB]
      unfold shRow
      by_cases c1 : s.top ≤ (r : Int) ∧ (r : Int) ≤ s.bottom
      · rw [decide_eq_true c1.1, decide_eq_true c1.2]
        simp only [Bool.and_self, cond_true]
        by_cases c2 : s.top ≤ (r : Int) + s.amt ∧ (r : Int) + s.amt ≤ s.bottom
        · have hq : shift_source s (r : Int) = r + s.amt := by rw [source_if, if_neg (by omega), if_pos c2]
          rw [hq, if_pos (by omega), decide_eq_true c2.1, decide_eq_true c2.2]; rfl
        · have hq : shift_source s (r : Int) = -1 := by rw [source_if, if_neg (by omega), if_neg c2]
          rw [hq, if_neg (by omega), show (decide (s.top ≤ (r : Int) + s.amt) && decide ((r : Int) + s.amt ≤ s.bottom)) = false by rw [← Bool.not_eq_true]; simpa using c2]; rfl
      · have hq : shift_source s (r : Int) = r := by rw [source_if, if_pos (by omega)]
        rw [hq, if_pos (by omega), show (decide (s.top ≤ (r : Int)) && decide ((r : Int) ≤ s.bottom)) = false by rw [← Bool.not_eq_true]; simpa using c1, Int.toNat_natCast, hx]; rfl
    rw [key]
    refine does_l0 c rows cu v sh ti s B hB hs rs (r + 1) (out ++ [shRow c rows s r]) hxs (by simp [hl]) (fun i hi => ?_) hlt
    by_cases ci : i < r
    · rw [← ho i ci, List.getD_eq_getElem?_getD, List.getElem?_append_left (by omega), List.getD_eq_getElem?_getD]
    · rw [show i = r by omega, List.getD_eq_getElem?_getD, List.getElem?_append_right (by omega), hl]; simp
theorem done_ref {c : Int} {rows : List (List Cel)} {cu : Plc} {v : Bool} {sh : Int} {ti : List UInt8} {s : Shf} (hf : frame_Check c rows cu v sh ti = 0) (hs : shift_Check s (rows.length : Int) = 0) :
    ∃ o, shift_Done c rows cu v sh ti s = (c, o, cu.row, cu.col, v, sh, ti, 0) ∧ ref28_Done c rows cu v sh ti s = (c, o, cu.row, cu.col, v, sh, ti) ∧ o.length = rows.length ∧ ∀ r, r < rows.length → o.getD r [] = shRow c rows s r := by
  obtain ⟨o, e, hl, hr⟩ := done_eq hf hs
  obtain ⟨o', e', hl', hr'⟩ := does_l0 c rows cu v sh ti s (ref23_Blank c 1) (by rw [blank_one]; rfl) hs rows 0 [] rfl rfl (fun i hi => by omega) (Nat.zero_le _)
  refine ⟨o, e, ?_, hl, hr⟩
  unfold ref28_Done bindV
  refine e'.trans ?_
  have : o' = o := ext_getD [] (by omega) (fun i hi => by rw [hr' i (by omega), hr i (by omega)])
  rw [this]
theorem does_j1 {c : Int} {rows : List (List Cel)} {cu : Plc} {v : Bool} {sh : Int} {ti : List UInt8} (s : Shf) (hc : ∀ r ∈ rows, ∀ x ∈ r, aIn x) : law28_ShiftDoes_j1 c rows cu v sh ti s = true := by
  unfold law28_ShiftDoes_j1 bindV
  have hr := frame_right (cu := cu) (v := v) (sh := sh) (ti := ti) (c := c) hc
  rcases frame_val c rows cu v sh ti with hf | hf
  · rw [hr.1 hf]
    simp only [Bool.not_true, cond_false]
    rcases check_val s (rows.length : Int) with hs | hs
    · rw [(is_check s _).2 hs]
      obtain ⟨o, e, e', -, -⟩ := done_ref hf hs
      rw [e, e']
      simp only [Bool.not_true, cond_false, decide_true, cond_true]
      exact samef_self ..
    · rw [show ref28_Is s (rows.length : Int) = false by rw [← Bool.not_eq_true, is_check]; omega]
      unfold shift_Done
      rw [hf, hs]; rfl
  · rw [show ref23_Right c rows cu v sh ti = false by rw [← Bool.not_eq_true, ← hr]; omega]
    unfold shift_Done
    rw [hf]; rfl
theorem shiftDoes_law (c : Int) (rows : List (List Cel)) (cu : Plc) (v : Bool) (sh : Int) (ti : List UInt8) (s : Shf) (n : Int) (hc : ∀ r ∈ rows, ∀ x ∈ r, aIn x) : law28_ShiftDoes c rows cu v sh ti s n = true := by
  unfold law28_ShiftDoes
  rw [wakes_true]
  simp only [Bool.not_true, cond_false, bindV]
  rcases check_val s n with hs | hs
  · have hk := shift_Check_ok hs
    rw [(is_check s n).2 hs]
    have w1 : IntKind.i64.wrap (s.top + 1) = s.top + 1 := wrap_in (by simp [IntKind.min, IntKind.signed, IntKind.bits]; omega) (by simp [IntKind.max, IntKind.signed, IntKind.bits]; omega)
    have w2 : IntKind.i64.wrap (s.bottom + 1) = s.bottom + 1 := wrap_in (by simp [IntKind.min, IntKind.signed, IntKind.bits]; omega) (by simp [IntKind.max, IntKind.signed, IntKind.bits]; omega)
    unfold shift_Actions
    rw [hs]
    by_cases ha : s.amt < 0
    · rw [decide_eq_true ha]
      simp only [decide_true, Bool.not_true, cond_false, cond_true, shift_Actions_j0, law28_ShiftDoes_j2]
      rw [w1, w2, show ({ Act.zero with kind := 33, m := (-s.amt), n := 1 } : Act) = { Act.zero with kind := 33, n := 1, m := (-s.amt) } from rfl, samea_self, does_j1 s hc]; rfl
    · rw [decide_eq_false ha]
      simp only [decide_true, Bool.not_true, cond_false, cond_true, shift_Actions_j0, law28_ShiftDoes_j2]
      rw [w1, w2, show ({ Act.zero with kind := 33, m := s.amt } : Act) = { Act.zero with kind := 33, n := 0, m := s.amt } from rfl, samea_self, does_j1 s hc]; rfl
  · rw [show ref28_Is s n = false by rw [← Bool.not_eq_true, is_check]; omega]
    unfold shift_Actions
    rw [hs, does_j1 s hc]; rfl
end Go.Proofs.YtinkdfnpmoljfaaGreatDoor

