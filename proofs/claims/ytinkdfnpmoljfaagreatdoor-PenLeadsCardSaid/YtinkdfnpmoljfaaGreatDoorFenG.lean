import Derived.Test.YtinkdfnpmoljfaaGreatDoorFenF
import Derived.ChangeKeysEq
set_option linter.unusedVariables false
set_option linter.unusedSimpArgs false
namespace Go.Fen
open Go Go.RowKit

/-! ### '==' on structs and arrays of numbers, bools and strings: are the cells the same? -/
def rowT (P : Program) (T : TypeId) : Bool := match P.underlying T with
 | some (.struct _) | some (.array _ _) => true
 | _ => false
def vOf (P : Program) (T : TypeId) (us : List Value) : Value := if rowT P T then .agg us.toArray else us.headD undef
def wkFs (P : Program) (r : TypeId → List Value → List Value → Bool) : List Field → Nat → List Value → List Value → Bool
 | [], _, us, vs => us.isEmpty && vs.isEmpty
 | f :: fs, off, us, vs => f.name != "_" && f.offset == off && r f.type (us.take (P.cellsOf f.type)) (vs.take (P.cellsOf f.type)) && wkFs P r fs (off + P.cellsOf f.type) (us.drop (P.cellsOf f.type)) (vs.drop (P.cellsOf f.type))
def wkAs (P : Program) (r : TypeId → List Value → List Value → Bool) (e : TypeId) : Nat → List Value → List Value → Bool
 | 0, us, vs => us.isEmpty && vs.isEmpty
 | n + 1, us, vs => r e (us.take (P.cellsOf e)) (vs.take (P.cellsOf e)) && wkAs P r e n (us.drop (P.cellsOf e)) (vs.drop (P.cellsOf e))
def wk (P : Program) : Nat → TypeId → List Value → List Value → Bool
 | 0, _, _, _ => false
 | d + 1, T, us, vs => (P.info? T).isSome && us.length == P.cellsOf T && vs.length == P.cellsOf T && match P.underlying T with
  | some .bool => match us, vs with
   | [.bool _], [.bool _] => true
   | _, _ => false
  | some (.int k) => match us, vs with
   | [.int a _], [.int b _] => decide (a = k) && decide (b = k)
   | _, _ => false
  | some .string => match us, vs with
   | [.string _], [.string _] => true
   | _, _ => false
  | some (.struct fs) => !P.stoodInHeld T && wkFs P (wk P d) fs.toList 0 us vs
  | some (.array n e) => n != 0 && wkAs P (wk P d) e n us vs
  | _ => false

section
variable {P : Program}
theorem cellsOf_info {T : TypeId} {i : TypeInfo} (h : P.info? T = some i) : P.cellsOf T = i.size := by simp [Program.cellsOf, h]
theorem run_part_v {T : TypeId} (hi : (P.info? T).isSome = true) {d : TypeDesc} (hd : P.underlying T = some d) {xs : Array Value} {off : Nat} {us : List Value} (hu : (xs.toList.drop off).take (P.cellsOf T) = us) (hn : rowT P T = false → us ≠ []) (w : World) :
  (part T xs off).run P w = .ok (vOf P T us) w := by
 obtain ⟨i, hi⟩ := Option.isSome_iff_exists.1 hi
 have hag : (isAgg T).run P w = .ok (rowT P T) w := by
  unfold isAgg rowT
  rw [Sem.run_bind, run_underlying hd, hd]
  cases d <;> rfl
 cases hr : rowT P T with
 | true =>
  have : xs.extract off (off + i.size) = us.toArray := by
   rw [← hu, cellsOf_info hi]
   apply Array.ext'
   simp [List.extract_eq_take_drop]
  simp [part, hag, hr, run_sizeOf hi, vOf, this]
 | false =>
  have h0 : xs[off]? = some (us.headD undef) := by
   cases us with
   | nil => exact absurd rfl (hn hr)
   | cons u us =>
    have := congrArg (·[0]?) hu
    simp only [List.getElem?_cons_zero, List.getElem?_take, List.getElem?_drop, Nat.add_zero] at this
    split at this
    ·simpa using this
    ·cases this
  simp [part, hag, hr, vOf, h0]

theorem wk_spec : ∀ (d : Nat) (k : Nat) (T : TypeId) (us vs : List Value) (w : World), wk P d T us vs = true → ∃ b : Bool, (Op.equalIn (k + d) T (vOf P T us) (vOf P T vs)).run P w = .ok b w ∧ (b = true ↔ us = vs)
 | 0, _, _, _, _, _, h => by simp [wk] at h
 | d + 1, k, T, us, vs, w, h => by
  have ih := fun T us vs h => wk_spec d k T us vs w h
  unfold wk at h
  simp only [Bool.and_eq_true, beq_iff_eq] at h
  obtain ⟨⟨⟨hi, hl1⟩, hl2⟩, h⟩ := h
  have key : ∀ (T : TypeId) (us vs : List Value), wk P d T us vs = true → (P.info? T).isSome = true ∧ us.length = P.cellsOf T ∧ vs.length = P.cellsOf T ∧ (∃ dd, P.underlying T = some dd) ∧ (rowT P T = false → us ≠ [] ∧ vs ≠ []) := by
   intro T us vs h
   cases d with
   | zero => simp [wk] at h
   | succ d =>
    unfold wk at h
    simp only [Bool.and_eq_true, beq_iff_eq] at h
    obtain ⟨⟨⟨hi, hl1⟩, hl2⟩, h⟩ := h
    refine ⟨hi, hl1, hl2, ?_, ?_⟩
    ·split at h <;> first | exact ⟨_, ‹_›⟩ | cases h
    ·intro hr
     split at h
     ·split at h
      ·simp
      ·cases h
     ·split at h
      ·simp
      ·cases h
     ·split at h
      ·simp
      ·cases h
     ·rename_i hu; simp [rowT, hu] at hr
     ·rename_i hu; simp [rowT, hu] at hr
     ·cases h
  split at h
  ·rename_i hu
   have hr : rowT P T = false := by simp [rowT, hu]
   split at h
   ·rename_i a b
    exact ⟨a == b, by simp [vOf, hr, ← Nat.add_assoc, run_equalIn_bool' w _ T a b hu], by simp⟩
   ·cases h
  ·rename_i q hu
   have hr : rowT P T = false := by simp [rowT, hu]
   split at h
   ·rename_i j a j' b
    simp only [Bool.and_eq_true, decide_eq_true_eq] at h
    obtain ⟨rfl, rfl⟩ := h
    exact ⟨a == b, by simp [vOf, hr, ← Nat.add_assoc, run_equalIn_int w _ T _ _ a b hu], by simp⟩
   ·cases h
  ·rename_i hu
   have hr : rowT P T = false := by simp [rowT, hu]
   split at h
   ·rename_i a b
    refine ⟨a.toList == b.toList, by simp [vOf, hr, ← Nat.add_assoc, run_equalIn_string w _ T a b hu], ?_⟩
    rw [beq_iff_eq, ByteArray.toList_eq, ByteArray.toList_eq]
    constructor
    ·intro e
     obtain ⟨⟨x⟩⟩ := a
     obtain ⟨⟨y⟩⟩ := b
     simp only at e
     rw [e]
    ·intro e
     simp only [List.cons.injEq, Value.string.injEq, and_true] at e
     rw [e]
   ·cases h
  ·rename_i fs hu
   have hr : rowT P T = true := by simp [rowT, hu]
   simp only [Bool.and_eq_true, Bool.not_eq_true'] at h
   have hf : P.fieldsOf T = fs := by simp [Program.fieldsOf, hu]
   simp only [vOf, hr, if_true, Nat.add_succ]
   rw [run_equalIn_struct w (k + d) T us.toArray vs.toArray (by rw [hf]; exact hu) h.1, hf]
   have loop : ∀ (fs : List Field) (off : Nat) (us' vs' : List Value), us.drop off = us' → vs.drop off = vs' → wkFs P (wk P d) fs off us' vs' = true →
     ∃ b : Bool, (Op.eqFields (k + d) us.toArray vs.toArray fs).run P w = .ok b w ∧ (b = true ↔ us' = vs') := by
    intro fs
    induction fs with
    | nil =>
     intro off us' vs' _ _ h
     simp only [wkFs, Bool.and_eq_true, List.isEmpty_iff] at h
     exact ⟨true, by simp [Op.eqFields], by simp [h.1, h.2]⟩
    | cons f fs ihf =>
     intro off us' vs' h1 h2 h
     simp only [wkFs, Bool.and_eq_true, bne_iff_ne, beq_iff_eq] at h
     obtain ⟨⟨⟨hnm, hoff⟩, hk⟩, hrest⟩ := h
     obtain ⟨hi', hl1', hl2', ⟨dd, hdd⟩, hne⟩ := key _ _ _ hk
     obtain ⟨b, hb, hbi⟩ := ih _ _ _ hk
     obtain ⟨b', hb', hbi'⟩ := ihf (off + P.cellsOf f.type) _ _ (by rw [← h1, List.drop_drop]) (by rw [← h2, List.drop_drop]) hrest
     have p1 := run_part_v (P := P) hi' hdd (xs := us.toArray) (off := f.offset) (us := us'.take (P.cellsOf f.type)) (by rw [hoff, ← h1]) (fun e => (hne e).1) w
     have p2 := run_part_v (P := P) hi' hdd (xs := vs.toArray) (off := f.offset) (us := vs'.take (P.cellsOf f.type)) (by rw [hoff, ← h2]) (fun e => (hne e).2) w
     have split : us' = vs' ↔ us'.take (P.cellsOf f.type) = vs'.take (P.cellsOf f.type) ∧ us'.drop (P.cellsOf f.type) = vs'.drop (P.cellsOf f.type) := by
      constructor
      ·intro e; rw [e]; exact ⟨rfl, rfl⟩
      ·intro ⟨e1, e2⟩; rw [← List.take_append_drop (P.cellsOf f.type) us', e1, e2, List.take_append_drop]
     simp only [Op.eqFields, ne_eq, hnm, not_false_eq_true, if_true, Sem.run_bind, p1, p2, Result.andThen_ok, hb]
     cases b with
     | false => exact ⟨false, by simp, by rw [split, ← hbi]; simp⟩
     | true => exact ⟨b', by simpa using hb', by rw [split, ← hbi, hbi']; simp⟩
   exact loop fs.toList 0 us vs rfl rfl h.2
  ·rename_i m e hu
   have hr : rowT P T = true := by simp [rowT, hu]
   obtain ⟨i0, hi0⟩ := Option.isSome_iff_exists.1 hi
   simp only [vOf, hr, if_true, Nat.add_succ]
   cases m with
   | zero => simp at h
   | succ m =>
    simp only [Bool.and_eq_true] at h
    replace h := h.2
    have hie : ∃ i, P.info? e = some i := by
     have : wk P d e (us.take (P.cellsOf e)) (vs.take (P.cellsOf e)) = true := by simp only [wkAs, Bool.and_eq_true] at h; exact h.1
     exact Option.isSome_iff_exists.1 (key _ _ _ this).1
    obtain ⟨ie, hie⟩ := hie
    rw [run_equalIn_array w (k + d) us.toArray vs.toArray hu hie, List.range_eq_range']
    have loop : ∀ (m : Nat) (j : Nat) (us' vs' : List Value), us.drop (j * P.cellsOf e) = us' → vs.drop (j * P.cellsOf e) = vs' → wkAs P (wk P d) e m us' vs' = true →
      ∃ b : Bool, (Op.eqItems (k + d) e (P.cellsOf e) us.toArray vs.toArray (List.range' j m)).run P w = .ok b w ∧ (b = true ↔ us' = vs') := by
     intro m
     induction m with
     | zero =>
      intro j us' vs' _ _ h
      simp only [wkAs, Bool.and_eq_true, List.isEmpty_iff] at h
      exact ⟨true, by simp [Op.eqItems], by simp [h.1, h.2]⟩
     | succ m ihm =>
      intro j us' vs' h1 h2 h
      simp only [wkAs, Bool.and_eq_true] at h
      obtain ⟨hk, hrest⟩ := h
      obtain ⟨hi', hl1', hl2', ⟨dd, hdd⟩, hne⟩ := key _ _ _ hk
      obtain ⟨b, hb, hbi⟩ := ih _ _ _ hk
      obtain ⟨b', hb', hbi'⟩ := ihm (j + 1) _ _ (by rw [← h1, List.drop_drop, Nat.succ_mul]) (by rw [← h2, List.drop_drop, Nat.succ_mul]) hrest
      have p1 := run_part_v (P := P) hi' hdd (xs := us.toArray) (off := j * P.cellsOf e) (us := us'.take (P.cellsOf e)) (by rw [← h1]) (fun e => (hne e).1) w
      have p2 := run_part_v (P := P) hi' hdd (xs := vs.toArray) (off := j * P.cellsOf e) (us := vs'.take (P.cellsOf e)) (by rw [← h2]) (fun e => (hne e).2) w
      have split : us' = vs' ↔ us'.take (P.cellsOf e) = vs'.take (P.cellsOf e) ∧ us'.drop (P.cellsOf e) = vs'.drop (P.cellsOf e) := by
       constructor
       ·intro e; rw [e]; exact ⟨rfl, rfl⟩
       ·intro ⟨e1, e2⟩; rw [← List.take_append_drop (P.cellsOf e) us', e1, e2, List.take_append_drop]
      rw [List.range'_succ]
      simp only [Op.eqItems, Sem.run_bind, p1, p2, Result.andThen_ok, hb]
      cases b with
      | false => exact ⟨false, by simp, by rw [split, ← hbi]; simp⟩
      | true => exact ⟨b', by simpa using hb', by rw [split, ← hbi, hbi']; simp⟩
    exact loop (m + 1) 0 us vs (by simp) (by simp) h
  ·cases h

/-- A type whose values c writes: compared by what is written. -/
theorem EqT.of {T : TypeId} {α : Type} [DecidableEq α] {c : α → List Value} (d : Nat) (hd : Nat.ble d 10000 = true) (hr : rowT P T = true) (hg : P.eqGuardType P.depth T = false) (hk : ∀ x y, wk P d T (c x) (c y) = true) (hc : ∀ x y, c x = c y → x = y) : EqT P T c := by
 refine ⟨fun x y w => ?_, hg⟩
 obtain ⟨b, hb, hbi⟩ := wk_spec d (10000 - d) T (c x) (c y) w (hk x y)
 have hd' := Nat.le_of_ble_eq_true hd
 rw [Nat.sub_add_cancel hd'] at hb
 simp only [vOf, hr, if_true] at hb
 unfold Op.equal Op.maxDepth
 rw [hb]
 congr 1
 by_cases e : x = y
 ·subst e; simp [hbi.2 rfl]
 ·cases b with
  | false => simp [e]
  | true => exact absurd (hc _ _ (hbi.1 rfl)) e
end
end Go.Fen

