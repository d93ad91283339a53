import Derived.Test.YtlcaphkcfmlljaaGreatDoorLU
set_option linter.unusedVariables false
set_option linter.unusedSimpArgs false
namespace Go.Proofs.YtlcaphkcfmlljaaGreatDoor
open Go Go.Fen
/-! Over: the spans laid over the first frame give the second's cells. -/
theorem row_wide_l0 : ∀ (xs : List Cel) (t : Nat) (last : Cel), row_Check_l0 xs t last = 0 → ∀ i, i < xs.length → (xs.getD i Cel.zero).wide = 2 → ((last :: xs).getD i Cel.zero).wide = 1
  | [], t, last, _, i, hi => by simp at hi
  | x :: xs, t, last, h, i, hi => by
    simp only [row_Check_l0] at h
    generalize hc : (((!decide ((row_CheckCell x) = 0)) || (!((decide (last.wide = 1)) == (decide (x.wide = 2))))) || ((decide (x.wide = 2)) && (!(decide (x.sty = last.sty))))) = c at h
    cases c with
    | true => simp at h
    | false =>
      rw [cond_false] at h
      simp only [Bool.or_eq_false_iff] at hc
      cases i with
      | zero =>
        intro hw
        have hw' : x.wide = 2 := by simpa using hw
        have := hc.1.2
        rw [decide_eq_true hw'] at this
        simpa using this
      | succ i =>
        intro hw
        have := row_wide_l0 xs (t + 1) x h i (by simpa using hi) (by simpa using hw)
        simpa using this
theorem row_wide {r : List Cel} {w : Bool} (h : row_Check r w = 0) {i : Nat} (hi : i < r.length) (hw : (r.getD i Cel.zero).wide = 2) : 0 < i ∧ (r.getD (i - 1) Cel.zero).wide = 1 := by
  unfold row_Check at h
  generalize (decide ((r.length : Int) < 2) || decide ((80 : Int) < (r.length : Int))) = c at h
  cases c with
  | true => simp at h
  | false =>
    rw [cond_false] at h
    have := row_wide_l0 r 0 Cel.zero h i hi hw
    cases i with
    | zero => simp [Cel.zero] at this
    | succ i => exact ⟨by omega, by simpa using this⟩
theorem cuts_no {row : List Cel} {w : Bool} (h : row_Check row w = 0) {s : Sp3} {f t : Nat} (hf : s.frm = f) (ht : s.to = t) (hft : f < t) (htl : t ≤ row.length)
    (h1 : f = 0 ∨ (row.getD (f - 1) Cel.zero).wide ≠ 1) (h2 : t = row.length ∨ (row.getD (t - 1) Cel.zero).wide ≠ 1) : damage_cuts row s = false := by
  unfold damage_cuts
  rw [hf, ht, Int.toNat_natCast, Int.toNat_natCast, Bool.or_eq_false_iff, Bool.and_eq_false_iff, decide_eq_false_iff_not, decide_eq_false_iff_not, decide_eq_false_iff_not]
  constructor
  · intro hw
    obtain ⟨a, b⟩ := row_wide h (by omega) hw
    rcases h1 with h1 | h1
    · omega
    · exact h1 b
  · by_cases e : t < row.length
    · right
      intro hw
      obtain ⟨a, b⟩ := row_wide h e hw
      rcases h2 with h2 | h2
      · omega
      · exact h2 b
    · left; omega
def SpO (A B : List (List Cel)) (s : Sp3) : Prop :=
  ∃ r f t : Nat, s.row = r ∧ s.frm = f ∧ s.to = t ∧ r < A.length ∧ f < t ∧ t ≤ (A.getD r []).length ∧ Bd (A.getD r []) (B.getD r []) f ∧ Bd (A.getD r []) (B.getD r []) t
theorem SpG.o {A B : List (List Cel)} {s : Sp3} (h : SpG A B s) : SpO A B s := by
  obtain ⟨r, hr, e1, f, t, e2, e3, e4, e5, _, b1, b2⟩ := h
  exact ⟨r, f, t, e1, e2, e3, hr, e4, e5, b1, b2⟩
theorem bd_wide {a b : List Cel} {f : Nat} (h : Bd a b f) (hl : b.length = a.length) : (f = 0 ∨ f = a.length ∨ (a.getD (f - 1) Cel.zero).wide ≠ 1) ∧ (f = 0 ∨ f = b.length ∨ (b.getD (f - 1) Cel.zero).wide ≠ 1) := by
  by_cases h0 : f = 0
  · exact ⟨Or.inl h0, Or.inl h0⟩
  · rcases h with h | h | h
    · exact absurd h h0
    · exact ⟨Or.inr (Or.inl h), Or.inr (Or.inl (h.trans hl.symm))⟩
    · unfold damage_linked at h
      rw [show ((f : Int) - 1).toNat = f - 1 by omega, Bool.or_eq_false_iff, decide_eq_false_iff_not, decide_eq_false_iff_not] at h
      exact ⟨Or.inr (Or.inr h.1), Or.inr (Or.inr h.2)⟩
theorem cut1 {f : Nat} {p q : Prop} (h : f = 0 ∨ p ∨ q) (hp : ¬ p) : f = 0 ∨ q := h.elim Or.inl fun h => h.elim (fun h => absurd h hp) Or.inr
theorem cut2 {f : Nat} {p q : Prop} (h : f = 0 ∨ p ∨ q) (hf : ¬ f = 0) : p ∨ q := h.elim (fun h => absurd h hf) id
theorem splice_len {o b : List Cel} {c f t : Nat} (ho : o.length = c) (hb : b.length = c) (hft : f < t) (ht : t ≤ c) : ([o.take f, (b.drop f).take (t - f), o.drop t] : List (List Cel)).flatten.length = c := by
  simp only [List.flatten_cons, List.flatten_nil, List.length_append, List.length_take, List.length_drop, List.length_nil]; omega
theorem splice_get {o b : List Cel} {c f t : Nat} (ho : o.length = c) (hb : b.length = c) (hft : f < t) (ht : t ≤ c) (i : Nat) (hi : i < c) :
    (([o.take f, (b.drop f).take (t - f), o.drop t] : List (List Cel)).flatten).getD i Cel.zero = if f ≤ i ∧ i < t then b.getD i Cel.zero else o.getD i Cel.zero := by
  simp only [List.flatten_cons, List.flatten_nil, List.append_nil, List.getD_eq_getElem?_getD]
  congr 1
  by_cases h1 : i < f
  · rw [List.getElem?_append_left (by rw [List.length_take]; omega), List.getElem?_take_of_lt h1, if_neg (by omega)]
  · rw [List.getElem?_append_right (by rw [List.length_take]; omega), List.length_take, show min f o.length = f by omega]
    by_cases h2 : i < t
    · rw [List.getElem?_append_left (by rw [List.length_take, List.length_drop]; omega), List.getElem?_take_of_lt (by omega), List.getElem?_drop, if_pos (by omega), show f + (i - f) = i by omega]
    · rw [List.getElem?_append_right (by rw [List.length_take, List.length_drop]; omega), List.length_take, List.length_drop, List.getElem?_drop, if_neg (by omega), show t + (i - f - min (t - f) (b.length - f)) = i by omega]
theorem over_l0 (ac : Int) (A B : List (List Cel)) (acu : Plc) (av : Bool) (ash : Int) (ati : List UInt8) (c : Nat) (hc : (c : Int) = ac) (hl : A.length = B.length)
    (hA : ∀ r, r < A.length → (A.getD r []).length = c ∧ row_Check (A.getD r []) false = 0) (hB : ∀ r, r < A.length → (B.getD r []).length = c ∧ row_Check (B.getD r []) false = 0) :
    ∀ (l : List Sp3) (t : Nat) (out : List (List Cel)), (∀ s ∈ l, SpO A B s) → out.length = A.length → (∀ r, r < A.length → (out.getD r []).length = c) →
      ∃ o', damage_Over_l0 ac A acu av ash ati B l t out = (ac, o', acu.row, acu.col, av, ash, ati, 0) ∧ o'.length = A.length ∧ (∀ r, r < A.length → (o'.getD r []).length = c) ∧
        ∀ r i : Nat, r < A.length → i < c → (Cov l r i ∨ (out.getD r []).getD i Cel.zero = (B.getD r []).getD i Cel.zero) → (o'.getD r []).getD i Cel.zero = (B.getD r []).getD i Cel.zero
  | [], t, out, _, ho, hr => ⟨out, rfl, ho, hr, fun r i _ _ h => by
      rcases h with ⟨s, hs, _⟩ | h
      · exact absurd hs List.not_mem_nil
      · exact h⟩
  | s :: l, t, out, hs, ho, hr => by
    obtain ⟨r, f, t', e1, e2, e3, e4, e5, e6, b1, b2⟩ := hs s (List.mem_cons_self ..)
    obtain ⟨a1, a2⟩ := hA r e4
    obtain ⟨c1, c2⟩ := hB r e4
    obtain ⟨w1, w2⟩ := bd_wide b1 (by omega)
    obtain ⟨w3, w4⟩ := bd_wide b2 (by omega)
    have ho' := hr r e4
    have k1 : damage_cuts (A.getD r []) s = false := cuts_no a2 e2 e3 e5 e6 (cut1 w1 (by omega)) (cut2 w3 (by omega))
    have k2 : damage_cuts (B.getD r []) s = false := cuts_no c2 e2 e3 e5 (by omega) (cut1 w2 (by omega)) (cut2 w4 (by omega))
    simp only [damage_Over_l0, bindV, slices_Concat_api_Cell_api_Cell_eq]
    rw [e1, Int.toNat_natCast, k1, k2, Bool.or_false, Bool.or_false]
    rw [show (((((decide ((r : Int) < 0)) || (decide ((A.length : Int) ≤ (r : Int)))) || (decide (s.frm < 0))) || (decide (s.to ≤ s.frm))) || (decide (ac < s.to))) = false by
      simp only [Bool.or_eq_false_iff, decide_eq_false_iff_not]; omega, cond_false, e2, e3, Int.toNat_natCast, Int.toNat_natCast]
    generalize hrow : ([(out.getD r []).take f, ((B.getD r []).drop f).take (t' - f), (out.getD r []).drop t'] : List (List Cel)).flatten = row
    have hlen : row.length = c := by rw [← hrow]; exact splice_len ho' c1 e5 (by omega)
    have hget : ∀ i, i < c → row.getD i Cel.zero = if f ≤ i ∧ i < t' then (B.getD r []).getD i Cel.zero else (out.getD r []).getD i Cel.zero := fun i hi => by rw [← hrow]; exact splice_get ho' c1 e5 (by omega) i hi
    have hset : ∀ q, q < A.length → (out.set r row).getD q [] = if q = r then row else out.getD q [] := fun q hq => by
      by_cases e : q = r
      · subst e; rw [if_pos rfl, List.getD_eq_getElem?_getD, List.getElem?_set_self (by omega)]; rfl
      · rw [if_neg e, List.getD_eq_getElem?_getD, List.getElem?_set_ne (by omega), List.getD_eq_getElem?_getD]
    obtain ⟨o', h1, h2, h3, h4⟩ := over_l0 ac A B acu av ash ati c hc hl hA hB l (t + 1) (out.set r row) (fun s' hs' => hs s' (List.mem_cons_of_mem _ hs')) (by rw [List.length_set, ho]) (fun q hq => by
      rw [hset q hq]; split
      · exact hlen
      · exact hr q hq)
    refine ⟨o', h1, h2, h3, fun q i hq hi hh => h4 q i hq hi ?_⟩
    rw [hset q hq]
    rcases hh with ⟨s', hs', g1, g2, g3⟩ | hh
    · rcases List.mem_cons.1 hs' with rfl | hs'
      · right
        rw [if_pos (by omega), hget i hi, if_pos (by omega), show q = r by omega]
      · exact Or.inl ⟨s', hs', g1, g2, g3⟩
    · right
      split
      · rename_i e
        subst e
        rw [hget i hi]
        split
        · rfl
        · exact hh
      · exact hh
/-! Join: no span more, no cell less. -/
def Sm (l : List Sp3) : Int := (l.map fun s => s.to - s.frm).foldr (· + ·) 0
theorem Sm_nil : Sm [] = 0 := rfl
theorem Sm_cons (s : Sp3) (l : List Sp3) : Sm (s :: l) = (s.to - s.frm) + Sm l := rfl
theorem Sm_append (l m : List Sp3) : Sm (l ++ m) = Sm l + Sm m := by
  induction l with
  | nil => simp [Sm_nil]
  | cons s l ih => simp only [List.cons_append, Sm_cons, ih]; omega
theorem addc_nil (e : Sp3) (k : Int) : damage_gatherer_addc [] e k = [e] := by simp [damage_gatherer_addc]
theorem addc_snoc (g : List Sp3) (x e : Sp3) (k : Int) : damage_gatherer_addc (g ++ [x]) e k = if damage_Join_1_1 x e k = true then g ++ [{ x with to := (if e.to > x.to then e.to else x.to) }] else g ++ [x] ++ [e] := by
  unfold damage_gatherer_addc
  have h1 : (g ++ [x]).getD ((g ++ [x]).length - 1) Sp3.zero = x := by simp
  rw [h1, show decide ((0 : Int) < ((g ++ [x]).length : Int)) = true from decide_eq_true (by simp only [List.length_append, List.length_singleton]; omega), Bool.true_and]
  cases damage_Join_1_1 x e k with
  | true => rw [cond_true, if_pos rfl]; simp
  | false => rw [cond_false, if_neg (by simp)]
theorem joins_of {x e : Sp3} {k : Int} (h : damage_Join_1_1 x e k = true) : x.row = e.row ∧ x.frm < x.to ∧ x.to ≤ e.frm ∧ e.frm < e.to := by
  unfold damage_Join_1_1 at h
  simp only [Bool.and_eq_true, decide_eq_true_eq] at h
  exact ⟨h.1.1.1.1, h.1.1.1.2, h.1.1.2, h.1.2⟩
theorem SpO.glue {A B : List (List Cel)} {x e : Sp3} (hx : SpO A B x) (he : SpO A B e) (hr : x.row = e.row) (ht : x.to ≤ e.frm) : SpO A B { x with to := (if e.to > x.to then e.to else x.to) } := by
  obtain ⟨r, f, t, e1, e2, e3, e4, e5, e6, b1, b2⟩ := hx
  obtain ⟨r', f', t', e1', e2', e3', e4', e5', e6', b1', b2'⟩ := he
  obtain rfl : r = r' := by omega
  exact ⟨r, f, t', e1, e2, by rw [if_pos (by omega)]; exact e3', e4, by omega, e6', b1, b2'⟩
structure Jn (A B : List (List Cel)) (l m : List Sp3) : Prop where
  all : ∀ s ∈ m, SpO A B s
  cov : ∀ q i, Cov l q i → Cov m q i
  len : m.length ≤ l.length
  sum : Sm l ≤ Sm m
theorem addc_jn {A B : List (List Cel)} {g : List Sp3} {e : Sp3} (k : Int) (h : ∀ s ∈ g, SpO A B s) (he : SpO A B e) : Jn A B (g ++ [e]) (damage_gatherer_addc g e k) := by
  have hsame : Jn A B (g ++ [e]) (g ++ [e]) := ⟨fun s hs => by
    rcases List.mem_append.1 hs with hs | hs
    · exact h s hs
    · rw [List.mem_singleton.1 hs]; exact he, fun _ _ h => h, Nat.le_refl _, Int.le_refl _⟩
  rcases nil_or_snoc g with rfl | ⟨g', x, rfl⟩
  · rw [addc_nil]; exact hsame
  · rw [addc_snoc]
    split
    · rename_i c
      obtain ⟨c1, c2, c3, c4⟩ := joins_of c
      have hx := h x (by simp)
      refine ⟨fun s hs => ?_, fun q i ⟨s, hs, hh⟩ => ?_, by simp only [List.length_append, List.length_singleton]; omega, ?_⟩
      · rcases List.mem_append.1 hs with hs | hs
        · exact h s (List.mem_append_left _ hs)
        · rw [List.mem_singleton.1 hs]; exact hx.glue he c1 c3
      · have hm : ({ x with to := (if e.to > x.to then e.to else x.to) } : Sp3) ∈ g' ++ [{ x with to := (if e.to > x.to then e.to else x.to) }] := List.mem_append_right _ (List.mem_singleton.2 rfl)
        rcases List.mem_append.1 hs with hs | hs
        · rcases List.mem_append.1 hs with hs | hs
          · exact ⟨s, List.mem_append_left _ hs, hh⟩
          · rw [List.mem_singleton.1 hs] at hh
            exact ⟨_, hm, hh.1, hh.2.1, by simp only; split <;> omega⟩
        · rw [List.mem_singleton.1 hs] at hh
          exact ⟨_, hm, by simp only; omega, by simp only; omega, by simp only; split <;> omega⟩
      · simp only [Sm_append, Sm_cons, Sm_nil]
        rw [if_pos (by omega)]; omega
    · exact hsame
theorem gath_jn {A B : List (List Cel)} (k : Int) : ∀ (xs : List Sp3) (t : Nat) (g : List Sp3), (∀ s ∈ g, SpO A B s) → (∀ s ∈ xs, SpO A B s) → Jn A B (g ++ xs) (damage_gathered_api_Span_l0 k xs t g)
  | [], t, g, h, _ => by simp only [damage_gathered_api_Span_l0, List.append_nil]; exact ⟨h, fun _ _ h => h, Nat.le_refl _, Int.le_refl _⟩
  | e :: xs, t, g, h, hx => by
    have j1 := addc_jn k h (hx e (List.mem_cons_self ..))
    have j2 := gath_jn k xs (t + 1) (damage_gatherer_addc g e k) j1.all (fun s hs => hx s (List.mem_cons_of_mem _ hs))
    simp only [damage_gathered_api_Span_l0, bindV, damage_Join_1a]
    refine ⟨j2.all, fun q i ⟨s, hs, hh⟩ => j2.cov q i ?_, ?_, ?_⟩
    · rcases List.mem_append.1 hs with hs | hs
      · obtain ⟨s', hs', hh'⟩ := j1.cov q i ⟨s, List.mem_append_left _ hs, hh⟩
        exact ⟨s', List.mem_append_left _ hs', hh'⟩
      · rcases List.mem_cons.1 hs with rfl | hs
        · obtain ⟨s', hs', hh'⟩ := j1.cov q i ⟨s, by simp, hh⟩
          exact ⟨s', List.mem_append_left _ hs', hh'⟩
        · exact ⟨s, List.mem_append_right _ hs, hh⟩
    · have a := j1.len; have b := j2.len
      simp only [List.length_append, List.length_cons, List.length_nil] at *; omega
    · have a := j1.sum; have b := j2.sum
      simp only [Sm_append, Sm_cons, Sm_nil] at *; omega
theorem join_jn {A B : List (List Cel)} (k : Int) (l : List Sp3) (h : ∀ s ∈ l, SpO A B s) : Jn A B l (damage_Join l k) := by
  unfold damage_Join
  simp only [bindV, slices_Clone_api_Span_api_Span, damage_gathered_api_Span, List.nil_append]
  cases decide (k < 0) with
  | true => rw [cond_true]; exact ⟨h, fun _ _ h => h, Nat.le_refl _, Int.le_refl _⟩
  | false => rw [cond_false]; simpa using gath_jn (A := A) (B := B) k l 0 [] (fun s hs => absurd hs List.not_mem_nil) h
theorem u64w (m : Int) : IntKind.u64.wrap m = m % 18446744073709551616 := by simp [IntKind.wrap, IntKind.signed, IntKind.bits]
theorem i64w {m : Int} (h0 : -9223372036854775808 ≤ m) (h1 : m ≤ 9223372036854775807) : IntKind.i64.wrap m = m := wrap_in (by simp [IntKind.min, IntKind.signed, IntKind.bits]; omega) (by simp [IntKind.max, IntKind.signed, IntKind.bits]; omega)
theorem Sm_nn : ∀ (l : List Sp3), (∀ s ∈ l, 0 ≤ s.frm ∧ s.frm < s.to ∧ s.to ≤ 80) → 0 ≤ Sm l
  | [], _ => Int.le_refl _
  | s :: l, h => by
    have := Sm_nn l (fun s hs => h s (List.mem_cons_of_mem _ hs))
    have := h s (List.mem_cons_self ..)
    rw [Sm_cons]; omega
theorem count_sm : ∀ (xs : List Sp3) (n : Int) (t : Nat), (∀ s ∈ xs, 0 ≤ s.frm ∧ s.frm < s.to ∧ s.to ≤ 80) → 0 ≤ n → n ≤ 3200 → damage_Count_l0 xs n t = min 3200 (n + Sm xs)
  | [], n, t, _, h0, h1 => by simp only [damage_Count_l0, Sm_nil]; omega
  | s :: xs, n, t, h, h0, h1 => by
    have h2 := h s (List.mem_cons_self ..)
    have h3 := Sm_nn xs (fun s hs => h s (List.mem_cons_of_mem _ hs))
    simp only [damage_Count_l0, Sm_cons]
    rw [decide_eq_false (by omega), cond_false, show IntKind.u64.wrap (IntKind.u64.wrap s.to - IntKind.u64.wrap s.frm) = s.to - s.frm by rw [u64w, u64w, u64w]; omega,
      i64w (m := 3200 - n) (by omega) (by omega), show IntKind.u64.wrap (3200 - n) = 3200 - n by rw [u64w]; omega, i64w (m := s.to - s.frm) (by omega) (by omega), i64w (by omega) (by omega)]
    by_cases e : 3200 - n ≤ s.to - s.frm
    · rw [decide_eq_true e, cond_true]; omega
    · rw [decide_eq_false e, cond_false, count_sm xs _ (t + 1) (fun s hs => h s (List.mem_cons_of_mem _ hs)) (by omega) (by omega)]
      congr 1; omega
theorem frame_l0_true (c : Int) : ∀ (rows : List (List Cel)) (t : Nat), (∀ r ∈ rows, (r.length : Int) = c ∧ row_Check r false = 0) → frame_Check_l0 c rows true t = 0
  | [], t, _ => rfl
  | r :: rows, t, h => by
    obtain ⟨h1, h2⟩ := h r (List.mem_cons_self ..)
    simp only [frame_Check_l0]
    rw [h1, h2]
    simp only [decide_true, Bool.and_true, Bool.not_true, cond_false]
    exact frame_l0_true c rows (t + 1) (fun r hr => h r (List.mem_cons_of_mem _ hr))
theorem rows_ok {c : Int} {rows : List (List Cel)} {cur : Plc} {v : Bool} {sh : Int} {ti : List UInt8} (h : frame_Check c rows cur v sh ti = 0) : ∀ r ∈ rows, (r.length : Int) = c ∧ row_Check r false = 0 := by
  unfold frame_Check at h
  exact (frame_Check_l0_ok _ _ _ _ h).2
theorem frame_rows {c : Int} {rows rows' : List (List Cel)} {cur : Plc} {v : Bool} {sh : Int} {ti : List UInt8} (h : frame_Check c rows cur v sh ti = 0) (hl : rows'.length = rows.length) (h' : ∀ r ∈ rows', (r.length : Int) = c ∧ row_Check r false = 0) : frame_Check c rows' cur v sh ti = 0 := by
  unfold frame_Check at *
  rw [hl, (frame_Check_l0_ok _ _ _ _ h).1]
  exact frame_l0_true c rows' 0 h'
section
variable (ac : Int) (ar : List (List Cel)) (acu : Plc) (av : Bool) (ash : Int) (ati : List UInt8) (bc : Int) (br : List (List Cel)) (bcu : Plc) (bv' : Bool) (bsh : Int) (bti : List UInt8)
theorem over_gives (h1 : damage_checked ac ar acu av ash ati bc br bcu bv' bsh bti = 0) (l : List Sp3) (hs : ∀ s ∈ l, SpO ar br s) (hc : ∀ r i : Nat, r < ar.length → i < (ar.getD r []).length → Df (ar.getD r []) (br.getD r []) i → Cov l r i) :
    damage_Over ac ar acu av ash ati bc br bcu bv' bsh bti l = (ac, br, acu.row, acu.col, av, ash, ati, 0) := by
  obtain ⟨f1, f2, f3, f4⟩ := checked_frames h1
  have o1 := damage_checked_ok h1
  obtain ⟨c, hcc⟩ : ∃ c : Nat, (c : Int) = ac := ⟨ac.toNat, by omega⟩
  have hA : ∀ r, r < ar.length → (ar.getD r []).length = c ∧ row_Check (ar.getD r []) false = 0 := fun r hr => by
    have := rows_ok f1 (ar.getD r []) (by rw [getD_eq hr]; exact List.getElem_mem hr)
    exact ⟨by omega, this.2⟩
  have hB : ∀ r, r < ar.length → (br.getD r []).length = c ∧ row_Check (br.getD r []) false = 0 := fun r hr => by
    have := rows_ok f2 (br.getD r []) (by rw [getD_eq (by omega)]; exact List.getElem_mem (by omega))
    exact ⟨by omega, this.2⟩
  obtain ⟨o', e1, e2, e3, e4⟩ := over_l0 ac ar br acu av ash ati c hcc f4 hA hB l 0 ar hs rfl (fun r hr => (hA r hr).1)
  unfold damage_Over
  rw [h1]
  simp only [decide_true, Bool.not_true, cond_false, bindV, slices_Clone_api_Cell_api_Cell_eq]
  rw [e1]
  have : o' = br := ext_getD [] (by omega) fun r hr => ext_getD Cel.zero (by rw [e3 r (by omega), (hB r (by omega)).1]) fun i hi => by
    have hi' : i < c := by rw [e3 r (by omega)] at hi; exact hi
    refine e4 r i (by omega) hi' ?_
    by_cases d : Df (ar.getD r []) (br.getD r []) i
    · exact Or.inl (hc r i (by omega) (by rw [(hA r (by omega)).1]; exact hi') d)
    · exact Or.inr (Classical.not_not.1 d)
  rw [this]
theorem damageLeads_law (gap : UInt8) : law24_DamageLeads ac ar acu av ash ati bc br bcu bv' bsh bti gap = true := by
  unfold law24_DamageLeads
  rw [wakes_true]
  simp only [Bool.not_true, cond_false, bindV, spans_snd]
  by_cases h1 : damage_checked ac ar acu av ash ati bc br bcu bv' bsh bti = 0
  · rw [h1]
    simp only [decide_true, Bool.not_true, cond_false]
    rw [spans_of _ _ _ _ _ _ _ _ _ _ _ _ h1]
    obtain ⟨f1, f2, f3, f4⟩ := checked_frames h1
    have o1 := damage_checked_ok h1
    obtain ⟨p1, p2, p3⟩ := spans_all ar br
    have hJ := join_jn (A := ar) (B := br) (IntKind.i64.wrap ((gap.toNat : Int) % 5)) (damage_Spans_l0 br ar 0 []).1 (fun s hs => (p2 s hs).o)
    rw [over_gives ac ar acu av ash ati bc br bcu bv' bsh bti h1 _ (fun s hs => (p2 s hs).o) p3, over_gives ac ar acu av ash ati bc br bcu bv' bsh bti h1 _ hJ.all (fun r i h2 h3 h4 => hJ.cov _ _ (p3 r i h2 h3 h4))]
    have hcells : ∀ c c' cu v sh ti cu' v' sh' ti', law24_cells c br cu v sh ti c' br cu' v' sh' ti' = true := fun c c' cu v sh ti cu' v' sh' ti' => (equal_rows br br).trans (decide_eq_true rfl)
    have hfr : frame_Check ac br acu av ash ati = 0 := frame_rows f1 f4.symm (by rw [f3]; exact rows_ok f2)
    simp only [hcells, hfr, decide_true, Bool.not_true, Bool.or_false, cond_false, Bool.true_and, Bool.and_true]
    have hlen := hJ.len
    have hin : ∀ m : List Sp3, (∀ s ∈ m, SpO ar br s) → ∀ s ∈ m, 0 ≤ s.frm ∧ s.frm < s.to ∧ s.to ≤ 80 := fun m hm s hs => by
      obtain ⟨r, f, t, e1, e2, e3, e4, e5, e6, _⟩ := hm s hs
      have := o1.1.2.2.2.2 r e4
      omega
    have hsum := hJ.sum
    rw [Bool.and_eq_true, decide_eq_true_eq, decide_eq_true_eq]
    refine ⟨by omega, ?_⟩
    unfold damage_Count
    rw [count_sm _ 0 0 (hin _ (fun s hs => (p2 s hs).o)) (by omega) (by omega), count_sm _ 0 0 (hin _ hJ.all) (by omega) (by omega)]
    omega
  · rw [decide_eq_false h1]
    simp only [Bool.not_false, cond_true]
    have : damage_checked ac ar acu av ash ati bc br bcu bv' bsh bti = 0 ∨ damage_checked ac ar acu av ash ati bc br bcu bv' bsh bti = 330 ∨ damage_checked ac ar acu av ash ati bc br bcu bv' bsh bti = 2 := by
      unfold damage_checked
      cases decide (frame_Check ac ar acu av ash ati = 0) <;> cases decide (frame_Check bc br bcu bv' bsh bti = 0) <;> cases ((!decide (ac = bc)) || (!decide ((ar.length : Int) = (br.length : Int)))) <;>
        rcases frame_val ac ar acu av ash ati with e | e <;> rcases frame_val bc br bcu bv' bsh bti with e' | e' <;> simp [e, e']
    rcases this with h | h | h
    · exact absurd h h1
    · rw [h]; rfl
    · rw [h]; rfl
end
end Go.Proofs.YtlcaphkcfmlljaaGreatDoor
