import Derived.Test.YtlcaphkcfmlljaaGreatDoorLX2
import Derived.Test.YtlcaphkcfmlljaaGreatDoorT11
set_option linter.unusedVariables false
set_option linter.unusedSimpArgs false
set_option linter.unnecessarySimpa false
namespace Go.Proofs.YtlcaphkcfmlljaaGreatDoor
open Go Go.Fen
section
variable (ac : Int) (ar : List (List Cel)) (acu : Plc) (av : Bool) (ash : Int) (ati : List UInt8) (bc : Int) (br : List (List Cel)) (bcu : Plc) (bv' : Bool) (bsh : Int) (bti : List UInt8)
/-- what the two frames' check comes to, by the reference -/
theorem checked_ref (ha : ∀ r ∈ ar, ∀ x ∈ r, aIn x) (hb : ∀ r ∈ br, ∀ x ∈ r, aIn x) :
    (((!(ref23_Right ac ar acu av ash ati)) || (!(ref23_Right bc br bcu bv' bsh bti))) = true ∧ damage_checked ac ar acu av ash ati bc br bcu bv' bsh bti = 330) ∨
    (((!(ref23_Right ac ar acu av ash ati)) || (!(ref23_Right bc br bcu bv' bsh bti))) = false ∧
      ((ref24_Sizes ac ar acu av ash ati bc br bcu bv' bsh bti = false ∧ damage_checked ac ar acu av ash ati bc br bcu bv' bsh bti = 2) ∨ (ref24_Sizes ac ar acu av ash ati bc br bcu bv' bsh bti = true ∧ damage_checked ac ar acu av ash ati bc br bcu bv' bsh bti = 0))) := by
  have h1 := frame_right (c := ac) (cu := acu) (v := av) (sh := ash) (ti := ati) ha
  have h2 := frame_right (c := bc) (cu := bcu) (v := bv') (sh := bsh) (ti := bti) hb
  unfold damage_checked
  cases ra : ref23_Right ac ar acu av ash ati with
  | false =>
    have : ¬ frame_Check ac ar acu av ash ati = 0 := fun h => by rw [h1.1 h] at ra; cases ra
    refine Or.inl ⟨rfl, ?_⟩
    rw [decide_eq_false this]
    exact (frame_val ac ar acu av ash ati).resolve_left this
  | true =>
    rw [decide_eq_true (h1.2 ra)]
    cases rb : ref23_Right bc br bcu bv' bsh bti with
    | false =>
      have : ¬ frame_Check bc br bcu bv' bsh bti = 0 := fun h => by rw [h2.1 h] at rb; cases rb
      refine Or.inl ⟨rfl, ?_⟩
      rw [decide_eq_false this]
      exact (frame_val bc br bcu bv' bsh bti).resolve_left this
    | true =>
      rw [decide_eq_true (h2.2 rb)]
      refine Or.inr ⟨rfl, ?_⟩
      unfold ref24_Sizes
      cases decide (ac = bc) <;> cases decide ((ar.length : Int) = (br.length : Int)) <;> simp
/-! Over -/
theorem fits_eq (hA : ∀ r, r < ar.length → ((ar.getD r []).length : Int) = ac) (hB : ∀ r, r < ar.length → ((br.getD r []).length : Int) = ac) (s : Sp3) :
    ref24_Fits ac ar acu av ash ati bc br bcu bv' bsh bti s = !(((((((decide (s.row < 0)) || (decide ((ar.length : Int) ≤ s.row))) || (decide (s.frm < 0))) || (decide (s.to ≤ s.frm))) || (decide (ac < s.to))) || (damage_cuts (ar.getD ((s.row).toNat) []) s)) || (damage_cuts (br.getD ((s.row).toNat) []) s)) := by
  unfold ref24_Fits damage_cuts
  by_cases h : 0 ≤ s.row ∧ s.row < ar.length ∧ 0 ≤ s.frm ∧ s.to ≤ ac ∧ s.frm < s.to
  · rw [show (((((decide (s.row < 0)) || (decide ((ar.length : Int) ≤ s.row))) || (decide (s.frm < 0))) || (decide (ac < s.to))) || (decide (s.to ≤ s.frm))) = false by simp only [Bool.or_eq_false_iff, decide_eq_false_iff_not]; omega]
    rw [show (((((decide (s.row < 0)) || (decide ((ar.length : Int) ≤ s.row))) || (decide (s.frm < 0))) || (decide (s.to ≤ s.frm))) || (decide (ac < s.to))) = false by simp only [Bool.or_eq_false_iff, decide_eq_false_iff_not]; omega]
    have h1 := hA s.row.toNat (by omega)
    have h2 := hB s.row.toNat (by omega)
    rw [h1, h2]
    by_cases e : s.to = ac
    · rw [decide_eq_true e, decide_eq_false (show ¬ s.to < ac by omega)]
      cases decide (((ar.getD ((s.row).toNat) []).getD ((s.frm).toNat) Cel.zero).wide = 2) <;> cases decide (((br.getD ((s.row).toNat) []).getD ((s.frm).toNat) Cel.zero).wide = 2) <;> simp
    · rw [decide_eq_false e, decide_eq_true (show s.to < ac by omega)]
      cases decide (((ar.getD ((s.row).toNat) []).getD ((s.frm).toNat) Cel.zero).wide = 2) <;> cases decide (((br.getD ((s.row).toNat) []).getD ((s.frm).toNat) Cel.zero).wide = 2) <;>
        cases decide (((ar.getD ((s.row).toNat) []).getD ((s.to).toNat) Cel.zero).wide = 2) <;> cases decide (((br.getD ((s.row).toNat) []).getD ((s.to).toNat) Cel.zero).wide = 2) <;> simp
  · rw [show (((((decide (s.row < 0)) || (decide ((ar.length : Int) ≤ s.row))) || (decide (s.frm < 0))) || (decide (ac < s.to))) || (decide (s.to ≤ s.frm))) = true by simp only [Bool.or_eq_true, decide_eq_true_eq]; omega]
    rw [show (((((decide (s.row < 0)) || (decide ((ar.length : Int) ≤ s.row))) || (decide (s.frm < 0))) || (decide (s.to ≤ s.frm))) || (decide (ac < s.to))) = true by simp only [Bool.or_eq_true, decide_eq_true_eq]; omega]
    rfl
theorem fit_in {s : Sp3} (h : ref24_Fits ac ar acu av ash ati bc br bcu bv' bsh bti s = true) : ∃ r f t : Nat, s.row = r ∧ s.frm = f ∧ s.to = t ∧ r < ar.length ∧ f < t ∧ (t : Int) ≤ ac := by
  unfold ref24_Fits at h
  cases hb : (((((decide (s.row < 0)) || (decide ((ar.length : Int) ≤ s.row))) || (decide (s.frm < 0))) || (decide (ac < s.to))) || (decide (s.to ≤ s.frm))) with
  | true => rw [hb] at h; cases h
  | false =>
    simp only [Bool.or_eq_false_iff, decide_eq_false_iff_not] at hb
    exact ⟨s.row.toNat, s.frm.toNat, s.to.toNat, by omega, by omega, by omega, by omega, by omega, by omega⟩
theorem splice_len' {o b : List Cel} {c f t : Nat} (ho : o.length = c) (hb : b.length = c) (hft : f < t) (ht : t ≤ c) : ([o.take f, (b.drop f).take (t - f), o.drop t] : List (List Cel)).flatten.length = c := by
  simp only [List.flatten_cons, List.flatten_nil, List.length_append, List.length_take, List.length_drop, List.length_nil]; omega
theorem splice_get' {o b : List Cel} {c f t : Nat} (ho : o.length = c) (hb : b.length = c) (hft : f < t) (ht : t ≤ c) (i : Nat) (hi : i < c) :
    (([o.take f, (b.drop f).take (t - f), o.drop t] : List (List Cel)).flatten).getD i Cel.zero = if f ≤ i ∧ i < t then b.getD i Cel.zero else o.getD i Cel.zero := by
  simp only [List.flatten_cons, List.flatten_nil, List.append_nil, List.getD_eq_getElem?_getD]
  by_cases h1 : i < f
  · rw [if_neg (by omega), List.getElem?_append_left (by simp; omega), List.getElem?_take_of_lt h1]
  · rw [List.getElem?_append_right (by simp; omega), List.length_take]
    by_cases h2 : i < t
    · rw [if_pos (by omega), List.getElem?_append_left (by simp; omega), List.getElem?_take_of_lt (by omega), List.getElem?_drop]; congr 2; omega
    · rw [if_neg (by omega), List.getElem?_append_right (by simp; omega), List.length_take, List.length_drop, List.getElem?_drop]; congr 2; omega
theorem over_fit (c : Nat) (hc : (c : Int) = ac) (hl : ar.length = br.length) (hA : ∀ r, r < ar.length → (ar.getD r []).length = c) (hB : ∀ r, r < ar.length → (br.getD r []).length = c) :
    ∀ (l : List Sp3) (t : Nat) (out : List (List Cel)), (∀ s ∈ l, ref24_Fits ac ar acu av ash ati bc br bcu bv' bsh bti s = true) → out.length = ar.length → (∀ r, r < ar.length → (out.getD r []).length = c) →
      ∃ o', damage_Over_l0 ac ar acu av ash ati br l t out = (ac, o', acu.row, acu.col, av, ash, ati, 0) ∧ o'.length = ar.length ∧ (∀ r, r < ar.length → (o'.getD r []).length = c) ∧
        ∀ r i : Nat, r < ar.length → i < c → (Cv l r i → (o'.getD r []).getD i Cel.zero = (br.getD r []).getD i Cel.zero) ∧ (¬ Cv l r i → (o'.getD r []).getD i Cel.zero = (out.getD r []).getD i Cel.zero)
  | [], t, out, _, ho, hr => ⟨out, rfl, ho, hr, fun r i _ _ => ⟨fun h => absurd h Cv.nil, fun _ => rfl⟩⟩
  | s :: l, t, out, hs, ho, hr => by
    have hf := hs s (List.mem_cons_self ..)
    obtain ⟨r, f, t', e1, e2, e3, e4, e5, e6⟩ := fit_in ac ar acu av ash ati bc br bcu bv' bsh bti hf
    rw [fits_eq ac ar acu av ash ati bc br bcu bv' bsh bti (fun r hr => by rw [hA r hr]; exact hc) (fun r hr => by rw [hB r hr]; exact hc)] at hf
    have hf' := Bool.not_eq_true' _ ▸ hf
    simp only [damage_Over_l0, bindV, slices_Concat_api_Cell_api_Cell_eq]
    rw [hf', cond_false, e1, e2, e3, Int.toNat_natCast, Int.toNat_natCast, Int.toNat_natCast]
    have ho' := hr r e4
    have c1 := hB r e4
    generalize hrow : ([(out.getD r []).take f, ((br.getD r []).drop f).take (t' - f), (out.getD r []).drop t'] : List (List Cel)).flatten = row
    have hlen : row.length = c := by rw [← hrow]; exact splice_len' ho' c1 e5 (by omega)
    have hget : ∀ i, i < c → row.getD i Cel.zero = if f ≤ i ∧ i < t' then (br.getD r []).getD i Cel.zero else (out.getD r []).getD i Cel.zero := fun i hi => by rw [← hrow]; exact splice_get' ho' c1 e5 (by omega) i hi
    have hset : ∀ q, q < ar.length → (out.set r row).getD q [] = if q = r then row else out.getD q [] := fun q hq => getD_set (by omega)
    obtain ⟨o', h1, h2, h3, h4⟩ := over_fit c hc hl hA hB l (t + 1) (out.set r row) (fun s' hs' => hs s' (List.mem_cons_of_mem _ hs')) (by rw [List.length_set, ho]) (fun q hq => by
      rw [hset q hq]; split
      · exact hlen
      · exact hr q hq)
    refine ⟨o', h1, h2, h3, fun q i hq hi => ⟨fun hh => ?_, fun hh => ?_⟩⟩
    · by_cases hcl : Cv l q i
      · exact (h4 q i hq hi).1 hcl
      · rw [(h4 q i hq hi).2 hcl, hset q hq]
        rcases Cv.cons.1 hh with ⟨g1, g2, g3⟩ | hh
        · rw [if_pos (by omega), hget i hi, if_pos (by omega), show q = r by omega]
        · exact absurd hh hcl
    · have hcl : ¬ Cv l q i := fun h => hh (Cv.cons.2 (Or.inr h))
      rw [(h4 q i hq hi).2 hcl, hset q hq]
      by_cases e : q = r
      · rw [if_pos e, hget i hi, if_neg (fun hg => hh (Cv.cons.2 (Or.inl ⟨by omega, by omega, by omega⟩))), e]
      · rw [if_neg e]
theorem over_no (hA : ∀ r, r < ar.length → ((ar.getD r []).length : Int) = ac) (hB : ∀ r, r < ar.length → ((br.getD r []).length : Int) = ac) :
    ∀ (l : List Sp3) (t : Nat) (out : List (List Cel)), (∃ s ∈ l, ref24_Fits ac ar acu av ash ati bc br bcu bv' bsh bti s = false) → damage_Over_l0 ac ar acu av ash ati br l t out = (0, [], 0, 0, false, 0, [], 2)
  | [], t, out, ⟨s, hs, _⟩ => absurd hs List.not_mem_nil
  | s :: l, t, out, h => by
    simp only [damage_Over_l0, bindV]
    have hf := fits_eq ac ar acu av ash ati bc br bcu bv' bsh bti hA hB s
    cases hc : (((((((decide (s.row < 0)) || (decide ((ar.length : Int) ≤ s.row))) || (decide (s.frm < 0))) || (decide (s.to ≤ s.frm))) || (decide (ac < s.to))) || (damage_cuts (ar.getD ((s.row).toNat) []) s)) || (damage_cuts (br.getD ((s.row).toNat) []) s)) with
    | true => rfl
    | false =>
      rw [cond_false]
      rw [hc] at hf
      refine over_no hA hB l _ _ ?_
      obtain ⟨s', hs', h'⟩ := h
      rcases List.mem_cons.1 hs' with rfl | hs'
      · rw [hf] at h'; cases h'
      · exact ⟨s', hs', h'⟩
open Classical in
theorem rover_l20 (r : Nat) (row : List Cel) (i : Nat) (ag : List Cel → Nat → (Int × List (List Cel) × Int × Int × Bool × Int × List UInt8)) : ∀ (l : List Sp3) (k : Nat) (x : Cel),
    ref24_Over_l20 br r row i ag l k x = ag (row ++ [if Cv l r i then (br.getD r []).getD i Cel.zero else x]) (i + 1)
  | [], k, x => by simp only [ref24_Over_l20]; rw [if_neg Cv.nil]
  | s :: l, k, x => by
    simp only [ref24_Over_l20]
    by_cases h : s.row = r ∧ s.frm ≤ i ∧ (i : Int) < s.to
    · rw [show (((decide (s.row = (r : Int))) && (decide (s.frm ≤ (i : Int)))) && (decide ((i : Int) < s.to))) = true by simp only [Bool.and_eq_true, decide_eq_true_eq]; exact ⟨⟨h.1, h.2.1⟩, h.2.2⟩, cond_true, rover_l20 r row i ag l]
      rw [if_pos (Cv.cons.2 (Or.inl h)), ite_self]
    · rw [show (((decide (s.row = (r : Int))) && (decide (s.frm ≤ (i : Int)))) && (decide ((i : Int) < s.to))) = false by rw [← Bool.not_eq_true]; simp only [Bool.and_eq_true, decide_eq_true_eq]; exact fun h' => h ⟨h'.1.1, h'.1.2, h'.2⟩, cond_false, rover_l20 r row i ag l]
      by_cases hc : Cv l r i
      · rw [if_pos hc, if_pos (Cv.cons.2 (Or.inr hc))]
      · rw [if_neg hc, if_neg (fun hh => (Cv.cons.1 hh).elim h hc)]
open Classical in
theorem rover_l19 (l : List Sp3) (c : Nat) (hc : (c : Int) = ac) (r : Nat) (outRows : List (List Cel)) (ag : Nat → List (List Cel) → (Int × List (List Cel) × Int × Int × Bool × Int × List UInt8)) : ∀ (fu : Nat) (row : List Cel) (i : Nat), c - i < fu → i ≤ c → row.length = i →
    (∀ k, k < i → row.getD k Cel.zero = if Cv l r k then (br.getD r []).getD k Cel.zero else (ar.getD r []).getD k Cel.zero) →
    ∃ row', ref24_Over_l19 ac ar br l r outRows ag fu row i = ag (r + 1) (outRows ++ [row']) ∧ row'.length = c ∧ ∀ k, k < c → row'.getD k Cel.zero = if Cv l r k then (br.getD r []).getD k Cel.zero else (ar.getD r []).getD k Cel.zero
  | 0, row, i, h, _, _, _ => by omega
  | fu + 1, row, i, h, hi, hl, hk => by
    simp only [ref24_Over_l19]
    by_cases h2 : (i : Int) < ac
    · rw [decide_eq_true h2, cond_true, rover_l20]
      refine rover_l19 l c hc r outRows ag fu _ (i + 1) (by omega) (by omega) (by simp [hl]) (fun k hk2 => ?_)
      by_cases e : k = i
      · subst e
        rw [List.getD_eq_getElem?_getD, List.getElem?_append_right (by omega), hl, Nat.sub_self]; rfl
      · rw [List.getD_eq_getElem?_getD, List.getElem?_append_left (by omega), ← List.getD_eq_getElem?_getD]
        exact hk k (by omega)
    · rw [decide_eq_false h2, cond_false]
      obtain rfl : i = c := by omega
      exact ⟨row, rfl, hl, hk⟩
open Classical in
theorem rover_l15 (l : List Sp3) (c : Nat) (hc : (c : Int) = ac) : ∀ (rows : List (List Cel)) (r : Nat) (outRows : List (List Cel)), rows.length + r = ar.length → outRows.length = r → (∀ q, q < r → (outRows.getD q []).length = c ∧ ∀ k, k < c → (outRows.getD q []).getD k Cel.zero = if Cv l q k then (br.getD q []).getD k Cel.zero else (ar.getD q []).getD k Cel.zero) →
    ∃ o', ref24_Over_l15 ac ar acu av ash ati br l rows r outRows = (ac, o', acu.row, acu.col, av, ash, ati) ∧ o'.length = ar.length ∧ ∀ q, q < ar.length → (o'.getD q []).length = c ∧ ∀ k, k < c → (o'.getD q []).getD k Cel.zero = if Cv l q k then (br.getD q []).getD k Cel.zero else (ar.getD q []).getD k Cel.zero
  | [], r, outRows, h, h2, h3 => ⟨outRows, by simp only [ref24_Over_l15], by simp at h; omega, fun q hq => h3 q (by simp at h; omega)⟩
  | x :: rows, r, outRows, h, h2, h3 => by
    simp only [List.length_cons] at h
    simp only [ref24_Over_l15]
    obtain ⟨row', e1, e2, e3⟩ := rover_l19 ac ar br l c hc r outRows (ref24_Over_l15 ac ar acu av ash ati br l rows) ((ac - 0).toNat + 1) [] 0 (by omega) (Nat.zero_le _) rfl (fun k hk => absurd hk (by omega))
    rw [e1]
    refine rover_l15 l c hc rows (r + 1) _ (by omega) (by simp [h2]) (fun q hq => ?_)
    by_cases e : q = r
    · subst e
      rw [show (outRows ++ [row']).getD q [] = row' by rw [List.getD_eq_getElem?_getD, List.getElem?_append_right (by omega), h2, Nat.sub_self]; rfl]
      exact ⟨e2, e3⟩
    · rw [show (outRows ++ [row']).getD q [] = outRows.getD q [] by rw [List.getD_eq_getElem?_getD, List.getElem?_append_left (by omega), ← List.getD_eq_getElem?_getD]]
      exact h3 q (by omega)
theorem cells_l0 (b : List Cel) : ∀ (xs : List Cel) (i : Nat), xs = b.drop i → ref23_SameCells_l0 b xs i = true
  | [], i, _ => rfl
  | x :: xs, i, h => by
    have hlt : i < b.length := by
      by_cases hh : i < b.length
      · exact hh
      · rw [List.drop_eq_nil_of_le (by omega)] at h; cases h
    have hd := List.drop_eq_getElem_cons hlt
    have hx : x = b.getD i Cel.zero := by rw [hd] at h; rw [getD_eq hlt]; exact (List.cons.inj h).1
    have hxs : xs = b.drop (i + 1) := by rw [hd] at h; exact (List.cons.inj h).2
    simp only [ref23_SameCells_l0]
    rw [decide_eq_true hx]; exact cells_l0 b xs (i + 1) hxs
theorem cells_self (b : List Cel) : ref23_SameCells b b = true := by
  unfold ref23_SameCells; rw [decide_eq_true rfl]; exact cells_l0 b b 0 (by simp)
theorem rsame_l0 (B : List (List Cel)) : ∀ (rows : List (List Cel)) (i : Nat), rows = B.drop i → ref23_Same_l0 B rows i = true
  | [], i, _ => rfl
  | x :: xs, i, h => by
    have hlt : i < B.length := by
      by_cases hh : i < B.length
      · exact hh
      · rw [List.drop_eq_nil_of_le (by omega)] at h; cases h
    have hd := List.drop_eq_getElem_cons hlt
    have hx : x = B.getD i [] := by rw [hd] at h; rw [getD_eq hlt]; exact (List.cons.inj h).1
    have hxs : xs = B.drop (i + 1) := by rw [hd] at h; exact (List.cons.inj h).2
    simp only [ref23_Same_l0]
    rw [← hx, cells_self]; exact rsame_l0 B xs (i + 1) hxs
theorem same_self (c : Int) (rows : List (List Cel)) (cu : Plc) (v : Bool) (sh : Int) (ti : List UInt8) : ref23_Same c rows cu v sh ti c rows cu v sh ti = true := by
  unfold ref23_Same
  rw [decide_eq_true rfl, decide_eq_true rfl, decide_eq_true rfl, decide_eq_true rfl, decide_eq_true rfl, beq_self_eq_true]
  exact rsame_l0 rows rows 0 (by simp)
theorem lover_fit (x : List Sp3) (R : Int × List (List Cel) × Int × Int × Bool × Int × List UInt8 × Int) (h : law24_DamageOver_l0 ac ar acu av ash ati bc br bcu bv' bsh bti x R [] 0 = true) :
    ∀ (l : List Sp3) (t : Nat), (∀ s ∈ l, ref24_Fits ac ar acu av ash ati bc br bcu bv' bsh bti s = true) → law24_DamageOver_l0 ac ar acu av ash ati bc br bcu bv' bsh bti x R l t = true
  | [], t, _ => by simpa only [law24_DamageOver_l0] using h
  | s :: l, t, hs => by
    simp only [law24_DamageOver_l0]
    rw [hs s (List.mem_cons_self ..)]
    exact lover_fit x R h l (t + 1) (fun s' hs' => hs s' (List.mem_cons_of_mem _ hs'))
theorem lover_no (x : List Sp3) (R : Int × List (List Cel) × Int × Int × Bool × Int × List UInt8 × Int) (h : ((decide (R.2.2.2.2.2.2.2 = 2)) && (decide ((R.2.1.length : Int) = 0))) = true) :
    ∀ (l : List Sp3) (t : Nat), (∃ s ∈ l, ref24_Fits ac ar acu av ash ati bc br bcu bv' bsh bti s = false) → law24_DamageOver_l0 ac ar acu av ash ati bc br bcu bv' bsh bti x R l t = true
  | [], t, ⟨s, hs, _⟩ => absurd hs List.not_mem_nil
  | s :: l, t, h' => by
    simp only [law24_DamageOver_l0]
    cases hf : ref24_Fits ac ar acu av ash ati bc br bcu bv' bsh bti s with
    | false => exact h
    | true =>
      refine lover_no x R h l (t + 1) ?_
      obtain ⟨s', hs', h''⟩ := h'
      rcases List.mem_cons.1 hs' with rfl | hs'
      · rw [hf] at h''; cases h''
      · exact ⟨s', hs', h''⟩
theorem damageOver_law (ha : ∀ r ∈ ar, ∀ x ∈ r, aIn x) (hb : ∀ r ∈ br, ∀ x ∈ r, aIn x) (x : List Sp3) : law24_DamageOver ac ar acu av ash ati bc br bcu bv' bsh bti x = true := by
  unfold law24_DamageOver
  rw [wakes_true]
  simp only [Bool.not_true, cond_false, bindV]
  generalize hl : (x.take ((if (100 : Int) < (x.length : Int) then (100 : Int) else (x.length : Int)).toNat)) = l
  rcases checked_ref ac ar acu av ash ati bc br bcu bv' bsh bti ha hb with ⟨h, hc⟩ | ⟨h, ⟨h', hc⟩ | ⟨h', hc⟩⟩
  · rw [h, cond_true]; unfold damage_Over; rw [hc]; rfl
  · rw [h, h']; unfold damage_Over; rw [hc]; rfl
  · rw [h, h']
    simp only [cond_false, Bool.not_true]
    have o1 := damage_checked_ok hc
    obtain ⟨c, hcc⟩ : ∃ c : Nat, (c : Int) = ac := ⟨ac.toNat, by omega⟩
    have hA : ∀ r, r < ar.length → ((ar.getD r []).length : Int) = ac := o1.1.2.2.2.2
    have hB : ∀ r, r < ar.length → ((br.getD r []).length : Int) = ac := fun r hr => by have := o1.2.1.2.2.2.2 r (by omega); omega
    have hO : damage_Over ac ar acu av ash ati bc br bcu bv' bsh bti l = damage_Over_l0 ac ar acu av ash ati br l 0 ar := by
      unfold damage_Over; rw [hc]; rfl
    by_cases hfit : ∀ s ∈ l, ref24_Fits ac ar acu av ash ati bc br bcu bv' bsh bti s = true
    · refine lover_fit _ _ _ _ _ _ _ _ _ _ _ _ _ _ ?_ l 0 hfit
      obtain ⟨o', e1, e2, e3, e4⟩ := over_fit ac ar acu av ash ati bc br bcu bv' bsh bti c hcc o1.2.2.2 (fun r hr => by have := hA r hr; omega) (fun r hr => by have := hB r hr; omega) l 0 ar hfit rfl (fun r hr => by have := hA r hr; omega)
      obtain ⟨o2, g1, g2, g3⟩ := rover_l15 ac ar acu av ash ati br l c hcc ar 0 [] rfl rfl (fun q hq => absurd hq (by omega))
      rw [hO, e1]
      simp only [law24_DamageOver_l0, bindV, decide_true, cond_true]
      rw [hl]
      unfold ref24_Over
      rw [g1]
      have : o' = o2 := ext_getD [] (by omega) fun r hr => ext_getD Cel.zero (by rw [e3 r (by omega), (g3 r (by omega)).1]) fun i hi => by
        have hi' : i < c := by rw [e3 r (by omega)] at hi; exact hi
        rw [(g3 r (by omega)).2 i hi']
        by_cases hcv : Cv l r i
        · rw [if_pos hcv]; exact (e4 r i (by omega) hi').1 hcv
        · rw [if_neg hcv]; exact (e4 r i (by omega) hi').2 hcv
      rw [this]
      exact same_self ..
    · have hno : ∃ s ∈ l, ref24_Fits ac ar acu av ash ati bc br bcu bv' bsh bti s = false := by
        refine Classical.byContradiction fun hh => hfit fun s hs => ?_
        cases hf : ref24_Fits ac ar acu av ash ati bc br bcu bv' bsh bti s with
        | true => rfl
        | false => exact absurd ⟨s, hs, hf⟩ hh
      refine lover_no _ _ _ _ _ _ _ _ _ _ _ _ _ _ ?_ l 0 hno
      rw [hO, over_no ac ar acu av ash ati bc br bcu bv' bsh bti hA hB l 0 ar hno]; rfl
end
end Go.Proofs.YtlcaphkcfmlljaaGreatDoor

