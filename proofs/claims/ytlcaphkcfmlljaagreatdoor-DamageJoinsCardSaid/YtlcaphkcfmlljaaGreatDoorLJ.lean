import Derived.Test.YtlcaphkcfmlljaaGreatDoorLS
import Derived.Test.YtlcaphkcfmlljaaGreatDoorT6
set_option linter.unusedVariables false
set_option linter.unusedSimpArgs false
namespace Go.Proofs.YtlcaphkcfmlljaaGreatDoor
open Go Go.Fen
theorem u64_wrap (m : Int) : IntKind.u64.wrap m = m % 18446744073709551616 := by simp [IntKind.wrap, IntKind.signed, IntKind.bits]
theorem i64_same {m : Int} (h0 : -9223372036854775808 ≤ m) (h1 : m ≤ 9223372036854775807) : IntKind.i64.wrap m = m := wrap_in (by simp [IntKind.min, IntKind.signed, IntKind.bits]; omega) (by simp [IntKind.max, IntKind.signed, IntKind.bits]; omega)
theorem u64_diff {a b : Int} (ha : -9223372036854775808 ≤ a) (hb : b ≤ 9223372036854775807) (h : a ≤ b) : IntKind.u64.wrap (IntKind.u64.wrap b - IntKind.u64.wrap a) = b - a := by
  rw [u64_wrap, u64_wrap, u64_wrap]; omega
abbrev spIn (x : Sp3) : Prop := (-9223372036854775808 ≤ x.frm ∧ x.frm ≤ 9223372036854775807) ∧ -9223372036854775808 ≤ x.to ∧ x.to ≤ 9223372036854775807
theorem near_eq {a b gap : Int} (h : a ≤ b) : ref24_near a b gap = decide (b - a ≤ gap) := by
  unfold ref24_near
  by_cases h1 : a < 0 ∧ 0 ≤ b
  · rw [show (decide (a < 0) && decide ((0 : Int) ≤ b)) = true by simp [h1.1, h1.2], cond_true, Bool.eq_iff_iff]
    simp only [Bool.and_eq_true, decide_eq_true_eq]; omega
  · rw [show (decide (a < 0) && decide ((0 : Int) ≤ b)) = false by simp; omega, cond_false]
theorem touch_eq {a b : Sp3} {gap : Int} (ha : spIn a) (hb : spIn b) (hg : 0 ≤ gap) (hg' : gap ≤ 9223372036854775807) :
    damage_Join_1_1 a b gap = (((((decide (a.row = b.row)) && (decide (a.frm < a.to))) && (decide (b.frm < b.to))) && (decide (a.to ≤ b.frm))) && (ref24_near a.to b.frm gap)) := by
  unfold damage_Join_1_1
  by_cases h : a.to ≤ b.frm
  · rw [near_eq h, u64_diff ha.2.1 hb.1.2 h, show IntKind.u64.wrap gap = gap by rw [u64_wrap]; omega, Bool.eq_iff_iff]
    simp only [Bool.and_eq_true, decide_eq_true_eq]
    constructor
    · rintro ⟨⟨⟨⟨h1, h2⟩, h3⟩, h4⟩, h5⟩; exact ⟨⟨⟨⟨h1, h2⟩, h4⟩, h3⟩, h5⟩
    · rintro ⟨⟨⟨⟨h1, h2⟩, h4⟩, h3⟩, h5⟩; exact ⟨⟨⟨⟨h1, h2⟩, h3⟩, h4⟩, h5⟩
  · rw [decide_eq_false h]; simp
theorem join_l0 {gap : Int} (hg : 0 ≤ gap) (hg' : gap ≤ 9223372036854775807) : ∀ (xs out : List Sp3) (t i : Nat), spOk xs → spOk out → damage_gathered_api_Span_l0 gap xs t out = ref24_Join_l0 gap xs out i
  | [], out, t, i, _, _ => rfl
  | x :: xs, out, t, i, hx, ho => by
    have hx0 : spIn x := hx x (List.mem_cons_self ..)
    have hxs : spOk xs := fun y hy => hx y (List.mem_cons_of_mem _ hy)
    simp only [damage_gathered_api_Span_l0, ref24_Join_l0, bindV, damage_Join_1a, damage_gatherer_addc]
    have hl := ho.getD (out.length - 1)
    rw [touch_eq hl hx0 hg hg', decide_eq_true hg, Bool.and_true]
    cases h0 : decide ((0 : Int) < (out.length : Int)) with
    | false =>
      simp only [Bool.false_and, cond_false]
      exact join_l0 hg hg' xs _ _ _ hxs (ho.append hx0)
    | true =>
      simp only [Bool.true_and, cond_true]
      generalize hc : (((((decide ((out.getD (out.length - 1) Sp3.zero).row = x.row)) && (decide ((out.getD (out.length - 1) Sp3.zero).frm < (out.getD (out.length - 1) Sp3.zero).to))) && (decide (x.frm < x.to))) && (decide ((out.getD (out.length - 1) Sp3.zero).to ≤ x.frm))) && (ref24_near ((out.getD (out.length - 1) Sp3.zero).to) x.frm gap)) = c
      cases c with
      | false => exact join_l0 hg hg' xs _ _ _ hxs (ho.append hx0)
      | true =>
        simp only [Bool.and_eq_true, decide_eq_true_eq] at hc
        rw [if_pos (by omega)]
        exact join_l0 hg hg' xs _ _ _ hxs (ho.set _ ⟨hl.1, hx0.2⟩)
theorem ref_neg {gap : Int} (hg : gap < 0) : ∀ (xs out : List Sp3) (i : Nat), ref24_Join_l0 gap xs out i = out ++ xs
  | [], out, i => by simp [ref24_Join_l0]
  | x :: xs, out, i => by
    simp only [ref24_Join_l0, decide_eq_false (show ¬ (0 ≤ gap) by omega), Bool.and_false, cond_false, ref_neg hg xs]; simp
theorem join_eq (l : List Sp3) (gap : Int) (hl : spOk l) (hg : gap ≤ 9223372036854775807) : damage_Join l gap = ref24_Join l gap := by
  unfold damage_Join ref24_Join
  by_cases h : gap < 0
  · rw [decide_eq_true h, cond_true, ref_neg h]; simp [bindV, slices_Clone_api_Span_api_Span]
  · rw [decide_eq_false h, cond_false]
    exact join_l0 (by omega) hg l [] 0 0 hl spOk.nil
theorem count_l3 (l : List Sp3) (i : Nat) (ag : Nat → Nat → Int) : ∀ (fu n : Nat) (at_ : Int), n ≤ 3200 → 3200 - n < fu → ref24_Count_l3 l i ag fu n at_ = ag (min 3200 (n + ((l.getD i Sp3.zero).to - at_).toNat)) (i + 1)
  | 0, n, a, _, h => by omega
  | fu + 1, n, a, hn, hf => by
    simp only [ref24_Count_l3]
    by_cases h : a < (l.getD i Sp3.zero).to ∧ n < 3200
    · rw [show (decide (a < (l.getD i Sp3.zero).to) && decide ((n : Int) < 3200)) = true by rw [Bool.and_eq_true, decide_eq_true_eq, decide_eq_true_eq]; omega, cond_true, count_l3 l i ag fu (n + 1) (a + 1) (by omega) (by omega)]
      congr 1; omega
    · rw [show (decide (a < (l.getD i Sp3.zero).to) && decide ((n : Int) < 3200)) = false by rw [Bool.and_eq_false_iff, decide_eq_false_iff_not, decide_eq_false_iff_not]; omega, cond_false]
      congr 1; omega
theorem count_full (l : List Sp3) : ∀ (xs : List Sp3) (i : Nat), ref24_Count_l2 l xs 3200 i = 3200
  | [], i => rfl
  | x :: xs, i => by
    simp only [ref24_Count_l2]
    rw [count_l3 l i _ _ _ _ (by omega) (by omega), show min 3200 (3200 + ((l.getD i Sp3.zero).to - x.frm).toNat) = 3200 by omega]
    exact count_full l xs (i + 1)
theorem count_l2 (l : List Sp3) (hl : spOk l) : ∀ (xs : List Sp3) (i n t : Nat), xs = l.drop i → n ≤ 3200 → damage_Count_l0 xs (n : Int) t = ref24_Count_l2 l xs n i
  | [], i, n, t, _, _ => rfl
  | x :: xs, i, n, t, hx, hn => by
    have hi : i < l.length := by
      rcases Nat.lt_or_ge i l.length with h | h
      · exact h
      · rw [List.drop_eq_nil_of_le h] at hx; cases hx
    rw [List.drop_eq_getElem_cons hi] at hx
    obtain ⟨h1, h2⟩ := List.cons.inj hx
    have hd : l.getD i Sp3.zero = x := by rw [getD_eq hi, h1]
    have hr := hl.getD i
    rw [hd] at hr
    simp only [ref24_Count_l2, damage_Count_l0]
    rw [count_l3 l i _ _ _ _ hn (by omega), hd]
    by_cases h : x.to ≤ x.frm
    · rw [decide_eq_true h, cond_true, count_l2 l hl xs (i + 1) n (t + 1) h2 hn, show min 3200 (n + (x.to - x.frm).toNat) = n by omega]
    · rw [decide_eq_false h, cond_false, u64_diff hr.1.1 hr.2.2 (by omega), i64_same (by omega) (by omega), show IntKind.u64.wrap ((3200 : Int) - n) = 3200 - n by rw [u64_wrap]; omega]
      by_cases h3 : (3200 : Int) - n ≤ x.to - x.frm
      · rw [decide_eq_true h3, cond_true, show min 3200 (n + (x.to - x.frm).toNat) = 3200 by omega, count_full]
      · rw [decide_eq_false h3, cond_false, i64_same (m := x.to - x.frm) (by omega) (by omega), i64_same (by omega) (by omega)]
        have := count_l2 l hl xs (i + 1) (n + (x.to - x.frm).toNat) (t + 1) h2 (by omega)
        rw [show min 3200 (n + (x.to - x.frm).toNat) = n + (x.to - x.frm).toNat by omega, ← this]
        congr 1; omega
theorem count_eq (l : List Sp3) (hl : spOk l) : damage_Count l = ref24_Count l := count_l2 l hl l 0 0 0 (by simp) (by omega)
theorem damageJoins_law (x : List Sp3) (gap : Int) (hx : spOk x) (hg : gap ≤ 9223372036854775807) : law24_DamageJoins x gap = true := by
  unfold law24_DamageJoins
  rw [wakes_true]
  have hcl : ∀ y, slices_Clone_api_Span_api_Span y = y := fun y => by simp [slices_Clone_api_Span_api_Span]
  simp only [Bool.not_true, cond_false, bindV, hcl, equal_spans]
  have h1 := join_eq _ _ (hx.take ((if (100 : Int) < (x.length : Int) then (100 : Int) else (x.length : Int)).toNat)) hg
  have h2 := count_eq _ (hx.take ((if (100 : Int) < (x.length : Int) then (100 : Int) else (x.length : Int)).toNat))
  simp only [h1, h2, decide_true, Bool.true_and]
  rw [decide_eq_true_eq, List.length_take, ← List.take_eq_take_min]
end Go.Proofs.YtlcaphkcfmlljaaGreatDoor
