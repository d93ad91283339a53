import Derived.Test.YtinkdfnpmoljfaaGreatDoorT8
import Derived.Test.YtinkdfnpmoljfaaGreatDoorMS
set_option linter.unusedVariables false
set_option linter.unusedSimpArgs false
namespace Go.Proofs.YtinkdfnpmoljfaaGreatDoor
open Go Go.Fen
/-! ShiftBest in plain Lean: the shifts drawn, the marks of like rows, the greatest gain. -/
def shOk (n : Int) (s : Shf) : Prop := 0 ≤ s.top ∧ s.top ≤ s.bottom ∧ s.bottom < n ∧ s.amt ≠ 0 ∧ s.top - s.bottom ≤ s.amt ∧ s.amt ≤ s.bottom - s.top
theorem check_of_ok {n : Int} {s : Shf} (h1 : 1 ≤ n) (h2 : n ≤ 40) (h : shOk n s) : shift_Check s n = 0 := by
  unfold shOk at h
  unfold shift_Check
  rw [decide_eq_false (by omega : ¬ n < 1), decide_eq_false (by omega : ¬ (40 : Int) < n), decide_eq_false (by omega : ¬ s.top < 0), decide_eq_false (by omega : ¬ s.bottom < s.top), decide_eq_false (by omega : ¬ n ≤ s.bottom), decide_eq_false (by omega : ¬ s.amt = 0), decide_eq_false (by omega : ¬ s.amt < s.top - s.bottom), decide_eq_false (by omega : ¬ s.bottom - s.top < s.amt)]
  rfl
theorem ok_of_check {n : Int} {s : Shf} (h : shift_Check s n = 0) : shOk n s := by
  have := shift_Check_ok h; unfold shOk; omega
theorem best_l12_in (c0 : Int) (t b : Nat) (hb : (b : Int) < c0) (htb : t ≤ b) (ag : Nat → List Shf) (hag : ∀ x ∈ ag (b + 1), shOk c0 x) : ∀ (fu k : Nat), 1 ≤ k → ∀ x ∈ shift_shifts_1_l12 t b ag fu k, shOk c0 x
  | 0, k, _, x, hx => by simp [shift_shifts_1_l12] at hx
  | fu + 1, k, hk, x, hx => by
    simp only [shift_shifts_1_l12] at hx
    by_cases c : (b : Int) - (t : Int) < (k : Int)
    · rw [decide_eq_true c] at hx; exact hag x hx
    · rw [decide_eq_false c, cond_false] at hx
      rcases List.mem_cons.1 hx with rfl | hx
      · unfold shOk; dsimp only; omega
      · rcases List.mem_cons.1 hx with rfl | hx
        · unfold shOk; dsimp only; omega
        · exact best_l12_in c0 t b hb htb ag hag fu (k + 1) (by omega) x hx
theorem best_l11_in (c0 : Int) (t : Nat) (ag : Nat → List Shf) (hag : ∀ x ∈ ag (t + 1), shOk c0 x) : ∀ (fu b : Nat), t ≤ b → ∀ x ∈ shift_shifts_1_l11 c0 t ag fu b, shOk c0 x
  | 0, b, _, x, hx => by simp [shift_shifts_1_l11] at hx
  | fu + 1, b, hb, x, hx => by
    simp only [shift_shifts_1_l11] at hx
    by_cases c : (b : Int) < c0
    · rw [decide_eq_true c, cond_true] at hx
      exact best_l12_in c0 t b c hb _ (fun x hx => best_l11_in c0 t ag hag fu (b + 1) (by omega) x hx) _ 1 (Nat.le_refl _) x hx
    · rw [decide_eq_false c, cond_false] at hx; exact hag x hx
theorem best_l8_in (c0 : Int) : ∀ (fu t : Nat), ∀ x ∈ shift_shifts_1_l8 c0 fu t, shOk c0 x
  | 0, t, x, hx => by simp [shift_shifts_1_l8] at hx
  | fu + 1, t, x, hx => by
    simp only [shift_shifts_1_l8] at hx
    by_cases c : (t : Int) < c0
    · rw [decide_eq_true c, cond_true] at hx
      exact best_l11_in c0 t _ (fun x hx => best_l8_in c0 fu (t + 1) x hx) _ (t + 1) (by omega) x hx
    · rw [decide_eq_false c] at hx; simp at hx
theorem best_in (c0 : Int) : ∀ x ∈ shift_shifts_1 (shift_shifts c0), shOk c0 x := best_l8_in c0 _ _
/-! and every one of them is drawn -/
theorem best_l12_ag (t b : Nat) (ag : Nat → List Shf) (s : Shf) (h : s ∈ ag (b + 1)) : ∀ (fu k : Nat), (b : Int) - t + 1 - k < fu ∧ 0 < fu → s ∈ shift_shifts_1_l12 t b ag fu k
  | 0, k, hf => by omega
  | fu + 1, k, hf => by
    simp only [shift_shifts_1_l12]
    by_cases c : (b : Int) - (t : Int) < (k : Int)
    · rw [decide_eq_true c]; exact h
    · rw [decide_eq_false c, cond_false]
      exact List.mem_cons_of_mem _ (List.mem_cons_of_mem _ (best_l12_ag t b ag s h fu (k + 1) (by omega)))
theorem best_l12_hit (t b : Nat) (ag : Nat → List Shf) (s : Shf) (hs : s.top = t ∧ s.bottom = b ∧ s.amt ≠ 0 ∧ (t : Int) - b ≤ s.amt ∧ s.amt ≤ (b : Int) - t) : ∀ (fu k : Nat), (b : Int) - t + 1 - k < fu → (k : Int) ≤ s.amt ∨ (k : Int) ≤ -s.amt → s ∈ shift_shifts_1_l12 t b ag fu k
  | 0, k, hf, hk => by omega
  | fu + 1, k, hf, hk => by
    simp only [shift_shifts_1_l12]
    rw [decide_eq_false (by omega : ¬ (b : Int) - (t : Int) < (k : Int)), cond_false]
    by_cases c1 : s.amt = k
    · refine List.mem_cons.2 (Or.inl ?_)
      obtain ⟨st, sb, sa⟩ := s
      simp only at hs c1 ⊢; rw [hs.1, hs.2.1, c1]
    · refine List.mem_cons_of_mem _ ?_
      by_cases c2 : s.amt = -(k : Int)
      · refine List.mem_cons.2 (Or.inl ?_)
        obtain ⟨st, sb, sa⟩ := s
        simp only at hs c2 ⊢; rw [hs.1, hs.2.1, c2]
      · exact List.mem_cons_of_mem _ (best_l12_hit t b ag s hs fu (k + 1) (by omega) (by omega))
theorem best_l11_ag (c0 : Int) (t : Nat) (ag : Nat → List Shf) (s : Shf) (h : s ∈ ag (t + 1)) : ∀ (fu b : Nat), t < b → c0 - b < fu ∧ 0 < fu → s ∈ shift_shifts_1_l11 c0 t ag fu b
  | 0, b, _, hf => by omega
  | fu + 1, b, htb, hf => by
    simp only [shift_shifts_1_l11]
    by_cases c : (b : Int) < c0
    · rw [decide_eq_true c, cond_true]
      exact best_l12_ag t b _ s (best_l11_ag c0 t ag s h fu (b + 1) (by omega) (by omega)) ((b + 1 - (t + 1)) + 1) 1 (by omega)
    · rw [decide_eq_false c, cond_false]; exact h
theorem best_l11_hit (c0 : Int) (t : Nat) (ag : Nat → List Shf) (s : Shf) (hs : s.top = t ∧ s.bottom < c0 ∧ s.amt ≠ 0 ∧ (t : Int) - s.bottom ≤ s.amt ∧ s.amt ≤ s.bottom - t) : ∀ (fu b : Nat), t < b → (b : Int) ≤ s.bottom → c0 - b < fu → s ∈ shift_shifts_1_l11 c0 t ag fu b
  | 0, b, _, hb, hf => by omega
  | fu + 1, b, htb, hb, hf => by
    simp only [shift_shifts_1_l11]
    rw [decide_eq_true (by omega : (b : Int) < c0), cond_true]
    by_cases c : s.bottom = b
    · exact best_l12_hit t b _ s ⟨hs.1, c, hs.2.2.1, by omega, by omega⟩ _ 1 (by omega) (by omega)
    · exact best_l12_ag t b _ s (best_l11_hit c0 t ag s hs fu (b + 1) (by omega) (by omega) (by omega)) ((b + 1 - (t + 1)) + 1) 1 (by omega)
theorem best_l8_hit (c0 : Int) (s : Shf) (hs : shOk c0 s) : ∀ (fu t : Nat), (t : Int) ≤ s.top → c0 - t < fu → s ∈ shift_shifts_1_l8 c0 fu t
  | 0, t, ht, hf => by unfold shOk at hs; omega
  | fu + 1, t, ht, hf => by
    have hs' := hs; unfold shOk at hs'
    simp only [shift_shifts_1_l8]
    rw [decide_eq_true (by omega : (t : Int) < c0), cond_true]
    by_cases c : s.top = t
    · exact best_l11_hit c0 t _ s ⟨c, by omega, by omega, by omega, by omega⟩ _ (t + 1) (by omega) (by omega) (by omega)
    · exact best_l11_ag c0 t _ s (best_l8_hit c0 s hs fu (t + 1) (by omega) (by omega)) _ (t + 1) (by omega) (by omega)
theorem best_mem {c0 : Int} {s : Shf} (hs : shOk c0 s) : s ∈ shift_shifts_1 (shift_shifts c0) := by
  have hs' := hs; unfold shOk at hs'
  exact best_l8_hit c0 s hs _ 0 (by omega) (by show c0 - ((0 : Nat) : Int) < ((c0 - 0).toNat + 1 : Nat); omega)
/-! the marks -/
def isB (x : Int) (j : Nat) : Prop := ∃ v : BitVec 64, x = (v.toNat : Int) ∧ v.getLsbD j = true
theorem or_bv (x y : Int) : bOp .or .u64 x y = (((BitVec.ofInt 64 x) ||| (BitVec.ofInt 64 y)).toNat : Int) := by
  unfold bOp
  exact wrap_in (by simp [IntKind.min, IntKind.signed]) (by have := ((BitVec.ofInt 64 x) ||| (BitVec.ofInt 64 y)).isLt; simp only [IntKind.max, IntKind.signed, IntKind.bits]; show (_ : Int) ≤ _; simp; omega)
theorem pow_bit : ∀ k < 41, (BitVec.ofInt 64 (IntKind.u64.wrap ((1 : Int) * 2 ^ (min ((k : Nat) : Int).toNat 64)))).getLsbD k = true := by decide +kernel
theorem or_new (x : Int) {k : Nat} (hk : k < 41) : isB (bOp .or .u64 x (IntKind.u64.wrap ((1 : Int) * 2 ^ (min ((k : Nat) : Int).toNat 64)))) k :=
  ⟨_, or_bv x _, by rw [BitVec.getLsbD_or, pow_bit k hk, Bool.or_true]⟩
theorem or_old {x : Int} {j : Nat} (y : Int) (h : isB x j) : isB (bOp .or .u64 x y) j := by
  obtain ⟨v, rfl, hv⟩ := h
  refine ⟨_, or_bv _ y, ?_⟩
  rw [BitVec.getLsbD_or, BitVec.ofInt_natCast, BitVec.ofNat_toNat, BitVec.setWidth_eq, hv, Bool.true_or]
theorem bit_is {x : Int} {j : Nat} (hj : j < 41) (h : isB x j) : bOp .and .u64 (Int.fdiv x (2 ^ (min ((j : Nat) : Int).toNat 64))) 1 = 1 := by
  obtain ⟨v, rfl, hv⟩ := h
  have e1 : min ((j : Nat) : Int).toNat 64 = j := by omega
  rw [e1, show ((2 : Int) ^ j) = ((2 ^ j : Nat) : Int) by simp, ← Int.ofNat_fdiv]
  unfold bOp
  have e2 : ((BitVec.ofInt 64 ((v.toNat / 2 ^ j : Nat) : Int)) &&& (BitVec.ofInt 64 1)) = 1#64 := by
    apply BitVec.eq_of_toNat_eq
    rw [BitVec.toNat_and, BitVec.ofInt_natCast, BitVec.toNat_ofNat]
    have hlt : v.toNat / 2 ^ j < 2 ^ 64 := Nat.lt_of_le_of_lt (Nat.div_le_self _ _) v.isLt
    rw [Nat.mod_eq_of_lt hlt]
    show v.toNat / 2 ^ j &&& 1 = 1
    rw [Nat.and_one_is_mod]
    have : v.toNat.testBit j = true := hv
    rw [Nat.testBit_eq_decide_div_mod_eq] at this
    exact of_decide_eq_true this
  show IntKind.u64.wrap (((BitVec.ofInt 64 ((v.toNat / 2 ^ j : Nat) : Int)) &&& (BitVec.ofInt 64 1)).toNat : Int) = 1
  rw [e2]; rfl
theorem equal_l0 : ∀ (xs ys : List Cel) (t : Nat), xs = ys.drop t → slices_Equal_api_Cell_api_Cell_l0 ys xs t = true
  | [], ys, t, h => by simp only [slices_Equal_api_Cell_api_Cell_l0]
  | x :: xs, ys, t, h => by
    have hlt : t < ys.length := by
      by_cases hh : t < ys.length
      · exact hh
      · rw [List.drop_eq_nil_of_le (by omega)] at h; cases h
    have hd := List.drop_eq_getElem_cons hlt
    have hx : ys.getD t Cel.zero = x := by rw [hd] at h; rw [getD_eq hlt]; exact (List.cons.inj h).1.symm
    have hxs : xs = ys.drop (t + 1) := by rw [hd] at h; exact (List.cons.inj h).2
    simp only [slices_Equal_api_Cell_api_Cell_l0]
    rw [hx, decide_eq_true rfl]
    exact equal_l0 xs ys (t + 1) hxs
theorem equal_self (xs : List Cel) : slices_Equal_api_Cell_api_Cell xs xs = true := by
  unfold slices_Equal_api_Cell_api_Cell
  rw [decide_eq_true rfl]
  exact equal_l0 xs xs 0 rfl
def Has (J : Nat → Prop) (out : Lks) : Prop := ∀ r, J r → isB (out.f r) r
theorem has_put {J : Nat → Prop} {out : Lks} (h : Has J out) (t : Nat) (y : Int) : Has J (out.put t (bOp .or .u64 (out.f t) y)) := fun r hr => by
  show isB (if r = t then _ else _) r
  by_cases c : r = t
  · rw [if_pos c, ← c]; exact or_old y (h r hr)
  · rw [if_neg c]; exact h r hr
theorem like_keep (rows : List (List Cel)) (plain : List Cel) (k : Nat) (ag : Nat → Lks → Lks) (J : Nat → Prop) (Q : Lks → Prop) (hag : ∀ o, Has J o → Q (ag (k + 1) o)) : ∀ (es : List (List Cel)) (t : Nat) (out : Lks), Has J out → Q (shift_like_l4 rows plain k ag es t out)
  | [], t, out, h => by
    simp only [shift_like_l4]
    cases slices_Equal_api_Cell_api_Cell plain (rows.getD k []) with
    | true => exact hag _ (has_put h 40 _)
    | false => exact hag _ h
  | x :: es, t, out, h => by
    simp only [shift_like_l4]
    cases slices_Equal_api_Cell_api_Cell x (rows.getD k []) with
    | true => exact like_keep rows plain k ag J Q hag es (t + 1) _ (has_put h t _)
    | false => exact like_keep rows plain k ag J Q hag es (t + 1) _ h
theorem like_set (rows : List (List Cel)) (plain : List Cel) (k : Nat) (hk : k < rows.length) (h40 : rows.length ≤ 40) (ag : Nat → Lks → Lks) (J : Nat → Prop) (Q : Lks → Prop) (hag : ∀ o, Has (fun r => J r ∨ r = k) o → Q (ag (k + 1) o)) : ∀ (es : List (List Cel)) (t : Nat) (out : Lks), es = rows.drop t → t ≤ k → Has J out → Q (shift_like_l4 rows plain k ag es t out)
  | [], t, out, he, ht, h => by have := congrArg List.length he; simp at this; omega
  | x :: es, t, out, he, ht, h => by
    have hlt : t < rows.length := by omega
    have hd := List.drop_eq_getElem_cons hlt
    have hx : rows.getD t [] = x := by rw [hd] at he; rw [getD_eq hlt]; exact (List.cons.inj he).1.symm
    have hxs : es = rows.drop (t + 1) := by rw [hd] at he; exact (List.cons.inj he).2
    simp only [shift_like_l4]
    by_cases c : t = k
    · subst c
      rw [hx, equal_self, cond_true]
      refine like_keep rows plain t ag (fun r => J r ∨ r = t) Q hag es (t + 1) _ (fun r hr => ?_)
      show isB (if r = t then _ else _) r
      by_cases c : r = t
      · rw [if_pos c, c]; exact or_new _ (by omega)
      · rw [if_neg c]; exact h r (hr.resolve_right c)
    · cases slices_Equal_api_Cell_api_Cell x (rows.getD k []) with
      | true => exact like_set rows plain k hk h40 ag J Q hag es (t + 1) _ hxs (by omega) (has_put h t _)
      | false => exact like_set rows plain k hk h40 ag J Q hag es (t + 1) _ hxs (by omega) h
theorem like_l3 (rows : List (List Cel)) (plain : List Cel) (h40 : rows.length ≤ 40) : ∀ (bs : List (List Cel)) (t : Nat) (out : Lks), bs = rows.drop t → t ≤ rows.length → Has (fun r => r < t) out → Has (fun r => r < rows.length) (shift_like_l3 rows rows plain bs t out)
  | [], t, out, h, ht, ho => by
    simp only [shift_like_l3]
    have := congrArg List.length h; simp at this
    exact fun r hr => ho r (by omega)
  | x :: bs, t, out, h, ht, ho => by
    have hlt : t < rows.length := by
      by_cases hh : t < rows.length
      · exact hh
      · rw [List.drop_eq_nil_of_le (by omega)] at h; cases h
    have hd := List.drop_eq_getElem_cons hlt
    have hxs : bs = rows.drop (t + 1) := by rw [hd] at h; exact (List.cons.inj h).2
    simp only [shift_like_l3]
    refine like_set rows plain t hlt h40 _ (fun r => r < t) (fun o => Has (fun r => r < rows.length) o) (fun o hO => ?_) rows 0 out rfl (Nat.zero_le _) ho
    exact like_l3 rows plain h40 bs (t + 1) o hxs hlt (fun r hr => hO r (by omega))
theorem like_self (c : Int) (rows : List (List Cel)) (cur : Plc) (v : Bool) (sh : Int) (ti : List UInt8) (h40 : rows.length ≤ 40) {r : Nat} (hr : r < rows.length) : shift_likes_is (shift_like c rows cur v sh ti c rows cur v sh ti) (r : Int) (r : Int) = true := by
  have h := like_l3 rows (shift_plain c) h40 rows 0 Lks.zero rfl (Nat.zero_le _) (fun r hr => by omega) r hr
  unfold shift_likes_is
  rw [decide_eq_false (by omega : ¬ (r : Int) < 0), cond_false]
  exact decide_eq_true (bit_is (by omega) h)
theorem gain_le (l : Lks) (s : Shf) (n : Nat) (hb : s.bottom < n) (hl : ∀ r : Nat, r < n → shift_likes_is l (r : Int) (r : Int) = true) : ∀ (fu : Nat) (m : Int) (r : Int), 0 ≤ r → m ≤ 0 → shift_gain_l0 l s fu m r ≤ 0
  | 0, m, r, hr, hm => by simp [shift_gain_l0]
  | fu + 1, m, r, hr, hm => by
    simp only [shift_gain_l0]
    by_cases c : r ≤ s.bottom
    · rw [decide_eq_true c, cond_true]
      have := hl r.toNat (by omega)
      rw [Int.toNat_of_nonneg hr] at this
      rw [this]
      simp only [Bool.not_true, Bool.and_false, cond_false, Bool.true_and]
      cases shift_likes_is l (shift_source s r) r with
      | true => exact gain_le l s n hb hl fu m (r + 1) (by omega) hm
      | false => exact gain_le l s n hb hl fu (m - 1) (r + 1) (by omega) (by omega)
    · rw [decide_eq_false c]; exact hm
theorem gain_self (c : Int) (rows : List (List Cel)) (cur : Plc) (v : Bool) (sh : Int) (ti : List UInt8) (h40 : rows.length ≤ 40) {s : Shf} (hs : shOk rows.length s) : shift_gain (shift_like c rows cur v sh ti c rows cur v sh ti) s ≤ 0 := by
  unfold shOk at hs
  exact gain_le _ s rows.length (by omega) (fun r hr => like_self c rows cur v sh ti h40 hr) _ 0 s.top (by omega) (by omega)
/-! the greatest -/
theorem best_r0 (ac : Int) (ar : List (List Cel)) (acu : Plc) (av : Bool) (ash : Int) (at_ : List UInt8) (bc : Int) (br : List (List Cel)) (bcu : Plc) (bv_ : Bool) (bsh : Int) (bt_ : List UInt8) (G : Shf → Int) (hG : G = shift_gain (shift_like ac ar acu av ash at_ bc br bcu bv_ bsh bt_)) :
    ∀ (l : List Shf) (f : Hld), (∀ x ∈ l, x ≠ Shf.zero) → (f.shift = Shf.zero ∧ f.gain = 0 ∨ f.shift ≠ Shf.zero ∧ f.gain = G f.shift ∧ 0 < f.gain) →
    (shift_Best_r0 ac ar acu av ash at_ bc br bcu bv_ bsh bt_ l f = (Shf.zero, 0, 4) ∧ f.shift = Shf.zero ∧ ∀ x ∈ l, G x ≤ 0) ∨
    (∃ s, shift_Best_r0 ac ar acu av ash at_ bc br bcu bv_ bsh bt_ l f = (s, G s, 0) ∧ (s = f.shift ∧ s ≠ Shf.zero ∨ s ∈ l) ∧ 0 < G s ∧ f.gain ≤ G s ∧ ∀ x ∈ l, G x ≤ G s)
  | [], f, _, hf => by
    simp only [shift_Best_r0]
    rcases hf with hf | hf
    · rw [decide_eq_true hf.1]; exact Or.inl ⟨rfl, hf.1, fun x hx => by cases hx⟩
    · rw [decide_eq_false hf.1, cond_false, hf.2.1]
      exact Or.inr ⟨f.shift, rfl, Or.inl ⟨rfl, hf.1⟩, by omega, by omega, fun x hx => by cases hx⟩
  | x :: l, f, hz, hf => by
    have hz' : ∀ x ∈ l, x ≠ Shf.zero := fun y hy => hz y (List.mem_cons_of_mem _ hy)
    have hx := hz x (List.mem_cons_self ..)
    simp only [shift_Best_r0, ← hG]
    have hf0 : 0 ≤ f.gain := by rcases hf with hf | hf <;> omega
    by_cases c : f.gain < G x
    · rw [decide_eq_true c, cond_true]
      rcases best_r0 ac ar acu av ash at_ bc br bcu bv_ bsh bt_ G hG l ({ f with shift := x, gain := G x }) hz' (Or.inr ⟨hx, rfl, by show 0 < G x; omega⟩) with hh | ⟨s, h1, h2, h3, h4, h5⟩
      · exact absurd hh.2.1 hx
      · simp only at h2 h4
        refine Or.inr ⟨s, h1, Or.inr ?_, h3, by omega, fun y hy => ?_⟩
        · rcases h2 with h2 | h2
          · rw [h2.1]; exact List.mem_cons_self ..
          · exact List.mem_cons_of_mem _ h2
        · rcases List.mem_cons.1 hy with rfl | hy
          · exact h4
          · exact h5 y hy
    · rw [decide_eq_false c, cond_false]
      rcases best_r0 ac ar acu av ash at_ bc br bcu bv_ bsh bt_ G hG l f hz' hf with ⟨h1, h2, h3⟩ | ⟨s, h1, h2, h3, h4, h5⟩
      · refine Or.inl ⟨h1, h2, fun y hy => ?_⟩
        rcases List.mem_cons.1 hy with rfl | hy
        · rcases hf with hf | hf
          · omega
          · exact absurd h2 hf.1
        · exact h3 y hy
      · refine Or.inr ⟨s, h1, h2.imp id (List.mem_cons_of_mem _), h3, h4, fun y hy => ?_⟩
        rcases List.mem_cons.1 hy with rfl | hy
        · omega
        · exact h5 y hy
theorem spans_r3_snd (t : Nat) (ag : Nat → List Sp3 → List Sp3 × Int) (hag : ∀ l, (ag (t + 1) l).2 = 0) : ∀ (es bl : List Sp3), (damage_Spans_r3 t ag es bl).2 = 0
  | [], bl => by simp only [damage_Spans_r3]; exact hag bl
  | x :: es, bl => by simp only [damage_Spans_r3, bindV]; exact spans_r3_snd t ag hag es _
theorem spans_l0_snd (br : List (List Cel)) : ∀ (ar : List (List Cel)) (t : Nat) (l : List Sp3), (damage_Spans_l0 br ar t l).2 = 0
  | [], t, l => by simp only [damage_Spans_l0]
  | x :: ar, t, l => by simp only [damage_Spans_l0]; exact spans_r3_snd t _ (fun l => spans_l0_snd br ar (t + 1) l) _ _
theorem sized_eq (ac : Int) (ar : List (List Cel)) (acu : Plc) (av : Bool) (ash : Int) (at_ : List UInt8) (bc : Int) (br : List (List Cel)) (bcu : Plc) (bv_ : Bool) (bsh : Int) (bt_ : List UInt8) : shift_sized ac ar acu av ash at_ bc br bcu bv_ bsh bt_ = damage_checked ac ar acu av ash at_ bc br bcu bv_ bsh bt_ := by
  unfold shift_sized bindV damage_Spans
  by_cases h : damage_checked ac ar acu av ash at_ bc br bcu bv_ bsh bt_ = 0
  · rw [decide_eq_true h]; simp only [Bool.not_true, cond_false]; rw [spans_l0_snd, h]
  · rw [decide_eq_false h]; rfl
theorem checked_vals (ac : Int) (ar : List (List Cel)) (acu : Plc) (av : Bool) (ash : Int) (at_ : List UInt8) (bc : Int) (br : List (List Cel)) (bcu : Plc) (bv_ : Bool) (bsh : Int) (bt_ : List UInt8) :
    damage_checked ac ar acu av ash at_ bc br bcu bv_ bsh bt_ ≠ 4 ∧ (damage_checked ac ar acu av ash at_ bc br bcu bv_ bsh bt_ = 0 → frame_Check ac ar acu av ash at_ = 0 ∧ damage_checked ac ar acu av ash at_ ac ar acu av ash at_ = 0) := by
  unfold damage_checked
  rcases frame_val ac ar acu av ash at_ with h1 | h1 <;> rcases frame_val bc br bcu bv_ bsh bt_ with h2 | h2 <;> simp only [h1, h2, decide_true, Bool.not_true, cond_false, Bool.or_false]
  · constructor
    · generalize ((!decide (ac = bc)) || (!decide ((ar.length : Int) = (br.length : Int)))) = z; cases z <;> simp
    · intro _; exact ⟨trivial, trivial⟩
  · simp
  · simp
  · simp
theorem shiftBest_law (ac : Int) (ar : List (List Cel)) (acu : Plc) (av : Bool) (ash : Int) (at_ : List UInt8) (bc : Int) (br : List (List Cel)) (bcu : Plc) (bv_ : Bool) (bsh : Int) (bt_ : List UInt8) (s : Shf) : law28_ShiftBest ac ar acu av ash at_ bc br bcu bv_ bsh bt_ s = true := by
  unfold law28_ShiftBest
  rw [wakes_true]
  simp only [Bool.not_true, cond_false, bindV]
  have hv := checked_vals ac ar acu av ash at_ bc br bcu bv_ bsh bt_
  rw [← sized_eq, ← sized_eq] at hv
  by_cases h0 : shift_sized ac ar acu av ash at_ bc br bcu bv_ bsh bt_ = 0
  · obtain ⟨hf, haa⟩ := hv.2 h0
    have hfc := frame_Check_ok hf
    have h1 : (1 : Int) ≤ (ar.length : Int) ∧ (ar.length : Int) ≤ 40 := by omega
    have hbest : ∀ (bc : Int) (br : List (List Cel)) (bcu : Plc) (bv_ : Bool) (bsh : Int) (bt_ : List UInt8), shift_sized ac ar acu av ash at_ bc br bcu bv_ bsh bt_ = 0 → shift_Best ac ar acu av ash at_ bc br bcu bv_ bsh bt_ = shift_Best_r0 ac ar acu av ash at_ bc br bcu bv_ bsh bt_ (shift_shifts_1 (shift_shifts (ar.length : Int))) Hld.zero := fun bc br bcu bv_ bsh bt_ h => by
      unfold shift_Best; rw [h]; rfl
    have hnz : ∀ x ∈ shift_shifts_1 (shift_shifts (ar.length : Int)), x ≠ Shf.zero := fun x hx e => by
      have := best_in _ x hx; rw [e] at this; exact this.2.2.2.1 rfl
    have hgain : ∀ x, shOk (ar.length : Int) x → shift_Gain ac ar acu av ash at_ bc br bcu bv_ bsh bt_ x = (shift_gain (shift_like ac ar acu av ash at_ bc br bcu bv_ bsh bt_) x, 0) := fun x hx => by
      unfold shift_Gain; rw [h0, check_of_ok h1.1 h1.2 hx]; rfl
    have hgno : ∀ x, ¬ shOk (ar.length : Int) x → (shift_Gain ac ar acu av ash at_ bc br bcu bv_ bsh bt_ x).2 ≠ 0 := fun x hx => by
      have hc : shift_Check x (ar.length : Int) ≠ 0 := fun h => hx (ok_of_check h)
      unfold shift_Gain; rw [h0, decide_eq_false hc]; exact hc
    have hself : shift_Best ac ar acu av ash at_ ac ar acu av ash at_ = (Shf.zero, 0, 4) := by
      rw [hbest _ _ _ _ _ _ haa]
      rcases best_r0 ac ar acu av ash at_ ac ar acu av ash at_ _ rfl _ Hld.zero hnz (Or.inl ⟨rfl, rfl⟩) with hh | ⟨s, e1, e2, e3, e4, e5⟩
      · exact hh.1
      · rcases e2 with e2 | e2
        · exact absurd e2.1 e2.2
        · have := gain_self ac ar acu av ash at_ (by omega) (best_in _ s e2); omega
    rw [hself, hbest _ _ _ _ _ _ h0]
    rcases best_r0 ac ar acu av ash at_ bc br bcu bv_ bsh bt_ _ rfl _ Hld.zero hnz (Or.inl ⟨rfl, rfl⟩) with ⟨e1, e2, e3⟩ | ⟨s', e1, e2, e3, e4, e5⟩
    · rw [e1]
      by_cases hs : shOk (ar.length : Int) s
      · rw [hgain s hs]
        have := e3 s (best_mem hs)
        simp only [decide_true, Bool.not_true, Bool.and_false, cond_false, Bool.true_and, Bool.or_false, cond_true]
        rw [decide_eq_false (by omega)]; rfl
      · rw [decide_eq_false (hgno s hs)]
        rfl
    · rw [e1]
      have hs' : shOk (ar.length : Int) s' := by
        rcases e2 with e2 | e2
        · exact absurd e2.1 e2.2
        · exact best_in _ s' e2
      obtain ⟨o, e, hol, hor⟩ := done_eq hf (check_of_ok h1.1 h1.2 hs')
      have hfr := done_frame hf (check_of_ok h1.1 h1.2 hs') hol hor
      simp only [decide_true, Bool.not_true, Bool.false_and, cond_false]
      rw [hgain s' hs', e]
      simp only [decide_true, Bool.and_true, decide_eq_true e3, Bool.true_and]
      rw [show decide ((0 : Int) = 4) = false from rfl]
      simp only [Bool.false_and, Bool.or_false, cond_false]
      rw [hfr]
      by_cases hs : shOk (ar.length : Int) s
      · rw [hgain s hs]
        have := e5 s (best_mem hs)
        simp only
        rw [decide_eq_false (by omega : ¬ _ < _)]; simp
      · rw [decide_eq_false (hgno s hs)]; simp
  · have : shift_Best ac ar acu av ash at_ bc br bcu bv_ bsh bt_ = (Shf.zero, 0, shift_sized ac ar acu av ash at_ bc br bcu bv_ bsh bt_) := by
      unfold shift_Best; rw [decide_eq_false h0]; rfl
    rw [this]
    simp only
    rw [decide_eq_false h0, decide_eq_false hv.1]; rfl
end Go.Proofs.YtinkdfnpmoljfaaGreatDoor

