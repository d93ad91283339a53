import Derived.Test.YtinkdfnpmoljfaaGreatDoorT14
import Derived.Test.YtinkdfnpmoljfaaGreatDoorMU
set_option linter.unusedVariables false
set_option linter.unusedSimpArgs false
namespace Go.Proofs.YtinkdfnpmoljfaaGreatDoor
open Go Go.Fen
/-! ShiftGains in plain Lean. The marks: bit j of entry i is set just where row i is like row j. -/
def bt (x : Int) (j : Nat) : Bool := (BitVec.ofInt 64 x).getLsbD j
def InU (x : Int) : Prop := ∃ v : BitVec 64, x = (v.toNat : Int)
def pw (k : Nat) : Int := IntKind.u64.wrap ((1 : Int) * 2 ^ (min ((k : Nat) : Int).toNat 64))
theorem or_in (x y : Int) : InU (bOp .or .u64 x y) := ⟨_, or_bv x y⟩
theorem bt_or (x y : Int) (j : Nat) : bt (bOp .or .u64 x y) j = (bt x j || bt y j) := by
 unfold bt
 rw [or_bv, BitVec.ofInt_natCast, BitVec.ofNat_toNat, BitVec.setWidth_eq, BitVec.getLsbD_or]
theorem bt_pw : ∀ k < 41, ∀ j < 41, bt (pw k) j = decide (j = k) := by unfold bt pw; decide +kernel
theorem bt_zero (j : Nat) : bt 0 j = false := by unfold bt; simp
theorem bit_bt {x : Int} {j : Nat} (hj : j < 41) (h : InU x) : decide (bOp .and .u64 (Int.fdiv x (2 ^ (min ((j : Nat) : Int).toNat 64))) 1 = 1) = bt x j := by
 obtain ⟨v, rfl⟩ := h
 have e1 : min ((j : Nat) : Int).toNat 64 = j := by omega
 rw [e1, show ((2 : Int) ^ j) = ((2 ^ j : Nat) : Int) by simp, ← Int.ofNat_fdiv]
 have hlt : v.toNat / 2 ^ j < 2 ^ 64 := Nat.lt_of_le_of_lt (Nat.div_le_self _ _) v.isLt
 have e2 : ((BitVec.ofInt 64 ((v.toNat / 2 ^ j : Nat) : Int)) &&& (BitVec.ofInt 64 1)).toNat = v.toNat / 2 ^ j % 2 := by
  rw [BitVec.toNat_and, BitVec.ofInt_natCast, BitVec.toNat_ofNat, Nat.mod_eq_of_lt hlt]
  show v.toNat / 2 ^ j &&& 1 = _
  exact Nat.and_one_is_mod _
 have e3 : bOp .and .u64 ((v.toNat / 2 ^ j : Nat) : Int) 1 = ((v.toNat / 2 ^ j % 2 : Nat) : Int) := by
  unfold bOp
  show IntKind.u64.wrap (((BitVec.ofInt 64 ((v.toNat / 2 ^ j : Nat) : Int)) &&& (BitVec.ofInt 64 1)).toNat : Int) = _
  rw [e2]
  exact wrap_in (by simp [IntKind.min, IntKind.signed]; omega) (by simp only [IntKind.max, IntKind.signed, IntKind.bits]; simp; omega)
 rw [e3]
 unfold bt
 rw [BitVec.ofInt_natCast, BitVec.ofNat_toNat, BitVec.setWidth_eq]
 show _ = v.toNat.testBit j
 rw [Nat.testBit_eq_decide_div_mod_eq]
 congr 1
 exact propext (by omega)
def upd (a b : List (List Cel)) (plain : List Cel) (k t : Nat) (out : Lks) : Lks :=
 ⟨fun i => if (t ≤ i ∧ i < a.length ∧ slices_Equal_api_Cell_api_Cell (a.getD i []) (b.getD k []) = true) ∨ (i = 40 ∧ slices_Equal_api_Cell_api_Cell plain (b.getD k []) = true) then bOp .or .u64 (out.f i) (pw k) else out.f i⟩
theorem like_l4_eq (a b : List (List Cel)) (plain : List Cel) (k : Nat) (ha : a.length ≤ 40) (ag : Nat → Lks → Lks) : ∀ (es : List (List Cel)) (t : Nat) (out : Lks), es = a.drop t → shift_like_l4 b plain k ag es t out = ag (k + 1) (upd a b plain k t out)
 | [], t, out, he => by
  have hl := congrArg List.length he; simp at hl
  simp only [shift_like_l4]
  cases hp : slices_Equal_api_Cell_api_Cell plain (b.getD k []) with
  | true =>
   rw [cond_true]; congr 1
   unfold upd Lks.put
   congr 1; funext i
   by_cases c : i = 40
   ·subst c; rw [if_pos rfl, if_pos (Or.inr ⟨rfl, hp⟩)]; rfl
   ·rw [if_neg c, if_neg (by omega)]
  | false =>
   rw [cond_false]; congr 1
   unfold upd
   show out = (⟨fun i => _⟩ : Lks)
   rw [show (fun i => if (t ≤ i ∧ i < a.length ∧ slices_Equal_api_Cell_api_Cell (a.getD i []) (b.getD k []) = true) ∨ (i = 40 ∧ slices_Equal_api_Cell_api_Cell plain (b.getD k []) = true) then bOp .or .u64 (out.f i) (pw k) else out.f i) = out.f by
    funext i; rw [if_neg]; rw [hp]; simp; intro h1 h2; omega]
 | x :: es, t, out, he => by
  have hlt : t < a.length := by
   by_cases hh : t < a.length
   ·exact hh
   ·rw [List.drop_eq_nil_of_le (by omega)] at he; cases he
  have hd := List.drop_eq_getElem_cons hlt
  have hx : a.getD t [] = x := by rw [hd] at he; rw [getD_eq hlt]; exact (List.cons.inj he).1.symm
  have hxs : es = a.drop (t + 1) := by rw [hd] at he; exact (List.cons.inj he).2
  simp only [shift_like_l4]
  cases hp : slices_Equal_api_Cell_api_Cell x (b.getD k []) with
  | true =>
   rw [cond_true, like_l4_eq a b plain k ha ag es (t + 1) _ hxs]
   congr 1
   unfold upd Lks.put
   congr 1; funext i
   simp only
   by_cases c : i = t
   ·subst c
    rw [if_neg (by omega), if_pos rfl, if_pos (Or.inl ⟨Nat.le_refl _, hlt, by rw [hx]; exact hp⟩)]; rfl
   ·rw [if_neg c]
    by_cases c2 : (t + 1 ≤ i ∧ i < a.length ∧ slices_Equal_api_Cell_api_Cell (a.getD i []) (b.getD k []) = true) ∨ (i = 40 ∧ slices_Equal_api_Cell_api_Cell plain (b.getD k []) = true)
    ·rw [if_pos c2, if_pos (c2.imp (fun h => ⟨by omega, h.2⟩) id)]
    ·rw [if_neg c2, if_neg (fun h => c2 (h.imp (fun h => ⟨by omega, h.2⟩) id))]
  | false =>
   rw [cond_false, like_l4_eq a b plain k ha ag es (t + 1) _ hxs]
   congr 1
   unfold upd
   congr 1; funext i
   by_cases c2 : (t + 1 ≤ i ∧ i < a.length ∧ slices_Equal_api_Cell_api_Cell (a.getD i []) (b.getD k []) = true) ∨ (i = 40 ∧ slices_Equal_api_Cell_api_Cell plain (b.getD k []) = true)
   ·rw [if_pos c2, if_pos (c2.imp (fun h => ⟨by omega, h.2⟩) id)]
   ·rw [if_neg c2, if_neg]
    rintro (h | h)
    ·by_cases c : i = t
     ·subst c; rw [hx, hp] at h; cases h.2.2
     ·exact c2 (Or.inl ⟨by omega, h.2⟩)
    ·exact c2 (Or.inr h)
def lk (a b : List (List Cel)) (plain : List Cel) (i j : Nat) : Bool := (decide (i < a.length) && slices_Equal_api_Cell_api_Cell (a.getD i []) (b.getD j [])) || (decide (i = 40) && slices_Equal_api_Cell_api_Cell plain (b.getD j []))
theorem upd_in {a b : List (List Cel)} {plain : List Cel} {k t : Nat} {out : Lks} (h : ∀ i, InU (out.f i)) (i : Nat) : InU ((upd a b plain k t out).f i) := by
 unfold upd; simp only; split
 ·exact or_in _ _
 ·exact h i
theorem upd_bt {a b : List (List Cel)} {plain : List Cel} {k : Nat} {out : Lks} (hk : k < 41) (i j : Nat) (hj : j < 41) : bt ((upd a b plain k 0 out).f i) j = (bt (out.f i) j || (decide (j = k) && lk a b plain i j)) := by
 unfold upd; simp only
 by_cases c : (0 ≤ i ∧ i < a.length ∧ slices_Equal_api_Cell_api_Cell (a.getD i []) (b.getD k []) = true) ∨ (i = 40 ∧ slices_Equal_api_Cell_api_Cell plain (b.getD k []) = true)
 ·rw [if_pos c, bt_or, bt_pw k hk j hj]
  by_cases e : j = k
  ·subst e
   rw [show lk a b plain i j = true by
    unfold lk; rcases c with c | c
    ·rw [decide_eq_true c.2.1, c.2.2]; rfl
    ·rw [decide_eq_true c.1, c.2]; simp]
   simp
  ·rw [decide_eq_false e]; simp
 ·rw [if_neg c]
  by_cases e : j = k
  ·subst e
   rw [show lk a b plain i j = false by
    unfold lk; rw [← Bool.not_eq_true]; simp only [Bool.or_eq_true, Bool.and_eq_true, decide_eq_true_eq]
    exact fun h => c (h.imp (fun h => ⟨Nat.zero_le _, h⟩) id)]
   simp
  ·rw [decide_eq_false e]; simp
theorem like_l3_eq (a b : List (List Cel)) (plain : List Cel) (ha : a.length ≤ 40) (hb : b.length ≤ 40) : ∀ (bs : List (List Cel)) (t : Nat) (out : Lks), bs = b.drop t → (∀ i, InU (out.f i)) →
  (∀ i, InU ((shift_like_l3 a b plain bs t out).f i)) ∧ ∀ i j, j < 41 → bt ((shift_like_l3 a b plain bs t out).f i) j = (bt (out.f i) j || (decide (t ≤ j ∧ j < b.length) && lk a b plain i j))
 | [], t, out, h, ho => by
  have hl := congrArg List.length h; simp at hl
  simp only [shift_like_l3]
  exact ⟨ho, fun i j hj => by rw [decide_eq_false (by omega)]; simp⟩
 | x :: bs, t, out, h, ho => by
  have hlt : t < b.length := by
   by_cases hh : t < b.length
   ·exact hh
   ·rw [List.drop_eq_nil_of_le (by omega)] at h; cases h
  have hd := List.drop_eq_getElem_cons hlt
  have hxs : bs = b.drop (t + 1) := by rw [hd] at h; exact (List.cons.inj h).2
  simp only [shift_like_l3]
  rw [like_l4_eq a b plain t ha _ a 0 out rfl]
  obtain ⟨g1, g2⟩ := like_l3_eq a b plain ha hb bs (t + 1) (upd a b plain t 0 out) hxs (upd_in ho)
  refine ⟨g1, fun i j hj => ?_⟩
  rw [g2 i j hj, upd_bt (by omega) i j hj]
  by_cases e : j = t
  ·subst e
   rw [decide_eq_true rfl, decide_eq_false (by omega), decide_eq_true ⟨Nat.le_refl _, hlt⟩]; simp
  ·rw [decide_eq_false e, show decide (t + 1 ≤ j ∧ j < b.length) = decide (t ≤ j ∧ j < b.length) from decide_eq_decide.2 (by omega)]; simp
theorem is_row {c : Int} {a : List (List Cel)} {cu : Plc} {v : Bool} {sh : Int} {ti : List UInt8} {bc : Int} {b : List (List Cel)} {bcu : Plc} {bv_ : Bool} {bsh : Int} {bt_ : List UInt8} (ha : a.length ≤ 40) (hb : b.length ≤ 40) {j : Nat} (hj : j < b.length) {i : Int} (hi : i < a.length) :
  shift_likes_is (shift_like c a cu v sh ti bc b bcu bv_ bsh bt_) i (j : Int) = slices_Equal_api_Cell_api_Cell (if 0 ≤ i then a.getD i.toNat [] else shift_plain c) (b.getD j []) := by
 obtain ⟨g1, g2⟩ := like_l3_eq a b (shift_plain c) ha hb b 0 Lks.zero rfl (fun i => ⟨0#64, rfl⟩)
 have e : shift_like c a cu v sh ti bc b bcu bv_ bsh bt_ = shift_like_l3 a b (shift_plain c) b 0 Lks.zero := rfl
 rw [e]
 unfold shift_likes_is
 by_cases c0 : i < 0
 ·rw [decide_eq_true c0, cond_true, bit_bt (by omega) (g1 40), g2 40 j (by omega), if_neg (by omega)]
  show (bt 0 j || _) = _
  rw [bt_zero, decide_eq_true ⟨Nat.zero_le _, hj⟩]
  unfold lk
  rw [decide_eq_false (by omega : ¬ 40 < a.length)]; simp
 ·rw [decide_eq_false c0, cond_false, bit_bt (by omega) (g1 _), g2 _ j (by omega), if_pos (by omega)]
  show (bt 0 j || _) = _
  rw [bt_zero, decide_eq_true ⟨Nat.zero_le _, hj⟩]
  unfold lk
  rw [decide_eq_true (by omega : i.toNat < a.length), decide_eq_false (by omega : ¬ i.toNat = 40)]; simp
theorem same_l0 (ys : List Cel) : ∀ (xs : List Cel) (t : Nat), ref23_SameCells_l0 ys xs t = slices_Equal_api_Cell_api_Cell_l0 ys xs t
 | [], t => by simp only [ref23_SameCells_l0, slices_Equal_api_Cell_api_Cell_l0]
 | x :: xs, t => by simp only [ref23_SameCells_l0, slices_Equal_api_Cell_api_Cell_l0]; rw [same_l0 ys xs (t + 1)]
theorem same_eq (xs ys : List Cel) : ref23_SameCells xs ys = slices_Equal_api_Cell_api_Cell xs ys := by
 unfold ref23_SameCells slices_Equal_api_Cell_api_Cell; rw [same_l0]
/-! counts -/
def cnt (f : Nat → Bool) (t : Nat) : Nat → Int
 | 0 => 0
 | m + 1 => (if f t then 1 else 0) + cnt f (t + 1) m
theorem cnt_split (f : Nat → Bool) : ∀ (m k t : Nat), cnt f t (m + k) = cnt f t m + cnt f (t + m) k
 | 0, k, t => by simp [cnt]
 | m + 1, k, t => by
  rw [show m + 1 + k = (m + k) + 1 by omega]
  simp only [cnt]
  rw [cnt_split f m k (t + 1), show t + (m + 1) = t + 1 + m by omega]; omega
theorem cnt_congr {f g : Nat → Bool} : ∀ (m t : Nat), (∀ q, t ≤ q → q < t + m → f q = g q) → cnt f t m = cnt g t m
 | 0, t, h => rfl
 | m + 1, t, h => by
  simp only [cnt]
  rw [h t (Nat.le_refl _) (by omega), cnt_congr m (t + 1) (fun q h1 h2 => h q (by omega) (by omega))]
theorem cnt_range (f : Nat → Bool) : ∀ (m t : Nat), 0 ≤ cnt f t m ∧ cnt f t m ≤ m
 | 0, t => by simp [cnt]
 | m + 1, t => by
  have := cnt_range f m (t + 1)
  simp only [cnt]; split <;> omega
theorem like_cnt (a b : List (List Cel)) : ∀ (es : List (List Cel)) (n t : Nat), es = a.drop t → ref28_like_l0 b es n t = (n : Int) + cnt (fun q => ref23_SameCells (a.getD q []) (b.getD q [])) t es.length
 | [], n, t, h => by simp [ref28_like_l0, cnt]
 | x :: es, n, t, h => by
  have hlt : t < a.length := by
   by_cases hh : t < a.length
   ·exact hh
   ·rw [List.drop_eq_nil_of_le (by omega)] at h; cases h
  have hd := List.drop_eq_getElem_cons hlt
  have hx : a.getD t [] = x := by rw [hd] at h; rw [getD_eq hlt]; exact (List.cons.inj h).1.symm
  have hxs : es = a.drop (t + 1) := by rw [hd] at h; exact (List.cons.inj h).2
  simp only [ref28_like_l0, List.length_cons, cnt]
  rw [hx]
  cases hp : ref23_SameCells x (b.getD t []) with
  | true => rw [cond_true, like_cnt a b es (n + 1) (t + 1) hxs]; simp; omega
  | false => rw [cond_false, like_cnt a b es n (t + 1) hxs]; simp
theorem gain_cnt (l : Lks) (s : Shf) (A B : Nat → Bool) (hA : ∀ q : Nat, (q : Int) ≤ s.bottom → shift_likes_is l (shift_source s (q : Int)) (q : Int) = A q) (hB : ∀ q : Nat, (q : Int) ≤ s.bottom → shift_likes_is l (q : Int) (q : Int) = B q) :
  ∀ (fu : Nat) (n : Int) (r m : Nat), (r : Int) + m = s.bottom + 1 → m < fu → shift_gain_l0 l s fu n (r : Int) = n + cnt A r m - cnt B r m
 | 0, n, r, m, hm, hf => by omega
 | fu + 1, n, r, 0, hm, hf => by
  simp only [shift_gain_l0]
  rw [decide_eq_false (by omega)]; simp [cnt]
 | fu + 1, n, r, m + 1, hm, hf => by
  simp only [shift_gain_l0]
  rw [decide_eq_true (by omega), cond_true, hA r (by omega), hB r (by omega)]
  have ih := fun n => gain_cnt l s A B hA hB fu n (r + 1) m (by omega) (by omega)
  simp only [cnt]
  rw [show ((r : Int) + 1) = ((r + 1 : Nat) : Int) by omega]
  cases A r <;> cases B r <;> simp only [Bool.not_true, Bool.not_false, Bool.and_true, Bool.and_false, Bool.and_self, cond_true, cond_false] <;> rw [ih] <;> simp <;> omega
theorem gain_ref {ac : Int} {ar : List (List Cel)} {acu : Plc} {av : Bool} {ash : Int} {at_ : List UInt8} {bc : Int} {br : List (List Cel)} {bcu : Plc} {bv_ : Bool} {bsh : Int} {bt_ : List UInt8} {s : Shf} (hf : frame_Check ac ar acu av ash at_ = 0) (hl : ar.length = br.length) (hs : shift_Check s (ar.length : Int) = 0) :
  ref28_Gain ac ar acu av ash at_ bc br bcu bv_ bsh bt_ s = shift_gain (shift_like ac ar acu av ash at_ bc br bcu bv_ bsh bt_) s := by
 have hk := shift_Check_ok hs
 obtain ⟨o, e, e', hol, hor⟩ := done_ref hf hs
 have h40 : ar.length ≤ 40 := by omega
 have hsrc : ∀ q : Nat, q < ar.length → shift_likes_is (shift_like ac ar acu av ash at_ bc br bcu bv_ bsh bt_) (shift_source s (q : Int)) (q : Int) = ref23_SameCells (o.getD q []) (br.getD q []) := fun q hq => by
  rw [is_row h40 (by omega) (by omega) (source_range hs hq), hor q hq, same_eq]; rfl
 have hself : ∀ q : Nat, q < ar.length → shift_likes_is (shift_like ac ar acu av ash at_ bc br bcu bv_ bsh bt_) (q : Int) (q : Int) = ref23_SameCells (ar.getD q []) (br.getD q []) := fun q hq => by
  rw [is_row h40 (by omega) (by omega) (by omega), if_pos (by omega), Int.toNat_natCast, same_eq]
 have hg : shift_gain (shift_like ac ar acu av ash at_ bc br bcu bv_ bsh bt_) s = 0 + cnt (fun q => ref23_SameCells (o.getD q []) (br.getD q [])) s.top.toNat (s.bottom + 1 - s.top).toNat - cnt (fun q => ref23_SameCells (ar.getD q []) (br.getD q [])) s.top.toNat (s.bottom + 1 - s.top).toNat := by
  unfold shift_gain
  have := gain_cnt (shift_like ac ar acu av ash at_ bc br bcu bv_ bsh bt_) s _ _ (fun q hq => hsrc q (by omega)) (fun q hq => hself q (by omega)) ((s.bottom + 1 - s.top).toNat + 1) 0 s.top.toNat (s.bottom + 1 - s.top).toNat (by omega) (by omega)
  rw [Int.toNat_of_nonneg hk.2.1.1] at this
  exact this
 have hlike : ∀ (x : List (List Cel)), x.length = ar.length → ref28_like_l0 br x 0 0 = cnt (fun q => ref23_SameCells (x.getD q []) (br.getD q [])) 0 s.top.toNat + cnt (fun q => ref23_SameCells (x.getD q []) (br.getD q [])) s.top.toNat (s.bottom + 1 - s.top).toNat + cnt (fun q => ref23_SameCells (x.getD q []) (br.getD q [])) (s.bottom + 1).toNat (ar.length - (s.bottom + 1).toNat) := fun x hx => by
  rw [like_cnt x br x 0 0 rfl, hx, show ar.length = s.top.toNat + ((s.bottom + 1 - s.top).toNat + (ar.length - (s.bottom + 1).toNat)) by omega, cnt_split, cnt_split]
  rw [show 0 + s.top.toNat + (s.bottom + 1 - s.top).toNat = (s.bottom + 1).toNat by omega, show 0 + s.top.toNat = s.top.toNat by omega, show (s.top.toNat + ((s.bottom + 1 - s.top).toNat + (ar.length - (s.bottom + 1).toNat))) - (s.bottom + 1).toNat = ar.length - (s.bottom + 1).toNat by omega]
  simp; omega
 have hout : ∀ q : Nat, q < ar.length → ((q : Int) < s.top ∨ s.bottom < (q : Int)) → o.getD q [] = ar.getD q [] := fun q hq h => by
  rw [hor q hq]; unfold shRow
  have hq : shift_source s (q : Int) = q := by rw [source_if, if_pos h]
  rw [hq, if_pos (by omega), Int.toNat_natCast]
 have c1 : cnt (fun q => ref23_SameCells (o.getD q []) (br.getD q [])) 0 s.top.toNat = cnt (fun q => ref23_SameCells (ar.getD q []) (br.getD q [])) 0 s.top.toNat := cnt_congr _ _ (fun q h1 h2 => by rw [hout q (by omega) (Or.inl (by omega))])
 have c2 : cnt (fun q => ref23_SameCells (o.getD q []) (br.getD q [])) (s.bottom + 1).toNat (ar.length - (s.bottom + 1).toNat) = cnt (fun q => ref23_SameCells (ar.getD q []) (br.getD q [])) (s.bottom + 1).toNat (ar.length - (s.bottom + 1).toNat) := cnt_congr _ _ (fun q h1 h2 => by rw [hout q (by omega) (Or.inr (by omega))])
 have key : ref28_like_l0 br o 0 0 - ref28_like_l0 br ar 0 0 = shift_gain (shift_like ac ar acu av ash at_ bc br bcu bv_ bsh bt_) s := by
  rw [hlike o hol, hlike ar rfl, hg, c1, c2]; omega
 have r1 := cnt_range (fun q => ref23_SameCells (o.getD q []) (br.getD q [])) (s.bottom + 1 - s.top).toNat s.top.toNat
 have r2 := cnt_range (fun q => ref23_SameCells (ar.getD q []) (br.getD q [])) (s.bottom + 1 - s.top).toNat s.top.toNat
 unfold ref28_Gain bindV
 rw [e']
 show IntKind.i64.wrap (ref28_like_l0 br o 0 0 - ref28_like_l0 br ar 0 0) = _
 rw [key]
 have hb : -40 ≤ shift_gain (shift_like ac ar acu av ash at_ bc br bcu bv_ bsh bt_) s ∧ shift_gain (shift_like ac ar acu av ash at_ bc br bcu bv_ bsh bt_) s ≤ 40 := by rw [hg]; omega
 generalize shift_gain (shift_like ac ar acu av ash at_ bc br bcu bv_ bsh bt_) s = G at hb ⊢
 exact wrap_in (by simp [IntKind.min, IntKind.signed, IntKind.bits]; omega) (by simp [IntKind.max, IntKind.signed, IntKind.bits]; omega)
end Go.Proofs.YtinkdfnpmoljfaaGreatDoor

