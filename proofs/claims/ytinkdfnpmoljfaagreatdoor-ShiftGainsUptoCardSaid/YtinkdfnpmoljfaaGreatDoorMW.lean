import Derived.Test.YtinkdfnpmoljfaaGreatDoorMV
set_option linter.unusedVariables false
set_option linter.unusedSimpArgs false
namespace Go.Proofs.YtinkdfnpmoljfaaGreatDoor
open Go Go.Fen
def gst (G : Shf → Int) (p : Shf × Int) (x : Shf) : Shf × Int := if p.2 < G x then (x, G x) else p
section
variable (ac : Int) (ar : List (List Cel)) (acu : Plc) (av : Bool) (ash : Int) (at_ : List UInt8) (bc : Int) (br : List (List Cel)) (bcu : Plc) (bv_ : Bool) (bsh : Int) (bt_ : List UInt8)
theorem r0_fold (G : Shf → Int) (hG : G = shift_gain (shift_like ac ar acu av ash at_ bc br bcu bv_ bsh bt_)) : ∀ (l : List Shf) (f : Hld) (p : Shf × Int), l.foldl (gst G) (f.shift, f.gain) = p → (p.1 = Shf.zero → shift_Best_r0 ac ar acu av ash at_ bc br bcu bv_ bsh bt_ l f = (Shf.zero, 0, 4)) ∧ (p.1 ≠ Shf.zero → shift_Best_r0 ac ar acu av ash at_ bc br bcu bv_ bsh bt_ l f = (p.1, p.2, 0))
 | [], f, p, h => by
  simp only [shift_Best_r0]
  have h' : (f.shift, f.gain) = p := h
  subst h'
  exact ⟨fun c => by rw [decide_eq_true c]; rfl, fun c => by rw [decide_eq_false c]; rfl⟩
 | x :: l, f, p, h => by
  simp only [shift_Best_r0, ← hG]
  have h' : l.foldl (gst G) (gst G (f.shift, f.gain) x) = p := h
  by_cases c : f.gain < G x
  ·rw [decide_eq_true c, cond_true]
   rw [show gst G (f.shift, f.gain) x = (x, G x) by unfold gst; rw [if_pos c]] at h'
   exact r0_fold G hG l _ p h'
  ·rw [decide_eq_false c, cond_false]
   rw [show gst G (f.shift, f.gain) x = (f.shift, f.gain) by unfold gst; rw [if_neg c]] at h'
   exact r0_fold G hG l f p h'
theorem fold_inv (G : Shf → Int) : ∀ (l : List Shf) (p : Shf × Int), (∀ x ∈ l, x ≠ Shf.zero) → (p.1 = Shf.zero ∧ p.2 = 0 ∨ p.1 ≠ Shf.zero ∧ 0 < p.2) → ((l.foldl (gst G) p).1 = Shf.zero ∧ (l.foldl (gst G) p).2 = 0 ∨ (l.foldl (gst G) p).1 ≠ Shf.zero ∧ 0 < (l.foldl (gst G) p).2)
 | [], p, _, h => h
 | x :: l, p, hz, h => by
  simp only [List.foldl_cons]
  refine fold_inv G l _ (fun y hy => hz y (List.mem_cons_of_mem _ hy)) ?_
  unfold gst; split
  ·exact Or.inr ⟨hz x (List.mem_cons_self ..), by simp only; omega⟩
  ·exact h
theorem b_j63 (G : Shf → Int) (top bottom k : Nat) (hg : ref28_Gain ac ar acu av ash at_ bc br bcu bv_ bsh bt_ { Shf.zero with top := (top : Int), bottom := (bottom : Int), amt := (-(k : Int)) } = G { Shf.zero with top := (top : Int), bottom := (bottom : Int), amt := (-(k : Int)) }) (ag : Int → Nat → Shf → (Shf × Int)) (p : Shf × Int) :
  ref28_Best_j63 ac ar acu av ash at_ bc br bcu bv_ bsh bt_ top bottom k ag p.2 p.1 = ag (gst G p { Shf.zero with top := (top : Int), bottom := (bottom : Int), amt := (-(k : Int)) }).2 (k + 1) (gst G p { Shf.zero with top := (top : Int), bottom := (bottom : Int), amt := (-(k : Int)) }).1 := by
 unfold ref28_Best_j63
 rw [hg]
 unfold gst
 by_cases c : p.2 < G { Shf.zero with top := (top : Int), bottom := (bottom : Int), amt := (-(k : Int)) }
 ·rw [decide_eq_true c, if_pos c]; rfl
 ·rw [decide_eq_false c, if_neg c]; rfl
theorem b_l20 (G : Shf → Int) (hG : ∀ s, shOk (ar.length : Int) s → ref28_Gain ac ar acu av ash at_ bc br bcu bv_ bsh bt_ s = G s) (top bottom : Nat) (hb : bottom < ar.length) (htb : top ≤ bottom) (agR : Int → Nat → Shf → (Shf × Int)) (agS : Nat → List Shf) (hag : ∀ m b, agR m (bottom + 1) b = (agS (bottom + 1)).foldl (gst G) (b, m)) :
  ∀ (fu fu' : Nat) (m : Int) (k : Nat) (b : Shf), 1 ≤ k → bottom - top + 1 - k < fu → bottom - top + 1 - k < fu' → ref28_Best_l20 ac ar acu av ash at_ bc br bcu bv_ bsh bt_ top bottom agR fu m k b = (shift_shifts_1_l12 top bottom agS fu' k).foldl (gst G) (b, m)
 | 0, fu', m, k, b, hk, h1, h2 => by omega
 | fu + 1, 0, m, k, b, hk, h1, h2 => by omega
 | fu + 1, fu' + 1, m, k, b, hk, h1, h2 => by
  simp only [ref28_Best_l20, shift_shifts_1_l12]
  by_cases c : (bottom : Int) - (top : Int) < (k : Int)
  ·rw [decide_eq_true c, decide_eq_false (by omega), cond_false, cond_true]; exact hag m b
  ·rw [decide_eq_false c, decide_eq_true (by omega), cond_false, cond_true]
   simp only [List.foldl_cons]
   have hu := hG { Shf.zero with top := (top : Int), bottom := (bottom : Int), amt := (k : Int) } (by unfold shOk; dsimp only; omega)
   have hd := hG { Shf.zero with top := (top : Int), bottom := (bottom : Int), amt := (-(k : Int)) } (by unfold shOk; dsimp only; omega)
   rw [hu]
   have hj := fun p => b_j63 ac ar acu av ash at_ bc br bcu bv_ bsh bt_ G top bottom k hd (ref28_Best_l20 ac ar acu av ash at_ bc br bcu bv_ bsh bt_ top bottom agR fu) p
   have e : (bif decide (m < G { Shf.zero with top := (top : Int), bottom := (bottom : Int), amt := (k : Int) }) then ref28_Best_j63 ac ar acu av ash at_ bc br bcu bv_ bsh bt_ top bottom k (ref28_Best_l20 ac ar acu av ash at_ bc br bcu bv_ bsh bt_ top bottom agR fu) (G { Shf.zero with top := (top : Int), bottom := (bottom : Int), amt := (k : Int) }) { Shf.zero with top := (top : Int), bottom := (bottom : Int), amt := (k : Int) } else ref28_Best_j63 ac ar acu av ash at_ bc br bcu bv_ bsh bt_ top bottom k (ref28_Best_l20 ac ar acu av ash at_ bc br bcu bv_ bsh bt_ top bottom agR fu) m b) = ref28_Best_j63 ac ar acu av ash at_ bc br bcu bv_ bsh bt_ top bottom k (ref28_Best_l20 ac ar acu av ash at_ bc br bcu bv_ bsh bt_ top bottom agR fu) (gst G (b, m) { Shf.zero with top := (top : Int), bottom := (bottom : Int), amt := (k : Int) }).2 (gst G (b, m) { Shf.zero with top := (top : Int), bottom := (bottom : Int), amt := (k : Int) }).1 := by
    unfold gst
    by_cases c : m < G { Shf.zero with top := (top : Int), bottom := (bottom : Int), amt := (k : Int) }
    ·rw [decide_eq_true c, if_pos c]; rfl
    ·rw [decide_eq_false c, if_neg c]; rfl
   rw [e, hj, b_l20 G hG top bottom hb htb agR agS hag fu fu' _ (k + 1) _ (by omega) (by omega) (by omega)]
theorem b_l19 (G : Shf → Int) (hG : ∀ s, shOk (ar.length : Int) s → ref28_Gain ac ar acu av ash at_ bc br bcu bv_ bsh bt_ s = G s) (top : Nat) (agR : Int → Nat → Shf → (Shf × Int)) (agS : Nat → List Shf) (hag : ∀ m b, agR m (top + 1) b = (agS (top + 1)).foldl (gst G) (b, m)) :
  ∀ (rs : List (List Cel)) (fu : Nat) (m : Int) (bottom : Nat) (b : Shf), rs = ar.drop bottom → top < bottom → ar.length - bottom < fu → ref28_Best_l19 ac ar acu av ash at_ bc br bcu bv_ bsh bt_ top agR rs m bottom b = (shift_shifts_1_l11 (ar.length : Int) top agS fu bottom).foldl (gst G) (b, m)
 | rs, 0, m, bottom, b, h, ht, hf => by omega
 | [], fu + 1, m, bottom, b, h, ht, hf => by
  have hl := congrArg List.length h; simp at hl
  simp only [ref28_Best_l19, shift_shifts_1_l11]
  rw [decide_eq_false (by omega), cond_false]; exact hag m b
 | x :: rs, fu + 1, m, bottom, b, h, ht, hf => by
  have hlt : bottom < ar.length := by
   by_cases hh : bottom < ar.length
   ·exact hh
   ·rw [List.drop_eq_nil_of_le (by omega)] at h; cases h
  have hd := List.drop_eq_getElem_cons hlt
  have hxs : rs = ar.drop (bottom + 1) := by rw [hd] at h; exact (List.cons.inj h).2
  simp only [ref28_Best_l19, shift_shifts_1_l11]
  rw [decide_eq_true (by omega), cond_true]
  exact b_l20 ac ar acu av ash at_ bc br bcu bv_ bsh bt_ G hG top bottom hlt (by omega) _ _ (fun m b => b_l19 G hG top agR agS hag rs fu m (bottom + 1) b hxs (by omega) (by omega)) _ _ m 1 b (Nat.le_refl _) (by omega) (by omega)
theorem b_l15 (G : Shf → Int) (hG : ∀ s, shOk (ar.length : Int) s → ref28_Gain ac ar acu av ash at_ bc br bcu bv_ bsh bt_ s = G s) :
  ∀ (rs : List (List Cel)) (fu : Nat) (m : Int) (top : Nat) (b : Shf), rs = ar.drop top → ar.length - top < fu → ref28_Best_l15 ac ar acu av ash at_ bc br bcu bv_ bsh bt_ rs m top b = (shift_shifts_1_l8 (ar.length : Int) fu top).foldl (gst G) (b, m)
 | rs, 0, m, top, b, h, hf => by omega
 | [], fu + 1, m, top, b, h, hf => by
  have hl := congrArg List.length h; simp at hl
  simp only [ref28_Best_l15, shift_shifts_1_l8]
  rw [decide_eq_false (by omega)]; rfl
 | x :: rs, fu + 1, m, top, b, h, hf => by
  have hlt : top < ar.length := by
   by_cases hh : top < ar.length
   ·exact hh
   ·rw [List.drop_eq_nil_of_le (by omega)] at h; cases h
  have hd := List.drop_eq_getElem_cons hlt
  have hxs : rs = ar.drop (top + 1) := by rw [hd] at h; exact (List.cons.inj h).2
  simp only [ref28_Best_l15, shift_shifts_1_l8]
  rw [decide_eq_true (by omega), cond_true, hd]
  simp only [ref28_Best_l19]
  have e : ∀ (ag : Int → Nat → Shf → (Shf × Int)) (f : Nat), ref28_Best_l20 ac ar acu av ash at_ bc br bcu bv_ bsh bt_ top top ag (f + 1) m 1 b = ag m (top + 1) b := fun ag f => by
   simp only [ref28_Best_l20]
   rw [decide_eq_false (by omega), cond_false]
  rw [e]
  exact b_l19 ac ar acu av ash at_ bc br bcu bv_ bsh bt_ G hG top _ _ (fun m b => b_l15 G hG rs fu m (top + 1) b hxs (by omega)) _ _ m (top + 1) b rfl (by omega) (by omega)
theorem gains_j1 (hf : frame_Check ac ar acu av ash at_ = 0) (hl : ar.length = br.length) (h0 : shift_sized ac ar acu av ash at_ bc br bcu bv_ bsh bt_ = 0) : law28_ShiftGains_j1 ac ar acu av ash at_ bc br bcu bv_ bsh bt_ (shift_Best ac ar acu av ash at_ bc br bcu bv_ bsh bt_) = true := by
 have hfc := frame_Check_ok hf
 have hb : shift_Best ac ar acu av ash at_ bc br bcu bv_ bsh bt_ = shift_Best_r0 ac ar acu av ash at_ bc br bcu bv_ bsh bt_ (shift_shifts_1 (shift_shifts (ar.length : Int))) Hld.zero := by unfold shift_Best; rw [h0]; rfl
 have hnz : ∀ x ∈ shift_shifts_1 (shift_shifts (ar.length : Int)), x ≠ Shf.zero := fun x hx e => by
  have := best_in _ x hx; rw [e] at this; exact this.2.2.2.1 rfl
 rw [hb]
 have hr0 := r0_fold ac ar acu av ash at_ bc br bcu bv_ bsh bt_ _ rfl (shift_shifts_1 (shift_shifts (ar.length : Int))) Hld.zero _ rfl
 have hinv := fold_inv (shift_gain (shift_like ac ar acu av ash at_ bc br bcu bv_ bsh bt_)) _ (Shf.zero, 0) hnz (Or.inl ⟨rfl, rfl⟩)
 have href : ref28_Best ac ar acu av ash at_ bc br bcu bv_ bsh bt_ = (shift_shifts_1 (shift_shifts (ar.length : Int))).foldl (gst (shift_gain (shift_like ac ar acu av ash at_ bc br bcu bv_ bsh bt_))) (Shf.zero, 0) :=
  b_l15 ac ar acu av ash at_ bc br bcu bv_ bsh bt_ _ (fun s hs => gain_ref hf hl (check_of_ok (by omega) (by omega) hs)) ar _ 0 0 Shf.zero rfl (by show ar.length - 0 < ((ar.length : Int) - 0).toNat + 1; omega)
 unfold law28_ShiftGains_j1 bindV
 rw [href]
 have hz : (Hld.zero.shift, Hld.zero.gain) = (Shf.zero, (0 : Int)) := rfl
 rw [hz] at hr0
 generalize (shift_shifts_1 (shift_shifts (ar.length : Int))).foldl (gst (shift_gain (shift_like ac ar acu av ash at_ bc br bcu bv_ bsh bt_))) (Shf.zero, 0) = p at hinv hr0 ⊢
 rcases hinv with hi | hi
 ·rw [hr0.1 hi.1]
  simp only
  rw [decide_eq_true hi.2]
  cases decide ((9 : Int) < (ar.length : Int)) <;> rfl
 ·rw [hr0.2 hi.1]
  simp only
  rw [decide_eq_true hi.2, decide_eq_false (by omega : ¬ p.2 = 0)]
  cases decide ((9 : Int) < (ar.length : Int)) <;> simp
theorem shiftGains_law (s : Shf) (ha : ∀ r ∈ ar, ∀ x ∈ r, aIn x) (hb : ∀ r ∈ br, ∀ x ∈ r, aIn x) : law28_ShiftGains ac ar acu av ash at_ bc br bcu bv_ bsh bt_ s = true := by
 unfold law28_ShiftGains
 rw [wakes_true]
 simp only [Bool.not_true, cond_false, bindV]
 have hra := frame_right (cu := acu) (v := av) (sh := ash) (ti := at_) (c := ac) ha
 have hrb := frame_right (cu := bcu) (v := bv_) (sh := bsh) (ti := bt_) (c := bc) hb
 have hsz := sized_eq ac ar acu av ash at_ bc br bcu bv_ bsh bt_
 have hbad : ∀ w : Nat, w ≠ 0 → shift_sized ac ar acu av ash at_ bc br bcu bv_ bsh bt_ = (w : Int) → law28_ShiftGains_j0 ac ar acu av ash at_ bc br bcu bv_ bsh bt_ s (shift_Gain ac ar acu av ash at_ bc br bcu bv_ bsh bt_ s) (shift_Best ac ar acu av ash at_ bc br bcu bv_ bsh bt_) w = true := fun w hw h => by
  unfold law28_ShiftGains_j0 shift_Gain shift_Best
  rw [h, decide_eq_false (by omega : ¬ (w : Int) = 0)]
  simp
 by_cases h1 : ref23_Right ac ar acu av ash at_ = true ∧ ref23_Right bc br bcu bv_ bsh bt_ = true
 ·rw [h1.1, h1.2]
  simp only [Bool.not_true, Bool.or_self, cond_false]
  have hf := hra.2 h1.1
  have hf2 := hrb.2 h1.2
  by_cases h2 : ac = bc ∧ ar.length = br.length
  ·have h0 : shift_sized ac ar acu av ash at_ bc br bcu bv_ bsh bt_ = 0 := by
    rw [hsz]; unfold damage_checked; rw [hf, hf2, decide_eq_true h2.1, decide_eq_true (by omega : (ar.length : Int) = (br.length : Int))]; rfl
   rw [show ref24_Sizes ac ar acu av ash at_ bc br bcu bv_ bsh bt_ = true by unfold ref24_Sizes; rw [decide_eq_true h2.1, decide_eq_true (by omega : (ar.length : Int) = (br.length : Int))]; rfl]
   simp only [Bool.not_true, cond_false]
   have hj := gains_j1 ac ar acu av ash at_ bc br bcu bv_ bsh bt_ hf h2.2 h0
   unfold law28_ShiftGains_j0
   rw [hj]
   rcases check_val s (ar.length : Int) with hs | hs
   ·rw [(is_check s _).2 hs]
    unfold shift_Gain
    rw [h0, hs, gain_ref hf h2.2 hs]
    simp
   ·rw [show ref28_Is s (ar.length : Int) = false by rw [← Bool.not_eq_true, is_check]; omega]
    unfold shift_Gain
    rw [h0, hs]; rfl
  ·have h0 : shift_sized ac ar acu av ash at_ bc br bcu bv_ bsh bt_ = ((2 : Nat) : Int) := by
    rw [hsz]; unfold damage_checked; rw [hf, hf2, show ((!decide (ac = bc)) || (!decide ((ar.length : Int) = (br.length : Int)))) = true by
     by_cases c : ac = bc
     ·rw [decide_eq_false (fun h => h2 ⟨c, by omega⟩ : ¬ (ar.length : Int) = (br.length : Int))]; simp
     ·rw [decide_eq_false c]; rfl]
    rfl
   rw [show ref24_Sizes ac ar acu av ash at_ bc br bcu bv_ bsh bt_ = false by
    unfold ref24_Sizes
    by_cases c : ac = bc
    ·rw [decide_eq_false (fun h => h2 ⟨c, by omega⟩ : ¬ (ar.length : Int) = (br.length : Int))]; simp
    ·rw [decide_eq_false c]; rfl]
   simp only [Bool.not_false, cond_true]
   exact hbad 2 (by decide) h0
 ·have h0 : shift_sized ac ar acu av ash at_ bc br bcu bv_ bsh bt_ = ((330 : Nat) : Int) := by
   rw [hsz]; unfold damage_checked
   rcases frame_val ac ar acu av ash at_ with hf | hf
   ·rcases frame_val bc br bcu bv_ bsh bt_ with hf2 | hf2
    ·exact absurd ⟨hra.1 hf, hrb.1 hf2⟩ h1
    ·rw [hf, hf2]; rfl
   ·rw [hf]; rfl
  rw [show ((!ref23_Right ac ar acu av ash at_) || (!ref23_Right bc br bcu bv_ bsh bt_)) = true by
   cases c1 : ref23_Right ac ar acu av ash at_ <;> cases c2 : ref23_Right bc br bcu bv_ bsh bt_ <;> simp_all, cond_true]
  exact hbad 330 (by decide) h0
end
end Go.Proofs.YtinkdfnpmoljfaaGreatDoor

