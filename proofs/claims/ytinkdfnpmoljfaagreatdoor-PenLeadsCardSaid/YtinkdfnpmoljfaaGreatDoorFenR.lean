import Derived.Test.YtinkdfnpmoljfaaGreatDoorFenQ
set_option linter.unusedVariables false
set_option linter.unusedSimpArgs false
namespace Go.Fen
open Go Go.RowKit
theorem bt {ρ : Type} {c : Bool} {a b R : ρ} (h : (bif c then a else b) = R) (hc : c = true) : a = R := by rw [hc] at h; exact h
theorem bf {ρ : Type} {c : Bool} {a b R : ρ} (h : (bif c then a else b) = R) (hc : c = false) : b = R := by rw [hc] at h; exact h
theorem gd {α : Type} {xs : List α} {k : Nat} (d : α) (h : k < xs.length) : xs[k]? = some (xs.getD k d) := by
 rw [List.getElem?_eq_getElem h]; simp [h]
theorem dropc {α : Type} {xs : List α} {k : Nat} (d : α) (h : k < xs.length) : xs.drop k = xs.getD k d :: xs.drop (k + 1) := by
 rw [List.drop_eq_getElem_cons h]; congr 1; simp [h]
theorem dropn {α : Type} {xs : List α} {k : Nat} (h : ¬ ((k : Int) < (xs.length : Int))) : xs.drop k = [] := List.drop_eq_nil_of_le (by omega)
section
variable {P : Program} {n : Nat} {X : Cx} {K : Act → World → Prop} {Q : Exit → Act → World → Prop} {E E' : Env} {L L' : Own} {Φ Φ' : List Pers}
theorem J_seqj {x y : Code} {β : Type} (I : β → Prop) (Ei : β → Env) (Li : β → Own) (Φi : β → List Pers)
  (hx : J P n X x (Exit.then (fun a w => ∃ y, I y ∧ St n X (Ei y) (Li y) (Φi y) a w) Q) E L Φ) (hy : ∀ z, I z → J P n X y Q (Ei z) (Li z) (Φi z)) : J P n X (.seq x y) Q E L Φ :=
 fun a w hs => wpIn_seq (Code.wpIn_mono (fun e a w q => by
  cases e with
  | normal => obtain ⟨z, h1, h2⟩ := q; exact hy z h1 a w h2
  | _ => exact q) (hx a w hs))
theorem JL1 {c : Code} {β1 : Type} (I : β1 → Prop) (Ei : β1 → Env) (Li : β1 → Own) (Φi : β1 → List Pers) (μ : β1 → Nat) (x1 : β1) (hI : I x1) (hE : sameAll E (Ei x1)) (hL : (Li x1).Sublist L) (hΦ : Foll Φ (Φi x1))
  (h : ∀ x1, I x1 → J P n X c (Exit.then (fun a w => ∃ y1, I y1 ∧ μ y1 < μ x1 ∧ St n X (Ei y1) (Li y1) (Φi y1) a w) Q) (Ei x1) (Li x1) (Φi x1)) : J P n X (.loop c) Q E L Φ :=
 J_loop (β := β1) (fun x => I x) (fun x => Ei x) (fun x => Li x) (fun x => Φi x) (fun x => μ x) x1 hI hE hL hΦ fun x hx a w hs => Code.wpIn_mono (fun e a w q => by
  cases e with
  | normal => obtain ⟨y1, h1, h2, h3⟩ := q; exact ⟨y1, h1, h2, h3⟩
  | _ => exact q) (h x hx a w hs)
theorem againL1 {β1 : Type} {I : β1 → Prop} {Ei : β1 → Env} {Li : β1 → Own} {Φi : β1 → List Pers} {μ : β1 → Nat} {z1 : β1} (y1 : β1) (hI : I y1) (hμ : μ y1 < μ z1) (hE : sameAll E (Ei y1)) (hL : (Li y1).Sublist L) (hΦ : Foll Φ (Φi y1)) :
  JQ n X (fun a w => ∃ x1, I x1 ∧ μ x1 < μ z1 ∧ St n X (Ei x1) (Li x1) (Φi x1) a w) E L Φ :=
 fun _ _ hs => ⟨y1, hI, hμ, hs.size, hs.defers, hs.has.weaken (sameAll_spec hE), (hs.world.sub hL).foll hΦ⟩
theorem JL2 {c : Code} {β1 β2 : Type} (I : β1 → β2 → Prop) (Ei : β1 → β2 → Env) (Li : β1 → β2 → Own) (Φi : β1 → β2 → List Pers) (μ : β1 → β2 → Nat) (x1 : β1) (x2 : β2) (hI : I x1 x2) (hE : sameAll E (Ei x1 x2)) (hL : (Li x1 x2).Sublist L) (hΦ : Foll Φ (Φi x1 x2))
  (h : ∀ x1 x2, I x1 x2 → J P n X c (Exit.then (fun a w => ∃ y1 y2, I y1 y2 ∧ μ y1 y2 < μ x1 x2 ∧ St n X (Ei y1 y2) (Li y1 y2) (Φi y1 y2) a w) Q) (Ei x1 x2) (Li x1 x2) (Φi x1 x2)) : J P n X (.loop c) Q E L Φ :=
 J_loop (β := β1 × β2) (fun x => I x.1 x.2) (fun x => Ei x.1 x.2) (fun x => Li x.1 x.2) (fun x => Φi x.1 x.2) (fun x => μ x.1 x.2) (x1, x2) hI hE hL hΦ fun x hx a w hs => Code.wpIn_mono (fun e a w q => by
  cases e with
  | normal => obtain ⟨y1, y2, h1, h2, h3⟩ := q; exact ⟨(y1, y2), h1, h2, h3⟩
  | _ => exact q) (h x.1 x.2 hx a w hs)
theorem againL2 {β1 β2 : Type} {I : β1 → β2 → Prop} {Ei : β1 → β2 → Env} {Li : β1 → β2 → Own} {Φi : β1 → β2 → List Pers} {μ : β1 → β2 → Nat} {z1 : β1} {z2 : β2} (y1 : β1) (y2 : β2) (hI : I y1 y2) (hμ : μ y1 y2 < μ z1 z2) (hE : sameAll E (Ei y1 y2)) (hL : (Li y1 y2).Sublist L) (hΦ : Foll Φ (Φi y1 y2)) :
  JQ n X (fun a w => ∃ x1 x2, I x1 x2 ∧ μ x1 x2 < μ z1 z2 ∧ St n X (Ei x1 x2) (Li x1 x2) (Φi x1 x2) a w) E L Φ :=
 fun _ _ hs => ⟨y1, y2, hI, hμ, hs.size, hs.defers, hs.has.weaken (sameAll_spec hE), (hs.world.sub hL).foll hΦ⟩
theorem JS2 {x y : Code} {β1 β2 : Type} (I : β1 → β2 → Prop) (Ei : β1 → β2 → Env) (Li : β1 → β2 → Own) (Φi : β1 → β2 → List Pers)
  (hx : J P n X x (Exit.then (fun a w => ∃ y1 y2, I y1 y2 ∧ St n X (Ei y1 y2) (Li y1 y2) (Φi y1 y2) a w) Q) E L Φ) (hy : ∀ x1 x2, I x1 x2 → J P n X y Q (Ei x1 x2) (Li x1 x2) (Φi x1 x2)) : J P n X (.seq x y) Q E L Φ :=
 J_seqj (β := β1 × β2) (fun x => I x.1 x.2) (fun x => Ei x.1 x.2) (fun x => Li x.1 x.2) (fun x => Φi x.1 x.2) (fun a w hs => Code.wpIn_mono (fun e a w q => by
  cases e with
  | normal => obtain ⟨y1, y2, h1, h2⟩ := q; exact ⟨(y1, y2), h1, h2⟩
  | _ => exact q) (hx a w hs)) fun x hI => hy x.1 x.2 hI
theorem meet2 {β1 β2 : Type} {I : β1 → β2 → Prop} {Ei : β1 → β2 → Env} {Li : β1 → β2 → Own} {Φi : β1 → β2 → List Pers} (y1 : β1) (y2 : β2) (hI : I y1 y2) (hE : sameAll E (Ei y1 y2)) (hL : (Li y1 y2).Sublist L) (hΦ : Foll Φ (Φi y1 y2)) :
  JQ n X (fun a w => ∃ x1 x2, I x1 x2 ∧ St n X (Ei x1 x2) (Li x1 x2) (Φi x1 x2) a w) E L Φ :=
 fun _ _ hs => ⟨y1, y2, hI, hs.size, hs.defers, hs.has.weaken (sameAll_spec hE), (hs.world.sub hL).foll hΦ⟩
theorem JS3 {x y : Code} {β1 β2 β3 : Type} (I : β1 → β2 → β3 → Prop) (Ei : β1 → β2 → β3 → Env) (Li : β1 → β2 → β3 → Own) (Φi : β1 → β2 → β3 → List Pers)
  (hx : J P n X x (Exit.then (fun a w => ∃ y1 y2 y3, I y1 y2 y3 ∧ St n X (Ei y1 y2 y3) (Li y1 y2 y3) (Φi y1 y2 y3) a w) Q) E L Φ) (hy : ∀ x1 x2 x3, I x1 x2 x3 → J P n X y Q (Ei x1 x2 x3) (Li x1 x2 x3) (Φi x1 x2 x3)) : J P n X (.seq x y) Q E L Φ :=
 J_seqj (β := β1 × β2 × β3) (fun x => I x.1 x.2.1 x.2.2) (fun x => Ei x.1 x.2.1 x.2.2) (fun x => Li x.1 x.2.1 x.2.2) (fun x => Φi x.1 x.2.1 x.2.2) (fun a w hs => Code.wpIn_mono (fun e a w q => by
  cases e with
  | normal => obtain ⟨y1, y2, y3, h1, h2⟩ := q; exact ⟨(y1, y2, y3), h1, h2⟩
  | _ => exact q) (hx a w hs)) fun x hI => hy x.1 x.2.1 x.2.2 hI
theorem meet3 {β1 β2 β3 : Type} {I : β1 → β2 → β3 → Prop} {Ei : β1 → β2 → β3 → Env} {Li : β1 → β2 → β3 → Own} {Φi : β1 → β2 → β3 → List Pers} (y1 : β1) (y2 : β2) (y3 : β3) (hI : I y1 y2 y3) (hE : sameAll E (Ei y1 y2 y3)) (hL : (Li y1 y2 y3).Sublist L) (hΦ : Foll Φ (Φi y1 y2 y3)) :
  JQ n X (fun a w => ∃ x1 x2 x3, I x1 x2 x3 ∧ St n X (Ei x1 x2 x3) (Li x1 x2 x3) (Φi x1 x2 x3) a w) E L Φ :=
 fun _ _ hs => ⟨y1, y2, y3, hI, hs.size, hs.defers, hs.has.weaken (sameAll_spec hE), (hs.world.sub hL).foll hΦ⟩
theorem JL4 {c : Code} {β1 β2 β3 β4 : Type} (I : β1 → β2 → β3 → β4 → Prop) (Ei : β1 → β2 → β3 → β4 → Env) (Li : β1 → β2 → β3 → β4 → Own) (Φi : β1 → β2 → β3 → β4 → List Pers) (μ : β1 → β2 → β3 → β4 → Nat) (x1 : β1) (x2 : β2) (x3 : β3) (x4 : β4) (hI : I x1 x2 x3 x4) (hE : sameAll E (Ei x1 x2 x3 x4)) (hL : (Li x1 x2 x3 x4).Sublist L) (hΦ : Foll Φ (Φi x1 x2 x3 x4))
  (h : ∀ x1 x2 x3 x4, I x1 x2 x3 x4 → J P n X c (Exit.then (fun a w => ∃ y1 y2 y3 y4, I y1 y2 y3 y4 ∧ μ y1 y2 y3 y4 < μ x1 x2 x3 x4 ∧ St n X (Ei y1 y2 y3 y4) (Li y1 y2 y3 y4) (Φi y1 y2 y3 y4) a w) Q) (Ei x1 x2 x3 x4) (Li x1 x2 x3 x4) (Φi x1 x2 x3 x4)) : J P n X (.loop c) Q E L Φ :=
 J_loop (β := β1 × β2 × β3 × β4) (fun x => I x.1 x.2.1 x.2.2.1 x.2.2.2) (fun x => Ei x.1 x.2.1 x.2.2.1 x.2.2.2) (fun x => Li x.1 x.2.1 x.2.2.1 x.2.2.2) (fun x => Φi x.1 x.2.1 x.2.2.1 x.2.2.2) (fun x => μ x.1 x.2.1 x.2.2.1 x.2.2.2) (x1, x2, x3, x4) hI hE hL hΦ fun x hx a w hs => Code.wpIn_mono (fun e a w q => by
  cases e with
  | normal => obtain ⟨y1, y2, y3, y4, h1, h2, h3⟩ := q; exact ⟨(y1, y2, y3, y4), h1, h2, h3⟩
  | _ => exact q) (h x.1 x.2.1 x.2.2.1 x.2.2.2 hx a w hs)
theorem againL4 {β1 β2 β3 β4 : Type} {I : β1 → β2 → β3 → β4 → Prop} {Ei : β1 → β2 → β3 → β4 → Env} {Li : β1 → β2 → β3 → β4 → Own} {Φi : β1 → β2 → β3 → β4 → List Pers} {μ : β1 → β2 → β3 → β4 → Nat} {z1 : β1} {z2 : β2} {z3 : β3} {z4 : β4} (y1 : β1) (y2 : β2) (y3 : β3) (y4 : β4) (hI : I y1 y2 y3 y4) (hμ : μ y1 y2 y3 y4 < μ z1 z2 z3 z4) (hE : sameAll E (Ei y1 y2 y3 y4)) (hL : (Li y1 y2 y3 y4).Sublist L) (hΦ : Foll Φ (Φi y1 y2 y3 y4)) :
  JQ n X (fun a w => ∃ x1 x2 x3 x4, I x1 x2 x3 x4 ∧ μ x1 x2 x3 x4 < μ z1 z2 z3 z4 ∧ St n X (Ei x1 x2 x3 x4) (Li x1 x2 x3 x4) (Φi x1 x2 x3 x4) a w) E L Φ :=
 fun _ _ hs => ⟨y1, y2, y3, y4, hI, hμ, hs.size, hs.defers, hs.has.weaken (sameAll_spec hE), (hs.world.sub hL).foll hΦ⟩
theorem JS4 {x y : Code} {β1 β2 β3 β4 : Type} (I : β1 → β2 → β3 → β4 → Prop) (Ei : β1 → β2 → β3 → β4 → Env) (Li : β1 → β2 → β3 → β4 → Own) (Φi : β1 → β2 → β3 → β4 → List Pers)
  (hx : J P n X x (Exit.then (fun a w => ∃ y1 y2 y3 y4, I y1 y2 y3 y4 ∧ St n X (Ei y1 y2 y3 y4) (Li y1 y2 y3 y4) (Φi y1 y2 y3 y4) a w) Q) E L Φ) (hy : ∀ x1 x2 x3 x4, I x1 x2 x3 x4 → J P n X y Q (Ei x1 x2 x3 x4) (Li x1 x2 x3 x4) (Φi x1 x2 x3 x4)) : J P n X (.seq x y) Q E L Φ :=
 J_seqj (β := β1 × β2 × β3 × β4) (fun x => I x.1 x.2.1 x.2.2.1 x.2.2.2) (fun x => Ei x.1 x.2.1 x.2.2.1 x.2.2.2) (fun x => Li x.1 x.2.1 x.2.2.1 x.2.2.2) (fun x => Φi x.1 x.2.1 x.2.2.1 x.2.2.2) (fun a w hs => Code.wpIn_mono (fun e a w q => by
  cases e with
  | normal => obtain ⟨y1, y2, y3, y4, h1, h2⟩ := q; exact ⟨(y1, y2, y3, y4), h1, h2⟩
  | _ => exact q) (hx a w hs)) fun x hI => hy x.1 x.2.1 x.2.2.1 x.2.2.2 hI
theorem meet4 {β1 β2 β3 β4 : Type} {I : β1 → β2 → β3 → β4 → Prop} {Ei : β1 → β2 → β3 → β4 → Env} {Li : β1 → β2 → β3 → β4 → Own} {Φi : β1 → β2 → β3 → β4 → List Pers} (y1 : β1) (y2 : β2) (y3 : β3) (y4 : β4) (hI : I y1 y2 y3 y4) (hE : sameAll E (Ei y1 y2 y3 y4)) (hL : (Li y1 y2 y3 y4).Sublist L) (hΦ : Foll Φ (Φi y1 y2 y3 y4)) :
  JQ n X (fun a w => ∃ x1 x2 x3 x4, I x1 x2 x3 x4 ∧ St n X (Ei x1 x2 x3 x4) (Li x1 x2 x3 x4) (Φi x1 x2 x3 x4) a w) E L Φ :=
 fun _ _ hs => ⟨y1, y2, y3, y4, hI, hs.size, hs.defers, hs.has.weaken (sameAll_spec hE), (hs.world.sub hL).foll hΦ⟩
theorem JL5 {c : Code} {β1 β2 β3 β4 β5 : Type} (I : β1 → β2 → β3 → β4 → β5 → Prop) (Ei : β1 → β2 → β3 → β4 → β5 → Env) (Li : β1 → β2 → β3 → β4 → β5 → Own) (Φi : β1 → β2 → β3 → β4 → β5 → List Pers) (μ : β1 → β2 → β3 → β4 → β5 → Nat) (x1 : β1) (x2 : β2) (x3 : β3) (x4 : β4) (x5 : β5) (hI : I x1 x2 x3 x4 x5) (hE : sameAll E (Ei x1 x2 x3 x4 x5)) (hL : (Li x1 x2 x3 x4 x5).Sublist L) (hΦ : Foll Φ (Φi x1 x2 x3 x4 x5))
  (h : ∀ x1 x2 x3 x4 x5, I x1 x2 x3 x4 x5 → J P n X c (Exit.then (fun a w => ∃ y1 y2 y3 y4 y5, I y1 y2 y3 y4 y5 ∧ μ y1 y2 y3 y4 y5 < μ x1 x2 x3 x4 x5 ∧ St n X (Ei y1 y2 y3 y4 y5) (Li y1 y2 y3 y4 y5) (Φi y1 y2 y3 y4 y5) a w) Q) (Ei x1 x2 x3 x4 x5) (Li x1 x2 x3 x4 x5) (Φi x1 x2 x3 x4 x5)) : J P n X (.loop c) Q E L Φ :=
 J_loop (β := β1 × β2 × β3 × β4 × β5) (fun x => I x.1 x.2.1 x.2.2.1 x.2.2.2.1 x.2.2.2.2) (fun x => Ei x.1 x.2.1 x.2.2.1 x.2.2.2.1 x.2.2.2.2) (fun x => Li x.1 x.2.1 x.2.2.1 x.2.2.2.1 x.2.2.2.2) (fun x => Φi x.1 x.2.1 x.2.2.1 x.2.2.2.1 x.2.2.2.2) (fun x => μ x.1 x.2.1 x.2.2.1 x.2.2.2.1 x.2.2.2.2) (x1, x2, x3, x4, x5) hI hE hL hΦ fun x hx a w hs => Code.wpIn_mono (fun e a w q => by
  cases e with
  | normal => obtain ⟨y1, y2, y3, y4, y5, h1, h2, h3⟩ := q; exact ⟨(y1, y2, y3, y4, y5), h1, h2, h3⟩
  | _ => exact q) (h x.1 x.2.1 x.2.2.1 x.2.2.2.1 x.2.2.2.2 hx a w hs)
theorem againL5 {β1 β2 β3 β4 β5 : Type} {I : β1 → β2 → β3 → β4 → β5 → Prop} {Ei : β1 → β2 → β3 → β4 → β5 → Env} {Li : β1 → β2 → β3 → β4 → β5 → Own} {Φi : β1 → β2 → β3 → β4 → β5 → List Pers} {μ : β1 → β2 → β3 → β4 → β5 → Nat} {z1 : β1} {z2 : β2} {z3 : β3} {z4 : β4} {z5 : β5} (y1 : β1) (y2 : β2) (y3 : β3) (y4 : β4) (y5 : β5) (hI : I y1 y2 y3 y4 y5) (hμ : μ y1 y2 y3 y4 y5 < μ z1 z2 z3 z4 z5) (hE : sameAll E (Ei y1 y2 y3 y4 y5)) (hL : (Li y1 y2 y3 y4 y5).Sublist L) (hΦ : Foll Φ (Φi y1 y2 y3 y4 y5)) :
  JQ n X (fun a w => ∃ x1 x2 x3 x4 x5, I x1 x2 x3 x4 x5 ∧ μ x1 x2 x3 x4 x5 < μ z1 z2 z3 z4 z5 ∧ St n X (Ei x1 x2 x3 x4 x5) (Li x1 x2 x3 x4 x5) (Φi x1 x2 x3 x4 x5) a w) E L Φ :=
 fun _ _ hs => ⟨y1, y2, y3, y4, y5, hI, hμ, hs.size, hs.defers, hs.has.weaken (sameAll_spec hE), (hs.world.sub hL).foll hΦ⟩
end
end Go.Fen

