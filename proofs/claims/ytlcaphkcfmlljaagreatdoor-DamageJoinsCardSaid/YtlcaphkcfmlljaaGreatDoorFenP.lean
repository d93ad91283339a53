import Derived.Test.YtlcaphkcfmlljaaGreatDoorFenO
set_option linter.unusedVariables false
set_option linter.unusedSimpArgs false
namespace Go.Fen
open Go Go.RowKit
set_option linter.unusedSimpArgs false
set_option linter.unusedVariables false
section
variable {P : Program} {n : Nat} {X : Cx} {K : Act → World → Prop} {Q : Exit → Act → World → Prop} {E E' : Env} {L L' : Own} {Φ Φ' : List Pers}
/-! ### Loops whose bodies hold loops over functions: each round leaves a mark -/
def MarksOk (ds : List (Nat × Obj)) : Prop := (ds.map Prod.fst).Nodup ∧ ∀ d ∈ ds, d.2 = .deferred (some [])
theorem MarksOk.nil : MarksOk [] := ⟨List.nodup_nil, fun d hd => by cases hd⟩
theorem MarksOk.cons {d : Nat} {ds : List (Nat × Obj)} (h : MarksOk ds) (hd : d ∉ ds.map Prod.fst) : MarksOk ((d, .deferred (some [])) :: ds) :=
  ⟨by rw [List.map_cons, List.nodup_cons]; exact ⟨hd, h.1⟩, fun e he => by
    rcases List.mem_cons.1 he with rfl | he
    · rfl
    · exact h.2 e he⟩
theorem J_loopD {c : Code} {β : Type} (I : β → Prop) (Ei : β → Env) (Li : β → Own) (Φi : β → List Pers) (μ : β → Nat) (x0 : β) (hG : MarksOk X.D) (hI : I x0) (hE : sameAll E (Ei x0)) (hL : (Li x0).Sublist L) (hΦ : Foll Φ (Φi x0))
    (h : ∀ x ds, MarksOk ds → I x → J P n (X.wd ds) c (Exit.then (fun a w => ∃ y ds, MarksOk ds ∧ I y ∧ μ y < μ x ∧ St n (X.wd ds) (Ei y) (Li y) (Φi y) a w) Q) (Ei x) (Li x) (Φi x)) : J P n X (.loop c) Q E L Φ := by
  intro a w hs
  refine wpIn_loop_ghost (fun k a w => ∃ x ds, MarksOk ds ∧ I x ∧ μ x = k ∧ St n (X.wd ds) (Ei x) (Li x) (Φi x) a w) (μ x0) ⟨x0, X.D, hG, hI, rfl, hs.size, hs.defers, hs.has.weaken (sameAll_spec hE), (hs.world.sub hL).foll hΦ⟩ ?_
  rintro k a w ⟨x, ds, hds, hx, rfl, hst⟩
  refine Code.wpIn_mono (fun e a w q => ?_) (h x ds hds hx a w hst)
  cases e with
  | normal => obtain ⟨y, ds', hds', hIy, hy, hs'⟩ := q; exact ⟨μ y, hy, y, ds', hds', hIy, rfl, hs'⟩
  | _ => exact q
theorem J_loopD1 {c : Code} {β : Type} (I : β → Prop) (Ei : β → Env) (Li : β → Own) (Φi : β → List Pers) (μ : β → Nat) (x0 : β) (hG : MarksOk X.D) (hI : I x0) (hE : sameAll E (Ei x0)) (hL : (Li x0).Sublist L) (hΦ : Foll Φ (Φi x0))
    (h : ∀ x ds, MarksOk ds → I x → J P n (X.wd ds) c (Exit.then (fun a w => ∃ y ds, MarksOk ds ∧ I y ∧ μ y < μ x ∧ St n (X.wd ds) (Ei y) (Li y) (Φi y) a w) Q) (Ei x) (Li x) (Φi x)) : J P n X (.loop c) Q E L Φ := J_loopD I Ei Li Φi μ x0 hG hI hE hL hΦ h
theorem J_loopD2 {c : Code} {β γ : Type} (I : β → γ → Prop) (Ei : β → γ → Env) (Li : β → γ → Own) (Φi : β → γ → List Pers) (μ : β → γ → Nat) (x0 : β) (y0 : γ) (hG : MarksOk X.D) (hI : I x0 y0) (hE : sameAll E (Ei x0 y0)) (hL : (Li x0 y0).Sublist L) (hΦ : Foll Φ (Φi x0 y0))
    (h : ∀ x y ds, MarksOk ds → I x y → J P n (X.wd ds) c (Exit.then (fun a w => ∃ x' y' ds, MarksOk ds ∧ I x' y' ∧ μ x' y' < μ x y ∧ St n (X.wd ds) (Ei x' y') (Li x' y') (Φi x' y') a w) Q) (Ei x y) (Li x y) (Φi x y)) : J P n X (.loop c) Q E L Φ :=
  J_loopD (β := β × γ) (fun x => I x.1 x.2) (fun x => Ei x.1 x.2) (fun x => Li x.1 x.2) (fun x => Φi x.1 x.2) (fun x => μ x.1 x.2) (x0, y0) hG hI hE hL hΦ fun x ds hds hx a w hs => Code.wpIn_mono (fun e a w q => by
    cases e with
    | normal => obtain ⟨x', y', ds', h0, h1, h2, h3⟩ := q; exact ⟨(x', y'), ds', h0, h1, h2, h3⟩
    | _ => exact q) (h x.1 x.2 ds hds hx a w hs)
theorem J_loopD3 {c : Code} {β γ δ : Type} (I : β → γ → δ → Prop) (Ei : β → γ → δ → Env) (Li : β → γ → δ → Own) (Φi : β → γ → δ → List Pers) (μ : β → γ → δ → Nat) (x0 : β) (y0 : γ) (z0 : δ) (hG : MarksOk X.D) (hI : I x0 y0 z0) (hE : sameAll E (Ei x0 y0 z0)) (hL : (Li x0 y0 z0).Sublist L) (hΦ : Foll Φ (Φi x0 y0 z0))
    (h : ∀ x y z ds, MarksOk ds → I x y z → J P n (X.wd ds) c (Exit.then (fun a w => ∃ x' y' z' ds, MarksOk ds ∧ I x' y' z' ∧ μ x' y' z' < μ x y z ∧ St n (X.wd ds) (Ei x' y' z') (Li x' y' z') (Φi x' y' z') a w) Q) (Ei x y z) (Li x y z) (Φi x y z)) : J P n X (.loop c) Q E L Φ :=
  J_loopD (β := β × γ × δ) (fun x => I x.1 x.2.1 x.2.2) (fun x => Ei x.1 x.2.1 x.2.2) (fun x => Li x.1 x.2.1 x.2.2) (fun x => Φi x.1 x.2.1 x.2.2) (fun x => μ x.1 x.2.1 x.2.2) (x0, y0, z0) hG hI hE hL hΦ fun x ds hds hx a w hs => Code.wpIn_mono (fun e a w q => by
    cases e with
    | normal => obtain ⟨x', y', z', ds', h0, h1, h2, h3⟩ := q; exact ⟨(x', y', z'), ds', h0, h1, h2, h3⟩
    | _ => exact q) (h x.1 x.2.1 x.2.2 ds hds hx a w hs)
theorem againD1 {X' : Cx} {β : Type} {I : β → Prop} {Ei : β → Env} {Li : β → Own} {Φi : β → List Pers} {μ : β → Nat} {x : β} (hX : X' = X.wd X'.D) (hG : MarksOk X'.D) (y : β) (hI : I y) (hμ : μ y < μ x) (hE : sameAll E (Ei y)) (hL : (Li y).Sublist L) (hΦ : Foll Φ (Φi y)) :
    JQ n X' (fun a w => ∃ y ds, MarksOk ds ∧ I y ∧ μ y < μ x ∧ St n (X.wd ds) (Ei y) (Li y) (Φi y) a w) E L Φ := fun _ _ hs => by
  rw [hX] at hs
  exact ⟨y, X'.D, hG, hI, hμ, hs.size, hs.defers, hs.has.weaken (sameAll_spec hE), (hs.world.sub hL).foll hΦ⟩
theorem againD2 {X' : Cx} {β γ : Type} {I : β → γ → Prop} {Ei : β → γ → Env} {Li : β → γ → Own} {Φi : β → γ → List Pers} {μ : β → γ → Nat} {x : β} {z : γ} (hX : X' = X.wd X'.D) (hG : MarksOk X'.D) (y : β) (u : γ) (hI : I y u) (hμ : μ y u < μ x z) (hE : sameAll E (Ei y u)) (hL : (Li y u).Sublist L) (hΦ : Foll Φ (Φi y u)) :
    JQ n X' (fun a w => ∃ y u ds, MarksOk ds ∧ I y u ∧ μ y u < μ x z ∧ St n (X.wd ds) (Ei y u) (Li y u) (Φi y u) a w) E L Φ := fun _ _ hs => by
  rw [hX] at hs
  exact ⟨y, u, X'.D, hG, hI, hμ, hs.size, hs.defers, hs.has.weaken (sameAll_spec hE), (hs.world.sub hL).foll hΦ⟩
theorem againD3 {X' : Cx} {β γ δ : Type} {I : β → γ → δ → Prop} {Ei : β → γ → δ → Env} {Li : β → γ → δ → Own} {Φi : β → γ → δ → List Pers} {μ : β → γ → δ → Nat} {x : β} {z : γ} {r : δ} (hX : X' = X.wd X'.D) (hG : MarksOk X'.D) (y : β) (u : γ) (v : δ) (hI : I y u v) (hμ : μ y u v < μ x z r) (hE : sameAll E (Ei y u v)) (hL : (Li y u v).Sublist L) (hΦ : Foll Φ (Φi y u v)) :
    JQ n X' (fun a w => ∃ y u v ds, MarksOk ds ∧ I y u v ∧ μ y u v < μ x z r ∧ St n (X.wd ds) (Ei y u v) (Li y u v) (Φi y u v) a w) E L Φ := fun _ _ hs => by
  rw [hX] at hs
  exact ⟨y, u, v, X'.D, hG, hI, hμ, hs.size, hs.defers, hs.has.weaken (sameAll_spec hE), (hs.world.sub hL).foll hΦ⟩
end
end Go.Fen
