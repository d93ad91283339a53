import Derived.Test.YtinkdfnpmoljfaaGreatDoorFenO
set_option linter.unusedVariables false
set_option linter.unusedSimpArgs false
namespace Go.Fen
open Go Go.RowKit
set_option linter.unusedSimpArgs false
set_option linter.unusedVariables false
section
variable {P : Program} {n : Nat} {X : Cx} {K : Act → World → Prop} {Q : Exit → Act → World → Prop} {E E' : Env} {L L' : Own} {Φ Φ' : List Pers}
/-! ### Loops whose bodies hold loops over functions: each round leaves a mark -/
def MarksOk (ds : List (Nat × Obj)) : Prop := (ds.map Prod.fst).Nodup ∧ ∀ d ∈ ds, d.2 = .deferred (some [])
theorem MarksOk.nil : MarksOk [] := ⟨List.nodup_nil, fun d hd => by cases hd⟩
theorem MarksOk.cons {d : Nat} {ds : List (Nat × Obj)} (h : MarksOk ds) (hd : d ∉ ds.map Prod.fst) : MarksOk ((d, .deferred (some [])) :: ds) :=
 ⟨by rw [List.map_cons, List.nodup_cons]; exact ⟨hd, h.1⟩, fun e he => by
  rcases List.mem_cons.1 he with rfl | he
  ·rfl
  ·exact h.2 e he⟩
theorem J_loopD {c : Code} {β : Type} (I : β → Prop) (Ei : β → Env) (Li : β → Own) (Φi : β → List Pers) (μ : β → Nat) (x0 : β) (hG : MarksOk X.D) (hI : I x0) (hE : sameAll E (Ei x0)) (hL : (Li x0).Sublist L) (hΦ : Foll Φ (Φi x0))
  (h : ∀ x ds, MarksOk ds → I x → J P n (X.wd ds) c (Exit.then (fun a w => ∃ y ds, MarksOk ds ∧ I y ∧ μ y < μ x ∧ St n (X.wd ds) (Ei y) (Li y) (Φi y) a w) Q) (Ei x) (Li x) (Φi x)) : J P n X (.loop c) Q E L Φ := by
 intro a w hs
 refine wpIn_loop_ghost (fun k a w => ∃ x ds, MarksOk ds ∧ I x ∧ μ x = k ∧ St n (X.wd ds) (Ei x) (Li x) (Φi x) a w) (μ x0) ⟨x0, X.D, hG, hI, rfl, hs.size, hs.defers, hs.has.weaken (sameAll_spec hE), (hs.world.sub hL).foll hΦ⟩ ?_
 rintro k a w ⟨x, ds, hds, hx, rfl, hst⟩
 refine Code.wpIn_mono (fun e a w q => ?_) (h x ds hds hx a w hst)
 cases e with
 | normal => obtain ⟨y, ds', hds', hIy, hy, hs'⟩ := q; exact ⟨μ y, hy, y, ds', hds', hIy, rfl, hs'⟩
 | _ => exact q
end
end Go.Fen

