import Derived.Test.YtinkdfnpmoljfaaGreatDoorFenM
set_option linter.unusedVariables false
set_option linter.unusedSimpArgs false
namespace Go.Fen
open Go Go.RowKit
set_option linter.unusedSimpArgs false
set_option linter.unusedVariables false
section
variable {P : Program} {n : Nat} {X : Cx} {K : Act → World → Prop} {Q : Exit → Act → World → Prop} {E E' : Env} {L L' : Own} {Φ Φ' : List Pers}
/-- A reserved block's object turns. -/
theorem StW.reput {w : World} {d : Nat} {o o' : Obj} {ds : List (Nat × Obj)} (hd : d ∉ ds.map Prod.fst) (h : StW (X.wd ((d, o) :: ds)) L Φ w) : StW (X.wd ((d, o') :: ds)) L Φ (w.putObj d o') := by
 have h' := StW.take hd o' h
 obtain ⟨p0, hp0⟩ := h
 obtain ⟨h1, h2, h3, h4⟩ := hp0.res (d, o) (List.mem_cons_self ..)
 have hlt := (Array.getElem?_eq_some_iff.1 h1).1
 -- the facts of the elder world serve
 refine ⟨p0, ⟨hp0.facts, fun k u e => ?_, hp0.le, hp0.dom, ⟨fun e he => ⟨?_, (hp0.own.1 e he).2⟩, hp0.own.2⟩, hp0.may, ⟨hp0.kept.os, hp0.kept.tape, hp0.kept.output, ?_, fun k hk hm => ?_⟩, fun d' hd' => ?_⟩⟩
 ·have : k ≠ d := fun e' => by subst e'; rw [h2] at e; cases e
  rw [World.putObj_heap_other this]; exact hp0.sub k u e
 ·rw [World.putObj_heap_other (h3 e he)]; exact (hp0.own.1 e he).1
 ·rw [World.putObj_size]; exact hp0.kept.size
 ·have : k ≠ d := fun e' => by
   subst e'
   rcases h4 with h4 | h4
   ·have : X.w0.heap.size ≤ k := h4
    have : k < X.w0.heap.size := hk
    omega
   ·exact hm h4
  rw [World.putObj_heap_other this]; exact hp0.kept.block k hk hm
 ·rcases List.mem_cons.1 hd' with rfl | hd'
  ·exact ⟨World.putObj_heap_same hlt, h2, h3, h4⟩
  ·have : d'.1 ≠ d := fun e' => hd (e' ▸ List.mem_map_of_mem hd')
   obtain ⟨g1, g2⟩ := hp0.res d' (List.mem_cons_of_mem _ hd')
   exact ⟨by rw [World.putObj_heap_other this]; exact g1, g2⟩
/-- Reserved blocks are owned blocks again. -/
theorem StW.unres {w : World} {w0 : World} {h0 : Hp} {M : List Nat} {r : Option Nat} {ds : List (Nat × Obj)} (hn : (ds.map Prod.fst).Nodup) (h : StW ⟨w0, h0, M, r, ds⟩ L Φ w) : StW (cx w0 h0 M) (ds ++ L) Φ w := by
 obtain ⟨p, hp⟩ := h
 refine ⟨p, ⟨hp.facts, hp.sub, hp.le, hp.dom, ⟨fun e he => ?_, ?_⟩, fun e he => ?_, ⟨hp.kept.os, hp.kept.tape, hp.kept.output, hp.kept.size, hp.kept.block⟩, fun d hd => by cases hd⟩⟩
 ·rcases List.mem_append.1 he with he | he
  ·exact ⟨(hp.res e he).1, (hp.res e he).2.1⟩
  ·exact hp.own.1 e he
 ·rw [List.map_append, List.nodup_append]
  refine ⟨hn, hp.own.2, fun b hb c hc => ?_⟩
  obtain ⟨d, hd, rfl⟩ := List.mem_map.1 hb
  obtain ⟨e, he, rfl⟩ := List.mem_map.1 hc
  exact fun h => (hp.res d hd).2.2.1 e he h.symm
 ·rcases List.mem_append.1 he with he | he
  ·exact (hp.res e he).2.2.2.symm
  ·exact hp.may e he
/-- An owned block is reserved. -/
theorem StW.reserve {w : World} {d : Nat} {o : Obj} (h : StW X ((d, o) :: L) Φ w) : StW (X.wd ((d, o) :: X.D)) L Φ w := by
 obtain ⟨p, hp⟩ := h
 refine ⟨p, ⟨hp.facts, hp.sub, hp.le, hp.dom, hp.own.sub (List.sublist_cons_self _ _), fun e he => hp.may e (List.mem_cons_of_mem _ he), ⟨hp.kept.os, hp.kept.tape, hp.kept.output, hp.kept.size, hp.kept.block⟩, fun e he => ?_⟩⟩
 rcases List.mem_cons.1 he with rfl | he
 ·have h1 := hp.own.1 (d, o) (List.mem_cons_self ..)
  refine ⟨h1.1, h1.2, fun e' he' hE => ?_, (hp.may (d, o) (List.mem_cons_self ..)).symm⟩
  have := hp.own.2
  rw [List.map_cons, List.nodup_cons] at this
  exact this.1 (hE ▸ List.mem_map_of_mem he')
 ·obtain ⟨g1, g2, g3, g4⟩ := hp.res e he
  exact ⟨g1, g2, fun e' he' => g3 e' (List.mem_cons_of_mem _ he'), g4⟩

/-- How the body of a round may be left. -/
def RP (Y : Cx) {β σ : Type} (I : List β → σ → Prop) (Jx : Code → σ → Prop) (Lk : σ → Own) (Φk : σ → List Pers) (rest : List β) : Exit → Act → World → Prop
 | .normal, _, w => ∃ s, I rest s ∧ StW Y (Lk s) (Φk s) w
 | .ret, _, w => ∃ s, Jx .ret s ∧ StW Y (Lk s) (Φk s) w
 | .exit id, _, w => ∃ s, Jx (.exit id) s ∧ StW Y (Lk s) (Φk s) w
 | _, _, _ => False

theorem J_range {g : Operand} {p : Nat} {ps : Array Tmp} {assign body : Code} {gf : FuncId} {lb : List Value} {Φ0 : List Pers} {β : Type} {enc : β → Value} {xs : List β}
  (hro : X.rho = none) (hg : ev E g = some (.func (.func gf) #[] lb.toArray)) (hit : IterCon P gf lb Φ0 enc xs) (hΦ0 : Foll Φ Φ0) (hps : ps = #[p]) (hpn : okDst n (some p) = true)
  {σ : Type} (I : List β → σ → Prop) (Jx : Code → σ → Prop) (Lk : σ → Own) (Φk : σ → List Pers) (s0 : σ) (h0 : I xs s0) (hL : (Lk s0).Sublist L) (hΦ : Foll Φ (Φk s0))
  (hround : ∀ x rest s, I (x :: rest) s → ∀ (Y Y' : Cx) (K : Act → World → Prop), Y.rho.isSome = true →
   (∀ E L Φ, J P n Y' body (RP Y' I Jx Lk Φk rest) E L Φ → JQ n Y K E L Φ) → J P n Y assign (Exit.then K (fun _ _ _ => False)) (Env.put E (some p) (enc x)) (Lk s) (Φk s))
  (hafter : ∀ d s, d ∉ X.D.map Prod.fst → I [] s → JQ n (X.wd ((d, .deferred (some [])) :: X.D)) (Q .normal) E (Lk s) (Φk s))
  (hstop : ∀ d c s, d ∉ X.D.map Prod.fst → Jx c s → J P n (X.wd ((d, .deferred (some [])) :: X.D)) c Q E (Lk s) (Φk s)) : J P n X (.rangeFunc g ps assign body) Q E L Φ := by
 intro a w hs
 subst hps
 rw [hro]
 refine wpIn_rangeFunc ?_
 intro fn _
 obtain ⟨rec, hrec⟩ : ∃ rec : LoopState → Option Code → Loop, rec = fun st pe => { state := st, pending := pe, fn, tmps := a.tmps, params := #[p], assign, body, defers := w.heap.size } := ⟨_, rfl⟩
 have he := run_enterLoop_outer (P := P) (w := w) fn a.tmps #[p] assign body
 rw [show ({ state := .ready, pending := none, fn := fn, tmps := a.tmps, params := #[p], assign := assign, body := body, defers := w.heap.size } : Loop) = rec .ready none by rw [hrec]] at he
 obtain ⟨w1, hw1⟩ : ∃ w1, (w.alloc (.deferred (some []))).alloc (.loop (rec .ready none)) = w1 := ⟨_, rfl⟩
 rw [hw1] at he
 refine ⟨w.heap.size + 1, [mark w.heap.size], w1, { target := .fn (.func gf) lb.toArray, args := #[.func (.yield (w.heap.size + 1)) #[] #[]] }, w1, gf,
  #[.func (.yield (w.heap.size + 1)) #[] #[]] ++ lb.toArray, w1, he, ?_, fun _ _ => trivial, ?_, FW_depth, ?_⟩
 ·simp only [resolve, ev_eval hs.has hg]
  simp [go_sem]
 ·simp [invoke, run_callFunc_body hit.1]
 ·-- the caller's state, the two blocks laid
  have hst : StW X ((w.heap.size + 1, .loop (rec .ready none)) :: (w.heap.size, .deferred (some [])) :: Lk s0) Φ w1 := by
   have h1 := (hs.world.sub hL).alloc (.deferred (some []))
   have h2 := h1.alloc (.loop (rec .ready none))
   rw [World.size_alloc, hw1] at h2
   exact h2
  have hdD : w.heap.size ∉ X.D.map Prod.fst := fun hm => by
   obtain ⟨e, he', hE⟩ := List.mem_map.1 hm
   obtain ⟨q, hq⟩ := hs.world
   have := (Array.getElem?_eq_some_iff.1 (hq.res e he').1).1
   omega
  obtain ⟨q, hq⟩ := hst
  have hsz : w.heap.size + 1 < w1.heap.size := (Array.getElem?_eq_some_iff.1 (hq.own.1 _ (List.mem_cons_self ..)).1).1
  let It : List β → Own → List Pers → Prop := fun rem L Φ => ∃ s, I rem s ∧ L = (w.heap.size + 1, .loop (rec .ready none)) :: (w.heap.size, .deferred (some [])) :: Lk s ∧ Φ = Φk s
  let Itx : Own → List Pers → Prop := fun L Φ => ∃ c s, Jx c s ∧ L = (w.heap.size + 1, .loop (rec .done (some c))) :: (w.heap.size, .deferred (some [])) :: Lk s ∧ Φ = Φk s
  have hcall := hit.2 (w.heap.size + 1) w1 q It Itx _ (Φk s0) ⟨s0, h0, rfl, rfl⟩ (hΦ0 q hq.facts) (hΦ q hq.facts) hq.sub hq.own ?_
  ·refine calls_FW (hcall.mono fun e w' hx => ?_)
   obtain ⟨⟨v, rfl⟩, L', Φ', hI, hw'⟩ := hx
   have hw2 := StW.call (L0 := (w.heap.size + 1, .loop (rec .ready none)) :: (w.heap.size, .deferred (some [])) :: Lk s0) (L2 := []) hq (by simp) hw'
   rw [List.append_nil] at hw2
   have close : ∀ (st : LoopState) (pe : Option Code) (s : σ), st ≠ .busy → L' = (w.heap.size + 1, .loop (rec st pe)) :: (w.heap.size, .deferred (some [])) :: Lk s → Φ' = Φk s →
     (Instr.endLoop (w.heap.size + 1)).run P w' = .ok pe (w'.putObj (w.heap.size + 1) (.loop { rec st pe with state := .exhausted })) ∧
     St n (X.wd ((w.heap.size, .deferred (some [])) :: X.D)) E (Lk s) (Φk s) { a with defers := [mark w.heap.size] ++ a.defers } (w'.putObj (w.heap.size + 1) (.loop { rec st pe with state := .exhausted })) := fun st pe s hst hL' hΦ' => by
    subst hL' hΦ'
    obtain ⟨q2, hq2⟩ := hw2
    have hl := (hq2.own.1 _ (List.mem_cons_self ..)).1
    simp only at hl
    have hrun := run_endLoop (P := P) hl (by rw [hrec]; exact hst)
    rw [hrec] at hrun ⊢
    refine ⟨hrun, ⟨hs.size, ?_, hs.has, ?_⟩⟩
    ·show [mark w.heap.size] ++ a.defers = _
     rw [hs.defers]
     unfold Cx.marks Cx.wd
     simp only [hro]; rfl
    ·have h3 : StW X ((w.heap.size, .deferred (some [])) :: Lk s) (Φk s ++ Φ) (w'.putObj (w.heap.size + 1) (.loop { rec st pe with state := .exhausted })) := by
      have h4 := StW.reserve (X := X) ⟨q2, hq2⟩
      have hnd := hq2.own.2
      have h5 := StW.take (X := X) (d := (w.heap.size + 1, .loop (rec st pe))) (ds := X.D) ?_ (.loop { rec st pe with state := .exhausted }) h4
      ·exact h5
      ·intro hm
       obtain ⟨e, he', hE⟩ := List.mem_map.1 hm
       obtain ⟨q3, hq3⟩ := hs.world
       have := (Array.getElem?_eq_some_iff.1 (hq3.res e he').1).1
       simp only at hE; omega
     rw [hrec] at h3
     exact h3.reserve.foll fun p hp q hq => hp q (List.mem_append_left _ hq)
   rcases hI with ⟨s, hI, hL', hΦ'⟩ | ⟨c, s, hI, hL', hΦ'⟩
   ·obtain ⟨hrun, hs'⟩ := close .ready none s (by simp) hL' hΦ'
    exact ⟨none, _, hrun, hafter _ s hdD hI _ _ hs'⟩
   ·obtain ⟨hrun, hs'⟩ := close .done (some c) s (by simp) hL' hΦ'
    have h6 := hstop _ c s hdD hI _ _ hs'
    have : (X.wd ((w.heap.size, .deferred (some [])) :: X.D)).rho = none := hro
    rw [this] at h6
    exact ⟨some c, _, hrun, h6⟩
  ·-- one round
   rintro x rest L0 Φ0 ⟨s, hIs, rfl, rfl⟩ wr hr hfr hsr hor
   have hl := (hor.1 _ (List.mem_cons_self ..)).1
   simp only at hl
   have hy := run_yield (P := P) (args := #[enc x]) hl (by rw [hrec]; rfl)
   rw [hrec] at hy
   refine ⟨_, _, assign, body, hy, roundIn_of_wpIn trivial ?_⟩
   have hdist : w.heap.size + 1 ≠ w.heap.size := by omega
   let M0 : List Nat := (w.heap.size + 1) :: w.heap.size :: (Lk s).map Prod.fst
   let Y : Cx := ⟨wr, hr, M0, some (w.heap.size + 1), [(w.heap.size + 1, .loop (rec .ready none)), (w.heap.size, .deferred (some []))]⟩
   let Y' : Cx := ⟨wr, hr, M0, some (w.heap.size + 1), [(w.heap.size + 1, .loop { rec .ready none with state := .busy }), (w.heap.size, .deferred (some []))]⟩
   have hb := hround x rest s hIs Y Y' (fun a₁ w₁ => ∃ w₂, (Instr.beginRound (w.heap.size + 1)).run P w₁ = .ok () w₂ ∧ body.wpIn (Fence.wide.inRound (w.heap.size + 1)) 0 P
    (roundPost P (w.heap.size + 1) fun e w' => ∃ b L' Φ', e = .returned (.bool b) ∧ (if b then It rest L' Φ' else Itx L' Φ') ∧ StW (cx wr hr M0) L' Φ' w') a₁ w₂) rfl ?_
   ·refine hb _ wr ⟨?_, rfl, ?_, hr, ⟨hfr, hsr, Hp.le_refl hr, fun b hb => .inl hb, hor.sub ((List.sublist_cons_self _ _).trans (List.sublist_cons_self _ _)), fun e he => .inl ?_, KeptBut.refl _ _, fun d hd => ?_⟩⟩
    ·have : a.tmps.size = n := hs.size
     simp [this]
    ·have := hs.has.put (d := p) (by rw [hs.size]; simpa [okDst, Nat.blt_eq] using hpn) (enc x)
     exact fun t v e => by simpa [Act.put] using this t v e
    ·exact List.mem_cons_of_mem _ (List.mem_cons_of_mem _ (List.mem_map_of_mem he))
    ·have hnd := hor.2
     simp only [List.map_cons, List.nodup_cons, List.mem_cons, not_or] at hnd
     simp only [Y, List.mem_cons, List.not_mem_nil, or_false] at hd
     rcases hd with rfl | rfl
     ·exact ⟨hl, (hor.1 _ (List.mem_cons_self ..)).2, fun e he hE => hnd.1.2 (by simp only at hE; rw [← hE]; exact List.mem_map_of_mem he), .inr (by simp [Y, M0])⟩
     ·have h1 := hor.1 _ (List.mem_cons_of_mem _ (List.mem_cons_self ..))
      exact ⟨h1.1, h1.2, fun e he hE => hnd.2.1 (by simp only at hE; rw [← hE]; exact List.mem_map_of_mem he), .inr (by simp [Y, M0])⟩
   ·-- the record turns to busy; the body; the record turns back
    intro E1 L1 Φ1 hJ a1 w2 hs1
    obtain ⟨q1, hq1⟩ := hs1.world
    have hl1 := (hq1.res (w.heap.size + 1, .loop (rec .ready none)) (by simp [Y])).1
    simp only at hl1
    refine ⟨_, run_beginRound hl1 (by rw [hrec]), ?_⟩
    have hst1 : StW Y' L1 Φ1 (w2.putObj (w.heap.size + 1) (.loop { rec .ready none with state := .busy })) := by
     have := StW.reput (X := Y) (d := w.heap.size + 1) (o := .loop (rec .ready none)) (o' := .loop { rec .ready none with state := .busy }) (ds := [(w.heap.size, .deferred (some []))]) (by simp) hs1.world
     exact this
    have hbody := hJ a1 _ ⟨hs1.size, hs1.defers, hs1.has, hst1⟩
    refine Code.wpIn_mono (fun e a2 w3 hp => ?_) hbody
    have fin : ∀ (jump : Option Code) (s' : σ), StW Y' (Lk s') (Φk s') w3 →
      (Instr.endRound (w.heap.size + 1) jump).run P w3 = .ok (.bool jump.isNone) (w3.putObj (w.heap.size + 1) (.loop (rec (if jump.isNone then .ready else .done) jump))) ∧
      StW (cx wr hr M0) ((w.heap.size + 1, .loop (rec (if jump.isNone then .ready else .done) jump)) :: (w.heap.size, .deferred (some [])) :: Lk s') (Φk s') (w3.putObj (w.heap.size + 1) (.loop (rec (if jump.isNone then .ready else .done) jump))) := fun jump s' h3 => by
     obtain ⟨q3, hq3⟩ := h3
     have hl3 := (hq3.res (w.heap.size + 1, .loop { rec .ready none with state := .busy }) (by simp [Y'])).1
     simp only at hl3
     have hrun := run_endRound (P := P) jump hl3
     refine ⟨by rw [hrec] at hrun ⊢; exact hrun, ?_⟩
     have h4 := StW.reput (X := Y') (d := w.heap.size + 1) (o := .loop { rec .ready none with state := .busy }) (o' := .loop (rec (if jump.isNone then .ready else .done) jump)) (ds := [(w.heap.size, .deferred (some []))]) (by simp) ⟨q3, hq3⟩
     exact StW.unres (by simp) h4
    cases e with
    | normal =>
     obtain ⟨s', hI', h3⟩ := hp
     obtain ⟨hrun, h4⟩ := fin none s' h3
     exact ⟨_, _, hrun, true, _, _, rfl, ⟨s', hI', rfl, rfl⟩, h4⟩
    | ret =>
     obtain ⟨s', hI', h3⟩ := hp
     obtain ⟨hrun, h4⟩ := fin (some .ret) s' h3
     exact ⟨_, _, hrun, false, _, _, rfl, ⟨.ret, s', hI', rfl, rfl⟩, h4⟩
    | exit id =>
     obtain ⟨s', hI', h3⟩ := hp
     obtain ⟨hrun, h4⟩ := fin (some (.exit id)) s' h3
     exact ⟨_, _, hrun, false, _, _, rfl, ⟨.exit id, s', hI', rfl, rfl⟩, h4⟩
    | goto t => exact hp.elim
    | panic c => exact hp.elim
    | outgrown => exact hp.elim
end
end Go.Fen

