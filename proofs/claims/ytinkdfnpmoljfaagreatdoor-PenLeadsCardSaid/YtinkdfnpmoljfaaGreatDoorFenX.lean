import Derived.Test.YtinkdfnpmoljfaaGreatDoorFenW
set_option linter.unusedVariables false
set_option linter.unusedSimpArgs false
namespace Go.Fen
open Go Go.RowKit
/-! ### Loops over functions that hand on two values at a time -/
/-- One round, from whatever world that fits. -/
def YieldCon2 (P : Program) (l : Nat) (v v2 : Value) (L : Own) (Φ : List Pers) (post : Bool → Own → List Pers → Prop) : Prop :=
 ∀ (w : World) (h : Hp), (∀ q ∈ Φ, q.p h) → h.sub w → OwnIn L h w →
  YieldAt Fence.wide 0 P l #[v, v2] w fun e w' => ∃ b L' Φ', e = .returned (.bool b) ∧ post b L' Φ' ∧ StW (cx w h (L.map Prod.fst)) L' Φ' w'
/-- A function that hands on xs, one after another, to whatever it is called with. -/
def IterCon2 (P : Program) (gf : FuncId) (lb : List Value) (Φ0 : List Pers) {β : Type} (enc enc2 : β → Value) (xs : List β) : Prop :=
 HasBody P gf ∧ ∀ (l : Nat) (w : World) (h : Hp) (I : List β → Own → List Pers → Prop) (Ix : Own → List Pers → Prop) (L : Own) (Φ : List Pers), I xs L Φ → (∀ q ∈ Φ0, q.p h) → (∀ q ∈ Φ, q.p h) → h.sub w → OwnIn L h w →
  (∀ x rest L Φ, I (x :: rest) L Φ → YieldCon2 P l (enc x) (enc2 x) L Φ fun b L' Φ' => if b then I rest L' Φ' else Ix L' Φ') →
  Calls P gf (#[.func (.yield l) #[] #[]] ++ lb.toArray) w fun e w' => (∃ v, e = .returned v) ∧ ∃ L' Φ', (I [] L' Φ' ∨ Ix L' Φ') ∧ StW (cx w h (L.map Prod.fst)) L' Φ' w'


section
variable {P : Program} {n : Nat} {X : Cx} {K : Act → World → Prop} {Q : Exit → Act → World → Prop} {E E' : Env} {L L' : Own} {Φ Φ' : List Pers}

theorem iter_of_J2 {gf : FuncId} {fn : Func} {c : Code} {lb : List Value} {Φ0 : List Pers} {β : Type} {enc enc2 : β → Value} {xs : List β}
  (hf : P.funcs[gf]? = some fn) (hb : fn.body = some c) (hnm : (fn.name == "runtime.NumGoroutine") = false) (hn : fn.ntmps = n) (hle : Nat.ble (lb.length + 1) n = true) (E0 : Nat → Env) (hE : ∀ l, sameAll ((List.range (lb.length + 1)).zip (.func (.yield l) #[] #[] :: lb)) (E0 l))
  (h : ∀ (X : Cx) (l : Nat) (I : List β → Own → List Pers → Prop) (Ix : Own → List Pers → Prop) (L : Own) (Φ : List Pers), X.M = L.map Prod.fst → X.rho = none → X.D = [] → I xs L Φ →
   (∀ x rest L Φ, I (x :: rest) L Φ → YieldCon2 P l (enc x) (enc2 x) L Φ fun b L' Φ' => if b then I rest L' Φ' else Ix L' Φ') → J P n X c (IEnds P X fn fun L' Φ' => I [] L' Φ' ∨ Ix L' Φ') (E0 l) (L ++ []) (Φ0 ++ Φ)) : IterCon2 P gf lb Φ0 enc enc2 xs := by
 refine ⟨⟨by simp [hf, hb, hnm]⟩, fun l w p I Ix L Φ hI hΦ0 hΦ hs ho hy => ?_⟩
 have hargs : (#[.func (.yield l) #[] #[]] ++ lb.toArray : Array Value) = (Value.func (.yield l) #[] #[] :: lb).toArray := by simp
 rw [hargs]
 simp only [List.append_nil] at h
 refine (callsIn_wide (n := 0)).1 (callsIn_of_wp_marks (F := Fence.wide) hf hb trivial (h (cx w p (L.map Prod.fst)) l I Ix L Φ rfl rfl rfl hI hy _ w ⟨?_, rfl, ?_, p, ⟨?_, hs, Hp.le_refl p, fun b hb => .inl hb, ho, fun e he => .inl (List.mem_map_of_mem he), KeptBut.refl _ w, fun d hd => (by cases hd)⟩⟩))
 ·have hle' : lb.length + 1 ≤ n := Nat.le_of_ble_eq_true hle
  simp [hn]; omega
 ·rw [hn]
  exact start_has (args := Value.func (.yield l) #[] #[] :: lb) hle (hE l)
 ·intro q hq
  rcases List.mem_append.1 hq with hq | hq
  ·exact hΦ0 q hq
  ·exact hΦ q hq

theorem tri_yield2 {o : Oper} {c : Call} {fv : Operand} {l : Nat} {v v2 : Value} {L0 L2 : Own} {Φ0 : List Pers} {post : Bool → Own → List Pers → Prop} (hy : YieldCon2 P l v v2 L0 Φ0 post)
  (ho : o.op = .call c) (hc : c.callee = .value fv) (hf : ev E fv = some (.func (.yield l) #[] #[])) (hargs : c.args.toList.mapM (ev E) = some [v, v2]) (hΦ : Foll Φ Φ0) (hL : L.Perm (L0 ++ L2)) :
  Tri P n X o E L Φ {σ : Bool × Own × List Pers // post σ.1 σ.2.1 σ.2.2} (fun σ => .bool σ.1.1) (fun σ => σ.1.2.1 ++ L2) (fun σ => σ.1.2.2 ++ Φ) := by
 intro a w K Q hs hk
 obtain ⟨p, hp⟩ := hs.world
 have hown : OwnIn (L0 ++ L2) p w := ⟨fun e he => hp.own.1 e (hL.symm.subset he), (hL.map Prod.fst).nodup_iff.1 hp.own.2⟩
 obtain ⟨fn, tmps, assign, body, hyr, hround⟩ := hy w p (hΦ p hp.facts) hp.sub (hown.sub (List.sublist_append_left _ _))
 have hr : (execOp a.eval o).run P w = .ok (.round l fn tmps assign body) w := by
  simp [execOp, ho, resolve, hc, ev_eval hs.has hf, Deferred.ofValue, mapM_ev_arr hs.has hargs, invoke, hyr]
 refine ⟨fun _ _ => trivial, ?_⟩
 rw [Oper.semAt_eq _ _ _ (fun c hc => by rw [ho] at hc; cases hc), hr]
 refine ⟨FW_depth, ?_⟩
 have hR : RoundIn (FW X.rho) 0 P l fn tmps assign body w _ := hround
 refine hR.mono fun e w' hx => ?_
 obtain ⟨b, L', Φ', rfl, hpost, hw⟩ := hx
 exact hk ⟨(b, L', Φ'), hpost⟩ w' (StW.call hp hL hw)

theorem J_range2 {g : Operand} {p p2 : Nat} {ps : Array Tmp} {assign body : Code} {gf : FuncId} {lb : List Value} {Φ0 : List Pers} {β : Type} {enc enc2 : β → Value} {xs : List β}
  (hro : X.rho = none) (hg : ev E g = some (.func (.func gf) #[] lb.toArray)) (hit : IterCon2 P gf lb Φ0 enc enc2 xs) (hΦ0 : Foll Φ Φ0) (hps : ps = #[p, p2]) (hpn : okDst n (some p) = true) (hpn2 : okDst n (some p2) = true)
  {σ : Type} (I : List β → σ → Prop) (Jx : Code → σ → Prop) (Lk : σ → Own) (Φk : σ → List Pers) (s0 : σ) (h0 : I xs s0) (hL : (Lk s0).Sublist L) (hΦ : Foll Φ (Φk s0))
  (hround : ∀ x rest s, I (x :: rest) s → ∀ (Y Y' : Cx) (K : Act → World → Prop), Y.rho.isSome = true →
   (∀ E L Φ, J P n Y' body (RP Y' I Jx Lk Φk rest) E L Φ → JQ n Y K E L Φ) → J P n Y assign (Exit.then K (fun _ _ _ => False)) (Env.put (Env.put E (some p) (enc x)) (some p2) (enc2 x)) (Lk s) (Φk s))
  (hafter : ∀ d s, d ∉ X.D.map Prod.fst → I [] s → JQ n (X.wd ((d, .deferred (some [])) :: X.D)) (Q .normal) E (Lk s) (Φk s))
  (hstop : ∀ d c s, d ∉ X.D.map Prod.fst → Jx c s → J P n (X.wd ((d, .deferred (some [])) :: X.D)) c Q E (Lk s) (Φk s)) : J P n X (.rangeFunc g ps assign body) Q E L Φ := by
 intro a w hs
 subst hps
 rw [hro]
 refine wpIn_rangeFunc ?_
 intro fn _
 obtain ⟨rec, hrec⟩ : ∃ rec : LoopState → Option Code → Loop, rec = fun st pe => { state := st, pending := pe, fn, tmps := a.tmps, params := #[p, p2], assign, body, defers := w.heap.size } := ⟨_, rfl⟩
 have he := run_enterLoop_outer (P := P) (w := w) fn a.tmps #[p, p2] assign body
 rw [show ({ state := .ready, pending := none, fn := fn, tmps := a.tmps, params := #[p, p2], assign := assign, body := body, defers := w.heap.size } : Loop) = rec .ready none by rw [hrec]] at he
 obtain ⟨w1, hw1⟩ : ∃ w1, (w.alloc (.deferred (some []))).alloc (.loop (rec .ready none)) = w1 := ⟨_, rfl⟩
 rw [hw1] at he
 refine ⟨w.heap.size + 1, [mark w.heap.size], w1, { target := .fn (.func gf) lb.toArray, args := #[.func (.yield (w.heap.size + 1)) #[] #[]] }, w1, gf,
  #[.func (.yield (w.heap.size + 1)) #[] #[]] ++ lb.toArray, w1, he, ?_, fun _ _ => trivial, ?_, FW_depth, ?_⟩
 ·simp only [resolve, ev_eval hs.has hg]
  simp [go_sem]
 ·simp [invoke, run_callFunc_body hit.1]
 ·-- the caller's state, the two blocks laid
  have hst : StW X ((w.heap.size + 1, .loop (rec .ready none)) :: (w.heap.size, .deferred (some [])) :: Lk s0) Φ w1 := by
   have h1 := (hs.world.sub hL).alloc (.deferred (some []))
   have h2 := h1.alloc (.loop (rec .ready none))
   rw [World.size_alloc, hw1] at h2
   exact h2
  have hdD : w.heap.size ∉ X.D.map Prod.fst := fun hm => by
   obtain ⟨e, he', hE⟩ := List.mem_map.1 hm
   obtain ⟨q, hq⟩ := hs.world
   have := (Array.getElem?_eq_some_iff.1 (hq.res e he').1).1
   omega
  obtain ⟨q, hq⟩ := hst
  have hsz : w.heap.size + 1 < w1.heap.size := (Array.getElem?_eq_some_iff.1 (hq.own.1 _ (List.mem_cons_self ..)).1).1
  let It : List β → Own → List Pers → Prop := fun rem L Φ => ∃ s, I rem s ∧ L = (w.heap.size + 1, .loop (rec .ready none)) :: (w.heap.size, .deferred (some [])) :: Lk s ∧ Φ = Φk s
  let Itx : Own → List Pers → Prop := fun L Φ => ∃ c s, Jx c s ∧ L = (w.heap.size + 1, .loop (rec .done (some c))) :: (w.heap.size, .deferred (some [])) :: Lk s ∧ Φ = Φk s
  have hcall := hit.2 (w.heap.size + 1) w1 q It Itx _ (Φk s0) ⟨s0, h0, rfl, rfl⟩ (hΦ0 q hq.facts) (hΦ q hq.facts) hq.sub hq.own ?_
  ·refine calls_FW (hcall.mono fun e w' hx => ?_)
   obtain ⟨⟨v, rfl⟩, L', Φ', hI, hw'⟩ := hx
   have hw2 := StW.call (L0 := (w.heap.size + 1, .loop (rec .ready none)) :: (w.heap.size, .deferred (some [])) :: Lk s0) (L2 := []) hq (by simp) hw'
   rw [List.append_nil] at hw2
   have close : ∀ (st : LoopState) (pe : Option Code) (s : σ), st ≠ .busy → L' = (w.heap.size + 1, .loop (rec st pe)) :: (w.heap.size, .deferred (some [])) :: Lk s → Φ' = Φk s →
     (Instr.endLoop (w.heap.size + 1)).run P w' = .ok pe (w'.putObj (w.heap.size + 1) (.loop { rec st pe with state := .exhausted })) ∧
     St n (X.wd ((w.heap.size, .deferred (some [])) :: X.D)) E (Lk s) (Φk s) { a with defers := [mark w.heap.size] ++ a.defers } (w'.putObj (w.heap.size + 1) (.loop { rec st pe with state := .exhausted })) := fun st pe s hst hL' hΦ' => by
    subst hL' hΦ'
    obtain ⟨q2, hq2⟩ := hw2
    have hl := (hq2.own.1 _ (List.mem_cons_self ..)).1
    simp only at hl
    have hrun := run_endLoop (P := P) hl (by rw [hrec]; exact hst)
    rw [hrec] at hrun ⊢
    refine ⟨hrun, ⟨hs.size, ?_, hs.has, ?_⟩⟩
    ·show [mark w.heap.size] ++ a.defers = _
     rw [hs.defers]
     unfold Cx.marks Cx.wd
     simp only [hro]; rfl
    ·have h3 : StW X ((w.heap.size, .deferred (some [])) :: Lk s) (Φk s ++ Φ) (w'.putObj (w.heap.size + 1) (.loop { rec st pe with state := .exhausted })) := by
      have h4 := StW.reserve (X := X) ⟨q2, hq2⟩
      have hnd := hq2.own.2
      have h5 := StW.take (X := X) (d := (w.heap.size + 1, .loop (rec st pe))) (ds := X.D) ?_ (.loop { rec st pe with state := .exhausted }) h4
      ·exact h5
      ·intro hm
       obtain ⟨e, he', hE⟩ := List.mem_map.1 hm
       obtain ⟨q3, hq3⟩ := hs.world
       have := (Array.getElem?_eq_some_iff.1 (hq3.res e he').1).1
       simp only at hE; omega
     rw [hrec] at h3
     exact h3.reserve.foll fun p hp q hq => hp q (List.mem_append_left _ hq)
   rcases hI with ⟨s, hI, hL', hΦ'⟩ | ⟨c, s, hI, hL', hΦ'⟩
   ·obtain ⟨hrun, hs'⟩ := close .ready none s (by simp) hL' hΦ'
    exact ⟨none, _, hrun, hafter _ s hdD hI _ _ hs'⟩
   ·obtain ⟨hrun, hs'⟩ := close .done (some c) s (by simp) hL' hΦ'
    have h6 := hstop _ c s hdD hI _ _ hs'
    have : (X.wd ((w.heap.size, .deferred (some [])) :: X.D)).rho = none := hro
    rw [this] at h6
    exact ⟨some c, _, hrun, h6⟩
  ·-- one round
   rintro x rest L0 Φ0 ⟨s, hIs, rfl, rfl⟩ wr hr hfr hsr hor
   have hl := (hor.1 _ (List.mem_cons_self ..)).1
   simp only at hl
   have hy := run_yield (P := P) (args := #[enc x, enc2 x]) hl (by rw [hrec]; rfl)
   rw [hrec] at hy
   refine ⟨_, _, assign, body, hy, roundIn_of_wpIn trivial ?_⟩
   have hdist : w.heap.size + 1 ≠ w.heap.size := by omega
   let M0 : List Nat := (w.heap.size + 1) :: w.heap.size :: (Lk s).map Prod.fst
   let Y : Cx := ⟨wr, hr, M0, some (w.heap.size + 1), [(w.heap.size + 1, .loop (rec .ready none)), (w.heap.size, .deferred (some []))]⟩
   let Y' : Cx := ⟨wr, hr, M0, some (w.heap.size + 1), [(w.heap.size + 1, .loop { rec .ready none with state := .busy }), (w.heap.size, .deferred (some []))]⟩
   have hb := hround x rest s hIs Y Y' (fun a₁ w₁ => ∃ w₂, (Instr.beginRound (w.heap.size + 1)).run P w₁ = .ok () w₂ ∧ body.wpIn (Fence.wide.inRound (w.heap.size + 1)) 0 P
    (roundPost P (w.heap.size + 1) fun e w' => ∃ b L' Φ', e = .returned (.bool b) ∧ (if b then It rest L' Φ' else Itx L' Φ') ∧ StW (cx wr hr M0) L' Φ' w') a₁ w₂) rfl ?_
   ·refine hb _ wr ⟨?_, rfl, ?_, hr, ⟨hfr, hsr, Hp.le_refl hr, fun b hb => .inl hb, hor.sub ((List.sublist_cons_self _ _).trans (List.sublist_cons_self _ _)), fun e he => .inl ?_, KeptBut.refl _ _, fun d hd => ?_⟩⟩
    ·have : a.tmps.size = n := hs.size
     simp [this]
    ·have h1 := hs.has.put (d := p) (by rw [hs.size]; simpa [okDst, Nat.blt_eq] using hpn) (enc x)
     have := h1.put (d := p2) (by rw [Act.put_size, hs.size]; simpa [okDst, Nat.blt_eq] using hpn2) (enc2 x)
     exact fun t v e => by simpa [Act.put] using this t v e
    ·exact List.mem_cons_of_mem _ (List.mem_cons_of_mem _ (List.mem_map_of_mem he))
    ·have hnd := hor.2
     simp only [List.map_cons, List.nodup_cons, List.mem_cons, not_or] at hnd
     simp only [Y, List.mem_cons, List.not_mem_nil, or_false] at hd
     rcases hd with rfl | rfl
     ·exact ⟨hl, (hor.1 _ (List.mem_cons_self ..)).2, fun e he hE => hnd.1.2 (by simp only at hE; rw [← hE]; exact List.mem_map_of_mem he), .inr (by simp [Y, M0])⟩
     ·have h1 := hor.1 _ (List.mem_cons_of_mem _ (List.mem_cons_self ..))
      exact ⟨h1.1, h1.2, fun e he hE => hnd.2.1 (by simp only at hE; rw [← hE]; exact List.mem_map_of_mem he), .inr (by simp [Y, M0])⟩
   ·-- the record turns to busy; the body; the record turns back
    intro E1 L1 Φ1 hJ a1 w2 hs1
    obtain ⟨q1, hq1⟩ := hs1.world
    have hl1 := (hq1.res (w.heap.size + 1, .loop (rec .ready none)) (by simp [Y])).1
    simp only at hl1
    refine ⟨_, run_beginRound hl1 (by rw [hrec]), ?_⟩
    have hst1 : StW Y' L1 Φ1 (w2.putObj (w.heap.size + 1) (.loop { rec .ready none with state := .busy })) := by
     have := StW.reput (X := Y) (d := w.heap.size + 1) (o := .loop (rec .ready none)) (o' := .loop { rec .ready none with state := .busy }) (ds := [(w.heap.size, .deferred (some []))]) (by simp) hs1.world
     exact this
    have hbody := hJ a1 _ ⟨hs1.size, hs1.defers, hs1.has, hst1⟩
    refine Code.wpIn_mono (fun e a2 w3 hp => ?_) hbody
    have fin : ∀ (jump : Option Code) (s' : σ), StW Y' (Lk s') (Φk s') w3 →
      (Instr.endRound (w.heap.size + 1) jump).run P w3 = .ok (.bool jump.isNone) (w3.putObj (w.heap.size + 1) (.loop (rec (if jump.isNone then .ready else .done) jump))) ∧
      StW (cx wr hr M0) ((w.heap.size + 1, .loop (rec (if jump.isNone then .ready else .done) jump)) :: (w.heap.size, .deferred (some [])) :: Lk s') (Φk s') (w3.putObj (w.heap.size + 1) (.loop (rec (if jump.isNone then .ready else .done) jump))) := fun jump s' h3 => by
     obtain ⟨q3, hq3⟩ := h3
     have hl3 := (hq3.res (w.heap.size + 1, .loop { rec .ready none with state := .busy }) (by simp [Y'])).1
     simp only at hl3
     have hrun := run_endRound (P := P) jump hl3
     refine ⟨by rw [hrec] at hrun ⊢; exact hrun, ?_⟩
     have h4 := StW.reput (X := Y') (d := w.heap.size + 1) (o := .loop { rec .ready none with state := .busy }) (o' := .loop (rec (if jump.isNone then .ready else .done) jump)) (ds := [(w.heap.size, .deferred (some []))]) (by simp) ⟨q3, hq3⟩
     exact StW.unres (by simp) h4
    cases e with
    | normal =>
     obtain ⟨s', hI', h3⟩ := hp
     obtain ⟨hrun, h4⟩ := fin none s' h3
     exact ⟨_, _, hrun, true, _, _, rfl, ⟨s', hI', rfl, rfl⟩, h4⟩
    | ret =>
     obtain ⟨s', hI', h3⟩ := hp
     obtain ⟨hrun, h4⟩ := fin (some .ret) s' h3
     exact ⟨_, _, hrun, false, _, _, rfl, ⟨.ret, s', hI', rfl, rfl⟩, h4⟩
    | exit id =>
     obtain ⟨s', hI', h3⟩ := hp
     obtain ⟨hrun, h4⟩ := fin (some (.exit id)) s' h3
     exact ⟨_, _, hrun, false, _, _, rfl, ⟨.exit id, s', hI', rfl, rfl⟩, h4⟩
    | goto t => exact hp.elim
    | panic c => exact hp.elim
    | outgrown => exact hp.elim
end
end Go.Fen

