import Derived.Test.YtinkdfnpmoljfaaGreatDoorFenT
import Derived.Tactics
import Derived.Tactics2
import Derived.Defers
import Derived.Recover
import Derived.Laws.Pointers
import Derived.Test.YtinkdfnpmoljfaaGreatDoorProg
set_option linter.unusedVariables false
set_option linter.unusedSimpArgs false
namespace Go.Proofs.YtinkdfnpmoljfaaGreatDoor
open Go Go.Fen
theorem catch_panicking (w : World) :
  CallsD Tryz.prog 187 #[] (.panicking [{ v := nonePanic, recovered := false }]) w fun e u' w' =>
   e = .returned (.tuple #[]) ∧ u' = .panicking [{ v := nonePanic, recovered := true }] ∧ w' = w := by
 refine callsD_of_wpS Tryz.func187 rfl fun c₀ cs hu => ?_
 apply wpS_seq
 apply wpS_region
 simp [wpOpsS, go_sem, recoverD, hu, Tryz.ntmps187, Exit.thenS]
 apply wpS_seq
 apply wpS_region
 simp [wpOpsS, go_sem, recoverD, hu, Tryz.ntmps187, Exit.thenS]
 refine wpS_cond (t := true) (by simp [Act.eval, Array.replicate]) ?_
 simp only [if_true]
 apply wpS_region
 simp [wpOpsS, go_sem, bodyPostS, results, Tryz.results187, Instr.typeAssert]
theorem catch_idle (w : World) :
  CallsD Tryz.prog 187 #[] .returning w fun e u' w' => e = .returned (.tuple #[]) ∧ u' = .returning ∧ w' = w := by
 refine callsD_of_wpS Tryz.func187 rfl fun c₀ cs hu => ?_
 apply wpS_seq
 apply wpS_region
 simp [wpOpsS, go_sem, recoverD, hu, Tryz.ntmps187, Exit.thenS]
 apply wpS_seq
 apply wpS_region
 simp [wpOpsS, go_sem, recoverD, hu, Tryz.ntmps187, Exit.thenS]
 refine wpS_cond (t := false) (by simp [Act.eval, Array.replicate]) ?_
 simp only [Bool.false_eq_true, if_false]
 refine wpS_of_wp (wp_skip ?_)
 cases c₀
 simp_all [bodyPostS, results, Tryz.results187]
def doneV (R : Option (List UInt8)) : List UInt8 × Bool := match R with | some s => (s, true) | none => ([], false)
theorem done_c {k : FuncId} {cap : List Value} {L0 : Fen.Own} {Φ0 : List Pers} (R : Option (List UInt8)) (h : ConO Tryz.prog k cap L0 Φ0 nonePanic R (fun s => .string (bs s))) :
  Con Tryz.prog 139 [.func (.func k) #[] cap.toArray] L0 Φ0 Unit (fun _ => .tuple #[.string (bs (doneV R).1), .bool (doneV R).2]) (fun _ => []) (fun _ => []) := by
 refine ⟨⟨by kernel_rfl⟩, fun w h0 hq hs ho => ?_⟩
 have hc := h.2 w h0 hq hs ho
 have hb := h.1
 have hcf : ∀ w : World, (callFunc k cap.toArray).run Tryz.prog w = .ok (.enter k cap.toArray) w := fun w => run_callFunc_body hb _ w
 cases R with
 | none =>
  have hc' : Calls Tryz.prog k cap.toArray w fun e w' => e = .panicked [{ v := nonePanic, recovered := false }] ∧ StW (cx w h0 (L0.map Prod.fst)) [] [] w' := hc.mono fun e w' ⟨h1, h2⟩ => ⟨h2, h1⟩
  go_enter_defers Tryz.func139, Tryz.ntmps139
  go_wp2_with (refine hc'.mono ?_; rintro e w' ⟨rfl, hw⟩)
  refine leaves_cons (f := 187) (args := #[]) (by simp) (by simp [go_sem]) ?_
  refine (catch_panicking _).mono ?_
  rintro e u' w'' ⟨rfl, rfl, rfl⟩
  simpa [Leaves, settle, results, Tryz.results139, go_sem, doneV] using hw
 | some s =>
  have hc' : Calls Tryz.prog k cap.toArray w fun e w' => e = .returned (.string (bs s)) ∧ StW (cx w h0 (L0.map Prod.fst)) [] [] w' := hc.mono fun e w' ⟨h1, h2⟩ => ⟨h2, h1⟩
  go_enter_defers Tryz.func139, Tryz.ntmps139
  go_wp2_with (refine hc'.mono ?_; rintro e w' ⟨rfl, hw⟩)
  refine leaves_cons (f := 187) (args := #[]) (by simp) (by simp [go_sem]) ?_
  refine (catch_idle _).mono ?_
  rintro e u' w'' ⟨rfl, rfl, rfl⟩
  simpa [Leaves, settle, results, Tryz.results139, go_sem, doneV] using hw
end Go.Proofs.YtinkdfnpmoljfaaGreatDoor

