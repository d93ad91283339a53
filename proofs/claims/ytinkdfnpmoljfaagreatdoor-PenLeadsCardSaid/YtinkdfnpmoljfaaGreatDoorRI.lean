/- Proved: fenestralaw26.PenLeads returns true for every three styles, and its arguments read afterwards as they read before. -/
import Derived.Test.YtinkdfnpmoljfaaGreatDoorC3
import Derived.Test.YtinkdfnpmoljfaaGreatDoorC4
import Derived.Test.YtinkdfnpmoljfaaGreatDoorMP7
import Derived.Test.YtinkdfnpmoljfaaGreatDoorCards
import Derived.Test.YtinkdfnpmoljfaaGreatDoorTie
import Derived.Deep.DeepHandedRow
import Derived.SevenTiedAt
import Derived.Test.YtinkdfnpmoljfaaGreatDoorRIK
set_option linter.unusedVariables false
set_option linter.unusedSimpArgs false
set_option linter.unnecessarySimpa false
namespace Go.Proofs.YtinkdfnpmoljfaaGreatDoor
open Go Go.Fen
open Go.RowKit Go.ChangeShapes Go.ChangeAt Go.WideShapes
set_option maxRecDepth 100000 in
set_option maxHeartbeats 1000000 in
theorem penLeads_contract (H : Type) (enc : TypeId × Value → H) (W : World) (base : Nat) (args : Array Value) (ds gs : List (DataW H)) (before : List MemPlace)
  (hval : ∀ (j : Nat) t v, Tryz.f14.params[j]? = some t → args[j]? = some v → Value.okWide Tryz.prog W .any base t v)
  (hW : DataW.Whole enc Tryz.prog Tryz.f14.params.toList Rows.penLeadsSpec.vars false W args.toList ds gs before) (hL : laidMetH Tryz.prog Rows.penLeadsRow.laid W) :
  Calls Tryz.prog 14 args W fun e W' => ∃ v, e = .returned v ∧ Rows.penLeadsSpec.post enc Tryz.prog Tryz.f14 false true false false W args v W' := by
 have hW0 := hW
 obtain ⟨p, q, hA0, hV, rfl, hfz, hnd⟩ := hW
 have hgs : gs = [] := by
  cases gs with
  | nil => rfl
  | cons g gs => exact hV.elim
 subst hgs
 have hA : DataW.TrodAll enc Tryz.prog W 0 (fun _ => true) true Tryz.f14.params.toList args.toList ds p := hA0
 rw [Tryz.params14] at hA hval
 obtain ⟨v0, vs0, d0, ds0, p0, q0, ha0, hd0, hp0, t0, r0⟩ := trodAll_cons hA
 obtain ⟨v1, vs1, d1, ds1, p1, q1, ha1, hd1, hp1, t1, r1⟩ := trodAll_cons r0
 obtain ⟨v2, vs2, d2, ds2, p2, q2, ha2, hd2, hp2, t2, r2⟩ := trodAll_cons r1
 obtain ⟨en, dn, pn⟩ := trodAll_nil r2
 subst en dn
 subst ha2 hd2
 subst ha1 hd1
 subst hd0
 obtain rfl : args = #[v0, v1, v2] := by cases args; simp_all
 have k0 := hval 0 70 v0 rfl rfl
 simp only [Value.okWide, Tryz.underlying70] at k0
 obtain ⟨c0, rfl, -, -⟩ := k0
 obtain ⟨fu0, t0⟩ := t0
 obtain ⟨a0, e0, -, pp0⟩ := cod70 t0
 have ec0 : c0 = _ := Array.ext' (show c0.toList = (List.toArray _).toList from e0)
 subst ec0
 have k1 := hval 1 70 v1 rfl rfl
 simp only [Value.okWide, Tryz.underlying70] at k1
 obtain ⟨c1, rfl, -, -⟩ := k1
 obtain ⟨fu1, t1⟩ := t1
 obtain ⟨a1, e1, -, pp1⟩ := cod70 t1
 have ec1 : c1 = _ := Array.ext' (show c1.toList = (List.toArray _).toList from e1)
 subst ec1
 have k2 := hval 2 70 v2 rfl rfl
 simp only [Value.okWide, Tryz.underlying70] at k2
 obtain ⟨c2, rfl, -, -⟩ := k2
 obtain ⟨fu2, t2⟩ := t2
 obtain ⟨a2, e2, -, pp2⟩ := cod70 t2
 have ec2 : c2 = _ := Array.ext' (show c2.toList = (List.toArray _).toList from e2)
 subst ec2
 have hlaid : laidMet Tryz.prog Rows.penLeadsRow.laid W := hL
 have htab2 : (sl cAtr (some ⟨2, 0, none⟩) tab2).p (hpOf W) := laid_fact (P := Tryz.prog) (g := 2) (T := 258) (D := dAtr) (p := fun _ a => pAtr a) (List.mem_of_getElem? (i := 4) rfl) (by kernel_rfl) (by kernel_rfl) cod257 (sz := 3) (fun _ => rfl) (by kernel_rfl) Tryz.underlying258 (by kernel_rfl) tdecAtr tdecAtr_of (by kernel_rfl) hlaid
 have htab5 : (tabP 5 pow10Cells).p (hpOf W) := pow10_flat ▸ laid_tab (P := Tryz.prog) (g := 5) (T := 307) (c := cU64) (D := dU64) (p := fun _ _ => True) (List.mem_of_getElem? (i := 2) rfl) (by kernel_rfl) (by kernel_rfl) (cod_u64 Tryz.underlying126) (sz := 1) (fun _ => rfl) (by kernel_rfl) Tryz.underlying307 (by kernel_rfl) tdecU64 tdecU64_of (tab := Lib.pow10Tab) (by kernel_rfl) hlaid
 have hcon := (law26_PenLeads_c a0 a1 a2 true (penLeads_law _ _ _ pp0.1 pp1.1 pp2.1)).2 W (hpOf W) (all_cons htab2 (all_cons htab5 all_nil)) (fun b o h => h) ⟨(fun e he => by cases he), List.nodup_nil⟩
 refine hcon.mono fun e W' ⟨x, he, hst⟩ => ⟨_, he, ?_⟩
 obtain ⟨h', hst⟩ := hst
 exact post_true (by kernel_rfl) (by kernel_rfl) rfl Tryz.underlying4 rfl hW0 (KeptBut.below hst.kept) rfl

/-- A world for the witness: the settled one, the listed variables holding what their initialisers lay. -/
noncomputable def penLeadsWorld (os : Os) : World :=
 { World.holding Tryz.prog os ⟨#[], #[], []⟩ with heap := (putTab (putTab (putTab (putTab (putTab (putTab (putTab (World.holding Tryz.prog os ⟨#[], #[], []⟩).heap 6 (laidCells Rows.laid_math_bits_deBruijn32tab)) 7 (laidCells Rows.laid_math_bits_deBruijn64tab)) 5 (laidCells Rows.laid_internal_strconv_uint64pow10)) 4 (laidCells Rows.laid_fenestra_color_named)) 2 (laidCells Rows.laid_fenestra_sgr_attrs)) 0 (laidCells Rows.laid_fenestra_width_marks)) 1 (laidCells Rows.laid_fenestra_width_wides)) }
set_option maxRecDepth 100000 in
theorem penLeads_laid_met (os : Os) : laidMet Tryz.prog Rows.penLeadsRow.laid ((penLeadsWorld os).forCall (fun _ _ => 0) ⟨#[], #[(.agg #[.int .i64 0, .int .i64 0, .int .i64 0, .int .i64 0, .int .i64 0, .int .i64 0, .int .i64 0, .int .i64 0] : Value), (.agg #[.int .i64 0, .int .i64 0, .int .i64 0, .int .i64 0, .int .i64 0, .int .i64 0, .int .i64 0, .int .i64 0] : Value), (.agg #[.int .i64 0, .int .i64 0, .int .i64 0, .int .i64 0, .int .i64 0, .int .i64 0, .int .i64 0, .int .i64 0] : Value)], []⟩).memory :=
 laidMet_of_run' 8 (by kernel_rfl) (by kernel_rfl)
set_option maxRecDepth 100000 in
theorem penLeads_reads (os : Os) {H : Type} (enc : TypeId × Value → H) : DataW.whole enc Tryz.prog ((penLeadsWorld os).forCall (fun _ _ => 0) ⟨#[], #[(.agg #[.int .i64 0, .int .i64 0, .int .i64 0, .int .i64 0, .int .i64 0, .int .i64 0, .int .i64 0, .int .i64 0] : Value), (.agg #[.int .i64 0, .int .i64 0, .int .i64 0, .int .i64 0, .int .i64 0, .int .i64 0, .int .i64 0, .int .i64 0] : Value), (.agg #[.int .i64 0, .int .i64 0, .int .i64 0, .int .i64 0, .int .i64 0, .int .i64 0, .int .i64 0, .int .i64 0] : Value)], []⟩).memory Tryz.f14.params.toList Rows.penLeadsSpec.vars false (#[(.agg #[.int .i64 0, .int .i64 0, .int .i64 0, .int .i64 0, .int .i64 0, .int .i64 0, .int .i64 0, .int .i64 0] : Value), (.agg #[.int .i64 0, .int .i64 0, .int .i64 0, .int .i64 0, .int .i64 0, .int .i64 0, .int .i64 0, .int .i64 0] : Value), (.agg #[.int .i64 0, .int .i64 0, .int .i64 0, .int .i64 0, .int .i64 0, .int .i64 0, .int .i64 0, .int .i64 0] : Value)] : Array Value).toList 8 = some ([.agg [.lit (.int .i64 0), .lit (.int .i64 0), .agg [.lit (.int .i64 0), .lit (.int .i64 0)], .agg [.lit (.int .i64 0), .lit (.int .i64 0)], .agg [.lit (.int .i64 0), .lit (.int .i64 0)]], .agg [.lit (.int .i64 0), .lit (.int .i64 0), .agg [.lit (.int .i64 0), .lit (.int .i64 0)], .agg [.lit (.int .i64 0), .lit (.int .i64 0)], .agg [.lit (.int .i64 0), .lit (.int .i64 0)]], .agg [.lit (.int .i64 0), .lit (.int .i64 0), .agg [.lit (.int .i64 0), .lit (.int .i64 0)], .agg [.lit (.int .i64 0), .lit (.int .i64 0)], .agg [.lit (.int .i64 0), .lit (.int .i64 0)]]], [], []) ∧ Rows.uptoSmall H (([.agg [.lit (.int .i64 0), .lit (.int .i64 0), .agg [.lit (.int .i64 0), .lit (.int .i64 0)], .agg [.lit (.int .i64 0), .lit (.int .i64 0)], .agg [.lit (.int .i64 0), .lit (.int .i64 0)]], .agg [.lit (.int .i64 0), .lit (.int .i64 0), .agg [.lit (.int .i64 0), .lit (.int .i64 0)], .agg [.lit (.int .i64 0), .lit (.int .i64 0)], .agg [.lit (.int .i64 0), .lit (.int .i64 0)]], .agg [.lit (.int .i64 0), .lit (.int .i64 0), .agg [.lit (.int .i64 0), .lit (.int .i64 0)], .agg [.lit (.int .i64 0), .lit (.int .i64 0)], .agg [.lit (.int .i64 0), .lit (.int .i64 0)]]] : List (DataW H)) ++ []) = true :=
 ⟨by kernel_rfl, by kernel_rfl⟩
set_option maxRecDepth 100000 in
theorem penLeads_lifted (os : Os) (started : os.Started) (H : Type) (enc : TypeId × Value → H) (F : Stop.Interp) :
  ReturnsInHanded {} Tryz.checked os 14 .any ((OpenSpec.ofChange Rows.penLeadsSpec).preRow enc Tryz.prog Tryz.f14 Rows.penLeadsRow.domain false Rows.penLeadsRow.laid) (((OpenSpec.ofChange Rows.penLeadsSpec).at F).post enc Tryz.prog Tryz.f14 false true false false) := by
 obtain ⟨hx, hsm⟩ := penLeads_reads os enc
 refine returnsInHanded_of_row (C := Tryz.checked) (s := OpenSpec.ofChange Rows.penLeadsSpec) (show ownKnob Tryz.prog.godebug = none by kernel_rfl) started (by kernel_rfl) Tryz.func14
  (witness_row_at (enc := enc) (C := Tryz.checked) false (penLeadsWorld os) #[(.agg #[.int .i64 0, .int .i64 0, .int .i64 0, .int .i64 0, .int .i64 0, .int .i64 0, .int .i64 0, .int .i64 0] : Value), (.agg #[.int .i64 0, .int .i64 0, .int .i64 0, .int .i64 0, .int .i64 0, .int .i64 0, .int .i64 0, .int .i64 0] : Value), (.agg #[.int .i64 0, .int .i64 0, .int .i64 0, .int .i64 0, .int .i64 0, .int .i64 0, .int .i64 0, .int .i64 0] : Value)] rfl (by kernel_rfl) (by kernel_rfl) (by kernel_rfl)
   (OpenSpec.preRow_of_cond 8 hx (by kernel_rfl) (fun k hk => by cases hk) (by kernel_rfl) (penLeads_laid_met os))) ?_
 intro W base args ds gs before hval hW _ hcond _ hL _ _
 exact penLeads_contract H enc W base args ds gs before hval hW hL
theorem penLeads_said : Rows.PenLeadsSaid :=
 OpenClaim.holds_of_cond 14 Tryz.f14 rfl rfl rfl rfl rfl rfl rfl ⟨rfl, rfl, rfl, rfl, rfl⟩ rfl rfl rfl rfl rfl (by kernel_rfl) Tryz.func14 penLeads_closed
  (of_decide_eq_true (by kernel_rfl)) (by unfold Func.isWrapper; first | (rw [if_pos (by decide +kernel)]; kernel_rfl) | (rw [if_neg (by decide +kernel)]; exact ⟨rfl, rfl⟩))
  (fun os started H enc _ F => by rw [OpenClaim.pre_eq_preRow]; exact penLeads_lifted os started H enc F)
theorem penLeads_plain (f : FuncId) (fn : Func) (hf : Tryz.pinned.checked.prog.funcNamed Rows.penLeadsRow.func = some f) (hfn : Tryz.pinned.checked.prog.funcs[f]? = some fn) :
  true = Tryz.pinned.checked.prog.looks [] ∧ ∀ (j : Nat) t, fn.params[j]? = some t → Tryz.pinned.checked.prog.wantsStandIn t = false := by
 obtain rfl : f = 14 := Option.some.inj ((show Tryz.prog.funcNamed Rows.penLeadsRow.func = some 14 by kernel_rfl).symm.trans hf) |>.symm
 obtain rfl : fn = Tryz.f14 := (Option.some.inj (Tryz.func14.symm.trans hfn)).symm
 refine ⟨by kernel_rfl, fun j t ht => ?_⟩
 have hall : (Tryz.f14.params.toList.all fun t => !(Tryz.pinned.checked.prog.wantsStandIn t)) = true := by kernel_rfl
 have := List.all_eq_true.1 hall t (by simpa using Array.mem_of_getElem? ht)
 simpa using this
/-- The statement. -/
theorem penLeads_card : Rows.PenLeadsCardSaid :=
 Claim7.holds_tied_plain_at .later [] _ _ _ _ penLeads_said (fun _ h => by cases h) (by kernel_rfl) (fun _ h => by cases h) penLeads_row_tie rfl ⟨rfl, rfl⟩ (by kernel_rfl) rfl penLeads_plain (by kernel_rfl)
end Go.Proofs.YtinkdfnpmoljfaaGreatDoor

