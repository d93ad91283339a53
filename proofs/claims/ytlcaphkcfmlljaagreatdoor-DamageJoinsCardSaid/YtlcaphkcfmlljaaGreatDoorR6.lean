/- Proved: Join and Count agree with their definitions for any list and gap. -/
import Derived.Test.YtlcaphkcfmlljaaGreatDoorC1
import Derived.Test.YtlcaphkcfmlljaaGreatDoorC2
import Derived.Test.YtlcaphkcfmlljaaGreatDoorLJ
import Derived.Test.YtlcaphkcfmlljaaGreatDoorCards
import Derived.Test.YtlcaphkcfmlljaaGreatDoorTie
import Derived.Deep.DeepHandedRow
import Derived.SevenTiedAt
import Derived.Test.YtlcaphkcfmlljaaGreatDoorR6K
set_option linter.unusedVariables false
set_option linter.unusedSimpArgs false
set_option linter.unnecessarySimpa false
namespace Go.Proofs.YtlcaphkcfmlljaaGreatDoor
open Go Go.Fen
open Go.RowKit Go.ChangeShapes Go.ChangeAt Go.WideShapes
set_option maxRecDepth 100000 in
set_option maxHeartbeats 1000000 in
theorem damageJoins_contract (H : Type) (enc : TypeId × Value → H) (W : World) (base : Nat) (args : Array Value) (ds gs : List (DataW H)) (before : List MemPlace)
    (hval : ∀ (j : Nat) t v, Tryz.f9.params[j]? = some t → args[j]? = some v → Value.okWide Tryz.prog W .any base t v)
    (hW : DataW.Whole enc Tryz.prog Tryz.f9.params.toList Rows.damageJoinsSpec.vars false W args.toList ds gs before) (hL : laidMetH Tryz.prog Rows.damageJoinsRow.laid W) :
    Calls Tryz.prog 9 args W fun e W' => ∃ v, e = .returned v ∧ Rows.damageJoinsSpec.post enc Tryz.prog Tryz.f9 false true false false W args v W' := by
  have hW0 := hW
  obtain ⟨p, q, hA0, hV, rfl, hfz, hnd⟩ := hW
  have hgs : gs = [] := by
    cases gs with
    | nil => rfl
    | cons g gs => exact hV.elim
  subst hgs
  have hA : DataW.TrodAll enc Tryz.prog W 0 (fun _ => true) true Tryz.f9.params.toList args.toList ds p := hA0
  rw [Tryz.params9] at hA hval
  obtain ⟨v0, vs0, d0, ds0, p0, q0, ha0, hd0, hp0, t0, r0⟩ := trodAll_cons hA
  obtain ⟨v1, vs1, d1, ds1, p1, q1, ha1, hd1, hp1, t1, r1⟩ := trodAll_cons r0
  obtain ⟨en, dn, pn⟩ := trodAll_nil r1
  subst en dn
  subst ha1 hd1
  subst hd0
  obtain rfl : args = #[v0, v1] := by cases args; simp_all
  obtain ⟨fu0, t0⟩ := t0
  obtain ⟨a0q, a0k, a0, e0, hh0_0, hh0_1, hh0_3, hh0_2, _⟩ := open_sl (c := cSp3) (D := dSp3) (p := fun _ a => pSp3 a) cod63 (sz := 3) (fun _ => rfl) (by kernel_rfl) (by decide) Tryz.underlying56 t0
  obtain rfl : v0 = .slice a0q a0.length a0k := by have := hval 0 56 v0 rfl rfl; cases v0 <;> simp_all [Value.cells, Value.okWide, Cell.okWide, Cell.ok, Tryz.underlying56]
  obtain ⟨fu1, t1⟩ := t1
  obtain ⟨a1, e1, -, hh1_0⟩ := (cod_int Tryz.underlying3) t1
  obtain rfl : v1 = iv a1 := by have := hval 1 3 v1 rfl rfl; cases v1 <;> simp_all [Value.cells, Value.okWide, Cell.okWide, Cell.ok, Tryz.underlying3, cInt, cBool, cStr, cU8]
  have hlaid : laidMet Tryz.prog Rows.damageJoinsRow.laid W := hL
  have htab0 : (sl cSpn (some ⟨0, 0, none⟩) tab0).p (hpOf W) := laid_fact (P := Tryz.prog) (g := 0) (T := 168) (D := dSpn) (p := fun _ a => pSpn a) (List.mem_of_getElem? (i := 4) rfl) (by kernel_rfl) (by kernel_rfl) cod167 (sz := 2) (fun _ => rfl) (by kernel_rfl) Tryz.underlying168 (by kernel_rfl) tdecSpn tdecSpn_of (by kernel_rfl) hlaid
  have htab1 : (sl cSpn (some ⟨1, 0, none⟩) tab1).p (hpOf W) := laid_fact (P := Tryz.prog) (g := 1) (T := 170) (D := dSpn) (p := fun _ a => pSpn a) (List.mem_of_getElem? (i := 5) rfl) (by kernel_rfl) (by kernel_rfl) cod167 (sz := 2) (fun _ => rfl) (by kernel_rfl) Tryz.underlying170 (by kernel_rfl) tdecSpn tdecSpn_of (by kernel_rfl) hlaid
  have hcon := (law24_DamageJoins_c a0 a1 a0q a0k (by first | omega | (simp only [List.length_take, List.length_drop, List.length_append, List.length_cons, List.length_nil, List.length_set, List.length_map]; omega) | decide) (by first | omega | (simp only [List.length_take, List.length_drop, List.length_append, List.length_cons, List.length_nil, List.length_set, List.length_map]; omega) | decide) (by exact fun y hy => ⟨(hh0_3 y hy).2.1, (hh0_3 y hy).2.2⟩) (by exact hh1_0) true (damageJoins_law _ _ (fun y hy => ⟨(hh0_3 y hy).2.1, (hh0_3 y hy).2.2⟩) hh1_0.2)).2 W (hpOf W) (all_cons hh0_2 (all_cons htab0 (all_cons htab1 all_nil))) (fun b o h => h) ⟨(fun e he => by cases he), List.nodup_nil⟩
  refine hcon.mono fun e W' ⟨x, he, hst⟩ => ⟨_, he, ?_⟩
  obtain ⟨h', hst⟩ := hst
  exact post_true (by kernel_rfl) (by kernel_rfl) rfl Tryz.underlying4 rfl hW0 (KeptBut.below hst.kept) rfl

/-- A world for the witness: the settled one, the listed variables holding what their initialisers lay. -/
noncomputable def damageJoinsWorld (os : Os) : World :=
  { World.holding Tryz.prog os ⟨#[], #[], []⟩ with heap := (putTab (putTab (putTab (putTab (putTab (putTab (World.holding Tryz.prog os ⟨#[], #[], []⟩).heap 6 (laidCells Rows.laid_math_bits_deBruijn32tab)) 7 (laidCells Rows.laid_math_bits_deBruijn64tab)) 5 (laidCells Rows.laid_internal_strconv_uint64pow10)) 4 (laidCells Rows.laid_fenestra_color_named)) 0 (laidCells Rows.laid_fenestra_width_marks)) 1 (laidCells Rows.laid_fenestra_width_wides)) }
set_option maxRecDepth 100000 in
theorem damageJoins_laid_met (os : Os) : laidMet Tryz.prog Rows.damageJoinsRow.laid ((damageJoinsWorld os).forCall (fun _ _ => 0) ⟨#[], #[(.slice none 0 0 : Value), (.int .i64 0 : Value)], []⟩).memory :=
  laidMet_of_run' 8 (by kernel_rfl) (by kernel_rfl)
set_option maxRecDepth 100000 in
theorem damageJoins_reads (os : Os) {H : Type} (enc : TypeId × Value → H) : DataW.whole enc Tryz.prog ((damageJoinsWorld os).forCall (fun _ _ => 0) ⟨#[], #[(.slice none 0 0 : Value), (.int .i64 0 : Value)], []⟩).memory Tryz.f9.params.toList Rows.damageJoinsSpec.vars false (#[(.slice none 0 0 : Value), (.int .i64 0 : Value)] : Array Value).toList 8 = some ([.nil, .lit (.int .i64 0)], [], []) ∧ Rows.uptoSmall H (([.nil, .lit (.int .i64 0)] : List (DataW H)) ++ []) = true :=
  ⟨by kernel_rfl, by kernel_rfl⟩
set_option maxRecDepth 100000 in
theorem damageJoins_lifted (os : Os) (started : os.Started) (H : Type) (enc : TypeId × Value → H) (F : Stop.Interp) :
    ReturnsInHanded {} Tryz.checked os 9 .any ((OpenSpec.ofChange Rows.damageJoinsSpec).preRow enc Tryz.prog Tryz.f9 Rows.damageJoinsRow.domain false Rows.damageJoinsRow.laid) (((OpenSpec.ofChange Rows.damageJoinsSpec).at F).post enc Tryz.prog Tryz.f9 false true false false) := by
  obtain ⟨hx, hsm⟩ := damageJoins_reads os enc
  refine returnsInHanded_of_row (C := Tryz.checked) (s := OpenSpec.ofChange Rows.damageJoinsSpec) (show ownKnob Tryz.prog.godebug = none by kernel_rfl) started (by kernel_rfl) Tryz.func9
    (witness_row_at (enc := enc) (C := Tryz.checked) false (damageJoinsWorld os) #[(.slice none 0 0 : Value), (.int .i64 0 : Value)] rfl (by kernel_rfl) (by kernel_rfl) (by kernel_rfl)
      (OpenSpec.preRow_of_cond 8 hx (by kernel_rfl) (fun k hk => by cases hk) (by kernel_rfl) (damageJoins_laid_met os))) ?_
  intro W base args ds gs before hval hW _ hcond _ hL _ _
  exact damageJoins_contract H enc W base args ds gs before hval hW hL
theorem damageJoins_said : Rows.DamageJoinsSaid :=
  OpenClaim.holds_of_cond 9 Tryz.f9 rfl rfl rfl rfl rfl rfl rfl ⟨rfl, rfl, rfl, rfl, rfl⟩ rfl rfl rfl rfl rfl (by kernel_rfl) Tryz.func9 damageJoins_closed
    (of_decide_eq_true (by kernel_rfl)) (by unfold Func.isWrapper; first | (rw [if_pos (by decide +kernel)]; kernel_rfl) | (rw [if_neg (by decide +kernel)]; exact ⟨rfl, rfl⟩))
    (fun os started H enc _ F => by rw [OpenClaim.pre_eq_preRow]; exact damageJoins_lifted os started H enc F)
theorem damageJoins_plain (f : FuncId) (fn : Func) (hf : Tryz.pinned.checked.prog.funcNamed Rows.damageJoinsRow.func = some f) (hfn : Tryz.pinned.checked.prog.funcs[f]? = some fn) :
    true = Tryz.pinned.checked.prog.looks [] ∧ ∀ (j : Nat) t, fn.params[j]? = some t → Tryz.pinned.checked.prog.wantsStandIn t = false := by
  obtain rfl : f = 9 := Option.some.inj ((show Tryz.prog.funcNamed Rows.damageJoinsRow.func = some 9 by kernel_rfl).symm.trans hf) |>.symm
  obtain rfl : fn = Tryz.f9 := (Option.some.inj (Tryz.func9.symm.trans hfn)).symm
  refine ⟨by kernel_rfl, fun j t ht => ?_⟩
  have hall : (Tryz.f9.params.toList.all fun t => !(Tryz.pinned.checked.prog.wantsStandIn t)) = true := by kernel_rfl
  have := List.all_eq_true.1 hall t (by simpa using Array.mem_of_getElem? ht)
  simpa using this
/-- The statement. -/
theorem damageJoins_card : Rows.DamageJoinsCardSaid :=
  Claim7.holds_tied_plain_at .later [] _ _ _ _ damageJoins_said (fun _ h => by cases h) (by kernel_rfl) (fun _ h => by cases h) damageJoins_row_tie rfl ⟨rfl, rfl⟩ (by kernel_rfl) rfl damageJoins_plain (by kernel_rfl)
end Go.Proofs.YtlcaphkcfmlljaaGreatDoor
