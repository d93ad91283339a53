import Derived.Test.YtinkdfnpmoljfaaGreatDoorFenY
import Derived.Shelf.Strconv.Itoa3
import Derived.Lib.ItoaLen
import Derived.Test.YtinkdfnpmoljfaaGreatDoorProg
set_option linter.unusedVariables false
set_option linter.unusedSimpArgs false
namespace Go.Fen
open Go Go.RowKit Go.Sort Go.Proofs
set_option maxRecDepth 100000
/-- A package's table, whole. -/
def tabP (g : Nat) (cs : List Value) : Pers := ⟨fun h => ∃ T fr, h g = some (.cells cs.toArray T fr), fun {h h'} hl hp => let ⟨T, fr, e⟩ := hp; ⟨T, fr, hl g _ e⟩⟩
section
variable {P : Program}
/-- The same, the whole table. -/
theorem laid_tab {laid : List (String × DataW Unit)} {w : World} {name : String} {g T : Nat} {ds : List (DataW Unit)} (hm : (name, .agg ds) ∈ laid) (hg : P.globalNamed name = some g) (hT : (P.globals[g]?).map (·.type) = some T)
  {e sz k : Nat} {α : Type} {c : α → List Value} {D : {H : Type} → DataW H → α → Prop} {p : Hp → α → Prop} (hc : Cod P e α c D p) (hcl : ∀ x, (c x).length = sz) (hsz : P.cellsOf e = sz) (ht : P.underlying T = some (.array k e)) (hTc : P.cellsOf T = k * sz)
  (dec : DataW Unit → Option α) (hdec : ∀ d a, D d a → dec d = some a) {tab : List α} (htab : ds.mapM dec = some tab) (h : laidMet P laid w) : (tabP g (tab.flatMap c)).p (hpOf w) := by
 obtain ⟨ps, h, _⟩ := h
 have : ∀ (l : List (String × DataW Unit)) (ps : List MemPlace), DataW.LaidVars P w l ps → (name, .agg ds) ∈ l → ∃ cs fuel q, w.var? P name = some cs ∧ DataW.trod (fun _ => ()) P w 0 (fun _ => true) false fuel T cs.toList = some (.agg ds, q) := by
  intro l
  induction l with
  | nil => intro ps _ hm; cases hm
  | cons y r ih =>
   intro ps h hm
   obtain ⟨n, d⟩ := y
   obtain ⟨g', t, cs, fuel, p', q, h1, h2, h3, h4, h5, _⟩ := h
   rcases List.mem_cons.1 hm with e | hm
   ·simp only [Prod.mk.injEq] at e
    obtain ⟨rfl, rfl⟩ := e
    rw [hg] at h1
    obtain rfl : g = g' := Option.some.inj h1
    rw [hT] at h2
    obtain rfl : T = t := Option.some.inj h2
    exact ⟨cs, fuel, p', h3, h4⟩
   ·exact ih q h5 hm
 obtain ⟨cs, fuel, q, hv, htr⟩ := this laid ps h hm
 have hcs := open_tab hc hcl hsz ht hTc dec hdec htab htr
 unfold World.var? at hv
 rw [hg] at hv
 simp only [Option.bind_some] at hv
 split at hv
 ·rename_i cs' TT fr hh
  obtain rfl : cs' = cs := Option.some.inj hv
  refine ⟨TT, fr, ?_⟩
  rw [← hcs]
  exact hh
 ·cases hv
end
/-- A call that only lays blocks and draws. -/
theorem con_grow {P : Program} {f : FuncId} {args : List Value} {Φ : List Pers} {v : Value} (hb : HasBody P f)
  (h : ∀ (w : World) (h : Hp), (∀ q ∈ Φ, q.p h) → h.sub w → Calls P f args.toArray w fun e w' => e = .returned v ∧ ∃ k os, w' = grow (w.drewN k) os) : ConV P f args Φ v := by
 refine ⟨hb, fun w hp hΦ hs ho => (h w hp hΦ hs).mono fun e w' he => ⟨(), he.1, hp, ?_⟩⟩
 obtain ⟨he, k, os, rfl⟩ := he
 refine ⟨fun q hq => (by cases hq), fun b o hb => ?_, Hp.le_refl _, fun b hb => .inl hb, ⟨fun e he => (by cases he), List.nodup_nil⟩, fun e he => (by cases he), ⟨rfl, rfl, rfl, ?_, fun b hb _ => ?_⟩, fun d hd => (by cases hd)⟩
 ·have hw := hs b o hb
  obtain ⟨hlt, _⟩ := Array.getElem?_eq_some_iff.1 hw
  show (w.heap ++ os)[b]? = some o
  rw [Array.getElem?_append_left hlt]; exact hw
 ·show w.heap.size ≤ (w.heap ++ os).size
  rw [Array.size_append]; omega
 ·show (w.heap ++ os)[b]? = w.heap[b]?
  exact Array.getElem?_append_left hb
end Go.Fen
namespace Go.Proofs.YtinkdfnpmoljfaaGreatDoor
open Go Go.Fen Go.RowKit Go.Sort
set_option maxRecDepth 100000
def lays171_ren : Go.Shelf.Ren := ⟨fun | 171 => 193 | 243 => 221 | 246 => 235 | 283 => 244 | 284 => 245 | 285 => 246 | 286 => 247 | 129 => 253 | 317 => 252 | 318 => 254 | 319 => 255 | 320 => 256 | 337 => 259 | 338 => 260 | n => n, fun | 3 => 3 | 9 => 9 | 2 => 2 | 4 => 4 | 171 => 300 | 0 => 0 | 53 => 126 | 37 => 30 | 5 => 5 | 173 => 302 | 212 => 307 | 51 => 37 | 20 => 20 | 213 => 308 | 46 => 41 | 232 => 312 | 233 => 313 | n => n, fun | 17 => 5 | 18 => 6 | 19 => 7 | n => n⟩
theorem lays171 : Go.Proofs.LaysM.n171 Tryz.prog lays171_ren where
 mixed := by kernel_rfl
 f129 := Tryz.func253.trans (congrArg some (by kernel_rfl))
 f171 := Tryz.func193.trans (congrArg some (by kernel_rfl))
 f243 := Tryz.func221.trans (congrArg some (by kernel_rfl))
 f246 := Tryz.func235.trans (congrArg some (by kernel_rfl))
 f283 := Tryz.func244.trans (congrArg some (by kernel_rfl))
 f284 := Tryz.func245.trans (congrArg some (by kernel_rfl))
 f285 := Tryz.func246.trans (congrArg some (by kernel_rfl))
 f286 := Tryz.func247.trans (congrArg some (by kernel_rfl))
 f317 := Tryz.func252.trans (congrArg some (by kernel_rfl))
 f318 := Tryz.func254.trans (congrArg some (by kernel_rfl))
 f319 := Tryz.func255.trans (congrArg some (by kernel_rfl))
 f320 := Tryz.func256.trans (congrArg some (by kernel_rfl))
 f337 := Tryz.func259.trans (congrArg some (by kernel_rfl))
 f338 := Tryz.func260.trans (congrArg some (by kernel_rfl))
 t0 := Tryz.underlying0
 a0 := Tryz.isAgg0
 z0 := Tryz.sizeOf0
 v0 := Tryz.zeroValue0
 t2 := Tryz.underlying2
 a2 := Tryz.isAgg2
 z2 := Tryz.sizeOf2
 v2 := Tryz.zeroValue2
 t3 := Tryz.underlying3
 a3 := Tryz.isAgg3
 z3 := Tryz.sizeOf3
 v3 := Tryz.zeroValue3
 t4 := Tryz.underlying4
 a4 := Tryz.isAgg4
 z4 := Tryz.sizeOf4
 v4 := Tryz.zeroValue4
 t5 := Tryz.underlying5
 a5 := Tryz.isAgg5
 z5 := Tryz.sizeOf5
 v5 := Tryz.zeroValue5
 t9 := Tryz.underlying9
 a9 := Tryz.isAgg9
 z9 := Tryz.sizeOf9
 v9 := Tryz.zeroValue9
 t20 := Tryz.underlying20
 a20 := Tryz.isAgg20
 z20 := Tryz.sizeOf20
 v20 := Tryz.zeroValue20
 t37 := Tryz.underlying30
 a37 := Tryz.isAgg30
 z37 := Tryz.sizeOf30
 v37 := Tryz.zeroValue30
 t46 := Tryz.underlying41
 a46 := Tryz.isAgg41
 z46 := Tryz.sizeOf41
 v46 := Tryz.zeroValue41
 t51 := Tryz.underlying37
 a51 := Tryz.isAgg37
 z51 := Tryz.sizeOf37
 v51 := Tryz.zeroValue37
 t53 := Tryz.underlying126
 a53 := Tryz.isAgg126
 z53 := Tryz.sizeOf126
 v53 := Tryz.zeroValue126
 t171 := Tryz.underlying300
 a171 := Tryz.isAgg300
 z171 := Tryz.sizeOf300
 v171 := Tryz.zeroValue300
 t173 := Tryz.underlying302
 a173 := Tryz.isAgg302
 z173 := Tryz.sizeOf302
 v173 := Tryz.zeroValue302
 t212 := Tryz.underlying307
 a212 := Tryz.isAgg307
 z212 := Tryz.sizeOf307
 v212 := Tryz.zeroValue307
 t213 := Tryz.underlying308
 a213 := Tryz.isAgg308
 z213 := Tryz.sizeOf308
 t232 := Tryz.underlying312
 a232 := Tryz.isAgg312
 z232 := Tryz.sizeOf312
 v232 := Tryz.zeroValue312
 t233 := Tryz.underlying313
 a233 := Tryz.isAgg313
 z233 := Tryz.sizeOf313
 v233 := Tryz.zeroValue313
 g17 := by kernel_rfl
 g18 := by kernel_rfl
 g19 := by kernel_rfl
 i0 := by kernel_rfl
 i2 := by kernel_rfl
 i3 := by kernel_rfl
 i4 := by kernel_rfl
 i5 := by kernel_rfl
 i9 := by kernel_rfl
 i20 := by kernel_rfl
 i37 := by kernel_rfl
 i46 := by kernel_rfl
 i51 := by kernel_rfl
 i53 := by kernel_rfl
 i171 := by kernel_rfl
 i173 := by kernel_rfl
 i212 := by kernel_rfl
 i232 := by kernel_rfl
 i233 := by kernel_rfl
 m17 := by kernel_rfl
 m18 := by kernel_rfl
 m19 := by kernel_rfl

def pow10Cells : List Value := Lib.pow10Tab.map fun z => Value.int .u64 z
theorem itoa_c (n : Int) (hn : -9223372036854775808 ≤ n ∧ n ≤ 9223372036854775807) : ConV Tryz.prog 193 [iv n] [tabP 5 pow10Cells] (sv (Lib.itoa n)) := by
 refine con_grow ⟨by kernel_rfl⟩ fun w h hΦ hs => ?_
 obtain ⟨T, fr, e⟩ := hΦ _ (List.mem_cons_self ..)
 have htab : Lib.TabIs Tryz.prog w "internal/strconv.uint64pow10" .u64 Lib.pow10Tab := by
  unfold Lib.TabIs World.var?
  rw [show Tryz.prog.globalNamed "internal/strconv.uint64pow10" = some 5 by kernel_rfl]
  show (match w.heap[5]? with | some (.cells cs _ _) => some cs | _ => none) = _
  rw [hs 5 _ e]; rfl
 exact Any.strconv_Itoa lays171 n hn.1 hn.2 w htab
theorem itoa_len (n : Int) (h0 : -9223372036854775808 ≤ n) (h1 : n ≤ 9223372036854775807) : (Lib.itoa n).length ≤ 21 := Lib.itoa_length_le n h0 h1
end Go.Proofs.YtinkdfnpmoljfaaGreatDoor

