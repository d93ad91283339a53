import Derived.Test.YtinkdfnpmoljfaaGreatDoorD2
import Derived.Test.YtinkdfnpmoljfaaGreatDoorFenX
import Derived.Test.YtinkdfnpmoljfaaGreatDoorIto
import Derived.Test.YtinkdfnpmoljfaaGreatDoorProg
import Derived.Test.YtinkdfnpmoljfaaGreatDoorP1
import Derived.Test.YtinkdfnpmoljfaaGreatDoorP2
import Derived.Test.YtinkdfnpmoljfaaGreatDoorP3
set_option linter.unusedVariables false
set_option linter.unusedSimpArgs false
set_option linter.unnecessarySimpa false
set_option maxRecDepth 100000
namespace Go.Proofs.YtinkdfnpmoljfaaGreatDoor
open Go Go.Fen

def action_Check (an : Int) (am : Int) (acolor : Col) (atext : List UInt8) : Int :=
 (bif (!decide ((style_CheckPen (⟨39, an, am, acolor, atext⟩ : Act)) = 0)) then 200 else 0)

theorem action_Check_c (an : Int) (am : Int) (acolor : Col) (atext : List UInt8) (hs : atext.length ≤ 100000000) (R : Int) (hR : action_Check an am acolor atext = R) : ConV Tryz.prog 52 [ag (cAct (⟨39, an, am, acolor, atext⟩ : Act))] [] (iv R) := by
 refine con_of_J (n := 74) Tryz.func52 rfl (by kernel_rfl) rfl rfl [(0, ag (cAct (⟨39, an, am, acolor, atext⟩ : Act)))] ⟨rfl, trivial⟩ fun X hX hr hD => ?_
 replace hR := (action_Check.eq_1 ..).symm.trans hR
 refine sr 2 rfl ?_
 refine it rfl (tri_box (cs := cAct (⟨39, an, am, acolor, atext⟩ : Act)) rfl rfl rfl) fun b1 => ?_
 refine ip 1 0 [] (by kernel_rfl) ?_
 refine ie ?_
 refine sr 1 rfl ?_
 refine ip 1 0 [(3, iv 0)] (by kernel_rfl) ?_
 refine ie ?_
 refine J_seq ?_
 refine sr 2 rfl ?_
 refine ip 1 1 [(6, pt b1 0)] (by kernel_rfl) ?_
 refine ix rfl (det_own_one (v := iv 39) ty3 rfl rfl 0 rfl rfl) ?_
 refine ie ?_
 refine J_block ?_
 refine sr 2 rfl ?_
 refine ip 2 0 [(44, bv false)] (by kernel_rfl) ?_
 refine ie ?_
 refine J_no rfl ?_
 refine sr 2 rfl ?_
 refine ip 2 0 [(59, bv true)] (by kernel_rfl) ?_
 refine ie ?_
 refine J_yes rfl ?_
 refine J_region 3 rfl ?_
 refine ix rfl (det_own_agg (us := cAct (⟨39, an, am, acolor, atext⟩ : Act)) ty26 rfl rfl 0 rfl rfl rfl) ?_
 refine ixc rfl (det_call (style_CheckPen_c (⟨39, an, am, acolor, atext⟩ : Act) _ rfl) rfl rfl rfl rfl rfl Foll.nil) ?_
 refine ip 1 0 [(3, iv (style_CheckPen (⟨39, an, am, acolor, atext⟩ : Act)))] (by kernel_rfl) ?_
 refine JI_end ?_
 refine nx ?_
 refine J_seq ?_
 refine sr 2 rfl ?_
 refine ip 2 0 [(73, bv (!decide ((style_CheckPen (⟨39, an, am, acolor, atext⟩ : Act)) = 0)))] (by kernel_rfl) ?_
 refine ie ?_
 refine J_if rfl (fun h2 => ?_) (fun h2 => ?_)
 ·have h2p : ¬ (style_CheckPen (⟨39, an, am, acolor, atext⟩ : Act)) = 0 := by simpa using h2
  replace hR := bt hR h2
  refine sr 1 rfl ?_
  refine ip 1 0 [(2, iv 200)] (by kernel_rfl) ?_
  refine ie ?_
  refine J_ret ?_
  subst hR
  exact ends_ret rfl ⟨hr, hD⟩ (by simp [hD]) (res1 rfl (resV_tmp rfl)) () (by rfl) (mk [false] rfl) Foll.nil
 ·have h2p : ¬ (¬ (style_CheckPen (⟨39, an, am, acolor, atext⟩ : Act)) = 0) := by simpa using h2
  replace hR := bf hR h2
  refine J_skip ?_
  refine nx ?_
  refine sr 1 rfl ?_
  refine ip 1 0 [(2, iv 0)] (by kernel_rfl) ?_
  refine ie ?_
  refine J_ret ?_
  subst hR
  exact ends_ret rfl ⟨hr, hD⟩ (by simp [hD]) (res1 rfl (resV_tmp rfl)) () (by rfl) (mk [false] rfl) Foll.nil

def emit_tellers_1 (s : List UInt8) : Unit :=
 ()

theorem emit_tellers_1_c (s : List UInt8) (R : Unit) (hR : emit_tellers_1 s = R) : Con Tryz.prog 90 [sv s] [] [] (Value) (fun x => x) (fun x => []) (fun x => []) := by
 refine con_of_J (n := 4) Tryz.func90 rfl (by kernel_rfl) rfl rfl [(0, sv s)] ⟨rfl, trivial⟩ fun X hX hr hD => ?_
 replace hR := (emit_tellers_1.eq_1 ..).symm.trans hR
 refine sr 2 rfl ?_
 refine it rfl (tri_box (cs := [sv s]) rfl rfl rfl) fun b1 => ?_
 refine ip 1 0 [] (by kernel_rfl) ?_
 refine ie ?_
 refine sr 2 rfl ?_
 refine ip 2 0 [(2, .func (.func 91) #[] #[pt b1 0])] (by kernel_rfl) ?_
 refine ie ?_
 refine J_ret ?_
 subst hR
 exact ends_ret rfl ⟨hr, hD⟩ (by simp [hD]) (res1 rfl (resV_tmp rfl)) (.func (.func 91) #[] #[pt b1 0] : Value) (by rfl) (mk [false] rfl) Foll.nil

def emit_tellers_2 (front : List UInt8) (signs : List UInt8) (first : Int) : Unit :=
 ()

theorem emit_tellers_2_c (front : List UInt8) (signs : List UInt8) (first : Int) (R : Unit) (hR : emit_tellers_2 front signs first = R) : Con Tryz.prog 92 [sv front, sv signs, iv first] [] [] (Value) (fun x => x) (fun x => []) (fun x => []) := by
 refine con_of_J (n := 8) Tryz.func92 rfl (by kernel_rfl) rfl rfl [(0, sv front), (1, sv signs), (2, iv first)] ⟨rfl, rfl, rfl, trivial⟩ fun X hX hr hD => ?_
 replace hR := (emit_tellers_2.eq_1 ..).symm.trans hR
 refine sr 4 rfl ?_
 refine it rfl (tri_box (cs := [sv front]) rfl rfl rfl) fun b1 => ?_
 refine it rfl (tri_box (cs := [sv signs]) rfl rfl rfl) fun b2 => ?_
 refine it rfl (tri_box (cs := [iv first]) rfl rfl rfl) fun b3 => ?_
 refine ip 1 0 [] (by kernel_rfl) ?_
 refine ie ?_
 refine sr 2 rfl ?_
 refine ip 2 0 [(6, .func (.func 93) #[] #[pt b1 0, pt b2 0, pt b3 0])] (by kernel_rfl) ?_
 refine ie ?_
 refine J_ret ?_
 subst hR
 exact ends_ret rfl ⟨hr, hD⟩ (by simp [hD]) (res1 rfl (resV_tmp rfl)) (.func (.func 93) #[] #[pt b1 0, pt b2 0, pt b3 0] : Value) (by rfl) (mk [false, false, false] rfl) Foll.nil

def emit_tellers_4 (signs : List UInt8) : Unit :=
 ()

theorem emit_tellers_4_c (signs : List UInt8) (R : Unit) (hR : emit_tellers_4 signs = R) : Con Tryz.prog 98 [sv signs] [] [] (Value) (fun x => x) (fun x => []) (fun x => []) := by
 refine con_of_J (n := 4) Tryz.func98 rfl (by kernel_rfl) rfl rfl [(0, sv signs)] ⟨rfl, trivial⟩ fun X hX hr hD => ?_
 replace hR := (emit_tellers_4.eq_1 ..).symm.trans hR
 refine sr 2 rfl ?_
 refine it rfl (tri_box (cs := [sv signs]) rfl rfl rfl) fun b1 => ?_
 refine ip 1 0 [] (by kernel_rfl) ?_
 refine ie ?_
 refine sr 2 rfl ?_
 refine ip 2 0 [(2, .func (.func 99) #[] #[pt b1 0])] (by kernel_rfl) ?_
 refine ie ?_
 refine J_ret ?_
 subst hR
 exact ends_ret rfl ⟨hr, hD⟩ (by simp [hD]) (res1 rfl (resV_tmp rfl)) (.func (.func 99) #[] #[pt b1 0] : Value) (by rfl) (mk [false] rfl) Foll.nil

def emit_tellers_3 (none_ : Int) (last : List UInt8) : Unit :=
 ()

theorem emit_tellers_3_c (none_ : Int) (last : List UInt8) (R : Unit) (hR : emit_tellers_3 none_ last = R) : Con Tryz.prog 95 [iv none_, sv last] [] [] (Value) (fun x => x) (fun x => []) (fun x => []) := by
 refine con_of_J (n := 6) Tryz.func95 rfl (by kernel_rfl) rfl rfl [(0, iv none_), (1, sv last)] ⟨rfl, rfl, trivial⟩ fun X hX hr hD => ?_
 replace hR := (emit_tellers_3.eq_1 ..).symm.trans hR
 refine sr 3 rfl ?_
 refine it rfl (tri_box (cs := [iv none_]) rfl rfl rfl) fun b1 => ?_
 refine it rfl (tri_box (cs := [sv last]) rfl rfl rfl) fun b2 => ?_
 refine ip 1 0 [] (by kernel_rfl) ?_
 refine ie ?_
 refine sr 2 rfl ?_
 refine ip 2 0 [(4, .func (.func 96) #[] #[pt b1 0, pt b2 0])] (by kernel_rfl) ?_
 refine ie ?_
 refine J_ret ?_
 subst hR
 exact ends_ret rfl ⟨hr, hD⟩ (by simp [hD]) (res1 rfl (resV_tmp rfl)) (.func (.func 96) #[] #[pt b1 0, pt b2 0] : Value) (by rfl) (mk [false, false] rfl) Foll.nil

def emit_tellers_6 (front : List UInt8) : Unit :=
 ()

theorem emit_tellers_6_c (front : List UInt8) (R : Unit) (hR : emit_tellers_6 front = R) : Con Tryz.prog 101 [sv front] [] [] (Value) (fun x => x) (fun x => []) (fun x => []) := by
 refine con_of_J (n := 4) Tryz.func101 rfl (by kernel_rfl) rfl rfl [(0, sv front)] ⟨rfl, trivial⟩ fun X hX hr hD => ?_
 replace hR := (emit_tellers_6.eq_1 ..).symm.trans hR
 refine sr 2 rfl ?_
 refine it rfl (tri_box (cs := [sv front]) rfl rfl rfl) fun b1 => ?_
 refine ip 1 0 [] (by kernel_rfl) ?_
 refine ie ?_
 refine sr 2 rfl ?_
 refine ip 2 0 [(2, .func (.func 102) #[] #[pt b1 0])] (by kernel_rfl) ?_
 refine ie ?_
 refine J_ret ?_
 subst hR
 exact ends_ret rfl ⟨hr, hD⟩ (by simp [hD]) (res1 rfl (resV_tmp rfl)) (.func (.func 102) #[] #[pt b1 0] : Value) (by rfl) (mk [false] rfl) Foll.nil

def KeysI (es : Array MapEntry) (ks : List Int) : Prop := es.toList.map (fun e => e.key) = ks.map (fun k => (.int .i64 k : Value))
theorem KeysI.nil : KeysI #[] [] := rfl
theorem find_keys {k : Int} : ∀ (l : List MapEntry) (ks : List Int) (i : Nat), l.map (fun e => e.key) = ks.map (fun k => (.int .i64 k : Value)) → k ∉ ks → Instr.findNow (.int .i64) (.int .i64 k) l i = some none
 | [], ks, i, h, hk => rfl
 | e :: l, [], i, h, hk => by cases h
 | e :: l, a :: ks, i, h, hk => by
  simp only [List.map_cons, List.cons.injEq] at h
  simp only [List.mem_cons, not_or] at hk
  have hb : (k == a) = false := by simpa using hk.1
  simp only [Instr.findNow, h.1, Instr.sameNow, if_true, hb]
  exact find_keys l ks (i + 1) h.2 hk.2
theorem tri_insertK {P : Program} {n : Nat} {X : Cx} {E : Env} {L : Fen.Own} {Φ : List Pers} {o : Oper} {T kt e : Nat} {m kk vv : Operand} {b : Nat} {k : Int} {v : Value} {es : Array MapEntry} {ks : List Int} {clk : Nat} (hT : MapTy P T kt e (.int .i64)) (ho : o.op = .insert T m kk vv ∨ o.op = .mapUpdate T m kk vv) (hm : ev E m = some (.map (some b))) (hk : ev E kk = some (.int .i64 k)) (hv : ev E vv = some v)
  (i : Nat) (hi : L[i]? = some (b, .map es clk)) (hes : KeysI es ks) (hn : k ∉ ks) :
  Tri P n X o E L Φ {es' : Array MapEntry // KeysI es' (ks ++ [k])} (fun _ => undef) (fun x => L.set i (b, .map x.1 (clk + 1))) (fun _ => Φ) := by
 have h := tri_insert (P := P) (n := n) (X := X) (Φ := Φ) hT ho hm hk hv i hi (find_keys _ _ 0 hes hn) rfl
 intro a w K Q hs hk'
 refine h a w K Q hs fun u w' hw => ?_
 exact hk' ⟨es.push ⟨.int .i64 k, v, clk⟩, by unfold KeysI at *; simp [hes]⟩ w' hw

def emit_tellers : Unit :=
 ()

theorem emit_tellers_c (R : Unit) (hR : emit_tellers = R) : Con Tryz.prog 53 [] [] [] (Value) (fun x => x) (fun x => []) (fun x => []) := by
 refine con_of_J (n := 84) Tryz.func53 rfl (by kernel_rfl) rfl rfl [] trivial fun X hX hr hD => ?_
 replace hR := (emit_tellers.eq_1 ..).symm.trans hR
 refine sr 1 rfl ?_
 refine ip 1 0 [] (by kernel_rfl) ?_
 refine ie ?_
 refine sr 1 rfl ?_
 refine ip 1 0 [(1, .func (.func 90) #[] #[])] (by kernel_rfl) ?_
 refine ie ?_
 refine sr 1 rfl ?_
 refine ip 1 0 [(2, .func (.func 92) #[] #[])] (by kernel_rfl) ?_
 refine ie ?_
 refine sr 1 rfl ?_
 refine ip 1 0 [(3, .func (.func 95) #[] #[])] (by kernel_rfl) ?_
 refine ie ?_
 refine sr 1 rfl ?_
 refine ip 1 0 [(4, .func (.func 98) #[] #[])] (by kernel_rfl) ?_
 refine ie ?_
 refine sr 1 rfl ?_
 refine ip 1 0 [(5, .func (.func 100) #[] #[])] (by kernel_rfl) ?_
 refine ie ?_
 refine sr 1 rfl ?_
 refine ip 1 0 [(6, .func (.func 101) #[] #[])] (by kernel_rfl) ?_
 refine ie ?_
 refine sr 124 rfl ?_
 refine it rfl (tri_makeMap rfl) fun b1 => ?_
 refine it rfl (tri_insertK (es := #[]) (ks := []) (k := 1) (⟨by kernel_rfl, by kernel_rfl, rfl⟩ : MapTy Tryz.prog 96 3 100 (.int .i64)) (.inl rfl) rfl rfl rfl 0 rfl KeysI.nil (by decide)) fun ⟨es3, hk2⟩ => ?_
 refine ip 1 121 [(8, .func (.func 90) #[] #[])] (by kernel_rfl) ?_
 refine it rfl (tri_callN (L2 := [(b1, .map es3 1)]) (emit_tellers_1_c ([7] : List UInt8) _ rfl) rfl rfl rfl rfl rfl Foll.nil (List.Perm.refl _) (fun u4 => [(b1, .map es3 1)]) (fun _ => rfl)) fun u4 => ?_
 refine it rfl (tri_insertK (es := es3) (ks := [1]) (k := 2) (⟨by kernel_rfl, by kernel_rfl, rfl⟩ : MapTy Tryz.prog 96 3 100 (.int .i64)) (.inl rfl) rfl rfl rfl 0 rfl hk2 (by decide)) fun ⟨es6, hk5⟩ => ?_
 refine ip 1 118 [(10, .func (.func 90) #[] #[])] (by kernel_rfl) ?_
 refine it rfl (tri_callN (L2 := [(b1, .map es6 2)]) (emit_tellers_1_c ([8] : List UInt8) _ rfl) rfl rfl rfl rfl rfl Foll.nil (List.Perm.refl _) (fun u7 => [(b1, .map es6 2)]) (fun _ => rfl)) fun u7 => ?_
 refine it rfl (tri_insertK (es := es6) (ks := [1, 2]) (k := 3) (⟨by kernel_rfl, by kernel_rfl, rfl⟩ : MapTy Tryz.prog 96 3 100 (.int .i64)) (.inl rfl) rfl rfl rfl 0 rfl hk5 (by decide)) fun ⟨es9, hk8⟩ => ?_
 refine ip 1 115 [(12, .func (.func 90) #[] #[])] (by kernel_rfl) ?_
 refine it rfl (tri_callN (L2 := [(b1, .map es9 3)]) (emit_tellers_1_c ([9] : List UInt8) _ rfl) rfl rfl rfl rfl rfl Foll.nil (List.Perm.refl _) (fun u10 => [(b1, .map es9 3)]) (fun _ => rfl)) fun u10 => ?_
 refine it rfl (tri_insertK (es := es9) (ks := [1, 2, 3]) (k := 4) (⟨by kernel_rfl, by kernel_rfl, rfl⟩ : MapTy Tryz.prog 96 3 100 (.int .i64)) (.inl rfl) rfl rfl rfl 0 rfl hk8 (by decide)) fun ⟨es12, hk11⟩ => ?_
 refine ip 1 112 [(14, .func (.func 90) #[] #[])] (by kernel_rfl) ?_
 refine it rfl (tri_callN (L2 := [(b1, .map es12 4)]) (emit_tellers_1_c ([10] : List UInt8) _ rfl) rfl rfl rfl rfl rfl Foll.nil (List.Perm.refl _) (fun u13 => [(b1, .map es12 4)]) (fun _ => rfl)) fun u13 => ?_
 refine it rfl (tri_insertK (es := es12) (ks := [1, 2, 3, 4]) (k := 5) (⟨by kernel_rfl, by kernel_rfl, rfl⟩ : MapTy Tryz.prog 96 3 100 (.int .i64)) (.inl rfl) rfl rfl rfl 0 rfl hk11 (by decide)) fun ⟨es15, hk14⟩ => ?_
 refine ip 1 109 [(16, .func (.func 90) #[] #[])] (by kernel_rfl) ?_
 refine it rfl (tri_callN (L2 := [(b1, .map es15 5)]) (emit_tellers_1_c ([13] : List UInt8) _ rfl) rfl rfl rfl rfl rfl Foll.nil (List.Perm.refl _) (fun u16 => [(b1, .map es15 5)]) (fun _ => rfl)) fun u16 => ?_
 refine it rfl (tri_insertK (es := es15) (ks := [1, 2, 3, 4, 5]) (k := 6) (⟨by kernel_rfl, by kernel_rfl, rfl⟩ : MapTy Tryz.prog 96 3 100 (.int .i64)) (.inl rfl) rfl rfl rfl 0 rfl hk14 (by decide)) fun ⟨es18, hk17⟩ => ?_
 refine ip 1 106 [(18, .func (.func 92) #[] #[])] (by kernel_rfl) ?_
 refine it rfl (tri_callN (L2 := [(b1, .map es18 6)]) (emit_tellers_2_c ([] : List UInt8) ([15, 14] : List UInt8) 0 _ rfl) rfl rfl rfl rfl rfl Foll.nil (List.Perm.refl _) (fun u19 => [(b1, .map es18 6)]) (fun _ => rfl)) fun u19 => ?_
 refine it rfl (tri_insertK (es := es18) (ks := [1, 2, 3, 4, 5, 6]) (k := 7) (⟨by kernel_rfl, by kernel_rfl, rfl⟩ : MapTy Tryz.prog 96 3 100 (.int .i64)) (.inl rfl) rfl rfl rfl 0 rfl hk17 (by decide)) fun ⟨es21, hk20⟩ => ?_
 refine ip 1 103 [(20, .func (.func 90) #[] #[])] (by kernel_rfl) ?_
 refine it rfl (tri_callN (L2 := [(b1, .map es21 7)]) (emit_tellers_1_c ([27, 68] : List UInt8) _ rfl) rfl rfl rfl rfl rfl Foll.nil (List.Perm.refl _) (fun u22 => [(b1, .map es21 7)]) (fun _ => rfl)) fun u22 => ?_
 refine it rfl (tri_insertK (es := es21) (ks := [1, 2, 3, 4, 5, 6, 7]) (k := 8) (⟨by kernel_rfl, by kernel_rfl, rfl⟩ : MapTy Tryz.prog 96 3 100 (.int .i64)) (.inl rfl) rfl rfl rfl 0 rfl hk20 (by decide)) fun ⟨es24, hk23⟩ => ?_
 refine ip 1 100 [(22, .func (.func 90) #[] #[])] (by kernel_rfl) ?_
 refine it rfl (tri_callN (L2 := [(b1, .map es24 8)]) (emit_tellers_1_c ([27, 69] : List UInt8) _ rfl) rfl rfl rfl rfl rfl Foll.nil (List.Perm.refl _) (fun u25 => [(b1, .map es24 8)]) (fun _ => rfl)) fun u25 => ?_
 refine it rfl (tri_insertK (es := es24) (ks := [1, 2, 3, 4, 5, 6, 7, 8]) (k := 9) (⟨by kernel_rfl, by kernel_rfl, rfl⟩ : MapTy Tryz.prog 96 3 100 (.int .i64)) (.inl rfl) rfl rfl rfl 0 rfl hk23 (by decide)) fun ⟨es27, hk26⟩ => ?_
 refine ip 1 97 [(24, .func (.func 90) #[] #[])] (by kernel_rfl) ?_
 refine it rfl (tri_callN (L2 := [(b1, .map es27 9)]) (emit_tellers_1_c ([27, 72] : List UInt8) _ rfl) rfl rfl rfl rfl rfl Foll.nil (List.Perm.refl _) (fun u28 => [(b1, .map es27 9)]) (fun _ => rfl)) fun u28 => ?_
 refine it rfl (tri_insertK (es := es27) (ks := [1, 2, 3, 4, 5, 6, 7, 8, 9]) (k := 10) (⟨by kernel_rfl, by kernel_rfl, rfl⟩ : MapTy Tryz.prog 96 3 100 (.int .i64)) (.inl rfl) rfl rfl rfl 0 rfl hk26 (by decide)) fun ⟨es30, hk29⟩ => ?_
 refine ip 1 94 [(26, .func (.func 90) #[] #[])] (by kernel_rfl) ?_
 refine it rfl (tri_callN (L2 := [(b1, .map es30 10)]) (emit_tellers_1_c ([27, 77] : List UInt8) _ rfl) rfl rfl rfl rfl rfl Foll.nil (List.Perm.refl _) (fun u31 => [(b1, .map es30 10)]) (fun _ => rfl)) fun u31 => ?_
 refine it rfl (tri_insertK (es := es30) (ks := [1, 2, 3, 4, 5, 6, 7, 8, 9, 10]) (k := 11) (⟨by kernel_rfl, by kernel_rfl, rfl⟩ : MapTy Tryz.prog 96 3 100 (.int .i64)) (.inl rfl) rfl rfl rfl 0 rfl hk29 (by decide)) fun ⟨es33, hk32⟩ => ?_
 refine ip 1 91 [(28, .func (.func 90) #[] #[])] (by kernel_rfl) ?_
 refine it rfl (tri_callN (L2 := [(b1, .map es33 11)]) (emit_tellers_1_c ([27, 55] : List UInt8) _ rfl) rfl rfl rfl rfl rfl Foll.nil (List.Perm.refl _) (fun u34 => [(b1, .map es33 11)]) (fun _ => rfl)) fun u34 => ?_
 refine it rfl (tri_insertK (es := es33) (ks := [1, 2, 3, 4, 5, 6, 7, 8, 9, 10, 11]) (k := 12) (⟨by kernel_rfl, by kernel_rfl, rfl⟩ : MapTy Tryz.prog 96 3 100 (.int .i64)) (.inl rfl) rfl rfl rfl 0 rfl hk32 (by decide)) fun ⟨es36, hk35⟩ => ?_
 refine ip 1 88 [(30, .func (.func 90) #[] #[])] (by kernel_rfl) ?_
 refine it rfl (tri_callN (L2 := [(b1, .map es36 12)]) (emit_tellers_1_c ([27, 56] : List UInt8) _ rfl) rfl rfl rfl rfl rfl Foll.nil (List.Perm.refl _) (fun u37 => [(b1, .map es36 12)]) (fun _ => rfl)) fun u37 => ?_
 refine it rfl (tri_insertK (es := es36) (ks := [1, 2, 3, 4, 5, 6, 7, 8, 9, 10, 11, 12]) (k := 13) (⟨by kernel_rfl, by kernel_rfl, rfl⟩ : MapTy Tryz.prog 96 3 100 (.int .i64)) (.inl rfl) rfl rfl rfl 0 rfl hk35 (by decide)) fun ⟨es39, hk38⟩ => ?_
 refine ip 1 85 [(32, .func (.func 90) #[] #[])] (by kernel_rfl) ?_
 refine it rfl (tri_callN (L2 := [(b1, .map es39 13)]) (emit_tellers_1_c ([27, 99] : List UInt8) _ rfl) rfl rfl rfl rfl rfl Foll.nil (List.Perm.refl _) (fun u40 => [(b1, .map es39 13)]) (fun _ => rfl)) fun u40 => ?_
 refine it rfl (tri_insertK (es := es39) (ks := [1, 2, 3, 4, 5, 6, 7, 8, 9, 10, 11, 12, 13]) (k := 15) (⟨by kernel_rfl, by kernel_rfl, rfl⟩ : MapTy Tryz.prog 96 3 100 (.int .i64)) (.inl rfl) rfl rfl rfl 0 rfl hk38 (by decide)) fun ⟨es42, hk41⟩ => ?_
 refine ip 1 82 [(34, .func (.func 90) #[] #[])] (by kernel_rfl) ?_
 refine it rfl (tri_callN (L2 := [(b1, .map es42 14)]) (emit_tellers_1_c ([27, 35, 56] : List UInt8) _ rfl) rfl rfl rfl rfl rfl Foll.nil (List.Perm.refl _) (fun u43 => [(b1, .map es42 14)]) (fun _ => rfl)) fun u43 => ?_
 refine it rfl (tri_insertK (es := es42) (ks := [1, 2, 3, 4, 5, 6, 7, 8, 9, 10, 11, 12, 13, 15]) (k := 16) (⟨by kernel_rfl, by kernel_rfl, rfl⟩ : MapTy Tryz.prog 96 3 100 (.int .i64)) (.inl rfl) rfl rfl rfl 0 rfl hk41 (by decide)) fun ⟨es45, hk44⟩ => ?_
 refine ip 1 79 [(36, .func (.func 92) #[] #[])] (by kernel_rfl) ?_
 refine it rfl (tri_callN (L2 := [(b1, .map es45 15)]) (emit_tellers_2_c ([27] : List UInt8) ([62, 61] : List UInt8) 0 _ rfl) rfl rfl rfl rfl rfl Foll.nil (List.Perm.refl _) (fun u46 => [(b1, .map es45 15)]) (fun _ => rfl)) fun u46 => ?_
 refine it rfl (tri_insertK (es := es45) (ks := [1, 2, 3, 4, 5, 6, 7, 8, 9, 10, 11, 12, 13, 15, 16]) (k := 14) (⟨by kernel_rfl, by kernel_rfl, rfl⟩ : MapTy Tryz.prog 96 3 100 (.int .i64)) (.inl rfl) rfl rfl rfl 0 rfl hk44 (by decide)) fun ⟨es48, hk47⟩ => ?_
 refine it rfl (tri_insertK (es := es48) (ks := [1, 2, 3, 4, 5, 6, 7, 8, 9, 10, 11, 12, 13, 15, 16, 14]) (k := 17) (⟨by kernel_rfl, by kernel_rfl, rfl⟩ : MapTy Tryz.prog 96 3 100 (.int .i64)) (.inl rfl) rfl rfl rfl 0 rfl hk47 (by decide)) fun ⟨es50, hk49⟩ => ?_
 refine ip 1 75 [(38, .func (.func 92) #[] #[])] (by kernel_rfl) ?_
 refine it rfl (tri_callN (L2 := [(b1, .map es50 17)]) (emit_tellers_2_c ([27] : List UInt8) ([78, 79] : List UInt8) 2 _ rfl) rfl rfl rfl rfl rfl Foll.nil (List.Perm.refl _) (fun u51 => [(b1, .map es50 17)]) (fun _ => rfl)) fun u51 => ?_
 refine it rfl (tri_insertK (es := es50) (ks := [1, 2, 3, 4, 5, 6, 7, 8, 9, 10, 11, 12, 13, 15, 16, 14, 17]) (k := 18) (⟨by kernel_rfl, by kernel_rfl, rfl⟩ : MapTy Tryz.prog 96 3 100 (.int .i64)) (.inl rfl) rfl rfl rfl 0 rfl hk49 (by decide)) fun ⟨es53, hk52⟩ => ?_
 refine ip 1 72 [(40, .func (.func 98) #[] #[])] (by kernel_rfl) ?_
 refine it rfl (tri_callN (L2 := [(b1, .map es53 18)]) (emit_tellers_4_c ([65, 66, 67, 68] : List UInt8) _ rfl) rfl rfl rfl rfl rfl Foll.nil (List.Perm.refl _) (fun u54 => [(b1, .map es53 18)]) (fun _ => rfl)) fun u54 => ?_
 refine it rfl (tri_insertK (es := es53) (ks := [1, 2, 3, 4, 5, 6, 7, 8, 9, 10, 11, 12, 13, 15, 16, 14, 17, 18]) (k := 20) (⟨by kernel_rfl, by kernel_rfl, rfl⟩ : MapTy Tryz.prog 96 3 100 (.int .i64)) (.inl rfl) rfl rfl rfl 0 rfl hk52 (by decide)) fun ⟨es56, hk55⟩ => ?_
 refine ip 1 69 [(42, .func (.func 98) #[] #[])] (by kernel_rfl) ?_
 refine it rfl (tri_callN (L2 := [(b1, .map es56 19)]) (emit_tellers_4_c ([69, 70] : List UInt8) _ rfl) rfl rfl rfl rfl rfl Foll.nil (List.Perm.refl _) (fun u57 => [(b1, .map es56 19)]) (fun _ => rfl)) fun u57 => ?_
 refine it rfl (tri_insertK (es := es56) (ks := [1, 2, 3, 4, 5, 6, 7, 8, 9, 10, 11, 12, 13, 15, 16, 14, 17, 18, 20]) (k := 21) (⟨by kernel_rfl, by kernel_rfl, rfl⟩ : MapTy Tryz.prog 96 3 100 (.int .i64)) (.inl rfl) rfl rfl rfl 0 rfl hk55 (by decide)) fun ⟨es59, hk58⟩ => ?_
 refine ip 1 66 [(44, .func (.func 98) #[] #[])] (by kernel_rfl) ?_
 refine it rfl (tri_callN (L2 := [(b1, .map es59 20)]) (emit_tellers_4_c ([83, 84] : List UInt8) _ rfl) rfl rfl rfl rfl rfl Foll.nil (List.Perm.refl _) (fun u60 => [(b1, .map es59 20)]) (fun _ => rfl)) fun u60 => ?_
 refine it rfl (tri_insertK (es := es59) (ks := [1, 2, 3, 4, 5, 6, 7, 8, 9, 10, 11, 12, 13, 15, 16, 14, 17, 18, 20, 21]) (k := 33) (⟨by kernel_rfl, by kernel_rfl, rfl⟩ : MapTy Tryz.prog 96 3 100 (.int .i64)) (.inl rfl) rfl rfl rfl 0 rfl hk58 (by decide)) fun ⟨es62, hk61⟩ => ?_
 refine it rfl (tri_insertK (es := es62) (ks := [1, 2, 3, 4, 5, 6, 7, 8, 9, 10, 11, 12, 13, 15, 16, 14, 17, 18, 20, 21, 33]) (k := 19) (⟨by kernel_rfl, by kernel_rfl, rfl⟩ : MapTy Tryz.prog 96 3 100 (.int .i64)) (.inl rfl) rfl rfl rfl 0 rfl hk61 (by decide)) fun ⟨es64, hk63⟩ => ?_
 refine ip 1 62 [(46, .func (.func 95) #[] #[])] (by kernel_rfl) ?_
 refine it rfl (tri_callN (L2 := [(b1, .map es64 22)]) (emit_tellers_3_c 1 ([71] : List UInt8) _ rfl) rfl rfl rfl rfl rfl Foll.nil (List.Perm.refl _) (fun u65 => [(b1, .map es64 22)]) (fun _ => rfl)) fun u65 => ?_
 refine it rfl (tri_insertK (es := es64) (ks := [1, 2, 3, 4, 5, 6, 7, 8, 9, 10, 11, 12, 13, 15, 16, 14, 17, 18, 20, 21, 33, 19]) (k := 22) (⟨by kernel_rfl, by kernel_rfl, rfl⟩ : MapTy Tryz.prog 96 3 100 (.int .i64)) (.inl rfl) rfl rfl rfl 0 rfl hk63 (by decide)) fun ⟨es67, hk66⟩ => ?_
 refine ip 1 59 [(48, .func (.func 95) #[] #[])] (by kernel_rfl) ?_
 refine it rfl (tri_callN (L2 := [(b1, .map es67 23)]) (emit_tellers_3_c 1 ([100] : List UInt8) _ rfl) rfl rfl rfl rfl rfl Foll.nil (List.Perm.refl _) (fun u68 => [(b1, .map es67 23)]) (fun _ => rfl)) fun u68 => ?_
 refine it rfl (tri_insertK (es := es67) (ks := [1, 2, 3, 4, 5, 6, 7, 8, 9, 10, 11, 12, 13, 15, 16, 14, 17, 18, 20, 21, 33, 19, 22]) (k := 23) (⟨by kernel_rfl, by kernel_rfl, rfl⟩ : MapTy Tryz.prog 96 3 100 (.int .i64)) (.inl rfl) rfl rfl rfl 0 rfl hk66 (by decide)) fun ⟨es70, hk69⟩ => ?_
 refine ip 1 56 [(50, .func (.func 95) #[] #[])] (by kernel_rfl) ?_
 refine it rfl (tri_callN (L2 := [(b1, .map es70 24)]) (emit_tellers_3_c 1 ([73] : List UInt8) _ rfl) rfl rfl rfl rfl rfl Foll.nil (List.Perm.refl _) (fun u71 => [(b1, .map es70 24)]) (fun _ => rfl)) fun u71 => ?_
 refine it rfl (tri_insertK (es := es70) (ks := [1, 2, 3, 4, 5, 6, 7, 8, 9, 10, 11, 12, 13, 15, 16, 14, 17, 18, 20, 21, 33, 19, 22, 23]) (k := 24) (⟨by kernel_rfl, by kernel_rfl, rfl⟩ : MapTy Tryz.prog 96 3 100 (.int .i64)) (.inl rfl) rfl rfl rfl 0 rfl hk69 (by decide)) fun ⟨es73, hk72⟩ => ?_
 refine ip 1 53 [(52, .func (.func 95) #[] #[])] (by kernel_rfl) ?_
 refine it rfl (tri_callN (L2 := [(b1, .map es73 25)]) (emit_tellers_3_c 1 ([90] : List UInt8) _ rfl) rfl rfl rfl rfl rfl Foll.nil (List.Perm.refl _) (fun u74 => [(b1, .map es73 25)]) (fun _ => rfl)) fun u74 => ?_
 refine it rfl (tri_insertK (es := es73) (ks := [1, 2, 3, 4, 5, 6, 7, 8, 9, 10, 11, 12, 13, 15, 16, 14, 17, 18, 20, 21, 33, 19, 22, 23, 24]) (k := 25) (⟨by kernel_rfl, by kernel_rfl, rfl⟩ : MapTy Tryz.prog 96 3 100 (.int .i64)) (.inl rfl) rfl rfl rfl 0 rfl hk72 (by decide)) fun ⟨es76, hk75⟩ => ?_
 refine ip 1 50 [(54, .func (.func 95) #[] #[])] (by kernel_rfl) ?_
 refine it rfl (tri_callN (L2 := [(b1, .map es76 26)]) (emit_tellers_3_c 1 ([64] : List UInt8) _ rfl) rfl rfl rfl rfl rfl Foll.nil (List.Perm.refl _) (fun u77 => [(b1, .map es76 26)]) (fun _ => rfl)) fun u77 => ?_
 refine it rfl (tri_insertK (es := es76) (ks := [1, 2, 3, 4, 5, 6, 7, 8, 9, 10, 11, 12, 13, 15, 16, 14, 17, 18, 20, 21, 33, 19, 22, 23, 24, 25]) (k := 28) (⟨by kernel_rfl, by kernel_rfl, rfl⟩ : MapTy Tryz.prog 96 3 100 (.int .i64)) (.inl rfl) rfl rfl rfl 0 rfl hk75 (by decide)) fun ⟨es79, hk78⟩ => ?_
 refine ip 1 47 [(56, .func (.func 95) #[] #[])] (by kernel_rfl) ?_
 refine it rfl (tri_callN (L2 := [(b1, .map es79 27)]) (emit_tellers_3_c 1 ([80] : List UInt8) _ rfl) rfl rfl rfl rfl rfl Foll.nil (List.Perm.refl _) (fun u80 => [(b1, .map es79 27)]) (fun _ => rfl)) fun u80 => ?_
 refine it rfl (tri_insertK (es := es79) (ks := [1, 2, 3, 4, 5, 6, 7, 8, 9, 10, 11, 12, 13, 15, 16, 14, 17, 18, 20, 21, 33, 19, 22, 23, 24, 25, 28]) (k := 29) (⟨by kernel_rfl, by kernel_rfl, rfl⟩ : MapTy Tryz.prog 96 3 100 (.int .i64)) (.inl rfl) rfl rfl rfl 0 rfl hk78 (by decide)) fun ⟨es82, hk81⟩ => ?_
 refine ip 1 44 [(58, .func (.func 95) #[] #[])] (by kernel_rfl) ?_
 refine it rfl (tri_callN (L2 := [(b1, .map es82 28)]) (emit_tellers_3_c 1 ([88] : List UInt8) _ rfl) rfl rfl rfl rfl rfl Foll.nil (List.Perm.refl _) (fun u83 => [(b1, .map es82 28)]) (fun _ => rfl)) fun u83 => ?_
 refine it rfl (tri_insertK (es := es82) (ks := [1, 2, 3, 4, 5, 6, 7, 8, 9, 10, 11, 12, 13, 15, 16, 14, 17, 18, 20, 21, 33, 19, 22, 23, 24, 25, 28, 29]) (k := 30) (⟨by kernel_rfl, by kernel_rfl, rfl⟩ : MapTy Tryz.prog 96 3 100 (.int .i64)) (.inl rfl) rfl rfl rfl 0 rfl hk81 (by decide)) fun ⟨es85, hk84⟩ => ?_
 refine ip 1 41 [(60, .func (.func 95) #[] #[])] (by kernel_rfl) ?_
 refine it rfl (tri_callN (L2 := [(b1, .map es85 29)]) (emit_tellers_3_c 1 ([76] : List UInt8) _ rfl) rfl rfl rfl rfl rfl Foll.nil (List.Perm.refl _) (fun u86 => [(b1, .map es85 29)]) (fun _ => rfl)) fun u86 => ?_
 refine it rfl (tri_insertK (es := es85) (ks := [1, 2, 3, 4, 5, 6, 7, 8, 9, 10, 11, 12, 13, 15, 16, 14, 17, 18, 20, 21, 33, 19, 22, 23, 24, 25, 28, 29, 30]) (k := 31) (⟨by kernel_rfl, by kernel_rfl, rfl⟩ : MapTy Tryz.prog 96 3 100 (.int .i64)) (.inl rfl) rfl rfl rfl 0 rfl hk84 (by decide)) fun ⟨es88, hk87⟩ => ?_
 refine ip 1 38 [(62, .func (.func 95) #[] #[])] (by kernel_rfl) ?_
 refine it rfl (tri_callN (L2 := [(b1, .map es88 30)]) (emit_tellers_3_c 1 ([77] : List UInt8) _ rfl) rfl rfl rfl rfl rfl Foll.nil (List.Perm.refl _) (fun u89 => [(b1, .map es88 30)]) (fun _ => rfl)) fun u89 => ?_
 refine it rfl (tri_insertK (es := es88) (ks := [1, 2, 3, 4, 5, 6, 7, 8, 9, 10, 11, 12, 13, 15, 16, 14, 17, 18, 20, 21, 33, 19, 22, 23, 24, 25, 28, 29, 30, 31]) (k := 32) (⟨by kernel_rfl, by kernel_rfl, rfl⟩ : MapTy Tryz.prog 96 3 100 (.int .i64)) (.inl rfl) rfl rfl rfl 0 rfl hk87 (by decide)) fun ⟨es91, hk90⟩ => ?_
 refine ip 1 35 [(64, .func (.func 95) #[] #[])] (by kernel_rfl) ?_
 refine it rfl (tri_callN (L2 := [(b1, .map es91 31)]) (emit_tellers_3_c 1 ([98] : List UInt8) _ rfl) rfl rfl rfl rfl rfl Foll.nil (List.Perm.refl _) (fun u92 => [(b1, .map es91 31)]) (fun _ => rfl)) fun u92 => ?_
 refine it rfl (tri_insertK (es := es91) (ks := [1, 2, 3, 4, 5, 6, 7, 8, 9, 10, 11, 12, 13, 15, 16, 14, 17, 18, 20, 21, 33, 19, 22, 23, 24, 25, 28, 29, 30, 31, 32]) (k := 34) (⟨by kernel_rfl, by kernel_rfl, rfl⟩ : MapTy Tryz.prog 96 3 100 (.int .i64)) (.inl rfl) rfl rfl rfl 0 rfl hk90 (by decide)) fun ⟨es94, hk93⟩ => ?_
 refine ip 1 32 [(66, .func (.func 95) #[] #[])] (by kernel_rfl) ?_
 refine it rfl (tri_callN (L2 := [(b1, .map es94 32)]) (emit_tellers_3_c 0 ([74] : List UInt8) _ rfl) rfl rfl rfl rfl rfl Foll.nil (List.Perm.refl _) (fun u95 => [(b1, .map es94 32)]) (fun _ => rfl)) fun u95 => ?_
 refine it rfl (tri_insertK (es := es94) (ks := [1, 2, 3, 4, 5, 6, 7, 8, 9, 10, 11, 12, 13, 15, 16, 14, 17, 18, 20, 21, 33, 19, 22, 23, 24, 25, 28, 29, 30, 31, 32, 34]) (k := 26) (⟨by kernel_rfl, by kernel_rfl, rfl⟩ : MapTy Tryz.prog 96 3 100 (.int .i64)) (.inl rfl) rfl rfl rfl 0 rfl hk93 (by decide)) fun ⟨es97, hk96⟩ => ?_
 refine ip 1 29 [(68, .func (.func 95) #[] #[])] (by kernel_rfl) ?_
 refine it rfl (tri_callN (L2 := [(b1, .map es97 33)]) (emit_tellers_3_c 0 ([75] : List UInt8) _ rfl) rfl rfl rfl rfl rfl Foll.nil (List.Perm.refl _) (fun u98 => [(b1, .map es97 33)]) (fun _ => rfl)) fun u98 => ?_
 refine it rfl (tri_insertK (es := es97) (ks := [1, 2, 3, 4, 5, 6, 7, 8, 9, 10, 11, 12, 13, 15, 16, 14, 17, 18, 20, 21, 33, 19, 22, 23, 24, 25, 28, 29, 30, 31, 32, 34, 26]) (k := 27) (⟨by kernel_rfl, by kernel_rfl, rfl⟩ : MapTy Tryz.prog 96 3 100 (.int .i64)) (.inl rfl) rfl rfl rfl 0 rfl hk96 (by decide)) fun ⟨es100, hk99⟩ => ?_
 refine ip 1 26 [(70, .func (.func 95) #[] #[])] (by kernel_rfl) ?_
 refine it rfl (tri_callN (L2 := [(b1, .map es100 34)]) (emit_tellers_3_c 0 ([103] : List UInt8) _ rfl) rfl rfl rfl rfl rfl Foll.nil (List.Perm.refl _) (fun u101 => [(b1, .map es100 34)]) (fun _ => rfl)) fun u101 => ?_
 refine it rfl (tri_insertK (es := es100) (ks := [1, 2, 3, 4, 5, 6, 7, 8, 9, 10, 11, 12, 13, 15, 16, 14, 17, 18, 20, 21, 33, 19, 22, 23, 24, 25, 28, 29, 30, 31, 32, 34, 26, 27]) (k := 35) (⟨by kernel_rfl, by kernel_rfl, rfl⟩ : MapTy Tryz.prog 96 3 100 (.int .i64)) (.inl rfl) rfl rfl rfl 0 rfl hk99 (by decide)) fun ⟨es103, hk102⟩ => ?_
 refine ip 1 23 [(72, .func (.func 95) #[] #[])] (by kernel_rfl) ?_
 refine it rfl (tri_callN (L2 := [(b1, .map es103 35)]) (emit_tellers_3_c 0 ([32, 113] : List UInt8) _ rfl) rfl rfl rfl rfl rfl Foll.nil (List.Perm.refl _) (fun u104 => [(b1, .map es103 35)]) (fun _ => rfl)) fun u104 => ?_
 refine it rfl (tri_insertK (es := es103) (ks := [1, 2, 3, 4, 5, 6, 7, 8, 9, 10, 11, 12, 13, 15, 16, 14, 17, 18, 20, 21, 33, 19, 22, 23, 24, 25, 28, 29, 30, 31, 32, 34, 26, 27, 35]) (k := 40) (⟨by kernel_rfl, by kernel_rfl, rfl⟩ : MapTy Tryz.prog 96 3 100 (.int .i64)) (.inl rfl) rfl rfl rfl 0 rfl hk102 (by decide)) fun ⟨es106, hk105⟩ => ?_
 refine ip 1 20 [(74, .func (.func 101) #[] #[])] (by kernel_rfl) ?_
 refine it rfl (tri_callN (L2 := [(b1, .map es106 36)]) (emit_tellers_6_c ([] : List UInt8) _ rfl) rfl rfl rfl rfl rfl Foll.nil (List.Perm.refl _) (fun u107 => [(b1, .map es106 36)]) (fun _ => rfl)) fun u107 => ?_
 refine it rfl (tri_insertK (es := es106) (ks := [1, 2, 3, 4, 5, 6, 7, 8, 9, 10, 11, 12, 13, 15, 16, 14, 17, 18, 20, 21, 33, 19, 22, 23, 24, 25, 28, 29, 30, 31, 32, 34, 26, 27, 35, 40]) (k := 36) (⟨by kernel_rfl, by kernel_rfl, rfl⟩ : MapTy Tryz.prog 96 3 100 (.int .i64)) (.inl rfl) rfl rfl rfl 0 rfl hk105 (by decide)) fun ⟨es109, hk108⟩ => ?_
 refine ip 1 17 [(76, .func (.func 101) #[] #[])] (by kernel_rfl) ?_
 refine it rfl (tri_callN (L2 := [(b1, .map es109 37)]) (emit_tellers_6_c ([63] : List UInt8) _ rfl) rfl rfl rfl rfl rfl Foll.nil (List.Perm.refl _) (fun u110 => [(b1, .map es109 37)]) (fun _ => rfl)) fun u110 => ?_
 refine it rfl (tri_insertK (es := es109) (ks := [1, 2, 3, 4, 5, 6, 7, 8, 9, 10, 11, 12, 13, 15, 16, 14, 17, 18, 20, 21, 33, 19, 22, 23, 24, 25, 28, 29, 30, 31, 32, 34, 26, 27, 35, 40, 36]) (k := 37) (⟨by kernel_rfl, by kernel_rfl, rfl⟩ : MapTy Tryz.prog 96 3 100 (.int .i64)) (.inl rfl) rfl rfl rfl 0 rfl hk108 (by decide)) fun ⟨es112, hk111⟩ => ?_
 refine it rfl (tri_insertK (es := es112) (ks := [1, 2, 3, 4, 5, 6, 7, 8, 9, 10, 11, 12, 13, 15, 16, 14, 17, 18, 20, 21, 33, 19, 22, 23, 24, 25, 28, 29, 30, 31, 32, 34, 26, 27, 35, 40, 36, 37]) (k := 38) (⟨by kernel_rfl, by kernel_rfl, rfl⟩ : MapTy Tryz.prog 96 3 100 (.int .i64)) (.inl rfl) rfl rfl rfl 0 rfl hk111 (by decide)) fun ⟨es114, hk113⟩ => ?_
 refine ip 1 13 [(78, .func (.func 95) #[] #[])] (by kernel_rfl) ?_
 refine it rfl (tri_callN (L2 := [(b1, .map es114 39)]) (emit_tellers_3_c (-2) ([110] : List UInt8) _ rfl) rfl rfl rfl rfl rfl Foll.nil (List.Perm.refl _) (fun u115 => [(b1, .map es114 39)]) (fun _ => rfl)) fun u115 => ?_
 refine it rfl (tri_insertK (es := es114) (ks := [1, 2, 3, 4, 5, 6, 7, 8, 9, 10, 11, 12, 13, 15, 16, 14, 17, 18, 20, 21, 33, 19, 22, 23, 24, 25, 28, 29, 30, 31, 32, 34, 26, 27, 35, 40, 36, 37, 38]) (k := 41) (⟨by kernel_rfl, by kernel_rfl, rfl⟩ : MapTy Tryz.prog 96 3 100 (.int .i64)) (.inl rfl) rfl rfl rfl 0 rfl hk113 (by decide)) fun ⟨es117, hk116⟩ => ?_
 refine it rfl (tri_insertK (es := es117) (ks := [1, 2, 3, 4, 5, 6, 7, 8, 9, 10, 11, 12, 13, 15, 16, 14, 17, 18, 20, 21, 33, 19, 22, 23, 24, 25, 28, 29, 30, 31, 32, 34, 26, 27, 35, 40, 36, 37, 38, 41]) (k := 42) (⟨by kernel_rfl, by kernel_rfl, rfl⟩ : MapTy Tryz.prog 96 3 100 (.int .i64)) (.inl rfl) rfl rfl rfl 0 rfl hk116 (by decide)) fun ⟨es119, hk118⟩ => ?_
 refine it rfl (tri_insertK (es := es119) (ks := [1, 2, 3, 4, 5, 6, 7, 8, 9, 10, 11, 12, 13, 15, 16, 14, 17, 18, 20, 21, 33, 19, 22, 23, 24, 25, 28, 29, 30, 31, 32, 34, 26, 27, 35, 40, 36, 37, 38, 41, 42]) (k := 43) (⟨by kernel_rfl, by kernel_rfl, rfl⟩ : MapTy Tryz.prog 96 3 100 (.int .i64)) (.inl rfl) rfl rfl rfl 0 rfl hk118 (by decide)) fun ⟨es121, hk120⟩ => ?_
 refine it rfl (tri_insertK (es := es121) (ks := [1, 2, 3, 4, 5, 6, 7, 8, 9, 10, 11, 12, 13, 15, 16, 14, 17, 18, 20, 21, 33, 19, 22, 23, 24, 25, 28, 29, 30, 31, 32, 34, 26, 27, 35, 40, 36, 37, 38, 41, 42, 43]) (k := 39) (⟨by kernel_rfl, by kernel_rfl, rfl⟩ : MapTy Tryz.prog 96 3 100 (.int .i64)) (.inl rfl) rfl rfl rfl 0 rfl hk120 (by decide)) fun ⟨es123, hk122⟩ => ?_
 refine ip 1 7 [(80, .func (.func 100) #[] #[])] (by kernel_rfl) ?_
 refine it rfl (tri_insertK (es := es123) (ks := [1, 2, 3, 4, 5, 6, 7, 8, 9, 10, 11, 12, 13, 15, 16, 14, 17, 18, 20, 21, 33, 19, 22, 23, 24, 25, 28, 29, 30, 31, 32, 34, 26, 27, 35, 40, 36, 37, 38, 41, 42, 43, 39]) (k := 44) (⟨by kernel_rfl, by kernel_rfl, rfl⟩ : MapTy Tryz.prog 96 3 100 (.int .i64)) (.inl rfl) rfl rfl rfl 0 rfl hk122 (by decide)) fun ⟨es125, hk124⟩ => ?_
 refine ip 1 5 [(81, .func (.func 100) #[] #[])] (by kernel_rfl) ?_
 refine it rfl (tri_insertK (es := es125) (ks := [1, 2, 3, 4, 5, 6, 7, 8, 9, 10, 11, 12, 13, 15, 16, 14, 17, 18, 20, 21, 33, 19, 22, 23, 24, 25, 28, 29, 30, 31, 32, 34, 26, 27, 35, 40, 36, 37, 38, 41, 42, 43, 39, 44]) (k := 45) (⟨by kernel_rfl, by kernel_rfl, rfl⟩ : MapTy Tryz.prog 96 3 100 (.int .i64)) (.inl rfl) rfl rfl rfl 0 rfl hk124 (by decide)) fun ⟨es127, hk126⟩ => ?_
 refine ip 1 3 [(82, .func (.func 100) #[] #[])] (by kernel_rfl) ?_
 refine it rfl (tri_insertK (es := es127) (ks := [1, 2, 3, 4, 5, 6, 7, 8, 9, 10, 11, 12, 13, 15, 16, 14, 17, 18, 20, 21, 33, 19, 22, 23, 24, 25, 28, 29, 30, 31, 32, 34, 26, 27, 35, 40, 36, 37, 38, 41, 42, 43, 39, 44, 45]) (k := 46) (⟨by kernel_rfl, by kernel_rfl, rfl⟩ : MapTy Tryz.prog 96 3 100 (.int .i64)) (.inl rfl) rfl rfl rfl 0 rfl hk126 (by decide)) fun ⟨es129, hk128⟩ => ?_
 refine ip 2 0 [(0, .map (some b1))] (by kernel_rfl) ?_
 refine ie ?_
 refine J_ret ?_
 subst hR
 exact ends_ret rfl ⟨hr, hD⟩ (by simp [hD]) (res1 rfl (resV_tmp rfl)) (.map (some b1) : Value) (by rfl) (mk [false] rfl) Foll.nil

def emit_pens (l : List Act) : List UInt8 :=
 (bindV (sgr_Params l) fun (y2 : List (List Int) × Int) => (bindV (param_Print y2.1) fun (y3 : List UInt8 × Int) => ((([27, 91] : List UInt8) ++ y3.1) ++ ([109] : List UInt8))))

theorem emit_pens_len (l : List Act) : (emit_pens l).length ≤ 2115 := by
 have := param_Print_len (sgr_Params l).1
 unfold emit_pens; simp only [bindV, List.length_append, List.length_cons, List.length_nil]; omega

theorem emit_pens_c (l : List Act) (lq : Option Addr) (lk : Nat) (hll : l.length ≤ 9223372036854775807) (hcl : l.length ≤ lk) (R : List UInt8) (hR : emit_pens l = R) : ConV Tryz.prog 54 [.slice lq l.length lk] [sl cAct lq l, sl cAtr (some ⟨2, 0, none⟩) tab2, tabP 5 pow10Cells] (sv R) := by
 refine con_of_J (n := 20) Tryz.func54 rfl (by kernel_rfl) rfl rfl [(0, .slice lq l.length lk)] ⟨rfl, trivial⟩ fun X hX hr hD => ?_
 replace hR := (emit_pens.eq_1 ..).symm.trans hR
 refine sr 1 rfl ?_
 refine ip 1 0 [] (by kernel_rfl) ?_
 refine ie ?_
 refine sr 7 rfl ?_
 refine ip 1 6 [(8, .slice lq l.length lk)] (by kernel_rfl) ?_
 have hQ := bindVx hR; clear hR; obtain ⟨y2, hy2, hR⟩ := hQ
 refine it rfl (tri_callN (L2 := []) (sgr_Params_c l lq lk (by first | omega | (simp <;> omega) | (dsimp only; omega) | decide) (by first | omega | (simp <;> omega) | (dsimp only; omega) | decide) y2 hy2) rfl rfl rfl rfl rfl (Foll.pick [0, 1] rfl) (List.Perm.refl _) (fun ⟨⟨r1, rs2⟩, hp5⟩ => ((vo cSlc 217 r1 rs2) ++ ([]))) (fun _ => by first | rfl | simp only [List.append_nil, List.cons_append, List.nil_append, List.append_assoc])) fun ⟨⟨r1, rs2⟩, hp5⟩ => ?_
 try dsimp only at hp5
 obtain ⟨hk3, hw4⟩ := hp5
 have := VOk.le hk3
 have := VOk.cap hk3
 have := hw4.1
 refine ip 5 0 [(3, .slice (va r1.q) y2.1.length r1.k)] (by kernel_rfl) ?_
 refine ie ?_
 refine sr 7 rfl ?_
 refine ip 1 6 [(13, .slice (va r1.q) y2.1.length r1.k)] (by kernel_rfl) ?_
 have := VOk.cap hk3
 have := VOk.le hk3
 refine JI_seal [] [] (T := 217) (c := cSlc) (r := r1) (xs := rs2) (VOk.cast hk3 (by rw [hw4.1])) (by first | rfl | simp only [List.cons_append, List.append_assoc, List.nil_append, List.append_nil]) ?_
 have hQ := bindVx hR; clear hR; obtain ⟨y3, hy3, hR⟩ := hQ
 refine ixc rfl (det_call (param_Print_c y2.1 (va r1.q) rs2 r1.k hw4 (by first | omega | (simp <;> omega) | (dsimp only; omega) | decide) (by first | omega | (simp <;> omega) | (dsimp only; omega) | decide) y3 hy3) rfl rfl rfl rfl rfl (Foll.pick [0, 1, 4] rfl)) ?_
 have := param_Print_len y2.1; try rw [hy3] at this
 refine ip 5 0 [(5, sv y3.1)] (by kernel_rfl) ?_
 refine ie ?_
 refine sr 4 rfl ?_
 refine ip 1 3 [(17, sv y3.1)] (by kernel_rfl) ?_
 refine ix rfl (det_stadd rfl rfl rfl (by first | omega | (simp <;> omega))) ?_
 refine ix rfl (det_stadd rfl rfl rfl (by first | omega | (simp <;> omega))) ?_
 refine ip 1 0 [(2, sv ((([27, 91] : List UInt8) ++ y3.1) ++ ([109] : List UInt8)))] (by kernel_rfl) ?_
 refine ie ?_
 refine J_ret ?_
 subst hR
 exact ends_ret rfl ⟨hr, hD⟩ (by simp [hD]) (res1 rfl (resV_tmp rfl)) () (by rfl) (mk [] rfl) Foll.nil

def penA (a : Act) : Prop := a.kind = 39 ∧ a.text = []
theorem penA_eq {a : Act} (h : penA a) : a = (⟨39, a.n, a.m, a.color, ([] : List UInt8)⟩ : Act) := by cases a; obtain ⟨h1, h2⟩ := h; simp only at h1 h2; subst h1; subst h2; rfl
theorem pen_at {l : List Act} (hp : ∀ a ∈ l, penA a) {k : Nat} (hk : k < l.length) : l.getD k Act.zero = (⟨39, (l.getD k Act.zero).n, (l.getD k Act.zero).m, (l.getD k Act.zero).color, ([] : List UInt8)⟩ : Act) := by
 refine penA_eq (hp _ ?_); rw [gdE hk]; exact List.getElem_mem hk

def emit_Bytes_l5 (l : List Act) (ag_emit_Bytes_l4 : List UInt8 → Int → (List UInt8 × Int)) : Nat → List UInt8 → Int → Int → (List UInt8 × Int)
 | 0, _, _, _ => ([], 0)
 | fu3 + 1, b1, at_1, n => (bif (((decide (n < (l.length : Int))) && (decide (n < (at_1 + 16)))) && true) then emit_Bytes_l5 l ag_emit_Bytes_l4 fu3 b1 at_1 (n + 1) else (bindV (emit_pens ((l.drop ((at_1).toNat)).take (((n).toNat) - ((at_1).toNat)))) fun (y0 : List UInt8) => ag_emit_Bytes_l4 (b1 ++ y0) ((n - 1) + 1)))
def emit_Bytes_l4 (l : List Act) : Nat → List UInt8 → Int → (List UInt8 × Int)
 | 0, _, _ => ([], 0)
 | fu1 + 1, b, at_ => (bif (decide (at_ < (l.length : Int))) then emit_Bytes_l5 l (emit_Bytes_l4 l fu1) (((l.length : Int) - at_).toNat + 1) b at_ at_ else (b, 0))
def emit_Bytes_l0 (l : List Act) : List Act → Nat → (List UInt8 × Int)
 | [], t15 => emit_Bytes_l4 l (((l.length : Int) - 0).toNat + 1) ([] : List UInt8) 0
 | hd_l0 :: tl_l0, t15 => (bif (!decide ((action_Check (hd_l0.n) (hd_l0.m) (hd_l0.color) ([] : List UInt8)) = 0)) then (([] : List UInt8), (action_Check (hd_l0.n) (hd_l0.m) (hd_l0.color) ([] : List UInt8))) else emit_Bytes_l0 l tl_l0 (t15 + 1))
def emit_Bytes (l : List Act) : List UInt8 × Int :=
 (bif (decide ((131072 : Int) < (l.length : Int))) then (([] : List UInt8), 3) else emit_Bytes_l0 l l 0)

theorem emit_Bytes_c (l : List Act) (lq : Option Addr) (lk : Nat) (hll : l.length ≤ 9223372036854775807) (hcl : l.length ≤ lk) (hpen : ∀ a ∈ l, penA a) (hlen : l.length ≤ 2000) (R : List UInt8 × Int) (hR : emit_Bytes l = R) : Con Tryz.prog 16 [.slice lq l.length lk] [] [sl cAct lq l, sl cAtr (some ⟨2, 0, none⟩) tab2, tabP 5 pow10Cells] ({r : VR // VOk 1 R.1.length r}) (fun x => .tuple #[.slice (va x.1.q) R.1.length x.1.k, iv R.2]) (fun x => ((vo cU8 5 x.1 R.1) ++ ([]))) (fun x => []) := by
 refine con_of_J (n := 80) Tryz.func16 rfl (by kernel_rfl) rfl rfl [(0, .slice lq l.length lk)] ⟨rfl, trivial⟩ fun X hX hr hD => ?_
 replace hR := (emit_Bytes.eq_1 ..).symm.trans hR
 refine sr 2 rfl ?_
 refine ip 2 0 [(2, .slice none 0 0)] (by kernel_rfl) ?_
 refine ie ?_
 refine J_scope ?_
 refine J_seq ?_
 refine sr 3 rfl ?_
 refine ip 3 0 [(12, bv (decide ((131072 : Int) < (l.length : Int))))] (by kernel_rfl) ?_
 refine ie ?_
 refine J_if rfl (fun h1 => ?_) (fun h1 => ?_)
 ·have h1p : (131072 : Int) < (l.length : Int) := by simpa using h1
  replace hR := bt hR h1
  refine sr 2 rfl ?_
  refine ip 2 0 [(2, .slice none 0 0), (3, iv 3)] (by kernel_rfl) ?_
  refine ie ?_
  refine J_ret ?_
  subst hR
  exact ends_ret rfl ⟨hr, hD⟩ (by simp [hD]) (res2 rfl (resV_tmp rfl) (resV_tmp rfl)) ⟨VR.nil, VOk.nil⟩ (by rfl) (mc [vo cU8 5 VR.nil ([] : List UInt8)] [true] rfl (by first | rfl | (simp only [List.length_set] <;> rfl))) Foll.nil
 ·have h1p : ¬ ((131072 : Int) < (l.length : Int)) := by simpa using h1
  replace hR := bf hR h1
  refine J_skip ?_
  refine nx ?_
  refine J_seq ?_
  refine sr 3 rfl ?_
  refine ip 3 0 [(13, .slice lq l.length lk), (14, iv (l.length : Int)), (15, iv 0)] (by kernel_rfl) ?_
  refine ie ?_
  refine J_block ?_
  refine JL1 (fun (t15 : Nat) => t15 ≤ l.length ∧ emit_Bytes_l0 l (l.drop t15) t15 = R) (fun (t15 : Nat) => [(0, .slice lq l.length lk), (2, .slice none 0 0), (13, .slice lq l.length lk), (14, iv (l.length : Int)), (15, iv (t15 : Int))]) (fun (t15 : Nat) => []) (fun (t15 : Nat) => [sl cAct lq l, sl cAtr (some ⟨2, 0, none⟩) tab2, tabP 5 pow10Cells]) (fun (t15 : Nat) => l.length - t15) 0 ⟨(by omega), hR⟩ ⟨rfl, rfl, rfl, rfl, (by first | rfl | (simp only [List.length_set]; rfl) | (simp; done) | (simp; omega)), trivial⟩ (mk [] rfl) Foll.refl ?_
  rintro t15 ⟨hm2, hR⟩
  refine sr 1 rfl ?_
  refine ip 1 0 [(16, bv (decide ((t15 : Int) < (l.length : Int))))] (by kernel_rfl) ?_
  refine ie ?_
  refine J_seq ?_
  refine J_if rfl (fun h3 => ?_) (fun h3 => ?_)
  ·have h3p : (t15 : Int) < (l.length : Int) := by simpa using h3
   rw [dropc Act.zero (show t15 < l.length by omega)] at hR; replace hR := (emit_Bytes_l0.eq_2 ..).symm.trans hR
   refine J_skip ?_
   refine nx ?_
   refine J_seq ?_
   refine J_block ?_
   refine sr 4 rfl ?_
   refine JI_base 0 rfl (by omega) fun a4 hq5 => ?_
   refine ix rfl (det_ixq slt27 rfl rfl hq5 rfl t15 rfl (by omega)) ?_
   refine ix rfl (det_conv (det_ld_agg (us := cAct (l.getD t15 Act.zero)) ty26 rfl rfl (at_slq (c := cAct) (sz := 6) hq5 (fun _ => rfl) 0 rfl (gd Act.zero (by omega))) rfl) (congrArg (fun z => ag (cAct z)) (pen_at hpen (k := t15) (by omega)))) ?_
   refine it rfl (tri_alloc (cs := cAct Act.zero) zero26 rfl) fun b6 => ?_
   refine it rfl (tri_store (us := cAct (⟨39, (l.getD t15 Act.zero).n, (l.getD t15 Act.zero).m, (l.getD t15 Act.zero).color, ([] : List UInt8)⟩ : Act)) (cs' := cAct (⟨39, (l.getD t15 Act.zero).n, (l.getD t15 Act.zero).m, (l.getD t15 Act.zero).color, ([] : List UInt8)⟩ : Act)) ty26 rfl rfl rfl 0 rfl rfl rfl rfl rfl rfl) fun _ => ?_
   refine ie ?_
   refine sr 3 rfl ?_
   refine ix rfl (det_own_agg (us := cAct (⟨39, (l.getD t15 Act.zero).n, (l.getD t15 Act.zero).m, (l.getD t15 Act.zero).color, ([] : List UInt8)⟩ : Act)) ty26 rfl rfl 0 rfl rfl rfl) ?_
   refine ixc rfl (det_call (action_Check_c ((l.getD t15 Act.zero).n) ((l.getD t15 Act.zero).m) ((l.getD t15 Act.zero).color) ([] : List UInt8) (by first | omega | (simp <;> omega)) _ rfl) rfl rfl rfl rfl rfl Foll.nil) ?_
   refine ip 1 0 [(6, iv (action_Check ((l.getD t15 Act.zero).n) ((l.getD t15 Act.zero).m) ((l.getD t15 Act.zero).color) ([] : List UInt8)))] (by kernel_rfl) ?_
   refine ie ?_
   refine sr 2 rfl ?_
   refine ip 2 0 [(22, bv (!decide ((action_Check ((l.getD t15 Act.zero).n) ((l.getD t15 Act.zero).m) ((l.getD t15 Act.zero).color) ([] : List UInt8)) = 0)))] (by kernel_rfl) ?_
   refine ie ?_
   refine J_if rfl (fun h7 => ?_) (fun h7 => ?_)
   ·have h7p : ¬ (action_Check ((l.getD t15 Act.zero).n) ((l.getD t15 Act.zero).m) ((l.getD t15 Act.zero).color) ([] : List UInt8)) = 0 := by simpa using h7
    replace hR := bt hR h7
    refine sr 3 rfl ?_
    refine ip 3 0 [(2, .slice none 0 0), (3, iv (action_Check ((l.getD t15 Act.zero).n) ((l.getD t15 Act.zero).m) ((l.getD t15 Act.zero).color) ([] : List UInt8)))] (by kernel_rfl) ?_
    refine ie ?_
    refine J_ret ?_
    subst hR
    exact ends_ret rfl ⟨hr, hD⟩ (by simp [hD]) (res2 rfl (resV_tmp rfl) (resV_tmp rfl)) ⟨VR.nil, VOk.nil⟩ (by rfl) (mc [[bx b6 (cAct (⟨39, (l.getD t15 Act.zero).n, (l.getD t15 Act.zero).m, (l.getD t15 Act.zero).color, ([] : List UInt8)⟩ : Act)) 26], vo cU8 5 VR.nil ([] : List UInt8)] [false, true] rfl (by first | rfl | (simp only [List.length_set] <;> rfl))) Foll.nil
   ·have h7p : ¬ (¬ (action_Check ((l.getD t15 Act.zero).n) ((l.getD t15 Act.zero).m) ((l.getD t15 Act.zero).color) ([] : List UInt8)) = 0) := by simpa using h7
    replace hR := bf hR h7
    refine J_skip ?_
    refine nx ?_
    refine J_region 2 rfl ?_
    refine ix rfl (det_add64 rfl rfl rfl rfl (by omega)) ?_
    refine ip 1 0 [(15, iv ((t15 : Int) + 1))] (by kernel_rfl) ?_
    refine JI_end ?_
    exact againL1 (z1 := t15) (t15 + 1) ⟨(by omega), hR⟩ (by (try dsimp only); omega) ⟨rfl, rfl, rfl, rfl, (by first | rfl | (simp only [List.length_set]; rfl) | (simp; done) | (simp; omega)), trivial⟩ (mk [false] rfl) Foll.refl
  ·have h3p : ¬ ((t15 : Int) < (l.length : Int)) := by simpa using h3
   rw [dropn h3p] at hR; replace hR := (emit_Bytes_l0.eq_1 ..).symm.trans hR
   refine J_exit ?_
   refine nx ?_
   refine sr 2 rfl ?_
   refine it rfl (tri_callN (L2 := []) (emit_tellers_c _ rfl) rfl rfl rfl rfl rfl Foll.nil (List.Perm.refl _) (fun u8 => []) (fun _ => rfl)) fun u8 => ?_
   refine ip 1 0 [(7, u8)] (by kernel_rfl) ?_
   refine ie ?_
   refine J_seq ?_
   refine J_label ?_
   refine nx ?_
   refine J_seq ?_
   refine sr 1 rfl ?_
   refine ip 1 0 [(8, iv 0)] (by kernel_rfl) ?_
   refine ie ?_
   refine J_block ?_
   refine JL4 (fun (fu : Nat) (b : List UInt8) (br : VR) (at_ : Int) => ((l.length : Int) - at_).toNat < fu ∧ emit_Bytes_l4 l fu b at_ = R ∧ VOk 1 b.length br ∧ 0 ≤ at_ ∧ at_ ≤ (l.length : Int) ∧ (b.length : Int) ≤ 4000 * at_) (fun (fu : Nat) (b : List UInt8) (br : VR) (at_ : Int) => [(0, .slice lq l.length lk), (2, .slice (va br.q) b.length br.k), (7, u8), (8, iv at_)]) (fun (fu : Nat) (b : List UInt8) (br : VR) (at_ : Int) => ((vo cU8 5 br b) ++ ([]))) (fun (fu : Nat) (b : List UInt8) (br : VR) (at_ : Int) => [sl cAct lq l, sl cAtr (some ⟨2, 0, none⟩) tab2, tabP 5 pow10Cells]) (fun (fu : Nat) (b : List UInt8) (br : VR) (at_ : Int) => fu) (((l.length : Int) - 0).toNat + 1) ([] : List UInt8) VR.nil 0 ⟨(Nat.lt_succ_self _), hR, VOk.nil, (by omega), (by simp)⟩ ⟨rfl, (by first | rfl | (simp only [List.length_set]; rfl) | (simp; done) | (simp; omega)), rfl, (by first | rfl | (simp only [List.length_set]; rfl) | (simp; done) | (simp; omega)), trivial⟩ (mc [vo cU8 5 VR.nil ([] : List UInt8)] [true] rfl (by first | rfl | (simp only [List.length_set] <;> rfl))) Foll.refl ?_
   rintro fu b br at_ ⟨hm9, hR, hokbr, ha, hb⟩
   have := VOk.le hokbr
   obtain ⟨fu1, rfl⟩ : ∃ m, fu = m + 1 := ⟨fu - 1, by omega⟩
   replace hR := (emit_Bytes_l4.eq_2 ..).symm.trans hR
   refine J_seq ?_
   refine sr 4 rfl ?_
   refine ip 4 0 [(29, bv (decide (at_ < (l.length : Int))))] (by kernel_rfl) ?_
   refine ie ?_
   refine J_if rfl (fun h10 => ?_) (fun h10 => ?_)
   ·have h10p : at_ < (l.length : Int) := by simpa using h10
    replace hR := bt hR h10
    refine J_skip ?_
    refine nx ?_
    refine J_seq ?_
    refine J_block ?_
    refine J_seq ?_
    refine sr 2 rfl ?_
    refine ip 2 0 [(9, iv at_)] (by kernel_rfl) ?_
    refine ie ?_
    refine J_block ?_
    refine JL5 (fun (fu2 : Nat) (b1 : List UInt8) (br1 : VR) (at_1 : Int) (n : Int) => ((l.length : Int) - n).toNat < fu2 ∧ emit_Bytes_l5 l (emit_Bytes_l4 l fu1) fu2 b1 at_1 n = R ∧ VOk 1 b1.length br1 ∧ at_1 = at_ ∧ 0 ≤ at_1 ∧ at_1 < (l.length : Int) ∧ at_1 ≤ n ∧ n ≤ (l.length : Int) ∧ n ≤ at_1 + 16 ∧ (b1.length : Int) ≤ 4000 * at_1) (fun (fu2 : Nat) (b1 : List UInt8) (br1 : VR) (at_1 : Int) (n : Int) => [(0, .slice lq l.length lk), (2, .slice (va br1.q) b1.length br1.k), (7, u8), (8, iv at_1), (9, iv n)]) (fun (fu2 : Nat) (b1 : List UInt8) (br1 : VR) (at_1 : Int) (n : Int) => ((vo cU8 5 br1 b1) ++ ([]))) (fun (fu2 : Nat) (b1 : List UInt8) (br1 : VR) (at_1 : Int) (n : Int) => [sl cAct lq l, sl cAtr (some ⟨2, 0, none⟩) tab2, tabP 5 pow10Cells]) (fun (fu2 : Nat) (b1 : List UInt8) (br1 : VR) (at_1 : Int) (n : Int) => fu2) (((l.length : Int) - at_).toNat + 1) b br at_ at_ ⟨(Nat.lt_succ_self _), hR, hokbr, (by omega), (by omega)⟩ ⟨rfl, (by first | rfl | (simp only [List.length_set]; rfl) | (simp; done) | (simp; omega)), rfl, (by first | rfl | (simp only [List.length_set]; rfl) | (simp; done) | (simp; omega)), (by first | rfl | (simp only [List.length_set]; rfl) | (simp; done) | (simp; omega)), trivial⟩ (mc [vo cU8 5 br b] [true] rfl (by first | rfl | (simp only [List.length_set] <;> rfl))) Foll.refl ?_
    rintro fu2 b1 br1 at_1 n ⟨hm11, hR, hokbr1, hn, hb1⟩
    have := VOk.le hokbr1
    obtain ⟨fu3, rfl⟩ : ∃ m, fu2 = m + 1 := ⟨fu2 - 1, by omega⟩
    replace hR := (emit_Bytes_l5.eq_2 ..).symm.trans hR
    refine J_seq ?_
    refine J_block ?_
    refine J_seq ?_
    refine sr 18 rfl ?_
    refine ip 5 13 [(39, bv (decide (n < (l.length : Int))))] (by kernel_rfl) ?_
    refine iand 5 8 39 44 (decide (n < (at_1 + 16))) rfl (by kernel_rfl) (fun g12 => ?_) ?_
    ·have g12p : n < (l.length : Int) := by simpa using g12
     refine ip 2 3 [(40, iv n), (41, iv at_1)] (by kernel_rfl) ?_
     refine ix rfl (det_add64 rfl rfl rfl rfl (by omega)) ?_
     refine ip 2 0 [(44, bv (decide (n < (at_1 + 16))))] (by kernel_rfl) ?_
     exact JI_end (armI 5 39 44 g12 Foll.refl (mc [vo cU8 5 br1 b1] [true] rfl (by first | rfl | (simp only [List.length_set] <;> rfl))) rfl rfl rfl rfl rfl)
    refine ip 1 7 [(45, bv ((decide (n < (l.length : Int))) && (decide (n < (at_1 + 16)))))] (by kernel_rfl) ?_
    refine iand 7 0 45 52 true rfl (by kernel_rfl) (fun g13 => ?_) ?_
    ·have g13p : (n < (l.length : Int)) ∧ (n < (at_1 + 16)) := by simpa using g13
     refine ip 2 5 [(46, .slice lq l.length lk), (47, iv n)] (by kernel_rfl) ?_
     refine JI_base 0 rfl (by omega) fun a14 hq15 => ?_
     refine ix rfl (det_ixq slt27 rfl rfl hq15 rfl ((n).toNat) (by omega) (by omega)) ?_
     refine ip 1 3 [(49, pa (Addr.add a14 (((n).toNat) * 6)))] (by kernel_rfl) ?_
     refine ix rfl (det_conv (det_ld_one (v := iv ((l.getD ((n).toNat) Act.zero).kind)) (us := [iv ((l.getD ((n).toNat) Act.zero).kind)]) ty3 rfl rfl (at_part0 (at_slq (c := cAct) (sz := 6) hq15 (fun _ => rfl) 0 rfl (gd Act.zero (by omega))) (ws := [iv ((l.getD ((n).toNat) Act.zero).kind)]) 1 rfl) rfl) (congrArg (fun z => (Value.int .i64 z)) (congrArg Act.kind (pen_at hpen (k := ((n).toNat)) (by omega))))) ?_
     refine ip 2 0 [(52, bv true)] (by kernel_rfl) ?_
     exact JI_end (armI 7 45 52 g13 Foll.refl (mc [vo cU8 5 br1 b1] [true] rfl (by first | rfl | (simp only [List.length_set] <;> rfl))) rfl rfl rfl rfl rfl)
    refine ie ?_
    refine J_if rfl (fun h16 => ?_) (fun h16 => ?_)
    ·have h16p := h16; try simp at h16p
     replace hR := bt hR h16
     refine J_exit ?_
     refine nx ?_
     refine J_region 3 rfl ?_
     refine ip 1 2 [(33, iv n)] (by kernel_rfl) ?_
     refine ix rfl (det_add64 rfl rfl rfl rfl (by omega)) ?_
     refine ip 1 0 [(9, iv (n + 1))] (by kernel_rfl) ?_
     refine JI_end ?_
     exact againL5 (z1 := (fu3 + 1)) (z2 := b1) (z3 := br1) (z4 := at_1) (z5 := n) fu3 b1 br1 at_1 (n + 1) ⟨(by omega), hR, hokbr1, (by omega), (by omega)⟩ (Nat.lt_succ_self _) ⟨rfl, rfl, rfl, rfl, (by first | rfl | (simp only [List.length_set]; rfl) | (simp; done) | (simp; omega)), trivial⟩ (mc [vo cU8 5 br1 b1] [true] rfl (by first | rfl | (simp only [List.length_set] <;> rfl))) Foll.refl
    ·have h16p := h16; try simp at h16p
     replace hR := bf hR h16
     refine J_skip ?_
     refine nx ?_
     refine J_seq ?_
     refine sr 3 rfl ?_
     refine ip 3 0 [(55, bv (decide (n = at_1)))] (by kernel_rfl) ?_
     refine ie ?_
     refine J_if rfl (fun h17 => ?_) (fun h17 => ?_)
     ·have h17p : n = at_1 := by simpa using h17
      exfalso; try simp only [Bool.and_true, Bool.and_eq_false_iff, decide_eq_false_iff_not] at *; omega
     ·have h17p : ¬ (n = at_1) := by simpa using h17
      refine J_skip ?_
      refine nx ?_
      refine sr 8 rfl ?_
      refine ip 4 4 [(56, .slice (va br1.q) b1.length br1.k), (57, .slice lq l.length lk), (58, iv at_1), (59, iv n)] (by kernel_rfl) ?_
      refine JI_fact1 (sl_sub (c := cAct) (sz := 6) (xs := l) (at_of 0 rfl) ((at_1).toNat) ((n).toNat) lk (fun _ => rfl) rfl (by omega) (by omega)) ?_
      refine ix rfl (det_slc (n' := ((l.drop ((at_1).toNat)).take (((n).toNat) - ((at_1).toNat))).length) slt27 rfl rfl ((at_1).toNat) ((n).toNat) lk (sb_some rfl (by omega)) (sb_some rfl (by omega)) sb_none (by omega) (by omega) (by omega) (by first | rfl | omega | (simp <;> omega) | (simp; done)) rfl) ?_
      have : (l.drop ((at_1).toNat)).length = l.length - ((at_1).toNat) := List.length_drop
      have : ((l.drop ((at_1).toNat)).take (((n).toNat) - ((at_1).toNat))).length = min (((n).toNat) - ((at_1).toNat)) (l.drop ((at_1).toNat)).length := List.length_take
      have hQ := bindVx hR; clear hR; obtain ⟨y0, hy0, hR⟩ := hQ
      refine ixc rfl (det_call (emit_pens_c ((l.drop ((at_1).toNat)).take (((n).toNat) - ((at_1).toNat))) (subq lq ((at_1).toNat) 6 lk) (lk - ((at_1).toNat)) (by first | omega | (simp <;> omega) | (dsimp only; omega) | decide) (by first | omega | (simp <;> omega) | (dsimp only; omega) | decide) y0 hy0) rfl rfl rfl rfl rfl (Foll.pick [0, 2, 3] rfl)) ?_
      have := emit_pens_len ((l.drop ((at_1).toNat)).take (((n).toNat) - ((at_1).toNat))); try rw [hy0] at this
      refine it rfl (tri_app_str (r := br1) (xs := b1) (s := y0) (pre := []) (post := []) apt30 (by kernel_rfl) Tryz.underlying9 rfl rfl rfl rfl rfl rfl rfl hokbr1 (by first | omega | (simp <;> omega))) fun ⟨r18, hr19⟩ => ?_
      have : (b1 ++ y0).length = b1.length + y0.length := List.length_append
      have := VOk.le hr19
      have := VOk.cap hr19
      refine ip 1 0 [(2, .slice (va r18.q) ((b1 ++ y0).length) r18.k)] (by kernel_rfl) ?_
      refine ie ?_
      refine sr 3 rfl ?_
      refine ip 1 2 [(63, iv n)] (by kernel_rfl) ?_
      refine ix rfl (det_sub64 rfl rfl rfl rfl (by omega)) ?_
      refine ip 1 0 [(8, iv (n - 1))] (by kernel_rfl) ?_
      refine ie ?_
      refine J_exit ?_
      refine nx ?_
      refine J_region 3 rfl ?_
      refine ip 1 2 [(30, iv (n - 1))] (by kernel_rfl) ?_
      refine ix rfl (det_add64 rfl rfl rfl rfl (by omega)) ?_
      refine ip 1 0 [(8, iv ((n - 1) + 1))] (by kernel_rfl) ?_
      refine JI_end ?_
      exact againL4 (z1 := (fu1 + 1)) (z2 := b) (z3 := br) (z4 := at_) fu1 (b1 ++ y0) r18 ((n - 1) + 1) ⟨(by omega), hR, hr19, (by omega), (by first | omega | (simp <;> omega))⟩ (Nat.lt_succ_self _) ⟨rfl, (by first | rfl | (simp only [List.length_set]; rfl) | (simp; done) | (simp; omega)), rfl, (by first | rfl | (simp only [List.length_set]; rfl) | (simp; done) | (simp; omega)), trivial⟩ (mc [vo cU8 5 r18 (b1 ++ y0)] [true] rfl (by first | rfl | (simp only [List.length_set] <;> rfl))) (Foll.pick [1, 2, 3] rfl)
   ·have h10p : ¬ (at_ < (l.length : Int)) := by simpa using h10
    replace hR := bf hR h10
    refine J_exit ?_
    refine nx ?_
    refine sr 3 rfl ?_
    refine ip 3 0 [(2, .slice (va br.q) b.length br.k), (3, iv 0)] (by kernel_rfl) ?_
    refine ie ?_
    refine J_ret ?_
    subst hR
    exact ends_ret rfl ⟨hr, hD⟩ (by simp [hD]) (res2 rfl (resV_tmp rfl) (resV_tmp rfl)) ⟨br, hokbr⟩ (by rfl) (mc [vo cU8 5 br b] [true] rfl (by first | rfl | (simp only [List.length_set] <;> rfl))) Foll.nil

def pen_Cost (l : List Act) : Int × Int :=
 (bindV (emit_Bytes l) fun (y1 : List UInt8 × Int) => ((y1.1.length : Int), y1.2))

theorem pen_Cost_c (l : List Act) (lq : Option Addr) (lk : Nat) (hll : l.length ≤ 9223372036854775807) (hcl : l.length ≤ lk) (hpen : ∀ a ∈ l, penA a) (hlen : l.length ≤ 2000) (R : Int × Int) (hR : pen_Cost l = R) : ConV Tryz.prog 43 [.slice lq l.length lk] [sl cAct lq l, sl cAtr (some ⟨2, 0, none⟩) tab2, tabP 5 pow10Cells] (.tuple #[iv R.1, iv R.2]) := by
 refine con_of_J (n := 14) Tryz.func43 rfl (by kernel_rfl) rfl rfl [(0, .slice lq l.length lk)] ⟨rfl, trivial⟩ fun X hX hr hD => ?_
 replace hR := (pen_Cost.eq_1 ..).symm.trans hR
 refine sr 2 rfl ?_
 refine ip 2 0 [] (by kernel_rfl) ?_
 refine ie ?_
 refine sr 7 rfl ?_
 refine ip 1 6 [(7, .slice lq l.length lk)] (by kernel_rfl) ?_
 have hQ := bindVx hR; clear hR; obtain ⟨y1, hy1, hR⟩ := hQ
 refine it rfl (tri_callN (L2 := []) (emit_Bytes_c l lq lk (by first | omega | (simp <;> omega) | (dsimp only; omega) | decide) (by first | omega | (simp <;> omega) | (dsimp only; omega) | decide) (by first | assumption | omega) (by first | omega | (simp <;> omega)) y1 hy1) rfl rfl rfl rfl rfl Foll.refl (List.Perm.refl _) (fun ⟨r1, hk2⟩ => ((vo cU8 5 r1 y1.1) ++ ([]))) (fun _ => by first | rfl | simp only [List.append_nil, List.cons_append, List.nil_append, List.append_assoc])) fun ⟨r1, hk2⟩ => ?_
 have := VOk.le hk2
 have := VOk.cap hk2
 refine ip 5 0 [(4, .slice (va r1.q) y1.1.length r1.k), (5, iv y1.2)] (by kernel_rfl) ?_
 refine ie ?_
 refine sr 5 rfl ?_
 refine ip 5 0 [(2, iv (y1.1.length : Int)), (3, iv y1.2)] (by kernel_rfl) ?_
 refine ie ?_
 refine J_ret ?_
 subst hR
 exact ends_ret rfl ⟨hr, hD⟩ (by simp [hD]) (res2 rfl (resV_tmp rfl) (resV_tmp rfl)) () (by rfl) (List.nil_sublist _) Foll.nil

end Go.Proofs.YtinkdfnpmoljfaaGreatDoor

