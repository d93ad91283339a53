import Derived.Test.YtinkdfnpmoljfaaGreatDoorD2
import Derived.Test.YtinkdfnpmoljfaaGreatDoorFenX
import Derived.Test.YtinkdfnpmoljfaaGreatDoorIto
import Derived.Test.YtinkdfnpmoljfaaGreatDoorProg
import Derived.Test.YtinkdfnpmoljfaaGreatDoorP1
import Derived.Test.YtinkdfnpmoljfaaGreatDoorP2
import Derived.Test.YtinkdfnpmoljfaaGreatDoorP3
import Derived.Test.YtinkdfnpmoljfaaGreatDoorP4
import Derived.Test.YtinkdfnpmoljfaaGreatDoorP5
import Derived.Test.YtinkdfnpmoljfaaGreatDoorP6
import Derived.Test.YtinkdfnpmoljfaaGreatDoorP7
import Derived.Test.YtinkdfnpmoljfaaGreatDoorP8
set_option linter.unusedVariables false
set_option linter.unusedSimpArgs false
set_option linter.unnecessarySimpa false
set_option maxRecDepth 100000
namespace Go.Proofs.YtinkdfnpmoljfaaGreatDoor
open Go Go.Fen
theorem ty248 : Ty Tryz.prog 248 1 false := ⟨by kernel_rfl⟩
def style_pens_2 (s : Sty) (p1 : Act) : Sty :=
 Sty.zero

theorem style_pens_2_c (s : Sty) (p1 : Act) (sb : Nat) (R : Sty) (hR : style_pens_2 s p1 = R) : Con Tryz.prog 177 [pt sb 0, ag (cAct p1)] [bx sb (cSty s) 70] [] (Unit) (fun x => .tuple #[]) (fun x => [bx sb (cSty R) 70]) (fun x => []) := by
 refine con_of_J (n := 7) Tryz.func177 rfl (by kernel_rfl) rfl rfl [(0, pt sb 0), (1, ag (cAct p1))] ⟨rfl, rfl, trivial⟩ fun X hX hr hD => ?_
 replace hR := (style_pens_2.eq_1 ..).symm.trans hR
 refine sr 1 rfl ?_
 refine it rfl (tri_box (cs := cAct p1) rfl rfl rfl) fun b1 => ?_
 refine ie ?_
 refine J_region 4 rfl ?_
 refine ip 1 3 [(4, pt sb 0)] (by kernel_rfl) ?_
 refine ix rfl (det_build (cs := cSty Sty.zero) rfl rfl (by kernel_rfl)) ?_
 refine ip 1 1 [(6, pt sb 0)] (by kernel_rfl) ?_
 refine it rfl (tri_store (us := cSty Sty.zero) (cs' := cSty Sty.zero) ty70 rfl rfl rfl 1 rfl rfl rfl rfl rfl rfl) fun _ => ?_
 refine JI_end ?_
 subst hR
 exact ends_normal rfl ⟨hr, hD⟩ (by simp [hD]) (res0 rfl) () (by rfl) (mk [false, true] rfl) Foll.nil

def style_pens_3 (s : Sty) (a : Act) : Sty :=
 { s with attr := (bOp .or .i64 s.attr a.m) }

theorem style_pens_3_c (s : Sty) (a : Act) (sb : Nat) (R : Sty) (hR : style_pens_3 s a = R) : Con Tryz.prog 179 [pt sb 0, ag (cAct a)] [bx sb (cSty s) 70] [] (Unit) (fun x => .tuple #[]) (fun x => [bx sb (cSty R) 70]) (fun x => []) := by
 refine con_of_J (n := 13) Tryz.func179 rfl (by kernel_rfl) rfl rfl [(0, pt sb 0), (1, ag (cAct a))] ⟨rfl, rfl, trivial⟩ fun X hX hr hD => ?_
 replace hR := (style_pens_3.eq_1 ..).symm.trans hR
 refine sr 1 rfl ?_
 refine it rfl (tri_box (cs := cAct a) rfl rfl rfl) fun b1 => ?_
 refine ie ?_
 refine sh' 10 [(10, [bx b1 (cAct a) 26]), (9, [bx sb (cSty s) 70])] [] [bx b1 (cAct a) 26, bx sb (cSty s) 70] #[false, false, false, false, false, false, false, false, false, false] (by kernel_rfl) rfl (by kernel_rfl) (by kernel_rfl) (by kernel_rfl) (mk [true, true] rfl) Foll.refl ?_
 refine hpur [0, 1, 2, 4] 6 #[true, true, true, false, true, false, false, false, false, false] [(4, pt sb 0), (6, pt sb 0), (8, pt b1 2)] (by kernel_rfl) ?_
 refine htak 3 [bx b1 (cAct a) 26, bx sb (cSty s) 70] #[true, true, true, true, true, false, false, false, false, false] rfl rfl rfl (by kernel_rfl) (by kernel_rfl) (by kernel_rfl) (det_own_one (v := iv s.attr) ty3 rfl rfl 1 rfl rfl) ?_
 refine htak 5 [bx b1 (cAct a) 26, bx sb (cSty s) 70] #[true, true, true, true, true, true, false, false, false, false] rfl rfl rfl (by kernel_rfl) (by kernel_rfl) (by kernel_rfl) (det_own_one (v := iv a.m) ty3 rfl rfl 0 rfl rfl) ?_
 refine hpur [6, 7, 8] 1 #[true, true, true, true, true, true, true, true, true, false] [(10, iv (bOp .or .i64 s.attr a.m)), (12, pt sb 0)] (by kernel_rfl) ?_
 refine hone 9 [bx b1 (cAct a) 26] #[true, true, true, true, true, true, true, true, true, true] rfl rfl rfl (by kernel_rfl) (by kernel_rfl) (by kernel_rfl) (tri_store (us := [iv (bOp .or .i64 s.attr a.m)]) (cs' := cSty ({ s with attr := (bOp .or .i64 s.attr a.m) })) ty3 rfl rfl rfl 1 rfl rfl rfl rfl rfl rfl) (fun _ => (mk [true, false] rfl)) (fun _ => Foll.nil) fun _ => ?_
 refine JH_done (by kernel_rfl) ?_
 subst hR
 exact ends_normal rfl ⟨hr, hD⟩ (by simp [hD]) (res0 rfl) () (by rfl) (mk [false, true] rfl) Foll.nil

def style_pens_5 (s : Sty) (a : Act) : Sty :=
 { s with attr := (bOp .andNot .i64 s.attr a.m) }

theorem style_pens_5_c (s : Sty) (a : Act) (sb : Nat) (R : Sty) (hR : style_pens_5 s a = R) : Con Tryz.prog 181 [pt sb 0, ag (cAct a)] [bx sb (cSty s) 70] [] (Unit) (fun x => .tuple #[]) (fun x => [bx sb (cSty R) 70]) (fun x => []) := by
 refine con_of_J (n := 13) Tryz.func181 rfl (by kernel_rfl) rfl rfl [(0, pt sb 0), (1, ag (cAct a))] ⟨rfl, rfl, trivial⟩ fun X hX hr hD => ?_
 replace hR := (style_pens_5.eq_1 ..).symm.trans hR
 refine sr 1 rfl ?_
 refine it rfl (tri_box (cs := cAct a) rfl rfl rfl) fun b1 => ?_
 refine ie ?_
 refine sh' 10 [(10, [bx b1 (cAct a) 26]), (9, [bx sb (cSty s) 70])] [] [bx b1 (cAct a) 26, bx sb (cSty s) 70] #[false, false, false, false, false, false, false, false, false, false] (by kernel_rfl) rfl (by kernel_rfl) (by kernel_rfl) (by kernel_rfl) (mk [true, true] rfl) Foll.refl ?_
 refine hpur [0, 1, 2, 4] 6 #[true, true, true, false, true, false, false, false, false, false] [(4, pt sb 0), (6, pt sb 0), (8, pt b1 2)] (by kernel_rfl) ?_
 refine htak 3 [bx b1 (cAct a) 26, bx sb (cSty s) 70] #[true, true, true, true, true, false, false, false, false, false] rfl rfl rfl (by kernel_rfl) (by kernel_rfl) (by kernel_rfl) (det_own_one (v := iv s.attr) ty3 rfl rfl 1 rfl rfl) ?_
 refine htak 5 [bx b1 (cAct a) 26, bx sb (cSty s) 70] #[true, true, true, true, true, true, false, false, false, false] rfl rfl rfl (by kernel_rfl) (by kernel_rfl) (by kernel_rfl) (det_own_one (v := iv a.m) ty3 rfl rfl 0 rfl rfl) ?_
 refine hpur [6, 7, 8] 1 #[true, true, true, true, true, true, true, true, true, false] [(10, iv (bOp .andNot .i64 s.attr a.m)), (12, pt sb 0)] (by kernel_rfl) ?_
 refine hone 9 [bx b1 (cAct a) 26] #[true, true, true, true, true, true, true, true, true, true] rfl rfl rfl (by kernel_rfl) (by kernel_rfl) (by kernel_rfl) (tri_store (us := [iv (bOp .andNot .i64 s.attr a.m)]) (cs' := cSty ({ s with attr := (bOp .andNot .i64 s.attr a.m) })) ty3 rfl rfl rfl 1 rfl rfl rfl rfl rfl rfl) (fun _ => (mk [true, false] rfl)) (fun _ => Foll.nil) fun _ => ?_
 refine JH_done (by kernel_rfl) ?_
 subst hR
 exact ends_normal rfl ⟨hr, hD⟩ (by simp [hD]) (res0 rfl) () (by rfl) (mk [false, true] rfl) Foll.nil

def style_pens_7 (s : Sty) (a : Act) : Sty :=
 { s with under := a.m }

theorem style_pens_7_c (s : Sty) (a : Act) (sb : Nat) (R : Sty) (hR : style_pens_7 s a = R) : Con Tryz.prog 183 [pt sb 0, ag (cAct a)] [bx sb (cSty s) 70] [] (Unit) (fun x => .tuple #[]) (fun x => [bx sb (cSty R) 70]) (fun x => []) := by
 refine con_of_J (n := 9) Tryz.func183 rfl (by kernel_rfl) rfl rfl [(0, pt sb 0), (1, ag (cAct a))] ⟨rfl, rfl, trivial⟩ fun X hX hr hD => ?_
 replace hR := (style_pens_7.eq_1 ..).symm.trans hR
 refine sr 1 rfl ?_
 refine it rfl (tri_box (cs := cAct a) rfl rfl rfl) fun b1 => ?_
 refine ie ?_
 refine J_region 6 rfl ?_
 refine ip 2 4 [(4, pt sb 0), (5, pt b1 2)] (by kernel_rfl) ?_
 refine ix rfl (det_own_one (v := iv a.m) ty3 rfl rfl 0 rfl rfl) ?_
 refine ip 2 1 [(8, pt sb 1)] (by kernel_rfl) ?_
 refine it rfl (tri_store (us := [iv a.m]) (cs' := cSty ({ s with under := a.m })) ty3 rfl rfl rfl 1 rfl rfl rfl rfl rfl rfl) fun _ => ?_
 refine JI_end ?_
 subst hR
 exact ends_normal rfl ⟨hr, hD⟩ (by simp [hD]) (res0 rfl) () (by rfl) (mk [false, true] rfl) Foll.nil

def style_pens_8 (s : Sty) : Unit :=
 ()

theorem style_pens_8_c (s : Sty) (sb : Nat) (R : Unit) (hR : style_pens_8 s = R) : Con Tryz.prog 184 [pt sb 0] [bx sb (cSty s) 70] [] (Unit) (fun x => pt sb 2) (fun x => [bx sb (cSty s) 70]) (fun x => []) := by
 refine con_of_J (n := 6) Tryz.func184 rfl (by kernel_rfl) rfl rfl [(0, pt sb 0)] ⟨rfl, trivial⟩ fun X hX hr hD => ?_
 replace hR := (style_pens_8.eq_1 ..).symm.trans hR
 refine sr 1 rfl ?_
 refine ip 1 0 [] (by kernel_rfl) ?_
 refine ie ?_
 refine sr 4 rfl ?_
 refine ip 4 0 [(2, pt sb 2)] (by kernel_rfl) ?_
 refine ie ?_
 refine J_ret ?_
 subst hR
 exact ends_ret rfl ⟨hr, hD⟩ (by simp [hD]) (res1 rfl (resV_tmp rfl)) () (by rfl) (mk [true] rfl) Foll.nil

def style_pens_1_1 (s : Sty) (a : Act) : Sty :=
 { s with fore := a.color }

theorem style_pens_1_1_c (s : Sty) (a : Act) (sb : Nat) (p2b : Nat) (R : Sty) (hR : style_pens_1_1 s a = R) : Con Tryz.prog 176 [pt sb 0, ag (cAct a), pt p2b 0] [bx sb (cSty s) 70, bx p2b [.func (.func 184) #[] #[]] 248] [] (Unit) (fun x => .tuple #[]) (fun x => [bx sb (cSty R) 70, bx p2b [.func (.func 184) #[] #[]] 248]) (fun x => []) := by
 refine con_of_J (n := 11) Tryz.func176 rfl (by kernel_rfl) rfl rfl [(0, pt sb 0), (1, ag (cAct a)), (2, pt p2b 0)] ⟨rfl, rfl, rfl, trivial⟩ fun X hX hr hD => ?_
 replace hR := (style_pens_1_1.eq_1 ..).symm.trans hR
 refine sr 1 rfl ?_
 refine it rfl (tri_box (cs := cAct a) rfl rfl rfl) fun b1 => ?_
 refine ie ?_
 refine sh' 7 [(7, [bx b1 (cAct a) 26]), (6, [bx sb (cSty s) 70]), (7, [bx p2b [.func (.func 184) #[] #[]] 248])] [] [bx b1 (cAct a) 26, bx sb (cSty s) 70, bx p2b [.func (.func 184) #[] #[]] 248] #[false, false, false, false, false, false, false] (by kernel_rfl) rfl (by kernel_rfl) (by kernel_rfl) (by kernel_rfl) (mk [true, true, true] rfl) Foll.refl ?_
 refine hpur [1, 3] 5 #[false, true, false, true, false, false, false] [(6, pt sb 0), (8, pt b1 3)] (by kernel_rfl) ?_
 refine htak 0 [bx b1 (cAct a) 26, bx sb (cSty s) 70, bx p2b [.func (.func 184) #[] #[]] 248] #[true, true, false, true, false, false, false] rfl rfl rfl (by kernel_rfl) (by kernel_rfl) (by kernel_rfl) (det_own_one (v := .func (.func 184) #[] #[]) ty248 rfl rfl 2 rfl rfl) ?_
 refine htak 4 [bx b1 (cAct a) 26, bx sb (cSty s) 70, bx p2b [.func (.func 184) #[] #[]] 248] #[true, true, false, true, true, false, false] rfl rfl rfl (by kernel_rfl) (by kernel_rfl) (by kernel_rfl) (det_own_agg (us := cCol a.color) ty24 rfl rfl 0 rfl rfl rfl) ?_
 refine hone 2 [bx b1 (cAct a) 26, bx sb (cSty s) 70, bx p2b [.func (.func 184) #[] #[]] 248] #[true, true, true, true, true, false, false] rfl rfl rfl (by kernel_rfl) (by kernel_rfl) (by kernel_rfl) (tri_callP (L2 := [bx b1 (cAct a) 26, bx p2b [.func (.func 184) #[] #[]] 248]) (style_pens_8_c s sb _ rfl) rfl rfl rfl rfl rfl Foll.nil (permC [[bx b1 (cAct a) 26], [bx sb (cSty s) 70], [bx p2b [.func (.func 184) #[] #[]] 248]] [1, 0, 2] 3 rfl (by decide) rfl [[bx sb (cSty s) 70], [bx b1 (cAct a) 26], [bx p2b [.func (.func 184) #[] #[]] 248]] rfl (by first | rfl | simp only [List.flatten_cons, List.flatten_nil, List.append_nil, List.cons_append, List.nil_append, List.append_assoc])) (fun _ => [bx b1 (cAct a) 26, bx sb (cSty s) 70, bx p2b [.func (.func 184) #[] #[]] 248]) (fun _ => permC [[bx sb (cSty s) 70], [bx b1 (cAct a) 26], [bx p2b [.func (.func 184) #[] #[]] 248]] [1, 0, 2] 3 rfl (by decide) (by first | rfl | simp only [List.flatten_cons, List.flatten_nil, List.append_nil, List.cons_append, List.nil_append, List.append_assoc]) [[bx b1 (cAct a) 26], [bx sb (cSty s) 70], [bx p2b [.func (.func 184) #[] #[]] 248]] rfl (by first | rfl | simp only [List.flatten_cons, List.flatten_nil, List.append_nil, List.cons_append, List.nil_append, List.append_assoc]))) (fun _ => (mk [true, true, true] rfl)) (fun _ => Foll.nil) fun _ => ?_
 refine hpur [5] 1 #[true, true, true, true, true, true, false] [(10, pt sb 2)] (by kernel_rfl) ?_
 refine hone 6 [bx b1 (cAct a) 26, bx p2b [.func (.func 184) #[] #[]] 248] #[true, true, true, true, true, true, true] rfl rfl rfl (by kernel_rfl) (by kernel_rfl) (by kernel_rfl) (tri_store (us := cCol a.color) (cs' := cSty ({ s with fore := a.color })) ty24 rfl rfl rfl 1 rfl rfl rfl rfl rfl rfl) (fun _ => (mk [true, false, true] rfl)) (fun _ => Foll.nil) fun _ => ?_
 refine JH_done (by kernel_rfl) ?_
 subst hR
 exact ends_normal rfl ⟨hr, hD⟩ (by simp [hD]) (res0 rfl) () (by rfl) (mk [false, true, true] rfl) Foll.nil

def style_pens_9 (s : Sty) : Unit :=
 ()

theorem style_pens_9_c (s : Sty) (sb : Nat) (R : Unit) (hR : style_pens_9 s = R) : Con Tryz.prog 185 [pt sb 0] [bx sb (cSty s) 70] [] (Unit) (fun x => pt sb 4) (fun x => [bx sb (cSty s) 70]) (fun x => []) := by
 refine con_of_J (n := 6) Tryz.func185 rfl (by kernel_rfl) rfl rfl [(0, pt sb 0)] ⟨rfl, trivial⟩ fun X hX hr hD => ?_
 replace hR := (style_pens_9.eq_1 ..).symm.trans hR
 refine sr 1 rfl ?_
 refine ip 1 0 [] (by kernel_rfl) ?_
 refine ie ?_
 refine sr 4 rfl ?_
 refine ip 4 0 [(2, pt sb 4)] (by kernel_rfl) ?_
 refine ie ?_
 refine J_ret ?_
 subst hR
 exact ends_ret rfl ⟨hr, hD⟩ (by simp [hD]) (res1 rfl (resV_tmp rfl)) () (by rfl) (mk [true] rfl) Foll.nil

def style_pens_1_1a (s : Sty) (a : Act) : Sty :=
 { s with back := a.color }

theorem style_pens_1_1a_c (s : Sty) (a : Act) (sb : Nat) (p2b : Nat) (R : Sty) (hR : style_pens_1_1a s a = R) : Con Tryz.prog 176 [pt sb 0, ag (cAct a), pt p2b 0] [bx sb (cSty s) 70, bx p2b [.func (.func 185) #[] #[]] 248] [] (Unit) (fun x => .tuple #[]) (fun x => [bx sb (cSty R) 70, bx p2b [.func (.func 185) #[] #[]] 248]) (fun x => []) := by
 refine con_of_J (n := 11) Tryz.func176 rfl (by kernel_rfl) rfl rfl [(0, pt sb 0), (1, ag (cAct a)), (2, pt p2b 0)] ⟨rfl, rfl, rfl, trivial⟩ fun X hX hr hD => ?_
 replace hR := (style_pens_1_1a.eq_1 ..).symm.trans hR
 refine sr 1 rfl ?_
 refine it rfl (tri_box (cs := cAct a) rfl rfl rfl) fun b1 => ?_
 refine ie ?_
 refine sh' 7 [(7, [bx b1 (cAct a) 26]), (6, [bx sb (cSty s) 70]), (7, [bx p2b [.func (.func 185) #[] #[]] 248])] [] [bx b1 (cAct a) 26, bx sb (cSty s) 70, bx p2b [.func (.func 185) #[] #[]] 248] #[false, false, false, false, false, false, false] (by kernel_rfl) rfl (by kernel_rfl) (by kernel_rfl) (by kernel_rfl) (mk [true, true, true] rfl) Foll.refl ?_
 refine hpur [1, 3] 5 #[false, true, false, true, false, false, false] [(6, pt sb 0), (8, pt b1 3)] (by kernel_rfl) ?_
 refine htak 0 [bx b1 (cAct a) 26, bx sb (cSty s) 70, bx p2b [.func (.func 185) #[] #[]] 248] #[true, true, false, true, false, false, false] rfl rfl rfl (by kernel_rfl) (by kernel_rfl) (by kernel_rfl) (det_own_one (v := .func (.func 185) #[] #[]) ty248 rfl rfl 2 rfl rfl) ?_
 refine htak 4 [bx b1 (cAct a) 26, bx sb (cSty s) 70, bx p2b [.func (.func 185) #[] #[]] 248] #[true, true, false, true, true, false, false] rfl rfl rfl (by kernel_rfl) (by kernel_rfl) (by kernel_rfl) (det_own_agg (us := cCol a.color) ty24 rfl rfl 0 rfl rfl rfl) ?_
 refine hone 2 [bx b1 (cAct a) 26, bx sb (cSty s) 70, bx p2b [.func (.func 185) #[] #[]] 248] #[true, true, true, true, true, false, false] rfl rfl rfl (by kernel_rfl) (by kernel_rfl) (by kernel_rfl) (tri_callP (L2 := [bx b1 (cAct a) 26, bx p2b [.func (.func 185) #[] #[]] 248]) (style_pens_9_c s sb _ rfl) rfl rfl rfl rfl rfl Foll.nil (permC [[bx b1 (cAct a) 26], [bx sb (cSty s) 70], [bx p2b [.func (.func 185) #[] #[]] 248]] [1, 0, 2] 3 rfl (by decide) rfl [[bx sb (cSty s) 70], [bx b1 (cAct a) 26], [bx p2b [.func (.func 185) #[] #[]] 248]] rfl (by first | rfl | simp only [List.flatten_cons, List.flatten_nil, List.append_nil, List.cons_append, List.nil_append, List.append_assoc])) (fun _ => [bx b1 (cAct a) 26, bx sb (cSty s) 70, bx p2b [.func (.func 185) #[] #[]] 248]) (fun _ => permC [[bx sb (cSty s) 70], [bx b1 (cAct a) 26], [bx p2b [.func (.func 185) #[] #[]] 248]] [1, 0, 2] 3 rfl (by decide) (by first | rfl | simp only [List.flatten_cons, List.flatten_nil, List.append_nil, List.cons_append, List.nil_append, List.append_assoc]) [[bx b1 (cAct a) 26], [bx sb (cSty s) 70], [bx p2b [.func (.func 185) #[] #[]] 248]] rfl (by first | rfl | simp only [List.flatten_cons, List.flatten_nil, List.append_nil, List.cons_append, List.nil_append, List.append_assoc]))) (fun _ => (mk [true, true, true] rfl)) (fun _ => Foll.nil) fun _ => ?_
 refine hpur [5] 1 #[true, true, true, true, true, true, false] [(10, pt sb 4)] (by kernel_rfl) ?_
 refine hone 6 [bx b1 (cAct a) 26, bx p2b [.func (.func 185) #[] #[]] 248] #[true, true, true, true, true, true, true] rfl rfl rfl (by kernel_rfl) (by kernel_rfl) (by kernel_rfl) (tri_store (us := cCol a.color) (cs' := cSty ({ s with back := a.color })) ty24 rfl rfl rfl 1 rfl rfl rfl rfl rfl rfl) (fun _ => (mk [true, false, true] rfl)) (fun _ => Foll.nil) fun _ => ?_
 refine JH_done (by kernel_rfl) ?_
 subst hR
 exact ends_normal rfl ⟨hr, hD⟩ (by simp [hD]) (res0 rfl) () (by rfl) (mk [false, true, true] rfl) Foll.nil

def style_pens_10 (s : Sty) : Unit :=
 ()

theorem style_pens_10_c (s : Sty) (sb : Nat) (R : Unit) (hR : style_pens_10 s = R) : Con Tryz.prog 186 [pt sb 0] [bx sb (cSty s) 70] [] (Unit) (fun x => pt sb 6) (fun x => [bx sb (cSty s) 70]) (fun x => []) := by
 refine con_of_J (n := 6) Tryz.func186 rfl (by kernel_rfl) rfl rfl [(0, pt sb 0)] ⟨rfl, trivial⟩ fun X hX hr hD => ?_
 replace hR := (style_pens_10.eq_1 ..).symm.trans hR
 refine sr 1 rfl ?_
 refine ip 1 0 [] (by kernel_rfl) ?_
 refine ie ?_
 refine sr 4 rfl ?_
 refine ip 4 0 [(2, pt sb 6)] (by kernel_rfl) ?_
 refine ie ?_
 refine J_ret ?_
 subst hR
 exact ends_ret rfl ⟨hr, hD⟩ (by simp [hD]) (res1 rfl (resV_tmp rfl)) () (by rfl) (mk [true] rfl) Foll.nil

def style_pens_1_1b (s : Sty) (a : Act) : Sty :=
 { s with line := a.color }

theorem style_pens_1_1b_c (s : Sty) (a : Act) (sb : Nat) (p2b : Nat) (R : Sty) (hR : style_pens_1_1b s a = R) : Con Tryz.prog 176 [pt sb 0, ag (cAct a), pt p2b 0] [bx sb (cSty s) 70, bx p2b [.func (.func 186) #[] #[]] 248] [] (Unit) (fun x => .tuple #[]) (fun x => [bx sb (cSty R) 70, bx p2b [.func (.func 186) #[] #[]] 248]) (fun x => []) := by
 refine con_of_J (n := 11) Tryz.func176 rfl (by kernel_rfl) rfl rfl [(0, pt sb 0), (1, ag (cAct a)), (2, pt p2b 0)] ⟨rfl, rfl, rfl, trivial⟩ fun X hX hr hD => ?_
 replace hR := (style_pens_1_1b.eq_1 ..).symm.trans hR
 refine sr 1 rfl ?_
 refine it rfl (tri_box (cs := cAct a) rfl rfl rfl) fun b1 => ?_
 refine ie ?_
 refine sh' 7 [(7, [bx b1 (cAct a) 26]), (6, [bx sb (cSty s) 70]), (7, [bx p2b [.func (.func 186) #[] #[]] 248])] [] [bx b1 (cAct a) 26, bx sb (cSty s) 70, bx p2b [.func (.func 186) #[] #[]] 248] #[false, false, false, false, false, false, false] (by kernel_rfl) rfl (by kernel_rfl) (by kernel_rfl) (by kernel_rfl) (mk [true, true, true] rfl) Foll.refl ?_
 refine hpur [1, 3] 5 #[false, true, false, true, false, false, false] [(6, pt sb 0), (8, pt b1 3)] (by kernel_rfl) ?_
 refine htak 0 [bx b1 (cAct a) 26, bx sb (cSty s) 70, bx p2b [.func (.func 186) #[] #[]] 248] #[true, true, false, true, false, false, false] rfl rfl rfl (by kernel_rfl) (by kernel_rfl) (by kernel_rfl) (det_own_one (v := .func (.func 186) #[] #[]) ty248 rfl rfl 2 rfl rfl) ?_
 refine htak 4 [bx b1 (cAct a) 26, bx sb (cSty s) 70, bx p2b [.func (.func 186) #[] #[]] 248] #[true, true, false, true, true, false, false] rfl rfl rfl (by kernel_rfl) (by kernel_rfl) (by kernel_rfl) (det_own_agg (us := cCol a.color) ty24 rfl rfl 0 rfl rfl rfl) ?_
 refine hone 2 [bx b1 (cAct a) 26, bx sb (cSty s) 70, bx p2b [.func (.func 186) #[] #[]] 248] #[true, true, true, true, true, false, false] rfl rfl rfl (by kernel_rfl) (by kernel_rfl) (by kernel_rfl) (tri_callP (L2 := [bx b1 (cAct a) 26, bx p2b [.func (.func 186) #[] #[]] 248]) (style_pens_10_c s sb _ rfl) rfl rfl rfl rfl rfl Foll.nil (permC [[bx b1 (cAct a) 26], [bx sb (cSty s) 70], [bx p2b [.func (.func 186) #[] #[]] 248]] [1, 0, 2] 3 rfl (by decide) rfl [[bx sb (cSty s) 70], [bx b1 (cAct a) 26], [bx p2b [.func (.func 186) #[] #[]] 248]] rfl (by first | rfl | simp only [List.flatten_cons, List.flatten_nil, List.append_nil, List.cons_append, List.nil_append, List.append_assoc])) (fun _ => [bx b1 (cAct a) 26, bx sb (cSty s) 70, bx p2b [.func (.func 186) #[] #[]] 248]) (fun _ => permC [[bx sb (cSty s) 70], [bx b1 (cAct a) 26], [bx p2b [.func (.func 186) #[] #[]] 248]] [1, 0, 2] 3 rfl (by decide) (by first | rfl | simp only [List.flatten_cons, List.flatten_nil, List.append_nil, List.cons_append, List.nil_append, List.append_assoc]) [[bx b1 (cAct a) 26], [bx sb (cSty s) 70], [bx p2b [.func (.func 186) #[] #[]] 248]] rfl (by first | rfl | simp only [List.flatten_cons, List.flatten_nil, List.append_nil, List.cons_append, List.nil_append, List.append_assoc]))) (fun _ => (mk [true, true, true] rfl)) (fun _ => Foll.nil) fun _ => ?_
 refine hpur [5] 1 #[true, true, true, true, true, true, false] [(10, pt sb 6)] (by kernel_rfl) ?_
 refine hone 6 [bx b1 (cAct a) 26, bx p2b [.func (.func 186) #[] #[]] 248] #[true, true, true, true, true, true, true] rfl rfl rfl (by kernel_rfl) (by kernel_rfl) (by kernel_rfl) (tri_store (us := cCol a.color) (cs' := cSty ({ s with line := a.color })) ty24 rfl rfl rfl 1 rfl rfl rfl rfl rfl rfl) (fun _ => (mk [true, false, true] rfl)) (fun _ => Foll.nil) fun _ => ?_
 refine JH_done (by kernel_rfl) ?_
 subst hR
 exact ends_normal rfl ⟨hr, hD⟩ (by simp [hD]) (res0 rfl) () (by rfl) (mk [false, true, true] rfl) Foll.nil

theorem CheckPen_key {a : Act} (h : style_CheckPen a = 0) : 0 ≤ a.n ∧ a.n ≤ 6 := by
 unfold style_CheckPen at h
 generalize hk : hasK a.n ktab0_0 = c at h
 cases c with
 | false => simp at h
 | true => simp [hasK, ktab0_0] at hk; omega

def style_Run_l0 : List Act → Nat → Sty → (Sty × Int)
 | [], t20, s1 => (s1, 0)
 | hd_l0 :: tl_l0, t20, s1 => (bif (!decide ((style_CheckPen hd_l0) = 0)) then (Sty.zero, (style_CheckPen hd_l0)) else (bif (decide (hd_l0.n = 0)) then style_Run_l0 tl_l0 (t20 + 1) (style_pens_2 s1 hd_l0) else (bif (decide (hd_l0.n = 1)) then style_Run_l0 tl_l0 (t20 + 1) (style_pens_3 s1 hd_l0) else (bif (decide (hd_l0.n = 2)) then style_Run_l0 tl_l0 (t20 + 1) (style_pens_5 s1 hd_l0) else (bif (decide (hd_l0.n = 3)) then style_Run_l0 tl_l0 (t20 + 1) (style_pens_7 s1 hd_l0) else (bif (decide (hd_l0.n = 4)) then style_Run_l0 tl_l0 (t20 + 1) (style_pens_1_1 s1 hd_l0) else (bif (decide (hd_l0.n = 5)) then style_Run_l0 tl_l0 (t20 + 1) (style_pens_1_1a s1 hd_l0) else style_Run_l0 tl_l0 (t20 + 1) (style_pens_1_1b s1 hd_l0))))))))
def style_Run (s : Sty) (l : List Act) : Sty × Int :=
 (bif (!decide ((style_Check s) = 0)) then (Sty.zero, (style_Check s)) else style_Run_l0 l 0 s)

theorem style_Run_c (s : Sty) (l : List Act) (lq : Option Addr) (lk : Nat) (hll : l.length ≤ 9223372036854775807) (hcl : l.length ≤ lk) (R : Sty × Int) (hR : style_Run s l = R) : ConV Tryz.prog 135 [ag (cSty s), .slice lq l.length lk] [sl cAct lq l] (.tuple #[ag (cSty R.1), iv R.2]) := by
 refine con_of_J (n := 39) Tryz.func135 rfl (by kernel_rfl) rfl rfl [(0, ag (cSty s)), (1, .slice lq l.length lk)] ⟨rfl, rfl, trivial⟩ fun X hX hr hD => ?_
 replace hR := (style_Run.eq_1 ..).symm.trans hR
 refine sr 3 rfl ?_
 refine it rfl (tri_box (cs := cSty s) rfl rfl rfl) fun b1 => ?_
 refine it rfl (tri_alloc (cs := cSty Sty.zero) zero70 rfl) fun b2 => ?_
 refine ip 1 0 [] (by kernel_rfl) ?_
 refine ie ?_
 refine J_seq ?_
 refine sr 3 rfl ?_
 refine ix rfl (det_own_agg (us := cSty s) ty70 rfl rfl 1 rfl rfl rfl) ?_
 refine ixc rfl (det_call (style_Check_c s _ rfl) rfl rfl rfl rfl rfl Foll.nil) ?_
 refine ip 1 0 [(6, iv (style_Check s))] (by kernel_rfl) ?_
 refine ie ?_
 refine sr 2 rfl ?_
 refine ip 2 0 [(14, bv (!decide ((style_Check s) = 0)))] (by kernel_rfl) ?_
 refine ie ?_
 refine J_if rfl (fun h3 => ?_) (fun h3 => ?_)
 ·have h3p : ¬ (style_Check s) = 0 := by simpa using h3
  replace hR := bt hR h3
  refine sr 4 rfl ?_
  refine ix rfl (det_build (cs := cSty Sty.zero) rfl rfl (by kernel_rfl)) ?_
  refine ip 1 2 [(16, iv (style_Check s))] (by kernel_rfl) ?_
  refine it rfl (tri_store (us := cSty Sty.zero) (cs' := cSty Sty.zero) ty70 rfl rfl rfl 0 rfl rfl rfl rfl rfl rfl) fun _ => ?_
  refine ip 1 0 [(5, iv (style_Check s))] (by kernel_rfl) ?_
  refine ie ?_
  refine J_ret ?_
  subst hR
  exact ends_ret rfl ⟨hr, hD⟩ (by simp [hD]) (res2 rfl (resV_cell (us := cSty Sty.zero) ty70 rfl 0 rfl rfl rfl) (resV_tmp rfl)) () (by rfl) (mk [false, false] rfl) Foll.nil
 ·have h3p : ¬ (¬ (style_Check s) = 0) := by simpa using h3
  replace hR := bf hR h3
  refine J_skip ?_
  refine nx ?_
  refine sr 2 rfl ?_
  refine it rfl (tri_callN (L2 := [bx b2 (cSty Sty.zero) 70, bx b1 (cSty s) 70]) (style_pens_c _ rfl) rfl rfl rfl rfl rfl Foll.nil (List.Perm.refl _) (fun ⟨b4, b5, b6, b7⟩ => [(b4, .map #[⟨iv 0, ag [.func (.func 175) #[] #[], bv false, .func (.func 177) #[] #[]], 0⟩, ⟨iv 1, ag [.func (.func 178) #[] #[], bv false, .func (.func 179) #[] #[]], 1⟩, ⟨iv 2, ag [.func (.func 180) #[] #[], bv false, .func (.func 181) #[] #[]], 2⟩, ⟨iv 3, ag [.func (.func 182) #[] #[], bv false, .func (.func 183) #[] #[]], 3⟩, ⟨iv 4, ag [.func (.func 175) #[] #[], bv style_pens_1, .func (.func 176) #[] #[pt b5 0]], 4⟩, ⟨iv 5, ag [.func (.func 175) #[] #[], bv style_pens_1a, .func (.func 176) #[] #[pt b6 0]], 5⟩, ⟨iv 6, ag [.func (.func 175) #[] #[], bv style_pens_1b, .func (.func 176) #[] #[pt b7 0]], 6⟩] 7), bx b5 [.func (.func 184) #[] #[]] 248, bx b6 [.func (.func 185) #[] #[]] 248, bx b7 [.func (.func 186) #[] #[]] 248, bx b2 (cSty Sty.zero) 70, bx b1 (cSty s) 70]) (fun _ => rfl)) fun ⟨b4, b5, b6, b7⟩ => ?_
  refine ip 1 0 [(7, .map (some b4))] (by kernel_rfl) ?_
  refine ie ?_
  refine J_seq ?_
  refine sr 3 rfl ?_
  refine ip 3 0 [(18, .slice lq l.length lk), (19, iv (l.length : Int)), (20, iv 0)] (by kernel_rfl) ?_
  refine ie ?_
  refine J_block ?_
  refine JL2 (fun (t20 : Nat) (s1 : Sty) => t20 ≤ l.length ∧ style_Run_l0 (l.drop t20) t20 s1 = R) (fun (t20 : Nat) (s1 : Sty) => [(2, pt b1 0), (4, pt b2 0), (7, .map (some b4)), (18, .slice lq l.length lk), (19, iv (l.length : Int)), (20, iv (t20 : Int))]) (fun (t20 : Nat) (s1 : Sty) => [(b4, .map #[⟨iv 0, ag [.func (.func 175) #[] #[], bv false, .func (.func 177) #[] #[]], 0⟩, ⟨iv 1, ag [.func (.func 178) #[] #[], bv false, .func (.func 179) #[] #[]], 1⟩, ⟨iv 2, ag [.func (.func 180) #[] #[], bv false, .func (.func 181) #[] #[]], 2⟩, ⟨iv 3, ag [.func (.func 182) #[] #[], bv false, .func (.func 183) #[] #[]], 3⟩, ⟨iv 4, ag [.func (.func 175) #[] #[], bv style_pens_1, .func (.func 176) #[] #[pt b5 0]], 4⟩, ⟨iv 5, ag [.func (.func 175) #[] #[], bv style_pens_1a, .func (.func 176) #[] #[pt b6 0]], 5⟩, ⟨iv 6, ag [.func (.func 175) #[] #[], bv style_pens_1b, .func (.func 176) #[] #[pt b7 0]], 6⟩] 7), bx b5 [.func (.func 184) #[] #[]] 248, bx b6 [.func (.func 185) #[] #[]] 248, bx b7 [.func (.func 186) #[] #[]] 248, bx b2 (cSty Sty.zero) 70, bx b1 (cSty s1) 70]) (fun (t20 : Nat) (s1 : Sty) => [sl cAct lq l]) (fun (t20 : Nat) (s1 : Sty) => l.length - t20) 0 s ⟨(by omega), hR⟩ ⟨rfl, rfl, rfl, rfl, rfl, (by first | rfl | (simp only [List.length_set]; rfl) | (simp; done) | (simp; omega)), trivial⟩ (mk [true, true, true, true, true, true] rfl) Foll.refl ?_
  rintro t20 s1 ⟨hm8, hR⟩
  refine sr 1 rfl ?_
  refine ip 1 0 [(21, bv (decide ((t20 : Int) < (l.length : Int))))] (by kernel_rfl) ?_
  refine ie ?_
  refine J_seq ?_
  refine J_if rfl (fun h9 => ?_) (fun h9 => ?_)
  ·have h9p : (t20 : Int) < (l.length : Int) := by simpa using h9
   rw [dropc Act.zero (show t20 < l.length by omega)] at hR; replace hR := (style_Run_l0.eq_2 ..).symm.trans hR
   refine J_skip ?_
   refine nx ?_
   refine J_seq ?_
   refine J_block ?_
   refine sr 4 rfl ?_
   refine JI_base 0 rfl (by omega) fun a10 hq11 => ?_
   refine ix rfl (det_ixq slt27 rfl rfl hq11 rfl t20 rfl (by omega)) ?_
   refine ix rfl (det_ld_agg (us := cAct (l.getD t20 Act.zero)) ty26 rfl rfl (at_slq (c := cAct) (sz := 6) hq11 (fun _ => rfl) 0 rfl (gd Act.zero (by omega))) rfl) ?_
   refine it rfl (tri_alloc (cs := cAct Act.zero) zero26 rfl) fun b12 => ?_
   refine it rfl (tri_store (us := cAct (l.getD t20 Act.zero)) (cs' := cAct (l.getD t20 Act.zero)) ty26 rfl rfl rfl 0 rfl rfl rfl rfl rfl rfl) fun _ => ?_
   refine ie ?_
   refine J_seq ?_
   refine sr 3 rfl ?_
   refine ix rfl (det_own_agg (us := cAct (l.getD t20 Act.zero)) ty26 rfl rfl 0 rfl rfl rfl) ?_
   refine ixc rfl (det_call (style_CheckPen_c (l.getD t20 Act.zero) _ rfl) rfl rfl rfl rfl rfl Foll.nil) ?_
   refine ip 1 0 [(10, iv (style_CheckPen (l.getD t20 Act.zero)))] (by kernel_rfl) ?_
   refine ie ?_
   refine sr 2 rfl ?_
   refine ip 2 0 [(27, bv (!decide ((style_CheckPen (l.getD t20 Act.zero)) = 0)))] (by kernel_rfl) ?_
   refine ie ?_
   refine J_if rfl (fun h13 => ?_) (fun h13 => ?_)
   ·have h13p : ¬ (style_CheckPen (l.getD t20 Act.zero)) = 0 := by simpa using h13
    replace hR := bt hR h13
    refine sr 4 rfl ?_
    refine ix rfl (det_build (cs := cSty Sty.zero) rfl rfl (by kernel_rfl)) ?_
    refine ip 1 2 [(29, iv (style_CheckPen (l.getD t20 Act.zero)))] (by kernel_rfl) ?_
    refine it rfl (tri_store (us := cSty Sty.zero) (cs' := cSty Sty.zero) ty70 rfl rfl rfl 5 rfl rfl rfl rfl rfl rfl) fun _ => ?_
    refine ip 1 0 [(5, iv (style_CheckPen (l.getD t20 Act.zero)))] (by kernel_rfl) ?_
    refine ie ?_
    refine J_ret ?_
    subst hR
    exact ends_ret rfl ⟨hr, hD⟩ (by simp [hD]) (res2 rfl (resV_cell (us := cSty Sty.zero) ty70 rfl 5 rfl rfl rfl) (resV_tmp rfl)) () (by rfl) (mk [false, false, false, false, false, false, false] rfl) Foll.nil
   ·have h13p : ¬ (¬ (style_CheckPen (l.getD t20 Act.zero)) = 0) := by simpa using h13
    replace hR := bf hR h13
    have hky := CheckPen_key (Decidable.of_not_not h13p)
    refine J_skip ?_
    refine nx ?_
    refine J_region 7 rfl ?_
    refine ip 2 5 [(30, .map (some b4)), (31, pt b12 1)] (by kernel_rfl) ?_
    refine ix rfl (det_own_one (v := iv ((l.getD t20 Act.zero).n)) ty3 rfl rfl 0 rfl rfl) ?_
    rcases Bool.eq_false_or_eq_true (decide ((l.getD t20 Act.zero).n = 0)) with g14 | g14
    ·replace hR := bt hR g14
     replace g14 := of_decide_eq_true g14
     refine ix rfl (by exact det_conv (u := ag [.func (.func 175) #[] #[], bv false, .func (.func 177) #[] #[]]) (det_lookupS (z := ag [.nilFunc, bv false, .nilFunc]) (ktab0 b5 b6 b7) (⟨by kernel_rfl, by kernel_rfl, rfl⟩ : MapTy Tryz.prog 202 3 200 (.int .i64)) rfl rfl rfl 1 rfl (by kernel_rfl) (by kernel_rfl)) (by rw [g14]; rfl)) ?_
     refine ip 1 2 [(34, .func (.func 177) #[] #[])] (by kernel_rfl) ?_
     refine ix rfl (det_own_agg (us := cAct (l.getD t20 Act.zero)) ty26 rfl rfl 0 rfl rfl rfl) ?_
     refine it rfl (tri_callN (L2 := [bx b12 (cAct (l.getD t20 Act.zero)) 26, (b4, .map #[⟨iv 0, ag [.func (.func 175) #[] #[], bv false, .func (.func 177) #[] #[]], 0⟩, ⟨iv 1, ag [.func (.func 178) #[] #[], bv false, .func (.func 179) #[] #[]], 1⟩, ⟨iv 2, ag [.func (.func 180) #[] #[], bv false, .func (.func 181) #[] #[]], 2⟩, ⟨iv 3, ag [.func (.func 182) #[] #[], bv false, .func (.func 183) #[] #[]], 3⟩, ⟨iv 4, ag [.func (.func 175) #[] #[], bv style_pens_1, .func (.func 176) #[] #[pt b5 0]], 4⟩, ⟨iv 5, ag [.func (.func 175) #[] #[], bv style_pens_1a, .func (.func 176) #[] #[pt b6 0]], 5⟩, ⟨iv 6, ag [.func (.func 175) #[] #[], bv style_pens_1b, .func (.func 176) #[] #[pt b7 0]], 6⟩] 7), bx b5 [.func (.func 184) #[] #[]] 248, bx b6 [.func (.func 185) #[] #[]] 248, bx b7 [.func (.func 186) #[] #[]] 248, bx b2 (cSty Sty.zero) 70]) (style_pens_2_c s1 (l.getD t20 Act.zero) b1 _ rfl) rfl rfl rfl rfl rfl Foll.nil (permC [[bx b12 (cAct (l.getD t20 Act.zero)) 26], [(b4, .map #[⟨iv 0, ag [.func (.func 175) #[] #[], bv false, .func (.func 177) #[] #[]], 0⟩, ⟨iv 1, ag [.func (.func 178) #[] #[], bv false, .func (.func 179) #[] #[]], 1⟩, ⟨iv 2, ag [.func (.func 180) #[] #[], bv false, .func (.func 181) #[] #[]], 2⟩, ⟨iv 3, ag [.func (.func 182) #[] #[], bv false, .func (.func 183) #[] #[]], 3⟩, ⟨iv 4, ag [.func (.func 175) #[] #[], bv style_pens_1, .func (.func 176) #[] #[pt b5 0]], 4⟩, ⟨iv 5, ag [.func (.func 175) #[] #[], bv style_pens_1a, .func (.func 176) #[] #[pt b6 0]], 5⟩, ⟨iv 6, ag [.func (.func 175) #[] #[], bv style_pens_1b, .func (.func 176) #[] #[pt b7 0]], 6⟩] 7)], [bx b5 [.func (.func 184) #[] #[]] 248], [bx b6 [.func (.func 185) #[] #[]] 248], [bx b7 [.func (.func 186) #[] #[]] 248], [bx b2 (cSty Sty.zero) 70], [bx b1 (cSty s1) 70]] [6, 0, 1, 2, 3, 4, 5] 7 rfl (by decide) rfl [[bx b1 (cSty s1) 70], [bx b12 (cAct (l.getD t20 Act.zero)) 26], [(b4, .map #[⟨iv 0, ag [.func (.func 175) #[] #[], bv false, .func (.func 177) #[] #[]], 0⟩, ⟨iv 1, ag [.func (.func 178) #[] #[], bv false, .func (.func 179) #[] #[]], 1⟩, ⟨iv 2, ag [.func (.func 180) #[] #[], bv false, .func (.func 181) #[] #[]], 2⟩, ⟨iv 3, ag [.func (.func 182) #[] #[], bv false, .func (.func 183) #[] #[]], 3⟩, ⟨iv 4, ag [.func (.func 175) #[] #[], bv style_pens_1, .func (.func 176) #[] #[pt b5 0]], 4⟩, ⟨iv 5, ag [.func (.func 175) #[] #[], bv style_pens_1a, .func (.func 176) #[] #[pt b6 0]], 5⟩, ⟨iv 6, ag [.func (.func 175) #[] #[], bv style_pens_1b, .func (.func 176) #[] #[pt b7 0]], 6⟩] 7)], [bx b5 [.func (.func 184) #[] #[]] 248], [bx b6 [.func (.func 185) #[] #[]] 248], [bx b7 [.func (.func 186) #[] #[]] 248], [bx b2 (cSty Sty.zero) 70]] rfl (by first | rfl | simp only [List.flatten_cons, List.flatten_nil, List.append_nil, List.cons_append, List.nil_append, List.append_assoc])) (fun _ => [bx b1 (cSty (style_pens_2 s1 (l.getD t20 Act.zero))) 70, bx b12 (cAct (l.getD t20 Act.zero)) 26, (b4, .map #[⟨iv 0, ag [.func (.func 175) #[] #[], bv false, .func (.func 177) #[] #[]], 0⟩, ⟨iv 1, ag [.func (.func 178) #[] #[], bv false, .func (.func 179) #[] #[]], 1⟩, ⟨iv 2, ag [.func (.func 180) #[] #[], bv false, .func (.func 181) #[] #[]], 2⟩, ⟨iv 3, ag [.func (.func 182) #[] #[], bv false, .func (.func 183) #[] #[]], 3⟩, ⟨iv 4, ag [.func (.func 175) #[] #[], bv style_pens_1, .func (.func 176) #[] #[pt b5 0]], 4⟩, ⟨iv 5, ag [.func (.func 175) #[] #[], bv style_pens_1a, .func (.func 176) #[] #[pt b6 0]], 5⟩, ⟨iv 6, ag [.func (.func 175) #[] #[], bv style_pens_1b, .func (.func 176) #[] #[pt b7 0]], 6⟩] 7), bx b5 [.func (.func 184) #[] #[]] 248, bx b6 [.func (.func 185) #[] #[]] 248, bx b7 [.func (.func 186) #[] #[]] 248, bx b2 (cSty Sty.zero) 70]) (fun _ => rfl)) fun _ => ?_
     refine JI_end ?_
     refine nx ?_
     refine J_region 2 rfl ?_
     refine ix rfl (det_add64 rfl rfl rfl rfl (by omega)) ?_
     refine ip 1 0 [(20, iv ((t20 : Int) + 1))] (by kernel_rfl) ?_
     refine JI_end ?_
     refine JQ_perm (permC [[bx b1 (cSty (style_pens_2 s1 (l.getD t20 Act.zero))) 70], [bx b12 (cAct (l.getD t20 Act.zero)) 26], [(b4, .map #[⟨iv 0, ag [.func (.func 175) #[] #[], bv false, .func (.func 177) #[] #[]], 0⟩, ⟨iv 1, ag [.func (.func 178) #[] #[], bv false, .func (.func 179) #[] #[]], 1⟩, ⟨iv 2, ag [.func (.func 180) #[] #[], bv false, .func (.func 181) #[] #[]], 2⟩, ⟨iv 3, ag [.func (.func 182) #[] #[], bv false, .func (.func 183) #[] #[]], 3⟩, ⟨iv 4, ag [.func (.func 175) #[] #[], bv style_pens_1, .func (.func 176) #[] #[pt b5 0]], 4⟩, ⟨iv 5, ag [.func (.func 175) #[] #[], bv style_pens_1a, .func (.func 176) #[] #[pt b6 0]], 5⟩, ⟨iv 6, ag [.func (.func 175) #[] #[], bv style_pens_1b, .func (.func 176) #[] #[pt b7 0]], 6⟩] 7)], [bx b5 [.func (.func 184) #[] #[]] 248], [bx b6 [.func (.func 185) #[] #[]] 248], [bx b7 [.func (.func 186) #[] #[]] 248], [bx b2 (cSty Sty.zero) 70]] [2, 3, 4, 5, 6, 0, 1] 7 rfl (by decide) rfl [[(b4, .map #[⟨iv 0, ag [.func (.func 175) #[] #[], bv false, .func (.func 177) #[] #[]], 0⟩, ⟨iv 1, ag [.func (.func 178) #[] #[], bv false, .func (.func 179) #[] #[]], 1⟩, ⟨iv 2, ag [.func (.func 180) #[] #[], bv false, .func (.func 181) #[] #[]], 2⟩, ⟨iv 3, ag [.func (.func 182) #[] #[], bv false, .func (.func 183) #[] #[]], 3⟩, ⟨iv 4, ag [.func (.func 175) #[] #[], bv style_pens_1, .func (.func 176) #[] #[pt b5 0]], 4⟩, ⟨iv 5, ag [.func (.func 175) #[] #[], bv style_pens_1a, .func (.func 176) #[] #[pt b6 0]], 5⟩, ⟨iv 6, ag [.func (.func 175) #[] #[], bv style_pens_1b, .func (.func 176) #[] #[pt b7 0]], 6⟩] 7)], [bx b5 [.func (.func 184) #[] #[]] 248], [bx b6 [.func (.func 185) #[] #[]] 248], [bx b7 [.func (.func 186) #[] #[]] 248], [bx b2 (cSty Sty.zero) 70], [bx b1 (cSty (style_pens_2 s1 (l.getD t20 Act.zero))) 70], [bx b12 (cAct (l.getD t20 Act.zero)) 26]] rfl (by first | rfl | simp)) ?_
     exact againL2 (z1 := t20) (z2 := s1) (t20 + 1) (style_pens_2 s1 (l.getD t20 Act.zero)) ⟨(by omega), hR⟩ (by (try dsimp only); omega) ⟨rfl, rfl, rfl, rfl, rfl, (by first | rfl | (simp only [List.length_set]; rfl) | (simp; done) | (simp; omega)), trivial⟩ (mk [true, true, true, true, true, true, false] rfl) Foll.refl
    ·replace hR := bf hR g14
     replace g14 := of_decide_eq_false g14
     rcases Bool.eq_false_or_eq_true (decide ((l.getD t20 Act.zero).n = 1)) with g15 | g15
     ·replace hR := bt hR g15
      replace g15 := of_decide_eq_true g15
      refine ix rfl (by exact det_conv (u := ag [.func (.func 178) #[] #[], bv false, .func (.func 179) #[] #[]]) (det_lookupS (z := ag [.nilFunc, bv false, .nilFunc]) (ktab0 b5 b6 b7) (⟨by kernel_rfl, by kernel_rfl, rfl⟩ : MapTy Tryz.prog 202 3 200 (.int .i64)) rfl rfl rfl 1 rfl (by kernel_rfl) (by kernel_rfl)) (by rw [g15]; rfl)) ?_
      refine ip 1 2 [(34, .func (.func 179) #[] #[])] (by kernel_rfl) ?_
      refine ix rfl (det_own_agg (us := cAct (l.getD t20 Act.zero)) ty26 rfl rfl 0 rfl rfl rfl) ?_
      refine it rfl (tri_callN (L2 := [bx b12 (cAct (l.getD t20 Act.zero)) 26, (b4, .map #[⟨iv 0, ag [.func (.func 175) #[] #[], bv false, .func (.func 177) #[] #[]], 0⟩, ⟨iv 1, ag [.func (.func 178) #[] #[], bv false, .func (.func 179) #[] #[]], 1⟩, ⟨iv 2, ag [.func (.func 180) #[] #[], bv false, .func (.func 181) #[] #[]], 2⟩, ⟨iv 3, ag [.func (.func 182) #[] #[], bv false, .func (.func 183) #[] #[]], 3⟩, ⟨iv 4, ag [.func (.func 175) #[] #[], bv style_pens_1, .func (.func 176) #[] #[pt b5 0]], 4⟩, ⟨iv 5, ag [.func (.func 175) #[] #[], bv style_pens_1a, .func (.func 176) #[] #[pt b6 0]], 5⟩, ⟨iv 6, ag [.func (.func 175) #[] #[], bv style_pens_1b, .func (.func 176) #[] #[pt b7 0]], 6⟩] 7), bx b5 [.func (.func 184) #[] #[]] 248, bx b6 [.func (.func 185) #[] #[]] 248, bx b7 [.func (.func 186) #[] #[]] 248, bx b2 (cSty Sty.zero) 70]) (style_pens_3_c s1 (l.getD t20 Act.zero) b1 _ rfl) rfl rfl rfl rfl rfl Foll.nil (permC [[bx b12 (cAct (l.getD t20 Act.zero)) 26], [(b4, .map #[⟨iv 0, ag [.func (.func 175) #[] #[], bv false, .func (.func 177) #[] #[]], 0⟩, ⟨iv 1, ag [.func (.func 178) #[] #[], bv false, .func (.func 179) #[] #[]], 1⟩, ⟨iv 2, ag [.func (.func 180) #[] #[], bv false, .func (.func 181) #[] #[]], 2⟩, ⟨iv 3, ag [.func (.func 182) #[] #[], bv false, .func (.func 183) #[] #[]], 3⟩, ⟨iv 4, ag [.func (.func 175) #[] #[], bv style_pens_1, .func (.func 176) #[] #[pt b5 0]], 4⟩, ⟨iv 5, ag [.func (.func 175) #[] #[], bv style_pens_1a, .func (.func 176) #[] #[pt b6 0]], 5⟩, ⟨iv 6, ag [.func (.func 175) #[] #[], bv style_pens_1b, .func (.func 176) #[] #[pt b7 0]], 6⟩] 7)], [bx b5 [.func (.func 184) #[] #[]] 248], [bx b6 [.func (.func 185) #[] #[]] 248], [bx b7 [.func (.func 186) #[] #[]] 248], [bx b2 (cSty Sty.zero) 70], [bx b1 (cSty s1) 70]] [6, 0, 1, 2, 3, 4, 5] 7 rfl (by decide) rfl [[bx b1 (cSty s1) 70], [bx b12 (cAct (l.getD t20 Act.zero)) 26], [(b4, .map #[⟨iv 0, ag [.func (.func 175) #[] #[], bv false, .func (.func 177) #[] #[]], 0⟩, ⟨iv 1, ag [.func (.func 178) #[] #[], bv false, .func (.func 179) #[] #[]], 1⟩, ⟨iv 2, ag [.func (.func 180) #[] #[], bv false, .func (.func 181) #[] #[]], 2⟩, ⟨iv 3, ag [.func (.func 182) #[] #[], bv false, .func (.func 183) #[] #[]], 3⟩, ⟨iv 4, ag [.func (.func 175) #[] #[], bv style_pens_1, .func (.func 176) #[] #[pt b5 0]], 4⟩, ⟨iv 5, ag [.func (.func 175) #[] #[], bv style_pens_1a, .func (.func 176) #[] #[pt b6 0]], 5⟩, ⟨iv 6, ag [.func (.func 175) #[] #[], bv style_pens_1b, .func (.func 176) #[] #[pt b7 0]], 6⟩] 7)], [bx b5 [.func (.func 184) #[] #[]] 248], [bx b6 [.func (.func 185) #[] #[]] 248], [bx b7 [.func (.func 186) #[] #[]] 248], [bx b2 (cSty Sty.zero) 70]] rfl (by first | rfl | simp only [List.flatten_cons, List.flatten_nil, List.append_nil, List.cons_append, List.nil_append, List.append_assoc])) (fun _ => [bx b1 (cSty (style_pens_3 s1 (l.getD t20 Act.zero))) 70, bx b12 (cAct (l.getD t20 Act.zero)) 26, (b4, .map #[⟨iv 0, ag [.func (.func 175) #[] #[], bv false, .func (.func 177) #[] #[]], 0⟩, ⟨iv 1, ag [.func (.func 178) #[] #[], bv false, .func (.func 179) #[] #[]], 1⟩, ⟨iv 2, ag [.func (.func 180) #[] #[], bv false, .func (.func 181) #[] #[]], 2⟩, ⟨iv 3, ag [.func (.func 182) #[] #[], bv false, .func (.func 183) #[] #[]], 3⟩, ⟨iv 4, ag [.func (.func 175) #[] #[], bv style_pens_1, .func (.func 176) #[] #[pt b5 0]], 4⟩, ⟨iv 5, ag [.func (.func 175) #[] #[], bv style_pens_1a, .func (.func 176) #[] #[pt b6 0]], 5⟩, ⟨iv 6, ag [.func (.func 175) #[] #[], bv style_pens_1b, .func (.func 176) #[] #[pt b7 0]], 6⟩] 7), bx b5 [.func (.func 184) #[] #[]] 248, bx b6 [.func (.func 185) #[] #[]] 248, bx b7 [.func (.func 186) #[] #[]] 248, bx b2 (cSty Sty.zero) 70]) (fun _ => rfl)) fun _ => ?_
      refine JI_end ?_
      refine nx ?_
      refine J_region 2 rfl ?_
      refine ix rfl (det_add64 rfl rfl rfl rfl (by omega)) ?_
      refine ip 1 0 [(20, iv ((t20 : Int) + 1))] (by kernel_rfl) ?_
      refine JI_end ?_
      refine JQ_perm (permC [[bx b1 (cSty (style_pens_3 s1 (l.getD t20 Act.zero))) 70], [bx b12 (cAct (l.getD t20 Act.zero)) 26], [(b4, .map #[⟨iv 0, ag [.func (.func 175) #[] #[], bv false, .func (.func 177) #[] #[]], 0⟩, ⟨iv 1, ag [.func (.func 178) #[] #[], bv false, .func (.func 179) #[] #[]], 1⟩, ⟨iv 2, ag [.func (.func 180) #[] #[], bv false, .func (.func 181) #[] #[]], 2⟩, ⟨iv 3, ag [.func (.func 182) #[] #[], bv false, .func (.func 183) #[] #[]], 3⟩, ⟨iv 4, ag [.func (.func 175) #[] #[], bv style_pens_1, .func (.func 176) #[] #[pt b5 0]], 4⟩, ⟨iv 5, ag [.func (.func 175) #[] #[], bv style_pens_1a, .func (.func 176) #[] #[pt b6 0]], 5⟩, ⟨iv 6, ag [.func (.func 175) #[] #[], bv style_pens_1b, .func (.func 176) #[] #[pt b7 0]], 6⟩] 7)], [bx b5 [.func (.func 184) #[] #[]] 248], [bx b6 [.func (.func 185) #[] #[]] 248], [bx b7 [.func (.func 186) #[] #[]] 248], [bx b2 (cSty Sty.zero) 70]] [2, 3, 4, 5, 6, 0, 1] 7 rfl (by decide) rfl [[(b4, .map #[⟨iv 0, ag [.func (.func 175) #[] #[], bv false, .func (.func 177) #[] #[]], 0⟩, ⟨iv 1, ag [.func (.func 178) #[] #[], bv false, .func (.func 179) #[] #[]], 1⟩, ⟨iv 2, ag [.func (.func 180) #[] #[], bv false, .func (.func 181) #[] #[]], 2⟩, ⟨iv 3, ag [.func (.func 182) #[] #[], bv false, .func (.func 183) #[] #[]], 3⟩, ⟨iv 4, ag [.func (.func 175) #[] #[], bv style_pens_1, .func (.func 176) #[] #[pt b5 0]], 4⟩, ⟨iv 5, ag [.func (.func 175) #[] #[], bv style_pens_1a, .func (.func 176) #[] #[pt b6 0]], 5⟩, ⟨iv 6, ag [.func (.func 175) #[] #[], bv style_pens_1b, .func (.func 176) #[] #[pt b7 0]], 6⟩] 7)], [bx b5 [.func (.func 184) #[] #[]] 248], [bx b6 [.func (.func 185) #[] #[]] 248], [bx b7 [.func (.func 186) #[] #[]] 248], [bx b2 (cSty Sty.zero) 70], [bx b1 (cSty (style_pens_3 s1 (l.getD t20 Act.zero))) 70], [bx b12 (cAct (l.getD t20 Act.zero)) 26]] rfl (by first | rfl | simp)) ?_
      exact againL2 (z1 := t20) (z2 := s1) (t20 + 1) (style_pens_3 s1 (l.getD t20 Act.zero)) ⟨(by omega), hR⟩ (by (try dsimp only); omega) ⟨rfl, rfl, rfl, rfl, rfl, (by first | rfl | (simp only [List.length_set]; rfl) | (simp; done) | (simp; omega)), trivial⟩ (mk [true, true, true, true, true, true, false] rfl) Foll.refl
     ·replace hR := bf hR g15
      replace g15 := of_decide_eq_false g15
      rcases Bool.eq_false_or_eq_true (decide ((l.getD t20 Act.zero).n = 2)) with g16 | g16
      ·replace hR := bt hR g16
       replace g16 := of_decide_eq_true g16
       refine ix rfl (by exact det_conv (u := ag [.func (.func 180) #[] #[], bv false, .func (.func 181) #[] #[]]) (det_lookupS (z := ag [.nilFunc, bv false, .nilFunc]) (ktab0 b5 b6 b7) (⟨by kernel_rfl, by kernel_rfl, rfl⟩ : MapTy Tryz.prog 202 3 200 (.int .i64)) rfl rfl rfl 1 rfl (by kernel_rfl) (by kernel_rfl)) (by rw [g16]; rfl)) ?_
       refine ip 1 2 [(34, .func (.func 181) #[] #[])] (by kernel_rfl) ?_
       refine ix rfl (det_own_agg (us := cAct (l.getD t20 Act.zero)) ty26 rfl rfl 0 rfl rfl rfl) ?_
       refine it rfl (tri_callN (L2 := [bx b12 (cAct (l.getD t20 Act.zero)) 26, (b4, .map #[⟨iv 0, ag [.func (.func 175) #[] #[], bv false, .func (.func 177) #[] #[]], 0⟩, ⟨iv 1, ag [.func (.func 178) #[] #[], bv false, .func (.func 179) #[] #[]], 1⟩, ⟨iv 2, ag [.func (.func 180) #[] #[], bv false, .func (.func 181) #[] #[]], 2⟩, ⟨iv 3, ag [.func (.func 182) #[] #[], bv false, .func (.func 183) #[] #[]], 3⟩, ⟨iv 4, ag [.func (.func 175) #[] #[], bv style_pens_1, .func (.func 176) #[] #[pt b5 0]], 4⟩, ⟨iv 5, ag [.func (.func 175) #[] #[], bv style_pens_1a, .func (.func 176) #[] #[pt b6 0]], 5⟩, ⟨iv 6, ag [.func (.func 175) #[] #[], bv style_pens_1b, .func (.func 176) #[] #[pt b7 0]], 6⟩] 7), bx b5 [.func (.func 184) #[] #[]] 248, bx b6 [.func (.func 185) #[] #[]] 248, bx b7 [.func (.func 186) #[] #[]] 248, bx b2 (cSty Sty.zero) 70]) (style_pens_5_c s1 (l.getD t20 Act.zero) b1 _ rfl) rfl rfl rfl rfl rfl Foll.nil (permC [[bx b12 (cAct (l.getD t20 Act.zero)) 26], [(b4, .map #[⟨iv 0, ag [.func (.func 175) #[] #[], bv false, .func (.func 177) #[] #[]], 0⟩, ⟨iv 1, ag [.func (.func 178) #[] #[], bv false, .func (.func 179) #[] #[]], 1⟩, ⟨iv 2, ag [.func (.func 180) #[] #[], bv false, .func (.func 181) #[] #[]], 2⟩, ⟨iv 3, ag [.func (.func 182) #[] #[], bv false, .func (.func 183) #[] #[]], 3⟩, ⟨iv 4, ag [.func (.func 175) #[] #[], bv style_pens_1, .func (.func 176) #[] #[pt b5 0]], 4⟩, ⟨iv 5, ag [.func (.func 175) #[] #[], bv style_pens_1a, .func (.func 176) #[] #[pt b6 0]], 5⟩, ⟨iv 6, ag [.func (.func 175) #[] #[], bv style_pens_1b, .func (.func 176) #[] #[pt b7 0]], 6⟩] 7)], [bx b5 [.func (.func 184) #[] #[]] 248], [bx b6 [.func (.func 185) #[] #[]] 248], [bx b7 [.func (.func 186) #[] #[]] 248], [bx b2 (cSty Sty.zero) 70], [bx b1 (cSty s1) 70]] [6, 0, 1, 2, 3, 4, 5] 7 rfl (by decide) rfl [[bx b1 (cSty s1) 70], [bx b12 (cAct (l.getD t20 Act.zero)) 26], [(b4, .map #[⟨iv 0, ag [.func (.func 175) #[] #[], bv false, .func (.func 177) #[] #[]], 0⟩, ⟨iv 1, ag [.func (.func 178) #[] #[], bv false, .func (.func 179) #[] #[]], 1⟩, ⟨iv 2, ag [.func (.func 180) #[] #[], bv false, .func (.func 181) #[] #[]], 2⟩, ⟨iv 3, ag [.func (.func 182) #[] #[], bv false, .func (.func 183) #[] #[]], 3⟩, ⟨iv 4, ag [.func (.func 175) #[] #[], bv style_pens_1, .func (.func 176) #[] #[pt b5 0]], 4⟩, ⟨iv 5, ag [.func (.func 175) #[] #[], bv style_pens_1a, .func (.func 176) #[] #[pt b6 0]], 5⟩, ⟨iv 6, ag [.func (.func 175) #[] #[], bv style_pens_1b, .func (.func 176) #[] #[pt b7 0]], 6⟩] 7)], [bx b5 [.func (.func 184) #[] #[]] 248], [bx b6 [.func (.func 185) #[] #[]] 248], [bx b7 [.func (.func 186) #[] #[]] 248], [bx b2 (cSty Sty.zero) 70]] rfl (by first | rfl | simp only [List.flatten_cons, List.flatten_nil, List.append_nil, List.cons_append, List.nil_append, List.append_assoc])) (fun _ => [bx b1 (cSty (style_pens_5 s1 (l.getD t20 Act.zero))) 70, bx b12 (cAct (l.getD t20 Act.zero)) 26, (b4, .map #[⟨iv 0, ag [.func (.func 175) #[] #[], bv false, .func (.func 177) #[] #[]], 0⟩, ⟨iv 1, ag [.func (.func 178) #[] #[], bv false, .func (.func 179) #[] #[]], 1⟩, ⟨iv 2, ag [.func (.func 180) #[] #[], bv false, .func (.func 181) #[] #[]], 2⟩, ⟨iv 3, ag [.func (.func 182) #[] #[], bv false, .func (.func 183) #[] #[]], 3⟩, ⟨iv 4, ag [.func (.func 175) #[] #[], bv style_pens_1, .func (.func 176) #[] #[pt b5 0]], 4⟩, ⟨iv 5, ag [.func (.func 175) #[] #[], bv style_pens_1a, .func (.func 176) #[] #[pt b6 0]], 5⟩, ⟨iv 6, ag [.func (.func 175) #[] #[], bv style_pens_1b, .func (.func 176) #[] #[pt b7 0]], 6⟩] 7), bx b5 [.func (.func 184) #[] #[]] 248, bx b6 [.func (.func 185) #[] #[]] 248, bx b7 [.func (.func 186) #[] #[]] 248, bx b2 (cSty Sty.zero) 70]) (fun _ => rfl)) fun _ => ?_
       refine JI_end ?_
       refine nx ?_
       refine J_region 2 rfl ?_
       refine ix rfl (det_add64 rfl rfl rfl rfl (by omega)) ?_
       refine ip 1 0 [(20, iv ((t20 : Int) + 1))] (by kernel_rfl) ?_
       refine JI_end ?_
       refine JQ_perm (permC [[bx b1 (cSty (style_pens_5 s1 (l.getD t20 Act.zero))) 70], [bx b12 (cAct (l.getD t20 Act.zero)) 26], [(b4, .map #[⟨iv 0, ag [.func (.func 175) #[] #[], bv false, .func (.func 177) #[] #[]], 0⟩, ⟨iv 1, ag [.func (.func 178) #[] #[], bv false, .func (.func 179) #[] #[]], 1⟩, ⟨iv 2, ag [.func (.func 180) #[] #[], bv false, .func (.func 181) #[] #[]], 2⟩, ⟨iv 3, ag [.func (.func 182) #[] #[], bv false, .func (.func 183) #[] #[]], 3⟩, ⟨iv 4, ag [.func (.func 175) #[] #[], bv style_pens_1, .func (.func 176) #[] #[pt b5 0]], 4⟩, ⟨iv 5, ag [.func (.func 175) #[] #[], bv style_pens_1a, .func (.func 176) #[] #[pt b6 0]], 5⟩, ⟨iv 6, ag [.func (.func 175) #[] #[], bv style_pens_1b, .func (.func 176) #[] #[pt b7 0]], 6⟩] 7)], [bx b5 [.func (.func 184) #[] #[]] 248], [bx b6 [.func (.func 185) #[] #[]] 248], [bx b7 [.func (.func 186) #[] #[]] 248], [bx b2 (cSty Sty.zero) 70]] [2, 3, 4, 5, 6, 0, 1] 7 rfl (by decide) rfl [[(b4, .map #[⟨iv 0, ag [.func (.func 175) #[] #[], bv false, .func (.func 177) #[] #[]], 0⟩, ⟨iv 1, ag [.func (.func 178) #[] #[], bv false, .func (.func 179) #[] #[]], 1⟩, ⟨iv 2, ag [.func (.func 180) #[] #[], bv false, .func (.func 181) #[] #[]], 2⟩, ⟨iv 3, ag [.func (.func 182) #[] #[], bv false, .func (.func 183) #[] #[]], 3⟩, ⟨iv 4, ag [.func (.func 175) #[] #[], bv style_pens_1, .func (.func 176) #[] #[pt b5 0]], 4⟩, ⟨iv 5, ag [.func (.func 175) #[] #[], bv style_pens_1a, .func (.func 176) #[] #[pt b6 0]], 5⟩, ⟨iv 6, ag [.func (.func 175) #[] #[], bv style_pens_1b, .func (.func 176) #[] #[pt b7 0]], 6⟩] 7)], [bx b5 [.func (.func 184) #[] #[]] 248], [bx b6 [.func (.func 185) #[] #[]] 248], [bx b7 [.func (.func 186) #[] #[]] 248], [bx b2 (cSty Sty.zero) 70], [bx b1 (cSty (style_pens_5 s1 (l.getD t20 Act.zero))) 70], [bx b12 (cAct (l.getD t20 Act.zero)) 26]] rfl (by first | rfl | simp)) ?_
       exact againL2 (z1 := t20) (z2 := s1) (t20 + 1) (style_pens_5 s1 (l.getD t20 Act.zero)) ⟨(by omega), hR⟩ (by (try dsimp only); omega) ⟨rfl, rfl, rfl, rfl, rfl, (by first | rfl | (simp only [List.length_set]; rfl) | (simp; done) | (simp; omega)), trivial⟩ (mk [true, true, true, true, true, true, false] rfl) Foll.refl
      ·replace hR := bf hR g16
       replace g16 := of_decide_eq_false g16
       rcases Bool.eq_false_or_eq_true (decide ((l.getD t20 Act.zero).n = 3)) with g17 | g17
       ·replace hR := bt hR g17
        replace g17 := of_decide_eq_true g17
        refine ix rfl (by exact det_conv (u := ag [.func (.func 182) #[] #[], bv false, .func (.func 183) #[] #[]]) (det_lookupS (z := ag [.nilFunc, bv false, .nilFunc]) (ktab0 b5 b6 b7) (⟨by kernel_rfl, by kernel_rfl, rfl⟩ : MapTy Tryz.prog 202 3 200 (.int .i64)) rfl rfl rfl 1 rfl (by kernel_rfl) (by kernel_rfl)) (by rw [g17]; rfl)) ?_
        refine ip 1 2 [(34, .func (.func 183) #[] #[])] (by kernel_rfl) ?_
        refine ix rfl (det_own_agg (us := cAct (l.getD t20 Act.zero)) ty26 rfl rfl 0 rfl rfl rfl) ?_
        refine it rfl (tri_callN (L2 := [bx b12 (cAct (l.getD t20 Act.zero)) 26, (b4, .map #[⟨iv 0, ag [.func (.func 175) #[] #[], bv false, .func (.func 177) #[] #[]], 0⟩, ⟨iv 1, ag [.func (.func 178) #[] #[], bv false, .func (.func 179) #[] #[]], 1⟩, ⟨iv 2, ag [.func (.func 180) #[] #[], bv false, .func (.func 181) #[] #[]], 2⟩, ⟨iv 3, ag [.func (.func 182) #[] #[], bv false, .func (.func 183) #[] #[]], 3⟩, ⟨iv 4, ag [.func (.func 175) #[] #[], bv style_pens_1, .func (.func 176) #[] #[pt b5 0]], 4⟩, ⟨iv 5, ag [.func (.func 175) #[] #[], bv style_pens_1a, .func (.func 176) #[] #[pt b6 0]], 5⟩, ⟨iv 6, ag [.func (.func 175) #[] #[], bv style_pens_1b, .func (.func 176) #[] #[pt b7 0]], 6⟩] 7), bx b5 [.func (.func 184) #[] #[]] 248, bx b6 [.func (.func 185) #[] #[]] 248, bx b7 [.func (.func 186) #[] #[]] 248, bx b2 (cSty Sty.zero) 70]) (style_pens_7_c s1 (l.getD t20 Act.zero) b1 _ rfl) rfl rfl rfl rfl rfl Foll.nil (permC [[bx b12 (cAct (l.getD t20 Act.zero)) 26], [(b4, .map #[⟨iv 0, ag [.func (.func 175) #[] #[], bv false, .func (.func 177) #[] #[]], 0⟩, ⟨iv 1, ag [.func (.func 178) #[] #[], bv false, .func (.func 179) #[] #[]], 1⟩, ⟨iv 2, ag [.func (.func 180) #[] #[], bv false, .func (.func 181) #[] #[]], 2⟩, ⟨iv 3, ag [.func (.func 182) #[] #[], bv false, .func (.func 183) #[] #[]], 3⟩, ⟨iv 4, ag [.func (.func 175) #[] #[], bv style_pens_1, .func (.func 176) #[] #[pt b5 0]], 4⟩, ⟨iv 5, ag [.func (.func 175) #[] #[], bv style_pens_1a, .func (.func 176) #[] #[pt b6 0]], 5⟩, ⟨iv 6, ag [.func (.func 175) #[] #[], bv style_pens_1b, .func (.func 176) #[] #[pt b7 0]], 6⟩] 7)], [bx b5 [.func (.func 184) #[] #[]] 248], [bx b6 [.func (.func 185) #[] #[]] 248], [bx b7 [.func (.func 186) #[] #[]] 248], [bx b2 (cSty Sty.zero) 70], [bx b1 (cSty s1) 70]] [6, 0, 1, 2, 3, 4, 5] 7 rfl (by decide) rfl [[bx b1 (cSty s1) 70], [bx b12 (cAct (l.getD t20 Act.zero)) 26], [(b4, .map #[⟨iv 0, ag [.func (.func 175) #[] #[], bv false, .func (.func 177) #[] #[]], 0⟩, ⟨iv 1, ag [.func (.func 178) #[] #[], bv false, .func (.func 179) #[] #[]], 1⟩, ⟨iv 2, ag [.func (.func 180) #[] #[], bv false, .func (.func 181) #[] #[]], 2⟩, ⟨iv 3, ag [.func (.func 182) #[] #[], bv false, .func (.func 183) #[] #[]], 3⟩, ⟨iv 4, ag [.func (.func 175) #[] #[], bv style_pens_1, .func (.func 176) #[] #[pt b5 0]], 4⟩, ⟨iv 5, ag [.func (.func 175) #[] #[], bv style_pens_1a, .func (.func 176) #[] #[pt b6 0]], 5⟩, ⟨iv 6, ag [.func (.func 175) #[] #[], bv style_pens_1b, .func (.func 176) #[] #[pt b7 0]], 6⟩] 7)], [bx b5 [.func (.func 184) #[] #[]] 248], [bx b6 [.func (.func 185) #[] #[]] 248], [bx b7 [.func (.func 186) #[] #[]] 248], [bx b2 (cSty Sty.zero) 70]] rfl (by first | rfl | simp only [List.flatten_cons, List.flatten_nil, List.append_nil, List.cons_append, List.nil_append, List.append_assoc])) (fun _ => [bx b1 (cSty (style_pens_7 s1 (l.getD t20 Act.zero))) 70, bx b12 (cAct (l.getD t20 Act.zero)) 26, (b4, .map #[⟨iv 0, ag [.func (.func 175) #[] #[], bv false, .func (.func 177) #[] #[]], 0⟩, ⟨iv 1, ag [.func (.func 178) #[] #[], bv false, .func (.func 179) #[] #[]], 1⟩, ⟨iv 2, ag [.func (.func 180) #[] #[], bv false, .func (.func 181) #[] #[]], 2⟩, ⟨iv 3, ag [.func (.func 182) #[] #[], bv false, .func (.func 183) #[] #[]], 3⟩, ⟨iv 4, ag [.func (.func 175) #[] #[], bv style_pens_1, .func (.func 176) #[] #[pt b5 0]], 4⟩, ⟨iv 5, ag [.func (.func 175) #[] #[], bv style_pens_1a, .func (.func 176) #[] #[pt b6 0]], 5⟩, ⟨iv 6, ag [.func (.func 175) #[] #[], bv style_pens_1b, .func (.func 176) #[] #[pt b7 0]], 6⟩] 7), bx b5 [.func (.func 184) #[] #[]] 248, bx b6 [.func (.func 185) #[] #[]] 248, bx b7 [.func (.func 186) #[] #[]] 248, bx b2 (cSty Sty.zero) 70]) (fun _ => rfl)) fun _ => ?_
        refine JI_end ?_
        refine nx ?_
        refine J_region 2 rfl ?_
        refine ix rfl (det_add64 rfl rfl rfl rfl (by omega)) ?_
        refine ip 1 0 [(20, iv ((t20 : Int) + 1))] (by kernel_rfl) ?_
        refine JI_end ?_
        refine JQ_perm (permC [[bx b1 (cSty (style_pens_7 s1 (l.getD t20 Act.zero))) 70], [bx b12 (cAct (l.getD t20 Act.zero)) 26], [(b4, .map #[⟨iv 0, ag [.func (.func 175) #[] #[], bv false, .func (.func 177) #[] #[]], 0⟩, ⟨iv 1, ag [.func (.func 178) #[] #[], bv false, .func (.func 179) #[] #[]], 1⟩, ⟨iv 2, ag [.func (.func 180) #[] #[], bv false, .func (.func 181) #[] #[]], 2⟩, ⟨iv 3, ag [.func (.func 182) #[] #[], bv false, .func (.func 183) #[] #[]], 3⟩, ⟨iv 4, ag [.func (.func 175) #[] #[], bv style_pens_1, .func (.func 176) #[] #[pt b5 0]], 4⟩, ⟨iv 5, ag [.func (.func 175) #[] #[], bv style_pens_1a, .func (.func 176) #[] #[pt b6 0]], 5⟩, ⟨iv 6, ag [.func (.func 175) #[] #[], bv style_pens_1b, .func (.func 176) #[] #[pt b7 0]], 6⟩] 7)], [bx b5 [.func (.func 184) #[] #[]] 248], [bx b6 [.func (.func 185) #[] #[]] 248], [bx b7 [.func (.func 186) #[] #[]] 248], [bx b2 (cSty Sty.zero) 70]] [2, 3, 4, 5, 6, 0, 1] 7 rfl (by decide) rfl [[(b4, .map #[⟨iv 0, ag [.func (.func 175) #[] #[], bv false, .func (.func 177) #[] #[]], 0⟩, ⟨iv 1, ag [.func (.func 178) #[] #[], bv false, .func (.func 179) #[] #[]], 1⟩, ⟨iv 2, ag [.func (.func 180) #[] #[], bv false, .func (.func 181) #[] #[]], 2⟩, ⟨iv 3, ag [.func (.func 182) #[] #[], bv false, .func (.func 183) #[] #[]], 3⟩, ⟨iv 4, ag [.func (.func 175) #[] #[], bv style_pens_1, .func (.func 176) #[] #[pt b5 0]], 4⟩, ⟨iv 5, ag [.func (.func 175) #[] #[], bv style_pens_1a, .func (.func 176) #[] #[pt b6 0]], 5⟩, ⟨iv 6, ag [.func (.func 175) #[] #[], bv style_pens_1b, .func (.func 176) #[] #[pt b7 0]], 6⟩] 7)], [bx b5 [.func (.func 184) #[] #[]] 248], [bx b6 [.func (.func 185) #[] #[]] 248], [bx b7 [.func (.func 186) #[] #[]] 248], [bx b2 (cSty Sty.zero) 70], [bx b1 (cSty (style_pens_7 s1 (l.getD t20 Act.zero))) 70], [bx b12 (cAct (l.getD t20 Act.zero)) 26]] rfl (by first | rfl | simp)) ?_
        exact againL2 (z1 := t20) (z2 := s1) (t20 + 1) (style_pens_7 s1 (l.getD t20 Act.zero)) ⟨(by omega), hR⟩ (by (try dsimp only); omega) ⟨rfl, rfl, rfl, rfl, rfl, (by first | rfl | (simp only [List.length_set]; rfl) | (simp; done) | (simp; omega)), trivial⟩ (mk [true, true, true, true, true, true, false] rfl) Foll.refl
       ·replace hR := bf hR g17
        replace g17 := of_decide_eq_false g17
        rcases Bool.eq_false_or_eq_true (decide ((l.getD t20 Act.zero).n = 4)) with g18 | g18
        ·replace hR := bt hR g18
         replace g18 := of_decide_eq_true g18
         refine ix rfl (by exact det_conv (u := ag [.func (.func 175) #[] #[], bv style_pens_1, .func (.func 176) #[] #[pt b5 0]]) (det_lookupS (z := ag [.nilFunc, bv false, .nilFunc]) (ktab0 b5 b6 b7) (⟨by kernel_rfl, by kernel_rfl, rfl⟩ : MapTy Tryz.prog 202 3 200 (.int .i64)) rfl rfl rfl 1 rfl (by kernel_rfl) (by kernel_rfl)) (by rw [g18]; rfl)) ?_
         refine ip 1 2 [(34, .func (.func 176) #[] #[pt b5 0])] (by kernel_rfl) ?_
         refine ix rfl (det_own_agg (us := cAct (l.getD t20 Act.zero)) ty26 rfl rfl 0 rfl rfl rfl) ?_
         refine it rfl (tri_callN (L2 := [bx b12 (cAct (l.getD t20 Act.zero)) 26, (b4, .map #[⟨iv 0, ag [.func (.func 175) #[] #[], bv false, .func (.func 177) #[] #[]], 0⟩, ⟨iv 1, ag [.func (.func 178) #[] #[], bv false, .func (.func 179) #[] #[]], 1⟩, ⟨iv 2, ag [.func (.func 180) #[] #[], bv false, .func (.func 181) #[] #[]], 2⟩, ⟨iv 3, ag [.func (.func 182) #[] #[], bv false, .func (.func 183) #[] #[]], 3⟩, ⟨iv 4, ag [.func (.func 175) #[] #[], bv style_pens_1, .func (.func 176) #[] #[pt b5 0]], 4⟩, ⟨iv 5, ag [.func (.func 175) #[] #[], bv style_pens_1a, .func (.func 176) #[] #[pt b6 0]], 5⟩, ⟨iv 6, ag [.func (.func 175) #[] #[], bv style_pens_1b, .func (.func 176) #[] #[pt b7 0]], 6⟩] 7), bx b6 [.func (.func 185) #[] #[]] 248, bx b7 [.func (.func 186) #[] #[]] 248, bx b2 (cSty Sty.zero) 70]) (style_pens_1_1_c s1 (l.getD t20 Act.zero) b1 b5 _ rfl) rfl rfl rfl rfl rfl Foll.nil (permC [[bx b12 (cAct (l.getD t20 Act.zero)) 26], [(b4, .map #[⟨iv 0, ag [.func (.func 175) #[] #[], bv false, .func (.func 177) #[] #[]], 0⟩, ⟨iv 1, ag [.func (.func 178) #[] #[], bv false, .func (.func 179) #[] #[]], 1⟩, ⟨iv 2, ag [.func (.func 180) #[] #[], bv false, .func (.func 181) #[] #[]], 2⟩, ⟨iv 3, ag [.func (.func 182) #[] #[], bv false, .func (.func 183) #[] #[]], 3⟩, ⟨iv 4, ag [.func (.func 175) #[] #[], bv style_pens_1, .func (.func 176) #[] #[pt b5 0]], 4⟩, ⟨iv 5, ag [.func (.func 175) #[] #[], bv style_pens_1a, .func (.func 176) #[] #[pt b6 0]], 5⟩, ⟨iv 6, ag [.func (.func 175) #[] #[], bv style_pens_1b, .func (.func 176) #[] #[pt b7 0]], 6⟩] 7)], [bx b5 [.func (.func 184) #[] #[]] 248], [bx b6 [.func (.func 185) #[] #[]] 248], [bx b7 [.func (.func 186) #[] #[]] 248], [bx b2 (cSty Sty.zero) 70], [bx b1 (cSty s1) 70]] [6, 2, 0, 1, 3, 4, 5] 7 rfl (by decide) rfl [[bx b1 (cSty s1) 70], [bx b5 [.func (.func 184) #[] #[]] 248], [bx b12 (cAct (l.getD t20 Act.zero)) 26], [(b4, .map #[⟨iv 0, ag [.func (.func 175) #[] #[], bv false, .func (.func 177) #[] #[]], 0⟩, ⟨iv 1, ag [.func (.func 178) #[] #[], bv false, .func (.func 179) #[] #[]], 1⟩, ⟨iv 2, ag [.func (.func 180) #[] #[], bv false, .func (.func 181) #[] #[]], 2⟩, ⟨iv 3, ag [.func (.func 182) #[] #[], bv false, .func (.func 183) #[] #[]], 3⟩, ⟨iv 4, ag [.func (.func 175) #[] #[], bv style_pens_1, .func (.func 176) #[] #[pt b5 0]], 4⟩, ⟨iv 5, ag [.func (.func 175) #[] #[], bv style_pens_1a, .func (.func 176) #[] #[pt b6 0]], 5⟩, ⟨iv 6, ag [.func (.func 175) #[] #[], bv style_pens_1b, .func (.func 176) #[] #[pt b7 0]], 6⟩] 7)], [bx b6 [.func (.func 185) #[] #[]] 248], [bx b7 [.func (.func 186) #[] #[]] 248], [bx b2 (cSty Sty.zero) 70]] rfl (by first | rfl | simp only [List.flatten_cons, List.flatten_nil, List.append_nil, List.cons_append, List.nil_append, List.append_assoc])) (fun _ => [bx b1 (cSty (style_pens_1_1 s1 (l.getD t20 Act.zero))) 70, bx b5 [.func (.func 184) #[] #[]] 248, bx b12 (cAct (l.getD t20 Act.zero)) 26, (b4, .map #[⟨iv 0, ag [.func (.func 175) #[] #[], bv false, .func (.func 177) #[] #[]], 0⟩, ⟨iv 1, ag [.func (.func 178) #[] #[], bv false, .func (.func 179) #[] #[]], 1⟩, ⟨iv 2, ag [.func (.func 180) #[] #[], bv false, .func (.func 181) #[] #[]], 2⟩, ⟨iv 3, ag [.func (.func 182) #[] #[], bv false, .func (.func 183) #[] #[]], 3⟩, ⟨iv 4, ag [.func (.func 175) #[] #[], bv style_pens_1, .func (.func 176) #[] #[pt b5 0]], 4⟩, ⟨iv 5, ag [.func (.func 175) #[] #[], bv style_pens_1a, .func (.func 176) #[] #[pt b6 0]], 5⟩, ⟨iv 6, ag [.func (.func 175) #[] #[], bv style_pens_1b, .func (.func 176) #[] #[pt b7 0]], 6⟩] 7), bx b6 [.func (.func 185) #[] #[]] 248, bx b7 [.func (.func 186) #[] #[]] 248, bx b2 (cSty Sty.zero) 70]) (fun _ => rfl)) fun _ => ?_
         refine JI_end ?_
         refine nx ?_
         refine J_region 2 rfl ?_
         refine ix rfl (det_add64 rfl rfl rfl rfl (by omega)) ?_
         refine ip 1 0 [(20, iv ((t20 : Int) + 1))] (by kernel_rfl) ?_
         refine JI_end ?_
         refine JQ_perm (permC [[bx b1 (cSty (style_pens_1_1 s1 (l.getD t20 Act.zero))) 70], [bx b5 [.func (.func 184) #[] #[]] 248], [bx b12 (cAct (l.getD t20 Act.zero)) 26], [(b4, .map #[⟨iv 0, ag [.func (.func 175) #[] #[], bv false, .func (.func 177) #[] #[]], 0⟩, ⟨iv 1, ag [.func (.func 178) #[] #[], bv false, .func (.func 179) #[] #[]], 1⟩, ⟨iv 2, ag [.func (.func 180) #[] #[], bv false, .func (.func 181) #[] #[]], 2⟩, ⟨iv 3, ag [.func (.func 182) #[] #[], bv false, .func (.func 183) #[] #[]], 3⟩, ⟨iv 4, ag [.func (.func 175) #[] #[], bv style_pens_1, .func (.func 176) #[] #[pt b5 0]], 4⟩, ⟨iv 5, ag [.func (.func 175) #[] #[], bv style_pens_1a, .func (.func 176) #[] #[pt b6 0]], 5⟩, ⟨iv 6, ag [.func (.func 175) #[] #[], bv style_pens_1b, .func (.func 176) #[] #[pt b7 0]], 6⟩] 7)], [bx b6 [.func (.func 185) #[] #[]] 248], [bx b7 [.func (.func 186) #[] #[]] 248], [bx b2 (cSty Sty.zero) 70]] [3, 1, 4, 5, 6, 0, 2] 7 rfl (by decide) rfl [[(b4, .map #[⟨iv 0, ag [.func (.func 175) #[] #[], bv false, .func (.func 177) #[] #[]], 0⟩, ⟨iv 1, ag [.func (.func 178) #[] #[], bv false, .func (.func 179) #[] #[]], 1⟩, ⟨iv 2, ag [.func (.func 180) #[] #[], bv false, .func (.func 181) #[] #[]], 2⟩, ⟨iv 3, ag [.func (.func 182) #[] #[], bv false, .func (.func 183) #[] #[]], 3⟩, ⟨iv 4, ag [.func (.func 175) #[] #[], bv style_pens_1, .func (.func 176) #[] #[pt b5 0]], 4⟩, ⟨iv 5, ag [.func (.func 175) #[] #[], bv style_pens_1a, .func (.func 176) #[] #[pt b6 0]], 5⟩, ⟨iv 6, ag [.func (.func 175) #[] #[], bv style_pens_1b, .func (.func 176) #[] #[pt b7 0]], 6⟩] 7)], [bx b5 [.func (.func 184) #[] #[]] 248], [bx b6 [.func (.func 185) #[] #[]] 248], [bx b7 [.func (.func 186) #[] #[]] 248], [bx b2 (cSty Sty.zero) 70], [bx b1 (cSty (style_pens_1_1 s1 (l.getD t20 Act.zero))) 70], [bx b12 (cAct (l.getD t20 Act.zero)) 26]] rfl (by first | rfl | simp)) ?_
         exact againL2 (z1 := t20) (z2 := s1) (t20 + 1) (style_pens_1_1 s1 (l.getD t20 Act.zero)) ⟨(by omega), hR⟩ (by (try dsimp only); omega) ⟨rfl, rfl, rfl, rfl, rfl, (by first | rfl | (simp only [List.length_set]; rfl) | (simp; done) | (simp; omega)), trivial⟩ (mk [true, true, true, true, true, true, false] rfl) Foll.refl
        ·replace hR := bf hR g18
         replace g18 := of_decide_eq_false g18
         rcases Bool.eq_false_or_eq_true (decide ((l.getD t20 Act.zero).n = 5)) with g19 | g19
         ·replace hR := bt hR g19
          replace g19 := of_decide_eq_true g19
          refine ix rfl (by exact det_conv (u := ag [.func (.func 175) #[] #[], bv style_pens_1a, .func (.func 176) #[] #[pt b6 0]]) (det_lookupS (z := ag [.nilFunc, bv false, .nilFunc]) (ktab0 b5 b6 b7) (⟨by kernel_rfl, by kernel_rfl, rfl⟩ : MapTy Tryz.prog 202 3 200 (.int .i64)) rfl rfl rfl 1 rfl (by kernel_rfl) (by kernel_rfl)) (by rw [g19]; rfl)) ?_
          refine ip 1 2 [(34, .func (.func 176) #[] #[pt b6 0])] (by kernel_rfl) ?_
          refine ix rfl (det_own_agg (us := cAct (l.getD t20 Act.zero)) ty26 rfl rfl 0 rfl rfl rfl) ?_
          refine it rfl (tri_callN (L2 := [bx b12 (cAct (l.getD t20 Act.zero)) 26, (b4, .map #[⟨iv 0, ag [.func (.func 175) #[] #[], bv false, .func (.func 177) #[] #[]], 0⟩, ⟨iv 1, ag [.func (.func 178) #[] #[], bv false, .func (.func 179) #[] #[]], 1⟩, ⟨iv 2, ag [.func (.func 180) #[] #[], bv false, .func (.func 181) #[] #[]], 2⟩, ⟨iv 3, ag [.func (.func 182) #[] #[], bv false, .func (.func 183) #[] #[]], 3⟩, ⟨iv 4, ag [.func (.func 175) #[] #[], bv style_pens_1, .func (.func 176) #[] #[pt b5 0]], 4⟩, ⟨iv 5, ag [.func (.func 175) #[] #[], bv style_pens_1a, .func (.func 176) #[] #[pt b6 0]], 5⟩, ⟨iv 6, ag [.func (.func 175) #[] #[], bv style_pens_1b, .func (.func 176) #[] #[pt b7 0]], 6⟩] 7), bx b5 [.func (.func 184) #[] #[]] 248, bx b7 [.func (.func 186) #[] #[]] 248, bx b2 (cSty Sty.zero) 70]) (style_pens_1_1a_c s1 (l.getD t20 Act.zero) b1 b6 _ rfl) rfl rfl rfl rfl rfl Foll.nil (permC [[bx b12 (cAct (l.getD t20 Act.zero)) 26], [(b4, .map #[⟨iv 0, ag [.func (.func 175) #[] #[], bv false, .func (.func 177) #[] #[]], 0⟩, ⟨iv 1, ag [.func (.func 178) #[] #[], bv false, .func (.func 179) #[] #[]], 1⟩, ⟨iv 2, ag [.func (.func 180) #[] #[], bv false, .func (.func 181) #[] #[]], 2⟩, ⟨iv 3, ag [.func (.func 182) #[] #[], bv false, .func (.func 183) #[] #[]], 3⟩, ⟨iv 4, ag [.func (.func 175) #[] #[], bv style_pens_1, .func (.func 176) #[] #[pt b5 0]], 4⟩, ⟨iv 5, ag [.func (.func 175) #[] #[], bv style_pens_1a, .func (.func 176) #[] #[pt b6 0]], 5⟩, ⟨iv 6, ag [.func (.func 175) #[] #[], bv style_pens_1b, .func (.func 176) #[] #[pt b7 0]], 6⟩] 7)], [bx b5 [.func (.func 184) #[] #[]] 248], [bx b6 [.func (.func 185) #[] #[]] 248], [bx b7 [.func (.func 186) #[] #[]] 248], [bx b2 (cSty Sty.zero) 70], [bx b1 (cSty s1) 70]] [6, 3, 0, 1, 2, 4, 5] 7 rfl (by decide) rfl [[bx b1 (cSty s1) 70], [bx b6 [.func (.func 185) #[] #[]] 248], [bx b12 (cAct (l.getD t20 Act.zero)) 26], [(b4, .map #[⟨iv 0, ag [.func (.func 175) #[] #[], bv false, .func (.func 177) #[] #[]], 0⟩, ⟨iv 1, ag [.func (.func 178) #[] #[], bv false, .func (.func 179) #[] #[]], 1⟩, ⟨iv 2, ag [.func (.func 180) #[] #[], bv false, .func (.func 181) #[] #[]], 2⟩, ⟨iv 3, ag [.func (.func 182) #[] #[], bv false, .func (.func 183) #[] #[]], 3⟩, ⟨iv 4, ag [.func (.func 175) #[] #[], bv style_pens_1, .func (.func 176) #[] #[pt b5 0]], 4⟩, ⟨iv 5, ag [.func (.func 175) #[] #[], bv style_pens_1a, .func (.func 176) #[] #[pt b6 0]], 5⟩, ⟨iv 6, ag [.func (.func 175) #[] #[], bv style_pens_1b, .func (.func 176) #[] #[pt b7 0]], 6⟩] 7)], [bx b5 [.func (.func 184) #[] #[]] 248], [bx b7 [.func (.func 186) #[] #[]] 248], [bx b2 (cSty Sty.zero) 70]] rfl (by first | rfl | simp only [List.flatten_cons, List.flatten_nil, List.append_nil, List.cons_append, List.nil_append, List.append_assoc])) (fun _ => [bx b1 (cSty (style_pens_1_1a s1 (l.getD t20 Act.zero))) 70, bx b6 [.func (.func 185) #[] #[]] 248, bx b12 (cAct (l.getD t20 Act.zero)) 26, (b4, .map #[⟨iv 0, ag [.func (.func 175) #[] #[], bv false, .func (.func 177) #[] #[]], 0⟩, ⟨iv 1, ag [.func (.func 178) #[] #[], bv false, .func (.func 179) #[] #[]], 1⟩, ⟨iv 2, ag [.func (.func 180) #[] #[], bv false, .func (.func 181) #[] #[]], 2⟩, ⟨iv 3, ag [.func (.func 182) #[] #[], bv false, .func (.func 183) #[] #[]], 3⟩, ⟨iv 4, ag [.func (.func 175) #[] #[], bv style_pens_1, .func (.func 176) #[] #[pt b5 0]], 4⟩, ⟨iv 5, ag [.func (.func 175) #[] #[], bv style_pens_1a, .func (.func 176) #[] #[pt b6 0]], 5⟩, ⟨iv 6, ag [.func (.func 175) #[] #[], bv style_pens_1b, .func (.func 176) #[] #[pt b7 0]], 6⟩] 7), bx b5 [.func (.func 184) #[] #[]] 248, bx b7 [.func (.func 186) #[] #[]] 248, bx b2 (cSty Sty.zero) 70]) (fun _ => rfl)) fun _ => ?_
          refine JI_end ?_
          refine nx ?_
          refine J_region 2 rfl ?_
          refine ix rfl (det_add64 rfl rfl rfl rfl (by omega)) ?_
          refine ip 1 0 [(20, iv ((t20 : Int) + 1))] (by kernel_rfl) ?_
          refine JI_end ?_
          refine JQ_perm (permC [[bx b1 (cSty (style_pens_1_1a s1 (l.getD t20 Act.zero))) 70], [bx b6 [.func (.func 185) #[] #[]] 248], [bx b12 (cAct (l.getD t20 Act.zero)) 26], [(b4, .map #[⟨iv 0, ag [.func (.func 175) #[] #[], bv false, .func (.func 177) #[] #[]], 0⟩, ⟨iv 1, ag [.func (.func 178) #[] #[], bv false, .func (.func 179) #[] #[]], 1⟩, ⟨iv 2, ag [.func (.func 180) #[] #[], bv false, .func (.func 181) #[] #[]], 2⟩, ⟨iv 3, ag [.func (.func 182) #[] #[], bv false, .func (.func 183) #[] #[]], 3⟩, ⟨iv 4, ag [.func (.func 175) #[] #[], bv style_pens_1, .func (.func 176) #[] #[pt b5 0]], 4⟩, ⟨iv 5, ag [.func (.func 175) #[] #[], bv style_pens_1a, .func (.func 176) #[] #[pt b6 0]], 5⟩, ⟨iv 6, ag [.func (.func 175) #[] #[], bv style_pens_1b, .func (.func 176) #[] #[pt b7 0]], 6⟩] 7)], [bx b5 [.func (.func 184) #[] #[]] 248], [bx b7 [.func (.func 186) #[] #[]] 248], [bx b2 (cSty Sty.zero) 70]] [3, 4, 1, 5, 6, 0, 2] 7 rfl (by decide) rfl [[(b4, .map #[⟨iv 0, ag [.func (.func 175) #[] #[], bv false, .func (.func 177) #[] #[]], 0⟩, ⟨iv 1, ag [.func (.func 178) #[] #[], bv false, .func (.func 179) #[] #[]], 1⟩, ⟨iv 2, ag [.func (.func 180) #[] #[], bv false, .func (.func 181) #[] #[]], 2⟩, ⟨iv 3, ag [.func (.func 182) #[] #[], bv false, .func (.func 183) #[] #[]], 3⟩, ⟨iv 4, ag [.func (.func 175) #[] #[], bv style_pens_1, .func (.func 176) #[] #[pt b5 0]], 4⟩, ⟨iv 5, ag [.func (.func 175) #[] #[], bv style_pens_1a, .func (.func 176) #[] #[pt b6 0]], 5⟩, ⟨iv 6, ag [.func (.func 175) #[] #[], bv style_pens_1b, .func (.func 176) #[] #[pt b7 0]], 6⟩] 7)], [bx b5 [.func (.func 184) #[] #[]] 248], [bx b6 [.func (.func 185) #[] #[]] 248], [bx b7 [.func (.func 186) #[] #[]] 248], [bx b2 (cSty Sty.zero) 70], [bx b1 (cSty (style_pens_1_1a s1 (l.getD t20 Act.zero))) 70], [bx b12 (cAct (l.getD t20 Act.zero)) 26]] rfl (by first | rfl | simp)) ?_
          exact againL2 (z1 := t20) (z2 := s1) (t20 + 1) (style_pens_1_1a s1 (l.getD t20 Act.zero)) ⟨(by omega), hR⟩ (by (try dsimp only); omega) ⟨rfl, rfl, rfl, rfl, rfl, (by first | rfl | (simp only [List.length_set]; rfl) | (simp; done) | (simp; omega)), trivial⟩ (mk [true, true, true, true, true, true, false] rfl) Foll.refl
         ·replace hR := bf hR g19
          replace g19 := of_decide_eq_false g19
          have hk20 : (l.getD t20 Act.zero).n = 6 := by omega
          refine ix rfl (by exact det_conv (u := ag [.func (.func 175) #[] #[], bv style_pens_1b, .func (.func 176) #[] #[pt b7 0]]) (det_lookupS (z := ag [.nilFunc, bv false, .nilFunc]) (ktab0 b5 b6 b7) (⟨by kernel_rfl, by kernel_rfl, rfl⟩ : MapTy Tryz.prog 202 3 200 (.int .i64)) rfl rfl rfl 1 rfl (by kernel_rfl) (by kernel_rfl)) (by rw [hk20]; rfl)) ?_
          refine ip 1 2 [(34, .func (.func 176) #[] #[pt b7 0])] (by kernel_rfl) ?_
          refine ix rfl (det_own_agg (us := cAct (l.getD t20 Act.zero)) ty26 rfl rfl 0 rfl rfl rfl) ?_
          refine it rfl (tri_callN (L2 := [bx b12 (cAct (l.getD t20 Act.zero)) 26, (b4, .map #[⟨iv 0, ag [.func (.func 175) #[] #[], bv false, .func (.func 177) #[] #[]], 0⟩, ⟨iv 1, ag [.func (.func 178) #[] #[], bv false, .func (.func 179) #[] #[]], 1⟩, ⟨iv 2, ag [.func (.func 180) #[] #[], bv false, .func (.func 181) #[] #[]], 2⟩, ⟨iv 3, ag [.func (.func 182) #[] #[], bv false, .func (.func 183) #[] #[]], 3⟩, ⟨iv 4, ag [.func (.func 175) #[] #[], bv style_pens_1, .func (.func 176) #[] #[pt b5 0]], 4⟩, ⟨iv 5, ag [.func (.func 175) #[] #[], bv style_pens_1a, .func (.func 176) #[] #[pt b6 0]], 5⟩, ⟨iv 6, ag [.func (.func 175) #[] #[], bv style_pens_1b, .func (.func 176) #[] #[pt b7 0]], 6⟩] 7), bx b5 [.func (.func 184) #[] #[]] 248, bx b6 [.func (.func 185) #[] #[]] 248, bx b2 (cSty Sty.zero) 70]) (style_pens_1_1b_c s1 (l.getD t20 Act.zero) b1 b7 _ rfl) rfl rfl rfl rfl rfl Foll.nil (permC [[bx b12 (cAct (l.getD t20 Act.zero)) 26], [(b4, .map #[⟨iv 0, ag [.func (.func 175) #[] #[], bv false, .func (.func 177) #[] #[]], 0⟩, ⟨iv 1, ag [.func (.func 178) #[] #[], bv false, .func (.func 179) #[] #[]], 1⟩, ⟨iv 2, ag [.func (.func 180) #[] #[], bv false, .func (.func 181) #[] #[]], 2⟩, ⟨iv 3, ag [.func (.func 182) #[] #[], bv false, .func (.func 183) #[] #[]], 3⟩, ⟨iv 4, ag [.func (.func 175) #[] #[], bv style_pens_1, .func (.func 176) #[] #[pt b5 0]], 4⟩, ⟨iv 5, ag [.func (.func 175) #[] #[], bv style_pens_1a, .func (.func 176) #[] #[pt b6 0]], 5⟩, ⟨iv 6, ag [.func (.func 175) #[] #[], bv style_pens_1b, .func (.func 176) #[] #[pt b7 0]], 6⟩] 7)], [bx b5 [.func (.func 184) #[] #[]] 248], [bx b6 [.func (.func 185) #[] #[]] 248], [bx b7 [.func (.func 186) #[] #[]] 248], [bx b2 (cSty Sty.zero) 70], [bx b1 (cSty s1) 70]] [6, 4, 0, 1, 2, 3, 5] 7 rfl (by decide) rfl [[bx b1 (cSty s1) 70], [bx b7 [.func (.func 186) #[] #[]] 248], [bx b12 (cAct (l.getD t20 Act.zero)) 26], [(b4, .map #[⟨iv 0, ag [.func (.func 175) #[] #[], bv false, .func (.func 177) #[] #[]], 0⟩, ⟨iv 1, ag [.func (.func 178) #[] #[], bv false, .func (.func 179) #[] #[]], 1⟩, ⟨iv 2, ag [.func (.func 180) #[] #[], bv false, .func (.func 181) #[] #[]], 2⟩, ⟨iv 3, ag [.func (.func 182) #[] #[], bv false, .func (.func 183) #[] #[]], 3⟩, ⟨iv 4, ag [.func (.func 175) #[] #[], bv style_pens_1, .func (.func 176) #[] #[pt b5 0]], 4⟩, ⟨iv 5, ag [.func (.func 175) #[] #[], bv style_pens_1a, .func (.func 176) #[] #[pt b6 0]], 5⟩, ⟨iv 6, ag [.func (.func 175) #[] #[], bv style_pens_1b, .func (.func 176) #[] #[pt b7 0]], 6⟩] 7)], [bx b5 [.func (.func 184) #[] #[]] 248], [bx b6 [.func (.func 185) #[] #[]] 248], [bx b2 (cSty Sty.zero) 70]] rfl (by first | rfl | simp only [List.flatten_cons, List.flatten_nil, List.append_nil, List.cons_append, List.nil_append, List.append_assoc])) (fun _ => [bx b1 (cSty (style_pens_1_1b s1 (l.getD t20 Act.zero))) 70, bx b7 [.func (.func 186) #[] #[]] 248, bx b12 (cAct (l.getD t20 Act.zero)) 26, (b4, .map #[⟨iv 0, ag [.func (.func 175) #[] #[], bv false, .func (.func 177) #[] #[]], 0⟩, ⟨iv 1, ag [.func (.func 178) #[] #[], bv false, .func (.func 179) #[] #[]], 1⟩, ⟨iv 2, ag [.func (.func 180) #[] #[], bv false, .func (.func 181) #[] #[]], 2⟩, ⟨iv 3, ag [.func (.func 182) #[] #[], bv false, .func (.func 183) #[] #[]], 3⟩, ⟨iv 4, ag [.func (.func 175) #[] #[], bv style_pens_1, .func (.func 176) #[] #[pt b5 0]], 4⟩, ⟨iv 5, ag [.func (.func 175) #[] #[], bv style_pens_1a, .func (.func 176) #[] #[pt b6 0]], 5⟩, ⟨iv 6, ag [.func (.func 175) #[] #[], bv style_pens_1b, .func (.func 176) #[] #[pt b7 0]], 6⟩] 7), bx b5 [.func (.func 184) #[] #[]] 248, bx b6 [.func (.func 185) #[] #[]] 248, bx b2 (cSty Sty.zero) 70]) (fun _ => rfl)) fun _ => ?_
          refine JI_end ?_
          refine nx ?_
          refine J_region 2 rfl ?_
          refine ix rfl (det_add64 rfl rfl rfl rfl (by omega)) ?_
          refine ip 1 0 [(20, iv ((t20 : Int) + 1))] (by kernel_rfl) ?_
          refine JI_end ?_
          refine JQ_perm (permC [[bx b1 (cSty (style_pens_1_1b s1 (l.getD t20 Act.zero))) 70], [bx b7 [.func (.func 186) #[] #[]] 248], [bx b12 (cAct (l.getD t20 Act.zero)) 26], [(b4, .map #[⟨iv 0, ag [.func (.func 175) #[] #[], bv false, .func (.func 177) #[] #[]], 0⟩, ⟨iv 1, ag [.func (.func 178) #[] #[], bv false, .func (.func 179) #[] #[]], 1⟩, ⟨iv 2, ag [.func (.func 180) #[] #[], bv false, .func (.func 181) #[] #[]], 2⟩, ⟨iv 3, ag [.func (.func 182) #[] #[], bv false, .func (.func 183) #[] #[]], 3⟩, ⟨iv 4, ag [.func (.func 175) #[] #[], bv style_pens_1, .func (.func 176) #[] #[pt b5 0]], 4⟩, ⟨iv 5, ag [.func (.func 175) #[] #[], bv style_pens_1a, .func (.func 176) #[] #[pt b6 0]], 5⟩, ⟨iv 6, ag [.func (.func 175) #[] #[], bv style_pens_1b, .func (.func 176) #[] #[pt b7 0]], 6⟩] 7)], [bx b5 [.func (.func 184) #[] #[]] 248], [bx b6 [.func (.func 185) #[] #[]] 248], [bx b2 (cSty Sty.zero) 70]] [3, 4, 5, 1, 6, 0, 2] 7 rfl (by decide) rfl [[(b4, .map #[⟨iv 0, ag [.func (.func 175) #[] #[], bv false, .func (.func 177) #[] #[]], 0⟩, ⟨iv 1, ag [.func (.func 178) #[] #[], bv false, .func (.func 179) #[] #[]], 1⟩, ⟨iv 2, ag [.func (.func 180) #[] #[], bv false, .func (.func 181) #[] #[]], 2⟩, ⟨iv 3, ag [.func (.func 182) #[] #[], bv false, .func (.func 183) #[] #[]], 3⟩, ⟨iv 4, ag [.func (.func 175) #[] #[], bv style_pens_1, .func (.func 176) #[] #[pt b5 0]], 4⟩, ⟨iv 5, ag [.func (.func 175) #[] #[], bv style_pens_1a, .func (.func 176) #[] #[pt b6 0]], 5⟩, ⟨iv 6, ag [.func (.func 175) #[] #[], bv style_pens_1b, .func (.func 176) #[] #[pt b7 0]], 6⟩] 7)], [bx b5 [.func (.func 184) #[] #[]] 248], [bx b6 [.func (.func 185) #[] #[]] 248], [bx b7 [.func (.func 186) #[] #[]] 248], [bx b2 (cSty Sty.zero) 70], [bx b1 (cSty (style_pens_1_1b s1 (l.getD t20 Act.zero))) 70], [bx b12 (cAct (l.getD t20 Act.zero)) 26]] rfl (by first | rfl | simp)) ?_
          exact againL2 (z1 := t20) (z2 := s1) (t20 + 1) (style_pens_1_1b s1 (l.getD t20 Act.zero)) ⟨(by omega), hR⟩ (by (try dsimp only); omega) ⟨rfl, rfl, rfl, rfl, rfl, (by first | rfl | (simp only [List.length_set]; rfl) | (simp; done) | (simp; omega)), trivial⟩ (mk [true, true, true, true, true, true, false] rfl) Foll.refl
  ·have h9p : ¬ ((t20 : Int) < (l.length : Int)) := by simpa using h9
   rw [dropn h9p] at hR; replace hR := (style_Run_l0.eq_1 ..).symm.trans hR
   refine J_exit ?_
   refine nx ?_
   refine sr 3 rfl ?_
   refine ix rfl (det_own_agg (us := cSty s1) ty70 rfl rfl 5 rfl rfl rfl) ?_
   refine it rfl (tri_store (us := cSty s1) (cs' := cSty s1) ty70 rfl rfl rfl 4 rfl rfl rfl rfl rfl rfl) fun _ => ?_
   refine ip 1 0 [(5, iv 0)] (by kernel_rfl) ?_
   refine ie ?_
   refine J_ret ?_
   subst hR
   exact ends_ret rfl ⟨hr, hD⟩ (by simp [hD]) (res2 rfl (resV_cell (us := cSty s1) ty70 rfl 4 rfl rfl rfl) (resV_tmp rfl)) () (by rfl) (mk [false, false, false, false, false, false] rfl) Foll.nil

def style_Apply (s : Sty) (a : Act) : Sty × Int :=
 (bindV (style_Run s ([a] : List Act)) fun (y7 : Sty × Int) => (y7.1, y7.2))

theorem style_Apply_c (s : Sty) (a : Act) (R : Sty × Int) (hR : style_Apply s a = R) : ConV Tryz.prog 84 [ag (cSty s), ag (cAct a)] [] (.tuple #[ag (cSty R.1), iv R.2]) := by
 refine con_of_J (n := 12) Tryz.func84 rfl (by kernel_rfl) rfl rfl [(0, ag (cSty s)), (1, ag (cAct a))] ⟨rfl, rfl, trivial⟩ fun X hX hr hD => ?_
 replace hR := (style_Apply.eq_1 ..).symm.trans hR
 refine sr 4 rfl ?_
 refine it rfl (tri_box (cs := cSty s) rfl rfl rfl) fun b1 => ?_
 refine it rfl (tri_box (cs := cAct a) rfl rfl rfl) fun b2 => ?_
 refine it rfl (tri_alloc (cs := cSty Sty.zero) zero70 rfl) fun b3 => ?_
 refine ip 1 0 [] (by kernel_rfl) ?_
 refine ie ?_
 refine sr 8 rfl ?_
 refine ix rfl (det_own_agg (us := cSty s) ty70 rfl rfl 2 rfl rfl rfl) ?_
 refine ix rfl (det_own_agg (us := cAct a) ty26 rfl rfl 1 rfl rfl rfl) ?_
 refine it rfl (tri_buildSl (c := cAct) (xs := ([a] : List Act)) slt27 rfl rfl rfl (by kernel_rfl)) fun b4 => ?_
 have : ([a] : List Act).length = 1 := rfl
 have hQ := bindVx hR; clear hR; obtain ⟨y7, hy7, hR⟩ := hQ
 refine ixc rfl (det_call (style_Run_c s ([a] : List Act) (some ⟨b4, 0, none⟩) 1 (by first | omega | (simp <;> omega) | (dsimp only; omega) | decide) (by first | omega | (simp <;> omega) | (dsimp only; omega) | decide) y7 hy7) rfl rfl rfl rfl rfl Foll.refl) ?_
 refine ip 2 2 [(10, ag (cSty y7.1)), (11, iv y7.2)] (by kernel_rfl) ?_
 refine it rfl (tri_store (us := cSty y7.1) (cs' := cSty y7.1) ty70 rfl rfl rfl 0 rfl rfl rfl rfl rfl rfl) fun _ => ?_
 refine ip 1 0 [(5, iv y7.2)] (by kernel_rfl) ?_
 refine ie ?_
 refine J_ret ?_
 subst hR
 exact ends_ret rfl ⟨hr, hD⟩ (by simp [hD]) (res2 rfl (resV_cell (us := cSty y7.1) ty70 rfl 0 rfl rfl rfl) (resV_tmp rfl)) () (by rfl) (mk [false, false, false] rfl) Foll.nil

def law26_behind_l0 : List Act → Nat → Sty → (Sty × Bool)
 | [], t12, s1 => (s1, true)
 | hd_l0 :: tl_l0, t12, s1 => (bindV (style_Apply s1 hd_l0) fun (y6 : Sty × Int) => (bif (!decide (y6.2 = 0)) then (s1, false) else law26_behind_l0 tl_l0 (t12 + 1) y6.1))
def law26_behind (s : Sty) (l : List Act) : Sty × Bool :=
 law26_behind_l0 l 0 s

theorem law26_behind_c (s : Sty) (l : List Act) (lq : Option Addr) (lk : Nat) (hll : l.length ≤ 9223372036854775807) (hcl : l.length ≤ lk) (R : Sty × Bool) (hR : law26_behind s l = R) : ConV Tryz.prog 51 [ag (cSty s), .slice lq l.length lk] [sl cAct lq l] (.tuple #[ag (cSty R.1), bv R.2]) := by
 refine con_of_J (n := 28) Tryz.func51 rfl (by kernel_rfl) rfl rfl [(0, ag (cSty s)), (1, .slice lq l.length lk)] ⟨rfl, rfl, trivial⟩ fun X hX hr hD => ?_
 replace hR := (law26_behind.eq_1 ..).symm.trans hR
 refine sr 3 rfl ?_
 refine it rfl (tri_box (cs := cSty s) rfl rfl rfl) fun b1 => ?_
 refine it rfl (tri_alloc (cs := cSty Sty.zero) zero70 rfl) fun b2 => ?_
 refine ip 1 0 [] (by kernel_rfl) ?_
 refine ie ?_
 refine J_seq ?_
 refine sr 3 rfl ?_
 refine ip 3 0 [(10, .slice lq l.length lk), (11, iv (l.length : Int)), (12, iv 0)] (by kernel_rfl) ?_
 refine ie ?_
 refine J_block ?_
 refine JL2 (fun (t12 : Nat) (s1 : Sty) => t12 ≤ l.length ∧ law26_behind_l0 (l.drop t12) t12 s1 = R) (fun (t12 : Nat) (s1 : Sty) => [(2, pt b1 0), (4, pt b2 0), (10, .slice lq l.length lk), (11, iv (l.length : Int)), (12, iv (t12 : Int))]) (fun (t12 : Nat) (s1 : Sty) => [bx b2 (cSty Sty.zero) 70, bx b1 (cSty s1) 70]) (fun (t12 : Nat) (s1 : Sty) => [sl cAct lq l]) (fun (t12 : Nat) (s1 : Sty) => l.length - t12) 0 s ⟨(by omega), hR⟩ ⟨rfl, rfl, rfl, rfl, (by first | rfl | (simp only [List.length_set]; rfl) | (simp; done) | (simp; omega)), trivial⟩ (mk [true, true] rfl) Foll.refl ?_
 rintro t12 s1 ⟨hm3, hR⟩
 refine sr 1 rfl ?_
 refine ip 1 0 [(13, bv (decide ((t12 : Int) < (l.length : Int))))] (by kernel_rfl) ?_
 refine ie ?_
 refine J_seq ?_
 refine J_if rfl (fun h4 => ?_) (fun h4 => ?_)
 ·have h4p : (t12 : Int) < (l.length : Int) := by simpa using h4
  rw [dropc Act.zero (show t12 < l.length by omega)] at hR; replace hR := (law26_behind_l0.eq_2 ..).symm.trans hR
  refine J_skip ?_
  refine nx ?_
  refine J_seq ?_
  refine J_block ?_
  refine sr 4 rfl ?_
  refine JI_base 0 rfl (by omega) fun a5 hq6 => ?_
  refine ix rfl (det_ixq slt27 rfl rfl hq6 rfl t12 rfl (by omega)) ?_
  refine ix rfl (det_ld_agg (us := cAct (l.getD t12 Act.zero)) ty26 rfl rfl (at_slq (c := cAct) (sz := 6) hq6 (fun _ => rfl) 0 rfl (gd Act.zero (by omega))) rfl) ?_
  refine it rfl (tri_alloc (cs := cAct Act.zero) zero26 rfl) fun b7 => ?_
  refine it rfl (tri_store (us := cAct (l.getD t12 Act.zero)) (cs' := cAct (l.getD t12 Act.zero)) ty26 rfl rfl rfl 0 rfl rfl rfl rfl rfl rfl) fun _ => ?_
  refine ie ?_
  refine sr 9 rfl ?_
  refine ix rfl (det_own_agg (us := cSty s1) ty70 rfl rfl 2 rfl rfl rfl) ?_
  refine ix rfl (det_own_agg (us := cAct (l.getD t12 Act.zero)) ty26 rfl rfl 0 rfl rfl rfl) ?_
  have hQ := bindVx hR; clear hR; obtain ⟨y6, hy6, hR⟩ := hQ
  refine ixc rfl (det_call (style_Apply_c s1 (l.getD t12 Act.zero) y6 hy6) rfl rfl rfl rfl rfl Foll.nil) ?_
  refine ip 3 3 [(20, ag (cSty y6.1)), (21, iv y6.2)] (by kernel_rfl) ?_
  refine it rfl (tri_alloc (cs := cSty Sty.zero) zero70 rfl) fun b8 => ?_
  refine it rfl (tri_store (us := cSty y6.1) (cs' := cSty y6.1) ty70 rfl rfl rfl 0 rfl rfl rfl rfl rfl rfl) fun _ => ?_
  refine ip 1 0 [(9, iv y6.2)] (by kernel_rfl) ?_
  refine ie ?_
  refine J_seq ?_
  refine sr 2 rfl ?_
  refine ip 2 0 [(23, bv (!decide (y6.2 = 0)))] (by kernel_rfl) ?_
  refine ie ?_
  refine J_if rfl (fun h9 => ?_) (fun h9 => ?_)
  ·have h9p : ¬ y6.2 = 0 := by simpa using h9
   replace hR := bt hR h9
   refine sr 3 rfl ?_
   refine ix rfl (det_own_agg (us := cSty s1) ty70 rfl rfl 3 rfl rfl rfl) ?_
   refine it rfl (tri_store (us := cSty s1) (cs' := cSty s1) ty70 rfl rfl rfl 2 rfl rfl rfl rfl rfl rfl) fun _ => ?_
   refine ip 1 0 [(5, bv false)] (by kernel_rfl) ?_
   refine ie ?_
   refine J_ret ?_
   subst hR
   exact ends_ret rfl ⟨hr, hD⟩ (by simp [hD]) (res2 rfl (resV_cell (us := cSty s1) ty70 rfl 2 rfl rfl rfl) (resV_tmp rfl)) () (by rfl) (mk [false, false, false, false] rfl) Foll.nil
  ·have h9p : ¬ (¬ y6.2 = 0) := by simpa using h9
   replace hR := bf hR h9
   refine J_skip ?_
   refine nx ?_
   refine J_region 2 rfl ?_
   refine ix rfl (det_own_agg (us := cSty y6.1) ty70 rfl rfl 0 rfl rfl rfl) ?_
   refine it rfl (tri_store (us := cSty y6.1) (cs' := cSty y6.1) ty70 rfl rfl rfl 3 rfl rfl rfl rfl rfl rfl) fun _ => ?_
   refine JI_end ?_
   refine nx ?_
   refine J_region 2 rfl ?_
   refine ix rfl (det_add64 rfl rfl rfl rfl (by omega)) ?_
   refine ip 1 0 [(12, iv ((t12 : Int) + 1))] (by kernel_rfl) ?_
   refine JI_end ?_
   exact againL2 (z1 := t12) (z2 := s1) (t12 + 1) y6.1 ⟨(by omega), hR⟩ (by (try dsimp only); omega) ⟨rfl, rfl, rfl, rfl, (by first | rfl | (simp only [List.length_set]; rfl) | (simp; done) | (simp; omega)), trivial⟩ (mk [false, false, true, true] rfl) Foll.refl
 ·have h4p : ¬ ((t12 : Int) < (l.length : Int)) := by simpa using h4
  rw [dropn h4p] at hR; replace hR := (law26_behind_l0.eq_1 ..).symm.trans hR
  refine J_exit ?_
  refine nx ?_
  refine sr 3 rfl ?_
  refine ix rfl (det_own_agg (us := cSty s1) ty70 rfl rfl 1 rfl rfl rfl) ?_
  refine it rfl (tri_store (us := cSty s1) (cs' := cSty s1) ty70 rfl rfl rfl 0 rfl rfl rfl rfl rfl rfl) fun _ => ?_
  refine ip 1 0 [(5, bv true)] (by kernel_rfl) ?_
  refine ie ?_
  refine J_ret ?_
  subst hR
  exact ends_ret rfl ⟨hr, hD⟩ (by simp [hD]) (res2 rfl (resV_cell (us := cSty s1) ty70 rfl 0 rfl rfl rfl) (resV_tmp rfl)) () (by rfl) (mk [false, false] rfl) Foll.nil

def law26_PenLeads (from_ : Sty) (to : Sty) (third : Sty) : Bool :=
 (bif (!law26_wakes) then false else (bindV (pen_Steps from_ to) fun (y2 : List Act × Int) => (bindV (pen_Changes from_ to) fun (y3 : List Act × Int) => (bindV (pen_Anew to) fun (y5 : List Act × Int) => (bif ((((!decide (y2.2 = 0)) || (!decide (y3.2 = 0))) || (!decide (y5.2 = 0))) || (!decide ((style_Check third) = 0))) then ((decide ((y2.1.length : Int) = 0)) || (!decide ((style_Check third) = 0))) else (bindV (law26_behind from_ y2.1) fun (y0 : Sty × Bool) => (bindV (law26_behind from_ y3.1) fun (y1 : Sty × Bool) => (bindV (law26_behind third y5.1) fun (y4 : Sty × Bool) => (((((y0.2 && y1.2) && y4.2) && (decide (y0.1 = to))) && (decide (y1.1 = to))) && (decide (y4.1 = to)))))))))))

theorem law26_PenLeads_c (from_ : Sty) (to : Sty) (third : Sty) (R : Bool) (hR : law26_PenLeads from_ to third = R) : ConV Tryz.prog 14 [ag (cSty from_), ag (cSty to), ag (cSty third)] [sl cAtr (some ⟨2, 0, none⟩) tab2, tabP 5 pow10Cells] (bv R) := by
 refine con_of_J (n := 101) Tryz.func14 rfl (by kernel_rfl) rfl rfl [(0, ag (cSty from_)), (1, ag (cSty to)), (2, ag (cSty third))] ⟨rfl, rfl, rfl, trivial⟩ fun X hX hr hD => ?_
 replace hR := (law26_PenLeads.eq_1 ..).symm.trans hR
 refine sr 4 rfl ?_
 refine it rfl (tri_box (cs := cSty from_) rfl rfl rfl) fun b1 => ?_
 refine it rfl (tri_box (cs := cSty to) rfl rfl rfl) fun b2 => ?_
 refine it rfl (tri_box (cs := cSty third) rfl rfl rfl) fun b3 => ?_
 refine ip 1 0 [] (by kernel_rfl) ?_
 refine ie ?_
 refine J_seq ?_
 refine sr 2 rfl ?_
 refine ixc rfl (det_call (law26_wakes_c _ rfl) rfl rfl rfl rfl rfl Foll.refl) ?_
 refine ip 1 0 [(20, bv (!law26_wakes))] (by kernel_rfl) ?_
 refine ie ?_
 refine J_if rfl (fun h4 => ?_) (fun h4 => ?_)
 ·replace hR := bt hR h4
  refine sr 1 rfl ?_
  refine ip 1 0 [(6, bv false)] (by kernel_rfl) ?_
  refine ie ?_
  refine J_ret ?_
  subst hR
  exact ends_ret rfl ⟨hr, hD⟩ (by simp [hD]) (res1 rfl (resV_tmp rfl)) () (by rfl) (mk [false, false, false] rfl) Foll.nil
 ·replace hR := bf hR h4
  refine J_skip ?_
  refine nx ?_
  refine sr 8 rfl ?_
  refine ix rfl (det_own_agg (us := cSty from_) ty70 rfl rfl 2 rfl rfl rfl) ?_
  refine ix rfl (det_own_agg (us := cSty to) ty70 rfl rfl 1 rfl rfl rfl) ?_
  have hQ := bindVx hR; clear hR; obtain ⟨y2, hy2, hR⟩ := hQ
  refine it rfl (tri_callN (L2 := [bx b3 (cSty third) 70, bx b2 (cSty to) 70, bx b1 (cSty from_) 70]) (pen_Steps_c from_ to y2 hy2) rfl rfl rfl rfl rfl Foll.refl (List.Perm.refl _) (fun ⟨⟨q5, k6⟩, hp7⟩ => [bx b3 (cSty third) 70, bx b2 (cSty to) 70, bx b1 (cSty from_) 70]) (fun _ => rfl)) fun ⟨⟨q5, k6⟩, hp7⟩ => ?_
  obtain ⟨hc8, hl9⟩ := hp7
  have := pen_Steps_len from_ to; try rw [hy2] at this
  have := pen_Steps_pen from_ to; try rw [hy2] at this
  refine ip 5 0 [(7, .slice q5 y2.1.length k6), (8, iv y2.2)] (by kernel_rfl) ?_
  refine ie ?_
  refine sr 8 rfl ?_
  refine ix rfl (det_own_agg (us := cSty from_) ty70 rfl rfl 2 rfl rfl rfl) ?_
  refine ix rfl (det_own_agg (us := cSty to) ty70 rfl rfl 1 rfl rfl rfl) ?_
  have hQ := bindVx hR; clear hR; obtain ⟨y3, hy3, hR⟩ := hQ
  refine it rfl (tri_callP (L2 := [bx b3 (cSty third) 70, bx b2 (cSty to) 70, bx b1 (cSty from_) 70]) (pen_Changes_c from_ to y3 hy3) rfl rfl rfl rfl rfl Foll.nil (List.Perm.refl _) (fun ⟨r10, hk11⟩ => (bx b3 (cSty third) 70 :: bx b2 (cSty to) 70 :: bx b1 (cSty from_) 70 :: (vo cAct 26 r10 y3.1) ++ ([]))) (fun ⟨r10, hk11⟩ => permC [vo cAct 26 r10 y3.1, [bx b3 (cSty third) 70], [bx b2 (cSty to) 70], [bx b1 (cSty from_) 70]] [1, 2, 3, 0] 4 rfl (by decide) (by first | rfl | simp only [List.flatten_cons, List.flatten_nil, List.append_nil, List.cons_append, List.nil_append, List.append_assoc]) [[bx b3 (cSty third) 70], [bx b2 (cSty to) 70], [bx b1 (cSty from_) 70], vo cAct 26 r10 y3.1] rfl (by first | rfl | simp only [List.flatten_cons, List.flatten_nil, List.append_nil, List.cons_append, List.nil_append, List.append_assoc]))) fun ⟨r10, hk11⟩ => ?_
  have := VOk.le hk11
  have := VOk.cap hk11
  have := pen_Changes_len from_ to; try rw [hy3] at this
  have := pen_Changes_pen from_ to; try rw [hy3] at this
  refine JI_seal [bx b3 (cSty third) 70, bx b2 (cSty to) 70, bx b1 (cSty from_) 70] [] (T := 26) (c := cAct) (r := r10) (xs := y3.1) hk11 (by first | rfl | simp only [List.cons_append, List.append_assoc, List.nil_append, List.append_nil]) ?_
  refine ip 5 0 [(9, .slice (va r10.q) y3.1.length r10.k), (10, iv y3.2)] (by kernel_rfl) ?_
  refine ie ?_
  refine sr 7 rfl ?_
  refine ix rfl (det_own_agg (us := cSty to) ty70 rfl rfl 1 rfl rfl rfl) ?_
  have hQ := bindVx hR; clear hR; obtain ⟨y5, hy5, hR⟩ := hQ
  refine it rfl (tri_callN (L2 := [bx b3 (cSty third) 70, bx b2 (cSty to) 70, bx b1 (cSty from_) 70]) (pen_Anew_c to y5 hy5) rfl rfl rfl rfl rfl Foll.nil (List.Perm.refl _) (fun ⟨⟨q12, k13⟩, hp14⟩ => [bx b3 (cSty third) 70, bx b2 (cSty to) 70, bx b1 (cSty from_) 70]) (fun _ => rfl)) fun ⟨⟨q12, k13⟩, hp14⟩ => ?_
  obtain ⟨hc15, hl16⟩ := hp14
  have := pen_Anew_len to; try rw [hy5] at this
  have := pen_Anew_pen to; try rw [hy5] at this
  refine ip 5 0 [(11, .slice q12 y5.1.length k13), (12, iv y5.2)] (by kernel_rfl) ?_
  refine ie ?_
  refine J_seq ?_
  refine sr 15 rfl ?_
  refine ip 3 12 [(40, bv (!decide (y2.2 = 0)))] (by kernel_rfl) ?_
  refine ior 3 9 40 43 (!decide (y3.2 = 0)) rfl (by kernel_rfl) (fun g17 => ?_) ?_
  ·have g17p : ¬ (¬ y2.2 = 0) := by simpa using g17
   refine ip 3 0 [(43, bv (!decide (y3.2 = 0)))] (by kernel_rfl) ?_
   exact JI_end (armI 2 40 43 g17 Foll.refl (mk [true, true, true] rfl) rfl rfl rfl rfl rfl)
  refine ip 1 8 [(44, bv ((!decide (y2.2 = 0)) || (!decide (y3.2 = 0))))] (by kernel_rfl) ?_
  refine ior 3 5 44 47 (!decide (y5.2 = 0)) rfl (by kernel_rfl) (fun g18 => ?_) ?_
  ·have g18p : ¬ ((¬ y2.2 = 0) ∨ (¬ y3.2 = 0)) := by simpa using g18
   refine ip 3 0 [(47, bv (!decide (y5.2 = 0)))] (by kernel_rfl) ?_
   exact JI_end (armI 2 44 47 g18 Foll.refl (mk [true, true, true] rfl) rfl rfl rfl rfl rfl)
  refine ip 1 4 [(48, bv (((!decide (y2.2 = 0)) || (!decide (y3.2 = 0))) || (!decide (y5.2 = 0))))] (by kernel_rfl) ?_
  refine ior 4 0 48 52 (!decide ((style_Check third) = 0)) rfl (by kernel_rfl) (fun g19 => ?_) ?_
  ·have g19p : ¬ (((¬ y2.2 = 0) ∨ (¬ y3.2 = 0)) ∨ (¬ y5.2 = 0)) := by simpa using g19
   refine ix rfl (det_own_agg (us := cSty third) ty70 rfl rfl 0 rfl rfl rfl) ?_
   refine ixc rfl (det_call (style_Check_c third _ rfl) rfl rfl rfl rfl rfl Foll.nil) ?_
   refine ip 2 0 [(52, bv (!decide ((style_Check third) = 0)))] (by kernel_rfl) ?_
   exact JI_end (armI 4 48 52 g19 Foll.refl (mk [true, true, true] rfl) rfl rfl rfl rfl rfl)
  refine ie ?_
  refine J_if rfl (fun h20 => ?_) (fun h20 => ?_)
  ·have h20p : (((¬ y2.2 = 0) ∨ (¬ y3.2 = 0)) ∨ (¬ y5.2 = 0)) ∨ (¬ (style_Check third) = 0) := by simpa using h20
   replace hR := bt hR h20
   refine sr 9 rfl ?_
   refine ip 4 5 [(56, bv (decide ((y2.1.length : Int) = 0)))] (by kernel_rfl) ?_
   refine ior 4 1 56 60 (!decide ((style_Check third) = 0)) rfl (by kernel_rfl) (fun g21 => ?_) ?_
   ·have g21p : ¬ ((y2.1.length : Int) = 0) := by simpa using g21
    refine ix rfl (det_own_agg (us := cSty third) ty70 rfl rfl 0 rfl rfl rfl) ?_
    refine ixc rfl (det_call (style_Check_c third _ rfl) rfl rfl rfl rfl rfl Foll.nil) ?_
    refine ip 2 0 [(60, bv (!decide ((style_Check third) = 0)))] (by kernel_rfl) ?_
    exact JI_end (armI 4 56 60 g21 Foll.refl (mk [true, true, true] rfl) rfl rfl rfl rfl rfl)
   refine ip 1 0 [(6, bv ((decide ((y2.1.length : Int) = 0)) || (!decide ((style_Check third) = 0))))] (by kernel_rfl) ?_
   refine ie ?_
   refine J_ret ?_
   subst hR
   exact ends_ret rfl ⟨hr, hD⟩ (by simp [hD]) (res1 rfl (resV_tmp rfl)) () (by rfl) (mk [false, false, false] rfl) Foll.nil
  ·have h20p : ¬ ((((¬ y2.2 = 0) ∨ (¬ y3.2 = 0)) ∨ (¬ y5.2 = 0)) ∨ (¬ (style_Check third) = 0)) := by simpa using h20
   replace hR := bf hR h20
   refine J_skip ?_
   refine nx ?_
   refine sr 9 rfl ?_
   refine ix rfl (det_own_agg (us := cSty from_) ty70 rfl rfl 2 rfl rfl rfl) ?_
   refine ip 1 7 [(63, .slice q5 y2.1.length k6)] (by kernel_rfl) ?_
   have hQ := bindVx hR; clear hR; obtain ⟨y0, hy0, hR⟩ := hQ
   refine ixc rfl (det_call (law26_behind_c from_ y2.1 q5 k6 (by first | omega | (simp <;> omega) | (dsimp only; omega) | decide) (by first | omega | (simp <;> omega) | (dsimp only; omega) | decide) y0 hy0) rfl rfl rfl rfl rfl (Foll.pick [2] rfl)) ?_
   refine ip 3 3 [(65, ag (cSty y0.1)), (66, bv y0.2)] (by kernel_rfl) ?_
   refine it rfl (tri_alloc (cs := cSty Sty.zero) zero70 rfl) fun b22 => ?_
   refine it rfl (tri_store (us := cSty y0.1) (cs' := cSty y0.1) ty70 rfl rfl rfl 0 rfl rfl rfl rfl rfl rfl) fun _ => ?_
   refine ip 1 0 [(14, bv y0.2)] (by kernel_rfl) ?_
   refine ie ?_
   refine sr 9 rfl ?_
   refine ix rfl (det_own_agg (us := cSty from_) ty70 rfl rfl 3 rfl rfl rfl) ?_
   refine ip 1 7 [(69, .slice (va r10.q) y3.1.length r10.k)] (by kernel_rfl) ?_
   have hQ := bindVx hR; clear hR; obtain ⟨y1, hy1, hR⟩ := hQ
   refine ixc rfl (det_call (law26_behind_c from_ y3.1 (va r10.q) r10.k (by first | omega | (simp <;> omega) | (dsimp only; omega) | decide) (by first | omega | (simp <;> omega) | (dsimp only; omega) | decide) y1 hy1) rfl rfl rfl rfl rfl (Foll.pick [1] rfl)) ?_
   refine ip 3 3 [(71, ag (cSty y1.1)), (72, bv y1.2)] (by kernel_rfl) ?_
   refine it rfl (tri_alloc (cs := cSty Sty.zero) zero70 rfl) fun b23 => ?_
   refine it rfl (tri_store (us := cSty y1.1) (cs' := cSty y1.1) ty70 rfl rfl rfl 0 rfl rfl rfl rfl rfl rfl) fun _ => ?_
   refine ip 1 0 [(16, bv y1.2)] (by kernel_rfl) ?_
   refine ie ?_
   refine sr 9 rfl ?_
   refine ix rfl (det_own_agg (us := cSty third) ty70 rfl rfl 2 rfl rfl rfl) ?_
   refine ip 1 7 [(75, .slice q12 y5.1.length k13)] (by kernel_rfl) ?_
   have hQ := bindVx hR; clear hR; obtain ⟨y4, hy4, hR⟩ := hQ
   refine ixc rfl (det_call (law26_behind_c third y5.1 q12 k13 (by first | omega | (simp <;> omega) | (dsimp only; omega) | decide) (by first | omega | (simp <;> omega) | (dsimp only; omega) | decide) y4 hy4) rfl rfl rfl rfl rfl (Foll.pick [0] rfl)) ?_
   refine ip 3 3 [(77, ag (cSty y4.1)), (78, bv y4.2)] (by kernel_rfl) ?_
   refine it rfl (tri_alloc (cs := cSty Sty.zero) zero70 rfl) fun b24 => ?_
   refine it rfl (tri_store (us := cSty y4.1) (cs' := cSty y4.1) ty70 rfl rfl rfl 0 rfl rfl rfl rfl rfl rfl) fun _ => ?_
   refine ip 1 0 [(18, bv y4.2)] (by kernel_rfl) ?_
   refine ie ?_
   refine sr 23 rfl ?_
   refine ip 2 21 [(80, bv y0.2)] (by kernel_rfl) ?_
   refine iand 2 19 80 82 y1.2 rfl (by kernel_rfl) (fun g25 => ?_) ?_
   ·refine ip 2 0 [(82, bv y1.2)] (by kernel_rfl) ?_
    exact JI_end (armI 2 80 82 g25 Foll.refl (mk [true, true, true, true, true, true] rfl) rfl rfl rfl rfl rfl)
   refine ip 1 18 [(83, bv (y0.2 && y1.2))] (by kernel_rfl) ?_
   refine iand 2 16 83 85 y4.2 rfl (by kernel_rfl) (fun g26 => ?_) ?_
   ·have g26p := g26; try simp at g26p
    refine ip 2 0 [(85, bv y4.2)] (by kernel_rfl) ?_
    exact JI_end (armI 2 83 85 g26 Foll.refl (mk [true, true, true, true, true, true] rfl) rfl rfl rfl rfl rfl)
   refine ip 1 15 [(86, bv ((y0.2 && y1.2) && y4.2))] (by kernel_rfl) ?_
   refine iand 4 11 86 90 (decide (y0.1 = to)) rfl (by kernel_rfl) (fun g27 => ?_) ?_
   ·have g27p := g27; try simp at g27p
    refine ix rfl (det_own_agg (us := cSty y0.1) ty70 rfl rfl 2 rfl rfl rfl) ?_
    refine ix rfl (det_own_agg (us := cSty to) ty70 rfl rfl 4 rfl rfl rfl) ?_
    refine ix rfl (det_eqs (a := y0.1) (b := to) eqt70 rfl rfl rfl) ?_
    refine ip 1 0 [(90, bv (decide (y0.1 = to)))] (by kernel_rfl) ?_
    exact JI_end (armI 5 86 90 g27 Foll.refl (mk [true, true, true, true, true, true] rfl) rfl rfl rfl rfl rfl)
   refine ip 1 10 [(91, bv (((y0.2 && y1.2) && y4.2) && (decide (y0.1 = to))))] (by kernel_rfl) ?_
   refine iand 4 6 91 95 (decide (y1.1 = to)) rfl (by kernel_rfl) (fun g28 => ?_) ?_
   ·have g28p := g28; try simp at g28p
    refine ix rfl (det_own_agg (us := cSty y1.1) ty70 rfl rfl 1 rfl rfl rfl) ?_
    refine ix rfl (det_own_agg (us := cSty to) ty70 rfl rfl 4 rfl rfl rfl) ?_
    refine ix rfl (det_eqs (a := y1.1) (b := to) eqt70 rfl rfl rfl) ?_
    refine ip 1 0 [(95, bv (decide (y1.1 = to)))] (by kernel_rfl) ?_
    exact JI_end (armI 5 91 95 g28 Foll.refl (mk [true, true, true, true, true, true] rfl) rfl rfl rfl rfl rfl)
   refine ip 1 5 [(96, bv ((((y0.2 && y1.2) && y4.2) && (decide (y0.1 = to))) && (decide (y1.1 = to))))] (by kernel_rfl) ?_
   refine iand 4 1 96 100 (decide (y4.1 = to)) rfl (by kernel_rfl) (fun g29 => ?_) ?_
   ·have g29p := g29; try simp at g29p
    refine ix rfl (det_own_agg (us := cSty y4.1) ty70 rfl rfl 0 rfl rfl rfl) ?_
    refine ix rfl (det_own_agg (us := cSty to) ty70 rfl rfl 4 rfl rfl rfl) ?_
    refine ix rfl (det_eqs (a := y4.1) (b := to) eqt70 rfl rfl rfl) ?_
    refine ip 1 0 [(100, bv (decide (y4.1 = to)))] (by kernel_rfl) ?_
    exact JI_end (armI 5 96 100 g29 Foll.refl (mk [true, true, true, true, true, true] rfl) rfl rfl rfl rfl rfl)
   refine ip 1 0 [(6, bv (((((y0.2 && y1.2) && y4.2) && (decide (y0.1 = to))) && (decide (y1.1 = to))) && (decide (y4.1 = to))))] (by kernel_rfl) ?_
   refine ie ?_
   refine J_ret ?_
   subst hR
   exact ends_ret rfl ⟨hr, hD⟩ (by simp [hD]) (res1 rfl (resV_tmp rfl)) () (by rfl) (mk [false, false, false, false, false, false] rfl) Foll.nil

end Go.Proofs.YtinkdfnpmoljfaaGreatDoor

