import Derived.Test.YtinkdfnpmoljfaaGreatDoorD2
import Derived.Test.YtinkdfnpmoljfaaGreatDoorFenX
import Derived.Test.YtinkdfnpmoljfaaGreatDoorIto
import Derived.Test.YtinkdfnpmoljfaaGreatDoorProg
set_option linter.unusedVariables false
set_option linter.unusedSimpArgs false
set_option linter.unnecessarySimpa false
set_option maxRecDepth 100000
namespace Go.Proofs.YtinkdfnpmoljfaaGreatDoor
open Go Go.Fen
structure Col where
 kind : Int
 n : Int
deriving DecidableEq
def cCol (x : Col) : List Value := [.int .i64 x.kind, .int .i64 x.n]
def Col.zero : Col := ⟨0, 0⟩
theorem cCol.inj (x y : Col) (h : cCol x = cCol y) : x = y := by
 rcases x with ⟨_, _⟩
 rcases y with ⟨_, _⟩
 simp [cCol, bs] at h
 simp_all
structure Sty where
 attr : Int
 under : Int
 fore : Col
 back : Col
 line : Col
deriving DecidableEq
def cSty (x : Sty) : List Value := [.int .i64 x.attr, .int .i64 x.under] ++ (cCol x.fore ++ (cCol x.back ++ (cCol x.line)))
def Sty.zero : Sty := ⟨0, 0, Col.zero, Col.zero, Col.zero⟩
theorem cSty.inj (x y : Sty) (h : cSty x = cSty y) : x = y := by
 rcases x with ⟨_, _, ⟨_, _⟩, ⟨_, _⟩, ⟨_, _⟩⟩
 rcases y with ⟨_, _, ⟨_, _⟩, ⟨_, _⟩, ⟨_, _⟩⟩
 simp [cCol, cSty, bs] at h
 simp_all
structure Ar2 where
 a : Int
 b : Int
deriving DecidableEq
def cAr2 (x : Ar2) : List Value := [.int .i64 x.a, .int .i64 x.b]
def Ar2.zero : Ar2 := ⟨0, 0⟩
theorem cAr2.inj (x y : Ar2) (h : cAr2 x = cAr2 y) : x = y := by
 rcases x with ⟨_, _⟩
 rcases y with ⟨_, _⟩
 simp [cAr2, bs] at h
 simp_all
structure Ar3 where
 a : Int
 b : Int
 c : Int
deriving DecidableEq
def cAr3 (x : Ar3) : List Value := [.int .i64 x.a, .int .i64 x.b, .int .i64 x.c]
def Ar3.zero : Ar3 := ⟨0, 0, 0⟩
theorem cAr3.inj (x y : Ar3) (h : cAr3 x = cAr3 y) : x = y := by
 rcases x with ⟨_, _, _⟩
 rcases y with ⟨_, _, _⟩
 simp [cAr3, bs] at h
 simp_all
structure Cel where
 base : Int
 marks : Ar2
 wide : Int
 sty : Sty
deriving DecidableEq
def cCel (x : Cel) : List Value := [.int .i64 x.base] ++ (cAr2 x.marks ++ ([.int .i64 x.wide] ++ (cSty x.sty)))
def Cel.zero : Cel := ⟨0, Ar2.zero, 0, Sty.zero⟩
theorem cCel.inj (x y : Cel) (h : cCel x = cCel y) : x = y := by
 rcases x with ⟨_, ⟨_, _⟩, _, ⟨_, _, ⟨_, _⟩, ⟨_, _⟩, ⟨_, _⟩⟩⟩
 rcases y with ⟨_, ⟨_, _⟩, _, ⟨_, _, ⟨_, _⟩, ⟨_, _⟩, ⟨_, _⟩⟩⟩
 simp [cAr2, cCel, cCol, cSty, bs] at h
 simp_all
structure Spn where
 lo : Int
 hi : Int
deriving DecidableEq
def cSpn (x : Spn) : List Value := [.int .i64 x.lo, .int .i64 x.hi]
def Spn.zero : Spn := ⟨0, 0⟩
theorem cSpn.inj (x y : Spn) (h : cSpn x = cSpn y) : x = y := by
 rcases x with ⟨_, _⟩
 rcases y with ⟨_, _⟩
 simp [cSpn, bs] at h
 simp_all
structure Sp3 where
 row : Int
 frm : Int
 to : Int
deriving DecidableEq
def cSp3 (x : Sp3) : List Value := [.int .i64 x.row, .int .i64 x.frm, .int .i64 x.to]
def Sp3.zero : Sp3 := ⟨0, 0, 0⟩
theorem cSp3.inj (x y : Sp3) (h : cSp3 x = cSp3 y) : x = y := by
 rcases x with ⟨_, _, _⟩
 rcases y with ⟨_, _, _⟩
 simp [cSp3, bs] at h
 simp_all
structure Plc where
 row : Int
 col : Int
deriving DecidableEq
def cPlc (x : Plc) : List Value := [.int .i64 x.row, .int .i64 x.col]
def Plc.zero : Plc := ⟨0, 0⟩
theorem cPlc.inj (x y : Plc) (h : cPlc x = cPlc y) : x = y := by
 rcases x with ⟨_, _⟩
 rcases y with ⟨_, _⟩
 simp [cPlc, bs] at h
 simp_all
structure Atr where
 a : Int
 b : Int
 c : Int
deriving DecidableEq
def cAtr (x : Atr) : List Value := [.int .i64 x.a, .int .i64 x.b, .int .i64 x.c]
def Atr.zero : Atr := ⟨0, 0, 0⟩
theorem cAtr.inj (x y : Atr) (h : cAtr x = cAtr y) : x = y := by
 rcases x with ⟨_, _, _⟩
 rcases y with ⟨_, _, _⟩
 simp [cAtr, bs] at h
 simp_all
structure Act where
 kind : Int
 n : Int
 m : Int
 color : Col
 text : List UInt8
deriving DecidableEq
def cAct (x : Act) : List Value := [.int .i64 x.kind, .int .i64 x.n, .int .i64 x.m] ++ (cCol x.color ++ ([.string (bs x.text)]))
def Act.zero : Act := ⟨0, 0, 0, Col.zero, []⟩
theorem cAct.inj (x y : Act) (h : cAct x = cAct y) : x = y := by
 rcases x with ⟨_, _, _, ⟨_, _⟩, _⟩
 rcases y with ⟨_, _, _, ⟨_, _⟩, _⟩
 simp [cAct, cCol, bs] at h
 simp_all
structure Shf where
 top : Int
 bottom : Int
 amt : Int
deriving DecidableEq
def cShf (x : Shf) : List Value := [.int .i64 x.top, .int .i64 x.bottom, .int .i64 x.amt]
def Shf.zero : Shf := ⟨0, 0, 0⟩
theorem cShf.inj (x y : Shf) (h : cShf x = cShf y) : x = y := by
 rcases x with ⟨_, _, _⟩
 rcases y with ⟨_, _, _⟩
 simp [cShf, bs] at h
 simp_all
structure Hld where
 shift : Shf
 gain : Int
deriving DecidableEq
def cHld (x : Hld) : List Value := cShf x.shift ++ ([.int .i64 x.gain])
def Hld.zero : Hld := ⟨Shf.zero, 0⟩
theorem cHld.inj (x y : Hld) (h : cHld x = cHld y) : x = y := by
 rcases x with ⟨⟨_, _, _⟩, _⟩
 rcases y with ⟨⟨_, _, _⟩, _⟩
 simp [cHld, cShf, bs] at h
 simp_all
structure Lks where
 f : Nat → Int
def Lks.zero : Lks := ⟨fun _ => 0⟩
def Lks.put (x : Lks) (k : Nat) (v : Int) : Lks := ⟨fun i => if i = k then v else x.f i⟩
def tab2 : List Atr := [⟨1, 1, 22⟩, ⟨2, 2, 22⟩, ⟨4, 3, 23⟩, ⟨8, 5, 25⟩, ⟨16, 7, 27⟩, ⟨32, 8, 28⟩, ⟨64, 9, 29⟩, ⟨128, 53, 55⟩]
theorem eqt24 : EqT Tryz.prog 24 cCol := EqT.of 20 rfl (by kernel_rfl) (by kernel_rfl) (fun _ _ => by kernel_rfl) cCol.inj
theorem ty3 : Ty Tryz.prog 3 1 false := ⟨by kernel_rfl⟩
theorem ty4 : Ty Tryz.prog 4 1 false := ⟨by kernel_rfl⟩
theorem ty9 : Ty Tryz.prog 9 1 false := ⟨by kernel_rfl⟩
theorem ty24 : Ty Tryz.prog 24 2 true := ⟨by kernel_rfl⟩
theorem ty152 : Ty Tryz.prog 152 1 false := ⟨by kernel_rfl⟩
theorem ty189 : Ty Tryz.prog 189 3 true := ⟨by kernel_rfl⟩
theorem ty200 : Ty Tryz.prog 200 3 true := ⟨by kernel_rfl⟩
theorem zero24 : Zero Tryz.prog 24 (cCol Col.zero) := ⟨by kernel_rfl⟩
theorem zero189 : Zero Tryz.prog 189 (cAr3 Ar3.zero) := ⟨by kernel_rfl⟩
theorem zero200 : Zero Tryz.prog 200 [.nilFunc, bv false, .nilFunc] := ⟨by kernel_rfl⟩
def style_pens_1 : Bool :=
 true

theorem style_pens_1_c (R : Bool) (hR : style_pens_1 = R) : Con Tryz.prog 174 [.func (.func 184) #[] #[]] [] [] (Nat) (fun x => ag [.func (.func 175) #[] #[], bv R, .func (.func 176) #[] #[pt x 0]]) (fun x => [bx x [.func (.func 184) #[] #[]] 248]) (fun x => []) := by
 refine con_of_J (n := 5) Tryz.func174 rfl (by kernel_rfl) rfl rfl [(0, .func (.func 184) #[] #[])] ⟨rfl, trivial⟩ fun X hX hr hD => ?_
 replace hR := (style_pens_1.eq_1 ..).symm.trans hR
 refine sr 2 rfl ?_
 refine it rfl (tri_box (cs := [.func (.func 184) #[] #[]]) rfl rfl rfl) fun b1 => ?_
 refine it rfl (tri_alloc (cs := [.nilFunc, bv false, .nilFunc]) zero200 rfl) fun b2 => ?_
 refine ie ?_
 refine sr 3 rfl ?_
 refine ip 1 2 [(3, .func (.func 176) #[] #[pt b1 0])] (by kernel_rfl) ?_
 refine ix rfl (det_build (cs := [.func (.func 175) #[] #[], bv true, .func (.func 176) #[] #[pt b1 0]]) rfl rfl (by kernel_rfl)) ?_
 refine it rfl (tri_store (us := [.func (.func 175) #[] #[], bv true, .func (.func 176) #[] #[pt b1 0]]) (cs' := [.func (.func 175) #[] #[], bv true, .func (.func 176) #[] #[pt b1 0]]) ty200 rfl rfl rfl 0 rfl rfl rfl rfl rfl rfl) fun _ => ?_
 refine ie ?_
 refine J_ret ?_
 subst hR
 exact ends_ret rfl ⟨hr, hD⟩ (by simp [hD]) (res1 rfl (resV_cell (us := [.func (.func 175) #[] #[], bv true, .func (.func 176) #[] #[pt b1 0]]) ty200 rfl 0 rfl rfl rfl)) b1 (by rfl) (mk [false, true] rfl) Foll.nil

def style_pens_1a : Bool :=
 true

theorem style_pens_1a_c (R : Bool) (hR : style_pens_1a = R) : Con Tryz.prog 174 [.func (.func 185) #[] #[]] [] [] (Nat) (fun x => ag [.func (.func 175) #[] #[], bv R, .func (.func 176) #[] #[pt x 0]]) (fun x => [bx x [.func (.func 185) #[] #[]] 248]) (fun x => []) := by
 refine con_of_J (n := 5) Tryz.func174 rfl (by kernel_rfl) rfl rfl [(0, .func (.func 185) #[] #[])] ⟨rfl, trivial⟩ fun X hX hr hD => ?_
 replace hR := (style_pens_1a.eq_1 ..).symm.trans hR
 refine sr 2 rfl ?_
 refine it rfl (tri_box (cs := [.func (.func 185) #[] #[]]) rfl rfl rfl) fun b1 => ?_
 refine it rfl (tri_alloc (cs := [.nilFunc, bv false, .nilFunc]) zero200 rfl) fun b2 => ?_
 refine ie ?_
 refine sr 3 rfl ?_
 refine ip 1 2 [(3, .func (.func 176) #[] #[pt b1 0])] (by kernel_rfl) ?_
 refine ix rfl (det_build (cs := [.func (.func 175) #[] #[], bv true, .func (.func 176) #[] #[pt b1 0]]) rfl rfl (by kernel_rfl)) ?_
 refine it rfl (tri_store (us := [.func (.func 175) #[] #[], bv true, .func (.func 176) #[] #[pt b1 0]]) (cs' := [.func (.func 175) #[] #[], bv true, .func (.func 176) #[] #[pt b1 0]]) ty200 rfl rfl rfl 0 rfl rfl rfl rfl rfl rfl) fun _ => ?_
 refine ie ?_
 refine J_ret ?_
 subst hR
 exact ends_ret rfl ⟨hr, hD⟩ (by simp [hD]) (res1 rfl (resV_cell (us := [.func (.func 175) #[] #[], bv true, .func (.func 176) #[] #[pt b1 0]]) ty200 rfl 0 rfl rfl rfl)) b1 (by rfl) (mk [false, true] rfl) Foll.nil

def style_pens_1b : Bool :=
 true

theorem style_pens_1b_c (R : Bool) (hR : style_pens_1b = R) : Con Tryz.prog 174 [.func (.func 186) #[] #[]] [] [] (Nat) (fun x => ag [.func (.func 175) #[] #[], bv R, .func (.func 176) #[] #[pt x 0]]) (fun x => [bx x [.func (.func 186) #[] #[]] 248]) (fun x => []) := by
 refine con_of_J (n := 5) Tryz.func174 rfl (by kernel_rfl) rfl rfl [(0, .func (.func 186) #[] #[])] ⟨rfl, trivial⟩ fun X hX hr hD => ?_
 replace hR := (style_pens_1b.eq_1 ..).symm.trans hR
 refine sr 2 rfl ?_
 refine it rfl (tri_box (cs := [.func (.func 186) #[] #[]]) rfl rfl rfl) fun b1 => ?_
 refine it rfl (tri_alloc (cs := [.nilFunc, bv false, .nilFunc]) zero200 rfl) fun b2 => ?_
 refine ie ?_
 refine sr 3 rfl ?_
 refine ip 1 2 [(3, .func (.func 176) #[] #[pt b1 0])] (by kernel_rfl) ?_
 refine ix rfl (det_build (cs := [.func (.func 175) #[] #[], bv true, .func (.func 176) #[] #[pt b1 0]]) rfl rfl (by kernel_rfl)) ?_
 refine it rfl (tri_store (us := [.func (.func 175) #[] #[], bv true, .func (.func 176) #[] #[pt b1 0]]) (cs' := [.func (.func 175) #[] #[], bv true, .func (.func 176) #[] #[pt b1 0]]) ty200 rfl rfl rfl 0 rfl rfl rfl rfl rfl rfl) fun _ => ?_
 refine ie ?_
 refine J_ret ?_
 subst hR
 exact ends_ret rfl ⟨hr, hD⟩ (by simp [hD]) (res1 rfl (resV_cell (us := [.func (.func 175) #[] #[], bv true, .func (.func 176) #[] #[pt b1 0]]) ty200 rfl 0 rfl rfl rfl)) b1 (by rfl) (mk [false, true] rfl) Foll.nil

def style_pens : Unit :=
 ()

theorem style_pens_c (R : Unit) (hR : style_pens = R) : Con Tryz.prog 138 [] [] [] (Nat × Nat × Nat × Nat) (fun x => .map (some x.1)) (fun x => [(x.1, .map #[⟨iv 0, ag [.func (.func 175) #[] #[], bv false, .func (.func 177) #[] #[]], 0⟩, ⟨iv 1, ag [.func (.func 178) #[] #[], bv false, .func (.func 179) #[] #[]], 1⟩, ⟨iv 2, ag [.func (.func 180) #[] #[], bv false, .func (.func 181) #[] #[]], 2⟩, ⟨iv 3, ag [.func (.func 182) #[] #[], bv false, .func (.func 183) #[] #[]], 3⟩, ⟨iv 4, ag [.func (.func 175) #[] #[], bv style_pens_1, .func (.func 176) #[] #[pt x.2.1 0]], 4⟩, ⟨iv 5, ag [.func (.func 175) #[] #[], bv style_pens_1a, .func (.func 176) #[] #[pt x.2.2.1 0]], 5⟩, ⟨iv 6, ag [.func (.func 175) #[] #[], bv style_pens_1b, .func (.func 176) #[] #[pt x.2.2.2 0]], 6⟩] 7), bx x.2.1 [.func (.func 184) #[] #[]] 248, bx x.2.2.1 [.func (.func 185) #[] #[]] 248, bx x.2.2.2 [.func (.func 186) #[] #[]] 248]) (fun x => []) := by
 refine con_of_J (n := 14) Tryz.func138 rfl (by kernel_rfl) rfl rfl [] trivial fun X hX hr hD => ?_
 replace hR := (style_pens.eq_1 ..).symm.trans hR
 refine sr 1 rfl ?_
 refine ip 1 0 [] (by kernel_rfl) ?_
 refine ie ?_
 refine sr 1 rfl ?_
 refine ip 1 0 [(1, .func (.func 174) #[] #[])] (by kernel_rfl) ?_
 refine ie ?_
 refine sr 20 rfl ?_
 refine it rfl (tri_makeMap rfl) fun b1 => ?_
 refine ix rfl (det_build (cs := [.func (.func 175) #[] #[], bv false, .func (.func 177) #[] #[]]) rfl rfl (by kernel_rfl)) ?_
 refine it rfl (tri_insert (⟨by kernel_rfl, by kernel_rfl, rfl⟩ : MapTy Tryz.prog 202 3 200 (.int .i64)) (.inl rfl) rfl rfl rfl 0 rfl (by kernel_rfl) rfl) fun _ => ?_
 refine ix rfl (det_build (cs := [.func (.func 178) #[] #[], bv false, .func (.func 179) #[] #[]]) rfl rfl (by kernel_rfl)) ?_
 refine it rfl (tri_insert (⟨by kernel_rfl, by kernel_rfl, rfl⟩ : MapTy Tryz.prog 202 3 200 (.int .i64)) (.inl rfl) rfl rfl rfl 0 rfl (by kernel_rfl) rfl) fun _ => ?_
 refine ix rfl (det_build (cs := [.func (.func 180) #[] #[], bv false, .func (.func 181) #[] #[]]) rfl rfl (by kernel_rfl)) ?_
 refine it rfl (tri_insert (⟨by kernel_rfl, by kernel_rfl, rfl⟩ : MapTy Tryz.prog 202 3 200 (.int .i64)) (.inl rfl) rfl rfl rfl 0 rfl (by kernel_rfl) rfl) fun _ => ?_
 refine ix rfl (det_build (cs := [.func (.func 182) #[] #[], bv false, .func (.func 183) #[] #[]]) rfl rfl (by kernel_rfl)) ?_
 refine it rfl (tri_insert (⟨by kernel_rfl, by kernel_rfl, rfl⟩ : MapTy Tryz.prog 202 3 200 (.int .i64)) (.inl rfl) rfl rfl rfl 0 rfl (by kernel_rfl) rfl) fun _ => ?_
 refine ip 1 10 [(7, .func (.func 174) #[] #[])] (by kernel_rfl) ?_
 refine it rfl (tri_callN (L2 := [(b1, .map #[⟨iv 0, ag [.func (.func 175) #[] #[], bv false, .func (.func 177) #[] #[]], 0⟩, ⟨iv 1, ag [.func (.func 178) #[] #[], bv false, .func (.func 179) #[] #[]], 1⟩, ⟨iv 2, ag [.func (.func 180) #[] #[], bv false, .func (.func 181) #[] #[]], 2⟩, ⟨iv 3, ag [.func (.func 182) #[] #[], bv false, .func (.func 183) #[] #[]], 3⟩] 4)]) (style_pens_1_c _ rfl) rfl rfl rfl rfl rfl Foll.nil (List.Perm.refl _) (fun b2 => [bx b2 [.func (.func 184) #[] #[]] 248, (b1, .map #[⟨iv 0, ag [.func (.func 175) #[] #[], bv false, .func (.func 177) #[] #[]], 0⟩, ⟨iv 1, ag [.func (.func 178) #[] #[], bv false, .func (.func 179) #[] #[]], 1⟩, ⟨iv 2, ag [.func (.func 180) #[] #[], bv false, .func (.func 181) #[] #[]], 2⟩, ⟨iv 3, ag [.func (.func 182) #[] #[], bv false, .func (.func 183) #[] #[]], 3⟩] 4)]) (fun _ => rfl)) fun b2 => ?_
 refine it rfl (tri_insert (⟨by kernel_rfl, by kernel_rfl, rfl⟩ : MapTy Tryz.prog 202 3 200 (.int .i64)) (.inl rfl) rfl rfl rfl 1 rfl (by kernel_rfl) rfl) fun _ => ?_
 refine ip 1 7 [(9, .func (.func 174) #[] #[])] (by kernel_rfl) ?_
 refine it rfl (tri_callN (L2 := [bx b2 [.func (.func 184) #[] #[]] 248, (b1, .map #[⟨iv 0, ag [.func (.func 175) #[] #[], bv false, .func (.func 177) #[] #[]], 0⟩, ⟨iv 1, ag [.func (.func 178) #[] #[], bv false, .func (.func 179) #[] #[]], 1⟩, ⟨iv 2, ag [.func (.func 180) #[] #[], bv false, .func (.func 181) #[] #[]], 2⟩, ⟨iv 3, ag [.func (.func 182) #[] #[], bv false, .func (.func 183) #[] #[]], 3⟩, ⟨iv 4, ag [.func (.func 175) #[] #[], bv style_pens_1, .func (.func 176) #[] #[pt b2 0]], 4⟩] 5)]) (style_pens_1a_c _ rfl) rfl rfl rfl rfl rfl Foll.nil (List.Perm.refl _) (fun b3 => [bx b3 [.func (.func 185) #[] #[]] 248, bx b2 [.func (.func 184) #[] #[]] 248, (b1, .map #[⟨iv 0, ag [.func (.func 175) #[] #[], bv false, .func (.func 177) #[] #[]], 0⟩, ⟨iv 1, ag [.func (.func 178) #[] #[], bv false, .func (.func 179) #[] #[]], 1⟩, ⟨iv 2, ag [.func (.func 180) #[] #[], bv false, .func (.func 181) #[] #[]], 2⟩, ⟨iv 3, ag [.func (.func 182) #[] #[], bv false, .func (.func 183) #[] #[]], 3⟩, ⟨iv 4, ag [.func (.func 175) #[] #[], bv style_pens_1, .func (.func 176) #[] #[pt b2 0]], 4⟩] 5)]) (fun _ => rfl)) fun b3 => ?_
 refine it rfl (tri_insert (⟨by kernel_rfl, by kernel_rfl, rfl⟩ : MapTy Tryz.prog 202 3 200 (.int .i64)) (.inl rfl) rfl rfl rfl 2 rfl (by kernel_rfl) rfl) fun _ => ?_
 refine ip 1 4 [(11, .func (.func 174) #[] #[])] (by kernel_rfl) ?_
 refine it rfl (tri_callN (L2 := [bx b3 [.func (.func 185) #[] #[]] 248, bx b2 [.func (.func 184) #[] #[]] 248, (b1, .map #[⟨iv 0, ag [.func (.func 175) #[] #[], bv false, .func (.func 177) #[] #[]], 0⟩, ⟨iv 1, ag [.func (.func 178) #[] #[], bv false, .func (.func 179) #[] #[]], 1⟩, ⟨iv 2, ag [.func (.func 180) #[] #[], bv false, .func (.func 181) #[] #[]], 2⟩, ⟨iv 3, ag [.func (.func 182) #[] #[], bv false, .func (.func 183) #[] #[]], 3⟩, ⟨iv 4, ag [.func (.func 175) #[] #[], bv style_pens_1, .func (.func 176) #[] #[pt b2 0]], 4⟩, ⟨iv 5, ag [.func (.func 175) #[] #[], bv style_pens_1a, .func (.func 176) #[] #[pt b3 0]], 5⟩] 6)]) (style_pens_1b_c _ rfl) rfl rfl rfl rfl rfl Foll.nil (List.Perm.refl _) (fun b4 => [bx b4 [.func (.func 186) #[] #[]] 248, bx b3 [.func (.func 185) #[] #[]] 248, bx b2 [.func (.func 184) #[] #[]] 248, (b1, .map #[⟨iv 0, ag [.func (.func 175) #[] #[], bv false, .func (.func 177) #[] #[]], 0⟩, ⟨iv 1, ag [.func (.func 178) #[] #[], bv false, .func (.func 179) #[] #[]], 1⟩, ⟨iv 2, ag [.func (.func 180) #[] #[], bv false, .func (.func 181) #[] #[]], 2⟩, ⟨iv 3, ag [.func (.func 182) #[] #[], bv false, .func (.func 183) #[] #[]], 3⟩, ⟨iv 4, ag [.func (.func 175) #[] #[], bv style_pens_1, .func (.func 176) #[] #[pt b2 0]], 4⟩, ⟨iv 5, ag [.func (.func 175) #[] #[], bv style_pens_1a, .func (.func 176) #[] #[pt b3 0]], 5⟩] 6)]) (fun _ => rfl)) fun b4 => ?_
 refine it rfl (tri_insert (⟨by kernel_rfl, by kernel_rfl, rfl⟩ : MapTy Tryz.prog 202 3 200 (.int .i64)) (.inl rfl) rfl rfl rfl 3 rfl (by kernel_rfl) rfl) fun _ => ?_
 refine ip 2 0 [(0, .map (some b1))] (by kernel_rfl) ?_
 refine ie ?_
 refine J_ret ?_
 subst hR
 refine JQ_perm (permC [[bx b4 [.func (.func 186) #[] #[]] 248], [bx b3 [.func (.func 185) #[] #[]] 248], [bx b2 [.func (.func 184) #[] #[]] 248], [(b1, .map #[⟨iv 0, ag [.func (.func 175) #[] #[], bv false, .func (.func 177) #[] #[]], 0⟩, ⟨iv 1, ag [.func (.func 178) #[] #[], bv false, .func (.func 179) #[] #[]], 1⟩, ⟨iv 2, ag [.func (.func 180) #[] #[], bv false, .func (.func 181) #[] #[]], 2⟩, ⟨iv 3, ag [.func (.func 182) #[] #[], bv false, .func (.func 183) #[] #[]], 3⟩, ⟨iv 4, ag [.func (.func 175) #[] #[], bv style_pens_1, .func (.func 176) #[] #[pt b2 0]], 4⟩, ⟨iv 5, ag [.func (.func 175) #[] #[], bv style_pens_1a, .func (.func 176) #[] #[pt b3 0]], 5⟩, ⟨iv 6, ag [.func (.func 175) #[] #[], bv style_pens_1b, .func (.func 176) #[] #[pt b4 0]], 6⟩] 7)]] [3, 2, 1, 0] 4 rfl (by decide) rfl [[(b1, .map #[⟨iv 0, ag [.func (.func 175) #[] #[], bv false, .func (.func 177) #[] #[]], 0⟩, ⟨iv 1, ag [.func (.func 178) #[] #[], bv false, .func (.func 179) #[] #[]], 1⟩, ⟨iv 2, ag [.func (.func 180) #[] #[], bv false, .func (.func 181) #[] #[]], 2⟩, ⟨iv 3, ag [.func (.func 182) #[] #[], bv false, .func (.func 183) #[] #[]], 3⟩, ⟨iv 4, ag [.func (.func 175) #[] #[], bv style_pens_1, .func (.func 176) #[] #[pt b2 0]], 4⟩, ⟨iv 5, ag [.func (.func 175) #[] #[], bv style_pens_1a, .func (.func 176) #[] #[pt b3 0]], 5⟩, ⟨iv 6, ag [.func (.func 175) #[] #[], bv style_pens_1b, .func (.func 176) #[] #[pt b4 0]], 6⟩] 7)], [bx b2 [.func (.func 184) #[] #[]] 248], [bx b3 [.func (.func 185) #[] #[]] 248], [bx b4 [.func (.func 186) #[] #[]] 248]] rfl (by first | rfl | simp)) ?_
 exact ends_ret rfl ⟨hr, hD⟩ (by simp [hD]) (res1 rfl (resV_tmp rfl)) (b1, b2, b3, b4) (by rfl) (mk [true, true, true, true] rfl) Foll.nil

def ktab0 (z0 : Nat) (z1 : Nat) (z2 : Nat) : List (Int × Value) := [(0, ag [.func (.func 175) #[] #[], bv false, .func (.func 177) #[] #[]]), (1, ag [.func (.func 178) #[] #[], bv false, .func (.func 179) #[] #[]]), (2, ag [.func (.func 180) #[] #[], bv false, .func (.func 181) #[] #[]]), (3, ag [.func (.func 182) #[] #[], bv false, .func (.func 183) #[] #[]]), (4, ag [.func (.func 175) #[] #[], bv style_pens_1, .func (.func 176) #[] #[pt z0 0]]), (5, ag [.func (.func 175) #[] #[], bv style_pens_1a, .func (.func 176) #[] #[pt z1 0]]), (6, ag [.func (.func 175) #[] #[], bv style_pens_1b, .func (.func 176) #[] #[pt z2 0]])]
def ktab0_0 : List (Int × Value) := [(0, .func (.func 175) #[] #[]), (1, .func (.func 178) #[] #[]), (2, .func (.func 180) #[] #[]), (3, .func (.func 182) #[] #[]), (4, .func (.func 175) #[] #[]), (5, .func (.func 175) #[] #[]), (6, .func (.func 175) #[] #[])]
def ktab0_1 : List (Int × Bool) := [(0, false), (1, false), (2, false), (3, false), (4, style_pens_1), (5, style_pens_1a), (6, style_pens_1b)]
def ktab0_2 (z0 : Nat) (z1 : Nat) (z2 : Nat) : List (Int × Value) := [(0, .func (.func 177) #[] #[]), (1, .func (.func 179) #[] #[]), (2, .func (.func 181) #[] #[]), (3, .func (.func 183) #[] #[]), (4, .func (.func 176) #[] #[pt z0 0]), (5, .func (.func 176) #[] #[pt z1 0]), (6, .func (.func 176) #[] #[pt z2 0])]
theorem ktab0_eq (z0 : Nat) (z1 : Nat) (z2 : Nat) (k : Int) : lkV k (.agg #[.nilFunc, bv false, .nilFunc]) (ktab0 z0 z1 z2) = .agg #[lkV k .nilFunc ktab0_0, .bool (lkB k false ktab0_1), lkV k .nilFunc (ktab0_2 z0 z1 z2)] := by
 refine (lkV_three (fun a b c => .agg #[a, b, c]) k (.nilFunc) (bv false) (.nilFunc) [((0 : Int), (.func (.func 175) #[] #[] : Value), (bv false : Value), (.func (.func 177) #[] #[] : Value)), ((1 : Int), (.func (.func 178) #[] #[] : Value), (bv false : Value), (.func (.func 179) #[] #[] : Value)), ((2 : Int), (.func (.func 180) #[] #[] : Value), (bv false : Value), (.func (.func 181) #[] #[] : Value)), ((3 : Int), (.func (.func 182) #[] #[] : Value), (bv false : Value), (.func (.func 183) #[] #[] : Value)), ((4 : Int), (.func (.func 175) #[] #[] : Value), (bv style_pens_1 : Value), (.func (.func 176) #[] #[pt z0 0] : Value)), ((5 : Int), (.func (.func 175) #[] #[] : Value), (bv style_pens_1a : Value), (.func (.func 176) #[] #[pt z1 0] : Value)), ((6 : Int), (.func (.func 175) #[] #[] : Value), (bv style_pens_1b : Value), (.func (.func 176) #[] #[pt z2 0] : Value))]).trans ?_
 rw [show (([((0 : Int), (.func (.func 175) #[] #[] : Value), (bv false : Value), (.func (.func 177) #[] #[] : Value)), ((1 : Int), (.func (.func 178) #[] #[] : Value), (bv false : Value), (.func (.func 179) #[] #[] : Value)), ((2 : Int), (.func (.func 180) #[] #[] : Value), (bv false : Value), (.func (.func 181) #[] #[] : Value)), ((3 : Int), (.func (.func 182) #[] #[] : Value), (bv false : Value), (.func (.func 183) #[] #[] : Value)), ((4 : Int), (.func (.func 175) #[] #[] : Value), (bv style_pens_1 : Value), (.func (.func 176) #[] #[pt z0 0] : Value)), ((5 : Int), (.func (.func 175) #[] #[] : Value), (bv style_pens_1a : Value), (.func (.func 176) #[] #[pt z1 0] : Value)), ((6 : Int), (.func (.func 175) #[] #[] : Value), (bv style_pens_1b : Value), (.func (.func 176) #[] #[pt z2 0] : Value))]).map fun x => (x.1, x.2.2.1)) = ktab0_1.map (fun x => (x.1, Value.bool x.2)) from rfl, lkV_bool]
 rfl
theorem ktab0_both (z0 : Nat) (z1 : Nat) (z2 : Nat) (k : Int) : Value.tuple #[lkV k (.agg #[.nilFunc, bv false, .nilFunc]) (ktab0 z0 z1 z2), .bool (hasK k (ktab0 z0 z1 z2))] = Value.tuple #[.agg #[lkV k .nilFunc ktab0_0, .bool (lkB k false ktab0_1), lkV k .nilFunc (ktab0_2 z0 z1 z2)], .bool (hasK k ktab0_0)] := by rw [ktab0_eq]; rfl

def style_zero (m : Int) : Bool :=
 (decide (m = 0))

theorem style_zero_c (m : Int) (R : Bool) (hR : style_zero m = R) : ConV Tryz.prog 175 [iv m] [] (bv R) := by
 refine con_of_J (n := 5) Tryz.func175 rfl (by kernel_rfl) rfl rfl [(0, iv m)] ⟨rfl, trivial⟩ fun X hX hr hD => ?_
 replace hR := (style_zero.eq_1 ..).symm.trans hR
 refine sr 1 rfl ?_
 refine ip 1 0 [] (by kernel_rfl) ?_
 refine ie ?_
 refine sr 3 rfl ?_
 refine ip 3 0 [(2, bv (decide (m = 0)))] (by kernel_rfl) ?_
 refine ie ?_
 refine J_ret ?_
 subst hR
 exact ends_ret rfl ⟨hr, hD⟩ (by simp [hD]) (res1 rfl (resV_tmp rfl)) () (by rfl) (mk [] rfl) Foll.nil

def math_bits_OnesCount64 (x : Int) : Int :=
 (bOp .and .i64 (IntKind.i64.wrap (IntKind.u64.wrap ((IntKind.u64.wrap ((IntKind.u64.wrap ((bOp .and .u64 (IntKind.u64.wrap (((IntKind.u64.wrap ((bOp .and .u64 ((IntKind.u64.wrap ((bOp .and .u64 (x / 2) 6148914691236517205) + (bOp .and .u64 x 6148914691236517205))) / 4) 3689348814741910323) + (bOp .and .u64 (IntKind.u64.wrap ((bOp .and .u64 (x / 2) 6148914691236517205) + (bOp .and .u64 x 6148914691236517205))) 3689348814741910323))) / 16) + (IntKind.u64.wrap ((bOp .and .u64 ((IntKind.u64.wrap ((bOp .and .u64 (x / 2) 6148914691236517205) + (bOp .and .u64 x 6148914691236517205))) / 4) 3689348814741910323) + (bOp .and .u64 (IntKind.u64.wrap ((bOp .and .u64 (x / 2) 6148914691236517205) + (bOp .and .u64 x 6148914691236517205))) 3689348814741910323))))) 1085102592571150095) + ((bOp .and .u64 (IntKind.u64.wrap (((IntKind.u64.wrap ((bOp .and .u64 ((IntKind.u64.wrap ((bOp .and .u64 (x / 2) 6148914691236517205) + (bOp .and .u64 x 6148914691236517205))) / 4) 3689348814741910323) + (bOp .and .u64 (IntKind.u64.wrap ((bOp .and .u64 (x / 2) 6148914691236517205) + (bOp .and .u64 x 6148914691236517205))) 3689348814741910323))) / 16) + (IntKind.u64.wrap ((bOp .and .u64 ((IntKind.u64.wrap ((bOp .and .u64 (x / 2) 6148914691236517205) + (bOp .and .u64 x 6148914691236517205))) / 4) 3689348814741910323) + (bOp .and .u64 (IntKind.u64.wrap ((bOp .and .u64 (x / 2) 6148914691236517205) + (bOp .and .u64 x 6148914691236517205))) 3689348814741910323))))) 1085102592571150095) / 256))) + ((IntKind.u64.wrap ((bOp .and .u64 (IntKind.u64.wrap (((IntKind.u64.wrap ((bOp .and .u64 ((IntKind.u64.wrap ((bOp .and .u64 (x / 2) 6148914691236517205) + (bOp .and .u64 x 6148914691236517205))) / 4) 3689348814741910323) + (bOp .and .u64 (IntKind.u64.wrap ((bOp .and .u64 (x / 2) 6148914691236517205) + (bOp .and .u64 x 6148914691236517205))) 3689348814741910323))) / 16) + (IntKind.u64.wrap ((bOp .and .u64 ((IntKind.u64.wrap ((bOp .and .u64 (x / 2) 6148914691236517205) + (bOp .and .u64 x 6148914691236517205))) / 4) 3689348814741910323) + (bOp .and .u64 (IntKind.u64.wrap ((bOp .and .u64 (x / 2) 6148914691236517205) + (bOp .and .u64 x 6148914691236517205))) 3689348814741910323))))) 1085102592571150095) + ((bOp .and .u64 (IntKind.u64.wrap (((IntKind.u64.wrap ((bOp .and .u64 ((IntKind.u64.wrap ((bOp .and .u64 (x / 2) 6148914691236517205) + (bOp .and .u64 x 6148914691236517205))) / 4) 3689348814741910323) + (bOp .and .u64 (IntKind.u64.wrap ((bOp .and .u64 (x / 2) 6148914691236517205) + (bOp .and .u64 x 6148914691236517205))) 3689348814741910323))) / 16) + (IntKind.u64.wrap ((bOp .and .u64 ((IntKind.u64.wrap ((bOp .and .u64 (x / 2) 6148914691236517205) + (bOp .and .u64 x 6148914691236517205))) / 4) 3689348814741910323) + (bOp .and .u64 (IntKind.u64.wrap ((bOp .and .u64 (x / 2) 6148914691236517205) + (bOp .and .u64 x 6148914691236517205))) 3689348814741910323))))) 1085102592571150095) / 256))) / 65536))) + ((IntKind.u64.wrap ((IntKind.u64.wrap ((bOp .and .u64 (IntKind.u64.wrap (((IntKind.u64.wrap ((bOp .and .u64 ((IntKind.u64.wrap ((bOp .and .u64 (x / 2) 6148914691236517205) + (bOp .and .u64 x 6148914691236517205))) / 4) 3689348814741910323) + (bOp .and .u64 (IntKind.u64.wrap ((bOp .and .u64 (x / 2) 6148914691236517205) + (bOp .and .u64 x 6148914691236517205))) 3689348814741910323))) / 16) + (IntKind.u64.wrap ((bOp .and .u64 ((IntKind.u64.wrap ((bOp .and .u64 (x / 2) 6148914691236517205) + (bOp .and .u64 x 6148914691236517205))) / 4) 3689348814741910323) + (bOp .and .u64 (IntKind.u64.wrap ((bOp .and .u64 (x / 2) 6148914691236517205) + (bOp .and .u64 x 6148914691236517205))) 3689348814741910323))))) 1085102592571150095) + ((bOp .and .u64 (IntKind.u64.wrap (((IntKind.u64.wrap ((bOp .and .u64 ((IntKind.u64.wrap ((bOp .and .u64 (x / 2) 6148914691236517205) + (bOp .and .u64 x 6148914691236517205))) / 4) 3689348814741910323) + (bOp .and .u64 (IntKind.u64.wrap ((bOp .and .u64 (x / 2) 6148914691236517205) + (bOp .and .u64 x 6148914691236517205))) 3689348814741910323))) / 16) + (IntKind.u64.wrap ((bOp .and .u64 ((IntKind.u64.wrap ((bOp .and .u64 (x / 2) 6148914691236517205) + (bOp .and .u64 x 6148914691236517205))) / 4) 3689348814741910323) + (bOp .and .u64 (IntKind.u64.wrap ((bOp .and .u64 (x / 2) 6148914691236517205) + (bOp .and .u64 x 6148914691236517205))) 3689348814741910323))))) 1085102592571150095) / 256))) + ((IntKind.u64.wrap ((bOp .and .u64 (IntKind.u64.wrap (((IntKind.u64.wrap ((bOp .and .u64 ((IntKind.u64.wrap ((bOp .and .u64 (x / 2) 6148914691236517205) + (bOp .and .u64 x 6148914691236517205))) / 4) 3689348814741910323) + (bOp .and .u64 (IntKind.u64.wrap ((bOp .and .u64 (x / 2) 6148914691236517205) + (bOp .and .u64 x 6148914691236517205))) 3689348814741910323))) / 16) + (IntKind.u64.wrap ((bOp .and .u64 ((IntKind.u64.wrap ((bOp .and .u64 (x / 2) 6148914691236517205) + (bOp .and .u64 x 6148914691236517205))) / 4) 3689348814741910323) + (bOp .and .u64 (IntKind.u64.wrap ((bOp .and .u64 (x / 2) 6148914691236517205) + (bOp .and .u64 x 6148914691236517205))) 3689348814741910323))))) 1085102592571150095) + ((bOp .and .u64 (IntKind.u64.wrap (((IntKind.u64.wrap ((bOp .and .u64 ((IntKind.u64.wrap ((bOp .and .u64 (x / 2) 6148914691236517205) + (bOp .and .u64 x 6148914691236517205))) / 4) 3689348814741910323) + (bOp .and .u64 (IntKind.u64.wrap ((bOp .and .u64 (x / 2) 6148914691236517205) + (bOp .and .u64 x 6148914691236517205))) 3689348814741910323))) / 16) + (IntKind.u64.wrap ((bOp .and .u64 ((IntKind.u64.wrap ((bOp .and .u64 (x / 2) 6148914691236517205) + (bOp .and .u64 x 6148914691236517205))) / 4) 3689348814741910323) + (bOp .and .u64 (IntKind.u64.wrap ((bOp .and .u64 (x / 2) 6148914691236517205) + (bOp .and .u64 x 6148914691236517205))) 3689348814741910323))))) 1085102592571150095) / 256))) / 65536))) / 4294967296)))) 127)

theorem math_bits_OnesCount64_c (x : Int) (R : Int) (hR : math_bits_OnesCount64 x = R) : ConV Tryz.prog 232 [.int .u64 x] [] (iv R) := by
 refine con_of_J (n := 35) Tryz.func232 rfl (by kernel_rfl) rfl rfl [(0, .int .u64 x)] ⟨rfl, trivial⟩ fun X hX hr hD => ?_
 replace hR := (math_bits_OnesCount64.eq_1 ..).symm.trans hR
 refine sr 1 rfl ?_
 refine ip 1 0 [] (by kernel_rfl) ?_
 refine ie ?_
 refine sr 7 rfl ?_
 refine ip 1 6 [(3, .int .u64 x)] (by kernel_rfl) ?_
 refine ix rfl (det_shr (c := x / 2) rfl rfl rfl (by decide) (by simp [Int.fdiv_eq_ediv_of_nonneg, IntKind.bits])) ?_
 refine ip 5 0 [(0, .int .u64 (IntKind.u64.wrap ((bOp .and .u64 (x / 2) 6148914691236517205) + (bOp .and .u64 x 6148914691236517205))))] (by kernel_rfl) ?_
 refine ie ?_
 refine sr 7 rfl ?_
 refine ip 1 6 [(9, .int .u64 (IntKind.u64.wrap ((bOp .and .u64 (x / 2) 6148914691236517205) + (bOp .and .u64 x 6148914691236517205))))] (by kernel_rfl) ?_
 refine ix rfl (det_shr (c := (IntKind.u64.wrap ((bOp .and .u64 (x / 2) 6148914691236517205) + (bOp .and .u64 x 6148914691236517205))) / 4) rfl rfl rfl (by decide) (by simp [Int.fdiv_eq_ediv_of_nonneg, IntKind.bits])) ?_
 refine ip 5 0 [(0, .int .u64 (IntKind.u64.wrap ((bOp .and .u64 ((IntKind.u64.wrap ((bOp .and .u64 (x / 2) 6148914691236517205) + (bOp .and .u64 x 6148914691236517205))) / 4) 3689348814741910323) + (bOp .and .u64 (IntKind.u64.wrap ((bOp .and .u64 (x / 2) 6148914691236517205) + (bOp .and .u64 x 6148914691236517205))) 3689348814741910323))))] (by kernel_rfl) ?_
 refine ie ?_
 refine sr 6 rfl ?_
 refine ip 1 5 [(15, .int .u64 (IntKind.u64.wrap ((bOp .and .u64 ((IntKind.u64.wrap ((bOp .and .u64 (x / 2) 6148914691236517205) + (bOp .and .u64 x 6148914691236517205))) / 4) 3689348814741910323) + (bOp .and .u64 (IntKind.u64.wrap ((bOp .and .u64 (x / 2) 6148914691236517205) + (bOp .and .u64 x 6148914691236517205))) 3689348814741910323))))] (by kernel_rfl) ?_
 refine ix rfl (det_shr (c := (IntKind.u64.wrap ((bOp .and .u64 ((IntKind.u64.wrap ((bOp .and .u64 (x / 2) 6148914691236517205) + (bOp .and .u64 x 6148914691236517205))) / 4) 3689348814741910323) + (bOp .and .u64 (IntKind.u64.wrap ((bOp .and .u64 (x / 2) 6148914691236517205) + (bOp .and .u64 x 6148914691236517205))) 3689348814741910323))) / 16) rfl rfl rfl (by decide) (by simp [Int.fdiv_eq_ediv_of_nonneg, IntKind.bits])) ?_
 refine ip 4 0 [(0, .int .u64 (bOp .and .u64 (IntKind.u64.wrap (((IntKind.u64.wrap ((bOp .and .u64 ((IntKind.u64.wrap ((bOp .and .u64 (x / 2) 6148914691236517205) + (bOp .and .u64 x 6148914691236517205))) / 4) 3689348814741910323) + (bOp .and .u64 (IntKind.u64.wrap ((bOp .and .u64 (x / 2) 6148914691236517205) + (bOp .and .u64 x 6148914691236517205))) 3689348814741910323))) / 16) + (IntKind.u64.wrap ((bOp .and .u64 ((IntKind.u64.wrap ((bOp .and .u64 (x / 2) 6148914691236517205) + (bOp .and .u64 x 6148914691236517205))) / 4) 3689348814741910323) + (bOp .and .u64 (IntKind.u64.wrap ((bOp .and .u64 (x / 2) 6148914691236517205) + (bOp .and .u64 x 6148914691236517205))) 3689348814741910323))))) 1085102592571150095))] (by kernel_rfl) ?_
 refine ie ?_
 refine sr 5 rfl ?_
 refine ip 2 3 [(20, .int .u64 (bOp .and .u64 (IntKind.u64.wrap (((IntKind.u64.wrap ((bOp .and .u64 ((IntKind.u64.wrap ((bOp .and .u64 (x / 2) 6148914691236517205) + (bOp .and .u64 x 6148914691236517205))) / 4) 3689348814741910323) + (bOp .and .u64 (IntKind.u64.wrap ((bOp .and .u64 (x / 2) 6148914691236517205) + (bOp .and .u64 x 6148914691236517205))) 3689348814741910323))) / 16) + (IntKind.u64.wrap ((bOp .and .u64 ((IntKind.u64.wrap ((bOp .and .u64 (x / 2) 6148914691236517205) + (bOp .and .u64 x 6148914691236517205))) / 4) 3689348814741910323) + (bOp .and .u64 (IntKind.u64.wrap ((bOp .and .u64 (x / 2) 6148914691236517205) + (bOp .and .u64 x 6148914691236517205))) 3689348814741910323))))) 1085102592571150095)), (21, .int .u64 (bOp .and .u64 (IntKind.u64.wrap (((IntKind.u64.wrap ((bOp .and .u64 ((IntKind.u64.wrap ((bOp .and .u64 (x / 2) 6148914691236517205) + (bOp .and .u64 x 6148914691236517205))) / 4) 3689348814741910323) + (bOp .and .u64 (IntKind.u64.wrap ((bOp .and .u64 (x / 2) 6148914691236517205) + (bOp .and .u64 x 6148914691236517205))) 3689348814741910323))) / 16) + (IntKind.u64.wrap ((bOp .and .u64 ((IntKind.u64.wrap ((bOp .and .u64 (x / 2) 6148914691236517205) + (bOp .and .u64 x 6148914691236517205))) / 4) 3689348814741910323) + (bOp .and .u64 (IntKind.u64.wrap ((bOp .and .u64 (x / 2) 6148914691236517205) + (bOp .and .u64 x 6148914691236517205))) 3689348814741910323))))) 1085102592571150095))] (by kernel_rfl) ?_
 refine ix rfl (det_shr (c := (bOp .and .u64 (IntKind.u64.wrap (((IntKind.u64.wrap ((bOp .and .u64 ((IntKind.u64.wrap ((bOp .and .u64 (x / 2) 6148914691236517205) + (bOp .and .u64 x 6148914691236517205))) / 4) 3689348814741910323) + (bOp .and .u64 (IntKind.u64.wrap ((bOp .and .u64 (x / 2) 6148914691236517205) + (bOp .and .u64 x 6148914691236517205))) 3689348814741910323))) / 16) + (IntKind.u64.wrap ((bOp .and .u64 ((IntKind.u64.wrap ((bOp .and .u64 (x / 2) 6148914691236517205) + (bOp .and .u64 x 6148914691236517205))) / 4) 3689348814741910323) + (bOp .and .u64 (IntKind.u64.wrap ((bOp .and .u64 (x / 2) 6148914691236517205) + (bOp .and .u64 x 6148914691236517205))) 3689348814741910323))))) 1085102592571150095) / 256) rfl rfl rfl (by decide) (by simp [Int.fdiv_eq_ediv_of_nonneg, IntKind.bits])) ?_
 refine ip 2 0 [(0, .int .u64 (IntKind.u64.wrap ((bOp .and .u64 (IntKind.u64.wrap (((IntKind.u64.wrap ((bOp .and .u64 ((IntKind.u64.wrap ((bOp .and .u64 (x / 2) 6148914691236517205) + (bOp .and .u64 x 6148914691236517205))) / 4) 3689348814741910323) + (bOp .and .u64 (IntKind.u64.wrap ((bOp .and .u64 (x / 2) 6148914691236517205) + (bOp .and .u64 x 6148914691236517205))) 3689348814741910323))) / 16) + (IntKind.u64.wrap ((bOp .and .u64 ((IntKind.u64.wrap ((bOp .and .u64 (x / 2) 6148914691236517205) + (bOp .and .u64 x 6148914691236517205))) / 4) 3689348814741910323) + (bOp .and .u64 (IntKind.u64.wrap ((bOp .and .u64 (x / 2) 6148914691236517205) + (bOp .and .u64 x 6148914691236517205))) 3689348814741910323))))) 1085102592571150095) + ((bOp .and .u64 (IntKind.u64.wrap (((IntKind.u64.wrap ((bOp .and .u64 ((IntKind.u64.wrap ((bOp .and .u64 (x / 2) 6148914691236517205) + (bOp .and .u64 x 6148914691236517205))) / 4) 3689348814741910323) + (bOp .and .u64 (IntKind.u64.wrap ((bOp .and .u64 (x / 2) 6148914691236517205) + (bOp .and .u64 x 6148914691236517205))) 3689348814741910323))) / 16) + (IntKind.u64.wrap ((bOp .and .u64 ((IntKind.u64.wrap ((bOp .and .u64 (x / 2) 6148914691236517205) + (bOp .and .u64 x 6148914691236517205))) / 4) 3689348814741910323) + (bOp .and .u64 (IntKind.u64.wrap ((bOp .and .u64 (x / 2) 6148914691236517205) + (bOp .and .u64 x 6148914691236517205))) 3689348814741910323))))) 1085102592571150095) / 256))))] (by kernel_rfl) ?_
 refine ie ?_
 refine sr 5 rfl ?_
 refine ip 2 3 [(24, .int .u64 (IntKind.u64.wrap ((bOp .and .u64 (IntKind.u64.wrap (((IntKind.u64.wrap ((bOp .and .u64 ((IntKind.u64.wrap ((bOp .and .u64 (x / 2) 6148914691236517205) + (bOp .and .u64 x 6148914691236517205))) / 4) 3689348814741910323) + (bOp .and .u64 (IntKind.u64.wrap ((bOp .and .u64 (x / 2) 6148914691236517205) + (bOp .and .u64 x 6148914691236517205))) 3689348814741910323))) / 16) + (IntKind.u64.wrap ((bOp .and .u64 ((IntKind.u64.wrap ((bOp .and .u64 (x / 2) 6148914691236517205) + (bOp .and .u64 x 6148914691236517205))) / 4) 3689348814741910323) + (bOp .and .u64 (IntKind.u64.wrap ((bOp .and .u64 (x / 2) 6148914691236517205) + (bOp .and .u64 x 6148914691236517205))) 3689348814741910323))))) 1085102592571150095) + ((bOp .and .u64 (IntKind.u64.wrap (((IntKind.u64.wrap ((bOp .and .u64 ((IntKind.u64.wrap ((bOp .and .u64 (x / 2) 6148914691236517205) + (bOp .and .u64 x 6148914691236517205))) / 4) 3689348814741910323) + (bOp .and .u64 (IntKind.u64.wrap ((bOp .and .u64 (x / 2) 6148914691236517205) + (bOp .and .u64 x 6148914691236517205))) 3689348814741910323))) / 16) + (IntKind.u64.wrap ((bOp .and .u64 ((IntKind.u64.wrap ((bOp .and .u64 (x / 2) 6148914691236517205) + (bOp .and .u64 x 6148914691236517205))) / 4) 3689348814741910323) + (bOp .and .u64 (IntKind.u64.wrap ((bOp .and .u64 (x / 2) 6148914691236517205) + (bOp .and .u64 x 6148914691236517205))) 3689348814741910323))))) 1085102592571150095) / 256)))), (25, .int .u64 (IntKind.u64.wrap ((bOp .and .u64 (IntKind.u64.wrap (((IntKind.u64.wrap ((bOp .and .u64 ((IntKind.u64.wrap ((bOp .and .u64 (x / 2) 6148914691236517205) + (bOp .and .u64 x 6148914691236517205))) / 4) 3689348814741910323) + (bOp .and .u64 (IntKind.u64.wrap ((bOp .and .u64 (x / 2) 6148914691236517205) + (bOp .and .u64 x 6148914691236517205))) 3689348814741910323))) / 16) + (IntKind.u64.wrap ((bOp .and .u64 ((IntKind.u64.wrap ((bOp .and .u64 (x / 2) 6148914691236517205) + (bOp .and .u64 x 6148914691236517205))) / 4) 3689348814741910323) + (bOp .and .u64 (IntKind.u64.wrap ((bOp .and .u64 (x / 2) 6148914691236517205) + (bOp .and .u64 x 6148914691236517205))) 3689348814741910323))))) 1085102592571150095) + ((bOp .and .u64 (IntKind.u64.wrap (((IntKind.u64.wrap ((bOp .and .u64 ((IntKind.u64.wrap ((bOp .and .u64 (x / 2) 6148914691236517205) + (bOp .and .u64 x 6148914691236517205))) / 4) 3689348814741910323) + (bOp .and .u64 (IntKind.u64.wrap ((bOp .and .u64 (x / 2) 6148914691236517205) + (bOp .and .u64 x 6148914691236517205))) 3689348814741910323))) / 16) + (IntKind.u64.wrap ((bOp .and .u64 ((IntKind.u64.wrap ((bOp .and .u64 (x / 2) 6148914691236517205) + (bOp .and .u64 x 6148914691236517205))) / 4) 3689348814741910323) + (bOp .and .u64 (IntKind.u64.wrap ((bOp .and .u64 (x / 2) 6148914691236517205) + (bOp .and .u64 x 6148914691236517205))) 3689348814741910323))))) 1085102592571150095) / 256))))] (by kernel_rfl) ?_
 refine ix rfl (det_shr (c := (IntKind.u64.wrap ((bOp .and .u64 (IntKind.u64.wrap (((IntKind.u64.wrap ((bOp .and .u64 ((IntKind.u64.wrap ((bOp .and .u64 (x / 2) 6148914691236517205) + (bOp .and .u64 x 6148914691236517205))) / 4) 3689348814741910323) + (bOp .and .u64 (IntKind.u64.wrap ((bOp .and .u64 (x / 2) 6148914691236517205) + (bOp .and .u64 x 6148914691236517205))) 3689348814741910323))) / 16) + (IntKind.u64.wrap ((bOp .and .u64 ((IntKind.u64.wrap ((bOp .and .u64 (x / 2) 6148914691236517205) + (bOp .and .u64 x 6148914691236517205))) / 4) 3689348814741910323) + (bOp .and .u64 (IntKind.u64.wrap ((bOp .and .u64 (x / 2) 6148914691236517205) + (bOp .and .u64 x 6148914691236517205))) 3689348814741910323))))) 1085102592571150095) + ((bOp .and .u64 (IntKind.u64.wrap (((IntKind.u64.wrap ((bOp .and .u64 ((IntKind.u64.wrap ((bOp .and .u64 (x / 2) 6148914691236517205) + (bOp .and .u64 x 6148914691236517205))) / 4) 3689348814741910323) + (bOp .and .u64 (IntKind.u64.wrap ((bOp .and .u64 (x / 2) 6148914691236517205) + (bOp .and .u64 x 6148914691236517205))) 3689348814741910323))) / 16) + (IntKind.u64.wrap ((bOp .and .u64 ((IntKind.u64.wrap ((bOp .and .u64 (x / 2) 6148914691236517205) + (bOp .and .u64 x 6148914691236517205))) / 4) 3689348814741910323) + (bOp .and .u64 (IntKind.u64.wrap ((bOp .and .u64 (x / 2) 6148914691236517205) + (bOp .and .u64 x 6148914691236517205))) 3689348814741910323))))) 1085102592571150095) / 256))) / 65536) rfl rfl rfl (by decide) (by simp [Int.fdiv_eq_ediv_of_nonneg, IntKind.bits])) ?_
 refine ip 2 0 [(0, .int .u64 (IntKind.u64.wrap ((IntKind.u64.wrap ((bOp .and .u64 (IntKind.u64.wrap (((IntKind.u64.wrap ((bOp .and .u64 ((IntKind.u64.wrap ((bOp .and .u64 (x / 2) 6148914691236517205) + (bOp .and .u64 x 6148914691236517205))) / 4) 3689348814741910323) + (bOp .and .u64 (IntKind.u64.wrap ((bOp .and .u64 (x / 2) 6148914691236517205) + (bOp .and .u64 x 6148914691236517205))) 3689348814741910323))) / 16) + (IntKind.u64.wrap ((bOp .and .u64 ((IntKind.u64.wrap ((bOp .and .u64 (x / 2) 6148914691236517205) + (bOp .and .u64 x 6148914691236517205))) / 4) 3689348814741910323) + (bOp .and .u64 (IntKind.u64.wrap ((bOp .and .u64 (x / 2) 6148914691236517205) + (bOp .and .u64 x 6148914691236517205))) 3689348814741910323))))) 1085102592571150095) + ((bOp .and .u64 (IntKind.u64.wrap (((IntKind.u64.wrap ((bOp .and .u64 ((IntKind.u64.wrap ((bOp .and .u64 (x / 2) 6148914691236517205) + (bOp .and .u64 x 6148914691236517205))) / 4) 3689348814741910323) + (bOp .and .u64 (IntKind.u64.wrap ((bOp .and .u64 (x / 2) 6148914691236517205) + (bOp .and .u64 x 6148914691236517205))) 3689348814741910323))) / 16) + (IntKind.u64.wrap ((bOp .and .u64 ((IntKind.u64.wrap ((bOp .and .u64 (x / 2) 6148914691236517205) + (bOp .and .u64 x 6148914691236517205))) / 4) 3689348814741910323) + (bOp .and .u64 (IntKind.u64.wrap ((bOp .and .u64 (x / 2) 6148914691236517205) + (bOp .and .u64 x 6148914691236517205))) 3689348814741910323))))) 1085102592571150095) / 256))) + ((IntKind.u64.wrap ((bOp .and .u64 (IntKind.u64.wrap (((IntKind.u64.wrap ((bOp .and .u64 ((IntKind.u64.wrap ((bOp .and .u64 (x / 2) 6148914691236517205) + (bOp .and .u64 x 6148914691236517205))) / 4) 3689348814741910323) + (bOp .and .u64 (IntKind.u64.wrap ((bOp .and .u64 (x / 2) 6148914691236517205) + (bOp .and .u64 x 6148914691236517205))) 3689348814741910323))) / 16) + (IntKind.u64.wrap ((bOp .and .u64 ((IntKind.u64.wrap ((bOp .and .u64 (x / 2) 6148914691236517205) + (bOp .and .u64 x 6148914691236517205))) / 4) 3689348814741910323) + (bOp .and .u64 (IntKind.u64.wrap ((bOp .and .u64 (x / 2) 6148914691236517205) + (bOp .and .u64 x 6148914691236517205))) 3689348814741910323))))) 1085102592571150095) + ((bOp .and .u64 (IntKind.u64.wrap (((IntKind.u64.wrap ((bOp .and .u64 ((IntKind.u64.wrap ((bOp .and .u64 (x / 2) 6148914691236517205) + (bOp .and .u64 x 6148914691236517205))) / 4) 3689348814741910323) + (bOp .and .u64 (IntKind.u64.wrap ((bOp .and .u64 (x / 2) 6148914691236517205) + (bOp .and .u64 x 6148914691236517205))) 3689348814741910323))) / 16) + (IntKind.u64.wrap ((bOp .and .u64 ((IntKind.u64.wrap ((bOp .and .u64 (x / 2) 6148914691236517205) + (bOp .and .u64 x 6148914691236517205))) / 4) 3689348814741910323) + (bOp .and .u64 (IntKind.u64.wrap ((bOp .and .u64 (x / 2) 6148914691236517205) + (bOp .and .u64 x 6148914691236517205))) 3689348814741910323))))) 1085102592571150095) / 256))) / 65536))))] (by kernel_rfl) ?_
 refine ie ?_
 refine sr 5 rfl ?_
 refine ip 2 3 [(28, .int .u64 (IntKind.u64.wrap ((IntKind.u64.wrap ((bOp .and .u64 (IntKind.u64.wrap (((IntKind.u64.wrap ((bOp .and .u64 ((IntKind.u64.wrap ((bOp .and .u64 (x / 2) 6148914691236517205) + (bOp .and .u64 x 6148914691236517205))) / 4) 3689348814741910323) + (bOp .and .u64 (IntKind.u64.wrap ((bOp .and .u64 (x / 2) 6148914691236517205) + (bOp .and .u64 x 6148914691236517205))) 3689348814741910323))) / 16) + (IntKind.u64.wrap ((bOp .and .u64 ((IntKind.u64.wrap ((bOp .and .u64 (x / 2) 6148914691236517205) + (bOp .and .u64 x 6148914691236517205))) / 4) 3689348814741910323) + (bOp .and .u64 (IntKind.u64.wrap ((bOp .and .u64 (x / 2) 6148914691236517205) + (bOp .and .u64 x 6148914691236517205))) 3689348814741910323))))) 1085102592571150095) + ((bOp .and .u64 (IntKind.u64.wrap (((IntKind.u64.wrap ((bOp .and .u64 ((IntKind.u64.wrap ((bOp .and .u64 (x / 2) 6148914691236517205) + (bOp .and .u64 x 6148914691236517205))) / 4) 3689348814741910323) + (bOp .and .u64 (IntKind.u64.wrap ((bOp .and .u64 (x / 2) 6148914691236517205) + (bOp .and .u64 x 6148914691236517205))) 3689348814741910323))) / 16) + (IntKind.u64.wrap ((bOp .and .u64 ((IntKind.u64.wrap ((bOp .and .u64 (x / 2) 6148914691236517205) + (bOp .and .u64 x 6148914691236517205))) / 4) 3689348814741910323) + (bOp .and .u64 (IntKind.u64.wrap ((bOp .and .u64 (x / 2) 6148914691236517205) + (bOp .and .u64 x 6148914691236517205))) 3689348814741910323))))) 1085102592571150095) / 256))) + ((IntKind.u64.wrap ((bOp .and .u64 (IntKind.u64.wrap (((IntKind.u64.wrap ((bOp .and .u64 ((IntKind.u64.wrap ((bOp .and .u64 (x / 2) 6148914691236517205) + (bOp .and .u64 x 6148914691236517205))) / 4) 3689348814741910323) + (bOp .and .u64 (IntKind.u64.wrap ((bOp .and .u64 (x / 2) 6148914691236517205) + (bOp .and .u64 x 6148914691236517205))) 3689348814741910323))) / 16) + (IntKind.u64.wrap ((bOp .and .u64 ((IntKind.u64.wrap ((bOp .and .u64 (x / 2) 6148914691236517205) + (bOp .and .u64 x 6148914691236517205))) / 4) 3689348814741910323) + (bOp .and .u64 (IntKind.u64.wrap ((bOp .and .u64 (x / 2) 6148914691236517205) + (bOp .and .u64 x 6148914691236517205))) 3689348814741910323))))) 1085102592571150095) + ((bOp .and .u64 (IntKind.u64.wrap (((IntKind.u64.wrap ((bOp .and .u64 ((IntKind.u64.wrap ((bOp .and .u64 (x / 2) 6148914691236517205) + (bOp .and .u64 x 6148914691236517205))) / 4) 3689348814741910323) + (bOp .and .u64 (IntKind.u64.wrap ((bOp .and .u64 (x / 2) 6148914691236517205) + (bOp .and .u64 x 6148914691236517205))) 3689348814741910323))) / 16) + (IntKind.u64.wrap ((bOp .and .u64 ((IntKind.u64.wrap ((bOp .and .u64 (x / 2) 6148914691236517205) + (bOp .and .u64 x 6148914691236517205))) / 4) 3689348814741910323) + (bOp .and .u64 (IntKind.u64.wrap ((bOp .and .u64 (x / 2) 6148914691236517205) + (bOp .and .u64 x 6148914691236517205))) 3689348814741910323))))) 1085102592571150095) / 256))) / 65536)))), (29, .int .u64 (IntKind.u64.wrap ((IntKind.u64.wrap ((bOp .and .u64 (IntKind.u64.wrap (((IntKind.u64.wrap ((bOp .and .u64 ((IntKind.u64.wrap ((bOp .and .u64 (x / 2) 6148914691236517205) + (bOp .and .u64 x 6148914691236517205))) / 4) 3689348814741910323) + (bOp .and .u64 (IntKind.u64.wrap ((bOp .and .u64 (x / 2) 6148914691236517205) + (bOp .and .u64 x 6148914691236517205))) 3689348814741910323))) / 16) + (IntKind.u64.wrap ((bOp .and .u64 ((IntKind.u64.wrap ((bOp .and .u64 (x / 2) 6148914691236517205) + (bOp .and .u64 x 6148914691236517205))) / 4) 3689348814741910323) + (bOp .and .u64 (IntKind.u64.wrap ((bOp .and .u64 (x / 2) 6148914691236517205) + (bOp .and .u64 x 6148914691236517205))) 3689348814741910323))))) 1085102592571150095) + ((bOp .and .u64 (IntKind.u64.wrap (((IntKind.u64.wrap ((bOp .and .u64 ((IntKind.u64.wrap ((bOp .and .u64 (x / 2) 6148914691236517205) + (bOp .and .u64 x 6148914691236517205))) / 4) 3689348814741910323) + (bOp .and .u64 (IntKind.u64.wrap ((bOp .and .u64 (x / 2) 6148914691236517205) + (bOp .and .u64 x 6148914691236517205))) 3689348814741910323))) / 16) + (IntKind.u64.wrap ((bOp .and .u64 ((IntKind.u64.wrap ((bOp .and .u64 (x / 2) 6148914691236517205) + (bOp .and .u64 x 6148914691236517205))) / 4) 3689348814741910323) + (bOp .and .u64 (IntKind.u64.wrap ((bOp .and .u64 (x / 2) 6148914691236517205) + (bOp .and .u64 x 6148914691236517205))) 3689348814741910323))))) 1085102592571150095) / 256))) + ((IntKind.u64.wrap ((bOp .and .u64 (IntKind.u64.wrap (((IntKind.u64.wrap ((bOp .and .u64 ((IntKind.u64.wrap ((bOp .and .u64 (x / 2) 6148914691236517205) + (bOp .and .u64 x 6148914691236517205))) / 4) 3689348814741910323) + (bOp .and .u64 (IntKind.u64.wrap ((bOp .and .u64 (x / 2) 6148914691236517205) + (bOp .and .u64 x 6148914691236517205))) 3689348814741910323))) / 16) + (IntKind.u64.wrap ((bOp .and .u64 ((IntKind.u64.wrap ((bOp .and .u64 (x / 2) 6148914691236517205) + (bOp .and .u64 x 6148914691236517205))) / 4) 3689348814741910323) + (bOp .and .u64 (IntKind.u64.wrap ((bOp .and .u64 (x / 2) 6148914691236517205) + (bOp .and .u64 x 6148914691236517205))) 3689348814741910323))))) 1085102592571150095) + ((bOp .and .u64 (IntKind.u64.wrap (((IntKind.u64.wrap ((bOp .and .u64 ((IntKind.u64.wrap ((bOp .and .u64 (x / 2) 6148914691236517205) + (bOp .and .u64 x 6148914691236517205))) / 4) 3689348814741910323) + (bOp .and .u64 (IntKind.u64.wrap ((bOp .and .u64 (x / 2) 6148914691236517205) + (bOp .and .u64 x 6148914691236517205))) 3689348814741910323))) / 16) + (IntKind.u64.wrap ((bOp .and .u64 ((IntKind.u64.wrap ((bOp .and .u64 (x / 2) 6148914691236517205) + (bOp .and .u64 x 6148914691236517205))) / 4) 3689348814741910323) + (bOp .and .u64 (IntKind.u64.wrap ((bOp .and .u64 (x / 2) 6148914691236517205) + (bOp .and .u64 x 6148914691236517205))) 3689348814741910323))))) 1085102592571150095) / 256))) / 65536))))] (by kernel_rfl) ?_
 refine ix rfl (det_shr (c := (IntKind.u64.wrap ((IntKind.u64.wrap ((bOp .and .u64 (IntKind.u64.wrap (((IntKind.u64.wrap ((bOp .and .u64 ((IntKind.u64.wrap ((bOp .and .u64 (x / 2) 6148914691236517205) + (bOp .and .u64 x 6148914691236517205))) / 4) 3689348814741910323) + (bOp .and .u64 (IntKind.u64.wrap ((bOp .and .u64 (x / 2) 6148914691236517205) + (bOp .and .u64 x 6148914691236517205))) 3689348814741910323))) / 16) + (IntKind.u64.wrap ((bOp .and .u64 ((IntKind.u64.wrap ((bOp .and .u64 (x / 2) 6148914691236517205) + (bOp .and .u64 x 6148914691236517205))) / 4) 3689348814741910323) + (bOp .and .u64 (IntKind.u64.wrap ((bOp .and .u64 (x / 2) 6148914691236517205) + (bOp .and .u64 x 6148914691236517205))) 3689348814741910323))))) 1085102592571150095) + ((bOp .and .u64 (IntKind.u64.wrap (((IntKind.u64.wrap ((bOp .and .u64 ((IntKind.u64.wrap ((bOp .and .u64 (x / 2) 6148914691236517205) + (bOp .and .u64 x 6148914691236517205))) / 4) 3689348814741910323) + (bOp .and .u64 (IntKind.u64.wrap ((bOp .and .u64 (x / 2) 6148914691236517205) + (bOp .and .u64 x 6148914691236517205))) 3689348814741910323))) / 16) + (IntKind.u64.wrap ((bOp .and .u64 ((IntKind.u64.wrap ((bOp .and .u64 (x / 2) 6148914691236517205) + (bOp .and .u64 x 6148914691236517205))) / 4) 3689348814741910323) + (bOp .and .u64 (IntKind.u64.wrap ((bOp .and .u64 (x / 2) 6148914691236517205) + (bOp .and .u64 x 6148914691236517205))) 3689348814741910323))))) 1085102592571150095) / 256))) + ((IntKind.u64.wrap ((bOp .and .u64 (IntKind.u64.wrap (((IntKind.u64.wrap ((bOp .and .u64 ((IntKind.u64.wrap ((bOp .and .u64 (x / 2) 6148914691236517205) + (bOp .and .u64 x 6148914691236517205))) / 4) 3689348814741910323) + (bOp .and .u64 (IntKind.u64.wrap ((bOp .and .u64 (x / 2) 6148914691236517205) + (bOp .and .u64 x 6148914691236517205))) 3689348814741910323))) / 16) + (IntKind.u64.wrap ((bOp .and .u64 ((IntKind.u64.wrap ((bOp .and .u64 (x / 2) 6148914691236517205) + (bOp .and .u64 x 6148914691236517205))) / 4) 3689348814741910323) + (bOp .and .u64 (IntKind.u64.wrap ((bOp .and .u64 (x / 2) 6148914691236517205) + (bOp .and .u64 x 6148914691236517205))) 3689348814741910323))))) 1085102592571150095) + ((bOp .and .u64 (IntKind.u64.wrap (((IntKind.u64.wrap ((bOp .and .u64 ((IntKind.u64.wrap ((bOp .and .u64 (x / 2) 6148914691236517205) + (bOp .and .u64 x 6148914691236517205))) / 4) 3689348814741910323) + (bOp .and .u64 (IntKind.u64.wrap ((bOp .and .u64 (x / 2) 6148914691236517205) + (bOp .and .u64 x 6148914691236517205))) 3689348814741910323))) / 16) + (IntKind.u64.wrap ((bOp .and .u64 ((IntKind.u64.wrap ((bOp .and .u64 (x / 2) 6148914691236517205) + (bOp .and .u64 x 6148914691236517205))) / 4) 3689348814741910323) + (bOp .and .u64 (IntKind.u64.wrap ((bOp .and .u64 (x / 2) 6148914691236517205) + (bOp .and .u64 x 6148914691236517205))) 3689348814741910323))))) 1085102592571150095) / 256))) / 65536))) / 4294967296) rfl rfl rfl (by decide) (by simp [Int.fdiv_eq_ediv_of_nonneg, IntKind.bits])) ?_
 refine ip 2 0 [(0, .int .u64 (IntKind.u64.wrap ((IntKind.u64.wrap ((IntKind.u64.wrap ((bOp .and .u64 (IntKind.u64.wrap (((IntKind.u64.wrap ((bOp .and .u64 ((IntKind.u64.wrap ((bOp .and .u64 (x / 2) 6148914691236517205) + (bOp .and .u64 x 6148914691236517205))) / 4) 3689348814741910323) + (bOp .and .u64 (IntKind.u64.wrap ((bOp .and .u64 (x / 2) 6148914691236517205) + (bOp .and .u64 x 6148914691236517205))) 3689348814741910323))) / 16) + (IntKind.u64.wrap ((bOp .and .u64 ((IntKind.u64.wrap ((bOp .and .u64 (x / 2) 6148914691236517205) + (bOp .and .u64 x 6148914691236517205))) / 4) 3689348814741910323) + (bOp .and .u64 (IntKind.u64.wrap ((bOp .and .u64 (x / 2) 6148914691236517205) + (bOp .and .u64 x 6148914691236517205))) 3689348814741910323))))) 1085102592571150095) + ((bOp .and .u64 (IntKind.u64.wrap (((IntKind.u64.wrap ((bOp .and .u64 ((IntKind.u64.wrap ((bOp .and .u64 (x / 2) 6148914691236517205) + (bOp .and .u64 x 6148914691236517205))) / 4) 3689348814741910323) + (bOp .and .u64 (IntKind.u64.wrap ((bOp .and .u64 (x / 2) 6148914691236517205) + (bOp .and .u64 x 6148914691236517205))) 3689348814741910323))) / 16) + (IntKind.u64.wrap ((bOp .and .u64 ((IntKind.u64.wrap ((bOp .and .u64 (x / 2) 6148914691236517205) + (bOp .and .u64 x 6148914691236517205))) / 4) 3689348814741910323) + (bOp .and .u64 (IntKind.u64.wrap ((bOp .and .u64 (x / 2) 6148914691236517205) + (bOp .and .u64 x 6148914691236517205))) 3689348814741910323))))) 1085102592571150095) / 256))) + ((IntKind.u64.wrap ((bOp .and .u64 (IntKind.u64.wrap (((IntKind.u64.wrap ((bOp .and .u64 ((IntKind.u64.wrap ((bOp .and .u64 (x / 2) 6148914691236517205) + (bOp .and .u64 x 6148914691236517205))) / 4) 3689348814741910323) + (bOp .and .u64 (IntKind.u64.wrap ((bOp .and .u64 (x / 2) 6148914691236517205) + (bOp .and .u64 x 6148914691236517205))) 3689348814741910323))) / 16) + (IntKind.u64.wrap ((bOp .and .u64 ((IntKind.u64.wrap ((bOp .and .u64 (x / 2) 6148914691236517205) + (bOp .and .u64 x 6148914691236517205))) / 4) 3689348814741910323) + (bOp .and .u64 (IntKind.u64.wrap ((bOp .and .u64 (x / 2) 6148914691236517205) + (bOp .and .u64 x 6148914691236517205))) 3689348814741910323))))) 1085102592571150095) + ((bOp .and .u64 (IntKind.u64.wrap (((IntKind.u64.wrap ((bOp .and .u64 ((IntKind.u64.wrap ((bOp .and .u64 (x / 2) 6148914691236517205) + (bOp .and .u64 x 6148914691236517205))) / 4) 3689348814741910323) + (bOp .and .u64 (IntKind.u64.wrap ((bOp .and .u64 (x / 2) 6148914691236517205) + (bOp .and .u64 x 6148914691236517205))) 3689348814741910323))) / 16) + (IntKind.u64.wrap ((bOp .and .u64 ((IntKind.u64.wrap ((bOp .and .u64 (x / 2) 6148914691236517205) + (bOp .and .u64 x 6148914691236517205))) / 4) 3689348814741910323) + (bOp .and .u64 (IntKind.u64.wrap ((bOp .and .u64 (x / 2) 6148914691236517205) + (bOp .and .u64 x 6148914691236517205))) 3689348814741910323))))) 1085102592571150095) / 256))) / 65536))) + ((IntKind.u64.wrap ((IntKind.u64.wrap ((bOp .and .u64 (IntKind.u64.wrap (((IntKind.u64.wrap ((bOp .and .u64 ((IntKind.u64.wrap ((bOp .and .u64 (x / 2) 6148914691236517205) + (bOp .and .u64 x 6148914691236517205))) / 4) 3689348814741910323) + (bOp .and .u64 (IntKind.u64.wrap ((bOp .and .u64 (x / 2) 6148914691236517205) + (bOp .and .u64 x 6148914691236517205))) 3689348814741910323))) / 16) + (IntKind.u64.wrap ((bOp .and .u64 ((IntKind.u64.wrap ((bOp .and .u64 (x / 2) 6148914691236517205) + (bOp .and .u64 x 6148914691236517205))) / 4) 3689348814741910323) + (bOp .and .u64 (IntKind.u64.wrap ((bOp .and .u64 (x / 2) 6148914691236517205) + (bOp .and .u64 x 6148914691236517205))) 3689348814741910323))))) 1085102592571150095) + ((bOp .and .u64 (IntKind.u64.wrap (((IntKind.u64.wrap ((bOp .and .u64 ((IntKind.u64.wrap ((bOp .and .u64 (x / 2) 6148914691236517205) + (bOp .and .u64 x 6148914691236517205))) / 4) 3689348814741910323) + (bOp .and .u64 (IntKind.u64.wrap ((bOp .and .u64 (x / 2) 6148914691236517205) + (bOp .and .u64 x 6148914691236517205))) 3689348814741910323))) / 16) + (IntKind.u64.wrap ((bOp .and .u64 ((IntKind.u64.wrap ((bOp .and .u64 (x / 2) 6148914691236517205) + (bOp .and .u64 x 6148914691236517205))) / 4) 3689348814741910323) + (bOp .and .u64 (IntKind.u64.wrap ((bOp .and .u64 (x / 2) 6148914691236517205) + (bOp .and .u64 x 6148914691236517205))) 3689348814741910323))))) 1085102592571150095) / 256))) + ((IntKind.u64.wrap ((bOp .and .u64 (IntKind.u64.wrap (((IntKind.u64.wrap ((bOp .and .u64 ((IntKind.u64.wrap ((bOp .and .u64 (x / 2) 6148914691236517205) + (bOp .and .u64 x 6148914691236517205))) / 4) 3689348814741910323) + (bOp .and .u64 (IntKind.u64.wrap ((bOp .and .u64 (x / 2) 6148914691236517205) + (bOp .and .u64 x 6148914691236517205))) 3689348814741910323))) / 16) + (IntKind.u64.wrap ((bOp .and .u64 ((IntKind.u64.wrap ((bOp .and .u64 (x / 2) 6148914691236517205) + (bOp .and .u64 x 6148914691236517205))) / 4) 3689348814741910323) + (bOp .and .u64 (IntKind.u64.wrap ((bOp .and .u64 (x / 2) 6148914691236517205) + (bOp .and .u64 x 6148914691236517205))) 3689348814741910323))))) 1085102592571150095) + ((bOp .and .u64 (IntKind.u64.wrap (((IntKind.u64.wrap ((bOp .and .u64 ((IntKind.u64.wrap ((bOp .and .u64 (x / 2) 6148914691236517205) + (bOp .and .u64 x 6148914691236517205))) / 4) 3689348814741910323) + (bOp .and .u64 (IntKind.u64.wrap ((bOp .and .u64 (x / 2) 6148914691236517205) + (bOp .and .u64 x 6148914691236517205))) 3689348814741910323))) / 16) + (IntKind.u64.wrap ((bOp .and .u64 ((IntKind.u64.wrap ((bOp .and .u64 (x / 2) 6148914691236517205) + (bOp .and .u64 x 6148914691236517205))) / 4) 3689348814741910323) + (bOp .and .u64 (IntKind.u64.wrap ((bOp .and .u64 (x / 2) 6148914691236517205) + (bOp .and .u64 x 6148914691236517205))) 3689348814741910323))))) 1085102592571150095) / 256))) / 65536))) / 4294967296))))] (by kernel_rfl) ?_
 refine ie ?_
 refine sr 4 rfl ?_
 refine ip 4 0 [(2, iv (bOp .and .i64 (IntKind.i64.wrap (IntKind.u64.wrap ((IntKind.u64.wrap ((IntKind.u64.wrap ((bOp .and .u64 (IntKind.u64.wrap (((IntKind.u64.wrap ((bOp .and .u64 ((IntKind.u64.wrap ((bOp .and .u64 (x / 2) 6148914691236517205) + (bOp .and .u64 x 6148914691236517205))) / 4) 3689348814741910323) + (bOp .and .u64 (IntKind.u64.wrap ((bOp .and .u64 (x / 2) 6148914691236517205) + (bOp .and .u64 x 6148914691236517205))) 3689348814741910323))) / 16) + (IntKind.u64.wrap ((bOp .and .u64 ((IntKind.u64.wrap ((bOp .and .u64 (x / 2) 6148914691236517205) + (bOp .and .u64 x 6148914691236517205))) / 4) 3689348814741910323) + (bOp .and .u64 (IntKind.u64.wrap ((bOp .and .u64 (x / 2) 6148914691236517205) + (bOp .and .u64 x 6148914691236517205))) 3689348814741910323))))) 1085102592571150095) + ((bOp .and .u64 (IntKind.u64.wrap (((IntKind.u64.wrap ((bOp .and .u64 ((IntKind.u64.wrap ((bOp .and .u64 (x / 2) 6148914691236517205) + (bOp .and .u64 x 6148914691236517205))) / 4) 3689348814741910323) + (bOp .and .u64 (IntKind.u64.wrap ((bOp .and .u64 (x / 2) 6148914691236517205) + (bOp .and .u64 x 6148914691236517205))) 3689348814741910323))) / 16) + (IntKind.u64.wrap ((bOp .and .u64 ((IntKind.u64.wrap ((bOp .and .u64 (x / 2) 6148914691236517205) + (bOp .and .u64 x 6148914691236517205))) / 4) 3689348814741910323) + (bOp .and .u64 (IntKind.u64.wrap ((bOp .and .u64 (x / 2) 6148914691236517205) + (bOp .and .u64 x 6148914691236517205))) 3689348814741910323))))) 1085102592571150095) / 256))) + ((IntKind.u64.wrap ((bOp .and .u64 (IntKind.u64.wrap (((IntKind.u64.wrap ((bOp .and .u64 ((IntKind.u64.wrap ((bOp .and .u64 (x / 2) 6148914691236517205) + (bOp .and .u64 x 6148914691236517205))) / 4) 3689348814741910323) + (bOp .and .u64 (IntKind.u64.wrap ((bOp .and .u64 (x / 2) 6148914691236517205) + (bOp .and .u64 x 6148914691236517205))) 3689348814741910323))) / 16) + (IntKind.u64.wrap ((bOp .and .u64 ((IntKind.u64.wrap ((bOp .and .u64 (x / 2) 6148914691236517205) + (bOp .and .u64 x 6148914691236517205))) / 4) 3689348814741910323) + (bOp .and .u64 (IntKind.u64.wrap ((bOp .and .u64 (x / 2) 6148914691236517205) + (bOp .and .u64 x 6148914691236517205))) 3689348814741910323))))) 1085102592571150095) + ((bOp .and .u64 (IntKind.u64.wrap (((IntKind.u64.wrap ((bOp .and .u64 ((IntKind.u64.wrap ((bOp .and .u64 (x / 2) 6148914691236517205) + (bOp .and .u64 x 6148914691236517205))) / 4) 3689348814741910323) + (bOp .and .u64 (IntKind.u64.wrap ((bOp .and .u64 (x / 2) 6148914691236517205) + (bOp .and .u64 x 6148914691236517205))) 3689348814741910323))) / 16) + (IntKind.u64.wrap ((bOp .and .u64 ((IntKind.u64.wrap ((bOp .and .u64 (x / 2) 6148914691236517205) + (bOp .and .u64 x 6148914691236517205))) / 4) 3689348814741910323) + (bOp .and .u64 (IntKind.u64.wrap ((bOp .and .u64 (x / 2) 6148914691236517205) + (bOp .and .u64 x 6148914691236517205))) 3689348814741910323))))) 1085102592571150095) / 256))) / 65536))) + ((IntKind.u64.wrap ((IntKind.u64.wrap ((bOp .and .u64 (IntKind.u64.wrap (((IntKind.u64.wrap ((bOp .and .u64 ((IntKind.u64.wrap ((bOp .and .u64 (x / 2) 6148914691236517205) + (bOp .and .u64 x 6148914691236517205))) / 4) 3689348814741910323) + (bOp .and .u64 (IntKind.u64.wrap ((bOp .and .u64 (x / 2) 6148914691236517205) + (bOp .and .u64 x 6148914691236517205))) 3689348814741910323))) / 16) + (IntKind.u64.wrap ((bOp .and .u64 ((IntKind.u64.wrap ((bOp .and .u64 (x / 2) 6148914691236517205) + (bOp .and .u64 x 6148914691236517205))) / 4) 3689348814741910323) + (bOp .and .u64 (IntKind.u64.wrap ((bOp .and .u64 (x / 2) 6148914691236517205) + (bOp .and .u64 x 6148914691236517205))) 3689348814741910323))))) 1085102592571150095) + ((bOp .and .u64 (IntKind.u64.wrap (((IntKind.u64.wrap ((bOp .and .u64 ((IntKind.u64.wrap ((bOp .and .u64 (x / 2) 6148914691236517205) + (bOp .and .u64 x 6148914691236517205))) / 4) 3689348814741910323) + (bOp .and .u64 (IntKind.u64.wrap ((bOp .and .u64 (x / 2) 6148914691236517205) + (bOp .and .u64 x 6148914691236517205))) 3689348814741910323))) / 16) + (IntKind.u64.wrap ((bOp .and .u64 ((IntKind.u64.wrap ((bOp .and .u64 (x / 2) 6148914691236517205) + (bOp .and .u64 x 6148914691236517205))) / 4) 3689348814741910323) + (bOp .and .u64 (IntKind.u64.wrap ((bOp .and .u64 (x / 2) 6148914691236517205) + (bOp .and .u64 x 6148914691236517205))) 3689348814741910323))))) 1085102592571150095) / 256))) + ((IntKind.u64.wrap ((bOp .and .u64 (IntKind.u64.wrap (((IntKind.u64.wrap ((bOp .and .u64 ((IntKind.u64.wrap ((bOp .and .u64 (x / 2) 6148914691236517205) + (bOp .and .u64 x 6148914691236517205))) / 4) 3689348814741910323) + (bOp .and .u64 (IntKind.u64.wrap ((bOp .and .u64 (x / 2) 6148914691236517205) + (bOp .and .u64 x 6148914691236517205))) 3689348814741910323))) / 16) + (IntKind.u64.wrap ((bOp .and .u64 ((IntKind.u64.wrap ((bOp .and .u64 (x / 2) 6148914691236517205) + (bOp .and .u64 x 6148914691236517205))) / 4) 3689348814741910323) + (bOp .and .u64 (IntKind.u64.wrap ((bOp .and .u64 (x / 2) 6148914691236517205) + (bOp .and .u64 x 6148914691236517205))) 3689348814741910323))))) 1085102592571150095) + ((bOp .and .u64 (IntKind.u64.wrap (((IntKind.u64.wrap ((bOp .and .u64 ((IntKind.u64.wrap ((bOp .and .u64 (x / 2) 6148914691236517205) + (bOp .and .u64 x 6148914691236517205))) / 4) 3689348814741910323) + (bOp .and .u64 (IntKind.u64.wrap ((bOp .and .u64 (x / 2) 6148914691236517205) + (bOp .and .u64 x 6148914691236517205))) 3689348814741910323))) / 16) + (IntKind.u64.wrap ((bOp .and .u64 ((IntKind.u64.wrap ((bOp .and .u64 (x / 2) 6148914691236517205) + (bOp .and .u64 x 6148914691236517205))) / 4) 3689348814741910323) + (bOp .and .u64 (IntKind.u64.wrap ((bOp .and .u64 (x / 2) 6148914691236517205) + (bOp .and .u64 x 6148914691236517205))) 3689348814741910323))))) 1085102592571150095) / 256))) / 65536))) / 4294967296)))) 127))] (by kernel_rfl) ?_
 refine ie ?_
 refine J_ret ?_
 subst hR
 exact ends_ret rfl ⟨hr, hD⟩ (by simp [hD]) (res1 rfl (resV_tmp rfl)) () (by rfl) (mk [] rfl) Foll.nil

def math_bits_OnesCount (x : Int) : Int :=
 (math_bits_OnesCount64 x)

theorem math_bits_OnesCount_c (x : Int) (R : Int) (hR : math_bits_OnesCount x = R) : ConV Tryz.prog 216 [.int .u64 x] [] (iv R) := by
 refine con_of_J (n := 8) Tryz.func216 rfl (by kernel_rfl) rfl rfl [(0, .int .u64 x)] ⟨rfl, trivial⟩ fun X hX hr hD => ?_
 replace hR := (math_bits_OnesCount.eq_1 ..).symm.trans hR
 refine sr 1 rfl ?_
 refine ip 1 0 [] (by kernel_rfl) ?_
 refine ie ?_
 refine J_seq ?_
 refine J_no rfl ?_
 refine J_skip ?_
 refine nx ?_
 refine sr 3 rfl ?_
 refine ip 1 2 [(6, .int .u64 x)] (by kernel_rfl) ?_
 refine ixc rfl (det_call (math_bits_OnesCount64_c x _ rfl) rfl rfl rfl rfl rfl Foll.nil) ?_
 refine ip 1 0 [(2, iv (math_bits_OnesCount64 x))] (by kernel_rfl) ?_
 refine ie ?_
 refine J_ret ?_
 subst hR
 exact ends_ret rfl ⟨hr, hD⟩ (by simp [hD]) (res1 rfl (resV_tmp rfl)) () (by rfl) (mk [] rfl) Foll.nil

def style_one (m : Int) : Bool :=
 ((decide ((bOp .andNot .i64 m 255) = 0)) && (decide ((math_bits_OnesCount (IntKind.u64.wrap m)) = 1)))

theorem style_one_c (m : Int) (R : Bool) (hR : style_one m = R) : ConV Tryz.prog 178 [iv m] [] (bv R) := by
 refine con_of_J (n := 12) Tryz.func178 rfl (by kernel_rfl) rfl rfl [(0, iv m)] ⟨rfl, trivial⟩ fun X hX hr hD => ?_
 replace hR := (style_one.eq_1 ..).symm.trans hR
 refine sr 1 rfl ?_
 refine ip 1 0 [] (by kernel_rfl) ?_
 refine ie ?_
 refine sr 10 rfl ?_
 refine ip 4 6 [(6, bv (decide ((bOp .andNot .i64 m 255) = 0)))] (by kernel_rfl) ?_
 refine iand 5 1 6 11 (decide ((math_bits_OnesCount (IntKind.u64.wrap m)) = 1)) rfl (by kernel_rfl) (fun g1 => ?_) ?_
 ·have g1p : (bOp .andNot .i64 m 255) = 0 := by simpa using g1
  refine ip 2 3 [(8, .int .u64 (IntKind.u64.wrap m))] (by kernel_rfl) ?_
  refine ixc rfl (det_call (math_bits_OnesCount_c (IntKind.u64.wrap m) _ rfl) rfl rfl rfl rfl rfl Foll.nil) ?_
  refine ip 2 0 [(11, bv (decide ((math_bits_OnesCount (IntKind.u64.wrap m)) = 1)))] (by kernel_rfl) ?_
  exact JI_end (armI 4 6 11 g1 Foll.nil (mk [] rfl) rfl rfl rfl rfl rfl)
 refine ip 1 0 [(2, bv ((decide ((bOp .andNot .i64 m 255) = 0)) && (decide ((math_bits_OnesCount (IntKind.u64.wrap m)) = 1))))] (by kernel_rfl) ?_
 refine ie ?_
 refine J_ret ?_
 subst hR
 exact ends_ret rfl ⟨hr, hD⟩ (by simp [hD]) (res1 rfl (resV_tmp rfl)) () (by rfl) (mk [] rfl) Foll.nil

def style_pens_4 (m : Int) : Bool :=
 ((decide (m = 3)) || ((style_one m) && (decide ((bOp .and .i64 m 3) = 0))))

theorem style_pens_4_c (m : Int) (R : Bool) (hR : style_pens_4 m = R) : ConV Tryz.prog 180 [iv m] [] (bv R) := by
 refine con_of_J (n := 14) Tryz.func180 rfl (by kernel_rfl) rfl rfl [(0, iv m)] ⟨rfl, trivial⟩ fun X hX hr hD => ?_
 replace hR := (style_pens_4.eq_1 ..).symm.trans hR
 refine sr 1 rfl ?_
 refine ip 1 0 [] (by kernel_rfl) ?_
 refine ie ?_
 refine sr 12 rfl ?_
 refine ip 3 9 [(5, bv (decide (m = 3)))] (by kernel_rfl) ?_
 refine ior 8 1 5 13 ((style_one m) && (decide ((bOp .and .i64 m 3) = 0))) rfl (by kernel_rfl) (fun g1 => ?_) ?_
 ·have g1p : ¬ (m = 3) := by simpa using g1
  refine ip 1 7 [(6, iv m)] (by kernel_rfl) ?_
  refine ixc rfl (det_call (style_one_c m _ rfl) rfl rfl rfl rfl rfl Foll.nil) ?_
  refine ip 1 5 [(8, bv (style_one m))] (by kernel_rfl) ?_
  refine iand 4 1 8 12 (decide ((bOp .and .i64 m 3) = 0)) rfl (by kernel_rfl) (fun g2 => ?_) ?_
  ·refine ip 4 0 [(12, bv (decide ((bOp .and .i64 m 3) = 0)))] (by kernel_rfl) ?_
   exact JI_end (armI 2 8 12 g2 Foll.nil (mk [] rfl) rfl rfl rfl rfl rfl)
  refine ip 1 0 [(13, bv ((style_one m) && (decide ((bOp .and .i64 m 3) = 0))))] (by kernel_rfl) ?_
  exact JI_end (armI 6 5 13 g1 Foll.nil (mk [] rfl) rfl rfl rfl rfl rfl)
 refine ip 1 0 [(2, bv ((decide (m = 3)) || ((style_one m) && (decide ((bOp .and .i64 m 3) = 0)))))] (by kernel_rfl) ?_
 refine ie ?_
 refine J_ret ?_
 subst hR
 exact ends_ret rfl ⟨hr, hD⟩ (by simp [hD]) (res1 rfl (resV_tmp rfl)) () (by rfl) (mk [] rfl) Foll.nil

def style_pens_6 (m : Int) : Bool :=
 ((decide ((0 : Int) ≤ m)) && (decide (m ≤ 5)))

theorem style_pens_6_c (m : Int) (R : Bool) (hR : style_pens_6 m = R) : ConV Tryz.prog 182 [iv m] [] (bv R) := by
 refine con_of_J (n := 9) Tryz.func182 rfl (by kernel_rfl) rfl rfl [(0, iv m)] ⟨rfl, trivial⟩ fun X hX hr hD => ?_
 replace hR := (style_pens_6.eq_1 ..).symm.trans hR
 refine sr 1 rfl ?_
 refine ip 1 0 [] (by kernel_rfl) ?_
 refine ie ?_
 refine sr 7 rfl ?_
 refine ip 3 4 [(5, bv (decide ((0 : Int) ≤ m)))] (by kernel_rfl) ?_
 refine iand 3 1 5 8 (decide (m ≤ 5)) rfl (by kernel_rfl) (fun g1 => ?_) ?_
 ·have g1p : (0 : Int) ≤ m := by simpa using g1
  refine ip 3 0 [(8, bv (decide (m ≤ 5)))] (by kernel_rfl) ?_
  exact JI_end (armI 2 5 8 g1 Foll.nil (mk [] rfl) rfl rfl rfl rfl rfl)
 refine ip 1 0 [(2, bv ((decide ((0 : Int) ≤ m)) && (decide (m ≤ 5))))] (by kernel_rfl) ?_
 refine ie ?_
 refine J_ret ?_
 subst hR
 exact ends_ret rfl ⟨hr, hD⟩ (by simp [hD]) (res1 rfl (resV_tmp rfl)) () (by rfl) (mk [] rfl) Foll.nil

def ktab0_0_s (k : Int) (x0 : Int) : Bool :=
 (bif (decide (k = 0)) then (style_zero x0) else (bif (decide (k = 1)) then (style_one x0) else (bif (decide (k = 2)) then (style_pens_4 x0) else (bif (decide (k = 3)) then (style_pens_6 x0) else (bif (decide (k = 4)) then (style_zero x0) else (bif (decide (k = 5)) then (style_zero x0) else (bif (decide (k = 6)) then (style_zero x0) else false)))))))

theorem ktab0_0_s_c (k : Int) (x0 : Int) (hk : hasK k ktab0_0 = true) (R : Bool) (hR : ktab0_0_s k x0 = R) : CallV Tryz.prog (lkV k .nilFunc ktab0_0) [iv x0] [] (bv R) := by
 subst hR
 unfold ktab0_0_s
 unfold ktab0_0 at *
 refine CallV.cons (fun r => bv r) hk (fun e => ?_) (fun hk e => ?_)
 ·exact CallV.of (style_zero_c x0 _ rfl) rfl Foll.nil
 refine CallV.cons (fun r => bv r) hk (fun e => ?_) (fun hk e => ?_)
 ·exact CallV.of (style_one_c x0 _ rfl) rfl Foll.nil
 refine CallV.cons (fun r => bv r) hk (fun e => ?_) (fun hk e => ?_)
 ·exact CallV.of (style_pens_4_c x0 _ rfl) rfl Foll.nil
 refine CallV.cons (fun r => bv r) hk (fun e => ?_) (fun hk e => ?_)
 ·exact CallV.of (style_pens_6_c x0 _ rfl) rfl Foll.nil
 refine CallV.cons (fun r => bv r) hk (fun e => ?_) (fun hk e => ?_)
 ·exact CallV.of (style_zero_c x0 _ rfl) rfl Foll.nil
 refine CallV.cons (fun r => bv r) hk (fun e => ?_) (fun hk e => ?_)
 ·exact CallV.of (style_zero_c x0 _ rfl) rfl Foll.nil
 refine CallV.cons (fun r => bv r) hk (fun e => ?_) (fun hk e => ?_)
 ·exact CallV.of (style_zero_c x0 _ rfl) rfl Foll.nil
 exact CallV.nil hk

def color_limits : Ar3 :=
 { Ar3.zero with b := 255, c := 16777215 }

theorem color_limits_c (R : Ar3) (hR : color_limits = R) : ConV Tryz.prog 134 [] [] (ag (cAr3 R)) := by
 refine con_of_J (n := 2) Tryz.func134 rfl (by kernel_rfl) rfl rfl [] trivial fun X hX hr hD => ?_
 replace hR := (color_limits.eq_1 ..).symm.trans hR
 refine sr 1 rfl ?_
 refine it rfl (tri_alloc (cs := cAr3 Ar3.zero) zero189 rfl) fun b1 => ?_
 refine ie ?_
 refine sr 2 rfl ?_
 refine ix rfl (det_build (cs := cAr3 ({ Ar3.zero with b := 255, c := 16777215 })) rfl rfl (by kernel_rfl)) ?_
 refine it rfl (tri_store (us := cAr3 ({ Ar3.zero with b := 255, c := 16777215 })) (cs' := cAr3 ({ Ar3.zero with b := 255, c := 16777215 })) ty189 rfl rfl rfl 0 rfl rfl rfl rfl rfl rfl) fun _ => ?_
 refine ie ?_
 refine J_ret ?_
 subst hR
 exact ends_ret rfl ⟨hr, hD⟩ (by simp [hD]) (res1 rfl (resV_cell (us := cAr3 ({ Ar3.zero with b := 255, c := 16777215 })) ty189 rfl 0 rfl rfl rfl)) () (by rfl) (mk [false] rfl) Foll.nil

def color_Check (c : Col) : Int :=
 (bif ((((decide (c.kind < 0)) || (decide ((3 : Int) ≤ c.kind))) || (decide (c.n < 0))) || (decide ((([color_limits.a, color_limits.b, color_limits.c] : List Int).getD ((c.kind).toNat) 0) < c.n))) then 130 else 0)

theorem color_Check_c (c : Col) (R : Int) (hR : color_Check c = R) : ConV Tryz.prog 81 [ag (cCol c)] [] (iv R) := by
 refine con_of_J (n := 27) Tryz.func81 rfl (by kernel_rfl) rfl rfl [(0, ag (cCol c))] ⟨rfl, trivial⟩ fun X hX hr hD => ?_
 replace hR := (color_Check.eq_1 ..).symm.trans hR
 refine sr 2 rfl ?_
 refine it rfl (tri_box (cs := cCol c) rfl rfl rfl) fun b1 => ?_
 refine ip 1 0 [] (by kernel_rfl) ?_
 refine ie ?_
 refine J_seq ?_
 refine sr 3 rfl ?_
 refine ixc rfl (det_call (color_limits_c _ rfl) rfl rfl rfl rfl rfl Foll.nil) ?_
 refine it rfl (tri_alloc (cs := cAr3 Ar3.zero) zero189 rfl) fun b2 => ?_
 refine it rfl (tri_store (us := cAr3 color_limits) (cs' := cAr3 color_limits) ty189 rfl rfl rfl 0 rfl rfl rfl rfl rfl rfl) fun _ => ?_
 refine ie ?_
 refine sd 22 rfl (by kernel_rfl) rfl ?_
 refine dp 1 21 [(5, pt b1 0)] (by kernel_rfl) ?_
 refine dd rfl (det_own_one (v := iv c.kind) ty3 rfl rfl 1 rfl rfl) ?_
 refine dp 2 18 [(8, bv (decide (c.kind < 0)))] (by kernel_rfl) ?_
 refine dor 4 14 8 12 (decide ((3 : Int) ≤ c.kind)) rfl (by kernel_rfl) (fun g3 => ?_) ?_
 ·have g3p : ¬ (c.kind < 0) := by simpa using g3
  refine dp 1 3 [(9, pt b1 0)] (by kernel_rfl) ?_
  refine dd rfl (det_own_one (v := iv c.kind) ty3 rfl rfl 1 rfl rfl) ?_
  refine dp 2 0 [(12, bv (decide ((3 : Int) ≤ c.kind)))] (by kernel_rfl) ?_
  exact JD_end (armD 4 8 12 g3 rfl rfl rfl rfl rfl)
 refine dp 1 13 [(13, bv ((decide (c.kind < 0)) || (decide ((3 : Int) ≤ c.kind))))] (by kernel_rfl) ?_
 refine dor 4 9 13 17 (decide (c.n < 0)) rfl (by kernel_rfl) (fun g4 => ?_) ?_
 ·have g4p : ¬ ((c.kind < 0) ∨ ((3 : Int) ≤ c.kind)) := by simpa using g4
  refine dp 1 3 [(14, pt b1 1)] (by kernel_rfl) ?_
  refine dd rfl (det_own_one (v := iv c.n) ty3 rfl rfl 1 rfl rfl) ?_
  refine dp 2 0 [(17, bv (decide (c.n < 0)))] (by kernel_rfl) ?_
  exact JD_end (armD 4 13 17 g4 rfl rfl rfl rfl rfl)
 refine dp 1 8 [(18, bv (((decide (c.kind < 0)) || (decide ((3 : Int) ≤ c.kind))) || (decide (c.n < 0))))] (by kernel_rfl) ?_
 refine dor 8 0 18 26 (decide ((([color_limits.a, color_limits.b, color_limits.c] : List Int).getD ((c.kind).toNat) 0) < c.n)) rfl (by kernel_rfl) (fun g5 => ?_) ?_
 ·have g5p : ¬ (((c.kind < 0) ∨ ((3 : Int) ≤ c.kind)) ∨ (c.n < 0)) := by simpa using g5
  refine dp 1 7 [(19, pt b1 1)] (by kernel_rfl) ?_
  refine dd rfl (det_own_one (v := iv c.n) ty3 rfl rfl 1 rfl rfl) ?_
  refine dp 1 5 [(21, pt b1 0)] (by kernel_rfl) ?_
  refine dd rfl (det_own_one (v := iv c.kind) ty3 rfl rfl 1 rfl rfl) ?_
  refine dd rfl (det_ix_ownk Tryz.underlying189 ty3 rfl rfl rfl ((c.kind).toNat) (by omega) (by omega)) ?_
  refine dd rfl (det_vec_one (u := iv (([color_limits.a, color_limits.b, color_limits.c] : List Int).getD ((c.kind).toNat) 0)) (c := cInt) (xs := ([color_limits.a, color_limits.b, color_limits.c] : List Int)) (j := []) (sz := 1) ty3 (fun _ => rfl) rfl rfl 0 rfl ((c.kind).toNat) 0 rfl (gd 0 (by simp only [List.length_cons, List.length_nil]; omega)) rfl) ?_
  refine dp 2 0 [(26, bv (decide ((([color_limits.a, color_limits.b, color_limits.c] : List Int).getD ((c.kind).toNat) 0) < c.n)))] (by kernel_rfl) ?_
  exact JD_end (armD 8 18 26 g5 rfl rfl rfl rfl rfl)
 refine de ?_
 refine J_if rfl (fun h6 => ?_) (fun h6 => ?_)
 ·have h6p : (((c.kind < 0) ∨ ((3 : Int) ≤ c.kind)) ∨ (c.n < 0)) ∨ ((([color_limits.a, color_limits.b, color_limits.c] : List Int).getD ((c.kind).toNat) 0) < c.n) := by simpa using h6
  replace hR := bt hR h6
  refine sr 1 rfl ?_
  refine ip 1 0 [(2, iv 130)] (by kernel_rfl) ?_
  refine ie ?_
  refine J_ret ?_
  subst hR
  exact ends_ret rfl ⟨hr, hD⟩ (by simp [hD]) (res1 rfl (resV_tmp rfl)) () (by rfl) (mk [false, false] rfl) Foll.nil
 ·have h6p : ¬ ((((c.kind < 0) ∨ ((3 : Int) ≤ c.kind)) ∨ (c.n < 0)) ∨ ((([color_limits.a, color_limits.b, color_limits.c] : List Int).getD ((c.kind).toNat) 0) < c.n)) := by simpa using h6
  replace hR := bf hR h6
  refine J_skip ?_
  refine nx ?_
  refine sr 1 rfl ?_
  refine ip 1 0 [(2, iv 0)] (by kernel_rfl) ?_
  refine ie ?_
  refine J_ret ?_
  subst hR
  exact ends_ret rfl ⟨hr, hD⟩ (by simp [hD]) (res1 rfl (resV_tmp rfl)) () (by rfl) (mk [false, false] rfl) Foll.nil

theorem gdE {α : Type} {l : List α} {k : Nat} {d : α} (h : k < l.length) : l.getD k d = l[k] := by simp [List.getD_eq_getElem?_getD, h]
theorem gdN {α : Type} {l : List α} {k : Nat} {d : α} (h : ¬ k < l.length) : l.getD k d = d := by simp [List.getD_eq_getElem?_getD, List.getElem?_eq_none (Nat.le_of_not_lt h)]
theorem lkV_one {k : Int} {z : Value} : ∀ {l : List (Int × Value)}, z.oneCell' = true → (l.all fun p => p.2.oneCell') = true → (lkV k z l).oneCell' = true
 | [], hz, _ => hz
 | (a, v) :: l, hz, h => by
  simp only [List.all_cons, Bool.and_eq_true] at h
  unfold lkV
  cases decide (k = a) with
  | true => exact h.1
  | false => exact lkV_one hz h.2

def style_CheckPen (a : Act) : Int :=
 (bif ((((!(hasK a.n ktab0_0)) || (!decide (a.kind = 39))) || (!(decide (a.text = ([] : List UInt8))))) || (!(ktab0_0_s a.n a.m))) then 141 else (bif (((!(lkB a.n false ktab0_1)) && (!(decide (a.color = Col.zero)))) || (!decide ((color_Check a.color) = 0))) then 141 else 0))

theorem style_CheckPen_c (a : Act) (R : Int) (hR : style_CheckPen a = R) : ConV Tryz.prog 87 [ag (cAct a)] [] (iv R) := by
 refine con_of_J (n := 47) Tryz.func87 rfl (by kernel_rfl) rfl rfl [(0, ag (cAct a))] ⟨rfl, trivial⟩ fun X hX hr hD => ?_
 replace hR := (style_CheckPen.eq_1 ..).symm.trans hR
 refine sr 2 rfl ?_
 refine it rfl (tri_box (cs := cAct a) rfl rfl rfl) fun b1 => ?_
 refine ip 1 0 [] (by kernel_rfl) ?_
 refine ie ?_
 refine sh 10 [(10, [bx b1 (cAct a) 26])] [] [bx b1 (cAct a) 26] #[false, false, false, false, false, false, false, false, false, false] (by kernel_rfl) rfl (by kernel_rfl) (by kernel_rfl) (by kernel_rfl) (mk [true] rfl) Foll.refl ?_
 refine hpur [1] 9 #[false, true, false, false, false, false, false, false, false, false] [(7, pt b1 1)] (by kernel_rfl) ?_
 refine htak 2 [bx b1 (cAct a) 26] #[false, true, true, false, false, false, false, false, false, false] rfl rfl rfl (by kernel_rfl) (by kernel_rfl) (by kernel_rfl) (det_own_one (v := iv a.n) ty3 rfl rfl 0 rfl rfl) ?_
 refine JH_fork 0 7 (by kernel_rfl) ?_ ?_
 ·refine harm 0 [bx b1 (cAct a) 26] #[true, true, true, false, false, false, false, false, false, false] rfl rfl rfl (by kernel_rfl) (by kernel_rfl) (by kernel_rfl) (tri_callN (L2 := [bx b1 (cAct a) 26]) (style_pens_c _ rfl) rfl rfl rfl rfl rfl Foll.nil (List.Perm.refl _) (fun ⟨b2, b3, b4, b5⟩ => [(b2, .map #[⟨iv 0, ag [.func (.func 175) #[] #[], bv false, .func (.func 177) #[] #[]], 0⟩, ⟨iv 1, ag [.func (.func 178) #[] #[], bv false, .func (.func 179) #[] #[]], 1⟩, ⟨iv 2, ag [.func (.func 180) #[] #[], bv false, .func (.func 181) #[] #[]], 2⟩, ⟨iv 3, ag [.func (.func 182) #[] #[], bv false, .func (.func 183) #[] #[]], 3⟩, ⟨iv 4, ag [.func (.func 175) #[] #[], bv style_pens_1, .func (.func 176) #[] #[pt b3 0]], 4⟩, ⟨iv 5, ag [.func (.func 175) #[] #[], bv style_pens_1a, .func (.func 176) #[] #[pt b4 0]], 5⟩, ⟨iv 6, ag [.func (.func 175) #[] #[], bv style_pens_1b, .func (.func 176) #[] #[pt b5 0]], 6⟩] 7), bx b3 [.func (.func 184) #[] #[]] 248, bx b4 [.func (.func 185) #[] #[]] 248, bx b5 [.func (.func 186) #[] #[]] 248, bx b1 (cAct a) 26]) (fun _ => rfl)) (fun ⟨b2, b3, b4, b5⟩ => (mk [false, false, false, false, true] rfl)) (fun ⟨b2, b3, b4, b5⟩ => Foll.nil) fun ⟨b2, b3, b4, b5⟩ => ?_
  refine JH_fork 3 7 (by kernel_rfl) ?_ ?_
  ·refine harm 3 [bx b1 (cAct a) 26] #[true, true, true, true, false, false, false, false, false, false] rfl rfl rfl (by kernel_rfl) (by kernel_rfl) (by kernel_rfl) (Det.tri (DetR.det (by exact det_conv (det_lookupSo (ktab0 b3 b4 b5) (⟨by kernel_rfl, by kernel_rfl, rfl⟩ : MapTy Tryz.prog 202 3 200 (.int .i64)) rfl rfl rfl 0 rfl (by kernel_rfl) (by kernel_rfl)) (ktab0_both b3 b4 b5 a.n)))) (fun _ => (mk [false, false, false, false, true] rfl)) (fun _ => Foll.nil) fun _ => ?_
   refine hpur [4, 5, 6] 3 #[true, true, true, true, true, true, true, false, false, false] [(10, ag [(lkV a.n .nilFunc ktab0_0), bv (lkB a.n false ktab0_1), (lkV a.n .nilFunc (ktab0_2 b3 b4 b5))]), (11, bv (hasK a.n ktab0_0))] (by kernel_rfl) ?_
   refine hone 7 [bx b1 (cAct a) 26] #[true, true, true, true, true, true, true, true, false, false] rfl rfl rfl (by kernel_rfl) (by kernel_rfl) (by kernel_rfl) (tri_alloc (cs := [.nilFunc, bv false, .nilFunc]) zero200 rfl) (fun b6 => (mk [false, false, false, false, false, true] rfl)) (fun b6 => Foll.nil) fun b6 => ?_
   refine hone 8 [bx b1 (cAct a) 26] #[true, true, true, true, true, true, true, true, true, false] rfl rfl rfl (by kernel_rfl) (by kernel_rfl) (by kernel_rfl) (tri_store (us := [(lkV a.n .nilFunc ktab0_0), bv (lkB a.n false ktab0_1), (lkV a.n .nilFunc (ktab0_2 b3 b4 b5))]) (cs' := [(lkV a.n .nilFunc ktab0_0), bv (lkB a.n false ktab0_1), (lkV a.n .nilFunc (ktab0_2 b3 b4 b5))]) ty200 rfl rfl rfl 0 rfl rfl rfl (by simp only [List.all_cons, List.all_nil, Bool.and_true, Bool.and_eq_true]; exact ⟨lkV_one rfl rfl, rfl, lkV_one rfl rfl⟩) rfl rfl) (fun _ => (mk [false, false, false, false, false, true] rfl)) (fun _ => Foll.nil) fun _ => ?_
   refine hpur [9] 0 #[true, true, true, true, true, true, true, true, true, true] [(4, bv (hasK a.n ktab0_0))] (by kernel_rfl) ?_
   refine hend (by kernel_rfl) ?_
   refine J_seq ?_
   refine sr 20 rfl ?_
   refine ip 3 17 [(14, bv (!(hasK a.n ktab0_0)))] (by kernel_rfl) ?_
   refine ior 4 13 14 18 (!decide (a.kind = 39)) rfl (by kernel_rfl) (fun g7 => ?_) ?_
   ·refine ip 1 3 [(15, pt b1 0)] (by kernel_rfl) ?_
    refine ix rfl (det_own_one (v := iv a.kind) ty3 rfl rfl 5 rfl rfl) ?_
    refine ip 2 0 [(18, bv (!decide (a.kind = 39)))] (by kernel_rfl) ?_
    exact JI_end (armI 4 14 18 g7 Foll.nil (mk [true, true, true, true, true, true] rfl) rfl rfl rfl rfl rfl)
   refine ip 1 12 [(19, bv ((!(hasK a.n ktab0_0)) || (!decide (a.kind = 39))))] (by kernel_rfl) ?_
   refine ior 4 8 19 23 (!(decide (a.text = ([] : List UInt8)))) rfl (by kernel_rfl) (fun g8 => ?_) ?_
   ·have g8p := g8; try simp at g8p
    refine ip 1 3 [(20, pt b1 5)] (by kernel_rfl) ?_
    refine ix rfl (det_own_one (v := sv a.text) ty9 rfl rfl 5 rfl rfl) ?_
    refine ix rfl (det_stne rfl rfl rfl) ?_
    refine ip 1 0 [(23, bv (!(decide (a.text = ([] : List UInt8)))))] (by kernel_rfl) ?_
    exact JI_end (armI 5 19 23 g8 Foll.nil (mk [true, true, true, true, true, true] rfl) rfl rfl rfl rfl rfl)
   refine ip 1 7 [(24, bv (((!(hasK a.n ktab0_0)) || (!decide (a.kind = 39))) || (!(decide (a.text = ([] : List UInt8))))))] (by kernel_rfl) ?_
   refine ior 7 0 24 31 (!(ktab0_0_s a.n a.m)) rfl (by kernel_rfl) (fun g9 => ?_) ?_
   ·have g9p := g9; try simp at g9p
    refine ip 1 6 [(25, pt b6 0)] (by kernel_rfl) ?_
    refine ix rfl (det_own_one (v := (lkV a.n .nilFunc ktab0_0)) ty152 rfl rfl 0 rfl rfl) ?_
    refine ip 1 4 [(27, pt b1 2)] (by kernel_rfl) ?_
    refine ix rfl (det_own_one (v := iv a.m) ty3 rfl rfl 5 rfl rfl) ?_
    refine ixc rfl (det_callV (ktab0_0_s_c a.n a.m (by first | assumption | simp_all) _ rfl) rfl rfl rfl rfl Foll.nil) ?_
    refine ip 2 0 [(31, bv (!(ktab0_0_s a.n a.m)))] (by kernel_rfl) ?_
    exact JI_end (armI 7 24 31 g9 Foll.nil (mk [true, true, true, true, true, true] rfl) rfl rfl rfl rfl rfl)
   refine ie ?_
   refine J_if rfl (fun h10 => ?_) (fun h10 => ?_)
   ·have h10p := h10; try simp at h10p
    replace hR := bt hR h10
    refine sr 1 rfl ?_
    refine ip 1 0 [(2, iv 141)] (by kernel_rfl) ?_
    refine ie ?_
    refine J_ret ?_
    subst hR
    exact ends_ret rfl ⟨hr, hD⟩ (by simp [hD]) (res1 rfl (resV_tmp rfl)) () (by rfl) (mk [false, false, false, false, false, false] rfl) Foll.nil
   ·have h10p := h10; try simp at h10p
    replace hR := bf hR h10
    refine J_skip ?_
    refine nx ?_
    refine J_seq ?_
    refine sr 15 rfl ?_
    refine ip 1 14 [(32, pt b6 1)] (by kernel_rfl) ?_
    refine ix rfl (det_own_one (v := bv (lkB a.n false ktab0_1)) ty4 rfl rfl 0 rfl rfl) ?_
    refine ip 2 11 [(35, bv (!(lkB a.n false ktab0_1)))] (by kernel_rfl) ?_
    refine iand 5 6 35 40 (!(decide (a.color = Col.zero))) rfl (by kernel_rfl) (fun g11 => ?_) ?_
    ·refine ip 1 4 [(36, pt b1 3)] (by kernel_rfl) ?_
     refine ix rfl (det_own_agg (us := cCol a.color) ty24 rfl rfl 5 rfl rfl rfl) ?_
     refine ix rfl (det_build (cs := cCol Col.zero) rfl rfl (by kernel_rfl)) ?_
     refine ix rfl (det_nes (a := a.color) (b := Col.zero) eqt24 rfl rfl rfl) ?_
     refine ip 1 0 [(40, bv (!(decide (a.color = Col.zero))))] (by kernel_rfl) ?_
     exact JI_end (armI 6 35 40 g11 Foll.nil (mk [true, true, true, true, true, true] rfl) rfl rfl rfl rfl rfl)
    refine ip 1 5 [(41, bv ((!(lkB a.n false ktab0_1)) && (!(decide (a.color = Col.zero)))))] (by kernel_rfl) ?_
    refine ior 5 0 41 46 (!decide ((color_Check a.color) = 0)) rfl (by kernel_rfl) (fun g12 => ?_) ?_
    ·have g12p := g12; try simp at g12p
     refine ip 1 4 [(42, pt b1 3)] (by kernel_rfl) ?_
     refine ix rfl (det_own_agg (us := cCol a.color) ty24 rfl rfl 5 rfl rfl rfl) ?_
     refine ixc rfl (det_call (color_Check_c a.color _ rfl) rfl rfl rfl rfl rfl Foll.nil) ?_
     refine ip 2 0 [(46, bv (!decide ((color_Check a.color) = 0)))] (by kernel_rfl) ?_
     exact JI_end (armI 5 41 46 g12 Foll.nil (mk [true, true, true, true, true, true] rfl) rfl rfl rfl rfl rfl)
    refine ie ?_
    refine J_if rfl (fun h13 => ?_) (fun h13 => ?_)
    ·have h13p := h13; try simp at h13p
     replace hR := bt hR h13
     refine sr 1 rfl ?_
     refine ip 1 0 [(2, iv 141)] (by kernel_rfl) ?_
     refine ie ?_
     refine J_ret ?_
     subst hR
     exact ends_ret rfl ⟨hr, hD⟩ (by simp [hD]) (res1 rfl (resV_tmp rfl)) () (by rfl) (mk [false, false, false, false, false, false] rfl) Foll.nil
    ·have h13p := h13; try simp at h13p
     replace hR := bf hR h13
     refine J_skip ?_
     refine nx ?_
     refine sr 1 rfl ?_
     refine ip 1 0 [(2, iv 0)] (by kernel_rfl) ?_
     refine ie ?_
     refine J_ret ?_
     subst hR
     exact ends_ret rfl ⟨hr, hD⟩ (by simp [hD]) (res1 rfl (resV_tmp rfl)) () (by rfl) (mk [false, false, false, false, false, false] rfl) Foll.nil
  ·refine harm 7 [bx b1 (cAct a) 26] #[true, true, true, false, false, false, false, true, false, false] rfl rfl rfl (by kernel_rfl) (by kernel_rfl) (by kernel_rfl) (tri_alloc (cs := [.nilFunc, bv false, .nilFunc]) zero200 rfl) (fun b14 => (mk [false, false, false, false, false, true] rfl)) (fun b14 => Foll.nil) fun b14 => ?_
   refine hone 3 [bx b1 (cAct a) 26] #[true, true, true, true, false, false, false, true, false, false] rfl rfl rfl (by kernel_rfl) (by kernel_rfl) (by kernel_rfl) (Det.tri (DetR.det (by exact det_conv (det_lookupSo (ktab0 b3 b4 b5) (⟨by kernel_rfl, by kernel_rfl, rfl⟩ : MapTy Tryz.prog 202 3 200 (.int .i64)) rfl rfl rfl 1 rfl (by kernel_rfl) (by kernel_rfl)) (ktab0_both b3 b4 b5 a.n)))) (fun _ => (mk [false, false, false, false, false, true] rfl)) (fun _ => Foll.nil) fun _ => ?_
   refine hpur [4, 5, 6] 2 #[true, true, true, true, true, true, true, true, false, false] [(10, ag [(lkV a.n .nilFunc ktab0_0), bv (lkB a.n false ktab0_1), (lkV a.n .nilFunc (ktab0_2 b3 b4 b5))]), (11, bv (hasK a.n ktab0_0))] (by kernel_rfl) ?_
   refine hone 8 [bx b1 (cAct a) 26] #[true, true, true, true, true, true, true, true, true, false] rfl rfl rfl (by kernel_rfl) (by kernel_rfl) (by kernel_rfl) (tri_store (us := [(lkV a.n .nilFunc ktab0_0), bv (lkB a.n false ktab0_1), (lkV a.n .nilFunc (ktab0_2 b3 b4 b5))]) (cs' := [(lkV a.n .nilFunc ktab0_0), bv (lkB a.n false ktab0_1), (lkV a.n .nilFunc (ktab0_2 b3 b4 b5))]) ty200 rfl rfl rfl 0 rfl rfl rfl (by simp only [List.all_cons, List.all_nil, Bool.and_true, Bool.and_eq_true]; exact ⟨lkV_one rfl rfl, rfl, lkV_one rfl rfl⟩) rfl rfl) (fun _ => (mk [false, false, false, false, false, true] rfl)) (fun _ => Foll.nil) fun _ => ?_
   refine hpur [9] 0 #[true, true, true, true, true, true, true, true, true, true] [(4, bv (hasK a.n ktab0_0))] (by kernel_rfl) ?_
   refine hend (by kernel_rfl) ?_
   refine J_seq ?_
   refine sr 20 rfl ?_
   refine ip 3 17 [(14, bv (!(hasK a.n ktab0_0)))] (by kernel_rfl) ?_
   refine ior 4 13 14 18 (!decide (a.kind = 39)) rfl (by kernel_rfl) (fun g15 => ?_) ?_
   ·refine ip 1 3 [(15, pt b1 0)] (by kernel_rfl) ?_
    refine ix rfl (det_own_one (v := iv a.kind) ty3 rfl rfl 5 rfl rfl) ?_
    refine ip 2 0 [(18, bv (!decide (a.kind = 39)))] (by kernel_rfl) ?_
    exact JI_end (armI 4 14 18 g15 Foll.nil (mk [true, true, true, true, true, true] rfl) rfl rfl rfl rfl rfl)
   refine ip 1 12 [(19, bv ((!(hasK a.n ktab0_0)) || (!decide (a.kind = 39))))] (by kernel_rfl) ?_
   refine ior 4 8 19 23 (!(decide (a.text = ([] : List UInt8)))) rfl (by kernel_rfl) (fun g16 => ?_) ?_
   ·have g16p := g16; try simp at g16p
    refine ip 1 3 [(20, pt b1 5)] (by kernel_rfl) ?_
    refine ix rfl (det_own_one (v := sv a.text) ty9 rfl rfl 5 rfl rfl) ?_
    refine ix rfl (det_stne rfl rfl rfl) ?_
    refine ip 1 0 [(23, bv (!(decide (a.text = ([] : List UInt8)))))] (by kernel_rfl) ?_
    exact JI_end (armI 5 19 23 g16 Foll.nil (mk [true, true, true, true, true, true] rfl) rfl rfl rfl rfl rfl)
   refine ip 1 7 [(24, bv (((!(hasK a.n ktab0_0)) || (!decide (a.kind = 39))) || (!(decide (a.text = ([] : List UInt8))))))] (by kernel_rfl) ?_
   refine ior 7 0 24 31 (!(ktab0_0_s a.n a.m)) rfl (by kernel_rfl) (fun g17 => ?_) ?_
   ·have g17p := g17; try simp at g17p
    refine ip 1 6 [(25, pt b14 0)] (by kernel_rfl) ?_
    refine ix rfl (det_own_one (v := (lkV a.n .nilFunc ktab0_0)) ty152 rfl rfl 0 rfl rfl) ?_
    refine ip 1 4 [(27, pt b1 2)] (by kernel_rfl) ?_
    refine ix rfl (det_own_one (v := iv a.m) ty3 rfl rfl 5 rfl rfl) ?_
    refine ixc rfl (det_callV (ktab0_0_s_c a.n a.m (by first | assumption | simp_all) _ rfl) rfl rfl rfl rfl Foll.nil) ?_
    refine ip 2 0 [(31, bv (!(ktab0_0_s a.n a.m)))] (by kernel_rfl) ?_
    exact JI_end (armI 7 24 31 g17 Foll.nil (mk [true, true, true, true, true, true] rfl) rfl rfl rfl rfl rfl)
   refine ie ?_
   refine J_if rfl (fun h18 => ?_) (fun h18 => ?_)
   ·have h18p := h18; try simp at h18p
    replace hR := bt hR h18
    refine sr 1 rfl ?_
    refine ip 1 0 [(2, iv 141)] (by kernel_rfl) ?_
    refine ie ?_
    refine J_ret ?_
    subst hR
    exact ends_ret rfl ⟨hr, hD⟩ (by simp [hD]) (res1 rfl (resV_tmp rfl)) () (by rfl) (mk [false, false, false, false, false, false] rfl) Foll.nil
   ·have h18p := h18; try simp at h18p
    replace hR := bf hR h18
    refine J_skip ?_
    refine nx ?_
    refine J_seq ?_
    refine sr 15 rfl ?_
    refine ip 1 14 [(32, pt b14 1)] (by kernel_rfl) ?_
    refine ix rfl (det_own_one (v := bv (lkB a.n false ktab0_1)) ty4 rfl rfl 0 rfl rfl) ?_
    refine ip 2 11 [(35, bv (!(lkB a.n false ktab0_1)))] (by kernel_rfl) ?_
    refine iand 5 6 35 40 (!(decide (a.color = Col.zero))) rfl (by kernel_rfl) (fun g19 => ?_) ?_
    ·refine ip 1 4 [(36, pt b1 3)] (by kernel_rfl) ?_
     refine ix rfl (det_own_agg (us := cCol a.color) ty24 rfl rfl 5 rfl rfl rfl) ?_
     refine ix rfl (det_build (cs := cCol Col.zero) rfl rfl (by kernel_rfl)) ?_
     refine ix rfl (det_nes (a := a.color) (b := Col.zero) eqt24 rfl rfl rfl) ?_
     refine ip 1 0 [(40, bv (!(decide (a.color = Col.zero))))] (by kernel_rfl) ?_
     exact JI_end (armI 6 35 40 g19 Foll.nil (mk [true, true, true, true, true, true] rfl) rfl rfl rfl rfl rfl)
    refine ip 1 5 [(41, bv ((!(lkB a.n false ktab0_1)) && (!(decide (a.color = Col.zero)))))] (by kernel_rfl) ?_
    refine ior 5 0 41 46 (!decide ((color_Check a.color) = 0)) rfl (by kernel_rfl) (fun g20 => ?_) ?_
    ·have g20p := g20; try simp at g20p
     refine ip 1 4 [(42, pt b1 3)] (by kernel_rfl) ?_
     refine ix rfl (det_own_agg (us := cCol a.color) ty24 rfl rfl 5 rfl rfl rfl) ?_
     refine ixc rfl (det_call (color_Check_c a.color _ rfl) rfl rfl rfl rfl rfl Foll.nil) ?_
     refine ip 2 0 [(46, bv (!decide ((color_Check a.color) = 0)))] (by kernel_rfl) ?_
     exact JI_end (armI 5 41 46 g20 Foll.nil (mk [true, true, true, true, true, true] rfl) rfl rfl rfl rfl rfl)
    refine ie ?_
    refine J_if rfl (fun h21 => ?_) (fun h21 => ?_)
    ·have h21p := h21; try simp at h21p
     replace hR := bt hR h21
     refine sr 1 rfl ?_
     refine ip 1 0 [(2, iv 141)] (by kernel_rfl) ?_
     refine ie ?_
     refine J_ret ?_
     subst hR
     exact ends_ret rfl ⟨hr, hD⟩ (by simp [hD]) (res1 rfl (resV_tmp rfl)) () (by rfl) (mk [false, false, false, false, false, false] rfl) Foll.nil
    ·have h21p := h21; try simp at h21p
     replace hR := bf hR h21
     refine J_skip ?_
     refine nx ?_
     refine sr 1 rfl ?_
     refine ip 1 0 [(2, iv 0)] (by kernel_rfl) ?_
     refine ie ?_
     refine J_ret ?_
     subst hR
     exact ends_ret rfl ⟨hr, hD⟩ (by simp [hD]) (res1 rfl (resV_tmp rfl)) () (by rfl) (mk [false, false, false, false, false, false] rfl) Foll.nil
 ·refine harm 7 [bx b1 (cAct a) 26] #[false, true, true, false, false, false, false, true, false, false] rfl rfl rfl (by kernel_rfl) (by kernel_rfl) (by kernel_rfl) (tri_alloc (cs := [.nilFunc, bv false, .nilFunc]) zero200 rfl) (fun b22 => (mk [false, true] rfl)) (fun b22 => Foll.nil) fun b22 => ?_
  refine hone 0 [bx b1 (cAct a) 26] #[true, true, true, false, false, false, false, true, false, false] rfl rfl rfl (by kernel_rfl) (by kernel_rfl) (by kernel_rfl) (tri_callN (L2 := [bx b22 [.nilFunc, bv false, .nilFunc] 200, bx b1 (cAct a) 26]) (style_pens_c _ rfl) rfl rfl rfl rfl rfl Foll.nil (List.Perm.refl _) (fun ⟨b23, b24, b25, b26⟩ => [(b23, .map #[⟨iv 0, ag [.func (.func 175) #[] #[], bv false, .func (.func 177) #[] #[]], 0⟩, ⟨iv 1, ag [.func (.func 178) #[] #[], bv false, .func (.func 179) #[] #[]], 1⟩, ⟨iv 2, ag [.func (.func 180) #[] #[], bv false, .func (.func 181) #[] #[]], 2⟩, ⟨iv 3, ag [.func (.func 182) #[] #[], bv false, .func (.func 183) #[] #[]], 3⟩, ⟨iv 4, ag [.func (.func 175) #[] #[], bv style_pens_1, .func (.func 176) #[] #[pt b24 0]], 4⟩, ⟨iv 5, ag [.func (.func 175) #[] #[], bv style_pens_1a, .func (.func 176) #[] #[pt b25 0]], 5⟩, ⟨iv 6, ag [.func (.func 175) #[] #[], bv style_pens_1b, .func (.func 176) #[] #[pt b26 0]], 6⟩] 7), bx b24 [.func (.func 184) #[] #[]] 248, bx b25 [.func (.func 185) #[] #[]] 248, bx b26 [.func (.func 186) #[] #[]] 248, bx b22 [.nilFunc, bv false, .nilFunc] 200, bx b1 (cAct a) 26]) (fun _ => rfl)) (fun ⟨b23, b24, b25, b26⟩ => (mk [false, false, false, false, false, true] rfl)) (fun ⟨b23, b24, b25, b26⟩ => Foll.nil) fun ⟨b23, b24, b25, b26⟩ => ?_
  refine hone 3 [bx b1 (cAct a) 26] #[true, true, true, true, false, false, false, true, false, false] rfl rfl rfl (by kernel_rfl) (by kernel_rfl) (by kernel_rfl) (Det.tri (DetR.det (by exact det_conv (det_lookupSo (ktab0 b24 b25 b26) (⟨by kernel_rfl, by kernel_rfl, rfl⟩ : MapTy Tryz.prog 202 3 200 (.int .i64)) rfl rfl rfl 0 rfl (by kernel_rfl) (by kernel_rfl)) (ktab0_both b24 b25 b26 a.n)))) (fun _ => (mk [false, false, false, false, false, true] rfl)) (fun _ => Foll.nil) fun _ => ?_
  refine hpur [4, 5, 6] 2 #[true, true, true, true, true, true, true, true, false, false] [(10, ag [(lkV a.n .nilFunc ktab0_0), bv (lkB a.n false ktab0_1), (lkV a.n .nilFunc (ktab0_2 b24 b25 b26))]), (11, bv (hasK a.n ktab0_0))] (by kernel_rfl) ?_
  refine hone 8 [bx b1 (cAct a) 26] #[true, true, true, true, true, true, true, true, true, false] rfl rfl rfl (by kernel_rfl) (by kernel_rfl) (by kernel_rfl) (tri_store (us := [(lkV a.n .nilFunc ktab0_0), bv (lkB a.n false ktab0_1), (lkV a.n .nilFunc (ktab0_2 b24 b25 b26))]) (cs' := [(lkV a.n .nilFunc ktab0_0), bv (lkB a.n false ktab0_1), (lkV a.n .nilFunc (ktab0_2 b24 b25 b26))]) ty200 rfl rfl rfl 4 rfl rfl rfl (by simp only [List.all_cons, List.all_nil, Bool.and_true, Bool.and_eq_true]; exact ⟨lkV_one rfl rfl, rfl, lkV_one rfl rfl⟩) rfl rfl) (fun _ => (mk [false, false, false, false, false, true] rfl)) (fun _ => Foll.nil) fun _ => ?_
  refine hpur [9] 0 #[true, true, true, true, true, true, true, true, true, true] [(4, bv (hasK a.n ktab0_0))] (by kernel_rfl) ?_
  refine hend (by kernel_rfl) ?_
  refine J_seq ?_
  refine sr 20 rfl ?_
  refine ip 3 17 [(14, bv (!(hasK a.n ktab0_0)))] (by kernel_rfl) ?_
  refine ior 4 13 14 18 (!decide (a.kind = 39)) rfl (by kernel_rfl) (fun g27 => ?_) ?_
  ·refine ip 1 3 [(15, pt b1 0)] (by kernel_rfl) ?_
   refine ix rfl (det_own_one (v := iv a.kind) ty3 rfl rfl 5 rfl rfl) ?_
   refine ip 2 0 [(18, bv (!decide (a.kind = 39)))] (by kernel_rfl) ?_
   exact JI_end (armI 4 14 18 g27 Foll.nil (mk [true, true, true, true, true, true] rfl) rfl rfl rfl rfl rfl)
  refine ip 1 12 [(19, bv ((!(hasK a.n ktab0_0)) || (!decide (a.kind = 39))))] (by kernel_rfl) ?_
  refine ior 4 8 19 23 (!(decide (a.text = ([] : List UInt8)))) rfl (by kernel_rfl) (fun g28 => ?_) ?_
  ·have g28p := g28; try simp at g28p
   refine ip 1 3 [(20, pt b1 5)] (by kernel_rfl) ?_
   refine ix rfl (det_own_one (v := sv a.text) ty9 rfl rfl 5 rfl rfl) ?_
   refine ix rfl (det_stne rfl rfl rfl) ?_
   refine ip 1 0 [(23, bv (!(decide (a.text = ([] : List UInt8)))))] (by kernel_rfl) ?_
   exact JI_end (armI 5 19 23 g28 Foll.nil (mk [true, true, true, true, true, true] rfl) rfl rfl rfl rfl rfl)
  refine ip 1 7 [(24, bv (((!(hasK a.n ktab0_0)) || (!decide (a.kind = 39))) || (!(decide (a.text = ([] : List UInt8))))))] (by kernel_rfl) ?_
  refine ior 7 0 24 31 (!(ktab0_0_s a.n a.m)) rfl (by kernel_rfl) (fun g29 => ?_) ?_
  ·have g29p := g29; try simp at g29p
   refine ip 1 6 [(25, pt b22 0)] (by kernel_rfl) ?_
   refine ix rfl (det_own_one (v := (lkV a.n .nilFunc ktab0_0)) ty152 rfl rfl 4 rfl rfl) ?_
   refine ip 1 4 [(27, pt b1 2)] (by kernel_rfl) ?_
   refine ix rfl (det_own_one (v := iv a.m) ty3 rfl rfl 5 rfl rfl) ?_
   refine ixc rfl (det_callV (ktab0_0_s_c a.n a.m (by first | assumption | simp_all) _ rfl) rfl rfl rfl rfl Foll.nil) ?_
   refine ip 2 0 [(31, bv (!(ktab0_0_s a.n a.m)))] (by kernel_rfl) ?_
   exact JI_end (armI 7 24 31 g29 Foll.nil (mk [true, true, true, true, true, true] rfl) rfl rfl rfl rfl rfl)
  refine ie ?_
  refine J_if rfl (fun h30 => ?_) (fun h30 => ?_)
  ·have h30p := h30; try simp at h30p
   replace hR := bt hR h30
   refine sr 1 rfl ?_
   refine ip 1 0 [(2, iv 141)] (by kernel_rfl) ?_
   refine ie ?_
   refine J_ret ?_
   subst hR
   exact ends_ret rfl ⟨hr, hD⟩ (by simp [hD]) (res1 rfl (resV_tmp rfl)) () (by rfl) (mk [false, false, false, false, false, false] rfl) Foll.nil
  ·have h30p := h30; try simp at h30p
   replace hR := bf hR h30
   refine J_skip ?_
   refine nx ?_
   refine J_seq ?_
   refine sr 15 rfl ?_
   refine ip 1 14 [(32, pt b22 1)] (by kernel_rfl) ?_
   refine ix rfl (det_own_one (v := bv (lkB a.n false ktab0_1)) ty4 rfl rfl 4 rfl rfl) ?_
   refine ip 2 11 [(35, bv (!(lkB a.n false ktab0_1)))] (by kernel_rfl) ?_
   refine iand 5 6 35 40 (!(decide (a.color = Col.zero))) rfl (by kernel_rfl) (fun g31 => ?_) ?_
   ·refine ip 1 4 [(36, pt b1 3)] (by kernel_rfl) ?_
    refine ix rfl (det_own_agg (us := cCol a.color) ty24 rfl rfl 5 rfl rfl rfl) ?_
    refine ix rfl (det_build (cs := cCol Col.zero) rfl rfl (by kernel_rfl)) ?_
    refine ix rfl (det_nes (a := a.color) (b := Col.zero) eqt24 rfl rfl rfl) ?_
    refine ip 1 0 [(40, bv (!(decide (a.color = Col.zero))))] (by kernel_rfl) ?_
    exact JI_end (armI 6 35 40 g31 Foll.nil (mk [true, true, true, true, true, true] rfl) rfl rfl rfl rfl rfl)
   refine ip 1 5 [(41, bv ((!(lkB a.n false ktab0_1)) && (!(decide (a.color = Col.zero)))))] (by kernel_rfl) ?_
   refine ior 5 0 41 46 (!decide ((color_Check a.color) = 0)) rfl (by kernel_rfl) (fun g32 => ?_) ?_
   ·have g32p := g32; try simp at g32p
    refine ip 1 4 [(42, pt b1 3)] (by kernel_rfl) ?_
    refine ix rfl (det_own_agg (us := cCol a.color) ty24 rfl rfl 5 rfl rfl rfl) ?_
    refine ixc rfl (det_call (color_Check_c a.color _ rfl) rfl rfl rfl rfl rfl Foll.nil) ?_
    refine ip 2 0 [(46, bv (!decide ((color_Check a.color) = 0)))] (by kernel_rfl) ?_
    exact JI_end (armI 5 41 46 g32 Foll.nil (mk [true, true, true, true, true, true] rfl) rfl rfl rfl rfl rfl)
   refine ie ?_
   refine J_if rfl (fun h33 => ?_) (fun h33 => ?_)
   ·have h33p := h33; try simp at h33p
    replace hR := bt hR h33
    refine sr 1 rfl ?_
    refine ip 1 0 [(2, iv 141)] (by kernel_rfl) ?_
    refine ie ?_
    refine J_ret ?_
    subst hR
    exact ends_ret rfl ⟨hr, hD⟩ (by simp [hD]) (res1 rfl (resV_tmp rfl)) () (by rfl) (mk [false, false, false, false, false, false] rfl) Foll.nil
   ·have h33p := h33; try simp at h33p
    replace hR := bf hR h33
    refine J_skip ?_
    refine nx ?_
    refine sr 1 rfl ?_
    refine ip 1 0 [(2, iv 0)] (by kernel_rfl) ?_
    refine ie ?_
    refine J_ret ?_
    subst hR
    exact ends_ret rfl ⟨hr, hD⟩ (by simp [hD]) (res1 rfl (resV_tmp rfl)) () (by rfl) (mk [false, false, false, false, false, false] rfl) Foll.nil

def style_Check (s : Sty) : Int :=
 (bif (((!decide ((bOp .andNot .i64 s.attr 255) = 0)) || (decide (s.under < 0))) || (decide ((5 : Int) < s.under))) then 140 else (bif (!decide ((color_Check s.fore) = 0)) then (color_Check s.fore) else (bif (!decide ((color_Check s.back) = 0)) then (color_Check s.back) else (bif (!decide ((color_Check s.line) = 0)) then (color_Check s.line) else 0))))

theorem style_Check_c (s : Sty) (R : Int) (hR : style_Check s = R) : ConV Tryz.prog 48 [ag (cSty s)] [] (iv R) := by
 refine con_of_J (n := 36) Tryz.func48 rfl (by kernel_rfl) rfl rfl [(0, ag (cSty s))] ⟨rfl, trivial⟩ fun X hX hr hD => ?_
 replace hR := (style_Check.eq_1 ..).symm.trans hR
 refine sr 2 rfl ?_
 refine it rfl (tri_box (cs := cSty s) rfl rfl rfl) fun b1 => ?_
 refine ip 1 0 [] (by kernel_rfl) ?_
 refine ie ?_
 refine J_seq ?_
 refine sr 14 rfl ?_
 refine ip 1 13 [(6, pt b1 0)] (by kernel_rfl) ?_
 refine ix rfl (det_own_one (v := iv s.attr) ty3 rfl rfl 0 rfl rfl) ?_
 refine ip 3 9 [(10, bv (!decide ((bOp .andNot .i64 s.attr 255) = 0)))] (by kernel_rfl) ?_
 refine ior 4 5 10 14 (decide (s.under < 0)) rfl (by kernel_rfl) (fun g2 => ?_) ?_
 ·have g2p : ¬ (¬ (bOp .andNot .i64 s.attr 255) = 0) := by simpa using g2
  refine ip 1 3 [(11, pt b1 1)] (by kernel_rfl) ?_
  refine ix rfl (det_own_one (v := iv s.under) ty3 rfl rfl 0 rfl rfl) ?_
  refine ip 2 0 [(14, bv (decide (s.under < 0)))] (by kernel_rfl) ?_
  exact JI_end (armI 4 10 14 g2 Foll.nil (mk [true] rfl) rfl rfl rfl rfl rfl)
 refine ip 1 4 [(15, bv ((!decide ((bOp .andNot .i64 s.attr 255) = 0)) || (decide (s.under < 0))))] (by kernel_rfl) ?_
 refine ior 4 0 15 19 (decide ((5 : Int) < s.under)) rfl (by kernel_rfl) (fun g3 => ?_) ?_
 ·have g3p : ¬ ((¬ (bOp .andNot .i64 s.attr 255) = 0) ∨ (s.under < 0)) := by simpa using g3
  refine ip 1 3 [(16, pt b1 1)] (by kernel_rfl) ?_
  refine ix rfl (det_own_one (v := iv s.under) ty3 rfl rfl 0 rfl rfl) ?_
  refine ip 2 0 [(19, bv (decide ((5 : Int) < s.under)))] (by kernel_rfl) ?_
  exact JI_end (armI 4 15 19 g3 Foll.nil (mk [true] rfl) rfl rfl rfl rfl rfl)
 refine ie ?_
 refine J_if rfl (fun h4 => ?_) (fun h4 => ?_)
 ·have h4p : ((¬ (bOp .andNot .i64 s.attr 255) = 0) ∨ (s.under < 0)) ∨ ((5 : Int) < s.under) := by simpa using h4
  replace hR := bt hR h4
  refine sr 1 rfl ?_
  refine ip 1 0 [(2, iv 140)] (by kernel_rfl) ?_
  refine ie ?_
  refine J_ret ?_
  subst hR
  exact ends_ret rfl ⟨hr, hD⟩ (by simp [hD]) (res1 rfl (resV_tmp rfl)) () (by rfl) (mk [false] rfl) Foll.nil
 ·have h4p : ¬ (((¬ (bOp .andNot .i64 s.attr 255) = 0) ∨ (s.under < 0)) ∨ ((5 : Int) < s.under)) := by simpa using h4
  replace hR := bf hR h4
  refine J_skip ?_
  refine nx ?_
  refine J_seq ?_
  refine sr 8 rfl ?_
  refine ip 1 7 [(20, pt b1 2)] (by kernel_rfl) ?_
  refine ix rfl (det_own_agg (us := cCol s.fore) ty24 rfl rfl 0 rfl rfl rfl) ?_
  refine ip 1 5 [(22, pt b1 4)] (by kernel_rfl) ?_
  refine ix rfl (det_own_agg (us := cCol s.back) ty24 rfl rfl 0 rfl rfl rfl) ?_
  refine ip 1 3 [(24, pt b1 6)] (by kernel_rfl) ?_
  refine ix rfl (det_own_agg (us := cCol s.line) ty24 rfl rfl 0 rfl rfl rfl) ?_
  refine ix rfl (det_build (cs := [iv s.fore.kind, iv s.fore.n, iv s.back.kind, iv s.back.n, iv s.line.kind, iv s.line.n]) rfl rfl (by kernel_rfl)) ?_
  refine ip 1 0 [(27, iv 0)] (by kernel_rfl) ?_
  refine ie ?_
  refine J_block ?_
  refine J_rounds 5 ?_
  refine JR_succ ?_
  refine sr 1 rfl ?_
  refine ip 1 0 [(28, bv true)] (by kernel_rfl) ?_
  refine ie ?_
  refine J_seq ?_
  refine J_yes rfl ?_
  refine J_skip ?_
  refine nx ?_
  refine J_seq ?_
  refine J_block ?_
  refine sr 3 rfl ?_
  refine ix rfl (det_index (v := ag [iv s.fore.kind, iv s.fore.n]) (us := [iv s.fore.kind, iv s.fore.n]) Tryz.underlying143 ty24 rfl rfl rfl 0 rfl (by decide) rfl rfl rfl) ?_
  refine it rfl (tri_alloc (cs := cCol Col.zero) zero24 rfl) fun b5 => ?_
  refine it rfl (tri_store (us := [iv s.fore.kind, iv s.fore.n]) (cs' := cCol s.fore) ty24 rfl rfl rfl 0 rfl rfl rfl rfl rfl rfl) fun _ => ?_
  refine ie ?_
  refine sr 3 rfl ?_
  refine ix rfl (det_own_agg (us := cCol s.fore) ty24 rfl rfl 0 rfl rfl rfl) ?_
  refine ixc rfl (det_call (color_Check_c s.fore _ rfl) rfl rfl rfl rfl rfl Foll.nil) ?_
  refine ip 1 0 [(5, iv (color_Check s.fore))] (by kernel_rfl) ?_
  refine ie ?_
  refine sr 2 rfl ?_
  refine ip 2 0 [(33, bv (!decide ((color_Check s.fore) = 0)))] (by kernel_rfl) ?_
  refine ie ?_
  refine J_if rfl (fun h6 => ?_) (fun h6 => ?_)
  ·have h6p : ¬ (color_Check s.fore) = 0 := by simpa using h6
   replace hR := bt hR h6
   refine sr 2 rfl ?_
   refine ip 2 0 [(2, iv (color_Check s.fore))] (by kernel_rfl) ?_
   refine ie ?_
   refine J_ret ?_
   subst hR
   exact ends_ret rfl ⟨hr, hD⟩ (by simp [hD]) (res1 rfl (resV_tmp rfl)) () (by rfl) (mk [false, false] rfl) Foll.nil
  ·have h6p : ¬ (¬ (color_Check s.fore) = 0) := by simpa using h6
   replace hR := bf hR h6
   refine J_skip ?_
   refine nx ?_
   refine J_region 2 rfl ?_
   refine ix rfl (det_add64 (c := 1) rfl rfl rfl rfl (by decide)) ?_
   refine ip 1 0 [(27, iv 1)] (by kernel_rfl) ?_
   refine JI_end ?_
   refine JR_succ ?_
   refine sr 1 rfl ?_
   refine ip 1 0 [(28, bv true)] (by kernel_rfl) ?_
   refine ie ?_
   refine J_seq ?_
   refine J_yes rfl ?_
   refine J_skip ?_
   refine nx ?_
   refine J_seq ?_
   refine J_block ?_
   refine sr 3 rfl ?_
   refine ix rfl (det_index (v := ag [iv s.back.kind, iv s.back.n]) (us := [iv s.back.kind, iv s.back.n]) Tryz.underlying143 ty24 rfl rfl rfl 1 rfl (by decide) rfl rfl rfl) ?_
   refine it rfl (tri_alloc (cs := cCol Col.zero) zero24 rfl) fun b7 => ?_
   refine it rfl (tri_store (us := [iv s.back.kind, iv s.back.n]) (cs' := cCol s.back) ty24 rfl rfl rfl 0 rfl rfl rfl rfl rfl rfl) fun _ => ?_
   refine ie ?_
   refine sr 3 rfl ?_
   refine ix rfl (det_own_agg (us := cCol s.back) ty24 rfl rfl 0 rfl rfl rfl) ?_
   refine ixc rfl (det_call (color_Check_c s.back _ rfl) rfl rfl rfl rfl rfl Foll.nil) ?_
   refine ip 1 0 [(5, iv (color_Check s.back))] (by kernel_rfl) ?_
   refine ie ?_
   refine sr 2 rfl ?_
   refine ip 2 0 [(33, bv (!decide ((color_Check s.back) = 0)))] (by kernel_rfl) ?_
   refine ie ?_
   refine J_if rfl (fun h8 => ?_) (fun h8 => ?_)
   ·have h8p : ¬ (color_Check s.back) = 0 := by simpa using h8
    replace hR := bt hR h8
    refine sr 2 rfl ?_
    refine ip 2 0 [(2, iv (color_Check s.back))] (by kernel_rfl) ?_
    refine ie ?_
    refine J_ret ?_
    subst hR
    exact ends_ret rfl ⟨hr, hD⟩ (by simp [hD]) (res1 rfl (resV_tmp rfl)) () (by rfl) (mk [false, false, false] rfl) Foll.nil
   ·have h8p : ¬ (¬ (color_Check s.back) = 0) := by simpa using h8
    replace hR := bf hR h8
    refine J_skip ?_
    refine nx ?_
    refine J_region 2 rfl ?_
    refine ix rfl (det_add64 (c := 2) rfl rfl rfl rfl (by decide)) ?_
    refine ip 1 0 [(27, iv 2)] (by kernel_rfl) ?_
    refine JI_end ?_
    refine JR_succ ?_
    refine sr 1 rfl ?_
    refine ip 1 0 [(28, bv true)] (by kernel_rfl) ?_
    refine ie ?_
    refine J_seq ?_
    refine J_yes rfl ?_
    refine J_skip ?_
    refine nx ?_
    refine J_seq ?_
    refine J_block ?_
    refine sr 3 rfl ?_
    refine ix rfl (det_index (v := ag [iv s.line.kind, iv s.line.n]) (us := [iv s.line.kind, iv s.line.n]) Tryz.underlying143 ty24 rfl rfl rfl 2 rfl (by decide) rfl rfl rfl) ?_
    refine it rfl (tri_alloc (cs := cCol Col.zero) zero24 rfl) fun b9 => ?_
    refine it rfl (tri_store (us := [iv s.line.kind, iv s.line.n]) (cs' := cCol s.line) ty24 rfl rfl rfl 0 rfl rfl rfl rfl rfl rfl) fun _ => ?_
    refine ie ?_
    refine sr 3 rfl ?_
    refine ix rfl (det_own_agg (us := cCol s.line) ty24 rfl rfl 0 rfl rfl rfl) ?_
    refine ixc rfl (det_call (color_Check_c s.line _ rfl) rfl rfl rfl rfl rfl Foll.nil) ?_
    refine ip 1 0 [(5, iv (color_Check s.line))] (by kernel_rfl) ?_
    refine ie ?_
    refine sr 2 rfl ?_
    refine ip 2 0 [(33, bv (!decide ((color_Check s.line) = 0)))] (by kernel_rfl) ?_
    refine ie ?_
    refine J_if rfl (fun h10 => ?_) (fun h10 => ?_)
    ·have h10p : ¬ (color_Check s.line) = 0 := by simpa using h10
     replace hR := bt hR h10
     refine sr 2 rfl ?_
     refine ip 2 0 [(2, iv (color_Check s.line))] (by kernel_rfl) ?_
     refine ie ?_
     refine J_ret ?_
     subst hR
     exact ends_ret rfl ⟨hr, hD⟩ (by simp [hD]) (res1 rfl (resV_tmp rfl)) () (by rfl) (mk [false, false, false, false] rfl) Foll.nil
    ·have h10p : ¬ (¬ (color_Check s.line) = 0) := by simpa using h10
     replace hR := bf hR h10
     refine J_skip ?_
     refine nx ?_
     refine J_region 2 rfl ?_
     refine ix rfl (det_add64 (c := 3) rfl rfl rfl rfl (by decide)) ?_
     refine ip 1 0 [(27, iv 3)] (by kernel_rfl) ?_
     refine JI_end ?_
     refine JR_succ ?_
     refine sr 1 rfl ?_
     refine ip 1 0 [(28, bv false)] (by kernel_rfl) ?_
     refine ie ?_
     refine J_seq ?_
     refine J_no rfl ?_
     refine J_exit ?_
     refine nx ?_
     refine sr 1 rfl ?_
     refine ip 1 0 [(2, iv 0)] (by kernel_rfl) ?_
     refine ie ?_
     refine J_ret ?_
     subst hR
     exact ends_ret rfl ⟨hr, hD⟩ (by simp [hD]) (res1 rfl (resV_tmp rfl)) () (by rfl) (mk [false, false, false, false] rfl) Foll.nil

end Go.Proofs.YtinkdfnpmoljfaaGreatDoor

