import Derived.Test.YtinkdfnpmoljfaaGreatDoorD2
import Derived.Test.YtinkdfnpmoljfaaGreatDoorFenX
import Derived.Test.YtinkdfnpmoljfaaGreatDoorProg
set_option linter.unusedVariables false
set_option linter.unusedSimpArgs false
set_option linter.unnecessarySimpa false
set_option maxRecDepth 100000
namespace Go.Proofs.YtinkdfnpmoljfaaGreatDoor
open Go Go.Fen
structure Col where
 kind : Int
 n : Int
deriving DecidableEq
def cCol (x : Col) : List Value := [.int .i64 x.kind, .int .i64 x.n]
def Col.zero : Col := ⟨0, 0⟩
theorem cCol.inj (x y : Col) (h : cCol x = cCol y) : x = y := by
 rcases x with ⟨_, _⟩
 rcases y with ⟨_, _⟩
 simp [cCol, bs] at h
 simp_all
structure Sty where
 attr : Int
 under : Int
 fore : Col
 back : Col
 line : Col
deriving DecidableEq
def cSty (x : Sty) : List Value := [.int .i64 x.attr, .int .i64 x.under] ++ (cCol x.fore ++ (cCol x.back ++ (cCol x.line)))
def Sty.zero : Sty := ⟨0, 0, Col.zero, Col.zero, Col.zero⟩
theorem cSty.inj (x y : Sty) (h : cSty x = cSty y) : x = y := by
 rcases x with ⟨_, _, ⟨_, _⟩, ⟨_, _⟩, ⟨_, _⟩⟩
 rcases y with ⟨_, _, ⟨_, _⟩, ⟨_, _⟩, ⟨_, _⟩⟩
 simp [cCol, cSty, bs] at h
 simp_all
structure Ar2 where
 a : Int
 b : Int
deriving DecidableEq
def cAr2 (x : Ar2) : List Value := [.int .i64 x.a, .int .i64 x.b]
def Ar2.zero : Ar2 := ⟨0, 0⟩
theorem cAr2.inj (x y : Ar2) (h : cAr2 x = cAr2 y) : x = y := by
 rcases x with ⟨_, _⟩
 rcases y with ⟨_, _⟩
 simp [cAr2, bs] at h
 simp_all
structure Ar3 where
 a : Int
 b : Int
 c : Int
deriving DecidableEq
def cAr3 (x : Ar3) : List Value := [.int .i64 x.a, .int .i64 x.b, .int .i64 x.c]
def Ar3.zero : Ar3 := ⟨0, 0, 0⟩
theorem cAr3.inj (x y : Ar3) (h : cAr3 x = cAr3 y) : x = y := by
 rcases x with ⟨_, _, _⟩
 rcases y with ⟨_, _, _⟩
 simp [cAr3, bs] at h
 simp_all
structure Cel where
 base : Int
 marks : Ar2
 wide : Int
 sty : Sty
deriving DecidableEq
def cCel (x : Cel) : List Value := [.int .i64 x.base] ++ (cAr2 x.marks ++ ([.int .i64 x.wide] ++ (cSty x.sty)))
def Cel.zero : Cel := ⟨0, Ar2.zero, 0, Sty.zero⟩
theorem cCel.inj (x y : Cel) (h : cCel x = cCel y) : x = y := by
 rcases x with ⟨_, ⟨_, _⟩, _, ⟨_, _, ⟨_, _⟩, ⟨_, _⟩, ⟨_, _⟩⟩⟩
 rcases y with ⟨_, ⟨_, _⟩, _, ⟨_, _, ⟨_, _⟩, ⟨_, _⟩, ⟨_, _⟩⟩⟩
 simp [cAr2, cCel, cCol, cSty, bs] at h
 simp_all
structure Spn where
 lo : Int
 hi : Int
deriving DecidableEq
def cSpn (x : Spn) : List Value := [.int .i64 x.lo, .int .i64 x.hi]
def Spn.zero : Spn := ⟨0, 0⟩
theorem cSpn.inj (x y : Spn) (h : cSpn x = cSpn y) : x = y := by
 rcases x with ⟨_, _⟩
 rcases y with ⟨_, _⟩
 simp [cSpn, bs] at h
 simp_all
structure Sp3 where
 row : Int
 frm : Int
 to : Int
deriving DecidableEq
def cSp3 (x : Sp3) : List Value := [.int .i64 x.row, .int .i64 x.frm, .int .i64 x.to]
def Sp3.zero : Sp3 := ⟨0, 0, 0⟩
theorem cSp3.inj (x y : Sp3) (h : cSp3 x = cSp3 y) : x = y := by
 rcases x with ⟨_, _, _⟩
 rcases y with ⟨_, _, _⟩
 simp [cSp3, bs] at h
 simp_all
structure Plc where
 row : Int
 col : Int
deriving DecidableEq
def cPlc (x : Plc) : List Value := [.int .i64 x.row, .int .i64 x.col]
def Plc.zero : Plc := ⟨0, 0⟩
theorem cPlc.inj (x y : Plc) (h : cPlc x = cPlc y) : x = y := by
 rcases x with ⟨_, _⟩
 rcases y with ⟨_, _⟩
 simp [cPlc, bs] at h
 simp_all
structure Atr where
 a : Int
 b : Int
 c : Int
deriving DecidableEq
def cAtr (x : Atr) : List Value := [.int .i64 x.a, .int .i64 x.b, .int .i64 x.c]
def Atr.zero : Atr := ⟨0, 0, 0⟩
theorem cAtr.inj (x y : Atr) (h : cAtr x = cAtr y) : x = y := by
 rcases x with ⟨_, _, _⟩
 rcases y with ⟨_, _, _⟩
 simp [cAtr, bs] at h
 simp_all
structure Act where
 kind : Int
 n : Int
 m : Int
 color : Col
 text : List UInt8
deriving DecidableEq
def cAct (x : Act) : List Value := [.int .i64 x.kind, .int .i64 x.n, .int .i64 x.m] ++ (cCol x.color ++ ([.string (bs x.text)]))
def Act.zero : Act := ⟨0, 0, 0, Col.zero, []⟩
theorem cAct.inj (x y : Act) (h : cAct x = cAct y) : x = y := by
 rcases x with ⟨_, _, _, ⟨_, _⟩, _⟩
 rcases y with ⟨_, _, _, ⟨_, _⟩, _⟩
 simp [cAct, cCol, bs] at h
 simp_all
structure Shf where
 top : Int
 bottom : Int
 amt : Int
deriving DecidableEq
def cShf (x : Shf) : List Value := [.int .i64 x.top, .int .i64 x.bottom, .int .i64 x.amt]
def Shf.zero : Shf := ⟨0, 0, 0⟩
theorem cShf.inj (x y : Shf) (h : cShf x = cShf y) : x = y := by
 rcases x with ⟨_, _, _⟩
 rcases y with ⟨_, _, _⟩
 simp [cShf, bs] at h
 simp_all
structure Hld where
 shift : Shf
 gain : Int
deriving DecidableEq
def cHld (x : Hld) : List Value := cShf x.shift ++ ([.int .i64 x.gain])
def Hld.zero : Hld := ⟨Shf.zero, 0⟩
theorem cHld.inj (x y : Hld) (h : cHld x = cHld y) : x = y := by
 rcases x with ⟨⟨_, _, _⟩, _⟩
 rcases y with ⟨⟨_, _, _⟩, _⟩
 simp [cHld, cShf, bs] at h
 simp_all
structure Lks where
 f : Nat → Int
def cLks (x : Lks) : List Value := [.int .u64 (x.f 0), .int .u64 (x.f 1), .int .u64 (x.f 2), .int .u64 (x.f 3), .int .u64 (x.f 4), .int .u64 (x.f 5), .int .u64 (x.f 6), .int .u64 (x.f 7), .int .u64 (x.f 8), .int .u64 (x.f 9), .int .u64 (x.f 10), .int .u64 (x.f 11), .int .u64 (x.f 12), .int .u64 (x.f 13), .int .u64 (x.f 14), .int .u64 (x.f 15), .int .u64 (x.f 16), .int .u64 (x.f 17), .int .u64 (x.f 18), .int .u64 (x.f 19), .int .u64 (x.f 20), .int .u64 (x.f 21), .int .u64 (x.f 22), .int .u64 (x.f 23), .int .u64 (x.f 24), .int .u64 (x.f 25), .int .u64 (x.f 26), .int .u64 (x.f 27), .int .u64 (x.f 28), .int .u64 (x.f 29), .int .u64 (x.f 30), .int .u64 (x.f 31), .int .u64 (x.f 32), .int .u64 (x.f 33), .int .u64 (x.f 34), .int .u64 (x.f 35), .int .u64 (x.f 36), .int .u64 (x.f 37), .int .u64 (x.f 38), .int .u64 (x.f 39), .int .u64 (x.f 40)]
def Lks.zero : Lks := ⟨fun _ => 0⟩
def Lks.put (x : Lks) (k : Nat) (v : Int) : Lks := ⟨fun i => if i = k then v else x.f i⟩
theorem cLks_get (x : Lks) {k : Nat} (h : k < 41) : (cLks x)[k]? = some (.int .u64 (x.f k)) := by
 rw [show cLks x = (List.range 41).map (fun i => Value.int .u64 (x.f i)) from rfl]; simp [h]
theorem cLks_put (x : Lks) {k : Nat} (h : k < 41) (v : Int) : putCells (cLks x) [.int .u64 v] (k * 1) = cLks (x.put k v) := by
 rw [show cLks x = (List.range 41).map (fun i => Value.int .u64 (x.f i)) from rfl, show cLks (x.put k v) = (List.range 41).map (fun i => Value.int .u64 ((x.put k v).f i)) from rfl]
 unfold putCells
 rw [Nat.mul_one]
 apply List.ext_getElem?
 intro i
 rcases Nat.lt_trichotomy i k with e | e | e
 ·rw [List.getElem?_append_left (by simp; omega), List.getElem?_append_left (by simp; omega), List.getElem?_take_of_lt e]
  simp [Lks.put, show i < 41 by omega, show i ≠ k by omega]
 ·subst e
  rw [List.getElem?_append_left (by simp; omega), List.getElem?_append_right (by simp; omega)]
  simp [Lks.put, show i < 41 by omega, show min i 41 = i by omega]
 ·rw [List.getElem?_append_right (by simp; omega), List.getElem?_drop]
  have e2 : k + 1 + (i - (k + 1)) = i := by omega
  simp [Lks.put, show min k 41 + 1 = k + 1 by omega, e2]
  by_cases hi : i < 41
  ·simp [hi, show i ≠ k by omega]
  ·simp [hi]
def tab0 : List Spn := [⟨768, 879⟩, ⟨1155, 1161⟩, ⟨1425, 1469⟩, ⟨1552, 1562⟩, ⟨1611, 1631⟩, ⟨6832, 6911⟩, ⟨7616, 7679⟩, ⟨8203, 8207⟩, ⟨8400, 8447⟩, ⟨65024, 65039⟩, ⟨65056, 65071⟩]
def tab1 : List Spn := [⟨4352, 4447⟩, ⟨11904, 12350⟩, ⟨12353, 19903⟩, ⟨19968, 42191⟩, ⟨44032, 55203⟩, ⟨63744, 64255⟩, ⟨65072, 65135⟩, ⟨65280, 65376⟩, ⟨65504, 65510⟩, ⟨127744, 128591⟩, ⟨128640, 128767⟩, ⟨129280, 129535⟩, ⟨131072, 262141⟩]
theorem apt30 : ApTy Tryz.prog 30 5 1 1 := ⟨by kernel_rfl, by kernel_rfl, rfl⟩
theorem apt168 : ApTy Tryz.prog 168 3 1 8 := ⟨by kernel_rfl, by kernel_rfl, rfl⟩
theorem eqt26 : EqT Tryz.prog 26 cAct := EqT.of 20 rfl (by kernel_rfl) (by kernel_rfl) (fun _ _ => by kernel_rfl) cAct.inj
theorem slt30 : SlTy Tryz.prog 30 5 1 := ⟨by kernel_rfl, by kernel_rfl⟩
theorem slt168 : SlTy Tryz.prog 168 3 1 := ⟨by kernel_rfl, by kernel_rfl⟩
theorem ty3 : Ty Tryz.prog 3 1 false := ⟨by kernel_rfl⟩
theorem ty5 : Ty Tryz.prog 5 1 false := ⟨by kernel_rfl⟩
theorem ty9 : Ty Tryz.prog 9 1 false := ⟨by kernel_rfl⟩
theorem ty26 : Ty Tryz.prog 26 6 true := ⟨by kernel_rfl⟩
theorem ty30 : Ty Tryz.prog 30 1 false := ⟨by kernel_rfl⟩
theorem ty168 : Ty Tryz.prog 168 1 false := ⟨by kernel_rfl⟩
theorem zero109 : Zero Tryz.prog 109 [.pointer none, .slice none 0 0] := ⟨by kernel_rfl⟩
theorem zero168 : Zero Tryz.prog 168 [.slice none 0 0] := ⟨by kernel_rfl⟩
def utf_Check (cp : Int) : Bool :=
 (((decide ((0 : Int) ≤ cp)) && (decide (cp ≤ 1114111))) && (!decide ((cp / 2048) = 27)))

theorem utf_Check_c (cp : Int) (R : Bool) (hR : utf_Check cp = R) : ConV Tryz.prog 136 [iv cp] [] (bv R) := by
 refine con_of_J (n := 14) Tryz.func136 rfl (by kernel_rfl) rfl rfl [(0, iv cp)] ⟨rfl, trivial⟩ fun X hX hr hD => ?_
 replace hR := (utf_Check.eq_1 ..).symm.trans hR
 refine sr 1 rfl ?_
 refine ip 1 0 [] (by kernel_rfl) ?_
 refine ie ?_
 refine sr 12 rfl ?_
 refine ip 3 9 [(5, bv (decide ((0 : Int) ≤ cp)))] (by kernel_rfl) ?_
 refine iand 3 6 5 8 (decide (cp ≤ 1114111)) rfl (by kernel_rfl) (fun g1 => ?_) ?_
 ·have g1p : (0 : Int) ≤ cp := by simpa using g1
  refine ip 3 0 [(8, bv (decide (cp ≤ 1114111)))] (by kernel_rfl) ?_
  exact JI_end (armI 2 5 8 g1 Foll.nil (mk [] rfl) rfl rfl rfl rfl rfl)
 refine ip 1 5 [(9, bv ((decide ((0 : Int) ≤ cp)) && (decide (cp ≤ 1114111))))] (by kernel_rfl) ?_
 refine iand 4 1 9 13 (!decide ((cp / 2048) = 27)) rfl (by kernel_rfl) (fun g2 => ?_) ?_
 ·have g2p : ((0 : Int) ≤ cp) ∧ (cp ≤ 1114111) := by simpa using g2
  refine ip 1 3 [(10, iv cp)] (by kernel_rfl) ?_
  refine ix rfl (det_shr (c := cp / 2048) rfl rfl rfl (by decide) (by simp [Int.fdiv_eq_ediv_of_nonneg, IntKind.bits])) ?_
  refine ip 2 0 [(13, bv (!decide ((cp / 2048) = 27)))] (by kernel_rfl) ?_
  exact JI_end (armI 4 9 13 g2 Foll.nil (mk [] rfl) rfl rfl rfl rfl rfl)
 refine ip 1 0 [(2, bv (((decide ((0 : Int) ≤ cp)) && (decide (cp ≤ 1114111))) && (!decide ((cp / 2048) = 27))))] (by kernel_rfl) ?_
 refine ie ?_
 refine J_ret ?_
 subst hR
 exact ends_ret rfl ⟨hr, hD⟩ (by simp [hD]) (res1 rfl (resV_tmp rfl)) () (by rfl) (mk [] rfl) Foll.nil

def utf_Put_1 (shift : Nat) (p1 : Int) : UInt8 :=
 (by8 (bOp .or .u8 128 ((by8 (bOp .and .u8 ((by8 (IntKind.u8.wrap (Int.fdiv p1 (2 ^ (min ((shift : Int)).toNat 64))))).toNat : Int) 63)).toNat : Int)))

theorem utf_Put_1_c (shift : Nat) (p1 : Int) (p1b : Nat) (R : UInt8) (hR : utf_Put_1 shift p1 = R) : Con Tryz.prog 146 [iv (shift : Int), pt p1b 0] [bx p1b [iv p1] 3] [] (Unit) (fun x => .int .u8 (R.toNat : Int)) (fun x => [bx p1b [iv p1] 3]) (fun x => []) := by
 refine con_of_J (n := 10) Tryz.func146 rfl (by kernel_rfl) rfl rfl [(0, iv (shift : Int)), (1, pt p1b 0)] ⟨rfl, rfl, trivial⟩ fun X hX hr hD => ?_
 replace hR := (utf_Put_1.eq_1 ..).symm.trans hR
 refine sr 1 rfl ?_
 refine ip 1 0 [] (by kernel_rfl) ?_
 refine ie ?_
 refine sr 7 rfl ?_
 refine ix rfl (det_own_one (v := iv p1) ty3 rfl rfl 0 rfl rfl) ?_
 refine ip 1 5 [(5, iv (shift : Int))] (by kernel_rfl) ?_
 refine ix rfl (det_shr rfl rfl rfl (by omega) rfl) ?_
 refine ix rfl (det_conv (v := .int .u8 (IntKind.u8.wrap (Int.fdiv p1 (2 ^ (min ((shift : Int)).toNat 64))))) (DetR.pure rfl) (u8_wrap)) ?_
 refine ix rfl (det_conv (v := .int .u8 (bOp .and .u8 ((by8 (IntKind.u8.wrap (Int.fdiv p1 (2 ^ (min ((shift : Int)).toNat 64))))).toNat : Int) 63)) (DetR.pure rfl) (u8_bop)) ?_
 refine ix rfl (det_conv (v := .int .u8 (bOp .or .u8 128 ((by8 (bOp .and .u8 ((by8 (IntKind.u8.wrap (Int.fdiv p1 (2 ^ (min ((shift : Int)).toNat 64))))).toNat : Int) 63)).toNat : Int))) (DetR.pure rfl) (u8_bop)) ?_
 refine ip 1 0 [(3, .int .u8 ((by8 (bOp .or .u8 128 ((by8 (bOp .and .u8 ((by8 (IntKind.u8.wrap (Int.fdiv p1 (2 ^ (min ((shift : Int)).toNat 64))))).toNat : Int) 63)).toNat : Int))).toNat : Int))] (by kernel_rfl) ?_
 refine ie ?_
 refine J_ret ?_
 subst hR
 exact ends_ret rfl ⟨hr, hD⟩ (by simp [hD]) (res1 rfl (resV_tmp rfl)) () (by rfl) (mk [true] rfl) Foll.nil

def utf_Put_j0 (cp1 : Int) : List UInt8 :=
 (bif (decide (cp1 < 128)) then ([(by8 (IntKind.u8.wrap cp1))] : List UInt8) else (bif (decide (cp1 < 2048)) then ([(by8 (bOp .or .u8 192 ((by8 (IntKind.u8.wrap (cp1 / 64))).toNat : Int))), (utf_Put_1 0 cp1)] : List UInt8) else (bif (decide (cp1 < 65536)) then ([(by8 (bOp .or .u8 224 ((by8 (IntKind.u8.wrap (cp1 / 4096))).toNat : Int))), (utf_Put_1 6 cp1), (utf_Put_1 0 cp1)] : List UInt8) else ([(by8 (bOp .or .u8 240 ((by8 (IntKind.u8.wrap (cp1 / 262144))).toNat : Int))), (utf_Put_1 12 cp1), (utf_Put_1 6 cp1), (utf_Put_1 0 cp1)] : List UInt8))))
def utf_Put (cp : Int) : List UInt8 :=
 (bif (!(utf_Check cp)) then utf_Put_j0 65533 else utf_Put_j0 cp)

theorem utf_Put_len (cp : Int) : (utf_Put cp).length ≤ 4 := by
 unfold utf_Put utf_Put_j0
 simp only [Bool.cond_eq_ite]
 repeat' split
 all_goals simp

theorem utf_Put_c (cp : Int) (R : List UInt8) (hR : utf_Put cp = R) : ConV Tryz.prog 104 [iv cp] [] (sv R) := by
 refine con_of_J (n := 51) Tryz.func104 rfl (by kernel_rfl) rfl rfl [(0, iv cp)] ⟨rfl, trivial⟩ fun X hX hr hD => ?_
 replace hR := (utf_Put.eq_1 ..).symm.trans hR
 refine sr 2 rfl ?_
 refine it rfl (tri_box (cs := [iv cp]) rfl rfl rfl) fun b1 => ?_
 refine ip 1 0 [] (by kernel_rfl) ?_
 refine ie ?_
 refine JS1 (fun (cp1 : Int) => utf_Put_j0 cp1 = R) (fun (cp1 : Int) => [(1, pt b1 0)]) (fun (cp1 : Int) => [bx b1 [iv cp1] 3]) (fun (cp1 : Int) => []) ?_ ?_
 ·refine sr 3 rfl ?_
  refine ix rfl (det_own_one (v := iv cp) ty3 rfl rfl 0 rfl rfl) ?_
  refine ixc rfl (det_call (utf_Check_c cp _ rfl) rfl rfl rfl rfl rfl Foll.nil) ?_
  refine ip 1 0 [(6, bv (!(utf_Check cp)))] (by kernel_rfl) ?_
  refine ie ?_
  refine J_if rfl (fun h2 => ?_) (fun h2 => ?_)
  ·replace hR := bt hR h2
   refine J_region 1 rfl ?_
   refine it rfl (tri_store (us := [iv 65533]) (cs' := [iv 65533]) ty3 rfl rfl rfl 0 rfl rfl rfl rfl rfl rfl) fun _ => ?_
   refine JI_end ?_
   exact meet1 65533 hR ⟨rfl, trivial⟩ (mk [true] rfl) Foll.nil
  ·replace hR := bf hR h2
   refine J_skip ?_
   exact meet1 cp hR ⟨rfl, trivial⟩ (mk [true] rfl) Foll.nil
 ·intro cp1
  rintro hR
  replace hR := (utf_Put_j0.eq_1 ..).symm.trans hR
  refine sr 2 rfl ?_
  refine ip 2 0 [(3, .func (.func 146) #[] #[pt b1 0])] (by kernel_rfl) ?_
  refine ie ?_
  refine J_seq ?_
  refine J_block ?_
  refine sr 3 rfl ?_
  refine ix rfl (det_own_one (v := iv cp1) ty3 rfl rfl 0 rfl rfl) ?_
  refine ip 2 0 [(8, bv (decide (cp1 < 128)))] (by kernel_rfl) ?_
  refine ie ?_
  refine J_if rfl (fun h3 => ?_) (fun h3 => ?_)
  ·have h3p : cp1 < 128 := by simpa using h3
   replace hR := bt hR h3
   refine sr 5 rfl ?_
   refine ix rfl (det_own_one (v := iv cp1) ty3 rfl rfl 0 rfl rfl) ?_
   refine ix rfl (det_conv (v := .int .u8 (IntKind.u8.wrap cp1)) (DetR.pure rfl) (u8_wrap)) ?_
   refine it rfl (tri_buildSl (c := cU8) (xs := ([(by8 (IntKind.u8.wrap cp1))] : List UInt8)) slt30 rfl rfl rfl (by kernel_rfl)) fun b4 => ?_
   have : ([(by8 (IntKind.u8.wrap cp1))] : List UInt8).length = 1 := rfl
   refine ix rfl (det_b2s Tryz.underlying9 Tryz.underlying30 rfl rfl (at_of 0 rfl) rfl (by kernel_rfl)) ?_
   have : ([(by8 (IntKind.u8.wrap cp1))] : List UInt8).length = 1 := rfl
   refine ip 1 0 [(2, sv ([(by8 (IntKind.u8.wrap cp1))] : List UInt8))] (by kernel_rfl) ?_
   refine ie ?_
   refine J_ret ?_
   subst hR
   exact ends_ret rfl ⟨hr, hD⟩ (by simp [hD]) (res1 rfl (resV_tmp rfl)) () (by rfl) (mk [false] rfl) Foll.nil
  ·have h3p : ¬ (cp1 < 128) := by simpa using h3
   replace hR := bf hR h3
   refine sr 3 rfl ?_
   refine ix rfl (det_own_one (v := iv cp1) ty3 rfl rfl 0 rfl rfl) ?_
   refine ip 2 0 [(15, bv (decide (cp1 < 2048)))] (by kernel_rfl) ?_
   refine ie ?_
   refine J_if rfl (fun h5 => ?_) (fun h5 => ?_)
   ·have h5p : cp1 < 2048 := by simpa using h5
    replace hR := bt hR h5
    refine sh 9 [(9, [bx b1 [iv cp1] 3])] [] [bx b1 [iv cp1] 3] #[false, false, false, false, false, false, false, false, false] (by kernel_rfl) rfl (by kernel_rfl) (by kernel_rfl) (by kernel_rfl) (mk [true] rfl) Foll.refl ?_
    refine hpur [4] 8 #[false, false, false, false, true, false, false, false, false] [(22, .func (.func 146) #[] #[pt b1 0])] (by kernel_rfl) ?_
    refine htak 0 [bx b1 [iv cp1] 3] #[true, false, false, false, true, false, false, false, false] rfl rfl rfl (by kernel_rfl) (by kernel_rfl) (by kernel_rfl) (det_own_one (v := iv cp1) ty3 rfl rfl 0 rfl rfl) ?_
    refine htak 1 [bx b1 [iv cp1] 3] #[true, true, false, false, true, false, false, false, false] rfl rfl rfl (by kernel_rfl) (by kernel_rfl) (by kernel_rfl) (det_shr (c := cp1 / 64) rfl rfl rfl (by decide) (by simp [Int.fdiv_eq_ediv_of_nonneg, IntKind.bits])) ?_
    refine htak 2 [bx b1 [iv cp1] 3] #[true, true, true, false, true, false, false, false, false] rfl rfl rfl (by kernel_rfl) (by kernel_rfl) (by kernel_rfl) (det_conv (v := .int .u8 (IntKind.u8.wrap (cp1 / 64))) (DetR.pure rfl) (u8_wrap)) ?_
    refine htak 3 [bx b1 [iv cp1] 3] #[true, true, true, true, true, false, false, false, false] rfl rfl rfl (by kernel_rfl) (by kernel_rfl) (by kernel_rfl) (det_conv (v := .int .u8 (bOp .or .u8 192 ((by8 (IntKind.u8.wrap (cp1 / 64))).toNat : Int))) (DetR.pure rfl) (u8_bop)) ?_
    refine hone 5 [bx b1 [iv cp1] 3] #[true, true, true, true, true, true, false, false, false] rfl rfl rfl (by kernel_rfl) (by kernel_rfl) (by kernel_rfl) (tri_callN (L2 := []) (utf_Put_1_c 0 cp1 b1 _ rfl) rfl rfl rfl rfl rfl Foll.nil (permC [[bx b1 [iv cp1] 3]] [0] 1 rfl (by decide) rfl [[bx b1 [iv cp1] 3]] rfl (by first | rfl | simp only [List.flatten_cons, List.flatten_nil, List.append_nil, List.cons_append, List.nil_append, List.append_assoc])) (fun _ => [bx b1 [iv cp1] 3]) (fun _ => rfl)) (fun _ => (mk [true] rfl)) (fun _ => Foll.nil) fun _ => ?_
    refine hone 6 [bx b1 [iv cp1] 3] #[true, true, true, true, true, true, true, false, false] rfl rfl rfl (by kernel_rfl) (by kernel_rfl) (by kernel_rfl) (tri_buildSl (c := cU8) (xs := ([(by8 (bOp .or .u8 192 ((by8 (IntKind.u8.wrap (cp1 / 64))).toNat : Int))), (utf_Put_1 0 cp1)] : List UInt8)) slt30 rfl rfl rfl (by kernel_rfl)) (fun b6 => (mk [true] rfl)) (fun b6 => Foll.nil) fun b6 => ?_
    have : ([(by8 (bOp .or .u8 192 ((by8 (IntKind.u8.wrap (cp1 / 64))).toNat : Int))), (utf_Put_1 0 cp1)] : List UInt8).length = 2 := rfl
    refine hone 7 [bx b1 [iv cp1] 3] #[true, true, true, true, true, true, true, true, false] rfl rfl rfl (by kernel_rfl) (by kernel_rfl) (by kernel_rfl) (Det.tri (DetR.det (det_b2s Tryz.underlying9 Tryz.underlying30 rfl rfl (at_of 0 rfl) rfl (by kernel_rfl)))) (fun _ => (mk [true] rfl)) (fun _ => Foll.nil) fun _ => ?_
    have : ([(by8 (bOp .or .u8 192 ((by8 (IntKind.u8.wrap (cp1 / 64))).toNat : Int))), (utf_Put_1 0 cp1)] : List UInt8).length = 2 := rfl
    refine hpur [8] 0 #[true, true, true, true, true, true, true, true, true] [(2, sv ([(by8 (bOp .or .u8 192 ((by8 (IntKind.u8.wrap (cp1 / 64))).toNat : Int))), (utf_Put_1 0 cp1)] : List UInt8))] (by kernel_rfl) ?_
    refine hend (by kernel_rfl) ?_
    refine J_ret ?_
    subst hR
    exact ends_ret rfl ⟨hr, hD⟩ (by simp [hD]) (res1 rfl (resV_tmp rfl)) () (by rfl) (mk [false] rfl) Foll.nil
   ·have h5p : ¬ (cp1 < 2048) := by simpa using h5
    replace hR := bf hR h5
    refine sr 3 rfl ?_
    refine ix rfl (det_own_one (v := iv cp1) ty3 rfl rfl 0 rfl rfl) ?_
    refine ip 2 0 [(26, bv (decide (cp1 < 65536)))] (by kernel_rfl) ?_
    refine ie ?_
    refine J_if rfl (fun h7 => ?_) (fun h7 => ?_)
    ·have h7p : cp1 < 65536 := by simpa using h7
     replace hR := bt hR h7
     refine sh 11 [(11, [bx b1 [iv cp1] 3])] [] [bx b1 [iv cp1] 3] #[false, false, false, false, false, false, false, false, false, false, false] (by kernel_rfl) rfl (by kernel_rfl) (by kernel_rfl) (by kernel_rfl) (mk [true] rfl) Foll.refl ?_
     refine hpur [4, 6] 9 #[false, false, false, false, true, false, true, false, false, false, false] [(33, .func (.func 146) #[] #[pt b1 0]), (35, .func (.func 146) #[] #[pt b1 0])] (by kernel_rfl) ?_
     refine htak 0 [bx b1 [iv cp1] 3] #[true, false, false, false, true, false, true, false, false, false, false] rfl rfl rfl (by kernel_rfl) (by kernel_rfl) (by kernel_rfl) (det_own_one (v := iv cp1) ty3 rfl rfl 0 rfl rfl) ?_
     refine htak 1 [bx b1 [iv cp1] 3] #[true, true, false, false, true, false, true, false, false, false, false] rfl rfl rfl (by kernel_rfl) (by kernel_rfl) (by kernel_rfl) (det_shr (c := cp1 / 4096) rfl rfl rfl (by decide) (by simp [Int.fdiv_eq_ediv_of_nonneg, IntKind.bits])) ?_
     refine htak 2 [bx b1 [iv cp1] 3] #[true, true, true, false, true, false, true, false, false, false, false] rfl rfl rfl (by kernel_rfl) (by kernel_rfl) (by kernel_rfl) (det_conv (v := .int .u8 (IntKind.u8.wrap (cp1 / 4096))) (DetR.pure rfl) (u8_wrap)) ?_
     refine htak 3 [bx b1 [iv cp1] 3] #[true, true, true, true, true, false, true, false, false, false, false] rfl rfl rfl (by kernel_rfl) (by kernel_rfl) (by kernel_rfl) (det_conv (v := .int .u8 (bOp .or .u8 224 ((by8 (IntKind.u8.wrap (cp1 / 4096))).toNat : Int))) (DetR.pure rfl) (u8_bop)) ?_
     refine hone 5 [bx b1 [iv cp1] 3] #[true, true, true, true, true, true, true, false, false, false, false] rfl rfl rfl (by kernel_rfl) (by kernel_rfl) (by kernel_rfl) (tri_callN (L2 := []) (utf_Put_1_c 6 cp1 b1 _ rfl) rfl rfl rfl rfl rfl Foll.nil (permC [[bx b1 [iv cp1] 3]] [0] 1 rfl (by decide) rfl [[bx b1 [iv cp1] 3]] rfl (by first | rfl | simp only [List.flatten_cons, List.flatten_nil, List.append_nil, List.cons_append, List.nil_append, List.append_assoc])) (fun _ => [bx b1 [iv cp1] 3]) (fun _ => rfl)) (fun _ => (mk [true] rfl)) (fun _ => Foll.nil) fun _ => ?_
     refine hone 7 [bx b1 [iv cp1] 3] #[true, true, true, true, true, true, true, true, false, false, false] rfl rfl rfl (by kernel_rfl) (by kernel_rfl) (by kernel_rfl) (tri_callN (L2 := []) (utf_Put_1_c 0 cp1 b1 _ rfl) rfl rfl rfl rfl rfl Foll.nil (permC [[bx b1 [iv cp1] 3]] [0] 1 rfl (by decide) rfl [[bx b1 [iv cp1] 3]] rfl (by first | rfl | simp only [List.flatten_cons, List.flatten_nil, List.append_nil, List.cons_append, List.nil_append, List.append_assoc])) (fun _ => [bx b1 [iv cp1] 3]) (fun _ => rfl)) (fun _ => (mk [true] rfl)) (fun _ => Foll.nil) fun _ => ?_
     refine hone 8 [bx b1 [iv cp1] 3] #[true, true, true, true, true, true, true, true, true, false, false] rfl rfl rfl (by kernel_rfl) (by kernel_rfl) (by kernel_rfl) (tri_buildSl (c := cU8) (xs := ([(by8 (bOp .or .u8 224 ((by8 (IntKind.u8.wrap (cp1 / 4096))).toNat : Int))), (utf_Put_1 6 cp1), (utf_Put_1 0 cp1)] : List UInt8)) slt30 rfl rfl rfl (by kernel_rfl)) (fun b8 => (mk [true] rfl)) (fun b8 => Foll.nil) fun b8 => ?_
     have : ([(by8 (bOp .or .u8 224 ((by8 (IntKind.u8.wrap (cp1 / 4096))).toNat : Int))), (utf_Put_1 6 cp1), (utf_Put_1 0 cp1)] : List UInt8).length = 3 := rfl
     refine hone 9 [bx b1 [iv cp1] 3] #[true, true, true, true, true, true, true, true, true, true, false] rfl rfl rfl (by kernel_rfl) (by kernel_rfl) (by kernel_rfl) (Det.tri (DetR.det (det_b2s Tryz.underlying9 Tryz.underlying30 rfl rfl (at_of 0 rfl) rfl (by kernel_rfl)))) (fun _ => (mk [true] rfl)) (fun _ => Foll.nil) fun _ => ?_
     have : ([(by8 (bOp .or .u8 224 ((by8 (IntKind.u8.wrap (cp1 / 4096))).toNat : Int))), (utf_Put_1 6 cp1), (utf_Put_1 0 cp1)] : List UInt8).length = 3 := rfl
     refine hpur [10] 0 #[true, true, true, true, true, true, true, true, true, true, true] [(2, sv ([(by8 (bOp .or .u8 224 ((by8 (IntKind.u8.wrap (cp1 / 4096))).toNat : Int))), (utf_Put_1 6 cp1), (utf_Put_1 0 cp1)] : List UInt8))] (by kernel_rfl) ?_
     refine hend (by kernel_rfl) ?_
     refine J_ret ?_
     subst hR
     exact ends_ret rfl ⟨hr, hD⟩ (by simp [hD]) (res1 rfl (resV_tmp rfl)) () (by rfl) (mk [false] rfl) Foll.nil
    ·have h7p : ¬ (cp1 < 65536) := by simpa using h7
     replace hR := bf hR h7
     refine J_skip ?_
     refine nx ?_
     refine sh 13 [(13, [bx b1 [iv cp1] 3])] [] [bx b1 [iv cp1] 3] #[false, false, false, false, false, false, false, false, false, false, false, false, false] (by kernel_rfl) rfl (by kernel_rfl) (by kernel_rfl) (by kernel_rfl) (mk [true] rfl) Foll.refl ?_
     refine hpur [4, 6, 8] 10 #[false, false, false, false, true, false, true, false, true, false, false, false, false] [(43, .func (.func 146) #[] #[pt b1 0]), (45, .func (.func 146) #[] #[pt b1 0]), (47, .func (.func 146) #[] #[pt b1 0])] (by kernel_rfl) ?_
     refine htak 0 [bx b1 [iv cp1] 3] #[true, false, false, false, true, false, true, false, true, false, false, false, false] rfl rfl rfl (by kernel_rfl) (by kernel_rfl) (by kernel_rfl) (det_own_one (v := iv cp1) ty3 rfl rfl 0 rfl rfl) ?_
     refine htak 1 [bx b1 [iv cp1] 3] #[true, true, false, false, true, false, true, false, true, false, false, false, false] rfl rfl rfl (by kernel_rfl) (by kernel_rfl) (by kernel_rfl) (det_shr (c := cp1 / 262144) rfl rfl rfl (by decide) (by simp [Int.fdiv_eq_ediv_of_nonneg, IntKind.bits])) ?_
     refine htak 2 [bx b1 [iv cp1] 3] #[true, true, true, false, true, false, true, false, true, false, false, false, false] rfl rfl rfl (by kernel_rfl) (by kernel_rfl) (by kernel_rfl) (det_conv (v := .int .u8 (IntKind.u8.wrap (cp1 / 262144))) (DetR.pure rfl) (u8_wrap)) ?_
     refine htak 3 [bx b1 [iv cp1] 3] #[true, true, true, true, true, false, true, false, true, false, false, false, false] rfl rfl rfl (by kernel_rfl) (by kernel_rfl) (by kernel_rfl) (det_conv (v := .int .u8 (bOp .or .u8 240 ((by8 (IntKind.u8.wrap (cp1 / 262144))).toNat : Int))) (DetR.pure rfl) (u8_bop)) ?_
     refine hone 5 [bx b1 [iv cp1] 3] #[true, true, true, true, true, true, true, false, true, false, false, false, false] rfl rfl rfl (by kernel_rfl) (by kernel_rfl) (by kernel_rfl) (tri_callN (L2 := []) (utf_Put_1_c 12 cp1 b1 _ rfl) rfl rfl rfl rfl rfl Foll.nil (permC [[bx b1 [iv cp1] 3]] [0] 1 rfl (by decide) rfl [[bx b1 [iv cp1] 3]] rfl (by first | rfl | simp only [List.flatten_cons, List.flatten_nil, List.append_nil, List.cons_append, List.nil_append, List.append_assoc])) (fun _ => [bx b1 [iv cp1] 3]) (fun _ => rfl)) (fun _ => (mk [true] rfl)) (fun _ => Foll.nil) fun _ => ?_
     refine hone 7 [bx b1 [iv cp1] 3] #[true, true, true, true, true, true, true, true, true, false, false, false, false] rfl rfl rfl (by kernel_rfl) (by kernel_rfl) (by kernel_rfl) (tri_callN (L2 := []) (utf_Put_1_c 6 cp1 b1 _ rfl) rfl rfl rfl rfl rfl Foll.nil (permC [[bx b1 [iv cp1] 3]] [0] 1 rfl (by decide) rfl [[bx b1 [iv cp1] 3]] rfl (by first | rfl | simp only [List.flatten_cons, List.flatten_nil, List.append_nil, List.cons_append, List.nil_append, List.append_assoc])) (fun _ => [bx b1 [iv cp1] 3]) (fun _ => rfl)) (fun _ => (mk [true] rfl)) (fun _ => Foll.nil) fun _ => ?_
     refine hone 9 [bx b1 [iv cp1] 3] #[true, true, true, true, true, true, true, true, true, true, false, false, false] rfl rfl rfl (by kernel_rfl) (by kernel_rfl) (by kernel_rfl) (tri_callN (L2 := []) (utf_Put_1_c 0 cp1 b1 _ rfl) rfl rfl rfl rfl rfl Foll.nil (permC [[bx b1 [iv cp1] 3]] [0] 1 rfl (by decide) rfl [[bx b1 [iv cp1] 3]] rfl (by first | rfl | simp only [List.flatten_cons, List.flatten_nil, List.append_nil, List.cons_append, List.nil_append, List.append_assoc])) (fun _ => [bx b1 [iv cp1] 3]) (fun _ => rfl)) (fun _ => (mk [true] rfl)) (fun _ => Foll.nil) fun _ => ?_
     refine hone 10 [bx b1 [iv cp1] 3] #[true, true, true, true, true, true, true, true, true, true, true, false, false] rfl rfl rfl (by kernel_rfl) (by kernel_rfl) (by kernel_rfl) (tri_buildSl (c := cU8) (xs := ([(by8 (bOp .or .u8 240 ((by8 (IntKind.u8.wrap (cp1 / 262144))).toNat : Int))), (utf_Put_1 12 cp1), (utf_Put_1 6 cp1), (utf_Put_1 0 cp1)] : List UInt8)) slt30 rfl rfl rfl (by kernel_rfl)) (fun b9 => (mk [true] rfl)) (fun b9 => Foll.nil) fun b9 => ?_
     have : ([(by8 (bOp .or .u8 240 ((by8 (IntKind.u8.wrap (cp1 / 262144))).toNat : Int))), (utf_Put_1 12 cp1), (utf_Put_1 6 cp1), (utf_Put_1 0 cp1)] : List UInt8).length = 4 := rfl
     refine hone 11 [bx b1 [iv cp1] 3] #[true, true, true, true, true, true, true, true, true, true, true, true, false] rfl rfl rfl (by kernel_rfl) (by kernel_rfl) (by kernel_rfl) (Det.tri (DetR.det (det_b2s Tryz.underlying9 Tryz.underlying30 rfl rfl (at_of 0 rfl) rfl (by kernel_rfl)))) (fun _ => (mk [true] rfl)) (fun _ => Foll.nil) fun _ => ?_
     have : ([(by8 (bOp .or .u8 240 ((by8 (IntKind.u8.wrap (cp1 / 262144))).toNat : Int))), (utf_Put_1 12 cp1), (utf_Put_1 6 cp1), (utf_Put_1 0 cp1)] : List UInt8).length = 4 := rfl
     refine hpur [12] 0 #[true, true, true, true, true, true, true, true, true, true, true, true, true] [(2, sv ([(by8 (bOp .or .u8 240 ((by8 (IntKind.u8.wrap (cp1 / 262144))).toNat : Int))), (utf_Put_1 12 cp1), (utf_Put_1 6 cp1), (utf_Put_1 0 cp1)] : List UInt8))] (by kernel_rfl) ?_
     refine hend (by kernel_rfl) ?_
     refine J_ret ?_
     subst hR
     exact ends_ret rfl ⟨hr, hD⟩ (by simp [hD]) (res1 rfl (resV_tmp rfl)) () (by rfl) (mk [false] rfl) Foll.nil

def strings_Builder_WriteStringa (bbuf : List UInt8) (s : List UInt8) : List UInt8 × Int :=
 ((bbuf ++ s), (s.length : Int))

theorem strings_Builder_WriteStringa_len (bbuf s : List UInt8) : (strings_Builder_WriteStringa bbuf s).1.length = bbuf.length + s.length := by simp [strings_Builder_WriteStringa]

theorem strings_Builder_WriteStringa_c (bbuf : List UInt8) (s : List UInt8) (bb : Nat) (baddrz : Option Addr) (bbufr : VR) (hzbaddrz : baddrz = none ∨ baddrz = some ⟨bb, 0, none⟩) (hokbbufr : VOk 1 bbuf.length bbufr) (hb : bbuf.length + s.length ≤ 140737488355328) (R : List UInt8 × Int) (hR : strings_Builder_WriteStringa bbuf s = R) : Con Tryz.prog 62 [pt bb 0, sv s] (bx bb [.pointer baddrz, .slice (va bbufr.q) bbuf.length bbufr.k] 109 :: (vo cU8 5 bbufr bbuf) ++ ([])) [] ({r : VR // VOk 1 R.1.length r}) (fun x => .tuple #[iv R.2, .nilIface]) (fun x => (bx bb [pt bb 0, .slice (va x.1.q) R.1.length x.1.k] 109 :: (vo cU8 5 x.1 R.1) ++ ([]))) (fun x => []) := by
 refine con_of_J (n := 19) Tryz.func62 rfl (by kernel_rfl) rfl rfl [(0, pt bb 0), (1, sv s)] ⟨rfl, rfl, trivial⟩ fun X hX hr hD => ?_
 replace hR := (strings_Builder_WriteStringa.eq_1 ..).symm.trans hR
 have := VOk.le hokbbufr
 refine sr 2 rfl ?_
 refine ip 2 0 [] (by kernel_rfl) ?_
 refine ie ?_
 refine sr 2 rfl ?_
 refine ip 1 1 [(6, pt bb 0)] (by kernel_rfl) ?_
 refine it rfl (tri_callN (L2 := ((vo cU8 5 bbufr bbuf) ++ ([]))) (copyCheck_p bb (.slice (va bbufr.q) bbuf.length bbufr.k) baddrz hzbaddrz) rfl rfl rfl rfl rfl Foll.nil (permC [[bx bb [.pointer baddrz, .slice (va bbufr.q) bbuf.length bbufr.k] 109], vo cU8 5 bbufr bbuf] [0, 1] 2 rfl (by decide) rfl [[bx bb [.pointer baddrz, .slice (va bbufr.q) bbuf.length bbufr.k] 109], vo cU8 5 bbufr bbuf] rfl (by first | rfl | simp only [List.flatten_cons, List.flatten_nil, List.append_nil, List.cons_append, List.nil_append, List.append_assoc])) (fun _ => (bx bb [pt bb 0, .slice (va bbufr.q) bbuf.length bbufr.k] 109 :: (vo cU8 5 bbufr bbuf) ++ ([]))) (fun _ => by first | rfl | simp only [List.append_nil, List.cons_append, List.nil_append, List.append_assoc])) fun _ => ?_
 refine ie ?_
 refine sr 10 rfl ?_
 refine ip 4 6 [(8, pt bb 0), (11, pt bb 1)] (by kernel_rfl) ?_
 refine ix rfl (det_own_one (v := .slice (va bbufr.q) bbuf.length bbufr.k) ty30 rfl rfl 0 rfl rfl) ?_
 refine ip 1 4 [(13, sv s)] (by kernel_rfl) ?_
 refine it rfl (tri_app_str (r := bbufr) (xs := bbuf) (s := s) (pre := [bx bb [pt bb 0, .slice (va bbufr.q) bbuf.length bbufr.k] 109]) (post := []) apt30 (by kernel_rfl) Tryz.underlying9 rfl rfl rfl rfl rfl rfl rfl hokbbufr (by first | omega | (simp <;> omega))) fun ⟨r1, hr2⟩ => ?_
 have : (bbuf ++ s).length = bbuf.length + s.length := List.length_append
 have := VOk.le hr2
 have := VOk.cap hr2
 refine ip 2 1 [(16, pt bb 1)] (by kernel_rfl) ?_
 refine it rfl (tri_store (us := [.slice (va r1.q) ((bbuf ++ s).length) r1.k]) (cs' := [pt bb 0, .slice (va r1.q) ((bbuf ++ s).length) r1.k]) ty30 rfl rfl rfl 0 rfl rfl rfl rfl rfl rfl) fun _ => ?_
 refine ie ?_
 refine sr 4 rfl ?_
 refine ip 4 0 [(4, iv (s.length : Int)), (5, .nilIface)] (by kernel_rfl) ?_
 refine ie ?_
 refine J_ret ?_
 subst hR
 exact ends_ret rfl ⟨hr, hD⟩ (by simp [hD]) (res2 rfl (resV_tmp rfl) (resV_tmp rfl)) ⟨r1, hr2⟩ (by rfl) (mc [[bx bb [pt bb 0, .slice (va r1.q) ((bbuf ++ s).length) r1.k] 109], vo cU8 5 r1 (bbuf ++ s)] [true, true] rfl (by first | rfl | (simp only [List.length_set] <;> rfl))) Foll.nil

def utf_Text_l0 : List Int → Nat → List UInt8 → List UInt8
 | [], t8, bbuf => bbuf
 | hd_l0 :: tl_l0, t8, bbuf => (bindV (utf_Put hd_l0) fun (y3 : List UInt8) => (bindV (strings_Builder_WriteStringa bbuf y3) fun (y1 : List UInt8 × Int) => utf_Text_l0 tl_l0 (t8 + 1) y1.1))
def utf_Text (codes : List Int) : List UInt8 :=
 utf_Text_l0 codes 0 ([] : List UInt8)

theorem utf_Text_c (codes : List Int) (codesq : Option Addr) (codesk : Nat) (hlcodes : codes.length ≤ 9223372036854775807) (hccodes : codes.length ≤ codesk) (hp : codes.length ≤ 1000000000) (R : List UInt8) (hR : utf_Text codes = R) : ConV Tryz.prog 218 [.slice codesq codes.length codesk] [sl cInt codesq codes] (sv R) := by
 refine con_of_J (n := 17) Tryz.func218 rfl (by kernel_rfl) rfl rfl [(0, .slice codesq codes.length codesk)] ⟨rfl, trivial⟩ fun X hX hr hD => ?_
 replace hR := (utf_Text.eq_1 ..).symm.trans hR
 refine sr 1 rfl ?_
 refine ip 1 0 [] (by kernel_rfl) ?_
 refine ie ?_
 refine sr 1 rfl ?_
 refine it rfl (tri_alloc (cs := [.pointer none, .slice none 0 0]) zero109 rfl) fun b1 => ?_
 refine ie ?_
 refine J_seq ?_
 refine sr 3 rfl ?_
 refine ip 3 0 [(6, .slice codesq codes.length codesk), (7, iv (codes.length : Int)), (8, iv 0)] (by kernel_rfl) ?_
 refine ie ?_
 refine J_block ?_
 refine JQ_perm (permC [vo cU8 5 VR.nil ([] : List UInt8), [bx b1 [.pointer none, .slice none 0 0] 109]] [1, 0] 2 rfl (by decide) rfl [[bx b1 [.pointer none, .slice none 0 0] 109], vo cU8 5 VR.nil ([] : List UInt8)] rfl (by first | rfl | simp)) ?_
 refine JL4 (fun (t8 : Nat) (baddrz : Option Addr) (bbuf : List UInt8) (bbufr : VR) => t8 ≤ codes.length ∧ utf_Text_l0 (codes.drop t8) t8 bbuf = R ∧ (baddrz = none ∨ baddrz = some ⟨b1, 0, none⟩) ∧ VOk 1 bbuf.length bbufr ∧ bbuf.length ≤ 4 * t8) (fun (t8 : Nat) (baddrz : Option Addr) (bbuf : List UInt8) (bbufr : VR) => [(3, pt b1 0), (6, .slice codesq codes.length codesk), (7, iv (codes.length : Int)), (8, iv (t8 : Int))]) (fun (t8 : Nat) (baddrz : Option Addr) (bbuf : List UInt8) (bbufr : VR) => (bx b1 [.pointer baddrz, .slice (va bbufr.q) bbuf.length bbufr.k] 109 :: (vo cU8 5 bbufr bbuf) ++ ([]))) (fun (t8 : Nat) (baddrz : Option Addr) (bbuf : List UInt8) (bbufr : VR) => [sl cInt codesq codes]) (fun (t8 : Nat) (baddrz : Option Addr) (bbuf : List UInt8) (bbufr : VR) => codes.length - t8) 0 none ([] : List UInt8) VR.nil ⟨(by omega), hR, (.inl rfl), VOk.nil, (by simp)⟩ ⟨rfl, rfl, rfl, (by first | rfl | (simp only [List.length_set]; rfl) | (simp; done) | (simp; omega)), trivial⟩ (mc [[bx b1 [.pointer none, .slice none 0 0] 109], vo cU8 5 VR.nil ([] : List UInt8)] [true, true] rfl (by first | rfl | (simp only [List.length_set] <;> rfl))) Foll.refl ?_
 rintro t8 baddrz bbuf bbufr ⟨hm2, hR, hzbaddrz, hokbbufr, hg⟩
 have := VOk.le hokbbufr
 refine sr 1 rfl ?_
 refine ip 1 0 [(9, bv (decide ((t8 : Int) < (codes.length : Int))))] (by kernel_rfl) ?_
 refine ie ?_
 refine J_seq ?_
 refine J_if rfl (fun h3 => ?_) (fun h3 => ?_)
 ·have h3p : (t8 : Int) < (codes.length : Int) := by simpa using h3
  rw [dropc 0 (show t8 < codes.length by omega)] at hR; replace hR := (utf_Text_l0.eq_2 ..).symm.trans hR
  refine J_skip ?_
  refine nx ?_
  refine J_seq ?_
  refine J_block ?_
  refine sr 3 rfl ?_
  refine JI_base 0 rfl (by omega) fun a4 hq5 => ?_
  refine ix rfl (det_ixq slt168 rfl rfl hq5 rfl t8 rfl (by omega)) ?_
  refine ix rfl (det_ld_one (v := iv (codes.getD t8 0)) (us := [iv (codes.getD t8 0)]) ty3 rfl rfl (at_slq (c := cInt) (sz := 1) hq5 (fun _ => rfl) 0 rfl (gd 0 (by omega))) rfl) ?_
  refine ip 1 0 [(5, iv (codes.getD t8 0))] (by kernel_rfl) ?_
  refine ie ?_
  refine J_region 3 rfl ?_
  refine ip 1 2 [(12, iv (codes.getD t8 0))] (by kernel_rfl) ?_
  have hQ := bindVx hR; clear hR; obtain ⟨y3, hy3, hR⟩ := hQ
  refine ixc rfl (det_call (utf_Put_c (codes.getD t8 0) y3 hy3) rfl rfl rfl rfl rfl Foll.nil) ?_
  have := utf_Put_len (codes.getD t8 0); try rw [hy3] at this
  have hQ := bindVx hR; clear hR; obtain ⟨y1, hy1, hR⟩ := hQ
  refine it rfl (tri_callN (L2 := []) (strings_Builder_WriteStringa_c bbuf y3 b1 baddrz bbufr hzbaddrz hokbbufr (by first | omega | (simp <;> omega)) y1 hy1) rfl rfl rfl rfl rfl Foll.nil (permC [[bx b1 [.pointer baddrz, .slice (va bbufr.q) bbuf.length bbufr.k] 109], vo cU8 5 bbufr bbuf] [0, 1] 2 rfl (by decide) rfl [[bx b1 [.pointer baddrz, .slice (va bbufr.q) bbuf.length bbufr.k] 109], vo cU8 5 bbufr bbuf] rfl (by first | rfl | simp only [List.flatten_cons, List.flatten_nil, List.append_nil, List.cons_append, List.nil_append, List.append_assoc])) (fun ⟨r6, hk7⟩ => (bx b1 [pt b1 0, .slice (va r6.q) y1.1.length r6.k] 109 :: (vo cU8 5 r6 y1.1) ++ ([]))) (fun _ => by first | rfl | simp only [List.append_nil, List.cons_append, List.nil_append, List.append_assoc])) fun ⟨r6, hk7⟩ => ?_
  have := VOk.le hk7
  have := VOk.cap hk7
  have := strings_Builder_WriteStringa_len bbuf y3; try rw [hy1] at this
  refine JI_end ?_
  refine nx ?_
  refine J_region 2 rfl ?_
  refine ix rfl (det_add64 rfl rfl rfl rfl (by omega)) ?_
  refine ip 1 0 [(8, iv ((t8 : Int) + 1))] (by kernel_rfl) ?_
  refine JI_end ?_
  exact againL4 (z1 := t8) (z2 := baddrz) (z3 := bbuf) (z4 := bbufr) (t8 + 1) (some ⟨b1, 0, none⟩) y1.1 r6 ⟨(by omega), hR, (.inr rfl), hk7, (by first | omega | (simp <;> omega))⟩ (by (try dsimp only); omega) ⟨rfl, rfl, rfl, (by first | rfl | (simp only [List.length_set]; rfl) | (simp; done) | (simp; omega)), trivial⟩ (mc [[bx b1 [pt b1 0, .slice (va r6.q) y1.1.length r6.k] 109], vo cU8 5 r6 y1.1] [true, true] rfl (by first | rfl | (simp only [List.length_set] <;> rfl))) Foll.refl
 ·have h3p : ¬ ((t8 : Int) < (codes.length : Int)) := by simpa using h3
  rw [dropn h3p] at hR; replace hR := (utf_Text_l0.eq_1 ..).symm.trans hR
  refine J_exit ?_
  refine nx ?_
  refine sr 2 rfl ?_
  refine it rfl (tri_callN (L2 := []) (String_c b1 (.pointer baddrz) bbuf bbufr hokbbufr) rfl rfl rfl rfl rfl Foll.nil (permC [[bx b1 [.pointer baddrz, .slice (va bbufr.q) bbuf.length bbufr.k] 109], vo cU8 5 bbufr bbuf] [0, 1] 2 rfl (by decide) rfl [[bx b1 [.pointer baddrz, .slice (va bbufr.q) bbuf.length bbufr.k] 109], vo cU8 5 bbufr bbuf] rfl (by first | rfl | simp only [List.flatten_cons, List.flatten_nil, List.append_nil, List.cons_append, List.nil_append, List.append_assoc])) (fun _ => []) (fun _ => rfl)) fun _ => ?_
  refine ip 1 0 [(2, sv bbuf)] (by kernel_rfl) ?_
  refine ie ?_
  refine J_ret ?_
  subst hR
  exact ends_ret rfl ⟨hr, hD⟩ (by simp [hD]) (res1 rfl (resV_tmp rfl)) () (by rfl) (mk [] rfl) Foll.nil

def utf_length (b : UInt8) : Int :=
 (bif ((decide ((240 : Int) ≤ (b.toNat : Int))) && (decide ((b.toNat : Int) ≤ 244))) then 4 else (bif ((decide ((224 : Int) ≤ (b.toNat : Int))) && (decide ((b.toNat : Int) < 240))) then 3 else (bif ((decide ((194 : Int) ≤ (b.toNat : Int))) && (decide ((b.toNat : Int) < 224))) then 2 else (bif (decide ((b.toNat : Int) < 128)) then 1 else 0))))

theorem utf_length_le (b : UInt8) : utf_length b ≤ 4 := by
 unfold utf_length; simp only [Bool.cond_eq_ite]; repeat' split
 all_goals omega

theorem utf_length_c (b : UInt8) (R : Int) (hR : utf_length b = R) : ConV Tryz.prog 257 [.int .u8 (b.toNat : Int)] [] (iv R) := by
 refine con_of_J (n := 36) Tryz.func257 rfl (by kernel_rfl) rfl rfl [(0, .int .u8 (b.toNat : Int))] ⟨rfl, trivial⟩ fun X hX hr hD => ?_
 replace hR := (utf_length.eq_1 ..).symm.trans hR
 refine sr 1 rfl ?_
 refine ip 1 0 [(2, iv 0)] (by kernel_rfl) ?_
 refine ie ?_
 refine J_seq ?_
 refine J_block ?_
 refine J_seq ?_
 refine J_block ?_
 refine J_seq ?_
 refine J_block ?_
 refine J_seq ?_
 refine J_block ?_
 refine J_seq ?_
 refine J_block ?_
 refine J_seq ?_
 refine J_seq ?_
 refine sr 7 rfl ?_
 refine ip 3 4 [(6, bv (decide ((240 : Int) ≤ (b.toNat : Int))))] (by kernel_rfl) ?_
 refine iand 3 1 6 9 (decide ((b.toNat : Int) ≤ 244)) rfl (by kernel_rfl) (fun g1 => ?_) ?_
 ·have g1p : (240 : Int) ≤ (b.toNat : Int) := by simpa using g1
  refine ip 3 0 [(9, bv (decide ((b.toNat : Int) ≤ 244)))] (by kernel_rfl) ?_
  exact JI_end (armI 2 6 9 g1 Foll.nil (mk [] rfl) rfl rfl rfl rfl rfl)
 refine ip 1 0 [(3, bv ((decide ((240 : Int) ≤ (b.toNat : Int))) && (decide ((b.toNat : Int) ≤ 244))))] (by kernel_rfl) ?_
 refine ie ?_
 refine J_if rfl (fun h2 => ?_) (fun h2 => ?_)
 ·have h2p : ((240 : Int) ≤ (b.toNat : Int)) ∧ ((b.toNat : Int) ≤ 244) := by simpa using h2
  replace hR := bt hR h2
  refine J_exit ?_
  refine nx ?_
  refine J_region 3 rfl ?_
  refine ip 1 2 [(27, iv 0)] (by kernel_rfl) ?_
  refine ix rfl (det_add64 (c := 1) rfl rfl rfl rfl (by decide)) ?_
  refine ip 1 0 [(2, iv 1)] (by kernel_rfl) ?_
  refine JI_end ?_
  refine nx ?_
  refine J_region 3 rfl ?_
  refine ip 1 2 [(29, iv 1)] (by kernel_rfl) ?_
  refine ix rfl (det_add64 (c := 2) rfl rfl rfl rfl (by decide)) ?_
  refine ip 1 0 [(2, iv 2)] (by kernel_rfl) ?_
  refine JI_end ?_
  refine nx ?_
  refine J_region 3 rfl ?_
  refine ip 1 2 [(31, iv 2)] (by kernel_rfl) ?_
  refine ix rfl (det_add64 (c := 3) rfl rfl rfl rfl (by decide)) ?_
  refine ip 1 0 [(2, iv 3)] (by kernel_rfl) ?_
  refine JI_end ?_
  refine nx ?_
  refine sr 3 rfl ?_
  refine ip 1 2 [(33, iv 3)] (by kernel_rfl) ?_
  refine ix rfl (det_add64 (c := 4) rfl rfl rfl rfl (by decide)) ?_
  refine ip 1 0 [(2, iv 4)] (by kernel_rfl) ?_
  refine ie ?_
  refine J_exit ?_
  refine nx ?_
  refine sr 2 rfl ?_
  refine ip 2 0 [(2, iv 4)] (by kernel_rfl) ?_
  refine ie ?_
  refine J_ret ?_
  subst hR
  exact ends_ret rfl ⟨hr, hD⟩ (by simp [hD]) (res1 rfl (resV_tmp rfl)) () (by rfl) (mk [] rfl) Foll.nil
 ·have h2p : ¬ (((240 : Int) ≤ (b.toNat : Int)) ∧ ((b.toNat : Int) ≤ 244)) := by simpa using h2
  replace hR := bf hR h2
  refine J_skip ?_
  refine nx ?_
  refine J_seq ?_
  refine sr 7 rfl ?_
  refine ip 3 4 [(13, bv (decide ((224 : Int) ≤ (b.toNat : Int))))] (by kernel_rfl) ?_
  refine iand 3 1 13 16 (decide ((b.toNat : Int) < 240)) rfl (by kernel_rfl) (fun g3 => ?_) ?_
  ·have g3p : (224 : Int) ≤ (b.toNat : Int) := by simpa using g3
   refine ip 3 0 [(16, bv (decide ((b.toNat : Int) < 240)))] (by kernel_rfl) ?_
   exact JI_end (armI 2 13 16 g3 Foll.nil (mk [] rfl) rfl rfl rfl rfl rfl)
  refine ip 1 0 [(10, bv ((decide ((224 : Int) ≤ (b.toNat : Int))) && (decide ((b.toNat : Int) < 240))))] (by kernel_rfl) ?_
  refine ie ?_
  refine J_if rfl (fun h4 => ?_) (fun h4 => ?_)
  ·have h4p : ((224 : Int) ≤ (b.toNat : Int)) ∧ ((b.toNat : Int) < 240) := by simpa using h4
   replace hR := bt hR h4
   refine J_exit ?_
   refine nx ?_
   refine J_region 3 rfl ?_
   refine ip 1 2 [(29, iv 0)] (by kernel_rfl) ?_
   refine ix rfl (det_add64 (c := 1) rfl rfl rfl rfl (by decide)) ?_
   refine ip 1 0 [(2, iv 1)] (by kernel_rfl) ?_
   refine JI_end ?_
   refine nx ?_
   refine J_region 3 rfl ?_
   refine ip 1 2 [(31, iv 1)] (by kernel_rfl) ?_
   refine ix rfl (det_add64 (c := 2) rfl rfl rfl rfl (by decide)) ?_
   refine ip 1 0 [(2, iv 2)] (by kernel_rfl) ?_
   refine JI_end ?_
   refine nx ?_
   refine sr 3 rfl ?_
   refine ip 1 2 [(33, iv 2)] (by kernel_rfl) ?_
   refine ix rfl (det_add64 (c := 3) rfl rfl rfl rfl (by decide)) ?_
   refine ip 1 0 [(2, iv 3)] (by kernel_rfl) ?_
   refine ie ?_
   refine J_exit ?_
   refine nx ?_
   refine sr 2 rfl ?_
   refine ip 2 0 [(2, iv 3)] (by kernel_rfl) ?_
   refine ie ?_
   refine J_ret ?_
   subst hR
   exact ends_ret rfl ⟨hr, hD⟩ (by simp [hD]) (res1 rfl (resV_tmp rfl)) () (by rfl) (mk [] rfl) Foll.nil
  ·have h4p : ¬ (((224 : Int) ≤ (b.toNat : Int)) ∧ ((b.toNat : Int) < 240)) := by simpa using h4
   replace hR := bf hR h4
   refine J_skip ?_
   refine nx ?_
   refine J_seq ?_
   refine sr 7 rfl ?_
   refine ip 3 4 [(20, bv (decide ((194 : Int) ≤ (b.toNat : Int))))] (by kernel_rfl) ?_
   refine iand 3 1 20 23 (decide ((b.toNat : Int) < 224)) rfl (by kernel_rfl) (fun g5 => ?_) ?_
   ·have g5p : (194 : Int) ≤ (b.toNat : Int) := by simpa using g5
    refine ip 3 0 [(23, bv (decide ((b.toNat : Int) < 224)))] (by kernel_rfl) ?_
    exact JI_end (armI 2 20 23 g5 Foll.nil (mk [] rfl) rfl rfl rfl rfl rfl)
   refine ip 1 0 [(17, bv ((decide ((194 : Int) ≤ (b.toNat : Int))) && (decide ((b.toNat : Int) < 224))))] (by kernel_rfl) ?_
   refine ie ?_
   refine J_if rfl (fun h6 => ?_) (fun h6 => ?_)
   ·have h6p : ((194 : Int) ≤ (b.toNat : Int)) ∧ ((b.toNat : Int) < 224) := by simpa using h6
    replace hR := bt hR h6
    refine J_exit ?_
    refine nx ?_
    refine J_region 3 rfl ?_
    refine ip 1 2 [(31, iv 0)] (by kernel_rfl) ?_
    refine ix rfl (det_add64 (c := 1) rfl rfl rfl rfl (by decide)) ?_
    refine ip 1 0 [(2, iv 1)] (by kernel_rfl) ?_
    refine JI_end ?_
    refine nx ?_
    refine sr 3 rfl ?_
    refine ip 1 2 [(33, iv 1)] (by kernel_rfl) ?_
    refine ix rfl (det_add64 (c := 2) rfl rfl rfl rfl (by decide)) ?_
    refine ip 1 0 [(2, iv 2)] (by kernel_rfl) ?_
    refine ie ?_
    refine J_exit ?_
    refine nx ?_
    refine sr 2 rfl ?_
    refine ip 2 0 [(2, iv 2)] (by kernel_rfl) ?_
    refine ie ?_
    refine J_ret ?_
    subst hR
    exact ends_ret rfl ⟨hr, hD⟩ (by simp [hD]) (res1 rfl (resV_tmp rfl)) () (by rfl) (mk [] rfl) Foll.nil
   ·have h6p : ¬ (((194 : Int) ≤ (b.toNat : Int)) ∧ ((b.toNat : Int) < 224)) := by simpa using h6
    replace hR := bf hR h6
    refine J_skip ?_
    refine nx ?_
    refine sr 3 rfl ?_
    refine ip 3 0 [(24, bv (decide ((b.toNat : Int) < 128)))] (by kernel_rfl) ?_
    refine ie ?_
    refine J_if rfl (fun h7 => ?_) (fun h7 => ?_)
    ·have h7p : (b.toNat : Int) < 128 := by simpa using h7
     replace hR := bt hR h7
     refine J_exit ?_
     refine nx ?_
     refine sr 3 rfl ?_
     refine ip 1 2 [(33, iv 0)] (by kernel_rfl) ?_
     refine ix rfl (det_add64 (c := 1) rfl rfl rfl rfl (by decide)) ?_
     refine ip 1 0 [(2, iv 1)] (by kernel_rfl) ?_
     refine ie ?_
     refine J_exit ?_
     refine nx ?_
     refine sr 2 rfl ?_
     refine ip 2 0 [(2, iv 1)] (by kernel_rfl) ?_
     refine ie ?_
     refine J_ret ?_
     subst hR
     exact ends_ret rfl ⟨hr, hD⟩ (by simp [hD]) (res1 rfl (resV_tmp rfl)) () (by rfl) (mk [] rfl) Foll.nil
    ·have h7p : ¬ ((b.toNat : Int) < 128) := by simpa using h7
     replace hR := bf hR h7
     refine J_skip ?_
     refine nx ?_
     refine J_exit ?_
     refine nx ?_
     refine sr 2 rfl ?_
     refine ip 2 0 [(2, iv 0)] (by kernel_rfl) ?_
     refine ie ?_
     refine J_ret ?_
     subst hR
     exact ends_ret rfl ⟨hr, hD⟩ (by simp [hD]) (res1 rfl (resV_tmp rfl)) () (by rfl) (mk [] rfl) Foll.nil

def utf_second (b : UInt8) : UInt8 × UInt8 :=
 (bif (decide ((b.toNat : Int) = 224)) then ((160 : UInt8), (191 : UInt8)) else (bif (decide ((b.toNat : Int) = 237)) then ((128 : UInt8), (159 : UInt8)) else (bif (decide ((b.toNat : Int) = 240)) then ((144 : UInt8), (191 : UInt8)) else (bif (decide ((b.toNat : Int) = 244)) then ((128 : UInt8), (143 : UInt8)) else ((128 : UInt8), (191 : UInt8))))))

theorem utf_second_c (b : UInt8) (R : UInt8 × UInt8) (hR : utf_second b = R) : ConV Tryz.prog 258 [.int .u8 (b.toNat : Int)] [] (.tuple #[.int .u8 (R.1.toNat : Int), .int .u8 (R.2.toNat : Int)]) := by
 refine con_of_J (n := 13) Tryz.func258 rfl (by kernel_rfl) rfl rfl [(0, .int .u8 (b.toNat : Int))] ⟨rfl, trivial⟩ fun X hX hr hD => ?_
 replace hR := (utf_second.eq_1 ..).symm.trans hR
 refine sr 2 rfl ?_
 refine ip 2 0 [] (by kernel_rfl) ?_
 refine ie ?_
 refine J_seq ?_
 refine sr 1 rfl ?_
 refine ip 1 0 [(4, .int .u8 (b.toNat : Int))] (by kernel_rfl) ?_
 refine ie ?_
 refine J_block ?_
 refine sr 2 rfl ?_
 refine ip 2 0 [(5, bv (decide ((b.toNat : Int) = 224)))] (by kernel_rfl) ?_
 refine ie ?_
 refine J_if rfl (fun h1 => ?_) (fun h1 => ?_)
 ·have h1p : (b.toNat : Int) = 224 := by simpa using h1
  replace hR := bt hR h1
  refine sr 2 rfl ?_
  refine ip 2 0 [(2, .int .u8 160), (3, .int .u8 191)] (by kernel_rfl) ?_
  refine ie ?_
  refine J_ret ?_
  subst hR
  exact ends_ret rfl ⟨hr, hD⟩ (by simp [hD]) (res2 rfl (resV_tmp rfl) (resV_tmp rfl)) () (by rfl) (mk [] rfl) Foll.nil
 ·have h1p : ¬ ((b.toNat : Int) = 224) := by simpa using h1
  replace hR := bf hR h1
  refine sr 2 rfl ?_
  refine ip 2 0 [(7, bv (decide ((b.toNat : Int) = 237)))] (by kernel_rfl) ?_
  refine ie ?_
  refine J_if rfl (fun h2 => ?_) (fun h2 => ?_)
  ·have h2p : (b.toNat : Int) = 237 := by simpa using h2
   replace hR := bt hR h2
   refine sr 2 rfl ?_
   refine ip 2 0 [(2, .int .u8 128), (3, .int .u8 159)] (by kernel_rfl) ?_
   refine ie ?_
   refine J_ret ?_
   subst hR
   exact ends_ret rfl ⟨hr, hD⟩ (by simp [hD]) (res2 rfl (resV_tmp rfl) (resV_tmp rfl)) () (by rfl) (mk [] rfl) Foll.nil
  ·have h2p : ¬ ((b.toNat : Int) = 237) := by simpa using h2
   replace hR := bf hR h2
   refine sr 2 rfl ?_
   refine ip 2 0 [(9, bv (decide ((b.toNat : Int) = 240)))] (by kernel_rfl) ?_
   refine ie ?_
   refine J_if rfl (fun h3 => ?_) (fun h3 => ?_)
   ·have h3p : (b.toNat : Int) = 240 := by simpa using h3
    replace hR := bt hR h3
    refine sr 2 rfl ?_
    refine ip 2 0 [(2, .int .u8 144), (3, .int .u8 191)] (by kernel_rfl) ?_
    refine ie ?_
    refine J_ret ?_
    subst hR
    exact ends_ret rfl ⟨hr, hD⟩ (by simp [hD]) (res2 rfl (resV_tmp rfl) (resV_tmp rfl)) () (by rfl) (mk [] rfl) Foll.nil
   ·have h3p : ¬ ((b.toNat : Int) = 240) := by simpa using h3
    replace hR := bf hR h3
    refine sr 2 rfl ?_
    refine ip 2 0 [(11, bv (decide ((b.toNat : Int) = 244)))] (by kernel_rfl) ?_
    refine ie ?_
    refine J_if rfl (fun h4 => ?_) (fun h4 => ?_)
    ·have h4p : (b.toNat : Int) = 244 := by simpa using h4
     replace hR := bt hR h4
     refine sr 2 rfl ?_
     refine ip 2 0 [(2, .int .u8 128), (3, .int .u8 143)] (by kernel_rfl) ?_
     refine ie ?_
     refine J_ret ?_
     subst hR
     exact ends_ret rfl ⟨hr, hD⟩ (by simp [hD]) (res2 rfl (resV_tmp rfl) (resV_tmp rfl)) () (by rfl) (mk [] rfl) Foll.nil
    ·have h4p : ¬ ((b.toNat : Int) = 244) := by simpa using h4
     replace hR := bf hR h4
     refine J_skip ?_
     refine nx ?_
     refine sr 2 rfl ?_
     refine ip 2 0 [(2, .int .u8 128), (3, .int .u8 191)] (by kernel_rfl) ?_
     refine ie ?_
     refine J_ret ?_
     subst hR
     exact ends_ret rfl ⟨hr, hD⟩ (by simp [hD]) (res2 rfl (resV_tmp rfl) (resV_tmp rfl)) () (by rfl) (mk [] rfl) Foll.nil

def utf_kind_l0 (p : List UInt8) : List UInt8 → UInt8 → UInt8 → Nat → Int
 | [], low, high, t26 => (bif (decide ((p.length : Int) < (utf_length (p.getD 0 0)))) then 1 else 2)
 | hd_l0 :: tl_l0, low, high, t26 => (bif ((decide ((hd_l0.toNat : Int) < (low.toNat : Int))) || (decide ((high.toNat : Int) < (hd_l0.toNat : Int)))) then 0 else utf_kind_l0 p tl_l0 (128 : UInt8) (191 : UInt8) (t26 + 1))
def utf_kind (p : List UInt8) : Int :=
 (bif (decide ((utf_length (p.getD 0 0)) < (p.length : Int))) then 0 else (bindV (utf_second (p.getD 0 0)) fun (y2 : UInt8 × UInt8) => utf_kind_l0 p (p.drop 1) y2.1 y2.2 0))

theorem utf_kind_front {p : List UInt8} (h : utf_kind p = 1) : p.length ≤ 4 := by
 unfold utf_kind at h; have := utf_length_le (p.getD 0 0); revert h this; generalize p.getD 0 0 = z; intro h this
 cases hc : decide (utf_length z < (p.length : Int)) <;> rw [hc] at h <;> simp at h hc
 omega

theorem utf_kind_c (p : List UInt8) (pq : Option Addr) (pk : Nat) (hlp : p.length ≤ 9223372036854775807) (hcp : p.length ≤ pk) (hp : 1 ≤ p.length) (R : Int) (hR : utf_kind p = R) : ConV Tryz.prog 250 [.slice pq p.length pk] [sl cU8 pq p] (iv R) := by
 refine con_of_J (n := 43) Tryz.func250 rfl (by kernel_rfl) rfl rfl [(0, .slice pq p.length pk)] ⟨rfl, trivial⟩ fun X hX hr hD => ?_
 replace hR := (utf_kind.eq_1 ..).symm.trans hR
 refine sr 1 rfl ?_
 refine ip 1 0 [] (by kernel_rfl) ?_
 refine ie ?_
 refine sr 5 rfl ?_
 refine ip 1 4 [(8, .slice pq p.length pk)] (by kernel_rfl) ?_
 refine JI_base 0 rfl (by omega) fun a1 hq2 => ?_
 refine ix rfl (det_ixq slt30 rfl rfl hq2 rfl 0 rfl (by omega)) ?_
 refine ix rfl (det_ld_one (v := .int .u8 ((p.getD 0 0).toNat : Int)) (us := [.int .u8 ((p.getD 0 0).toNat : Int)]) ty5 rfl rfl (at_slq (c := cU8) (sz := 1) hq2 (fun _ => rfl) 0 rfl (gd 0 (by omega))) rfl) ?_
 refine ixc rfl (det_call (utf_length_c (p.getD 0 0) _ rfl) rfl rfl rfl rfl rfl Foll.nil) ?_
 refine ip 1 0 [(3, iv (utf_length (p.getD 0 0)))] (by kernel_rfl) ?_
 refine ie ?_
 refine J_seq ?_
 refine sr 4 rfl ?_
 refine ip 4 0 [(15, bv (decide ((utf_length (p.getD 0 0)) < (p.length : Int))))] (by kernel_rfl) ?_
 refine ie ?_
 refine J_if rfl (fun h3 => ?_) (fun h3 => ?_)
 ·have h3p : (utf_length (p.getD 0 0)) < (p.length : Int) := by simpa using h3
  replace hR := bt hR h3
  refine sr 1 rfl ?_
  refine ip 1 0 [(2, iv 0)] (by kernel_rfl) ?_
  refine ie ?_
  refine J_ret ?_
  subst hR
  exact ends_ret rfl ⟨hr, hD⟩ (by simp [hD]) (res1 rfl (resV_tmp rfl)) () (by rfl) (mk [] rfl) Foll.nil
 ·have h3p : ¬ ((utf_length (p.getD 0 0)) < (p.length : Int)) := by simpa using h3
  replace hR := bf hR h3
  refine J_skip ?_
  refine nx ?_
  refine sr 9 rfl ?_
  refine ip 1 8 [(17, .slice pq p.length pk)] (by kernel_rfl) ?_
  refine ix rfl (det_ixq slt30 rfl rfl hq2 rfl 0 rfl (by omega)) ?_
  refine ix rfl (det_ld_one (v := .int .u8 ((p.getD 0 0).toNat : Int)) (us := [.int .u8 ((p.getD 0 0).toNat : Int)]) ty5 rfl rfl (at_slq (c := cU8) (sz := 1) hq2 (fun _ => rfl) 0 rfl (gd 0 (by omega))) rfl) ?_
  have hQ := bindVx hR; clear hR; obtain ⟨y2, hy2, hR⟩ := hQ
  refine ixc rfl (det_call (utf_second_c (p.getD 0 0) y2 hy2) rfl rfl rfl rfl rfl Foll.nil) ?_
  refine ip 5 0 [(4, .int .u8 (y2.1.toNat : Int)), (5, .int .u8 (y2.2.toNat : Int))] (by kernel_rfl) ?_
  refine ie ?_
  refine J_seq ?_
  refine sr 4 rfl ?_
  refine ip 1 3 [(23, .slice pq p.length pk)] (by kernel_rfl) ?_
  refine JI_fact1 (sl_drop (c := cU8) (sz := 1) (xs := p) (at_of 0 rfl) 1 pk (fun _ => rfl) (by omega) (by omega)) ?_
  refine ix rfl (det_slc (n' := (p.drop 1).length) slt30 rfl rfl 1 p.length pk (sb_some rfl rfl) sb_none sb_none (by omega) (by omega) (by omega) (by first | rfl | omega | (simp <;> omega) | (simp; done)) rfl) ?_
  have : (p.drop 1).length = p.length - 1 := List.length_drop
  refine ip 2 0 [(25, iv ((p.drop 1).length : Int)), (26, iv 0)] (by kernel_rfl) ?_
  refine ie ?_
  refine J_block ?_
  refine JL3 (fun (low : UInt8) (high : UInt8) (t26 : Nat) => t26 ≤ (p.drop 1).length ∧ utf_kind_l0 p ((p.drop 1).drop t26) low high t26 = R) (fun (low : UInt8) (high : UInt8) (t26 : Nat) => [(0, .slice pq p.length pk), (3, iv (utf_length (p.getD 0 0))), (4, .int .u8 (low.toNat : Int)), (5, .int .u8 (high.toNat : Int)), (24, .slice (subq pq 1 1 pk) ((p.drop 1).length) (pk - 1)), (25, iv ((p.drop 1).length : Int)), (26, iv (t26 : Int))]) (fun (low : UInt8) (high : UInt8) (t26 : Nat) => []) (fun (low : UInt8) (high : UInt8) (t26 : Nat) => [sl cU8 (subq pq 1 1 pk) (p.drop 1), sl cU8 pq p]) (fun (low : UInt8) (high : UInt8) (t26 : Nat) => (p.drop 1).length - t26) y2.1 y2.2 0 ⟨(by omega), hR⟩ ⟨rfl, rfl, (by first | rfl | (simp only [List.length_set]; rfl) | (simp; done) | (simp; omega)), (by first | rfl | (simp only [List.length_set]; rfl) | (simp; done) | (simp; omega)), rfl, rfl, (by first | rfl | (simp only [List.length_set]; rfl) | (simp; done) | (simp; omega)), trivial⟩ (mk [] rfl) Foll.refl ?_
  rintro low high t26 ⟨hm4, hR⟩
  refine sr 1 rfl ?_
  refine ip 1 0 [(27, bv (decide ((t26 : Int) < ((p.drop 1).length : Int))))] (by kernel_rfl) ?_
  refine ie ?_
  refine J_seq ?_
  refine J_if rfl (fun h5 => ?_) (fun h5 => ?_)
  ·have h5p : (t26 : Int) < ((p.drop 1).length : Int) := by simpa using h5
   rw [dropc 0 (show t26 < (p.drop 1).length by omega)] at hR; replace hR := (utf_kind_l0.eq_2 ..).symm.trans hR
   refine J_skip ?_
   refine nx ?_
   refine J_seq ?_
   refine J_block ?_
   refine sr 3 rfl ?_
   refine JI_base 0 rfl (by omega) fun a6 hq7 => ?_
   refine ix rfl (det_ixq slt30 rfl rfl hq7 rfl t26 rfl (by omega)) ?_
   refine ix rfl (det_ld_one (v := .int .u8 (((p.drop 1).getD t26 0).toNat : Int)) (us := [.int .u8 (((p.drop 1).getD t26 0).toNat : Int)]) ty5 rfl rfl (at_slq (c := cU8) (sz := 1) hq7 (fun _ => rfl) 0 rfl (gd 0 (by omega))) rfl) ?_
   refine ip 1 0 [(7, .int .u8 (((p.drop 1).getD t26 0).toNat : Int))] (by kernel_rfl) ?_
   refine ie ?_
   refine J_seq ?_
   refine sr 8 rfl ?_
   refine ip 4 4 [(33, bv (decide ((((p.drop 1).getD t26 0).toNat : Int) < (low.toNat : Int))))] (by kernel_rfl) ?_
   refine ior 4 0 33 37 (decide ((high.toNat : Int) < (((p.drop 1).getD t26 0).toNat : Int))) rfl (by kernel_rfl) (fun g8 => ?_) ?_
   ·have g8p : ¬ ((((p.drop 1).getD t26 0).toNat : Int) < (low.toNat : Int)) := by simpa using g8
    refine ip 4 0 [(37, bv (decide ((high.toNat : Int) < (((p.drop 1).getD t26 0).toNat : Int))))] (by kernel_rfl) ?_
    exact JI_end (armI 2 33 37 g8 Foll.refl (mk [] rfl) rfl rfl rfl rfl rfl)
   refine ie ?_
   refine J_if rfl (fun h9 => ?_) (fun h9 => ?_)
   ·have h9p : ((((p.drop 1).getD t26 0).toNat : Int) < (low.toNat : Int)) ∨ ((high.toNat : Int) < (((p.drop 1).getD t26 0).toNat : Int)) := by simpa using h9
    replace hR := bt hR h9
    refine sr 1 rfl ?_
    refine ip 1 0 [(2, iv 0)] (by kernel_rfl) ?_
    refine ie ?_
    refine J_ret ?_
    subst hR
    exact ends_ret rfl ⟨hr, hD⟩ (by simp [hD]) (res1 rfl (resV_tmp rfl)) () (by rfl) (mk [] rfl) Foll.nil
   ·have h9p : ¬ (((((p.drop 1).getD t26 0).toNat : Int) < (low.toNat : Int)) ∨ ((high.toNat : Int) < (((p.drop 1).getD t26 0).toNat : Int))) := by simpa using h9
    replace hR := bf hR h9
    refine J_skip ?_
    refine nx ?_
    refine J_region 2 rfl ?_
    refine ip 2 0 [(4, .int .u8 128), (5, .int .u8 191)] (by kernel_rfl) ?_
    refine JI_end ?_
    refine nx ?_
    refine J_region 2 rfl ?_
    refine ix rfl (det_add64 rfl rfl rfl rfl (by omega)) ?_
    refine ip 1 0 [(26, iv ((t26 : Int) + 1))] (by kernel_rfl) ?_
    refine JI_end ?_
    exact againL3 (z1 := low) (z2 := high) (z3 := t26) (128 : UInt8) (191 : UInt8) (t26 + 1) ⟨(by omega), hR⟩ (by (try dsimp only); omega) ⟨rfl, rfl, (by first | rfl | (simp only [List.length_set]; rfl) | (simp; done) | (simp; omega)), (by first | rfl | (simp only [List.length_set]; rfl) | (simp; done) | (simp; omega)), rfl, rfl, (by first | rfl | (simp only [List.length_set]; rfl) | (simp; done) | (simp; omega)), trivial⟩ (mk [] rfl) Foll.refl
  ·have h5p : ¬ ((t26 : Int) < ((p.drop 1).length : Int)) := by simpa using h5
   rw [dropn h5p] at hR; replace hR := (utf_kind_l0.eq_1 ..).symm.trans hR
   refine J_exit ?_
   refine nx ?_
   refine J_seq ?_
   refine sr 4 rfl ?_
   refine ip 4 0 [(42, bv (decide ((p.length : Int) < (utf_length (p.getD 0 0)))))] (by kernel_rfl) ?_
   refine ie ?_
   refine J_if rfl (fun h10 => ?_) (fun h10 => ?_)
   ·have h10p : (p.length : Int) < (utf_length (p.getD 0 0)) := by simpa using h10
    replace hR := bt hR h10
    refine sr 1 rfl ?_
    refine ip 1 0 [(2, iv 1)] (by kernel_rfl) ?_
    refine ie ?_
    refine J_ret ?_
    subst hR
    exact ends_ret rfl ⟨hr, hD⟩ (by simp [hD]) (res1 rfl (resV_tmp rfl)) () (by rfl) (mk [] rfl) Foll.nil
   ·have h10p : ¬ ((p.length : Int) < (utf_length (p.getD 0 0))) := by simpa using h10
    replace hR := bf hR h10
    refine J_skip ?_
    refine nx ?_
    refine sr 1 rfl ?_
    refine ip 1 0 [(2, iv 2)] (by kernel_rfl) ?_
    refine ie ?_
    refine J_ret ?_
    subst hR
    exact ends_ret rfl ⟨hr, hD⟩ (by simp [hD]) (res1 rfl (resV_tmp rfl)) () (by rfl) (mk [] rfl) Foll.nil

def utf_Right (pending : List UInt8) : Bool :=
 ((decide ((pending.length : Int) = 0)) || (decide ((utf_kind pending) = 1)))

theorem utf_Right_c (pending : List UInt8) (pendingq : Option Addr) (pendingk : Nat) (hlpending : pending.length ≤ 9223372036854775807) (hcpending : pending.length ≤ pendingk) (R : Bool) (hR : utf_Right pending = R) : ConV Tryz.prog 249 [.slice pendingq pending.length pendingk] [sl cU8 pendingq pending] (bv R) := by
 refine con_of_J (n := 11) Tryz.func249 rfl (by kernel_rfl) rfl rfl [(0, .slice pendingq pending.length pendingk)] ⟨rfl, trivial⟩ fun X hX hr hD => ?_
 replace hR := (utf_Right.eq_1 ..).symm.trans hR
 refine sr 1 rfl ?_
 refine ip 1 0 [] (by kernel_rfl) ?_
 refine ie ?_
 refine sr 9 rfl ?_
 refine ip 4 5 [(6, bv (decide ((pending.length : Int) = 0)))] (by kernel_rfl) ?_
 refine ior 4 1 6 10 (decide ((utf_kind pending) = 1)) rfl (by kernel_rfl) (fun g1 => ?_) ?_
 ·have g1p : ¬ ((pending.length : Int) = 0) := by simpa using g1
  refine ip 1 3 [(7, .slice pendingq pending.length pendingk)] (by kernel_rfl) ?_
  refine ixc rfl (det_call (utf_kind_c pending pendingq pendingk (by first | omega | (simp <;> omega) | (dsimp only; omega) | decide) (by first | omega | (simp <;> omega) | (dsimp only; omega) | decide) (by first | omega | (simp <;> omega)) _ rfl) rfl rfl rfl rfl rfl Foll.refl) ?_
  refine ip 2 0 [(10, bv (decide ((utf_kind pending) = 1)))] (by kernel_rfl) ?_
  exact JI_end (armI 4 6 10 g1 Foll.refl (mk [] rfl) rfl rfl rfl rfl rfl)
 refine ip 1 0 [(2, bv ((decide ((pending.length : Int) = 0)) || (decide ((utf_kind pending) = 1))))] (by kernel_rfl) ?_
 refine ie ?_
 refine J_ret ?_
 subst hR
 exact ends_ret rfl ⟨hr, hD⟩ (by simp [hD]) (res1 rfl (resV_tmp rfl)) () (by rfl) (mk [] rfl) Foll.nil

def utf_code_l0 : List UInt8 → Int → Nat → Int
 | [], cp1, t22 => cp1
 | hd_l0 :: tl_l0, cp1, t22 => utf_code_l0 tl_l0 (bOp .or .i64 (IntKind.i64.wrap (cp1 * 64)) ((by8 (bOp .and .u8 (hd_l0.toNat : Int) 63)).toNat : Int)) (t22 + 1)
def utf_code_j0 (p : List UInt8) (cp : Int) : Int :=
 utf_code_l0 (p.drop 1) cp 0
def utf_code (p : List UInt8) : Int :=
 (bif (decide ((1 : Int) < (p.length : Int))) then utf_code_j0 p (bOp .and .i64 ((p.getD 0 0).toNat : Int) (Int.fdiv (255 : Int) (2 ^ (min (((p.length : Int) + 1)).toNat 64)))) else utf_code_j0 p ((p.getD 0 0).toNat : Int))

theorem utf_code_c (p : List UInt8) (pq : Option Addr) (pk : Nat) (hlp : p.length ≤ 9223372036854775807) (hcp : p.length ≤ pk) (hp : 1 ≤ p.length) (hp2 : p.length ≤ 1000000) (R : Int) (hR : utf_code p = R) : ConV Tryz.prog 251 [.slice pq p.length pk] [sl cU8 pq p] (iv R) := by
 refine con_of_J (n := 34) Tryz.func251 rfl (by kernel_rfl) rfl rfl [(0, .slice pq p.length pk)] ⟨rfl, trivial⟩ fun X hX hr hD => ?_
 replace hR := (utf_code.eq_1 ..).symm.trans hR
 refine sr 1 rfl ?_
 refine ip 1 0 [] (by kernel_rfl) ?_
 refine ie ?_
 refine sr 5 rfl ?_
 refine ip 1 4 [(6, .slice pq p.length pk)] (by kernel_rfl) ?_
 refine JI_base 0 rfl (by omega) fun a1 hq2 => ?_
 refine ix rfl (det_ixq slt30 rfl rfl hq2 rfl 0 rfl (by omega)) ?_
 refine ix rfl (det_ld_one (v := .int .u8 ((p.getD 0 0).toNat : Int)) (us := [.int .u8 ((p.getD 0 0).toNat : Int)]) ty5 rfl rfl (at_slq (c := cU8) (sz := 1) hq2 (fun _ => rfl) 0 rfl (gd 0 (by omega))) rfl) ?_
 refine ix rfl (det_toInt (c := ((p.getD 0 0).toNat : Int)) Tryz.underlying3 (by kernel_rfl) rfl rfl (wrap_u8_i64 (p.getD 0 0))) ?_
 refine ip 1 0 [(3, iv ((p.getD 0 0).toNat : Int))] (by kernel_rfl) ?_
 refine ie ?_
 refine JS1 (fun (cp : Int) => utf_code_j0 p cp = R) (fun (cp : Int) => [(0, .slice pq p.length pk), (3, iv cp)]) (fun (cp : Int) => []) (fun (cp : Int) => [sl cU8 pq p]) ?_ ?_
 ·refine sr 3 rfl ?_
  refine ip 3 0 [(12, bv (decide ((1 : Int) < (p.length : Int))))] (by kernel_rfl) ?_
  refine ie ?_
  refine J_if rfl (fun h3 => ?_) (fun h3 => ?_)
  ·have h3p : (1 : Int) < (p.length : Int) := by simpa using h3
   replace hR := bt hR h3
   refine J_region 7 rfl ?_
   refine ip 3 4 [(13, iv ((p.getD 0 0).toNat : Int)), (15, iv (p.length : Int))] (by kernel_rfl) ?_
   refine ix rfl (det_add64 rfl rfl rfl rfl (by omega)) ?_
   refine ix rfl (det_shr rfl rfl rfl (by omega) rfl) ?_
   refine ip 2 0 [(3, iv (bOp .and .i64 ((p.getD 0 0).toNat : Int) (Int.fdiv (255 : Int) (2 ^ (min (((p.length : Int) + 1)).toNat 64)))))] (by kernel_rfl) ?_
   refine JI_end ?_
   exact meet1 (bOp .and .i64 ((p.getD 0 0).toNat : Int) (Int.fdiv (255 : Int) (2 ^ (min (((p.length : Int) + 1)).toNat 64)))) hR ⟨rfl, (by first | rfl | (simp only [List.length_set]; rfl) | (simp; done) | (simp; omega)), trivial⟩ (mk [] rfl) Foll.refl
  ·have h3p : ¬ ((1 : Int) < (p.length : Int)) := by simpa using h3
   replace hR := bf hR h3
   refine J_skip ?_
   exact meet1 ((p.getD 0 0).toNat : Int) hR ⟨rfl, (by first | rfl | (simp only [List.length_set]; rfl) | (simp; done) | (simp; omega)), trivial⟩ (mk [] rfl) Foll.refl
 ·intro cp
  rintro hR
  replace hR := (utf_code_j0.eq_1 ..).symm.trans hR
  refine J_seq ?_
  refine sr 4 rfl ?_
  refine ip 1 3 [(19, .slice pq p.length pk)] (by kernel_rfl) ?_
  refine JI_fact1 (sl_drop (c := cU8) (sz := 1) (xs := p) (at_of 0 rfl) 1 pk (fun _ => rfl) (by omega) (by omega)) ?_
  refine ix rfl (det_slc (n' := (p.drop 1).length) slt30 rfl rfl 1 p.length pk (sb_some rfl rfl) sb_none sb_none (by omega) (by omega) (by omega) (by first | rfl | omega | (simp <;> omega) | (simp; done)) rfl) ?_
  have : (p.drop 1).length = p.length - 1 := List.length_drop
  refine ip 2 0 [(21, iv ((p.drop 1).length : Int)), (22, iv 0)] (by kernel_rfl) ?_
  refine ie ?_
  refine J_block ?_
  refine JL2 (fun (cp1 : Int) (t22 : Nat) => t22 ≤ (p.drop 1).length ∧ utf_code_l0 ((p.drop 1).drop t22) cp1 t22 = R) (fun (cp1 : Int) (t22 : Nat) => [(3, iv cp1), (20, .slice (subq pq 1 1 pk) ((p.drop 1).length) (pk - 1)), (21, iv ((p.drop 1).length : Int)), (22, iv (t22 : Int))]) (fun (cp1 : Int) (t22 : Nat) => []) (fun (cp1 : Int) (t22 : Nat) => [sl cU8 (subq pq 1 1 pk) (p.drop 1), sl cU8 pq p]) (fun (cp1 : Int) (t22 : Nat) => (p.drop 1).length - t22) cp 0 ⟨(by omega), hR⟩ ⟨(by first | rfl | (simp only [List.length_set]; rfl) | (simp; done) | (simp; omega)), rfl, rfl, (by first | rfl | (simp only [List.length_set]; rfl) | (simp; done) | (simp; omega)), trivial⟩ (mk [] rfl) Foll.refl ?_
  rintro cp1 t22 ⟨hm4, hR⟩
  refine sr 1 rfl ?_
  refine ip 1 0 [(23, bv (decide ((t22 : Int) < ((p.drop 1).length : Int))))] (by kernel_rfl) ?_
  refine ie ?_
  refine J_seq ?_
  refine J_if rfl (fun h5 => ?_) (fun h5 => ?_)
  ·have h5p : (t22 : Int) < ((p.drop 1).length : Int) := by simpa using h5
   rw [dropc 0 (show t22 < (p.drop 1).length by omega)] at hR; replace hR := (utf_code_l0.eq_2 ..).symm.trans hR
   refine J_skip ?_
   refine nx ?_
   refine J_seq ?_
   refine J_block ?_
   refine sr 3 rfl ?_
   refine JI_base 0 rfl (by omega) fun a6 hq7 => ?_
   refine ix rfl (det_ixq slt30 rfl rfl hq7 rfl t22 rfl (by omega)) ?_
   refine ix rfl (det_ld_one (v := .int .u8 (((p.drop 1).getD t22 0).toNat : Int)) (us := [.int .u8 (((p.drop 1).getD t22 0).toNat : Int)]) ty5 rfl rfl (at_slq (c := cU8) (sz := 1) hq7 (fun _ => rfl) 0 rfl (gd 0 (by omega))) rfl) ?_
   refine ip 1 0 [(5, .int .u8 (((p.drop 1).getD t22 0).toNat : Int))] (by kernel_rfl) ?_
   refine ie ?_
   refine J_region 7 rfl ?_
   refine ip 1 6 [(26, iv cp1)] (by kernel_rfl) ?_
   refine ix rfl (det_shl (c := (IntKind.i64.wrap (cp1 * 64))) rfl rfl rfl (by decide) (by simp [IntKind.bits])) ?_
   refine ip 1 4 [(28, .int .u8 (((p.drop 1).getD t22 0).toNat : Int))] (by kernel_rfl) ?_
   refine ix rfl (det_conv (v := .int .u8 (bOp .and .u8 (((p.drop 1).getD t22 0).toNat : Int) 63)) (DetR.pure rfl) (u8_bop)) ?_
   refine ix rfl (det_toInt (c := ((by8 (bOp .and .u8 (((p.drop 1).getD t22 0).toNat : Int) 63)).toNat : Int)) Tryz.underlying3 (by kernel_rfl) rfl rfl (wrap_u8_i64 (by8 (bOp .and .u8 (((p.drop 1).getD t22 0).toNat : Int) 63)))) ?_
   refine ip 2 0 [(3, iv (bOp .or .i64 (IntKind.i64.wrap (cp1 * 64)) ((by8 (bOp .and .u8 (((p.drop 1).getD t22 0).toNat : Int) 63)).toNat : Int)))] (by kernel_rfl) ?_
   refine JI_end ?_
   refine nx ?_
   refine J_region 2 rfl ?_
   refine ix rfl (det_add64 rfl rfl rfl rfl (by omega)) ?_
   refine ip 1 0 [(22, iv ((t22 : Int) + 1))] (by kernel_rfl) ?_
   refine JI_end ?_
   exact againL2 (z1 := cp1) (z2 := t22) (bOp .or .i64 (IntKind.i64.wrap (cp1 * 64)) ((by8 (bOp .and .u8 (((p.drop 1).getD t22 0).toNat : Int) 63)).toNat : Int)) (t22 + 1) ⟨(by omega), hR⟩ (by (try dsimp only); omega) ⟨(by first | rfl | (simp only [List.length_set]; rfl) | (simp; done) | (simp; omega)), rfl, rfl, (by first | rfl | (simp only [List.length_set]; rfl) | (simp; done) | (simp; omega)), trivial⟩ (mk [] rfl) Foll.refl
  ·have h5p : ¬ ((t22 : Int) < ((p.drop 1).length : Int)) := by simpa using h5
   rw [dropn h5p] at hR; replace hR := (utf_code_l0.eq_1 ..).symm.trans hR
   refine J_exit ?_
   refine nx ?_
   refine sr 2 rfl ?_
   refine ip 2 0 [(2, iv cp1)] (by kernel_rfl) ?_
   refine ie ?_
   refine J_ret ?_
   subst hR
   exact ends_ret rfl ⟨hr, hD⟩ (by simp [hD]) (res1 rfl (resV_tmp rfl)) () (by rfl) (mk [] rfl) Foll.nil

def utf_Righta : Bool :=
 true

theorem utf_Righta_c (R : Bool) (hR : utf_Righta = R) : ConV Tryz.prog 249 [.slice none 0 0] [] (bv R) := by
 refine con_of_J (n := 11) Tryz.func249 rfl (by kernel_rfl) rfl rfl [(0, .slice none 0 0)] ⟨rfl, trivial⟩ fun X hX hr hD => ?_
 replace hR := (utf_Righta.eq_1 ..).symm.trans hR
 refine sr 1 rfl ?_
 refine ip 1 0 [] (by kernel_rfl) ?_
 refine ie ?_
 refine sr 9 rfl ?_
 refine ip 9 0 [(2, bv true)] (by kernel_rfl) ?_
 refine ie ?_
 refine J_ret ?_
 subst hR
 exact ends_ret rfl ⟨hr, hD⟩ (by simp [hD]) (res1 rfl (resV_tmp rfl)) () (by rfl) (mk [] rfl) Foll.nil

def utf_Stepa_j0 (b : UInt8) : List UInt8 × List Int :=
 (bif (decide ((utf_kind (([] : List UInt8) ++ ([b] : List UInt8))) = 2)) then (([] : List UInt8), ([(utf_code (([] : List UInt8) ++ ([b] : List UInt8)))] : List Int)) else (bif (decide ((utf_kind (([] : List UInt8) ++ ([b] : List UInt8))) = 1)) then ((([] : List UInt8) ++ ([b] : List UInt8)), ([] : List Int)) else (([] : List UInt8), ([65533] : List Int))))
def utf_Stepa (b : UInt8) : List UInt8 × List Int :=
 (bif (!utf_Righta) then utf_Stepa_j0 b else utf_Stepa_j0 b)

theorem utf_Stepa_len (b : UInt8) : (utf_Stepa b).1.length ≤ 4 ∧ (utf_Stepa b).2.length ≤ 1 := by
 have h0 : (utf_Stepa_j0 b).1.length ≤ 4 ∧ (utf_Stepa_j0 b).2.length ≤ 1 := by
  unfold utf_Stepa_j0; simp only [Bool.cond_eq_ite]; repeat' split
  all_goals simp
 unfold utf_Stepa; cases (!utf_Righta) <;> exact h0

theorem utf_Stepa_c (b : UInt8) (hp : ([] : List Unit).length ≤ 1000) (R : List UInt8 × List Int) (hR : utf_Stepa b = R) : Con Tryz.prog 241 [.slice none 0 0, .int .u8 (b.toNat : Int)] [] [] ({t : Option Addr × Nat // R.1.length ≤ t.2 ∧ R.1.length ≤ 9223372036854775807} × {t : Option Addr × Nat // R.2.length ≤ t.2 ∧ R.2.length ≤ 9223372036854775807}) (fun x => .tuple #[.slice x.1.1.1 R.1.length x.1.1.2, .slice x.2.1.1 R.2.length x.2.1.2]) (fun x => []) (fun x => [sl cU8 x.1.1.1 R.1, sl cInt x.2.1.1 R.2]) := by
 refine con_of_J (n := 42) Tryz.func241 rfl (by kernel_rfl) rfl rfl [(0, .slice none 0 0), (1, .int .u8 (b.toNat : Int))] ⟨rfl, rfl, trivial⟩ fun X hX hr hD => ?_
 replace hR := (utf_Stepa.eq_1 ..).symm.trans hR
 refine sr 2 rfl ?_
 refine ip 2 0 [] (by kernel_rfl) ?_
 refine ie ?_
 refine JS1 (fun (_ : Unit) => utf_Stepa_j0 b = R) (fun (_ : Unit) => [(0, .slice none 0 0), (1, .int .u8 (b.toNat : Int))]) (fun (_ : Unit) => []) (fun (_ : Unit) => []) ?_ ?_
 ·refine sr 3 rfl ?_
  refine ip 1 2 [(7, .slice none 0 0)] (by kernel_rfl) ?_
  refine ixc rfl (det_call (utf_Righta_c _ rfl) rfl rfl rfl rfl rfl Foll.nil) ?_
  refine ip 1 0 [(9, bv (!utf_Righta))] (by kernel_rfl) ?_
  refine ie ?_
  refine J_if rfl (fun h1 => ?_) (fun h1 => ?_)
  ·replace hR := bt hR h1
   refine J_region 1 rfl ?_
   refine ip 1 0 [(0, .slice none 0 0)] (by kernel_rfl) ?_
   refine JI_end ?_
   exact meet1 () hR ⟨rfl, rfl, trivial⟩ (mk [] rfl) Foll.nil
  ·replace hR := bf hR h1
   refine J_skip ?_
   exact meet1 () hR ⟨rfl, rfl, trivial⟩ (mk [] rfl) Foll.nil
 ·intro _
  rintro hR
  replace hR := (utf_Stepa_j0.eq_1 ..).symm.trans hR
  refine sr 10 rfl ?_
  refine ip 5 5 [(10, .slice none 0 0), (12, iv 0), (14, iv 0)] (by kernel_rfl) ?_
  refine ix rfl (det_slc slt30 rfl rfl 0 0 0 sb_none (sb_some rfl rfl) (sb_some rfl rfl) (by decide) (by decide) (by decide) (n' := 0) rfl rfl) ?_
  refine ip 1 3 [(16, .int .u8 (b.toNat : Int))] (by kernel_rfl) ?_
  refine it rfl (tri_buildSl (c := cU8) (xs := ([b] : List UInt8)) slt30 rfl rfl rfl (by kernel_rfl)) fun b2 => ?_
  have : ([b] : List UInt8).length = 1 := rfl
  refine it rfl (tri_app1 (f := cU8) (r := VR.nil) (xs := ([] : List UInt8)) (ys := ([b] : List UInt8)) (pre := []) (post := []) apt30 (fun _ => rfl) (fun _ => rfl) rfl rfl rfl rfl rfl rfl rfl rfl rfl (at_of 0 rfl) VOk.nil (by first | omega | (simp <;> omega)) (by first | omega | (simp <;> omega))) fun ⟨r3, hr4⟩ => ?_
  have := VOk.le hr4
  have := VOk.cap hr4
  refine JI_seal [] [] (T := 5) (c := cU8) (r := r3) (xs := (([] : List UInt8) ++ ([b] : List UInt8))) hr4 (by first | rfl | simp only [List.cons_append, List.append_assoc, List.nil_append, List.append_nil]) ?_
  refine ip 1 0 [(6, .slice (va r3.q) ((([] : List UInt8) ++ ([b] : List UInt8)).length) r3.k)] (by kernel_rfl) ?_
  refine ie ?_
  refine J_seq ?_
  refine sr 2 rfl ?_
  refine ip 1 1 [(19, .slice (va r3.q) ((([] : List UInt8) ++ ([b] : List UInt8)).length) r3.k)] (by kernel_rfl) ?_
  refine ixc rfl (det_call (utf_kind_c (([] : List UInt8) ++ ([b] : List UInt8)) (va r3.q) r3.k (by first | omega | (simp <;> omega) | (dsimp only; omega) | decide) (by first | omega | (simp <;> omega) | (dsimp only; omega) | decide) (by first | omega | (simp <;> omega)) _ rfl) rfl rfl rfl rfl rfl (Foll.pick [0] rfl)) ?_
  refine ie ?_
  refine J_block ?_
  refine sr 2 rfl ?_
  refine ip 2 0 [(21, bv (decide ((utf_kind (([] : List UInt8) ++ ([b] : List UInt8))) = 2)))] (by kernel_rfl) ?_
  refine ie ?_
  refine J_if rfl (fun h5 => ?_) (fun h5 => ?_)
  ·have h5p : (utf_kind (([] : List UInt8) ++ ([b] : List UInt8))) = 2 := by simpa using h5
   replace hR := bt hR h5
   refine sr 5 rfl ?_
   refine ip 1 4 [(23, .slice (va r3.q) ((([] : List UInt8) ++ ([b] : List UInt8)).length) r3.k)] (by kernel_rfl) ?_
   refine ixc rfl (det_call (utf_code_c (([] : List UInt8) ++ ([b] : List UInt8)) (va r3.q) r3.k (by first | omega | (simp <;> omega) | (dsimp only; omega) | decide) (by first | omega | (simp <;> omega) | (dsimp only; omega) | decide) (by first | omega | (simp <;> omega)) (by first | omega | (simp <;> omega)) _ rfl) rfl rfl rfl rfl rfl (Foll.pick [0] rfl)) ?_
   refine it rfl (tri_buildSl (c := cInt) (xs := ([(utf_code (([] : List UInt8) ++ ([b] : List UInt8)))] : List Int)) slt168 rfl rfl rfl (by kernel_rfl)) fun b6 => ?_
   have : ([(utf_code (([] : List UInt8) ++ ([b] : List UInt8)))] : List Int).length = 1 := rfl
   refine ip 2 0 [(4, .slice none 0 0), (5, .slice (some ⟨b6, 0, none⟩) 1 1)] (by kernel_rfl) ?_
   refine ie ?_
   refine J_ret ?_
   subst hR
   exact ends_ret rfl ⟨hr, hD⟩ (by simp [hD]) (res2 rfl (resV_tmp rfl) (resV_tmp rfl)) (⟨(none, 0), (by first | omega | (simp <;> omega) | (dsimp only; omega) | decide), (by first | omega | (simp <;> omega) | (dsimp only; omega) | decide)⟩, ⟨(some ⟨b6, 0, none⟩, 1), (by first | omega | (simp <;> omega) | (dsimp only; omega) | decide), (by first | omega | (simp <;> omega) | (dsimp only; omega) | decide)⟩) (by rfl) (mk [] rfl) (Foll.con1 sl_nil (Foll.con1 (at_of 0 rfl) Foll.nil))
  ·have h5p : ¬ ((utf_kind (([] : List UInt8) ++ ([b] : List UInt8))) = 2) := by simpa using h5
   replace hR := bf hR h5
   refine sr 2 rfl ?_
   refine ip 2 0 [(26, bv (decide ((utf_kind (([] : List UInt8) ++ ([b] : List UInt8))) = 1)))] (by kernel_rfl) ?_
   refine ie ?_
   refine J_if rfl (fun h7 => ?_) (fun h7 => ?_)
   ·have h7p : (utf_kind (([] : List UInt8) ++ ([b] : List UInt8))) = 1 := by simpa using h7
    replace hR := bt hR h7
    refine sr 3 rfl ?_
    refine ip 3 0 [(4, .slice (va r3.q) ((([] : List UInt8) ++ ([b] : List UInt8)).length) r3.k), (5, .slice none 0 0)] (by kernel_rfl) ?_
    refine ie ?_
    refine J_ret ?_
    subst hR
    exact ends_ret rfl ⟨hr, hD⟩ (by simp [hD]) (res2 rfl (resV_tmp rfl) (resV_tmp rfl)) (⟨(va r3.q, r3.k), (by first | omega | (simp <;> omega) | (dsimp only; omega) | decide), (by first | omega | (simp <;> omega) | (dsimp only; omega) | decide)⟩, ⟨(none, 0), (by first | omega | (simp <;> omega) | (dsimp only; omega) | decide), (by first | omega | (simp <;> omega) | (dsimp only; omega) | decide)⟩) (by rfl) (mk [] rfl) (Foll.con1 (at_of 0 rfl) (Foll.con1 sl_nil Foll.nil))
   ·have h7p : ¬ ((utf_kind (([] : List UInt8) ++ ([b] : List UInt8))) = 1) := by simpa using h7
    replace hR := bf hR h7
    refine J_skip ?_
    refine nx ?_
    refine J_seq ?_
    refine sr 3 rfl ?_
    refine ip 3 0 [(31, bv true)] (by kernel_rfl) ?_
    refine ie ?_
    refine J_yes rfl ?_
    refine sr 3 rfl ?_
    refine it rfl (tri_buildSl (c := cInt) (xs := ([65533] : List Int)) slt168 rfl rfl rfl (by kernel_rfl)) fun b8 => ?_
    have : ([65533] : List Int).length = 1 := rfl
    refine ip 2 0 [(4, .slice none 0 0), (5, .slice (some ⟨b8, 0, none⟩) 1 1)] (by kernel_rfl) ?_
    refine ie ?_
    refine J_ret ?_
    subst hR
    exact ends_ret rfl ⟨hr, hD⟩ (by simp [hD]) (res2 rfl (resV_tmp rfl) (resV_tmp rfl)) (⟨(none, 0), (by first | omega | (simp <;> omega) | (dsimp only; omega) | decide), (by first | omega | (simp <;> omega) | (dsimp only; omega) | decide)⟩, ⟨(some ⟨b8, 0, none⟩, 1), (by first | omega | (simp <;> omega) | (dsimp only; omega) | decide), (by first | omega | (simp <;> omega) | (dsimp only; omega) | decide)⟩) (by rfl) (mk [] rfl) (Foll.con1 sl_nil (Foll.con1 (at_of 0 rfl) Foll.nil))

def utf_Step_j0 (b : UInt8) (pending1 : List UInt8) : List UInt8 × List Int :=
 (bif (decide ((utf_kind (pending1 ++ ([b] : List UInt8))) = 2)) then (([] : List UInt8), ([(utf_code (pending1 ++ ([b] : List UInt8)))] : List Int)) else (bif (decide ((utf_kind (pending1 ++ ([b] : List UInt8))) = 1)) then ((pending1 ++ ([b] : List UInt8)), ([] : List Int)) else (bif (decide ((pending1.length : Int) = 0)) then (([] : List UInt8), ([65533] : List Int)) else ((utf_Stepa b).1, (([65533] : List Int) ++ (utf_Stepa b).2)))))
def utf_Step (pending : List UInt8) (b : UInt8) : List UInt8 × List Int :=
 (bif (!(utf_Right pending)) then utf_Step_j0 b ([] : List UInt8) else utf_Step_j0 b pending)

theorem utf_Step_len (p : List UInt8) (b : UInt8) : (utf_Step p b).1.length ≤ 4 ∧ (utf_Step p b).2.length ≤ 2 := by
 have h0 : ∀ q, (utf_Step_j0 b q).1.length ≤ 4 ∧ (utf_Step_j0 b q).2.length ≤ 2 := by
  intro q; unfold utf_Step_j0; simp only [Bool.cond_eq_ite]; have := utf_Stepa_len b; repeat' split
  all_goals simp
  ·rename_i h; have := utf_kind_front (by simpa using h); simpa using this
  ·omega
 unfold utf_Step; cases (!(utf_Right p)) <;> exact h0 _

theorem utf_Step_c (pending : List UInt8) (b : UInt8) (pendingq : Option Addr) (pendingk : Nat) (hlpending : pending.length ≤ 9223372036854775807) (hcpending : pending.length ≤ pendingk) (hp : pending.length ≤ 1000) (R : List UInt8 × List Int) (hR : utf_Step pending b = R) : Con Tryz.prog 241 [.slice pendingq pending.length pendingk, .int .u8 (b.toNat : Int)] [] [sl cU8 pendingq pending] ({t : Option Addr × Nat // R.1.length ≤ t.2 ∧ R.1.length ≤ 9223372036854775807} × {t : Option Addr × Nat // R.2.length ≤ t.2 ∧ R.2.length ≤ 9223372036854775807}) (fun x => .tuple #[.slice x.1.1.1 R.1.length x.1.1.2, .slice x.2.1.1 R.2.length x.2.1.2]) (fun x => []) (fun x => [sl cU8 x.1.1.1 R.1, sl cInt x.2.1.1 R.2]) := by
 refine con_of_J (n := 42) Tryz.func241 rfl (by kernel_rfl) rfl rfl [(0, .slice pendingq pending.length pendingk), (1, .int .u8 (b.toNat : Int))] ⟨rfl, rfl, trivial⟩ fun X hX hr hD => ?_
 replace hR := (utf_Step.eq_1 ..).symm.trans hR
 refine sr 2 rfl ?_
 refine ip 2 0 [] (by kernel_rfl) ?_
 refine ie ?_
 refine JS3 (fun (pending1 : List UInt8) (pendingq1 : Option Addr) (pendingk1 : Nat) => utf_Step_j0 b pending1 = R ∧ pending1.length ≤ pendingk1 ∧ pending1.length ≤ 9223372036854775807 ∧ pending1.length ≤ 1000) (fun (pending1 : List UInt8) (pendingq1 : Option Addr) (pendingk1 : Nat) => [(0, .slice pendingq1 pending1.length pendingk1), (1, .int .u8 (b.toNat : Int))]) (fun (pending1 : List UInt8) (pendingq1 : Option Addr) (pendingk1 : Nat) => []) (fun (pending1 : List UInt8) (pendingq1 : Option Addr) (pendingk1 : Nat) => [sl cU8 pendingq pending, sl cU8 pendingq1 pending1]) ?_ ?_
 ·refine sr 3 rfl ?_
  refine ip 1 2 [(7, .slice pendingq pending.length pendingk)] (by kernel_rfl) ?_
  refine ixc rfl (det_call (utf_Right_c pending pendingq pendingk (by first | omega | (simp <;> omega) | (dsimp only; omega) | decide) (by first | omega | (simp <;> omega) | (dsimp only; omega) | decide) _ rfl) rfl rfl rfl rfl rfl Foll.refl) ?_
  refine ip 1 0 [(9, bv (!(utf_Right pending)))] (by kernel_rfl) ?_
  refine ie ?_
  refine J_if rfl (fun h1 => ?_) (fun h1 => ?_)
  ·replace hR := bt hR h1
   refine J_region 1 rfl ?_
   refine ip 1 0 [(0, .slice none 0 0)] (by kernel_rfl) ?_
   refine JI_end ?_
   exact meet3 ([] : List UInt8) none 0 ⟨hR, (by first | omega | (simp <;> omega) | (dsimp only; omega) | decide), (by first | omega | (simp <;> omega) | (dsimp only; omega) | decide), (by first | omega | (simp <;> omega))⟩ ⟨(by first | rfl | (simp only [List.length_set]; rfl) | (simp; done) | (simp; omega)), rfl, trivial⟩ (mk [] rfl) (Foll.con1 (at_of 0 rfl) (Foll.con1 sl_nil Foll.nil))
  ·replace hR := bf hR h1
   refine J_skip ?_
   exact meet3 pending pendingq pendingk ⟨hR, (by first | omega | (simp <;> omega) | (dsimp only; omega) | decide), (by first | omega | (simp <;> omega) | (dsimp only; omega) | decide), (by first | omega | (simp <;> omega))⟩ ⟨(by first | rfl | (simp only [List.length_set]; rfl) | (simp; done) | (simp; omega)), rfl, trivial⟩ (mk [] rfl) (Foll.pick [0, 0] rfl)
 ·intro pending1 pendingq1 pendingk1
  rintro ⟨hR, hcpending1, hlpending1, hj⟩
  replace hR := (utf_Step_j0.eq_1 ..).symm.trans hR
  refine sr 10 rfl ?_
  refine ip 5 5 [(10, .slice pendingq1 pending1.length pendingk1), (12, iv (pending1.length : Int)), (14, iv (pending1.length : Int))] (by kernel_rfl) ?_
  refine ix rfl (det_slc0 (n' := pending1.length) slt30 rfl rfl pending1.length pending1.length (sb_some rfl rfl) (sb_some rfl rfl) (by omega) (by omega) (by first | rfl | omega) rfl) ?_
  refine ip 1 3 [(16, .int .u8 (b.toNat : Int))] (by kernel_rfl) ?_
  refine it rfl (tri_buildSl (c := cU8) (xs := ([b] : List UInt8)) slt30 rfl rfl rfl (by kernel_rfl)) fun b2 => ?_
  have : ([b] : List UInt8).length = 1 := rfl
  refine it rfl (tri_appq (f := cU8) (xs := pending1) (ys := ([b] : List UInt8)) apt30 (fun _ => rfl) (fun _ => rfl) rfl rfl rfl rfl rfl rfl (by omega) (by omega) (by rfl) (at_of 2 rfl) (at_of 0 rfl) (by first | omega | (simp <;> omega)) (by first | omega | (simp <;> omega))) fun ⟨⟨q3, k4⟩, hq5⟩ => ?_
  refine ip 1 0 [(6, .slice q3 ((pending1 ++ ([b] : List UInt8)).length) k4)] (by kernel_rfl) ?_
  refine ie ?_
  refine J_seq ?_
  refine sr 2 rfl ?_
  refine ip 1 1 [(19, .slice q3 ((pending1 ++ ([b] : List UInt8)).length) k4)] (by kernel_rfl) ?_
  refine ixc rfl (det_call (utf_kind_c (pending1 ++ ([b] : List UInt8)) q3 k4 (by first | omega | (simp <;> omega) | (dsimp only; omega) | decide) (by first | omega | (simp <;> omega) | (dsimp only; omega) | decide) (by first | omega | (simp <;> omega)) _ rfl) rfl rfl rfl rfl rfl (Foll.pick [0] rfl)) ?_
  refine ie ?_
  refine J_block ?_
  refine sr 2 rfl ?_
  refine ip 2 0 [(21, bv (decide ((utf_kind (pending1 ++ ([b] : List UInt8))) = 2)))] (by kernel_rfl) ?_
  refine ie ?_
  refine J_if rfl (fun h6 => ?_) (fun h6 => ?_)
  ·have h6p : (utf_kind (pending1 ++ ([b] : List UInt8))) = 2 := by simpa using h6
   replace hR := bt hR h6
   refine sr 5 rfl ?_
   refine ip 1 4 [(23, .slice q3 ((pending1 ++ ([b] : List UInt8)).length) k4)] (by kernel_rfl) ?_
   refine ixc rfl (det_call (utf_code_c (pending1 ++ ([b] : List UInt8)) q3 k4 (by first | omega | (simp <;> omega) | (dsimp only; omega) | decide) (by first | omega | (simp <;> omega) | (dsimp only; omega) | decide) (by first | omega | (simp <;> omega)) (by first | omega | (simp <;> omega)) _ rfl) rfl rfl rfl rfl rfl (Foll.pick [0] rfl)) ?_
   refine it rfl (tri_buildSl (c := cInt) (xs := ([(utf_code (pending1 ++ ([b] : List UInt8)))] : List Int)) slt168 rfl rfl rfl (by kernel_rfl)) fun b7 => ?_
   have : ([(utf_code (pending1 ++ ([b] : List UInt8)))] : List Int).length = 1 := rfl
   refine ip 2 0 [(4, .slice none 0 0), (5, .slice (some ⟨b7, 0, none⟩) 1 1)] (by kernel_rfl) ?_
   refine ie ?_
   refine J_ret ?_
   subst hR
   exact ends_ret rfl ⟨hr, hD⟩ (by simp [hD]) (res2 rfl (resV_tmp rfl) (resV_tmp rfl)) (⟨(none, 0), (by first | omega | (simp <;> omega) | (dsimp only; omega) | decide), (by first | omega | (simp <;> omega) | (dsimp only; omega) | decide)⟩, ⟨(some ⟨b7, 0, none⟩, 1), (by first | omega | (simp <;> omega) | (dsimp only; omega) | decide), (by first | omega | (simp <;> omega) | (dsimp only; omega) | decide)⟩) (by rfl) (mk [] rfl) (Foll.con1 sl_nil (Foll.con1 (at_of 0 rfl) Foll.nil))
  ·have h6p : ¬ ((utf_kind (pending1 ++ ([b] : List UInt8))) = 2) := by simpa using h6
   replace hR := bf hR h6
   refine sr 2 rfl ?_
   refine ip 2 0 [(26, bv (decide ((utf_kind (pending1 ++ ([b] : List UInt8))) = 1)))] (by kernel_rfl) ?_
   refine ie ?_
   refine J_if rfl (fun h8 => ?_) (fun h8 => ?_)
   ·have h8p : (utf_kind (pending1 ++ ([b] : List UInt8))) = 1 := by simpa using h8
    replace hR := bt hR h8
    refine sr 3 rfl ?_
    refine ip 3 0 [(4, .slice q3 ((pending1 ++ ([b] : List UInt8)).length) k4), (5, .slice none 0 0)] (by kernel_rfl) ?_
    refine ie ?_
    refine J_ret ?_
    subst hR
    exact ends_ret rfl ⟨hr, hD⟩ (by simp [hD]) (res2 rfl (resV_tmp rfl) (resV_tmp rfl)) (⟨(q3, k4), (by first | omega | (simp <;> omega) | (dsimp only; omega) | decide), (by first | omega | (simp <;> omega) | (dsimp only; omega) | decide)⟩, ⟨(none, 0), (by first | omega | (simp <;> omega) | (dsimp only; omega) | decide), (by first | omega | (simp <;> omega) | (dsimp only; omega) | decide)⟩) (by rfl) (mk [] rfl) (Foll.con1 (at_of 0 rfl) (Foll.con1 sl_nil Foll.nil))
   ·have h8p : ¬ ((utf_kind (pending1 ++ ([b] : List UInt8))) = 1) := by simpa using h8
    replace hR := bf hR h8
    refine J_skip ?_
    refine nx ?_
    refine J_seq ?_
    refine sr 3 rfl ?_
    refine ip 3 0 [(31, bv (decide ((pending1.length : Int) = 0)))] (by kernel_rfl) ?_
    refine ie ?_
    refine J_if rfl (fun h9 => ?_) (fun h9 => ?_)
    ·have h9p : (pending1.length : Int) = 0 := by simpa using h9
     replace hR := bt hR h9
     refine sr 3 rfl ?_
     refine it rfl (tri_buildSl (c := cInt) (xs := ([65533] : List Int)) slt168 rfl rfl rfl (by kernel_rfl)) fun b10 => ?_
     have : ([65533] : List Int).length = 1 := rfl
     refine ip 2 0 [(4, .slice none 0 0), (5, .slice (some ⟨b10, 0, none⟩) 1 1)] (by kernel_rfl) ?_
     refine ie ?_
     refine J_ret ?_
     subst hR
     exact ends_ret rfl ⟨hr, hD⟩ (by simp [hD]) (res2 rfl (resV_tmp rfl) (resV_tmp rfl)) (⟨(none, 0), (by first | omega | (simp <;> omega) | (dsimp only; omega) | decide), (by first | omega | (simp <;> omega) | (dsimp only; omega) | decide)⟩, ⟨(some ⟨b10, 0, none⟩, 1), (by first | omega | (simp <;> omega) | (dsimp only; omega) | decide), (by first | omega | (simp <;> omega) | (dsimp only; omega) | decide)⟩) (by rfl) (mk [] rfl) (Foll.con1 sl_nil (Foll.con1 (at_of 0 rfl) Foll.nil))
    ·have h9p : ¬ ((pending1.length : Int) = 0) := by simpa using h9
     replace hR := bf hR h9
     refine J_skip ?_
     refine nx ?_
     refine sr 7 rfl ?_
     refine ip 1 6 [(34, .int .u8 (b.toNat : Int))] (by kernel_rfl) ?_
     refine it rfl (tri_callN (L2 := []) (utf_Stepa_c b (by first | omega | (simp <;> omega)) _ rfl) rfl rfl rfl rfl rfl Foll.nil (List.Perm.refl _) (fun ⟨⟨⟨q11, k12⟩, hp13⟩, ⟨⟨q16, k17⟩, hp18⟩⟩ => []) (fun _ => rfl)) fun ⟨⟨⟨q11, k12⟩, hp13⟩, ⟨⟨q16, k17⟩, hp18⟩⟩ => ?_
     obtain ⟨hc14, hl15⟩ := hp13
     obtain ⟨hc19, hl20⟩ := hp18
     have := utf_Stepa_len b
     refine ip 5 0 [(4, .slice q11 (((utf_Stepa b).1).length) k12), (5, .slice q16 (((utf_Stepa b).2).length) k17)] (by kernel_rfl) ?_
     refine ie ?_
     refine sr 6 rfl ?_
     refine ip 1 5 [(38, .slice q11 (((utf_Stepa b).1).length) k12)] (by kernel_rfl) ?_
     refine it rfl (tri_buildSl (c := cInt) (xs := ([65533] : List Int)) slt168 rfl rfl rfl (by kernel_rfl)) fun b21 => ?_
     have : ([65533] : List Int).length = 1 := rfl
     refine ip 1 3 [(40, .slice q16 (((utf_Stepa b).2).length) k17)] (by kernel_rfl) ?_
     refine it rfl (tri_appq (f := cInt) (xs := ([65533] : List Int)) (ys := (utf_Stepa b).2) apt168 (fun _ => rfl) (fun _ => rfl) rfl rfl rfl rfl rfl rfl (by omega) (by omega) (by rfl) (at_of 0 rfl) (at_of 2 rfl) (by first | omega | (simp <;> omega)) (by first | omega | (simp <;> omega))) fun ⟨⟨q22, k23⟩, hq24⟩ => ?_
     refine ip 2 0 [(4, .slice q11 (((utf_Stepa b).1).length) k12), (5, .slice q22 ((([65533] : List Int) ++ (utf_Stepa b).2).length) k23)] (by kernel_rfl) ?_
     refine ie ?_
     refine J_ret ?_
     subst hR
     exact ends_ret rfl ⟨hr, hD⟩ (by simp [hD]) (res2 rfl (resV_tmp rfl) (resV_tmp rfl)) (⟨(q11, k12), (by first | omega | (simp <;> omega) | (dsimp only; omega) | decide), (by first | omega | (simp <;> omega) | (dsimp only; omega) | decide)⟩, ⟨(q22, k23), (by first | omega | (simp <;> omega) | (dsimp only; omega) | decide), (by first | omega | (simp <;> omega) | (dsimp only; omega) | decide)⟩) (by rfl) (mk [] rfl) (Foll.con1 (at_of 2 rfl) (Foll.con1 (at_of 0 rfl) Foll.nil))

def utf_Flush (pending : List UInt8) : List Int :=
 (bif ((decide ((0 : Int) < (pending.length : Int))) && (utf_Right pending)) then ([65533] : List Int) else ([] : List Int))

theorem utf_Flush_split (p : List UInt8) : utf_Flush p = (bif (decide (0 < (p.length : Int)) && utf_Right p) then [65533] else []) := rfl

theorem utf_Flush_c (pending : List UInt8) (pendingq : Option Addr) (pendingk : Nat) (hlpending : pending.length ≤ 9223372036854775807) (hcpending : pending.length ≤ pendingk) (hp : pending.length ≤ 1000) (R : List Int) (hR : utf_Flush pending = R) : Con Tryz.prog 242 [.slice pendingq pending.length pendingk] [] [sl cU8 pendingq pending] ({t : Option Addr × Nat // R.length ≤ t.2 ∧ R.length ≤ 9223372036854775807}) (fun x => .slice x.1.1 R.length x.1.2) (fun x => []) (fun x => [sl cInt x.1.1 R]) := by
 refine con_of_J (n := 11) Tryz.func242 rfl (by kernel_rfl) rfl rfl [(0, .slice pendingq pending.length pendingk)] ⟨rfl, trivial⟩ fun X hX hr hD => ?_
 replace hR := (utf_Flush.eq_1 ..).symm.trans hR
 refine sr 1 rfl ?_
 refine ip 1 0 [] (by kernel_rfl) ?_
 refine ie ?_
 refine J_seq ?_
 refine sr 7 rfl ?_
 refine ip 4 3 [(6, bv (decide ((0 : Int) < (pending.length : Int))))] (by kernel_rfl) ?_
 refine iand 3 0 6 9 (utf_Right pending) rfl (by kernel_rfl) (fun g1 => ?_) ?_
 ·have g1p : (0 : Int) < (pending.length : Int) := by simpa using g1
  refine ip 1 2 [(7, .slice pendingq pending.length pendingk)] (by kernel_rfl) ?_
  refine ixc rfl (det_call (utf_Right_c pending pendingq pendingk (by first | omega | (simp <;> omega) | (dsimp only; omega) | decide) (by first | omega | (simp <;> omega) | (dsimp only; omega) | decide) _ rfl) rfl rfl rfl rfl rfl Foll.refl) ?_
  refine ip 1 0 [(9, bv (utf_Right pending))] (by kernel_rfl) ?_
  exact JI_end (armI 4 6 9 g1 Foll.refl (mk [] rfl) rfl rfl rfl rfl rfl)
 refine ie ?_
 refine J_if rfl (fun h2 => ?_) (fun h2 => ?_)
 ·have h2p := h2; try simp at h2p
  replace hR := bt hR h2
  refine sr 2 rfl ?_
  refine it rfl (tri_buildSl (c := cInt) (xs := ([65533] : List Int)) slt168 rfl rfl rfl (by kernel_rfl)) fun b3 => ?_
  have : ([65533] : List Int).length = 1 := rfl
  refine ip 1 0 [(2, .slice (some ⟨b3, 0, none⟩) 1 1)] (by kernel_rfl) ?_
  refine ie ?_
  refine J_ret ?_
  subst hR
  exact ends_ret rfl ⟨hr, hD⟩ (by simp [hD]) (res1 rfl (resV_tmp rfl)) ⟨(some ⟨b3, 0, none⟩, 1), (by first | omega | (simp <;> omega) | (dsimp only; omega) | decide), (by first | omega | (simp <;> omega) | (dsimp only; omega) | decide)⟩ (by rfl) (mk [] rfl) (Foll.con1 (at_of 0 rfl) Foll.nil)
 ·have h2p := h2; try simp at h2p
  replace hR := bf hR h2
  refine J_skip ?_
  refine nx ?_
  refine sr 1 rfl ?_
  refine ip 1 0 [(2, .slice none 0 0)] (by kernel_rfl) ?_
  refine ie ?_
  refine J_ret ?_
  subst hR
  exact ends_ret rfl ⟨hr, hD⟩ (by simp [hD]) (res1 rfl (resV_tmp rfl)) ⟨(none, 0), (by first | omega | (simp <;> omega) | (dsimp only; omega) | decide), (by first | omega | (simp <;> omega) | (dsimp only; omega) | decide)⟩ (by rfl) (mk [] rfl) (Foll.con1 sl_nil Foll.nil)

def utf_each (s : List UInt8) : List UInt8 :=
 s

theorem utf_each_c (s : List UInt8) (R : List UInt8) (hR : utf_each s = R) : Con Tryz.prog 233 [sv s] [] [] (Addr) (fun x => .func (.func 240) #[] #[pa x]) (fun x => []) (fun x => [at_ x [sv R]]) := by
 refine con_of_J (n := 4) Tryz.func233 rfl (by kernel_rfl) rfl rfl [(0, sv s)] ⟨rfl, trivial⟩ fun X hX hr hD => ?_
 replace hR := (utf_each.eq_1 ..).symm.trans hR
 refine sr 2 rfl ?_
 refine it rfl (tri_box (cs := [sv s]) rfl rfl rfl) fun b1 => ?_
 refine JI_fix 0 rfl ?_
 refine ip 1 0 [] (by kernel_rfl) ?_
 refine ie ?_
 refine sr 2 rfl ?_
 refine ip 2 0 [(2, .func (.func 240) #[] #[pa ⟨b1, 0, none⟩])] (by kernel_rfl) ?_
 refine ie ?_
 refine J_ret ?_
 subst hR
 exact ends_ret rfl ⟨hr, hD⟩ (by simp [hD]) (res1 rfl (resV_tmp rfl)) ⟨b1, 0, none⟩ (by rfl) (mk [] rfl) (Foll.con1 (at_of 0 rfl) Foll.nil)

def utf_each_1_l4 (c0 : List UInt8) (pending : List UInt8) (t13 : Nat) (ag_utf_each_1_l3 : List UInt8 → Nat → List Int) : List Int → Nat → List Int
 | [], t27 => ag_utf_each_1_l3 ((utf_Step pending (c0.getD t13 0)).1) (t13 + 1)
 | hd_l4 :: tl_l4, t27 => (hd_l4 :: utf_each_1_l4 c0 pending t13 ag_utf_each_1_l3 tl_l4 (t27 + 1))
def utf_each_1_l3 (c0 : List UInt8) : List UInt8 → List UInt8 → Nat → List Int
 | [], pending, t13 => (bif (decide (0 < (pending.length : Int)) && utf_Right pending) then ((([65533] : List Int).getD 0 0) :: []) else [])
 | hd_l3 :: tl_l3, pending, t13 => utf_each_1_l4 c0 pending t13 (utf_each_1_l3 c0 tl_l3) ((utf_Step pending hd_l3).2) 0
def utf_each_1 (c0 : List UInt8) : List Int :=
 utf_each_1_l3 c0 c0 ([] : List UInt8) 0

theorem utf_each_1_l4_len (c0 pending : List UInt8) (t13 : Nat) (ag : List UInt8 → Nat → List Int) : ∀ (l : List Int) (t : Nat), (utf_each_1_l4 c0 pending t13 ag l t).length = l.length + (ag ((utf_Step pending (c0.getD t13 0)).1) (t13 + 1)).length
 | [], t => by simp [utf_each_1_l4]
 | x :: l, t => by simp only [utf_each_1_l4, List.length_cons, utf_each_1_l4_len c0 pending t13 ag l]; omega
theorem utf_each_1_l3_len (c0 : List UInt8) : ∀ (s p : List UInt8) (t : Nat), (utf_each_1_l3 c0 s p t).length ≤ 2 * s.length + 1
 | [], p, t => by
  simp only [utf_each_1_l3]
  generalize (decide (0 < (p.length : Int)) && utf_Right p) = b
  cases b <;> simp
 | x :: s, p, t => by
  simp only [utf_each_1_l3, utf_each_1_l4_len, List.length_cons]
  have := (utf_Step_len p x).2; have := utf_each_1_l3_len c0 s (utf_Step p (c0.getD t 0)).1 (t + 1); omega
theorem utf_each_1_len (s : List UInt8) : (utf_each_1 s).length ≤ 2 * s.length + 1 := utf_each_1_l3_len s s [] 0

theorem utf_each_1_c (c0 : List UInt8) (c0p : Addr) (hs : c0.length ≤ 1000000000) (R : List Int) (hR : utf_each_1 c0 = R) : IterCon Tryz.prog 240 [pa c0p] [at_ c0p [sv c0]] (fun x => iv x) R := by
 refine iter_of_J (n := 48) Tryz.func240 rfl (by kernel_rfl) rfl rfl (fun l => [(0, .func (.yield l) #[] #[]), (1, pa c0p)]) (fun l => ⟨rfl, rfl, trivial⟩) fun X l I Ix L Φ hX hr hD hI0 hY => ?_
 replace hR := (utf_each_1.eq_1 ..).symm.trans hR
 refine sr 1 rfl ?_
 refine ip 1 0 [(3, .slice none 0 0)] (by kernel_rfl) ?_
 refine ie ?_
 refine J_seq ?_
 refine sr 3 rfl ?_
 refine ix rfl (det_ld_one (v := sv c0) (us := [sv c0]) ty9 rfl rfl (at_of 0 rfl) rfl) ?_
 refine ip 2 0 [(12, iv (c0.length : Int)), (13, iv 0)] (by kernel_rfl) ?_
 refine ie ?_
 refine J_block ?_
 refine JL7 (fun (pending : List UInt8) (pendingq : Option Addr) (pendingk : Nat) (t13 : Nat) (R_ : List Int) (Lt : Fen.Own) (Ft : List Pers) => t13 ≤ c0.length ∧ utf_each_1_l3 c0 (c0.drop t13) pending t13 = R_ ∧ pending.length ≤ pendingk ∧ pending.length ≤ 9223372036854775807 ∧ I R_ Lt Ft ∧ pending.length ≤ 1000) (fun (pending : List UInt8) (pendingq : Option Addr) (pendingk : Nat) (t13 : Nat) (R_ : List Int) (Lt : Fen.Own) (Ft : List Pers) => [(0, .func (.yield l) #[] #[]), (1, pa c0p), (3, .slice pendingq pending.length pendingk), (12, iv (c0.length : Int)), (13, iv (t13 : Int))]) (fun (pending : List UInt8) (pendingq : Option Addr) (pendingk : Nat) (t13 : Nat) (R_ : List Int) (Lt : Fen.Own) (Ft : List Pers) => (Lt ++ ([]))) (fun (pending : List UInt8) (pendingq : Option Addr) (pendingk : Nat) (t13 : Nat) (R_ : List Int) (Lt : Fen.Own) (Ft : List Pers) => (at_ c0p [sv c0] :: sl cU8 pendingq pending :: Ft)) (fun (pending : List UInt8) (pendingq : Option Addr) (pendingk : Nat) (t13 : Nat) (R_ : List Int) (Lt : Fen.Own) (Ft : List Pers) => c0.length - t13) ([] : List UInt8) none 0 0 R L Φ ⟨(by omega), hR, (by first | omega | (simp <;> omega) | (dsimp only; omega) | decide), (by first | omega | (simp <;> omega) | (dsimp only; omega) | decide), hI0, (by simp)⟩ ⟨rfl, rfl, (by first | rfl | (simp only [List.length_set]; rfl) | (simp; done) | (simp; omega)), rfl, (by first | rfl | (simp only [List.length_set]; rfl) | (simp; done) | (simp; omega)), trivial⟩ (mc [L] [true] rfl (by first | rfl | (simp only [List.length_set] <;> rfl))) (Foll.con1 (at_of 0 rfl) (Foll.con1 sl_nil (Foll.dropT 1 rfl))) ?_
 rintro pending pendingq pendingk t13 R_ Lt Ft ⟨hm1, hR, hcpending, hlpending, hILt, hp⟩
 refine sr 1 rfl ?_
 refine ip 1 0 [(14, bv (decide ((t13 : Int) < (c0.length : Int))))] (by kernel_rfl) ?_
 refine ie ?_
 refine J_seq ?_
 refine J_if rfl (fun h2 => ?_) (fun h2 => ?_)
 ·have h2p : (t13 : Int) < (c0.length : Int) := by simpa using h2
  rw [dropc 0 (show t13 < c0.length by omega)] at hR; replace hR := (utf_each_1_l3.eq_2 ..).symm.trans hR
  refine J_skip ?_
  refine nx ?_
  refine J_seq ?_
  refine J_block ?_
  refine sr 2 rfl ?_
  refine ip 2 0 [(4, iv (t13 : Int))] (by kernel_rfl) ?_
  refine ie ?_
  refine sr 10 rfl ?_
  refine ip 1 9 [(17, .slice pendingq pending.length pendingk)] (by kernel_rfl) ?_
  refine ix rfl (det_ld_one (v := sv c0) (us := [sv c0]) ty9 rfl rfl (at_of 0 rfl) rfl) ?_
  refine ip 1 7 [(19, iv (t13 : Int))] (by kernel_rfl) ?_
  refine ix rfl (det_stix (T := 9) Tryz.underlying9 rfl rfl rfl t13 rfl (by omega)) ?_
  refine it rfl (tri_callN (L2 := (Lt ++ ([]))) (utf_Step_c pending (c0.getD t13 0) pendingq pendingk (by first | omega | (simp <;> omega) | (dsimp only; omega) | decide) (by first | omega | (simp <;> omega) | (dsimp only; omega) | decide) (by first | omega | (simp <;> omega)) _ rfl) rfl rfl rfl rfl rfl (Foll.cons (at_of 1 rfl) Foll.nil) (List.Perm.refl _) (fun ⟨⟨⟨q3, k4⟩, hp5⟩, ⟨⟨q8, k9⟩, hp10⟩⟩ => (Lt ++ ([]))) (fun _ => by first | rfl | simp only [List.append_nil, List.cons_append, List.nil_append, List.append_assoc])) fun ⟨⟨⟨q3, k4⟩, hp5⟩, ⟨⟨q8, k9⟩, hp10⟩⟩ => ?_
  obtain ⟨hc6, hl7⟩ := hp5
  obtain ⟨hc11, hl12⟩ := hp10
  have := utf_Step_len pending (c0.getD t13 0)
  refine ip 5 0 [(5, .slice q3 (((utf_Step pending (c0.getD t13 0)).1).length) k4), (6, .slice q8 (((utf_Step pending (c0.getD t13 0)).2).length) k9)] (by kernel_rfl) ?_
  refine ie ?_
  refine sr 2 rfl ?_
  refine ip 2 0 [(3, .slice q3 (((utf_Step pending (c0.getD t13 0)).1).length) k4)] (by kernel_rfl) ?_
  refine ie ?_
  refine sr 3 rfl ?_
  refine ip 3 0 [(25, .slice q8 (((utf_Step pending (c0.getD t13 0)).2).length) k9), (26, iv (((utf_Step pending (c0.getD t13 0)).2).length : Int)), (27, iv 0)] (by kernel_rfl) ?_
  refine ie ?_
  refine J_block ?_
  refine JL4 (fun (t27 : Nat) (R_1 : List Int) (Lt1 : Fen.Own) (Ft1 : List Pers) => t27 ≤ ((utf_Step pending (c0.getD t13 0)).2).length ∧ utf_each_1_l4 c0 pending t13 (utf_each_1_l3 c0 (c0.drop (t13 + 1))) (((utf_Step pending (c0.getD t13 0)).2).drop t27) t27 = R_1 ∧ I R_1 Lt1 Ft1) (fun (t27 : Nat) (R_1 : List Int) (Lt1 : Fen.Own) (Ft1 : List Pers) => [(0, .func (.yield l) #[] #[]), (1, pa c0p), (3, .slice q3 (((utf_Step pending (c0.getD t13 0)).1).length) k4), (12, iv (c0.length : Int)), (13, iv (t13 : Int)), (25, .slice q8 (((utf_Step pending (c0.getD t13 0)).2).length) k9), (26, iv (((utf_Step pending (c0.getD t13 0)).2).length : Int)), (27, iv (t27 : Int))]) (fun (t27 : Nat) (R_1 : List Int) (Lt1 : Fen.Own) (Ft1 : List Pers) => (Lt1 ++ ([]))) (fun (t27 : Nat) (R_1 : List Int) (Lt1 : Fen.Own) (Ft1 : List Pers) => (sl cU8 q3 ((utf_Step pending (c0.getD t13 0)).1) :: sl cInt q8 ((utf_Step pending (c0.getD t13 0)).2) :: at_ c0p [sv c0] :: sl cU8 pendingq pending :: Ft1)) (fun (t27 : Nat) (R_1 : List Int) (Lt1 : Fen.Own) (Ft1 : List Pers) => ((utf_Step pending (c0.getD t13 0)).2).length - t27) 0 R_ Lt Ft ⟨(by omega), hR, hILt⟩ ⟨rfl, rfl, rfl, rfl, rfl, rfl, rfl, (by first | rfl | (simp only [List.length_set]; rfl) | (simp; done) | (simp; omega)), trivial⟩ (mc [Lt] [true] rfl (by first | rfl | (simp only [List.length_set] <;> rfl))) (Foll.con1 (at_of 0 rfl) (Foll.con1 (at_of 1 rfl) (Foll.con1 (at_of 2 rfl) (Foll.con1 (at_of 3 rfl) (Foll.dropT 4 rfl))))) ?_
  rintro t27 R_1 Lt1 Ft1 ⟨hm13, hR, hILt1⟩
  refine sr 1 rfl ?_
  refine ip 1 0 [(28, bv (decide ((t27 : Int) < (((utf_Step pending (c0.getD t13 0)).2).length : Int))))] (by kernel_rfl) ?_
  refine ie ?_
  refine J_seq ?_
  refine J_if rfl (fun h14 => ?_) (fun h14 => ?_)
  ·have h14p : (t27 : Int) < (((utf_Step pending (c0.getD t13 0)).2).length : Int) := by simpa using h14
   rw [dropc 0 (show t27 < ((utf_Step pending (c0.getD t13 0)).2).length by omega)] at hR; replace hR := (utf_each_1_l4.eq_2 ..).symm.trans hR
   refine J_skip ?_
   refine nx ?_
   refine J_seq ?_
   refine J_block ?_
   refine sr 3 rfl ?_
   refine JI_base 1 rfl (by omega) fun a15 hq16 => ?_
   refine ix rfl (det_ixq slt168 rfl rfl hq16 rfl t27 rfl (by omega)) ?_
   refine ix rfl (det_ld_one (v := iv (((utf_Step pending (c0.getD t13 0)).2).getD t27 0)) (us := [iv (((utf_Step pending (c0.getD t13 0)).2).getD t27 0)]) ty3 rfl rfl (at_slq (c := cInt) (sz := 1) hq16 (fun _ => rfl) 1 rfl (gd 0 (by omega))) rfl) ?_
   refine ip 1 0 [(8, iv (((utf_Step pending (c0.getD t13 0)).2).getD t27 0))] (by kernel_rfl) ?_
   refine ie ?_
   refine sr 4 rfl ?_
   refine ip 2 2 [(31, .func (.yield l) #[] #[]), (32, iv (((utf_Step pending (c0.getD t13 0)).2).getD t27 0))] (by kernel_rfl) ?_
   have hq22 := consR hR; clear hR; obtain ⟨R17, hR, hq22⟩ := hq22; rw [hq22] at hILt1
   refine it rfl (tri_yield (L2 := []) (hY _ R17 _ _ hILt1) rfl rfl rfl rfl (Foll.dropT 4 rfl) (permC [Lt1] [0] 1 rfl (by decide) rfl [Lt1] rfl (by simp only [List.flatten_cons, List.flatten_nil, List.append_nil, List.cons_append, List.nil_append, List.append_assoc]))) fun ⟨⟨y18, L19, Φ20⟩, hy21⟩ => ?_
   refine JI_foll (Foll.yield [sl cU8 q3 ((utf_Step pending (c0.getD t13 0)).1), sl cInt q8 ((utf_Step pending (c0.getD t13 0)).2), at_ c0p [sv c0], sl cU8 pendingq pending]) ?_
   refine ip 1 0 [(34, bv (!y18))] (by kernel_rfl) ?_
   refine ie ?_
   refine J_if rfl (fun h23 => ?_) (fun h23 => ?_)
   ·have h23b : y18 = false := by simpa using h23
    rw [h23b] at hy21; try simp only [if_true, if_false, Bool.false_eq_true] at hy21
    refine J_ret ?_
    exact iends_ret rfl ⟨hr, hD⟩ (by simp [hD]) (res0 rfl) (L' := L19) (Φ' := Φ20) (by exact .inr hy21) (mcT [L19] 0 rfl rfl) (Foll.dropT 4 rfl)
   ·have h23b : y18 = true := by simpa using h23
    rw [h23b] at hy21; try simp only [if_true, if_false, Bool.false_eq_true] at hy21
    refine J_skip ?_
    refine nx ?_
    refine J_region 2 rfl ?_
    refine ix rfl (det_add64 rfl rfl rfl rfl (by omega)) ?_
    refine ip 1 0 [(27, iv ((t27 : Int) + 1))] (by kernel_rfl) ?_
    refine JI_end ?_
    exact againL4 (z1 := t27) (z2 := R_1) (z3 := Lt1) (z4 := Ft1) (t27 + 1) R17 L19 Φ20 ⟨(by omega), hR, hy21⟩ (by (try dsimp only); omega) ⟨rfl, rfl, rfl, rfl, rfl, rfl, rfl, (by first | rfl | (simp only [List.length_set]; rfl) | (simp; done) | (simp; omega)), trivial⟩ (mc [L19] [true] rfl (by first | rfl | (simp only [List.length_set] <;> rfl))) (Foll.con1 (at_of 0 rfl) (Foll.con1 (at_of 1 rfl) (Foll.con1 (at_of 2 rfl) (Foll.con1 (at_of 3 rfl) (Foll.dropT 4 rfl)))))
  ·have h14p : ¬ ((t27 : Int) < (((utf_Step pending (c0.getD t13 0)).2).length : Int)) := by simpa using h14
   rw [dropn h14p] at hR; replace hR := (utf_each_1_l4.eq_1 ..).symm.trans hR
   refine J_exit ?_
   refine nx ?_
   refine J_region 2 rfl ?_
   refine ix rfl (det_add64 rfl rfl rfl rfl (by omega)) ?_
   refine ip 1 0 [(13, iv ((t13 : Int) + 1))] (by kernel_rfl) ?_
   refine JI_end ?_
   exact againL7 (z1 := pending) (z2 := pendingq) (z3 := pendingk) (z4 := t13) (z5 := R_) (z6 := Lt) (z7 := Ft) ((utf_Step pending (c0.getD t13 0)).1) q3 k4 (t13 + 1) R_1 Lt1 Ft1 ⟨(by omega), hR, (by first | omega | (simp <;> omega) | (dsimp only; omega) | decide), (by first | omega | (simp <;> omega) | (dsimp only; omega) | decide), hILt1, (by first | omega | (simp <;> omega))⟩ (by (try dsimp only); omega) ⟨rfl, rfl, (by first | rfl | (simp only [List.length_set]; rfl) | (simp; done) | (simp; omega)), rfl, (by first | rfl | (simp only [List.length_set]; rfl) | (simp; done) | (simp; omega)), trivial⟩ (mc [Lt1] [true] rfl (by first | rfl | (simp only [List.length_set] <;> rfl))) (Foll.con1 (at_of 2 rfl) (Foll.con1 (at_of 0 rfl) (Foll.dropT 4 rfl)))
 ·have h2p : ¬ ((t13 : Int) < (c0.length : Int)) := by simpa using h2
  rw [dropn h2p] at hR; replace hR := (utf_each_1_l3.eq_1 ..).symm.trans hR
  refine J_exit ?_
  refine nx ?_
  refine sr 4 rfl ?_
  refine ip 1 3 [(37, .slice pendingq pending.length pendingk)] (by kernel_rfl) ?_
  have hs30 := utf_Flush_split pending
  cases hc29 : (decide (0 < (pending.length : Int)) && utf_Right pending)
  ·replace hR := bf hR hc29
   replace hs30 := hs30.trans (by rw [hc29]; rfl : _ = ([] : List Int))
   refine it rfl (tri_callN (L2 := (Lt ++ ([]))) (utf_Flush_c pending pendingq pendingk (by first | omega | (simp <;> omega) | (dsimp only; omega) | decide) (by first | omega | (simp <;> omega) | (dsimp only; omega) | decide) (by first | omega | (simp <;> omega)) ([] : List Int) hs30) rfl rfl rfl rfl rfl (Foll.cons (at_of 1 rfl) Foll.nil) (List.Perm.refl _) (fun ⟨⟨q24, k25⟩, hp26⟩ => (Lt ++ ([]))) (fun _ => by first | rfl | simp only [List.append_nil, List.cons_append, List.nil_append, List.append_assoc])) fun ⟨⟨q24, k25⟩, hp26⟩ => ?_
   have : ([] : List Int).length = 0 := rfl
   refine ip 2 0 [(39, iv 0), (40, iv 0)] (by kernel_rfl) ?_
   refine ie ?_
   refine J_block ?_
   refine J_rounds 2 ?_
   refine JR_succ ?_
   refine sr 1 rfl ?_
   refine ip 1 0 [(41, bv false)] (by kernel_rfl) ?_
   refine ie ?_
   refine J_seq ?_
   refine J_no rfl ?_
   refine J_exit ?_
   subst hR
   exact iends_normal rfl ⟨hr, hD⟩ (by simp [hD]) (res0 rfl) (L' := Lt) (Φ' := Ft) (by exact .inl hILt) (mcT [Lt] 0 rfl rfl) (Foll.dropT 3 rfl)
  ·replace hR := bt hR hc29
   replace hs30 := hs30.trans (by rw [hc29]; rfl : _ = ([65533] : List Int))
   refine it rfl (tri_callN (L2 := (Lt ++ ([]))) (utf_Flush_c pending pendingq pendingk (by first | omega | (simp <;> omega) | (dsimp only; omega) | decide) (by first | omega | (simp <;> omega) | (dsimp only; omega) | decide) (by first | omega | (simp <;> omega)) ([65533] : List Int) hs30) rfl rfl rfl rfl rfl (Foll.cons (at_of 1 rfl) Foll.nil) (List.Perm.refl _) (fun ⟨⟨q24, k25⟩, hp26⟩ => (Lt ++ ([]))) (fun _ => by first | rfl | simp only [List.append_nil, List.cons_append, List.nil_append, List.append_assoc])) fun ⟨⟨q24, k25⟩, hp26⟩ => ?_
   have : ([65533] : List Int).length = 1 := rfl
   refine ip 2 0 [(39, iv 1), (40, iv 0)] (by kernel_rfl) ?_
   refine ie ?_
   refine J_block ?_
   refine J_rounds 3 ?_
   refine JR_succ ?_
   refine sr 1 rfl ?_
   refine ip 1 0 [(41, bv true)] (by kernel_rfl) ?_
   refine ie ?_
   refine J_seq ?_
   refine J_yes rfl ?_
   refine J_skip ?_
   refine nx ?_
   refine J_seq ?_
   refine J_block ?_
   refine sr 3 rfl ?_
   refine JI_base 0 rfl (by omega) fun a31 hq32 => ?_
   refine ix rfl (det_ixq slt168 rfl rfl hq32 rfl 0 rfl (by omega)) ?_
   refine ix rfl (det_ld_one (v := iv (([65533] : List Int).getD 0 0)) (us := [iv (([65533] : List Int).getD 0 0)]) ty3 rfl rfl (at_slq (c := cInt) (sz := 1) hq32 (fun _ => rfl) 0 rfl (gd 0 (by omega))) rfl) ?_
   refine ip 1 0 [(10, iv (([65533] : List Int).getD 0 0))] (by kernel_rfl) ?_
   refine ie ?_
   refine J_region 3 rfl ?_
   refine ip 2 1 [(44, .func (.yield l) #[] #[]), (45, iv (([65533] : List Int).getD 0 0))] (by kernel_rfl) ?_
   have hq38 := consR hR; clear hR; obtain ⟨R33, hR, hq38⟩ := hq38; rw [hq38] at hILt
   refine it rfl (tri_yield (L2 := []) (hY _ R33 _ _ hILt) rfl rfl rfl rfl (Foll.dropT 3 rfl) (permC [Lt] [0] 1 rfl (by decide) rfl [Lt] rfl (by simp only [List.flatten_cons, List.flatten_nil, List.append_nil, List.cons_append, List.nil_append, List.append_assoc]))) fun ⟨⟨y34, L35, Φ36⟩, hy37⟩ => ?_
   refine JI_foll (Foll.yield [sl cInt q24 ([65533] : List Int), at_ c0p [sv c0], sl cU8 pendingq pending]) ?_
   refine JI_end ?_
   refine nx ?_
   refine J_region 2 rfl ?_
   refine ix rfl (det_add64 (c := 1) rfl rfl rfl rfl (by decide)) ?_
   refine ip 1 0 [(40, iv 1)] (by kernel_rfl) ?_
   refine JI_end ?_
   refine JR_succ ?_
   refine sr 1 rfl ?_
   refine ip 1 0 [(41, bv false)] (by kernel_rfl) ?_
   refine ie ?_
   refine J_seq ?_
   refine J_no rfl ?_
   refine J_exit ?_
   subst hR
   exact iends_normal rfl ⟨hr, hD⟩ (by simp [hD]) (res0 rfl) (L' := L35) (Φ' := Φ36) (by cases y34 <;> first | exact .inr (by simpa using hy37) | exact .inl (by simpa using hy37)) (mcT [L35] 0 rfl rfl) (Foll.dropT 3 rfl)

def utf_Codes_r0 : List Int → List Int → List Int
 | [], l => l
 | el :: rest, l => utf_Codes_r0 rest (l ++ ([el] : List Int))
def utf_Codes (s : List UInt8) : List Int :=
 utf_Codes_r0 (utf_each_1 (utf_each s)) ([] : List Int)

theorem utf_Codes_r0_eq : ∀ (rem l : List Int), utf_Codes_r0 rem l = l ++ rem
 | [], l => by simp [utf_Codes_r0]
 | x :: r, l => by simp [utf_Codes_r0, utf_Codes_r0_eq r]
theorem utf_Codes_len (s : List UInt8) : (utf_Codes s).length ≤ 2 * s.length + 1 := by
 have := utf_each_1_len s
 simpa [utf_Codes, utf_Codes_r0_eq, utf_each] using this

theorem utf_Codes_c (s : List UInt8) (hp : s.length ≤ 1000000000) (R : List Int) (hR : utf_Codes s = R) : Con Tryz.prog 217 [sv s] [] [] ({t : Option Addr × Nat // R.length ≤ t.2 ∧ R.length ≤ 9223372036854775807}) (fun x => .slice x.1.1 R.length x.1.2) (fun x => []) (fun x => [sl cInt x.1.1 R]) := by
 refine con_of_J (n := 12) Tryz.func217 rfl (by kernel_rfl) rfl rfl [(0, sv s)] ⟨rfl, trivial⟩ fun X hX hr hD => ?_
 replace hR := (utf_Codes.eq_1 ..).symm.trans hR
 refine sr 1 rfl ?_
 refine it rfl (tri_alloc (cs := [.slice none 0 0]) zero168 rfl) fun b1 => ?_
 refine ie ?_
 refine J_seq ?_
 refine sr 2 rfl ?_
 refine ip 1 1 [(4, sv s)] (by kernel_rfl) ?_
 refine it rfl (tri_callN (L2 := [bx b1 [.slice none 0 0] 168]) (utf_each_c s _ rfl) rfl rfl rfl rfl rfl Foll.nil (List.Perm.refl _) (fun b2 => [bx b1 [.slice none 0 0] 168]) (fun _ => rfl)) fun b2 => ?_
 refine ie ?_
 refine J_block ?_
 refine JQ_perm (permC [vo cInt 3 VR.nil ([] : List Int), [bx b1 [.slice none 0 0] 168]] [1, 0] 2 rfl (by decide) rfl [[bx b1 [.slice none 0 0] 168], vo cInt 3 VR.nil ([] : List Int)] rfl (by first | rfl | simp)) ?_
 refine J_env [(2, pt b1 0), (5, .func (.func 240) #[] #[pa b2])] ⟨rfl, rfl, trivial⟩ ?_
 refine J_range (β := Int) (enc := (fun x => iv x)) (xs := (utf_each_1 (utf_each s))) (σ := List Int × VR) hr rfl (utf_each_1_c (utf_each s) b2 (by first | omega | (simp only [utf_each]; omega)) _ rfl) Foll.refl rfl rfl (fun rem x => utf_Codes_r0 rem x.1 = R ∧ VOk 1 x.1.length x.2 ∧ x.1.length + rem.length ≤ 2 * s.length + 1) (fun _ _ => False) (fun x => (bx b1 [.slice (va x.2.q) x.1.length x.2.k] 168 :: (vo cInt 3 x.2 x.1) ++ ([]))) (fun x => [at_ b2 [sv (utf_each s)]]) (([] : List Int), VR.nil) (by exact ⟨hR, VOk.nil, (by simp only [List.length_nil, Nat.zero_add]; exact utf_each_1_len s)⟩) (mc [[bx b1 [.slice none 0 0] 168], vo cInt 3 VR.nil ([] : List Int)] [true, true] rfl (by first | rfl | (simp only [List.length_set] <;> rfl))) Foll.refl ?_ ?_ (fun _ _ _ _ h => h.elim)
 ·rintro el rest ⟨l, lr⟩ hI Y Y' K' hY' hK
  try dsimp only at hI
  obtain ⟨hR, hoklr, hg⟩ := hI
  replace hR := (utf_Codes_r0.eq_2 ..).symm.trans hR
  have := VOk.le hoklr
  refine J_region 1 rfl ?_
  refine ip 1 0 [(3, iv el)] (by kernel_rfl) ?_
  refine JI_end ?_
  refine hK _ _ _ ?_
  refine J_block ?_
  refine J_region 5 rfl ?_
  refine ix rfl (det_own_one (v := .slice (va lr.q) l.length lr.k) ty168 rfl rfl 0 rfl rfl) ?_
  refine ip 1 3 [(8, iv el)] (by kernel_rfl) ?_
  refine it rfl (tri_buildSl (c := cInt) (xs := ([el] : List Int)) slt168 rfl rfl rfl (by kernel_rfl)) fun b3 => ?_
  have : ([el] : List Int).length = 1 := rfl
  refine it rfl (tri_app1 (f := cInt) (r := lr) (xs := l) (ys := ([el] : List Int)) (pre := [bx b1 [.slice (va lr.q) l.length lr.k] 168]) (post := []) apt168 (fun _ => rfl) (fun _ => rfl) rfl rfl rfl rfl rfl rfl rfl rfl rfl (at_of 0 rfl) hoklr (by first | omega | (simp <;> omega)) (by first | omega | (simp <;> omega))) fun ⟨r4, hr5⟩ => ?_
  have := VOk.le hr5
  have := VOk.cap hr5
  refine it rfl (tri_store (us := [.slice (va r4.q) ((l ++ ([el] : List Int)).length) r4.k]) (cs' := [.slice (va r4.q) ((l ++ ([el] : List Int)).length) r4.k]) ty168 rfl rfl rfl 0 rfl rfl rfl rfl rfl rfl) fun _ => ?_
  refine JI_end ?_
  exact rp_normal (I := fun rem x => utf_Codes_r0 rem x.1 = R ∧ VOk 1 x.1.length x.2 ∧ x.1.length + rem.length ≤ 2 * s.length + 1) (Jx := fun _ _ => False) (Lk := fun x => (bx b1 [.slice (va x.2.q) x.1.length x.2.k] 168 :: (vo cInt 3 x.2 x.1) ++ ([]))) (Φk := fun x => [at_ b2 [sv (utf_each s)]]) (rest := rest) ((l ++ ([el] : List Int)), r4) (by exact ⟨hR, hr5, (by simp only [List.length_cons, List.length_append, List.length_nil] at *; omega)⟩) (mc [[bx b1 [.slice (va r4.q) ((l ++ ([el] : List Int)).length) r4.k] 168], vo cInt 3 r4 (l ++ ([el] : List Int))] [true, true] rfl (by first | rfl | (simp only [List.length_set] <;> rfl))) (Foll.pick [1] rfl)
 ·rintro d6 ⟨l, lr⟩ hd6 hI
  try dsimp only at hI
  obtain ⟨hR, hoklr, hg⟩ := hI
  replace hR := (utf_Codes_r0.eq_1 ..).symm.trans hR
  have := VOk.le hoklr
  refine nx ?_
  refine sr 2 rfl ?_
  refine ix rfl (det_own_one (v := .slice (va lr.q) l.length lr.k) ty168 rfl rfl 0 rfl rfl) ?_
  refine it rfl (tri_store (us := [.slice (va lr.q) l.length lr.k]) (cs' := [.slice (va lr.q) l.length lr.k]) ty168 rfl rfl rfl 0 rfl rfl rfl rfl rfl rfl) fun _ => ?_
  refine ie ?_
  refine J_ret ?_
  refine JQ_seal [bx b1 [.slice (va lr.q) l.length lr.k] 168] [] (T := 3) (c := cInt) (r := lr) (xs := l) hoklr (by first | rfl | simp only [List.cons_append, List.append_assoc, List.nil_append, List.append_nil]) ?_
  have := VOk.cap hoklr
  subst hR
  exact ends_ret rfl ⟨hr, hD⟩ (by exact (MarksOk.cons (show MarksOk X.D by rw [hD]; exact MarksOk.nil) hd6)) (res1 rfl (resV_cell1 (v := .slice (va lr.q) l.length lr.k) ty168 rfl 0 rfl rfl)) ⟨(va lr.q, lr.k), (by first | omega | (simp <;> omega) | (dsimp only; omega) | decide), (by first | omega | (simp <;> omega) | (dsimp only; omega) | decide)⟩ (by rfl) (mk [false] rfl) (Foll.con1 (at_of 0 rfl) Foll.nil)

def osc_must (is : Bool) : Option Unit :=
 (bif (!is) then none else (some ()))

theorem osc_must_c (is : Bool) (R : Option Unit) (hR : osc_must is = R) : ConO Tryz.prog 142 [bv is] [] [] nonePanic R (fun r => .tuple #[]) := by
 refine conO_of_J (n := 6) Tryz.func142 rfl (by kernel_rfl) rfl rfl [(0, bv is)] ⟨rfl, trivial⟩ fun X hX hr hD => ?_
 replace hR := (osc_must.eq_1 ..).symm.trans hR
 refine sr 2 rfl ?_
 refine ip 2 0 [(3, bv (!is))] (by kernel_rfl) ?_
 refine ie ?_
 refine J_if rfl (fun h1 => ?_) (fun h1 => ?_)
 ·replace hR := bt hR h1
  refine J_region 3 rfl ?_
  refine ix rfl (det_build (cs := []) rfl rfl (by kernel_rfl)) ?_
  refine ix rfl (det_iface Tryz.underlying252 rfl rfl rfl) ?_
  refine JI_panic rfl rfl rfl ?_
  exact endsO_panic ⟨hr, hD⟩ hR.symm
 ·replace hR := bf hR h1
  refine J_skip ?_
  exact endsO_normal rfl ⟨hr, hD⟩ (by simp [hD]) (res0 rfl) hR.symm rfl

def osc_title_l0 : List Int → Nat → Option Unit
 | [], t19 => (some ())
 | hd_l0 :: tl_l0, t19 => (Option.bind (osc_must ((decide ((32 : Int) ≤ hd_l0)) && ((decide (hd_l0 < 127)) || (decide ((159 : Int) < hd_l0))))) fun (r1 : Unit) => osc_title_l0 tl_l0 (t19 + 1))
def osc_title (s : List UInt8) : Option Unit :=
 (bindV (utf_Codes s) fun (y0 : List Int) => (Option.bind (osc_must ((decide ((s.length : Int) ≤ 510)) && (decide ((utf_Text y0) = s)))) fun (r : Unit) => osc_title_l0 y0 0))

theorem osc_title_c (s : List UInt8) (hs : s.length ≤ 100000000) (R : Option Unit) (hR : osc_title s = R) : ConO Tryz.prog 190 [sv s] [] [] nonePanic R (fun r => .tuple #[]) := by
 refine conO_of_J (n := 35) Tryz.func190 rfl (by kernel_rfl) rfl rfl [(0, sv s)] ⟨rfl, trivial⟩ fun X hX hr hD => ?_
 replace hR := (osc_title.eq_1 ..).symm.trans hR
 refine sr 3 rfl ?_
 refine ip 1 2 [(5, sv s)] (by kernel_rfl) ?_
 have hQ := bindVx hR; clear hR; obtain ⟨y0, hy0, hR⟩ := hQ
 refine it rfl (tri_callN (L2 := []) (utf_Codes_c s (by first | omega | (simp <;> omega)) y0 hy0) rfl rfl rfl rfl rfl Foll.nil (List.Perm.refl _) (fun ⟨⟨q1, k2⟩, hp3⟩ => []) (fun _ => rfl)) fun ⟨⟨q1, k2⟩, hp3⟩ => ?_
 obtain ⟨hc4, hl5⟩ := hp3
 have := utf_Codes_len s; try rw [hy0] at this
 refine ip 1 0 [(2, .slice q1 y0.length k2)] (by kernel_rfl) ?_
 refine ie ?_
 refine sr 10 rfl ?_
 refine ip 4 6 [(10, bv (decide ((s.length : Int) ≤ 510)))] (by kernel_rfl) ?_
 refine iand 5 1 10 15 (decide ((utf_Text y0) = s)) rfl (by kernel_rfl) (fun g6 => ?_) ?_
 ·have g6p : (s.length : Int) ≤ 510 := by simpa using g6
  refine ip 1 4 [(11, .slice q1 y0.length k2)] (by kernel_rfl) ?_
  refine ixc rfl (det_call (utf_Text_c y0 q1 k2 (by first | omega | (simp <;> omega) | (dsimp only; omega) | decide) (by first | omega | (simp <;> omega) | (dsimp only; omega) | decide) (by first | omega | (simp <;> omega)) _ rfl) rfl rfl rfl rfl rfl Foll.refl) ?_
  refine ip 1 2 [(13, sv s)] (by kernel_rfl) ?_
  refine ix rfl (det_steq rfl rfl rfl) ?_
  refine ip 1 0 [(15, bv (decide ((utf_Text y0) = s)))] (by kernel_rfl) ?_
  exact JI_end (armI 6 10 15 g6 Foll.refl (mk [] rfl) rfl rfl rfl rfl rfl)
 refine JI_callO (L2 := []) (osc_must_c ((decide ((s.length : Int) ≤ 510)) && (decide ((utf_Text y0) = s))) _ rfl) rfl rfl rfl rfl rfl rfl Foll.nil (List.Perm.refl _) (fun r hs7 => ?_) (fun hn8 => ?_)
 ·replace hR := bindS hR hs7
  refine ie ?_
  refine sr 3 rfl ?_
  refine ip 3 0 [(17, .slice q1 y0.length k2), (18, iv (y0.length : Int)), (19, iv 0)] (by kernel_rfl) ?_
  refine ie ?_
  refine J_block ?_
  refine JL1 (fun (t19 : Nat) => t19 ≤ y0.length ∧ osc_title_l0 (y0.drop t19) t19 = R) (fun (t19 : Nat) => [(17, .slice q1 y0.length k2), (18, iv (y0.length : Int)), (19, iv (t19 : Int))]) (fun (t19 : Nat) => []) (fun (t19 : Nat) => [sl cInt q1 y0]) (fun (t19 : Nat) => y0.length - t19) 0 ⟨(by omega), hR⟩ ⟨rfl, rfl, (by first | rfl | (simp only [List.length_set]; rfl) | (simp; done) | (simp; omega)), trivial⟩ (mk [] rfl) Foll.refl ?_
  rintro t19 ⟨hm9, hR⟩
  refine sr 1 rfl ?_
  refine ip 1 0 [(20, bv (decide ((t19 : Int) < (y0.length : Int))))] (by kernel_rfl) ?_
  refine ie ?_
  refine J_seq ?_
  refine J_if rfl (fun h10 => ?_) (fun h10 => ?_)
  ·have h10p : (t19 : Int) < (y0.length : Int) := by simpa using h10
   rw [dropc 0 (show t19 < y0.length by omega)] at hR; replace hR := (osc_title_l0.eq_2 ..).symm.trans hR
   refine J_skip ?_
   refine nx ?_
   refine J_seq ?_
   refine J_block ?_
   refine sr 3 rfl ?_
   refine JI_base 0 rfl (by omega) fun a11 hq12 => ?_
   refine ix rfl (det_ixq slt168 rfl rfl hq12 rfl t19 rfl (by omega)) ?_
   refine ix rfl (det_ld_one (v := iv (y0.getD t19 0)) (us := [iv (y0.getD t19 0)]) ty3 rfl rfl (at_slq (c := cInt) (sz := 1) hq12 (fun _ => rfl) 0 rfl (gd 0 (by omega))) rfl) ?_
   refine ip 1 0 [(4, iv (y0.getD t19 0))] (by kernel_rfl) ?_
   refine ie ?_
   refine J_region 11 rfl ?_
   refine ip 3 8 [(25, bv (decide ((32 : Int) ≤ (y0.getD t19 0))))] (by kernel_rfl) ?_
   refine iand 7 1 25 32 ((decide ((y0.getD t19 0) < 127)) || (decide ((159 : Int) < (y0.getD t19 0)))) rfl (by kernel_rfl) (fun g13 => ?_) ?_
   ·have g13p : (32 : Int) ≤ (y0.getD t19 0) := by simpa using g13
    refine ip 3 4 [(28, bv (decide ((y0.getD t19 0) < 127)))] (by kernel_rfl) ?_
    refine ior 3 1 28 31 (decide ((159 : Int) < (y0.getD t19 0))) rfl (by kernel_rfl) (fun g14 => ?_) ?_
    ·have g14p : ¬ ((y0.getD t19 0) < 127) := by simpa using g14
     refine ip 3 0 [(31, bv (decide ((159 : Int) < (y0.getD t19 0))))] (by kernel_rfl) ?_
     exact JI_end (armI 2 28 31 g14 Foll.refl (mk [] rfl) rfl rfl rfl rfl rfl)
    refine ip 1 0 [(32, bv ((decide ((y0.getD t19 0) < 127)) || (decide ((159 : Int) < (y0.getD t19 0)))))] (by kernel_rfl) ?_
    exact JI_end (armI 4 25 32 g13 Foll.refl (mk [] rfl) rfl rfl rfl rfl rfl)
   refine JI_callO (L2 := []) (osc_must_c ((decide ((32 : Int) ≤ (y0.getD t19 0))) && ((decide ((y0.getD t19 0) < 127)) || (decide ((159 : Int) < (y0.getD t19 0))))) _ rfl) rfl rfl rfl rfl rfl rfl Foll.nil (List.Perm.refl _) (fun r1 hs15 => ?_) (fun hn16 => ?_)
   ·replace hR := bindS hR hs15
    refine JI_end ?_
    refine nx ?_
    refine J_region 2 rfl ?_
    refine ix rfl (det_add64 rfl rfl rfl rfl (by omega)) ?_
    refine ip 1 0 [(19, iv ((t19 : Int) + 1))] (by kernel_rfl) ?_
    refine JI_end ?_
    exact againL1 (z1 := t19) (t19 + 1) ⟨(by omega), hR⟩ (by (try dsimp only); omega) ⟨rfl, rfl, (by first | rfl | (simp only [List.length_set]; rfl) | (simp; done) | (simp; omega)), trivial⟩ (mk [] rfl) Foll.refl
   ·replace hR := bindN hR hn16
    exact endsO_panic ⟨hr, hD⟩ hR.symm
  ·have h10p : ¬ ((t19 : Int) < (y0.length : Int)) := by simpa using h10
   rw [dropn h10p] at hR; replace hR := (osc_title_l0.eq_1 ..).symm.trans hR
   refine J_exit ?_
   exact endsO_normal rfl ⟨hr, hD⟩ (by simp [hD]) (res0 rfl) hR.symm rfl
 ·replace hR := bindN hR hn8
  exact endsO_panic ⟨hr, hD⟩ hR.symm

def osc_plain (a : Act) (want : Act) : Option Unit :=
 (Option.bind (osc_must (decide (a = want))) fun (r : Unit) => (some ()))

theorem osc_plain_c (a : Act) (want : Act) (R : Option Unit) (hR : osc_plain a want = R) : ConO Tryz.prog 189 [ag (cAct a), ag (cAct want)] [] [] nonePanic R (fun r => .tuple #[]) := by
 refine conO_of_J (n := 8) Tryz.func189 rfl (by kernel_rfl) rfl rfl [(0, ag (cAct a)), (1, ag (cAct want))] ⟨rfl, rfl, trivial⟩ fun X hX hr hD => ?_
 replace hR := (osc_plain.eq_1 ..).symm.trans hR
 refine sr 2 rfl ?_
 refine it rfl (tri_box (cs := cAct a) rfl rfl rfl) fun b1 => ?_
 refine it rfl (tri_box (cs := cAct want) rfl rfl rfl) fun b2 => ?_
 refine ie ?_
 refine J_region 4 rfl ?_
 refine ix rfl (det_own_agg (us := cAct a) ty26 rfl rfl 1 rfl rfl rfl) ?_
 refine ix rfl (det_own_agg (us := cAct want) ty26 rfl rfl 0 rfl rfl rfl) ?_
 refine ix rfl (det_eqs (a := a) (b := want) eqt26 rfl rfl rfl) ?_
 refine JI_callO (L2 := [bx b2 (cAct want) 26, bx b1 (cAct a) 26]) (osc_must_c (decide (a = want)) _ rfl) rfl rfl rfl rfl rfl rfl Foll.nil (List.Perm.refl _) (fun r hs3 => ?_) (fun hn4 => ?_)
 ·replace hR := bindS hR hs3
  refine JI_end ?_
  exact endsO_normal rfl ⟨hr, hD⟩ (by simp [hD]) (res0 rfl) hR.symm rfl
 ·replace hR := bindN hR hn4
  exact endsO_panic ⟨hr, hD⟩ hR.symm

def osc_prints_1 (a : Act) : Option (List UInt8) :=
 (Option.bind (osc_plain a ({ Act.zero with kind := a.kind, text := a.text })) fun (r : Unit) => (Option.bind (osc_title a.text) fun (r1 : Unit) => (some (([50, 59] : List UInt8) ++ a.text))))

theorem osc_prints_1_c (a : Act) (hs : a.text.length ≤ 100000000) (R : Option (List UInt8)) (hR : osc_prints_1 a = R) : ConO Tryz.prog 188 [ag (cAct a)] [] [] nonePanic R (fun r => sv r) := by
 refine conO_of_J (n := 16) Tryz.func188 rfl (by kernel_rfl) rfl rfl [(0, ag (cAct a))] ⟨rfl, trivial⟩ fun X hX hr hD => ?_
 replace hR := (osc_prints_1.eq_1 ..).symm.trans hR
 refine sr 2 rfl ?_
 refine it rfl (tri_box (cs := cAct a) rfl rfl rfl) fun b1 => ?_
 refine ip 1 0 [] (by kernel_rfl) ?_
 refine ie ?_
 refine sr 7 rfl ?_
 refine ix rfl (det_own_agg (us := cAct a) ty26 rfl rfl 0 rfl rfl rfl) ?_
 refine ip 1 5 [(4, pt b1 0)] (by kernel_rfl) ?_
 refine ix rfl (det_own_one (v := iv a.kind) ty3 rfl rfl 0 rfl rfl) ?_
 refine ip 1 3 [(6, pt b1 5)] (by kernel_rfl) ?_
 refine ix rfl (det_own_one (v := sv a.text) ty9 rfl rfl 0 rfl rfl) ?_
 refine ix rfl (det_build (cs := cAct ({ Act.zero with kind := a.kind, text := a.text })) rfl rfl (by kernel_rfl)) ?_
 refine JI_callO (L2 := [bx b1 (cAct a) 26]) (osc_plain_c a ({ Act.zero with kind := a.kind, text := a.text }) _ rfl) rfl rfl rfl rfl rfl rfl Foll.nil (List.Perm.refl _) (fun r hs2 => ?_) (fun hn3 => ?_)
 ·replace hR := bindS hR hs2
  refine ie ?_
  refine sr 3 rfl ?_
  refine ip 1 2 [(10, pt b1 5)] (by kernel_rfl) ?_
  refine ix rfl (det_own_one (v := sv a.text) ty9 rfl rfl 0 rfl rfl) ?_
  refine JI_callO (L2 := [bx b1 (cAct a) 26]) (osc_title_c a.text (by first | omega | (simp <;> omega)) _ rfl) rfl rfl rfl rfl rfl rfl Foll.nil (List.Perm.refl _) (fun r1 hs4 => ?_) (fun hn5 => ?_)
  ·replace hR := bindS hR hs4
   refine ie ?_
   refine sr 4 rfl ?_
   refine ip 1 3 [(13, pt b1 5)] (by kernel_rfl) ?_
   refine ix rfl (det_own_one (v := sv a.text) ty9 rfl rfl 0 rfl rfl) ?_
   refine ix rfl (det_stadd rfl rfl rfl (by first | omega | (simp <;> omega))) ?_
   refine ip 1 0 [(2, sv (([50, 59] : List UInt8) ++ a.text))] (by kernel_rfl) ?_
   refine ie ?_
   refine J_ret ?_
   exact endsO_ret rfl ⟨hr, hD⟩ (by simp [hD]) (res1 rfl (resV_tmp rfl)) hR.symm rfl
  ·replace hR := bindN hR hn5
   exact endsO_panic ⟨hr, hD⟩ hR.symm
 ·replace hR := bindN hR hn3
  exact endsO_panic ⟨hr, hD⟩ hR.symm

end Go.Proofs.YtinkdfnpmoljfaaGreatDoor

