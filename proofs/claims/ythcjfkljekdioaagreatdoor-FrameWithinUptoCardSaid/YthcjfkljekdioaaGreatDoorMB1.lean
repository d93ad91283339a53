import Derived.Test.YthcjfkljekdioaaGreatDoorProg
import Derived.Test.YthcjfkljekdioaaGreatDoorMA2
set_option linter.unusedVariables false
set_option linter.unusedSimpArgs false
set_option linter.unnecessarySimpa false
set_option maxRecDepth 100000
namespace Go.Proofs.YthcjfkljekdioaaGreatDoor
open Go Go.Fen
structure Col where
 kind:Int
 n:Int
deriving DecidableEq
def U7 (x:Col):List Value:=[.int .i64 x.kind,.int .i64 x.n]
def Col.zero:Col:=⟨0,0⟩
theorem U7.inj (x y:Col) (h:U7 x=U7 y):x=y:=by
 rcases x with ⟨_,_⟩
 rcases y with ⟨_,_⟩
 simp [U7,bs] at h
 simp_all
structure Sty where
 attr:Int
 under:Int
 fore:Col
 back:Col
 line:Col
deriving DecidableEq
def J8 (x:Sty):List Value:=[.int .i64 x.attr,.int .i64 x.under]++(U7 x.fore++(U7 x.back++(U7 x.line)))
def Sty.zero:Sty:=⟨0,0,Col.zero,Col.zero,Col.zero⟩
theorem J8.inj (x y:Sty) (h:J8 x=J8 y):x=y:=by
 rcases x with ⟨_,_,⟨_,_⟩,⟨_,_⟩,⟨_,_⟩⟩
 rcases y with ⟨_,_,⟨_,_⟩,⟨_,_⟩,⟨_,_⟩⟩
 simp [U7,J8,bs] at h
 simp_all
structure Ar2 where
 a:Int
 b:Int
deriving DecidableEq
def A8p (x:Ar2):List Value:=[.int .i64 x.a,.int .i64 x.b]
def Ar2.zero:Ar2:=⟨0,0⟩
theorem A8p.inj (x y:Ar2) (h:A8p x=A8p y):x=y:=by
 rcases x with ⟨_,_⟩
 rcases y with ⟨_,_⟩
 simp [A8p,bs] at h
 simp_all
structure Ar3 where
 a:Int
 b:Int
 c:Int
deriving DecidableEq
def B1y (x:Ar3):List Value:=[.int .i64 x.a,.int .i64 x.b,.int .i64 x.c]
def Ar3.zero:Ar3:=⟨0,0,0⟩
theorem B1y.inj (x y:Ar3) (h:B1y x=B1y y):x=y:=by
 rcases x with ⟨_,_,_⟩
 rcases y with ⟨_,_,_⟩
 simp [B1y,bs] at h
 simp_all
structure Cel where
 base:Int
 marks:Ar2
 wide:Int
 sty:Sty
deriving DecidableEq
def B3 (x:Cel):List Value:=[.int .i64 x.base]++(A8p x.marks++([.int .i64 x.wide]++(J8 x.sty)))
def Cel.zero:Cel:=⟨0,Ar2.zero,0,Sty.zero⟩
theorem B3.inj (x y:Cel) (h:B3 x=B3 y):x=y:=by
 rcases x with ⟨_,⟨_,_⟩,_,⟨_,_,⟨_,_⟩,⟨_,_⟩,⟨_,_⟩⟩⟩
 rcases y with ⟨_,⟨_,_⟩,_,⟨_,_,⟨_,_⟩,⟨_,_⟩,⟨_,_⟩⟩⟩
 simp [A8p,B3,U7,J8,bs] at h
 simp_all
structure Spn where
 lo:Int
 hi:Int
deriving DecidableEq
def C0 (x:Spn):List Value:=[.int .i64 x.lo,.int .i64 x.hi]
def Spn.zero:Spn:=⟨0,0⟩
theorem C0.inj (x y:Spn) (h:C0 x=C0 y):x=y:=by
 rcases x with ⟨_,_⟩
 rcases y with ⟨_,_⟩
 simp [C0,bs] at h
 simp_all
structure Sp3 where
 row:Int
 frm:Int
 to:Int
deriving DecidableEq
def C3t (x:Sp3):List Value:=[.int .i64 x.row,.int .i64 x.frm,.int .i64 x.to]
def Sp3.zero:Sp3:=⟨0,0,0⟩
theorem C3t.inj (x y:Sp3) (h:C3t x=C3t y):x=y:=by
 rcases x with ⟨_,_,_⟩
 rcases y with ⟨_,_,_⟩
 simp [C3t,bs] at h
 simp_all
structure Plc where
 row:Int
 col:Int
deriving DecidableEq
def G0 (x:Plc):List Value:=[.int .i64 x.row,.int .i64 x.col]
def Plc.zero:Plc:=⟨0,0⟩
theorem G0.inj (x y:Plc) (h:G0 x=G0 y):x=y:=by
 rcases x with ⟨_,_⟩
 rcases y with ⟨_,_⟩
 simp [G0,bs] at h
 simp_all
structure Atr where
 a:Int
 b:Int
 c:Int
deriving DecidableEq
def C4d (x:Atr):List Value:=[.int .i64 x.a,.int .i64 x.b,.int .i64 x.c]
def Atr.zero:Atr:=⟨0,0,0⟩
theorem C4d.inj (x y:Atr) (h:C4d x=C4d y):x=y:=by
 rcases x with ⟨_,_,_⟩
 rcases y with ⟨_,_,_⟩
 simp [C4d,bs] at h
 simp_all
structure Act where
 kind:Int
 n:Int
 m:Int
 color:Col
 text:List UInt8
deriving DecidableEq
def F4 (x:Act):List Value:=[.int .i64 x.kind,.int .i64 x.n,.int .i64 x.m]++(U7 x.color++([.string (bs x.text)]))
def Act.zero:Act:=⟨0,0,0,Col.zero,[]⟩
theorem F4.inj (x y:Act) (h:F4 x=F4 y):x=y:=by
 rcases x with ⟨_,_,_,⟨_,_⟩,_⟩
 rcases y with ⟨_,_,_,⟨_,_⟩,_⟩
 simp [F4,U7,bs] at h
 simp_all
structure Shf where
 top:Int
 bottom:Int
 amt:Int
deriving DecidableEq
def C0a (x:Shf):List Value:=[.int .i64 x.top,.int .i64 x.bottom,.int .i64 x.amt]
def Shf.zero:Shf:=⟨0,0,0⟩
theorem C0a.inj (x y:Shf) (h:C0a x=C0a y):x=y:=by
 rcases x with ⟨_,_,_⟩
 rcases y with ⟨_,_,_⟩
 simp [C0a,bs] at h
 simp_all
structure Hld where
 shift:Shf
 gain:Int
deriving DecidableEq
def C3v (x:Hld):List Value:=C0a x.shift++([.int .i64 x.gain])
def Hld.zero:Hld:=⟨Shf.zero,0⟩
theorem C3v.inj (x y:Hld) (h:C3v x=C3v y):x=y:=by
 rcases x with ⟨⟨_,_,_⟩,_⟩
 rcases y with ⟨⟨_,_,_⟩,_⟩
 simp [C3v,C0a,bs] at h
 simp_all
structure Drf where
 kind:Int
 n:Int
 m:Int
 rgb:Int
 text:List UInt8
deriving DecidableEq
def C3r (x:Drf):List Value:=[.int .u16 x.kind,.int .u16 x.n,.int .u16 x.m,.int .u32 x.rgb,.string (bs x.text)]
def Drf.zero:Drf:=⟨0,0,0,0,[]⟩
theorem C3r.inj (x y:Drf) (h:C3r x=C3r y):x=y:=by
 rcases x with ⟨_,_,_,_,_⟩
 rcases y with ⟨_,_,_,_,_⟩
 simp [C3r,bs] at h
 simp_all
structure Lks where
 f:Nat→Int
def Lks.zero:Lks:=⟨fun _=>0⟩
def Lks.put (x:Lks) (k:Nat) (v:Int):Lks:=⟨fun i=>if i=k then v else x.f i⟩
def B2h:List Spn:=[⟨768,879⟩,⟨1155,1161⟩,⟨1425,1469⟩,⟨1552,1562⟩,⟨1611,1631⟩,⟨6832,6911⟩,⟨7616,7679⟩,⟨8203,8207⟩,⟨8400,8447⟩,⟨65024,65039⟩,⟨65056,65071⟩]
def C2d:List Spn:=[⟨4352,4447⟩,⟨11904,12350⟩,⟨12353,19903⟩,⟨19968,42191⟩,⟨44032,55203⟩,⟨63744,64255⟩,⟨65072,65135⟩,⟨65280,65376⟩,⟨65504,65510⟩,⟨127744,128591⟩,⟨128640,128767⟩,⟨129280,129535⟩,⟨131072,262141⟩]
abbrev X9:Pers:=sl C0 (some ⟨0,0,none⟩) B2h
abbrev Z3:Pers:=sl C0 (some ⟨1,0,none⟩) C2d
theorem C2l:ApTy Tryz.prog 231 3 1 8:=⟨by kernel_rfl,by kernel_rfl,rfl⟩
theorem B7s:ApTy Tryz.prog 239 5 1 1:=⟨by kernel_rfl,by kernel_rfl,rfl⟩
theorem C7k:EqT Tryz.prog 81 F4:=EqT.of 20 rfl (by kernel_rfl) (by kernel_rfl) (fun _ _=>by kernel_rfl) F4.inj
theorem A0k:SlTy Tryz.prog 231 3 1:=⟨by kernel_rfl,by kernel_rfl⟩
theorem W4:SlTy Tryz.prog 239 5 1:=⟨by kernel_rfl,by kernel_rfl⟩
theorem ty3:Ty Tryz.prog 3 1 false:=⟨by kernel_rfl⟩
theorem ty5:Ty Tryz.prog 5 1 false:=⟨by kernel_rfl⟩
theorem ty9:Ty Tryz.prog 9 1 false:=⟨by kernel_rfl⟩
theorem C7h:Ty Tryz.prog 231 1 false:=⟨by kernel_rfl⟩
def A0l (cp:Int):Bool :=
 (((decide ((0:Int)≤cp))&&(decide (cp≤1114111)))&&(!decide ((cp / 2048)=27)))
theorem A9t (cp:Int) (R:Bool) (hR:A0l cp=R):M9 Tryz.prog 119 [iv cp] [] (bv R):=by
 refine zco Tryz.func119 [(0,iv cp)] fun X hX hr hD=>?_
 replace hR:=(A0l.eq_1 ..).symm.trans hR
 refine sr 1 rfl (ip' 1 0 [] ?_)
 refine ie (sr 12 rfl (ip' 3 9 [(5,bv (decide ((0:Int)≤cp)))] ?_))
 refine zid 3 6 5 8 (decide (cp≤1114111)) (fun g1 g1p=>?_) ?_
 ·refine ip' 3 0 [(8,bv (decide (cp≤1114111)))] ?_
  exact A6 (M7 2 5 8 g1 fn0 (mk [] rfl) rfl rfl rfl rfl rfl)
 refine ip' 1 5 [(9,bv ((decide ((0:Int)≤cp))&&(decide (cp≤1114111))))] ?_
 refine zia 4 1 9 13 (!decide ((cp / 2048)=27)) (fun g2=>?_) ?_
 ·have g2p:((0:Int)≤cp)∧(cp≤1114111):=by simpa using g2
  refine ip' 1 3 [(10,iv cp)] ?_
  refine ix rfl (Y9 (c:=cp / 2048) rfl rfl rfl (by decide) (by simp [Int.fdiv_eq_ediv_of_nonneg,IntKind.bits])) ?_
  refine ip' 2 0 [(13,bv (!decide ((cp / 2048)=27)))] ?_
  exact A6 (M7 4 9 13 g2 fn0 (mk [] rfl) rfl rfl rfl rfl rfl)
 refine ip' 1 0 [(2,bv (((decide ((0:Int)≤cp))&&(decide (cp≤1114111)))&&(!decide ((cp / 2048)=27))))] ?_
 subst hR
 refine ie (B4 ?_)
 exact F8 hr hD
def F2 (shift:Nat) (p1:Int):UInt8 :=
 (by8 (bOp .or .u8 128 ((by8 (bOp .and .u8 ((by8 (IntKind.u8.wrap (Int.fdiv p1 (2 ^ (min ((shift:Int)).toNat 64))))).toNat:Int) 63)).toNat:Int)))
theorem W8 (shift:Nat) (p1:Int) (p1b:Nat) (R:UInt8) (hR:F2 shift p1=R):Con Tryz.prog 360 [iv (shift:Int),pt p1b 0] [bx p1b [iv p1] 3] [] (Unit) (fun x=>.int .u8 (R.toNat:Int)) (fun x=>[bx p1b [iv p1] 3]) (fun x=>[]):=by
 refine zco Tryz.func360 [(0,iv (shift:Int)),(1,pt p1b 0)] fun X hX hr hD=>?_
 replace hR:=(F2.eq_1 ..).symm.trans hR
 refine sr 1 rfl (ip' 1 0 [] ?_)
 refine ie (sr 7 rfl (zrl 2 5 [0] [(4,iv p1),(5,iv (shift:Int))] ?_))
 refine ix rfl (Y9 rfl rfl rfl (by omega) rfl) ?_
 refine ix rfl (F5 (v:=.int .u8 (IntKind.u8.wrap (Int.fdiv p1 (2 ^ (min ((shift:Int)).toNat 64))))) (I9.pure rfl) (A5u)) ?_
 refine ix rfl (F5 (v:=.int .u8 (bOp .and .u8 ((by8 (IntKind.u8.wrap (Int.fdiv p1 (2 ^ (min ((shift:Int)).toNat 64))))).toNat:Int) 63)) (I9.pure rfl) (A8m)) ?_
 refine ix rfl (F5 (v:=.int .u8 (bOp .or .u8 128 ((by8 (bOp .and .u8 ((by8 (IntKind.u8.wrap (Int.fdiv p1 (2 ^ (min ((shift:Int)).toNat 64))))).toNat:Int) 63)).toNat:Int))) (I9.pure rfl) (A8m)) ?_
 refine ip' 1 0 [(3,.int .u8 ((by8 (bOp .or .u8 128 ((by8 (bOp .and .u8 ((by8 (IntKind.u8.wrap (Int.fdiv p1 (2 ^ (min ((shift:Int)).toNat 64))))).toNat:Int) 63)).toNat:Int))).toNat:Int))] ?_
 subst hR
 refine ie (B4 ?_)
 exact zer hr hD (R1 rfl (B5 rfl)) () (mk [true] rfl) fn0
def A1x (cp1:Int):List UInt8 :=
 (bif (decide (cp1<128)) then ([(by8 (IntKind.u8.wrap cp1))]:List UInt8) else (bif (decide (cp1<2048)) then ([(by8 (bOp .or .u8 192 ((by8 (IntKind.u8.wrap (cp1 / 64))).toNat:Int))),(F2 0 cp1)]:List UInt8) else (bif (decide (cp1<65536)) then ([(by8 (bOp .or .u8 224 ((by8 (IntKind.u8.wrap (cp1 / 4096))).toNat:Int))),(F2 6 cp1),(F2 0 cp1)]:List UInt8) else ([(by8 (bOp .or .u8 240 ((by8 (IntKind.u8.wrap (cp1 / 262144))).toNat:Int))),(F2 12 cp1),(F2 6 cp1),(F2 0 cp1)]:List UInt8))))
def A7m (cp:Int):List UInt8 :=
 (bif (!(A0l cp)) then A1x 65533 else A1x cp)
theorem B5z (cp:Int):(A7m cp).length≤4:=by
 unfold A7m A1x
 simp only [Bool.cond_eq_ite]
 repeat' split
 all_goals simp
theorem B9v (cp:Int) (R:List UInt8) (hR:A7m cp=R):M9 Tryz.prog 315 [iv cp] [] (sv R):=by
 refine zco Tryz.func315 [(0,iv cp)] fun X hX hr hD=>?_
 replace hR:=(A7m.eq_1 ..).symm.trans hR
 refine sr 2 rfl (K6 2 0 [] (fun b1=>[(1,pt b1 0)]) (fun b1=>[bx b1 [iv cp] 3]) (fun b1=>?_))
 refine ie (C0i (fun (cp1:Int)=>(A1x cp1=R,[(1,pt b1 0)],[bx b1 [iv cp1] 3],[])) ?_ ?_)
 ·refine sr 3 rfl (zrl 1 2 [0] [(4,iv cp)] ?_)
  refine zca (A9t cp _ rfl) fn0 ?_
  refine ip' 1 0 [(6,bv (!(A0l cp)))] ?_
  refine ie ?_
  refine zjb rfl hR ?_ ?_<;>clear hR<;>intro hR h2
  ·refine A1 1 rfl (zrg 1 0 [0] [] [bx b1 [iv 65533] 3] ?_)
   refine A6 ?_
   exact A5w 65533 hR (mk [true] rfl) fn0
  refine A8 ?_
  exact A5w cp hR (mk [true] rfl) fn0
 intro cp1
 rintro hR
 replace hR:=(A1x.eq_1 ..).symm.trans hR
 refine sr 2 rfl (ip' 2 0 [(3,.func (.func 360) #[] #[pt b1 0])] ?_)
 refine ie (A4 (A9 (sr 3 rfl (zrl 3 0 [0] [(8,bv (decide (cp1<128)))] ?_))))
 refine ie ?_
 refine zjd rfl hR ?_ ?_<;>clear hR<;>intro hR h3 h3p
 ·refine sr 5 rfl (zrl 1 4 [0] [(11,iv cp1)] ?_)
  refine ix rfl (F5 (v:=.int .u8 (IntKind.u8.wrap cp1)) (I9.pure rfl) (A5u)) ?_
  refine it rfl (F9 (c:=cU8) (xs:=([(by8 (IntKind.u8.wrap cp1))]:List UInt8)) W4 rfl rfl rfl (by kernel_rfl)) fun b4=>?_
  have:([(by8 (IntKind.u8.wrap cp1))]:List UInt8).length=1:=rfl
  refine ix rfl (B0p Tryz.underlying9 Tryz.underlying239 rfl rfl (B9 0 rfl) rfl (by kernel_rfl)) ?_
  have:([(by8 (IntKind.u8.wrap cp1))]:List UInt8).length=1:=rfl
  refine ip' 1 0 [(2,sv ([(by8 (IntKind.u8.wrap cp1))]:List UInt8))] ?_
  subst hR
  refine ie (B4 ?_)
  exact F8 hr hD
 refine sr 3 rfl (zrl 3 0 [0] [(15,bv (decide (cp1<2048)))] ?_)
 refine ie ?_
 refine zjd rfl hR ?_ ?_<;>clear hR<;>intro hR h5 h5p
 ·refine sh 9 [(9,[bx b1 [iv cp1] 3])] [] [bx b1 [iv cp1] 3] (zml 9 0) (by kernel_rfl) rfl (by kernel_rfl) (by kernel_rfl) (by kernel_rfl) (mk [true] rfl) A5.refl ?_
  refine zhp [4] 8 (zml 9 16) [(22,.func (.func 360) #[] #[pt b1 0])] ?_
  refine zhl 0 [bx b1 [iv cp1] 3] (zml 9 17) rfl (C9 (v:=iv cp1) ty3 rfl rfl 0 rfl rfl) ?_
  refine zhk 1 (zml 9 19) rfl (Y9 (c:=cp1 / 64) rfl rfl rfl (by decide) (by simp [Int.fdiv_eq_ediv_of_nonneg,IntKind.bits])) ?_
  refine zhk 2 (zml 9 23) rfl (F5 (v:=.int .u8 (IntKind.u8.wrap (cp1 / 64))) (I9.pure rfl) (A5u)) ?_
  refine zhk 3 (zml 9 31) rfl (F5 (v:=.int .u8 (bOp .or .u8 192 ((by8 (IntKind.u8.wrap (cp1 / 64))).toNat:Int))) (I9.pure rfl) (A8m)) ?_
  refine zho 5 [bx b1 [iv cp1] 3] (zml 9 63) rfl (G9 (L2:=[]) (W8 0 cp1 b1 _ rfl) rfl rfl rfl rfl rfl fn0 (H0 [[bx b1 [iv cp1] 3]] [0] 1 rfl (by decide) rfl [[bx b1 [iv cp1] 3]] rfl (by first|rfl|simp only [List.flatten_cons,List.flatten_nil,List.append_nil,List.cons_append,List.nil_append,List.append_assoc])) (fun _=>[bx b1 [iv cp1] 3]) (fun _=>rfl)) (fun _=>(mk [true] rfl)) (fun _=>fn0) fun _=>?_
  refine zho 6 [bx b1 [iv cp1] 3] (zml 9 127) rfl (F9 (c:=cU8) (xs:=([(by8 (bOp .or .u8 192 ((by8 (IntKind.u8.wrap (cp1 / 64))).toNat:Int))),(F2 0 cp1)]:List UInt8)) W4 rfl rfl rfl (by kernel_rfl)) (fun b6=>(mk [true] rfl)) (fun b6=>fn0) fun b6=>?_
  have:([(by8 (bOp .or .u8 192 ((by8 (IntKind.u8.wrap (cp1 / 64))).toNat:Int))),(F2 0 cp1)]:List UInt8).length=2:=rfl
  refine zho 7 [bx b1 [iv cp1] 3] (zml 9 255) rfl (Det.tri (I9.det (B0p Tryz.underlying9 Tryz.underlying239 rfl rfl (B9 0 rfl) rfl (by kernel_rfl)))) (fun _=>(mk [true] rfl)) (fun _=>fn0) fun _=>?_
  have:([(by8 (bOp .or .u8 192 ((by8 (IntKind.u8.wrap (cp1 / 64))).toNat:Int))),(F2 0 cp1)]:List UInt8).length=2:=rfl
  refine zhp [8] 0 (zml 9 511) [(2,sv ([(by8 (bOp .or .u8 192 ((by8 (IntKind.u8.wrap (cp1 / 64))).toNat:Int))),(F2 0 cp1)]:List UInt8))] ?_
  refine A8u (by kernel_rfl) ?_
  subst hR
  refine B4 ?_
  exact F8 hr hD
 refine sr 3 rfl (zrl 3 0 [0] [(26,bv (decide (cp1<65536)))] ?_)
 refine ie ?_
 refine zjd rfl hR ?_ ?_<;>clear hR<;>intro hR h7 h7p
 ·refine sh 11 [(11,[bx b1 [iv cp1] 3])] [] [bx b1 [iv cp1] 3] (zml 11 0) (by kernel_rfl) rfl (by kernel_rfl) (by kernel_rfl) (by kernel_rfl) (mk [true] rfl) A5.refl ?_
  refine zhp [4,6] 9 (zml 11 80) [(33,.func (.func 360) #[] #[pt b1 0]),(35,.func (.func 360) #[] #[pt b1 0])] ?_
  refine zhl 0 [bx b1 [iv cp1] 3] (zml 11 81) rfl (C9 (v:=iv cp1) ty3 rfl rfl 0 rfl rfl) ?_
  refine zhk 1 (zml 11 83) rfl (Y9 (c:=cp1 / 4096) rfl rfl rfl (by decide) (by simp [Int.fdiv_eq_ediv_of_nonneg,IntKind.bits])) ?_
  refine zhk 2 (zml 11 87) rfl (F5 (v:=.int .u8 (IntKind.u8.wrap (cp1 / 4096))) (I9.pure rfl) (A5u)) ?_
  refine zhk 3 (zml 11 95) rfl (F5 (v:=.int .u8 (bOp .or .u8 224 ((by8 (IntKind.u8.wrap (cp1 / 4096))).toNat:Int))) (I9.pure rfl) (A8m)) ?_
  refine zho 5 [bx b1 [iv cp1] 3] (zml 11 127) rfl (G9 (L2:=[]) (W8 6 cp1 b1 _ rfl) rfl rfl rfl rfl rfl fn0 (H0 [[bx b1 [iv cp1] 3]] [0] 1 rfl (by decide) rfl [[bx b1 [iv cp1] 3]] rfl (by first|rfl|simp only [List.flatten_cons,List.flatten_nil,List.append_nil,List.cons_append,List.nil_append,List.append_assoc])) (fun _=>[bx b1 [iv cp1] 3]) (fun _=>rfl)) (fun _=>(mk [true] rfl)) (fun _=>fn0) fun _=>?_
  refine zho 7 [bx b1 [iv cp1] 3] (zml 11 255) rfl (G9 (L2:=[]) (W8 0 cp1 b1 _ rfl) rfl rfl rfl rfl rfl fn0 (H0 [[bx b1 [iv cp1] 3]] [0] 1 rfl (by decide) rfl [[bx b1 [iv cp1] 3]] rfl (by first|rfl|simp only [List.flatten_cons,List.flatten_nil,List.append_nil,List.cons_append,List.nil_append,List.append_assoc])) (fun _=>[bx b1 [iv cp1] 3]) (fun _=>rfl)) (fun _=>(mk [true] rfl)) (fun _=>fn0) fun _=>?_
  refine zho 8 [bx b1 [iv cp1] 3] (zml 11 511) rfl (F9 (c:=cU8) (xs:=([(by8 (bOp .or .u8 224 ((by8 (IntKind.u8.wrap (cp1 / 4096))).toNat:Int))),(F2 6 cp1),(F2 0 cp1)]:List UInt8)) W4 rfl rfl rfl (by kernel_rfl)) (fun b8=>(mk [true] rfl)) (fun b8=>fn0) fun b8=>?_
  have:([(by8 (bOp .or .u8 224 ((by8 (IntKind.u8.wrap (cp1 / 4096))).toNat:Int))),(F2 6 cp1),(F2 0 cp1)]:List UInt8).length=3:=rfl
  refine zho 9 [bx b1 [iv cp1] 3] (zml 11 1023) rfl (Det.tri (I9.det (B0p Tryz.underlying9 Tryz.underlying239 rfl rfl (B9 0 rfl) rfl (by kernel_rfl)))) (fun _=>(mk [true] rfl)) (fun _=>fn0) fun _=>?_
  have:([(by8 (bOp .or .u8 224 ((by8 (IntKind.u8.wrap (cp1 / 4096))).toNat:Int))),(F2 6 cp1),(F2 0 cp1)]:List UInt8).length=3:=rfl
  refine zhp [10] 0 (zml 11 2047) [(2,sv ([(by8 (bOp .or .u8 224 ((by8 (IntKind.u8.wrap (cp1 / 4096))).toNat:Int))),(F2 6 cp1),(F2 0 cp1)]:List UInt8))] ?_
  refine A8u (by kernel_rfl) ?_
  subst hR
  refine B4 ?_
  exact F8 hr hD
 refine A8 (nx (sh 13 [(13,[bx b1 [iv cp1] 3])] [] [bx b1 [iv cp1] 3] (zml 13 0) (by kernel_rfl) rfl (by kernel_rfl) (by kernel_rfl) (by kernel_rfl) (mk [true] rfl) A5.refl ?_))
 refine zhp [4,6,8] 10 (zml 13 336) [(43,.func (.func 360) #[] #[pt b1 0]),(45,.func (.func 360) #[] #[pt b1 0]),(47,.func (.func 360) #[] #[pt b1 0])] ?_
 refine zhl 0 [bx b1 [iv cp1] 3] (zml 13 337) rfl (C9 (v:=iv cp1) ty3 rfl rfl 0 rfl rfl) ?_
 refine zhk 1 (zml 13 339) rfl (Y9 (c:=cp1 / 262144) rfl rfl rfl (by decide) (by simp [Int.fdiv_eq_ediv_of_nonneg,IntKind.bits])) ?_
 refine zhk 2 (zml 13 343) rfl (F5 (v:=.int .u8 (IntKind.u8.wrap (cp1 / 262144))) (I9.pure rfl) (A5u)) ?_
 refine zhk 3 (zml 13 351) rfl (F5 (v:=.int .u8 (bOp .or .u8 240 ((by8 (IntKind.u8.wrap (cp1 / 262144))).toNat:Int))) (I9.pure rfl) (A8m)) ?_
 refine zho 5 [bx b1 [iv cp1] 3] (zml 13 383) rfl (G9 (L2:=[]) (W8 12 cp1 b1 _ rfl) rfl rfl rfl rfl rfl fn0 (H0 [[bx b1 [iv cp1] 3]] [0] 1 rfl (by decide) rfl [[bx b1 [iv cp1] 3]] rfl (by first|rfl|simp only [List.flatten_cons,List.flatten_nil,List.append_nil,List.cons_append,List.nil_append,List.append_assoc])) (fun _=>[bx b1 [iv cp1] 3]) (fun _=>rfl)) (fun _=>(mk [true] rfl)) (fun _=>fn0) fun _=>?_
 refine zho 7 [bx b1 [iv cp1] 3] (zml 13 511) rfl (G9 (L2:=[]) (W8 6 cp1 b1 _ rfl) rfl rfl rfl rfl rfl fn0 (H0 [[bx b1 [iv cp1] 3]] [0] 1 rfl (by decide) rfl [[bx b1 [iv cp1] 3]] rfl (by first|rfl|simp only [List.flatten_cons,List.flatten_nil,List.append_nil,List.cons_append,List.nil_append,List.append_assoc])) (fun _=>[bx b1 [iv cp1] 3]) (fun _=>rfl)) (fun _=>(mk [true] rfl)) (fun _=>fn0) fun _=>?_
 refine zho 9 [bx b1 [iv cp1] 3] (zml 13 1023) rfl (G9 (L2:=[]) (W8 0 cp1 b1 _ rfl) rfl rfl rfl rfl rfl fn0 (H0 [[bx b1 [iv cp1] 3]] [0] 1 rfl (by decide) rfl [[bx b1 [iv cp1] 3]] rfl (by first|rfl|simp only [List.flatten_cons,List.flatten_nil,List.append_nil,List.cons_append,List.nil_append,List.append_assoc])) (fun _=>[bx b1 [iv cp1] 3]) (fun _=>rfl)) (fun _=>(mk [true] rfl)) (fun _=>fn0) fun _=>?_
 refine zho 10 [bx b1 [iv cp1] 3] (zml 13 2047) rfl (F9 (c:=cU8) (xs:=([(by8 (bOp .or .u8 240 ((by8 (IntKind.u8.wrap (cp1 / 262144))).toNat:Int))),(F2 12 cp1),(F2 6 cp1),(F2 0 cp1)]:List UInt8)) W4 rfl rfl rfl (by kernel_rfl)) (fun b9=>(mk [true] rfl)) (fun b9=>fn0) fun b9=>?_
 have:([(by8 (bOp .or .u8 240 ((by8 (IntKind.u8.wrap (cp1 / 262144))).toNat:Int))),(F2 12 cp1),(F2 6 cp1),(F2 0 cp1)]:List UInt8).length=4:=rfl
 refine zho 11 [bx b1 [iv cp1] 3] (zml 13 4095) rfl (Det.tri (I9.det (B0p Tryz.underlying9 Tryz.underlying239 rfl rfl (B9 0 rfl) rfl (by kernel_rfl)))) (fun _=>(mk [true] rfl)) (fun _=>fn0) fun _=>?_
 have:([(by8 (bOp .or .u8 240 ((by8 (IntKind.u8.wrap (cp1 / 262144))).toNat:Int))),(F2 12 cp1),(F2 6 cp1),(F2 0 cp1)]:List UInt8).length=4:=rfl
 refine zhp [12] 0 (zml 13 8191) [(2,sv ([(by8 (bOp .or .u8 240 ((by8 (IntKind.u8.wrap (cp1 / 262144))).toNat:Int))),(F2 12 cp1),(F2 6 cp1),(F2 0 cp1)]:List UInt8))] ?_
 refine A8u (by kernel_rfl) ?_
 subst hR
 refine B4 ?_
 exact F8 hr hD
def J4 (bbuf:List UInt8) (s:List UInt8):List UInt8×Int :=
 ((bbuf++s),(s.length:Int))
theorem Y6 (bbuf s:List UInt8):(J4 bbuf s).1.length=bbuf.length+s.length:=by simp [J4]
theorem A0d (bbuf:List UInt8) (s:List UInt8) (bb:Nat) (baddrz:Option Addr) (bbufr:VR) (hzbaddrz:baddrz=none∨baddrz=some ⟨bb,0,none⟩) (hokbbufr:VOk 1 bbuf.length bbufr) (hb:bbuf.length+s.length≤140737488355328) (R:List UInt8×Int) (hR:J4 bbuf s=R):Con Tryz.prog 314 [pt bb 0,sv s] (bx bb [.pointer baddrz,.slice (va bbufr.q) bbuf.length bbufr.k] 271::(vo cU8 5 bbufr bbuf)++([])) [] ({r:VR // VOk 1 R.1.length r}) (fun x=>.tuple #[iv R.2,.nilIface]) (fun x=>(bx bb [pt bb 0,.slice (va x.1.q) R.1.length x.1.k] 271::(vo cU8 5 x.1 R.1)++([]))) (fun x=>[]):=by
 refine zco Tryz.func314 [(0,pt bb 0),(1,sv s)] fun X hX hr hD=>?_
 replace hR:=(J4.eq_1 ..).symm.trans hR
 have:=VOk.le hokbbufr
 refine sr 2 rfl (ip' 2 0 [] ?_)
 refine ie (sr 2 rfl (ip' 1 1 [(6,pt bb 0)] ?_))
 refine it rfl (G9 (L2:=((vo cU8 5 bbufr bbuf)++([]))) (B6p bb (.slice (va bbufr.q) bbuf.length bbufr.k) baddrz hzbaddrz) rfl rfl rfl rfl rfl fn0 (H0 [[bx bb [.pointer baddrz,.slice (va bbufr.q) bbuf.length bbufr.k] 271],vo cU8 5 bbufr bbuf] [0,1] 2 rfl (by decide) rfl [[bx bb [.pointer baddrz,.slice (va bbufr.q) bbuf.length bbufr.k] 271],vo cU8 5 bbufr bbuf] rfl (by first|rfl|simp only [List.flatten_cons,List.flatten_nil,List.append_nil,List.cons_append,List.nil_append,List.append_assoc])) (fun _=>(bx bb [pt bb 0,.slice (va bbufr.q) bbuf.length bbufr.k] 271::(vo cU8 5 bbufr bbuf)++([]))) (fun _=>by first|rfl|simp only [List.append_nil,List.cons_append,List.nil_append,List.append_assoc])) fun _=>?_
 refine ie (sr 10 rfl (zrl 6 4 [0] [(8,pt bb 0),(12,.slice (va bbufr.q) bbuf.length bbufr.k),(13,sv s)] ?_))
 refine it rfl (B6b (r:=bbufr) (xs:=bbuf) (s:=s) (pre:=[bx bb [pt bb 0,.slice (va bbufr.q) bbuf.length bbufr.k] 271]) (post:=[]) B7s (by kernel_rfl) Tryz.underlying9 rfl rfl rfl rfl rfl rfl rfl hokbbufr (by first|omega|(simp only [List.length_cons,List.length_nil,List.length_append,List.length_take,List.length_drop];omega))) fun ⟨r1,hr2⟩=>?_
 have:=@List.length_append _ bbuf s
 have:=VOk.le hr2
 have:=VOk.cap hr2
 refine zrg 3 0 [0] [] (bx bb [pt bb 0,.slice (va r1.q) ((bbuf++s).length) r1.k] 271::(vo cU8 5 r1 (bbuf++s))++([])) ?_
 refine ie (sr 4 rfl (ip' 4 0 [(4,iv (s.length:Int)),(5,.nilIface)] ?_))
 subst hR
 refine ie (B4 ?_)
 exact zer hr hD (S0 rfl (B5 rfl) (B5 rfl)) ⟨r1,hr2⟩ (mc [[bx bb [pt bb 0,.slice (va r1.q) ((bbuf++s).length) r1.k] 271],vo cU8 5 r1 (bbuf++s)] [true,true] rfl (by first|rfl|(simp only [List.length_set]<;>rfl))) fn0
def A0o:List Int→Nat→List UInt8→List UInt8
 | [],t8,bbuf=>bbuf
 | hd_l0::tl_l0,t8,bbuf=>(H3 (A7m hd_l0) fun (y3:List UInt8)=>(H3 (J4 bbuf y3) fun (y1:List UInt8×Int)=>A0o tl_l0 (t8+1) y1.1))
def A3b (codes:List Int):List UInt8 :=
 A0o codes 0 ([]:List UInt8)
theorem B7y (codes:List Int) (codesq:Option Addr) (codesk:Nat) (hlcodes:codes.length≤9223372036854775807) (hccodes:codes.length≤codesk) (hp:codes.length≤1000000000) (R:List UInt8) (hR:A3b codes=R):M9 Tryz.prog 259 [.slice codesq codes.length codesk] [sl Q9 codesq codes] (sv R):=by
 refine zco Tryz.func259 [(0,.slice codesq codes.length codesk)] fun X hX hr hD=>?_
 replace hR:=(A3b.eq_1 ..).symm.trans hR
 refine sr 1 rfl (ip' 1 0 [] ?_)
 refine ie (sr 1 rfl (K6 1 0 [] (fun b1=>[(3,pt b1 0)]) (fun b1=>[bx b1 [.pointer none,.slice none 0 0] 271]) (fun b1=>?_)))
 refine ie (A4 (sr 3 rfl (ip' 3 0 [(6,.slice codesq codes.length codesk),(7,iv (codes.length:Int)),(8,iv 0)] ?_)))
 refine ie (A9 (Z1 (H0 [vo cU8 5 VR.nil ([]:List UInt8),[bx b1 [.pointer none,.slice none 0 0] 271]] [1,0] 2 rfl (by decide) rfl [[bx b1 [.pointer none,.slice none 0 0] 271],vo cU8 5 VR.nil ([]:List UInt8)] rfl (by first|rfl|simp)) ?_))
 refine B3d (fun (t8:Nat) (baddrz:Option Addr) (bbuf:List UInt8) (bbufr:VR)=>(t8≤codes.length∧A0o (codes.drop t8) t8 bbuf=R∧(baddrz=none∨baddrz=some ⟨b1,0,none⟩)∧VOk 1 bbuf.length bbufr∧bbuf.length≤4 * t8,[(3,pt b1 0),(6,.slice codesq codes.length codesk),(7,iv (codes.length:Int)),(8,iv (t8:Int))],(bx b1 [.pointer baddrz,.slice (va bbufr.q) bbuf.length bbufr.k] 271::(vo cU8 5 bbufr bbuf)++([])),[sl Q9 codesq codes],codes.length - t8)) 0 none ([]:List UInt8) VR.nil ⟨(by omega),hR,(.inl rfl),VOk.nil,(by simp)⟩ (mc [[bx b1 [.pointer none,.slice none 0 0] 271],vo cU8 5 VR.nil ([]:List UInt8)] [true,true] rfl (by first|rfl|(simp only [List.length_set]<;>rfl))) A5.refl ?_
 rintro t8 baddrz bbuf bbufr ⟨hm2,hR,hzbaddrz,hokbbufr,hg⟩
 have:=VOk.le hokbbufr
 refine sr 1 rfl (ip' 1 0 [(9,bv (decide ((t8:Int)<(codes.length:Int))))] ?_)
 refine ie (A4 (R3 rfl (fun h3=>?_) (fun h3=>?_)))
 ·have h3p:(t8:Int)<(codes.length:Int):=by simpa using h3
  rw [R9 0 (show t8<codes.length by omega)] at hR;replace hR:=(A0o.eq_2 ..).symm.trans hR
  refine A8 (nx (A4 (A9 (sr 3 rfl (I4 0 rfl (by omega) fun a4 hq5=>?_)))))
  refine ix rfl (F1 A0k rfl rfl hq5 rfl t8 rfl (by omega)) ?_
  refine ix rfl (D6 (v:=iv (codes.getD t8 0)) (us:=[iv (codes.getD t8 0)]) ty3 rfl rfl (G6 (c:=Q9) (sz:=1) hq5 (fun _=>rfl) 0 rfl (gd 0 (by omega))) rfl) ?_
  refine ip' 1 0 [(5,iv (codes.getD t8 0))] ?_
  refine ie (A1 3 rfl (ip' 1 2 [(12,iv (codes.getD t8 0))] ?_))
  have hQ:=I2 hR;clear hR;obtain ⟨y3,hy3,hR⟩:=hQ
  refine zca (B9v (codes.getD t8 0) y3 hy3) fn0 ?_
  have:=B5z (codes.getD t8 0);try rw [hy3] at this
  have hQ:=I2 hR;clear hR;obtain ⟨y1,hy1,hR⟩:=hQ
  refine it rfl (G9 (L2:=[]) (A0d bbuf y3 b1 baddrz bbufr hzbaddrz hokbbufr (by first|omega|(simp only [List.length_append,List.length_cons,List.length_nil,List.length_take,List.length_drop,List.length_set];omega)|(have hel:=hg.2 _ (List.mem_cons_self ..);unfold partOk at hel;have hgl:=hg.1;simp only [List.length_append,List.length_cons,List.length_nil] at *;omega)) y1 hy1) rfl rfl rfl rfl rfl fn0 (H0 [[bx b1 [.pointer baddrz,.slice (va bbufr.q) bbuf.length bbufr.k] 271],vo cU8 5 bbufr bbuf] [0,1] 2 rfl (by decide) rfl [[bx b1 [.pointer baddrz,.slice (va bbufr.q) bbuf.length bbufr.k] 271],vo cU8 5 bbufr bbuf] rfl (by first|rfl|simp only [List.flatten_cons,List.flatten_nil,List.append_nil,List.cons_append,List.nil_append,List.append_assoc])) (fun ⟨r6,hk7⟩=>(bx b1 [pt b1 0,.slice (va r6.q) y1.1.length r6.k] 271::(vo cU8 5 r6 y1.1)++([]))) (fun _=>by first|rfl|simp only [List.append_nil,List.cons_append,List.nil_append,List.append_assoc])) fun ⟨r6,hk7⟩=>?_
  have:=VOk.le hk7
  have:=VOk.cap hk7
  have:=Y6 bbuf y3;try rw [hy1] at this
  refine A6 (nx (A1 2 rfl (ix rfl (B0 rfl rfl rfl rfl (by omega)) ?_)))
  refine ip' 1 0 [(8,iv ((t8:Int)+1))] ?_
  refine A6 ?_
  exact B3a (z1:=t8) (z2:=baddrz) (z3:=bbuf) (z4:=bbufr) (t8+1) (some ⟨b1,0,none⟩) y1.1 r6 ⟨(by omega),hR,(.inr rfl),hk7,(by first|omega|(simp only [List.length_append];omega))⟩ (by (try dsimp only);omega) (mc [[bx b1 [pt b1 0,.slice (va r6.q) y1.1.length r6.k] 271],vo cU8 5 r6 y1.1] [true,true] rfl (by first|rfl|(simp only [List.length_set]<;>rfl))) A5.refl
 have h3p:¬ ((t8:Int)<(codes.length:Int)):=by simpa using h3
 rw [R8 h3p] at hR;replace hR:=(A0o.eq_1 ..).symm.trans hR
 refine F3 (nx (sr 2 rfl (it rfl (G9 (L2:=[]) (C2a b1 (.pointer baddrz) bbuf bbufr hokbbufr) rfl rfl rfl rfl rfl fn0 (H0 [[bx b1 [.pointer baddrz,.slice (va bbufr.q) bbuf.length bbufr.k] 271],vo cU8 5 bbufr bbuf] [0,1] 2 rfl (by decide) rfl [[bx b1 [.pointer baddrz,.slice (va bbufr.q) bbuf.length bbufr.k] 271],vo cU8 5 bbufr bbuf] rfl (by first|rfl|simp only [List.flatten_cons,List.flatten_nil,List.append_nil,List.cons_append,List.nil_append,List.append_assoc])) (fun _=>[]) (fun _=>rfl)) fun _=>?_)))
 refine ip' 1 0 [(2,sv bbuf)] ?_
 subst hR
 refine ie (B4 ?_)
 exact F8 hr hD
def O6 (b:UInt8):Int :=
 (bif ((decide ((240:Int)≤(b.toNat:Int)))&&(decide ((b.toNat:Int)≤244))) then 4 else (bif ((decide ((224:Int)≤(b.toNat:Int)))&&(decide ((b.toNat:Int)<240))) then 3 else (bif ((decide ((194:Int)≤(b.toNat:Int)))&&(decide ((b.toNat:Int)<224))) then 2 else (bif (decide ((b.toNat:Int)<128)) then 1 else 0))))
theorem B2p (b:UInt8):O6 b≤4:=by
 unfold O6;simp only [Bool.cond_eq_ite];repeat' split
 all_goals omega
theorem B5r (b:UInt8) (R:Int) (hR:O6 b=R):M9 Tryz.prog 420 [.int .u8 (b.toNat:Int)] [] (iv R):=by
 refine zco Tryz.func420 [(0,.int .u8 (b.toNat:Int))] fun X hX hr hD=>?_
 replace hR:=(O6.eq_1 ..).symm.trans hR
 refine sr 1 rfl (ip' 1 0 [(2,iv 0)] ?_)
 refine ie (A4 (A9 (A4 (A9 (A4 (A9 (A4 (A9 (A4 (A9 (A4 (A4 (sr 7 rfl (ip' 3 4 [(6,bv (decide ((240:Int)≤(b.toNat:Int))))] ?_))))))))))))))
 refine zid 3 1 6 9 (decide ((b.toNat:Int)≤244)) (fun g1 g1p=>?_) ?_
 ·refine ip' 3 0 [(9,bv (decide ((b.toNat:Int)≤244)))] ?_
  exact A6 (M7 2 6 9 g1 fn0 (mk [] rfl) rfl rfl rfl rfl rfl)
 refine ip' 1 0 [(3,bv ((decide ((240:Int)≤(b.toNat:Int)))&&(decide ((b.toNat:Int)≤244))))] ?_
 refine ie ?_
 refine zja rfl hR ?_ ?_<;>clear hR<;>intro hR h2 h2p
 ·refine F3 (nx (A1 3 rfl (ip' 1 2 [(27,iv 0)] ?_)))
  refine ix rfl (B0 (c:=1) rfl rfl rfl rfl (by decide)) ?_
  refine ip' 1 0 [(2,iv 1)] ?_
  refine A6 (nx (A1 3 rfl (ip' 1 2 [(29,iv 1)] ?_)))
  refine ix rfl (B0 (c:=2) rfl rfl rfl rfl (by decide)) ?_
  refine ip' 1 0 [(2,iv 2)] ?_
  refine A6 (nx (A1 3 rfl (ip' 1 2 [(31,iv 2)] ?_)))
  refine ix rfl (B0 (c:=3) rfl rfl rfl rfl (by decide)) ?_
  refine ip' 1 0 [(2,iv 3)] ?_
  refine A6 (nx (sr 3 rfl (ip' 1 2 [(33,iv 3)] ?_)))
  refine ix rfl (B0 (c:=4) rfl rfl rfl rfl (by decide)) ?_
  refine ip' 1 0 [(2,iv 4)] ?_
  refine ie (F3 (nx (sr 2 rfl (ip' 2 0 [(2,iv 4)] ?_))))
  subst hR
  refine ie (B4 ?_)
  exact F8 hr hD
 refine A8 (nx (A4 (sr 7 rfl (ip' 3 4 [(13,bv (decide ((224:Int)≤(b.toNat:Int))))] ?_))))
 refine zid 3 1 13 16 (decide ((b.toNat:Int)<240)) (fun g3 g3p=>?_) ?_
 ·refine ip' 3 0 [(16,bv (decide ((b.toNat:Int)<240)))] ?_
  exact A6 (M7 2 13 16 g3 fn0 (mk [] rfl) rfl rfl rfl rfl rfl)
 refine ip' 1 0 [(10,bv ((decide ((224:Int)≤(b.toNat:Int)))&&(decide ((b.toNat:Int)<240))))] ?_
 refine ie ?_
 refine zja rfl hR ?_ ?_<;>clear hR<;>intro hR h4 h4p
 ·refine F3 (nx (A1 3 rfl (ip' 1 2 [(29,iv 0)] ?_)))
  refine ix rfl (B0 (c:=1) rfl rfl rfl rfl (by decide)) ?_
  refine ip' 1 0 [(2,iv 1)] ?_
  refine A6 (nx (A1 3 rfl (ip' 1 2 [(31,iv 1)] ?_)))
  refine ix rfl (B0 (c:=2) rfl rfl rfl rfl (by decide)) ?_
  refine ip' 1 0 [(2,iv 2)] ?_
  refine A6 (nx (sr 3 rfl (ip' 1 2 [(33,iv 2)] ?_)))
  refine ix rfl (B0 (c:=3) rfl rfl rfl rfl (by decide)) ?_
  refine ip' 1 0 [(2,iv 3)] ?_
  refine ie (F3 (nx (sr 2 rfl (ip' 2 0 [(2,iv 3)] ?_))))
  subst hR
  refine ie (B4 ?_)
  exact F8 hr hD
 refine A8 (nx (A4 (sr 7 rfl (ip' 3 4 [(20,bv (decide ((194:Int)≤(b.toNat:Int))))] ?_))))
 refine zid 3 1 20 23 (decide ((b.toNat:Int)<224)) (fun g5 g5p=>?_) ?_
 ·refine ip' 3 0 [(23,bv (decide ((b.toNat:Int)<224)))] ?_
  exact A6 (M7 2 20 23 g5 fn0 (mk [] rfl) rfl rfl rfl rfl rfl)
 refine ip' 1 0 [(17,bv ((decide ((194:Int)≤(b.toNat:Int)))&&(decide ((b.toNat:Int)<224))))] ?_
 refine ie ?_
 refine zja rfl hR ?_ ?_<;>clear hR<;>intro hR h6 h6p
 ·refine F3 (nx (A1 3 rfl (ip' 1 2 [(31,iv 0)] ?_)))
  refine ix rfl (B0 (c:=1) rfl rfl rfl rfl (by decide)) ?_
  refine ip' 1 0 [(2,iv 1)] ?_
  refine A6 (nx (sr 3 rfl (ip' 1 2 [(33,iv 1)] ?_)))
  refine ix rfl (B0 (c:=2) rfl rfl rfl rfl (by decide)) ?_
  refine ip' 1 0 [(2,iv 2)] ?_
  refine ie (F3 (nx (sr 2 rfl (ip' 2 0 [(2,iv 2)] ?_))))
  subst hR
  refine ie (B4 ?_)
  exact F8 hr hD
 refine A8 (nx (sr 3 rfl (ip' 3 0 [(24,bv (decide ((b.toNat:Int)<128)))] ?_)))
 refine ie ?_
 refine zjd rfl hR ?_ ?_<;>clear hR<;>intro hR h7 h7p
 ·refine F3 (nx (sr 3 rfl (ip' 1 2 [(33,iv 0)] ?_)))
  refine ix rfl (B0 (c:=1) rfl rfl rfl rfl (by decide)) ?_
  refine ip' 1 0 [(2,iv 1)] ?_
  refine ie (F3 (nx (sr 2 rfl (ip' 2 0 [(2,iv 1)] ?_))))
  subst hR
  refine ie (B4 ?_)
  exact F8 hr hD
 refine A8 (nx (F3 (nx (sr 2 rfl (ip' 2 0 [(2,iv 0)] ?_)))))
 subst hR
 refine ie (B4 ?_)
 exact F8 hr hD
def A6y (b:UInt8):UInt8×UInt8 :=
 (bif (decide ((b.toNat:Int)=224)) then ((160:UInt8),(191:UInt8)) else (bif (decide ((b.toNat:Int)=237)) then ((128:UInt8),(159:UInt8)) else (bif (decide ((b.toNat:Int)=240)) then ((144:UInt8),(191:UInt8)) else (bif (decide ((b.toNat:Int)=244)) then ((128:UInt8),(143:UInt8)) else ((128:UInt8),(191:UInt8))))))
theorem B5m (b:UInt8) (R:UInt8×UInt8) (hR:A6y b=R):M9 Tryz.prog 421 [.int .u8 (b.toNat:Int)] [] (.tuple #[.int .u8 (R.1.toNat:Int),.int .u8 (R.2.toNat:Int)]):=by
 refine zco Tryz.func421 [(0,.int .u8 (b.toNat:Int))] fun X hX hr hD=>?_
 replace hR:=(A6y.eq_1 ..).symm.trans hR
 refine sr 2 rfl (ip' 2 0 [] ?_)
 refine ie (A4 (sr 1 rfl (ip' 1 0 [(4,.int .u8 (b.toNat:Int))] ?_)))
 refine ie (A9 (sr 2 rfl (ip' 2 0 [(5,bv (decide ((b.toNat:Int)=224)))] ?_)))
 refine ie ?_
 refine zjd rfl hR ?_ ?_<;>clear hR<;>intro hR h1 h1p
 ·refine sr 2 rfl (ip' 2 0 [(2,.int .u8 160),(3,.int .u8 191)] ?_)
  subst hR
  refine ie (B4 ?_)
  exact B4c hr hD
 refine sr 2 rfl (ip' 2 0 [(7,bv (decide ((b.toNat:Int)=237)))] ?_)
 refine ie ?_
 refine zjd rfl hR ?_ ?_<;>clear hR<;>intro hR h2 h2p
 ·refine sr 2 rfl (ip' 2 0 [(2,.int .u8 128),(3,.int .u8 159)] ?_)
  subst hR
  refine ie (B4 ?_)
  exact B4c hr hD
 refine sr 2 rfl (ip' 2 0 [(9,bv (decide ((b.toNat:Int)=240)))] ?_)
 refine ie ?_
 refine zjd rfl hR ?_ ?_<;>clear hR<;>intro hR h3 h3p
 ·refine sr 2 rfl (ip' 2 0 [(2,.int .u8 144),(3,.int .u8 191)] ?_)
  subst hR
  refine ie (B4 ?_)
  exact B4c hr hD
 refine sr 2 rfl (ip' 2 0 [(11,bv (decide ((b.toNat:Int)=244)))] ?_)
 refine ie ?_
 refine zjd rfl hR ?_ ?_<;>clear hR<;>intro hR h4 h4p
 ·refine sr 2 rfl (ip' 2 0 [(2,.int .u8 128),(3,.int .u8 143)] ?_)
  subst hR
  refine ie (B4 ?_)
  exact B4c hr hD
 refine A8 (nx (sr 2 rfl (ip' 2 0 [(2,.int .u8 128),(3,.int .u8 191)] ?_)))
 subst hR
 refine ie (B4 ?_)
 exact B4c hr hD
def A0y (p:List UInt8):List UInt8→UInt8→UInt8→Nat→Int
 | [],low,high,t26=>(bif (decide ((p.length:Int)<(O6 (p.getD 0 0)))) then 1 else 2)
 | hd_l0::tl_l0,low,high,t26=>(bif ((decide ((hd_l0.toNat:Int)<(low.toNat:Int)))||(decide ((high.toNat:Int)<(hd_l0.toNat:Int)))) then 0 else A0y p tl_l0 (128:UInt8) (191:UInt8) (t26+1))
def O0 (p:List UInt8):Int :=
 (bif (decide ((O6 (p.getD 0 0))<(p.length:Int))) then 0 else (H3 (A6y (p.getD 0 0)) fun (y2:UInt8×UInt8)=>A0y p (p.drop 1) y2.1 y2.2 0))
theorem B1c {p:List UInt8} (h:O0 p=1):p.length≤4:=by
 unfold O0 at h;have:=B2p (p.getD 0 0);revert h this;generalize p.getD 0 0=z;intro h this
 cases hc:decide (O6 z<(p.length:Int))<;>rw [hc] at h<;>simp at h hc
 omega
theorem A6x (p:List UInt8) (pq:Option Addr) (pk:Nat) (hlp:p.length≤9223372036854775807) (hcp:p.length≤pk) (hp:1≤p.length) (R:Int) (hR:O0 p=R):M9 Tryz.prog 392 [.slice pq p.length pk] [sl cU8 pq p] (iv R):=by
 refine zco Tryz.func392 [(0,.slice pq p.length pk)] fun X hX hr hD=>?_
 replace hR:=(O0.eq_1 ..).symm.trans hR
 refine sr 1 rfl (ip' 1 0 [] ?_)
 refine ie (sr 5 rfl (ip' 1 4 [(8,.slice pq p.length pk)] ?_))
 refine I4 0 rfl (by omega) fun a1 hq2=>?_
 refine ix rfl (F1 W4 rfl rfl hq2 rfl 0 rfl (by omega)) ?_
 refine ix rfl (D6 (v:=.int .u8 ((p.getD 0 0).toNat:Int)) (us:=[.int .u8 ((p.getD 0 0).toNat:Int)]) ty5 rfl rfl (G6 (c:=cU8) (sz:=1) hq2 (fun _=>rfl) 0 rfl (gd 0 (by omega))) rfl) ?_
 refine zca (B5r (p.getD 0 0) _ rfl) fn0 ?_
 refine ip' 1 0 [(3,iv (O6 (p.getD 0 0)))] ?_
 refine ie (A4 (sr 4 rfl (ip' 4 0 [(15,bv (decide ((O6 (p.getD 0 0))<(p.length:Int))))] ?_)))
 refine ie ?_
 refine zjd rfl hR ?_ ?_<;>clear hR<;>intro hR h3 h3p
 ·refine sr 1 rfl (ip' 1 0 [(2,iv 0)] ?_)
  subst hR
  refine ie (B4 ?_)
  exact F8 hr hD
 refine A8 (nx (sr 9 rfl (ip' 1 8 [(17,.slice pq p.length pk)] ?_)))
 refine ix rfl (F1 W4 rfl rfl hq2 rfl 0 rfl (by omega)) ?_
 refine ix rfl (D6 (v:=.int .u8 ((p.getD 0 0).toNat:Int)) (us:=[.int .u8 ((p.getD 0 0).toNat:Int)]) ty5 rfl rfl (G6 (c:=cU8) (sz:=1) hq2 (fun _=>rfl) 0 rfl (gd 0 (by omega))) rfl) ?_
 have hQ:=I2 hR;clear hR;obtain ⟨y2,hy2,hR⟩:=hQ
 refine zca (B5m (p.getD 0 0) y2 hy2) fn0 ?_
 refine ip' 5 0 [(4,.int .u8 (y2.1.toNat:Int)),(5,.int .u8 (y2.2.toNat:Int))] ?_
 refine ie (A4 (sr 4 rfl (ip' 1 3 [(23,.slice pq p.length pk)] ?_)))
 refine G5 (B4b (c:=cU8) (sz:=1) (xs:=p) (B9 0 rfl) 1 pk (fun _=>rfl) (by omega) (by omega)) ?_
 refine ix rfl (A2k (n':=(p.drop 1).length) W4 rfl rfl 1 p.length pk (Q3 rfl rfl) S4 S4 (by omega) (by omega) (by omega) (by first|rfl|omega|(simp only [List.length_take,List.length_drop];omega)|(simp;done)) rfl) ?_
 have:=@List.length_drop _ 1 p
 refine ip' 2 0 [(25,iv ((p.drop 1).length:Int)),(26,iv 0)] ?_
 refine ie (A9 (C4z (fun (low:UInt8) (high:UInt8) (t26:Nat)=>(t26≤(p.drop 1).length∧A0y p ((p.drop 1).drop t26) low high t26=R,[(0,.slice pq p.length pk),(3,iv (O6 (p.getD 0 0))),(4,.int .u8 (low.toNat:Int)),(5,.int .u8 (high.toNat:Int)),(24,.slice (A2d pq 1 1 pk) ((p.drop 1).length) (pk - 1)),(25,iv ((p.drop 1).length:Int)),(26,iv (t26:Int))],[],[sl cU8 (A2d pq 1 1 pk) (p.drop 1),sl cU8 pq p],(p.drop 1).length - t26)) y2.1 y2.2 0 ⟨(by omega),hR⟩ (mk [] rfl) A5.refl ?_))
 rintro low high t26 ⟨hm4,hR⟩
 refine sr 1 rfl (ip' 1 0 [(27,bv (decide ((t26:Int)<((p.drop 1).length:Int))))] ?_)
 refine ie (A4 (R3 rfl (fun h5=>?_) (fun h5=>?_)))
 ·have h5p:(t26:Int)<((p.drop 1).length:Int):=by simpa using h5
  rw [R9 0 (show t26<(p.drop 1).length by omega)] at hR;replace hR:=(A0y.eq_2 ..).symm.trans hR
  refine A8 (nx (A4 (A9 (sr 3 rfl (I4 0 rfl (by omega) fun a6 hq7=>?_)))))
  refine ix rfl (F1 W4 rfl rfl hq7 rfl t26 rfl (by omega)) ?_
  refine ix rfl (D6 (v:=.int .u8 (((p.drop 1).getD t26 0).toNat:Int)) (us:=[.int .u8 (((p.drop 1).getD t26 0).toNat:Int)]) ty5 rfl rfl (G6 (c:=cU8) (sz:=1) hq7 (fun _=>rfl) 0 rfl (gd 0 (by omega))) rfl) ?_
  refine ip' 1 0 [(7,.int .u8 (((p.drop 1).getD t26 0).toNat:Int))] ?_
  refine ie (A4 (sr 8 rfl (ip' 4 4 [(33,bv (decide ((((p.drop 1).getD t26 0).toNat:Int)<(low.toNat:Int))))] ?_)))
  refine zir 4 0 33 37 (decide ((high.toNat:Int)<(((p.drop 1).getD t26 0).toNat:Int))) (fun g8 g8p=>?_) ?_
  ·refine ip' 4 0 [(37,bv (decide ((high.toNat:Int)<(((p.drop 1).getD t26 0).toNat:Int))))] ?_
   exact zai 2 33 37 g8
  refine ie ?_
  refine zjo rfl hR ?_ ?_<;>clear hR<;>intro hR h9 h9p
  ·refine sr 1 rfl (ip' 1 0 [(2,iv 0)] ?_)
   subst hR
   refine ie (B4 ?_)
   exact F8 hr hD
  refine A8 (nx (A1 2 rfl (ip' 2 0 [(4,.int .u8 128),(5,.int .u8 191)] ?_)))
  refine A6 (nx (A1 2 rfl (ix rfl (B0 rfl rfl rfl rfl (by omega)) ?_)))
  refine ip' 1 0 [(26,iv ((t26:Int)+1))] ?_
  refine A6 ?_
  exact C3o (z1:=low) (z2:=high) (z3:=t26) (128:UInt8) (191:UInt8) (t26+1) ⟨(by omega),hR⟩ (by (try dsimp only);omega) (mk [] rfl) A5.refl
 have h5p:¬ ((t26:Int)<((p.drop 1).length:Int)):=by simpa using h5
 rw [R8 h5p] at hR;replace hR:=(A0y.eq_1 ..).symm.trans hR
 refine F3 (nx (A4 (sr 4 rfl (ip' 4 0 [(42,bv (decide ((p.length:Int)<(O6 (p.getD 0 0)))))] ?_))))
 refine ie ?_
 refine zjd rfl hR ?_ ?_<;>clear hR<;>intro hR h10 h10p
 ·refine sr 1 rfl (ip' 1 0 [(2,iv 1)] ?_)
  subst hR
  refine ie (B4 ?_)
  exact F8 hr hD
 refine A8 (nx (sr 1 rfl (ip' 1 0 [(2,iv 2)] ?_)))
 subst hR
 refine ie (B4 ?_)
 exact F8 hr hD
def P5 (pending:List UInt8):Bool :=
 ((decide ((pending.length:Int)=0))||(decide ((O0 pending)=1)))
theorem A9k (pending:List UInt8) (pendingq:Option Addr) (pendingk:Nat) (hlpending:pending.length≤9223372036854775807) (hcpending:pending.length≤pendingk) (R:Bool) (hR:P5 pending=R):M9 Tryz.prog 391 [.slice pendingq pending.length pendingk] [sl cU8 pendingq pending] (bv R):=by
 refine zco Tryz.func391 [(0,.slice pendingq pending.length pendingk)] fun X hX hr hD=>?_
 replace hR:=(P5.eq_1 ..).symm.trans hR
 refine sr 1 rfl (ip' 1 0 [] ?_)
 refine ie (sr 9 rfl (ip' 4 5 [(6,bv (decide ((pending.length:Int)=0)))] ?_))
 refine zir 4 1 6 10 (decide ((O0 pending)=1)) (fun g1 g1p=>?_) ?_
 ·refine ip' 1 3 [(7,.slice pendingq pending.length pendingk)] ?_
  refine zca (A6x pending pendingq pendingk (by first|omega|(simp only [List.length_take,List.length_drop,List.length_append,List.length_cons,List.length_nil,List.length_set,List.length_map];omega)|decide) (by first|omega|(simp only [List.length_take,List.length_drop,List.length_append,List.length_cons,List.length_nil,List.length_set,List.length_map];omega)|decide) (by first|omega|(simp only [List.length_append,List.length_cons,List.length_nil];omega)) _ rfl) A5.refl ?_
  refine ip' 2 0 [(10,bv (decide ((O0 pending)=1)))] ?_
  exact zai 4 6 10 g1
 refine ip' 1 0 [(2,bv ((decide ((pending.length:Int)=0))||(decide ((O0 pending)=1))))] ?_
 subst hR
 refine ie (B4 ?_)
 exact F8 hr hD
def A0z:List UInt8→Int→Nat→Int
 | [],cp1,t22=>cp1
 | hd_l0::tl_l0,cp1,t22=>A0z tl_l0 (bOp .or .i64 (IntKind.i64.wrap (cp1 * 64)) ((by8 (bOp .and .u8 (hd_l0.toNat:Int) 63)).toNat:Int)) (t22+1)
def A2q (p:List UInt8) (cp:Int):Int :=
 A0z (p.drop 1) cp 0
def A0v (p:List UInt8):Int :=
 (bif (decide ((1:Int)<(p.length:Int))) then A2q p (bOp .and .i64 ((p.getD 0 0).toNat:Int) (Int.fdiv (255:Int) (2 ^ (min (((p.length:Int)+1)).toNat 64)))) else A2q p ((p.getD 0 0).toNat:Int))
theorem B0t (p:List UInt8) (pq:Option Addr) (pk:Nat) (hlp:p.length≤9223372036854775807) (hcp:p.length≤pk) (hp:1≤p.length) (hp2:p.length≤1000000) (R:Int) (hR:A0v p=R):M9 Tryz.prog 393 [.slice pq p.length pk] [sl cU8 pq p] (iv R):=by
 refine zco Tryz.func393 [(0,.slice pq p.length pk)] fun X hX hr hD=>?_
 replace hR:=(A0v.eq_1 ..).symm.trans hR
 refine sr 1 rfl (ip' 1 0 [] ?_)
 refine ie (sr 5 rfl (ip' 1 4 [(6,.slice pq p.length pk)] ?_))
 refine I4 0 rfl (by omega) fun a1 hq2=>?_
 refine ix rfl (F1 W4 rfl rfl hq2 rfl 0 rfl (by omega)) ?_
 refine ix rfl (D6 (v:=.int .u8 ((p.getD 0 0).toNat:Int)) (us:=[.int .u8 ((p.getD 0 0).toNat:Int)]) ty5 rfl rfl (G6 (c:=cU8) (sz:=1) hq2 (fun _=>rfl) 0 rfl (gd 0 (by omega))) rfl) ?_
 refine ix rfl (B4a (c:=((p.getD 0 0).toNat:Int)) Tryz.underlying3 (by kernel_rfl) rfl rfl (A9w (p.getD 0 0))) ?_
 refine ip' 1 0 [(3,iv ((p.getD 0 0).toNat:Int))] ?_
 refine ie (C0i (fun (cp:Int)=>(A2q p cp=R,[(0,.slice pq p.length pk),(3,iv cp)],[],[sl cU8 pq p])) ?_ ?_)
 ·refine sr 3 rfl (ip' 3 0 [(12,bv (decide ((1:Int)<(p.length:Int))))] ?_)
  refine ie ?_
  refine zjd rfl hR ?_ ?_<;>clear hR<;>intro hR h3 h3p
  ·refine A1 7 rfl (ip' 3 4 [(13,iv ((p.getD 0 0).toNat:Int)),(15,iv (p.length:Int))] ?_)
   refine ix rfl (B0 rfl rfl rfl rfl (by omega)) ?_
   refine ix rfl (Y9 rfl rfl rfl (by omega) rfl) ?_
   refine ip' 2 0 [(3,iv (bOp .and .i64 ((p.getD 0 0).toNat:Int) (Int.fdiv (255:Int) (2 ^ (min (((p.length:Int)+1)).toNat 64)))))] ?_
   refine A6 ?_
   exact A5w (bOp .and .i64 ((p.getD 0 0).toNat:Int) (Int.fdiv (255:Int) (2 ^ (min (((p.length:Int)+1)).toNat 64)))) hR (mk [] rfl) A5.refl
  refine A8 ?_
  exact A5w ((p.getD 0 0).toNat:Int) hR (mk [] rfl) A5.refl
 intro cp
 rintro hR
 replace hR:=(A2q.eq_1 ..).symm.trans hR
 refine A4 (sr 4 rfl (ip' 1 3 [(19,.slice pq p.length pk)] ?_))
 refine G5 (B4b (c:=cU8) (sz:=1) (xs:=p) (B9 0 rfl) 1 pk (fun _=>rfl) (by omega) (by omega)) ?_
 refine ix rfl (A2k (n':=(p.drop 1).length) W4 rfl rfl 1 p.length pk (Q3 rfl rfl) S4 S4 (by omega) (by omega) (by omega) (by first|rfl|omega|(simp only [List.length_take,List.length_drop];omega)|(simp;done)) rfl) ?_
 have:=@List.length_drop _ 1 p
 refine ip' 2 0 [(21,iv ((p.drop 1).length:Int)),(22,iv 0)] ?_
 refine ie (A9 (C3s (fun (cp1:Int) (t22:Nat)=>(t22≤(p.drop 1).length∧A0z ((p.drop 1).drop t22) cp1 t22=R,[(3,iv cp1),(20,.slice (A2d pq 1 1 pk) ((p.drop 1).length) (pk - 1)),(21,iv ((p.drop 1).length:Int)),(22,iv (t22:Int))],[],[sl cU8 (A2d pq 1 1 pk) (p.drop 1),sl cU8 pq p],(p.drop 1).length - t22)) cp 0 ⟨(by omega),hR⟩ (mk [] rfl) A5.refl ?_))
 rintro cp1 t22 ⟨hm4,hR⟩
 refine sr 1 rfl (ip' 1 0 [(23,bv (decide ((t22:Int)<((p.drop 1).length:Int))))] ?_)
 refine ie (A4 (R3 rfl (fun h5=>?_) (fun h5=>?_)))
 ·have h5p:(t22:Int)<((p.drop 1).length:Int):=by simpa using h5
  rw [R9 0 (show t22<(p.drop 1).length by omega)] at hR;replace hR:=(A0z.eq_2 ..).symm.trans hR
  refine A8 (nx (A4 (A9 (sr 3 rfl (I4 0 rfl (by omega) fun a6 hq7=>?_)))))
  refine ix rfl (F1 W4 rfl rfl hq7 rfl t22 rfl (by omega)) ?_
  refine ix rfl (D6 (v:=.int .u8 (((p.drop 1).getD t22 0).toNat:Int)) (us:=[.int .u8 (((p.drop 1).getD t22 0).toNat:Int)]) ty5 rfl rfl (G6 (c:=cU8) (sz:=1) hq7 (fun _=>rfl) 0 rfl (gd 0 (by omega))) rfl) ?_
  refine ip' 1 0 [(5,.int .u8 (((p.drop 1).getD t22 0).toNat:Int))] ?_
  refine ie (A1 7 rfl (ip' 1 6 [(26,iv cp1)] ?_))
  refine ix rfl (C3d (c:=(IntKind.i64.wrap (cp1 * 64))) rfl rfl rfl (by decide) (by simp [IntKind.bits])) ?_
  refine ip' 1 4 [(28,.int .u8 (((p.drop 1).getD t22 0).toNat:Int))] ?_
  refine ix rfl (F5 (v:=.int .u8 (bOp .and .u8 (((p.drop 1).getD t22 0).toNat:Int) 63)) (I9.pure rfl) (A8m)) ?_
  refine ix rfl (B4a (c:=((by8 (bOp .and .u8 (((p.drop 1).getD t22 0).toNat:Int) 63)).toNat:Int)) Tryz.underlying3 (by kernel_rfl) rfl rfl (A9w (by8 (bOp .and .u8 (((p.drop 1).getD t22 0).toNat:Int) 63)))) ?_
  refine ip' 2 0 [(3,iv (bOp .or .i64 (IntKind.i64.wrap (cp1 * 64)) ((by8 (bOp .and .u8 (((p.drop 1).getD t22 0).toNat:Int) 63)).toNat:Int)))] ?_
  refine A6 (nx (A1 2 rfl (ix rfl (B0 rfl rfl rfl rfl (by omega)) ?_)))
  refine ip' 1 0 [(22,iv ((t22:Int)+1))] ?_
  refine A6 ?_
  exact C3x (z1:=cp1) (z2:=t22) (bOp .or .i64 (IntKind.i64.wrap (cp1 * 64)) ((by8 (bOp .and .u8 (((p.drop 1).getD t22 0).toNat:Int) 63)).toNat:Int)) (t22+1) ⟨(by omega),hR⟩ (by (try dsimp only);omega) (mk [] rfl) A5.refl
 have h5p:¬ ((t22:Int)<((p.drop 1).length:Int)):=by simpa using h5
 rw [R8 h5p] at hR;replace hR:=(A0z.eq_1 ..).symm.trans hR
 refine F3 (nx (sr 2 rfl (ip' 2 0 [(2,iv cp1)] ?_)))
 subst hR
 refine ie (B4 ?_)
 exact F8 hr hD
def A2e:Bool :=
 true
theorem B4h (R:Bool) (hR:A2e=R):M9 Tryz.prog 391 [.slice none 0 0] [] (bv R):=by
 refine zco Tryz.func391 [(0,.slice none 0 0)] fun X hX hr hD=>?_
 replace hR:=(A2e.eq_1 ..).symm.trans hR
 refine sr 1 rfl (ip' 1 0 [] ?_)
 refine ie (sr 9 rfl (ip' 9 0 [(2,bv true)] ?_))
 subst hR
 refine ie (B4 ?_)
 exact F8 hr hD
def S2 (b:UInt8):List UInt8×List Int :=
 (bif (decide ((O0 (([]:List UInt8)++([b]:List UInt8)))=2)) then (([]:List UInt8),([(A0v (([]:List UInt8)++([b]:List UInt8)))]:List Int)) else (bif (decide ((O0 (([]:List UInt8)++([b]:List UInt8)))=1)) then ((([]:List UInt8)++([b]:List UInt8)),([]:List Int)) else (([]:List UInt8),([65533]:List Int))))
def N6 (b:UInt8):List UInt8×List Int :=
 (bif (!A2e) then S2 b else S2 b)
theorem A6j (b:UInt8):(N6 b).1.length≤4∧(N6 b).2.length≤1:=by
 have h0:(S2 b).1.length≤4∧(S2 b).2.length≤1:=by
  unfold S2;simp only [Bool.cond_eq_ite];repeat' split
  all_goals simp
 unfold N6;cases (!A2e)<;>exact h0
theorem B6k (b:UInt8) (hp:([]:List Unit).length≤1000) (R:List UInt8×List Int) (hR:N6 b=R):Con Tryz.prog 358 [.slice none 0 0,.int .u8 (b.toNat:Int)] [] [] ({t:Option Addr×Nat // R.1.length≤t.2∧R.1.length≤9223372036854775807}×{t:Option Addr×Nat // R.2.length≤t.2∧R.2.length≤9223372036854775807}) (fun x=>.tuple #[.slice x.1.1.1 R.1.length x.1.1.2,.slice x.2.1.1 R.2.length x.2.1.2]) (fun x=>[]) (fun x=>[sl cU8 x.1.1.1 R.1,sl Q9 x.2.1.1 R.2]):=by
 refine zco Tryz.func358 [(0,.slice none 0 0),(1,.int .u8 (b.toNat:Int))] fun X hX hr hD=>?_
 replace hR:=(N6.eq_1 ..).symm.trans hR
 refine sr 2 rfl (ip' 2 0 [] ?_)
 refine ie (C0i (fun (_:Unit)=>(S2 b=R,[(0,.slice none 0 0),(1,.int .u8 (b.toNat:Int))],[],[])) ?_ ?_)
 ·refine sr 3 rfl (ip' 1 2 [(7,.slice none 0 0)] ?_)
  refine zca (B4h _ rfl) fn0 ?_
  refine ip' 1 0 [(9,bv (!A2e))] ?_
  refine ie ?_
  refine zjb rfl hR ?_ ?_<;>clear hR<;>intro hR h1
  ·refine A1 1 rfl (ip' 1 0 [(0,.slice none 0 0)] ?_)
   refine A6 ?_
   exact A5w () hR (mk [] rfl) fn0
  refine A8 ?_
  exact A5w () hR (mk [] rfl) fn0
 intro _
 rintro hR
 replace hR:=(S2.eq_1 ..).symm.trans hR
 refine sr 10 rfl (ip' 5 5 [(10,.slice none 0 0),(12,iv 0),(14,iv 0)] ?_)
 refine ix rfl (A2k W4 rfl rfl 0 0 0 S4 (Q3 rfl rfl) (Q3 rfl rfl) (by decide) (by decide) (by decide) (n':=0) rfl rfl) ?_
 refine ip' 1 3 [(16,.int .u8 (b.toNat:Int))] ?_
 refine it rfl (F9 (c:=cU8) (xs:=([b]:List UInt8)) W4 rfl rfl rfl (by kernel_rfl)) fun b2=>?_
 have:([b]:List UInt8).length=1:=rfl
 refine it rfl (B1a (f:=cU8) (r:=VR.nil) (xs:=([]:List UInt8)) (ys:=([b]:List UInt8)) (pre:=[]) (post:=[]) B7s (fun _=>rfl) (fun _=>rfl) rfl rfl rfl rfl rfl rfl rfl rfl rfl (B9 0 rfl) VOk.nil (by first|omega|(simp only [List.length_cons,List.length_nil,List.length_append,List.length_take,List.length_drop];omega)) (by first|omega|(simp only [List.length_cons,List.length_nil,List.length_append,List.length_take,List.length_drop];omega))) fun ⟨r3,hr4⟩=>?_
 have:=VOk.le hr4
 have:=VOk.cap hr4
 refine P1 [] [] (T:=5) (c:=cU8) (r:=r3) (xs:=(([]:List UInt8)++([b]:List UInt8))) hr4 (by first|rfl|simp only [List.cons_append,List.append_assoc,List.nil_append,List.append_nil]) ?_
 refine ip' 1 0 [(6,.slice (va r3.q) ((([]:List UInt8)++([b]:List UInt8)).length) r3.k)] ?_
 refine ie (A4 (sr 2 rfl (ip' 1 1 [(19,.slice (va r3.q) ((([]:List UInt8)++([b]:List UInt8)).length) r3.k)] ?_)))
 refine zca (A6x (([]:List UInt8)++([b]:List UInt8)) (va r3.q) r3.k (by first|omega|(simp only [List.length_take,List.length_drop,List.length_append,List.length_cons,List.length_nil,List.length_set,List.length_map];omega)|decide) (by first|omega|(simp only [List.length_take,List.length_drop,List.length_append,List.length_cons,List.length_nil,List.length_set,List.length_map];omega)|decide) (by first|omega|(simp only [List.length_append,List.length_cons,List.length_nil];omega)) _ rfl) (A5.pick [0] rfl) ?_
 refine ie (A9 (sr 2 rfl (ip' 2 0 [(21,bv (decide ((O0 (([]:List UInt8)++([b]:List UInt8)))=2)))] ?_)))
 refine ie ?_
 refine zjd rfl hR ?_ ?_<;>clear hR<;>intro hR h5 h5p
 ·refine sr 5 rfl (ip' 1 4 [(23,.slice (va r3.q) ((([]:List UInt8)++([b]:List UInt8)).length) r3.k)] ?_)
  refine zca (B0t (([]:List UInt8)++([b]:List UInt8)) (va r3.q) r3.k (by first|omega|(simp only [List.length_take,List.length_drop,List.length_append,List.length_cons,List.length_nil,List.length_set,List.length_map];omega)|decide) (by first|omega|(simp only [List.length_take,List.length_drop,List.length_append,List.length_cons,List.length_nil,List.length_set,List.length_map];omega)|decide) (by first|omega|(simp only [List.length_append,List.length_cons,List.length_nil];omega)) (by first|omega|(simp only [List.length_append,List.length_cons,List.length_nil];omega)) _ rfl) (A5.pick [0] rfl) ?_
  refine it rfl (F9 (c:=Q9) (xs:=([(A0v (([]:List UInt8)++([b]:List UInt8)))]:List Int)) A0k rfl rfl rfl (by kernel_rfl)) fun b6=>?_
  have:([(A0v (([]:List UInt8)++([b]:List UInt8)))]:List Int).length=1:=rfl
  refine ip' 2 0 [(4,.slice none 0 0),(5,.slice (some ⟨b6,0,none⟩) 1 1)] ?_
  subst hR
  refine ie (B4 ?_)
  exact zer hr hD (S0 rfl (B5 rfl) (B5 rfl)) ((zq none 0),(zq (some ⟨b6,0,none⟩) 1)) (mk [] rfl) (A5.con1 Q6 (A5.con1 (B9 0 rfl) fn0))
 refine sr 2 rfl (ip' 2 0 [(26,bv (decide ((O0 (([]:List UInt8)++([b]:List UInt8)))=1)))] ?_)
 refine ie ?_
 refine zjd rfl hR ?_ ?_<;>clear hR<;>intro hR h7 h7p
 ·refine sr 3 rfl (ip' 3 0 [(4,.slice (va r3.q) ((([]:List UInt8)++([b]:List UInt8)).length) r3.k),(5,.slice none 0 0)] ?_)
  subst hR
  refine ie (B4 ?_)
  exact zer hr hD (S0 rfl (B5 rfl) (B5 rfl)) ((zq (va r3.q) r3.k),(zq none 0)) (mk [] rfl) (A5.con1 (B9 0 rfl) (A5.con1 Q6 fn0))
 refine A8 (nx (A4 (sr 3 rfl (ip' 3 0 [(31,bv true)] ?_))))
 refine ie (I0 rfl (sr 3 rfl (it rfl (F9 (c:=Q9) (xs:=([65533]:List Int)) A0k rfl rfl rfl (by kernel_rfl)) fun b8=>?_)))
 have:([65533]:List Int).length=1:=rfl
 refine ip' 2 0 [(4,.slice none 0 0),(5,.slice (some ⟨b8,0,none⟩) 1 1)] ?_
 subst hR
 refine ie (B4 ?_)
 exact zer hr hD (S0 rfl (B5 rfl) (B5 rfl)) ((zq none 0),(zq (some ⟨b8,0,none⟩) 1)) (mk [] rfl) (A5.con1 Q6 (A5.con1 (B9 0 rfl) fn0))
def U6 (b:UInt8) (pending1:List UInt8):List UInt8×List Int :=
 (bif (decide ((O0 (pending1++([b]:List UInt8)))=2)) then (([]:List UInt8),([(A0v (pending1++([b]:List UInt8)))]:List Int)) else (bif (decide ((O0 (pending1++([b]:List UInt8)))=1)) then ((pending1++([b]:List UInt8)),([]:List Int)) else (bif (decide ((pending1.length:Int)=0)) then (([]:List UInt8),([65533]:List Int)) else ((N6 b).1,(([65533]:List Int)++(N6 b).2)))))
def G1 (pending:List UInt8) (b:UInt8):List UInt8×List Int :=
 (bif (!(P5 pending)) then U6 b ([]:List UInt8) else U6 b pending)
theorem A8f (p:List UInt8) (b:UInt8):(G1 p b).1.length≤4∧(G1 p b).2.length≤2:=by
 have h0:∀ q,(U6 b q).1.length≤4∧(U6 b q).2.length≤2:=by
  intro q;unfold U6;simp only [Bool.cond_eq_ite];have:=A6j b;repeat' split
  all_goals simp
  ·rename_i h;have:=B1c (by simpa using h);simpa using this
  ·omega
 unfold G1;cases (!(P5 p))<;>exact h0 _
theorem B8a (pending:List UInt8) (b:UInt8) (pendingq:Option Addr) (pendingk:Nat) (hlpending:pending.length≤9223372036854775807) (hcpending:pending.length≤pendingk) (hp:pending.length≤1000) (R:List UInt8×List Int) (hR:G1 pending b=R):Con Tryz.prog 358 [.slice pendingq pending.length pendingk,.int .u8 (b.toNat:Int)] [] [sl cU8 pendingq pending] ({t:Option Addr×Nat // R.1.length≤t.2∧R.1.length≤9223372036854775807}×{t:Option Addr×Nat // R.2.length≤t.2∧R.2.length≤9223372036854775807}) (fun x=>.tuple #[.slice x.1.1.1 R.1.length x.1.1.2,.slice x.2.1.1 R.2.length x.2.1.2]) (fun x=>[]) (fun x=>[sl cU8 x.1.1.1 R.1,sl Q9 x.2.1.1 R.2]):=by
 refine zco Tryz.func358 [(0,.slice pendingq pending.length pendingk),(1,.int .u8 (b.toNat:Int))] fun X hX hr hD=>?_
 replace hR:=(G1.eq_1 ..).symm.trans hR
 refine sr 2 rfl (ip' 2 0 [] ?_)
 refine ie (C8i (fun (pending1:List UInt8) (pendingq1:Option Addr) (pendingk1:Nat)=>(U6 b pending1=R∧pending1.length≤pendingk1∧pending1.length≤9223372036854775807∧pending1.length≤1000,[(0,.slice pendingq1 pending1.length pendingk1),(1,.int .u8 (b.toNat:Int))],[],[sl cU8 pendingq pending,sl cU8 pendingq1 pending1])) ?_ ?_)
 ·refine sr 3 rfl (ip' 1 2 [(7,.slice pendingq pending.length pendingk)] ?_)
  refine zca (A9k pending pendingq pendingk (by first|omega|(simp only [List.length_take,List.length_drop,List.length_append,List.length_cons,List.length_nil,List.length_set,List.length_map];omega)|decide) (by first|omega|(simp only [List.length_take,List.length_drop,List.length_append,List.length_cons,List.length_nil,List.length_set,List.length_map];omega)|decide) _ rfl) A5.refl ?_
  refine ip' 1 0 [(9,bv (!(P5 pending)))] ?_
  refine ie ?_
  refine zjb rfl hR ?_ ?_<;>clear hR<;>intro hR h1
  ·refine A1 1 rfl (ip' 1 0 [(0,.slice none 0 0)] ?_)
   refine A6 ?_
   exact C7u ([]:List UInt8) none 0 ⟨hR,(by first|omega|(simp only [List.length_take,List.length_drop,List.length_append,List.length_cons,List.length_nil,List.length_set,List.length_map];omega)|decide),(by first|omega|(simp only [List.length_take,List.length_drop,List.length_append,List.length_cons,List.length_nil,List.length_set,List.length_map];omega)|decide),(by first|omega|(simp only [List.length_nil];omega))⟩ (mk [] rfl) (A5.con1 (B9 0 rfl) (A5.con1 Q6 fn0))
  refine A8 ?_
  exact C7u pending pendingq pendingk ⟨hR,(by first|omega|(simp only [List.length_take,List.length_drop,List.length_append,List.length_cons,List.length_nil,List.length_set,List.length_map];omega)|decide),(by first|omega|(simp only [List.length_take,List.length_drop,List.length_append,List.length_cons,List.length_nil,List.length_set,List.length_map];omega)|decide),(by first|omega|(simp only [List.length_nil];omega))⟩ (mk [] rfl) (A5.pick [0,0] rfl)
 intro pending1 pendingq1 pendingk1
 rintro ⟨hR,hcpending1,hlpending1,hj⟩
 replace hR:=(U6.eq_1 ..).symm.trans hR
 refine sr 10 rfl (ip' 5 5 [(10,.slice pendingq1 pending1.length pendingk1),(12,iv (pending1.length:Int)),(14,iv (pending1.length:Int))] ?_)
 refine ix rfl (A4x (n':=pending1.length) W4 rfl rfl pending1.length pending1.length (Q3 rfl rfl) (Q3 rfl rfl) (by omega) (by omega) (by first|rfl|omega) rfl) ?_
 refine ip' 1 3 [(16,.int .u8 (b.toNat:Int))] ?_
 refine it rfl (F9 (c:=cU8) (xs:=([b]:List UInt8)) W4 rfl rfl rfl (by kernel_rfl)) fun b2=>?_
 have:([b]:List UInt8).length=1:=rfl
 refine it rfl (B6n (f:=cU8) (xs:=pending1) (ys:=([b]:List UInt8)) B7s (fun _=>rfl) (fun _=>rfl) rfl rfl rfl rfl rfl rfl (by omega) (by omega) (by rfl) (B9 2 rfl) (B9 0 rfl) (by first|omega|(simp only [List.length_cons,List.length_nil,List.length_append,List.length_take,List.length_drop];omega)) (by first|omega|(simp only [List.length_cons,List.length_nil,List.length_append,List.length_take,List.length_drop];omega))) fun ⟨⟨q3,k4⟩,hq5⟩=>?_
 refine ip' 1 0 [(6,.slice q3 ((pending1++([b]:List UInt8)).length) k4)] ?_
 refine ie (A4 (sr 2 rfl (ip' 1 1 [(19,.slice q3 ((pending1++([b]:List UInt8)).length) k4)] ?_)))
 refine zca (A6x (pending1++([b]:List UInt8)) q3 k4 (by first|omega|(simp only [List.length_take,List.length_drop,List.length_append,List.length_cons,List.length_nil,List.length_set,List.length_map];omega)|decide) (by first|omega|(simp only [List.length_take,List.length_drop,List.length_append,List.length_cons,List.length_nil,List.length_set,List.length_map];omega)|decide) (by first|omega|(simp only [List.length_append,List.length_cons,List.length_nil];omega)) _ rfl) (A5.pick [0] rfl) ?_
 refine ie (A9 (sr 2 rfl (ip' 2 0 [(21,bv (decide ((O0 (pending1++([b]:List UInt8)))=2)))] ?_)))
 refine ie ?_
 refine zjd rfl hR ?_ ?_<;>clear hR<;>intro hR h6 h6p
 ·refine sr 5 rfl (ip' 1 4 [(23,.slice q3 ((pending1++([b]:List UInt8)).length) k4)] ?_)
  refine zca (B0t (pending1++([b]:List UInt8)) q3 k4 (by first|omega|(simp only [List.length_take,List.length_drop,List.length_append,List.length_cons,List.length_nil,List.length_set,List.length_map];omega)|decide) (by first|omega|(simp only [List.length_take,List.length_drop,List.length_append,List.length_cons,List.length_nil,List.length_set,List.length_map];omega)|decide) (by first|omega|(simp only [List.length_append,List.length_cons,List.length_nil];omega)) (by first|omega|(simp only [List.length_append,List.length_cons,List.length_nil];omega)) _ rfl) (A5.pick [0] rfl) ?_
  refine it rfl (F9 (c:=Q9) (xs:=([(A0v (pending1++([b]:List UInt8)))]:List Int)) A0k rfl rfl rfl (by kernel_rfl)) fun b7=>?_
  have:([(A0v (pending1++([b]:List UInt8)))]:List Int).length=1:=rfl
  refine ip' 2 0 [(4,.slice none 0 0),(5,.slice (some ⟨b7,0,none⟩) 1 1)] ?_
  subst hR
  refine ie (B4 ?_)
  exact zer hr hD (S0 rfl (B5 rfl) (B5 rfl)) ((zq none 0),(zq (some ⟨b7,0,none⟩) 1)) (mk [] rfl) (A5.con1 Q6 (A5.con1 (B9 0 rfl) fn0))
 refine sr 2 rfl (ip' 2 0 [(26,bv (decide ((O0 (pending1++([b]:List UInt8)))=1)))] ?_)
 refine ie ?_
 refine zjd rfl hR ?_ ?_<;>clear hR<;>intro hR h8 h8p
 ·refine sr 3 rfl (ip' 3 0 [(4,.slice q3 ((pending1++([b]:List UInt8)).length) k4),(5,.slice none 0 0)] ?_)
  subst hR
  refine ie (B4 ?_)
  exact zer hr hD (S0 rfl (B5 rfl) (B5 rfl)) ((zq q3 k4),(zq none 0)) (mk [] rfl) (A5.con1 (B9 0 rfl) (A5.con1 Q6 fn0))
 refine A8 (nx (A4 (sr 3 rfl (ip' 3 0 [(31,bv (decide ((pending1.length:Int)=0)))] ?_))))
 refine ie ?_
 refine zjd rfl hR ?_ ?_<;>clear hR<;>intro hR h9 h9p
 ·refine sr 3 rfl (it rfl (F9 (c:=Q9) (xs:=([65533]:List Int)) A0k rfl rfl rfl (by kernel_rfl)) fun b10=>?_)
  have:([65533]:List Int).length=1:=rfl
  refine ip' 2 0 [(4,.slice none 0 0),(5,.slice (some ⟨b10,0,none⟩) 1 1)] ?_
  subst hR
  refine ie (B4 ?_)
  exact zer hr hD (S0 rfl (B5 rfl) (B5 rfl)) ((zq none 0),(zq (some ⟨b10,0,none⟩) 1)) (mk [] rfl) (A5.con1 Q6 (A5.con1 (B9 0 rfl) fn0))
 refine A8 (nx (sr 7 rfl (ip' 1 6 [(34,.int .u8 (b.toNat:Int))] ?_)))
 refine zcm (B6k b (by first|omega|(simp only [List.length_nil];omega)) _ rfl) fn0 fun ⟨⟨⟨q11,k12⟩,hp13⟩,⟨⟨q16,k17⟩,hp18⟩⟩=>?_
 obtain ⟨hc14,hl15⟩:=hp13
 obtain ⟨hc19,hl20⟩:=hp18
 have:=A6j b
 refine ip' 5 0 [(4,.slice q11 (((N6 b).1).length) k12),(5,.slice q16 (((N6 b).2).length) k17)] ?_
 refine ie (sr 6 rfl (ip' 1 5 [(38,.slice q11 (((N6 b).1).length) k12)] ?_))
 refine it rfl (F9 (c:=Q9) (xs:=([65533]:List Int)) A0k rfl rfl rfl (by kernel_rfl)) fun b21=>?_
 have:([65533]:List Int).length=1:=rfl
 refine ip' 1 3 [(40,.slice q16 (((N6 b).2).length) k17)] ?_
 refine it rfl (B6n (f:=Q9) (xs:=([65533]:List Int)) (ys:=(N6 b).2) C2l (fun _=>rfl) (fun _=>rfl) rfl rfl rfl rfl rfl rfl (by omega) (by omega) (by rfl) (B9 0 rfl) (B9 2 rfl) (by first|omega|(simp only [List.length_cons,List.length_nil,List.length_append,List.length_take,List.length_drop];omega)) (by first|omega|(simp only [List.length_cons,List.length_nil,List.length_append,List.length_take,List.length_drop];omega))) fun ⟨⟨q22,k23⟩,hq24⟩=>?_
 refine ip' 2 0 [(4,.slice q11 (((N6 b).1).length) k12),(5,.slice q22 ((([65533]:List Int)++(N6 b).2).length) k23)] ?_
 subst hR
 refine ie (B4 ?_)
 exact zer hr hD (S0 rfl (B5 rfl) (B5 rfl)) ((zq q11 k12),(zq q22 k23)) (mk [] rfl) (A5.con1 (B9 2 rfl) (A5.con1 (B9 0 rfl) fn0))
def A8q (pending:List UInt8):List Int :=
 (bif ((decide ((0:Int)<(pending.length:Int)))&&(P5 pending)) then ([65533]:List Int) else ([]:List Int))
theorem B0g (p:List UInt8):A8q p=(bif (decide (0<(p.length:Int))&&P5 p) then [65533] else []):=rfl
theorem A9j (pending:List UInt8) (pendingq:Option Addr) (pendingk:Nat) (hlpending:pending.length≤9223372036854775807) (hcpending:pending.length≤pendingk) (hp:pending.length≤1000) (R:List Int) (hR:A8q pending=R):Con Tryz.prog 359 [.slice pendingq pending.length pendingk] [] [sl cU8 pendingq pending] ({t:Option Addr×Nat // R.length≤t.2∧R.length≤9223372036854775807}) (fun x=>.slice x.1.1 R.length x.1.2) (fun x=>[]) (fun x=>[sl Q9 x.1.1 R]):=by
 refine zco Tryz.func359 [(0,.slice pendingq pending.length pendingk)] fun X hX hr hD=>?_
 replace hR:=(A8q.eq_1 ..).symm.trans hR
 refine sr 1 rfl (ip' 1 0 [] ?_)
 refine ie (A4 (sr 7 rfl (ip' 4 3 [(6,bv (decide ((0:Int)<(pending.length:Int))))] ?_)))
 refine zid 3 0 6 9 (P5 pending) (fun g1 g1p=>?_) ?_
 ·refine ip' 1 2 [(7,.slice pendingq pending.length pendingk)] ?_
  refine zca (A9k pending pendingq pendingk (by first|omega|(simp only [List.length_take,List.length_drop,List.length_append,List.length_cons,List.length_nil,List.length_set,List.length_map];omega)|decide) (by first|omega|(simp only [List.length_take,List.length_drop,List.length_append,List.length_cons,List.length_nil,List.length_set,List.length_map];omega)|decide) _ rfl) A5.refl ?_
  refine ip' 1 0 [(9,bv (P5 pending))] ?_
  exact zai 4 6 9 g1
 refine ie ?_
 refine zjb rfl hR ?_ ?_<;>clear hR<;>intro hR h2
 ·have h2p:=h2;try simp only [Bool.and_eq_true,Bool.or_eq_true,Bool.and_eq_false_iff,Bool.or_eq_false_iff,Bool.not_eq_true',Bool.not_eq_false',decide_eq_true_eq,decide_eq_false_iff_not] at h2p
  refine sr 2 rfl (it rfl (F9 (c:=Q9) (xs:=([65533]:List Int)) A0k rfl rfl rfl (by kernel_rfl)) fun b3=>?_)
  have:([65533]:List Int).length=1:=rfl
  refine ip' 1 0 [(2,.slice (some ⟨b3,0,none⟩) 1 1)] ?_
  subst hR
  refine ie (B4 ?_)
  exact zer hr hD (R1 rfl (B5 rfl)) (zq (some ⟨b3,0,none⟩) 1) (mk [] rfl) (A5.con1 (B9 0 rfl) fn0)
 have h2p:=h2;try simp only [Bool.and_eq_true,Bool.or_eq_true,Bool.and_eq_false_iff,Bool.or_eq_false_iff,Bool.not_eq_true',Bool.not_eq_false',decide_eq_true_eq,decide_eq_false_iff_not] at h2p
 refine A8 (nx (sr 1 rfl (ip' 1 0 [(2,.slice none 0 0)] ?_)))
 subst hR
 refine ie (B4 ?_)
 exact zer hr hD (R1 rfl (B5 rfl)) (zq none 0) (mk [] rfl) (A5.con1 Q6 fn0)
def K2 (s:List UInt8):List UInt8 :=
 s
theorem B7l (s:List UInt8) (R:List UInt8) (hR:K2 s=R):Con Tryz.prog 313 [sv s] [] [] (Addr) (fun x=>.func (.func 357) #[] #[pa x]) (fun x=>[]) (fun x=>[at_ x [sv R]]):=by
 refine zco Tryz.func313 [(0,sv s)] fun X hX hr hD=>?_
 replace hR:=(K2.eq_1 ..).symm.trans hR
 refine sr 2 rfl (it rfl (B4p (cs:=[sv s]) rfl rfl rfl) fun b1=>?_)
 refine C1o 0 rfl ?_
 refine ip' 1 0 [] ?_
 refine ie (sr 2 rfl (ip' 2 0 [(2,.func (.func 357) #[] #[pa ⟨b1,0,none⟩])] ?_))
 subst hR
 refine ie (B4 ?_)
 exact zer hr hD (R1 rfl (B5 rfl)) ⟨b1,0,none⟩ (mk [] rfl) (A5.con1 (B9 0 rfl) fn0)
def O4 (c0:List UInt8) (pending:List UInt8) (t13:Nat) (ag_utf_each_1_l3:List UInt8→Nat→List Int):List Int→Nat→List Int
 | [],t27=>ag_utf_each_1_l3 ((G1 pending (c0.getD t13 0)).1) (t13+1)
 | hd_l4::tl_l4,t27=>(hd_l4::O4 c0 pending t13 ag_utf_each_1_l3 tl_l4 (t27+1))
def N4 (c0:List UInt8):List UInt8→List UInt8→Nat→List Int
 | [],pending,t13=>(bif (decide (0<(pending.length:Int))&&P5 pending) then ((([65533]:List Int).getD 0 0)::[]) else [])
 | hd_l3::tl_l3,pending,t13=>O4 c0 pending t13 (N4 c0 tl_l3) ((G1 pending hd_l3).2) 0
def A2b (c0:List UInt8):List Int :=
 N4 c0 c0 ([]:List UInt8) 0
theorem A2j (c0 pending:List UInt8) (t13:Nat) (ag:List UInt8→Nat→List Int):∀ (l:List Int) (t:Nat),(O4 c0 pending t13 ag l t).length=l.length+(ag ((G1 pending (c0.getD t13 0)).1) (t13+1)).length
 | [],t=>by simp [O4]
 | x::l,t=>by simp only [O4,List.length_cons,A2j c0 pending t13 ag l];omega
theorem A2s (c0:List UInt8):∀ (s p:List UInt8) (t:Nat),(N4 c0 s p t).length≤2 * s.length+1
 | [],p,t=>by
  simp only [N4]
  generalize (decide (0<(p.length:Int))&&P5 p)=b
  cases b<;>simp
 | x::s,p,t=>by
  simp only [N4,A2j,List.length_cons]
  have:=(A8f p x).2;have:=A2s c0 s (G1 p (c0.getD t 0)).1 (t+1);omega
theorem A5p (s:List UInt8):(A2b s).length≤2 * s.length+1:=A2s s s [] 0
theorem B4e (c0:List UInt8) (c0p:Addr) (hs:c0.length≤1000000000) (R:List Int) (hR:A2b c0=R):B4g Tryz.prog 357 [pa c0p] [at_ c0p [sv c0]] (fun x=>iv x) R:=by
 refine C0v (n:=48) Tryz.func357 rfl (by kernel_rfl) rfl rfl (fun l=>[(0,.func (.yield l) #[] #[]),(1,pa c0p)]) (fun l=>⟨rfl,rfl,trivial⟩) fun X l I Ix L Φ hX hr hD hI0 hY=>?_
 replace hR:=(A2b.eq_1 ..).symm.trans hR
 refine sr 1 rfl (ip' 1 0 [(3,.slice none 0 0)] ?_)
 refine ie (A4 (sr 3 rfl (ix rfl (D6 (v:=sv c0) (us:=[sv c0]) ty9 rfl rfl (B9 0 rfl) rfl) ?_)))
 refine ip' 2 0 [(12,iv (c0.length:Int)),(13,iv 0)] ?_
 refine ie (A9 ?_)
 refine C8r (fun (pending:List UInt8) (pendingq:Option Addr) (pendingk:Nat) (t13:Nat) (R_:List Int) (Lt:Fen.Own) (Ft:List Pers)=>(t13≤c0.length∧N4 c0 (c0.drop t13) pending t13=R_∧pending.length≤pendingk∧pending.length≤9223372036854775807∧I R_ Lt Ft∧pending.length≤1000,[(0,.func (.yield l) #[] #[]),(1,pa c0p),(3,.slice pendingq pending.length pendingk),(12,iv (c0.length:Int)),(13,iv (t13:Int))],(Lt++([])),(at_ c0p [sv c0]::sl cU8 pendingq pending::Ft),c0.length - t13)) ([]:List UInt8) none 0 0 R L Φ ⟨(by omega),hR,(by first|omega|(simp only [List.length_take,List.length_drop,List.length_append,List.length_cons,List.length_nil,List.length_set,List.length_map,K2];omega)|decide),(by first|omega|(simp only [List.length_take,List.length_drop,List.length_append,List.length_cons,List.length_nil,List.length_set,List.length_map,K2];omega)|decide),hI0,(by simp)⟩ (mc [L] [true] rfl (by first|rfl|(simp only [List.length_set]<;>rfl))) (A5.con1 (B9 0 rfl) (A5.con1 Q6 (A5.dropT 1 rfl))) ?_
 rintro pending pendingq pendingk t13 R_ Lt Ft ⟨hm1,hR,hcpending,hlpending,hILt,hp⟩
 refine sr 1 rfl (ip' 1 0 [(14,bv (decide ((t13:Int)<(c0.length:Int))))] ?_)
 refine ie (A4 (R3 rfl (fun h2=>?_) (fun h2=>?_)))
 ·have h2p:(t13:Int)<(c0.length:Int):=by simpa using h2
  rw [R9 0 (show t13<c0.length by omega)] at hR;replace hR:=(N4.eq_2 ..).symm.trans hR
  refine A8 (nx (A4 (A9 (sr 2 rfl (ip' 2 0 [(4,iv (t13:Int))] ?_)))))
  refine ie (sr 10 rfl (ip' 1 9 [(17,.slice pendingq pending.length pendingk)] ?_))
  refine ix rfl (D6 (v:=sv c0) (us:=[sv c0]) ty9 rfl rfl (B9 0 rfl) rfl) ?_
  refine ip' 1 7 [(19,iv (t13:Int))] ?_
  refine ix rfl (C2p (T:=9) Tryz.underlying9 rfl rfl rfl t13 rfl (by omega)) ?_
  refine zcm (B8a pending (c0.getD t13 0) pendingq pendingk (by first|omega|(simp only [List.length_take,List.length_drop,List.length_append,List.length_cons,List.length_nil,List.length_set,List.length_map,K2];omega)|decide) (by first|omega|(simp only [List.length_take,List.length_drop,List.length_append,List.length_cons,List.length_nil,List.length_set,List.length_map,K2];omega)|decide) (by first|omega|(simp only [List.length_nil];omega)) _ rfl) (A5.cons (B9 1 rfl) fn0) fun ⟨⟨⟨q3,k4⟩,hp5⟩,⟨⟨q8,k9⟩,hp10⟩⟩=>?_
  obtain ⟨hc6,hl7⟩:=hp5
  obtain ⟨hc11,hl12⟩:=hp10
  have:=A8f pending (c0.getD t13 0)
  refine ip' 5 0 [(5,.slice q3 (((G1 pending (c0.getD t13 0)).1).length) k4),(6,.slice q8 (((G1 pending (c0.getD t13 0)).2).length) k9)] ?_
  refine ie (sr 2 rfl (ip' 2 0 [(3,.slice q3 (((G1 pending (c0.getD t13 0)).1).length) k4)] ?_))
  refine ie (sr 3 rfl (ip' 3 0 [(25,.slice q8 (((G1 pending (c0.getD t13 0)).2).length) k9),(26,iv (((G1 pending (c0.getD t13 0)).2).length:Int)),(27,iv 0)] ?_))
  refine ie (A9 ?_)
  refine B3d (fun (t27:Nat) (R_1:List Int) (Lt1:Fen.Own) (Ft1:List Pers)=>(t27≤((G1 pending (c0.getD t13 0)).2).length∧O4 c0 pending t13 (N4 c0 (c0.drop (t13+1))) (((G1 pending (c0.getD t13 0)).2).drop t27) t27=R_1∧I R_1 Lt1 Ft1,[(0,.func (.yield l) #[] #[]),(1,pa c0p),(3,.slice q3 (((G1 pending (c0.getD t13 0)).1).length) k4),(12,iv (c0.length:Int)),(13,iv (t13:Int)),(25,.slice q8 (((G1 pending (c0.getD t13 0)).2).length) k9),(26,iv (((G1 pending (c0.getD t13 0)).2).length:Int)),(27,iv (t27:Int))],(Lt1++([])),(sl cU8 q3 ((G1 pending (c0.getD t13 0)).1)::sl Q9 q8 ((G1 pending (c0.getD t13 0)).2)::at_ c0p [sv c0]::sl cU8 pendingq pending::Ft1),((G1 pending (c0.getD t13 0)).2).length - t27)) 0 R_ Lt Ft ⟨(by omega),hR,hILt⟩ (mc [Lt] [true] rfl (by first|rfl|(simp only [List.length_set]<;>rfl))) (A5.con1 (B9 0 rfl) (A5.con1 (B9 1 rfl) (A5.con1 (B9 2 rfl) (A5.con1 (B9 3 rfl) (A5.dropT 4 rfl))))) ?_
  rintro t27 R_1 Lt1 Ft1 ⟨hm13,hR,hILt1⟩
  refine sr 1 rfl (ip' 1 0 [(28,bv (decide ((t27:Int)<(((G1 pending (c0.getD t13 0)).2).length:Int))))] ?_)
  refine ie (A4 (R3 rfl (fun h14=>?_) (fun h14=>?_)))
  ·have h14p:(t27:Int)<(((G1 pending (c0.getD t13 0)).2).length:Int):=by simpa using h14
   rw [R9 0 (show t27<((G1 pending (c0.getD t13 0)).2).length by omega)] at hR;replace hR:=(O4.eq_2 ..).symm.trans hR
   refine A8 (nx (A4 (A9 (sr 3 rfl (I4 1 rfl (by omega) fun a15 hq16=>?_)))))
   refine ix rfl (F1 A0k rfl rfl hq16 rfl t27 rfl (by omega)) ?_
   refine ix rfl (D6 (v:=iv (((G1 pending (c0.getD t13 0)).2).getD t27 0)) (us:=[iv (((G1 pending (c0.getD t13 0)).2).getD t27 0)]) ty3 rfl rfl (G6 (c:=Q9) (sz:=1) hq16 (fun _=>rfl) 1 rfl (gd 0 (by omega))) rfl) ?_
   refine ip' 1 0 [(8,iv (((G1 pending (c0.getD t13 0)).2).getD t27 0))] ?_
   refine ie (sr 4 rfl (ip' 2 2 [(31,.func (.yield l) #[] #[]),(32,iv (((G1 pending (c0.getD t13 0)).2).getD t27 0))] ?_))
   have hq22:=C2u hR;clear hR;obtain ⟨R17,hR,hq22⟩:=hq22;rw [hq22] at hILt1
   refine it rfl (A8z (L2:=[]) (hY _ R17 _ _ hILt1) rfl rfl rfl rfl (A5.dropT 4 rfl) (H0 [Lt1] [0] 1 rfl (by decide) rfl [Lt1] rfl (by simp only [List.flatten_cons,List.flatten_nil,List.append_nil,List.cons_append,List.nil_append,List.append_assoc]))) fun ⟨⟨y18,L19,Φ20⟩,hy21⟩=>?_
   refine B5f (A5.yield [sl cU8 q3 ((G1 pending (c0.getD t13 0)).1),sl Q9 q8 ((G1 pending (c0.getD t13 0)).2),at_ c0p [sv c0],sl cU8 pendingq pending]) ?_
   refine ip' 1 0 [(34,bv (!y18))] ?_
   refine ie (R3 rfl (fun h23=>?_) (fun h23=>?_))
   ·have h23b:y18=false:=by simpa using h23
    rw [h23b] at hy21;try simp only [if_true,if_false,Bool.false_eq_true] at hy21
    refine B4 ?_
    exact B3p rfl ⟨hr,hD⟩ (by simp [hD]) (A8e rfl) (L':=L19) (Φ':=Φ20) (by exact .inr hy21) (mcT [L19] 0 rfl rfl) (A5.dropT 4 rfl)
   ·have h23b:y18=true:=by simpa using h23
    rw [h23b] at hy21;try simp only [if_true,if_false,Bool.false_eq_true] at hy21
    refine A8 (nx (A1 2 rfl (ix rfl (B0 rfl rfl rfl rfl (by omega)) ?_)))
    refine ip' 1 0 [(27,iv ((t27:Int)+1))] ?_
    refine A6 ?_
    exact B3a (z1:=t27) (z2:=R_1) (z3:=Lt1) (z4:=Ft1) (t27+1) R17 L19 Φ20 ⟨(by omega),hR,hy21⟩ (by (try dsimp only);omega) (mc [L19] [true] rfl (by first|rfl|(simp only [List.length_set]<;>rfl))) (A5.con1 (B9 0 rfl) (A5.con1 (B9 1 rfl) (A5.con1 (B9 2 rfl) (A5.con1 (B9 3 rfl) (A5.dropT 4 rfl)))))
  have h14p:¬ ((t27:Int)<(((G1 pending (c0.getD t13 0)).2).length:Int)):=by simpa using h14
  rw [R8 h14p] at hR;replace hR:=(O4.eq_1 ..).symm.trans hR
  refine F3 (nx (A1 2 rfl (ix rfl (B0 rfl rfl rfl rfl (by omega)) ?_)))
  refine ip' 1 0 [(13,iv ((t13:Int)+1))] ?_
  refine A6 ?_
  exact C8u (z1:=pending) (z2:=pendingq) (z3:=pendingk) (z4:=t13) (z5:=R_) (z6:=Lt) (z7:=Ft) ((G1 pending (c0.getD t13 0)).1) q3 k4 (t13+1) R_1 Lt1 Ft1 ⟨(by omega),hR,(by first|omega|(simp only [List.length_take,List.length_drop,List.length_append,List.length_cons,List.length_nil,List.length_set,List.length_map,K2];omega)|decide),(by first|omega|(simp only [List.length_take,List.length_drop,List.length_append,List.length_cons,List.length_nil,List.length_set,List.length_map,K2];omega)|decide),hILt1,(by first|omega|(simp only [List.length_nil];omega))⟩ (by (try dsimp only);omega) (mc [Lt1] [true] rfl (by first|rfl|(simp only [List.length_set]<;>rfl))) (A5.con1 (B9 2 rfl) (A5.con1 (B9 0 rfl) (A5.dropT 4 rfl)))
 have h2p:¬ ((t13:Int)<(c0.length:Int)):=by simpa using h2
 rw [R8 h2p] at hR;replace hR:=(N4.eq_1 ..).symm.trans hR
 refine F3 (nx (sr 4 rfl (ip' 1 3 [(37,.slice pendingq pending.length pendingk)] ?_)))
 have hs30:=B0g pending
 cases hc29:(decide (0<(pending.length:Int))&&P5 pending)
 ·replace hR:=bf hR hc29
  replace hs30:=hs30.trans (by rw [hc29];rfl:_=([]:List Int))
  refine zcm (A9j pending pendingq pendingk (by first|omega|(simp only [List.length_take,List.length_drop,List.length_append,List.length_cons,List.length_nil,List.length_set,List.length_map,K2];omega)|decide) (by first|omega|(simp only [List.length_take,List.length_drop,List.length_append,List.length_cons,List.length_nil,List.length_set,List.length_map,K2];omega)|decide) (by first|omega|(simp only [List.length_nil];omega)) ([]:List Int) hs30) (A5.cons (B9 1 rfl) fn0) fun ⟨⟨q24,k25⟩,hp26⟩=>?_
  have:([]:List Int).length=0:=rfl
  refine ip' 2 0 [(39,iv 0),(40,iv 0)] ?_
  refine ie (A9 (P8 2 ?_))
  refine D8 (sr 1 rfl (ip' 1 0 [(41,bv false)] ?_))
  subst hR
  refine ie (A4 (V5 rfl (F3 ?_)))
  exact A4f rfl ⟨hr,hD⟩ (by simp [hD]) (A8e rfl) (L':=Lt) (Φ':=Ft) (by exact .inl hILt) (mcT [Lt] 0 rfl rfl) (A5.dropT 3 rfl)
 ·replace hR:=bt hR hc29
  replace hs30:=hs30.trans (by rw [hc29];rfl:_=([65533]:List Int))
  refine zcm (A9j pending pendingq pendingk (by first|omega|(simp only [List.length_take,List.length_drop,List.length_append,List.length_cons,List.length_nil,List.length_set,List.length_map,K2];omega)|decide) (by first|omega|(simp only [List.length_take,List.length_drop,List.length_append,List.length_cons,List.length_nil,List.length_set,List.length_map,K2];omega)|decide) (by first|omega|(simp only [List.length_nil];omega)) ([65533]:List Int) hs30) (A5.cons (B9 1 rfl) fn0) fun ⟨⟨q24,k25⟩,hp26⟩=>?_
  have:([65533]:List Int).length=1:=rfl
  refine ip' 2 0 [(39,iv 1),(40,iv 0)] ?_
  refine ie (A9 (P8 3 ?_))
  refine D8 (sr 1 rfl (ip' 1 0 [(41,bv true)] ?_))
  refine ie (A4 (I0 rfl (A8 (nx (A4 (A9 (sr 3 rfl (I4 0 rfl (by omega) fun a31 hq32=>?_))))))))
  refine ix rfl (F1 A0k rfl rfl hq32 rfl 0 rfl (by omega)) ?_
  refine ix rfl (D6 (v:=iv (([65533]:List Int).getD 0 0)) (us:=[iv (([65533]:List Int).getD 0 0)]) ty3 rfl rfl (G6 (c:=Q9) (sz:=1) hq32 (fun _=>rfl) 0 rfl (gd 0 (by omega))) rfl) ?_
  refine ip' 1 0 [(10,iv (([65533]:List Int).getD 0 0))] ?_
  refine ie (A1 3 rfl (ip' 2 1 [(44,.func (.yield l) #[] #[]),(45,iv (([65533]:List Int).getD 0 0))] ?_))
  have hq38:=C2u hR;clear hR;obtain ⟨R33,hR,hq38⟩:=hq38;rw [hq38] at hILt
  refine it rfl (A8z (L2:=[]) (hY _ R33 _ _ hILt) rfl rfl rfl rfl (A5.dropT 3 rfl) (H0 [Lt] [0] 1 rfl (by decide) rfl [Lt] rfl (by simp only [List.flatten_cons,List.flatten_nil,List.append_nil,List.cons_append,List.nil_append,List.append_assoc]))) fun ⟨⟨y34,L35,Φ36⟩,hy37⟩=>?_
  refine B5f (A5.yield [sl Q9 q24 ([65533]:List Int),at_ c0p [sv c0],sl cU8 pendingq pending]) ?_
  refine A6 (nx (A1 2 rfl (ix rfl (B0 (c:=1) rfl rfl rfl rfl (by decide)) ?_)))
  refine ip' 1 0 [(40,iv 1)] ?_
  refine A6 (D8 (sr 1 rfl (ip' 1 0 [(41,bv false)] ?_)))
  subst hR
  refine ie (A4 (V5 rfl (F3 ?_)))
  exact A4f rfl ⟨hr,hD⟩ (by simp [hD]) (A8e rfl) (L':=L35) (Φ':=Φ36) (by cases y34<;>first|exact .inr (by simpa using hy37)|exact .inl (by simpa using hy37)) (mcT [L35] 0 rfl rfl) (A5.dropT 3 rfl)
def O1:List Int→List Int→List Int
 | [],l=>l
 | el::rest,l=>O1 rest (l++([el]:List Int))
def A2y (s:List UInt8):List Int :=
 O1 (A2b (K2 s)) ([]:List Int)
theorem A4i:∀ (rem l:List Int),O1 rem l=l++rem
 | [],l=>by simp [O1]
 | x::r,l=>by simp [O1,A4i r]
theorem B3e (s:List UInt8):(A2y s).length≤2 * s.length+1:=by
 have:=A5p s
 simpa [A2y,A4i,K2] using this
theorem B6x (s:List UInt8) (hp:s.length≤1000000000) (R:List Int) (hR:A2y s=R):Con Tryz.prog 258 [sv s] [] [] ({t:Option Addr×Nat // R.length≤t.2∧R.length≤9223372036854775807}) (fun x=>.slice x.1.1 R.length x.1.2) (fun x=>[]) (fun x=>[sl Q9 x.1.1 R]):=by
 refine zco Tryz.func258 [(0,sv s)] fun X hX hr hD=>?_
 replace hR:=(A2y.eq_1 ..).symm.trans hR
 refine sr 1 rfl (K6 1 0 [] (fun b1=>[(2,pt b1 0)]) (fun b1=>[bx b1 [.slice none 0 0] 231]) (fun b1=>?_))
 refine ie (A4 (sr 2 rfl (ip' 1 1 [(4,sv s)] ?_)))
 refine zcm (B7l s _ rfl) fn0 fun b2=>?_
 refine ie (A9 (Z1 (H0 [vo Q9 3 VR.nil ([]:List Int),[bx b1 [.slice none 0 0] 231]] [1,0] 2 rfl (by decide) rfl [[bx b1 [.slice none 0 0] 231],vo Q9 3 VR.nil ([]:List Int)] rfl (by first|rfl|simp)) ?_))
 refine C4t [(2,pt b1 0),(5,.func (.func 357) #[] #[pa b2])] ⟨rfl,rfl,trivial⟩ ?_
 refine C4a (β:=Int) (enc:=(fun x=>iv x)) (xs:=(A2b (K2 s))) (σ:=List Int×VR) hr rfl (B4e (K2 s) b2 (by first|omega|(simp only [K2];omega)) _ rfl) A5.refl rfl rfl (fun rem x=>O1 rem x.1=R∧VOk 1 x.1.length x.2∧x.1.length+rem.length≤2 * s.length+1) (fun _ _=>False) (fun x=>(bx b1 [.slice (va x.2.q) x.1.length x.2.k] 231::(vo Q9 3 x.2 x.1)++([]))) (fun x=>[at_ b2 [sv (K2 s)]]) (([]:List Int),VR.nil) (by exact ⟨hR,VOk.nil,(by simp only [List.length_nil,Nat.zero_add];exact A5p s)⟩) (mc [[bx b1 [.slice none 0 0] 231],vo Q9 3 VR.nil ([]:List Int)] [true,true] rfl (by first|rfl|(simp only [List.length_set]<;>rfl))) A5.refl ?_ ?_ (fun _ _ _ _ h=>h.elim)
 ·rintro el rest ⟨l,lr⟩ hI Y Y' K' hY' hK
  try dsimp only at hI
  obtain ⟨hR,hoklr,hg⟩:=hI
  replace hR:=(O1.eq_2 ..).symm.trans hR
  have:=VOk.le hoklr
  refine A1 1 rfl (ip' 1 0 [(3,iv el)] ?_)
  refine A6 (hK _ _ _ ?_)
  refine A9 (A1 5 rfl (zrl 2 3 [0] [(7,.slice (va lr.q) l.length lr.k),(8,iv el)] ?_))
  refine it rfl (F9 (c:=Q9) (xs:=([el]:List Int)) A0k rfl rfl rfl (by kernel_rfl)) fun b4=>?_
  have:([el]:List Int).length=1:=rfl
  refine it rfl (B1a (f:=Q9) (r:=lr) (xs:=l) (ys:=([el]:List Int)) (pre:=[bx b1 [.slice (va lr.q) l.length lr.k] 231]) (post:=[]) C2l (fun _=>rfl) (fun _=>rfl) rfl rfl rfl rfl rfl rfl rfl rfl rfl (B9 0 rfl) hoklr (by first|omega|(simp only [List.length_cons,List.length_nil,List.length_append,List.length_take,List.length_drop,K2];omega)) (by first|omega|(simp only [List.length_cons,List.length_nil,List.length_append,List.length_take,List.length_drop,K2];omega))) fun ⟨r5,hr6⟩=>?_
  have:=VOk.le hr6
  have:=VOk.cap hr6
  refine zrg 1 0 [0] [] (bx b1 [.slice (va r5.q) ((l++([el]:List Int)).length) r5.k] 231::(vo Q9 3 r5 (l++([el]:List Int)))++([])) ?_
  refine A6 ?_
  exact B3s (I:=fun rem x=>O1 rem x.1=R∧VOk 1 x.1.length x.2∧x.1.length+rem.length≤2 * s.length+1) (Jx:=fun _ _=>False) (Lk:=fun x=>(bx b1 [.slice (va x.2.q) x.1.length x.2.k] 231::(vo Q9 3 x.2 x.1)++([]))) (Φk:=fun x=>[at_ b2 [sv (K2 s)]]) (rest:=rest) ((l++([el]:List Int)),r5) (by exact ⟨hR,hr6,(by simp only [List.length_cons,List.length_append,List.length_nil] at *;omega)⟩) (mc [[bx b1 [.slice (va r5.q) ((l++([el]:List Int)).length) r5.k] 231],vo Q9 3 r5 (l++([el]:List Int))] [true,true] rfl (by first|rfl|(simp only [List.length_set]<;>rfl))) (A5.pick [1] rfl)
 ·rintro d7 ⟨l,lr⟩ hd7 hI
  try dsimp only at hI
  obtain ⟨hR,hoklr,hg⟩:=hI
  replace hR:=(O1.eq_1 ..).symm.trans hR
  have:=VOk.le hoklr
  refine nx (sr 2 rfl (zrg 2 0 [0,0] [] (bx b1 [.slice (va lr.q) l.length lr.k] 231::(vo Q9 3 lr l)++([])) ?_))
  refine ie (B4 (B4f [bx b1 [.slice (va lr.q) l.length lr.k] 231] [] (T:=3) (c:=Q9) (r:=lr) (xs:=l) hoklr (by first|rfl|simp only [List.cons_append,List.append_assoc,List.nil_append,List.append_nil]) ?_))
  have:=VOk.cap hoklr
  subst hR
  exact B1q rfl ⟨hr,hD⟩ (by exact (Z4.cons (show Z4 X.D by rw [hD];exact Z4.nil) hd7)) (R1 rfl (B8d (v:=.slice (va lr.q) l.length lr.k) C7h rfl 0 rfl rfl)) (zq (va lr.q) lr.k) (by rfl) (mk [false] rfl) (A5.con1 (B9 0 rfl) fn0)
def A1q (is:Bool):Option Unit :=
 (bif (!is) then none else (some ()))
theorem A0n {b:Bool} {r:Unit} (h:A1q b=some r):b=true:=by cases b with | true=>rfl | false=>cases h
theorem A3q (is:Bool) (R:Option Unit) (hR:A1q is=R):B2n Tryz.prog 126 [bv is] [] [] V2 R (fun r=>.tuple #[]):=by
 refine A3g (n:=6) Tryz.func126 rfl (by kernel_rfl) rfl rfl [(0,bv is)] ⟨rfl,trivial⟩ fun X hX hr hD=>?_
 replace hR:=(A1q.eq_1 ..).symm.trans hR
 refine sr 2 rfl (ip' 2 0 [(3,bv (!is))] ?_)
 refine ie ?_
 refine zjb rfl hR ?_ ?_<;>clear hR<;>intro hR h1
 ·refine A1 3 rfl (zrl 1 2 [] [(4,ag [])] ?_)
  refine ix rfl (B9y Tryz.underlying247 rfl rfl rfl) ?_
  refine C0w rfl rfl rfl ?_
  exact R6 ⟨hr,hD⟩ hR.symm
 refine A8 ?_
 exact A3t rfl ⟨hr,hD⟩ (by simp [hD]) (A8e rfl) hR.symm rfl
def Z2:List Int→Nat→Option Unit
 | [],t19=>(some ())
 | hd_l0::tl_l0,t19=>(Option.bind (A1q ((decide ((32:Int)≤hd_l0))&&((decide (hd_l0<127))||(decide ((159:Int)<hd_l0))))) fun (r1:Unit)=>Z2 tl_l0 (t19+1))
def A8s (s:List UInt8):Option Unit :=
 (H3 (A2y s) fun (y0:List Int)=>(Option.bind (A1q ((decide ((s.length:Int)≤510))&&(decide ((A3b y0)=s)))) fun (r:Unit)=>Z2 y0 0))
theorem B5y (s:List UInt8) (hs:s.length≤100000000) (R:Option Unit) (hR:A8s s=R):B2n Tryz.prog 194 [sv s] [] [] V2 R (fun r=>.tuple #[]):=by
 refine A3g (n:=35) Tryz.func194 rfl (by kernel_rfl) rfl rfl [(0,sv s)] ⟨rfl,trivial⟩ fun X hX hr hD=>?_
 replace hR:=(A8s.eq_1 ..).symm.trans hR
 refine sr 3 rfl (ip' 1 2 [(5,sv s)] ?_)
 have hQ:=I2 hR;clear hR;obtain ⟨y0,hy0,hR⟩:=hQ
 refine zcm (B6x s (by first|omega|(simp only [List.length_append,List.length_cons,List.length_nil,List.length_take,List.length_drop,List.length_set];omega)) y0 hy0) fn0 fun ⟨⟨q1,k2⟩,hp3⟩=>?_
 obtain ⟨hc4,hl5⟩:=hp3
 have:=B3e s;try rw [hy0] at this
 refine ip' 1 0 [(2,.slice q1 y0.length k2)] ?_
 refine ie (sr 10 rfl (ip' 4 6 [(10,bv (decide ((s.length:Int)≤510)))] ?_))
 refine zid 5 1 10 15 (decide ((A3b y0)=s)) (fun g6 g6p=>?_) ?_
 ·refine ip' 1 4 [(11,.slice q1 y0.length k2)] ?_
  refine zca (B7y y0 q1 k2 (by first|omega|(simp only [List.length_take,List.length_drop,List.length_append,List.length_cons,List.length_nil,List.length_set,List.length_map,K2];omega)|decide) (by first|omega|(simp only [List.length_take,List.length_drop,List.length_append,List.length_cons,List.length_nil,List.length_set,List.length_map,K2];omega)|decide) (by first|omega|(simp only [List.length_append,List.length_cons,List.length_nil,List.length_take,List.length_drop,List.length_set];omega)) _ rfl) A5.refl ?_
  refine ip' 1 2 [(13,sv s)] ?_
  refine ix rfl (B5x rfl rfl rfl) ?_
  refine ip' 1 0 [(15,bv (decide ((A3b y0)=s)))] ?_
  exact zai 6 10 15 g6
 refine A1r (L2:=[]) (A3q ((decide ((s.length:Int)≤510))&&(decide ((A3b y0)=s))) _ rfl) rfl rfl rfl rfl rfl rfl fn0 (List.Perm.refl _) (fun r hs7=>?_) (fun hn8=>?_)
 ·replace hR:=B1b hR hs7
  have hmu:=A0n hs7;try simp only [Bool.and_eq_true,decide_eq_true_eq] at hmu
  refine ie (sr 3 rfl (ip' 3 0 [(17,.slice q1 y0.length k2),(18,iv (y0.length:Int)),(19,iv 0)] ?_))
  refine ie (A9 (B2o (fun (t19:Nat)=>(t19≤y0.length∧Z2 (y0.drop t19) t19=R,[(17,.slice q1 y0.length k2),(18,iv (y0.length:Int)),(19,iv (t19:Int))],[],[sl Q9 q1 y0],y0.length - t19)) 0 ⟨(by omega),hR⟩ (mk [] rfl) A5.refl ?_))
  rintro t19 ⟨hm9,hR⟩
  refine sr 1 rfl (ip' 1 0 [(20,bv (decide ((t19:Int)<(y0.length:Int))))] ?_)
  refine ie (A4 (R3 rfl (fun h10=>?_) (fun h10=>?_)))
  ·have h10p:(t19:Int)<(y0.length:Int):=by simpa using h10
   rw [R9 0 (show t19<y0.length by omega)] at hR;replace hR:=(Z2.eq_2 ..).symm.trans hR
   refine A8 (nx (A4 (A9 (sr 3 rfl (I4 0 rfl (by omega) fun a11 hq12=>?_)))))
   refine ix rfl (F1 A0k rfl rfl hq12 rfl t19 rfl (by omega)) ?_
   refine ix rfl (D6 (v:=iv (y0.getD t19 0)) (us:=[iv (y0.getD t19 0)]) ty3 rfl rfl (G6 (c:=Q9) (sz:=1) hq12 (fun _=>rfl) 0 rfl (gd 0 (by omega))) rfl) ?_
   refine ip' 1 0 [(4,iv (y0.getD t19 0))] ?_
   refine ie (A1 11 rfl (ip' 3 8 [(25,bv (decide ((32:Int)≤(y0.getD t19 0))))] ?_))
   refine zid 7 1 25 32 ((decide ((y0.getD t19 0)<127))||(decide ((159:Int)<(y0.getD t19 0)))) (fun g13 g13p=>?_) ?_
   ·refine ip' 3 4 [(28,bv (decide ((y0.getD t19 0)<127)))] ?_
    refine zir 3 1 28 31 (decide ((159:Int)<(y0.getD t19 0))) (fun g14 g14p=>?_) ?_
    ·refine ip' 3 0 [(31,bv (decide ((159:Int)<(y0.getD t19 0))))] ?_
     exact zai 2 28 31 g14
    refine ip' 1 0 [(32,bv ((decide ((y0.getD t19 0)<127))||(decide ((159:Int)<(y0.getD t19 0)))))] ?_
    exact zai 4 25 32 g13
   refine A1r (L2:=[]) (A3q ((decide ((32:Int)≤(y0.getD t19 0)))&&((decide ((y0.getD t19 0)<127))||(decide ((159:Int)<(y0.getD t19 0))))) _ rfl) rfl rfl rfl rfl rfl rfl fn0 (List.Perm.refl _) (fun r1 hs15=>?_) (fun hn16=>?_)
   ·replace hR:=B1b hR hs15
    have hmu:=A0n hs15;try simp only [Bool.and_eq_true,decide_eq_true_eq] at hmu
    refine A6 (nx (A1 2 rfl (ix rfl (B0 rfl rfl rfl rfl (by omega)) ?_)))
    refine ip' 1 0 [(19,iv ((t19:Int)+1))] ?_
    refine A6 ?_
    exact B2u (z1:=t19) (t19+1) ⟨(by omega),hR⟩ (by (try dsimp only);omega) (mk [] rfl) A5.refl
   ·replace hR:=B0v hR hn16
    exact R6 ⟨hr,hD⟩ hR.symm
  have h10p:¬ ((t19:Int)<(y0.length:Int)):=by simpa using h10
  rw [R8 h10p] at hR;replace hR:=(Z2.eq_1 ..).symm.trans hR
  refine F3 ?_
  exact A3t rfl ⟨hr,hD⟩ (by simp [hD]) (A8e rfl) hR.symm rfl
 ·replace hR:=B0v hR hn8
  exact R6 ⟨hr,hD⟩ hR.symm
def A8n (a:Act) (want:Act):Option Unit :=
 (Option.bind (A1q (decide (a=want))) fun (r:Unit)=>(some ()))
theorem B7e (a:Act) (want:Act) (R:Option Unit) (hR:A8n a want=R):B2n Tryz.prog 193 [ag (F4 a),ag (F4 want)] [] [] V2 R (fun r=>.tuple #[]):=by
 refine A3g (n:=8) Tryz.func193 rfl (by kernel_rfl) rfl rfl [(0,ag (F4 a)),(1,ag (F4 want))] ⟨rfl,rfl,trivial⟩ fun X hX hr hD=>?_
 replace hR:=(A8n.eq_1 ..).symm.trans hR
 refine sr 2 rfl (B1l 2 0 [] (fun b1 b2=>[(2,pt b1 0),(3,pt b2 0)]) (fun b1 b2=>[bx b2 (F4 want) 81,bx b1 (F4 a) 81]) (fun b1 b2=>?_))
 refine ie (A1 4 rfl (zrl 2 2 [1,0] [(4,ag (F4 a)),(5,ag (F4 want))] ?_))
 refine ix rfl (B4m (a:=a) (b:=want) C7k rfl rfl rfl) ?_
 refine A1r (L2:=[bx b2 (F4 want) 81,bx b1 (F4 a) 81]) (A3q (decide (a=want)) _ rfl) rfl rfl rfl rfl rfl rfl fn0 (List.Perm.refl _) (fun r hs3=>?_) (fun hn4=>?_)
 ·replace hR:=B1b hR hs3
  have hmu:=A0n hs3;try simp only [Bool.and_eq_true,decide_eq_true_eq] at hmu
  refine A6 ?_
  exact A3t rfl ⟨hr,hD⟩ (by simp [hD]) (A8e rfl) hR.symm rfl
 ·replace hR:=B0v hR hn4
  exact R6 ⟨hr,hD⟩ hR.symm
def A4a (a:Act):Option (List UInt8) :=
 (Option.bind (A8n a ({Act.zero with kind:=a.kind,text:=a.text})) fun (r:Unit)=>(Option.bind (A8s a.text) fun (r1:Unit)=>(some (([50,59]:List UInt8)++a.text))))
theorem B1e (a:Act) (hs:a.text.length≤100000000) (R:Option (List UInt8)) (hR:A4a a=R):B2n Tryz.prog 192 [ag (F4 a)] [] [] V2 R (fun r=>sv r):=by
 refine A3g (n:=16) Tryz.func192 rfl (by kernel_rfl) rfl rfl [(0,ag (F4 a))] ⟨rfl,trivial⟩ fun X hX hr hD=>?_
 replace hR:=(A4a.eq_1 ..).symm.trans hR
 refine sr 2 rfl (K6 2 0 [] (fun b1=>[(1,pt b1 0)]) (fun b1=>[bx b1 (F4 a) 81]) (fun b1=>?_))
 refine ie (sr 7 rfl (zrl 6 1 [0,0,0] [(3,ag (F4 a)),(8,ag (F4 ({Act.zero with kind:=a.kind,text:=a.text})))] ?_))
 refine A1r (L2:=[bx b1 (F4 a) 81]) (B7e a ({Act.zero with kind:=a.kind,text:=a.text}) _ rfl) rfl rfl rfl rfl rfl rfl fn0 (List.Perm.refl _) (fun r hs2=>?_) (fun hn3=>?_)
 ·replace hR:=B1b hR hs2
  refine ie (sr 3 rfl (zrl 2 1 [0] [(11,sv a.text)] ?_))
  refine A1r (L2:=[bx b1 (F4 a) 81]) (B5y a.text (by first|omega|(simp only [List.length_nil];omega)) _ rfl) rfl rfl rfl rfl rfl rfl fn0 (List.Perm.refl _) (fun r1 hs4=>?_) (fun hn5=>?_)
  ·replace hR:=B1b hR hs4
   refine ie (sr 4 rfl (zrl 2 2 [0] [(14,sv a.text)] ?_))
   refine ix rfl (zst rfl rfl rfl) ?_
   refine ip' 1 0 [(2,sv (([50,59]:List UInt8)++a.text))] ?_
   refine ie (B4 ?_)
   exact B3g rfl ⟨hr,hD⟩ (by simp [hD]) (R1 rfl (B5 rfl)) hR.symm rfl
  ·replace hR:=B0v hR hn5
   exact R6 ⟨hr,hD⟩ hR.symm
 ·replace hR:=B0v hR hn3
  exact R6 ⟨hr,hD⟩ hR.symm
end Go.Proofs.YthcjfkljekdioaaGreatDoor
set_option linter.unusedVariables false
set_option linter.unusedSimpArgs false
set_option linter.unnecessarySimpa false
set_option maxRecDepth 100000
namespace Go.Proofs.YthcjfkljekdioaaGreatDoor
open Go Go.Fen
theorem C1z:EqT Tryz.prog 40 U7:=EqT.of 20 rfl (by kernel_rfl) (by kernel_rfl) (fun _ _=>by kernel_rfl) U7.inj
theorem ty4:Ty Tryz.prog 4 1 false:=⟨by kernel_rfl⟩
theorem C0n:Ty Tryz.prog 40 2 true:=⟨by kernel_rfl⟩
theorem C4p:Ty Tryz.prog 118 1 false:=⟨by kernel_rfl⟩
theorem C7v:Ty Tryz.prog 187 3 true:=⟨by kernel_rfl⟩
def E8:Ar3 :=
 {Ar3.zero with b:=255,c:=16777215}
theorem B1z (R:Ar3) (hR:E8=R):M9 Tryz.prog 190 [] [] (ag (B1y R)):=by
 refine zco Tryz.func190 [] fun X hX hr hD=>?_
 replace hR:=(E8.eq_1 ..).symm.trans hR
 refine sr 1 rfl (K6 1 0 [] (fun b1=>[(0,pt b1 0)]) (fun b1=>[bx b1 (B1y Ar3.zero) 187]) (fun b1=>?_))
 refine ie (sr 2 rfl (zrg 2 0 [0] [] [bx b1 (B1y ({Ar3.zero with b:=255,c:=16777215})) 187] ?_))
 subst hR
 refine ie (B4 ?_)
 exact zer hr hD (R1 rfl (J1 (us:=B1y ({Ar3.zero with b:=255,c:=16777215})) C7v rfl 0 rfl rfl rfl)) () (mk [false] rfl) fn0
def I7 (c:Col):Int :=
 (bif ((((decide (c.kind<0))||(decide ((3:Int)≤c.kind)))||(decide (c.n<0)))||(decide ((([E8.a,E8.b,E8.c]:List Int).getD ((c.kind).toNat) 0)<c.n))) then 130 else 0)
theorem A2x (c:Col) (R:Int) (hR:I7 c=R):M9 Tryz.prog 122 [ag (U7 c)] [] (iv R):=by
 refine zco Tryz.func122 [(0,ag (U7 c))] fun X hX hr hD=>?_
 replace hR:=(I7.eq_1 ..).symm.trans hR
 refine sr 2 rfl (K6 2 0 [] (fun b1=>[(1,pt b1 0)]) (fun b1=>[bx b1 (U7 c) 40]) (fun b1=>?_))
 refine ie (A4 (sr 3 rfl (zca (B1z _ rfl) fn0 ?_)))
 refine K6 2 0 [0] (fun b2=>[(3,pt b2 0)]) (fun b2=>[bx b2 (B1y E8) 187,bx b1 (U7 c) 40]) (fun b2=>?_)
 refine ie (sd 22 rfl (by kernel_rfl) rfl ?_)
 refine zdg 4 18 [1] [(8,bv (decide (c.kind<0)))] ?_
 refine zdr 4 14 8 12 (decide ((3:Int)≤c.kind)) (fun g3 g3p=>?_) ?_
 ·refine zdg 4 0 [1] [(12,bv (decide ((3:Int)≤c.kind)))] ?_
  exact zad 2 8 12 g3
 refine dp' 1 13 [(13,bv ((decide (c.kind<0))||(decide ((3:Int)≤c.kind))))] ?_
 refine zdO 4 9 13 17 (decide (c.n<0)) (fun g4=>?_) ?_
 ·have g4p:¬ ((c.kind<0)∨((3:Int)≤c.kind)):=by simpa using g4
  refine zdg 4 0 [1] [(17,bv (decide (c.n<0)))] ?_
  exact zad 2 13 17 g4
 refine dp' 1 8 [(18,bv (((decide (c.kind<0))||(decide ((3:Int)≤c.kind)))||(decide (c.n<0))))] ?_
 refine zdO 8 0 18 26 (decide ((([E8.a,E8.b,E8.c]:List Int).getD ((c.kind).toNat) 0)<c.n)) (fun g5=>?_) ?_
 ·have g5p:¬ (((c.kind<0)∨((3:Int)≤c.kind))∨(c.n<0)):=by simpa using g5
  refine zdg 4 4 [1,1] [(20,iv c.n),(22,iv c.kind)] ?_
  refine dd rfl (B6w Tryz.underlying187 ty3 rfl rfl rfl ((c.kind).toNat) (by omega) (by omega)) ?_
  refine dd rfl (A9y (u:=iv (([E8.a,E8.b,E8.c]:List Int).getD ((c.kind).toNat) 0)) (c:=Q9) (xs:=([E8.a,E8.b,E8.c]:List Int)) (j:=[]) (sz:=1) ty3 (fun _=>rfl) rfl rfl 0 rfl ((c.kind).toNat) 0 rfl (gd 0 (by simp only [List.length_cons,List.length_nil];omega)) rfl) ?_
  refine dp' 2 0 [(26,bv (decide ((([E8.a,E8.b,E8.c]:List Int).getD ((c.kind).toNat) 0)<c.n)))] ?_
  exact zad 6 18 26 g5
 refine de ?_
 refine zjb rfl hR ?_ ?_<;>clear hR<;>intro hR h6
 ·have h6p:(((c.kind<0)∨((3:Int)≤c.kind))∨(c.n<0))∨((([E8.a,E8.b,E8.c]:List Int).getD ((c.kind).toNat) 0)<c.n):=by simpa using h6
  refine sr 1 rfl (ip' 1 0 [(2,iv 130)] ?_)
  subst hR
  refine ie (B4 ?_)
  exact F8 hr hD
 have h6p:¬ ((((c.kind<0)∨((3:Int)≤c.kind))∨(c.n<0))∨((([E8.a,E8.b,E8.c]:List Int).getD ((c.kind).toNat) 0)<c.n)):=by simpa using h6
 refine A8 (nx (sr 1 rfl (ip' 1 0 [(2,iv 0)] ?_)))
 subst hR
 refine ie (B4 ?_)
 exact F8 hr hD
def D4 (s:Sty):Int :=
 (bif (((!decide ((bOp .andNot .i64 s.attr 255)=0))||(decide (s.under<0)))||(decide ((5:Int)<s.under))) then 140 else (bif (!decide ((I7 s.fore)=0)) then (I7 s.fore) else (bif (!decide ((I7 s.back)=0)) then (I7 s.back) else (bif (!decide ((I7 s.line)=0)) then (I7 s.line) else 0))))
theorem V8 (s:Sty) (R:Int) (hR:D4 s=R):M9 Tryz.prog 107 [ag (J8 s)] [] (iv R):=by
 refine zco Tryz.func107 [(0,ag (J8 s))] fun X hX hr hD=>?_
 replace hR:=(D4.eq_1 ..).symm.trans hR
 refine sr 2 rfl (K6 2 0 [] (fun b1=>[(1,pt b1 0)]) (fun b1=>[bx b1 (J8 s) 42]) (fun b1=>?_))
 refine ie (A4 (sr 14 rfl (zrl 5 9 [0] [(10,bv (!decide ((bOp .andNot .i64 s.attr 255)=0)))] ?_)))
 refine zio 4 5 10 14 (decide (s.under<0)) (fun g2=>?_) ?_
 ·have g2p:¬ (¬ (bOp .andNot .i64 s.attr 255)=0):=by simpa using g2
  refine zrl 4 0 [0] [(14,bv (decide (s.under<0)))] ?_
  exact A6 (M7 2 10 14 g2 fn0 (mk [true] rfl) rfl rfl rfl rfl rfl)
 refine ip' 1 4 [(15,bv ((!decide ((bOp .andNot .i64 s.attr 255)=0))||(decide (s.under<0))))] ?_
 refine zio 4 0 15 19 (decide ((5:Int)<s.under)) (fun g3=>?_) ?_
 ·have g3p:¬ ((¬ (bOp .andNot .i64 s.attr 255)=0)∨(s.under<0)):=by simpa using g3
  refine zrl 4 0 [0] [(19,bv (decide ((5:Int)<s.under)))] ?_
  exact A6 (M7 2 15 19 g3 fn0 (mk [true] rfl) rfl rfl rfl rfl rfl)
 refine ie ?_
 refine zjb rfl hR ?_ ?_<;>clear hR<;>intro hR h4
 ·have h4p:((¬ (bOp .andNot .i64 s.attr 255)=0)∨(s.under<0))∨((5:Int)<s.under):=by simpa using h4
  refine sr 1 rfl (ip' 1 0 [(2,iv 140)] ?_)
  subst hR
  refine ie (B4 ?_)
  exact F8 hr hD
 have h4p:¬ (((¬ (bOp .andNot .i64 s.attr 255)=0)∨(s.under<0))∨((5:Int)<s.under)):=by simpa using h4
 refine A8 (nx (A4 (sr 8 rfl (zrl 8 0 [0,0,0] [(26,ag [iv s.fore.kind,iv s.fore.n,iv s.back.kind,iv s.back.n,iv s.line.kind,iv s.line.n]),(27,iv 0)] ?_))))
 refine ie (A9 (P8 5 ?_))
 refine D8 (sr 1 rfl (ip' 1 0 [(28,bv true)] ?_))
 refine ie (A4 (I0 rfl (A8 (nx (A4 (A9 (sr 3 rfl (ix rfl (D7 (v:=ag [iv s.fore.kind,iv s.fore.n]) (us:=[iv s.fore.kind,iv s.fore.n]) Tryz.underlying192 C0n rfl rfl rfl 0 rfl (by decide) rfl rfl rfl) ?_))))))))
 refine K6 2 0 [0] (fun b5=>[(4,pt b5 0)]) (fun b5=>[bx b5 (U7 s.fore) 40,bx b1 (J8 s) 42]) (fun b5=>?_)
 refine ie (sr 3 rfl (zrl 1 2 [0] [(30,ag (U7 s.fore))] ?_))
 refine zca (A2x s.fore _ rfl) fn0 ?_
 refine ip' 1 0 [(5,iv (I7 s.fore))] ?_
 refine ie (sr 2 rfl (ip' 2 0 [(33,bv (!decide ((I7 s.fore)=0)))] ?_))
 refine ie ?_
 refine zjn rfl hR ?_ ?_<;>clear hR<;>intro hR h6 h6p
 ·refine sr 2 rfl (ip' 2 0 [(2,iv (I7 s.fore))] ?_)
  subst hR
  refine ie (B4 ?_)
  exact F8 hr hD
 refine A8 (nx (A1 2 rfl (ix rfl (B0 (c:=1) rfl rfl rfl rfl (by decide)) ?_)))
 refine ip' 1 0 [(27,iv 1)] ?_
 refine A6 (D8 (sr 1 rfl (ip' 1 0 [(28,bv true)] ?_)))
 refine ie (A4 (I0 rfl (A8 (nx (A4 (A9 (sr 3 rfl (ix rfl (D7 (v:=ag [iv s.back.kind,iv s.back.n]) (us:=[iv s.back.kind,iv s.back.n]) Tryz.underlying192 C0n rfl rfl rfl 1 rfl (by decide) rfl rfl rfl) ?_))))))))
 refine K6 2 0 [0] (fun b7=>[(4,pt b7 0)]) (fun b7=>[bx b7 (U7 s.back) 40,bx b5 (U7 s.fore) 40,bx b1 (J8 s) 42]) (fun b7=>?_)
 refine ie (sr 3 rfl (zrl 1 2 [0] [(30,ag (U7 s.back))] ?_))
 refine zca (A2x s.back _ rfl) fn0 ?_
 refine ip' 1 0 [(5,iv (I7 s.back))] ?_
 refine ie (sr 2 rfl (ip' 2 0 [(33,bv (!decide ((I7 s.back)=0)))] ?_))
 refine ie ?_
 refine zjn rfl hR ?_ ?_<;>clear hR<;>intro hR h8 h8p
 ·refine sr 2 rfl (ip' 2 0 [(2,iv (I7 s.back))] ?_)
  subst hR
  refine ie (B4 ?_)
  exact F8 hr hD
 refine A8 (nx (A1 2 rfl (ix rfl (B0 (c:=2) rfl rfl rfl rfl (by decide)) ?_)))
 refine ip' 1 0 [(27,iv 2)] ?_
 refine A6 (D8 (sr 1 rfl (ip' 1 0 [(28,bv true)] ?_)))
 refine ie (A4 (I0 rfl (A8 (nx (A4 (A9 (sr 3 rfl (ix rfl (D7 (v:=ag [iv s.line.kind,iv s.line.n]) (us:=[iv s.line.kind,iv s.line.n]) Tryz.underlying192 C0n rfl rfl rfl 2 rfl (by decide) rfl rfl rfl) ?_))))))))
 refine K6 2 0 [0] (fun b9=>[(4,pt b9 0)]) (fun b9=>[bx b9 (U7 s.line) 40,bx b7 (U7 s.back) 40,bx b5 (U7 s.fore) 40,bx b1 (J8 s) 42]) (fun b9=>?_)
 refine ie (sr 3 rfl (zrl 1 2 [0] [(30,ag (U7 s.line))] ?_))
 refine zca (A2x s.line _ rfl) fn0 ?_
 refine ip' 1 0 [(5,iv (I7 s.line))] ?_
 refine ie (sr 2 rfl (ip' 2 0 [(33,bv (!decide ((I7 s.line)=0)))] ?_))
 refine ie ?_
 refine zjn rfl hR ?_ ?_<;>clear hR<;>intro hR h10 h10p
 ·refine sr 2 rfl (ip' 2 0 [(2,iv (I7 s.line))] ?_)
  subst hR
  refine ie (B4 ?_)
  exact F8 hr hD
 refine A8 (nx (A1 2 rfl (ix rfl (B0 (c:=3) rfl rfl rfl rfl (by decide)) ?_)))
 refine ip' 1 0 [(27,iv 3)] ?_
 refine A6 (D8 (sr 1 rfl (ip' 1 0 [(28,bv false)] ?_)))
 refine ie (A4 (V5 rfl (F3 (nx (sr 1 rfl (ip' 1 0 [(2,iv 0)] ?_))))))
 subst hR
 refine ie (B4 ?_)
 exact F8 hr hD
end Go.Proofs.YthcjfkljekdioaaGreatDoor
set_option linter.unusedVariables false
set_option linter.unusedSimpArgs false
set_option linter.unnecessarySimpa false
set_option maxRecDepth 100000
namespace Go.Proofs.YthcjfkljekdioaaGreatDoor
open Go Go.Fen
theorem C7l:ApTy Tryz.prog 48 4 1 1:=⟨by kernel_rfl,by kernel_rfl,rfl⟩
theorem B8p:ApTy Tryz.prog 69 72 12 96:=⟨by kernel_rfl,by kernel_rfl,rfl⟩
theorem C8c:SlTy Tryz.prog 48 4 1:=⟨by kernel_rfl,by kernel_rfl⟩
theorem Q8:SlTy Tryz.prog 69 72 12:=⟨by kernel_rfl,by kernel_rfl⟩
theorem C8p:Ty Tryz.prog 47 13 true:=⟨by kernel_rfl⟩
theorem B1d:Ty Tryz.prog 72 12 true:=⟨by kernel_rfl⟩
theorem C0j:Ty Tryz.prog 78 2 true:=⟨by kernel_rfl⟩
theorem C7y:Zero Tryz.prog 4 [bv false]:=⟨by kernel_rfl⟩
theorem C4w:Zero Tryz.prog 72 (B3 Cel.zero):=⟨by kernel_rfl⟩
structure Cur where
 row:Int
 col:Int
 wrap:Bool
deriving DecidableEq
def A5i (x:Cur):List Value:=[.int .i64 x.row,.int .i64 x.col,.bool x.wrap]
def Cur.zero:Cur:=⟨0,0,false⟩
theorem A5i.inj (x y:Cur) (h:A5i x=A5i y):x=y:=by
 rcases x with ⟨_,_,_⟩
 rcases y with ⟨_,_,_⟩
 simp [A5i,bs] at h
 simp_all
structure Ar4 where
 a:Int
 b:Int
 c:Int
 d:Int
deriving DecidableEq
def B5q (x:Ar4):List Value:=[.int .i64 x.a,.int .i64 x.b,.int .i64 x.c,.int .i64 x.d]
def Ar4.zero:Ar4:=⟨0,0,0,0⟩
theorem B5q.inj (x y:Ar4) (h:B5q x=B5q y):x=y:=by
 rcases x with ⟨_,_,_,_⟩
 rcases y with ⟨_,_,_,_⟩
 simp [B5q,bs] at h
 simp_all
structure Sts where
 g:Ar4
 used:Int
 once:Int
deriving DecidableEq
def A4q (x:Sts):List Value:=B5q x.g++([.int .i64 x.used,.int .i64 x.once])
def Sts.zero:Sts:=⟨Ar4.zero,0,0⟩
theorem A4q.inj (x y:Sts) (h:A4q x=A4q y):x=y:=by
 rcases x with ⟨⟨_,_,_,_⟩,_,_⟩
 rcases y with ⟨⟨_,_,_,_⟩,_,_⟩
 simp [B5q,A4q,bs] at h
 simp_all
structure Mod where
 insert:Bool
 newline:Bool
 cursorKeys:Bool
 inverse:Bool
 origin:Bool
 auto:Bool
 visible:Bool
 paste:Bool
 focus:Bool
 sync:Bool
 keypad:Bool
 mouse:Int
 mouseSgr:Bool
deriving DecidableEq
def A2c (x:Mod):List Value:=[.bool x.insert,.bool x.newline,.bool x.cursorKeys,.bool x.inverse,.bool x.origin,.bool x.auto,.bool x.visible,.bool x.paste,.bool x.focus,.bool x.sync,.bool x.keypad,.int .i64 x.mouse,.bool x.mouseSgr]
def Mod.zero:Mod:=⟨false,false,false,false,false,false,false,false,false,false,false,0,false⟩
theorem A2c.inj (x y:Mod) (h:A2c x=A2c y):x=y:=by
 rcases x with ⟨_,_,_,_,_,_,_,_,_,_,_,_,_⟩
 rcases y with ⟨_,_,_,_,_,_,_,_,_,_,_,_,_⟩
 simp [A2c,bs] at h
 simp_all
structure Sav where
 is_:Bool
 cursor:Cur
 style:Sty
 sets:Sts
 origin:Bool
deriving DecidableEq
def A3i (x:Sav):List Value:=[.bool x.is_]++(A5i x.cursor++(J8 x.style++(A4q x.sets++([.bool x.origin]))))
def Sav.zero:Sav:=⟨false,Cur.zero,Sty.zero,Sts.zero,false⟩
theorem A3i.inj (x y:Sav) (h:A3i x=A3i y):x=y:=by
 rcases x with ⟨_,⟨_,_,_⟩,⟨_,_,⟨_,_⟩,⟨_,_⟩,⟨_,_⟩⟩,⟨⟨_,_,_,_⟩,_,_⟩,_⟩
 rcases y with ⟨_,⟨_,_,_⟩,⟨_,_,⟨_,_⟩,⟨_,_⟩,⟨_,_⟩⟩,⟨⟨_,_,_,_⟩,_,_⟩,_⟩
 simp [B5q,U7,A5i,A3i,A4q,J8,bs] at h
 simp_all
structure ScrC where
 cols:Int
 rows:Int
 onAlt:Bool
 cursor:Cur
 style:Sty
 sets:Sts
 modes:Mod
 top:Int
 bottom:Int
 kept:Sav
 keptAlt:Sav
 shape:Int
 title:List UInt8
 last:Int
deriving DecidableEq
def B9f (x:ScrC):List Value:=[.int .i64 x.cols,.int .i64 x.rows,.bool x.onAlt]++(A5i x.cursor++(J8 x.style++(A4q x.sets++(A2c x.modes++([.int .i64 x.top,.int .i64 x.bottom]++(A3i x.kept++(A3i x.keptAlt++([.int .i64 x.shape,.string (bs x.title),.int .i64 x.last]))))))))
def ScrC.zero:ScrC:=⟨0,0,false,Cur.zero,Sty.zero,Sts.zero,Mod.zero,0,0,Sav.zero,Sav.zero,0,[],0⟩
theorem B9f.inj (x y:ScrC) (h:B9f x=B9f y):x=y:=by
 rcases x with ⟨_,_,_,⟨_,_,_⟩,⟨_,_,⟨_,_⟩,⟨_,_⟩,⟨_,_⟩⟩,⟨⟨_,_,_,_⟩,_,_⟩,⟨_,_,_,_,_,_,_,_,_,_,_,_,_⟩,_,_,⟨_,⟨_,_,_⟩,⟨_,_,⟨_,_⟩,⟨_,_⟩,⟨_,_⟩⟩,⟨⟨_,_,_,_⟩,_,_⟩,_⟩,⟨_,⟨_,_,_⟩,⟨_,_,⟨_,_⟩,⟨_,_⟩,⟨_,_⟩⟩,⟨⟨_,_,_,_⟩,_,_⟩,_⟩,_,_,_⟩
 rcases y with ⟨_,_,_,⟨_,_,_⟩,⟨_,_,⟨_,_⟩,⟨_,_⟩,⟨_,_⟩⟩,⟨⟨_,_,_,_⟩,_,_⟩,⟨_,_,_,_,_,_,_,_,_,_,_,_,_⟩,_,_,⟨_,⟨_,_,_⟩,⟨_,_,⟨_,_⟩,⟨_,_⟩,⟨_,_⟩⟩,⟨⟨_,_,_,_⟩,_,_⟩,_⟩,⟨_,⟨_,_,_⟩,⟨_,_,⟨_,_⟩,⟨_,_⟩,⟨_,_⟩⟩,⟨⟨_,_,_,_⟩,_,_⟩,_⟩,_,_,_⟩
 simp [B5q,U7,A5i,A2c,A3i,B9f,A4q,J8,bs] at h
 simp_all
def B1 (x:ScrC) (main alt past tabs:Slc):List Value:=[.int .i64 x.cols,.int .i64 x.rows,.slice main.q main.n main.k,.slice alt.q alt.n alt.k,.bool x.onAlt,.slice past.q past.n past.k]++(A5i x.cursor++(J8 x.style++(A4q x.sets++(A2c x.modes++([.int .i64 x.top,.int .i64 x.bottom,.slice tabs.q tabs.n tabs.k]++(A3i x.kept++(A3i x.keptAlt++([.int .i64 x.shape,.string (bs x.title),.int .i64 x.last]))))))))
structure FrmC where
 cols:Int
 cursor:Plc
 visible:Bool
 shape:Int
 title:List UInt8
deriving DecidableEq
def B9t (x:FrmC):List Value:=[.int .i64 x.cols]++(G0 x.cursor++([.bool x.visible,.int .i64 x.shape,.string (bs x.title)]))
def FrmC.zero:FrmC:=⟨0,Plc.zero,false,0,[]⟩
theorem B9t.inj (x y:FrmC) (h:B9t x=B9t y):x=y:=by
 rcases x with ⟨_,⟨_,_⟩,_,_,_⟩
 rcases y with ⟨_,⟨_,_⟩,_,_,_⟩
 simp [B9t,G0,bs] at h
 simp_all
def A0 (x:FrmC) (rows:Slc):List Value:=[.int .i64 x.cols,.slice rows.q rows.n rows.k]++(G0 x.cursor++([.bool x.visible,.int .i64 x.shape,.string (bs x.title)]))
def A0r:Mod :=
 {Mod.zero with auto:=true,visible:=true}
theorem B7w (R:Mod) (hR:A0r=R):M9 Tryz.prog 77 [] [] (ag (A2c R)):=by
 refine zco Tryz.func77 [] fun X hX hr hD=>?_
 replace hR:=(A0r.eq_1 ..).symm.trans hR
 refine sr 1 rfl (K6 1 0 [] (fun b1=>[(0,pt b1 0)]) (fun b1=>[bx b1 (A2c Mod.zero) 47]) (fun b1=>?_))
 refine ie (sr 2 rfl (zrg 2 0 [0] [] [bx b1 (A2c ({Mod.zero with auto:=true,visible:=true})) 47] ?_))
 subst hR
 refine ie (B4 ?_)
 exact zer hr hD (R1 rfl (J1 (us:=A2c ({Mod.zero with auto:=true,visible:=true})) C8p rfl 0 rfl rfl rfl)) () (mk [false] rfl) fn0
def A2t (cols:Int):Nat→List Bool→Nat→(List Bool×Int)
 | 0,_,_=>([],0)
 | fu1+1,t,k=>(bif (decide ((k:Int)<cols)) then A2t cols fu1 (t.set k true) (k+8) else (t,0))
def B0r (cols:Int):List Bool×Int :=
 (bif ((decide (cols<2))||(decide ((80:Int)<cols))) then (([]:List Bool),2) else A2t cols ((cols - (8:Int)).toNat+1) (List.replicate ((cols).toNat) false) 8)
theorem B8i (cols:Int) (R:List Bool×Int) (hR:B0r cols=R):Con Tryz.prog 76 [iv cols] [] [] ({r:VR // VOk 1 R.1.length r}) (fun x=>.tuple #[.slice (va x.1.q) R.1.length x.1.k,iv R.2]) (fun x=>((vo F6 4 x.1 R.1)++([]))) (fun x=>[]):=by
 refine zco Tryz.func76 [(0,iv cols)] fun X hX hr hD=>?_
 replace hR:=(B0r.eq_1 ..).symm.trans hR
 refine sr 2 rfl (ip' 2 0 [] ?_)
 refine ie (A4 (sr 6 rfl (ip' 3 3 [(8,bv (decide (cols<2)))] ?_)))
 refine zir 3 0 8 11 (decide ((80:Int)<cols)) (fun g1 g1p=>?_) ?_
 ·refine ip' 3 0 [(11,bv (decide ((80:Int)<cols)))] ?_
  exact A6 (M7 2 8 11 g1 fn0 (mk [] rfl) rfl rfl rfl rfl rfl)
 refine ie ?_
 refine zjo rfl hR ?_ ?_<;>clear hR<;>intro hR h2 h2p
 ·refine sr 2 rfl (ip' 2 0 [(2,.slice none 0 0),(3,iv 2)] ?_)
  subst hR
  refine ie (B4 ?_)
  exact zer hr hD (S0 rfl (B5 rfl) (B5 rfl)) ⟨VR.nil,VOk.nil⟩ (mc [vo F6 4 VR.nil ([]:List Bool)] [true] rfl (by first|rfl|(simp only [List.length_set]<;>rfl))) fn0
 refine A8 (nx (sr 3 rfl (ip' 1 2 [(12,iv cols)] ?_)))
 refine it rfl (A7o (f:=F6) (l:=(cols).toNat) (c:=(cols).toNat) false C7l C7y.ok (fun _=>rfl) rfl (by exact congrArg (fun z=>some (Value.int .i64 z)) (show cols=(((cols).toNat:Nat):Int) by omega)) (by exact congrArg (fun z=>some (Value.int .i64 z)) (show cols=(((cols).toNat:Nat):Int) by omega)) (by omega) (by first|omega|(simp only [List.length_cons,List.length_nil,List.length_append,List.length_take,List.length_drop];omega)) (by omega)) fun ⟨r3,hr4⟩=>?_
 have:(List.replicate ((cols).toNat) false).length=((cols).toNat):=List.length_replicate
 have:=VOk.le hr4
 have:=VOk.cap hr4
 have:(List.replicate ((cols).toNat) false).length=((cols).toNat):=List.length_replicate
 refine ip' 1 0 [(4,.slice (va r3.q) ((List.replicate ((cols).toNat) false).length) r3.k)] ?_
 refine ie (A4 (sr 1 rfl (ip' 1 0 [(5,iv 8)] ?_)))
 refine ie (A9 ?_)
 refine B3d (fun (fu:Nat) (t:List Bool) (tr:VR) (k:Nat)=>((cols - (k:Int)).toNat<fu∧A2t cols fu t k=R∧VOk 1 t.length tr∧t.length=cols.toNat,[(0,iv cols),(4,.slice (va tr.q) t.length tr.k),(5,iv (k:Int))],((vo F6 4 tr t)++([])),[],fu)) ((cols - (8:Int)).toNat+1) (List.replicate ((cols).toNat) false) r3 8 ⟨(Nat.lt_succ_self _),hR,hr4,(by exact List.length_replicate)⟩ (mc [vo F6 4 r3 (List.replicate ((cols).toNat) false)] [true] rfl (by first|rfl|(simp only [List.length_set]<;>rfl))) fn0 ?_
 rintro fu t tr k ⟨hm5,hR,hoktr,ht⟩
 have:=VOk.le hoktr
 obtain ⟨fu1,rfl⟩:∃ m,fu=m+1:=⟨fu - 1,by omega⟩
 replace hR:=(A2t.eq_2 ..).symm.trans hR
 refine A4 (sr 3 rfl (ip' 3 0 [(16,bv (decide ((k:Int)<cols)))] ?_))
 refine ie ?_
 refine zjd rfl hR ?_ ?_<;>clear hR<;>intro hR h6 h6p
 ·refine A8 (nx (A4 (A9 (A1 4 rfl (ip' 2 2 [(19,.slice (va tr.q) t.length tr.k),(20,iv (k:Int))] ?_)))))
  obtain ⟨b7,hb8⟩:=VOk.some hoktr (by omega)
  obtain ⟨q9,k10,j11⟩:=tr
  obtain rfl:q9=some b7:=hb8
  refine ix rfl (W7 C8c rfl rfl rfl k rfl (by omega)) ?_
  refine it rfl (S8 (us:=[bv true]) (u':=true) (c:=F6) (sz:=1) ty4 (fun _=>rfl) rfl rfl rfl 0 rfl rfl rfl rfl k 0 rfl (gd false (by omega)) rfl rfl) fun _=>?_
  refine A6 (nx (A1 3 rfl (ip' 1 2 [(17,iv (k:Int))] ?_)))
  refine ix rfl (B0 rfl rfl rfl rfl (by omega)) ?_
  refine ip' 1 0 [(5,iv ((k:Int)+8))] ?_
  refine A6 ?_
  exact B3a (z1:=(fu1+1)) (z2:=t) (z3:=(⟨some b7,k10,j11⟩:VR)) (z4:=k) fu1 (t.set k true) (⟨some b7,k10,j11⟩:VR) (k+8) ⟨(by omega),hR,(VOk.cast hoktr (by simp)),(by (rw [List.length_set];exact ht))⟩ (Nat.lt_succ_self _) (mc [vo F6 4 (⟨some b7,k10,j11⟩:VR) (t.set k true)] [true] rfl (by first|rfl|(simp only [List.length_set]<;>rfl))) fn0
 refine F3 (nx (sr 3 rfl (ip' 3 0 [(2,.slice (va tr.q) t.length tr.k),(3,iv 0)] ?_)))
 subst hR
 refine ie (B4 ?_)
 exact zer hr hD (S0 rfl (B5 rfl) (B5 rfl)) ⟨tr,hoktr⟩ (mc [vo F6 4 tr t] [true] rfl (by first|rfl|(simp only [List.length_set]<;>rfl))) fn0
def A1p (s:Sty):Cel :=
 {Cel.zero with base:=32,sty:=s}
theorem B6i (s:Sty) (R:Cel) (hR:A1p s=R):M9 Tryz.prog 271 [ag (J8 s)] [] (ag (B3 R)):=by
 refine zco Tryz.func271 [(0,ag (J8 s))] fun X hX hr hD=>?_
 replace hR:=(A1p.eq_1 ..).symm.trans hR
 refine sr 2 rfl (B1l 2 0 [] (fun b1 b2=>[(1,pt b1 0),(2,pt b2 0)]) (fun b1 b2=>[bx b2 (B3 Cel.zero) 72,bx b1 (J8 s) 42]) (fun b1 b2=>?_))
 refine ie (sr 3 rfl (zrg 3 0 [1,0] [] [bx b2 (B3 ({Cel.zero with base:=32,sty:=s})) 72,bx b1 (J8 s) 42] ?_))
 subst hR
 refine ie (B4 ?_)
 exact zer hr hD (R1 rfl (J1 (us:=B3 ({Cel.zero with base:=32,sty:=s})) B1d rfl 0 rfl rfl rfl)) () (mk [false,false] rfl) fn0
def A1c (x:Int) (y:Int):Int×Int :=
 ((IntKind.u64.wrap ((IntKind.u64.wrap ((IntKind.u64.wrap ((x / 4294967296) * (y / 4294967296)))+((IntKind.u64.wrap ((IntKind.u64.wrap ((x / 4294967296) * (bOp .and .u64 y 4294967295)))+((IntKind.u64.wrap ((bOp .and .u64 x 4294967295) * (bOp .and .u64 y 4294967295))) / 4294967296))) / 4294967296)))+((IntKind.u64.wrap ((bOp .and .u64 (IntKind.u64.wrap ((IntKind.u64.wrap ((x / 4294967296) * (bOp .and .u64 y 4294967295)))+((IntKind.u64.wrap ((bOp .and .u64 x 4294967295) * (bOp .and .u64 y 4294967295))) / 4294967296))) 4294967295)+(IntKind.u64.wrap ((bOp .and .u64 x 4294967295) * (y / 4294967296))))) / 4294967296))),(IntKind.u64.wrap (x * y)))
theorem A7t (x:Int) (y:Int) (R:Int×Int) (hR:A1c x y=R):M9 Tryz.prog 368 [.int .u64 x,.int .u64 y] [] (.tuple #[.int .u64 R.1,.int .u64 R.2]):=by
 refine zco Tryz.func368 [(0,.int .u64 x),(1,.int .u64 y)] fun X hX hr hD=>?_
 replace hR:=(A1c.eq_1 ..).symm.trans hR
 refine sr 2 rfl (ip' 2 0 [] ?_)
 refine ie (sr 3 rfl (ip' 3 0 [(6,.int .u64 (bOp .and .u64 x 4294967295))] ?_))
 refine ie (sr 3 rfl (ip' 1 2 [(16,.int .u64 x)] ?_))
 refine ix rfl (Y9 (c:=x / 4294967296) rfl rfl rfl (by decide) (by simp [Int.fdiv_eq_ediv_of_nonneg,IntKind.bits])) ?_
 refine ip' 1 0 [(7,.int .u64 (x / 4294967296))] ?_
 refine ie (sr 3 rfl (ip' 3 0 [(8,.int .u64 (bOp .and .u64 y 4294967295))] ?_))
 refine ie (sr 3 rfl (ip' 1 2 [(20,.int .u64 y)] ?_))
 refine ix rfl (Y9 (c:=y / 4294967296) rfl rfl rfl (by decide) (by simp [Int.fdiv_eq_ediv_of_nonneg,IntKind.bits])) ?_
 refine ip' 1 0 [(9,.int .u64 (y / 4294967296))] ?_
 refine ie (sr 4 rfl (ip' 4 0 [(10,.int .u64 (IntKind.u64.wrap ((bOp .and .u64 x 4294967295) * (bOp .and .u64 y 4294967295))))] ?_))
 refine ie (sr 7 rfl (ip' 4 3 [(27,.int .u64 (IntKind.u64.wrap ((x / 4294967296) * (bOp .and .u64 y 4294967295)))),(28,.int .u64 (IntKind.u64.wrap ((bOp .and .u64 x 4294967295) * (bOp .and .u64 y 4294967295))))] ?_))
 refine ix rfl (Y9 (c:=(IntKind.u64.wrap ((bOp .and .u64 x 4294967295) * (bOp .and .u64 y 4294967295))) / 4294967296) rfl rfl rfl (by decide) (by simp [Int.fdiv_eq_ediv_of_nonneg,IntKind.bits])) ?_
 refine ip' 2 0 [(11,.int .u64 (IntKind.u64.wrap ((IntKind.u64.wrap ((x / 4294967296) * (bOp .and .u64 y 4294967295)))+((IntKind.u64.wrap ((bOp .and .u64 x 4294967295) * (bOp .and .u64 y 4294967295))) / 4294967296))))] ?_
 refine ie (sr 3 rfl (ip' 3 0 [(12,.int .u64 (bOp .and .u64 (IntKind.u64.wrap ((IntKind.u64.wrap ((x / 4294967296) * (bOp .and .u64 y 4294967295)))+((IntKind.u64.wrap ((bOp .and .u64 x 4294967295) * (bOp .and .u64 y 4294967295))) / 4294967296))) 4294967295))] ?_))
 refine ie (sr 3 rfl (ip' 1 2 [(33,.int .u64 (IntKind.u64.wrap ((IntKind.u64.wrap ((x / 4294967296) * (bOp .and .u64 y 4294967295)))+((IntKind.u64.wrap ((bOp .and .u64 x 4294967295) * (bOp .and .u64 y 4294967295))) / 4294967296))))] ?_))
 refine ix rfl (Y9 (c:=(IntKind.u64.wrap ((IntKind.u64.wrap ((x / 4294967296) * (bOp .and .u64 y 4294967295)))+((IntKind.u64.wrap ((bOp .and .u64 x 4294967295) * (bOp .and .u64 y 4294967295))) / 4294967296))) / 4294967296) rfl rfl rfl (by decide) (by simp [Int.fdiv_eq_ediv_of_nonneg,IntKind.bits])) ?_
 refine ip' 1 0 [(13,.int .u64 ((IntKind.u64.wrap ((IntKind.u64.wrap ((x / 4294967296) * (bOp .and .u64 y 4294967295)))+((IntKind.u64.wrap ((bOp .and .u64 x 4294967295) * (bOp .and .u64 y 4294967295))) / 4294967296))) / 4294967296))] ?_
 refine ie (sr 6 rfl (ip' 6 0 [(12,.int .u64 (IntKind.u64.wrap ((bOp .and .u64 (IntKind.u64.wrap ((IntKind.u64.wrap ((x / 4294967296) * (bOp .and .u64 y 4294967295)))+((IntKind.u64.wrap ((bOp .and .u64 x 4294967295) * (bOp .and .u64 y 4294967295))) / 4294967296))) 4294967295)+(IntKind.u64.wrap ((bOp .and .u64 x 4294967295) * (y / 4294967296))))))] ?_))
 refine ie (sr 9 rfl (ip' 6 3 [(44,.int .u64 (IntKind.u64.wrap ((IntKind.u64.wrap ((x / 4294967296) * (y / 4294967296)))+((IntKind.u64.wrap ((IntKind.u64.wrap ((x / 4294967296) * (bOp .and .u64 y 4294967295)))+((IntKind.u64.wrap ((bOp .and .u64 x 4294967295) * (bOp .and .u64 y 4294967295))) / 4294967296))) / 4294967296)))),(45,.int .u64 (IntKind.u64.wrap ((bOp .and .u64 (IntKind.u64.wrap ((IntKind.u64.wrap ((x / 4294967296) * (bOp .and .u64 y 4294967295)))+((IntKind.u64.wrap ((bOp .and .u64 x 4294967295) * (bOp .and .u64 y 4294967295))) / 4294967296))) 4294967295)+(IntKind.u64.wrap ((bOp .and .u64 x 4294967295) * (y / 4294967296))))))] ?_))
 refine ix rfl (Y9 (c:=(IntKind.u64.wrap ((bOp .and .u64 (IntKind.u64.wrap ((IntKind.u64.wrap ((x / 4294967296) * (bOp .and .u64 y 4294967295)))+((IntKind.u64.wrap ((bOp .and .u64 x 4294967295) * (bOp .and .u64 y 4294967295))) / 4294967296))) 4294967295)+(IntKind.u64.wrap ((bOp .and .u64 x 4294967295) * (y / 4294967296))))) / 4294967296) rfl rfl rfl (by decide) (by simp [Int.fdiv_eq_ediv_of_nonneg,IntKind.bits])) ?_
 refine ip' 2 0 [(4,.int .u64 (IntKind.u64.wrap ((IntKind.u64.wrap ((IntKind.u64.wrap ((x / 4294967296) * (y / 4294967296)))+((IntKind.u64.wrap ((IntKind.u64.wrap ((x / 4294967296) * (bOp .and .u64 y 4294967295)))+((IntKind.u64.wrap ((bOp .and .u64 x 4294967295) * (bOp .and .u64 y 4294967295))) / 4294967296))) / 4294967296)))+((IntKind.u64.wrap ((bOp .and .u64 (IntKind.u64.wrap ((IntKind.u64.wrap ((x / 4294967296) * (bOp .and .u64 y 4294967295)))+((IntKind.u64.wrap ((bOp .and .u64 x 4294967295) * (bOp .and .u64 y 4294967295))) / 4294967296))) 4294967295)+(IntKind.u64.wrap ((bOp .and .u64 x 4294967295) * (y / 4294967296))))) / 4294967296))))] ?_
 refine ie (sr 4 rfl (ip' 4 0 [(5,.int .u64 (IntKind.u64.wrap (x * y)))] ?_))
 subst hR
 refine ie (B4 ?_)
 exact B4c hr hD
def V9 (x:Int) (y:Int):Int×Int :=
 (H3 (A1c x y) fun (y2:Int×Int)=>(y2.1,y2.2))
theorem wr6 {x:Int} (h:-1000000≤x∧x≤1000000):IntKind.i64.wrap x=x:=A3n (by show (-9223372036854775808:Int)≤_;omega) (by show _≤(9223372036854775807:Int);omega)
theorem C1t:∀ c<81,V9 1 ((c:Nat):Int)=(0,((c:Nat):Int)):=by decide +kernel
theorem C3k (n:Nat) (c:Int) (hn:n=1) (hc:1≤c∧c≤80):V9 (IntKind.u64.wrap (n:Int)) (IntKind.u64.wrap c)=(0,c):=by
 obtain ⟨m,rfl⟩:∃ m:Nat,c=m:=⟨c.toNat,by omega⟩
 subst hn
 rw [A3n (k:=.u64) (by show (0:Int)≤_;omega) (by show _≤(18446744073709551615:Int);omega),A3n (k:=.u64) (by show (0:Int)≤_;omega) (by show _≤(18446744073709551615:Int);omega)]
 exact C1t m (by omega)
theorem B0d (x:Int) (y:Int) (R:Int×Int) (hR:V9 x y=R):M9 Tryz.prog 320 [.int .u64 x,.int .u64 y] [] (.tuple #[.int .u64 R.1,.int .u64 R.2]):=by
 refine zco Tryz.func320 [(0,.int .u64 x),(1,.int .u64 y)] fun X hX hr hD=>?_
 replace hR:=(V9.eq_1 ..).symm.trans hR
 refine sr 2 rfl (ip' 2 0 [] ?_)
 refine ie (A4 (V5 rfl (A8 (nx (sr 8 rfl (ip' 2 6 [(23,.int .u64 x),(24,.int .u64 y)] ?_))))))
 have hQ:=I2 hR;clear hR;obtain ⟨y2,hy2,hR⟩:=hQ
 refine zca (A7t x y y2 hy2) fn0 ?_
 refine ip' 5 0 [(8,.int .u64 y2.1),(9,.int .u64 y2.2)] ?_
 refine ie (sr 4 rfl (ip' 4 0 [(4,.int .u64 y2.1),(5,.int .u64 y2.2)] ?_))
 subst hR
 refine ie (B4 ?_)
 exact B4c hr hD
def J2:Nat→List Cel→Nat→List Cel
 | 0,_,_=>[]
 | fu1+1,newslice,n=>(bif (decide ((n:Int)<(newslice.length:Int))) then J2 fu1 (newslice.take n++(newslice.take (min n (newslice.length - n):Nat)++newslice.drop (n+(min n (newslice.length - n):Nat)))) (n+(min n (newslice.length - n):Nat)) else newslice)
def M8 (x:List Cel) (count:Int):List Cel :=
 (H3 (V9 (IntKind.u64.wrap (x.length:Int)) (IntKind.u64.wrap count)) fun (y0:Int×Int)=>J2 (((x.take (List.replicate ((IntKind.i64.wrap y0.2).toNat) Cel.zero).length++(List.replicate ((IntKind.i64.wrap y0.2).toNat) Cel.zero).drop x.length).length - (min x.length (List.replicate ((IntKind.i64.wrap y0.2).toNat) Cel.zero).length:Nat))+1) (x.take (List.replicate ((IntKind.i64.wrap y0.2).toNat) Cel.zero).length++(List.replicate ((IntKind.i64.wrap y0.2).toNat) Cel.zero).drop x.length) (min x.length (List.replicate ((IntKind.i64.wrap y0.2).toNat) Cel.zero).length:Nat))
theorem X7 (x:List Cel) (count:Int) (xq:Option Addr) (xk:Nat) (hlx:x.length≤9223372036854775807) (hcx:x.length≤xk) (hcn:1≤count∧count≤80) (hx1:x.length=1) (R:List Cel) (hR:M8 x count=R):Con Tryz.prog 270 [.slice xq x.length xk,iv count] [] [sl B3 xq x] ({r:VR // VOk 12 R.length r}) (fun x=>.slice (va x.1.q) R.length x.1.k) (fun x=>((vo B3 72 x.1 R)++([]))) (fun x=>[]):=by
 refine zco Tryz.func270 [(0,.slice xq x.length xk),(1,iv count)] fun X hX hr hD=>?_
 replace hR:=(M8.eq_1 ..).symm.trans hR
 refine sr 1 rfl (ip' 1 0 [] ?_)
 refine ie (A4 (sr 2 rfl (ip' 2 0 [(10,bv (decide (count<0)))] ?_)))
 refine ie (R3 rfl (fun h1=>?_) (fun h1=>?_))
 ·have h1p:count<0:=by simpa using h1
  exfalso;omega
 have h1p:¬ (count<0):=by simpa using h1
 refine A8 (nx (sr 11 rfl (ip' 5 6 [(15,.int .u64 (IntKind.u64.wrap (x.length:Int))),(17,.int .u64 (IntKind.u64.wrap count))] ?_)))
 have hQ:=I2 hR;clear hR;obtain ⟨y0,hy0,hR⟩:=hQ
 refine zca (B0d (IntKind.u64.wrap (x.length:Int)) (IntKind.u64.wrap count) y0 hy0) fn0 ?_
 have:=C3k x.length count hx1 hcn;try rw [hy0] at this
 have hm1:y0.1=0:=by rw [this]
 have hm2:IntKind.i64.wrap y0.2=count:=by rw [this];exact wr6 (by show -1000000≤count∧count≤1000000;omega)
 have hm3:y0.2=count:=by rw [this]
 refine ip' 5 0 [(5,.int .u64 y0.1),(6,.int .u64 y0.2)] ?_
 refine ie (A4 (sr 6 rfl (ip' 3 3 [(23,bv (decide ((0:Int)<y0.1)))] ?_)))
 refine zir 3 0 23 26 (decide ((9223372036854775807:Int)<y0.2)) (fun g2 g2p=>?_) ?_
 ·refine ip' 3 0 [(26,bv (decide ((9223372036854775807:Int)<y0.2)))] ?_
  exact zai 2 23 26 g2
 refine ie (R3 rfl (fun h3=>?_) (fun h3=>?_))
 ·have h3p:((0:Int)<y0.1)∨((9223372036854775807:Int)<y0.2):=by simpa using h3
  exfalso;simp only [Bool.or_eq_true,decide_eq_true_eq] at h3;omega
 have h3p:¬ (((0:Int)<y0.1)∨((9223372036854775807:Int)<y0.2)):=by simpa using h3
 refine A8 (nx (sr 4 rfl (ip' 2 2 [(29,iv (IntKind.i64.wrap y0.2))] ?_)))
 refine it rfl (A7o (f:=B3) (l:=(IntKind.i64.wrap y0.2).toNat) (c:=(IntKind.i64.wrap y0.2).toNat) Cel.zero B8p C4w.ok (fun _=>rfl) rfl (by exact congrArg (fun z=>some (Value.int .i64 z)) (show (IntKind.i64.wrap y0.2)=(((IntKind.i64.wrap y0.2).toNat:Nat):Int) by omega)) (by exact congrArg (fun z=>some (Value.int .i64 z)) (show (IntKind.i64.wrap y0.2)=(((IntKind.i64.wrap y0.2).toNat:Nat):Int) by omega)) (by omega) (by first|omega|(simp only [List.length_cons,List.length_nil,List.length_append,List.length_take,List.length_drop];omega)) (by omega)) fun ⟨r4,hr5⟩=>?_
 have:(List.replicate ((IntKind.i64.wrap y0.2).toNat) Cel.zero).length=((IntKind.i64.wrap y0.2).toNat):=List.length_replicate
 have:=VOk.le hr5
 have:=VOk.cap hr5
 have:(List.replicate ((IntKind.i64.wrap y0.2).toNat) Cel.zero).length=((IntKind.i64.wrap y0.2).toNat):=List.length_replicate
 refine ip' 1 0 [(7,.slice (va r4.q) ((List.replicate ((IntKind.i64.wrap y0.2).toNat) Cel.zero).length) r4.k)] ?_
 refine ie (sr 4 rfl (ip' 2 2 [(31,.slice (va r4.q) ((List.replicate ((IntKind.i64.wrap y0.2).toNat) Cel.zero).length) r4.k),(32,.slice xq x.length xk)] ?_))
 have hok6:VOk 12 (x.take (List.replicate ((IntKind.i64.wrap y0.2).toNat) Cel.zero).length++(List.replicate ((IntKind.i64.wrap y0.2).toNat) Cel.zero).drop x.length).length r4:=by rw [show (x.take (List.replicate ((IntKind.i64.wrap y0.2).toNat) Cel.zero).length++(List.replicate ((IntKind.i64.wrap y0.2).toNat) Cel.zero).drop x.length).length=(List.replicate ((IntKind.i64.wrap y0.2).toNat) Cel.zero).length by simp only [List.length_append,List.length_take,List.length_drop];omega];exact hr5
 refine it rfl (B9x (f:=B3) (r:=r4) (xs:=(List.replicate ((IntKind.i64.wrap y0.2).toNat) Cel.zero)) (ys:=x) (pre:=[]) (post:=[]) Q8 (fun _=>rfl) (fun _=>rfl) rfl rfl rfl rfl rfl rfl rfl rfl (B9 0 rfl) hr5) fun _=>?_
 refine ip' 1 0 [(8,iv ((min x.length (List.replicate ((IntKind.i64.wrap y0.2).toNat) Cel.zero).length:Nat):Int))] ?_
 refine ie (A4 (A9 ?_))
 refine B3d (fun (fu:Nat) (newslice:List Cel) (newslicer:VR) (n:Nat)=>((newslice.length - n)<fu∧J2 fu newslice n=R∧VOk 12 newslice.length newslicer∧(newslice.length=count.toNat∧1≤n),[(7,.slice (va newslicer.q) newslice.length newslicer.k),(8,iv (n:Int))],((vo B3 72 newslicer newslice)++([])),[sl B3 xq x],fu)) (((x.take (List.replicate ((IntKind.i64.wrap y0.2).toNat) Cel.zero).length++(List.replicate ((IntKind.i64.wrap y0.2).toNat) Cel.zero).drop x.length).length - (min x.length (List.replicate ((IntKind.i64.wrap y0.2).toNat) Cel.zero).length:Nat))+1) (x.take (List.replicate ((IntKind.i64.wrap y0.2).toNat) Cel.zero).length++(List.replicate ((IntKind.i64.wrap y0.2).toNat) Cel.zero).drop x.length) r4 (min x.length (List.replicate ((IntKind.i64.wrap y0.2).toNat) Cel.zero).length:Nat) ⟨(Nat.lt_succ_self _),hR,hok6,(by (constructor<;>first|omega|(simp only [List.length_append,List.length_take,List.length_drop,List.length_replicate]<;>omega)))⟩ (mc [vo B3 72 r4 (x.take (List.replicate ((IntKind.i64.wrap y0.2).toNat) Cel.zero).length++(List.replicate ((IntKind.i64.wrap y0.2).toNat) Cel.zero).drop x.length)] [true] rfl (by first|rfl|(simp only [List.length_set]<;>rfl))) A5.refl (hE:=⟨(show some (Value.slice (va r4.q) ((List.replicate ((IntKind.i64.wrap y0.2).toNat) Cel.zero).length) r4.k)=some (Value.slice (va r4.q) ((x.take (List.replicate ((IntKind.i64.wrap y0.2).toNat) Cel.zero).length++(List.replicate ((IntKind.i64.wrap y0.2).toNat) Cel.zero).drop x.length).length) r4.k) from congrArg (fun z=>some (Value.slice (va r4.q) z r4.k)) (show (List.replicate ((IntKind.i64.wrap y0.2).toNat) Cel.zero).length=(x.take (List.replicate ((IntKind.i64.wrap y0.2).toNat) Cel.zero).length++(List.replicate ((IntKind.i64.wrap y0.2).toNat) Cel.zero).drop x.length).length by first|rfl|omega|(simp only [List.length_append,List.length_take,List.length_drop,List.length_replicate,List.length_set];omega))),(by first|rfl|exact congrArg (fun z=>some (Value.slice _ z _)) (by first|omega|(simp only [List.length_append,List.length_take,List.length_drop,List.length_replicate];omega))),trivial⟩) ?_
 rintro fu newslice newslicer n ⟨hm7,hR,hoknewslicer,hn⟩
 have:=VOk.le hoknewslicer
 obtain ⟨fu1,rfl⟩:∃ m,fu=m+1:=⟨fu - 1,by omega⟩
 replace hR:=(J2.eq_2 ..).symm.trans hR
 refine A4 (sr 4 rfl (ip' 4 0 [(37,bv (decide ((n:Int)<(newslice.length:Int))))] ?_))
 refine ie ?_
 refine zjd rfl hR ?_ ?_<;>clear hR<;>intro hR h8 h8p
 ·refine A8 (nx (A9 ?_))
  refine sh' 10 [(7,vo B3 72 newslicer newslice)] [sl B3 xq x] ((vo B3 72 newslicer newslice)++([])) (zml 10 0) (by kernel_rfl) rfl (by kernel_rfl) (by kernel_rfl) (by kernel_rfl) (mc [vo B3 72 newslicer newslice] [true] rfl (by first|rfl|(simp only [List.length_set]<;>rfl))) A5.refl ?_
  refine zhp [0,1,2,4,5] 5 (zml 10 55) [(38,iv (n:Int)),(39,.slice (va newslicer.q) newslice.length newslicer.k),(40,iv (n:Int)),(42,.slice (va newslicer.q) newslice.length newslicer.k),(43,iv (n:Int))] ?_
  have:=VOk.cap hoknewslicer
  refine zhk 3 (zml 10 63) rfl (A2k (n':=(newslice.length - n)) Q8 rfl rfl n newslice.length newslicer.k (Q3 rfl rfl) S4 S4 (by omega) (by omega) (Nat.le_refl _) rfl rfl) ?_
  have:=VOk.cap hoknewslicer
  refine zhk 6 (zml 10 127) rfl (A4x (n':=n) Q8 rfl rfl n newslicer.k (Q3 rfl rfl) S4 (by omega) (Nat.le_refl _) rfl rfl) ?_
  have hok9:VOk 12 (newslice.take n++(newslice.take (min n (newslice.length - n):Nat)++newslice.drop (n+(min n (newslice.length - n):Nat)))).length newslicer:=by rw [show (newslice.take n++(newslice.take (min n (newslice.length - n):Nat)++newslice.drop (n+(min n (newslice.length - n):Nat)))).length=newslice.length by simp only [List.length_append,List.length_take,List.length_drop];omega];exact hoknewslicer
  refine zho 7 [] (zml 10 255) rfl (C0f (f:=B3) (r:=newslicer) (xs:=newslice) (l:=n) (h:=n) (pre:=[]) (post:=[]) Q8 (fun _=>rfl) (fun _=>rfl) rfl rfl rfl rfl rfl rfl rfl hoknewslicer (by omega) (by omega)) (fun _=>(List.nil_sublist _)) (fun _=>A5.refl) fun _=>?_
  refine zhk 8 (zml 10 511) rfl (B0 rfl rfl rfl rfl (by omega)) ?_
  refine zhp [9] 0 (zml 10 1023) [(8,iv ((n:Int)+((min n (newslice.length - n):Nat):Int)))] ?_
  refine B0n (by kernel_rfl) ?_
  exact B3a (z1:=(fu1+1)) (z2:=newslice) (z3:=newslicer) (z4:=n) fu1 (newslice.take n++(newslice.take (min n (newslice.length - n):Nat)++newslice.drop (n+(min n (newslice.length - n):Nat)))) newslicer (n+(min n (newslice.length - n):Nat)) ⟨(by simp only [List.length_append,List.length_take,List.length_drop,List.length_replicate];omega),hR,hok9,(by (constructor<;>first|omega|(simp only [List.length_append,List.length_take,List.length_drop,List.length_replicate]<;>omega)))⟩ (Nat.lt_succ_self _) (mc [vo B3 72 newslicer (newslice.take n++(newslice.take (min n (newslice.length - n):Nat)++newslice.drop (n+(min n (newslice.length - n):Nat))))] [true] rfl (by first|rfl|(simp only [List.length_set]<;>rfl))) A5.refl (hE:=⟨(show some (Value.slice (va newslicer.q) newslice.length newslicer.k)=some (Value.slice (va newslicer.q) ((newslice.take n++(newslice.take (min n (newslice.length - n):Nat)++newslice.drop (n+(min n (newslice.length - n):Nat)))).length) newslicer.k) from congrArg (fun z=>some (Value.slice (va newslicer.q) z newslicer.k)) (show newslice.length=(newslice.take n++(newslice.take (min n (newslice.length - n):Nat)++newslice.drop (n+(min n (newslice.length - n):Nat)))).length by first|rfl|omega|(simp only [List.length_append,List.length_take,List.length_drop,List.length_replicate,List.length_set];omega))),(show some (iv ((n:Int)+((min n (newslice.length - n):Nat):Int)))=some (iv ((n+(min n (newslice.length - n):Nat)):Int)) by first|rfl|exact congrArg (fun z=>some (Value.int .i64 z)) (by first|rfl|omega|(simp only [List.length_append,List.length_take,List.length_drop,List.length_replicate,List.length_set];omega))),trivial⟩)
 refine F3 (nx (sr 2 rfl (ip' 2 0 [(4,.slice (va newslicer.q) newslice.length newslicer.k)] ?_)))
 subst hR
 refine ie (B4 ?_)
 exact zer hr hD (R1 rfl (B5 rfl)) ⟨newslicer,hoknewslicer⟩ (mc [vo B3 72 newslicer newslice] [true] rfl (by first|rfl|(simp only [List.length_set]<;>rfl))) fn0
def B5l (cols:Int) (s:Sty):List Cel×Bool×Int :=
 (bif ((decide (cols<2))||(decide ((80:Int)<cols))) then (([]:List Cel),false,2) else (bif (!decide ((D4 s)=0)) then (([]:List Cel),false,(D4 s)) else (H3 (M8 ([(A1p s)]:List Cel) cols) fun (y1:List Cel)=>(y1,false,0))))
theorem C0t (cols:Int) (s:Sty) (R:List Cel×Bool×Int) (hR:B5l cols s=R):Con Tryz.prog 200 [iv cols,ag (J8 s)] [] [] ({r:VR // VOk 12 R.1.length r}) (fun x=>.tuple #[ag [.slice (va x.1.q) R.1.length x.1.k,bv R.2.1],iv R.2.2]) (fun x=>((vo B3 72 x.1 R.1)++([]))) (fun x=>[]):=by
 refine zco Tryz.func200 [(0,iv cols),(1,ag (J8 s))] fun X hX hr hD=>?_
 replace hR:=(B5l.eq_1 ..).symm.trans hR
 refine sr 3 rfl (B1l 3 0 [] (fun b1 b2=>[(3,pt b1 0),(4,pt b2 0)]) (fun b1 b2=>[bx b2 [.slice none 0 0,bv false] 78,bx b1 (J8 s) 42]) (fun b1 b2=>?_))
 refine ie (A4 (sr 6 rfl (ip' 3 3 [(9,bv (decide (cols<2)))] ?_)))
 refine zir 3 0 9 12 (decide ((80:Int)<cols)) (fun g3 g3p=>?_) ?_
 ·refine ip' 3 0 [(12,bv (decide ((80:Int)<cols)))] ?_
  exact A6 (M7 2 9 12 g3 fn0 (mk [true,true] rfl) rfl rfl rfl rfl rfl)
 refine ie ?_
 refine zjo rfl hR ?_ ?_<;>clear hR<;>intro hR h4 h4p
 ·refine sr 3 rfl (zrg 3 0 [0] [(5,iv 2)] [bx b2 [.slice none 0 0,bv false] 78,bx b1 (J8 s) 42] ?_)
  subst hR
  refine ie (B4 ?_)
  exact zer hr hD (S0 rfl (J1 (us:=[.slice none 0 0,bv false]) C0j rfl 0 rfl rfl rfl) (B5 rfl)) ⟨VR.nil,VOk.nil⟩ (mc [[bx b2 [.slice none 0 0,bv false] 78],[bx b1 (J8 s) 42],vo B3 72 VR.nil ([]:List Cel)] [false,false,true] rfl (by first|rfl|(simp only [List.length_set]<;>rfl))) fn0
 refine A8 (nx (A4 (sr 3 rfl (zrl 1 2 [1] [(14,ag (J8 s))] ?_))))
 refine zca (V8 s _ rfl) fn0 ?_
 refine ip' 1 0 [(6,iv (D4 s))] ?_
 refine ie (sr 2 rfl (ip' 2 0 [(17,bv (!decide ((D4 s)=0)))] ?_))
 refine ie ?_
 refine zjn rfl hR ?_ ?_<;>clear hR<;>intro hR h5 h5p
 ·refine sr 4 rfl (zrg 4 0 [0] [(5,iv (D4 s))] [bx b2 [.slice none 0 0,bv false] 78,bx b1 (J8 s) 42] ?_)
  subst hR
  refine ie (B4 ?_)
  exact zer hr hD (S0 rfl (J1 (us:=[.slice none 0 0,bv false]) C0j rfl 0 rfl rfl rfl) (B5 rfl)) ⟨VR.nil,VOk.nil⟩ (mc [[bx b2 [.slice none 0 0,bv false] 78],[bx b1 (J8 s) 42],vo B3 72 VR.nil ([]:List Cel)] [false,false,true] rfl (by first|rfl|(simp only [List.length_set]<;>rfl))) fn0
 refine A8 (nx (sr 8 rfl (zrl 1 7 [1] [(20,ag (J8 s))] ?_)))
 refine zca (B6i s _ rfl) fn0 ?_
 refine it rfl (F9 (c:=B3) (xs:=([(A1p s)]:List Cel)) Q8 rfl rfl rfl (by kernel_rfl)) fun b6=>?_
 have:([(A1p s)]:List Cel).length=1:=rfl
 refine ip' 1 4 [(23,iv cols)] ?_
 have hQ:=I2 hR;clear hR;obtain ⟨y1,hy1,hR⟩:=hQ
 refine it rfl (H2 (L2:=[bx b2 [.slice none 0 0,bv false] 78,bx b1 (J8 s) 42]) (X7 ([(A1p s)]:List Cel) cols (some ⟨b6,0,none⟩) 1 (by first|omega|(simp only [List.length_take,List.length_drop,List.length_append,List.length_cons,List.length_nil,List.length_set,List.length_map];omega)|decide) (by first|omega|(simp only [List.length_take,List.length_drop,List.length_append,List.length_cons,List.length_nil,List.length_set,List.length_map];omega)|decide) (by omega) (by first|rfl|omega) y1 hy1) rfl rfl rfl rfl rfl A5.refl (List.Perm.refl _) (fun ⟨r7,hk8⟩=>(bx b2 [.slice none 0 0,bv false] 78::bx b1 (J8 s) 42::(vo B3 72 r7 y1)++([]))) (fun ⟨r7,hk8⟩=>H0 [vo B3 72 r7 y1,[bx b2 [.slice none 0 0,bv false] 78],[bx b1 (J8 s) 42]] [1,2,0] 3 rfl (by decide) (by first|rfl|simp only [List.flatten_cons,List.flatten_nil,List.append_nil,List.cons_append,List.nil_append,List.append_assoc]) [[bx b2 [.slice none 0 0,bv false] 78],[bx b1 (J8 s) 42],vo B3 72 r7 y1] rfl (by first|rfl|simp only [List.flatten_cons,List.flatten_nil,List.append_nil,List.cons_append,List.nil_append,List.append_assoc]))) fun ⟨r7,hk8⟩=>?_
 have:=VOk.le hk8
 have:=VOk.cap hk8
 refine zrg 3 0 [0] [(5,iv 0)] (bx b2 [.slice (va r7.q) y1.length r7.k,bv false] 78::bx b1 (J8 s) 42::(vo B3 72 r7 y1)++([])) ?_
 subst hR
 refine ie (B4 ?_)
 exact zer hr hD (S0 rfl (J1 (us:=[.slice (va r7.q) y1.length r7.k,bv false]) C0j rfl 0 rfl rfl rfl) (B5 rfl)) ⟨r7,hk8⟩ (mc [[bx b2 [.slice (va r7.q) y1.length r7.k,bv false] 78],[bx b1 (J8 s) 42],vo B3 72 r7 y1] [false,false,true] rfl (by first|rfl|(simp only [List.length_set]<;>rfl))) fn0
end Go.Proofs.YthcjfkljekdioaaGreatDoor
set_option linter.unusedVariables false
set_option linter.unusedSimpArgs false
set_option linter.unnecessarySimpa false
set_option maxRecDepth 100000
namespace Go.Proofs.YthcjfkljekdioaaGreatDoor
open Go Go.Fen
theorem C4o:ApTy Tryz.prog 36 78 2 32:=⟨by kernel_rfl,by kernel_rfl,rfl⟩
theorem B3i:SlTy Tryz.prog 36 78 2:=⟨by kernel_rfl,by kernel_rfl⟩
theorem B1o:Ty Tryz.prog 52 80 true:=⟨by kernel_rfl⟩
theorem C6a:Zero Tryz.prog 78 [.slice none 0 0,bv false]:=⟨by kernel_rfl⟩
def O9 (wide:Int) (s:Sty):List (Rwc Cel)→List (Rwc Cel)→Nat→List (Rwc Cel)
 | [],l,t13=>l
 | hd_l0::tl_l0,l,t13=>(H3 (B5l wide s) fun (y0:List Cel×Bool×Int)=>O9 wide s tl_l0 (l.set t13 (⟨y0.1,y0.2.1⟩:Rwc Cel)) (t13+1))
def A0u (wide:Int) (many:Int) (s:Sty):List (Rwc Cel) :=
 O9 wide s (List.replicate ((many).toNat) (zwc:Rwc Cel)) (List.replicate ((many).toNat) (zwc:Rwc Cel)) 0
theorem B2q (wide:Int) (many:Int) (s:Sty) (hmn:1≤many∧many≤40) (hwd:2≤wide∧wide≤80) (R:List (Rwc Cel)) (hR:A0u wide many s=R):Con Tryz.prog 132 [iv wide,iv many,ag (J8 s)] [] [] ({t:VR×List Rwq // VOk 2 R.length t.1∧E6 t.2 R}) (fun x=>.slice (va x.1.1.q) R.length x.1.1.k) (fun x=>((vo C4 78 x.1.1 x.1.2)++([]))) (fun x=>[D9 B3 x.1.2 R]):=by
 refine zco Tryz.func132 [(0,iv wide),(1,iv many),(2,ag (J8 s))] fun X hX hr hD=>?_
 replace hR:=(A0u.eq_1 ..).symm.trans hR
 refine sr 2 rfl (K6 2 0 [] (fun b1=>[(5,pt b1 0)]) (fun b1=>[bx b1 (J8 s) 42]) (fun b1=>?_))
 refine ie (sr 3 rfl (ip' 1 2 [(9,iv many)] ?_))
 refine G5 (q:=D9 B3 (List.replicate ((many).toNat) zwq) (List.replicate ((many).toNat) (zwc:Rwc Cel))) C7b ?_
 refine it rfl (B9w (α:=Cel) (l:=(many).toNat) (cc:=(many).toNat) C4o C6a.ok rfl (by exact congrArg (fun z=>some (Value.int .i64 z)) (show many=(((many).toNat:Nat):Int) by omega)) (by exact congrArg (fun z=>some (Value.int .i64 z)) (show many=(((many).toNat:Nat):Int) by omega)) (by omega) (by first|omega|(simp only [List.length_cons,List.length_nil,List.length_append,List.length_take,List.length_drop];omega)) (by omega)) fun ⟨r2,hr3⟩=>?_
 have:(List.replicate ((many).toNat) zwq).length=((many).toNat):=List.length_replicate
 have:=VOk.le hr3
 have:=VOk.cap hr3
 have:(List.replicate ((many).toNat) (zwc:Rwc Cel)).length=(many).toNat:=List.length_replicate
 refine ip' 1 0 [(7,.slice (va r2.q) ((List.replicate ((many).toNat) (zwc:Rwc Cel)).length) r2.k)] ?_
 refine ie (A4 (sr 3 rfl (ip' 3 0 [(12,iv ((List.replicate ((many).toNat) (zwc:Rwc Cel)).length:Int)),(13,iv 0)] ?_)))
 refine ie (A9 ?_)
 refine B3d (fun (l:List (Rwc Cel)) (lr:VR) (lrs:List Rwq) (t13:Nat)=>(t13≤(List.replicate ((many).toNat) (zwc:Rwc Cel)).length∧O9 wide s ((List.replicate ((many).toNat) (zwc:Rwc Cel)).drop t13) l t13=R∧VOk 2 l.length lr∧E6 lrs l∧l.length=many.toNat,[(0,iv wide),(5,pt b1 0),(7,.slice (va lr.q) l.length lr.k),(12,iv ((List.replicate ((many).toNat) (zwc:Rwc Cel)).length:Int)),(13,iv (t13:Int))],(bx b1 (J8 s) 42::(vo C4 78 lr lrs)++([])),[D9 B3 (List.replicate ((many).toNat) zwq) (List.replicate ((many).toNat) (zwc:Rwc Cel)),D9 B3 lrs l],(List.replicate ((many).toNat) (zwc:Rwc Cel)).length - t13)) (List.replicate ((many).toNat) (zwc:Rwc Cel)) r2 (List.replicate ((many).toNat) zwq) 0 ⟨(by omega),hR,hr3,(E6.rep ((many).toNat)),(by exact List.length_replicate)⟩ (mc [[bx b1 (J8 s) 42],vo C4 78 r2 (List.replicate ((many).toNat) zwq)] [true,true] rfl (by first|rfl|(simp only [List.length_set]<;>rfl))) (A5.pick [0,0] rfl) ?_
 rintro l lr lrs t13 ⟨hm4,hR,hoklr,hrowslrs,hll⟩
 have:=VOk.le hoklr
 have:=hrowslrs.1
 have:(List.replicate (many.toNat) (zwc:Rwc Cel)).length=many.toNat:=List.length_replicate
 have:=hrowslrs.1
 refine sr 1 rfl (ip' 1 0 [(14,bv (decide ((t13:Int)<((List.replicate ((many).toNat) (zwc:Rwc Cel)).length:Int))))] ?_)
 refine ie (A4 (R3 rfl (fun h5=>?_) (fun h5=>?_)))
 ·have h5p:(t13:Int)<((List.replicate ((many).toNat) (zwc:Rwc Cel)).length:Int):=by simpa using h5
  rw [R9 zwc (show t13<(List.replicate ((many).toNat) (zwc:Rwc Cel)).length by omega)] at hR;replace hR:=(O9.eq_2 ..).symm.trans hR
  refine A8 (nx (A4 (A9 (sr 2 rfl (ip' 2 0 [(8,iv (t13:Int))] ?_)))))
  refine ie (A1 10 rfl (zrl 4 6 [0] [(17,.slice (va lr.q) l.length lr.k),(18,iv (t13:Int)),(19,iv wide),(20,ag (J8 s))] ?_))
  have hQ:=I2 hR;clear hR;obtain ⟨y0,hy0,hR⟩:=hQ
  refine it rfl (H2 (L2:=(bx b1 (J8 s) 42::(vo C4 78 lr lrs)++([]))) (C0t wide s y0 hy0) rfl rfl rfl rfl rfl fn0 (List.Perm.refl _) (fun ⟨r6,hk7⟩=>(bx b1 (J8 s) 42::(vo B3 72 r6 y0.1)++((vo C4 78 lr lrs)++([])))) (fun ⟨r6,hk7⟩=>H0 [vo B3 72 r6 y0.1,[bx b1 (J8 s) 42],vo C4 78 lr lrs] [1,0,2] 3 rfl (by decide) (by first|rfl|simp only [List.flatten_cons,List.flatten_nil,List.append_nil,List.cons_append,List.nil_append,List.append_assoc]) [[bx b1 (J8 s) 42],vo B3 72 r6 y0.1,vo C4 78 lr lrs] rfl (by first|rfl|simp only [List.flatten_cons,List.flatten_nil,List.append_nil,List.cons_append,List.nil_append,List.append_assoc]))) fun ⟨r6,hk7⟩=>?_
  have:=VOk.le hk7
  have:=VOk.cap hk7
  refine ip' 3 2 [(22,ag [.slice (va r6.q) y0.1.length r6.k,bv y0.2.1])] ?_
  obtain ⟨b8,hb9⟩:=VOk.some hoklr (by omega)
  obtain ⟨q10,k11,j12⟩:=lr
  obtain rfl:q10=some b8:=hb9
  refine G5 (C0y (k:=t13) hrowslrs 1 rfl (by have:=hrowslrs.1;omega)) ?_
  have:=B6t hrowslrs (k:=t13) (by have:=hrowslrs.1;omega)
  refine ix rfl (W7 B3i rfl rfl rfl t13 rfl (by have:=hrowslrs.1;omega)) ?_
  have:=VOk.cap hk7
  have:=VOk.le hk7
  refine P1 [bx b1 (J8 s) 42] ((vo C4 78 (⟨some b8,k11,j12⟩:VR) lrs)++([])) (T:=72) (c:=B3) (r:=r6) (xs:=y0.1) hk7 (by first|rfl|simp only [List.flatten_cons,List.flatten_nil,List.cons_append,List.append_assoc,List.nil_append,List.append_nil]) ?_
  have hw13:E6 (lrs.set t13 (⟨⟨va r6.q,y0.1.length,r6.k⟩,y0.2.1⟩:Rwq)) (l.set t13 (⟨y0.1,y0.2.1⟩:Rwc Cel)):=E6.set hrowslrs t13 ⟨rfl,(by first|omega|(simp only [List.length_take,List.length_drop,List.length_append,List.length_cons,List.length_nil,List.length_set,List.length_map];omega)|decide),(by first|omega|(simp only [List.length_take,List.length_drop,List.length_append,List.length_cons,List.length_nil,List.length_set,List.length_map];omega)|decide)⟩ rfl
  refine G5 (C7s t13 (r:=(⟨⟨va r6.q,y0.1.length,r6.k⟩,y0.2.1⟩:Rwq)) (x:=(⟨y0.1,y0.2.1⟩:Rwc Cel)) (B9 3 rfl) (B9 0 rfl)) ?_
  refine it rfl (S8 (us:=[.slice (va r6.q) y0.1.length r6.k,bv y0.2.1]) (u':=(⟨⟨va r6.q,y0.1.length,r6.k⟩,y0.2.1⟩:Rwq)) (c:=C4) (sz:=2) C0j (fun _=>rfl) rfl rfl rfl 1 rfl rfl rfl rfl t13 0 rfl (gd zwq (by have:=hrowslrs.1;omega)) rfl rfl) fun _=>?_
  refine A6 (nx (A1 2 rfl (ix rfl (B0 rfl rfl rfl rfl (by omega)) ?_)))
  refine ip' 1 0 [(13,iv ((t13:Int)+1))] ?_
  refine A6 ?_
  exact B3a (z1:=l) (z2:=(⟨some b8,k11,j12⟩:VR)) (z3:=lrs) (z4:=t13) (l.set t13 (⟨y0.1,y0.2.1⟩:Rwc Cel)) (⟨some b8,k11,j12⟩:VR) (lrs.set t13 (⟨⟨va r6.q,y0.1.length,r6.k⟩,y0.2.1⟩:Rwq)) (t13+1) ⟨(by omega),hR,(VOk.cast hoklr (by simp)),hw13,(by (rw [List.length_set];exact hll))⟩ (by (try dsimp only);omega) (mc [[bx b1 (J8 s) 42],vo C4 78 (⟨some b8,k11,j12⟩:VR) (lrs.set t13 (⟨⟨va r6.q,y0.1.length,r6.k⟩,y0.2.1⟩:Rwq))] [true,true] rfl (by first|rfl|(simp only [List.length_set]<;>rfl))) (A5.pick [3,0] rfl)
 have h5p:¬ ((t13:Int)<((List.replicate ((many).toNat) (zwc:Rwc Cel)).length:Int)):=by simpa using h5
 rw [R8 h5p] at hR;replace hR:=(O9.eq_1 ..).symm.trans hR
 refine F3 (nx (sr 2 rfl (ip' 2 0 [(6,.slice (va lr.q) l.length lr.k)] ?_)))
 subst hR
 refine ie (B4 ?_)
 exact zer hr hD (R1 rfl (B5 rfl)) ⟨(lr,lrs),⟨hoklr,hrowslrs⟩⟩ (mc [[bx b1 (J8 s) 42],vo C4 78 lr lrs] [false,true] rfl (by first|rfl|(simp only [List.length_set]<;>rfl))) (A5.con1 (B9 1 rfl) fn0)
def A1s (cols:Int) (rows:Int) (s:Sty):List (Rwc Cel)×Int :=
 (bif ((((decide (cols<2))||(decide ((80:Int)<cols)))||(decide (rows<1)))||(decide ((40:Int)<rows))) then (([]:List (Rwc Cel)),2) else (bif (!decide ((D4 s)=0)) then (([]:List (Rwc Cel)),(D4 s)) else (H3 (A0u cols rows s) fun (y4:List (Rwc Cel))=>(y4,0))))
theorem A6v (cols:Int) (rows:Int) (s:Sty) (R:List (Rwc Cel)×Int) (hR:A1s cols rows s=R):Con Tryz.prog 75 [iv cols,iv rows,ag (J8 s)] [] [] ({t:VR×List Rwq // VOk 2 R.1.length t.1∧E6 t.2 R.1}) (fun x=>.tuple #[.slice (va x.1.1.q) R.1.length x.1.1.k,iv R.2]) (fun x=>((vo C4 78 x.1.1 x.1.2)++([]))) (fun x=>[D9 B3 x.1.2 R.1]):=by
 refine zco Tryz.func75 [(0,iv cols),(1,iv rows),(2,ag (J8 s))] fun X hX hr hD=>?_
 replace hR:=(A1s.eq_1 ..).symm.trans hR
 refine sr 3 rfl (K6 3 0 [] (fun b1=>[(5,pt b1 0)]) (fun b1=>[bx b1 (J8 s) 42]) (fun b1=>?_))
 refine ie (A4 (sr 14 rfl (ip' 3 11 [(11,bv (decide (cols<2)))] ?_)))
 refine zir 3 8 11 14 (decide ((80:Int)<cols)) (fun g2 g2p=>?_) ?_
 ·refine ip' 3 0 [(14,bv (decide ((80:Int)<cols)))] ?_
  exact A6 (M7 2 11 14 g2 fn0 (mk [true] rfl) rfl rfl rfl rfl rfl)
 refine ip' 1 7 [(15,bv ((decide (cols<2))||(decide ((80:Int)<cols))))] ?_
 refine zio 3 4 15 18 (decide (rows<1)) (fun g3=>?_) ?_
 ·have g3p:¬ ((cols<2)∨((80:Int)<cols)):=by simpa using g3
  refine ip' 3 0 [(18,bv (decide (rows<1)))] ?_
  exact A6 (M7 2 15 18 g3 fn0 (mk [true] rfl) rfl rfl rfl rfl rfl)
 refine ip' 1 3 [(19,bv (((decide (cols<2))||(decide ((80:Int)<cols)))||(decide (rows<1))))] ?_
 refine zio 3 0 19 22 (decide ((40:Int)<rows)) (fun g4=>?_) ?_
 ·have g4p:¬ (((cols<2)∨((80:Int)<cols))∨(rows<1)):=by simpa using g4
  refine ip' 3 0 [(22,bv (decide ((40:Int)<rows)))] ?_
  exact A6 (M7 2 19 22 g4 fn0 (mk [true] rfl) rfl rfl rfl rfl rfl)
 refine ie ?_
 refine zjb rfl hR ?_ ?_<;>clear hR<;>intro hR h5
 ·have h5p:(((cols<2)∨((80:Int)<cols))∨(rows<1))∨((40:Int)<rows):=by simpa using h5
  refine sr 2 rfl (ip' 2 0 [(6,.slice none 0 0),(7,iv 2)] ?_)
  subst hR
  refine ie (B4 ?_)
  exact zer hr hD (S0 rfl (B5 rfl) (B5 rfl)) ⟨(VR.nil,([]:List Rwq)),⟨VOk.nil,E6.none⟩⟩ (mc [[bx b1 (J8 s) 42],vo C4 78 VR.nil ([]:List Rwq)] [false,true] rfl (by first|rfl|(simp only [List.length_set]<;>rfl))) (A5.con1 V4 fn0)
 have h5p:¬ ((((cols<2)∨((80:Int)<cols))∨(rows<1))∨((40:Int)<rows)):=by simpa using h5
 refine A8 (nx (A4 (sr 3 rfl (zrl 1 2 [0] [(23,ag (J8 s))] ?_))))
 refine zca (V8 s _ rfl) fn0 ?_
 refine ip' 1 0 [(8,iv (D4 s))] ?_
 refine ie (sr 2 rfl (ip' 2 0 [(26,bv (!decide ((D4 s)=0)))] ?_))
 refine ie ?_
 refine zjn rfl hR ?_ ?_<;>clear hR<;>intro hR h6 h6p
 ·refine sr 3 rfl (ip' 3 0 [(6,.slice none 0 0),(7,iv (D4 s))] ?_)
  subst hR
  refine ie (B4 ?_)
  exact zer hr hD (S0 rfl (B5 rfl) (B5 rfl)) ⟨(VR.nil,([]:List Rwq)),⟨VOk.nil,E6.none⟩⟩ (mc [[bx b1 (J8 s) 42],vo C4 78 VR.nil ([]:List Rwq)] [false,true] rfl (by first|rfl|(simp only [List.length_set]<;>rfl))) (A5.con1 V4 fn0)
 refine A8 (nx (sr 6 rfl (zrl 3 3 [0] [(28,iv cols),(29,iv rows),(30,ag (J8 s))] ?_)))
 have hQ:=I2 hR;clear hR;obtain ⟨y4,hy4,hR⟩:=hQ
 refine it rfl (H2 (L2:=[bx b1 (J8 s) 42]) (B2q cols rows s (by omega) (by omega) y4 hy4) rfl rfl rfl rfl rfl fn0 (List.Perm.refl _) (fun ⟨⟨r7,rs8⟩,hp11⟩=>(bx b1 (J8 s) 42::(vo C4 78 r7 rs8)++([]))) (fun ⟨⟨r7,rs8⟩,hp11⟩=>H0 [vo C4 78 r7 rs8,[bx b1 (J8 s) 42]] [1,0] 2 rfl (by decide) (by first|rfl|simp only [List.flatten_cons,List.flatten_nil,List.append_nil,List.cons_append,List.nil_append,List.append_assoc]) [[bx b1 (J8 s) 42],vo C4 78 r7 rs8] rfl (by first|rfl|simp only [List.flatten_cons,List.flatten_nil,List.append_nil,List.cons_append,List.nil_append,List.append_assoc]))) fun ⟨⟨r7,rs8⟩,hp11⟩=>?_
 try dsimp only at hp11
 obtain ⟨hk9,hw10⟩:=hp11
 have:=VOk.le hk9
 have:=VOk.cap hk9
 have:=hw10.1
 refine ip' 2 0 [(6,.slice (va r7.q) y4.length r7.k),(7,iv 0)] ?_
 subst hR
 refine ie (B4 ?_)
 exact zer hr hD (S0 rfl (B5 rfl) (B5 rfl)) ⟨(r7,rs8),⟨hk9,hw10⟩⟩ (mc [[bx b1 (J8 s) 42],vo C4 78 r7 rs8] [false,true] rfl (by first|rfl|(simp only [List.length_set]<;>rfl))) (A5.con1 (B9 0 rfl) fn0)
def S1 (cols:Int) (rows:Int):ScrC×List (Rwc Cel)×List (Rwc Cel)×List Bool×Int :=
 (H3 (A1s cols rows Sty.zero) fun (y1:List (Rwc Cel)×Int)=>(bif (!decide (y1.2=0)) then (ScrC.zero,([]:List (Rwc Cel)),([]:List (Rwc Cel)),([]:List Bool),y1.2) else (H3 (A1s cols rows Sty.zero) fun (y3:List (Rwc Cel)×Int)=>(H3 (B0r cols) fun (y2:List Bool×Int)=>({ScrC.zero with cols:=cols,rows:=rows,modes:=A0r,bottom:=(IntKind.i64.wrap (rows - (1:Int)))},y1.1,y3.1,y2.1,y2.2)))))
theorem A0m (c r:Int):(S1 c r).1.title.length=0:=by
 unfold S1 H3
 simp only [Bool.cond_eq_ite]
 split<;>rfl
theorem B4w (c r:Int) (s:Sty):(A1s c r s).1.length≤100:=by
 have h:∀ (w:Int) (tl l:List (Rwc Cel)) (t:Nat),(O9 w s tl l t).length=l.length:=by
  intro w tl
  induction tl with
  | nil=>intros;rfl
  | cons a tl ih=>intro l t;simp only [O9,H3];rw [ih,List.length_set]
 unfold A1s
 cases hb:((((decide (c<2))||(decide ((80:Int)<c)))||(decide (r<1)))||(decide ((40:Int)<r))) with
 | true=>exact Nat.zero_le _
 | false =>
  simp only [Bool.or_eq_false_iff,decide_eq_false_iff_not] at hb
  rw [cond_false]
  cases decide (D4 s=0) with
  | false=>exact Nat.zero_le _
  | true=>show (A0u c r s).length≤100;unfold A0u;rw [h,List.length_replicate];omega
theorem A5m (c r:Int):(S1 c r).2.1.length≤100∧(S1 c r).2.2.1.length≤100:=by
 unfold S1 H3
 have h:=B4w c r Sty.zero
 simp only [Bool.cond_eq_ite]
 split
 ·exact ⟨Nat.zero_le _,Nat.zero_le _⟩
 ·exact ⟨h,h⟩
theorem A7p (cols:Int) (rows:Int) (R:ScrC×List (Rwc Cel)×List (Rwc Cel)×List Bool×Int) (hR:S1 cols rows=R):Con Tryz.prog 39 [iv cols,iv rows] [] [] ({t:VR×List Rwq // VOk 2 R.2.1.length t.1∧E6 t.2 R.2.1}×{t:VR×List Rwq // VOk 2 R.2.2.1.length t.1∧E6 t.2 R.2.2.1}×{r:VR // VOk 1 R.2.2.2.1.length r}) (fun x=>.tuple #[ag (B1 R.1 ⟨va x.1.1.1.q,R.2.1.length,x.1.1.1.k⟩ ⟨va x.2.1.1.1.q,R.2.2.1.length,x.2.1.1.1.k⟩ ⟨none,0,0⟩ ⟨va x.2.2.1.q,R.2.2.2.1.length,x.2.2.1.k⟩),iv R.2.2.2.2]) (fun x=>((vo C4 78 x.1.1.1 x.1.1.2)++((vo C4 78 x.2.1.1.1 x.2.1.1.2)++((vo F6 4 x.2.2.1 R.2.2.2.1)++([]))))) (fun x=>[D9 B3 x.1.1.2 R.2.1,D9 B3 x.2.1.1.2 R.2.2.1]):=by
 refine zco Tryz.func39 [(0,iv cols),(1,iv rows)] fun X hX hr hD=>?_
 replace hR:=(S1.eq_1 ..).symm.trans hR
 refine sr 2 rfl (K6 2 0 [] (fun b1=>[(4,pt b1 0)]) (fun b1=>[bx b1 (B1 ScrC.zero ⟨none,0,0⟩ ⟨none,0,0⟩ ⟨none,0,0⟩ ⟨none,0,0⟩) 52]) (fun b1=>?_))
 refine ie (sr 9 rfl (zrl 3 6 [] [(12,iv cols),(13,iv rows),(14,ag (J8 Sty.zero))] ?_))
 have hQ:=I2 hR;clear hR;obtain ⟨y1,hy1,hR⟩:=hQ
 refine it rfl (H2 (L2:=[bx b1 (B1 ScrC.zero ⟨none,0,0⟩ ⟨none,0,0⟩ ⟨none,0,0⟩ ⟨none,0,0⟩) 52]) (A6v cols rows Sty.zero y1 hy1) rfl rfl rfl rfl rfl fn0 (List.Perm.refl _) (fun ⟨⟨r2,rs3⟩,hp6⟩=>(bx b1 (B1 ScrC.zero ⟨none,0,0⟩ ⟨none,0,0⟩ ⟨none,0,0⟩ ⟨none,0,0⟩) 52::(vo C4 78 r2 rs3)++([]))) (fun ⟨⟨r2,rs3⟩,hp6⟩=>H0 [vo C4 78 r2 rs3,[bx b1 (B1 ScrC.zero ⟨none,0,0⟩ ⟨none,0,0⟩ ⟨none,0,0⟩ ⟨none,0,0⟩) 52]] [1,0] 2 rfl (by decide) (by first|rfl|simp only [List.flatten_cons,List.flatten_nil,List.append_nil,List.cons_append,List.nil_append,List.append_assoc]) [[bx b1 (B1 ScrC.zero ⟨none,0,0⟩ ⟨none,0,0⟩ ⟨none,0,0⟩ ⟨none,0,0⟩) 52],vo C4 78 r2 rs3] rfl (by first|rfl|simp only [List.flatten_cons,List.flatten_nil,List.append_nil,List.cons_append,List.nil_append,List.append_assoc]))) fun ⟨⟨r2,rs3⟩,hp6⟩=>?_
 try dsimp only at hp6
 obtain ⟨hk4,hw5⟩:=hp6
 have:=VOk.le hk4
 have:=VOk.cap hk4
 have:=hw5.1
 refine ip' 5 0 [(6,.slice (va r2.q) y1.1.length r2.k),(7,iv y1.2)] ?_
 refine ie (A4 (sr 2 rfl (ip' 2 0 [(19,bv (!decide (y1.2=0)))] ?_)))
 refine ie ?_
 refine zjn rfl hR ?_ ?_<;>clear hR<;>intro hR h7 h7p
 ·refine sr 4 rfl (zrg 4 0 [0] [(5,iv y1.2)] (bx b1 (B1 ScrC.zero ⟨none,0,0⟩ ⟨none,0,0⟩ ⟨none,0,0⟩ ⟨none,0,0⟩) 52::(vo C4 78 r2 rs3)++([])) ?_)
  subst hR
  refine ie (B4 ?_)
  exact zer hr hD (S0 rfl (V7 (us:=B1 ScrC.zero ⟨none,0,0⟩ ⟨none,0,0⟩ ⟨none,0,0⟩ ⟨none,0,0⟩) B1o rfl 0 rfl rfl) (B5 rfl)) (⟨(VR.nil,([]:List Rwq)),⟨VOk.nil,E6.none⟩⟩,⟨(VR.nil,([]:List Rwq)),⟨VOk.nil,E6.none⟩⟩,⟨VR.nil,VOk.nil⟩) (mc [[bx b1 (B1 ScrC.zero ⟨none,0,0⟩ ⟨none,0,0⟩ ⟨none,0,0⟩ ⟨none,0,0⟩) 52],vo C4 78 r2 rs3,vo C4 78 VR.nil ([]:List Rwq),vo C4 78 VR.nil ([]:List Rwq),vo F6 4 VR.nil ([]:List Bool)] [false,false,true,true,true] rfl (by first|rfl|(simp only [List.length_set]<;>rfl))) (A5.con1 V4 (A5.con1 V4 fn0))
 refine A8 (nx (sr 9 rfl (zrl 3 6 [] [(23,iv cols),(24,iv rows),(25,ag (J8 Sty.zero))] ?_)))
 have hQ:=I2 hR;clear hR;obtain ⟨y3,hy3,hR⟩:=hQ
 refine it rfl (H2 (L2:=(bx b1 (B1 ScrC.zero ⟨none,0,0⟩ ⟨none,0,0⟩ ⟨none,0,0⟩ ⟨none,0,0⟩) 52::(vo C4 78 r2 rs3)++([]))) (A6v cols rows Sty.zero y3 hy3) rfl rfl rfl rfl rfl fn0 (List.Perm.refl _) (fun ⟨⟨r8,rs9⟩,hp12⟩=>(bx b1 (B1 ScrC.zero ⟨none,0,0⟩ ⟨none,0,0⟩ ⟨none,0,0⟩ ⟨none,0,0⟩) 52::(vo C4 78 r8 rs9)++((vo C4 78 r2 rs3)++([])))) (fun ⟨⟨r8,rs9⟩,hp12⟩=>H0 [vo C4 78 r8 rs9,[bx b1 (B1 ScrC.zero ⟨none,0,0⟩ ⟨none,0,0⟩ ⟨none,0,0⟩ ⟨none,0,0⟩) 52],vo C4 78 r2 rs3] [1,0,2] 3 rfl (by decide) (by first|rfl|simp only [List.flatten_cons,List.flatten_nil,List.append_nil,List.cons_append,List.nil_append,List.append_assoc]) [[bx b1 (B1 ScrC.zero ⟨none,0,0⟩ ⟨none,0,0⟩ ⟨none,0,0⟩ ⟨none,0,0⟩) 52],vo C4 78 r8 rs9,vo C4 78 r2 rs3] rfl (by first|rfl|simp only [List.flatten_cons,List.flatten_nil,List.append_nil,List.cons_append,List.nil_append,List.append_assoc]))) fun ⟨⟨r8,rs9⟩,hp12⟩=>?_
 try dsimp only at hp12
 obtain ⟨hk10,hw11⟩:=hp12
 have:=VOk.le hk10
 have:=VOk.cap hk10
 have:=hw11.1
 refine ip' 5 0 [(8,.slice (va r8.q) y3.1.length r8.k)] ?_
 refine ie (sr 7 rfl (ip' 1 6 [(30,iv cols)] ?_))
 have hQ:=I2 hR;clear hR;obtain ⟨y2,hy2,hR⟩:=hQ
 refine it rfl (H2 (L2:=(bx b1 (B1 ScrC.zero ⟨none,0,0⟩ ⟨none,0,0⟩ ⟨none,0,0⟩ ⟨none,0,0⟩) 52::(vo C4 78 r8 rs9)++((vo C4 78 r2 rs3)++([])))) (B8i cols y2 hy2) rfl rfl rfl rfl rfl fn0 (List.Perm.refl _) (fun ⟨r13,hk14⟩=>(bx b1 (B1 ScrC.zero ⟨none,0,0⟩ ⟨none,0,0⟩ ⟨none,0,0⟩ ⟨none,0,0⟩) 52::(vo F6 4 r13 y2.1)++((vo C4 78 r8 rs9)++((vo C4 78 r2 rs3)++([]))))) (fun ⟨r13,hk14⟩=>H0 [vo F6 4 r13 y2.1,[bx b1 (B1 ScrC.zero ⟨none,0,0⟩ ⟨none,0,0⟩ ⟨none,0,0⟩ ⟨none,0,0⟩) 52],vo C4 78 r8 rs9,vo C4 78 r2 rs3] [1,0,2,3] 4 rfl (by decide) (by first|rfl|simp only [List.flatten_cons,List.flatten_nil,List.append_nil,List.cons_append,List.nil_append,List.append_assoc]) [[bx b1 (B1 ScrC.zero ⟨none,0,0⟩ ⟨none,0,0⟩ ⟨none,0,0⟩ ⟨none,0,0⟩) 52],vo F6 4 r13 y2.1,vo C4 78 r8 rs9,vo C4 78 r2 rs3] rfl (by first|rfl|simp only [List.flatten_cons,List.flatten_nil,List.append_nil,List.cons_append,List.nil_append,List.append_assoc]))) fun ⟨r13,hk14⟩=>?_
 have:=VOk.le hk14
 have:=VOk.cap hk14
 refine ip' 5 0 [(10,.slice (va r13.q) y2.1.length r13.k),(7,iv y2.2)] ?_
 refine ie (sr 12 rfl (ip' 4 8 [(34,iv cols),(35,iv rows),(36,.slice (va r2.q) y1.1.length r2.k),(37,.slice (va r8.q) y3.1.length r8.k)] ?_))
 refine zca (B7w _ rfl) fn0 ?_
 refine ip' 1 6 [(39,iv rows)] ?_
 refine ix rfl (I9.pure rfl) ?_
 refine zrg 5 0 [0] [(5,iv y2.2)] (bx b1 (B1 ({ScrC.zero with cols:=cols,rows:=rows,modes:=A0r,bottom:=(IntKind.i64.wrap (rows - (1:Int)))}) ⟨va r2.q,y1.1.length,r2.k⟩ ⟨va r8.q,y3.1.length,r8.k⟩ ⟨none,0,0⟩ ⟨va r13.q,y2.1.length,r13.k⟩) 52::(vo F6 4 r13 y2.1)++((vo C4 78 r8 rs9)++((vo C4 78 r2 rs3)++([])))) ?_
 subst hR
 refine ie (B4 (Z1 (H0 [[bx b1 (B1 ({ScrC.zero with cols:=cols,rows:=rows,modes:=A0r,bottom:=(IntKind.i64.wrap (rows - (1:Int)))}) ⟨va r2.q,y1.1.length,r2.k⟩ ⟨va r8.q,y3.1.length,r8.k⟩ ⟨none,0,0⟩ ⟨va r13.q,y2.1.length,r13.k⟩) 52],vo F6 4 r13 y2.1,vo C4 78 r8 rs9,vo C4 78 r2 rs3] [0,3,2,1] 4 rfl (by decide) rfl [[bx b1 (B1 ({ScrC.zero with cols:=cols,rows:=rows,modes:=A0r,bottom:=(IntKind.i64.wrap (rows - (1:Int)))}) ⟨va r2.q,y1.1.length,r2.k⟩ ⟨va r8.q,y3.1.length,r8.k⟩ ⟨none,0,0⟩ ⟨va r13.q,y2.1.length,r13.k⟩) 52],vo C4 78 r2 rs3,vo C4 78 r8 rs9,vo F6 4 r13 y2.1] rfl (by first|rfl|simp)) ?_))
 exact zer hr hD (S0 rfl (V7 (us:=B1 ({ScrC.zero with cols:=cols,rows:=rows,modes:=A0r,bottom:=(IntKind.i64.wrap (rows - (1:Int)))}) ⟨va r2.q,y1.1.length,r2.k⟩ ⟨va r8.q,y3.1.length,r8.k⟩ ⟨none,0,0⟩ ⟨va r13.q,y2.1.length,r13.k⟩) B1o rfl 0 rfl rfl) (B5 rfl)) (⟨(r2,rs3),⟨hk4,hw5⟩⟩,⟨(r8,rs9),⟨hk10,hw11⟩⟩,⟨r13,hk14⟩) (mc [[bx b1 (B1 ({ScrC.zero with cols:=cols,rows:=rows,modes:=A0r,bottom:=(IntKind.i64.wrap (rows - (1:Int)))}) ⟨va r2.q,y1.1.length,r2.k⟩ ⟨va r8.q,y3.1.length,r8.k⟩ ⟨none,0,0⟩ ⟨va r13.q,y2.1.length,r13.k⟩) 52],vo C4 78 r2 rs3,vo C4 78 r8 rs9,vo F6 4 r13 y2.1] [false,true,true,true] rfl (by first|rfl|(simp only [List.length_set]<;>rfl))) (A5.con1 (B9 1 rfl) (A5.con1 (B9 0 rfl) fn0))
end Go.Proofs.YthcjfkljekdioaaGreatDoor
set_option linter.unusedVariables false
set_option linter.unusedSimpArgs false
set_option linter.unnecessarySimpa false
set_option maxRecDepth 100000
namespace Go.Proofs.YthcjfkljekdioaaGreatDoor
open Go Go.Fen
theorem C7o:EqT Tryz.prog 42 J8:=EqT.of 20 rfl (by kernel_rfl) (by kernel_rfl) (fun _ _=>by kernel_rfl) J8.inj
theorem B9s:EqT Tryz.prog 72 B3:=EqT.of 20 rfl (by kernel_rfl) (by kernel_rfl) (fun _ _=>by kernel_rfl) B3.inj
theorem C1h:SlTy Tryz.prog 166 164 2:=⟨by kernel_rfl,by kernel_rfl⟩
theorem B9e:Ty Tryz.prog 164 2 true:=⟨by kernel_rfl⟩
def A0p (c:Cel):Bool :=
 (decide (c={Cel.zero with wide:=2,sty:=c.sty}))
theorem B8c (c:Cel) (R:Bool) (hR:A0p c=R):M9 Tryz.prog 130 [ag (B3 c)] [] (bv R):=by
 refine zco Tryz.func130 [(0,ag (B3 c))] fun X hX hr hD=>?_
 replace hR:=(A0p.eq_1 ..).symm.trans hR
 refine sr 2 rfl (K6 2 0 [] (fun b1=>[(1,pt b1 0)]) (fun b1=>[bx b1 (B3 c) 72]) (fun b1=>?_))
 refine ie (sr 6 rfl (zrl 4 2 [0,0] [(3,ag (B3 c)),(6,ag (B3 ({Cel.zero with wide:=2,sty:=c.sty})))] ?_))
 refine ix rfl (B4m (a:=c) (b:={Cel.zero with wide:=2,sty:=c.sty}) B9s rfl rfl rfl) ?_
 refine ip' 1 0 [(2,bv (decide (c={Cel.zero with wide:=2,sty:=c.sty})))] ?_
 subst hR
 refine ie (B4 ?_)
 exact F8 hr hD
def A0w (cp:Int):List Spn→Nat→Bool
 | [],t9=>false
 | hd_l0::tl_l0,t9=>(bif ((decide (hd_l0.lo≤cp))&&(decide (cp≤hd_l0.hi))) then true else A0w cp tl_l0 (t9+1))
def W0 (cp:Int) (l:List Spn):Bool :=
 A0w cp l 0
theorem A6t (cp:Int) (l:List Spn) (lq:Option Addr) (lk:Nat) (hll:l.length≤9223372036854775807) (hcl:l.length≤lk) (R:Bool) (hR:W0 cp l=R):M9 Tryz.prog 120 [iv cp,.slice lq l.length lk] [sl C0 lq l] (bv R):=by
 refine zco Tryz.func120 [(0,iv cp),(1,.slice lq l.length lk)] fun X hX hr hD=>?_
 replace hR:=(W0.eq_1 ..).symm.trans hR
 refine sr 1 rfl (ip' 1 0 [] ?_)
 refine ie (A4 (sr 3 rfl (ip' 3 0 [(7,.slice lq l.length lk),(8,iv (l.length:Int)),(9,iv 0)] ?_)))
 refine ie (A9 (B2o (fun (t9:Nat)=>(t9≤l.length∧A0w cp (l.drop t9) t9=R,[(0,iv cp),(7,.slice lq l.length lk),(8,iv (l.length:Int)),(9,iv (t9:Int))],[],[sl C0 lq l],l.length - t9)) 0 ⟨(by omega),hR⟩ (mk [] rfl) A5.refl ?_))
 rintro t9 ⟨hm1,hR⟩
 refine sr 1 rfl (ip' 1 0 [(10,bv (decide ((t9:Int)<(l.length:Int))))] ?_)
 refine ie (A4 (R3 rfl (fun h2=>?_) (fun h2=>?_)))
 ·have h2p:(t9:Int)<(l.length:Int):=by simpa using h2
  rw [R9 Spn.zero (show t9<l.length by omega)] at hR;replace hR:=(A0w.eq_2 ..).symm.trans hR
  refine A8 (nx (A4 (A9 (sr 4 rfl (I4 0 rfl (by omega) fun a3 hq4=>?_)))))
  refine ix rfl (F1 C1h rfl rfl hq4 rfl t9 rfl (by omega)) ?_
  refine ix rfl (M5 (us:=C0 (l.getD t9 Spn.zero)) B9e rfl rfl (G6 (c:=C0) (sz:=2) hq4 (fun _=>rfl) 0 rfl (gd Spn.zero (by omega))) rfl) ?_
  refine K6 2 0 [0] (fun b5=>[(6,pt b5 0)]) (fun b5=>[bx b5 (C0 (l.getD t9 Spn.zero)) 164]) (fun b5=>?_)
  refine ie (sr 10 rfl (zrl 5 5 [0] [(17,bv (decide ((l.getD t9 Spn.zero).lo≤cp)))] ?_))
  refine zid 5 0 17 22 (decide (cp≤(l.getD t9 Spn.zero).hi)) (fun g6 g6p=>?_) ?_
  ·refine zrl 5 0 [0] [(22,bv (decide (cp≤(l.getD t9 Spn.zero).hi)))] ?_
   exact zai 2 17 22 g6
  refine ie ?_
  refine zja rfl hR ?_ ?_<;>clear hR<;>intro hR h7 h7p
  ·refine sr 1 rfl (ip' 1 0 [(4,bv true)] ?_)
   subst hR
   refine ie (B4 ?_)
   exact F8 hr hD
  refine A8 (nx (A1 2 rfl (ix rfl (B0 rfl rfl rfl rfl (by omega)) ?_)))
  refine ip' 1 0 [(9,iv ((t9:Int)+1))] ?_
  refine A6 ?_
  exact B2u (z1:=t9) (t9+1) ⟨(by omega),hR⟩ (by (try dsimp only);omega) (mk [false] rfl) A5.refl
 have h2p:¬ ((t9:Int)<(l.length:Int)):=by simpa using h2
 rw [R8 h2p] at hR;replace hR:=(A0w.eq_1 ..).symm.trans hR
 refine F3 (nx (sr 1 rfl (ip' 1 0 [(4,bv false)] ?_)))
 subst hR
 refine ie (B4 ?_)
 exact F8 hr hD
def F0 (cp:Int):Int :=
 (bif ((!(A0l cp))||(W0 cp ([(⟨0,31⟩:Spn),(⟨127,159⟩:Spn)]:List Spn))) then (-1) else (bif (decide (cp<(B2h.getD 0 Spn.zero).lo)) then 1 else (bif (W0 cp B2h) then 0 else (bif (W0 cp C2d) then 2 else 1))))
theorem A0e (cp:Int) (R:Int) (hR:F0 cp=R):M9 Tryz.prog 69 [iv cp] [X9,Z3] (iv R):=by
 refine zco Tryz.func69 [(0,iv cp)] fun X hX hr hD=>?_
 replace hR:=(F0.eq_1 ..).symm.trans hR
 refine sr 1 rfl (ip' 1 0 [] ?_)
 refine ie (A4 (A9 (sr 11 rfl (ip' 1 10 [(4,iv cp)] ?_))))
 refine zca (A9t cp _ rfl) fn0 ?_
 refine ip' 2 7 [(7,bv (!(A0l cp)))] ?_
 refine zio 6 1 7 13 (W0 cp ([(⟨0,31⟩:Spn),(⟨127,159⟩:Spn)]:List Spn)) (fun g1=>?_) ?_
 ·refine zrl 3 3 [] [(8,iv cp),(9,ag (C0 (⟨0,31⟩:Spn))),(10,ag (C0 (⟨127,159⟩:Spn)))] ?_
  refine it rfl (F9 (c:=C0) (xs:=([(⟨0,31⟩:Spn),(⟨127,159⟩:Spn)]:List Spn)) C1h rfl rfl rfl (by kernel_rfl)) fun b2=>?_
  have:([(⟨0,31⟩:Spn),(⟨127,159⟩:Spn)]:List Spn).length=2:=rfl
  refine zca (A6t cp ([(⟨0,31⟩:Spn),(⟨127,159⟩:Spn)]:List Spn) (some ⟨b2,0,none⟩) 2 (by first|omega|(simp only [List.length_take,List.length_drop,List.length_append,List.length_cons,List.length_nil,List.length_set,List.length_map];omega)|decide) (by first|omega|(simp only [List.length_take,List.length_drop,List.length_append,List.length_cons,List.length_nil,List.length_set,List.length_map];omega)|decide) _ rfl) (A5.pick [0] rfl) ?_
  refine ip' 1 0 [(13,bv (W0 cp ([(⟨0,31⟩:Spn),(⟨127,159⟩:Spn)]:List Spn)))] ?_
  exact A6 (M7 7 7 13 g1 (A5.pick [1,2] rfl) (mk [] rfl) rfl rfl rfl rfl rfl)
 refine ip' 1 0 [(3,bv ((!(A0l cp))||(W0 cp ([(⟨0,31⟩:Spn),(⟨127,159⟩:Spn)]:List Spn))))] ?_
 refine ie ?_
 refine zjb rfl hR ?_ ?_<;>clear hR<;>intro hR h3
 ·have h3p:=h3;try simp only [Bool.and_eq_true,Bool.or_eq_true,Bool.and_eq_false_iff,Bool.or_eq_false_iff,Bool.not_eq_true',Bool.not_eq_false',decide_eq_true_eq,decide_eq_false_iff_not] at h3p
  refine sr 1 rfl (ip' 1 0 [(2,iv (-1))] ?_)
  subst hR
  refine ie (B4 ?_)
  exact F8 hr hD
 have h3p:=h3;try simp only [Bool.and_eq_true,Bool.or_eq_true,Bool.and_eq_false_iff,Bool.or_eq_false_iff,Bool.not_eq_true',Bool.not_eq_false',decide_eq_true_eq,decide_eq_false_iff_not] at h3p
 refine sr 6 rfl (ip' 1 5 [(15,iv cp)] ?_)
 refine ix rfl (B0y Tryz.underlying165 B9e rfl rfl rfl 0 rfl (by first|decide|omega)) ?_
 refine ip' 1 3 [(17,pa (Addr.add ⟨0,0,none⟩ (0 * 2)))] ?_
 refine ix rfl (D6 (v:=iv ((B2h.getD 0 Spn.zero).lo)) (us:=[iv ((B2h.getD 0 Spn.zero).lo)]) ty3 rfl rfl (A3f (G6 (c:=C0) (sz:=2) rfl (fun _=>rfl) 0 rfl (gd Spn.zero (by first|decide|(simp only [B2h,List.length_cons,List.length_nil];omega)))) (ws:=[iv ((B2h.getD 0 Spn.zero).lo)]) 1 rfl) rfl) ?_
 refine ip' 2 0 [(14,bv (decide (cp<(B2h.getD 0 Spn.zero).lo)))] ?_
 refine ie ?_
 refine zjd rfl hR ?_ ?_<;>clear hR<;>intro hR h4 h4p
 ·refine sr 1 rfl (ip' 1 0 [(2,iv 1)] ?_)
  subst hR
  refine ie (B4 ?_)
  exact F8 hr hD
 refine sr 4 rfl (ip' 1 3 [(21,iv cp)] ?_)
 refine ix rfl (B1m Tryz.underlying165 B9e rfl rfl) ?_
 refine zca (A6t cp B2h (some ⟨0,0,none⟩) 11 (by first|omega|(simp only [List.length_take,List.length_drop,List.length_append,List.length_cons,List.length_nil,List.length_set,List.length_map];omega)|decide) (by first|omega|(simp only [List.length_take,List.length_drop,List.length_append,List.length_cons,List.length_nil,List.length_set,List.length_map];omega)|decide) _ rfl) (A5.pick [0] rfl) ?_
 refine ip' 1 0 [(20,bv (W0 cp B2h))] ?_
 refine ie ?_
 refine zjb rfl hR ?_ ?_<;>clear hR<;>intro hR h5
 ·refine sr 1 rfl (ip' 1 0 [(2,iv 0)] ?_)
  subst hR
  refine ie (B4 ?_)
  exact F8 hr hD
 refine sr 4 rfl (ip' 1 3 [(25,iv cp)] ?_)
 refine ix rfl (B1m Tryz.underlying167 B9e rfl rfl) ?_
 refine zca (A6t cp C2d (some ⟨1,0,none⟩) 13 (by first|omega|(simp only [List.length_take,List.length_drop,List.length_append,List.length_cons,List.length_nil,List.length_set,List.length_map];omega)|decide) (by first|omega|(simp only [List.length_take,List.length_drop,List.length_append,List.length_cons,List.length_nil,List.length_set,List.length_map];omega)|decide) _ rfl) (A5.pick [1] rfl) ?_
 refine ip' 1 0 [(24,bv (W0 cp C2d))] ?_
 refine ie ?_
 refine zjb rfl hR ?_ ?_<;>clear hR<;>intro hR h6
 ·refine sr 1 rfl (ip' 1 0 [(2,iv 2)] ?_)
  subst hR
  refine ie (B4 ?_)
  exact F8 hr hD
 refine A8 (nx (sr 1 rfl (ip' 1 0 [(2,iv 1)] ?_)))
 subst hR
 refine ie (B4 ?_)
 exact F8 hr hD
def O5 (l:Ar2):Bool :=
 (bif ((!decide (l.a=0))&&(!decide ((F0 l.a)=0))) then false else (bif ((!decide (l.b=0))&&((decide (l.a=0))||(!decide ((F0 l.b)=0)))) then false else true))
theorem B4v (l:Ar2) (R:Bool) (hR:O5 l=R):M9 Tryz.prog 131 [ag (A8p l)] [X9,Z3] (bv R):=by
 refine zco Tryz.func131 [(0,ag (A8p l))] fun X hX hr hD=>?_
 replace hR:=(O5.eq_1 ..).symm.trans hR
 refine sr 2 rfl (K6 2 0 [] (fun b1=>[(1,pt b1 0)]) (fun b1=>[bx b1 (A8p l) 70]) (fun b1=>?_))
 refine ie (sr 1 rfl (ip' 1 0 [(3,bv false)] ?_))
 refine ie (A4 (sr 2 rfl (zrl 2 0 [0] [(6,ag (A8p l)),(7,iv 0)] ?_)))
 refine ie (A9 (P8 4 ?_))
 refine D8 (sr 1 rfl (ip' 1 0 [(8,bv true)] ?_))
 refine ie (A4 (I0 rfl (A8 (nx (A4 (A9 (sr 2 rfl (ix rfl (D7 (v:=iv l.a) (us:=[iv l.a]) Tryz.underlying70 ty3 rfl rfl rfl 0 rfl (by decide) rfl rfl rfl) ?_))))))))
 refine ip' 1 0 [(5,iv l.a)] ?_
 refine ie (A4 (sr 10 rfl (ip' 3 7 [(12,bv (!decide (l.a=0)))] ?_)))
 refine zia 7 0 12 19 (!decide ((F0 l.a)=0)) (fun g2=>?_) ?_
 ·have g2p:¬ l.a=0:=by simpa using g2
  refine ip' 3 4 [(14,bv false),(15,iv l.a)] ?_
  refine zca (A0e l.a _ rfl) A5.refl ?_
  refine ip' 3 0 [(19,bv (!decide ((F0 l.a)=0)))] ?_
  exact zai 5 12 19 g2
 refine ie ?_
 refine zjb rfl hR ?_ ?_<;>clear hR<;>intro hR h3
 ·have h3p:(¬ l.a=0)∧(¬ (F0 l.a)=0):=by simpa using h3
  refine sr 1 rfl (ip' 1 0 [(2,bv false)] ?_)
  subst hR
  refine ie (B4 ?_)
  exact F8 hr hD
 have h3p:¬ ((¬ l.a=0)∧(¬ (F0 l.a)=0)):=by simpa using h3
 refine A8 (nx (A1 6 rfl (ip' 6 0 [(3,bv (decide (l.a=0)))] ?_)))
 refine A6 (nx (A1 2 rfl (ix rfl (B0 (c:=1) rfl rfl rfl rfl (by decide)) ?_)))
 refine ip' 1 0 [(7,iv 1)] ?_
 refine A6 (D8 (sr 1 rfl (ip' 1 0 [(8,bv true)] ?_)))
 refine ie (A4 (I0 rfl (A8 (nx (A4 (A9 (sr 2 rfl (ix rfl (D7 (v:=iv l.b) (us:=[iv l.b]) Tryz.underlying70 ty3 rfl rfl rfl 1 rfl (by decide) rfl rfl rfl) ?_))))))))
 refine ip' 1 0 [(5,iv l.b)] ?_
 refine ie (A4 (sr 10 rfl (ip' 3 7 [(12,bv (!decide (l.b=0)))] ?_)))
 refine zia 7 0 12 19 ((decide (l.a=0))||(!decide ((F0 l.b)=0))) (fun g4=>?_) ?_
 ·have g4p:¬ l.b=0:=by simpa using g4
  refine ip' 2 5 [(14,bv (decide (l.a=0)))] ?_
  refine zir 4 1 14 18 (!decide ((F0 l.b)=0)) (fun g5 g5p=>?_) ?_
  ·refine ip' 1 3 [(15,iv l.b)] ?_
   refine zca (A0e l.b _ rfl) A5.refl ?_
   refine ip' 2 0 [(18,bv (!decide ((F0 l.b)=0)))] ?_
   exact zai 4 14 18 g5
  refine ip' 1 0 [(19,bv ((decide (l.a=0))||(!decide ((F0 l.b)=0))))] ?_
  exact zai 4 12 19 g4
 refine ie ?_
 refine zjb rfl hR ?_ ?_<;>clear hR<;>intro hR h6
 ·have h6p:(¬ l.b=0)∧((l.a=0)∨(¬ (F0 l.b)=0)):=by simpa using h6
  refine sr 1 rfl (ip' 1 0 [(2,bv false)] ?_)
  subst hR
  refine ie (B4 ?_)
  exact F8 hr hD
 have h6p:¬ ((¬ l.b=0)∧((l.a=0)∨(¬ (F0 l.b)=0))):=by simpa using h6
 refine A8 (nx (A1 6 rfl (ip' 2 4 [(21,bv (decide (l.a=0)))] ?_)))
 refine zir 3 1 21 24 (decide (l.b=0)) (fun g7 g7p=>?_) ?_
 ·refine ip' 3 0 [(24,bv (decide (l.b=0)))] ?_
  exact zai 2 21 24 g7
 refine ip' 1 0 [(3,bv ((decide (l.a=0))||(decide (l.b=0))))] ?_
 refine A6 (nx (A1 2 rfl (ix rfl (B0 (c:=2) rfl rfl rfl rfl (by decide)) ?_)))
 refine ip' 1 0 [(7,iv 2)] ?_
 refine A6 (D8 (sr 1 rfl (ip' 1 0 [(8,bv false)] ?_)))
 refine ie (A4 (V5 rfl (F3 (nx (sr 1 rfl (ip' 1 0 [(2,bv true)] ?_))))))
 subst hR
 refine ie (B4 ?_)
 exact F8 hr hD
def I6 (c:Cel):Int :=
 (bif ((!((A0p c)||((((decide ((0:Int)≤c.wide))&&(decide (c.wide≤1)))&&(decide ((F0 c.base)=(IntKind.i64.wrap (c.wide+(1:Int))))))&&(O5 c.marks))))||(!decide ((D4 c.sty)=0))) then 221 else 0)
theorem B0a (c:Cel) (R:Int) (hR:I6 c=R):M9 Tryz.prog 74 [ag (B3 c)] [X9,Z3] (iv R):=by
 refine zco Tryz.func74 [(0,ag (B3 c))] fun X hX hr hD=>?_
 replace hR:=(I6.eq_1 ..).symm.trans hR
 refine sr 2 rfl (K6 2 0 [] (fun b1=>[(1,pt b1 0)]) (fun b1=>[bx b1 (B3 c) 72]) (fun b1=>?_))
 refine ie (sd 27 rfl (by kernel_rfl) rfl ?_)
 refine zdg 1 26 [0] [(4,ag (B3 c))] ?_
 refine zcd (B8c c _ rfl) fn0 ?_
 refine dp' 1 24 [(6,bv (A0p c))] ?_
 refine zdO 23 1 6 29 ((((decide ((0:Int)≤c.wide))&&(decide (c.wide≤1)))&&(decide ((F0 c.base)=(IntKind.i64.wrap (c.wide+(1:Int))))))&&(O5 c.marks)) (fun g2=>?_) ?_
 ·refine zdg 4 19 [0] [(10,bv (decide ((0:Int)≤c.wide)))] ?_
  refine zdd 4 15 10 14 (decide (c.wide≤1)) (fun g3 g3p=>?_) ?_
  ·refine zdg 4 0 [0] [(14,bv (decide (c.wide≤1)))] ?_
   exact zad 2 10 14 g3
  refine dp' 1 14 [(15,bv ((decide ((0:Int)≤c.wide))&&(decide (c.wide≤1))))] ?_
  refine zda 8 6 15 23 (decide ((F0 c.base)=(IntKind.i64.wrap (c.wide+(1:Int))))) (fun g4=>?_) ?_
  ·have g4p:((0:Int)≤c.wide)∧(c.wide≤1):=by simpa using g4
   refine zdg 2 6 [0] [(17,iv c.base)] ?_
   refine zcd (A0e c.base _ rfl) A5.refl ?_
   refine zdg 2 3 [0] [(20,iv c.wide)] ?_
   refine dd rfl (I9.pure rfl) ?_
   refine dp' 2 0 [(23,bv (decide ((F0 c.base)=(IntKind.i64.wrap (c.wide+(1:Int))))))] ?_
   exact zad 6 15 23 g4
  refine dp' 1 5 [(24,bv (((decide ((0:Int)≤c.wide))&&(decide (c.wide≤1)))&&(decide ((F0 c.base)=(IntKind.i64.wrap (c.wide+(1:Int)))))))] ?_
  refine zda 4 1 24 28 (O5 c.marks) (fun g5=>?_) ?_
  ·have g5p:(((0:Int)≤c.wide)∧(c.wide≤1))∧((F0 c.base)=(IntKind.i64.wrap (c.wide+(1:Int)))):=by simpa using g5
   refine zdg 2 2 [0] [(26,ag (A8p c.marks))] ?_
   refine zcd (B4v c.marks _ rfl) A5.refl ?_
   refine dp' 1 0 [(28,bv (O5 c.marks))] ?_
   exact zad 4 24 28 g5
  refine dp' 1 0 [(29,bv ((((decide ((0:Int)≤c.wide))&&(decide (c.wide≤1)))&&(decide ((F0 c.base)=(IntKind.i64.wrap (c.wide+(1:Int))))))&&(O5 c.marks)))] ?_
  exact zad 8 6 29 g2
 refine dp' 1 0 [(3,bv ((A0p c)||((((decide ((0:Int)≤c.wide))&&(decide (c.wide≤1)))&&(decide ((F0 c.base)=(IntKind.i64.wrap (c.wide+(1:Int))))))&&(O5 c.marks))))] ?_
 refine de (A4 (sr 8 rfl (ip' 3 5 [(32,bv (!((A0p c)||((((decide ((0:Int)≤c.wide))&&(decide (c.wide≤1)))&&(decide ((F0 c.base)=(IntKind.i64.wrap (c.wide+(1:Int))))))&&(O5 c.marks)))))] ?_)))
 refine zio 5 0 32 37 (!decide ((D4 c.sty)=0)) (fun g6=>?_) ?_
 ·have g6p:=g6;try simp only [Bool.and_eq_true,Bool.or_eq_true,Bool.and_eq_false_iff,Bool.or_eq_false_iff,Bool.not_eq_true',Bool.not_eq_false',decide_eq_true_eq,decide_eq_false_iff_not] at g6p
  refine zrl 2 3 [0] [(34,ag (J8 c.sty))] ?_
  refine zca (V8 c.sty _ rfl) fn0 ?_
  refine ip' 2 0 [(37,bv (!decide ((D4 c.sty)=0)))] ?_
  exact zai 4 32 37 g6
 refine ie ?_
 refine zjb rfl hR ?_ ?_<;>clear hR<;>intro hR h7
 ·have h7p:=h7;try simp only [Bool.and_eq_true,Bool.or_eq_true,Bool.and_eq_false_iff,Bool.or_eq_false_iff,Bool.not_eq_true',Bool.not_eq_false',decide_eq_true_eq,decide_eq_false_iff_not] at h7p
  refine sr 1 rfl (ip' 1 0 [(2,iv 221)] ?_)
  subst hR
  refine ie (B4 ?_)
  exact F8 hr hD
 have h7p:=h7;try simp only [Bool.and_eq_true,Bool.or_eq_true,Bool.and_eq_false_iff,Bool.or_eq_false_iff,Bool.not_eq_true',Bool.not_eq_false',decide_eq_true_eq,decide_eq_false_iff_not] at h7p
 refine A8 (nx (sr 1 rfl (ip' 1 0 [(2,iv 0)] ?_)))
 subst hR
 refine ie (B4 ?_)
 exact F8 hr hD
def Q2:List Cel→Nat→Cel→Int
 | [],t19,last=>(bif (decide (last.wide=1)) then 220 else 0)
 | hd_l0::tl_l0,t19,last=>(bif (((!decide ((I6 hd_l0)=0))||(!((decide (last.wide=1)) == (decide (hd_l0.wide=2)))))||((decide (hd_l0.wide=2))&&(!(decide (hd_l0.sty=last.sty))))) then 220 else Q2 tl_l0 (t19+1) hd_l0)
def F7 (rCells:List Cel) (rWrapped:Bool):Int :=
 (bif ((decide ((rCells.length:Int)<2))||(decide ((80:Int)<(rCells.length:Int)))) then 220 else Q2 rCells 0 Cel.zero)
theorem A9n (rCells:List Cel) (rWrapped:Bool) (rCellsq:Option Addr) (rCellsk:Nat) (hlrCells:rCells.length≤9223372036854775807) (hcrCells:rCells.length≤rCellsk) (R:Int) (hR:F7 rCells rWrapped=R):M9 Tryz.prog 35 [ag [.slice rCellsq rCells.length rCellsk,bv rWrapped]] [sl B3 rCellsq rCells,X9,Z3] (iv R):=by
 refine zco Tryz.func35 [(0,ag [.slice rCellsq rCells.length rCellsk,bv rWrapped])] fun X hX hr hD=>?_
 replace hR:=(F7.eq_1 ..).symm.trans hR
 refine sr 2 rfl (K6 2 0 [] (fun b1=>[(1,pt b1 0)]) (fun b1=>[bx b1 [.slice rCellsq rCells.length rCellsk,bv rWrapped] 78]) (fun b1=>?_))
 refine ie (A4 (sr 4 rfl (zrl 4 0 [0] [(3,iv (rCells.length:Int))] ?_)))
 refine ie (sr 6 rfl (ip' 3 3 [(12,bv (decide ((rCells.length:Int)<2)))] ?_))
 refine zir 3 0 12 15 (decide ((80:Int)<(rCells.length:Int))) (fun g2 g2p=>?_) ?_
 ·refine ip' 3 0 [(15,bv (decide ((80:Int)<(rCells.length:Int))))] ?_
  exact zai 2 12 15 g2
 refine ie ?_
 refine zjo rfl hR ?_ ?_<;>clear hR<;>intro hR h3 h3p
 ·refine sr 1 rfl (ip' 1 0 [(2,iv 220)] ?_)
  subst hR
  refine ie (B4 ?_)
  exact F8 hr hD
 refine A8 (nx (sr 1 rfl (K6 1 0 [] (fun b4=>[(4,pt b4 0)]) (fun b4=>[bx b4 (B3 Cel.zero) 72,bx b1 [.slice rCellsq rCells.length rCellsk,bv rWrapped] 78]) (fun b4=>?_))))
 refine ie (A4 (sr 4 rfl (zrl 4 0 [1] [(17,.slice rCellsq rCells.length rCellsk),(18,iv (rCells.length:Int)),(19,iv 0)] ?_)))
 refine ie (A9 (C3s (fun (t19:Nat) (last:Cel)=>(t19≤rCells.length∧Q2 (rCells.drop t19) t19 last=R,[(4,pt b4 0),(17,.slice rCellsq rCells.length rCellsk),(18,iv (rCells.length:Int)),(19,iv (t19:Int))],[bx b4 (B3 last) 72,bx b1 [.slice rCellsq rCells.length rCellsk,bv rWrapped] 78],[sl B3 rCellsq rCells,X9,Z3],rCells.length - t19)) 0 Cel.zero ⟨(by omega),hR⟩ (mk [true,true] rfl) A5.refl ?_))
 rintro t19 last ⟨hm5,hR⟩
 refine sr 1 rfl (ip' 1 0 [(20,bv (decide ((t19:Int)<(rCells.length:Int))))] ?_)
 refine ie (A4 (R3 rfl (fun h6=>?_) (fun h6=>?_)))
 ·have h6p:(t19:Int)<(rCells.length:Int):=by simpa using h6
  rw [R9 Cel.zero (show t19<rCells.length by omega)] at hR;replace hR:=(Q2.eq_2 ..).symm.trans hR
  refine A8 (nx (A4 (A9 (sr 4 rfl (I4 0 rfl (by omega) fun a7 hq8=>?_)))))
  refine ix rfl (F1 Q8 rfl rfl hq8 rfl t19 rfl (by omega)) ?_
  refine ix rfl (M5 (us:=B3 (rCells.getD t19 Cel.zero)) B1d rfl rfl (G6 (c:=B3) (sz:=12) hq8 (fun _=>rfl) 0 rfl (gd Cel.zero (by omega))) rfl) ?_
  refine K6 2 0 [0] (fun b9=>[(6,pt b9 0)]) (fun b9=>[bx b9 (B3 (rCells.getD t19 Cel.zero)) 72,bx b4 (B3 last) 72,bx b1 [.slice rCellsq rCells.length rCellsk,bv rWrapped] 78]) (fun b9=>?_)
  refine ie (A4 (sr 24 rfl (zrl 1 23 [0] [(23,ag (B3 (rCells.getD t19 Cel.zero)))] ?_)))
  refine zca (B0a (rCells.getD t19 Cel.zero) _ rfl) (A5.pick [1,2] rfl) ?_
  refine ip' 2 20 [(26,bv (!decide ((I6 (rCells.getD t19 Cel.zero))=0)))] ?_
  refine zio 8 12 26 34 (!((decide (last.wide=1)) == (decide ((rCells.getD t19 Cel.zero).wide=2)))) (fun g10=>?_) ?_
  ·have g10p:¬ (¬ (I6 (rCells.getD t19 Cel.zero))=0):=by simpa using g10
   refine zrl 6 2 [1,0] [(29,bv (decide (last.wide=1))),(32,bv (decide ((rCells.getD t19 Cel.zero).wide=2)))] ?_
   refine ix rfl (C4g Tryz.underlying4 rfl rfl rfl) ?_
   refine ip' 1 0 [(34,bv (!((decide (last.wide=1)) == (decide ((rCells.getD t19 Cel.zero).wide=2)))))] ?_
   exact zai 5 26 34 g10
  refine ip' 1 11 [(35,bv ((!decide ((I6 (rCells.getD t19 Cel.zero))=0))||(!((decide (last.wide=1)) == (decide ((rCells.getD t19 Cel.zero).wide=2))))))] ?_
  refine zio 11 0 35 46 ((decide ((rCells.getD t19 Cel.zero).wide=2))&&(!(decide ((rCells.getD t19 Cel.zero).sty=last.sty)))) (fun g11=>?_) ?_
  ·have g11p:=g11;try simp only [Bool.and_eq_true,Bool.or_eq_true,Bool.and_eq_false_iff,Bool.or_eq_false_iff,Bool.not_eq_true',Bool.not_eq_false',decide_eq_true_eq,decide_eq_false_iff_not] at g11p
   refine zrl 4 7 [0] [(39,bv (decide ((rCells.getD t19 Cel.zero).wide=2)))] ?_
   refine zid 6 1 39 45 (!(decide ((rCells.getD t19 Cel.zero).sty=last.sty))) (fun g12 g12p=>?_) ?_
   ·refine zrl 4 2 [0,1] [(41,ag (J8 ((rCells.getD t19 Cel.zero).sty))),(43,ag (J8 last.sty))] ?_
    refine ix rfl (A1l (a:=(rCells.getD t19 Cel.zero).sty) (b:=last.sty) C7o rfl rfl rfl) ?_
    refine ip' 1 0 [(45,bv (!(decide ((rCells.getD t19 Cel.zero).sty=last.sty))))] ?_
    exact zai 5 39 45 g12
   refine ip' 1 0 [(46,bv ((decide ((rCells.getD t19 Cel.zero).wide=2))&&(!(decide ((rCells.getD t19 Cel.zero).sty=last.sty)))))] ?_
   exact zai 4 35 46 g11
  refine ie ?_
  refine zjb rfl hR ?_ ?_<;>clear hR<;>intro hR h13
  ·have h13p:=h13;try simp only [Bool.and_eq_true,Bool.or_eq_true,Bool.and_eq_false_iff,Bool.or_eq_false_iff,Bool.not_eq_true',Bool.not_eq_false',decide_eq_true_eq,decide_eq_false_iff_not] at h13p
   refine sr 1 rfl (ip' 1 0 [(2,iv 220)] ?_)
   subst hR
   refine ie (B4 ?_)
   exact F8 hr hD
  have h13p:=h13;try simp only [Bool.and_eq_true,Bool.or_eq_true,Bool.and_eq_false_iff,Bool.or_eq_false_iff,Bool.not_eq_true',Bool.not_eq_false',decide_eq_true_eq,decide_eq_false_iff_not] at h13p
  refine A8 (nx (A1 2 rfl (zrg 2 0 [0,1] [] [bx b9 (B3 (rCells.getD t19 Cel.zero)) 72,bx b4 (B3 (rCells.getD t19 Cel.zero)) 72,bx b1 [.slice rCellsq rCells.length rCellsk,bv rWrapped] 78] ?_)))
  refine A6 (nx (A1 2 rfl (ix rfl (B0 rfl rfl rfl rfl (by omega)) ?_)))
  refine ip' 1 0 [(19,iv ((t19:Int)+1))] ?_
  refine A6 ?_
  exact C3x (z1:=t19) (z2:=last) (t19+1) (rCells.getD t19 Cel.zero) ⟨(by omega),hR⟩ (by (try dsimp only);omega) (mk [false,true,true] rfl) A5.refl
 have h6p:¬ ((t19:Int)<(rCells.length:Int)):=by simpa using h6
 rw [R8 h6p] at hR;replace hR:=(Q2.eq_1 ..).symm.trans hR
 refine F3 (nx (A4 (sr 3 rfl (zrl 3 0 [0] [(51,bv (decide (last.wide=1)))] ?_))))
 refine ie ?_
 refine zjd rfl hR ?_ ?_<;>clear hR<;>intro hR h14 h14p
 ·refine sr 1 rfl (ip' 1 0 [(2,iv 220)] ?_)
  subst hR
  refine ie (B4 ?_)
  exact F8 hr hD
 refine A8 (nx (sr 1 rfl (ip' 1 0 [(2,iv 0)] ?_)))
 subst hR
 refine ie (B4 ?_)
 exact F8 hr hD
end Go.Proofs.YthcjfkljekdioaaGreatDoor
