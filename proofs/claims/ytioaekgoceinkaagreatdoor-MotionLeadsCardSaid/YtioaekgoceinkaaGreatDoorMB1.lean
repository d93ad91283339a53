import Derived.Test.YtioaekgoceinkaaGreatDoorProg
import Derived.Test.YtioaekgoceinkaaGreatDoorMA2
set_option linter.unusedVariables false
set_option linter.unusedSimpArgs false
set_option linter.unnecessarySimpa false
set_option maxRecDepth 100000
namespace Go.Proofs.YtioaekgoceinkaaGreatDoor
open Go Go.Fen
structure Col where
 kind:Int
 n:Int
deriving DecidableEq
def U0 (x:Col):List Value:=[.int .i64 x.kind,.int .i64 x.n]
def Col.zero:Col:=⟨0,0⟩
theorem U0.inj (x y:Col) (h:U0 x=U0 y):x=y:=by
 rcases x with ⟨_,_⟩
 rcases y with ⟨_,_⟩
 simp [U0,bs] at h
 simp_all
structure Sty where
 attr:Int
 under:Int
 fore:Col
 back:Col
 line:Col
deriving DecidableEq
def A0c (x:Sty):List Value:=[.int .i64 x.attr,.int .i64 x.under]++(U0 x.fore++(U0 x.back++(U0 x.line)))
def Sty.zero:Sty:=⟨0,0,Col.zero,Col.zero,Col.zero⟩
theorem A0c.inj (x y:Sty) (h:A0c x=A0c y):x=y:=by
 rcases x with ⟨_,_,⟨_,_⟩,⟨_,_⟩,⟨_,_⟩⟩
 rcases y with ⟨_,_,⟨_,_⟩,⟨_,_⟩,⟨_,_⟩⟩
 simp [U0,A0c,bs] at h
 simp_all
structure Ar2 where
 a:Int
 b:Int
deriving DecidableEq
def C5u (x:Ar2):List Value:=[.int .i64 x.a,.int .i64 x.b]
def Ar2.zero:Ar2:=⟨0,0⟩
theorem C5u.inj (x y:Ar2) (h:C5u x=C5u y):x=y:=by
 rcases x with ⟨_,_⟩
 rcases y with ⟨_,_⟩
 simp [C5u,bs] at h
 simp_all
structure Ar3 where
 a:Int
 b:Int
 c:Int
deriving DecidableEq
def C4t (x:Ar3):List Value:=[.int .i64 x.a,.int .i64 x.b,.int .i64 x.c]
def Ar3.zero:Ar3:=⟨0,0,0⟩
theorem C4t.inj (x y:Ar3) (h:C4t x=C4t y):x=y:=by
 rcases x with ⟨_,_,_⟩
 rcases y with ⟨_,_,_⟩
 simp [C4t,bs] at h
 simp_all
structure Cel where
 base:Int
 marks:Ar2
 wide:Int
 sty:Sty
deriving DecidableEq
def G4 (x:Cel):List Value:=[.int .i64 x.base]++(C5u x.marks++([.int .i64 x.wide]++(A0c x.sty)))
def Cel.zero:Cel:=⟨0,Ar2.zero,0,Sty.zero⟩
theorem G4.inj (x y:Cel) (h:G4 x=G4 y):x=y:=by
 rcases x with ⟨_,⟨_,_⟩,_,⟨_,_,⟨_,_⟩,⟨_,_⟩,⟨_,_⟩⟩⟩
 rcases y with ⟨_,⟨_,_⟩,_,⟨_,_,⟨_,_⟩,⟨_,_⟩,⟨_,_⟩⟩⟩
 simp [C5u,G4,U0,A0c,bs] at h
 simp_all
structure Spn where
 lo:Int
 hi:Int
deriving DecidableEq
def B7 (x:Spn):List Value:=[.int .i64 x.lo,.int .i64 x.hi]
def Spn.zero:Spn:=⟨0,0⟩
theorem B7.inj (x y:Spn) (h:B7 x=B7 y):x=y:=by
 rcases x with ⟨_,_⟩
 rcases y with ⟨_,_⟩
 simp [B7,bs] at h
 simp_all
structure Sp3 where
 row:Int
 frm:Int
 to:Int
deriving DecidableEq
def D9b (x:Sp3):List Value:=[.int .i64 x.row,.int .i64 x.frm,.int .i64 x.to]
def Sp3.zero:Sp3:=⟨0,0,0⟩
theorem D9b.inj (x y:Sp3) (h:D9b x=D9b y):x=y:=by
 rcases x with ⟨_,_,_⟩
 rcases y with ⟨_,_,_⟩
 simp [D9b,bs] at h
 simp_all
structure Plc where
 row:Int
 col:Int
deriving DecidableEq
def X5 (x:Plc):List Value:=[.int .i64 x.row,.int .i64 x.col]
def Plc.zero:Plc:=⟨0,0⟩
theorem X5.inj (x y:Plc) (h:X5 x=X5 y):x=y:=by
 rcases x with ⟨_,_⟩
 rcases y with ⟨_,_⟩
 simp [X5,bs] at h
 simp_all
structure Atr where
 a:Int
 b:Int
 c:Int
deriving DecidableEq
def H7 (x:Atr):List Value:=[.int .i64 x.a,.int .i64 x.b,.int .i64 x.c]
def Atr.zero:Atr:=⟨0,0,0⟩
theorem H7.inj (x y:Atr) (h:H7 x=H7 y):x=y:=by
 rcases x with ⟨_,_,_⟩
 rcases y with ⟨_,_,_⟩
 simp [H7,bs] at h
 simp_all
structure Act where
 kind:Int
 n:Int
 m:Int
 color:Col
 text:List UInt8
deriving DecidableEq
def A2 (x:Act):List Value:=[.int .i64 x.kind,.int .i64 x.n,.int .i64 x.m]++(U0 x.color++([.string (bs x.text)]))
def Act.zero:Act:=⟨0,0,0,Col.zero,[]⟩
theorem A2.inj (x y:Act) (h:A2 x=A2 y):x=y:=by
 rcases x with ⟨_,_,_,⟨_,_⟩,_⟩
 rcases y with ⟨_,_,_,⟨_,_⟩,_⟩
 simp [A2,U0,bs] at h
 simp_all
structure Shf where
 top:Int
 bottom:Int
 amt:Int
deriving DecidableEq
def D5m (x:Shf):List Value:=[.int .i64 x.top,.int .i64 x.bottom,.int .i64 x.amt]
def Shf.zero:Shf:=⟨0,0,0⟩
theorem D5m.inj (x y:Shf) (h:D5m x=D5m y):x=y:=by
 rcases x with ⟨_,_,_⟩
 rcases y with ⟨_,_,_⟩
 simp [D5m,bs] at h
 simp_all
structure Hld where
 shift:Shf
 gain:Int
deriving DecidableEq
def D9x (x:Hld):List Value:=D5m x.shift++([.int .i64 x.gain])
def Hld.zero:Hld:=⟨Shf.zero,0⟩
theorem D9x.inj (x y:Hld) (h:D9x x=D9x y):x=y:=by
 rcases x with ⟨⟨_,_,_⟩,_⟩
 rcases y with ⟨⟨_,_,_⟩,_⟩
 simp [D9x,D5m,bs] at h
 simp_all
structure Drf where
 kind:Int
 n:Int
 m:Int
 rgb:Int
 text:List UInt8
deriving DecidableEq
def D9p (x:Drf):List Value:=[.int .u16 x.kind,.int .u16 x.n,.int .u16 x.m,.int .u32 x.rgb,.string (bs x.text)]
def Drf.zero:Drf:=⟨0,0,0,0,[]⟩
theorem D9p.inj (x y:Drf) (h:D9p x=D9p y):x=y:=by
 rcases x with ⟨_,_,_,_,_⟩
 rcases y with ⟨_,_,_,_,_⟩
 simp [D9p,bs] at h
 simp_all
structure Lks where
 f:Nat→Int
def Lks.zero:Lks:=⟨fun _=>0⟩
def Lks.put (x:Lks) (k:Nat) (v:Int):Lks:=⟨fun i=>if i=k then v else x.f i⟩
def D5q:List UInt8:=[0,1,56,2,57,49,28,3,61,58,42,50,38,29,17,4,62,47,59,36,45,43,51,22,53,39,33,30,24,18,12,5,63,55,48,27,60,41,37,16,46,35,44,21,52,32,23,11,54,26,40,15,34,20,31,10,25,14,19,9,13,8,7,6]
def E2n:List Int:=[0,13434880,52480,13487360,238,13435085,52685,15066597,8355711,16711680,65280,16776960,6053119,16711935,65535,16777215]
def E3j:List Atr:=[⟨1,1,22⟩,⟨2,2,22⟩,⟨4,3,23⟩,⟨8,5,25⟩,⟨16,7,27⟩,⟨32,8,28⟩,⟨64,9,29⟩,⟨128,53,55⟩]
def D2q:List Spn:=[⟨768,879⟩,⟨1155,1161⟩,⟨1425,1469⟩,⟨1552,1562⟩,⟨1611,1631⟩,⟨6832,6911⟩,⟨7616,7679⟩,⟨8203,8207⟩,⟨8400,8447⟩,⟨65024,65039⟩,⟨65056,65071⟩]
def E0a:List Spn:=[⟨4352,4447⟩,⟨11904,12350⟩,⟨12353,19903⟩,⟨19968,42191⟩,⟨44032,55203⟩,⟨63744,64255⟩,⟨65072,65135⟩,⟨65280,65376⟩,⟨65504,65510⟩,⟨127744,128591⟩,⟨128640,128767⟩,⟨129280,129535⟩,⟨131072,262141⟩]
abbrev O4:Pers:=sl cU8 (some ⟨8,0,none⟩) D5q
abbrev K0:Pers:=E0c 5 B2w
abbrev P0:Pers:=sl H8 (some ⟨4,0,none⟩) E2n
abbrev S7:Pers:=sl H7 (some ⟨3,0,none⟩) E3j
abbrev A4n:Pers:=sl B7 (some ⟨0,0,none⟩) D2q
abbrev A4q:Pers:=sl B7 (some ⟨1,0,none⟩) E0a
theorem C7q:ApTy Tryz.prog 67 5 1 1:=⟨by kernel_rfl,by kernel_rfl,rfl⟩
theorem D7b:ApTy Tryz.prog 206 3 1 8:=⟨by kernel_rfl,by kernel_rfl,rfl⟩
theorem D8s:EqT Tryz.prog 56 A2:=EqT.of 20 rfl okl okl (fun _ _=>by kernel_rfl) A2.inj
theorem A8g:SlTy Tryz.prog 67 5 1:=⟨by kernel_rfl,by kernel_rfl⟩
theorem K5:SlTy Tryz.prog 206 3 1:=⟨by kernel_rfl,by kernel_rfl⟩
theorem ty3:Ty Tryz.prog 3 1 false:=⟨by kernel_rfl⟩
theorem ty5:Ty Tryz.prog 5 1 false:=⟨by kernel_rfl⟩
theorem ty9:Ty Tryz.prog 9 1 false:=⟨by kernel_rfl⟩
theorem D6y:Ty Tryz.prog 206 1 false:=⟨by kernel_rfl⟩
def B2c (cp:Int):Bool :=
 (((decide ((0:Int)≤cp))&&(decide (cp≤1114111)))&&(!decide ((cp / 2048)=27)))
theorem C1q {cp:Int} {R:Bool} (hR:B2c cp=R):G3 Tryz.prog 116 [iv cp] [] (bv R):=by
 refine zce Tryz.func116 fun X hX hr hD=>?_
 replace hR:=(B2c.eq_1 ..).symm.trans hR
 refine sR_ rfl (pp0 1 rfl (ie (sR_ rfl (pp1 3 5 rfl ?_))))
 refine zid 3 6 5 8 (decide (cp≤1114111)) (fun e b=>?_) ?_
 ·refine pp1 3 8 rfl ?_
  exact A3 (P7 2 5 8 e fn0 sb_ rfl rfl rfl rfl rfl)
 refine pp1 1 9 rfl ?_
 refine zia 4 1 9 13 (!decide ((cp / 2048)=27)) (fun a=>?_) ?_
 ·have d:=bq_ a
  refine pp1 1 10 rfl ?_
  refine ix rfl (Q8 (c:=cp / 2048) rfl rfl rfl ozw (by simp [Int.fdiv_eq_ediv_of_nonneg,IntKind.bits])) (pp1 2 13 rfl ?_)
  exact A3 (P7 4 9 13 a fn0 sb_ rfl rfl rfl rfl rfl)
 refine pp1 1 2 rfl ?_
 subst hR
 refine ie (A8 ?_)
 exact E9 hr hD
def I3 (a:Nat) (p1:Int):UInt8 :=
 (by8 (bOp .or .u8 128 ((by8 (bOp .and .u8 ((by8 (IntKind.u8.wrap (Int.fdiv p1 (2 ^ (min ((a:Int)).toNat 64))))).toNat:Int) 63)).toNat:Int)))
theorem A4u {a:Nat} {p1:Int} {p1b:Nat} {R:UInt8} (hR:I3 a p1=R):Con Tryz.prog 159 [iv (a:Int),pt p1b 0] [bx p1b [iv p1] 3] [] (Unit) (fun x=>.int .u8 (R.toNat:Int)) (fun x=>[bx p1b [iv p1] 3]) (fun x=>[]):=by
 refine zce Tryz.func159 fun X hX hr hD=>?_
 replace hR:=(I3.eq_1 ..).symm.trans hR
 refine sR_ rfl (pp0 1 rfl (ie (sR_ rfl (pl2 2 [0] 4 5 rfl (ix rfl (Q8 rfl rfl rfl opx rfl) (ix rfl (I2 (v:=.int .u8 (IntKind.u8.wrap (Int.fdiv p1 (2 ^ (min ((a:Int)).toNat 64))))) (G7.pure rfl) (B6e)) (ix rfl (I2 (v:=.int .u8 (bOp .and .u8 ((by8 (IntKind.u8.wrap (Int.fdiv p1 (2 ^ (min ((a:Int)).toNat 64))))).toNat:Int) 63)) (G7.pure rfl) (C1m)) (ix rfl (I2 (v:=.int .u8 (bOp .or .u8 128 ((by8 (bOp .and .u8 ((by8 (IntKind.u8.wrap (Int.fdiv p1 (2 ^ (min ((a:Int)).toNat 64))))).toNat:Int) 63)).toNat:Int))) (G7.pure rfl) (C1m)) (pp1 1 3 rfl ?_)))))))))
 subst hR
 refine ie (A8 ?_)
 exact zer hr hD (O3 rfl (B9 rfl)) () sb_ fn0
def A9p (a:Int):List UInt8 :=
 (bif (decide (a<128)) then ([(by8 (IntKind.u8.wrap a))]:List UInt8) else (bif (decide (a<2048)) then ([(by8 (bOp .or .u8 192 ((by8 (IntKind.u8.wrap (a / 64))).toNat:Int))),(I3 0 a)]:List UInt8) else (bif (decide (a<65536)) then ([(by8 (bOp .or .u8 224 ((by8 (IntKind.u8.wrap (a / 4096))).toNat:Int))),(I3 6 a),(I3 0 a)]:List UInt8) else ([(by8 (bOp .or .u8 240 ((by8 (IntKind.u8.wrap (a / 262144))).toNat:Int))),(I3 12 a),(I3 6 a),(I3 0 a)]:List UInt8))))
def B5v (cp:Int):List UInt8 :=
 (bif (!(B2c cp)) then A9p 65533 else A9p cp)
theorem B5o (cp:Int):(B5v cp).length≤4:=by
 unfold B5v A9p
 simp only [Bool.cond_eq_ite]
 repeat' split
 all_goals simp
theorem opv {p:Prop} (h:p:=by first|rfl|simp):p:=h
theorem C7g {cp:Int} {R:List UInt8} (hR:B5v cp=R):G3 Tryz.prog 98 [iv cp] [] (sv R):=by
 refine zce Tryz.func98 fun X hX hr hD=>?_
 replace hR:=(B5v.eq_1 ..).symm.trans hR
 refine sR_ rfl (H9 2 0 [] (fun b=>[(1,pt b 0)]) (fun b=>[bx b [iv cp] 3]) (fun b=>?_))
 refine ie (C1d (fun (a:Int)=>(A9p a=R,[(1,pt b 0)],[bx b [iv a] 3],[])) ?_ ?_)
 ·refine sR_ rfl (pl1 1 [0] 4 rfl (zv rfl (C1q rfl) (pp1 1 6 rfl (ie ?_))))
  refine zjb rfl hR ?_ ?_<;>clear hR<;>intro hR n
  ·refine A1 1 rfl (zrg 1 0 [0] [] [bx b [iv 65533] 3] (A3 ?_))
   exact A5f 65533 hR sb_ fn0
  refine A6 ?_
  exact A5f cp hR sb_ fn0
 intro a
 rintro hR
 replace hR:=(A9p.eq_1 ..).symm.trans hR
 refine sR_ rfl (ip' 2 0 [(3,.func (.func 159) #[] #[pt b 0])] (ie (A5 (B4 (sR_ rfl (pl1 3 [0] 8 rfl (ie ?_)))))))
 refine zjd rfl hR ?_ ?_<;>clear hR<;>intro hR m h
 ·refine sR_ rfl (pl1 1 [0] 11 rfl (ix rfl (I2 (v:=.int .u8 (IntKind.u8.wrap a)) (G7.pure rfl) (B6e)) (it rfl (C3 (c:=cU8) (xs:=([(by8 (IntKind.u8.wrap a))]:List UInt8)) A8g rfl rfl rfl okl) fun k=>?_)))
  have:([(by8 (IntKind.u8.wrap a))]:List UInt8).length=1:=rfl
  refine ix rfl (B9p Tryz.underlying9 Tryz.underlying67 rfl rfl (B1 0 rfl) rfl okl) ?_
  have:([(by8 (IntKind.u8.wrap a))]:List UInt8).length=1:=rfl
  refine pp1 1 2 rfl ?_
  subst hR
  refine ie (A8 ?_)
  exact E9 hr hD
 refine sR_ rfl (pl1 3 [0] 15 rfl (ie ?_))
 refine zjd rfl hR ?_ ?_<;>clear hR<;>intro hR l g
 ·refine sh 9 [(9,[bx b [iv a] 3])] [] [bx b [iv a] 3] (zml 9 0) okl rfl okl okl okl sb_ B0.refl ?_
  refine zhp [4] 8 (zml 9 16) [(22,.func (.func 159) #[] #[pt b 0])] ?_
  refine zhl 0 [bx b [iv a] 3] (zml 9 17) rfl (A7 (v:=iv a) ty3 rfl rfl 0 rfl rfl) ?_
  refine zhk 1 (zml 9 19) rfl (Q8 (c:=a / 64) rfl rfl rfl ozw (by simp [Int.fdiv_eq_ediv_of_nonneg,IntKind.bits])) (zhk 2 (zml 9 23) rfl (I2 (v:=.int .u8 (IntKind.u8.wrap (a / 64))) (G7.pure rfl) (B6e)) (zhk 3 (zml 9 31) rfl (I2 (v:=.int .u8 (bOp .or .u8 192 ((by8 (IntKind.u8.wrap (a / 64))).toNat:Int))) (G7.pure rfl) (C1m)) ?_))
  refine zho 5 [bx b [iv a] 3] (zml 9 63) rfl (C8 (L2:=[]) (A4u rfl) rfl rfl rfl rfl rfl fn0 (G9 [[bx b [iv a] 3]] [0] 1 rfl ozw rfl [[bx b [iv a] 3]] rfl opv) (fun _=>[bx b [iv a] 3]) (fun _=>rfl)) (fun _=>sb_) (fun _=>fn0) fun _=>?_
  refine zho 6 [bx b [iv a] 3] (zml 9 127) rfl (C3 (c:=cU8) (xs:=([(by8 (bOp .or .u8 192 ((by8 (IntKind.u8.wrap (a / 64))).toNat:Int))),(I3 0 a)]:List UInt8)) A8g rfl rfl rfl okl) (fun f=>sb_) (fun f=>fn0) fun f=>?_
  have:([(by8 (bOp .or .u8 192 ((by8 (IntKind.u8.wrap (a / 64))).toNat:Int))),(I3 0 a)]:List UInt8).length=2:=rfl
  refine zho 7 [bx b [iv a] 3] (zml 9 255) rfl (Det.tri (G7.det (B9p Tryz.underlying9 Tryz.underlying67 rfl rfl (B1 0 rfl) rfl okl))) (fun _=>sb_) (fun _=>fn0) fun _=>?_
  have:([(by8 (bOp .or .u8 192 ((by8 (IntKind.u8.wrap (a / 64))).toNat:Int))),(I3 0 a)]:List UInt8).length=2:=rfl
  refine zhp [8] 0 (zml 9 511) [(2,sv ([(by8 (bOp .or .u8 192 ((by8 (IntKind.u8.wrap (a / 64))).toNat:Int))),(I3 0 a)]:List UInt8))] ?_
  refine A3w okl ?_
  subst hR
  refine A8 ?_
  exact E9 hr hD
 refine sR_ rfl (pl1 3 [0] 26 rfl (ie ?_))
 refine zjd rfl hR ?_ ?_<;>clear hR<;>intro hR j i
 ·refine sh 11 [(11,[bx b [iv a] 3])] [] [bx b [iv a] 3] (zml 11 0) okl rfl okl okl okl sb_ B0.refl ?_
  refine zhp [4,6] 9 (zml 11 80) [(33,.func (.func 159) #[] #[pt b 0]),(35,.func (.func 159) #[] #[pt b 0])] ?_
  refine zhl 0 [bx b [iv a] 3] (zml 11 81) rfl (A7 (v:=iv a) ty3 rfl rfl 0 rfl rfl) ?_
  refine zhk 1 (zml 11 83) rfl (Q8 (c:=a / 4096) rfl rfl rfl ozw (by simp [Int.fdiv_eq_ediv_of_nonneg,IntKind.bits])) (zhk 2 (zml 11 87) rfl (I2 (v:=.int .u8 (IntKind.u8.wrap (a / 4096))) (G7.pure rfl) (B6e)) (zhk 3 (zml 11 95) rfl (I2 (v:=.int .u8 (bOp .or .u8 224 ((by8 (IntKind.u8.wrap (a / 4096))).toNat:Int))) (G7.pure rfl) (C1m)) ?_))
  refine zho 5 [bx b [iv a] 3] (zml 11 127) rfl (C8 (L2:=[]) (A4u rfl) rfl rfl rfl rfl rfl fn0 (G9 [[bx b [iv a] 3]] [0] 1 rfl ozw rfl [[bx b [iv a] 3]] rfl opv) (fun _=>[bx b [iv a] 3]) (fun _=>rfl)) (fun _=>sb_) (fun _=>fn0) fun _=>?_
  refine zho 7 [bx b [iv a] 3] (zml 11 255) rfl (C8 (L2:=[]) (A4u rfl) rfl rfl rfl rfl rfl fn0 (G9 [[bx b [iv a] 3]] [0] 1 rfl ozw rfl [[bx b [iv a] 3]] rfl opv) (fun _=>[bx b [iv a] 3]) (fun _=>rfl)) (fun _=>sb_) (fun _=>fn0) fun _=>?_
  refine zho 8 [bx b [iv a] 3] (zml 11 511) rfl (C3 (c:=cU8) (xs:=([(by8 (bOp .or .u8 224 ((by8 (IntKind.u8.wrap (a / 4096))).toNat:Int))),(I3 6 a),(I3 0 a)]:List UInt8)) A8g rfl rfl rfl okl) (fun d=>sb_) (fun d=>fn0) fun d=>?_
  have:([(by8 (bOp .or .u8 224 ((by8 (IntKind.u8.wrap (a / 4096))).toNat:Int))),(I3 6 a),(I3 0 a)]:List UInt8).length=3:=rfl
  refine zho 9 [bx b [iv a] 3] (zml 11 1023) rfl (Det.tri (G7.det (B9p Tryz.underlying9 Tryz.underlying67 rfl rfl (B1 0 rfl) rfl okl))) (fun _=>sb_) (fun _=>fn0) fun _=>?_
  have:([(by8 (bOp .or .u8 224 ((by8 (IntKind.u8.wrap (a / 4096))).toNat:Int))),(I3 6 a),(I3 0 a)]:List UInt8).length=3:=rfl
  refine zhp [10] 0 (zml 11 2047) [(2,sv ([(by8 (bOp .or .u8 224 ((by8 (IntKind.u8.wrap (a / 4096))).toNat:Int))),(I3 6 a),(I3 0 a)]:List UInt8))] ?_
  refine A3w okl ?_
  subst hR
  refine A8 ?_
  exact E9 hr hD
 refine A6 (nx (sh 13 [(13,[bx b [iv a] 3])] [] [bx b [iv a] 3] (zml 13 0) okl rfl okl okl okl sb_ B0.refl ?_))
 refine zhp [4,6,8] 10 (zml 13 336) [(43,.func (.func 159) #[] #[pt b 0]),(45,.func (.func 159) #[] #[pt b 0]),(47,.func (.func 159) #[] #[pt b 0])] ?_
 refine zhl 0 [bx b [iv a] 3] (zml 13 337) rfl (A7 (v:=iv a) ty3 rfl rfl 0 rfl rfl) ?_
 refine zhk 1 (zml 13 339) rfl (Q8 (c:=a / 262144) rfl rfl rfl ozw (by simp [Int.fdiv_eq_ediv_of_nonneg,IntKind.bits])) (zhk 2 (zml 13 343) rfl (I2 (v:=.int .u8 (IntKind.u8.wrap (a / 262144))) (G7.pure rfl) (B6e)) (zhk 3 (zml 13 351) rfl (I2 (v:=.int .u8 (bOp .or .u8 240 ((by8 (IntKind.u8.wrap (a / 262144))).toNat:Int))) (G7.pure rfl) (C1m)) ?_))
 refine zho 5 [bx b [iv a] 3] (zml 13 383) rfl (C8 (L2:=[]) (A4u rfl) rfl rfl rfl rfl rfl fn0 (G9 [[bx b [iv a] 3]] [0] 1 rfl ozw rfl [[bx b [iv a] 3]] rfl opv) (fun _=>[bx b [iv a] 3]) (fun _=>rfl)) (fun _=>sb_) (fun _=>fn0) fun _=>?_
 refine zho 7 [bx b [iv a] 3] (zml 13 511) rfl (C8 (L2:=[]) (A4u rfl) rfl rfl rfl rfl rfl fn0 (G9 [[bx b [iv a] 3]] [0] 1 rfl ozw rfl [[bx b [iv a] 3]] rfl opv) (fun _=>[bx b [iv a] 3]) (fun _=>rfl)) (fun _=>sb_) (fun _=>fn0) fun _=>?_
 refine zho 9 [bx b [iv a] 3] (zml 13 1023) rfl (C8 (L2:=[]) (A4u rfl) rfl rfl rfl rfl rfl fn0 (G9 [[bx b [iv a] 3]] [0] 1 rfl ozw rfl [[bx b [iv a] 3]] rfl opv) (fun _=>[bx b [iv a] 3]) (fun _=>rfl)) (fun _=>sb_) (fun _=>fn0) fun _=>?_
 refine zho 10 [bx b [iv a] 3] (zml 13 2047) rfl (C3 (c:=cU8) (xs:=([(by8 (bOp .or .u8 240 ((by8 (IntKind.u8.wrap (a / 262144))).toNat:Int))),(I3 12 a),(I3 6 a),(I3 0 a)]:List UInt8)) A8g rfl rfl rfl okl) (fun e=>sb_) (fun e=>fn0) fun e=>?_
 have:([(by8 (bOp .or .u8 240 ((by8 (IntKind.u8.wrap (a / 262144))).toNat:Int))),(I3 12 a),(I3 6 a),(I3 0 a)]:List UInt8).length=4:=rfl
 refine zho 11 [bx b [iv a] 3] (zml 13 4095) rfl (Det.tri (G7.det (B9p Tryz.underlying9 Tryz.underlying67 rfl rfl (B1 0 rfl) rfl okl))) (fun _=>sb_) (fun _=>fn0) fun _=>?_
 have:([(by8 (bOp .or .u8 240 ((by8 (IntKind.u8.wrap (a / 262144))).toNat:Int))),(I3 12 a),(I3 6 a),(I3 0 a)]:List UInt8).length=4:=rfl
 refine zhp [12] 0 (zml 13 8191) [(2,sv ([(by8 (bOp .or .u8 240 ((by8 (IntKind.u8.wrap (a / 262144))).toNat:Int))),(I3 12 a),(I3 6 a),(I3 0 a)]:List UInt8))] ?_
 refine A3w okl ?_
 subst hR
 refine A8 ?_
 exact E9 hr hD
def J9 (a:List UInt8) (s:List UInt8):List UInt8×Int :=
 ((a++s),(s.length:Int))
theorem V6 (a s:List UInt8):(J9 a s).1.length=a.length+s.length:=by simp [J9]
theorem ofv {p:Prop} (h:p:=by first|omega|(simp only [List.length_cons,List.length_nil,List.length_append,List.length_take,List.length_drop];omega)):p:=h
theorem A1f {a s:List UInt8} {e:Nat} {b:Option Addr} {bbufr:VR} {R:List UInt8×Int} (hR:J9 a s=R) (d:b=none∨b=some ⟨e,0,none⟩:=by exact om_) (c:VOk 1 a.length bbufr:=by exact om_) (h:a.length+s.length≤140737488355328:=by exact om_):Con Tryz.prog 163 [pt e 0,sv s] (bx e [.pointer b,.slice (va bbufr.q) a.length bbufr.k] 215::((vo cU8 5 bbufr a)++([]))) [] ({r:VR // VOk 1 R.1.length r}) (fun x=>.tuple #[iv R.2,.nilIface]) (fun x=>(bx e [pt e 0,.slice (va x.1.q) R.1.length x.1.k] 215::((vo cU8 5 x.1 R.1)++([])))) (fun x=>[]):=by
 refine zce Tryz.func163 fun X hX hr hD=>?_
 replace hR:=(J9.eq_1 ..).symm.trans hR
 have:=VOk.le c
 refine sR_ rfl (pp0 2 rfl (ie (sR_ rfl (pp1 1 6 rfl ?_))))
 refine zc rfl (C2c e (.slice (va bbufr.q) a.length bbufr.k) b d) fun _=>?_
 refine ie (sR_ rfl (pl3 6 [0] 8 12 13 rfl (it rfl (B4w (r:=bbufr) (xs:=a) (s:=s) (pre:=[bx e [pt e 0,.slice (va bbufr.q) a.length bbufr.k] 215]) (post:=[]) C7q okl Tryz.underlying9 rfl rfl rfl rfl rfl rfl rfl c ofv) fun ⟨g,f⟩=>?_)))
 have:=@List.length_append _ a s
 have:=VOk.le f
 have:=VOk.cap f
 refine zrg 3 0 [0] [] (bx e [pt e 0,.slice (va g.q) ((a++s).length) g.k] 215::((vo cU8 5 g (a++s))++([]))) (ie (sR_ rfl (pp2 4 4 5 rfl ?_)))
 subst hR
 refine ie (A8 ?_)
 exact zer hr hD (U6 rfl (B9 rfl) (B9 rfl)) ⟨g,f⟩ sb_ fn0
def A7i:List Int→Nat→List UInt8→List UInt8
 | [],t8,bbuf=>bbuf
 | hd_l0::tl_l0,t8,bbuf=>(C9 (B5v hd_l0) fun (b:List UInt8)=>(C9 (J9 bbuf b) fun (a:List UInt8×Int)=>A7i tl_l0 (t8+1) a.1))
def B8r (a:List Int):List UInt8 :=
 A7i a 0 ([]:List UInt8)
theorem odi {p:Prop} (h:p:=by first|omega|(simp only [List.length_append];omega)):p:=h
theorem olr {p:Prop} (h:p:=by (try dsimp only);omega):p:=h
theorem D3f {a:List Int} {g:Option Addr} {codesk:Nat} {R:List UInt8} (hR:B8r a=R) (o:a.length≤9223372036854775807:=by exact om_) (r:a.length≤codesk:=by exact om_) (hp:a.length≤1000000000:=by exact om_):G3 Tryz.prog 246 [.slice g a.length codesk] [sl H8 g a] (sv R):=by
 refine zce Tryz.func246 fun X hX hr hD=>?_
 replace hR:=(B8r.eq_1 ..).symm.trans hR
 refine sR_ rfl (pp0 1 rfl (ie (sR_ rfl (H9 1 0 [] (fun j=>[(3,pt j 0)]) (fun j=>[bx j [.pointer none,.slice none 0 0] 215]) (fun j=>(ie (A5 (sR_ rfl (pp3 3 6 7 8 rfl (ie (B4 (P9 (G9 [vo cU8 5 VR.nil ([]:List UInt8),[bx j [.pointer none,.slice none 0 0] 215]] [1,0] 2 rfl ozw rfl [[bx j [.pointer none,.slice none 0 0] 215],vo cU8 5 VR.nil ([]:List UInt8)] rfl opv) ?_))))))))))))
 refine A5o (un fun (i:Nat)=>un fun (b:Option Addr)=>un fun (e:List UInt8) (d:VR)=>(i≤a.length∧A7i (a.drop i) i e=R∧(b=none∨b=some ⟨j,0,none⟩)∧VOk 1 e.length d∧e.length≤4 * i,[(3,pt j 0),(6,.slice g a.length codesk),(7,iv (a.length:Int)),(8,iv (i:Int))],(bx j [.pointer b,.slice (va d.q) e.length d.k] 215::((vo cU8 5 d e)++([]))),[sl H8 g a],a.length - i)) (0,none,([]:List UInt8),VR.nil) ⟨opx,hR,(.inl rfl),VOk.nil,oom⟩ sb_ B0.refl ?_
 rintro ⟨i,b,e,d⟩ ⟨x,hR,h,f,w⟩
 have:=VOk.le f
 refine sR_ rfl (pp1 1 9 rfl ?_)
 refine ie (A5 (W8 rfl (fun v=>?_) (fun v=>?_)))
 ·have n:=bq_ v
  rw [A0r 0 (show i<a.length by omega)] at hR;replace hR:=(A7i.eq_2 ..).symm.trans hR
  refine A6 (nx (A5 (B4 (sR_ rfl (P3 0 rfl opx fun a4 m=>(ix rfl (K2 K5 rfl rfl m rfl i rfl opx) (ix rfl (D6 ty3 rfl rfl (N0 (c:=H8) (sz:=1) m (fun _=>rfl) 0 rfl (gd 0 opx)) rfl) (pp1 1 5 rfl (ie (A1 3 rfl (pp1 1 12 rfl ?_)))))))))))
  have u:=D0 hR;clear hR;obtain ⟨y,p,hR⟩:=u
  refine zv rfl (C7g p) ?_
  have:=B5o (a.getD i 0);try rw [p] at this
  have u:=D0 hR;clear hR;obtain ⟨y3,s,hR⟩:=u
  refine zc rfl (A1f s h f (by first|omega|(simp only [List.length_append,List.length_cons,List.length_nil,List.length_take,List.length_drop,List.length_set];omega)|(have t:=w.2 _ (List.mem_cons_self ..);unfold A7w at t;have z:=w.1;simp only [List.length_append,List.length_cons,List.length_nil] at *;omega))) fun ⟨r6,l⟩=>?_
  have:=VOk.le l
  have:=VOk.cap l
  have:=V6 e y;try rw [s] at this
  refine A3 (nx (A1 2 rfl (ix rfl (C0 rfl rfl rfl rfl opx) (pp1 1 8 rfl (A3 ?_)))))
  exact A1r (z1:=(i,b,e,d)) (i+1,some ⟨j,0,none⟩,y3.1,r6) ⟨opx,hR,(.inr rfl),l,odi⟩ olr sb_ B0.refl
 have n:=bq_ v
 rw [A1i n] at hR;replace hR:=(A7i.eq_1 ..).symm.trans hR
 refine H3 (nx (sR_ rfl (zc rfl (C9s j (.pointer b) e d f) fun _=>?_)))
 refine pp1 1 2 rfl ?_
 subst hR
 refine ie (A8 ?_)
 exact E9 hr hD
def A2w (b:UInt8):Int :=
 (bif ((decide ((240:Int)≤(b.toNat:Int)))&&(decide ((b.toNat:Int)≤244))) then 4 else (bif ((decide ((224:Int)≤(b.toNat:Int)))&&(decide ((b.toNat:Int)<240))) then 3 else (bif ((decide ((194:Int)≤(b.toNat:Int)))&&(decide ((b.toNat:Int)<224))) then 2 else (bif (decide ((b.toNat:Int)<128)) then 1 else 0))))
theorem C6q (b:UInt8):A2w b≤4:=by
 unfold A2w;simp only [Bool.cond_eq_ite];repeat' split
 all_goals omega
theorem C8j {b:UInt8} {R:Int} (hR:A2w b=R):G3 Tryz.prog 331 [.int .u8 (b.toNat:Int)] [] (iv R):=by
 refine zce Tryz.func331 fun X hX hr hD=>?_
 replace hR:=(A2w.eq_1 ..).symm.trans hR
 refine sR_ rfl (pp1 1 2 rfl (ie (A5 (B4 (A5 (B4 (A5 (B4 (A5 (B4 (A5 (B4 (A5 (A5 (sR_ rfl (pp1 3 6 rfl ?_))))))))))))))))
 refine zid 3 1 6 9 (decide ((b.toNat:Int)≤244)) (fun l f=>?_) ?_
 ·refine pp1 3 9 rfl ?_
  exact A3 (P7 2 6 9 l fn0 sb_ rfl rfl rfl rfl rfl)
 refine pp1 1 3 rfl (ie ?_)
 refine zja rfl hR ?_ ?_<;>clear hR<;>intro hR p a
 ·refine H3 (nx (A1 3 rfl (pp1 1 27 rfl ?_)))
  refine ix rfl (C0 (c:=1) rfl rfl rfl rfl ozw) (pp1 1 2 rfl (A3 (nx (A1 3 rfl (pp1 1 29 rfl (ix rfl (C0 (c:=2) rfl rfl rfl rfl ozw) (pp1 1 2 rfl (A3 (nx (A1 3 rfl (pp1 1 31 rfl (ix rfl (C0 (c:=3) rfl rfl rfl rfl ozw) ?_))))))))))))
  refine pp1 1 2 rfl (A3 (nx (sR_ rfl (pp1 1 33 rfl (ix rfl (C0 (c:=4) rfl rfl rfl rfl ozw) (pp1 1 2 rfl (ie (H3 (nx (sR_ rfl (pp1 2 2 rfl ?_)))))))))))
  subst hR
  refine ie (A8 ?_)
  exact E9 hr hD
 refine A6 (nx (A5 (sR_ rfl (pp1 3 13 rfl ?_))))
 refine zid 3 1 13 16 (decide ((b.toNat:Int)<240)) (fun d i=>?_) ?_
 ·refine pp1 3 16 rfl ?_
  exact A3 (P7 2 13 16 d fn0 sb_ rfl rfl rfl rfl rfl)
 refine pp1 1 10 rfl (ie ?_)
 refine zja rfl hR ?_ ?_<;>clear hR<;>intro hR m k
 ·refine H3 (nx (A1 3 rfl (pp1 1 29 rfl ?_)))
  refine ix rfl (C0 (c:=1) rfl rfl rfl rfl ozw) (pp1 1 2 rfl (A3 (nx (A1 3 rfl (pp1 1 31 rfl (ix rfl (C0 (c:=2) rfl rfl rfl rfl ozw) (pp1 1 2 rfl (A3 (nx (sR_ rfl (pp1 1 33 rfl (ix rfl (C0 (c:=3) rfl rfl rfl rfl ozw) ?_))))))))))))
  refine pp1 1 2 rfl (ie (H3 (nx (sR_ rfl (pp1 2 2 rfl ?_)))))
  subst hR
  refine ie (A8 ?_)
  exact E9 hr hD
 refine A6 (nx (A5 (sR_ rfl (pp1 3 20 rfl ?_))))
 refine zid 3 1 20 23 (decide ((b.toNat:Int)<224)) (fun j g=>?_) ?_
 ·refine pp1 3 23 rfl ?_
  exact A3 (P7 2 20 23 j fn0 sb_ rfl rfl rfl rfl rfl)
 refine pp1 1 17 rfl (ie ?_)
 refine zja rfl hR ?_ ?_<;>clear hR<;>intro hR o e
 ·refine H3 (nx (A1 3 rfl (pp1 1 31 rfl ?_)))
  refine ix rfl (C0 (c:=1) rfl rfl rfl rfl ozw) (pp1 1 2 rfl (A3 (nx (sR_ rfl (pp1 1 33 rfl (ix rfl (C0 (c:=2) rfl rfl rfl rfl ozw) (pp1 1 2 rfl (ie (H3 (nx (sR_ rfl (pp1 2 2 rfl ?_))))))))))))
  subst hR
  refine ie (A8 ?_)
  exact E9 hr hD
 refine A6 (nx (sR_ rfl (pp1 3 24 rfl (ie ?_))))
 refine zjd rfl hR ?_ ?_<;>clear hR<;>intro hR n h
 ·refine H3 (nx (sR_ rfl (pp1 1 33 rfl ?_)))
  refine ix rfl (C0 (c:=1) rfl rfl rfl rfl ozw) (pp1 1 2 rfl (ie (H3 (nx (sR_ rfl (pp1 2 2 rfl ?_))))))
  subst hR
  refine ie (A8 ?_)
  exact E9 hr hD
 refine A6 (nx (H3 (nx (sR_ rfl (pp1 2 2 rfl ?_)))))
 subst hR
 refine ie (A8 ?_)
 exact E9 hr hD
def B7s (b:UInt8):UInt8×UInt8 :=
 (bif (decide ((b.toNat:Int)=224)) then ((160:UInt8),(191:UInt8)) else (bif (decide ((b.toNat:Int)=237)) then ((128:UInt8),(159:UInt8)) else (bif (decide ((b.toNat:Int)=240)) then ((144:UInt8),(191:UInt8)) else (bif (decide ((b.toNat:Int)=244)) then ((128:UInt8),(143:UInt8)) else ((128:UInt8),(191:UInt8))))))
theorem C8s {b:UInt8} {R:UInt8×UInt8} (hR:B7s b=R):G3 Tryz.prog 332 [.int .u8 (b.toNat:Int)] [] (.tuple #[.int .u8 (R.1.toNat:Int),.int .u8 (R.2.toNat:Int)]):=by
 refine zce Tryz.func332 fun X hX hr hD=>?_
 replace hR:=(B7s.eq_1 ..).symm.trans hR
 refine sR_ rfl (pp0 2 rfl (ie (A5 (sR_ rfl (pp1 1 4 rfl (ie (B4 (sR_ rfl (pp1 2 5 rfl (ie ?_))))))))))
 refine zjd rfl hR ?_ ?_<;>clear hR<;>intro hR f a
 ·refine sR_ rfl (pp2 2 2 3 rfl ?_)
  subst hR
  refine ie (A8 ?_)
  exact A8m hr hD
 refine sR_ rfl (pp1 2 7 rfl (ie ?_))
 refine zjd rfl hR ?_ ?_<;>clear hR<;>intro hR i e
 ·refine sR_ rfl (pp2 2 2 3 rfl ?_)
  subst hR
  refine ie (A8 ?_)
  exact A8m hr hD
 refine sR_ rfl (pp1 2 9 rfl (ie ?_))
 refine zjd rfl hR ?_ ?_<;>clear hR<;>intro hR h c
 ·refine sR_ rfl (pp2 2 2 3 rfl ?_)
  subst hR
  refine ie (A8 ?_)
  exact A8m hr hD
 refine sR_ rfl (pp1 2 11 rfl (ie ?_))
 refine zjd rfl hR ?_ ?_<;>clear hR<;>intro hR g d
 ·refine sR_ rfl (pp2 2 2 3 rfl ?_)
  subst hR
  refine ie (A8 ?_)
  exact A8m hr hD
 refine A6 (nx (sR_ rfl (pp2 2 2 3 rfl ?_)))
 subst hR
 refine ie (A8 ?_)
 exact A8m hr hD
def A7t (p:List UInt8):List UInt8→UInt8→UInt8→Nat→Int
 | [],low,high,t26=>(bif (decide ((p.length:Int)<(A2w (p.getD 0 0)))) then 1 else 2)
 | hd_l0::tl_l0,low,high,t26=>(bif ((decide ((hd_l0.toNat:Int)<(low.toNat:Int)))||(decide ((high.toNat:Int)<(hd_l0.toNat:Int)))) then 0 else A7t p tl_l0 (128:UInt8) (191:UInt8) (t26+1))
def A4f (p:List UInt8):Int :=
 (bif (decide ((A2w (p.getD 0 0))<(p.length:Int))) then 0 else (C9 (B7s (p.getD 0 0)) fun (a:UInt8×UInt8)=>A7t p (p.drop 1) a.1 a.2 0))
theorem C4q {p:List UInt8} (h:A4f p=1):p.length≤4:=by
 unfold A4f at h;have:=C6q (p.getD 0 0);revert h this;generalize p.getD 0 0=z;intro h this
 cases hc:decide (A2w z<(p.length:Int))<;>rw [hc] at h<;>simp at h hc
 omega
theorem ofx {p:Prop} (h:p:=by first|rfl|omega|(simp only [List.length_take,List.length_drop];omega)|(simp;done)):p:=h
theorem B8k {p:List UInt8} {f:Option Addr} {pk:Nat} {R:Int} (hR:A4f p=R) (n:p.length≤9223372036854775807:=by exact om_) (o:p.length≤pk:=by exact om_) (w:1≤p.length:=by exact om_):G3 Tryz.prog 323 [.slice f p.length pk] [sl cU8 f p] (iv R):=by
 refine zce Tryz.func323 fun X hX hr hD=>?_
 replace hR:=(A4f.eq_1 ..).symm.trans hR
 refine sR_ rfl (pp0 1 rfl (ie (sR_ rfl (pp1 1 8 rfl (P3 0 rfl opx fun a1 e=>(ix rfl (K2 A8g rfl rfl e rfl 0 rfl opx) (ix rfl (D6 ty5 rfl rfl (N0 (c:=cU8) (sz:=1) e (fun _=>rfl) 0 rfl (gd 0 opx)) rfl) (zv rfl (C8j rfl) (pp1 1 3 rfl ?_)))))))))
 refine ie (A5 (sR_ rfl (pp1 4 15 rfl (ie ?_))))
 refine zjd rfl hR ?_ ?_<;>clear hR<;>intro hR y q
 ·refine sR_ rfl (pp1 1 2 rfl ?_)
  subst hR
  refine ie (A8 ?_)
  exact E9 hr hD
 refine A6 (nx (sR_ rfl (pp1 1 17 rfl (ix rfl (K2 A8g rfl rfl e rfl 0 rfl opx) (ix rfl (D6 ty5 rfl rfl (N0 (c:=cU8) (sz:=1) e (fun _=>rfl) 0 rfl (gd 0 opx)) rfl) ?_)))))
 have s:=D0 hR;clear hR;obtain ⟨l,j,hR⟩:=s
 refine zv rfl (C8s j) (pp2 5 4 5 rfl (ie (A5 (sR_ rfl (pp1 1 23 rfl (D7 (D3s (c:=cU8) (sz:=1) (xs:=p) (B1 0 rfl) 1 pk (fun _=>rfl) opx opx) ?_))))))
 refine ix rfl (B6a (n':=(p.drop 1).length) A8g rfl rfl 1 p.length pk (A3t rfl rfl) A6w A6w opx opx opx ofx rfl) ?_
 have:=@List.length_drop _ 1 p
 refine pp2 2 25 26 rfl (ie (B4 (A5o (un fun (d:UInt8)=>un fun (b:UInt8) (a:Nat)=>(a≤(p.drop 1).length∧A7t p ((p.drop 1).drop a) d b a=R,[(0,.slice f p.length pk),(3,iv (A2w (p.getD 0 0))),(4,.int .u8 (d.toNat:Int)),(5,.int .u8 (b.toNat:Int)),(24,.slice (B8j f 1 1 pk) ((p.drop 1).length) (pk - 1)),(25,iv ((p.drop 1).length:Int)),(26,iv (a:Int))],[],[sl cU8 (B8j f 1 1 pk) (p.drop 1),sl cU8 f p],(p.drop 1).length - a)) (l.1,l.2,0) ⟨opx,hR⟩ sb_ B0.refl ?_)))
 rintro ⟨d,b,a⟩ ⟨t,hR⟩
 refine sR_ rfl (pp1 1 27 rfl ?_)
 refine ie (A5 (W8 rfl (fun i=>?_) (fun i=>?_)))
 ·have g:=bq_ i
  rw [A0r 0 (show a<(p.drop 1).length by omega)] at hR;replace hR:=(A7t.eq_2 ..).symm.trans hR
  refine A6 (nx (A5 (B4 (sR_ rfl (P3 0 rfl opx fun z h=>(ix rfl (K2 A8g rfl rfl h rfl a rfl opx) (ix rfl (D6 ty5 rfl rfl (N0 (c:=cU8) (sz:=1) h (fun _=>rfl) 0 rfl (gd 0 opx)) rfl) (pp1 1 7 rfl (ie (A5 (sR_ rfl (pp1 4 33 rfl ?_))))))))))))
  refine zir 4 0 33 37 (decide ((b.toNat:Int)<(((p.drop 1).getD a 0).toNat:Int))) (fun v m=>?_) ?_
  ·refine pp1 4 37 rfl ?_
   exact zai 2 33 37 v
  refine ie ?_
  refine zjo rfl hR ?_ ?_<;>clear hR<;>intro hR x r
  ·refine sR_ rfl (pp1 1 2 rfl ?_)
   subst hR
   refine ie (A8 ?_)
   exact E9 hr hD
  refine A6 (nx (A1 2 rfl (pp2 2 4 5 rfl (A3 (nx (A1 2 rfl (ix rfl (C0 rfl rfl rfl rfl opx) (pp1 1 26 rfl (A3 ?_)))))))))
  exact A1r (z1:=(d,b,a)) ((128:UInt8),(191:UInt8),a+1) ⟨opx,hR⟩ olr sb_ B0.refl
 have g:=bq_ i
 rw [A1i g] at hR;replace hR:=(A7t.eq_1 ..).symm.trans hR
 refine H3 (nx (A5 (sR_ rfl (pp1 4 42 rfl ?_))))
 refine ie ?_
 refine zjd rfl hR ?_ ?_<;>clear hR<;>intro hR u k
 ·refine sR_ rfl (pp1 1 2 rfl ?_)
  subst hR
  refine ie (A8 ?_)
  exact E9 hr hD
 refine A6 (nx (sR_ rfl (pp1 1 2 rfl ?_)))
 subst hR
 refine ie (A8 ?_)
 exact E9 hr hD
def A2n (pending:List UInt8):Bool :=
 ((decide ((pending.length:Int)=0))||(decide ((A4f pending)=1)))
theorem C2b {pending:List UInt8} {pendingq:Option Addr} {pendingk:Nat} {R:Bool} (hR:A2n pending=R) (b:pending.length≤9223372036854775807:=by exact om_) (a:pending.length≤pendingk:=by exact om_):G3 Tryz.prog 322 [.slice pendingq pending.length pendingk] [sl cU8 pendingq pending] (bv R):=by
 refine zce Tryz.func322 fun X hX hr hD=>?_
 replace hR:=(A2n.eq_1 ..).symm.trans hR
 refine sR_ rfl (pp0 1 rfl (ie (sR_ rfl (pp1 4 6 rfl ?_))))
 refine zir 4 1 6 10 (decide ((A4f pending)=1)) (fun d c=>?_) ?_
 ·refine pp1 1 7 rfl (zv rfl (B8k rfl) (pp1 2 10 rfl ?_))
  exact zai 4 6 10 d
 refine pp1 1 2 rfl ?_
 subst hR
 refine ie (A8 ?_)
 exact E9 hr hD
def A7q:List UInt8→Int→Nat→Int
 | [],cp1,t22=>cp1
 | hd_l0::tl_l0,cp1,t22=>A7q tl_l0 (bOp .or .i64 (IntKind.i64.wrap (cp1 * 64)) ((by8 (bOp .and .u8 (hd_l0.toNat:Int) 63)).toNat:Int)) (t22+1)
def B1c (p:List UInt8) (cp:Int):Int :=
 A7q (p.drop 1) cp 0
def A7k (p:List UInt8):Int :=
 (bif (decide ((1:Int)<(p.length:Int))) then B1c p (bOp .and .i64 ((p.getD 0 0).toNat:Int) (Int.fdiv (255:Int) (2 ^ (min (((p.length:Int)+1)).toNat 64)))) else B1c p ((p.getD 0 0).toNat:Int))
theorem C5v {p:List UInt8} {d:Option Addr} {pk:Nat} {R:Int} (hR:A7k p=R) (j:p.length≤9223372036854775807:=by exact om_) (m:p.length≤pk:=by exact om_) (n:1≤p.length:=by exact om_) (k:p.length≤1000000:=by exact om_):G3 Tryz.prog 324 [.slice d p.length pk] [sl cU8 d p] (iv R):=by
 refine zce Tryz.func324 fun X hX hr hD=>?_
 replace hR:=(A7k.eq_1 ..).symm.trans hR
 refine sR_ rfl (pp0 1 rfl (ie (sR_ rfl (pp1 1 6 rfl (P3 0 rfl opx fun o g=>(ix rfl (K2 A8g rfl rfl g rfl 0 rfl opx) (ix rfl (D6 ty5 rfl rfl (N0 (c:=cU8) (sz:=1) g (fun _=>rfl) 0 rfl (gd 0 opx)) rfl) (ix rfl (B1y (c:=((p.getD 0 0).toNat:Int)) Tryz.underlying3 okl rfl rfl (B0w (p.getD 0 0))) (pp1 1 3 rfl ?_)))))))))
 refine ie (C1d (fun (cp:Int)=>(B1c p cp=R,[(0,.slice d p.length pk),(3,iv cp)],[],[sl cU8 d p])) ?_ ?_)
 ·refine sR_ rfl (pp1 3 12 rfl (ie ?_))
  refine zjd rfl hR ?_ ?_<;>clear hR<;>intro hR q i
  ·refine A1 7 rfl (pp2 3 13 15 rfl (ix rfl (C0 rfl rfl rfl rfl opx) (ix rfl (Q8 rfl rfl rfl opx rfl) (pp1 2 3 rfl (A3 ?_)))))
   exact A5f (bOp .and .i64 ((p.getD 0 0).toNat:Int) (Int.fdiv (255:Int) (2 ^ (min (((p.length:Int)+1)).toNat 64)))) hR sb_ B0.refl
  refine A6 ?_
  exact A5f ((p.getD 0 0).toNat:Int) hR sb_ B0.refl
 intro cp
 rintro hR
 replace hR:=(B1c.eq_1 ..).symm.trans hR
 refine A5 (sR_ rfl (pp1 1 19 rfl ?_))
 refine D7 (D3s (c:=cU8) (sz:=1) (xs:=p) (B1 0 rfl) 1 pk (fun _=>rfl) opx opx) ?_
 refine ix rfl (B6a (n':=(p.drop 1).length) A8g rfl rfl 1 p.length pk (A3t rfl rfl) A6w A6w opx opx opx ofx rfl) ?_
 have:=@List.length_drop _ 1 p
 refine pp2 2 21 22 rfl (ie (B4 (A5o (un fun (b:Int) (a:Nat)=>(a≤(p.drop 1).length∧A7q ((p.drop 1).drop a) b a=R,[(3,iv b),(20,.slice (B8j d 1 1 pk) ((p.drop 1).length) (pk - 1)),(21,iv ((p.drop 1).length:Int)),(22,iv (a:Int))],[],[sl cU8 (B8j d 1 1 pk) (p.drop 1),sl cU8 d p],(p.drop 1).length - a)) (cp,0) ⟨opx,hR⟩ sb_ B0.refl ?_)))
 rintro ⟨b,a⟩ ⟨l,hR⟩
 refine sR_ rfl (pp1 1 23 rfl ?_)
 refine ie (A5 (W8 rfl (fun h=>?_) (fun h=>?_)))
 ·have e:=bq_ h
  rw [A0r 0 (show a<(p.drop 1).length by omega)] at hR;replace hR:=(A7q.eq_2 ..).symm.trans hR
  refine A6 (nx (A5 (B4 (sR_ rfl (P3 0 rfl opx fun r f=>(ix rfl (K2 A8g rfl rfl f rfl a rfl opx) (ix rfl (D6 ty5 rfl rfl (N0 (c:=cU8) (sz:=1) f (fun _=>rfl) 0 rfl (gd 0 opx)) rfl) (pp1 1 5 rfl (ie (A1 7 rfl (pp1 1 26 rfl ?_)))))))))))
  refine ix rfl (B5w (c:=(IntKind.i64.wrap (b * 64))) rfl rfl rfl ozw (by simp [IntKind.bits])) (pp1 1 28 rfl (ix rfl (I2 (v:=.int .u8 (bOp .and .u8 (((p.drop 1).getD a 0).toNat:Int) 63)) (G7.pure rfl) (C1m)) (ix rfl (B1y (c:=((by8 (bOp .and .u8 (((p.drop 1).getD a 0).toNat:Int) 63)).toNat:Int)) Tryz.underlying3 okl rfl rfl (B0w (by8 (bOp .and .u8 (((p.drop 1).getD a 0).toNat:Int) 63)))) (pp1 2 3 rfl (A3 (nx (A1 2 rfl (ix rfl (C0 rfl rfl rfl rfl opx) (pp1 1 22 rfl ?_)))))))))
  refine A3 ?_
  exact A1r (z1:=(b,a)) ((bOp .or .i64 (IntKind.i64.wrap (b * 64)) ((by8 (bOp .and .u8 (((p.drop 1).getD a 0).toNat:Int) 63)).toNat:Int)),a+1) ⟨opx,hR⟩ olr sb_ B0.refl
 have e:=bq_ h
 rw [A1i e] at hR;replace hR:=(A7q.eq_1 ..).symm.trans hR
 refine H3 (nx (sR_ rfl (pp1 2 2 rfl ?_)))
 subst hR
 refine ie (A8 ?_)
 exact E9 hr hD
def B3n:Bool :=
 true
theorem C9f {R:Bool} (hR:B3n=R):G3 Tryz.prog 322 [.slice none 0 0] [] (bv R):=by
 refine zce Tryz.func322 fun X hX hr hD=>?_
 replace hR:=(B3n.eq_1 ..).symm.trans hR
 refine sR_ rfl (pp0 1 rfl (ie (sR_ rfl (pp1 9 2 rfl ?_))))
 subst hR
 refine ie (A8 ?_)
 exact E9 hr hD
def A1p (b:UInt8):List UInt8×List Int :=
 (bif (decide ((A4f (([]:List UInt8)++([b]:List UInt8)))=2)) then (([]:List UInt8),([(A7k (([]:List UInt8)++([b]:List UInt8)))]:List Int)) else (bif (decide ((A4f (([]:List UInt8)++([b]:List UInt8)))=1)) then ((([]:List UInt8)++([b]:List UInt8)),([]:List Int)) else (([]:List UInt8),([65533]:List Int))))
def A4w (b:UInt8):List UInt8×List Int :=
 (bif (!B3n) then A1p b else A1p b)
theorem B7c (b:UInt8):(A4w b).1.length≤4∧(A4w b).2.length≤1:=by
 have a:(A1p b).1.length≤4∧(A1p b).2.length≤1:=by
  unfold A1p;simp only [Bool.cond_eq_ite];repeat' split
  all_goals simp
 unfold A4w;cases (!B3n)<;>exact a
theorem D1j {b:UInt8} {R:List UInt8×List Int} (hR:A4w b=R) (j:([]:List Unit).length≤1000:=by exact om_):Con Tryz.prog 312 [.slice none 0 0,.int .u8 (b.toNat:Int)] [] [] ({t:Option Addr×Nat // R.1.length≤t.2∧R.1.length≤9223372036854775807}×{t:Option Addr×Nat // R.2.length≤t.2∧R.2.length≤9223372036854775807}) (fun x=>.tuple #[.slice x.1.1.1 R.1.length x.1.1.2,.slice x.2.1.1 R.2.length x.2.1.2]) (fun x=>[]) (fun x=>[sl cU8 x.1.1.1 R.1,sl H8 x.2.1.1 R.2]):=by
 refine zce Tryz.func312 fun X hX hr hD=>?_
 replace hR:=(A4w.eq_1 ..).symm.trans hR
 refine sR_ rfl (pp0 2 rfl ?_)
 refine ie (C1d (fun (_:Unit)=>(A1p b=R,[(0,.slice none 0 0),(1,.int .u8 (b.toNat:Int))],[],[])) ?_ ?_)
 ·refine sR_ rfl (pp1 1 7 rfl (zv rfl (C9f rfl) (pp1 1 9 rfl (ie ?_))))
  refine zjb rfl hR ?_ ?_<;>clear hR<;>intro hR n
  ·refine A1 1 rfl (pp1 1 0 rfl (A3 ?_))
   exact A5f () hR sb_ fn0
  refine A6 ?_
  exact A5f () hR sb_ fn0
 intro _
 rintro hR
 replace hR:=(A1p.eq_1 ..).symm.trans hR
 refine sR_ rfl (pp3 5 10 12 14 rfl (ix rfl (B6a A8g rfl rfl 0 0 0 A6w (A3t rfl rfl) (A3t rfl rfl) ozw ozw ozw (n':=0) rfl rfl) (pp1 1 16 rfl (it rfl (C3 (c:=cU8) (xs:=([b]:List UInt8)) A8g rfl rfl rfl okl) fun l=>?_))))
 have:([b]:List UInt8).length=1:=rfl
 refine it rfl (B5c (f:=cU8) (r:=VR.nil) (xs:=([]:List UInt8)) (ys:=([b]:List UInt8)) (pre:=[]) (post:=[]) C7q (fun _=>rfl) (fun _=>rfl) rfl rfl rfl rfl rfl rfl rfl rfl rfl (B1 0 rfl) VOk.nil ofv ofv) fun ⟨d,a⟩=>?_
 have:=VOk.le a
 have:=VOk.cap a
 refine A4k [] [] (T:=5) (c:=cU8) (r:=d) (xs:=(([]:List UInt8)++([b]:List UInt8))) a opv ?_
 refine pp1 1 6 rfl (ie (A5 (sR_ rfl (pp1 1 19 rfl (zv rfl (B8k rfl) (ie (B4 (sR_ rfl (pp1 2 21 rfl (ie ?_))))))))))
 refine zjd rfl hR ?_ ?_<;>clear hR<;>intro hR o e
 ·refine sR_ rfl (pp1 1 23 rfl (zv rfl (C5v rfl) (it rfl (C3 (c:=H8) (xs:=([(A7k (([]:List UInt8)++([b]:List UInt8)))]:List Int)) K5 rfl rfl rfl okl) fun h=>?_)))
  have:([(A7k (([]:List UInt8)++([b]:List UInt8)))]:List Int).length=1:=rfl
  refine pp2 2 4 5 rfl ?_
  subst hR
  refine ie (A8 ?_)
  exact zer hr hD (U6 rfl (B9 rfl) (B9 rfl)) ((zq none 0),(zq (some ⟨h,0,none⟩) 1)) sb_ fo_
 refine sR_ rfl (pp1 2 26 rfl (ie ?_))
 refine zjd rfl hR ?_ ?_<;>clear hR<;>intro hR m i
 ·refine sR_ rfl (pp2 3 4 5 rfl ?_)
  subst hR
  refine ie (A8 ?_)
  exact zer hr hD (U6 rfl (B9 rfl) (B9 rfl)) ((zq (va d.q) d.k),(zq none 0)) sb_ fo_
 refine A6 (nx (A5 (sR_ rfl (pp1 3 31 rfl (ie (G8 rfl (sR_ rfl (it rfl (C3 (c:=H8) (xs:=([65533]:List Int)) K5 rfl rfl rfl okl) fun g=>?_))))))))
 have:([65533]:List Int).length=1:=rfl
 refine pp2 2 4 5 rfl ?_
 subst hR
 refine ie (A8 ?_)
 exact zer hr hD (U6 rfl (B9 rfl) (B9 rfl)) ((zq none 0),(zq (some ⟨g,0,none⟩) 1)) sb_ fo_
def A3a (b:UInt8) (a:List UInt8):List UInt8×List Int :=
 (bif (decide ((A4f (a++([b]:List UInt8)))=2)) then (([]:List UInt8),([(A7k (a++([b]:List UInt8)))]:List Int)) else (bif (decide ((A4f (a++([b]:List UInt8)))=1)) then ((a++([b]:List UInt8)),([]:List Int)) else (bif (decide ((a.length:Int)=0)) then (([]:List UInt8),([65533]:List Int)) else ((A4w b).1,(([65533]:List Int)++(A4w b).2)))))
def K4 (pending:List UInt8) (b:UInt8):List UInt8×List Int :=
 (bif (!(A2n pending)) then A3a b ([]:List UInt8) else A3a b pending)
theorem B9w (p:List UInt8) (b:UInt8):(K4 p b).1.length≤4∧(K4 p b).2.length≤2:=by
 have a:∀ q,(A3a b q).1.length≤4∧(A3a b q).2.length≤2:=by
  intro q;unfold A3a;simp only [Bool.cond_eq_ite];have:=B7c b;repeat' split
  all_goals simp
  ·rename_i h;have:=C4q (by simpa using h);simpa using this
  ·omega
 unfold K4;cases (!(A2n p))<;>exact a _
theorem ofp {p:Prop} (h:p:=by first|omega|(simp only [List.length_take,List.length_drop,List.length_append,List.length_cons,List.length_nil,List.length_set,List.length_map];omega)|decide):p:=h
theorem osj {p:Prop} (h:p:=by first|omega|(simp only [List.length_nil];omega)):p:=h
theorem odv {p:Prop} (h:p:=by rfl):p:=h
theorem D2o {pending:List UInt8} {b:UInt8} {pendingq:Option Addr} {pendingk:Nat} {R:List UInt8×List Int} (hR:K4 pending b=R) (i:pending.length≤9223372036854775807:=by exact om_) (j:pending.length≤pendingk:=by exact om_) (hp:pending.length≤1000:=by exact om_):Con Tryz.prog 312 [.slice pendingq pending.length pendingk,.int .u8 (b.toNat:Int)] [] [sl cU8 pendingq pending] ({t:Option Addr×Nat // R.1.length≤t.2∧R.1.length≤9223372036854775807}×{t:Option Addr×Nat // R.2.length≤t.2∧R.2.length≤9223372036854775807}) (fun x=>.tuple #[.slice x.1.1.1 R.1.length x.1.1.2,.slice x.2.1.1 R.2.length x.2.1.2]) (fun x=>[]) (fun x=>[sl cU8 x.1.1.1 R.1,sl H8 x.2.1.1 R.2]):=by
 refine zce Tryz.func312 fun X hX hr hD=>?_
 replace hR:=(K4.eq_1 ..).symm.trans hR
 refine sR_ rfl (pp0 2 rfl ?_)
 refine ie (C1d (un fun (a:List UInt8)=>un fun (e:Option Addr) (d:Nat)=>(A3a b a=R∧a.length≤d∧a.length≤9223372036854775807∧a.length≤1000,[(0,.slice e a.length d),(1,.int .u8 (b.toNat:Int))],[],[sl cU8 pendingq pending,sl cU8 e a])) ?_ ?_)
 ·refine sR_ rfl (pp1 1 7 rfl (zv rfl (C2b rfl) (pp1 1 9 rfl (ie ?_))))
  refine zjb rfl hR ?_ ?_<;>clear hR<;>intro hR h1
  ·refine A1 1 rfl (pp1 1 0 rfl (A3 ?_))
   exact A5f (([]:List UInt8),none,0) ⟨hR,ofp,ofp,osj⟩ sb_ fo_
  refine A6 ?_
  exact A5f (pending,pendingq,pendingk) ⟨hR,ofp,ofp,osj⟩ sb_ fo_
 rintro ⟨a,e,d⟩
 rintro ⟨hR,h,g,hj⟩
 replace hR:=(A3a.eq_1 ..).symm.trans hR
 refine sR_ rfl (pp3 5 10 12 14 rfl (ix rfl (C5h (n':=a.length) A8g rfl rfl a.length a.length (A3t rfl rfl) (A3t rfl rfl) opx opx (by first|rfl|omega) rfl) (pp1 1 16 rfl (it rfl (C3 (c:=cU8) (xs:=([b]:List UInt8)) A8g rfl rfl rfl okl) fun b2=>?_))))
 have:([b]:List UInt8).length=1:=rfl
 refine it rfl (C3k (f:=cU8) (xs:=a) (ys:=([b]:List UInt8)) C7q (fun _=>rfl) (fun _=>rfl) rfl rfl rfl rfl rfl rfl opx opx odv (B1 2 rfl) (B1 0 rfl) ofv ofv) fun ⟨⟨q3,k4⟩,y⟩=>?_
 refine pp1 1 6 rfl (ie (A5 (sR_ rfl (pp1 1 19 rfl (zv rfl (B8k rfl) (ie (B4 (sR_ rfl (pp1 2 21 rfl (ie ?_))))))))))
 refine zjd rfl hR ?_ ?_<;>clear hR<;>intro hR h6 a5
 ·refine sR_ rfl (pp1 1 23 rfl (zv rfl (C5v rfl) (it rfl (C3 (c:=H8) (xs:=([(A7k (a++([b]:List UInt8)))]:List Int)) K5 rfl rfl rfl okl) fun b7=>?_)))
  have:([(A7k (a++([b]:List UInt8)))]:List Int).length=1:=rfl
  refine pp2 2 4 5 rfl ?_
  subst hR
  refine ie (A8 ?_)
  exact zer hr hD (U6 rfl (B9 rfl) (B9 rfl)) ((zq none 0),(zq (some ⟨b7,0,none⟩) 1)) sb_ fo_
 refine sR_ rfl (pp1 2 26 rfl (ie ?_))
 refine zjd rfl hR ?_ ?_<;>clear hR<;>intro hR h8 a2
 ·refine sR_ rfl (pp2 3 4 5 rfl ?_)
  subst hR
  refine ie (A8 ?_)
  exact zer hr hD (U6 rfl (B9 rfl) (B9 rfl)) ((zq q3 k4),(zq none 0)) sb_ fo_
 refine A6 (nx (A5 (sR_ rfl (pp1 3 31 rfl (ie ?_)))))
 refine zjd rfl hR ?_ ?_<;>clear hR<;>intro hR h9 a6
 ·refine sR_ rfl (it rfl (C3 (c:=H8) (xs:=([65533]:List Int)) K5 rfl rfl rfl okl) fun m=>?_)
  have:([65533]:List Int).length=1:=rfl
  refine pp2 2 4 5 rfl ?_
  subst hR
  refine ie (A8 ?_)
  exact zer hr hD (U6 rfl (B9 rfl) (B9 rfl)) ((zq none 0),(zq (some ⟨m,0,none⟩) 1)) sb_ fo_
 refine A6 (nx (sR_ rfl (pp1 1 34 rfl ?_)))
 refine zc rfl (D1j rfl) fun ⟨⟨⟨q,o⟩,k⟩,⟨⟨z,a0⟩,l⟩⟩=>?_
 obtain ⟨u,v⟩:=k
 obtain ⟨w,r⟩:=l
 have:=B7c b
 refine pp2 5 4 5 rfl (ie (sR_ rfl (pp1 1 38 rfl (it rfl (C3 (c:=H8) (xs:=([65533]:List Int)) K5 rfl rfl rfl okl) fun a7=>?_))))
 have:([65533]:List Int).length=1:=rfl
 refine pp1 1 40 rfl (it rfl (C3k (f:=H8) (xs:=([65533]:List Int)) (ys:=(A4w b).2) D7b (fun _=>rfl) (fun _=>rfl) rfl rfl rfl rfl rfl rfl opx opx odv (B1 0 rfl) (B1 2 rfl) ofv ofv) fun ⟨⟨n,p⟩,s⟩=>?_)
 refine pp2 2 4 5 rfl ?_
 subst hR
 refine ie (A8 ?_)
 exact zer hr hD (U6 rfl (B9 rfl) (B9 rfl)) ((zq q o),(zq n p)) sb_ fo_
def C0y (pending:List UInt8):List Int :=
 (bif ((decide ((0:Int)<(pending.length:Int)))&&(A2n pending)) then ([65533]:List Int) else ([]:List Int))
theorem C3g (p:List UInt8):C0y p=(bif (decide (0<(p.length:Int))&&A2n p) then [65533] else []):=rfl
theorem C1o {pending:List UInt8} {pendingq:Option Addr} {pendingk:Nat} {R:List Int} (hR:C0y pending=R) (b:pending.length≤9223372036854775807:=by exact om_) (a:pending.length≤pendingk:=by exact om_) (i:pending.length≤1000:=by exact om_):Con Tryz.prog 313 [.slice pendingq pending.length pendingk] [] [sl cU8 pendingq pending] ({t:Option Addr×Nat // R.length≤t.2∧R.length≤9223372036854775807}) (fun x=>.slice x.1.1 R.length x.1.2) (fun x=>[]) (fun x=>[sl H8 x.1.1 R]):=by
 refine zce Tryz.func313 fun X hX hr hD=>?_
 replace hR:=(C0y.eq_1 ..).symm.trans hR
 refine sR_ rfl (pp0 1 rfl (ie (A5 (sR_ rfl (pp1 4 6 rfl ?_)))))
 refine zid 3 0 6 9 (A2n pending) (fun h g=>?_) ?_
 ·refine pp1 1 7 rfl (zv rfl (C2b rfl) (pp1 1 9 rfl ?_))
  exact zai 4 6 9 h
 refine ie ?_
 refine zjb rfl hR ?_ ?_<;>clear hR<;>intro hR e
 ·have d:=bq_ e
  refine sR_ rfl (it rfl (C3 (c:=H8) (xs:=([65533]:List Int)) K5 rfl rfl rfl okl) fun f=>?_)
  have:([65533]:List Int).length=1:=rfl
  refine pp1 1 2 rfl ?_
  subst hR
  refine ie (A8 ?_)
  exact zer hr hD (O3 rfl (B9 rfl)) (zq (some ⟨f,0,none⟩) 1) sb_ fo_
 have d:=bq_ e
 refine A6 (nx (sR_ rfl (pp1 1 2 rfl ?_)))
 subst hR
 refine ie (A8 ?_)
 exact zer hr hD (O3 rfl (B9 rfl)) (zq none 0) sb_ fo_
def Z7 (s:List UInt8):List UInt8 :=
 s
theorem D2z {s R:List UInt8} (hR:Z7 s=R):Con Tryz.prog 285 [sv s] [] [] (Addr) (fun x=>.func (.func 311) #[] #[pa x]) (fun x=>[]) (fun x=>[at_ x [sv R]]):=by
 refine zce Tryz.func285 fun X hX hr hD=>?_
 replace hR:=(Z7.eq_1 ..).symm.trans hR
 refine sR_ rfl (it rfl (X7 (cs:=[sv s]) rfl rfl rfl) fun a=>?_)
 refine A1s 0 rfl ?_
 refine pp0 1 rfl (ie (sR_ rfl (ip' 2 0 [(2,.func (.func 311) #[] #[pa ⟨a,0,none⟩])] ?_)))
 subst hR
 refine ie (A8 ?_)
 exact zer hr hD (O3 rfl (B9 rfl)) ⟨a,0,none⟩ sb_ fo_
def Y3 (c0:List UInt8) (pending:List UInt8) (b:Nat) (a:List UInt8→Nat→List Int):List Int→Nat→List Int
 | [],t27=>a ((K4 pending (c0.getD b 0)).1) (b+1)
 | c::tl_l4,t27=>(c::Y3 c0 pending b a tl_l4 (t27+1))
def W4 (c0:List UInt8):List UInt8→List UInt8→Nat→List Int
 | [],pending,t13=>(bif (decide (0<(pending.length:Int))&&A2n pending) then ((([65533]:List Int).getD 0 0)::[]) else [])
 | hd_l3::tl_l3,pending,t13=>Y3 c0 pending t13 (W4 c0 tl_l3) ((K4 pending hd_l3).2) 0
def B0d (c0:List UInt8):List Int :=
 W4 c0 c0 ([]:List UInt8) 0
theorem B0n (c0 pending:List UInt8) (a:Nat) (ag:List UInt8→Nat→List Int):∀ (l:List Int) (t:Nat),(Y3 c0 pending a ag l t).length=l.length+(ag ((K4 pending (c0.getD a 0)).1) (a+1)).length
 | [],t=>by simp [Y3]
 | x::l,t=>by simp only [Y3,List.length_cons,B0n c0 pending a ag l];omega
theorem B1e (c0:List UInt8):∀ (s p:List UInt8) (t:Nat),(W4 c0 s p t).length≤2 * s.length+1
 | [],p,t=>by
  simp only [W4]
  generalize (decide (0<(p.length:Int))&&A2n p)=b
  cases b<;>simp
 | x::s,p,t=>by
  simp only [W4,B0n,List.length_cons]
  have:=(B9w p x).2;have:=B1e c0 s (K4 p (c0.getD t 0)).1 (t+1);omega
theorem B5i (s:List UInt8):(B0d s).length≤2 * s.length+1:=B1e s s [] 0
theorem oqs {p:Prop} (h:p:=by first|omega|(simp only [List.length_take,List.length_drop,List.length_append,List.length_cons,List.length_nil,List.length_set,List.length_map,Z7];omega)|decide):p:=h
theorem oxs {p:Prop} (h:p:=by first|rfl|(simp only [List.length_set]<;>rfl)):p:=h
theorem ooa {p:Prop} (h:p:=by simp only [List.flatten_cons,List.flatten_nil,List.append_nil,List.cons_append,List.nil_append,List.append_assoc]):p:=h
theorem C9p (c0:List UInt8) (f:Addr) (hs:c0.length≤1000000000) (R:List Int) (hR:B0d c0=R):C8i Tryz.prog 311 [pa f] [at_ f [sv c0]] (fun x=>iv x) R:=by
 refine D5y (n:=48) Tryz.func311 rfl okl rfl rfl (fun l=>[(0,.func (.yield l) #[] #[]),(1,pa f)]) (fun l=>⟨rfl,rfl,trivial⟩) fun X l I Ix L Φ hX hr hD hI0 hY=>?_
 replace hR:=(B0d.eq_1 ..).symm.trans hR
 refine sr 1 rfl (ip' 1 0 [(3,.slice none 0 0)] (ie (A5 (sr 3 rfl (ix rfl (D6 (v:=sv c0) (us:=[sv c0]) ty9 rfl rfl (B1 0 rfl) rfl) (ip' 2 0 [(12,iv (c0.length:Int)),(13,iv 0)] (ie (B4 ?_))))))))
 refine E4v (fun (pending:List UInt8) (pendingq:Option Addr) (pendingk:Nat) (a:Nat) (R_:List Int) (Lt:Fen.Own) (Ft:List Pers)=>(a≤c0.length∧W4 c0 (c0.drop a) pending a=R_∧pending.length≤pendingk∧pending.length≤9223372036854775807∧I R_ Lt Ft∧pending.length≤1000,[(0,.func (.yield l) #[] #[]),(1,pa f),(3,.slice pendingq pending.length pendingk),(12,iv (c0.length:Int)),(13,iv (a:Int))],(Lt++([])),(at_ f [sv c0]::sl cU8 pendingq pending::Ft),c0.length - a)) ([]:List UInt8) none 0 0 R L Φ ⟨opx,hR,oqs,oqs,hI0,oom⟩ (mc [L] [true] rfl oxs) (B0.con1 (B1 0 rfl) (B0.con1 B0g (B0.dropT 1 rfl))) ?_
 rintro pending pendingq pendingk a R_ Lt Ft ⟨ad,hR,w,u,h,hp⟩
 refine sr 1 rfl (ip' 1 0 [(14,bv (decide ((a:Int)<(c0.length:Int))))] ?_)
 refine ie (A5 (W8 rfl (fun h2=>?_) (fun h2=>?_)))
 ·have z:(a:Int)<(c0.length:Int):=by simpa using h2
  rw [A0r 0 (show a<c0.length by omega)] at hR;replace hR:=(W4.eq_2 ..).symm.trans hR
  refine A6 (nx (A5 (B4 (sr 2 rfl (ip' 2 0 [(4,iv (a:Int))] (ie (sr 10 rfl (ip' 1 9 [(17,.slice pendingq pending.length pendingk)] (ix rfl (D6 (v:=sv c0) (us:=[sv c0]) ty9 rfl rfl (B1 0 rfl) rfl) (ip' 1 7 [(19,iv (a:Int))] (ix rfl (B8t (T:=9) Tryz.underlying9 rfl rfl rfl a rfl opx) ?_)))))))))))
  refine zcm (D2o (pending:=pending) (b:=(c0.getD a 0)) (pendingq:=pendingq) (pendingk:=pendingk) rfl) (B0.cons (B1 1 rfl) fn0) fun ⟨⟨⟨y,k4⟩,a6⟩,⟨⟨q8,k9⟩,a0⟩⟩=>?_
  obtain ⟨af,ae⟩:=a6
  obtain ⟨aa,ab⟩:=a0
  have:=B9w pending (c0.getD a 0)
  refine ip' 5 0 [(5,.slice y (((K4 pending (c0.getD a 0)).1).length) k4),(6,.slice q8 (((K4 pending (c0.getD a 0)).2).length) k9)] (ie (sr 2 rfl (ip' 2 0 [(3,.slice y (((K4 pending (c0.getD a 0)).1).length) k4)] (ie (sr 3 rfl (ip' 3 0 [(25,.slice q8 (((K4 pending (c0.getD a 0)).2).length) k9),(26,iv (((K4 pending (c0.getD a 0)).2).length:Int)),(27,iv 0)] (ie (B4 ?_))))))))
  refine D9c (fun (d:Nat) (R_1:List Int) (Lt1:Fen.Own) (Ft1:List Pers)=>(d≤((K4 pending (c0.getD a 0)).2).length∧Y3 c0 pending a (W4 c0 (c0.drop (a+1))) (((K4 pending (c0.getD a 0)).2).drop d) d=R_1∧I R_1 Lt1 Ft1,[(0,.func (.yield l) #[] #[]),(1,pa f),(3,.slice y (((K4 pending (c0.getD a 0)).1).length) k4),(12,iv (c0.length:Int)),(13,iv (a:Int)),(25,.slice q8 (((K4 pending (c0.getD a 0)).2).length) k9),(26,iv (((K4 pending (c0.getD a 0)).2).length:Int)),(27,iv (d:Int))],(Lt1++([])),(sl cU8 y ((K4 pending (c0.getD a 0)).1)::sl H8 q8 ((K4 pending (c0.getD a 0)).2)::at_ f [sv c0]::sl cU8 pendingq pending::Ft1),((K4 pending (c0.getD a 0)).2).length - d)) 0 R_ Lt Ft ⟨opx,hR,h⟩ (mc [Lt] [true] rfl oxs) (B0.con1 (B1 0 rfl) (B0.con1 (B1 1 rfl) (B0.con1 (B1 2 rfl) (B0.con1 (B1 3 rfl) (B0.dropT 4 rfl))))) ?_
  rintro d R_1 Lt1 Ft1 ⟨ac,hR,g⟩
  refine sr 1 rfl (ip' 1 0 [(28,bv (decide ((d:Int)<(((K4 pending (c0.getD a 0)).2).length:Int))))] ?_)
  refine ie (A5 (W8 rfl (fun t=>?_) (fun t=>?_)))
  ·have q:(d:Int)<(((K4 pending (c0.getD a 0)).2).length:Int):=by simpa using t
   rw [A0r 0 (show d<((K4 pending (c0.getD a 0)).2).length by omega)] at hR;replace hR:=(Y3.eq_2 ..).symm.trans hR
   refine A6 (nx (A5 (B4 (sr 3 rfl (P3 1 rfl opx fun ai m=>(ix rfl (K2 K5 rfl rfl m rfl d rfl opx) (ix rfl (D6 (v:=iv (((K4 pending (c0.getD a 0)).2).getD d 0)) (us:=[iv (((K4 pending (c0.getD a 0)).2).getD d 0)]) ty3 rfl rfl (N0 (c:=H8) (sz:=1) m (fun _=>rfl) 1 rfl (gd 0 opx)) rfl) (ip' 1 0 [(8,iv (((K4 pending (c0.getD a 0)).2).getD d 0))] (ie (sr 4 rfl (ip' 2 2 [(31,.func (.yield l) #[] #[]),(32,iv (((K4 pending (c0.getD a 0)).2).getD d 0))] ?_)))))))))))
   have i:=B8p hR;clear hR;obtain ⟨R17,hR,i⟩:=i;rw [i] at g
   refine it rfl (A4z (L2:=[]) (hY _ R17 _ _ g) rfl rfl rfl rfl (B0.dropT 4 rfl) (G9 [Lt1] [0] 1 rfl ozw rfl [Lt1] rfl ooa)) fun ⟨⟨r,L19,Φ20⟩,e⟩=>?_
   refine A8l (B0.yield [sl cU8 y ((K4 pending (c0.getD a 0)).1),sl H8 q8 ((K4 pending (c0.getD a 0)).2),at_ f [sv c0],sl cU8 pendingq pending]) ?_
   refine ip' 1 0 [(34,bv (!r))] ?_
   refine ie (W8 rfl (fun s=>?_) (fun s=>?_))
   ·have j:r=false:=by simpa using s
    rw [j] at e;try simp only [if_true,if_false,Bool.false_eq_true] at e
    refine A8 ?_
    exact C0s rfl ⟨hr,hD⟩ (by simp [hD]) (A1a rfl) (L':=L19) (Φ':=Φ20) (by exact .inr e) (mcT [L19] 0 rfl rfl) (B0.dropT 4 rfl)
   ·have j:r=true:=by simpa using s
    rw [j] at e;try simp only [if_true,if_false,Bool.false_eq_true] at e
    refine A6 (nx (A1 2 rfl (ix rfl (C0 rfl rfl rfl rfl opx) (ip' 1 0 [(27,iv ((d:Int)+1))] (A3 ?_)))))
    exact D8p (z1:=d) (z2:=R_1) (z3:=Lt1) (z4:=Ft1) (d+1) R17 L19 Φ20 ⟨opx,hR,e⟩ olr (mc [L19] [true] rfl oxs) (B0.con1 (B1 0 rfl) (B0.con1 (B1 1 rfl) (B0.con1 (B1 2 rfl) (B0.con1 (B1 3 rfl) (B0.dropT 4 rfl)))))
  have q:¬ ((d:Int)<(((K4 pending (c0.getD a 0)).2).length:Int)):=by simpa using t
  rw [A1i q] at hR;replace hR:=(Y3.eq_1 ..).symm.trans hR
  refine H3 (nx (A1 2 rfl (ix rfl (C0 rfl rfl rfl rfl opx) ?_)))
  refine ip' 1 0 [(13,iv ((a:Int)+1))] (A3 ?_)
  exact E4f (z1:=pending) (z2:=pendingq) (z3:=pendingk) (z4:=a) (z5:=R_) (z6:=Lt) (z7:=Ft) ((K4 pending (c0.getD a 0)).1) y k4 (a+1) R_1 Lt1 Ft1 ⟨opx,hR,oqs,oqs,g,osj⟩ olr (mc [Lt1] [true] rfl oxs) (B0.con1 (B1 2 rfl) (B0.con1 (B1 0 rfl) (B0.dropT 4 rfl)))
 have z:¬ ((a:Int)<(c0.length:Int)):=by simpa using h2
 rw [A1i z] at hR;replace hR:=(W4.eq_1 ..).symm.trans hR
 refine H3 (nx (sr 4 rfl (ip' 1 3 [(37,.slice pendingq pending.length pendingk)] ?_)))
 have hs30:=C3g pending
 cases hc29:(decide (0<(pending.length:Int))&&A2n pending)
 ·replace hR:=bf hR hc29
  replace hs30:=hs30.trans (by rw [hc29];rfl:_=([]:List Int))
  refine zcm (C1o (pending:=pending) (pendingq:=pendingq) (pendingk:=pendingk) hs30) (B0.cons (B1 1 rfl) fn0) fun ⟨⟨a1,a7⟩,a3⟩=>?_
  have:([]:List Int).length=0:=rfl
  refine ip' 2 0 [(39,iv 0),(40,iv 0)] (ie (B4 (A0s 2 ?_)))
  refine F3 (sr 1 rfl (ip' 1 0 [(41,bv false)] ?_))
  subst hR
  refine ie (A5 (A0f rfl (H3 ?_)))
  exact Y0 rfl ⟨hr,hD⟩ (by simp [hD]) (A1a rfl) (L':=Lt) (Φ':=Ft) (by exact .inl h) (mcT [Lt] 0 rfl rfl) (B0.dropT 3 rfl)
 ·replace hR:=bt hR hc29
  replace hs30:=hs30.trans (by rw [hc29];rfl:_=([65533]:List Int))
  refine zcm (C1o (pending:=pending) (pendingq:=pendingq) (pendingk:=pendingk) hs30) (B0.cons (B1 1 rfl) fn0) fun ⟨⟨a1,a7⟩,a3⟩=>?_
  have:([65533]:List Int).length=1:=rfl
  refine ip' 2 0 [(39,iv 1),(40,iv 0)] (ie (B4 (A0s 3 ?_)))
  refine F3 (sr 1 rfl (ip' 1 0 [(41,bv true)] ?_))
  refine ie (A5 (G8 rfl (A6 (nx (A5 (B4 (sr 3 rfl (P3 0 rfl opx fun ah p=>(ix rfl (K2 K5 rfl rfl p rfl 0 rfl opx) (ix rfl (D6 (v:=iv (([65533]:List Int).getD 0 0)) (us:=[iv (([65533]:List Int).getD 0 0)]) ty3 rfl rfl (N0 (c:=H8) (sz:=1) p (fun _=>rfl) 0 rfl (gd 0 opx)) rfl) (ip' 1 0 [(10,iv (([65533]:List Int).getD 0 0))] (ie (A1 3 rfl (ip' 2 1 [(44,.func (.yield l) #[] #[]),(45,iv (([65533]:List Int).getD 0 0))] ?_))))))))))))))
  have k:=B8p hR;clear hR;obtain ⟨R33,hR,k⟩:=k;rw [k] at h
  refine it rfl (A4z (L2:=[]) (hY _ R33 _ _ h) rfl rfl rfl rfl (B0.dropT 3 rfl) (G9 [Lt] [0] 1 rfl ozw rfl [Lt] rfl ooa)) fun ⟨⟨a8,L35,Φ36⟩,o⟩=>?_
  refine A8l (B0.yield [sl H8 a1 ([65533]:List Int),at_ f [sv c0],sl cU8 pendingq pending]) ?_
  refine A3 (nx (A1 2 rfl (ix rfl (C0 (c:=1) rfl rfl rfl rfl ozw) (ip' 1 0 [(40,iv 1)] (A3 (F3 (sr 1 rfl (ip' 1 0 [(41,bv false)] ?_))))))))
  subst hR
  refine ie (A5 (A0f rfl (H3 ?_)))
  exact Y0 rfl ⟨hr,hD⟩ (by simp [hD]) (A1a rfl) (L':=L35) (Φ':=Φ36) (by cases a8<;>first|exact .inr (by simpa using o)|exact .inl (by simpa using o)) (mcT [L35] 0 rfl rfl) (B0.dropT 3 rfl)
def X8:List Int→List Int→List Int
 | [],l=>l
 | el::rest,l=>X8 rest (l++([el]:List Int))
def B2d (s:List UInt8):List Int :=
 X8 (B0d (Z7 s)) ([]:List Int)
theorem B3x:∀ (a l:List Int),X8 a l=l++a
 | [],l=>by simp [X8]
 | x::r,l=>by simp [X8,B3x r]
theorem C7b (s:List UInt8):(B2d s).length≤2 * s.length+1:=by
 have:=B5i s
 simpa [B2d,B3x,Z7] using this
theorem ony {p:Prop} (h:p:=by first|omega|(simp only [List.length_cons,List.length_nil,List.length_append,List.length_take,List.length_drop,Z7];omega)):p:=h
theorem D0n {s:List UInt8} {R:List Int} (hR:B2d s=R) (y:s.length≤1000000000:=by exact om_):Con Tryz.prog 245 [sv s] [] [] ({t:Option Addr×Nat // R.length≤t.2∧R.length≤9223372036854775807}) (fun x=>.slice x.1.1 R.length x.1.2) (fun x=>[]) (fun x=>[sl H8 x.1.1 R]):=by
 refine zce Tryz.func245 fun X hX hr hD=>?_
 replace hR:=(B2d.eq_1 ..).symm.trans hR
 refine sR_ rfl (H9 1 0 [] (fun d=>[(2,pt d 0)]) (fun d=>[bx d [.slice none 0 0] 206]) (fun d=>(ie (A5 (sR_ rfl (pp1 1 4 rfl ?_))))))
 refine zc rfl (D2z rfl) fun n=>?_
 refine ie (B4 (P9 (G9 [vo H8 3 VR.nil ([]:List Int),[bx d [.slice none 0 0] 206]] [1,0] 2 rfl ozw rfl [[bx d [.slice none 0 0] 206],vo H8 3 VR.nil ([]:List Int)] rfl opv) ?_))
 refine D0d [(2,pt d 0),(5,.func (.func 311) #[] #[pa n])] ⟨rfl,rfl,trivial⟩ ?_
 refine D9l (β:=Int) (enc:=(fun x=>iv x)) (xs:=(B0d (Z7 s))) (σ:=List Int×VR) hr rfl (C9p (Z7 s) n (by first|omega|(simp only [Z7];omega)) _ rfl) B0.refl rfl rfl (fun e x=>X8 e x.1=R∧VOk 1 x.1.length x.2∧x.1.length+e.length≤2 * s.length+1) (fun _ _=>False) (fun x=>(bx d [.slice (va x.2.q) x.1.length x.2.k] 206::((vo H8 3 x.2 x.1)++([])))) (fun x=>[at_ n [sv (Z7 s)]]) (([]:List Int),VR.nil) (by exact ⟨hR,VOk.nil,(by simp only [List.length_nil,Nat.zero_add];exact B5i s)⟩) sb_ B0.refl ?_ ?_ (fun _ _ _ _ h=>h.elim)
 ·rintro i rest ⟨l,b⟩ j Y Y' K' u p
  try dsimp only at j
  obtain ⟨hR,a,w⟩:=j
  replace hR:=(X8.eq_2 ..).symm.trans hR
  have:=VOk.le a
  refine A1 1 rfl (pp1 1 3 rfl (A3 (p _ _ _ ?_)))
  refine B4 (A1 5 rfl (pl2 2 [0] 7 8 rfl ?_))
  refine it rfl (C3 (c:=H8) (xs:=([i]:List Int)) K5 rfl rfl rfl okl) fun b4=>?_
  have:([i]:List Int).length=1:=rfl
  refine it rfl (B5c (f:=H8) (r:=b) (xs:=l) (ys:=([i]:List Int)) (pre:=[bx d [.slice (va b.q) l.length b.k] 206]) (post:=[]) D7b (fun _=>rfl) (fun _=>rfl) rfl rfl rfl rfl rfl rfl rfl rfl rfl (B1 0 rfl) a ony ony) fun ⟨m,g⟩=>?_
  have:=VOk.le g
  have:=VOk.cap g
  refine zrg 1 0 [0] [] (bx d [.slice (va m.q) ((l++([i]:List Int)).length) m.k] 206::((vo H8 3 m (l++([i]:List Int)))++([]))) (A3 ?_)
  exact A9e (I:=fun e x=>X8 e x.1=R∧VOk 1 x.1.length x.2∧x.1.length+e.length≤2 * s.length+1) (Jx:=fun _ _=>False) (Lk:=fun x=>(bx d [.slice (va x.2.q) x.1.length x.2.k] 206::((vo H8 3 x.2 x.1)++([])))) (Φk:=fun x=>[at_ n [sv (Z7 s)]]) (rest:=rest) ((l++([i]:List Int)),m) (by exact ⟨hR,g,(by simp only [List.length_cons,List.length_append,List.length_nil] at *;omega)⟩) sb_ fo_
 ·rintro z ⟨l,b⟩ o j
  try dsimp only at j
  obtain ⟨hR,a,w⟩:=j
  replace hR:=(X8.eq_1 ..).symm.trans hR
  have:=VOk.le a
  refine nx (sR_ rfl (zrg 2 0 [0,0] [] (bx d [.slice (va b.q) l.length b.k] 206::((vo H8 3 b l)++([]))) (ie (A8 (E0j [bx d [.slice (va b.q) l.length b.k] 206] [] (T:=3) (c:=H8) (r:=b) (xs:=l) a opv ?_)))))
  have:=VOk.cap a
  subst hR
  exact B5b rfl ⟨hr,hD⟩ (by exact (V4.cons (show V4 X.D by rw [hD];exact V4.nil) o)) (O3 rfl (D1x (v:=.slice (va b.q) l.length b.k) D6y rfl 0 rfl rfl)) (zq (va b.q) b.k) odv sb_ fo_
def A2f (is:Bool):Option Unit :=
 (bif (!is) then none else (some ()))
theorem S1 {b:Bool} {r:Unit} (h:A2f b=some r):b=true:=by cases b with | true=>rfl | false=>cases h
theorem A1o {is:Bool} {R:Option Unit} (hR:A2f is=R):B8x Tryz.prog 122 [bv is] [] [] Y8 R (fun r=>.tuple #[]):=by
 refine A3q (n:=6) Tryz.func122 rfl okl rfl rfl [(0,bv is)] ⟨rfl,trivial⟩ fun X hX hr hD=>?_
 replace hR:=(A2f.eq_1 ..).symm.trans hR
 refine sR_ rfl (pp1 2 3 rfl (ie ?_))
 refine zjb rfl hR ?_ ?_<;>clear hR<;>intro hR a
 ·refine A1 3 rfl (zrl 1 2 [] [(4,ag [])] (ix rfl (D5d Tryz.underlying236 rfl rfl rfl) ?_))
  refine D7d rfl rfl rfl ?_
  exact O6 ⟨hr,hD⟩ hR.symm
 refine A6 ?_
 exact B3g rfl ⟨hr,hD⟩ (by simp [hD]) (A1a rfl) hR.symm rfl
def A5r:List Int→Nat→Option Unit
 | [],t19=>(some ())
 | hd_l0::tl_l0,t19=>(Option.bind (A2f ((decide ((32:Int)≤hd_l0))&&((decide (hd_l0<127))||(decide ((159:Int)<hd_l0))))) fun (a:Unit)=>A5r tl_l0 (t19+1))
def C1a (s:List UInt8):Option Unit :=
 (C9 (B2d s) fun (a:List Int)=>(Option.bind (A2f ((decide ((s.length:Int)≤510))&&(decide ((B8r a)=s)))) fun (r:Unit)=>A5r a 0))
theorem D0u {s:List UInt8} {R:Option Unit} (hR:C1a s=R) (hs:s.length≤100000000:=by exact om_):B8x Tryz.prog 191 [sv s] [] [] Y8 R (fun r=>.tuple #[]):=by
 refine A3q (n:=35) Tryz.func191 rfl okl rfl rfl [(0,sv s)] ⟨rfl,trivial⟩ fun X hX hr hD=>?_
 replace hR:=(C1a.eq_1 ..).symm.trans hR
 refine sR_ rfl (pp1 1 5 rfl ?_)
 have hQ:=D0 hR;clear hR;obtain ⟨b,k,hR⟩:=hQ
 refine zc rfl (D0n k) fun ⟨⟨u,x⟩,o⟩=>?_
 obtain ⟨a2,a0⟩:=o
 have:=C7b s;try rw [k] at this
 refine pp1 1 2 rfl (ie (sR_ rfl (pp1 4 10 rfl ?_)))
 refine zid 5 1 10 15 (decide ((B8r b)=s)) (fun w v=>?_) ?_
 ·refine pp1 1 11 rfl (zv rfl (D3f rfl) (pp1 1 13 rfl (ix rfl (D8l rfl rfl rfl) (pp1 1 15 rfl ?_))))
  exact zai 6 10 15 w
 refine X4 (L2:=[]) (A1o rfl) rfl rfl rfl rfl rfl rfl fn0 (List.Perm.refl _) (fun r i=>?_) (fun l=>?_)
 ·replace hR:=A8e hR i
  have g:=S1 i;try simp only [Bool.and_eq_true,decide_eq_true_eq] at g
  refine ie (sR_ rfl (pp3 3 17 18 19 rfl (ie (B4 (A5o (fun (a:Nat)=>(a≤b.length∧A5r (b.drop a) a=R,[(17,.slice u b.length x),(18,iv (b.length:Int)),(19,iv (a:Int))],[],[sl H8 u b],b.length - a)) 0 ⟨opx,hR⟩ sb_ B0.refl ?_)))))
  rintro a ⟨y,hR⟩
  refine sR_ rfl (pp1 1 20 rfl ?_)
  refine ie (A5 (W8 rfl (fun h=>?_) (fun h=>?_)))
  ·have d:=bq_ h
   rw [A0r 0 (show a<b.length by omega)] at hR;replace hR:=(A5r.eq_2 ..).symm.trans hR
   refine A6 (nx (A5 (B4 (sR_ rfl (P3 0 rfl opx fun z f=>(ix rfl (K2 K5 rfl rfl f rfl a rfl opx) (ix rfl (D6 ty3 rfl rfl (N0 (c:=H8) (sz:=1) f (fun _=>rfl) 0 rfl (gd 0 opx)) rfl) (pp1 1 4 rfl (ie (A1 11 rfl (pp1 3 25 rfl ?_)))))))))))
   refine zid 7 1 25 32 ((decide ((b.getD a 0)<127))||(decide ((159:Int)<(b.getD a 0)))) (fun m t=>?_) ?_
   ·refine pp1 3 28 rfl ?_
    refine zir 3 1 28 31 (decide ((159:Int)<(b.getD a 0))) (fun p q=>?_) ?_
    ·refine pp1 3 31 rfl ?_
     exact zai 2 28 31 p
    refine pp1 1 32 rfl ?_
    exact zai 4 25 32 m
   refine X4 (L2:=[]) (A1o rfl) rfl rfl rfl rfl rfl rfl fn0 (List.Perm.refl _) (fun r1 e=>?_) (fun j=>?_)
   ·replace hR:=A8e hR e
    have g:=S1 e;try simp only [Bool.and_eq_true,decide_eq_true_eq] at g
    refine A3 (nx (A1 2 rfl (ix rfl (C0 rfl rfl rfl rfl opx) (pp1 1 19 rfl (A3 ?_)))))
    exact A1r (z1:=a) (a+1) ⟨opx,hR⟩ olr sb_ B0.refl
   ·replace hR:=A8b hR j
    exact O6 ⟨hr,hD⟩ hR.symm
  have d:=bq_ h
  rw [A1i d] at hR;replace hR:=(A5r.eq_1 ..).symm.trans hR
  refine H3 ?_
  exact B3g rfl ⟨hr,hD⟩ (by simp [hD]) (A1a rfl) hR.symm rfl
 ·replace hR:=A8b hR l
  exact O6 ⟨hr,hD⟩ hR.symm
def B2h (a:Act) (b:Act):Option Unit :=
 (Option.bind (A2f (decide (a=b))) fun (r:Unit)=>(some ()))
theorem B5e {a c:Act} {R:Option Unit} (hR:B2h a c=R):B8x Tryz.prog 190 [ag (A2 a),ag (A2 c)] [] [] Y8 R (fun r=>.tuple #[]):=by
 refine A3q (n:=8) Tryz.func190 rfl okl rfl rfl [(0,ag (A2 a)),(1,ag (A2 c))] ⟨rfl,rfl,trivial⟩ fun X hX hr hD=>?_
 replace hR:=(B2h.eq_1 ..).symm.trans hR
 refine sR_ rfl (A8j 2 0 [] (fun d f=>[(2,pt d 0),(3,pt f 0)]) (fun d f=>[bx f (A2 c) 56,bx d (A2 a) 56]) (fun d f=>(ie (A1 4 rfl (zrl 2 2 [1,0] [(4,ag (A2 a)),(5,ag (A2 c))] (ix rfl (C8v (a:=a) (b:=c) D8s rfl rfl rfl) ?_))))))
 refine X4 (L2:=[bx f (A2 c) 56,bx d (A2 a) 56]) (A1o rfl) rfl rfl rfl rfl rfl rfl fn0 (List.Perm.refl _) (fun r e=>?_) (fun h=>?_)
 ·replace hR:=A8e hR e
  have g:=S1 e;try simp only [Bool.and_eq_true,decide_eq_true_eq] at g
  refine A3 ?_
  exact B3g rfl ⟨hr,hD⟩ (by simp [hD]) (A1a rfl) hR.symm rfl
 ·replace hR:=A8b hR h
  exact O6 ⟨hr,hD⟩ hR.symm
def A8x (a:Act):Option (List UInt8) :=
 (Option.bind (B2h a ({Act.zero with kind:=a.kind,text:=a.text})) fun (r:Unit)=>(Option.bind (C1a a.text) fun (b:Unit)=>(some (([50,59]:List UInt8)++a.text))))
theorem C5c {a:Act} {R:Option (List UInt8)} (hR:A8x a=R) (g:a.text.length≤100000000:=by exact om_):B8x Tryz.prog 189 [ag (A2 a)] [] [] Y8 R (fun r=>sv r):=by
 refine A3q (n:=16) Tryz.func189 rfl okl rfl rfl [(0,ag (A2 a))] ⟨rfl,trivial⟩ fun X hX hr hD=>?_
 replace hR:=(A8x.eq_1 ..).symm.trans hR
 refine sR_ rfl (H9 2 0 [] (fun b=>[(1,pt b 0)]) (fun b=>[bx b (A2 a) 56]) (fun b=>(ie (sR_ rfl (zrl 6 1 [0,0,0] [(3,ag (A2 a)),(8,ag (A2 ({Act.zero with kind:=a.kind,text:=a.text})))] ?_)))))
 refine X4 (L2:=[bx b (A2 a) 56]) (B5e rfl) rfl rfl rfl rfl rfl rfl fn0 (List.Perm.refl _) (fun r e=>?_) (fun f=>?_)
 ·replace hR:=A8e hR e
  refine ie (sR_ rfl (pl1 2 [0] 11 rfl ?_))
  refine X4 (L2:=[bx b (A2 a) 56]) (D0u rfl osj) rfl rfl rfl rfl rfl rfl fn0 (List.Perm.refl _) (fun h c=>?_) (fun d=>?_)
  ·replace hR:=A8e hR c
   refine ie (sR_ rfl (pl1 2 [0] 14 rfl (ix rfl (zst rfl rfl rfl) (pp1 1 2 rfl (ie (A8 ?_))))))
   exact A9f rfl ⟨hr,hD⟩ (by simp [hD]) (O3 rfl (B9 rfl)) hR.symm rfl
  ·replace hR:=A8b hR d
   exact O6 ⟨hr,hD⟩ hR.symm
 ·replace hR:=A8b hR f
  exact O6 ⟨hr,hD⟩ hR.symm
end Go.Proofs.YtioaekgoceinkaaGreatDoor
set_option linter.unusedVariables false
set_option linter.unusedSimpArgs false
set_option linter.unnecessarySimpa false
set_option maxRecDepth 100000
namespace Go.Proofs.YtioaekgoceinkaaGreatDoor
open Go Go.Fen
theorem B4a:EqT Tryz.prog 33 U0:=EqT.of 20 rfl okl okl (fun _ _=>by kernel_rfl) U0.inj
theorem B1l:MapTy Tryz.prog 152 3 150 (.int .i64):=⟨by kernel_rfl,by kernel_rfl,rfl⟩
theorem ty4:Ty Tryz.prog 4 1 false:=⟨by kernel_rfl⟩
theorem B4f:Ty Tryz.prog 33 2 true:=⟨by kernel_rfl⟩
theorem B1g:Ty Tryz.prog 82 1 false:=⟨by kernel_rfl⟩
theorem C8a:Ty Tryz.prog 150 3 true:=⟨by kernel_rfl⟩
theorem E3d:Ty Tryz.prog 166 3 true:=⟨by kernel_rfl⟩
theorem C8q:Zero Tryz.prog 150 [.nilFunc,bv false,.nilFunc]:=⟨by kernel_rfl⟩
def V0:Bool :=
 true
theorem C4v {R:Bool} (hR:V0=R):Con Tryz.prog 175 [.func (.func 185) #[] #[]] [] [] (Nat) (fun x=>ag [.func (.func 176) #[] #[],bv R,.func (.func 177) #[] #[pt x 0]]) (fun x=>[bx x [.func (.func 185) #[] #[]] 231]) (fun x=>[]):=by
 refine zce Tryz.func175 fun X hX hr hD=>?_
 replace hR:=(V0.eq_1 ..).symm.trans hR
 refine sR_ rfl (A8j 2 0 [] (fun a b=>[(1,pt a 0),(2,pt b 0)]) (fun a b=>[bx b [.nilFunc,bv false,.nilFunc] 150,bx a [.func (.func 185) #[] #[]] 231]) (fun a b=>(ie (sR_ rfl (zrg 3 0 [0] [] [bx b [.func (.func 176) #[] #[],bv true,.func (.func 177) #[] #[pt a 0]] 150,bx a [.func (.func 185) #[] #[]] 231] ?_)))))
 subst hR
 refine ie (A8 ?_)
 exact zer hr hD (O3 rfl (D4 (us:=[.func (.func 176) #[] #[],bv true,.func (.func 177) #[] #[pt a 0]]) C8a rfl 0 rfl rfl rfl)) a sb_ fn0
def S4:Bool :=
 true
theorem C2w {R:Bool} (hR:S4=R):Con Tryz.prog 175 [.func (.func 186) #[] #[]] [] [] (Nat) (fun x=>ag [.func (.func 176) #[] #[],bv R,.func (.func 177) #[] #[pt x 0]]) (fun x=>[bx x [.func (.func 186) #[] #[]] 231]) (fun x=>[]):=by
 refine zce Tryz.func175 fun X hX hr hD=>?_
 replace hR:=(S4.eq_1 ..).symm.trans hR
 refine sR_ rfl (A8j 2 0 [] (fun a b=>[(1,pt a 0),(2,pt b 0)]) (fun a b=>[bx b [.nilFunc,bv false,.nilFunc] 150,bx a [.func (.func 186) #[] #[]] 231]) (fun a b=>(ie (sR_ rfl (zrg 3 0 [0] [] [bx b [.func (.func 176) #[] #[],bv true,.func (.func 177) #[] #[pt a 0]] 150,bx a [.func (.func 186) #[] #[]] 231] ?_)))))
 subst hR
 refine ie (A8 ?_)
 exact zer hr hD (O3 rfl (D4 (us:=[.func (.func 176) #[] #[],bv true,.func (.func 177) #[] #[pt a 0]]) C8a rfl 0 rfl rfl rfl)) a sb_ fn0
def S2:Bool :=
 true
theorem C2m {R:Bool} (hR:S2=R):Con Tryz.prog 175 [.func (.func 187) #[] #[]] [] [] (Nat) (fun x=>ag [.func (.func 176) #[] #[],bv R,.func (.func 177) #[] #[pt x 0]]) (fun x=>[bx x [.func (.func 187) #[] #[]] 231]) (fun x=>[]):=by
 refine zce Tryz.func175 fun X hX hr hD=>?_
 replace hR:=(S2.eq_1 ..).symm.trans hR
 refine sR_ rfl (A8j 2 0 [] (fun a b=>[(1,pt a 0),(2,pt b 0)]) (fun a b=>[bx b [.nilFunc,bv false,.nilFunc] 150,bx a [.func (.func 187) #[] #[]] 231]) (fun a b=>(ie (sR_ rfl (zrg 3 0 [0] [] [bx b [.func (.func 176) #[] #[],bv true,.func (.func 177) #[] #[pt a 0]] 150,bx a [.func (.func 187) #[] #[]] 231] ?_)))))
 subst hR
 refine ie (A8 ?_)
 exact zer hr hD (O3 rfl (D4 (us:=[.func (.func 176) #[] #[],bv true,.func (.func 177) #[] #[pt a 0]]) C8a rfl 0 rfl rfl rfl)) a sb_ fn0
def C4j:Unit :=
 ()
theorem B9x {R:Unit} (hR:C4j=R):Con Tryz.prog 118 [] [] [] (Nat×Nat×Nat×Nat) (fun x=>.map (some x.1)) (fun x=>[(x.1,.map #[⟨iv 0,ag [.func (.func 176) #[] #[],bv false,.func (.func 178) #[] #[]],0⟩,⟨iv 1,ag [.func (.func 179) #[] #[],bv false,.func (.func 180) #[] #[]],1⟩,⟨iv 2,ag [.func (.func 181) #[] #[],bv false,.func (.func 182) #[] #[]],2⟩,⟨iv 3,ag [.func (.func 183) #[] #[],bv false,.func (.func 184) #[] #[]],3⟩,⟨iv 4,ag [.func (.func 176) #[] #[],bv V0,.func (.func 177) #[] #[pt x.2.1 0]],4⟩,⟨iv 5,ag [.func (.func 176) #[] #[],bv S4,.func (.func 177) #[] #[pt x.2.2.1 0]],5⟩,⟨iv 6,ag [.func (.func 176) #[] #[],bv S2,.func (.func 177) #[] #[pt x.2.2.2 0]],6⟩] 7),bx x.2.1 [.func (.func 185) #[] #[]] 231,bx x.2.2.1 [.func (.func 186) #[] #[]] 231,bx x.2.2.2 [.func (.func 187) #[] #[]] 231]) (fun x=>[]):=by
 refine zce Tryz.func118 fun X hX hr hD=>?_
 replace hR:=(C4j.eq_1 ..).symm.trans hR
 refine sR_ rfl (pp0 1 rfl (ie (sR_ rfl (ip' 1 0 [(1,.func (.func 175) #[] #[])] (ie (sR_ rfl (it rfl (W7 rfl) fun d=>(zrl 1 18 [] [(3,ag [.func (.func 176) #[] #[],bv false,.func (.func 178) #[] #[]])] (it rfl (E7 B1l (.inl rfl) rfl rfl rfl 0 rfl okl rfl) fun _=>?_)))))))))
 refine zrl 1 16 [] [(4,ag [.func (.func 179) #[] #[],bv false,.func (.func 180) #[] #[]])] (it rfl (E7 B1l (.inl rfl) rfl rfl rfl 0 rfl okl rfl) fun _=>?_)
 refine zrl 1 14 [] [(5,ag [.func (.func 181) #[] #[],bv false,.func (.func 182) #[] #[]])] (it rfl (E7 B1l (.inl rfl) rfl rfl rfl 0 rfl okl rfl) fun _=>?_)
 refine zrl 1 12 [] [(6,ag [.func (.func 183) #[] #[],bv false,.func (.func 184) #[] #[]])] (it rfl (E7 B1l (.inl rfl) rfl rfl rfl 0 rfl okl rfl) fun _=>?_)
 refine ip' 1 10 [(7,.func (.func 175) #[] #[])] ?_
 refine zc rfl (C4v rfl) fun b=>?_
 refine it rfl (E7 B1l (.inl rfl) rfl rfl rfl 1 rfl okl rfl) fun _=>?_
 refine ip' 1 7 [(9,.func (.func 175) #[] #[])] ?_
 refine zc rfl (C2w rfl) fun c=>?_
 refine it rfl (E7 B1l (.inl rfl) rfl rfl rfl 2 rfl okl rfl) fun _=>?_
 refine ip' 1 4 [(11,.func (.func 175) #[] #[])] ?_
 refine zc rfl (C2m rfl) fun a=>?_
 refine it rfl (E7 B1l (.inl rfl) rfl rfl rfl 3 rfl okl rfl) fun _=>?_
 refine pp1 2 0 rfl ?_
 subst hR
 refine ie (A8 (P9 (G9 [[bx a [.func (.func 187) #[] #[]] 231],[bx c [.func (.func 186) #[] #[]] 231],[bx b [.func (.func 185) #[] #[]] 231],[(d,.map #[⟨iv 0,ag [.func (.func 176) #[] #[],bv false,.func (.func 178) #[] #[]],0⟩,⟨iv 1,ag [.func (.func 179) #[] #[],bv false,.func (.func 180) #[] #[]],1⟩,⟨iv 2,ag [.func (.func 181) #[] #[],bv false,.func (.func 182) #[] #[]],2⟩,⟨iv 3,ag [.func (.func 183) #[] #[],bv false,.func (.func 184) #[] #[]],3⟩,⟨iv 4,ag [.func (.func 176) #[] #[],bv V0,.func (.func 177) #[] #[pt b 0]],4⟩,⟨iv 5,ag [.func (.func 176) #[] #[],bv S4,.func (.func 177) #[] #[pt c 0]],5⟩,⟨iv 6,ag [.func (.func 176) #[] #[],bv S2,.func (.func 177) #[] #[pt a 0]],6⟩] 7)]] [3,2,1,0] 4 rfl ozw rfl [[(d,.map #[⟨iv 0,ag [.func (.func 176) #[] #[],bv false,.func (.func 178) #[] #[]],0⟩,⟨iv 1,ag [.func (.func 179) #[] #[],bv false,.func (.func 180) #[] #[]],1⟩,⟨iv 2,ag [.func (.func 181) #[] #[],bv false,.func (.func 182) #[] #[]],2⟩,⟨iv 3,ag [.func (.func 183) #[] #[],bv false,.func (.func 184) #[] #[]],3⟩,⟨iv 4,ag [.func (.func 176) #[] #[],bv V0,.func (.func 177) #[] #[pt b 0]],4⟩,⟨iv 5,ag [.func (.func 176) #[] #[],bv S4,.func (.func 177) #[] #[pt c 0]],5⟩,⟨iv 6,ag [.func (.func 176) #[] #[],bv S2,.func (.func 177) #[] #[pt a 0]],6⟩] 7)],[bx b [.func (.func 185) #[] #[]] 231],[bx c [.func (.func 186) #[] #[]] 231],[bx a [.func (.func 187) #[] #[]] 231]] rfl opv) ?_))
 exact zer hr hD (O3 rfl (B9 rfl)) (d,b,c,a) sb_ fn0
def C7s (a:Nat) (z1:Nat) (z2:Nat):List (Int×Value):=[(0,ag [.func (.func 176) #[] #[],bv false,.func (.func 178) #[] #[]]),(1,ag [.func (.func 179) #[] #[],bv false,.func (.func 180) #[] #[]]),(2,ag [.func (.func 181) #[] #[],bv false,.func (.func 182) #[] #[]]),(3,ag [.func (.func 183) #[] #[],bv false,.func (.func 184) #[] #[]]),(4,ag [.func (.func 176) #[] #[],bv V0,.func (.func 177) #[] #[pt a 0]]),(5,ag [.func (.func 176) #[] #[],bv S4,.func (.func 177) #[] #[pt z1 0]]),(6,ag [.func (.func 176) #[] #[],bv S2,.func (.func 177) #[] #[pt z2 0]])]
def S8:List (Int×Value):=[(0,.func (.func 176) #[] #[]),(1,.func (.func 179) #[] #[]),(2,.func (.func 181) #[] #[]),(3,.func (.func 183) #[] #[]),(4,.func (.func 176) #[] #[]),(5,.func (.func 176) #[] #[]),(6,.func (.func 176) #[] #[])]
def A2s:List (Int×Bool):=[(0,false),(1,false),(2,false),(3,false),(4,V0),(5,S4),(6,S2)]
def A5t (a:Nat) (z1:Nat) (z2:Nat):List (Int×Value):=[(0,.func (.func 178) #[] #[]),(1,.func (.func 180) #[] #[]),(2,.func (.func 182) #[] #[]),(3,.func (.func 184) #[] #[]),(4,.func (.func 177) #[] #[pt a 0]),(5,.func (.func 177) #[] #[pt z1 0]),(6,.func (.func 177) #[] #[pt z2 0])]
theorem D8n (d:Nat) (z1:Nat) (z2:Nat) (k:Int):lkV k (.agg #[.nilFunc,bv false,.nilFunc]) (C7s d z1 z2)=.agg #[lkV k .nilFunc S8,.bool (lkB k false A2s),lkV k .nilFunc (A5t d z1 z2)]:=by
 refine (C7f (fun a b c=>.agg #[a,b,c]) k (.nilFunc) (bv false) (.nilFunc) [((0:Int),(.func (.func 176) #[] #[]:Value),(bv false:Value),(.func (.func 178) #[] #[]:Value)),((1:Int),(.func (.func 179) #[] #[]:Value),(bv false:Value),(.func (.func 180) #[] #[]:Value)),((2:Int),(.func (.func 181) #[] #[]:Value),(bv false:Value),(.func (.func 182) #[] #[]:Value)),((3:Int),(.func (.func 183) #[] #[]:Value),(bv false:Value),(.func (.func 184) #[] #[]:Value)),((4:Int),(.func (.func 176) #[] #[]:Value),(bv V0:Value),(.func (.func 177) #[] #[pt d 0]:Value)),((5:Int),(.func (.func 176) #[] #[]:Value),(bv S4:Value),(.func (.func 177) #[] #[pt z1 0]:Value)),((6:Int),(.func (.func 176) #[] #[]:Value),(bv S2:Value),(.func (.func 177) #[] #[pt z2 0]:Value))]).trans ?_
 rw [show (([((0:Int),(.func (.func 176) #[] #[]:Value),(bv false:Value),(.func (.func 178) #[] #[]:Value)),((1:Int),(.func (.func 179) #[] #[]:Value),(bv false:Value),(.func (.func 180) #[] #[]:Value)),((2:Int),(.func (.func 181) #[] #[]:Value),(bv false:Value),(.func (.func 182) #[] #[]:Value)),((3:Int),(.func (.func 183) #[] #[]:Value),(bv false:Value),(.func (.func 184) #[] #[]:Value)),((4:Int),(.func (.func 176) #[] #[]:Value),(bv V0:Value),(.func (.func 177) #[] #[pt d 0]:Value)),((5:Int),(.func (.func 176) #[] #[]:Value),(bv S4:Value),(.func (.func 177) #[] #[pt z1 0]:Value)),((6:Int),(.func (.func 176) #[] #[]:Value),(bv S2:Value),(.func (.func 177) #[] #[pt z2 0]:Value))]).map fun x=>(x.1,x.2.2.1))=A2s.map (fun x=>(x.1,Value.bool x.2)) from rfl,D0c]
 rfl
theorem B7m (a:Nat) (z1:Nat) (z2:Nat) (k:Int):Value.tuple #[lkV k (.agg #[.nilFunc,bv false,.nilFunc]) (C7s a z1 z2),.bool (O2 k (C7s a z1 z2))]=Value.tuple #[.agg #[lkV k .nilFunc S8,.bool (lkB k false A2s),lkV k .nilFunc (A5t a z1 z2)],.bool (O2 k S8)]:=by rw [D8n];rfl
def A6j (m:Int):Bool :=
 (decide (m=0))
theorem A8o {m:Int} {R:Bool} (hR:A6j m=R):G3 Tryz.prog 176 [iv m] [] (bv R):=by
 refine zce Tryz.func176 fun X hX hr hD=>?_
 replace hR:=(A6j.eq_1 ..).symm.trans hR
 refine sR_ rfl (pp0 1 rfl (ie (sR_ rfl (pp1 3 2 rfl ?_))))
 subst hR
 refine ie (A8 ?_)
 exact E9 hr hD
def A2q (x:Int):Int :=
 (C9 (IntKind.u64.wrap ((bOp .and .u64 (x / 2) 6148914691236517205)+(bOp .and .u64 x 6148914691236517205))) fun (v:Int)=>(C9 (IntKind.u64.wrap ((bOp .and .u64 (v / 4) 3689348814741910323)+(bOp .and .u64 v 3689348814741910323))) fun (b:Int)=>(C9 (bOp .and .u64 (IntKind.u64.wrap ((b / 16)+b)) 1085102592571150095) fun (a:Int)=>(C9 (IntKind.u64.wrap ((IntKind.u64.wrap (a+(a / 256)))+((IntKind.u64.wrap (a+(a / 256))) / 65536))) fun (c:Int)=>(C9 (bOp .and .i64 (IntKind.i64.wrap (IntKind.u64.wrap (c+(c / 4294967296)))) 127) fun (d:Int)=>d)))))
theorem B1v {x R:Int} (hR:A2q x=R):G3 Tryz.prog 284 [.int .u64 x] [] (iv R):=by
 refine zce Tryz.func284 fun X hX hr hD=>?_
 replace hR:=(A2q.eq_1 ..).symm.trans hR
 refine sR_ rfl (pp0 1 rfl (ie (sR_ rfl (pp1 1 3 rfl ?_))))
 refine ix rfl (Q8 (c:=x / 2) rfl rfl rfl ozw (by simp [Int.fdiv_eq_ediv_of_nonneg,IntKind.bits])) ?_
 have a:=D0 hR;clear hR;obtain ⟨v,j,hR⟩:=a
 refine ip' 5 0 [(0,.int .u64 v)] ?_ (by cases j;kernel_rfl)
 refine ie (sR_ rfl (pp1 1 9 rfl ?_))
 refine ix rfl (Q8 (c:=v / 4) rfl rfl rfl ozw (by simp [Int.fdiv_eq_ediv_of_nonneg,IntKind.bits])) ?_
 have a:=D0 hR;clear hR;obtain ⟨i,g,hR⟩:=a
 refine ip' 5 0 [(0,.int .u64 i)] ?_ (by cases g;kernel_rfl)
 refine ie (sR_ rfl (pp1 1 15 rfl ?_))
 refine ix rfl (Q8 (c:=i / 16) rfl rfl rfl ozw (by simp [Int.fdiv_eq_ediv_of_nonneg,IntKind.bits])) ?_
 have a:=D0 hR;clear hR;obtain ⟨b,f,hR⟩:=a
 refine ip' 4 0 [(0,.int .u64 b)] ?_ (by cases f;kernel_rfl)
 refine ie (sR_ rfl (pp2 2 20 21 rfl ?_))
 refine ix rfl (Q8 (c:=b / 256) rfl rfl rfl ozw (by simp [Int.fdiv_eq_ediv_of_nonneg,IntKind.bits])) (pp1 2 0 rfl (ie (sR_ rfl (pp2 2 24 25 rfl ?_))))
 refine ix rfl (Q8 (c:=(IntKind.u64.wrap (b+(b / 256))) / 65536) rfl rfl rfl ozw (by simp [Int.fdiv_eq_ediv_of_nonneg,IntKind.bits])) ?_
 have a:=D0 hR;clear hR;obtain ⟨h,d,hR⟩:=a
 refine ip' 2 0 [(0,.int .u64 h)] ?_ (by cases d;kernel_rfl)
 refine ie (sR_ rfl (pp2 2 28 29 rfl ?_))
 refine ix rfl (Q8 (c:=h / 4294967296) rfl rfl rfl ozw (by simp [Int.fdiv_eq_ediv_of_nonneg,IntKind.bits])) (pp1 2 0 rfl (ie (sR_ rfl ?_)))
 have a:=D0 hR;clear hR;obtain ⟨k,e,hR⟩:=a
 refine ip' 4 0 [(2,iv k)] ?_ (by cases e;kernel_rfl)
 subst hR
 refine ie (A8 ?_)
 exact E9 hr hD
def A1c (x:Int):Int :=
 (A2q x)
theorem B4g {x R:Int} (hR:A1c x=R):G3 Tryz.prog 244 [.int .u64 x] [] (iv R):=by
 refine zce Tryz.func244 fun X hX hr hD=>?_
 replace hR:=(A1c.eq_1 ..).symm.trans hR
 refine sR_ rfl (pp0 1 rfl (ie (A5 (A0f rfl (A6 (nx (sR_ rfl (pp1 1 6 rfl (zv rfl (B1v rfl) (pp1 1 2 rfl ?_))))))))))
 subst hR
 refine ie (A8 ?_)
 exact E9 hr hD
def B2g (m:Int):Bool :=
 ((decide ((bOp .andNot .i64 m 255)=0))&&(decide ((A1c (IntKind.u64.wrap m))=1)))
theorem C2i {m:Int} {R:Bool} (hR:B2g m=R):G3 Tryz.prog 179 [iv m] [] (bv R):=by
 refine zce Tryz.func179 fun X hX hr hD=>?_
 replace hR:=(B2g.eq_1 ..).symm.trans hR
 refine sR_ rfl (pp0 1 rfl (ie (sR_ rfl (pp1 4 6 rfl ?_))))
 refine zid 5 1 6 11 (decide ((A1c (IntKind.u64.wrap m))=1)) (fun b a=>?_) ?_
 ·refine pp1 2 8 rfl (zv rfl (B4g rfl) (pp1 2 11 rfl ?_))
  exact A3 (P7 4 6 11 b fn0 sb_ rfl rfl rfl rfl rfl)
 refine pp1 1 2 rfl ?_
 subst hR
 refine ie (A8 ?_)
 exact E9 hr hD
def B3p (m:Int):Bool :=
 ((decide (m=3))||((B2g m)&&(decide ((bOp .and .i64 m 3)=0))))
theorem C5p {m:Int} {R:Bool} (hR:B3p m=R):G3 Tryz.prog 181 [iv m] [] (bv R):=by
 refine zce Tryz.func181 fun X hX hr hD=>?_
 replace hR:=(B3p.eq_1 ..).symm.trans hR
 refine sR_ rfl (pp0 1 rfl (ie (sR_ rfl (pp1 3 5 rfl ?_))))
 refine zir 8 1 5 13 ((B2g m)&&(decide ((bOp .and .i64 m 3)=0))) (fun c b=>?_) ?_
 ·refine pp1 1 6 rfl (zv rfl (C2i rfl) (pp1 1 8 rfl ?_))
  refine zia 4 1 8 12 (decide ((bOp .and .i64 m 3)=0)) (fun a=>?_) ?_
  ·refine pp1 4 12 rfl ?_
   exact A3 (P7 2 8 12 a fn0 sb_ rfl rfl rfl rfl rfl)
  refine pp1 1 13 rfl ?_
  exact A3 (P7 6 5 13 c fn0 sb_ rfl rfl rfl rfl rfl)
 refine pp1 1 2 rfl ?_
 subst hR
 refine ie (A8 ?_)
 exact E9 hr hD
def B3a (m:Int):Bool :=
 ((decide ((0:Int)≤m))&&(decide (m≤5)))
theorem C3y {m:Int} {R:Bool} (hR:B3a m=R):G3 Tryz.prog 183 [iv m] [] (bv R):=by
 refine zce Tryz.func183 fun X hX hr hD=>?_
 replace hR:=(B3a.eq_1 ..).symm.trans hR
 refine sR_ rfl (pp0 1 rfl (ie (sR_ rfl (pp1 3 5 rfl ?_))))
 refine zid 3 1 5 8 (decide (m≤5)) (fun b a=>?_) ?_
 ·refine pp1 3 8 rfl ?_
  exact A3 (P7 2 5 8 b fn0 sb_ rfl rfl rfl rfl rfl)
 refine pp1 1 2 rfl ?_
 subst hR
 refine ie (A8 ?_)
 exact E9 hr hD
def A9d (k:Int) (a:Int):Bool :=
 (bif (decide (k=0)) then (A6j a) else (bif (decide (k=1)) then (B2g a) else (bif (decide (k=2)) then (B3p a) else (bif (decide (k=3)) then (B3a a) else (bif (decide (k=4)) then (A6j a) else (bif (decide (k=5)) then (A6j a) else (bif (decide (k=6)) then (A6j a) else false)))))))
theorem B4t (k:Int) (b:Int) (a:O2 k S8=true) (R:Bool) (hR:A9d k b=R):C1 Tryz.prog (lkV k .nilFunc S8) [iv b] [] (bv R):=by
 subst hR
 unfold A9d
 unfold S8 at *
 refine C1.cons (fun r=>bv r) a (fun e=>?_) (fun a e=>?_)
 ·exact C1.of (A8o (m:=b) rfl) rfl fn0
 refine C1.cons (fun r=>bv r) a (fun e=>?_) (fun a e=>?_)
 ·exact C1.of (C2i (m:=b) rfl) rfl fn0
 refine C1.cons (fun r=>bv r) a (fun e=>?_) (fun a e=>?_)
 ·exact C1.of (C5p (m:=b) rfl) rfl fn0
 refine C1.cons (fun r=>bv r) a (fun e=>?_) (fun a e=>?_)
 ·exact C1.of (C3y (m:=b) rfl) rfl fn0
 refine C1.cons (fun r=>bv r) a (fun e=>?_) (fun a e=>?_)
 ·exact C1.of (A8o (m:=b) rfl) rfl fn0
 refine C1.cons (fun r=>bv r) a (fun e=>?_) (fun a e=>?_)
 ·exact C1.of (A8o (m:=b) rfl) rfl fn0
 refine C1.cons (fun r=>bv r) a (fun e=>?_) (fun a e=>?_)
 ·exact C1.of (A8o (m:=b) rfl) rfl fn0
 exact C1.nil a
def M3:Ar3 :=
 {Ar3.zero with b:=255,c:=16777215}
theorem C5k {R:Ar3} (hR:M3=R):G3 Tryz.prog 165 [] [] (ag (C4t R)):=by
 refine zce Tryz.func165 fun X hX hr hD=>?_
 replace hR:=(M3.eq_1 ..).symm.trans hR
 refine sR_ rfl (H9 1 0 [] (fun a=>[(0,pt a 0)]) (fun a=>[bx a (C4t Ar3.zero) 166]) (fun a=>(ie (sR_ rfl (zrg 2 0 [0] [] [bx a (C4t ({Ar3.zero with b:=255,c:=16777215})) 166] ?_)))))
 subst hR
 refine ie (A8 ?_)
 exact zer hr hD (O3 rfl (D4 (us:=C4t ({Ar3.zero with b:=255,c:=16777215})) E3d rfl 0 rfl rfl rfl)) () sb_ fn0
def N7 (c:Col):Int :=
 (bif ((((decide (c.kind<0))||(decide ((3:Int)≤c.kind)))||(decide (c.n<0)))||(decide ((([M3.a,M3.b,M3.c]:List Int).getD ((c.kind).toNat) 0)<c.n))) then 130 else 0)
theorem Y7 {c:Col} {R:Int} (hR:N7 c=R):G3 Tryz.prog 107 [ag (U0 c)] [] (iv R):=by
 refine zce Tryz.func107 fun X hX hr hD=>?_
 replace hR:=(N7.eq_1 ..).symm.trans hR
 refine sR_ rfl (H9 2 0 [] (fun d=>[(1,pt d 0)]) (fun d=>[bx d (U0 c) 33]) (fun d=>(ie (A5 (sR_ rfl (zv rfl (C5k rfl) ?_))))))
 refine H9 2 0 [0] (fun e=>[(3,pt e 0)]) (fun e=>[bx e (C4t M3) 166,bx d (U0 c) 33]) (fun e=>?_)
 refine ie (sd 22 rfl okl rfl (pg1 4 [1] 8 rfl ?_))
 refine zdr 4 14 8 12 (decide ((3:Int)≤c.kind)) (fun k o=>?_) ?_
 ·refine pg1 4 [1] 12 rfl ?_
  exact zad 2 8 12 k
 refine pd1 1 13 rfl ?_
 refine zdO 4 9 13 17 (decide (c.n<0)) (fun h=>?_) ?_
 ·have l:=bq_ h
  refine pg1 4 [1] 17 rfl ?_
  exact zad 2 13 17 h
 refine pd1 1 18 rfl ?_
 refine zdO 8 0 18 26 (decide ((([M3.a,M3.b,M3.c]:List Int).getD ((c.kind).toNat) 0)<c.n)) (fun i=>?_) ?_
 ·have m:=bq_ i
  refine pg2 4 [1,1] 20 22 rfl (dd rfl (D1o Tryz.underlying166 ty3 rfl rfl rfl ((c.kind).toNat) opx opx) ?_)
  refine dd rfl (D0s (u:=iv (([M3.a,M3.b,M3.c]:List Int).getD ((c.kind).toNat) 0)) (c:=H8) (xs:=([M3.a,M3.b,M3.c]:List Int)) (j:=[]) (sz:=1) ty3 (fun _=>rfl) rfl rfl 0 rfl ((c.kind).toNat) 0 rfl (gd 0 (by simp only [List.length_cons,List.length_nil];omega)) rfl) (pd1 2 26 rfl ?_)
  exact zad 6 18 26 i
 refine de ?_
 refine zjb rfl hR ?_ ?_<;>clear hR<;>intro hR g
 ·have f:=bq_ g
  refine sR_ rfl (pp1 1 2 rfl ?_)
  subst hR
  refine ie (A8 ?_)
  exact E9 hr hD
 have f:=bq_ g
 refine A6 (nx (sR_ rfl (pp1 1 2 rfl ?_)))
 subst hR
 refine ie (A8 ?_)
 exact E9 hr hD
theorem gdE {α:Type} {l:List α} {k:Nat} {d:α} (h:k<l.length):l.getD k d=l[k]:=by simp [List.getD_eq_getElem?_getD,h]
theorem gdN {α:Type} {l:List α} {k:Nat} {d:α} (h:¬ k<l.length):l.getD k d=d:=by simp [List.getD_eq_getElem?_getD,List.getElem?_eq_none (Nat.le_of_not_lt h)]
theorem S6 {k:Int} {z:Value}:∀ {l:List (Int×Value)},z.oneCell'=true→(l.all fun p=>p.2.oneCell')=true→(lkV k z l).oneCell'=true
 | [],hz,_=>hz
 | (a,v)::l,hz,h=>by
  simp only [List.all_cons,Bool.and_eq_true] at h
  unfold lkV
  cases decide (k=a) with
  | true=>exact h.1
  | false=>exact S6 hz h.2
def A3d (a:Act):Int :=
 (bif ((((!(O2 a.n S8))||(!decide (a.kind=39)))||(!(decide (a.text=([]:List UInt8)))))||(!(A9d a.n a.m))) then 141 else (bif (((!(lkB a.n false A2s))&&(!(decide (a.color=Col.zero))))||(!decide ((N7 a.color)=0))) then 141 else 0))
theorem och {p:Prop} (h:p:=by first|assumption|simp_all):p:=h
theorem B1o {a:Act} {R:Int} (hR:A3d a=R):G3 Tryz.prog 36 [ag (A2 a)] [] (iv R):=by
 refine zce Tryz.func36 fun X hX hr hD=>?_
 replace hR:=(A3d.eq_1 ..).symm.trans hR
 refine sR_ rfl (H9 2 0 [] (fun c=>[(1,pt c 0)]) (fun c=>[bx c (A2 a) 56]) (fun c=>(ie (sh 10 [(10,[bx c (A2 a) 56])] [] [bx c (A2 a) 56] (zml 10 0) okl rfl okl okl okl sb_ B0.refl ?_))))
 refine zhp [1] 9 (zml 10 2) [(7,pt c 1)] ?_
 refine zhl 2 [bx c (A2 a) 56] (zml 10 6) rfl (A7 (v:=iv a.n) ty3 rfl rfl 0 rfl rfl) ?_
 refine A6t 0 7 okl ?_ ?_
 ·refine B2m 0 [bx c (A2 a) 56] (zml 10 7) rfl rfl rfl okl okl okl (C8 (L2:=[bx c (A2 a) 56]) (B9x rfl) rfl rfl rfl rfl rfl fn0 (List.Perm.refl _) (fun ⟨b2,h,i,g⟩=>[(b2,.map #[⟨iv 0,ag [.func (.func 176) #[] #[],bv false,.func (.func 178) #[] #[]],0⟩,⟨iv 1,ag [.func (.func 179) #[] #[],bv false,.func (.func 180) #[] #[]],1⟩,⟨iv 2,ag [.func (.func 181) #[] #[],bv false,.func (.func 182) #[] #[]],2⟩,⟨iv 3,ag [.func (.func 183) #[] #[],bv false,.func (.func 184) #[] #[]],3⟩,⟨iv 4,ag [.func (.func 176) #[] #[],bv V0,.func (.func 177) #[] #[pt h 0]],4⟩,⟨iv 5,ag [.func (.func 176) #[] #[],bv S4,.func (.func 177) #[] #[pt i 0]],5⟩,⟨iv 6,ag [.func (.func 176) #[] #[],bv S2,.func (.func 177) #[] #[pt g 0]],6⟩] 7),bx h [.func (.func 185) #[] #[]] 231,bx i [.func (.func 186) #[] #[]] 231,bx g [.func (.func 187) #[] #[]] 231,bx c (A2 a) 56]) (fun _=>rfl)) (fun ⟨b2,h,i,g⟩=>sb_) (fun ⟨b2,h,i,g⟩=>fn0) fun ⟨b2,h,i,g⟩=>?_
  refine A6t 3 7 okl ?_ ?_
  ·refine B2m 3 [bx c (A2 a) 56] (zml 10 15) rfl rfl rfl okl okl okl (Det.tri (G7.det (by exact I2 (S9 (C7s h i g) B1l rfl rfl rfl 0 rfl okl okl) (B7m h i g a.n)))) (fun _=>sb_) (fun _=>fn0) fun _=>?_
   refine zhp [4,5,6] 3 (zml 10 127) [(10,ag [(lkV a.n .nilFunc S8),bv (lkB a.n false A2s),(lkV a.n .nilFunc (A5t h i g))]),(11,bv (O2 a.n S8))] ?_
   refine zho 7 [bx c (A2 a) 56] (zml 10 255) rfl (V7 (cs:=[.nilFunc,bv false,.nilFunc]) C8q rfl) (fun b6=>sb_) (fun b6=>fn0) fun b6=>?_
   refine zho 8 [bx c (A2 a) 56] (zml 10 511) rfl (F2 (us:=[(lkV a.n .nilFunc S8),bv (lkB a.n false A2s),(lkV a.n .nilFunc (A5t h i g))]) (cs':=[(lkV a.n .nilFunc S8),bv (lkB a.n false A2s),(lkV a.n .nilFunc (A5t h i g))]) C8a rfl rfl rfl 0 rfl rfl rfl (by simp only [List.all_cons,List.all_nil,Bool.and_true,Bool.and_eq_true];exact ⟨S6 rfl rfl,rfl,S6 rfl rfl⟩) rfl rfl) (fun _=>sb_) (fun _=>fn0) fun _=>?_
   refine zhp [9] 0 (zml 10 1023) [(4,bv (O2 a.n S8))] ?_
   refine A3w okl ?_
   refine A5 (sR_ rfl (pp1 3 14 rfl ?_))
   refine zio 4 13 14 18 (!decide (a.kind=39)) (fun g7=>?_) ?_
   ·refine pp1 1 15 rfl (ix rfl (A7 (v:=iv a.kind) ty3 rfl rfl 5 rfl rfl) (pp1 2 18 rfl ?_))
    exact A3 (P7 4 14 18 g7 fn0 sb_ rfl rfl rfl rfl rfl)
   refine pp1 1 19 rfl ?_
   refine zio 4 8 19 23 (!(decide (a.text=([]:List UInt8)))) (fun g8=>?_) ?_
   ·have aq:=bq_ g8
    refine pp1 1 20 rfl (ix rfl (A7 (v:=sv a.text) ty9 rfl rfl 5 rfl rfl) (ix rfl (A1x rfl rfl rfl) (pp1 1 23 rfl ?_)))
    exact A3 (P7 5 19 23 g8 fn0 sb_ rfl rfl rfl rfl rfl)
   refine pp1 1 24 rfl ?_
   refine zio 7 0 24 31 (!(A9d a.n a.m)) (fun g9=>?_) ?_
   ·have ar:=bq_ g9
    refine pp1 1 25 rfl (ix rfl (A7 (v:=(lkV a.n .nilFunc S8)) B1g rfl rfl 0 rfl rfl) (pp1 1 27 rfl (ix rfl (A7 (v:=iv a.m) ty3 rfl rfl 5 rfl rfl) (ixc rfl (P4 (B4t a.n a.m och _ rfl) rfl rfl rfl rfl fn0) (pp1 2 31 rfl ?_)))))
    exact A3 (P7 7 24 31 g9 fn0 sb_ rfl rfl rfl rfl rfl)
   refine ie ?_
   refine zjb rfl hR ?_ ?_<;>clear hR<;>intro hR a6
   ·have s:=bq_ a6
    refine sR_ rfl (pp1 1 2 rfl ?_)
    subst hR
    refine ie (A8 ?_)
    exact E9 hr hD
   have s:=bq_ a6
   refine A6 (nx (A5 (sR_ rfl (pl1 4 [0] 35 rfl ?_))))
   refine zia 5 6 35 40 (!(decide (a.color=Col.zero))) (fun aa=>?_) ?_
   ·refine pp1 1 36 rfl (ix rfl (F7 (us:=U0 a.color) B4f rfl rfl 5 rfl rfl rfl) (zrl 1 2 [] [(38,ag (U0 Col.zero))] (ix rfl (A0t (a:=a.color) (b:=Col.zero) B4a rfl rfl rfl) (pp1 1 40 rfl ?_))))
    exact A3 (P7 6 35 40 aa fn0 sb_ rfl rfl rfl rfl rfl)
   refine pp1 1 41 rfl ?_
   refine zio 5 0 41 46 (!decide ((N7 a.color)=0)) (fun z=>?_) ?_
   ·have am:=bq_ z
    refine pp1 1 42 rfl (ix rfl (F7 (us:=U0 a.color) B4f rfl rfl 5 rfl rfl rfl) (zv rfl (Y7 rfl) (pp1 2 46 rfl ?_)))
    exact A3 (P7 5 41 46 z fn0 sb_ rfl rfl rfl rfl rfl)
   refine ie ?_
   refine zjb rfl hR ?_ ?_<;>clear hR<;>intro hR q
   ·have t:=bq_ q
    refine sR_ rfl (pp1 1 2 rfl ?_)
    subst hR
    refine ie (A8 ?_)
    exact E9 hr hD
   have t:=bq_ q
   refine A6 (nx (sR_ rfl (pp1 1 2 rfl ?_)))
   subst hR
   refine ie (A8 ?_)
   exact E9 hr hD
  ·refine B2m 7 [bx c (A2 a) 56] (zml 10 135) rfl rfl rfl okl okl okl (V7 (cs:=[.nilFunc,bv false,.nilFunc]) C8q rfl) (fun a2=>sb_) (fun a2=>fn0) fun a2=>?_
   refine zho 3 [bx c (A2 a) 56] (zml 10 143) rfl (Det.tri (G7.det (by exact I2 (S9 (C7s h i g) B1l rfl rfl rfl 1 rfl okl okl) (B7m h i g a.n)))) (fun _=>sb_) (fun _=>fn0) fun _=>?_
   refine zhp [4,5,6] 2 (zml 10 255) [(10,ag [(lkV a.n .nilFunc S8),bv (lkB a.n false A2s),(lkV a.n .nilFunc (A5t h i g))]),(11,bv (O2 a.n S8))] ?_
   refine zho 8 [bx c (A2 a) 56] (zml 10 511) rfl (F2 (us:=[(lkV a.n .nilFunc S8),bv (lkB a.n false A2s),(lkV a.n .nilFunc (A5t h i g))]) (cs':=[(lkV a.n .nilFunc S8),bv (lkB a.n false A2s),(lkV a.n .nilFunc (A5t h i g))]) C8a rfl rfl rfl 0 rfl rfl rfl (by simp only [List.all_cons,List.all_nil,Bool.and_true,Bool.and_eq_true];exact ⟨S6 rfl rfl,rfl,S6 rfl rfl⟩) rfl rfl) (fun _=>sb_) (fun _=>fn0) fun _=>?_
   refine zhp [9] 0 (zml 10 1023) [(4,bv (O2 a.n S8))] ?_
   refine A3w okl ?_
   refine A5 (sR_ rfl (pp1 3 14 rfl ?_))
   refine zio 4 13 14 18 (!decide (a.kind=39)) (fun a9=>?_) ?_
   ·refine pp1 1 15 rfl (ix rfl (A7 (v:=iv a.kind) ty3 rfl rfl 5 rfl rfl) (pp1 2 18 rfl ?_))
    exact A3 (P7 4 14 18 a9 fn0 sb_ rfl rfl rfl rfl rfl)
   refine pp1 1 19 rfl ?_
   refine zio 4 8 19 23 (!(decide (a.text=([]:List UInt8)))) (fun r=>?_) ?_
   ·have ao:=bq_ r
    refine pp1 1 20 rfl (ix rfl (A7 (v:=sv a.text) ty9 rfl rfl 5 rfl rfl) (ix rfl (A1x rfl rfl rfl) (pp1 1 23 rfl ?_)))
    exact A3 (P7 5 19 23 r fn0 sb_ rfl rfl rfl rfl rfl)
   refine pp1 1 24 rfl ?_
   refine zio 7 0 24 31 (!(A9d a.n a.m)) (fun o=>?_) ?_
   ·have af:=bq_ o
    refine pp1 1 25 rfl (ix rfl (A7 (v:=(lkV a.n .nilFunc S8)) B1g rfl rfl 0 rfl rfl) (pp1 1 27 rfl (ix rfl (A7 (v:=iv a.m) ty3 rfl rfl 5 rfl rfl) (ixc rfl (P4 (B4t a.n a.m och _ rfl) rfl rfl rfl rfl fn0) (pp1 2 31 rfl ?_)))))
    exact A3 (P7 7 24 31 o fn0 sb_ rfl rfl rfl rfl rfl)
   refine ie ?_
   refine zjb rfl hR ?_ ?_<;>clear hR<;>intro hR a1
   ·have u:=bq_ a1
    refine sR_ rfl (pp1 1 2 rfl ?_)
    subst hR
    refine ie (A8 ?_)
    exact E9 hr hD
   have u:=bq_ a1
   refine A6 (nx (A5 (sR_ rfl (pl1 4 [0] 35 rfl ?_))))
   refine zia 5 6 35 40 (!(decide (a.color=Col.zero))) (fun ad=>?_) ?_
   ·refine pp1 1 36 rfl (ix rfl (F7 (us:=U0 a.color) B4f rfl rfl 5 rfl rfl rfl) (zrl 1 2 [] [(38,ag (U0 Col.zero))] (ix rfl (A0t (a:=a.color) (b:=Col.zero) B4a rfl rfl rfl) (pp1 1 40 rfl ?_))))
    exact A3 (P7 6 35 40 ad fn0 sb_ rfl rfl rfl rfl rfl)
   refine pp1 1 41 rfl ?_
   refine zio 5 0 41 46 (!decide ((N7 a.color)=0)) (fun a5=>?_) ?_
   ·have ak:=bq_ a5
    refine pp1 1 42 rfl (ix rfl (F7 (us:=U0 a.color) B4f rfl rfl 5 rfl rfl rfl) (zv rfl (Y7 rfl) (pp1 2 46 rfl ?_)))
    exact A3 (P7 5 41 46 a5 fn0 sb_ rfl rfl rfl rfl rfl)
   refine ie ?_
   refine zjb rfl hR ?_ ?_<;>clear hR<;>intro hR x
   ·have a7:=bq_ x
    refine sR_ rfl (pp1 1 2 rfl ?_)
    subst hR
    refine ie (A8 ?_)
    exact E9 hr hD
   have a7:=bq_ x
   refine A6 (nx (sR_ rfl (pp1 1 2 rfl ?_)))
   subst hR
   refine ie (A8 ?_)
   exact E9 hr hD
 ·refine B2m 7 [bx c (A2 a) 56] (zml 10 134) rfl rfl rfl okl okl okl (V7 (cs:=[.nilFunc,bv false,.nilFunc]) C8q rfl) (fun k=>sb_) (fun k=>fn0) fun k=>?_
  refine zho 0 [bx c (A2 a) 56] (zml 10 135) rfl (C8 (L2:=[bx k [.nilFunc,bv false,.nilFunc] 150,bx c (A2 a) 56]) (B9x rfl) rfl rfl rfl rfl rfl fn0 (List.Perm.refl _) (fun ⟨j,f,e,d⟩=>[(j,.map #[⟨iv 0,ag [.func (.func 176) #[] #[],bv false,.func (.func 178) #[] #[]],0⟩,⟨iv 1,ag [.func (.func 179) #[] #[],bv false,.func (.func 180) #[] #[]],1⟩,⟨iv 2,ag [.func (.func 181) #[] #[],bv false,.func (.func 182) #[] #[]],2⟩,⟨iv 3,ag [.func (.func 183) #[] #[],bv false,.func (.func 184) #[] #[]],3⟩,⟨iv 4,ag [.func (.func 176) #[] #[],bv V0,.func (.func 177) #[] #[pt f 0]],4⟩,⟨iv 5,ag [.func (.func 176) #[] #[],bv S4,.func (.func 177) #[] #[pt e 0]],5⟩,⟨iv 6,ag [.func (.func 176) #[] #[],bv S2,.func (.func 177) #[] #[pt d 0]],6⟩] 7),bx f [.func (.func 185) #[] #[]] 231,bx e [.func (.func 186) #[] #[]] 231,bx d [.func (.func 187) #[] #[]] 231,bx k [.nilFunc,bv false,.nilFunc] 150,bx c (A2 a) 56]) (fun _=>rfl)) (fun ⟨j,f,e,d⟩=>sb_) (fun ⟨j,f,e,d⟩=>fn0) fun ⟨j,f,e,d⟩=>?_
  refine zho 3 [bx c (A2 a) 56] (zml 10 143) rfl (Det.tri (G7.det (by exact I2 (S9 (C7s f e d) B1l rfl rfl rfl 0 rfl okl okl) (B7m f e d a.n)))) (fun _=>sb_) (fun _=>fn0) fun _=>?_
  refine zhp [4,5,6] 2 (zml 10 255) [(10,ag [(lkV a.n .nilFunc S8),bv (lkB a.n false A2s),(lkV a.n .nilFunc (A5t f e d))]),(11,bv (O2 a.n S8))] ?_
  refine zho 8 [bx c (A2 a) 56] (zml 10 511) rfl (F2 (us:=[(lkV a.n .nilFunc S8),bv (lkB a.n false A2s),(lkV a.n .nilFunc (A5t f e d))]) (cs':=[(lkV a.n .nilFunc S8),bv (lkB a.n false A2s),(lkV a.n .nilFunc (A5t f e d))]) C8a rfl rfl rfl 4 rfl rfl rfl (by simp only [List.all_cons,List.all_nil,Bool.and_true,Bool.and_eq_true];exact ⟨S6 rfl rfl,rfl,S6 rfl rfl⟩) rfl rfl) (fun _=>sb_) (fun _=>fn0) fun _=>?_
  refine zhp [9] 0 (zml 10 1023) [(4,bv (O2 a.n S8))] ?_
  refine A3w okl ?_
  refine A5 (sR_ rfl (pp1 3 14 rfl ?_))
  refine zio 4 13 14 18 (!decide (a.kind=39)) (fun ac=>?_) ?_
  ·refine pp1 1 15 rfl (ix rfl (A7 (v:=iv a.kind) ty3 rfl rfl 5 rfl rfl) (pp1 2 18 rfl ?_))
   exact A3 (P7 4 14 18 ac fn0 sb_ rfl rfl rfl rfl rfl)
  refine pp1 1 19 rfl ?_
  refine zio 4 8 19 23 (!(decide (a.text=([]:List UInt8)))) (fun l=>?_) ?_
  ·have ae:=bq_ l
   refine pp1 1 20 rfl (ix rfl (A7 (v:=sv a.text) ty9 rfl rfl 5 rfl rfl) (ix rfl (A1x rfl rfl rfl) (pp1 1 23 rfl ?_)))
   exact A3 (P7 5 19 23 l fn0 sb_ rfl rfl rfl rfl rfl)
  refine pp1 1 24 rfl ?_
  refine zio 7 0 24 31 (!(A9d a.n a.m)) (fun a3=>?_) ?_
  ·have ai:=bq_ a3
   refine pp1 1 25 rfl (ix rfl (A7 (v:=(lkV a.n .nilFunc S8)) B1g rfl rfl 4 rfl rfl) (pp1 1 27 rfl (ix rfl (A7 (v:=iv a.m) ty3 rfl rfl 5 rfl rfl) (ixc rfl (P4 (B4t a.n a.m och _ rfl) rfl rfl rfl rfl fn0) (pp1 2 31 rfl ?_)))))
   exact A3 (P7 7 24 31 a3 fn0 sb_ rfl rfl rfl rfl rfl)
  refine ie ?_
  refine zjb rfl hR ?_ ?_<;>clear hR<;>intro hR w
  ·have a4:=bq_ w
   refine sR_ rfl (pp1 1 2 rfl ?_)
   subst hR
   refine ie (A8 ?_)
   exact E9 hr hD
  have a4:=bq_ w
  refine A6 (nx (A5 (sR_ rfl (pp1 1 32 rfl (ix rfl (A7 (v:=bv (lkB a.n false A2s)) ty4 rfl rfl 4 rfl rfl) (pp1 2 35 rfl ?_))))))
  refine zia 5 6 35 40 (!(decide (a.color=Col.zero))) (fun ab=>?_) ?_
  ·refine pp1 1 36 rfl (ix rfl (F7 (us:=U0 a.color) B4f rfl rfl 5 rfl rfl rfl) (zrl 1 2 [] [(38,ag (U0 Col.zero))] (ix rfl (A0t (a:=a.color) (b:=Col.zero) B4a rfl rfl rfl) (pp1 1 40 rfl ?_))))
   exact A3 (P7 6 35 40 ab fn0 sb_ rfl rfl rfl rfl rfl)
  refine pp1 1 41 rfl ?_
  refine zio 5 0 41 46 (!decide ((N7 a.color)=0)) (fun p=>?_) ?_
  ·have al:=bq_ p
   refine pp1 1 42 rfl (ix rfl (F7 (us:=U0 a.color) B4f rfl rfl 5 rfl rfl rfl) (zv rfl (Y7 rfl) (pp1 2 46 rfl ?_)))
   exact A3 (P7 5 41 46 p fn0 sb_ rfl rfl rfl rfl rfl)
  refine ie ?_
  refine zjb rfl hR ?_ ?_<;>clear hR<;>intro hR a0
  ·have y:=bq_ a0
   refine sR_ rfl (pp1 1 2 rfl ?_)
   subst hR
   refine ie (A8 ?_)
   exact E9 hr hD
  have y:=bq_ a0
  refine A6 (nx (sR_ rfl (pp1 1 2 rfl ?_)))
  subst hR
  refine ie (A8 ?_)
  exact E9 hr hD
def N4 (s:Sty):Int :=
 (bif (((!decide ((bOp .andNot .i64 s.attr 255)=0))||(decide (s.under<0)))||(decide ((5:Int)<s.under))) then 140 else (bif (!decide ((N7 s.fore)=0)) then (N7 s.fore) else (bif (!decide ((N7 s.back)=0)) then (N7 s.back) else (bif (!decide ((N7 s.line)=0)) then (N7 s.line) else 0))))
theorem A4e {s:Sty} {R:Int} (hR:N4 s=R):G3 Tryz.prog 31 [ag (A0c s)] [] (iv R):=by
 refine zce Tryz.func31 fun X hX hr hD=>?_
 replace hR:=(N4.eq_1 ..).symm.trans hR
 refine sR_ rfl (H9 2 0 [] (fun a=>[(1,pt a 0)]) (fun a=>[bx a (A0c s) 35]) (fun a=>(ie (A5 (sR_ rfl (pl1 5 [0] 10 rfl ?_))))))
 refine zio 4 5 10 14 (decide (s.under<0)) (fun g=>?_) ?_
 ·have k:=bq_ g
  refine pl1 4 [0] 14 rfl ?_
  exact A3 (P7 2 10 14 g fn0 sb_ rfl rfl rfl rfl rfl)
 refine pp1 1 15 rfl ?_
 refine zio 4 0 15 19 (decide ((5:Int)<s.under)) (fun j=>?_) ?_
 ·have o:=bq_ j
  refine pl1 4 [0] 19 rfl ?_
  exact A3 (P7 2 15 19 j fn0 sb_ rfl rfl rfl rfl rfl)
 refine ie ?_
 refine zjb rfl hR ?_ ?_<;>clear hR<;>intro hR i
 ·have f:=bq_ i
  refine sR_ rfl (pp1 1 2 rfl ?_)
  subst hR
  refine ie (A8 ?_)
  exact E9 hr hD
 have f:=bq_ i
 refine A6 (nx (A5 (sR_ rfl (zrl 8 0 [0,0,0] [(26,ag [iv s.fore.kind,iv s.fore.n,iv s.back.kind,iv s.back.n,iv s.line.kind,iv s.line.n]),(27,iv 0)] (ie (B4 (A0s 5 ?_)))))))
 refine F3 (sR_ rfl (pp1 1 28 rfl ?_))
 refine ie (A5 (G8 rfl (A6 (nx (A5 (B4 (sR_ rfl (ix rfl (F4 (v:=ag [iv s.fore.kind,iv s.fore.n]) (us:=[iv s.fore.kind,iv s.fore.n]) Tryz.underlying129 B4f rfl rfl rfl 0 rfl ozw rfl rfl rfl) ?_))))))))
 refine H9 2 0 [0] (fun b=>[(4,pt b 0)]) (fun b=>[bx b (U0 s.fore) 33,bx a (A0c s) 35]) (fun b=>?_)
 refine ie (sR_ rfl (zrl 1 2 [0] [(30,ag (U0 s.fore))] (zv rfl (Y7 rfl) (pp1 1 5 rfl (ie (sR_ rfl (pp1 2 33 rfl (ie ?_))))))))
 refine zjn rfl hR ?_ ?_<;>clear hR<;>intro hR q l
 ·refine sR_ rfl (pp1 2 2 rfl ?_)
  subst hR
  refine ie (A8 ?_)
  exact E9 hr hD
 refine A6 (nx (A1 2 rfl (ix rfl (C0 (c:=1) rfl rfl rfl rfl ozw) (pp1 1 27 rfl (A3 (F3 (sR_ rfl (pp1 1 28 rfl (ie (A5 (G8 rfl (A6 (nx (A5 (B4 (sR_ rfl (ix rfl (F4 (v:=ag [iv s.back.kind,iv s.back.n]) (us:=[iv s.back.kind,iv s.back.n]) Tryz.underlying129 B4f rfl rfl rfl 1 rfl ozw rfl rfl rfl) ?_)))))))))))))))))
 refine H9 2 0 [0] (fun d=>[(4,pt d 0)]) (fun d=>[bx d (U0 s.back) 33,bx b (U0 s.fore) 33,bx a (A0c s) 35]) (fun d=>?_)
 refine ie (sR_ rfl (zrl 1 2 [0] [(30,ag (U0 s.back))] (zv rfl (Y7 rfl) (pp1 1 5 rfl (ie (sR_ rfl (pp1 2 33 rfl (ie ?_))))))))
 refine zjn rfl hR ?_ ?_<;>clear hR<;>intro hR r m
 ·refine sR_ rfl (pp1 2 2 rfl ?_)
  subst hR
  refine ie (A8 ?_)
  exact E9 hr hD
 refine A6 (nx (A1 2 rfl (ix rfl (C0 (c:=2) rfl rfl rfl rfl ozw) (pp1 1 27 rfl (A3 (F3 (sR_ rfl (pp1 1 28 rfl (ie (A5 (G8 rfl (A6 (nx (A5 (B4 (sR_ rfl (ix rfl (F4 (v:=ag [iv s.line.kind,iv s.line.n]) (us:=[iv s.line.kind,iv s.line.n]) Tryz.underlying129 B4f rfl rfl rfl 2 rfl ozw rfl rfl rfl) ?_)))))))))))))))))
 refine H9 2 0 [0] (fun e=>[(4,pt e 0)]) (fun e=>[bx e (U0 s.line) 33,bx d (U0 s.back) 33,bx b (U0 s.fore) 33,bx a (A0c s) 35]) (fun e=>?_)
 refine ie (sR_ rfl (zrl 1 2 [0] [(30,ag (U0 s.line))] (zv rfl (Y7 rfl) (pp1 1 5 rfl (ie (sR_ rfl (pp1 2 33 rfl (ie ?_))))))))
 refine zjn rfl hR ?_ ?_<;>clear hR<;>intro hR p h
 ·refine sR_ rfl (pp1 2 2 rfl ?_)
  subst hR
  refine ie (A8 ?_)
  exact E9 hr hD
 refine A6 (nx (A1 2 rfl (ix rfl (C0 (c:=3) rfl rfl rfl rfl ozw) (pp1 1 27 rfl (A3 (F3 (sR_ rfl (pp1 1 28 rfl (ie (A5 (A0f rfl (H3 (nx (sR_ rfl (pp1 1 2 rfl ?_)))))))))))))))
 subst hR
 refine ie (A8 ?_)
 exact E9 hr hD
end Go.Proofs.YtioaekgoceinkaaGreatDoor
set_option linter.unusedVariables false
set_option linter.unusedSimpArgs false
set_option linter.unnecessarySimpa false
set_option maxRecDepth 100000
namespace Go.Proofs.YtioaekgoceinkaaGreatDoor
open Go Go.Fen
theorem D3g:ApTy Tryz.prog 125 208 1 24:=⟨by kernel_rfl,by kernel_rfl,rfl⟩
theorem A5y:SlTy Tryz.prog 27 56 6:=⟨by kernel_rfl,by kernel_rfl⟩
theorem B7y:SlTy Tryz.prog 125 208 1:=⟨by kernel_rfl,by kernel_rfl⟩
theorem B5a:Ty Tryz.prog 56 6 true:=⟨by kernel_rfl⟩
theorem A0d:Ty Tryz.prog 208 1 true:=⟨by kernel_rfl⟩
theorem C1s:Ty Tryz.prog 275 3 true:=⟨by kernel_rfl⟩
theorem E3m:Ty Tryz.prog 276 24 true:=⟨by kernel_rfl⟩
def O8 (l:List Int):List Int :=
 l
theorem M6 {l:List Int} {lq:Option Addr} {lk:Nat} {R:List Int} (hR:O8 l=R) (c:l.length≤9223372036854775807:=by exact om_) (b:l.length≤lk:=by exact om_):Con Tryz.prog 231 [.slice lq l.length lk] [] [sl H8 lq l] ({t:Option Addr×Nat // R.length≤t.2∧R.length≤9223372036854775807}) (fun x=>ag [.slice x.1.1 R.length x.1.2]) (fun x=>[]) (fun x=>[sl H8 x.1.1 R]):=by
 refine zce Tryz.func231 fun X hX hr hD=>?_
 replace hR:=(O8.eq_1 ..).symm.trans hR
 refine sR_ rfl (H9 1 0 [] (fun a=>[(2,pt a 0)]) (fun a=>[bx a [.slice none 0 0] 208]) (fun a=>(ie (sR_ rfl (zrg 3 0 [0] [] [bx a [.slice lq l.length lk] 208] ?_)))))
 subst hR
 refine ie (A8 ?_)
 exact zer hr hD (O3 rfl (D4 (us:=[.slice lq l.length lk]) A0d rfl 0 rfl rfl rfl)) (zq lq lk) sb_ fo_
def B8b (a:Act):List Int :=
 (bif (decide (a.color.kind=0)) then (C9 (O8 ([(IntKind.i64.wrap ((IntKind.i64.wrap ((38:Int)+(IntKind.i64.wrap ((10:Int) * (IntKind.i64.wrap (a.n - (4:Int)))))))+(1:Int)))]:List Int)) fun (d:List Int)=>d) else (bif (decide (a.color.kind=2)) then (C9 (O8 ([(IntKind.i64.wrap ((38:Int)+(IntKind.i64.wrap ((10:Int) * (IntKind.i64.wrap (a.n - (4:Int))))))),2,(-1),(a.color.n / 65536),(bOp .and .i64 (a.color.n / 256) 255),(bOp .and .i64 a.color.n 255)]:List Int)) fun (c:List Int)=>c) else (bif ((decide (a.color.n<8))&&(!decide (a.n=6))) then (C9 (O8 ([(IntKind.i64.wrap ((IntKind.i64.wrap ((IntKind.i64.wrap ((38:Int)+(IntKind.i64.wrap ((10:Int) * (IntKind.i64.wrap (a.n - (4:Int))))))) - (8:Int)))+a.color.n))]:List Int)) fun (f:List Int)=>f) else (bif ((decide (a.color.n<16))&&(!decide (a.n=6))) then (C9 (O8 ([(IntKind.i64.wrap ((IntKind.i64.wrap ((IntKind.i64.wrap ((IntKind.i64.wrap ((38:Int)+(IntKind.i64.wrap ((10:Int) * (IntKind.i64.wrap (a.n - (4:Int)))))))+(52:Int)))+a.color.n)) - (8:Int)))]:List Int)) fun (b:List Int)=>b) else (C9 (O8 ([(IntKind.i64.wrap ((38:Int)+(IntKind.i64.wrap ((10:Int) * (IntKind.i64.wrap (a.n - (4:Int))))))),5,a.color.n]:List Int)) fun (e:List Int)=>e)))))
theorem C9h {a:Act} {R:List Int} (hR:B8b a=R):Con Tryz.prog 232 [ag (A2 a)] [] [] ({t:Option Addr×Nat // R.length≤t.2∧R.length≤9223372036854775807}) (fun x=>ag [.slice x.1.1 R.length x.1.2]) (fun x=>[]) (fun x=>[sl H8 x.1.1 R]):=by
 refine zce Tryz.func232 fun X hX hr hD=>?_
 replace hR:=(B8b.eq_1 ..).symm.trans hR
 refine sR_ rfl (A8j 2 0 [] (fun b d=>[(1,pt b 0),(2,pt d 0)]) (fun b d=>[bx d [.slice none 0 0] 208,bx b (A2 a) 56]) (fun b d=>(ie (sR_ rfl (pl1 2 [1] 6 rfl (ix rfl (G7.pure rfl) (ix rfl (G7.pure rfl) (ix rfl (G7.pure rfl) (pp1 1 3 rfl (ie (sR_ rfl (pl1 4 [1] 4 rfl ?_))))))))))))
 refine ie (B4 (sR_ rfl (pl1 5 [1] 17 rfl (ie ?_))))
 refine zjd rfl hR ?_ ?_<;>clear hR<;>intro hR h3 ay
 ·refine sR_ rfl (pp1 1 22 rfl (ix rfl (G7.pure rfl) (it rfl (C3 (c:=H8) (xs:=([(IntKind.i64.wrap ((IntKind.i64.wrap ((38:Int)+(IntKind.i64.wrap ((10:Int) * (IntKind.i64.wrap (a.n - (4:Int)))))))+(1:Int)))]:List Int)) K5 rfl rfl rfl okl) fun b4=>?_)))
  have:([(IntKind.i64.wrap ((IntKind.i64.wrap ((38:Int)+(IntKind.i64.wrap ((10:Int) * (IntKind.i64.wrap (a.n - (4:Int)))))))+(1:Int)))]:List Int).length=1:=rfl
  have e:=D0 hR;clear hR;obtain ⟨y0,aa,hR⟩:=e
  refine zc rfl (M6 (l:=([(IntKind.i64.wrap ((IntKind.i64.wrap ((38:Int)+(IntKind.i64.wrap ((10:Int) * (IntKind.i64.wrap (a.n - (4:Int)))))))+(1:Int)))]:List Int)) (lq:=(some ⟨b4,0,none⟩)) (lk:=1) aa) fun ⟨⟨q5,k6⟩,a4⟩=>?_
  obtain ⟨ax,aw⟩:=a4
  refine zrg 1 0 [0] [] [bx d [.slice q5 y0.length k6] 208,bx b (A2 a) 56] ?_
  subst hR
  refine ie (A8 ?_)
  exact zer hr hD (O3 rfl (D4 (us:=[.slice q5 y0.length k6]) A0d rfl 0 rfl rfl rfl)) (zq q5 k6) sb_ fo_
 refine sR_ rfl (pl1 5 [1] 26 rfl (ie ?_))
 refine zjd rfl hR ?_ ?_<;>clear hR<;>intro hR b0 ae
 ·refine sR_ rfl (pp2 2 31 32 rfl ?_)
  refine ix rfl (Q8 (c:=a.color.n / 65536) rfl rfl rfl ozw (by simp [Int.fdiv_eq_ediv_of_nonneg,IntKind.bits])) (pp1 1 34 rfl ?_)
  refine ix rfl (Q8 (c:=a.color.n / 256) rfl rfl rfl ozw (by simp [Int.fdiv_eq_ediv_of_nonneg,IntKind.bits])) (pp2 3 36 38 rfl (it rfl (C3 (c:=H8) (xs:=([(IntKind.i64.wrap ((38:Int)+(IntKind.i64.wrap ((10:Int) * (IntKind.i64.wrap (a.n - (4:Int))))))),2,(-1),(a.color.n / 65536),(bOp .and .i64 (a.color.n / 256) 255),(bOp .and .i64 a.color.n 255)]:List Int)) K5 rfl rfl rfl okl) fun a9=>?_))
  have:([(IntKind.i64.wrap ((38:Int)+(IntKind.i64.wrap ((10:Int) * (IntKind.i64.wrap (a.n - (4:Int))))))),2,(-1),(a.color.n / 65536),(bOp .and .i64 (a.color.n / 256) 255),(bOp .and .i64 a.color.n 255)]:List Int).length=6:=rfl
  have e:=D0 hR;clear hR;obtain ⟨y1,a7,hR⟩:=e
  refine zc rfl (M6 (l:=([(IntKind.i64.wrap ((38:Int)+(IntKind.i64.wrap ((10:Int) * (IntKind.i64.wrap (a.n - (4:Int))))))),2,(-1),(a.color.n / 65536),(bOp .and .i64 (a.color.n / 256) 255),(bOp .and .i64 a.color.n 255)]:List Int)) (lq:=(some ⟨a9,0,none⟩)) (lk:=6) a7) fun ⟨⟨f,j⟩,w⟩=>?_
  obtain ⟨av,ak⟩:=w
  refine zrg 1 0 [0] [] [bx d [.slice f y1.length j] 208,bx b (A2 a) 56] ?_
  subst hR
  refine ie (A8 ?_)
  exact zer hr hD (O3 rfl (D4 (us:=[.slice f y1.length j]) A0d rfl 0 rfl rfl rfl)) (zq f j) sb_ fo_
 refine sR_ rfl (pp1 3 44 rfl ?_)
 refine zid 4 1 44 48 (!decide (a.n=6)) (fun a0 aj=>?_) ?_
 ·refine pl1 4 [1] 48 rfl ?_
  exact A3 (P7 2 44 48 a0 fn0 sb_ rfl rfl rfl rfl rfl)
 refine pp1 1 41 rfl (ie ?_)
 refine zjb rfl hR ?_ ?_<;>clear hR<;>intro hR u
 ·have q:=bq_ u
  refine sR_ rfl (pp1 1 49 rfl (ix rfl (G7.pure rfl) (pp1 1 51 rfl (ix rfl (G7.pure rfl) (it rfl (C3 (c:=H8) (xs:=([(IntKind.i64.wrap ((IntKind.i64.wrap ((IntKind.i64.wrap ((38:Int)+(IntKind.i64.wrap ((10:Int) * (IntKind.i64.wrap (a.n - (4:Int))))))) - (8:Int)))+a.color.n))]:List Int)) K5 rfl rfl rfl okl) fun z=>?_)))))
  have:([(IntKind.i64.wrap ((IntKind.i64.wrap ((IntKind.i64.wrap ((38:Int)+(IntKind.i64.wrap ((10:Int) * (IntKind.i64.wrap (a.n - (4:Int))))))) - (8:Int)))+a.color.n))]:List Int).length=1:=rfl
  have e:=D0 hR;clear hR;obtain ⟨y4,ac,hR⟩:=e
  refine zc rfl (M6 (l:=([(IntKind.i64.wrap ((IntKind.i64.wrap ((IntKind.i64.wrap ((38:Int)+(IntKind.i64.wrap ((10:Int) * (IntKind.i64.wrap (a.n - (4:Int))))))) - (8:Int)))+a.color.n))]:List Int)) (lq:=(some ⟨z,0,none⟩)) (lk:=1) ac) fun ⟨⟨m,h⟩,r⟩=>?_
  obtain ⟨ad,am⟩:=r
  refine zrg 1 0 [0] [] [bx d [.slice m y4.length h] 208,bx b (A2 a) 56] ?_
  subst hR
  refine ie (A8 ?_)
  exact zer hr hD (O3 rfl (D4 (us:=[.slice m y4.length h]) A0d rfl 0 rfl rfl rfl)) (zq m h) sb_ fo_
 have q:=bq_ u
 refine sR_ rfl (pp1 3 58 rfl ?_)
 refine zid 4 1 58 62 (!decide (a.n=6)) (fun a8 au=>?_) ?_
 ·refine pl1 4 [1] 62 rfl ?_
  exact A3 (P7 2 58 62 a8 fn0 sb_ rfl rfl rfl rfl rfl)
 refine pp1 1 55 rfl (ie ?_)
 refine zjb rfl hR ?_ ?_<;>clear hR<;>intro hR p
 ·have y:=bq_ p
  refine sR_ rfl (pp1 1 63 rfl (ix rfl (G7.pure rfl) (pp1 1 65 rfl (ix rfl (G7.pure rfl) (ix rfl (G7.pure rfl) (it rfl (C3 (c:=H8) (xs:=([(IntKind.i64.wrap ((IntKind.i64.wrap ((IntKind.i64.wrap ((IntKind.i64.wrap ((38:Int)+(IntKind.i64.wrap ((10:Int) * (IntKind.i64.wrap (a.n - (4:Int)))))))+(52:Int)))+a.color.n)) - (8:Int)))]:List Int)) K5 rfl rfl rfl okl) fun a6=>?_))))))
  have:([(IntKind.i64.wrap ((IntKind.i64.wrap ((IntKind.i64.wrap ((IntKind.i64.wrap ((38:Int)+(IntKind.i64.wrap ((10:Int) * (IntKind.i64.wrap (a.n - (4:Int)))))))+(52:Int)))+a.color.n)) - (8:Int)))]:List Int).length=1:=rfl
  have e:=D0 hR;clear hR;obtain ⟨y5,a1,hR⟩:=e
  refine zc rfl (M6 (l:=([(IntKind.i64.wrap ((IntKind.i64.wrap ((IntKind.i64.wrap ((IntKind.i64.wrap ((38:Int)+(IntKind.i64.wrap ((10:Int) * (IntKind.i64.wrap (a.n - (4:Int)))))))+(52:Int)))+a.color.n)) - (8:Int)))]:List Int)) (lq:=(some ⟨a6,0,none⟩)) (lk:=1) a1) fun ⟨⟨i,g⟩,s⟩=>?_
  obtain ⟨ap,an⟩:=s
  refine zrg 1 0 [0] [] [bx d [.slice i y5.length g] 208,bx b (A2 a) 56] ?_
  subst hR
  refine ie (A8 ?_)
  exact zer hr hD (O3 rfl (D4 (us:=[.slice i y5.length g]) A0d rfl 0 rfl rfl rfl)) (zq i g) sb_ fo_
 have y:=bq_ p
 refine sR_ rfl (pp2 2 13 14 rfl (it rfl (C3 (c:=H8) (xs:=([(IntKind.i64.wrap ((38:Int)+(IntKind.i64.wrap ((10:Int) * (IntKind.i64.wrap (a.n - (4:Int))))))),5,a.color.n]:List Int)) K5 rfl rfl rfl okl) fun a5=>?_))
 have:([(IntKind.i64.wrap ((38:Int)+(IntKind.i64.wrap ((10:Int) * (IntKind.i64.wrap (a.n - (4:Int))))))),5,a.color.n]:List Int).length=3:=rfl
 have e:=D0 hR;clear hR;obtain ⟨y3,a3,hR⟩:=e
 refine zc rfl (M6 (l:=([(IntKind.i64.wrap ((38:Int)+(IntKind.i64.wrap ((10:Int) * (IntKind.i64.wrap (a.n - (4:Int))))))),5,a.color.n]:List Int)) (lq:=(some ⟨a5,0,none⟩)) (lk:=3) a3) fun ⟨⟨o,k⟩,v⟩=>?_
 obtain ⟨ao,aq⟩:=v
 refine zrg 1 0 [0] [] [bx d [.slice o y3.length k] 208,bx b (A2 a) 56] ?_
 subst hR
 refine ie (A8 ?_)
 exact zer hr hD (O3 rfl (D4 (us:=[.slice o y3.length k]) A0d rfl 0 rfl rfl rfl)) (zq o k) sb_ fo_
def C4g (a:Act):List Int :=
 (bif (decide (a.n=0)) then (C9 (O8 ([0]:List Int)) fun (u:List Int)=>u) else (bif ((decide (a.n=3))&&(decide (a.m=0))) then (C9 (O8 ([24]:List Int)) fun (s:List Int)=>s) else (bif ((decide (a.n=3))&&(decide (a.m=1))) then (C9 (O8 ([4]:List Int)) fun (p:List Int)=>p) else (bif (decide (a.n=3)) then (C9 (O8 ([4,a.m]:List Int)) fun (r:List Int)=>r) else (bif (decide ((4:Int)≤a.n)) then (C9 (B8b a) fun (q:List Int)=>q) else (bif (decide ((bOp .and .i64 1 a.m)=0)) then (bif (decide ((bOp .and .i64 2 a.m)=0)) then (bif (decide ((bOp .and .i64 4 a.m)=0)) then (bif (decide ((bOp .and .i64 8 a.m)=0)) then (bif (decide ((bOp .and .i64 16 a.m)=0)) then (bif (decide ((bOp .and .i64 32 a.m)=0)) then (bif (decide ((bOp .and .i64 64 a.m)=0)) then (bif (decide ((bOp .and .i64 128 a.m)=0)) then ([]:List Int) else (bif (decide (a.n=1)) then (C9 (O8 ([53]:List Int)) fun (v:List Int)=>v) else (C9 (O8 ([55]:List Int)) fun (d:List Int)=>d))) else (bif (decide (a.n=1)) then (C9 (O8 ([9]:List Int)) fun (w:List Int)=>w) else (C9 (O8 ([29]:List Int)) fun (b:List Int)=>b))) else (bif (decide (a.n=1)) then (C9 (O8 ([8]:List Int)) fun (e:List Int)=>e) else (C9 (O8 ([28]:List Int)) fun (j:List Int)=>j))) else (bif (decide (a.n=1)) then (C9 (O8 ([7]:List Int)) fun (k:List Int)=>k) else (C9 (O8 ([27]:List Int)) fun (g:List Int)=>g))) else (bif (decide (a.n=1)) then (C9 (O8 ([5]:List Int)) fun (t:List Int)=>t) else (C9 (O8 ([25]:List Int)) fun (l:List Int)=>l))) else (bif (decide (a.n=1)) then (C9 (O8 ([3]:List Int)) fun (h:List Int)=>h) else (C9 (O8 ([23]:List Int)) fun (o:List Int)=>o))) else (bif (decide (a.n=1)) then (C9 (O8 ([2]:List Int)) fun (f:List Int)=>f) else (C9 (O8 ([22]:List Int)) fun (c:List Int)=>c))) else (bif (decide (a.n=1)) then (C9 (O8 ([1]:List Int)) fun (x:List Int)=>x) else (C9 (O8 ([22]:List Int)) fun (i:List Int)=>i))))))))
theorem D3a {a:Act} {R:List Int} (hR:C4g a=R):Con Tryz.prog 160 [ag (A2 a)] [] [S7] ({t:Option Addr×Nat // R.length≤t.2∧R.length≤9223372036854775807}) (fun x=>ag [.slice x.1.1 R.length x.1.2]) (fun x=>[]) (fun x=>[sl H8 x.1.1 R]):=by
 refine zce Tryz.func160 fun X hX hr hD=>?_
 replace hR:=(C4g.eq_1 ..).symm.trans hR
 refine sR_ rfl (A8j 2 0 [] (fun i h=>[(1,pt i 0),(2,pt h 0)]) (fun i h=>[bx h [.slice none 0 0] 208,bx i (A2 a) 56]) (fun i h=>(ie (A5 (B4 (sR_ rfl (pl1 4 [1] 5 rfl (ie ?_))))))))
 refine zjd rfl hR ?_ ?_<;>clear hR<;>intro hR h3 fo
 ·refine sR_ rfl (it rfl (C3 (c:=H8) (xs:=([0]:List Int)) K5 rfl rfl rfl okl) fun b4=>?_)
  have:([0]:List Int).length=1:=rfl
  have f:=D0 hR;clear hR;obtain ⟨y0,dm,hR⟩:=f
  refine zc rfl (M6 (l:=([0]:List Int)) (lq:=(some ⟨b4,0,none⟩)) (lk:=1) dm) fun ⟨⟨q5,k6⟩,dx⟩=>?_
  obtain ⟨fx,fr⟩:=dx
  refine zrg 1 0 [0] [] [bx h [.slice q5 y0.length k6] 208,bx i (A2 a) 56] ?_
  subst hR
  refine ie (A8 ?_)
  exact zer hr hD (O3 rfl (D4 (us:=[.slice q5 y0.length k6]) A0d rfl 0 rfl rfl rfl)) (zq q5 k6) sb_ fo_
 refine sR_ rfl (pl1 4 [1] 15 rfl ?_)
 refine zid 4 1 15 19 (decide (a.m=0)) (fun e0 ej=>?_) ?_
 ·refine pl1 4 [1] 19 rfl ?_
  exact zai 2 15 19 e0
 refine pp1 1 11 rfl (ie ?_)
 refine zja rfl hR ?_ ?_<;>clear hR<;>intro hR g4 f5
 ·refine sR_ rfl (it rfl (C3 (c:=H8) (xs:=([24]:List Int)) K5 rfl rfl rfl okl) fun cr=>?_)
  have:([24]:List Int).length=1:=rfl
  have f:=D0 hR;clear hR;obtain ⟨y1,d7,hR⟩:=f
  refine zc rfl (M6 (l:=([24]:List Int)) (lq:=(some ⟨cr,0,none⟩)) (lk:=1) d7) fun ⟨⟨b9,ac⟩,c0⟩=>?_
  obtain ⟨fb,ed⟩:=c0
  refine zrg 1 0 [0] [] [bx h [.slice b9 y1.length ac] 208,bx i (A2 a) 56] ?_
  subst hR
  refine ie (A8 ?_)
  exact zer hr hD (O3 rfl (D4 (us:=[.slice b9 y1.length ac]) A0d rfl 0 rfl rfl rfl)) (zq b9 ac) sb_ fo_
 refine sR_ rfl (pl1 4 [1] 26 rfl ?_)
 refine zid 4 1 26 30 (decide (a.m=1)) (fun dh eg=>?_) ?_
 ·refine pl1 4 [1] 30 rfl ?_
  exact zai 2 26 30 dh
 refine pp1 1 22 rfl (ie ?_)
 refine zja rfl hR ?_ ?_<;>clear hR<;>intro hR fu et
 ·refine sR_ rfl (it rfl (C3 (c:=H8) (xs:=([4]:List Int)) K5 rfl rfl rfl okl) fun dc=>?_)
  have:([4]:List Int).length=1:=rfl
  have f:=D0 hR;clear hR;obtain ⟨y4,d1,hR⟩:=f
  refine zc rfl (M6 (l:=([4]:List Int)) (lq:=(some ⟨dc,0,none⟩)) (lk:=1) d1) fun ⟨⟨ae,ar⟩,c4⟩=>?_
  obtain ⟨e6,f3⟩:=c4
  refine zrg 1 0 [0] [] [bx h [.slice ae y4.length ar] 208,bx i (A2 a) 56] ?_
  subst hR
  refine ie (A8 ?_)
  exact zer hr hD (O3 rfl (D4 (us:=[.slice ae y4.length ar]) A0d rfl 0 rfl rfl rfl)) (zq ae ar) sb_ fo_
 refine sR_ rfl (pl1 4 [1] 33 rfl (ie ?_))
 refine zjd rfl hR ?_ ?_<;>clear hR<;>intro hR fw em
 ·refine sR_ rfl (pl1 2 [1] 38 rfl (it rfl (C3 (c:=H8) (xs:=([4,a.m]:List Int)) K5 rfl rfl rfl okl) fun d6=>?_))
  have:([4,a.m]:List Int).length=2:=rfl
  have f:=D0 hR;clear hR;obtain ⟨y5,db,hR⟩:=f
  refine zc rfl (M6 (l:=([4,a.m]:List Int)) (lq:=(some ⟨d6,0,none⟩)) (lk:=2) db) fun ⟨⟨b5,az⟩,cg⟩=>?_
  obtain ⟨fj,ew⟩:=cg
  refine zrg 1 0 [0] [] [bx h [.slice b5 y5.length az] 208,bx i (A2 a) 56] ?_
  subst hR
  refine ie (A8 ?_)
  exact zer hr hD (O3 rfl (D4 (us:=[.slice b5 y5.length az]) A0d rfl 0 rfl rfl rfl)) (zq b5 az) sb_ fo_
 refine sR_ rfl (pl1 4 [1] 41 rfl (ie ?_))
 refine zjd rfl hR ?_ ?_<;>clear hR<;>intro hR fs eu
 ·refine sR_ rfl (zrl 1 2 [1] [(45,ag (A2 a))] ?_)
  have f:=D0 hR;clear hR;obtain ⟨y6,cq,hR⟩:=f
  refine zc rfl (C9h cq) fun ⟨⟨av,ad⟩,bb⟩=>?_
  obtain ⟨fh,f1⟩:=bb
  refine zrg 1 0 [0] [] [bx h [.slice av y6.length ad] 208,bx i (A2 a) 56] ?_
  subst hR
  refine ie (A8 ?_)
  exact zer hr hD (O3 rfl (D4 (us:=[.slice av y6.length ad]) A0d rfl 0 rfl rfl rfl)) (zq av ad) sb_ fo_
 refine A6 (nx (A5 (sR_ rfl (ix rfl (L8 (us:=[iv 1,iv 1,iv 22,iv 2,iv 2,iv 22,iv 4,iv 3,iv 23,iv 8,iv 5,iv 25,iv 16,iv 7,iv 27,iv 32,iv 8,iv 28,iv 64,iv 9,iv 29,iv 128,iv 53,iv 55]) E3m rfl rfl (E2e 0 rfl okl) rfl) (pp1 1 48 rfl (ie (B4 (A0s 10 ?_))))))))
 refine F3 (sR_ rfl (pp1 1 49 rfl ?_))
 refine ie (A5 (G8 rfl (A6 (nx (A5 (B4 (sR_ rfl (ix rfl (F4 (v:=ag [iv 1,iv 1,iv 22]) (us:=[iv 1,iv 1,iv 22]) Tryz.underlying276 C1s rfl rfl rfl 0 rfl ozw rfl rfl rfl) ?_))))))))
 refine H9 2 0 [0] (fun b=>[(4,pt b 0)]) (fun b=>[bx b (H7 (⟨1,1,22⟩:Atr)) 275,bx h [.slice none 0 0] 208,bx i (A2 a) 56]) (fun b=>?_)
 refine ie (B4 (sR_ rfl (pl1 7 [0,2] 55 rfl (ie ?_))))
 refine zjd rfl hR ?_ ?_<;>clear hR<;>intro hR ft ez
 ·refine A6 (nx (A1 2 rfl (ix rfl (C0 (c:=1) rfl rfl rfl rfl ozw) (pp1 1 48 rfl (A3 (F3 (sR_ rfl (pp1 1 49 rfl (ie (A5 (G8 rfl (A6 (nx (A5 (B4 (sR_ rfl (ix rfl (F4 (v:=ag [iv 2,iv 2,iv 22]) (us:=[iv 2,iv 2,iv 22]) Tryz.underlying276 C1s rfl rfl rfl 1 rfl ozw rfl rfl rfl) ?_)))))))))))))))))
  refine H9 2 0 [0] (fun d=>[(4,pt d 0)]) (fun d=>[bx d (H7 (⟨2,2,22⟩:Atr)) 275,bx b (H7 (⟨1,1,22⟩:Atr)) 275,bx h [.slice none 0 0] 208,bx i (A2 a) 56]) (fun d=>?_)
  refine ie (B4 (sR_ rfl (pl1 7 [0,3] 55 rfl (ie ?_))))
  refine zjd rfl hR ?_ ?_<;>clear hR<;>intro hR fy fa
  ·refine A6 (nx (A1 2 rfl (ix rfl (C0 (c:=2) rfl rfl rfl rfl ozw) (pp1 1 48 rfl (A3 (F3 (sR_ rfl (pp1 1 49 rfl (ie (A5 (G8 rfl (A6 (nx (A5 (B4 (sR_ rfl (ix rfl (F4 (v:=ag [iv 4,iv 3,iv 23]) (us:=[iv 4,iv 3,iv 23]) Tryz.underlying276 C1s rfl rfl rfl 2 rfl ozw rfl rfl rfl) ?_)))))))))))))))))
   refine H9 2 0 [0] (fun e=>[(4,pt e 0)]) (fun e=>[bx e (H7 (⟨4,3,23⟩:Atr)) 275,bx d (H7 (⟨2,2,22⟩:Atr)) 275,bx b (H7 (⟨1,1,22⟩:Atr)) 275,bx h [.slice none 0 0] 208,bx i (A2 a) 56]) (fun e=>?_)
   refine ie (B4 (sR_ rfl (pl1 7 [0,4] 55 rfl (ie ?_))))
   refine zjd rfl hR ?_ ?_<;>clear hR<;>intro hR g1 e7
   ·refine A6 (nx (A1 2 rfl (ix rfl (C0 (c:=3) rfl rfl rfl rfl ozw) (pp1 1 48 rfl (A3 (F3 (sR_ rfl (pp1 1 49 rfl (ie (A5 (G8 rfl (A6 (nx (A5 (B4 (sR_ rfl (ix rfl (F4 (v:=ag [iv 8,iv 5,iv 25]) (us:=[iv 8,iv 5,iv 25]) Tryz.underlying276 C1s rfl rfl rfl 3 rfl ozw rfl rfl rfl) ?_)))))))))))))))))
    refine H9 2 0 [0] (fun g=>[(4,pt g 0)]) (fun g=>[bx g (H7 (⟨8,5,25⟩:Atr)) 275,bx e (H7 (⟨4,3,23⟩:Atr)) 275,bx d (H7 (⟨2,2,22⟩:Atr)) 275,bx b (H7 (⟨1,1,22⟩:Atr)) 275,bx h [.slice none 0 0] 208,bx i (A2 a) 56]) (fun g=>?_)
    refine ie (B4 (sR_ rfl (pl1 7 [0,5] 55 rfl (ie ?_))))
    refine zjd rfl hR ?_ ?_<;>clear hR<;>intro hR fn f6
    ·refine A6 (nx (A1 2 rfl (ix rfl (C0 (c:=4) rfl rfl rfl rfl ozw) (pp1 1 48 rfl (A3 (F3 (sR_ rfl (pp1 1 49 rfl (ie (A5 (G8 rfl (A6 (nx (A5 (B4 (sR_ rfl (ix rfl (F4 (v:=ag [iv 16,iv 7,iv 27]) (us:=[iv 16,iv 7,iv 27]) Tryz.underlying276 C1s rfl rfl rfl 4 rfl ozw rfl rfl rfl) ?_)))))))))))))))))
     refine H9 2 0 [0] (fun j=>[(4,pt j 0)]) (fun j=>[bx j (H7 (⟨16,7,27⟩:Atr)) 275,bx g (H7 (⟨8,5,25⟩:Atr)) 275,bx e (H7 (⟨4,3,23⟩:Atr)) 275,bx d (H7 (⟨2,2,22⟩:Atr)) 275,bx b (H7 (⟨1,1,22⟩:Atr)) 275,bx h [.slice none 0 0] 208,bx i (A2 a) 56]) (fun j=>?_)
     refine ie (B4 (sR_ rfl (pl1 7 [0,6] 55 rfl (ie ?_))))
     refine zjd rfl hR ?_ ?_<;>clear hR<;>intro hR fp ff
     ·refine A6 (nx (A1 2 rfl (ix rfl (C0 (c:=5) rfl rfl rfl rfl ozw) (pp1 1 48 rfl (A3 (F3 (sR_ rfl (pp1 1 49 rfl (ie (A5 (G8 rfl (A6 (nx (A5 (B4 (sR_ rfl (ix rfl (F4 (v:=ag [iv 32,iv 8,iv 28]) (us:=[iv 32,iv 8,iv 28]) Tryz.underlying276 C1s rfl rfl rfl 5 rfl ozw rfl rfl rfl) ?_)))))))))))))))))
      refine H9 2 0 [0] (fun k=>[(4,pt k 0)]) (fun k=>[bx k (H7 (⟨32,8,28⟩:Atr)) 275,bx j (H7 (⟨16,7,27⟩:Atr)) 275,bx g (H7 (⟨8,5,25⟩:Atr)) 275,bx e (H7 (⟨4,3,23⟩:Atr)) 275,bx d (H7 (⟨2,2,22⟩:Atr)) 275,bx b (H7 (⟨1,1,22⟩:Atr)) 275,bx h [.slice none 0 0] 208,bx i (A2 a) 56]) (fun k=>?_)
      refine ie (B4 (sR_ rfl (pl1 7 [0,7] 55 rfl (ie ?_))))
      refine zjd rfl hR ?_ ?_<;>clear hR<;>intro hR fz el
      ·refine A6 (nx (A1 2 rfl (ix rfl (C0 (c:=6) rfl rfl rfl rfl ozw) (pp1 1 48 rfl (A3 (F3 (sR_ rfl (pp1 1 49 rfl (ie (A5 (G8 rfl (A6 (nx (A5 (B4 (sR_ rfl (ix rfl (F4 (v:=ag [iv 64,iv 9,iv 29]) (us:=[iv 64,iv 9,iv 29]) Tryz.underlying276 C1s rfl rfl rfl 6 rfl ozw rfl rfl rfl) ?_)))))))))))))))))
       refine H9 2 0 [0] (fun n=>[(4,pt n 0)]) (fun n=>[bx n (H7 (⟨64,9,29⟩:Atr)) 275,bx k (H7 (⟨32,8,28⟩:Atr)) 275,bx j (H7 (⟨16,7,27⟩:Atr)) 275,bx g (H7 (⟨8,5,25⟩:Atr)) 275,bx e (H7 (⟨4,3,23⟩:Atr)) 275,bx d (H7 (⟨2,2,22⟩:Atr)) 275,bx b (H7 (⟨1,1,22⟩:Atr)) 275,bx h [.slice none 0 0] 208,bx i (A2 a) 56]) (fun n=>?_)
       refine ie (B4 (sR_ rfl (pl1 7 [0,8] 55 rfl (ie ?_))))
       refine zjd rfl hR ?_ ?_<;>clear hR<;>intro hR fm f0
       ·refine A6 (nx (A1 2 rfl (ix rfl (C0 (c:=7) rfl rfl rfl rfl ozw) (pp1 1 48 rfl (A3 (F3 (sR_ rfl (pp1 1 49 rfl (ie (A5 (G8 rfl (A6 (nx (A5 (B4 (sR_ rfl (ix rfl (F4 (v:=ag [iv 128,iv 53,iv 55]) (us:=[iv 128,iv 53,iv 55]) Tryz.underlying276 C1s rfl rfl rfl 7 rfl ozw rfl rfl rfl) ?_)))))))))))))))))
        refine H9 2 0 [0] (fun o=>[(4,pt o 0)]) (fun o=>[bx o (H7 (⟨128,53,55⟩:Atr)) 275,bx n (H7 (⟨64,9,29⟩:Atr)) 275,bx k (H7 (⟨32,8,28⟩:Atr)) 275,bx j (H7 (⟨16,7,27⟩:Atr)) 275,bx g (H7 (⟨8,5,25⟩:Atr)) 275,bx e (H7 (⟨4,3,23⟩:Atr)) 275,bx d (H7 (⟨2,2,22⟩:Atr)) 275,bx b (H7 (⟨1,1,22⟩:Atr)) 275,bx h [.slice none 0 0] 208,bx i (A2 a) 56]) (fun o=>?_)
        refine ie (B4 (sR_ rfl (pl1 7 [0,9] 55 rfl (ie ?_))))
        refine zjd rfl hR ?_ ?_<;>clear hR<;>intro hR g5 f4
        ·refine A6 (nx (A1 2 rfl (ix rfl (C0 (c:=8) rfl rfl rfl rfl ozw) (pp1 1 48 rfl (A3 (F3 (sR_ rfl (pp1 1 49 rfl (ie (A5 (A0f rfl (H3 (nx (sR_ rfl (zrg 2 0 [8] [] [bx o (H7 (⟨128,53,55⟩:Atr)) 275,bx n (H7 (⟨64,9,29⟩:Atr)) 275,bx k (H7 (⟨32,8,28⟩:Atr)) 275,bx j (H7 (⟨16,7,27⟩:Atr)) 275,bx g (H7 (⟨8,5,25⟩:Atr)) 275,bx e (H7 (⟨4,3,23⟩:Atr)) 275,bx d (H7 (⟨2,2,22⟩:Atr)) 275,bx b (H7 (⟨1,1,22⟩:Atr)) 275,bx h [.slice none 0 0] 208,bx i (A2 a) 56] ?_)))))))))))))))
         subst hR
         refine ie (A8 ?_)
         exact zer hr hD (O3 rfl (D4 (us:=[.slice none 0 0]) A0d rfl 8 rfl rfl rfl)) (zq none 0) sb_ fo_
        refine sR_ rfl (pl1 4 [9] 62 rfl (ie ?_))
        refine zjd rfl hR ?_ ?_<;>clear hR<;>intro hR g2 f2
        ·refine sR_ rfl (pl1 2 [0] 67 rfl (it rfl (C3 (c:=H8) (xs:=([53]:List Int)) K5 rfl rfl rfl okl) fun d2=>?_))
         have:([53]:List Int).length=1:=rfl
         have f:=D0 hR;clear hR;obtain ⟨y3,cu,hR⟩:=f
         refine zc rfl (M6 (l:=([53]:List Int)) (lq:=(some ⟨d2,0,none⟩)) (lk:=1) cu) fun ⟨⟨ax,af⟩,bn⟩=>?_
         obtain ⟨ef,fg⟩:=bn
         refine zrg 1 0 [8] [] [bx o (H7 (⟨128,53,55⟩:Atr)) 275,bx n (H7 (⟨64,9,29⟩:Atr)) 275,bx k (H7 (⟨32,8,28⟩:Atr)) 275,bx j (H7 (⟨16,7,27⟩:Atr)) 275,bx g (H7 (⟨8,5,25⟩:Atr)) 275,bx e (H7 (⟨4,3,23⟩:Atr)) 275,bx d (H7 (⟨2,2,22⟩:Atr)) 275,bx b (H7 (⟨1,1,22⟩:Atr)) 275,bx h [.slice ax y3.length af] 208,bx i (A2 a) 56] ?_
         subst hR
         refine ie (A8 ?_)
         exact zer hr hD (O3 rfl (D4 (us:=[.slice ax y3.length af]) A0d rfl 8 rfl rfl rfl)) (zq ax af) sb_ fo_
        refine sR_ rfl (pl1 2 [0] 52 rfl (it rfl (C3 (c:=H8) (xs:=([55]:List Int)) K5 rfl rfl rfl okl) fun dj=>?_))
        have:([55]:List Int).length=1:=rfl
        have f:=D0 hR;clear hR;obtain ⟨c2,bq,hR⟩:=f
        refine zc rfl (M6 (l:=([55]:List Int)) (lq:=(some ⟨dj,0,none⟩)) (lk:=1) bq) fun ⟨⟨ao,au⟩,bl⟩=>?_
        obtain ⟨ee,ex⟩:=bl
        refine zrg 1 0 [8] [] [bx o (H7 (⟨128,53,55⟩:Atr)) 275,bx n (H7 (⟨64,9,29⟩:Atr)) 275,bx k (H7 (⟨32,8,28⟩:Atr)) 275,bx j (H7 (⟨16,7,27⟩:Atr)) 275,bx g (H7 (⟨8,5,25⟩:Atr)) 275,bx e (H7 (⟨4,3,23⟩:Atr)) 275,bx d (H7 (⟨2,2,22⟩:Atr)) 275,bx b (H7 (⟨1,1,22⟩:Atr)) 275,bx h [.slice ao c2.length au] 208,bx i (A2 a) 56] ?_
        subst hR
        refine ie (A8 ?_)
        exact zer hr hD (O3 rfl (D4 (us:=[.slice ao c2.length au]) A0d rfl 8 rfl rfl rfl)) (zq ao au) sb_ fo_
       refine sR_ rfl (pl1 4 [8] 62 rfl (ie ?_))
       refine zjd rfl hR ?_ ?_<;>clear hR<;>intro hR g3 ey
       ·refine sR_ rfl (pl1 2 [0] 67 rfl (it rfl (C3 (c:=H8) (xs:=([9]:List Int)) K5 rfl rfl rfl okl) fun d4=>?_))
        have:([9]:List Int).length=1:=rfl
        have f:=D0 hR;clear hR;obtain ⟨y9,d9,hR⟩:=f
        refine zc rfl (M6 (l:=([9]:List Int)) (lq:=(some ⟨d4,0,none⟩)) (lk:=1) d9) fun ⟨⟨b0,ah⟩,cf⟩=>?_
        obtain ⟨eo,fc⟩:=cf
        refine zrg 1 0 [7] [] [bx n (H7 (⟨64,9,29⟩:Atr)) 275,bx k (H7 (⟨32,8,28⟩:Atr)) 275,bx j (H7 (⟨16,7,27⟩:Atr)) 275,bx g (H7 (⟨8,5,25⟩:Atr)) 275,bx e (H7 (⟨4,3,23⟩:Atr)) 275,bx d (H7 (⟨2,2,22⟩:Atr)) 275,bx b (H7 (⟨1,1,22⟩:Atr)) 275,bx h [.slice b0 y9.length ah] 208,bx i (A2 a) 56] ?_
        subst hR
        refine ie (A8 ?_)
        exact zer hr hD (O3 rfl (D4 (us:=[.slice b0 y9.length ah]) A0d rfl 7 rfl rfl rfl)) (zq b0 ah) sb_ fo_
       refine sR_ rfl (pl1 2 [0] 52 rfl (it rfl (C3 (c:=H8) (xs:=([29]:List Int)) K5 rfl rfl rfl okl) fun e1=>?_))
       have:([29]:List Int).length=1:=rfl
       have f:=D0 hR;clear hR;obtain ⟨bm,cd,hR⟩:=f
       refine zc rfl (M6 (l:=([29]:List Int)) (lq:=(some ⟨e1,0,none⟩)) (lk:=1) cd) fun ⟨⟨aj,aw⟩,ck⟩=>?_
       obtain ⟨e9,eh⟩:=ck
       refine zrg 1 0 [7] [] [bx n (H7 (⟨64,9,29⟩:Atr)) 275,bx k (H7 (⟨32,8,28⟩:Atr)) 275,bx j (H7 (⟨16,7,27⟩:Atr)) 275,bx g (H7 (⟨8,5,25⟩:Atr)) 275,bx e (H7 (⟨4,3,23⟩:Atr)) 275,bx d (H7 (⟨2,2,22⟩:Atr)) 275,bx b (H7 (⟨1,1,22⟩:Atr)) 275,bx h [.slice aj bm.length aw] 208,bx i (A2 a) 56] ?_
       subst hR
       refine ie (A8 ?_)
       exact zer hr hD (O3 rfl (D4 (us:=[.slice aj bm.length aw]) A0d rfl 7 rfl rfl rfl)) (zq aj aw) sb_ fo_
      refine sR_ rfl (pl1 4 [7] 62 rfl (ie ?_))
      refine zjd rfl hR ?_ ?_<;>clear hR<;>intro hR fv en
      ·refine sR_ rfl (pl1 2 [0] 67 rfl (it rfl (C3 (c:=H8) (xs:=([8]:List Int)) K5 rfl rfl rfl okl) fun dn=>?_))
       have:([8]:List Int).length=1:=rfl
       have f:=D0 hR;clear hR;obtain ⟨bc,co,hR⟩:=f
       refine zc rfl (M6 (l:=([8]:List Int)) (lq:=(some ⟨dn,0,none⟩)) (lk:=1) co) fun ⟨⟨am,aa⟩,bo⟩=>?_
       obtain ⟨ep,fl⟩:=bo
       refine zrg 1 0 [6] [] [bx k (H7 (⟨32,8,28⟩:Atr)) 275,bx j (H7 (⟨16,7,27⟩:Atr)) 275,bx g (H7 (⟨8,5,25⟩:Atr)) 275,bx e (H7 (⟨4,3,23⟩:Atr)) 275,bx d (H7 (⟨2,2,22⟩:Atr)) 275,bx b (H7 (⟨1,1,22⟩:Atr)) 275,bx h [.slice am bc.length aa] 208,bx i (A2 a) 56] ?_
       subst hR
       refine ie (A8 ?_)
       exact zer hr hD (O3 rfl (D4 (us:=[.slice am bc.length aa]) A0d rfl 6 rfl rfl rfl)) (zq am aa) sb_ fo_
      refine sR_ rfl (pl1 2 [0] 52 rfl (it rfl (C3 (c:=H8) (xs:=([28]:List Int)) K5 rfl rfl rfl okl) fun dr=>?_))
      have:([28]:List Int).length=1:=rfl
      have f:=D0 hR;clear hR;obtain ⟨bw,c3,hR⟩:=f
      refine zc rfl (M6 (l:=([28]:List Int)) (lq:=(some ⟨dr,0,none⟩)) (lk:=1) c3) fun ⟨⟨ak,b8⟩,c9⟩=>?_
      obtain ⟨eq,e8⟩:=c9
      refine zrg 1 0 [6] [] [bx k (H7 (⟨32,8,28⟩:Atr)) 275,bx j (H7 (⟨16,7,27⟩:Atr)) 275,bx g (H7 (⟨8,5,25⟩:Atr)) 275,bx e (H7 (⟨4,3,23⟩:Atr)) 275,bx d (H7 (⟨2,2,22⟩:Atr)) 275,bx b (H7 (⟨1,1,22⟩:Atr)) 275,bx h [.slice ak bw.length b8] 208,bx i (A2 a) 56] ?_
      subst hR
      refine ie (A8 ?_)
      exact zer hr hD (O3 rfl (D4 (us:=[.slice ak bw.length b8]) A0d rfl 6 rfl rfl rfl)) (zq ak b8) sb_ fo_
     refine sR_ rfl (pl1 4 [6] 62 rfl (ie ?_))
     refine zjd rfl hR ?_ ?_<;>clear hR<;>intro hR g0 fd
     ·refine sR_ rfl (pl1 2 [0] 67 rfl (it rfl (C3 (c:=H8) (xs:=([7]:List Int)) K5 rfl rfl rfl okl) fun d0=>?_))
      have:([7]:List Int).length=1:=rfl
      have f:=D0 hR;clear hR;obtain ⟨cj,bu,hR⟩:=f
      refine zc rfl (M6 (l:=([7]:List Int)) (lq:=(some ⟨d0,0,none⟩)) (lk:=1) bu) fun ⟨⟨b3,ab⟩,c7⟩=>?_
      obtain ⟨f8,dk⟩:=c7
      refine zrg 1 0 [5] [] [bx j (H7 (⟨16,7,27⟩:Atr)) 275,bx g (H7 (⟨8,5,25⟩:Atr)) 275,bx e (H7 (⟨4,3,23⟩:Atr)) 275,bx d (H7 (⟨2,2,22⟩:Atr)) 275,bx b (H7 (⟨1,1,22⟩:Atr)) 275,bx h [.slice b3 cj.length ab] 208,bx i (A2 a) 56] ?_
      subst hR
      refine ie (A8 ?_)
      exact zer hr hD (O3 rfl (D4 (us:=[.slice b3 cj.length ab]) A0d rfl 5 rfl rfl rfl)) (zq b3 ab) sb_ fo_
     refine sR_ rfl (pl1 2 [0] 52 rfl (it rfl (C3 (c:=H8) (xs:=([27]:List Int)) K5 rfl rfl rfl okl) fun bg=>?_))
     have:([27]:List Int).length=1:=rfl
     have f:=D0 hR;clear hR;obtain ⟨cm,bh,hR⟩:=f
     refine zc rfl (M6 (l:=([27]:List Int)) (lq:=(some ⟨bg,0,none⟩)) (lk:=1) bh) fun ⟨⟨w,a2⟩,aq⟩=>?_
     obtain ⟨dt,e2⟩:=aq
     refine zrg 1 0 [5] [] [bx j (H7 (⟨16,7,27⟩:Atr)) 275,bx g (H7 (⟨8,5,25⟩:Atr)) 275,bx e (H7 (⟨4,3,23⟩:Atr)) 275,bx d (H7 (⟨2,2,22⟩:Atr)) 275,bx b (H7 (⟨1,1,22⟩:Atr)) 275,bx h [.slice w cm.length a2] 208,bx i (A2 a) 56] ?_
     subst hR
     refine ie (A8 ?_)
     exact zer hr hD (O3 rfl (D4 (us:=[.slice w cm.length a2]) A0d rfl 5 rfl rfl rfl)) (zq w a2) sb_ fo_
    refine sR_ rfl (pl1 4 [5] 62 rfl (ie ?_))
    refine zjd rfl hR ?_ ?_<;>clear hR<;>intro hR er ct
    ·refine sR_ rfl (pl1 2 [0] 67 rfl (it rfl (C3 (c:=H8) (xs:=([5]:List Int)) K5 rfl rfl rfl okl) fun cl=>?_))
     have:([5]:List Int).length=1:=rfl
     have f:=D0 hR;clear hR;obtain ⟨y7,dy,hR⟩:=f
     refine zc rfl (M6 (l:=([5]:List Int)) (lq:=(some ⟨cl,0,none⟩)) (lk:=1) dy) fun ⟨⟨z,a7⟩,ba⟩=>?_
     obtain ⟨cv,e4⟩:=ba
     refine zrg 1 0 [4] [] [bx g (H7 (⟨8,5,25⟩:Atr)) 275,bx e (H7 (⟨4,3,23⟩:Atr)) 275,bx d (H7 (⟨2,2,22⟩:Atr)) 275,bx b (H7 (⟨1,1,22⟩:Atr)) 275,bx h [.slice z y7.length a7] 208,bx i (A2 a) 56] ?_
     subst hR
     refine ie (A8 ?_)
     exact zer hr hD (O3 rfl (D4 (us:=[.slice z y7.length a7]) A0d rfl 4 rfl rfl rfl)) (zq z a7) sb_ fo_
    refine sR_ rfl (pl1 2 [0] 52 rfl (it rfl (C3 (c:=H8) (xs:=([25]:List Int)) K5 rfl rfl rfl okl) fun ca=>?_))
    have:([25]:List Int).length=1:=rfl
    have f:=D0 hR;clear hR;obtain ⟨bk,be,hR⟩:=f
    refine zc rfl (M6 (l:=([25]:List Int)) (lq:=(some ⟨ca,0,none⟩)) (lk:=1) be) fun ⟨⟨a8,a3⟩,b6⟩=>?_
    obtain ⟨dq,da⟩:=b6
    refine zrg 1 0 [4] [] [bx g (H7 (⟨8,5,25⟩:Atr)) 275,bx e (H7 (⟨4,3,23⟩:Atr)) 275,bx d (H7 (⟨2,2,22⟩:Atr)) 275,bx b (H7 (⟨1,1,22⟩:Atr)) 275,bx h [.slice a8 bk.length a3] 208,bx i (A2 a) 56] ?_
    subst hR
    refine ie (A8 ?_)
    exact zer hr hD (O3 rfl (D4 (us:=[.slice a8 bk.length a3]) A0d rfl 4 rfl rfl rfl)) (zq a8 a3) sb_ fo_
   refine sR_ rfl (pl1 4 [4] 62 rfl (ie ?_))
   refine zjd rfl hR ?_ ?_<;>clear hR<;>intro hR ec cy
   ·refine sR_ rfl (pl1 2 [0] 67 rfl (it rfl (C3 (c:=H8) (xs:=([3]:List Int)) K5 rfl rfl rfl okl) fun c6=>?_))
    have:([3]:List Int).length=1:=rfl
    have f:=D0 hR;clear hR;obtain ⟨cn,bz,hR⟩:=f
    refine zc rfl (M6 (l:=([3]:List Int)) (lq:=(some ⟨c6,0,none⟩)) (lk:=1) bz) fun ⟨⟨a9,s⟩,an⟩=>?_
    obtain ⟨d8,df⟩:=an
    refine zrg 1 0 [3] [] [bx e (H7 (⟨4,3,23⟩:Atr)) 275,bx d (H7 (⟨2,2,22⟩:Atr)) 275,bx b (H7 (⟨1,1,22⟩:Atr)) 275,bx h [.slice a9 cn.length s] 208,bx i (A2 a) 56] ?_
    subst hR
    refine ie (A8 ?_)
    exact zer hr hD (O3 rfl (D4 (us:=[.slice a9 cn.length s]) A0d rfl 3 rfl rfl rfl)) (zq a9 s) sb_ fo_
   refine sR_ rfl (pl1 2 [0] 52 rfl (it rfl (C3 (c:=H8) (xs:=([23]:List Int)) K5 rfl rfl rfl okl) fun cb=>?_))
   have:([23]:List Int).length=1:=rfl
   have f:=D0 hR;clear hR;obtain ⟨ce,ci,hR⟩:=f
   refine zc rfl (M6 (l:=([23]:List Int)) (lq:=(some ⟨cb,0,none⟩)) (lk:=1) ci) fun ⟨⟨a5,a4⟩,ap⟩=>?_
   obtain ⟨di,cw⟩:=ap
   refine zrg 1 0 [3] [] [bx e (H7 (⟨4,3,23⟩:Atr)) 275,bx d (H7 (⟨2,2,22⟩:Atr)) 275,bx b (H7 (⟨1,1,22⟩:Atr)) 275,bx h [.slice a5 ce.length a4] 208,bx i (A2 a) 56] ?_
   subst hR
   refine ie (A8 ?_)
   exact zer hr hD (O3 rfl (D4 (us:=[.slice a5 ce.length a4]) A0d rfl 3 rfl rfl rfl)) (zq a5 a4) sb_ fo_
  refine sR_ rfl (pl1 4 [3] 62 rfl (ie ?_))
  refine zjd rfl hR ?_ ?_<;>clear hR<;>intro hR e5 ds
  ·refine sR_ rfl (pl1 2 [0] 67 rfl (it rfl (C3 (c:=H8) (xs:=([2]:List Int)) K5 rfl rfl rfl okl) fun bj=>?_))
   have:([2]:List Int).length=1:=rfl
   have f:=D0 hR;clear hR;obtain ⟨cc,bp,hR⟩:=f
   refine zc rfl (M6 (l:=([2]:List Int)) (lq:=(some ⟨bj,0,none⟩)) (lk:=1) bp) fun ⟨⟨u,q⟩,ay⟩=>?_
   obtain ⟨cp,dg⟩:=ay
   refine zrg 1 0 [2] [] [bx d (H7 (⟨2,2,22⟩:Atr)) 275,bx b (H7 (⟨1,1,22⟩:Atr)) 275,bx h [.slice u cc.length q] 208,bx i (A2 a) 56] ?_
   subst hR
   refine ie (A8 ?_)
   exact zer hr hD (O3 rfl (D4 (us:=[.slice u cc.length q]) A0d rfl 2 rfl rfl rfl)) (zq u q) sb_ fo_
  refine sR_ rfl (pl1 2 [0] 52 rfl (it rfl (C3 (c:=H8) (xs:=([22]:List Int)) K5 rfl rfl rfl okl) fun bi=>?_))
  have:([22]:List Int).length=1:=rfl
  have f:=D0 hR;clear hR;obtain ⟨c8,br,hR⟩:=f
  refine zc rfl (M6 (l:=([22]:List Int)) (lq:=(some ⟨bi,0,none⟩)) (lk:=1) br) fun ⟨⟨y,a0⟩,b7⟩=>?_
  obtain ⟨dl,d3⟩:=b7
  refine zrg 1 0 [2] [] [bx d (H7 (⟨2,2,22⟩:Atr)) 275,bx b (H7 (⟨1,1,22⟩:Atr)) 275,bx h [.slice y c8.length a0] 208,bx i (A2 a) 56] ?_
  subst hR
  refine ie (A8 ?_)
  exact zer hr hD (O3 rfl (D4 (us:=[.slice y c8.length a0]) A0d rfl 2 rfl rfl rfl)) (zq y a0) sb_ fo_
 refine sR_ rfl (pl1 4 [2] 62 rfl (ie ?_))
 refine zjd rfl hR ?_ ?_<;>clear hR<;>intro hR es cz
 ·refine sR_ rfl (pl1 2 [0] 67 rfl (it rfl (C3 (c:=H8) (xs:=([1]:List Int)) K5 rfl rfl rfl okl) fun bd=>?_))
  have:([1]:List Int).length=1:=rfl
  have f:=D0 hR;clear hR;obtain ⟨y8,d5,hR⟩:=f
  refine zc rfl (M6 (l:=([1]:List Int)) (lq:=(some ⟨bd,0,none⟩)) (lk:=1) d5) fun ⟨⟨a6,r⟩,al⟩=>?_
  obtain ⟨dz,cs⟩:=al
  refine zrg 1 0 [1] [] [bx b (H7 (⟨1,1,22⟩:Atr)) 275,bx h [.slice a6 y8.length r] 208,bx i (A2 a) 56] ?_
  subst hR
  refine ie (A8 ?_)
  exact zer hr hD (O3 rfl (D4 (us:=[.slice a6 y8.length r]) A0d rfl 1 rfl rfl rfl)) (zq a6 r) sb_ fo_
 refine sR_ rfl (pl1 2 [0] 52 rfl (it rfl (C3 (c:=H8) (xs:=([22]:List Int)) K5 rfl rfl rfl okl) fun c5=>?_))
 have:([22]:List Int).length=1:=rfl
 have f:=D0 hR;clear hR;obtain ⟨ch,c1,hR⟩:=f
 refine zc rfl (M6 (l:=([22]:List Int)) (lq:=(some ⟨c5,0,none⟩)) (lk:=1) c1) fun ⟨⟨a1,p⟩,ai⟩=>?_
 obtain ⟨dv,dw⟩:=ai
 refine zrg 1 0 [1] [] [bx b (H7 (⟨1,1,22⟩:Atr)) 275,bx h [.slice a1 ch.length p] 208,bx i (A2 a) 56] ?_
 subst hR
 refine ie (A8 ?_)
 exact zer hr hD (O3 rfl (D4 (us:=[.slice a1 ch.length p]) A0d rfl 1 rfl rfl rfl)) (zq a1 p) sb_ fo_
def A4d:List Act→List (List Int)→Nat→(List (List Int)×Int)
 | [],out,t26=>(out,0)
 | hd_l1::tl_l1,out,t26=>(C9 (C4g hd_l1) fun (a:List Int)=>A4d tl_l1 (out++([a]:List (List Int))) (t26+1))
def A4g (l:List Act):List Act→Nat→(List (List Int)×Int)
 | [],t11=>(bif (decide ((16:Int)<(l.length:Int))) then (([]:List (List Int)),3) else A4d l ([]:List (List Int)) 0)
 | hd_l0::tl_l0,t11=>(bif (!decide ((A3d hd_l0)=0)) then (([]:List (List Int)),(A3d hd_l0)) else A4g l tl_l0 (t11+1))
def B3k (l:List Act):List (List Int)×Int :=
 A4g l l 0
theorem ooy {p:Prop} (h:p:=by first|rfl|(simp only [List.length_take,List.length_drop];omega)):p:=h
theorem oez {p:Prop} (h:p:=by first|omega|(simp only [List.length_take,List.length_drop,List.length_append,List.length_cons,List.length_nil,List.length_set,List.length_map,O8];omega)|decide):p:=h
theorem oit {p:Prop} (h:p:=by first|omega|(simp only [List.length_cons,List.length_nil,List.length_append,List.length_take,List.length_drop,O8];omega)):p:=h
theorem ozq {p:Prop} (h:p:=by first|omega|(simp only [List.length_append,List.length_cons,List.length_nil];omega)):p:=h
theorem C9j {l:List Act} {lq:Option Addr} {lk:Nat} {R:List (List Int)×Int} (hR:B3k l=R) (ad:l.length≤9223372036854775807:=by exact om_) (ac:l.length≤lk:=by exact om_):Con Tryz.prog 105 [.slice lq l.length lk] [] [sl A2 lq l,S7] ({t:VR×List Slc // VOk 1 R.1.length t.1∧D5 t.2 R.1}) (fun x=>.tuple #[.slice (va x.1.1.q) R.1.length x.1.1.k,iv R.2]) (fun x=>((vo N1 208 x.1.1 x.1.2)++([]))) (fun x=>[I1 H8 x.1.2 R.1]):=by
 refine zce Tryz.func105 fun X hX hr hD=>?_
 replace hR:=(B3k.eq_1 ..).symm.trans hR
 refine sR_ rfl (pp1 2 2 rfl (ie (A5 (sR_ rfl (pp3 3 9 10 11 rfl (ie (B4 (A5o (fun (h:Nat)=>(h≤l.length∧A4g l (l.drop h) h=R,[(0,.slice lq l.length lk),(2,.slice none 0 0),(9,.slice lq l.length lk),(10,iv (l.length:Int)),(11,iv (h:Int))],[],[sl A2 lq l,S7],l.length - h)) 0 ⟨opx,hR⟩ sb_ B0.refl ?_))))))))
 rintro h ⟨a9,hR⟩
 refine sR_ rfl (pp1 1 12 rfl ?_)
 refine ie (A5 (W8 rfl (fun h2=>?_) (fun h2=>?_)))
 ·have v:=bq_ h2
  rw [A0r Act.zero (show h<l.length by omega)] at hR;replace hR:=(A4g.eq_2 ..).symm.trans hR
  refine A6 (nx (A5 (B4 (sR_ rfl (P3 0 rfl opx fun a3 z=>(ix rfl (K2 A5y rfl rfl z rfl h rfl opx) (ix rfl (L8 (us:=A2 (l.getD h Act.zero)) B5a rfl rfl (N0 (c:=A2) (sz:=6) z (fun _=>rfl) 0 rfl (gd Act.zero opx)) rfl) ?_)))))))
  refine H9 2 0 [0] (fun b5=>[(5,pt b5 0)]) (fun b5=>[bx b5 (A2 (l.getD h Act.zero)) 56]) (fun b5=>?_)
  refine ie (sR_ rfl (zrl 1 2 [0] [(15,ag (A2 (l.getD h Act.zero)))] (zv rfl (B1o rfl) (pp1 1 6 rfl (ie (sR_ rfl (pp1 2 18 rfl (ie ?_))))))))
  refine zjn rfl hR ?_ ?_<;>clear hR<;>intro hR h6 ab
  ·refine sR_ rfl (pp2 3 2 3 rfl ?_)
   subst hR
   refine ie (A8 ?_)
   exact zer hr hD (U6 rfl (B9 rfl) (B9 rfl)) ⟨(VR.nil,([]:List Slc)),⟨VOk.nil,D5.none⟩⟩ sb_ fo_
  refine A6 (nx (A1 2 rfl (ix rfl (C0 rfl rfl rfl rfl opx) (pp1 1 11 rfl (A3 ?_)))))
  exact A1r (z1:=h) (h+1) ⟨opx,hR⟩ olr sb_ B0.refl
 have v:=bq_ h2
 rw [A1i v] at hR;replace hR:=(A4g.eq_1 ..).symm.trans hR
 refine H3 (nx (A5 (sR_ rfl (pp1 3 23 rfl ?_))))
 refine ie ?_
 refine zjd rfl hR ?_ ?_<;>clear hR<;>intro hR h7 aa
 ·refine sR_ rfl (pp2 2 2 3 rfl ?_)
  subst hR
  refine ie (A8 ?_)
  exact zer hr hD (U6 rfl (B9 rfl) (B9 rfl)) ⟨(VR.nil,([]:List Slc)),⟨VOk.nil,D5.none⟩⟩ sb_ fo_
 refine A6 (nx (A5 (sR_ rfl (pp3 3 24 25 26 rfl (ie (B4 ?_))))))
 refine A5o (un fun (g:List (List Int))=>un fun (e:VR)=>un fun (d:List Slc) (f:Nat)=>(f≤l.length∧A4d (l.drop f) g f=R∧VOk 1 g.length e∧D5 d g∧g.length≤f∧l.length≤16,[(2,.slice (va e.q) g.length e.k),(24,.slice lq l.length lk),(25,iv (l.length:Int)),(26,iv (f:Int))],((vo N1 208 e d)++([])),[sl A2 lq l,S7,I1 H8 d g],l.length - f)) (([]:List (List Int)),VR.nil,([]:List Slc),0) ⟨opx,hR,VOk.nil,D5.none,(by constructor<;>first|omega|simp)⟩ sb_ fo_ ?_
 rintro ⟨g,e,d,f⟩ ⟨ah,hR,i,b,ho⟩
 have:=VOk.le i
 have:=b.1
 refine sR_ rfl (pp1 1 27 rfl ?_)
 refine ie (A5 (W8 rfl (fun h9=>?_) (fun h9=>?_)))
 ·have y:=bq_ h9
  rw [A0r Act.zero (show f<l.length by omega)] at hR;replace hR:=(A4d.eq_2 ..).symm.trans hR
  refine A6 (nx (A5 (B4 (sR_ rfl (P3 0 rfl opx fun af u=>(ix rfl (K2 A5y rfl rfl u rfl f rfl opx) (ix rfl (L8 (us:=A2 (l.getD f Act.zero)) B5a rfl rfl (N0 (c:=A2) (sz:=6) u (fun _=>rfl) 0 rfl (gd Act.zero opx)) rfl) ?_)))))))
  refine H9 2 0 [0] (fun s=>[(8,pt s 0)]) (fun s=>(bx s (A2 (l.getD f Act.zero)) 56::((vo N1 208 e d)++([])))) (fun s=>?_)
  refine ie (A1 6 rfl (zrl 2 4 [0] [(30,.slice (va e.q) g.length e.k),(31,ag (A2 (l.getD f Act.zero)))] ?_))
  have hQ:=D0 hR;clear hR;obtain ⟨o,a5,hR⟩:=hQ
  refine zc rfl (D3a (a:=(l.getD f Act.zero)) a5) fun ⟨⟨n,m⟩,w⟩=>?_
  obtain ⟨a7,a8⟩:=w
  refine it rfl (C3 (c:=N1) (xs:=([⟨n,o.length,m⟩]:List Slc)) B7y rfl rfl rfl okl) fun ae=>?_
  have j:D5 ([⟨n,o.length,m⟩]:List Slc) ([o]:List (List Int)):=(D5.cons ⟨ooy,oez,oez⟩ D5.none)
  refine D7 (q:=I1 H8 ([⟨n,o.length,m⟩]:List Slc) ([o]:List (List Int))) (A1h (B1 1 rfl) P5) ?_
  have:([⟨n,o.length,m⟩]:List Slc).length=1:=rfl
  have a0:D5 (d++([⟨n,o.length,m⟩]:List Slc)) (g++([o]:List (List Int))):=D5.append b j
  refine it rfl (V3 (r:=e) (rs:=d) (xss:=g) (pre:=[bx s (A2 (l.getD f Act.zero)) 56]) (post:=[]) D3g rfl rfl rfl rfl rfl rfl rfl rfl rfl (B1 1 rfl) (B1 5 rfl) (B1 0 rfl) b j i oit oit) fun ⟨a4,p⟩=>?_
  have:=VOk.le p
  have:=VOk.cap p
  have:([o]:List (List Int)).length=1:=rfl
  have:(g++([o]:List (List Int))).length=g.length+1:=List.length_append
  refine pp1 1 2 rfl (A3 (nx (A1 2 rfl (ix rfl (C0 rfl rfl rfl rfl opx) (pp1 1 26 rfl (A3 ?_))))))
  exact A1r (z1:=(g,e,d,f)) ((g++([o]:List (List Int))),a4,(d++([⟨n,o.length,m⟩]:List Slc)),f+1) ⟨opx,hR,p,a0,ozq⟩ olr sb_ fo_
 have y:=bq_ h9
 rw [A1i y] at hR;replace hR:=(A4d.eq_1 ..).symm.trans hR
 refine H3 (nx (sR_ rfl (pp2 3 2 3 rfl ?_)))
 subst hR
 refine ie (A8 ?_)
 exact zer hr hD (U6 rfl (B9 rfl) (B9 rfl)) ⟨(e,d),⟨i,b⟩⟩ sb_ fo_
end Go.Proofs.YtioaekgoceinkaaGreatDoor
set_option linter.unusedVariables false
set_option linter.unusedSimpArgs false
set_option linter.unnecessarySimpa false
set_option maxRecDepth 100000
namespace Go.Proofs.YtioaekgoceinkaaGreatDoor
open Go Go.Fen
theorem E3l:Ty Tryz.prog 125 1 false:=⟨by kernel_rfl⟩
def A7n (l:List (List Int)):Bool :=
 (((decide ((l.length:Int)=1))&&(decide (((l.getD 0 []).length:Int)=1)))&&(decide (((l.getD 0 []).getD 0 0)=(-1))))
theorem C6w {l:List (List Int)} {lq:Option Addr} {b:List Slc} {lk:Nat} {R:Bool} (hR:A7n l=R) (a:D5 b l:=by exact om_) (j:l.length≤9223372036854775807:=by exact om_) (i:l.length≤lk:=by exact om_):G3 Tryz.prog 236 [.slice lq l.length lk] [sl N1 lq b,I1 H8 b l] (bv R):=by
 refine zce Tryz.func236 fun X hX hr hD=>?_
 replace hR:=(A7n.eq_1 ..).symm.trans hR
 have:=a.1
 refine sR_ rfl (pp0 1 rfl (ie (sR_ rfl (pp1 4 6 rfl ?_))))
 refine zid 7 10 6 13 (decide (((l.getD 0 []).length:Int)=1)) (fun r m=>?_) ?_
 ·refine ip' 1 6 [(7,.slice lq l.length lk)] (P3 0 rfl (by have:=a.1;omega) fun s g=>(D7 (B2a (k:=0) (d:=(⟨none,0,0⟩:Slc)) a 1 rfl (by have:=a.1;omega)) ?_))
  have:=B1q a (k:=0) (d:=(⟨none,0,0⟩:Slc)) (by have:=a.1;omega)
  refine ix rfl (K2 B7y rfl rfl g rfl 0 rfl opx) (ip' 1 4 [(9,pa (Addr.add s (0 * 1)))] (ix rfl (I2 (D6 (v:=.slice ((b.getD 0 (⟨none,0,0⟩:Slc)).q) ((b.getD 0 (⟨none,0,0⟩:Slc)).n) ((b.getD 0 (⟨none,0,0⟩:Slc)).k)) (us:=[.slice ((b.getD 0 (⟨none,0,0⟩:Slc)).q) ((b.getD 0 (⟨none,0,0⟩:Slc)).n) ((b.getD 0 (⟨none,0,0⟩:Slc)).k)]) D6y rfl rfl (S3 (N0 (c:=N1) (sz:=1) g (fun _=>rfl) 1 rfl (gd (⟨none,0,0⟩:Slc) (by have:=a.1;omega))) (ws:=[.slice ((b.getD 0 (⟨none,0,0⟩:Slc)).q) ((b.getD 0 (⟨none,0,0⟩:Slc)).n) ((b.getD 0 (⟨none,0,0⟩:Slc)).k)]) 1 rfl) rfl) (B2o a (by have:=a.1;omega))) (pp1 3 13 rfl ?_)))
  exact A3 (P7 6 6 13 r fo_ sb_ rfl rfl rfl rfl rfl)
 refine pp1 1 14 rfl ?_
 refine zia 8 1 14 22 (decide (((l.getD 0 []).getD 0 0)=(-1))) (fun h=>?_) ?_
 ·have o:=bq_ h
  refine ip' 1 7 [(15,.slice lq l.length lk)] (P3 0 rfl (by have:=a.1;omega) fun p f=>(D7 (B2a (k:=0) (d:=(⟨none,0,0⟩:Slc)) a 1 rfl (by have:=a.1;omega)) ?_))
  have:=B1q a (k:=0) (d:=(⟨none,0,0⟩:Slc)) (by have:=a.1;omega)
  refine ix rfl (K2 B7y rfl rfl f rfl 0 rfl opx) (ip' 1 5 [(17,pa (Addr.add p (0 * 1)))] (ix rfl (I2 (D6 (v:=.slice ((b.getD 0 (⟨none,0,0⟩:Slc)).q) ((b.getD 0 (⟨none,0,0⟩:Slc)).n) ((b.getD 0 (⟨none,0,0⟩:Slc)).k)) (us:=[.slice ((b.getD 0 (⟨none,0,0⟩:Slc)).q) ((b.getD 0 (⟨none,0,0⟩:Slc)).n) ((b.getD 0 (⟨none,0,0⟩:Slc)).k)]) D6y rfl rfl (S3 (N0 (c:=N1) (sz:=1) f (fun _=>rfl) 1 rfl (gd (⟨none,0,0⟩:Slc) (by have:=a.1;omega))) (ws:=[.slice ((b.getD 0 (⟨none,0,0⟩:Slc)).q) ((b.getD 0 (⟨none,0,0⟩:Slc)).n) ((b.getD 0 (⟨none,0,0⟩:Slc)).k)]) 1 rfl) rfl) (B2o a (by have:=a.1;omega))) (P3 0 rfl opx fun t e=>(ix rfl (K2 K5 rfl rfl e rfl 0 rfl opx) (ix rfl (D6 (v:=iv ((l.getD 0 []).getD 0 0)) (us:=[iv ((l.getD 0 []).getD 0 0)]) ty3 rfl rfl (N0 (c:=H8) (sz:=1) e (fun _=>rfl) 0 rfl (gd 0 opx)) rfl) (pp1 2 22 rfl ?_))))))
  exact A3 (P7 8 14 22 h fo_ sb_ rfl rfl rfl rfl rfl)
 refine pp1 1 2 rfl ?_
 subst hR
 refine ie (A8 ?_)
 exact E9 hr hD
def A2c (n:Int):Bool :=
 ((decide (n<(-1)))||(decide ((9999:Int)<n)))
theorem B9c {n:Int} {R:Bool} (hR:A2c n=R):G3 Tryz.prog 235 [iv n] [] (bv R):=by
 refine zce Tryz.func235 fun X hX hr hD=>?_
 replace hR:=(A2c.eq_1 ..).symm.trans hR
 refine sR_ rfl (pp0 1 rfl (ie (sR_ rfl (pp1 3 5 rfl ?_))))
 refine zir 3 1 5 8 (decide ((9999:Int)<n)) (fun b a=>?_) ?_
 ·refine pp1 3 8 rfl ?_
  exact A3 (P7 2 5 8 b fn0 sb_ rfl rfl rfl rfl rfl)
 refine pp1 1 2 rfl ?_
 subst hR
 refine ie (A8 ?_)
 exact E9 hr hD
def K6:List Int→Nat→Int
 | [],a=>(-1)
 | hd_l0::tl_l0,a=>(bif (A2c hd_l0) then (a:Int) else K6 tl_l0 (a+1))
def W3 (s:List Int):Int :=
 K6 s 0
theorem B0i {s:List Int} {b:Option Addr} {sk:Nat} {R:Int} (hR:W3 s=R) (g:s.length≤9223372036854775807:=by exact om_) (i:s.length≤sk:=by exact om_):G3 Tryz.prog 277 [.slice b s.length sk,.func (.func 235) #[] #[]] [sl H8 b s] (iv R):=by
 refine zce Tryz.func277 fun X hX hr hD=>?_
 replace hR:=(W3.eq_1 ..).symm.trans hR
 refine sR_ rfl (pp0 1 rfl (ie (A5 (sR_ rfl (pp2 3 7 8 rfl (ie (B4 (A5o (fun (a:Nat)=>(a≤s.length∧K6 (s.drop a) a=R,[(0,.slice b s.length sk),(1,.func (.func 235) #[] #[]),(7,iv (s.length:Int)),(8,iv (a:Int))],[],[sl H8 b s],s.length - a)) 0 ⟨opx,hR⟩ sb_ B0.refl ?_))))))))
 rintro a ⟨h,hR⟩
 refine sR_ rfl (pp1 1 9 rfl ?_)
 refine ie (A5 (W8 rfl (fun f=>?_) (fun f=>?_)))
 ·have d:=bq_ f
  rw [A0r 0 (show a<s.length by omega)] at hR;replace hR:=(K6.eq_2 ..).symm.trans hR
  refine A6 (nx (A5 (B4 (sR_ rfl (pp1 2 5 rfl (ie (sR_ rfl (ip' 3 3 [(11,.func (.func 235) #[] #[]),(12,.slice b s.length sk),(13,iv (a:Int))] (P3 0 rfl opx fun j e=>(ix rfl (K2 K5 rfl rfl e rfl a rfl opx) (ix rfl (D6 ty3 rfl rfl (N0 (c:=H8) (sz:=1) e (fun _=>rfl) 0 rfl (gd 0 opx)) rfl) (zv rfl (B9c rfl) (ie ?_)))))))))))))
  refine zjb rfl hR ?_ ?_<;>clear hR<;>intro hR k
  ·refine sR_ rfl (pp1 2 4 rfl ?_)
   subst hR
   refine ie (A8 ?_)
   exact E9 hr hD
  refine A6 (nx (A1 2 rfl (ix rfl (C0 rfl rfl rfl rfl opx) (pp1 1 8 rfl (A3 ?_)))))
  exact A1r (z1:=a) (a+1) ⟨opx,hR⟩ olr sb_ B0.refl
 have d:=bq_ f
 rw [A1i d] at hR;replace hR:=(K6.eq_1 ..).symm.trans hR
 refine H3 (nx (sR_ rfl (pp1 1 4 rfl ?_)))
 subst hR
 refine ie (A8 ?_)
 exact E9 hr hD
def P8 (s:List Int):Bool :=
 (decide ((0:Int)≤(W3 s)))
theorem A7e {s:List Int} {a:Option Addr} {sk:Nat} {R:Bool} (hR:P8 s=R) (c:s.length≤9223372036854775807:=by exact om_) (b:s.length≤sk:=by exact om_):G3 Tryz.prog 234 [.slice a s.length sk,.func (.func 235) #[] #[]] [sl H8 a s] (bv R):=by
 refine zce Tryz.func234 fun X hX hr hD=>?_
 replace hR:=(P8.eq_1 ..).symm.trans hR
 refine sR_ rfl (pp0 1 rfl (ie (sR_ rfl (ip' 2 3 [(5,.slice a s.length sk),(6,.func (.func 235) #[] #[])] (zv rfl (B0i rfl) (pp1 2 4 rfl ?_))))))
 subst hR
 refine ie (A8 ?_)
 exact E9 hr hD
def A0v (p:List Int):Bool :=
 (((decide ((p.length:Int)=0))||(decide ((6:Int)<(p.length:Int))))||(P8 p))
theorem C2p {p:List Int} {b:Option Addr} {pk:Nat} {R:Bool} (hR:A0v p=R) (h:p.length≤9223372036854775807:=by exact om_) (g:p.length≤pk:=by exact om_):G3 Tryz.prog 233 [ag [.slice b p.length pk]] [sl H8 b p] (bv R):=by
 refine zce Tryz.func233 fun X hX hr hD=>?_
 replace hR:=(A0v.eq_1 ..).symm.trans hR
 refine sR_ rfl (H9 2 0 [] (fun a=>[(1,pt a 0)]) (fun a=>[bx a [.slice b p.length pk] 208]) (fun a=>(ie (sR_ rfl (pl1 5 [0] 7 rfl ?_)))))
 refine zir 5 6 7 12 (decide ((6:Int)<(p.length:Int))) (fun d e=>?_) ?_
 ·refine pl1 5 [0] 12 rfl ?_
  exact zai 2 7 12 d
 refine pp1 1 13 rfl ?_
 refine zio 4 1 13 17 (P8 p) (fun c=>?_) ?_
 ·have f:=bq_ c
  refine pl1 2 [0] 15 rfl (zv rfl (A7e rfl) (pp1 1 17 rfl ?_))
  exact zai 4 13 17 c
 refine pp1 1 2 rfl ?_
 subst hR
 refine ie (A8 ?_)
 exact E9 hr hD
def F9:List (List Int)→Nat→Int
 | [],a=>(-1)
 | hd_l0::tl_l0,a=>(bif (A0v hd_l0) then (a:Int) else F9 tl_l0 (a+1))
def N9 (s:List (List Int)):Int :=
 F9 s 0
theorem A3e {s:List (List Int)} {f:Option Addr} {b:List Slc} {sk:Nat} {R:Int} (hR:N9 s=R) (a:D5 b s:=by exact om_) (j:s.length≤9223372036854775807:=by exact om_) (m:s.length≤sk:=by exact om_):G3 Tryz.prog 278 [.slice f s.length sk,.func (.func 233) #[] #[]] [sl N1 f b,I1 H8 b s] (iv R):=by
 refine zce Tryz.func278 fun X hX hr hD=>?_
 replace hR:=(N9.eq_1 ..).symm.trans hR
 have:=a.1
 refine sR_ rfl (pp0 1 rfl (ie (A5 (sR_ rfl (pp2 3 7 8 rfl (ie (B4 (A5o (fun (e:Nat)=>(e≤s.length∧F9 (s.drop e) e=R,[(0,.slice f s.length sk),(1,.func (.func 233) #[] #[]),(7,iv (s.length:Int)),(8,iv (e:Int))],[],[sl N1 f b,I1 H8 b s],s.length - e)) 0 ⟨opx,hR⟩ sb_ B0.refl ?_))))))))
 rintro e ⟨l,hR⟩
 refine sR_ rfl (pp1 1 9 rfl ?_)
 refine ie (A5 (W8 rfl (fun i=>?_) (fun i=>?_)))
 ·have g:=bq_ i
  rw [A0r [] (show e<s.length by omega)] at hR;replace hR:=(F9.eq_2 ..).symm.trans hR
  refine A6 (nx (A5 (B4 (sR_ rfl (pp1 2 5 rfl (ie (sR_ rfl (ip' 3 3 [(11,.func (.func 233) #[] #[]),(12,.slice f s.length sk),(13,iv (e:Int))] (P3 0 rfl (by have:=a.1;omega) fun o h=>(D7 (B2a (k:=e) (d:=(⟨none,0,0⟩:Slc)) a 1 rfl (by have:=a.1;omega)) ?_))))))))))
  have:=B1q a (k:=e) (d:=(⟨none,0,0⟩:Slc)) (by have:=a.1;omega)
  refine ix rfl (K2 B7y rfl rfl h rfl e rfl opx) (ix rfl (I2 (L8 (us:=[.slice ((b.getD e (⟨none,0,0⟩:Slc)).q) ((b.getD e (⟨none,0,0⟩:Slc)).n) ((b.getD e (⟨none,0,0⟩:Slc)).k)]) A0d rfl rfl (N0 (c:=N1) (sz:=1) h (fun _=>rfl) 1 rfl (gd (⟨none,0,0⟩:Slc) (by have:=a.1;omega))) rfl) (congrArg (fun z=>ag [z]) (B2o a (by have:=a.1;omega)))) (zv rfl (C2p rfl) (ie ?_)))
  refine zjb rfl hR ?_ ?_<;>clear hR<;>intro hR p
  ·refine sR_ rfl (pp1 2 4 rfl ?_)
   subst hR
   refine ie (A8 ?_)
   exact E9 hr hD
  refine A6 (nx (A1 2 rfl (ix rfl (C0 rfl rfl rfl rfl opx) (pp1 1 8 rfl (A3 ?_)))))
  exact A1r (z1:=e) (e+1) ⟨opx,hR⟩ olr sb_ fo_
 have g:=bq_ i
 rw [A1i g] at hR;replace hR:=(F9.eq_1 ..).symm.trans hR
 refine H3 (nx (sR_ rfl (pp1 1 4 rfl ?_)))
 subst hR
 refine ie (A8 ?_)
 exact E9 hr hD
def H0 (s:List (List Int)):Bool :=
 (decide ((0:Int)≤(N9 s)))
theorem A2g {s:List (List Int)} {c:Option Addr} {b:List Slc} {sk:Nat} {R:Bool} (hR:H0 s=R) (a:D5 b s:=by exact om_) (e:s.length≤9223372036854775807:=by exact om_) (d:s.length≤sk:=by exact om_):G3 Tryz.prog 237 [.slice c s.length sk,.func (.func 233) #[] #[]] [sl N1 c b,I1 H8 b s] (bv R):=by
 refine zce Tryz.func237 fun X hX hr hD=>?_
 replace hR:=(H0.eq_1 ..).symm.trans hR
 have:=a.1
 refine sR_ rfl (pp0 1 rfl (ie (sR_ rfl (ip' 2 3 [(5,.slice c s.length sk),(6,.func (.func 233) #[] #[])] (zv rfl (A3e rfl a) (pp1 2 4 rfl ?_))))))
 subst hR
 refine ie (A8 ?_)
 exact E9 hr hD
def A3j (l:List (List Int)):Int :=
 (bif (((decide ((16:Int)<(l.length:Int)))||(A7n l))||(H0 l)) then 150 else 0)
def B6y (l:List (List Int)):Prop:=l.length≤16∧∀ r ∈ l,1≤r.length∧r.length≤6∧∀ n ∈ r,-1≤n∧n≤9999
theorem C4h:∀ (s:List Int) (t:Nat),K6 s t<0→∀ n ∈ s,-1≤n∧n≤9999
 | [],t,_,n,hn=>by cases hn
 | x::s,t,h,n,hn=>by
  simp only [K6] at h
  cases hc:A2c x with
  | true=>rw [hc,cond_true] at h;omega
  | false =>
   rw [hc,cond_false] at h
   unfold A2c at hc
   simp only [Bool.or_eq_false_iff,decide_eq_false_iff_not] at hc
   rcases List.mem_cons.1 hn with rfl | hn
   ·omega
   ·exact C4h s (t+1) h n hn
theorem C3u:∀ (s:List (List Int)) (t:Nat),F9 s t<0→∀ r ∈ s,A0v r=false
 | [],t,_,n,hn=>by cases hn
 | x::s,t,h,n,hn=>by
  simp only [F9] at h
  cases hc:A0v x with
  | true=>rw [hc,cond_true] at h;omega
  | false =>
   rw [hc,cond_false] at h
   rcases List.mem_cons.1 hn with rfl | hn
   ·exact hc
   ·exact C3u s (t+1) h n hn
theorem D1a {r:List Int} (h:A0v r=false):1≤r.length∧r.length≤6∧∀ n ∈ r,-1≤n∧n≤9999:=by
 unfold A0v at h
 simp only [Bool.or_eq_false_iff,decide_eq_false_iff_not] at h
 have a:=h.2;unfold P8 W3 at a;simp only [decide_eq_false_iff_not] at a
 exact ⟨by omega,by omega,C4h r 0 opx⟩
theorem A9r {l:List (List Int)} (h:A3j l=0):B6y l:=by
 unfold A3j at h
 generalize hc:(((decide ((16:Int)<(l.length:Int)))||(A7n l))||(H0 l))=c at h
 cases c with
 | true=>simp at h
 | false =>
  simp only [Bool.or_eq_false_iff,decide_eq_false_iff_not] at hc
  have a:=hc.2;unfold H0 N9 at a;simp only [decide_eq_false_iff_not] at a
  exact ⟨by omega,fun r hr=>D1a (C3u l 0 opx r hr)⟩
theorem B6y.at {l:List (List Int)} (h:B6y l) (i k:Nat):-1≤(l.getD i []).getD k 0∧(l.getD i []).getD k 0≤9999:=by
 by_cases hi:i<l.length
 ·by_cases hk:k<(l.getD i []).length
  ·rw [gdE hk]
   have a:l.getD i [] ∈ l:=by rw [gdE hi];exact List.getElem_mem hi
   exact (h.2 _ a).2.2 _ (List.getElem_mem hk)
  ·rw [show (l.getD i []).getD k 0=0 from gdN hk];omega
 ·rw [show l.getD i []=[] from gdN hi];simp
theorem B6y.row {l:List (List Int)} (h:B6y l) (i:Nat):(l.getD i []).length≤6:=by
 by_cases hi:i<l.length
 ·have a:l.getD i [] ∈ l:=by rw [gdE hi];exact List.getElem_mem hi
  exact (h.2 _ a).2.1
 ·rw [gdN hi];simp
theorem C6m {l:List (List Int)} {lq:Option Addr} {b:List Slc} {lk:Nat} {R:Int} (hR:A3j l=R) (a:D5 b l:=by exact om_) (h:l.length≤9223372036854775807:=by exact om_) (f:l.length≤lk:=by exact om_):G3 Tryz.prog 161 [.slice lq l.length lk] [sl N1 lq b,I1 H8 b l] (iv R):=by
 refine zce Tryz.func161 fun X hX hr hD=>?_
 replace hR:=(A3j.eq_1 ..).symm.trans hR
 have:=a.1
 refine sR_ rfl (pp0 1 rfl (ie (sR_ rfl (ip' 1 0 [(3,.func (.func 233) #[] #[])] (ie (A5 (sR_ rfl (pp1 4 7 rfl ?_))))))))
 refine zir 3 5 7 10 (A7n l) (fun j i=>?_) ?_
 ·refine pp1 1 8 rfl (zv rfl (C6w rfl a) (pp1 1 10 rfl ?_))
  exact zai 4 7 10 j
 refine pp1 1 11 rfl ?_
 refine zio 4 0 11 15 (H0 l) (fun d=>?_) ?_
 ·have g:=bq_ d
  refine ip' 2 2 [(12,.slice lq l.length lk),(13,.func (.func 233) #[] #[])] (zv rfl (A2g rfl a) (pp1 1 15 rfl ?_))
  exact zai 5 11 15 d
 refine ie ?_
 refine zjb rfl hR ?_ ?_<;>clear hR<;>intro hR e
 ·have c:=bq_ e
  refine sR_ rfl (pp1 1 2 rfl ?_)
  subst hR
  refine ie (A8 ?_)
  exact E9 hr hD
 have c:=bq_ e
 refine A6 (nx (sR_ rfl (pp1 1 2 rfl ?_)))
 subst hR
 refine ie (A8 ?_)
 exact E9 hr hD
def Q5 (l:List (List Int)):List (List Int) :=
 l
theorem C6t {l:List (List Int)} {lq:Option Addr} {b:List Slc} {lk:Nat} {R:List (List Int)} (hR:Q5 l=R) (a:D5 b l:=by exact om_) (e:l.length≤9223372036854775807:=by exact om_) (d:l.length≤lk:=by exact om_):Con Tryz.prog 162 [.slice lq l.length lk] [] [sl N1 lq b,I1 H8 b l] (Addr×{t:Option Addr×List Slc×Nat // D5 t.2.1 R∧R.length≤t.2.2∧R.length≤9223372036854775807}) (fun x=>.func (.func 238) #[] #[pa x.1]) (fun x=>[]) (fun x=>[at_ x.1 [.slice x.2.1.1 R.length x.2.1.2.2],sl N1 x.2.1.1 x.2.1.2.1,I1 H8 x.2.1.2.1 R]):=by
 refine zce Tryz.func162 fun X hX hr hD=>?_
 replace hR:=(Q5.eq_1 ..).symm.trans hR
 have:=a.1
 refine sR_ rfl (it rfl (X7 (cs:=[.slice lq l.length lk]) rfl rfl rfl) fun c=>?_)
 refine A1s 0 rfl ?_
 refine pp0 1 rfl (ie (sR_ rfl (ip' 2 0 [(2,.func (.func 238) #[] #[pa ⟨c,0,none⟩])] ?_)))
 subst hR
 refine ie (A8 ?_)
 exact zer hr hD (O3 rfl (B9 rfl)) (⟨c,0,none⟩,⟨(lq,b,lk),⟨a,ofp,ofp⟩⟩) sb_ fo_
def A0j (d:Nat) (b:List UInt8) (a:Nat→(List (List UInt8×List UInt8))) (c:List UInt8):List (List UInt8×List UInt8) :=
 ((b,c)::a (d+1))
def X0 (c0:List (List Int)) (d:Nat) (c:Nat) (a:Nat→(List (List UInt8×List UInt8))) (b:List UInt8):List (List UInt8×List UInt8) :=
 (bif (!decide (((c0.getD d []).getD c 0)=(-1))) then A0j c b a (Lib.itoa ((c0.getD d []).getD c 0)) else A0j c b a ([]:List UInt8))
def K8 (c0:List (List Int)) (b:Nat) (a:Nat→(List (List UInt8×List UInt8))):List Int→Nat→(List (List UInt8×List UInt8))
 | [],c=>a (b+1)
 | hd_l3::tl_l3,c=>(bif ((decide ((c:Int)=0))&&(decide ((b:Int)=0))) then X0 c0 b c (K8 c0 b a tl_l3) ([]:List UInt8) else (bif (decide ((c:Int)=0)) then X0 c0 b c (K8 c0 b a tl_l3) ([59]:List UInt8) else X0 c0 b c (K8 c0 b a tl_l3) ([58]:List UInt8)))
def K7 (c0:List (List Int)):List (List Int)→Nat→(List (List UInt8×List UInt8))
 | [],t11=>[]
 | hd_l2::tl_l2,t11=>K8 c0 t11 (K7 c0 tl_l2) hd_l2 0
def U8 (c0:List (List Int)):List (List UInt8×List UInt8) :=
 K7 c0 c0 0
def A7w (x:List UInt8×List UInt8):Prop:=x.1.length≤1∧x.2.length≤21
theorem A8d (c0:List (List Int)) (h:B6y c0) (a:Nat) (ag:Nat→List (List UInt8×List UInt8)) (B:Nat) (b:∀ t,(ag t).length≤B∧∀ x ∈ ag t,A7w x):∀ (s:List Int) (t:Nat),(K8 c0 a ag s t).length≤s.length+B∧∀ x ∈ K8 c0 a ag s t,A7w x
 | [],t=>by have:=b (a+1);simp only [K8,List.length_nil];exact ⟨by omega,this.2⟩
 | n::s,t=>by
  have d:=A8d c0 h a ag B b s (t+1)
  have f:=h.at a t
  have e:=C0l ((c0.getD a []).getD t 0) opx opx
  simp only [K8,X0,A0j,Bool.cond_eq_ite]
  repeat' split
  all_goals refine ⟨by simp only [List.length_cons];omega,fun x c=>?_⟩
  all_goals rcases List.mem_cons.1 c with rfl | c
  all_goals first|exact d.2 x c|exact ⟨by simp,by first|exact e|simp⟩
theorem A8c (c0:List (List Int)) (h:B6y c0):∀ (s:List (List Int)) (t:Nat),(∀ r ∈ s,r.length≤6)→(K7 c0 s t).length≤6 * s.length∧∀ x ∈ K7 c0 s t,A7w x
 | [],t,_=>⟨by simp [K7],fun x a=>by cases a⟩
 | r::s,t,hs=>by
  have b:=fun c=>A8c c0 h s c (fun r hr=>hs r (List.mem_cons_of_mem _ hr))
  have d:=hs r (List.mem_cons_self ..)
  have a:=A8d c0 h t (K7 c0 s) (6 * s.length) b r 0
  simp only [K7,List.length_cons]
  exact ⟨by omega,a.2⟩
theorem B1r (c0:List (List Int)) (h:B6y c0):(U8 c0).length≤96∧∀ x ∈ U8 c0,A7w x:=by
 have:=A8c c0 h c0 0 (fun r hr=>(h.2 r hr).2.1)
 have a:=h.1
 unfold U8
 exact ⟨by omega,this.2⟩
theorem C3f (c0:List (List Int)) (p:Addr) (g:Option Addr) (b:List Slc) (i:Nat) (e:D5 b c0) (ah:c0.length≤9223372036854775807) (ad:c0.length≤i) (a9:B6y c0) (R:List (List UInt8×List UInt8)) (hR:U8 c0=R):C4n Tryz.prog 238 [pa p] [sl N1 g b,I1 H8 b c0,at_ p [.slice g c0.length i],K0] (fun x=>sv x.1) (fun x=>sv x.2) R:=by
 refine D3e (n:=45) Tryz.func238 rfl okl rfl rfl (fun l=>[(0,.func (.yield l) #[] #[]),(1,pa p)]) (fun l=>⟨rfl,rfl,trivial⟩) fun X l I Ix L Φ hX hr hD hI0 hY=>?_
 replace hR:=(U8.eq_1 ..).symm.trans hR
 have:=e.1
 refine sr 3 rfl (ix rfl (D6 (v:=.slice g c0.length i) (us:=[.slice g c0.length i]) E3l rfl rfl (B1 2 rfl) rfl) (ip' 2 0 [(10,iv (c0.length:Int)),(11,iv 0)] (ie (B4 ?_))))
 refine D9c (fun (a:Nat) (R_:List (List UInt8×List UInt8)) (Lt:Fen.Own) (Ft:List Pers)=>(a≤c0.length∧K7 c0 (c0.drop a) a=R_∧I R_ Lt Ft,[(0,.func (.yield l) #[] #[]),(9,.slice g c0.length i),(10,iv (c0.length:Int)),(11,iv (a:Int))],(Lt++([])),(sl N1 g b::I1 H8 b c0::at_ p [.slice g c0.length i]::K0::Ft),c0.length - a)) 0 R L Φ ⟨opx,hR,hI0⟩ (mc [L] [true] rfl oxs) (B0.con1 (B1 0 rfl) (B0.con1 (B1 1 rfl) (B0.con1 (B1 2 rfl) (B0.con1 (B1 3 rfl) (B0.dropT 4 rfl))))) ?_
 rintro a R_ Lt Ft ⟨ak,hR,y⟩
 refine sr 1 rfl (ip' 1 0 [(12,bv (decide ((a:Int)<(c0.length:Int))))] ?_)
 refine ie (A5 (W8 rfl (fun h2=>?_) (fun h2=>?_)))
 ·have a2:(a:Int)<(c0.length:Int):=by simpa using h2
  rw [A0r [] (show a<c0.length by omega)] at hR;replace hR:=(K7.eq_2 ..).symm.trans hR
  refine A6 (nx (A5 (B4 (sr 6 rfl (ip' 1 5 [(13,iv (a:Int))] (P3 0 rfl (by have:=e.1;omega) fun a3 a6=>(D7 (B2a (k:=a) (d:=(⟨none,0,0⟩:Slc)) e 1 rfl (by have:=e.1;omega)) ?_)))))))
  have:=B1q e (k:=a) (d:=(⟨none,0,0⟩:Slc)) (by have:=e.1;omega)
  refine ix rfl (K2 B7y rfl rfl a6 rfl a rfl opx) (ix rfl (I2 (L8 (us:=[.slice ((b.getD a (⟨none,0,0⟩:Slc)).q) ((b.getD a (⟨none,0,0⟩:Slc)).n) ((b.getD a (⟨none,0,0⟩:Slc)).k)]) A0d rfl rfl (N0 (c:=N1) (sz:=1) a6 (fun _=>rfl) 1 rfl (gd (⟨none,0,0⟩:Slc) (by have:=e.1;omega))) rfl) (congrArg (fun z=>ag [z]) (B2o e (by have:=e.1;omega)))) ?_)
  refine H9 3 0 [0] (fun j=>[(4,pt j 0),(3,iv (a:Int))]) (fun j=>(bx j [.slice ((b.getD a (⟨none,0,0⟩:Slc)).q) ((c0.getD a []).length) ((b.getD a (⟨none,0,0⟩:Slc)).k)] 208::(Lt++([])))) (fun j=>?_)
  refine ie (sr 4 rfl (zrl 4 0 [0] [(17,.slice ((b.getD a (⟨none,0,0⟩:Slc)).q) ((c0.getD a []).length) ((b.getD a (⟨none,0,0⟩:Slc)).k)),(18,iv ((c0.getD a []).length:Int)),(19,iv 0)] (ie (B4 ?_))))
  refine D9c (fun (f:Nat) (R_1:List (List UInt8×List UInt8)) (Lt1:Fen.Own) (Ft1:List Pers)=>(f≤(c0.getD a []).length∧K8 c0 a (K7 c0 (c0.drop (a+1))) ((c0.getD a []).drop f) f=R_1∧I R_1 Lt1 Ft1,[(0,.func (.yield l) #[] #[]),(3,iv (a:Int)),(9,.slice g c0.length i),(10,iv (c0.length:Int)),(11,iv (a:Int)),(17,.slice ((b.getD a (⟨none,0,0⟩:Slc)).q) ((c0.getD a []).length) ((b.getD a (⟨none,0,0⟩:Slc)).k)),(18,iv ((c0.getD a []).length:Int)),(19,iv (f:Int))],(bx j [.slice ((b.getD a (⟨none,0,0⟩:Slc)).q) ((c0.getD a []).length) ((b.getD a (⟨none,0,0⟩:Slc)).k)] 208::(Lt1++([]))),(sl H8 ((b.getD a (⟨none,0,0⟩:Slc)).q) (c0.getD a [])::sl N1 g b::I1 H8 b c0::at_ p [.slice g c0.length i]::K0::Ft1),(c0.getD a []).length - f)) 0 R_ Lt Ft ⟨opx,hR,y⟩ (mc [[bx j [.slice ((b.getD a (⟨none,0,0⟩:Slc)).q) ((c0.getD a []).length) ((b.getD a (⟨none,0,0⟩:Slc)).k)] 208],Lt] [true,true] rfl oxs) (B0.con1 (B1 0 rfl) (B0.con1 (B1 1 rfl) (B0.con1 (B1 2 rfl) (B0.con1 (B1 3 rfl) (B0.con1 (B1 4 rfl) (B0.dropT 5 rfl)))))) ?_
  rintro f R_1 Lt1 Ft1 ⟨al,hR,o⟩
  have hq:=B6y.at a9 a f
  refine sr 1 rfl (ip' 1 0 [(20,bv (decide ((f:Int)<((c0.getD a []).length:Int))))] ?_)
  refine ie (A5 (W8 rfl (fun h7=>?_) (fun h7=>?_)))
  ·have a4:(f:Int)<((c0.getD a []).length:Int):=by simpa using h7
   rw [A0r 0 (show f<(c0.getD a []).length by omega)] at hR;replace hR:=(K8.eq_2 ..).symm.trans hR
   refine A6 (nx (A5 (B4 (sr 5 rfl (ip' 1 4 [(21,iv (f:Int))] (P3 0 rfl opx fun a8 a5=>(ix rfl (K2 K5 rfl rfl a5 rfl f rfl opx) (ix rfl (D6 (v:=iv ((c0.getD a []).getD f 0)) (us:=[iv ((c0.getD a []).getD f 0)]) ty3 rfl rfl (N0 (c:=H8) (sz:=1) a5 (fun _=>rfl) 0 rfl (gd 0 opx)) rfl) (ip' 2 0 [(5,iv (f:Int)),(6,iv ((c0.getD a []).getD f 0))] (ie (sr 2 rfl (ip' 2 0 [(7,sv ([58]:List UInt8)),(8,sv ([]:List UInt8))] ?_))))))))))))
   refine ie (E3h (fun (h:List UInt8) (R_2:List (List UInt8×List UInt8)) (Lt2:Fen.Own) (Ft2:List Pers)=>(X0 c0 a f (K8 c0 a (K7 c0 (c0.drop (a+1))) ((c0.getD a []).drop (f+1))) h=R_2∧I R_2 Lt2 Ft2,[(0,.func (.yield l) #[] #[]),(3,iv (a:Int)),(6,iv ((c0.getD a []).getD f 0)),(7,sv h),(8,sv ([]:List UInt8)),(9,.slice g c0.length i),(10,iv (c0.length:Int)),(11,iv (a:Int)),(17,.slice ((b.getD a (⟨none,0,0⟩:Slc)).q) ((c0.getD a []).length) ((b.getD a (⟨none,0,0⟩:Slc)).k)),(18,iv ((c0.getD a []).length:Int)),(19,iv (f:Int))],(bx j [.slice ((b.getD a (⟨none,0,0⟩:Slc)).q) ((c0.getD a []).length) ((b.getD a (⟨none,0,0⟩:Slc)).k)] 208::(Lt2++([]))),(sl H8 ((b.getD a (⟨none,0,0⟩:Slc)).q) (c0.getD a [])::sl N1 g b::I1 H8 b c0::at_ p [.slice g c0.length i]::K0::Ft2))) ?_ ?_)
   ·refine B4 (sr 7 rfl (ip' 3 4 [(27,bv (decide ((f:Int)=0)))] ?_))
    refine zid 3 1 27 30 (decide ((a:Int)=0)) (fun aa ae=>?_) ?_
    ·refine ip' 3 0 [(30,bv (decide ((a:Int)=0)))] ?_
     exact A3 (P7 2 27 30 aa B0.refl (mc [[bx j [.slice ((b.getD a (⟨none,0,0⟩:Slc)).q) ((c0.getD a []).length) ((b.getD a (⟨none,0,0⟩:Slc)).k)] 208],Lt1] [true,true] rfl oxs) rfl rfl rfl rfl rfl)
    refine ip' 1 0 [(24,bv ((decide ((f:Int)=0))&&(decide ((a:Int)=0))))] (ie ?_)
    refine zja rfl hR ?_ ?_<;>clear hR<;>intro hR an af
    ·refine A1 1 rfl (ip' 1 0 [(7,sv ([]:List UInt8))] (A3 ?_))
     exact D7t ([]:List UInt8) R_1 Lt1 Ft1 ⟨hR,o⟩ (mc [[bx j [.slice ((b.getD a (⟨none,0,0⟩:Slc)).q) ((c0.getD a []).length) ((b.getD a (⟨none,0,0⟩:Slc)).k)] 208],Lt1] [true,true] rfl oxs) (B0.con1 (B1 0 rfl) (B0.con1 (B1 1 rfl) (B0.con1 (B1 2 rfl) (B0.con1 (B1 3 rfl) (B0.con1 (B1 4 rfl) (B0.dropT 5 rfl))))))
    refine sr 3 rfl (ip' 3 0 [(31,bv (decide ((f:Int)=0)))] (ie ?_))
    refine zjd rfl hR ?_ ?_<;>clear hR<;>intro hR am ai
    ·refine A1 1 rfl (ip' 1 0 [(7,sv ([59]:List UInt8))] (A3 ?_))
     exact D7t ([59]:List UInt8) R_1 Lt1 Ft1 ⟨hR,o⟩ (mc [[bx j [.slice ((b.getD a (⟨none,0,0⟩:Slc)).q) ((c0.getD a []).length) ((b.getD a (⟨none,0,0⟩:Slc)).k)] 208],Lt1] [true,true] rfl oxs) (B0.con1 (B1 0 rfl) (B0.con1 (B1 1 rfl) (B0.con1 (B1 2 rfl) (B0.con1 (B1 3 rfl) (B0.con1 (B1 4 rfl) (B0.dropT 5 rfl))))))
    refine A6 ?_
    exact D7t ([58]:List UInt8) R_1 Lt1 Ft1 ⟨hR,o⟩ (mc [[bx j [.slice ((b.getD a (⟨none,0,0⟩:Slc)).q) ((c0.getD a []).length) ((b.getD a (⟨none,0,0⟩:Slc)).k)] 208],Lt1] [true,true] rfl oxs) (B0.con1 (B1 0 rfl) (B0.con1 (B1 1 rfl) (B0.con1 (B1 2 rfl) (B0.con1 (B1 3 rfl) (B0.con1 (B1 4 rfl) (B0.dropT 5 rfl))))))
   intro h R_2 Lt2 Ft2
   rintro ⟨hR,s⟩
   replace hR:=(X0.eq_1 ..).symm.trans hR
   refine E3h (fun (r:List UInt8) (R_3:List (List UInt8×List UInt8)) (Lt3:Fen.Own) (Ft3:List Pers)=>(A0j f h (K8 c0 a (K7 c0 (c0.drop (a+1))) ((c0.getD a []).drop (f+1))) r=R_3∧I R_3 Lt3 Ft3,[(0,.func (.yield l) #[] #[]),(3,iv (a:Int)),(7,sv h),(8,sv r),(9,.slice g c0.length i),(10,iv (c0.length:Int)),(11,iv (a:Int)),(17,.slice ((b.getD a (⟨none,0,0⟩:Slc)).q) ((c0.getD a []).length) ((b.getD a (⟨none,0,0⟩:Slc)).k)),(18,iv ((c0.getD a []).length:Int)),(19,iv (f:Int))],(bx j [.slice ((b.getD a (⟨none,0,0⟩:Slc)).q) ((c0.getD a []).length) ((b.getD a (⟨none,0,0⟩:Slc)).k)] 208::(Lt3++([]))),(sl H8 ((b.getD a (⟨none,0,0⟩:Slc)).q) (c0.getD a [])::sl N1 g b::I1 H8 b c0::at_ p [.slice g c0.length i]::K0::Ft3))) ?_ ?_
   ·refine sr 2 rfl (ip' 2 0 [(35,bv (!decide (((c0.getD a []).getD f 0)=(-1))))] (ie ?_))
    refine zjn rfl hR ?_ ?_<;>clear hR<;>intro hR aj ac
    ·refine A1 3 rfl (ip' 1 2 [(36,iv ((c0.getD a []).getD f 0))] (zca (D8j ((c0.getD a []).getD f 0) (by first|omega|(exact ⟨by omega,by omega⟩))) (B0.cons (B1 4 rfl) fn0) ?_))
     have:=C0l ((c0.getD a []).getD f 0) opx opx
     refine ip' 1 0 [(8,sv (Lib.itoa ((c0.getD a []).getD f 0)))] (A3 ?_)
     exact D7t (Lib.itoa ((c0.getD a []).getD f 0)) R_2 Lt2 Ft2 ⟨hR,s⟩ (mc [[bx j [.slice ((b.getD a (⟨none,0,0⟩:Slc)).q) ((c0.getD a []).length) ((b.getD a (⟨none,0,0⟩:Slc)).k)] 208],Lt2] [true,true] rfl oxs) (B0.con1 (B1 0 rfl) (B0.con1 (B1 1 rfl) (B0.con1 (B1 2 rfl) (B0.con1 (B1 3 rfl) (B0.con1 (B1 4 rfl) (B0.dropT 5 rfl))))))
    refine A6 ?_
    exact D7t ([]:List UInt8) R_2 Lt2 Ft2 ⟨hR,s⟩ (mc [[bx j [.slice ((b.getD a (⟨none,0,0⟩:Slc)).q) ((c0.getD a []).length) ((b.getD a (⟨none,0,0⟩:Slc)).k)] 208],Lt2] [true,true] rfl oxs) (B0.con1 (B1 0 rfl) (B0.con1 (B1 1 rfl) (B0.con1 (B1 2 rfl) (B0.con1 (B1 3 rfl) (B0.con1 (B1 4 rfl) (B0.dropT 5 rfl))))))
   intro r R_3 Lt3 Ft3
   rintro ⟨hR,w⟩
   replace hR:=(A0j.eq_1 ..).symm.trans hR
   refine sr 5 rfl (ip' 3 2 [(38,.func (.yield l) #[] #[]),(39,sv h),(40,sv r)] ?_)
   have u:=B8p hR;clear hR;obtain ⟨R14,hR,u⟩:=u;rw [u] at w
   refine it rfl (D1z (L2:=[bx j [.slice ((b.getD a (⟨none,0,0⟩:Slc)).q) ((c0.getD a []).length) ((b.getD a (⟨none,0,0⟩:Slc)).k)] 208]) (hY _ R14 _ _ w) rfl rfl rfl rfl (B0.dropT 5 rfl) (G9 [[bx j [.slice ((b.getD a (⟨none,0,0⟩:Slc)).q) ((c0.getD a []).length) ((b.getD a (⟨none,0,0⟩:Slc)).k)] 208],Lt3] [1,0] 2 rfl ozw rfl [Lt3,[bx j [.slice ((b.getD a (⟨none,0,0⟩:Slc)).q) ((c0.getD a []).length) ((b.getD a (⟨none,0,0⟩:Slc)).k)] 208]] rfl ooa)) fun ⟨⟨a0,L16,Φ17⟩,m⟩=>?_
   refine A8l (B0.yield [sl H8 ((b.getD a (⟨none,0,0⟩:Slc)).q) (c0.getD a []),sl N1 g b,I1 H8 b c0,at_ p [.slice g c0.length i],K0]) ?_
   refine ip' 1 0 [(42,bv (!a0))] ?_
   refine ie (W8 rfl (fun a1=>?_) (fun a1=>?_))
   ·have t:a0=false:=by simpa using a1
    rw [t] at m;try simp only [if_true,if_false,Bool.false_eq_true] at m
    refine A8 ?_
    exact C0s rfl ⟨hr,hD⟩ (by simp [hD]) (A1a rfl) (L':=L16) (Φ':=Φ17) (by exact .inr m) (mcT [L16,[bx j [.slice ((b.getD a (⟨none,0,0⟩:Slc)).q) ((c0.getD a []).length) ((b.getD a (⟨none,0,0⟩:Slc)).k)] 208]] 0 rfl rfl) (B0.dropT 5 rfl)
   ·have t:a0=true:=by simpa using a1
    rw [t] at m;try simp only [if_true,if_false,Bool.false_eq_true] at m
    refine A6 (nx (A1 2 rfl (ix rfl (C0 rfl rfl rfl rfl opx) (ip' 1 0 [(19,iv ((f:Int)+1))] (A3 (P9 (G9 [L16,[bx j [.slice ((b.getD a (⟨none,0,0⟩:Slc)).q) ((c0.getD a []).length) ((b.getD a (⟨none,0,0⟩:Slc)).k)] 208]] [1,0] 2 rfl ozw rfl [[bx j [.slice ((b.getD a (⟨none,0,0⟩:Slc)).q) ((c0.getD a []).length) ((b.getD a (⟨none,0,0⟩:Slc)).k)] 208],L16] rfl opv) ?_))))))
    exact D8p (z1:=f) (z2:=R_1) (z3:=Lt1) (z4:=Ft1) (f+1) R14 L16 Φ17 ⟨opx,hR,m⟩ olr (mc [[bx j [.slice ((b.getD a (⟨none,0,0⟩:Slc)).q) ((c0.getD a []).length) ((b.getD a (⟨none,0,0⟩:Slc)).k)] 208],L16] [true,true] rfl oxs) (B0.con1 (B1 0 rfl) (B0.con1 (B1 1 rfl) (B0.con1 (B1 2 rfl) (B0.con1 (B1 3 rfl) (B0.con1 (B1 4 rfl) (B0.dropT 5 rfl))))))
  have a4:¬ ((f:Int)<((c0.getD a []).length:Int)):=by simpa using h7
  rw [A1i a4] at hR;replace hR:=(K8.eq_1 ..).symm.trans hR
  refine H3 (nx (A1 2 rfl (ix rfl (C0 rfl rfl rfl rfl opx) ?_)))
  refine ip' 1 0 [(11,iv ((a:Int)+1))] (A3 ?_)
  exact D8p (z1:=a) (z2:=R_) (z3:=Lt) (z4:=Ft) (a+1) R_1 Lt1 Ft1 ⟨opx,hR,o⟩ olr (mc [[bx j [.slice ((b.getD a (⟨none,0,0⟩:Slc)).q) ((c0.getD a []).length) ((b.getD a (⟨none,0,0⟩:Slc)).k)] 208],Lt1] [false,true] rfl oxs) (B0.con1 (B1 1 rfl) (B0.con1 (B1 2 rfl) (B0.con1 (B1 3 rfl) (B0.con1 (B1 4 rfl) (B0.dropT 5 rfl)))))
 have a2:¬ ((a:Int)<(c0.length:Int)):=by simpa using h2
 rw [A1i a2] at hR;replace hR:=(K7.eq_1 ..).symm.trans hR
 subst hR
 refine H3 ?_
 exact Y0 rfl ⟨hr,hD⟩ (by simp [hD]) (A1a rfl) (L':=Lt) (Φ':=Ft) (by exact .inl y) (mcT [Lt] 0 rfl rfl) (B0.dropT 4 rfl)
def V1:List (List UInt8×List UInt8)→List UInt8→(List UInt8×Int)
 | [],bbuf=>(bbuf,0)
 | el::rest,bbuf=>(C9 (J9 bbuf (el.1++el.2)) fun (a:List UInt8×Int)=>V1 rest a.1)
def A5c (l:List (List Int)):List UInt8×Int :=
 (bif (!decide ((A3j l)=0)) then (([]:List UInt8),(A3j l)) else V1 (U8 (Q5 l)) ([]:List UInt8))
theorem A9l:∀ (es:List (List UInt8×List UInt8)) (b:List UInt8),(∀ x ∈ es,A7w x)→(V1 es b).1.length≤b.length+22 * es.length
 | [],b,_=>by simp [V1]
 | e::es,b,h=>by
  have a:=h e (List.mem_cons_self ..);unfold A7w at a
  have c:=A9l es (J9 b (e.1++e.2)).1 (fun x d=>h x (List.mem_cons_of_mem _ d))
  rw [V6,List.length_append] at c
  simp only [V1,C9,List.length_cons];omega
theorem A4j (l:List (List Int)):(A5c l).1.length≤2112:=by
 unfold A5c
 by_cases h:A3j l=0
 ·have a:=B1r l (A9r h)
  have:=A9l (U8 (Q5 l)) [] a.2
  rw [h];simp only [decide_true,Bool.not_true,cond_false]
  have e:(U8 (Q5 l)).length≤96:=a.1
  rw [List.length_nil] at this;omega
 ·simp [h]
theorem ohg {p:Prop} (h:p:=by first|omega|(simp only [List.length_take,List.length_drop,List.length_append,List.length_cons,List.length_nil,List.length_set,List.length_map,Q5];omega)|decide):p:=h
theorem B7e {l:List (List Int)} {lq:Option Addr} {d:List Slc} {lk:Nat} {R:List UInt8×Int} (hR:A5c l=R) (b:D5 d l:=by exact om_) (ae:l.length≤9223372036854775807:=by exact om_) (ab:l.length≤lk:=by exact om_):G3 Tryz.prog 106 [.slice lq l.length lk] [sl N1 lq d,I1 H8 d l,K0] (.tuple #[sv R.1,iv R.2]):=by
 refine zce Tryz.func106 fun X hX hr hD=>?_
 replace hR:=(A5c.eq_1 ..).symm.trans hR
 have:=b.1
 refine sR_ rfl (pp0 2 rfl (ie (A5 (sR_ rfl (pp1 1 8 rfl (zv rfl (C6m rfl b) (pp1 1 4 rfl (ie (sR_ rfl (pp1 2 11 rfl (ie ?_)))))))))))
 refine zjn rfl hR ?_ ?_<;>clear hR<;>intro hR h1 a9
 ·refine sR_ rfl (pp2 3 2 3 rfl ?_)
  subst hR
  refine ie (A8 ?_)
  exact A8m hr hD
 refine A6 (nx (sR_ rfl (H9 1 0 [] (fun g=>[(5,pt g 0)]) (fun g=>[bx g [.pointer none,.slice none 0 0] 215]) (fun g=>(ie (A5 (sR_ rfl (pp1 1 13 rfl ?_))))))))
 refine zc rfl (C6t rfl b) fun ⟨b3,⟨⟨t,m,k6⟩,a3⟩⟩=>?_
 obtain ⟨s,a7,a4⟩:=a3
 have:=s.1
 refine ie (B4 (P9 (G9 [vo cU8 5 VR.nil ([]:List UInt8),[bx g [.pointer none,.slice none 0 0] 215]] [1,0] 2 rfl ozw rfl [[bx g [.pointer none,.slice none 0 0] 215],vo cU8 5 VR.nil ([]:List UInt8)] rfl opv) ?_))
 refine D0d [(5,pt g 0),(14,.func (.func 238) #[] #[pa b3])] ⟨rfl,rfl,trivial⟩ ?_
 refine D6z (β:=(List UInt8×List UInt8)) (enc:=(fun x=>sv x.1)) (enc2:=(fun x=>sv x.2)) (xs:=(U8 (Q5 l))) (σ:=Option Addr×List UInt8×VR) hr rfl (C3f (Q5 l) b3 t m k6 s ohg ohg (by exact A9r (Decidable.of_not_not oiu)) _ rfl) fo_ rfl rfl rfl (fun e x=>V1 e x.2.1=R∧(x.1=none∨x.1=some ⟨g,0,none⟩)∧VOk 1 x.2.1.length x.2.2∧x.2.1.length+22 * e.length≤2112∧∀ x ∈ e,A7w x) (fun _ _=>False) (fun x=>(bx g [.pointer x.1,.slice (va x.2.2.q) x.2.1.length x.2.2.k] 215::((vo cU8 5 x.2.2 x.2.1)++([])))) (fun x=>[at_ b3 [.slice t ((Q5 l).length) k6],sl N1 t m,I1 H8 m (Q5 l),sl N1 lq d,I1 H8 d l,K0]) (none,([]:List UInt8),VR.nil) (by exact ⟨hR,(.inl rfl),VOk.nil,(by have r:=B1r l (A9r (Decidable.of_not_not oiu));refine ⟨?_,r.2⟩;have ac:(U8 (Q5 l)).length≤96:=r.1;simp only [List.length_nil];omega)⟩) sb_ B0.refl ?_ ?_ (fun _ _ _ _ h=>h.elim)
 ·rintro z rest ⟨f,o,n⟩ w Y Y' K' a6 hK
  try dsimp only at w
  obtain ⟨hR,c,a,p⟩:=w
  replace hR:=(V1.eq_2 ..).symm.trans hR
  have:=VOk.le a
  refine sR_ rfl (pp1 1 6 rfl (ie (A1 1 rfl (pp1 1 7 rfl (A3 (hK _ _ _ ?_))))))
  refine B4 (A1 4 rfl (pp2 2 17 18 rfl ?_))
  refine ix rfl (C7x rfl rfl rfl (by first|omega|(have i:=p.2 _ (List.mem_cons_self ..);unfold A7w at i;omega)|(first|omega|(simp only [List.length_cons,List.length_nil,List.length_append,List.length_take,List.length_drop,Q5];omega)))) ?_
  have:=@List.length_append _ z.1 z.2
  have hQ:=D0 hR;clear hR;obtain ⟨y0,y,hR⟩:=hQ
  refine zc rfl (A1f y c a (by first|omega|(simp only [List.length_append,List.length_cons,List.length_nil,List.length_take,List.length_drop,List.length_set];omega)|(have i:=p.2 _ (List.mem_cons_self ..);unfold A7w at i;have u:=p.1;simp only [List.length_append,List.length_cons,List.length_nil] at *;omega))) fun ⟨a2,j⟩=>?_
  have:=VOk.le j
  have:=VOk.cap j
  have:=V6 o (z.1++z.2);try rw [y] at this
  refine A3 ?_
  exact A9e (I:=fun e x=>V1 e x.2.1=R∧(x.1=none∨x.1=some ⟨g,0,none⟩)∧VOk 1 x.2.1.length x.2.2∧x.2.1.length+22 * e.length≤2112∧∀ x ∈ e,A7w x) (Jx:=fun _ _=>False) (Lk:=fun x=>(bx g [.pointer x.1,.slice (va x.2.2.q) x.2.1.length x.2.2.k] 215::((vo cU8 5 x.2.2 x.2.1)++([])))) (Φk:=fun x=>[at_ b3 [.slice t ((Q5 l).length) k6],sl N1 t m,I1 H8 m (Q5 l),sl N1 lq d,I1 H8 d l,K0]) (rest:=rest) ((some ⟨g,0,none⟩),y0.1,a2) (by exact ⟨hR,(.inr rfl),j,(by have i:=p.2 _ (List.mem_cons_self ..);unfold A7w at i;refine ⟨?_,fun x hx=>p.2 x (List.mem_cons_of_mem _ hx)⟩;have u:=p.1;try dsimp only;simp only [List.length_cons] at u;omega)⟩) sb_ B0.refl
 ·rintro a5 ⟨f,o,n⟩ v w
  try dsimp only at w
  obtain ⟨hR,c,a,p⟩:=w
  replace hR:=(V1.eq_1 ..).symm.trans hR
  have:=VOk.le a
  refine nx (sR_ rfl (zc rfl (C9s g (.pointer f) o n a) fun _=>(pp2 2 2 3 rfl ?_)))
  subst hR
  refine ie (A8 ?_)
  exact B5b rfl ⟨hr,hD⟩ (by exact (V4.cons (show V4 X.D by rw [hD];exact V4.nil) v)) (U6 rfl (B9 rfl) (B9 rfl)) () odv sb_ fn0
end Go.Proofs.YtioaekgoceinkaaGreatDoor
