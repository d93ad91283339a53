import Derived.Test.YtanighkpfmgnbaaGreatDoorProg
import Derived.Test.YtanighkpfmgnbaaGreatDoorMA2
set_option linter.unusedVariables false
set_option linter.unusedSimpArgs false
set_option linter.unnecessarySimpa false
set_option maxRecDepth 100000
namespace Go.Proofs.YtanighkpfmgnbaaGreatDoor
open Go Go.Fen
structure Col where
 kind:Int
 n:Int
deriving DecidableEq
def R8 (x:Col):List Value:=[.int .i64 x.kind,.int .i64 x.n]
def Col.zero:Col:=⟨0,0⟩
theorem R8.inj (x y:Col) (h:R8 x=R8 y):x=y:=by
 rcases x with ⟨_,_⟩
 rcases y with ⟨_,_⟩
 simp [R8,bs] at h
 simp_all
structure Sty where
 attr:Int
 under:Int
 fore:Col
 back:Col
 line:Col
deriving DecidableEq
def W1 (x:Sty):List Value:=[.int .i64 x.attr,.int .i64 x.under]++(R8 x.fore++(R8 x.back++(R8 x.line)))
def Sty.zero:Sty:=⟨0,0,Col.zero,Col.zero,Col.zero⟩
theorem W1.inj (x y:Sty) (h:W1 x=W1 y):x=y:=by
 rcases x with ⟨_,_,⟨_,_⟩,⟨_,_⟩,⟨_,_⟩⟩
 rcases y with ⟨_,_,⟨_,_⟩,⟨_,_⟩,⟨_,_⟩⟩
 simp [R8,W1,bs] at h
 simp_all
structure Ar2 where
 a:Int
 b:Int
deriving DecidableEq
def D4d (x:Ar2):List Value:=[.int .i64 x.a,.int .i64 x.b]
def Ar2.zero:Ar2:=⟨0,0⟩
theorem D4d.inj (x y:Ar2) (h:D4d x=D4d y):x=y:=by
 rcases x with ⟨_,_⟩
 rcases y with ⟨_,_⟩
 simp [D4d,bs] at h
 simp_all
structure Ar3 where
 a:Int
 b:Int
 c:Int
deriving DecidableEq
def C5m (x:Ar3):List Value:=[.int .i64 x.a,.int .i64 x.b,.int .i64 x.c]
def Ar3.zero:Ar3:=⟨0,0,0⟩
theorem C5m.inj (x y:Ar3) (h:C5m x=C5m y):x=y:=by
 rcases x with ⟨_,_,_⟩
 rcases y with ⟨_,_,_⟩
 simp [C5m,bs] at h
 simp_all
structure Cel where
 base:Int
 marks:Ar2
 wide:Int
 sty:Sty
deriving DecidableEq
def A3l (x:Cel):List Value:=[.int .i64 x.base]++(D4d x.marks++([.int .i64 x.wide]++(W1 x.sty)))
def Cel.zero:Cel:=⟨0,Ar2.zero,0,Sty.zero⟩
theorem A3l.inj (x y:Cel) (h:A3l x=A3l y):x=y:=by
 rcases x with ⟨_,⟨_,_⟩,_,⟨_,_,⟨_,_⟩,⟨_,_⟩,⟨_,_⟩⟩⟩
 rcases y with ⟨_,⟨_,_⟩,_,⟨_,_,⟨_,_⟩,⟨_,_⟩,⟨_,_⟩⟩⟩
 simp [D4d,A3l,R8,W1,bs] at h
 simp_all
structure Spn where
 lo:Int
 hi:Int
deriving DecidableEq
def B1 (x:Spn):List Value:=[.int .i64 x.lo,.int .i64 x.hi]
def Spn.zero:Spn:=⟨0,0⟩
theorem B1.inj (x y:Spn) (h:B1 x=B1 y):x=y:=by
 rcases x with ⟨_,_⟩
 rcases y with ⟨_,_⟩
 simp [B1,bs] at h
 simp_all
structure Sp3 where
 row:Int
 frm:Int
 to:Int
deriving DecidableEq
def E3d (x:Sp3):List Value:=[.int .i64 x.row,.int .i64 x.frm,.int .i64 x.to]
def Sp3.zero:Sp3:=⟨0,0,0⟩
theorem E3d.inj (x y:Sp3) (h:E3d x=E3d y):x=y:=by
 rcases x with ⟨_,_,_⟩
 rcases y with ⟨_,_,_⟩
 simp [E3d,bs] at h
 simp_all
structure Plc where
 row:Int
 col:Int
deriving DecidableEq
def I0 (x:Plc):List Value:=[.int .i64 x.row,.int .i64 x.col]
def Plc.zero:Plc:=⟨0,0⟩
theorem I0.inj (x y:Plc) (h:I0 x=I0 y):x=y:=by
 rcases x with ⟨_,_⟩
 rcases y with ⟨_,_⟩
 simp [I0,bs] at h
 simp_all
structure Atr where
 a:Int
 b:Int
 c:Int
deriving DecidableEq
def I3 (x:Atr):List Value:=[.int .i64 x.a,.int .i64 x.b,.int .i64 x.c]
def Atr.zero:Atr:=⟨0,0,0⟩
theorem I3.inj (x y:Atr) (h:I3 x=I3 y):x=y:=by
 rcases x with ⟨_,_,_⟩
 rcases y with ⟨_,_,_⟩
 simp [I3,bs] at h
 simp_all
structure Act where
 kind:Int
 n:Int
 m:Int
 color:Col
 text:List UInt8
deriving DecidableEq
def A5 (x:Act):List Value:=[.int .i64 x.kind,.int .i64 x.n,.int .i64 x.m]++(R8 x.color++([.string (bs x.text)]))
def Act.zero:Act:=⟨0,0,0,Col.zero,[]⟩
theorem A5.inj (x y:Act) (h:A5 x=A5 y):x=y:=by
 rcases x with ⟨_,_,_,⟨_,_⟩,_⟩
 rcases y with ⟨_,_,_,⟨_,_⟩,_⟩
 simp [A5,R8,bs] at h
 simp_all
structure Shf where
 top:Int
 bottom:Int
 amt:Int
deriving DecidableEq
def D7c (x:Shf):List Value:=[.int .i64 x.top,.int .i64 x.bottom,.int .i64 x.amt]
def Shf.zero:Shf:=⟨0,0,0⟩
theorem D7c.inj (x y:Shf) (h:D7c x=D7c y):x=y:=by
 rcases x with ⟨_,_,_⟩
 rcases y with ⟨_,_,_⟩
 simp [D7c,bs] at h
 simp_all
structure Hld where
 shift:Shf
 gain:Int
deriving DecidableEq
def E3e (x:Hld):List Value:=D7c x.shift++([.int .i64 x.gain])
def Hld.zero:Hld:=⟨Shf.zero,0⟩
theorem E3e.inj (x y:Hld) (h:E3e x=E3e y):x=y:=by
 rcases x with ⟨⟨_,_,_⟩,_⟩
 rcases y with ⟨⟨_,_,_⟩,_⟩
 simp [E3e,D7c,bs] at h
 simp_all
structure Drf where
 kind:Int
 n:Int
 m:Int
 rgb:Int
 text:List UInt8
deriving DecidableEq
def E3k (x:Drf):List Value:=[.int .u16 x.kind,.int .u16 x.n,.int .u16 x.m,.int .u32 x.rgb,.string (bs x.text)]
def Drf.zero:Drf:=⟨0,0,0,0,[]⟩
theorem E3k.inj (x y:Drf) (h:E3k x=E3k y):x=y:=by
 rcases x with ⟨_,_,_,_,_⟩
 rcases y with ⟨_,_,_,_,_⟩
 simp [E3k,bs] at h
 simp_all
structure Lks where
 f:Nat→Int
def Lks.zero:Lks:=⟨fun _=>0⟩
def Lks.put (x:Lks) (k:Nat) (v:Int):Lks:=⟨fun i=>if i=k then v else x.f i⟩
def C9c:List UInt8:=[0,1,56,2,57,49,28,3,61,58,42,50,38,29,17,4,62,47,59,36,45,43,51,22,53,39,33,30,24,18,12,5,63,55,48,27,60,41,37,16,46,35,44,21,52,32,23,11,54,26,40,15,34,20,31,10,25,14,19,9,13,8,7,6]
def D7v:List Int:=[0,13434880,52480,13487360,238,13435085,52685,15066597,8355711,16711680,65280,16776960,6053119,16711935,65535,16777215]
def E8m:List Atr:=[⟨1,1,22⟩,⟨2,2,22⟩,⟨4,3,23⟩,⟨8,5,25⟩,⟨16,7,27⟩,⟨32,8,28⟩,⟨64,9,29⟩,⟨128,53,55⟩]
def C0f:List Spn:=[⟨768,879⟩,⟨1155,1161⟩,⟨1425,1469⟩,⟨1552,1562⟩,⟨1611,1631⟩,⟨6832,6911⟩,⟨7616,7679⟩,⟨8203,8207⟩,⟨8400,8447⟩,⟨65024,65039⟩,⟨65056,65071⟩]
def D3h:List Spn:=[⟨4352,4447⟩,⟨11904,12350⟩,⟨12353,19903⟩,⟨19968,42191⟩,⟨44032,55203⟩,⟨63744,64255⟩,⟨65072,65135⟩,⟨65280,65376⟩,⟨65504,65510⟩,⟨127744,128591⟩,⟨128640,128767⟩,⟨129280,129535⟩,⟨131072,262141⟩]
abbrev P0:Pers:=sl cU8 (some ⟨7,0,none⟩) C9c
abbrev M3:Pers:=E2l 5 B3h
abbrev Q3:Pers:=sl I8 (some ⟨4,0,none⟩) D7v
abbrev S7:Pers:=sl I3 (some ⟨2,0,none⟩) E8m
abbrev B6s:Pers:=sl B1 (some ⟨0,0,none⟩) C0f
abbrev B6r:Pers:=sl B1 (some ⟨1,0,none⟩) D3h
theorem C5z:ApTy Tryz.prog 30 5 1 1:=⟨by kernel_rfl,by kernel_rfl,rfl⟩
theorem D9d:ApTy Tryz.prog 111 3 1 8:=⟨by kernel_rfl,by kernel_rfl,rfl⟩
theorem D9a:EqT Tryz.prog 26 A5:=EqT.of 20 rfl (by kernel_rfl) (by kernel_rfl) (fun _ _=>by kernel_rfl) A5.inj
theorem A8f:SlTy Tryz.prog 30 5 1:=⟨by kernel_rfl,by kernel_rfl⟩
theorem L8:SlTy Tryz.prog 111 3 1:=⟨by kernel_rfl,by kernel_rfl⟩
theorem ty3:Ty Tryz.prog 3 1 false:=⟨by kernel_rfl⟩
theorem ty5:Ty Tryz.prog 5 1 false:=⟨by kernel_rfl⟩
theorem ty9:Ty Tryz.prog 9 1 false:=⟨by kernel_rfl⟩
theorem E1i:Ty Tryz.prog 111 1 false:=⟨by kernel_rfl⟩
def A4g (cp:Int):Bool :=
 (((decide ((0:Int)≤cp))&&(decide (cp≤1114111)))&&(!decide ((cp / 2048)=27)))
theorem C1x (cp:Int) (R:Bool) (hR:A4g cp=R):K5 Tryz.prog 115 [iv cp] [] (bv R):=by
 refine zco Tryz.func115 [(0,iv cp)] fun X hX hr hD=>?_
 replace hR:=(A4g.eq_1 ..).symm.trans hR
 refine sr 1 rfl (ip' 1 0 [] (ie (sr 12 rfl (ip' 3 9 [(5,bv (decide ((0:Int)≤cp)))] ?_))))
 refine zid 3 6 5 8 (decide (cp≤1114111)) (fun g1 g1p=>?_) ?_
 ·refine ip' 3 0 [(8,bv (decide (cp≤1114111)))] ?_
  exact A6 (Q2 2 5 8 g1 fn0 (mk [] rfl) rfl rfl rfl rfl rfl)
 refine ip' 1 5 [(9,bv ((decide ((0:Int)≤cp))&&(decide (cp≤1114111))))] ?_
 refine zia 4 1 9 13 (!decide ((cp / 2048)=27)) (fun g2=>?_) ?_
 ·have g2p:((0:Int)≤cp)∧(cp≤1114111):=by simpa using g2
  refine ip' 1 3 [(10,iv cp)] ?_
  refine ix rfl (Q5 (c:=cp / 2048) rfl rfl rfl (by decide) (by simp [Int.fdiv_eq_ediv_of_nonneg,IntKind.bits])) (ip' 2 0 [(13,bv (!decide ((cp / 2048)=27)))] ?_)
  exact A6 (Q2 4 9 13 g2 fn0 (mk [] rfl) rfl rfl rfl rfl rfl)
 refine ip' 1 0 [(2,bv (((decide ((0:Int)≤cp))&&(decide (cp≤1114111)))&&(!decide ((cp / 2048)=27))))] ?_
 subst hR
 refine ie (B0 ?_)
 exact F8 hr hD
def I4 (shift:Nat) (p1:Int):UInt8 :=
 (by8 (bOp .or .u8 128 ((by8 (bOp .and .u8 ((by8 (IntKind.u8.wrap (Int.fdiv p1 (2 ^ (min ((shift:Int)).toNat 64))))).toNat:Int) 63)).toNat:Int)))
theorem A6d (shift:Nat) (p1:Int) (p1b:Nat) (R:UInt8) (hR:I4 shift p1=R):Con Tryz.prog 125 [iv (shift:Int),pt p1b 0] [bx p1b [iv p1] 3] [] (Unit) (fun x=>.int .u8 (R.toNat:Int)) (fun x=>[bx p1b [iv p1] 3]) (fun x=>[]):=by
 refine zco Tryz.func125 [(0,iv (shift:Int)),(1,pt p1b 0)] fun X hX hr hD=>?_
 replace hR:=(I4.eq_1 ..).symm.trans hR
 refine sr 1 rfl (ip' 1 0 [] (ie (sr 7 rfl (zrl 2 5 [0] [(4,iv p1),(5,iv (shift:Int))] (ix rfl (Q5 rfl rfl rfl (by omega) rfl) (ix rfl (I5 (v:=.int .u8 (IntKind.u8.wrap (Int.fdiv p1 (2 ^ (min ((shift:Int)).toNat 64))))) (J0.pure rfl) (B3z)) (ix rfl (I5 (v:=.int .u8 (bOp .and .u8 ((by8 (IntKind.u8.wrap (Int.fdiv p1 (2 ^ (min ((shift:Int)).toNat 64))))).toNat:Int) 63)) (J0.pure rfl) (C0n)) (ix rfl (I5 (v:=.int .u8 (bOp .or .u8 128 ((by8 (bOp .and .u8 ((by8 (IntKind.u8.wrap (Int.fdiv p1 (2 ^ (min ((shift:Int)).toNat 64))))).toNat:Int) 63)).toNat:Int))) (J0.pure rfl) (C0n)) (ip' 1 0 [(3,.int .u8 ((by8 (bOp .or .u8 128 ((by8 (bOp .and .u8 ((by8 (IntKind.u8.wrap (Int.fdiv p1 (2 ^ (min ((shift:Int)).toNat 64))))).toNat:Int) 63)).toNat:Int))).toNat:Int))] ?_)))))))))
 subst hR
 refine ie (B0 ?_)
 exact zer hr hD (O3 rfl (B8 rfl)) () (mk [true] rfl) fn0
def A5r (cp1:Int):List UInt8 :=
 (bif (decide (cp1<128)) then ([(by8 (IntKind.u8.wrap cp1))]:List UInt8) else (bif (decide (cp1<2048)) then ([(by8 (bOp .or .u8 192 ((by8 (IntKind.u8.wrap (cp1 / 64))).toNat:Int))),(I4 0 cp1)]:List UInt8) else (bif (decide (cp1<65536)) then ([(by8 (bOp .or .u8 224 ((by8 (IntKind.u8.wrap (cp1 / 4096))).toNat:Int))),(I4 6 cp1),(I4 0 cp1)]:List UInt8) else ([(by8 (bOp .or .u8 240 ((by8 (IntKind.u8.wrap (cp1 / 262144))).toNat:Int))),(I4 12 cp1),(I4 6 cp1),(I4 0 cp1)]:List UInt8))))
def B1k (cp:Int):List UInt8 :=
 (bif (!(A4g cp)) then A5r 65533 else A5r cp)
theorem B4x (cp:Int):(B1k cp).length≤4:=by
 unfold B1k A5r
 simp only [Bool.cond_eq_ite]
 repeat' split
 all_goals simp
theorem C7k (cp:Int) (R:List UInt8) (hR:B1k cp=R):K5 Tryz.prog 81 [iv cp] [] (sv R):=by
 refine zco Tryz.func81 [(0,iv cp)] fun X hX hr hD=>?_
 replace hR:=(B1k.eq_1 ..).symm.trans hR
 refine sr 2 rfl (P1 2 0 [] (fun b1=>[(1,pt b1 0)]) (fun b1=>[bx b1 [iv cp] 3]) (fun b1=>?_))
 refine ie (E6m (fun (cp1:Int)=>(A5r cp1=R,[(1,pt b1 0)],[bx b1 [iv cp1] 3],[])) ?_ ?_)
 ·refine sr 3 rfl (zrl 1 2 [0] [(4,iv cp)] (zca (C1x cp _ rfl) fn0 (ip' 1 0 [(6,bv (!(A4g cp)))] (ie ?_))))
  refine zjb rfl hR ?_ ?_<;>clear hR<;>intro hR h2
  ·refine A3 1 rfl (zrg 1 0 [0] [] [bx b1 [iv 65533] 3] (A6 ?_))
   exact D7o 65533 hR (mk [true] rfl) fn0
  refine A9 ?_
  exact D7o cp hR (mk [true] rfl) fn0
 intro cp1
 rintro hR
 replace hR:=(A5r.eq_1 ..).symm.trans hR
 refine sr 2 rfl (ip' 2 0 [(3,.func (.func 125) #[] #[pt b1 0])] (ie (A7 (B2 (sr 3 rfl (zrl 3 0 [0] [(8,bv (decide (cp1<128)))] (ie ?_)))))))
 refine zjd rfl hR ?_ ?_<;>clear hR<;>intro hR h3 h3p
 ·refine sr 5 rfl (zrl 1 4 [0] [(11,iv cp1)] (ix rfl (I5 (v:=.int .u8 (IntKind.u8.wrap cp1)) (J0.pure rfl) (B3z)) (it rfl (B3 (c:=cU8) (xs:=([(by8 (IntKind.u8.wrap cp1))]:List UInt8)) A8f rfl rfl rfl (by kernel_rfl)) fun b4=>?_)))
  have:([(by8 (IntKind.u8.wrap cp1))]:List UInt8).length=1:=rfl
  refine ix rfl (B6b Tryz.underlying9 Tryz.underlying30 rfl rfl (A1 0 rfl) rfl (by kernel_rfl)) ?_
  have:([(by8 (IntKind.u8.wrap cp1))]:List UInt8).length=1:=rfl
  refine ip' 1 0 [(2,sv ([(by8 (IntKind.u8.wrap cp1))]:List UInt8))] ?_
  subst hR
  refine ie (B0 ?_)
  exact F8 hr hD
 refine sr 3 rfl (zrl 3 0 [0] [(15,bv (decide (cp1<2048)))] (ie ?_))
 refine zjd rfl hR ?_ ?_<;>clear hR<;>intro hR h5 h5p
 ·refine sh 9 [(9,[bx b1 [iv cp1] 3])] [] [bx b1 [iv cp1] 3] (zml 9 0) (by kernel_rfl) rfl (by kernel_rfl) (by kernel_rfl) (by kernel_rfl) (mk [true] rfl) A0.refl ?_
  refine zhp [4] 8 (zml 9 16) [(22,.func (.func 125) #[] #[pt b1 0])] ?_
  refine zhl 0 [bx b1 [iv cp1] 3] (zml 9 17) rfl (B4 (v:=iv cp1) ty3 rfl rfl 0 rfl rfl) ?_
  refine zhk 1 (zml 9 19) rfl (Q5 (c:=cp1 / 64) rfl rfl rfl (by decide) (by simp [Int.fdiv_eq_ediv_of_nonneg,IntKind.bits])) (zhk 2 (zml 9 23) rfl (I5 (v:=.int .u8 (IntKind.u8.wrap (cp1 / 64))) (J0.pure rfl) (B3z)) (zhk 3 (zml 9 31) rfl (I5 (v:=.int .u8 (bOp .or .u8 192 ((by8 (IntKind.u8.wrap (cp1 / 64))).toNat:Int))) (J0.pure rfl) (C0n)) ?_))
  refine zho 5 [bx b1 [iv cp1] 3] (zml 9 63) rfl (C2 (L2:=[]) (A6d 0 cp1 b1 _ rfl) rfl rfl rfl rfl rfl fn0 (L9 [[bx b1 [iv cp1] 3]] [0] 1 rfl (by decide) rfl [[bx b1 [iv cp1] 3]] rfl (by first|rfl|simp)) (fun _=>[bx b1 [iv cp1] 3]) (fun _=>rfl)) (fun _=>(mk [true] rfl)) (fun _=>fn0) fun _=>?_
  refine zho 6 [bx b1 [iv cp1] 3] (zml 9 127) rfl (B3 (c:=cU8) (xs:=([(by8 (bOp .or .u8 192 ((by8 (IntKind.u8.wrap (cp1 / 64))).toNat:Int))),(I4 0 cp1)]:List UInt8)) A8f rfl rfl rfl (by kernel_rfl)) (fun b6=>(mk [true] rfl)) (fun b6=>fn0) fun b6=>?_
  have:([(by8 (bOp .or .u8 192 ((by8 (IntKind.u8.wrap (cp1 / 64))).toNat:Int))),(I4 0 cp1)]:List UInt8).length=2:=rfl
  refine zho 7 [bx b1 [iv cp1] 3] (zml 9 255) rfl (Det.tri (J0.det (B6b Tryz.underlying9 Tryz.underlying30 rfl rfl (A1 0 rfl) rfl (by kernel_rfl)))) (fun _=>(mk [true] rfl)) (fun _=>fn0) fun _=>?_
  have:([(by8 (bOp .or .u8 192 ((by8 (IntKind.u8.wrap (cp1 / 64))).toNat:Int))),(I4 0 cp1)]:List UInt8).length=2:=rfl
  refine zhp [8] 0 (zml 9 511) [(2,sv ([(by8 (bOp .or .u8 192 ((by8 (IntKind.u8.wrap (cp1 / 64))).toNat:Int))),(I4 0 cp1)]:List UInt8))] ?_
  refine A8j (by kernel_rfl) ?_
  subst hR
  refine B0 ?_
  exact F8 hr hD
 refine sr 3 rfl (zrl 3 0 [0] [(26,bv (decide (cp1<65536)))] (ie ?_))
 refine zjd rfl hR ?_ ?_<;>clear hR<;>intro hR h7 h7p
 ·refine sh 11 [(11,[bx b1 [iv cp1] 3])] [] [bx b1 [iv cp1] 3] (zml 11 0) (by kernel_rfl) rfl (by kernel_rfl) (by kernel_rfl) (by kernel_rfl) (mk [true] rfl) A0.refl ?_
  refine zhp [4,6] 9 (zml 11 80) [(33,.func (.func 125) #[] #[pt b1 0]),(35,.func (.func 125) #[] #[pt b1 0])] ?_
  refine zhl 0 [bx b1 [iv cp1] 3] (zml 11 81) rfl (B4 (v:=iv cp1) ty3 rfl rfl 0 rfl rfl) ?_
  refine zhk 1 (zml 11 83) rfl (Q5 (c:=cp1 / 4096) rfl rfl rfl (by decide) (by simp [Int.fdiv_eq_ediv_of_nonneg,IntKind.bits])) (zhk 2 (zml 11 87) rfl (I5 (v:=.int .u8 (IntKind.u8.wrap (cp1 / 4096))) (J0.pure rfl) (B3z)) (zhk 3 (zml 11 95) rfl (I5 (v:=.int .u8 (bOp .or .u8 224 ((by8 (IntKind.u8.wrap (cp1 / 4096))).toNat:Int))) (J0.pure rfl) (C0n)) ?_))
  refine zho 5 [bx b1 [iv cp1] 3] (zml 11 127) rfl (C2 (L2:=[]) (A6d 6 cp1 b1 _ rfl) rfl rfl rfl rfl rfl fn0 (L9 [[bx b1 [iv cp1] 3]] [0] 1 rfl (by decide) rfl [[bx b1 [iv cp1] 3]] rfl (by first|rfl|simp)) (fun _=>[bx b1 [iv cp1] 3]) (fun _=>rfl)) (fun _=>(mk [true] rfl)) (fun _=>fn0) fun _=>?_
  refine zho 7 [bx b1 [iv cp1] 3] (zml 11 255) rfl (C2 (L2:=[]) (A6d 0 cp1 b1 _ rfl) rfl rfl rfl rfl rfl fn0 (L9 [[bx b1 [iv cp1] 3]] [0] 1 rfl (by decide) rfl [[bx b1 [iv cp1] 3]] rfl (by first|rfl|simp)) (fun _=>[bx b1 [iv cp1] 3]) (fun _=>rfl)) (fun _=>(mk [true] rfl)) (fun _=>fn0) fun _=>?_
  refine zho 8 [bx b1 [iv cp1] 3] (zml 11 511) rfl (B3 (c:=cU8) (xs:=([(by8 (bOp .or .u8 224 ((by8 (IntKind.u8.wrap (cp1 / 4096))).toNat:Int))),(I4 6 cp1),(I4 0 cp1)]:List UInt8)) A8f rfl rfl rfl (by kernel_rfl)) (fun b8=>(mk [true] rfl)) (fun b8=>fn0) fun b8=>?_
  have:([(by8 (bOp .or .u8 224 ((by8 (IntKind.u8.wrap (cp1 / 4096))).toNat:Int))),(I4 6 cp1),(I4 0 cp1)]:List UInt8).length=3:=rfl
  refine zho 9 [bx b1 [iv cp1] 3] (zml 11 1023) rfl (Det.tri (J0.det (B6b Tryz.underlying9 Tryz.underlying30 rfl rfl (A1 0 rfl) rfl (by kernel_rfl)))) (fun _=>(mk [true] rfl)) (fun _=>fn0) fun _=>?_
  have:([(by8 (bOp .or .u8 224 ((by8 (IntKind.u8.wrap (cp1 / 4096))).toNat:Int))),(I4 6 cp1),(I4 0 cp1)]:List UInt8).length=3:=rfl
  refine zhp [10] 0 (zml 11 2047) [(2,sv ([(by8 (bOp .or .u8 224 ((by8 (IntKind.u8.wrap (cp1 / 4096))).toNat:Int))),(I4 6 cp1),(I4 0 cp1)]:List UInt8))] ?_
  refine A8j (by kernel_rfl) ?_
  subst hR
  refine B0 ?_
  exact F8 hr hD
 refine A9 (nx (sh 13 [(13,[bx b1 [iv cp1] 3])] [] [bx b1 [iv cp1] 3] (zml 13 0) (by kernel_rfl) rfl (by kernel_rfl) (by kernel_rfl) (by kernel_rfl) (mk [true] rfl) A0.refl ?_))
 refine zhp [4,6,8] 10 (zml 13 336) [(43,.func (.func 125) #[] #[pt b1 0]),(45,.func (.func 125) #[] #[pt b1 0]),(47,.func (.func 125) #[] #[pt b1 0])] ?_
 refine zhl 0 [bx b1 [iv cp1] 3] (zml 13 337) rfl (B4 (v:=iv cp1) ty3 rfl rfl 0 rfl rfl) ?_
 refine zhk 1 (zml 13 339) rfl (Q5 (c:=cp1 / 262144) rfl rfl rfl (by decide) (by simp [Int.fdiv_eq_ediv_of_nonneg,IntKind.bits])) (zhk 2 (zml 13 343) rfl (I5 (v:=.int .u8 (IntKind.u8.wrap (cp1 / 262144))) (J0.pure rfl) (B3z)) (zhk 3 (zml 13 351) rfl (I5 (v:=.int .u8 (bOp .or .u8 240 ((by8 (IntKind.u8.wrap (cp1 / 262144))).toNat:Int))) (J0.pure rfl) (C0n)) ?_))
 refine zho 5 [bx b1 [iv cp1] 3] (zml 13 383) rfl (C2 (L2:=[]) (A6d 12 cp1 b1 _ rfl) rfl rfl rfl rfl rfl fn0 (L9 [[bx b1 [iv cp1] 3]] [0] 1 rfl (by decide) rfl [[bx b1 [iv cp1] 3]] rfl (by first|rfl|simp)) (fun _=>[bx b1 [iv cp1] 3]) (fun _=>rfl)) (fun _=>(mk [true] rfl)) (fun _=>fn0) fun _=>?_
 refine zho 7 [bx b1 [iv cp1] 3] (zml 13 511) rfl (C2 (L2:=[]) (A6d 6 cp1 b1 _ rfl) rfl rfl rfl rfl rfl fn0 (L9 [[bx b1 [iv cp1] 3]] [0] 1 rfl (by decide) rfl [[bx b1 [iv cp1] 3]] rfl (by first|rfl|simp)) (fun _=>[bx b1 [iv cp1] 3]) (fun _=>rfl)) (fun _=>(mk [true] rfl)) (fun _=>fn0) fun _=>?_
 refine zho 9 [bx b1 [iv cp1] 3] (zml 13 1023) rfl (C2 (L2:=[]) (A6d 0 cp1 b1 _ rfl) rfl rfl rfl rfl rfl fn0 (L9 [[bx b1 [iv cp1] 3]] [0] 1 rfl (by decide) rfl [[bx b1 [iv cp1] 3]] rfl (by first|rfl|simp)) (fun _=>[bx b1 [iv cp1] 3]) (fun _=>rfl)) (fun _=>(mk [true] rfl)) (fun _=>fn0) fun _=>?_
 refine zho 10 [bx b1 [iv cp1] 3] (zml 13 2047) rfl (B3 (c:=cU8) (xs:=([(by8 (bOp .or .u8 240 ((by8 (IntKind.u8.wrap (cp1 / 262144))).toNat:Int))),(I4 12 cp1),(I4 6 cp1),(I4 0 cp1)]:List UInt8)) A8f rfl rfl rfl (by kernel_rfl)) (fun b9=>(mk [true] rfl)) (fun b9=>fn0) fun b9=>?_
 have:([(by8 (bOp .or .u8 240 ((by8 (IntKind.u8.wrap (cp1 / 262144))).toNat:Int))),(I4 12 cp1),(I4 6 cp1),(I4 0 cp1)]:List UInt8).length=4:=rfl
 refine zho 11 [bx b1 [iv cp1] 3] (zml 13 4095) rfl (Det.tri (J0.det (B6b Tryz.underlying9 Tryz.underlying30 rfl rfl (A1 0 rfl) rfl (by kernel_rfl)))) (fun _=>(mk [true] rfl)) (fun _=>fn0) fun _=>?_
 have:([(by8 (bOp .or .u8 240 ((by8 (IntKind.u8.wrap (cp1 / 262144))).toNat:Int))),(I4 12 cp1),(I4 6 cp1),(I4 0 cp1)]:List UInt8).length=4:=rfl
 refine zhp [12] 0 (zml 13 8191) [(2,sv ([(by8 (bOp .or .u8 240 ((by8 (IntKind.u8.wrap (cp1 / 262144))).toNat:Int))),(I4 12 cp1),(I4 6 cp1),(I4 0 cp1)]:List UInt8))] ?_
 refine A8j (by kernel_rfl) ?_
 subst hR
 refine B0 ?_
 exact F8 hr hD
def H4 (bbuf:List UInt8) (s:List UInt8):List UInt8×Int :=
 ((bbuf++s),(s.length:Int))
theorem V4 (bbuf s:List UInt8):(H4 bbuf s).1.length=bbuf.length+s.length:=by simp [H4]
theorem A2e (bbuf:List UInt8) (s:List UInt8) (bb:Nat) (baddrz:Option Addr) (bbufr:VR) (hzbaddrz:baddrz=none∨baddrz=some ⟨bb,0,none⟩) (hokbbufr:VOk 1 bbuf.length bbufr) (hb:bbuf.length+s.length≤140737488355328) (R:List UInt8×Int) (hR:H4 bbuf s=R):Con Tryz.prog 48 [pt bb 0,sv s] (bx bb [.pointer baddrz,.slice (va bbufr.q) bbuf.length bbufr.k] 91::(vo cU8 5 bbufr bbuf)++([])) [] ({r:VR // VOk 1 R.1.length r}) (fun x=>.tuple #[iv R.2,.nilIface]) (fun x=>(bx bb [pt bb 0,.slice (va x.1.q) R.1.length x.1.k] 91::(vo cU8 5 x.1 R.1)++([]))) (fun x=>[]):=by
 refine zco Tryz.func48 [(0,pt bb 0),(1,sv s)] fun X hX hr hD=>?_
 replace hR:=(H4.eq_1 ..).symm.trans hR
 have:=VOk.le hokbbufr
 refine sr 2 rfl (ip' 2 0 [] (ie (sr 2 rfl (ip' 1 1 [(6,pt bb 0)] (it rfl (C2 (L2:=((vo cU8 5 bbufr bbuf)++([]))) (C1n bb (.slice (va bbufr.q) bbuf.length bbufr.k) baddrz hzbaddrz) rfl rfl rfl rfl rfl fn0 (L9 [[bx bb [.pointer baddrz,.slice (va bbufr.q) bbuf.length bbufr.k] 91],vo cU8 5 bbufr bbuf] [0,1] 2 rfl (by decide) rfl [[bx bb [.pointer baddrz,.slice (va bbufr.q) bbuf.length bbufr.k] 91],vo cU8 5 bbufr bbuf] rfl (by first|rfl|simp)) (fun _=>(bx bb [pt bb 0,.slice (va bbufr.q) bbuf.length bbufr.k] 91::(vo cU8 5 bbufr bbuf)++([]))) (fun _=>by first|rfl|simp)) fun _=>?_)))))
 refine ie (sr 10 rfl (zrl 6 4 [0] [(8,pt bb 0),(12,.slice (va bbufr.q) bbuf.length bbufr.k),(13,sv s)] (it rfl (B1s (r:=bbufr) (xs:=bbuf) (s:=s) (pre:=[bx bb [pt bb 0,.slice (va bbufr.q) bbuf.length bbufr.k] 91]) (post:=[]) C5z (by kernel_rfl) Tryz.underlying9 rfl rfl rfl rfl rfl rfl rfl hokbbufr (by first|omega|(simp<;>omega))) fun ⟨r1,hr2⟩=>?_)))
 have:=@List.length_append _ bbuf s
 have:=VOk.le hr2
 have:=VOk.cap hr2
 refine zrg 3 0 [0] [] (bx bb [pt bb 0,.slice (va r1.q) ((bbuf++s).length) r1.k] 91::(vo cU8 5 r1 (bbuf++s))++([])) (ie (sr 4 rfl (ip' 4 0 [(4,iv (s.length:Int)),(5,.nilIface)] ?_)))
 subst hR
 refine ie (B0 ?_)
 exact zer hr hD (A4c rfl (B8 rfl) (B8 rfl)) ⟨r1,hr2⟩ (mc [[bx bb [pt bb 0,.slice (va r1.q) ((bbuf++s).length) r1.k] 91],vo cU8 5 r1 (bbuf++s)] [true,true] rfl (by first|rfl|(simp only [List.length_set]<;>rfl))) fn0
def A3u:List Int→Nat→List UInt8→List UInt8
 | [],t8,bbuf=>bbuf
 | hd_l0::tl_l0,t8,bbuf=>(B5 (B1k hd_l0) fun (y3:List UInt8)=>(B5 (H4 bbuf y3) fun (y1:List UInt8×Int)=>A3u tl_l0 (t8+1) y1.1))
def B0e (codes:List Int):List UInt8 :=
 A3u codes 0 ([]:List UInt8)
theorem D4b (codes:List Int) (codesq:Option Addr) (codesk:Nat) (hlcodes:codes.length≤9223372036854775807) (hccodes:codes.length≤codesk) (hp:codes.length≤1000000000) (R:List UInt8) (hR:B0e codes=R):K5 Tryz.prog 202 [.slice codesq codes.length codesk] [sl I8 codesq codes] (sv R):=by
 refine zco Tryz.func202 [(0,.slice codesq codes.length codesk)] fun X hX hr hD=>?_
 replace hR:=(B0e.eq_1 ..).symm.trans hR
 refine sr 1 rfl (ip' 1 0 [] (ie (sr 1 rfl (P1 1 0 [] (fun b1=>[(3,pt b1 0)]) (fun b1=>[bx b1 [.pointer none,.slice none 0 0] 91]) (fun b1=>(ie (A7 (sr 3 rfl (ip' 3 0 [(6,.slice codesq codes.length codesk),(7,iv (codes.length:Int)),(8,iv 0)] (ie (B2 (A2r (L9 [vo cU8 5 VR.nil ([]:List UInt8),[bx b1 [.pointer none,.slice none 0 0] 91]] [1,0] 2 rfl (by decide) rfl [[bx b1 [.pointer none,.slice none 0 0] 91],vo cU8 5 VR.nil ([]:List UInt8)] rfl (by first|rfl|simp)) ?_))))))))))))
 refine B7z (fun (t8:Nat) (baddrz:Option Addr) (bbuf:List UInt8) (bbufr:VR)=>(t8≤codes.length∧A3u (codes.drop t8) t8 bbuf=R∧(baddrz=none∨baddrz=some ⟨b1,0,none⟩)∧VOk 1 bbuf.length bbufr∧bbuf.length≤4 * t8,[(3,pt b1 0),(6,.slice codesq codes.length codesk),(7,iv (codes.length:Int)),(8,iv (t8:Int))],(bx b1 [.pointer baddrz,.slice (va bbufr.q) bbuf.length bbufr.k] 91::(vo cU8 5 bbufr bbuf)++([])),[sl I8 codesq codes],codes.length - t8)) 0 none ([]:List UInt8) VR.nil ⟨(by omega),hR,(.inl rfl),VOk.nil,(by simp)⟩ (mc [[bx b1 [.pointer none,.slice none 0 0] 91],vo cU8 5 VR.nil ([]:List UInt8)] [true,true] rfl (by first|rfl|(simp only [List.length_set]<;>rfl))) A0.refl ?_
 rintro t8 baddrz bbuf bbufr ⟨hm2,hR,hzbaddrz,hokbbufr,hg⟩
 have:=VOk.le hokbbufr
 refine sr 1 rfl (ip' 1 0 [(9,bv (decide ((t8:Int)<(codes.length:Int))))] ?_)
 refine ie (A7 (I9 rfl (fun h3=>?_) (fun h3=>?_)))
 ·have h3p:(t8:Int)<(codes.length:Int):=by simpa using h3
  rw [A4r 0 (show t8<codes.length by omega)] at hR;replace hR:=(A3u.eq_2 ..).symm.trans hR
  refine A9 (nx (A7 (B2 (sr 3 rfl (P3 0 rfl (by omega) fun a4 hq5=>(ix rfl (N0 L8 rfl rfl hq5 rfl t8 rfl (by omega)) (ix rfl (C4 (v:=iv (codes.getD t8 0)) (us:=[iv (codes.getD t8 0)]) ty3 rfl rfl (O4 (c:=I8) (sz:=1) hq5 (fun _=>rfl) 0 rfl (gd 0 (by omega))) rfl) (ip' 1 0 [(5,iv (codes.getD t8 0))] (ie (A3 3 rfl (ip' 1 2 [(12,iv (codes.getD t8 0))] ?_)))))))))))
  have hQ:=C9 hR;clear hR;obtain ⟨y3,hy3,hR⟩:=hQ
  refine zca (C7k (codes.getD t8 0) y3 hy3) fn0 ?_
  have:=B4x (codes.getD t8 0);try rw [hy3] at this
  have hQ:=C9 hR;clear hR;obtain ⟨y1,hy1,hR⟩:=hQ
  refine it rfl (C2 (L2:=[]) (A2e bbuf y3 b1 baddrz bbufr hzbaddrz hokbbufr (by first|omega|(simp<;>omega)|(have hel:=hg.2 _ (List.mem_cons_self ..);unfold A8w at hel;have hgl:=hg.1;simp only [List.length_append,List.length_cons,List.length_nil] at *;omega)) y1 hy1) rfl rfl rfl rfl rfl fn0 (L9 [[bx b1 [.pointer baddrz,.slice (va bbufr.q) bbuf.length bbufr.k] 91],vo cU8 5 bbufr bbuf] [0,1] 2 rfl (by decide) rfl [[bx b1 [.pointer baddrz,.slice (va bbufr.q) bbuf.length bbufr.k] 91],vo cU8 5 bbufr bbuf] rfl (by first|rfl|simp)) (fun ⟨r6,hk7⟩=>(bx b1 [pt b1 0,.slice (va r6.q) y1.1.length r6.k] 91::(vo cU8 5 r6 y1.1)++([]))) (fun _=>by first|rfl|simp)) fun ⟨r6,hk7⟩=>?_
  have:=VOk.le hk7
  have:=VOk.cap hk7
  have:=V4 bbuf y3;try rw [hy1] at this
  refine A6 (nx (A3 2 rfl (ix rfl (B6 rfl rfl rfl rfl (by omega)) (ip' 1 0 [(8,iv ((t8:Int)+1))] (A6 ?_)))))
  exact B3p (z1:=t8) (z2:=baddrz) (z3:=bbuf) (z4:=bbufr) (t8+1) (some ⟨b1,0,none⟩) y1.1 r6 ⟨(by omega),hR,(.inr rfl),hk7,(by first|omega|(simp<;>omega))⟩ (by (try dsimp only);omega) (mc [[bx b1 [pt b1 0,.slice (va r6.q) y1.1.length r6.k] 91],vo cU8 5 r6 y1.1] [true,true] rfl (by first|rfl|(simp only [List.length_set]<;>rfl))) A0.refl
 have h3p:¬ ((t8:Int)<(codes.length:Int)):=by simpa using h3
 rw [A4s h3p] at hR;replace hR:=(A3u.eq_1 ..).symm.trans hR
 refine J1 (nx (sr 2 rfl (it rfl (C2 (L2:=[]) (D2j b1 (.pointer baddrz) bbuf bbufr hokbbufr) rfl rfl rfl rfl rfl fn0 (L9 [[bx b1 [.pointer baddrz,.slice (va bbufr.q) bbuf.length bbufr.k] 91],vo cU8 5 bbufr bbuf] [0,1] 2 rfl (by decide) rfl [[bx b1 [.pointer baddrz,.slice (va bbufr.q) bbuf.length bbufr.k] 91],vo cU8 5 bbufr bbuf] rfl (by first|rfl|simp)) (fun _=>[]) (fun _=>rfl)) fun _=>?_)))
 refine ip' 1 0 [(2,sv bbuf)] ?_
 subst hR
 refine ie (B0 ?_)
 exact F8 hr hD
def H7 (b:UInt8):Int :=
 (bif ((decide ((240:Int)≤(b.toNat:Int)))&&(decide ((b.toNat:Int)≤244))) then 4 else (bif ((decide ((224:Int)≤(b.toNat:Int)))&&(decide ((b.toNat:Int)<240))) then 3 else (bif ((decide ((194:Int)≤(b.toNat:Int)))&&(decide ((b.toNat:Int)<224))) then 2 else (bif (decide ((b.toNat:Int)<128)) then 1 else 0))))
theorem C6u (b:UInt8):H7 b≤4:=by
 unfold H7;simp only [Bool.cond_eq_ite];repeat' split
 all_goals omega
theorem C8o (b:UInt8) (R:Int) (hR:H7 b=R):K5 Tryz.prog 249 [.int .u8 (b.toNat:Int)] [] (iv R):=by
 refine zco Tryz.func249 [(0,.int .u8 (b.toNat:Int))] fun X hX hr hD=>?_
 replace hR:=(H7.eq_1 ..).symm.trans hR
 refine sr 1 rfl (ip' 1 0 [(2,iv 0)] (ie (A7 (B2 (A7 (B2 (A7 (B2 (A7 (B2 (A7 (B2 (A7 (A7 (sr 7 rfl (ip' 3 4 [(6,bv (decide ((240:Int)≤(b.toNat:Int))))] ?_))))))))))))))))
 refine zid 3 1 6 9 (decide ((b.toNat:Int)≤244)) (fun g1 g1p=>?_) ?_
 ·refine ip' 3 0 [(9,bv (decide ((b.toNat:Int)≤244)))] ?_
  exact A6 (Q2 2 6 9 g1 fn0 (mk [] rfl) rfl rfl rfl rfl rfl)
 refine ip' 1 0 [(3,bv ((decide ((240:Int)≤(b.toNat:Int)))&&(decide ((b.toNat:Int)≤244))))] (ie ?_)
 refine zja rfl hR ?_ ?_<;>clear hR<;>intro hR h2 h2p
 ·refine J1 (nx (A3 3 rfl (ip' 1 2 [(27,iv 0)] ?_)))
  refine ix rfl (B6 (c:=1) rfl rfl rfl rfl (by decide)) (ip' 1 0 [(2,iv 1)] (A6 (nx (A3 3 rfl (ip' 1 2 [(29,iv 1)] (ix rfl (B6 (c:=2) rfl rfl rfl rfl (by decide)) (ip' 1 0 [(2,iv 2)] (A6 (nx (A3 3 rfl (ip' 1 2 [(31,iv 2)] (ix rfl (B6 (c:=3) rfl rfl rfl rfl (by decide)) ?_))))))))))))
  refine ip' 1 0 [(2,iv 3)] (A6 (nx (sr 3 rfl (ip' 1 2 [(33,iv 3)] (ix rfl (B6 (c:=4) rfl rfl rfl rfl (by decide)) (ip' 1 0 [(2,iv 4)] (ie (J1 (nx (sr 2 rfl (ip' 2 0 [(2,iv 4)] ?_)))))))))))
  subst hR
  refine ie (B0 ?_)
  exact F8 hr hD
 refine A9 (nx (A7 (sr 7 rfl (ip' 3 4 [(13,bv (decide ((224:Int)≤(b.toNat:Int))))] ?_))))
 refine zid 3 1 13 16 (decide ((b.toNat:Int)<240)) (fun g3 g3p=>?_) ?_
 ·refine ip' 3 0 [(16,bv (decide ((b.toNat:Int)<240)))] ?_
  exact A6 (Q2 2 13 16 g3 fn0 (mk [] rfl) rfl rfl rfl rfl rfl)
 refine ip' 1 0 [(10,bv ((decide ((224:Int)≤(b.toNat:Int)))&&(decide ((b.toNat:Int)<240))))] (ie ?_)
 refine zja rfl hR ?_ ?_<;>clear hR<;>intro hR h4 h4p
 ·refine J1 (nx (A3 3 rfl (ip' 1 2 [(29,iv 0)] ?_)))
  refine ix rfl (B6 (c:=1) rfl rfl rfl rfl (by decide)) (ip' 1 0 [(2,iv 1)] (A6 (nx (A3 3 rfl (ip' 1 2 [(31,iv 1)] (ix rfl (B6 (c:=2) rfl rfl rfl rfl (by decide)) (ip' 1 0 [(2,iv 2)] (A6 (nx (sr 3 rfl (ip' 1 2 [(33,iv 2)] (ix rfl (B6 (c:=3) rfl rfl rfl rfl (by decide)) ?_))))))))))))
  refine ip' 1 0 [(2,iv 3)] (ie (J1 (nx (sr 2 rfl (ip' 2 0 [(2,iv 3)] ?_)))))
  subst hR
  refine ie (B0 ?_)
  exact F8 hr hD
 refine A9 (nx (A7 (sr 7 rfl (ip' 3 4 [(20,bv (decide ((194:Int)≤(b.toNat:Int))))] ?_))))
 refine zid 3 1 20 23 (decide ((b.toNat:Int)<224)) (fun g5 g5p=>?_) ?_
 ·refine ip' 3 0 [(23,bv (decide ((b.toNat:Int)<224)))] ?_
  exact A6 (Q2 2 20 23 g5 fn0 (mk [] rfl) rfl rfl rfl rfl rfl)
 refine ip' 1 0 [(17,bv ((decide ((194:Int)≤(b.toNat:Int)))&&(decide ((b.toNat:Int)<224))))] (ie ?_)
 refine zja rfl hR ?_ ?_<;>clear hR<;>intro hR h6 h6p
 ·refine J1 (nx (A3 3 rfl (ip' 1 2 [(31,iv 0)] ?_)))
  refine ix rfl (B6 (c:=1) rfl rfl rfl rfl (by decide)) (ip' 1 0 [(2,iv 1)] (A6 (nx (sr 3 rfl (ip' 1 2 [(33,iv 1)] (ix rfl (B6 (c:=2) rfl rfl rfl rfl (by decide)) (ip' 1 0 [(2,iv 2)] (ie (J1 (nx (sr 2 rfl (ip' 2 0 [(2,iv 2)] ?_))))))))))))
  subst hR
  refine ie (B0 ?_)
  exact F8 hr hD
 refine A9 (nx (sr 3 rfl (ip' 3 0 [(24,bv (decide ((b.toNat:Int)<128)))] (ie ?_))))
 refine zjd rfl hR ?_ ?_<;>clear hR<;>intro hR h7 h7p
 ·refine J1 (nx (sr 3 rfl (ip' 1 2 [(33,iv 0)] ?_)))
  refine ix rfl (B6 (c:=1) rfl rfl rfl rfl (by decide)) (ip' 1 0 [(2,iv 1)] (ie (J1 (nx (sr 2 rfl (ip' 2 0 [(2,iv 1)] ?_))))))
  subst hR
  refine ie (B0 ?_)
  exact F8 hr hD
 refine A9 (nx (J1 (nx (sr 2 rfl (ip' 2 0 [(2,iv 0)] ?_)))))
 subst hR
 refine ie (B0 ?_)
 exact F8 hr hD
def A1q (b:UInt8):UInt8×UInt8 :=
 (bif (decide ((b.toNat:Int)=224)) then ((160:UInt8),(191:UInt8)) else (bif (decide ((b.toNat:Int)=237)) then ((128:UInt8),(159:UInt8)) else (bif (decide ((b.toNat:Int)=240)) then ((144:UInt8),(191:UInt8)) else (bif (decide ((b.toNat:Int)=244)) then ((128:UInt8),(143:UInt8)) else ((128:UInt8),(191:UInt8))))))
theorem C9o (b:UInt8) (R:UInt8×UInt8) (hR:A1q b=R):K5 Tryz.prog 250 [.int .u8 (b.toNat:Int)] [] (.tuple #[.int .u8 (R.1.toNat:Int),.int .u8 (R.2.toNat:Int)]):=by
 refine zco Tryz.func250 [(0,.int .u8 (b.toNat:Int))] fun X hX hr hD=>?_
 replace hR:=(A1q.eq_1 ..).symm.trans hR
 refine sr 2 rfl (ip' 2 0 [] (ie (A7 (sr 1 rfl (ip' 1 0 [(4,.int .u8 (b.toNat:Int))] (ie (B2 (sr 2 rfl (ip' 2 0 [(5,bv (decide ((b.toNat:Int)=224)))] (ie ?_))))))))))
 refine zjd rfl hR ?_ ?_<;>clear hR<;>intro hR h1 h1p
 ·refine sr 2 rfl (ip' 2 0 [(2,.int .u8 160),(3,.int .u8 191)] ?_)
  subst hR
  refine ie (B0 ?_)
  exact A9j hr hD
 refine sr 2 rfl (ip' 2 0 [(7,bv (decide ((b.toNat:Int)=237)))] (ie ?_))
 refine zjd rfl hR ?_ ?_<;>clear hR<;>intro hR h2 h2p
 ·refine sr 2 rfl (ip' 2 0 [(2,.int .u8 128),(3,.int .u8 159)] ?_)
  subst hR
  refine ie (B0 ?_)
  exact A9j hr hD
 refine sr 2 rfl (ip' 2 0 [(9,bv (decide ((b.toNat:Int)=240)))] (ie ?_))
 refine zjd rfl hR ?_ ?_<;>clear hR<;>intro hR h3 h3p
 ·refine sr 2 rfl (ip' 2 0 [(2,.int .u8 144),(3,.int .u8 191)] ?_)
  subst hR
  refine ie (B0 ?_)
  exact A9j hr hD
 refine sr 2 rfl (ip' 2 0 [(11,bv (decide ((b.toNat:Int)=244)))] (ie ?_))
 refine zjd rfl hR ?_ ?_<;>clear hR<;>intro hR h4 h4p
 ·refine sr 2 rfl (ip' 2 0 [(2,.int .u8 128),(3,.int .u8 143)] ?_)
  subst hR
  refine ie (B0 ?_)
  exact A9j hr hD
 refine A9 (nx (sr 2 rfl (ip' 2 0 [(2,.int .u8 128),(3,.int .u8 191)] ?_)))
 subst hR
 refine ie (B0 ?_)
 exact A9j hr hD
def W2 (p:List UInt8):List UInt8→UInt8→UInt8→Nat→Int
 | [],low,high,t26=>(bif (decide ((p.length:Int)<(H7 (p.getD 0 0)))) then 1 else 2)
 | hd_l0::tl_l0,low,high,t26=>(bif ((decide ((hd_l0.toNat:Int)<(low.toNat:Int)))||(decide ((high.toNat:Int)<(hd_l0.toNat:Int)))) then 0 else W2 p tl_l0 (128:UInt8) (191:UInt8) (t26+1))
def K8 (p:List UInt8):Int :=
 (bif (decide ((H7 (p.getD 0 0))<(p.length:Int))) then 0 else (B5 (A1q (p.getD 0 0)) fun (y2:UInt8×UInt8)=>W2 p (p.drop 1) y2.1 y2.2 0))
theorem C6d {p:List UInt8} (h:K8 p=1):p.length≤4:=by
 unfold K8 at h;have:=C6u (p.getD 0 0);revert h this;generalize p.getD 0 0=z;intro h this
 cases hc:decide (H7 z<(p.length:Int))<;>rw [hc] at h<;>simp at h hc
 omega
theorem B7v (p:List UInt8) (pq:Option Addr) (pk:Nat) (hlp:p.length≤9223372036854775807) (hcp:p.length≤pk) (hp:1≤p.length) (R:Int) (hR:K8 p=R):K5 Tryz.prog 242 [.slice pq p.length pk] [sl cU8 pq p] (iv R):=by
 refine zco Tryz.func242 [(0,.slice pq p.length pk)] fun X hX hr hD=>?_
 replace hR:=(K8.eq_1 ..).symm.trans hR
 refine sr 1 rfl (ip' 1 0 [] (ie (sr 5 rfl (ip' 1 4 [(8,.slice pq p.length pk)] (P3 0 rfl (by omega) fun a1 hq2=>(ix rfl (N0 A8f rfl rfl hq2 rfl 0 rfl (by omega)) (ix rfl (C4 (v:=.int .u8 ((p.getD 0 0).toNat:Int)) (us:=[.int .u8 ((p.getD 0 0).toNat:Int)]) ty5 rfl rfl (O4 (c:=cU8) (sz:=1) hq2 (fun _=>rfl) 0 rfl (gd 0 (by omega))) rfl) (zca (C8o (p.getD 0 0) _ rfl) fn0 (ip' 1 0 [(3,iv (H7 (p.getD 0 0)))] ?_)))))))))
 refine ie (A7 (sr 4 rfl (ip' 4 0 [(15,bv (decide ((H7 (p.getD 0 0))<(p.length:Int))))] (ie ?_))))
 refine zjd rfl hR ?_ ?_<;>clear hR<;>intro hR h3 h3p
 ·refine sr 1 rfl (ip' 1 0 [(2,iv 0)] ?_)
  subst hR
  refine ie (B0 ?_)
  exact F8 hr hD
 refine A9 (nx (sr 9 rfl (ip' 1 8 [(17,.slice pq p.length pk)] (ix rfl (N0 A8f rfl rfl hq2 rfl 0 rfl (by omega)) (ix rfl (C4 (v:=.int .u8 ((p.getD 0 0).toNat:Int)) (us:=[.int .u8 ((p.getD 0 0).toNat:Int)]) ty5 rfl rfl (O4 (c:=cU8) (sz:=1) hq2 (fun _=>rfl) 0 rfl (gd 0 (by omega))) rfl) ?_)))))
 have hQ:=C9 hR;clear hR;obtain ⟨y2,hy2,hR⟩:=hQ
 refine zca (C9o (p.getD 0 0) y2 hy2) fn0 (ip' 5 0 [(4,.int .u8 (y2.1.toNat:Int)),(5,.int .u8 (y2.2.toNat:Int))] (ie (A7 (sr 4 rfl (ip' 1 3 [(23,.slice pq p.length pk)] (C3 (C8s (c:=cU8) (sz:=1) (xs:=p) (A1 0 rfl) 1 pk (fun _=>rfl) (by omega) (by omega)) ?_))))))
 refine ix rfl (B2z (n':=(p.drop 1).length) A8f rfl rfl 1 p.length pk (A3k rfl rfl) A5n A5n (by omega) (by omega) (by omega) (by first|rfl|omega|(simp<;>omega)|(simp;done)) rfl) ?_
 have:=@List.length_drop _ 1 p
 refine ip' 2 0 [(25,iv ((p.drop 1).length:Int)),(26,iv 0)] (ie (B2 (E9c (fun (low:UInt8) (high:UInt8) (t26:Nat)=>(t26≤(p.drop 1).length∧W2 p ((p.drop 1).drop t26) low high t26=R,[(0,.slice pq p.length pk),(3,iv (H7 (p.getD 0 0))),(4,.int .u8 (low.toNat:Int)),(5,.int .u8 (high.toNat:Int)),(24,.slice (B4i pq 1 1 pk) ((p.drop 1).length) (pk - 1)),(25,iv ((p.drop 1).length:Int)),(26,iv (t26:Int))],[],[sl cU8 (B4i pq 1 1 pk) (p.drop 1),sl cU8 pq p],(p.drop 1).length - t26)) y2.1 y2.2 0 ⟨(by omega),hR⟩ (mk [] rfl) A0.refl ?_)))
 rintro low high t26 ⟨hm4,hR⟩
 refine sr 1 rfl (ip' 1 0 [(27,bv (decide ((t26:Int)<((p.drop 1).length:Int))))] ?_)
 refine ie (A7 (I9 rfl (fun h5=>?_) (fun h5=>?_)))
 ·have h5p:(t26:Int)<((p.drop 1).length:Int):=by simpa using h5
  rw [A4r 0 (show t26<(p.drop 1).length by omega)] at hR;replace hR:=(W2.eq_2 ..).symm.trans hR
  refine A9 (nx (A7 (B2 (sr 3 rfl (P3 0 rfl (by omega) fun a6 hq7=>(ix rfl (N0 A8f rfl rfl hq7 rfl t26 rfl (by omega)) (ix rfl (C4 (v:=.int .u8 (((p.drop 1).getD t26 0).toNat:Int)) (us:=[.int .u8 (((p.drop 1).getD t26 0).toNat:Int)]) ty5 rfl rfl (O4 (c:=cU8) (sz:=1) hq7 (fun _=>rfl) 0 rfl (gd 0 (by omega))) rfl) (ip' 1 0 [(7,.int .u8 (((p.drop 1).getD t26 0).toNat:Int))] (ie (A7 (sr 8 rfl (ip' 4 4 [(33,bv (decide ((((p.drop 1).getD t26 0).toNat:Int)<(low.toNat:Int))))] ?_))))))))))))
  refine zir 4 0 33 37 (decide ((high.toNat:Int)<(((p.drop 1).getD t26 0).toNat:Int))) (fun g8 g8p=>?_) ?_
  ·refine ip' 4 0 [(37,bv (decide ((high.toNat:Int)<(((p.drop 1).getD t26 0).toNat:Int))))] ?_
   exact zai 2 33 37 g8
  refine ie ?_
  refine zjo rfl hR ?_ ?_<;>clear hR<;>intro hR h9 h9p
  ·refine sr 1 rfl (ip' 1 0 [(2,iv 0)] ?_)
   subst hR
   refine ie (B0 ?_)
   exact F8 hr hD
  refine A9 (nx (A3 2 rfl (ip' 2 0 [(4,.int .u8 128),(5,.int .u8 191)] (A6 (nx (A3 2 rfl (ix rfl (B6 rfl rfl rfl rfl (by omega)) (ip' 1 0 [(26,iv ((t26:Int)+1))] (A6 ?_)))))))))
  exact E8y (z1:=low) (z2:=high) (z3:=t26) (128:UInt8) (191:UInt8) (t26+1) ⟨(by omega),hR⟩ (by (try dsimp only);omega) (mk [] rfl) A0.refl
 have h5p:¬ ((t26:Int)<((p.drop 1).length:Int)):=by simpa using h5
 rw [A4s h5p] at hR;replace hR:=(W2.eq_1 ..).symm.trans hR
 refine J1 (nx (A7 (sr 4 rfl (ip' 4 0 [(42,bv (decide ((p.length:Int)<(H7 (p.getD 0 0)))))] ?_))))
 refine ie ?_
 refine zjd rfl hR ?_ ?_<;>clear hR<;>intro hR h10 h10p
 ·refine sr 1 rfl (ip' 1 0 [(2,iv 1)] ?_)
  subst hR
  refine ie (B0 ?_)
  exact F8 hr hD
 refine A9 (nx (sr 1 rfl (ip' 1 0 [(2,iv 2)] ?_)))
 subst hR
 refine ie (B0 ?_)
 exact F8 hr hD
def Y1 (pending:List UInt8):Bool :=
 ((decide ((pending.length:Int)=0))||(decide ((K8 pending)=1)))
theorem C1h (pending:List UInt8) (pendingq:Option Addr) (pendingk:Nat) (hlpending:pending.length≤9223372036854775807) (hcpending:pending.length≤pendingk) (R:Bool) (hR:Y1 pending=R):K5 Tryz.prog 241 [.slice pendingq pending.length pendingk] [sl cU8 pendingq pending] (bv R):=by
 refine zco Tryz.func241 [(0,.slice pendingq pending.length pendingk)] fun X hX hr hD=>?_
 replace hR:=(Y1.eq_1 ..).symm.trans hR
 refine sr 1 rfl (ip' 1 0 [] (ie (sr 9 rfl (ip' 4 5 [(6,bv (decide ((pending.length:Int)=0)))] ?_))))
 refine zir 4 1 6 10 (decide ((K8 pending)=1)) (fun g1 g1p=>?_) ?_
 ·refine ip' 1 3 [(7,.slice pendingq pending.length pendingk)] (zca (B7v pending pendingq pendingk (by first|omega|(simp<;>omega)|(dsimp only;omega)|decide) (by first|omega|(simp<;>omega)|(dsimp only;omega)|decide) (by first|omega|(simp<;>omega)) _ rfl) A0.refl (ip' 2 0 [(10,bv (decide ((K8 pending)=1)))] ?_))
  exact zai 4 6 10 g1
 refine ip' 1 0 [(2,bv ((decide ((pending.length:Int)=0))||(decide ((K8 pending)=1))))] ?_
 subst hR
 refine ie (B0 ?_)
 exact F8 hr hD
def A2j:List UInt8→Int→Nat→Int
 | [],cp1,t22=>cp1
 | hd_l0::tl_l0,cp1,t22=>A2j tl_l0 (bOp .or .i64 (IntKind.i64.wrap (cp1 * 64)) ((by8 (bOp .and .u8 (hd_l0.toNat:Int) 63)).toNat:Int)) (t22+1)
def A3s (p:List UInt8) (cp:Int):Int :=
 A2j (p.drop 1) cp 0
def W8 (p:List UInt8):Int :=
 (bif (decide ((1:Int)<(p.length:Int))) then A3s p (bOp .and .i64 ((p.getD 0 0).toNat:Int) (Int.fdiv (255:Int) (2 ^ (min (((p.length:Int)+1)).toNat 64)))) else A3s p ((p.getD 0 0).toNat:Int))
theorem C3i (p:List UInt8) (pq:Option Addr) (pk:Nat) (hlp:p.length≤9223372036854775807) (hcp:p.length≤pk) (hp:1≤p.length) (hp2:p.length≤1000000) (R:Int) (hR:W8 p=R):K5 Tryz.prog 243 [.slice pq p.length pk] [sl cU8 pq p] (iv R):=by
 refine zco Tryz.func243 [(0,.slice pq p.length pk)] fun X hX hr hD=>?_
 replace hR:=(W8.eq_1 ..).symm.trans hR
 refine sr 1 rfl (ip' 1 0 [] (ie (sr 5 rfl (ip' 1 4 [(6,.slice pq p.length pk)] (P3 0 rfl (by omega) fun a1 hq2=>(ix rfl (N0 A8f rfl rfl hq2 rfl 0 rfl (by omega)) (ix rfl (C4 (v:=.int .u8 ((p.getD 0 0).toNat:Int)) (us:=[.int .u8 ((p.getD 0 0).toNat:Int)]) ty5 rfl rfl (O4 (c:=cU8) (sz:=1) hq2 (fun _=>rfl) 0 rfl (gd 0 (by omega))) rfl) (ix rfl (B2i (c:=((p.getD 0 0).toNat:Int)) Tryz.underlying3 (by kernel_rfl) rfl rfl (B1b (p.getD 0 0))) (ip' 1 0 [(3,iv ((p.getD 0 0).toNat:Int))] ?_)))))))))
 refine ie (E6m (fun (cp:Int)=>(A3s p cp=R,[(0,.slice pq p.length pk),(3,iv cp)],[],[sl cU8 pq p])) ?_ ?_)
 ·refine sr 3 rfl (ip' 3 0 [(12,bv (decide ((1:Int)<(p.length:Int))))] (ie ?_))
  refine zjd rfl hR ?_ ?_<;>clear hR<;>intro hR h3 h3p
  ·refine A3 7 rfl (ip' 3 4 [(13,iv ((p.getD 0 0).toNat:Int)),(15,iv (p.length:Int))] (ix rfl (B6 rfl rfl rfl rfl (by omega)) (ix rfl (Q5 rfl rfl rfl (by omega) rfl) (ip' 2 0 [(3,iv (bOp .and .i64 ((p.getD 0 0).toNat:Int) (Int.fdiv (255:Int) (2 ^ (min (((p.length:Int)+1)).toNat 64)))))] (A6 ?_)))))
   exact D7o (bOp .and .i64 ((p.getD 0 0).toNat:Int) (Int.fdiv (255:Int) (2 ^ (min (((p.length:Int)+1)).toNat 64)))) hR (mk [] rfl) A0.refl
  refine A9 ?_
  exact D7o ((p.getD 0 0).toNat:Int) hR (mk [] rfl) A0.refl
 intro cp
 rintro hR
 replace hR:=(A3s.eq_1 ..).symm.trans hR
 refine A7 (sr 4 rfl (ip' 1 3 [(19,.slice pq p.length pk)] ?_))
 refine C3 (C8s (c:=cU8) (sz:=1) (xs:=p) (A1 0 rfl) 1 pk (fun _=>rfl) (by omega) (by omega)) ?_
 refine ix rfl (B2z (n':=(p.drop 1).length) A8f rfl rfl 1 p.length pk (A3k rfl rfl) A5n A5n (by omega) (by omega) (by omega) (by first|rfl|omega|(simp<;>omega)|(simp;done)) rfl) ?_
 have:=@List.length_drop _ 1 p
 refine ip' 2 0 [(21,iv ((p.drop 1).length:Int)),(22,iv 0)] (ie (B2 (E1j (fun (cp1:Int) (t22:Nat)=>(t22≤(p.drop 1).length∧A2j ((p.drop 1).drop t22) cp1 t22=R,[(3,iv cp1),(20,.slice (B4i pq 1 1 pk) ((p.drop 1).length) (pk - 1)),(21,iv ((p.drop 1).length:Int)),(22,iv (t22:Int))],[],[sl cU8 (B4i pq 1 1 pk) (p.drop 1),sl cU8 pq p],(p.drop 1).length - t22)) cp 0 ⟨(by omega),hR⟩ (mk [] rfl) A0.refl ?_)))
 rintro cp1 t22 ⟨hm4,hR⟩
 refine sr 1 rfl (ip' 1 0 [(23,bv (decide ((t22:Int)<((p.drop 1).length:Int))))] ?_)
 refine ie (A7 (I9 rfl (fun h5=>?_) (fun h5=>?_)))
 ·have h5p:(t22:Int)<((p.drop 1).length:Int):=by simpa using h5
  rw [A4r 0 (show t22<(p.drop 1).length by omega)] at hR;replace hR:=(A2j.eq_2 ..).symm.trans hR
  refine A9 (nx (A7 (B2 (sr 3 rfl (P3 0 rfl (by omega) fun a6 hq7=>(ix rfl (N0 A8f rfl rfl hq7 rfl t22 rfl (by omega)) (ix rfl (C4 (v:=.int .u8 (((p.drop 1).getD t22 0).toNat:Int)) (us:=[.int .u8 (((p.drop 1).getD t22 0).toNat:Int)]) ty5 rfl rfl (O4 (c:=cU8) (sz:=1) hq7 (fun _=>rfl) 0 rfl (gd 0 (by omega))) rfl) (ip' 1 0 [(5,.int .u8 (((p.drop 1).getD t22 0).toNat:Int))] (ie (A3 7 rfl (ip' 1 6 [(26,iv cp1)] ?_)))))))))))
  refine ix rfl (B6a (c:=(IntKind.i64.wrap (cp1 * 64))) rfl rfl rfl (by decide) (by simp [IntKind.bits])) (ip' 1 4 [(28,.int .u8 (((p.drop 1).getD t22 0).toNat:Int))] (ix rfl (I5 (v:=.int .u8 (bOp .and .u8 (((p.drop 1).getD t22 0).toNat:Int) 63)) (J0.pure rfl) (C0n)) (ix rfl (B2i (c:=((by8 (bOp .and .u8 (((p.drop 1).getD t22 0).toNat:Int) 63)).toNat:Int)) Tryz.underlying3 (by kernel_rfl) rfl rfl (B1b (by8 (bOp .and .u8 (((p.drop 1).getD t22 0).toNat:Int) 63)))) (ip' 2 0 [(3,iv (bOp .or .i64 (IntKind.i64.wrap (cp1 * 64)) ((by8 (bOp .and .u8 (((p.drop 1).getD t22 0).toNat:Int) 63)).toNat:Int)))] (A6 (nx (A3 2 rfl (ix rfl (B6 rfl rfl rfl rfl (by omega)) (ip' 1 0 [(22,iv ((t22:Int)+1))] ?_)))))))))
  refine A6 ?_
  exact E2r (z1:=cp1) (z2:=t22) (bOp .or .i64 (IntKind.i64.wrap (cp1 * 64)) ((by8 (bOp .and .u8 (((p.drop 1).getD t22 0).toNat:Int) 63)).toNat:Int)) (t22+1) ⟨(by omega),hR⟩ (by (try dsimp only);omega) (mk [] rfl) A0.refl
 have h5p:¬ ((t22:Int)<((p.drop 1).length:Int)):=by simpa using h5
 rw [A4s h5p] at hR;replace hR:=(A2j.eq_1 ..).symm.trans hR
 refine J1 (nx (sr 2 rfl (ip' 2 0 [(2,iv cp1)] ?_)))
 subst hR
 refine ie (B0 ?_)
 exact F8 hr hD
def B0k:Bool :=
 true
theorem C9k (R:Bool) (hR:B0k=R):K5 Tryz.prog 241 [.slice none 0 0] [] (bv R):=by
 refine zco Tryz.func241 [(0,.slice none 0 0)] fun X hX hr hD=>?_
 replace hR:=(B0k.eq_1 ..).symm.trans hR
 refine sr 1 rfl (ip' 1 0 [] (ie (sr 9 rfl (ip' 9 0 [(2,bv true)] ?_))))
 subst hR
 refine ie (B0 ?_)
 exact F8 hr hD
def Z2 (b:UInt8):List UInt8×List Int :=
 (bif (decide ((K8 (([]:List UInt8)++([b]:List UInt8)))=2)) then (([]:List UInt8),([(W8 (([]:List UInt8)++([b]:List UInt8)))]:List Int)) else (bif (decide ((K8 (([]:List UInt8)++([b]:List UInt8)))=1)) then ((([]:List UInt8)++([b]:List UInt8)),([]:List Int)) else (([]:List UInt8),([65533]:List Int))))
def V8 (b:UInt8):List UInt8×List Int :=
 (bif (!B0k) then Z2 b else Z2 b)
theorem B7b (b:UInt8):(V8 b).1.length≤4∧(V8 b).2.length≤1:=by
 have h0:(Z2 b).1.length≤4∧(Z2 b).2.length≤1:=by
  unfold Z2;simp only [Bool.cond_eq_ite];repeat' split
  all_goals simp
 unfold V8;cases (!B0k)<;>exact h0
theorem D0u (b:UInt8) (hp:([]:List Unit).length≤1000) (R:List UInt8×List Int) (hR:V8 b=R):Con Tryz.prog 232 [.slice none 0 0,.int .u8 (b.toNat:Int)] [] [] ({t:Option Addr×Nat // R.1.length≤t.2∧R.1.length≤9223372036854775807}×{t:Option Addr×Nat // R.2.length≤t.2∧R.2.length≤9223372036854775807}) (fun x=>.tuple #[.slice x.1.1.1 R.1.length x.1.1.2,.slice x.2.1.1 R.2.length x.2.1.2]) (fun x=>[]) (fun x=>[sl cU8 x.1.1.1 R.1,sl I8 x.2.1.1 R.2]):=by
 refine zco Tryz.func232 [(0,.slice none 0 0),(1,.int .u8 (b.toNat:Int))] fun X hX hr hD=>?_
 replace hR:=(V8.eq_1 ..).symm.trans hR
 refine sr 2 rfl (ip' 2 0 [] ?_)
 refine ie (E6m (fun (_:Unit)=>(Z2 b=R,[(0,.slice none 0 0),(1,.int .u8 (b.toNat:Int))],[],[])) ?_ ?_)
 ·refine sr 3 rfl (ip' 1 2 [(7,.slice none 0 0)] (zca (C9k _ rfl) fn0 (ip' 1 0 [(9,bv (!B0k))] (ie ?_))))
  refine zjb rfl hR ?_ ?_<;>clear hR<;>intro hR h1
  ·refine A3 1 rfl (ip' 1 0 [(0,.slice none 0 0)] (A6 ?_))
   exact D7o () hR (mk [] rfl) fn0
  refine A9 ?_
  exact D7o () hR (mk [] rfl) fn0
 intro _
 rintro hR
 replace hR:=(Z2.eq_1 ..).symm.trans hR
 refine sr 10 rfl (ip' 5 5 [(10,.slice none 0 0),(12,iv 0),(14,iv 0)] (ix rfl (B2z A8f rfl rfl 0 0 0 A5n (A3k rfl rfl) (A3k rfl rfl) (by decide) (by decide) (by decide) (n':=0) rfl rfl) (ip' 1 3 [(16,.int .u8 (b.toNat:Int))] (it rfl (B3 (c:=cU8) (xs:=([b]:List UInt8)) A8f rfl rfl rfl (by kernel_rfl)) fun b2=>?_))))
 have:([b]:List UInt8).length=1:=rfl
 refine it rfl (B2g (f:=cU8) (r:=VR.nil) (xs:=([]:List UInt8)) (ys:=([b]:List UInt8)) (pre:=[]) (post:=[]) C5z (fun _=>rfl) (fun _=>rfl) rfl rfl rfl rfl rfl rfl rfl rfl rfl (A1 0 rfl) VOk.nil (by first|omega|(simp<;>omega)) (by first|omega|(simp<;>omega))) fun ⟨r3,hr4⟩=>?_
 have:=VOk.le hr4
 have:=VOk.cap hr4
 refine A4o [] [] (T:=5) (c:=cU8) (r:=r3) (xs:=(([]:List UInt8)++([b]:List UInt8))) hr4 (by first|rfl|simp) ?_
 refine ip' 1 0 [(6,.slice (va r3.q) ((([]:List UInt8)++([b]:List UInt8)).length) r3.k)] (ie (A7 (sr 2 rfl (ip' 1 1 [(19,.slice (va r3.q) ((([]:List UInt8)++([b]:List UInt8)).length) r3.k)] (zca (B7v (([]:List UInt8)++([b]:List UInt8)) (va r3.q) r3.k (by first|omega|(simp<;>omega)|(dsimp only;omega)|decide) (by first|omega|(simp<;>omega)|(dsimp only;omega)|decide) (by first|omega|(simp<;>omega)) _ rfl) (A0.pick [0] rfl) (ie (B2 (sr 2 rfl (ip' 2 0 [(21,bv (decide ((K8 (([]:List UInt8)++([b]:List UInt8)))=2)))] (ie ?_))))))))))
 refine zjd rfl hR ?_ ?_<;>clear hR<;>intro hR h5 h5p
 ·refine sr 5 rfl (ip' 1 4 [(23,.slice (va r3.q) ((([]:List UInt8)++([b]:List UInt8)).length) r3.k)] (zca (C3i (([]:List UInt8)++([b]:List UInt8)) (va r3.q) r3.k (by first|omega|(simp<;>omega)|(dsimp only;omega)|decide) (by first|omega|(simp<;>omega)|(dsimp only;omega)|decide) (by first|omega|(simp<;>omega)) (by first|omega|(simp<;>omega)) _ rfl) (A0.pick [0] rfl) (it rfl (B3 (c:=I8) (xs:=([(W8 (([]:List UInt8)++([b]:List UInt8)))]:List Int)) L8 rfl rfl rfl (by kernel_rfl)) fun b6=>?_)))
  have:([(W8 (([]:List UInt8)++([b]:List UInt8)))]:List Int).length=1:=rfl
  refine ip' 2 0 [(4,.slice none 0 0),(5,.slice (some ⟨b6,0,none⟩) 1 1)] ?_
  subst hR
  refine ie (B0 ?_)
  exact zer hr hD (A4c rfl (B8 rfl) (B8 rfl)) ((zq none 0),(zq (some ⟨b6,0,none⟩) 1)) (mk [] rfl) (A0.con1 A4u (A0.con1 (A1 0 rfl) fn0))
 refine sr 2 rfl (ip' 2 0 [(26,bv (decide ((K8 (([]:List UInt8)++([b]:List UInt8)))=1)))] (ie ?_))
 refine zjd rfl hR ?_ ?_<;>clear hR<;>intro hR h7 h7p
 ·refine sr 3 rfl (ip' 3 0 [(4,.slice (va r3.q) ((([]:List UInt8)++([b]:List UInt8)).length) r3.k),(5,.slice none 0 0)] ?_)
  subst hR
  refine ie (B0 ?_)
  exact zer hr hD (A4c rfl (B8 rfl) (B8 rfl)) ((zq (va r3.q) r3.k),(zq none 0)) (mk [] rfl) (A0.con1 (A1 0 rfl) (A0.con1 A4u fn0))
 refine A9 (nx (A7 (sr 3 rfl (ip' 3 0 [(31,bv true)] (ie (N5 rfl (sr 3 rfl (it rfl (B3 (c:=I8) (xs:=([65533]:List Int)) L8 rfl rfl rfl (by kernel_rfl)) fun b8=>?_))))))))
 have:([65533]:List Int).length=1:=rfl
 refine ip' 2 0 [(4,.slice none 0 0),(5,.slice (some ⟨b8,0,none⟩) 1 1)] ?_
 subst hR
 refine ie (B0 ?_)
 exact zer hr hD (A4c rfl (B8 rfl) (B8 rfl)) ((zq none 0),(zq (some ⟨b8,0,none⟩) 1)) (mk [] rfl) (A0.con1 A4u (A0.con1 (A1 0 rfl) fn0))
def A1j (b:UInt8) (pending1:List UInt8):List UInt8×List Int :=
 (bif (decide ((K8 (pending1++([b]:List UInt8)))=2)) then (([]:List UInt8),([(W8 (pending1++([b]:List UInt8)))]:List Int)) else (bif (decide ((K8 (pending1++([b]:List UInt8)))=1)) then ((pending1++([b]:List UInt8)),([]:List Int)) else (bif (decide ((pending1.length:Int)=0)) then (([]:List UInt8),([65533]:List Int)) else ((V8 b).1,(([65533]:List Int)++(V8 b).2)))))
def J7 (pending:List UInt8) (b:UInt8):List UInt8×List Int :=
 (bif (!(Y1 pending)) then A1j b ([]:List UInt8) else A1j b pending)
theorem B8o (p:List UInt8) (b:UInt8):(J7 p b).1.length≤4∧(J7 p b).2.length≤2:=by
 have h0:∀ q,(A1j b q).1.length≤4∧(A1j b q).2.length≤2:=by
  intro q;unfold A1j;simp only [Bool.cond_eq_ite];have:=B7b b;repeat' split
  all_goals simp
  ·rename_i h;have:=C6d (by simpa using h);simpa using this
  ·omega
 unfold J7;cases (!(Y1 p))<;>exact h0 _
theorem D4c (pending:List UInt8) (b:UInt8) (pendingq:Option Addr) (pendingk:Nat) (hlpending:pending.length≤9223372036854775807) (hcpending:pending.length≤pendingk) (hp:pending.length≤1000) (R:List UInt8×List Int) (hR:J7 pending b=R):Con Tryz.prog 232 [.slice pendingq pending.length pendingk,.int .u8 (b.toNat:Int)] [] [sl cU8 pendingq pending] ({t:Option Addr×Nat // R.1.length≤t.2∧R.1.length≤9223372036854775807}×{t:Option Addr×Nat // R.2.length≤t.2∧R.2.length≤9223372036854775807}) (fun x=>.tuple #[.slice x.1.1.1 R.1.length x.1.1.2,.slice x.2.1.1 R.2.length x.2.1.2]) (fun x=>[]) (fun x=>[sl cU8 x.1.1.1 R.1,sl I8 x.2.1.1 R.2]):=by
 refine zco Tryz.func232 [(0,.slice pendingq pending.length pendingk),(1,.int .u8 (b.toNat:Int))] fun X hX hr hD=>?_
 replace hR:=(J7.eq_1 ..).symm.trans hR
 refine sr 2 rfl (ip' 2 0 [] ?_)
 refine ie (C8g (fun (pending1:List UInt8) (pendingq1:Option Addr) (pendingk1:Nat)=>(A1j b pending1=R∧pending1.length≤pendingk1∧pending1.length≤9223372036854775807∧pending1.length≤1000,[(0,.slice pendingq1 pending1.length pendingk1),(1,.int .u8 (b.toNat:Int))],[],[sl cU8 pendingq pending,sl cU8 pendingq1 pending1])) ?_ ?_)
 ·refine sr 3 rfl (ip' 1 2 [(7,.slice pendingq pending.length pendingk)] (zca (C1h pending pendingq pendingk (by first|omega|(simp<;>omega)|(dsimp only;omega)|decide) (by first|omega|(simp<;>omega)|(dsimp only;omega)|decide) _ rfl) A0.refl (ip' 1 0 [(9,bv (!(Y1 pending)))] (ie ?_))))
  refine zjb rfl hR ?_ ?_<;>clear hR<;>intro hR h1
  ·refine A3 1 rfl (ip' 1 0 [(0,.slice none 0 0)] (A6 ?_))
   exact B3a ([]:List UInt8) none 0 ⟨hR,(by first|omega|(simp<;>omega)|(dsimp only;omega)|decide),(by first|omega|(simp<;>omega)|(dsimp only;omega)|decide),(by first|omega|(simp<;>omega))⟩ (mk [] rfl) (A0.con1 (A1 0 rfl) (A0.con1 A4u fn0))
  refine A9 ?_
  exact B3a pending pendingq pendingk ⟨hR,(by first|omega|(simp<;>omega)|(dsimp only;omega)|decide),(by first|omega|(simp<;>omega)|(dsimp only;omega)|decide),(by first|omega|(simp<;>omega))⟩ (mk [] rfl) (A0.pick [0,0] rfl)
 intro pending1 pendingq1 pendingk1
 rintro ⟨hR,hcpending1,hlpending1,hj⟩
 replace hR:=(A1j.eq_1 ..).symm.trans hR
 refine sr 10 rfl (ip' 5 5 [(10,.slice pendingq1 pending1.length pendingk1),(12,iv (pending1.length:Int)),(14,iv (pending1.length:Int))] (ix rfl (C4l (n':=pending1.length) A8f rfl rfl pending1.length pending1.length (A3k rfl rfl) (A3k rfl rfl) (by omega) (by omega) (by first|rfl|omega) rfl) (ip' 1 3 [(16,.int .u8 (b.toNat:Int))] (it rfl (B3 (c:=cU8) (xs:=([b]:List UInt8)) A8f rfl rfl rfl (by kernel_rfl)) fun b2=>?_))))
 have:([b]:List UInt8).length=1:=rfl
 refine it rfl (C4q (f:=cU8) (xs:=pending1) (ys:=([b]:List UInt8)) C5z (fun _=>rfl) (fun _=>rfl) rfl rfl rfl rfl rfl rfl (by omega) (by omega) (by rfl) (A1 2 rfl) (A1 0 rfl) (by first|omega|(simp<;>omega)) (by first|omega|(simp<;>omega))) fun ⟨⟨q3,k4⟩,hq5⟩=>?_
 refine ip' 1 0 [(6,.slice q3 ((pending1++([b]:List UInt8)).length) k4)] (ie (A7 (sr 2 rfl (ip' 1 1 [(19,.slice q3 ((pending1++([b]:List UInt8)).length) k4)] (zca (B7v (pending1++([b]:List UInt8)) q3 k4 (by first|omega|(simp<;>omega)|(dsimp only;omega)|decide) (by first|omega|(simp<;>omega)|(dsimp only;omega)|decide) (by first|omega|(simp<;>omega)) _ rfl) (A0.pick [0] rfl) (ie (B2 (sr 2 rfl (ip' 2 0 [(21,bv (decide ((K8 (pending1++([b]:List UInt8)))=2)))] (ie ?_))))))))))
 refine zjd rfl hR ?_ ?_<;>clear hR<;>intro hR h6 h6p
 ·refine sr 5 rfl (ip' 1 4 [(23,.slice q3 ((pending1++([b]:List UInt8)).length) k4)] (zca (C3i (pending1++([b]:List UInt8)) q3 k4 (by first|omega|(simp<;>omega)|(dsimp only;omega)|decide) (by first|omega|(simp<;>omega)|(dsimp only;omega)|decide) (by first|omega|(simp<;>omega)) (by first|omega|(simp<;>omega)) _ rfl) (A0.pick [0] rfl) (it rfl (B3 (c:=I8) (xs:=([(W8 (pending1++([b]:List UInt8)))]:List Int)) L8 rfl rfl rfl (by kernel_rfl)) fun b7=>?_)))
  have:([(W8 (pending1++([b]:List UInt8)))]:List Int).length=1:=rfl
  refine ip' 2 0 [(4,.slice none 0 0),(5,.slice (some ⟨b7,0,none⟩) 1 1)] ?_
  subst hR
  refine ie (B0 ?_)
  exact zer hr hD (A4c rfl (B8 rfl) (B8 rfl)) ((zq none 0),(zq (some ⟨b7,0,none⟩) 1)) (mk [] rfl) (A0.con1 A4u (A0.con1 (A1 0 rfl) fn0))
 refine sr 2 rfl (ip' 2 0 [(26,bv (decide ((K8 (pending1++([b]:List UInt8)))=1)))] (ie ?_))
 refine zjd rfl hR ?_ ?_<;>clear hR<;>intro hR h8 h8p
 ·refine sr 3 rfl (ip' 3 0 [(4,.slice q3 ((pending1++([b]:List UInt8)).length) k4),(5,.slice none 0 0)] ?_)
  subst hR
  refine ie (B0 ?_)
  exact zer hr hD (A4c rfl (B8 rfl) (B8 rfl)) ((zq q3 k4),(zq none 0)) (mk [] rfl) (A0.con1 (A1 0 rfl) (A0.con1 A4u fn0))
 refine A9 (nx (A7 (sr 3 rfl (ip' 3 0 [(31,bv (decide ((pending1.length:Int)=0)))] (ie ?_)))))
 refine zjd rfl hR ?_ ?_<;>clear hR<;>intro hR h9 h9p
 ·refine sr 3 rfl (it rfl (B3 (c:=I8) (xs:=([65533]:List Int)) L8 rfl rfl rfl (by kernel_rfl)) fun b10=>?_)
  have:([65533]:List Int).length=1:=rfl
  refine ip' 2 0 [(4,.slice none 0 0),(5,.slice (some ⟨b10,0,none⟩) 1 1)] ?_
  subst hR
  refine ie (B0 ?_)
  exact zer hr hD (A4c rfl (B8 rfl) (B8 rfl)) ((zq none 0),(zq (some ⟨b10,0,none⟩) 1)) (mk [] rfl) (A0.con1 A4u (A0.con1 (A1 0 rfl) fn0))
 refine A9 (nx (sr 7 rfl (ip' 1 6 [(34,.int .u8 (b.toNat:Int))] ?_)))
 refine zcm (D0u b (by first|omega|(simp<;>omega)) _ rfl) fn0 fun ⟨⟨⟨q11,k12⟩,hp13⟩,⟨⟨q16,k17⟩,hp18⟩⟩=>?_
 obtain ⟨hc14,hl15⟩:=hp13
 obtain ⟨hc19,hl20⟩:=hp18
 have:=B7b b
 refine ip' 5 0 [(4,.slice q11 (((V8 b).1).length) k12),(5,.slice q16 (((V8 b).2).length) k17)] (ie (sr 6 rfl (ip' 1 5 [(38,.slice q11 (((V8 b).1).length) k12)] (it rfl (B3 (c:=I8) (xs:=([65533]:List Int)) L8 rfl rfl rfl (by kernel_rfl)) fun b21=>?_))))
 have:([65533]:List Int).length=1:=rfl
 refine ip' 1 3 [(40,.slice q16 (((V8 b).2).length) k17)] (it rfl (C4q (f:=I8) (xs:=([65533]:List Int)) (ys:=(V8 b).2) D9d (fun _=>rfl) (fun _=>rfl) rfl rfl rfl rfl rfl rfl (by omega) (by omega) (by rfl) (A1 0 rfl) (A1 2 rfl) (by first|omega|(simp<;>omega)) (by first|omega|(simp<;>omega))) fun ⟨⟨q22,k23⟩,hq24⟩=>?_)
 refine ip' 2 0 [(4,.slice q11 (((V8 b).1).length) k12),(5,.slice q22 ((([65533]:List Int)++(V8 b).2).length) k23)] ?_
 subst hR
 refine ie (B0 ?_)
 exact zer hr hD (A4c rfl (B8 rfl) (B8 rfl)) ((zq q11 k12),(zq q22 k23)) (mk [] rfl) (A0.con1 (A1 2 rfl) (A0.con1 (A1 0 rfl) fn0))
def C0r (pending:List UInt8):List Int :=
 (bif ((decide ((0:Int)<(pending.length:Int)))&&(Y1 pending)) then ([65533]:List Int) else ([]:List Int))
theorem C2h (p:List UInt8):C0r p=(bif (decide (0<(p.length:Int))&&Y1 p) then [65533] else []):=rfl
theorem C1f (pending:List UInt8) (pendingq:Option Addr) (pendingk:Nat) (hlpending:pending.length≤9223372036854775807) (hcpending:pending.length≤pendingk) (hp:pending.length≤1000) (R:List Int) (hR:C0r pending=R):Con Tryz.prog 233 [.slice pendingq pending.length pendingk] [] [sl cU8 pendingq pending] ({t:Option Addr×Nat // R.length≤t.2∧R.length≤9223372036854775807}) (fun x=>.slice x.1.1 R.length x.1.2) (fun x=>[]) (fun x=>[sl I8 x.1.1 R]):=by
 refine zco Tryz.func233 [(0,.slice pendingq pending.length pendingk)] fun X hX hr hD=>?_
 replace hR:=(C0r.eq_1 ..).symm.trans hR
 refine sr 1 rfl (ip' 1 0 [] (ie (A7 (sr 7 rfl (ip' 4 3 [(6,bv (decide ((0:Int)<(pending.length:Int))))] ?_)))))
 refine zid 3 0 6 9 (Y1 pending) (fun g1 g1p=>?_) ?_
 ·refine ip' 1 2 [(7,.slice pendingq pending.length pendingk)] (zca (C1h pending pendingq pendingk (by first|omega|(simp<;>omega)|(dsimp only;omega)|decide) (by first|omega|(simp<;>omega)|(dsimp only;omega)|decide) _ rfl) A0.refl (ip' 1 0 [(9,bv (Y1 pending))] ?_))
  exact zai 4 6 9 g1
 refine ie ?_
 refine zjb rfl hR ?_ ?_<;>clear hR<;>intro hR h2
 ·have h2p:=h2;try simp at h2p
  refine sr 2 rfl (it rfl (B3 (c:=I8) (xs:=([65533]:List Int)) L8 rfl rfl rfl (by kernel_rfl)) fun b3=>?_)
  have:([65533]:List Int).length=1:=rfl
  refine ip' 1 0 [(2,.slice (some ⟨b3,0,none⟩) 1 1)] ?_
  subst hR
  refine ie (B0 ?_)
  exact zer hr hD (O3 rfl (B8 rfl)) (zq (some ⟨b3,0,none⟩) 1) (mk [] rfl) (A0.con1 (A1 0 rfl) fn0)
 have h2p:=h2;try simp at h2p
 refine A9 (nx (sr 1 rfl (ip' 1 0 [(2,.slice none 0 0)] ?_)))
 subst hR
 refine ie (B0 ?_)
 exact zer hr hD (O3 rfl (B8 rfl)) (zq none 0) (mk [] rfl) (A0.con1 A4u fn0)
def A6j (s:List UInt8):List UInt8 :=
 s
theorem D3o (s:List UInt8) (R:List UInt8) (hR:A6j s=R):Con Tryz.prog 221 [sv s] [] [] (Addr) (fun x=>.func (.func 231) #[] #[pa x]) (fun x=>[]) (fun x=>[at_ x [sv R]]):=by
 refine zco Tryz.func221 [(0,sv s)] fun X hX hr hD=>?_
 replace hR:=(A6j.eq_1 ..).symm.trans hR
 refine sr 2 rfl (it rfl (Z5 (cs:=[sv s]) rfl rfl rfl) fun b1=>?_)
 refine A2u 0 rfl ?_
 refine ip' 1 0 [] (ie (sr 2 rfl (ip' 2 0 [(2,.func (.func 231) #[] #[pa ⟨b1,0,none⟩])] ?_)))
 subst hR
 refine ie (B0 ?_)
 exact zer hr hD (O3 rfl (B8 rfl)) ⟨b1,0,none⟩ (mk [] rfl) (A0.con1 (A1 0 rfl) fn0)
def R7 (c0:List UInt8) (pending:List UInt8) (t13:Nat) (ag_utf_each_1_l3:List UInt8→Nat→List Int):List Int→Nat→List Int
 | [],t27=>ag_utf_each_1_l3 ((J7 pending (c0.getD t13 0)).1) (t13+1)
 | hd_l4::tl_l4,t27=>(hd_l4::R7 c0 pending t13 ag_utf_each_1_l3 tl_l4 (t27+1))
def Q0 (c0:List UInt8):List UInt8→List UInt8→Nat→List Int
 | [],pending,t13=>(bif (decide (0<(pending.length:Int))&&Y1 pending) then ((([65533]:List Int).getD 0 0)::[]) else [])
 | hd_l3::tl_l3,pending,t13=>R7 c0 pending t13 (Q0 c0 tl_l3) ((J7 pending hd_l3).2) 0
def B0s (c0:List UInt8):List Int :=
 Q0 c0 c0 ([]:List UInt8) 0
theorem B1r (c0 pending:List UInt8) (t13:Nat) (ag:List UInt8→Nat→List Int):∀ (l:List Int) (t:Nat),(R7 c0 pending t13 ag l t).length=l.length+(ag ((J7 pending (c0.getD t13 0)).1) (t13+1)).length
 | [],t=>by simp [R7]
 | x::l,t=>by simp only [R7,List.length_cons,B1r c0 pending t13 ag l];omega
theorem B0y (c0:List UInt8):∀ (s p:List UInt8) (t:Nat),(Q0 c0 s p t).length≤2 * s.length+1
 | [],p,t=>by
  simp only [Q0]
  generalize (decide (0<(p.length:Int))&&Y1 p)=b
  cases b<;>simp
 | x::s,p,t=>by
  simp only [Q0,B1r,List.length_cons]
  have:=(B8o p x).2;have:=B0y c0 s (J7 p (c0.getD t 0)).1 (t+1);omega
theorem B5o (s:List UInt8):(B0s s).length≤2 * s.length+1:=B0y s s [] 0
theorem C9x (c0:List UInt8) (c0p:Addr) (hs:c0.length≤1000000000) (R:List Int) (hR:B0s c0=R):C8b Tryz.prog 231 [pa c0p] [at_ c0p [sv c0]] (fun x=>iv x) R:=by
 refine D7l (n:=48) Tryz.func231 rfl (by kernel_rfl) rfl rfl (fun l=>[(0,.func (.yield l) #[] #[]),(1,pa c0p)]) (fun l=>⟨rfl,rfl,trivial⟩) fun X l I Ix L Φ hX hr hD hI0 hY=>?_
 replace hR:=(B0s.eq_1 ..).symm.trans hR
 refine sr 1 rfl (ip' 1 0 [(3,.slice none 0 0)] (ie (A7 (sr 3 rfl (ix rfl (C4 (v:=sv c0) (us:=[sv c0]) ty9 rfl rfl (A1 0 rfl) rfl) (ip' 2 0 [(12,iv (c0.length:Int)),(13,iv 0)] (ie (B2 ?_))))))))
 refine E8v (fun (pending:List UInt8) (pendingq:Option Addr) (pendingk:Nat) (t13:Nat) (R_:List Int) (Lt:Fen.Own) (Ft:List Pers)=>(t13≤c0.length∧Q0 c0 (c0.drop t13) pending t13=R_∧pending.length≤pendingk∧pending.length≤9223372036854775807∧I R_ Lt Ft∧pending.length≤1000,[(0,.func (.yield l) #[] #[]),(1,pa c0p),(3,.slice pendingq pending.length pendingk),(12,iv (c0.length:Int)),(13,iv (t13:Int))],(Lt++([])),(at_ c0p [sv c0]::sl cU8 pendingq pending::Ft),c0.length - t13)) ([]:List UInt8) none 0 0 R L Φ ⟨(by omega),hR,(by first|omega|(simp<;>omega)|(dsimp only;omega)|decide),(by first|omega|(simp<;>omega)|(dsimp only;omega)|decide),hI0,(by simp)⟩ (mc [L] [true] rfl (by first|rfl|(simp only [List.length_set]<;>rfl))) (A0.con1 (A1 0 rfl) (A0.con1 A4u (A0.dropT 1 rfl))) ?_
 rintro pending pendingq pendingk t13 R_ Lt Ft ⟨hm1,hR,hcpending,hlpending,hILt,hp⟩
 refine sr 1 rfl (ip' 1 0 [(14,bv (decide ((t13:Int)<(c0.length:Int))))] ?_)
 refine ie (A7 (I9 rfl (fun h2=>?_) (fun h2=>?_)))
 ·have h2p:(t13:Int)<(c0.length:Int):=by simpa using h2
  rw [A4r 0 (show t13<c0.length by omega)] at hR;replace hR:=(Q0.eq_2 ..).symm.trans hR
  refine A9 (nx (A7 (B2 (sr 2 rfl (ip' 2 0 [(4,iv (t13:Int))] (ie (sr 10 rfl (ip' 1 9 [(17,.slice pendingq pending.length pendingk)] (ix rfl (C4 (v:=sv c0) (us:=[sv c0]) ty9 rfl rfl (A1 0 rfl) rfl) (ip' 1 7 [(19,iv (t13:Int))] (ix rfl (B9f (T:=9) Tryz.underlying9 rfl rfl rfl t13 rfl (by omega)) ?_)))))))))))
  refine zcm (D4c pending (c0.getD t13 0) pendingq pendingk (by first|omega|(simp<;>omega)|(dsimp only;omega)|decide) (by first|omega|(simp<;>omega)|(dsimp only;omega)|decide) (by first|omega|(simp<;>omega)) _ rfl) (A0.cons (A1 1 rfl) fn0) fun ⟨⟨⟨q3,k4⟩,hp5⟩,⟨⟨q8,k9⟩,hp10⟩⟩=>?_
  obtain ⟨hc6,hl7⟩:=hp5
  obtain ⟨hc11,hl12⟩:=hp10
  have:=B8o pending (c0.getD t13 0)
  refine ip' 5 0 [(5,.slice q3 (((J7 pending (c0.getD t13 0)).1).length) k4),(6,.slice q8 (((J7 pending (c0.getD t13 0)).2).length) k9)] (ie (sr 2 rfl (ip' 2 0 [(3,.slice q3 (((J7 pending (c0.getD t13 0)).1).length) k4)] (ie (sr 3 rfl (ip' 3 0 [(25,.slice q8 (((J7 pending (c0.getD t13 0)).2).length) k9),(26,iv (((J7 pending (c0.getD t13 0)).2).length:Int)),(27,iv 0)] (ie (B2 ?_))))))))
  refine B7z (fun (t27:Nat) (R_1:List Int) (Lt1:Fen.Own) (Ft1:List Pers)=>(t27≤((J7 pending (c0.getD t13 0)).2).length∧R7 c0 pending t13 (Q0 c0 (c0.drop (t13+1))) (((J7 pending (c0.getD t13 0)).2).drop t27) t27=R_1∧I R_1 Lt1 Ft1,[(0,.func (.yield l) #[] #[]),(1,pa c0p),(3,.slice q3 (((J7 pending (c0.getD t13 0)).1).length) k4),(12,iv (c0.length:Int)),(13,iv (t13:Int)),(25,.slice q8 (((J7 pending (c0.getD t13 0)).2).length) k9),(26,iv (((J7 pending (c0.getD t13 0)).2).length:Int)),(27,iv (t27:Int))],(Lt1++([])),(sl cU8 q3 ((J7 pending (c0.getD t13 0)).1)::sl I8 q8 ((J7 pending (c0.getD t13 0)).2)::at_ c0p [sv c0]::sl cU8 pendingq pending::Ft1),((J7 pending (c0.getD t13 0)).2).length - t27)) 0 R_ Lt Ft ⟨(by omega),hR,hILt⟩ (mc [Lt] [true] rfl (by first|rfl|(simp only [List.length_set]<;>rfl))) (A0.con1 (A1 0 rfl) (A0.con1 (A1 1 rfl) (A0.con1 (A1 2 rfl) (A0.con1 (A1 3 rfl) (A0.dropT 4 rfl))))) ?_
  rintro t27 R_1 Lt1 Ft1 ⟨hm13,hR,hILt1⟩
  refine sr 1 rfl (ip' 1 0 [(28,bv (decide ((t27:Int)<(((J7 pending (c0.getD t13 0)).2).length:Int))))] ?_)
  refine ie (A7 (I9 rfl (fun h14=>?_) (fun h14=>?_)))
  ·have h14p:(t27:Int)<(((J7 pending (c0.getD t13 0)).2).length:Int):=by simpa using h14
   rw [A4r 0 (show t27<((J7 pending (c0.getD t13 0)).2).length by omega)] at hR;replace hR:=(R7.eq_2 ..).symm.trans hR
   refine A9 (nx (A7 (B2 (sr 3 rfl (P3 1 rfl (by omega) fun a15 hq16=>(ix rfl (N0 L8 rfl rfl hq16 rfl t27 rfl (by omega)) (ix rfl (C4 (v:=iv (((J7 pending (c0.getD t13 0)).2).getD t27 0)) (us:=[iv (((J7 pending (c0.getD t13 0)).2).getD t27 0)]) ty3 rfl rfl (O4 (c:=I8) (sz:=1) hq16 (fun _=>rfl) 1 rfl (gd 0 (by omega))) rfl) (ip' 1 0 [(8,iv (((J7 pending (c0.getD t13 0)).2).getD t27 0))] (ie (sr 4 rfl (ip' 2 2 [(31,.func (.yield l) #[] #[]),(32,iv (((J7 pending (c0.getD t13 0)).2).getD t27 0))] ?_)))))))))))
   have hq22:=B8q hR;clear hR;obtain ⟨R17,hR,hq22⟩:=hq22;rw [hq22] at hILt1
   refine it rfl (A5w (L2:=[]) (hY _ R17 _ _ hILt1) rfl rfl rfl rfl (A0.dropT 4 rfl) (L9 [Lt1] [0] 1 rfl (by decide) rfl [Lt1] rfl (by simp only [List.flatten_cons,List.flatten_nil,List.append_nil,List.cons_append,List.nil_append,List.append_assoc]))) fun ⟨⟨y18,L19,Φ20⟩,hy21⟩=>?_
   refine A9f (A0.yield [sl cU8 q3 ((J7 pending (c0.getD t13 0)).1),sl I8 q8 ((J7 pending (c0.getD t13 0)).2),at_ c0p [sv c0],sl cU8 pendingq pending]) ?_
   refine ip' 1 0 [(34,bv (!y18))] ?_
   refine ie (I9 rfl (fun h23=>?_) (fun h23=>?_))
   ·have h23b:y18=false:=by simpa using h23
    rw [h23b] at hy21;try simp only [if_true,if_false,Bool.false_eq_true] at hy21
    refine B0 ?_
    exact C0c rfl ⟨hr,hD⟩ (by simp [hD]) (B6p rfl) (L':=L19) (Φ':=Φ20) (by exact .inr hy21) (mcT [L19] 0 rfl rfl) (A0.dropT 4 rfl)
   ·have h23b:y18=true:=by simpa using h23
    rw [h23b] at hy21;try simp only [if_true,if_false,Bool.false_eq_true] at hy21
    refine A9 (nx (A3 2 rfl (ix rfl (B6 rfl rfl rfl rfl (by omega)) (ip' 1 0 [(27,iv ((t27:Int)+1))] (A6 ?_)))))
    exact B3p (z1:=t27) (z2:=R_1) (z3:=Lt1) (z4:=Ft1) (t27+1) R17 L19 Φ20 ⟨(by omega),hR,hy21⟩ (by (try dsimp only);omega) (mc [L19] [true] rfl (by first|rfl|(simp only [List.length_set]<;>rfl))) (A0.con1 (A1 0 rfl) (A0.con1 (A1 1 rfl) (A0.con1 (A1 2 rfl) (A0.con1 (A1 3 rfl) (A0.dropT 4 rfl)))))
  have h14p:¬ ((t27:Int)<(((J7 pending (c0.getD t13 0)).2).length:Int)):=by simpa using h14
  rw [A4s h14p] at hR;replace hR:=(R7.eq_1 ..).symm.trans hR
  refine J1 (nx (A3 2 rfl (ix rfl (B6 rfl rfl rfl rfl (by omega)) ?_)))
  refine ip' 1 0 [(13,iv ((t13:Int)+1))] (A6 ?_)
  exact E8x (z1:=pending) (z2:=pendingq) (z3:=pendingk) (z4:=t13) (z5:=R_) (z6:=Lt) (z7:=Ft) ((J7 pending (c0.getD t13 0)).1) q3 k4 (t13+1) R_1 Lt1 Ft1 ⟨(by omega),hR,(by first|omega|(simp<;>omega)|(dsimp only;omega)|decide),(by first|omega|(simp<;>omega)|(dsimp only;omega)|decide),hILt1,(by first|omega|(simp<;>omega))⟩ (by (try dsimp only);omega) (mc [Lt1] [true] rfl (by first|rfl|(simp only [List.length_set]<;>rfl))) (A0.con1 (A1 2 rfl) (A0.con1 (A1 0 rfl) (A0.dropT 4 rfl)))
 have h2p:¬ ((t13:Int)<(c0.length:Int)):=by simpa using h2
 rw [A4s h2p] at hR;replace hR:=(Q0.eq_1 ..).symm.trans hR
 refine J1 (nx (sr 4 rfl (ip' 1 3 [(37,.slice pendingq pending.length pendingk)] ?_)))
 have hs30:=C2h pending
 cases hc29:(decide (0<(pending.length:Int))&&Y1 pending)
 ·replace hR:=bf hR hc29
  replace hs30:=hs30.trans (by rw [hc29];rfl:_=([]:List Int))
  refine zcm (C1f pending pendingq pendingk (by first|omega|(simp<;>omega)|(dsimp only;omega)|decide) (by first|omega|(simp<;>omega)|(dsimp only;omega)|decide) (by first|omega|(simp<;>omega)) ([]:List Int) hs30) (A0.cons (A1 1 rfl) fn0) fun ⟨⟨q24,k25⟩,hp26⟩=>?_
  have:([]:List Int).length=0:=rfl
  refine ip' 2 0 [(39,iv 0),(40,iv 0)] (ie (B2 (A4z 2 ?_)))
  refine G0 (sr 1 rfl (ip' 1 0 [(41,bv false)] ?_))
  subst hR
  refine ie (A7 (A7y rfl (J1 ?_)))
  exact Z4 rfl ⟨hr,hD⟩ (by simp [hD]) (B6p rfl) (L':=Lt) (Φ':=Ft) (by exact .inl hILt) (mcT [Lt] 0 rfl rfl) (A0.dropT 3 rfl)
 ·replace hR:=bt hR hc29
  replace hs30:=hs30.trans (by rw [hc29];rfl:_=([65533]:List Int))
  refine zcm (C1f pending pendingq pendingk (by first|omega|(simp<;>omega)|(dsimp only;omega)|decide) (by first|omega|(simp<;>omega)|(dsimp only;omega)|decide) (by first|omega|(simp<;>omega)) ([65533]:List Int) hs30) (A0.cons (A1 1 rfl) fn0) fun ⟨⟨q24,k25⟩,hp26⟩=>?_
  have:([65533]:List Int).length=1:=rfl
  refine ip' 2 0 [(39,iv 1),(40,iv 0)] (ie (B2 (A4z 3 ?_)))
  refine G0 (sr 1 rfl (ip' 1 0 [(41,bv true)] ?_))
  refine ie (A7 (N5 rfl (A9 (nx (A7 (B2 (sr 3 rfl (P3 0 rfl (by omega) fun a31 hq32=>(ix rfl (N0 L8 rfl rfl hq32 rfl 0 rfl (by omega)) (ix rfl (C4 (v:=iv (([65533]:List Int).getD 0 0)) (us:=[iv (([65533]:List Int).getD 0 0)]) ty3 rfl rfl (O4 (c:=I8) (sz:=1) hq32 (fun _=>rfl) 0 rfl (gd 0 (by omega))) rfl) (ip' 1 0 [(10,iv (([65533]:List Int).getD 0 0))] (ie (A3 3 rfl (ip' 2 1 [(44,.func (.yield l) #[] #[]),(45,iv (([65533]:List Int).getD 0 0))] ?_))))))))))))))
  have hq38:=B8q hR;clear hR;obtain ⟨R33,hR,hq38⟩:=hq38;rw [hq38] at hILt
  refine it rfl (A5w (L2:=[]) (hY _ R33 _ _ hILt) rfl rfl rfl rfl (A0.dropT 3 rfl) (L9 [Lt] [0] 1 rfl (by decide) rfl [Lt] rfl (by simp only [List.flatten_cons,List.flatten_nil,List.append_nil,List.cons_append,List.nil_append,List.append_assoc]))) fun ⟨⟨y34,L35,Φ36⟩,hy37⟩=>?_
  refine A9f (A0.yield [sl I8 q24 ([65533]:List Int),at_ c0p [sv c0],sl cU8 pendingq pending]) ?_
  refine A6 (nx (A3 2 rfl (ix rfl (B6 (c:=1) rfl rfl rfl rfl (by decide)) (ip' 1 0 [(40,iv 1)] (A6 (G0 (sr 1 rfl (ip' 1 0 [(41,bv false)] ?_))))))))
  subst hR
  refine ie (A7 (A7y rfl (J1 ?_)))
  exact Z4 rfl ⟨hr,hD⟩ (by simp [hD]) (B6p rfl) (L':=L35) (Φ':=Φ36) (by cases y34<;>first|exact .inr (by simpa using hy37)|exact .inl (by simpa using hy37)) (mcT [L35] 0 rfl rfl) (A0.dropT 3 rfl)
def Z6:List Int→List Int→List Int
 | [],l=>l
 | el::rest,l=>Z6 rest (l++([el]:List Int))
def A7l (s:List UInt8):List Int :=
 Z6 (B0s (A6j s)) ([]:List Int)
theorem A8r:∀ (rem l:List Int),Z6 rem l=l++rem
 | [],l=>by simp [Z6]
 | x::r,l=>by simp [Z6,A8r r]
theorem C6n (s:List UInt8):(A7l s).length≤2 * s.length+1:=by
 have:=B5o s
 simpa [A7l,A8r,A6j] using this
theorem D1a (s:List UInt8) (hp:s.length≤1000000000) (R:List Int) (hR:A7l s=R):Con Tryz.prog 201 [sv s] [] [] ({t:Option Addr×Nat // R.length≤t.2∧R.length≤9223372036854775807}) (fun x=>.slice x.1.1 R.length x.1.2) (fun x=>[]) (fun x=>[sl I8 x.1.1 R]):=by
 refine zco Tryz.func201 [(0,sv s)] fun X hX hr hD=>?_
 replace hR:=(A7l.eq_1 ..).symm.trans hR
 refine sr 1 rfl (P1 1 0 [] (fun b1=>[(2,pt b1 0)]) (fun b1=>[bx b1 [.slice none 0 0] 111]) (fun b1=>(ie (A7 (sr 2 rfl (ip' 1 1 [(4,sv s)] ?_))))))
 refine zcm (D3o s _ rfl) fn0 fun b2=>?_
 refine ie (B2 (A2r (L9 [vo I8 3 VR.nil ([]:List Int),[bx b1 [.slice none 0 0] 111]] [1,0] 2 rfl (by decide) rfl [[bx b1 [.slice none 0 0] 111],vo I8 3 VR.nil ([]:List Int)] rfl (by first|rfl|simp)) ?_))
 refine D0w [(2,pt b1 0),(5,.func (.func 231) #[] #[pa b2])] ⟨rfl,rfl,trivial⟩ ?_
 refine E2n (β:=Int) (enc:=(fun x=>iv x)) (xs:=(B0s (A6j s))) (σ:=List Int×VR) hr rfl (C9x (A6j s) b2 (by first|omega|(simp only [A6j];omega)) _ rfl) A0.refl rfl rfl (fun rem x=>Z6 rem x.1=R∧VOk 1 x.1.length x.2∧x.1.length+rem.length≤2 * s.length+1) (fun _ _=>False) (fun x=>(bx b1 [.slice (va x.2.q) x.1.length x.2.k] 111::(vo I8 3 x.2 x.1)++([]))) (fun x=>[at_ b2 [sv (A6j s)]]) (([]:List Int),VR.nil) (by exact ⟨hR,VOk.nil,(by simp only [List.length_nil,Nat.zero_add];exact B5o s)⟩) (mc [[bx b1 [.slice none 0 0] 111],vo I8 3 VR.nil ([]:List Int)] [true,true] rfl (by first|rfl|(simp only [List.length_set]<;>rfl))) A0.refl ?_ ?_ (fun _ _ _ _ h=>h.elim)
 ·rintro el rest ⟨l,lr⟩ hI Y Y' K' hY' hK
  try dsimp only at hI
  obtain ⟨hR,hoklr,hg⟩:=hI
  replace hR:=(Z6.eq_2 ..).symm.trans hR
  have:=VOk.le hoklr
  refine A3 1 rfl (ip' 1 0 [(3,iv el)] (A6 (hK _ _ _ ?_)))
  refine B2 (A3 5 rfl (zrl 2 3 [0] [(7,.slice (va lr.q) l.length lr.k),(8,iv el)] ?_))
  refine it rfl (B3 (c:=I8) (xs:=([el]:List Int)) L8 rfl rfl rfl (by kernel_rfl)) fun b4=>?_
  have:([el]:List Int).length=1:=rfl
  refine it rfl (B2g (f:=I8) (r:=lr) (xs:=l) (ys:=([el]:List Int)) (pre:=[bx b1 [.slice (va lr.q) l.length lr.k] 111]) (post:=[]) D9d (fun _=>rfl) (fun _=>rfl) rfl rfl rfl rfl rfl rfl rfl rfl rfl (A1 0 rfl) hoklr (by first|omega|(simp<;>omega)) (by first|omega|(simp<;>omega))) fun ⟨r5,hr6⟩=>?_
  have:=VOk.le hr6
  have:=VOk.cap hr6
  refine zrg 1 0 [0] [] (bx b1 [.slice (va r5.q) ((l++([el]:List Int)).length) r5.k] 111::(vo I8 3 r5 (l++([el]:List Int)))++([])) (A6 ?_)
  exact A9s (I:=fun rem x=>Z6 rem x.1=R∧VOk 1 x.1.length x.2∧x.1.length+rem.length≤2 * s.length+1) (Jx:=fun _ _=>False) (Lk:=fun x=>(bx b1 [.slice (va x.2.q) x.1.length x.2.k] 111::(vo I8 3 x.2 x.1)++([]))) (Φk:=fun x=>[at_ b2 [sv (A6j s)]]) (rest:=rest) ((l++([el]:List Int)),r5) (by exact ⟨hR,hr6,(by simp only [List.length_cons,List.length_append,List.length_nil] at *;omega)⟩) (mc [[bx b1 [.slice (va r5.q) ((l++([el]:List Int)).length) r5.k] 111],vo I8 3 r5 (l++([el]:List Int))] [true,true] rfl (by first|rfl|(simp only [List.length_set]<;>rfl))) (A0.pick [1] rfl)
 ·rintro d7 ⟨l,lr⟩ hd7 hI
  try dsimp only at hI
  obtain ⟨hR,hoklr,hg⟩:=hI
  replace hR:=(Z6.eq_1 ..).symm.trans hR
  have:=VOk.le hoklr
  refine nx (sr 2 rfl (zrg 2 0 [0,0] [] (bx b1 [.slice (va lr.q) l.length lr.k] 111::(vo I8 3 lr l)++([])) (ie (B0 (E2v [bx b1 [.slice (va lr.q) l.length lr.k] 111] [] (T:=3) (c:=I8) (r:=lr) (xs:=l) hoklr (by first|rfl|simp) ?_)))))
  have:=VOk.cap hoklr
  subst hR
  exact B4n rfl ⟨hr,hD⟩ (by exact (V6.cons (show V6 X.D by rw [hD];exact V6.nil) hd7)) (O3 rfl (D3u (v:=.slice (va lr.q) l.length lr.k) E1i rfl 0 rfl rfl)) (zq (va lr.q) lr.k) (by rfl) (mk [false] rfl) (A0.con1 (A1 0 rfl) fn0)
def Y0 (is:Bool):Option Unit :=
 (bif (!is) then none else (some ()))
theorem S5 {b:Bool} {r:Unit} (h:Y0 b=some r):b=true:=by cases b with | true=>rfl | false=>cases h
theorem A2t (is:Bool) (R:Option Unit) (hR:Y0 is=R):B8s Tryz.prog 121 [bv is] [] [] A0i R (fun r=>.tuple #[]):=by
 refine A4n (n:=6) Tryz.func121 rfl (by kernel_rfl) rfl rfl [(0,bv is)] ⟨rfl,trivial⟩ fun X hX hr hD=>?_
 replace hR:=(Y0.eq_1 ..).symm.trans hR
 refine sr 2 rfl (ip' 2 0 [(3,bv (!is))] (ie ?_))
 refine zjb rfl hR ?_ ?_<;>clear hR<;>intro hR h1
 ·refine A3 3 rfl (zrl 1 2 [] [(4,ag [])] (ix rfl (D6u Tryz.underlying238 rfl rfl rfl) ?_))
  refine D8r rfl rfl rfl ?_
  exact N9 ⟨hr,hD⟩ hR.symm
 refine A9 ?_
 exact B3u rfl ⟨hr,hD⟩ (by simp [hD]) (B6p rfl) hR.symm rfl
def A1d:List Int→Nat→Option Unit
 | [],t19=>(some ())
 | hd_l0::tl_l0,t19=>(Option.bind (Y0 ((decide ((32:Int)≤hd_l0))&&((decide (hd_l0<127))||(decide ((159:Int)<hd_l0))))) fun (r1:Unit)=>A1d tl_l0 (t19+1))
def A7g (s:List UInt8):Option Unit :=
 (B5 (A7l s) fun (y0:List Int)=>(Option.bind (Y0 ((decide ((s.length:Int)≤510))&&(decide ((B0e y0)=s)))) fun (r:Unit)=>A1d y0 0))
theorem D1k (s:List UInt8) (hs:s.length≤100000000) (R:Option Unit) (hR:A7g s=R):B8s Tryz.prog 175 [sv s] [] [] A0i R (fun r=>.tuple #[]):=by
 refine A4n (n:=35) Tryz.func175 rfl (by kernel_rfl) rfl rfl [(0,sv s)] ⟨rfl,trivial⟩ fun X hX hr hD=>?_
 replace hR:=(A7g.eq_1 ..).symm.trans hR
 refine sr 3 rfl (ip' 1 2 [(5,sv s)] ?_)
 have hQ:=C9 hR;clear hR;obtain ⟨y0,hy0,hR⟩:=hQ
 refine zcm (D1a s (by first|omega|(simp<;>omega)) y0 hy0) fn0 fun ⟨⟨q1,k2⟩,hp3⟩=>?_
 obtain ⟨hc4,hl5⟩:=hp3
 have:=C6n s;try rw [hy0] at this
 refine ip' 1 0 [(2,.slice q1 y0.length k2)] (ie (sr 10 rfl (ip' 4 6 [(10,bv (decide ((s.length:Int)≤510)))] ?_)))
 refine zid 5 1 10 15 (decide ((B0e y0)=s)) (fun g6 g6p=>?_) ?_
 ·refine ip' 1 4 [(11,.slice q1 y0.length k2)] (zca (D4b y0 q1 k2 (by first|omega|(simp<;>omega)|(dsimp only;omega)|decide) (by first|omega|(simp<;>omega)|(dsimp only;omega)|decide) (by first|omega|(simp<;>omega)) _ rfl) A0.refl (ip' 1 2 [(13,sv s)] (ix rfl (D0i rfl rfl rfl) (ip' 1 0 [(15,bv (decide ((B0e y0)=s)))] ?_))))
  exact zai 6 10 15 g6
 refine Y9 (L2:=[]) (A2t ((decide ((s.length:Int)≤510))&&(decide ((B0e y0)=s))) _ rfl) rfl rfl rfl rfl rfl rfl fn0 (List.Perm.refl _) (fun r hs7=>?_) (fun hn8=>?_)
 ·replace hR:=A9b hR hs7
  have hmu:=S5 hs7;try simp only [Bool.and_eq_true,decide_eq_true_eq] at hmu
  refine ie (sr 3 rfl (ip' 3 0 [(17,.slice q1 y0.length k2),(18,iv (y0.length:Int)),(19,iv 0)] (ie (B2 (D1m (fun (t19:Nat)=>(t19≤y0.length∧A1d (y0.drop t19) t19=R,[(17,.slice q1 y0.length k2),(18,iv (y0.length:Int)),(19,iv (t19:Int))],[],[sl I8 q1 y0],y0.length - t19)) 0 ⟨(by omega),hR⟩ (mk [] rfl) A0.refl ?_)))))
  rintro t19 ⟨hm9,hR⟩
  refine sr 1 rfl (ip' 1 0 [(20,bv (decide ((t19:Int)<(y0.length:Int))))] ?_)
  refine ie (A7 (I9 rfl (fun h10=>?_) (fun h10=>?_)))
  ·have h10p:(t19:Int)<(y0.length:Int):=by simpa using h10
   rw [A4r 0 (show t19<y0.length by omega)] at hR;replace hR:=(A1d.eq_2 ..).symm.trans hR
   refine A9 (nx (A7 (B2 (sr 3 rfl (P3 0 rfl (by omega) fun a11 hq12=>(ix rfl (N0 L8 rfl rfl hq12 rfl t19 rfl (by omega)) (ix rfl (C4 (v:=iv (y0.getD t19 0)) (us:=[iv (y0.getD t19 0)]) ty3 rfl rfl (O4 (c:=I8) (sz:=1) hq12 (fun _=>rfl) 0 rfl (gd 0 (by omega))) rfl) (ip' 1 0 [(4,iv (y0.getD t19 0))] (ie (A3 11 rfl (ip' 3 8 [(25,bv (decide ((32:Int)≤(y0.getD t19 0))))] ?_)))))))))))
   refine zid 7 1 25 32 ((decide ((y0.getD t19 0)<127))||(decide ((159:Int)<(y0.getD t19 0)))) (fun g13 g13p=>?_) ?_
   ·refine ip' 3 4 [(28,bv (decide ((y0.getD t19 0)<127)))] ?_
    refine zir 3 1 28 31 (decide ((159:Int)<(y0.getD t19 0))) (fun g14 g14p=>?_) ?_
    ·refine ip' 3 0 [(31,bv (decide ((159:Int)<(y0.getD t19 0))))] ?_
     exact zai 2 28 31 g14
    refine ip' 1 0 [(32,bv ((decide ((y0.getD t19 0)<127))||(decide ((159:Int)<(y0.getD t19 0)))))] ?_
    exact zai 4 25 32 g13
   refine Y9 (L2:=[]) (A2t ((decide ((32:Int)≤(y0.getD t19 0)))&&((decide ((y0.getD t19 0)<127))||(decide ((159:Int)<(y0.getD t19 0))))) _ rfl) rfl rfl rfl rfl rfl rfl fn0 (List.Perm.refl _) (fun r1 hs15=>?_) (fun hn16=>?_)
   ·replace hR:=A9b hR hs15
    have hmu:=S5 hs15;try simp only [Bool.and_eq_true,decide_eq_true_eq] at hmu
    refine A6 (nx (A3 2 rfl (ix rfl (B6 rfl rfl rfl rfl (by omega)) (ip' 1 0 [(19,iv ((t19:Int)+1))] (A6 ?_)))))
    exact D0x (z1:=t19) (t19+1) ⟨(by omega),hR⟩ (by (try dsimp only);omega) (mk [] rfl) A0.refl
   ·replace hR:=A9a hR hn16
    exact N9 ⟨hr,hD⟩ hR.symm
  have h10p:¬ ((t19:Int)<(y0.length:Int)):=by simpa using h10
  rw [A4s h10p] at hR;replace hR:=(A1d.eq_1 ..).symm.trans hR
  refine J1 ?_
  exact B3u rfl ⟨hr,hD⟩ (by simp [hD]) (B6p rfl) hR.symm rfl
 ·replace hR:=A9a hR hn8
  exact N9 ⟨hr,hD⟩ hR.symm
def A7j (a:Act) (want:Act):Option Unit :=
 (Option.bind (Y0 (decide (a=want))) fun (r:Unit)=>(some ()))
theorem B5t (a:Act) (want:Act) (R:Option Unit) (hR:A7j a want=R):B8s Tryz.prog 174 [ag (A5 a),ag (A5 want)] [] [] A0i R (fun r=>.tuple #[]):=by
 refine A4n (n:=8) Tryz.func174 rfl (by kernel_rfl) rfl rfl [(0,ag (A5 a)),(1,ag (A5 want))] ⟨rfl,rfl,trivial⟩ fun X hX hr hD=>?_
 replace hR:=(A7j.eq_1 ..).symm.trans hR
 refine sr 2 rfl (B9z 2 0 [] (fun b1 b2=>[(2,pt b1 0),(3,pt b2 0)]) (fun b1 b2=>[bx b2 (A5 want) 26,bx b1 (A5 a) 26]) (fun b1 b2=>(ie (A3 4 rfl (zrl 2 2 [1,0] [(4,ag (A5 a)),(5,ag (A5 want))] (ix rfl (D6j (a:=a) (b:=want) D9a rfl rfl rfl) ?_))))))
 refine Y9 (L2:=[bx b2 (A5 want) 26,bx b1 (A5 a) 26]) (A2t (decide (a=want)) _ rfl) rfl rfl rfl rfl rfl rfl fn0 (List.Perm.refl _) (fun r hs3=>?_) (fun hn4=>?_)
 ·replace hR:=A9b hR hs3
  have hmu:=S5 hs3;try simp only [Bool.and_eq_true,decide_eq_true_eq] at hmu
  refine A6 ?_
  exact B3u rfl ⟨hr,hD⟩ (by simp [hD]) (B6p rfl) hR.symm rfl
 ·replace hR:=A9a hR hn4
  exact N9 ⟨hr,hD⟩ hR.symm
def A6v (a:Act):Option (List UInt8) :=
 (Option.bind (A7j a ({Act.zero with kind:=a.kind,text:=a.text})) fun (r:Unit)=>(Option.bind (A7g a.text) fun (r1:Unit)=>(some (([50,59]:List UInt8)++a.text))))
theorem C4c (a:Act) (hs:a.text.length≤100000000) (R:Option (List UInt8)) (hR:A6v a=R):B8s Tryz.prog 173 [ag (A5 a)] [] [] A0i R (fun r=>sv r):=by
 refine A4n (n:=16) Tryz.func173 rfl (by kernel_rfl) rfl rfl [(0,ag (A5 a))] ⟨rfl,trivial⟩ fun X hX hr hD=>?_
 replace hR:=(A6v.eq_1 ..).symm.trans hR
 refine sr 2 rfl (P1 2 0 [] (fun b1=>[(1,pt b1 0)]) (fun b1=>[bx b1 (A5 a) 26]) (fun b1=>(ie (sr 7 rfl (zrl 6 1 [0,0,0] [(3,ag (A5 a)),(8,ag (A5 ({Act.zero with kind:=a.kind,text:=a.text})))] ?_)))))
 refine Y9 (L2:=[bx b1 (A5 a) 26]) (B5t a ({Act.zero with kind:=a.kind,text:=a.text}) _ rfl) rfl rfl rfl rfl rfl rfl fn0 (List.Perm.refl _) (fun r hs2=>?_) (fun hn3=>?_)
 ·replace hR:=A9b hR hs2
  refine ie (sr 3 rfl (zrl 2 1 [0] [(11,sv a.text)] ?_))
  refine Y9 (L2:=[bx b1 (A5 a) 26]) (D1k a.text (by first|omega|(simp<;>omega)) _ rfl) rfl rfl rfl rfl rfl rfl fn0 (List.Perm.refl _) (fun r1 hs4=>?_) (fun hn5=>?_)
  ·replace hR:=A9b hR hs4
   refine ie (sr 4 rfl (zrl 2 2 [0] [(14,sv a.text)] (ix rfl (zst rfl rfl rfl) (ip' 1 0 [(2,sv (([50,59]:List UInt8)++a.text))] (ie (B0 ?_))))))
   exact A9p rfl ⟨hr,hD⟩ (by simp [hD]) (O3 rfl (B8 rfl)) hR.symm rfl
  ·replace hR:=A9a hR hn5
   exact N9 ⟨hr,hD⟩ hR.symm
 ·replace hR:=A9a hR hn3
  exact N9 ⟨hr,hD⟩ hR.symm
end Go.Proofs.YtanighkpfmgnbaaGreatDoor
set_option linter.unusedVariables false
set_option linter.unusedSimpArgs false
set_option linter.unnecessarySimpa false
set_option maxRecDepth 100000
namespace Go.Proofs.YtanighkpfmgnbaaGreatDoor
open Go Go.Fen
theorem B2w:EqT Tryz.prog 24 R8:=EqT.of 20 rfl (by kernel_rfl) (by kernel_rfl) (fun _ _=>by kernel_rfl) R8.inj
theorem B1y:MapTy Tryz.prog 192 3 190 (.int .i64):=⟨by kernel_rfl,by kernel_rfl,rfl⟩
theorem ty4:Ty Tryz.prog 4 1 false:=⟨by kernel_rfl⟩
theorem B4g:Ty Tryz.prog 24 2 true:=⟨by kernel_rfl⟩
theorem A4y:Ty Tryz.prog 132 1 false:=⟨by kernel_rfl⟩
theorem C7s:Ty Tryz.prog 190 3 true:=⟨by kernel_rfl⟩
theorem E8c:Ty Tryz.prog 205 3 true:=⟨by kernel_rfl⟩
theorem C7y:Zero Tryz.prog 190 [.nilFunc,bv false,.nilFunc]:=⟨by kernel_rfl⟩
def O1:Bool :=
 true
theorem C3j (R:Bool) (hR:O1=R):Con Tryz.prog 159 [.func (.func 169) #[] #[]] [] [] (Nat) (fun x=>ag [.func (.func 160) #[] #[],bv R,.func (.func 161) #[] #[pt x 0]]) (fun x=>[bx x [.func (.func 169) #[] #[]] 233]) (fun x=>[]):=by
 refine zco Tryz.func159 [(0,.func (.func 169) #[] #[])] fun X hX hr hD=>?_
 replace hR:=(O1.eq_1 ..).symm.trans hR
 refine sr 2 rfl (B9z 2 0 [] (fun b1 b2=>[(1,pt b1 0),(2,pt b2 0)]) (fun b1 b2=>[bx b2 [.nilFunc,bv false,.nilFunc] 190,bx b1 [.func (.func 169) #[] #[]] 233]) (fun b1 b2=>(ie (sr 3 rfl (zrg 3 0 [0] [] [bx b2 [.func (.func 160) #[] #[],bv true,.func (.func 161) #[] #[pt b1 0]] 190,bx b1 [.func (.func 169) #[] #[]] 233] ?_)))))
 subst hR
 refine ie (B0 ?_)
 exact zer hr hD (O3 rfl (G3 (us:=[.func (.func 160) #[] #[],bv true,.func (.func 161) #[] #[pt b1 0]]) C7s rfl 0 rfl rfl rfl)) b1 (mk [false,true] rfl) fn0
def O5:Bool :=
 true
theorem C2f (R:Bool) (hR:O5=R):Con Tryz.prog 159 [.func (.func 170) #[] #[]] [] [] (Nat) (fun x=>ag [.func (.func 160) #[] #[],bv R,.func (.func 161) #[] #[pt x 0]]) (fun x=>[bx x [.func (.func 170) #[] #[]] 233]) (fun x=>[]):=by
 refine zco Tryz.func159 [(0,.func (.func 170) #[] #[])] fun X hX hr hD=>?_
 replace hR:=(O5.eq_1 ..).symm.trans hR
 refine sr 2 rfl (B9z 2 0 [] (fun b1 b2=>[(1,pt b1 0),(2,pt b2 0)]) (fun b1 b2=>[bx b2 [.nilFunc,bv false,.nilFunc] 190,bx b1 [.func (.func 170) #[] #[]] 233]) (fun b1 b2=>(ie (sr 3 rfl (zrg 3 0 [0] [] [bx b2 [.func (.func 160) #[] #[],bv true,.func (.func 161) #[] #[pt b1 0]] 190,bx b1 [.func (.func 170) #[] #[]] 233] ?_)))))
 subst hR
 refine ie (B0 ?_)
 exact zer hr hD (O3 rfl (G3 (us:=[.func (.func 160) #[] #[],bv true,.func (.func 161) #[] #[pt b1 0]]) C7s rfl 0 rfl rfl rfl)) b1 (mk [false,true] rfl) fn0
def R9:Bool :=
 true
theorem C2r (R:Bool) (hR:R9=R):Con Tryz.prog 159 [.func (.func 171) #[] #[]] [] [] (Nat) (fun x=>ag [.func (.func 160) #[] #[],bv R,.func (.func 161) #[] #[pt x 0]]) (fun x=>[bx x [.func (.func 171) #[] #[]] 233]) (fun x=>[]):=by
 refine zco Tryz.func159 [(0,.func (.func 171) #[] #[])] fun X hX hr hD=>?_
 replace hR:=(R9.eq_1 ..).symm.trans hR
 refine sr 2 rfl (B9z 2 0 [] (fun b1 b2=>[(1,pt b1 0),(2,pt b2 0)]) (fun b1 b2=>[bx b2 [.nilFunc,bv false,.nilFunc] 190,bx b1 [.func (.func 171) #[] #[]] 233]) (fun b1 b2=>(ie (sr 3 rfl (zrg 3 0 [0] [] [bx b2 [.func (.func 160) #[] #[],bv true,.func (.func 161) #[] #[pt b1 0]] 190,bx b1 [.func (.func 171) #[] #[]] 233] ?_)))))
 subst hR
 refine ie (B0 ?_)
 exact zer hr hD (O3 rfl (G3 (us:=[.func (.func 160) #[] #[],bv true,.func (.func 161) #[] #[pt b1 0]]) C7s rfl 0 rfl rfl rfl)) b1 (mk [false,true] rfl) fn0
def C3n:Unit :=
 ()
theorem B9n (R:Unit) (hR:C3n=R):Con Tryz.prog 117 [] [] [] (Nat×Nat×Nat×Nat) (fun x=>.map (some x.1)) (fun x=>[(x.1,.map #[⟨iv 0,ag [.func (.func 160) #[] #[],bv false,.func (.func 162) #[] #[]],0⟩,⟨iv 1,ag [.func (.func 163) #[] #[],bv false,.func (.func 164) #[] #[]],1⟩,⟨iv 2,ag [.func (.func 165) #[] #[],bv false,.func (.func 166) #[] #[]],2⟩,⟨iv 3,ag [.func (.func 167) #[] #[],bv false,.func (.func 168) #[] #[]],3⟩,⟨iv 4,ag [.func (.func 160) #[] #[],bv O1,.func (.func 161) #[] #[pt x.2.1 0]],4⟩,⟨iv 5,ag [.func (.func 160) #[] #[],bv O5,.func (.func 161) #[] #[pt x.2.2.1 0]],5⟩,⟨iv 6,ag [.func (.func 160) #[] #[],bv R9,.func (.func 161) #[] #[pt x.2.2.2 0]],6⟩] 7),bx x.2.1 [.func (.func 169) #[] #[]] 233,bx x.2.2.1 [.func (.func 170) #[] #[]] 233,bx x.2.2.2 [.func (.func 171) #[] #[]] 233]) (fun x=>[]):=by
 refine zco Tryz.func117 [] fun X hX hr hD=>?_
 replace hR:=(C3n.eq_1 ..).symm.trans hR
 refine sr 1 rfl (ip' 1 0 [] (ie (sr 1 rfl (ip' 1 0 [(1,.func (.func 159) #[] #[])] (ie (sr 20 rfl (it rfl (B1o rfl) fun b1=>(zrl 1 18 [] [(3,ag [.func (.func 160) #[] #[],bv false,.func (.func 162) #[] #[]])] (it rfl (D6 B1y (.inl rfl) rfl rfl rfl 0 rfl (by kernel_rfl) rfl) fun _=>?_)))))))))
 refine zrl 1 16 [] [(4,ag [.func (.func 163) #[] #[],bv false,.func (.func 164) #[] #[]])] (it rfl (D6 B1y (.inl rfl) rfl rfl rfl 0 rfl (by kernel_rfl) rfl) fun _=>?_)
 refine zrl 1 14 [] [(5,ag [.func (.func 165) #[] #[],bv false,.func (.func 166) #[] #[]])] (it rfl (D6 B1y (.inl rfl) rfl rfl rfl 0 rfl (by kernel_rfl) rfl) fun _=>?_)
 refine zrl 1 12 [] [(6,ag [.func (.func 167) #[] #[],bv false,.func (.func 168) #[] #[]])] (it rfl (D6 B1y (.inl rfl) rfl rfl rfl 0 rfl (by kernel_rfl) rfl) fun _=>?_)
 refine ip' 1 10 [(7,.func (.func 159) #[] #[])] (it rfl (C2 (L2:=[(b1,.map #[⟨iv 0,ag [.func (.func 160) #[] #[],bv false,.func (.func 162) #[] #[]],0⟩,⟨iv 1,ag [.func (.func 163) #[] #[],bv false,.func (.func 164) #[] #[]],1⟩,⟨iv 2,ag [.func (.func 165) #[] #[],bv false,.func (.func 166) #[] #[]],2⟩,⟨iv 3,ag [.func (.func 167) #[] #[],bv false,.func (.func 168) #[] #[]],3⟩] 4)]) (C3j _ rfl) rfl rfl rfl rfl rfl fn0 (List.Perm.refl _) (fun b2=>[bx b2 [.func (.func 169) #[] #[]] 233,(b1,.map #[⟨iv 0,ag [.func (.func 160) #[] #[],bv false,.func (.func 162) #[] #[]],0⟩,⟨iv 1,ag [.func (.func 163) #[] #[],bv false,.func (.func 164) #[] #[]],1⟩,⟨iv 2,ag [.func (.func 165) #[] #[],bv false,.func (.func 166) #[] #[]],2⟩,⟨iv 3,ag [.func (.func 167) #[] #[],bv false,.func (.func 168) #[] #[]],3⟩] 4)]) (fun _=>rfl)) fun b2=>?_)
 refine it rfl (D6 B1y (.inl rfl) rfl rfl rfl 1 rfl (by kernel_rfl) rfl) fun _=>?_
 refine ip' 1 7 [(9,.func (.func 159) #[] #[])] (it rfl (C2 (L2:=[bx b2 [.func (.func 169) #[] #[]] 233,(b1,.map #[⟨iv 0,ag [.func (.func 160) #[] #[],bv false,.func (.func 162) #[] #[]],0⟩,⟨iv 1,ag [.func (.func 163) #[] #[],bv false,.func (.func 164) #[] #[]],1⟩,⟨iv 2,ag [.func (.func 165) #[] #[],bv false,.func (.func 166) #[] #[]],2⟩,⟨iv 3,ag [.func (.func 167) #[] #[],bv false,.func (.func 168) #[] #[]],3⟩,⟨iv 4,ag [.func (.func 160) #[] #[],bv O1,.func (.func 161) #[] #[pt b2 0]],4⟩] 5)]) (C2f _ rfl) rfl rfl rfl rfl rfl fn0 (List.Perm.refl _) (fun b3=>[bx b3 [.func (.func 170) #[] #[]] 233,bx b2 [.func (.func 169) #[] #[]] 233,(b1,.map #[⟨iv 0,ag [.func (.func 160) #[] #[],bv false,.func (.func 162) #[] #[]],0⟩,⟨iv 1,ag [.func (.func 163) #[] #[],bv false,.func (.func 164) #[] #[]],1⟩,⟨iv 2,ag [.func (.func 165) #[] #[],bv false,.func (.func 166) #[] #[]],2⟩,⟨iv 3,ag [.func (.func 167) #[] #[],bv false,.func (.func 168) #[] #[]],3⟩,⟨iv 4,ag [.func (.func 160) #[] #[],bv O1,.func (.func 161) #[] #[pt b2 0]],4⟩] 5)]) (fun _=>rfl)) fun b3=>?_)
 refine it rfl (D6 B1y (.inl rfl) rfl rfl rfl 2 rfl (by kernel_rfl) rfl) fun _=>?_
 refine ip' 1 4 [(11,.func (.func 159) #[] #[])] (it rfl (C2 (L2:=[bx b3 [.func (.func 170) #[] #[]] 233,bx b2 [.func (.func 169) #[] #[]] 233,(b1,.map #[⟨iv 0,ag [.func (.func 160) #[] #[],bv false,.func (.func 162) #[] #[]],0⟩,⟨iv 1,ag [.func (.func 163) #[] #[],bv false,.func (.func 164) #[] #[]],1⟩,⟨iv 2,ag [.func (.func 165) #[] #[],bv false,.func (.func 166) #[] #[]],2⟩,⟨iv 3,ag [.func (.func 167) #[] #[],bv false,.func (.func 168) #[] #[]],3⟩,⟨iv 4,ag [.func (.func 160) #[] #[],bv O1,.func (.func 161) #[] #[pt b2 0]],4⟩,⟨iv 5,ag [.func (.func 160) #[] #[],bv O5,.func (.func 161) #[] #[pt b3 0]],5⟩] 6)]) (C2r _ rfl) rfl rfl rfl rfl rfl fn0 (List.Perm.refl _) (fun b4=>[bx b4 [.func (.func 171) #[] #[]] 233,bx b3 [.func (.func 170) #[] #[]] 233,bx b2 [.func (.func 169) #[] #[]] 233,(b1,.map #[⟨iv 0,ag [.func (.func 160) #[] #[],bv false,.func (.func 162) #[] #[]],0⟩,⟨iv 1,ag [.func (.func 163) #[] #[],bv false,.func (.func 164) #[] #[]],1⟩,⟨iv 2,ag [.func (.func 165) #[] #[],bv false,.func (.func 166) #[] #[]],2⟩,⟨iv 3,ag [.func (.func 167) #[] #[],bv false,.func (.func 168) #[] #[]],3⟩,⟨iv 4,ag [.func (.func 160) #[] #[],bv O1,.func (.func 161) #[] #[pt b2 0]],4⟩,⟨iv 5,ag [.func (.func 160) #[] #[],bv O5,.func (.func 161) #[] #[pt b3 0]],5⟩] 6)]) (fun _=>rfl)) fun b4=>?_)
 refine it rfl (D6 B1y (.inl rfl) rfl rfl rfl 3 rfl (by kernel_rfl) rfl) fun _=>?_
 refine ip' 2 0 [(0,.map (some b1))] ?_
 subst hR
 refine ie (B0 (A2r (L9 [[bx b4 [.func (.func 171) #[] #[]] 233],[bx b3 [.func (.func 170) #[] #[]] 233],[bx b2 [.func (.func 169) #[] #[]] 233],[(b1,.map #[⟨iv 0,ag [.func (.func 160) #[] #[],bv false,.func (.func 162) #[] #[]],0⟩,⟨iv 1,ag [.func (.func 163) #[] #[],bv false,.func (.func 164) #[] #[]],1⟩,⟨iv 2,ag [.func (.func 165) #[] #[],bv false,.func (.func 166) #[] #[]],2⟩,⟨iv 3,ag [.func (.func 167) #[] #[],bv false,.func (.func 168) #[] #[]],3⟩,⟨iv 4,ag [.func (.func 160) #[] #[],bv O1,.func (.func 161) #[] #[pt b2 0]],4⟩,⟨iv 5,ag [.func (.func 160) #[] #[],bv O5,.func (.func 161) #[] #[pt b3 0]],5⟩,⟨iv 6,ag [.func (.func 160) #[] #[],bv R9,.func (.func 161) #[] #[pt b4 0]],6⟩] 7)]] [3,2,1,0] 4 rfl (by decide) rfl [[(b1,.map #[⟨iv 0,ag [.func (.func 160) #[] #[],bv false,.func (.func 162) #[] #[]],0⟩,⟨iv 1,ag [.func (.func 163) #[] #[],bv false,.func (.func 164) #[] #[]],1⟩,⟨iv 2,ag [.func (.func 165) #[] #[],bv false,.func (.func 166) #[] #[]],2⟩,⟨iv 3,ag [.func (.func 167) #[] #[],bv false,.func (.func 168) #[] #[]],3⟩,⟨iv 4,ag [.func (.func 160) #[] #[],bv O1,.func (.func 161) #[] #[pt b2 0]],4⟩,⟨iv 5,ag [.func (.func 160) #[] #[],bv O5,.func (.func 161) #[] #[pt b3 0]],5⟩,⟨iv 6,ag [.func (.func 160) #[] #[],bv R9,.func (.func 161) #[] #[pt b4 0]],6⟩] 7)],[bx b2 [.func (.func 169) #[] #[]] 233],[bx b3 [.func (.func 170) #[] #[]] 233],[bx b4 [.func (.func 171) #[] #[]] 233]] rfl (by first|rfl|simp)) ?_))
 exact zer hr hD (O3 rfl (B8 rfl)) (b1,b2,b3,b4) (mk [true,true,true,true] rfl) fn0
def C7o (z0:Nat) (z1:Nat) (z2:Nat):List (Int×Value):=[(0,ag [.func (.func 160) #[] #[],bv false,.func (.func 162) #[] #[]]),(1,ag [.func (.func 163) #[] #[],bv false,.func (.func 164) #[] #[]]),(2,ag [.func (.func 165) #[] #[],bv false,.func (.func 166) #[] #[]]),(3,ag [.func (.func 167) #[] #[],bv false,.func (.func 168) #[] #[]]),(4,ag [.func (.func 160) #[] #[],bv O1,.func (.func 161) #[] #[pt z0 0]]),(5,ag [.func (.func 160) #[] #[],bv O5,.func (.func 161) #[] #[pt z1 0]]),(6,ag [.func (.func 160) #[] #[],bv R9,.func (.func 161) #[] #[pt z2 0]])]
def N1:List (Int×Value):=[(0,.func (.func 160) #[] #[]),(1,.func (.func 163) #[] #[]),(2,.func (.func 165) #[] #[]),(3,.func (.func 167) #[] #[]),(4,.func (.func 160) #[] #[]),(5,.func (.func 160) #[] #[]),(6,.func (.func 160) #[] #[])]
def X4:List (Int×Bool):=[(0,false),(1,false),(2,false),(3,false),(4,O1),(5,O5),(6,R9)]
def A6s (z0:Nat) (z1:Nat) (z2:Nat):List (Int×Value):=[(0,.func (.func 162) #[] #[]),(1,.func (.func 164) #[] #[]),(2,.func (.func 166) #[] #[]),(3,.func (.func 168) #[] #[]),(4,.func (.func 161) #[] #[pt z0 0]),(5,.func (.func 161) #[] #[pt z1 0]),(6,.func (.func 161) #[] #[pt z2 0])]
theorem E0q (z0:Nat) (z1:Nat) (z2:Nat) (k:Int):lkV k (.agg #[.nilFunc,bv false,.nilFunc]) (C7o z0 z1 z2)=.agg #[lkV k .nilFunc N1,.bool (lkB k false X4),lkV k .nilFunc (A6s z0 z1 z2)]:=by
 refine (C7e (fun a b c=>.agg #[a,b,c]) k (.nilFunc) (bv false) (.nilFunc) [((0:Int),(.func (.func 160) #[] #[]:Value),(bv false:Value),(.func (.func 162) #[] #[]:Value)),((1:Int),(.func (.func 163) #[] #[]:Value),(bv false:Value),(.func (.func 164) #[] #[]:Value)),((2:Int),(.func (.func 165) #[] #[]:Value),(bv false:Value),(.func (.func 166) #[] #[]:Value)),((3:Int),(.func (.func 167) #[] #[]:Value),(bv false:Value),(.func (.func 168) #[] #[]:Value)),((4:Int),(.func (.func 160) #[] #[]:Value),(bv O1:Value),(.func (.func 161) #[] #[pt z0 0]:Value)),((5:Int),(.func (.func 160) #[] #[]:Value),(bv O5:Value),(.func (.func 161) #[] #[pt z1 0]:Value)),((6:Int),(.func (.func 160) #[] #[]:Value),(bv R9:Value),(.func (.func 161) #[] #[pt z2 0]:Value))]).trans ?_
 rw [show (([((0:Int),(.func (.func 160) #[] #[]:Value),(bv false:Value),(.func (.func 162) #[] #[]:Value)),((1:Int),(.func (.func 163) #[] #[]:Value),(bv false:Value),(.func (.func 164) #[] #[]:Value)),((2:Int),(.func (.func 165) #[] #[]:Value),(bv false:Value),(.func (.func 166) #[] #[]:Value)),((3:Int),(.func (.func 167) #[] #[]:Value),(bv false:Value),(.func (.func 168) #[] #[]:Value)),((4:Int),(.func (.func 160) #[] #[]:Value),(bv O1:Value),(.func (.func 161) #[] #[pt z0 0]:Value)),((5:Int),(.func (.func 160) #[] #[]:Value),(bv O5:Value),(.func (.func 161) #[] #[pt z1 0]:Value)),((6:Int),(.func (.func 160) #[] #[]:Value),(bv R9:Value),(.func (.func 161) #[] #[pt z2 0]:Value))]).map fun x=>(x.1,x.2.2.1))=X4.map (fun x=>(x.1,Value.bool x.2)) from rfl,D0q]
 rfl
theorem B8e (z0:Nat) (z1:Nat) (z2:Nat) (k:Int):Value.tuple #[lkV k (.agg #[.nilFunc,bv false,.nilFunc]) (C7o z0 z1 z2),.bool (H6 k (C7o z0 z1 z2))]=Value.tuple #[.agg #[lkV k .nilFunc N1,.bool (lkB k false X4),lkV k .nilFunc (A6s z0 z1 z2)],.bool (H6 k N1)]:=by rw [E0q];rfl
def A7h (m:Int):Bool :=
 (decide (m=0))
theorem A9h (m:Int) (R:Bool) (hR:A7h m=R):K5 Tryz.prog 160 [iv m] [] (bv R):=by
 refine zco Tryz.func160 [(0,iv m)] fun X hX hr hD=>?_
 replace hR:=(A7h.eq_1 ..).symm.trans hR
 refine sr 1 rfl (ip' 1 0 [] (ie (sr 3 rfl (ip' 3 0 [(2,bv (decide (m=0)))] ?_))))
 subst hR
 refine ie (B0 ?_)
 exact F8 hr hD
def A0u (x:Int):Int :=
 (B5 (IntKind.u64.wrap ((bOp .and .u64 (x / 2) 6148914691236517205)+(bOp .and .u64 x 6148914691236517205))) fun (v:Int)=>(B5 (IntKind.u64.wrap ((bOp .and .u64 (v / 4) 3689348814741910323)+(bOp .and .u64 v 3689348814741910323))) fun (v1:Int)=>(B5 (bOp .and .u64 (IntKind.u64.wrap ((v1 / 16)+v1)) 1085102592571150095) fun (v2:Int)=>(B5 (IntKind.u64.wrap ((IntKind.u64.wrap (v2+(v2 / 256)))+((IntKind.u64.wrap (v2+(v2 / 256))) / 65536))) fun (v3:Int)=>(B5 (bOp .and .i64 (IntKind.i64.wrap (IntKind.u64.wrap (v3+(v3 / 4294967296)))) 127) fun (v4:Int)=>v4)))))
theorem B2u (x:Int) (R:Int) (hR:A0u x=R):K5 Tryz.prog 220 [.int .u64 x] [] (iv R):=by
 refine zco Tryz.func220 [(0,.int .u64 x)] fun X hX hr hD=>?_
 replace hR:=(A0u.eq_1 ..).symm.trans hR
 refine sr 1 rfl (ip' 1 0 [] (ie (sr 7 rfl (ip' 1 6 [(3,.int .u64 x)] ?_))))
 refine ix rfl (Q5 (c:=x / 2) rfl rfl rfl (by decide) (by simp [Int.fdiv_eq_ediv_of_nonneg,IntKind.bits])) ?_
 have hQ:=C9 hR;clear hR;obtain ⟨v,hv,hR⟩:=hQ
 refine ip' 5 0 [(0,.int .u64 v)] ?_ (by cases hv;kernel_rfl)
 refine ie (sr 7 rfl (ip' 1 6 [(9,.int .u64 v)] ?_))
 refine ix rfl (Q5 (c:=v / 4) rfl rfl rfl (by decide) (by simp [Int.fdiv_eq_ediv_of_nonneg,IntKind.bits])) ?_
 have hQ:=C9 hR;clear hR;obtain ⟨v1,hv1,hR⟩:=hQ
 refine ip' 5 0 [(0,.int .u64 v1)] ?_ (by cases hv1;kernel_rfl)
 refine ie (sr 6 rfl (ip' 1 5 [(15,.int .u64 v1)] ?_))
 refine ix rfl (Q5 (c:=v1 / 16) rfl rfl rfl (by decide) (by simp [Int.fdiv_eq_ediv_of_nonneg,IntKind.bits])) ?_
 have hQ:=C9 hR;clear hR;obtain ⟨v2,hv2,hR⟩:=hQ
 refine ip' 4 0 [(0,.int .u64 v2)] ?_ (by cases hv2;kernel_rfl)
 refine ie (sr 5 rfl (ip' 2 3 [(20,.int .u64 v2),(21,.int .u64 v2)] ?_))
 refine ix rfl (Q5 (c:=v2 / 256) rfl rfl rfl (by decide) (by simp [Int.fdiv_eq_ediv_of_nonneg,IntKind.bits])) (ip' 2 0 [(0,.int .u64 (IntKind.u64.wrap (v2+(v2 / 256))))] (ie (sr 5 rfl (ip' 2 3 [(24,.int .u64 (IntKind.u64.wrap (v2+(v2 / 256)))),(25,.int .u64 (IntKind.u64.wrap (v2+(v2 / 256))))] ?_))))
 refine ix rfl (Q5 (c:=(IntKind.u64.wrap (v2+(v2 / 256))) / 65536) rfl rfl rfl (by decide) (by simp [Int.fdiv_eq_ediv_of_nonneg,IntKind.bits])) ?_
 have hQ:=C9 hR;clear hR;obtain ⟨v3,hv3,hR⟩:=hQ
 refine ip' 2 0 [(0,.int .u64 v3)] ?_ (by cases hv3;kernel_rfl)
 refine ie (sr 5 rfl (ip' 2 3 [(28,.int .u64 v3),(29,.int .u64 v3)] ?_))
 refine ix rfl (Q5 (c:=v3 / 4294967296) rfl rfl rfl (by decide) (by simp [Int.fdiv_eq_ediv_of_nonneg,IntKind.bits])) (ip' 2 0 [(0,.int .u64 (IntKind.u64.wrap (v3+(v3 / 4294967296))))] (ie (sr 4 rfl ?_)))
 have hQ:=C9 hR;clear hR;obtain ⟨v4,hv4,hR⟩:=hQ
 refine ip' 4 0 [(2,iv v4)] ?_ (by cases hv4;kernel_rfl)
 subst hR
 refine ie (B0 ?_)
 exact F8 hr hD
def Q8 (x:Int):Int :=
 (A0u x)
theorem B4j (x:Int) (R:Int) (hR:Q8 x=R):K5 Tryz.prog 200 [.int .u64 x] [] (iv R):=by
 refine zco Tryz.func200 [(0,.int .u64 x)] fun X hX hr hD=>?_
 replace hR:=(Q8.eq_1 ..).symm.trans hR
 refine sr 1 rfl (ip' 1 0 [] (ie (A7 (A7y rfl (A9 (nx (sr 3 rfl (ip' 1 2 [(6,.int .u64 x)] (zca (B2u x _ rfl) fn0 (ip' 1 0 [(2,iv (A0u x))] ?_))))))))))
 subst hR
 refine ie (B0 ?_)
 exact F8 hr hD
def A1v (m:Int):Bool :=
 ((decide ((bOp .andNot .i64 m 255)=0))&&(decide ((Q8 (IntKind.u64.wrap m))=1)))
theorem C1i (m:Int) (R:Bool) (hR:A1v m=R):K5 Tryz.prog 163 [iv m] [] (bv R):=by
 refine zco Tryz.func163 [(0,iv m)] fun X hX hr hD=>?_
 replace hR:=(A1v.eq_1 ..).symm.trans hR
 refine sr 1 rfl (ip' 1 0 [] (ie (sr 10 rfl (ip' 4 6 [(6,bv (decide ((bOp .andNot .i64 m 255)=0)))] ?_))))
 refine zid 5 1 6 11 (decide ((Q8 (IntKind.u64.wrap m))=1)) (fun g1 g1p=>?_) ?_
 ·refine ip' 2 3 [(8,.int .u64 (IntKind.u64.wrap m))] (zca (B4j (IntKind.u64.wrap m) _ rfl) fn0 (ip' 2 0 [(11,bv (decide ((Q8 (IntKind.u64.wrap m))=1)))] ?_))
  exact A6 (Q2 4 6 11 g1 fn0 (mk [] rfl) rfl rfl rfl rfl rfl)
 refine ip' 1 0 [(2,bv ((decide ((bOp .andNot .i64 m 255)=0))&&(decide ((Q8 (IntKind.u64.wrap m))=1))))] ?_
 subst hR
 refine ie (B0 ?_)
 exact F8 hr hD
def B3j (m:Int):Bool :=
 ((decide (m=3))||((A1v m)&&(decide ((bOp .and .i64 m 3)=0))))
theorem C3l (m:Int) (R:Bool) (hR:B3j m=R):K5 Tryz.prog 165 [iv m] [] (bv R):=by
 refine zco Tryz.func165 [(0,iv m)] fun X hX hr hD=>?_
 replace hR:=(B3j.eq_1 ..).symm.trans hR
 refine sr 1 rfl (ip' 1 0 [] (ie (sr 12 rfl (ip' 3 9 [(5,bv (decide (m=3)))] ?_))))
 refine zir 8 1 5 13 ((A1v m)&&(decide ((bOp .and .i64 m 3)=0))) (fun g1 g1p=>?_) ?_
 ·refine ip' 1 7 [(6,iv m)] (zca (C1i m _ rfl) fn0 (ip' 1 5 [(8,bv (A1v m))] ?_))
  refine zia 4 1 8 12 (decide ((bOp .and .i64 m 3)=0)) (fun g2=>?_) ?_
  ·refine ip' 4 0 [(12,bv (decide ((bOp .and .i64 m 3)=0)))] ?_
   exact A6 (Q2 2 8 12 g2 fn0 (mk [] rfl) rfl rfl rfl rfl rfl)
  refine ip' 1 0 [(13,bv ((A1v m)&&(decide ((bOp .and .i64 m 3)=0))))] ?_
  exact A6 (Q2 6 5 13 g1 fn0 (mk [] rfl) rfl rfl rfl rfl rfl)
 refine ip' 1 0 [(2,bv ((decide (m=3))||((A1v m)&&(decide ((bOp .and .i64 m 3)=0)))))] ?_
 subst hR
 refine ie (B0 ?_)
 exact F8 hr hD
def B3k (m:Int):Bool :=
 ((decide ((0:Int)≤m))&&(decide (m≤5)))
theorem C5e (m:Int) (R:Bool) (hR:B3k m=R):K5 Tryz.prog 167 [iv m] [] (bv R):=by
 refine zco Tryz.func167 [(0,iv m)] fun X hX hr hD=>?_
 replace hR:=(B3k.eq_1 ..).symm.trans hR
 refine sr 1 rfl (ip' 1 0 [] (ie (sr 7 rfl (ip' 3 4 [(5,bv (decide ((0:Int)≤m)))] ?_))))
 refine zid 3 1 5 8 (decide (m≤5)) (fun g1 g1p=>?_) ?_
 ·refine ip' 3 0 [(8,bv (decide (m≤5)))] ?_
  exact A6 (Q2 2 5 8 g1 fn0 (mk [] rfl) rfl rfl rfl rfl rfl)
 refine ip' 1 0 [(2,bv ((decide ((0:Int)≤m))&&(decide (m≤5))))] ?_
 subst hR
 refine ie (B0 ?_)
 exact F8 hr hD
def A4l (k:Int) (x0:Int):Bool :=
 (bif (decide (k=0)) then (A7h x0) else (bif (decide (k=1)) then (A1v x0) else (bif (decide (k=2)) then (B3j x0) else (bif (decide (k=3)) then (B3k x0) else (bif (decide (k=4)) then (A7h x0) else (bif (decide (k=5)) then (A7h x0) else (bif (decide (k=6)) then (A7h x0) else false)))))))
theorem B5b (k:Int) (x0:Int) (hk:H6 k N1=true) (R:Bool) (hR:A4l k x0=R):B9 Tryz.prog (lkV k .nilFunc N1) [iv x0] [] (bv R):=by
 subst hR
 unfold A4l
 unfold N1 at *
 refine B9.cons (fun r=>bv r) hk (fun e=>?_) (fun hk e=>?_)
 ·exact B9.of (A9h x0 _ rfl) rfl fn0
 refine B9.cons (fun r=>bv r) hk (fun e=>?_) (fun hk e=>?_)
 ·exact B9.of (C1i x0 _ rfl) rfl fn0
 refine B9.cons (fun r=>bv r) hk (fun e=>?_) (fun hk e=>?_)
 ·exact B9.of (C3l x0 _ rfl) rfl fn0
 refine B9.cons (fun r=>bv r) hk (fun e=>?_) (fun hk e=>?_)
 ·exact B9.of (C5e x0 _ rfl) rfl fn0
 refine B9.cons (fun r=>bv r) hk (fun e=>?_) (fun hk e=>?_)
 ·exact B9.of (A9h x0 _ rfl) rfl fn0
 refine B9.cons (fun r=>bv r) hk (fun e=>?_) (fun hk e=>?_)
 ·exact B9.of (A9h x0 _ rfl) rfl fn0
 refine B9.cons (fun r=>bv r) hk (fun e=>?_) (fun hk e=>?_)
 ·exact B9.of (A9h x0 _ rfl) rfl fn0
 exact B9.nil hk
def G4:Ar3 :=
 {Ar3.zero with b:=255,c:=16777215}
theorem C4f (R:Ar3) (hR:G4=R):K5 Tryz.prog 155 [] [] (ag (C5m R)):=by
 refine zco Tryz.func155 [] fun X hX hr hD=>?_
 replace hR:=(G4.eq_1 ..).symm.trans hR
 refine sr 1 rfl (P1 1 0 [] (fun b1=>[(0,pt b1 0)]) (fun b1=>[bx b1 (C5m Ar3.zero) 205]) (fun b1=>(ie (sr 2 rfl (zrg 2 0 [0] [] [bx b1 (C5m ({Ar3.zero with b:=255,c:=16777215})) 205] ?_)))))
 subst hR
 refine ie (B0 ?_)
 exact zer hr hD (O3 rfl (G3 (us:=C5m ({Ar3.zero with b:=255,c:=16777215})) E8c rfl 0 rfl rfl rfl)) () (mk [false] rfl) fn0
def D8 (c:Col):Int :=
 (bif ((((decide (c.kind<0))||(decide ((3:Int)≤c.kind)))||(decide (c.n<0)))||(decide ((([G4.a,G4.b,G4.c]:List Int).getD ((c.kind).toNat) 0)<c.n))) then 130 else 0)
theorem Z8 (c:Col) (R:Int) (hR:D8 c=R):K5 Tryz.prog 110 [ag (R8 c)] [] (iv R):=by
 refine zco Tryz.func110 [(0,ag (R8 c))] fun X hX hr hD=>?_
 replace hR:=(D8.eq_1 ..).symm.trans hR
 refine sr 2 rfl (P1 2 0 [] (fun b1=>[(1,pt b1 0)]) (fun b1=>[bx b1 (R8 c) 24]) (fun b1=>(ie (A7 (sr 3 rfl (zca (C4f _ rfl) fn0 ?_))))))
 refine P1 2 0 [0] (fun b2=>[(3,pt b2 0)]) (fun b2=>[bx b2 (C5m G4) 205,bx b1 (R8 c) 24]) (fun b2=>?_)
 refine ie (sd 22 rfl (by kernel_rfl) rfl ?_)
 refine zdg 4 18 [1] [(8,bv (decide (c.kind<0)))] ?_
 refine zdr 4 14 8 12 (decide ((3:Int)≤c.kind)) (fun g3 g3p=>?_) ?_
 ·refine zdg 4 0 [1] [(12,bv (decide ((3:Int)≤c.kind)))] ?_
  exact zad 2 8 12 g3
 refine dp' 1 13 [(13,bv ((decide (c.kind<0))||(decide ((3:Int)≤c.kind))))] ?_
 refine zdO 4 9 13 17 (decide (c.n<0)) (fun g4=>?_) ?_
 ·have g4p:¬ ((c.kind<0)∨((3:Int)≤c.kind)):=by simpa using g4
  refine zdg 4 0 [1] [(17,bv (decide (c.n<0)))] ?_
  exact zad 2 13 17 g4
 refine dp' 1 8 [(18,bv (((decide (c.kind<0))||(decide ((3:Int)≤c.kind)))||(decide (c.n<0))))] ?_
 refine zdO 8 0 18 26 (decide ((([G4.a,G4.b,G4.c]:List Int).getD ((c.kind).toNat) 0)<c.n)) (fun g5=>?_) ?_
 ·have g5p:¬ (((c.kind<0)∨((3:Int)≤c.kind))∨(c.n<0)):=by simpa using g5
  refine zdg 4 4 [1,1] [(20,iv c.n),(22,iv c.kind)] ?_
  refine dd rfl (C1w Tryz.underlying205 ty3 rfl rfl rfl ((c.kind).toNat) (by omega) (by omega)) ?_
  refine dd rfl (C1k (u:=iv (([G4.a,G4.b,G4.c]:List Int).getD ((c.kind).toNat) 0)) (c:=I8) (xs:=([G4.a,G4.b,G4.c]:List Int)) (j:=[]) (sz:=1) ty3 (fun _=>rfl) rfl rfl 0 rfl ((c.kind).toNat) 0 rfl (gd 0 (by simp only [List.length_cons,List.length_nil];omega)) rfl) (dp' 2 0 [(26,bv (decide ((([G4.a,G4.b,G4.c]:List Int).getD ((c.kind).toNat) 0)<c.n)))] ?_)
  exact zad 6 18 26 g5
 refine de ?_
 refine zjb rfl hR ?_ ?_<;>clear hR<;>intro hR h6
 ·have h6p:(((c.kind<0)∨((3:Int)≤c.kind))∨(c.n<0))∨((([G4.a,G4.b,G4.c]:List Int).getD ((c.kind).toNat) 0)<c.n):=by simpa using h6
  refine sr 1 rfl (ip' 1 0 [(2,iv 130)] ?_)
  subst hR
  refine ie (B0 ?_)
  exact F8 hr hD
 have h6p:¬ ((((c.kind<0)∨((3:Int)≤c.kind))∨(c.n<0))∨((([G4.a,G4.b,G4.c]:List Int).getD ((c.kind).toNat) 0)<c.n)):=by simpa using h6
 refine A9 (nx (sr 1 rfl (ip' 1 0 [(2,iv 0)] ?_)))
 subst hR
 refine ie (B0 ?_)
 exact F8 hr hD
theorem gdE {α:Type} {l:List α} {k:Nat} {d:α} (h:k<l.length):l.getD k d=l[k]:=by simp [List.getD_eq_getElem?_getD,h]
theorem gdN {α:Type} {l:List α} {k:Nat} {d:α} (h:¬ k<l.length):l.getD k d=d:=by simp [List.getD_eq_getElem?_getD,List.getElem?_eq_none (Nat.le_of_not_lt h)]
theorem S8 {k:Int} {z:Value}:∀ {l:List (Int×Value)},z.oneCell'=true→(l.all fun p=>p.2.oneCell')=true→(lkV k z l).oneCell'=true
 | [],hz,_=>hz
 | (a,v)::l,hz,h=>by
  simp only [List.all_cons,Bool.and_eq_true] at h
  unfold lkV
  cases decide (k=a) with
  | true=>exact h.1
  | false=>exact S8 hz h.2
def I6 (a:Act):Int :=
 (bif ((((!(H6 a.n N1))||(!decide (a.kind=39)))||(!(decide (a.text=([]:List UInt8)))))||(!(A4l a.n a.m))) then 141 else (bif (((!(lkB a.n false X4))&&(!(decide (a.color=Col.zero))))||(!decide ((D8 a.color)=0))) then 141 else 0))
theorem B2d (a:Act) (R:Int) (hR:I6 a=R):K5 Tryz.prog 64 [ag (A5 a)] [] (iv R):=by
 refine zco Tryz.func64 [(0,ag (A5 a))] fun X hX hr hD=>?_
 replace hR:=(I6.eq_1 ..).symm.trans hR
 refine sr 2 rfl (P1 2 0 [] (fun b1=>[(1,pt b1 0)]) (fun b1=>[bx b1 (A5 a) 26]) (fun b1=>(ie (sh 10 [(10,[bx b1 (A5 a) 26])] [] [bx b1 (A5 a) 26] (zml 10 0) (by kernel_rfl) rfl (by kernel_rfl) (by kernel_rfl) (by kernel_rfl) (mk [true] rfl) A0.refl ?_))))
 refine zhp [1] 9 (zml 10 2) [(7,pt b1 1)] ?_
 refine zhl 2 [bx b1 (A5 a) 26] (zml 10 6) rfl (B4 (v:=iv a.n) ty3 rfl rfl 0 rfl rfl) ?_
 refine B1j 0 7 (by kernel_rfl) ?_ ?_
 ·refine B6o 0 [bx b1 (A5 a) 26] (zml 10 7) rfl rfl rfl (by kernel_rfl) (by kernel_rfl) (by kernel_rfl) (C2 (L2:=[bx b1 (A5 a) 26]) (B9n _ rfl) rfl rfl rfl rfl rfl fn0 (List.Perm.refl _) (fun ⟨b2,b3,b4,b5⟩=>[(b2,.map #[⟨iv 0,ag [.func (.func 160) #[] #[],bv false,.func (.func 162) #[] #[]],0⟩,⟨iv 1,ag [.func (.func 163) #[] #[],bv false,.func (.func 164) #[] #[]],1⟩,⟨iv 2,ag [.func (.func 165) #[] #[],bv false,.func (.func 166) #[] #[]],2⟩,⟨iv 3,ag [.func (.func 167) #[] #[],bv false,.func (.func 168) #[] #[]],3⟩,⟨iv 4,ag [.func (.func 160) #[] #[],bv O1,.func (.func 161) #[] #[pt b3 0]],4⟩,⟨iv 5,ag [.func (.func 160) #[] #[],bv O5,.func (.func 161) #[] #[pt b4 0]],5⟩,⟨iv 6,ag [.func (.func 160) #[] #[],bv R9,.func (.func 161) #[] #[pt b5 0]],6⟩] 7),bx b3 [.func (.func 169) #[] #[]] 233,bx b4 [.func (.func 170) #[] #[]] 233,bx b5 [.func (.func 171) #[] #[]] 233,bx b1 (A5 a) 26]) (fun _=>rfl)) (fun ⟨b2,b3,b4,b5⟩=>(mk [false,false,false,false,true] rfl)) (fun ⟨b2,b3,b4,b5⟩=>fn0) fun ⟨b2,b3,b4,b5⟩=>?_
  refine B1j 3 7 (by kernel_rfl) ?_ ?_
  ·refine B6o 3 [bx b1 (A5 a) 26] (zml 10 15) rfl rfl rfl (by kernel_rfl) (by kernel_rfl) (by kernel_rfl) (Det.tri (J0.det (by exact I5 (U0 (C7o b3 b4 b5) B1y rfl rfl rfl 0 rfl (by kernel_rfl) (by kernel_rfl)) (B8e b3 b4 b5 a.n)))) (fun _=>(mk [false,false,false,false,true] rfl)) (fun _=>fn0) fun _=>?_
   refine zhp [4,5,6] 3 (zml 10 127) [(10,ag [(lkV a.n .nilFunc N1),bv (lkB a.n false X4),(lkV a.n .nilFunc (A6s b3 b4 b5))]),(11,bv (H6 a.n N1))] ?_
   refine zho 7 [bx b1 (A5 a) 26] (zml 10 255) rfl (A0n (cs:=[.nilFunc,bv false,.nilFunc]) C7y rfl) (fun b6=>(mk [false,false,false,false,false,true] rfl)) (fun b6=>fn0) fun b6=>?_
   refine zho 8 [bx b1 (A5 a) 26] (zml 10 511) rfl (W0 (us:=[(lkV a.n .nilFunc N1),bv (lkB a.n false X4),(lkV a.n .nilFunc (A6s b3 b4 b5))]) (cs':=[(lkV a.n .nilFunc N1),bv (lkB a.n false X4),(lkV a.n .nilFunc (A6s b3 b4 b5))]) C7s rfl rfl rfl 0 rfl rfl rfl (by simp only [List.all_cons,List.all_nil,Bool.and_true,Bool.and_eq_true];exact ⟨S8 rfl rfl,rfl,S8 rfl rfl⟩) rfl rfl) (fun _=>(mk [false,false,false,false,false,true] rfl)) (fun _=>fn0) fun _=>?_
   refine zhp [9] 0 (zml 10 1023) [(4,bv (H6 a.n N1))] ?_
   refine A8j (by kernel_rfl) ?_
   refine A7 (sr 20 rfl (ip' 3 17 [(14,bv (!(H6 a.n N1)))] ?_))
   refine zio 4 13 14 18 (!decide (a.kind=39)) (fun g7=>?_) ?_
   ·refine ip' 1 3 [(15,pt b1 0)] (ix rfl (B4 (v:=iv a.kind) ty3 rfl rfl 5 rfl rfl) (ip' 2 0 [(18,bv (!decide (a.kind=39)))] ?_))
    exact A6 (Q2 4 14 18 g7 fn0 (mk [true,true,true,true,true,true] rfl) rfl rfl rfl rfl rfl)
   refine ip' 1 12 [(19,bv ((!(H6 a.n N1))||(!decide (a.kind=39))))] ?_
   refine zio 4 8 19 23 (!(decide (a.text=([]:List UInt8)))) (fun g8=>?_) ?_
   ·have g8p:=g8;try simp at g8p
    refine ip' 1 3 [(20,pt b1 5)] (ix rfl (B4 (v:=sv a.text) ty9 rfl rfl 5 rfl rfl) (ix rfl (A2f rfl rfl rfl) (ip' 1 0 [(23,bv (!(decide (a.text=([]:List UInt8)))))] ?_)))
    exact A6 (Q2 5 19 23 g8 fn0 (mk [true,true,true,true,true,true] rfl) rfl rfl rfl rfl rfl)
   refine ip' 1 7 [(24,bv (((!(H6 a.n N1))||(!decide (a.kind=39)))||(!(decide (a.text=([]:List UInt8))))))] ?_
   refine zio 7 0 24 31 (!(A4l a.n a.m)) (fun g9=>?_) ?_
   ·have g9p:=g9;try simp at g9p
    refine ip' 1 6 [(25,pt b6 0)] (ix rfl (B4 (v:=(lkV a.n .nilFunc N1)) A4y rfl rfl 0 rfl rfl) (ip' 1 4 [(27,pt b1 2)] (ix rfl (B4 (v:=iv a.m) ty3 rfl rfl 5 rfl rfl) (ixc rfl (O6 (B5b a.n a.m (by first|assumption|simp_all) _ rfl) rfl rfl rfl rfl fn0) (ip' 2 0 [(31,bv (!(A4l a.n a.m)))] ?_)))))
    exact A6 (Q2 7 24 31 g9 fn0 (mk [true,true,true,true,true,true] rfl) rfl rfl rfl rfl rfl)
   refine ie ?_
   refine zjb rfl hR ?_ ?_<;>clear hR<;>intro hR h10
   ·have h10p:=h10;try simp at h10p
    refine sr 1 rfl (ip' 1 0 [(2,iv 141)] ?_)
    subst hR
    refine ie (B0 ?_)
    exact F8 hr hD
   have h10p:=h10;try simp at h10p
   refine A9 (nx (A7 (sr 15 rfl (zrl 4 11 [0] [(35,bv (!(lkB a.n false X4)))] ?_))))
   refine zia 5 6 35 40 (!(decide (a.color=Col.zero))) (fun g11=>?_) ?_
   ·refine ip' 1 4 [(36,pt b1 3)] (ix rfl (K9 (us:=R8 a.color) B4g rfl rfl 5 rfl rfl rfl) (zrl 1 2 [] [(38,ag (R8 Col.zero))] (ix rfl (A3h (a:=a.color) (b:=Col.zero) B2w rfl rfl rfl) (ip' 1 0 [(40,bv (!(decide (a.color=Col.zero))))] ?_))))
    exact A6 (Q2 6 35 40 g11 fn0 (mk [true,true,true,true,true,true] rfl) rfl rfl rfl rfl rfl)
   refine ip' 1 5 [(41,bv ((!(lkB a.n false X4))&&(!(decide (a.color=Col.zero)))))] ?_
   refine zio 5 0 41 46 (!decide ((D8 a.color)=0)) (fun g12=>?_) ?_
   ·have g12p:=g12;try simp at g12p
    refine ip' 1 4 [(42,pt b1 3)] (ix rfl (K9 (us:=R8 a.color) B4g rfl rfl 5 rfl rfl rfl) (zca (Z8 a.color _ rfl) fn0 (ip' 2 0 [(46,bv (!decide ((D8 a.color)=0)))] ?_)))
    exact A6 (Q2 5 41 46 g12 fn0 (mk [true,true,true,true,true,true] rfl) rfl rfl rfl rfl rfl)
   refine ie ?_
   refine zjb rfl hR ?_ ?_<;>clear hR<;>intro hR h13
   ·have h13p:=h13;try simp at h13p
    refine sr 1 rfl (ip' 1 0 [(2,iv 141)] ?_)
    subst hR
    refine ie (B0 ?_)
    exact F8 hr hD
   have h13p:=h13;try simp at h13p
   refine A9 (nx (sr 1 rfl (ip' 1 0 [(2,iv 0)] ?_)))
   subst hR
   refine ie (B0 ?_)
   exact F8 hr hD
  ·refine B6o 7 [bx b1 (A5 a) 26] (zml 10 135) rfl rfl rfl (by kernel_rfl) (by kernel_rfl) (by kernel_rfl) (A0n (cs:=[.nilFunc,bv false,.nilFunc]) C7y rfl) (fun b14=>(mk [false,false,false,false,false,true] rfl)) (fun b14=>fn0) fun b14=>?_
   refine zho 3 [bx b1 (A5 a) 26] (zml 10 143) rfl (Det.tri (J0.det (by exact I5 (U0 (C7o b3 b4 b5) B1y rfl rfl rfl 1 rfl (by kernel_rfl) (by kernel_rfl)) (B8e b3 b4 b5 a.n)))) (fun _=>(mk [false,false,false,false,false,true] rfl)) (fun _=>fn0) fun _=>?_
   refine zhp [4,5,6] 2 (zml 10 255) [(10,ag [(lkV a.n .nilFunc N1),bv (lkB a.n false X4),(lkV a.n .nilFunc (A6s b3 b4 b5))]),(11,bv (H6 a.n N1))] ?_
   refine zho 8 [bx b1 (A5 a) 26] (zml 10 511) rfl (W0 (us:=[(lkV a.n .nilFunc N1),bv (lkB a.n false X4),(lkV a.n .nilFunc (A6s b3 b4 b5))]) (cs':=[(lkV a.n .nilFunc N1),bv (lkB a.n false X4),(lkV a.n .nilFunc (A6s b3 b4 b5))]) C7s rfl rfl rfl 0 rfl rfl rfl (by simp only [List.all_cons,List.all_nil,Bool.and_true,Bool.and_eq_true];exact ⟨S8 rfl rfl,rfl,S8 rfl rfl⟩) rfl rfl) (fun _=>(mk [false,false,false,false,false,true] rfl)) (fun _=>fn0) fun _=>?_
   refine zhp [9] 0 (zml 10 1023) [(4,bv (H6 a.n N1))] ?_
   refine A8j (by kernel_rfl) ?_
   refine A7 (sr 20 rfl (ip' 3 17 [(14,bv (!(H6 a.n N1)))] ?_))
   refine zio 4 13 14 18 (!decide (a.kind=39)) (fun g15=>?_) ?_
   ·refine ip' 1 3 [(15,pt b1 0)] (ix rfl (B4 (v:=iv a.kind) ty3 rfl rfl 5 rfl rfl) (ip' 2 0 [(18,bv (!decide (a.kind=39)))] ?_))
    exact A6 (Q2 4 14 18 g15 fn0 (mk [true,true,true,true,true,true] rfl) rfl rfl rfl rfl rfl)
   refine ip' 1 12 [(19,bv ((!(H6 a.n N1))||(!decide (a.kind=39))))] ?_
   refine zio 4 8 19 23 (!(decide (a.text=([]:List UInt8)))) (fun g16=>?_) ?_
   ·have g16p:=g16;try simp at g16p
    refine ip' 1 3 [(20,pt b1 5)] (ix rfl (B4 (v:=sv a.text) ty9 rfl rfl 5 rfl rfl) (ix rfl (A2f rfl rfl rfl) (ip' 1 0 [(23,bv (!(decide (a.text=([]:List UInt8)))))] ?_)))
    exact A6 (Q2 5 19 23 g16 fn0 (mk [true,true,true,true,true,true] rfl) rfl rfl rfl rfl rfl)
   refine ip' 1 7 [(24,bv (((!(H6 a.n N1))||(!decide (a.kind=39)))||(!(decide (a.text=([]:List UInt8))))))] ?_
   refine zio 7 0 24 31 (!(A4l a.n a.m)) (fun g17=>?_) ?_
   ·have g17p:=g17;try simp at g17p
    refine ip' 1 6 [(25,pt b14 0)] (ix rfl (B4 (v:=(lkV a.n .nilFunc N1)) A4y rfl rfl 0 rfl rfl) (ip' 1 4 [(27,pt b1 2)] (ix rfl (B4 (v:=iv a.m) ty3 rfl rfl 5 rfl rfl) (ixc rfl (O6 (B5b a.n a.m (by first|assumption|simp_all) _ rfl) rfl rfl rfl rfl fn0) (ip' 2 0 [(31,bv (!(A4l a.n a.m)))] ?_)))))
    exact A6 (Q2 7 24 31 g17 fn0 (mk [true,true,true,true,true,true] rfl) rfl rfl rfl rfl rfl)
   refine ie ?_
   refine zjb rfl hR ?_ ?_<;>clear hR<;>intro hR h18
   ·have h18p:=h18;try simp at h18p
    refine sr 1 rfl (ip' 1 0 [(2,iv 141)] ?_)
    subst hR
    refine ie (B0 ?_)
    exact F8 hr hD
   have h18p:=h18;try simp at h18p
   refine A9 (nx (A7 (sr 15 rfl (zrl 4 11 [0] [(35,bv (!(lkB a.n false X4)))] ?_))))
   refine zia 5 6 35 40 (!(decide (a.color=Col.zero))) (fun g19=>?_) ?_
   ·refine ip' 1 4 [(36,pt b1 3)] (ix rfl (K9 (us:=R8 a.color) B4g rfl rfl 5 rfl rfl rfl) (zrl 1 2 [] [(38,ag (R8 Col.zero))] (ix rfl (A3h (a:=a.color) (b:=Col.zero) B2w rfl rfl rfl) (ip' 1 0 [(40,bv (!(decide (a.color=Col.zero))))] ?_))))
    exact A6 (Q2 6 35 40 g19 fn0 (mk [true,true,true,true,true,true] rfl) rfl rfl rfl rfl rfl)
   refine ip' 1 5 [(41,bv ((!(lkB a.n false X4))&&(!(decide (a.color=Col.zero)))))] ?_
   refine zio 5 0 41 46 (!decide ((D8 a.color)=0)) (fun g20=>?_) ?_
   ·have g20p:=g20;try simp at g20p
    refine ip' 1 4 [(42,pt b1 3)] (ix rfl (K9 (us:=R8 a.color) B4g rfl rfl 5 rfl rfl rfl) (zca (Z8 a.color _ rfl) fn0 (ip' 2 0 [(46,bv (!decide ((D8 a.color)=0)))] ?_)))
    exact A6 (Q2 5 41 46 g20 fn0 (mk [true,true,true,true,true,true] rfl) rfl rfl rfl rfl rfl)
   refine ie ?_
   refine zjb rfl hR ?_ ?_<;>clear hR<;>intro hR h21
   ·have h21p:=h21;try simp at h21p
    refine sr 1 rfl (ip' 1 0 [(2,iv 141)] ?_)
    subst hR
    refine ie (B0 ?_)
    exact F8 hr hD
   have h21p:=h21;try simp at h21p
   refine A9 (nx (sr 1 rfl (ip' 1 0 [(2,iv 0)] ?_)))
   subst hR
   refine ie (B0 ?_)
   exact F8 hr hD
 ·refine B6o 7 [bx b1 (A5 a) 26] (zml 10 134) rfl rfl rfl (by kernel_rfl) (by kernel_rfl) (by kernel_rfl) (A0n (cs:=[.nilFunc,bv false,.nilFunc]) C7y rfl) (fun b22=>(mk [false,true] rfl)) (fun b22=>fn0) fun b22=>?_
  refine zho 0 [bx b1 (A5 a) 26] (zml 10 135) rfl (C2 (L2:=[bx b22 [.nilFunc,bv false,.nilFunc] 190,bx b1 (A5 a) 26]) (B9n _ rfl) rfl rfl rfl rfl rfl fn0 (List.Perm.refl _) (fun ⟨b23,b24,b25,b26⟩=>[(b23,.map #[⟨iv 0,ag [.func (.func 160) #[] #[],bv false,.func (.func 162) #[] #[]],0⟩,⟨iv 1,ag [.func (.func 163) #[] #[],bv false,.func (.func 164) #[] #[]],1⟩,⟨iv 2,ag [.func (.func 165) #[] #[],bv false,.func (.func 166) #[] #[]],2⟩,⟨iv 3,ag [.func (.func 167) #[] #[],bv false,.func (.func 168) #[] #[]],3⟩,⟨iv 4,ag [.func (.func 160) #[] #[],bv O1,.func (.func 161) #[] #[pt b24 0]],4⟩,⟨iv 5,ag [.func (.func 160) #[] #[],bv O5,.func (.func 161) #[] #[pt b25 0]],5⟩,⟨iv 6,ag [.func (.func 160) #[] #[],bv R9,.func (.func 161) #[] #[pt b26 0]],6⟩] 7),bx b24 [.func (.func 169) #[] #[]] 233,bx b25 [.func (.func 170) #[] #[]] 233,bx b26 [.func (.func 171) #[] #[]] 233,bx b22 [.nilFunc,bv false,.nilFunc] 190,bx b1 (A5 a) 26]) (fun _=>rfl)) (fun ⟨b23,b24,b25,b26⟩=>(mk [false,false,false,false,false,true] rfl)) (fun ⟨b23,b24,b25,b26⟩=>fn0) fun ⟨b23,b24,b25,b26⟩=>?_
  refine zho 3 [bx b1 (A5 a) 26] (zml 10 143) rfl (Det.tri (J0.det (by exact I5 (U0 (C7o b24 b25 b26) B1y rfl rfl rfl 0 rfl (by kernel_rfl) (by kernel_rfl)) (B8e b24 b25 b26 a.n)))) (fun _=>(mk [false,false,false,false,false,true] rfl)) (fun _=>fn0) fun _=>?_
  refine zhp [4,5,6] 2 (zml 10 255) [(10,ag [(lkV a.n .nilFunc N1),bv (lkB a.n false X4),(lkV a.n .nilFunc (A6s b24 b25 b26))]),(11,bv (H6 a.n N1))] ?_
  refine zho 8 [bx b1 (A5 a) 26] (zml 10 511) rfl (W0 (us:=[(lkV a.n .nilFunc N1),bv (lkB a.n false X4),(lkV a.n .nilFunc (A6s b24 b25 b26))]) (cs':=[(lkV a.n .nilFunc N1),bv (lkB a.n false X4),(lkV a.n .nilFunc (A6s b24 b25 b26))]) C7s rfl rfl rfl 4 rfl rfl rfl (by simp only [List.all_cons,List.all_nil,Bool.and_true,Bool.and_eq_true];exact ⟨S8 rfl rfl,rfl,S8 rfl rfl⟩) rfl rfl) (fun _=>(mk [false,false,false,false,false,true] rfl)) (fun _=>fn0) fun _=>?_
  refine zhp [9] 0 (zml 10 1023) [(4,bv (H6 a.n N1))] ?_
  refine A8j (by kernel_rfl) ?_
  refine A7 (sr 20 rfl (ip' 3 17 [(14,bv (!(H6 a.n N1)))] ?_))
  refine zio 4 13 14 18 (!decide (a.kind=39)) (fun g27=>?_) ?_
  ·refine ip' 1 3 [(15,pt b1 0)] (ix rfl (B4 (v:=iv a.kind) ty3 rfl rfl 5 rfl rfl) (ip' 2 0 [(18,bv (!decide (a.kind=39)))] ?_))
   exact A6 (Q2 4 14 18 g27 fn0 (mk [true,true,true,true,true,true] rfl) rfl rfl rfl rfl rfl)
  refine ip' 1 12 [(19,bv ((!(H6 a.n N1))||(!decide (a.kind=39))))] ?_
  refine zio 4 8 19 23 (!(decide (a.text=([]:List UInt8)))) (fun g28=>?_) ?_
  ·have g28p:=g28;try simp at g28p
   refine ip' 1 3 [(20,pt b1 5)] (ix rfl (B4 (v:=sv a.text) ty9 rfl rfl 5 rfl rfl) (ix rfl (A2f rfl rfl rfl) (ip' 1 0 [(23,bv (!(decide (a.text=([]:List UInt8)))))] ?_)))
   exact A6 (Q2 5 19 23 g28 fn0 (mk [true,true,true,true,true,true] rfl) rfl rfl rfl rfl rfl)
  refine ip' 1 7 [(24,bv (((!(H6 a.n N1))||(!decide (a.kind=39)))||(!(decide (a.text=([]:List UInt8))))))] ?_
  refine zio 7 0 24 31 (!(A4l a.n a.m)) (fun g29=>?_) ?_
  ·have g29p:=g29;try simp at g29p
   refine ip' 1 6 [(25,pt b22 0)] (ix rfl (B4 (v:=(lkV a.n .nilFunc N1)) A4y rfl rfl 4 rfl rfl) (ip' 1 4 [(27,pt b1 2)] (ix rfl (B4 (v:=iv a.m) ty3 rfl rfl 5 rfl rfl) (ixc rfl (O6 (B5b a.n a.m (by first|assumption|simp_all) _ rfl) rfl rfl rfl rfl fn0) (ip' 2 0 [(31,bv (!(A4l a.n a.m)))] ?_)))))
   exact A6 (Q2 7 24 31 g29 fn0 (mk [true,true,true,true,true,true] rfl) rfl rfl rfl rfl rfl)
  refine ie ?_
  refine zjb rfl hR ?_ ?_<;>clear hR<;>intro hR h30
  ·have h30p:=h30;try simp at h30p
   refine sr 1 rfl (ip' 1 0 [(2,iv 141)] ?_)
   subst hR
   refine ie (B0 ?_)
   exact F8 hr hD
  have h30p:=h30;try simp at h30p
  refine A9 (nx (A7 (sr 15 rfl (ip' 1 14 [(32,pt b22 1)] (ix rfl (B4 (v:=bv (lkB a.n false X4)) ty4 rfl rfl 4 rfl rfl) (ip' 2 11 [(35,bv (!(lkB a.n false X4)))] ?_))))))
  refine zia 5 6 35 40 (!(decide (a.color=Col.zero))) (fun g31=>?_) ?_
  ·refine ip' 1 4 [(36,pt b1 3)] (ix rfl (K9 (us:=R8 a.color) B4g rfl rfl 5 rfl rfl rfl) (zrl 1 2 [] [(38,ag (R8 Col.zero))] (ix rfl (A3h (a:=a.color) (b:=Col.zero) B2w rfl rfl rfl) (ip' 1 0 [(40,bv (!(decide (a.color=Col.zero))))] ?_))))
   exact A6 (Q2 6 35 40 g31 fn0 (mk [true,true,true,true,true,true] rfl) rfl rfl rfl rfl rfl)
  refine ip' 1 5 [(41,bv ((!(lkB a.n false X4))&&(!(decide (a.color=Col.zero)))))] ?_
  refine zio 5 0 41 46 (!decide ((D8 a.color)=0)) (fun g32=>?_) ?_
  ·have g32p:=g32;try simp at g32p
   refine ip' 1 4 [(42,pt b1 3)] (ix rfl (K9 (us:=R8 a.color) B4g rfl rfl 5 rfl rfl rfl) (zca (Z8 a.color _ rfl) fn0 (ip' 2 0 [(46,bv (!decide ((D8 a.color)=0)))] ?_)))
   exact A6 (Q2 5 41 46 g32 fn0 (mk [true,true,true,true,true,true] rfl) rfl rfl rfl rfl rfl)
  refine ie ?_
  refine zjb rfl hR ?_ ?_<;>clear hR<;>intro hR h33
  ·have h33p:=h33;try simp at h33p
   refine sr 1 rfl (ip' 1 0 [(2,iv 141)] ?_)
   subst hR
   refine ie (B0 ?_)
   exact F8 hr hD
  have h33p:=h33;try simp at h33p
  refine A9 (nx (sr 1 rfl (ip' 1 0 [(2,iv 0)] ?_)))
  subst hR
  refine ie (B0 ?_)
  exact F8 hr hD
def U8 (s:Sty):Int :=
 (bif (((!decide ((bOp .andNot .i64 s.attr 255)=0))||(decide (s.under<0)))||(decide ((5:Int)<s.under))) then 140 else (bif (!decide ((D8 s.fore)=0)) then (D8 s.fore) else (bif (!decide ((D8 s.back)=0)) then (D8 s.back) else (bif (!decide ((D8 s.line)=0)) then (D8 s.line) else 0))))
theorem B6z (s:Sty) (R:Int) (hR:U8 s=R):K5 Tryz.prog 58 [ag (W1 s)] [] (iv R):=by
 refine zco Tryz.func58 [(0,ag (W1 s))] fun X hX hr hD=>?_
 replace hR:=(U8.eq_1 ..).symm.trans hR
 refine sr 2 rfl (P1 2 0 [] (fun b1=>[(1,pt b1 0)]) (fun b1=>[bx b1 (W1 s) 67]) (fun b1=>(ie (A7 (sr 14 rfl (zrl 5 9 [0] [(10,bv (!decide ((bOp .andNot .i64 s.attr 255)=0)))] ?_))))))
 refine zio 4 5 10 14 (decide (s.under<0)) (fun g2=>?_) ?_
 ·have g2p:¬ (¬ (bOp .andNot .i64 s.attr 255)=0):=by simpa using g2
  refine zrl 4 0 [0] [(14,bv (decide (s.under<0)))] ?_
  exact A6 (Q2 2 10 14 g2 fn0 (mk [true] rfl) rfl rfl rfl rfl rfl)
 refine ip' 1 4 [(15,bv ((!decide ((bOp .andNot .i64 s.attr 255)=0))||(decide (s.under<0))))] ?_
 refine zio 4 0 15 19 (decide ((5:Int)<s.under)) (fun g3=>?_) ?_
 ·have g3p:¬ ((¬ (bOp .andNot .i64 s.attr 255)=0)∨(s.under<0)):=by simpa using g3
  refine zrl 4 0 [0] [(19,bv (decide ((5:Int)<s.under)))] ?_
  exact A6 (Q2 2 15 19 g3 fn0 (mk [true] rfl) rfl rfl rfl rfl rfl)
 refine ie ?_
 refine zjb rfl hR ?_ ?_<;>clear hR<;>intro hR h4
 ·have h4p:((¬ (bOp .andNot .i64 s.attr 255)=0)∨(s.under<0))∨((5:Int)<s.under):=by simpa using h4
  refine sr 1 rfl (ip' 1 0 [(2,iv 140)] ?_)
  subst hR
  refine ie (B0 ?_)
  exact F8 hr hD
 have h4p:¬ (((¬ (bOp .andNot .i64 s.attr 255)=0)∨(s.under<0))∨((5:Int)<s.under)):=by simpa using h4
 refine A9 (nx (A7 (sr 8 rfl (zrl 8 0 [0,0,0] [(26,ag [iv s.fore.kind,iv s.fore.n,iv s.back.kind,iv s.back.n,iv s.line.kind,iv s.line.n]),(27,iv 0)] (ie (B2 (A4z 5 ?_)))))))
 refine G0 (sr 1 rfl (ip' 1 0 [(28,bv true)] ?_))
 refine ie (A7 (N5 rfl (A9 (nx (A7 (B2 (sr 3 rfl (ix rfl (F9 (v:=ag [iv s.fore.kind,iv s.fore.n]) (us:=[iv s.fore.kind,iv s.fore.n]) Tryz.underlying172 B4g rfl rfl rfl 0 rfl (by decide) rfl rfl rfl) ?_))))))))
 refine P1 2 0 [0] (fun b5=>[(4,pt b5 0)]) (fun b5=>[bx b5 (R8 s.fore) 24,bx b1 (W1 s) 67]) (fun b5=>?_)
 refine ie (sr 3 rfl (zrl 1 2 [0] [(30,ag (R8 s.fore))] (zca (Z8 s.fore _ rfl) fn0 (ip' 1 0 [(5,iv (D8 s.fore))] (ie (sr 2 rfl (ip' 2 0 [(33,bv (!decide ((D8 s.fore)=0)))] (ie ?_))))))))
 refine zjn rfl hR ?_ ?_<;>clear hR<;>intro hR h6 h6p
 ·refine sr 2 rfl (ip' 2 0 [(2,iv (D8 s.fore))] ?_)
  subst hR
  refine ie (B0 ?_)
  exact F8 hr hD
 refine A9 (nx (A3 2 rfl (ix rfl (B6 (c:=1) rfl rfl rfl rfl (by decide)) (ip' 1 0 [(27,iv 1)] (A6 (G0 (sr 1 rfl (ip' 1 0 [(28,bv true)] (ie (A7 (N5 rfl (A9 (nx (A7 (B2 (sr 3 rfl (ix rfl (F9 (v:=ag [iv s.back.kind,iv s.back.n]) (us:=[iv s.back.kind,iv s.back.n]) Tryz.underlying172 B4g rfl rfl rfl 1 rfl (by decide) rfl rfl rfl) ?_)))))))))))))))))
 refine P1 2 0 [0] (fun b7=>[(4,pt b7 0)]) (fun b7=>[bx b7 (R8 s.back) 24,bx b5 (R8 s.fore) 24,bx b1 (W1 s) 67]) (fun b7=>?_)
 refine ie (sr 3 rfl (zrl 1 2 [0] [(30,ag (R8 s.back))] (zca (Z8 s.back _ rfl) fn0 (ip' 1 0 [(5,iv (D8 s.back))] (ie (sr 2 rfl (ip' 2 0 [(33,bv (!decide ((D8 s.back)=0)))] (ie ?_))))))))
 refine zjn rfl hR ?_ ?_<;>clear hR<;>intro hR h8 h8p
 ·refine sr 2 rfl (ip' 2 0 [(2,iv (D8 s.back))] ?_)
  subst hR
  refine ie (B0 ?_)
  exact F8 hr hD
 refine A9 (nx (A3 2 rfl (ix rfl (B6 (c:=2) rfl rfl rfl rfl (by decide)) (ip' 1 0 [(27,iv 2)] (A6 (G0 (sr 1 rfl (ip' 1 0 [(28,bv true)] (ie (A7 (N5 rfl (A9 (nx (A7 (B2 (sr 3 rfl (ix rfl (F9 (v:=ag [iv s.line.kind,iv s.line.n]) (us:=[iv s.line.kind,iv s.line.n]) Tryz.underlying172 B4g rfl rfl rfl 2 rfl (by decide) rfl rfl rfl) ?_)))))))))))))))))
 refine P1 2 0 [0] (fun b9=>[(4,pt b9 0)]) (fun b9=>[bx b9 (R8 s.line) 24,bx b7 (R8 s.back) 24,bx b5 (R8 s.fore) 24,bx b1 (W1 s) 67]) (fun b9=>?_)
 refine ie (sr 3 rfl (zrl 1 2 [0] [(30,ag (R8 s.line))] (zca (Z8 s.line _ rfl) fn0 (ip' 1 0 [(5,iv (D8 s.line))] (ie (sr 2 rfl (ip' 2 0 [(33,bv (!decide ((D8 s.line)=0)))] (ie ?_))))))))
 refine zjn rfl hR ?_ ?_<;>clear hR<;>intro hR h10 h10p
 ·refine sr 2 rfl (ip' 2 0 [(2,iv (D8 s.line))] ?_)
  subst hR
  refine ie (B0 ?_)
  exact F8 hr hD
 refine A9 (nx (A3 2 rfl (ix rfl (B6 (c:=3) rfl rfl rfl rfl (by decide)) (ip' 1 0 [(27,iv 3)] (A6 (G0 (sr 1 rfl (ip' 1 0 [(28,bv false)] (ie (A7 (A7y rfl (J1 (nx (sr 1 rfl (ip' 1 0 [(2,iv 0)] ?_)))))))))))))))
 subst hR
 refine ie (B0 ?_)
 exact F8 hr hD
end Go.Proofs.YtanighkpfmgnbaaGreatDoor
set_option linter.unusedVariables false
set_option linter.unusedSimpArgs false
set_option linter.unnecessarySimpa false
set_option maxRecDepth 100000
namespace Go.Proofs.YtanighkpfmgnbaaGreatDoor
open Go Go.Fen
theorem D4h:ApTy Tryz.prog 143 208 1 24:=⟨by kernel_rfl,by kernel_rfl,rfl⟩
theorem A0v:SlTy Tryz.prog 27 26 6:=⟨by kernel_rfl,by kernel_rfl⟩
theorem B7w:SlTy Tryz.prog 143 208 1:=⟨by kernel_rfl,by kernel_rfl⟩
theorem B4z:Ty Tryz.prog 26 6 true:=⟨by kernel_rfl⟩
theorem A0w:Ty Tryz.prog 208 1 true:=⟨by kernel_rfl⟩
theorem C1r:Ty Tryz.prog 243 3 true:=⟨by kernel_rfl⟩
theorem E7d:Ty Tryz.prog 244 24 true:=⟨by kernel_rfl⟩
def P2 (l:List Int):List Int :=
 l
theorem M7 (l:List Int) (lq:Option Addr) (lk:Nat) (hll:l.length≤9223372036854775807) (hcl:l.length≤lk) (R:List Int) (hR:P2 l=R):Con Tryz.prog 181 [.slice lq l.length lk] [] [sl I8 lq l] ({t:Option Addr×Nat // R.length≤t.2∧R.length≤9223372036854775807}) (fun x=>ag [.slice x.1.1 R.length x.1.2]) (fun x=>[]) (fun x=>[sl I8 x.1.1 R]):=by
 refine zco Tryz.func181 [(0,.slice lq l.length lk)] fun X hX hr hD=>?_
 replace hR:=(P2.eq_1 ..).symm.trans hR
 refine sr 1 rfl (P1 1 0 [] (fun b1=>[(2,pt b1 0)]) (fun b1=>[bx b1 [.slice none 0 0] 208]) (fun b1=>(ie (sr 3 rfl (zrg 3 0 [0] [] [bx b1 [.slice lq l.length lk] 208] ?_)))))
 subst hR
 refine ie (B0 ?_)
 exact zer hr hD (O3 rfl (G3 (us:=[.slice lq l.length lk]) A0w rfl 0 rfl rfl rfl)) (zq lq lk) (mk [false] rfl) (A0.con1 (A1 0 rfl) fn0)
def A9y (a:Act):List Int :=
 (bif (decide (a.color.kind=0)) then (B5 (P2 ([(IntKind.i64.wrap ((IntKind.i64.wrap ((38:Int)+(IntKind.i64.wrap ((10:Int) * (IntKind.i64.wrap (a.n - (4:Int)))))))+(1:Int)))]:List Int)) fun (y0:List Int)=>y0) else (bif (decide (a.color.kind=2)) then (B5 (P2 ([(IntKind.i64.wrap ((38:Int)+(IntKind.i64.wrap ((10:Int) * (IntKind.i64.wrap (a.n - (4:Int))))))),2,(-1),(a.color.n / 65536),(bOp .and .i64 (a.color.n / 256) 255),(bOp .and .i64 a.color.n 255)]:List Int)) fun (y1:List Int)=>y1) else (bif ((decide (a.color.n<8))&&(!decide (a.n=6))) then (B5 (P2 ([(IntKind.i64.wrap ((IntKind.i64.wrap ((IntKind.i64.wrap ((38:Int)+(IntKind.i64.wrap ((10:Int) * (IntKind.i64.wrap (a.n - (4:Int))))))) - (8:Int)))+a.color.n))]:List Int)) fun (y5:List Int)=>y5) else (bif ((decide (a.color.n<16))&&(!decide (a.n=6))) then (B5 (P2 ([(IntKind.i64.wrap ((IntKind.i64.wrap ((IntKind.i64.wrap ((IntKind.i64.wrap ((38:Int)+(IntKind.i64.wrap ((10:Int) * (IntKind.i64.wrap (a.n - (4:Int)))))))+(52:Int)))+a.color.n)) - (8:Int)))]:List Int)) fun (y3:List Int)=>y3) else (B5 (P2 ([(IntKind.i64.wrap ((38:Int)+(IntKind.i64.wrap ((10:Int) * (IntKind.i64.wrap (a.n - (4:Int))))))),5,a.color.n]:List Int)) fun (y4:List Int)=>y4)))))
theorem C7w (a:Act) (R:List Int) (hR:A9y a=R):Con Tryz.prog 182 [ag (A5 a)] [] [] ({t:Option Addr×Nat // R.length≤t.2∧R.length≤9223372036854775807}) (fun x=>ag [.slice x.1.1 R.length x.1.2]) (fun x=>[]) (fun x=>[sl I8 x.1.1 R]):=by
 refine zco Tryz.func182 [(0,ag (A5 a))] fun X hX hr hD=>?_
 replace hR:=(A9y.eq_1 ..).symm.trans hR
 refine sr 2 rfl (B9z 2 0 [] (fun b1 b2=>[(1,pt b1 0),(2,pt b2 0)]) (fun b1 b2=>[bx b2 [.slice none 0 0] 208,bx b1 (A5 a) 26]) (fun b1 b2=>(ie (sr 6 rfl (zrl 2 4 [1] [(6,iv a.n)] (ix rfl (J0.pure rfl) (ix rfl (J0.pure rfl) (ix rfl (J0.pure rfl) (ip' 1 0 [(3,iv (IntKind.i64.wrap ((38:Int)+(IntKind.i64.wrap ((10:Int) * (IntKind.i64.wrap (a.n - (4:Int))))))))] (ie (sr 4 rfl (zrl 4 0 [1] [(4,iv a.color.n)] ?_))))))))))))
 refine ie (B2 (sr 5 rfl (zrl 5 0 [1] [(17,bv (decide (a.color.kind=0)))] (ie ?_))))
 refine zjd rfl hR ?_ ?_<;>clear hR<;>intro hR h3 h3p
 ·refine sr 5 rfl (ip' 1 4 [(22,iv (IntKind.i64.wrap ((38:Int)+(IntKind.i64.wrap ((10:Int) * (IntKind.i64.wrap (a.n - (4:Int))))))))] (ix rfl (J0.pure rfl) (it rfl (B3 (c:=I8) (xs:=([(IntKind.i64.wrap ((IntKind.i64.wrap ((38:Int)+(IntKind.i64.wrap ((10:Int) * (IntKind.i64.wrap (a.n - (4:Int)))))))+(1:Int)))]:List Int)) L8 rfl rfl rfl (by kernel_rfl)) fun b4=>?_)))
  have:([(IntKind.i64.wrap ((IntKind.i64.wrap ((38:Int)+(IntKind.i64.wrap ((10:Int) * (IntKind.i64.wrap (a.n - (4:Int)))))))+(1:Int)))]:List Int).length=1:=rfl
  have hQ:=C9 hR;clear hR;obtain ⟨y0,hy0,hR⟩:=hQ
  refine zcm (M7 ([(IntKind.i64.wrap ((IntKind.i64.wrap ((38:Int)+(IntKind.i64.wrap ((10:Int) * (IntKind.i64.wrap (a.n - (4:Int)))))))+(1:Int)))]:List Int) (some ⟨b4,0,none⟩) 1 (by first|omega|(simp<;>omega)|(dsimp only;omega)|decide) (by first|omega|(simp<;>omega)|(dsimp only;omega)|decide) y0 hy0) A0.refl fun ⟨⟨q5,k6⟩,hp7⟩=>?_
  obtain ⟨hc8,hl9⟩:=hp7
  refine zrg 1 0 [0] [] [bx b2 [.slice q5 y0.length k6] 208,bx b1 (A5 a) 26] ?_
  subst hR
  refine ie (B0 ?_)
  exact zer hr hD (O3 rfl (G3 (us:=[.slice q5 y0.length k6]) A0w rfl 0 rfl rfl rfl)) (zq q5 k6) (mk [false,false] rfl) (A0.con1 (A1 0 rfl) fn0)
 refine sr 5 rfl (zrl 5 0 [1] [(26,bv (decide (a.color.kind=2)))] (ie ?_))
 refine zjd rfl hR ?_ ?_<;>clear hR<;>intro hR h10 h10p
 ·refine sr 11 rfl (ip' 2 9 [(31,iv (IntKind.i64.wrap ((38:Int)+(IntKind.i64.wrap ((10:Int) * (IntKind.i64.wrap (a.n - (4:Int)))))))),(32,iv a.color.n)] ?_)
  refine ix rfl (Q5 (c:=a.color.n / 65536) rfl rfl rfl (by decide) (by simp [Int.fdiv_eq_ediv_of_nonneg,IntKind.bits])) (ip' 1 7 [(34,iv a.color.n)] ?_)
  refine ix rfl (Q5 (c:=a.color.n / 256) rfl rfl rfl (by decide) (by simp [Int.fdiv_eq_ediv_of_nonneg,IntKind.bits])) (ip' 3 3 [(36,iv (bOp .and .i64 (a.color.n / 256) 255)),(38,iv (bOp .and .i64 a.color.n 255))] (it rfl (B3 (c:=I8) (xs:=([(IntKind.i64.wrap ((38:Int)+(IntKind.i64.wrap ((10:Int) * (IntKind.i64.wrap (a.n - (4:Int))))))),2,(-1),(a.color.n / 65536),(bOp .and .i64 (a.color.n / 256) 255),(bOp .and .i64 a.color.n 255)]:List Int)) L8 rfl rfl rfl (by kernel_rfl)) fun b11=>?_))
  have:([(IntKind.i64.wrap ((38:Int)+(IntKind.i64.wrap ((10:Int) * (IntKind.i64.wrap (a.n - (4:Int))))))),2,(-1),(a.color.n / 65536),(bOp .and .i64 (a.color.n / 256) 255),(bOp .and .i64 a.color.n 255)]:List Int).length=6:=rfl
  have hQ:=C9 hR;clear hR;obtain ⟨y1,hy1,hR⟩:=hQ
  refine zcm (M7 ([(IntKind.i64.wrap ((38:Int)+(IntKind.i64.wrap ((10:Int) * (IntKind.i64.wrap (a.n - (4:Int))))))),2,(-1),(a.color.n / 65536),(bOp .and .i64 (a.color.n / 256) 255),(bOp .and .i64 a.color.n 255)]:List Int) (some ⟨b11,0,none⟩) 6 (by first|omega|(simp<;>omega)|(dsimp only;omega)|decide) (by first|omega|(simp<;>omega)|(dsimp only;omega)|decide) y1 hy1) A0.refl fun ⟨⟨q12,k13⟩,hp14⟩=>?_
  obtain ⟨hc15,hl16⟩:=hp14
  refine zrg 1 0 [0] [] [bx b2 [.slice q12 y1.length k13] 208,bx b1 (A5 a) 26] ?_
  subst hR
  refine ie (B0 ?_)
  exact zer hr hD (O3 rfl (G3 (us:=[.slice q12 y1.length k13]) A0w rfl 0 rfl rfl rfl)) (zq q12 k13) (mk [false,false] rfl) (A0.con1 (A1 0 rfl) fn0)
 refine sr 8 rfl (ip' 3 5 [(44,bv (decide (a.color.n<8)))] ?_)
 refine zid 4 1 44 48 (!decide (a.n=6)) (fun g17 g17p=>?_) ?_
 ·refine zrl 4 0 [1] [(48,bv (!decide (a.n=6)))] ?_
  exact A6 (Q2 2 44 48 g17 fn0 (mk [true,true] rfl) rfl rfl rfl rfl rfl)
 refine ip' 1 0 [(41,bv ((decide (a.color.n<8))&&(!decide (a.n=6))))] (ie ?_)
 refine zjb rfl hR ?_ ?_<;>clear hR<;>intro hR h18
 ·have h18p:(a.color.n<8)∧(¬ a.n=6):=by simpa using h18
  refine sr 7 rfl (ip' 1 6 [(49,iv (IntKind.i64.wrap ((38:Int)+(IntKind.i64.wrap ((10:Int) * (IntKind.i64.wrap (a.n - (4:Int))))))))] (ix rfl (J0.pure rfl) (ip' 1 4 [(51,iv a.color.n)] (ix rfl (J0.pure rfl) (it rfl (B3 (c:=I8) (xs:=([(IntKind.i64.wrap ((IntKind.i64.wrap ((IntKind.i64.wrap ((38:Int)+(IntKind.i64.wrap ((10:Int) * (IntKind.i64.wrap (a.n - (4:Int))))))) - (8:Int)))+a.color.n))]:List Int)) L8 rfl rfl rfl (by kernel_rfl)) fun b19=>?_)))))
  have:([(IntKind.i64.wrap ((IntKind.i64.wrap ((IntKind.i64.wrap ((38:Int)+(IntKind.i64.wrap ((10:Int) * (IntKind.i64.wrap (a.n - (4:Int))))))) - (8:Int)))+a.color.n))]:List Int).length=1:=rfl
  have hQ:=C9 hR;clear hR;obtain ⟨y5,hy5,hR⟩:=hQ
  refine zcm (M7 ([(IntKind.i64.wrap ((IntKind.i64.wrap ((IntKind.i64.wrap ((38:Int)+(IntKind.i64.wrap ((10:Int) * (IntKind.i64.wrap (a.n - (4:Int))))))) - (8:Int)))+a.color.n))]:List Int) (some ⟨b19,0,none⟩) 1 (by first|omega|(simp<;>omega)|(dsimp only;omega)|decide) (by first|omega|(simp<;>omega)|(dsimp only;omega)|decide) y5 hy5) A0.refl fun ⟨⟨q20,k21⟩,hp22⟩=>?_
  obtain ⟨hc23,hl24⟩:=hp22
  refine zrg 1 0 [0] [] [bx b2 [.slice q20 y5.length k21] 208,bx b1 (A5 a) 26] ?_
  subst hR
  refine ie (B0 ?_)
  exact zer hr hD (O3 rfl (G3 (us:=[.slice q20 y5.length k21]) A0w rfl 0 rfl rfl rfl)) (zq q20 k21) (mk [false,false] rfl) (A0.con1 (A1 0 rfl) fn0)
 have h18p:¬ ((a.color.n<8)∧(¬ a.n=6)):=by simpa using h18
 refine sr 8 rfl (ip' 3 5 [(58,bv (decide (a.color.n<16)))] ?_)
 refine zid 4 1 58 62 (!decide (a.n=6)) (fun g25 g25p=>?_) ?_
 ·refine zrl 4 0 [1] [(62,bv (!decide (a.n=6)))] ?_
  exact A6 (Q2 2 58 62 g25 fn0 (mk [true,true] rfl) rfl rfl rfl rfl rfl)
 refine ip' 1 0 [(55,bv ((decide (a.color.n<16))&&(!decide (a.n=6))))] (ie ?_)
 refine zjb rfl hR ?_ ?_<;>clear hR<;>intro hR h26
 ·have h26p:(a.color.n<16)∧(¬ a.n=6):=by simpa using h26
  refine sr 8 rfl (ip' 1 7 [(63,iv (IntKind.i64.wrap ((38:Int)+(IntKind.i64.wrap ((10:Int) * (IntKind.i64.wrap (a.n - (4:Int))))))))] (ix rfl (J0.pure rfl) (ip' 1 5 [(65,iv a.color.n)] (ix rfl (J0.pure rfl) (ix rfl (J0.pure rfl) (it rfl (B3 (c:=I8) (xs:=([(IntKind.i64.wrap ((IntKind.i64.wrap ((IntKind.i64.wrap ((IntKind.i64.wrap ((38:Int)+(IntKind.i64.wrap ((10:Int) * (IntKind.i64.wrap (a.n - (4:Int)))))))+(52:Int)))+a.color.n)) - (8:Int)))]:List Int)) L8 rfl rfl rfl (by kernel_rfl)) fun b27=>?_))))))
  have:([(IntKind.i64.wrap ((IntKind.i64.wrap ((IntKind.i64.wrap ((IntKind.i64.wrap ((38:Int)+(IntKind.i64.wrap ((10:Int) * (IntKind.i64.wrap (a.n - (4:Int)))))))+(52:Int)))+a.color.n)) - (8:Int)))]:List Int).length=1:=rfl
  have hQ:=C9 hR;clear hR;obtain ⟨y3,hy3,hR⟩:=hQ
  refine zcm (M7 ([(IntKind.i64.wrap ((IntKind.i64.wrap ((IntKind.i64.wrap ((IntKind.i64.wrap ((38:Int)+(IntKind.i64.wrap ((10:Int) * (IntKind.i64.wrap (a.n - (4:Int)))))))+(52:Int)))+a.color.n)) - (8:Int)))]:List Int) (some ⟨b27,0,none⟩) 1 (by first|omega|(simp<;>omega)|(dsimp only;omega)|decide) (by first|omega|(simp<;>omega)|(dsimp only;omega)|decide) y3 hy3) A0.refl fun ⟨⟨q28,k29⟩,hp30⟩=>?_
  obtain ⟨hc31,hl32⟩:=hp30
  refine zrg 1 0 [0] [] [bx b2 [.slice q28 y3.length k29] 208,bx b1 (A5 a) 26] ?_
  subst hR
  refine ie (B0 ?_)
  exact zer hr hD (O3 rfl (G3 (us:=[.slice q28 y3.length k29]) A0w rfl 0 rfl rfl rfl)) (zq q28 k29) (mk [false,false] rfl) (A0.con1 (A1 0 rfl) fn0)
 have h26p:¬ ((a.color.n<16)∧(¬ a.n=6)):=by simpa using h26
 refine sr 5 rfl (ip' 2 3 [(13,iv (IntKind.i64.wrap ((38:Int)+(IntKind.i64.wrap ((10:Int) * (IntKind.i64.wrap (a.n - (4:Int)))))))),(14,iv a.color.n)] (it rfl (B3 (c:=I8) (xs:=([(IntKind.i64.wrap ((38:Int)+(IntKind.i64.wrap ((10:Int) * (IntKind.i64.wrap (a.n - (4:Int))))))),5,a.color.n]:List Int)) L8 rfl rfl rfl (by kernel_rfl)) fun b33=>?_))
 have:([(IntKind.i64.wrap ((38:Int)+(IntKind.i64.wrap ((10:Int) * (IntKind.i64.wrap (a.n - (4:Int))))))),5,a.color.n]:List Int).length=3:=rfl
 have hQ:=C9 hR;clear hR;obtain ⟨y4,hy4,hR⟩:=hQ
 refine zcm (M7 ([(IntKind.i64.wrap ((38:Int)+(IntKind.i64.wrap ((10:Int) * (IntKind.i64.wrap (a.n - (4:Int))))))),5,a.color.n]:List Int) (some ⟨b33,0,none⟩) 3 (by first|omega|(simp<;>omega)|(dsimp only;omega)|decide) (by first|omega|(simp<;>omega)|(dsimp only;omega)|decide) y4 hy4) A0.refl fun ⟨⟨q34,k35⟩,hp36⟩=>?_
 obtain ⟨hc37,hl38⟩:=hp36
 refine zrg 1 0 [0] [] [bx b2 [.slice q34 y4.length k35] 208,bx b1 (A5 a) 26] ?_
 subst hR
 refine ie (B0 ?_)
 exact zer hr hD (O3 rfl (G3 (us:=[.slice q34 y4.length k35]) A0w rfl 0 rfl rfl rfl)) (zq q34 k35) (mk [false,false] rfl) (A0.con1 (A1 0 rfl) fn0)
def M5 (a:Act):List Int :=
 (bif (decide (a.n=0)) then (B5 (P2 ([0]:List Int)) fun (y0:List Int)=>y0) else (bif ((decide (a.n=3))&&(decide (a.m=0))) then (B5 (P2 ([24]:List Int)) fun (y1:List Int)=>y1) else (bif ((decide (a.n=3))&&(decide (a.m=1))) then (B5 (P2 ([4]:List Int)) fun (y5:List Int)=>y5) else (bif (decide (a.n=3)) then (B5 (P2 ([4,a.m]:List Int)) fun (y3:List Int)=>y3) else (bif (decide ((4:Int)≤a.n)) then (B5 (A9y a) fun (y15:List Int)=>y15) else (bif (decide ((bOp .and .i64 1 a.m)=0)) then (bif (decide ((bOp .and .i64 2 a.m)=0)) then (bif (decide ((bOp .and .i64 4 a.m)=0)) then (bif (decide ((bOp .and .i64 8 a.m)=0)) then (bif (decide ((bOp .and .i64 16 a.m)=0)) then (bif (decide ((bOp .and .i64 32 a.m)=0)) then (bif (decide ((bOp .and .i64 64 a.m)=0)) then (bif (decide ((bOp .and .i64 128 a.m)=0)) then ([]:List Int) else (bif (decide (a.n=1)) then (B5 (P2 ([53]:List Int)) fun (y4:List Int)=>y4) else (B5 (P2 ([55]:List Int)) fun (y11:List Int)=>y11))) else (bif (decide (a.n=1)) then (B5 (P2 ([9]:List Int)) fun (y19:List Int)=>y19) else (B5 (P2 ([29]:List Int)) fun (y20:List Int)=>y20))) else (bif (decide (a.n=1)) then (B5 (P2 ([8]:List Int)) fun (y18:List Int)=>y18) else (B5 (P2 ([28]:List Int)) fun (y10:List Int)=>y10))) else (bif (decide (a.n=1)) then (B5 (P2 ([7]:List Int)) fun (y12:List Int)=>y12) else (B5 (P2 ([27]:List Int)) fun (y9:List Int)=>y9))) else (bif (decide (a.n=1)) then (B5 (P2 ([5]:List Int)) fun (y21:List Int)=>y21) else (B5 (P2 ([25]:List Int)) fun (y6:List Int)=>y6))) else (bif (decide (a.n=1)) then (B5 (P2 ([3]:List Int)) fun (y14:List Int)=>y14) else (B5 (P2 ([23]:List Int)) fun (y7:List Int)=>y7))) else (bif (decide (a.n=1)) then (B5 (P2 ([2]:List Int)) fun (y13:List Int)=>y13) else (B5 (P2 ([22]:List Int)) fun (y8:List Int)=>y8))) else (bif (decide (a.n=1)) then (B5 (P2 ([1]:List Int)) fun (y17:List Int)=>y17) else (B5 (P2 ([22]:List Int)) fun (y16:List Int)=>y16))))))))
theorem D4g (a:Act) (R:List Int) (hR:M5 a=R):Con Tryz.prog 126 [ag (A5 a)] [] [S7] ({t:Option Addr×Nat // R.length≤t.2∧R.length≤9223372036854775807}) (fun x=>ag [.slice x.1.1 R.length x.1.2]) (fun x=>[]) (fun x=>[sl I8 x.1.1 R]):=by
 refine zco Tryz.func126 [(0,ag (A5 a))] fun X hX hr hD=>?_
 replace hR:=(M5.eq_1 ..).symm.trans hR
 refine sr 2 rfl (B9z 2 0 [] (fun b1 b2=>[(1,pt b1 0),(2,pt b2 0)]) (fun b1 b2=>[bx b2 [.slice none 0 0] 208,bx b1 (A5 a) 26]) (fun b1 b2=>(ie (A7 (B2 (sr 4 rfl (zrl 4 0 [1] [(5,bv (decide (a.n=0)))] (ie ?_))))))))
 refine zjd rfl hR ?_ ?_<;>clear hR<;>intro hR h3 h3p
 ·refine sr 3 rfl (it rfl (B3 (c:=I8) (xs:=([0]:List Int)) L8 rfl rfl rfl (by kernel_rfl)) fun b4=>?_)
  have:([0]:List Int).length=1:=rfl
  have hQ:=C9 hR;clear hR;obtain ⟨y0,hy0,hR⟩:=hQ
  refine zcm (M7 ([0]:List Int) (some ⟨b4,0,none⟩) 1 (by first|omega|(simp<;>omega)|(dsimp only;omega)|decide) (by first|omega|(simp<;>omega)|(dsimp only;omega)|decide) y0 hy0) (A0.pick [0] rfl) fun ⟨⟨q5,k6⟩,hp7⟩=>?_
  obtain ⟨hc8,hl9⟩:=hp7
  refine zrg 1 0 [0] [] [bx b2 [.slice q5 y0.length k6] 208,bx b1 (A5 a) 26] ?_
  subst hR
  refine ie (B0 ?_)
  exact zer hr hD (O3 rfl (G3 (us:=[.slice q5 y0.length k6]) A0w rfl 0 rfl rfl rfl)) (zq q5 k6) (mk [false,false] rfl) (A0.con1 (A1 0 rfl) fn0)
 refine sr 9 rfl (zrl 4 5 [1] [(15,bv (decide (a.n=3)))] ?_)
 refine zid 4 1 15 19 (decide (a.m=0)) (fun g10 g10p=>?_) ?_
 ·refine zrl 4 0 [1] [(19,bv (decide (a.m=0)))] ?_
  exact zai 2 15 19 g10
 refine ip' 1 0 [(11,bv ((decide (a.n=3))&&(decide (a.m=0))))] (ie ?_)
 refine zja rfl hR ?_ ?_<;>clear hR<;>intro hR h11 h11p
 ·refine sr 3 rfl (it rfl (B3 (c:=I8) (xs:=([24]:List Int)) L8 rfl rfl rfl (by kernel_rfl)) fun b12=>?_)
  have:([24]:List Int).length=1:=rfl
  have hQ:=C9 hR;clear hR;obtain ⟨y1,hy1,hR⟩:=hQ
  refine zcm (M7 ([24]:List Int) (some ⟨b12,0,none⟩) 1 (by first|omega|(simp<;>omega)|(dsimp only;omega)|decide) (by first|omega|(simp<;>omega)|(dsimp only;omega)|decide) y1 hy1) (A0.pick [0] rfl) fun ⟨⟨q13,k14⟩,hp15⟩=>?_
  obtain ⟨hc16,hl17⟩:=hp15
  refine zrg 1 0 [0] [] [bx b2 [.slice q13 y1.length k14] 208,bx b1 (A5 a) 26] ?_
  subst hR
  refine ie (B0 ?_)
  exact zer hr hD (O3 rfl (G3 (us:=[.slice q13 y1.length k14]) A0w rfl 0 rfl rfl rfl)) (zq q13 k14) (mk [false,false] rfl) (A0.con1 (A1 0 rfl) fn0)
 refine sr 9 rfl (zrl 4 5 [1] [(26,bv (decide (a.n=3)))] ?_)
 refine zid 4 1 26 30 (decide (a.m=1)) (fun g18 g18p=>?_) ?_
 ·refine zrl 4 0 [1] [(30,bv (decide (a.m=1)))] ?_
  exact zai 2 26 30 g18
 refine ip' 1 0 [(22,bv ((decide (a.n=3))&&(decide (a.m=1))))] (ie ?_)
 refine zja rfl hR ?_ ?_<;>clear hR<;>intro hR h19 h19p
 ·refine sr 3 rfl (it rfl (B3 (c:=I8) (xs:=([4]:List Int)) L8 rfl rfl rfl (by kernel_rfl)) fun b20=>?_)
  have:([4]:List Int).length=1:=rfl
  have hQ:=C9 hR;clear hR;obtain ⟨y5,hy5,hR⟩:=hQ
  refine zcm (M7 ([4]:List Int) (some ⟨b20,0,none⟩) 1 (by first|omega|(simp<;>omega)|(dsimp only;omega)|decide) (by first|omega|(simp<;>omega)|(dsimp only;omega)|decide) y5 hy5) (A0.pick [0] rfl) fun ⟨⟨q21,k22⟩,hp23⟩=>?_
  obtain ⟨hc24,hl25⟩:=hp23
  refine zrg 1 0 [0] [] [bx b2 [.slice q21 y5.length k22] 208,bx b1 (A5 a) 26] ?_
  subst hR
  refine ie (B0 ?_)
  exact zer hr hD (O3 rfl (G3 (us:=[.slice q21 y5.length k22]) A0w rfl 0 rfl rfl rfl)) (zq q21 k22) (mk [false,false] rfl) (A0.con1 (A1 0 rfl) fn0)
 refine sr 4 rfl (zrl 4 0 [1] [(33,bv (decide (a.n=3)))] (ie ?_))
 refine zjd rfl hR ?_ ?_<;>clear hR<;>intro hR h26 h26p
 ·refine sr 5 rfl (zrl 2 3 [1] [(38,iv a.m)] (it rfl (B3 (c:=I8) (xs:=([4,a.m]:List Int)) L8 rfl rfl rfl (by kernel_rfl)) fun b27=>?_))
  have:([4,a.m]:List Int).length=2:=rfl
  have hQ:=C9 hR;clear hR;obtain ⟨y3,hy3,hR⟩:=hQ
  refine zcm (M7 ([4,a.m]:List Int) (some ⟨b27,0,none⟩) 2 (by first|omega|(simp<;>omega)|(dsimp only;omega)|decide) (by first|omega|(simp<;>omega)|(dsimp only;omega)|decide) y3 hy3) (A0.pick [0] rfl) fun ⟨⟨q28,k29⟩,hp30⟩=>?_
  obtain ⟨hc31,hl32⟩:=hp30
  refine zrg 1 0 [0] [] [bx b2 [.slice q28 y3.length k29] 208,bx b1 (A5 a) 26] ?_
  subst hR
  refine ie (B0 ?_)
  exact zer hr hD (O3 rfl (G3 (us:=[.slice q28 y3.length k29]) A0w rfl 0 rfl rfl rfl)) (zq q28 k29) (mk [false,false] rfl) (A0.con1 (A1 0 rfl) fn0)
 refine sr 4 rfl (zrl 4 0 [1] [(41,bv (decide ((4:Int)≤a.n)))] (ie ?_))
 refine zjd rfl hR ?_ ?_<;>clear hR<;>intro hR h33 h33p
 ·refine sr 3 rfl (zrl 1 2 [1] [(45,ag (A5 a))] ?_)
  have hQ:=C9 hR;clear hR;obtain ⟨y15,hy15,hR⟩:=hQ
  refine zcm (C7w a y15 hy15) fn0 fun ⟨⟨q34,k35⟩,hp36⟩=>?_
  obtain ⟨hc37,hl38⟩:=hp36
  refine zrg 1 0 [0] [] [bx b2 [.slice q34 y15.length k35] 208,bx b1 (A5 a) 26] ?_
  subst hR
  refine ie (B0 ?_)
  exact zer hr hD (O3 rfl (G3 (us:=[.slice q34 y15.length k35]) A0w rfl 0 rfl rfl rfl)) (zq q34 k35) (mk [false,false] rfl) (A0.con1 (A1 0 rfl) fn0)
 refine A9 (nx (A7 (sr 2 rfl (ix rfl (P5 (us:=[iv 1,iv 1,iv 22,iv 2,iv 2,iv 22,iv 4,iv 3,iv 23,iv 8,iv 5,iv 25,iv 16,iv 7,iv 27,iv 32,iv 8,iv 28,iv 64,iv 9,iv 29,iv 128,iv 53,iv 55]) E7d rfl rfl (E5x 0 rfl (by kernel_rfl)) rfl) (ip' 1 0 [(48,iv 0)] (ie (B2 (A4z 10 ?_))))))))
 refine G0 (sr 1 rfl (ip' 1 0 [(49,bv true)] ?_))
 refine ie (A7 (N5 rfl (A9 (nx (A7 (B2 (sr 3 rfl (ix rfl (F9 (v:=ag [iv 1,iv 1,iv 22]) (us:=[iv 1,iv 1,iv 22]) Tryz.underlying244 C1r rfl rfl rfl 0 rfl (by decide) rfl rfl rfl) ?_))))))))
 refine P1 2 0 [0] (fun b39=>[(4,pt b39 0)]) (fun b39=>[bx b39 (I3 (⟨1,1,22⟩:Atr)) 243,bx b2 [.slice none 0 0] 208,bx b1 (A5 a) 26]) (fun b39=>?_)
 refine ie (B2 (sr 7 rfl (zrl 7 0 [0,2] [(55,bv (decide ((bOp .and .i64 1 a.m)=0)))] (ie ?_))))
 refine zjd rfl hR ?_ ?_<;>clear hR<;>intro hR h40 h40p
 ·refine A9 (nx (A3 2 rfl (ix rfl (B6 (c:=1) rfl rfl rfl rfl (by decide)) (ip' 1 0 [(48,iv 1)] (A6 (G0 (sr 1 rfl (ip' 1 0 [(49,bv true)] (ie (A7 (N5 rfl (A9 (nx (A7 (B2 (sr 3 rfl (ix rfl (F9 (v:=ag [iv 2,iv 2,iv 22]) (us:=[iv 2,iv 2,iv 22]) Tryz.underlying244 C1r rfl rfl rfl 1 rfl (by decide) rfl rfl rfl) ?_)))))))))))))))))
  refine P1 2 0 [0] (fun b41=>[(4,pt b41 0)]) (fun b41=>[bx b41 (I3 (⟨2,2,22⟩:Atr)) 243,bx b39 (I3 (⟨1,1,22⟩:Atr)) 243,bx b2 [.slice none 0 0] 208,bx b1 (A5 a) 26]) (fun b41=>?_)
  refine ie (B2 (sr 7 rfl (zrl 7 0 [0,3] [(55,bv (decide ((bOp .and .i64 2 a.m)=0)))] (ie ?_))))
  refine zjd rfl hR ?_ ?_<;>clear hR<;>intro hR h42 h42p
  ·refine A9 (nx (A3 2 rfl (ix rfl (B6 (c:=2) rfl rfl rfl rfl (by decide)) (ip' 1 0 [(48,iv 2)] (A6 (G0 (sr 1 rfl (ip' 1 0 [(49,bv true)] (ie (A7 (N5 rfl (A9 (nx (A7 (B2 (sr 3 rfl (ix rfl (F9 (v:=ag [iv 4,iv 3,iv 23]) (us:=[iv 4,iv 3,iv 23]) Tryz.underlying244 C1r rfl rfl rfl 2 rfl (by decide) rfl rfl rfl) ?_)))))))))))))))))
   refine P1 2 0 [0] (fun b43=>[(4,pt b43 0)]) (fun b43=>[bx b43 (I3 (⟨4,3,23⟩:Atr)) 243,bx b41 (I3 (⟨2,2,22⟩:Atr)) 243,bx b39 (I3 (⟨1,1,22⟩:Atr)) 243,bx b2 [.slice none 0 0] 208,bx b1 (A5 a) 26]) (fun b43=>?_)
   refine ie (B2 (sr 7 rfl (zrl 7 0 [0,4] [(55,bv (decide ((bOp .and .i64 4 a.m)=0)))] (ie ?_))))
   refine zjd rfl hR ?_ ?_<;>clear hR<;>intro hR h44 h44p
   ·refine A9 (nx (A3 2 rfl (ix rfl (B6 (c:=3) rfl rfl rfl rfl (by decide)) (ip' 1 0 [(48,iv 3)] (A6 (G0 (sr 1 rfl (ip' 1 0 [(49,bv true)] (ie (A7 (N5 rfl (A9 (nx (A7 (B2 (sr 3 rfl (ix rfl (F9 (v:=ag [iv 8,iv 5,iv 25]) (us:=[iv 8,iv 5,iv 25]) Tryz.underlying244 C1r rfl rfl rfl 3 rfl (by decide) rfl rfl rfl) ?_)))))))))))))))))
    refine P1 2 0 [0] (fun b45=>[(4,pt b45 0)]) (fun b45=>[bx b45 (I3 (⟨8,5,25⟩:Atr)) 243,bx b43 (I3 (⟨4,3,23⟩:Atr)) 243,bx b41 (I3 (⟨2,2,22⟩:Atr)) 243,bx b39 (I3 (⟨1,1,22⟩:Atr)) 243,bx b2 [.slice none 0 0] 208,bx b1 (A5 a) 26]) (fun b45=>?_)
    refine ie (B2 (sr 7 rfl (zrl 7 0 [0,5] [(55,bv (decide ((bOp .and .i64 8 a.m)=0)))] (ie ?_))))
    refine zjd rfl hR ?_ ?_<;>clear hR<;>intro hR h46 h46p
    ·refine A9 (nx (A3 2 rfl (ix rfl (B6 (c:=4) rfl rfl rfl rfl (by decide)) (ip' 1 0 [(48,iv 4)] (A6 (G0 (sr 1 rfl (ip' 1 0 [(49,bv true)] (ie (A7 (N5 rfl (A9 (nx (A7 (B2 (sr 3 rfl (ix rfl (F9 (v:=ag [iv 16,iv 7,iv 27]) (us:=[iv 16,iv 7,iv 27]) Tryz.underlying244 C1r rfl rfl rfl 4 rfl (by decide) rfl rfl rfl) ?_)))))))))))))))))
     refine P1 2 0 [0] (fun b47=>[(4,pt b47 0)]) (fun b47=>[bx b47 (I3 (⟨16,7,27⟩:Atr)) 243,bx b45 (I3 (⟨8,5,25⟩:Atr)) 243,bx b43 (I3 (⟨4,3,23⟩:Atr)) 243,bx b41 (I3 (⟨2,2,22⟩:Atr)) 243,bx b39 (I3 (⟨1,1,22⟩:Atr)) 243,bx b2 [.slice none 0 0] 208,bx b1 (A5 a) 26]) (fun b47=>?_)
     refine ie (B2 (sr 7 rfl (zrl 7 0 [0,6] [(55,bv (decide ((bOp .and .i64 16 a.m)=0)))] (ie ?_))))
     refine zjd rfl hR ?_ ?_<;>clear hR<;>intro hR h48 h48p
     ·refine A9 (nx (A3 2 rfl (ix rfl (B6 (c:=5) rfl rfl rfl rfl (by decide)) (ip' 1 0 [(48,iv 5)] (A6 (G0 (sr 1 rfl (ip' 1 0 [(49,bv true)] (ie (A7 (N5 rfl (A9 (nx (A7 (B2 (sr 3 rfl (ix rfl (F9 (v:=ag [iv 32,iv 8,iv 28]) (us:=[iv 32,iv 8,iv 28]) Tryz.underlying244 C1r rfl rfl rfl 5 rfl (by decide) rfl rfl rfl) ?_)))))))))))))))))
      refine P1 2 0 [0] (fun b49=>[(4,pt b49 0)]) (fun b49=>[bx b49 (I3 (⟨32,8,28⟩:Atr)) 243,bx b47 (I3 (⟨16,7,27⟩:Atr)) 243,bx b45 (I3 (⟨8,5,25⟩:Atr)) 243,bx b43 (I3 (⟨4,3,23⟩:Atr)) 243,bx b41 (I3 (⟨2,2,22⟩:Atr)) 243,bx b39 (I3 (⟨1,1,22⟩:Atr)) 243,bx b2 [.slice none 0 0] 208,bx b1 (A5 a) 26]) (fun b49=>?_)
      refine ie (B2 (sr 7 rfl (zrl 7 0 [0,7] [(55,bv (decide ((bOp .and .i64 32 a.m)=0)))] (ie ?_))))
      refine zjd rfl hR ?_ ?_<;>clear hR<;>intro hR h50 h50p
      ·refine A9 (nx (A3 2 rfl (ix rfl (B6 (c:=6) rfl rfl rfl rfl (by decide)) (ip' 1 0 [(48,iv 6)] (A6 (G0 (sr 1 rfl (ip' 1 0 [(49,bv true)] (ie (A7 (N5 rfl (A9 (nx (A7 (B2 (sr 3 rfl (ix rfl (F9 (v:=ag [iv 64,iv 9,iv 29]) (us:=[iv 64,iv 9,iv 29]) Tryz.underlying244 C1r rfl rfl rfl 6 rfl (by decide) rfl rfl rfl) ?_)))))))))))))))))
       refine P1 2 0 [0] (fun b51=>[(4,pt b51 0)]) (fun b51=>[bx b51 (I3 (⟨64,9,29⟩:Atr)) 243,bx b49 (I3 (⟨32,8,28⟩:Atr)) 243,bx b47 (I3 (⟨16,7,27⟩:Atr)) 243,bx b45 (I3 (⟨8,5,25⟩:Atr)) 243,bx b43 (I3 (⟨4,3,23⟩:Atr)) 243,bx b41 (I3 (⟨2,2,22⟩:Atr)) 243,bx b39 (I3 (⟨1,1,22⟩:Atr)) 243,bx b2 [.slice none 0 0] 208,bx b1 (A5 a) 26]) (fun b51=>?_)
       refine ie (B2 (sr 7 rfl (zrl 7 0 [0,8] [(55,bv (decide ((bOp .and .i64 64 a.m)=0)))] (ie ?_))))
       refine zjd rfl hR ?_ ?_<;>clear hR<;>intro hR h52 h52p
       ·refine A9 (nx (A3 2 rfl (ix rfl (B6 (c:=7) rfl rfl rfl rfl (by decide)) (ip' 1 0 [(48,iv 7)] (A6 (G0 (sr 1 rfl (ip' 1 0 [(49,bv true)] (ie (A7 (N5 rfl (A9 (nx (A7 (B2 (sr 3 rfl (ix rfl (F9 (v:=ag [iv 128,iv 53,iv 55]) (us:=[iv 128,iv 53,iv 55]) Tryz.underlying244 C1r rfl rfl rfl 7 rfl (by decide) rfl rfl rfl) ?_)))))))))))))))))
        refine P1 2 0 [0] (fun b53=>[(4,pt b53 0)]) (fun b53=>[bx b53 (I3 (⟨128,53,55⟩:Atr)) 243,bx b51 (I3 (⟨64,9,29⟩:Atr)) 243,bx b49 (I3 (⟨32,8,28⟩:Atr)) 243,bx b47 (I3 (⟨16,7,27⟩:Atr)) 243,bx b45 (I3 (⟨8,5,25⟩:Atr)) 243,bx b43 (I3 (⟨4,3,23⟩:Atr)) 243,bx b41 (I3 (⟨2,2,22⟩:Atr)) 243,bx b39 (I3 (⟨1,1,22⟩:Atr)) 243,bx b2 [.slice none 0 0] 208,bx b1 (A5 a) 26]) (fun b53=>?_)
        refine ie (B2 (sr 7 rfl (zrl 7 0 [0,9] [(55,bv (decide ((bOp .and .i64 128 a.m)=0)))] (ie ?_))))
        refine zjd rfl hR ?_ ?_<;>clear hR<;>intro hR h54 h54p
        ·refine A9 (nx (A3 2 rfl (ix rfl (B6 (c:=8) rfl rfl rfl rfl (by decide)) (ip' 1 0 [(48,iv 8)] (A6 (G0 (sr 1 rfl (ip' 1 0 [(49,bv false)] (ie (A7 (A7y rfl (J1 (nx (sr 2 rfl (zrg 2 0 [8] [] [bx b53 (I3 (⟨128,53,55⟩:Atr)) 243,bx b51 (I3 (⟨64,9,29⟩:Atr)) 243,bx b49 (I3 (⟨32,8,28⟩:Atr)) 243,bx b47 (I3 (⟨16,7,27⟩:Atr)) 243,bx b45 (I3 (⟨8,5,25⟩:Atr)) 243,bx b43 (I3 (⟨4,3,23⟩:Atr)) 243,bx b41 (I3 (⟨2,2,22⟩:Atr)) 243,bx b39 (I3 (⟨1,1,22⟩:Atr)) 243,bx b2 [.slice none 0 0] 208,bx b1 (A5 a) 26] ?_)))))))))))))))
         subst hR
         refine ie (B0 ?_)
         exact zer hr hD (O3 rfl (G3 (us:=[.slice none 0 0]) A0w rfl 8 rfl rfl rfl)) (zq none 0) (mk [false,false,false,false,false,false,false,false,false,false] rfl) (A0.con1 A4u fn0)
        refine sr 4 rfl (zrl 4 0 [9] [(62,bv (decide (a.n=1)))] (ie ?_))
        refine zjd rfl hR ?_ ?_<;>clear hR<;>intro hR h55 h55p
        ·refine sr 5 rfl (zrl 2 3 [0] [(67,iv 53)] (it rfl (B3 (c:=I8) (xs:=([53]:List Int)) L8 rfl rfl rfl (by kernel_rfl)) fun b56=>?_))
         have:([53]:List Int).length=1:=rfl
         have hQ:=C9 hR;clear hR;obtain ⟨y4,hy4,hR⟩:=hQ
         refine zcm (M7 ([53]:List Int) (some ⟨b56,0,none⟩) 1 (by first|omega|(simp<;>omega)|(dsimp only;omega)|decide) (by first|omega|(simp<;>omega)|(dsimp only;omega)|decide) y4 hy4) (A0.pick [0] rfl) fun ⟨⟨q57,k58⟩,hp59⟩=>?_
         obtain ⟨hc60,hl61⟩:=hp59
         refine zrg 1 0 [8] [] [bx b53 (I3 (⟨128,53,55⟩:Atr)) 243,bx b51 (I3 (⟨64,9,29⟩:Atr)) 243,bx b49 (I3 (⟨32,8,28⟩:Atr)) 243,bx b47 (I3 (⟨16,7,27⟩:Atr)) 243,bx b45 (I3 (⟨8,5,25⟩:Atr)) 243,bx b43 (I3 (⟨4,3,23⟩:Atr)) 243,bx b41 (I3 (⟨2,2,22⟩:Atr)) 243,bx b39 (I3 (⟨1,1,22⟩:Atr)) 243,bx b2 [.slice q57 y4.length k58] 208,bx b1 (A5 a) 26] ?_
         subst hR
         refine ie (B0 ?_)
         exact zer hr hD (O3 rfl (G3 (us:=[.slice q57 y4.length k58]) A0w rfl 8 rfl rfl rfl)) (zq q57 k58) (mk [false,false,false,false,false,false,false,false,false,false] rfl) (A0.con1 (A1 0 rfl) fn0)
        refine sr 5 rfl (zrl 2 3 [0] [(52,iv 55)] (it rfl (B3 (c:=I8) (xs:=([55]:List Int)) L8 rfl rfl rfl (by kernel_rfl)) fun b62=>?_))
        have:([55]:List Int).length=1:=rfl
        have hQ:=C9 hR;clear hR;obtain ⟨y11,hy11,hR⟩:=hQ
        refine zcm (M7 ([55]:List Int) (some ⟨b62,0,none⟩) 1 (by first|omega|(simp<;>omega)|(dsimp only;omega)|decide) (by first|omega|(simp<;>omega)|(dsimp only;omega)|decide) y11 hy11) (A0.pick [0] rfl) fun ⟨⟨q63,k64⟩,hp65⟩=>?_
        obtain ⟨hc66,hl67⟩:=hp65
        refine zrg 1 0 [8] [] [bx b53 (I3 (⟨128,53,55⟩:Atr)) 243,bx b51 (I3 (⟨64,9,29⟩:Atr)) 243,bx b49 (I3 (⟨32,8,28⟩:Atr)) 243,bx b47 (I3 (⟨16,7,27⟩:Atr)) 243,bx b45 (I3 (⟨8,5,25⟩:Atr)) 243,bx b43 (I3 (⟨4,3,23⟩:Atr)) 243,bx b41 (I3 (⟨2,2,22⟩:Atr)) 243,bx b39 (I3 (⟨1,1,22⟩:Atr)) 243,bx b2 [.slice q63 y11.length k64] 208,bx b1 (A5 a) 26] ?_
        subst hR
        refine ie (B0 ?_)
        exact zer hr hD (O3 rfl (G3 (us:=[.slice q63 y11.length k64]) A0w rfl 8 rfl rfl rfl)) (zq q63 k64) (mk [false,false,false,false,false,false,false,false,false,false] rfl) (A0.con1 (A1 0 rfl) fn0)
       refine sr 4 rfl (zrl 4 0 [8] [(62,bv (decide (a.n=1)))] (ie ?_))
       refine zjd rfl hR ?_ ?_<;>clear hR<;>intro hR h68 h68p
       ·refine sr 5 rfl (zrl 2 3 [0] [(67,iv 9)] (it rfl (B3 (c:=I8) (xs:=([9]:List Int)) L8 rfl rfl rfl (by kernel_rfl)) fun b69=>?_))
        have:([9]:List Int).length=1:=rfl
        have hQ:=C9 hR;clear hR;obtain ⟨y19,hy19,hR⟩:=hQ
        refine zcm (M7 ([9]:List Int) (some ⟨b69,0,none⟩) 1 (by first|omega|(simp<;>omega)|(dsimp only;omega)|decide) (by first|omega|(simp<;>omega)|(dsimp only;omega)|decide) y19 hy19) (A0.pick [0] rfl) fun ⟨⟨q70,k71⟩,hp72⟩=>?_
        obtain ⟨hc73,hl74⟩:=hp72
        refine zrg 1 0 [7] [] [bx b51 (I3 (⟨64,9,29⟩:Atr)) 243,bx b49 (I3 (⟨32,8,28⟩:Atr)) 243,bx b47 (I3 (⟨16,7,27⟩:Atr)) 243,bx b45 (I3 (⟨8,5,25⟩:Atr)) 243,bx b43 (I3 (⟨4,3,23⟩:Atr)) 243,bx b41 (I3 (⟨2,2,22⟩:Atr)) 243,bx b39 (I3 (⟨1,1,22⟩:Atr)) 243,bx b2 [.slice q70 y19.length k71] 208,bx b1 (A5 a) 26] ?_
        subst hR
        refine ie (B0 ?_)
        exact zer hr hD (O3 rfl (G3 (us:=[.slice q70 y19.length k71]) A0w rfl 7 rfl rfl rfl)) (zq q70 k71) (mk [false,false,false,false,false,false,false,false,false] rfl) (A0.con1 (A1 0 rfl) fn0)
       refine sr 5 rfl (zrl 2 3 [0] [(52,iv 29)] (it rfl (B3 (c:=I8) (xs:=([29]:List Int)) L8 rfl rfl rfl (by kernel_rfl)) fun b75=>?_))
       have:([29]:List Int).length=1:=rfl
       have hQ:=C9 hR;clear hR;obtain ⟨y20,hy20,hR⟩:=hQ
       refine zcm (M7 ([29]:List Int) (some ⟨b75,0,none⟩) 1 (by first|omega|(simp<;>omega)|(dsimp only;omega)|decide) (by first|omega|(simp<;>omega)|(dsimp only;omega)|decide) y20 hy20) (A0.pick [0] rfl) fun ⟨⟨q76,k77⟩,hp78⟩=>?_
       obtain ⟨hc79,hl80⟩:=hp78
       refine zrg 1 0 [7] [] [bx b51 (I3 (⟨64,9,29⟩:Atr)) 243,bx b49 (I3 (⟨32,8,28⟩:Atr)) 243,bx b47 (I3 (⟨16,7,27⟩:Atr)) 243,bx b45 (I3 (⟨8,5,25⟩:Atr)) 243,bx b43 (I3 (⟨4,3,23⟩:Atr)) 243,bx b41 (I3 (⟨2,2,22⟩:Atr)) 243,bx b39 (I3 (⟨1,1,22⟩:Atr)) 243,bx b2 [.slice q76 y20.length k77] 208,bx b1 (A5 a) 26] ?_
       subst hR
       refine ie (B0 ?_)
       exact zer hr hD (O3 rfl (G3 (us:=[.slice q76 y20.length k77]) A0w rfl 7 rfl rfl rfl)) (zq q76 k77) (mk [false,false,false,false,false,false,false,false,false] rfl) (A0.con1 (A1 0 rfl) fn0)
      refine sr 4 rfl (zrl 4 0 [7] [(62,bv (decide (a.n=1)))] (ie ?_))
      refine zjd rfl hR ?_ ?_<;>clear hR<;>intro hR h81 h81p
      ·refine sr 5 rfl (zrl 2 3 [0] [(67,iv 8)] (it rfl (B3 (c:=I8) (xs:=([8]:List Int)) L8 rfl rfl rfl (by kernel_rfl)) fun b82=>?_))
       have:([8]:List Int).length=1:=rfl
       have hQ:=C9 hR;clear hR;obtain ⟨y18,hy18,hR⟩:=hQ
       refine zcm (M7 ([8]:List Int) (some ⟨b82,0,none⟩) 1 (by first|omega|(simp<;>omega)|(dsimp only;omega)|decide) (by first|omega|(simp<;>omega)|(dsimp only;omega)|decide) y18 hy18) (A0.pick [0] rfl) fun ⟨⟨q83,k84⟩,hp85⟩=>?_
       obtain ⟨hc86,hl87⟩:=hp85
       refine zrg 1 0 [6] [] [bx b49 (I3 (⟨32,8,28⟩:Atr)) 243,bx b47 (I3 (⟨16,7,27⟩:Atr)) 243,bx b45 (I3 (⟨8,5,25⟩:Atr)) 243,bx b43 (I3 (⟨4,3,23⟩:Atr)) 243,bx b41 (I3 (⟨2,2,22⟩:Atr)) 243,bx b39 (I3 (⟨1,1,22⟩:Atr)) 243,bx b2 [.slice q83 y18.length k84] 208,bx b1 (A5 a) 26] ?_
       subst hR
       refine ie (B0 ?_)
       exact zer hr hD (O3 rfl (G3 (us:=[.slice q83 y18.length k84]) A0w rfl 6 rfl rfl rfl)) (zq q83 k84) (mk [false,false,false,false,false,false,false,false] rfl) (A0.con1 (A1 0 rfl) fn0)
      refine sr 5 rfl (zrl 2 3 [0] [(52,iv 28)] (it rfl (B3 (c:=I8) (xs:=([28]:List Int)) L8 rfl rfl rfl (by kernel_rfl)) fun b88=>?_))
      have:([28]:List Int).length=1:=rfl
      have hQ:=C9 hR;clear hR;obtain ⟨y10,hy10,hR⟩:=hQ
      refine zcm (M7 ([28]:List Int) (some ⟨b88,0,none⟩) 1 (by first|omega|(simp<;>omega)|(dsimp only;omega)|decide) (by first|omega|(simp<;>omega)|(dsimp only;omega)|decide) y10 hy10) (A0.pick [0] rfl) fun ⟨⟨q89,k90⟩,hp91⟩=>?_
      obtain ⟨hc92,hl93⟩:=hp91
      refine zrg 1 0 [6] [] [bx b49 (I3 (⟨32,8,28⟩:Atr)) 243,bx b47 (I3 (⟨16,7,27⟩:Atr)) 243,bx b45 (I3 (⟨8,5,25⟩:Atr)) 243,bx b43 (I3 (⟨4,3,23⟩:Atr)) 243,bx b41 (I3 (⟨2,2,22⟩:Atr)) 243,bx b39 (I3 (⟨1,1,22⟩:Atr)) 243,bx b2 [.slice q89 y10.length k90] 208,bx b1 (A5 a) 26] ?_
      subst hR
      refine ie (B0 ?_)
      exact zer hr hD (O3 rfl (G3 (us:=[.slice q89 y10.length k90]) A0w rfl 6 rfl rfl rfl)) (zq q89 k90) (mk [false,false,false,false,false,false,false,false] rfl) (A0.con1 (A1 0 rfl) fn0)
     refine sr 4 rfl (zrl 4 0 [6] [(62,bv (decide (a.n=1)))] (ie ?_))
     refine zjd rfl hR ?_ ?_<;>clear hR<;>intro hR h94 h94p
     ·refine sr 5 rfl (zrl 2 3 [0] [(67,iv 7)] (it rfl (B3 (c:=I8) (xs:=([7]:List Int)) L8 rfl rfl rfl (by kernel_rfl)) fun b95=>?_))
      have:([7]:List Int).length=1:=rfl
      have hQ:=C9 hR;clear hR;obtain ⟨y12,hy12,hR⟩:=hQ
      refine zcm (M7 ([7]:List Int) (some ⟨b95,0,none⟩) 1 (by first|omega|(simp<;>omega)|(dsimp only;omega)|decide) (by first|omega|(simp<;>omega)|(dsimp only;omega)|decide) y12 hy12) (A0.pick [0] rfl) fun ⟨⟨q96,k97⟩,hp98⟩=>?_
      obtain ⟨hc99,hl100⟩:=hp98
      refine zrg 1 0 [5] [] [bx b47 (I3 (⟨16,7,27⟩:Atr)) 243,bx b45 (I3 (⟨8,5,25⟩:Atr)) 243,bx b43 (I3 (⟨4,3,23⟩:Atr)) 243,bx b41 (I3 (⟨2,2,22⟩:Atr)) 243,bx b39 (I3 (⟨1,1,22⟩:Atr)) 243,bx b2 [.slice q96 y12.length k97] 208,bx b1 (A5 a) 26] ?_
      subst hR
      refine ie (B0 ?_)
      exact zer hr hD (O3 rfl (G3 (us:=[.slice q96 y12.length k97]) A0w rfl 5 rfl rfl rfl)) (zq q96 k97) (mk [false,false,false,false,false,false,false] rfl) (A0.con1 (A1 0 rfl) fn0)
     refine sr 5 rfl (zrl 2 3 [0] [(52,iv 27)] (it rfl (B3 (c:=I8) (xs:=([27]:List Int)) L8 rfl rfl rfl (by kernel_rfl)) fun b101=>?_))
     have:([27]:List Int).length=1:=rfl
     have hQ:=C9 hR;clear hR;obtain ⟨y9,hy9,hR⟩:=hQ
     refine zcm (M7 ([27]:List Int) (some ⟨b101,0,none⟩) 1 (by first|omega|(simp<;>omega)|(dsimp only;omega)|decide) (by first|omega|(simp<;>omega)|(dsimp only;omega)|decide) y9 hy9) (A0.pick [0] rfl) fun ⟨⟨q102,k103⟩,hp104⟩=>?_
     obtain ⟨hc105,hl106⟩:=hp104
     refine zrg 1 0 [5] [] [bx b47 (I3 (⟨16,7,27⟩:Atr)) 243,bx b45 (I3 (⟨8,5,25⟩:Atr)) 243,bx b43 (I3 (⟨4,3,23⟩:Atr)) 243,bx b41 (I3 (⟨2,2,22⟩:Atr)) 243,bx b39 (I3 (⟨1,1,22⟩:Atr)) 243,bx b2 [.slice q102 y9.length k103] 208,bx b1 (A5 a) 26] ?_
     subst hR
     refine ie (B0 ?_)
     exact zer hr hD (O3 rfl (G3 (us:=[.slice q102 y9.length k103]) A0w rfl 5 rfl rfl rfl)) (zq q102 k103) (mk [false,false,false,false,false,false,false] rfl) (A0.con1 (A1 0 rfl) fn0)
    refine sr 4 rfl (zrl 4 0 [5] [(62,bv (decide (a.n=1)))] (ie ?_))
    refine zjd rfl hR ?_ ?_<;>clear hR<;>intro hR h107 h107p
    ·refine sr 5 rfl (zrl 2 3 [0] [(67,iv 5)] (it rfl (B3 (c:=I8) (xs:=([5]:List Int)) L8 rfl rfl rfl (by kernel_rfl)) fun b108=>?_))
     have:([5]:List Int).length=1:=rfl
     have hQ:=C9 hR;clear hR;obtain ⟨y21,hy21,hR⟩:=hQ
     refine zcm (M7 ([5]:List Int) (some ⟨b108,0,none⟩) 1 (by first|omega|(simp<;>omega)|(dsimp only;omega)|decide) (by first|omega|(simp<;>omega)|(dsimp only;omega)|decide) y21 hy21) (A0.pick [0] rfl) fun ⟨⟨q109,k110⟩,hp111⟩=>?_
     obtain ⟨hc112,hl113⟩:=hp111
     refine zrg 1 0 [4] [] [bx b45 (I3 (⟨8,5,25⟩:Atr)) 243,bx b43 (I3 (⟨4,3,23⟩:Atr)) 243,bx b41 (I3 (⟨2,2,22⟩:Atr)) 243,bx b39 (I3 (⟨1,1,22⟩:Atr)) 243,bx b2 [.slice q109 y21.length k110] 208,bx b1 (A5 a) 26] ?_
     subst hR
     refine ie (B0 ?_)
     exact zer hr hD (O3 rfl (G3 (us:=[.slice q109 y21.length k110]) A0w rfl 4 rfl rfl rfl)) (zq q109 k110) (mk [false,false,false,false,false,false] rfl) (A0.con1 (A1 0 rfl) fn0)
    refine sr 5 rfl (zrl 2 3 [0] [(52,iv 25)] (it rfl (B3 (c:=I8) (xs:=([25]:List Int)) L8 rfl rfl rfl (by kernel_rfl)) fun b114=>?_))
    have:([25]:List Int).length=1:=rfl
    have hQ:=C9 hR;clear hR;obtain ⟨y6,hy6,hR⟩:=hQ
    refine zcm (M7 ([25]:List Int) (some ⟨b114,0,none⟩) 1 (by first|omega|(simp<;>omega)|(dsimp only;omega)|decide) (by first|omega|(simp<;>omega)|(dsimp only;omega)|decide) y6 hy6) (A0.pick [0] rfl) fun ⟨⟨q115,k116⟩,hp117⟩=>?_
    obtain ⟨hc118,hl119⟩:=hp117
    refine zrg 1 0 [4] [] [bx b45 (I3 (⟨8,5,25⟩:Atr)) 243,bx b43 (I3 (⟨4,3,23⟩:Atr)) 243,bx b41 (I3 (⟨2,2,22⟩:Atr)) 243,bx b39 (I3 (⟨1,1,22⟩:Atr)) 243,bx b2 [.slice q115 y6.length k116] 208,bx b1 (A5 a) 26] ?_
    subst hR
    refine ie (B0 ?_)
    exact zer hr hD (O3 rfl (G3 (us:=[.slice q115 y6.length k116]) A0w rfl 4 rfl rfl rfl)) (zq q115 k116) (mk [false,false,false,false,false,false] rfl) (A0.con1 (A1 0 rfl) fn0)
   refine sr 4 rfl (zrl 4 0 [4] [(62,bv (decide (a.n=1)))] (ie ?_))
   refine zjd rfl hR ?_ ?_<;>clear hR<;>intro hR h120 h120p
   ·refine sr 5 rfl (zrl 2 3 [0] [(67,iv 3)] (it rfl (B3 (c:=I8) (xs:=([3]:List Int)) L8 rfl rfl rfl (by kernel_rfl)) fun b121=>?_))
    have:([3]:List Int).length=1:=rfl
    have hQ:=C9 hR;clear hR;obtain ⟨y14,hy14,hR⟩:=hQ
    refine zcm (M7 ([3]:List Int) (some ⟨b121,0,none⟩) 1 (by first|omega|(simp<;>omega)|(dsimp only;omega)|decide) (by first|omega|(simp<;>omega)|(dsimp only;omega)|decide) y14 hy14) (A0.pick [0] rfl) fun ⟨⟨q122,k123⟩,hp124⟩=>?_
    obtain ⟨hc125,hl126⟩:=hp124
    refine zrg 1 0 [3] [] [bx b43 (I3 (⟨4,3,23⟩:Atr)) 243,bx b41 (I3 (⟨2,2,22⟩:Atr)) 243,bx b39 (I3 (⟨1,1,22⟩:Atr)) 243,bx b2 [.slice q122 y14.length k123] 208,bx b1 (A5 a) 26] ?_
    subst hR
    refine ie (B0 ?_)
    exact zer hr hD (O3 rfl (G3 (us:=[.slice q122 y14.length k123]) A0w rfl 3 rfl rfl rfl)) (zq q122 k123) (mk [false,false,false,false,false] rfl) (A0.con1 (A1 0 rfl) fn0)
   refine sr 5 rfl (zrl 2 3 [0] [(52,iv 23)] (it rfl (B3 (c:=I8) (xs:=([23]:List Int)) L8 rfl rfl rfl (by kernel_rfl)) fun b127=>?_))
   have:([23]:List Int).length=1:=rfl
   have hQ:=C9 hR;clear hR;obtain ⟨y7,hy7,hR⟩:=hQ
   refine zcm (M7 ([23]:List Int) (some ⟨b127,0,none⟩) 1 (by first|omega|(simp<;>omega)|(dsimp only;omega)|decide) (by first|omega|(simp<;>omega)|(dsimp only;omega)|decide) y7 hy7) (A0.pick [0] rfl) fun ⟨⟨q128,k129⟩,hp130⟩=>?_
   obtain ⟨hc131,hl132⟩:=hp130
   refine zrg 1 0 [3] [] [bx b43 (I3 (⟨4,3,23⟩:Atr)) 243,bx b41 (I3 (⟨2,2,22⟩:Atr)) 243,bx b39 (I3 (⟨1,1,22⟩:Atr)) 243,bx b2 [.slice q128 y7.length k129] 208,bx b1 (A5 a) 26] ?_
   subst hR
   refine ie (B0 ?_)
   exact zer hr hD (O3 rfl (G3 (us:=[.slice q128 y7.length k129]) A0w rfl 3 rfl rfl rfl)) (zq q128 k129) (mk [false,false,false,false,false] rfl) (A0.con1 (A1 0 rfl) fn0)
  refine sr 4 rfl (zrl 4 0 [3] [(62,bv (decide (a.n=1)))] (ie ?_))
  refine zjd rfl hR ?_ ?_<;>clear hR<;>intro hR h133 h133p
  ·refine sr 5 rfl (zrl 2 3 [0] [(67,iv 2)] (it rfl (B3 (c:=I8) (xs:=([2]:List Int)) L8 rfl rfl rfl (by kernel_rfl)) fun b134=>?_))
   have:([2]:List Int).length=1:=rfl
   have hQ:=C9 hR;clear hR;obtain ⟨y13,hy13,hR⟩:=hQ
   refine zcm (M7 ([2]:List Int) (some ⟨b134,0,none⟩) 1 (by first|omega|(simp<;>omega)|(dsimp only;omega)|decide) (by first|omega|(simp<;>omega)|(dsimp only;omega)|decide) y13 hy13) (A0.pick [0] rfl) fun ⟨⟨q135,k136⟩,hp137⟩=>?_
   obtain ⟨hc138,hl139⟩:=hp137
   refine zrg 1 0 [2] [] [bx b41 (I3 (⟨2,2,22⟩:Atr)) 243,bx b39 (I3 (⟨1,1,22⟩:Atr)) 243,bx b2 [.slice q135 y13.length k136] 208,bx b1 (A5 a) 26] ?_
   subst hR
   refine ie (B0 ?_)
   exact zer hr hD (O3 rfl (G3 (us:=[.slice q135 y13.length k136]) A0w rfl 2 rfl rfl rfl)) (zq q135 k136) (mk [false,false,false,false] rfl) (A0.con1 (A1 0 rfl) fn0)
  refine sr 5 rfl (zrl 2 3 [0] [(52,iv 22)] (it rfl (B3 (c:=I8) (xs:=([22]:List Int)) L8 rfl rfl rfl (by kernel_rfl)) fun b140=>?_))
  have:([22]:List Int).length=1:=rfl
  have hQ:=C9 hR;clear hR;obtain ⟨y8,hy8,hR⟩:=hQ
  refine zcm (M7 ([22]:List Int) (some ⟨b140,0,none⟩) 1 (by first|omega|(simp<;>omega)|(dsimp only;omega)|decide) (by first|omega|(simp<;>omega)|(dsimp only;omega)|decide) y8 hy8) (A0.pick [0] rfl) fun ⟨⟨q141,k142⟩,hp143⟩=>?_
  obtain ⟨hc144,hl145⟩:=hp143
  refine zrg 1 0 [2] [] [bx b41 (I3 (⟨2,2,22⟩:Atr)) 243,bx b39 (I3 (⟨1,1,22⟩:Atr)) 243,bx b2 [.slice q141 y8.length k142] 208,bx b1 (A5 a) 26] ?_
  subst hR
  refine ie (B0 ?_)
  exact zer hr hD (O3 rfl (G3 (us:=[.slice q141 y8.length k142]) A0w rfl 2 rfl rfl rfl)) (zq q141 k142) (mk [false,false,false,false] rfl) (A0.con1 (A1 0 rfl) fn0)
 refine sr 4 rfl (zrl 4 0 [2] [(62,bv (decide (a.n=1)))] (ie ?_))
 refine zjd rfl hR ?_ ?_<;>clear hR<;>intro hR h146 h146p
 ·refine sr 5 rfl (zrl 2 3 [0] [(67,iv 1)] (it rfl (B3 (c:=I8) (xs:=([1]:List Int)) L8 rfl rfl rfl (by kernel_rfl)) fun b147=>?_))
  have:([1]:List Int).length=1:=rfl
  have hQ:=C9 hR;clear hR;obtain ⟨y17,hy17,hR⟩:=hQ
  refine zcm (M7 ([1]:List Int) (some ⟨b147,0,none⟩) 1 (by first|omega|(simp<;>omega)|(dsimp only;omega)|decide) (by first|omega|(simp<;>omega)|(dsimp only;omega)|decide) y17 hy17) (A0.pick [0] rfl) fun ⟨⟨q148,k149⟩,hp150⟩=>?_
  obtain ⟨hc151,hl152⟩:=hp150
  refine zrg 1 0 [1] [] [bx b39 (I3 (⟨1,1,22⟩:Atr)) 243,bx b2 [.slice q148 y17.length k149] 208,bx b1 (A5 a) 26] ?_
  subst hR
  refine ie (B0 ?_)
  exact zer hr hD (O3 rfl (G3 (us:=[.slice q148 y17.length k149]) A0w rfl 1 rfl rfl rfl)) (zq q148 k149) (mk [false,false,false] rfl) (A0.con1 (A1 0 rfl) fn0)
 refine sr 5 rfl (zrl 2 3 [0] [(52,iv 22)] (it rfl (B3 (c:=I8) (xs:=([22]:List Int)) L8 rfl rfl rfl (by kernel_rfl)) fun b153=>?_))
 have:([22]:List Int).length=1:=rfl
 have hQ:=C9 hR;clear hR;obtain ⟨y16,hy16,hR⟩:=hQ
 refine zcm (M7 ([22]:List Int) (some ⟨b153,0,none⟩) 1 (by first|omega|(simp<;>omega)|(dsimp only;omega)|decide) (by first|omega|(simp<;>omega)|(dsimp only;omega)|decide) y16 hy16) (A0.pick [0] rfl) fun ⟨⟨q154,k155⟩,hp156⟩=>?_
 obtain ⟨hc157,hl158⟩:=hp156
 refine zrg 1 0 [1] [] [bx b39 (I3 (⟨1,1,22⟩:Atr)) 243,bx b2 [.slice q154 y16.length k155] 208,bx b1 (A5 a) 26] ?_
 subst hR
 refine ie (B0 ?_)
 exact zer hr hD (O3 rfl (G3 (us:=[.slice q154 y16.length k155]) A0w rfl 1 rfl rfl rfl)) (zq q154 k155) (mk [false,false,false] rfl) (A0.con1 (A1 0 rfl) fn0)
def A0e:List Act→List (List Int)→Nat→(List (List Int)×Int)
 | [],out,t26=>(out,0)
 | hd_l1::tl_l1,out,t26=>(B5 (M5 hd_l1) fun (y2:List Int)=>A0e tl_l1 (out++([y2]:List (List Int))) (t26+1))
def A0h (l:List Act):List Act→Nat→(List (List Int)×Int)
 | [],t11=>(bif (decide ((16:Int)<(l.length:Int))) then (([]:List (List Int)),3) else A0e l ([]:List (List Int)) 0)
 | hd_l0::tl_l0,t11=>(bif (!decide ((I6 hd_l0)=0)) then (([]:List (List Int)),(I6 hd_l0)) else A0h l tl_l0 (t11+1))
def B0h (l:List Act):List (List Int)×Int :=
 A0h l l 0
theorem C8f (l:List Act) (lq:Option Addr) (lk:Nat) (hll:l.length≤9223372036854775807) (hcl:l.length≤lk) (R:List (List Int)×Int) (hR:B0h l=R):Con Tryz.prog 88 [.slice lq l.length lk] [] [sl A5 lq l,S7] ({t:VR×List Slc // VOk 1 R.1.length t.1∧B7 t.2 R.1}) (fun x=>.tuple #[.slice (va x.1.1.q) R.1.length x.1.1.k,iv R.2]) (fun x=>((vo D0 208 x.1.1 x.1.2)++([]))) (fun x=>[F3 I8 x.1.2 R.1]):=by
 refine zco Tryz.func88 [(0,.slice lq l.length lk)] fun X hX hr hD=>?_
 replace hR:=(B0h.eq_1 ..).symm.trans hR
 refine sr 2 rfl (ip' 2 0 [(2,.slice none 0 0)] (ie (A7 (sr 3 rfl (ip' 3 0 [(9,.slice lq l.length lk),(10,iv (l.length:Int)),(11,iv 0)] (ie (B2 (D1m (fun (t11:Nat)=>(t11≤l.length∧A0h l (l.drop t11) t11=R,[(0,.slice lq l.length lk),(2,.slice none 0 0),(9,.slice lq l.length lk),(10,iv (l.length:Int)),(11,iv (t11:Int))],[],[sl A5 lq l,S7],l.length - t11)) 0 ⟨(by omega),hR⟩ (mk [] rfl) A0.refl ?_))))))))
 rintro t11 ⟨hm1,hR⟩
 refine sr 1 rfl (ip' 1 0 [(12,bv (decide ((t11:Int)<(l.length:Int))))] ?_)
 refine ie (A7 (I9 rfl (fun h2=>?_) (fun h2=>?_)))
 ·have h2p:(t11:Int)<(l.length:Int):=by simpa using h2
  rw [A4r Act.zero (show t11<l.length by omega)] at hR;replace hR:=(A0h.eq_2 ..).symm.trans hR
  refine A9 (nx (A7 (B2 (sr 4 rfl (P3 0 rfl (by omega) fun a3 hq4=>(ix rfl (N0 A0v rfl rfl hq4 rfl t11 rfl (by omega)) (ix rfl (P5 (us:=A5 (l.getD t11 Act.zero)) B4z rfl rfl (O4 (c:=A5) (sz:=6) hq4 (fun _=>rfl) 0 rfl (gd Act.zero (by omega))) rfl) ?_)))))))
  refine P1 2 0 [0] (fun b5=>[(5,pt b5 0)]) (fun b5=>[bx b5 (A5 (l.getD t11 Act.zero)) 26]) (fun b5=>?_)
  refine ie (sr 3 rfl (zrl 1 2 [0] [(15,ag (A5 (l.getD t11 Act.zero)))] (zca (B2d (l.getD t11 Act.zero) _ rfl) fn0 (ip' 1 0 [(6,iv (I6 (l.getD t11 Act.zero)))] (ie (sr 2 rfl (ip' 2 0 [(18,bv (!decide ((I6 (l.getD t11 Act.zero))=0)))] (ie ?_))))))))
  refine zjn rfl hR ?_ ?_<;>clear hR<;>intro hR h6 h6p
  ·refine sr 3 rfl (ip' 3 0 [(2,.slice none 0 0),(3,iv (I6 (l.getD t11 Act.zero)))] ?_)
   subst hR
   refine ie (B0 ?_)
   exact zer hr hD (A4c rfl (B8 rfl) (B8 rfl)) ⟨(VR.nil,([]:List Slc)),⟨VOk.nil,B7.none⟩⟩ (mc [[bx b5 (A5 (l.getD t11 Act.zero)) 26],vo D0 208 VR.nil ([]:List Slc)] [false,true] rfl (by first|rfl|(simp only [List.length_set]<;>rfl))) (A0.con1 H9 fn0)
  refine A9 (nx (A3 2 rfl (ix rfl (B6 rfl rfl rfl rfl (by omega)) (ip' 1 0 [(11,iv ((t11:Int)+1))] (A6 ?_)))))
  exact D0x (z1:=t11) (t11+1) ⟨(by omega),hR⟩ (by (try dsimp only);omega) (mk [false] rfl) A0.refl
 have h2p:¬ ((t11:Int)<(l.length:Int)):=by simpa using h2
 rw [A4s h2p] at hR;replace hR:=(A0h.eq_1 ..).symm.trans hR
 refine J1 (nx (A7 (sr 3 rfl (ip' 3 0 [(23,bv (decide ((16:Int)<(l.length:Int))))] ?_))))
 refine ie ?_
 refine zjd rfl hR ?_ ?_<;>clear hR<;>intro hR h7 h7p
 ·refine sr 2 rfl (ip' 2 0 [(2,.slice none 0 0),(3,iv 3)] ?_)
  subst hR
  refine ie (B0 ?_)
  exact zer hr hD (A4c rfl (B8 rfl) (B8 rfl)) ⟨(VR.nil,([]:List Slc)),⟨VOk.nil,B7.none⟩⟩ (mc [vo D0 208 VR.nil ([]:List Slc)] [true] rfl (by first|rfl|(simp only [List.length_set]<;>rfl))) (A0.con1 H9 fn0)
 refine A9 (nx (A7 (sr 3 rfl (ip' 3 0 [(24,.slice lq l.length lk),(25,iv (l.length:Int)),(26,iv 0)] (ie (B2 ?_))))))
 refine B7z (fun (out:List (List Int)) (outr:VR) (outrs:List Slc) (t26:Nat)=>(t26≤l.length∧A0e (l.drop t26) out t26=R∧VOk 1 out.length outr∧B7 outrs out∧out.length≤t26∧l.length≤16,[(2,.slice (va outr.q) out.length outr.k),(24,.slice lq l.length lk),(25,iv (l.length:Int)),(26,iv (t26:Int))],((vo D0 208 outr outrs)++([])),[sl A5 lq l,S7,F3 I8 outrs out],l.length - t26)) ([]:List (List Int)) VR.nil ([]:List Slc) 0 ⟨(by omega),hR,VOk.nil,B7.none,(by constructor<;>first|omega|simp)⟩ (mc [vo D0 208 VR.nil ([]:List Slc)] [true] rfl (by first|rfl|(simp only [List.length_set]<;>rfl))) (A0.con1 (A1 0 rfl) (A0.con1 (A1 1 rfl) (A0.con1 H9 fn0))) ?_
 rintro out outr outrs t26 ⟨hm8,hR,hokoutr,hrowsoutrs,ho⟩
 have:=VOk.le hokoutr
 have:=hrowsoutrs.1
 refine sr 1 rfl (ip' 1 0 [(27,bv (decide ((t26:Int)<(l.length:Int))))] ?_)
 refine ie (A7 (I9 rfl (fun h9=>?_) (fun h9=>?_)))
 ·have h9p:(t26:Int)<(l.length:Int):=by simpa using h9
  rw [A4r Act.zero (show t26<l.length by omega)] at hR;replace hR:=(A0e.eq_2 ..).symm.trans hR
  refine A9 (nx (A7 (B2 (sr 4 rfl (P3 0 rfl (by omega) fun a10 hq11=>(ix rfl (N0 A0v rfl rfl hq11 rfl t26 rfl (by omega)) (ix rfl (P5 (us:=A5 (l.getD t26 Act.zero)) B4z rfl rfl (O4 (c:=A5) (sz:=6) hq11 (fun _=>rfl) 0 rfl (gd Act.zero (by omega))) rfl) ?_)))))))
  refine P1 2 0 [0] (fun b12=>[(8,pt b12 0)]) (fun b12=>(bx b12 (A5 (l.getD t26 Act.zero)) 26::(vo D0 208 outr outrs)++([]))) (fun b12=>?_)
  refine ie (A3 6 rfl (zrl 2 4 [0] [(30,.slice (va outr.q) out.length outr.k),(31,ag (A5 (l.getD t26 Act.zero)))] ?_))
  have hQ:=C9 hR;clear hR;obtain ⟨y2,hy2,hR⟩:=hQ
  refine zcm (D4g (l.getD t26 Act.zero) y2 hy2) (A0.pick [1] rfl) fun ⟨⟨q13,k14⟩,hp15⟩=>?_
  obtain ⟨hc16,hl17⟩:=hp15
  refine it rfl (B3 (c:=D0) (xs:=([⟨q13,y2.length,k14⟩]:List Slc)) B7w rfl rfl rfl (by kernel_rfl)) fun b18=>?_
  have hrows19:B7 ([⟨q13,y2.length,k14⟩]:List Slc) ([y2]:List (List Int)):=(B7.cons ⟨rfl,(by first|omega|(simp<;>omega)|(dsimp only;omega)|decide),(by first|omega|(simp<;>omega)|(dsimp only;omega)|decide)⟩ B7.none)
  refine C3 (q:=F3 I8 ([⟨q13,y2.length,k14⟩]:List Slc) ([y2]:List (List Int))) (N3 (A1 1 rfl) H9) ?_
  have:([⟨q13,y2.length,k14⟩]:List Slc).length=1:=rfl
  have hw22:B7 (outrs++([⟨q13,y2.length,k14⟩]:List Slc)) (out++([y2]:List (List Int))):=B7.append hrowsoutrs hrows19
  refine it rfl (J9 (r:=outr) (rs:=outrs) (xss:=out) (pre:=[bx b12 (A5 (l.getD t26 Act.zero)) 26]) (post:=[]) D4h rfl rfl rfl rfl rfl rfl rfl rfl rfl (A1 1 rfl) (A1 5 rfl) (A1 0 rfl) hrowsoutrs hrows19 hokoutr (by first|omega|(simp<;>omega)) (by first|omega|(simp<;>omega))) fun ⟨r20,hr21⟩=>?_
  have:=VOk.le hr21
  have:=VOk.cap hr21
  have:([y2]:List (List Int)).length=1:=rfl
  have:(out++([y2]:List (List Int))).length=out.length+1:=List.length_append
  refine ip' 1 0 [(2,.slice (va r20.q) ((out++([y2]:List (List Int))).length) r20.k)] (A6 (nx (A3 2 rfl (ix rfl (B6 rfl rfl rfl rfl (by omega)) (ip' 1 0 [(26,iv ((t26:Int)+1))] (A6 ?_))))))
  exact B3p (z1:=out) (z2:=outr) (z3:=outrs) (z4:=t26) (out++([y2]:List (List Int))) r20 (outrs++([⟨q13,y2.length,k14⟩]:List Slc)) (t26+1) ⟨(by omega),hR,hr21,hw22,(by first|omega|(simp<;>omega))⟩ (by (try dsimp only);omega) (mc [[bx b12 (A5 (l.getD t26 Act.zero)) 26],vo D0 208 r20 (outrs++([⟨q13,y2.length,k14⟩]:List Slc))] [false,true] rfl (by first|rfl|(simp only [List.length_set]<;>rfl))) (A0.pick [4,5,0] rfl)
 have h9p:¬ ((t26:Int)<(l.length:Int)):=by simpa using h9
 rw [A4s h9p] at hR;replace hR:=(A0e.eq_1 ..).symm.trans hR
 refine J1 (nx (sr 3 rfl (ip' 3 0 [(2,.slice (va outr.q) out.length outr.k),(3,iv 0)] ?_)))
 subst hR
 refine ie (B0 ?_)
 exact zer hr hD (A4c rfl (B8 rfl) (B8 rfl)) ⟨(outr,outrs),⟨hokoutr,hrowsoutrs⟩⟩ (mc [vo D0 208 outr outrs] [true] rfl (by first|rfl|(simp only [List.length_set]<;>rfl))) (A0.con1 (A1 2 rfl) fn0)
end Go.Proofs.YtanighkpfmgnbaaGreatDoor
set_option linter.unusedVariables false
set_option linter.unusedSimpArgs false
set_option linter.unnecessarySimpa false
set_option maxRecDepth 100000
namespace Go.Proofs.YtanighkpfmgnbaaGreatDoor
open Go Go.Fen
theorem E6t:Ty Tryz.prog 143 1 false:=⟨by kernel_rfl⟩
def A1h (l:List (List Int)):Bool :=
 (((decide ((l.length:Int)=1))&&(decide (((l.getD 0 []).length:Int)=1)))&&(decide (((l.getD 0 []).getD 0 0)=(-1))))
theorem C6m (l:List (List Int)) (lq:Option Addr) (lrs:List Slc) (lk:Nat) (hrowslrs:B7 lrs l) (hll:l.length≤9223372036854775807) (hcl:l.length≤lk) (R:Bool) (hR:A1h l=R):K5 Tryz.prog 186 [.slice lq l.length lk] [sl D0 lq lrs,F3 I8 lrs l] (bv R):=by
 refine zco Tryz.func186 [(0,.slice lq l.length lk)] fun X hX hr hD=>?_
 replace hR:=(A1h.eq_1 ..).symm.trans hR
 have:=hrowslrs.1
 refine sr 1 rfl (ip' 1 0 [] (ie (sr 21 rfl (ip' 4 17 [(6,bv (decide ((l.length:Int)=1)))] ?_))))
 refine zid 7 10 6 13 (decide (((l.getD 0 []).length:Int)=1)) (fun g1 g1p=>?_) ?_
 ·refine ip' 1 6 [(7,.slice lq l.length lk)] (P3 0 rfl (by omega) fun a2 hq3=>(C3 (A5c (k:=0) (d:=(⟨none,0,0⟩:Slc)) hrowslrs 1 rfl (by have:=hrowslrs.1;omega)) ?_))
  have:=A5e hrowslrs (k:=0) (d:=(⟨none,0,0⟩:Slc)) (by have:=hrowslrs.1;omega)
  refine ix rfl (N0 B7w rfl rfl hq3 rfl 0 rfl (by omega)) (ip' 1 4 [(9,pa (Addr.add a2 (0 * 1)))] (ix rfl (I5 (C4 (v:=.slice ((lrs.getD 0 (⟨none,0,0⟩:Slc)).q) ((lrs.getD 0 (⟨none,0,0⟩:Slc)).n) ((lrs.getD 0 (⟨none,0,0⟩:Slc)).k)) (us:=[.slice ((lrs.getD 0 (⟨none,0,0⟩:Slc)).q) ((lrs.getD 0 (⟨none,0,0⟩:Slc)).n) ((lrs.getD 0 (⟨none,0,0⟩:Slc)).k)]) E1i rfl rfl (U3 (O4 (c:=D0) (sz:=1) hq3 (fun _=>rfl) 1 rfl (gd (⟨none,0,0⟩:Slc) (by have:=hrowslrs.1;omega))) (ws:=[.slice ((lrs.getD 0 (⟨none,0,0⟩:Slc)).q) ((lrs.getD 0 (⟨none,0,0⟩:Slc)).n) ((lrs.getD 0 (⟨none,0,0⟩:Slc)).k)]) 1 rfl) rfl) (A5f hrowslrs (by have:=hrowslrs.1;omega))) (ip' 3 0 [(13,bv (decide (((l.getD 0 []).length:Int)=1)))] ?_)))
  exact A6 (Q2 6 6 13 g1 (A0.pick [1,2] rfl) (mk [] rfl) rfl rfl rfl rfl rfl)
 refine ip' 1 9 [(14,bv ((decide ((l.length:Int)=1))&&(decide (((l.getD 0 []).length:Int)=1))))] ?_
 refine zia 8 1 14 22 (decide (((l.getD 0 []).getD 0 0)=(-1))) (fun g4=>?_) ?_
 ·have g4p:((l.length:Int)=1)∧(((l.getD 0 []).length:Int)=1):=by simpa using g4
  refine ip' 1 7 [(15,.slice lq l.length lk)] (P3 0 rfl (by omega) fun a5 hq6=>(C3 (A5c (k:=0) (d:=(⟨none,0,0⟩:Slc)) hrowslrs 1 rfl (by have:=hrowslrs.1;omega)) ?_))
  have:=A5e hrowslrs (k:=0) (d:=(⟨none,0,0⟩:Slc)) (by have:=hrowslrs.1;omega)
  refine ix rfl (N0 B7w rfl rfl hq6 rfl 0 rfl (by omega)) (ip' 1 5 [(17,pa (Addr.add a5 (0 * 1)))] (ix rfl (I5 (C4 (v:=.slice ((lrs.getD 0 (⟨none,0,0⟩:Slc)).q) ((lrs.getD 0 (⟨none,0,0⟩:Slc)).n) ((lrs.getD 0 (⟨none,0,0⟩:Slc)).k)) (us:=[.slice ((lrs.getD 0 (⟨none,0,0⟩:Slc)).q) ((lrs.getD 0 (⟨none,0,0⟩:Slc)).n) ((lrs.getD 0 (⟨none,0,0⟩:Slc)).k)]) E1i rfl rfl (U3 (O4 (c:=D0) (sz:=1) hq6 (fun _=>rfl) 1 rfl (gd (⟨none,0,0⟩:Slc) (by have:=hrowslrs.1;omega))) (ws:=[.slice ((lrs.getD 0 (⟨none,0,0⟩:Slc)).q) ((lrs.getD 0 (⟨none,0,0⟩:Slc)).n) ((lrs.getD 0 (⟨none,0,0⟩:Slc)).k)]) 1 rfl) rfl) (A5f hrowslrs (by have:=hrowslrs.1;omega))) (P3 0 rfl (by omega) fun a7 hq8=>(ix rfl (N0 L8 rfl rfl hq8 rfl 0 rfl (by omega)) (ix rfl (C4 (v:=iv ((l.getD 0 []).getD 0 0)) (us:=[iv ((l.getD 0 []).getD 0 0)]) ty3 rfl rfl (O4 (c:=I8) (sz:=1) hq8 (fun _=>rfl) 0 rfl (gd 0 (by omega))) rfl) (ip' 2 0 [(22,bv (decide (((l.getD 0 []).getD 0 0)=(-1))))] ?_))))))
  exact A6 (Q2 8 14 22 g4 (A0.pick [1,2] rfl) (mk [] rfl) rfl rfl rfl rfl rfl)
 refine ip' 1 0 [(2,bv (((decide ((l.length:Int)=1))&&(decide (((l.getD 0 []).length:Int)=1)))&&(decide (((l.getD 0 []).getD 0 0)=(-1)))))] ?_
 subst hR
 refine ie (B0 ?_)
 exact F8 hr hD
def Y3 (n:Int):Bool :=
 ((decide (n<(-1)))||(decide ((9999:Int)<n)))
theorem B8y (n:Int) (R:Bool) (hR:Y3 n=R):K5 Tryz.prog 185 [iv n] [] (bv R):=by
 refine zco Tryz.func185 [(0,iv n)] fun X hX hr hD=>?_
 replace hR:=(Y3.eq_1 ..).symm.trans hR
 refine sr 1 rfl (ip' 1 0 [] (ie (sr 7 rfl (ip' 3 4 [(5,bv (decide (n<(-1))))] ?_))))
 refine zir 3 1 5 8 (decide ((9999:Int)<n)) (fun g1 g1p=>?_) ?_
 ·refine ip' 3 0 [(8,bv (decide ((9999:Int)<n)))] ?_
  exact A6 (Q2 2 5 8 g1 fn0 (mk [] rfl) rfl rfl rfl rfl rfl)
 refine ip' 1 0 [(2,bv ((decide (n<(-1)))||(decide ((9999:Int)<n))))] ?_
 subst hR
 refine ie (B0 ?_)
 exact F8 hr hD
def I1:List Int→Nat→Int
 | [],t8=>(-1)
 | hd_l0::tl_l0,t8=>(bif (Y3 hd_l0) then (t8:Int) else I1 tl_l0 (t8+1))
def N2 (s:List Int):Int :=
 I1 s 0
theorem B0l (s:List Int) (sq:Option Addr) (sk:Nat) (hls:s.length≤9223372036854775807) (hcs:s.length≤sk) (R:Int) (hR:N2 s=R):K5 Tryz.prog 210 [.slice sq s.length sk,.func (.func 185) #[] #[]] [sl I8 sq s] (iv R):=by
 refine zco Tryz.func210 [(0,.slice sq s.length sk),(1,.func (.func 185) #[] #[])] fun X hX hr hD=>?_
 replace hR:=(N2.eq_1 ..).symm.trans hR
 refine sr 1 rfl (ip' 1 0 [] (ie (A7 (sr 3 rfl (ip' 3 0 [(7,iv (s.length:Int)),(8,iv 0)] (ie (B2 (D1m (fun (t8:Nat)=>(t8≤s.length∧I1 (s.drop t8) t8=R,[(0,.slice sq s.length sk),(1,.func (.func 185) #[] #[]),(7,iv (s.length:Int)),(8,iv (t8:Int))],[],[sl I8 sq s],s.length - t8)) 0 ⟨(by omega),hR⟩ (mk [] rfl) A0.refl ?_))))))))
 rintro t8 ⟨hm1,hR⟩
 refine sr 1 rfl (ip' 1 0 [(9,bv (decide ((t8:Int)<(s.length:Int))))] ?_)
 refine ie (A7 (I9 rfl (fun h2=>?_) (fun h2=>?_)))
 ·have h2p:(t8:Int)<(s.length:Int):=by simpa using h2
  rw [A4r 0 (show t8<s.length by omega)] at hR;replace hR:=(I1.eq_2 ..).symm.trans hR
  refine A9 (nx (A7 (B2 (sr 2 rfl (ip' 2 0 [(5,iv (t8:Int))] (ie (sr 6 rfl (ip' 3 3 [(11,.func (.func 185) #[] #[]),(12,.slice sq s.length sk),(13,iv (t8:Int))] (P3 0 rfl (by omega) fun a3 hq4=>(ix rfl (N0 L8 rfl rfl hq4 rfl t8 rfl (by omega)) (ix rfl (C4 (v:=iv (s.getD t8 0)) (us:=[iv (s.getD t8 0)]) ty3 rfl rfl (O4 (c:=I8) (sz:=1) hq4 (fun _=>rfl) 0 rfl (gd 0 (by omega))) rfl) (zca (B8y (s.getD t8 0) _ rfl) fn0 (ie ?_)))))))))))))
  refine zjb rfl hR ?_ ?_<;>clear hR<;>intro hR h5
  ·refine sr 2 rfl (ip' 2 0 [(4,iv (t8:Int))] ?_)
   subst hR
   refine ie (B0 ?_)
   exact F8 hr hD
  refine A9 (nx (A3 2 rfl (ix rfl (B6 rfl rfl rfl rfl (by omega)) (ip' 1 0 [(8,iv ((t8:Int)+1))] (A6 ?_)))))
  exact D0x (z1:=t8) (t8+1) ⟨(by omega),hR⟩ (by (try dsimp only);omega) (mk [] rfl) A0.refl
 have h2p:¬ ((t8:Int)<(s.length:Int)):=by simpa using h2
 rw [A4s h2p] at hR;replace hR:=(I1.eq_1 ..).symm.trans hR
 refine J1 (nx (sr 1 rfl (ip' 1 0 [(4,iv (-1))] ?_)))
 subst hR
 refine ie (B0 ?_)
 exact F8 hr hD
def I2 (s:List Int):Bool :=
 (decide ((0:Int)≤(N2 s)))
theorem A8h (s:List Int) (sq:Option Addr) (sk:Nat) (hls:s.length≤9223372036854775807) (hcs:s.length≤sk) (R:Bool) (hR:I2 s=R):K5 Tryz.prog 184 [.slice sq s.length sk,.func (.func 185) #[] #[]] [sl I8 sq s] (bv R):=by
 refine zco Tryz.func184 [(0,.slice sq s.length sk),(1,.func (.func 185) #[] #[])] fun X hX hr hD=>?_
 replace hR:=(I2.eq_1 ..).symm.trans hR
 refine sr 1 rfl (ip' 1 0 [] (ie (sr 5 rfl (ip' 2 3 [(5,.slice sq s.length sk),(6,.func (.func 185) #[] #[])] (zca (B0l s sq sk (by first|omega|(simp<;>omega)|(dsimp only;omega)|decide) (by first|omega|(simp<;>omega)|(dsimp only;omega)|decide) _ rfl) A0.refl (ip' 2 0 [(4,bv (decide ((0:Int)≤(N2 s))))] ?_))))))
 subst hR
 refine ie (B0 ?_)
 exact F8 hr hD
def S4 (p:List Int):Bool :=
 (((decide ((p.length:Int)=0))||(decide ((6:Int)<(p.length:Int))))||(I2 p))
theorem C2k (p:List Int) (pq:Option Addr) (pk:Nat) (hlp:p.length≤9223372036854775807) (hcp:p.length≤pk) (R:Bool) (hR:S4 p=R):K5 Tryz.prog 183 [ag [.slice pq p.length pk]] [sl I8 pq p] (bv R):=by
 refine zco Tryz.func183 [(0,ag [.slice pq p.length pk])] fun X hX hr hD=>?_
 replace hR:=(S4.eq_1 ..).symm.trans hR
 refine sr 2 rfl (P1 2 0 [] (fun b1=>[(1,pt b1 0)]) (fun b1=>[bx b1 [.slice pq p.length pk] 208]) (fun b1=>(ie (sr 16 rfl (zrl 5 11 [0] [(7,bv (decide ((p.length:Int)=0)))] ?_)))))
 refine zir 5 6 7 12 (decide ((6:Int)<(p.length:Int))) (fun g2 g2p=>?_) ?_
 ·refine zrl 5 0 [0] [(12,bv (decide ((6:Int)<(p.length:Int))))] ?_
  exact zai 2 7 12 g2
 refine ip' 1 5 [(13,bv ((decide ((p.length:Int)=0))||(decide ((6:Int)<(p.length:Int)))))] ?_
 refine zio 4 1 13 17 (I2 p) (fun g3=>?_) ?_
 ·have g3p:¬ (((p.length:Int)=0)∨((6:Int)<(p.length:Int))):=by simpa using g3
  refine zrl 2 2 [0] [(15,.slice pq p.length pk)] (zca (A8h p pq pk (by first|omega|(simp<;>omega)|(dsimp only;omega)|decide) (by first|omega|(simp<;>omega)|(dsimp only;omega)|decide) _ rfl) A0.refl (ip' 1 0 [(17,bv (I2 p))] ?_))
  exact zai 4 13 17 g3
 refine ip' 1 0 [(2,bv (((decide ((p.length:Int)=0))||(decide ((6:Int)<(p.length:Int))))||(I2 p)))] ?_
 subst hR
 refine ie (B0 ?_)
 exact F8 hr hD
def D4:List (List Int)→Nat→Int
 | [],t8=>(-1)
 | hd_l0::tl_l0,t8=>(bif (S4 hd_l0) then (t8:Int) else D4 tl_l0 (t8+1))
def G5 (s:List (List Int)):Int :=
 D4 s 0
theorem A3x (s:List (List Int)) (sq:Option Addr) (srs:List Slc) (sk:Nat) (hrowssrs:B7 srs s) (hls:s.length≤9223372036854775807) (hcs:s.length≤sk) (R:Int) (hR:G5 s=R):K5 Tryz.prog 211 [.slice sq s.length sk,.func (.func 183) #[] #[]] [sl D0 sq srs,F3 I8 srs s] (iv R):=by
 refine zco Tryz.func211 [(0,.slice sq s.length sk),(1,.func (.func 183) #[] #[])] fun X hX hr hD=>?_
 replace hR:=(G5.eq_1 ..).symm.trans hR
 have:=hrowssrs.1
 refine sr 1 rfl (ip' 1 0 [] (ie (A7 (sr 3 rfl (ip' 3 0 [(7,iv (s.length:Int)),(8,iv 0)] (ie (B2 (D1m (fun (t8:Nat)=>(t8≤s.length∧D4 (s.drop t8) t8=R,[(0,.slice sq s.length sk),(1,.func (.func 183) #[] #[]),(7,iv (s.length:Int)),(8,iv (t8:Int))],[],[sl D0 sq srs,F3 I8 srs s],s.length - t8)) 0 ⟨(by omega),hR⟩ (mk [] rfl) A0.refl ?_))))))))
 rintro t8 ⟨hm1,hR⟩
 refine sr 1 rfl (ip' 1 0 [(9,bv (decide ((t8:Int)<(s.length:Int))))] ?_)
 refine ie (A7 (I9 rfl (fun h2=>?_) (fun h2=>?_)))
 ·have h2p:(t8:Int)<(s.length:Int):=by simpa using h2
  rw [A4r [] (show t8<s.length by omega)] at hR;replace hR:=(D4.eq_2 ..).symm.trans hR
  refine A9 (nx (A7 (B2 (sr 2 rfl (ip' 2 0 [(5,iv (t8:Int))] (ie (sr 6 rfl (ip' 3 3 [(11,.func (.func 183) #[] #[]),(12,.slice sq s.length sk),(13,iv (t8:Int))] (P3 0 rfl (by omega) fun a3 hq4=>(C3 (A5c (k:=t8) (d:=(⟨none,0,0⟩:Slc)) hrowssrs 1 rfl (by have:=hrowssrs.1;omega)) ?_))))))))))
  have:=A5e hrowssrs (k:=t8) (d:=(⟨none,0,0⟩:Slc)) (by have:=hrowssrs.1;omega)
  refine ix rfl (N0 B7w rfl rfl hq4 rfl t8 rfl (by omega)) (ix rfl (I5 (P5 (us:=[.slice ((srs.getD t8 (⟨none,0,0⟩:Slc)).q) ((srs.getD t8 (⟨none,0,0⟩:Slc)).n) ((srs.getD t8 (⟨none,0,0⟩:Slc)).k)]) A0w rfl rfl (O4 (c:=D0) (sz:=1) hq4 (fun _=>rfl) 1 rfl (gd (⟨none,0,0⟩:Slc) (by have:=hrowssrs.1;omega))) rfl) (congrArg (fun z=>ag [z]) (A5f hrowssrs (by have:=hrowssrs.1;omega)))) (zca (C2k (s.getD t8 []) ((srs.getD t8 (⟨none,0,0⟩:Slc)).q) ((srs.getD t8 (⟨none,0,0⟩:Slc)).k) (by first|omega|(simp<;>omega)|(dsimp only;omega)|decide) (by first|omega|(simp<;>omega)|(dsimp only;omega)|decide) _ rfl) (A0.pick [0] rfl) (ie ?_)))
  refine zjb rfl hR ?_ ?_<;>clear hR<;>intro hR h5
  ·refine sr 2 rfl (ip' 2 0 [(4,iv (t8:Int))] ?_)
   subst hR
   refine ie (B0 ?_)
   exact F8 hr hD
  refine A9 (nx (A3 2 rfl (ix rfl (B6 rfl rfl rfl rfl (by omega)) (ip' 1 0 [(8,iv ((t8:Int)+1))] (A6 ?_)))))
  exact D0x (z1:=t8) (t8+1) ⟨(by omega),hR⟩ (by (try dsimp only);omega) (mk [] rfl) (A0.pick [1,2] rfl)
 have h2p:¬ ((t8:Int)<(s.length:Int)):=by simpa using h2
 rw [A4s h2p] at hR;replace hR:=(D4.eq_1 ..).symm.trans hR
 refine J1 (nx (sr 1 rfl (ip' 1 0 [(4,iv (-1))] ?_)))
 subst hR
 refine ie (B0 ?_)
 exact F8 hr hD
def E9 (s:List (List Int)):Bool :=
 (decide ((0:Int)≤(G5 s)))
theorem A3a (s:List (List Int)) (sq:Option Addr) (srs:List Slc) (sk:Nat) (hrowssrs:B7 srs s) (hls:s.length≤9223372036854775807) (hcs:s.length≤sk) (R:Bool) (hR:E9 s=R):K5 Tryz.prog 187 [.slice sq s.length sk,.func (.func 183) #[] #[]] [sl D0 sq srs,F3 I8 srs s] (bv R):=by
 refine zco Tryz.func187 [(0,.slice sq s.length sk),(1,.func (.func 183) #[] #[])] fun X hX hr hD=>?_
 replace hR:=(E9.eq_1 ..).symm.trans hR
 have:=hrowssrs.1
 refine sr 1 rfl (ip' 1 0 [] (ie (sr 5 rfl (ip' 2 3 [(5,.slice sq s.length sk),(6,.func (.func 183) #[] #[])] (zca (A3x s sq srs sk hrowssrs (by first|omega|(simp<;>omega)|(dsimp only;omega)|decide) (by first|omega|(simp<;>omega)|(dsimp only;omega)|decide) _ rfl) A0.refl (ip' 2 0 [(4,bv (decide ((0:Int)≤(G5 s))))] ?_))))))
 subst hR
 refine ie (B0 ?_)
 exact F8 hr hD
def R0 (l:List (List Int)):Int :=
 (bif (((decide ((16:Int)<(l.length:Int)))||(A1h l))||(E9 l)) then 150 else 0)
def B7j (l:List (List Int)):Prop:=l.length≤16∧∀ r ∈ l,1≤r.length∧r.length≤6∧∀ n ∈ r,-1≤n∧n≤9999
theorem C5i:∀ (s:List Int) (t:Nat),I1 s t<0→∀ n ∈ s,-1≤n∧n≤9999
 | [],t,_,n,hn=>by cases hn
 | x::s,t,h,n,hn=>by
  simp only [I1] at h
  cases hc:Y3 x with
  | true=>rw [hc,cond_true] at h;omega
  | false =>
   rw [hc,cond_false] at h
   unfold Y3 at hc
   simp only [Bool.or_eq_false_iff,decide_eq_false_iff_not] at hc
   rcases List.mem_cons.1 hn with rfl | hn
   ·omega
   ·exact C5i s (t+1) h n hn
theorem C4y:∀ (s:List (List Int)) (t:Nat),D4 s t<0→∀ r ∈ s,S4 r=false
 | [],t,_,n,hn=>by cases hn
 | x::s,t,h,n,hn=>by
  simp only [D4] at h
  cases hc:S4 x with
  | true=>rw [hc,cond_true] at h;omega
  | false =>
   rw [hc,cond_false] at h
   rcases List.mem_cons.1 hn with rfl | hn
   ·exact hc
   ·exact C4y s (t+1) h n hn
theorem D1v {r:List Int} (h:S4 r=false):1≤r.length∧r.length≤6∧∀ n ∈ r,-1≤n∧n≤9999:=by
 unfold S4 at h
 simp only [Bool.or_eq_false_iff,decide_eq_false_iff_not] at h
 have h3:=h.2;unfold I2 N2 at h3;simp only [decide_eq_false_iff_not] at h3
 exact ⟨by omega,by omega,C5i r 0 (by omega)⟩
theorem B0f {l:List (List Int)} (h:R0 l=0):B7j l:=by
 unfold R0 at h
 generalize hc:(((decide ((16:Int)<(l.length:Int)))||(A1h l))||(E9 l))=c at h
 cases c with
 | true=>simp at h
 | false =>
  simp only [Bool.or_eq_false_iff,decide_eq_false_iff_not] at hc
  have h3:=hc.2;unfold E9 G5 at h3;simp only [decide_eq_false_iff_not] at h3
  exact ⟨by omega,fun r hr=>D1v (C4y l 0 (by omega) r hr)⟩
theorem B7j.at {l:List (List Int)} (h:B7j l) (i k:Nat):-1≤(l.getD i []).getD k 0∧(l.getD i []).getD k 0≤9999:=by
 by_cases hi:i<l.length
 ·by_cases hk:k<(l.getD i []).length
  ·rw [gdE hk]
   have hm:l.getD i [] ∈ l:=by rw [gdE hi];exact List.getElem_mem hi
   exact (h.2 _ hm).2.2 _ (List.getElem_mem hk)
  ·rw [show (l.getD i []).getD k 0=0 from gdN hk];omega
 ·rw [show l.getD i []=[] from gdN hi];simp
theorem B7j.row {l:List (List Int)} (h:B7j l) (i:Nat):(l.getD i []).length≤6:=by
 by_cases hi:i<l.length
 ·have hm:l.getD i [] ∈ l:=by rw [gdE hi];exact List.getElem_mem hi
  exact (h.2 _ hm).2.1
 ·rw [gdN hi];simp
theorem C6k (l:List (List Int)) (lq:Option Addr) (lrs:List Slc) (lk:Nat) (hrowslrs:B7 lrs l) (hll:l.length≤9223372036854775807) (hcl:l.length≤lk) (R:Int) (hR:R0 l=R):K5 Tryz.prog 127 [.slice lq l.length lk] [sl D0 lq lrs,F3 I8 lrs l] (iv R):=by
 refine zco Tryz.func127 [(0,.slice lq l.length lk)] fun X hX hr hD=>?_
 replace hR:=(R0.eq_1 ..).symm.trans hR
 have:=hrowslrs.1
 refine sr 1 rfl (ip' 1 0 [] (ie (sr 1 rfl (ip' 1 0 [(3,.func (.func 183) #[] #[])] (ie (A7 (sr 12 rfl (ip' 4 8 [(7,bv (decide ((16:Int)<(l.length:Int))))] ?_))))))))
 refine zir 3 5 7 10 (A1h l) (fun g1 g1p=>?_) ?_
 ·refine ip' 1 2 [(8,.slice lq l.length lk)] (zca (C6m l lq lrs lk hrowslrs (by first|omega|(simp<;>omega)|(dsimp only;omega)|decide) (by first|omega|(simp<;>omega)|(dsimp only;omega)|decide) _ rfl) A0.refl (ip' 1 0 [(10,bv (A1h l))] ?_))
  exact zai 4 7 10 g1
 refine ip' 1 4 [(11,bv ((decide ((16:Int)<(l.length:Int)))||(A1h l)))] ?_
 refine zio 4 0 11 15 (E9 l) (fun g2=>?_) ?_
 ·have g2p:=g2;try simp at g2p
  refine ip' 2 2 [(12,.slice lq l.length lk),(13,.func (.func 183) #[] #[])] (zca (A3a l lq lrs lk hrowslrs (by first|omega|(simp<;>omega)|(dsimp only;omega)|decide) (by first|omega|(simp<;>omega)|(dsimp only;omega)|decide) _ rfl) A0.refl (ip' 1 0 [(15,bv (E9 l))] ?_))
  exact zai 5 11 15 g2
 refine ie ?_
 refine zjb rfl hR ?_ ?_<;>clear hR<;>intro hR h3
 ·have h3p:=h3;try simp at h3p
  refine sr 1 rfl (ip' 1 0 [(2,iv 150)] ?_)
  subst hR
  refine ie (B0 ?_)
  exact F8 hr hD
 have h3p:=h3;try simp at h3p
 refine A9 (nx (sr 1 rfl (ip' 1 0 [(2,iv 0)] ?_)))
 subst hR
 refine ie (B0 ?_)
 exact F8 hr hD
def R6 (l:List (List Int)):List (List Int) :=
 l
theorem C6l (l:List (List Int)) (lq:Option Addr) (lrs:List Slc) (lk:Nat) (hrowslrs:B7 lrs l) (hll:l.length≤9223372036854775807) (hcl:l.length≤lk) (R:List (List Int)) (hR:R6 l=R):Con Tryz.prog 128 [.slice lq l.length lk] [] [sl D0 lq lrs,F3 I8 lrs l] (Addr×{t:Option Addr×List Slc×Nat // B7 t.2.1 R∧R.length≤t.2.2∧R.length≤9223372036854775807}) (fun x=>.func (.func 188) #[] #[pa x.1]) (fun x=>[]) (fun x=>[at_ x.1 [.slice x.2.1.1 R.length x.2.1.2.2],sl D0 x.2.1.1 x.2.1.2.1,F3 I8 x.2.1.2.1 R]):=by
 refine zco Tryz.func128 [(0,.slice lq l.length lk)] fun X hX hr hD=>?_
 replace hR:=(R6.eq_1 ..).symm.trans hR
 have:=hrowslrs.1
 refine sr 2 rfl (it rfl (Z5 (cs:=[.slice lq l.length lk]) rfl rfl rfl) fun b1=>?_)
 refine A2u 0 rfl ?_
 refine ip' 1 0 [] (ie (sr 2 rfl (ip' 2 0 [(2,.func (.func 188) #[] #[pa ⟨b1,0,none⟩])] ?_)))
 subst hR
 refine ie (B0 ?_)
 exact zer hr hD (O3 rfl (B8 rfl)) (⟨b1,0,none⟩,⟨(lq,lrs,lk),⟨hrowslrs,(by first|omega|(simp<;>omega)|(dsimp only;omega)|decide),(by first|omega|(simp<;>omega)|(dsimp only;omega)|decide)⟩⟩) (mk [] rfl) (A0.con1 (A1 0 rfl) (A0.con1 (A1 1 rfl) (A0.con1 (A1 2 rfl) fn0)))
def V0 (t19:Nat) (ahead:List UInt8) (ag_param_parts_1_l3:Nat→(List (List UInt8×List UInt8))) (part:List UInt8):List (List UInt8×List UInt8) :=
 ((ahead,part)::ag_param_parts_1_l3 (t19+1))
def Q9 (c0:List (List Int)) (t11:Nat) (t19:Nat) (ag_param_parts_1_l3:Nat→(List (List UInt8×List UInt8))) (ahead:List UInt8):List (List UInt8×List UInt8) :=
 (bif (!decide (((c0.getD t11 []).getD t19 0)=(-1))) then V0 t19 ahead ag_param_parts_1_l3 (Lib.itoa ((c0.getD t11 []).getD t19 0)) else V0 t19 ahead ag_param_parts_1_l3 ([]:List UInt8))
def H0 (c0:List (List Int)) (t11:Nat) (ag_param_parts_1_l2:Nat→(List (List UInt8×List UInt8))):List Int→Nat→(List (List UInt8×List UInt8))
 | [],t19=>ag_param_parts_1_l2 (t11+1)
 | hd_l3::tl_l3,t19=>(bif ((decide ((t19:Int)=0))&&(decide ((t11:Int)=0))) then Q9 c0 t11 t19 (H0 c0 t11 ag_param_parts_1_l2 tl_l3) ([]:List UInt8) else (bif (decide ((t19:Int)=0)) then Q9 c0 t11 t19 (H0 c0 t11 ag_param_parts_1_l2 tl_l3) ([59]:List UInt8) else Q9 c0 t11 t19 (H0 c0 t11 ag_param_parts_1_l2 tl_l3) ([58]:List UInt8)))
def G6 (c0:List (List Int)):List (List Int)→Nat→(List (List UInt8×List UInt8))
 | [],t11=>[]
 | hd_l2::tl_l2,t11=>H0 c0 t11 (G6 c0 tl_l2) hd_l2 0
def Q1 (c0:List (List Int)):List (List UInt8×List UInt8) :=
 G6 c0 c0 0
def A8w (x:List UInt8×List UInt8):Prop:=x.1.length≤1∧x.2.length≤21
theorem A8y (c0:List (List Int)) (h:B7j c0) (t11:Nat) (ag:Nat→List (List UInt8×List UInt8)) (B:Nat) (hag:∀ t,(ag t).length≤B∧∀ x ∈ ag t,A8w x):∀ (s:List Int) (t:Nat),(H0 c0 t11 ag s t).length≤s.length+B∧∀ x ∈ H0 c0 t11 ag s t,A8w x
 | [],t=>by have:=hag (t11+1);simp only [H0,List.length_nil];exact ⟨by omega,this.2⟩
 | n::s,t=>by
  have ih:=A8y c0 h t11 ag B hag s (t+1)
  have hb:=h.at t11 t
  have hl:=B8w ((c0.getD t11 []).getD t 0) (by omega) (by omega)
  simp only [H0,Q9,V0,Bool.cond_eq_ite]
  repeat' split
  all_goals refine ⟨by simp only [List.length_cons];omega,fun x hx=>?_⟩
  all_goals rcases List.mem_cons.1 hx with rfl | hx
  all_goals first|exact ih.2 x hx|exact ⟨by simp,by first|exact hl|simp⟩
theorem A8z (c0:List (List Int)) (h:B7j c0):∀ (s:List (List Int)) (t:Nat),(∀ r ∈ s,r.length≤6)→(G6 c0 s t).length≤6 * s.length∧∀ x ∈ G6 c0 s t,A8w x
 | [],t,_=>⟨by simp [G6],fun x hx=>by cases hx⟩
 | r::s,t,hs=>by
  have ih:=fun t'=>A8z c0 h s t' (fun r hr=>hs r (List.mem_cons_of_mem _ hr))
  have h6:=hs r (List.mem_cons_self ..)
  have hx:=A8y c0 h t (G6 c0 s) (6 * s.length) ih r 0
  simp only [G6,List.length_cons]
  exact ⟨by omega,hx.2⟩
theorem B2t (c0:List (List Int)) (h:B7j c0):(Q1 c0).length≤96∧∀ x ∈ Q1 c0,A8w x:=by
 have:=A8z c0 h c0 0 (fun r hr=>(h.2 r hr).2.1)
 have h1:=h.1
 unfold Q1
 exact ⟨by omega,this.2⟩
theorem C2j (c0:List (List Int)) (c0p:Addr) (c0q:Option Addr) (c0rs:List Slc) (c0k:Nat) (hrowsc0rs:B7 c0rs c0) (hlc0:c0.length≤9223372036854775807) (hcc0:c0.length≤c0k) (hpo:B7j c0) (R:List (List UInt8×List UInt8)) (hR:Q1 c0=R):C2z Tryz.prog 188 [pa c0p] [sl D0 c0q c0rs,F3 I8 c0rs c0,at_ c0p [.slice c0q c0.length c0k],M3] (fun x=>sv x.1) (fun x=>sv x.2) R:=by
 refine D3l (n:=45) Tryz.func188 rfl (by kernel_rfl) rfl rfl (fun l=>[(0,.func (.yield l) #[] #[]),(1,pa c0p)]) (fun l=>⟨rfl,rfl,trivial⟩) fun X l I Ix L Φ hX hr hD hI0 hY=>?_
 replace hR:=(Q1.eq_1 ..).symm.trans hR
 have:=hrowsc0rs.1
 refine sr 3 rfl (ix rfl (C4 (v:=.slice c0q c0.length c0k) (us:=[.slice c0q c0.length c0k]) E6t rfl rfl (A1 2 rfl) rfl) (ip' 2 0 [(10,iv (c0.length:Int)),(11,iv 0)] (ie (B2 ?_))))
 refine B7z (fun (t11:Nat) (R_:List (List UInt8×List UInt8)) (Lt:Fen.Own) (Ft:List Pers)=>(t11≤c0.length∧G6 c0 (c0.drop t11) t11=R_∧I R_ Lt Ft,[(0,.func (.yield l) #[] #[]),(9,.slice c0q c0.length c0k),(10,iv (c0.length:Int)),(11,iv (t11:Int))],(Lt++([])),(sl D0 c0q c0rs::F3 I8 c0rs c0::at_ c0p [.slice c0q c0.length c0k]::M3::Ft),c0.length - t11)) 0 R L Φ ⟨(by omega),hR,hI0⟩ (mc [L] [true] rfl (by first|rfl|(simp only [List.length_set]<;>rfl))) (A0.con1 (A1 0 rfl) (A0.con1 (A1 1 rfl) (A0.con1 (A1 2 rfl) (A0.con1 (A1 3 rfl) (A0.dropT 4 rfl))))) ?_
 rintro t11 R_ Lt Ft ⟨hm1,hR,hILt⟩
 refine sr 1 rfl (ip' 1 0 [(12,bv (decide ((t11:Int)<(c0.length:Int))))] ?_)
 refine ie (A7 (I9 rfl (fun h2=>?_) (fun h2=>?_)))
 ·have h2p:(t11:Int)<(c0.length:Int):=by simpa using h2
  rw [A4r [] (show t11<c0.length by omega)] at hR;replace hR:=(G6.eq_2 ..).symm.trans hR
  refine A9 (nx (A7 (B2 (sr 6 rfl (ip' 1 5 [(13,iv (t11:Int))] (P3 0 rfl (by omega) fun a3 hq4=>(C3 (A5c (k:=t11) (d:=(⟨none,0,0⟩:Slc)) hrowsc0rs 1 rfl (by have:=hrowsc0rs.1;omega)) ?_)))))))
  have:=A5e hrowsc0rs (k:=t11) (d:=(⟨none,0,0⟩:Slc)) (by have:=hrowsc0rs.1;omega)
  refine ix rfl (N0 B7w rfl rfl hq4 rfl t11 rfl (by omega)) (ix rfl (I5 (P5 (us:=[.slice ((c0rs.getD t11 (⟨none,0,0⟩:Slc)).q) ((c0rs.getD t11 (⟨none,0,0⟩:Slc)).n) ((c0rs.getD t11 (⟨none,0,0⟩:Slc)).k)]) A0w rfl rfl (O4 (c:=D0) (sz:=1) hq4 (fun _=>rfl) 1 rfl (gd (⟨none,0,0⟩:Slc) (by have:=hrowsc0rs.1;omega))) rfl) (congrArg (fun z=>ag [z]) (A5f hrowsc0rs (by have:=hrowsc0rs.1;omega)))) ?_)
  refine P1 3 0 [0] (fun b5=>[(4,pt b5 0),(3,iv (t11:Int))]) (fun b5=>(bx b5 [.slice ((c0rs.getD t11 (⟨none,0,0⟩:Slc)).q) ((c0.getD t11 []).length) ((c0rs.getD t11 (⟨none,0,0⟩:Slc)).k)] 208::Lt++([]))) (fun b5=>?_)
  refine ie (sr 4 rfl (zrl 4 0 [0] [(17,.slice ((c0rs.getD t11 (⟨none,0,0⟩:Slc)).q) ((c0.getD t11 []).length) ((c0rs.getD t11 (⟨none,0,0⟩:Slc)).k)),(18,iv ((c0.getD t11 []).length:Int)),(19,iv 0)] (ie (B2 ?_))))
  refine B7z (fun (t19:Nat) (R_1:List (List UInt8×List UInt8)) (Lt1:Fen.Own) (Ft1:List Pers)=>(t19≤(c0.getD t11 []).length∧H0 c0 t11 (G6 c0 (c0.drop (t11+1))) ((c0.getD t11 []).drop t19) t19=R_1∧I R_1 Lt1 Ft1,[(0,.func (.yield l) #[] #[]),(3,iv (t11:Int)),(9,.slice c0q c0.length c0k),(10,iv (c0.length:Int)),(11,iv (t11:Int)),(17,.slice ((c0rs.getD t11 (⟨none,0,0⟩:Slc)).q) ((c0.getD t11 []).length) ((c0rs.getD t11 (⟨none,0,0⟩:Slc)).k)),(18,iv ((c0.getD t11 []).length:Int)),(19,iv (t19:Int))],(bx b5 [.slice ((c0rs.getD t11 (⟨none,0,0⟩:Slc)).q) ((c0.getD t11 []).length) ((c0rs.getD t11 (⟨none,0,0⟩:Slc)).k)] 208::Lt1++([])),(sl I8 ((c0rs.getD t11 (⟨none,0,0⟩:Slc)).q) (c0.getD t11 [])::sl D0 c0q c0rs::F3 I8 c0rs c0::at_ c0p [.slice c0q c0.length c0k]::M3::Ft1),(c0.getD t11 []).length - t19)) 0 R_ Lt Ft ⟨(by omega),hR,hILt⟩ (mc [[bx b5 [.slice ((c0rs.getD t11 (⟨none,0,0⟩:Slc)).q) ((c0.getD t11 []).length) ((c0rs.getD t11 (⟨none,0,0⟩:Slc)).k)] 208],Lt] [true,true] rfl (by first|rfl|(simp only [List.length_set]<;>rfl))) (A0.con1 (A1 0 rfl) (A0.con1 (A1 1 rfl) (A0.con1 (A1 2 rfl) (A0.con1 (A1 3 rfl) (A0.con1 (A1 4 rfl) (A0.dropT 5 rfl)))))) ?_
  rintro t19 R_1 Lt1 Ft1 ⟨hm6,hR,hILt1⟩
  have hq:=B7j.at hpo t11 t19
  refine sr 1 rfl (ip' 1 0 [(20,bv (decide ((t19:Int)<((c0.getD t11 []).length:Int))))] ?_)
  refine ie (A7 (I9 rfl (fun h7=>?_) (fun h7=>?_)))
  ·have h7p:(t19:Int)<((c0.getD t11 []).length:Int):=by simpa using h7
   rw [A4r 0 (show t19<(c0.getD t11 []).length by omega)] at hR;replace hR:=(H0.eq_2 ..).symm.trans hR
   refine A9 (nx (A7 (B2 (sr 5 rfl (ip' 1 4 [(21,iv (t19:Int))] (P3 0 rfl (by omega) fun a8 hq9=>(ix rfl (N0 L8 rfl rfl hq9 rfl t19 rfl (by omega)) (ix rfl (C4 (v:=iv ((c0.getD t11 []).getD t19 0)) (us:=[iv ((c0.getD t11 []).getD t19 0)]) ty3 rfl rfl (O4 (c:=I8) (sz:=1) hq9 (fun _=>rfl) 0 rfl (gd 0 (by omega))) rfl) (ip' 2 0 [(5,iv (t19:Int)),(6,iv ((c0.getD t11 []).getD t19 0))] (ie (sr 2 rfl (ip' 2 0 [(7,sv ([58]:List UInt8)),(8,sv ([]:List UInt8))] ?_))))))))))))
   refine ie (E7i (fun (ahead:List UInt8) (R_2:List (List UInt8×List UInt8)) (Lt2:Fen.Own) (Ft2:List Pers)=>(Q9 c0 t11 t19 (H0 c0 t11 (G6 c0 (c0.drop (t11+1))) ((c0.getD t11 []).drop (t19+1))) ahead=R_2∧I R_2 Lt2 Ft2,[(0,.func (.yield l) #[] #[]),(3,iv (t11:Int)),(6,iv ((c0.getD t11 []).getD t19 0)),(7,sv ahead),(8,sv ([]:List UInt8)),(9,.slice c0q c0.length c0k),(10,iv (c0.length:Int)),(11,iv (t11:Int)),(17,.slice ((c0rs.getD t11 (⟨none,0,0⟩:Slc)).q) ((c0.getD t11 []).length) ((c0rs.getD t11 (⟨none,0,0⟩:Slc)).k)),(18,iv ((c0.getD t11 []).length:Int)),(19,iv (t19:Int))],(bx b5 [.slice ((c0rs.getD t11 (⟨none,0,0⟩:Slc)).q) ((c0.getD t11 []).length) ((c0rs.getD t11 (⟨none,0,0⟩:Slc)).k)] 208::Lt2++([])),(sl I8 ((c0rs.getD t11 (⟨none,0,0⟩:Slc)).q) (c0.getD t11 [])::sl D0 c0q c0rs::F3 I8 c0rs c0::at_ c0p [.slice c0q c0.length c0k]::M3::Ft2))) ?_ ?_)
   ·refine B2 (sr 7 rfl (ip' 3 4 [(27,bv (decide ((t19:Int)=0)))] ?_))
    refine zid 3 1 27 30 (decide ((t11:Int)=0)) (fun g10 g10p=>?_) ?_
    ·refine ip' 3 0 [(30,bv (decide ((t11:Int)=0)))] ?_
     exact A6 (Q2 2 27 30 g10 A0.refl (mc [[bx b5 [.slice ((c0rs.getD t11 (⟨none,0,0⟩:Slc)).q) ((c0.getD t11 []).length) ((c0rs.getD t11 (⟨none,0,0⟩:Slc)).k)] 208],Lt1] [true,true] rfl (by first|rfl|(simp only [List.length_set]<;>rfl))) rfl rfl rfl rfl rfl)
    refine ip' 1 0 [(24,bv ((decide ((t19:Int)=0))&&(decide ((t11:Int)=0))))] (ie ?_)
    refine zja rfl hR ?_ ?_<;>clear hR<;>intro hR h11 h11p
    ·refine A3 1 rfl (ip' 1 0 [(7,sv ([]:List UInt8))] (A6 ?_))
     exact D8j ([]:List UInt8) R_1 Lt1 Ft1 ⟨hR,hILt1⟩ (mc [[bx b5 [.slice ((c0rs.getD t11 (⟨none,0,0⟩:Slc)).q) ((c0.getD t11 []).length) ((c0rs.getD t11 (⟨none,0,0⟩:Slc)).k)] 208],Lt1] [true,true] rfl (by first|rfl|(simp only [List.length_set]<;>rfl))) (A0.con1 (A1 0 rfl) (A0.con1 (A1 1 rfl) (A0.con1 (A1 2 rfl) (A0.con1 (A1 3 rfl) (A0.con1 (A1 4 rfl) (A0.dropT 5 rfl))))))
    refine sr 3 rfl (ip' 3 0 [(31,bv (decide ((t19:Int)=0)))] (ie ?_))
    refine zjd rfl hR ?_ ?_<;>clear hR<;>intro hR h12 h12p
    ·refine A3 1 rfl (ip' 1 0 [(7,sv ([59]:List UInt8))] (A6 ?_))
     exact D8j ([59]:List UInt8) R_1 Lt1 Ft1 ⟨hR,hILt1⟩ (mc [[bx b5 [.slice ((c0rs.getD t11 (⟨none,0,0⟩:Slc)).q) ((c0.getD t11 []).length) ((c0rs.getD t11 (⟨none,0,0⟩:Slc)).k)] 208],Lt1] [true,true] rfl (by first|rfl|(simp only [List.length_set]<;>rfl))) (A0.con1 (A1 0 rfl) (A0.con1 (A1 1 rfl) (A0.con1 (A1 2 rfl) (A0.con1 (A1 3 rfl) (A0.con1 (A1 4 rfl) (A0.dropT 5 rfl))))))
    refine A9 ?_
    exact D8j ([58]:List UInt8) R_1 Lt1 Ft1 ⟨hR,hILt1⟩ (mc [[bx b5 [.slice ((c0rs.getD t11 (⟨none,0,0⟩:Slc)).q) ((c0.getD t11 []).length) ((c0rs.getD t11 (⟨none,0,0⟩:Slc)).k)] 208],Lt1] [true,true] rfl (by first|rfl|(simp only [List.length_set]<;>rfl))) (A0.con1 (A1 0 rfl) (A0.con1 (A1 1 rfl) (A0.con1 (A1 2 rfl) (A0.con1 (A1 3 rfl) (A0.con1 (A1 4 rfl) (A0.dropT 5 rfl))))))
   intro ahead R_2 Lt2 Ft2
   rintro ⟨hR,hILt2⟩
   replace hR:=(Q9.eq_1 ..).symm.trans hR
   refine E7i (fun (part:List UInt8) (R_3:List (List UInt8×List UInt8)) (Lt3:Fen.Own) (Ft3:List Pers)=>(V0 t19 ahead (H0 c0 t11 (G6 c0 (c0.drop (t11+1))) ((c0.getD t11 []).drop (t19+1))) part=R_3∧I R_3 Lt3 Ft3,[(0,.func (.yield l) #[] #[]),(3,iv (t11:Int)),(7,sv ahead),(8,sv part),(9,.slice c0q c0.length c0k),(10,iv (c0.length:Int)),(11,iv (t11:Int)),(17,.slice ((c0rs.getD t11 (⟨none,0,0⟩:Slc)).q) ((c0.getD t11 []).length) ((c0rs.getD t11 (⟨none,0,0⟩:Slc)).k)),(18,iv ((c0.getD t11 []).length:Int)),(19,iv (t19:Int))],(bx b5 [.slice ((c0rs.getD t11 (⟨none,0,0⟩:Slc)).q) ((c0.getD t11 []).length) ((c0rs.getD t11 (⟨none,0,0⟩:Slc)).k)] 208::Lt3++([])),(sl I8 ((c0rs.getD t11 (⟨none,0,0⟩:Slc)).q) (c0.getD t11 [])::sl D0 c0q c0rs::F3 I8 c0rs c0::at_ c0p [.slice c0q c0.length c0k]::M3::Ft3))) ?_ ?_
   ·refine sr 2 rfl (ip' 2 0 [(35,bv (!decide (((c0.getD t11 []).getD t19 0)=(-1))))] (ie ?_))
    refine zjn rfl hR ?_ ?_<;>clear hR<;>intro hR h13 h13p
    ·refine A3 3 rfl (ip' 1 2 [(36,iv ((c0.getD t11 []).getD t19 0))] (zca (D9k ((c0.getD t11 []).getD t19 0) (by first|omega|(exact ⟨by omega,by omega⟩))) (A0.cons (A1 4 rfl) fn0) ?_))
     have:=B8w ((c0.getD t11 []).getD t19 0) (by omega) (by omega)
     refine ip' 1 0 [(8,sv (Lib.itoa ((c0.getD t11 []).getD t19 0)))] (A6 ?_)
     exact D8j (Lib.itoa ((c0.getD t11 []).getD t19 0)) R_2 Lt2 Ft2 ⟨hR,hILt2⟩ (mc [[bx b5 [.slice ((c0rs.getD t11 (⟨none,0,0⟩:Slc)).q) ((c0.getD t11 []).length) ((c0rs.getD t11 (⟨none,0,0⟩:Slc)).k)] 208],Lt2] [true,true] rfl (by first|rfl|(simp only [List.length_set]<;>rfl))) (A0.con1 (A1 0 rfl) (A0.con1 (A1 1 rfl) (A0.con1 (A1 2 rfl) (A0.con1 (A1 3 rfl) (A0.con1 (A1 4 rfl) (A0.dropT 5 rfl))))))
    refine A9 ?_
    exact D8j ([]:List UInt8) R_2 Lt2 Ft2 ⟨hR,hILt2⟩ (mc [[bx b5 [.slice ((c0rs.getD t11 (⟨none,0,0⟩:Slc)).q) ((c0.getD t11 []).length) ((c0rs.getD t11 (⟨none,0,0⟩:Slc)).k)] 208],Lt2] [true,true] rfl (by first|rfl|(simp only [List.length_set]<;>rfl))) (A0.con1 (A1 0 rfl) (A0.con1 (A1 1 rfl) (A0.con1 (A1 2 rfl) (A0.con1 (A1 3 rfl) (A0.con1 (A1 4 rfl) (A0.dropT 5 rfl))))))
   intro part R_3 Lt3 Ft3
   rintro ⟨hR,hILt3⟩
   replace hR:=(V0.eq_1 ..).symm.trans hR
   refine sr 5 rfl (ip' 3 2 [(38,.func (.yield l) #[] #[]),(39,sv ahead),(40,sv part)] ?_)
   have hq19:=B8q hR;clear hR;obtain ⟨R14,hR,hq19⟩:=hq19;rw [hq19] at hILt3
   refine it rfl (D3r (L2:=[bx b5 [.slice ((c0rs.getD t11 (⟨none,0,0⟩:Slc)).q) ((c0.getD t11 []).length) ((c0rs.getD t11 (⟨none,0,0⟩:Slc)).k)] 208]) (hY _ R14 _ _ hILt3) rfl rfl rfl rfl (A0.dropT 5 rfl) (L9 [[bx b5 [.slice ((c0rs.getD t11 (⟨none,0,0⟩:Slc)).q) ((c0.getD t11 []).length) ((c0rs.getD t11 (⟨none,0,0⟩:Slc)).k)] 208],Lt3] [1,0] 2 rfl (by decide) rfl [Lt3,[bx b5 [.slice ((c0rs.getD t11 (⟨none,0,0⟩:Slc)).q) ((c0.getD t11 []).length) ((c0rs.getD t11 (⟨none,0,0⟩:Slc)).k)] 208]] rfl (by simp only [List.flatten_cons,List.flatten_nil,List.append_nil,List.cons_append,List.nil_append,List.append_assoc]))) fun ⟨⟨y15,L16,Φ17⟩,hy18⟩=>?_
   refine A9f (A0.yield [sl I8 ((c0rs.getD t11 (⟨none,0,0⟩:Slc)).q) (c0.getD t11 []),sl D0 c0q c0rs,F3 I8 c0rs c0,at_ c0p [.slice c0q c0.length c0k],M3]) ?_
   refine ip' 1 0 [(42,bv (!y15))] ?_
   refine ie (I9 rfl (fun h20=>?_) (fun h20=>?_))
   ·have h20b:y15=false:=by simpa using h20
    rw [h20b] at hy18;try simp only [if_true,if_false,Bool.false_eq_true] at hy18
    refine B0 ?_
    exact C0c rfl ⟨hr,hD⟩ (by simp [hD]) (B6p rfl) (L':=L16) (Φ':=Φ17) (by exact .inr hy18) (mcT [L16,[bx b5 [.slice ((c0rs.getD t11 (⟨none,0,0⟩:Slc)).q) ((c0.getD t11 []).length) ((c0rs.getD t11 (⟨none,0,0⟩:Slc)).k)] 208]] 0 rfl rfl) (A0.dropT 5 rfl)
   ·have h20b:y15=true:=by simpa using h20
    rw [h20b] at hy18;try simp only [if_true,if_false,Bool.false_eq_true] at hy18
    refine A9 (nx (A3 2 rfl (ix rfl (B6 rfl rfl rfl rfl (by omega)) (ip' 1 0 [(19,iv ((t19:Int)+1))] (A6 (A2r (L9 [L16,[bx b5 [.slice ((c0rs.getD t11 (⟨none,0,0⟩:Slc)).q) ((c0.getD t11 []).length) ((c0rs.getD t11 (⟨none,0,0⟩:Slc)).k)] 208]] [1,0] 2 rfl (by decide) rfl [[bx b5 [.slice ((c0rs.getD t11 (⟨none,0,0⟩:Slc)).q) ((c0.getD t11 []).length) ((c0rs.getD t11 (⟨none,0,0⟩:Slc)).k)] 208],L16] rfl (by first|rfl|simp)) ?_))))))
    exact B3p (z1:=t19) (z2:=R_1) (z3:=Lt1) (z4:=Ft1) (t19+1) R14 L16 Φ17 ⟨(by omega),hR,hy18⟩ (by (try dsimp only);omega) (mc [[bx b5 [.slice ((c0rs.getD t11 (⟨none,0,0⟩:Slc)).q) ((c0.getD t11 []).length) ((c0rs.getD t11 (⟨none,0,0⟩:Slc)).k)] 208],L16] [true,true] rfl (by first|rfl|(simp only [List.length_set]<;>rfl))) (A0.con1 (A1 0 rfl) (A0.con1 (A1 1 rfl) (A0.con1 (A1 2 rfl) (A0.con1 (A1 3 rfl) (A0.con1 (A1 4 rfl) (A0.dropT 5 rfl))))))
  have h7p:¬ ((t19:Int)<((c0.getD t11 []).length:Int)):=by simpa using h7
  rw [A4s h7p] at hR;replace hR:=(H0.eq_1 ..).symm.trans hR
  refine J1 (nx (A3 2 rfl (ix rfl (B6 rfl rfl rfl rfl (by omega)) ?_)))
  refine ip' 1 0 [(11,iv ((t11:Int)+1))] (A6 ?_)
  exact B3p (z1:=t11) (z2:=R_) (z3:=Lt) (z4:=Ft) (t11+1) R_1 Lt1 Ft1 ⟨(by omega),hR,hILt1⟩ (by (try dsimp only);omega) (mc [[bx b5 [.slice ((c0rs.getD t11 (⟨none,0,0⟩:Slc)).q) ((c0.getD t11 []).length) ((c0rs.getD t11 (⟨none,0,0⟩:Slc)).k)] 208],Lt1] [false,true] rfl (by first|rfl|(simp only [List.length_set]<;>rfl))) (A0.con1 (A1 1 rfl) (A0.con1 (A1 2 rfl) (A0.con1 (A1 3 rfl) (A0.con1 (A1 4 rfl) (A0.dropT 5 rfl)))))
 have h2p:¬ ((t11:Int)<(c0.length:Int)):=by simpa using h2
 rw [A4s h2p] at hR;replace hR:=(G6.eq_1 ..).symm.trans hR
 subst hR
 refine J1 ?_
 exact Z4 rfl ⟨hr,hD⟩ (by simp [hD]) (B6p rfl) (L':=Lt) (Φ':=Ft) (by exact .inl hILt) (mcT [Lt] 0 rfl rfl) (A0.dropT 4 rfl)
def M9:List (List UInt8×List UInt8)→List UInt8→(List UInt8×Int)
 | [],bbuf=>(bbuf,0)
 | el::rest,bbuf=>(B5 (H4 bbuf (el.1++el.2)) fun (y0:List UInt8×Int)=>M9 rest y0.1)
def N8 (l:List (List Int)):List UInt8×Int :=
 (bif (!decide ((R0 l)=0)) then (([]:List UInt8),(R0 l)) else M9 (Q1 (R6 l)) ([]:List UInt8))
theorem B0c:∀ (es:List (List UInt8×List UInt8)) (b:List UInt8),(∀ x ∈ es,A8w x)→(M9 es b).1.length≤b.length+22 * es.length
 | [],b,_=>by simp [M9]
 | e::es,b,h=>by
  have h1:=h e (List.mem_cons_self ..);unfold A8w at h1
  have ih:=B0c es (H4 b (e.1++e.2)).1 (fun x hx=>h x (List.mem_cons_of_mem _ hx))
  rw [V4,List.length_append] at ih
  simp only [M9,B5,List.length_cons];omega
theorem A5j (l:List (List Int)):(N8 l).1.length≤2112:=by
 unfold N8
 by_cases h:R0 l=0
 ·have hp:=B2t l (B0f h)
  have:=B0c (Q1 (R6 l)) [] hp.2
  rw [h];simp only [decide_true,Bool.not_true,cond_false]
  have e:(Q1 (R6 l)).length≤96:=hp.1
  rw [List.length_nil] at this;omega
 ·simp [h]
theorem B7e (l:List (List Int)) (lq:Option Addr) (lrs:List Slc) (lk:Nat) (hrowslrs:B7 lrs l) (hll:l.length≤9223372036854775807) (hcl:l.length≤lk) (R:List UInt8×Int) (hR:N8 l=R):K5 Tryz.prog 89 [.slice lq l.length lk] [sl D0 lq lrs,F3 I8 lrs l,M3] (.tuple #[sv R.1,iv R.2]):=by
 refine zco Tryz.func89 [(0,.slice lq l.length lk)] fun X hX hr hD=>?_
 replace hR:=(N8.eq_1 ..).symm.trans hR
 have:=hrowslrs.1
 refine sr 2 rfl (ip' 2 0 [] (ie (A7 (sr 3 rfl (ip' 1 2 [(8,.slice lq l.length lk)] (zca (C6k l lq lrs lk hrowslrs (by first|omega|(simp<;>omega)|(dsimp only;omega)|decide) (by first|omega|(simp<;>omega)|(dsimp only;omega)|decide) _ rfl) (A0.pick [0,1] rfl) (ip' 1 0 [(4,iv (R0 l))] (ie (sr 2 rfl (ip' 2 0 [(11,bv (!decide ((R0 l)=0)))] (ie ?_)))))))))))
 refine zjn rfl hR ?_ ?_<;>clear hR<;>intro hR h1 h1p
 ·refine sr 3 rfl (ip' 3 0 [(2,sv ([]:List UInt8)),(3,iv (R0 l))] ?_)
  subst hR
  refine ie (B0 ?_)
  exact A9j hr hD
 refine A9 (nx (sr 1 rfl (P1 1 0 [] (fun b2=>[(5,pt b2 0)]) (fun b2=>[bx b2 [.pointer none,.slice none 0 0] 91]) (fun b2=>(ie (A7 (sr 2 rfl (ip' 1 1 [(13,.slice lq l.length lk)] ?_))))))))
 refine zcm (C6l l lq lrs lk hrowslrs (by first|omega|(simp<;>omega)|(dsimp only;omega)|decide) (by first|omega|(simp<;>omega)|(dsimp only;omega)|decide) _ rfl) (A0.pick [0,1] rfl) fun ⟨b3,⟨⟨q4,rs5,k6⟩,hp9⟩⟩=>?_
 obtain ⟨hr7,hc8,hl10⟩:=hp9
 have:=hr7.1
 refine ie (B2 (A2r (L9 [vo cU8 5 VR.nil ([]:List UInt8),[bx b2 [.pointer none,.slice none 0 0] 91]] [1,0] 2 rfl (by decide) rfl [[bx b2 [.pointer none,.slice none 0 0] 91],vo cU8 5 VR.nil ([]:List UInt8)] rfl (by first|rfl|simp)) ?_))
 refine D0w [(5,pt b2 0),(14,.func (.func 188) #[] #[pa b3])] ⟨rfl,rfl,trivial⟩ ?_
 refine E1b (β:=(List UInt8×List UInt8)) (enc:=(fun x=>sv x.1)) (enc2:=(fun x=>sv x.2)) (xs:=(Q1 (R6 l))) (σ:=Option Addr×List UInt8×VR) hr rfl (C2j (R6 l) b3 q4 rs5 k6 hr7 (by first|omega|(simp<;>omega)|(dsimp only;omega)|decide) (by first|omega|(simp<;>omega)|(dsimp only;omega)|decide) (by exact B0f (Decidable.of_not_not (by assumption))) _ rfl) (A0.pick [1,2,0,5] rfl) rfl rfl rfl (fun rem x=>M9 rem x.2.1=R∧(x.1=none∨x.1=some ⟨b2,0,none⟩)∧VOk 1 x.2.1.length x.2.2∧x.2.1.length+22 * rem.length≤2112∧∀ x ∈ rem,A8w x) (fun _ _=>False) (fun x=>(bx b2 [.pointer x.1,.slice (va x.2.2.q) x.2.1.length x.2.2.k] 91::(vo cU8 5 x.2.2 x.2.1)++([]))) (fun x=>[at_ b3 [.slice q4 ((R6 l).length) k6],sl D0 q4 rs5,F3 I8 rs5 (R6 l),sl D0 lq lrs,F3 I8 lrs l,M3]) (none,([]:List UInt8),VR.nil) (by exact ⟨hR,(.inl rfl),VOk.nil,(by have hpp:=B2t l (B0f (Decidable.of_not_not (by assumption)));refine ⟨?_,hpp.2⟩;have hpl:(Q1 (R6 l)).length≤96:=hpp.1;simp only [List.length_nil];omega)⟩) (mc [[bx b2 [.pointer none,.slice none 0 0] 91],vo cU8 5 VR.nil ([]:List UInt8)] [true,true] rfl (by first|rfl|(simp only [List.length_set]<;>rfl))) A0.refl ?_ ?_ (fun _ _ _ _ h=>h.elim)
 ·rintro el rest ⟨baddrz,bbuf,bbufr⟩ hI Y Y' K' hY' hK
  try dsimp only at hI
  obtain ⟨hR,hzbaddrz,hokbbufr,hg⟩:=hI
  replace hR:=(M9.eq_2 ..).symm.trans hR
  have:=VOk.le hokbbufr
  refine sr 1 rfl (ip' 1 0 [(6,sv el.1)] (ie (A3 1 rfl (ip' 1 0 [(7,sv el.2)] (A6 (hK _ _ _ ?_))))))
  refine B2 (A3 4 rfl (ip' 2 2 [(17,sv el.1),(18,sv el.2)] ?_))
  refine ix rfl (C6v rfl rfl rfl (by first|omega|(have hel:=hg.2 _ (List.mem_cons_self ..);unfold A8w at hel;omega)|(first|omega|(simp<;>omega)))) ?_
  have:=@List.length_append _ el.1 el.2
  have hQ:=C9 hR;clear hR;obtain ⟨y0,hy0,hR⟩:=hQ
  refine it rfl (C2 (L2:=[]) (A2e bbuf (el.1++el.2) b2 baddrz bbufr hzbaddrz hokbbufr (by first|omega|(simp<;>omega)|(have hel:=hg.2 _ (List.mem_cons_self ..);unfold A8w at hel;have hgl:=hg.1;simp only [List.length_append,List.length_cons,List.length_nil] at *;omega)) y0 hy0) rfl rfl rfl rfl rfl fn0 (L9 [[bx b2 [.pointer baddrz,.slice (va bbufr.q) bbuf.length bbufr.k] 91],vo cU8 5 bbufr bbuf] [0,1] 2 rfl (by decide) rfl [[bx b2 [.pointer baddrz,.slice (va bbufr.q) bbuf.length bbufr.k] 91],vo cU8 5 bbufr bbuf] rfl (by first|rfl|simp)) (fun ⟨r12,hk13⟩=>(bx b2 [pt b2 0,.slice (va r12.q) y0.1.length r12.k] 91::(vo cU8 5 r12 y0.1)++([]))) (fun _=>by first|rfl|simp)) fun ⟨r12,hk13⟩=>?_
  have:=VOk.le hk13
  have:=VOk.cap hk13
  have:=V4 bbuf (el.1++el.2);try rw [hy0] at this
  refine A6 ?_
  exact A9s (I:=fun rem x=>M9 rem x.2.1=R∧(x.1=none∨x.1=some ⟨b2,0,none⟩)∧VOk 1 x.2.1.length x.2.2∧x.2.1.length+22 * rem.length≤2112∧∀ x ∈ rem,A8w x) (Jx:=fun _ _=>False) (Lk:=fun x=>(bx b2 [.pointer x.1,.slice (va x.2.2.q) x.2.1.length x.2.2.k] 91::(vo cU8 5 x.2.2 x.2.1)++([]))) (Φk:=fun x=>[at_ b3 [.slice q4 ((R6 l).length) k6],sl D0 q4 rs5,F3 I8 rs5 (R6 l),sl D0 lq lrs,F3 I8 lrs l,M3]) (rest:=rest) ((some ⟨b2,0,none⟩),y0.1,r12) (by exact ⟨hR,(.inr rfl),hk13,(by have hel:=hg.2 _ (List.mem_cons_self ..);unfold A8w at hel;refine ⟨?_,fun x hx=>hg.2 x (List.mem_cons_of_mem _ hx)⟩;have hgl:=hg.1;try dsimp only;simp only [List.length_cons] at hgl;omega)⟩) (mc [[bx b2 [pt b2 0,.slice (va r12.q) y0.1.length r12.k] 91],vo cU8 5 r12 y0.1] [true,true] rfl (by first|rfl|(simp only [List.length_set]<;>rfl))) A0.refl
 ·rintro d14 ⟨baddrz,bbuf,bbufr⟩ hd14 hI
  try dsimp only at hI
  obtain ⟨hR,hzbaddrz,hokbbufr,hg⟩:=hI
  replace hR:=(M9.eq_1 ..).symm.trans hR
  have:=VOk.le hokbbufr
  refine nx (sr 3 rfl (it rfl (C2 (L2:=[]) (D2j b2 (.pointer baddrz) bbuf bbufr hokbbufr) rfl rfl rfl rfl rfl fn0 (L9 [[bx b2 [.pointer baddrz,.slice (va bbufr.q) bbuf.length bbufr.k] 91],vo cU8 5 bbufr bbuf] [0,1] 2 rfl (by decide) rfl [[bx b2 [.pointer baddrz,.slice (va bbufr.q) bbuf.length bbufr.k] 91],vo cU8 5 bbufr bbuf] rfl (by first|rfl|simp)) (fun _=>[]) (fun _=>rfl)) fun _=>(ip' 2 0 [(2,sv bbuf),(3,iv 0)] ?_)))
  subst hR
  refine ie (B0 ?_)
  exact B4n rfl ⟨hr,hD⟩ (by exact (V6.cons (show V6 X.D by rw [hD];exact V6.nil) hd14)) (A4c rfl (B8 rfl) (B8 rfl)) () (by rfl) (mk [] rfl) fn0
end Go.Proofs.YtanighkpfmgnbaaGreatDoor
