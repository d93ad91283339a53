import Derived.Test.YtkdgfkfbljdgmaaGreatDoorProg
import Derived.Test.YtkdgfkfbljdgmaaGreatDoorMA2
set_option linter.unusedVariables false
set_option linter.unusedSimpArgs false
set_option linter.unnecessarySimpa false
set_option maxRecDepth 100000
namespace Go.Proofs.YtkdgfkfbljdgmaaGreatDoor
open Go Go.Fen
structure Col where
 kind:Int
 n:Int
deriving DecidableEq
def S2 (x:Col):List Value:=[.int .i64 x.kind,.int .i64 x.n]
def Col.zero:Col:=⟨0,0⟩
theorem S2.inj (x y:Col) (h:S2 x=S2 y):x=y:=by
 rcases x with ⟨_,_⟩
 rcases y with ⟨_,_⟩
 simp [S2,bs] at h
 simp_all
structure Sty where
 attr:Int
 under:Int
 fore:Col
 back:Col
 line:Col
deriving DecidableEq
def C7 (x:Sty):List Value:=[.int .i64 x.attr,.int .i64 x.under]++(S2 x.fore++(S2 x.back++(S2 x.line)))
def Sty.zero:Sty:=⟨0,0,Col.zero,Col.zero,Col.zero⟩
theorem C7.inj (x y:Sty) (h:C7 x=C7 y):x=y:=by
 rcases x with ⟨_,_,⟨_,_⟩,⟨_,_⟩,⟨_,_⟩⟩
 rcases y with ⟨_,_,⟨_,_⟩,⟨_,_⟩,⟨_,_⟩⟩
 simp [S2,C7,bs] at h
 simp_all
structure Ar2 where
 a:Int
 b:Int
deriving DecidableEq
def B5c (x:Ar2):List Value:=[.int .i64 x.a,.int .i64 x.b]
def Ar2.zero:Ar2:=⟨0,0⟩
theorem B5c.inj (x y:Ar2) (h:B5c x=B5c y):x=y:=by
 rcases x with ⟨_,_⟩
 rcases y with ⟨_,_⟩
 simp [B5c,bs] at h
 simp_all
structure Ar3 where
 a:Int
 b:Int
 c:Int
deriving DecidableEq
def B6d (x:Ar3):List Value:=[.int .i64 x.a,.int .i64 x.b,.int .i64 x.c]
def Ar3.zero:Ar3:=⟨0,0,0⟩
theorem B6d.inj (x y:Ar3) (h:B6d x=B6d y):x=y:=by
 rcases x with ⟨_,_,_⟩
 rcases y with ⟨_,_,_⟩
 simp [B6d,bs] at h
 simp_all
structure Cel where
 base:Int
 marks:Ar2
 wide:Int
 sty:Sty
deriving DecidableEq
def B1 (x:Cel):List Value:=[.int .i64 x.base]++(B5c x.marks++([.int .i64 x.wide]++(C7 x.sty)))
def Cel.zero:Cel:=⟨0,Ar2.zero,0,Sty.zero⟩
theorem B1.inj (x y:Cel) (h:B1 x=B1 y):x=y:=by
 rcases x with ⟨_,⟨_,_⟩,_,⟨_,_,⟨_,_⟩,⟨_,_⟩,⟨_,_⟩⟩⟩
 rcases y with ⟨_,⟨_,_⟩,_,⟨_,_,⟨_,_⟩,⟨_,_⟩,⟨_,_⟩⟩⟩
 simp [B5c,B1,S2,C7,bs] at h
 simp_all
structure Spn where
 lo:Int
 hi:Int
deriving DecidableEq
def B6 (x:Spn):List Value:=[.int .i64 x.lo,.int .i64 x.hi]
def Spn.zero:Spn:=⟨0,0⟩
theorem B6.inj (x y:Spn) (h:B6 x=B6 y):x=y:=by
 rcases x with ⟨_,_⟩
 rcases y with ⟨_,_⟩
 simp [B6,bs] at h
 simp_all
structure Sp3 where
 row:Int
 frm:Int
 to:Int
deriving DecidableEq
def J7 (x:Sp3):List Value:=[.int .i64 x.row,.int .i64 x.frm,.int .i64 x.to]
def Sp3.zero:Sp3:=⟨0,0,0⟩
theorem J7.inj (x y:Sp3) (h:J7 x=J7 y):x=y:=by
 rcases x with ⟨_,_,_⟩
 rcases y with ⟨_,_,_⟩
 simp [J7,bs] at h
 simp_all
structure Plc where
 row:Int
 col:Int
deriving DecidableEq
def B3e (x:Plc):List Value:=[.int .i64 x.row,.int .i64 x.col]
def Plc.zero:Plc:=⟨0,0⟩
theorem B3e.inj (x y:Plc) (h:B3e x=B3e y):x=y:=by
 rcases x with ⟨_,_⟩
 rcases y with ⟨_,_⟩
 simp [B3e,bs] at h
 simp_all
structure Atr where
 a:Int
 b:Int
 c:Int
deriving DecidableEq
def C9i (x:Atr):List Value:=[.int .i64 x.a,.int .i64 x.b,.int .i64 x.c]
def Atr.zero:Atr:=⟨0,0,0⟩
theorem C9i.inj (x y:Atr) (h:C9i x=C9i y):x=y:=by
 rcases x with ⟨_,_,_⟩
 rcases y with ⟨_,_,_⟩
 simp [C9i,bs] at h
 simp_all
structure Act where
 kind:Int
 n:Int
 m:Int
 color:Col
 text:List UInt8
deriving DecidableEq
def B8 (x:Act):List Value:=[.int .i64 x.kind,.int .i64 x.n,.int .i64 x.m]++(S2 x.color++([.string (bs x.text)]))
def Act.zero:Act:=⟨0,0,0,Col.zero,[]⟩
theorem B8.inj (x y:Act) (h:B8 x=B8 y):x=y:=by
 rcases x with ⟨_,_,_,⟨_,_⟩,_⟩
 rcases y with ⟨_,_,_,⟨_,_⟩,_⟩
 simp [B8,S2,bs] at h
 simp_all
structure Shf where
 top:Int
 bottom:Int
 amt:Int
deriving DecidableEq
def B2 (x:Shf):List Value:=[.int .i64 x.top,.int .i64 x.bottom,.int .i64 x.amt]
def Shf.zero:Shf:=⟨0,0,0⟩
theorem B2.inj (x y:Shf) (h:B2 x=B2 y):x=y:=by
 rcases x with ⟨_,_,_⟩
 rcases y with ⟨_,_,_⟩
 simp [B2,bs] at h
 simp_all
structure Hld where
 shift:Shf
 gain:Int
deriving DecidableEq
def A5g (x:Hld):List Value:=B2 x.shift++([.int .i64 x.gain])
def Hld.zero:Hld:=⟨Shf.zero,0⟩
theorem A5g.inj (x y:Hld) (h:A5g x=A5g y):x=y:=by
 rcases x with ⟨⟨_,_,_⟩,_⟩
 rcases y with ⟨⟨_,_,_⟩,_⟩
 simp [A5g,B2,bs] at h
 simp_all
structure Drf where
 kind:Int
 n:Int
 m:Int
 rgb:Int
 text:List UInt8
deriving DecidableEq
def C8q (x:Drf):List Value:=[.int .u16 x.kind,.int .u16 x.n,.int .u16 x.m,.int .u32 x.rgb,.string (bs x.text)]
def Drf.zero:Drf:=⟨0,0,0,0,[]⟩
theorem C8q.inj (x y:Drf) (h:C8q x=C8q y):x=y:=by
 rcases x with ⟨_,_,_,_,_⟩
 rcases y with ⟨_,_,_,_,_⟩
 simp [C8q,bs] at h
 simp_all
structure Lks where
 f:Nat→Int
def I9 (x:Lks):List Value:=[.int .u64 (x.f 0),.int .u64 (x.f 1),.int .u64 (x.f 2),.int .u64 (x.f 3),.int .u64 (x.f 4),.int .u64 (x.f 5),.int .u64 (x.f 6),.int .u64 (x.f 7),.int .u64 (x.f 8),.int .u64 (x.f 9),.int .u64 (x.f 10),.int .u64 (x.f 11),.int .u64 (x.f 12),.int .u64 (x.f 13),.int .u64 (x.f 14),.int .u64 (x.f 15),.int .u64 (x.f 16),.int .u64 (x.f 17),.int .u64 (x.f 18),.int .u64 (x.f 19),.int .u64 (x.f 20),.int .u64 (x.f 21),.int .u64 (x.f 22),.int .u64 (x.f 23),.int .u64 (x.f 24),.int .u64 (x.f 25),.int .u64 (x.f 26),.int .u64 (x.f 27),.int .u64 (x.f 28),.int .u64 (x.f 29),.int .u64 (x.f 30),.int .u64 (x.f 31),.int .u64 (x.f 32),.int .u64 (x.f 33),.int .u64 (x.f 34),.int .u64 (x.f 35),.int .u64 (x.f 36),.int .u64 (x.f 37),.int .u64 (x.f 38),.int .u64 (x.f 39),.int .u64 (x.f 40)]
def Lks.zero:Lks:=⟨fun _=>0⟩
def Lks.put (x:Lks) (k:Nat) (v:Int):Lks:=⟨fun i=>if i=k then v else x.f i⟩
theorem B1t (x:Lks) {k:Nat} (h:k<41):(I9 x)[k]?=some (.int .u64 (x.f k)):=by
 rw [show I9 x=(List.range 41).map (fun i=>Value.int .u64 (x.f i)) from rfl];simp [h]
theorem C1s (x:Lks) {k:Nat} (h:k<41) (v:Int):Q3 (I9 x) [.int .u64 v] (k * 1)=I9 (x.put k v):=by
 rw [show I9 x=(List.range 41).map (fun i=>Value.int .u64 (x.f i)) from rfl,show I9 (x.put k v)=(List.range 41).map (fun i=>Value.int .u64 ((x.put k v).f i)) from rfl]
 unfold Q3
 rw [Nat.mul_one]
 apply List.ext_getElem?
 intro i
 rcases Nat.lt_trichotomy i k with e | e | e
 ·rw [List.getElem?_append_left obq,List.getElem?_append_left obq,List.getElem?_take_of_lt e]
  simp [Lks.put,show i<41 by omega,show i≠k by omega]
 ·subst e
  rw [List.getElem?_append_left obq,List.getElem?_append_right obq]
  simp [Lks.put,show i<41 by omega,show min i 41=i by omega]
 ·rw [List.getElem?_append_right obq,List.getElem?_drop]
  have a:k+1+(i - (k+1))=i:=by omega
  simp [Lks.put,show min k 41+1=k+1 by omega,a]
  by_cases hi:i<41
  ·simp [hi,show i≠k by omega]
  ·simp [hi]
def C3f:List Spn:=[⟨768,879⟩,⟨1155,1161⟩,⟨1425,1469⟩,⟨1552,1562⟩,⟨1611,1631⟩,⟨6832,6911⟩,⟨7616,7679⟩,⟨8203,8207⟩,⟨8400,8447⟩,⟨65024,65039⟩,⟨65056,65071⟩]
def C8z:List Spn:=[⟨4352,4447⟩,⟨11904,12350⟩,⟨12353,19903⟩,⟨19968,42191⟩,⟨44032,55203⟩,⟨63744,64255⟩,⟨65072,65135⟩,⟨65280,65376⟩,⟨65504,65510⟩,⟨127744,128591⟩,⟨128640,128767⟩,⟨129280,129535⟩,⟨131072,262141⟩]
abbrev O9:Pers:=sl B6 (some ⟨0,0,none⟩) C3f
abbrev P0:Pers:=sl B6 (some ⟨1,0,none⟩) C8z
theorem C8m:ApTy Tryz.prog 226 3 1 8:=⟨by kernel_rfl,by kernel_rfl,rfl⟩
theorem C3u:ApTy Tryz.prog 287 5 1 1:=⟨by kernel_rfl,by kernel_rfl,rfl⟩
theorem D3n:EqT Tryz.prog 68 B8:=EqT.of 20 rfl oki oki (fun _ _=>by kernel_rfl) B8.inj
theorem A2s:SlTy Tryz.prog 226 3 1:=⟨by kernel_rfl,by kernel_rfl⟩
theorem A1j:SlTy Tryz.prog 287 5 1:=⟨by kernel_rfl,by kernel_rfl⟩
theorem ty3:Ty Tryz.prog 3 1 false:=⟨by kernel_rfl⟩
theorem ty5:Ty Tryz.prog 5 1 false:=⟨by kernel_rfl⟩
theorem ty9:Ty Tryz.prog 9 1 false:=⟨by kernel_rfl⟩
theorem D2r:Ty Tryz.prog 226 1 false:=⟨by kernel_rfl⟩
def A6q (cp:Int):Bool :=
 (((decide ((0:Int)≤cp))&&(decide (cp≤1114111)))&&(!decide ((cp / 2048)=27)))
theorem B4e {cp:Int} {R:Bool} (hR:A6q cp=R):J6 Tryz.prog 98 [iv cp] [] (bv R):=by
 refine zce Tryz.func98 fun X hX hr hD=>?_
 replace hR:=(A6q.eq_1 ..).symm.trans hR
 refine sR_ rfl (pp0 1 rfl (ie (sR_ rfl (pp1 3 5 rfl ?_))))
 refine zid 3 6 5 8 (decide (cp≤1114111)) (fun e b=>?_) ?_
 ·refine pp1 3 8 rfl ?_
  exact A1 (J0 2 5 8 e fn0 sb_ rfl rfl rfl rfl rfl)
 refine pp1 1 9 rfl ?_
 refine zia 4 1 9 13 (!decide ((cp / 2048)=27)) (fun a=>?_) ?_
 ·have d:=bq_ a
  refine pp1 1 10 rfl ?_
  refine ix rfl (A0v (c:=cp / 2048) rfl rfl rfl ozw (by simp [Int.fdiv_eq_ediv_of_nonneg,IntKind.bits])) (pp1 2 13 rfl ?_)
  exact A1 (J0 4 9 13 a fn0 sb_ rfl rfl rfl rfl rfl)
 refine pp1 1 2 rfl ?_
 subst hR
 refine ie (A6 ?_)
 exact E2 hr hD
def F9 (a:Nat) (p1:Int):UInt8 :=
 (by8 (bOp .or .u8 128 ((by8 (bOp .and .u8 ((by8 (IntKind.u8.wrap (Int.fdiv p1 (2 ^ (min ((a:Int)).toNat 64))))).toNat:Int) 63)).toNat:Int)))
theorem A1p {a:Nat} {p1:Int} {p1b:Nat} {R:UInt8} (hR:F9 a p1=R):Con Tryz.prog 287 [iv (a:Int),pt p1b 0] [bx p1b [iv p1] 3] [] (Unit) (fun x=>.int .u8 (R.toNat:Int)) (fun x=>[bx p1b [iv p1] 3]) (fun x=>[]):=by
 refine zce Tryz.func287 fun X hX hr hD=>?_
 replace hR:=(F9.eq_1 ..).symm.trans hR
 refine sR_ rfl (pp0 1 rfl (ie (sR_ rfl (pl2 2 [0] 4 5 rfl (ix rfl (A0v rfl rfl rfl opx rfl) (ix rfl (H2 (v:=.int .u8 (IntKind.u8.wrap (Int.fdiv p1 (2 ^ (min ((a:Int)).toNat 64))))) (H9.pure rfl) (A9l)) (ix rfl (H2 (v:=.int .u8 (bOp .and .u8 ((by8 (IntKind.u8.wrap (Int.fdiv p1 (2 ^ (min ((a:Int)).toNat 64))))).toNat:Int) 63)) (H9.pure rfl) (B3o)) (ix rfl (H2 (v:=.int .u8 (bOp .or .u8 128 ((by8 (bOp .and .u8 ((by8 (IntKind.u8.wrap (Int.fdiv p1 (2 ^ (min ((a:Int)).toNat 64))))).toNat:Int) 63)).toNat:Int))) (H9.pure rfl) (B3o)) (pp1 1 3 rfl ?_)))))))))
 subst hR
 refine ie (A6 ?_)
 exact zer hr hD (U4 rfl (A4 rfl)) () sb_ fn0
def A5a (a:Int):List UInt8 :=
 (bif (decide (a<128)) then ([(by8 (IntKind.u8.wrap a))]:List UInt8) else (bif (decide (a<2048)) then ([(by8 (bOp .or .u8 192 ((by8 (IntKind.u8.wrap (a / 64))).toNat:Int))),(F9 0 a)]:List UInt8) else (bif (decide (a<65536)) then ([(by8 (bOp .or .u8 224 ((by8 (IntKind.u8.wrap (a / 4096))).toNat:Int))),(F9 6 a),(F9 0 a)]:List UInt8) else ([(by8 (bOp .or .u8 240 ((by8 (IntKind.u8.wrap (a / 262144))).toNat:Int))),(F9 12 a),(F9 6 a),(F9 0 a)]:List UInt8))))
def B2h (cp:Int):List UInt8 :=
 (bif (!(A6q cp)) then A5a 65533 else A5a cp)
theorem C1v (cp:Int):(B2h cp).length≤4:=by
 unfold B2h A5a
 simp only [Bool.cond_eq_ite]
 repeat' split
 all_goals simp
theorem opv {p:Prop} (h:p:=by first|rfl|simp):p:=h
theorem C6f {cp:Int} {R:List UInt8} (hR:B2h cp=R):J6 Tryz.prog 255 [iv cp] [] (sv R):=by
 refine zce Tryz.func255 fun X hX hr hD=>?_
 replace hR:=(B2h.eq_1 ..).symm.trans hR
 refine sR_ rfl (J3 2 0 [] (fun b=>[(1,pt b 0)]) (fun b=>[bx b [iv cp] 3]) (fun b=>?_))
 refine ie (B2l (fun (a:Int)=>(A5a a=R,[(1,pt b 0)],[bx b [iv a] 3],[])) ?_ ?_)
 ·refine sR_ rfl (pl1 1 [0] 4 rfl (zv rfl (B4e rfl) (pp1 1 6 rfl (ie ?_))))
  refine zjb rfl hR ?_ ?_<;>clear hR<;>intro hR l
  ·refine A0 1 rfl (zrg 1 0 [0] [] [bx b [iv 65533] 3] (A1 ?_))
   exact A1d 65533 hR sb_ fn0
  refine A3 ?_
  exact A1d cp hR sb_ fn0
 intro a
 rintro hR
 replace hR:=(A5a.eq_1 ..).symm.trans hR
 refine sR_ rfl (ip' 2 0 [(3,.func (.func 287) #[] #[pt b 0])] (ie (A2 (A8 (sR_ rfl (pl1 3 [0] 8 rfl (ie ?_)))))))
 refine zjd rfl hR ?_ ?_<;>clear hR<;>intro hR k g
 ·refine sR_ rfl (pl1 1 [0] 11 rfl (ix rfl (H2 (v:=.int .u8 (IntKind.u8.wrap a)) (H9.pure rfl) (A9l)) (it rfl (G2 (c:=cU8) (xs:=([(by8 (IntKind.u8.wrap a))]:List UInt8)) A1j rfl rfl rfl oki) fun m=>?_)))
  have:([(by8 (IntKind.u8.wrap a))]:List UInt8).length=1:=rfl
  refine ix rfl (B5l Tryz.underlying9 Tryz.underlying287 rfl rfl (D4 0 rfl) rfl oki) ?_
  have:([(by8 (IntKind.u8.wrap a))]:List UInt8).length=1:=rfl
  refine pp1 1 2 rfl ?_
  subst hR
  refine ie (A6 ?_)
  exact E2 hr hD
 refine sR_ rfl (pl1 3 [0] 15 rfl (ie ?_))
 refine zjd rfl hR ?_ ?_<;>clear hR<;>intro hR j h
 ·refine sh 9 [(9,[bx b [iv a] 3])] [] [bx b [iv a] 3] (zml 9 0) oki rfl oki oki oki sb_ A5.refl ?_
  refine zhp [4] 8 (zml 9 16) [(22,.func (.func 287) #[] #[pt b 0])] ?_
  refine zhl 0 [bx b [iv a] 3] (zml 9 17) rfl (A7 (v:=iv a) ty3 rfl rfl 0 rfl rfl) ?_
  refine zhk 1 (zml 9 19) rfl (A0v (c:=a / 64) rfl rfl rfl ozw (by simp [Int.fdiv_eq_ediv_of_nonneg,IntKind.bits])) (zhk 2 (zml 9 23) rfl (H2 (v:=.int .u8 (IntKind.u8.wrap (a / 64))) (H9.pure rfl) (A9l)) (zhk 3 (zml 9 31) rfl (H2 (v:=.int .u8 (bOp .or .u8 192 ((by8 (IntKind.u8.wrap (a / 64))).toNat:Int))) (H9.pure rfl) (B3o)) ?_))
  refine zho 5 [bx b [iv a] 3] (zml 9 63) rfl (I0 (L2:=[]) (A1p rfl) rfl rfl rfl rfl rfl fn0 (J5 [[bx b [iv a] 3]] [0] 1 rfl ozw rfl [[bx b [iv a] 3]] rfl opv) (fun _=>[bx b [iv a] 3]) (fun _=>rfl)) (fun _=>sb_) (fun _=>fn0) fun _=>?_
  refine zho 6 [bx b [iv a] 3] (zml 9 127) rfl (G2 (c:=cU8) (xs:=([(by8 (bOp .or .u8 192 ((by8 (IntKind.u8.wrap (a / 64))).toNat:Int))),(F9 0 a)]:List UInt8)) A1j rfl rfl rfl oki) (fun f=>sb_) (fun f=>fn0) fun f=>?_
  have:([(by8 (bOp .or .u8 192 ((by8 (IntKind.u8.wrap (a / 64))).toNat:Int))),(F9 0 a)]:List UInt8).length=2:=rfl
  refine zho 7 [bx b [iv a] 3] (zml 9 255) rfl (Det.tri (H9.det (B5l Tryz.underlying9 Tryz.underlying287 rfl rfl (D4 0 rfl) rfl oki))) (fun _=>sb_) (fun _=>fn0) fun _=>?_
  have:([(by8 (bOp .or .u8 192 ((by8 (IntKind.u8.wrap (a / 64))).toNat:Int))),(F9 0 a)]:List UInt8).length=2:=rfl
  refine zhp [8] 0 (zml 9 511) [(2,sv ([(by8 (bOp .or .u8 192 ((by8 (IntKind.u8.wrap (a / 64))).toNat:Int))),(F9 0 a)]:List UInt8))] ?_
  refine P4 oki ?_
  subst hR
  refine A6 ?_
  exact E2 hr hD
 refine sR_ rfl (pl1 3 [0] 26 rfl (ie ?_))
 refine zjd rfl hR ?_ ?_<;>clear hR<;>intro hR n i
 ·refine sh 11 [(11,[bx b [iv a] 3])] [] [bx b [iv a] 3] (zml 11 0) oki rfl oki oki oki sb_ A5.refl ?_
  refine zhp [4,6] 9 (zml 11 80) [(33,.func (.func 287) #[] #[pt b 0]),(35,.func (.func 287) #[] #[pt b 0])] ?_
  refine zhl 0 [bx b [iv a] 3] (zml 11 81) rfl (A7 (v:=iv a) ty3 rfl rfl 0 rfl rfl) ?_
  refine zhk 1 (zml 11 83) rfl (A0v (c:=a / 4096) rfl rfl rfl ozw (by simp [Int.fdiv_eq_ediv_of_nonneg,IntKind.bits])) (zhk 2 (zml 11 87) rfl (H2 (v:=.int .u8 (IntKind.u8.wrap (a / 4096))) (H9.pure rfl) (A9l)) (zhk 3 (zml 11 95) rfl (H2 (v:=.int .u8 (bOp .or .u8 224 ((by8 (IntKind.u8.wrap (a / 4096))).toNat:Int))) (H9.pure rfl) (B3o)) ?_))
  refine zho 5 [bx b [iv a] 3] (zml 11 127) rfl (I0 (L2:=[]) (A1p rfl) rfl rfl rfl rfl rfl fn0 (J5 [[bx b [iv a] 3]] [0] 1 rfl ozw rfl [[bx b [iv a] 3]] rfl opv) (fun _=>[bx b [iv a] 3]) (fun _=>rfl)) (fun _=>sb_) (fun _=>fn0) fun _=>?_
  refine zho 7 [bx b [iv a] 3] (zml 11 255) rfl (I0 (L2:=[]) (A1p rfl) rfl rfl rfl rfl rfl fn0 (J5 [[bx b [iv a] 3]] [0] 1 rfl ozw rfl [[bx b [iv a] 3]] rfl opv) (fun _=>[bx b [iv a] 3]) (fun _=>rfl)) (fun _=>sb_) (fun _=>fn0) fun _=>?_
  refine zho 8 [bx b [iv a] 3] (zml 11 511) rfl (G2 (c:=cU8) (xs:=([(by8 (bOp .or .u8 224 ((by8 (IntKind.u8.wrap (a / 4096))).toNat:Int))),(F9 6 a),(F9 0 a)]:List UInt8)) A1j rfl rfl rfl oki) (fun d=>sb_) (fun d=>fn0) fun d=>?_
  have:([(by8 (bOp .or .u8 224 ((by8 (IntKind.u8.wrap (a / 4096))).toNat:Int))),(F9 6 a),(F9 0 a)]:List UInt8).length=3:=rfl
  refine zho 9 [bx b [iv a] 3] (zml 11 1023) rfl (Det.tri (H9.det (B5l Tryz.underlying9 Tryz.underlying287 rfl rfl (D4 0 rfl) rfl oki))) (fun _=>sb_) (fun _=>fn0) fun _=>?_
  have:([(by8 (bOp .or .u8 224 ((by8 (IntKind.u8.wrap (a / 4096))).toNat:Int))),(F9 6 a),(F9 0 a)]:List UInt8).length=3:=rfl
  refine zhp [10] 0 (zml 11 2047) [(2,sv ([(by8 (bOp .or .u8 224 ((by8 (IntKind.u8.wrap (a / 4096))).toNat:Int))),(F9 6 a),(F9 0 a)]:List UInt8))] ?_
  refine P4 oki ?_
  subst hR
  refine A6 ?_
  exact E2 hr hD
 refine A3 (nx (sh 13 [(13,[bx b [iv a] 3])] [] [bx b [iv a] 3] (zml 13 0) oki rfl oki oki oki sb_ A5.refl ?_))
 refine zhp [4,6,8] 10 (zml 13 336) [(43,.func (.func 287) #[] #[pt b 0]),(45,.func (.func 287) #[] #[pt b 0]),(47,.func (.func 287) #[] #[pt b 0])] ?_
 refine zhl 0 [bx b [iv a] 3] (zml 13 337) rfl (A7 (v:=iv a) ty3 rfl rfl 0 rfl rfl) ?_
 refine zhk 1 (zml 13 339) rfl (A0v (c:=a / 262144) rfl rfl rfl ozw (by simp [Int.fdiv_eq_ediv_of_nonneg,IntKind.bits])) (zhk 2 (zml 13 343) rfl (H2 (v:=.int .u8 (IntKind.u8.wrap (a / 262144))) (H9.pure rfl) (A9l)) (zhk 3 (zml 13 351) rfl (H2 (v:=.int .u8 (bOp .or .u8 240 ((by8 (IntKind.u8.wrap (a / 262144))).toNat:Int))) (H9.pure rfl) (B3o)) ?_))
 refine zho 5 [bx b [iv a] 3] (zml 13 383) rfl (I0 (L2:=[]) (A1p rfl) rfl rfl rfl rfl rfl fn0 (J5 [[bx b [iv a] 3]] [0] 1 rfl ozw rfl [[bx b [iv a] 3]] rfl opv) (fun _=>[bx b [iv a] 3]) (fun _=>rfl)) (fun _=>sb_) (fun _=>fn0) fun _=>?_
 refine zho 7 [bx b [iv a] 3] (zml 13 511) rfl (I0 (L2:=[]) (A1p rfl) rfl rfl rfl rfl rfl fn0 (J5 [[bx b [iv a] 3]] [0] 1 rfl ozw rfl [[bx b [iv a] 3]] rfl opv) (fun _=>[bx b [iv a] 3]) (fun _=>rfl)) (fun _=>sb_) (fun _=>fn0) fun _=>?_
 refine zho 9 [bx b [iv a] 3] (zml 13 1023) rfl (I0 (L2:=[]) (A1p rfl) rfl rfl rfl rfl rfl fn0 (J5 [[bx b [iv a] 3]] [0] 1 rfl ozw rfl [[bx b [iv a] 3]] rfl opv) (fun _=>[bx b [iv a] 3]) (fun _=>rfl)) (fun _=>sb_) (fun _=>fn0) fun _=>?_
 refine zho 10 [bx b [iv a] 3] (zml 13 2047) rfl (G2 (c:=cU8) (xs:=([(by8 (bOp .or .u8 240 ((by8 (IntKind.u8.wrap (a / 262144))).toNat:Int))),(F9 12 a),(F9 6 a),(F9 0 a)]:List UInt8)) A1j rfl rfl rfl oki) (fun e=>sb_) (fun e=>fn0) fun e=>?_
 have:([(by8 (bOp .or .u8 240 ((by8 (IntKind.u8.wrap (a / 262144))).toNat:Int))),(F9 12 a),(F9 6 a),(F9 0 a)]:List UInt8).length=4:=rfl
 refine zho 11 [bx b [iv a] 3] (zml 13 4095) rfl (Det.tri (H9.det (B5l Tryz.underlying9 Tryz.underlying287 rfl rfl (D4 0 rfl) rfl oki))) (fun _=>sb_) (fun _=>fn0) fun _=>?_
 have:([(by8 (bOp .or .u8 240 ((by8 (IntKind.u8.wrap (a / 262144))).toNat:Int))),(F9 12 a),(F9 6 a),(F9 0 a)]:List UInt8).length=4:=rfl
 refine zhp [12] 0 (zml 13 8191) [(2,sv ([(by8 (bOp .or .u8 240 ((by8 (IntKind.u8.wrap (a / 262144))).toNat:Int))),(F9 12 a),(F9 6 a),(F9 0 a)]:List UInt8))] ?_
 refine P4 oki ?_
 subst hR
 refine A6 ?_
 exact E2 hr hD
def K5 (a:List UInt8) (s:List UInt8):List UInt8×Int :=
 ((a++s),(s.length:Int))
theorem A2j (a s:List UInt8):(K5 a s).1.length=a.length+s.length:=by simp [K5]
theorem ofv {p:Prop} (h:p:=by first|omega|(simp only [List.length_cons,List.length_nil,List.length_append,List.length_take,List.length_drop];omega)):p:=h
theorem A2x {a s:List UInt8} {e:Nat} {b:Option Addr} {bbufr:VR} {R:List UInt8×Int} (hR:K5 a s=R) (d:b=none∨b=some ⟨e,0,none⟩:=by exact om_) (c:VOk 1 a.length bbufr:=by exact om_) (h:a.length+s.length≤140737488355328:=by exact om_):Con Tryz.prog 254 [pt e 0,sv s] (bx e [.pointer b,.slice (va bbufr.q) a.length bbufr.k] 289::((vo cU8 5 bbufr a)++([]))) [] ({r:VR // VOk 1 R.1.length r}) (fun x=>.tuple #[iv R.2,.nilIface]) (fun x=>(bx e [pt e 0,.slice (va x.1.q) R.1.length x.1.k] 289::((vo cU8 5 x.1 R.1)++([])))) (fun x=>[]):=by
 refine zce Tryz.func254 fun X hX hr hD=>?_
 replace hR:=(K5.eq_1 ..).symm.trans hR
 have:=VOk.le c
 refine sR_ rfl (pp0 2 rfl (ie (sR_ rfl (pp1 1 6 rfl ?_))))
 refine zc rfl (C2w e (.slice (va bbufr.q) a.length bbufr.k) b d) fun _=>?_
 refine ie (sR_ rfl (pl3 6 [0] 8 12 13 rfl (it rfl (C1t (r:=bbufr) (xs:=a) (s:=s) (pre:=[bx e [pt e 0,.slice (va bbufr.q) a.length bbufr.k] 289]) (post:=[]) C3u oki Tryz.underlying9 rfl rfl rfl rfl rfl rfl rfl c ofv) fun ⟨g,f⟩=>?_)))
 have:=@List.length_append _ a s
 have:=VOk.le f
 have:=VOk.cap f
 refine zrg 3 0 [0] [] (bx e [pt e 0,.slice (va g.q) ((a++s).length) g.k] 289::((vo cU8 5 g (a++s))++([]))) (ie (sR_ rfl (pp2 4 4 5 rfl ?_)))
 subst hR
 refine ie (A6 ?_)
 exact zer hr hD (V1 rfl (A4 rfl) (A4 rfl)) ⟨g,f⟩ sb_ fn0
def A3k:List Int→Nat→List UInt8→List UInt8
 | [],t8,bbuf=>bbuf
 | hd_l0::tl_l0,t8,bbuf=>(E8 (B2h hd_l0) fun (b:List UInt8)=>(E8 (K5 bbuf b) fun (a:List UInt8×Int)=>A3k tl_l0 (t8+1) a.1))
def B1l (a:List Int):List UInt8 :=
 A3k a 0 ([]:List UInt8)
theorem olr {p:Prop} (h:p:=by (try dsimp only);omega):p:=h
theorem C4e {a:List Int} {g:Option Addr} {codesk:Nat} {R:List UInt8} (hR:B1l a=R) (n:a.length≤9223372036854775807:=by exact om_) (o:a.length≤codesk:=by exact om_) (hp:a.length≤1000000000:=by exact om_):J6 Tryz.prog 219 [.slice g a.length codesk] [sl X3 g a] (sv R):=by
 refine zce Tryz.func219 fun X hX hr hD=>?_
 replace hR:=(B1l.eq_1 ..).symm.trans hR
 refine sR_ rfl (pp0 1 rfl (ie (sR_ rfl (J3 1 0 [] (fun j=>[(3,pt j 0)]) (fun j=>[bx j [.pointer none,.slice none 0 0] 289]) (fun j=>(ie (A2 (sR_ rfl (pp3 3 6 7 8 rfl (ie (A8 (A0t (J5 [vo cU8 5 VR.nil ([]:List UInt8),[bx j [.pointer none,.slice none 0 0] 289]] [1,0] 2 rfl ozw rfl [[bx j [.pointer none,.slice none 0 0] 289],vo cU8 5 VR.nil ([]:List UInt8)] rfl opv) ?_))))))))))))
 refine A3q (un fun (i:Nat)=>un fun (b:Option Addr)=>un fun (e:List UInt8) (d:VR)=>(i≤a.length∧A3k (a.drop i) i e=R∧(b=none∨b=some ⟨j,0,none⟩)∧VOk 1 e.length d∧e.length≤4 * i,[(3,pt j 0),(6,.slice g a.length codesk),(7,iv (a.length:Int)),(8,iv (i:Int))],(bx j [.pointer b,.slice (va d.q) e.length d.k] 289::((vo cU8 5 d e)++([]))),[sl X3 g a],a.length - i)) (0,none,([]:List UInt8),VR.nil) ⟨opx,hR,(.inl rfl),VOk.nil,oom⟩ sb_ A5.refl ?_
 rintro ⟨i,b,e,d⟩ ⟨a0,hR,h,f,w⟩
 have:=VOk.le f
 refine sR_ rfl (pp1 1 9 rfl ?_)
 refine ie (A2 (W2 rfl (fun t=>?_) (fun t=>?_)))
 ·have m:=bq_ t
  rw [Y3 0 (show i<a.length by omega)] at hR;replace hR:=(A3k.eq_2 ..).symm.trans hR
  refine A3 (nx (A2 (A8 (sR_ rfl (N2 0 rfl opx fun a4 r=>(ix rfl (F7 A2s rfl rfl r rfl i rfl opx) (ix rfl (D8 ty3 rfl rfl (H5 (c:=X3) (sz:=1) r (fun _=>rfl) 0 rfl (gd 0 opx)) rfl) (pp1 1 5 rfl (ie (A0 3 rfl (pp1 1 12 rfl ?_)))))))))))
  have v:=E9 hR;clear hR;obtain ⟨x,p,hR⟩:=v
  refine zv rfl (C6f p) ?_
  have:=C1v (a.getD i 0);try rw [p] at this
  have v:=E9 hR;clear hR;obtain ⟨z,s,hR⟩:=v
  refine zc rfl (A2x s h f (by first|omega|(simp only [List.length_append,List.length_cons,List.length_nil,List.length_take,List.length_drop,List.length_set];omega)|(have u:=w.2 _ (List.mem_cons_self ..);unfold partOk at u;have a1:=w.1;simp only [List.length_append,List.length_cons,List.length_nil] at *;omega))) fun ⟨y,l⟩=>?_
  have:=VOk.le l
  have:=VOk.cap l
  have:=A2j e x;try rw [s] at this
  refine A1 (nx (A0 2 rfl (ix rfl (A9 rfl rfl rfl rfl opx) (pp1 1 8 rfl (A1 ?_)))))
  exact A0y (z1:=(i,b,e,d)) (i+1,some ⟨j,0,none⟩,z.1,y) ⟨opx,hR,(.inr rfl),l,(by first|omega|(simp only [List.length_append];omega))⟩ olr sb_ A5.refl
 have m:=bq_ t
 rw [Y4 m] at hR;replace hR:=(A3k.eq_1 ..).symm.trans hR
 refine F6 (nx (sR_ rfl (zc rfl (C8f j (.pointer b) e d f) fun _=>?_)))
 refine pp1 1 2 rfl ?_
 subst hR
 refine ie (A6 ?_)
 exact E2 hr hD
def Z9 (b:UInt8):Int :=
 (bif ((decide ((240:Int)≤(b.toNat:Int)))&&(decide ((b.toNat:Int)≤244))) then 4 else (bif ((decide ((224:Int)≤(b.toNat:Int)))&&(decide ((b.toNat:Int)<240))) then 3 else (bif ((decide ((194:Int)≤(b.toNat:Int)))&&(decide ((b.toNat:Int)<224))) then 2 else (bif (decide ((b.toNat:Int)<128)) then 1 else 0))))
theorem B8c (b:UInt8):Z9 b≤4:=by
 unfold Z9;simp only [Bool.cond_eq_ite];repeat' split
 all_goals omega
theorem C0i {b:UInt8} {R:Int} (hR:Z9 b=R):J6 Tryz.prog 306 [.int .u8 (b.toNat:Int)] [] (iv R):=by
 refine zce Tryz.func306 fun X hX hr hD=>?_
 replace hR:=(Z9.eq_1 ..).symm.trans hR
 refine sR_ rfl (pp1 1 2 rfl (ie (A2 (A8 (A2 (A8 (A2 (A8 (A2 (A8 (A2 (A8 (A2 (A2 (sR_ rfl (pp1 3 6 rfl ?_))))))))))))))))
 refine zid 3 1 6 9 (decide ((b.toNat:Int)≤244)) (fun l d=>?_) ?_
 ·refine pp1 3 9 rfl ?_
  exact A1 (J0 2 6 9 l fn0 sb_ rfl rfl rfl rfl rfl)
 refine pp1 1 3 rfl (ie ?_)
 refine zja rfl hR ?_ ?_<;>clear hR<;>intro hR m a
 ·refine F6 (nx (A0 3 rfl (pp1 1 27 rfl ?_)))
  refine ix rfl (A9 (c:=1) rfl rfl rfl rfl ozw) (pp1 1 2 rfl (A1 (nx (A0 3 rfl (pp1 1 29 rfl (ix rfl (A9 (c:=2) rfl rfl rfl rfl ozw) (pp1 1 2 rfl (A1 (nx (A0 3 rfl (pp1 1 31 rfl (ix rfl (A9 (c:=3) rfl rfl rfl rfl ozw) ?_))))))))))))
  refine pp1 1 2 rfl (A1 (nx (sR_ rfl (pp1 1 33 rfl (ix rfl (A9 (c:=4) rfl rfl rfl rfl ozw) (pp1 1 2 rfl (ie (F6 (nx (sR_ rfl (pp1 2 2 rfl ?_)))))))))))
  subst hR
  refine ie (A6 ?_)
  exact E2 hr hD
 refine A3 (nx (A2 (sR_ rfl (pp1 3 13 rfl ?_))))
 refine zid 3 1 13 16 (decide ((b.toNat:Int)<240)) (fun k e=>?_) ?_
 ·refine pp1 3 16 rfl ?_
  exact A1 (J0 2 13 16 k fn0 sb_ rfl rfl rfl rfl rfl)
 refine pp1 1 10 rfl (ie ?_)
 refine zja rfl hR ?_ ?_<;>clear hR<;>intro hR p j
 ·refine F6 (nx (A0 3 rfl (pp1 1 29 rfl ?_)))
  refine ix rfl (A9 (c:=1) rfl rfl rfl rfl ozw) (pp1 1 2 rfl (A1 (nx (A0 3 rfl (pp1 1 31 rfl (ix rfl (A9 (c:=2) rfl rfl rfl rfl ozw) (pp1 1 2 rfl (A1 (nx (sR_ rfl (pp1 1 33 rfl (ix rfl (A9 (c:=3) rfl rfl rfl rfl ozw) ?_))))))))))))
  refine pp1 1 2 rfl (ie (F6 (nx (sR_ rfl (pp1 2 2 rfl ?_)))))
  subst hR
  refine ie (A6 ?_)
  exact E2 hr hD
 refine A3 (nx (A2 (sR_ rfl (pp1 3 20 rfl ?_))))
 refine zid 3 1 20 23 (decide ((b.toNat:Int)<224)) (fun i g=>?_) ?_
 ·refine pp1 3 23 rfl ?_
  exact A1 (J0 2 20 23 i fn0 sb_ rfl rfl rfl rfl rfl)
 refine pp1 1 17 rfl (ie ?_)
 refine zja rfl hR ?_ ?_<;>clear hR<;>intro hR o f
 ·refine F6 (nx (A0 3 rfl (pp1 1 31 rfl ?_)))
  refine ix rfl (A9 (c:=1) rfl rfl rfl rfl ozw) (pp1 1 2 rfl (A1 (nx (sR_ rfl (pp1 1 33 rfl (ix rfl (A9 (c:=2) rfl rfl rfl rfl ozw) (pp1 1 2 rfl (ie (F6 (nx (sR_ rfl (pp1 2 2 rfl ?_))))))))))))
  subst hR
  refine ie (A6 ?_)
  exact E2 hr hD
 refine A3 (nx (sR_ rfl (pp1 3 24 rfl (ie ?_))))
 refine zjd rfl hR ?_ ?_<;>clear hR<;>intro hR n h
 ·refine F6 (nx (sR_ rfl (pp1 1 33 rfl ?_)))
  refine ix rfl (A9 (c:=1) rfl rfl rfl rfl ozw) (pp1 1 2 rfl (ie (F6 (nx (sR_ rfl (pp1 2 2 rfl ?_))))))
  subst hR
  refine ie (A6 ?_)
  exact E2 hr hD
 refine A3 (nx (F6 (nx (sR_ rfl (pp1 2 2 rfl ?_)))))
 subst hR
 refine ie (A6 ?_)
 exact E2 hr hD
def B1g (b:UInt8):UInt8×UInt8 :=
 (bif (decide ((b.toNat:Int)=224)) then ((160:UInt8),(191:UInt8)) else (bif (decide ((b.toNat:Int)=237)) then ((128:UInt8),(159:UInt8)) else (bif (decide ((b.toNat:Int)=240)) then ((144:UInt8),(191:UInt8)) else (bif (decide ((b.toNat:Int)=244)) then ((128:UInt8),(143:UInt8)) else ((128:UInt8),(191:UInt8))))))
theorem B9h {b:UInt8} {R:UInt8×UInt8} (hR:B1g b=R):J6 Tryz.prog 307 [.int .u8 (b.toNat:Int)] [] (.tuple #[.int .u8 (R.1.toNat:Int),.int .u8 (R.2.toNat:Int)]):=by
 refine zce Tryz.func307 fun X hX hr hD=>?_
 replace hR:=(B1g.eq_1 ..).symm.trans hR
 refine sR_ rfl (pp0 2 rfl (ie (A2 (sR_ rfl (pp1 1 4 rfl (ie (A8 (sR_ rfl (pp1 2 5 rfl (ie ?_))))))))))
 refine zjd rfl hR ?_ ?_<;>clear hR<;>intro hR h e
 ·refine sR_ rfl (pp2 2 2 3 rfl ?_)
  subst hR
  refine ie (A6 ?_)
  exact B9v hr hD
 refine sR_ rfl (pp1 2 7 rfl (ie ?_))
 refine zjd rfl hR ?_ ?_<;>clear hR<;>intro hR f a
 ·refine sR_ rfl (pp2 2 2 3 rfl ?_)
  subst hR
  refine ie (A6 ?_)
  exact B9v hr hD
 refine sR_ rfl (pp1 2 9 rfl (ie ?_))
 refine zjd rfl hR ?_ ?_<;>clear hR<;>intro hR g c
 ·refine sR_ rfl (pp2 2 2 3 rfl ?_)
  subst hR
  refine ie (A6 ?_)
  exact B9v hr hD
 refine sR_ rfl (pp1 2 11 rfl (ie ?_))
 refine zjd rfl hR ?_ ?_<;>clear hR<;>intro hR i d
 ·refine sR_ rfl (pp2 2 2 3 rfl ?_)
  subst hR
  refine ie (A6 ?_)
  exact B9v hr hD
 refine A3 (nx (sR_ rfl (pp2 2 2 3 rfl ?_)))
 subst hR
 refine ie (A6 ?_)
 exact B9v hr hD
def A3r (p:List UInt8):List UInt8→UInt8→UInt8→Nat→Int
 | [],low,high,t26=>(bif (decide ((p.length:Int)<(Z9 (p.getD 0 0)))) then 1 else 2)
 | hd_l0::tl_l0,low,high,t26=>(bif ((decide ((hd_l0.toNat:Int)<(low.toNat:Int)))||(decide ((high.toNat:Int)<(hd_l0.toNat:Int)))) then 0 else A3r p tl_l0 (128:UInt8) (191:UInt8) (t26+1))
def A0x (p:List UInt8):Int :=
 (bif (decide ((Z9 (p.getD 0 0))<(p.length:Int))) then 0 else (E8 (B1g (p.getD 0 0)) fun (a:UInt8×UInt8)=>A3r p (p.drop 1) a.1 a.2 0))
theorem B7f {p:List UInt8} (h:A0x p=1):p.length≤4:=by
 unfold A0x at h;have:=B8c (p.getD 0 0);revert h this;generalize p.getD 0 0=z;intro h this
 cases hc:decide (Z9 z<(p.length:Int))<;>rw [hc] at h<;>simp at h hc
 omega
theorem ofx {p:Prop} (h:p:=by first|rfl|omega|(simp only [List.length_take,List.length_drop];omega)|(simp;done)):p:=h
theorem B0p {p:List UInt8} {f:Option Addr} {pk:Nat} {R:Int} (hR:A0x p=R) (v:p.length≤9223372036854775807:=by exact om_) (r:p.length≤pk:=by exact om_) (x:1≤p.length:=by exact om_):J6 Tryz.prog 298 [.slice f p.length pk] [sl cU8 f p] (iv R):=by
 refine zce Tryz.func298 fun X hX hr hD=>?_
 replace hR:=(A0x.eq_1 ..).symm.trans hR
 refine sR_ rfl (pp0 1 rfl (ie (sR_ rfl (pp1 1 8 rfl (N2 0 rfl opx fun a1 d=>(ix rfl (F7 A1j rfl rfl d rfl 0 rfl opx) (ix rfl (D8 ty5 rfl rfl (H5 (c:=cU8) (sz:=1) d (fun _=>rfl) 0 rfl (gd 0 opx)) rfl) (zv rfl (C0i rfl) (pp1 1 3 rfl ?_)))))))))
 refine ie (A2 (sR_ rfl (pp1 4 15 rfl (ie ?_))))
 refine zjd rfl hR ?_ ?_<;>clear hR<;>intro hR z n
 ·refine sR_ rfl (pp1 1 2 rfl ?_)
  subst hR
  refine ie (A6 ?_)
  exact E2 hr hD
 refine A3 (nx (sR_ rfl (pp1 1 17 rfl (ix rfl (F7 A1j rfl rfl d rfl 0 rfl opx) (ix rfl (D8 ty5 rfl rfl (H5 (c:=cU8) (sz:=1) d (fun _=>rfl) 0 rfl (gd 0 opx)) rfl) ?_)))))
 have o:=E9 hR;clear hR;obtain ⟨l,j,hR⟩:=o
 refine zv rfl (B9h j) (pp2 5 4 5 rfl (ie (A2 (sR_ rfl (pp1 1 23 rfl (M8 (B5m (c:=cU8) (sz:=1) (xs:=p) (D4 0 rfl) 1 pk (fun _=>rfl) opx opx) ?_))))))
 refine ix rfl (A2g (n':=(p.drop 1).length) A1j rfl rfl 1 p.length pk (P2 rfl rfl) Q9 Q9 opx opx opx ofx rfl) ?_
 have:=@List.length_drop _ 1 p
 refine pp2 2 25 26 rfl (ie (A8 (A3q (un fun (e:UInt8)=>un fun (b:UInt8) (a:Nat)=>(a≤(p.drop 1).length∧A3r p ((p.drop 1).drop a) e b a=R,[(0,.slice f p.length pk),(3,iv (Z9 (p.getD 0 0))),(4,.int .u8 (e.toNat:Int)),(5,.int .u8 (b.toNat:Int)),(24,.slice (A1i f 1 1 pk) ((p.drop 1).length) (pk - 1)),(25,iv ((p.drop 1).length:Int)),(26,iv (a:Int))],[],[sl cU8 (A1i f 1 1 pk) (p.drop 1),sl cU8 f p],(p.drop 1).length - a)) (l.1,l.2,0) ⟨opx,hR⟩ sb_ A5.refl ?_)))
 rintro ⟨e,b,a⟩ ⟨t,hR⟩
 refine sR_ rfl (pp1 1 27 rfl ?_)
 refine ie (A2 (W2 rfl (fun i=>?_) (fun i=>?_)))
 ·have g:=bq_ i
  rw [Y3 0 (show a<(p.drop 1).length by omega)] at hR;replace hR:=(A3r.eq_2 ..).symm.trans hR
  refine A3 (nx (A2 (A8 (sR_ rfl (N2 0 rfl opx fun y h=>(ix rfl (F7 A1j rfl rfl h rfl a rfl opx) (ix rfl (D8 ty5 rfl rfl (H5 (c:=cU8) (sz:=1) h (fun _=>rfl) 0 rfl (gd 0 opx)) rfl) (pp1 1 7 rfl (ie (A2 (sR_ rfl (pp1 4 33 rfl ?_))))))))))))
  refine zir 4 0 33 37 (decide ((b.toNat:Int)<(((p.drop 1).getD a 0).toNat:Int))) (fun u q=>?_) ?_
  ·refine pp1 4 37 rfl ?_
   exact zai 2 33 37 u
  refine ie ?_
  refine zjo rfl hR ?_ ?_<;>clear hR<;>intro hR w m
  ·refine sR_ rfl (pp1 1 2 rfl ?_)
   subst hR
   refine ie (A6 ?_)
   exact E2 hr hD
  refine A3 (nx (A0 2 rfl (pp2 2 4 5 rfl (A1 (nx (A0 2 rfl (ix rfl (A9 rfl rfl rfl rfl opx) (pp1 1 26 rfl (A1 ?_)))))))))
  exact A0y (z1:=(e,b,a)) ((128:UInt8),(191:UInt8),a+1) ⟨opx,hR⟩ olr sb_ A5.refl
 have g:=bq_ i
 rw [Y4 g] at hR;replace hR:=(A3r.eq_1 ..).symm.trans hR
 refine F6 (nx (A2 (sR_ rfl (pp1 4 42 rfl ?_))))
 refine ie ?_
 refine zjd rfl hR ?_ ?_<;>clear hR<;>intro hR s k
 ·refine sR_ rfl (pp1 1 2 rfl ?_)
  subst hR
  refine ie (A6 ?_)
  exact E2 hr hD
 refine A3 (nx (sR_ rfl (pp1 1 2 rfl ?_)))
 subst hR
 refine ie (A6 ?_)
 exact E2 hr hD
def Y8 (pending:List UInt8):Bool :=
 ((decide ((pending.length:Int)=0))||(decide ((A0x pending)=1)))
theorem B4c {pending:List UInt8} {pendingq:Option Addr} {pendingk:Nat} {R:Bool} (hR:Y8 pending=R) (b:pending.length≤9223372036854775807:=by exact om_) (a:pending.length≤pendingk:=by exact om_):J6 Tryz.prog 297 [.slice pendingq pending.length pendingk] [sl cU8 pendingq pending] (bv R):=by
 refine zce Tryz.func297 fun X hX hr hD=>?_
 replace hR:=(Y8.eq_1 ..).symm.trans hR
 refine sR_ rfl (pp0 1 rfl (ie (sR_ rfl (pp1 4 6 rfl ?_))))
 refine zir 4 1 6 10 (decide ((A0x pending)=1)) (fun d c=>?_) ?_
 ·refine pp1 1 7 rfl (zv rfl (B0p rfl) (pp1 2 10 rfl ?_))
  exact zai 4 6 10 d
 refine pp1 1 2 rfl ?_
 subst hR
 refine ie (A6 ?_)
 exact E2 hr hD
def A3m:List UInt8→Int→Nat→Int
 | [],cp1,t22=>cp1
 | hd_l0::tl_l0,cp1,t22=>A3m tl_l0 (bOp .or .i64 (IntKind.i64.wrap (cp1 * 64)) ((by8 (bOp .and .u8 (hd_l0.toNat:Int) 63)).toNat:Int)) (t22+1)
def A5y (p:List UInt8) (cp:Int):Int :=
 A3m (p.drop 1) cp 0
def A3u (p:List UInt8):Int :=
 (bif (decide ((1:Int)<(p.length:Int))) then A5y p (bOp .and .i64 ((p.getD 0 0).toNat:Int) (Int.fdiv (255:Int) (2 ^ (min (((p.length:Int)+1)).toNat 64)))) else A5y p ((p.getD 0 0).toNat:Int))
theorem B6c {p:List UInt8} {d:Option Addr} {pk:Nat} {R:Int} (hR:A3u p=R) (l:p.length≤9223372036854775807:=by exact om_) (m:p.length≤pk:=by exact om_) (o:1≤p.length:=by exact om_) (j:p.length≤1000000:=by exact om_):J6 Tryz.prog 299 [.slice d p.length pk] [sl cU8 d p] (iv R):=by
 refine zce Tryz.func299 fun X hX hr hD=>?_
 replace hR:=(A3u.eq_1 ..).symm.trans hR
 refine sR_ rfl (pp0 1 rfl (ie (sR_ rfl (pp1 1 6 rfl (N2 0 rfl opx fun q e=>(ix rfl (F7 A1j rfl rfl e rfl 0 rfl opx) (ix rfl (D8 ty5 rfl rfl (H5 (c:=cU8) (sz:=1) e (fun _=>rfl) 0 rfl (gd 0 opx)) rfl) (ix rfl (B3s (c:=((p.getD 0 0).toNat:Int)) Tryz.underlying3 oki rfl rfl (A8q (p.getD 0 0))) (pp1 1 3 rfl ?_)))))))))
 refine ie (B2l (fun (cp:Int)=>(A5y p cp=R,[(0,.slice d p.length pk),(3,iv cp)],[],[sl cU8 d p])) ?_ ?_)
 ·refine sR_ rfl (pp1 3 12 rfl (ie ?_))
  refine zjd rfl hR ?_ ?_<;>clear hR<;>intro hR n i
  ·refine A0 7 rfl (pp2 3 13 15 rfl (ix rfl (A9 rfl rfl rfl rfl opx) (ix rfl (A0v rfl rfl rfl opx rfl) (pp1 2 3 rfl (A1 ?_)))))
   exact A1d (bOp .and .i64 ((p.getD 0 0).toNat:Int) (Int.fdiv (255:Int) (2 ^ (min (((p.length:Int)+1)).toNat 64)))) hR sb_ A5.refl
  refine A3 ?_
  exact A1d ((p.getD 0 0).toNat:Int) hR sb_ A5.refl
 intro cp
 rintro hR
 replace hR:=(A5y.eq_1 ..).symm.trans hR
 refine A2 (sR_ rfl (pp1 1 19 rfl ?_))
 refine M8 (B5m (c:=cU8) (sz:=1) (xs:=p) (D4 0 rfl) 1 pk (fun _=>rfl) opx opx) ?_
 refine ix rfl (A2g (n':=(p.drop 1).length) A1j rfl rfl 1 p.length pk (P2 rfl rfl) Q9 Q9 opx opx opx ofx rfl) ?_
 have:=@List.length_drop _ 1 p
 refine pp2 2 21 22 rfl (ie (A8 (A3q (un fun (b:Int) (a:Nat)=>(a≤(p.drop 1).length∧A3m ((p.drop 1).drop a) b a=R,[(3,iv b),(20,.slice (A1i d 1 1 pk) ((p.drop 1).length) (pk - 1)),(21,iv ((p.drop 1).length:Int)),(22,iv (a:Int))],[],[sl cU8 (A1i d 1 1 pk) (p.drop 1),sl cU8 d p],(p.drop 1).length - a)) (cp,0) ⟨opx,hR⟩ sb_ A5.refl ?_)))
 rintro ⟨b,a⟩ ⟨k,hR⟩
 refine sR_ rfl (pp1 1 23 rfl ?_)
 refine ie (A2 (W2 rfl (fun h=>?_) (fun h=>?_)))
 ·have f:=bq_ h
  rw [Y3 0 (show a<(p.drop 1).length by omega)] at hR;replace hR:=(A3m.eq_2 ..).symm.trans hR
  refine A3 (nx (A2 (A8 (sR_ rfl (N2 0 rfl opx fun r g=>(ix rfl (F7 A1j rfl rfl g rfl a rfl opx) (ix rfl (D8 ty5 rfl rfl (H5 (c:=cU8) (sz:=1) g (fun _=>rfl) 0 rfl (gd 0 opx)) rfl) (pp1 1 5 rfl (ie (A0 7 rfl (pp1 1 26 rfl ?_)))))))))))
  refine ix rfl (B9y (c:=(IntKind.i64.wrap (b * 64))) rfl rfl rfl ozw (by simp [IntKind.bits])) (pp1 1 28 rfl (ix rfl (H2 (v:=.int .u8 (bOp .and .u8 (((p.drop 1).getD a 0).toNat:Int) 63)) (H9.pure rfl) (B3o)) (ix rfl (B3s (c:=((by8 (bOp .and .u8 (((p.drop 1).getD a 0).toNat:Int) 63)).toNat:Int)) Tryz.underlying3 oki rfl rfl (A8q (by8 (bOp .and .u8 (((p.drop 1).getD a 0).toNat:Int) 63)))) (pp1 2 3 rfl (A1 (nx (A0 2 rfl (ix rfl (A9 rfl rfl rfl rfl opx) (pp1 1 22 rfl ?_)))))))))
  refine A1 ?_
  exact A0y (z1:=(b,a)) ((bOp .or .i64 (IntKind.i64.wrap (b * 64)) ((by8 (bOp .and .u8 (((p.drop 1).getD a 0).toNat:Int) 63)).toNat:Int)),a+1) ⟨opx,hR⟩ olr sb_ A5.refl
 have f:=bq_ h
 rw [Y4 f] at hR;replace hR:=(A3m.eq_1 ..).symm.trans hR
 refine F6 (nx (sR_ rfl (pp1 2 2 rfl ?_)))
 subst hR
 refine ie (A6 ?_)
 exact E2 hr hD
def A7c:Bool :=
 true
theorem C0x {R:Bool} (hR:A7c=R):J6 Tryz.prog 297 [.slice none 0 0] [] (bv R):=by
 refine zce Tryz.func297 fun X hX hr hD=>?_
 replace hR:=(A7c.eq_1 ..).symm.trans hR
 refine sR_ rfl (pp0 1 rfl (ie (sR_ rfl (pp1 9 2 rfl ?_))))
 subst hR
 refine ie (A6 ?_)
 exact E2 hr hD
def Y0 (b:UInt8):List UInt8×List Int :=
 (bif (decide ((A0x (([]:List UInt8)++([b]:List UInt8)))=2)) then (([]:List UInt8),([(A3u (([]:List UInt8)++([b]:List UInt8)))]:List Int)) else (bif (decide ((A0x (([]:List UInt8)++([b]:List UInt8)))=1)) then ((([]:List UInt8)++([b]:List UInt8)),([]:List Int)) else (([]:List UInt8),([65533]:List Int))))
def A1r (b:UInt8):List UInt8×List Int :=
 (bif (!A7c) then Y0 b else Y0 b)
theorem B0f (b:UInt8):(A1r b).1.length≤4∧(A1r b).2.length≤1:=by
 have a:(Y0 b).1.length≤4∧(Y0 b).2.length≤1:=by
  unfold Y0;simp only [Bool.cond_eq_ite];repeat' split
  all_goals simp
 unfold A1r;cases (!A7c)<;>exact a
theorem C1y {b:UInt8} {R:List UInt8×List Int} (hR:A1r b=R) (m:([]:List Unit).length≤1000:=by exact om_):Con Tryz.prog 285 [.slice none 0 0,.int .u8 (b.toNat:Int)] [] [] ({t:Option Addr×Nat // R.1.length≤t.2∧R.1.length≤9223372036854775807}×{t:Option Addr×Nat // R.2.length≤t.2∧R.2.length≤9223372036854775807}) (fun x=>.tuple #[.slice x.1.1.1 R.1.length x.1.1.2,.slice x.2.1.1 R.2.length x.2.1.2]) (fun x=>[]) (fun x=>[sl cU8 x.1.1.1 R.1,sl X3 x.2.1.1 R.2]):=by
 refine zce Tryz.func285 fun X hX hr hD=>?_
 replace hR:=(A1r.eq_1 ..).symm.trans hR
 refine sR_ rfl (pp0 2 rfl ?_)
 refine ie (B2l (fun (_:Unit)=>(Y0 b=R,[(0,.slice none 0 0),(1,.int .u8 (b.toNat:Int))],[],[])) ?_ ?_)
 ·refine sR_ rfl (pp1 1 7 rfl (zv rfl (C0x rfl) (pp1 1 9 rfl (ie ?_))))
  refine zjb rfl hR ?_ ?_<;>clear hR<;>intro hR n
  ·refine A0 1 rfl (pp1 1 0 rfl (A1 ?_))
   exact A1d () hR sb_ fn0
  refine A3 ?_
  exact A1d () hR sb_ fn0
 intro _
 rintro hR
 replace hR:=(Y0.eq_1 ..).symm.trans hR
 refine sR_ rfl (pp3 5 10 12 14 rfl (ix rfl (A2g A1j rfl rfl 0 0 0 Q9 (P2 rfl rfl) (P2 rfl rfl) ozw ozw ozw (n':=0) rfl rfl) (pp1 1 16 rfl (it rfl (G2 (c:=cU8) (xs:=([b]:List UInt8)) A1j rfl rfl rfl oki) fun l=>?_))))
 have:([b]:List UInt8).length=1:=rfl
 refine it rfl (B1y (f:=cU8) (r:=VR.nil) (xs:=([]:List UInt8)) (ys:=([b]:List UInt8)) (pre:=[]) (post:=[]) C3u (fun _=>rfl) (fun _=>rfl) rfl rfl rfl rfl rfl rfl rfl rfl rfl (D4 0 rfl) VOk.nil ofv ofv) fun ⟨d,a⟩=>?_
 have:=VOk.le a
 have:=VOk.cap a
 refine U6 [] [] (T:=5) (c:=cU8) (r:=d) (xs:=(([]:List UInt8)++([b]:List UInt8))) a opv ?_
 refine pp1 1 6 rfl (ie (A2 (sR_ rfl (pp1 1 19 rfl (zv rfl (B0p rfl) (ie (A8 (sR_ rfl (pp1 2 21 rfl (ie ?_))))))))))
 refine zjd rfl hR ?_ ?_<;>clear hR<;>intro hR j g
 ·refine sR_ rfl (pp1 1 23 rfl (zv rfl (B6c rfl) (it rfl (G2 (c:=X3) (xs:=([(A3u (([]:List UInt8)++([b]:List UInt8)))]:List Int)) A2s rfl rfl rfl oki) fun h=>?_)))
  have:([(A3u (([]:List UInt8)++([b]:List UInt8)))]:List Int).length=1:=rfl
  refine pp2 2 4 5 rfl ?_
  subst hR
  refine ie (A6 ?_)
  exact zer hr hD (V1 rfl (A4 rfl) (A4 rfl)) ((zq none 0),(zq (some ⟨h,0,none⟩) 1)) sb_ fo_
 refine sR_ rfl (pp1 2 26 rfl (ie ?_))
 refine zjd rfl hR ?_ ?_<;>clear hR<;>intro hR o i
 ·refine sR_ rfl (pp2 3 4 5 rfl ?_)
  subst hR
  refine ie (A6 ?_)
  exact zer hr hD (V1 rfl (A4 rfl) (A4 rfl)) ((zq (va d.q) d.k),(zq none 0)) sb_ fo_
 refine A3 (nx (A2 (sR_ rfl (pp1 3 31 rfl (ie (G1 rfl (sR_ rfl (it rfl (G2 (c:=X3) (xs:=([65533]:List Int)) A2s rfl rfl rfl oki) fun e=>?_))))))))
 have:([65533]:List Int).length=1:=rfl
 refine pp2 2 4 5 rfl ?_
 subst hR
 refine ie (A6 ?_)
 exact zer hr hD (V1 rfl (A4 rfl) (A4 rfl)) ((zq none 0),(zq (some ⟨e,0,none⟩) 1)) sb_ fo_
def A0k (b:UInt8) (a:List UInt8):List UInt8×List Int :=
 (bif (decide ((A0x (a++([b]:List UInt8)))=2)) then (([]:List UInt8),([(A3u (a++([b]:List UInt8)))]:List Int)) else (bif (decide ((A0x (a++([b]:List UInt8)))=1)) then ((a++([b]:List UInt8)),([]:List Int)) else (bif (decide ((a.length:Int)=0)) then (([]:List UInt8),([65533]:List Int)) else ((A1r b).1,(([65533]:List Int)++(A1r b).2)))))
def H3 (pending:List UInt8) (b:UInt8):List UInt8×List Int :=
 (bif (!(Y8 pending)) then A0k b ([]:List UInt8) else A0k b pending)
theorem B2f (p:List UInt8) (b:UInt8):(H3 p b).1.length≤4∧(H3 p b).2.length≤2:=by
 have a:∀ q,(A0k b q).1.length≤4∧(A0k b q).2.length≤2:=by
  intro q;unfold A0k;simp only [Bool.cond_eq_ite];have:=B0f b;repeat' split
  all_goals simp
  ·rename_i h;have:=B7f (by simpa using h);simpa using this
  ·omega
 unfold H3;cases (!(Y8 p))<;>exact a _
theorem okl {p:Prop} (h:p:=by first|omega|(simp only [List.length_take,List.length_drop,List.length_append,List.length_cons,List.length_nil,List.length_set,List.length_map];omega)|decide):p:=h
theorem osj {p:Prop} (h:p:=by first|omega|(simp only [List.length_nil];omega)):p:=h
theorem C3b {pending:List UInt8} {b:UInt8} {pendingq:Option Addr} {pendingk:Nat} {R:List UInt8×List Int} (hR:H3 pending b=R) (j:pending.length≤9223372036854775807:=by exact om_) (i:pending.length≤pendingk:=by exact om_) (hp:pending.length≤1000:=by exact om_):Con Tryz.prog 285 [.slice pendingq pending.length pendingk,.int .u8 (b.toNat:Int)] [] [sl cU8 pendingq pending] ({t:Option Addr×Nat // R.1.length≤t.2∧R.1.length≤9223372036854775807}×{t:Option Addr×Nat // R.2.length≤t.2∧R.2.length≤9223372036854775807}) (fun x=>.tuple #[.slice x.1.1.1 R.1.length x.1.1.2,.slice x.2.1.1 R.2.length x.2.1.2]) (fun x=>[]) (fun x=>[sl cU8 x.1.1.1 R.1,sl X3 x.2.1.1 R.2]):=by
 refine zce Tryz.func285 fun X hX hr hD=>?_
 replace hR:=(H3.eq_1 ..).symm.trans hR
 refine sR_ rfl (pp0 2 rfl ?_)
 refine ie (B2l (un fun (a:List UInt8)=>un fun (e:Option Addr) (d:Nat)=>(A0k b a=R∧a.length≤d∧a.length≤9223372036854775807∧a.length≤1000,[(0,.slice e a.length d),(1,.int .u8 (b.toNat:Int))],[],[sl cU8 pendingq pending,sl cU8 e a])) ?_ ?_)
 ·refine sR_ rfl (pp1 1 7 rfl (zv rfl (B4c rfl) (pp1 1 9 rfl (ie ?_))))
  refine zjb rfl hR ?_ ?_<;>clear hR<;>intro hR h1
  ·refine A0 1 rfl (pp1 1 0 rfl (A1 ?_))
   exact A1d (([]:List UInt8),none,0) ⟨hR,okl,okl,osj⟩ sb_ fo_
  refine A3 ?_
  exact A1d (pending,pendingq,pendingk) ⟨hR,okl,okl,osj⟩ sb_ fo_
 rintro ⟨a,e,d⟩
 rintro ⟨hR,g,h,hj⟩
 replace hR:=(A0k.eq_1 ..).symm.trans hR
 refine sR_ rfl (pp3 5 10 12 14 rfl (ix rfl (A9a (n':=a.length) A1j rfl rfl a.length a.length (P2 rfl rfl) (P2 rfl rfl) opx opx (by first|rfl|omega) rfl) (pp1 1 16 rfl (it rfl (G2 (c:=cU8) (xs:=([b]:List UInt8)) A1j rfl rfl rfl oki) fun b2=>?_))))
 have:([b]:List UInt8).length=1:=rfl
 refine it rfl (C2t (f:=cU8) (xs:=a) (ys:=([b]:List UInt8)) C3u (fun _=>rfl) (fun _=>rfl) rfl rfl rfl rfl rfl rfl opx opx (by rfl) (D4 2 rfl) (D4 0 rfl) ofv ofv) fun ⟨⟨q3,k4⟩,a6⟩=>?_
 refine pp1 1 6 rfl (ie (A2 (sR_ rfl (pp1 1 19 rfl (zv rfl (B0p rfl) (ie (A8 (sR_ rfl (pp1 2 21 rfl (ie ?_))))))))))
 refine zjd rfl hR ?_ ?_<;>clear hR<;>intro hR h6 a2
 ·refine sR_ rfl (pp1 1 23 rfl (zv rfl (B6c rfl) (it rfl (G2 (c:=X3) (xs:=([(A3u (a++([b]:List UInt8)))]:List Int)) A2s rfl rfl rfl oki) fun y=>?_)))
  have:([(A3u (a++([b]:List UInt8)))]:List Int).length=1:=rfl
  refine pp2 2 4 5 rfl ?_
  subst hR
  refine ie (A6 ?_)
  exact zer hr hD (V1 rfl (A4 rfl) (A4 rfl)) ((zq none 0),(zq (some ⟨y,0,none⟩) 1)) sb_ fo_
 refine sR_ rfl (pp1 2 26 rfl (ie ?_))
 refine zjd rfl hR ?_ ?_<;>clear hR<;>intro hR h8 a4
 ·refine sR_ rfl (pp2 3 4 5 rfl ?_)
  subst hR
  refine ie (A6 ?_)
  exact zer hr hD (V1 rfl (A4 rfl) (A4 rfl)) ((zq q3 k4),(zq none 0)) sb_ fo_
 refine A3 (nx (A2 (sR_ rfl (pp1 3 31 rfl (ie ?_)))))
 refine zjd rfl hR ?_ ?_<;>clear hR<;>intro hR h9 a0
 ·refine sR_ rfl (it rfl (G2 (c:=X3) (xs:=([65533]:List Int)) A2s rfl rfl rfl oki) fun m=>?_)
  have:([65533]:List Int).length=1:=rfl
  refine pp2 2 4 5 rfl ?_
  subst hR
  refine ie (A6 ?_)
  exact zer hr hD (V1 rfl (A4 rfl) (A4 rfl)) ((zq none 0),(zq (some ⟨m,0,none⟩) 1)) sb_ fo_
 refine A3 (nx (sR_ rfl (pp1 1 34 rfl ?_)))
 refine zc rfl (C1y rfl) fun ⟨⟨⟨q,n⟩,l⟩,⟨⟨a5,a7⟩,k⟩⟩=>?_
 obtain ⟨v,s⟩:=l
 obtain ⟨w,u⟩:=k
 have:=B0f b
 refine pp2 5 4 5 rfl (ie (sR_ rfl (pp1 1 38 rfl (it rfl (G2 (c:=X3) (xs:=([65533]:List Int)) A2s rfl rfl rfl oki) fun z=>?_))))
 have:([65533]:List Int).length=1:=rfl
 refine pp1 1 40 rfl (it rfl (C2t (f:=X3) (xs:=([65533]:List Int)) (ys:=(A1r b).2) C8m (fun _=>rfl) (fun _=>rfl) rfl rfl rfl rfl rfl rfl opx opx (by rfl) (D4 0 rfl) (D4 2 rfl) ofv ofv) fun ⟨⟨p,o⟩,r⟩=>?_)
 refine pp2 2 4 5 rfl ?_
 subst hR
 refine ie (A6 ?_)
 exact zer hr hD (V1 rfl (A4 rfl) (A4 rfl)) ((zq q n),(zq p o)) sb_ fo_
def B3n (pending:List UInt8):List Int :=
 (bif ((decide ((0:Int)<(pending.length:Int)))&&(Y8 pending)) then ([65533]:List Int) else ([]:List Int))
theorem B4u (p:List UInt8):B3n p=(bif (decide (0<(p.length:Int))&&Y8 p) then [65533] else []):=rfl
theorem B3w {pending:List UInt8} {pendingq:Option Addr} {pendingk:Nat} {R:List Int} (hR:B3n pending=R) (b:pending.length≤9223372036854775807:=by exact om_) (a:pending.length≤pendingk:=by exact om_) (i:pending.length≤1000:=by exact om_):Con Tryz.prog 286 [.slice pendingq pending.length pendingk] [] [sl cU8 pendingq pending] ({t:Option Addr×Nat // R.length≤t.2∧R.length≤9223372036854775807}) (fun x=>.slice x.1.1 R.length x.1.2) (fun x=>[]) (fun x=>[sl X3 x.1.1 R]):=by
 refine zce Tryz.func286 fun X hX hr hD=>?_
 replace hR:=(B3n.eq_1 ..).symm.trans hR
 refine sR_ rfl (pp0 1 rfl (ie (A2 (sR_ rfl (pp1 4 6 rfl ?_)))))
 refine zid 3 0 6 9 (Y8 pending) (fun h f=>?_) ?_
 ·refine pp1 1 7 rfl (zv rfl (B4c rfl) (pp1 1 9 rfl ?_))
  exact zai 4 6 9 h
 refine ie ?_
 refine zjb rfl hR ?_ ?_<;>clear hR<;>intro hR e
 ·have d:=bq_ e
  refine sR_ rfl (it rfl (G2 (c:=X3) (xs:=([65533]:List Int)) A2s rfl rfl rfl oki) fun g=>?_)
  have:([65533]:List Int).length=1:=rfl
  refine pp1 1 2 rfl ?_
  subst hR
  refine ie (A6 ?_)
  exact zer hr hD (U4 rfl (A4 rfl)) (zq (some ⟨g,0,none⟩) 1) sb_ fo_
 have d:=bq_ e
 refine A3 (nx (sR_ rfl (pp1 1 2 rfl ?_)))
 subst hR
 refine ie (A6 ?_)
 exact zer hr hD (U4 rfl (A4 rfl)) (zq none 0) sb_ fo_
def S3 (s:List UInt8):List UInt8 :=
 s
theorem C3a {s R:List UInt8} (hR:S3 s=R):Con Tryz.prog 253 [sv s] [] [] (Addr) (fun x=>.func (.func 284) #[] #[pa x]) (fun x=>[]) (fun x=>[at_ x [sv R]]):=by
 refine zce Tryz.func253 fun X hX hr hD=>?_
 replace hR:=(S3.eq_1 ..).symm.trans hR
 refine sR_ rfl (it rfl (A7v (cs:=[sv s]) rfl rfl rfl) fun a=>?_)
 refine B3c 0 rfl ?_
 refine pp0 1 rfl (ie (sR_ rfl (ip' 2 0 [(2,.func (.func 284) #[] #[pa ⟨a,0,none⟩])] ?_)))
 subst hR
 refine ie (A6 ?_)
 exact zer hr hD (U4 rfl (A4 rfl)) ⟨a,0,none⟩ sb_ fo_
def R4 (d:List UInt8) (pending:List UInt8) (b:Nat) (a:List UInt8→Nat→List Int):List Int→Nat→List Int
 | [],t27=>a ((H3 pending (d.getD b 0)).1) (b+1)
 | c::tl_l4,t27=>(c::R4 d pending b a tl_l4 (t27+1))
def P5 (a:List UInt8):List UInt8→List UInt8→Nat→List Int
 | [],pending,t13=>(bif (decide (0<(pending.length:Int))&&Y8 pending) then ((([65533]:List Int).getD 0 0)::[]) else [])
 | hd_l3::tl_l3,pending,t13=>R4 a pending t13 (P5 a tl_l3) ((H3 pending hd_l3).2) 0
def A5c (a:List UInt8):List Int :=
 P5 a a ([]:List UInt8) 0
theorem A6b (b pending:List UInt8) (a:Nat) (ag:List UInt8→Nat→List Int):∀ (l:List Int) (t:Nat),(R4 b pending a ag l t).length=l.length+(ag ((H3 pending (b.getD a 0)).1) (a+1)).length
 | [],t=>by simp [R4]
 | x::l,t=>by simp only [R4,List.length_cons,A6b b pending a ag l];omega
theorem A5u (a:List UInt8):∀ (s p:List UInt8) (t:Nat),(P5 a s p t).length≤2 * s.length+1
 | [],p,t=>by
  simp only [P5]
  generalize (decide (0<(p.length:Int))&&Y8 p)=b
  cases b<;>simp
 | x::s,p,t=>by
  simp only [P5,A6b,List.length_cons]
  have:=(B2f p x).2;have:=A5u a s (H3 p (a.getD t 0)).1 (t+1);omega
theorem A8x (s:List UInt8):(A5c s).length≤2 * s.length+1:=A5u s s [] 0
theorem otq {p:Prop} (h:p:=by first|omega|(simp only [List.length_take,List.length_drop,List.length_append,List.length_cons,List.length_nil,List.length_set,List.length_map,S3];omega)|decide):p:=h
theorem oxs {p:Prop} (h:p:=by first|rfl|(simp only [List.length_set]<;>rfl)):p:=h
theorem ooa {p:Prop} (h:p:=by simp only [List.flatten_cons,List.flatten_nil,List.append_nil,List.cons_append,List.nil_append,List.append_assoc]):p:=h
theorem C0w (d:List UInt8) (g:Addr) (hs:d.length≤1000000000) (R:List Int) (hR:A5c d=R):B1o Tryz.prog 284 [pa g] [at_ g [sv d]] (fun x=>iv x) R:=by
 refine B3g (n:=48) Tryz.func284 rfl oki rfl rfl (fun l=>[(0,.func (.yield l) #[] #[]),(1,pa g)]) (fun l=>⟨rfl,rfl,trivial⟩) fun X l I Ix L Φ hX hr hD hI0 hY=>?_
 replace hR:=(A5c.eq_1 ..).symm.trans hR
 refine sr 1 rfl (ip' 1 0 [(3,.slice none 0 0)] (ie (A2 (sr 3 rfl (ix rfl (D8 (v:=sv d) (us:=[sv d]) ty9 rfl rfl (D4 0 rfl) rfl) (ip' 2 0 [(12,iv (d.length:Int)),(13,iv 0)] (ie (A8 ?_))))))))
 refine D3t (fun (pending:List UInt8) (pendingq:Option Addr) (pendingk:Nat) (a:Nat) (R_:List Int) (Lt:Fen.Own) (Ft:List Pers)=>(a≤d.length∧P5 d (d.drop a) pending a=R_∧pending.length≤pendingk∧pending.length≤9223372036854775807∧I R_ Lt Ft∧pending.length≤1000,[(0,.func (.yield l) #[] #[]),(1,pa g),(3,.slice pendingq pending.length pendingk),(12,iv (d.length:Int)),(13,iv (a:Int))],(Lt++([])),(at_ g [sv d]::sl cU8 pendingq pending::Ft),d.length - a)) ([]:List UInt8) none 0 0 R L Φ ⟨opx,hR,otq,otq,hI0,oom⟩ (mc [L] [true] rfl oxs) (A5.con1 (D4 0 rfl) (A5.con1 A7r (A5.dropT 1 rfl))) ?_
 rintro pending pendingq pendingk a R_ Lt Ft ⟨af,hR,s,y,i,hp⟩
 refine sr 1 rfl (ip' 1 0 [(14,bv (decide ((a:Int)<(d.length:Int))))] ?_)
 refine ie (A2 (W2 rfl (fun h2=>?_) (fun h2=>?_)))
 ·have a1:(a:Int)<(d.length:Int):=by simpa using h2
  rw [Y3 0 (show a<d.length by omega)] at hR;replace hR:=(P5.eq_2 ..).symm.trans hR
  refine A3 (nx (A2 (A8 (sr 2 rfl (ip' 2 0 [(4,iv (a:Int))] (ie (sr 10 rfl (ip' 1 9 [(17,.slice pendingq pending.length pendingk)] (ix rfl (D8 (v:=sv d) (us:=[sv d]) ty9 rfl rfl (D4 0 rfl) rfl) (ip' 1 7 [(19,iv (a:Int))] (ix rfl (C2g (T:=9) Tryz.underlying9 rfl rfl rfl a rfl opx) ?_)))))))))))
  refine zcm (C3b (pending:=pending) (b:=(d.getD a 0)) (pendingq:=pendingq) (pendingk:=pendingk) rfl) (A5.cons (D4 1 rfl) fn0) fun ⟨⟨⟨z,k4⟩,aa⟩,⟨⟨q8,k9⟩,a4⟩⟩=>?_
  obtain ⟨ai,ae⟩:=aa
  obtain ⟨ad,ab⟩:=a4
  have:=B2f pending (d.getD a 0)
  refine ip' 5 0 [(5,.slice z (((H3 pending (d.getD a 0)).1).length) k4),(6,.slice q8 (((H3 pending (d.getD a 0)).2).length) k9)] (ie (sr 2 rfl (ip' 2 0 [(3,.slice z (((H3 pending (d.getD a 0)).1).length) k4)] (ie (sr 3 rfl (ip' 3 0 [(25,.slice q8 (((H3 pending (d.getD a 0)).2).length) k9),(26,iv (((H3 pending (d.getD a 0)).2).length:Int)),(27,iv 0)] (ie (A8 ?_))))))))
  refine D3w (fun (e:Nat) (R_1:List Int) (Lt1:Fen.Own) (Ft1:List Pers)=>(e≤((H3 pending (d.getD a 0)).2).length∧R4 d pending a (P5 d (d.drop (a+1))) (((H3 pending (d.getD a 0)).2).drop e) e=R_1∧I R_1 Lt1 Ft1,[(0,.func (.yield l) #[] #[]),(1,pa g),(3,.slice z (((H3 pending (d.getD a 0)).1).length) k4),(12,iv (d.length:Int)),(13,iv (a:Int)),(25,.slice q8 (((H3 pending (d.getD a 0)).2).length) k9),(26,iv (((H3 pending (d.getD a 0)).2).length:Int)),(27,iv (e:Int))],(Lt1++([])),(sl cU8 z ((H3 pending (d.getD a 0)).1)::sl X3 q8 ((H3 pending (d.getD a 0)).2)::at_ g [sv d]::sl cU8 pendingq pending::Ft1),((H3 pending (d.getD a 0)).2).length - e)) 0 R_ Lt Ft ⟨opx,hR,i⟩ (mc [Lt] [true] rfl oxs) (A5.con1 (D4 0 rfl) (A5.con1 (D4 1 rfl) (A5.con1 (D4 2 rfl) (A5.con1 (D4 3 rfl) (A5.dropT 4 rfl))))) ?_
  rintro e R_1 Lt1 Ft1 ⟨ac,hR,h⟩
  refine sr 1 rfl (ip' 1 0 [(28,bv (decide ((e:Int)<(((H3 pending (d.getD a 0)).2).length:Int))))] ?_)
  refine ie (A2 (W2 rfl (fun w=>?_) (fun w=>?_)))
  ·have o:(e:Int)<(((H3 pending (d.getD a 0)).2).length:Int):=by simpa using w
   rw [Y3 0 (show e<((H3 pending (d.getD a 0)).2).length by omega)] at hR;replace hR:=(R4.eq_2 ..).symm.trans hR
   refine A3 (nx (A2 (A8 (sr 3 rfl (N2 1 rfl opx fun ah p=>(ix rfl (F7 A2s rfl rfl p rfl e rfl opx) (ix rfl (D8 (v:=iv (((H3 pending (d.getD a 0)).2).getD e 0)) (us:=[iv (((H3 pending (d.getD a 0)).2).getD e 0)]) ty3 rfl rfl (H5 (c:=X3) (sz:=1) p (fun _=>rfl) 1 rfl (gd 0 opx)) rfl) (ip' 1 0 [(8,iv (((H3 pending (d.getD a 0)).2).getD e 0))] (ie (sr 4 rfl (ip' 2 2 [(31,.func (.yield l) #[] #[]),(32,iv (((H3 pending (d.getD a 0)).2).getD e 0))] ?_)))))))))))
   have k:=C1f hR;clear hR;obtain ⟨R17,hR,k⟩:=k;rw [k] at h
   refine it rfl (A6x (L2:=[]) (hY _ R17 _ _ h) rfl rfl rfl rfl (A5.dropT 4 rfl) (J5 [Lt1] [0] 1 rfl ozw rfl [Lt1] rfl ooa)) fun ⟨⟨u,L19,Φ20⟩,f⟩=>?_
   refine B1u (A5.yield [sl cU8 z ((H3 pending (d.getD a 0)).1),sl X3 q8 ((H3 pending (d.getD a 0)).2),at_ g [sv d],sl cU8 pendingq pending]) ?_
   refine ip' 1 0 [(34,bv (!u))] ?_
   refine ie (W2 rfl (fun t=>?_) (fun t=>?_))
   ·have m:u=false:=by simpa using t
    rw [m] at f;try simp only [if_true,if_false,Bool.false_eq_true] at f
    refine A6 ?_
    exact A9m rfl ⟨hr,hD⟩ (by simp [hD]) (A3f rfl) (L':=L19) (Φ':=Φ20) (by exact .inr f) (mcT [L19] 0 rfl rfl) (A5.dropT 4 rfl)
   ·have m:u=true:=by simpa using t
    rw [m] at f;try simp only [if_true,if_false,Bool.false_eq_true] at f
    refine A3 (nx (A0 2 rfl (ix rfl (A9 rfl rfl rfl rfl opx) (ip' 1 0 [(27,iv ((e:Int)+1))] (A1 ?_)))))
    exact D4e (z1:=e) (z2:=R_1) (z3:=Lt1) (z4:=Ft1) (e+1) R17 L19 Φ20 ⟨opx,hR,f⟩ olr (mc [L19] [true] rfl oxs) (A5.con1 (D4 0 rfl) (A5.con1 (D4 1 rfl) (A5.con1 (D4 2 rfl) (A5.con1 (D4 3 rfl) (A5.dropT 4 rfl)))))
  have o:¬ ((e:Int)<(((H3 pending (d.getD a 0)).2).length:Int)):=by simpa using w
  rw [Y4 o] at hR;replace hR:=(R4.eq_1 ..).symm.trans hR
  refine F6 (nx (A0 2 rfl (ix rfl (A9 rfl rfl rfl rfl opx) ?_)))
  refine ip' 1 0 [(13,iv ((a:Int)+1))] (A1 ?_)
  exact D3y (z1:=pending) (z2:=pendingq) (z3:=pendingk) (z4:=a) (z5:=R_) (z6:=Lt) (z7:=Ft) ((H3 pending (d.getD a 0)).1) z k4 (a+1) R_1 Lt1 Ft1 ⟨opx,hR,otq,otq,h,osj⟩ olr (mc [Lt1] [true] rfl oxs) (A5.con1 (D4 2 rfl) (A5.con1 (D4 0 rfl) (A5.dropT 4 rfl)))
 have a1:¬ ((a:Int)<(d.length:Int)):=by simpa using h2
 rw [Y4 a1] at hR;replace hR:=(P5.eq_1 ..).symm.trans hR
 refine F6 (nx (sr 4 rfl (ip' 1 3 [(37,.slice pendingq pending.length pendingk)] ?_)))
 have hs30:=B4u pending
 cases hc29:(decide (0<(pending.length:Int))&&Y8 pending)
 ·replace hR:=bf hR hc29
  replace hs30:=hs30.trans (by rw [hc29];rfl:_=([]:List Int))
  refine zcm (B3w (pending:=pending) (pendingq:=pendingq) (pendingk:=pendingk) hs30) (A5.cons (D4 1 rfl) fn0) fun ⟨⟨a2,a6⟩,a0⟩=>?_
  have:([]:List Int).length=0:=rfl
  refine ip' 2 0 [(39,iv 0),(40,iv 0)] (ie (A8 (P9 2 ?_)))
  refine D6 (sr 1 rfl (ip' 1 0 [(41,bv false)] ?_))
  subst hR
  refine ie (A2 (P1 rfl (F6 ?_)))
  exact A4e rfl ⟨hr,hD⟩ (by simp [hD]) (A3f rfl) (L':=Lt) (Φ':=Ft) (by exact .inl i) (mcT [Lt] 0 rfl rfl) (A5.dropT 3 rfl)
 ·replace hR:=bt hR hc29
  replace hs30:=hs30.trans (by rw [hc29];rfl:_=([65533]:List Int))
  refine zcm (B3w (pending:=pending) (pendingq:=pendingq) (pendingk:=pendingk) hs30) (A5.cons (D4 1 rfl) fn0) fun ⟨⟨a2,a6⟩,a0⟩=>?_
  have:([65533]:List Int).length=1:=rfl
  refine ip' 2 0 [(39,iv 1),(40,iv 0)] (ie (A8 (P9 3 ?_)))
  refine D6 (sr 1 rfl (ip' 1 0 [(41,bv true)] ?_))
  refine ie (A2 (G1 rfl (A3 (nx (A2 (A8 (sr 3 rfl (N2 0 rfl opx fun aj q=>(ix rfl (F7 A2s rfl rfl q rfl 0 rfl opx) (ix rfl (D8 (v:=iv (([65533]:List Int).getD 0 0)) (us:=[iv (([65533]:List Int).getD 0 0)]) ty3 rfl rfl (H5 (c:=X3) (sz:=1) q (fun _=>rfl) 0 rfl (gd 0 opx)) rfl) (ip' 1 0 [(10,iv (([65533]:List Int).getD 0 0))] (ie (A0 3 rfl (ip' 2 1 [(44,.func (.yield l) #[] #[]),(45,iv (([65533]:List Int).getD 0 0))] ?_))))))))))))))
  have j:=C1f hR;clear hR;obtain ⟨R33,hR,j⟩:=j;rw [j] at i
  refine it rfl (A6x (L2:=[]) (hY _ R33 _ _ i) rfl rfl rfl rfl (A5.dropT 3 rfl) (J5 [Lt] [0] 1 rfl ozw rfl [Lt] rfl ooa)) fun ⟨⟨a7,L35,Φ36⟩,r⟩=>?_
  refine B1u (A5.yield [sl X3 a2 ([65533]:List Int),at_ g [sv d],sl cU8 pendingq pending]) ?_
  refine A1 (nx (A0 2 rfl (ix rfl (A9 (c:=1) rfl rfl rfl rfl ozw) (ip' 1 0 [(40,iv 1)] (A1 (D6 (sr 1 rfl (ip' 1 0 [(41,bv false)] ?_))))))))
  subst hR
  refine ie (A2 (P1 rfl (F6 ?_)))
  exact A4e rfl ⟨hr,hD⟩ (by simp [hD]) (A3f rfl) (L':=L35) (Φ':=Φ36) (by cases a7<;>first|exact .inr (by simpa using r)|exact .inl (by simpa using r)) (mcT [L35] 0 rfl rfl) (A5.dropT 3 rfl)
def Q8:List Int→List Int→List Int
 | [],l=>l
 | el::rest,l=>Q8 rest (l++([el]:List Int))
def A6n (s:List UInt8):List Int :=
 Q8 (A5c (S3 s)) ([]:List Int)
theorem A8h:∀ (a l:List Int),Q8 a l=l++a
 | [],l=>by simp [Q8]
 | x::r,l=>by simp [Q8,A8h r]
theorem B8b (s:List UInt8):(A6n s).length≤2 * s.length+1:=by
 have:=A8x s
 simpa [A6n,A8h,S3] using this
theorem owx {p:Prop} (h:p:=by first|omega|(simp only [List.length_cons,List.length_nil,List.length_append,List.length_take,List.length_drop,S3];omega)):p:=h
theorem C2a {s:List UInt8} {R:List Int} (hR:A6n s=R) (y:s.length≤1000000000:=by exact om_):Con Tryz.prog 218 [sv s] [] [] ({t:Option Addr×Nat // R.length≤t.2∧R.length≤9223372036854775807}) (fun x=>.slice x.1.1 R.length x.1.2) (fun x=>[]) (fun x=>[sl X3 x.1.1 R]):=by
 refine zce Tryz.func218 fun X hX hr hD=>?_
 replace hR:=(A6n.eq_1 ..).symm.trans hR
 refine sR_ rfl (J3 1 0 [] (fun b=>[(2,pt b 0)]) (fun b=>[bx b [.slice none 0 0] 226]) (fun b=>(ie (A2 (sR_ rfl (pp1 1 4 rfl ?_))))))
 refine zc rfl (C3a rfl) fun j=>?_
 refine ie (A8 (A0t (J5 [vo X3 3 VR.nil ([]:List Int),[bx b [.slice none 0 0] 226]] [1,0] 2 rfl ozw rfl [[bx b [.slice none 0 0] 226],vo X3 3 VR.nil ([]:List Int)] rfl opv) ?_))
 refine C7n [(2,pt b 0),(5,.func (.func 284) #[] #[pa j])] ⟨rfl,rfl,trivial⟩ ?_
 refine C0j (β:=Int) (enc:=(fun x=>iv x)) (xs:=(A5c (S3 s))) (σ:=List Int×VR) hr rfl (C0w (S3 s) j (by first|omega|(simp only [S3];omega)) _ rfl) A5.refl rfl rfl (fun d x=>Q8 d x.1=R∧VOk 1 x.1.length x.2∧x.1.length+d.length≤2 * s.length+1) (fun _ _=>False) (fun x=>(bx b [.slice (va x.2.q) x.1.length x.2.k] 226::((vo X3 3 x.2 x.1)++([])))) (fun x=>[at_ j [sv (S3 s)]]) (([]:List Int),VR.nil) (by exact ⟨hR,VOk.nil,(by simp only [List.length_nil,Nat.zero_add];exact A8x s)⟩) sb_ A5.refl ?_ ?_ (fun _ _ _ _ h=>h.elim)
 ·rintro g rest ⟨l,lr⟩ i Y Y' K' o u
  try dsimp only at i
  obtain ⟨hR,a,p⟩:=i
  replace hR:=(Q8.eq_2 ..).symm.trans hR
  have:=VOk.le a
  refine A0 1 rfl (pp1 1 3 rfl (A1 (u _ _ _ ?_)))
  refine A8 (A0 5 rfl (pl2 2 [0] 7 8 rfl ?_))
  refine it rfl (G2 (c:=X3) (xs:=([g]:List Int)) A2s rfl rfl rfl oki) fun z=>?_
  have:([g]:List Int).length=1:=rfl
  refine it rfl (B1y (f:=X3) (r:=lr) (xs:=l) (ys:=([g]:List Int)) (pre:=[bx b [.slice (va lr.q) l.length lr.k] 226]) (post:=[]) C8m (fun _=>rfl) (fun _=>rfl) rfl rfl rfl rfl rfl rfl rfl rfl rfl (D4 0 rfl) a owx owx) fun ⟨m,e⟩=>?_
  have:=VOk.le e
  have:=VOk.cap e
  refine zrg 1 0 [0] [] (bx b [.slice (va m.q) ((l++([g]:List Int)).length) m.k] 226::((vo X3 3 m (l++([g]:List Int)))++([]))) (A1 ?_)
  exact A9q (I:=fun d x=>Q8 d x.1=R∧VOk 1 x.1.length x.2∧x.1.length+d.length≤2 * s.length+1) (Jx:=fun _ _=>False) (Lk:=fun x=>(bx b [.slice (va x.2.q) x.1.length x.2.k] 226::((vo X3 3 x.2 x.1)++([])))) (Φk:=fun x=>[at_ j [sv (S3 s)]]) (rest:=rest) ((l++([g]:List Int)),m) (by exact ⟨hR,e,(by simp only [List.length_cons,List.length_append,List.length_nil] at *;omega)⟩) sb_ fo_
 ·rintro w ⟨l,lr⟩ n i
  try dsimp only at i
  obtain ⟨hR,a,p⟩:=i
  replace hR:=(Q8.eq_1 ..).symm.trans hR
  have:=VOk.le a
  refine nx (sR_ rfl (zrg 2 0 [0,0] [] (bx b [.slice (va lr.q) l.length lr.k] 226::((vo X3 3 lr l)++([]))) (ie (A6 (B9f [bx b [.slice (va lr.q) l.length lr.k] 226] [] (T:=3) (c:=X3) (r:=lr) (xs:=l) a opv ?_)))))
  have:=VOk.cap a
  subst hR
  exact A9f rfl ⟨hr,hD⟩ (by exact (M9.cons (show M9 X.D by rw [hD];exact M9.nil) n)) (U4 rfl (C3c (v:=.slice (va lr.q) l.length lr.k) D2r rfl 0 rfl rfl)) (zq (va lr.q) lr.k) (by rfl) sb_ fo_
def A4u (is:Bool):Option Unit :=
 (bif (!is) then none else (some ()))
theorem A2z {b:Bool} {r:Unit} (h:A4u b=some r):b=true:=by cases b with | true=>rfl | false=>cases h
theorem A7s {is:Bool} {R:Option Unit} (hR:A4u is=R):B7x Tryz.prog 105 [bv is] [] [] A0u R (fun r=>.tuple #[]):=by
 refine A6s (n:=6) Tryz.func105 rfl oki rfl rfl [(0,bv is)] ⟨rfl,trivial⟩ fun X hX hr hD=>?_
 replace hR:=(A4u.eq_1 ..).symm.trans hR
 refine sR_ rfl (pp1 2 3 rfl (ie ?_))
 refine zjb rfl hR ?_ ?_<;>clear hR<;>intro hR a
 ·refine A0 3 rfl (zrl 1 2 [] [(4,ag [])] (ix rfl (C5s Tryz.underlying235 rfl rfl rfl) ?_))
  refine C6x rfl rfl rfl ?_
  exact X7 ⟨hr,hD⟩ hR.symm
 refine A3 ?_
 exact A7k rfl ⟨hr,hD⟩ (by simp [hD]) (A3f rfl) hR.symm rfl
def A1z:List Int→Nat→Option Unit
 | [],t19=>(some ())
 | hd_l0::tl_l0,t19=>(Option.bind (A4u ((decide ((32:Int)≤hd_l0))&&((decide (hd_l0<127))||(decide ((159:Int)<hd_l0))))) fun (a:Unit)=>A1z tl_l0 (t19+1))
def B3r (s:List UInt8):Option Unit :=
 (E8 (A6n s) fun (a:List Int)=>(Option.bind (A4u ((decide ((s.length:Int)≤510))&&(decide ((B1l a)=s)))) fun (r:Unit)=>A1z a 0))
theorem C1j {s:List UInt8} {R:Option Unit} (hR:B3r s=R) (hs:s.length≤100000000:=by exact om_):B7x Tryz.prog 171 [sv s] [] [] A0u R (fun r=>.tuple #[]):=by
 refine A6s (n:=35) Tryz.func171 rfl oki rfl rfl [(0,sv s)] ⟨rfl,trivial⟩ fun X hX hr hD=>?_
 replace hR:=(B3r.eq_1 ..).symm.trans hR
 refine sR_ rfl (pp1 1 5 rfl ?_)
 have z:=E9 hR;clear hR;obtain ⟨b,j,hR⟩:=z
 refine zc rfl (C2a j) fun ⟨⟨q,y⟩,p⟩=>?_
 obtain ⟨w,x⟩:=p
 have:=B8b s;try rw [j] at this
 refine pp1 1 2 rfl (ie (sR_ rfl (pp1 4 10 rfl ?_)))
 refine zid 5 1 10 15 (decide ((B1l b)=s)) (fun g6 a0=>?_) ?_
 ·refine pp1 1 11 rfl (zv rfl (C4e rfl) (pp1 1 13 rfl (ix rfl (C7v rfl rfl rfl) (pp1 1 15 rfl ?_))))
  exact zai 6 10 15 g6
 refine A4t (L2:=[]) (A7s rfl) rfl rfl rfl rfl rfl rfl fn0 (List.Perm.refl _) (fun r k=>?_) (fun o=>?_)
 ·replace hR:=B6r hR k
  have g:=A2z k;try simp only [Bool.and_eq_true,decide_eq_true_eq] at g
  refine ie (sR_ rfl (pp3 3 17 18 19 rfl (ie (A8 (A3q (fun (a:Nat)=>(a≤b.length∧A1z (b.drop a) a=R,[(17,.slice q b.length y),(18,iv (b.length:Int)),(19,iv (a:Int))],[],[sl X3 q b],b.length - a)) 0 ⟨opx,hR⟩ sb_ A5.refl ?_)))))
  rintro a ⟨v,hR⟩
  refine sR_ rfl (pp1 1 20 rfl ?_)
  refine ie (A2 (W2 rfl (fun h=>?_) (fun h=>?_)))
  ·have f:=bq_ h
   rw [Y3 0 (show a<b.length by omega)] at hR;replace hR:=(A1z.eq_2 ..).symm.trans hR
   refine A3 (nx (A2 (A8 (sR_ rfl (N2 0 rfl opx fun a1 e=>(ix rfl (F7 A2s rfl rfl e rfl a rfl opx) (ix rfl (D8 ty3 rfl rfl (H5 (c:=X3) (sz:=1) e (fun _=>rfl) 0 rfl (gd 0 opx)) rfl) (pp1 1 4 rfl (ie (A0 11 rfl (pp1 3 25 rfl ?_)))))))))))
   refine zid 7 1 25 32 ((decide ((b.getD a 0)<127))||(decide ((159:Int)<(b.getD a 0)))) (fun m u=>?_) ?_
   ·refine pp1 3 28 rfl ?_
    refine zir 3 1 28 31 (decide ((159:Int)<(b.getD a 0))) (fun l t=>?_) ?_
    ·refine pp1 3 31 rfl ?_
     exact zai 2 28 31 l
    refine pp1 1 32 rfl ?_
    exact zai 4 25 32 m
   refine A4t (L2:=[]) (A7s rfl) rfl rfl rfl rfl rfl rfl fn0 (List.Perm.refl _) (fun r1 d=>?_) (fun i=>?_)
   ·replace hR:=B6r hR d
    have g:=A2z d;try simp only [Bool.and_eq_true,decide_eq_true_eq] at g
    refine A1 (nx (A0 2 rfl (ix rfl (A9 rfl rfl rfl rfl opx) (pp1 1 19 rfl (A1 ?_)))))
    exact A0y (z1:=a) (a+1) ⟨opx,hR⟩ olr sb_ A5.refl
   ·replace hR:=B5v hR i
    exact X7 ⟨hr,hD⟩ hR.symm
  have f:=bq_ h
  rw [Y4 f] at hR;replace hR:=(A1z.eq_1 ..).symm.trans hR
  refine F6 ?_
  exact A7k rfl ⟨hr,hD⟩ (by simp [hD]) (A3f rfl) hR.symm rfl
 ·replace hR:=B5v hR o
  exact X7 ⟨hr,hD⟩ hR.symm
def B3t (a:Act) (b:Act):Option Unit :=
 (Option.bind (A4u (decide (a=b))) fun (r:Unit)=>(some ()))
theorem C1r {a c:Act} {R:Option Unit} (hR:B3t a c=R):B7x Tryz.prog 170 [ag (B8 a),ag (B8 c)] [] [] A0u R (fun r=>.tuple #[]):=by
 refine A6s (n:=8) Tryz.func170 rfl oki rfl rfl [(0,ag (B8 a)),(1,ag (B8 c))] ⟨rfl,rfl,trivial⟩ fun X hX hr hD=>?_
 replace hR:=(B3t.eq_1 ..).symm.trans hR
 refine sR_ rfl (A4z 2 0 [] (fun f e=>[(2,pt f 0),(3,pt e 0)]) (fun f e=>[bx e (B8 c) 68,bx f (B8 a) 68]) (fun f e=>(ie (A0 4 rfl (zrl 2 2 [1,0] [(4,ag (B8 a)),(5,ag (B8 c))] (ix rfl (A3c (a:=a) (b:=c) D3n rfl rfl rfl) ?_))))))
 refine A4t (L2:=[bx e (B8 c) 68,bx f (B8 a) 68]) (A7s rfl) rfl rfl rfl rfl rfl rfl fn0 (List.Perm.refl _) (fun r d=>?_) (fun g=>?_)
 ·replace hR:=B6r hR d
  have h:=A2z d;try simp only [Bool.and_eq_true,decide_eq_true_eq] at h
  refine A1 ?_
  exact A7k rfl ⟨hr,hD⟩ (by simp [hD]) (A3f rfl) hR.symm rfl
 ·replace hR:=B5v hR g
  exact X7 ⟨hr,hD⟩ hR.symm
def A7d (a:Act):Option (List UInt8) :=
 (Option.bind (B3t a ({Act.zero with kind:=a.kind,text:=a.text})) fun (r:Unit)=>(Option.bind (B3r a.text) fun (b:Unit)=>(some (([50,59]:List UInt8)++a.text))))
theorem B6z {a:Act} {R:Option (List UInt8)} (hR:A7d a=R) (g:a.text.length≤100000000:=by exact om_):B7x Tryz.prog 169 [ag (B8 a)] [] [] A0u R (fun r=>sv r):=by
 refine A6s (n:=16) Tryz.func169 rfl oki rfl rfl [(0,ag (B8 a))] ⟨rfl,trivial⟩ fun X hX hr hD=>?_
 replace hR:=(A7d.eq_1 ..).symm.trans hR
 refine sR_ rfl (J3 2 0 [] (fun b=>[(1,pt b 0)]) (fun b=>[bx b (B8 a) 68]) (fun b=>(ie (sR_ rfl (zrl 6 1 [0,0,0] [(3,ag (B8 a)),(8,ag (B8 ({Act.zero with kind:=a.kind,text:=a.text})))] ?_)))))
 refine A4t (L2:=[bx b (B8 a) 68]) (C1r rfl) rfl rfl rfl rfl rfl rfl fn0 (List.Perm.refl _) (fun r e=>?_) (fun d=>?_)
 ·replace hR:=B6r hR e
  refine ie (sR_ rfl (pl1 2 [0] 11 rfl ?_))
  refine A4t (L2:=[bx b (B8 a) 68]) (C1j rfl osj) rfl rfl rfl rfl rfl rfl fn0 (List.Perm.refl _) (fun h f=>?_) (fun c=>?_)
  ·replace hR:=B6r hR f
   refine ie (sR_ rfl (pl1 2 [0] 14 rfl (ix rfl (zst rfl rfl rfl) (pp1 1 2 rfl (ie (A6 ?_))))))
   exact B8y rfl ⟨hr,hD⟩ (by simp [hD]) (U4 rfl (A4 rfl)) hR.symm rfl
  ·replace hR:=B5v hR c
   exact X7 ⟨hr,hD⟩ hR.symm
 ·replace hR:=B5v hR d
  exact X7 ⟨hr,hD⟩ hR.symm
end Go.Proofs.YtkdgfkfbljdgmaaGreatDoor
set_option linter.unusedVariables false
set_option linter.unusedSimpArgs false
set_option linter.unnecessarySimpa false
set_option maxRecDepth 100000
namespace Go.Proofs.YtkdgfkfbljdgmaaGreatDoor
open Go Go.Fen
theorem B2c:EqT Tryz.prog 40 S2:=EqT.of 20 rfl oki oki (fun _ _=>by kernel_rfl) S2.inj
theorem ty4:Ty Tryz.prog 4 1 false:=⟨by kernel_rfl⟩
theorem B4t:Ty Tryz.prog 40 2 true:=⟨by kernel_rfl⟩
theorem C6e:Ty Tryz.prog 80 1 false:=⟨by kernel_rfl⟩
theorem D3o:Ty Tryz.prog 170 3 true:=⟨by kernel_rfl⟩
def K0:Ar3 :=
 {Ar3.zero with b:=255,c:=16777215}
theorem B5y {R:Ar3} (hR:K0=R):J6 Tryz.prog 167 [] [] (ag (B6d R)):=by
 refine zce Tryz.func167 fun X hX hr hD=>?_
 replace hR:=(K0.eq_1 ..).symm.trans hR
 refine sR_ rfl (J3 1 0 [] (fun a=>[(0,pt a 0)]) (fun a=>[bx a (B6d Ar3.zero) 170]) (fun a=>(ie (sR_ rfl (zrg 2 0 [0] [] [bx a (B6d ({Ar3.zero with b:=255,c:=16777215})) 170] ?_)))))
 subst hR
 refine ie (A6 ?_)
 exact zer hr hD (U4 rfl (L6 (us:=B6d ({Ar3.zero with b:=255,c:=16777215})) D3o rfl 0 rfl rfl rfl)) () sb_ fn0
def X6 (c:Col):Int :=
 (bif ((((decide (c.kind<0))||(decide ((3:Int)≤c.kind)))||(decide (c.n<0)))||(decide ((([K0.a,K0.b,K0.c]:List Int).getD ((c.kind).toNat) 0)<c.n))) then 130 else 0)
theorem A6i {c:Col} {R:Int} (hR:X6 c=R):J6 Tryz.prog 101 [ag (S2 c)] [] (iv R):=by
 refine zce Tryz.func101 fun X hX hr hD=>?_
 replace hR:=(X6.eq_1 ..).symm.trans hR
 refine sR_ rfl (J3 2 0 [] (fun d=>[(1,pt d 0)]) (fun d=>[bx d (S2 c) 40]) (fun d=>(ie (A2 (sR_ rfl (zv rfl (B5y rfl) ?_))))))
 refine J3 2 0 [0] (fun e=>[(3,pt e 0)]) (fun e=>[bx e (B6d K0) 170,bx d (S2 c) 40]) (fun e=>?_)
 refine ie (sd 22 rfl oki rfl (pg1 4 [1] 8 rfl ?_))
 refine zdr 4 14 8 12 (decide ((3:Int)≤c.kind)) (fun o k=>?_) ?_
 ·refine pg1 4 [1] 12 rfl ?_
  exact zad 2 8 12 o
 refine pd1 1 13 rfl ?_
 refine zdO 4 9 13 17 (decide (c.n<0)) (fun g=>?_) ?_
 ·have m:=bq_ g
  refine pg1 4 [1] 17 rfl ?_
  exact zad 2 13 17 g
 refine pd1 1 18 rfl ?_
 refine zdO 8 0 18 26 (decide ((([K0.a,K0.b,K0.c]:List Int).getD ((c.kind).toNat) 0)<c.n)) (fun h=>?_) ?_
 ·have l:=bq_ h
  refine pg2 4 [1,1] 20 22 rfl (dd rfl (A0f Tryz.underlying170 ty3 rfl rfl rfl ((c.kind).toNat) opx opx) ?_)
  refine dd rfl (B4l (u:=iv (([K0.a,K0.b,K0.c]:List Int).getD ((c.kind).toNat) 0)) (c:=X3) (xs:=([K0.a,K0.b,K0.c]:List Int)) (j:=[]) (sz:=1) ty3 (fun _=>rfl) rfl rfl 0 rfl ((c.kind).toNat) 0 rfl (gd 0 (by simp only [List.length_cons,List.length_nil];omega)) rfl) (pd1 2 26 rfl ?_)
  exact zad 6 18 26 h
 refine de ?_
 refine zjb rfl hR ?_ ?_<;>clear hR<;>intro hR i
 ·have f:=bq_ i
  refine sR_ rfl (pp1 1 2 rfl ?_)
  subst hR
  refine ie (A6 ?_)
  exact E2 hr hD
 have f:=bq_ i
 refine A3 (nx (sR_ rfl (pp1 1 2 rfl ?_)))
 subst hR
 refine ie (A6 ?_)
 exact E2 hr hD
theorem gdE {α:Type} {l:List α} {k:Nat} {d:α} (h:k<l.length):l.getD k d=l[k]:=by simp [List.getD_eq_getElem?_getD,h]
def H0 (s:Sty):Int :=
 (bif (((!decide ((bOp .andNot .i64 s.attr 255)=0))||(decide (s.under<0)))||(decide ((5:Int)<s.under))) then 140 else (bif (!decide ((X6 s.fore)=0)) then (X6 s.fore) else (bif (!decide ((X6 s.back)=0)) then (X6 s.back) else (bif (!decide ((X6 s.line)=0)) then (X6 s.line) else 0))))
theorem V9 {s:Sty} {R:Int} (hR:H0 s=R):J6 Tryz.prog 89 [ag (C7 s)] [] (iv R):=by
 refine zce Tryz.func89 fun X hX hr hD=>?_
 replace hR:=(H0.eq_1 ..).symm.trans hR
 refine sR_ rfl (J3 2 0 [] (fun a=>[(1,pt a 0)]) (fun a=>[bx a (C7 s) 42]) (fun a=>(ie (A2 (sR_ rfl (pl1 5 [0] 10 rfl ?_))))))
 refine zio 4 5 10 14 (decide (s.under<0)) (fun h=>?_) ?_
 ·have p:=bq_ h
  refine pl1 4 [0] 14 rfl ?_
  exact A1 (J0 2 10 14 h fn0 sb_ rfl rfl rfl rfl rfl)
 refine pp1 1 15 rfl ?_
 refine zio 4 0 15 19 (decide ((5:Int)<s.under)) (fun i=>?_) ?_
 ·have l:=bq_ i
  refine pl1 4 [0] 19 rfl ?_
  exact A1 (J0 2 15 19 i fn0 sb_ rfl rfl rfl rfl rfl)
 refine ie ?_
 refine zjb rfl hR ?_ ?_<;>clear hR<;>intro hR j
 ·have f:=bq_ j
  refine sR_ rfl (pp1 1 2 rfl ?_)
  subst hR
  refine ie (A6 ?_)
  exact E2 hr hD
 have f:=bq_ j
 refine A3 (nx (A2 (sR_ rfl (zrl 8 0 [0,0,0] [(26,ag [iv s.fore.kind,iv s.fore.n,iv s.back.kind,iv s.back.n,iv s.line.kind,iv s.line.n]),(27,iv 0)] (ie (A8 (P9 5 ?_)))))))
 refine D6 (sR_ rfl (pp1 1 28 rfl ?_))
 refine ie (A2 (G1 rfl (A3 (nx (A2 (A8 (sR_ rfl (ix rfl (E6 (v:=ag [iv s.fore.kind,iv s.fore.n]) (us:=[iv s.fore.kind,iv s.fore.n]) Tryz.underlying221 B4t rfl rfl rfl 0 rfl ozw rfl rfl rfl) ?_))))))))
 refine J3 2 0 [0] (fun b=>[(4,pt b 0)]) (fun b=>[bx b (S2 s.fore) 40,bx a (C7 s) 42]) (fun b=>?_)
 refine ie (sR_ rfl (zrl 1 2 [0] [(30,ag (S2 s.fore))] (zv rfl (A6i rfl) (pp1 1 5 rfl (ie (sR_ rfl (pp1 2 33 rfl (ie ?_))))))))
 refine zjn rfl hR ?_ ?_<;>clear hR<;>intro hR r m
 ·refine sR_ rfl (pp1 2 2 rfl ?_)
  subst hR
  refine ie (A6 ?_)
  exact E2 hr hD
 refine A3 (nx (A0 2 rfl (ix rfl (A9 (c:=1) rfl rfl rfl rfl ozw) (pp1 1 27 rfl (A1 (D6 (sR_ rfl (pp1 1 28 rfl (ie (A2 (G1 rfl (A3 (nx (A2 (A8 (sR_ rfl (ix rfl (E6 (v:=ag [iv s.back.kind,iv s.back.n]) (us:=[iv s.back.kind,iv s.back.n]) Tryz.underlying221 B4t rfl rfl rfl 1 rfl ozw rfl rfl rfl) ?_)))))))))))))))))
 refine J3 2 0 [0] (fun d=>[(4,pt d 0)]) (fun d=>[bx d (S2 s.back) 40,bx b (S2 s.fore) 40,bx a (C7 s) 42]) (fun d=>?_)
 refine ie (sR_ rfl (zrl 1 2 [0] [(30,ag (S2 s.back))] (zv rfl (A6i rfl) (pp1 1 5 rfl (ie (sR_ rfl (pp1 2 33 rfl (ie ?_))))))))
 refine zjn rfl hR ?_ ?_<;>clear hR<;>intro hR q k
 ·refine sR_ rfl (pp1 2 2 rfl ?_)
  subst hR
  refine ie (A6 ?_)
  exact E2 hr hD
 refine A3 (nx (A0 2 rfl (ix rfl (A9 (c:=2) rfl rfl rfl rfl ozw) (pp1 1 27 rfl (A1 (D6 (sR_ rfl (pp1 1 28 rfl (ie (A2 (G1 rfl (A3 (nx (A2 (A8 (sR_ rfl (ix rfl (E6 (v:=ag [iv s.line.kind,iv s.line.n]) (us:=[iv s.line.kind,iv s.line.n]) Tryz.underlying221 B4t rfl rfl rfl 2 rfl ozw rfl rfl rfl) ?_)))))))))))))))))
 refine J3 2 0 [0] (fun e=>[(4,pt e 0)]) (fun e=>[bx e (S2 s.line) 40,bx d (S2 s.back) 40,bx b (S2 s.fore) 40,bx a (C7 s) 42]) (fun e=>?_)
 refine ie (sR_ rfl (zrl 1 2 [0] [(30,ag (S2 s.line))] (zv rfl (A6i rfl) (pp1 1 5 rfl (ie (sR_ rfl (pp1 2 33 rfl (ie ?_))))))))
 refine zjn rfl hR ?_ ?_<;>clear hR<;>intro hR o g
 ·refine sR_ rfl (pp1 2 2 rfl ?_)
  subst hR
  refine ie (A6 ?_)
  exact E2 hr hD
 refine A3 (nx (A0 2 rfl (ix rfl (A9 (c:=3) rfl rfl rfl rfl ozw) (pp1 1 27 rfl (A1 (D6 (sR_ rfl (pp1 1 28 rfl (ie (A2 (P1 rfl (F6 (nx (sR_ rfl (pp1 1 2 rfl ?_)))))))))))))))
 subst hR
 refine ie (A6 ?_)
 exact E2 hr hD
end Go.Proofs.YtkdgfkfbljdgmaaGreatDoor
set_option linter.unusedVariables false
set_option linter.unusedSimpArgs false
set_option linter.unnecessarySimpa false
set_option maxRecDepth 100000
namespace Go.Proofs.YtkdgfkfbljdgmaaGreatDoor
open Go Go.Fen
theorem D2o:ApTy Tryz.prog 48 4 1 1:=⟨by kernel_rfl,by kernel_rfl,rfl⟩
theorem C9x:ApTy Tryz.prog 65 106 12 96:=⟨by kernel_rfl,by kernel_rfl,rfl⟩
theorem C7a:SlTy Tryz.prog 48 4 1:=⟨by kernel_rfl,by kernel_rfl⟩
theorem A2p:SlTy Tryz.prog 65 106 12:=⟨by kernel_rfl,by kernel_rfl⟩
theorem D4a:Ty Tryz.prog 47 13 true:=⟨by kernel_rfl⟩
theorem C3i:Ty Tryz.prog 72 2 true:=⟨by kernel_rfl⟩
theorem B0g:Ty Tryz.prog 106 12 true:=⟨by kernel_rfl⟩
theorem D3c:Zero Tryz.prog 4 [bv false]:=⟨by kernel_rfl⟩
theorem C4s:Zero Tryz.prog 106 (B1 Cel.zero):=⟨by kernel_rfl⟩
structure Cur where
 row:Int
 col:Int
 wrap:Bool
deriving DecidableEq
def Y1 (x:Cur):List Value:=[.int .i64 x.row,.int .i64 x.col,.bool x.wrap]
def Cur.zero:Cur:=⟨0,0,false⟩
theorem Y1.inj (x y:Cur) (h:Y1 x=Y1 y):x=y:=by
 rcases x with ⟨_,_,_⟩
 rcases y with ⟨_,_,_⟩
 simp [Y1,bs] at h
 simp_all
structure Ar4 where
 a:Int
 b:Int
 c:Int
 d:Int
deriving DecidableEq
def B8g (x:Ar4):List Value:=[.int .i64 x.a,.int .i64 x.b,.int .i64 x.c,.int .i64 x.d]
def Ar4.zero:Ar4:=⟨0,0,0,0⟩
theorem B8g.inj (x y:Ar4) (h:B8g x=B8g y):x=y:=by
 rcases x with ⟨_,_,_,_⟩
 rcases y with ⟨_,_,_,_⟩
 simp [B8g,bs] at h
 simp_all
structure Sts where
 g:Ar4
 used:Int
 once:Int
deriving DecidableEq
def A8k (x:Sts):List Value:=B8g x.g++([.int .i64 x.used,.int .i64 x.once])
def Sts.zero:Sts:=⟨Ar4.zero,0,0⟩
theorem A8k.inj (x y:Sts) (h:A8k x=A8k y):x=y:=by
 rcases x with ⟨⟨_,_,_,_⟩,_,_⟩
 rcases y with ⟨⟨_,_,_,_⟩,_,_⟩
 simp [B8g,A8k,bs] at h
 simp_all
structure Mod where
 insert:Bool
 newline:Bool
 cursorKeys:Bool
 inverse:Bool
 origin:Bool
 auto:Bool
 visible:Bool
 paste:Bool
 focus:Bool
 sync:Bool
 keypad:Bool
 mouse:Int
 mouseSgr:Bool
deriving DecidableEq
def A4k (x:Mod):List Value:=[.bool x.insert,.bool x.newline,.bool x.cursorKeys,.bool x.inverse,.bool x.origin,.bool x.auto,.bool x.visible,.bool x.paste,.bool x.focus,.bool x.sync,.bool x.keypad,.int .i64 x.mouse,.bool x.mouseSgr]
def Mod.zero:Mod:=⟨false,false,false,false,false,false,false,false,false,false,false,0,false⟩
theorem A4k.inj (x y:Mod) (h:A4k x=A4k y):x=y:=by
 rcases x with ⟨_,_,_,_,_,_,_,_,_,_,_,_,_⟩
 rcases y with ⟨_,_,_,_,_,_,_,_,_,_,_,_,_⟩
 simp [A4k,bs] at h
 simp_all
structure Sav where
 is_:Bool
 cursor:Cur
 style:Sty
 sets:Sts
 origin:Bool
deriving DecidableEq
def A5i (x:Sav):List Value:=[.bool x.is_]++(Y1 x.cursor++(C7 x.style++(A8k x.sets++([.bool x.origin]))))
def Sav.zero:Sav:=⟨false,Cur.zero,Sty.zero,Sts.zero,false⟩
theorem A5i.inj (x y:Sav) (h:A5i x=A5i y):x=y:=by
 rcases x with ⟨_,⟨_,_,_⟩,⟨_,_,⟨_,_⟩,⟨_,_⟩,⟨_,_⟩⟩,⟨⟨_,_,_,_⟩,_,_⟩,_⟩
 rcases y with ⟨_,⟨_,_,_⟩,⟨_,_,⟨_,_⟩,⟨_,_⟩,⟨_,_⟩⟩,⟨⟨_,_,_,_⟩,_,_⟩,_⟩
 simp [B8g,S2,Y1,A5i,A8k,C7,bs] at h
 simp_all
structure ScrC where
 cols:Int
 rows:Int
 onAlt:Bool
 cursor:Cur
 style:Sty
 sets:Sts
 modes:Mod
 top:Int
 bottom:Int
 kept:Sav
 keptAlt:Sav
 shape:Int
 title:List UInt8
 last:Int
deriving DecidableEq
def C4t (x:ScrC):List Value:=[.int .i64 x.cols,.int .i64 x.rows,.bool x.onAlt]++(Y1 x.cursor++(C7 x.style++(A8k x.sets++(A4k x.modes++([.int .i64 x.top,.int .i64 x.bottom]++(A5i x.kept++(A5i x.keptAlt++([.int .i64 x.shape,.string (bs x.title),.int .i64 x.last]))))))))
def ScrC.zero:ScrC:=⟨0,0,false,Cur.zero,Sty.zero,Sts.zero,Mod.zero,0,0,Sav.zero,Sav.zero,0,[],0⟩
theorem C4t.inj (x y:ScrC) (h:C4t x=C4t y):x=y:=by
 rcases x with ⟨_,_,_,⟨_,_,_⟩,⟨_,_,⟨_,_⟩,⟨_,_⟩,⟨_,_⟩⟩,⟨⟨_,_,_,_⟩,_,_⟩,⟨_,_,_,_,_,_,_,_,_,_,_,_,_⟩,_,_,⟨_,⟨_,_,_⟩,⟨_,_,⟨_,_⟩,⟨_,_⟩,⟨_,_⟩⟩,⟨⟨_,_,_,_⟩,_,_⟩,_⟩,⟨_,⟨_,_,_⟩,⟨_,_,⟨_,_⟩,⟨_,_⟩,⟨_,_⟩⟩,⟨⟨_,_,_,_⟩,_,_⟩,_⟩,_,_,_⟩
 rcases y with ⟨_,_,_,⟨_,_,_⟩,⟨_,_,⟨_,_⟩,⟨_,_⟩,⟨_,_⟩⟩,⟨⟨_,_,_,_⟩,_,_⟩,⟨_,_,_,_,_,_,_,_,_,_,_,_,_⟩,_,_,⟨_,⟨_,_,_⟩,⟨_,_,⟨_,_⟩,⟨_,_⟩,⟨_,_⟩⟩,⟨⟨_,_,_,_⟩,_,_⟩,_⟩,⟨_,⟨_,_,_⟩,⟨_,_,⟨_,_⟩,⟨_,_⟩,⟨_,_⟩⟩,⟨⟨_,_,_,_⟩,_,_⟩,_⟩,_,_,_⟩
 simp [B8g,S2,Y1,A4k,A5i,C4t,A8k,C7,bs] at h
 simp_all
def B3 (x:ScrC) (c d a b:Slc):List Value:=[.int .i64 x.cols,.int .i64 x.rows,.slice c.q c.n c.k,.slice d.q d.n d.k,.bool x.onAlt,.slice a.q a.n a.k]++(Y1 x.cursor++(C7 x.style++(A8k x.sets++(A4k x.modes++([.int .i64 x.top,.int .i64 x.bottom,.slice b.q b.n b.k]++(A5i x.kept++(A5i x.keptAlt++([.int .i64 x.shape,.string (bs x.title),.int .i64 x.last]))))))))
structure FrmC where
 cols:Int
 cursor:Plc
 visible:Bool
 shape:Int
 title:List UInt8
deriving DecidableEq
def C4y (x:FrmC):List Value:=[.int .i64 x.cols]++(B3e x.cursor++([.bool x.visible,.int .i64 x.shape,.string (bs x.title)]))
def FrmC.zero:FrmC:=⟨0,Plc.zero,false,0,[]⟩
theorem C4y.inj (x y:FrmC) (h:C4y x=C4y y):x=y:=by
 rcases x with ⟨_,⟨_,_⟩,_,_,_⟩
 rcases y with ⟨_,⟨_,_⟩,_,_,_⟩
 simp [C4y,B3e,bs] at h
 simp_all
def B0 (x:FrmC) (a:Slc):List Value:=[.int .i64 x.cols,.slice a.q a.n a.k]++(B3e x.cursor++([.bool x.visible,.int .i64 x.shape,.string (bs x.title)]))
def W7:Mod :=
 {Mod.zero with auto:=true,visible:=true}
theorem C3t {R:Mod} (hR:W7=R):J6 Tryz.prog 35 [] [] (ag (A4k R)):=by
 refine zce Tryz.func35 fun X hX hr hD=>?_
 replace hR:=(W7.eq_1 ..).symm.trans hR
 refine sR_ rfl (J3 1 0 [] (fun a=>[(0,pt a 0)]) (fun a=>[bx a (A4k Mod.zero) 47]) (fun a=>(ie (sR_ rfl (zrg 2 0 [0] [] [bx a (A4k ({Mod.zero with auto:=true,visible:=true})) 47] ?_)))))
 subst hR
 refine ie (A6 ?_)
 exact zer hr hD (U4 rfl (L6 (us:=A4k ({Mod.zero with auto:=true,visible:=true})) D4a rfl 0 rfl rfl rfl)) () sb_ fn0
def V3 (a:Int):Nat→List Bool→Nat→(List Bool×Int)
 | 0,_,_=>([],0)
 | fu1+1,t,k=>(bif (decide ((k:Int)<a)) then V3 a fu1 (t.set k true) (k+8) else (t,0))
def Q5 (a:Int):List Bool×Int :=
 (bif ((decide (a<2))||(decide ((80:Int)<a))) then (([]:List Bool),2) else V3 a ((a - (8:Int)).toNat+1) (List.replicate ((a).toNat) false) 8)
theorem C3n {a:Int} {R:List Bool×Int} (hR:Q5 a=R):Con Tryz.prog 34 [iv a] [] [] ({r:VR // VOk 1 R.1.length r}) (fun x=>.tuple #[.slice (va x.1.q) R.1.length x.1.k,iv R.2]) (fun x=>((vo H4 4 x.1 R.1)++([]))) (fun x=>[]):=by
 refine zce Tryz.func34 fun X hX hr hD=>?_
 replace hR:=(Q5.eq_1 ..).symm.trans hR
 refine sR_ rfl (pp0 2 rfl (ie (A2 (sR_ rfl (pp1 3 8 rfl ?_)))))
 refine zir 3 0 8 11 (decide ((80:Int)<a)) (fun y o=>?_) ?_
 ·refine pp1 3 11 rfl ?_
  exact A1 (J0 2 8 11 y fn0 sb_ rfl rfl rfl rfl rfl)
 refine ie ?_
 refine zjo rfl hR ?_ ?_<;>clear hR<;>intro hR h2 n
 ·refine sR_ rfl (pp2 2 2 3 rfl ?_)
  subst hR
  refine ie (A6 ?_)
  exact zer hr hD (V1 rfl (A4 rfl) (A4 rfl)) ⟨VR.nil,VOk.nil⟩ sb_ fn0
 refine A3 (nx (sR_ rfl (pp1 1 12 rfl (it rfl (A8s (f:=H4) (l:=(a).toNat) (c:=(a).toNat) false D2o D3c.ok (fun _=>rfl) rfl (by exact congrArg (fun z=>some (Value.int .i64 z)) (show a=(((a).toNat:Nat):Int) by omega)) (by exact congrArg (fun z=>some (Value.int .i64 z)) (show a=(((a).toNat:Nat):Int) by omega)) opx ofv opx) fun ⟨v,d⟩=>?_))))
 have:(List.replicate ((a).toNat) false).length=((a).toNat):=List.length_replicate
 have:=VOk.le d
 have:=VOk.cap d
 have:(List.replicate ((a).toNat) false).length=((a).toNat):=List.length_replicate
 refine pp1 1 4 rfl (ie (A2 (sR_ rfl (pp1 1 5 rfl (ie (A8 ?_))))))
 refine A3q (un fun (g:Nat)=>un fun (t:List Bool)=>un fun (e:VR) (k:Nat)=>((a - (k:Int)).toNat<g∧V3 a g t k=R∧VOk 1 t.length e∧t.length=a.toNat,[(0,iv a),(4,.slice (va e.q) t.length e.k),(5,iv (k:Int))],((vo H4 4 e t)++([])),[],g)) (((a - (8:Int)).toNat+1),List.replicate ((a).toNat) false,v,8) ⟨(Nat.lt_succ_self _),hR,d,(by exact List.length_replicate)⟩ sb_ fn0 ?_
 rintro ⟨g,t,e,k⟩ ⟨w,hR,b,p⟩
 have:=VOk.le b
 obtain ⟨fu1,rfl⟩:∃ m,g=m+1:=⟨g - 1,by omega⟩
 replace hR:=(V3.eq_2 ..).symm.trans hR
 refine A2 (sR_ rfl (pp1 3 16 rfl ?_))
 refine ie ?_
 refine zjd rfl hR ?_ ?_<;>clear hR<;>intro hR h6 s
 ·refine A3 (nx (A2 (A8 (A0 4 rfl (pp2 2 19 20 rfl ?_)))))
  obtain ⟨b7,j⟩:=VOk.some b opx
  obtain ⟨u,i,h⟩:=e
  obtain rfl:u=some b7:=j
  refine ix rfl (A0b C7a rfl rfl rfl k rfl opx) (it rfl (Y6 (us:=[bv true]) (u':=true) (c:=H4) (sz:=1) ty4 (fun _=>rfl) rfl rfl rfl 0 rfl rfl rfl rfl k 0 rfl (gd false opx) rfl rfl) fun _=>?_)
  refine A1 (nx (A0 3 rfl (pp1 1 17 rfl (ix rfl (A9 rfl rfl rfl rfl opx) (pp1 1 5 rfl (A1 ?_))))))
  exact A0y (z1:=(fu1+1,t,(⟨some b7,i,h⟩:VR),k)) (fu1,t.set k true,(⟨some b7,i,h⟩:VR),k+8) ⟨opx,hR,(VOk.cast b oom),(by (rw [List.length_set];exact p))⟩ (Nat.lt_succ_self _) sb_ fn0
 refine F6 (nx (sR_ rfl (pp2 3 2 3 rfl ?_)))
 subst hR
 refine ie (A6 ?_)
 exact zer hr hD (V1 rfl (A4 rfl) (A4 rfl)) ⟨e,b⟩ sb_ fn0
def G4 (s:Sty):Cel :=
 {Cel.zero with base:=32,sty:=s}
theorem C1c {s:Sty} {R:Cel} (hR:G4 s=R):J6 Tryz.prog 214 [ag (C7 s)] [] (ag (B1 R)):=by
 refine zce Tryz.func214 fun X hX hr hD=>?_
 replace hR:=(G4.eq_1 ..).symm.trans hR
 refine sR_ rfl (A4z 2 0 [] (fun b a=>[(1,pt b 0),(2,pt a 0)]) (fun b a=>[bx a (B1 Cel.zero) 106,bx b (C7 s) 42]) (fun b a=>(ie (sR_ rfl (zrg 3 0 [1,0] [] [bx a (B1 ({Cel.zero with base:=32,sty:=s})) 106,bx b (C7 s) 42] ?_)))))
 subst hR
 refine ie (A6 ?_)
 exact zer hr hD (U4 rfl (L6 (us:=B1 ({Cel.zero with base:=32,sty:=s})) B0g rfl 0 rfl rfl rfl)) () sb_ fn0
def A3v (x:Int) (y:Int):Int×Int :=
 ((IntKind.u64.wrap ((IntKind.u64.wrap ((IntKind.u64.wrap ((x / 4294967296) * (y / 4294967296)))+((IntKind.u64.wrap ((IntKind.u64.wrap ((x / 4294967296) * (bOp .and .u64 y 4294967295)))+((IntKind.u64.wrap ((bOp .and .u64 x 4294967295) * (bOp .and .u64 y 4294967295))) / 4294967296))) / 4294967296)))+((IntKind.u64.wrap ((bOp .and .u64 (IntKind.u64.wrap ((IntKind.u64.wrap ((x / 4294967296) * (bOp .and .u64 y 4294967295)))+((IntKind.u64.wrap ((bOp .and .u64 x 4294967295) * (bOp .and .u64 y 4294967295))) / 4294967296))) 4294967295)+(IntKind.u64.wrap ((bOp .and .u64 x 4294967295) * (y / 4294967296))))) / 4294967296))),(IntKind.u64.wrap (x * y)))
theorem B2i {x y:Int} {R:Int×Int} (hR:A3v x y=R):J6 Tryz.prog 283 [.int .u64 x,.int .u64 y] [] (.tuple #[.int .u64 R.1,.int .u64 R.2]):=by
 refine zce Tryz.func283 fun X hX hr hD=>?_
 replace hR:=(A3v.eq_1 ..).symm.trans hR
 refine sR_ rfl (pp0 2 rfl (ie (sR_ rfl (pp1 3 6 rfl (ie (sR_ rfl (pp1 1 16 rfl ?_)))))))
 refine ix rfl (A0v (c:=x / 4294967296) rfl rfl rfl ozw (by simp [Int.fdiv_eq_ediv_of_nonneg,IntKind.bits])) (pp1 1 7 rfl (ie (sR_ rfl (pp1 3 8 rfl (ie (sR_ rfl (pp1 1 20 rfl ?_)))))))
 refine ix rfl (A0v (c:=y / 4294967296) rfl rfl rfl ozw (by simp [Int.fdiv_eq_ediv_of_nonneg,IntKind.bits])) (pp1 1 9 rfl (ie (sR_ rfl (pp1 4 10 rfl (ie (sR_ rfl (pp2 4 27 28 rfl ?_)))))))
 refine ix rfl (A0v (c:=(IntKind.u64.wrap ((bOp .and .u64 x 4294967295) * (bOp .and .u64 y 4294967295))) / 4294967296) rfl rfl rfl ozw (by simp [Int.fdiv_eq_ediv_of_nonneg,IntKind.bits])) (pp1 2 11 rfl (ie (sR_ rfl (pp1 3 12 rfl (ie (sR_ rfl (pp1 1 33 rfl ?_)))))))
 refine ix rfl (A0v (c:=(IntKind.u64.wrap ((IntKind.u64.wrap ((x / 4294967296) * (bOp .and .u64 y 4294967295)))+((IntKind.u64.wrap ((bOp .and .u64 x 4294967295) * (bOp .and .u64 y 4294967295))) / 4294967296))) / 4294967296) rfl rfl rfl ozw (by simp [Int.fdiv_eq_ediv_of_nonneg,IntKind.bits])) (pp1 1 13 rfl (ie (sR_ rfl (pp1 6 12 rfl (ie (sR_ rfl (pp2 6 44 45 rfl ?_)))))))
 refine ix rfl (A0v (c:=(IntKind.u64.wrap ((bOp .and .u64 (IntKind.u64.wrap ((IntKind.u64.wrap ((x / 4294967296) * (bOp .and .u64 y 4294967295)))+((IntKind.u64.wrap ((bOp .and .u64 x 4294967295) * (bOp .and .u64 y 4294967295))) / 4294967296))) 4294967295)+(IntKind.u64.wrap ((bOp .and .u64 x 4294967295) * (y / 4294967296))))) / 4294967296) rfl rfl rfl ozw (by simp [Int.fdiv_eq_ediv_of_nonneg,IntKind.bits])) (pp1 2 4 rfl (ie (sR_ rfl (pp1 4 5 rfl ?_))))
 subst hR
 refine ie (A6 ?_)
 exact B9v hr hD
def A0z (x:Int) (y:Int):Int×Int :=
 (E8 (A3v x y) fun (a:Int×Int)=>(a.1,a.2))
theorem wr6 {x:Int} (h:-1000000≤x∧x≤1000000):IntKind.i64.wrap x=x:=A4g (by show (-9223372036854775808:Int)≤_;omega) (by show _≤(9223372036854775807:Int);omega)
theorem C8j:∀ c<81,A0z 1 ((c:Nat):Int)=(0,((c:Nat):Int)):=by decide +kernel
theorem C4z (n:Nat) (c:Int) (a:n=1) (b:1≤c∧c≤80):A0z (IntKind.u64.wrap (n:Int)) (IntKind.u64.wrap c)=(0,c):=by
 obtain ⟨m,rfl⟩:∃ m:Nat,c=m:=⟨c.toNat,by omega⟩
 subst a
 rw [A4g (k:=.u64) (by show (0:Int)≤_;omega) (by show _≤(18446744073709551615:Int);omega),A4g (k:=.u64) (by show (0:Int)≤_;omega) (by show _≤(18446744073709551615:Int);omega)]
 exact C8j m opx
theorem B5h {x y:Int} {R:Int×Int} (hR:A0z x y=R):J6 Tryz.prog 250 [.int .u64 x,.int .u64 y] [] (.tuple #[.int .u64 R.1,.int .u64 R.2]):=by
 refine zce Tryz.func250 fun X hX hr hD=>?_
 replace hR:=(A0z.eq_1 ..).symm.trans hR
 refine sR_ rfl (pp0 2 rfl (ie (A2 (P1 rfl (A3 (nx (sR_ rfl (pp2 2 23 24 rfl ?_))))))))
 have b:=E9 hR;clear hR;obtain ⟨c,a,hR⟩:=b
 refine zv rfl (B2i a) (pp2 5 8 9 rfl (ie (sR_ rfl (pp2 4 4 5 rfl ?_))))
 subst hR
 refine ie (A6 ?_)
 exact B9v hr hD
def F4:Nat→List Cel→Nat→List Cel
 | 0,_,_=>[]
 | fu1+1,newslice,n=>(bif (decide ((n:Int)<(newslice.length:Int))) then F4 fu1 (newslice.take n++(newslice.take (min n (newslice.length - n):Nat)++newslice.drop (n+(min n (newslice.length - n):Nat)))) (n+(min n (newslice.length - n):Nat)) else newslice)
def I8 (x:List Cel) (count:Int):List Cel :=
 (E8 (A0z (IntKind.u64.wrap (x.length:Int)) (IntKind.u64.wrap count)) fun (a:Int×Int)=>F4 (((x.take (List.replicate ((IntKind.i64.wrap a.2).toNat) Cel.zero).length++(List.replicate ((IntKind.i64.wrap a.2).toNat) Cel.zero).drop x.length).length - (min x.length (List.replicate ((IntKind.i64.wrap a.2).toNat) Cel.zero).length:Nat))+1) (x.take (List.replicate ((IntKind.i64.wrap a.2).toNat) Cel.zero).length++(List.replicate ((IntKind.i64.wrap a.2).toNat) Cel.zero).drop x.length) (min x.length (List.replicate ((IntKind.i64.wrap a.2).toNat) Cel.zero).length:Nat))
theorem ort {p:Prop} (h:p:=by (constructor<;>first|omega|(simp only [List.length_append,List.length_take,List.length_drop,List.length_replicate]<;>omega))):p:=h
theorem A1w {x:List Cel} {count:Int} {xq:Option Addr} {xk:Nat} {R:List Cel} (hR:I8 x count=R) (a2:x.length≤9223372036854775807:=by exact om_) (a8:x.length≤xk:=by exact om_) (v:1≤count∧count≤80:=by exact om_) (u:x.length=1:=by exact om_):Con Tryz.prog 213 [.slice xq x.length xk,iv count] [] [sl B1 xq x] ({r:VR // VOk 12 R.length r}) (fun x=>.slice (va x.1.q) R.length x.1.k) (fun x=>((vo B1 106 x.1 R)++([]))) (fun x=>[]):=by
 refine zce Tryz.func213 fun X hX hr hD=>?_
 replace hR:=(I8.eq_1 ..).symm.trans hR
 refine sR_ rfl (pp0 1 rfl (ie (A2 (sR_ rfl (pp1 2 10 rfl ?_)))))
 refine ie (W2 rfl (fun w=>?_) (fun w=>?_))
 ·have t:=bq_ w
  exfalso;omega
 have t:=bq_ w
 refine A3 (nx (sR_ rfl (pp2 5 15 17 rfl ?_)))
 have hQ:=E9 hR;clear hR;obtain ⟨d,j,hR⟩:=hQ
 refine zv rfl (B5h j) ?_
 have:=C4z x.length count u v;try rw [j] at this
 have y:d.1=0:=by rw [this]
 have a7:IntKind.i64.wrap d.2=count:=by rw [this];exact wr6 (by show -1000000≤count∧count≤1000000;omega)
 have a1:d.2=count:=by rw [this]
 refine pp2 5 5 6 rfl (ie (A2 (sR_ rfl (pp1 3 23 rfl ?_))))
 refine zir 3 0 23 26 (decide ((9223372036854775807:Int)<d.2)) (fun g2 a5=>?_) ?_
 ·refine pp1 3 26 rfl ?_
  exact zai 2 23 26 g2
 refine ie (W2 rfl (fun p=>?_) (fun p=>?_))
 ·have s:=bq_ p
  exfalso;simp only [Bool.or_eq_true,decide_eq_true_eq] at p;omega
 have s:=bq_ p
 refine A3 (nx (sR_ rfl (pp1 2 29 rfl (it rfl (A8s (f:=B1) (l:=(IntKind.i64.wrap d.2).toNat) (c:=(IntKind.i64.wrap d.2).toNat) Cel.zero C9x C4s.ok (fun _=>rfl) rfl (by exact congrArg (fun z=>some (Value.int .i64 z)) (show (IntKind.i64.wrap d.2)=(((IntKind.i64.wrap d.2).toNat:Nat):Int) by omega)) (by exact congrArg (fun z=>some (Value.int .i64 z)) (show (IntKind.i64.wrap d.2)=(((IntKind.i64.wrap d.2).toNat:Nat):Int) by omega)) opx ofv opx) fun ⟨r4,e⟩=>?_))))
 have:(List.replicate ((IntKind.i64.wrap d.2).toNat) Cel.zero).length=((IntKind.i64.wrap d.2).toNat):=List.length_replicate
 have:=VOk.le e
 have:=VOk.cap e
 have:(List.replicate ((IntKind.i64.wrap d.2).toNat) Cel.zero).length=((IntKind.i64.wrap d.2).toNat):=List.length_replicate
 refine pp1 1 7 rfl (ie (sR_ rfl (pp2 2 31 32 rfl ?_)))
 have o:VOk 12 (x.take (List.replicate ((IntKind.i64.wrap d.2).toNat) Cel.zero).length++(List.replicate ((IntKind.i64.wrap d.2).toNat) Cel.zero).drop x.length).length r4:=by rw [show (x.take (List.replicate ((IntKind.i64.wrap d.2).toNat) Cel.zero).length++(List.replicate ((IntKind.i64.wrap d.2).toNat) Cel.zero).drop x.length).length=(List.replicate ((IntKind.i64.wrap d.2).toNat) Cel.zero).length by simp only [List.length_append,List.length_take,List.length_drop];omega];exact e
 refine it rfl (B8o (f:=B1) (r:=r4) (xs:=(List.replicate ((IntKind.i64.wrap d.2).toNat) Cel.zero)) (ys:=x) (pre:=[]) (post:=[]) A2p (fun _=>rfl) (fun _=>rfl) rfl rfl rfl rfl rfl rfl rfl rfl (D4 0 rfl) e) fun _=>?_
 refine pp1 1 8 rfl (ie (A2 (A8 ?_)))
 refine A3q (un fun (g:Nat)=>un fun (a:List Cel)=>un fun (newslicer:VR) (n:Nat)=>((a.length - n)<g∧F4 g a n=R∧VOk 12 a.length newslicer∧(a.length=count.toNat∧1≤n),[(7,.slice (va newslicer.q) a.length newslicer.k),(8,iv (n:Int))],((vo B1 106 newslicer a)++([])),[sl B1 xq x],g)) ((((x.take (List.replicate ((IntKind.i64.wrap d.2).toNat) Cel.zero).length++(List.replicate ((IntKind.i64.wrap d.2).toNat) Cel.zero).drop x.length).length - (min x.length (List.replicate ((IntKind.i64.wrap d.2).toNat) Cel.zero).length:Nat))+1),x.take (List.replicate ((IntKind.i64.wrap d.2).toNat) Cel.zero).length++(List.replicate ((IntKind.i64.wrap d.2).toNat) Cel.zero).drop x.length,r4,(min x.length (List.replicate ((IntKind.i64.wrap d.2).toNat) Cel.zero).length:Nat)) ⟨(Nat.lt_succ_self _),hR,o,ort⟩ sb_ A5.refl (hE:=⟨(show some (Value.slice (va r4.q) ((List.replicate ((IntKind.i64.wrap d.2).toNat) Cel.zero).length) r4.k)=some (Value.slice (va r4.q) ((x.take (List.replicate ((IntKind.i64.wrap d.2).toNat) Cel.zero).length++(List.replicate ((IntKind.i64.wrap d.2).toNat) Cel.zero).drop x.length).length) r4.k) from congrArg (fun z=>some (Value.slice (va r4.q) z r4.k)) (show (List.replicate ((IntKind.i64.wrap d.2).toNat) Cel.zero).length=(x.take (List.replicate ((IntKind.i64.wrap d.2).toNat) Cel.zero).length++(List.replicate ((IntKind.i64.wrap d.2).toNat) Cel.zero).drop x.length).length by first|rfl|omega|(simp only [List.length_append,List.length_take,List.length_drop,List.length_replicate,List.length_set];omega))),(by first|rfl|exact congrArg (fun z=>some (Value.slice _ z _)) (by first|omega|(simp only [List.length_append,List.length_take,List.length_drop,List.length_replicate];omega))),trivial⟩) ?_
 rintro ⟨g,a,newslicer,n⟩ ⟨a6,hR,b,hn⟩
 have:=VOk.le b
 obtain ⟨fu1,rfl⟩:∃ m,g=m+1:=⟨g - 1,by omega⟩
 replace hR:=(F4.eq_2 ..).symm.trans hR
 refine A2 (sR_ rfl (pp1 4 37 rfl ?_))
 refine ie ?_
 refine zjd rfl hR ?_ ?_<;>clear hR<;>intro hR h8 a4
 ·refine A3 (nx (A8 ?_))
  refine sh' 10 [(7,vo B1 106 newslicer a)] [sl B1 xq x] ((vo B1 106 newslicer a)++([])) (zml 10 0) oki rfl oki oki oki sb_ A5.refl ?_
  refine zhp [0,1,2,4,5] 5 (zml 10 55) [(38,iv (n:Int)),(39,.slice (va newslicer.q) a.length newslicer.k),(40,iv (n:Int)),(42,.slice (va newslicer.q) a.length newslicer.k),(43,iv (n:Int))] ?_
  have:=VOk.cap b
  refine zhk 3 (zml 10 63) rfl (A2g (n':=(a.length - n)) A2p rfl rfl n a.length newslicer.k (P2 rfl rfl) Q9 Q9 opx opx (Nat.le_refl _) rfl rfl) ?_
  have:=VOk.cap b
  refine zhk 6 (zml 10 127) rfl (A9a (n':=n) A2p rfl rfl n newslicer.k (P2 rfl rfl) Q9 opx (Nat.le_refl _) rfl rfl) ?_
  have i:VOk 12 (a.take n++(a.take (min n (a.length - n):Nat)++a.drop (n+(min n (a.length - n):Nat)))).length newslicer:=by rw [show (a.take n++(a.take (min n (a.length - n):Nat)++a.drop (n+(min n (a.length - n):Nat)))).length=a.length by simp only [List.length_append,List.length_take,List.length_drop];omega];exact b
  refine zho 7 [] (zml 10 255) rfl (C6s (f:=B1) (r:=newslicer) (xs:=a) (l:=n) (h:=n) (pre:=[]) (post:=[]) A2p (fun _=>rfl) (fun _=>rfl) rfl rfl rfl rfl rfl rfl rfl b opx opx) (fun _=>(List.nil_sublist _)) (fun _=>A5.refl) fun _=>?_
  refine zhk 8 (zml 10 511) rfl (A9 rfl rfl rfl rfl opx) ?_
  refine zhp [9] 0 (zml 10 1023) [(8,iv ((n:Int)+((min n (a.length - n):Nat):Int)))] ?_
  refine A0s oki ?_
  exact A0y (z1:=(fu1+1,a,newslicer,n)) (fu1,(a.take n++(a.take (min n (a.length - n):Nat)++a.drop (n+(min n (a.length - n):Nat)))),newslicer,(n+(min n (a.length - n):Nat))) ⟨(by simp only [List.length_append,List.length_take,List.length_drop,List.length_replicate];omega),hR,i,ort⟩ (Nat.lt_succ_self _) sb_ A5.refl (hE:=⟨(show some (Value.slice (va newslicer.q) a.length newslicer.k)=some (Value.slice (va newslicer.q) ((a.take n++(a.take (min n (a.length - n):Nat)++a.drop (n+(min n (a.length - n):Nat)))).length) newslicer.k) from congrArg (fun z=>some (Value.slice (va newslicer.q) z newslicer.k)) (show a.length=(a.take n++(a.take (min n (a.length - n):Nat)++a.drop (n+(min n (a.length - n):Nat)))).length by first|rfl|omega|(simp only [List.length_append,List.length_take,List.length_drop,List.length_replicate,List.length_set];omega))),(show some (iv ((n:Int)+((min n (a.length - n):Nat):Int)))=some (iv ((n+(min n (a.length - n):Nat)):Int)) by first|rfl|exact congrArg (fun z=>some (Value.int .i64 z)) (by first|rfl|omega|(simp only [List.length_append,List.length_take,List.length_drop,List.length_replicate,List.length_set];omega))),trivial⟩)
 refine F6 (nx (sR_ rfl (pp1 2 4 rfl ?_)))
 subst hR
 refine ie (A6 ?_)
 exact zer hr hD (U4 rfl (A4 rfl)) ⟨newslicer,b⟩ sb_ fn0
def B2r (a:Int) (s:Sty):List Cel×Bool×Int :=
 (bif ((decide (a<2))||(decide ((80:Int)<a))) then (([]:List Cel),false,2) else (bif (!decide ((H0 s)=0)) then (([]:List Cel),false,(H0 s)) else (E8 (I8 ([(G4 s)]:List Cel) a) fun (b:List Cel)=>(b,false,0))))
theorem C5t {a:Int} {s:Sty} {R:List Cel×Bool×Int} (hR:B2r a s=R):Con Tryz.prog 147 [iv a,ag (C7 s)] [] [] ({r:VR // VOk 12 R.1.length r}) (fun x=>.tuple #[ag [.slice (va x.1.q) R.1.length x.1.k,bv R.2.1],iv R.2.2]) (fun x=>((vo B1 106 x.1 R.1)++([]))) (fun x=>[]):=by
 refine zce Tryz.func147 fun X hX hr hD=>?_
 replace hR:=(B2r.eq_1 ..).symm.trans hR
 refine sR_ rfl (A4z 3 0 [] (fun e b=>[(3,pt e 0),(4,pt b 0)]) (fun e b=>[bx b [.slice none 0 0,bv false] 72,bx e (C7 s) 42]) (fun e b=>(ie (A2 (sR_ rfl (pp1 3 9 rfl ?_))))))
 refine zir 3 0 9 12 (decide ((80:Int)<a)) (fun o i=>?_) ?_
 ·refine pp1 3 12 rfl ?_
  exact A1 (J0 2 9 12 o fn0 sb_ rfl rfl rfl rfl rfl)
 refine ie ?_
 refine zjo rfl hR ?_ ?_<;>clear hR<;>intro hR t n
 ·refine sR_ rfl (zrg 3 0 [0] [(5,iv 2)] [bx b [.slice none 0 0,bv false] 72,bx e (C7 s) 42] ?_)
  subst hR
  refine ie (A6 ?_)
  exact zer hr hD (V1 rfl (L6 (us:=[.slice none 0 0,bv false]) C3i rfl 0 rfl rfl rfl) (A4 rfl)) ⟨VR.nil,VOk.nil⟩ sb_ fn0
 refine A3 (nx (A2 (sR_ rfl (zrl 1 2 [1] [(14,ag (C7 s))] (zv rfl (V9 (s:=s) rfl) (pp1 1 6 rfl (ie (sR_ rfl (pp1 2 17 rfl (ie ?_))))))))))
 refine zjn rfl hR ?_ ?_<;>clear hR<;>intro hR p j
 ·refine sR_ rfl (zrg 4 0 [0] [(5,iv (H0 s))] [bx b [.slice none 0 0,bv false] 72,bx e (C7 s) 42] ?_)
  subst hR
  refine ie (A6 ?_)
  exact zer hr hD (V1 rfl (L6 (us:=[.slice none 0 0,bv false]) C3i rfl 0 rfl rfl rfl) (A4 rfl)) ⟨VR.nil,VOk.nil⟩ sb_ fn0
 refine A3 (nx (sR_ rfl (zrl 1 7 [1] [(20,ag (C7 s))] (zv rfl (C1c (s:=s) rfl) (it rfl (G2 (c:=B1) (xs:=([(G4 s)]:List Cel)) A2p rfl rfl rfl oki) fun l=>?_)))))
 have:([(G4 s)]:List Cel).length=1:=rfl
 refine pp1 1 23 rfl ?_
 have m:=E9 hR;clear hR;obtain ⟨g,h,hR⟩:=m
 refine zc rfl (A1w (x:=([(G4 s)]:List Cel)) (count:=a) (xq:=(some ⟨l,0,none⟩)) (xk:=1) h om_ om_ om_ (by first|rfl|omega)) fun ⟨f,d⟩=>?_
 have:=VOk.le d
 have:=VOk.cap d
 refine zrg 3 0 [0] [(5,iv 0)] (bx b [.slice (va f.q) g.length f.k,bv false] 72::bx e (C7 s) 42::((vo B1 106 f g)++([]))) ?_
 subst hR
 refine ie (A6 ?_)
 exact zer hr hD (V1 rfl (L6 (us:=[.slice (va f.q) g.length f.k,bv false]) C3i rfl 0 rfl rfl rfl) (A4 rfl)) ⟨f,d⟩ sb_ fn0
end Go.Proofs.YtkdgfkfbljdgmaaGreatDoor
set_option linter.unusedVariables false
set_option linter.unusedSimpArgs false
set_option linter.unnecessarySimpa false
set_option maxRecDepth 100000
namespace Go.Proofs.YtkdgfkfbljdgmaaGreatDoor
open Go Go.Fen
theorem C1k:ApTy Tryz.prog 36 72 2 32:=⟨by kernel_rfl,by kernel_rfl,rfl⟩
theorem A1s:SlTy Tryz.prog 36 72 2:=⟨by kernel_rfl,by kernel_rfl⟩
theorem A9j:Ty Tryz.prog 52 80 true:=⟨by kernel_rfl⟩
theorem C7q:Zero Tryz.prog 72 [.slice none 0 0,bv false]:=⟨by kernel_rfl⟩
def K6 (a:Int) (s:Sty):List (Rwc Cel)→List (Rwc Cel)→Nat→List (Rwc Cel)
 | [],l,t13=>l
 | hd_l0::tl_l0,l,t13=>(E8 (B2r a s) fun (b:List Cel×Bool×Int)=>K6 a s tl_l0 (l.set t13 (⟨b.1,b.2.1⟩:Rwc Cel)) (t13+1))
def L7 (b:Int) (a:Int) (s:Sty):List (Rwc Cel) :=
 K6 b s (List.replicate ((a).toNat) (zwc:Rwc Cel)) (List.replicate ((a).toNat) (zwc:Rwc Cel)) 0
theorem oll {p:Prop} (h:p:=by first|rfl|simp only [List.flatten_cons,List.flatten_nil,List.cons_append,List.append_assoc,List.nil_append,List.append_nil]):p:=h
theorem V6 {e a:Int} {s:Sty} {R:List (Rwc Cel)} (hR:L7 e a s=R) (a6:1≤a∧a≤40:=by exact om_) (a2:2≤e∧e≤80:=by exact om_):Con Tryz.prog 90 [iv e,iv a,ag (C7 s)] [] [] ({t:VR×List Rwq // VOk 2 R.length t.1∧B4 t.2 R}) (fun x=>.slice (va x.1.1.q) R.length x.1.1.k) (fun x=>((vo B5 72 x.1.1 x.1.2)++([]))) (fun x=>[B7 B1 x.1.2 R]):=by
 refine zce Tryz.func90 fun X hX hr hD=>?_
 replace hR:=(L7.eq_1 ..).symm.trans hR
 refine sR_ rfl (J3 2 0 [] (fun m=>[(5,pt m 0)]) (fun m=>[bx m (C7 s) 42]) (fun m=>(ie (sR_ rfl (pp1 1 9 rfl (M8 (q:=B7 B1 (List.replicate ((a).toNat) zwq) (List.replicate ((a).toNat) (zwc:Rwc Cel))) C9w ?_))))))
 refine it rfl (B8m (α:=Cel) (l:=(a).toNat) (cc:=(a).toNat) C1k C7q.ok rfl (by exact congrArg (fun z=>some (Value.int .i64 z)) (show a=(((a).toNat:Nat):Int) by omega)) (by exact congrArg (fun z=>some (Value.int .i64 z)) (show a=(((a).toNat:Nat):Int) by omega)) opx ofv opx) fun ⟨r2,j⟩=>?_
 have:(List.replicate ((a).toNat) zwq).length=((a).toNat):=List.length_replicate
 have:=VOk.le j
 have:=VOk.cap j
 have:(List.replicate ((a).toNat) (zwc:Rwc Cel)).length=(a).toNat:=List.length_replicate
 refine pp1 1 7 rfl (ie (A2 (sR_ rfl (pp2 3 12 13 rfl (ie (A8 ?_))))))
 refine A3q (un fun (l:List (Rwc Cel))=>un fun (lr:VR)=>un fun (lrs:List Rwq) (d:Nat)=>(d≤(List.replicate ((a).toNat) (zwc:Rwc Cel)).length∧K6 e s ((List.replicate ((a).toNat) (zwc:Rwc Cel)).drop d) l d=R∧VOk 2 l.length lr∧B4 lrs l∧l.length=a.toNat,[(0,iv e),(5,pt m 0),(7,.slice (va lr.q) l.length lr.k),(12,iv ((List.replicate ((a).toNat) (zwc:Rwc Cel)).length:Int)),(13,iv (d:Int))],(bx m (C7 s) 42::((vo B5 72 lr lrs)++([]))),[B7 B1 (List.replicate ((a).toNat) zwq) (List.replicate ((a).toNat) (zwc:Rwc Cel)),B7 B1 lrs l],(List.replicate ((a).toNat) (zwc:Rwc Cel)).length - d)) ((List.replicate ((a).toNat) (zwc:Rwc Cel)),r2,List.replicate ((a).toNat) zwq,0) ⟨opx,hR,j,(B4.rep ((a).toNat)),(by exact List.length_replicate)⟩ sb_ fo_ ?_
 rintro ⟨l,lr,lrs,d⟩ ⟨a5,hR,g,b,w⟩
 have:=VOk.le g
 have:=b.1
 have:(List.replicate (a.toNat) (zwc:Rwc Cel)).length=a.toNat:=List.length_replicate
 have:=b.1
 refine sR_ rfl (pp1 1 14 rfl ?_)
 refine ie (A2 (W2 rfl (fun v=>?_) (fun v=>?_)))
 ·have u:=bq_ v
  rw [Y3 zwc (show d<(List.replicate ((a).toNat) (zwc:Rwc Cel)).length by omega)] at hR;replace hR:=(K6.eq_2 ..).symm.trans hR
  refine A3 (nx (A2 (A8 (sR_ rfl (pp1 2 8 rfl (ie (A0 10 rfl (zrl 4 6 [0] [(17,.slice (va lr.q) l.length lr.k),(18,iv (d:Int)),(19,iv e),(20,ag (C7 s))] ?_))))))))
  have hQ:=E9 hR;clear hR;obtain ⟨f,y,hR⟩:=hQ
  refine zc rfl (C5t y) fun ⟨h,i⟩=>?_
  have:=VOk.le i
  have:=VOk.cap i
  refine ip' 3 2 [(22,ag [.slice (va h.q) f.1.length h.k,bv f.2.1])] ?_
  obtain ⟨b8,a0⟩:=VOk.some g opx
  obtain ⟨a1,o,n⟩:=lr
  obtain rfl:a1=some b8:=a0
  refine M8 (C6d (k:=d) b 1 rfl (by have:=b.1;omega)) ?_
  have:=B8k b (k:=d) (by have:=b.1;omega)
  refine ix rfl (A0b A1s rfl rfl rfl d rfl (by have:=b.1;omega)) ?_
  have:=VOk.cap i
  have:=VOk.le i
  refine U6 [bx m (C7 s) 42] ((vo B5 72 (⟨some b8,o,n⟩:VR) lrs)++([])) (T:=106) (c:=B1) (r:=h) (xs:=f.1) i oll ?_
  have p:B4 (lrs.set d (⟨⟨va h.q,f.1.length,h.k⟩,f.2.1⟩:Rwq)) (l.set d (⟨f.1,f.2.1⟩:Rwc Cel)):=B4.set b d ⟨rfl,okl,okl⟩ rfl
  refine M8 (D2n d (r:=(⟨⟨va h.q,f.1.length,h.k⟩,f.2.1⟩:Rwq)) (x:=(⟨f.1,f.2.1⟩:Rwc Cel)) (D4 3 rfl) (D4 0 rfl)) ?_
  refine it rfl (Y6 (us:=[.slice (va h.q) f.1.length h.k,bv f.2.1]) (u':=(⟨⟨va h.q,f.1.length,h.k⟩,f.2.1⟩:Rwq)) (c:=B5) (sz:=2) C3i (fun _=>rfl) rfl rfl rfl 1 rfl rfl rfl rfl d 0 rfl (gd zwq (by have:=b.1;omega)) rfl rfl) fun _=>?_
  refine A1 (nx (A0 2 rfl (ix rfl (A9 rfl rfl rfl rfl opx) (pp1 1 13 rfl (A1 ?_)))))
  exact A0y (z1:=(l,(⟨some b8,o,n⟩:VR),lrs,d)) ((l.set d (⟨f.1,f.2.1⟩:Rwc Cel)),(⟨some b8,o,n⟩:VR),(lrs.set d (⟨⟨va h.q,f.1.length,h.k⟩,f.2.1⟩:Rwq)),d+1) ⟨opx,hR,(VOk.cast g oom),p,(by (rw [List.length_set];exact w))⟩ olr sb_ fo_
 have u:=bq_ v
 rw [Y4 u] at hR;replace hR:=(K6.eq_1 ..).symm.trans hR
 refine F6 (nx (sR_ rfl (pp1 2 6 rfl ?_)))
 subst hR
 refine ie (A6 ?_)
 exact zer hr hD (U4 rfl (A4 rfl)) ⟨(lr,lrs),⟨g,b⟩⟩ sb_ fo_
def A1y (a:Int) (b:Int) (s:Sty):List (Rwc Cel)×Int :=
 (bif ((((decide (a<2))||(decide ((80:Int)<a)))||(decide (b<1)))||(decide ((40:Int)<b))) then (([]:List (Rwc Cel)),2) else (bif (!decide ((H0 s)=0)) then (([]:List (Rwc Cel)),(H0 s)) else (E8 (L7 a b s) fun (c:List (Rwc Cel))=>(c,0))))
theorem B0v {b a:Int} {s:Sty} {R:List (Rwc Cel)×Int} (hR:A1y b a s=R):Con Tryz.prog 33 [iv b,iv a,ag (C7 s)] [] [] ({t:VR×List Rwq // VOk 2 R.1.length t.1∧B4 t.2 R.1}) (fun x=>.tuple #[.slice (va x.1.1.q) R.1.length x.1.1.k,iv R.2]) (fun x=>((vo B5 72 x.1.1 x.1.2)++([]))) (fun x=>[B7 B1 x.1.2 R.1]):=by
 refine zce Tryz.func33 fun X hX hr hD=>?_
 replace hR:=(A1y.eq_1 ..).symm.trans hR
 refine sR_ rfl (J3 3 0 [] (fun f=>[(5,pt f 0)]) (fun f=>[bx f (C7 s) 42]) (fun f=>(ie (A2 (sR_ rfl (pp1 3 11 rfl ?_))))))
 refine zir 3 8 11 14 (decide ((80:Int)<b)) (fun u p=>?_) ?_
 ·refine pp1 3 14 rfl ?_
  exact A1 (J0 2 11 14 u fn0 sb_ rfl rfl rfl rfl rfl)
 refine pp1 1 15 rfl ?_
 refine zio 3 4 15 18 (decide (a<1)) (fun m=>?_) ?_
 ·have n:=bq_ m
  refine pp1 3 18 rfl ?_
  exact A1 (J0 2 15 18 m fn0 sb_ rfl rfl rfl rfl rfl)
 refine pp1 1 19 rfl ?_
 refine zio 3 0 19 22 (decide ((40:Int)<a)) (fun l=>?_) ?_
 ·have r:=bq_ l
  refine pp1 3 22 rfl ?_
  exact A1 (J0 2 19 22 l fn0 sb_ rfl rfl rfl rfl rfl)
 refine ie ?_
 refine zjb rfl hR ?_ ?_<;>clear hR<;>intro hR j
 ·have h:=bq_ j
  refine sR_ rfl (pp2 2 6 7 rfl ?_)
  subst hR
  refine ie (A6 ?_)
  exact zer hr hD (V1 rfl (A4 rfl) (A4 rfl)) ⟨(VR.nil,([]:List Rwq)),⟨VOk.nil,B4.none⟩⟩ sb_ fo_
 have h:=bq_ j
 refine A3 (nx (A2 (sR_ rfl (zrl 1 2 [0] [(23,ag (C7 s))] (zv rfl (V9 rfl) (pp1 1 8 rfl (ie (sR_ rfl (pp1 2 26 rfl (ie ?_))))))))))
 refine zjn rfl hR ?_ ?_<;>clear hR<;>intro hR z o
 ·refine sR_ rfl (pp2 3 6 7 rfl ?_)
  subst hR
  refine ie (A6 ?_)
  exact zer hr hD (V1 rfl (A4 rfl) (A4 rfl)) ⟨(VR.nil,([]:List Rwq)),⟨VOk.nil,B4.none⟩⟩ sb_ fo_
 refine A3 (nx (sR_ rfl (zrl 3 3 [0] [(28,iv b),(29,iv a),(30,ag (C7 s))] ?_)))
 have v:=E9 hR;clear hR;obtain ⟨y,g,hR⟩:=v
 refine zc rfl (V6 g) fun ⟨⟨w,i⟩,c⟩=>?_
 try dsimp only at c
 obtain ⟨e,d⟩:=c
 have:=VOk.le e
 have:=VOk.cap e
 have:=d.1
 refine pp2 2 6 7 rfl ?_
 subst hR
 refine ie (A6 ?_)
 exact zer hr hD (V1 rfl (A4 rfl) (A4 rfl)) ⟨(w,i),⟨e,d⟩⟩ sb_ fo_
def N5 (cols:Int) (rows:Int):ScrC×List (Rwc Cel)×List (Rwc Cel)×List Bool×Int :=
 (E8 (A1y cols rows Sty.zero) fun (a:List (Rwc Cel)×Int)=>(bif (!decide (a.2=0)) then (ScrC.zero,([]:List (Rwc Cel)),([]:List (Rwc Cel)),([]:List Bool),a.2) else (E8 (A1y cols rows Sty.zero) fun (c:List (Rwc Cel)×Int)=>(E8 (Q5 cols) fun (b:List Bool×Int)=>({ScrC.zero with cols:=cols,rows:=rows,modes:=W7,bottom:=(IntKind.i64.wrap (rows - (1:Int)))},a.1,c.1,b.1,b.2)))))
theorem B3l (c r:Int):(N5 c r).1.title.length=0:=by
 unfold N5 E8
 simp only [Bool.cond_eq_ite]
 split<;>rfl
theorem B9g (c r:Int) (s:Sty):(A1y c r s).1.length≤100:=by
 have h:∀ (w:Int) (b l:List (Rwc Cel)) (t:Nat),(K6 w s b l t).length=l.length:=by
  intro w b
  induction b with
  | nil=>intros;rfl
  | cons a b ih=>intro l t;simp only [K6,E8];rw [ih,List.length_set]
 unfold A1y
 cases hb:((((decide (c<2))||(decide ((80:Int)<c)))||(decide (r<1)))||(decide ((40:Int)<r))) with
 | true=>exact Nat.zero_le _
 | false =>
  simp only [Bool.or_eq_false_iff,decide_eq_false_iff_not] at hb
  rw [cond_false]
  cases decide (H0 s=0) with
  | false=>exact Nat.zero_le _
  | true=>show (L7 c r s).length≤100;unfold L7;rw [h,List.length_replicate];omega
theorem B6y (c r:Int):(N5 c r).2.1.length≤100∧(N5 c r).2.2.1.length≤100:=by
 unfold N5 E8
 have h:=B9g c r Sty.zero
 simp only [Bool.cond_eq_ite]
 split
 ·exact ⟨Nat.zero_le _,Nat.zero_le _⟩
 ·exact ⟨h,h⟩
theorem B9t {cols rows:Int} {R:ScrC×List (Rwc Cel)×List (Rwc Cel)×List Bool×Int} (hR:N5 cols rows=R):Con Tryz.prog 17 [iv cols,iv rows] [] [] ({t:VR×List Rwq // VOk 2 R.2.1.length t.1∧B4 t.2 R.2.1}×{t:VR×List Rwq // VOk 2 R.2.2.1.length t.1∧B4 t.2 R.2.2.1}×{r:VR // VOk 1 R.2.2.2.1.length r}) (fun x=>.tuple #[ag (B3 R.1 ⟨va x.1.1.1.q,R.2.1.length,x.1.1.1.k⟩ ⟨va x.2.1.1.1.q,R.2.2.1.length,x.2.1.1.1.k⟩ ⟨none,0,0⟩ ⟨va x.2.2.1.q,R.2.2.2.1.length,x.2.2.1.k⟩),iv R.2.2.2.2]) (fun x=>((vo B5 72 x.1.1.1 x.1.1.2)++((vo B5 72 x.2.1.1.1 x.2.1.1.2)++((vo H4 4 x.2.2.1 R.2.2.2.1)++([]))))) (fun x=>[B7 B1 x.1.1.2 R.2.1,B7 B1 x.2.1.1.2 R.2.2.1]):=by
 refine zce Tryz.func17 fun X hX hr hD=>?_
 replace hR:=(N5.eq_1 ..).symm.trans hR
 refine sR_ rfl (J3 2 0 [] (fun l=>[(4,pt l 0)]) (fun l=>[bx l (B3 ScrC.zero ⟨none,0,0⟩ ⟨none,0,0⟩ ⟨none,0,0⟩ ⟨none,0,0⟩) 52]) (fun l=>(ie (sR_ rfl (zrl 3 6 [] [(12,iv cols),(13,iv rows),(14,ag (C7 Sty.zero))] ?_)))))
 have o:=E9 hR;clear hR;obtain ⟨p,w,hR⟩:=o
 refine zc rfl (B0v w) fun ⟨⟨b,d⟩,s⟩=>?_
 try dsimp only at s
 obtain ⟨m,n⟩:=s
 have:=VOk.le m
 have:=VOk.cap m
 have:=n.1
 refine pp2 5 6 7 rfl (ie (A2 (sR_ rfl (pp1 2 19 rfl (ie ?_)))))
 refine zjn rfl hR ?_ ?_<;>clear hR<;>intro hR h7 z
 ·refine sR_ rfl (zrg 4 0 [0] [(5,iv p.2)] (bx l (B3 ScrC.zero ⟨none,0,0⟩ ⟨none,0,0⟩ ⟨none,0,0⟩ ⟨none,0,0⟩) 52::((vo B5 72 b d)++([]))) ?_)
  subst hR
  refine ie (A6 ?_)
  exact zer hr hD (V1 rfl (P7 (us:=B3 ScrC.zero ⟨none,0,0⟩ ⟨none,0,0⟩ ⟨none,0,0⟩ ⟨none,0,0⟩) A9j rfl 0 rfl rfl) (A4 rfl)) (⟨(VR.nil,([]:List Rwq)),⟨VOk.nil,B4.none⟩⟩,⟨(VR.nil,([]:List Rwq)),⟨VOk.nil,B4.none⟩⟩,⟨VR.nil,VOk.nil⟩) sb_ fo_
 refine A3 (nx (sR_ rfl (zrl 3 6 [] [(23,iv cols),(24,iv rows),(25,ag (C7 Sty.zero))] ?_)))
 have o:=E9 hR;clear hR;obtain ⟨u,y,hR⟩:=o
 refine zc rfl (B0v y) fun ⟨⟨c,g⟩,i⟩=>?_
 try dsimp only at i
 obtain ⟨e,h⟩:=i
 have:=VOk.le e
 have:=VOk.cap e
 have:=h.1
 refine pp1 5 8 rfl (ie (sR_ rfl (pp1 1 30 rfl ?_)))
 have o:=E9 hR;clear hR;obtain ⟨j,v,hR⟩:=o
 refine zc rfl (C3n v) fun ⟨a,f⟩=>?_
 have:=VOk.le f
 have:=VOk.cap f
 refine pp2 5 10 7 rfl (ie (sR_ rfl (pp4 4 34 35 36 37 rfl (zv rfl (C3t rfl) (pp1 1 39 rfl (ix rfl (H9.pure rfl) (zrg 5 0 [0] [(5,iv j.2)] (bx l (B3 ({ScrC.zero with cols:=cols,rows:=rows,modes:=W7,bottom:=(IntKind.i64.wrap (rows - (1:Int)))}) ⟨va b.q,p.1.length,b.k⟩ ⟨va c.q,u.1.length,c.k⟩ ⟨none,0,0⟩ ⟨va a.q,j.1.length,a.k⟩) 52::((vo H4 4 a j.1)++((vo B5 72 c g)++((vo B5 72 b d)++([]))))) ?_)))))))
 subst hR
 refine ie (A6 (A0t (J5 [[bx l (B3 ({ScrC.zero with cols:=cols,rows:=rows,modes:=W7,bottom:=(IntKind.i64.wrap (rows - (1:Int)))}) ⟨va b.q,p.1.length,b.k⟩ ⟨va c.q,u.1.length,c.k⟩ ⟨none,0,0⟩ ⟨va a.q,j.1.length,a.k⟩) 52],vo H4 4 a j.1,vo B5 72 c g,vo B5 72 b d] [0,3,2,1] 4 rfl ozw rfl [[bx l (B3 ({ScrC.zero with cols:=cols,rows:=rows,modes:=W7,bottom:=(IntKind.i64.wrap (rows - (1:Int)))}) ⟨va b.q,p.1.length,b.k⟩ ⟨va c.q,u.1.length,c.k⟩ ⟨none,0,0⟩ ⟨va a.q,j.1.length,a.k⟩) 52],vo B5 72 b d,vo B5 72 c g,vo H4 4 a j.1] rfl opv) ?_))
 exact zer hr hD (V1 rfl (P7 (us:=B3 ({ScrC.zero with cols:=cols,rows:=rows,modes:=W7,bottom:=(IntKind.i64.wrap (rows - (1:Int)))}) ⟨va b.q,p.1.length,b.k⟩ ⟨va c.q,u.1.length,c.k⟩ ⟨none,0,0⟩ ⟨va a.q,j.1.length,a.k⟩) A9j rfl 0 rfl rfl) (A4 rfl)) (⟨(b,d),⟨m,n⟩⟩,⟨(c,g),⟨e,h⟩⟩,⟨a,f⟩) sb_ fo_
end Go.Proofs.YtkdgfkfbljdgmaaGreatDoor
set_option linter.unusedVariables false
set_option linter.unusedSimpArgs false
set_option linter.unnecessarySimpa false
set_option maxRecDepth 100000
namespace Go.Proofs.YtkdgfkfbljdgmaaGreatDoor
open Go Go.Fen
theorem D3f:EqT Tryz.prog 42 C7:=EqT.of 20 rfl oki oki (fun _ _=>by kernel_rfl) C7.inj
theorem B7a:EqT Tryz.prog 106 B1:=EqT.of 20 rfl oki oki (fun _ _=>by kernel_rfl) B1.inj
theorem C7i:SlTy Tryz.prog 148 146 2:=⟨by kernel_rfl,by kernel_rfl⟩
theorem C5a:Ty Tryz.prog 146 2 true:=⟨by kernel_rfl⟩
def B5n (c:Cel):Bool :=
 (decide (c={Cel.zero with wide:=2,sty:=c.sty}))
theorem C3r {c:Cel} {R:Bool} (hR:B5n c=R):J6 Tryz.prog 145 [ag (B1 c)] [] (bv R):=by
 refine zce Tryz.func145 fun X hX hr hD=>?_
 replace hR:=(B5n.eq_1 ..).symm.trans hR
 refine sR_ rfl (J3 2 0 [] (fun d=>[(1,pt d 0)]) (fun d=>[bx d (B1 c) 106]) (fun d=>(ie (sR_ rfl (zrl 4 2 [0,0] [(3,ag (B1 c)),(6,ag (B1 ({Cel.zero with wide:=2,sty:=c.sty})))] (ix rfl (A3c (a:=c) (b:={Cel.zero with wide:=2,sty:=c.sty}) B7a rfl rfl rfl) (pp1 1 2 rfl ?_)))))))
 subst hR
 refine ie (A6 ?_)
 exact E2 hr hD
def A3o (cp:Int):List Spn→Nat→Bool
 | [],t9=>false
 | hd_l0::tl_l0,t9=>(bif ((decide (hd_l0.lo≤cp))&&(decide (cp≤hd_l0.hi))) then true else A3o cp tl_l0 (t9+1))
def A3s (cp:Int) (l:List Spn):Bool :=
 A3o cp l 0
theorem B0r {cp:Int} {l:List Spn} {lq:Option Addr} {lk:Nat} {R:Bool} (hR:A3s cp l=R) (i:l.length≤9223372036854775807:=by exact om_) (m:l.length≤lk:=by exact om_):J6 Tryz.prog 99 [iv cp,.slice lq l.length lk] [sl B6 lq l] (bv R):=by
 refine zce Tryz.func99 fun X hX hr hD=>?_
 replace hR:=(A3s.eq_1 ..).symm.trans hR
 refine sR_ rfl (pp0 1 rfl (ie (A2 (sR_ rfl (pp3 3 7 8 9 rfl (ie (A8 (A3q (fun (a:Nat)=>(a≤l.length∧A3o cp (l.drop a) a=R,[(0,iv cp),(7,.slice lq l.length lk),(8,iv (l.length:Int)),(9,iv (a:Int))],[],[sl B6 lq l],l.length - a)) 0 ⟨opx,hR⟩ sb_ A5.refl ?_))))))))
 rintro a ⟨h,hR⟩
 refine sR_ rfl (pp1 1 10 rfl ?_)
 refine ie (A2 (W2 rfl (fun f=>?_) (fun f=>?_)))
 ·have b:=bq_ f
  rw [Y3 Spn.zero (show a<l.length by omega)] at hR;replace hR:=(A3o.eq_2 ..).symm.trans hR
  refine A3 (nx (A2 (A8 (sR_ rfl (N2 0 rfl opx fun n d=>(ix rfl (F7 C7i rfl rfl d rfl a rfl opx) (ix rfl (I3 (us:=B6 (l.getD a Spn.zero)) C5a rfl rfl (H5 (c:=B6) (sz:=2) d (fun _=>rfl) 0 rfl (gd Spn.zero opx)) rfl) ?_)))))))
  refine J3 2 0 [0] (fun e=>[(6,pt e 0)]) (fun e=>[bx e (B6 (l.getD a Spn.zero)) 146]) (fun e=>?_)
  refine ie (sR_ rfl (pl1 5 [0] 17 rfl ?_))
  refine zid 5 0 17 22 (decide (cp≤(l.getD a Spn.zero).hi)) (fun k g=>?_) ?_
  ·refine pl1 5 [0] 22 rfl ?_
   exact zai 2 17 22 k
  refine ie ?_
  refine zja rfl hR ?_ ?_<;>clear hR<;>intro hR o j
  ·refine sR_ rfl (pp1 1 4 rfl ?_)
   subst hR
   refine ie (A6 ?_)
   exact E2 hr hD
  refine A3 (nx (A0 2 rfl (ix rfl (A9 rfl rfl rfl rfl opx) (pp1 1 9 rfl (A1 ?_)))))
  exact A0y (z1:=a) (a+1) ⟨opx,hR⟩ olr sb_ A5.refl
 have b:=bq_ f
 rw [Y4 b] at hR;replace hR:=(A3o.eq_1 ..).symm.trans hR
 refine F6 (nx (sR_ rfl (pp1 1 4 rfl ?_)))
 subst hR
 refine ie (A6 ?_)
 exact E2 hr hD
def Q4 (cp:Int):Int :=
 (bif ((!(A6q cp))||(A3s cp ([(⟨0,31⟩:Spn),(⟨127,159⟩:Spn)]:List Spn))) then (-1) else (bif (decide (cp<(C3f.getD 0 Spn.zero).lo)) then 1 else (bif (A3s cp C3f) then 0 else (bif (A3s cp C8z) then 2 else 1))))
theorem A2u {cp R:Int} (hR:Q4 cp=R):J6 Tryz.prog 37 [iv cp] [O9,P0] (iv R):=by
 refine zce Tryz.func37 fun X hX hr hD=>?_
 replace hR:=(Q4.eq_1 ..).symm.trans hR
 refine sR_ rfl (pp0 1 rfl (ie (A2 (A8 (sR_ rfl (pp1 1 4 rfl (zv rfl (B4e rfl) (pp1 2 7 rfl ?_))))))))
 refine zio 6 1 7 13 (A3s cp ([(⟨0,31⟩:Spn),(⟨127,159⟩:Spn)]:List Spn)) (fun f=>?_) ?_
 ·refine zrl 3 3 [] [(8,iv cp),(9,ag (B6 (⟨0,31⟩:Spn))),(10,ag (B6 (⟨127,159⟩:Spn)))] (it rfl (G2 (c:=B6) (xs:=([(⟨0,31⟩:Spn),(⟨127,159⟩:Spn)]:List Spn)) C7i rfl rfl rfl oki) fun d=>?_)
  have:([(⟨0,31⟩:Spn),(⟨127,159⟩:Spn)]:List Spn).length=2:=rfl
  refine zv rfl (B0r (cp:=cp) (l:=([(⟨0,31⟩:Spn),(⟨127,159⟩:Spn)]:List Spn)) (lq:=(some ⟨d,0,none⟩)) (lk:=2) rfl) (ip' 1 0 [(13,bv (A3s cp ([(⟨0,31⟩:Spn),(⟨127,159⟩:Spn)]:List Spn)))] ?_)
  exact A1 (J0 7 7 13 f fo_ sb_ rfl rfl rfl rfl rfl)
 refine ip' 1 0 [(3,bv ((!(A6q cp))||(A3s cp ([(⟨0,31⟩:Spn),(⟨127,159⟩:Spn)]:List Spn))))] (ie ?_)
 refine zjb rfl hR ?_ ?_<;>clear hR<;>intro hR b
 ·have a:=bq_ b
  refine sR_ rfl (pp1 1 2 rfl ?_)
  subst hR
  refine ie (A6 ?_)
  exact E2 hr hD
 have a:=bq_ b
 refine sR_ rfl (ip' 1 5 [(15,iv cp)] (ix rfl (B7n Tryz.underlying147 C5a rfl rfl rfl 0 rfl (by first|decide|omega)) (ip' 1 3 [(17,pa (Addr.add ⟨0,0,none⟩ (0 * 2)))] (ix rfl (D8 ty3 rfl rfl (B2m (H5 (c:=B6) (sz:=2) rfl (fun _=>rfl) 0 rfl (gd Spn.zero (by first|decide|(simp only [C3f,List.length_cons,List.length_nil];omega)))) (ws:=[iv ((C3f.getD 0 Spn.zero).lo)]) 1 rfl) rfl) (pp1 2 14 rfl (ie ?_))))))
 refine zjd rfl hR ?_ ?_<;>clear hR<;>intro hR i e
 ·refine sR_ rfl (pp1 1 2 rfl ?_)
  subst hR
  refine ie (A6 ?_)
  exact E2 hr hD
 refine sR_ rfl (pp1 1 21 rfl (ix rfl (B6q Tryz.underlying147 C5a rfl rfl) (zv rfl (B0r (cp:=cp) (l:=C3f) (lq:=(some ⟨0,0,none⟩)) (lk:=11) rfl) (pp1 1 20 rfl (ie ?_)))))
 refine zjb rfl hR ?_ ?_<;>clear hR<;>intro hR g
 ·refine sR_ rfl (pp1 1 2 rfl ?_)
  subst hR
  refine ie (A6 ?_)
  exact E2 hr hD
 refine sR_ rfl (pp1 1 25 rfl (ix rfl (B6q Tryz.underlying149 C5a rfl rfl) (zv rfl (B0r (cp:=cp) (l:=C8z) (lq:=(some ⟨1,0,none⟩)) (lk:=13) rfl) (pp1 1 24 rfl (ie ?_)))))
 refine zjb rfl hR ?_ ?_<;>clear hR<;>intro hR h
 ·refine sR_ rfl (pp1 1 2 rfl ?_)
  subst hR
  refine ie (A6 ?_)
  exact E2 hr hD
 refine A3 (nx (sR_ rfl (pp1 1 2 rfl ?_)))
 subst hR
 refine ie (A6 ?_)
 exact E2 hr hD
def A4w (l:Ar2):Bool :=
 (bif ((!decide (l.a=0))&&(!decide ((Q4 l.a)=0))) then false else (bif ((!decide (l.b=0))&&((decide (l.a=0))||(!decide ((Q4 l.b)=0)))) then false else true))
theorem C0e {l:Ar2} {R:Bool} (hR:A4w l=R):J6 Tryz.prog 146 [ag (B5c l)] [O9,P0] (bv R):=by
 refine zce Tryz.func146 fun X hX hr hD=>?_
 replace hR:=(A4w.eq_1 ..).symm.trans hR
 refine sR_ rfl (J3 2 0 [] (fun d=>[(1,pt d 0)]) (fun d=>[bx d (B5c l) 104]) (fun d=>(ie (sR_ rfl (pp1 1 3 rfl (ie (A2 (sR_ rfl (zrl 2 0 [0] [(6,ag (B5c l)),(7,iv 0)] (ie (A8 (P9 4 ?_))))))))))))
 refine D6 (sR_ rfl (pp1 1 8 rfl ?_))
 refine ie (A2 (G1 rfl (A3 (nx (A2 (A8 (sR_ rfl (ix rfl (E6 Tryz.underlying104 ty3 rfl rfl rfl 0 rfl ozw rfl rfl rfl) (pp1 1 5 rfl (ie (A2 (sR_ rfl (pp1 3 12 rfl ?_)))))))))))))
 refine zia 7 0 12 19 (!decide ((Q4 l.a)=0)) (fun i=>?_) ?_
 ·have o:=bq_ i
  refine pp2 3 14 15 rfl (zv rfl (A2u rfl) (pp1 3 19 rfl ?_))
  exact zai 5 12 19 i
 refine ie ?_
 refine zjb rfl hR ?_ ?_<;>clear hR<;>intro hR g
 ·have e:=bq_ g
  refine sR_ rfl (pp1 1 2 rfl ?_)
  subst hR
  refine ie (A6 ?_)
  exact E2 hr hD
 have e:=bq_ g
 refine A3 (nx (A0 6 rfl (pp1 6 3 rfl (A1 (nx (A0 2 rfl (ix rfl (A9 (c:=1) rfl rfl rfl rfl ozw) (pp1 1 7 rfl (A1 (D6 (sR_ rfl (pp1 1 8 rfl (ie (A2 (G1 rfl (A3 (nx (A2 (A8 (sR_ rfl (ix rfl (E6 Tryz.underlying104 ty3 rfl rfl rfl 1 rfl ozw rfl rfl rfl) (pp1 1 5 rfl (ie (A2 (sR_ rfl (pp1 3 12 rfl ?_))))))))))))))))))))))))))
 refine zia 7 0 12 19 ((decide (l.a=0))||(!decide ((Q4 l.b)=0))) (fun h=>?_) ?_
 ·have p:=bq_ h
  refine pp1 2 14 rfl ?_
  refine zir 4 1 14 18 (!decide ((Q4 l.b)=0)) (fun q n=>?_) ?_
  ·refine pp1 1 15 rfl (zv rfl (A2u rfl) (pp1 2 18 rfl ?_))
   exact zai 4 14 18 q
  refine pp1 1 19 rfl ?_
  exact zai 4 12 19 h
 refine ie ?_
 refine zjb rfl hR ?_ ?_<;>clear hR<;>intro hR j
 ·have f:=bq_ j
  refine sR_ rfl (pp1 1 2 rfl ?_)
  subst hR
  refine ie (A6 ?_)
  exact E2 hr hD
 have f:=bq_ j
 refine A3 (nx (A0 6 rfl (pp1 2 21 rfl ?_)))
 refine zir 3 1 21 24 (decide (l.b=0)) (fun m k=>?_) ?_
 ·refine pp1 3 24 rfl ?_
  exact zai 2 21 24 m
 refine pp1 1 3 rfl (A1 (nx (A0 2 rfl (ix rfl (A9 (c:=2) rfl rfl rfl rfl ozw) (pp1 1 7 rfl (A1 (D6 (sR_ rfl (pp1 1 8 rfl (ie (A2 (P1 rfl (F6 (nx (sR_ rfl (pp1 1 2 rfl ?_))))))))))))))))
 subst hR
 refine ie (A6 ?_)
 exact E2 hr hD
def A3d (c:Cel):Int :=
 (bif ((!((B5n c)||((((decide ((0:Int)≤c.wide))&&(decide (c.wide≤1)))&&(decide ((Q4 c.base)=(IntKind.i64.wrap (c.wide+(1:Int))))))&&(A4w c.marks))))||(!decide ((H0 c.sty)=0))) then 221 else 0)
theorem B4z {c:Cel} {R:Int} (hR:A3d c=R):J6 Tryz.prog 88 [ag (B1 c)] [O9,P0] (iv R):=by
 refine zce Tryz.func88 fun X hX hr hD=>?_
 replace hR:=(A3d.eq_1 ..).symm.trans hR
 refine sR_ rfl (J3 2 0 [] (fun a=>[(1,pt a 0)]) (fun a=>[bx a (B1 c) 106]) (fun a=>(ie (sd 27 rfl oki rfl ?_))))
 refine zdg 1 26 [0] [(4,ag (B1 c))] ?_
 refine zvd rfl (C3r rfl) (pd1 1 6 rfl ?_)
 refine zdO 23 1 6 29 ((((decide ((0:Int)≤c.wide))&&(decide (c.wide≤1)))&&(decide ((Q4 c.base)=(IntKind.i64.wrap (c.wide+(1:Int))))))&&(A4w c.marks)) (fun l=>?_) ?_
 ·refine pg1 4 [0] 10 rfl ?_
  refine zdd 4 15 10 14 (decide (c.wide≤1)) (fun m i=>?_) ?_
  ·refine pg1 4 [0] 14 rfl ?_
   exact zad 2 10 14 m
  refine pd1 1 15 rfl ?_
  refine zda 8 6 15 23 (decide ((Q4 c.base)=(IntKind.i64.wrap (c.wide+(1:Int))))) (fun d=>?_) ?_
  ·have k:=bq_ d
   refine pg1 2 [0] 17 rfl (zvd rfl (A2u rfl) (pg1 2 [0] 20 rfl (dd rfl (H9.pure rfl) (pd1 2 23 rfl ?_))))
   exact zad 6 15 23 d
  refine pd1 1 24 rfl ?_
  refine zda 4 1 24 28 (A4w c.marks) (fun e=>?_) ?_
  ·have j:=bq_ e
   refine zdg 2 2 [0] [(26,ag (B5c c.marks))] ?_
   refine zvd rfl (C0e rfl) (pd1 1 28 rfl ?_)
   exact zad 4 24 28 e
  refine pd1 1 29 rfl ?_
  exact zad 8 6 29 l
 refine pd1 1 3 rfl (de (A2 (sR_ rfl (pp1 3 32 rfl ?_))))
 refine zio 5 0 32 37 (!decide ((H0 c.sty)=0)) (fun f=>?_) ?_
 ·have h:=bq_ f
  refine zrl 2 3 [0] [(34,ag (C7 c.sty))] (zv rfl (V9 rfl) (pp1 2 37 rfl ?_))
  exact zai 4 32 37 f
 refine ie ?_
 refine zjb rfl hR ?_ ?_<;>clear hR<;>intro hR g
 ·have b:=bq_ g
  refine sR_ rfl (pp1 1 2 rfl ?_)
  subst hR
  refine ie (A6 ?_)
  exact E2 hr hD
 have b:=bq_ g
 refine A3 (nx (sR_ rfl (pp1 1 2 rfl ?_)))
 subst hR
 refine ie (A6 ?_)
 exact E2 hr hD
def U5:List Cel→Nat→Cel→Int
 | [],t19,last=>(bif (decide (last.wide=1)) then 220 else 0)
 | hd_l0::tl_l0,t19,last=>(bif (((!decide ((A3d hd_l0)=0))||(!((decide (last.wide=1)) == (decide (hd_l0.wide=2)))))||((decide (hd_l0.wide=2))&&(!(decide (hd_l0.sty=last.sty))))) then 220 else U5 tl_l0 (t19+1) hd_l0)
def K8 (a:List Cel) (b:Bool):Int :=
 (bif ((decide ((a.length:Int)<2))||(decide ((80:Int)<(a.length:Int)))) then 220 else U5 a 0 Cel.zero)
theorem B4j {d:List Cel} {f:Bool} {e:Option Addr} {rCellsk:Nat} {R:Int} (hR:K8 d f=R) (k:d.length≤9223372036854775807:=by exact om_) (l:d.length≤rCellsk:=by exact om_):J6 Tryz.prog 32 [ag [.slice e d.length rCellsk,bv f]] [sl B1 e d,O9,P0] (iv R):=by
 refine zce Tryz.func32 fun X hX hr hD=>?_
 replace hR:=(K8.eq_1 ..).symm.trans hR
 refine sR_ rfl (J3 2 0 [] (fun i=>[(1,pt i 0)]) (fun i=>[bx i [.slice e d.length rCellsk,bv f] 72]) (fun i=>(ie (A2 (sR_ rfl (pl1 4 [0] 3 rfl (ie (sR_ rfl (pp1 3 12 rfl ?_)))))))))
 refine zir 3 0 12 15 (decide ((80:Int)<(d.length:Int))) (fun g2 a2=>?_) ?_
 ·refine pp1 3 15 rfl ?_
  exact zai 2 12 15 g2
 refine ie ?_
 refine zjo rfl hR ?_ ?_<;>clear hR<;>intro hR h3 z
 ·refine sR_ rfl (pp1 1 2 rfl ?_)
  subst hR
  refine ie (A6 ?_)
  exact E2 hr hD
 refine A3 (nx (sR_ rfl (J3 1 0 [] (fun j=>[(4,pt j 0)]) (fun j=>[bx j (B1 Cel.zero) 106,bx i [.slice e d.length rCellsk,bv f] 72]) (fun j=>(ie (A2 (sR_ rfl (pl3 4 [1] 17 18 19 rfl (ie (A8 (A3q (un fun (g:Nat) (h:Cel)=>(g≤d.length∧U5 (d.drop g) g h=R,[(4,pt j 0),(17,.slice e d.length rCellsk),(18,iv (d.length:Int)),(19,iv (g:Int))],[bx j (B1 h) 106,bx i [.slice e d.length rCellsk,bv f] 72],[sl B1 e d,O9,P0],d.length - g)) (0,Cel.zero) ⟨opx,hR⟩ sb_ A5.refl ?_)))))))))))
 rintro ⟨g,h⟩ ⟨a3,hR⟩
 refine sR_ rfl (pp1 1 20 rfl ?_)
 refine ie (A2 (W2 rfl (fun t=>?_) (fun t=>?_)))
 ·have o:=bq_ t
  rw [Y3 Cel.zero (show g<d.length by omega)] at hR;replace hR:=(U5.eq_2 ..).symm.trans hR
  refine A3 (nx (A2 (A8 (sR_ rfl (N2 0 rfl opx fun a7 p=>(ix rfl (F7 A2p rfl rfl p rfl g rfl opx) (ix rfl (I3 (us:=B1 (d.getD g Cel.zero)) B0g rfl rfl (H5 (c:=B1) (sz:=12) p (fun _=>rfl) 0 rfl (gd Cel.zero opx)) rfl) ?_)))))))
  refine J3 2 0 [0] (fun m=>[(6,pt m 0)]) (fun m=>[bx m (B1 (d.getD g Cel.zero)) 106,bx j (B1 h) 106,bx i [.slice e d.length rCellsk,bv f] 72]) (fun m=>?_)
  refine ie (A2 (sR_ rfl (zrl 1 23 [0] [(23,ag (B1 (d.getD g Cel.zero)))] (zv rfl (B4z rfl) (pp1 2 26 rfl ?_)))))
  refine zio 8 12 26 34 (!((decide (h.wide=1)) == (decide ((d.getD g Cel.zero).wide=2)))) (fun q=>?_) ?_
  ·have w:=bq_ q
   refine pl2 6 [1,0] 29 32 rfl (ix rfl (C0c Tryz.underlying4 rfl rfl rfl) (pp1 1 34 rfl ?_))
   exact zai 5 26 34 q
  refine pp1 1 35 rfl ?_
  refine zio 11 0 35 46 ((decide ((d.getD g Cel.zero).wide=2))&&(!(decide ((d.getD g Cel.zero).sty=h.sty)))) (fun r=>?_) ?_
  ·have y:=bq_ r
   refine pl1 4 [0] 39 rfl ?_
   refine zid 6 1 39 45 (!(decide ((d.getD g Cel.zero).sty=h.sty))) (fun u x=>?_) ?_
   ·refine zrl 4 2 [0,1] [(41,ag (C7 ((d.getD g Cel.zero).sty))),(43,ag (C7 h.sty))] (ix rfl (W4 (a:=(d.getD g Cel.zero).sty) (b:=h.sty) D3f rfl rfl rfl) (pp1 1 45 rfl ?_))
    exact zai 5 39 45 u
   refine pp1 1 46 rfl ?_
   exact zai 4 35 46 r
  refine ie ?_
  refine zjb rfl hR ?_ ?_<;>clear hR<;>intro hR s
  ·have n:=bq_ s
   refine sR_ rfl (pp1 1 2 rfl ?_)
   subst hR
   refine ie (A6 ?_)
   exact E2 hr hD
  have n:=bq_ s
  refine A3 (nx (A0 2 rfl (zrg 2 0 [0,1] [] [bx m (B1 (d.getD g Cel.zero)) 106,bx j (B1 (d.getD g Cel.zero)) 106,bx i [.slice e d.length rCellsk,bv f] 72] (A1 (nx (A0 2 rfl (ix rfl (A9 rfl rfl rfl rfl opx) (pp1 1 19 rfl (A1 ?_)))))))))
  exact A0y (z1:=(g,h)) (g+1,d.getD g Cel.zero) ⟨opx,hR⟩ olr sb_ A5.refl
 have o:=bq_ t
 rw [Y4 o] at hR;replace hR:=(U5.eq_1 ..).symm.trans hR
 refine F6 (nx (A2 (sR_ rfl (pl1 3 [0] 51 rfl ?_))))
 refine ie ?_
 refine zjd rfl hR ?_ ?_<;>clear hR<;>intro hR a1 v
 ·refine sR_ rfl (pp1 1 2 rfl ?_)
  subst hR
  refine ie (A6 ?_)
  exact E2 hr hD
 refine A3 (nx (sR_ rfl (pp1 1 2 rfl ?_)))
 subst hR
 refine ie (A6 ?_)
 exact E2 hr hD
end Go.Proofs.YtkdgfkfbljdgmaaGreatDoor
set_option linter.unusedVariables false
set_option linter.unusedSimpArgs false
set_option linter.unnecessarySimpa false
set_option maxRecDepth 100000
namespace Go.Proofs.YtkdgfkfbljdgmaaGreatDoor
open Go Go.Fen
theorem C8i:MapTy Tryz.prog 161 3 159 (.int .i64):=⟨by kernel_rfl,by kernel_rfl,rfl⟩
theorem A8c:SlTy Tryz.prog 22 65 1:=⟨by kernel_rfl,by kernel_rfl⟩
theorem A6h:Ty Tryz.prog 65 1 false:=⟨by kernel_rfl⟩
theorem C0s:Ty Tryz.prog 68 6 true:=⟨by kernel_rfl⟩
def B7d:Unit :=
 ()
theorem C0f {R:Unit} (hR:B7d=R):Con Tryz.prog 104 [] [] [] (Nat) (fun x=>.map (some x)) (fun x=>[(x,.map #[⟨iv 44,.func (.func 169) #[] #[],0⟩,⟨iv 45,.func (.func 172) #[] #[],1⟩,⟨iv 46,.func (.func 175) #[] #[],2⟩] 3)]) (fun x=>[]):=by
 refine zce Tryz.func104 fun X hX hr hD=>?_
 replace hR:=(B7d.eq_1 ..).symm.trans hR
 refine sR_ rfl (pp0 1 rfl (ie (sR_ rfl (it rfl (A3h rfl) fun a=>?_))))
 refine B6n (m:=2) (mo:=1) (es':=[⟨iv 44,.func (.func 169) #[] #[],0⟩,⟨iv 45,.func (.func 172) #[] #[],1⟩,⟨iv 46,.func (.func 175) #[] #[],2⟩]) C8i rfl 0 3 1 0 [] _ rfl oki ?_
 refine A2y (L':=[(a,.map #[⟨iv 44,.func (.func 169) #[] #[],0⟩,⟨iv 45,.func (.func 172) #[] #[],1⟩,⟨iv 46,.func (.func 175) #[] #[],2⟩] 3)]) rfl ?_
 refine pp1 2 0 rfl ?_
 subst hR
 refine ie (A6 ?_)
 exact zer hr hD (U4 rfl (A4 rfl)) a sb_ fn0
def A5w (c:Int) (d:Int) (a:Col) (b:List UInt8):Option (List UInt8) :=
 (Option.bind (A4u true) fun (r:Unit)=>(Option.bind (A7d (⟨44,c,d,a,b⟩:Act)) fun (e:List UInt8)=>(some e)))
theorem B7y {d e:Int} {a:Col} {b:List UInt8} {c:Addr} {R:Option (List UInt8)} (hR:A5w d e a b=R) (m:b.length≤100000000:=by exact om_):B7x Tryz.prog 103 [pa c] [] [at_ c (B8 (⟨44,d,e,a,b⟩:Act))] A0u R (fun r=>sv r):=by
 refine A6s (n:=16) Tryz.func103 rfl oki rfl rfl [(0,pa c)] ⟨rfl,trivial⟩ fun X hX hr hD=>?_
 replace hR:=(A5w.eq_1 ..).symm.trans hR
 refine sR_ rfl (pp0 1 rfl (ie (sh 9 [] [at_ c (B8 (⟨44,d,e,a,b⟩:Act))] [] (zml 9 0) oki rfl oki oki oki sb_ A5.refl ?_)))
 refine zhp [1] 8 (zml 9 2) [(6,pa c)] ?_
 refine zhk 2 (zml 9 6) rfl (D8 ty3 rfl rfl (B2m (D4 0 rfl) (ws:=[iv 44]) 1 rfl) rfl) ?_
 refine zho 0 [] (zml 9 7) rfl (I0 (L2:=[]) (C0f rfl) rfl rfl rfl rfl rfl fn0 (List.Perm.refl _) (fun f=>[(f,.map #[⟨iv 44,.func (.func 169) #[] #[],0⟩,⟨iv 45,.func (.func 172) #[] #[],1⟩,⟨iv 46,.func (.func 175) #[] #[],2⟩] 3)]) (fun _=>rfl)) (fun f=>sb_) (fun f=>A5.refl) fun f=>?_
 refine zho 3 [] (zml 9 15) rfl (Det.tri (H9.det (O7 (v:=.func (.func 169) #[] #[]) (j:=0) C8i rfl rfl rfl 0 rfl oki))) (fun _=>sb_) (fun _=>A5.refl) fun _=>?_
 refine zhp [4,5,6,7,8] 0 (zml 9 511) [(2,.func (.func 169) #[] #[]),(3,bv true)] ?_
 refine P4 oki ?_
 refine sR_ rfl (pp1 1 11 rfl ?_)
 refine A4t (L2:=[(f,.map #[⟨iv 44,.func (.func 169) #[] #[],0⟩,⟨iv 45,.func (.func 172) #[] #[],1⟩,⟨iv 46,.func (.func 175) #[] #[],2⟩] 3)]) (A7s rfl) rfl rfl rfl rfl rfl rfl fn0 (List.Perm.refl _) (fun r g=>?_) (fun i=>?_)
 ·replace hR:=B6r hR g
  have k:=A2z g;try simp only [Bool.and_eq_true,decide_eq_true_eq] at k
  refine ie (sR_ rfl (ip' 1 3 [(13,.func (.func 169) #[] #[])] (ix rfl (I3 (us:=B8 (⟨44,d,e,a,b⟩:Act)) C0s rfl rfl (D4 0 rfl) rfl) ?_)))
  refine A4t (L2:=[(f,.map #[⟨iv 44,.func (.func 169) #[] #[],0⟩,⟨iv 45,.func (.func 172) #[] #[],1⟩,⟨iv 46,.func (.func 175) #[] #[],2⟩] 3)]) (B6z rfl) rfl rfl rfl rfl rfl rfl fn0 (List.Perm.refl _) (fun o l=>?_) (fun h=>?_)
  ·replace hR:=B6r hR l
   refine pp1 1 1 rfl (ie (A6 ?_))
   exact B8y rfl ⟨hr,hD⟩ (by simp [hD]) (U4 rfl (A4 rfl)) hR.symm rfl
  ·replace hR:=B5v hR h
   exact X7 ⟨hr,hD⟩ hR.symm
 ·replace hR:=B5v hR i
  exact X7 ⟨hr,hD⟩ hR.symm
def B3k (d:Int) (c:Int) (a:Col) (b:List UInt8):List UInt8×Int :=
 (bif (!((B8s (A5w d c a b)).2)) then (([]:List UInt8),2) else ((B8s (A5w d c a b)).1,0))
theorem C2s {d c:Int} {a:Col} {b:List UInt8} {R:List UInt8×Int} (hR:B3k d c a b=R) (f:b.length≤100000000:=by exact om_):J6 Tryz.prog 40 [ag (B8 (⟨44,d,c,a,b⟩:Act))] [] (.tuple #[sv R.1,iv R.2]):=by
 refine zce Tryz.func40 fun X hX hr hD=>?_
 replace hR:=(B3k.eq_1 ..).symm.trans hR
 refine sR_ rfl (it rfl (A7v (cs:=B8 (⟨44,d,c,a,b⟩:Act)) rfl rfl rfl) fun e=>?_)
 refine B3c 0 rfl ?_
 refine pp0 2 rfl (ie (sR_ rfl (ip' 1 6 [(7,.func (.func 103) #[] #[pa ⟨e,0,none⟩])] (zv rfl (D1w (cap:=[pa ⟨e,0,none⟩]) _ (B7y rfl)) (pp2 5 4 5 rfl (ie (A2 (sR_ rfl (pp1 2 12 rfl (ie ?_))))))))))
 refine zjb rfl hR ?_ ?_<;>clear hR<;>intro hR g
 ·refine sR_ rfl (pp2 2 2 3 rfl ?_)
  subst hR
  refine ie (A6 ?_)
  exact B9v hr hD
 refine A3 (nx (sR_ rfl (pp2 3 2 3 rfl ?_)))
 subst hR
 refine ie (A6 ?_)
 exact B9v hr hD
def R0 (e:Int) (c:Int) (a:Col) (b:List UInt8):Int :=
 (E8 (B3k e c a b) fun (d:List UInt8×Int)=>(bif (!decide (d.2=0)) then 200 else 0))
theorem A9e {e c:Int} {a:Col} {b:List UInt8} {R:Int} (hR:R0 e c a b=R) (i:b.length≤100000000:=by exact om_):J6 Tryz.prog 20 [ag (B8 (⟨44,e,c,a,b⟩:Act))] [] (iv R):=by
 refine zce Tryz.func20 fun X hX hr hD=>?_
 replace hR:=(R0.eq_1 ..).symm.trans hR
 refine sR_ rfl (J3 2 0 [] (fun d=>[(1,pt d 0)]) (fun d=>[bx d (B8 (⟨44,e,c,a,b⟩:Act)) 68]) (fun d=>(ie (sR_ rfl (pp1 1 3 rfl (ie (A2 (sR_ rfl (pl1 2 [0] 7 rfl (ie (A8 (sR_ rfl (pp1 2 44 rfl (ie (P1 rfl (sR_ rfl (pp1 2 59 rfl (ie (P1 rfl (A2 (sR_ rfl (pp1 2 63 rfl (ie (G1 rfl (A3 (nx (G1 rfl (A0 6 rfl (zrl 1 5 [0] [(68,ag (B8 (⟨44,e,c,a,b⟩:Act)))] ?_)))))))))))))))))))))))))))))
 have h:=E9 hR;clear hR;obtain ⟨k,f,hR⟩:=h
 refine zv rfl (C2s f) (pp1 4 3 rfl (A1 (nx (A2 (sR_ rfl (pp1 2 73 rfl (ie ?_)))))))
 refine zjn rfl hR ?_ ?_<;>clear hR<;>intro hR j g
 ·refine sR_ rfl (pp1 1 2 rfl ?_)
  subst hR
  refine ie (A6 ?_)
  exact E2 hr hD
 refine A3 (nx (sR_ rfl (pp1 1 2 rfl ?_)))
 subst hR
 refine ie (A6 ?_)
 exact E2 hr hD
structure Pln where
 cols:Int
 rows:Int
 top:Int
 bottom:Int
 shape:Int
 last:Int
 onAlt:Bool
 cursor:Cur
 style:Sty
 sets:Sts
 modes:Mod
 kept:Sav
 keptAlt:Sav
 title:List UInt8
deriving DecidableEq
def B8f (x:Pln):List Value:=[.int .i64 x.cols,.int .i64 x.rows,.int .i64 x.top,.int .i64 x.bottom,.int .i64 x.shape,.int .i64 x.last,.bool x.onAlt]++(Y1 x.cursor++(C7 x.style++(A8k x.sets++(A4k x.modes++(A5i x.kept++(A5i x.keptAlt++([.string (bs x.title)])))))))
def Pln.zero:Pln:=⟨0,0,0,0,0,0,false,Cur.zero,Sty.zero,Sts.zero,Mod.zero,Sav.zero,Sav.zero,[]⟩
theorem B8f.inj (x y:Pln) (h:B8f x=B8f y):x=y:=by
 rcases x with ⟨_,_,_,_,_,_,_,⟨_,_,_⟩,⟨_,_,⟨_,_⟩,⟨_,_⟩,⟨_,_⟩⟩,⟨⟨_,_,_,_⟩,_,_⟩,⟨_,_,_,_,_,_,_,_,_,_,_,_,_⟩,⟨_,⟨_,_,_⟩,⟨_,_,⟨_,_⟩,⟨_,_⟩,⟨_,_⟩⟩,⟨⟨_,_,_,_⟩,_,_⟩,_⟩,⟨_,⟨_,_,_⟩,⟨_,_,⟨_,_⟩,⟨_,_⟩,⟨_,_⟩⟩,⟨⟨_,_,_,_⟩,_,_⟩,_⟩,_⟩
 rcases y with ⟨_,_,_,_,_,_,_,⟨_,_,_⟩,⟨_,_,⟨_,_⟩,⟨_,_⟩,⟨_,_⟩⟩,⟨⟨_,_,_,_⟩,_,_⟩,⟨_,_,_,_,_,_,_,_,_,_,_,_,_⟩,⟨_,⟨_,_,_⟩,⟨_,_,⟨_,_⟩,⟨_,_⟩,⟨_,_⟩⟩,⟨⟨_,_,_,_⟩,_,_⟩,_⟩,⟨_,⟨_,_,_⟩,⟨_,_,⟨_,_⟩,⟨_,_⟩,⟨_,_⟩⟩,⟨⟨_,_,_,_⟩,_,_⟩,_⟩,_⟩
 simp [B8g,S2,Y1,A4k,B8f,A5i,A8k,C7,bs] at h
 simp_all
def I5 (f:FrmC):List (List Cel)→Bool→Nat→Int
 | [],ok,t77=>(bif (!ok) then 330 else 0)
 | hd_l0::tl_l0,ok,t77=>(bif (!((ok&&(decide ((hd_l0.length:Int)=f.cols)))&&(decide ((K8 hd_l0 false)=0)))) then (bif (!((ok&&(decide ((hd_l0.length:Int)=f.cols)))&&(decide ((K8 hd_l0 false)=0)))) then 330 else 0) else I5 f tl_l0 ((ok&&(decide ((hd_l0.length:Int)=f.cols)))&&(decide ((K8 hd_l0 false)=0))) (t77+1))
def F3 (f:FrmC) (a:List (List Cel)):Int :=
 I5 f a (((((((((((decide ((2:Int)≤f.cols))&&(decide (f.cols≤80)))&&(decide ((1:Int)≤(a.length:Int))))&&(decide ((a.length:Int)≤40)))&&(decide ((0:Int)≤f.cursor.row)))&&(decide (f.cursor.row<(a.length:Int))))&&(decide ((0:Int)≤f.cursor.col)))&&(decide (f.cursor.col<f.cols)))&&(decide ((0:Int)≤f.shape)))&&(decide (f.shape≤6)))&&(decide ((R0 0 0 Col.zero f.title)=0))) 0
theorem A2a (f:FrmC):∀ (a:List (List Cel)) (c:Bool) (t:Nat),I5 f a c t=0→c=true∧∀ r ∈ a,(r.length:Int)=f.cols∧K8 r false=0
 | [],c,t=>by cases c<;>simp [I5]
 | r::a,c,t=>by
  intro h
  simp only [I5] at h
  generalize hb:((c&&decide ((r.length:Int)=f.cols))&&decide (K8 r false=0))=b at h
  cases b with
  | false=>simp at h
  | true =>
   have e:=A2a f a true (t+1) (by simpa using h)
   simp only [Bool.and_eq_true,decide_eq_true_eq] at hb
   refine ⟨hb.1.1,fun x d=>?_⟩
   rcases List.mem_cons.1 d with rfl | d
   ·exact ⟨hb.1.2,hb.2⟩
   ·exact e.2 x d
theorem A2d {f:FrmC} {a:List (List Cel)} (h:F3 f a=0) :
  2≤f.cols∧f.cols≤80∧1≤a.length∧a.length≤40∧∀ i,i<a.length→((a.getD i []).length:Int)=f.cols:=by
 unfold F3 at h
 obtain ⟨d,c⟩:=A2a _ _ _ _ h
 simp only [Bool.and_eq_true,decide_eq_true_eq] at d
 refine ⟨by omega,by omega,by omega,by omega,fun i b=>?_⟩
 have:=(c _ (List.getElem_mem b)).1
 simpa [List.getD_eq_getElem?_getD,b] using this
theorem A3e {f:FrmC} {fR:List (List Cel)} {j:Option Addr} {e:List Slc} {fK:Nat} {R:Int} (hR:F3 f fR=R) (a:E3 e fR:=by exact om_) (o:fR.length≤9223372036854775807:=by exact om_) (w:fR.length≤fK:=by exact om_) (hT:f.title.length≤100000000:=by exact om_):J6 Tryz.prog 14 [ag (B0 f ⟨j,fR.length,fK⟩)] [sl E4 j e,D3 B1 e fR,O9,P0] (iv R):=by
 refine zce Tryz.func14 fun X hX hr hD=>?_
 replace hR:=(F3.eq_1 ..).symm.trans hR
 have:=a.1
 refine sR_ rfl (J3 2 0 [] (fun l=>[(1,pt l 0)]) (fun l=>[bx l (B0 f ⟨j,fR.length,fK⟩) 26]) (fun l=>(ie (C5h (sR_ rfl (pl1 4 [0] 9 rfl ?_))))))
 refine zid 4 13 9 13 (decide (f.cols≤80)) (fun g2 aj=>?_) ?_
 ·refine pl1 4 [0] 13 rfl ?_
  exact zai 2 9 13 g2
 refine pp1 1 14 rfl ?_
 refine zia 5 7 14 19 (decide ((1:Int)≤(fR.length:Int))) (fun g3=>?_) ?_
 ·have ai:=bq_ g3
  refine pl1 5 [0] 19 rfl ?_
  exact zai 2 14 19 g3
 refine pp1 1 20 rfl ?_
 refine zia 5 1 20 25 (decide ((fR.length:Int)≤40)) (fun g4=>?_) ?_
 ·have al:=bq_ g4
  refine pl1 5 [0] 25 rfl ?_
  exact zai 2 20 25 g4
 refine pp1 1 3 rfl (ie (sR_ rfl (pp1 2 27 rfl ?_)))
 refine zia 5 24 27 32 (decide ((0:Int)≤f.cursor.row)) (fun g5=>?_) ?_
 ·have ad:=bq_ g5
  refine pl1 5 [0] 32 rfl ?_
  exact zai 2 27 32 g5
 refine pp1 1 33 rfl ?_
 refine zia 8 15 33 41 (decide (f.cursor.row<(fR.length:Int))) (fun g6=>?_) ?_
 ·have ah:=bq_ g6
  refine pl1 8 [0,0] 41 rfl ?_
  exact zai 2 33 41 g6
 refine pp1 1 42 rfl ?_
 refine zia 5 9 42 47 (decide ((0:Int)≤f.cursor.col)) (fun g7=>?_) ?_
 ·have ab:=bq_ g7
  refine pl1 5 [0] 47 rfl ?_
  exact zai 2 42 47 g7
 refine pp1 1 48 rfl ?_
 refine zia 7 1 48 55 (decide (f.cursor.col<f.cols)) (fun g8=>?_) ?_
 ·have af:=bq_ g8
  refine pl1 7 [0,0] 55 rfl ?_
  exact zai 2 48 55 g8
 refine pp1 1 3 rfl (ie (sR_ rfl (pp1 2 57 rfl ?_)))
 refine zia 4 13 57 61 (decide ((0:Int)≤f.shape)) (fun g9=>?_) ?_
 ·have ak:=bq_ g9
  refine pl1 4 [0] 61 rfl ?_
  exact zai 2 57 61 g9
 refine pp1 1 62 rfl ?_
 refine zia 4 8 62 66 (decide (f.shape≤6)) (fun r=>?_) ?_
 ·have a1:=bq_ r
  refine pl1 4 [0] 66 rfl ?_
  exact zai 2 62 66 r
 refine pp1 1 67 rfl ?_
 refine zia 6 1 67 73 (decide ((R0 0 0 Col.zero f.title)=0)) (fun s=>?_) ?_
 ·have aa:=bq_ s
  refine zrl 3 3 [0] [(70,ag (B8 ({Act.zero with kind:=44,text:=f.title})))] (zv rfl (A9e rfl) (pp1 2 73 rfl ?_))
  exact zai 4 67 73 s
 refine pp1 1 3 rfl (ie (A2 (C5m (nx (A2 (sR_ rfl (pl3 4 [0] 75 76 77 rfl (ie (A8 (A3q (un fun (m:Bool) (b:Nat)=>(b≤fR.length∧I5 f (fR.drop b) m b=R,[(1,pt l 0),(3,bv m),(75,.slice j fR.length fK),(76,iv (fR.length:Int)),(77,iv (b:Int))],[bx l (B0 f ⟨j,fR.length,fK⟩) 26],[sl E4 j e,D3 B1 e fR,O9,P0],fR.length - b)) ((((((((((((decide ((2:Int)≤f.cols))&&(decide (f.cols≤80)))&&(decide ((1:Int)≤(fR.length:Int))))&&(decide ((fR.length:Int)≤40)))&&(decide ((0:Int)≤f.cursor.row)))&&(decide (f.cursor.row<(fR.length:Int))))&&(decide ((0:Int)≤f.cursor.col)))&&(decide (f.cursor.col<f.cols)))&&(decide ((0:Int)≤f.shape)))&&(decide (f.shape≤6)))&&(decide ((R0 0 0 Col.zero f.title)=0))),0) ⟨opx,hR⟩ sb_ A5.refl ?_))))))))))
 rintro ⟨m,b⟩ ⟨a2,hR⟩
 refine sR_ rfl (pp1 1 78 rfl ?_)
 refine ie (A2 (W2 rfl (fun i=>?_) (fun i=>?_)))
 ·have g:=bq_ i
  rw [Y3 [] (show b<fR.length by omega)] at hR;replace hR:=(I5.eq_2 ..).symm.trans hR
  refine A3 (nx (A2 (A8 (sR_ rfl (N2 0 rfl (by have:=a.1;omega) fun ac h=>(M8 (V2 (k:=b) (d:=(⟨none,0,0⟩:Slc)) a 1 rfl (by have:=a.1;omega)) ?_))))))
  have:=U7 a (k:=b) (d:=(⟨none,0,0⟩:Slc)) (by have:=a.1;omega)
  refine ix rfl (F7 A8c rfl rfl h rfl b rfl opx) (ix rfl (H2 (D8 (v:=.slice ((e.getD b (⟨none,0,0⟩:Slc)).q) ((e.getD b (⟨none,0,0⟩:Slc)).n) ((e.getD b (⟨none,0,0⟩:Slc)).k)) (us:=[.slice ((e.getD b (⟨none,0,0⟩:Slc)).q) ((e.getD b (⟨none,0,0⟩:Slc)).n) ((e.getD b (⟨none,0,0⟩:Slc)).k)]) A6h rfl rfl (H5 (c:=E4) (sz:=1) h (fun _=>rfl) 1 rfl (gd (⟨none,0,0⟩:Slc) (by have:=a.1;omega))) rfl) (Y2 a (by have:=a.1;omega))) (pp1 1 5 rfl (ie (sR_ rfl (pp1 2 82 rfl ?_)))))
  refine zia 6 7 82 88 (decide (((fR.getD b []).length:Int)=f.cols)) (fun z=>?_) ?_
  ·refine pl1 6 [0] 88 rfl ?_
   exact zai 2 82 88 z
  refine pp1 1 89 rfl ?_
  refine zia 5 1 89 94 (decide ((K8 (fR.getD b []) false)=0)) (fun t=>?_) ?_
  ·have a6:=bq_ t
   refine zrl 2 3 [] [(91,ag [.slice ((e.getD b (⟨none,0,0⟩:Slc)).q) ((fR.getD b []).length) ((e.getD b (⟨none,0,0⟩:Slc)).k),bv false])] (zv rfl (B4j rfl) (pp1 2 94 rfl ?_))
   exact zai 4 89 94 t
  refine pp1 1 3 rfl (ie (sR_ rfl (pp1 2 96 rfl (ie ?_))))
  refine zjb rfl hR ?_ ?_<;>clear hR<;>intro hR p
  ·have y:=bq_ p
   refine F6 (nx (A2 (sR_ rfl (pp1 2 99 rfl ?_))))
   refine ie ?_
   refine zjb rfl hR ?_ ?_<;>clear hR<;>intro hR x
   ·have u:=bq_ x
    refine sR_ rfl (pp1 1 2 rfl ?_)
    subst hR
    refine ie (A6 ?_)
    exact E2 hr hD
   have u:=bq_ x
   refine A3 (nx (sR_ rfl (pp1 1 2 rfl ?_)))
   subst hR
   refine ie (A6 ?_)
   exact E2 hr hD
  have y:=bq_ p
  refine A3 (nx (A0 2 rfl (ix rfl (A9 rfl rfl rfl rfl opx) (pp1 1 77 rfl (A1 ?_)))))
  exact A0y (z1:=(m,b)) (((m&&(decide (((fR.getD b []).length:Int)=f.cols)))&&(decide ((K8 (fR.getD b []) false)=0))),b+1) ⟨opx,hR⟩ olr sb_ fo_
 have g:=bq_ i
 rw [Y4 g] at hR;replace hR:=(I5.eq_1 ..).symm.trans hR
 refine F6 (nx (A2 (sR_ rfl (pp1 2 99 rfl ?_))))
 refine ie ?_
 refine zjb rfl hR ?_ ?_<;>clear hR<;>intro hR am
 ·refine sR_ rfl (pp1 1 2 rfl ?_)
  subst hR
  refine ie (A6 ?_)
  exact E2 hr hD
 refine A3 (nx (sR_ rfl (pp1 1 2 rfl ?_)))
 subst hR
 refine ie (A6 ?_)
 exact E2 hr hD
end Go.Proofs.YtkdgfkfbljdgmaaGreatDoor
