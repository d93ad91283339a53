import Derived.Test.YtfcdnnheppnbaaaGreatDoorProg
import Derived.Test.YtfcdnnheppnbaaaGreatDoorMA2
set_option linter.unusedVariables false
set_option linter.unusedSimpArgs false
set_option linter.unnecessarySimpa false
set_option maxRecDepth 100000
namespace Go.Proofs.YtfcdnnheppnbaaaGreatDoor
open Go Go.Fen
structure Col where
 kind:Int
 n:Int
deriving DecidableEq
def P0 (x:Col):List Value:=[.int .i64 x.kind,.int .i64 x.n]
def Col.zero:Col:=⟨0,0⟩
theorem P0.inj (x y:Col) (h:P0 x=P0 y):x=y:=by
 rcases x with ⟨_,_⟩
 rcases y with ⟨_,_⟩
 simp [P0,bs] at h
 simp_all
structure Sty where
 attr:Int
 under:Int
 fore:Col
 back:Col
 line:Col
deriving DecidableEq
def B3 (x:Sty):List Value:=[.int .i64 x.attr,.int .i64 x.under]++(P0 x.fore++(P0 x.back++(P0 x.line)))
def Sty.zero:Sty:=⟨0,0,Col.zero,Col.zero,Col.zero⟩
theorem B3.inj (x y:Sty) (h:B3 x=B3 y):x=y:=by
 rcases x with ⟨_,_,⟨_,_⟩,⟨_,_⟩,⟨_,_⟩⟩
 rcases y with ⟨_,_,⟨_,_⟩,⟨_,_⟩,⟨_,_⟩⟩
 simp [P0,B3,bs] at h
 simp_all
structure Ar2 where
 a:Int
 b:Int
deriving DecidableEq
def B6n (x:Ar2):List Value:=[.int .i64 x.a,.int .i64 x.b]
def Ar2.zero:Ar2:=⟨0,0⟩
theorem B6n.inj (x y:Ar2) (h:B6n x=B6n y):x=y:=by
 rcases x with ⟨_,_⟩
 rcases y with ⟨_,_⟩
 simp [B6n,bs] at h
 simp_all
structure Ar3 where
 a:Int
 b:Int
 c:Int
deriving DecidableEq
def C8s (x:Ar3):List Value:=[.int .i64 x.a,.int .i64 x.b,.int .i64 x.c]
def Ar3.zero:Ar3:=⟨0,0,0⟩
theorem C8s.inj (x y:Ar3) (h:C8s x=C8s y):x=y:=by
 rcases x with ⟨_,_,_⟩
 rcases y with ⟨_,_,_⟩
 simp [C8s,bs] at h
 simp_all
structure Cel where
 base:Int
 marks:Ar2
 wide:Int
 sty:Sty
deriving DecidableEq
def C0 (x:Cel):List Value:=[.int .i64 x.base]++(B6n x.marks++([.int .i64 x.wide]++(B3 x.sty)))
def Cel.zero:Cel:=⟨0,Ar2.zero,0,Sty.zero⟩
theorem C0.inj (x y:Cel) (h:C0 x=C0 y):x=y:=by
 rcases x with ⟨_,⟨_,_⟩,_,⟨_,_,⟨_,_⟩,⟨_,_⟩,⟨_,_⟩⟩⟩
 rcases y with ⟨_,⟨_,_⟩,_,⟨_,_,⟨_,_⟩,⟨_,_⟩,⟨_,_⟩⟩⟩
 simp [B6n,C0,P0,B3,bs] at h
 simp_all
structure Spn where
 lo:Int
 hi:Int
deriving DecidableEq
def B7 (x:Spn):List Value:=[.int .i64 x.lo,.int .i64 x.hi]
def Spn.zero:Spn:=⟨0,0⟩
theorem B7.inj (x y:Spn) (h:B7 x=B7 y):x=y:=by
 rcases x with ⟨_,_⟩
 rcases y with ⟨_,_⟩
 simp [B7,bs] at h
 simp_all
structure Sp3 where
 row:Int
 frm:Int
 to:Int
deriving DecidableEq
def E8y (x:Sp3):List Value:=[.int .i64 x.row,.int .i64 x.frm,.int .i64 x.to]
def Sp3.zero:Sp3:=⟨0,0,0⟩
theorem E8y.inj (x y:Sp3) (h:E8y x=E8y y):x=y:=by
 rcases x with ⟨_,_,_⟩
 rcases y with ⟨_,_,_⟩
 simp [E8y,bs] at h
 simp_all
structure Plc where
 row:Int
 col:Int
deriving DecidableEq
def I8 (x:Plc):List Value:=[.int .i64 x.row,.int .i64 x.col]
def Plc.zero:Plc:=⟨0,0⟩
theorem I8.inj (x y:Plc) (h:I8 x=I8 y):x=y:=by
 rcases x with ⟨_,_⟩
 rcases y with ⟨_,_⟩
 simp [I8,bs] at h
 simp_all
structure Atr where
 a:Int
 b:Int
 c:Int
deriving DecidableEq
def C2v (x:Atr):List Value:=[.int .i64 x.a,.int .i64 x.b,.int .i64 x.c]
def Atr.zero:Atr:=⟨0,0,0⟩
theorem C2v.inj (x y:Atr) (h:C2v x=C2v y):x=y:=by
 rcases x with ⟨_,_,_⟩
 rcases y with ⟨_,_,_⟩
 simp [C2v,bs] at h
 simp_all
structure Act where
 kind:Int
 n:Int
 m:Int
 color:Col
 text:List UInt8
deriving DecidableEq
def A1 (x:Act):List Value:=[.int .i64 x.kind,.int .i64 x.n,.int .i64 x.m]++(P0 x.color++([.string (bs x.text)]))
def Act.zero:Act:=⟨0,0,0,Col.zero,[]⟩
theorem A1.inj (x y:Act) (h:A1 x=A1 y):x=y:=by
 rcases x with ⟨_,_,_,⟨_,_⟩,_⟩
 rcases y with ⟨_,_,_,⟨_,_⟩,_⟩
 simp [A1,P0,bs] at h
 simp_all
structure Shf where
 top:Int
 bottom:Int
 amt:Int
deriving DecidableEq
def E3y (x:Shf):List Value:=[.int .i64 x.top,.int .i64 x.bottom,.int .i64 x.amt]
def Shf.zero:Shf:=⟨0,0,0⟩
theorem E3y.inj (x y:Shf) (h:E3y x=E3y y):x=y:=by
 rcases x with ⟨_,_,_⟩
 rcases y with ⟨_,_,_⟩
 simp [E3y,bs] at h
 simp_all
structure Hld where
 shift:Shf
 gain:Int
deriving DecidableEq
def E9w (x:Hld):List Value:=E3y x.shift++([.int .i64 x.gain])
def Hld.zero:Hld:=⟨Shf.zero,0⟩
theorem E9w.inj (x y:Hld) (h:E9w x=E9w y):x=y:=by
 rcases x with ⟨⟨_,_,_⟩,_⟩
 rcases y with ⟨⟨_,_,_⟩,_⟩
 simp [E9w,E3y,bs] at h
 simp_all
structure Drf where
 kind:Int
 n:Int
 m:Int
 rgb:Int
 text:List UInt8
deriving DecidableEq
def E9c (x:Drf):List Value:=[.int .u16 x.kind,.int .u16 x.n,.int .u16 x.m,.int .u32 x.rgb,.string (bs x.text)]
def Drf.zero:Drf:=⟨0,0,0,0,[]⟩
theorem E9c.inj (x y:Drf) (h:E9c x=E9c y):x=y:=by
 rcases x with ⟨_,_,_,_,_⟩
 rcases y with ⟨_,_,_,_,_⟩
 simp [E9c,bs] at h
 simp_all
structure Lks where
 f:Nat→Int
def Lks.zero:Lks:=⟨fun _=>0⟩
def Lks.put (x:Lks) (k:Nat) (v:Int):Lks:=⟨fun i=>if i=k then v else x.f i⟩
def E3k:List UInt8:=[0,1,56,2,57,49,28,3,61,58,42,50,38,29,17,4,62,47,59,36,45,43,51,22,53,39,33,30,24,18,12,5,63,55,48,27,60,41,37,16,46,35,44,21,52,32,23,11,54,26,40,15,34,20,31,10,25,14,19,9,13,8,7,6]
def F0p:List Int:=[0,13434880,52480,13487360,238,13435085,52685,15066597,8355711,16711680,65280,16776960,6053119,16711935,65535,16777215]
def F4p:List Atr:=[⟨1,1,22⟩,⟨2,2,22⟩,⟨4,3,23⟩,⟨8,5,25⟩,⟨16,7,27⟩,⟨32,8,28⟩,⟨64,9,29⟩,⟨128,53,55⟩]
def E0e:List Spn:=[⟨768,879⟩,⟨1155,1161⟩,⟨1425,1469⟩,⟨1552,1562⟩,⟨1611,1631⟩,⟨6832,6911⟩,⟨7616,7679⟩,⟨8203,8207⟩,⟨8400,8447⟩,⟨65024,65039⟩,⟨65056,65071⟩]
def E9o:List Spn:=[⟨4352,4447⟩,⟨11904,12350⟩,⟨12353,19903⟩,⟨19968,42191⟩,⟨44032,55203⟩,⟨63744,64255⟩,⟨65072,65135⟩,⟨65280,65376⟩,⟨65504,65510⟩,⟨127744,128591⟩,⟨128640,128767⟩,⟨129280,129535⟩,⟨131072,262141⟩]
abbrev M9:Pers:=sl cG (some ⟨8,0,none⟩) E3k
abbrev K6:Pers:=E8z 5 B6p
abbrev O0:Pers:=sl J8 (some ⟨4,0,none⟩) F0p
abbrev P4:Pers:=sl C2v (some ⟨3,0,none⟩) F4p
abbrev P6:Pers:=sl B7 (some ⟨0,0,none⟩) E0e
abbrev P7:Pers:=sl B7 (some ⟨1,0,none⟩) E9o
theorem C5q:ApTy Tryz.prog 103 5 1 1:=⟨by kernel_rfl,by kernel_rfl,rfl⟩
theorem E6j:ApTy Tryz.prog 218 3 1 8:=⟨by kernel_rfl,by kernel_rfl,rfl⟩
theorem E8a:EqT Tryz.prog 60 A1:=EqT.of 20 rfl oki oki (fun _ _=>by kernel_rfl) A1.inj
theorem A6n:SlTy Tryz.prog 103 5 1:=⟨by kernel_rfl,by kernel_rfl⟩
theorem L4:SlTy Tryz.prog 218 3 1:=⟨by kernel_rfl,by kernel_rfl⟩
theorem cA:Ty Tryz.prog 3 1 false:=⟨by kernel_rfl⟩
theorem ty5:Ty Tryz.prog 5 1 false:=⟨by kernel_rfl⟩
theorem ty9:Ty Tryz.prog 9 1 false:=⟨by kernel_rfl⟩
theorem E6a:Ty Tryz.prog 218 1 false:=⟨by kernel_rfl⟩
def B5x (cp:Int):Bool :=
 (((decide ((0:Int)≤cp))&&(decide (cp≤1114111)))&&(!decide ((cp / 2048)=27)))
theorem C6x {cp:Int} {R:Bool} (hR:B5x cp=R):J5 Tryz.prog 86 [iv cp] [] (bv R):=by
 refine bZ Tryz.func86 fun X hX hr hD=>?_
 replace hR:=(B5x.eq_1 ..).symm.trans hR
 refine bN rfl (pp0 1 rfl (ie (bN rfl (bO 3 5 rfl ?_))))
 refine zid 3 6 5 8 (decide (cp≤1114111)) (fun e b=>?_) ?_
 ·refine bO 3 8 rfl ?_
  exact A3 (O6 2 5 8 e bT bQ rfl rfl rfl rfl rfl)
 refine bO 1 9 rfl ?_
 refine zia 4 1 9 13 (!decide ((cp / 2048)=27)) (fun a=>?_) ?_
 ·have d:=bU a
  refine bO 1 10 rfl ?_
  refine ix rfl (U3 (c:=cp / 2048) rfl rfl rfl ozw (by simp [Int.fdiv_eq_ediv_of_nonneg,IntKind.bits])) (bO 2 13 rfl ?_)
  exact A3 (O6 4 9 13 a bT bQ rfl rfl rfl rfl rfl)
 refine bO 1 2 rfl ?_
 subst hR
 refine ie (A8 ?_)
 exact G0 hr hD
def O3 (a:Nat) (p1:Int):UInt8 :=
 (by8 (bW .or .u8 128 ((by8 (bW .and .u8 ((by8 (IntKind.u8.wrap (Int.fdiv p1 (2 ^ (min ((a:Int)).toNat 64))))).toNat:Int) 63)).toNat:Int)))
theorem A7o {a:Nat} {p1:Int} {p1b:Nat} {R:UInt8} (hR:O3 a p1=R):cI Tryz.prog 227 [iv (a:Int),pt p1b 0] [bx p1b [iv p1] 3] [] (Unit) (fun x=>.int .u8 (R.toNat:Int)) (fun x=>[bx p1b [iv p1] 3]) (fun x=>[]):=by
 refine bZ Tryz.func227 fun X hX hr hD=>?_
 replace hR:=(O3.eq_1 ..).symm.trans hR
 refine bN rfl (pp0 1 rfl (ie (bN rfl (pl2 2 [0] 4 5 rfl (ix rfl (U3 rfl rfl rfl opx rfl) (ix rfl (G9 (v:=.int .u8 (IntKind.u8.wrap (Int.fdiv p1 (2 ^ (min ((a:Int)).toNat 64))))) (I6.pure rfl) (C0h)) (ix rfl (G9 (v:=.int .u8 (bW .and .u8 ((by8 (IntKind.u8.wrap (Int.fdiv p1 (2 ^ (min ((a:Int)).toNat 64))))).toNat:Int) 63)) (I6.pure rfl) (C6n)) (ix rfl (G9 (v:=.int .u8 (bW .or .u8 128 ((by8 (bW .and .u8 ((by8 (IntKind.u8.wrap (Int.fdiv p1 (2 ^ (min ((a:Int)).toNat 64))))).toNat:Int) 63)).toNat:Int))) (I6.pure rfl) (C6n)) (bO 1 3 rfl ?_)))))))))
 subst hR
 refine ie (A8 ?_)
 exact cD hr hD (N4 rfl (B0 rfl)) () bQ bT
def B2w (a:Int):List UInt8 :=
 (bif (decide (a<128)) then ([(by8 (IntKind.u8.wrap a))]:List UInt8) else (bif (decide (a<2048)) then ([(by8 (bW .or .u8 192 ((by8 (IntKind.u8.wrap (a / 64))).toNat:Int))),(O3 0 a)]:List UInt8) else (bif (decide (a<65536)) then ([(by8 (bW .or .u8 224 ((by8 (IntKind.u8.wrap (a / 4096))).toNat:Int))),(O3 6 a),(O3 0 a)]:List UInt8) else ([(by8 (bW .or .u8 240 ((by8 (IntKind.u8.wrap (a / 262144))).toNat:Int))),(O3 12 a),(O3 6 a),(O3 0 a)]:List UInt8))))
def C0f (cp:Int):List UInt8 :=
 (bif (!(B5x cp)) then B2w 65533 else B2w cp)
theorem B9u (cp:Int):(C0f cp).length≤4:=by
 unfold C0f B2w
 simp only [Bool.cond_eq_ite]
 repeat' split
 all_goals simp
theorem D2i {cp:Int} {R:List UInt8} (hR:C0f cp=R):J5 Tryz.prog 151 [iv cp] [] (sv R):=by
 refine bZ Tryz.func151 fun X hX hr hD=>?_
 replace hR:=(C0f.eq_1 ..).symm.trans hR
 refine bN rfl (zra 2 [] (fun b=>[(1,pt b 0)]) (fun _=>[iv cp]) 3 fun b=>?_)
 refine ie (A9c (fun (a:Int)=>(B2w a=R,[(1,pt b 0)],[bx b [iv a] 3],[])) ?_ ?_)
 ·refine bN rfl (cE 1 [0] 4 rfl (zv rfl (C6x rfl) (bO 1 6 rfl (ie ?_))))
  refine zjb rfl hR ?_ ?_<;>clear hR<;>intro hR j
  ·refine A0 1 rfl (zru 1 [0] [] 0 (bx b [iv 65533] 3) (A3 ?_))
   exact X5 65533 hR bQ bT
  refine A4 ?_
  exact X5 cp hR bQ bT
 intro a
 rintro hR
 replace hR:=(B2w.eq_1 ..).symm.trans hR
 refine bN rfl (ip' 2 0 [(3,.func (.func 227) #[] #[pt b 0])] (ie (A5 (B2 (bN rfl (cE 3 [0] 8 rfl (ie ?_)))))))
 refine zjd rfl hR ?_ ?_<;>clear hR<;>intro hR i e
 ·refine bN rfl (cE 1 [0] 11 rfl (ix rfl (G9 (v:=.int .u8 (IntKind.u8.wrap a)) (I6.pure rfl) (C0h)) (it rfl (C1 (c:=cG) (xs:=([(by8 (IntKind.u8.wrap a))]:List UInt8)) A6n rfl rfl rfl oki) fun l=>?_)))
  have:([(by8 (IntKind.u8.wrap a))]:List UInt8).length=1:=rfl
  refine ix rfl (C3o Tryz.underlying9 Tryz.underlying103 rfl rfl (B8 0 rfl) rfl oki) ?_
  have:([(by8 (IntKind.u8.wrap a))]:List UInt8).length=1:=rfl
  refine bO 1 2 rfl ?_
  subst hR
  refine ie (A8 ?_)
  exact G0 hr hD
 refine bN rfl (cE 3 [0] 15 rfl (ie ?_))
 refine zjd rfl hR ?_ ?_<;>clear hR<;>intro hR h f
 ·refine zS [(9,[0])] ?_
  refine hqV [4] [(22,.func (.func 227) #[] #[pt b 0])] ?_
  refine gl 0 [0] rfl (A2 (v:=iv a) cA rfl rfl 0 rfl rfl) ?_
  refine gk 1 rfl (U3 (c:=a / 64) rfl rfl rfl ozw (by simp [Int.fdiv_eq_ediv_of_nonneg,IntKind.bits])) ?_
  refine gk 2 rfl (G9 (v:=.int .u8 (IntKind.u8.wrap (a / 64))) (I6.pure rfl) (C0h)) ?_
  refine gk 3 rfl (G9 (v:=.int .u8 (bW .or .u8 192 ((by8 (IntKind.u8.wrap (a / 64))).toNat:Int))) (I6.pure rfl) (C6n)) ?_
  refine gc 5 [0] rfl (A7o rfl) fun _=>?_
  refine go 6 [0] rfl (C1 (c:=cG) (xs:=([(by8 (bW .or .u8 192 ((by8 (IntKind.u8.wrap (a / 64))).toNat:Int))),(O3 0 a)]:List UInt8)) A6n rfl rfl rfl oki) fun n=>?_
  have:([(by8 (bW .or .u8 192 ((by8 (IntKind.u8.wrap (a / 64))).toNat:Int))),(O3 0 a)]:List UInt8).length=2:=rfl
  refine go 7 [0] rfl (Det.tri (I6.det (C3o Tryz.underlying9 Tryz.underlying103 rfl rfl (B8 0 rfl) rfl oki))) fun _=>?_
  have:([(by8 (bW .or .u8 192 ((by8 (IntKind.u8.wrap (a / 64))).toNat:Int))),(O3 0 a)]:List UInt8).length=2:=rfl
  refine hq1 [8] 2 rfl ?_
  refine ge ?_
  subst hR
  refine A8 ?_
  exact G0 hr hD
 refine bN rfl (cE 3 [0] 26 rfl (ie ?_))
 refine zjd rfl hR ?_ ?_<;>clear hR<;>intro hR m d
 ·refine zS [(11,[0])] ?_
  refine hqV [4,6] [(33,.func (.func 227) #[] #[pt b 0]),(35,.func (.func 227) #[] #[pt b 0])] ?_
  refine gl 0 [0] rfl (A2 (v:=iv a) cA rfl rfl 0 rfl rfl) ?_
  refine gk 1 rfl (U3 (c:=a / 4096) rfl rfl rfl ozw (by simp [Int.fdiv_eq_ediv_of_nonneg,IntKind.bits])) ?_
  refine gk 2 rfl (G9 (v:=.int .u8 (IntKind.u8.wrap (a / 4096))) (I6.pure rfl) (C0h)) ?_
  refine gk 3 rfl (G9 (v:=.int .u8 (bW .or .u8 224 ((by8 (IntKind.u8.wrap (a / 4096))).toNat:Int))) (I6.pure rfl) (C6n)) ?_
  refine gc 5 [0] rfl (A7o rfl) fun _=>?_
  refine gc 7 [0] rfl (A7o rfl) fun _=>?_
  refine go 8 [0] rfl (C1 (c:=cG) (xs:=([(by8 (bW .or .u8 224 ((by8 (IntKind.u8.wrap (a / 4096))).toNat:Int))),(O3 6 a),(O3 0 a)]:List UInt8)) A6n rfl rfl rfl oki) fun g=>?_
  have:([(by8 (bW .or .u8 224 ((by8 (IntKind.u8.wrap (a / 4096))).toNat:Int))),(O3 6 a),(O3 0 a)]:List UInt8).length=3:=rfl
  refine go 9 [0] rfl (Det.tri (I6.det (C3o Tryz.underlying9 Tryz.underlying103 rfl rfl (B8 0 rfl) rfl oki))) fun _=>?_
  have:([(by8 (bW .or .u8 224 ((by8 (IntKind.u8.wrap (a / 4096))).toNat:Int))),(O3 6 a),(O3 0 a)]:List UInt8).length=3:=rfl
  refine hq1 [10] 2 rfl ?_
  refine ge ?_
  subst hR
  refine A8 ?_
  exact G0 hr hD
 refine A4 (nx (zS [(13,[0])] ?_))
 refine hqV [4,6,8] [(43,.func (.func 227) #[] #[pt b 0]),(45,.func (.func 227) #[] #[pt b 0]),(47,.func (.func 227) #[] #[pt b 0])] ?_
 refine gl 0 [0] rfl (A2 (v:=iv a) cA rfl rfl 0 rfl rfl) ?_
 refine gk 1 rfl (U3 (c:=a / 262144) rfl rfl rfl ozw (by simp [Int.fdiv_eq_ediv_of_nonneg,IntKind.bits])) ?_
 refine gk 2 rfl (G9 (v:=.int .u8 (IntKind.u8.wrap (a / 262144))) (I6.pure rfl) (C0h)) ?_
 refine gk 3 rfl (G9 (v:=.int .u8 (bW .or .u8 240 ((by8 (IntKind.u8.wrap (a / 262144))).toNat:Int))) (I6.pure rfl) (C6n)) ?_
 refine gc 5 [0] rfl (A7o rfl) fun _=>?_
 refine gc 7 [0] rfl (A7o rfl) fun _=>?_
 refine gc 9 [0] rfl (A7o rfl) fun _=>?_
 refine go 10 [0] rfl (C1 (c:=cG) (xs:=([(by8 (bW .or .u8 240 ((by8 (IntKind.u8.wrap (a / 262144))).toNat:Int))),(O3 12 a),(O3 6 a),(O3 0 a)]:List UInt8)) A6n rfl rfl rfl oki) fun k=>?_
 have:([(by8 (bW .or .u8 240 ((by8 (IntKind.u8.wrap (a / 262144))).toNat:Int))),(O3 12 a),(O3 6 a),(O3 0 a)]:List UInt8).length=4:=rfl
 refine go 11 [0] rfl (Det.tri (I6.det (C3o Tryz.underlying9 Tryz.underlying103 rfl rfl (B8 0 rfl) rfl oki))) fun _=>?_
 have:([(by8 (bW .or .u8 240 ((by8 (IntKind.u8.wrap (a / 262144))).toNat:Int))),(O3 12 a),(O3 6 a),(O3 0 a)]:List UInt8).length=4:=rfl
 refine hq1 [12] 2 rfl ?_
 refine ge ?_
 subst hR
 refine A8 ?_
 exact G0 hr hD
def L8 (a:List UInt8) (s:List UInt8):List UInt8×Int :=
 ((a++s),(s.length:Int))
theorem W8 (a s:List UInt8):(L8 a s).1.length=a.length+s.length:=by simp [L8]
theorem ofv {p:Prop} (h:p:=by first|omega|(simp only [List.length_cons,List.length_nil,List.length_append,List.length_take,List.length_drop];omega)):p:=h
theorem A2x {a s:List UInt8} {e:Nat} {b:Option Addr} {bbufr:VR} {R:List UInt8×Int} (hR:L8 a s=R) (d:b=none∨b=some ⟨e,0,none⟩:=by exact bP) (c:bR 1 a.length bbufr:=by exact bP) (h:a.length+s.length≤140737488355328:=by exact bP):cI Tryz.prog 231 [pt e 0,sv s] (bx e [.pointer b,.slice (va bbufr.q) a.length bbufr.k] 270::((vo cG 5 bbufr a)++([]))) [] ({r:VR // bR 1 R.1.length r}) (fun x=>.tuple #[iv R.2,.nilIface]) (fun x=>(bx e [pt e 0,.slice (va x.1.q) R.1.length x.1.k] 270::((vo cG 5 x.1 R.1)++([])))) (fun x=>[]):=by
 refine bZ Tryz.func231 fun X hX hr hD=>?_
 replace hR:=(L8.eq_1 ..).symm.trans hR
 have:=bR.le c
 refine bN rfl (pp0 2 rfl (ie (bN rfl (bO 1 6 rfl ?_))))
 refine zc rfl (C6w e (.slice (va bbufr.q) a.length bbufr.k) b d) fun _=>?_
 refine ie (bN rfl (pl3 6 [0] 8 12 13 rfl (it rfl (B9m (r:=bbufr) (xs:=a) (s:=s) (pre:=[bx e [pt e 0,.slice (va bbufr.q) a.length bbufr.k] 270]) (post:=[]) C5q oki Tryz.underlying9 rfl rfl rfl rfl rfl rfl rfl c ofv) fun ⟨g,f⟩=>?_)))
 have:=@List.length_append _ a s
 have:=bR.le f
 have:=bR.cap f
 refine zru 3 [0] [] 0 (bx e [pt e 0,.slice (va g.q) ((a++s).length) g.k] 270) ?_
 refine ie (bN rfl (cJ 4 4 5 rfl ?_))
 subst hR
 refine ie (A8 ?_)
 exact cD hr hD (Q9 rfl (B0 rfl) (B0 rfl)) ⟨g,f⟩ bQ bT
def B0a:List Int→Nat→List UInt8→List UInt8
 | [],t8,bbuf=>bbuf
 | hd_l0::tl_l0,t8,bbuf=>(C2 (C0f hd_l0) fun (a:List UInt8)=>(C2 (L8 bbuf a) fun (b:List UInt8×Int)=>B0a tl_l0 (t8+1) b.1))
def C4c (a:List Int):List UInt8 :=
 B0a a 0 ([]:List UInt8)
theorem opv {p:Prop} (h:p:=by first|rfl|simp):p:=h
theorem odi {p:Prop} (h:p:=by first|omega|(simp only [List.length_append];omega)):p:=h
theorem olr {p:Prop} (h:p:=by (try dsimp only);omega):p:=h
theorem D9m {a:List Int} {g:Option Addr} {codesk:Nat} {R:List UInt8} (hR:C4c a=R) (p:a.length≤9223372036854775807:=by exact bP) (n:a.length≤codesk:=by exact bP) (hp:a.length≤1000000000:=by exact bP):J5 Tryz.prog 238 [.slice g a.length codesk] [sl J8 g a] (sv R):=by
 refine bZ Tryz.func238 fun X hX hr hD=>?_
 replace hR:=(C4c.eq_1 ..).symm.trans hR
 refine bN rfl (pp0 1 rfl (ie (bN rfl (zra 1 [] (fun j=>[(3,pt j 0)]) (fun _=>[.pointer none,.slice none 0 0]) 270 fun j=>(ie (A5 (bN rfl (pp3 3 6 7 8 rfl (ie (B2 (Q3 (H2 [vo cG 5 VR.nil ([]:List UInt8),[bx j [.pointer none,.slice none 0 0] 270]] [1,0] 2 rfl ozw rfl [[bx j [.pointer none,.slice none 0 0] 270],vo cG 5 VR.nil ([]:List UInt8)] rfl opv) ?_)))))))))))
 refine A4v (un fun (i:Nat)=>un fun (b:Option Addr)=>un fun (e:List UInt8) (d:VR)=>(i≤a.length∧B0a (a.drop i) i e=R∧(b=none∨b=some ⟨j,0,none⟩)∧bR 1 e.length d∧e.length≤4 * i,[(3,pt j 0),(6,.slice g a.length codesk),(7,iv (a.length:Int)),(8,iv (i:Int))],(bx j [.pointer b,.slice (va d.q) e.length d.k] 270::((vo cG 5 d e)++([]))),[sl J8 g a],a.length - i)) (0,none,([]:List UInt8),VR.nil) ⟨opx,hR,(.inl rfl),bR.nil,oom⟩ bQ A9.refl ?_
 rintro ⟨i,b,e,d⟩ ⟨x,hR,h,f,w⟩
 have:=bR.le f
 refine bN rfl (bO 1 9 rfl ?_)
 refine ie (A5 (X7 rfl (fun u=>?_) (fun u=>?_)))
 ·have o:=bU u
  rw [A1f 0 (show i<a.length by omega)] at hR;replace hR:=(B0a.eq_2 ..).symm.trans hR
  refine A4 (nx (A5 (B2 (bN rfl (L9 0 rfl opx fun a4 l=>(ix rfl (H9 L4 rfl rfl l rfl i rfl opx) (ix rfl (F2 cA rfl rfl (K2 (c:=J8) (sz:=1) l (fun _=>rfl) 0 rfl (gd 0 opx)) rfl) (bO 1 5 rfl (ie (A0 3 rfl (bO 1 12 rfl ?_)))))))))))
  have v:=C9 hR;clear hR;obtain ⟨z,s,hR⟩:=v
  refine zv rfl (D2i s) ?_
  have:=B9u (a.getD i 0);try rw [s] at this
  have v:=C9 hR;clear hR;obtain ⟨y,r,hR⟩:=v
  refine zc rfl (A2x r h f (by first|omega|(simp only [List.length_append,List.length_cons,List.length_nil,List.length_take,List.length_drop,List.length_set];omega)|(have t:=w.2 _ (List.mem_cons_self ..);unfold B1e at t;have a0:=w.1;simp only [List.length_append,List.length_cons,List.length_nil] at *;omega))) fun ⟨r6,m⟩=>?_
  have:=bR.le m
  have:=bR.cap m
  have:=W8 e z;try rw [r] at this
  refine A3 (nx (A0 2 rfl (ix rfl (B4 rfl rfl rfl rfl opx) (bO 1 8 rfl (A3 ?_)))))
  exact A0d (z1:=(i,b,e,d)) (i+1,some ⟨j,0,none⟩,y.1,r6) ⟨opx,hR,(.inr rfl),m,odi⟩ olr bQ A9.refl
 have o:=bU u
 rw [A2g o] at hR;replace hR:=(B0a.eq_1 ..).symm.trans hR
 refine G6 (nx (bN rfl (zc rfl (D7r j (.pointer b) e d f) fun _=>?_)))
 refine bO 1 2 rfl ?_
 subst hR
 refine ie (A8 ?_)
 exact G0 hr hD
def A5o (b:UInt8):Int :=
 (bif ((decide ((240:Int)≤(b.toNat:Int)))&&(decide ((b.toNat:Int)≤244))) then 4 else (bif ((decide ((224:Int)≤(b.toNat:Int)))&&(decide ((b.toNat:Int)<240))) then 3 else (bif ((decide ((194:Int)≤(b.toNat:Int)))&&(decide ((b.toNat:Int)<224))) then 2 else (bif (decide ((b.toNat:Int)<128)) then 1 else 0))))
theorem D1o (b:UInt8):A5o b≤4:=by
 unfold A5o;simp only [Bool.cond_eq_ite];repeat' split
 all_goals omega
theorem D3s {b:UInt8} {R:Int} (hR:A5o b=R):J5 Tryz.prog 332 [.int .u8 (b.toNat:Int)] [] (iv R):=by
 refine bZ Tryz.func332 fun X hX hr hD=>?_
 replace hR:=(A5o.eq_1 ..).symm.trans hR
 refine bN rfl (bO 1 2 rfl (ie (A5 (B2 (A5 (B2 (A5 (B2 (A5 (B2 (A5 (B2 (A5 (A5 (bN rfl (bO 3 6 rfl ?_))))))))))))))))
 refine zid 3 1 6 9 (decide ((b.toNat:Int)≤244)) (fun l g=>?_) ?_
 ·refine bO 3 9 rfl ?_
  exact A3 (O6 2 6 9 l bT bQ rfl rfl rfl rfl rfl)
 refine bO 1 3 rfl (ie ?_)
 refine zja rfl hR ?_ ?_<;>clear hR<;>intro hR m d
 ·refine G6 (nx (A0 3 rfl (bO 1 27 rfl ?_)))
  refine ix rfl (B4 (c:=1) rfl rfl rfl rfl ozw) (bO 1 2 rfl (A3 (nx (A0 3 rfl (bO 1 29 rfl (ix rfl (B4 (c:=2) rfl rfl rfl rfl ozw) (bO 1 2 rfl (A3 (nx (A0 3 rfl (bO 1 31 rfl (ix rfl (B4 (c:=3) rfl rfl rfl rfl ozw) ?_))))))))))))
  refine bO 1 2 rfl (A3 (nx (bN rfl (bO 1 33 rfl (ix rfl (B4 (c:=4) rfl rfl rfl rfl ozw) (bO 1 2 rfl (ie (G6 (nx (bN rfl (bO 2 2 rfl ?_)))))))))))
  subst hR
  refine ie (A8 ?_)
  exact G0 hr hD
 refine A4 (nx (A5 (bN rfl (bO 3 13 rfl ?_))))
 refine zid 3 1 13 16 (decide ((b.toNat:Int)<240)) (fun j f=>?_) ?_
 ·refine bO 3 16 rfl ?_
  exact A3 (O6 2 13 16 j bT bQ rfl rfl rfl rfl rfl)
 refine bO 1 10 rfl (ie ?_)
 refine zja rfl hR ?_ ?_<;>clear hR<;>intro hR p e
 ·refine G6 (nx (A0 3 rfl (bO 1 29 rfl ?_)))
  refine ix rfl (B4 (c:=1) rfl rfl rfl rfl ozw) (bO 1 2 rfl (A3 (nx (A0 3 rfl (bO 1 31 rfl (ix rfl (B4 (c:=2) rfl rfl rfl rfl ozw) (bO 1 2 rfl (A3 (nx (bN rfl (bO 1 33 rfl (ix rfl (B4 (c:=3) rfl rfl rfl rfl ozw) ?_))))))))))))
  refine bO 1 2 rfl (ie (G6 (nx (bN rfl (bO 2 2 rfl ?_)))))
  subst hR
  refine ie (A8 ?_)
  exact G0 hr hD
 refine A4 (nx (A5 (bN rfl (bO 3 20 rfl ?_))))
 refine zid 3 1 20 23 (decide ((b.toNat:Int)<224)) (fun h k=>?_) ?_
 ·refine bO 3 23 rfl ?_
  exact A3 (O6 2 20 23 h bT bQ rfl rfl rfl rfl rfl)
 refine bO 1 17 rfl (ie ?_)
 refine zja rfl hR ?_ ?_<;>clear hR<;>intro hR n a
 ·refine G6 (nx (A0 3 rfl (bO 1 31 rfl ?_)))
  refine ix rfl (B4 (c:=1) rfl rfl rfl rfl ozw) (bO 1 2 rfl (A3 (nx (bN rfl (bO 1 33 rfl (ix rfl (B4 (c:=2) rfl rfl rfl rfl ozw) (bO 1 2 rfl (ie (G6 (nx (bN rfl (bO 2 2 rfl ?_))))))))))))
  subst hR
  refine ie (A8 ?_)
  exact G0 hr hD
 refine A4 (nx (bN rfl (bO 3 24 rfl (ie ?_))))
 refine zjd rfl hR ?_ ?_<;>clear hR<;>intro hR o i
 ·refine G6 (nx (bN rfl (bO 1 33 rfl ?_)))
  refine ix rfl (B4 (c:=1) rfl rfl rfl rfl ozw) (bO 1 2 rfl (ie (G6 (nx (bN rfl (bO 2 2 rfl ?_))))))
  subst hR
  refine ie (A8 ?_)
  exact G0 hr hD
 refine A4 (nx (G6 (nx (bN rfl (bO 2 2 rfl ?_)))))
 subst hR
 refine ie (A8 ?_)
 exact G0 hr hD
def C2g (b:UInt8):UInt8×UInt8 :=
 (bif (decide ((b.toNat:Int)=224)) then ((160:UInt8),(191:UInt8)) else (bif (decide ((b.toNat:Int)=237)) then ((128:UInt8),(159:UInt8)) else (bif (decide ((b.toNat:Int)=240)) then ((144:UInt8),(191:UInt8)) else (bif (decide ((b.toNat:Int)=244)) then ((128:UInt8),(143:UInt8)) else ((128:UInt8),(191:UInt8))))))
theorem D5u {b:UInt8} {R:UInt8×UInt8} (hR:C2g b=R):J5 Tryz.prog 333 [.int .u8 (b.toNat:Int)] [] (.tuple #[.int .u8 (R.1.toNat:Int),.int .u8 (R.2.toNat:Int)]):=by
 refine bZ Tryz.func333 fun X hX hr hD=>?_
 replace hR:=(C2g.eq_1 ..).symm.trans hR
 refine bN rfl (pp0 2 rfl (ie (A5 (bN rfl (bO 1 4 rfl (ie (B2 (bN rfl (bO 2 5 rfl (ie ?_))))))))))
 refine zjd rfl hR ?_ ?_<;>clear hR<;>intro hR g a
 ·refine bN rfl (cJ 2 2 3 rfl ?_)
  subst hR
  refine ie (A8 ?_)
  exact B1g hr hD
 refine bN rfl (bO 2 7 rfl (ie ?_))
 refine zjd rfl hR ?_ ?_<;>clear hR<;>intro hR f c
 ·refine bN rfl (cJ 2 2 3 rfl ?_)
  subst hR
  refine ie (A8 ?_)
  exact B1g hr hD
 refine bN rfl (bO 2 9 rfl (ie ?_))
 refine zjd rfl hR ?_ ?_<;>clear hR<;>intro hR h e
 ·refine bN rfl (cJ 2 2 3 rfl ?_)
  subst hR
  refine ie (A8 ?_)
  exact B1g hr hD
 refine bN rfl (bO 2 11 rfl (ie ?_))
 refine zjd rfl hR ?_ ?_<;>clear hR<;>intro hR i d
 ·refine bN rfl (cJ 2 2 3 rfl ?_)
  subst hR
  refine ie (A8 ?_)
  exact B1g hr hD
 refine A4 (nx (bN rfl (cJ 2 2 3 rfl ?_)))
 subst hR
 refine ie (A8 ?_)
 exact B1g hr hD
def B0p (p:List UInt8):List UInt8→UInt8→UInt8→Nat→Int
 | [],low,high,t26=>(bif (decide ((p.length:Int)<(A5o (p.getD 0 0)))) then 1 else 2)
 | hd_l0::tl_l0,low,high,t26=>(bif ((decide ((hd_l0.toNat:Int)<(low.toNat:Int)))||(decide ((high.toNat:Int)<(hd_l0.toNat:Int)))) then 0 else B0p p tl_l0 (128:UInt8) (191:UInt8) (t26+1))
def A6q (p:List UInt8):Int :=
 (bif (decide ((A5o (p.getD 0 0))<(p.length:Int))) then 0 else (C2 (C2g (p.getD 0 0)) fun (a:UInt8×UInt8)=>B0p p (p.drop 1) a.1 a.2 0))
theorem D0b {p:List UInt8} (h:A6q p=1):p.length≤4:=by
 unfold A6q at h;have:=D1o (p.getD 0 0);revert h this;generalize p.getD 0 0=z;intro h this
 cases hc:decide (A5o z<(p.length:Int))<;>rw [hc] at h<;>simp at h hc
 omega
theorem ofx {p:Prop} (h:p:=by first|rfl|omega|(simp only [List.length_take,List.length_drop];omega)|(simp;done)):p:=h
theorem C1w {p:List UInt8} {g:Option Addr} {pk:Nat} {R:Int} (hR:A6q p=R) (q:p.length≤9223372036854775807:=by exact bP) (r:p.length≤pk:=by exact bP) (hp:1≤p.length:=by exact bP):J5 Tryz.prog 324 [.slice g p.length pk] [sl cG g p] (iv R):=by
 refine bZ Tryz.func324 fun X hX hr hD=>?_
 replace hR:=(A6q.eq_1 ..).symm.trans hR
 refine bN rfl (pp0 1 rfl (ie (bN rfl (bO 1 8 rfl (L9 0 rfl opx fun z d=>(ix rfl (H9 A6n rfl rfl d rfl 0 rfl opx) (ix rfl (F2 ty5 rfl rfl (K2 (c:=cG) (sz:=1) d (fun _=>rfl) 0 rfl (gd 0 opx)) rfl) (zv rfl (D3s rfl) (bO 1 3 rfl ?_)))))))))
 refine ie (A5 (bN rfl (bO 4 15 rfl (ie ?_))))
 refine zjd rfl hR ?_ ?_<;>clear hR<;>intro hR x t
 ·refine bN rfl (bO 1 2 rfl ?_)
  subst hR
  refine ie (A8 ?_)
  exact G0 hr hD
 refine A4 (nx (bN rfl (bO 1 17 rfl (ix rfl (H9 A6n rfl rfl d rfl 0 rfl opx) (ix rfl (F2 ty5 rfl rfl (K2 (c:=cG) (sz:=1) d (fun _=>rfl) 0 rfl (gd 0 opx)) rfl) ?_)))))
 have u:=C9 hR;clear hR;obtain ⟨l,j,hR⟩:=u
 refine zv rfl (D5u j) (cJ 5 4 5 rfl (ie (A5 (bN rfl (bO 1 23 rfl (D7 (D5i (c:=cG) (sz:=1) (xs:=p) (B8 0 rfl) 1 pk (fun _=>rfl) opx opx) ?_))))))
 refine ix rfl (A9y (n':=(p.drop 1).length) A6n rfl rfl 1 p.length pk (A0i rfl rfl) A1n A1n opx opx opx ofx rfl) ?_
 have:=@List.length_drop _ 1 p
 refine cJ 2 25 26 rfl (ie (B2 (A4v (un fun (e:UInt8)=>un fun (b:UInt8) (a:Nat)=>(a≤(p.drop 1).length∧B0p p ((p.drop 1).drop a) e b a=R,[(0,.slice g p.length pk),(3,iv (A5o (p.getD 0 0))),(4,.int .u8 (e.toNat:Int)),(5,.int .u8 (b.toNat:Int)),(24,.slice (A9p g 1 1 pk) ((p.drop 1).length) (pk - 1)),(25,iv ((p.drop 1).length:Int)),(26,iv (a:Int))],[],[sl cG (A9p g 1 1 pk) (p.drop 1),sl cG g p],(p.drop 1).length - a)) (l.1,l.2,0) ⟨opx,hR⟩ bQ A9.refl ?_)))
 rintro ⟨e,b,a⟩ ⟨o,hR⟩
 refine bN rfl (bO 1 27 rfl ?_)
 refine ie (A5 (X7 rfl (fun i=>?_) (fun i=>?_)))
 ·have h:=bU i
  rw [A1f 0 (show a<(p.drop 1).length by omega)] at hR;replace hR:=(B0p.eq_2 ..).symm.trans hR
  refine A4 (nx (A5 (B2 (bN rfl (L9 0 rfl opx fun w f=>(ix rfl (H9 A6n rfl rfl f rfl a rfl opx) (ix rfl (F2 ty5 rfl rfl (K2 (c:=cG) (sz:=1) f (fun _=>rfl) 0 rfl (gd 0 opx)) rfl) (bO 1 7 rfl (ie (A5 (bN rfl (bO 4 33 rfl ?_))))))))))))
  refine zir 4 0 33 37 (decide ((b.toNat:Int)<(((p.drop 1).getD a 0).toNat:Int))) (fun m n=>?_) ?_
  ·refine bO 4 37 rfl ?_
   exact zai 2 33 37 m
  refine ie ?_
  refine zjo rfl hR ?_ ?_<;>clear hR<;>intro hR y s
  ·refine bN rfl (bO 1 2 rfl ?_)
   subst hR
   refine ie (A8 ?_)
   exact G0 hr hD
  refine A4 (nx (A0 2 rfl (cJ 2 4 5 rfl (A3 (nx (A0 2 rfl (ix rfl (B4 rfl rfl rfl rfl opx) (bO 1 26 rfl (A3 ?_)))))))))
  exact A0d (z1:=(e,b,a)) ((128:UInt8),(191:UInt8),a+1) ⟨opx,hR⟩ olr bQ A9.refl
 have h:=bU i
 rw [A2g h] at hR;replace hR:=(B0p.eq_1 ..).symm.trans hR
 refine G6 (nx (A5 (bN rfl (bO 4 42 rfl ?_))))
 refine ie ?_
 refine zjd rfl hR ?_ ?_<;>clear hR<;>intro hR v k
 ·refine bN rfl (bO 1 2 rfl ?_)
  subst hR
  refine ie (A8 ?_)
  exact G0 hr hD
 refine A4 (nx (bN rfl (bO 1 2 rfl ?_)))
 subst hR
 refine ie (A8 ?_)
 exact G0 hr hD
def A4r (pending:List UInt8):Bool :=
 ((decide ((pending.length:Int)=0))||(decide ((A6q pending)=1)))
theorem C7j {pending:List UInt8} {pendingq:Option Addr} {pendingk:Nat} {R:Bool} (hR:A4r pending=R) (b:pending.length≤9223372036854775807:=by exact bP) (a:pending.length≤pendingk:=by exact bP):J5 Tryz.prog 323 [.slice pendingq pending.length pendingk] [sl cG pendingq pending] (bv R):=by
 refine bZ Tryz.func323 fun X hX hr hD=>?_
 replace hR:=(A4r.eq_1 ..).symm.trans hR
 refine bN rfl (pp0 1 rfl (ie (bN rfl (bO 4 6 rfl ?_))))
 refine zir 4 1 6 10 (decide ((A6q pending)=1)) (fun c d=>?_) ?_
 ·refine bO 1 7 rfl (zv rfl (C1w rfl) (bO 2 10 rfl ?_))
  exact zai 4 6 10 c
 refine bO 1 2 rfl ?_
 subst hR
 refine ie (A8 ?_)
 exact G0 hr hD
def B0i:List UInt8→Int→Nat→Int
 | [],cp1,t22=>cp1
 | hd_l0::tl_l0,cp1,t22=>B0i tl_l0 (bW .or .i64 (IntKind.i64.wrap (cp1 * 64)) ((by8 (bW .and .u8 (hd_l0.toNat:Int) 63)).toNat:Int)) (t22+1)
def B4l (p:List UInt8) (cp:Int):Int :=
 B0i (p.drop 1) cp 0
def B0f (p:List UInt8):Int :=
 (bif (decide ((1:Int)<(p.length:Int))) then B4l p (bW .and .i64 ((p.getD 0 0).toNat:Int) (Int.fdiv (255:Int) (2 ^ (min (((p.length:Int)+1)).toNat 64)))) else B4l p ((p.getD 0 0).toNat:Int))
theorem C9z {p:List UInt8} {f:Option Addr} {pk:Nat} {R:Int} (hR:B0f p=R) (k:p.length≤9223372036854775807:=by exact bP) (l:p.length≤pk:=by exact bP) (r:1≤p.length:=by exact bP) (m:p.length≤1000000:=by exact bP):J5 Tryz.prog 325 [.slice f p.length pk] [sl cG f p] (iv R):=by
 refine bZ Tryz.func325 fun X hX hr hD=>?_
 replace hR:=(B0f.eq_1 ..).symm.trans hR
 refine bN rfl (pp0 1 rfl (ie (bN rfl (bO 1 6 rfl (L9 0 rfl opx fun q e=>(ix rfl (H9 A6n rfl rfl e rfl 0 rfl opx) (ix rfl (F2 ty5 rfl rfl (K2 (c:=cG) (sz:=1) e (fun _=>rfl) 0 rfl (gd 0 opx)) rfl) (ix rfl (B2l (c:=((p.getD 0 0).toNat:Int)) Tryz.underlying3 oki rfl rfl (B0c (p.getD 0 0))) (bO 1 3 rfl ?_)))))))))
 refine ie (A9c (fun (cp:Int)=>(B4l p cp=R,[(0,.slice f p.length pk),(3,iv cp)],[],[sl cG f p])) ?_ ?_)
 ·refine bN rfl (bO 3 12 rfl (ie ?_))
  refine zjd rfl hR ?_ ?_<;>clear hR<;>intro hR n i
  ·refine A0 7 rfl (cJ 3 13 15 rfl (ix rfl (B4 rfl rfl rfl rfl opx) (ix rfl (U3 rfl rfl rfl opx rfl) (bO 2 3 rfl (A3 ?_)))))
   exact X5 (bW .and .i64 ((p.getD 0 0).toNat:Int) (Int.fdiv (255:Int) (2 ^ (min (((p.length:Int)+1)).toNat 64)))) hR bQ A9.refl
  refine A4 ?_
  exact X5 ((p.getD 0 0).toNat:Int) hR bQ A9.refl
 intro cp
 rintro hR
 replace hR:=(B4l.eq_1 ..).symm.trans hR
 refine A5 (bN rfl (bO 1 19 rfl ?_))
 refine D7 (D5i (c:=cG) (sz:=1) (xs:=p) (B8 0 rfl) 1 pk (fun _=>rfl) opx opx) ?_
 refine ix rfl (A9y (n':=(p.drop 1).length) A6n rfl rfl 1 p.length pk (A0i rfl rfl) A1n A1n opx opx opx ofx rfl) ?_
 have:=@List.length_drop _ 1 p
 refine cJ 2 21 22 rfl (ie (B2 (A4v (un fun (b:Int) (a:Nat)=>(a≤(p.drop 1).length∧B0i ((p.drop 1).drop a) b a=R,[(3,iv b),(20,.slice (A9p f 1 1 pk) ((p.drop 1).length) (pk - 1)),(21,iv ((p.drop 1).length:Int)),(22,iv (a:Int))],[],[sl cG (A9p f 1 1 pk) (p.drop 1),sl cG f p],(p.drop 1).length - a)) (cp,0) ⟨opx,hR⟩ bQ A9.refl ?_)))
 rintro ⟨b,a⟩ ⟨j,hR⟩
 refine bN rfl (bO 1 23 rfl ?_)
 refine ie (A5 (X7 rfl (fun h=>?_) (fun h=>?_)))
 ·have g:=bU h
  rw [A1f 0 (show a<(p.drop 1).length by omega)] at hR;replace hR:=(B0i.eq_2 ..).symm.trans hR
  refine A4 (nx (A5 (B2 (bN rfl (L9 0 rfl opx fun o d=>(ix rfl (H9 A6n rfl rfl d rfl a rfl opx) (ix rfl (F2 ty5 rfl rfl (K2 (c:=cG) (sz:=1) d (fun _=>rfl) 0 rfl (gd 0 opx)) rfl) (bO 1 5 rfl (ie (A0 7 rfl (bO 1 26 rfl ?_)))))))))))
  refine ix rfl (B4m (c:=(IntKind.i64.wrap (b * 64))) rfl rfl rfl ozw (by simp [IntKind.bits])) (bO 1 28 rfl (ix rfl (G9 (v:=.int .u8 (bW .and .u8 (((p.drop 1).getD a 0).toNat:Int) 63)) (I6.pure rfl) (C6n)) (ix rfl (B2l (c:=((by8 (bW .and .u8 (((p.drop 1).getD a 0).toNat:Int) 63)).toNat:Int)) Tryz.underlying3 oki rfl rfl (B0c (by8 (bW .and .u8 (((p.drop 1).getD a 0).toNat:Int) 63)))) (bO 2 3 rfl (A3 (nx (A0 2 rfl (ix rfl (B4 rfl rfl rfl rfl opx) (bO 1 22 rfl ?_)))))))))
  refine A3 ?_
  exact A0d (z1:=(b,a)) ((bW .or .i64 (IntKind.i64.wrap (b * 64)) ((by8 (bW .and .u8 (((p.drop 1).getD a 0).toNat:Int) 63)).toNat:Int)),a+1) ⟨opx,hR⟩ olr bQ A9.refl
 have g:=bU h
 rw [A2g g] at hR;replace hR:=(B0i.eq_1 ..).symm.trans hR
 refine G6 (nx (bN rfl (bO 2 2 rfl ?_)))
 subst hR
 refine ie (A8 ?_)
 exact G0 hr hD
def B7f:Bool :=
 true
theorem D5s {R:Bool} (hR:B7f=R):J5 Tryz.prog 323 [.slice none 0 0] [] (bv R):=by
 refine bZ Tryz.func323 fun X hX hr hD=>?_
 replace hR:=(B7f.eq_1 ..).symm.trans hR
 refine bN rfl (pp0 1 rfl (ie (bN rfl (bO 9 2 rfl ?_))))
 subst hR
 refine ie (A8 ?_)
 exact G0 hr hD
def A3s (b:UInt8):List UInt8×List Int :=
 (bif (decide ((A6q (([]:List UInt8)++([b]:List UInt8)))=2)) then (([]:List UInt8),([(B0f (([]:List UInt8)++([b]:List UInt8)))]:List Int)) else (bif (decide ((A6q (([]:List UInt8)++([b]:List UInt8)))=1)) then ((([]:List UInt8)++([b]:List UInt8)),([]:List Int)) else (([]:List UInt8),([65533]:List Int))))
def A7l (b:UInt8):List UInt8×List Int :=
 (bif (!B7f) then A3s b else A3s b)
theorem C1n (b:UInt8):(A7l b).1.length≤4∧(A7l b).2.length≤1:=by
 have a:(A3s b).1.length≤4∧(A3s b).2.length≤1:=by
  unfold A3s;simp only [Bool.cond_eq_ite];repeat' split
  all_goals simp
 unfold A7l;cases (!B7f)<;>exact a
theorem D8r {b:UInt8} {R:List UInt8×List Int} (hR:A7l b=R) (m:([]:List Unit).length≤1000:=by exact bP):cI Tryz.prog 313 [.slice none 0 0,.int .u8 (b.toNat:Int)] [] [] ({t:Option Addr×Nat // R.1.length≤t.2∧R.1.length≤9223372036854775807}×{t:Option Addr×Nat // R.2.length≤t.2∧R.2.length≤9223372036854775807}) (fun x=>.tuple #[.slice x.1.1.1 R.1.length x.1.1.2,.slice x.2.1.1 R.2.length x.2.1.2]) (fun x=>[]) (fun x=>[sl cG x.1.1.1 R.1,sl J8 x.2.1.1 R.2]):=by
 refine bZ Tryz.func313 fun X hX hr hD=>?_
 replace hR:=(A7l.eq_1 ..).symm.trans hR
 refine bN rfl (pp0 2 rfl ?_)
 refine ie (A9c (fun (_:Unit)=>(A3s b=R,[(0,.slice none 0 0),(1,.int .u8 (b.toNat:Int))],[],[])) ?_ ?_)
 ·refine bN rfl (bO 1 7 rfl (zv rfl (D5s rfl) (bO 1 9 rfl (ie ?_))))
  refine zjb rfl hR ?_ ?_<;>clear hR<;>intro hR n
  ·refine A0 1 rfl (bO 1 0 rfl (A3 ?_))
   exact X5 () hR bQ bT
  refine A4 ?_
  exact X5 () hR bQ bT
 intro _
 rintro hR
 replace hR:=(A3s.eq_1 ..).symm.trans hR
 refine bN rfl (pp3 5 10 12 14 rfl (ix rfl (A9y A6n rfl rfl 0 0 0 A1n (A0i rfl rfl) (A0i rfl rfl) ozw ozw ozw (n':=0) rfl rfl) (bO 1 16 rfl (it rfl (C1 (c:=cG) (xs:=([b]:List UInt8)) A6n rfl rfl rfl oki) fun l=>?_))))
 have:([b]:List UInt8).length=1:=rfl
 refine it rfl (A0f (f:=cG) (r:=VR.nil) (xs:=([]:List UInt8)) (ys:=([b]:List UInt8)) (pre:=[]) (post:=[]) C5q (fun _=>rfl) (fun _=>rfl) rfl rfl rfl rfl rfl rfl rfl rfl rfl (B8 0 rfl) bR.nil ofv ofv) fun ⟨d,a⟩=>?_
 have:=bR.le a
 have:=bR.cap a
 refine A3t [] [] (T:=5) (c:=cG) (r:=d) (xs:=(([]:List UInt8)++([b]:List UInt8))) a opv ?_
 refine bO 1 6 rfl (ie (A5 (bN rfl (bO 1 19 rfl (zv rfl (C1w rfl) (ie (B2 (bN rfl (bO 2 21 rfl (ie ?_))))))))))
 refine zjd rfl hR ?_ ?_<;>clear hR<;>intro hR j h
 ·refine bN rfl (bO 1 23 rfl (zv rfl (C9z rfl) (it rfl (C1 (c:=J8) (xs:=([(B0f (([]:List UInt8)++([b]:List UInt8)))]:List Int)) L4 rfl rfl rfl oki) fun i=>?_)))
  have:([(B0f (([]:List UInt8)++([b]:List UInt8)))]:List Int).length=1:=rfl
  refine cJ 2 4 5 rfl ?_
  subst hR
  refine ie (A8 ?_)
  exact cD hr hD (Q9 rfl (B0 rfl) (B0 rfl)) ((zq none 0),(zq (some ⟨i,0,none⟩) 1)) bQ c9
 refine bN rfl (bO 2 26 rfl (ie ?_))
 refine zjd rfl hR ?_ ?_<;>clear hR<;>intro hR o g
 ·refine bN rfl (cJ 3 4 5 rfl ?_)
  subst hR
  refine ie (A8 ?_)
  exact cD hr hD (Q9 rfl (B0 rfl) (B0 rfl)) ((zq (va d.q) d.k),(zq none 0)) bQ c9
 refine A4 (nx (A5 (bN rfl (bO 3 31 rfl (ie (J9 rfl (bN rfl (it rfl (C1 (c:=J8) (xs:=([65533]:List Int)) L4 rfl rfl rfl oki) fun e=>?_))))))))
 have:([65533]:List Int).length=1:=rfl
 refine cJ 2 4 5 rfl ?_
 subst hR
 refine ie (A8 ?_)
 exact cD hr hD (Q9 rfl (B0 rfl) (B0 rfl)) ((zq none 0),(zq (some ⟨e,0,none⟩) 1)) bQ c9
def A5n (b:UInt8) (a:List UInt8):List UInt8×List Int :=
 (bif (decide ((A6q (a++([b]:List UInt8)))=2)) then (([]:List UInt8),([(B0f (a++([b]:List UInt8)))]:List Int)) else (bif (decide ((A6q (a++([b]:List UInt8)))=1)) then ((a++([b]:List UInt8)),([]:List Int)) else (bif (decide ((a.length:Int)=0)) then (([]:List UInt8),([65533]:List Int)) else ((A7l b).1,(([65533]:List Int)++(A7l b).2)))))
def M2 (pending:List UInt8) (b:UInt8):List UInt8×List Int :=
 (bif (!(A4r pending)) then A5n b ([]:List UInt8) else A5n b pending)
theorem C4f (p:List UInt8) (b:UInt8):(M2 p b).1.length≤4∧(M2 p b).2.length≤2:=by
 have a:∀ q,(A5n b q).1.length≤4∧(A5n b q).2.length≤2:=by
  intro q;unfold A5n;simp only [Bool.cond_eq_ite];have:=C1n b;repeat' split
  all_goals simp
  ·rename_i h;have:=D0b (by simpa using h);simpa using this
  ·omega
 unfold M2;cases (!(A4r p))<;>exact a _
theorem okl {p:Prop} (h:p:=by first|omega|(simp only [List.length_take,List.length_drop,List.length_append,List.length_cons,List.length_nil,List.length_set,List.length_map];omega)|decide):p:=h
theorem osj {p:Prop} (h:p:=by first|omega|(simp only [List.length_nil];omega)):p:=h
theorem D9s {pending:List UInt8} {b:UInt8} {pendingq:Option Addr} {pendingk:Nat} {R:List UInt8×List Int} (hR:M2 pending b=R) (j:pending.length≤9223372036854775807:=by exact bP) (i:pending.length≤pendingk:=by exact bP) (hp:pending.length≤1000:=by exact bP):cI Tryz.prog 313 [.slice pendingq pending.length pendingk,.int .u8 (b.toNat:Int)] [] [sl cG pendingq pending] ({t:Option Addr×Nat // R.1.length≤t.2∧R.1.length≤9223372036854775807}×{t:Option Addr×Nat // R.2.length≤t.2∧R.2.length≤9223372036854775807}) (fun x=>.tuple #[.slice x.1.1.1 R.1.length x.1.1.2,.slice x.2.1.1 R.2.length x.2.1.2]) (fun x=>[]) (fun x=>[sl cG x.1.1.1 R.1,sl J8 x.2.1.1 R.2]):=by
 refine bZ Tryz.func313 fun X hX hr hD=>?_
 replace hR:=(M2.eq_1 ..).symm.trans hR
 refine bN rfl (pp0 2 rfl ?_)
 refine ie (A9c (un fun (a:List UInt8)=>un fun (e:Option Addr) (d:Nat)=>(A5n b a=R∧a.length≤d∧a.length≤9223372036854775807∧a.length≤1000,[(0,.slice e a.length d),(1,.int .u8 (b.toNat:Int))],[],[sl cG pendingq pending,sl cG e a])) ?_ ?_)
 ·refine bN rfl (bO 1 7 rfl (zv rfl (C7j rfl) (bO 1 9 rfl (ie ?_))))
  refine zjb rfl hR ?_ ?_<;>clear hR<;>intro hR h1
  ·refine A0 1 rfl (bO 1 0 rfl (A3 ?_))
   exact X5 (([]:List UInt8),none,0) ⟨hR,okl,okl,osj⟩ bQ c9
  refine A4 ?_
  exact X5 (pending,pendingq,pendingk) ⟨hR,okl,okl,osj⟩ bQ c9
 rintro ⟨a,e,d⟩
 rintro ⟨hR,h,g,hj⟩
 replace hR:=(A5n.eq_1 ..).symm.trans hR
 refine bN rfl (pp3 5 10 12 14 rfl (ix rfl (C5c (n':=a.length) A6n rfl rfl a.length a.length (A0i rfl rfl) (A0i rfl rfl) opx opx (by first|rfl|omega) rfl) (bO 1 16 rfl (it rfl (C1 (c:=cG) (xs:=([b]:List UInt8)) A6n rfl rfl rfl oki) fun b2=>?_))))
 have:([b]:List UInt8).length=1:=rfl
 refine it rfl (D6s (f:=cG) (xs:=a) (ys:=([b]:List UInt8)) C5q (fun _=>rfl) (fun _=>rfl) rfl rfl rfl rfl rfl rfl opx opx (by rfl) (B8 2 rfl) (B8 0 rfl) ofv ofv) fun ⟨⟨q3,k4⟩,y⟩=>?_
 refine bO 1 6 rfl (ie (A5 (bN rfl (bO 1 19 rfl (zv rfl (C1w rfl) (ie (B2 (bN rfl (bO 2 21 rfl (ie ?_))))))))))
 refine zjd rfl hR ?_ ?_<;>clear hR<;>intro hR h6 a0
 ·refine bN rfl (bO 1 23 rfl (zv rfl (C9z rfl) (it rfl (C1 (c:=J8) (xs:=([(B0f (a++([b]:List UInt8)))]:List Int)) L4 rfl rfl rfl oki) fun z=>?_)))
  have:([(B0f (a++([b]:List UInt8)))]:List Int).length=1:=rfl
  refine cJ 2 4 5 rfl ?_
  subst hR
  refine ie (A8 ?_)
  exact cD hr hD (Q9 rfl (B0 rfl) (B0 rfl)) ((zq none 0),(zq (some ⟨z,0,none⟩) 1)) bQ c9
 refine bN rfl (bO 2 26 rfl (ie ?_))
 refine zjd rfl hR ?_ ?_<;>clear hR<;>intro hR h8 a4
 ·refine bN rfl (cJ 3 4 5 rfl ?_)
  subst hR
  refine ie (A8 ?_)
  exact cD hr hD (Q9 rfl (B0 rfl) (B0 rfl)) ((zq q3 k4),(zq none 0)) bQ c9
 refine A4 (nx (A5 (bN rfl (bO 3 31 rfl (ie ?_)))))
 refine zjd rfl hR ?_ ?_<;>clear hR<;>intro hR h9 a6
 ·refine bN rfl (it rfl (C1 (c:=J8) (xs:=([65533]:List Int)) L4 rfl rfl rfl oki) fun p=>?_)
  have:([65533]:List Int).length=1:=rfl
  refine cJ 2 4 5 rfl ?_
  subst hR
  refine ie (A8 ?_)
  exact cD hr hD (Q9 rfl (B0 rfl) (B0 rfl)) ((zq none 0),(zq (some ⟨p,0,none⟩) 1)) bQ c9
 refine A4 (nx (bN rfl (bO 1 34 rfl ?_)))
 refine zc rfl (D8r rfl) fun ⟨⟨⟨r,n⟩,k⟩,⟨⟨a3,a1⟩,l⟩⟩=>?_
 obtain ⟨v,w⟩:=k
 obtain ⟨s,u⟩:=l
 have:=C1n b
 refine cJ 5 4 5 rfl (ie (bN rfl (bO 1 38 rfl (it rfl (C1 (c:=J8) (xs:=([65533]:List Int)) L4 rfl rfl rfl oki) fun a7=>?_))))
 have:([65533]:List Int).length=1:=rfl
 refine bO 1 40 rfl (it rfl (D6s (f:=J8) (xs:=([65533]:List Int)) (ys:=(A7l b).2) E6j (fun _=>rfl) (fun _=>rfl) rfl rfl rfl rfl rfl rfl opx opx (by rfl) (B8 0 rfl) (B8 2 rfl) ofv ofv) fun ⟨⟨o,m⟩,q⟩=>?_)
 refine cJ 2 4 5 rfl ?_
 subst hR
 refine ie (A8 ?_)
 exact cD hr hD (Q9 rfl (B0 rfl) (B0 rfl)) ((zq r n),(zq o m)) bQ c9
def C6i (pending:List UInt8):List Int :=
 (bif ((decide ((0:Int)<(pending.length:Int)))&&(A4r pending)) then ([65533]:List Int) else ([]:List Int))
theorem C7k (p:List UInt8):C6i p=(bif (decide (0<(p.length:Int))&&A4r p) then [65533] else []):=rfl
theorem C6z {pending:List UInt8} {pendingq:Option Addr} {pendingk:Nat} {R:List Int} (hR:C6i pending=R) (a:pending.length≤9223372036854775807:=by exact bP) (b:pending.length≤pendingk:=by exact bP) (i:pending.length≤1000:=by exact bP):cI Tryz.prog 314 [.slice pendingq pending.length pendingk] [] [sl cG pendingq pending] ({t:Option Addr×Nat // R.length≤t.2∧R.length≤9223372036854775807}) (fun x=>.slice x.1.1 R.length x.1.2) (fun x=>[]) (fun x=>[sl J8 x.1.1 R]):=by
 refine bZ Tryz.func314 fun X hX hr hD=>?_
 replace hR:=(C6i.eq_1 ..).symm.trans hR
 refine bN rfl (pp0 1 rfl (ie (A5 (bN rfl (bO 4 6 rfl ?_)))))
 refine zid 3 0 6 9 (A4r pending) (fun h g=>?_) ?_
 ·refine bO 1 7 rfl (zv rfl (C7j rfl) (bO 1 9 rfl ?_))
  exact zai 4 6 9 h
 refine ie ?_
 refine zjb rfl hR ?_ ?_<;>clear hR<;>intro hR e
 ·have d:=bU e
  refine bN rfl (it rfl (C1 (c:=J8) (xs:=([65533]:List Int)) L4 rfl rfl rfl oki) fun f=>?_)
  have:([65533]:List Int).length=1:=rfl
  refine bO 1 2 rfl ?_
  subst hR
  refine ie (A8 ?_)
  exact cD hr hD (N4 rfl (B0 rfl)) (zq (some ⟨f,0,none⟩) 1) bQ c9
 have d:=bU e
 refine A4 (nx (bN rfl (bO 1 2 rfl ?_)))
 subst hR
 refine ie (A8 ?_)
 exact cD hr hD (N4 rfl (B0 rfl)) (zq none 0) bQ c9
def A1e (s:List UInt8):List UInt8 :=
 s
theorem E0s {s R:List UInt8} (hR:A1e s=R):cI Tryz.prog 282 [sv s] [] [] (Addr) (fun x=>.func (.func 312) #[] #[pa x]) (fun x=>[]) (fun x=>[at_ x [sv R]]):=by
 refine bZ Tryz.func282 fun X hX hr hD=>?_
 replace hR:=(A1e.eq_1 ..).symm.trans hR
 refine bN rfl (it rfl (A2t (cs:=[sv s]) rfl rfl rfl) fun a=>?_)
 refine A6m 0 rfl ?_
 refine pp0 1 rfl (ie (bN rfl (ip' 2 0 [(2,.func (.func 312) #[] #[pa ⟨a,0,none⟩])] ?_)))
 subst hR
 refine ie (A8 ?_)
 exact cD hr hD (N4 rfl (B0 rfl)) ⟨a,0,none⟩ bQ c9
def A0u (c0:List UInt8) (pending:List UInt8) (c:Nat) (a:List UInt8→Nat→List Int):List Int→Nat→List Int
 | [],t27=>a ((M2 pending (c0.getD c 0)).1) (c+1)
 | b::tl_l4,t27=>(b::A0u c0 pending c a tl_l4 (t27+1))
def Y7 (c0:List UInt8):List UInt8→List UInt8→Nat→List Int
 | [],pending,t13=>(bif (decide (0<(pending.length:Int))&&A4r pending) then ((([65533]:List Int).getD 0 0)::[]) else [])
 | hd_l3::tl_l3,pending,t13=>A0u c0 pending t13 (Y7 c0 tl_l3) ((M2 pending hd_l3).2) 0
def B3o (c0:List UInt8):List Int :=
 Y7 c0 c0 ([]:List UInt8) 0
theorem B4w (c0 pending:List UInt8) (a:Nat) (ag:List UInt8→Nat→List Int):∀ (l:List Int) (t:Nat),(A0u c0 pending a ag l t).length=l.length+(ag ((M2 pending (c0.getD a 0)).1) (a+1)).length
 | [],t=>by simp [A0u]
 | x::l,t=>by simp only [A0u,List.length_cons,B4w c0 pending a ag l];omega
theorem B4t (c0:List UInt8):∀ (s p:List UInt8) (t:Nat),(Y7 c0 s p t).length≤2 * s.length+1
 | [],p,t=>by
  simp only [Y7]
  generalize (decide (0<(p.length:Int))&&A4r p)=b
  cases b<;>simp
 | x::s,p,t=>by
  simp only [Y7,B4w,List.length_cons]
  have:=(C4f p x).2;have:=B4t c0 s (M2 p (c0.getD t 0)).1 (t+1);omega
theorem B9o (s:List UInt8):(B3o s).length≤2 * s.length+1:=B4t s s [] 0
theorem owk {p:Prop} (h:p:=by first|omega|(simp only [List.length_take,List.length_drop,List.length_append,List.length_cons,List.length_nil,List.length_set,List.length_map,A1e];omega)|decide):p:=h
theorem oxs {p:Prop} (h:p:=by first|rfl|(simp only [List.length_set]<;>rfl)):p:=h
theorem ooa {p:Prop} (h:p:=by simp only [List.flatten_cons,List.flatten_nil,List.append_nil,List.cons_append,List.nil_append,List.append_assoc]):p:=h
theorem D4f (c0:List UInt8) (f:Addr) (hs:c0.length≤1000000000) (R:List Int) (hR:B3o c0=R):C8k Tryz.prog 312 [pa f] [at_ f [sv c0]] (fun x=>iv x) R:=by
 refine E3w (n:=48) Tryz.func312 rfl oki rfl rfl (fun l=>[(0,.func (.yield l) #[] #[]),(1,pa f)]) (fun l=>⟨rfl,rfl,trivial⟩) fun X l I Ix L Φ hX hr hD hI0 hY=>?_
 replace hR:=(B3o.eq_1 ..).symm.trans hR
 refine sr 1 rfl (ip' 1 0 [(3,.slice none 0 0)] (ie (A5 (sr 3 rfl (ix rfl (F2 (v:=sv c0) (us:=[sv c0]) ty9 rfl rfl (B8 0 rfl) rfl) (ip' 2 0 [(12,iv (c0.length:Int)),(13,iv 0)] (ie (B2 ?_))))))))
 refine F5p (fun (pending:List UInt8) (pendingq:Option Addr) (pendingk:Nat) (a:Nat) (R_:List Int) (Lt:Fen.Own) (Ft:List Pers)=>(a≤c0.length∧Y7 c0 (c0.drop a) pending a=R_∧pending.length≤pendingk∧pending.length≤9223372036854775807∧I R_ Lt Ft∧pending.length≤1000,[(0,.func (.yield l) #[] #[]),(1,pa f),(3,.slice pendingq pending.length pendingk),(12,iv (c0.length:Int)),(13,iv (a:Int))],(Lt++([])),(at_ f [sv c0]::sl cG pendingq pending::Ft),c0.length - a)) ([]:List UInt8) none 0 0 R L Φ ⟨opx,hR,owk,owk,hI0,oom⟩ (mc [L] [true] rfl oxs) (A9.con1 (B8 0 rfl) (A9.con1 B7s (A9.dropT 1 rfl))) ?_
 rintro pending pendingq pendingk a R_ Lt Ft ⟨ah,hR,t,u,j,hp⟩
 refine sr 1 rfl (ip' 1 0 [(14,bv (decide ((a:Int)<(c0.length:Int))))] ?_)
 refine ie (A5 (X7 rfl (fun h2=>?_) (fun h2=>?_)))
 ·have a0:(a:Int)<(c0.length:Int):=by simpa using h2
  rw [A1f 0 (show a<c0.length by omega)] at hR;replace hR:=(Y7.eq_2 ..).symm.trans hR
  refine A4 (nx (A5 (B2 (sr 2 rfl (ip' 2 0 [(4,iv (a:Int))] (ie (sr 10 rfl (ip' 1 9 [(17,.slice pendingq pending.length pendingk)] (ix rfl (F2 (v:=sv c0) (us:=[sv c0]) ty9 rfl rfl (B8 0 rfl) rfl) (ip' 1 7 [(19,iv (a:Int))] (ix rfl (B9a (T:=9) Tryz.underlying9 rfl rfl rfl a rfl opx) ?_)))))))))))
  refine zcm (D9s (pending:=pending) (b:=(c0.getD a 0)) (pendingq:=pendingq) (pendingk:=pendingk) rfl) (A9.cons (B8 1 rfl) bT) fun ⟨⟨⟨y,k4⟩,a7⟩,⟨⟨z,k9⟩,a3⟩⟩=>?_
  obtain ⟨ad,af⟩:=a7
  obtain ⟨ac,ab⟩:=a3
  have:=C4f pending (c0.getD a 0)
  refine ip' 5 0 [(5,.slice y (((M2 pending (c0.getD a 0)).1).length) k4),(6,.slice z (((M2 pending (c0.getD a 0)).2).length) k9)] (ie (sr 2 rfl (ip' 2 0 [(3,.slice y (((M2 pending (c0.getD a 0)).1).length) k4)] (ie (sr 3 rfl (ip' 3 0 [(25,.slice z (((M2 pending (c0.getD a 0)).2).length) k9),(26,iv (((M2 pending (c0.getD a 0)).2).length:Int)),(27,iv 0)] (ie (B2 ?_))))))))
  refine F2m (fun (d:Nat) (R_1:List Int) (Lt1:Fen.Own) (Ft1:List Pers)=>(d≤((M2 pending (c0.getD a 0)).2).length∧A0u c0 pending a (Y7 c0 (c0.drop (a+1))) (((M2 pending (c0.getD a 0)).2).drop d) d=R_1∧I R_1 Lt1 Ft1,[(0,.func (.yield l) #[] #[]),(1,pa f),(3,.slice y (((M2 pending (c0.getD a 0)).1).length) k4),(12,iv (c0.length:Int)),(13,iv (a:Int)),(25,.slice z (((M2 pending (c0.getD a 0)).2).length) k9),(26,iv (((M2 pending (c0.getD a 0)).2).length:Int)),(27,iv (d:Int))],(Lt1++([])),(sl cG y ((M2 pending (c0.getD a 0)).1)::sl J8 z ((M2 pending (c0.getD a 0)).2)::at_ f [sv c0]::sl cG pendingq pending::Ft1),((M2 pending (c0.getD a 0)).2).length - d)) 0 R_ Lt Ft ⟨opx,hR,j⟩ (mc [Lt] [true] rfl oxs) (A9.con1 (B8 0 rfl) (A9.con1 (B8 1 rfl) (A9.con1 (B8 2 rfl) (A9.con1 (B8 3 rfl) (A9.dropT 4 rfl))))) ?_
  rintro d R_1 Lt1 Ft1 ⟨aa,hR,i⟩
  refine sr 1 rfl (ip' 1 0 [(28,bv (decide ((d:Int)<(((M2 pending (c0.getD a 0)).2).length:Int))))] ?_)
  refine ie (A5 (X7 rfl (fun s=>?_) (fun s=>?_)))
  ·have p:(d:Int)<(((M2 pending (c0.getD a 0)).2).length:Int):=by simpa using s
   rw [A1f 0 (show d<((M2 pending (c0.getD a 0)).2).length by omega)] at hR;replace hR:=(A0u.eq_2 ..).symm.trans hR
   refine A4 (nx (A5 (B2 (sr 3 rfl (L9 1 rfl opx fun ai o=>(ix rfl (H9 L4 rfl rfl o rfl d rfl opx) (ix rfl (F2 (v:=iv (((M2 pending (c0.getD a 0)).2).getD d 0)) (us:=[iv (((M2 pending (c0.getD a 0)).2).getD d 0)]) cA rfl rfl (K2 (c:=J8) (sz:=1) o (fun _=>rfl) 1 rfl (gd 0 opx)) rfl) (ip' 1 0 [(8,iv (((M2 pending (c0.getD a 0)).2).getD d 0))] (ie (sr 4 rfl (ip' 2 2 [(31,.func (.yield l) #[] #[]),(32,iv (((M2 pending (c0.getD a 0)).2).getD d 0))] ?_)))))))))))
   have g:=E1w hR;clear hR;obtain ⟨R17,hR,g⟩:=g;rw [g] at i
   refine it rfl (C5r (L2:=[]) (hY _ R17 _ _ i) rfl rfl rfl rfl (A9.dropT 4 rfl) (H2 [Lt1] [0] 1 rfl ozw rfl [Lt1] rfl ooa)) fun ⟨⟨r,L19,Φ20⟩,e⟩=>?_
   refine C8m (A9.yield [sl cG y ((M2 pending (c0.getD a 0)).1),sl J8 z ((M2 pending (c0.getD a 0)).2),at_ f [sv c0],sl cG pendingq pending]) ?_
   refine ip' 1 0 [(34,bv (!r))] ?_
   refine ie (X7 rfl (fun w=>?_) (fun w=>?_))
   ·have k:r=false:=by simpa using w
    rw [k] at e;try simp only [if_true,if_false,Bool.false_eq_true] at e
    refine A8 ?_
    exact C6l rfl ⟨hr,hD⟩ (by simp [hD]) (A0x rfl) (L':=L19) (Φ':=Φ20) (by exact .inr e) (mcT [L19] 0 rfl rfl) (A9.dropT 4 rfl)
   ·have k:r=true:=by simpa using w
    rw [k] at e;try simp only [if_true,if_false,Bool.false_eq_true] at e
    refine A4 (nx (A0 2 rfl (ix rfl (B4 rfl rfl rfl rfl opx) (ip' 1 0 [(27,iv ((d:Int)+1))] (A3 ?_)))))
    exact F3c (z1:=d) (z2:=R_1) (z3:=Lt1) (z4:=Ft1) (d+1) R17 L19 Φ20 ⟨opx,hR,e⟩ olr (mc [L19] [true] rfl oxs) (A9.con1 (B8 0 rfl) (A9.con1 (B8 1 rfl) (A9.con1 (B8 2 rfl) (A9.con1 (B8 3 rfl) (A9.dropT 4 rfl)))))
  have p:¬ ((d:Int)<(((M2 pending (c0.getD a 0)).2).length:Int)):=by simpa using s
  rw [A2g p] at hR;replace hR:=(A0u.eq_1 ..).symm.trans hR
  refine G6 (nx (A0 2 rfl (ix rfl (B4 rfl rfl rfl rfl opx) ?_)))
  refine ip' 1 0 [(13,iv ((a:Int)+1))] (A3 ?_)
  exact F5r (z1:=pending) (z2:=pendingq) (z3:=pendingk) (z4:=a) (z5:=R_) (z6:=Lt) (z7:=Ft) ((M2 pending (c0.getD a 0)).1) y k4 (a+1) R_1 Lt1 Ft1 ⟨opx,hR,owk,owk,i,osj⟩ olr (mc [Lt1] [true] rfl oxs) (A9.con1 (B8 2 rfl) (A9.con1 (B8 0 rfl) (A9.dropT 4 rfl)))
 have a0:¬ ((a:Int)<(c0.length:Int)):=by simpa using h2
 rw [A2g a0] at hR;replace hR:=(Y7.eq_1 ..).symm.trans hR
 refine G6 (nx (sr 4 rfl (ip' 1 3 [(37,.slice pendingq pending.length pendingk)] ?_)))
 have hs30:=C7k pending
 cases hc29:(decide (0<(pending.length:Int))&&A4r pending)
 ·replace hR:=bf hR hc29
  replace hs30:=hs30.trans (by rw [hc29];rfl:_=([]:List Int))
  refine zcm (C6z (pending:=pending) (pendingq:=pendingq) (pendingk:=pendingk) hs30) (A9.cons (B8 1 rfl) bT) fun ⟨⟨a2,a6⟩,a1⟩=>?_
  have:([]:List Int).length=0:=rfl
  refine ip' 2 0 [(39,iv 0),(40,iv 0)] (ie (B2 (Z6 2 ?_)))
  refine D9 (sr 1 rfl (ip' 1 0 [(41,bv false)] ?_))
  subst hR
  refine ie (A5 (Z1 rfl (G6 ?_)))
  exact B2a rfl ⟨hr,hD⟩ (by simp [hD]) (A0x rfl) (L':=Lt) (Φ':=Ft) (by exact .inl j) (mcT [Lt] 0 rfl rfl) (A9.dropT 3 rfl)
 ·replace hR:=bt hR hc29
  replace hs30:=hs30.trans (by rw [hc29];rfl:_=([65533]:List Int))
  refine zcm (C6z (pending:=pending) (pendingq:=pendingq) (pendingk:=pendingk) hs30) (A9.cons (B8 1 rfl) bT) fun ⟨⟨a2,a6⟩,a1⟩=>?_
  have:([65533]:List Int).length=1:=rfl
  refine ip' 2 0 [(39,iv 1),(40,iv 0)] (ie (B2 (Z6 3 ?_)))
  refine D9 (sr 1 rfl (ip' 1 0 [(41,bv true)] ?_))
  refine ie (A5 (J9 rfl (A4 (nx (A5 (B2 (sr 3 rfl (L9 0 rfl opx fun ae m=>(ix rfl (H9 L4 rfl rfl m rfl 0 rfl opx) (ix rfl (F2 (v:=iv (([65533]:List Int).getD 0 0)) (us:=[iv (([65533]:List Int).getD 0 0)]) cA rfl rfl (K2 (c:=J8) (sz:=1) m (fun _=>rfl) 0 rfl (gd 0 opx)) rfl) (ip' 1 0 [(10,iv (([65533]:List Int).getD 0 0))] (ie (A0 3 rfl (ip' 2 1 [(44,.func (.yield l) #[] #[]),(45,iv (([65533]:List Int).getD 0 0))] ?_))))))))))))))
  have h:=E1w hR;clear hR;obtain ⟨R33,hR,h⟩:=h;rw [h] at j
  refine it rfl (C5r (L2:=[]) (hY _ R33 _ _ j) rfl rfl rfl rfl (A9.dropT 3 rfl) (H2 [Lt] [0] 1 rfl ozw rfl [Lt] rfl ooa)) fun ⟨⟨a5,L35,Φ36⟩,q⟩=>?_
  refine C8m (A9.yield [sl J8 a2 ([65533]:List Int),at_ f [sv c0],sl cG pendingq pending]) ?_
  refine A3 (nx (A0 2 rfl (ix rfl (B4 (c:=1) rfl rfl rfl rfl ozw) (ip' 1 0 [(40,iv 1)] (A3 (D9 (sr 1 rfl (ip' 1 0 [(41,bv false)] ?_))))))))
  subst hR
  refine ie (A5 (Z1 rfl (G6 ?_)))
  exact B2a rfl ⟨hr,hD⟩ (by simp [hD]) (A0x rfl) (L':=L35) (Φ':=Φ36) (by cases a5<;>first|exact .inr (by simpa using q)|exact .inl (by simpa using q)) (mcT [L35] 0 rfl rfl) (A9.dropT 3 rfl)
def A0l:List Int→List Int→List Int
 | [],l=>l
 | el::rest,l=>A0l rest (l++([el]:List Int))
def B5z (s:List UInt8):List Int :=
 A0l (B3o (A1e s)) ([]:List Int)
theorem B7z:∀ (a l:List Int),A0l a l=l++a
 | [],l=>by simp [A0l]
 | x::r,l=>by simp [A0l,B7z r]
theorem D1q (s:List UInt8):(B5z s).length≤2 * s.length+1:=by
 have:=B9o s
 simpa [B5z,B7z,A1e] using this
theorem obr {p:Prop} (h:p:=by first|omega|(simp only [List.length_cons,List.length_nil,List.length_append,List.length_take,List.length_drop,A1e];omega)):p:=h
theorem D7n {s:List UInt8} {R:List Int} (hR:B5z s=R) (y:s.length≤1000000000:=by exact bP):cI Tryz.prog 237 [sv s] [] [] ({t:Option Addr×Nat // R.length≤t.2∧R.length≤9223372036854775807}) (fun x=>.slice x.1.1 R.length x.1.2) (fun x=>[]) (fun x=>[sl J8 x.1.1 R]):=by
 refine bZ Tryz.func237 fun X hX hr hD=>?_
 replace hR:=(B5z.eq_1 ..).symm.trans hR
 refine bN rfl (zra 1 [] (fun b=>[(2,pt b 0)]) (fun _=>[.slice none 0 0]) 218 fun b=>(ie (A5 (bN rfl (bO 1 4 rfl ?_)))))
 refine zc rfl (E0s rfl) fun j=>?_
 refine ie (B2 (Q3 (H2 [vo J8 3 VR.nil ([]:List Int),[bx b [.slice none 0 0] 218]] [1,0] 2 rfl ozw rfl [[bx b [.slice none 0 0] 218],vo J8 3 VR.nil ([]:List Int)] rfl opv) ?_))
 refine E7c [(2,pt b 0),(5,.func (.func 312) #[] #[pa j])] ⟨rfl,rfl,trivial⟩ ?_
 refine E9b (β:=Int) (enc:=(fun x=>iv x)) (xs:=(B3o (A1e s))) (σ:=List Int×VR) hr rfl (D4f (A1e s) j (by first|omega|(simp only [A1e];omega)) _ rfl) A9.refl rfl rfl (fun d x=>A0l d x.1=R∧bR 1 x.1.length x.2∧x.1.length+d.length≤2 * s.length+1) (fun _ _=>False) (fun x=>(bx b [.slice (va x.2.q) x.1.length x.2.k] 218::((vo J8 3 x.2 x.1)++([])))) (fun x=>[at_ j [sv (A1e s)]]) (([]:List Int),VR.nil) (by exact ⟨hR,bR.nil,(by simp only [List.length_nil,Nat.zero_add];exact B9o s)⟩) bQ A9.refl ?_ ?_ (fun _ _ _ _ h=>h.elim)
 ·rintro i rest ⟨l,lr⟩ g Y Y' K' p o
  try dsimp only at g
  obtain ⟨hR,a,u⟩:=g
  replace hR:=(A0l.eq_2 ..).symm.trans hR
  have:=bR.le a
  refine A0 1 rfl (bO 1 3 rfl (A3 (o _ _ _ ?_)))
  refine B2 (A0 5 rfl (pl2 2 [0] 7 8 rfl ?_))
  refine it rfl (C1 (c:=J8) (xs:=([i]:List Int)) L4 rfl rfl rfl oki) fun z=>?_
  have:([i]:List Int).length=1:=rfl
  refine it rfl (A0f (f:=J8) (r:=lr) (xs:=l) (ys:=([i]:List Int)) (pre:=[bx b [.slice (va lr.q) l.length lr.k] 218]) (post:=[]) E6j (fun _=>rfl) (fun _=>rfl) rfl rfl rfl rfl rfl rfl rfl rfl rfl (B8 0 rfl) a obr obr) fun ⟨n,e⟩=>?_
  have:=bR.le e
  have:=bR.cap e
  refine zru 1 [0] [] 0 (bx b [.slice (va n.q) ((l++([i]:List Int)).length) n.k] 218) ?_
  refine A3 ?_
  exact C5p (I:=fun d x=>A0l d x.1=R∧bR 1 x.1.length x.2∧x.1.length+d.length≤2 * s.length+1) (Jx:=fun _ _=>False) (Lk:=fun x=>(bx b [.slice (va x.2.q) x.1.length x.2.k] 218::((vo J8 3 x.2 x.1)++([])))) (Φk:=fun x=>[at_ j [sv (A1e s)]]) (rest:=rest) ((l++([i]:List Int)),n) (by exact ⟨hR,e,(by simp only [List.length_cons,List.length_append,List.length_nil] at *;omega)⟩) bQ c9
 ·rintro w ⟨l,lr⟩ m g
  try dsimp only at g
  obtain ⟨hR,a,u⟩:=g
  replace hR:=(A0l.eq_1 ..).symm.trans hR
  have:=bR.le a
  refine nx (bN rfl (zru 2 [0,0] [] 0 (bx b [.slice (va lr.q) l.length lr.k] 218) (ie (A8 (B4n [bx b [.slice (va lr.q) l.length lr.k] 218] [] (T:=3) (c:=J8) (r:=lr) (xs:=l) a opv ?_)))))
  have:=bR.cap a
  subst hR
  exact C3j rfl ⟨hr,hD⟩ (by exact (A4x.cons (show A4x X.D by rw [hD];exact A4x.nil) m)) (N4 rfl (D9w (v:=.slice (va lr.q) l.length lr.k) E6a rfl 0 rfl rfl)) (zq (va lr.q) lr.k) (by rfl) bQ c9
def A4c (is:Bool):Option Unit :=
 (bif (!is) then none else (some ()))
theorem U9 {b:Bool} {r:Unit} (h:A4c b=some r):b=true:=by cases b with | true=>rfl | false=>cases h
theorem A3u {is:Bool} {R:Option Unit} (hR:A4c is=R):C3c Tryz.prog 100 [bv is] [] [] A0y R (fun r=>.tuple #[]):=by
 refine A6e (n:=6) Tryz.func100 rfl oki rfl rfl [(0,bv is)] ⟨rfl,trivial⟩ fun X hX hr hD=>?_
 replace hR:=(A4c.eq_1 ..).symm.trans hR
 refine bN rfl (bO 2 3 rfl (ie ?_))
 refine zjb rfl hR ?_ ?_<;>clear hR<;>intro hR a
 ·refine A0 3 rfl (bY 1 2 [] [(4,ag [])] (ix rfl (E4k Tryz.underlying225 rfl rfl rfl) ?_))
  refine E6z rfl rfl rfl ?_
  exact Q4 ⟨hr,hD⟩ hR.symm
 refine A4 ?_
 exact B7o rfl ⟨hr,hD⟩ (by simp [hD]) (A0x rfl) hR.symm rfl
def A8o:List Int→Nat→Option Unit
 | [],t19=>(some ())
 | hd_l0::tl_l0,t19=>(Option.bind (A4c ((decide ((32:Int)≤hd_l0))&&((decide (hd_l0<127))||(decide ((159:Int)<hd_l0))))) fun (a:Unit)=>A8o tl_l0 (t19+1))
def C5n (s:List UInt8):Option Unit :=
 (C2 (B5z s) fun (a:List Int)=>(Option.bind (A4c ((decide ((s.length:Int)≤510))&&(decide ((C4c a)=s)))) fun (r:Unit)=>A8o a 0))
theorem D8i {s:List UInt8} {R:Option Unit} (hR:C5n s=R) (hs:s.length≤100000000:=by exact bP):C3c Tryz.prog 184 [sv s] [] [] A0y R (fun r=>.tuple #[]):=by
 refine A6e (n:=35) Tryz.func184 rfl oki rfl rfl [(0,sv s)] ⟨rfl,trivial⟩ fun X hX hr hD=>?_
 replace hR:=(C5n.eq_1 ..).symm.trans hR
 refine bN rfl (bO 1 5 rfl ?_)
 have hQ:=C9 hR;clear hR;obtain ⟨d,j,hR⟩:=hQ
 refine zc rfl (D7n j) fun ⟨⟨u,w⟩,l⟩=>?_
 obtain ⟨a2,z⟩:=l
 have:=D1q s;try rw [j] at this
 refine bO 1 2 rfl (ie (bN rfl (bO 4 10 rfl ?_)))
 refine zid 5 1 10 15 (decide ((C4c d)=s)) (fun x v=>?_) ?_
 ·refine bO 1 11 rfl (zv rfl (D9m rfl) (bO 1 13 rfl (ix rfl (E4z rfl rfl rfl) (bO 1 15 rfl ?_))))
  exact zai 6 10 15 x
 refine A0c (L2:=[]) (A3u rfl) rfl rfl rfl rfl rfl rfl bT (List.Perm.refl _) (fun r k=>?_) (fun o=>?_)
 ·replace hR:=B1l hR k
  have g:=U9 k;try simp only [Bool.and_eq_true,decide_eq_true_eq] at g
  refine ie (bN rfl (pp3 3 17 18 19 rfl (ie (B2 (A4v (fun (a:Nat)=>(a≤d.length∧A8o (d.drop a) a=R,[(17,.slice u d.length w),(18,iv (d.length:Int)),(19,iv (a:Int))],[],[sl J8 u d],d.length - a)) 0 ⟨opx,hR⟩ bQ A9.refl ?_)))))
  rintro a ⟨y,hR⟩
  refine bN rfl (bO 1 20 rfl ?_)
  refine ie (A5 (X7 rfl (fun h=>?_) (fun h=>?_)))
  ·have e:=bU h
   rw [A1f 0 (show a<d.length by omega)] at hR;replace hR:=(A8o.eq_2 ..).symm.trans hR
   refine A4 (nx (A5 (B2 (bN rfl (L9 0 rfl opx fun a1 b=>(ix rfl (H9 L4 rfl rfl b rfl a rfl opx) (ix rfl (F2 cA rfl rfl (K2 (c:=J8) (sz:=1) b (fun _=>rfl) 0 rfl (gd 0 opx)) rfl) (bO 1 4 rfl (ie (A0 11 rfl (bO 3 25 rfl ?_)))))))))))
   refine zid 7 1 25 32 ((decide ((d.getD a 0)<127))||(decide ((159:Int)<(d.getD a 0)))) (fun p q=>?_) ?_
   ·refine bO 3 28 rfl ?_
    refine zir 3 1 28 31 (decide ((159:Int)<(d.getD a 0))) (fun m t=>?_) ?_
    ·refine bO 3 31 rfl ?_
     exact zai 2 28 31 m
    refine bO 1 32 rfl ?_
    exact zai 4 25 32 p
   refine A0c (L2:=[]) (A3u rfl) rfl rfl rfl rfl rfl rfl bT (List.Perm.refl _) (fun r1 f=>?_) (fun i=>?_)
   ·replace hR:=B1l hR f
    have g:=U9 f;try simp only [Bool.and_eq_true,decide_eq_true_eq] at g
    refine A3 (nx (A0 2 rfl (ix rfl (B4 rfl rfl rfl rfl opx) (bO 1 19 rfl (A3 ?_)))))
    exact A0d (z1:=a) (a+1) ⟨opx,hR⟩ olr bQ A9.refl
   ·replace hR:=B1k hR i
    exact Q4 ⟨hr,hD⟩ hR.symm
  have e:=bU h
  rw [A2g e] at hR;replace hR:=(A8o.eq_1 ..).symm.trans hR
  refine G6 ?_
  exact B7o rfl ⟨hr,hD⟩ (by simp [hD]) (A0x rfl) hR.symm rfl
 ·replace hR:=B1k hR o
  exact Q4 ⟨hr,hD⟩ hR.symm
def B5o (a:Act) (b:Act):Option Unit :=
 (Option.bind (A4c (decide (a=b))) fun (r:Unit)=>(some ()))
theorem B9x {a c:Act} {R:Option Unit} (hR:B5o a c=R):C3c Tryz.prog 183 [ag (A1 a),ag (A1 c)] [] [] A0y R (fun r=>.tuple #[]):=by
 refine A6e (n:=8) Tryz.func183 rfl oki rfl rfl [(0,ag (A1 a)),(1,ag (A1 c))] ⟨rfl,rfl,trivial⟩ fun X hX hr hD=>?_
 replace hR:=(B5o.eq_1 ..).symm.trans hR
 refine bN rfl (A8c 2 [] (fun e h=>[(2,pt e 0),(3,pt h 0)]) (fun _ _=>(A1 a)) (fun _ _=>(A1 c)) 60 60 fun e h=>(ie (A0 4 rfl (bY 2 2 [1,0] [(4,ag (A1 a)),(5,ag (A1 c))] (ix rfl (C0c (a:=a) (b:=c) E8a rfl rfl rfl) ?_)))))
 refine A0c (L2:=[bx h (A1 c) 60,bx e (A1 a) 60]) (A3u rfl) rfl rfl rfl rfl rfl rfl bT (List.Perm.refl _) (fun r d=>?_) (fun g=>?_)
 ·replace hR:=B1l hR d
  have f:=U9 d;try simp only [Bool.and_eq_true,decide_eq_true_eq] at f
  refine A3 ?_
  exact B7o rfl ⟨hr,hD⟩ (by simp [hD]) (A0x rfl) hR.symm rfl
 ·replace hR:=B1k hR g
  exact Q4 ⟨hr,hD⟩ hR.symm
def B2d (a:Act):Option (List UInt8) :=
 (Option.bind (B5o a ({Act.zero with kind:=a.kind,text:=a.text})) fun (r:Unit)=>(Option.bind (C5n a.text) fun (b:Unit)=>(some (([50,59]:List UInt8)++a.text))))
theorem C9o {a:Act} {R:Option (List UInt8)} (hR:B2d a=R) (g:a.text.length≤100000000:=by exact bP):C3c Tryz.prog 182 [ag (A1 a)] [] [] A0y R (fun r=>sv r):=by
 refine A6e (n:=16) Tryz.func182 rfl oki rfl rfl [(0,ag (A1 a))] ⟨rfl,trivial⟩ fun X hX hr hD=>?_
 replace hR:=(B2d.eq_1 ..).symm.trans hR
 refine bN rfl (zra 2 [] (fun b=>[(1,pt b 0)]) (fun _=>(A1 a)) 60 fun b=>(ie (bN rfl (bY 6 1 [0,0,0] [(3,ag (A1 a)),(8,ag (A1 ({Act.zero with kind:=a.kind,text:=a.text})))] ?_))))
 refine A0c (L2:=[bx b (A1 a) 60]) (B9x rfl) rfl rfl rfl rfl rfl rfl bT (List.Perm.refl _) (fun r e=>?_) (fun f=>?_)
 ·replace hR:=B1l hR e
  refine ie (bN rfl (cE 2 [0] 11 rfl ?_))
  refine A0c (L2:=[bx b (A1 a) 60]) (D8i rfl osj) rfl rfl rfl rfl rfl rfl bT (List.Perm.refl _) (fun h c=>?_) (fun d=>?_)
  ·replace hR:=B1l hR c
   refine ie (bN rfl (cE 2 [0] 14 rfl (ix rfl (zst rfl rfl rfl) (bO 1 2 rfl (ie (A8 ?_))))))
   exact B2m rfl ⟨hr,hD⟩ (by simp [hD]) (N4 rfl (B0 rfl)) hR.symm rfl
  ·replace hR:=B1k hR d
   exact Q4 ⟨hr,hD⟩ hR.symm
 ·replace hR:=B1k hR f
  exact Q4 ⟨hr,hD⟩ hR.symm
theorem B2t:EqT Tryz.prog 24 P0:=EqT.of 20 rfl oki oki (fun _ _=>by kernel_rfl) P0.inj
theorem A5t:MapTy Tryz.prog 150 3 148 (.int .i64):=⟨by kernel_rfl,by kernel_rfl,rfl⟩
theorem ty4:Ty Tryz.prog 4 1 false:=⟨by kernel_rfl⟩
theorem A8u:Ty Tryz.prog 24 2 true:=⟨by kernel_rfl⟩
theorem B5j:Ty Tryz.prog 86 1 false:=⟨by kernel_rfl⟩
theorem F4i:Ty Tryz.prog 120 3 true:=⟨by kernel_rfl⟩
theorem D2r:Ty Tryz.prog 148 3 true:=⟨by kernel_rfl⟩
theorem D3z:Zero Tryz.prog 148 [.nilFunc,bv false,.nilFunc]:=⟨by kernel_rfl⟩
def J1:Bool :=
 true
theorem D0u {R:Bool} (hR:J1=R):cI Tryz.prog 168 [aE 178] [] [] (Nat) (fun x=>ag [aE 169,bv R,.func (.func 170) #[] #[pt x 0]]) (fun x=>[bx x [aE 178] 220]) (fun x=>[]):=by
 refine bZ Tryz.func168 fun X hX hr hD=>?_
 replace hR:=(J1.eq_1 ..).symm.trans hR
 refine bN rfl (A8c 2 [] (fun a b=>[(1,pt a 0),(2,pt b 0)]) (fun _ _=>[aE 178]) (fun _ _=>[.nilFunc,bv false,.nilFunc]) 220 148 fun a b=>(ie (bN rfl (zru 3 [0] [] 0 (bx b [aE 169,bv true,.func (.func 170) #[] #[pt a 0]] 148) ?_))))
 subst hR
 refine ie (A8 ?_)
 exact cD hr hD (N4 rfl (D4 (us:=[aE 169,bv true,.func (.func 170) #[] #[pt a 0]]) D2r rfl 0 rfl rfl rfl)) a bQ bT
def H7:Bool :=
 true
theorem C7m {R:Bool} (hR:H7=R):cI Tryz.prog 168 [aE 179] [] [] (Nat) (fun x=>ag [aE 169,bv R,.func (.func 170) #[] #[pt x 0]]) (fun x=>[bx x [aE 179] 220]) (fun x=>[]):=by
 refine bZ Tryz.func168 fun X hX hr hD=>?_
 replace hR:=(H7.eq_1 ..).symm.trans hR
 refine bN rfl (A8c 2 [] (fun a b=>[(1,pt a 0),(2,pt b 0)]) (fun _ _=>[aE 179]) (fun _ _=>[.nilFunc,bv false,.nilFunc]) 220 148 fun a b=>(ie (bN rfl (zru 3 [0] [] 0 (bx b [aE 169,bv true,.func (.func 170) #[] #[pt a 0]] 148) ?_))))
 subst hR
 refine ie (A8 ?_)
 exact cD hr hD (N4 rfl (D4 (us:=[aE 169,bv true,.func (.func 170) #[] #[pt a 0]]) D2r rfl 0 rfl rfl rfl)) a bQ bT
def H8:Bool :=
 true
theorem C8a {R:Bool} (hR:H8=R):cI Tryz.prog 168 [aE 180] [] [] (Nat) (fun x=>ag [aE 169,bv R,.func (.func 170) #[] #[pt x 0]]) (fun x=>[bx x [aE 180] 220]) (fun x=>[]):=by
 refine bZ Tryz.func168 fun X hX hr hD=>?_
 replace hR:=(H8.eq_1 ..).symm.trans hR
 refine bN rfl (A8c 2 [] (fun a b=>[(1,pt a 0),(2,pt b 0)]) (fun _ _=>[aE 180]) (fun _ _=>[.nilFunc,bv false,.nilFunc]) 220 148 fun a b=>(ie (bN rfl (zru 3 [0] [] 0 (bx b [aE 169,bv true,.func (.func 170) #[] #[pt a 0]] 148) ?_))))
 subst hR
 refine ie (A8 ?_)
 exact cD hr hD (N4 rfl (D4 (us:=[aE 169,bv true,.func (.func 170) #[] #[pt a 0]]) D2r rfl 0 rfl rfl rfl)) a bQ bT
def C9v:Unit :=
 ()
theorem B7j {R:Unit} (hR:C9v=R):cI Tryz.prog 96 [] [] [] (Nat×Nat×Nat×Nat) (fun x=>.map (some x.1)) (fun x=>[(x.1,.map #[⟨iv 0,ag [aE 169,bv false,aE 171],0⟩,⟨iv 1,ag [aE 172,bv false,aE 173],1⟩,⟨iv 2,ag [aE 174,bv false,aE 175],2⟩,⟨iv 3,ag [aE 176,bv false,aE 177],3⟩,⟨iv 4,ag [aE 169,bv J1,.func (.func 170) #[] #[pt x.2.1 0]],4⟩,⟨iv 5,ag [aE 169,bv H7,.func (.func 170) #[] #[pt x.2.2.1 0]],5⟩,⟨iv 6,ag [aE 169,bv H8,.func (.func 170) #[] #[pt x.2.2.2 0]],6⟩] 7),bx x.2.1 [aE 178] 220,bx x.2.2.1 [aE 179] 220,bx x.2.2.2 [aE 180] 220]) (fun x=>[]):=by
 refine bZ Tryz.func96 fun X hX hr hD=>?_
 replace hR:=(C9v.eq_1 ..).symm.trans hR
 refine bN rfl (pp0 1 rfl (ie (bN rfl (ip' 1 0 [(1,aE 168)] (ie (bN rfl (it rfl (A0w rfl) fun d=>(bY 1 18 [] [(3,ag [aE 169,bv false,aE 171])] (it rfl (F3 A5t (.inl rfl) rfl rfl rfl 0 rfl oki rfl) fun _=>?_)))))))))
 refine bY 1 16 [] [(4,ag [aE 172,bv false,aE 173])] (it rfl (F3 A5t (.inl rfl) rfl rfl rfl 0 rfl oki rfl) fun _=>?_)
 refine bY 1 14 [] [(5,ag [aE 174,bv false,aE 175])] (it rfl (F3 A5t (.inl rfl) rfl rfl rfl 0 rfl oki rfl) fun _=>?_)
 refine bY 1 12 [] [(6,ag [aE 176,bv false,aE 177])] (it rfl (F3 A5t (.inl rfl) rfl rfl rfl 0 rfl oki rfl) fun _=>?_)
 refine ip' 1 10 [(7,aE 168)] ?_
 refine zc rfl (D0u rfl) fun c=>?_
 refine it rfl (F3 A5t (.inl rfl) rfl rfl rfl 1 rfl oki rfl) fun _=>?_
 refine ip' 1 7 [(9,aE 168)] ?_
 refine zc rfl (C7m rfl) fun a=>?_
 refine it rfl (F3 A5t (.inl rfl) rfl rfl rfl 2 rfl oki rfl) fun _=>?_
 refine ip' 1 4 [(11,aE 168)] ?_
 refine zc rfl (C8a rfl) fun b=>?_
 refine it rfl (F3 A5t (.inl rfl) rfl rfl rfl 3 rfl oki rfl) fun _=>?_
 refine bO 2 0 rfl ?_
 subst hR
 refine ie (A8 (Q3 (H2 [[bx b [aE 180] 220],[bx a [aE 179] 220],[bx c [aE 178] 220],[(d,.map #[⟨iv 0,ag [aE 169,bv false,aE 171],0⟩,⟨iv 1,ag [aE 172,bv false,aE 173],1⟩,⟨iv 2,ag [aE 174,bv false,aE 175],2⟩,⟨iv 3,ag [aE 176,bv false,aE 177],3⟩,⟨iv 4,ag [aE 169,bv J1,.func (.func 170) #[] #[pt c 0]],4⟩,⟨iv 5,ag [aE 169,bv H7,.func (.func 170) #[] #[pt a 0]],5⟩,⟨iv 6,ag [aE 169,bv H8,.func (.func 170) #[] #[pt b 0]],6⟩] 7)]] [3,2,1,0] 4 rfl ozw rfl [[(d,.map #[⟨iv 0,ag [aE 169,bv false,aE 171],0⟩,⟨iv 1,ag [aE 172,bv false,aE 173],1⟩,⟨iv 2,ag [aE 174,bv false,aE 175],2⟩,⟨iv 3,ag [aE 176,bv false,aE 177],3⟩,⟨iv 4,ag [aE 169,bv J1,.func (.func 170) #[] #[pt c 0]],4⟩,⟨iv 5,ag [aE 169,bv H7,.func (.func 170) #[] #[pt a 0]],5⟩,⟨iv 6,ag [aE 169,bv H8,.func (.func 170) #[] #[pt b 0]],6⟩] 7)],[bx c [aE 178] 220],[bx a [aE 179] 220],[bx b [aE 180] 220]] rfl opv) ?_))
 exact cD hr hD (N4 rfl (B0 rfl)) (d,c,a,b) bQ bT
def B6c (a:Nat) (z1:Nat) (z2:Nat):List (Int×Value):=[(0,ag [aE 169,bv false,aE 171]),(1,ag [aE 172,bv false,aE 173]),(2,ag [aE 174,bv false,aE 175]),(3,ag [aE 176,bv false,aE 177]),(4,ag [aE 169,bv J1,.func (.func 170) #[] #[pt a 0]]),(5,ag [aE 169,bv H7,.func (.func 170) #[] #[pt z1 0]]),(6,ag [aE 169,bv H8,.func (.func 170) #[] #[pt z2 0]])]
def W4:List (Int×Value):=[(0,aE 169),(1,aE 172),(2,aE 174),(3,aE 176),(4,aE 169),(5,aE 169),(6,aE 169)]
def A4y:List (Int×Bool):=[(0,false),(1,false),(2,false),(3,false),(4,J1),(5,H7),(6,H8)]
def A8k (a:Nat) (z1:Nat) (z2:Nat):List (Int×Value):=[(0,aE 171),(1,aE 173),(2,aE 175),(3,aE 177),(4,.func (.func 170) #[] #[pt a 0]),(5,.func (.func 170) #[] #[pt z1 0]),(6,.func (.func 170) #[] #[pt z2 0])]
theorem E6y (d:Nat) (z1:Nat) (z2:Nat) (k:Int):cH k (.agg #[.nilFunc,bv false,.nilFunc]) (B6c d z1 z2)=.agg #[cH k .nilFunc W4,.bool (lkB k false A4y),cH k .nilFunc (A8k d z1 z2)]:=by
 refine (D2y (fun a b c=>.agg #[a,b,c]) k (.nilFunc) (bv false) (.nilFunc) [((0:Int),(aE 169:Value),(bv false:Value),(aE 171:Value)),((1:Int),(aE 172:Value),(bv false:Value),(aE 173:Value)),((2:Int),(aE 174:Value),(bv false:Value),(aE 175:Value)),((3:Int),(aE 176:Value),(bv false:Value),(aE 177:Value)),((4:Int),(aE 169:Value),(bv J1:Value),(.func (.func 170) #[] #[pt d 0]:Value)),((5:Int),(aE 169:Value),(bv H7:Value),(.func (.func 170) #[] #[pt z1 0]:Value)),((6:Int),(aE 169:Value),(bv H8:Value),(.func (.func 170) #[] #[pt z2 0]:Value))]).trans ?_
 rw [show (([((0:Int),(aE 169:Value),(bv false:Value),(aE 171:Value)),((1:Int),(aE 172:Value),(bv false:Value),(aE 173:Value)),((2:Int),(aE 174:Value),(bv false:Value),(aE 175:Value)),((3:Int),(aE 176:Value),(bv false:Value),(aE 177:Value)),((4:Int),(aE 169:Value),(bv J1:Value),(.func (.func 170) #[] #[pt d 0]:Value)),((5:Int),(aE 169:Value),(bv H7:Value),(.func (.func 170) #[] #[pt z1 0]:Value)),((6:Int),(aE 169:Value),(bv H8:Value),(.func (.func 170) #[] #[pt z2 0]:Value))]).map fun x=>(x.1,x.2.2.1))=A4y.map (fun x=>(x.1,Value.bool x.2)) from rfl,D7j]
 rfl
theorem C2a (a:Nat) (z1:Nat) (z2:Nat) (k:Int):Value.tuple #[cH k (.agg #[.nilFunc,bv false,.nilFunc]) (B6c a z1 z2),.bool (S9 k (B6c a z1 z2))]=Value.tuple #[.agg #[cH k .nilFunc W4,.bool (lkB k false A4y),cH k .nilFunc (A8k a z1 z2)],.bool (S9 k W4)]:=by rw [E6y];rfl
def A9e (m:Int):Bool :=
 (decide (m=0))
theorem B1v {m:Int} {R:Bool} (hR:A9e m=R):J5 Tryz.prog 169 [iv m] [] (bv R):=by
 refine bZ Tryz.func169 fun X hX hr hD=>?_
 replace hR:=(A9e.eq_1 ..).symm.trans hR
 refine bN rfl (pp0 1 rfl (ie (bN rfl (bO 3 2 rfl ?_))))
 subst hR
 refine ie (A8 ?_)
 exact G0 hr hD
def A4u (x:Int):Int :=
 (C2 (IntKind.u64.wrap ((bW .and .u64 (x / 2) 6148914691236517205)+(bW .and .u64 x 6148914691236517205))) fun (v:Int)=>(C2 (IntKind.u64.wrap ((bW .and .u64 (v / 4) 3689348814741910323)+(bW .and .u64 v 3689348814741910323))) fun (b:Int)=>(C2 (bW .and .u64 (IntKind.u64.wrap ((b / 16)+b)) 1085102592571150095) fun (a:Int)=>(C2 (IntKind.u64.wrap ((IntKind.u64.wrap (a+(a / 256)))+((IntKind.u64.wrap (a+(a / 256))) / 65536))) fun (c:Int)=>(C2 (bW .and .i64 (IntKind.i64.wrap (IntKind.u64.wrap (c+(c / 4294967296)))) 127) fun (d:Int)=>d)))))
theorem B6g {x R:Int} (hR:A4u x=R):J5 Tryz.prog 281 [.int .u64 x] [] (iv R):=by
 refine bZ Tryz.func281 fun X hX hr hD=>?_
 replace hR:=(A4u.eq_1 ..).symm.trans hR
 refine bN rfl (pp0 1 rfl (ie (bN rfl (bO 1 3 rfl ?_))))
 refine ix rfl (U3 (c:=x / 2) rfl rfl rfl ozw (by simp [Int.fdiv_eq_ediv_of_nonneg,IntKind.bits])) ?_
 have a:=C9 hR;clear hR;obtain ⟨v,k,hR⟩:=a
 refine ip' 5 0 [(0,.int .u64 v)] ?_ (by cases k;kernel_rfl)
 refine ie (bN rfl (bO 1 9 rfl ?_))
 refine ix rfl (U3 (c:=v / 4) rfl rfl rfl ozw (by simp [Int.fdiv_eq_ediv_of_nonneg,IntKind.bits])) ?_
 have a:=C9 hR;clear hR;obtain ⟨i,f,hR⟩:=a
 refine ip' 5 0 [(0,.int .u64 i)] ?_ (by cases f;kernel_rfl)
 refine ie (bN rfl (bO 1 15 rfl ?_))
 refine ix rfl (U3 (c:=i / 16) rfl rfl rfl ozw (by simp [Int.fdiv_eq_ediv_of_nonneg,IntKind.bits])) ?_
 have a:=C9 hR;clear hR;obtain ⟨b,g,hR⟩:=a
 refine ip' 4 0 [(0,.int .u64 b)] ?_ (by cases g;kernel_rfl)
 refine ie (bN rfl (cJ 2 20 21 rfl ?_))
 refine ix rfl (U3 (c:=b / 256) rfl rfl rfl ozw (by simp [Int.fdiv_eq_ediv_of_nonneg,IntKind.bits])) (bO 2 0 rfl (ie (bN rfl (cJ 2 24 25 rfl ?_))))
 refine ix rfl (U3 (c:=(IntKind.u64.wrap (b+(b / 256))) / 65536) rfl rfl rfl ozw (by simp [Int.fdiv_eq_ediv_of_nonneg,IntKind.bits])) ?_
 have a:=C9 hR;clear hR;obtain ⟨h,d,hR⟩:=a
 refine ip' 2 0 [(0,.int .u64 h)] ?_ (by cases d;kernel_rfl)
 refine ie (bN rfl (cJ 2 28 29 rfl ?_))
 refine ix rfl (U3 (c:=h / 4294967296) rfl rfl rfl ozw (by simp [Int.fdiv_eq_ediv_of_nonneg,IntKind.bits])) (bO 2 0 rfl (ie (bN rfl ?_)))
 have a:=C9 hR;clear hR;obtain ⟨j,e,hR⟩:=a
 refine ip' 4 0 [(2,iv j)] ?_ (by cases e;kernel_rfl)
 subst hR
 refine ie (A8 ?_)
 exact G0 hr hD
def A2s (x:Int):Int :=
 (A4u x)
theorem B8j {x R:Int} (hR:A2s x=R):J5 Tryz.prog 236 [.int .u64 x] [] (iv R):=by
 refine bZ Tryz.func236 fun X hX hr hD=>?_
 replace hR:=(A2s.eq_1 ..).symm.trans hR
 refine bN rfl (pp0 1 rfl (ie (A5 (Z1 rfl (A4 (nx (bN rfl (bO 1 6 rfl (zv rfl (B6g rfl) (bO 1 2 rfl ?_))))))))))
 subst hR
 refine ie (A8 ?_)
 exact G0 hr hD
def B6d (m:Int):Bool :=
 ((decide ((bW .andNot .i64 m 255)=0))&&(decide ((A2s (IntKind.u64.wrap m))=1)))
theorem C7g {m:Int} {R:Bool} (hR:B6d m=R):J5 Tryz.prog 172 [iv m] [] (bv R):=by
 refine bZ Tryz.func172 fun X hX hr hD=>?_
 replace hR:=(B6d.eq_1 ..).symm.trans hR
 refine bN rfl (pp0 1 rfl (ie (bN rfl (bO 4 6 rfl ?_))))
 refine zid 5 1 6 11 (decide ((A2s (IntKind.u64.wrap m))=1)) (fun b a=>?_) ?_
 ·refine bO 2 8 rfl (zv rfl (B8j rfl) (bO 2 11 rfl ?_))
  exact A3 (O6 4 6 11 b bT bQ rfl rfl rfl rfl rfl)
 refine bO 1 2 rfl ?_
 subst hR
 refine ie (A8 ?_)
 exact G0 hr hD
def B7h (m:Int):Bool :=
 ((decide (m=3))||((B6d m)&&(decide ((bW .and .i64 m 3)=0))))
theorem D1f {m:Int} {R:Bool} (hR:B7h m=R):J5 Tryz.prog 174 [iv m] [] (bv R):=by
 refine bZ Tryz.func174 fun X hX hr hD=>?_
 replace hR:=(B7h.eq_1 ..).symm.trans hR
 refine bN rfl (pp0 1 rfl (ie (bN rfl (bO 3 5 rfl ?_))))
 refine zir 8 1 5 13 ((B6d m)&&(decide ((bW .and .i64 m 3)=0))) (fun c b=>?_) ?_
 ·refine bO 1 6 rfl (zv rfl (C7g rfl) (bO 1 8 rfl ?_))
  refine zia 4 1 8 12 (decide ((bW .and .i64 m 3)=0)) (fun a=>?_) ?_
  ·refine bO 4 12 rfl ?_
   exact A3 (O6 2 8 12 a bT bQ rfl rfl rfl rfl rfl)
  refine bO 1 13 rfl ?_
  exact A3 (O6 6 5 13 c bT bQ rfl rfl rfl rfl rfl)
 refine bO 1 2 rfl ?_
 subst hR
 refine ie (A8 ?_)
 exact G0 hr hD
def B6m (m:Int):Bool :=
 ((decide ((0:Int)≤m))&&(decide (m≤5)))
theorem C8x {m:Int} {R:Bool} (hR:B6m m=R):J5 Tryz.prog 176 [iv m] [] (bv R):=by
 refine bZ Tryz.func176 fun X hX hr hD=>?_
 replace hR:=(B6m.eq_1 ..).symm.trans hR
 refine bN rfl (pp0 1 rfl (ie (bN rfl (bO 3 5 rfl ?_))))
 refine zid 3 1 5 8 (decide (m≤5)) (fun b a=>?_) ?_
 ·refine bO 3 8 rfl ?_
  exact A3 (O6 2 5 8 b bT bQ rfl rfl rfl rfl rfl)
 refine bO 1 2 rfl ?_
 subst hR
 refine ie (A8 ?_)
 exact G0 hr hD
def B2p (k:Int) (a:Int):Bool :=
 (bif (decide (k=0)) then (A9e a) else (bif (decide (k=1)) then (B6d a) else (bif (decide (k=2)) then (B7h a) else (bif (decide (k=3)) then (B6m a) else (bif (decide (k=4)) then (A9e a) else (bif (decide (k=5)) then (A9e a) else (bif (decide (k=6)) then (A9e a) else false)))))))
theorem B9k (k:Int) (b:Int) (a:S9 k W4=true) (R:Bool) (hR:B2p k b=R):C4 Tryz.prog (cH k .nilFunc W4) [iv b] [] (bv R):=by
 subst hR
 unfold B2p
 unfold W4 at *
 refine C4.cons (fun r=>bv r) a (fun e=>?_) (fun a e=>?_)
 ·exact C4.of (B1v (m:=b) rfl) rfl bT
 refine C4.cons (fun r=>bv r) a (fun e=>?_) (fun a e=>?_)
 ·exact C4.of (C7g (m:=b) rfl) rfl bT
 refine C4.cons (fun r=>bv r) a (fun e=>?_) (fun a e=>?_)
 ·exact C4.of (D1f (m:=b) rfl) rfl bT
 refine C4.cons (fun r=>bv r) a (fun e=>?_) (fun a e=>?_)
 ·exact C4.of (C8x (m:=b) rfl) rfl bT
 refine C4.cons (fun r=>bv r) a (fun e=>?_) (fun a e=>?_)
 ·exact C4.of (B1v (m:=b) rfl) rfl bT
 refine C4.cons (fun r=>bv r) a (fun e=>?_) (fun a e=>?_)
 ·exact C4.of (B1v (m:=b) rfl) rfl bT
 refine C4.cons (fun r=>bv r) a (fun e=>?_) (fun a e=>?_)
 ·exact C4.of (B1v (m:=b) rfl) rfl bT
 exact C4.nil a
def O2:Ar3 :=
 {Ar3.zero with b:=255,c:=16777215}
theorem D0n {R:Ar3} (hR:O2=R):J5 Tryz.prog 80 [] [] (ag (C8s R)):=by
 refine bZ Tryz.func80 fun X hX hr hD=>?_
 replace hR:=(O2.eq_1 ..).symm.trans hR
 refine bN rfl (zra 1 [] (fun a=>[(0,pt a 0)]) (fun _=>(C8s Ar3.zero)) 120 fun a=>(ie (bN rfl (zru 2 [0] [] 0 (bx a (C8s ({Ar3.zero with b:=255,c:=16777215})) 120) ?_))))
 subst hR
 refine ie (A8 ?_)
 exact cD hr hD (N4 rfl (D4 (us:=C8s ({Ar3.zero with b:=255,c:=16777215})) F4i rfl 0 rfl rfl rfl)) () bQ bT
def G3 (c:Col):Int :=
 (bif ((((decide (c.kind<0))||(decide ((3:Int)≤c.kind)))||(decide (c.n<0)))||(decide ((([O2.a,O2.b,O2.c]:List Int).getD ((c.kind).toNat) 0)<c.n))) then 130 else 0)
theorem A0p {c:Col} {R:Int} (hR:G3 c=R):J5 Tryz.prog 26 [ag (P0 c)] [] (iv R):=by
 refine bZ Tryz.func26 fun X hX hr hD=>?_
 replace hR:=(G3.eq_1 ..).symm.trans hR
 refine bN rfl (zra 2 [] (fun g=>[(1,pt g 0)]) (fun _=>(P0 c)) 24 fun g=>(ie (A5 (bN rfl (zv rfl (D0n rfl) ?_)))))
 refine zra 2 [0] (fun f=>[(3,pt f 0)]) (fun _=>(C8s O2)) 120 fun f=>?_
 refine ie (sd 22 rfl oki rfl (pg1 4 [1] 8 rfl ?_))
 refine zdr 4 14 8 12 (decide ((3:Int)≤c.kind)) (fun l k=>?_) ?_
 ·refine pg1 4 [1] 12 rfl ?_
  exact zad 2 8 12 l
 refine pd1 1 13 rfl ?_
 refine zdO 4 9 13 17 (decide (c.n<0)) (fun h=>?_) ?_
 ·have o:=bU h
  refine pg1 4 [1] 17 rfl ?_
  exact zad 2 13 17 h
 refine pd1 1 18 rfl ?_
 refine zdO 8 0 18 26 (decide ((([O2.a,O2.b,O2.c]:List Int).getD ((c.kind).toNat) 0)<c.n)) (fun e=>?_) ?_
 ·have m:=bU e
  refine pg2 4 [1,1] 20 22 rfl (dd rfl (D8n Tryz.underlying120 cA rfl rfl rfl ((c.kind).toNat) opx opx) ?_)
  refine dd rfl (D9b (u:=iv (([O2.a,O2.b,O2.c]:List Int).getD ((c.kind).toNat) 0)) (c:=J8) (xs:=([O2.a,O2.b,O2.c]:List Int)) (j:=[]) (sz:=1) cA (fun _=>rfl) rfl rfl 0 rfl ((c.kind).toNat) 0 rfl (gd 0 (by simp only [List.length_cons,List.length_nil];omega)) rfl) (pd1 2 26 rfl ?_)
  exact zad 6 18 26 e
 refine de ?_
 refine zjb rfl hR ?_ ?_<;>clear hR<;>intro hR i
 ·have d:=bU i
  refine bN rfl (bO 1 2 rfl ?_)
  subst hR
  refine ie (A8 ?_)
  exact G0 hr hD
 have d:=bU i
 refine A4 (nx (bN rfl (bO 1 2 rfl ?_)))
 subst hR
 refine ie (A8 ?_)
 exact G0 hr hD
theorem gdE {α:Type} {l:List α} {k:Nat} {d:α} (h:k<l.length):l.getD k d=l[k]:=by simp [List.getD_eq_getElem?_getD,h]
theorem gdN {α:Type} {l:List α} {k:Nat} {d:α} (h:¬ k<l.length):l.getD k d=d:=by simp [List.getD_eq_getElem?_getD,List.getElem?_eq_none (Nat.le_of_not_lt h)]
theorem V6 {k:Int} {z:Value}:∀ {l:List (Int×Value)},z.oneCell'=true→(l.all fun p=>p.2.oneCell')=true→(cH k z l).oneCell'=true
 | [],hz,_=>hz
 | (a,v)::l,hz,h=>by
  simp only [List.all_cons,Bool.and_eq_true] at h
  unfold cH
  cases decide (k=a) with
  | true=>exact h.1
  | false=>exact V6 hz h.2
def J6 (a:Act):Int :=
 (bif ((((!(S9 a.n W4))||(!decide (a.kind=39)))||(!(decide (a.text=([]:List UInt8)))))||(!(B2p a.n a.m))) then 141 else (bif (((!(lkB a.n false A4y))&&(!(decide (a.color=Col.zero))))||(!decide ((G3 a.color)=0))) then 141 else 0))
theorem och {p:Prop} (h:p:=by first|assumption|simp_all):p:=h
theorem A9g {a:Act} {R:Int} (hR:J6 a=R):J5 Tryz.prog 38 [ag (A1 a)] [] (iv R):=by
 refine bZ Tryz.func38 fun X hX hr hD=>?_
 replace hR:=(J6.eq_1 ..).symm.trans hR
 refine bN rfl (zra 2 [] (fun b1=>[(1,pt b1 0)]) (fun _=>(A1 a)) 60 fun b1=>(ie (zS [(10,[0])] ?_)))
 refine hq1 [1] 7 rfl ?_
 refine gl 2 [0] rfl (A2 (v:=iv a.n) cA rfl rfl 0 rfl rfl) ?_
 refine gf 0 7 ?_ ?_
 ·refine ghc 0 [0] rfl (B7j rfl) fun ⟨b2,h,g,f⟩=>?_
  refine gf 3 7 ?_ ?_
  ·refine gh 3 [0] rfl (Det.tri (I6.det (by exact G9 (V8 (B6c h g f) A5t rfl rfl rfl 0 rfl oki oki) (C2a h g f a.n)))) fun _=>?_
   refine hqV [4,5,6] [(10,ag [(cH a.n .nilFunc W4),bv (lkB a.n false A4y),(cH a.n .nilFunc (A8k h g f))]),(11,bv (S9 a.n W4))] ?_
   refine go 7 [0] rfl (S4 (cs:=[.nilFunc,bv false,.nilFunc]) D3z rfl) fun b6=>?_
   refine go 8 [0] rfl (D8 (us:=[(cH a.n .nilFunc W4),bv (lkB a.n false A4y),(cH a.n .nilFunc (A8k h g f))]) (cs':=[(cH a.n .nilFunc W4),bv (lkB a.n false A4y),(cH a.n .nilFunc (A8k h g f))]) D2r rfl rfl rfl 0 rfl rfl rfl (by simp only [List.all_cons,List.all_nil,Bool.and_true,Bool.and_eq_true];exact ⟨V6 rfl rfl,rfl,V6 rfl rfl⟩) rfl rfl) fun _=>?_
   refine hq1 [9] 4 rfl ?_
   refine ge ?_
   refine A5 (bN rfl (bO 3 14 rfl ?_))
   refine zio 4 13 14 18 (!decide (a.kind=39)) (fun g7=>?_) ?_
   ·refine bO 1 15 rfl (ix rfl (A2 (v:=iv a.kind) cA rfl rfl 5 rfl rfl) (bO 2 18 rfl ?_))
    exact A3 (O6 4 14 18 g7 bT bQ rfl rfl rfl rfl rfl)
   refine bO 1 19 rfl ?_
   refine zio 4 8 19 23 (!(decide (a.text=([]:List UInt8)))) (fun g8=>?_) ?_
   ·have al:=bU g8
    refine bO 1 20 rfl (ix rfl (A2 (v:=sv a.text) ty9 rfl rfl 5 rfl rfl) (ix rfl (A4i rfl rfl rfl) (bO 1 23 rfl ?_)))
    exact A3 (O6 5 19 23 g8 bT bQ rfl rfl rfl rfl rfl)
   refine bO 1 24 rfl ?_
   refine zio 7 0 24 31 (!(B2p a.n a.m)) (fun g9=>?_) ?_
   ·have ak:=bU g9
    refine bO 1 25 rfl (ix rfl (A2 (v:=(cH a.n .nilFunc W4)) B5j rfl rfl 0 rfl rfl) (bO 1 27 rfl (ix rfl (A2 (v:=iv a.m) cA rfl rfl 5 rfl rfl) (ixc rfl (R4 (B9k a.n a.m och _ rfl) rfl rfl rfl rfl bT) (bO 2 31 rfl ?_)))))
    exact A3 (O6 7 24 31 g9 bT bQ rfl rfl rfl rfl rfl)
   refine ie ?_
   refine zjb rfl hR ?_ ?_<;>clear hR<;>intro hR a0
   ·have l:=bU a0
    refine bN rfl (bO 1 2 rfl ?_)
    subst hR
    refine ie (A8 ?_)
    exact G0 hr hD
   have l:=bU a0
   refine A4 (nx (A5 (bN rfl (cE 4 [0] 35 rfl ?_))))
   refine zia 5 6 35 40 (!(decide (a.color=Col.zero))) (fun a5=>?_) ?_
   ·refine bO 1 36 rfl (ix rfl (D6 (us:=P0 a.color) A8u rfl rfl 5 rfl rfl rfl) (bY 1 2 [] [(38,ag (P0 Col.zero))] (ix rfl (X1 (a:=a.color) (b:=Col.zero) B2t rfl rfl rfl) (bO 1 40 rfl ?_))))
    exact A3 (O6 6 35 40 a5 bT bQ rfl rfl rfl rfl rfl)
   refine bO 1 41 rfl ?_
   refine zio 5 0 41 46 (!decide ((G3 a.color)=0)) (fun o=>?_) ?_
   ·have af:=bU o
    refine bO 1 42 rfl (ix rfl (D6 (us:=P0 a.color) A8u rfl rfl 5 rfl rfl rfl) (zv rfl (A0p rfl) (bO 2 46 rfl ?_)))
    exact A3 (O6 5 41 46 o bT bQ rfl rfl rfl rfl rfl)
   refine ie ?_
   refine zjb rfl hR ?_ ?_<;>clear hR<;>intro hR t
   ·have u:=bU t
    refine bN rfl (bO 1 2 rfl ?_)
    subst hR
    refine ie (A8 ?_)
    exact G0 hr hD
   have u:=bU t
   refine A4 (nx (bN rfl (bO 1 2 rfl ?_)))
   subst hR
   refine ie (A8 ?_)
   exact G0 hr hD
  ·refine gh 7 [0] rfl (S4 (cs:=[.nilFunc,bv false,.nilFunc]) D3z rfl) fun am=>?_
   refine go 3 [0] rfl (Det.tri (I6.det (by exact G9 (V8 (B6c h g f) A5t rfl rfl rfl 1 rfl oki oki) (C2a h g f a.n)))) fun _=>?_
   refine hqV [4,5,6] [(10,ag [(cH a.n .nilFunc W4),bv (lkB a.n false A4y),(cH a.n .nilFunc (A8k h g f))]),(11,bv (S9 a.n W4))] ?_
   refine go 8 [0] rfl (D8 (us:=[(cH a.n .nilFunc W4),bv (lkB a.n false A4y),(cH a.n .nilFunc (A8k h g f))]) (cs':=[(cH a.n .nilFunc W4),bv (lkB a.n false A4y),(cH a.n .nilFunc (A8k h g f))]) D2r rfl rfl rfl 0 rfl rfl rfl (by simp only [List.all_cons,List.all_nil,Bool.and_true,Bool.and_eq_true];exact ⟨V6 rfl rfl,rfl,V6 rfl rfl⟩) rfl rfl) fun _=>?_
   refine hq1 [9] 4 rfl ?_
   refine ge ?_
   refine A5 (bN rfl (bO 3 14 rfl ?_))
   refine zio 4 13 14 18 (!decide (a.kind=39)) (fun a4=>?_) ?_
   ·refine bO 1 15 rfl (ix rfl (A2 (v:=iv a.kind) cA rfl rfl 5 rfl rfl) (bO 2 18 rfl ?_))
    exact A3 (O6 4 14 18 a4 bT bQ rfl rfl rfl rfl rfl)
   refine bO 1 19 rfl ?_
   refine zio 4 8 19 23 (!(decide (a.text=([]:List UInt8)))) (fun r=>?_) ?_
   ·have ad:=bU r
    refine bO 1 20 rfl (ix rfl (A2 (v:=sv a.text) ty9 rfl rfl 5 rfl rfl) (ix rfl (A4i rfl rfl rfl) (bO 1 23 rfl ?_)))
    exact A3 (O6 5 19 23 r bT bQ rfl rfl rfl rfl rfl)
   refine bO 1 24 rfl ?_
   refine zio 7 0 24 31 (!(B2p a.n a.m)) (fun q=>?_) ?_
   ·have aa:=bU q
    refine bO 1 25 rfl (ix rfl (A2 (v:=(cH a.n .nilFunc W4)) B5j rfl rfl 0 rfl rfl) (bO 1 27 rfl (ix rfl (A2 (v:=iv a.m) cA rfl rfl 5 rfl rfl) (ixc rfl (R4 (B9k a.n a.m och _ rfl) rfl rfl rfl rfl bT) (bO 2 31 rfl ?_)))))
    exact A3 (O6 7 24 31 q bT bQ rfl rfl rfl rfl rfl)
   refine ie ?_
   refine zjb rfl hR ?_ ?_<;>clear hR<;>intro hR a3
   ·have w:=bU a3
    refine bN rfl (bO 1 2 rfl ?_)
    subst hR
    refine ie (A8 ?_)
    exact G0 hr hD
   have w:=bU a3
   refine A4 (nx (A5 (bN rfl (cE 4 [0] 35 rfl ?_))))
   refine zia 5 6 35 40 (!(decide (a.color=Col.zero))) (fun a8=>?_) ?_
   ·refine bO 1 36 rfl (ix rfl (D6 (us:=P0 a.color) A8u rfl rfl 5 rfl rfl rfl) (bY 1 2 [] [(38,ag (P0 Col.zero))] (ix rfl (X1 (a:=a.color) (b:=Col.zero) B2t rfl rfl rfl) (bO 1 40 rfl ?_))))
    exact A3 (O6 6 35 40 a8 bT bQ rfl rfl rfl rfl rfl)
   refine bO 1 41 rfl ?_
   refine zio 5 0 41 46 (!decide ((G3 a.color)=0)) (fun j=>?_) ?_
   ·have ah:=bU j
    refine bO 1 42 rfl (ix rfl (D6 (us:=P0 a.color) A8u rfl rfl 5 rfl rfl rfl) (zv rfl (A0p rfl) (bO 2 46 rfl ?_)))
    exact A3 (O6 5 41 46 j bT bQ rfl rfl rfl rfl rfl)
   refine ie ?_
   refine zjb rfl hR ?_ ?_<;>clear hR<;>intro hR a1
   ·have x:=bU a1
    refine bN rfl (bO 1 2 rfl ?_)
    subst hR
    refine ie (A8 ?_)
    exact G0 hr hD
   have x:=bU a1
   refine A4 (nx (bN rfl (bO 1 2 rfl ?_)))
   subst hR
   refine ie (A8 ?_)
   exact G0 hr hD
 ·refine gh 7 [0] rfl (S4 (cs:=[.nilFunc,bv false,.nilFunc]) D3z rfl) fun ao=>?_
  refine gc 0 [0] rfl (B7j rfl) fun ⟨aq,d,e,c⟩=>?_
  refine go 3 [0] rfl (Det.tri (I6.det (by exact G9 (V8 (B6c d e c) A5t rfl rfl rfl 0 rfl oki oki) (C2a d e c a.n)))) fun _=>?_
  refine hqV [4,5,6] [(10,ag [(cH a.n .nilFunc W4),bv (lkB a.n false A4y),(cH a.n .nilFunc (A8k d e c))]),(11,bv (S9 a.n W4))] ?_
  refine go 8 [0] rfl (D8 (us:=[(cH a.n .nilFunc W4),bv (lkB a.n false A4y),(cH a.n .nilFunc (A8k d e c))]) (cs':=[(cH a.n .nilFunc W4),bv (lkB a.n false A4y),(cH a.n .nilFunc (A8k d e c))]) D2r rfl rfl rfl 4 rfl rfl rfl (by simp only [List.all_cons,List.all_nil,Bool.and_true,Bool.and_eq_true];exact ⟨V6 rfl rfl,rfl,V6 rfl rfl⟩) rfl rfl) fun _=>?_
  refine hq1 [9] 4 rfl ?_
  refine ge ?_
  refine A5 (bN rfl (bO 3 14 rfl ?_))
  refine zio 4 13 14 18 (!decide (a.kind=39)) (fun a6=>?_) ?_
  ·refine bO 1 15 rfl (ix rfl (A2 (v:=iv a.kind) cA rfl rfl 5 rfl rfl) (bO 2 18 rfl ?_))
   exact A3 (O6 4 14 18 a6 bT bQ rfl rfl rfl rfl rfl)
  refine bO 1 19 rfl ?_
  refine zio 4 8 19 23 (!(decide (a.text=([]:List UInt8)))) (fun y=>?_) ?_
  ·have aj:=bU y
   refine bO 1 20 rfl (ix rfl (A2 (v:=sv a.text) ty9 rfl rfl 5 rfl rfl) (ix rfl (A4i rfl rfl rfl) (bO 1 23 rfl ?_)))
   exact A3 (O6 5 19 23 y bT bQ rfl rfl rfl rfl rfl)
  refine bO 1 24 rfl ?_
  refine zio 7 0 24 31 (!(B2p a.n a.m)) (fun k=>?_) ?_
  ·have ac:=bU k
   refine bO 1 25 rfl (ix rfl (A2 (v:=(cH a.n .nilFunc W4)) B5j rfl rfl 4 rfl rfl) (bO 1 27 rfl (ix rfl (A2 (v:=iv a.m) cA rfl rfl 5 rfl rfl) (ixc rfl (R4 (B9k a.n a.m och _ rfl) rfl rfl rfl rfl bT) (bO 2 31 rfl ?_)))))
   exact A3 (O6 7 24 31 k bT bQ rfl rfl rfl rfl rfl)
  refine ie ?_
  refine zjb rfl hR ?_ ?_<;>clear hR<;>intro hR z
  ·have s:=bU z
   refine bN rfl (bO 1 2 rfl ?_)
   subst hR
   refine ie (A8 ?_)
   exact G0 hr hD
  have s:=bU z
  refine A4 (nx (A5 (bN rfl (bO 1 32 rfl (ix rfl (A2 (v:=bv (lkB a.n false A4y)) ty4 rfl rfl 4 rfl rfl) (bO 2 35 rfl ?_))))))
  refine zia 5 6 35 40 (!(decide (a.color=Col.zero))) (fun a7=>?_) ?_
  ·refine bO 1 36 rfl (ix rfl (D6 (us:=P0 a.color) A8u rfl rfl 5 rfl rfl rfl) (bY 1 2 [] [(38,ag (P0 Col.zero))] (ix rfl (X1 (a:=a.color) (b:=Col.zero) B2t rfl rfl rfl) (bO 1 40 rfl ?_))))
   exact A3 (O6 6 35 40 a7 bT bQ rfl rfl rfl rfl rfl)
  refine bO 1 41 rfl ?_
  refine zio 5 0 41 46 (!decide ((G3 a.color)=0)) (fun i=>?_) ?_
  ·have ab:=bU i
   refine bO 1 42 rfl (ix rfl (D6 (us:=P0 a.color) A8u rfl rfl 5 rfl rfl rfl) (zv rfl (A0p rfl) (bO 2 46 rfl ?_)))
   exact A3 (O6 5 41 46 i bT bQ rfl rfl rfl rfl rfl)
  refine ie ?_
  refine zjb rfl hR ?_ ?_<;>clear hR<;>intro hR a2
  ·have p:=bU a2
   refine bN rfl (bO 1 2 rfl ?_)
   subst hR
   refine ie (A8 ?_)
   exact G0 hr hD
  have p:=bU a2
  refine A4 (nx (bN rfl (bO 1 2 rfl ?_)))
  subst hR
  refine ie (A8 ?_)
  exact G0 hr hD
def D5 (s:Sty):Int :=
 (bif (((!decide ((bW .andNot .i64 s.attr 255)=0))||(decide (s.under<0)))||(decide ((5:Int)<s.under))) then 140 else (bif (!decide ((G3 s.fore)=0)) then (G3 s.fore) else (bif (!decide ((G3 s.back)=0)) then (G3 s.back) else (bif (!decide ((G3 s.line)=0)) then (G3 s.line) else 0))))
theorem V1 {s:Sty} {R:Int} (hR:D5 s=R):J5 Tryz.prog 13 [ag (B3 s)] [] (iv R):=by
 refine bZ Tryz.func13 fun X hX hr hD=>?_
 replace hR:=(D5.eq_1 ..).symm.trans hR
 refine bN rfl (zra 2 [] (fun g=>[(1,pt g 0)]) (fun _=>(B3 s)) 26 fun g=>(ie (A5 (bN rfl (cE 5 [0] 10 rfl ?_)))))
 refine zio 4 5 10 14 (decide (s.under<0)) (fun i=>?_) ?_
 ·have p:=bU i
  refine cE 4 [0] 14 rfl ?_
  exact A3 (O6 2 10 14 i bT bQ rfl rfl rfl rfl rfl)
 refine bO 1 15 rfl ?_
 refine zio 4 0 15 19 (decide ((5:Int)<s.under)) (fun f=>?_) ?_
 ·have m:=bU f
  refine cE 4 [0] 19 rfl ?_
  exact A3 (O6 2 15 19 f bT bQ rfl rfl rfl rfl rfl)
 refine ie ?_
 refine zjb rfl hR ?_ ?_<;>clear hR<;>intro hR j
 ·have a:=bU j
  refine bN rfl (bO 1 2 rfl ?_)
  subst hR
  refine ie (A8 ?_)
  exact G0 hr hD
 have a:=bU j
 refine A4 (nx (A5 (bN rfl (bY 8 0 [0,0,0] [(26,ag [iv s.fore.kind,iv s.fore.n,iv s.back.kind,iv s.back.n,iv s.line.kind,iv s.line.n]),(27,iv 0)] (ie (B2 (Z6 5 ?_)))))))
 refine D9 (bN rfl (bO 1 28 rfl ?_))
 refine ie (A5 (J9 rfl (A4 (nx (A5 (B2 (bN rfl (ix rfl (E9 (v:=ag [iv s.fore.kind,iv s.fore.n]) (us:=[iv s.fore.kind,iv s.fore.n]) Tryz.underlying93 A8u rfl rfl rfl 0 rfl ozw rfl rfl rfl) ?_))))))))
 refine zra 2 [0] (fun e=>[(4,pt e 0)]) (fun _=>(P0 s.fore)) 24 fun e=>?_
 refine ie (bN rfl (bY 1 2 [0] [(30,ag (P0 s.fore))] (zv rfl (A0p rfl) (bO 1 5 rfl (ie (bN rfl (bO 2 33 rfl (ie ?_))))))))
 refine zjn rfl hR ?_ ?_<;>clear hR<;>intro hR r k
 ·refine bN rfl (bO 2 2 rfl ?_)
  subst hR
  refine ie (A8 ?_)
  exact G0 hr hD
 refine A4 (nx (A0 2 rfl (ix rfl (B4 (c:=1) rfl rfl rfl rfl ozw) (bO 1 27 rfl (A3 (D9 (bN rfl (bO 1 28 rfl (ie (A5 (J9 rfl (A4 (nx (A5 (B2 (bN rfl (ix rfl (E9 (v:=ag [iv s.back.kind,iv s.back.n]) (us:=[iv s.back.kind,iv s.back.n]) Tryz.underlying93 A8u rfl rfl rfl 1 rfl ozw rfl rfl rfl) ?_)))))))))))))))))
 refine zra 2 [0] (fun b=>[(4,pt b 0)]) (fun _=>(P0 s.back)) 24 fun b=>?_
 refine ie (bN rfl (bY 1 2 [0] [(30,ag (P0 s.back))] (zv rfl (A0p rfl) (bO 1 5 rfl (ie (bN rfl (bO 2 33 rfl (ie ?_))))))))
 refine zjn rfl hR ?_ ?_<;>clear hR<;>intro hR q l
 ·refine bN rfl (bO 2 2 rfl ?_)
  subst hR
  refine ie (A8 ?_)
  exact G0 hr hD
 refine A4 (nx (A0 2 rfl (ix rfl (B4 (c:=2) rfl rfl rfl rfl ozw) (bO 1 27 rfl (A3 (D9 (bN rfl (bO 1 28 rfl (ie (A5 (J9 rfl (A4 (nx (A5 (B2 (bN rfl (ix rfl (E9 (v:=ag [iv s.line.kind,iv s.line.n]) (us:=[iv s.line.kind,iv s.line.n]) Tryz.underlying93 A8u rfl rfl rfl 2 rfl ozw rfl rfl rfl) ?_)))))))))))))))))
 refine zra 2 [0] (fun h=>[(4,pt h 0)]) (fun _=>(P0 s.line)) 24 fun h=>?_
 refine ie (bN rfl (bY 1 2 [0] [(30,ag (P0 s.line))] (zv rfl (A0p rfl) (bO 1 5 rfl (ie (bN rfl (bO 2 33 rfl (ie ?_))))))))
 refine zjn rfl hR ?_ ?_<;>clear hR<;>intro hR o d
 ·refine bN rfl (bO 2 2 rfl ?_)
  subst hR
  refine ie (A8 ?_)
  exact G0 hr hD
 refine A4 (nx (A0 2 rfl (ix rfl (B4 (c:=3) rfl rfl rfl rfl ozw) (bO 1 27 rfl (A3 (D9 (bN rfl (bO 1 28 rfl (ie (A5 (Z1 rfl (G6 (nx (bN rfl (bO 1 2 rfl ?_)))))))))))))))
 subst hR
 refine ie (A8 ?_)
 exact G0 hr hD
theorem D9p:ApTy Tryz.prog 209 264 1 24:=⟨by kernel_rfl,by kernel_rfl,rfl⟩
theorem A2p:SlTy Tryz.prog 28 60 6:=⟨by kernel_rfl,by kernel_rfl⟩
theorem C2d:SlTy Tryz.prog 209 264 1:=⟨by kernel_rfl,by kernel_rfl⟩
theorem B7m:Ty Tryz.prog 60 6 true:=⟨by kernel_rfl⟩
theorem A1o:Ty Tryz.prog 264 1 true:=⟨by kernel_rfl⟩
theorem C6s:Ty Tryz.prog 319 3 true:=⟨by kernel_rfl⟩
theorem F3n:Ty Tryz.prog 320 24 true:=⟨by kernel_rfl⟩
def Q7 (l:List Int):List Int :=
 l
theorem O7 {l:List Int} {lq:Option Addr} {lk:Nat} {R:List Int} (hR:Q7 l=R) (c:l.length≤9223372036854775807:=by exact bP) (b:l.length≤lk:=by exact bP):cI Tryz.prog 269 [.slice lq l.length lk] [] [sl J8 lq l] ({t:Option Addr×Nat // R.length≤t.2∧R.length≤9223372036854775807}) (fun x=>ag [.slice x.1.1 R.length x.1.2]) (fun x=>[]) (fun x=>[sl J8 x.1.1 R]):=by
 refine bZ Tryz.func269 fun X hX hr hD=>?_
 replace hR:=(Q7.eq_1 ..).symm.trans hR
 refine bN rfl (zra 1 [] (fun a=>[(2,pt a 0)]) (fun _=>[.slice none 0 0]) 264 fun a=>(ie (bN rfl (zru 3 [0] [] 0 (bx a [.slice lq l.length lk] 264) ?_))))
 subst hR
 refine ie (A8 ?_)
 exact cD hr hD (N4 rfl (D4 (us:=[.slice lq l.length lk]) A1o rfl 0 rfl rfl rfl)) (zq lq lk) bQ c9
def C2n (a:Act):List Int :=
 (bif (decide (a.color.kind=0)) then (C2 (Q7 ([(IntKind.i64.wrap ((IntKind.i64.wrap ((38:Int)+(IntKind.i64.wrap ((10:Int) * (IntKind.i64.wrap (a.n - (4:Int)))))))+(1:Int)))]:List Int)) fun (d:List Int)=>d) else (bif (decide (a.color.kind=2)) then (C2 (Q7 ([(IntKind.i64.wrap ((38:Int)+(IntKind.i64.wrap ((10:Int) * (IntKind.i64.wrap (a.n - (4:Int))))))),2,(-1),(a.color.n / 65536),(bW .and .i64 (a.color.n / 256) 255),(bW .and .i64 a.color.n 255)]:List Int)) fun (f:List Int)=>f) else (bif ((decide (a.color.n<8))&&(!decide (a.n=6))) then (C2 (Q7 ([(IntKind.i64.wrap ((IntKind.i64.wrap ((IntKind.i64.wrap ((38:Int)+(IntKind.i64.wrap ((10:Int) * (IntKind.i64.wrap (a.n - (4:Int))))))) - (8:Int)))+a.color.n))]:List Int)) fun (c:List Int)=>c) else (bif ((decide (a.color.n<16))&&(!decide (a.n=6))) then (C2 (Q7 ([(IntKind.i64.wrap ((IntKind.i64.wrap ((IntKind.i64.wrap ((IntKind.i64.wrap ((38:Int)+(IntKind.i64.wrap ((10:Int) * (IntKind.i64.wrap (a.n - (4:Int)))))))+(52:Int)))+a.color.n)) - (8:Int)))]:List Int)) fun (e:List Int)=>e) else (C2 (Q7 ([(IntKind.i64.wrap ((38:Int)+(IntKind.i64.wrap ((10:Int) * (IntKind.i64.wrap (a.n - (4:Int))))))),5,a.color.n]:List Int)) fun (b:List Int)=>b)))))
theorem D3o {a:Act} {R:List Int} (hR:C2n a=R):cI Tryz.prog 270 [ag (A1 a)] [] [] ({t:Option Addr×Nat // R.length≤t.2∧R.length≤9223372036854775807}) (fun x=>ag [.slice x.1.1 R.length x.1.2]) (fun x=>[]) (fun x=>[sl J8 x.1.1 R]):=by
 refine bZ Tryz.func270 fun X hX hr hD=>?_
 replace hR:=(C2n.eq_1 ..).symm.trans hR
 refine bN rfl (A8c 2 [] (fun b1 g=>[(1,pt b1 0),(2,pt g 0)]) (fun _ _=>(A1 a)) (fun _ _=>[.slice none 0 0]) 60 264 fun b1 g=>(ie (bN rfl (cE 2 [1] 6 rfl (ix rfl (I6.pure rfl) (ix rfl (I6.pure rfl) (ix rfl (I6.pure rfl) (bO 1 3 rfl (ie (bN rfl (cE 4 [1] 4 rfl ?_)))))))))))
 refine ie (B2 (bN rfl (cE 5 [1] 17 rfl (ie ?_))))
 refine zjd rfl hR ?_ ?_<;>clear hR<;>intro hR h3 b3
 ·refine bN rfl (bO 1 22 rfl (ix rfl (I6.pure rfl) (it rfl (C1 (c:=J8) (xs:=([(IntKind.i64.wrap ((IntKind.i64.wrap ((38:Int)+(IntKind.i64.wrap ((10:Int) * (IntKind.i64.wrap (a.n - (4:Int)))))))+(1:Int)))]:List Int)) L4 rfl rfl rfl oki) fun b4=>?_)))
  have:([(IntKind.i64.wrap ((IntKind.i64.wrap ((38:Int)+(IntKind.i64.wrap ((10:Int) * (IntKind.i64.wrap (a.n - (4:Int)))))))+(1:Int)))]:List Int).length=1:=rfl
  have b:=C9 hR;clear hR;obtain ⟨y0,a3,hR⟩:=b
  refine zc rfl (O7 (l:=([(IntKind.i64.wrap ((IntKind.i64.wrap ((38:Int)+(IntKind.i64.wrap ((10:Int) * (IntKind.i64.wrap (a.n - (4:Int)))))))+(1:Int)))]:List Int)) (lq:=(some ⟨b4,0,none⟩)) (lk:=1) a3) fun ⟨⟨z,k6⟩,a1⟩=>?_
  obtain ⟨az,ax⟩:=a1
  refine zru 1 [0] [] 0 (bx g [.slice z y0.length k6] 264) ?_
  subst hR
  refine ie (A8 ?_)
  exact cD hr hD (N4 rfl (D4 (us:=[.slice z y0.length k6]) A1o rfl 0 rfl rfl rfl)) (zq z k6) bQ c9
 refine bN rfl (cE 5 [1] 26 rfl (ie ?_))
 refine zjd rfl hR ?_ ?_<;>clear hR<;>intro hR b5 ac
 ·refine bN rfl (cJ 2 31 32 rfl ?_)
  refine ix rfl (U3 (c:=a.color.n / 65536) rfl rfl rfl ozw (by simp [Int.fdiv_eq_ediv_of_nonneg,IntKind.bits])) (bO 1 34 rfl ?_)
  refine ix rfl (U3 (c:=a.color.n / 256) rfl rfl rfl ozw (by simp [Int.fdiv_eq_ediv_of_nonneg,IntKind.bits])) (cJ 3 36 38 rfl (it rfl (C1 (c:=J8) (xs:=([(IntKind.i64.wrap ((38:Int)+(IntKind.i64.wrap ((10:Int) * (IntKind.i64.wrap (a.n - (4:Int))))))),2,(-1),(a.color.n / 65536),(bW .and .i64 (a.color.n / 256) 255),(bW .and .i64 a.color.n 255)]:List Int)) L4 rfl rfl rfl oki) fun y=>?_))
  have:([(IntKind.i64.wrap ((38:Int)+(IntKind.i64.wrap ((10:Int) * (IntKind.i64.wrap (a.n - (4:Int))))))),2,(-1),(a.color.n / 65536),(bW .and .i64 (a.color.n / 256) 255),(bW .and .i64 a.color.n 255)]:List Int).length=6:=rfl
  have b:=C9 hR;clear hR;obtain ⟨y1,a6,hR⟩:=b
  refine zc rfl (O7 (l:=([(IntKind.i64.wrap ((38:Int)+(IntKind.i64.wrap ((10:Int) * (IntKind.i64.wrap (a.n - (4:Int))))))),2,(-1),(a.color.n / 65536),(bW .and .i64 (a.color.n / 256) 255),(bW .and .i64 a.color.n 255)]:List Int)) (lq:=(some ⟨y,0,none⟩)) (lk:=6) a6) fun ⟨⟨d,i⟩,u⟩=>?_
  obtain ⟨aq,ao⟩:=u
  refine zru 1 [0] [] 0 (bx g [.slice d y1.length i] 264) ?_
  subst hR
  refine ie (A8 ?_)
  exact cD hr hD (N4 rfl (D4 (us:=[.slice d y1.length i]) A1o rfl 0 rfl rfl rfl)) (zq d i) bQ c9
 refine bN rfl (bO 3 44 rfl ?_)
 refine zid 4 1 44 48 (!decide (a.n=6)) (fun a0 af=>?_) ?_
 ·refine cE 4 [1] 48 rfl ?_
  exact A3 (O6 2 44 48 a0 bT bQ rfl rfl rfl rfl rfl)
 refine bO 1 41 rfl (ie ?_)
 refine zjb rfl hR ?_ ?_<;>clear hR<;>intro hR w
 ·have q:=bU w
  refine bN rfl (bO 1 49 rfl (ix rfl (I6.pure rfl) (bO 1 51 rfl (ix rfl (I6.pure rfl) (it rfl (C1 (c:=J8) (xs:=([(IntKind.i64.wrap ((IntKind.i64.wrap ((IntKind.i64.wrap ((38:Int)+(IntKind.i64.wrap ((10:Int) * (IntKind.i64.wrap (a.n - (4:Int))))))) - (8:Int)))+a.color.n))]:List Int)) L4 rfl rfl rfl oki) fun aa=>?_)))))
  have:([(IntKind.i64.wrap ((IntKind.i64.wrap ((IntKind.i64.wrap ((38:Int)+(IntKind.i64.wrap ((10:Int) * (IntKind.i64.wrap (a.n - (4:Int))))))) - (8:Int)))+a.color.n))]:List Int).length=1:=rfl
  have b:=C9 hR;clear hR;obtain ⟨y3,a2,hR⟩:=b
  refine zc rfl (O7 (l:=([(IntKind.i64.wrap ((IntKind.i64.wrap ((IntKind.i64.wrap ((38:Int)+(IntKind.i64.wrap ((10:Int) * (IntKind.i64.wrap (a.n - (4:Int))))))) - (8:Int)))+a.color.n))]:List Int)) (lq:=(some ⟨aa,0,none⟩)) (lk:=1) a2) fun ⟨⟨k,m⟩,v⟩=>?_
  obtain ⟨av,aj⟩:=v
  refine zru 1 [0] [] 0 (bx g [.slice k y3.length m] 264) ?_
  subst hR
  refine ie (A8 ?_)
  exact cD hr hD (N4 rfl (D4 (us:=[.slice k y3.length m]) A1o rfl 0 rfl rfl rfl)) (zq k m) bQ c9
 have q:=bU w
 refine bN rfl (bO 3 58 rfl ?_)
 refine zid 4 1 58 62 (!decide (a.n=6)) (fun a7 au=>?_) ?_
 ·refine cE 4 [1] 62 rfl ?_
  exact A3 (O6 2 58 62 a7 bT bQ rfl rfl rfl rfl rfl)
 refine bO 1 55 rfl (ie ?_)
 refine zjb rfl hR ?_ ?_<;>clear hR<;>intro hR o
 ·have s:=bU o
  refine bN rfl (bO 1 63 rfl (ix rfl (I6.pure rfl) (bO 1 65 rfl (ix rfl (I6.pure rfl) (ix rfl (I6.pure rfl) (it rfl (C1 (c:=J8) (xs:=([(IntKind.i64.wrap ((IntKind.i64.wrap ((IntKind.i64.wrap ((IntKind.i64.wrap ((38:Int)+(IntKind.i64.wrap ((10:Int) * (IntKind.i64.wrap (a.n - (4:Int)))))))+(52:Int)))+a.color.n)) - (8:Int)))]:List Int)) L4 rfl rfl rfl oki) fun a8=>?_))))))
  have:([(IntKind.i64.wrap ((IntKind.i64.wrap ((IntKind.i64.wrap ((IntKind.i64.wrap ((38:Int)+(IntKind.i64.wrap ((10:Int) * (IntKind.i64.wrap (a.n - (4:Int)))))))+(52:Int)))+a.color.n)) - (8:Int)))]:List Int).length=1:=rfl
  have b:=C9 hR;clear hR;obtain ⟨y4,a4,hR⟩:=b
  refine zc rfl (O7 (l:=([(IntKind.i64.wrap ((IntKind.i64.wrap ((IntKind.i64.wrap ((IntKind.i64.wrap ((38:Int)+(IntKind.i64.wrap ((10:Int) * (IntKind.i64.wrap (a.n - (4:Int)))))))+(52:Int)))+a.color.n)) - (8:Int)))]:List Int)) (lq:=(some ⟨a8,0,none⟩)) (lk:=1) a4) fun ⟨⟨h,j⟩,p⟩=>?_
  obtain ⟨ae,an⟩:=p
  refine zru 1 [0] [] 0 (bx g [.slice h y4.length j] 264) ?_
  subst hR
  refine ie (A8 ?_)
  exact cD hr hD (N4 rfl (D4 (us:=[.slice h y4.length j]) A1o rfl 0 rfl rfl rfl)) (zq h j) bQ c9
 have s:=bU o
 refine bN rfl (cJ 2 13 14 rfl (it rfl (C1 (c:=J8) (xs:=([(IntKind.i64.wrap ((38:Int)+(IntKind.i64.wrap ((10:Int) * (IntKind.i64.wrap (a.n - (4:Int))))))),5,a.color.n]:List Int)) L4 rfl rfl rfl oki) fun a5=>?_))
 have:([(IntKind.i64.wrap ((38:Int)+(IntKind.i64.wrap ((10:Int) * (IntKind.i64.wrap (a.n - (4:Int))))))),5,a.color.n]:List Int).length=3:=rfl
 have b:=C9 hR;clear hR;obtain ⟨y5,ab,hR⟩:=b
 refine zc rfl (O7 (l:=([(IntKind.i64.wrap ((38:Int)+(IntKind.i64.wrap ((10:Int) * (IntKind.i64.wrap (a.n - (4:Int))))))),5,a.color.n]:List Int)) (lq:=(some ⟨a5,0,none⟩)) (lk:=3) ab) fun ⟨⟨f,e⟩,r⟩=>?_
 obtain ⟨am,ah⟩:=r
 refine zru 1 [0] [] 0 (bx g [.slice f y5.length e] 264) ?_
 subst hR
 refine ie (A8 ?_)
 exact cD hr hD (N4 rfl (D4 (us:=[.slice f y5.length e]) A1o rfl 0 rfl rfl rfl)) (zq f e) bQ c9
def D0j (a:Act):List Int :=
 (bif (decide (a.n=0)) then (C2 (Q7 ([0]:List Int)) fun (t:List Int)=>t) else (bif ((decide (a.n=3))&&(decide (a.m=0))) then (C2 (Q7 ([24]:List Int)) fun (w:List Int)=>w) else (bif ((decide (a.n=3))&&(decide (a.m=1))) then (C2 (Q7 ([4]:List Int)) fun (v:List Int)=>v) else (bif (decide (a.n=3)) then (C2 (Q7 ([4,a.m]:List Int)) fun (p:List Int)=>p) else (bif (decide ((4:Int)≤a.n)) then (C2 (C2n a) fun (q:List Int)=>q) else (bif (decide ((bW .and .i64 1 a.m)=0)) then (bif (decide ((bW .and .i64 2 a.m)=0)) then (bif (decide ((bW .and .i64 4 a.m)=0)) then (bif (decide ((bW .and .i64 8 a.m)=0)) then (bif (decide ((bW .and .i64 16 a.m)=0)) then (bif (decide ((bW .and .i64 32 a.m)=0)) then (bif (decide ((bW .and .i64 64 a.m)=0)) then (bif (decide ((bW .and .i64 128 a.m)=0)) then ([]:List Int) else (bif (decide (a.n=1)) then (C2 (Q7 ([53]:List Int)) fun (u:List Int)=>u) else (C2 (Q7 ([55]:List Int)) fun (k:List Int)=>k))) else (bif (decide (a.n=1)) then (C2 (Q7 ([9]:List Int)) fun (e:List Int)=>e) else (C2 (Q7 ([29]:List Int)) fun (l:List Int)=>l))) else (bif (decide (a.n=1)) then (C2 (Q7 ([8]:List Int)) fun (x:List Int)=>x) else (C2 (Q7 ([28]:List Int)) fun (f:List Int)=>f))) else (bif (decide (a.n=1)) then (C2 (Q7 ([7]:List Int)) fun (s:List Int)=>s) else (C2 (Q7 ([27]:List Int)) fun (o:List Int)=>o))) else (bif (decide (a.n=1)) then (C2 (Q7 ([5]:List Int)) fun (r:List Int)=>r) else (C2 (Q7 ([25]:List Int)) fun (j:List Int)=>j))) else (bif (decide (a.n=1)) then (C2 (Q7 ([3]:List Int)) fun (d:List Int)=>d) else (C2 (Q7 ([23]:List Int)) fun (h:List Int)=>h))) else (bif (decide (a.n=1)) then (C2 (Q7 ([2]:List Int)) fun (b:List Int)=>b) else (C2 (Q7 ([22]:List Int)) fun (g:List Int)=>g))) else (bif (decide (a.n=1)) then (C2 (Q7 ([1]:List Int)) fun (c:List Int)=>c) else (C2 (Q7 ([22]:List Int)) fun (i:List Int)=>i))))))))
theorem D9g {a:Act} {R:List Int} (hR:D0j a=R):cI Tryz.prog 228 [ag (A1 a)] [] [P4] ({t:Option Addr×Nat // R.length≤t.2∧R.length≤9223372036854775807}) (fun x=>ag [.slice x.1.1 R.length x.1.2]) (fun x=>[]) (fun x=>[sl J8 x.1.1 R]):=by
 refine bZ Tryz.func228 fun X hX hr hD=>?_
 replace hR:=(D0j.eq_1 ..).symm.trans hR
 refine bN rfl (A8c 2 [] (fun b1 d=>[(1,pt b1 0),(2,pt d 0)]) (fun _ _=>(A1 a)) (fun _ _=>[.slice none 0 0]) 60 264 fun b1 d=>(ie (A5 (B2 (bN rfl (cE 4 [1] 5 rfl (ie ?_)))))))
 refine zjd rfl hR ?_ ?_<;>clear hR<;>intro hR h3 fy
 ·refine bN rfl (it rfl (C1 (c:=J8) (xs:=([0]:List Int)) L4 rfl rfl rfl oki) fun b4=>?_)
  have:([0]:List Int).length=1:=rfl
  have b:=C9 hR;clear hR;obtain ⟨y0,e2,hR⟩:=b
  refine zc rfl (O7 (l:=([0]:List Int)) (lq:=(some ⟨b4,0,none⟩)) (lk:=1) e2) fun ⟨⟨q5,k6⟩,e0⟩=>?_
  obtain ⟨fu,fx⟩:=e0
  refine zru 1 [0] [] 0 (bx d [.slice q5 y0.length k6] 264) ?_
  subst hR
  refine ie (A8 ?_)
  exact cD hr hD (N4 rfl (D4 (us:=[.slice q5 y0.length k6]) A1o rfl 0 rfl rfl rfl)) (zq q5 k6) bQ c9
 refine bN rfl (cE 4 [1] 15 rfl ?_)
 refine zid 4 1 15 19 (decide (a.m=0)) (fun dk fq=>?_) ?_
 ·refine cE 4 [1] 19 rfl ?_
  exact zai 2 15 19 dk
 refine bO 1 11 rfl (ie ?_)
 refine zja rfl hR ?_ ?_<;>clear hR<;>intro hR g8 et
 ·refine bN rfl (it rfl (C1 (c:=J8) (xs:=([24]:List Int)) L4 rfl rfl rfl oki) fun d9=>?_)
  have:([24]:List Int).length=1:=rfl
  have b:=C9 hR;clear hR;obtain ⟨y1,e6,hR⟩:=b
  refine zc rfl (O7 (l:=([24]:List Int)) (lq:=(some ⟨d9,0,none⟩)) (lk:=1) e6) fun ⟨⟨a3,ac⟩,cd⟩=>?_
  obtain ⟨eg,eu⟩:=cd
  refine zru 1 [0] [] 0 (bx d [.slice a3 y1.length ac] 264) ?_
  subst hR
  refine ie (A8 ?_)
  exact cD hr hD (N4 rfl (D4 (us:=[.slice a3 y1.length ac]) A1o rfl 0 rfl rfl rfl)) (zq a3 ac) bQ c9
 refine bN rfl (cE 4 [1] 26 rfl ?_)
 refine zid 4 1 26 30 (decide (a.m=1)) (fun du fh=>?_) ?_
 ·refine cE 4 [1] 30 rfl ?_
  exact zai 2 26 30 du
 refine bO 1 22 rfl (ie ?_)
 refine zja rfl hR ?_ ?_<;>clear hR<;>intro hR fw ef
 ·refine bN rfl (it rfl (C1 (c:=J8) (xs:=([4]:List Int)) L4 rfl rfl rfl oki) fun dy=>?_)
  have:([4]:List Int).length=1:=rfl
  have b:=C9 hR;clear hR;obtain ⟨y3,cy,hR⟩:=b
  refine zc rfl (O7 (l:=([4]:List Int)) (lq:=(some ⟨dy,0,none⟩)) (lk:=1) cy) fun ⟨⟨a8,au⟩,b5⟩=>?_
  obtain ⟨fj,f1⟩:=b5
  refine zru 1 [0] [] 0 (bx d [.slice a8 y3.length au] 264) ?_
  subst hR
  refine ie (A8 ?_)
  exact cD hr hD (N4 rfl (D4 (us:=[.slice a8 y3.length au]) A1o rfl 0 rfl rfl rfl)) (zq a8 au) bQ c9
 refine bN rfl (cE 4 [1] 33 rfl (ie ?_))
 refine zjd rfl hR ?_ ?_<;>clear hR<;>intro hR g3 ei
 ·refine bN rfl (cE 2 [1] 38 rfl (it rfl (C1 (c:=J8) (xs:=([4,a.m]:List Int)) L4 rfl rfl rfl oki) fun df=>?_))
  have:([4,a.m]:List Int).length=2:=rfl
  have b:=C9 hR;clear hR;obtain ⟨y4,d2,hR⟩:=b
  refine zc rfl (O7 (l:=([4,a.m]:List Int)) (lq:=(some ⟨df,0,none⟩)) (lk:=2) d2) fun ⟨⟨ar,al⟩,c6⟩=>?_
  obtain ⟨ea,ex⟩:=c6
  refine zru 1 [0] [] 0 (bx d [.slice ar y4.length al] 264) ?_
  subst hR
  refine ie (A8 ?_)
  exact cD hr hD (N4 rfl (D4 (us:=[.slice ar y4.length al]) A1o rfl 0 rfl rfl rfl)) (zq ar al) bQ c9
 refine bN rfl (cE 4 [1] 41 rfl (ie ?_))
 refine zjd rfl hR ?_ ?_<;>clear hR<;>intro hR g9 fe
 ·refine bN rfl (bY 1 2 [1] [(45,ag (A1 a))] ?_)
  have b:=C9 hR;clear hR;obtain ⟨y6,dq,hR⟩:=b
  refine zc rfl (D3o dq) fun ⟨⟨ai,ah⟩,b9⟩=>?_
  obtain ⟨ew,es⟩:=b9
  refine zru 1 [0] [] 0 (bx d [.slice ai y6.length ah] 264) ?_
  subst hR
  refine ie (A8 ?_)
  exact cD hr hD (N4 rfl (D4 (us:=[.slice ai y6.length ah]) A1o rfl 0 rfl rfl rfl)) (zq ai ah) bQ c9
 refine A4 (nx (A5 (bN rfl (ix rfl (K5 (us:=[iv 1,iv 1,iv 22,iv 2,iv 2,iv 22,iv 4,iv 3,iv 23,iv 8,iv 5,iv 25,iv 16,iv 7,iv 27,iv 32,iv 8,iv 28,iv 64,iv 9,iv 29,iv 128,iv 53,iv 55]) F3n rfl rfl (F1e 0 rfl oki) rfl) (bO 1 48 rfl (ie (B2 (Z6 10 ?_))))))))
 refine D9 (bN rfl (bO 1 49 rfl ?_))
 refine ie (A5 (J9 rfl (A4 (nx (A5 (B2 (bN rfl (ix rfl (E9 (v:=ag [iv 1,iv 1,iv 22]) (us:=[iv 1,iv 1,iv 22]) Tryz.underlying320 C6s rfl rfl rfl 0 rfl ozw rfl rfl rfl) ?_))))))))
 refine zra 2 [0] (fun bz=>[(4,pt bz 0)]) (fun _=>(C2v (⟨1,1,22⟩:Atr))) 319 fun bz=>?_
 refine ie (B2 (bN rfl (cE 7 [0,2] 55 rfl (ie ?_))))
 refine zjd rfl hR ?_ ?_<;>clear hR<;>intro hR fr el
 ·refine A4 (nx (A0 2 rfl (ix rfl (B4 (c:=1) rfl rfl rfl rfl ozw) (bO 1 48 rfl (A3 (D9 (bN rfl (bO 1 49 rfl (ie (A5 (J9 rfl (A4 (nx (A5 (B2 (bN rfl (ix rfl (E9 (v:=ag [iv 2,iv 2,iv 22]) (us:=[iv 2,iv 2,iv 22]) Tryz.underlying320 C6s rfl rfl rfl 1 rfl ozw rfl rfl rfl) ?_)))))))))))))))))
  refine zra 2 [0] (fun cb=>[(4,pt cb 0)]) (fun _=>(C2v (⟨2,2,22⟩:Atr))) 319 fun cb=>?_
  refine ie (B2 (bN rfl (cE 7 [0,3] 55 rfl (ie ?_))))
  refine zjd rfl hR ?_ ?_<;>clear hR<;>intro hR g1 f9
  ·refine A4 (nx (A0 2 rfl (ix rfl (B4 (c:=2) rfl rfl rfl rfl ozw) (bO 1 48 rfl (A3 (D9 (bN rfl (bO 1 49 rfl (ie (A5 (J9 rfl (A4 (nx (A5 (B2 (bN rfl (ix rfl (E9 (v:=ag [iv 4,iv 3,iv 23]) (us:=[iv 4,iv 3,iv 23]) Tryz.underlying320 C6s rfl rfl rfl 2 rfl ozw rfl rfl rfl) ?_)))))))))))))))))
   refine zra 2 [0] (fun bl=>[(4,pt bl 0)]) (fun _=>(C2v (⟨4,3,23⟩:Atr))) 319 fun bl=>?_
   refine ie (B2 (bN rfl (cE 7 [0,4] 55 rfl (ie ?_))))
   refine zjd rfl hR ?_ ?_<;>clear hR<;>intro hR g2 fc
   ·refine A4 (nx (A0 2 rfl (ix rfl (B4 (c:=3) rfl rfl rfl rfl ozw) (bO 1 48 rfl (A3 (D9 (bN rfl (bO 1 49 rfl (ie (A5 (J9 rfl (A4 (nx (A5 (B2 (bN rfl (ix rfl (E9 (v:=ag [iv 8,iv 5,iv 25]) (us:=[iv 8,iv 5,iv 25]) Tryz.underlying320 C6s rfl rfl rfl 3 rfl ozw rfl rfl rfl) ?_)))))))))))))))))
    refine zra 2 [0] (fun bb=>[(4,pt bb 0)]) (fun _=>(C2v (⟨8,5,25⟩:Atr))) 319 fun bb=>?_
    refine ie (B2 (bN rfl (cE 7 [0,5] 55 rfl (ie ?_))))
    refine zjd rfl hR ?_ ?_<;>clear hR<;>intro hR fs e9
    ·refine A4 (nx (A0 2 rfl (ix rfl (B4 (c:=4) rfl rfl rfl rfl ozw) (bO 1 48 rfl (A3 (D9 (bN rfl (bO 1 49 rfl (ie (A5 (J9 rfl (A4 (nx (A5 (B2 (bN rfl (ix rfl (E9 (v:=ag [iv 16,iv 7,iv 27]) (us:=[iv 16,iv 7,iv 27]) Tryz.underlying320 C6s rfl rfl rfl 4 rfl ozw rfl rfl rfl) ?_)))))))))))))))))
     refine zra 2 [0] (fun cn=>[(4,pt cn 0)]) (fun _=>(C2v (⟨16,7,27⟩:Atr))) 319 fun cn=>?_
     refine ie (B2 (bN rfl (cE 7 [0,6] 55 rfl (ie ?_))))
     refine zjd rfl hR ?_ ?_<;>clear hR<;>intro hR g5 er
     ·refine A4 (nx (A0 2 rfl (ix rfl (B4 (c:=5) rfl rfl rfl rfl ozw) (bO 1 48 rfl (A3 (D9 (bN rfl (bO 1 49 rfl (ie (A5 (J9 rfl (A4 (nx (A5 (B2 (bN rfl (ix rfl (E9 (v:=ag [iv 32,iv 8,iv 28]) (us:=[iv 32,iv 8,iv 28]) Tryz.underlying320 C6s rfl rfl rfl 5 rfl ozw rfl rfl rfl) ?_)))))))))))))))))
      refine zra 2 [0] (fun cq=>[(4,pt cq 0)]) (fun _=>(C2v (⟨32,8,28⟩:Atr))) 319 fun cq=>?_
      refine ie (B2 (bN rfl (cE 7 [0,7] 55 rfl (ie ?_))))
      refine zjd rfl hR ?_ ?_<;>clear hR<;>intro hR g6 ff
      ·refine A4 (nx (A0 2 rfl (ix rfl (B4 (c:=6) rfl rfl rfl rfl ozw) (bO 1 48 rfl (A3 (D9 (bN rfl (bO 1 49 rfl (ie (A5 (J9 rfl (A4 (nx (A5 (B2 (bN rfl (ix rfl (E9 (v:=ag [iv 64,iv 9,iv 29]) (us:=[iv 64,iv 9,iv 29]) Tryz.underlying320 C6s rfl rfl rfl 6 rfl ozw rfl rfl rfl) ?_)))))))))))))))))
       refine zra 2 [0] (fun bw=>[(4,pt bw 0)]) (fun _=>(C2v (⟨64,9,29⟩:Atr))) 319 fun bw=>?_
       refine ie (B2 (bN rfl (cE 7 [0,8] 55 rfl (ie ?_))))
       refine zjd rfl hR ?_ ?_<;>clear hR<;>intro hR fv fn
       ·refine A4 (nx (A0 2 rfl (ix rfl (B4 (c:=7) rfl rfl rfl rfl ozw) (bO 1 48 rfl (A3 (D9 (bN rfl (bO 1 49 rfl (ie (A5 (J9 rfl (A4 (nx (A5 (B2 (bN rfl (ix rfl (E9 (v:=ag [iv 128,iv 53,iv 55]) (us:=[iv 128,iv 53,iv 55]) Tryz.underlying320 C6s rfl rfl rfl 7 rfl ozw rfl rfl rfl) ?_)))))))))))))))))
        refine zra 2 [0] (fun b6=>[(4,pt b6 0)]) (fun _=>(C2v (⟨128,53,55⟩:Atr))) 319 fun b6=>?_
        refine ie (B2 (bN rfl (cE 7 [0,9] 55 rfl (ie ?_))))
        refine zjd rfl hR ?_ ?_<;>clear hR<;>intro hR g4 f6
        ·refine A4 (nx (A0 2 rfl (ix rfl (B4 (c:=8) rfl rfl rfl rfl ozw) (bO 1 48 rfl (A3 (D9 (bN rfl (bO 1 49 rfl (ie (A5 (Z1 rfl (G6 (nx (bN rfl (zru 2 [8] [] 8 (bx d [.slice none 0 0] 264) ?_)))))))))))))))
         subst hR
         refine ie (A8 ?_)
         exact cD hr hD (N4 rfl (D4 (us:=[.slice none 0 0]) A1o rfl 8 rfl rfl rfl)) (zq none 0) bQ c9
        refine bN rfl (cE 4 [9] 62 rfl (ie ?_))
        refine zjd rfl hR ?_ ?_<;>clear hR<;>intro hR g0 fp
        ·refine bN rfl (cE 2 [0] 67 rfl (it rfl (C1 (c:=J8) (xs:=([53]:List Int)) L4 rfl rfl rfl oki) fun d1=>?_))
         have:([53]:List Int).length=1:=rfl
         have b:=C9 hR;clear hR;obtain ⟨y5,dg,hR⟩:=b
         refine zc rfl (O7 (l:=([53]:List Int)) (lq:=(some ⟨d1,0,none⟩)) (lk:=1) dg) fun ⟨⟨a7,am⟩,c4⟩=>?_
         obtain ⟨ee,fl⟩:=c4
         refine zru 1 [8] [] 8 (bx d [.slice a7 y5.length am] 264) ?_
         subst hR
         refine ie (A8 ?_)
         exact cD hr hD (N4 rfl (D4 (us:=[.slice a7 y5.length am]) A1o rfl 8 rfl rfl rfl)) (zq a7 am) bQ c9
        refine bN rfl (cE 2 [0] 52 rfl (it rfl (C1 (c:=J8) (xs:=([55]:List Int)) L4 rfl rfl rfl oki) fun d5=>?_))
        have:([55]:List Int).length=1:=rfl
        have b:=C9 hR;clear hR;obtain ⟨ca,bh,hR⟩:=b
        refine zc rfl (O7 (l:=([55]:List Int)) (lq:=(some ⟨d5,0,none⟩)) (lk:=1) bh) fun ⟨⟨an,aa⟩,bo⟩=>?_
        obtain ⟨ej,ez⟩:=bo
        refine zru 1 [8] [] 8 (bx d [.slice an ca.length aa] 264) ?_
        subst hR
        refine ie (A8 ?_)
        exact cD hr hD (N4 rfl (D4 (us:=[.slice an ca.length aa]) A1o rfl 8 rfl rfl rfl)) (zq an aa) bQ c9
       refine bN rfl (cE 4 [8] 62 rfl (ie ?_))
       refine zjd rfl hR ?_ ?_<;>clear hR<;>intro hR g7 fi
       ·refine bN rfl (cE 2 [0] 67 rfl (it rfl (C1 (c:=J8) (xs:=([9]:List Int)) L4 rfl rfl rfl oki) fun cu=>?_))
        have:([9]:List Int).length=1:=rfl
        have b:=C9 hR;clear hR;obtain ⟨bu,bk,hR⟩:=b
        refine zc rfl (O7 (l:=([9]:List Int)) (lq:=(some ⟨cu,0,none⟩)) (lk:=1) bk) fun ⟨⟨ak,aw⟩,cg⟩=>?_
        obtain ⟨f0,fd⟩:=cg
        refine zru 1 [7] [] 7 (bx d [.slice ak bu.length aw] 264) ?_
        subst hR
        refine ie (A8 ?_)
        exact cD hr hD (N4 rfl (D4 (us:=[.slice ak bu.length aw]) A1o rfl 7 rfl rfl rfl)) (zq ak aw) bQ c9
       refine bN rfl (cE 2 [0] 52 rfl (it rfl (C1 (c:=J8) (xs:=([29]:List Int)) L4 rfl rfl rfl oki) fun e3=>?_))
       have:([29]:List Int).length=1:=rfl
       have b:=C9 hR;clear hR;obtain ⟨cr,c1,hR⟩:=b
       refine zc rfl (O7 (l:=([29]:List Int)) (lq:=(some ⟨e3,0,none⟩)) (lk:=1) c1) fun ⟨⟨af,a6⟩,bm⟩=>?_
       obtain ⟨em,ek⟩:=bm
       refine zru 1 [7] [] 7 (bx d [.slice af cr.length a6] 264) ?_
       subst hR
       refine ie (A8 ?_)
       exact cD hr hD (N4 rfl (D4 (us:=[.slice af cr.length a6]) A1o rfl 7 rfl rfl rfl)) (zq af a6) bQ c9
      refine bN rfl (cE 4 [7] 62 rfl (ie ?_))
      refine zjd rfl hR ?_ ?_<;>clear hR<;>intro hR fz eh
      ·refine bN rfl (cE 2 [0] 67 rfl (it rfl (C1 (c:=J8) (xs:=([8]:List Int)) L4 rfl rfl rfl oki) fun dz=>?_))
       have:([8]:List Int).length=1:=rfl
       have b:=C9 hR;clear hR;obtain ⟨y7,dt,hR⟩:=b
       refine zc rfl (O7 (l:=([8]:List Int)) (lq:=(some ⟨dz,0,none⟩)) (lk:=1) dt) fun ⟨⟨aq,a9⟩,bc⟩=>?_
       obtain ⟨f8,f3⟩:=bc
       refine zru 1 [6] [] 6 (bx d [.slice aq y7.length a9] 264) ?_
       subst hR
       refine ie (A8 ?_)
       exact cD hr hD (N4 rfl (D4 (us:=[.slice aq y7.length a9]) A1o rfl 6 rfl rfl rfl)) (zq aq a9) bQ c9
      refine bN rfl (cE 2 [0] 52 rfl (it rfl (C1 (c:=J8) (xs:=([28]:List Int)) L4 rfl rfl rfl oki) fun d7=>?_))
      have:([28]:List Int).length=1:=rfl
      have b:=C9 hR;clear hR;obtain ⟨co,ck,hR⟩:=b
      refine zc rfl (O7 (l:=([28]:List Int)) (lq:=(some ⟨d7,0,none⟩)) (lk:=1) ck) fun ⟨⟨ab,ad⟩,br⟩=>?_
      obtain ⟨fk,fb⟩:=br
      refine zru 1 [6] [] 6 (bx d [.slice ab co.length ad] 264) ?_
      subst hR
      refine ie (A8 ?_)
      exact cD hr hD (N4 rfl (D4 (us:=[.slice ab co.length ad]) A1o rfl 6 rfl rfl rfl)) (zq ab ad) bQ c9
     refine bN rfl (cE 4 [6] 62 rfl (ie ?_))
     refine zjd rfl hR ?_ ?_<;>clear hR<;>intro hR ga f2
     ·refine bN rfl (cE 2 [0] 67 rfl (it rfl (C1 (c:=J8) (xs:=([7]:List Int)) L4 rfl rfl rfl oki) fun e8=>?_))
      have:([7]:List Int).length=1:=rfl
      have b:=C9 hR;clear hR;obtain ⟨y8,da,hR⟩:=b
      refine zc rfl (O7 (l:=([7]:List Int)) (lq:=(some ⟨e8,0,none⟩)) (lk:=1) da) fun ⟨⟨aj,ax⟩,b3⟩=>?_
      obtain ⟨f4,dh⟩:=b3
      refine zru 1 [5] [] 5 (bx d [.slice aj y8.length ax] 264) ?_
      subst hR
      refine ie (A8 ?_)
      exact cD hr hD (N4 rfl (D4 (us:=[.slice aj y8.length ax]) A1o rfl 5 rfl rfl rfl)) (zq aj ax) bQ c9
     refine bN rfl (cE 2 [0] 52 rfl (it rfl (C1 (c:=J8) (xs:=([27]:List Int)) L4 rfl rfl rfl oki) fun bi=>?_))
     have:([27]:List Int).length=1:=rfl
     have b:=C9 hR;clear hR;obtain ⟨cs,cp,hR⟩:=b
     refine zc rfl (O7 (l:=([27]:List Int)) (lq:=(some ⟨bi,0,none⟩)) (lk:=1) cp) fun ⟨⟨j,e⟩,a4⟩=>?_
     obtain ⟨ct,cz⟩:=a4
     refine zru 1 [5] [] 5 (bx d [.slice j cs.length e] 264) ?_
     subst hR
     refine ie (A8 ?_)
     exact cD hr hD (N4 rfl (D4 (us:=[.slice j cs.length e]) A1o rfl 5 rfl rfl rfl)) (zq j e) bQ c9
    refine bN rfl (cE 4 [5] 62 rfl (ie ?_))
    refine zjd rfl hR ?_ ?_<;>clear hR<;>intro hR fm dm
    ·refine bN rfl (cE 2 [0] 67 rfl (it rfl (C1 (c:=J8) (xs:=([5]:List Int)) L4 rfl rfl rfl oki) fun bd=>?_))
     have:([5]:List Int).length=1:=rfl
     have b:=C9 hR;clear hR;obtain ⟨y9,dc,hR⟩:=b
     refine zc rfl (O7 (l:=([5]:List Int)) (lq:=(some ⟨bd,0,none⟩)) (lk:=1) dc) fun ⟨⟨u,q⟩,ao⟩=>?_
     obtain ⟨e1,dj⟩:=ao
     refine zru 1 [4] [] 4 (bx d [.slice u y9.length q] 264) ?_
     subst hR
     refine ie (A8 ?_)
     exact cD hr hD (N4 rfl (D4 (us:=[.slice u y9.length q]) A1o rfl 4 rfl rfl rfl)) (zq u q) bQ c9
    refine bN rfl (cE 2 [0] 52 rfl (it rfl (C1 (c:=J8) (xs:=([25]:List Int)) L4 rfl rfl rfl oki) fun be=>?_))
    have:([25]:List Int).length=1:=rfl
    have b:=C9 hR;clear hR;obtain ⟨c2,c5,hR⟩:=b
    refine zc rfl (O7 (l:=([25]:List Int)) (lq:=(some ⟨be,0,none⟩)) (lk:=1) c5) fun ⟨⟨h,i⟩,az⟩=>?_
    obtain ⟨dl,e5⟩:=az
    refine zru 1 [4] [] 4 (bx d [.slice h c2.length i] 264) ?_
    subst hR
    refine ie (A8 ?_)
    exact cD hr hD (N4 rfl (D4 (us:=[.slice h c2.length i]) A1o rfl 4 rfl rfl rfl)) (zq h i) bQ c9
   refine bN rfl (cE 4 [4] 62 rfl (ie ?_))
   refine zjd rfl hR ?_ ?_<;>clear hR<;>intro hR ep d6
   ·refine bN rfl (cE 2 [0] 67 rfl (it rfl (C1 (c:=J8) (xs:=([3]:List Int)) L4 rfl rfl rfl oki) fun ba=>?_))
    have:([3]:List Int).length=1:=rfl
    have b:=C9 hR;clear hR;obtain ⟨bp,cm,hR⟩:=b
    refine zc rfl (O7 (l:=([3]:List Int)) (lq:=(some ⟨ba,0,none⟩)) (lk:=1) cm) fun ⟨⟨w,a0⟩,ae⟩=>?_
    obtain ⟨dr,db⟩:=ae
    refine zru 1 [3] [] 3 (bx d [.slice w bp.length a0] 264) ?_
    subst hR
    refine ie (A8 ?_)
    exact cD hr hD (N4 rfl (D4 (us:=[.slice w bp.length a0]) A1o rfl 3 rfl rfl rfl)) (zq w a0) bQ c9
   refine bN rfl (cE 2 [0] 52 rfl (it rfl (C1 (c:=J8) (xs:=([23]:List Int)) L4 rfl rfl rfl oki) fun c8=>?_))
   have:([23]:List Int).length=1:=rfl
   have b:=C9 hR;clear hR;obtain ⟨c0,b7,hR⟩:=b
   refine zc rfl (O7 (l:=([23]:List Int)) (lq:=(some ⟨c8,0,none⟩)) (lk:=1) b7) fun ⟨⟨f,k⟩,a2⟩=>?_
   obtain ⟨di,d0⟩:=a2
   refine zru 1 [3] [] 3 (bx d [.slice f c0.length k] 264) ?_
   subst hR
   refine ie (A8 ?_)
   exact cD hr hD (N4 rfl (D4 (us:=[.slice f c0.length k]) A1o rfl 3 rfl rfl rfl)) (zq f k) bQ c9
  refine bN rfl (cE 4 [3] 62 rfl (ie ?_))
  refine zjd rfl hR ?_ ?_<;>clear hR<;>intro hR f7 dv
  ·refine bN rfl (cE 2 [0] 67 rfl (it rfl (C1 (c:=J8) (xs:=([2]:List Int)) L4 rfl rfl rfl oki) fun b8=>?_))
   have:([2]:List Int).length=1:=rfl
   have b:=C9 hR;clear hR;obtain ⟨c3,cj,hR⟩:=b
   refine zc rfl (O7 (l:=([2]:List Int)) (lq:=(some ⟨b8,0,none⟩)) (lk:=1) cj) fun ⟨⟨y,n⟩,av⟩=>?_
   obtain ⟨d3,cw⟩:=av
   refine zru 1 [2] [] 2 (bx d [.slice y c3.length n] 264) ?_
   subst hR
   refine ie (A8 ?_)
   exact cD hr hD (N4 rfl (D4 (us:=[.slice y c3.length n]) A1o rfl 2 rfl rfl rfl)) (zq y n) bQ c9
  refine bN rfl (cE 2 [0] 52 rfl (it rfl (C1 (c:=J8) (xs:=([22]:List Int)) L4 rfl rfl rfl oki) fun ce=>?_))
  have:([22]:List Int).length=1:=rfl
  have b:=C9 hR;clear hR;obtain ⟨c7,cc,hR⟩:=b
  refine zc rfl (O7 (l:=([22]:List Int)) (lq:=(some ⟨ce,0,none⟩)) (lk:=1) cc) fun ⟨⟨p,g⟩,a5⟩=>?_
  obtain ⟨d4,dw⟩:=a5
  refine zru 1 [2] [] 2 (bx d [.slice p c7.length g] 264) ?_
  subst hR
  refine ie (A8 ?_)
  exact cD hr hD (N4 rfl (D4 (us:=[.slice p c7.length g]) A1o rfl 2 rfl rfl rfl)) (zq p g) bQ c9
 refine bN rfl (cE 4 [2] 62 rfl (ie ?_))
 refine zjd rfl hR ?_ ?_<;>clear hR<;>intro hR eb ds
 ·refine bN rfl (cE 2 [0] 67 rfl (it rfl (C1 (c:=J8) (xs:=([1]:List Int)) L4 rfl rfl rfl oki) fun cf=>?_))
  have:([1]:List Int).length=1:=rfl
  have b:=C9 hR;clear hR;obtain ⟨bn,bj,hR⟩:=b
  refine zc rfl (O7 (l:=([1]:List Int)) (lq:=(some ⟨cf,0,none⟩)) (lk:=1) bj) fun ⟨⟨o,s⟩,ay⟩=>?_
  obtain ⟨dn,e4⟩:=ay
  refine zru 1 [1] [] 1 (bx d [.slice o bn.length s] 264) ?_
  subst hR
  refine ie (A8 ?_)
  exact cD hr hD (N4 rfl (D4 (us:=[.slice o bn.length s]) A1o rfl 1 rfl rfl rfl)) (zq o s) bQ c9
 refine bN rfl (cE 2 [0] 52 rfl (it rfl (C1 (c:=J8) (xs:=([22]:List Int)) L4 rfl rfl rfl oki) fun cl=>?_))
 have:([22]:List Int).length=1:=rfl
 have b:=C9 hR;clear hR;obtain ⟨ci,bg,hR⟩:=b
 refine zc rfl (O7 (l:=([22]:List Int)) (lq:=(some ⟨cl,0,none⟩)) (lk:=1) bg) fun ⟨⟨z,r⟩,a1⟩=>?_
 obtain ⟨dx,d8⟩:=a1
 refine zru 1 [1] [] 1 (bx d [.slice z ci.length r] 264) ?_
 subst hR
 refine ie (A8 ?_)
 exact cD hr hD (N4 rfl (D4 (us:=[.slice z ci.length r]) A1o rfl 1 rfl rfl rfl)) (zq z r) bQ c9
def A6w:List Act→List (List Int)→Nat→(List (List Int)×Int)
 | [],out,t26=>(out,0)
 | hd_l1::tl_l1,out,t26=>(C2 (D0j hd_l1) fun (a:List Int)=>A6w tl_l1 (out++([a]:List (List Int))) (t26+1))
def A6u (l:List Act):List Act→Nat→(List (List Int)×Int)
 | [],t11=>(bif (decide ((16:Int)<(l.length:Int))) then (([]:List (List Int)),3) else A6w l ([]:List (List Int)) 0)
 | hd_l0::tl_l0,t11=>(bif (!decide ((J6 hd_l0)=0)) then (([]:List (List Int)),(J6 hd_l0)) else A6u l tl_l0 (t11+1))
def B7c (l:List Act):List (List Int)×Int :=
 A6u l l 0
theorem ooy {p:Prop} (h:p:=by first|rfl|(simp only [List.length_take,List.length_drop];omega)):p:=h
theorem ovg {p:Prop} (h:p:=by first|omega|(simp only [List.length_take,List.length_drop,List.length_append,List.length_cons,List.length_nil,List.length_set,List.length_map,Q7];omega)|decide):p:=h
theorem oea {p:Prop} (h:p:=by first|omega|(simp only [List.length_cons,List.length_nil,List.length_append,List.length_take,List.length_drop,Q7];omega)):p:=h
theorem ozq {p:Prop} (h:p:=by first|omega|(simp only [List.length_append,List.length_cons,List.length_nil];omega)):p:=h
theorem D4c {l:List Act} {lq:Option Addr} {lk:Nat} {R:List (List Int)×Int} (hR:B7c l=R) (aa:l.length≤9223372036854775807:=by exact bP) (ad:l.length≤lk:=by exact bP):cI Tryz.prog 158 [.slice lq l.length lk] [] [sl A1 lq l,P4] ({t:VR×List Slc // bR 1 R.1.length t.1∧I4 t.2 R.1}) (fun x=>.tuple #[.slice (va x.1.1.q) R.1.length x.1.1.k,iv R.2]) (fun x=>((vo A3d 264 x.1.1 x.1.2)++([]))) (fun x=>[U6 J8 x.1.2 R.1]):=by
 refine bZ Tryz.func158 fun X hX hr hD=>?_
 replace hR:=(B7c.eq_1 ..).symm.trans hR
 refine bN rfl (bO 2 2 rfl (ie (A5 (bN rfl (pp3 3 9 10 11 rfl (ie (B2 (A4v (fun (h:Nat)=>(h≤l.length∧A6u l (l.drop h) h=R,[(0,.slice lq l.length lk),(2,.slice none 0 0),(9,.slice lq l.length lk),(10,iv (l.length:Int)),(11,iv (h:Int))],[],[sl A1 lq l,P4],l.length - h)) 0 ⟨opx,hR⟩ bQ A9.refl ?_))))))))
 rintro h ⟨ai,hR⟩
 refine bN rfl (bO 1 12 rfl ?_)
 refine ie (A5 (X7 rfl (fun h2=>?_) (fun h2=>?_)))
 ·have y:=bU h2
  rw [A1f Act.zero (show h<l.length by omega)] at hR;replace hR:=(A6u.eq_2 ..).symm.trans hR
  refine A4 (nx (A5 (B2 (bN rfl (L9 0 rfl opx fun a3 u=>(ix rfl (H9 A2p rfl rfl u rfl h rfl opx) (ix rfl (K5 (us:=A1 (l.getD h Act.zero)) B7m rfl rfl (K2 (c:=A1) (sz:=6) u (fun _=>rfl) 0 rfl (gd Act.zero opx)) rfl) ?_)))))))
  refine zra 2 [0] (fun b5=>[(5,pt b5 0)]) (fun _=>(A1 (l.getD h Act.zero))) 60 fun b5=>?_
  refine ie (bN rfl (bY 1 2 [0] [(15,ag (A1 (l.getD h Act.zero)))] (zv rfl (A9g rfl) (bO 1 6 rfl (ie (bN rfl (bO 2 18 rfl (ie ?_))))))))
  refine zjn rfl hR ?_ ?_<;>clear hR<;>intro hR h6 a9
  ·refine bN rfl (cJ 3 2 3 rfl ?_)
   subst hR
   refine ie (A8 ?_)
   exact cD hr hD (Q9 rfl (B0 rfl) (B0 rfl)) ⟨(VR.nil,([]:List Slc)),⟨bR.nil,I4.none⟩⟩ bQ c9
  refine A4 (nx (A0 2 rfl (ix rfl (B4 rfl rfl rfl rfl opx) (bO 1 11 rfl (A3 ?_)))))
  exact A0d (z1:=h) (h+1) ⟨opx,hR⟩ olr bQ A9.refl
 have y:=bU h2
 rw [A2g y] at hR;replace hR:=(A6u.eq_1 ..).symm.trans hR
 refine G6 (nx (A5 (bN rfl (bO 3 23 rfl ?_))))
 refine ie ?_
 refine zjd rfl hR ?_ ?_<;>clear hR<;>intro hR h7 ae
 ·refine bN rfl (cJ 2 2 3 rfl ?_)
  subst hR
  refine ie (A8 ?_)
  exact cD hr hD (Q9 rfl (B0 rfl) (B0 rfl)) ⟨(VR.nil,([]:List Slc)),⟨bR.nil,I4.none⟩⟩ bQ c9
 refine A4 (nx (A5 (bN rfl (pp3 3 24 25 26 rfl (ie (B2 ?_))))))
 refine A4v (un fun (g:List (List Int))=>un fun (f:VR)=>un fun (d:List Slc) (e:Nat)=>(e≤l.length∧A6w (l.drop e) g e=R∧bR 1 g.length f∧I4 d g∧g.length≤e∧l.length≤16,[(2,.slice (va f.q) g.length f.k),(24,.slice lq l.length lk),(25,iv (l.length:Int)),(26,iv (e:Int))],((vo A3d 264 f d)++([])),[sl A1 lq l,P4,U6 J8 d g],l.length - e)) (([]:List (List Int)),VR.nil,([]:List Slc),0) ⟨opx,hR,bR.nil,I4.none,(by constructor<;>first|omega|simp)⟩ bQ c9 ?_
 rintro ⟨g,f,d,e⟩ ⟨ac,hR,i,b,ho⟩
 have:=bR.le i
 have:=b.1
 refine bN rfl (bO 1 27 rfl ?_)
 refine ie (A5 (X7 rfl (fun h9=>?_) (fun h9=>?_)))
 ·have z:=bU h9
  rw [A1f Act.zero (show e<l.length by omega)] at hR;replace hR:=(A6w.eq_2 ..).symm.trans hR
  refine A4 (nx (A5 (B2 (bN rfl (L9 0 rfl opx fun ab p=>(ix rfl (H9 A2p rfl rfl p rfl e rfl opx) (ix rfl (K5 (us:=A1 (l.getD e Act.zero)) B7m rfl rfl (K2 (c:=A1) (sz:=6) p (fun _=>rfl) 0 rfl (gd Act.zero opx)) rfl) ?_)))))))
  refine zra 2 [0] (fun v=>[(8,pt v 0)]) (fun _=>(A1 (l.getD e Act.zero))) 60 fun v=>?_
  refine ie (A0 6 rfl (bY 2 4 [0] [(30,.slice (va f.q) g.length f.k),(31,ag (A1 (l.getD e Act.zero)))] ?_))
  have hQ:=C9 hR;clear hR;obtain ⟨o,a2,hR⟩:=hQ
  refine zc rfl (D9g (a:=(l.getD e Act.zero)) a2) fun ⟨⟨m,n⟩,a0⟩=>?_
  obtain ⟨a8,a7⟩:=a0
  refine it rfl (C1 (c:=A3d) (xs:=([⟨m,o.length,n⟩]:List Slc)) C2d rfl rfl rfl oki) fun af=>?_
  have j:I4 ([⟨m,o.length,n⟩]:List Slc) ([o]:List (List Int)):=(I4.cons ⟨ooy,ovg,ovg⟩ I4.none)
  refine D7 (q:=U6 J8 ([⟨m,o.length,n⟩]:List Slc) ([o]:List (List Int))) (A9b (B8 1 rfl) A1a) ?_
  have:([⟨m,o.length,n⟩]:List Slc).length=1:=rfl
  have w:I4 (d++([⟨m,o.length,n⟩]:List Slc)) (g++([o]:List (List Int))):=I4.append b j
  refine it rfl (B7e (r:=f) (rs:=d) (xss:=g) (pre:=[bx v (A1 (l.getD e Act.zero)) 60]) (post:=[]) D9p rfl rfl rfl rfl rfl rfl rfl rfl rfl (B8 1 rfl) (B8 5 rfl) (B8 0 rfl) b j i oea oea) fun ⟨a1,s⟩=>?_
  have:=bR.le s
  have:=bR.cap s
  have:([o]:List (List Int)).length=1:=rfl
  have:(g++([o]:List (List Int))).length=g.length+1:=List.length_append
  refine bO 1 2 rfl (A3 (nx (A0 2 rfl (ix rfl (B4 rfl rfl rfl rfl opx) (bO 1 26 rfl (A3 ?_))))))
  exact A0d (z1:=(g,f,d,e)) ((g++([o]:List (List Int))),a1,(d++([⟨m,o.length,n⟩]:List Slc)),e+1) ⟨opx,hR,s,w,ozq⟩ olr bQ c9
 have z:=bU h9
 rw [A2g z] at hR;replace hR:=(A6w.eq_1 ..).symm.trans hR
 refine G6 (nx (bN rfl (cJ 3 2 3 rfl ?_)))
 subst hR
 refine ie (A8 ?_)
 exact cD hr hD (Q9 rfl (B0 rfl) (B0 rfl)) ⟨(f,d),⟨i,b⟩⟩ bQ c9
theorem F3k:Ty Tryz.prog 209 1 false:=⟨by kernel_rfl⟩
def B0m (l:List (List Int)):Bool :=
 (((decide ((l.length:Int)=1))&&(decide (((l.getD 0 []).length:Int)=1)))&&(decide (((l.getD 0 []).getD 0 0)=(-1))))
theorem D1m {l:List (List Int)} {lq:Option Addr} {b:List Slc} {lk:Nat} {R:Bool} (hR:B0m l=R) (a:I4 b l:=by exact bP) (i:l.length≤9223372036854775807:=by exact bP) (o:l.length≤lk:=by exact bP):J5 Tryz.prog 274 [.slice lq l.length lk] [sl A3d lq b,U6 J8 b l] (bv R):=by
 refine bZ Tryz.func274 fun X hX hr hD=>?_
 replace hR:=(B0m.eq_1 ..).symm.trans hR
 have:=a.1
 refine bN rfl (pp0 1 rfl (ie (bN rfl (bO 4 6 rfl ?_))))
 refine zid 7 10 6 13 (decide (((l.getD 0 []).length:Int)=1)) (fun s j=>?_) ?_
 ·refine ip' 1 6 [(7,.slice lq l.length lk)] (L9 0 rfl (by have:=a.1;omega) fun p f=>(D7 (B2s (k:=0) (d:=(⟨none,0,0⟩:Slc)) a 1 rfl (by have:=a.1;omega)) ?_))
  have:=B2y a (k:=0) (d:=(⟨none,0,0⟩:Slc)) (by have:=a.1;omega)
  refine ix rfl (H9 C2d rfl rfl f rfl 0 rfl opx) (ip' 1 4 [(9,pa (Addr.add p (0 * 1)))] (ix rfl (G9 (F2 (v:=.slice ((b.getD 0 (⟨none,0,0⟩:Slc)).q) ((b.getD 0 (⟨none,0,0⟩:Slc)).n) ((b.getD 0 (⟨none,0,0⟩:Slc)).k)) (us:=[.slice ((b.getD 0 (⟨none,0,0⟩:Slc)).q) ((b.getD 0 (⟨none,0,0⟩:Slc)).n) ((b.getD 0 (⟨none,0,0⟩:Slc)).k)]) E6a rfl rfl (A2w (K2 (c:=A3d) (sz:=1) f (fun _=>rfl) 1 rfl (gd (⟨none,0,0⟩:Slc) (by have:=a.1;omega))) (ws:=[.slice ((b.getD 0 (⟨none,0,0⟩:Slc)).q) ((b.getD 0 (⟨none,0,0⟩:Slc)).n) ((b.getD 0 (⟨none,0,0⟩:Slc)).k)]) 1 rfl) rfl) (B3i a (by have:=a.1;omega))) (bO 3 13 rfl ?_)))
  exact A3 (O6 6 6 13 s c9 bQ rfl rfl rfl rfl rfl)
 refine bO 1 14 rfl ?_
 refine zia 8 1 14 22 (decide (((l.getD 0 []).getD 0 0)=(-1))) (fun h=>?_) ?_
 ·have r:=bU h
  refine ip' 1 7 [(15,.slice lq l.length lk)] (L9 0 rfl (by have:=a.1;omega) fun m g=>(D7 (B2s (k:=0) (d:=(⟨none,0,0⟩:Slc)) a 1 rfl (by have:=a.1;omega)) ?_))
  have:=B2y a (k:=0) (d:=(⟨none,0,0⟩:Slc)) (by have:=a.1;omega)
  refine ix rfl (H9 C2d rfl rfl g rfl 0 rfl opx) (ip' 1 5 [(17,pa (Addr.add m (0 * 1)))] (ix rfl (G9 (F2 (v:=.slice ((b.getD 0 (⟨none,0,0⟩:Slc)).q) ((b.getD 0 (⟨none,0,0⟩:Slc)).n) ((b.getD 0 (⟨none,0,0⟩:Slc)).k)) (us:=[.slice ((b.getD 0 (⟨none,0,0⟩:Slc)).q) ((b.getD 0 (⟨none,0,0⟩:Slc)).n) ((b.getD 0 (⟨none,0,0⟩:Slc)).k)]) E6a rfl rfl (A2w (K2 (c:=A3d) (sz:=1) g (fun _=>rfl) 1 rfl (gd (⟨none,0,0⟩:Slc) (by have:=a.1;omega))) (ws:=[.slice ((b.getD 0 (⟨none,0,0⟩:Slc)).q) ((b.getD 0 (⟨none,0,0⟩:Slc)).n) ((b.getD 0 (⟨none,0,0⟩:Slc)).k)]) 1 rfl) rfl) (B3i a (by have:=a.1;omega))) (L9 0 rfl opx fun t e=>(ix rfl (H9 L4 rfl rfl e rfl 0 rfl opx) (ix rfl (F2 (v:=iv ((l.getD 0 []).getD 0 0)) (us:=[iv ((l.getD 0 []).getD 0 0)]) cA rfl rfl (K2 (c:=J8) (sz:=1) e (fun _=>rfl) 0 rfl (gd 0 opx)) rfl) (bO 2 22 rfl ?_))))))
  exact A3 (O6 8 14 22 h c9 bQ rfl rfl rfl rfl rfl)
 refine bO 1 2 rfl ?_
 subst hR
 refine ie (A8 ?_)
 exact G0 hr hD
def A4f (n:Int):Bool :=
 ((decide (n<(-1)))||(decide ((9999:Int)<n)))
theorem C4p {n:Int} {R:Bool} (hR:A4f n=R):J5 Tryz.prog 273 [iv n] [] (bv R):=by
 refine bZ Tryz.func273 fun X hX hr hD=>?_
 replace hR:=(A4f.eq_1 ..).symm.trans hR
 refine bN rfl (pp0 1 rfl (ie (bN rfl (bO 3 5 rfl ?_))))
 refine zir 3 1 5 8 (decide ((9999:Int)<n)) (fun b a=>?_) ?_
 ·refine bO 3 8 rfl ?_
  exact A3 (O6 2 5 8 b bT bQ rfl rfl rfl rfl rfl)
 refine bO 1 2 rfl ?_
 subst hR
 refine ie (A8 ?_)
 exact G0 hr hD
def M6:List Int→Nat→Int
 | [],a=>(-1)
 | hd_l0::tl_l0,a=>(bif (A4f hd_l0) then (a:Int) else M6 tl_l0 (a+1))
def Z3 (s:List Int):Int :=
 M6 s 0
theorem B2z {s:List Int} {sq:Option Addr} {sk:Nat} {R:Int} (hR:Z3 s=R) (h:s.length≤9223372036854775807:=by exact bP) (f:s.length≤sk:=by exact bP):J5 Tryz.prog 309 [.slice sq s.length sk,aE 273] [sl J8 sq s] (iv R):=by
 refine bZ Tryz.func309 fun X hX hr hD=>?_
 replace hR:=(Z3.eq_1 ..).symm.trans hR
 refine bN rfl (pp0 1 rfl (ie (A5 (bN rfl (cJ 3 7 8 rfl (ie (B2 (A4v (fun (a:Nat)=>(a≤s.length∧M6 (s.drop a) a=R,[(0,.slice sq s.length sk),(1,aE 273),(7,iv (s.length:Int)),(8,iv (a:Int))],[],[sl J8 sq s],s.length - a)) 0 ⟨opx,hR⟩ bQ A9.refl ?_))))))))
 rintro a ⟨g,hR⟩
 refine bN rfl (bO 1 9 rfl ?_)
 refine ie (A5 (X7 rfl (fun e=>?_) (fun e=>?_)))
 ·have d:=bU e
  rw [A1f 0 (show a<s.length by omega)] at hR;replace hR:=(M6.eq_2 ..).symm.trans hR
  refine A4 (nx (A5 (B2 (bN rfl (bO 2 5 rfl (ie (bN rfl (ip' 3 3 [(11,aE 273),(12,.slice sq s.length sk),(13,iv (a:Int))] (L9 0 rfl opx fun j b=>(ix rfl (H9 L4 rfl rfl b rfl a rfl opx) (ix rfl (F2 cA rfl rfl (K2 (c:=J8) (sz:=1) b (fun _=>rfl) 0 rfl (gd 0 opx)) rfl) (zv rfl (C4p rfl) (ie ?_)))))))))))))
  refine zjb rfl hR ?_ ?_<;>clear hR<;>intro hR i
  ·refine bN rfl (bO 2 4 rfl ?_)
   subst hR
   refine ie (A8 ?_)
   exact G0 hr hD
  refine A4 (nx (A0 2 rfl (ix rfl (B4 rfl rfl rfl rfl opx) (bO 1 8 rfl (A3 ?_)))))
  exact A0d (z1:=a) (a+1) ⟨opx,hR⟩ olr bQ A9.refl
 have d:=bU e
 rw [A2g d] at hR;replace hR:=(M6.eq_1 ..).symm.trans hR
 refine G6 (nx (bN rfl (bO 1 4 rfl ?_)))
 subst hR
 refine ie (A8 ?_)
 exact G0 hr hD
def S2 (s:List Int):Bool :=
 (decide ((0:Int)≤(Z3 s)))
theorem B0l {s:List Int} {sq:Option Addr} {sk:Nat} {R:Bool} (hR:S2 s=R) (a:s.length≤9223372036854775807:=by exact bP) (b:s.length≤sk:=by exact bP):J5 Tryz.prog 272 [.slice sq s.length sk,aE 273] [sl J8 sq s] (bv R):=by
 refine bZ Tryz.func272 fun X hX hr hD=>?_
 replace hR:=(S2.eq_1 ..).symm.trans hR
 refine bN rfl (pp0 1 rfl (ie (bN rfl (ip' 2 3 [(5,.slice sq s.length sk),(6,aE 273)] (zv rfl (B2z rfl) (bO 2 4 rfl ?_))))))
 subst hR
 refine ie (A8 ?_)
 exact G0 hr hD
def A2n (p:List Int):Bool :=
 (((decide ((p.length:Int)=0))||(decide ((6:Int)<(p.length:Int))))||(S2 p))
theorem C7y {p:List Int} {a:Option Addr} {pk:Nat} {R:Bool} (hR:A2n p=R) (e:p.length≤9223372036854775807:=by exact bP) (g:p.length≤pk:=by exact bP):J5 Tryz.prog 271 [ag [.slice a p.length pk]] [sl J8 a p] (bv R):=by
 refine bZ Tryz.func271 fun X hX hr hD=>?_
 replace hR:=(A2n.eq_1 ..).symm.trans hR
 refine bN rfl (zra 2 [] (fun b=>[(1,pt b 0)]) (fun _=>[.slice a p.length pk]) 264 fun b=>(ie (bN rfl (cE 5 [0] 7 rfl ?_))))
 refine zir 5 6 7 12 (decide ((6:Int)<(p.length:Int))) (fun d h=>?_) ?_
 ·refine cE 5 [0] 12 rfl ?_
  exact zai 2 7 12 d
 refine bO 1 13 rfl ?_
 refine zio 4 1 13 17 (S2 p) (fun c=>?_) ?_
 ·have f:=bU c
  refine cE 2 [0] 15 rfl (zv rfl (B0l rfl) (bO 1 17 rfl ?_))
  exact zai 4 13 17 c
 refine bO 1 2 rfl ?_
 subst hR
 refine ie (A8 ?_)
 exact G0 hr hD
def H3:List (List Int)→Nat→Int
 | [],a=>(-1)
 | hd_l0::tl_l0,a=>(bif (A2n hd_l0) then (a:Int) else H3 tl_l0 (a+1))
def P8 (s:List (List Int)):Int :=
 H3 s 0
theorem A5f {s:List (List Int)} {sq:Option Addr} {b:List Slc} {sk:Nat} {R:Int} (hR:P8 s=R) (a:I4 b s:=by exact bP) (l:s.length≤9223372036854775807:=by exact bP) (i:s.length≤sk:=by exact bP):J5 Tryz.prog 310 [.slice sq s.length sk,aE 271] [sl A3d sq b,U6 J8 b s] (iv R):=by
 refine bZ Tryz.func310 fun X hX hr hD=>?_
 replace hR:=(P8.eq_1 ..).symm.trans hR
 have:=a.1
 refine bN rfl (pp0 1 rfl (ie (A5 (bN rfl (cJ 3 7 8 rfl (ie (B2 (A4v (fun (e:Nat)=>(e≤s.length∧H3 (s.drop e) e=R,[(0,.slice sq s.length sk),(1,aE 271),(7,iv (s.length:Int)),(8,iv (e:Int))],[],[sl A3d sq b,U6 J8 b s],s.length - e)) 0 ⟨opx,hR⟩ bQ A9.refl ?_))))))))
 rintro e ⟨j,hR⟩
 refine bN rfl (bO 1 9 rfl ?_)
 refine ie (A5 (X7 rfl (fun h=>?_) (fun h=>?_)))
 ·have g:=bU h
  rw [A1f [] (show e<s.length by omega)] at hR;replace hR:=(H3.eq_2 ..).symm.trans hR
  refine A4 (nx (A5 (B2 (bN rfl (bO 2 5 rfl (ie (bN rfl (ip' 3 3 [(11,aE 271),(12,.slice sq s.length sk),(13,iv (e:Int))] (L9 0 rfl (by have:=a.1;omega) fun o f=>(D7 (B2s (k:=e) (d:=(⟨none,0,0⟩:Slc)) a 1 rfl (by have:=a.1;omega)) ?_))))))))))
  have:=B2y a (k:=e) (d:=(⟨none,0,0⟩:Slc)) (by have:=a.1;omega)
  refine ix rfl (H9 C2d rfl rfl f rfl e rfl opx) (ix rfl (G9 (K5 (us:=[.slice ((b.getD e (⟨none,0,0⟩:Slc)).q) ((b.getD e (⟨none,0,0⟩:Slc)).n) ((b.getD e (⟨none,0,0⟩:Slc)).k)]) A1o rfl rfl (K2 (c:=A3d) (sz:=1) f (fun _=>rfl) 1 rfl (gd (⟨none,0,0⟩:Slc) (by have:=a.1;omega))) rfl) (congrArg (fun z=>ag [z]) (B3i a (by have:=a.1;omega)))) (zv rfl (C7y rfl) (ie ?_)))
  refine zjb rfl hR ?_ ?_<;>clear hR<;>intro hR m
  ·refine bN rfl (bO 2 4 rfl ?_)
   subst hR
   refine ie (A8 ?_)
   exact G0 hr hD
  refine A4 (nx (A0 2 rfl (ix rfl (B4 rfl rfl rfl rfl opx) (bO 1 8 rfl (A3 ?_)))))
  exact A0d (z1:=e) (e+1) ⟨opx,hR⟩ olr bQ c9
 have g:=bU h
 rw [A2g g] at hR;replace hR:=(H3.eq_1 ..).symm.trans hR
 refine G6 (nx (bN rfl (bO 1 4 rfl ?_)))
 subst hR
 refine ie (A8 ?_)
 exact G0 hr hD
def J2 (s:List (List Int)):Bool :=
 (decide ((0:Int)≤(P8 s)))
theorem A4m {s:List (List Int)} {sq:Option Addr} {b:List Slc} {sk:Nat} {R:Bool} (hR:J2 s=R) (a:I4 b s:=by exact bP) (c:s.length≤9223372036854775807:=by exact bP) (d:s.length≤sk:=by exact bP):J5 Tryz.prog 275 [.slice sq s.length sk,aE 271] [sl A3d sq b,U6 J8 b s] (bv R):=by
 refine bZ Tryz.func275 fun X hX hr hD=>?_
 replace hR:=(J2.eq_1 ..).symm.trans hR
 have:=a.1
 refine bN rfl (pp0 1 rfl (ie (bN rfl (ip' 2 3 [(5,.slice sq s.length sk),(6,aE 271)] (zv rfl (A5f rfl a) (bO 2 4 rfl ?_))))))
 subst hR
 refine ie (A8 ?_)
 exact G0 hr hD
def A5a (l:List (List Int)):Int :=
 (bif (((decide ((16:Int)<(l.length:Int)))||(B0m l))||(J2 l)) then 150 else 0)
def C1h (l:List (List Int)):Prop:=l.length≤16∧∀ r ∈ l,1≤r.length∧r.length≤6∧∀ n ∈ r,-1≤n∧n≤9999
theorem C8y:∀ (s:List Int) (t:Nat),M6 s t<0→∀ n ∈ s,-1≤n∧n≤9999
 | [],t,_,n,hn=>by cases hn
 | x::s,t,h,n,hn=>by
  simp only [M6] at h
  cases hc:A4f x with
  | true=>rw [hc,cond_true] at h;omega
  | false =>
   rw [hc,cond_false] at h
   unfold A4f at hc
   simp only [Bool.or_eq_false_iff,decide_eq_false_iff_not] at hc
   rcases List.mem_cons.1 hn with rfl | hn
   ·omega
   ·exact C8y s (t+1) h n hn
theorem D0m:∀ (s:List (List Int)) (t:Nat),H3 s t<0→∀ r ∈ s,A2n r=false
 | [],t,_,n,hn=>by cases hn
 | x::s,t,h,n,hn=>by
  simp only [H3] at h
  cases hc:A2n x with
  | true=>rw [hc,cond_true] at h;omega
  | false =>
   rw [hc,cond_false] at h
   rcases List.mem_cons.1 hn with rfl | hn
   ·exact hc
   ·exact D0m s (t+1) h n hn
theorem D8m {r:List Int} (h:A2n r=false):1≤r.length∧r.length≤6∧∀ n ∈ r,-1≤n∧n≤9999:=by
 unfold A2n at h
 simp only [Bool.or_eq_false_iff,decide_eq_false_iff_not] at h
 have a:=h.2;unfold S2 Z3 at a;simp only [decide_eq_false_iff_not] at a
 exact ⟨by omega,by omega,C8y r 0 opx⟩
theorem B3f {l:List (List Int)} (h:A5a l=0):C1h l:=by
 unfold A5a at h
 generalize hc:(((decide ((16:Int)<(l.length:Int)))||(B0m l))||(J2 l))=c at h
 cases c with
 | true=>simp at h
 | false =>
  simp only [Bool.or_eq_false_iff,decide_eq_false_iff_not] at hc
  have a:=hc.2;unfold J2 P8 at a;simp only [decide_eq_false_iff_not] at a
  exact ⟨by omega,fun r hr=>D8m (D0m l 0 opx r hr)⟩
theorem C1h.at {l:List (List Int)} (h:C1h l) (i k:Nat):-1≤(l.getD i []).getD k 0∧(l.getD i []).getD k 0≤9999:=by
 by_cases hi:i<l.length
 ·by_cases hk:k<(l.getD i []).length
  ·rw [gdE hk]
   have a:l.getD i [] ∈ l:=by rw [gdE hi];exact List.getElem_mem hi
   exact (h.2 _ a).2.2 _ (List.getElem_mem hk)
  ·rw [show (l.getD i []).getD k 0=0 from gdN hk];omega
 ·rw [show l.getD i []=[] from gdN hi];simp
theorem C1h.row {l:List (List Int)} (h:C1h l) (i:Nat):(l.getD i []).length≤6:=by
 by_cases hi:i<l.length
 ·have a:l.getD i [] ∈ l:=by rw [gdE hi];exact List.getElem_mem hi
  exact (h.2 _ a).2.1
 ·rw [gdN hi];simp
theorem D1w {l:List (List Int)} {lq:Option Addr} {b:List Slc} {lk:Nat} {R:Int} (hR:A5a l=R) (a:I4 b l:=by exact bP) (f:l.length≤9223372036854775807:=by exact bP) (h:l.length≤lk:=by exact bP):J5 Tryz.prog 229 [.slice lq l.length lk] [sl A3d lq b,U6 J8 b l] (iv R):=by
 refine bZ Tryz.func229 fun X hX hr hD=>?_
 replace hR:=(A5a.eq_1 ..).symm.trans hR
 have:=a.1
 refine bN rfl (pp0 1 rfl (ie (bN rfl (ip' 1 0 [(3,aE 271)] (ie (A5 (bN rfl (bO 4 7 rfl ?_))))))))
 refine zir 3 5 7 10 (B0m l) (fun j g=>?_) ?_
 ·refine bO 1 8 rfl (zv rfl (D1m rfl a) (bO 1 10 rfl ?_))
  exact zai 4 7 10 j
 refine bO 1 11 rfl ?_
 refine zio 4 0 11 15 (J2 l) (fun e=>?_) ?_
 ·have i:=bU e
  refine ip' 2 2 [(12,.slice lq l.length lk),(13,aE 271)] (zv rfl (A4m rfl a) (bO 1 15 rfl ?_))
  exact zai 5 11 15 e
 refine ie ?_
 refine zjb rfl hR ?_ ?_<;>clear hR<;>intro hR d
 ·have c:=bU d
  refine bN rfl (bO 1 2 rfl ?_)
  subst hR
  refine ie (A8 ?_)
  exact G0 hr hD
 have c:=bU d
 refine A4 (nx (bN rfl (bO 1 2 rfl ?_)))
 subst hR
 refine ie (A8 ?_)
 exact G0 hr hD
def U0 (l:List (List Int)):List (List Int) :=
 l
theorem D1n {l:List (List Int)} {lq:Option Addr} {b:List Slc} {lk:Nat} {R:List (List Int)} (hR:U0 l=R) (a:I4 b l:=by exact bP) (e:l.length≤9223372036854775807:=by exact bP) (d:l.length≤lk:=by exact bP):cI Tryz.prog 230 [.slice lq l.length lk] [] [sl A3d lq b,U6 J8 b l] (Addr×{t:Option Addr×List Slc×Nat // I4 t.2.1 R∧R.length≤t.2.2∧R.length≤9223372036854775807}) (fun x=>.func (.func 276) #[] #[pa x.1]) (fun x=>[]) (fun x=>[at_ x.1 [.slice x.2.1.1 R.length x.2.1.2.2],sl A3d x.2.1.1 x.2.1.2.1,U6 J8 x.2.1.2.1 R]):=by
 refine bZ Tryz.func230 fun X hX hr hD=>?_
 replace hR:=(U0.eq_1 ..).symm.trans hR
 have:=a.1
 refine bN rfl (it rfl (A2t (cs:=[.slice lq l.length lk]) rfl rfl rfl) fun c=>?_)
 refine A6m 0 rfl ?_
 refine pp0 1 rfl (ie (bN rfl (ip' 2 0 [(2,.func (.func 276) #[] #[pa ⟨c,0,none⟩])] ?_)))
 subst hR
 refine ie (A8 ?_)
 exact cD hr hD (N4 rfl (B0 rfl)) (⟨c,0,none⟩,⟨(lq,b,lk),⟨a,okl,okl⟩⟩) bQ c9
def A2d (d:Nat) (b:List UInt8) (a:Nat→(List (List UInt8×List UInt8))) (c:List UInt8):List (List UInt8×List UInt8) :=
 ((b,c)::a (d+1))
def Z9 (c0:List (List Int)) (d:Nat) (c:Nat) (a:Nat→(List (List UInt8×List UInt8))) (b:List UInt8):List (List UInt8×List UInt8) :=
 (bif (!decide (((c0.getD d []).getD c 0)=(-1))) then A2d c b a (Lib.itoa ((c0.getD d []).getD c 0)) else A2d c b a ([]:List UInt8))
def N1 (c0:List (List Int)) (b:Nat) (a:Nat→(List (List UInt8×List UInt8))):List Int→Nat→(List (List UInt8×List UInt8))
 | [],c=>a (b+1)
 | hd_l3::tl_l3,c=>(bif ((decide ((c:Int)=0))&&(decide ((b:Int)=0))) then Z9 c0 b c (N1 c0 b a tl_l3) ([]:List UInt8) else (bif (decide ((c:Int)=0)) then Z9 c0 b c (N1 c0 b a tl_l3) ([59]:List UInt8) else Z9 c0 b c (N1 c0 b a tl_l3) ([58]:List UInt8)))
def N2 (c0:List (List Int)):List (List Int)→Nat→(List (List UInt8×List UInt8))
 | [],t11=>[]
 | hd_l2::tl_l2,t11=>N1 c0 t11 (N2 c0 tl_l2) hd_l2 0
def W5 (c0:List (List Int)):List (List UInt8×List UInt8) :=
 N2 c0 c0 0
def B1e (x:List UInt8×List UInt8):Prop:=x.1.length≤1∧x.2.length≤21
theorem B1n (c0:List (List Int)) (h:C1h c0) (a:Nat) (ag:Nat→List (List UInt8×List UInt8)) (B:Nat) (b:∀ t,(ag t).length≤B∧∀ x ∈ ag t,B1e x):∀ (s:List Int) (t:Nat),(N1 c0 a ag s t).length≤s.length+B∧∀ x ∈ N1 c0 a ag s t,B1e x
 | [],t=>by have:=b (a+1);simp only [N1,List.length_nil];exact ⟨by omega,this.2⟩
 | n::s,t=>by
  have d:=B1n c0 h a ag B b s (t+1)
  have f:=h.at a t
  have e:=C3s ((c0.getD a []).getD t 0) opx opx
  simp only [N1,Z9,A2d,Bool.cond_eq_ite]
  repeat' split
  all_goals refine ⟨by simp only [List.length_cons];omega,fun x c=>?_⟩
  all_goals rcases List.mem_cons.1 c with rfl | c
  all_goals first|exact d.2 x c|exact ⟨by simp,by first|exact e|simp⟩
theorem B1p (c0:List (List Int)) (h:C1h c0):∀ (s:List (List Int)) (t:Nat),(∀ r ∈ s,r.length≤6)→(N2 c0 s t).length≤6 * s.length∧∀ x ∈ N2 c0 s t,B1e x
 | [],t,_=>⟨by simp [N2],fun x a=>by cases a⟩
 | r::s,t,hs=>by
  have c:=fun b=>B1p c0 h s b (fun r hr=>hs r (List.mem_cons_of_mem _ hr))
  have d:=hs r (List.mem_cons_self ..)
  have a:=B1n c0 h t (N2 c0 s) (6 * s.length) c r 0
  simp only [N2,List.length_cons]
  exact ⟨by omega,a.2⟩
theorem B5s (c0:List (List Int)) (h:C1h c0):(W5 c0).length≤96∧∀ x ∈ W5 c0,B1e x:=by
 have:=B1p c0 h c0 0 (fun r hr=>(h.2 r hr).2.1)
 have a:=h.1
 unfold W5
 exact ⟨by omega,this.2⟩
theorem C7x (c0:List (List Int)) (p:Addr) (g:Option Addr) (b:List Slc) (i:Nat) (e:I4 b c0) (ae:c0.length≤9223372036854775807) (ac:c0.length≤i) (a9:C1h c0) (R:List (List UInt8×List UInt8)) (hR:W5 c0=R):D0e Tryz.prog 276 [pa p] [sl A3d g b,U6 J8 b c0,at_ p [.slice g c0.length i],K6] (fun x=>sv x.1) (fun x=>sv x.2) R:=by
 refine E0a (n:=45) Tryz.func276 rfl oki rfl rfl (fun l=>[(0,.func (.yield l) #[] #[]),(1,pa p)]) (fun l=>⟨rfl,rfl,trivial⟩) fun X l I Ix L Φ hX hr hD hI0 hY=>?_
 replace hR:=(W5.eq_1 ..).symm.trans hR
 have:=e.1
 refine sr 3 rfl (ix rfl (F2 (v:=.slice g c0.length i) (us:=[.slice g c0.length i]) F3k rfl rfl (B8 2 rfl) rfl) (ip' 2 0 [(10,iv (c0.length:Int)),(11,iv 0)] (ie (B2 ?_))))
 refine F2m (fun (a:Nat) (R_:List (List UInt8×List UInt8)) (Lt:Fen.Own) (Ft:List Pers)=>(a≤c0.length∧N2 c0 (c0.drop a) a=R_∧I R_ Lt Ft,[(0,.func (.yield l) #[] #[]),(9,.slice g c0.length i),(10,iv (c0.length:Int)),(11,iv (a:Int))],(Lt++([])),(sl A3d g b::U6 J8 b c0::at_ p [.slice g c0.length i]::K6::Ft),c0.length - a)) 0 R L Φ ⟨opx,hR,hI0⟩ (mc [L] [true] rfl oxs) (A9.con1 (B8 0 rfl) (A9.con1 (B8 1 rfl) (A9.con1 (B8 2 rfl) (A9.con1 (B8 3 rfl) (A9.dropT 4 rfl))))) ?_
 rintro a R_ Lt Ft ⟨am,hR,a1⟩
 refine sr 1 rfl (ip' 1 0 [(12,bv (decide ((a:Int)<(c0.length:Int))))] ?_)
 refine ie (A5 (X7 rfl (fun h2=>?_) (fun h2=>?_)))
 ·have a5:(a:Int)<(c0.length:Int):=by simpa using h2
  rw [A1f [] (show a<c0.length by omega)] at hR;replace hR:=(N2.eq_2 ..).symm.trans hR
  refine A4 (nx (A5 (B2 (sr 6 rfl (ip' 1 5 [(13,iv (a:Int))] (L9 0 rfl (by have:=e.1;omega) fun a3 y=>(D7 (B2s (k:=a) (d:=(⟨none,0,0⟩:Slc)) e 1 rfl (by have:=e.1;omega)) ?_)))))))
  have:=B2y e (k:=a) (d:=(⟨none,0,0⟩:Slc)) (by have:=e.1;omega)
  refine ix rfl (H9 C2d rfl rfl y rfl a rfl opx) (ix rfl (G9 (K5 (us:=[.slice ((b.getD a (⟨none,0,0⟩:Slc)).q) ((b.getD a (⟨none,0,0⟩:Slc)).n) ((b.getD a (⟨none,0,0⟩:Slc)).k)]) A1o rfl rfl (K2 (c:=A3d) (sz:=1) y (fun _=>rfl) 1 rfl (gd (⟨none,0,0⟩:Slc) (by have:=e.1;omega))) rfl) (congrArg (fun z=>ag [z]) (B3i e (by have:=e.1;omega)))) ?_)
  refine B2b 3 0 [0] (fun j=>[(4,pt j 0),(3,iv (a:Int))]) (fun j=>(bx j [.slice ((b.getD a (⟨none,0,0⟩:Slc)).q) ((c0.getD a []).length) ((b.getD a (⟨none,0,0⟩:Slc)).k)] 264::(Lt++([])))) (fun j=>?_)
  refine ie (sr 4 rfl (bY 4 0 [0] [(17,.slice ((b.getD a (⟨none,0,0⟩:Slc)).q) ((c0.getD a []).length) ((b.getD a (⟨none,0,0⟩:Slc)).k)),(18,iv ((c0.getD a []).length:Int)),(19,iv 0)] (ie (B2 ?_))))
  refine F2m (fun (f:Nat) (R_1:List (List UInt8×List UInt8)) (Lt1:Fen.Own) (Ft1:List Pers)=>(f≤(c0.getD a []).length∧N1 c0 a (N2 c0 (c0.drop (a+1))) ((c0.getD a []).drop f) f=R_1∧I R_1 Lt1 Ft1,[(0,.func (.yield l) #[] #[]),(3,iv (a:Int)),(9,.slice g c0.length i),(10,iv (c0.length:Int)),(11,iv (a:Int)),(17,.slice ((b.getD a (⟨none,0,0⟩:Slc)).q) ((c0.getD a []).length) ((b.getD a (⟨none,0,0⟩:Slc)).k)),(18,iv ((c0.getD a []).length:Int)),(19,iv (f:Int))],(bx j [.slice ((b.getD a (⟨none,0,0⟩:Slc)).q) ((c0.getD a []).length) ((b.getD a (⟨none,0,0⟩:Slc)).k)] 264::(Lt1++([]))),(sl J8 ((b.getD a (⟨none,0,0⟩:Slc)).q) (c0.getD a [])::sl A3d g b::U6 J8 b c0::at_ p [.slice g c0.length i]::K6::Ft1),(c0.getD a []).length - f)) 0 R_ Lt Ft ⟨opx,hR,a1⟩ (mc [[bx j [.slice ((b.getD a (⟨none,0,0⟩:Slc)).q) ((c0.getD a []).length) ((b.getD a (⟨none,0,0⟩:Slc)).k)] 264],Lt] [true,true] rfl oxs) (A9.con1 (B8 0 rfl) (A9.con1 (B8 1 rfl) (A9.con1 (B8 2 rfl) (A9.con1 (B8 3 rfl) (A9.con1 (B8 4 rfl) (A9.dropT 5 rfl)))))) ?_
  rintro f R_1 Lt1 Ft1 ⟨al,hR,o⟩
  have hq:=C1h.at a9 a f
  refine sr 1 rfl (ip' 1 0 [(20,bv (decide ((f:Int)<((c0.getD a []).length:Int))))] ?_)
  refine ie (A5 (X7 rfl (fun h7=>?_) (fun h7=>?_)))
  ·have a6:(f:Int)<((c0.getD a []).length:Int):=by simpa using h7
   rw [A1f 0 (show f<(c0.getD a []).length by omega)] at hR;replace hR:=(N1.eq_2 ..).symm.trans hR
   refine A4 (nx (A5 (B2 (sr 5 rfl (ip' 1 4 [(21,iv (f:Int))] (L9 0 rfl opx fun a8 a0=>(ix rfl (H9 L4 rfl rfl a0 rfl f rfl opx) (ix rfl (F2 (v:=iv ((c0.getD a []).getD f 0)) (us:=[iv ((c0.getD a []).getD f 0)]) cA rfl rfl (K2 (c:=J8) (sz:=1) a0 (fun _=>rfl) 0 rfl (gd 0 opx)) rfl) (ip' 2 0 [(5,iv (f:Int)),(6,iv ((c0.getD a []).getD f 0))] (ie (sr 2 rfl (ip' 2 0 [(7,sv ([58]:List UInt8)),(8,sv ([]:List UInt8))] ?_))))))))))))
   refine ie (F3i (fun (h:List UInt8) (R_2:List (List UInt8×List UInt8)) (Lt2:Fen.Own) (Ft2:List Pers)=>(Z9 c0 a f (N1 c0 a (N2 c0 (c0.drop (a+1))) ((c0.getD a []).drop (f+1))) h=R_2∧I R_2 Lt2 Ft2,[(0,.func (.yield l) #[] #[]),(3,iv (a:Int)),(6,iv ((c0.getD a []).getD f 0)),(7,sv h),(8,sv ([]:List UInt8)),(9,.slice g c0.length i),(10,iv (c0.length:Int)),(11,iv (a:Int)),(17,.slice ((b.getD a (⟨none,0,0⟩:Slc)).q) ((c0.getD a []).length) ((b.getD a (⟨none,0,0⟩:Slc)).k)),(18,iv ((c0.getD a []).length:Int)),(19,iv (f:Int))],(bx j [.slice ((b.getD a (⟨none,0,0⟩:Slc)).q) ((c0.getD a []).length) ((b.getD a (⟨none,0,0⟩:Slc)).k)] 264::(Lt2++([]))),(sl J8 ((b.getD a (⟨none,0,0⟩:Slc)).q) (c0.getD a [])::sl A3d g b::U6 J8 b c0::at_ p [.slice g c0.length i]::K6::Ft2))) ?_ ?_)
   ·refine B2 (sr 7 rfl (ip' 3 4 [(27,bv (decide ((f:Int)=0)))] ?_))
    refine zid 3 1 27 30 (decide ((a:Int)=0)) (fun a7 ai=>?_) ?_
    ·refine ip' 3 0 [(30,bv (decide ((a:Int)=0)))] ?_
     exact A3 (O6 2 27 30 a7 A9.refl (mc [[bx j [.slice ((b.getD a (⟨none,0,0⟩:Slc)).q) ((c0.getD a []).length) ((b.getD a (⟨none,0,0⟩:Slc)).k)] 264],Lt1] [true,true] rfl oxs) rfl rfl rfl rfl rfl)
    refine ip' 1 0 [(24,bv ((decide ((f:Int)=0))&&(decide ((a:Int)=0))))] (ie ?_)
    refine zja rfl hR ?_ ?_<;>clear hR<;>intro hR an ad
    ·refine A0 1 rfl (ip' 1 0 [(7,sv ([]:List UInt8))] (A3 ?_))
     exact E7f ([]:List UInt8) R_1 Lt1 Ft1 ⟨hR,o⟩ (mc [[bx j [.slice ((b.getD a (⟨none,0,0⟩:Slc)).q) ((c0.getD a []).length) ((b.getD a (⟨none,0,0⟩:Slc)).k)] 264],Lt1] [true,true] rfl oxs) (A9.con1 (B8 0 rfl) (A9.con1 (B8 1 rfl) (A9.con1 (B8 2 rfl) (A9.con1 (B8 3 rfl) (A9.con1 (B8 4 rfl) (A9.dropT 5 rfl))))))
    refine sr 3 rfl (ip' 3 0 [(31,bv (decide ((f:Int)=0)))] (ie ?_))
    refine zjd rfl hR ?_ ?_<;>clear hR<;>intro hR aj ah
    ·refine A0 1 rfl (ip' 1 0 [(7,sv ([59]:List UInt8))] (A3 ?_))
     exact E7f ([59]:List UInt8) R_1 Lt1 Ft1 ⟨hR,o⟩ (mc [[bx j [.slice ((b.getD a (⟨none,0,0⟩:Slc)).q) ((c0.getD a []).length) ((b.getD a (⟨none,0,0⟩:Slc)).k)] 264],Lt1] [true,true] rfl oxs) (A9.con1 (B8 0 rfl) (A9.con1 (B8 1 rfl) (A9.con1 (B8 2 rfl) (A9.con1 (B8 3 rfl) (A9.con1 (B8 4 rfl) (A9.dropT 5 rfl))))))
    refine A4 ?_
    exact E7f ([58]:List UInt8) R_1 Lt1 Ft1 ⟨hR,o⟩ (mc [[bx j [.slice ((b.getD a (⟨none,0,0⟩:Slc)).q) ((c0.getD a []).length) ((b.getD a (⟨none,0,0⟩:Slc)).k)] 264],Lt1] [true,true] rfl oxs) (A9.con1 (B8 0 rfl) (A9.con1 (B8 1 rfl) (A9.con1 (B8 2 rfl) (A9.con1 (B8 3 rfl) (A9.con1 (B8 4 rfl) (A9.dropT 5 rfl))))))
   intro h R_2 Lt2 Ft2
   rintro ⟨hR,w⟩
   replace hR:=(Z9.eq_1 ..).symm.trans hR
   refine F3i (fun (s:List UInt8) (R_3:List (List UInt8×List UInt8)) (Lt3:Fen.Own) (Ft3:List Pers)=>(A2d f h (N1 c0 a (N2 c0 (c0.drop (a+1))) ((c0.getD a []).drop (f+1))) s=R_3∧I R_3 Lt3 Ft3,[(0,.func (.yield l) #[] #[]),(3,iv (a:Int)),(7,sv h),(8,sv s),(9,.slice g c0.length i),(10,iv (c0.length:Int)),(11,iv (a:Int)),(17,.slice ((b.getD a (⟨none,0,0⟩:Slc)).q) ((c0.getD a []).length) ((b.getD a (⟨none,0,0⟩:Slc)).k)),(18,iv ((c0.getD a []).length:Int)),(19,iv (f:Int))],(bx j [.slice ((b.getD a (⟨none,0,0⟩:Slc)).q) ((c0.getD a []).length) ((b.getD a (⟨none,0,0⟩:Slc)).k)] 264::(Lt3++([]))),(sl J8 ((b.getD a (⟨none,0,0⟩:Slc)).q) (c0.getD a [])::sl A3d g b::U6 J8 b c0::at_ p [.slice g c0.length i]::K6::Ft3))) ?_ ?_
   ·refine sr 2 rfl (ip' 2 0 [(35,bv (!decide (((c0.getD a []).getD f 0)=(-1))))] (ie ?_))
    refine zjn rfl hR ?_ ?_<;>clear hR<;>intro hR ak af
    ·refine A0 3 rfl (ip' 1 2 [(36,iv ((c0.getD a []).getD f 0))] (zca (E4o ((c0.getD a []).getD f 0) (by first|omega|(exact ⟨by omega,by omega⟩))) (A9.cons (B8 4 rfl) bT) ?_))
     have:=C3s ((c0.getD a []).getD f 0) opx opx
     refine ip' 1 0 [(8,sv (Lib.itoa ((c0.getD a []).getD f 0)))] (A3 ?_)
     exact E7f (Lib.itoa ((c0.getD a []).getD f 0)) R_2 Lt2 Ft2 ⟨hR,w⟩ (mc [[bx j [.slice ((b.getD a (⟨none,0,0⟩:Slc)).q) ((c0.getD a []).length) ((b.getD a (⟨none,0,0⟩:Slc)).k)] 264],Lt2] [true,true] rfl oxs) (A9.con1 (B8 0 rfl) (A9.con1 (B8 1 rfl) (A9.con1 (B8 2 rfl) (A9.con1 (B8 3 rfl) (A9.con1 (B8 4 rfl) (A9.dropT 5 rfl))))))
    refine A4 ?_
    exact E7f ([]:List UInt8) R_2 Lt2 Ft2 ⟨hR,w⟩ (mc [[bx j [.slice ((b.getD a (⟨none,0,0⟩:Slc)).q) ((c0.getD a []).length) ((b.getD a (⟨none,0,0⟩:Slc)).k)] 264],Lt2] [true,true] rfl oxs) (A9.con1 (B8 0 rfl) (A9.con1 (B8 1 rfl) (A9.con1 (B8 2 rfl) (A9.con1 (B8 3 rfl) (A9.con1 (B8 4 rfl) (A9.dropT 5 rfl))))))
   intro s R_3 Lt3 Ft3
   rintro ⟨hR,t⟩
   replace hR:=(A2d.eq_1 ..).symm.trans hR
   refine sr 5 rfl (ip' 3 2 [(38,.func (.yield l) #[] #[]),(39,sv h),(40,sv s)] ?_)
   have r:=E1w hR;clear hR;obtain ⟨R14,hR,r⟩:=r;rw [r] at t
   refine it rfl (E0r (L2:=[bx j [.slice ((b.getD a (⟨none,0,0⟩:Slc)).q) ((c0.getD a []).length) ((b.getD a (⟨none,0,0⟩:Slc)).k)] 264]) (hY _ R14 _ _ t) rfl rfl rfl rfl (A9.dropT 5 rfl) (H2 [[bx j [.slice ((b.getD a (⟨none,0,0⟩:Slc)).q) ((c0.getD a []).length) ((b.getD a (⟨none,0,0⟩:Slc)).k)] 264],Lt3] [1,0] 2 rfl ozw rfl [Lt3,[bx j [.slice ((b.getD a (⟨none,0,0⟩:Slc)).q) ((c0.getD a []).length) ((b.getD a (⟨none,0,0⟩:Slc)).k)] 264]] rfl ooa)) fun ⟨⟨a4,L16,Φ17⟩,m⟩=>?_
   refine C8m (A9.yield [sl J8 ((b.getD a (⟨none,0,0⟩:Slc)).q) (c0.getD a []),sl A3d g b,U6 J8 b c0,at_ p [.slice g c0.length i],K6]) ?_
   refine ip' 1 0 [(42,bv (!a4))] ?_
   refine ie (X7 rfl (fun a2=>?_) (fun a2=>?_))
   ·have u:a4=false:=by simpa using a2
    rw [u] at m;try simp only [if_true,if_false,Bool.false_eq_true] at m
    refine A8 ?_
    exact C6l rfl ⟨hr,hD⟩ (by simp [hD]) (A0x rfl) (L':=L16) (Φ':=Φ17) (by exact .inr m) (mcT [L16,[bx j [.slice ((b.getD a (⟨none,0,0⟩:Slc)).q) ((c0.getD a []).length) ((b.getD a (⟨none,0,0⟩:Slc)).k)] 264]] 0 rfl rfl) (A9.dropT 5 rfl)
   ·have u:a4=true:=by simpa using a2
    rw [u] at m;try simp only [if_true,if_false,Bool.false_eq_true] at m
    refine A4 (nx (A0 2 rfl (ix rfl (B4 rfl rfl rfl rfl opx) (ip' 1 0 [(19,iv ((f:Int)+1))] (A3 (Q3 (H2 [L16,[bx j [.slice ((b.getD a (⟨none,0,0⟩:Slc)).q) ((c0.getD a []).length) ((b.getD a (⟨none,0,0⟩:Slc)).k)] 264]] [1,0] 2 rfl ozw rfl [[bx j [.slice ((b.getD a (⟨none,0,0⟩:Slc)).q) ((c0.getD a []).length) ((b.getD a (⟨none,0,0⟩:Slc)).k)] 264],L16] rfl opv) ?_))))))
    exact F3c (z1:=f) (z2:=R_1) (z3:=Lt1) (z4:=Ft1) (f+1) R14 L16 Φ17 ⟨opx,hR,m⟩ olr (mc [[bx j [.slice ((b.getD a (⟨none,0,0⟩:Slc)).q) ((c0.getD a []).length) ((b.getD a (⟨none,0,0⟩:Slc)).k)] 264],L16] [true,true] rfl oxs) (A9.con1 (B8 0 rfl) (A9.con1 (B8 1 rfl) (A9.con1 (B8 2 rfl) (A9.con1 (B8 3 rfl) (A9.con1 (B8 4 rfl) (A9.dropT 5 rfl))))))
  have a6:¬ ((f:Int)<((c0.getD a []).length:Int)):=by simpa using h7
  rw [A2g a6] at hR;replace hR:=(N1.eq_1 ..).symm.trans hR
  refine G6 (nx (A0 2 rfl (ix rfl (B4 rfl rfl rfl rfl opx) ?_)))
  refine ip' 1 0 [(11,iv ((a:Int)+1))] (A3 ?_)
  exact F3c (z1:=a) (z2:=R_) (z3:=Lt) (z4:=Ft) (a+1) R_1 Lt1 Ft1 ⟨opx,hR,o⟩ olr (mc [[bx j [.slice ((b.getD a (⟨none,0,0⟩:Slc)).q) ((c0.getD a []).length) ((b.getD a (⟨none,0,0⟩:Slc)).k)] 264],Lt1] [false,true] rfl oxs) (A9.con1 (B8 1 rfl) (A9.con1 (B8 2 rfl) (A9.con1 (B8 3 rfl) (A9.con1 (B8 4 rfl) (A9.dropT 5 rfl)))))
 have a5:¬ ((a:Int)<(c0.length:Int)):=by simpa using h2
 rw [A2g a5] at hR;replace hR:=(N2.eq_1 ..).symm.trans hR
 subst hR
 refine G6 ?_
 exact B2a rfl ⟨hr,hD⟩ (by simp [hD]) (A0x rfl) (L':=Lt) (Φ':=Ft) (by exact .inl a1) (mcT [Lt] 0 rfl rfl) (A9.dropT 4 rfl)
def X3:List (List UInt8×List UInt8)→List UInt8→(List UInt8×Int)
 | [],bbuf=>(bbuf,0)
 | el::rest,bbuf=>(C2 (L8 bbuf (el.1++el.2)) fun (a:List UInt8×Int)=>X3 rest a.1)
def A7k (l:List (List Int)):List UInt8×Int :=
 (bif (!decide ((A5a l)=0)) then (([]:List UInt8),(A5a l)) else X3 (W5 (U0 l)) ([]:List UInt8))
theorem B3a:∀ (es:List (List UInt8×List UInt8)) (b:List UInt8),(∀ x ∈ es,B1e x)→(X3 es b).1.length≤b.length+22 * es.length
 | [],b,_=>by simp [X3]
 | e::es,b,h=>by
  have d:=h e (List.mem_cons_self ..);unfold B1e at d
  have a:=B3a es (L8 b (e.1++e.2)).1 (fun x c=>h x (List.mem_cons_of_mem _ c))
  rw [W8,List.length_append] at a
  simp only [X3,C2,List.length_cons];omega
theorem A7c (l:List (List Int)):(A7k l).1.length≤2112:=by
 unfold A7k
 by_cases h:A5a l=0
 ·have a:=B5s l (B3f h)
  have:=B3a (W5 (U0 l)) [] a.2
  rw [h];simp only [decide_true,Bool.not_true,cond_false]
  have e:(W5 (U0 l)).length≤96:=a.1
  rw [List.length_nil] at this;omega
 ·simp [h]
theorem ocq {p:Prop} (h:p:=by first|omega|(simp only [List.length_take,List.length_drop,List.length_append,List.length_cons,List.length_nil,List.length_set,List.length_map,U0];omega)|decide):p:=h
theorem C1r {l:List (List Int)} {lq:Option Addr} {d:List Slc} {lk:Nat} {R:List UInt8×Int} (hR:A7k l=R) (b:I4 d l:=by exact bP) (a5:l.length≤9223372036854775807:=by exact bP) (a7:l.length≤lk:=by exact bP):J5 Tryz.prog 159 [.slice lq l.length lk] [sl A3d lq d,U6 J8 d l,K6] (.tuple #[sv R.1,iv R.2]):=by
 refine bZ Tryz.func159 fun X hX hr hD=>?_
 replace hR:=(A7k.eq_1 ..).symm.trans hR
 have:=b.1
 refine bN rfl (pp0 2 rfl (ie (A5 (bN rfl (bO 1 8 rfl (zv rfl (D1w rfl b) (bO 1 4 rfl (ie (bN rfl (bO 2 11 rfl (ie ?_)))))))))))
 refine zjn rfl hR ?_ ?_<;>clear hR<;>intro hR h1 a9
 ·refine bN rfl (cJ 3 2 3 rfl ?_)
  subst hR
  refine ie (A8 ?_)
  exact B1g hr hD
 refine A4 (nx (bN rfl (zra 1 [] (fun g=>[(5,pt g 0)]) (fun _=>[.pointer none,.slice none 0 0]) 270 fun g=>(ie (A5 (bN rfl (bO 1 13 rfl ?_)))))))
 refine zc rfl (D1n rfl b) fun ⟨b3,⟨⟨s,m,k6⟩,a2⟩⟩=>?_
 obtain ⟨r,aa,a4⟩:=a2
 have:=r.1
 refine ie (B2 (Q3 (H2 [vo cG 5 VR.nil ([]:List UInt8),[bx g [.pointer none,.slice none 0 0] 270]] [1,0] 2 rfl ozw rfl [[bx g [.pointer none,.slice none 0 0] 270],vo cG 5 VR.nil ([]:List UInt8)] rfl opv) ?_))
 refine E7c [(5,pt g 0),(14,.func (.func 276) #[] #[pa b3])] ⟨rfl,rfl,trivial⟩ ?_
 refine E7v (β:=(List UInt8×List UInt8)) (enc:=(fun x=>sv x.1)) (enc2:=(fun x=>sv x.2)) (xs:=(W5 (U0 l))) (σ:=Option Addr×List UInt8×VR) hr rfl (C7x (U0 l) b3 s m k6 r ocq ocq (by exact B3f (Decidable.of_not_not oiu)) _ rfl) c9 rfl rfl rfl (fun e x=>X3 e x.2.1=R∧(x.1=none∨x.1=some ⟨g,0,none⟩)∧bR 1 x.2.1.length x.2.2∧x.2.1.length+22 * e.length≤2112∧∀ x ∈ e,B1e x) (fun _ _=>False) (fun x=>(bx g [.pointer x.1,.slice (va x.2.2.q) x.2.1.length x.2.2.k] 270::((vo cG 5 x.2.2 x.2.1)++([])))) (fun x=>[at_ b3 [.slice s ((U0 l).length) k6],sl A3d s m,U6 J8 m (U0 l),sl A3d lq d,U6 J8 d l,K6]) (none,([]:List UInt8),VR.nil) (by exact ⟨hR,(.inl rfl),bR.nil,(by have w:=B5s l (B3f (Decidable.of_not_not oiu));refine ⟨?_,w.2⟩;have a6:(W5 (U0 l)).length≤96:=w.1;simp only [List.length_nil];omega)⟩) bQ A9.refl ?_ ?_ (fun _ _ _ _ h=>h.elim)
 ·rintro z rest ⟨f,j,n⟩ y Y Y' K' af hK
  try dsimp only at y
  obtain ⟨hR,c,a,p⟩:=y
  replace hR:=(X3.eq_2 ..).symm.trans hR
  have:=bR.le a
  refine bN rfl (bO 1 6 rfl (ie (A0 1 rfl (bO 1 7 rfl (A3 (hK _ _ _ ?_))))))
  refine B2 (A0 4 rfl (cJ 2 17 18 rfl ?_))
  refine ix rfl (D2s rfl rfl rfl (by first|omega|(have i:=p.2 _ (List.mem_cons_self ..);unfold B1e at i;omega)|(first|omega|(simp only [List.length_cons,List.length_nil,List.length_append,List.length_take,List.length_drop,U0];omega)))) ?_
  have:=@List.length_append _ z.1 z.2
  have hQ:=C9 hR;clear hR;obtain ⟨y0,u,hR⟩:=hQ
  refine zc rfl (A2x u c a (by first|omega|(simp only [List.length_append,List.length_cons,List.length_nil,List.length_take,List.length_drop,List.length_set];omega)|(have i:=p.2 _ (List.mem_cons_self ..);unfold B1e at i;have v:=p.1;simp only [List.length_append,List.length_cons,List.length_nil] at *;omega))) fun ⟨a1,o⟩=>?_
  have:=bR.le o
  have:=bR.cap o
  have:=W8 j (z.1++z.2);try rw [u] at this
  refine A3 ?_
  exact C5p (I:=fun e x=>X3 e x.2.1=R∧(x.1=none∨x.1=some ⟨g,0,none⟩)∧bR 1 x.2.1.length x.2.2∧x.2.1.length+22 * e.length≤2112∧∀ x ∈ e,B1e x) (Jx:=fun _ _=>False) (Lk:=fun x=>(bx g [.pointer x.1,.slice (va x.2.2.q) x.2.1.length x.2.2.k] 270::((vo cG 5 x.2.2 x.2.1)++([])))) (Φk:=fun x=>[at_ b3 [.slice s ((U0 l).length) k6],sl A3d s m,U6 J8 m (U0 l),sl A3d lq d,U6 J8 d l,K6]) (rest:=rest) ((some ⟨g,0,none⟩),y0.1,a1) (by exact ⟨hR,(.inr rfl),o,(by have i:=p.2 _ (List.mem_cons_self ..);unfold B1e at i;refine ⟨?_,fun x hx=>p.2 x (List.mem_cons_of_mem _ hx)⟩;have v:=p.1;try dsimp only;simp only [List.length_cons] at v;omega)⟩) bQ A9.refl
 ·rintro ab ⟨f,j,n⟩ t y
  try dsimp only at y
  obtain ⟨hR,c,a,p⟩:=y
  replace hR:=(X3.eq_1 ..).symm.trans hR
  have:=bR.le a
  refine nx (bN rfl (zc rfl (D7r g (.pointer f) j n a) fun _=>(cJ 2 2 3 rfl ?_)))
  subst hR
  refine ie (A8 ?_)
  exact C3j rfl ⟨hr,hD⟩ (by exact (A4x.cons (show A4x X.D by rw [hD];exact A4x.nil) t)) (Q9 rfl (B0 rfl) (B0 rfl)) () (by rfl) bQ bT
end Go.Proofs.YtfcdnnheppnbaaaGreatDoor
