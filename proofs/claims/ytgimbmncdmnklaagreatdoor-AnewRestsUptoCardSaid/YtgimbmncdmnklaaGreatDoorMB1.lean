import Derived.Test.YtgimbmncdmnklaaGreatDoorProg
import Derived.Test.YtgimbmncdmnklaaGreatDoorMA2
set_option linter.unusedVariables false
set_option linter.unusedSimpArgs false
set_option linter.unnecessarySimpa false
set_option maxRecDepth 100000
namespace Go.Proofs.YtgimbmncdmnklaaGreatDoor
open Go Go.Fen
structure Col where
 kind:Int
 n:Int
deriving DecidableEq
def U2 (x:Col):List Value:=[.int .i64 x.kind,.int .i64 x.n]
def Col.zero:Col:=⟨0,0⟩
theorem U2.inj (x y:Col) (h:U2 x=U2 y):x=y:=by
 rcases x with ⟨_,_⟩
 rcases y with ⟨_,_⟩
 simp [U2,bs] at h
 simp_all
structure Sty where
 attr:Int
 under:Int
 fore:Col
 back:Col
 line:Col
deriving DecidableEq
def D6 (x:Sty):List Value:=[.int .i64 x.attr,.int .i64 x.under]++(U2 x.fore++(U2 x.back++(U2 x.line)))
def Sty.zero:Sty:=⟨0,0,Col.zero,Col.zero,Col.zero⟩
theorem D6.inj (x y:Sty) (h:D6 x=D6 y):x=y:=by
 rcases x with ⟨_,_,⟨_,_⟩,⟨_,_⟩,⟨_,_⟩⟩
 rcases y with ⟨_,_,⟨_,_⟩,⟨_,_⟩,⟨_,_⟩⟩
 simp [U2,D6,bs] at h
 simp_all
structure Ar2 where
 a:Int
 b:Int
deriving DecidableEq
def A0r (x:Ar2):List Value:=[.int .i64 x.a,.int .i64 x.b]
def Ar2.zero:Ar2:=⟨0,0⟩
theorem A0r.inj (x y:Ar2) (h:A0r x=A0r y):x=y:=by
 rcases x with ⟨_,_⟩
 rcases y with ⟨_,_⟩
 simp [A0r,bs] at h
 simp_all
structure Ar3 where
 a:Int
 b:Int
 c:Int
deriving DecidableEq
def D0k (x:Ar3):List Value:=[.int .i64 x.a,.int .i64 x.b,.int .i64 x.c]
def Ar3.zero:Ar3:=⟨0,0,0⟩
theorem D0k.inj (x y:Ar3) (h:D0k x=D0k y):x=y:=by
 rcases x with ⟨_,_,_⟩
 rcases y with ⟨_,_,_⟩
 simp [D0k,bs] at h
 simp_all
structure Cel where
 base:Int
 marks:Ar2
 wide:Int
 sty:Sty
deriving DecidableEq
def D8 (x:Cel):List Value:=[.int .i64 x.base]++(A0r x.marks++([.int .i64 x.wide]++(D6 x.sty)))
def Cel.zero:Cel:=⟨0,Ar2.zero,0,Sty.zero⟩
theorem D8.inj (x y:Cel) (h:D8 x=D8 y):x=y:=by
 rcases x with ⟨_,⟨_,_⟩,_,⟨_,_,⟨_,_⟩,⟨_,_⟩,⟨_,_⟩⟩⟩
 rcases y with ⟨_,⟨_,_⟩,_,⟨_,_,⟨_,_⟩,⟨_,_⟩,⟨_,_⟩⟩⟩
 simp [A0r,D8,U2,D6,bs] at h
 simp_all
structure Spn where
 lo:Int
 hi:Int
deriving DecidableEq
def C0 (x:Spn):List Value:=[.int .i64 x.lo,.int .i64 x.hi]
def Spn.zero:Spn:=⟨0,0⟩
theorem C0.inj (x y:Spn) (h:C0 x=C0 y):x=y:=by
 rcases x with ⟨_,_⟩
 rcases y with ⟨_,_⟩
 simp [C0,bs] at h
 simp_all
structure Sp3 where
 row:Int
 frm:Int
 tt:Int
deriving DecidableEq
def G0 (x:Sp3):List Value:=[.int .i64 x.row,.int .i64 x.frm,.int .i64 x.tt]
def Sp3.zero:Sp3:=⟨0,0,0⟩
theorem G0.inj (x y:Sp3) (h:G0 x=G0 y):x=y:=by
 rcases x with ⟨_,_,_⟩
 rcases y with ⟨_,_,_⟩
 simp [G0,bs] at h
 simp_all
structure Plc where
 row:Int
 col:Int
deriving DecidableEq
def S8 (x:Plc):List Value:=[.int .i64 x.row,.int .i64 x.col]
def Plc.zero:Plc:=⟨0,0⟩
theorem S8.inj (x y:Plc) (h:S8 x=S8 y):x=y:=by
 rcases x with ⟨_,_⟩
 rcases y with ⟨_,_⟩
 simp [S8,bs] at h
 simp_all
structure Atr where
 a:Int
 b:Int
 c:Int
deriving DecidableEq
def C2g (x:Atr):List Value:=[.int .i64 x.a,.int .i64 x.b,.int .i64 x.c]
def Atr.zero:Atr:=⟨0,0,0⟩
theorem C2g.inj (x y:Atr) (h:C2g x=C2g y):x=y:=by
 rcases x with ⟨_,_,_⟩
 rcases y with ⟨_,_,_⟩
 simp [C2g,bs] at h
 simp_all
structure Act where
 kind:Int
 n:Int
 m:Int
 color:Col
 text:List UInt8
deriving DecidableEq
def A0 (x:Act):List Value:=[.int .i64 x.kind,.int .i64 x.n,.int .i64 x.m]++(U2 x.color++([.string (bs x.text)]))
def Act.zero:Act:=⟨0,0,0,Col.zero,[]⟩
theorem A0.inj (x y:Act) (h:A0 x=A0 y):x=y:=by
 rcases x with ⟨_,_,_,⟨_,_⟩,_⟩
 rcases y with ⟨_,_,_,⟨_,_⟩,_⟩
 simp [A0,U2,bs] at h
 simp_all
structure Shf where
 top:Int
 bottom:Int
 amt:Int
deriving DecidableEq
def E4k (x:Shf):List Value:=[.int .i64 x.top,.int .i64 x.bottom,.int .i64 x.amt]
def Shf.zero:Shf:=⟨0,0,0⟩
theorem E4k.inj (x y:Shf) (h:E4k x=E4k y):x=y:=by
 rcases x with ⟨_,_,_⟩
 rcases y with ⟨_,_,_⟩
 simp [E4k,bs] at h
 simp_all
structure Hld where
 shift:Shf
 gain:Int
deriving DecidableEq
def F0w (x:Hld):List Value:=E4k x.shift++([.int .i64 x.gain])
def Hld.zero:Hld:=⟨Shf.zero,0⟩
theorem F0w.inj (x y:Hld) (h:F0w x=F0w y):x=y:=by
 rcases x with ⟨⟨_,_,_⟩,_⟩
 rcases y with ⟨⟨_,_,_⟩,_⟩
 simp [F0w,E4k,bs] at h
 simp_all
structure Drf where
 kind:Int
 n:Int
 m:Int
 rgb:Int
 text:List UInt8
deriving DecidableEq
def E9x (x:Drf):List Value:=[.int .u16 x.kind,.int .u16 x.n,.int .u16 x.m,.int .u32 x.rgb,.string (bs x.text)]
def Drf.zero:Drf:=⟨0,0,0,0,[]⟩
theorem E9x.inj (x y:Drf) (h:E9x x=E9x y):x=y:=by
 rcases x with ⟨_,_,_,_,_⟩
 rcases y with ⟨_,_,_,_,_⟩
 simp [E9x,bs] at h
 simp_all
structure Lks where
 f:Nat→Int
def Lks.zero:Lks:=⟨fun _=>0⟩
def Lks.put (x:Lks) (k:Nat) (v:Int):Lks:=⟨fun i=>if i=k then v else x.f i⟩
def F3z:List Atr:=[⟨1,1,22⟩,⟨2,2,22⟩,⟨4,3,23⟩,⟨8,5,25⟩,⟨16,7,27⟩,⟨32,8,28⟩,⟨64,9,29⟩,⟨128,53,55⟩]
def D7c:List Spn:=[⟨768,879⟩,⟨1155,1161⟩,⟨1425,1469⟩,⟨1552,1562⟩,⟨1611,1631⟩,⟨6832,6911⟩,⟨7616,7679⟩,⟨8203,8207⟩,⟨8400,8447⟩,⟨65024,65039⟩,⟨65056,65071⟩]
def E4x:List Spn:=[⟨4352,4447⟩,⟨11904,12350⟩,⟨12353,19903⟩,⟨19968,42191⟩,⟨44032,55203⟩,⟨63744,64255⟩,⟨65072,65135⟩,⟨65280,65376⟩,⟨65504,65510⟩,⟨127744,128591⟩,⟨128640,128767⟩,⟨129280,129535⟩,⟨131072,262141⟩]
abbrev J2:Pers:=E9m 4 B8d
abbrev M2:Pers:=sl C2g (some ⟨2,0,none⟩) F3z
abbrev U5:Pers:=sl C0 (some ⟨0,0,none⟩) D7c
abbrev U8:Pers:=sl C0 (some ⟨1,0,none⟩) E4x
theorem B8x:ApTy Tryz.prog 98 5 1 1:=⟨by kernel_rfl,by kernel_rfl,rfl⟩
theorem D1t:ApTy Tryz.prog 237 3 1 8:=⟨by kernel_rfl,by kernel_rfl,rfl⟩
theorem D4r:EqT Tryz.prog 54 A0:=EqT.of 20 rfl oki oki (fun _ _=>by kernel_rfl) A0.inj
theorem A4k:SlTy Tryz.prog 98 5 1:=⟨by kernel_rfl,by kernel_rfl⟩
theorem K2:SlTy Tryz.prog 237 3 1:=⟨by kernel_rfl,by kernel_rfl⟩
theorem cH:Ty Tryz.prog 3 1 false:=⟨by kernel_rfl⟩
theorem ty5:Ty Tryz.prog 5 1 false:=⟨by kernel_rfl⟩
theorem ty9:Ty Tryz.prog 9 1 false:=⟨by kernel_rfl⟩
theorem E7r:Ty Tryz.prog 237 1 false:=⟨by kernel_rfl⟩
def B0y (cp:Int):Bool :=
 (((decide ((0:Int)≤cp))&&(decide (cp≤1114111)))&&(!decide ((cp / 2048)=27)))
theorem C6g {cp:Int} {R:Bool} (hR:B0y cp=R):J5 Tryz.prog 111 [iv cp] [] (bv R):=by
 refine cC Tryz.func111 fun X hX hr hD=>?_
 replace hR:=(B0y.eq_1 ..).symm.trans hR
 refine bS rfl (pp0 1 rfl (ie (bS rfl (bP 3 5 rfl ?_))))
 refine zid 3 6 5 8 (decide (cp≤1114111)) (fun d b=>?_) ?_
 ·refine bP 3 8 rfl ?_
  exact A2 (J0 2 5 8 d bX bU rfl rfl rfl rfl rfl)
 refine bP 1 9 rfl ?_
 refine zia 4 1 9 13 (!decide ((cp / 2048)=27)) (fun a=>?_) ?_
 ·have e:=bV a
  refine bP 1 10 rfl ?_
  refine ix rfl (A1s (c:=cp / 2048) rfl rfl rfl ozw (by simp [Int.fdiv_eq_ediv_of_nonneg,IntKind.bits])) (bP 2 13 rfl ?_)
  exact A2 (J0 4 9 _ a bX bU rfl rfl rfl rfl rfl)
 refine bP 1 2 rfl ?_
 subst hR
 refine ie (A8 ?_)
 exact F7 hr hD
def M6 (a:Nat) (b:Int):UInt8 :=
 (by8 (bOp .or .u8 128 ((by8 (bOp .and .u8 ((by8 (IntKind.u8.wrap (Int.fdiv b (2 ^ (min ((a:Int)).toNat 64))))).toNat:Int) 63)).toNat:Int)))
theorem A8u {a:Nat} {c:Int} {b:Nat} {R:UInt8} (hR:M6 a c=R):Con Tryz.prog 199 [iv (a:Int),pt b 0] [bx b [iv c] 3] [] (Unit) (fun x=>.int .u8 (R.toNat:Int)) (fun x=>[bx b [iv c] 3]) (fun x=>[]):=by
 refine cC Tryz.func199 fun X hX hr hD=>?_
 replace hR:=(M6.eq_1 ..).symm.trans hR
 refine bS rfl (pp0 1 rfl (ie (bS rfl (pl2 2 [0] 4 5 rfl (ix rfl (A1s rfl rfl rfl opx rfl) (ix rfl (H8 (v:=.int .u8 (IntKind.u8.wrap (Int.fdiv c (2 ^ (min ((a:Int)).toNat 64))))) (J9.pure rfl) (B1l)) (ix rfl (H8 (v:=.int .u8 (bOp .and .u8 ((by8 (IntKind.u8.wrap (Int.fdiv c (2 ^ (min ((a:Int)).toNat 64))))).toNat:Int) 63)) (J9.pure rfl) (C5e)) (ix rfl (H8 (v:=.int .u8 (bOp .or .u8 128 ((by8 (bOp .and .u8 ((by8 (IntKind.u8.wrap (Int.fdiv c (2 ^ (min ((a:Int)).toNat 64))))).toNat:Int) 63)).toNat:Int))) (J9.pure rfl) (C5e)) (bP 1 3 rfl ?_)))))))))
 subst hR
 refine ie (A8 ?_)
 exact cD hr hD (K7 rfl (A6 rfl)) () bU bX
def A8p (a:Int):List UInt8 :=
 (bif (decide (a<128)) then ([(by8 (IntKind.u8.wrap a))]:List UInt8) else (bif (decide (a<2048)) then ([(by8 (bOp .or .u8 192 ((by8 (IntKind.u8.wrap (a / 64))).toNat:Int))),(M6 0 a)]:List UInt8) else (bif (decide (a<65536)) then ([(by8 (bOp .or .u8 224 ((by8 (IntKind.u8.wrap (a / 4096))).toNat:Int))),(M6 6 a),(M6 0 a)]:List UInt8) else ([(by8 (bOp .or .u8 240 ((by8 (IntKind.u8.wrap (a / 262144))).toNat:Int))),(M6 12 a),(M6 6 a),(M6 0 a)]:List UInt8))))
def B5n (cp:Int):List UInt8 :=
 (bif (!(B0y cp)) then A8p 65533 else A8p cp)
theorem B9g (cp:Int):(B5n cp).length≤4:=by
 unfold B5n A8p
 simp only [Bool.cond_eq_ite]
 repeat' split
 all_goals simp
theorem D4d {cp:Int} {R:List UInt8} (hR:B5n cp=R):J5 Tryz.prog 153 [iv cp] [] (sv R):=by
 refine cC Tryz.func153 fun X hX hr hD=>?_
 replace hR:=(B5n.eq_1 ..).symm.trans hR
 refine bS rfl (zra 2 [] (fun b=>[(1,pt b 0)]) (fun _=>[iv cp]) 3 fun b=>?_)
 refine ie (A7y (fun a=>(A8p a=R,[(1,pt b 0)],[bx b [iv a] 3],[])) ?_ ?_)
 ·refine bS rfl (cF 1 [0] 4 rfl (zv rfl (C6g rfl) (bP 1 6 rfl (ie ?_))))
  refine zjb rfl hR ?_ ?_<;>clear hR<;>intro hR g
  ·refine A1 1 rfl (zru 1 [0] [] 0 (bx b [iv 65533] 3) (A2 ?_))
   exact W8 _ hR bU bX
  refine A4 ?_
  exact W8 _ hR bU bX
 intro a
 rintro hR
 replace hR:=(A8p.eq_1 ..).symm.trans hR
 refine bS rfl (ip' 2 0 [(3,.func (.func 199) #[] #[pt b 0])] (ie (A3 (A9 (bS rfl (cF 3 [0] 8 rfl (ie ?_)))))))
 refine zjd rfl hR ?_ ?_<;>clear hR<;>intro hR j f
 ·refine bS rfl (cF 1 [0] 11 rfl (ix rfl (H8 (J9.pure rfl) (B1l)) (it rfl (B1 (c:=cI) (xs:=[(by8 (IntKind.u8.wrap a))]) A4k rfl rfl rfl oki) fun i=>?_)))
  refine ix rfl (C0o Tryz.underlying9 Tryz.underlying98 rfl rfl (A5 0 rfl) rfl oki) ?_
  refine bP 1 2 rfl ?_
  subst hR
  refine ie (A8 ?_)
  exact F7 hr hD
 refine bS rfl (cF 3 [0] 15 rfl (ie ?_))
 refine zjd rfl hR ?_ ?_<;>clear hR<;>intro hR l e
 ·refine zS [(9,[0])] ?_
  refine hqV [4] [(22,.func (.func 199) #[] #[pt b 0])] ?_
  refine gl 0 [0] rfl (C1 cH rfl rfl 0 rfl rfl) ?_
  refine gk 1 rfl (A1s (c:=a / 64) rfl rfl rfl ozw (by simp [Int.fdiv_eq_ediv_of_nonneg,IntKind.bits])) ?_
  refine gk 2 rfl (H8 (J9.pure rfl) (B1l)) ?_
  refine gk 3 rfl (H8 (J9.pure rfl) (C5e)) ?_
  refine gc 5 [0] rfl (A8u rfl) fun _=>?_
  refine go 6 [0] rfl (B1 (c:=cI) (xs:=[(by8 (bOp .or .u8 192 ((by8 (IntKind.u8.wrap (a / 64))).toNat:Int))),(M6 0 a)]) A4k rfl rfl rfl oki) fun h=>?_
  refine go 7 [0] rfl (Det.tri (J9.det (C0o Tryz.underlying9 Tryz.underlying98 rfl rfl (A5 0 rfl) rfl oki))) fun _=>?_
  refine hq1 [8] 2 rfl ?_
  refine ge ?_
  subst hR
  refine A8 ?_
  exact F7 hr hD
 refine bS rfl (cF 3 [0] 26 rfl (ie ?_))
 refine zjd rfl hR ?_ ?_<;>clear hR<;>intro hR k d
 ·refine zS [(11,[0])] ?_
  refine hqV [4,6] [(33,.func (.func 199) #[] #[pt b 0]),(35,.func (.func 199) #[] #[pt b 0])] ?_
  refine gl 0 [0] rfl (C1 cH rfl rfl 0 rfl rfl) ?_
  refine gk 1 rfl (A1s (c:=a / 4096) rfl rfl rfl ozw (by simp [Int.fdiv_eq_ediv_of_nonneg,IntKind.bits])) ?_
  refine gk 2 rfl (H8 (J9.pure rfl) (B1l)) ?_
  refine gk 3 rfl (H8 (J9.pure rfl) (C5e)) ?_
  refine gc 5 [0] rfl (A8u rfl) fun _=>?_
  refine gc 7 [0] rfl (A8u rfl) fun _=>?_
  refine go 8 [0] rfl (B1 (c:=cI) (xs:=[(by8 (bOp .or .u8 224 ((by8 (IntKind.u8.wrap (a / 4096))).toNat:Int))),(M6 6 a),(M6 0 a)]) A4k rfl rfl rfl oki) fun m=>?_
  refine go 9 [0] rfl (Det.tri (J9.det (C0o Tryz.underlying9 Tryz.underlying98 rfl rfl (A5 0 rfl) rfl oki))) fun _=>?_
  refine hq1 [10] 2 rfl ?_
  refine ge ?_
  subst hR
  refine A8 ?_
  exact F7 hr hD
 refine A4 (nx (zS [(13,[0])] ?_))
 refine hqV [4,6,8] [(43,.func (.func 199) #[] #[pt b 0]),(45,.func (.func 199) #[] #[pt b 0]),(47,.func (.func 199) #[] #[pt b 0])] ?_
 refine gl 0 [0] rfl (C1 cH rfl rfl 0 rfl rfl) ?_
 refine gk 1 rfl (A1s (c:=a / 262144) rfl rfl rfl ozw (by simp [Int.fdiv_eq_ediv_of_nonneg,IntKind.bits])) ?_
 refine gk 2 rfl (H8 (J9.pure rfl) (B1l)) ?_
 refine gk 3 rfl (H8 (J9.pure rfl) (C5e)) ?_
 refine gc 5 [0] rfl (A8u rfl) fun _=>?_
 refine gc 7 [0] rfl (A8u rfl) fun _=>?_
 refine gc 9 [0] rfl (A8u rfl) fun _=>?_
 refine go 10 [0] rfl (B1 (c:=cI) (xs:=[(by8 (bOp .or .u8 240 ((by8 (IntKind.u8.wrap (a / 262144))).toNat:Int))),(M6 12 a),(M6 6 a),(M6 0 a)]) A4k rfl rfl rfl oki) fun n=>?_
 refine go 11 [0] rfl (Det.tri (J9.det (C0o Tryz.underlying9 Tryz.underlying98 rfl rfl (A5 0 rfl) rfl oki))) fun _=>?_
 refine hq1 [12] 2 rfl ?_
 refine ge ?_
 subst hR
 refine A8 ?_
 exact F7 hr hD
def I8 (a:List UInt8) (s:List UInt8):List UInt8×Int :=
 ((a++s),(s.length:Int))
theorem Z5 (a s:List UInt8):(I8 a s).1.length=a.length+s.length:=by simp [I8]
theorem ofv {p:Prop} (h:p:=by first|omega|(simp only [List.length_cons,List.length_nil,List.length_append,List.length_take,List.length_drop];omega)):p:=h
theorem A4g {a s:List UInt8} {e:Nat} {b:Option Addr} {bbufr:VR} {R:List UInt8×Int} (hR:I8 a s=R) (d:b=none∨b=some ⟨e,0,none⟩:=by exact bW) (c:bT 1 a.length bbufr:=by exact bW) (hb:a.length+s.length≤140737488355328:=by exact bW):Con Tryz.prog 203 [pt e 0,sv s] (bx e [.pointer b,.slice (va bbufr.q) a.length bbufr.k] 296::((vo cI 5 bbufr a)++([]))) [] ({r:VR // bT 1 R.1.length r}) (fun x=>.tuple #[iv R.2,.nilIface]) (fun x=>(bx e [pt e 0,.slice (va x.1.q) R.1.length x.1.k] 296::((vo cI 5 x.1 R.1)++([])))) (fun x=>[]):=by
 refine cC Tryz.func203 fun X hX hr hD=>?_
 replace hR:=(I8.eq_1 ..).symm.trans hR
 refine bS rfl (pp0 2 rfl (ie (bS rfl (bP 1 6 rfl ?_))))
 refine zc rfl (D9s e (.slice (va bbufr.q) a.length bbufr.k) b d) fun _=>?_
 refine ie (bS rfl (pl3 6 [0] 8 12 13 rfl (it rfl (B5b (r:=bbufr) (xs:=a) (s:=s) (pre:=[bx e [pt e 0,.slice (va bbufr.q) a.length bbufr.k] 296]) (post:=[]) B8x oki Tryz.underlying9 rfl rfl rfl rfl rfl rfl rfl c ofv) fun ⟨g,f⟩=>?_)))
 refine zru 3 [0] [] 0 (bx e [pt e 0,.slice (va g.q) ((a++s).length) g.k] 296) ?_
 refine ie (bS rfl (cG 4 4 5 rfl ?_))
 subst hR
 refine ie (A8 ?_)
 exact cD hr hD (U0 rfl (A6 rfl) (A6 rfl)) ⟨g,f⟩ bU bX
def A6t:List Int→Nat→List UInt8→List UInt8
 | [],t8,bbuf=>bbuf
 | hd_l0::tl_l0,t8,bbuf=>(B6 (B5n hd_l0) fun (a:List UInt8)=>(B6 (I8 bbuf a) fun (b:List UInt8×Int)=>A6t tl_l0 (t8+1) b.1))
def B9l (a:List Int):List UInt8 :=
 A6t a 0 ([]:List UInt8)
theorem opv {p:Prop} (h:p:=by first|rfl|simp):p:=h
theorem odi {p:Prop} (h:p:=by first|omega|(simp only [List.length_append];omega)):p:=h
theorem olr {p:Prop} (h:p:=by (try dsimp only);omega):p:=h
theorem E0k {a:List Int} {g:Option Addr} {codesk:Nat} {R:List UInt8} (hR:B9l a=R) (r:a.length≤9223372036854775807:=by exact bW) (n:a.length≤codesk:=by exact bW) (hp:a.length≤1000000000:=by exact bW):J5 Tryz.prog 216 [.slice g a.length codesk] [sl H5 g a] (sv R):=by
 refine cC Tryz.func216 fun X hX hr hD=>?_
 replace hR:=(B9l.eq_1 ..).symm.trans hR
 refine bS rfl (pp0 1 rfl (ie (bS rfl (zra 1 [] (fun j=>[(3,pt j 0)]) _ _ fun j=>(ie (A3 (bS rfl (pp3 3 6 7 8 rfl (ie (A9 (Y0 (I1 [_,_] [1,0] 2 rfl ozw rfl [[bx j [.pointer none,.slice none 0 0] 296],vo cI 5 VR.nil []] rfl opv) ?_)))))))))))
 refine A3q (un fun i=>un fun b=>un fun e d=>(i≤a.length∧A6t (a.drop i) i e=R∧(b=none∨b=some ⟨j,0,none⟩)∧bT 1 e.length d∧e.length≤4 * i,[(3,_),(6,_),(7,iv _),(8,iv i)],(bx j [.pointer b,.slice (va d.q) e.length d.k] _::((vo cI 5 d e)++([]))),_,a.length - i)) (0,_,_,_) ⟨opx,hR,(.inl rfl),bT.nil,oom⟩ bU A7.refl ?_
 rintro ⟨i,b,e,d⟩ ⟨a0,hR,h,f,w⟩
 have:=bT.le f
 refine bS rfl (bP 1 9 rfl ?_)
 refine ie (A3 (G4 rfl (fun t=>?_) (fun t=>?_)))
 ·have p:=bV t
  rw [A1b 0 (show i<a.length by omega)] at hR;replace hR:=(A6t.eq_2 ..).symm.trans hR
  refine A4 (nx (A3 (A9 (bS rfl (K8 0 rfl opx fun a4 l=>(ix rfl (F8 K2 rfl rfl l rfl i rfl opx) (ix rfl (C9 cH rfl rfl (H2 (sz:=1) l (fun _=>rfl) 0 rfl (gd 0 opx)) rfl) (bP 1 5 rfl (ie (A1 3 rfl (bP 1 12 rfl ?_)))))))))))
  have u:=C4 hR;clear hR;obtain ⟨z,s,hR⟩:=u
  refine zv rfl (D4d s) ?_
  have:=B9g (a.getD i 0);try rw [s] at this
  have u:=C4 hR;clear hR;obtain ⟨y2,o,hR⟩:=u
  refine zc rfl (A4g o h f (by first|omega|(simp only [List.length_append,List.length_cons,List.length_nil,List.length_take,List.length_drop,List.length_set];omega)|(have v:=w.2 _ (List.mem_cons_self ..);unfold B2k at v;have x:=w.1;simp only [List.length_append,List.length_cons,List.length_nil] at *;omega))) fun ⟨y,m⟩=>?_
  have:=Z5 e z;try rw [o] at this
  refine A2 (nx (A1 2 rfl (ix rfl (B3 rfl rfl rfl rfl opx) (bP 1 8 rfl (A2 ?_)))))
  exact A2g (_,_,_,y) ⟨opx,hR,(.inr rfl),m,odi⟩ olr bU A7.refl
 have p:=bV t
 rw [A1d p] at hR;replace hR:=(A6t.eq_1 ..).symm.trans hR
 refine F4 (nx (bS rfl (zc rfl (D8u j (.pointer b) e d f) fun _=>?_)))
 refine bP 1 2 rfl ?_
 subst hR
 refine ie (A8 ?_)
 exact F7 hr hD
def K4 (b:UInt8):Int :=
 (bif ((decide ((240:Int)≤(b.toNat:Int)))&&(decide ((b.toNat:Int)≤244))) then 4 else (bif ((decide ((224:Int)≤(b.toNat:Int)))&&(decide ((b.toNat:Int)<240))) then 3 else (bif ((decide ((194:Int)≤(b.toNat:Int)))&&(decide ((b.toNat:Int)<224))) then 2 else (bif (decide ((b.toNat:Int)<128)) then 1 else 0))))
theorem D3h (b:UInt8):K4 b≤4:=by
 unfold K4;simp only [Bool.cond_eq_ite];repeat' split
 all_goals omega
theorem D6d {b:UInt8} {R:Int} (hR:K4 b=R):J5 Tryz.prog 276 [.int .u8 (b.toNat:Int)] [] (iv R):=by
 refine cC Tryz.func276 fun X hX hr hD=>?_
 replace hR:=(K4.eq_1 ..).symm.trans hR
 refine bS rfl (bP 1 2 rfl (ie (A3 (A9 (A3 (A9 (A3 (A9 (A3 (A9 (A3 (A9 (A3 (A3 (bS rfl (bP 3 6 rfl ?_))))))))))))))))
 refine zid 3 1 6 9 (decide ((b.toNat:Int)≤244)) (fun d a=>?_) ?_
 ·refine bP 3 9 rfl ?_
  exact A2 (J0 2 6 9 d bX bU rfl rfl rfl rfl rfl)
 refine bP 1 3 rfl (ie ?_)
 refine zja rfl hR ?_ ?_<;>clear hR<;>intro hR m g
 ·refine F4 (nx (A1 3 rfl (bP 1 27 rfl ?_)))
  refine ix rfl (B3 (c:=1) rfl rfl rfl rfl ozw) (bP 1 2 rfl (A2 (nx (A1 3 rfl (bP 1 29 rfl (ix rfl (B3 (c:=2) rfl rfl rfl rfl ozw) (bP 1 2 rfl (A2 (nx (A1 3 rfl (bP 1 31 rfl (ix rfl (B3 (c:=3) rfl rfl rfl rfl ozw) ?_))))))))))))
  refine bP 1 2 rfl (A2 (nx (bS rfl (bP 1 33 rfl (ix rfl (B3 (c:=4) rfl rfl rfl rfl ozw) (bP 1 2 rfl (ie (F4 (nx (bS rfl (bP 2 2 rfl ?_)))))))))))
  subst hR
  refine ie (A8 ?_)
  exact F7 hr hD
 refine A4 (nx (A3 (bS rfl (bP 3 13 rfl ?_))))
 refine zid 3 1 13 16 (decide ((b.toNat:Int)<240)) (fun l h=>?_) ?_
 ·refine bP 3 16 rfl ?_
  exact A2 (J0 2 13 _ l bX bU rfl rfl rfl rfl rfl)
 refine bP 1 10 rfl (ie ?_)
 refine zja rfl hR ?_ ?_<;>clear hR<;>intro hR o j
 ·refine F4 (nx (A1 3 rfl (bP 1 29 rfl ?_)))
  refine ix rfl (B3 (c:=1) rfl rfl rfl rfl ozw) (bP 1 2 rfl (A2 (nx (A1 3 rfl (bP 1 31 rfl (ix rfl (B3 (c:=2) rfl rfl rfl rfl ozw) (bP 1 2 rfl (A2 (nx (bS rfl (bP 1 33 rfl (ix rfl (B3 (c:=3) rfl rfl rfl rfl ozw) ?_))))))))))))
  refine bP 1 2 rfl (ie (F4 (nx (bS rfl (bP 2 2 rfl ?_)))))
  subst hR
  refine ie (A8 ?_)
  exact F7 hr hD
 refine A4 (nx (A3 (bS rfl (bP 3 20 rfl ?_))))
 refine zid 3 1 20 23 (decide ((b.toNat:Int)<224)) (fun i k=>?_) ?_
 ·refine bP 3 23 rfl ?_
  exact A2 (J0 2 20 _ i bX bU rfl rfl rfl rfl rfl)
 refine bP 1 17 rfl (ie ?_)
 refine zja rfl hR ?_ ?_<;>clear hR<;>intro hR n e
 ·refine F4 (nx (A1 3 rfl (bP 1 31 rfl ?_)))
  refine ix rfl (B3 (c:=1) rfl rfl rfl rfl ozw) (bP 1 2 rfl (A2 (nx (bS rfl (bP 1 33 rfl (ix rfl (B3 (c:=2) rfl rfl rfl rfl ozw) (bP 1 2 rfl (ie (F4 (nx (bS rfl (bP 2 2 rfl ?_))))))))))))
  subst hR
  refine ie (A8 ?_)
  exact F7 hr hD
 refine A4 (nx (bS rfl (bP 3 24 rfl (ie ?_))))
 refine zjd rfl hR ?_ ?_<;>clear hR<;>intro hR p f
 ·refine F4 (nx (bS rfl (bP 1 33 rfl ?_)))
  refine ix rfl (B3 (c:=1) rfl rfl rfl rfl ozw) (bP 1 2 rfl (ie (F4 (nx (bS rfl (bP 2 2 rfl ?_))))))
  subst hR
  refine ie (A8 ?_)
  exact F7 hr hD
 refine A4 (nx (F4 (nx (bS rfl (bP 2 2 rfl ?_)))))
 subst hR
 refine ie (A8 ?_)
 exact F7 hr hD
def A3u (b:UInt8):UInt8×UInt8 :=
 (bif (decide ((b.toNat:Int)=224)) then ((160:UInt8),(191:UInt8)) else (bif (decide ((b.toNat:Int)=237)) then ((128:UInt8),(159:UInt8)) else (bif (decide ((b.toNat:Int)=240)) then ((144:UInt8),(191:UInt8)) else (bif (decide ((b.toNat:Int)=244)) then ((128:UInt8),(143:UInt8)) else ((128:UInt8),(191:UInt8))))))
theorem D5h {b:UInt8} {R:UInt8×UInt8} (hR:A3u b=R):J5 Tryz.prog 277 [.int .u8 (b.toNat:Int)] [] (.tuple #[.int .u8 (R.1.toNat:Int),.int .u8 (R.2.toNat:Int)]):=by
 refine cC Tryz.func277 fun X hX hr hD=>?_
 replace hR:=(A3u.eq_1 ..).symm.trans hR
 refine bS rfl (pp0 2 rfl (ie (A3 (bS rfl (bP 1 4 rfl (ie (A9 (bS rfl (bP 2 5 rfl (ie ?_))))))))))
 refine zjd rfl hR ?_ ?_<;>clear hR<;>intro hR h d
 ·refine bS rfl (cG 2 2 3 rfl ?_)
  subst hR
  refine ie (A8 ?_)
  exact B4w hr hD
 refine bS rfl (bP 2 7 rfl (ie ?_))
 refine zjd rfl hR ?_ ?_<;>clear hR<;>intro hR f e
 ·refine bS rfl (cG 2 2 3 rfl ?_)
  subst hR
  refine ie (A8 ?_)
  exact B4w hr hD
 refine bS rfl (bP 2 9 rfl (ie ?_))
 refine zjd rfl hR ?_ ?_<;>clear hR<;>intro hR i a
 ·refine bS rfl (cG 2 2 3 rfl ?_)
  subst hR
  refine ie (A8 ?_)
  exact B4w hr hD
 refine bS rfl (bP 2 11 rfl (ie ?_))
 refine zjd rfl hR ?_ ?_<;>clear hR<;>intro hR g c
 ·refine bS rfl (cG 2 2 3 rfl ?_)
  subst hR
  refine ie (A8 ?_)
  exact B4w hr hD
 refine A4 (nx (bS rfl (cG 2 2 3 rfl ?_)))
 subst hR
 refine ie (A8 ?_)
 exact B4w hr hD
def A0b (p:List UInt8):List UInt8→UInt8→UInt8→Nat→Int
 | [],low,high,t26=>(bif (decide ((p.length:Int)<(K4 (p.getD 0 0)))) then 1 else 2)
 | hd_l0::tl_l0,low,high,t26=>(bif ((decide ((hd_l0.toNat:Int)<(low.toNat:Int)))||(decide ((high.toNat:Int)<(hd_l0.toNat:Int)))) then 0 else A0b p tl_l0 (128:UInt8) (191:UInt8) (t26+1))
def Q3 (p:List UInt8):Int :=
 (bif (decide ((K4 (p.getD 0 0))<(p.length:Int))) then 0 else (B6 (A3u (p.getD 0 0)) fun (a:UInt8×UInt8)=>A0b p (p.drop 1) a.1 a.2 0))
theorem C9b {p:List UInt8} (h:Q3 p=1):p.length≤4:=by
 unfold Q3 at h;have:=D3h (p.getD 0 0);revert h this;generalize p.getD 0 0=z;intro h this
 cases hc:decide (K4 z<(p.length:Int))<;>rw [hc] at h<;>simp at h hc
 omega
theorem ofx {p:Prop} (h:p:=by first|rfl|omega|(simp only [List.length_take,List.length_drop];omega)|(simp;done)):p:=h
theorem C2l {p:List UInt8} {e:Option Addr} {pk:Nat} {R:Int} (hR:Q3 p=R) (t:p.length≤9223372036854775807:=by exact bW) (k:p.length≤pk:=by exact bW) (u:1≤p.length:=by exact bW):J5 Tryz.prog 268 [.slice e p.length pk] [sl cI e p] (iv R):=by
 refine cC Tryz.func268 fun X hX hr hD=>?_
 replace hR:=(Q3.eq_1 ..).symm.trans hR
 refine bS rfl (pp0 1 rfl (ie (bS rfl (bP 1 8 rfl (K8 0 rfl opx fun y b=>(ix rfl (F8 A4k rfl rfl b rfl 0 rfl opx) (ix rfl (C9 ty5 rfl rfl (H2 (sz:=1) b (fun _=>rfl) 0 rfl (gd 0 opx)) rfl) (zv rfl (D6d rfl) (bP 1 3 rfl ?_)))))))))
 refine ie (A3 (bS rfl (bP 4 15 rfl (ie ?_))))
 refine zjd rfl hR ?_ ?_<;>clear hR<;>intro hR v n
 ·refine bS rfl (bP 1 2 rfl ?_)
  subst hR
  refine ie (A8 ?_)
  exact F7 hr hD
 refine A4 (nx (bS rfl (bP 1 17 rfl (ix rfl (F8 A4k rfl rfl b rfl 0 rfl opx) (ix rfl (C9 ty5 rfl rfl (H2 (sz:=1) b (fun _=>rfl) 0 rfl (gd 0 opx)) rfl) ?_)))))
 have l:=C4 hR;clear hR;obtain ⟨i,g,hR⟩:=l
 refine zv rfl (D5h g) (cG 5 4 5 rfl (ie (A3 (bS rfl (bP 1 23 rfl (D7 (C8m (sz:=1) (A5 0 rfl) 1 _ (fun _=>rfl) opx opx) ?_))))))
 refine ix rfl (B1k (n':=(p.drop 1).length) A4k rfl rfl 1 _ _ (A0w rfl rfl) A1u A1u opx opx opx ofx rfl) ?_
 have:=@List.length_drop _ 1 p
 refine cG 2 25 26 rfl (ie (A9 (A3q (un fun low=>un fun high a=>(a≤(p.drop 1).length∧A0b p ((p.drop 1).drop a) low high a=R,[(0,_),(3,_),(4,.int _ low.toNat),(5,.int _ high.toNat),(24,_),(25,iv _),(26,iv a)],_,_,(p.drop 1).length - a)) (_,_,0) ⟨opx,hR⟩ bU A7.refl ?_)))
 rintro ⟨low,high,a⟩ ⟨q,hR⟩
 refine bS rfl (bP 1 27 rfl ?_)
 refine ie (A3 (G4 rfl (fun h=>?_) (fun h=>?_)))
 ·have f:=bV h
  rw [A1b 0 (show a<(p.drop 1).length by omega)] at hR;replace hR:=(A0b.eq_2 ..).symm.trans hR
  refine A4 (nx (A3 (A9 (bS rfl (K8 0 rfl opx fun w d=>(ix rfl (F8 A4k rfl rfl d rfl a rfl opx) (ix rfl (C9 ty5 rfl rfl (H2 (sz:=1) d (fun _=>rfl) 0 rfl (gd 0 opx)) rfl) (bP 1 7 rfl (ie (A3 (bS rfl (bP 4 33 rfl ?_))))))))))))
  refine zir 4 0 33 37 (decide (high.toNat<(((p.drop 1).getD a 0).toNat:Int))) (fun o r=>?_) ?_
  ·refine bP 4 37 rfl ?_
   exact zai 2 33 _ o
  refine ie ?_
  refine zjo rfl hR ?_ ?_<;>clear hR<;>intro hR x s
  ·refine bS rfl (bP 1 2 rfl ?_)
   subst hR
   refine ie (A8 ?_)
   exact F7 hr hD
  refine A4 (nx (A1 2 rfl (cG 2 4 5 rfl (A2 (nx (A1 2 rfl (ix rfl (B3 rfl rfl rfl rfl opx) (bP 1 26 rfl (A2 ?_)))))))))
  exact A2g (_,_,_) ⟨opx,hR⟩ olr bU A7.refl
 have f:=bV h
 rw [A1d f] at hR;replace hR:=(A0b.eq_1 ..).symm.trans hR
 refine F4 (nx (A3 (bS rfl (bP 4 42 rfl ?_))))
 refine ie ?_
 refine zjd rfl hR ?_ ?_<;>clear hR<;>intro hR m j
 ·refine bS rfl (bP 1 2 rfl ?_)
  subst hR
  refine ie (A8 ?_)
  exact F7 hr hD
 refine A4 (nx (bS rfl (bP 1 2 rfl ?_)))
 subst hR
 refine ie (A8 ?_)
 exact F7 hr hD
def A3e (pending:List UInt8):Bool :=
 ((decide ((pending.length:Int)=0))||(decide ((Q3 pending)=1)))
theorem C6w {pending:List UInt8} {pendingq:Option Addr} {pendingk:Nat} {R:Bool} (hR:A3e pending=R) (b:pending.length≤9223372036854775807:=by exact bW) (a:pending.length≤pendingk:=by exact bW):J5 Tryz.prog 267 [.slice pendingq pending.length pendingk] [sl cI pendingq pending] (bv R):=by
 refine cC Tryz.func267 fun X hX hr hD=>?_
 replace hR:=(A3e.eq_1 ..).symm.trans hR
 refine bS rfl (pp0 1 rfl (ie (bS rfl (bP 4 6 rfl ?_))))
 refine zir 4 1 6 10 (decide ((Q3 pending)=1)) (fun d c=>?_) ?_
 ·refine bP 1 7 rfl (zv rfl (C2l rfl) (bP 2 10 rfl ?_))
  exact zai 4 6 _ d
 refine bP 1 2 rfl ?_
 subst hR
 refine ie (A8 ?_)
 exact F7 hr hD
def A4t:List UInt8→Int→Nat→Int
 | [],cp1,t22=>cp1
 | hd_l0::tl_l0,cp1,t22=>A4t tl_l0 (bOp .or .i64 (IntKind.i64.wrap (cp1 * 64)) ((by8 (bOp .and .u8 (hd_l0.toNat:Int) 63)).toNat:Int)) (t22+1)
def A6k (p:List UInt8) (cp:Int):Int :=
 A4t (p.drop 1) cp 0
def A0k (p:List UInt8):Int :=
 (bif (decide ((1:Int)<(p.length:Int))) then A6k p (bOp .and .i64 ((p.getD 0 0).toNat:Int) (Int.fdiv (255:Int) (2 ^ (min (((p.length:Int)+1)).toNat 64)))) else A6k p ((p.getD 0 0).toNat:Int))
theorem C9d {p:List UInt8} {f:Option Addr} {pk:Nat} {R:Int} (hR:A0k p=R) (k:p.length≤9223372036854775807:=by exact bW) (i:p.length≤pk:=by exact bW) (n:1≤p.length:=by exact bW) (m:p.length≤1000000:=by exact bW):J5 Tryz.prog 269 [.slice f p.length pk] [sl cI f p] (iv R):=by
 refine cC Tryz.func269 fun X hX hr hD=>?_
 replace hR:=(A0k.eq_1 ..).symm.trans hR
 refine bS rfl (pp0 1 rfl (ie (bS rfl (bP 1 6 rfl (K8 0 rfl opx fun r d=>(ix rfl (F8 A4k rfl rfl d rfl 0 rfl opx) (ix rfl (C9 ty5 rfl rfl (H2 (sz:=1) d (fun _=>rfl) 0 rfl (gd 0 opx)) rfl) (ix rfl (B1f Tryz.underlying3 oki rfl rfl (A6g _)) (bP 1 3 rfl ?_)))))))))
 refine ie (A7y (fun cp=>(A6k p cp=R,[(0,.slice f p.length pk),(3,iv cp)],[],[sl cI f p])) ?_ ?_)
 ·refine bS rfl (bP 3 12 rfl (ie ?_))
  refine zjd rfl hR ?_ ?_<;>clear hR<;>intro hR o j
  ·refine A1 7 rfl (cG 3 13 15 rfl (ix rfl (B3 rfl rfl rfl rfl opx) (ix rfl (A1s rfl rfl rfl opx rfl) (bP 2 3 rfl (A2 ?_)))))
   exact W8 _ hR bU A7.refl
  refine A4 ?_
  exact W8 _ hR bU A7.refl
 intro cp
 rintro hR
 replace hR:=(A6k.eq_1 ..).symm.trans hR
 refine A3 (bS rfl (bP 1 19 rfl ?_))
 refine D7 (C8m (sz:=1) (A5 0 rfl) 1 pk (fun _=>rfl) opx opx) ?_
 refine ix rfl (B1k (n':=(p.drop 1).length) A4k rfl rfl 1 _ _ (A0w rfl rfl) A1u A1u opx opx opx ofx rfl) ?_
 have:=@List.length_drop _ 1 p
 refine cG 2 21 22 rfl (ie (A9 (A3q (un fun b a=>(a≤(p.drop 1).length∧A4t ((p.drop 1).drop a) b a=R,[(3,iv b),(20,_),(21,iv _),(22,iv a)],_,[_,_],(p.drop 1).length - a)) (_,0) ⟨opx,hR⟩ bU A7.refl ?_)))
 rintro ⟨b,a⟩ ⟨l,hR⟩
 refine bS rfl (bP 1 23 rfl ?_)
 refine ie (A3 (G4 rfl (fun h=>?_) (fun h=>?_)))
 ·have g:=bV h
  rw [A1b 0 (show a<(p.drop 1).length by omega)] at hR;replace hR:=(A4t.eq_2 ..).symm.trans hR
  refine A4 (nx (A3 (A9 (bS rfl (K8 0 rfl opx fun q e=>(ix rfl (F8 A4k rfl rfl e rfl a rfl opx) (ix rfl (C9 ty5 rfl rfl (H2 (sz:=1) e (fun _=>rfl) 0 rfl (gd 0 opx)) rfl) (bP 1 5 rfl (ie (A1 7 rfl (bP 1 26 rfl ?_)))))))))))
  refine ix rfl (D5c (c:=(IntKind.i64.wrap (b * 64))) rfl rfl rfl ozw (by simp [IntKind.bits])) (bP 1 28 rfl (ix rfl (H8 (J9.pure rfl) (C5e)) (ix rfl (B1f Tryz.underlying3 oki rfl rfl (A6g _)) (bP 2 3 rfl (A2 (nx (A1 2 rfl (ix rfl (B3 rfl rfl rfl rfl opx) (bP 1 22 rfl ?_)))))))))
  refine A2 ?_
  exact A2g (_,_) ⟨opx,hR⟩ olr bU A7.refl
 have g:=bV h
 rw [A1d g] at hR;replace hR:=(A4t.eq_1 ..).symm.trans hR
 refine F4 (nx (bS rfl (bP 2 2 rfl ?_)))
 subst hR
 refine ie (A8 ?_)
 exact F7 hr hD
def B7u:Bool :=
 true
theorem D6q {R:Bool} (hR:B7u=R):J5 Tryz.prog 267 [.slice none 0 0] [] (bv R):=by
 refine cC Tryz.func267 fun X hX hr hD=>?_
 replace hR:=(B7u.eq_1 ..).symm.trans hR
 refine bS rfl (pp0 1 rfl (ie (bS rfl (bP 9 2 rfl ?_))))
 subst hR
 refine ie (A8 ?_)
 exact F7 hr hD
def A1x (b:UInt8):List UInt8×List Int :=
 (bif (decide ((Q3 (([]:List UInt8)++([b]:List UInt8)))=2)) then (([]:List UInt8),([(A0k (([]:List UInt8)++([b]:List UInt8)))]:List Int)) else (bif (decide ((Q3 (([]:List UInt8)++([b]:List UInt8)))=1)) then ((([]:List UInt8)++([b]:List UInt8)),([]:List Int)) else (([]:List UInt8),([65533]:List Int))))
def A5y (b:UInt8):List UInt8×List Int :=
 (bif (!B7u) then A1x b else A1x b)
theorem C1d (b:UInt8):(A5y b).1.length≤4∧(A5y b).2.length≤1:=by
 have a:(A1x b).1.length≤4∧(A1x b).2.length≤1:=by
  unfold A1x;simp only [Bool.cond_eq_ite];repeat' split
  all_goals simp
 unfold A5y;cases (!B7u)<;>exact a
theorem D8n {b:UInt8} {R:List UInt8×List Int} (hR:A5y b=R) (j:([]:List Unit).length≤1000:=by exact bW):Con Tryz.prog 256 [.slice none 0 0,.int .u8 (b.toNat:Int)] [] [] ({t:Option Addr×Nat // R.1.length≤t.2∧R.1.length≤9223372036854775807}×{t:Option Addr×Nat // R.2.length≤t.2∧R.2.length≤9223372036854775807}) (fun x=>.tuple #[.slice x.1.1.1 R.1.length x.1.1.2,.slice x.2.1.1 R.2.length x.2.1.2]) (fun x=>[]) (fun x=>[sl cI x.1.1.1 R.1,sl H5 x.2.1.1 R.2]):=by
 refine cC Tryz.func256 fun X hX hr hD=>?_
 replace hR:=(A5y.eq_1 ..).symm.trans hR
 refine bS rfl (pp0 2 rfl ?_)
 refine ie (A7y (fun (_:Unit)=>(A1x b=R,[(0,.slice none 0 0),(1,.int .u8 b.toNat)],[],[])) ?_ ?_)
 ·refine bS rfl (bP 1 7 rfl (zv rfl (D6q rfl) (bP 1 9 rfl (ie ?_))))
  refine zjb rfl hR ?_ ?_<;>clear hR<;>intro hR m
  ·refine A1 1 rfl (bP 1 0 rfl (A2 ?_))
   exact W8 () hR bU bX
  refine A4 ?_
  exact W8 () hR bU bX
 intro _
 rintro hR
 replace hR:=(A1x.eq_1 ..).symm.trans hR
 refine bS rfl (pp3 5 10 12 14 rfl (ix rfl (B1k A4k rfl rfl 0 0 0 A1u (A0w rfl rfl) (A0w rfl rfl) ozw ozw ozw (n':=0) rfl rfl) (bP 1 16 rfl (it rfl (B1 (c:=cI) (xs:=[b]) A4k rfl rfl rfl oki) fun l=>?_))))
 have:([b]:List UInt8).length=1:=rfl
 refine it rfl (S7 (f:=cI) (r:=VR.nil) (xs:=([]:List UInt8)) (ys:=([b]:List UInt8)) (pre:=[]) (post:=[]) B8x (fun _=>rfl) (fun _=>rfl) rfl rfl rfl rfl rfl rfl rfl rfl rfl (A5 0 rfl) bT.nil ofv ofv) fun ⟨d,a⟩=>?_
 have:=bT.le a
 have:=bT.cap a
 refine R5 _ _ a opv ?_
 refine bP 1 6 rfl (ie (A3 (bS rfl (bP 1 19 rfl (zv rfl (C2l rfl) (ie (A9 (bS rfl (bP 2 21 rfl (ie ?_))))))))))
 refine zjd rfl hR ?_ ?_<;>clear hR<;>intro hR o h
 ·refine bS rfl (bP 1 23 rfl (zv rfl (C9d rfl) (it rfl (B1 (c:=H5) (xs:=([(A0k (([]:List UInt8)++([b]:List UInt8)))])) K2 rfl rfl rfl oki) fun e=>?_)))
  refine cG 2 4 5 rfl ?_
  subst hR
  refine ie (A8 ?_)
  exact cD hr hD (U0 rfl (A6 rfl) (A6 rfl)) ((zq _ 0),(zq _ 1)) bU cB
 refine bS rfl (bP 2 26 rfl (ie ?_))
 refine zjd rfl hR ?_ ?_<;>clear hR<;>intro hR n g
 ·refine bS rfl (cG 3 4 5 rfl ?_)
  subst hR
  refine ie (A8 ?_)
  exact cD hr hD (U0 rfl (A6 rfl) (A6 rfl)) ((zq _ _),(zq _ 0)) bU cB
 refine A4 (nx (A3 (bS rfl (bP 3 31 rfl (ie (J4 rfl (bS rfl (it rfl (B1 (c:=H5) (xs:=[65533]) K2 rfl rfl rfl oki) fun i=>?_))))))))
 refine cG 2 4 5 rfl ?_
 subst hR
 refine ie (A8 ?_)
 exact cD hr hD (U0 rfl (A6 rfl) (A6 rfl)) ((zq _ 0),(zq _ 1)) bU cB
def A3f (b:UInt8) (a:List UInt8):List UInt8×List Int :=
 (bif (decide ((Q3 (a++([b]:List UInt8)))=2)) then (([]:List UInt8),([(A0k (a++([b]:List UInt8)))]:List Int)) else (bif (decide ((Q3 (a++([b]:List UInt8)))=1)) then ((a++([b]:List UInt8)),([]:List Int)) else (bif (decide ((a.length:Int)=0)) then (([]:List UInt8),([65533]:List Int)) else ((A5y b).1,(([65533]:List Int)++(A5y b).2)))))
def L8 (pending:List UInt8) (b:UInt8):List UInt8×List Int :=
 (bif (!(A3e pending)) then A3f b ([]:List UInt8) else A3f b pending)
theorem C3w (p:List UInt8) (b:UInt8):(L8 p b).1.length≤4∧(L8 p b).2.length≤2:=by
 have a:∀ q,(A3f b q).1.length≤4∧(A3f b q).2.length≤2:=by
  intro q;unfold A3f;simp only [Bool.cond_eq_ite];have:=C1d b;repeat' split
  all_goals simp
  ·rename_i h;have:=C9b (by simpa using h);simpa using this
  ·omega
 unfold L8;cases (!(A3e p))<;>exact a _
theorem okl {p:Prop} (h:p:=by first|omega|(simp only [List.length_take,List.length_drop,List.length_append,List.length_cons,List.length_nil,List.length_set,List.length_map];omega)|decide):p:=h
theorem osj {p:Prop} (h:p:=by first|omega|(simp only [List.length_nil];omega)):p:=h
theorem E1m {pending:List UInt8} {b:UInt8} {pendingq:Option Addr} {pendingk:Nat} {R:List UInt8×List Int} (hR:L8 pending b=R) (j:pending.length≤9223372036854775807:=by exact bW) (i:pending.length≤pendingk:=by exact bW) (hp:pending.length≤1000:=by exact bW):Con Tryz.prog 256 [.slice pendingq pending.length pendingk,.int .u8 (b.toNat:Int)] [] [sl cI pendingq pending] ({t:Option Addr×Nat // R.1.length≤t.2∧R.1.length≤9223372036854775807}×{t:Option Addr×Nat // R.2.length≤t.2∧R.2.length≤9223372036854775807}) (fun x=>.tuple #[.slice x.1.1.1 R.1.length x.1.1.2,.slice x.2.1.1 R.2.length x.2.1.2]) (fun x=>[]) (fun x=>[sl cI x.1.1.1 R.1,sl H5 x.2.1.1 R.2]):=by
 refine cC Tryz.func256 fun X hX hr hD=>?_
 replace hR:=(L8.eq_1 ..).symm.trans hR
 refine bS rfl (pp0 2 rfl ?_)
 refine ie (A7y (un fun a=>un fun e d=>(A3f b a=R∧a.length≤d∧a.length≤9223372036854775807∧a.length≤1000,[(0,.slice e a.length d),(1,.int .u8 b.toNat)],[],[sl cI pendingq pending,sl cI e a])) ?_ ?_)
 ·refine bS rfl (bP 1 7 rfl (zv rfl (C6w rfl) (bP 1 9 rfl (ie ?_))))
  refine zjb rfl hR ?_ ?_<;>clear hR<;>intro hR h1
  ·refine A1 1 rfl (bP 1 0 rfl (A2 ?_))
   exact W8 (_,_,0) ⟨hR,okl,okl,osj⟩ bU cB
  refine A4 ?_
  exact W8 (pending,pendingq,pendingk) ⟨hR,okl,okl,osj⟩ bU cB
 rintro ⟨a,e,d⟩
 rintro ⟨hR,g,h,hj⟩
 replace hR:=(A3f.eq_1 ..).symm.trans hR
 refine bS rfl (pp3 5 10 12 14 rfl (ix rfl (B7b A4k rfl rfl _ _ (A0w rfl rfl) (A0w rfl rfl) opx opx (by first|rfl|omega) rfl) (bP 1 16 rfl (it rfl (B1 (c:=cI) (xs:=[b]) A4k rfl rfl rfl oki) fun b2=>?_))))
 have:([b]:List UInt8).length=1:=rfl
 refine it rfl (C3c (f:=cI) (xs:=a) (ys:=([b]:List UInt8)) B8x (fun _=>rfl) (fun _=>rfl) rfl rfl rfl rfl rfl rfl opx opx (by rfl) (A5 2 rfl) (A5 0 rfl) ofv ofv) fun ⟨⟨q3,k4⟩,w⟩=>?_
 refine bP 1 6 rfl (ie (A3 (bS rfl (bP 1 19 rfl (zv rfl (C2l rfl) (ie (A9 (bS rfl (bP 2 21 rfl (ie ?_))))))))))
 refine zjd rfl hR ?_ ?_<;>clear hR<;>intro hR h6 z
 ·refine bS rfl (bP 1 23 rfl (zv rfl (C9d rfl) (it rfl (B1 (c:=H5) (xs:=([(A0k (a++([b]:List UInt8)))])) K2 rfl rfl rfl oki) fun b7=>?_)))
  have:([(A0k (a++([b]:List UInt8)))]:List Int).length=1:=rfl
  refine cG 2 4 5 rfl ?_
  subst hR
  refine ie (A8 ?_)
  exact cD hr hD (U0 rfl (A6 rfl) (A6 rfl)) ((zq _ 0),(zq _ 1)) bU cB
 refine bS rfl (bP 2 26 rfl (ie ?_))
 refine zjd rfl hR ?_ ?_<;>clear hR<;>intro hR h8 a1
 ·refine bS rfl (cG 3 4 5 rfl ?_)
  subst hR
  refine ie (A8 ?_)
  exact cD hr hD (U0 rfl (A6 rfl) (A6 rfl)) ((zq _ _),(zq _ 0)) bU cB
 refine A4 (nx (A3 (bS rfl (bP 3 31 rfl (ie ?_)))))
 refine zjd rfl hR ?_ ?_<;>clear hR<;>intro hR h9 a5
 ·refine bS rfl (it rfl (B1 (c:=H5) (xs:=[65533]) K2 rfl rfl rfl oki) fun m=>?_)
  have:([65533]:List Int).length=1:=rfl
  refine cG 2 4 5 rfl ?_
  subst hR
  refine ie (A8 ?_)
  exact cD hr hD (U0 rfl (A6 rfl) (A6 rfl)) ((zq _ 0),(zq _ 1)) bU cB
 refine A4 (nx (bS rfl (bP 1 34 rfl ?_)))
 refine zc rfl (D8n rfl) fun ⟨⟨⟨o,p⟩,k⟩,⟨⟨a6,a4⟩,l⟩⟩=>?_
 obtain ⟨u,y⟩:=k
 obtain ⟨s,v⟩:=l
 have:=C1d b
 refine cG 5 4 5 rfl (ie (bS rfl (bP 1 38 rfl (it rfl (B1 (c:=H5) (xs:=[65533]) K2 rfl rfl rfl oki) fun a0=>?_))))
 have:([65533]:List Int).length=1:=rfl
 refine bP 1 40 rfl (it rfl (C3c (f:=H5) (xs:=([65533]:List Int)) (ys:=(A5y b).2) D1t (fun _=>rfl) (fun _=>rfl) rfl rfl rfl rfl rfl rfl opx opx (by rfl) (A5 0 rfl) (A5 2 rfl) ofv ofv) fun ⟨⟨n,q⟩,r⟩=>?_)
 refine cG 2 4 5 rfl ?_
 subst hR
 refine ie (A8 ?_)
 exact cD hr hD (U0 rfl (A6 rfl) (A6 rfl)) (_,(zq n q)) bU cB
def C5l (pending:List UInt8):List Int :=
 (bif ((decide ((0:Int)<(pending.length:Int)))&&(A3e pending)) then ([65533]:List Int) else ([]:List Int))
theorem C7u (p:List UInt8):C5l p=(bif (decide (0<(p.length:Int))&&A3e p) then [65533] else []):=rfl
theorem C6l {pending:List UInt8} {pendingq:Option Addr} {pendingk:Nat} {R:List Int} (hR:C5l pending=R) (b:pending.length≤9223372036854775807:=by exact bW) (a:pending.length≤pendingk:=by exact bW) (i:pending.length≤1000:=by exact bW):Con Tryz.prog 257 [.slice pendingq pending.length pendingk] [] [sl cI pendingq pending] ({t:Option Addr×Nat // R.length≤t.2∧R.length≤9223372036854775807}) (fun x=>.slice x.1.1 R.length x.1.2) (fun x=>[]) (fun x=>[sl H5 x.1.1 R]):=by
 refine cC Tryz.func257 fun X hX hr hD=>?_
 replace hR:=(C5l.eq_1 ..).symm.trans hR
 refine bS rfl (pp0 1 rfl (ie (A3 (bS rfl (bP 4 6 rfl ?_)))))
 refine zid 3 0 6 9 (A3e pending) (fun g f=>?_) ?_
 ·refine bP 1 7 rfl (zv rfl (C6w rfl) (bP 1 9 rfl ?_))
  exact zai 4 6 9 g
 refine ie ?_
 refine zjb rfl hR ?_ ?_<;>clear hR<;>intro hR e
 ·have d:=bV e
  refine bS rfl (it rfl (B1 (c:=H5) (xs:=[65533]) K2 rfl rfl rfl oki) fun h=>?_)
  have:([65533]:List Int).length=1:=rfl
  refine bP 1 2 rfl ?_
  subst hR
  refine ie (A8 ?_)
  exact cD hr hD (K7 rfl (A6 rfl)) (zq _ 1) bU cB
 refine A4 (nx (bS rfl (bP 1 2 rfl ?_)))
 subst hR
 refine ie (A8 ?_)
 exact cD hr hD (K7 rfl (A6 rfl)) (zq _ 0) bU cB
def A2m (s:List UInt8):List UInt8 :=
 s
theorem E2b {s R:List UInt8} (hR:A2m s=R):Con Tryz.prog 244 [sv s] [] [] (Addr) (fun x=>.func (.func 255) #[] #[pa x]) (fun x=>[]) (fun x=>[at_ x [sv R]]):=by
 refine cC Tryz.func244 fun X hX hr hD=>?_
 replace hR:=(A2m.eq_1 ..).symm.trans hR
 refine bS rfl (it rfl (A0h rfl rfl rfl) fun a=>?_)
 refine A3w 0 rfl ?_
 refine pp0 1 rfl (ie (bS rfl (ip' 2 0 [(2,.func (.func 255) #[] #[pa ⟨a,0,none⟩])] ?_)))
 subst hR
 refine ie (A8 ?_)
 exact cD hr hD (K7 rfl (A6 rfl)) _ bU cB
def W9 (c0:List UInt8) (pending:List UInt8) (b:Nat) (a:List UInt8→Nat→List Int):List Int→Nat→List Int
 | [],t27=>a ((L8 pending (c0.getD b 0)).1) (b+1)
 | c::tl_l4,t27=>(c::W9 c0 pending b a tl_l4 (t27+1))
def V1 (c0:List UInt8):List UInt8→List UInt8→Nat→List Int
 | [],pending,t13=>(bif (decide (0<(pending.length:Int))&&A3e pending) then ((([65533]:List Int).getD 0 0)::[]) else [])
 | hd_l3::tl_l3,pending,t13=>W9 c0 pending t13 (V1 c0 tl_l3) ((L8 pending hd_l3).2) 0
def B3p (c0:List UInt8):List Int :=
 V1 c0 c0 ([]:List UInt8) 0
theorem B5l (c0 pending:List UInt8) (a:Nat) (ag:List UInt8→Nat→List Int):∀ (l:List Int) (t:Nat),(W9 c0 pending a ag l t).length=l.length+(ag ((L8 pending (c0.getD a 0)).1) (a+1)).length
 | [],t=>by simp [W9]
 | x::l,t=>by simp only [W9,List.length_cons,B5l c0 pending a ag l];omega
theorem B5q (c0:List UInt8):∀ (s p:List UInt8) (t:Nat),(V1 c0 s p t).length≤2 * s.length+1
 | [],p,t=>by
  simp only [V1]
  generalize (decide (0<(p.length:Int))&&A3e p)=b
  cases b<;>simp
 | x::s,p,t=>by
  simp only [V1,B5l,List.length_cons]
  have:=(C3w p x).2;have:=B5q c0 s (L8 p (c0.getD t 0)).1 (t+1);omega
theorem B8w (s:List UInt8):(B3p s).length≤2 * s.length+1:=B5q s s [] 0
theorem oxy {p:Prop} (h:p:=by first|omega|(simp only [List.length_take,List.length_drop,List.length_append,List.length_cons,List.length_nil,List.length_set,List.length_map,A2m];omega)|decide):p:=h
theorem oxs {p:Prop} (h:p:=by first|rfl|(simp only [List.length_set]<;>rfl)):p:=h
theorem ooa {p:Prop} (h:p:=by simp only [List.flatten_cons,List.flatten_nil,List.append_nil,List.cons_append,List.nil_append,List.append_assoc]):p:=h
theorem D5b (c0:List UInt8) (f:Addr) (hs:c0.length≤1000000000) (R:List Int) (hR:B3p c0=R):C4v Tryz.prog 255 [pa f] [at_ f [sv c0]] (fun x=>iv x) R:=by
 refine D4g (n:=48) Tryz.func255 rfl oki rfl rfl (fun l=>[(0,_),(1,_)]) (fun l=>⟨rfl,rfl,trivial⟩) fun X l I Ix L Φ hX hr hD hI0 hY=>?_
 replace hR:=(B3p.eq_1 ..).symm.trans hR
 refine sr 1 rfl (ip' 1 0 [(3,.slice none 0 0)] (ie (A3 (sr 3 rfl (ix rfl (C9 ty9 rfl rfl (A5 0 rfl) rfl) (ip' 2 0 [(12,iv c0.length),(13,iv 0)] (ie (A9 ?_))))))))
 refine F6r (fun pending pendingq pendingk a R_ Lt Ft=>(a≤c0.length∧V1 _ (c0.drop a) pending a=R_∧pending.length≤pendingk∧pending.length≤9223372036854775807∧I R_ Lt Ft∧pending.length≤1000,[(0,_),(1,_),(3,.slice pendingq pending.length pendingk),(12,_),(13,iv a)],(Lt++([])),(at_ f _::sl cI pendingq pending::Ft),c0.length - a)) _ _ 0 0 R L _ ⟨opx,hR,oxy,oxy,hI0,oom⟩ (mc [L] [true] rfl oxs) (A7.con1 (A5 0 rfl) (A7.con1 B0i (A7.dropT 1 rfl))) ?_
 rintro pending pendingq pendingk a R_ Lt Ft ⟨ae,hR,t,u,j,hp⟩
 refine sr 1 rfl (ip' 1 0 [(14,bv (decide (a<(c0.length:Int))))] ?_)
 refine ie (A3 (G4 rfl (fun h2=>?_) (fun h2=>?_)))
 ·have z:(a:Int)<(c0.length:Int):=by simpa using h2
  rw [A1b 0 (show a<c0.length by omega)] at hR;replace hR:=(V1.eq_2 ..).symm.trans hR
  refine A4 (nx (A3 (A9 (sr 2 rfl (ip' 2 0 [(4,iv a)] (ie (sr _ rfl (ip' 1 9 [(17,.slice pendingq pending.length pendingk)] (ix rfl (C9 ty9 rfl rfl (A5 0 rfl) rfl) (ip' 1 7 [(19,iv _)] (ix rfl (E0f Tryz.underlying9 rfl rfl rfl a rfl opx) ?_)))))))))))
  refine zcm (E1m (pending:=pending) (b:=(c0.getD a 0)) (pendingq:=pendingq) (pendingk:=pendingk) rfl) (A7.cons (A5 1 rfl) bX) fun ⟨⟨⟨y,k4⟩,a7⟩,⟨⟨q8,k9⟩,a1⟩⟩=>?_
  obtain ⟨ai,ah⟩:=a7
  obtain ⟨ab,aa⟩:=a1
  have:=C3w pending (c0.getD a 0)
  refine ip' 5 0 [(5,.slice y (((L8 pending (c0.getD a 0)).1).length) k4),(6,.slice q8 (((L8 pending (c0.getD a 0)).2).length) k9)] (ie (sr 2 rfl (ip' 2 0 [(3,.slice y (((L8 pending (c0.getD a 0)).1).length) k4)] (ie (sr 3 rfl (ip' 3 0 [(25,.slice q8 (((L8 pending (c0.getD a 0)).2).length) k9),(26,iv (((L8 pending (c0.getD a 0)).2).length)),(27,iv 0)] (ie (A9 ?_))))))))
  refine E8k (fun d R_1 Lt1 Ft1=>(d≤((L8 pending (c0.getD a 0)).2).length∧W9 _ _ a _ (((L8 _ _).2).drop d) d=R_1∧I R_1 Lt1 Ft1,[(0,_),(1,_),(3,_),(12,_),(13,_),(25,_),(26,_),(27,iv d)],(Lt1++([])),(sl _ y _::sl _ q8 _::at_ f _::sl _ _ _::Ft1),((L8 pending (c0.getD a 0)).2).length - d)) 0 _ _ _ ⟨opx,hR,j⟩ (mc [_] [true] rfl oxs) (A7.con1 (A5 0 rfl) (A7.con1 (A5 1 rfl) (A7.con1 (A5 2 rfl) (A7.con1 (A5 3 rfl) (A7.dropT 4 rfl))))) ?_
  rintro d R_1 Lt1 Ft1 ⟨ac,hR,i⟩
  refine sr 1 rfl (ip' 1 0 [(28,bv (decide (d<(((L8 pending (c0.getD a 0)).2).length:Int))))] ?_)
  refine ie (A3 (G4 rfl (fun r=>?_) (fun r=>?_)))
  ·have p:(d:Int)<(((L8 pending (c0.getD a 0)).2).length:Int):=by simpa using r
   rw [A1b 0 (show d<((L8 pending (c0.getD a 0)).2).length by omega)] at hR;replace hR:=(W9.eq_2 ..).symm.trans hR
   refine A4 (nx (A3 (A9 (sr 3 rfl (K8 1 rfl opx fun af o=>(ix rfl (F8 K2 rfl rfl o rfl d rfl opx) (ix rfl (C9 (us:=[iv _]) cH rfl rfl (H2 (c:=H5) o (fun _=>rfl) 1 rfl (gd 0 opx)) rfl) (ip' 1 0 [(8,iv (((L8 pending (c0.getD a 0)).2).getD d 0))] (ie (sr 4 rfl (ip' 2 2 [(31,.func (.yield l) #[] #[]),(32,iv (((L8 pending (c0.getD a 0)).2).getD d 0))] ?_)))))))))))
   have h:=B8p hR;clear hR;obtain ⟨R17,hR,h⟩:=h;rw [h] at i
   refine it rfl (A4d (L2:=[]) (hY _ R17 _ _ i) rfl rfl rfl rfl (A7.dropT 4 rfl) (I1 [Lt1] [0] 1 rfl ozw rfl [Lt1] rfl ooa)) fun ⟨⟨s,L19,Φ20⟩,e⟩=>?_
   refine A8l (A7.yield [_,_,_,_]) ?_
   refine ip' 1 0 [(34,bv (!s))] ?_
   refine ie (G4 rfl (fun w=>?_) (fun w=>?_))
   ·have k:s=false:=by simpa using w
    rw [k] at e;try simp only [if_true,if_false,Bool.false_eq_true] at e
    refine A8 ?_
    exact B3k rfl ⟨hr,hD⟩ (by simp [hD]) (B0u rfl) (by exact .inr e) (mcT [_] 0 rfl rfl) (A7.dropT 4 rfl)
   ·have k:s=true:=by simpa using w
    rw [k] at e;try simp only [if_true,if_false,Bool.false_eq_true] at e
    refine A4 (nx (A1 2 rfl (ix rfl (B3 rfl rfl rfl rfl opx) (ip' 1 0 [(27,iv (d+1))] (A2 ?_)))))
    exact E4y _ _ _ _ ⟨opx,hR,e⟩ olr (mc [_] [true] rfl oxs) (A7.con1 (A5 0 rfl) (A7.con1 (A5 1 rfl) (A7.con1 (A5 2 rfl) (A7.con1 (A5 3 rfl) (A7.dropT 4 rfl)))))
  have p:¬ ((d:Int)<(((L8 pending (c0.getD a 0)).2).length:Int)):=by simpa using r
  rw [A1d p] at hR;replace hR:=(W9.eq_1 ..).symm.trans hR
  refine F4 (nx (A1 2 rfl (ix rfl (B3 rfl rfl rfl rfl opx) ?_)))
  refine ip' 1 0 [(13,iv (a+1))] (A2 ?_)
  exact F6n (z1:=pending) (z2:=pendingq) (z3:=pendingk) (z4:=a) (z5:=R_) (z6:=Lt) (z7:=Ft) ((L8 pending (c0.getD a 0)).1) y k4 (a+1) R_1 Lt1 Ft1 ⟨opx,hR,oxy,oxy,i,osj⟩ olr (mc [Lt1] [true] rfl oxs) (A7.con1 (A5 2 rfl) (A7.con1 (A5 0 rfl) (A7.dropT 4 rfl)))
 have z:¬ ((a:Int)<(c0.length:Int)):=by simpa using h2
 rw [A1d z] at hR;replace hR:=(V1.eq_1 ..).symm.trans hR
 refine F4 (nx (sr 4 rfl (ip' 1 3 [(37,.slice pendingq pending.length pendingk)] ?_)))
 have hs30:=C7u pending
 cases hc29:(decide (0<(pending.length:Int))&&A3e pending)
 ·replace hR:=bf hR hc29
  replace hs30:=hs30.trans (by rw [hc29];rfl:_=([]:List Int))
  refine zcm (C6l (pending:=pending) (pendingq:=pendingq) (pendingk:=pendingk) hs30) (A7.cons (A5 1 rfl) bX) fun ⟨⟨a0,a5⟩,a2⟩=>?_
  have:([]:List Int).length=0:=rfl
  refine ip' 2 0 [(39,iv 0),(40,iv 0)] (ie (A9 (Y9 2 ?_)))
  refine E7 (sr 1 rfl (ip' 1 0 [(41,bv false)] ?_))
  subst hR
  refine ie (A3 (A4r rfl (F4 ?_)))
  exact X9 rfl ⟨hr,hD⟩ (by simp [hD]) (B0u rfl) (by exact .inl j) (mcT [_] 0 rfl rfl) (A7.dropT 3 rfl)
 ·replace hR:=bt hR hc29
  replace hs30:=hs30.trans (by rw [hc29];rfl:_=([65533]:List Int))
  refine zcm (C6l (pending:=pending) (pendingq:=pendingq) (pendingk:=pendingk) hs30) (A7.cons (A5 1 rfl) bX) fun ⟨⟨a0,a5⟩,a2⟩=>?_
  have:([65533]:List Int).length=1:=rfl
  refine ip' 2 0 [(39,iv 1),(40,iv 0)] (ie (A9 (Y9 3 ?_)))
  refine E7 (sr 1 rfl (ip' 1 0 [(41,bv true)] ?_))
  refine ie (A3 (J4 rfl (A4 (nx (A3 (A9 (sr 3 rfl (K8 0 rfl opx fun ad m=>(ix rfl (F8 K2 rfl rfl m rfl 0 rfl opx) (ix rfl (C9 (us:=[iv _]) cH rfl rfl (H2 (c:=H5) m (fun _=>rfl) 0 rfl (gd 0 opx)) rfl) (ip' 1 0 [(10,iv ([65533].getD 0 0))] (ie (A1 3 rfl (ip' 2 1 [(44,.func (.yield l) #[] #[]),(45,iv ([65533].getD 0 0))] ?_))))))))))))))
  have g:=B8p hR;clear hR;obtain ⟨R33,hR,g⟩:=g;rw [g] at j
  refine it rfl (A4d (L2:=[]) (hY _ R33 _ _ j) rfl rfl rfl rfl (A7.dropT 3 rfl) (I1 [Lt] [0] 1 rfl ozw rfl [Lt] rfl ooa)) fun ⟨⟨a9,L35,Φ36⟩,q⟩=>?_
  refine A8l (A7.yield [sl _ a0 _,_,_]) ?_
  refine A2 (nx (A1 2 rfl (ix rfl (B3 (c:=1) rfl rfl rfl rfl ozw) (ip' 1 0 [(40,iv 1)] (A2 (E7 (sr 1 rfl (ip' 1 0 [(41,bv false)] ?_))))))))
  subst hR
  refine ie (A3 (A4r rfl (F4 ?_)))
  exact X9 rfl ⟨hr,hD⟩ (by simp [hD]) (B0u rfl) (by cases a9<;>first|exact .inr (by simpa using q)|exact .inl (by simpa using q)) (mcT [_] 0 rfl rfl) (A7.dropT 3 rfl)
def A1y:List Int→List Int→List Int
 | [],l=>l
 | el::rest,l=>A1y rest (l++([el]:List Int))
def B0v (s:List UInt8):List Int :=
 A1y (B3p (A2m s)) ([]:List Int)
theorem B2o:∀ (a l:List Int),A1y a l=l++a
 | [],l=>by simp [A1y]
 | x::r,l=>by simp [A1y,B2o r]
theorem D3e (s:List UInt8):(B0v s).length≤2 * s.length+1:=by
 have:=B8w s
 simpa [B0v,B2o,A2m] using this
theorem oab {p:Prop} (h:p:=by first|omega|(simp only [List.length_cons,List.length_nil,List.length_append,List.length_take,List.length_drop,A2m];omega)):p:=h
theorem oqz {p:Prop} (h:p:=by simp only [List.length_cons,List.length_append,List.length_nil] at *;omega):p:=h
theorem D9g {s:List UInt8} {R:List Int} (hR:B0v s=R) (w:s.length≤1000000000:=by exact bW):Con Tryz.prog 215 [sv s] [] [] ({t:Option Addr×Nat // R.length≤t.2∧R.length≤9223372036854775807}) (fun x=>.slice x.1.1 R.length x.1.2) (fun x=>[]) (fun x=>[sl H5 x.1.1 R]):=by
 refine cC Tryz.func215 fun X hX hr hD=>?_
 replace hR:=(B0v.eq_1 ..).symm.trans hR
 refine bS rfl (zra 1 [] (fun b=>[(2,pt b 0)]) (fun _=>[.slice none 0 0]) 237 fun b=>(ie (A3 (bS rfl (bP 1 4 rfl ?_)))))
 refine zc rfl (E2b rfl) fun j=>?_
 refine ie (A9 (Y0 (I1 [_,_] [1,0] 2 rfl ozw rfl [[_],vo H5 3 VR.nil []] rfl opv) ?_))
 refine D0f [(2,_),(5,_)] ⟨rfl,rfl,trivial⟩ ?_
 refine E2v hr rfl (D5b _ j (by first|omega|(simp only [A2m];omega)) _ rfl) A7.refl rfl rfl (fun d x=>A1y d x.1=R∧bT 1 x.1.length x.2∧x.1.length+d.length≤2 * s.length+1) (fun _ _=>False) (fun x=>(bx b [.slice (va x.2.q) x.1.length x.2.k] _::((vo H5 3 x.2 x.1)++([])))) (fun x=>[_]) (_,_) (by exact ⟨hR,bT.nil,(by simp only [List.length_nil,Nat.zero_add];exact B8w s)⟩) bU A7.refl ?_ ?_ (fun _ _ _ _ h=>h.elim)
 ·rintro i rest ⟨l,lr⟩ g Y Y' K' o u
  try dsimp only at g
  obtain ⟨hR,a,p⟩:=g
  replace hR:=(A1y.eq_2 ..).symm.trans hR
  refine A1 1 rfl (bP 1 3 rfl (A2 (u _ _ _ ?_)))
  refine A9 (A1 5 rfl (pl2 2 [0] 7 8 rfl ?_))
  refine it rfl (B1 (c:=H5) (xs:=[i]) K2 rfl rfl rfl oki) fun y=>?_
  have:([i]:List Int).length=1:=rfl
  refine it rfl (S7 (f:=H5) (r:=lr) (xs:=l) (ys:=([i]:List Int)) (pre:=[bx b [.slice (va lr.q) l.length lr.k] 237]) (post:=[]) D1t (fun _=>rfl) (fun _=>rfl) rfl rfl rfl rfl rfl rfl rfl rfl rfl (A5 0 rfl) a oab oab) fun ⟨m,e⟩=>?_
  refine zru 1 [0] [] 0 (bx b [.slice (va m.q) ((l++[i]).length) m.k] 237) ?_
  refine A2 ?_
  exact A9f (I:=fun d x=>A1y d x.1=R∧bT 1 x.1.length x.2∧x.1.length+d.length≤2 * s.length+1) (Jx:=fun _ _=>False) ((l++[i]),m) (by exact ⟨hR,e,oqz⟩) bU cB
 ·rintro z ⟨l,lr⟩ n g
  try dsimp only at g
  obtain ⟨hR,a,p⟩:=g
  replace hR:=(A1y.eq_1 ..).symm.trans hR
  have:=bT.le a
  refine nx (bS rfl (zru 2 [0,0] [] 0 _ (ie (A8 (E9e [bx b [.slice (va lr.q) l.length lr.k] 237] _ a opv ?_)))))
  have:=bT.cap a
  subst hR
  exact B4c rfl ⟨hr,hD⟩ (by exact (N2.cons (show N2 X.D by rw [hD];exact N2.nil) n)) (K7 rfl (E0p E7r rfl 0 rfl rfl)) (zq _ _) (by rfl) bU cB
def A7r (is:Bool):Option Unit :=
 (bif (!is) then none else (some ()))
theorem B1r {b:Bool} {r:Unit} (h:A7r b=some r):b=true:=by cases b with | true=>rfl | false=>cases h
theorem B8b {is:Bool} {R:Option Unit} (hR:A7r is=R):D2w Tryz.prog 118 [bv is] [] [] A7n R (fun r=>.tuple #[]):=by
 refine B6y (n:=6) Tryz.func118 rfl oki rfl rfl [(0,_)] ⟨rfl,trivial⟩ fun X hX hr hD=>?_
 replace hR:=(A7r.eq_1 ..).symm.trans hR
 refine bS rfl (bP 2 3 rfl (ie ?_))
 refine zjb rfl hR ?_ ?_<;>clear hR<;>intro hR a
 ·refine A1 3 rfl (c9 1 2 [] [(4,ag [])] (ix rfl (E4l Tryz.underlying281 rfl rfl rfl) ?_))
  refine E6p rfl rfl rfl ?_
  exact A5a ⟨hr,hD⟩ hR.symm
 refine A4 ?_
 exact B8c rfl ⟨hr,hD⟩ (by simp [hD]) (B0u rfl) hR.symm rfl
def A3r:List Int→Nat→Option Unit
 | [],t19=>(some ())
 | hd_l0::tl_l0,t19=>(Option.bind (A7r ((decide ((32:Int)≤hd_l0))&&((decide (hd_l0<127))||(decide ((159:Int)<hd_l0))))) fun (a:Unit)=>A3r tl_l0 (t19+1))
def A9a (s:List UInt8):Option Unit :=
 (B6 (B0v s) fun (a:List Int)=>(Option.bind (A7r ((decide ((s.length:Int)≤510))&&(decide ((B9l a)=s)))) fun (r:Unit)=>A3r a 0))
theorem D8e {s:List UInt8} {R:Option Unit} (hR:A9a s=R) (hs:s.length≤100000000:=by exact bW):D2w Tryz.prog 189 [sv s] [] [] A7n R (fun r=>.tuple #[]):=by
 refine B6y (n:=35) Tryz.func189 rfl oki rfl rfl [(0,_)] ⟨rfl,trivial⟩ fun X hX hr hD=>?_
 replace hR:=(A9a.eq_1 ..).symm.trans hR
 refine bS rfl (bP 1 5 rfl ?_)
 have x:=C4 hR;clear hR;obtain ⟨d,k,hR⟩:=x
 refine zc rfl (D9g k) fun ⟨⟨t,k2⟩,m⟩=>?_
 obtain ⟨a0,y⟩:=m
 have:=D3e s;try rw [k] at this
 refine bP 1 2 rfl (ie (bS rfl (bP 4 10 rfl ?_)))
 refine zid 5 1 10 15 (decide ((B9l d)=s)) (fun v w=>?_) ?_
 ·refine bP 1 11 rfl (zv rfl (E0k rfl) (bP 1 13 rfl (ix rfl (C8w rfl rfl rfl) (bP 1 15 rfl ?_))))
  exact zai 6 10 _ v
 refine B3t (B8b rfl) rfl rfl rfl rfl rfl rfl bX (List.Perm.refl _) (fun r j=>?_) (fun l=>?_)
 ·replace hR:=D1w hR j
  have h:=B1r j;try simp only [Bool.and_eq_true,decide_eq_true_eq] at h
  refine ie (bS rfl (pp3 3 17 18 19 rfl (ie (A9 (A3q (fun a=>(a≤d.length∧A3r (d.drop a) a=R,[(17,.slice t _ k2),(18,iv _),(19,iv a)],_,[sl _ t d],d.length - a)) 0 ⟨opx,hR⟩ bU A7.refl ?_)))))
  rintro a ⟨a1,hR⟩
  refine bS rfl (bP 1 20 rfl ?_)
  refine ie (A3 (G4 rfl (fun g=>?_) (fun g=>?_)))
  ·have f:=bV g
   rw [A1b 0 (show a<d.length by omega)] at hR;replace hR:=(A3r.eq_2 ..).symm.trans hR
   refine A4 (nx (A3 (A9 (bS rfl (K8 0 rfl opx fun z b=>(ix rfl (F8 K2 rfl rfl b rfl a rfl opx) (ix rfl (C9 cH rfl rfl (H2 (sz:=1) b (fun _=>rfl) 0 rfl (gd 0 opx)) rfl) (bP 1 4 rfl (ie (A1 11 rfl (bP 3 25 rfl ?_)))))))))))
   refine zid 7 1 25 32 ((decide ((d.getD a 0)<127))||(decide (159<(d.getD a 0)))) (fun o q=>?_) ?_
   ·refine bP 3 28 rfl ?_
    refine zir 3 1 28 31 (decide (159<(d.getD a 0))) (fun p u=>?_) ?_
    ·refine bP 3 31 rfl ?_
     exact zai 2 28 _ p
    refine bP 1 32 rfl ?_
    exact zai 4 25 _ o
   refine B3t (B8b rfl) rfl rfl rfl rfl rfl rfl bX (List.Perm.refl _) (fun r1 e=>?_) (fun i=>?_)
   ·replace hR:=D1w hR e
    have h:=B1r e;try simp only [Bool.and_eq_true,decide_eq_true_eq] at h
    refine A2 (nx (A1 2 rfl (ix rfl (B3 rfl rfl rfl rfl opx) (bP 1 19 rfl (A2 ?_)))))
    exact A2g _ ⟨opx,hR⟩ olr bU A7.refl
   ·replace hR:=C9l hR i
    exact A5a ⟨hr,hD⟩ hR.symm
  have f:=bV g
  rw [A1d f] at hR;replace hR:=(A3r.eq_1 ..).symm.trans hR
  refine F4 ?_
  exact B8c rfl ⟨hr,hD⟩ (by simp [hD]) (B0u rfl) hR.symm rfl
 ·replace hR:=C9l hR l
  exact A5a ⟨hr,hD⟩ hR.symm
def C0p (a:Act) (b:Act):Option Unit :=
 (Option.bind (A7r (decide (a=b))) fun (r:Unit)=>(some ()))
theorem D9c {a c:Act} {R:Option Unit} (hR:C0p a c=R):D2w Tryz.prog 188 [ag (A0 a),ag (A0 c)] [] [] A7n R (fun r=>.tuple #[]):=by
 refine B6y (n:=8) Tryz.func188 rfl oki rfl rfl [(0,_),(1,_)] ⟨rfl,rfl,trivial⟩ fun X hX hr hD=>?_
 replace hR:=(C0p.eq_1 ..).symm.trans hR
 refine bS rfl (B6z 2 [] (fun f h=>[(2,pt f 0),(3,pt h 0)]) (fun _ _=>(A0 a)) (fun _ _=>(A0 c)) 54 54 fun f h=>(ie (A1 4 rfl (c9 2 2 [1,0] [(4,ag _),(5,ag _)] (ix rfl (A9u (a:=a) (b:=c) D4r rfl rfl rfl) ?_)))))
 refine B3t (B8b rfl) rfl rfl rfl rfl rfl rfl bX (List.Perm.refl _) (fun r d=>?_) (fun e=>?_)
 ·replace hR:=D1w hR d
  have g:=B1r d;try simp only [Bool.and_eq_true,decide_eq_true_eq] at g
  refine A2 ?_
  exact B8c rfl ⟨hr,hD⟩ (by simp [hD]) (B0u rfl) hR.symm rfl
 ·replace hR:=C9l hR e
  exact A5a ⟨hr,hD⟩ hR.symm
def B2w (a:Act):Option (List UInt8) :=
 (Option.bind (C0p a ({Act.zero with kind:=a.kind,text:=a.text})) fun (r:Unit)=>(Option.bind (A9a a.text) fun (b:Unit)=>(some (([50,59]:List UInt8)++a.text))))
theorem C9y {a:Act} {R:Option (List UInt8)} (hR:B2w a=R) (h:a.text.length≤100000000:=by exact bW):D2w Tryz.prog 187 [ag (A0 a)] [] [] A7n R (fun r=>sv r):=by
 refine B6y (n:=16) Tryz.func187 rfl oki rfl rfl [(0,_)] ⟨rfl,trivial⟩ fun X hX hr hD=>?_
 replace hR:=(B2w.eq_1 ..).symm.trans hR
 refine bS rfl (zra 2 [] (fun b=>[(1,pt b 0)]) (fun _=>(A0 a)) 54 fun b=>(ie (bS rfl (c9 6 1 [0,0,0] [(3,ag (A0 a)),(8,ag (A0 ({Act.zero with kind:=a.kind,text:=a.text})))] ?_))))
 refine B3t (D9c rfl) rfl rfl rfl rfl rfl rfl bX (List.Perm.refl _) (fun r e=>?_) (fun c=>?_)
 ·replace hR:=D1w hR e
  refine ie (bS rfl (cF 2 [0] 11 rfl ?_))
  refine B3t (D8e rfl osj) rfl rfl rfl rfl rfl rfl bX (List.Perm.refl _) (fun g f=>?_) (fun d=>?_)
  ·replace hR:=D1w hR f
   refine ie (bS rfl (cF 2 [0] 14 rfl (ix rfl (zst rfl rfl rfl) (bP 1 2 rfl (ie (A8 ?_))))))
   exact D4i rfl ⟨hr,hD⟩ (by simp [hD]) (K7 rfl (A6 rfl)) hR.symm rfl
  ·replace hR:=C9l hR d
   exact A5a ⟨hr,hD⟩ hR.symm
 ·replace hR:=C9l hR c
  exact A5a ⟨hr,hD⟩ hR.symm
theorem C0w:EqT Tryz.prog 52 U2:=EqT.of 20 rfl oki oki (fun _ _=>by kernel_rfl) U2.inj
theorem B5s:MapTy Tryz.prog 216 3 214 (.int .i64):=⟨by kernel_rfl,by kernel_rfl,rfl⟩
theorem ty4:Ty Tryz.prog 4 1 false:=⟨by kernel_rfl⟩
theorem B9a:Ty Tryz.prog 52 2 true:=⟨by kernel_rfl⟩
theorem C4r:Ty Tryz.prog 161 1 false:=⟨by kernel_rfl⟩
theorem D3y:Ty Tryz.prog 214 3 true:=⟨by kernel_rfl⟩
theorem F4u:Ty Tryz.prog 230 3 true:=⟨by kernel_rfl⟩
theorem D6l:Zero Tryz.prog 214 [.nilFunc,bv false,.nilFunc]:=⟨by kernel_rfl⟩
def A1w:Bool :=
 true
theorem C9f {R:Bool} (hR:A1w=R):Con Tryz.prog 172 [aC 182] [] [] (Nat) (fun x=>ag [aC 173,bv R,.func (.func 174) #[] #[pt x 0]]) (fun x=>[bx x [aC 182] 275]) (fun x=>[]):=by
 refine cC Tryz.func172 fun X hX hr hD=>?_
 replace hR:=(A1w.eq_1 ..).symm.trans hR
 refine bS rfl (B6z 2 [] (fun a b=>[(1,pt a 0),(2,pt b 0)]) (fun _ _=>[aC 182]) (fun _ _=>[.nilFunc,bv false,.nilFunc]) 275 214 fun a b=>(ie (bS rfl (zru 3 [0] [] 0 (bx b [aC 173,bv true,.func (.func 174) #[] #[pt a 0]] 214) ?_))))
 subst hR
 refine ie (A8 ?_)
 exact cD hr hD (K7 rfl (F0 D3y rfl 0 rfl rfl rfl)) a bU bX
def A0v:Bool :=
 true
theorem C8d {R:Bool} (hR:A0v=R):Con Tryz.prog 172 [aC 183] [] [] (Nat) (fun x=>ag [aC 173,bv R,.func (.func 174) #[] #[pt x 0]]) (fun x=>[bx x [aC 183] 275]) (fun x=>[]):=by
 refine cC Tryz.func172 fun X hX hr hD=>?_
 replace hR:=(A0v.eq_1 ..).symm.trans hR
 refine bS rfl (B6z 2 [] (fun a b=>[(1,pt a 0),(2,pt b 0)]) (fun _ _=>[aC 183]) (fun _ _=>[.nilFunc,bv false,.nilFunc]) 275 214 fun a b=>(ie (bS rfl (zru 3 [0] [] 0 (bx b [aC 173,bv true,.func (.func 174) #[] #[pt a 0]] 214) ?_))))
 subst hR
 refine ie (A8 ?_)
 exact cD hr hD (K7 rfl (F0 D3y rfl 0 rfl rfl rfl)) a bU bX
def A0x:Bool :=
 true
theorem C7s {R:Bool} (hR:A0x=R):Con Tryz.prog 172 [aC 184] [] [] (Nat) (fun x=>ag [aC 173,bv R,.func (.func 174) #[] #[pt x 0]]) (fun x=>[bx x [aC 184] 275]) (fun x=>[]):=by
 refine cC Tryz.func172 fun X hX hr hD=>?_
 replace hR:=(A0x.eq_1 ..).symm.trans hR
 refine bS rfl (B6z 2 [] (fun a b=>[(1,pt a 0),(2,pt b 0)]) (fun _ _=>[aC 184]) (fun _ _=>[.nilFunc,bv false,.nilFunc]) 275 214 fun a b=>(ie (bS rfl (zru 3 [0] [] 0 (bx b [aC 173,bv true,.func (.func 174) #[] #[pt a 0]] 214) ?_))))
 subst hR
 refine ie (A8 ?_)
 exact cD hr hD (K7 rfl (F0 D3y rfl 0 rfl rfl rfl)) a bU bX
def D1j:Unit :=
 ()
theorem C4i {R:Unit} (hR:D1j=R):Con Tryz.prog 113 [] [] [] (Nat×Nat×Nat×Nat) (fun x=>.map (some x.1)) (fun x=>[(x.1,.map #[⟨iv 0,ag [aC 173,bv false,aC 175],0⟩,⟨iv 1,ag [aC 176,bv false,aC 177],1⟩,⟨iv 2,ag [aC 178,bv false,aC 179],2⟩,⟨iv 3,ag [aC 180,bv false,aC 181],3⟩,⟨iv 4,ag [aC 173,bv A1w,.func (.func 174) #[] #[pt x.2.1 0]],4⟩,⟨iv 5,ag [aC 173,bv A0v,.func (.func 174) #[] #[pt x.2.2.1 0]],5⟩,⟨iv 6,ag [aC 173,bv A0x,.func (.func 174) #[] #[pt x.2.2.2 0]],6⟩] 7),bx x.2.1 [aC 182] 275,bx x.2.2.1 [aC 183] 275,bx x.2.2.2 [aC 184] 275]) (fun x=>[]):=by
 refine cC Tryz.func113 fun X hX hr hD=>?_
 replace hR:=(D1j.eq_1 ..).symm.trans hR
 refine bS rfl (pp0 1 rfl (ie (bS rfl (ip' 1 0 [(1,aC 172)] (ie (bS rfl (it rfl (B5f rfl) fun d=>(c9 1 18 [] [(3,ag [aC 173,bv false,aC 175])] (it rfl (F6 B5s (.inl rfl) rfl rfl rfl 0 rfl oki rfl) fun _=>?_)))))))))
 refine c9 1 16 [] [(4,ag [aC 176,bv false,aC 177])] (it rfl (F6 B5s (.inl rfl) rfl rfl rfl 0 rfl oki rfl) fun _=>?_)
 refine c9 1 14 [] [(5,ag [aC 178,bv false,aC 179])] (it rfl (F6 B5s (.inl rfl) rfl rfl rfl 0 rfl oki rfl) fun _=>?_)
 refine c9 1 12 [] [(6,ag [aC 180,bv false,aC 181])] (it rfl (F6 B5s (.inl rfl) rfl rfl rfl 0 rfl oki rfl) fun _=>?_)
 refine ip' 1 10 [(7,aC 172)] ?_
 refine zc rfl (C9f rfl) fun b=>?_
 refine it rfl (F6 B5s (.inl rfl) rfl rfl rfl 1 rfl oki rfl) fun _=>?_
 refine ip' 1 7 [(9,aC 172)] ?_
 refine zc rfl (C8d rfl) fun a=>?_
 refine it rfl (F6 B5s (.inl rfl) rfl rfl rfl 2 rfl oki rfl) fun _=>?_
 refine ip' 1 4 [(11,aC 172)] ?_
 refine zc rfl (C7s rfl) fun c=>?_
 refine it rfl (F6 B5s (.inl rfl) rfl rfl rfl 3 rfl oki rfl) fun _=>?_
 refine bP 2 0 rfl ?_
 subst hR
 refine ie (A8 (Y0 (I1 [_,_,_,_] [3,2,1,0] 4 rfl ozw rfl [[(d,.map #[⟨iv 0,_,0⟩,⟨iv 1,_,1⟩,⟨iv 2,_,2⟩,⟨iv 3,_,3⟩,⟨iv 4,_,4⟩,⟨iv 5,_,5⟩,⟨iv 6,_,6⟩] 7)],[_],[_],[_]] rfl opv) ?_))
 exact cD hr hD (K7 rfl (A6 rfl)) (d,b,a,c) bU bX
def D4w (a:Nat) (z1:Nat) (z2:Nat):List (Int×Value):=[(0,ag [aC 173,bv false,aC 175]),(1,ag [aC 176,bv false,aC 177]),(2,ag [aC 178,bv false,aC 179]),(3,ag [aC 180,bv false,aC 181]),(4,ag [aC 173,bv A1w,.func (.func 174) #[] #[pt a 0]]),(5,ag [aC 173,bv A0v,.func (.func 174) #[] #[pt z1 0]]),(6,ag [aC 173,bv A0x,.func (.func 174) #[] #[pt z2 0]])]
def A0g:List (Int×Value):=[(0,aC 173),(1,aC 176),(2,aC 178),(3,aC 180),(4,aC 173),(5,aC 173),(6,aC 173)]
def A6d:List (Int×Bool):=[(0,false),(1,false),(2,false),(3,false),(4,A1w),(5,A0v),(6,A0x)]
def B0a (a:Nat) (z1:Nat) (z2:Nat):List (Int×Value):=[(0,aC 175),(1,aC 177),(2,aC 179),(3,aC 181),(4,.func (.func 174) #[] #[pt a 0]),(5,.func (.func 174) #[] #[pt z1 0]),(6,.func (.func 174) #[] #[pt z2 0])]
theorem E6i (d:Nat) (z1:Nat) (z2:Nat) (k:Int):lkV k (.agg #[.nilFunc,bv false,.nilFunc]) (D4w d z1 z2)=.agg #[lkV k .nilFunc A0g,.bool (lkB k false A6d),lkV k .nilFunc (B0a d z1 z2)]:=by
 refine (D4l (fun a b c=>.agg #[a,b,c]) k (.nilFunc) (bv false) (.nilFunc) [((0:Int),(aC 173:Value),(bv false:Value),(aC 175:Value)),((1:Int),(aC 176:Value),(bv false:Value),(aC 177:Value)),((2:Int),(aC 178:Value),(bv false:Value),(aC 179:Value)),((3:Int),(aC 180:Value),(bv false:Value),(aC 181:Value)),((4:Int),(aC 173:Value),(bv A1w:Value),(.func (.func 174) #[] #[pt d 0]:Value)),((5:Int),(aC 173:Value),(bv A0v:Value),(.func (.func 174) #[] #[pt z1 0]:Value)),((6:Int),(aC 173:Value),(bv A0x:Value),(.func (.func 174) #[] #[pt z2 0]:Value))]).trans ?_
 rw [show (([((0:Int),(aC 173:Value),(bv false:Value),(aC 175:Value)),((1:Int),(aC 176:Value),(bv false:Value),(aC 177:Value)),((2:Int),(aC 178:Value),(bv false:Value),(aC 179:Value)),((3:Int),(aC 180:Value),(bv false:Value),(aC 181:Value)),((4:Int),(aC 173:Value),(bv A1w:Value),(.func (.func 174) #[] #[pt d 0]:Value)),((5:Int),(aC 173:Value),(bv A0v:Value),(.func (.func 174) #[] #[pt z1 0]:Value)),((6:Int),(aC 173:Value),(bv A0x:Value),(.func (.func 174) #[] #[pt z2 0]:Value))]).map fun x=>(x.1,x.2.2.1))=A6d.map (fun x=>(x.1,Value.bool x.2)) from rfl,E0d]
 rfl
theorem C1x (a:Nat) (z1:Nat) (z2:Nat) (k:Int):Value.tuple #[lkV k (.agg #[.nilFunc,bv false,.nilFunc]) (D4w a z1 z2),.bool (A1r k (D4w a z1 z2))]=Value.tuple #[.agg #[lkV k .nilFunc A0g,.bool (lkB k false A6d),lkV k .nilFunc (B0a a z1 z2)],.bool (A1r k A0g)]:=by rw [E6i];rfl
def B1a (m:Int):Bool :=
 (decide (m=0))
theorem B3d {m:Int} {R:Bool} (hR:B1a m=R):J5 Tryz.prog 173 [iv m] [] (bv R):=by
 refine cC Tryz.func173 fun X hX hr hD=>?_
 replace hR:=(B1a.eq_1 ..).symm.trans hR
 refine bS rfl (pp0 1 rfl (ie (bS rfl (bP 3 2 rfl ?_))))
 subst hR
 refine ie (A8 ?_)
 exact F7 hr hD
def A6a (x:Int):Int :=
 (B6 (IntKind.u64.wrap ((bOp .and .u64 (x / 2) 6148914691236517205)+(bOp .and .u64 x 6148914691236517205))) fun (v:Int)=>(B6 (IntKind.u64.wrap ((bOp .and .u64 (v / 4) 3689348814741910323)+(bOp .and .u64 v 3689348814741910323))) fun (b:Int)=>(B6 (bOp .and .u64 (IntKind.u64.wrap ((b / 16)+b)) 1085102592571150095) fun (a:Int)=>(B6 (IntKind.u64.wrap ((IntKind.u64.wrap (a+(a / 256)))+((IntKind.u64.wrap (a+(a / 256))) / 65536))) fun (c:Int)=>(B6 (bOp .and .i64 (IntKind.i64.wrap (IntKind.u64.wrap (c+(c / 4294967296)))) 127) fun (d:Int)=>d)))))
theorem B6h {x R:Int} (hR:A6a x=R):J5 Tryz.prog 243 [.int .u64 x] [] (iv R):=by
 refine cC Tryz.func243 fun X hX hr hD=>?_
 replace hR:=(A6a.eq_1 ..).symm.trans hR
 refine bS rfl (pp0 1 rfl (ie (bS rfl (bP 1 3 rfl ?_))))
 refine ix rfl (A1s (c:=x / 2) rfl rfl rfl ozw (by simp [Int.fdiv_eq_ediv_of_nonneg,IntKind.bits])) ?_
 have a:=C4 hR;clear hR;obtain ⟨v,k,hR⟩:=a
 refine ip' 5 0 [(0,.int .u64 v)] ?_ (by cases k;kernel_rfl)
 refine ie (bS rfl (bP 1 9 rfl ?_))
 refine ix rfl (A1s (c:=v / 4) rfl rfl rfl ozw (by simp [Int.fdiv_eq_ediv_of_nonneg,IntKind.bits])) ?_
 have a:=C4 hR;clear hR;obtain ⟨i,e,hR⟩:=a
 refine ip' 5 0 [(0,.int .u64 i)] ?_ (by cases e;kernel_rfl)
 refine ie (bS rfl (bP 1 15 rfl ?_))
 refine ix rfl (A1s (c:=i / 16) rfl rfl rfl ozw (by simp [Int.fdiv_eq_ediv_of_nonneg,IntKind.bits])) ?_
 have a:=C4 hR;clear hR;obtain ⟨b,g,hR⟩:=a
 refine ip' 4 0 [(0,.int .u64 b)] ?_ (by cases g;kernel_rfl)
 refine ie (bS rfl (cG 2 20 21 rfl ?_))
 refine ix rfl (A1s (c:=b / 256) rfl rfl rfl ozw (by simp [Int.fdiv_eq_ediv_of_nonneg,IntKind.bits])) (bP 2 0 rfl (ie (bS rfl (cG 2 24 25 rfl ?_))))
 refine ix rfl (A1s (c:=(IntKind.u64.wrap (b+(b / 256))) / 65536) rfl rfl rfl ozw (by simp [Int.fdiv_eq_ediv_of_nonneg,IntKind.bits])) ?_
 have a:=C4 hR;clear hR;obtain ⟨h,d,hR⟩:=a
 refine ip' 2 0 [(0,.int .u64 h)] ?_ (by cases d;kernel_rfl)
 refine ie (bS rfl (cG 2 28 29 rfl ?_))
 refine ix rfl (A1s (c:=h / 4294967296) rfl rfl rfl ozw (by simp [Int.fdiv_eq_ediv_of_nonneg,IntKind.bits])) (bP 2 0 rfl (ie (bS rfl ?_)))
 have a:=C4 hR;clear hR;obtain ⟨j,f,hR⟩:=a
 refine ip' 4 0 [(2,iv j)] ?_ (by cases f;kernel_rfl)
 subst hR
 refine ie (A8 ?_)
 exact F7 hr hD
def A4c (x:Int):Int :=
 (A6a x)
theorem B8r {x R:Int} (hR:A4c x=R):J5 Tryz.prog 214 [.int .u64 x] [] (iv R):=by
 refine cC Tryz.func214 fun X hX hr hD=>?_
 replace hR:=(A4c.eq_1 ..).symm.trans hR
 refine bS rfl (pp0 1 rfl (ie (A3 (A4r rfl (A4 (nx (bS rfl (bP 1 6 rfl (zv rfl (B6h rfl) (bP 1 2 rfl ?_))))))))))
 subst hR
 refine ie (A8 ?_)
 exact F7 hr hD
def B6n (m:Int):Bool :=
 ((decide ((bOp .andNot .i64 m 255)=0))&&(decide ((A4c (IntKind.u64.wrap m))=1)))
theorem C6q {m:Int} {R:Bool} (hR:B6n m=R):J5 Tryz.prog 176 [iv m] [] (bv R):=by
 refine cC Tryz.func176 fun X hX hr hD=>?_
 replace hR:=(B6n.eq_1 ..).symm.trans hR
 refine bS rfl (pp0 1 rfl (ie (bS rfl (bP 4 6 rfl ?_))))
 refine zid 5 1 6 11 (decide ((A4c (IntKind.u64.wrap m))=1)) (fun b a=>?_) ?_
 ·refine bP 2 8 rfl (zv rfl (B8r rfl) (bP 2 11 rfl ?_))
  exact A2 (J0 4 6 _ b bX bU rfl rfl rfl rfl rfl)
 refine bP 1 2 rfl ?_
 subst hR
 refine ie (A8 ?_)
 exact F7 hr hD
def B7v (m:Int):Bool :=
 ((decide (m=3))||((B6n m)&&(decide ((bOp .and .i64 m 3)=0))))
theorem D0s {m:Int} {R:Bool} (hR:B7v m=R):J5 Tryz.prog 178 [iv m] [] (bv R):=by
 refine cC Tryz.func178 fun X hX hr hD=>?_
 replace hR:=(B7v.eq_1 ..).symm.trans hR
 refine bS rfl (pp0 1 rfl (ie (bS rfl (bP 3 5 rfl ?_))))
 refine zir 8 1 5 13 ((B6n m)&&(decide ((bOp .and .i64 m 3)=0))) (fun c a=>?_) ?_
 ·refine bP 1 6 rfl (zv rfl (C6q rfl) (bP 1 8 rfl ?_))
  refine zia 4 1 8 12 (decide ((bOp .and .i64 m 3)=0)) (fun b=>?_) ?_
  ·refine bP 4 12 rfl ?_
   exact A2 (J0 2 8 _ b bX bU rfl rfl rfl rfl rfl)
  refine bP 1 13 rfl ?_
  exact A2 (J0 6 5 _ c bX bU rfl rfl rfl rfl rfl)
 refine bP 1 2 rfl ?_
 subst hR
 refine ie (A8 ?_)
 exact F7 hr hD
def B8g (m:Int):Bool :=
 ((decide ((0:Int)≤m))&&(decide (m≤5)))
theorem C9m {m:Int} {R:Bool} (hR:B8g m=R):J5 Tryz.prog 180 [iv m] [] (bv R):=by
 refine cC Tryz.func180 fun X hX hr hD=>?_
 replace hR:=(B8g.eq_1 ..).symm.trans hR
 refine bS rfl (pp0 1 rfl (ie (bS rfl (bP 3 5 rfl ?_))))
 refine zid 3 1 5 8 (decide (m≤5)) (fun b a=>?_) ?_
 ·refine bP 3 8 rfl ?_
  exact A2 (J0 2 5 8 b bX bU rfl rfl rfl rfl rfl)
 refine bP 1 2 rfl ?_
 subst hR
 refine ie (A8 ?_)
 exact F7 hr hD
def B3l (k:Int) (a:Int):Bool :=
 (bif (decide (k=0)) then (B1a a) else (bif (decide (k=1)) then (B6n a) else (bif (decide (k=2)) then (B7v a) else (bif (decide (k=3)) then (B8g a) else (bif (decide (k=4)) then (B1a a) else (bif (decide (k=5)) then (B1a a) else (bif (decide (k=6)) then (B1a a) else false)))))))
theorem B9z (k:Int) (b:Int) (a:A1r k A0g=true) (R:Bool) (hR:B3l k b=R):D4 Tryz.prog (lkV k .nilFunc A0g) [iv b] [] (bv R):=by
 subst hR
 unfold B3l
 unfold A0g at *
 refine D4.cons _ a (fun e=>?_) (fun a e=>?_)
 ·exact D4.of (B3d rfl) rfl bX
 refine D4.cons _ a (fun e=>?_) (fun a e=>?_)
 ·exact D4.of (C6q rfl) rfl bX
 refine D4.cons _ a (fun e=>?_) (fun a e=>?_)
 ·exact D4.of (D0s rfl) rfl bX
 refine D4.cons _ a (fun e=>?_) (fun a e=>?_)
 ·exact D4.of (C9m rfl) rfl bX
 refine D4.cons _ a (fun e=>?_) (fun a e=>?_)
 ·exact D4.of (B3d rfl) rfl bX
 refine D4.cons _ a (fun e=>?_) (fun a e=>?_)
 ·exact D4.of (B3d rfl) rfl bX
 refine D4.cons _ a (fun e=>?_) (fun a e=>?_)
 ·exact D4.of (B3d rfl) rfl bX
 exact D4.nil a
def Q9:Ar3 :=
 {Ar3.zero with b:=255,c:=16777215}
theorem C8o {R:Ar3} (hR:Q9=R):J5 Tryz.prog 185 [] [] (ag (D0k R)):=by
 refine cC Tryz.func185 fun X hX hr hD=>?_
 replace hR:=(Q9.eq_1 ..).symm.trans hR
 refine bS rfl (zra 1 [] (fun a=>[(0,pt a 0)]) (fun _=>(D0k Ar3.zero)) 230 fun a=>(ie (bS rfl (zru 2 [0] [] 0 (bx a (D0k ({Ar3.zero with b:=255,c:=16777215})) 230) ?_))))
 subst hR
 refine ie (A8 ?_)
 exact cD hr hD (K7 rfl (F0 F4u rfl 0 rfl rfl rfl)) () bU bX
def W1 (c:Col):Int :=
 (bif ((((decide (c.kind<0))||(decide ((3:Int)≤c.kind)))||(decide (c.n<0)))||(decide ((([Q9.a,Q9.b,Q9.c]:List Int).getD ((c.kind).toNat) 0)<c.n))) then 130 else 0)
theorem oqd {p:Prop} (h:p:=by simp only [List.length_cons,List.length_nil];omega):p:=h
theorem A5v {c:Col} {R:Int} (hR:W1 c=R):J5 Tryz.prog 114 [ag (U2 c)] [] (iv R):=by
 refine cC Tryz.func114 fun X hX hr hD=>?_
 replace hR:=(W1.eq_1 ..).symm.trans hR
 refine bS rfl (zra 2 [] (fun f=>[(1,pt f 0)]) (fun _=>(U2 c)) 52 fun f=>(ie (A3 (bS rfl (zv rfl (C8o rfl) ?_)))))
 refine zra 2 [0] (fun g=>[(3,pt g 0)]) (fun _=>(D0k Q9)) 230 fun g=>?_
 refine ie (sd 22 rfl oki rfl (pg1 4 [1] 8 rfl ?_))
 refine zdr 4 14 8 12 (decide (3≤c.kind)) (fun o l=>?_) ?_
 ·refine pg1 4 [1] 12 rfl ?_
  exact zad 2 8 _ o
 refine pd1 1 13 rfl ?_
 refine zdO 4 9 13 17 (decide (c.n<0)) (fun e=>?_) ?_
 ·have k:=bV e
  refine pg1 4 [1] 17 rfl ?_
  exact zad 2 13 _ e
 refine pd1 1 18 rfl ?_
 refine zdO 8 0 18 26 (decide (([Q9.a,Q9.b,Q9.c].getD ((c.kind).toNat) 0)<c.n)) (fun i=>?_) ?_
 ·have m:=bV i
  refine pg2 4 [1,1] 20 22 rfl (dd rfl (A6i Tryz.underlying230 cH rfl rfl rfl ((c.kind).toNat) opx opx) ?_)
  refine dd rfl (Z9 (u:=iv ([Q9.a,Q9.b,Q9.c].getD _ 0)) (c:=H5) cH (fun _=>rfl) rfl rfl 0 rfl _ 0 rfl (gd 0 oqd) rfl) (pd1 2 26 rfl ?_)
  exact zad 6 18 _ i
 refine de ?_
 refine zjb rfl hR ?_ ?_<;>clear hR<;>intro hR h
 ·have d:=bV h
  refine bS rfl (bP 1 2 rfl ?_)
  subst hR
  refine ie (A8 ?_)
  exact F7 hr hD
 refine A4 (nx (bS rfl (bP 1 2 rfl ?_)))
 subst hR
 refine ie (A8 ?_)
 exact F7 hr hD
theorem gdE {α:Type} {l:List α} {k:Nat} {d:α} (h:k<l.length):l.getD k d=l[k]:=by simp [List.getD_eq_getElem?_getD,h]
theorem gdN {α:Type} {l:List α} {k:Nat} {d:α} (h:¬ k<l.length):l.getD k d=d:=by simp [List.getD_eq_getElem?_getD,List.getElem?_eq_none (Nat.le_of_not_lt h)]
theorem A7j {k:Int} {z:Value}:∀ {l:List (Int×Value)},z.oneCell'=true→(l.all fun p=>p.2.oneCell')=true→(lkV k z l).oneCell'=true
 | [],hz,_=>hz
 | (a,v)::l,hz,h=>by
  simp only [List.all_cons,Bool.and_eq_true] at h
  unfold lkV
  cases decide (k=a) with
  | true=>exact h.1
  | false=>exact A7j hz h.2
def A6w (a:Act):Int :=
 (bif ((((!(A1r a.n A0g))||(!decide (a.kind=39)))||(!(decide (a.text=([]:List UInt8)))))||(!(B3l a.n a.m))) then 141 else (bif (((!(lkB a.n false A6d))&&(!(decide (a.color=Col.zero))))||(!decide ((W1 a.color)=0))) then 141 else 0))
theorem och {p:Prop} (h:p:=by first|assumption|simp_all):p:=h
theorem B6g {a:Act} {R:Int} (hR:A6w a=R):J5 Tryz.prog 77 [ag (A0 a)] [] (iv R):=by
 refine cC Tryz.func77 fun X hX hr hD=>?_
 replace hR:=(A6w.eq_1 ..).symm.trans hR
 refine bS rfl (zra 2 [] (fun b1=>[(1,pt b1 0)]) (fun _=>(A0 a)) 54 fun b1=>(ie (zS [(10,[0])] ?_)))
 refine hq1 [1] 7 rfl ?_
 refine gl 2 [0] rfl (C1 (v:=iv _) cH rfl rfl 0 rfl rfl) ?_
 refine gf 0 7 ?_ ?_
 ·refine ghc 0 [0] rfl (C4i rfl) fun ⟨b2,g,h,f⟩=>?_
  refine gf 3 7 ?_ ?_
  ·refine gh 3 [0] rfl (Det.tri (J9.det (by exact H8 (A7l (D4w g h f) B5s rfl rfl rfl 0 rfl oki oki) (C1x g h f a.n)))) fun _=>?_
   refine hqV [4,5,6] [(10,ag [(lkV a.n .nilFunc A0g),bv (lkB a.n false A6d),(lkV a.n .nilFunc (B0a g h f))]),(11,bv (A1r a.n A0g))] ?_
   refine go 7 [0] rfl (A5z D6l rfl) fun b6=>?_
   refine go 8 [0] rfl (P4 (us:=[(lkV a.n .nilFunc A0g),bv (lkB a.n false A6d),(lkV a.n .nilFunc (B0a g h f))]) (cs':=[(lkV a.n .nilFunc A0g),bv (lkB a.n false A6d),(lkV a.n .nilFunc (B0a g h f))]) D3y rfl rfl rfl 0 rfl rfl rfl (by simp only [List.all_cons,List.all_nil,Bool.and_true,Bool.and_eq_true];exact ⟨A7j rfl rfl,rfl,A7j rfl rfl⟩) rfl rfl) fun _=>?_
   refine hq1 [9] 4 rfl ?_
   refine ge ?_
   refine A3 (bS rfl (bP 3 14 rfl ?_))
   refine zio 4 13 14 18 (!decide (a.kind=39)) (fun g7=>?_) ?_
   ·refine bP 1 15 rfl (ix rfl (C1 (v:=iv _) cH rfl rfl 5 rfl rfl) (bP 2 18 rfl ?_))
    exact A2 (J0 4 14 _ g7 bX bU rfl rfl rfl rfl rfl)
   refine bP 1 19 rfl ?_
   refine zio 4 8 19 23 (!(decide (a.text=[]))) (fun g8=>?_) ?_
   ·have ap:=bV g8
    refine bP 1 20 rfl (ix rfl (C1 (v:=sv _) ty9 rfl rfl 5 rfl rfl) (ix rfl (A9v rfl rfl rfl) (bP 1 23 rfl ?_)))
    exact A2 (J0 5 19 _ g8 bX bU rfl rfl rfl rfl rfl)
   refine bP 1 24 rfl ?_
   refine zio 7 0 24 31 (!(B3l a.n a.m)) (fun g9=>?_) ?_
   ·have am:=bV g9
    refine bP 1 25 rfl (ix rfl (C1 C4r rfl rfl 0 rfl rfl) (bP 1 27 rfl (ix rfl (C1 (v:=iv _) cH rfl rfl 5 rfl rfl) (ixc rfl (A7k (B9z _ _ och _ rfl) rfl rfl rfl rfl bX) (bP 2 31 rfl ?_)))))
    exact A2 (J0 7 24 _ g9 bX bU rfl rfl rfl rfl rfl)
   refine ie ?_
   refine zjb rfl hR ?_ ?_<;>clear hR<;>intro hR k
   ·have s:=bV k
    refine bS rfl (bP 1 2 rfl ?_)
    subst hR
    refine ie (A8 ?_)
    exact F7 hr hD
   refine A4 (nx (A3 (bS rfl (cF 4 [0] 35 rfl ?_))))
   refine zia 5 6 35 40 (!(decide (a.color=Col.zero))) (fun a5=>?_) ?_
   ·refine bP 1 36 rfl (ix rfl (G7 (us:=U2 _) B9a rfl rfl 5 rfl rfl rfl) (c9 1 2 [] [(38,ag _)] (ix rfl (Z3 (b:=Col.zero) C0w rfl rfl rfl) (bP 1 40 rfl ?_))))
    exact A2 (J0 6 35 _ a5 bX bU rfl rfl rfl rfl rfl)
   refine bP 1 41 rfl ?_
   refine zio 5 0 41 46 (!decide ((W1 a.color)=0)) (fun a0=>?_) ?_
   ·have aj:=bV a0
    refine bP 1 42 rfl (ix rfl (G7 (us:=U2 _) B9a rfl rfl 5 rfl rfl rfl) (zv rfl (A5v rfl) (bP 2 46 rfl ?_)))
    exact A2 (J0 5 41 _ a0 bX bU rfl rfl rfl rfl rfl)
   refine ie ?_
   refine zjb rfl hR ?_ ?_<;>clear hR<;>intro hR i
   ·have x:=bV i
    refine bS rfl (bP 1 2 rfl ?_)
    subst hR
    refine ie (A8 ?_)
    exact F7 hr hD
   refine A4 (nx (bS rfl (bP 1 2 rfl ?_)))
   subst hR
   refine ie (A8 ?_)
   exact F7 hr hD
  ·refine gh 7 [0] rfl (A5z D6l rfl) fun ak=>?_
   refine go 3 [0] rfl (Det.tri (J9.det (by exact H8 (A7l (D4w g h f) B5s rfl rfl rfl 1 rfl oki oki) (C1x g h f a.n)))) fun _=>?_
   refine hqV [4,5,6] [(10,ag [(lkV a.n .nilFunc A0g),bv (lkB a.n false A6d),(lkV a.n .nilFunc (B0a g h f))]),(11,bv (A1r a.n A0g))] ?_
   refine go 8 [0] rfl (P4 (us:=[(lkV a.n .nilFunc A0g),bv (lkB a.n false A6d),(lkV a.n .nilFunc (B0a g h f))]) (cs':=[(lkV a.n .nilFunc A0g),bv (lkB a.n false A6d),(lkV a.n .nilFunc (B0a g h f))]) D3y rfl rfl rfl 0 rfl rfl rfl (by simp only [List.all_cons,List.all_nil,Bool.and_true,Bool.and_eq_true];exact ⟨A7j rfl rfl,rfl,A7j rfl rfl⟩) rfl rfl) fun _=>?_
   refine hq1 [9] 4 rfl ?_
   refine ge ?_
   refine A3 (bS rfl (bP 3 14 rfl ?_))
   refine zio 4 13 14 18 (!decide (a.kind=39)) (fun a6=>?_) ?_
   ·refine bP 1 15 rfl (ix rfl (C1 (v:=iv _) cH rfl rfl 5 rfl rfl) (bP 2 18 rfl ?_))
    exact A2 (J0 4 14 _ a6 bX bU rfl rfl rfl rfl rfl)
   refine bP 1 19 rfl ?_
   refine zio 4 8 19 23 (!(decide (a.text=[]))) (fun w=>?_) ?_
   ·have aa:=bV w
    refine bP 1 20 rfl (ix rfl (C1 (v:=sv _) ty9 rfl rfl 5 rfl rfl) (ix rfl (A9v rfl rfl rfl) (bP 1 23 rfl ?_)))
    exact A2 (J0 5 19 _ w bX bU rfl rfl rfl rfl rfl)
   refine bP 1 24 rfl ?_
   refine zio 7 0 24 31 (!(B3l a.n a.m)) (fun y=>?_) ?_
   ·have ai:=bV y
    refine bP 1 25 rfl (ix rfl (C1 C4r rfl rfl 0 rfl rfl) (bP 1 27 rfl (ix rfl (C1 (v:=iv _) cH rfl rfl 5 rfl rfl) (ixc rfl (A7k (B9z _ _ och _ rfl) rfl rfl rfl rfl bX) (bP 2 31 rfl ?_)))))
    exact A2 (J0 7 24 _ y bX bU rfl rfl rfl rfl rfl)
   refine ie ?_
   refine zjb rfl hR ?_ ?_<;>clear hR<;>intro hR a1
   ·have z:=bV a1
    refine bS rfl (bP 1 2 rfl ?_)
    subst hR
    refine ie (A8 ?_)
    exact F7 hr hD
   refine A4 (nx (A3 (bS rfl (cF 4 [0] 35 rfl ?_))))
   refine zia 5 6 35 40 (!(decide (a.color=Col.zero))) (fun a8=>?_) ?_
   ·refine bP 1 36 rfl (ix rfl (G7 (us:=U2 _) B9a rfl rfl 5 rfl rfl rfl) (c9 1 2 [] [(38,ag _)] (ix rfl (Z3 (b:=Col.zero) C0w rfl rfl rfl) (bP 1 40 rfl ?_))))
    exact A2 (J0 6 35 _ a8 bX bU rfl rfl rfl rfl rfl)
   refine bP 1 41 rfl ?_
   refine zio 5 0 41 46 (!decide ((W1 a.color)=0)) (fun l=>?_) ?_
   ·have ab:=bV l
    refine bP 1 42 rfl (ix rfl (G7 (us:=U2 _) B9a rfl rfl 5 rfl rfl rfl) (zv rfl (A5v rfl) (bP 2 46 rfl ?_)))
    exact A2 (J0 5 41 _ l bX bU rfl rfl rfl rfl rfl)
   refine ie ?_
   refine zjb rfl hR ?_ ?_<;>clear hR<;>intro hR u
   ·have r:=bV u
    refine bS rfl (bP 1 2 rfl ?_)
    subst hR
    refine ie (A8 ?_)
    exact F7 hr hD
   refine A4 (nx (bS rfl (bP 1 2 rfl ?_)))
   subst hR
   refine ie (A8 ?_)
   exact F7 hr hD
 ·refine gh 7 [0] rfl (A5z D6l rfl) fun al=>?_
  refine gc 0 [0] rfl (C4i rfl) fun ⟨an,c,e,d⟩=>?_
  refine go 3 [0] rfl (Det.tri (J9.det (by exact H8 (A7l (D4w c e d) B5s rfl rfl rfl 0 rfl oki oki) (C1x c e d a.n)))) fun _=>?_
  refine hqV [4,5,6] [(10,ag [(lkV a.n .nilFunc A0g),bv (lkB a.n false A6d),(lkV a.n .nilFunc (B0a c e d))]),(11,bv (A1r a.n A0g))] ?_
  refine go 8 [0] rfl (P4 (us:=[(lkV a.n .nilFunc A0g),bv (lkB a.n false A6d),(lkV a.n .nilFunc (B0a c e d))]) (cs':=[(lkV a.n .nilFunc A0g),bv (lkB a.n false A6d),(lkV a.n .nilFunc (B0a c e d))]) D3y rfl rfl rfl 4 rfl rfl rfl (by simp only [List.all_cons,List.all_nil,Bool.and_true,Bool.and_eq_true];exact ⟨A7j rfl rfl,rfl,A7j rfl rfl⟩) rfl rfl) fun _=>?_
  refine hq1 [9] 4 rfl ?_
  refine ge ?_
  refine A3 (bS rfl (bP 3 14 rfl ?_))
  refine zio 4 13 14 18 (!decide (a.kind=39)) (fun a4=>?_) ?_
  ·refine bP 1 15 rfl (ix rfl (C1 (v:=iv _) cH rfl rfl 5 rfl rfl) (bP 2 18 rfl ?_))
   exact A2 (J0 4 14 _ a4 bX bU rfl rfl rfl rfl rfl)
  refine bP 1 19 rfl ?_
  refine zio 4 8 19 23 (!(decide (a.text=[]))) (fun a3=>?_) ?_
  ·have ah:=bV a3
   refine bP 1 20 rfl (ix rfl (C1 (v:=sv _) ty9 rfl rfl 5 rfl rfl) (ix rfl (A9v rfl rfl rfl) (bP 1 23 rfl ?_)))
   exact A2 (J0 5 19 _ a3 bX bU rfl rfl rfl rfl rfl)
  refine bP 1 24 rfl ?_
  refine zio 7 0 24 31 (!(B3l a.n a.m)) (fun j=>?_) ?_
  ·have ad:=bV j
   refine bP 1 25 rfl (ix rfl (C1 C4r rfl rfl 4 rfl rfl) (bP 1 27 rfl (ix rfl (C1 (v:=iv _) cH rfl rfl 5 rfl rfl) (ixc rfl (A7k (B9z _ _ och _ rfl) rfl rfl rfl rfl bX) (bP 2 31 rfl ?_)))))
   exact A2 (J0 7 24 _ j bX bU rfl rfl rfl rfl rfl)
  refine ie ?_
  refine zjb rfl hR ?_ ?_<;>clear hR<;>intro hR q
  ·have o:=bV q
   refine bS rfl (bP 1 2 rfl ?_)
   subst hR
   refine ie (A8 ?_)
   exact F7 hr hD
  refine A4 (nx (A3 (bS rfl (bP 1 32 rfl (ix rfl (C1 ty4 rfl rfl 4 rfl rfl) (bP 2 35 rfl ?_))))))
  refine zia 5 6 35 40 (!(decide (a.color=Col.zero))) (fun a7=>?_) ?_
  ·refine bP 1 36 rfl (ix rfl (G7 (us:=U2 _) B9a rfl rfl 5 rfl rfl rfl) (c9 1 2 [] [(38,ag _)] (ix rfl (Z3 (b:=Col.zero) C0w rfl rfl rfl) (bP 1 40 rfl ?_))))
   exact A2 (J0 6 35 _ a7 bX bU rfl rfl rfl rfl rfl)
  refine bP 1 41 rfl ?_
  refine zio 5 0 41 46 (!decide ((W1 a.color)=0)) (fun a2=>?_) ?_
  ·have ae:=bV a2
   refine bP 1 42 rfl (ix rfl (G7 (us:=U2 _) B9a rfl rfl 5 rfl rfl rfl) (zv rfl (A5v rfl) (bP 2 46 rfl ?_)))
   exact A2 (J0 5 41 _ a2 bX bU rfl rfl rfl rfl rfl)
  refine ie ?_
  refine zjb rfl hR ?_ ?_<;>clear hR<;>intro hR t
  ·have p:=bV t
   refine bS rfl (bP 1 2 rfl ?_)
   subst hR
   refine ie (A8 ?_)
   exact F7 hr hD
  refine A4 (nx (bS rfl (bP 1 2 rfl ?_)))
  subst hR
  refine ie (A8 ?_)
  exact F7 hr hD
def P0 (s:Sty):Int :=
 (bif (((!decide ((bOp .andNot .i64 s.attr 255)=0))||(decide (s.under<0)))||(decide ((5:Int)<s.under))) then 140 else (bif (!decide ((W1 s.fore)=0)) then (W1 s.fore) else (bif (!decide ((W1 s.back)=0)) then (W1 s.back) else (bif (!decide ((W1 s.line)=0)) then (W1 s.line) else 0))))
theorem A5w {s:Sty} {R:Int} (hR:P0 s=R):J5 Tryz.prog 104 [ag (D6 s)] [] (iv R):=by
 refine cC Tryz.func104 fun X hX hr hD=>?_
 replace hR:=(P0.eq_1 ..).symm.trans hR
 refine bS rfl (zra 2 [] (fun d=>[(1,pt d 0)]) (fun _=>(D6 s)) 65 fun d=>(ie (A3 (bS rfl (cF 5 [0] 10 rfl ?_)))))
 refine zio 4 5 10 14 (decide (s.under<0)) (fun f=>?_) ?_
 ·have k:=bV f
  refine cF 4 [0] 14 rfl ?_
  exact A2 (J0 2 10 _ f bX bU rfl rfl rfl rfl rfl)
 refine bP 1 15 rfl ?_
 refine zio 4 0 15 19 (decide (5<s.under)) (fun j=>?_) ?_
 ·have o:=bV j
  refine cF 4 [0] 19 rfl ?_
  exact A2 (J0 2 15 _ j bX bU rfl rfl rfl rfl rfl)
 refine ie ?_
 refine zjb rfl hR ?_ ?_<;>clear hR<;>intro hR h
 ·have a:=bV h
  refine bS rfl (bP 1 2 rfl ?_)
  subst hR
  refine ie (A8 ?_)
  exact F7 hr hD
 refine A4 (nx (A3 (bS rfl (c9 8 0 [0,0,0] [(26,ag [iv s.fore.kind,iv s.fore.n,iv s.back.kind,iv s.back.n,iv s.line.kind,iv s.line.n]),(27,iv 0)] (ie (A9 (Y9 5 ?_)))))))
 refine E7 (bS rfl (bP 1 28 rfl ?_))
 refine ie (A3 (J4 rfl (A4 (nx (A3 (A9 (bS rfl (ix rfl (E8 (v:=ag [_,_]) Tryz.underlying256 B9a rfl rfl rfl 0 rfl ozw rfl rfl rfl) ?_))))))))
 refine zra 2 [0] (fun e=>[(4,pt e 0)]) (fun _=>(U2 s.fore)) 52 fun e=>?_
 refine ie (bS rfl (c9 1 2 [0] [(30,ag (U2 s.fore))] (zv rfl (A5v rfl) (bP 1 5 rfl (ie (bS rfl (bP 2 33 rfl (ie ?_))))))))
 refine zjn rfl hR ?_ ?_<;>clear hR<;>intro hR r l
 ·refine bS rfl (bP 2 2 rfl ?_)
  subst hR
  refine ie (A8 ?_)
  exact F7 hr hD
 refine A4 (nx (A1 2 rfl (ix rfl (B3 (c:=1) rfl rfl rfl rfl ozw) (bP 1 27 rfl (A2 (E7 (bS rfl (bP 1 28 rfl (ie (A3 (J4 rfl (A4 (nx (A3 (A9 (bS rfl (ix rfl (E8 (v:=ag [_,_]) Tryz.underlying256 B9a rfl rfl rfl 1 rfl ozw rfl rfl rfl) ?_)))))))))))))))))
 refine zra 2 [0] (fun b=>[(4,pt b 0)]) (fun _=>(U2 s.back)) 52 fun b=>?_
 refine ie (bS rfl (c9 1 2 [0] [(30,ag (U2 s.back))] (zv rfl (A5v rfl) (bP 1 5 rfl (ie (bS rfl (bP 2 33 rfl (ie ?_))))))))
 refine zjn rfl hR ?_ ?_<;>clear hR<;>intro hR q m
 ·refine bS rfl (bP 2 2 rfl ?_)
  subst hR
  refine ie (A8 ?_)
  exact F7 hr hD
 refine A4 (nx (A1 2 rfl (ix rfl (B3 (c:=2) rfl rfl rfl rfl ozw) (bP 1 27 rfl (A2 (E7 (bS rfl (bP 1 28 rfl (ie (A3 (J4 rfl (A4 (nx (A3 (A9 (bS rfl (ix rfl (E8 (v:=ag [_,_]) Tryz.underlying256 B9a rfl rfl rfl 2 rfl ozw rfl rfl rfl) ?_)))))))))))))))))
 refine zra 2 [0] (fun i=>[(4,pt i 0)]) (fun _=>(U2 s.line)) 52 fun i=>?_
 refine ie (bS rfl (c9 1 2 [0] [(30,ag (U2 s.line))] (zv rfl (A5v rfl) (bP 1 5 rfl (ie (bS rfl (bP 2 33 rfl (ie ?_))))))))
 refine zjn rfl hR ?_ ?_<;>clear hR<;>intro hR p g
 ·refine bS rfl (bP 2 2 rfl ?_)
  subst hR
  refine ie (A8 ?_)
  exact F7 hr hD
 refine A4 (nx (A1 2 rfl (ix rfl (B3 (c:=3) rfl rfl rfl rfl ozw) (bP 1 27 rfl (A2 (E7 (bS rfl (bP 1 28 rfl (ie (A3 (A4r rfl (F4 (nx (bS rfl (bP 1 2 rfl ?_)))))))))))))))
 subst hR
 refine ie (A8 ?_)
 exact F7 hr hD
theorem E0y:ApTy Tryz.prog 252 290 1 24:=⟨by kernel_rfl,by kernel_rfl,rfl⟩
theorem Q1:SlTy Tryz.prog 31 54 6:=⟨by kernel_rfl,by kernel_rfl⟩
theorem C2c:SlTy Tryz.prog 252 290 1:=⟨by kernel_rfl,by kernel_rfl⟩
theorem C8e:Ty Tryz.prog 54 6 true:=⟨by kernel_rfl⟩
theorem A2u:Ty Tryz.prog 290 1 true:=⟨by kernel_rfl⟩
theorem C6p:Ty Tryz.prog 325 3 true:=⟨by kernel_rfl⟩
theorem F5n:Ty Tryz.prog 326 24 true:=⟨by kernel_rfl⟩
def Q8 (l:List Int):List Int :=
 l
theorem O3 {l:List Int} {lq:Option Addr} {lk:Nat} {R:List Int} (hR:Q8 l=R) (b:l.length≤9223372036854775807:=by exact bW) (c:l.length≤lk:=by exact bW):Con Tryz.prog 231 [.slice lq l.length lk] [] [sl H5 lq l] ({t:Option Addr×Nat // R.length≤t.2∧R.length≤9223372036854775807}) (fun x=>ag [.slice x.1.1 R.length x.1.2]) (fun x=>[]) (fun x=>[sl H5 x.1.1 R]):=by
 refine cC Tryz.func231 fun X hX hr hD=>?_
 replace hR:=(Q8.eq_1 ..).symm.trans hR
 refine bS rfl (zra 1 [] (fun a=>[(2,pt a 0)]) (fun _=>[.slice none 0 0]) 290 fun a=>(ie (bS rfl (zru 3 [0] [] 0 (bx a [.slice lq l.length lk] 290) ?_))))
 subst hR
 refine ie (A8 ?_)
 exact cD hr hD (K7 rfl (F0 A2u rfl 0 rfl rfl rfl)) (zq _ _) bU cB
def C1t (a:Act):List Int :=
 (bif (decide (a.color.kind=0)) then (B6 (Q8 ([(IntKind.i64.wrap ((IntKind.i64.wrap ((38:Int)+(IntKind.i64.wrap ((10:Int) * (IntKind.i64.wrap (a.n - (4:Int)))))))+(1:Int)))]:List Int)) fun (b:List Int)=>b) else (bif (decide (a.color.kind=2)) then (B6 (Q8 ([(IntKind.i64.wrap ((38:Int)+(IntKind.i64.wrap ((10:Int) * (IntKind.i64.wrap (a.n - (4:Int))))))),2,(-1),(a.color.n / 65536),(bOp .and .i64 (a.color.n / 256) 255),(bOp .and .i64 a.color.n 255)]:List Int)) fun (d:List Int)=>d) else (bif ((decide (a.color.n<8))&&(!decide (a.n=6))) then (B6 (Q8 ([(IntKind.i64.wrap ((IntKind.i64.wrap ((IntKind.i64.wrap ((38:Int)+(IntKind.i64.wrap ((10:Int) * (IntKind.i64.wrap (a.n - (4:Int))))))) - (8:Int)))+a.color.n))]:List Int)) fun (e:List Int)=>e) else (bif ((decide (a.color.n<16))&&(!decide (a.n=6))) then (B6 (Q8 ([(IntKind.i64.wrap ((IntKind.i64.wrap ((IntKind.i64.wrap ((IntKind.i64.wrap ((38:Int)+(IntKind.i64.wrap ((10:Int) * (IntKind.i64.wrap (a.n - (4:Int)))))))+(52:Int)))+a.color.n)) - (8:Int)))]:List Int)) fun (f:List Int)=>f) else (B6 (Q8 ([(IntKind.i64.wrap ((38:Int)+(IntKind.i64.wrap ((10:Int) * (IntKind.i64.wrap (a.n - (4:Int))))))),5,a.color.n]:List Int)) fun (c:List Int)=>c)))))
theorem D7g {a:Act} {R:List Int} (hR:C1t a=R):Con Tryz.prog 232 [ag (A0 a)] [] [] ({t:Option Addr×Nat // R.length≤t.2∧R.length≤9223372036854775807}) (fun x=>ag [.slice x.1.1 R.length x.1.2]) (fun x=>[]) (fun x=>[sl H5 x.1.1 R]):=by
 refine cC Tryz.func232 fun X hX hr hD=>?_
 replace hR:=(C1t.eq_1 ..).symm.trans hR
 refine bS rfl (B6z 2 [] (fun b1 i=>[(1,pt _ 0),(2,pt i 0)]) (fun _ _=>(A0 a)) (fun _ _=>[.slice none 0 0]) 54 290 fun b1 i=>(ie (bS rfl (cF 2 [1] 6 rfl (ix rfl (J9.pure rfl) (ix rfl (J9.pure rfl) (ix rfl (J9.pure rfl) (bP 1 3 rfl (ie (bS rfl (cF 4 [1] 4 rfl ?_)))))))))))
 refine ie (A9 (bS rfl (cF 5 [1] 17 rfl (ie ?_))))
 refine zjd rfl hR ?_ ?_<;>clear hR<;>intro hR h3 aw
 ·refine bS rfl (bP 1 22 rfl (ix rfl (J9.pure rfl) (it rfl (B1 (c:=H5) (xs:=[(IntKind.i64.wrap ((IntKind.i64.wrap ((38:Int)+(IntKind.i64.wrap ((10:Int) * (IntKind.i64.wrap (a.n - (4:Int)))))))+(1:Int)))]) K2 rfl rfl rfl oki) fun b4=>?_)))
  have:([(IntKind.i64.wrap ((IntKind.i64.wrap ((38:Int)+(IntKind.i64.wrap ((10:Int) * (IntKind.i64.wrap (a.n - (4:Int)))))))+(1:Int)))]:List Int).length=1:=rfl
  have b:=C4 hR;clear hR;obtain ⟨y0,aa,hR⟩:=b
  refine zc rfl (O3 (l:=([(IntKind.i64.wrap ((IntKind.i64.wrap ((38:Int)+(IntKind.i64.wrap ((10:Int) * (IntKind.i64.wrap (a.n - (4:Int)))))))+(1:Int)))]:List Int)) (lq:=(some ⟨b4,0,none⟩)) (lk:=1) aa) fun ⟨⟨q5,k6⟩,a8⟩=>?_
  obtain ⟨az,ay⟩:=a8
  refine zru 1 [0] [] 0 (bx i [.slice q5 y0.length k6] 290) ?_
  subst hR
  refine ie (A8 ?_)
  exact cD hr hD (K7 rfl (F0 A2u rfl 0 rfl rfl rfl)) _ bU cB
 refine bS rfl (cF 5 [1] 26 rfl (ie ?_))
 refine zjd rfl hR ?_ ?_<;>clear hR<;>intro hR av ak
 ·refine bS rfl (cG 2 31 32 rfl ?_)
  refine ix rfl (A1s (c:=a.color.n / 65536) rfl rfl rfl ozw (by simp [Int.fdiv_eq_ediv_of_nonneg,IntKind.bits])) (bP 1 34 rfl ?_)
  refine ix rfl (A1s (c:=a.color.n / 256) rfl rfl rfl ozw (by simp [Int.fdiv_eq_ediv_of_nonneg,IntKind.bits])) (cG 3 36 38 rfl (it rfl (B1 (c:=H5) (xs:=[(IntKind.i64.wrap ((38:Int)+(IntKind.i64.wrap ((10:Int) * (IntKind.i64.wrap (a.n - (4:Int))))))),2,(-1),(a.color.n / 65536),(bOp .and .i64 (a.color.n / 256) 255),(bOp .and .i64 a.color.n 255)]) K2 rfl rfl rfl oki) fun y=>?_))
  have:([(IntKind.i64.wrap ((38:Int)+(IntKind.i64.wrap ((10:Int) * (IntKind.i64.wrap (a.n - (4:Int))))))),2,(-1),(a.color.n / 65536),(bOp .and .i64 (a.color.n / 256) 255),(bOp .and .i64 a.color.n 255)]:List Int).length=6:=rfl
  have b:=C4 hR;clear hR;obtain ⟨y1,a0,hR⟩:=b
  refine zc rfl (O3 (l:=([(IntKind.i64.wrap ((38:Int)+(IntKind.i64.wrap ((10:Int) * (IntKind.i64.wrap (a.n - (4:Int))))))),2,(-1),(a.color.n / 65536),(bOp .and .i64 (a.color.n / 256) 255),(bOp .and .i64 a.color.n 255)]:List Int)) (lq:=(some ⟨y,0,none⟩)) (lk:=6) a0) fun ⟨⟨h,m⟩,q⟩=>?_
  obtain ⟨ae,am⟩:=q
  refine zru 1 [0] [] 0 (bx i [.slice h y1.length m] 290) ?_
  subst hR
  refine ie (A8 ?_)
  exact cD hr hD (K7 rfl (F0 A2u rfl 0 rfl rfl rfl)) _ bU cB
 refine bS rfl (bP 3 44 rfl ?_)
 refine zid 4 1 44 48 (!decide (a.n=6)) (fun a7 ap=>?_) ?_
 ·refine cF 4 [1] 48 rfl ?_
  exact A2 (J0 2 44 _ a7 bX bU rfl rfl rfl rfl rfl)
 refine bP 1 41 rfl (ie ?_)
 refine zjb rfl hR ?_ ?_<;>clear hR<;>intro hR v
 ·have s:=bV v
  refine bS rfl (bP 1 49 rfl (ix rfl (J9.pure rfl) (bP 1 51 rfl (ix rfl (J9.pure rfl) (it rfl (B1 (c:=H5) (xs:=[(IntKind.i64.wrap ((IntKind.i64.wrap ((IntKind.i64.wrap ((38:Int)+(IntKind.i64.wrap ((10:Int) * (IntKind.i64.wrap (a.n - (4:Int))))))) - (8:Int)))+a.color.n))]) K2 rfl rfl rfl oki) fun a9=>?_)))))
  have:([(IntKind.i64.wrap ((IntKind.i64.wrap ((IntKind.i64.wrap ((38:Int)+(IntKind.i64.wrap ((10:Int) * (IntKind.i64.wrap (a.n - (4:Int))))))) - (8:Int)))+a.color.n))]:List Int).length=1:=rfl
  have b:=C4 hR;clear hR;obtain ⟨y4,a1,hR⟩:=b
  refine zc rfl (O3 (l:=([(IntKind.i64.wrap ((IntKind.i64.wrap ((IntKind.i64.wrap ((38:Int)+(IntKind.i64.wrap ((10:Int) * (IntKind.i64.wrap (a.n - (4:Int))))))) - (8:Int)))+a.color.n))]:List Int)) (lq:=(some ⟨a9,0,none⟩)) (lk:=1) a1) fun ⟨⟨f,j⟩,p⟩=>?_
  obtain ⟨af,ai⟩:=p
  refine zru 1 [0] [] 0 (bx i [.slice f y4.length j] 290) ?_
  subst hR
  refine ie (A8 ?_)
  exact cD hr hD (K7 rfl (F0 A2u rfl 0 rfl rfl rfl)) _ bU cB
 refine bS rfl (bP 3 58 rfl ?_)
 refine zid 4 1 58 62 (!decide (a.n=6)) (fun a6 ar=>?_) ?_
 ·refine cF 4 [1] 62 rfl ?_
  exact A2 (J0 2 58 _ a6 bX bU rfl rfl rfl rfl rfl)
 refine bP 1 55 rfl (ie ?_)
 refine zjb rfl hR ?_ ?_<;>clear hR<;>intro hR u
 ·have w:=bV u
  refine bS rfl (bP 1 63 rfl (ix rfl (J9.pure rfl) (bP 1 65 rfl (ix rfl (J9.pure rfl) (ix rfl (J9.pure rfl) (it rfl (B1 (c:=H5) (xs:=[(IntKind.i64.wrap ((IntKind.i64.wrap ((IntKind.i64.wrap ((IntKind.i64.wrap ((38:Int)+(IntKind.i64.wrap ((10:Int) * (IntKind.i64.wrap (a.n - (4:Int)))))))+(52:Int)))+a.color.n)) - (8:Int)))]) K2 rfl rfl rfl oki) fun a3=>?_))))))
  have:([(IntKind.i64.wrap ((IntKind.i64.wrap ((IntKind.i64.wrap ((IntKind.i64.wrap ((38:Int)+(IntKind.i64.wrap ((10:Int) * (IntKind.i64.wrap (a.n - (4:Int)))))))+(52:Int)))+a.color.n)) - (8:Int)))]:List Int).length=1:=rfl
  have b:=C4 hR;clear hR;obtain ⟨y5,a5,hR⟩:=b
  refine zc rfl (O3 (l:=([(IntKind.i64.wrap ((IntKind.i64.wrap ((IntKind.i64.wrap ((IntKind.i64.wrap ((38:Int)+(IntKind.i64.wrap ((10:Int) * (IntKind.i64.wrap (a.n - (4:Int)))))))+(52:Int)))+a.color.n)) - (8:Int)))]:List Int)) (lq:=(some ⟨a3,0,none⟩)) (lk:=1) a5) fun ⟨⟨k,d⟩,r⟩=>?_
  obtain ⟨aq,ac⟩:=r
  refine zru 1 [0] [] 0 (bx i [.slice k y5.length d] 290) ?_
  subst hR
  refine ie (A8 ?_)
  exact cD hr hD (K7 rfl (F0 A2u rfl 0 rfl rfl rfl)) _ bU cB
 refine bS rfl (cG 2 13 14 rfl (it rfl (B1 (c:=H5) (xs:=[(IntKind.i64.wrap ((38:Int)+(IntKind.i64.wrap ((10:Int) * (IntKind.i64.wrap (a.n - (4:Int))))))),5,a.color.n]) K2 rfl rfl rfl oki) fun z=>?_))
 have:([(IntKind.i64.wrap ((38:Int)+(IntKind.i64.wrap ((10:Int) * (IntKind.i64.wrap (a.n - (4:Int))))))),5,a.color.n]:List Int).length=3:=rfl
 have b:=C4 hR;clear hR;obtain ⟨y3,a2,hR⟩:=b
 refine zc rfl (O3 (l:=([(IntKind.i64.wrap ((38:Int)+(IntKind.i64.wrap ((10:Int) * (IntKind.i64.wrap (a.n - (4:Int))))))),5,a.color.n]:List Int)) (lq:=(some ⟨z,0,none⟩)) (lk:=3) a2) fun ⟨⟨e,g⟩,o⟩=>?_
 obtain ⟨aj,au⟩:=o
 refine zru 1 [0] [] 0 (bx i [.slice e y3.length g] 290) ?_
 subst hR
 refine ie (A8 ?_)
 exact cD hr hD (K7 rfl (F0 A2u rfl 0 rfl rfl rfl)) _ bU cB
def C9v (a:Act):List Int :=
 (bif (decide (a.n=0)) then (B6 (Q8 ([0]:List Int)) fun (u:List Int)=>u) else (bif ((decide (a.n=3))&&(decide (a.m=0))) then (B6 (Q8 ([24]:List Int)) fun (s:List Int)=>s) else (bif ((decide (a.n=3))&&(decide (a.m=1))) then (B6 (Q8 ([4]:List Int)) fun (t:List Int)=>t) else (bif (decide (a.n=3)) then (B6 (Q8 ([4,a.m]:List Int)) fun (x:List Int)=>x) else (bif (decide ((4:Int)≤a.n)) then (B6 (C1t a) fun (e:List Int)=>e) else (bif (decide ((bOp .and .i64 1 a.m)=0)) then (bif (decide ((bOp .and .i64 2 a.m)=0)) then (bif (decide ((bOp .and .i64 4 a.m)=0)) then (bif (decide ((bOp .and .i64 8 a.m)=0)) then (bif (decide ((bOp .and .i64 16 a.m)=0)) then (bif (decide ((bOp .and .i64 32 a.m)=0)) then (bif (decide ((bOp .and .i64 64 a.m)=0)) then (bif (decide ((bOp .and .i64 128 a.m)=0)) then ([]:List Int) else (bif (decide (a.n=1)) then (B6 (Q8 ([53]:List Int)) fun (v:List Int)=>v) else (B6 (Q8 ([55]:List Int)) fun (r:List Int)=>r))) else (bif (decide (a.n=1)) then (B6 (Q8 ([9]:List Int)) fun (j:List Int)=>j) else (B6 (Q8 ([29]:List Int)) fun (d:List Int)=>d))) else (bif (decide (a.n=1)) then (B6 (Q8 ([8]:List Int)) fun (f:List Int)=>f) else (B6 (Q8 ([28]:List Int)) fun (p:List Int)=>p))) else (bif (decide (a.n=1)) then (B6 (Q8 ([7]:List Int)) fun (k:List Int)=>k) else (B6 (Q8 ([27]:List Int)) fun (b:List Int)=>b))) else (bif (decide (a.n=1)) then (B6 (Q8 ([5]:List Int)) fun (h:List Int)=>h) else (B6 (Q8 ([25]:List Int)) fun (c:List Int)=>c))) else (bif (decide (a.n=1)) then (B6 (Q8 ([3]:List Int)) fun (l:List Int)=>l) else (B6 (Q8 ([23]:List Int)) fun (q:List Int)=>q))) else (bif (decide (a.n=1)) then (B6 (Q8 ([2]:List Int)) fun (g:List Int)=>g) else (B6 (Q8 ([22]:List Int)) fun (o:List Int)=>o))) else (bif (decide (a.n=1)) then (B6 (Q8 ([1]:List Int)) fun (i:List Int)=>i) else (B6 (Q8 ([22]:List Int)) fun (w:List Int)=>w))))))))
theorem E0w {a:Act} {R:List Int} (hR:C9v a=R):Con Tryz.prog 200 [ag (A0 a)] [] [M2] ({t:Option Addr×Nat // R.length≤t.2∧R.length≤9223372036854775807}) (fun x=>ag [.slice x.1.1 R.length x.1.2]) (fun x=>[]) (fun x=>[sl H5 x.1.1 R]):=by
 refine cC Tryz.func200 fun X hX hr hD=>?_
 replace hR:=(C9v.eq_1 ..).symm.trans hR
 refine bS rfl (B6z 2 [] (fun b1 d=>[(1,pt _ 0),(2,pt d 0)]) (fun _ _=>(A0 a)) (fun _ _=>[.slice none 0 0]) 54 290 fun b1 d=>(ie (A3 (A9 (bS rfl (cF 4 [1] 5 rfl (ie ?_)))))))
 refine zjd rfl hR ?_ ?_<;>clear hR<;>intro hR h3 fv
 ·refine bS rfl (it rfl (B1 (c:=H5) (xs:=[0]) K2 rfl rfl rfl oki) fun b4=>?_)
  have:([0]:List Int).length=1:=rfl
  have b:=C4 hR;clear hR;obtain ⟨y0,ds,hR⟩:=b
  refine zc rfl (O3 (l:=([0]:List Int)) (lq:=(some ⟨b4,0,none⟩)) (lk:=1) ds) fun ⟨⟨q5,k6⟩,d8⟩=>?_
  obtain ⟨fs,g3⟩:=d8
  refine zru 1 [0] [] 0 (bx d [.slice q5 y0.length k6] 290) ?_
  subst hR
  refine ie (A8 ?_)
  exact cD hr hD (K7 rfl (F0 A2u rfl 0 rfl rfl rfl)) _ bU cB
 refine bS rfl (cF 4 [1] 15 rfl ?_)
 refine zid 4 1 15 19 (decide (a.m=0)) (fun dc fa=>?_) ?_
 ·refine cF 4 [1] 19 rfl ?_
  exact zai 2 15 _ dc
 refine bP 1 11 rfl (ie ?_)
 refine zja rfl hR ?_ ?_<;>clear hR<;>intro hR g0 e6
 ·refine bS rfl (it rfl (B1 (c:=H5) (xs:=[24]) K2 rfl rfl rfl oki) fun e2=>?_)
  have:([24]:List Int).length=1:=rfl
  have b:=C4 hR;clear hR;obtain ⟨y1,cs,hR⟩:=b
  refine zc rfl (O3 (l:=([24]:List Int)) (lq:=(some ⟨e2,0,none⟩)) (lk:=1) cs) fun ⟨⟨al,ab⟩,b5⟩=>?_
  obtain ⟨eh,ex⟩:=b5
  refine zru 1 [0] [] 0 (bx d [.slice al y1.length ab] 290) ?_
  subst hR
  refine ie (A8 ?_)
  exact cD hr hD (K7 rfl (F0 A2u rfl 0 rfl rfl rfl)) _ bU cB
 refine bS rfl (cF 4 [1] 26 rfl ?_)
 refine zid 4 1 26 30 (decide (a.m=1)) (fun cv fg=>?_) ?_
 ·refine cF 4 [1] 30 rfl ?_
  exact zai 2 26 _ cv
 refine bP 1 22 rfl (ie ?_)
 refine zja rfl hR ?_ ?_<;>clear hR<;>intro hR fu f5
 ·refine bS rfl (it rfl (B1 (c:=H5) (xs:=[4]) K2 rfl rfl rfl oki) fun dm=>?_)
  have:([4]:List Int).length=1:=rfl
  have b:=C4 hR;clear hR;obtain ⟨y4,cu,hR⟩:=b
  refine zc rfl (O3 (l:=([4]:List Int)) (lq:=(some ⟨dm,0,none⟩)) (lk:=1) cu) fun ⟨⟨a6,a4⟩,ch⟩=>?_
  obtain ⟨ea,ee⟩:=ch
  refine zru 1 [0] [] 0 (bx d [.slice a6 y4.length a4] 290) ?_
  subst hR
  refine ie (A8 ?_)
  exact cD hr hD (K7 rfl (F0 A2u rfl 0 rfl rfl rfl)) _ bU cB
 refine bS rfl (cF 4 [1] 33 rfl (ie ?_))
 refine zjd rfl hR ?_ ?_<;>clear hR<;>intro hR ft et
 ·refine bS rfl (cF 2 [1] 38 rfl (it rfl (B1 (c:=H5) (xs:=[4,a.m]) K2 rfl rfl rfl oki) fun d6=>?_))
  have:([4,a.m]:List Int).length=2:=rfl
  have b:=C4 hR;clear hR;obtain ⟨y5,cw,hR⟩:=b
  refine zc rfl (O3 (l:=([4,a.m]:List Int)) (lq:=(some ⟨d6,0,none⟩)) (lk:=2) cw) fun ⟨⟨a7,a2⟩,bd⟩=>?_
  obtain ⟨fj,f7⟩:=bd
  refine zru 1 [0] [] 0 (bx d [.slice a7 y5.length a2] 290) ?_
  subst hR
  refine ie (A8 ?_)
  exact cD hr hD (K7 rfl (F0 A2u rfl 0 rfl rfl rfl)) _ bU cB
 refine bS rfl (cF 4 [1] 41 rfl (ie ?_))
 refine zjd rfl hR ?_ ?_<;>clear hR<;>intro hR fw en
 ·refine bS rfl (c9 1 2 [1] [(45,ag (A0 a))] ?_)
  have b:=C4 hR;clear hR;obtain ⟨cm,bp,hR⟩:=b
  refine zc rfl (D7g bp) fun ⟨⟨ak,av⟩,az⟩=>?_
  obtain ⟨ep,f4⟩:=az
  refine zru 1 [0] [] 0 (bx d [.slice ak cm.length av] 290) ?_
  subst hR
  refine ie (A8 ?_)
  exact cD hr hD (K7 rfl (F0 A2u rfl 0 rfl rfl rfl)) _ bU cB
 refine A4 (nx (A3 (bS rfl (ix rfl (K3 (us:=[iv 1,iv 1,iv 22,iv 2,iv 2,iv 22,iv 4,iv 3,iv 23,iv 8,iv 5,iv 25,iv 16,iv 7,iv 27,iv 32,iv 8,iv 28,iv 64,iv 9,iv 29,iv 128,iv 53,iv 55]) F5n rfl rfl (F3k 0 rfl oki) rfl) (bP 1 48 rfl (ie (A9 (Y9 10 ?_))))))))
 refine E7 (bS rfl (bP 1 49 rfl ?_))
 refine ie (A3 (J4 rfl (A4 (nx (A3 (A9 (bS rfl (ix rfl (E8 (v:=ag [_,_,_]) Tryz.underlying326 C6p rfl rfl rfl 0 rfl ozw rfl rfl rfl) ?_))))))))
 refine zra 2 [0] (fun bq=>[(4,pt bq 0)]) (fun _=>(C2g ⟨1,1,22⟩)) 325 fun bq=>?_
 refine ie (A9 (bS rfl (cF 7 [0,2] 55 rfl (ie ?_))))
 refine zjd rfl hR ?_ ?_<;>clear hR<;>intro hR fz e8
 ·refine A4 (nx (A1 2 rfl (ix rfl (B3 (c:=1) rfl rfl rfl rfl ozw) (bP 1 48 rfl (A2 (E7 (bS rfl (bP 1 49 rfl (ie (A3 (J4 rfl (A4 (nx (A3 (A9 (bS rfl (ix rfl (E8 (v:=ag [_,_,_]) Tryz.underlying326 C6p rfl rfl rfl 1 rfl ozw rfl rfl rfl) ?_)))))))))))))))))
  refine zra 2 [0] (fun c1=>[(4,pt c1 0)]) (fun _=>(C2g ⟨2,2,22⟩)) 325 fun c1=>?_
  refine ie (A9 (bS rfl (cF 7 [0,3] 55 rfl (ie ?_))))
  refine zjd rfl hR ?_ ?_<;>clear hR<;>intro hR g1 ey
  ·refine A4 (nx (A1 2 rfl (ix rfl (B3 (c:=2) rfl rfl rfl rfl ozw) (bP 1 48 rfl (A2 (E7 (bS rfl (bP 1 49 rfl (ie (A3 (J4 rfl (A4 (nx (A3 (A9 (bS rfl (ix rfl (E8 (v:=ag [_,_,_]) Tryz.underlying326 C6p rfl rfl rfl 2 rfl ozw rfl rfl rfl) ?_)))))))))))))))))
   refine zra 2 [0] (fun ce=>[(4,pt ce 0)]) (fun _=>(C2g ⟨4,3,23⟩)) 325 fun ce=>?_
   refine ie (A9 (bS rfl (cF 7 [0,4] 55 rfl (ie ?_))))
   refine zjd rfl hR ?_ ?_<;>clear hR<;>intro hR fo e9
   ·refine A4 (nx (A1 2 rfl (ix rfl (B3 (c:=3) rfl rfl rfl rfl ozw) (bP 1 48 rfl (A2 (E7 (bS rfl (bP 1 49 rfl (ie (A3 (J4 rfl (A4 (nx (A3 (A9 (bS rfl (ix rfl (E8 (v:=ag [_,_,_]) Tryz.underlying326 C6p rfl rfl rfl 3 rfl ozw rfl rfl rfl) ?_)))))))))))))))))
    refine zra 2 [0] (fun bh=>[(4,pt bh 0)]) (fun _=>(C2g ⟨8,5,25⟩)) 325 fun bh=>?_
    refine ie (A9 (bS rfl (cF 7 [0,5] 55 rfl (ie ?_))))
    refine zjd rfl hR ?_ ?_<;>clear hR<;>intro hR fr ed
    ·refine A4 (nx (A1 2 rfl (ix rfl (B3 (c:=4) rfl rfl rfl rfl ozw) (bP 1 48 rfl (A2 (E7 (bS rfl (bP 1 49 rfl (ie (A3 (J4 rfl (A4 (nx (A3 (A9 (bS rfl (ix rfl (E8 (v:=ag [_,_,_]) Tryz.underlying326 C6p rfl rfl rfl 4 rfl ozw rfl rfl rfl) ?_)))))))))))))))))
     refine zra 2 [0] (fun bn=>[(4,pt bn 0)]) (fun _=>(C2g ⟨16,7,27⟩)) 325 fun bn=>?_
     refine ie (A9 (bS rfl (cF 7 [0,6] 55 rfl (ie ?_))))
     refine zjd rfl hR ?_ ?_<;>clear hR<;>intro hR fy f3
     ·refine A4 (nx (A1 2 rfl (ix rfl (B3 (c:=5) rfl rfl rfl rfl ozw) (bP 1 48 rfl (A2 (E7 (bS rfl (bP 1 49 rfl (ie (A3 (J4 rfl (A4 (nx (A3 (A9 (bS rfl (ix rfl (E8 (v:=ag [_,_,_]) Tryz.underlying326 C6p rfl rfl rfl 5 rfl ozw rfl rfl rfl) ?_)))))))))))))))))
      refine zra 2 [0] (fun cb=>[(4,pt cb 0)]) (fun _=>(C2g ⟨32,8,28⟩)) 325 fun cb=>?_
      refine ie (A9 (bS rfl (cF 7 [0,7] 55 rfl (ie ?_))))
      refine zjd rfl hR ?_ ?_<;>clear hR<;>intro hR g4 eg
      ·refine A4 (nx (A1 2 rfl (ix rfl (B3 (c:=6) rfl rfl rfl rfl ozw) (bP 1 48 rfl (A2 (E7 (bS rfl (bP 1 49 rfl (ie (A3 (J4 rfl (A4 (nx (A3 (A9 (bS rfl (ix rfl (E8 (v:=ag [_,_,_]) Tryz.underlying326 C6p rfl rfl rfl 6 rfl ozw rfl rfl rfl) ?_)))))))))))))))))
       refine zra 2 [0] (fun bg=>[(4,pt bg 0)]) (fun _=>(C2g ⟨64,9,29⟩)) 325 fun bg=>?_
       refine ie (A9 (bS rfl (cF 7 [0,8] 55 rfl (ie ?_))))
       refine zjd rfl hR ?_ ?_<;>clear hR<;>intro hR fx e7
       ·refine A4 (nx (A1 2 rfl (ix rfl (B3 (c:=7) rfl rfl rfl rfl ozw) (bP 1 48 rfl (A2 (E7 (bS rfl (bP 1 49 rfl (ie (A3 (J4 rfl (A4 (nx (A3 (A9 (bS rfl (ix rfl (E8 (v:=ag [_,_,_]) Tryz.underlying326 C6p rfl rfl rfl 7 rfl ozw rfl rfl rfl) ?_)))))))))))))))))
        refine zra 2 [0] (fun cl=>[(4,pt cl 0)]) (fun _=>(C2g ⟨128,53,55⟩)) 325 fun cl=>?_
        refine ie (A9 (bS rfl (cF 7 [0,9] 55 rfl (ie ?_))))
        refine zjd rfl hR ?_ ?_<;>clear hR<;>intro hR fp ff
        ·refine A4 (nx (A1 2 rfl (ix rfl (B3 (c:=8) rfl rfl rfl rfl ozw) (bP 1 48 rfl (A2 (E7 (bS rfl (bP 1 49 rfl (ie (A3 (A4r rfl (F4 (nx (bS rfl (zru 2 [8] [] 8 (bx d [.slice none 0 0] 290) ?_)))))))))))))))
         subst hR
         refine ie (A8 ?_)
         exact cD hr hD (K7 rfl (F0 A2u rfl 8 rfl rfl rfl)) (zq _ 0) bU cB
        refine bS rfl (cF 4 [9] 62 rfl (ie ?_))
        refine zjd rfl hR ?_ ?_<;>clear hR<;>intro hR fq ei
        ·refine bS rfl (cF 2 [0] 67 rfl (it rfl (B1 (c:=H5) (xs:=[53]) K2 rfl rfl rfl oki) fun dn=>?_))
         have:([53]:List Int).length=1:=rfl
         have b:=C4 hR;clear hR;obtain ⟨y3,dv,hR⟩:=b
         refine zc rfl (O3 (l:=([53]:List Int)) (lq:=(some ⟨dn,0,none⟩)) (lk:=1) dv) fun ⟨⟨a9,a3⟩,be⟩=>?_
         obtain ⟨ef,er⟩:=be
         refine zru 1 [8] [] 8 (bx d [.slice a9 y3.length a3] 290) ?_
         subst hR
         refine ie (A8 ?_)
         exact cD hr hD (K7 rfl (F0 A2u rfl 8 rfl rfl rfl)) _ bU cB
        refine bS rfl (cF 2 [0] 52 rfl (it rfl (B1 (c:=H5) (xs:=[55]) K2 rfl rfl rfl oki) fun d0=>?_))
        have:([55]:List Int).length=1:=rfl
        have b:=C4 hR;clear hR;obtain ⟨y9,dx,hR⟩:=b
        refine zc rfl (O3 (l:=([55]:List Int)) (lq:=(some ⟨d0,0,none⟩)) (lk:=1) dx) fun ⟨⟨aa,a5⟩,bw⟩=>?_
        obtain ⟨f9,ej⟩:=bw
        refine zru 1 [8] [] 8 (bx d [.slice aa y9.length a5] 290) ?_
        subst hR
        refine ie (A8 ?_)
        exact cD hr hD (K7 rfl (F0 A2u rfl 8 rfl rfl rfl)) _ bU cB
       refine bS rfl (cF 4 [8] 62 rfl (ie ?_))
       refine zjd rfl hR ?_ ?_<;>clear hR<;>intro hR fn em
       ·refine bS rfl (cF 2 [0] 67 rfl (it rfl (B1 (c:=H5) (xs:=[9]) K2 rfl rfl rfl oki) fun d1=>?_))
        have:([9]:List Int).length=1:=rfl
        have b:=C4 hR;clear hR;obtain ⟨c7,ba,hR⟩:=b
        refine zc rfl (O3 (l:=([9]:List Int)) (lq:=(some ⟨d1,0,none⟩)) (lk:=1) ba) fun ⟨⟨ac,ay⟩,bo⟩=>?_
        obtain ⟨eo,fl⟩:=bo
        refine zru 1 [7] [] 7 (bx d [.slice ac c7.length ay] 290) ?_
        subst hR
        refine ie (A8 ?_)
        exact cD hr hD (K7 rfl (F0 A2u rfl 7 rfl rfl rfl)) _ bU cB
       refine bS rfl (cF 2 [0] 52 rfl (it rfl (B1 (c:=H5) (xs:=[29]) K2 rfl rfl rfl oki) fun ct=>?_))
       have:([29]:List Int).length=1:=rfl
       have b:=C4 hR;clear hR;obtain ⟨bz,c4,hR⟩:=b
       refine zc rfl (O3 (l:=([29]:List Int)) (lq:=(some ⟨ct,0,none⟩)) (lk:=1) c4) fun ⟨⟨ap,am⟩,co⟩=>?_
       obtain ⟨fb,f8⟩:=co
       refine zru 1 [7] [] 7 (bx d [.slice ap bz.length am] 290) ?_
       subst hR
       refine ie (A8 ?_)
       exact cD hr hD (K7 rfl (F0 A2u rfl 7 rfl rfl rfl)) _ bU cB
      refine bS rfl (cF 4 [7] 62 rfl (ie ?_))
      refine zjd rfl hR ?_ ?_<;>clear hR<;>intro hR g5 e5
      ·refine bS rfl (cF 2 [0] 67 rfl (it rfl (B1 (c:=H5) (xs:=[8]) K2 rfl rfl rfl oki) fun d2=>?_))
       have:([8]:List Int).length=1:=rfl
       have b:=C4 hR;clear hR;obtain ⟨bi,bc,hR⟩:=b
       refine zc rfl (O3 (l:=([8]:List Int)) (lq:=(some ⟨d2,0,none⟩)) (lk:=1) bc) fun ⟨⟨ar,aq⟩,bm⟩=>?_
       obtain ⟨e4,ez⟩:=bm
       refine zru 1 [6] [] 6 (bx d [.slice ar bi.length aq] 290) ?_
       subst hR
       refine ie (A8 ?_)
       exact cD hr hD (K7 rfl (F0 A2u rfl 6 rfl rfl rfl)) _ bU cB
      refine bS rfl (cF 2 [0] 52 rfl (it rfl (B1 (c:=H5) (xs:=[28]) K2 rfl rfl rfl oki) fun df=>?_))
      have:([28]:List Int).length=1:=rfl
      have b:=C4 hR;clear hR;obtain ⟨y6,cy,hR⟩:=b
      refine zc rfl (O3 (l:=([28]:List Int)) (lq:=(some ⟨df,0,none⟩)) (lk:=1) cy) fun ⟨⟨ah,ae⟩,b0⟩=>?_
      obtain ⟨fi,eu⟩:=b0
      refine zru 1 [6] [] 6 (bx d [.slice ah y6.length ae] 290) ?_
      subst hR
      refine ie (A8 ?_)
      exact cD hr hD (K7 rfl (F0 A2u rfl 6 rfl rfl rfl)) _ bU cB
     refine bS rfl (cF 4 [6] 62 rfl (ie ?_))
     refine zjd rfl hR ?_ ?_<;>clear hR<;>intro hR fm f6
     ·refine bS rfl (cF 2 [0] 67 rfl (it rfl (B1 (c:=H5) (xs:=[7]) K2 rfl rfl rfl oki) fun cp=>?_))
      have:([7]:List Int).length=1:=rfl
      have b:=C4 hR;clear hR;obtain ⟨br,cc,hR⟩:=b
      refine zc rfl (O3 (l:=([7]:List Int)) (lq:=(some ⟨cp,0,none⟩)) (lk:=1) cc) fun ⟨⟨a8,af⟩,c3⟩=>?_
      obtain ⟨f2,db⟩:=c3
      refine zru 1 [5] [] 5 (bx d [.slice a8 br.length af] 290) ?_
      subst hR
      refine ie (A8 ?_)
      exact cD hr hD (K7 rfl (F0 A2u rfl 5 rfl rfl rfl)) _ bU cB
     refine bS rfl (cF 2 [0] 52 rfl (it rfl (B1 (c:=H5) (xs:=[27]) K2 rfl rfl rfl oki) fun bj=>?_))
     have:([27]:List Int).length=1:=rfl
     have b:=C4 hR;clear hR;obtain ⟨c8,b9,hR⟩:=b
     refine zc rfl (O3 (l:=([27]:List Int)) (lq:=(some ⟨bj,0,none⟩)) (lk:=1) b9) fun ⟨⟨y,z⟩,aj⟩=>?_
     obtain ⟨da,dy⟩:=aj
     refine zru 1 [5] [] 5 (bx d [.slice y c8.length z] 290) ?_
     subst hR
     refine ie (A8 ?_)
     exact cD hr hD (K7 rfl (F0 A2u rfl 5 rfl rfl rfl)) _ bU cB
    refine bS rfl (cF 4 [5] 62 rfl (ie ?_))
    refine zjd rfl hR ?_ ?_<;>clear hR<;>intro hR fd di
    ·refine bS rfl (cF 2 [0] 67 rfl (it rfl (B1 (c:=H5) (xs:=[5]) K2 rfl rfl rfl oki) fun cf=>?_))
     have:([5]:List Int).length=1:=rfl
     have b:=C4 hR;clear hR;obtain ⟨cj,b6,hR⟩:=b
     refine zc rfl (O3 (l:=([5]:List Int)) (lq:=(some ⟨cf,0,none⟩)) (lk:=1) b6) fun ⟨⟨j,e⟩,a1⟩=>?_
     obtain ⟨dj,e1⟩:=a1
     refine zru 1 [4] [] 4 (bx d [.slice j cj.length e] 290) ?_
     subst hR
     refine ie (A8 ?_)
     exact cD hr hD (K7 rfl (F0 A2u rfl 4 rfl rfl rfl)) _ bU cB
    refine bS rfl (cF 2 [0] 52 rfl (it rfl (B1 (c:=H5) (xs:=[25]) K2 rfl rfl rfl oki) fun c2=>?_))
    have:([25]:List Int).length=1:=rfl
    have b:=C4 hR;clear hR;obtain ⟨b3,cg,hR⟩:=b
    refine zc rfl (O3 (l:=([25]:List Int)) (lq:=(some ⟨c2,0,none⟩)) (lk:=1) cg) fun ⟨⟨k,o⟩,ai⟩=>?_
    obtain ⟨e0,dz⟩:=ai
    refine zru 1 [4] [] 4 (bx d [.slice k b3.length o] 290) ?_
    subst hR
    refine ie (A8 ?_)
    exact cD hr hD (K7 rfl (F0 A2u rfl 4 rfl rfl rfl)) _ bU cB
   refine bS rfl (cF 4 [4] 62 rfl (ie ?_))
   refine zjd rfl hR ?_ ?_<;>clear hR<;>intro hR eq dh
   ·refine bS rfl (cF 2 [0] 67 rfl (it rfl (B1 (c:=H5) (xs:=[3]) K2 rfl rfl rfl oki) fun bb=>?_))
    have:([3]:List Int).length=1:=rfl
    have b:=C4 hR;clear hR;obtain ⟨bl,cd,hR⟩:=b
    refine zc rfl (O3 (l:=([3]:List Int)) (lq:=(some ⟨bb,0,none⟩)) (lk:=1) cd) fun ⟨⟨q,f⟩,an⟩=>?_
    obtain ⟨e3,d9⟩:=an
    refine zru 1 [3] [] 3 (bx d [.slice q bl.length f] 290) ?_
    subst hR
    refine ie (A8 ?_)
    exact cD hr hD (K7 rfl (F0 A2u rfl 3 rfl rfl rfl)) _ bU cB
   refine bS rfl (cF 2 [0] 52 rfl (it rfl (B1 (c:=H5) (xs:=[23]) K2 rfl rfl rfl oki) fun bk=>?_))
   have:([23]:List Int).length=1:=rfl
   have b:=C4 hR;clear hR;obtain ⟨y7,cq,hR⟩:=b
   refine zc rfl (O3 (l:=([23]:List Int)) (lq:=(some ⟨bk,0,none⟩)) (lk:=1) cq) fun ⟨⟨i,s⟩,ad⟩=>?_
   obtain ⟨dg,d4⟩:=ad
   refine zru 1 [3] [] 3 (bx d [.slice i y7.length s] 290) ?_
   subst hR
   refine ie (A8 ?_)
   exact cD hr hD (K7 rfl (F0 A2u rfl 3 rfl rfl rfl)) _ bU cB
  refine bS rfl (cF 4 [3] 62 rfl (ie ?_))
  refine zjd rfl hR ?_ ?_<;>clear hR<;>intro hR es d3
  ·refine bS rfl (cF 2 [0] 67 rfl (it rfl (B1 (c:=H5) (xs:=[2]) K2 rfl rfl rfl oki) fun b8=>?_))
   have:([2]:List Int).length=1:=rfl
   have b:=C4 hR;clear hR;obtain ⟨ci,c5,hR⟩:=b
   refine zc rfl (O3 (l:=([2]:List Int)) (lq:=(some ⟨b8,0,none⟩)) (lk:=1) c5) fun ⟨⟨w,p⟩,aw⟩=>?_
   obtain ⟨d7,cr⟩:=aw
   refine zru 1 [2] [] 2 (bx d [.slice w ci.length p] 290) ?_
   subst hR
   refine ie (A8 ?_)
   exact cD hr hD (K7 rfl (F0 A2u rfl 2 rfl rfl rfl)) _ bU cB
  refine bS rfl (cF 2 [0] 52 rfl (it rfl (B1 (c:=H5) (xs:=[22]) K2 rfl rfl rfl oki) fun b7=>?_))
  have:([22]:List Int).length=1:=rfl
  have b:=C4 hR;clear hR;obtain ⟨ck,cn,hR⟩:=b
  refine zc rfl (O3 (l:=([22]:List Int)) (lq:=(some ⟨b7,0,none⟩)) (lk:=1) cn) fun ⟨⟨n,h⟩,au⟩=>?_
  obtain ⟨cz,dw⟩:=au
  refine zru 1 [2] [] 2 (bx d [.slice n ck.length h] 290) ?_
  subst hR
  refine ie (A8 ?_)
  exact cD hr hD (K7 rfl (F0 A2u rfl 2 rfl rfl rfl)) _ bU cB
 refine bS rfl (cF 4 [2] 62 rfl (ie ?_))
 refine zjd rfl hR ?_ ?_<;>clear hR<;>intro hR fk dq
 ·refine bS rfl (cF 2 [0] 67 rfl (it rfl (B1 (c:=H5) (xs:=[1]) K2 rfl rfl rfl oki) fun ca=>?_))
  have:([1]:List Int).length=1:=rfl
  have b:=C4 hR;clear hR;obtain ⟨c6,bu,hR⟩:=b
  refine zc rfl (O3 (l:=([1]:List Int)) (lq:=(some ⟨ca,0,none⟩)) (lk:=1) bu) fun ⟨⟨g,u⟩,ax⟩=>?_
  obtain ⟨d5,dt⟩:=ax
  refine zru 1 [1] [] 1 (bx d [.slice g c6.length u] 290) ?_
  subst hR
  refine ie (A8 ?_)
  exact cD hr hD (K7 rfl (F0 A2u rfl 1 rfl rfl rfl)) _ bU cB
 refine bS rfl (cF 2 [0] 52 rfl (it rfl (B1 (c:=H5) (xs:=[22]) K2 rfl rfl rfl oki) fun c0=>?_))
 have:([22]:List Int).length=1:=rfl
 have b:=C4 hR;clear hR;obtain ⟨y8,du,hR⟩:=b
 refine zc rfl (O3 (l:=([22]:List Int)) (lq:=(some ⟨c0,0,none⟩)) (lk:=1) du) fun ⟨⟨r,a0⟩,ao⟩=>?_
 obtain ⟨dr,dk⟩:=ao
 refine zru 1 [1] [] 1 (bx d [.slice r y8.length a0] 290) ?_
 subst hR
 refine ie (A8 ?_)
 exact cD hr hD (K7 rfl (F0 A2u rfl 1 rfl rfl rfl)) _ bU cB
def A7u:List Act→List (List Int)→Nat→(List (List Int)×Int)
 | [],out,t26=>(out,0)
 | hd_l1::tl_l1,out,t26=>(B6 (C9v hd_l1) fun (a:List Int)=>A7u tl_l1 (out++([a]:List (List Int))) (t26+1))
def A8b (l:List Act):List Act→Nat→(List (List Int)×Int)
 | [],t11=>(bif (decide ((16:Int)<(l.length:Int))) then (([]:List (List Int)),3) else A7u l ([]:List (List Int)) 0)
 | hd_l0::tl_l0,t11=>(bif (!decide ((A6w hd_l0)=0)) then (([]:List (List Int)),(A6w hd_l0)) else A8b l tl_l0 (t11+1))
def B7j (l:List Act):List (List Int)×Int :=
 A8b l l 0
theorem ooy {p:Prop} (h:p:=by first|rfl|(simp only [List.length_take,List.length_drop];omega)):p:=h
theorem ovb {p:Prop} (h:p:=by first|omega|(simp only [List.length_take,List.length_drop,List.length_append,List.length_cons,List.length_nil,List.length_set,List.length_map,Q8];omega)|decide):p:=h
theorem obp {p:Prop} (h:p:=by first|omega|(simp only [List.length_cons,List.length_nil,List.length_append,List.length_take,List.length_drop,Q8];omega)):p:=h
theorem ozq {p:Prop} (h:p:=by first|omega|(simp only [List.length_append,List.length_cons,List.length_nil];omega)):p:=h
theorem D4x {l:List Act} {lq:Option Addr} {lk:Nat} {R:List (List Int)×Int} (hR:B7j l=R) (aa:l.length≤9223372036854775807:=by exact bW) (ai:l.length≤lk:=by exact bW):Con Tryz.prog 160 [.slice lq l.length lk] [] [sl A0 lq l,M2] ({t:VR×List Slc // bT 1 R.1.length t.1∧B4 t.2 R.1}) (fun x=>.tuple #[.slice (va x.1.1.q) R.1.length x.1.1.k,iv R.2]) (fun x=>((vo D9 290 x.1.1 x.1.2)++([]))) (fun x=>[D5 H5 x.1.2 R.1]):=by
 refine cC Tryz.func160 fun X hX hr hD=>?_
 replace hR:=(B7j.eq_1 ..).symm.trans hR
 refine bS rfl (bP 2 2 rfl (ie (A3 (bS rfl (pp3 3 9 10 11 rfl (ie (A9 (A3q (fun h=>(h≤l.length∧A8b l (l.drop h) h=R,[(0,_),(2,.slice _ 0 0),(9,_),(10,iv _),(11,iv h)],_,_,l.length - h)) 0 ⟨opx,hR⟩ bU A7.refl ?_))))))))
 rintro h ⟨ae,hR⟩
 refine bS rfl (bP 1 12 rfl ?_)
 refine ie (A3 (G4 rfl (fun h2=>?_) (fun h2=>?_)))
 ·have w:=bV h2
  rw [A1b Act.zero (show h<l.length by omega)] at hR;replace hR:=(A8b.eq_2 ..).symm.trans hR
  refine A4 (nx (A3 (A9 (bS rfl (K8 0 rfl opx fun a3 u=>(ix rfl (F8 Q1 rfl rfl u rfl h rfl opx) (ix rfl (K3 C8e rfl rfl (H2 (sz:=6) u (fun _=>rfl) 0 rfl (gd Act.zero opx)) rfl) ?_)))))))
  refine zra 2 [0] (fun b5=>[(5,pt b5 0)]) (fun _=>(A0 (l.getD h Act.zero))) 54 fun b5=>?_
  refine ie (bS rfl (c9 1 2 [0] [(15,ag (A0 (l.getD h Act.zero)))] (zv rfl (B6g rfl) (bP 1 6 rfl (ie (bS rfl (bP 2 18 rfl (ie ?_))))))))
  refine zjn rfl hR ?_ ?_<;>clear hR<;>intro hR h6 ab
  ·refine bS rfl (cG 3 2 3 rfl ?_)
   subst hR
   refine ie (A8 ?_)
   exact cD hr hD (U0 rfl (A6 rfl) (A6 rfl)) ⟨(_,_),⟨bT.nil,B4.none⟩⟩ bU cB
  refine A4 (nx (A1 2 rfl (ix rfl (B3 rfl rfl rfl rfl opx) (bP 1 11 rfl (A2 ?_)))))
  exact A2g _ ⟨opx,hR⟩ olr bU A7.refl
 have w:=bV h2
 rw [A1d w] at hR;replace hR:=(A8b.eq_1 ..).symm.trans hR
 refine F4 (nx (A3 (bS rfl (bP 3 23 rfl ?_))))
 refine ie ?_
 refine zjd rfl hR ?_ ?_<;>clear hR<;>intro hR h7 af
 ·refine bS rfl (cG 2 2 3 rfl ?_)
  subst hR
  refine ie (A8 ?_)
  exact cD hr hD (U0 rfl (A6 rfl) (A6 rfl)) ⟨(_,_),⟨bT.nil,B4.none⟩⟩ bU cB
 refine A4 (nx (A3 (bS rfl (pp3 3 24 25 26 rfl (ie (A9 ?_))))))
 refine A3q (un fun g=>un fun f=>un fun d e=>(e≤l.length∧A7u (l.drop e) g e=R∧bT 1 g.length f∧B4 d g∧g.length≤e∧l.length≤16,[(2,.slice (va f.q) g.length f.k),(24,_),(25,iv _),(26,iv e)],((vo D9 290 f d)++([])),[_,M2,D5 H5 d g],l.length - e)) (_,_,_,0) ⟨opx,hR,bT.nil,B4.none,(by constructor<;>first|omega|simp)⟩ bU cB ?_
 rintro ⟨g,f,d,e⟩ ⟨ah,hR,i,b,ho⟩
 have:=bT.le i
 have:=b.1
 refine bS rfl (bP 1 27 rfl ?_)
 refine ie (A3 (G4 rfl (fun h9=>?_) (fun h9=>?_)))
 ·have a0:=bV h9
  rw [A1b Act.zero (show e<l.length by omega)] at hR;replace hR:=(A7u.eq_2 ..).symm.trans hR
  refine A4 (nx (A3 (A9 (bS rfl (K8 0 rfl opx fun ad p=>(ix rfl (F8 Q1 rfl rfl p rfl e rfl opx) (ix rfl (K3 C8e rfl rfl (H2 (sz:=6) p (fun _=>rfl) 0 rfl (gd Act.zero opx)) rfl) ?_)))))))
  refine zra 2 [0] (fun v=>[(8,pt v 0)]) (fun _=>(A0 (l.getD e Act.zero))) 54 fun v=>?_
  refine ie (A1 6 rfl (c9 2 4 [0] [(30,.slice (va f.q) g.length f.k),(31,ag (A0 (l.getD e Act.zero)))] ?_))
  have hQ:=C4 hR;clear hR;obtain ⟨o,a2,hR⟩:=hQ
  refine zc rfl (E0w (a:=(l.getD e Act.zero)) a2) fun ⟨⟨n,m⟩,y⟩=>?_
  obtain ⟨a8,a7⟩:=y
  refine it rfl (B1 (c:=D9) (xs:=[⟨n,o.length,m⟩]) C2c rfl rfl rfl oki) fun a9=>?_
  have j:B4 ([⟨n,o.length,m⟩]:List Slc) ([o]:List (List Int)):=(B4.cons ⟨ooy,ovb,ovb⟩ B4.none)
  refine D7 (q:=D5 _ [⟨n,o.length,m⟩] _) (M3 (A5 1 rfl) H9) ?_
  have z:B4 (d++([⟨n,o.length,m⟩]:List Slc)) (g++([o]:List (List Int))):=B4.append b j
  refine it rfl (J8 (r:=f) (rs:=d) (xss:=g) (pre:=[bx v (A0 (l.getD e Act.zero)) 54]) (post:=[]) E0y rfl rfl rfl rfl rfl rfl rfl rfl rfl (A5 1 rfl) (A5 5 rfl) (A5 0 rfl) b j i obp obp) fun ⟨a4,s⟩=>?_
  have:(g++([o]:List (List Int))).length=g.length+1:=List.length_append
  refine bP 1 2 rfl (A2 (nx (A1 2 rfl (ix rfl (B3 rfl rfl rfl rfl opx) (bP 1 26 rfl (A2 ?_))))))
  exact A2g (_,_,_,_) ⟨opx,hR,s,z,ozq⟩ olr bU cB
 have a0:=bV h9
 rw [A1d a0] at hR;replace hR:=(A7u.eq_1 ..).symm.trans hR
 refine F4 (nx (bS rfl (cG 3 2 3 rfl ?_)))
 subst hR
 refine ie (A8 ?_)
 exact cD hr hD (U0 rfl (A6 rfl) (A6 rfl)) ⟨(f,d),⟨i,b⟩⟩ bU cB
theorem F5d:Ty Tryz.prog 252 1 false:=⟨by kernel_rfl⟩
def A7a (l:List (List Int)):Bool :=
 (((decide ((l.length:Int)=1))&&(decide (((l.getD 0 []).length:Int)=1)))&&(decide (((l.getD 0 []).getD 0 0)=(-1))))
theorem D2d {l:List (List Int)} {lq:Option Addr} {b:List Slc} {lk:Nat} {R:Bool} (hR:A7a l=R) (a:B4 b l:=by exact bW) (m:l.length≤9223372036854775807:=by exact bW) (r:l.length≤lk:=by exact bW):J5 Tryz.prog 236 [.slice lq l.length lk] [sl D9 lq b,D5 H5 b l] (bv R):=by
 refine cC Tryz.func236 fun X hX hr hD=>?_
 replace hR:=(A7a.eq_1 ..).symm.trans hR
 have:=a.1
 refine bS rfl (pp0 1 rfl (ie (bS rfl (bP 4 6 rfl ?_))))
 refine zid 7 10 6 13 (decide (((l.getD 0 []).length:Int)=1)) (fun j i=>?_) ?_
 ·refine ip' 1 6 [(7,.slice lq l.length lk)] (K8 0 rfl (by have:=a.1;omega) fun p e=>(D7 (V8 (k:=0) (d:=⟨none,0,0⟩) a 1 rfl (by have:=a.1;omega)) ?_))
  refine ix rfl (F8 C2c rfl rfl e rfl 0 rfl opx) (ip' 1 4 [(9,pa _)] (ix rfl (H8 (C9 E7r rfl rfl (A0i (H2 (sz:=1) e (fun _=>rfl) 1 rfl (gd _ (by have:=a.1;omega))) (ws:=[.slice _ _ ((b.getD 0 ⟨none,0,0⟩).k)]) 1 rfl) rfl) (U4 a (by have:=a.1;omega))) (bP 3 13 rfl ?_)))
  exact A2 (J0 6 6 _ j cB bU rfl rfl rfl rfl rfl)
 refine bP 1 14 rfl ?_
 refine zia 8 1 14 22 (decide (((l.getD 0 []).getD 0 0)=(-1))) (fun h=>?_) ?_
 ·have o:=bV h
  refine ip' 1 7 [(15,.slice lq l.length lk)] (K8 0 rfl (by have:=a.1;omega) fun s g=>(D7 (V8 (k:=0) (d:=⟨none,0,0⟩) a 1 rfl (by have:=a.1;omega)) ?_))
  refine ix rfl (F8 C2c rfl rfl g rfl 0 rfl opx) (ip' 1 5 [(17,pa _)] (ix rfl (H8 (C9 E7r rfl rfl (A0i (H2 (sz:=1) g (fun _=>rfl) 1 rfl (gd _ (by have:=a.1;omega))) 1 rfl) rfl) (U4 a (by have:=a.1;omega))) (K8 0 rfl opx fun t f=>(ix rfl (F8 K2 rfl rfl f rfl 0 rfl opx) (ix rfl (C9 (us:=[iv _]) cH rfl rfl (H2 (c:=H5) f (fun _=>rfl) 0 rfl (gd 0 opx)) rfl) (bP 2 22 rfl ?_))))))
  exact A2 (J0 8 14 _ h cB bU rfl rfl rfl rfl rfl)
 refine bP 1 2 rfl ?_
 subst hR
 refine ie (A8 ?_)
 exact F7 hr hD
def A1i (n:Int):Bool :=
 ((decide (n<(-1)))||(decide ((9999:Int)<n)))
theorem C3h {n:Int} {R:Bool} (hR:A1i n=R):J5 Tryz.prog 235 [iv n] [] (bv R):=by
 refine cC Tryz.func235 fun X hX hr hD=>?_
 replace hR:=(A1i.eq_1 ..).symm.trans hR
 refine bS rfl (pp0 1 rfl (ie (bS rfl (bP 3 5 rfl ?_))))
 refine zir 3 1 5 8 (decide (9999<n)) (fun b a=>?_) ?_
 ·refine bP 3 8 rfl ?_
  exact A2 (J0 2 5 8 b bX bU rfl rfl rfl rfl rfl)
 refine bP 1 2 rfl ?_
 subst hR
 refine ie (A8 ?_)
 exact F7 hr hD
def J3:List Int→Nat→Int
 | [],a=>(-1)
 | hd_l0::tl_l0,a=>(bif (A1i hd_l0) then (a:Int) else J3 tl_l0 (a+1))
def R8 (s:List Int):Int :=
 J3 s 0
theorem B3r {s:List Int} {e:Option Addr} {sk:Nat} {R:Int} (hR:R8 s=R) (h:s.length≤9223372036854775807:=by exact bW) (g:s.length≤sk:=by exact bW):J5 Tryz.prog 252 [.slice e s.length sk,aC 235] [sl H5 e s] (iv R):=by
 refine cC Tryz.func252 fun X hX hr hD=>?_
 replace hR:=(R8.eq_1 ..).symm.trans hR
 refine bS rfl (pp0 1 rfl (ie (A3 (bS rfl (cG 3 7 8 rfl (ie (A9 (A3q (fun a=>(a≤s.length∧J3 (s.drop a) a=R,[(0,_),(1,_),(7,iv _),(8,iv a)],_,_,s.length - a)) 0 ⟨opx,hR⟩ bU A7.refl ?_))))))))
 rintro a ⟨i,hR⟩
 refine bS rfl (bP 1 9 rfl ?_)
 refine ie (A3 (G4 rfl (fun f=>?_) (fun f=>?_)))
 ·have d:=bV f
  rw [A1b 0 (show a<s.length by omega)] at hR;replace hR:=(J3.eq_2 ..).symm.trans hR
  refine A4 (nx (A3 (A9 (bS rfl (bP 2 5 rfl (ie (bS rfl (ip' 3 3 [(11,aC 235),(12,.slice e s.length sk),(13,iv _)] (K8 0 rfl opx fun k b=>(ix rfl (F8 K2 rfl rfl b rfl a rfl opx) (ix rfl (C9 cH rfl rfl (H2 (sz:=1) b (fun _=>rfl) 0 rfl (gd 0 opx)) rfl) (zv rfl (C3h rfl) (ie ?_)))))))))))))
  refine zjb rfl hR ?_ ?_<;>clear hR<;>intro hR j
  ·refine bS rfl (bP 2 4 rfl ?_)
   subst hR
   refine ie (A8 ?_)
   exact F7 hr hD
  refine A4 (nx (A1 2 rfl (ix rfl (B3 rfl rfl rfl rfl opx) (bP 1 8 rfl (A2 ?_)))))
  exact A2g _ ⟨opx,hR⟩ olr bU A7.refl
 have d:=bV f
 rw [A1d d] at hR;replace hR:=(J3.eq_1 ..).symm.trans hR
 refine F4 (nx (bS rfl (bP 1 4 rfl ?_)))
 subst hR
 refine ie (A8 ?_)
 exact F7 hr hD
def M7 (s:List Int):Bool :=
 (decide ((0:Int)≤(R8 s)))
theorem B1v {s:List Int} {a:Option Addr} {sk:Nat} {R:Bool} (hR:M7 s=R) (b:s.length≤9223372036854775807:=by exact bW) (c:s.length≤sk:=by exact bW):J5 Tryz.prog 234 [.slice a s.length sk,aC 235] [sl H5 a s] (bv R):=by
 refine cC Tryz.func234 fun X hX hr hD=>?_
 replace hR:=(M7.eq_1 ..).symm.trans hR
 refine bS rfl (pp0 1 rfl (ie (bS rfl (ip' 2 3 [(5,_),(6,aC _)] (zv rfl (B3r rfl) (bP 2 4 rfl ?_))))))
 subst hR
 refine ie (A8 ?_)
 exact F7 hr hD
def W7 (p:List Int):Bool :=
 (((decide ((p.length:Int)=0))||(decide ((6:Int)<(p.length:Int))))||(M7 p))
theorem C7z {p:List Int} {a:Option Addr} {pk:Nat} {R:Bool} (hR:W7 p=R) (h:p.length≤9223372036854775807:=by exact bW) (e:p.length≤pk:=by exact bW):J5 Tryz.prog 233 [ag [.slice a p.length pk]] [sl H5 a p] (bv R):=by
 refine cC Tryz.func233 fun X hX hr hD=>?_
 replace hR:=(W7.eq_1 ..).symm.trans hR
 refine bS rfl (zra 2 [] (fun b=>[(1,pt b 0)]) (fun _=>[.slice a p.length pk]) 290 fun b=>(ie (bS rfl (cF 5 [0] 7 rfl ?_))))
 refine zir 5 6 7 12 (decide (6<(p.length:Int))) (fun d g=>?_) ?_
 ·refine cF 5 [0] 12 rfl ?_
  exact zai 2 7 _ d
 refine bP 1 13 rfl ?_
 refine zio 4 1 13 17 (M7 p) (fun c=>?_) ?_
 ·have f:=bV c
  refine cF 2 [0] 15 rfl (zv rfl (B1v rfl) (bP 1 17 rfl ?_))
  exact zai 4 13 _ c
 refine bP 1 2 rfl ?_
 subst hR
 refine ie (A8 ?_)
 exact F7 hr hD
def F1:List (List Int)→Nat→Int
 | [],a=>(-1)
 | hd_l0::tl_l0,a=>(bif (W7 hd_l0) then (a:Int) else F1 tl_l0 (a+1))
def K1 (s:List (List Int)):Int :=
 F1 s 0
theorem A6f {s:List (List Int)} {h:Option Addr} {b:List Slc} {sk:Nat} {R:Int} (hR:K1 s=R) (a:B4 b s:=by exact bW) (l:s.length≤9223372036854775807:=by exact bW) (j:s.length≤sk:=by exact bW):J5 Tryz.prog 253 [.slice h s.length sk,aC 233] [sl D9 h b,D5 H5 b s] (iv R):=by
 refine cC Tryz.func253 fun X hX hr hD=>?_
 replace hR:=(K1.eq_1 ..).symm.trans hR
 have:=a.1
 refine bS rfl (pp0 1 rfl (ie (A3 (bS rfl (cG 3 7 8 rfl (ie (A9 (A3q (fun e=>(e≤s.length∧F1 (s.drop e) e=R,[(0,_),(1,_),(7,iv _),(8,iv e)],_,_,s.length - e)) 0 ⟨opx,hR⟩ bU A7.refl ?_))))))))
 rintro e ⟨m,hR⟩
 refine bS rfl (bP 1 9 rfl ?_)
 refine ie (A3 (G4 rfl (fun i=>?_) (fun i=>?_)))
 ·have g:=bV i
  rw [A1b [] (show e<s.length by omega)] at hR;replace hR:=(F1.eq_2 ..).symm.trans hR
  refine A4 (nx (A3 (A9 (bS rfl (bP 2 5 rfl (ie (bS rfl (ip' 3 3 [(11,aC 233),(12,.slice h s.length sk),(13,iv e)] (K8 0 rfl (by have:=a.1;omega) fun p f=>(D7 (V8 (k:=e) (d:=⟨none,0,0⟩) a 1 rfl (by have:=a.1;omega)) ?_))))))))))
  have:=V9 a (k:=e) (d:=(⟨none,0,0⟩:Slc)) (by have:=a.1;omega)
  refine ix rfl (F8 C2c rfl rfl f rfl e rfl opx) (ix rfl (H8 (K3 A2u rfl rfl (H2 (c:=D9) f (fun _=>rfl) 1 rfl (gd ⟨none,0,0⟩ (by have:=a.1;omega))) rfl) (congrArg (fun z=>ag [z]) (U4 a (by have:=a.1;omega)))) (zv rfl (C7z rfl) (ie ?_)))
  refine zjb rfl hR ?_ ?_<;>clear hR<;>intro hR o
  ·refine bS rfl (bP 2 4 rfl ?_)
   subst hR
   refine ie (A8 ?_)
   exact F7 hr hD
  refine A4 (nx (A1 2 rfl (ix rfl (B3 rfl rfl rfl rfl opx) (bP 1 8 rfl (A2 ?_)))))
  exact A2g _ ⟨opx,hR⟩ olr bU cB
 have g:=bV i
 rw [A1d g] at hR;replace hR:=(F1.eq_1 ..).symm.trans hR
 refine F4 (nx (bS rfl (bP 1 4 rfl ?_)))
 subst hR
 refine ie (A8 ?_)
 exact F7 hr hD
def G6 (s:List (List Int)):Bool :=
 (decide ((0:Int)≤(K1 s)))
theorem A5t {s:List (List Int)} {c:Option Addr} {b:List Slc} {sk:Nat} {R:Bool} (hR:G6 s=R) (a:B4 b s:=by exact bW) (d:s.length≤9223372036854775807:=by exact bW) (e:s.length≤sk:=by exact bW):J5 Tryz.prog 237 [.slice c s.length sk,aC 233] [sl D9 c b,D5 H5 b s] (bv R):=by
 refine cC Tryz.func237 fun X hX hr hD=>?_
 replace hR:=(G6.eq_1 ..).symm.trans hR
 refine bS rfl (pp0 1 rfl (ie (bS rfl (ip' 2 3 [(5,_),(6,aC _)] (zv rfl (A6f rfl a) (bP 2 4 rfl ?_))))))
 subst hR
 refine ie (A8 ?_)
 exact F7 hr hD
def A1c (l:List (List Int)):Int :=
 (bif (((decide ((16:Int)<(l.length:Int)))||(A7a l))||(G6 l)) then 150 else 0)
def C0x (l:List (List Int)):Prop:=l.length≤16∧∀ r ∈ l,1≤r.length∧r.length≤6∧∀ n ∈ r,-1≤n∧n≤9999
theorem D1m:∀ (s:List Int) (t:Nat),J3 s t<0→∀ n ∈ s,-1≤n∧n≤9999
 | [],t,_,n,hn=>by cases hn
 | x::s,t,h,n,hn=>by
  simp only [J3] at h
  cases hc:A1i x with
  | true=>rw [hc,cond_true] at h;omega
  | false =>
   rw [hc,cond_false] at h
   unfold A1i at hc
   simp only [Bool.or_eq_false_iff,decide_eq_false_iff_not] at hc
   rcases List.mem_cons.1 hn with rfl | hn
   ·omega
   ·exact D1m s (t+1) h n hn
theorem D1s:∀ (s:List (List Int)) (t:Nat),F1 s t<0→∀ r ∈ s,W7 r=false
 | [],t,_,n,hn=>by cases hn
 | x::s,t,h,n,hn=>by
  simp only [F1] at h
  cases hc:W7 x with
  | true=>rw [hc,cond_true] at h;omega
  | false =>
   rw [hc,cond_false] at h
   rcases List.mem_cons.1 hn with rfl | hn
   ·exact hc
   ·exact D1s s (t+1) h n hn
theorem E0b {r:List Int} (h:W7 r=false):1≤r.length∧r.length≤6∧∀ n ∈ r,-1≤n∧n≤9999:=by
 unfold W7 at h
 simp only [Bool.or_eq_false_iff,decide_eq_false_iff_not] at h
 have a:=h.2;unfold M7 R8 at a;simp only [decide_eq_false_iff_not] at a
 exact ⟨by omega,by omega,D1m r 0 opx⟩
theorem B4f {l:List (List Int)} (h:A1c l=0):C0x l:=by
 unfold A1c at h
 generalize hc:(((decide ((16:Int)<(l.length:Int)))||(A7a l))||(G6 l))=c at h
 cases c with
 | true=>simp at h
 | false =>
  simp only [Bool.or_eq_false_iff,decide_eq_false_iff_not] at hc
  have a:=hc.2;unfold G6 K1 at a;simp only [decide_eq_false_iff_not] at a
  exact ⟨by omega,fun r hr=>E0b (D1s l 0 opx r hr)⟩
theorem C0x.at {l:List (List Int)} (h:C0x l) (i k:Nat):-1≤(l.getD i []).getD k 0∧(l.getD i []).getD k 0≤9999:=by
 by_cases hi:i<l.length
 ·by_cases hk:k<(l.getD i []).length
  ·rw [gdE hk]
   have a:l.getD i [] ∈ l:=by rw [gdE hi];exact List.getElem_mem hi
   exact (h.2 _ a).2.2 _ (List.getElem_mem hk)
  ·rw [show (l.getD i []).getD k 0=0 from gdN hk];omega
 ·rw [show l.getD i []=[] from gdN hi];simp
theorem C0x.row {l:List (List Int)} (h:C0x l) (i:Nat):(l.getD i []).length≤6:=by
 by_cases hi:i<l.length
 ·have a:l.getD i [] ∈ l:=by rw [gdE hi];exact List.getElem_mem hi
  exact (h.2 _ a).2.1
 ·rw [gdN hi];simp
theorem D2i {l:List (List Int)} {lq:Option Addr} {b:List Slc} {lk:Nat} {R:Int} (hR:A1c l=R) (a:B4 b l:=by exact bW) (h:l.length≤9223372036854775807:=by exact bW) (j:l.length≤lk:=by exact bW):J5 Tryz.prog 201 [.slice lq l.length lk] [sl D9 lq b,D5 H5 b l] (iv R):=by
 refine cC Tryz.func201 fun X hX hr hD=>?_
 replace hR:=(A1c.eq_1 ..).symm.trans hR
 refine bS rfl (pp0 1 rfl (ie (bS rfl (ip' 1 0 [(3,aC 233)] (ie (A3 (bS rfl (bP 4 7 rfl ?_))))))))
 refine zir 3 5 7 10 (A7a l) (fun g f=>?_) ?_
 ·refine bP 1 8 rfl (zv rfl (D2d rfl a) (bP 1 10 rfl ?_))
  exact zai 4 7 _ g
 refine bP 1 11 rfl ?_
 refine zio 4 0 11 15 (G6 l) (fun e=>?_) ?_
 ·have i:=bV e
  refine ip' 2 2 [(12,_),(13,aC _)] (zv rfl (A5t rfl a) (bP 1 15 rfl ?_))
  exact zai 5 11 _ e
 refine ie ?_
 refine zjb rfl hR ?_ ?_<;>clear hR<;>intro hR d
 ·have c:=bV d
  refine bS rfl (bP 1 2 rfl ?_)
  subst hR
  refine ie (A8 ?_)
  exact F7 hr hD
 refine A4 (nx (bS rfl (bP 1 2 rfl ?_)))
 subst hR
 refine ie (A8 ?_)
 exact F7 hr hD
def Q5 (l:List (List Int)):List (List Int) :=
 l
theorem D2c {l:List (List Int)} {lq:Option Addr} {b:List Slc} {lk:Nat} {R:List (List Int)} (hR:Q5 l=R) (a:B4 b l:=by exact bW) (d:l.length≤9223372036854775807:=by exact bW) (e:l.length≤lk:=by exact bW):Con Tryz.prog 202 [.slice lq l.length lk] [] [sl D9 lq b,D5 H5 b l] (Addr×{t:Option Addr×List Slc×Nat // B4 t.2.1 R∧R.length≤t.2.2∧R.length≤9223372036854775807}) (fun x=>.func (.func 238) #[] #[pa x.1]) (fun x=>[]) (fun x=>[at_ x.1 [.slice x.2.1.1 R.length x.2.1.2.2],sl D9 x.2.1.1 x.2.1.2.1,D5 H5 x.2.1.2.1 R]):=by
 refine cC Tryz.func202 fun X hX hr hD=>?_
 replace hR:=(Q5.eq_1 ..).symm.trans hR
 refine bS rfl (it rfl (A0h rfl rfl rfl) fun c=>?_)
 refine A3w 0 rfl ?_
 refine pp0 1 rfl (ie (bS rfl (ip' 2 0 [(2,.func (.func 238) #[] #[pa ⟨c,0,none⟩])] ?_)))
 subst hR
 refine ie (A8 ?_)
 exact cD hr hD (K7 rfl (A6 rfl)) (_,⟨(_,b,_),⟨a,okl,okl⟩⟩) bU cB
def Z4 (d:Nat) (b:List UInt8) (a:Nat→(List (List UInt8×List UInt8))) (c:List UInt8):List (List UInt8×List UInt8) :=
 ((b,c)::a (d+1))
def W3 (c0:List (List Int)) (d:Nat) (c:Nat) (a:Nat→(List (List UInt8×List UInt8))) (b:List UInt8):List (List UInt8×List UInt8) :=
 (bif (!decide (((c0.getD d []).getD c 0)=(-1))) then Z4 c b a (Lib.itoa ((c0.getD d []).getD c 0)) else Z4 c b a ([]:List UInt8))
def I5 (c0:List (List Int)) (b:Nat) (a:Nat→(List (List UInt8×List UInt8))):List Int→Nat→(List (List UInt8×List UInt8))
 | [],c=>a (b+1)
 | hd_l3::tl_l3,c=>(bif ((decide ((c:Int)=0))&&(decide ((b:Int)=0))) then W3 c0 b c (I5 c0 b a tl_l3) ([]:List UInt8) else (bif (decide ((c:Int)=0)) then W3 c0 b c (I5 c0 b a tl_l3) ([59]:List UInt8) else W3 c0 b c (I5 c0 b a tl_l3) ([58]:List UInt8)))
def I7 (c0:List (List Int)):List (List Int)→Nat→(List (List UInt8×List UInt8))
 | [],t11=>[]
 | hd_l2::tl_l2,t11=>I5 c0 t11 (I7 c0 tl_l2) hd_l2 0
def V2 (c0:List (List Int)):List (List UInt8×List UInt8) :=
 I7 c0 c0 0
def B2k (x:List UInt8×List UInt8):Prop:=x.1.length≤1∧x.2.length≤21
theorem B2p (c0:List (List Int)) (h:C0x c0) (a:Nat) (ag:Nat→List (List UInt8×List UInt8)) (B:Nat) (b:∀ t,(ag t).length≤B∧∀ x ∈ ag t,B2k x):∀ (s:List Int) (t:Nat),(I5 c0 a ag s t).length≤s.length+B∧∀ x ∈ I5 c0 a ag s t,B2k x
 | [],t=>by have:=b (a+1);simp only [I5,List.length_nil];exact ⟨by omega,this.2⟩
 | n::s,t=>by
  have d:=B2p c0 h a ag B b s (t+1)
  have hb:=h.at a t
  have e:=D8g ((c0.getD a []).getD t 0) opx opx
  simp only [I5,W3,Z4,Bool.cond_eq_ite]
  repeat' split
  all_goals refine ⟨by simp only [List.length_cons];omega,fun x c=>?_⟩
  all_goals rcases List.mem_cons.1 c with rfl | c
  all_goals first|exact d.2 x c|exact ⟨by simp,by first|exact e|simp⟩
theorem B2q (c0:List (List Int)) (h:C0x c0):∀ (s:List (List Int)) (t:Nat),(∀ r ∈ s,r.length≤6)→(I7 c0 s t).length≤6 * s.length∧∀ x ∈ I7 c0 s t,B2k x
 | [],t,_=>⟨by simp [I7],fun x a=>by cases a⟩
 | r::s,t,hs=>by
  have b:=fun c=>B2q c0 h s c (fun r hr=>hs r (List.mem_cons_of_mem _ hr))
  have d:=hs r (List.mem_cons_self ..)
  have a:=B2p c0 h t (I7 c0 s) (6 * s.length) b r 0
  simp only [I7,List.length_cons]
  exact ⟨by omega,a.2⟩
theorem B6m (c0:List (List Int)) (h:C0x c0):(V2 c0).length≤96∧∀ x ∈ V2 c0,B2k x:=by
 have:=B2q c0 h c0 0 (fun r hr=>(h.2 r hr).2.1)
 have a:=h.1
 unfold V2
 exact ⟨by omega,this.2⟩
theorem C7t (c0:List (List Int)) (p:Addr) (g:Option Addr) (b:List Slc) (i:Nat) (e:B4 b c0) (ad:c0.length≤9223372036854775807) (af:c0.length≤i) (aa:C0x c0) (R:List (List UInt8×List UInt8)) (hR:V2 c0=R):D1f Tryz.prog 238 [pa p] [sl D9 g b,D5 H5 b c0,at_ p [.slice g c0.length i],J2] (fun x=>sv x.1) (fun x=>sv x.2) R:=by
 refine E0z (n:=45) Tryz.func238 rfl oki rfl rfl (fun l=>[(0,_),(1,_)]) (fun l=>⟨rfl,rfl,trivial⟩) fun X l I Ix L Φ hX hr hD hI0 hY=>?_
 replace hR:=(V2.eq_1 ..).symm.trans hR
 have:=e.1
 refine sr 3 rfl (ix rfl (C9 F5d rfl rfl (A5 2 rfl) rfl) (ip' 2 0 [(10,iv c0.length),(11,iv 0)] (ie (A9 ?_))))
 refine E8k (fun a R_ Lt Ft=>(a≤c0.length∧I7 _ (c0.drop a) a=R_∧I R_ Lt Ft,[(0,_),(9,_),(10,_),(11,iv a)],(Lt++([])),(sl _ g b::D5 _ b _::at_ p _::J2::Ft),c0.length - a)) 0 R L _ ⟨opx,hR,hI0⟩ (mc [L] [true] rfl oxs) (A7.con1 (A5 0 rfl) (A7.con1 (A5 1 rfl) (A7.con1 (A5 2 rfl) (A7.con1 (A5 3 rfl) (A7.dropT 4 rfl))))) ?_
 rintro a R_ Lt Ft ⟨an,hR,a1⟩
 refine sr 1 rfl (ip' 1 0 [(12,bv (decide (a<(c0.length:Int))))] ?_)
 refine ie (A3 (G4 rfl (fun h2=>?_) (fun h2=>?_)))
 ·have a5:(a:Int)<(c0.length:Int):=by simpa using h2
  rw [A1b [] (show a<c0.length by omega)] at hR;replace hR:=(I7.eq_2 ..).symm.trans hR
  refine A4 (nx (A3 (A9 (sr 6 rfl (ip' 1 5 [(13,iv a)] (K8 0 rfl (by have:=e.1;omega) fun a3 y=>(D7 (V8 (k:=a) (d:=⟨none,0,0⟩) e 1 rfl (by have:=e.1;omega)) ?_)))))))
  have:=V9 e (k:=a) (d:=(⟨none,0,0⟩:Slc)) (by have:=e.1;omega)
  refine ix rfl (F8 C2c rfl rfl y rfl a rfl opx) (ix rfl (H8 (K3 A2u rfl rfl (H2 (sz:=1) y (fun _=>rfl) 1 rfl (gd ⟨none,0,0⟩ (by have:=e.1;omega))) rfl) (congrArg (fun z=>ag [z]) (U4 e (by have:=e.1;omega)))) ?_)
  refine B0j 3 0 [0] (fun j=>[(4,pt j 0),(3,iv a)]) (fun j=>(bx j [.slice ((b.getD a ⟨none,0,0⟩).q) ((c0.getD a []).length) ((b.getD a ⟨none,0,0⟩).k)] 290::(Lt++([])))) (fun j=>?_)
  refine ie (sr 4 rfl (c9 4 0 [0] [(17,.slice ((b.getD a ⟨none,0,0⟩).q) ((c0.getD a []).length) ((b.getD a ⟨none,0,0⟩).k)),(18,iv ((c0.getD a []).length)),(19,iv 0)] (ie (A9 ?_))))
  refine E8k (fun f R_1 Lt1 Ft1=>(f≤(c0.getD a []).length∧I5 _ a _ ((c0.getD a _).drop f) f=R_1∧I R_1 Lt1 Ft1,[(0,_),(3,_),(9,_),(10,_),(11,_),(17,_),(18,_),(19,iv f)],(bx j _ _::(Lt1++([]))),(sl _ _ _::sl _ g b::D5 _ b _::at_ p _::J2::Ft1),(c0.getD a []).length - f)) 0 _ _ _ ⟨opx,hR,a1⟩ (mc [[_],_] [true,true] rfl oxs) (A7.con1 (A5 0 rfl) (A7.con1 (A5 1 rfl) (A7.con1 (A5 2 rfl) (A7.con1 (A5 3 rfl) (A7.con1 (A5 4 rfl) (A7.dropT 5 rfl)))))) ?_
  rintro f R_1 Lt1 Ft1 ⟨ak,hR,o⟩
  have hq:=C0x.at aa a f
  refine sr 1 rfl (ip' 1 0 [(20,bv (decide (f<((c0.getD a []).length:Int))))] ?_)
  refine ie (A3 (G4 rfl (fun h7=>?_) (fun h7=>?_)))
  ·have a6:(f:Int)<((c0.getD a []).length:Int):=by simpa using h7
   rw [A1b 0 (show f<(c0.getD a []).length by omega)] at hR;replace hR:=(I5.eq_2 ..).symm.trans hR
   refine A4 (nx (A3 (A9 (sr 5 rfl (ip' 1 4 [(21,iv f)] (K8 0 rfl opx fun a8 a0=>(ix rfl (F8 K2 rfl rfl a0 rfl f rfl opx) (ix rfl (C9 (us:=[iv _]) cH rfl rfl (H2 (c:=H5) a0 (fun _=>rfl) 0 rfl (gd 0 opx)) rfl) (ip' 2 0 [(5,iv f),(6,iv ((c0.getD a []).getD f 0))] (ie (sr 2 rfl (ip' 2 0 [(7,sv [58]),(8,sv [])] ?_))))))))))))
   refine ie (F5m (fun h R_2 Lt2 Ft2=>(W3 c0 a f (I5 c0 a (I7 c0 (c0.drop (a+1))) ((c0.getD a []).drop (f+1))) h=R_2∧I R_2 Lt2 Ft2,[(0,.func (.yield l) #[] #[]),(3,iv a),(6,iv ((c0.getD a []).getD f 0)),(7,sv h),(8,sv []),(9,.slice g c0.length i),(10,iv c0.length),(11,iv a),(17,.slice ((b.getD a ⟨none,0,0⟩).q) ((c0.getD a []).length) ((b.getD a ⟨none,0,0⟩).k)),(18,iv ((c0.getD a []).length)),(19,iv f)],(bx j [.slice ((b.getD a ⟨none,0,0⟩).q) ((c0.getD a []).length) ((b.getD a ⟨none,0,0⟩).k)] 290::(Lt2++([]))),(sl H5 ((b.getD a ⟨none,0,0⟩).q) (c0.getD a [])::sl D9 g b::D5 H5 b c0::at_ p [.slice g c0.length i]::J2::Ft2))) ?_ ?_)
   ·refine A9 (sr 7 rfl (ip' 3 4 [(27,bv (decide ((f:Int)=0)))] ?_))
    refine zid 3 1 27 30 (decide ((a:Int)=0)) (fun ab ae=>?_) ?_
    ·refine ip' 3 0 [(30,bv (decide ((a:Int)=0)))] ?_
     exact A2 (J0 2 27 _ ab A7.refl (mc [[_],_] [true,true] rfl oxs) rfl rfl rfl rfl rfl)
    refine ip' 1 0 [(24,bv ((decide ((f:Int)=0))&&(decide ((a:Int)=0))))] (ie ?_)
    refine zja rfl hR ?_ ?_<;>clear hR<;>intro hR am ac
    ·refine A1 1 rfl (ip' 1 0 [(7,sv [])] (A2 ?_))
     exact E7y _ _ _ _ ⟨hR,o⟩ (mc [[_],_] [true,true] rfl oxs) (A7.con1 (A5 0 rfl) (A7.con1 (A5 1 rfl) (A7.con1 (A5 2 rfl) (A7.con1 (A5 3 rfl) (A7.con1 (A5 4 rfl) (A7.dropT 5 rfl))))))
    refine sr 3 rfl (ip' 3 0 [(31,bv (decide ((f:Int)=0)))] (ie ?_))
    refine zjd rfl hR ?_ ?_<;>clear hR<;>intro hR al ah
    ·refine A1 1 rfl (ip' 1 0 [(7,sv [59])] (A2 ?_))
     exact E7y _ _ _ _ ⟨hR,o⟩ (mc [[_],_] [true,true] rfl oxs) (A7.con1 (A5 0 rfl) (A7.con1 (A5 1 rfl) (A7.con1 (A5 2 rfl) (A7.con1 (A5 3 rfl) (A7.con1 (A5 4 rfl) (A7.dropT 5 rfl))))))
    refine A4 ?_
    exact E7y _ _ _ _ ⟨hR,o⟩ (mc [[_],_] [true,true] rfl oxs) (A7.con1 (A5 0 rfl) (A7.con1 (A5 1 rfl) (A7.con1 (A5 2 rfl) (A7.con1 (A5 3 rfl) (A7.con1 (A5 4 rfl) (A7.dropT 5 rfl))))))
   intro h R_2 Lt2 Ft2
   rintro ⟨hR,w⟩
   replace hR:=(W3.eq_1 ..).symm.trans hR
   refine F5m (fun s R_3 Lt3 Ft3=>(Z4 f h (I5 c0 a (I7 c0 (c0.drop (a+1))) ((c0.getD a []).drop (f+1))) s=R_3∧I R_3 Lt3 Ft3,[(0,.func (.yield l) #[] #[]),(3,iv a),(7,sv h),(8,sv s),(9,.slice g c0.length i),(10,iv c0.length),(11,iv a),(17,.slice ((b.getD a ⟨none,0,0⟩).q) ((c0.getD a []).length) ((b.getD a ⟨none,0,0⟩).k)),(18,iv ((c0.getD a []).length)),(19,iv f)],(bx j [.slice ((b.getD a ⟨none,0,0⟩).q) ((c0.getD a []).length) ((b.getD a ⟨none,0,0⟩).k)] 290::(Lt3++([]))),(sl H5 ((b.getD a ⟨none,0,0⟩).q) (c0.getD a [])::sl D9 g b::D5 H5 b c0::at_ p [.slice g c0.length i]::J2::Ft3))) ?_ ?_
   ·refine sr 2 rfl (ip' 2 0 [(35,bv (!decide (((c0.getD a []).getD f 0)=(-1))))] (ie ?_))
    refine zjn rfl hR ?_ ?_<;>clear hR<;>intro hR aj ai
    ·refine A1 3 rfl (ip' 1 2 [(36,iv _)] (zca (F2b ((c0.getD a []).getD f 0) (by first|omega|(exact ⟨by omega,by omega⟩))) (A7.cons (A5 4 rfl) bX) ?_))
     refine ip' 1 0 [(8,sv (Lib.itoa ((c0.getD a []).getD f 0)))] (A2 ?_)
     exact E7y _ _ _ _ ⟨hR,w⟩ (mc [[_],_] [true,true] rfl oxs) (A7.con1 (A5 0 rfl) (A7.con1 (A5 1 rfl) (A7.con1 (A5 2 rfl) (A7.con1 (A5 3 rfl) (A7.con1 (A5 4 rfl) (A7.dropT 5 rfl))))))
    refine A4 ?_
    exact E7y _ _ _ _ ⟨hR,w⟩ (mc [[_],_] [true,true] rfl oxs) (A7.con1 (A5 0 rfl) (A7.con1 (A5 1 rfl) (A7.con1 (A5 2 rfl) (A7.con1 (A5 3 rfl) (A7.con1 (A5 4 rfl) (A7.dropT 5 rfl))))))
   intro s R_3 Lt3 Ft3
   rintro ⟨hR,t⟩
   replace hR:=(Z4.eq_1 ..).symm.trans hR
   refine sr 5 rfl (ip' 3 2 [(38,.func (.yield l) #[] #[]),(39,sv h),(40,sv s)] ?_)
   have r:=B8p hR;clear hR;obtain ⟨R14,hR,r⟩:=r;rw [r] at t
   refine it rfl (E1w (L2:=[bx j [.slice ((b.getD a (⟨none,0,0⟩:Slc)).q) ((c0.getD a []).length) ((b.getD a (⟨none,0,0⟩:Slc)).k)] 290]) (hY _ R14 _ _ t) rfl rfl rfl rfl (A7.dropT 5 rfl) (I1 [[bx j [.slice ((b.getD a (⟨none,0,0⟩:Slc)).q) ((c0.getD a []).length) ((b.getD a (⟨none,0,0⟩:Slc)).k)] 290],Lt3] [1,0] 2 rfl ozw rfl [Lt3,[bx j [.slice ((b.getD a (⟨none,0,0⟩:Slc)).q) ((c0.getD a []).length) ((b.getD a (⟨none,0,0⟩:Slc)).k)] 290]] rfl ooa)) fun ⟨⟨a2,L16,Φ17⟩,m⟩=>?_
   refine A8l (A7.yield [_,_,_,_,_]) ?_
   refine ip' 1 0 [(42,bv (!a2))] ?_
   refine ie (G4 rfl (fun a4=>?_) (fun a4=>?_))
   ·have u:a2=false:=by simpa using a4
    rw [u] at m;try simp only [if_true,if_false,Bool.false_eq_true] at m
    refine A8 ?_
    exact B3k rfl ⟨hr,hD⟩ (by simp [hD]) (B0u rfl) (by exact .inr m) (mcT [_,[_]] 0 rfl rfl) (A7.dropT 5 rfl)
   ·have u:a2=true:=by simpa using a4
    rw [u] at m;try simp only [if_true,if_false,Bool.false_eq_true] at m
    refine A4 (nx (A1 2 rfl (ix rfl (B3 rfl rfl rfl rfl opx) (ip' 1 0 [(19,iv (f+1))] (A2 (Y0 (I1 [_,_] [1,0] 2 rfl ozw rfl [[_],L16] rfl opv) ?_))))))
    exact E4y _ _ _ _ ⟨opx,hR,m⟩ olr (mc _ [true,true] rfl oxs) (A7.con1 (A5 0 rfl) (A7.con1 (A5 1 rfl) (A7.con1 (A5 2 rfl) (A7.con1 (A5 3 rfl) (A7.con1 (A5 4 rfl) (A7.dropT 5 rfl))))))
  have a6:¬ ((f:Int)<((c0.getD a []).length:Int)):=by simpa using h7
  rw [A1d a6] at hR;replace hR:=(I5.eq_1 ..).symm.trans hR
  refine F4 (nx (A1 2 rfl (ix rfl (B3 rfl rfl rfl rfl opx) ?_)))
  refine ip' 1 0 [(11,iv (a+1))] (A2 ?_)
  exact E4y _ _ _ _ ⟨opx,hR,o⟩ olr (mc [[_],_] [false,true] rfl oxs) (A7.con1 (A5 1 rfl) (A7.con1 (A5 2 rfl) (A7.con1 (A5 3 rfl) (A7.con1 (A5 4 rfl) (A7.dropT 5 rfl)))))
 have a5:¬ ((a:Int)<(c0.length:Int)):=by simpa using h2
 rw [A1d a5] at hR;replace hR:=(I7.eq_1 ..).symm.trans hR
 subst hR
 refine F4 ?_
 exact X9 rfl ⟨hr,hD⟩ (by simp [hD]) (B0u rfl) (by exact .inl a1) (mcT [_] 0 rfl rfl) (A7.dropT 4 rfl)
def O9:List (List UInt8×List UInt8)→List UInt8→(List UInt8×Int)
 | [],bbuf=>(bbuf,0)
 | el::rest,bbuf=>(B6 (I8 bbuf (el.1++el.2)) fun (a:List UInt8×Int)=>O9 rest a.1)
def S3 (l:List (List Int)):List UInt8×Int :=
 (bif (!decide ((A1c l)=0)) then (([]:List UInt8),(A1c l)) else O9 (V2 (Q5 l)) ([]:List UInt8))
theorem B4a:∀ (es:List (List UInt8×List UInt8)) (b:List UInt8),(∀ x ∈ es,B2k x)→(O9 es b).1.length≤b.length+22 * es.length
 | [],b,_=>by simp [O9]
 | e::es,b,h=>by
  have a:=h e (List.mem_cons_self ..);unfold B2k at a
  have c:=B4a es (I8 b (e.1++e.2)).1 (fun x d=>h x (List.mem_cons_of_mem _ d))
  rw [Z5,List.length_append] at c
  simp only [O9,B6,List.length_cons];omega
theorem A8j (l:List (List Int)):(S3 l).1.length≤2112:=by
 unfold S3
 by_cases h:A1c l=0
 ·have a:=B6m l (B4f h)
  have:=B4a (V2 (Q5 l)) [] a.2
  rw [h];simp only [decide_true,Bool.not_true,cond_false]
  have e:(V2 (Q5 l)).length≤96:=a.1
  rw [List.length_nil] at this;omega
 ·simp [h]
theorem ohg {p:Prop} (h:p:=by first|omega|(simp only [List.length_take,List.length_drop,List.length_append,List.length_cons,List.length_nil,List.length_set,List.length_map,Q5];omega)|decide):p:=h
theorem C1f {l:List (List Int)} {lq:Option Addr} {d:List Slc} {lk:Nat} {R:List UInt8×Int} (hR:S3 l=R) (b:B4 d l:=by exact bW) (a5:l.length≤9223372036854775807:=by exact bW) (ae:l.length≤lk:=by exact bW):J5 Tryz.prog 161 [.slice lq l.length lk] [sl D9 lq d,D5 H5 d l,J2] (.tuple #[sv R.1,iv R.2]):=by
 refine cC Tryz.func161 fun X hX hr hD=>?_
 replace hR:=(S3.eq_1 ..).symm.trans hR
 have:=b.1
 refine bS rfl (pp0 2 rfl (ie (A3 (bS rfl (bP 1 8 rfl (zv rfl (D2i rfl b) (bP 1 4 rfl (ie (bS rfl (bP 2 11 rfl (ie ?_)))))))))))
 refine zjn rfl hR ?_ ?_<;>clear hR<;>intro hR h1 a9
 ·refine bS rfl (cG 3 2 3 rfl ?_)
  subst hR
  refine ie (A8 ?_)
  exact B4w hr hD
 refine A4 (nx (bS rfl (zra 1 [] (fun m=>[(5,pt m 0)]) (fun _=>[.pointer none,.slice none 0 0]) 296 fun m=>(ie (A3 (bS rfl (bP 1 13 rfl ?_)))))))
 refine zc rfl (D2c rfl b) fun ⟨z,⟨⟨u,n,k6⟩,a1⟩⟩=>?_
 obtain ⟨y,ab,a3⟩:=a1
 have:=y.1
 refine ie (A9 (Y0 (I1 [_,_] [1,0] 2 rfl ozw rfl [[_],vo cI 5 VR.nil []] rfl opv) ?_))
 refine D0f [(5,_),(14,.func _ _ #[pa z])] ⟨rfl,rfl,trivial⟩ ?_
 refine E7d (β:=(List UInt8×List UInt8)) (enc:=(fun x=>sv x.1)) (enc2:=(fun x=>sv x.2)) (xs:=(V2 (Q5 l))) (σ:=Option Addr×List UInt8×VR) hr rfl (C7t (Q5 l) z u n k6 y ohg ohg (by exact B4f (Decidable.of_not_not oiu)) _ rfl) cB rfl rfl rfl (fun e x=>O9 e x.2.1=R∧(x.1=none∨x.1=some ⟨m,0,none⟩)∧bT 1 x.2.1.length x.2.2∧x.2.1.length+22 * e.length≤2112∧∀ x ∈ e,B2k x) (fun _ _=>False) (fun x=>(bx m [.pointer x.1,.slice (va x.2.2.q) x.2.1.length x.2.2.k] 296::((vo cI 5 x.2.2 x.2.1)++([])))) (fun x=>[at_ z [.slice u ((Q5 l).length) k6],sl D9 u n,D5 H5 n (Q5 l),sl D9 lq d,D5 H5 d l,J2]) (none,([]:List UInt8),VR.nil) (by exact ⟨hR,(.inl rfl),bT.nil,(by have s:=B6m l (B4f (Decidable.of_not_not oiu));refine ⟨?_,s.2⟩;have a6:(V2 (Q5 l)).length≤96:=s.1;simp only [List.length_nil];omega)⟩) bU A7.refl ?_ ?_ (fun _ _ _ _ h=>h.elim)
 ·rintro el rest ⟨f,j,g⟩ t Y Y' K' aa hK
  try dsimp only at t
  obtain ⟨hR,c,a,p⟩:=t
  replace hR:=(O9.eq_2 ..).symm.trans hR
  have:=bT.le a
  refine bS rfl (bP 1 6 rfl (ie (A1 1 rfl (bP 1 7 rfl (A2 (hK _ _ _ ?_))))))
  refine A9 (A1 4 rfl (cG 2 17 18 rfl ?_))
  refine ix rfl (D4f rfl rfl rfl (by first|omega|(have i:=p.2 _ (List.mem_cons_self ..);unfold B2k at i;omega)|(first|omega|(simp only [List.length_cons,List.length_nil,List.length_append,List.length_take,List.length_drop,Q5];omega)))) ?_
  have:=@List.length_append _ el.1 el.2
  have hQ:=C4 hR;clear hR;obtain ⟨y0,v,hR⟩:=hQ
  refine zc rfl (A4g v c a (by first|omega|(simp only [List.length_append,List.length_cons,List.length_nil,List.length_take,List.length_drop,List.length_set];omega)|(have i:=p.2 _ (List.mem_cons_self ..);unfold B2k at i;have w:=p.1;simp only [List.length_append,List.length_cons,List.length_nil] at *;omega))) fun ⟨a2,o⟩=>?_
  have:=bT.le o
  have:=bT.cap o
  have:=Z5 j (el.1++el.2);try rw [v] at this
  refine A2 ?_
  exact A9f (I:=fun e x=>O9 e x.2.1=R∧(x.1=none∨x.1=some ⟨m,0,none⟩)∧bT 1 x.2.1.length x.2.2∧x.2.1.length+22 * e.length≤2112∧∀ x ∈ e,B2k x) (Jx:=fun _ _=>False) (Lk:=fun x=>(bx m [.pointer x.1,.slice (va x.2.2.q) x.2.1.length x.2.2.k] 296::((vo cI 5 x.2.2 x.2.1)++([])))) (Φk:=fun x=>[at_ z [.slice u ((Q5 l).length) k6],sl D9 u n,D5 H5 n (Q5 l),sl D9 lq d,D5 H5 d l,J2]) (rest:=rest) ((some ⟨m,0,none⟩),y0.1,a2) (by exact ⟨hR,(.inr rfl),o,(by have i:=p.2 _ (List.mem_cons_self ..);unfold B2k at i;refine ⟨?_,fun x hx=>p.2 x (List.mem_cons_of_mem _ hx)⟩;have w:=p.1;try dsimp only;simp only [List.length_cons] at w;omega)⟩) bU A7.refl
 ·rintro a4 ⟨f,j,g⟩ r t
  try dsimp only at t
  obtain ⟨hR,c,a,p⟩:=t
  replace hR:=(O9.eq_1 ..).symm.trans hR
  have:=bT.le a
  refine nx (bS rfl (zc rfl (D8u m (.pointer f) j g a) fun _=>(cG 2 2 3 rfl ?_)))
  subst hR
  refine ie (A8 ?_)
  exact B4c rfl ⟨hr,hD⟩ (by exact (N2.cons (show N2 X.D by rw [hD];exact N2.nil) r)) (U0 rfl (A6 rfl) (A6 rfl)) () (by rfl) bU bX
end Go.Proofs.YtgimbmncdmnklaaGreatDoor
