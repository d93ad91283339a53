import Derived.Test.YthcjfkljekdioaaGreatDoorProg
import Derived.Test.YthcjfkljekdioaaGreatDoorMA2
set_option linter.unusedVariables false
set_option linter.unusedSimpArgs false
set_option linter.unnecessarySimpa false
set_option maxRecDepth 100000
namespace Go.Proofs.YthcjfkljekdioaaGreatDoor
open Go Go.Fen
structure Col where
 kind:Int
 n:Int
deriving DecidableEq
def V9 (x:Col):List Value:=[.int .i64 x.kind,.int .i64 x.n]
def Col.zero:Col:=⟨0,0⟩
theorem V9.inj (x y:Col) (h:V9 x=V9 y):x=y:=by
 rcases x with ⟨_,_⟩
 rcases y with ⟨_,_⟩
 simp [V9,bs] at h
 simp_all
structure Sty where
 attr:Int
 under:Int
 fore:Col
 back:Col
 line:Col
deriving DecidableEq
def I8 (x:Sty):List Value:=[.int .i64 x.attr,.int .i64 x.under]++(V9 x.fore++(V9 x.back++(V9 x.line)))
def Sty.zero:Sty:=⟨0,0,Col.zero,Col.zero,Col.zero⟩
theorem I8.inj (x y:Sty) (h:I8 x=I8 y):x=y:=by
 rcases x with ⟨_,_,⟨_,_⟩,⟨_,_⟩,⟨_,_⟩⟩
 rcases y with ⟨_,_,⟨_,_⟩,⟨_,_⟩,⟨_,_⟩⟩
 simp [V9,I8,bs] at h
 simp_all
structure Ar2 where
 a:Int
 b:Int
deriving DecidableEq
def S8 (x:Ar2):List Value:=[.int .i64 x.a,.int .i64 x.b]
def Ar2.zero:Ar2:=⟨0,0⟩
theorem S8.inj (x y:Ar2) (h:S8 x=S8 y):x=y:=by
 rcases x with ⟨_,_⟩
 rcases y with ⟨_,_⟩
 simp [S8,bs] at h
 simp_all
structure Ar3 where
 a:Int
 b:Int
 c:Int
deriving DecidableEq
def B6o (x:Ar3):List Value:=[.int .i64 x.a,.int .i64 x.b,.int .i64 x.c]
def Ar3.zero:Ar3:=⟨0,0,0⟩
theorem B6o.inj (x y:Ar3) (h:B6o x=B6o y):x=y:=by
 rcases x with ⟨_,_,_⟩
 rcases y with ⟨_,_,_⟩
 simp [B6o,bs] at h
 simp_all
structure Cel where
 base:Int
 marks:Ar2
 wide:Int
 sty:Sty
deriving DecidableEq
def B2 (x:Cel):List Value:=[.int .i64 x.base]++(S8 x.marks++([.int .i64 x.wide]++(I8 x.sty)))
def Cel.zero:Cel:=⟨0,Ar2.zero,0,Sty.zero⟩
theorem B2.inj (x y:Cel) (h:B2 x=B2 y):x=y:=by
 rcases x with ⟨_,⟨_,_⟩,_,⟨_,_,⟨_,_⟩,⟨_,_⟩,⟨_,_⟩⟩⟩
 rcases y with ⟨_,⟨_,_⟩,_,⟨_,_,⟨_,_⟩,⟨_,_⟩,⟨_,_⟩⟩⟩
 simp [S8,B2,V9,I8,bs] at h
 simp_all
structure Spn where
 lo:Int
 hi:Int
deriving DecidableEq
def C5 (x:Spn):List Value:=[.int .i64 x.lo,.int .i64 x.hi]
def Spn.zero:Spn:=⟨0,0⟩
theorem C5.inj (x y:Spn) (h:C5 x=C5 y):x=y:=by
 rcases x with ⟨_,_⟩
 rcases y with ⟨_,_⟩
 simp [C5,bs] at h
 simp_all
structure Sp3 where
 row:Int
 frm:Int
 to:Int
deriving DecidableEq
def D1n (x:Sp3):List Value:=[.int .i64 x.row,.int .i64 x.frm,.int .i64 x.to]
def Sp3.zero:Sp3:=⟨0,0,0⟩
theorem D1n.inj (x y:Sp3) (h:D1n x=D1n y):x=y:=by
 rcases x with ⟨_,_,_⟩
 rcases y with ⟨_,_,_⟩
 simp [D1n,bs] at h
 simp_all
structure Plc where
 row:Int
 col:Int
deriving DecidableEq
def L7 (x:Plc):List Value:=[.int .i64 x.row,.int .i64 x.col]
def Plc.zero:Plc:=⟨0,0⟩
theorem L7.inj (x y:Plc) (h:L7 x=L7 y):x=y:=by
 rcases x with ⟨_,_⟩
 rcases y with ⟨_,_⟩
 simp [L7,bs] at h
 simp_all
structure Atr where
 a:Int
 b:Int
 c:Int
deriving DecidableEq
def C9z (x:Atr):List Value:=[.int .i64 x.a,.int .i64 x.b,.int .i64 x.c]
def Atr.zero:Atr:=⟨0,0,0⟩
theorem C9z.inj (x y:Atr) (h:C9z x=C9z y):x=y:=by
 rcases x with ⟨_,_,_⟩
 rcases y with ⟨_,_,_⟩
 simp [C9z,bs] at h
 simp_all
structure Act where
 kind:Int
 n:Int
 m:Int
 color:Col
 text:List UInt8
deriving DecidableEq
def H0 (x:Act):List Value:=[.int .i64 x.kind,.int .i64 x.n,.int .i64 x.m]++(V9 x.color++([.string (bs x.text)]))
def Act.zero:Act:=⟨0,0,0,Col.zero,[]⟩
theorem H0.inj (x y:Act) (h:H0 x=H0 y):x=y:=by
 rcases x with ⟨_,_,_,⟨_,_⟩,_⟩
 rcases y with ⟨_,_,_,⟨_,_⟩,_⟩
 simp [H0,V9,bs] at h
 simp_all
structure Shf where
 top:Int
 bottom:Int
 amt:Int
deriving DecidableEq
def C7a (x:Shf):List Value:=[.int .i64 x.top,.int .i64 x.bottom,.int .i64 x.amt]
def Shf.zero:Shf:=⟨0,0,0⟩
theorem C7a.inj (x y:Shf) (h:C7a x=C7a y):x=y:=by
 rcases x with ⟨_,_,_⟩
 rcases y with ⟨_,_,_⟩
 simp [C7a,bs] at h
 simp_all
structure Hld where
 shift:Shf
 gain:Int
deriving DecidableEq
def D0e (x:Hld):List Value:=C7a x.shift++([.int .i64 x.gain])
def Hld.zero:Hld:=⟨Shf.zero,0⟩
theorem D0e.inj (x y:Hld) (h:D0e x=D0e y):x=y:=by
 rcases x with ⟨⟨_,_,_⟩,_⟩
 rcases y with ⟨⟨_,_,_⟩,_⟩
 simp [D0e,C7a,bs] at h
 simp_all
structure Drf where
 kind:Int
 n:Int
 m:Int
 rgb:Int
 text:List UInt8
deriving DecidableEq
def D0m (x:Drf):List Value:=[.int .u16 x.kind,.int .u16 x.n,.int .u16 x.m,.int .u32 x.rgb,.string (bs x.text)]
def Drf.zero:Drf:=⟨0,0,0,0,[]⟩
theorem D0m.inj (x y:Drf) (h:D0m x=D0m y):x=y:=by
 rcases x with ⟨_,_,_,_,_⟩
 rcases y with ⟨_,_,_,_,_⟩
 simp [D0m,bs] at h
 simp_all
structure Lks where
 f:Nat→Int
def Lks.zero:Lks:=⟨fun _=>0⟩
def Lks.put (x:Lks) (k:Nat) (v:Int):Lks:=⟨fun i=>if i=k then v else x.f i⟩
def B3t:List Spn:=[⟨768,879⟩,⟨1155,1161⟩,⟨1425,1469⟩,⟨1552,1562⟩,⟨1611,1631⟩,⟨6832,6911⟩,⟨7616,7679⟩,⟨8203,8207⟩,⟨8400,8447⟩,⟨65024,65039⟩,⟨65056,65071⟩]
def C4k:List Spn:=[⟨4352,4447⟩,⟨11904,12350⟩,⟨12353,19903⟩,⟨19968,42191⟩,⟨44032,55203⟩,⟨63744,64255⟩,⟨65072,65135⟩,⟨65280,65376⟩,⟨65504,65510⟩,⟨127744,128591⟩,⟨128640,128767⟩,⟨129280,129535⟩,⟨131072,262141⟩]
abbrev A0z:Pers:=sl C5 (some ⟨0,0,none⟩) B3t
abbrev A1a:Pers:=sl C5 (some ⟨1,0,none⟩) C4k
theorem B6u:ApTy Tryz.prog 231 3 1 8:=⟨by kernel_rfl,by kernel_rfl,rfl⟩
theorem A9y:ApTy Tryz.prog 239 5 1 1:=⟨by kernel_rfl,by kernel_rfl,rfl⟩
theorem C6j:EqT Tryz.prog 81 H0:=EqT.of 20 rfl (by kernel_rfl) (by kernel_rfl) (fun _ _=>by kernel_rfl) H0.inj
theorem V7:SlTy Tryz.prog 231 3 1:=⟨by kernel_rfl,by kernel_rfl⟩
theorem R3:SlTy Tryz.prog 239 5 1:=⟨by kernel_rfl,by kernel_rfl⟩
theorem ty3:Ty Tryz.prog 3 1 false:=⟨by kernel_rfl⟩
theorem ty5:Ty Tryz.prog 5 1 false:=⟨by kernel_rfl⟩
theorem ty9:Ty Tryz.prog 9 1 false:=⟨by kernel_rfl⟩
theorem D6g:Ty Tryz.prog 231 1 false:=⟨by kernel_rfl⟩
def A1l (cp:Int):Bool :=
 (((decide ((0:Int)≤cp))&&(decide (cp≤1114111)))&&(!decide ((cp / 2048)=27)))
theorem B4k (cp:Int) (R:Bool) (hR:A1l cp=R):I6 Tryz.prog 119 [iv cp] [] (bv R):=by
 refine zco Tryz.func119 [(0,iv cp)] fun X hX hr hD=>?_
 replace hR:=(A1l.eq_1 ..).symm.trans hR
 refine sr 1 rfl (ip' 1 0 [] ?_)
 refine ie (sr 12 rfl (ip' 3 9 [(5,bv (decide ((0:Int)≤cp)))] ?_))
 refine zid 3 6 5 8 (decide (cp≤1114111)) (fun g1 g1p=>?_) ?_
 ·refine ip' 3 0 [(8,bv (decide (cp≤1114111)))] ?_
  exact A1 (H1 2 5 8 g1 fn0 (mk [] rfl) rfl rfl rfl rfl rfl)
 refine ip' 1 5 [(9,bv ((decide ((0:Int)≤cp))&&(decide (cp≤1114111))))] ?_
 refine zia 4 1 9 13 (!decide ((cp / 2048)=27)) (fun g2=>?_) ?_
 ·have g2p:((0:Int)≤cp)∧(cp≤1114111):=by simpa using g2
  refine ip' 1 3 [(10,iv cp)] ?_
  refine ix rfl (A2t (c:=cp / 2048) rfl rfl rfl (by decide) (by simp [Int.fdiv_eq_ediv_of_nonneg,IntKind.bits])) ?_
  refine ip' 2 0 [(13,bv (!decide ((cp / 2048)=27)))] ?_
  exact A1 (H1 4 9 13 g2 fn0 (mk [] rfl) rfl rfl rfl rfl rfl)
 refine ip' 1 0 [(2,bv (((decide ((0:Int)≤cp))&&(decide (cp≤1114111)))&&(!decide ((cp / 2048)=27))))] ?_
 subst hR
 refine ie (A7 ?_)
 exact D5 hr hD
def G9 (shift:Nat) (p1:Int):UInt8 :=
 (by8 (bOp .or .u8 128 ((by8 (bOp .and .u8 ((by8 (IntKind.u8.wrap (Int.fdiv p1 (2 ^ (min ((shift:Int)).toNat 64))))).toNat:Int) 63)).toNat:Int)))
theorem A2g (shift:Nat) (p1:Int) (p1b:Nat) (R:UInt8) (hR:G9 shift p1=R):Con Tryz.prog 360 [iv (shift:Int),pt p1b 0] [bx p1b [iv p1] 3] [] (Unit) (fun x=>.int .u8 (R.toNat:Int)) (fun x=>[bx p1b [iv p1] 3]) (fun x=>[]):=by
 refine zco Tryz.func360 [(0,iv (shift:Int)),(1,pt p1b 0)] fun X hX hr hD=>?_
 replace hR:=(G9.eq_1 ..).symm.trans hR
 refine sr 1 rfl (ip' 1 0 [] ?_)
 refine ie (sr 7 rfl (zrl 2 5 [0] [(4,iv p1),(5,iv (shift:Int))] ?_))
 refine ix rfl (A2t rfl rfl rfl (by omega) rfl) ?_
 refine ix rfl (F9 (v:=.int .u8 (IntKind.u8.wrap (Int.fdiv p1 (2 ^ (min ((shift:Int)).toNat 64))))) (I9.pure rfl) (A5e)) ?_
 refine ix rfl (F9 (v:=.int .u8 (bOp .and .u8 ((by8 (IntKind.u8.wrap (Int.fdiv p1 (2 ^ (min ((shift:Int)).toNat 64))))).toNat:Int) 63)) (I9.pure rfl) (B3z)) ?_
 refine ix rfl (F9 (v:=.int .u8 (bOp .or .u8 128 ((by8 (bOp .and .u8 ((by8 (IntKind.u8.wrap (Int.fdiv p1 (2 ^ (min ((shift:Int)).toNat 64))))).toNat:Int) 63)).toNat:Int))) (I9.pure rfl) (B3z)) ?_
 refine ip' 1 0 [(3,.int .u8 ((by8 (bOp .or .u8 128 ((by8 (bOp .and .u8 ((by8 (IntKind.u8.wrap (Int.fdiv p1 (2 ^ (min ((shift:Int)).toNat 64))))).toNat:Int) 63)).toNat:Int))).toNat:Int))] ?_
 subst hR
 refine ie (A7 ?_)
 exact zer hr hD (P3 rfl (B1 rfl)) () (mk [true] rfl) fn0
def A1x (cp1:Int):List UInt8 :=
 (bif (decide (cp1<128)) then ([(by8 (IntKind.u8.wrap cp1))]:List UInt8) else (bif (decide (cp1<2048)) then ([(by8 (bOp .or .u8 192 ((by8 (IntKind.u8.wrap (cp1 / 64))).toNat:Int))),(G9 0 cp1)]:List UInt8) else (bif (decide (cp1<65536)) then ([(by8 (bOp .or .u8 224 ((by8 (IntKind.u8.wrap (cp1 / 4096))).toNat:Int))),(G9 6 cp1),(G9 0 cp1)]:List UInt8) else ([(by8 (bOp .or .u8 240 ((by8 (IntKind.u8.wrap (cp1 / 262144))).toNat:Int))),(G9 12 cp1),(G9 6 cp1),(G9 0 cp1)]:List UInt8))))
def A8h (cp:Int):List UInt8 :=
 (bif (!(A1l cp)) then A1x 65533 else A1x cp)
theorem C3m (cp:Int):(A8h cp).length≤4:=by
 unfold A8h A1x
 simp only [Bool.cond_eq_ite]
 repeat' split
 all_goals simp
theorem C6z (cp:Int) (R:List UInt8) (hR:A8h cp=R):I6 Tryz.prog 315 [iv cp] [] (sv R):=by
 refine zco Tryz.func315 [(0,iv cp)] fun X hX hr hD=>?_
 replace hR:=(A8h.eq_1 ..).symm.trans hR
 refine sr 2 rfl (I7 2 0 [] (fun b1=>[(1,pt b1 0)]) (fun b1=>[bx b1 [iv cp] 3]) (fun b1=>?_))
 refine ie (B5u (fun (cp1:Int)=>(A1x cp1=R,[(1,pt b1 0)],[bx b1 [iv cp1] 3],[])) ?_ ?_)
 ·refine sr 3 rfl (zrl 1 2 [0] [(4,iv cp)] ?_)
  refine zca (B4k cp _ rfl) fn0 ?_
  refine ip' 1 0 [(6,bv (!(A1l cp)))] ?_
  refine ie ?_
  refine zjb rfl hR ?_ ?_<;>clear hR<;>intro hR h2
  ·refine A5 1 rfl (zrg 1 0 [0] [] [bx b1 [iv 65533] 3] ?_)
   refine A1 ?_
   exact A2q 65533 hR (mk [true] rfl) fn0
  refine A4 ?_
  exact A2q cp hR (mk [true] rfl) fn0
 intro cp1
 rintro hR
 replace hR:=(A1x.eq_1 ..).symm.trans hR
 refine sr 2 rfl (ip' 2 0 [(3,.func (.func 360) #[] #[pt b1 0])] ?_)
 refine ie (A3 (B0 (sr 3 rfl (zrl 3 0 [0] [(8,bv (decide (cp1<128)))] ?_))))
 refine ie ?_
 refine zjd rfl hR ?_ ?_<;>clear hR<;>intro hR h3 h3p
 ·refine sr 5 rfl (zrl 1 4 [0] [(11,iv cp1)] ?_)
  refine ix rfl (F9 (v:=.int .u8 (IntKind.u8.wrap cp1)) (I9.pure rfl) (A5e)) ?_
  refine it rfl (E9 (c:=cU8) (xs:=([(by8 (IntKind.u8.wrap cp1))]:List UInt8)) R3 rfl rfl rfl (by kernel_rfl)) fun b4=>?_
  have:([(by8 (IntKind.u8.wrap cp1))]:List UInt8).length=1:=rfl
  refine ix rfl (B3m Tryz.underlying9 Tryz.underlying239 rfl rfl (B5 0 rfl) rfl (by kernel_rfl)) ?_
  have:([(by8 (IntKind.u8.wrap cp1))]:List UInt8).length=1:=rfl
  refine ip' 1 0 [(2,sv ([(by8 (IntKind.u8.wrap cp1))]:List UInt8))] ?_
  subst hR
  refine ie (A7 ?_)
  exact D5 hr hD
 refine sr 3 rfl (zrl 3 0 [0] [(15,bv (decide (cp1<2048)))] ?_)
 refine ie ?_
 refine zjd rfl hR ?_ ?_<;>clear hR<;>intro hR h5 h5p
 ·refine sh 9 [(9,[bx b1 [iv cp1] 3])] [] [bx b1 [iv cp1] 3] (zml 9 0) (by kernel_rfl) rfl (by kernel_rfl) (by kernel_rfl) (by kernel_rfl) (mk [true] rfl) A2.refl ?_
  refine zhp [4] 8 (zml 9 16) [(22,.func (.func 360) #[] #[pt b1 0])] ?_
  refine zhl 0 [bx b1 [iv cp1] 3] (zml 9 17) rfl (D4 (v:=iv cp1) ty3 rfl rfl 0 rfl rfl) ?_
  refine zhk 1 (zml 9 19) rfl (A2t (c:=cp1 / 64) rfl rfl rfl (by decide) (by simp [Int.fdiv_eq_ediv_of_nonneg,IntKind.bits])) ?_
  refine zhk 2 (zml 9 23) rfl (F9 (v:=.int .u8 (IntKind.u8.wrap (cp1 / 64))) (I9.pure rfl) (A5e)) ?_
  refine zhk 3 (zml 9 31) rfl (F9 (v:=.int .u8 (bOp .or .u8 192 ((by8 (IntKind.u8.wrap (cp1 / 64))).toNat:Int))) (I9.pure rfl) (B3z)) ?_
  refine zho 5 [bx b1 [iv cp1] 3] (zml 9 63) rfl (H2 (L2:=[]) (A2g 0 cp1 b1 _ rfl) rfl rfl rfl rfl rfl fn0 (H3 [[bx b1 [iv cp1] 3]] [0] 1 rfl (by decide) rfl [[bx b1 [iv cp1] 3]] rfl (by first|rfl|simp only [List.flatten_cons,List.flatten_nil,List.append_nil,List.cons_append,List.nil_append,List.append_assoc])) (fun _=>[bx b1 [iv cp1] 3]) (fun _=>rfl)) (fun _=>(mk [true] rfl)) (fun _=>fn0) fun _=>?_
  refine zho 6 [bx b1 [iv cp1] 3] (zml 9 127) rfl (E9 (c:=cU8) (xs:=([(by8 (bOp .or .u8 192 ((by8 (IntKind.u8.wrap (cp1 / 64))).toNat:Int))),(G9 0 cp1)]:List UInt8)) R3 rfl rfl rfl (by kernel_rfl)) (fun b6=>(mk [true] rfl)) (fun b6=>fn0) fun b6=>?_
  have:([(by8 (bOp .or .u8 192 ((by8 (IntKind.u8.wrap (cp1 / 64))).toNat:Int))),(G9 0 cp1)]:List UInt8).length=2:=rfl
  refine zho 7 [bx b1 [iv cp1] 3] (zml 9 255) rfl (Det.tri (I9.det (B3m Tryz.underlying9 Tryz.underlying239 rfl rfl (B5 0 rfl) rfl (by kernel_rfl)))) (fun _=>(mk [true] rfl)) (fun _=>fn0) fun _=>?_
  have:([(by8 (bOp .or .u8 192 ((by8 (IntKind.u8.wrap (cp1 / 64))).toNat:Int))),(G9 0 cp1)]:List UInt8).length=2:=rfl
  refine zhp [8] 0 (zml 9 511) [(2,sv ([(by8 (bOp .or .u8 192 ((by8 (IntKind.u8.wrap (cp1 / 64))).toNat:Int))),(G9 0 cp1)]:List UInt8))] ?_
  refine B0r (by kernel_rfl) ?_
  subst hR
  refine A7 ?_
  exact D5 hr hD
 refine sr 3 rfl (zrl 3 0 [0] [(26,bv (decide (cp1<65536)))] ?_)
 refine ie ?_
 refine zjd rfl hR ?_ ?_<;>clear hR<;>intro hR h7 h7p
 ·refine sh 11 [(11,[bx b1 [iv cp1] 3])] [] [bx b1 [iv cp1] 3] (zml 11 0) (by kernel_rfl) rfl (by kernel_rfl) (by kernel_rfl) (by kernel_rfl) (mk [true] rfl) A2.refl ?_
  refine zhp [4,6] 9 (zml 11 80) [(33,.func (.func 360) #[] #[pt b1 0]),(35,.func (.func 360) #[] #[pt b1 0])] ?_
  refine zhl 0 [bx b1 [iv cp1] 3] (zml 11 81) rfl (D4 (v:=iv cp1) ty3 rfl rfl 0 rfl rfl) ?_
  refine zhk 1 (zml 11 83) rfl (A2t (c:=cp1 / 4096) rfl rfl rfl (by decide) (by simp [Int.fdiv_eq_ediv_of_nonneg,IntKind.bits])) ?_
  refine zhk 2 (zml 11 87) rfl (F9 (v:=.int .u8 (IntKind.u8.wrap (cp1 / 4096))) (I9.pure rfl) (A5e)) ?_
  refine zhk 3 (zml 11 95) rfl (F9 (v:=.int .u8 (bOp .or .u8 224 ((by8 (IntKind.u8.wrap (cp1 / 4096))).toNat:Int))) (I9.pure rfl) (B3z)) ?_
  refine zho 5 [bx b1 [iv cp1] 3] (zml 11 127) rfl (H2 (L2:=[]) (A2g 6 cp1 b1 _ rfl) rfl rfl rfl rfl rfl fn0 (H3 [[bx b1 [iv cp1] 3]] [0] 1 rfl (by decide) rfl [[bx b1 [iv cp1] 3]] rfl (by first|rfl|simp only [List.flatten_cons,List.flatten_nil,List.append_nil,List.cons_append,List.nil_append,List.append_assoc])) (fun _=>[bx b1 [iv cp1] 3]) (fun _=>rfl)) (fun _=>(mk [true] rfl)) (fun _=>fn0) fun _=>?_
  refine zho 7 [bx b1 [iv cp1] 3] (zml 11 255) rfl (H2 (L2:=[]) (A2g 0 cp1 b1 _ rfl) rfl rfl rfl rfl rfl fn0 (H3 [[bx b1 [iv cp1] 3]] [0] 1 rfl (by decide) rfl [[bx b1 [iv cp1] 3]] rfl (by first|rfl|simp only [List.flatten_cons,List.flatten_nil,List.append_nil,List.cons_append,List.nil_append,List.append_assoc])) (fun _=>[bx b1 [iv cp1] 3]) (fun _=>rfl)) (fun _=>(mk [true] rfl)) (fun _=>fn0) fun _=>?_
  refine zho 8 [bx b1 [iv cp1] 3] (zml 11 511) rfl (E9 (c:=cU8) (xs:=([(by8 (bOp .or .u8 224 ((by8 (IntKind.u8.wrap (cp1 / 4096))).toNat:Int))),(G9 6 cp1),(G9 0 cp1)]:List UInt8)) R3 rfl rfl rfl (by kernel_rfl)) (fun b8=>(mk [true] rfl)) (fun b8=>fn0) fun b8=>?_
  have:([(by8 (bOp .or .u8 224 ((by8 (IntKind.u8.wrap (cp1 / 4096))).toNat:Int))),(G9 6 cp1),(G9 0 cp1)]:List UInt8).length=3:=rfl
  refine zho 9 [bx b1 [iv cp1] 3] (zml 11 1023) rfl (Det.tri (I9.det (B3m Tryz.underlying9 Tryz.underlying239 rfl rfl (B5 0 rfl) rfl (by kernel_rfl)))) (fun _=>(mk [true] rfl)) (fun _=>fn0) fun _=>?_
  have:([(by8 (bOp .or .u8 224 ((by8 (IntKind.u8.wrap (cp1 / 4096))).toNat:Int))),(G9 6 cp1),(G9 0 cp1)]:List UInt8).length=3:=rfl
  refine zhp [10] 0 (zml 11 2047) [(2,sv ([(by8 (bOp .or .u8 224 ((by8 (IntKind.u8.wrap (cp1 / 4096))).toNat:Int))),(G9 6 cp1),(G9 0 cp1)]:List UInt8))] ?_
  refine B0r (by kernel_rfl) ?_
  subst hR
  refine A7 ?_
  exact D5 hr hD
 refine A4 (nx (sh 13 [(13,[bx b1 [iv cp1] 3])] [] [bx b1 [iv cp1] 3] (zml 13 0) (by kernel_rfl) rfl (by kernel_rfl) (by kernel_rfl) (by kernel_rfl) (mk [true] rfl) A2.refl ?_))
 refine zhp [4,6,8] 10 (zml 13 336) [(43,.func (.func 360) #[] #[pt b1 0]),(45,.func (.func 360) #[] #[pt b1 0]),(47,.func (.func 360) #[] #[pt b1 0])] ?_
 refine zhl 0 [bx b1 [iv cp1] 3] (zml 13 337) rfl (D4 (v:=iv cp1) ty3 rfl rfl 0 rfl rfl) ?_
 refine zhk 1 (zml 13 339) rfl (A2t (c:=cp1 / 262144) rfl rfl rfl (by decide) (by simp [Int.fdiv_eq_ediv_of_nonneg,IntKind.bits])) ?_
 refine zhk 2 (zml 13 343) rfl (F9 (v:=.int .u8 (IntKind.u8.wrap (cp1 / 262144))) (I9.pure rfl) (A5e)) ?_
 refine zhk 3 (zml 13 351) rfl (F9 (v:=.int .u8 (bOp .or .u8 240 ((by8 (IntKind.u8.wrap (cp1 / 262144))).toNat:Int))) (I9.pure rfl) (B3z)) ?_
 refine zho 5 [bx b1 [iv cp1] 3] (zml 13 383) rfl (H2 (L2:=[]) (A2g 12 cp1 b1 _ rfl) rfl rfl rfl rfl rfl fn0 (H3 [[bx b1 [iv cp1] 3]] [0] 1 rfl (by decide) rfl [[bx b1 [iv cp1] 3]] rfl (by first|rfl|simp only [List.flatten_cons,List.flatten_nil,List.append_nil,List.cons_append,List.nil_append,List.append_assoc])) (fun _=>[bx b1 [iv cp1] 3]) (fun _=>rfl)) (fun _=>(mk [true] rfl)) (fun _=>fn0) fun _=>?_
 refine zho 7 [bx b1 [iv cp1] 3] (zml 13 511) rfl (H2 (L2:=[]) (A2g 6 cp1 b1 _ rfl) rfl rfl rfl rfl rfl fn0 (H3 [[bx b1 [iv cp1] 3]] [0] 1 rfl (by decide) rfl [[bx b1 [iv cp1] 3]] rfl (by first|rfl|simp only [List.flatten_cons,List.flatten_nil,List.append_nil,List.cons_append,List.nil_append,List.append_assoc])) (fun _=>[bx b1 [iv cp1] 3]) (fun _=>rfl)) (fun _=>(mk [true] rfl)) (fun _=>fn0) fun _=>?_
 refine zho 9 [bx b1 [iv cp1] 3] (zml 13 1023) rfl (H2 (L2:=[]) (A2g 0 cp1 b1 _ rfl) rfl rfl rfl rfl rfl fn0 (H3 [[bx b1 [iv cp1] 3]] [0] 1 rfl (by decide) rfl [[bx b1 [iv cp1] 3]] rfl (by first|rfl|simp only [List.flatten_cons,List.flatten_nil,List.append_nil,List.cons_append,List.nil_append,List.append_assoc])) (fun _=>[bx b1 [iv cp1] 3]) (fun _=>rfl)) (fun _=>(mk [true] rfl)) (fun _=>fn0) fun _=>?_
 refine zho 10 [bx b1 [iv cp1] 3] (zml 13 2047) rfl (E9 (c:=cU8) (xs:=([(by8 (bOp .or .u8 240 ((by8 (IntKind.u8.wrap (cp1 / 262144))).toNat:Int))),(G9 12 cp1),(G9 6 cp1),(G9 0 cp1)]:List UInt8)) R3 rfl rfl rfl (by kernel_rfl)) (fun b9=>(mk [true] rfl)) (fun b9=>fn0) fun b9=>?_
 have:([(by8 (bOp .or .u8 240 ((by8 (IntKind.u8.wrap (cp1 / 262144))).toNat:Int))),(G9 12 cp1),(G9 6 cp1),(G9 0 cp1)]:List UInt8).length=4:=rfl
 refine zho 11 [bx b1 [iv cp1] 3] (zml 13 4095) rfl (Det.tri (I9.det (B3m Tryz.underlying9 Tryz.underlying239 rfl rfl (B5 0 rfl) rfl (by kernel_rfl)))) (fun _=>(mk [true] rfl)) (fun _=>fn0) fun _=>?_
 have:([(by8 (bOp .or .u8 240 ((by8 (IntKind.u8.wrap (cp1 / 262144))).toNat:Int))),(G9 12 cp1),(G9 6 cp1),(G9 0 cp1)]:List UInt8).length=4:=rfl
 refine zhp [12] 0 (zml 13 8191) [(2,sv ([(by8 (bOp .or .u8 240 ((by8 (IntKind.u8.wrap (cp1 / 262144))).toNat:Int))),(G9 12 cp1),(G9 6 cp1),(G9 0 cp1)]:List UInt8))] ?_
 refine B0r (by kernel_rfl) ?_
 subst hR
 refine A7 ?_
 exact D5 hr hD
def J4 (bbuf:List UInt8) (s:List UInt8):List UInt8×Int :=
 ((bbuf++s),(s.length:Int))
theorem A2y (bbuf s:List UInt8):(J4 bbuf s).1.length=bbuf.length+s.length:=by simp [J4]
theorem A3n (bbuf:List UInt8) (s:List UInt8) (bb:Nat) (baddrz:Option Addr) (bbufr:VR) (hzbaddrz:baddrz=none∨baddrz=some ⟨bb,0,none⟩) (hokbbufr:VOk 1 bbuf.length bbufr) (hb:bbuf.length+s.length≤140737488355328) (R:List UInt8×Int) (hR:J4 bbuf s=R):Con Tryz.prog 314 [pt bb 0,sv s] (bx bb [.pointer baddrz,.slice (va bbufr.q) bbuf.length bbufr.k] 271::(vo cU8 5 bbufr bbuf)++([])) [] ({r:VR // VOk 1 R.1.length r}) (fun x=>.tuple #[iv R.2,.nilIface]) (fun x=>(bx bb [pt bb 0,.slice (va x.1.q) R.1.length x.1.k] 271::(vo cU8 5 x.1 R.1)++([]))) (fun x=>[]):=by
 refine zco Tryz.func314 [(0,pt bb 0),(1,sv s)] fun X hX hr hD=>?_
 replace hR:=(J4.eq_1 ..).symm.trans hR
 have:=VOk.le hokbbufr
 refine sr 2 rfl (ip' 2 0 [] ?_)
 refine ie (sr 2 rfl (ip' 1 1 [(6,pt bb 0)] ?_))
 refine it rfl (H2 (L2:=((vo cU8 5 bbufr bbuf)++([]))) (C3u bb (.slice (va bbufr.q) bbuf.length bbufr.k) baddrz hzbaddrz) rfl rfl rfl rfl rfl fn0 (H3 [[bx bb [.pointer baddrz,.slice (va bbufr.q) bbuf.length bbufr.k] 271],vo cU8 5 bbufr bbuf] [0,1] 2 rfl (by decide) rfl [[bx bb [.pointer baddrz,.slice (va bbufr.q) bbuf.length bbufr.k] 271],vo cU8 5 bbufr bbuf] rfl (by first|rfl|simp only [List.flatten_cons,List.flatten_nil,List.append_nil,List.cons_append,List.nil_append,List.append_assoc])) (fun _=>(bx bb [pt bb 0,.slice (va bbufr.q) bbuf.length bbufr.k] 271::(vo cU8 5 bbufr bbuf)++([]))) (fun _=>by first|rfl|simp only [List.append_nil,List.cons_append,List.nil_append,List.append_assoc])) fun _=>?_
 refine ie (sr 10 rfl (zrl 6 4 [0] [(8,pt bb 0),(12,.slice (va bbufr.q) bbuf.length bbufr.k),(13,sv s)] ?_))
 refine it rfl (C2h (r:=bbufr) (xs:=bbuf) (s:=s) (pre:=[bx bb [pt bb 0,.slice (va bbufr.q) bbuf.length bbufr.k] 271]) (post:=[]) A9y (by kernel_rfl) Tryz.underlying9 rfl rfl rfl rfl rfl rfl rfl hokbbufr (by first|omega|(simp only [List.length_cons,List.length_nil,List.length_append,List.length_take,List.length_drop];omega))) fun ⟨r1,hr2⟩=>?_
 have:=@List.length_append _ bbuf s
 have:=VOk.le hr2
 have:=VOk.cap hr2
 refine zrg 3 0 [0] [] (bx bb [pt bb 0,.slice (va r1.q) ((bbuf++s).length) r1.k] 271::(vo cU8 5 r1 (bbuf++s))++([])) ?_
 refine ie (sr 4 rfl (ip' 4 0 [(4,iv (s.length:Int)),(5,.nilIface)] ?_))
 subst hR
 refine ie (A7 ?_)
 exact zer hr hD (V5 rfl (B1 rfl) (B1 rfl)) ⟨r1,hr2⟩ (mc [[bx bb [pt bb 0,.slice (va r1.q) ((bbuf++s).length) r1.k] 271],vo cU8 5 r1 (bbuf++s)] [true,true] rfl (by first|rfl|(simp only [List.length_set]<;>rfl))) fn0
def A0v:List Int→Nat→List UInt8→List UInt8
 | [],t8,bbuf=>bbuf
 | hd_l0::tl_l0,t8,bbuf=>(F1 (A8h hd_l0) fun (y3:List UInt8)=>(F1 (J4 bbuf y3) fun (y1:List UInt8×Int)=>A0v tl_l0 (t8+1) y1.1))
def A5x (codes:List Int):List UInt8 :=
 A0v codes 0 ([]:List UInt8)
theorem C4t (codes:List Int) (codesq:Option Addr) (codesk:Nat) (hlcodes:codes.length≤9223372036854775807) (hccodes:codes.length≤codesk) (hp:codes.length≤1000000000) (R:List UInt8) (hR:A5x codes=R):I6 Tryz.prog 259 [.slice codesq codes.length codesk] [sl K8 codesq codes] (sv R):=by
 refine zco Tryz.func259 [(0,.slice codesq codes.length codesk)] fun X hX hr hD=>?_
 replace hR:=(A5x.eq_1 ..).symm.trans hR
 refine sr 1 rfl (ip' 1 0 [] ?_)
 refine ie (sr 1 rfl (I7 1 0 [] (fun b1=>[(3,pt b1 0)]) (fun b1=>[bx b1 [.pointer none,.slice none 0 0] 271]) (fun b1=>?_)))
 refine ie (A3 (sr 3 rfl (ip' 3 0 [(6,.slice codesq codes.length codesk),(7,iv (codes.length:Int)),(8,iv 0)] ?_)))
 refine ie (B0 (W7 (H3 [vo cU8 5 VR.nil ([]:List UInt8),[bx b1 [.pointer none,.slice none 0 0] 271]] [1,0] 2 rfl (by decide) rfl [[bx b1 [.pointer none,.slice none 0 0] 271],vo cU8 5 VR.nil ([]:List UInt8)] rfl (by first|rfl|simp)) ?_))
 refine B2k (fun (t8:Nat) (baddrz:Option Addr) (bbuf:List UInt8) (bbufr:VR)=>(t8≤codes.length∧A0v (codes.drop t8) t8 bbuf=R∧(baddrz=none∨baddrz=some ⟨b1,0,none⟩)∧VOk 1 bbuf.length bbufr∧bbuf.length≤4 * t8,[(3,pt b1 0),(6,.slice codesq codes.length codesk),(7,iv (codes.length:Int)),(8,iv (t8:Int))],(bx b1 [.pointer baddrz,.slice (va bbufr.q) bbuf.length bbufr.k] 271::(vo cU8 5 bbufr bbuf)++([])),[sl K8 codesq codes],codes.length - t8)) 0 none ([]:List UInt8) VR.nil ⟨(by omega),hR,(.inl rfl),VOk.nil,(by simp)⟩ (mc [[bx b1 [.pointer none,.slice none 0 0] 271],vo cU8 5 VR.nil ([]:List UInt8)] [true,true] rfl (by first|rfl|(simp only [List.length_set]<;>rfl))) A2.refl ?_
 rintro t8 baddrz bbuf bbufr ⟨hm2,hR,hzbaddrz,hokbbufr,hg⟩
 have:=VOk.le hokbbufr
 refine sr 1 rfl (ip' 1 0 [(9,bv (decide ((t8:Int)<(codes.length:Int))))] ?_)
 refine ie (A3 (S2 rfl (fun h3=>?_) (fun h3=>?_)))
 ·have h3p:(t8:Int)<(codes.length:Int):=by simpa using h3
  rw [U1 0 (show t8<codes.length by omega)] at hR;replace hR:=(A0v.eq_2 ..).symm.trans hR
  refine A4 (nx (A3 (B0 (sr 3 rfl (J3 0 rfl (by omega) fun a4 hq5=>?_)))))
  refine ix rfl (E8 V7 rfl rfl hq5 rfl t8 rfl (by omega)) ?_
  refine ix rfl (C8 (v:=iv (codes.getD t8 0)) (us:=[iv (codes.getD t8 0)]) ty3 rfl rfl (G0 (c:=K8) (sz:=1) hq5 (fun _=>rfl) 0 rfl (gd 0 (by omega))) rfl) ?_
  refine ip' 1 0 [(5,iv (codes.getD t8 0))] ?_
  refine ie (A5 3 rfl (ip' 1 2 [(12,iv (codes.getD t8 0))] ?_))
  have hQ:=G6 hR;clear hR;obtain ⟨y3,hy3,hR⟩:=hQ
  refine zca (C6z (codes.getD t8 0) y3 hy3) fn0 ?_
  have:=C3m (codes.getD t8 0);try rw [hy3] at this
  have hQ:=G6 hR;clear hR;obtain ⟨y1,hy1,hR⟩:=hQ
  refine it rfl (H2 (L2:=[]) (A3n bbuf y3 b1 baddrz bbufr hzbaddrz hokbbufr (by first|omega|(simp only [List.length_append,List.length_cons,List.length_nil,List.length_take,List.length_drop,List.length_set];omega)|(have hel:=hg.2 _ (List.mem_cons_self ..);unfold partOk at hel;have hgl:=hg.1;simp only [List.length_append,List.length_cons,List.length_nil] at *;omega)) y1 hy1) rfl rfl rfl rfl rfl fn0 (H3 [[bx b1 [.pointer baddrz,.slice (va bbufr.q) bbuf.length bbufr.k] 271],vo cU8 5 bbufr bbuf] [0,1] 2 rfl (by decide) rfl [[bx b1 [.pointer baddrz,.slice (va bbufr.q) bbuf.length bbufr.k] 271],vo cU8 5 bbufr bbuf] rfl (by first|rfl|simp only [List.flatten_cons,List.flatten_nil,List.append_nil,List.cons_append,List.nil_append,List.append_assoc])) (fun ⟨r6,hk7⟩=>(bx b1 [pt b1 0,.slice (va r6.q) y1.1.length r6.k] 271::(vo cU8 5 r6 y1.1)++([]))) (fun _=>by first|rfl|simp only [List.append_nil,List.cons_append,List.nil_append,List.append_assoc])) fun ⟨r6,hk7⟩=>?_
  have:=VOk.le hk7
  have:=VOk.cap hk7
  have:=A2y bbuf y3;try rw [hy1] at this
  refine A1 (nx (A5 2 rfl (ix rfl (B4 rfl rfl rfl rfl (by omega)) ?_)))
  refine ip' 1 0 [(8,iv ((t8:Int)+1))] ?_
  refine A1 ?_
  exact B1k (z1:=t8) (z2:=baddrz) (z3:=bbuf) (z4:=bbufr) (t8+1) (some ⟨b1,0,none⟩) y1.1 r6 ⟨(by omega),hR,(.inr rfl),hk7,(by first|omega|(simp only [List.length_append];omega))⟩ (by (try dsimp only);omega) (mc [[bx b1 [pt b1 0,.slice (va r6.q) y1.1.length r6.k] 271],vo cU8 5 r6 y1.1] [true,true] rfl (by first|rfl|(simp only [List.length_set]<;>rfl))) A2.refl
 have h3p:¬ ((t8:Int)<(codes.length:Int)):=by simpa using h3
 rw [U2 h3p] at hR;replace hR:=(A0v.eq_1 ..).symm.trans hR
 refine G2 (nx (sr 2 rfl (it rfl (H2 (L2:=[]) (C7v b1 (.pointer baddrz) bbuf bbufr hokbbufr) rfl rfl rfl rfl rfl fn0 (H3 [[bx b1 [.pointer baddrz,.slice (va bbufr.q) bbuf.length bbufr.k] 271],vo cU8 5 bbufr bbuf] [0,1] 2 rfl (by decide) rfl [[bx b1 [.pointer baddrz,.slice (va bbufr.q) bbuf.length bbufr.k] 271],vo cU8 5 bbufr bbuf] rfl (by first|rfl|simp only [List.flatten_cons,List.flatten_nil,List.append_nil,List.cons_append,List.nil_append,List.append_assoc])) (fun _=>[]) (fun _=>rfl)) fun _=>?_)))
 refine ip' 1 0 [(2,sv bbuf)] ?_
 subst hR
 refine ie (A7 ?_)
 exact D5 hr hD
def G4 (b:UInt8):Int :=
 (bif ((decide ((240:Int)≤(b.toNat:Int)))&&(decide ((b.toNat:Int)≤244))) then 4 else (bif ((decide ((224:Int)≤(b.toNat:Int)))&&(decide ((b.toNat:Int)<240))) then 3 else (bif ((decide ((194:Int)≤(b.toNat:Int)))&&(decide ((b.toNat:Int)<224))) then 2 else (bif (decide ((b.toNat:Int)<128)) then 1 else 0))))
theorem B8u (b:UInt8):G4 b≤4:=by
 unfold G4;simp only [Bool.cond_eq_ite];repeat' split
 all_goals omega
theorem C1p (b:UInt8) (R:Int) (hR:G4 b=R):I6 Tryz.prog 420 [.int .u8 (b.toNat:Int)] [] (iv R):=by
 refine zco Tryz.func420 [(0,.int .u8 (b.toNat:Int))] fun X hX hr hD=>?_
 replace hR:=(G4.eq_1 ..).symm.trans hR
 refine sr 1 rfl (ip' 1 0 [(2,iv 0)] ?_)
 refine ie (A3 (B0 (A3 (B0 (A3 (B0 (A3 (B0 (A3 (B0 (A3 (A3 (sr 7 rfl (ip' 3 4 [(6,bv (decide ((240:Int)≤(b.toNat:Int))))] ?_))))))))))))))
 refine zid 3 1 6 9 (decide ((b.toNat:Int)≤244)) (fun g1 g1p=>?_) ?_
 ·refine ip' 3 0 [(9,bv (decide ((b.toNat:Int)≤244)))] ?_
  exact A1 (H1 2 6 9 g1 fn0 (mk [] rfl) rfl rfl rfl rfl rfl)
 refine ip' 1 0 [(3,bv ((decide ((240:Int)≤(b.toNat:Int)))&&(decide ((b.toNat:Int)≤244))))] ?_
 refine ie ?_
 refine zja rfl hR ?_ ?_<;>clear hR<;>intro hR h2 h2p
 ·refine G2 (nx (A5 3 rfl (ip' 1 2 [(27,iv 0)] ?_)))
  refine ix rfl (B4 (c:=1) rfl rfl rfl rfl (by decide)) ?_
  refine ip' 1 0 [(2,iv 1)] ?_
  refine A1 (nx (A5 3 rfl (ip' 1 2 [(29,iv 1)] ?_)))
  refine ix rfl (B4 (c:=2) rfl rfl rfl rfl (by decide)) ?_
  refine ip' 1 0 [(2,iv 2)] ?_
  refine A1 (nx (A5 3 rfl (ip' 1 2 [(31,iv 2)] ?_)))
  refine ix rfl (B4 (c:=3) rfl rfl rfl rfl (by decide)) ?_
  refine ip' 1 0 [(2,iv 3)] ?_
  refine A1 (nx (sr 3 rfl (ip' 1 2 [(33,iv 3)] ?_)))
  refine ix rfl (B4 (c:=4) rfl rfl rfl rfl (by decide)) ?_
  refine ip' 1 0 [(2,iv 4)] ?_
  refine ie (G2 (nx (sr 2 rfl (ip' 2 0 [(2,iv 4)] ?_))))
  subst hR
  refine ie (A7 ?_)
  exact D5 hr hD
 refine A4 (nx (A3 (sr 7 rfl (ip' 3 4 [(13,bv (decide ((224:Int)≤(b.toNat:Int))))] ?_))))
 refine zid 3 1 13 16 (decide ((b.toNat:Int)<240)) (fun g3 g3p=>?_) ?_
 ·refine ip' 3 0 [(16,bv (decide ((b.toNat:Int)<240)))] ?_
  exact A1 (H1 2 13 16 g3 fn0 (mk [] rfl) rfl rfl rfl rfl rfl)
 refine ip' 1 0 [(10,bv ((decide ((224:Int)≤(b.toNat:Int)))&&(decide ((b.toNat:Int)<240))))] ?_
 refine ie ?_
 refine zja rfl hR ?_ ?_<;>clear hR<;>intro hR h4 h4p
 ·refine G2 (nx (A5 3 rfl (ip' 1 2 [(29,iv 0)] ?_)))
  refine ix rfl (B4 (c:=1) rfl rfl rfl rfl (by decide)) ?_
  refine ip' 1 0 [(2,iv 1)] ?_
  refine A1 (nx (A5 3 rfl (ip' 1 2 [(31,iv 1)] ?_)))
  refine ix rfl (B4 (c:=2) rfl rfl rfl rfl (by decide)) ?_
  refine ip' 1 0 [(2,iv 2)] ?_
  refine A1 (nx (sr 3 rfl (ip' 1 2 [(33,iv 2)] ?_)))
  refine ix rfl (B4 (c:=3) rfl rfl rfl rfl (by decide)) ?_
  refine ip' 1 0 [(2,iv 3)] ?_
  refine ie (G2 (nx (sr 2 rfl (ip' 2 0 [(2,iv 3)] ?_))))
  subst hR
  refine ie (A7 ?_)
  exact D5 hr hD
 refine A4 (nx (A3 (sr 7 rfl (ip' 3 4 [(20,bv (decide ((194:Int)≤(b.toNat:Int))))] ?_))))
 refine zid 3 1 20 23 (decide ((b.toNat:Int)<224)) (fun g5 g5p=>?_) ?_
 ·refine ip' 3 0 [(23,bv (decide ((b.toNat:Int)<224)))] ?_
  exact A1 (H1 2 20 23 g5 fn0 (mk [] rfl) rfl rfl rfl rfl rfl)
 refine ip' 1 0 [(17,bv ((decide ((194:Int)≤(b.toNat:Int)))&&(decide ((b.toNat:Int)<224))))] ?_
 refine ie ?_
 refine zja rfl hR ?_ ?_<;>clear hR<;>intro hR h6 h6p
 ·refine G2 (nx (A5 3 rfl (ip' 1 2 [(31,iv 0)] ?_)))
  refine ix rfl (B4 (c:=1) rfl rfl rfl rfl (by decide)) ?_
  refine ip' 1 0 [(2,iv 1)] ?_
  refine A1 (nx (sr 3 rfl (ip' 1 2 [(33,iv 1)] ?_)))
  refine ix rfl (B4 (c:=2) rfl rfl rfl rfl (by decide)) ?_
  refine ip' 1 0 [(2,iv 2)] ?_
  refine ie (G2 (nx (sr 2 rfl (ip' 2 0 [(2,iv 2)] ?_))))
  subst hR
  refine ie (A7 ?_)
  exact D5 hr hD
 refine A4 (nx (sr 3 rfl (ip' 3 0 [(24,bv (decide ((b.toNat:Int)<128)))] ?_)))
 refine ie ?_
 refine zjd rfl hR ?_ ?_<;>clear hR<;>intro hR h7 h7p
 ·refine G2 (nx (sr 3 rfl (ip' 1 2 [(33,iv 0)] ?_)))
  refine ix rfl (B4 (c:=1) rfl rfl rfl rfl (by decide)) ?_
  refine ip' 1 0 [(2,iv 1)] ?_
  refine ie (G2 (nx (sr 2 rfl (ip' 2 0 [(2,iv 1)] ?_))))
  subst hR
  refine ie (A7 ?_)
  exact D5 hr hD
 refine A4 (nx (G2 (nx (sr 2 rfl (ip' 2 0 [(2,iv 0)] ?_)))))
 subst hR
 refine ie (A7 ?_)
 exact D5 hr hD
def Y1 (b:UInt8):UInt8×UInt8 :=
 (bif (decide ((b.toNat:Int)=224)) then ((160:UInt8),(191:UInt8)) else (bif (decide ((b.toNat:Int)=237)) then ((128:UInt8),(159:UInt8)) else (bif (decide ((b.toNat:Int)=240)) then ((144:UInt8),(191:UInt8)) else (bif (decide ((b.toNat:Int)=244)) then ((128:UInt8),(143:UInt8)) else ((128:UInt8),(191:UInt8))))))
theorem C0f (b:UInt8) (R:UInt8×UInt8) (hR:Y1 b=R):I6 Tryz.prog 421 [.int .u8 (b.toNat:Int)] [] (.tuple #[.int .u8 (R.1.toNat:Int),.int .u8 (R.2.toNat:Int)]):=by
 refine zco Tryz.func421 [(0,.int .u8 (b.toNat:Int))] fun X hX hr hD=>?_
 replace hR:=(Y1.eq_1 ..).symm.trans hR
 refine sr 2 rfl (ip' 2 0 [] ?_)
 refine ie (A3 (sr 1 rfl (ip' 1 0 [(4,.int .u8 (b.toNat:Int))] ?_)))
 refine ie (B0 (sr 2 rfl (ip' 2 0 [(5,bv (decide ((b.toNat:Int)=224)))] ?_)))
 refine ie ?_
 refine zjd rfl hR ?_ ?_<;>clear hR<;>intro hR h1 h1p
 ·refine sr 2 rfl (ip' 2 0 [(2,.int .u8 160),(3,.int .u8 191)] ?_)
  subst hR
  refine ie (A7 ?_)
  exact A7m hr hD
 refine sr 2 rfl (ip' 2 0 [(7,bv (decide ((b.toNat:Int)=237)))] ?_)
 refine ie ?_
 refine zjd rfl hR ?_ ?_<;>clear hR<;>intro hR h2 h2p
 ·refine sr 2 rfl (ip' 2 0 [(2,.int .u8 128),(3,.int .u8 159)] ?_)
  subst hR
  refine ie (A7 ?_)
  exact A7m hr hD
 refine sr 2 rfl (ip' 2 0 [(9,bv (decide ((b.toNat:Int)=240)))] ?_)
 refine ie ?_
 refine zjd rfl hR ?_ ?_<;>clear hR<;>intro hR h3 h3p
 ·refine sr 2 rfl (ip' 2 0 [(2,.int .u8 144),(3,.int .u8 191)] ?_)
  subst hR
  refine ie (A7 ?_)
  exact A7m hr hD
 refine sr 2 rfl (ip' 2 0 [(11,bv (decide ((b.toNat:Int)=244)))] ?_)
 refine ie ?_
 refine zjd rfl hR ?_ ?_<;>clear hR<;>intro hR h4 h4p
 ·refine sr 2 rfl (ip' 2 0 [(2,.int .u8 128),(3,.int .u8 143)] ?_)
  subst hR
  refine ie (A7 ?_)
  exact A7m hr hD
 refine A4 (nx (sr 2 rfl (ip' 2 0 [(2,.int .u8 128),(3,.int .u8 191)] ?_)))
 subst hR
 refine ie (A7 ?_)
 exact A7m hr hD
def Q3 (p:List UInt8):List UInt8→UInt8→UInt8→Nat→Int
 | [],low,high,t26=>(bif (decide ((p.length:Int)<(G4 (p.getD 0 0)))) then 1 else 2)
 | hd_l0::tl_l0,low,high,t26=>(bif ((decide ((hd_l0.toNat:Int)<(low.toNat:Int)))||(decide ((high.toNat:Int)<(hd_l0.toNat:Int)))) then 0 else Q3 p tl_l0 (128:UInt8) (191:UInt8) (t26+1))
def I3 (p:List UInt8):Int :=
 (bif (decide ((G4 (p.getD 0 0))<(p.length:Int))) then 0 else (F1 (Y1 (p.getD 0 0)) fun (y2:UInt8×UInt8)=>Q3 p (p.drop 1) y2.1 y2.2 0))
theorem B6w {p:List UInt8} (h:I3 p=1):p.length≤4:=by
 unfold I3 at h;have:=B8u (p.getD 0 0);revert h this;generalize p.getD 0 0=z;intro h this
 cases hc:decide (G4 z<(p.length:Int))<;>rw [hc] at h<;>simp at h hc
 omega
theorem B1r (p:List UInt8) (pq:Option Addr) (pk:Nat) (hlp:p.length≤9223372036854775807) (hcp:p.length≤pk) (hp:1≤p.length) (R:Int) (hR:I3 p=R):I6 Tryz.prog 392 [.slice pq p.length pk] [sl cU8 pq p] (iv R):=by
 refine zco Tryz.func392 [(0,.slice pq p.length pk)] fun X hX hr hD=>?_
 replace hR:=(I3.eq_1 ..).symm.trans hR
 refine sr 1 rfl (ip' 1 0 [] ?_)
 refine ie (sr 5 rfl (ip' 1 4 [(8,.slice pq p.length pk)] ?_))
 refine J3 0 rfl (by omega) fun a1 hq2=>?_
 refine ix rfl (E8 R3 rfl rfl hq2 rfl 0 rfl (by omega)) ?_
 refine ix rfl (C8 (v:=.int .u8 ((p.getD 0 0).toNat:Int)) (us:=[.int .u8 ((p.getD 0 0).toNat:Int)]) ty5 rfl rfl (G0 (c:=cU8) (sz:=1) hq2 (fun _=>rfl) 0 rfl (gd 0 (by omega))) rfl) ?_
 refine zca (C1p (p.getD 0 0) _ rfl) fn0 ?_
 refine ip' 1 0 [(3,iv (G4 (p.getD 0 0)))] ?_
 refine ie (A3 (sr 4 rfl (ip' 4 0 [(15,bv (decide ((G4 (p.getD 0 0))<(p.length:Int))))] ?_)))
 refine ie ?_
 refine zjd rfl hR ?_ ?_<;>clear hR<;>intro hR h3 h3p
 ·refine sr 1 rfl (ip' 1 0 [(2,iv 0)] ?_)
  subst hR
  refine ie (A7 ?_)
  exact D5 hr hD
 refine A4 (nx (sr 9 rfl (ip' 1 8 [(17,.slice pq p.length pk)] ?_)))
 refine ix rfl (E8 R3 rfl rfl hq2 rfl 0 rfl (by omega)) ?_
 refine ix rfl (C8 (v:=.int .u8 ((p.getD 0 0).toNat:Int)) (us:=[.int .u8 ((p.getD 0 0).toNat:Int)]) ty5 rfl rfl (G0 (c:=cU8) (sz:=1) hq2 (fun _=>rfl) 0 rfl (gd 0 (by omega))) rfl) ?_
 have hQ:=G6 hR;clear hR;obtain ⟨y2,hy2,hR⟩:=hQ
 refine zca (C0f (p.getD 0 0) y2 hy2) fn0 ?_
 refine ip' 5 0 [(4,.int .u8 (y2.1.toNat:Int)),(5,.int .u8 (y2.2.toNat:Int))] ?_
 refine ie (A3 (sr 4 rfl (ip' 1 3 [(23,.slice pq p.length pk)] ?_)))
 refine H6 (C1i (c:=cU8) (sz:=1) (xs:=p) (B5 0 rfl) 1 pk (fun _=>rfl) (by omega) (by omega)) ?_
 refine ix rfl (A6r (n':=(p.drop 1).length) R3 rfl rfl 1 p.length pk (U6 rfl rfl) A0d A0d (by omega) (by omega) (by omega) (by first|rfl|omega|(simp only [List.length_take,List.length_drop];omega)|(simp;done)) rfl) ?_
 have:=@List.length_drop _ 1 p
 refine ip' 2 0 [(25,iv ((p.drop 1).length:Int)),(26,iv 0)] ?_
 refine ie (B0 (D2m (fun (low:UInt8) (high:UInt8) (t26:Nat)=>(t26≤(p.drop 1).length∧Q3 p ((p.drop 1).drop t26) low high t26=R,[(0,.slice pq p.length pk),(3,iv (G4 (p.getD 0 0))),(4,.int .u8 (low.toNat:Int)),(5,.int .u8 (high.toNat:Int)),(24,.slice (A6d pq 1 1 pk) ((p.drop 1).length) (pk - 1)),(25,iv ((p.drop 1).length:Int)),(26,iv (t26:Int))],[],[sl cU8 (A6d pq 1 1 pk) (p.drop 1),sl cU8 pq p],(p.drop 1).length - t26)) y2.1 y2.2 0 ⟨(by omega),hR⟩ (mk [] rfl) A2.refl ?_))
 rintro low high t26 ⟨hm4,hR⟩
 refine sr 1 rfl (ip' 1 0 [(27,bv (decide ((t26:Int)<((p.drop 1).length:Int))))] ?_)
 refine ie (A3 (S2 rfl (fun h5=>?_) (fun h5=>?_)))
 ·have h5p:(t26:Int)<((p.drop 1).length:Int):=by simpa using h5
  rw [U1 0 (show t26<(p.drop 1).length by omega)] at hR;replace hR:=(Q3.eq_2 ..).symm.trans hR
  refine A4 (nx (A3 (B0 (sr 3 rfl (J3 0 rfl (by omega) fun a6 hq7=>?_)))))
  refine ix rfl (E8 R3 rfl rfl hq7 rfl t26 rfl (by omega)) ?_
  refine ix rfl (C8 (v:=.int .u8 (((p.drop 1).getD t26 0).toNat:Int)) (us:=[.int .u8 (((p.drop 1).getD t26 0).toNat:Int)]) ty5 rfl rfl (G0 (c:=cU8) (sz:=1) hq7 (fun _=>rfl) 0 rfl (gd 0 (by omega))) rfl) ?_
  refine ip' 1 0 [(7,.int .u8 (((p.drop 1).getD t26 0).toNat:Int))] ?_
  refine ie (A3 (sr 8 rfl (ip' 4 4 [(33,bv (decide ((((p.drop 1).getD t26 0).toNat:Int)<(low.toNat:Int))))] ?_)))
  refine zir 4 0 33 37 (decide ((high.toNat:Int)<(((p.drop 1).getD t26 0).toNat:Int))) (fun g8 g8p=>?_) ?_
  ·refine ip' 4 0 [(37,bv (decide ((high.toNat:Int)<(((p.drop 1).getD t26 0).toNat:Int))))] ?_
   exact zai 2 33 37 g8
  refine ie ?_
  refine zjo rfl hR ?_ ?_<;>clear hR<;>intro hR h9 h9p
  ·refine sr 1 rfl (ip' 1 0 [(2,iv 0)] ?_)
   subst hR
   refine ie (A7 ?_)
   exact D5 hr hD
  refine A4 (nx (A5 2 rfl (ip' 2 0 [(4,.int .u8 128),(5,.int .u8 191)] ?_)))
  refine A1 (nx (A5 2 rfl (ix rfl (B4 rfl rfl rfl rfl (by omega)) ?_)))
  refine ip' 1 0 [(26,iv ((t26:Int)+1))] ?_
  refine A1 ?_
  exact D0u (z1:=low) (z2:=high) (z3:=t26) (128:UInt8) (191:UInt8) (t26+1) ⟨(by omega),hR⟩ (by (try dsimp only);omega) (mk [] rfl) A2.refl
 have h5p:¬ ((t26:Int)<((p.drop 1).length:Int)):=by simpa using h5
 rw [U2 h5p] at hR;replace hR:=(Q3.eq_1 ..).symm.trans hR
 refine G2 (nx (A3 (sr 4 rfl (ip' 4 0 [(42,bv (decide ((p.length:Int)<(G4 (p.getD 0 0)))))] ?_))))
 refine ie ?_
 refine zjd rfl hR ?_ ?_<;>clear hR<;>intro hR h10 h10p
 ·refine sr 1 rfl (ip' 1 0 [(2,iv 1)] ?_)
  subst hR
  refine ie (A7 ?_)
  exact D5 hr hD
 refine A4 (nx (sr 1 rfl (ip' 1 0 [(2,iv 2)] ?_)))
 subst hR
 refine ie (A7 ?_)
 exact D5 hr hD
def S0 (pending:List UInt8):Bool :=
 ((decide ((pending.length:Int)=0))||(decide ((I3 pending)=1)))
theorem B4q (pending:List UInt8) (pendingq:Option Addr) (pendingk:Nat) (hlpending:pending.length≤9223372036854775807) (hcpending:pending.length≤pendingk) (R:Bool) (hR:S0 pending=R):I6 Tryz.prog 391 [.slice pendingq pending.length pendingk] [sl cU8 pendingq pending] (bv R):=by
 refine zco Tryz.func391 [(0,.slice pendingq pending.length pendingk)] fun X hX hr hD=>?_
 replace hR:=(S0.eq_1 ..).symm.trans hR
 refine sr 1 rfl (ip' 1 0 [] ?_)
 refine ie (sr 9 rfl (ip' 4 5 [(6,bv (decide ((pending.length:Int)=0)))] ?_))
 refine zir 4 1 6 10 (decide ((I3 pending)=1)) (fun g1 g1p=>?_) ?_
 ·refine ip' 1 3 [(7,.slice pendingq pending.length pendingk)] ?_
  refine zca (B1r pending pendingq pendingk (by first|omega|(simp only [List.length_take,List.length_drop,List.length_append,List.length_cons,List.length_nil,List.length_set,List.length_map];omega)|decide) (by first|omega|(simp only [List.length_take,List.length_drop,List.length_append,List.length_cons,List.length_nil,List.length_set,List.length_map];omega)|decide) (by first|omega|(simp only [List.length_append,List.length_cons,List.length_nil];omega)) _ rfl) A2.refl ?_
  refine ip' 2 0 [(10,bv (decide ((I3 pending)=1)))] ?_
  exact zai 4 6 10 g1
 refine ip' 1 0 [(2,bv ((decide ((pending.length:Int)=0))||(decide ((I3 pending)=1))))] ?_
 subst hR
 refine ie (A7 ?_)
 exact D5 hr hD
def A0b:List UInt8→Int→Nat→Int
 | [],cp1,t22=>cp1
 | hd_l0::tl_l0,cp1,t22=>A0b tl_l0 (bOp .or .i64 (IntKind.i64.wrap (cp1 * 64)) ((by8 (bOp .and .u8 (hd_l0.toNat:Int) 63)).toNat:Int)) (t22+1)
def A0x (p:List UInt8) (cp:Int):Int :=
 A0b (p.drop 1) cp 0
def Q8 (p:List UInt8):Int :=
 (bif (decide ((1:Int)<(p.length:Int))) then A0x p (bOp .and .i64 ((p.getD 0 0).toNat:Int) (Int.fdiv (255:Int) (2 ^ (min (((p.length:Int)+1)).toNat 64)))) else A0x p ((p.getD 0 0).toNat:Int))
theorem B7b (p:List UInt8) (pq:Option Addr) (pk:Nat) (hlp:p.length≤9223372036854775807) (hcp:p.length≤pk) (hp:1≤p.length) (hp2:p.length≤1000000) (R:Int) (hR:Q8 p=R):I6 Tryz.prog 393 [.slice pq p.length pk] [sl cU8 pq p] (iv R):=by
 refine zco Tryz.func393 [(0,.slice pq p.length pk)] fun X hX hr hD=>?_
 replace hR:=(Q8.eq_1 ..).symm.trans hR
 refine sr 1 rfl (ip' 1 0 [] ?_)
 refine ie (sr 5 rfl (ip' 1 4 [(6,.slice pq p.length pk)] ?_))
 refine J3 0 rfl (by omega) fun a1 hq2=>?_
 refine ix rfl (E8 R3 rfl rfl hq2 rfl 0 rfl (by omega)) ?_
 refine ix rfl (C8 (v:=.int .u8 ((p.getD 0 0).toNat:Int)) (us:=[.int .u8 ((p.getD 0 0).toNat:Int)]) ty5 rfl rfl (G0 (c:=cU8) (sz:=1) hq2 (fun _=>rfl) 0 rfl (gd 0 (by omega))) rfl) ?_
 refine ix rfl (A3l (c:=((p.getD 0 0).toNat:Int)) Tryz.underlying3 (by kernel_rfl) rfl rfl (A1d (p.getD 0 0))) ?_
 refine ip' 1 0 [(3,iv ((p.getD 0 0).toNat:Int))] ?_
 refine ie (B5u (fun (cp:Int)=>(A0x p cp=R,[(0,.slice pq p.length pk),(3,iv cp)],[],[sl cU8 pq p])) ?_ ?_)
 ·refine sr 3 rfl (ip' 3 0 [(12,bv (decide ((1:Int)<(p.length:Int))))] ?_)
  refine ie ?_
  refine zjd rfl hR ?_ ?_<;>clear hR<;>intro hR h3 h3p
  ·refine A5 7 rfl (ip' 3 4 [(13,iv ((p.getD 0 0).toNat:Int)),(15,iv (p.length:Int))] ?_)
   refine ix rfl (B4 rfl rfl rfl rfl (by omega)) ?_
   refine ix rfl (A2t rfl rfl rfl (by omega) rfl) ?_
   refine ip' 2 0 [(3,iv (bOp .and .i64 ((p.getD 0 0).toNat:Int) (Int.fdiv (255:Int) (2 ^ (min (((p.length:Int)+1)).toNat 64)))))] ?_
   refine A1 ?_
   exact A2q (bOp .and .i64 ((p.getD 0 0).toNat:Int) (Int.fdiv (255:Int) (2 ^ (min (((p.length:Int)+1)).toNat 64)))) hR (mk [] rfl) A2.refl
  refine A4 ?_
  exact A2q ((p.getD 0 0).toNat:Int) hR (mk [] rfl) A2.refl
 intro cp
 rintro hR
 replace hR:=(A0x.eq_1 ..).symm.trans hR
 refine A3 (sr 4 rfl (ip' 1 3 [(19,.slice pq p.length pk)] ?_))
 refine H6 (C1i (c:=cU8) (sz:=1) (xs:=p) (B5 0 rfl) 1 pk (fun _=>rfl) (by omega) (by omega)) ?_
 refine ix rfl (A6r (n':=(p.drop 1).length) R3 rfl rfl 1 p.length pk (U6 rfl rfl) A0d A0d (by omega) (by omega) (by omega) (by first|rfl|omega|(simp only [List.length_take,List.length_drop];omega)|(simp;done)) rfl) ?_
 have:=@List.length_drop _ 1 p
 refine ip' 2 0 [(21,iv ((p.drop 1).length:Int)),(22,iv 0)] ?_
 refine ie (B0 (C9d (fun (cp1:Int) (t22:Nat)=>(t22≤(p.drop 1).length∧A0b ((p.drop 1).drop t22) cp1 t22=R,[(3,iv cp1),(20,.slice (A6d pq 1 1 pk) ((p.drop 1).length) (pk - 1)),(21,iv ((p.drop 1).length:Int)),(22,iv (t22:Int))],[],[sl cU8 (A6d pq 1 1 pk) (p.drop 1),sl cU8 pq p],(p.drop 1).length - t22)) cp 0 ⟨(by omega),hR⟩ (mk [] rfl) A2.refl ?_))
 rintro cp1 t22 ⟨hm4,hR⟩
 refine sr 1 rfl (ip' 1 0 [(23,bv (decide ((t22:Int)<((p.drop 1).length:Int))))] ?_)
 refine ie (A3 (S2 rfl (fun h5=>?_) (fun h5=>?_)))
 ·have h5p:(t22:Int)<((p.drop 1).length:Int):=by simpa using h5
  rw [U1 0 (show t22<(p.drop 1).length by omega)] at hR;replace hR:=(A0b.eq_2 ..).symm.trans hR
  refine A4 (nx (A3 (B0 (sr 3 rfl (J3 0 rfl (by omega) fun a6 hq7=>?_)))))
  refine ix rfl (E8 R3 rfl rfl hq7 rfl t22 rfl (by omega)) ?_
  refine ix rfl (C8 (v:=.int .u8 (((p.drop 1).getD t22 0).toNat:Int)) (us:=[.int .u8 (((p.drop 1).getD t22 0).toNat:Int)]) ty5 rfl rfl (G0 (c:=cU8) (sz:=1) hq7 (fun _=>rfl) 0 rfl (gd 0 (by omega))) rfl) ?_
  refine ip' 1 0 [(5,.int .u8 (((p.drop 1).getD t22 0).toNat:Int))] ?_
  refine ie (A5 7 rfl (ip' 1 6 [(26,iv cp1)] ?_))
  refine ix rfl (D0k (c:=(IntKind.i64.wrap (cp1 * 64))) rfl rfl rfl (by decide) (by simp [IntKind.bits])) ?_
  refine ip' 1 4 [(28,.int .u8 (((p.drop 1).getD t22 0).toNat:Int))] ?_
  refine ix rfl (F9 (v:=.int .u8 (bOp .and .u8 (((p.drop 1).getD t22 0).toNat:Int) 63)) (I9.pure rfl) (B3z)) ?_
  refine ix rfl (A3l (c:=((by8 (bOp .and .u8 (((p.drop 1).getD t22 0).toNat:Int) 63)).toNat:Int)) Tryz.underlying3 (by kernel_rfl) rfl rfl (A1d (by8 (bOp .and .u8 (((p.drop 1).getD t22 0).toNat:Int) 63)))) ?_
  refine ip' 2 0 [(3,iv (bOp .or .i64 (IntKind.i64.wrap (cp1 * 64)) ((by8 (bOp .and .u8 (((p.drop 1).getD t22 0).toNat:Int) 63)).toNat:Int)))] ?_
  refine A1 (nx (A5 2 rfl (ix rfl (B4 rfl rfl rfl rfl (by omega)) ?_)))
  refine ip' 1 0 [(22,iv ((t22:Int)+1))] ?_
  refine A1 ?_
  exact C9t (z1:=cp1) (z2:=t22) (bOp .or .i64 (IntKind.i64.wrap (cp1 * 64)) ((by8 (bOp .and .u8 (((p.drop 1).getD t22 0).toNat:Int) 63)).toNat:Int)) (t22+1) ⟨(by omega),hR⟩ (by (try dsimp only);omega) (mk [] rfl) A2.refl
 have h5p:¬ ((t22:Int)<((p.drop 1).length:Int)):=by simpa using h5
 rw [U2 h5p] at hR;replace hR:=(A0b.eq_1 ..).symm.trans hR
 refine G2 (nx (sr 2 rfl (ip' 2 0 [(2,iv cp1)] ?_)))
 subst hR
 refine ie (A7 ?_)
 exact D5 hr hD
def A5w:Bool :=
 true
theorem C1j (R:Bool) (hR:A5w=R):I6 Tryz.prog 391 [.slice none 0 0] [] (bv R):=by
 refine zco Tryz.func391 [(0,.slice none 0 0)] fun X hX hr hD=>?_
 replace hR:=(A5w.eq_1 ..).symm.trans hR
 refine sr 1 rfl (ip' 1 0 [] ?_)
 refine ie (sr 9 rfl (ip' 9 0 [(2,bv true)] ?_))
 subst hR
 refine ie (A7 ?_)
 exact D5 hr hD
def U7 (b:UInt8):List UInt8×List Int :=
 (bif (decide ((I3 (([]:List UInt8)++([b]:List UInt8)))=2)) then (([]:List UInt8),([(Q8 (([]:List UInt8)++([b]:List UInt8)))]:List Int)) else (bif (decide ((I3 (([]:List UInt8)++([b]:List UInt8)))=1)) then ((([]:List UInt8)++([b]:List UInt8)),([]:List Int)) else (([]:List UInt8),([65533]:List Int))))
def Q1 (b:UInt8):List UInt8×List Int :=
 (bif (!A5w) then U7 b else U7 b)
theorem B1f (b:UInt8):(Q1 b).1.length≤4∧(Q1 b).2.length≤1:=by
 have h0:(U7 b).1.length≤4∧(U7 b).2.length≤1:=by
  unfold U7;simp only [Bool.cond_eq_ite];repeat' split
  all_goals simp
 unfold Q1;cases (!A5w)<;>exact h0
theorem C2l (b:UInt8) (hp:([]:List Unit).length≤1000) (R:List UInt8×List Int) (hR:Q1 b=R):Con Tryz.prog 358 [.slice none 0 0,.int .u8 (b.toNat:Int)] [] [] ({t:Option Addr×Nat // R.1.length≤t.2∧R.1.length≤9223372036854775807}×{t:Option Addr×Nat // R.2.length≤t.2∧R.2.length≤9223372036854775807}) (fun x=>.tuple #[.slice x.1.1.1 R.1.length x.1.1.2,.slice x.2.1.1 R.2.length x.2.1.2]) (fun x=>[]) (fun x=>[sl cU8 x.1.1.1 R.1,sl K8 x.2.1.1 R.2]):=by
 refine zco Tryz.func358 [(0,.slice none 0 0),(1,.int .u8 (b.toNat:Int))] fun X hX hr hD=>?_
 replace hR:=(Q1.eq_1 ..).symm.trans hR
 refine sr 2 rfl (ip' 2 0 [] ?_)
 refine ie (B5u (fun (_:Unit)=>(U7 b=R,[(0,.slice none 0 0),(1,.int .u8 (b.toNat:Int))],[],[])) ?_ ?_)
 ·refine sr 3 rfl (ip' 1 2 [(7,.slice none 0 0)] ?_)
  refine zca (C1j _ rfl) fn0 ?_
  refine ip' 1 0 [(9,bv (!A5w))] ?_
  refine ie ?_
  refine zjb rfl hR ?_ ?_<;>clear hR<;>intro hR h1
  ·refine A5 1 rfl (ip' 1 0 [(0,.slice none 0 0)] ?_)
   refine A1 ?_
   exact A2q () hR (mk [] rfl) fn0
  refine A4 ?_
  exact A2q () hR (mk [] rfl) fn0
 intro _
 rintro hR
 replace hR:=(U7.eq_1 ..).symm.trans hR
 refine sr 10 rfl (ip' 5 5 [(10,.slice none 0 0),(12,iv 0),(14,iv 0)] ?_)
 refine ix rfl (A6r R3 rfl rfl 0 0 0 A0d (U6 rfl rfl) (U6 rfl rfl) (by decide) (by decide) (by decide) (n':=0) rfl rfl) ?_
 refine ip' 1 3 [(16,.int .u8 (b.toNat:Int))] ?_
 refine it rfl (E9 (c:=cU8) (xs:=([b]:List UInt8)) R3 rfl rfl rfl (by kernel_rfl)) fun b2=>?_
 have:([b]:List UInt8).length=1:=rfl
 refine it rfl (B0h (f:=cU8) (r:=VR.nil) (xs:=([]:List UInt8)) (ys:=([b]:List UInt8)) (pre:=[]) (post:=[]) A9y (fun _=>rfl) (fun _=>rfl) rfl rfl rfl rfl rfl rfl rfl rfl rfl (B5 0 rfl) VOk.nil (by first|omega|(simp only [List.length_cons,List.length_nil,List.length_append,List.length_take,List.length_drop];omega)) (by first|omega|(simp only [List.length_cons,List.length_nil,List.length_append,List.length_take,List.length_drop];omega))) fun ⟨r3,hr4⟩=>?_
 have:=VOk.le hr4
 have:=VOk.cap hr4
 refine S1 [] [] (T:=5) (c:=cU8) (r:=r3) (xs:=(([]:List UInt8)++([b]:List UInt8))) hr4 (by first|rfl|simp only [List.cons_append,List.append_assoc,List.nil_append,List.append_nil]) ?_
 refine ip' 1 0 [(6,.slice (va r3.q) ((([]:List UInt8)++([b]:List UInt8)).length) r3.k)] ?_
 refine ie (A3 (sr 2 rfl (ip' 1 1 [(19,.slice (va r3.q) ((([]:List UInt8)++([b]:List UInt8)).length) r3.k)] ?_)))
 refine zca (B1r (([]:List UInt8)++([b]:List UInt8)) (va r3.q) r3.k (by first|omega|(simp only [List.length_take,List.length_drop,List.length_append,List.length_cons,List.length_nil,List.length_set,List.length_map];omega)|decide) (by first|omega|(simp only [List.length_take,List.length_drop,List.length_append,List.length_cons,List.length_nil,List.length_set,List.length_map];omega)|decide) (by first|omega|(simp only [List.length_append,List.length_cons,List.length_nil];omega)) _ rfl) (A2.pick [0] rfl) ?_
 refine ie (B0 (sr 2 rfl (ip' 2 0 [(21,bv (decide ((I3 (([]:List UInt8)++([b]:List UInt8)))=2)))] ?_)))
 refine ie ?_
 refine zjd rfl hR ?_ ?_<;>clear hR<;>intro hR h5 h5p
 ·refine sr 5 rfl (ip' 1 4 [(23,.slice (va r3.q) ((([]:List UInt8)++([b]:List UInt8)).length) r3.k)] ?_)
  refine zca (B7b (([]:List UInt8)++([b]:List UInt8)) (va r3.q) r3.k (by first|omega|(simp only [List.length_take,List.length_drop,List.length_append,List.length_cons,List.length_nil,List.length_set,List.length_map];omega)|decide) (by first|omega|(simp only [List.length_take,List.length_drop,List.length_append,List.length_cons,List.length_nil,List.length_set,List.length_map];omega)|decide) (by first|omega|(simp only [List.length_append,List.length_cons,List.length_nil];omega)) (by first|omega|(simp only [List.length_append,List.length_cons,List.length_nil];omega)) _ rfl) (A2.pick [0] rfl) ?_
  refine it rfl (E9 (c:=K8) (xs:=([(Q8 (([]:List UInt8)++([b]:List UInt8)))]:List Int)) V7 rfl rfl rfl (by kernel_rfl)) fun b6=>?_
  have:([(Q8 (([]:List UInt8)++([b]:List UInt8)))]:List Int).length=1:=rfl
  refine ip' 2 0 [(4,.slice none 0 0),(5,.slice (some ⟨b6,0,none⟩) 1 1)] ?_
  subst hR
  refine ie (A7 ?_)
  exact zer hr hD (V5 rfl (B1 rfl) (B1 rfl)) ((zq none 0),(zq (some ⟨b6,0,none⟩) 1)) (mk [] rfl) (A2.con1 P2 (A2.con1 (B5 0 rfl) fn0))
 refine sr 2 rfl (ip' 2 0 [(26,bv (decide ((I3 (([]:List UInt8)++([b]:List UInt8)))=1)))] ?_)
 refine ie ?_
 refine zjd rfl hR ?_ ?_<;>clear hR<;>intro hR h7 h7p
 ·refine sr 3 rfl (ip' 3 0 [(4,.slice (va r3.q) ((([]:List UInt8)++([b]:List UInt8)).length) r3.k),(5,.slice none 0 0)] ?_)
  subst hR
  refine ie (A7 ?_)
  exact zer hr hD (V5 rfl (B1 rfl) (B1 rfl)) ((zq (va r3.q) r3.k),(zq none 0)) (mk [] rfl) (A2.con1 (B5 0 rfl) (A2.con1 P2 fn0))
 refine A4 (nx (A3 (sr 3 rfl (ip' 3 0 [(31,bv true)] ?_))))
 refine ie (H8 rfl (sr 3 rfl (it rfl (E9 (c:=K8) (xs:=([65533]:List Int)) V7 rfl rfl rfl (by kernel_rfl)) fun b8=>?_)))
 have:([65533]:List Int).length=1:=rfl
 refine ip' 2 0 [(4,.slice none 0 0),(5,.slice (some ⟨b8,0,none⟩) 1 1)] ?_
 subst hR
 refine ie (A7 ?_)
 exact zer hr hD (V5 rfl (B1 rfl) (B1 rfl)) ((zq none 0),(zq (some ⟨b8,0,none⟩) 1)) (mk [] rfl) (A2.con1 P2 (A2.con1 (B5 0 rfl) fn0))
def X8 (b:UInt8) (pending1:List UInt8):List UInt8×List Int :=
 (bif (decide ((I3 (pending1++([b]:List UInt8)))=2)) then (([]:List UInt8),([(Q8 (pending1++([b]:List UInt8)))]:List Int)) else (bif (decide ((I3 (pending1++([b]:List UInt8)))=1)) then ((pending1++([b]:List UInt8)),([]:List Int)) else (bif (decide ((pending1.length:Int)=0)) then (([]:List UInt8),([65533]:List Int)) else ((Q1 b).1,(([65533]:List Int)++(Q1 b).2)))))
def H7 (pending:List UInt8) (b:UInt8):List UInt8×List Int :=
 (bif (!(S0 pending)) then X8 b ([]:List UInt8) else X8 b pending)
theorem B2p (p:List UInt8) (b:UInt8):(H7 p b).1.length≤4∧(H7 p b).2.length≤2:=by
 have h0:∀ q,(X8 b q).1.length≤4∧(X8 b q).2.length≤2:=by
  intro q;unfold X8;simp only [Bool.cond_eq_ite];have:=B1f b;repeat' split
  all_goals simp
  ·rename_i h;have:=B6w (by simpa using h);simpa using this
  ·omega
 unfold H7;cases (!(S0 p))<;>exact h0 _
theorem C5j (pending:List UInt8) (b:UInt8) (pendingq:Option Addr) (pendingk:Nat) (hlpending:pending.length≤9223372036854775807) (hcpending:pending.length≤pendingk) (hp:pending.length≤1000) (R:List UInt8×List Int) (hR:H7 pending b=R):Con Tryz.prog 358 [.slice pendingq pending.length pendingk,.int .u8 (b.toNat:Int)] [] [sl cU8 pendingq pending] ({t:Option Addr×Nat // R.1.length≤t.2∧R.1.length≤9223372036854775807}×{t:Option Addr×Nat // R.2.length≤t.2∧R.2.length≤9223372036854775807}) (fun x=>.tuple #[.slice x.1.1.1 R.1.length x.1.1.2,.slice x.2.1.1 R.2.length x.2.1.2]) (fun x=>[]) (fun x=>[sl cU8 x.1.1.1 R.1,sl K8 x.2.1.1 R.2]):=by
 refine zco Tryz.func358 [(0,.slice pendingq pending.length pendingk),(1,.int .u8 (b.toNat:Int))] fun X hX hr hD=>?_
 replace hR:=(H7.eq_1 ..).symm.trans hR
 refine sr 2 rfl (ip' 2 0 [] ?_)
 refine ie (D5h (fun (pending1:List UInt8) (pendingq1:Option Addr) (pendingk1:Nat)=>(X8 b pending1=R∧pending1.length≤pendingk1∧pending1.length≤9223372036854775807∧pending1.length≤1000,[(0,.slice pendingq1 pending1.length pendingk1),(1,.int .u8 (b.toNat:Int))],[],[sl cU8 pendingq pending,sl cU8 pendingq1 pending1])) ?_ ?_)
 ·refine sr 3 rfl (ip' 1 2 [(7,.slice pendingq pending.length pendingk)] ?_)
  refine zca (B4q pending pendingq pendingk (by first|omega|(simp only [List.length_take,List.length_drop,List.length_append,List.length_cons,List.length_nil,List.length_set,List.length_map];omega)|decide) (by first|omega|(simp only [List.length_take,List.length_drop,List.length_append,List.length_cons,List.length_nil,List.length_set,List.length_map];omega)|decide) _ rfl) A2.refl ?_
  refine ip' 1 0 [(9,bv (!(S0 pending)))] ?_
  refine ie ?_
  refine zjb rfl hR ?_ ?_<;>clear hR<;>intro hR h1
  ·refine A5 1 rfl (ip' 1 0 [(0,.slice none 0 0)] ?_)
   refine A1 ?_
   exact D1a ([]:List UInt8) none 0 ⟨hR,(by first|omega|(simp only [List.length_take,List.length_drop,List.length_append,List.length_cons,List.length_nil,List.length_set,List.length_map];omega)|decide),(by first|omega|(simp only [List.length_take,List.length_drop,List.length_append,List.length_cons,List.length_nil,List.length_set,List.length_map];omega)|decide),(by first|omega|(simp only [List.length_nil];omega))⟩ (mk [] rfl) (A2.con1 (B5 0 rfl) (A2.con1 P2 fn0))
  refine A4 ?_
  exact D1a pending pendingq pendingk ⟨hR,(by first|omega|(simp only [List.length_take,List.length_drop,List.length_append,List.length_cons,List.length_nil,List.length_set,List.length_map];omega)|decide),(by first|omega|(simp only [List.length_take,List.length_drop,List.length_append,List.length_cons,List.length_nil,List.length_set,List.length_map];omega)|decide),(by first|omega|(simp only [List.length_nil];omega))⟩ (mk [] rfl) (A2.pick [0,0] rfl)
 intro pending1 pendingq1 pendingk1
 rintro ⟨hR,hcpending1,hlpending1,hj⟩
 replace hR:=(X8.eq_1 ..).symm.trans hR
 refine sr 10 rfl (ip' 5 5 [(10,.slice pendingq1 pending1.length pendingk1),(12,iv (pending1.length:Int)),(14,iv (pending1.length:Int))] ?_)
 refine ix rfl (A7j (n':=pending1.length) R3 rfl rfl pending1.length pending1.length (U6 rfl rfl) (U6 rfl rfl) (by omega) (by omega) (by first|rfl|omega) rfl) ?_
 refine ip' 1 3 [(16,.int .u8 (b.toNat:Int))] ?_
 refine it rfl (E9 (c:=cU8) (xs:=([b]:List UInt8)) R3 rfl rfl rfl (by kernel_rfl)) fun b2=>?_
 have:([b]:List UInt8).length=1:=rfl
 refine it rfl (B6q (f:=cU8) (xs:=pending1) (ys:=([b]:List UInt8)) A9y (fun _=>rfl) (fun _=>rfl) rfl rfl rfl rfl rfl rfl (by omega) (by omega) (by rfl) (B5 2 rfl) (B5 0 rfl) (by first|omega|(simp only [List.length_cons,List.length_nil,List.length_append,List.length_take,List.length_drop];omega)) (by first|omega|(simp only [List.length_cons,List.length_nil,List.length_append,List.length_take,List.length_drop];omega))) fun ⟨⟨q3,k4⟩,hq5⟩=>?_
 refine ip' 1 0 [(6,.slice q3 ((pending1++([b]:List UInt8)).length) k4)] ?_
 refine ie (A3 (sr 2 rfl (ip' 1 1 [(19,.slice q3 ((pending1++([b]:List UInt8)).length) k4)] ?_)))
 refine zca (B1r (pending1++([b]:List UInt8)) q3 k4 (by first|omega|(simp only [List.length_take,List.length_drop,List.length_append,List.length_cons,List.length_nil,List.length_set,List.length_map];omega)|decide) (by first|omega|(simp only [List.length_take,List.length_drop,List.length_append,List.length_cons,List.length_nil,List.length_set,List.length_map];omega)|decide) (by first|omega|(simp only [List.length_append,List.length_cons,List.length_nil];omega)) _ rfl) (A2.pick [0] rfl) ?_
 refine ie (B0 (sr 2 rfl (ip' 2 0 [(21,bv (decide ((I3 (pending1++([b]:List UInt8)))=2)))] ?_)))
 refine ie ?_
 refine zjd rfl hR ?_ ?_<;>clear hR<;>intro hR h6 h6p
 ·refine sr 5 rfl (ip' 1 4 [(23,.slice q3 ((pending1++([b]:List UInt8)).length) k4)] ?_)
  refine zca (B7b (pending1++([b]:List UInt8)) q3 k4 (by first|omega|(simp only [List.length_take,List.length_drop,List.length_append,List.length_cons,List.length_nil,List.length_set,List.length_map];omega)|decide) (by first|omega|(simp only [List.length_take,List.length_drop,List.length_append,List.length_cons,List.length_nil,List.length_set,List.length_map];omega)|decide) (by first|omega|(simp only [List.length_append,List.length_cons,List.length_nil];omega)) (by first|omega|(simp only [List.length_append,List.length_cons,List.length_nil];omega)) _ rfl) (A2.pick [0] rfl) ?_
  refine it rfl (E9 (c:=K8) (xs:=([(Q8 (pending1++([b]:List UInt8)))]:List Int)) V7 rfl rfl rfl (by kernel_rfl)) fun b7=>?_
  have:([(Q8 (pending1++([b]:List UInt8)))]:List Int).length=1:=rfl
  refine ip' 2 0 [(4,.slice none 0 0),(5,.slice (some ⟨b7,0,none⟩) 1 1)] ?_
  subst hR
  refine ie (A7 ?_)
  exact zer hr hD (V5 rfl (B1 rfl) (B1 rfl)) ((zq none 0),(zq (some ⟨b7,0,none⟩) 1)) (mk [] rfl) (A2.con1 P2 (A2.con1 (B5 0 rfl) fn0))
 refine sr 2 rfl (ip' 2 0 [(26,bv (decide ((I3 (pending1++([b]:List UInt8)))=1)))] ?_)
 refine ie ?_
 refine zjd rfl hR ?_ ?_<;>clear hR<;>intro hR h8 h8p
 ·refine sr 3 rfl (ip' 3 0 [(4,.slice q3 ((pending1++([b]:List UInt8)).length) k4),(5,.slice none 0 0)] ?_)
  subst hR
  refine ie (A7 ?_)
  exact zer hr hD (V5 rfl (B1 rfl) (B1 rfl)) ((zq q3 k4),(zq none 0)) (mk [] rfl) (A2.con1 (B5 0 rfl) (A2.con1 P2 fn0))
 refine A4 (nx (A3 (sr 3 rfl (ip' 3 0 [(31,bv (decide ((pending1.length:Int)=0)))] ?_))))
 refine ie ?_
 refine zjd rfl hR ?_ ?_<;>clear hR<;>intro hR h9 h9p
 ·refine sr 3 rfl (it rfl (E9 (c:=K8) (xs:=([65533]:List Int)) V7 rfl rfl rfl (by kernel_rfl)) fun b10=>?_)
  have:([65533]:List Int).length=1:=rfl
  refine ip' 2 0 [(4,.slice none 0 0),(5,.slice (some ⟨b10,0,none⟩) 1 1)] ?_
  subst hR
  refine ie (A7 ?_)
  exact zer hr hD (V5 rfl (B1 rfl) (B1 rfl)) ((zq none 0),(zq (some ⟨b10,0,none⟩) 1)) (mk [] rfl) (A2.con1 P2 (A2.con1 (B5 0 rfl) fn0))
 refine A4 (nx (sr 7 rfl (ip' 1 6 [(34,.int .u8 (b.toNat:Int))] ?_)))
 refine zcm (C2l b (by first|omega|(simp only [List.length_nil];omega)) _ rfl) fn0 fun ⟨⟨⟨q11,k12⟩,hp13⟩,⟨⟨q16,k17⟩,hp18⟩⟩=>?_
 obtain ⟨hc14,hl15⟩:=hp13
 obtain ⟨hc19,hl20⟩:=hp18
 have:=B1f b
 refine ip' 5 0 [(4,.slice q11 (((Q1 b).1).length) k12),(5,.slice q16 (((Q1 b).2).length) k17)] ?_
 refine ie (sr 6 rfl (ip' 1 5 [(38,.slice q11 (((Q1 b).1).length) k12)] ?_))
 refine it rfl (E9 (c:=K8) (xs:=([65533]:List Int)) V7 rfl rfl rfl (by kernel_rfl)) fun b21=>?_
 have:([65533]:List Int).length=1:=rfl
 refine ip' 1 3 [(40,.slice q16 (((Q1 b).2).length) k17)] ?_
 refine it rfl (B6q (f:=K8) (xs:=([65533]:List Int)) (ys:=(Q1 b).2) B6u (fun _=>rfl) (fun _=>rfl) rfl rfl rfl rfl rfl rfl (by omega) (by omega) (by rfl) (B5 0 rfl) (B5 2 rfl) (by first|omega|(simp only [List.length_cons,List.length_nil,List.length_append,List.length_take,List.length_drop];omega)) (by first|omega|(simp only [List.length_cons,List.length_nil,List.length_append,List.length_take,List.length_drop];omega))) fun ⟨⟨q22,k23⟩,hq24⟩=>?_
 refine ip' 2 0 [(4,.slice q11 (((Q1 b).1).length) k12),(5,.slice q22 ((([65533]:List Int)++(Q1 b).2).length) k23)] ?_
 subst hR
 refine ie (A7 ?_)
 exact zer hr hD (V5 rfl (B1 rfl) (B1 rfl)) ((zq q11 k12),(zq q22 k23)) (mk [] rfl) (A2.con1 (B5 2 rfl) (A2.con1 (B5 0 rfl) fn0))
def B4b (pending:List UInt8):List Int :=
 (bif ((decide ((0:Int)<(pending.length:Int)))&&(S0 pending)) then ([65533]:List Int) else ([]:List Int))
theorem B5e (p:List UInt8):B4b p=(bif (decide (0<(p.length:Int))&&S0 p) then [65533] else []):=rfl
theorem B4t (pending:List UInt8) (pendingq:Option Addr) (pendingk:Nat) (hlpending:pending.length≤9223372036854775807) (hcpending:pending.length≤pendingk) (hp:pending.length≤1000) (R:List Int) (hR:B4b pending=R):Con Tryz.prog 359 [.slice pendingq pending.length pendingk] [] [sl cU8 pendingq pending] ({t:Option Addr×Nat // R.length≤t.2∧R.length≤9223372036854775807}) (fun x=>.slice x.1.1 R.length x.1.2) (fun x=>[]) (fun x=>[sl K8 x.1.1 R]):=by
 refine zco Tryz.func359 [(0,.slice pendingq pending.length pendingk)] fun X hX hr hD=>?_
 replace hR:=(B4b.eq_1 ..).symm.trans hR
 refine sr 1 rfl (ip' 1 0 [] ?_)
 refine ie (A3 (sr 7 rfl (ip' 4 3 [(6,bv (decide ((0:Int)<(pending.length:Int))))] ?_)))
 refine zid 3 0 6 9 (S0 pending) (fun g1 g1p=>?_) ?_
 ·refine ip' 1 2 [(7,.slice pendingq pending.length pendingk)] ?_
  refine zca (B4q pending pendingq pendingk (by first|omega|(simp only [List.length_take,List.length_drop,List.length_append,List.length_cons,List.length_nil,List.length_set,List.length_map];omega)|decide) (by first|omega|(simp only [List.length_take,List.length_drop,List.length_append,List.length_cons,List.length_nil,List.length_set,List.length_map];omega)|decide) _ rfl) A2.refl ?_
  refine ip' 1 0 [(9,bv (S0 pending))] ?_
  exact zai 4 6 9 g1
 refine ie ?_
 refine zjb rfl hR ?_ ?_<;>clear hR<;>intro hR h2
 ·have h2p:=h2;try simp only [Bool.and_eq_true,Bool.or_eq_true,Bool.and_eq_false_iff,Bool.or_eq_false_iff,Bool.not_eq_true',Bool.not_eq_false',decide_eq_true_eq,decide_eq_false_iff_not] at h2p
  refine sr 2 rfl (it rfl (E9 (c:=K8) (xs:=([65533]:List Int)) V7 rfl rfl rfl (by kernel_rfl)) fun b3=>?_)
  have:([65533]:List Int).length=1:=rfl
  refine ip' 1 0 [(2,.slice (some ⟨b3,0,none⟩) 1 1)] ?_
  subst hR
  refine ie (A7 ?_)
  exact zer hr hD (P3 rfl (B1 rfl)) (zq (some ⟨b3,0,none⟩) 1) (mk [] rfl) (A2.con1 (B5 0 rfl) fn0)
 have h2p:=h2;try simp only [Bool.and_eq_true,Bool.or_eq_true,Bool.and_eq_false_iff,Bool.or_eq_false_iff,Bool.not_eq_true',Bool.not_eq_false',decide_eq_true_eq,decide_eq_false_iff_not] at h2p
 refine A4 (nx (sr 1 rfl (ip' 1 0 [(2,.slice none 0 0)] ?_)))
 subst hR
 refine ie (A7 ?_)
 exact zer hr hD (P3 rfl (B1 rfl)) (zq none 0) (mk [] rfl) (A2.con1 P2 fn0)
def M5 (s:List UInt8):List UInt8 :=
 s
theorem C5a (s:List UInt8) (R:List UInt8) (hR:M5 s=R):Con Tryz.prog 313 [sv s] [] [] (Addr) (fun x=>.func (.func 357) #[] #[pa x]) (fun x=>[]) (fun x=>[at_ x [sv R]]):=by
 refine zco Tryz.func313 [(0,sv s)] fun X hX hr hD=>?_
 replace hR:=(M5.eq_1 ..).symm.trans hR
 refine sr 2 rfl (it rfl (C0s (cs:=[sv s]) rfl rfl rfl) fun b1=>?_)
 refine C8b 0 rfl ?_
 refine ip' 1 0 [] ?_
 refine ie (sr 2 rfl (ip' 2 0 [(2,.func (.func 357) #[] #[pa ⟨b1,0,none⟩])] ?_))
 subst hR
 refine ie (A7 ?_)
 exact zer hr hD (P3 rfl (B1 rfl)) ⟨b1,0,none⟩ (mk [] rfl) (A2.con1 (B5 0 rfl) fn0)
def O1 (c0:List UInt8) (pending:List UInt8) (t13:Nat) (ag_utf_each_1_l3:List UInt8→Nat→List Int):List Int→Nat→List Int
 | [],t27=>ag_utf_each_1_l3 ((H7 pending (c0.getD t13 0)).1) (t13+1)
 | hd_l4::tl_l4,t27=>(hd_l4::O1 c0 pending t13 ag_utf_each_1_l3 tl_l4 (t27+1))
def N1 (c0:List UInt8):List UInt8→List UInt8→Nat→List Int
 | [],pending,t13=>(bif (decide (0<(pending.length:Int))&&S0 pending) then ((([65533]:List Int).getD 0 0)::[]) else [])
 | hd_l3::tl_l3,pending,t13=>O1 c0 pending t13 (N1 c0 tl_l3) ((H7 pending hd_l3).2) 0
def A6f (c0:List UInt8):List Int :=
 N1 c0 c0 ([]:List UInt8) 0
theorem A6p (c0 pending:List UInt8) (t13:Nat) (ag:List UInt8→Nat→List Int):∀ (l:List Int) (t:Nat),(O1 c0 pending t13 ag l t).length=l.length+(ag ((H7 pending (c0.getD t13 0)).1) (t13+1)).length
 | [],t=>by simp [O1]
 | x::l,t=>by simp only [O1,List.length_cons,A6p c0 pending t13 ag l];omega
theorem A6s (c0:List UInt8):∀ (s p:List UInt8) (t:Nat),(N1 c0 s p t).length≤2 * s.length+1
 | [],p,t=>by
  simp only [N1]
  generalize (decide (0<(p.length:Int))&&S0 p)=b
  cases b<;>simp
 | x::s,p,t=>by
  simp only [N1,A6p,List.length_cons]
  have:=(B2p p x).2;have:=A6s c0 s (H7 p (c0.getD t 0)).1 (t+1);omega
theorem B0f (s:List UInt8):(A6f s).length≤2 * s.length+1:=A6s s s [] 0
theorem C0r (c0:List UInt8) (c0p:Addr) (hs:c0.length≤1000000000) (R:List Int) (hR:A6f c0=R):C1y Tryz.prog 357 [pa c0p] [at_ c0p [sv c0]] (fun x=>iv x) R:=by
 refine C7l (n:=48) Tryz.func357 rfl (by kernel_rfl) rfl rfl (fun l=>[(0,.func (.yield l) #[] #[]),(1,pa c0p)]) (fun l=>⟨rfl,rfl,trivial⟩) fun X l I Ix L Φ hX hr hD hI0 hY=>?_
 replace hR:=(A6f.eq_1 ..).symm.trans hR
 refine sr 1 rfl (ip' 1 0 [(3,.slice none 0 0)] ?_)
 refine ie (A3 (sr 3 rfl (ix rfl (C8 (v:=sv c0) (us:=[sv c0]) ty9 rfl rfl (B5 0 rfl) rfl) ?_)))
 refine ip' 2 0 [(12,iv (c0.length:Int)),(13,iv 0)] ?_
 refine ie (B0 ?_)
 refine D7c (fun (pending:List UInt8) (pendingq:Option Addr) (pendingk:Nat) (t13:Nat) (R_:List Int) (Lt:Fen.Own) (Ft:List Pers)=>(t13≤c0.length∧N1 c0 (c0.drop t13) pending t13=R_∧pending.length≤pendingk∧pending.length≤9223372036854775807∧I R_ Lt Ft∧pending.length≤1000,[(0,.func (.yield l) #[] #[]),(1,pa c0p),(3,.slice pendingq pending.length pendingk),(12,iv (c0.length:Int)),(13,iv (t13:Int))],(Lt++([])),(at_ c0p [sv c0]::sl cU8 pendingq pending::Ft),c0.length - t13)) ([]:List UInt8) none 0 0 R L Φ ⟨(by omega),hR,(by first|omega|(simp only [List.length_take,List.length_drop,List.length_append,List.length_cons,List.length_nil,List.length_set,List.length_map,M5];omega)|decide),(by first|omega|(simp only [List.length_take,List.length_drop,List.length_append,List.length_cons,List.length_nil,List.length_set,List.length_map,M5];omega)|decide),hI0,(by simp)⟩ (mc [L] [true] rfl (by first|rfl|(simp only [List.length_set]<;>rfl))) (A2.con1 (B5 0 rfl) (A2.con1 P2 (A2.dropT 1 rfl))) ?_
 rintro pending pendingq pendingk t13 R_ Lt Ft ⟨hm1,hR,hcpending,hlpending,hILt,hp⟩
 refine sr 1 rfl (ip' 1 0 [(14,bv (decide ((t13:Int)<(c0.length:Int))))] ?_)
 refine ie (A3 (S2 rfl (fun h2=>?_) (fun h2=>?_)))
 ·have h2p:(t13:Int)<(c0.length:Int):=by simpa using h2
  rw [U1 0 (show t13<c0.length by omega)] at hR;replace hR:=(N1.eq_2 ..).symm.trans hR
  refine A4 (nx (A3 (B0 (sr 2 rfl (ip' 2 0 [(4,iv (t13:Int))] ?_)))))
  refine ie (sr 10 rfl (ip' 1 9 [(17,.slice pendingq pending.length pendingk)] ?_))
  refine ix rfl (C8 (v:=sv c0) (us:=[sv c0]) ty9 rfl rfl (B5 0 rfl) rfl) ?_
  refine ip' 1 7 [(19,iv (t13:Int))] ?_
  refine ix rfl (C2q (T:=9) Tryz.underlying9 rfl rfl rfl t13 rfl (by omega)) ?_
  refine zcm (C5j pending (c0.getD t13 0) pendingq pendingk (by first|omega|(simp only [List.length_take,List.length_drop,List.length_append,List.length_cons,List.length_nil,List.length_set,List.length_map,M5];omega)|decide) (by first|omega|(simp only [List.length_take,List.length_drop,List.length_append,List.length_cons,List.length_nil,List.length_set,List.length_map,M5];omega)|decide) (by first|omega|(simp only [List.length_nil];omega)) _ rfl) (A2.cons (B5 1 rfl) fn0) fun ⟨⟨⟨q3,k4⟩,hp5⟩,⟨⟨q8,k9⟩,hp10⟩⟩=>?_
  obtain ⟨hc6,hl7⟩:=hp5
  obtain ⟨hc11,hl12⟩:=hp10
  have:=B2p pending (c0.getD t13 0)
  refine ip' 5 0 [(5,.slice q3 (((H7 pending (c0.getD t13 0)).1).length) k4),(6,.slice q8 (((H7 pending (c0.getD t13 0)).2).length) k9)] ?_
  refine ie (sr 2 rfl (ip' 2 0 [(3,.slice q3 (((H7 pending (c0.getD t13 0)).1).length) k4)] ?_))
  refine ie (sr 3 rfl (ip' 3 0 [(25,.slice q8 (((H7 pending (c0.getD t13 0)).2).length) k9),(26,iv (((H7 pending (c0.getD t13 0)).2).length:Int)),(27,iv 0)] ?_))
  refine ie (B0 ?_)
  refine B2k (fun (t27:Nat) (R_1:List Int) (Lt1:Fen.Own) (Ft1:List Pers)=>(t27≤((H7 pending (c0.getD t13 0)).2).length∧O1 c0 pending t13 (N1 c0 (c0.drop (t13+1))) (((H7 pending (c0.getD t13 0)).2).drop t27) t27=R_1∧I R_1 Lt1 Ft1,[(0,.func (.yield l) #[] #[]),(1,pa c0p),(3,.slice q3 (((H7 pending (c0.getD t13 0)).1).length) k4),(12,iv (c0.length:Int)),(13,iv (t13:Int)),(25,.slice q8 (((H7 pending (c0.getD t13 0)).2).length) k9),(26,iv (((H7 pending (c0.getD t13 0)).2).length:Int)),(27,iv (t27:Int))],(Lt1++([])),(sl cU8 q3 ((H7 pending (c0.getD t13 0)).1)::sl K8 q8 ((H7 pending (c0.getD t13 0)).2)::at_ c0p [sv c0]::sl cU8 pendingq pending::Ft1),((H7 pending (c0.getD t13 0)).2).length - t27)) 0 R_ Lt Ft ⟨(by omega),hR,hILt⟩ (mc [Lt] [true] rfl (by first|rfl|(simp only [List.length_set]<;>rfl))) (A2.con1 (B5 0 rfl) (A2.con1 (B5 1 rfl) (A2.con1 (B5 2 rfl) (A2.con1 (B5 3 rfl) (A2.dropT 4 rfl))))) ?_
  rintro t27 R_1 Lt1 Ft1 ⟨hm13,hR,hILt1⟩
  refine sr 1 rfl (ip' 1 0 [(28,bv (decide ((t27:Int)<(((H7 pending (c0.getD t13 0)).2).length:Int))))] ?_)
  refine ie (A3 (S2 rfl (fun h14=>?_) (fun h14=>?_)))
  ·have h14p:(t27:Int)<(((H7 pending (c0.getD t13 0)).2).length:Int):=by simpa using h14
   rw [U1 0 (show t27<((H7 pending (c0.getD t13 0)).2).length by omega)] at hR;replace hR:=(O1.eq_2 ..).symm.trans hR
   refine A4 (nx (A3 (B0 (sr 3 rfl (J3 1 rfl (by omega) fun a15 hq16=>?_)))))
   refine ix rfl (E8 V7 rfl rfl hq16 rfl t27 rfl (by omega)) ?_
   refine ix rfl (C8 (v:=iv (((H7 pending (c0.getD t13 0)).2).getD t27 0)) (us:=[iv (((H7 pending (c0.getD t13 0)).2).getD t27 0)]) ty3 rfl rfl (G0 (c:=K8) (sz:=1) hq16 (fun _=>rfl) 1 rfl (gd 0 (by omega))) rfl) ?_
   refine ip' 1 0 [(8,iv (((H7 pending (c0.getD t13 0)).2).getD t27 0))] ?_
   refine ie (sr 4 rfl (ip' 2 2 [(31,.func (.yield l) #[] #[]),(32,iv (((H7 pending (c0.getD t13 0)).2).getD t27 0))] ?_))
   have hq22:=C6i hR;clear hR;obtain ⟨R17,hR,hq22⟩:=hq22;rw [hq22] at hILt1
   refine it rfl (B0l (L2:=[]) (hY _ R17 _ _ hILt1) rfl rfl rfl rfl (A2.dropT 4 rfl) (H3 [Lt1] [0] 1 rfl (by decide) rfl [Lt1] rfl (by simp only [List.flatten_cons,List.flatten_nil,List.append_nil,List.cons_append,List.nil_append,List.append_assoc]))) fun ⟨⟨y18,L19,Φ20⟩,hy21⟩=>?_
   refine B5s (A2.yield [sl cU8 q3 ((H7 pending (c0.getD t13 0)).1),sl K8 q8 ((H7 pending (c0.getD t13 0)).2),at_ c0p [sv c0],sl cU8 pendingq pending]) ?_
   refine ip' 1 0 [(34,bv (!y18))] ?_
   refine ie (S2 rfl (fun h23=>?_) (fun h23=>?_))
   ·have h23b:y18=false:=by simpa using h23
    rw [h23b] at hy21;try simp only [if_true,if_false,Bool.false_eq_true] at hy21
    refine A7 ?_
    exact B4f rfl ⟨hr,hD⟩ (by simp [hD]) (B0s rfl) (L':=L19) (Φ':=Φ20) (by exact .inr hy21) (mcT [L19] 0 rfl rfl) (A2.dropT 4 rfl)
   ·have h23b:y18=true:=by simpa using h23
    rw [h23b] at hy21;try simp only [if_true,if_false,Bool.false_eq_true] at hy21
    refine A4 (nx (A5 2 rfl (ix rfl (B4 rfl rfl rfl rfl (by omega)) ?_)))
    refine ip' 1 0 [(27,iv ((t27:Int)+1))] ?_
    refine A1 ?_
    exact B1k (z1:=t27) (z2:=R_1) (z3:=Lt1) (z4:=Ft1) (t27+1) R17 L19 Φ20 ⟨(by omega),hR,hy21⟩ (by (try dsimp only);omega) (mc [L19] [true] rfl (by first|rfl|(simp only [List.length_set]<;>rfl))) (A2.con1 (B5 0 rfl) (A2.con1 (B5 1 rfl) (A2.con1 (B5 2 rfl) (A2.con1 (B5 3 rfl) (A2.dropT 4 rfl)))))
  have h14p:¬ ((t27:Int)<(((H7 pending (c0.getD t13 0)).2).length:Int)):=by simpa using h14
  rw [U2 h14p] at hR;replace hR:=(O1.eq_1 ..).symm.trans hR
  refine G2 (nx (A5 2 rfl (ix rfl (B4 rfl rfl rfl rfl (by omega)) ?_)))
  refine ip' 1 0 [(13,iv ((t13:Int)+1))] ?_
  refine A1 ?_
  exact D7f (z1:=pending) (z2:=pendingq) (z3:=pendingk) (z4:=t13) (z5:=R_) (z6:=Lt) (z7:=Ft) ((H7 pending (c0.getD t13 0)).1) q3 k4 (t13+1) R_1 Lt1 Ft1 ⟨(by omega),hR,(by first|omega|(simp only [List.length_take,List.length_drop,List.length_append,List.length_cons,List.length_nil,List.length_set,List.length_map,M5];omega)|decide),(by first|omega|(simp only [List.length_take,List.length_drop,List.length_append,List.length_cons,List.length_nil,List.length_set,List.length_map,M5];omega)|decide),hILt1,(by first|omega|(simp only [List.length_nil];omega))⟩ (by (try dsimp only);omega) (mc [Lt1] [true] rfl (by first|rfl|(simp only [List.length_set]<;>rfl))) (A2.con1 (B5 2 rfl) (A2.con1 (B5 0 rfl) (A2.dropT 4 rfl)))
 have h2p:¬ ((t13:Int)<(c0.length:Int)):=by simpa using h2
 rw [U2 h2p] at hR;replace hR:=(N1.eq_1 ..).symm.trans hR
 refine G2 (nx (sr 4 rfl (ip' 1 3 [(37,.slice pendingq pending.length pendingk)] ?_)))
 have hs30:=B5e pending
 cases hc29:(decide (0<(pending.length:Int))&&S0 pending)
 ·replace hR:=bf hR hc29
  replace hs30:=hs30.trans (by rw [hc29];rfl:_=([]:List Int))
  refine zcm (B4t pending pendingq pendingk (by first|omega|(simp only [List.length_take,List.length_drop,List.length_append,List.length_cons,List.length_nil,List.length_set,List.length_map,M5];omega)|decide) (by first|omega|(simp only [List.length_take,List.length_drop,List.length_append,List.length_cons,List.length_nil,List.length_set,List.length_map,M5];omega)|decide) (by first|omega|(simp only [List.length_nil];omega)) ([]:List Int) hs30) (A2.cons (B5 1 rfl) fn0) fun ⟨⟨q24,k25⟩,hp26⟩=>?_
  have:([]:List Int).length=0:=rfl
  refine ip' 2 0 [(39,iv 0),(40,iv 0)] ?_
  refine ie (B0 (R6 2 ?_))
  refine D7 (sr 1 rfl (ip' 1 0 [(41,bv false)] ?_))
  subst hR
  refine ie (A3 (A0m rfl (G2 ?_)))
  exact A5h rfl ⟨hr,hD⟩ (by simp [hD]) (B0s rfl) (L':=Lt) (Φ':=Ft) (by exact .inl hILt) (mcT [Lt] 0 rfl rfl) (A2.dropT 3 rfl)
 ·replace hR:=bt hR hc29
  replace hs30:=hs30.trans (by rw [hc29];rfl:_=([65533]:List Int))
  refine zcm (B4t pending pendingq pendingk (by first|omega|(simp only [List.length_take,List.length_drop,List.length_append,List.length_cons,List.length_nil,List.length_set,List.length_map,M5];omega)|decide) (by first|omega|(simp only [List.length_take,List.length_drop,List.length_append,List.length_cons,List.length_nil,List.length_set,List.length_map,M5];omega)|decide) (by first|omega|(simp only [List.length_nil];omega)) ([65533]:List Int) hs30) (A2.cons (B5 1 rfl) fn0) fun ⟨⟨q24,k25⟩,hp26⟩=>?_
  have:([65533]:List Int).length=1:=rfl
  refine ip' 2 0 [(39,iv 1),(40,iv 0)] ?_
  refine ie (B0 (R6 3 ?_))
  refine D7 (sr 1 rfl (ip' 1 0 [(41,bv true)] ?_))
  refine ie (A3 (H8 rfl (A4 (nx (A3 (B0 (sr 3 rfl (J3 0 rfl (by omega) fun a31 hq32=>?_))))))))
  refine ix rfl (E8 V7 rfl rfl hq32 rfl 0 rfl (by omega)) ?_
  refine ix rfl (C8 (v:=iv (([65533]:List Int).getD 0 0)) (us:=[iv (([65533]:List Int).getD 0 0)]) ty3 rfl rfl (G0 (c:=K8) (sz:=1) hq32 (fun _=>rfl) 0 rfl (gd 0 (by omega))) rfl) ?_
  refine ip' 1 0 [(10,iv (([65533]:List Int).getD 0 0))] ?_
  refine ie (A5 3 rfl (ip' 2 1 [(44,.func (.yield l) #[] #[]),(45,iv (([65533]:List Int).getD 0 0))] ?_))
  have hq38:=C6i hR;clear hR;obtain ⟨R33,hR,hq38⟩:=hq38;rw [hq38] at hILt
  refine it rfl (B0l (L2:=[]) (hY _ R33 _ _ hILt) rfl rfl rfl rfl (A2.dropT 3 rfl) (H3 [Lt] [0] 1 rfl (by decide) rfl [Lt] rfl (by simp only [List.flatten_cons,List.flatten_nil,List.append_nil,List.cons_append,List.nil_append,List.append_assoc]))) fun ⟨⟨y34,L35,Φ36⟩,hy37⟩=>?_
  refine B5s (A2.yield [sl K8 q24 ([65533]:List Int),at_ c0p [sv c0],sl cU8 pendingq pending]) ?_
  refine A1 (nx (A5 2 rfl (ix rfl (B4 (c:=1) rfl rfl rfl rfl (by decide)) ?_)))
  refine ip' 1 0 [(40,iv 1)] ?_
  refine A1 (D7 (sr 1 rfl (ip' 1 0 [(41,bv false)] ?_)))
  subst hR
  refine ie (A3 (A0m rfl (G2 ?_)))
  exact A5h rfl ⟨hr,hD⟩ (by simp [hD]) (B0s rfl) (L':=L35) (Φ':=Φ36) (by cases y34<;>first|exact .inr (by simpa using hy37)|exact .inl (by simpa using hy37)) (mcT [L35] 0 rfl rfl) (A2.dropT 3 rfl)
def U5:List Int→List Int→List Int
 | [],l=>l
 | el::rest,l=>U5 rest (l++([el]:List Int))
def A3v (s:List UInt8):List Int :=
 U5 (A6f (M5 s)) ([]:List Int)
theorem A4z:∀ (rem l:List Int),U5 rem l=l++rem
 | [],l=>by simp [U5]
 | x::r,l=>by simp [U5,A4z r]
theorem B8y (s:List UInt8):(A3v s).length≤2 * s.length+1:=by
 have:=B0f s
 simpa [A3v,A4z,M5] using this
theorem C2s (s:List UInt8) (hp:s.length≤1000000000) (R:List Int) (hR:A3v s=R):Con Tryz.prog 258 [sv s] [] [] ({t:Option Addr×Nat // R.length≤t.2∧R.length≤9223372036854775807}) (fun x=>.slice x.1.1 R.length x.1.2) (fun x=>[]) (fun x=>[sl K8 x.1.1 R]):=by
 refine zco Tryz.func258 [(0,sv s)] fun X hX hr hD=>?_
 replace hR:=(A3v.eq_1 ..).symm.trans hR
 refine sr 1 rfl (I7 1 0 [] (fun b1=>[(2,pt b1 0)]) (fun b1=>[bx b1 [.slice none 0 0] 231]) (fun b1=>?_))
 refine ie (A3 (sr 2 rfl (ip' 1 1 [(4,sv s)] ?_)))
 refine zcm (C5a s _ rfl) fn0 fun b2=>?_
 refine ie (B0 (W7 (H3 [vo K8 3 VR.nil ([]:List Int),[bx b1 [.slice none 0 0] 231]] [1,0] 2 rfl (by decide) rfl [[bx b1 [.slice none 0 0] 231],vo K8 3 VR.nil ([]:List Int)] rfl (by first|rfl|simp)) ?_))
 refine C9k [(2,pt b1 0),(5,.func (.func 357) #[] #[pa b2])] ⟨rfl,rfl,trivial⟩ ?_
 refine D0d (β:=Int) (enc:=(fun x=>iv x)) (xs:=(A6f (M5 s))) (σ:=List Int×VR) hr rfl (C0r (M5 s) b2 (by first|omega|(simp only [M5];omega)) _ rfl) A2.refl rfl rfl (fun rem x=>U5 rem x.1=R∧VOk 1 x.1.length x.2∧x.1.length+rem.length≤2 * s.length+1) (fun _ _=>False) (fun x=>(bx b1 [.slice (va x.2.q) x.1.length x.2.k] 231::(vo K8 3 x.2 x.1)++([]))) (fun x=>[at_ b2 [sv (M5 s)]]) (([]:List Int),VR.nil) (by exact ⟨hR,VOk.nil,(by simp only [List.length_nil,Nat.zero_add];exact B0f s)⟩) (mc [[bx b1 [.slice none 0 0] 231],vo K8 3 VR.nil ([]:List Int)] [true,true] rfl (by first|rfl|(simp only [List.length_set]<;>rfl))) A2.refl ?_ ?_ (fun _ _ _ _ h=>h.elim)
 ·rintro el rest ⟨l,lr⟩ hI Y Y' K' hY' hK
  try dsimp only at hI
  obtain ⟨hR,hoklr,hg⟩:=hI
  replace hR:=(U5.eq_2 ..).symm.trans hR
  have:=VOk.le hoklr
  refine A5 1 rfl (ip' 1 0 [(3,iv el)] ?_)
  refine A1 (hK _ _ _ ?_)
  refine B0 (A5 5 rfl (zrl 2 3 [0] [(7,.slice (va lr.q) l.length lr.k),(8,iv el)] ?_))
  refine it rfl (E9 (c:=K8) (xs:=([el]:List Int)) V7 rfl rfl rfl (by kernel_rfl)) fun b4=>?_
  have:([el]:List Int).length=1:=rfl
  refine it rfl (B0h (f:=K8) (r:=lr) (xs:=l) (ys:=([el]:List Int)) (pre:=[bx b1 [.slice (va lr.q) l.length lr.k] 231]) (post:=[]) B6u (fun _=>rfl) (fun _=>rfl) rfl rfl rfl rfl rfl rfl rfl rfl rfl (B5 0 rfl) hoklr (by first|omega|(simp only [List.length_cons,List.length_nil,List.length_append,List.length_take,List.length_drop,M5];omega)) (by first|omega|(simp only [List.length_cons,List.length_nil,List.length_append,List.length_take,List.length_drop,M5];omega))) fun ⟨r5,hr6⟩=>?_
  have:=VOk.le hr6
  have:=VOk.cap hr6
  refine zrg 1 0 [0] [] (bx b1 [.slice (va r5.q) ((l++([el]:List Int)).length) r5.k] 231::(vo K8 3 r5 (l++([el]:List Int)))++([])) ?_
  refine A1 ?_
  exact B3y (I:=fun rem x=>U5 rem x.1=R∧VOk 1 x.1.length x.2∧x.1.length+rem.length≤2 * s.length+1) (Jx:=fun _ _=>False) (Lk:=fun x=>(bx b1 [.slice (va x.2.q) x.1.length x.2.k] 231::(vo K8 3 x.2 x.1)++([]))) (Φk:=fun x=>[at_ b2 [sv (M5 s)]]) (rest:=rest) ((l++([el]:List Int)),r5) (by exact ⟨hR,hr6,(by simp only [List.length_cons,List.length_append,List.length_nil] at *;omega)⟩) (mc [[bx b1 [.slice (va r5.q) ((l++([el]:List Int)).length) r5.k] 231],vo K8 3 r5 (l++([el]:List Int))] [true,true] rfl (by first|rfl|(simp only [List.length_set]<;>rfl))) (A2.pick [1] rfl)
 ·rintro d7 ⟨l,lr⟩ hd7 hI
  try dsimp only at hI
  obtain ⟨hR,hoklr,hg⟩:=hI
  replace hR:=(U5.eq_1 ..).symm.trans hR
  have:=VOk.le hoklr
  refine nx (sr 2 rfl (zrg 2 0 [0,0] [] (bx b1 [.slice (va lr.q) l.length lr.k] 231::(vo K8 3 lr l)++([])) ?_))
  refine ie (A7 (C0c [bx b1 [.slice (va lr.q) l.length lr.k] 231] [] (T:=3) (c:=K8) (r:=lr) (xs:=l) hoklr (by first|rfl|simp only [List.cons_append,List.append_assoc,List.nil_append,List.append_nil]) ?_))
  have:=VOk.cap hoklr
  subst hR
  exact B2u rfl ⟨hr,hD⟩ (by exact (A0o.cons (show A0o X.D by rw [hD];exact A0o.nil) hd7)) (P3 rfl (C4n (v:=.slice (va lr.q) l.length lr.k) D6g rfl 0 rfl rfl)) (zq (va lr.q) lr.k) (by rfl) (mk [false] rfl) (A2.con1 (B5 0 rfl) fn0)
def A1q (is:Bool):Option Unit :=
 (bif (!is) then none else (some ()))
theorem A3y {b:Bool} {r:Unit} (h:A1q b=some r):b=true:=by cases b with | true=>rfl | false=>cases h
theorem A8b (is:Bool) (R:Option Unit) (hR:A1q is=R):B7u Tryz.prog 126 [bv is] [] [] A1k R (fun r=>.tuple #[]):=by
 refine A7h (n:=6) Tryz.func126 rfl (by kernel_rfl) rfl rfl [(0,bv is)] ⟨rfl,trivial⟩ fun X hX hr hD=>?_
 replace hR:=(A1q.eq_1 ..).symm.trans hR
 refine sr 2 rfl (ip' 2 0 [(3,bv (!is))] ?_)
 refine ie ?_
 refine zjb rfl hR ?_ ?_<;>clear hR<;>intro hR h1
 ·refine A5 3 rfl (zrl 1 2 [] [(4,ag [])] ?_)
  refine ix rfl (C7k Tryz.underlying247 rfl rfl rfl) ?_
  refine C8p rfl rfl rfl ?_
  exact Z7 ⟨hr,hD⟩ hR.symm
 refine A4 ?_
 exact A8m rfl ⟨hr,hD⟩ (by simp [hD]) (B0s rfl) hR.symm rfl
def X6:List Int→Nat→Option Unit
 | [],t19=>(some ())
 | hd_l0::tl_l0,t19=>(Option.bind (A1q ((decide ((32:Int)≤hd_l0))&&((decide (hd_l0<127))||(decide ((159:Int)<hd_l0))))) fun (r1:Unit)=>X6 tl_l0 (t19+1))
def A2b (s:List UInt8):Option Unit :=
 (F1 (A3v s) fun (y0:List Int)=>(Option.bind (A1q ((decide ((s.length:Int)≤510))&&(decide ((A5x y0)=s)))) fun (r:Unit)=>X6 y0 0))
theorem C2w (s:List UInt8) (hs:s.length≤100000000) (R:Option Unit) (hR:A2b s=R):B7u Tryz.prog 194 [sv s] [] [] A1k R (fun r=>.tuple #[]):=by
 refine A7h (n:=35) Tryz.func194 rfl (by kernel_rfl) rfl rfl [(0,sv s)] ⟨rfl,trivial⟩ fun X hX hr hD=>?_
 replace hR:=(A2b.eq_1 ..).symm.trans hR
 refine sr 3 rfl (ip' 1 2 [(5,sv s)] ?_)
 have hQ:=G6 hR;clear hR;obtain ⟨y0,hy0,hR⟩:=hQ
 refine zcm (C2s s (by first|omega|(simp only [List.length_append,List.length_cons,List.length_nil,List.length_take,List.length_drop,List.length_set];omega)) y0 hy0) fn0 fun ⟨⟨q1,k2⟩,hp3⟩=>?_
 obtain ⟨hc4,hl5⟩:=hp3
 have:=B8y s;try rw [hy0] at this
 refine ip' 1 0 [(2,.slice q1 y0.length k2)] ?_
 refine ie (sr 10 rfl (ip' 4 6 [(10,bv (decide ((s.length:Int)≤510)))] ?_))
 refine zid 5 1 10 15 (decide ((A5x y0)=s)) (fun g6 g6p=>?_) ?_
 ·refine ip' 1 4 [(11,.slice q1 y0.length k2)] ?_
  refine zca (C4t y0 q1 k2 (by first|omega|(simp only [List.length_take,List.length_drop,List.length_append,List.length_cons,List.length_nil,List.length_set,List.length_map,M5];omega)|decide) (by first|omega|(simp only [List.length_take,List.length_drop,List.length_append,List.length_cons,List.length_nil,List.length_set,List.length_map,M5];omega)|decide) (by first|omega|(simp only [List.length_append,List.length_cons,List.length_nil,List.length_take,List.length_drop,List.length_set];omega)) _ rfl) A2.refl ?_
  refine ip' 1 2 [(13,sv s)] ?_
  refine ix rfl (B6z rfl rfl rfl) ?_
  refine ip' 1 0 [(15,bv (decide ((A5x y0)=s)))] ?_
  exact zai 6 10 15 g6
 refine A5v (L2:=[]) (A8b ((decide ((s.length:Int)≤510))&&(decide ((A5x y0)=s))) _ rfl) rfl rfl rfl rfl rfl rfl fn0 (List.Perm.refl _) (fun r hs7=>?_) (fun hn8=>?_)
 ·replace hR:=B6h hR hs7
  have hmu:=A3y hs7;try simp only [Bool.and_eq_true,decide_eq_true_eq] at hmu
  refine ie (sr 3 rfl (ip' 3 0 [(17,.slice q1 y0.length k2),(18,iv (y0.length:Int)),(19,iv 0)] ?_))
  refine ie (B0 (B3w (fun (t19:Nat)=>(t19≤y0.length∧X6 (y0.drop t19) t19=R,[(17,.slice q1 y0.length k2),(18,iv (y0.length:Int)),(19,iv (t19:Int))],[],[sl K8 q1 y0],y0.length - t19)) 0 ⟨(by omega),hR⟩ (mk [] rfl) A2.refl ?_))
  rintro t19 ⟨hm9,hR⟩
  refine sr 1 rfl (ip' 1 0 [(20,bv (decide ((t19:Int)<(y0.length:Int))))] ?_)
  refine ie (A3 (S2 rfl (fun h10=>?_) (fun h10=>?_)))
  ·have h10p:(t19:Int)<(y0.length:Int):=by simpa using h10
   rw [U1 0 (show t19<y0.length by omega)] at hR;replace hR:=(X6.eq_2 ..).symm.trans hR
   refine A4 (nx (A3 (B0 (sr 3 rfl (J3 0 rfl (by omega) fun a11 hq12=>?_)))))
   refine ix rfl (E8 V7 rfl rfl hq12 rfl t19 rfl (by omega)) ?_
   refine ix rfl (C8 (v:=iv (y0.getD t19 0)) (us:=[iv (y0.getD t19 0)]) ty3 rfl rfl (G0 (c:=K8) (sz:=1) hq12 (fun _=>rfl) 0 rfl (gd 0 (by omega))) rfl) ?_
   refine ip' 1 0 [(4,iv (y0.getD t19 0))] ?_
   refine ie (A5 11 rfl (ip' 3 8 [(25,bv (decide ((32:Int)≤(y0.getD t19 0))))] ?_))
   refine zid 7 1 25 32 ((decide ((y0.getD t19 0)<127))||(decide ((159:Int)<(y0.getD t19 0)))) (fun g13 g13p=>?_) ?_
   ·refine ip' 3 4 [(28,bv (decide ((y0.getD t19 0)<127)))] ?_
    refine zir 3 1 28 31 (decide ((159:Int)<(y0.getD t19 0))) (fun g14 g14p=>?_) ?_
    ·refine ip' 3 0 [(31,bv (decide ((159:Int)<(y0.getD t19 0))))] ?_
     exact zai 2 28 31 g14
    refine ip' 1 0 [(32,bv ((decide ((y0.getD t19 0)<127))||(decide ((159:Int)<(y0.getD t19 0)))))] ?_
    exact zai 4 25 32 g13
   refine A5v (L2:=[]) (A8b ((decide ((32:Int)≤(y0.getD t19 0)))&&((decide ((y0.getD t19 0)<127))||(decide ((159:Int)<(y0.getD t19 0))))) _ rfl) rfl rfl rfl rfl rfl rfl fn0 (List.Perm.refl _) (fun r1 hs15=>?_) (fun hn16=>?_)
   ·replace hR:=B6h hR hs15
    have hmu:=A3y hs15;try simp only [Bool.and_eq_true,decide_eq_true_eq] at hmu
    refine A1 (nx (A5 2 rfl (ix rfl (B4 rfl rfl rfl rfl (by omega)) ?_)))
    refine ip' 1 0 [(19,iv ((t19:Int)+1))] ?_
    refine A1 ?_
    exact B4g (z1:=t19) (t19+1) ⟨(by omega),hR⟩ (by (try dsimp only);omega) (mk [] rfl) A2.refl
   ·replace hR:=B6m hR hn16
    exact Z7 ⟨hr,hD⟩ hR.symm
  have h10p:¬ ((t19:Int)<(y0.length:Int)):=by simpa using h10
  rw [U2 h10p] at hR;replace hR:=(X6.eq_1 ..).symm.trans hR
  refine G2 ?_
  exact A8m rfl ⟨hr,hD⟩ (by simp [hD]) (B0s rfl) hR.symm rfl
 ·replace hR:=B6m hR hn8
  exact Z7 ⟨hr,hD⟩ hR.symm
def B0n (a:Act) (want:Act):Option Unit :=
 (Option.bind (A1q (decide (a=want))) fun (r:Unit)=>(some ()))
theorem C3y (a:Act) (want:Act) (R:Option Unit) (hR:B0n a want=R):B7u Tryz.prog 193 [ag (H0 a),ag (H0 want)] [] [] A1k R (fun r=>.tuple #[]):=by
 refine A7h (n:=8) Tryz.func193 rfl (by kernel_rfl) rfl rfl [(0,ag (H0 a)),(1,ag (H0 want))] ⟨rfl,rfl,trivial⟩ fun X hX hr hD=>?_
 replace hR:=(B0n.eq_1 ..).symm.trans hR
 refine sr 2 rfl (A8y 2 0 [] (fun b1 b2=>[(2,pt b1 0),(3,pt b2 0)]) (fun b1 b2=>[bx b2 (H0 want) 81,bx b1 (H0 a) 81]) (fun b1 b2=>?_))
 refine ie (A5 4 rfl (zrl 2 2 [1,0] [(4,ag (H0 a)),(5,ag (H0 want))] ?_))
 refine ix rfl (A6t (a:=a) (b:=want) C6j rfl rfl rfl) ?_
 refine A5v (L2:=[bx b2 (H0 want) 81,bx b1 (H0 a) 81]) (A8b (decide (a=want)) _ rfl) rfl rfl rfl rfl rfl rfl fn0 (List.Perm.refl _) (fun r hs3=>?_) (fun hn4=>?_)
 ·replace hR:=B6h hR hs3
  have hmu:=A3y hs3;try simp only [Bool.and_eq_true,decide_eq_true_eq] at hmu
  refine A1 ?_
  exact A8m rfl ⟨hr,hD⟩ (by simp [hD]) (B0s rfl) hR.symm rfl
 ·replace hR:=B6m hR hn4
  exact Z7 ⟨hr,hD⟩ hR.symm
def A5g (a:Act):Option (List UInt8) :=
 (Option.bind (B0n a ({Act.zero with kind:=a.kind,text:=a.text})) fun (r:Unit)=>(Option.bind (A2b a.text) fun (r1:Unit)=>(some (([50,59]:List UInt8)++a.text))))
theorem B6r (a:Act) (hs:a.text.length≤100000000) (R:Option (List UInt8)) (hR:A5g a=R):B7u Tryz.prog 192 [ag (H0 a)] [] [] A1k R (fun r=>sv r):=by
 refine A7h (n:=16) Tryz.func192 rfl (by kernel_rfl) rfl rfl [(0,ag (H0 a))] ⟨rfl,trivial⟩ fun X hX hr hD=>?_
 replace hR:=(A5g.eq_1 ..).symm.trans hR
 refine sr 2 rfl (I7 2 0 [] (fun b1=>[(1,pt b1 0)]) (fun b1=>[bx b1 (H0 a) 81]) (fun b1=>?_))
 refine ie (sr 7 rfl (zrl 6 1 [0,0,0] [(3,ag (H0 a)),(8,ag (H0 ({Act.zero with kind:=a.kind,text:=a.text})))] ?_))
 refine A5v (L2:=[bx b1 (H0 a) 81]) (C3y a ({Act.zero with kind:=a.kind,text:=a.text}) _ rfl) rfl rfl rfl rfl rfl rfl fn0 (List.Perm.refl _) (fun r hs2=>?_) (fun hn3=>?_)
 ·replace hR:=B6h hR hs2
  refine ie (sr 3 rfl (zrl 2 1 [0] [(11,sv a.text)] ?_))
  refine A5v (L2:=[bx b1 (H0 a) 81]) (C2w a.text (by first|omega|(simp only [List.length_nil];omega)) _ rfl) rfl rfl rfl rfl rfl rfl fn0 (List.Perm.refl _) (fun r1 hs4=>?_) (fun hn5=>?_)
  ·replace hR:=B6h hR hs4
   refine ie (sr 4 rfl (zrl 2 2 [0] [(14,sv a.text)] ?_))
   refine ix rfl (zst rfl rfl rfl) ?_
   refine ip' 1 0 [(2,sv (([50,59]:List UInt8)++a.text))] ?_
   refine ie (A7 ?_)
   exact B9i rfl ⟨hr,hD⟩ (by simp [hD]) (P3 rfl (B1 rfl)) hR.symm rfl
  ·replace hR:=B6m hR hn5
   exact Z7 ⟨hr,hD⟩ hR.symm
 ·replace hR:=B6m hR hn3
  exact Z7 ⟨hr,hD⟩ hR.symm
end Go.Proofs.YthcjfkljekdioaaGreatDoor
set_option linter.unusedVariables false
set_option linter.unusedSimpArgs false
set_option linter.unnecessarySimpa false
set_option maxRecDepth 100000
namespace Go.Proofs.YthcjfkljekdioaaGreatDoor
open Go Go.Fen
theorem C8f:EqT Tryz.prog 40 V9:=EqT.of 20 rfl (by kernel_rfl) (by kernel_rfl) (fun _ _=>by kernel_rfl) V9.inj
theorem ty4:Ty Tryz.prog 4 1 false:=⟨by kernel_rfl⟩
theorem C1v:Ty Tryz.prog 40 2 true:=⟨by kernel_rfl⟩
theorem D2g:Ty Tryz.prog 118 1 false:=⟨by kernel_rfl⟩
theorem D6j:Ty Tryz.prog 187 3 true:=⟨by kernel_rfl⟩
def G7:Ar3 :=
 {Ar3.zero with b:=255,c:=16777215}
theorem B7h (R:Ar3) (hR:G7=R):I6 Tryz.prog 190 [] [] (ag (B6o R)):=by
 refine zco Tryz.func190 [] fun X hX hr hD=>?_
 replace hR:=(G7.eq_1 ..).symm.trans hR
 refine sr 1 rfl (I7 1 0 [] (fun b1=>[(0,pt b1 0)]) (fun b1=>[bx b1 (B6o Ar3.zero) 187]) (fun b1=>?_))
 refine ie (sr 2 rfl (zrg 2 0 [0] [] [bx b1 (B6o ({Ar3.zero with b:=255,c:=16777215})) 187] ?_))
 subst hR
 refine ie (A7 ?_)
 exact zer hr hD (P3 rfl (I1 (us:=B6o ({Ar3.zero with b:=255,c:=16777215})) D6j rfl 0 rfl rfl rfl)) () (mk [false] rfl) fn0
def K0 (c:Col):Int :=
 (bif ((((decide (c.kind<0))||(decide ((3:Int)≤c.kind)))||(decide (c.n<0)))||(decide ((([G7.a,G7.b,G7.c]:List Int).getD ((c.kind).toNat) 0)<c.n))) then 130 else 0)
theorem A6x (c:Col) (R:Int) (hR:K0 c=R):I6 Tryz.prog 122 [ag (V9 c)] [] (iv R):=by
 refine zco Tryz.func122 [(0,ag (V9 c))] fun X hX hr hD=>?_
 replace hR:=(K0.eq_1 ..).symm.trans hR
 refine sr 2 rfl (I7 2 0 [] (fun b1=>[(1,pt b1 0)]) (fun b1=>[bx b1 (V9 c) 40]) (fun b1=>?_))
 refine ie (A3 (sr 3 rfl (zca (B7h _ rfl) fn0 ?_)))
 refine I7 2 0 [0] (fun b2=>[(3,pt b2 0)]) (fun b2=>[bx b2 (B6o G7) 187,bx b1 (V9 c) 40]) (fun b2=>?_)
 refine ie (sd 22 rfl (by kernel_rfl) rfl ?_)
 refine zdg 4 18 [1] [(8,bv (decide (c.kind<0)))] ?_
 refine zdr 4 14 8 12 (decide ((3:Int)≤c.kind)) (fun g3 g3p=>?_) ?_
 ·refine zdg 4 0 [1] [(12,bv (decide ((3:Int)≤c.kind)))] ?_
  exact zad 2 8 12 g3
 refine dp' 1 13 [(13,bv ((decide (c.kind<0))||(decide ((3:Int)≤c.kind))))] ?_
 refine zdO 4 9 13 17 (decide (c.n<0)) (fun g4=>?_) ?_
 ·have g4p:¬ ((c.kind<0)∨((3:Int)≤c.kind)):=by simpa using g4
  refine zdg 4 0 [1] [(17,bv (decide (c.n<0)))] ?_
  exact zad 2 13 17 g4
 refine dp' 1 8 [(18,bv (((decide (c.kind<0))||(decide ((3:Int)≤c.kind)))||(decide (c.n<0))))] ?_
 refine zdO 8 0 18 26 (decide ((([G7.a,G7.b,G7.c]:List Int).getD ((c.kind).toNat) 0)<c.n)) (fun g5=>?_) ?_
 ·have g5p:¬ (((c.kind<0)∨((3:Int)≤c.kind))∨(c.n<0)):=by simpa using g5
  refine zdg 4 4 [1,1] [(20,iv c.n),(22,iv c.kind)] ?_
  refine dd rfl (A2a Tryz.underlying187 ty3 rfl rfl rfl ((c.kind).toNat) (by omega) (by omega)) ?_
  refine dd rfl (V2 (u:=iv (([G7.a,G7.b,G7.c]:List Int).getD ((c.kind).toNat) 0)) (c:=K8) (xs:=([G7.a,G7.b,G7.c]:List Int)) (j:=[]) (sz:=1) ty3 (fun _=>rfl) rfl rfl 0 rfl ((c.kind).toNat) 0 rfl (gd 0 (by simp only [List.length_cons,List.length_nil];omega)) rfl) ?_
  refine dp' 2 0 [(26,bv (decide ((([G7.a,G7.b,G7.c]:List Int).getD ((c.kind).toNat) 0)<c.n)))] ?_
  exact zad 6 18 26 g5
 refine de ?_
 refine zjb rfl hR ?_ ?_<;>clear hR<;>intro hR h6
 ·have h6p:(((c.kind<0)∨((3:Int)≤c.kind))∨(c.n<0))∨((([G7.a,G7.b,G7.c]:List Int).getD ((c.kind).toNat) 0)<c.n):=by simpa using h6
  refine sr 1 rfl (ip' 1 0 [(2,iv 130)] ?_)
  subst hR
  refine ie (A7 ?_)
  exact D5 hr hD
 have h6p:¬ ((((c.kind<0)∨((3:Int)≤c.kind))∨(c.n<0))∨((([G7.a,G7.b,G7.c]:List Int).getD ((c.kind).toNat) 0)<c.n)):=by simpa using h6
 refine A4 (nx (sr 1 rfl (ip' 1 0 [(2,iv 0)] ?_)))
 subst hR
 refine ie (A7 ?_)
 exact D5 hr hD
def D9 (s:Sty):Int :=
 (bif (((!decide ((bOp .andNot .i64 s.attr 255)=0))||(decide (s.under<0)))||(decide ((5:Int)<s.under))) then 140 else (bif (!decide ((K0 s.fore)=0)) then (K0 s.fore) else (bif (!decide ((K0 s.back)=0)) then (K0 s.back) else (bif (!decide ((K0 s.line)=0)) then (K0 s.line) else 0))))
theorem A0l (s:Sty) (R:Int) (hR:D9 s=R):I6 Tryz.prog 107 [ag (I8 s)] [] (iv R):=by
 refine zco Tryz.func107 [(0,ag (I8 s))] fun X hX hr hD=>?_
 replace hR:=(D9.eq_1 ..).symm.trans hR
 refine sr 2 rfl (I7 2 0 [] (fun b1=>[(1,pt b1 0)]) (fun b1=>[bx b1 (I8 s) 42]) (fun b1=>?_))
 refine ie (A3 (sr 14 rfl (zrl 5 9 [0] [(10,bv (!decide ((bOp .andNot .i64 s.attr 255)=0)))] ?_)))
 refine zio 4 5 10 14 (decide (s.under<0)) (fun g2=>?_) ?_
 ·have g2p:¬ (¬ (bOp .andNot .i64 s.attr 255)=0):=by simpa using g2
  refine zrl 4 0 [0] [(14,bv (decide (s.under<0)))] ?_
  exact A1 (H1 2 10 14 g2 fn0 (mk [true] rfl) rfl rfl rfl rfl rfl)
 refine ip' 1 4 [(15,bv ((!decide ((bOp .andNot .i64 s.attr 255)=0))||(decide (s.under<0))))] ?_
 refine zio 4 0 15 19 (decide ((5:Int)<s.under)) (fun g3=>?_) ?_
 ·have g3p:¬ ((¬ (bOp .andNot .i64 s.attr 255)=0)∨(s.under<0)):=by simpa using g3
  refine zrl 4 0 [0] [(19,bv (decide ((5:Int)<s.under)))] ?_
  exact A1 (H1 2 15 19 g3 fn0 (mk [true] rfl) rfl rfl rfl rfl rfl)
 refine ie ?_
 refine zjb rfl hR ?_ ?_<;>clear hR<;>intro hR h4
 ·have h4p:((¬ (bOp .andNot .i64 s.attr 255)=0)∨(s.under<0))∨((5:Int)<s.under):=by simpa using h4
  refine sr 1 rfl (ip' 1 0 [(2,iv 140)] ?_)
  subst hR
  refine ie (A7 ?_)
  exact D5 hr hD
 have h4p:¬ (((¬ (bOp .andNot .i64 s.attr 255)=0)∨(s.under<0))∨((5:Int)<s.under)):=by simpa using h4
 refine A4 (nx (A3 (sr 8 rfl (zrl 8 0 [0,0,0] [(26,ag [iv s.fore.kind,iv s.fore.n,iv s.back.kind,iv s.back.n,iv s.line.kind,iv s.line.n]),(27,iv 0)] ?_))))
 refine ie (B0 (R6 5 ?_))
 refine D7 (sr 1 rfl (ip' 1 0 [(28,bv true)] ?_))
 refine ie (A3 (H8 rfl (A4 (nx (A3 (B0 (sr 3 rfl (ix rfl (F0 (v:=ag [iv s.fore.kind,iv s.fore.n]) (us:=[iv s.fore.kind,iv s.fore.n]) Tryz.underlying192 C1v rfl rfl rfl 0 rfl (by decide) rfl rfl rfl) ?_))))))))
 refine I7 2 0 [0] (fun b5=>[(4,pt b5 0)]) (fun b5=>[bx b5 (V9 s.fore) 40,bx b1 (I8 s) 42]) (fun b5=>?_)
 refine ie (sr 3 rfl (zrl 1 2 [0] [(30,ag (V9 s.fore))] ?_))
 refine zca (A6x s.fore _ rfl) fn0 ?_
 refine ip' 1 0 [(5,iv (K0 s.fore))] ?_
 refine ie (sr 2 rfl (ip' 2 0 [(33,bv (!decide ((K0 s.fore)=0)))] ?_))
 refine ie ?_
 refine zjn rfl hR ?_ ?_<;>clear hR<;>intro hR h6 h6p
 ·refine sr 2 rfl (ip' 2 0 [(2,iv (K0 s.fore))] ?_)
  subst hR
  refine ie (A7 ?_)
  exact D5 hr hD
 refine A4 (nx (A5 2 rfl (ix rfl (B4 (c:=1) rfl rfl rfl rfl (by decide)) ?_)))
 refine ip' 1 0 [(27,iv 1)] ?_
 refine A1 (D7 (sr 1 rfl (ip' 1 0 [(28,bv true)] ?_)))
 refine ie (A3 (H8 rfl (A4 (nx (A3 (B0 (sr 3 rfl (ix rfl (F0 (v:=ag [iv s.back.kind,iv s.back.n]) (us:=[iv s.back.kind,iv s.back.n]) Tryz.underlying192 C1v rfl rfl rfl 1 rfl (by decide) rfl rfl rfl) ?_))))))))
 refine I7 2 0 [0] (fun b7=>[(4,pt b7 0)]) (fun b7=>[bx b7 (V9 s.back) 40,bx b5 (V9 s.fore) 40,bx b1 (I8 s) 42]) (fun b7=>?_)
 refine ie (sr 3 rfl (zrl 1 2 [0] [(30,ag (V9 s.back))] ?_))
 refine zca (A6x s.back _ rfl) fn0 ?_
 refine ip' 1 0 [(5,iv (K0 s.back))] ?_
 refine ie (sr 2 rfl (ip' 2 0 [(33,bv (!decide ((K0 s.back)=0)))] ?_))
 refine ie ?_
 refine zjn rfl hR ?_ ?_<;>clear hR<;>intro hR h8 h8p
 ·refine sr 2 rfl (ip' 2 0 [(2,iv (K0 s.back))] ?_)
  subst hR
  refine ie (A7 ?_)
  exact D5 hr hD
 refine A4 (nx (A5 2 rfl (ix rfl (B4 (c:=2) rfl rfl rfl rfl (by decide)) ?_)))
 refine ip' 1 0 [(27,iv 2)] ?_
 refine A1 (D7 (sr 1 rfl (ip' 1 0 [(28,bv true)] ?_)))
 refine ie (A3 (H8 rfl (A4 (nx (A3 (B0 (sr 3 rfl (ix rfl (F0 (v:=ag [iv s.line.kind,iv s.line.n]) (us:=[iv s.line.kind,iv s.line.n]) Tryz.underlying192 C1v rfl rfl rfl 2 rfl (by decide) rfl rfl rfl) ?_))))))))
 refine I7 2 0 [0] (fun b9=>[(4,pt b9 0)]) (fun b9=>[bx b9 (V9 s.line) 40,bx b7 (V9 s.back) 40,bx b5 (V9 s.fore) 40,bx b1 (I8 s) 42]) (fun b9=>?_)
 refine ie (sr 3 rfl (zrl 1 2 [0] [(30,ag (V9 s.line))] ?_))
 refine zca (A6x s.line _ rfl) fn0 ?_
 refine ip' 1 0 [(5,iv (K0 s.line))] ?_
 refine ie (sr 2 rfl (ip' 2 0 [(33,bv (!decide ((K0 s.line)=0)))] ?_))
 refine ie ?_
 refine zjn rfl hR ?_ ?_<;>clear hR<;>intro hR h10 h10p
 ·refine sr 2 rfl (ip' 2 0 [(2,iv (K0 s.line))] ?_)
  subst hR
  refine ie (A7 ?_)
  exact D5 hr hD
 refine A4 (nx (A5 2 rfl (ix rfl (B4 (c:=3) rfl rfl rfl rfl (by decide)) ?_)))
 refine ip' 1 0 [(27,iv 3)] ?_
 refine A1 (D7 (sr 1 rfl (ip' 1 0 [(28,bv false)] ?_)))
 refine ie (A3 (A0m rfl (G2 (nx (sr 1 rfl (ip' 1 0 [(2,iv 0)] ?_))))))
 subst hR
 refine ie (A7 ?_)
 exact D5 hr hD
end Go.Proofs.YthcjfkljekdioaaGreatDoor
set_option linter.unusedVariables false
set_option linter.unusedSimpArgs false
set_option linter.unnecessarySimpa false
set_option maxRecDepth 100000
namespace Go.Proofs.YthcjfkljekdioaaGreatDoor
open Go Go.Fen
theorem D6b:ApTy Tryz.prog 48 4 1 1:=⟨by kernel_rfl,by kernel_rfl,rfl⟩
theorem C6c:ApTy Tryz.prog 69 72 12 96:=⟨by kernel_rfl,by kernel_rfl,rfl⟩
theorem D5n:SlTy Tryz.prog 48 4 1:=⟨by kernel_rfl,by kernel_rfl⟩
theorem S9:SlTy Tryz.prog 69 72 12:=⟨by kernel_rfl,by kernel_rfl⟩
theorem D7b:Ty Tryz.prog 47 13 true:=⟨by kernel_rfl⟩
theorem B8o:Ty Tryz.prog 72 12 true:=⟨by kernel_rfl⟩
theorem B8a:Ty Tryz.prog 78 2 true:=⟨by kernel_rfl⟩
theorem D4q:Zero Tryz.prog 4 [bv false]:=⟨by kernel_rfl⟩
theorem D4a:Zero Tryz.prog 72 (B2 Cel.zero):=⟨by kernel_rfl⟩
structure Cur where
 row:Int
 col:Int
 wrap:Bool
deriving DecidableEq
def A4w (x:Cur):List Value:=[.int .i64 x.row,.int .i64 x.col,.bool x.wrap]
def Cur.zero:Cur:=⟨0,0,false⟩
theorem A4w.inj (x y:Cur) (h:A4w x=A4w y):x=y:=by
 rcases x with ⟨_,_,_⟩
 rcases y with ⟨_,_,_⟩
 simp [A4w,bs] at h
 simp_all
structure Ar4 where
 a:Int
 b:Int
 c:Int
 d:Int
deriving DecidableEq
def B8l (x:Ar4):List Value:=[.int .i64 x.a,.int .i64 x.b,.int .i64 x.c,.int .i64 x.d]
def Ar4.zero:Ar4:=⟨0,0,0,0⟩
theorem B8l.inj (x y:Ar4) (h:B8l x=B8l y):x=y:=by
 rcases x with ⟨_,_,_,_⟩
 rcases y with ⟨_,_,_,_⟩
 simp [B8l,bs] at h
 simp_all
structure Sts where
 g:Ar4
 used:Int
 once:Int
deriving DecidableEq
def A4x (x:Sts):List Value:=B8l x.g++([.int .i64 x.used,.int .i64 x.once])
def Sts.zero:Sts:=⟨Ar4.zero,0,0⟩
theorem A4x.inj (x y:Sts) (h:A4x x=A4x y):x=y:=by
 rcases x with ⟨⟨_,_,_,_⟩,_,_⟩
 rcases y with ⟨⟨_,_,_,_⟩,_,_⟩
 simp [B8l,A4x,bs] at h
 simp_all
structure Mod where
 insert:Bool
 newline:Bool
 cursorKeys:Bool
 inverse:Bool
 origin:Bool
 auto:Bool
 visible:Bool
 paste:Bool
 focus:Bool
 sync:Bool
 keypad:Bool
 mouse:Int
 mouseSgr:Bool
deriving DecidableEq
def A2m (x:Mod):List Value:=[.bool x.insert,.bool x.newline,.bool x.cursorKeys,.bool x.inverse,.bool x.origin,.bool x.auto,.bool x.visible,.bool x.paste,.bool x.focus,.bool x.sync,.bool x.keypad,.int .i64 x.mouse,.bool x.mouseSgr]
def Mod.zero:Mod:=⟨false,false,false,false,false,false,false,false,false,false,false,0,false⟩
theorem A2m.inj (x y:Mod) (h:A2m x=A2m y):x=y:=by
 rcases x with ⟨_,_,_,_,_,_,_,_,_,_,_,_,_⟩
 rcases y with ⟨_,_,_,_,_,_,_,_,_,_,_,_,_⟩
 simp [A2m,bs] at h
 simp_all
structure Sav where
 is_:Bool
 cursor:Cur
 style:Sty
 sets:Sts
 origin:Bool
deriving DecidableEq
def A1t (x:Sav):List Value:=[.bool x.is_]++(A4w x.cursor++(I8 x.style++(A4x x.sets++([.bool x.origin]))))
def Sav.zero:Sav:=⟨false,Cur.zero,Sty.zero,Sts.zero,false⟩
theorem A1t.inj (x y:Sav) (h:A1t x=A1t y):x=y:=by
 rcases x with ⟨_,⟨_,_,_⟩,⟨_,_,⟨_,_⟩,⟨_,_⟩,⟨_,_⟩⟩,⟨⟨_,_,_,_⟩,_,_⟩,_⟩
 rcases y with ⟨_,⟨_,_,_⟩,⟨_,_,⟨_,_⟩,⟨_,_⟩,⟨_,_⟩⟩,⟨⟨_,_,_,_⟩,_,_⟩,_⟩
 simp [B8l,V9,A4w,A1t,A4x,I8,bs] at h
 simp_all
structure ScrC where
 cols:Int
 rows:Int
 onAlt:Bool
 cursor:Cur
 style:Sty
 sets:Sts
 modes:Mod
 top:Int
 bottom:Int
 kept:Sav
 keptAlt:Sav
 shape:Int
 title:List UInt8
 last:Int
deriving DecidableEq
def C6n (x:ScrC):List Value:=[.int .i64 x.cols,.int .i64 x.rows,.bool x.onAlt]++(A4w x.cursor++(I8 x.style++(A4x x.sets++(A2m x.modes++([.int .i64 x.top,.int .i64 x.bottom]++(A1t x.kept++(A1t x.keptAlt++([.int .i64 x.shape,.string (bs x.title),.int .i64 x.last]))))))))
def ScrC.zero:ScrC:=⟨0,0,false,Cur.zero,Sty.zero,Sts.zero,Mod.zero,0,0,Sav.zero,Sav.zero,0,[],0⟩
theorem C6n.inj (x y:ScrC) (h:C6n x=C6n y):x=y:=by
 rcases x with ⟨_,_,_,⟨_,_,_⟩,⟨_,_,⟨_,_⟩,⟨_,_⟩,⟨_,_⟩⟩,⟨⟨_,_,_,_⟩,_,_⟩,⟨_,_,_,_,_,_,_,_,_,_,_,_,_⟩,_,_,⟨_,⟨_,_,_⟩,⟨_,_,⟨_,_⟩,⟨_,_⟩,⟨_,_⟩⟩,⟨⟨_,_,_,_⟩,_,_⟩,_⟩,⟨_,⟨_,_,_⟩,⟨_,_,⟨_,_⟩,⟨_,_⟩,⟨_,_⟩⟩,⟨⟨_,_,_,_⟩,_,_⟩,_⟩,_,_,_⟩
 rcases y with ⟨_,_,_,⟨_,_,_⟩,⟨_,_,⟨_,_⟩,⟨_,_⟩,⟨_,_⟩⟩,⟨⟨_,_,_,_⟩,_,_⟩,⟨_,_,_,_,_,_,_,_,_,_,_,_,_⟩,_,_,⟨_,⟨_,_,_⟩,⟨_,_,⟨_,_⟩,⟨_,_⟩,⟨_,_⟩⟩,⟨⟨_,_,_,_⟩,_,_⟩,_⟩,⟨_,⟨_,_,_⟩,⟨_,_,⟨_,_⟩,⟨_,_⟩,⟨_,_⟩⟩,⟨⟨_,_,_,_⟩,_,_⟩,_⟩,_,_,_⟩
 simp [B8l,V9,A4w,A2m,A1t,C6n,A4x,I8,bs] at h
 simp_all
def A6 (x:ScrC) (main alt past tabs:Slc):List Value:=[.int .i64 x.cols,.int .i64 x.rows,.slice main.q main.n main.k,.slice alt.q alt.n alt.k,.bool x.onAlt,.slice past.q past.n past.k]++(A4w x.cursor++(I8 x.style++(A4x x.sets++(A2m x.modes++([.int .i64 x.top,.int .i64 x.bottom,.slice tabs.q tabs.n tabs.k]++(A1t x.kept++(A1t x.keptAlt++([.int .i64 x.shape,.string (bs x.title),.int .i64 x.last]))))))))
structure FrmC where
 cols:Int
 cursor:Plc
 visible:Bool
 shape:Int
 title:List UInt8
deriving DecidableEq
def C5y (x:FrmC):List Value:=[.int .i64 x.cols]++(L7 x.cursor++([.bool x.visible,.int .i64 x.shape,.string (bs x.title)]))
def FrmC.zero:FrmC:=⟨0,Plc.zero,false,0,[]⟩
theorem C5y.inj (x y:FrmC) (h:C5y x=C5y y):x=y:=by
 rcases x with ⟨_,⟨_,_⟩,_,_,_⟩
 rcases y with ⟨_,⟨_,_⟩,_,_,_⟩
 simp [C5y,L7,bs] at h
 simp_all
def A0 (x:FrmC) (rows:Slc):List Value:=[.int .i64 x.cols,.slice rows.q rows.n rows.k]++(L7 x.cursor++([.bool x.visible,.int .i64 x.shape,.string (bs x.title)]))
def A4j:Mod :=
 {Mod.zero with auto:=true,visible:=true}
theorem C4h (R:Mod) (hR:A4j=R):I6 Tryz.prog 77 [] [] (ag (A2m R)):=by
 refine zco Tryz.func77 [] fun X hX hr hD=>?_
 replace hR:=(A4j.eq_1 ..).symm.trans hR
 refine sr 1 rfl (I7 1 0 [] (fun b1=>[(0,pt b1 0)]) (fun b1=>[bx b1 (A2m Mod.zero) 47]) (fun b1=>?_))
 refine ie (sr 2 rfl (zrg 2 0 [0] [] [bx b1 (A2m ({Mod.zero with auto:=true,visible:=true})) 47] ?_))
 subst hR
 refine ie (A7 ?_)
 exact zer hr hD (P3 rfl (I1 (us:=A2m ({Mod.zero with auto:=true,visible:=true})) D7b rfl 0 rfl rfl rfl)) () (mk [false] rfl) fn0
def A6j (cols:Int):Nat→List Bool→Nat→(List Bool×Int)
 | 0,_,_=>([],0)
 | fu1+1,t,k=>(bif (decide ((k:Int)<cols)) then A6j cols fu1 (t.set k true) (k+8) else (t,0))
def B5z (cols:Int):List Bool×Int :=
 (bif ((decide (cols<2))||(decide ((80:Int)<cols))) then (([]:List Bool),2) else A6j cols ((cols - (8:Int)).toNat+1) (List.replicate ((cols).toNat) false) 8)
theorem C4x (cols:Int) (R:List Bool×Int) (hR:B5z cols=R):Con Tryz.prog 76 [iv cols] [] [] ({r:VR // VOk 1 R.1.length r}) (fun x=>.tuple #[.slice (va x.1.q) R.1.length x.1.k,iv R.2]) (fun x=>((vo F4 4 x.1 R.1)++([]))) (fun x=>[]):=by
 refine zco Tryz.func76 [(0,iv cols)] fun X hX hr hD=>?_
 replace hR:=(B5z.eq_1 ..).symm.trans hR
 refine sr 2 rfl (ip' 2 0 [] ?_)
 refine ie (A3 (sr 6 rfl (ip' 3 3 [(8,bv (decide (cols<2)))] ?_)))
 refine zir 3 0 8 11 (decide ((80:Int)<cols)) (fun g1 g1p=>?_) ?_
 ·refine ip' 3 0 [(11,bv (decide ((80:Int)<cols)))] ?_
  exact A1 (H1 2 8 11 g1 fn0 (mk [] rfl) rfl rfl rfl rfl rfl)
 refine ie ?_
 refine zjo rfl hR ?_ ?_<;>clear hR<;>intro hR h2 h2p
 ·refine sr 2 rfl (ip' 2 0 [(2,.slice none 0 0),(3,iv 2)] ?_)
  subst hR
  refine ie (A7 ?_)
  exact zer hr hD (V5 rfl (B1 rfl) (B1 rfl)) ⟨VR.nil,VOk.nil⟩ (mc [vo F4 4 VR.nil ([]:List Bool)] [true] rfl (by first|rfl|(simp only [List.length_set]<;>rfl))) fn0
 refine A4 (nx (sr 3 rfl (ip' 1 2 [(12,iv cols)] ?_)))
 refine it rfl (A9p (f:=F4) (l:=(cols).toNat) (c:=(cols).toNat) false D6b D4q.ok (fun _=>rfl) rfl (by exact congrArg (fun z=>some (Value.int .i64 z)) (show cols=(((cols).toNat:Nat):Int) by omega)) (by exact congrArg (fun z=>some (Value.int .i64 z)) (show cols=(((cols).toNat:Nat):Int) by omega)) (by omega) (by first|omega|(simp only [List.length_cons,List.length_nil,List.length_append,List.length_take,List.length_drop];omega)) (by omega)) fun ⟨r3,hr4⟩=>?_
 have:(List.replicate ((cols).toNat) false).length=((cols).toNat):=List.length_replicate
 have:=VOk.le hr4
 have:=VOk.cap hr4
 have:(List.replicate ((cols).toNat) false).length=((cols).toNat):=List.length_replicate
 refine ip' 1 0 [(4,.slice (va r3.q) ((List.replicate ((cols).toNat) false).length) r3.k)] ?_
 refine ie (A3 (sr 1 rfl (ip' 1 0 [(5,iv 8)] ?_)))
 refine ie (B0 ?_)
 refine B2k (fun (fu:Nat) (t:List Bool) (tr:VR) (k:Nat)=>((cols - (k:Int)).toNat<fu∧A6j cols fu t k=R∧VOk 1 t.length tr∧t.length=cols.toNat,[(0,iv cols),(4,.slice (va tr.q) t.length tr.k),(5,iv (k:Int))],((vo F4 4 tr t)++([])),[],fu)) ((cols - (8:Int)).toNat+1) (List.replicate ((cols).toNat) false) r3 8 ⟨(Nat.lt_succ_self _),hR,hr4,(by exact List.length_replicate)⟩ (mc [vo F4 4 r3 (List.replicate ((cols).toNat) false)] [true] rfl (by first|rfl|(simp only [List.length_set]<;>rfl))) fn0 ?_
 rintro fu t tr k ⟨hm5,hR,hoktr,ht⟩
 have:=VOk.le hoktr
 obtain ⟨fu1,rfl⟩:∃ m,fu=m+1:=⟨fu - 1,by omega⟩
 replace hR:=(A6j.eq_2 ..).symm.trans hR
 refine A3 (sr 3 rfl (ip' 3 0 [(16,bv (decide ((k:Int)<cols)))] ?_))
 refine ie ?_
 refine zjd rfl hR ?_ ?_<;>clear hR<;>intro hR h6 h6p
 ·refine A4 (nx (A3 (B0 (A5 4 rfl (ip' 2 2 [(19,.slice (va tr.q) t.length tr.k),(20,iv (k:Int))] ?_)))))
  obtain ⟨b7,hb8⟩:=VOk.some hoktr (by omega)
  obtain ⟨q9,k10,j11⟩:=tr
  obtain rfl:q9=some b7:=hb8
  refine ix rfl (S6 D5n rfl rfl rfl k rfl (by omega)) ?_
  refine it rfl (V1 (us:=[bv true]) (u':=true) (c:=F4) (sz:=1) ty4 (fun _=>rfl) rfl rfl rfl 0 rfl rfl rfl rfl k 0 rfl (gd false (by omega)) rfl rfl) fun _=>?_
  refine A1 (nx (A5 3 rfl (ip' 1 2 [(17,iv (k:Int))] ?_)))
  refine ix rfl (B4 rfl rfl rfl rfl (by omega)) ?_
  refine ip' 1 0 [(5,iv ((k:Int)+8))] ?_
  refine A1 ?_
  exact B1k (z1:=(fu1+1)) (z2:=t) (z3:=(⟨some b7,k10,j11⟩:VR)) (z4:=k) fu1 (t.set k true) (⟨some b7,k10,j11⟩:VR) (k+8) ⟨(by omega),hR,(VOk.cast hoktr (by simp)),(by (rw [List.length_set];exact ht))⟩ (Nat.lt_succ_self _) (mc [vo F4 4 (⟨some b7,k10,j11⟩:VR) (t.set k true)] [true] rfl (by first|rfl|(simp only [List.length_set]<;>rfl))) fn0
 refine G2 (nx (sr 3 rfl (ip' 3 0 [(2,.slice (va tr.q) t.length tr.k),(3,iv 0)] ?_)))
 subst hR
 refine ie (A7 ?_)
 exact zer hr hD (V5 rfl (B1 rfl) (B1 rfl)) ⟨tr,hoktr⟩ (mc [vo F4 4 tr t] [true] rfl (by first|rfl|(simp only [List.length_set]<;>rfl))) fn0
def A5l (s:Sty):Cel :=
 {Cel.zero with base:=32,sty:=s}
theorem C3z (s:Sty) (R:Cel) (hR:A5l s=R):I6 Tryz.prog 271 [ag (I8 s)] [] (ag (B2 R)):=by
 refine zco Tryz.func271 [(0,ag (I8 s))] fun X hX hr hD=>?_
 replace hR:=(A5l.eq_1 ..).symm.trans hR
 refine sr 2 rfl (A8y 2 0 [] (fun b1 b2=>[(1,pt b1 0),(2,pt b2 0)]) (fun b1 b2=>[bx b2 (B2 Cel.zero) 72,bx b1 (I8 s) 42]) (fun b1 b2=>?_))
 refine ie (sr 3 rfl (zrg 3 0 [1,0] [] [bx b2 (B2 ({Cel.zero with base:=32,sty:=s})) 72,bx b1 (I8 s) 42] ?_))
 subst hR
 refine ie (A7 ?_)
 exact zer hr hD (P3 rfl (I1 (us:=B2 ({Cel.zero with base:=32,sty:=s})) B8o rfl 0 rfl rfl rfl)) () (mk [false,false] rfl) fn0
def A4u (x:Int) (y:Int):Int×Int :=
 ((IntKind.u64.wrap ((IntKind.u64.wrap ((IntKind.u64.wrap ((x / 4294967296) * (y / 4294967296)))+((IntKind.u64.wrap ((IntKind.u64.wrap ((x / 4294967296) * (bOp .and .u64 y 4294967295)))+((IntKind.u64.wrap ((bOp .and .u64 x 4294967295) * (bOp .and .u64 y 4294967295))) / 4294967296))) / 4294967296)))+((IntKind.u64.wrap ((bOp .and .u64 (IntKind.u64.wrap ((IntKind.u64.wrap ((x / 4294967296) * (bOp .and .u64 y 4294967295)))+((IntKind.u64.wrap ((bOp .and .u64 x 4294967295) * (bOp .and .u64 y 4294967295))) / 4294967296))) 4294967295)+(IntKind.u64.wrap ((bOp .and .u64 x 4294967295) * (y / 4294967296))))) / 4294967296))),(IntKind.u64.wrap (x * y)))
theorem B3f (x:Int) (y:Int) (R:Int×Int) (hR:A4u x y=R):I6 Tryz.prog 368 [.int .u64 x,.int .u64 y] [] (.tuple #[.int .u64 R.1,.int .u64 R.2]):=by
 refine zco Tryz.func368 [(0,.int .u64 x),(1,.int .u64 y)] fun X hX hr hD=>?_
 replace hR:=(A4u.eq_1 ..).symm.trans hR
 refine sr 2 rfl (ip' 2 0 [] ?_)
 refine ie (sr 3 rfl (ip' 3 0 [(6,.int .u64 (bOp .and .u64 x 4294967295))] ?_))
 refine ie (sr 3 rfl (ip' 1 2 [(16,.int .u64 x)] ?_))
 refine ix rfl (A2t (c:=x / 4294967296) rfl rfl rfl (by decide) (by simp [Int.fdiv_eq_ediv_of_nonneg,IntKind.bits])) ?_
 refine ip' 1 0 [(7,.int .u64 (x / 4294967296))] ?_
 refine ie (sr 3 rfl (ip' 3 0 [(8,.int .u64 (bOp .and .u64 y 4294967295))] ?_))
 refine ie (sr 3 rfl (ip' 1 2 [(20,.int .u64 y)] ?_))
 refine ix rfl (A2t (c:=y / 4294967296) rfl rfl rfl (by decide) (by simp [Int.fdiv_eq_ediv_of_nonneg,IntKind.bits])) ?_
 refine ip' 1 0 [(9,.int .u64 (y / 4294967296))] ?_
 refine ie (sr 4 rfl (ip' 4 0 [(10,.int .u64 (IntKind.u64.wrap ((bOp .and .u64 x 4294967295) * (bOp .and .u64 y 4294967295))))] ?_))
 refine ie (sr 7 rfl (ip' 4 3 [(27,.int .u64 (IntKind.u64.wrap ((x / 4294967296) * (bOp .and .u64 y 4294967295)))),(28,.int .u64 (IntKind.u64.wrap ((bOp .and .u64 x 4294967295) * (bOp .and .u64 y 4294967295))))] ?_))
 refine ix rfl (A2t (c:=(IntKind.u64.wrap ((bOp .and .u64 x 4294967295) * (bOp .and .u64 y 4294967295))) / 4294967296) rfl rfl rfl (by decide) (by simp [Int.fdiv_eq_ediv_of_nonneg,IntKind.bits])) ?_
 refine ip' 2 0 [(11,.int .u64 (IntKind.u64.wrap ((IntKind.u64.wrap ((x / 4294967296) * (bOp .and .u64 y 4294967295)))+((IntKind.u64.wrap ((bOp .and .u64 x 4294967295) * (bOp .and .u64 y 4294967295))) / 4294967296))))] ?_
 refine ie (sr 3 rfl (ip' 3 0 [(12,.int .u64 (bOp .and .u64 (IntKind.u64.wrap ((IntKind.u64.wrap ((x / 4294967296) * (bOp .and .u64 y 4294967295)))+((IntKind.u64.wrap ((bOp .and .u64 x 4294967295) * (bOp .and .u64 y 4294967295))) / 4294967296))) 4294967295))] ?_))
 refine ie (sr 3 rfl (ip' 1 2 [(33,.int .u64 (IntKind.u64.wrap ((IntKind.u64.wrap ((x / 4294967296) * (bOp .and .u64 y 4294967295)))+((IntKind.u64.wrap ((bOp .and .u64 x 4294967295) * (bOp .and .u64 y 4294967295))) / 4294967296))))] ?_))
 refine ix rfl (A2t (c:=(IntKind.u64.wrap ((IntKind.u64.wrap ((x / 4294967296) * (bOp .and .u64 y 4294967295)))+((IntKind.u64.wrap ((bOp .and .u64 x 4294967295) * (bOp .and .u64 y 4294967295))) / 4294967296))) / 4294967296) rfl rfl rfl (by decide) (by simp [Int.fdiv_eq_ediv_of_nonneg,IntKind.bits])) ?_
 refine ip' 1 0 [(13,.int .u64 ((IntKind.u64.wrap ((IntKind.u64.wrap ((x / 4294967296) * (bOp .and .u64 y 4294967295)))+((IntKind.u64.wrap ((bOp .and .u64 x 4294967295) * (bOp .and .u64 y 4294967295))) / 4294967296))) / 4294967296))] ?_
 refine ie (sr 6 rfl (ip' 6 0 [(12,.int .u64 (IntKind.u64.wrap ((bOp .and .u64 (IntKind.u64.wrap ((IntKind.u64.wrap ((x / 4294967296) * (bOp .and .u64 y 4294967295)))+((IntKind.u64.wrap ((bOp .and .u64 x 4294967295) * (bOp .and .u64 y 4294967295))) / 4294967296))) 4294967295)+(IntKind.u64.wrap ((bOp .and .u64 x 4294967295) * (y / 4294967296))))))] ?_))
 refine ie (sr 9 rfl (ip' 6 3 [(44,.int .u64 (IntKind.u64.wrap ((IntKind.u64.wrap ((x / 4294967296) * (y / 4294967296)))+((IntKind.u64.wrap ((IntKind.u64.wrap ((x / 4294967296) * (bOp .and .u64 y 4294967295)))+((IntKind.u64.wrap ((bOp .and .u64 x 4294967295) * (bOp .and .u64 y 4294967295))) / 4294967296))) / 4294967296)))),(45,.int .u64 (IntKind.u64.wrap ((bOp .and .u64 (IntKind.u64.wrap ((IntKind.u64.wrap ((x / 4294967296) * (bOp .and .u64 y 4294967295)))+((IntKind.u64.wrap ((bOp .and .u64 x 4294967295) * (bOp .and .u64 y 4294967295))) / 4294967296))) 4294967295)+(IntKind.u64.wrap ((bOp .and .u64 x 4294967295) * (y / 4294967296))))))] ?_))
 refine ix rfl (A2t (c:=(IntKind.u64.wrap ((bOp .and .u64 (IntKind.u64.wrap ((IntKind.u64.wrap ((x / 4294967296) * (bOp .and .u64 y 4294967295)))+((IntKind.u64.wrap ((bOp .and .u64 x 4294967295) * (bOp .and .u64 y 4294967295))) / 4294967296))) 4294967295)+(IntKind.u64.wrap ((bOp .and .u64 x 4294967295) * (y / 4294967296))))) / 4294967296) rfl rfl rfl (by decide) (by simp [Int.fdiv_eq_ediv_of_nonneg,IntKind.bits])) ?_
 refine ip' 2 0 [(4,.int .u64 (IntKind.u64.wrap ((IntKind.u64.wrap ((IntKind.u64.wrap ((x / 4294967296) * (y / 4294967296)))+((IntKind.u64.wrap ((IntKind.u64.wrap ((x / 4294967296) * (bOp .and .u64 y 4294967295)))+((IntKind.u64.wrap ((bOp .and .u64 x 4294967295) * (bOp .and .u64 y 4294967295))) / 4294967296))) / 4294967296)))+((IntKind.u64.wrap ((bOp .and .u64 (IntKind.u64.wrap ((IntKind.u64.wrap ((x / 4294967296) * (bOp .and .u64 y 4294967295)))+((IntKind.u64.wrap ((bOp .and .u64 x 4294967295) * (bOp .and .u64 y 4294967295))) / 4294967296))) 4294967295)+(IntKind.u64.wrap ((bOp .and .u64 x 4294967295) * (y / 4294967296))))) / 4294967296))))] ?_
 refine ie (sr 4 rfl (ip' 4 0 [(5,.int .u64 (IntKind.u64.wrap (x * y)))] ?_))
 subst hR
 refine ie (A7 ?_)
 exact A7m hr hD
def A1r (x:Int) (y:Int):Int×Int :=
 (F1 (A4u x y) fun (y2:Int×Int)=>(y2.1,y2.2))
theorem wr6 {x:Int} (h:-1000000≤x∧x≤1000000):IntKind.i64.wrap x=x:=A4b (by show (-9223372036854775808:Int)≤_;omega) (by show _≤(9223372036854775807:Int);omega)
theorem C8w:∀ c<81,A1r 1 ((c:Nat):Int)=(0,((c:Nat):Int)):=by decide +kernel
theorem D0p (n:Nat) (c:Int) (hn:n=1) (hc:1≤c∧c≤80):A1r (IntKind.u64.wrap (n:Int)) (IntKind.u64.wrap c)=(0,c):=by
 obtain ⟨m,rfl⟩:∃ m:Nat,c=m:=⟨c.toNat,by omega⟩
 subst hn
 rw [A4b (k:=.u64) (by show (0:Int)≤_;omega) (by show _≤(18446744073709551615:Int);omega),A4b (k:=.u64) (by show (0:Int)≤_;omega) (by show _≤(18446744073709551615:Int);omega)]
 exact C8w m (by omega)
theorem B5o (x:Int) (y:Int) (R:Int×Int) (hR:A1r x y=R):I6 Tryz.prog 320 [.int .u64 x,.int .u64 y] [] (.tuple #[.int .u64 R.1,.int .u64 R.2]):=by
 refine zco Tryz.func320 [(0,.int .u64 x),(1,.int .u64 y)] fun X hX hr hD=>?_
 replace hR:=(A1r.eq_1 ..).symm.trans hR
 refine sr 2 rfl (ip' 2 0 [] ?_)
 refine ie (A3 (A0m rfl (A4 (nx (sr 8 rfl (ip' 2 6 [(23,.int .u64 x),(24,.int .u64 y)] ?_))))))
 have hQ:=G6 hR;clear hR;obtain ⟨y2,hy2,hR⟩:=hQ
 refine zca (B3f x y y2 hy2) fn0 ?_
 refine ip' 5 0 [(8,.int .u64 y2.1),(9,.int .u64 y2.2)] ?_
 refine ie (sr 4 rfl (ip' 4 0 [(4,.int .u64 y2.1),(5,.int .u64 y2.2)] ?_))
 subst hR
 refine ie (A7 ?_)
 exact A7m hr hD
def K9:Nat→List Cel→Nat→List Cel
 | 0,_,_=>[]
 | fu1+1,newslice,n=>(bif (decide ((n:Int)<(newslice.length:Int))) then K9 fu1 (newslice.take n++(newslice.take (min n (newslice.length - n):Nat)++newslice.drop (n+(min n (newslice.length - n):Nat)))) (n+(min n (newslice.length - n):Nat)) else newslice)
def Q5 (x:List Cel) (count:Int):List Cel :=
 (F1 (A1r (IntKind.u64.wrap (x.length:Int)) (IntKind.u64.wrap count)) fun (y0:Int×Int)=>K9 (((x.take (List.replicate ((IntKind.i64.wrap y0.2).toNat) Cel.zero).length++(List.replicate ((IntKind.i64.wrap y0.2).toNat) Cel.zero).drop x.length).length - (min x.length (List.replicate ((IntKind.i64.wrap y0.2).toNat) Cel.zero).length:Nat))+1) (x.take (List.replicate ((IntKind.i64.wrap y0.2).toNat) Cel.zero).length++(List.replicate ((IntKind.i64.wrap y0.2).toNat) Cel.zero).drop x.length) (min x.length (List.replicate ((IntKind.i64.wrap y0.2).toNat) Cel.zero).length:Nat))
theorem A2n (x:List Cel) (count:Int) (xq:Option Addr) (xk:Nat) (hlx:x.length≤9223372036854775807) (hcx:x.length≤xk) (hcn:1≤count∧count≤80) (hx1:x.length=1) (R:List Cel) (hR:Q5 x count=R):Con Tryz.prog 270 [.slice xq x.length xk,iv count] [] [sl B2 xq x] ({r:VR // VOk 12 R.length r}) (fun x=>.slice (va x.1.q) R.length x.1.k) (fun x=>((vo B2 72 x.1 R)++([]))) (fun x=>[]):=by
 refine zco Tryz.func270 [(0,.slice xq x.length xk),(1,iv count)] fun X hX hr hD=>?_
 replace hR:=(Q5.eq_1 ..).symm.trans hR
 refine sr 1 rfl (ip' 1 0 [] ?_)
 refine ie (A3 (sr 2 rfl (ip' 2 0 [(10,bv (decide (count<0)))] ?_)))
 refine ie (S2 rfl (fun h1=>?_) (fun h1=>?_))
 ·have h1p:count<0:=by simpa using h1
  exfalso;omega
 have h1p:¬ (count<0):=by simpa using h1
 refine A4 (nx (sr 11 rfl (ip' 5 6 [(15,.int .u64 (IntKind.u64.wrap (x.length:Int))),(17,.int .u64 (IntKind.u64.wrap count))] ?_)))
 have hQ:=G6 hR;clear hR;obtain ⟨y0,hy0,hR⟩:=hQ
 refine zca (B5o (IntKind.u64.wrap (x.length:Int)) (IntKind.u64.wrap count) y0 hy0) fn0 ?_
 have:=D0p x.length count hx1 hcn;try rw [hy0] at this
 have hm1:y0.1=0:=by rw [this]
 have hm2:IntKind.i64.wrap y0.2=count:=by rw [this];exact wr6 (by show -1000000≤count∧count≤1000000;omega)
 have hm3:y0.2=count:=by rw [this]
 refine ip' 5 0 [(5,.int .u64 y0.1),(6,.int .u64 y0.2)] ?_
 refine ie (A3 (sr 6 rfl (ip' 3 3 [(23,bv (decide ((0:Int)<y0.1)))] ?_)))
 refine zir 3 0 23 26 (decide ((9223372036854775807:Int)<y0.2)) (fun g2 g2p=>?_) ?_
 ·refine ip' 3 0 [(26,bv (decide ((9223372036854775807:Int)<y0.2)))] ?_
  exact zai 2 23 26 g2
 refine ie (S2 rfl (fun h3=>?_) (fun h3=>?_))
 ·have h3p:((0:Int)<y0.1)∨((9223372036854775807:Int)<y0.2):=by simpa using h3
  exfalso;simp only [Bool.or_eq_true,decide_eq_true_eq] at h3;omega
 have h3p:¬ (((0:Int)<y0.1)∨((9223372036854775807:Int)<y0.2)):=by simpa using h3
 refine A4 (nx (sr 4 rfl (ip' 2 2 [(29,iv (IntKind.i64.wrap y0.2))] ?_)))
 refine it rfl (A9p (f:=B2) (l:=(IntKind.i64.wrap y0.2).toNat) (c:=(IntKind.i64.wrap y0.2).toNat) Cel.zero C6c D4a.ok (fun _=>rfl) rfl (by exact congrArg (fun z=>some (Value.int .i64 z)) (show (IntKind.i64.wrap y0.2)=(((IntKind.i64.wrap y0.2).toNat:Nat):Int) by omega)) (by exact congrArg (fun z=>some (Value.int .i64 z)) (show (IntKind.i64.wrap y0.2)=(((IntKind.i64.wrap y0.2).toNat:Nat):Int) by omega)) (by omega) (by first|omega|(simp only [List.length_cons,List.length_nil,List.length_append,List.length_take,List.length_drop];omega)) (by omega)) fun ⟨r4,hr5⟩=>?_
 have:(List.replicate ((IntKind.i64.wrap y0.2).toNat) Cel.zero).length=((IntKind.i64.wrap y0.2).toNat):=List.length_replicate
 have:=VOk.le hr5
 have:=VOk.cap hr5
 have:(List.replicate ((IntKind.i64.wrap y0.2).toNat) Cel.zero).length=((IntKind.i64.wrap y0.2).toNat):=List.length_replicate
 refine ip' 1 0 [(7,.slice (va r4.q) ((List.replicate ((IntKind.i64.wrap y0.2).toNat) Cel.zero).length) r4.k)] ?_
 refine ie (sr 4 rfl (ip' 2 2 [(31,.slice (va r4.q) ((List.replicate ((IntKind.i64.wrap y0.2).toNat) Cel.zero).length) r4.k),(32,.slice xq x.length xk)] ?_))
 have hok6:VOk 12 (x.take (List.replicate ((IntKind.i64.wrap y0.2).toNat) Cel.zero).length++(List.replicate ((IntKind.i64.wrap y0.2).toNat) Cel.zero).drop x.length).length r4:=by rw [show (x.take (List.replicate ((IntKind.i64.wrap y0.2).toNat) Cel.zero).length++(List.replicate ((IntKind.i64.wrap y0.2).toNat) Cel.zero).drop x.length).length=(List.replicate ((IntKind.i64.wrap y0.2).toNat) Cel.zero).length by simp only [List.length_append,List.length_take,List.length_drop];omega];exact hr5
 refine it rfl (C6q (f:=B2) (r:=r4) (xs:=(List.replicate ((IntKind.i64.wrap y0.2).toNat) Cel.zero)) (ys:=x) (pre:=[]) (post:=[]) S9 (fun _=>rfl) (fun _=>rfl) rfl rfl rfl rfl rfl rfl rfl rfl (B5 0 rfl) hr5) fun _=>?_
 refine ip' 1 0 [(8,iv ((min x.length (List.replicate ((IntKind.i64.wrap y0.2).toNat) Cel.zero).length:Nat):Int))] ?_
 refine ie (A3 (B0 ?_))
 refine B2k (fun (fu:Nat) (newslice:List Cel) (newslicer:VR) (n:Nat)=>((newslice.length - n)<fu∧K9 fu newslice n=R∧VOk 12 newslice.length newslicer∧(newslice.length=count.toNat∧1≤n),[(7,.slice (va newslicer.q) newslice.length newslicer.k),(8,iv (n:Int))],((vo B2 72 newslicer newslice)++([])),[sl B2 xq x],fu)) (((x.take (List.replicate ((IntKind.i64.wrap y0.2).toNat) Cel.zero).length++(List.replicate ((IntKind.i64.wrap y0.2).toNat) Cel.zero).drop x.length).length - (min x.length (List.replicate ((IntKind.i64.wrap y0.2).toNat) Cel.zero).length:Nat))+1) (x.take (List.replicate ((IntKind.i64.wrap y0.2).toNat) Cel.zero).length++(List.replicate ((IntKind.i64.wrap y0.2).toNat) Cel.zero).drop x.length) r4 (min x.length (List.replicate ((IntKind.i64.wrap y0.2).toNat) Cel.zero).length:Nat) ⟨(Nat.lt_succ_self _),hR,hok6,(by (constructor<;>first|omega|(simp only [List.length_append,List.length_take,List.length_drop,List.length_replicate]<;>omega)))⟩ (mc [vo B2 72 r4 (x.take (List.replicate ((IntKind.i64.wrap y0.2).toNat) Cel.zero).length++(List.replicate ((IntKind.i64.wrap y0.2).toNat) Cel.zero).drop x.length)] [true] rfl (by first|rfl|(simp only [List.length_set]<;>rfl))) A2.refl (hE:=⟨(show some (Value.slice (va r4.q) ((List.replicate ((IntKind.i64.wrap y0.2).toNat) Cel.zero).length) r4.k)=some (Value.slice (va r4.q) ((x.take (List.replicate ((IntKind.i64.wrap y0.2).toNat) Cel.zero).length++(List.replicate ((IntKind.i64.wrap y0.2).toNat) Cel.zero).drop x.length).length) r4.k) from congrArg (fun z=>some (Value.slice (va r4.q) z r4.k)) (show (List.replicate ((IntKind.i64.wrap y0.2).toNat) Cel.zero).length=(x.take (List.replicate ((IntKind.i64.wrap y0.2).toNat) Cel.zero).length++(List.replicate ((IntKind.i64.wrap y0.2).toNat) Cel.zero).drop x.length).length by first|rfl|omega|(simp only [List.length_append,List.length_take,List.length_drop,List.length_replicate,List.length_set];omega))),(by first|rfl|exact congrArg (fun z=>some (Value.slice _ z _)) (by first|omega|(simp only [List.length_append,List.length_take,List.length_drop,List.length_replicate];omega))),trivial⟩) ?_
 rintro fu newslice newslicer n ⟨hm7,hR,hoknewslicer,hn⟩
 have:=VOk.le hoknewslicer
 obtain ⟨fu1,rfl⟩:∃ m,fu=m+1:=⟨fu - 1,by omega⟩
 replace hR:=(K9.eq_2 ..).symm.trans hR
 refine A3 (sr 4 rfl (ip' 4 0 [(37,bv (decide ((n:Int)<(newslice.length:Int))))] ?_))
 refine ie ?_
 refine zjd rfl hR ?_ ?_<;>clear hR<;>intro hR h8 h8p
 ·refine A4 (nx (B0 ?_))
  refine sh' 10 [(7,vo B2 72 newslicer newslice)] [sl B2 xq x] ((vo B2 72 newslicer newslice)++([])) (zml 10 0) (by kernel_rfl) rfl (by kernel_rfl) (by kernel_rfl) (by kernel_rfl) (mc [vo B2 72 newslicer newslice] [true] rfl (by first|rfl|(simp only [List.length_set]<;>rfl))) A2.refl ?_
  refine zhp [0,1,2,4,5] 5 (zml 10 55) [(38,iv (n:Int)),(39,.slice (va newslicer.q) newslice.length newslicer.k),(40,iv (n:Int)),(42,.slice (va newslicer.q) newslice.length newslicer.k),(43,iv (n:Int))] ?_
  have:=VOk.cap hoknewslicer
  refine zhk 3 (zml 10 63) rfl (A6r (n':=(newslice.length - n)) S9 rfl rfl n newslice.length newslicer.k (U6 rfl rfl) A0d A0d (by omega) (by omega) (Nat.le_refl _) rfl rfl) ?_
  have:=VOk.cap hoknewslicer
  refine zhk 6 (zml 10 127) rfl (A7j (n':=n) S9 rfl rfl n newslicer.k (U6 rfl rfl) A0d (by omega) (Nat.le_refl _) rfl rfl) ?_
  have hok9:VOk 12 (newslice.take n++(newslice.take (min n (newslice.length - n):Nat)++newslice.drop (n+(min n (newslice.length - n):Nat)))).length newslicer:=by rw [show (newslice.take n++(newslice.take (min n (newslice.length - n):Nat)++newslice.drop (n+(min n (newslice.length - n):Nat)))).length=newslice.length by simp only [List.length_append,List.length_take,List.length_drop];omega];exact hoknewslicer
  refine zho 7 [] (zml 10 255) rfl (C7m (f:=B2) (r:=newslicer) (xs:=newslice) (l:=n) (h:=n) (pre:=[]) (post:=[]) S9 (fun _=>rfl) (fun _=>rfl) rfl rfl rfl rfl rfl rfl rfl hoknewslicer (by omega) (by omega)) (fun _=>(List.nil_sublist _)) (fun _=>A2.refl) fun _=>?_
  refine zhk 8 (zml 10 511) rfl (B4 rfl rfl rfl rfl (by omega)) ?_
  refine zhp [9] 0 (zml 10 1023) [(8,iv ((n:Int)+((min n (newslice.length - n):Nat):Int)))] ?_
  refine B3c (by kernel_rfl) ?_
  exact B1k (z1:=(fu1+1)) (z2:=newslice) (z3:=newslicer) (z4:=n) fu1 (newslice.take n++(newslice.take (min n (newslice.length - n):Nat)++newslice.drop (n+(min n (newslice.length - n):Nat)))) newslicer (n+(min n (newslice.length - n):Nat)) ⟨(by simp only [List.length_append,List.length_take,List.length_drop,List.length_replicate];omega),hR,hok9,(by (constructor<;>first|omega|(simp only [List.length_append,List.length_take,List.length_drop,List.length_replicate]<;>omega)))⟩ (Nat.lt_succ_self _) (mc [vo B2 72 newslicer (newslice.take n++(newslice.take (min n (newslice.length - n):Nat)++newslice.drop (n+(min n (newslice.length - n):Nat))))] [true] rfl (by first|rfl|(simp only [List.length_set]<;>rfl))) A2.refl (hE:=⟨(show some (Value.slice (va newslicer.q) newslice.length newslicer.k)=some (Value.slice (va newslicer.q) ((newslice.take n++(newslice.take (min n (newslice.length - n):Nat)++newslice.drop (n+(min n (newslice.length - n):Nat)))).length) newslicer.k) from congrArg (fun z=>some (Value.slice (va newslicer.q) z newslicer.k)) (show newslice.length=(newslice.take n++(newslice.take (min n (newslice.length - n):Nat)++newslice.drop (n+(min n (newslice.length - n):Nat)))).length by first|rfl|omega|(simp only [List.length_append,List.length_take,List.length_drop,List.length_replicate,List.length_set];omega))),(show some (iv ((n:Int)+((min n (newslice.length - n):Nat):Int)))=some (iv ((n+(min n (newslice.length - n):Nat)):Int)) by first|rfl|exact congrArg (fun z=>some (Value.int .i64 z)) (by first|rfl|omega|(simp only [List.length_append,List.length_take,List.length_drop,List.length_replicate,List.length_set];omega))),trivial⟩)
 refine G2 (nx (sr 2 rfl (ip' 2 0 [(4,.slice (va newslicer.q) newslice.length newslicer.k)] ?_)))
 subst hR
 refine ie (A7 ?_)
 exact zer hr hD (P3 rfl (B1 rfl)) ⟨newslicer,hoknewslicer⟩ (mc [vo B2 72 newslicer newslice] [true] rfl (by first|rfl|(simp only [List.length_set]<;>rfl))) fn0
def C1o (cols:Int) (s:Sty):List Cel×Bool×Int :=
 (bif ((decide (cols<2))||(decide ((80:Int)<cols))) then (([]:List Cel),false,2) else (bif (!decide ((D9 s)=0)) then (([]:List Cel),false,(D9 s)) else (F1 (Q5 ([(A5l s)]:List Cel) cols) fun (y1:List Cel)=>(y1,false,0))))
theorem C6r (cols:Int) (s:Sty) (R:List Cel×Bool×Int) (hR:C1o cols s=R):Con Tryz.prog 200 [iv cols,ag (I8 s)] [] [] ({r:VR // VOk 12 R.1.length r}) (fun x=>.tuple #[ag [.slice (va x.1.q) R.1.length x.1.k,bv R.2.1],iv R.2.2]) (fun x=>((vo B2 72 x.1 R.1)++([]))) (fun x=>[]):=by
 refine zco Tryz.func200 [(0,iv cols),(1,ag (I8 s))] fun X hX hr hD=>?_
 replace hR:=(C1o.eq_1 ..).symm.trans hR
 refine sr 3 rfl (A8y 3 0 [] (fun b1 b2=>[(3,pt b1 0),(4,pt b2 0)]) (fun b1 b2=>[bx b2 [.slice none 0 0,bv false] 78,bx b1 (I8 s) 42]) (fun b1 b2=>?_))
 refine ie (A3 (sr 6 rfl (ip' 3 3 [(9,bv (decide (cols<2)))] ?_)))
 refine zir 3 0 9 12 (decide ((80:Int)<cols)) (fun g3 g3p=>?_) ?_
 ·refine ip' 3 0 [(12,bv (decide ((80:Int)<cols)))] ?_
  exact A1 (H1 2 9 12 g3 fn0 (mk [true,true] rfl) rfl rfl rfl rfl rfl)
 refine ie ?_
 refine zjo rfl hR ?_ ?_<;>clear hR<;>intro hR h4 h4p
 ·refine sr 3 rfl (zrg 3 0 [0] [(5,iv 2)] [bx b2 [.slice none 0 0,bv false] 78,bx b1 (I8 s) 42] ?_)
  subst hR
  refine ie (A7 ?_)
  exact zer hr hD (V5 rfl (I1 (us:=[.slice none 0 0,bv false]) B8a rfl 0 rfl rfl rfl) (B1 rfl)) ⟨VR.nil,VOk.nil⟩ (mc [[bx b2 [.slice none 0 0,bv false] 78],[bx b1 (I8 s) 42],vo B2 72 VR.nil ([]:List Cel)] [false,false,true] rfl (by first|rfl|(simp only [List.length_set]<;>rfl))) fn0
 refine A4 (nx (A3 (sr 3 rfl (zrl 1 2 [1] [(14,ag (I8 s))] ?_))))
 refine zca (A0l s _ rfl) fn0 ?_
 refine ip' 1 0 [(6,iv (D9 s))] ?_
 refine ie (sr 2 rfl (ip' 2 0 [(17,bv (!decide ((D9 s)=0)))] ?_))
 refine ie ?_
 refine zjn rfl hR ?_ ?_<;>clear hR<;>intro hR h5 h5p
 ·refine sr 4 rfl (zrg 4 0 [0] [(5,iv (D9 s))] [bx b2 [.slice none 0 0,bv false] 78,bx b1 (I8 s) 42] ?_)
  subst hR
  refine ie (A7 ?_)
  exact zer hr hD (V5 rfl (I1 (us:=[.slice none 0 0,bv false]) B8a rfl 0 rfl rfl rfl) (B1 rfl)) ⟨VR.nil,VOk.nil⟩ (mc [[bx b2 [.slice none 0 0,bv false] 78],[bx b1 (I8 s) 42],vo B2 72 VR.nil ([]:List Cel)] [false,false,true] rfl (by first|rfl|(simp only [List.length_set]<;>rfl))) fn0
 refine A4 (nx (sr 8 rfl (zrl 1 7 [1] [(20,ag (I8 s))] ?_)))
 refine zca (C3z s _ rfl) fn0 ?_
 refine it rfl (E9 (c:=B2) (xs:=([(A5l s)]:List Cel)) S9 rfl rfl rfl (by kernel_rfl)) fun b6=>?_
 have:([(A5l s)]:List Cel).length=1:=rfl
 refine ip' 1 4 [(23,iv cols)] ?_
 have hQ:=G6 hR;clear hR;obtain ⟨y1,hy1,hR⟩:=hQ
 refine it rfl (I5 (L2:=[bx b2 [.slice none 0 0,bv false] 78,bx b1 (I8 s) 42]) (A2n ([(A5l s)]:List Cel) cols (some ⟨b6,0,none⟩) 1 (by first|omega|(simp only [List.length_take,List.length_drop,List.length_append,List.length_cons,List.length_nil,List.length_set,List.length_map];omega)|decide) (by first|omega|(simp only [List.length_take,List.length_drop,List.length_append,List.length_cons,List.length_nil,List.length_set,List.length_map];omega)|decide) (by omega) (by first|rfl|omega) y1 hy1) rfl rfl rfl rfl rfl A2.refl (List.Perm.refl _) (fun ⟨r7,hk8⟩=>(bx b2 [.slice none 0 0,bv false] 78::bx b1 (I8 s) 42::(vo B2 72 r7 y1)++([]))) (fun ⟨r7,hk8⟩=>H3 [vo B2 72 r7 y1,[bx b2 [.slice none 0 0,bv false] 78],[bx b1 (I8 s) 42]] [1,2,0] 3 rfl (by decide) (by first|rfl|simp only [List.flatten_cons,List.flatten_nil,List.append_nil,List.cons_append,List.nil_append,List.append_assoc]) [[bx b2 [.slice none 0 0,bv false] 78],[bx b1 (I8 s) 42],vo B2 72 r7 y1] rfl (by first|rfl|simp only [List.flatten_cons,List.flatten_nil,List.append_nil,List.cons_append,List.nil_append,List.append_assoc]))) fun ⟨r7,hk8⟩=>?_
 have:=VOk.le hk8
 have:=VOk.cap hk8
 refine zrg 3 0 [0] [(5,iv 0)] (bx b2 [.slice (va r7.q) y1.length r7.k,bv false] 78::bx b1 (I8 s) 42::(vo B2 72 r7 y1)++([])) ?_
 subst hR
 refine ie (A7 ?_)
 exact zer hr hD (V5 rfl (I1 (us:=[.slice (va r7.q) y1.length r7.k,bv false]) B8a rfl 0 rfl rfl rfl) (B1 rfl)) ⟨r7,hk8⟩ (mc [[bx b2 [.slice (va r7.q) y1.length r7.k,bv false] 78],[bx b1 (I8 s) 42],vo B2 72 r7 y1] [false,false,true] rfl (by first|rfl|(simp only [List.length_set]<;>rfl))) fn0
end Go.Proofs.YthcjfkljekdioaaGreatDoor
set_option linter.unusedVariables false
set_option linter.unusedSimpArgs false
set_option linter.unnecessarySimpa false
set_option maxRecDepth 100000
namespace Go.Proofs.YthcjfkljekdioaaGreatDoor
open Go Go.Fen
theorem D2c:ApTy Tryz.prog 36 78 2 32:=⟨by kernel_rfl,by kernel_rfl,rfl⟩
theorem A5a:SlTy Tryz.prog 36 78 2:=⟨by kernel_rfl,by kernel_rfl⟩
theorem B5d:Ty Tryz.prog 52 80 true:=⟨by kernel_rfl⟩
theorem D3s:Zero Tryz.prog 78 [.slice none 0 0,bv false]:=⟨by kernel_rfl⟩
def W5 (wide:Int) (s:Sty):List (Rwc Cel)→List (Rwc Cel)→Nat→List (Rwc Cel)
 | [],l,t13=>l
 | hd_l0::tl_l0,l,t13=>(F1 (C1o wide s) fun (y1:List Cel×Bool×Int)=>W5 wide s tl_l0 (l.set t13 (⟨y1.1,y1.2.1⟩:Rwc Cel)) (t13+1))
def A4h (wide:Int) (many:Int) (s:Sty):List (Rwc Cel) :=
 W5 wide s (List.replicate ((many).toNat) (zwc:Rwc Cel)) (List.replicate ((many).toNat) (zwc:Rwc Cel)) 0
theorem B8n (wide:Int) (many:Int) (s:Sty) (hmn:1≤many∧many≤40) (hwd:2≤wide∧wide≤80) (R:List (Rwc Cel)) (hR:A4h wide many s=R):Con Tryz.prog 132 [iv wide,iv many,ag (I8 s)] [] [] ({t:VR×List Rwq // VOk 2 R.length t.1∧D0 t.2 R}) (fun x=>.slice (va x.1.1.q) R.length x.1.1.k) (fun x=>((vo B7 78 x.1.1 x.1.2)++([]))) (fun x=>[B8 B2 x.1.2 R]):=by
 refine zco Tryz.func132 [(0,iv wide),(1,iv many),(2,ag (I8 s))] fun X hX hr hD=>?_
 replace hR:=(A4h.eq_1 ..).symm.trans hR
 refine sr 2 rfl (I7 2 0 [] (fun b1=>[(5,pt b1 0)]) (fun b1=>[bx b1 (I8 s) 42]) (fun b1=>?_))
 refine ie (sr 3 rfl (ip' 1 2 [(9,iv many)] ?_))
 refine H6 (q:=B8 B2 (List.replicate ((many).toNat) zwq) (List.replicate ((many).toNat) (zwc:Rwc Cel))) D5o ?_
 refine it rfl (C6x (α:=Cel) (l:=(many).toNat) (cc:=(many).toNat) D2c D3s.ok rfl (by exact congrArg (fun z=>some (Value.int .i64 z)) (show many=(((many).toNat:Nat):Int) by omega)) (by exact congrArg (fun z=>some (Value.int .i64 z)) (show many=(((many).toNat:Nat):Int) by omega)) (by omega) (by first|omega|(simp only [List.length_cons,List.length_nil,List.length_append,List.length_take,List.length_drop];omega)) (by omega)) fun ⟨r2,hr3⟩=>?_
 have:(List.replicate ((many).toNat) zwq).length=((many).toNat):=List.length_replicate
 have:=VOk.le hr3
 have:=VOk.cap hr3
 have:(List.replicate ((many).toNat) (zwc:Rwc Cel)).length=(many).toNat:=List.length_replicate
 refine ip' 1 0 [(7,.slice (va r2.q) ((List.replicate ((many).toNat) (zwc:Rwc Cel)).length) r2.k)] ?_
 refine ie (A3 (sr 3 rfl (ip' 3 0 [(12,iv ((List.replicate ((many).toNat) (zwc:Rwc Cel)).length:Int)),(13,iv 0)] ?_)))
 refine ie (B0 ?_)
 refine B2k (fun (l:List (Rwc Cel)) (lr:VR) (lrs:List Rwq) (t13:Nat)=>(t13≤(List.replicate ((many).toNat) (zwc:Rwc Cel)).length∧W5 wide s ((List.replicate ((many).toNat) (zwc:Rwc Cel)).drop t13) l t13=R∧VOk 2 l.length lr∧D0 lrs l∧l.length=many.toNat,[(0,iv wide),(5,pt b1 0),(7,.slice (va lr.q) l.length lr.k),(12,iv ((List.replicate ((many).toNat) (zwc:Rwc Cel)).length:Int)),(13,iv (t13:Int))],(bx b1 (I8 s) 42::(vo B7 78 lr lrs)++([])),[B8 B2 (List.replicate ((many).toNat) zwq) (List.replicate ((many).toNat) (zwc:Rwc Cel)),B8 B2 lrs l],(List.replicate ((many).toNat) (zwc:Rwc Cel)).length - t13)) (List.replicate ((many).toNat) (zwc:Rwc Cel)) r2 (List.replicate ((many).toNat) zwq) 0 ⟨(by omega),hR,hr3,(D0.rep ((many).toNat)),(by exact List.length_replicate)⟩ (mc [[bx b1 (I8 s) 42],vo B7 78 r2 (List.replicate ((many).toNat) zwq)] [true,true] rfl (by first|rfl|(simp only [List.length_set]<;>rfl))) (A2.pick [0,0] rfl) ?_
 rintro l lr lrs t13 ⟨hm4,hR,hoklr,hrowslrs,hll⟩
 have:=VOk.le hoklr
 have:=hrowslrs.1
 have:(List.replicate (many.toNat) (zwc:Rwc Cel)).length=many.toNat:=List.length_replicate
 have:=hrowslrs.1
 refine sr 1 rfl (ip' 1 0 [(14,bv (decide ((t13:Int)<((List.replicate ((many).toNat) (zwc:Rwc Cel)).length:Int))))] ?_)
 refine ie (A3 (S2 rfl (fun h5=>?_) (fun h5=>?_)))
 ·have h5p:(t13:Int)<((List.replicate ((many).toNat) (zwc:Rwc Cel)).length:Int):=by simpa using h5
  rw [U1 zwc (show t13<(List.replicate ((many).toNat) (zwc:Rwc Cel)).length by omega)] at hR;replace hR:=(W5.eq_2 ..).symm.trans hR
  refine A4 (nx (A3 (B0 (sr 2 rfl (ip' 2 0 [(8,iv (t13:Int))] ?_)))))
  refine ie (A5 10 rfl (zrl 4 6 [0] [(17,.slice (va lr.q) l.length lr.k),(18,iv (t13:Int)),(19,iv wide),(20,ag (I8 s))] ?_))
  have hQ:=G6 hR;clear hR;obtain ⟨y1,hy1,hR⟩:=hQ
  refine it rfl (I5 (L2:=(bx b1 (I8 s) 42::(vo B7 78 lr lrs)++([]))) (C6r wide s y1 hy1) rfl rfl rfl rfl rfl fn0 (List.Perm.refl _) (fun ⟨r6,hk7⟩=>(bx b1 (I8 s) 42::(vo B2 72 r6 y1.1)++((vo B7 78 lr lrs)++([])))) (fun ⟨r6,hk7⟩=>H3 [vo B2 72 r6 y1.1,[bx b1 (I8 s) 42],vo B7 78 lr lrs] [1,0,2] 3 rfl (by decide) (by first|rfl|simp only [List.flatten_cons,List.flatten_nil,List.append_nil,List.cons_append,List.nil_append,List.append_assoc]) [[bx b1 (I8 s) 42],vo B2 72 r6 y1.1,vo B7 78 lr lrs] rfl (by first|rfl|simp only [List.flatten_cons,List.flatten_nil,List.append_nil,List.cons_append,List.nil_append,List.append_assoc]))) fun ⟨r6,hk7⟩=>?_
  have:=VOk.le hk7
  have:=VOk.cap hk7
  refine ip' 3 2 [(22,ag [.slice (va r6.q) y1.1.length r6.k,bv y1.2.1])] ?_
  obtain ⟨b8,hb9⟩:=VOk.some hoklr (by omega)
  obtain ⟨q10,k11,j12⟩:=lr
  obtain rfl:q10=some b8:=hb9
  refine H6 (B3x (k:=t13) hrowslrs 1 rfl (by have:=hrowslrs.1;omega)) ?_
  have:=A7w hrowslrs (k:=t13) (by have:=hrowslrs.1;omega)
  refine ix rfl (S6 A5a rfl rfl rfl t13 rfl (by have:=hrowslrs.1;omega)) ?_
  have:=VOk.cap hk7
  have:=VOk.le hk7
  refine S1 [bx b1 (I8 s) 42] ((vo B7 78 (⟨some b8,k11,j12⟩:VR) lrs)++([])) (T:=72) (c:=B2) (r:=r6) (xs:=y1.1) hk7 (by first|rfl|simp only [List.flatten_cons,List.flatten_nil,List.cons_append,List.append_assoc,List.nil_append,List.append_nil]) ?_
  have hw13:D0 (lrs.set t13 (⟨⟨va r6.q,y1.1.length,r6.k⟩,y1.2.1⟩:Rwq)) (l.set t13 (⟨y1.1,y1.2.1⟩:Rwc Cel)):=D0.set hrowslrs t13 ⟨rfl,(by first|omega|(simp only [List.length_take,List.length_drop,List.length_append,List.length_cons,List.length_nil,List.length_set,List.length_map];omega)|decide),(by first|omega|(simp only [List.length_take,List.length_drop,List.length_append,List.length_cons,List.length_nil,List.length_set,List.length_map];omega)|decide)⟩ rfl
  refine H6 (D5u t13 (r:=(⟨⟨va r6.q,y1.1.length,r6.k⟩,y1.2.1⟩:Rwq)) (x:=(⟨y1.1,y1.2.1⟩:Rwc Cel)) (B5 3 rfl) (B5 0 rfl)) ?_
  refine it rfl (V1 (us:=[.slice (va r6.q) y1.1.length r6.k,bv y1.2.1]) (u':=(⟨⟨va r6.q,y1.1.length,r6.k⟩,y1.2.1⟩:Rwq)) (c:=B7) (sz:=2) B8a (fun _=>rfl) rfl rfl rfl 1 rfl rfl rfl rfl t13 0 rfl (gd zwq (by have:=hrowslrs.1;omega)) rfl rfl) fun _=>?_
  refine A1 (nx (A5 2 rfl (ix rfl (B4 rfl rfl rfl rfl (by omega)) ?_)))
  refine ip' 1 0 [(13,iv ((t13:Int)+1))] ?_
  refine A1 ?_
  exact B1k (z1:=l) (z2:=(⟨some b8,k11,j12⟩:VR)) (z3:=lrs) (z4:=t13) (l.set t13 (⟨y1.1,y1.2.1⟩:Rwc Cel)) (⟨some b8,k11,j12⟩:VR) (lrs.set t13 (⟨⟨va r6.q,y1.1.length,r6.k⟩,y1.2.1⟩:Rwq)) (t13+1) ⟨(by omega),hR,(VOk.cast hoklr (by simp)),hw13,(by (rw [List.length_set];exact hll))⟩ (by (try dsimp only);omega) (mc [[bx b1 (I8 s) 42],vo B7 78 (⟨some b8,k11,j12⟩:VR) (lrs.set t13 (⟨⟨va r6.q,y1.1.length,r6.k⟩,y1.2.1⟩:Rwq))] [true,true] rfl (by first|rfl|(simp only [List.length_set]<;>rfl))) (A2.pick [3,0] rfl)
 have h5p:¬ ((t13:Int)<((List.replicate ((many).toNat) (zwc:Rwc Cel)).length:Int)):=by simpa using h5
 rw [U2 h5p] at hR;replace hR:=(W5.eq_1 ..).symm.trans hR
 refine G2 (nx (sr 2 rfl (ip' 2 0 [(6,.slice (va lr.q) l.length lr.k)] ?_)))
 subst hR
 refine ie (A7 ?_)
 exact zer hr hD (P3 rfl (B1 rfl)) ⟨(lr,lrs),⟨hoklr,hrowslrs⟩⟩ (mc [[bx b1 (I8 s) 42],vo B7 78 lr lrs] [false,true] rfl (by first|rfl|(simp only [List.length_set]<;>rfl))) (A2.con1 (B5 1 rfl) fn0)
def A5q (cols:Int) (rows:Int) (s:Sty):List (Rwc Cel)×Int :=
 (bif ((((decide (cols<2))||(decide ((80:Int)<cols)))||(decide (rows<1)))||(decide ((40:Int)<rows))) then (([]:List (Rwc Cel)),2) else (bif (!decide ((D9 s)=0)) then (([]:List (Rwc Cel)),(D9 s)) else (F1 (A4h cols rows s) fun (y4:List (Rwc Cel))=>(y4,0))))
theorem B2a (cols:Int) (rows:Int) (s:Sty) (R:List (Rwc Cel)×Int) (hR:A5q cols rows s=R):Con Tryz.prog 75 [iv cols,iv rows,ag (I8 s)] [] [] ({t:VR×List Rwq // VOk 2 R.1.length t.1∧D0 t.2 R.1}) (fun x=>.tuple #[.slice (va x.1.1.q) R.1.length x.1.1.k,iv R.2]) (fun x=>((vo B7 78 x.1.1 x.1.2)++([]))) (fun x=>[B8 B2 x.1.2 R.1]):=by
 refine zco Tryz.func75 [(0,iv cols),(1,iv rows),(2,ag (I8 s))] fun X hX hr hD=>?_
 replace hR:=(A5q.eq_1 ..).symm.trans hR
 refine sr 3 rfl (I7 3 0 [] (fun b1=>[(5,pt b1 0)]) (fun b1=>[bx b1 (I8 s) 42]) (fun b1=>?_))
 refine ie (A3 (sr 14 rfl (ip' 3 11 [(11,bv (decide (cols<2)))] ?_)))
 refine zir 3 8 11 14 (decide ((80:Int)<cols)) (fun g2 g2p=>?_) ?_
 ·refine ip' 3 0 [(14,bv (decide ((80:Int)<cols)))] ?_
  exact A1 (H1 2 11 14 g2 fn0 (mk [true] rfl) rfl rfl rfl rfl rfl)
 refine ip' 1 7 [(15,bv ((decide (cols<2))||(decide ((80:Int)<cols))))] ?_
 refine zio 3 4 15 18 (decide (rows<1)) (fun g3=>?_) ?_
 ·have g3p:¬ ((cols<2)∨((80:Int)<cols)):=by simpa using g3
  refine ip' 3 0 [(18,bv (decide (rows<1)))] ?_
  exact A1 (H1 2 15 18 g3 fn0 (mk [true] rfl) rfl rfl rfl rfl rfl)
 refine ip' 1 3 [(19,bv (((decide (cols<2))||(decide ((80:Int)<cols)))||(decide (rows<1))))] ?_
 refine zio 3 0 19 22 (decide ((40:Int)<rows)) (fun g4=>?_) ?_
 ·have g4p:¬ (((cols<2)∨((80:Int)<cols))∨(rows<1)):=by simpa using g4
  refine ip' 3 0 [(22,bv (decide ((40:Int)<rows)))] ?_
  exact A1 (H1 2 19 22 g4 fn0 (mk [true] rfl) rfl rfl rfl rfl rfl)
 refine ie ?_
 refine zjb rfl hR ?_ ?_<;>clear hR<;>intro hR h5
 ·have h5p:(((cols<2)∨((80:Int)<cols))∨(rows<1))∨((40:Int)<rows):=by simpa using h5
  refine sr 2 rfl (ip' 2 0 [(6,.slice none 0 0),(7,iv 2)] ?_)
  subst hR
  refine ie (A7 ?_)
  exact zer hr hD (V5 rfl (B1 rfl) (B1 rfl)) ⟨(VR.nil,([]:List Rwq)),⟨VOk.nil,D0.none⟩⟩ (mc [[bx b1 (I8 s) 42],vo B7 78 VR.nil ([]:List Rwq)] [false,true] rfl (by first|rfl|(simp only [List.length_set]<;>rfl))) (A2.con1 A1o fn0)
 have h5p:¬ ((((cols<2)∨((80:Int)<cols))∨(rows<1))∨((40:Int)<rows)):=by simpa using h5
 refine A4 (nx (A3 (sr 3 rfl (zrl 1 2 [0] [(23,ag (I8 s))] ?_))))
 refine zca (A0l s _ rfl) fn0 ?_
 refine ip' 1 0 [(8,iv (D9 s))] ?_
 refine ie (sr 2 rfl (ip' 2 0 [(26,bv (!decide ((D9 s)=0)))] ?_))
 refine ie ?_
 refine zjn rfl hR ?_ ?_<;>clear hR<;>intro hR h6 h6p
 ·refine sr 3 rfl (ip' 3 0 [(6,.slice none 0 0),(7,iv (D9 s))] ?_)
  subst hR
  refine ie (A7 ?_)
  exact zer hr hD (V5 rfl (B1 rfl) (B1 rfl)) ⟨(VR.nil,([]:List Rwq)),⟨VOk.nil,D0.none⟩⟩ (mc [[bx b1 (I8 s) 42],vo B7 78 VR.nil ([]:List Rwq)] [false,true] rfl (by first|rfl|(simp only [List.length_set]<;>rfl))) (A2.con1 A1o fn0)
 refine A4 (nx (sr 6 rfl (zrl 3 3 [0] [(28,iv cols),(29,iv rows),(30,ag (I8 s))] ?_)))
 have hQ:=G6 hR;clear hR;obtain ⟨y4,hy4,hR⟩:=hQ
 refine it rfl (I5 (L2:=[bx b1 (I8 s) 42]) (B8n cols rows s (by omega) (by omega) y4 hy4) rfl rfl rfl rfl rfl fn0 (List.Perm.refl _) (fun ⟨⟨r7,rs8⟩,hp11⟩=>(bx b1 (I8 s) 42::(vo B7 78 r7 rs8)++([]))) (fun ⟨⟨r7,rs8⟩,hp11⟩=>H3 [vo B7 78 r7 rs8,[bx b1 (I8 s) 42]] [1,0] 2 rfl (by decide) (by first|rfl|simp only [List.flatten_cons,List.flatten_nil,List.append_nil,List.cons_append,List.nil_append,List.append_assoc]) [[bx b1 (I8 s) 42],vo B7 78 r7 rs8] rfl (by first|rfl|simp only [List.flatten_cons,List.flatten_nil,List.append_nil,List.cons_append,List.nil_append,List.append_assoc]))) fun ⟨⟨r7,rs8⟩,hp11⟩=>?_
 try dsimp only at hp11
 obtain ⟨hk9,hw10⟩:=hp11
 have:=VOk.le hk9
 have:=VOk.cap hk9
 have:=hw10.1
 refine ip' 2 0 [(6,.slice (va r7.q) y4.length r7.k),(7,iv 0)] ?_
 subst hR
 refine ie (A7 ?_)
 exact zer hr hD (V5 rfl (B1 rfl) (B1 rfl)) ⟨(r7,rs8),⟨hk9,hw10⟩⟩ (mc [[bx b1 (I8 s) 42],vo B7 78 r7 rs8] [false,true] rfl (by first|rfl|(simp only [List.length_set]<;>rfl))) (A2.con1 (B5 0 rfl) fn0)
def A0e (cols:Int) (rows:Int):ScrC×List (Rwc Cel)×List (Rwc Cel)×List Bool×Int :=
 (F1 (A5q cols rows Sty.zero) fun (y0:List (Rwc Cel)×Int)=>(bif (!decide (y0.2=0)) then (ScrC.zero,([]:List (Rwc Cel)),([]:List (Rwc Cel)),([]:List Bool),y0.2) else (F1 (A5q cols rows Sty.zero) fun (y3:List (Rwc Cel)×Int)=>(F1 (B5z cols) fun (y2:List Bool×Int)=>({ScrC.zero with cols:=cols,rows:=rows,modes:=A4j,bottom:=(IntKind.i64.wrap (rows - (1:Int)))},y0.1,y3.1,y2.1,y2.2)))))
theorem A3o (c r:Int):(A0e c r).1.title.length=0:=by
 unfold A0e F1
 simp only [Bool.cond_eq_ite]
 split<;>rfl
theorem C1t (c r:Int) (s:Sty):(A5q c r s).1.length≤100:=by
 have h:∀ (w:Int) (tl l:List (Rwc Cel)) (t:Nat),(W5 w s tl l t).length=l.length:=by
  intro w tl
  induction tl with
  | nil=>intros;rfl
  | cons a tl ih=>intro l t;simp only [W5,F1];rw [ih,List.length_set]
 unfold A5q
 cases hb:((((decide (c<2))||(decide ((80:Int)<c)))||(decide (r<1)))||(decide ((40:Int)<r))) with
 | true=>exact Nat.zero_le _
 | false =>
  simp only [Bool.or_eq_false_iff,decide_eq_false_iff_not] at hb
  rw [cond_false]
  cases decide (D9 s=0) with
  | false=>exact Nat.zero_le _
  | true=>show (A4h c r s).length≤100;unfold A4h;rw [h,List.length_replicate];omega
theorem A9f (c r:Int):(A0e c r).2.1.length≤100∧(A0e c r).2.2.1.length≤100:=by
 unfold A0e F1
 have h:=C1t c r Sty.zero
 simp only [Bool.cond_eq_ite]
 split
 ·exact ⟨Nat.zero_le _,Nat.zero_le _⟩
 ·exact ⟨h,h⟩
theorem B3g (cols:Int) (rows:Int) (R:ScrC×List (Rwc Cel)×List (Rwc Cel)×List Bool×Int) (hR:A0e cols rows=R):Con Tryz.prog 39 [iv cols,iv rows] [] [] ({t:VR×List Rwq // VOk 2 R.2.1.length t.1∧D0 t.2 R.2.1}×{t:VR×List Rwq // VOk 2 R.2.2.1.length t.1∧D0 t.2 R.2.2.1}×{r:VR // VOk 1 R.2.2.2.1.length r}) (fun x=>.tuple #[ag (A6 R.1 ⟨va x.1.1.1.q,R.2.1.length,x.1.1.1.k⟩ ⟨va x.2.1.1.1.q,R.2.2.1.length,x.2.1.1.1.k⟩ ⟨none,0,0⟩ ⟨va x.2.2.1.q,R.2.2.2.1.length,x.2.2.1.k⟩),iv R.2.2.2.2]) (fun x=>((vo B7 78 x.1.1.1 x.1.1.2)++((vo B7 78 x.2.1.1.1 x.2.1.1.2)++((vo F4 4 x.2.2.1 R.2.2.2.1)++([]))))) (fun x=>[B8 B2 x.1.1.2 R.2.1,B8 B2 x.2.1.1.2 R.2.2.1]):=by
 refine zco Tryz.func39 [(0,iv cols),(1,iv rows)] fun X hX hr hD=>?_
 replace hR:=(A0e.eq_1 ..).symm.trans hR
 refine sr 2 rfl (I7 2 0 [] (fun b1=>[(4,pt b1 0)]) (fun b1=>[bx b1 (A6 ScrC.zero ⟨none,0,0⟩ ⟨none,0,0⟩ ⟨none,0,0⟩ ⟨none,0,0⟩) 52]) (fun b1=>?_))
 refine ie (sr 9 rfl (zrl 3 6 [] [(12,iv cols),(13,iv rows),(14,ag (I8 Sty.zero))] ?_))
 have hQ:=G6 hR;clear hR;obtain ⟨y0,hy0,hR⟩:=hQ
 refine it rfl (I5 (L2:=[bx b1 (A6 ScrC.zero ⟨none,0,0⟩ ⟨none,0,0⟩ ⟨none,0,0⟩ ⟨none,0,0⟩) 52]) (B2a cols rows Sty.zero y0 hy0) rfl rfl rfl rfl rfl fn0 (List.Perm.refl _) (fun ⟨⟨r2,rs3⟩,hp6⟩=>(bx b1 (A6 ScrC.zero ⟨none,0,0⟩ ⟨none,0,0⟩ ⟨none,0,0⟩ ⟨none,0,0⟩) 52::(vo B7 78 r2 rs3)++([]))) (fun ⟨⟨r2,rs3⟩,hp6⟩=>H3 [vo B7 78 r2 rs3,[bx b1 (A6 ScrC.zero ⟨none,0,0⟩ ⟨none,0,0⟩ ⟨none,0,0⟩ ⟨none,0,0⟩) 52]] [1,0] 2 rfl (by decide) (by first|rfl|simp only [List.flatten_cons,List.flatten_nil,List.append_nil,List.cons_append,List.nil_append,List.append_assoc]) [[bx b1 (A6 ScrC.zero ⟨none,0,0⟩ ⟨none,0,0⟩ ⟨none,0,0⟩ ⟨none,0,0⟩) 52],vo B7 78 r2 rs3] rfl (by first|rfl|simp only [List.flatten_cons,List.flatten_nil,List.append_nil,List.cons_append,List.nil_append,List.append_assoc]))) fun ⟨⟨r2,rs3⟩,hp6⟩=>?_
 try dsimp only at hp6
 obtain ⟨hk4,hw5⟩:=hp6
 have:=VOk.le hk4
 have:=VOk.cap hk4
 have:=hw5.1
 refine ip' 5 0 [(6,.slice (va r2.q) y0.1.length r2.k),(7,iv y0.2)] ?_
 refine ie (A3 (sr 2 rfl (ip' 2 0 [(19,bv (!decide (y0.2=0)))] ?_)))
 refine ie ?_
 refine zjn rfl hR ?_ ?_<;>clear hR<;>intro hR h7 h7p
 ·refine sr 4 rfl (zrg 4 0 [0] [(5,iv y0.2)] (bx b1 (A6 ScrC.zero ⟨none,0,0⟩ ⟨none,0,0⟩ ⟨none,0,0⟩ ⟨none,0,0⟩) 52::(vo B7 78 r2 rs3)++([])) ?_)
  subst hR
  refine ie (A7 ?_)
  exact zer hr hD (V5 rfl (A1s (us:=A6 ScrC.zero ⟨none,0,0⟩ ⟨none,0,0⟩ ⟨none,0,0⟩ ⟨none,0,0⟩) B5d rfl 0 rfl rfl) (B1 rfl)) (⟨(VR.nil,([]:List Rwq)),⟨VOk.nil,D0.none⟩⟩,⟨(VR.nil,([]:List Rwq)),⟨VOk.nil,D0.none⟩⟩,⟨VR.nil,VOk.nil⟩) (mc [[bx b1 (A6 ScrC.zero ⟨none,0,0⟩ ⟨none,0,0⟩ ⟨none,0,0⟩ ⟨none,0,0⟩) 52],vo B7 78 r2 rs3,vo B7 78 VR.nil ([]:List Rwq),vo B7 78 VR.nil ([]:List Rwq),vo F4 4 VR.nil ([]:List Bool)] [false,false,true,true,true] rfl (by first|rfl|(simp only [List.length_set]<;>rfl))) (A2.con1 A1o (A2.con1 A1o fn0))
 refine A4 (nx (sr 9 rfl (zrl 3 6 [] [(23,iv cols),(24,iv rows),(25,ag (I8 Sty.zero))] ?_)))
 have hQ:=G6 hR;clear hR;obtain ⟨y3,hy3,hR⟩:=hQ
 refine it rfl (I5 (L2:=(bx b1 (A6 ScrC.zero ⟨none,0,0⟩ ⟨none,0,0⟩ ⟨none,0,0⟩ ⟨none,0,0⟩) 52::(vo B7 78 r2 rs3)++([]))) (B2a cols rows Sty.zero y3 hy3) rfl rfl rfl rfl rfl fn0 (List.Perm.refl _) (fun ⟨⟨r8,rs9⟩,hp12⟩=>(bx b1 (A6 ScrC.zero ⟨none,0,0⟩ ⟨none,0,0⟩ ⟨none,0,0⟩ ⟨none,0,0⟩) 52::(vo B7 78 r8 rs9)++((vo B7 78 r2 rs3)++([])))) (fun ⟨⟨r8,rs9⟩,hp12⟩=>H3 [vo B7 78 r8 rs9,[bx b1 (A6 ScrC.zero ⟨none,0,0⟩ ⟨none,0,0⟩ ⟨none,0,0⟩ ⟨none,0,0⟩) 52],vo B7 78 r2 rs3] [1,0,2] 3 rfl (by decide) (by first|rfl|simp only [List.flatten_cons,List.flatten_nil,List.append_nil,List.cons_append,List.nil_append,List.append_assoc]) [[bx b1 (A6 ScrC.zero ⟨none,0,0⟩ ⟨none,0,0⟩ ⟨none,0,0⟩ ⟨none,0,0⟩) 52],vo B7 78 r8 rs9,vo B7 78 r2 rs3] rfl (by first|rfl|simp only [List.flatten_cons,List.flatten_nil,List.append_nil,List.cons_append,List.nil_append,List.append_assoc]))) fun ⟨⟨r8,rs9⟩,hp12⟩=>?_
 try dsimp only at hp12
 obtain ⟨hk10,hw11⟩:=hp12
 have:=VOk.le hk10
 have:=VOk.cap hk10
 have:=hw11.1
 refine ip' 5 0 [(8,.slice (va r8.q) y3.1.length r8.k)] ?_
 refine ie (sr 7 rfl (ip' 1 6 [(30,iv cols)] ?_))
 have hQ:=G6 hR;clear hR;obtain ⟨y2,hy2,hR⟩:=hQ
 refine it rfl (I5 (L2:=(bx b1 (A6 ScrC.zero ⟨none,0,0⟩ ⟨none,0,0⟩ ⟨none,0,0⟩ ⟨none,0,0⟩) 52::(vo B7 78 r8 rs9)++((vo B7 78 r2 rs3)++([])))) (C4x cols y2 hy2) rfl rfl rfl rfl rfl fn0 (List.Perm.refl _) (fun ⟨r13,hk14⟩=>(bx b1 (A6 ScrC.zero ⟨none,0,0⟩ ⟨none,0,0⟩ ⟨none,0,0⟩ ⟨none,0,0⟩) 52::(vo F4 4 r13 y2.1)++((vo B7 78 r8 rs9)++((vo B7 78 r2 rs3)++([]))))) (fun ⟨r13,hk14⟩=>H3 [vo F4 4 r13 y2.1,[bx b1 (A6 ScrC.zero ⟨none,0,0⟩ ⟨none,0,0⟩ ⟨none,0,0⟩ ⟨none,0,0⟩) 52],vo B7 78 r8 rs9,vo B7 78 r2 rs3] [1,0,2,3] 4 rfl (by decide) (by first|rfl|simp only [List.flatten_cons,List.flatten_nil,List.append_nil,List.cons_append,List.nil_append,List.append_assoc]) [[bx b1 (A6 ScrC.zero ⟨none,0,0⟩ ⟨none,0,0⟩ ⟨none,0,0⟩ ⟨none,0,0⟩) 52],vo F4 4 r13 y2.1,vo B7 78 r8 rs9,vo B7 78 r2 rs3] rfl (by first|rfl|simp only [List.flatten_cons,List.flatten_nil,List.append_nil,List.cons_append,List.nil_append,List.append_assoc]))) fun ⟨r13,hk14⟩=>?_
 have:=VOk.le hk14
 have:=VOk.cap hk14
 refine ip' 5 0 [(10,.slice (va r13.q) y2.1.length r13.k),(7,iv y2.2)] ?_
 refine ie (sr 12 rfl (ip' 4 8 [(34,iv cols),(35,iv rows),(36,.slice (va r2.q) y0.1.length r2.k),(37,.slice (va r8.q) y3.1.length r8.k)] ?_))
 refine zca (C4h _ rfl) fn0 ?_
 refine ip' 1 6 [(39,iv rows)] ?_
 refine ix rfl (I9.pure rfl) ?_
 refine zrg 5 0 [0] [(5,iv y2.2)] (bx b1 (A6 ({ScrC.zero with cols:=cols,rows:=rows,modes:=A4j,bottom:=(IntKind.i64.wrap (rows - (1:Int)))}) ⟨va r2.q,y0.1.length,r2.k⟩ ⟨va r8.q,y3.1.length,r8.k⟩ ⟨none,0,0⟩ ⟨va r13.q,y2.1.length,r13.k⟩) 52::(vo F4 4 r13 y2.1)++((vo B7 78 r8 rs9)++((vo B7 78 r2 rs3)++([])))) ?_
 subst hR
 refine ie (A7 (W7 (H3 [[bx b1 (A6 ({ScrC.zero with cols:=cols,rows:=rows,modes:=A4j,bottom:=(IntKind.i64.wrap (rows - (1:Int)))}) ⟨va r2.q,y0.1.length,r2.k⟩ ⟨va r8.q,y3.1.length,r8.k⟩ ⟨none,0,0⟩ ⟨va r13.q,y2.1.length,r13.k⟩) 52],vo F4 4 r13 y2.1,vo B7 78 r8 rs9,vo B7 78 r2 rs3] [0,3,2,1] 4 rfl (by decide) rfl [[bx b1 (A6 ({ScrC.zero with cols:=cols,rows:=rows,modes:=A4j,bottom:=(IntKind.i64.wrap (rows - (1:Int)))}) ⟨va r2.q,y0.1.length,r2.k⟩ ⟨va r8.q,y3.1.length,r8.k⟩ ⟨none,0,0⟩ ⟨va r13.q,y2.1.length,r13.k⟩) 52],vo B7 78 r2 rs3,vo B7 78 r8 rs9,vo F4 4 r13 y2.1] rfl (by first|rfl|simp)) ?_))
 exact zer hr hD (V5 rfl (A1s (us:=A6 ({ScrC.zero with cols:=cols,rows:=rows,modes:=A4j,bottom:=(IntKind.i64.wrap (rows - (1:Int)))}) ⟨va r2.q,y0.1.length,r2.k⟩ ⟨va r8.q,y3.1.length,r8.k⟩ ⟨none,0,0⟩ ⟨va r13.q,y2.1.length,r13.k⟩) B5d rfl 0 rfl rfl) (B1 rfl)) (⟨(r2,rs3),⟨hk4,hw5⟩⟩,⟨(r8,rs9),⟨hk10,hw11⟩⟩,⟨r13,hk14⟩) (mc [[bx b1 (A6 ({ScrC.zero with cols:=cols,rows:=rows,modes:=A4j,bottom:=(IntKind.i64.wrap (rows - (1:Int)))}) ⟨va r2.q,y0.1.length,r2.k⟩ ⟨va r8.q,y3.1.length,r8.k⟩ ⟨none,0,0⟩ ⟨va r13.q,y2.1.length,r13.k⟩) 52],vo B7 78 r2 rs3,vo B7 78 r8 rs9,vo F4 4 r13 y2.1] [false,true,true,true] rfl (by first|rfl|(simp only [List.length_set]<;>rfl))) (A2.con1 (B5 1 rfl) (A2.con1 (B5 0 rfl) fn0))
end Go.Proofs.YthcjfkljekdioaaGreatDoor
set_option linter.unusedVariables false
set_option linter.unusedSimpArgs false
set_option linter.unnecessarySimpa false
set_option maxRecDepth 100000
namespace Go.Proofs.YthcjfkljekdioaaGreatDoor
open Go Go.Fen
theorem D2d:EqT Tryz.prog 42 I8:=EqT.of 20 rfl (by kernel_rfl) (by kernel_rfl) (fun _ _=>by kernel_rfl) I8.inj
theorem C9f:EqT Tryz.prog 72 B2:=EqT.of 20 rfl (by kernel_rfl) (by kernel_rfl) (fun _ _=>by kernel_rfl) B2.inj
theorem C9u:SlTy Tryz.prog 166 164 2:=⟨by kernel_rfl,by kernel_rfl⟩
theorem C6g:Ty Tryz.prog 164 2 true:=⟨by kernel_rfl⟩
def A4q (c:Cel):Bool :=
 (decide (c={Cel.zero with wide:=2,sty:=c.sty}))
theorem C5g (c:Cel) (R:Bool) (hR:A4q c=R):I6 Tryz.prog 130 [ag (B2 c)] [] (bv R):=by
 refine zco Tryz.func130 [(0,ag (B2 c))] fun X hX hr hD=>?_
 replace hR:=(A4q.eq_1 ..).symm.trans hR
 refine sr 2 rfl (I7 2 0 [] (fun b1=>[(1,pt b1 0)]) (fun b1=>[bx b1 (B2 c) 72]) (fun b1=>?_))
 refine ie (sr 6 rfl (zrl 4 2 [0,0] [(3,ag (B2 c)),(6,ag (B2 ({Cel.zero with wide:=2,sty:=c.sty})))] ?_))
 refine ix rfl (A6t (a:=c) (b:={Cel.zero with wide:=2,sty:=c.sty}) C9f rfl rfl rfl) ?_
 refine ip' 1 0 [(2,bv (decide (c={Cel.zero with wide:=2,sty:=c.sty})))] ?_
 subst hR
 refine ie (A7 ?_)
 exact D5 hr hD
def A0u (cp:Int):List Spn→Nat→Bool
 | [],t9=>false
 | hd_l0::tl_l0,t9=>(bif ((decide (hd_l0.lo≤cp))&&(decide (cp≤hd_l0.hi))) then true else A0u cp tl_l0 (t9+1))
def U0 (cp:Int) (l:List Spn):Bool :=
 A0u cp l 0
theorem B1p (cp:Int) (l:List Spn) (lq:Option Addr) (lk:Nat) (hll:l.length≤9223372036854775807) (hcl:l.length≤lk) (R:Bool) (hR:U0 cp l=R):I6 Tryz.prog 120 [iv cp,.slice lq l.length lk] [sl C5 lq l] (bv R):=by
 refine zco Tryz.func120 [(0,iv cp),(1,.slice lq l.length lk)] fun X hX hr hD=>?_
 replace hR:=(U0.eq_1 ..).symm.trans hR
 refine sr 1 rfl (ip' 1 0 [] ?_)
 refine ie (A3 (sr 3 rfl (ip' 3 0 [(7,.slice lq l.length lk),(8,iv (l.length:Int)),(9,iv 0)] ?_)))
 refine ie (B0 (B3w (fun (t9:Nat)=>(t9≤l.length∧A0u cp (l.drop t9) t9=R,[(0,iv cp),(7,.slice lq l.length lk),(8,iv (l.length:Int)),(9,iv (t9:Int))],[],[sl C5 lq l],l.length - t9)) 0 ⟨(by omega),hR⟩ (mk [] rfl) A2.refl ?_))
 rintro t9 ⟨hm1,hR⟩
 refine sr 1 rfl (ip' 1 0 [(10,bv (decide ((t9:Int)<(l.length:Int))))] ?_)
 refine ie (A3 (S2 rfl (fun h2=>?_) (fun h2=>?_)))
 ·have h2p:(t9:Int)<(l.length:Int):=by simpa using h2
  rw [U1 Spn.zero (show t9<l.length by omega)] at hR;replace hR:=(A0u.eq_2 ..).symm.trans hR
  refine A4 (nx (A3 (B0 (sr 4 rfl (J3 0 rfl (by omega) fun a3 hq4=>?_)))))
  refine ix rfl (E8 C9u rfl rfl hq4 rfl t9 rfl (by omega)) ?_
  refine ix rfl (L4 (us:=C5 (l.getD t9 Spn.zero)) C6g rfl rfl (G0 (c:=C5) (sz:=2) hq4 (fun _=>rfl) 0 rfl (gd Spn.zero (by omega))) rfl) ?_
  refine I7 2 0 [0] (fun b5=>[(6,pt b5 0)]) (fun b5=>[bx b5 (C5 (l.getD t9 Spn.zero)) 164]) (fun b5=>?_)
  refine ie (sr 10 rfl (zrl 5 5 [0] [(17,bv (decide ((l.getD t9 Spn.zero).lo≤cp)))] ?_))
  refine zid 5 0 17 22 (decide (cp≤(l.getD t9 Spn.zero).hi)) (fun g6 g6p=>?_) ?_
  ·refine zrl 5 0 [0] [(22,bv (decide (cp≤(l.getD t9 Spn.zero).hi)))] ?_
   exact zai 2 17 22 g6
  refine ie ?_
  refine zja rfl hR ?_ ?_<;>clear hR<;>intro hR h7 h7p
  ·refine sr 1 rfl (ip' 1 0 [(4,bv true)] ?_)
   subst hR
   refine ie (A7 ?_)
   exact D5 hr hD
  refine A4 (nx (A5 2 rfl (ix rfl (B4 rfl rfl rfl rfl (by omega)) ?_)))
  refine ip' 1 0 [(9,iv ((t9:Int)+1))] ?_
  refine A1 ?_
  exact B4g (z1:=t9) (t9+1) ⟨(by omega),hR⟩ (by (try dsimp only);omega) (mk [false] rfl) A2.refl
 have h2p:¬ ((t9:Int)<(l.length:Int)):=by simpa using h2
 rw [U2 h2p] at hR;replace hR:=(A0u.eq_1 ..).symm.trans hR
 refine G2 (nx (sr 1 rfl (ip' 1 0 [(4,bv false)] ?_)))
 subst hR
 refine ie (A7 ?_)
 exact D5 hr hD
def F2 (cp:Int):Int :=
 (bif ((!(A1l cp))||(U0 cp ([(⟨0,31⟩:Spn),(⟨127,159⟩:Spn)]:List Spn))) then (-1) else (bif (decide (cp<(B3t.getD 0 Spn.zero).lo)) then 1 else (bif (U0 cp B3t) then 0 else (bif (U0 cp C4k) then 2 else 1))))
theorem A0c (cp:Int) (R:Int) (hR:F2 cp=R):I6 Tryz.prog 69 [iv cp] [A0z,A1a] (iv R):=by
 refine zco Tryz.func69 [(0,iv cp)] fun X hX hr hD=>?_
 replace hR:=(F2.eq_1 ..).symm.trans hR
 refine sr 1 rfl (ip' 1 0 [] ?_)
 refine ie (A3 (B0 (sr 11 rfl (ip' 1 10 [(4,iv cp)] ?_))))
 refine zca (B4k cp _ rfl) fn0 ?_
 refine ip' 2 7 [(7,bv (!(A1l cp)))] ?_
 refine zio 6 1 7 13 (U0 cp ([(⟨0,31⟩:Spn),(⟨127,159⟩:Spn)]:List Spn)) (fun g1=>?_) ?_
 ·refine zrl 3 3 [] [(8,iv cp),(9,ag (C5 (⟨0,31⟩:Spn))),(10,ag (C5 (⟨127,159⟩:Spn)))] ?_
  refine it rfl (E9 (c:=C5) (xs:=([(⟨0,31⟩:Spn),(⟨127,159⟩:Spn)]:List Spn)) C9u rfl rfl rfl (by kernel_rfl)) fun b2=>?_
  have:([(⟨0,31⟩:Spn),(⟨127,159⟩:Spn)]:List Spn).length=2:=rfl
  refine zca (B1p cp ([(⟨0,31⟩:Spn),(⟨127,159⟩:Spn)]:List Spn) (some ⟨b2,0,none⟩) 2 (by first|omega|(simp only [List.length_take,List.length_drop,List.length_append,List.length_cons,List.length_nil,List.length_set,List.length_map];omega)|decide) (by first|omega|(simp only [List.length_take,List.length_drop,List.length_append,List.length_cons,List.length_nil,List.length_set,List.length_map];omega)|decide) _ rfl) (A2.pick [0] rfl) ?_
  refine ip' 1 0 [(13,bv (U0 cp ([(⟨0,31⟩:Spn),(⟨127,159⟩:Spn)]:List Spn)))] ?_
  exact A1 (H1 7 7 13 g1 (A2.pick [1,2] rfl) (mk [] rfl) rfl rfl rfl rfl rfl)
 refine ip' 1 0 [(3,bv ((!(A1l cp))||(U0 cp ([(⟨0,31⟩:Spn),(⟨127,159⟩:Spn)]:List Spn))))] ?_
 refine ie ?_
 refine zjb rfl hR ?_ ?_<;>clear hR<;>intro hR h3
 ·have h3p:=h3;try simp only [Bool.and_eq_true,Bool.or_eq_true,Bool.and_eq_false_iff,Bool.or_eq_false_iff,Bool.not_eq_true',Bool.not_eq_false',decide_eq_true_eq,decide_eq_false_iff_not] at h3p
  refine sr 1 rfl (ip' 1 0 [(2,iv (-1))] ?_)
  subst hR
  refine ie (A7 ?_)
  exact D5 hr hD
 have h3p:=h3;try simp only [Bool.and_eq_true,Bool.or_eq_true,Bool.and_eq_false_iff,Bool.or_eq_false_iff,Bool.not_eq_true',Bool.not_eq_false',decide_eq_true_eq,decide_eq_false_iff_not] at h3p
 refine sr 6 rfl (ip' 1 5 [(15,iv cp)] ?_)
 refine ix rfl (A7x Tryz.underlying165 C6g rfl rfl rfl 0 rfl (by first|decide|omega)) ?_
 refine ip' 1 3 [(17,pa (Addr.add ⟨0,0,none⟩ (0 * 2)))] ?_
 refine ix rfl (C8 (v:=iv ((B3t.getD 0 Spn.zero).lo)) (us:=[iv ((B3t.getD 0 Spn.zero).lo)]) ty3 rfl rfl (A0g (G0 (c:=C5) (sz:=2) rfl (fun _=>rfl) 0 rfl (gd Spn.zero (by first|decide|(simp only [B3t,List.length_cons,List.length_nil];omega)))) (ws:=[iv ((B3t.getD 0 Spn.zero).lo)]) 1 rfl) rfl) ?_
 refine ip' 2 0 [(14,bv (decide (cp<(B3t.getD 0 Spn.zero).lo)))] ?_
 refine ie ?_
 refine zjd rfl hR ?_ ?_<;>clear hR<;>intro hR h4 h4p
 ·refine sr 1 rfl (ip' 1 0 [(2,iv 1)] ?_)
  subst hR
  refine ie (A7 ?_)
  exact D5 hr hD
 refine sr 4 rfl (ip' 1 3 [(21,iv cp)] ?_)
 refine ix rfl (B6t Tryz.underlying165 C6g rfl rfl) ?_
 refine zca (B1p cp B3t (some ⟨0,0,none⟩) 11 (by first|omega|(simp only [List.length_take,List.length_drop,List.length_append,List.length_cons,List.length_nil,List.length_set,List.length_map];omega)|decide) (by first|omega|(simp only [List.length_take,List.length_drop,List.length_append,List.length_cons,List.length_nil,List.length_set,List.length_map];omega)|decide) _ rfl) (A2.pick [0] rfl) ?_
 refine ip' 1 0 [(20,bv (U0 cp B3t))] ?_
 refine ie ?_
 refine zjb rfl hR ?_ ?_<;>clear hR<;>intro hR h5
 ·refine sr 1 rfl (ip' 1 0 [(2,iv 0)] ?_)
  subst hR
  refine ie (A7 ?_)
  exact D5 hr hD
 refine sr 4 rfl (ip' 1 3 [(25,iv cp)] ?_)
 refine ix rfl (B6t Tryz.underlying167 C6g rfl rfl) ?_
 refine zca (B1p cp C4k (some ⟨1,0,none⟩) 13 (by first|omega|(simp only [List.length_take,List.length_drop,List.length_append,List.length_cons,List.length_nil,List.length_set,List.length_map];omega)|decide) (by first|omega|(simp only [List.length_take,List.length_drop,List.length_append,List.length_cons,List.length_nil,List.length_set,List.length_map];omega)|decide) _ rfl) (A2.pick [1] rfl) ?_
 refine ip' 1 0 [(24,bv (U0 cp C4k))] ?_
 refine ie ?_
 refine zjb rfl hR ?_ ?_<;>clear hR<;>intro hR h6
 ·refine sr 1 rfl (ip' 1 0 [(2,iv 2)] ?_)
  subst hR
  refine ie (A7 ?_)
  exact D5 hr hD
 refine A4 (nx (sr 1 rfl (ip' 1 0 [(2,iv 1)] ?_)))
 subst hR
 refine ie (A7 ?_)
 exact D5 hr hD
def Y4 (l:Ar2):Bool :=
 (bif ((!decide (l.a=0))&&(!decide ((F2 l.a)=0))) then false else (bif ((!decide (l.b=0))&&((decide (l.a=0))||(!decide ((F2 l.b)=0)))) then false else true))
theorem C0a (l:Ar2) (R:Bool) (hR:Y4 l=R):I6 Tryz.prog 131 [ag (S8 l)] [A0z,A1a] (bv R):=by
 refine zco Tryz.func131 [(0,ag (S8 l))] fun X hX hr hD=>?_
 replace hR:=(Y4.eq_1 ..).symm.trans hR
 refine sr 2 rfl (I7 2 0 [] (fun b1=>[(1,pt b1 0)]) (fun b1=>[bx b1 (S8 l) 70]) (fun b1=>?_))
 refine ie (sr 1 rfl (ip' 1 0 [(3,bv false)] ?_))
 refine ie (A3 (sr 2 rfl (zrl 2 0 [0] [(6,ag (S8 l)),(7,iv 0)] ?_)))
 refine ie (B0 (R6 4 ?_))
 refine D7 (sr 1 rfl (ip' 1 0 [(8,bv true)] ?_))
 refine ie (A3 (H8 rfl (A4 (nx (A3 (B0 (sr 2 rfl (ix rfl (F0 (v:=iv l.a) (us:=[iv l.a]) Tryz.underlying70 ty3 rfl rfl rfl 0 rfl (by decide) rfl rfl rfl) ?_))))))))
 refine ip' 1 0 [(5,iv l.a)] ?_
 refine ie (A3 (sr 10 rfl (ip' 3 7 [(12,bv (!decide (l.a=0)))] ?_)))
 refine zia 7 0 12 19 (!decide ((F2 l.a)=0)) (fun g2=>?_) ?_
 ·have g2p:¬ l.a=0:=by simpa using g2
  refine ip' 3 4 [(14,bv false),(15,iv l.a)] ?_
  refine zca (A0c l.a _ rfl) A2.refl ?_
  refine ip' 3 0 [(19,bv (!decide ((F2 l.a)=0)))] ?_
  exact zai 5 12 19 g2
 refine ie ?_
 refine zjb rfl hR ?_ ?_<;>clear hR<;>intro hR h3
 ·have h3p:(¬ l.a=0)∧(¬ (F2 l.a)=0):=by simpa using h3
  refine sr 1 rfl (ip' 1 0 [(2,bv false)] ?_)
  subst hR
  refine ie (A7 ?_)
  exact D5 hr hD
 have h3p:¬ ((¬ l.a=0)∧(¬ (F2 l.a)=0)):=by simpa using h3
 refine A4 (nx (A5 6 rfl (ip' 6 0 [(3,bv (decide (l.a=0)))] ?_)))
 refine A1 (nx (A5 2 rfl (ix rfl (B4 (c:=1) rfl rfl rfl rfl (by decide)) ?_)))
 refine ip' 1 0 [(7,iv 1)] ?_
 refine A1 (D7 (sr 1 rfl (ip' 1 0 [(8,bv true)] ?_)))
 refine ie (A3 (H8 rfl (A4 (nx (A3 (B0 (sr 2 rfl (ix rfl (F0 (v:=iv l.b) (us:=[iv l.b]) Tryz.underlying70 ty3 rfl rfl rfl 1 rfl (by decide) rfl rfl rfl) ?_))))))))
 refine ip' 1 0 [(5,iv l.b)] ?_
 refine ie (A3 (sr 10 rfl (ip' 3 7 [(12,bv (!decide (l.b=0)))] ?_)))
 refine zia 7 0 12 19 ((decide (l.a=0))||(!decide ((F2 l.b)=0))) (fun g4=>?_) ?_
 ·have g4p:¬ l.b=0:=by simpa using g4
  refine ip' 2 5 [(14,bv (decide (l.a=0)))] ?_
  refine zir 4 1 14 18 (!decide ((F2 l.b)=0)) (fun g5 g5p=>?_) ?_
  ·refine ip' 1 3 [(15,iv l.b)] ?_
   refine zca (A0c l.b _ rfl) A2.refl ?_
   refine ip' 2 0 [(18,bv (!decide ((F2 l.b)=0)))] ?_
   exact zai 4 14 18 g5
  refine ip' 1 0 [(19,bv ((decide (l.a=0))||(!decide ((F2 l.b)=0))))] ?_
  exact zai 4 12 19 g4
 refine ie ?_
 refine zjb rfl hR ?_ ?_<;>clear hR<;>intro hR h6
 ·have h6p:(¬ l.b=0)∧((l.a=0)∨(¬ (F2 l.b)=0)):=by simpa using h6
  refine sr 1 rfl (ip' 1 0 [(2,bv false)] ?_)
  subst hR
  refine ie (A7 ?_)
  exact D5 hr hD
 have h6p:¬ ((¬ l.b=0)∧((l.a=0)∨(¬ (F2 l.b)=0))):=by simpa using h6
 refine A4 (nx (A5 6 rfl (ip' 2 4 [(21,bv (decide (l.a=0)))] ?_)))
 refine zir 3 1 21 24 (decide (l.b=0)) (fun g7 g7p=>?_) ?_
 ·refine ip' 3 0 [(24,bv (decide (l.b=0)))] ?_
  exact zai 2 21 24 g7
 refine ip' 1 0 [(3,bv ((decide (l.a=0))||(decide (l.b=0))))] ?_
 refine A1 (nx (A5 2 rfl (ix rfl (B4 (c:=2) rfl rfl rfl rfl (by decide)) ?_)))
 refine ip' 1 0 [(7,iv 2)] ?_
 refine A1 (D7 (sr 1 rfl (ip' 1 0 [(8,bv false)] ?_)))
 refine ie (A3 (A0m rfl (G2 (nx (sr 1 rfl (ip' 1 0 [(2,bv true)] ?_))))))
 subst hR
 refine ie (A7 ?_)
 exact D5 hr hD
def R1 (c:Cel):Int :=
 (bif ((!((A4q c)||((((decide ((0:Int)≤c.wide))&&(decide (c.wide≤1)))&&(decide ((F2 c.base)=(IntKind.i64.wrap (c.wide+(1:Int))))))&&(Y4 c.marks))))||(!decide ((D9 c.sty)=0))) then 221 else 0)
theorem B5h (c:Cel) (R:Int) (hR:R1 c=R):I6 Tryz.prog 74 [ag (B2 c)] [A0z,A1a] (iv R):=by
 refine zco Tryz.func74 [(0,ag (B2 c))] fun X hX hr hD=>?_
 replace hR:=(R1.eq_1 ..).symm.trans hR
 refine sr 2 rfl (I7 2 0 [] (fun b1=>[(1,pt b1 0)]) (fun b1=>[bx b1 (B2 c) 72]) (fun b1=>?_))
 refine ie (sd 27 rfl (by kernel_rfl) rfl ?_)
 refine zdg 1 26 [0] [(4,ag (B2 c))] ?_
 refine zcd (C5g c _ rfl) fn0 ?_
 refine dp' 1 24 [(6,bv (A4q c))] ?_
 refine zdO 23 1 6 29 ((((decide ((0:Int)≤c.wide))&&(decide (c.wide≤1)))&&(decide ((F2 c.base)=(IntKind.i64.wrap (c.wide+(1:Int))))))&&(Y4 c.marks)) (fun g2=>?_) ?_
 ·refine zdg 4 19 [0] [(10,bv (decide ((0:Int)≤c.wide)))] ?_
  refine zdd 4 15 10 14 (decide (c.wide≤1)) (fun g3 g3p=>?_) ?_
  ·refine zdg 4 0 [0] [(14,bv (decide (c.wide≤1)))] ?_
   exact zad 2 10 14 g3
  refine dp' 1 14 [(15,bv ((decide ((0:Int)≤c.wide))&&(decide (c.wide≤1))))] ?_
  refine zda 8 6 15 23 (decide ((F2 c.base)=(IntKind.i64.wrap (c.wide+(1:Int))))) (fun g4=>?_) ?_
  ·have g4p:((0:Int)≤c.wide)∧(c.wide≤1):=by simpa using g4
   refine zdg 2 6 [0] [(17,iv c.base)] ?_
   refine zcd (A0c c.base _ rfl) A2.refl ?_
   refine zdg 2 3 [0] [(20,iv c.wide)] ?_
   refine dd rfl (I9.pure rfl) ?_
   refine dp' 2 0 [(23,bv (decide ((F2 c.base)=(IntKind.i64.wrap (c.wide+(1:Int))))))] ?_
   exact zad 6 15 23 g4
  refine dp' 1 5 [(24,bv (((decide ((0:Int)≤c.wide))&&(decide (c.wide≤1)))&&(decide ((F2 c.base)=(IntKind.i64.wrap (c.wide+(1:Int)))))))] ?_
  refine zda 4 1 24 28 (Y4 c.marks) (fun g5=>?_) ?_
  ·have g5p:(((0:Int)≤c.wide)∧(c.wide≤1))∧((F2 c.base)=(IntKind.i64.wrap (c.wide+(1:Int)))):=by simpa using g5
   refine zdg 2 2 [0] [(26,ag (S8 c.marks))] ?_
   refine zcd (C0a c.marks _ rfl) A2.refl ?_
   refine dp' 1 0 [(28,bv (Y4 c.marks))] ?_
   exact zad 4 24 28 g5
  refine dp' 1 0 [(29,bv ((((decide ((0:Int)≤c.wide))&&(decide (c.wide≤1)))&&(decide ((F2 c.base)=(IntKind.i64.wrap (c.wide+(1:Int))))))&&(Y4 c.marks)))] ?_
  exact zad 8 6 29 g2
 refine dp' 1 0 [(3,bv ((A4q c)||((((decide ((0:Int)≤c.wide))&&(decide (c.wide≤1)))&&(decide ((F2 c.base)=(IntKind.i64.wrap (c.wide+(1:Int))))))&&(Y4 c.marks))))] ?_
 refine de (A3 (sr 8 rfl (ip' 3 5 [(32,bv (!((A4q c)||((((decide ((0:Int)≤c.wide))&&(decide (c.wide≤1)))&&(decide ((F2 c.base)=(IntKind.i64.wrap (c.wide+(1:Int))))))&&(Y4 c.marks)))))] ?_)))
 refine zio 5 0 32 37 (!decide ((D9 c.sty)=0)) (fun g6=>?_) ?_
 ·have g6p:=g6;try simp only [Bool.and_eq_true,Bool.or_eq_true,Bool.and_eq_false_iff,Bool.or_eq_false_iff,Bool.not_eq_true',Bool.not_eq_false',decide_eq_true_eq,decide_eq_false_iff_not] at g6p
  refine zrl 2 3 [0] [(34,ag (I8 c.sty))] ?_
  refine zca (A0l c.sty _ rfl) fn0 ?_
  refine ip' 2 0 [(37,bv (!decide ((D9 c.sty)=0)))] ?_
  exact zai 4 32 37 g6
 refine ie ?_
 refine zjb rfl hR ?_ ?_<;>clear hR<;>intro hR h7
 ·have h7p:=h7;try simp only [Bool.and_eq_true,Bool.or_eq_true,Bool.and_eq_false_iff,Bool.or_eq_false_iff,Bool.not_eq_true',Bool.not_eq_false',decide_eq_true_eq,decide_eq_false_iff_not] at h7p
  refine sr 1 rfl (ip' 1 0 [(2,iv 221)] ?_)
  subst hR
  refine ie (A7 ?_)
  exact D5 hr hD
 have h7p:=h7;try simp only [Bool.and_eq_true,Bool.or_eq_true,Bool.and_eq_false_iff,Bool.or_eq_false_iff,Bool.not_eq_true',Bool.not_eq_false',decide_eq_true_eq,decide_eq_false_iff_not] at h7p
 refine A4 (nx (sr 1 rfl (ip' 1 0 [(2,iv 0)] ?_)))
 subst hR
 refine ie (A7 ?_)
 exact D5 hr hD
def U4:List Cel→Nat→Cel→Int
 | [],t19,last=>(bif (decide (last.wide=1)) then 220 else 0)
 | hd_l0::tl_l0,t19,last=>(bif (((!decide ((R1 hd_l0)=0))||(!((decide (last.wide=1)) == (decide (hd_l0.wide=2)))))||((decide (hd_l0.wide=2))&&(!(decide (hd_l0.sty=last.sty))))) then 220 else U4 tl_l0 (t19+1) hd_l0)
def H9 (rCells:List Cel) (rWrapped:Bool):Int :=
 (bif ((decide ((rCells.length:Int)<2))||(decide ((80:Int)<(rCells.length:Int)))) then 220 else U4 rCells 0 Cel.zero)
theorem A9n (rCells:List Cel) (rWrapped:Bool) (rCellsq:Option Addr) (rCellsk:Nat) (hlrCells:rCells.length≤9223372036854775807) (hcrCells:rCells.length≤rCellsk) (R:Int) (hR:H9 rCells rWrapped=R):I6 Tryz.prog 35 [ag [.slice rCellsq rCells.length rCellsk,bv rWrapped]] [sl B2 rCellsq rCells,A0z,A1a] (iv R):=by
 refine zco Tryz.func35 [(0,ag [.slice rCellsq rCells.length rCellsk,bv rWrapped])] fun X hX hr hD=>?_
 replace hR:=(H9.eq_1 ..).symm.trans hR
 refine sr 2 rfl (I7 2 0 [] (fun b1=>[(1,pt b1 0)]) (fun b1=>[bx b1 [.slice rCellsq rCells.length rCellsk,bv rWrapped] 78]) (fun b1=>?_))
 refine ie (A3 (sr 4 rfl (zrl 4 0 [0] [(3,iv (rCells.length:Int))] ?_)))
 refine ie (sr 6 rfl (ip' 3 3 [(12,bv (decide ((rCells.length:Int)<2)))] ?_))
 refine zir 3 0 12 15 (decide ((80:Int)<(rCells.length:Int))) (fun g2 g2p=>?_) ?_
 ·refine ip' 3 0 [(15,bv (decide ((80:Int)<(rCells.length:Int))))] ?_
  exact zai 2 12 15 g2
 refine ie ?_
 refine zjo rfl hR ?_ ?_<;>clear hR<;>intro hR h3 h3p
 ·refine sr 1 rfl (ip' 1 0 [(2,iv 220)] ?_)
  subst hR
  refine ie (A7 ?_)
  exact D5 hr hD
 refine A4 (nx (sr 1 rfl (I7 1 0 [] (fun b4=>[(4,pt b4 0)]) (fun b4=>[bx b4 (B2 Cel.zero) 72,bx b1 [.slice rCellsq rCells.length rCellsk,bv rWrapped] 78]) (fun b4=>?_))))
 refine ie (A3 (sr 4 rfl (zrl 4 0 [1] [(17,.slice rCellsq rCells.length rCellsk),(18,iv (rCells.length:Int)),(19,iv 0)] ?_)))
 refine ie (B0 (C9d (fun (t19:Nat) (last:Cel)=>(t19≤rCells.length∧U4 (rCells.drop t19) t19 last=R,[(4,pt b4 0),(17,.slice rCellsq rCells.length rCellsk),(18,iv (rCells.length:Int)),(19,iv (t19:Int))],[bx b4 (B2 last) 72,bx b1 [.slice rCellsq rCells.length rCellsk,bv rWrapped] 78],[sl B2 rCellsq rCells,A0z,A1a],rCells.length - t19)) 0 Cel.zero ⟨(by omega),hR⟩ (mk [true,true] rfl) A2.refl ?_))
 rintro t19 last ⟨hm5,hR⟩
 refine sr 1 rfl (ip' 1 0 [(20,bv (decide ((t19:Int)<(rCells.length:Int))))] ?_)
 refine ie (A3 (S2 rfl (fun h6=>?_) (fun h6=>?_)))
 ·have h6p:(t19:Int)<(rCells.length:Int):=by simpa using h6
  rw [U1 Cel.zero (show t19<rCells.length by omega)] at hR;replace hR:=(U4.eq_2 ..).symm.trans hR
  refine A4 (nx (A3 (B0 (sr 4 rfl (J3 0 rfl (by omega) fun a7 hq8=>?_)))))
  refine ix rfl (E8 S9 rfl rfl hq8 rfl t19 rfl (by omega)) ?_
  refine ix rfl (L4 (us:=B2 (rCells.getD t19 Cel.zero)) B8o rfl rfl (G0 (c:=B2) (sz:=12) hq8 (fun _=>rfl) 0 rfl (gd Cel.zero (by omega))) rfl) ?_
  refine I7 2 0 [0] (fun b9=>[(6,pt b9 0)]) (fun b9=>[bx b9 (B2 (rCells.getD t19 Cel.zero)) 72,bx b4 (B2 last) 72,bx b1 [.slice rCellsq rCells.length rCellsk,bv rWrapped] 78]) (fun b9=>?_)
  refine ie (A3 (sr 24 rfl (zrl 1 23 [0] [(23,ag (B2 (rCells.getD t19 Cel.zero)))] ?_)))
  refine zca (B5h (rCells.getD t19 Cel.zero) _ rfl) (A2.pick [1,2] rfl) ?_
  refine ip' 2 20 [(26,bv (!decide ((R1 (rCells.getD t19 Cel.zero))=0)))] ?_
  refine zio 8 12 26 34 (!((decide (last.wide=1)) == (decide ((rCells.getD t19 Cel.zero).wide=2)))) (fun g10=>?_) ?_
  ·have g10p:¬ (¬ (R1 (rCells.getD t19 Cel.zero))=0):=by simpa using g10
   refine zrl 6 2 [1,0] [(29,bv (decide (last.wide=1))),(32,bv (decide ((rCells.getD t19 Cel.zero).wide=2)))] ?_
   refine ix rfl (C0o Tryz.underlying4 rfl rfl rfl) ?_
   refine ip' 1 0 [(34,bv (!((decide (last.wide=1)) == (decide ((rCells.getD t19 Cel.zero).wide=2)))))] ?_
   exact zai 5 26 34 g10
  refine ip' 1 11 [(35,bv ((!decide ((R1 (rCells.getD t19 Cel.zero))=0))||(!((decide (last.wide=1)) == (decide ((rCells.getD t19 Cel.zero).wide=2))))))] ?_
  refine zio 11 0 35 46 ((decide ((rCells.getD t19 Cel.zero).wide=2))&&(!(decide ((rCells.getD t19 Cel.zero).sty=last.sty)))) (fun g11=>?_) ?_
  ·have g11p:=g11;try simp only [Bool.and_eq_true,Bool.or_eq_true,Bool.and_eq_false_iff,Bool.or_eq_false_iff,Bool.not_eq_true',Bool.not_eq_false',decide_eq_true_eq,decide_eq_false_iff_not] at g11p
   refine zrl 4 7 [0] [(39,bv (decide ((rCells.getD t19 Cel.zero).wide=2)))] ?_
   refine zid 6 1 39 45 (!(decide ((rCells.getD t19 Cel.zero).sty=last.sty))) (fun g12 g12p=>?_) ?_
   ·refine zrl 4 2 [0,1] [(41,ag (I8 ((rCells.getD t19 Cel.zero).sty))),(43,ag (I8 last.sty))] ?_
    refine ix rfl (A5i (a:=(rCells.getD t19 Cel.zero).sty) (b:=last.sty) D2d rfl rfl rfl) ?_
    refine ip' 1 0 [(45,bv (!(decide ((rCells.getD t19 Cel.zero).sty=last.sty))))] ?_
    exact zai 5 39 45 g12
   refine ip' 1 0 [(46,bv ((decide ((rCells.getD t19 Cel.zero).wide=2))&&(!(decide ((rCells.getD t19 Cel.zero).sty=last.sty)))))] ?_
   exact zai 4 35 46 g11
  refine ie ?_
  refine zjb rfl hR ?_ ?_<;>clear hR<;>intro hR h13
  ·have h13p:=h13;try simp only [Bool.and_eq_true,Bool.or_eq_true,Bool.and_eq_false_iff,Bool.or_eq_false_iff,Bool.not_eq_true',Bool.not_eq_false',decide_eq_true_eq,decide_eq_false_iff_not] at h13p
   refine sr 1 rfl (ip' 1 0 [(2,iv 220)] ?_)
   subst hR
   refine ie (A7 ?_)
   exact D5 hr hD
  have h13p:=h13;try simp only [Bool.and_eq_true,Bool.or_eq_true,Bool.and_eq_false_iff,Bool.or_eq_false_iff,Bool.not_eq_true',Bool.not_eq_false',decide_eq_true_eq,decide_eq_false_iff_not] at h13p
  refine A4 (nx (A5 2 rfl (zrg 2 0 [0,1] [] [bx b9 (B2 (rCells.getD t19 Cel.zero)) 72,bx b4 (B2 (rCells.getD t19 Cel.zero)) 72,bx b1 [.slice rCellsq rCells.length rCellsk,bv rWrapped] 78] ?_)))
  refine A1 (nx (A5 2 rfl (ix rfl (B4 rfl rfl rfl rfl (by omega)) ?_)))
  refine ip' 1 0 [(19,iv ((t19:Int)+1))] ?_
  refine A1 ?_
  exact C9t (z1:=t19) (z2:=last) (t19+1) (rCells.getD t19 Cel.zero) ⟨(by omega),hR⟩ (by (try dsimp only);omega) (mk [false,true,true] rfl) A2.refl
 have h6p:¬ ((t19:Int)<(rCells.length:Int)):=by simpa using h6
 rw [U2 h6p] at hR;replace hR:=(U4.eq_1 ..).symm.trans hR
 refine G2 (nx (A3 (sr 3 rfl (zrl 3 0 [0] [(51,bv (decide (last.wide=1)))] ?_))))
 refine ie ?_
 refine zjd rfl hR ?_ ?_<;>clear hR<;>intro hR h14 h14p
 ·refine sr 1 rfl (ip' 1 0 [(2,iv 220)] ?_)
  subst hR
  refine ie (A7 ?_)
  exact D5 hr hD
 refine A4 (nx (sr 1 rfl (ip' 1 0 [(2,iv 0)] ?_)))
 subst hR
 refine ie (A7 ?_)
 exact D5 hr hD
end Go.Proofs.YthcjfkljekdioaaGreatDoor
