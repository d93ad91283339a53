import Derived.Test.YtmldjljkeigpnaaGreatDoorProg
import Derived.Test.YtmldjljkeigpnaaGreatDoorMA2
set_option linter.unusedVariables false
set_option linter.unusedSimpArgs false
set_option linter.unnecessarySimpa false
set_option maxRecDepth 100000
namespace Go.Proofs.YtmldjljkeigpnaaGreatDoor
section
open Go Go.Fen open Tryz (prog)
variable {R:List UInt8×List Int} {b:UInt8} {cp:Int} {p:Prop} {pending:List UInt8} {pendingk:Nat} {pendingq:Option Addr} {pk:Nat} {s:List UInt8}
structure Col where
 kind:Int
 n:Int
deriving DecidableEq
def R1 (x:Col):List Value:=[.int .i64 x.kind,.int .i64 x.n]
def ZU:Col:=⟨0,0⟩
theorem R1.inj (x y:Col) (h:R1 x=R1 y):x=y:=by
 rcases x with ⟨_,_⟩
 simp_all[R1]
structure Sty where
 attr:Int
 under:Int
 fore:Col
 back:Col
 line:Col
deriving DecidableEq
def B7 (x:Sty):List Value:=[.int .i64 x.attr,.int .i64 x.under]++(R1 x.fore++(R1 x.back++(R1 x.line)))
def ZJ:Sty:=⟨0,0,ZU,ZU,ZU⟩
theorem B7.inj (x y:Sty) (h:B7 x=B7 y):x=y:=by
 rcases x with ⟨_,_,⟨_,_⟩,⟨_,_⟩,⟨_,_⟩⟩
 simp_all[R1,B7]
structure Ar2 where
 a:Int
 b:Int
deriving DecidableEq
def A3a (x:Ar2):List Value:=[.int .i64 x.a,.int .i64 x.b]
def Ar2.zero:Ar2:=⟨0,0⟩
theorem A3a.inj (x y:Ar2) (h:A3a x=A3a y):x=y:=by
 rcases x with ⟨_,_⟩
 simp_all[A3a]
structure Ar3 where
 a:Int
 b:Int
 c:Int
deriving DecidableEq
def B5d (x:Ar3):List Value:=[.int .i64 x.a,.int .i64 x.b,.int .i64 x.c]
def Ar3.zero:Ar3:=⟨0,0,0⟩
structure Cel where
 base:Int
 marks:Ar2
 wide:Int
 sty:Sty
deriving DecidableEq
def D0 (x:Cel):List Value:=[.int .i64 x.base]++(A3a x.marks++([.int .i64 x.wide]++(B7 x.sty)))
def ZV:Cel:=⟨0,Ar2.zero,0,ZJ⟩
theorem D0.inj (x y:Cel) (h:D0 x=D0 y):x=y:=by
 rcases x with ⟨_,⟨_,_⟩,_,⟨_,_,⟨_,_⟩,⟨_,_⟩,⟨_,_⟩⟩⟩
 simp_all[A3a,D0,R1,B7]
structure Spn where
 lo:Int
 hi:Int
deriving DecidableEq
def C0 (x:Spn):List Value:=[.int .i64 x.lo,.int .i64 x.hi]
def Spn.zero:Spn:=⟨0,0⟩
structure Sp3 where
 row:Int
 frm:Int
 tt:Int
deriving DecidableEq
def H1 (x:Sp3):List Value:=[.int .i64 x.row,.int .i64 x.frm,.int .i64 x.tt]
def ZY:Sp3:=⟨0,0,0⟩
structure Plc where
 row:Int
 col:Int
deriving DecidableEq
def A0n (x:Plc):List Value:=[.int .i64 x.row,.int .i64 x.col]
def Plc.zero:Plc:=⟨0,0⟩
structure Atr where
 a:Int
 b:Int
 c:Int
deriving DecidableEq
def C7a (x:Atr):List Value:=[.int .i64 x.a,.int .i64 x.b,.int .i64 x.c]
structure Act where
 kind:Int
 n:Int
 m:Int
 color:Col
 text:List UInt8
deriving DecidableEq
def A2 (x:Act):List Value:=[.int .i64 x.kind,.int .i64 x.n,.int .i64 x.m]++(R1 x.color++([.string (bs x.text)]))
def ZZ:Act:=⟨0,0,0,ZU,[]⟩
abbrev jZ:List Act:=[]
abbrev jz:=List Act
abbrev jj:=List (List Cel)
abbrev jk:=List Cel
abbrev kQ:=Option Addr
theorem A2.inj (x y:Act) (h:A2 x=A2 y):x=y:=by
 rcases x with ⟨_,_,_,⟨_,_⟩,_⟩
 simp_all[A2,R1]
structure Lks where
 f:Nat→Int
def Lks.put (x:Lks) (k:Nat) (v:Int):Lks:=⟨fun i=>if i=k then v else x.f i⟩
def G3j:List Atr:=[⟨1,1,22⟩,⟨2,2,22⟩,⟨4,3,23⟩,⟨8,5,25⟩,⟨16,7,27⟩,⟨32,8,28⟩,⟨64,9,29⟩,⟨128,53,55⟩]
def E3y:List Spn:=[⟨768,879⟩,⟨1155,1161⟩,⟨1425,1469⟩,⟨1552,1562⟩,⟨1611,1631⟩,⟨6832,6911⟩,⟨7616,7679⟩,⟨8203,8207⟩,⟨8400,8447⟩,⟨65024,65039⟩,⟨65056,65071⟩]
def F2z:List Spn:=[⟨4352,4447⟩,⟨11904,12350⟩,⟨12353,19903⟩,⟨19968,42191⟩,⟨44032,55203⟩,⟨63744,64255⟩,⟨65072,65135⟩,⟨65280,65376⟩,⟨65504,65510⟩,⟨127744,128591⟩,⟨128640,128767⟩,⟨129280,129535⟩,⟨131072,262141⟩]
abbrev M1:Pers:=F8f 4 C2i
abbrev P0:Pers:=sl C7a (some ⟨2,0,none⟩) G3j
abbrev A1o:Pers:=sl C0 (some ⟨0,0,none⟩) E3y
abbrev A1p:Pers:=sl C0 (some ⟨1,0,none⟩) F2z
theorem C2m:ApTy prog 97 5 1 1:=⟨by rfl,by rfl,rfl⟩
theorem D5t:ApTy prog 236 3 1 8:=⟨by rfl,by rfl,rfl⟩
theorem D9w:EqT prog 51 A2:=EqT.of 20 Z oki oki (fun _ _=>by kernel_rfl) A2.inj
theorem A6y:SlTy prog 97 5 1:=⟨by rfl,by rfl⟩
theorem I0:SlTy prog 236 3 1:=⟨by rfl,by rfl⟩
theorem cE:Ty prog 3 1 false:=⟨by rfl⟩
theorem ty5:Ty prog 5 1 false:=⟨by rfl⟩
theorem ty9:Ty prog 9 1 false:=⟨by rfl⟩
theorem C1g:Ty prog 236 1 false:=⟨by rfl⟩
def B4b (cp:Int):Bool :=
 (((decide ((0:Int)≤cp))&&(decide (cp≤1114111)))&&(!decide ((cp / 2048)=27)))
theorem D1q {R:Bool} (hR:B4b cp=R):J7 prog 110 [iv cp] [] (bv R):=by
 refine cD Tryz.func110 fun X hX hr hD=>?_
 rw[B4b]at hR
 refine k_ ?_
 refine ie (k_ ?_)
 refine zid 3 6 5 8 (decide (cp≤1114111)) (fun d b=>?_) ?_
 ·exact bP 3 8 Z (A1 (I1 2 5 8 d bX bU Z Z Z Z Z))
 refine k_ ?_
 refine zia 4 1 9 13 (!decide ((cp / 2048)=27)) (fun a=>?_) ?_
 ·have e:=bV a
  refine k_ ?_
  exact ix Z (A4c (c:=cp / 2048) Z Z Z ozw jW) (bP 2 13 rfl (A1 (I1 4 9 _ a bX bU Z Z Z Z Z)))
 refine bP 1 2 Z ?_
 subst hR
 refine k_ ?_
 exact F7 hr hD
def O0 (a:Nat) (b:Int):UInt8 :=
 (by8 (cH .or .u8 128 ((by8 (cH .and .u8 ((by8 (IntKind.u8.wrap (Int.fdiv b (2 ^ (min ((a:Int)).toNat 64))))).toNat:Int) 63)).toNat:Int)))
theorem B1t {a:Nat} {c:Int} {b:Nat} {R:UInt8} (hR:O0 a c=R):cM prog 198 [iv (a:Int),pt b 0] [bx b [iv c] 3] [] (Unit) (fun x=>.int .u8 (R.toNat:Int)) (fun x=>[bx b [iv c] 3]) (fun x=>[]):=by
 refine cD Tryz.func198 fun X hX hr hD=>?_
 rw[O0]at hR
 refine k_ ?_
 refine ie (k_ ?_)
 refine ix Z (A4c Z Z Z opx Z) (ix Z (G1 (v:=.int .u8 (IntKind.u8.wrap (Int.fdiv c (2 ^ (min ((a:Int)).toNat 64))))) (J8.pure Z) (B4p)) (ix Z (G1 (v:=.int .u8 (cH .and .u8 ((by8 (IntKind.u8.wrap (Int.fdiv c (2 ^ (min ((a:Int)).toNat 64))))).toNat:Int) 63)) (J8.pure Z) (D0f)) (ix Z (G1 (v:=.int .u8 (cH .or .u8 128 ((by8 (cH .and .u8 ((by8 (IntKind.u8.wrap (Int.fdiv c (2 ^ (min ((a:Int)).toNat 64))))).toNat:Int) 63)).toNat:Int))) (J8.pure Z) (D0f)) (bP 1 3 Z ?_))))
 subst hR
 exact ie (A8 (ci ()))
def B1o (a:Int):List UInt8 :=
 (bif (decide (a<128)) then ([(by8 (IntKind.u8.wrap a))]:List UInt8) else (bif (decide (a<2048)) then ([(by8 (cH .or .u8 192 ((by8 (IntKind.u8.wrap (a / 64))).toNat:Int))),(O0 0 a)]:List UInt8) else (bif (decide (a<65536)) then ([(by8 (cH .or .u8 224 ((by8 (IntKind.u8.wrap (a / 4096))).toNat:Int))),(O0 6 a),(O0 0 a)]:List UInt8) else ([(by8 (cH .or .u8 240 ((by8 (IntKind.u8.wrap (a / 262144))).toNat:Int))),(O0 12 a),(O0 6 a),(O0 0 a)]:List UInt8))))
def B6n (cp:Int):List UInt8 :=
 (bif (!(B4b cp)) then B1o 65533 else B1o cp)
theorem C3t (cp:Int):(B6n cp).length≤4:=by
 unfold B6n B1o
 grind
theorem E0n {R:List UInt8} (hR:B6n cp=R):J7 prog 152 [iv cp] [] (sv R):=by
 refine cD Tryz.func152 fun X hX hr hD=>?_
 rw[B6n]at hR
 refine k_ ?_
 refine cI 2 [] (fun b=>[(1,pt b 0)]) (fun _=>[iv cp]) 3 fun b=>?_
 refine ie (A7i (fun a=>(B1o a=R,[(1,pt b 0)],[bx b [iv a] 3],[])) ?_ ?_)
 ·refine k_ ?_
  refine zv Z (D1q Z) ?_
  refine k_ ?_
  refine ie ?_
  refine zjb Z hR ?_ ?_<;>intro hR g
  ·refine k_ ?_
   refine zru 1 [0] [] 0 (bx b [iv 65533] 3) ?_
   refine A1 ?_
   exact S6 _ hR bU bX
  refine A4 ?_
  exact S6 _ hR bU bX
 intro a
 rintro hR
 rw[B1o]at hR
 refine kc_ ?_
 refine ip' 2 0 [(3,.func (.func 198) #[] #[pt b 0])] ?_
 refine k_ ?_
 refine ie ?_
 refine cK Z hR ?_ ?_<;>intro hR j f
 ·refine kc_ ?_
  refine cB 1 [0] 11 Z (ix Z (G1 (J8.pure Z) (B4p)) (it Z (B0 (c:=cJ) (xs:=[(by8 (IntKind.u8.wrap a))]) A6y) fun i=>(ix Z (C5j Tryz.underlying9 Tryz.underlying97 Z Z (A5 0 Z) Z oki) ?_)))
  refine k_ ?_
  subst hR
  exact q8
 refine k_ ?_
 refine ie ?_
 refine cK Z hR ?_ ?_<;>intro hR l e
 ·refine zS [(9,[0])] ?_
  refine hqV [4] [(22,.func (.func 198) #[] #[pt b 0])] ?_
  refine gl 0 [0] Z (B8 cE Z Z 0) ?_
  refine gk 1 Z (A4c (c:=a / 64) Z Z Z ozw jW) ?_
  refine gk 2 Z (G1 (J8.pure Z) (B4p)) ?_
  refine gk 3 Z (G1 (J8.pure Z) (D0f)) ?_
  refine gc 5 [0] Z (B1t Z) fun _=>?_
  refine go 6 [0] Z (B0 (c:=cJ) (xs:=[(by8 (cH .or .u8 192 ((by8 (IntKind.u8.wrap (a / 64))).toNat:Int))),(O0 0 a)]) A6y Z Z Z oki) fun h=>?_
  refine go 7 [0] Z (Det.tri (J8.det (C5j Tryz.underlying9 Tryz.underlying97 Z Z (A5 0 Z) Z oki))) fun _=>?_
  refine hq1 [8] 2 Z ?_
  refine ge ?_
  subst hR
  refine A8 ?_
  exact F7 hr hD
 refine k_ ?_
 refine ie ?_
 refine cK Z hR ?_ ?_<;>intro hR k d
 ·refine zS [(11,[0])] ?_
  refine hqV [4,6] [(33,.func (.func 198) #[] #[pt b 0]),(35,.func (.func 198) #[] #[pt b 0])] ?_
  refine gl 0 [0] Z (B8 cE Z Z 0) ?_
  refine gk 1 Z (A4c (c:=a / 4096) Z Z Z ozw jW) ?_
  refine gk 2 Z (G1 (J8.pure Z) (B4p)) ?_
  refine gk 3 Z (G1 (J8.pure Z) (D0f)) ?_
  refine gc 5 [0] Z (B1t Z) fun _=>?_
  refine gc 7 [0] Z (B1t Z) fun _=>?_
  refine go 8 [0] Z (B0 (c:=cJ) (xs:=[(by8 (cH .or .u8 224 ((by8 (IntKind.u8.wrap (a / 4096))).toNat:Int))),(O0 6 a),(O0 0 a)]) A6y Z Z Z oki) fun m=>?_
  refine go 9 [0] Z (Det.tri (J8.det (C5j Tryz.underlying9 Tryz.underlying97 Z Z (A5 0 Z) Z oki))) fun _=>?_
  refine hq1 [10] 2 Z ?_
  refine ge ?_
  subst hR
  refine A8 ?_
  exact F7 hr hD
 refine A4 (nx ?_)
 refine zS [(13,[0])] ?_
 refine hqV [4,6,8] [(43,.func (.func 198) #[] #[pt b 0]),(45,.func (.func 198) #[] #[pt b 0]),(47,.func (.func 198) #[] #[pt b 0])] ?_
 refine gl 0 [0] Z (B8 cE Z Z 0) ?_
 refine gk 1 Z (A4c (c:=a / 262144) Z Z Z ozw jW) ?_
 refine gk 2 Z (G1 (J8.pure Z) (B4p)) ?_
 refine gk 3 Z (G1 (J8.pure Z) (D0f)) ?_
 refine gc 5 [0] Z (B1t Z) fun _=>?_
 refine gc 7 [0] Z (B1t Z) fun _=>?_
 refine gc 9 [0] Z (B1t Z) fun _=>?_
 refine go 10 [0] Z (B0 (c:=cJ) (xs:=[(by8 (cH .or .u8 240 ((by8 (IntKind.u8.wrap (a / 262144))).toNat:Int))),(O0 12 a),(O0 6 a),(O0 0 a)]) A6y Z Z Z oki) fun n=>?_
 refine go 11 [0] Z (Det.tri (J8.det (C5j Tryz.underlying9 Tryz.underlying97 Z Z (A5 0 Z) Z oki))) fun _=>?_
 refine hq1 [12] 2 Z ?_
 refine ge ?_
 subst hR
 refine A8 ?_
 exact F7 hr hD
def J9 (a:List UInt8) (s:List UInt8):List UInt8×Int :=
 ((a++s),(s.length:Int))
theorem A2d (a s:List UInt8):(J9 a s).1.length=a.length+s.length:=by simp [J9]
theorem ofv (h:p:=by first|omega|(simp +zetaDelta only [List.length_cons,List.length_nil,List.length_append,List.length_take,List.length_drop];omega)):p:=h
theorem A7b {a:List UInt8} {e:Nat} {b:Option Addr} {bbufr:VR} {R:List UInt8×Int} (hR:J9 a s=R) (d:b=none∨b=some ⟨e,0,none⟩:=by exact bW) (c:bT 1 a.length bbufr:=by exact bW) (hb:a.length+s.length≤140737488355328:=by exact bW):cM prog 202 [pt e 0,sv s] (bx e [.pointer b,.slice (va bbufr.q) a.length bbufr.k] 295::((vo cJ 5 bbufr a)++([]))) [] ({r:VR // bT 1 R.1.length r}) (fun x=>.tuple #[iv R.2,.nilIface]) (fun x=>(bx e [pt e 0,.slice (va x.1.q) R.1.length x.1.k] 295::((vo cJ 5 x.1 R.1)++([])))) (fun x=>[]):=by
 refine cD Tryz.func202 fun X hX hr hD=>?_
 rw[J9]at hR
 refine k_ ?_
 refine ie (k_ ?_)
 refine zc Z (E7b e (.slice (va bbufr.q) a.length bbufr.k) b d) fun _=>?_
 refine ie (k_ ?_)
 refine it Z (B4z (r:=bbufr) (xs:=a) (s:=s) (pre:=[bx e [pt e 0,.slice (va bbufr.q) a.length bbufr.k] 295]) (post:=[]) C2m oki Tryz.underlying9 Z Z Z Z Z Z Z c ofv) fun ⟨g,f⟩=>(zru 3 [0] [] 0 (bx e [pt e 0,.slice (va g.q) ((a++s).length) g.k] 295) ?_)
 refine ie (k_ ?_)
 subst hR
 exact ie (A8 (cy ⟨g,f⟩))
def A9s:List Int→Nat→List UInt8→List UInt8
 | [],t8,bbuf=>bbuf
 | hd_l0::tl_l0,t8,bbuf=>(B5 (B6n hd_l0) fun (a:List UInt8)=>(B5 (J9 bbuf a) fun (b:List UInt8×Int)=>A9s tl_l0 (t8+1) b.1))
def C3y (a:List Int):List UInt8 :=
 A9s a 0 ([]:List UInt8)
theorem opv (h:p:=by first|rfl|(simp;done)|(simp +zetaDelta;done)):p:=h
theorem odi (h:p:=by first|omega|(simp +zetaDelta only [List.length_append];omega)):p:=h
theorem olr (h:p:=by (try dsimp only);omega):p:=h
theorem E7u {a:List Int} {g:Option Addr} {codesk:Nat} {R:List UInt8} (hR:C3y a=R) (r:a.length≤9223372036854775807:=by exact bW) (n:a.length≤codesk:=by exact bW) (hp:a.length≤1000000000:=by exact bW):J7 prog 215 [.slice g a.length codesk] [sl H0 g a] (sv R):=by
 refine cD Tryz.func215 fun X hX hr hD=>?_
 rw[C3y]at hR
 refine k_ ?_
 refine ie (k_ ?_)
 refine cI 1 [] (fun j=>[(3,pt j 0)]) _ _ fun j=>(ie (A3 (bS Z (pp3 3 6 7 8 Z (ie (A9 (Y9 (I8 [_,_] [1,0] 2 Z ozw Z [[bx j [.pointer none,.slice none 0 0] 295],vo cJ 5 VR.nil []] Z opv) ?_)))))))
 refine A1y (un fun i=>un fun b=>un fun e d=>(i≤a.length∧A9s (a.drop i) i e=R∧(b=none∨b=some ⟨j,0,none⟩)∧bT 1 e.length d∧e.length≤4 * i,[(3,_),(6,_),(7,iv _),(8,iv i)],(bx j [.pointer b,.slice (va d.q) e.length d.k] _::((vo cJ 5 d e)++([]))),_,a.length - i)) (0,_,_,_) ⟨opx,hR,(.inl Z),bT.nil,oom⟩ bU A7.refl ?_
 rintro ⟨i,b,e,d⟩ ⟨a0,hR,h,f,w⟩
 have:=bT.le f
 refine k_ ?_
 refine ie (A3 (G3 Z (fun t=>?_) (fun t=>?_)))
 ·have p:=bV t
  rw [A1a 0 (show i<a.length by omega)] at hR;rw[A9s]at hR
  refine k_ ?_
  refine H8 0 Z opx fun a4 l=>(ix Z (E7 I0 Z Z l Z i) (ix Z (B6 cE Z Z (F8 (sz:=1) l jJ 0 Z (gd 0 opx)) Z) (k_ ?_)))
  refine ie (k_ ?_)
  obtain ⟨z,s,hR⟩:=C3 hR
  refine zv Z (E0n s) ?_
  have:=C3t (a.getD i 0);try rw [s] at this
  obtain ⟨y2,o,hR⟩:=C3 hR
  refine zc Z (A7b o h f (by omega)) fun ⟨y,m⟩=>?_
  have:=A2d e z;try rw [o] at this
  refine A1 (k_ ?_)
  refine ix Z B1 (k_ ?_)
  exact A1 (z0 (_,_,_,y) ⟨opx,hR,(.inr Z),m,odi⟩)
 have p:=bV t
 rw [A1b p] at hR;rw[A9s]at hR
 refine k_ ?_
 refine zc Z (E6c j (.pointer b) e d f) fun _=>?_
 refine k_ ?_
 subst hR
 exact q8
def L7 (b:UInt8):Int :=
 (bif ((decide ((240:Int)≤(b.toNat:Int)))&&(decide ((b.toNat:Int)≤244))) then 4 else (bif ((decide ((224:Int)≤(b.toNat:Int)))&&(decide ((b.toNat:Int)<240))) then 3 else (bif ((decide ((194:Int)≤(b.toNat:Int)))&&(decide ((b.toNat:Int)<224))) then 2 else (bif (decide ((b.toNat:Int)<128)) then 1 else 0))))
theorem E2w {R:Int} (hR:L7 b=R):J7 prog 275 [.int .u8 (b.toNat:Int)] [] (iv R):=by
 refine cD Tryz.func275 fun X hX hr hD=>?_
 rw[L7]at hR
 refine k_ ?_
 refine ie (k_ ?_)
 refine zid 3 1 6 9 (decide ((b.toNat:Int)≤244)) (fun d a=>?_) ?_
 ·exact bP 3 9 Z (A1 (I1 2 6 9 d bX bU Z Z Z Z Z))
 refine k_ ?_
 refine zja Z hR ?_ ?_<;>intro hR m g
 ·refine k_ ?_
  refine A1 (k_ ?_)
  refine A1 (k_ ?_)
  refine A1 (k_ ?_)
  refine ie (k_ ?_)
  subst hR
  exact q8
 refine k_ ?_
 refine zid 3 1 13 16 (decide ((b.toNat:Int)<240)) (fun l h=>?_) ?_
 ·exact bP 3 16 Z (A1 (I1 2 13 _ l bX bU Z Z Z Z Z))
 refine k_ ?_
 refine zja Z hR ?_ ?_<;>intro hR o j
 ·refine k_ ?_
  refine A1 (k_ ?_)
  refine A1 (k_ ?_)
  refine ie (k_ ?_)
  subst hR
  exact q8
 refine k_ ?_
 refine zid 3 1 20 23 (decide ((b.toNat:Int)<224)) (fun i k=>?_) ?_
 ·exact bP 3 23 Z (A1 (I1 2 20 _ i bX bU Z Z Z Z Z))
 refine k_ ?_
 refine zja Z hR ?_ ?_<;>intro hR n e
 ·refine k_ ?_
  refine A1 (k_ ?_)
  refine ie (k_ ?_)
  subst hR
  exact q8
 refine k_ ?_
 refine ie ?_
 refine cK Z hR ?_ ?_<;>intro hR p f
 ·refine k_ ?_
  refine ie (k_ ?_)
  subst hR
  exact q8
 refine k_ ?_
 subst hR
 exact q8
def A6n (b:UInt8):UInt8×UInt8 :=
 (bif (decide ((b.toNat:Int)=224)) then ((160:UInt8),(191:UInt8)) else (bif (decide ((b.toNat:Int)=237)) then ((128:UInt8),(159:UInt8)) else (bif (decide ((b.toNat:Int)=240)) then ((144:UInt8),(191:UInt8)) else (bif (decide ((b.toNat:Int)=244)) then ((128:UInt8),(143:UInt8)) else ((128:UInt8),(191:UInt8))))))
theorem E1y {R:UInt8×UInt8} (hR:A6n b=R):J7 prog 276 [.int .u8 (b.toNat:Int)] [] (.tuple #[.int .u8 (R.1.toNat:Int),.int .u8 (R.2.toNat:Int)]):=by
 refine cD Tryz.func276 fun X hX hr hD=>?_
 rw[A6n]at hR
 refine k_ ?_
 refine ie ?_
 refine k_ ?_
 refine ie ?_
 refine k_ ?_
 refine ie ?_
 refine cK Z hR ?_ ?_<;>intro hR h d
 ·refine k_ ?_
  subst hR
  refine ie (A8 ?_)
  exact B6u hr hD
 refine k_ ?_
 refine ie ?_
 refine cK Z hR ?_ ?_<;>intro hR f e
 ·refine k_ ?_
  subst hR
  refine ie (A8 ?_)
  exact B6u hr hD
 refine k_ ?_
 refine ie ?_
 refine cK Z hR ?_ ?_<;>intro hR i a
 ·refine k_ ?_
  subst hR
  refine ie (A8 ?_)
  exact B6u hr hD
 refine k_ ?_
 refine ie ?_
 refine cK Z hR ?_ ?_<;>intro hR g c
 ·refine k_ ?_
  subst hR
  refine ie (A8 ?_)
  exact B6u hr hD
 refine k_ ?_
 subst hR
 refine ie (A8 ?_)
 exact B6u hr hD
def A2l (p:List UInt8):List UInt8→UInt8→UInt8→Nat→Int
 | [],low,high,t26=>(bif (decide ((p.length:Int)<(L7 (p.getD 0 0)))) then 1 else 2)
 | hd_l0::tl_l0,low,high,t26=>(bif ((decide ((hd_l0.toNat:Int)<(low.toNat:Int)))||(decide ((high.toNat:Int)<(hd_l0.toNat:Int)))) then 0 else A2l p tl_l0 (128:UInt8) (191:UInt8) (t26+1))
def V8 (p:List UInt8):Int :=
 (bif (decide ((L7 (p.getD 0 0))<(p.length:Int))) then 0 else (B5 (A6n (p.getD 0 0)) fun (a:UInt8×UInt8)=>A2l p (p.drop 1) a.1 a.2 0))
theorem D4w {p:List UInt8} (h:V8 p=1):p.length≤4:=by grind[V8,L7]
theorem ofx (h:p:=by first|rfl|omega|(simp +zetaDelta only [List.length_take,List.length_drop];omega)|(simp;done)):p:=h
theorem C7e {p:List UInt8} {e:Option Addr} {R:Int} (hR:V8 p=R) (t:p.length≤9223372036854775807:=by exact bW) (k:p.length≤pk:=by exact bW) (u:1≤p.length:=by exact bW):J7 prog 267 [.slice e p.length pk] [sl cJ e p] (iv R):=by
 refine cD Tryz.func267 fun X hX hr hD=>?_
 rw[V8]at hR
 refine k_ ?_
 refine ie ?_
 refine k_ ?_
 refine H8 0 Z opx fun y b=>(ix Z (E7 A6y Z Z b Z 0) (ix Z (B6 ty5 Z Z (F8 (sz:=1) b jJ 0 Z (gd 0 opx)) Z) ?_))
 refine zv Z (E2w Z) ?_
 refine k_ ?_
 refine ie ?_
 refine k_ ?_
 refine ie ?_
 refine cK Z hR ?_ ?_<;>intro hR v n
 ·refine k_ ?_
  subst hR
  exact q8
 refine k_ ?_
 refine ix Z (E7 A6y Z Z b Z 0) (ix Z (B6 ty5 Z Z (F8 (sz:=1) b jJ 0 Z (gd 0 opx)) Z) ?_)
 obtain ⟨i,g,hR⟩:=C3 hR
 refine zv Z (E1y g) ?_
 refine k_ ?_
 refine ie ?_
 refine k_ ?_
 refine D4 (C9o (sz:=1) (A5 0 Z) 1 _ jJ opx opx) (ix Z (B2m (n':=(p.drop 1).length) A6y Z Z 1 _ _ (A1l Z Z) A2b A2b opx opx opx ofx Z) ?_)
 have:=@List.length_drop _ 1 p
 refine k_ ?_
 refine ie (A9 ?_)
 refine A1y (un fun low=>un fun high a=>(a≤(p.drop 1).length∧A2l p ((p.drop 1).drop a) low high a=R,[(0,_),(3,_),(4,.int _ low.toNat),(5,.int _ high.toNat),(24,_),(25,iv _),(26,iv a)],_,_,(p.drop 1).length - a)) (_,_,0) ⟨opx,hR⟩ bU A7.refl ?_
 rintro ⟨low,high,a⟩ ⟨q,hR⟩
 refine k_ ?_
 refine ie (A3 (G3 Z (fun h=>?_) (fun h=>?_)))
 ·have f:=bV h
  rw [A1a 0 (show a<(p.drop 1).length by omega)] at hR;rw[A2l]at hR
  refine k_ ?_
  refine H8 0 Z opx fun w d=>(ix Z (E7 A6y Z Z d Z a) (ix Z (B6 ty5 Z Z (F8 (sz:=1) d jJ 0 Z (gd 0 opx)) Z) ?_))
  refine k_ ?_
  refine ie ?_
  refine k_ ?_
  refine zir 4 0 33 37 (decide (high.toNat<(((p.drop 1).getD a 0).toNat:Int))) (fun o r=>?_) ?_
  ·refine bP 4 37 Z ?_
   exact zai 2 33 _ o
  refine ie ?_
  refine zjo Z hR ?_ ?_<;>intro hR x s
  ·refine k_ ?_
   subst hR
   exact q8
  refine k_ ?_
  refine A1 ?_
  refine k_ ?_
  refine ix Z B1 ?_
  refine k_ ?_
  refine A1 ?_
  exact z0 (_,_,_) ⟨opx,hR⟩
 have f:=bV h
 rw [A1b f] at hR;rw[A2l]at hR
 refine k_ ?_
 refine ie ?_
 refine cK Z hR ?_ ?_<;>intro hR m j
 ·refine k_ ?_
  subst hR
  exact q8
 refine k_ ?_
 subst hR
 exact q8
def A5o (pending:List UInt8):Bool :=
 ((decide ((pending.length:Int)=0))||(decide ((V8 pending)=1)))
theorem D2g {R:Bool} (hR:A5o pending=R) (b:pending.length≤9223372036854775807:=by exact bW) (a:pending.length≤pendingk:=by exact bW):J7 prog 266 [.slice pendingq pending.length pendingk] [sl cJ pendingq pending] (bv R):=by
 refine cD Tryz.func266 fun X hX hr hD=>?_
 rw[A5o]at hR
 refine k_ ?_
 refine ie (k_ ?_)
 refine zir 4 1 6 10 (decide ((V8 pending)=1)) (fun d c=>?_) ?_
 ·refine k_ ?_
  refine zv Z (C7e Z) ?_
  exact bP 2 10 Z (zai 4 6 _ d)
 refine bP 1 2 Z ?_
 subst hR
 refine k_ ?_
 exact F7 hr hD
def A7o:List UInt8→Int→Nat→Int
 | [],cp1,t22=>cp1
 | hd_l0::tl_l0,cp1,t22=>A7o tl_l0 (cH .or .i64 (IntKind.i64.wrap (cp1 * 64)) ((by8 (cH .and .u8 (hd_l0.toNat:Int) 63)).toNat:Int)) (t22+1)
def A9h (p:List UInt8) (cp:Int):Int :=
 A7o (p.drop 1) cp 0
def A2v (p:List UInt8):Int :=
 (bif (decide ((1:Int)<(p.length:Int))) then A9h p (cH .and .i64 ((p.getD 0 0).toNat:Int) (Int.fdiv (255:Int) (2 ^ (min (((p.length:Int)+1)).toNat 64)))) else A9h p ((p.getD 0 0).toNat:Int))
theorem D4y {p:List UInt8} {f:Option Addr} {R:Int} (hR:A2v p=R) (k:p.length≤9223372036854775807:=by exact bW) (i:p.length≤pk:=by exact bW) (n:1≤p.length:=by exact bW) (m:p.length≤1000000:=by exact bW):J7 prog 268 [.slice f p.length pk] [sl cJ f p] (iv R):=by
 refine cD Tryz.func268 fun X hX hr hD=>?_
 rw[A2v]at hR
 refine k_ ?_
 refine ie (k_ ?_)
 refine H8 0 Z opx fun r d=>(ix Z (E7 A6y Z Z d Z 0) (ix Z (B6 ty5 Z Z (F8 (sz:=1) d jJ 0 Z (gd 0 opx)) Z) (ix Z (B4i Tryz.underlying3 oki Z Z (A9c _)) (bP 1 3 Z (ie (A7i (fun cp=>(A9h p cp=R,[(0,.slice f p.length pk),(3,iv cp)],[],[sl cJ f p])) ?_ ?_))))))
 ·refine k_ ?_
  refine ie ?_
  refine cK Z hR ?_ ?_<;>intro hR o j
  ·refine k_ ?_
   refine ix Z B1 (ix Z (A4c Z Z Z opx Z) (k_ ?_))
   exact A1 (S6 _ hR bU A7.refl)
  exact A4 (S6 _ hR bU A7.refl)
 intro cp
 rintro hR
 rw[A9h]at hR
 refine k_ ?_
 refine D4 (C9o (sz:=1) (A5 0 Z) 1 pk jJ opx opx) (ix Z (B2m (n':=(p.drop 1).length) A6y Z Z 1 _ _ (A1l Z Z) A2b A2b opx opx opx ofx Z) ?_)
 have:=@List.length_drop _ 1 p
 refine k_ ?_
 refine ie (A9 (A1y (un fun b a=>(a≤(p.drop 1).length∧A7o ((p.drop 1).drop a) b a=R,[(3,iv b),(20,_),(21,iv _),(22,iv a)],_,[_,_],(p.drop 1).length - a)) (_,0) ⟨opx,hR⟩ bU A7.refl ?_))
 rintro ⟨b,a⟩ ⟨l,hR⟩
 refine k_ ?_
 refine ie (A3 (G3 Z (fun h=>?_) (fun h=>?_)))
 ·have g:=bV h
  rw [A1a 0 (show a<(p.drop 1).length by omega)] at hR;rw[A7o]at hR
  refine k_ ?_
  refine H8 0 Z opx fun q e=>(ix Z (E7 A6y Z Z e Z a) (ix Z (B6 ty5 Z Z (F8 (sz:=1) e jJ 0 Z (gd 0 opx)) Z) (k_ ?_)))
  refine ie (k_ ?_)
  refine ix Z (E1u (c:=(IntKind.i64.wrap (b * 64))) Z Z Z ozw (by simp [IntKind.bits])) (bP 1 28 rfl (ix rfl (G1 (J8.pure rfl) (D0f)) (ix rfl (B4i Tryz.underlying3 oki rfl rfl (A9c _)) (bP 2 3 rfl (A1 (k_ ?_))))))
  refine ix rfl B1 (k_ ?_)
  exact A1 (z0 (_,_) ⟨opx,hR⟩)
 have g:=bV h
 rw [A1b g] at hR;rw[A7o]at hR
 refine k_ ?_
 subst hR
 exact q8
def C1y:Bool :=
 true
theorem E3l {R:Bool} (hR:C1y=R):J7 prog 266 [.slice none 0 0] [] (bv R):=by
 refine cD Tryz.func266 fun X hX hr hD=>?_
 rw[C1y]at hR
 refine k_ ?_
 refine ie (k_ ?_)
 subst hR
 exact q8
def A4h (b:UInt8):List UInt8×List Int :=
 (bif (decide ((V8 (([]:List UInt8)++([b]:List UInt8)))=2)) then (([]:List UInt8),([(A2v (([]:List UInt8)++([b]:List UInt8)))]:List Int)) else (bif (decide ((V8 (([]:List UInt8)++([b]:List UInt8)))=1)) then ((([]:List UInt8)++([b]:List UInt8)),([]:List Int)) else (([]:List UInt8),([65533]:List Int))))
def A8u (b:UInt8):List UInt8×List Int :=
 (bif (!C1y) then A4h b else A4h b)
theorem C5y (b:UInt8):(A8u b).1.length≤4∧(A8u b).2.length≤1:=by
 have a:(A4h b).1.length≤4∧(A4h b).2.length≤1:=by
  unfold A4h;grind
 grind[A8u]
theorem E5s (hR:A8u b=R) (j:([]:List Unit).length≤1000:=by exact bW):cM prog 255 [.slice none 0 0,.int .u8 (b.toNat:Int)] [] [] ({t:Option Addr×Nat // R.1.length≤t.2∧R.1.length≤9223372036854775807}×{t:Option Addr×Nat // R.2.length≤t.2∧R.2.length≤9223372036854775807}) (fun x=>.tuple #[.slice x.1.1.1 R.1.length x.1.1.2,.slice x.2.1.1 R.2.length x.2.1.2]) (fun x=>[]) (fun x=>[sl cJ x.1.1.1 R.1,sl H0 x.2.1.1 R.2]):=by
 refine cD Tryz.func255 fun X hX hr hD=>?_
 rw[A8u]at hR
 refine k_ ?_
 refine ie (A7i (fun (_:Unit)=>(A4h b=R,[(0,.slice none 0 0),(1,.int .u8 b.toNat)],[],[])) ?_ ?_)
 ·refine k_ ?_
  refine zv Z (E3l Z) ?_
  refine bP 1 9 Z (ie ?_)
  refine zjb Z hR ?_ ?_<;>clear hR<;>intro hR m
  ·refine k_ ?_
   refine A1 ?_
   exact S6 () hR bU bX
  refine A4 ?_
  exact S6 () hR bU bX
 intro _
 rintro hR
 rw[A4h]at hR
 refine k_ ?_
 refine ix Z (B2m A6y Z Z 0 0 0 A2b (A1l Z Z) (A1l Z Z) ozw ozw ozw (n':=0) Z Z) ?_
 refine k_ ?_
 refine it Z (B0 (c:=cJ) (xs:=[b]) A6y Z Z Z oki) fun l=>?_
 have:([b]:List UInt8).length=1:=rfl
 refine it Z (Q7 (f:=cJ) (r:=VR.nil) (xs:=jx) (ys:=([b]:List UInt8)) (pre:=[]) (post:=[]) C2m jJ jJ Z Z Z Z Z Z Z Z Z (A5 0 Z) bT.nil ofv ofv) fun ⟨d,a⟩=>?_
 have:=bT.le a
 have:=bT.cap a
 refine P2 _ _ a opv ?_
 refine k_ ?_
 refine ie ?_
 refine k_ ?_
 refine zv Z (C7e Z) ?_
 refine ie ?_
 refine k_ ?_
 refine ie ?_
 refine cK Z hR ?_ ?_<;>clear hR<;>intro hR o h
 ·refine k_ ?_
  refine zv Z (D4y Z) ?_
  refine it Z (B0 (c:=H0) (xs:=([(A2v (jx++([b]:List UInt8)))])) I0 Z Z Z oki) fun e=>?_
  refine k_ ?_
  subst hR
  refine ie (A8 ?_)
  exact cy ((zq _ 0),(zq _ 1))
 refine k_ ?_
 refine ie ?_
 refine cK Z hR ?_ ?_<;>clear hR<;>intro hR n g
 ·refine k_ ?_
  subst hR
  refine ie (A8 ?_)
  exact cy ((zq _ _),(zq _ 0))
 refine k_ ?_
 refine it Z (B0 (c:=H0) (xs:=[65533]) I0 Z Z Z oki) fun i=>?_
 refine k_ ?_
 subst hR
 refine ie (A8 ?_)
 exact cy ((zq _ 0),(zq _ 1))
def A5s (b:UInt8) (a:List UInt8):List UInt8×List Int :=
 (bif (decide ((V8 (a++([b]:List UInt8)))=2)) then (([]:List UInt8),([(A2v (a++([b]:List UInt8)))]:List Int)) else (bif (decide ((V8 (a++([b]:List UInt8)))=1)) then ((a++([b]:List UInt8)),([]:List Int)) else (bif (decide ((a.length:Int)=0)) then (([]:List UInt8),([65533]:List Int)) else ((A8u b).1,(([65533]:List Int)++(A8u b).2)))))
def N1 (pending:List UInt8) (b:UInt8):List UInt8×List Int :=
 (bif (!(A5o pending)) then A5s b ([]:List UInt8) else A5s b pending)
theorem C8p (p:List UInt8) (b:UInt8):(N1 p b).1.length≤4∧(N1 p b).2.length≤2:=by
 have a:∀ q,(A5s b q).1.length≤4∧(A5s b q).2.length≤2:=by
  intro q;unfold A5s;simp only [Bool.cond_eq_ite];grind[C5y,D4w]
 grind[N1]
theorem okl (h:p:=by first|omega|(simp +zetaDelta only [List.length_take,List.length_drop,List.length_append,List.length_cons,List.length_nil,List.length_set,List.length_map];omega)|decide):p:=h
theorem osj (h:p:=by first|omega|(simp +zetaDelta only [List.length_nil];omega)):p:=h
theorem odv (h:p:=by rfl):p:=h
theorem E9b (hR:N1 pending b=R) (j:pending.length≤9223372036854775807:=by exact bW) (i:pending.length≤pendingk:=by exact bW) (hp:pending.length≤1000:=by exact bW):cM prog 255 [.slice pendingq pending.length pendingk,.int .u8 (b.toNat:Int)] [] [sl cJ pendingq pending] ({t:Option Addr×Nat // R.1.length≤t.2∧R.1.length≤9223372036854775807}×{t:Option Addr×Nat // R.2.length≤t.2∧R.2.length≤9223372036854775807}) (fun x=>.tuple #[.slice x.1.1.1 R.1.length x.1.1.2,.slice x.2.1.1 R.2.length x.2.1.2]) (fun x=>[]) (fun x=>[sl cJ x.1.1.1 R.1,sl H0 x.2.1.1 R.2]):=by
 refine cD Tryz.func255 fun X hX hr hD=>?_
 rw[N1]at hR
 refine k_ ?_
 refine ie (A7i (un fun a=>un fun e d=>(A5s b a=R∧a.length≤d∧a.length≤9223372036854775807∧a.length≤1000,[(0,.slice e a.length d),(1,.int .u8 b.toNat)],[],[sl cJ pendingq pending,sl cJ e a])) ?_ ?_)
 ·refine k_ ?_
  refine zv Z (D2g Z) ?_
  refine k_ ?_
  refine ie ?_
  refine zjb Z hR ?_ ?_<;>intro hR h1
  ·refine k_ ?_
   refine A1 ?_
   exact S6 (_,_,0) ⟨hR,okl,okl,osj⟩ bU c9
  refine A4 ?_
  exact S6 (pending,pendingq,pendingk) ⟨hR,okl,okl,osj⟩ bU c9
 rintro ⟨a,e,d⟩
 rintro ⟨hR,g,h,hj⟩
 rw[A5s]at hR
 refine k_ ?_
 refine ix Z (B5n A6y Z Z _ _ (A1l Z Z) (A1l Z Z) opx opx (by first|rfl|omega) Z) ?_
 refine k_ ?_
 refine it Z (B0 (c:=cJ) (xs:=[b]) A6y Z Z Z oki) fun b2=>?_
 have:([b]:List UInt8).length=1:=rfl
 refine it Z (C3h (f:=cJ) (xs:=a) (ys:=([b]:List UInt8)) C2m jJ jJ Z Z Z Z Z Z opx opx odv (A5 2 Z) (A5 0 Z) ofv ofv) fun ⟨⟨q3,k4⟩,w⟩=>?_
 refine k_ ?_
 refine ie ?_
 refine k_ ?_
 refine zv Z (C7e Z) ?_
 refine ie ?_
 refine k_ ?_
 refine ie ?_
 refine cK Z hR ?_ ?_<;>intro hR h6 z
 ·refine k_ ?_
  refine zv Z (D4y Z) ?_
  refine it Z (B0 (c:=H0) (xs:=([(A2v (a++([b]:List UInt8)))])) I0 Z Z Z oki) fun b7=>?_
  have:([(A2v (a++([b]:List UInt8)))]:List Int).length=1:=rfl
  refine k_ ?_
  subst hR
  refine ie (A8 ?_)
  exact cy ((zq _ 0),(zq _ 1))
 refine k_ ?_
 refine ie ?_
 refine cK Z hR ?_ ?_<;>intro hR h8 a1
 ·refine k_ ?_
  subst hR
  refine ie (A8 ?_)
  exact cy ((zq _ _),(zq _ 0))
 refine k_ ?_
 refine ie ?_
 refine cK Z hR ?_ ?_<;>intro hR h9 a5
 ·refine k_ ?_
  refine it Z (B0 (c:=H0) (xs:=[65533]) I0 Z Z Z oki) fun m=>?_
  have:([65533]:List Int).length=1:=rfl
  refine k_ ?_
  subst hR
  refine ie (A8 ?_)
  exact cy ((zq _ 0),(zq _ 1))
 refine k_ ?_
 refine zc Z (E5s Z) fun ⟨⟨⟨o,p⟩,k⟩,⟨⟨a6,a4⟩,l⟩⟩=>?_
 obtain ⟨u,y⟩:=k
 obtain ⟨s,v⟩:=l
 have:=C5y b
 refine k_ ?_
 refine ie ?_
 refine k_ ?_
 refine it Z (B0 (c:=H0) (xs:=[65533]) I0 Z Z Z oki) fun a0=>?_
 have:([65533]:List Int).length=1:=rfl
 refine k_ ?_
 refine it Z (C3h (f:=H0) (xs:=([65533]:List Int)) (ys:=(A8u b).2) D5t jJ jJ Z Z Z Z Z Z opx opx odv (A5 0 Z) (A5 2 Z) ofv ofv) fun ⟨⟨n,q⟩,r⟩=>?_
 refine k_ ?_
 subst hR
 refine ie (A8 ?_)
 exact cy (_,(zq n q))
def D0o (pending:List UInt8):List Int :=
 (bif ((decide ((0:Int)<(pending.length:Int)))&&(A5o pending)) then ([65533]:List Int) else ([]:List Int))
theorem D3k (p:List UInt8):D0o p=(bif (decide (0<(p.length:Int))&&A5o p) then [65533] else []):=rfl
theorem D1u {R:List Int} (hR:D0o pending=R) (b:pending.length≤9223372036854775807:=by exact bW) (a:pending.length≤pendingk:=by exact bW) (i:pending.length≤1000:=by exact bW):cM prog 256 [.slice pendingq pending.length pendingk] [] [sl cJ pendingq pending] ({t:Option Addr×Nat // R.length≤t.2∧R.length≤9223372036854775807}) (fun x=>.slice x.1.1 R.length x.1.2) (fun x=>[]) (fun x=>[sl H0 x.1.1 R]):=by
 refine cD Tryz.func256 fun X hX hr hD=>?_
 rw[D0o]at hR
 refine k_ ?_
 refine ie ?_
 refine k_ ?_
 refine zid 3 0 6 9 (A5o pending) (fun g f=>?_) ?_
 ·refine k_ ?_
  refine zv Z (D2g Z) ?_
  refine bP 1 9 Z ?_
  exact zai 4 6 9 g
 refine ie ?_
 refine zjb Z hR ?_ ?_<;>intro hR e
 ·have d:=bV e
  refine k_ ?_
  refine it Z (B0 (c:=H0) (xs:=[65533]) I0 Z Z Z oki) fun h=>?_
  have:([65533]:List Int).length=1:=rfl
  refine k_ ?_
  subst hR
  refine ie (A8 ?_)
  exact ci (zq _ 1)
 refine k_ ?_
 subst hR
 refine ie (A8 ?_)
 exact ci (zq _ 0)
def A5a (s:List UInt8):List UInt8 :=
 s
theorem E9u {R:List UInt8} (hR:A5a s=R):cM prog 243 [sv s] [] [] (Addr) (fun x=>.func (.func 254) #[] #[pa x]) (fun x=>[]) (fun x=>[at_ x [sv R]]):=by
 refine cD Tryz.func243 fun X hX hr hD=>?_
 rw[A5a]at hR
 refine k_ ?_
 refine it Z (A2s Z Z Z) fun a=>(A6p 0 Z (k_ ?_))
 refine ie (kc_ ?_)
 refine ip' 2 0 [(2,.func (.func 254) #[] #[pa ⟨a,0,none⟩])] ?_
 subst hR
 refine k_ ?_
 exact ci _
def A0r (c0:List UInt8) (pending:List UInt8) (b:Nat) (a:List UInt8→Nat→List Int):List Int→Nat→List Int
 | [],t27=>a ((N1 pending (c0.getD b 0)).1) (b+1)
 | c::tl_l4,t27=>(c::A0r c0 pending b a tl_l4 (t27+1))
def Z7 (c0:List UInt8):List UInt8→List UInt8→Nat→List Int
 | [],pending,t13=>(bif (decide (0<(pending.length:Int))&&A5o pending) then ((([65533]:List Int).getD 0 0)::[]) else [])
 | hd_l3::tl_l3,pending,t13=>A0r c0 pending t13 (Z7 c0 tl_l3) ((N1 pending hd_l3).2) 0
def B7i (c0:List UInt8):List Int :=
 Z7 c0 c0 ([]:List UInt8) 0
theorem B9e (c0 pending:List UInt8) (a:Nat) (ag:List UInt8→Nat→List Int):∀ (l:List Int) (t:Nat),(A0r c0 pending a ag l t).length=l.length+(ag ((N1 pending (c0.getD a 0)).1) (a+1)).length
 | [],t=>by simp [A0r]
 | x::l,t=>by simp only [A0r,List.length_cons,B9e c0 pending a ag l];omega
theorem B9m (c0:List UInt8):∀ (s p:List UInt8) (t:Nat),(Z7 c0 s p t).length≤2 * s.length+1
 | [],p,t=>by
  grind[Z7]
 | x::s,p,t=>by
  simp only [Z7,B9e,List.length_cons]
  have:=(C8p p x).2;have:=B9m c0 s (N1 p (c0.getD t 0)).1 (t+1);omega
theorem C3f (s:List UInt8):(B7i s).length≤2 * s.length+1:=B9m s s [] 0
theorem oyp (h:p:=by first|omega|(simp +zetaDelta only [List.length_take,List.length_drop,List.length_append,List.length_cons,List.length_nil,List.length_set,List.length_map,A5a];omega)|decide):p:=h
theorem oxs (h:p:=by first|rfl|(simp +zetaDelta only [List.length_set]<;>rfl)):p:=h
theorem ooa (h:p:=by simp +zetaDelta only [List.flatten_cons,List.flatten_nil,List.append_nil,List.cons_append,List.nil_append,List.append_assoc]):p:=h
theorem E1t (c0:List UInt8) (f:Addr) (hs:c0.length≤1000000000) (R:List Int) (hR:B7i c0=R):C9v prog 254 [pa f] [at_ f [sv c0]] (fun x=>iv x) R:=by
 refine E0q (n:=48) Tryz.func254 Z oki Z Z (fun l=>[(0,.func (.yield l) #[] #[]),(1,pa f)]) (fun l=>⟨rfl,rfl,trivial⟩) fun X l I Ix L Φ hX hr hD hI0 hY=>?_
 rw[B7i]at hR
 refine k_ ?_
 refine ie (k_ ?_)
 refine ix Z (B6 ty9 Z Z (A5 0 Z) Z) (k_ ?_)
 refine ie (A9 (A1y (un fun (pending:List UInt8)=>un fun (pendingq:Option Addr)=>un fun (pendingk:Nat)=>un fun (a:Nat)=>un fun (R_:List Int)=>un fun (Lt:Fen.Own) (Ft:List Pers)=>(a≤c0.length∧Z7 c0 (c0.drop a) pending a=R_∧pending.length≤pendingk∧pending.length≤9223372036854775807∧I R_ Lt Ft∧pending.length≤1000,[(0,.func (.yield l) #[] #[]),(1,pa f),(3,.slice pendingq pending.length pendingk),(12,iv (c0.length:Int)),(13,iv (a:Int))],(Lt++([])),(at_ f [sv c0]::sl cJ pendingq pending::Ft),c0.length - a)) (jx,none,0,0,R,L,Φ) ⟨opx,hR,oyp,oyp,hI0,oom⟩ bU (A7.con1 (A5 0 Z) (A7.con1 B3l (A7.dropT 1 Z))) ?_))
 rintro ⟨pending,pendingq,pendingk,a,R_,Lt,Ft⟩ ⟨an,hR,s,t,j,hp⟩
 let A:=sl cJ pendingq pending
 refine k_ ?_
 refine ie (A3 (G3 Z (fun h2=>?_) (fun h2=>?_)))
 ·have w:=bV h2
  rw [A1a 0 (show a<c0.length by omega)] at hR;rw[Z7]at hR
  refine k_ ?_
  refine ie (k_ ?_)
  refine ix Z (B6 ty9 Z Z (A5 0 Z) Z) (k_ ?_)
  refine ix Z (E7q (T:=9) Tryz.underlying9 Z Z Z a Z opx) (zcm (E9b (pending:=pending) (b:=(c0.getD a 0)) (pendingq:=pendingq) (pendingk:=pendingk) Z) (A7.cons (A5 1 Z) bX) fun ⟨⟨⟨q3,k4⟩,a5⟩,⟨⟨q8,k9⟩,z⟩⟩=>?_)
  let D:=sl H0 q8 ((N1 pending (c0.getD a 0)).2)
  let B:=sl cJ q3 ((N1 pending (c0.getD a 0)).1)
  obtain ⟨ar,aq⟩:=a5
  obtain ⟨a9,a8⟩:=z
  have:=C8p pending (c0.getD a 0)
  refine k_ ?_
  refine ie (k_ ?_)
  refine ie (k_ ?_)
  refine ie (A9 (A1y (un fun (d:Nat)=>un fun (R_1:List Int)=>un fun (Lt1:Fen.Own) (Ft1:List Pers)=>(d≤((N1 pending (c0.getD a 0)).2).length∧A0r c0 pending a (Z7 c0 (c0.drop (a+1))) (((N1 pending (c0.getD a 0)).2).drop d) d=R_1∧I R_1 Lt1 Ft1,[(0,.func (.yield l) #[] #[]),(1,pa f),(3,.slice q3 (((N1 pending (c0.getD a 0)).1).length) k4),(12,iv (c0.length:Int)),(13,iv (a:Int)),(25,.slice q8 (((N1 pending (c0.getD a 0)).2).length) k9),(26,iv (((N1 pending (c0.getD a 0)).2).length:Int)),(27,iv (d:Int))],(Lt1++([])),(B::D::at_ f [sv c0]::A::Ft1),((N1 pending (c0.getD a 0)).2).length - d)) (0,R_,Lt,Ft) ⟨opx,hR,j⟩ bU c9 ?_))
  rintro ⟨d,R_1,Lt1,Ft1⟩ ⟨ac,hR,i⟩
  refine k_ ?_
  refine ie (A3 (G3 Z (fun r=>?_) (fun r=>?_)))
  ·have p:=bV r
   rw [A1a 0 (show d<((N1 pending (c0.getD a 0)).2).length by omega)] at hR;rw[A0r]at hR
   refine k_ ?_
   refine H8 1 Z opx fun ap o=>(ix Z (E7 I0 Z Z o Z d) (ix Z (B6 cE Z Z (F8 (c:=H0) (sz:=1) o jJ 1 Z (gd 0 opx)) Z) (k_ ?_)))
   refine ie (k_ ?_)
   obtain ⟨R17,hR,h⟩:=C2v hR;rw [h] at i
   refine it Z (A6x (L2:=[]) (hY _ R17 _ _ i) Z Z Z Z (A7.dropT 4 Z) (I8 [Lt1] [0] 1 Z ozw Z [Lt1] Z ooa)) fun ⟨⟨a0,L19,Φ20⟩,e⟩=>(B1j (A7.yield [B,D,at_ f [sv c0],A]) (k_ ?_))
   refine ie (G3 Z (fun u=>?_) (fun u=>?_))
   ·have k:a0=false:=by simpa using u
    rw [k] at e;try simp only [if_true,if_false,Bool.false_eq_true] at e
    exact A8 (B6z Z ⟨hr,hD⟩ (by simp [hD]) (B3x rfl) (L':=L19) (Φ':=Φ20) (by exact .inr e) (mcT [L19] 0 Z Z) (A7.dropT 4 Z))
   ·have k:a0=true:=by simpa using u
    rw [k] at e;try simp only [if_true,if_false,Bool.false_eq_true] at e
    refine k_ ?_
    refine ix Z B1 (k_ ?_)
    exact A1 (Z0 (z1:=(d,R_1,Lt1,Ft1)) (d+1,R17,L19,Φ20) ⟨opx,hR,e⟩ olr bU (A7.con1 (A5 0 Z) (A7.con1 (A5 1 Z) (A7.con1 (A5 2 Z) (A7.con1 (A5 3 Z) (A7.dropT 4 Z))))))
  have p:=bV r
  rw [A1b p] at hR;rw[A0r]at hR
  refine k_ ?_
  refine ix Z B1 (k_ ?_)
  exact A1 (Z0 (z1:=(pending,pendingq,pendingk,a,R_,Lt,Ft)) ((N1 pending (c0.getD a 0)).1,q3,k4,a+1,R_1,Lt1,Ft1) ⟨opx,hR,oyp,oyp,i,osj⟩ olr bU (A7.con1 (A5 2 Z) (A7.con1 (A5 0 Z) (A7.dropT 4 Z))))
 have w:=bV h2
 rw [A1b w] at hR;rw[Z7]at hR
 refine k_ ?_
 have hs30:=D3k pending
 cases hc29:(decide (0<(pending.length:Int))&&A5o pending)
 ·replace hR:=bf hR hc29
  replace hs30:=hs30.trans (by rw [hc29];rfl:_=([]:List Int))
  refine zcm (D1u (pending:=pending) (pendingq:=pendingq) (pendingk:=pendingk) hs30) (A7.cons (A5 1 Z) bX) fun ⟨⟨y,a3⟩,a1⟩=>?_
  have:([]:List Int).length=0:=rfl
  refine k_ ?_
  refine ie (A9 (A1g 2 (k_ ?_)))
  subst hR
  refine ie (k_ ?_)
  exact A0y Z ⟨hr,hD⟩ (by simp [hD]) (B3x rfl) (L':=Lt) (Φ':=Ft) (by exact .inl j) (mcT [Lt] 0 Z Z) (A7.dropT 3 Z)
 ·replace hR:=bt hR hc29
  replace hs30:=hs30.trans (by rw [hc29];rfl:_=([65533]:List Int))
  refine zcm (D1u (pending:=pending) (pendingq:=pendingq) (pendingk:=pendingk) hs30) (A7.cons (A5 1 Z) bX) fun ⟨⟨y,a3⟩,a1⟩=>?_
  have:([65533]:List Int).length=1:=rfl
  refine k_ ?_
  refine ie (A9 (A1g 3 (k_ ?_)))
  refine ie (k_ ?_)
  refine H8 0 Z opx fun ak m=>(ix Z (E7 I0 Z Z m Z 0) (ix Z (B6 (v:=iv (([65533]:List Int).getD 0 0)) (us:=[iv (([65533]:List Int).getD 0 0)]) cE Z Z (F8 (c:=H0) (sz:=1) m jJ 0 Z (gd 0 opx)) Z) (k_ ?_)))
  refine ie (k_ ?_)
  obtain ⟨R33,hR,g⟩:=C2v hR;rw [g] at j
  refine it Z (A6x (L2:=[]) (hY _ R33 _ _ j) Z Z Z Z (A7.dropT 3 Z) (I8 [Lt] [0] 1 Z ozw Z [Lt] Z ooa)) fun ⟨⟨a6,L35,Φ36⟩,q⟩=>(B1j (A7.yield [sl H0 y ([65533]:List Int),at_ f [sv c0],A]) (A1 (k_ ?_)))
  refine A1 (k_ ?_)
  subst hR
  refine ie (k_ ?_)
  exact A0y Z ⟨hr,hD⟩ (by simp [hD]) (B3x rfl) (L':=L35) (Φ':=Φ36) (by cases a6<;>first|exact .inr (by simpa using q)|exact .inl (by simpa using q)) (mcT [L35] 0 rfl rfl) (A7.dropT 3 rfl)
def A4i:List Int→List Int→List Int
 | [],l=>l
 | el::rest,l=>A4i rest (l++([el]:List Int))
def B3y (s:List UInt8):List Int :=
 A4i (B7i (A5a s)) ([]:List Int)
theorem B6b:∀ (a l:List Int),A4i a l=l++a
 | [],l=>by simp [A4i]
 | x::r,l=>by simp [A4i,B6b r]
theorem D9h (s:List UInt8):(B3y s).length≤2 * s.length+1:=by simp[C3f,B3y,B6b,A5a]
theorem ofs (h:p:=by first|omega|(simp +zetaDelta only [List.length_cons,List.length_nil,List.length_append,List.length_take,List.length_drop,A5a];omega)):p:=h
theorem oqz (h:p:=by simp +zetaDelta only [List.length_cons,List.length_append,List.length_nil] at *;omega):p:=h
theorem E6r {R:List Int} (hR:B3y s=R) (w:s.length≤1000000000:=by exact bW):cM prog 214 [sv s] [] [] ({t:Option Addr×Nat // R.length≤t.2∧R.length≤9223372036854775807}) (fun x=>.slice x.1.1 R.length x.1.2) (fun x=>[]) (fun x=>[sl H0 x.1.1 R]):=by
 refine cD Tryz.func214 fun X hX hr hD=>?_
 rw[B3y]at hR
 refine k_ ?_
 refine cI 1 [] (fun b=>[(2,pt b 0)]) (fun _=>[.slice none 0 0]) 236 fun b=>?_
 refine ie (k_ ?_)
 refine zc Z (E9u Z) fun j=>?_
 refine ie (A9 (Y9 (I8 [_,_] [1,0] 2 Z ozw Z [[_],vo H0 3 VR.nil []] Z opv) (k_ ?_)))
 refine F0q hr Z (E1t _ j (by first|omega|(simp only [A5a];omega)) _ Z) A7.refl Z Z (fun d x=>A4i d x.1=R∧bT 1 x.1.length x.2∧x.1.length+d.length≤2 * s.length+1) (fun _ _=>False) (fun x=>(bx b [.slice (va x.2.q) x.1.length x.2.k] _::((vo H0 3 x.2 x.1)++([])))) (fun x=>[_]) (_,_) (by exact ⟨hR,bT.nil,(by simp only [List.length_nil,Nat.zero_add];exact C3f s)⟩) bU A7.refl ?_ ?_ (fun _ _ _ _ h=>h.elim)
 ·rintro i rest ⟨l,lr⟩ g Y Y' K' o u
  try dsimp only at g
  obtain ⟨hR,a,p⟩:=g
  rw[A4i]at hR
  refine k_ ?_
  refine A1 (u _ _ _ (k_ ?_))
  refine it Z (B0 (c:=H0) (xs:=[i]) I0 Z Z Z oki) fun y=>?_
  have:([i]:List Int).length=1:=rfl
  refine it Z (Q7 (f:=H0) (r:=lr) (xs:=l) (ys:=([i]:List Int)) (pre:=[bx b [.slice (va lr.q) l.length lr.k] 236]) (post:=[]) D5t jJ jJ Z Z Z Z Z Z Z Z Z (A5 0 Z) a ofs ofs) fun ⟨m,e⟩=>(zru 1 [0] [] 0 (bx b [.slice (va m.q) ((l++[i]).length) m.k] 236) ?_)
  exact A1 (B2c (I:=fun d x=>A4i d x.1=R∧bT 1 x.1.length x.2∧x.1.length+d.length≤2 * s.length+1) (Jx:=fun _ _=>False) ((l++[i]),m) (by exact ⟨hR,e,oqz⟩) bU c9)
 ·rintro z ⟨l,lr⟩ n g
  try dsimp only at g
  obtain ⟨hR,a,p⟩:=g
  rw[A4i]at hR
  have:=bT.le a
  refine kc_ ?_
  refine zru 2 [0,0] [] 0 _ (ie (A8 (D3z [bx b [.slice (va lr.q) l.length lr.k] 236] _ a opv ?_)))
  have:=bT.cap a
  subst hR
  exact B7w Z ⟨hr,hD⟩ (by exact (P3.cons (show P3 X.D by rw [hD];exact P3.nil) n)) (I9 Z (E8a C1g Z 0 Z Z)) (zq _ _) odv bU c9
def B0t (is:Bool):Option Unit :=
 (bif (!is) then none else (some ()))
theorem B4s {b:Bool} {r:Unit} (h:B0t b=some r):b=true:=by cases b with | true=>rfl | false=>cases h
theorem C2g {is:Bool} {R:Option Unit} (hR:B0t is=R):D9a prog 117 [bv is] [] [] B0n R (fun r=>.tuple #[]):=by
 refine C1d (n:=6) Tryz.func117 Z oki Z Z [(0,_)] ⟨rfl,trivial⟩ fun X hX hr hD=>?_
 rw[B0t]at hR
 refine k_ ?_
 refine ie ?_
 refine zjb Z hR ?_ ?_<;>intro hR a
 ·refine k_ ?_
  refine bY 1 2 [] [(4,ag [])] ?_
  exact ix Z (F2m Tryz.underlying280 Z Z Z) (F4v Z Z Z (A7s ⟨hr,hD⟩ hR.symm))
 exact A4 (C2h Z ⟨hr,hD⟩ (by simp [hD]) (B3x rfl) hR.symm rfl)
def A6j:List Int→Nat→Option Unit
 | [],t19=>(some ())
 | hd_l0::tl_l0,t19=>(Option.bind (B0t ((decide ((32:Int)≤hd_l0))&&((decide (hd_l0<127))||(decide ((159:Int)<hd_l0))))) fun (a:Unit)=>A6j tl_l0 (t19+1))
def B1x (s:List UInt8):Option Unit :=
 (B5 (B3y s) fun (a:List Int)=>(Option.bind (B0t ((decide ((s.length:Int)≤510))&&(decide ((C3y a)=s)))) fun (r:Unit)=>A6j a 0))
theorem E5i {R:Option Unit} (hR:B1x s=R) (hs:s.length≤100000000:=by exact bW):D9a prog 188 [sv s] [] [] B0n R (fun r=>.tuple #[]):=by
 refine C1d (n:=35) Tryz.func188 Z oki Z Z [(0,_)] ⟨rfl,trivial⟩ fun X hX hr hD=>?_
 rw[B1x]at hR
 refine k_ ?_
 obtain ⟨d,k,hR⟩:=C3 hR
 refine zc Z (E6r k) fun ⟨⟨t,k2⟩,m⟩=>?_
 obtain ⟨a0,y⟩:=m
 have:=D9h s;try rw [k] at this
 refine k_ ?_
 refine ie (k_ ?_)
 refine zid 5 1 10 15 (decide ((C3y d)=s)) (fun v w=>?_) ?_
 ·refine k_ ?_
  refine zv Z (E7u Z) ?_
  exact bP 1 13 Z (ix Z (D4r Z Z Z) (bP 1 15 Z (zai 6 10 _ v)))
 refine B7o (C2g Z) Z Z Z Z Z Z bX jK (fun r j=>?_) (fun l=>?_)
 ·replace hR:=D7v hR j
  have h:=B4s j;try simp only [Bool.and_eq_true,decide_eq_true_eq] at h
  refine k_ ?_
  refine ie (A9 (A1y (fun a=>(a≤d.length∧A6j (d.drop a) a=R,[(17,.slice t _ k2),(18,iv _),(19,iv a)],_,[sl _ t d],d.length - a)) 0 ⟨opx,hR⟩ bU A7.refl ?_))
  rintro a ⟨a1,hR⟩
  refine k_ ?_
  refine ie (A3 (G3 Z (fun g=>?_) (fun g=>?_)))
  ·have f:=bV g
   rw [A1a 0 (show a<d.length by omega)] at hR;rw[A6j]at hR
   refine k_ ?_
   refine H8 0 Z opx fun z b=>(ix Z (E7 I0 Z Z b Z a) (ix Z (B6 cE Z Z (F8 (sz:=1) b jJ 0 Z (gd 0 opx)) Z) (k_ ?_)))
   refine ie (k_ ?_)
   refine zid 7 1 25 32 ((decide ((d.getD a 0)<127))||(decide (159<(d.getD a 0)))) (fun o q=>?_) ?_
   ·refine bP 3 28 Z (zir 3 1 28 31 (decide (159<(d.getD a 0))) (fun p u=>?_) ?_)
    ·exact bP 3 31 Z (zai 2 28 _ p)
    exact bP 1 32 Z (zai 4 25 _ o)
   refine B7o (C2g Z) Z Z Z Z Z Z bX jK (fun r1 e=>?_) (fun i=>?_)
   ·replace hR:=D7v hR e
    have h:=B4s e;try simp only [Bool.and_eq_true,decide_eq_true_eq] at h
    refine k_ ?_
    refine ix Z B1 (k_ ?_)
    exact A1 (z0 _ ⟨opx,hR⟩)
   ·replace hR:=D5j hR i
    exact A7s ⟨hr,hD⟩ hR.symm
  have f:=bV g
  rw [A1b f] at hR;rw[A6j]at hR
  exact F1 (C2h Z ⟨hr,hD⟩ (by simp [hD]) (B3x rfl) hR.symm rfl)
 ·replace hR:=D5j hR l
  exact A7s ⟨hr,hD⟩ hR.symm
def C5k (a:Act) (b:Act):Option Unit :=
 (Option.bind (B0t (decide (a=b))) fun (r:Unit)=>(some ()))
theorem E6n {a c:Act} {R:Option Unit} (hR:C5k a c=R):D9a prog 187 [ag (A2 a),ag (A2 c)] [] [] B0n R (fun r=>.tuple #[]):=by
 refine C1d (n:=8) Tryz.func187 Z oki Z Z [(0,_),(1,_)] ⟨rfl,rfl,trivial⟩ fun X hX hr hD=>?_
 rw[C5k]at hR
 refine bS Z (B3r 2 [] (fun f h=>[(2,pt f 0),(3,pt h 0)]) (fun _ _=>(A2 a)) (fun _ _=>(A2 c)) 51 51 fun f h=>(ie (A0 4 Z (bY 2 2 [1,0] [(4,ag _),(5,ag _)] (ix Z (A3m (a:=a) (b:=c) D9w Z Z Z) ?_)))))
 refine B7o (C2g Z) Z Z Z Z Z Z bX jK (fun r d=>?_) (fun e=>?_)
 ·replace hR:=D7v hR d
  have g:=B4s d;try simp only [Bool.and_eq_true,decide_eq_true_eq] at g
  exact A1 (C2h Z ⟨hr,hD⟩ (by simp [hD]) (B3x rfl) hR.symm rfl)
 ·replace hR:=D5j hR e
  exact A7s ⟨hr,hD⟩ hR.symm
def B6k (a:Act):Option (List UInt8) :=
 (Option.bind (C5k a ({ZZ with kind:=a.kind,text:=a.text})) fun (r:Unit)=>(Option.bind (B1x a.text) fun (b:Unit)=>(some (([50,59]:List UInt8)++a.text))))
theorem D5u {a:Act} {R:Option (List UInt8)} (hR:B6k a=R) (h:a.text.length≤100000000:=by exact bW):D9a prog 186 [ag (A2 a)] [] [] B0n R (fun r=>sv r):=by
 refine C1d (n:=16) Tryz.func186 Z oki Z Z [(0,_)] ⟨rfl,trivial⟩ fun X hX hr hD=>?_
 rw[B6k]at hR
 refine k_ ?_
 refine cI 2 [] (fun b=>[(1,pt b 0)]) (fun _=>(A2 a)) 51 fun b=>?_
 refine ie (k_ ?_)
 refine bY 6 1 [0,0,0] [(3,ag (A2 a)),(8,ag (A2 ({ZZ with kind:=a.kind,text:=a.text})))] ?_
 refine B7o (E6n Z) Z Z Z Z Z Z bX jK (fun r e=>?_) (fun c=>?_)
 ·replace hR:=D7v hR e
  refine k_ ?_
  refine B7o (E5i Z osj) Z Z Z Z Z Z bX jK (fun g f=>?_) (fun d=>?_)
  ·replace hR:=D7v hR f
   refine ie (k_ ?_)
   refine ix Z (zst Z Z Z) ?_
   refine k_ ?_
   exact ie (A8 (E0s Z ⟨hr,hD⟩ (by simp [hD]) (I9 rfl A6) hR.symm rfl))
  ·replace hR:=D5j hR d
   exact A7s ⟨hr,hD⟩ hR.symm
 ·replace hR:=D5j hR c
  exact A7s ⟨hr,hD⟩ hR.symm
end
section
open Go Go.Fen open Tryz (prog)
variable {R:Bool} {α:Type} {d:α} {k:Nat} {l:List α} {m:Int} {p:Prop} {x:Int}
theorem B5g:EqT prog 49 R1:=EqT.of 20 Z oki oki (fun _ _=>by kernel_rfl) R1.inj
theorem C0a:MapTy prog 215 3 213 (.int .i64):=⟨by rfl,by rfl,rfl⟩
theorem ty4:Ty prog 4 1 false:=⟨by rfl⟩
theorem C4m:Ty prog 49 2 true:=⟨by rfl⟩
theorem C7w:Ty prog 160 1 false:=⟨by rfl⟩
theorem E1f:Ty prog 213 3 true:=⟨by rfl⟩
theorem G4y:Ty prog 229 3 true:=⟨by rfl⟩
theorem E4n:Zero prog 213 [.nilFunc,bv false,.nilFunc]:=⟨by rfl⟩
def A4g:Bool :=
 true
theorem D5a (hR:A4g=R):cM prog 171 [aC 181] [] [] (Nat) (fun x=>ag [aC 172,bv R,.func (.func 173) #[] #[pt x 0]]) (fun x=>[bx x [aC 181] 274]) (fun x=>[]):=by
 refine cD Tryz.func171 fun X hX hr hD=>?_
 rw[A4g]at hR
 refine k_ ?_
 refine B3r 2 [] (fun a b=>[(1,pt a 0),(2,pt b 0)]) (fun _ _=>[aC 181]) (fun _ _=>[.nilFunc,bv false,.nilFunc]) 274 213 fun a b=>?_
 refine ie (kc_ ?_)
 refine zru 3 [0] [] 0 (bx b [aC 172,bv true,.func (.func 173) #[] #[pt a 0]] 213) ?_
 subst hR
 exact ie (A8 (cc (I9 Z (E8 E1f Z 0)) a))
def A3e:Bool :=
 true
theorem D3s (hR:A3e=R):cM prog 171 [aC 182] [] [] (Nat) (fun x=>ag [aC 172,bv R,.func (.func 173) #[] #[pt x 0]]) (fun x=>[bx x [aC 182] 274]) (fun x=>[]):=by
 refine cD Tryz.func171 fun X hX hr hD=>?_
 rw[A3e]at hR
 refine k_ ?_
 refine B3r 2 [] (fun a b=>[(1,pt a 0),(2,pt b 0)]) (fun _ _=>[aC 182]) (fun _ _=>[.nilFunc,bv false,.nilFunc]) 274 213 fun a b=>?_
 refine ie (kc_ ?_)
 refine zru 3 [0] [] 0 (bx b [aC 172,bv true,.func (.func 173) #[] #[pt a 0]] 213) ?_
 subst hR
 exact ie (A8 (cc (I9 Z (E8 E1f Z 0)) a))
def A3f:Bool :=
 true
theorem D3h (hR:A3f=R):cM prog 171 [aC 183] [] [] (Nat) (fun x=>ag [aC 172,bv R,.func (.func 173) #[] #[pt x 0]]) (fun x=>[bx x [aC 183] 274]) (fun x=>[]):=by
 refine cD Tryz.func171 fun X hX hr hD=>?_
 rw[A3f]at hR
 refine k_ ?_
 refine B3r 2 [] (fun a b=>[(1,pt a 0),(2,pt b 0)]) (fun _ _=>[aC 183]) (fun _ _=>[.nilFunc,bv false,.nilFunc]) 274 213 fun a b=>?_
 refine ie (kc_ ?_)
 refine zru 3 [0] [] 0 (bx b [aC 172,bv true,.func (.func 173) #[] #[pt a 0]] 213) ?_
 subst hR
 exact ie (A8 (cc (I9 Z (E8 E1f Z 0)) a))
def D7i:Unit :=
 ()
theorem C9f {R:Unit} (hR:D7i=R):cM prog 112 [] [] [] (Nat×Nat×Nat×Nat) (fun x=>.map (some x.1)) (fun x=>[(x.1,.map #[⟨iv 0,ag [aC 172,bv false,aC 174],0⟩,⟨iv 1,ag [aC 175,bv false,aC 176],1⟩,⟨iv 2,ag [aC 177,bv false,aC 178],2⟩,⟨iv 3,ag [aC 179,bv false,aC 180],3⟩,⟨iv 4,ag [aC 172,bv A4g,.func (.func 173) #[] #[pt x.2.1 0]],4⟩,⟨iv 5,ag [aC 172,bv A3e,.func (.func 173) #[] #[pt x.2.2.1 0]],5⟩,⟨iv 6,ag [aC 172,bv A3f,.func (.func 173) #[] #[pt x.2.2.2 0]],6⟩] 7),bx x.2.1 [aC 181] 274,bx x.2.2.1 [aC 182] 274,bx x.2.2.2 [aC 183] 274]) (fun x=>[]):=by
 refine cD Tryz.func112 fun X hX hr hD=>?_
 rw[D7i]at hR
 refine k_ ?_
 refine ie (k_ ?_)
 refine ie (k_ ?_)
 refine it Z (B8x Z) fun d=>(bY 1 18 [] [(3,ag [aC 172,bv false,aC 174])] ?_)
 refine it Z (G0 C0a (.inl Z) Z Z Z 0 Z oki Z) fun _=>(bY 1 16 [] [(4,ag [aC 175,bv false,aC 176])] ?_)
 refine it Z (G0 C0a (.inl Z) Z Z Z 0 Z oki Z) fun _=>(bY 1 14 [] [(5,ag [aC 177,bv false,aC 178])] ?_)
 refine it Z (G0 C0a (.inl Z) Z Z Z 0 Z oki Z) fun _=>(bY 1 12 [] [(6,ag [aC 179,bv false,aC 180])] ?_)
 refine it Z (G0 C0a (.inl Z) Z Z Z 0 Z oki Z) fun _=>(k_ ?_)
 refine zc Z (D5a Z) fun b=>?_
 refine it Z (G0 C0a (.inl Z) Z Z Z 1 Z oki Z) fun _=>(k_ ?_)
 refine zc Z (D3s Z) fun a=>?_
 refine it Z (G0 C0a (.inl Z) Z Z Z 2 Z oki Z) fun _=>(k_ ?_)
 refine zc Z (D3h Z) fun c=>?_
 refine it Z (G0 C0a (.inl Z) Z Z Z 3 Z oki Z) fun _=>(bP 2 0 Z ?_)
 subst hR
 refine kc_ ?_
 exact Y9 (I8 [_,_,_,_] [3,2,1,0] 4 Z ozw Z [[(d,.map #[⟨iv 0,_,0⟩,⟨iv 1,_,1⟩,⟨iv 2,_,2⟩,⟨iv 3,_,3⟩,⟨iv 4,_,4⟩,⟨iv 5,_,5⟩,⟨iv 6,_,6⟩] 7)],[_],[_],[_]] Z opv) (cC hr hD (I9 Z (A6 Z)) (d,b,a,c) bU bX)
def E1n (a:Nat) (z1:Nat) (z2:Nat):List (Int×Value):=[(0,ag [aC 172,bv false,aC 174]),(1,ag [aC 175,bv false,aC 176]),(2,ag [aC 177,bv false,aC 178]),(3,ag [aC 179,bv false,aC 180]),(4,ag [aC 172,bv A4g,.func (.func 173) #[] #[pt a 0]]),(5,ag [aC 172,bv A3e,.func (.func 173) #[] #[pt z1 0]]),(6,ag [aC 172,bv A3f,.func (.func 173) #[] #[pt z2 0]])]
def A2r:List (Int×Value):=[(0,aC 172),(1,aC 175),(2,aC 177),(3,aC 179),(4,aC 172),(5,aC 172),(6,aC 172)]
def A8y:List (Int×Bool):=[(0,false),(1,false),(2,false),(3,false),(4,A4g),(5,A3e),(6,A3f)]
def B3a (a:Nat) (z1:Nat) (z2:Nat):List (Int×Value):=[(0,aC 174),(1,aC 176),(2,aC 178),(3,aC 180),(4,.func (.func 173) #[] #[pt a 0]),(5,.func (.func 173) #[] #[pt z1 0]),(6,.func (.func 173) #[] #[pt z2 0])]
theorem F4q (d:Nat) (z1:Nat) (z2:Nat) (k:Int):lkV k (.agg #[.nilFunc,bv false,.nilFunc]) (E1n d z1 z2)=.agg #[lkV k .nilFunc A2r,.bool (lkB k false A8y),lkV k .nilFunc (B3a d z1 z2)]:=by
 refine (E0x (fun a b c=>.agg #[a,b,c]) k (.nilFunc) (bv false) (.nilFunc) [((0:Int),(aC 172:Value),(bv false:Value),(aC 174:Value)),((1:Int),(aC 175:Value),(bv false:Value),(aC 176:Value)),((2:Int),(aC 177:Value),(bv false:Value),(aC 178:Value)),((3:Int),(aC 179:Value),(bv false:Value),(aC 180:Value)),((4:Int),(aC 172:Value),(bv A4g:Value),(.func (.func 173) #[] #[pt d 0]:Value)),((5:Int),(aC 172:Value),(bv A3e:Value),(.func (.func 173) #[] #[pt z1 0]:Value)),((6:Int),(aC 172:Value),(bv A3f:Value),(.func (.func 173) #[] #[pt z2 0]:Value))]).trans ?_
 rw [show (([((0:Int),(aC 172:Value),(bv false:Value),(aC 174:Value)),((1:Int),(aC 175:Value),(bv false:Value),(aC 176:Value)),((2:Int),(aC 177:Value),(bv false:Value),(aC 178:Value)),((3:Int),(aC 179:Value),(bv false:Value),(aC 180:Value)),((4:Int),(aC 172:Value),(bv A4g:Value),(.func (.func 173) #[] #[pt d 0]:Value)),((5:Int),(aC 172:Value),(bv A3e:Value),(.func (.func 173) #[] #[pt z1 0]:Value)),((6:Int),(aC 172:Value),(bv A3f:Value),(.func (.func 173) #[] #[pt z2 0]:Value))]).map fun x=>(x.1,x.2.2.1))=A8y.map (fun x=>(x.1,Value.bool x.2)) from rfl,E7o]
 rfl
theorem C6q (a:Nat) (z1:Nat) (z2:Nat) (k:Int):Value.tuple #[lkV k (.agg #[.nilFunc,bv false,.nilFunc]) (E1n a z1 z2),.bool (A4b k (E1n a z1 z2))]=Value.tuple #[.agg #[lkV k .nilFunc A2r,.bool (lkB k false A8y),lkV k .nilFunc (B3a a z1 z2)],.bool (A4b k A2r)]:=by rw [F4q];rfl
def B4d (m:Int):Bool :=
 (decide (m=0))
theorem B6r (hR:B4d m=R):J7 prog 172 [iv m] [] (bv R):=by
 refine cD Tryz.func172 fun X hX hr hD=>?_
 rw[B4d]at hR
 refine k_ ?_
 refine ie (k_ ?_)
 subst hR
 exact q8
def A8v (x:Int):Int :=
 (B5 (IntKind.u64.wrap ((cH .and .u64 (x / 2) 6148914691236517205)+(cH .and .u64 x 6148914691236517205))) fun (v:Int)=>(B5 (IntKind.u64.wrap ((cH .and .u64 (v / 4) 3689348814741910323)+(cH .and .u64 v 3689348814741910323))) fun (b:Int)=>(B5 (cH .and .u64 (IntKind.u64.wrap ((b / 16)+b)) 1085102592571150095) fun (a:Int)=>(B5 (IntKind.u64.wrap ((IntKind.u64.wrap (a+(a / 256)))+((IntKind.u64.wrap (a+(a / 256))) / 65536))) fun (c:Int)=>(B5 (cH .and .i64 (IntKind.i64.wrap (IntKind.u64.wrap (c+(c / 4294967296)))) 127) fun (d:Int)=>d)))))
theorem C0l {R:Int} (hR:A8v x=R):J7 prog 242 [.int .u64 x] [] (iv R):=by
 refine cD Tryz.func242 fun X hX hr hD=>?_
 rw[A8v]at hR
 refine k_ ?_
 refine ie (k_ ?_)
 refine ix Z (A4c (c:=x / 2) Z Z Z ozw jW) ?_
 obtain ⟨v,k,hR⟩:=C3 hR
 refine ip' 5 0 [(0,.int .u64 v)] ?_ (by cases k;kernel_rfl)
 refine k_ ?_
 refine ix Z (A4c (c:=v / 4) Z Z Z ozw jW) ?_
 obtain ⟨i,e,hR⟩:=C3 hR
 refine ip' 5 0 [(0,.int .u64 i)] ?_ (by cases e;kernel_rfl)
 refine k_ ?_
 refine ix Z (A4c (c:=i / 16) Z Z Z ozw jW) ?_
 obtain ⟨b,g,hR⟩:=C3 hR
 refine ip' 4 0 [(0,.int .u64 b)] ?_ (by cases g;kernel_rfl)
 refine k_ ?_
 refine ix Z (A4c (c:=b / 256) Z Z Z ozw jW) (bP 2 0 rfl (ie (k_ ?_)))
 refine ix Z (A4c (c:=(IntKind.u64.wrap (b+(b / 256))) / 65536) Z Z Z ozw jW) ?_
 obtain ⟨h,d,hR⟩:=C3 hR
 refine ip' 2 0 [(0,.int .u64 h)] ?_ (by cases d;kernel_rfl)
 refine k_ ?_
 refine ix Z (A4c (c:=h / 4294967296) Z Z Z ozw jW) (bP 2 0 rfl (ie (kc_ ?_)))
 obtain ⟨j,f,hR⟩:=C3 hR
 refine ip' 4 0 [(2,iv j)] ?_ (by cases f;kernel_rfl)
 subst hR
 refine k_ ?_
 exact F7 hr hD
def A6w (x:Int):Int :=
 (A8v x)
theorem C3a {R:Int} (hR:A6w x=R):J7 prog 213 [.int .u64 x] [] (iv R):=by
 refine cD Tryz.func213 fun X hX hr hD=>?_
 rw[A6w]at hR
 refine k_ ?_
 refine ie (k_ ?_)
 refine zv Z (C0l Z) ?_
 refine k_ ?_
 subst hR
 exact q8
def C0r (m:Int):Bool :=
 ((decide ((cH .andNot .i64 m 255)=0))&&(decide ((A6w (IntKind.u64.wrap m))=1)))
theorem D1z (hR:C0r m=R):J7 prog 175 [iv m] [] (bv R):=by
 refine cD Tryz.func175 fun X hX hr hD=>?_
 rw[C0r]at hR
 refine k_ ?_
 refine ie (k_ ?_)
 refine zid 5 1 6 11 (decide ((A6w (IntKind.u64.wrap m))=1)) (fun b a=>?_) ?_
 ·refine bP 2 8 Z (zv Z (C3a Z) ?_)
  exact bP 2 11 Z (A1 (I1 4 6 _ b bX bU Z Z Z Z Z))
 refine bP 1 2 Z ?_
 subst hR
 refine k_ ?_
 exact F7 hr hD
def C2a (m:Int):Bool :=
 ((decide (m=3))||((C0r m)&&(decide ((cH .and .i64 m 3)=0))))
theorem D6k (hR:C2a m=R):J7 prog 177 [iv m] [] (bv R):=by
 refine cD Tryz.func177 fun X hX hr hD=>?_
 rw[C2a]at hR
 refine k_ ?_
 refine ie (k_ ?_)
 refine zir 8 1 5 13 ((C0r m)&&(decide ((cH .and .i64 m 3)=0))) (fun c a=>?_) ?_
 ·refine k_ ?_
  refine zv Z (D1z Z) ?_
  refine k_ ?_
  refine zia 4 1 8 12 (decide ((cH .and .i64 m 3)=0)) (fun b=>?_) ?_
  ·exact bP 4 12 Z (A1 (I1 2 8 _ b bX bU Z Z Z Z Z))
  refine k_ ?_
  exact I1 6 5 _ c bX bU Z Z Z Z Z
 refine bP 1 2 Z ?_
 subst hR
 refine k_ ?_
 exact F7 hr hD
def C2j (m:Int):Bool :=
 ((decide ((0:Int)≤m))&&(decide (m≤5)))
theorem D5k (hR:C2j m=R):J7 prog 179 [iv m] [] (bv R):=by
 refine cD Tryz.func179 fun X hX hr hD=>?_
 rw[C2j]at hR
 refine k_ ?_
 refine ie (k_ ?_)
 refine zid 3 1 5 8 (decide (m≤5)) (fun b a=>?_) ?_
 ·exact bP 3 8 Z (A1 (I1 2 5 8 b bX bU Z Z Z Z Z))
 refine bP 1 2 Z ?_
 subst hR
 refine k_ ?_
 exact F7 hr hD
def B7a (k:Int) (a:Int):Bool :=
 (bif (decide (k=0)) then (B4d a) else (bif (decide (k=1)) then (C0r a) else (bif (decide (k=2)) then (C2a a) else (bif (decide (k=3)) then (C2j a) else (bif (decide (k=4)) then (B4d a) else (bif (decide (k=5)) then (B4d a) else (bif (decide (k=6)) then (B4d a) else false)))))))
theorem C4q (k:Int) (b:Int) (a:A4b k A2r=true) (R:Bool) (hR:B7a k b=R):D7 prog (lkV k .nilFunc A2r) [iv b] [] (bv R):=by
 subst hR
 unfold B7a
 unfold A2r at *
 refine D7.cons _ a (fun e=>?_) (fun a e=>?_)
 ·exact d7 (B6r Z)
 refine D7.cons _ a (fun e=>?_) (fun a e=>?_)
 ·exact d7 (D1z Z)
 refine D7.cons _ a (fun e=>?_) (fun a e=>?_)
 ·exact d7 (D6k Z)
 refine D7.cons _ a (fun e=>?_) (fun a e=>?_)
 ·exact d7 (D5k Z)
 refine D7.cons _ a (fun e=>?_) (fun a e=>?_)
 ·exact d7 (B6r Z)
 refine D7.cons _ a (fun e=>?_) (fun a e=>?_)
 ·exact d7 (B6r Z)
 refine D7.cons _ a (fun e=>?_) (fun a e=>?_)
 ·exact d7 (B6r Z)
 exact D7.nil a
def W8:Ar3 :=
 {Ar3.zero with b:=255,c:=16777215}
theorem D4j {R:Ar3} (hR:W8=R):J7 prog 184 [] [] (ag (B5d R)):=by
 refine cD Tryz.func184 fun X hX hr hD=>?_
 rw[W8]at hR
 refine k_ ?_
 refine cI 1 [] (fun a=>[(0,pt a 0)]) (fun _=>(B5d Ar3.zero)) 229 fun a=>?_
 refine ie (k_ ?_)
 refine zru 2 [0] [] 0 (bx a (B5d ({Ar3.zero with b:=255,c:=16777215})) 229) ?_
 subst hR
 exact ie (A8 (cc (I9 Z (E8 G4y Z 0)) ()))
def I2 (c:Col):Int :=
 (bif ((((decide (c.kind<0))||(decide ((3:Int)≤c.kind)))||(decide (c.n<0)))||(decide ((([W8.a,W8.b,W8.c]:List Int).getD ((c.kind).toNat) 0)<c.n))) then 130 else 0)
theorem oqd (h:p:=by simp +zetaDelta only [List.length_cons,List.length_nil];omega):p:=h
theorem A8o {c:Col} {R:Int} (hR:I2 c=R):J7 prog 113 [ag (R1 c)] [] (iv R):=by
 refine cD Tryz.func113 fun X hX hr hD=>?_
 rw[I2]at hR
 refine k_ ?_
 refine cI 2 [] (fun f=>[(1,pt f 0)]) (fun _=>(R1 c)) 49 fun f=>?_
 refine ie ?_
 refine k_ ?_
 refine zv Z (D4j Z) ?_
 refine cI 2 [0] (fun g=>[(3,pt g 0)]) (fun _=>(B5d W8)) 229 fun g=>?_
 refine ie (sd 22 Z oki Z ?_)
 refine pg1 4 [1] 8 Z ?_
 refine zdr 4 14 8 12 (decide (3≤c.kind)) (fun o l=>?_) ?_
 ·refine pg1 4 [1] 12 Z ?_
  exact zad 2 8 _ o
 refine k_ ?_
 refine zdO 4 9 13 17 (decide (c.n<0)) (fun e=>?_) ?_
 ·have k:=bV e
  refine pg1 4 [1] 17 Z ?_
  exact zad 2 13 _ e
 refine k_ ?_
 refine zdO 8 0 18 26 (decide (([W8.a,W8.b,W8.c].getD ((c.kind).toNat) 0)<c.n)) (fun i=>?_) ?_
 ·have m:=bV i
  refine pg2 4 [1,1] 20 22 Z ?_
  refine dd Z (A9f Tryz.underlying229 cE Z Z Z ((c.kind).toNat) opx opx) (dd Z (Y2 (u:=iv ([W8.a,W8.b,W8.c].getD _ 0)) (c:=H0) cE jJ Z Z 0 Z _ 0 Z (gd 0 oqd) Z) (pd1 2 26 Z ?_))
  exact zad 6 18 _ i
 refine de ?_
 refine zjb Z hR ?_ ?_<;>intro hR h
 ·have d:=bV h
  refine k_ ?_
  subst hR
  exact q8
 refine k_ ?_
 subst hR
 exact q8
theorem gdE (h:k<l.length):l.getD k d=l[k]:=by grind
theorem gdN (h:¬ k<l.length):l.getD k d=d:=by grind
theorem B0g {k:Int} {z:Value}:∀ {l:List (Int×Value)},z.oneCell'=true→(l.all fun p=>p.2.oneCell')=true→(lkV k z l).oneCell'=true
 | [],hz,_=>hz
 | (a,v)::l,hz,h=>by
  simp only [List.all_cons,Bool.and_eq_true] at h
  unfold lkV
  cases decide (k=a) with
  | true=>exact h.1
  | false=>exact B0g hz h.2
def A0q (a:Act):Int :=
 (bif ((((!(A4b a.n A2r))||(!decide (a.kind=39)))||(!(decide (a.text=([]:List UInt8)))))||(!(B7a a.n a.m))) then 141 else (bif (((!(lkB a.n false A8y))&&(!(decide (a.color=ZU))))||(!decide ((I2 a.color)=0))) then 141 else 0))
theorem och (h:p:=by first|assumption|simp_all):p:=h
theorem C0k {a:Act} {R:Int} (hR:A0q a=R):J7 prog 76 [ag (A2 a)] [] (iv R):=by
 refine cD Tryz.func76 fun X hX hr hD=>?_
 rw[A0q]at hR
 refine bS Z (cI 2 [] (fun b1=>[(1,pt b1 0)]) (fun _=>(A2 a)) 51 fun b1=>(ie (zS [(10,[0])] ?_)))
 refine hq1 [1] 7 Z ?_
 refine gl 2 [0] Z (B8 (v:=iv _) cE Z Z 0) ?_
 refine gf 0 7 ?_ ?_
 ·refine ghc 0 [0] Z (C9f Z) fun ⟨b2,g,h,f⟩=>?_
  refine gf 3 7 ?_ ?_
  ·refine gh 3 [0] Z (Det.tri (J8.det (by exact G1 (B0i (E1n g h f) C0a Z Z Z 0 Z oki oki) (C6q g h f a.n)))) fun _=>?_
   refine hqV [4,5,6] [(10,ag [(lkV a.n .nilFunc A2r),bv (lkB a.n false A8y),(lkV a.n .nilFunc (B3a g h f))]),(11,bv (A4b a.n A2r))] ?_
   refine go 7 [0] Z (A5p E4n Z) fun b6=>?_
   refine go 8 [0] Z (O9 (us:=[(lkV a.n .nilFunc A2r),bv (lkB a.n false A8y),(lkV a.n .nilFunc (B3a g h f))]) (cs':=[(lkV a.n .nilFunc A2r),bv (lkB a.n false A8y),(lkV a.n .nilFunc (B3a g h f))]) E1f Z Z Z 0 Z Z Z (by simp only [List.all_cons,List.all_nil,Bool.and_true,Bool.and_eq_true];exact ⟨B0g Z Z,rfl,B0g Z Z⟩)) fun _=>?_
   refine hq1 [9] 4 Z ?_
   refine ge ?_
   refine A3 (bS Z (bP 3 14 Z ?_))
   refine zio 4 13 14 18 (!decide (a.kind=39)) (fun g7=>?_) ?_
   ·refine bP 1 15 Z (ix Z (B8 (v:=iv _) cE Z Z 5) (bP 2 18 Z ?_))
    exact A1 (I1 4 14 _ g7 bX bU Z Z Z Z Z)
   refine bP 1 19 Z ?_
   refine zio 4 8 19 23 (!(decide (a.text=[]))) (fun g8=>?_) ?_
   ·have ap:=bV g8
    refine bP 1 20 Z (ix Z (B8 (v:=sv _) ty9 Z Z 5) (ix Z (B2u Z Z Z) (bP 1 23 Z ?_)))
    exact A1 (I1 5 19 _ g8 bX bU Z Z Z Z Z)
   refine bP 1 24 Z ?_
   refine zio 7 0 24 31 (!(B7a a.n a.m)) (fun g9=>?_) ?_
   ·have am:=bV g9
    refine bP 1 25 Z (ix Z (B8 C7w Z Z 0) (bP 1 27 Z (ix Z (B8 (v:=iv _) cE Z Z 5) (ixc Z (B0h (C4q _ _ och _ Z) Z Z Z Z bX) (bP 2 31 Z ?_)))))
    exact A1 (I1 7 24 _ g9 bX bU Z Z Z Z Z)
   refine ie ?_
   refine zjb Z hR ?_ ?_<;>intro hR k
   ·have s:=bV k
    refine bS Z (bP 1 2 Z ?_)
    subst hR
    exact q8
   refine A4 (nx (A3 (bS Z (cB 4 [0] 35 Z ?_))))
   refine zia 5 6 35 40 (!(decide (a.color=ZU))) (fun a5=>?_) ?_
   ·refine bP 1 36 Z (ix Z (G6 (us:=R1 _) C4m Z Z 5) (bY 1 2 [] [(38,ag _)] (ix Z (A0f (b:=ZU) B5g Z Z Z) (bP 1 40 Z ?_))))
    exact A1 (I1 6 35 _ a5 bX bU Z Z Z Z Z)
   refine bP 1 41 Z ?_
   refine zio 5 0 41 46 (!decide ((I2 a.color)=0)) (fun a0=>?_) ?_
   ·have aj:=bV a0
    refine bP 1 42 Z (ix Z (G6 (us:=R1 _) C4m Z Z 5) (zv Z (A8o Z) (bP 2 46 Z ?_)))
    exact A1 (I1 5 41 _ a0 bX bU Z Z Z Z Z)
   refine ie ?_
   refine zjb Z hR ?_ ?_<;>intro hR i
   ·have x:=bV i
    refine bS Z (bP 1 2 Z ?_)
    subst hR
    exact q8
   refine A4 (nx (bS Z (bP 1 2 Z ?_)))
   subst hR
   exact q8
  ·refine gh 7 [0] Z (A5p E4n Z) fun ak=>?_
   refine go 3 [0] Z (Det.tri (J8.det (by exact G1 (B0i (E1n g h f) C0a Z Z Z 1 Z oki oki) (C6q g h f a.n)))) fun _=>?_
   refine hqV [4,5,6] [(10,ag [(lkV a.n .nilFunc A2r),bv (lkB a.n false A8y),(lkV a.n .nilFunc (B3a g h f))]),(11,bv (A4b a.n A2r))] ?_
   refine go 8 [0] Z (O9 (us:=[(lkV a.n .nilFunc A2r),bv (lkB a.n false A8y),(lkV a.n .nilFunc (B3a g h f))]) (cs':=[(lkV a.n .nilFunc A2r),bv (lkB a.n false A8y),(lkV a.n .nilFunc (B3a g h f))]) E1f Z Z Z 0 Z Z Z (by simp only [List.all_cons,List.all_nil,Bool.and_true,Bool.and_eq_true];exact ⟨B0g Z Z,rfl,B0g Z Z⟩)) fun _=>?_
   refine hq1 [9] 4 Z ?_
   refine ge ?_
   refine A3 (bS Z (bP 3 14 Z ?_))
   refine zio 4 13 14 18 (!decide (a.kind=39)) (fun a6=>?_) ?_
   ·refine bP 1 15 Z (ix Z (B8 (v:=iv _) cE Z Z 5) (bP 2 18 Z ?_))
    exact A1 (I1 4 14 _ a6 bX bU Z Z Z Z Z)
   refine bP 1 19 Z ?_
   refine zio 4 8 19 23 (!(decide (a.text=[]))) (fun w=>?_) ?_
   ·have aa:=bV w
    refine bP 1 20 Z (ix Z (B8 (v:=sv _) ty9 Z Z 5) (ix Z (B2u Z Z Z) (bP 1 23 Z ?_)))
    exact A1 (I1 5 19 _ w bX bU Z Z Z Z Z)
   refine bP 1 24 Z ?_
   refine zio 7 0 24 31 (!(B7a a.n a.m)) (fun y=>?_) ?_
   ·have ai:=bV y
    refine bP 1 25 Z (ix Z (B8 C7w Z Z 0) (bP 1 27 Z (ix Z (B8 (v:=iv _) cE Z Z 5) (ixc Z (B0h (C4q _ _ och _ Z) Z Z Z Z bX) (bP 2 31 Z ?_)))))
    exact A1 (I1 7 24 _ y bX bU Z Z Z Z Z)
   refine ie ?_
   refine zjb Z hR ?_ ?_<;>intro hR a1
   ·have z:=bV a1
    refine bS Z (bP 1 2 Z ?_)
    subst hR
    exact q8
   refine A4 (nx (A3 (bS Z (cB 4 [0] 35 Z ?_))))
   refine zia 5 6 35 40 (!(decide (a.color=ZU))) (fun a8=>?_) ?_
   ·refine bP 1 36 Z (ix Z (G6 (us:=R1 _) C4m Z Z 5) (bY 1 2 [] [(38,ag _)] (ix Z (A0f (b:=ZU) B5g Z Z Z) (bP 1 40 Z ?_))))
    exact A1 (I1 6 35 _ a8 bX bU Z Z Z Z Z)
   refine bP 1 41 Z ?_
   refine zio 5 0 41 46 (!decide ((I2 a.color)=0)) (fun l=>?_) ?_
   ·have ab:=bV l
    refine bP 1 42 Z (ix Z (G6 (us:=R1 _) C4m Z Z 5) (zv Z (A8o Z) (bP 2 46 Z ?_)))
    exact A1 (I1 5 41 _ l bX bU Z Z Z Z Z)
   refine ie ?_
   refine zjb Z hR ?_ ?_<;>intro hR u
   ·have r:=bV u
    refine bS Z (bP 1 2 Z ?_)
    subst hR
    exact q8
   refine A4 (nx (bS Z (bP 1 2 Z ?_)))
   subst hR
   exact q8
 ·refine gh 7 [0] Z (A5p E4n Z) fun al=>?_
  refine gc 0 [0] Z (C9f Z) fun ⟨an,c,e,d⟩=>?_
  refine go 3 [0] Z (Det.tri (J8.det (by exact G1 (B0i (E1n c e d) C0a Z Z Z 0 Z oki oki) (C6q c e d a.n)))) fun _=>?_
  refine hqV [4,5,6] [(10,ag [(lkV a.n .nilFunc A2r),bv (lkB a.n false A8y),(lkV a.n .nilFunc (B3a c e d))]),(11,bv (A4b a.n A2r))] ?_
  refine go 8 [0] Z (O9 (us:=[(lkV a.n .nilFunc A2r),bv (lkB a.n false A8y),(lkV a.n .nilFunc (B3a c e d))]) (cs':=[(lkV a.n .nilFunc A2r),bv (lkB a.n false A8y),(lkV a.n .nilFunc (B3a c e d))]) E1f Z Z Z 4 Z Z Z (by simp only [List.all_cons,List.all_nil,Bool.and_true,Bool.and_eq_true];exact ⟨B0g Z Z,rfl,B0g Z Z⟩)) fun _=>?_
  refine hq1 [9] 4 Z ?_
  refine ge ?_
  refine A3 (bS Z (bP 3 14 Z ?_))
  refine zio 4 13 14 18 (!decide (a.kind=39)) (fun a4=>?_) ?_
  ·refine bP 1 15 Z (ix Z (B8 (v:=iv _) cE Z Z 5) (bP 2 18 Z ?_))
   exact A1 (I1 4 14 _ a4 bX bU Z Z Z Z Z)
  refine bP 1 19 Z ?_
  refine zio 4 8 19 23 (!(decide (a.text=[]))) (fun a3=>?_) ?_
  ·have ah:=bV a3
   refine bP 1 20 Z (ix Z (B8 (v:=sv _) ty9 Z Z 5) (ix Z (B2u Z Z Z) (bP 1 23 Z ?_)))
   exact A1 (I1 5 19 _ a3 bX bU Z Z Z Z Z)
  refine bP 1 24 Z ?_
  refine zio 7 0 24 31 (!(B7a a.n a.m)) (fun j=>?_) ?_
  ·have ad:=bV j
   refine bP 1 25 Z (ix Z (B8 C7w Z Z 4) (bP 1 27 Z (ix Z (B8 (v:=iv _) cE Z Z 5) (ixc Z (B0h (C4q _ _ och _ Z) Z Z Z Z bX) (bP 2 31 Z ?_)))))
   exact A1 (I1 7 24 _ j bX bU Z Z Z Z Z)
  refine ie ?_
  refine zjb Z hR ?_ ?_<;>intro hR q
  ·have o:=bV q
   refine bS Z (bP 1 2 Z ?_)
   subst hR
   exact q8
  refine A4 (nx (A3 (bS Z (bP 1 32 Z (ix Z (B8 ty4 Z Z 4) (bP 2 35 Z ?_))))))
  refine zia 5 6 35 40 (!(decide (a.color=ZU))) (fun a7=>?_) ?_
  ·refine bP 1 36 Z (ix Z (G6 (us:=R1 _) C4m Z Z 5) (bY 1 2 [] [(38,ag _)] (ix Z (A0f (b:=ZU) B5g Z Z Z) (bP 1 40 Z ?_))))
   exact A1 (I1 6 35 _ a7 bX bU Z Z Z Z Z)
  refine bP 1 41 Z ?_
  refine zio 5 0 41 46 (!decide ((I2 a.color)=0)) (fun a2=>?_) ?_
  ·have ae:=bV a2
   refine bP 1 42 Z (ix Z (G6 (us:=R1 _) C4m Z Z 5) (zv Z (A8o Z) (bP 2 46 Z ?_)))
   exact A1 (I1 5 41 _ a2 bX bU Z Z Z Z Z)
  refine ie ?_
  refine zjb Z hR ?_ ?_<;>intro hR t
  ·have p:=bV t
   refine bS Z (bP 1 2 Z ?_)
   subst hR
   exact q8
  refine A4 (nx (bS Z (bP 1 2 Z ?_)))
  subst hR
  exact q8
def G2 (s:Sty):Int :=
 (bif (((!decide ((cH .andNot .i64 s.attr 255)=0))||(decide (s.under<0)))||(decide ((5:Int)<s.under))) then 140 else (bif (!decide ((I2 s.fore)=0)) then (I2 s.fore) else (bif (!decide ((I2 s.back)=0)) then (I2 s.back) else (bif (!decide ((I2 s.line)=0)) then (I2 s.line) else 0))))
theorem A8r {s:Sty} {R:Int} (hR:G2 s=R):J7 prog 103 [ag (B7 s)] [] (iv R):=by
 refine cD Tryz.func103 fun X hX hr hD=>?_
 rw[G2]at hR
 refine bS Z (cI 2 [] (fun d=>[(1,pt d 0)]) (fun _=>(B7 s)) 63 fun d=>(ie (A3 (bS Z (cB 5 [0] 10 Z ?_)))))
 refine zio 4 5 10 14 (decide (s.under<0)) (fun f=>?_) ?_
 ·have k:=bV f
  refine cB 4 [0] 14 Z ?_
  exact A1 (I1 2 10 _ f bX bU Z Z Z Z Z)
 refine bP 1 15 Z ?_
 refine zio 4 0 15 19 (decide (5<s.under)) (fun j=>?_) ?_
 ·have o:=bV j
  refine cB 4 [0] 19 Z ?_
  exact A1 (I1 2 15 _ j bX bU Z Z Z Z Z)
 refine ie ?_
 refine zjb Z hR ?_ ?_<;>intro hR h
 ·have a:=bV h
  refine bS Z (bP 1 2 Z ?_)
  subst hR
  exact q8
 refine A4 (nx (A3 (bS Z (bY 8 0 [0,0,0] [(26,ag [iv s.fore.kind,iv s.fore.n,iv s.back.kind,iv s.back.n,iv s.line.kind,iv s.line.n]),(27,iv 0)] (ie (A9 (A1g 5 ?_)))))))
 refine E9 (bS Z (bP 1 28 Z (ie (A3 (K1 Z (A4 (nx (A3 (A9 (bS Z (ix Z (F3 (v:=ag [_,_]) Tryz.underlying255 C4m Z Z Z 0) ?_)))))))))))
 refine cI 2 [0] (fun e=>[(4,pt e 0)]) (fun _=>(R1 s.fore)) 49 fun e=>?_
 refine ie (bS Z (bY 1 2 [0] [(30,ag (R1 s.fore))] (zv Z (A8o Z) (bP 1 5 Z (ie (bS Z (bP 2 33 Z (ie ?_))))))))
 refine zjn Z hR ?_ ?_<;>intro hR r l
 ·refine bS Z (bP 2 2 Z ?_)
  subst hR
  exact q8
 refine A4 (nx (A0 2 Z (ix Z (B1 (c:=1)) (bP 1 27 Z (A1 (E9 (bS Z (bP 1 28 Z (ie (A3 (K1 Z (A4 (nx (A3 (A9 (bS Z (ix Z (F3 (v:=ag [_,_]) Tryz.underlying255 C4m Z Z Z 1) ?_)))))))))))))))))
 refine cI 2 [0] (fun b=>[(4,pt b 0)]) (fun _=>(R1 s.back)) 49 fun b=>?_
 refine ie (bS Z (bY 1 2 [0] [(30,ag (R1 s.back))] (zv Z (A8o Z) (bP 1 5 Z (ie (bS Z (bP 2 33 Z (ie ?_))))))))
 refine zjn Z hR ?_ ?_<;>intro hR q m
 ·refine bS Z (bP 2 2 Z ?_)
  subst hR
  exact q8
 refine A4 (nx (A0 2 Z (ix Z (B1 (c:=2)) (bP 1 27 Z (A1 (E9 (bS Z (bP 1 28 Z (ie (A3 (K1 Z (A4 (nx (A3 (A9 (bS Z (ix Z (F3 (v:=ag [_,_]) Tryz.underlying255 C4m Z Z Z 2) ?_)))))))))))))))))
 refine cI 2 [0] (fun i=>[(4,pt i 0)]) (fun _=>(R1 s.line)) 49 fun i=>?_
 refine ie (bS Z (bY 1 2 [0] [(30,ag (R1 s.line))] (zv Z (A8o Z) (bP 1 5 Z (ie (bS Z (bP 2 33 Z (ie ?_))))))))
 refine zjn Z hR ?_ ?_<;>intro hR p g
 ·refine bS Z (bP 2 2 Z ?_)
  subst hR
  exact q8
 refine A4 (nx (A0 2 Z (ix Z (B1 (c:=3)) (bP 1 27 Z (A1 (E9 (bS Z (bP 1 28 Z (ie (A3 (A5t Z (F1 (nx (bS Z (bP 1 2 Z ?_)))))))))))))))
 subst hR
 exact q8
end
section
open Go Go.Fen open Go.IntKind (i64) open Tryz (prog)
variable {R:List Int} {a:Act} {lk:Nat} {lq:kQ} {p:Prop}
theorem E4h:ApTy prog 251 289 1 24:=⟨by rfl,by rfl,rfl⟩
theorem N3:SlTy prog 31 51 6:=⟨by rfl,by rfl⟩
theorem A8w:SlTy prog 251 289 1:=⟨by rfl,by rfl⟩
theorem C5s:Ty prog 51 6 true:=⟨by rfl⟩
theorem A1k:Ty prog 289 1 true:=⟨by rfl⟩
theorem D2b:Ty prog 324 3 true:=⟨by rfl⟩
theorem G4i:Ty prog 325 24 true:=⟨by rfl⟩
def V6 (l:List Int):List Int :=
 l
theorem R5 {l:List Int} (hR:V6 l=R) (b:l.length≤9223372036854775807:=by exact bW) (c:l.length≤lk:=by exact bW):cM prog 230 [.slice lq l.length lk] [] [sl H0 lq l] ({t:kQ×Nat // R.length≤t.2∧R.length≤9223372036854775807}) (fun x=>ag [.slice x.1.1 R.length x.1.2]) (fun x=>[]) (fun x=>[sl H0 x.1.1 R]):=by
 refine cD Tryz.func230 fun X hX hr hD=>?_
 rw[V6]at hR
 refine k_ ?_
 refine cI 1 [] (fun a=>[(2,pt a 0)]) (fun _=>[.slice none 0 0]) 289 fun a=>?_
 refine ie (kc_ ?_)
 refine zru 3 [0] [] 0 (bx a [.slice lq l.length lk] 289) ?_
 subst hR
 exact ie (A8 (cc (I9 Z (E8 A1k Z 0)) (zq _ _)))
def B7d (a:Act):List Int :=
 (bif (decide (a.color.kind=0)) then (B5 (V6 ([(i64.wrap ((i64.wrap ((38:Int)+(i64.wrap ((10:Int) * (i64.wrap (a.n - (4:Int)))))))+(1:Int)))]:List Int)) fun (b:List Int)=>b) else (bif (decide (a.color.kind=2)) then (B5 (V6 ([(i64.wrap ((38:Int)+(i64.wrap ((10:Int) * (i64.wrap (a.n - (4:Int))))))),2,(-1),(a.color.n / 65536),(cH .and .i64 (a.color.n / 256) 255),(cH .and .i64 a.color.n 255)]:List Int)) fun (d:List Int)=>d) else (bif ((decide (a.color.n<8))&&(!decide (a.n=6))) then (B5 (V6 ([(i64.wrap ((i64.wrap ((i64.wrap ((38:Int)+(i64.wrap ((10:Int) * (i64.wrap (a.n - (4:Int))))))) - (8:Int)))+a.color.n))]:List Int)) fun (e:List Int)=>e) else (bif ((decide (a.color.n<16))&&(!decide (a.n=6))) then (B5 (V6 ([(i64.wrap ((i64.wrap ((i64.wrap ((i64.wrap ((38:Int)+(i64.wrap ((10:Int) * (i64.wrap (a.n - (4:Int)))))))+(52:Int)))+a.color.n)) - (8:Int)))]:List Int)) fun (f:List Int)=>f) else (B5 (V6 ([(i64.wrap ((38:Int)+(i64.wrap ((10:Int) * (i64.wrap (a.n - (4:Int))))))),5,a.color.n]:List Int)) fun (c:List Int)=>c)))))
theorem E4e (hR:B7d a=R):cM prog 231 [ag (A2 a)] [] [] ({t:kQ×Nat // R.length≤t.2∧R.length≤9223372036854775807}) (fun x=>ag [.slice x.1.1 R.length x.1.2]) (fun x=>[]) (fun x=>[sl H0 x.1.1 R]):=by
 refine cD Tryz.func231 fun X hX hr hD=>?_
 rw[B7d]at hR
 refine bS Z (B3r 2 [] (fun b1 i=>[(1,pt _ 0),(2,pt i 0)]) (fun _ _=>(A2 a)) (fun _ _=>[.slice none 0 0]) 51 289 fun b1 i=>(ie (bS Z (cB 2 [1] 6 Z (ix Z (J8.pure Z) (ix Z (J8.pure Z) (ix Z (J8.pure Z) (bP 1 3 Z (ie (bS Z (cB 4 [1] 4 Z ?_)))))))))))
 refine ie (A9 (bS Z (cB 5 [1] 17 Z (ie ?_))))
 refine cK Z hR ?_ ?_<;>intro hR h3 aw
 ·refine bS Z (bP 1 22 Z (ix Z (J8.pure Z) (it Z (B0 (c:=H0) (xs:=[(i64.wrap ((i64.wrap ((38:Int)+(i64.wrap ((10:Int) * (i64.wrap (a.n - (4:Int)))))))+(1:Int)))]) I0 Z Z Z oki) fun b4=>?_)))
  have:([(i64.wrap ((i64.wrap ((38:Int)+(i64.wrap ((10:Int) * (i64.wrap (a.n - (4:Int)))))))+(1:Int)))]:List Int).length=1:=rfl
  obtain ⟨y0,aa,hR⟩:=C3 hR
  refine zc Z (R5 (l:=([(i64.wrap ((i64.wrap ((38:Int)+(i64.wrap ((10:Int) * (i64.wrap (a.n - (4:Int)))))))+(1:Int)))]:List Int)) (lq:=(some ⟨b4,0,none⟩)) (lk:=1) aa) fun ⟨⟨q5,k6⟩,a8⟩=>?_
  obtain ⟨az,ay⟩:=a8
  refine zru 1 [0] [] 0 (bx i [.slice q5 y0.length k6] 289) ?_
  subst hR
  refine ie (A8 ?_)
  exact cc (I9 Z (E8 A1k Z 0)) _
 refine bS Z (cB 5 [1] 26 Z (ie ?_))
 refine cK Z hR ?_ ?_<;>intro hR av ak
 ·refine bS Z (cF 2 31 32 Z (ix Z (A4c (c:=a.color.n / 65536) Z Z Z ozw jW) (bP 1 34 rfl (ix Z (A4c (c:=a.color.n / 256) Z Z Z ozw jW) (cF 3 36 38 rfl (it rfl (B0 (c:=H0) (xs:=[(i64.wrap ((38:Int)+(i64.wrap ((10:Int) * (i64.wrap (a.n - (4:Int))))))),2,(-1),(a.color.n / 65536),(cH .and .i64 (a.color.n / 256) 255),(cH .and .i64 a.color.n 255)]) I0 Z Z Z oki) fun y=>?_))))))
  have:([(i64.wrap ((38:Int)+(i64.wrap ((10:Int) * (i64.wrap (a.n - (4:Int))))))),2,(-1),(a.color.n / 65536),(cH .and .i64 (a.color.n / 256) 255),(cH .and .i64 a.color.n 255)]:List Int).length=6:=rfl
  obtain ⟨y1,a0,hR⟩:=C3 hR
  refine zc Z (R5 (l:=([(i64.wrap ((38:Int)+(i64.wrap ((10:Int) * (i64.wrap (a.n - (4:Int))))))),2,(-1),(a.color.n / 65536),(cH .and .i64 (a.color.n / 256) 255),(cH .and .i64 a.color.n 255)]:List Int)) (lq:=(some ⟨y,0,none⟩)) (lk:=6) a0) fun ⟨⟨h,m⟩,q⟩=>?_
  obtain ⟨ae,am⟩:=q
  refine zru 1 [0] [] 0 (bx i [.slice h y1.length m] 289) ?_
  subst hR
  refine ie (A8 ?_)
  exact cc (I9 Z (E8 A1k Z 0)) _
 refine bS Z (bP 3 44 Z ?_)
 refine zid 4 1 44 48 (!decide (a.n=6)) (fun a7 ap=>?_) ?_
 ·refine cB 4 [1] 48 Z ?_
  exact A1 (I1 2 44 _ a7 bX bU Z Z Z Z Z)
 refine bP 1 41 Z (ie ?_)
 refine zjb Z hR ?_ ?_<;>intro hR v
 ·have s:=bV v
  refine bS Z (bP 1 49 Z (ix Z (J8.pure Z) (bP 1 51 Z (ix Z (J8.pure Z) (it Z (B0 (c:=H0) (xs:=[(i64.wrap ((i64.wrap ((i64.wrap ((38:Int)+(i64.wrap ((10:Int) * (i64.wrap (a.n - (4:Int))))))) - (8:Int)))+a.color.n))]) I0 Z Z Z oki) fun a9=>?_)))))
  have:([(i64.wrap ((i64.wrap ((i64.wrap ((38:Int)+(i64.wrap ((10:Int) * (i64.wrap (a.n - (4:Int))))))) - (8:Int)))+a.color.n))]:List Int).length=1:=rfl
  obtain ⟨y4,a1,hR⟩:=C3 hR
  refine zc Z (R5 (l:=([(i64.wrap ((i64.wrap ((i64.wrap ((38:Int)+(i64.wrap ((10:Int) * (i64.wrap (a.n - (4:Int))))))) - (8:Int)))+a.color.n))]:List Int)) (lq:=(some ⟨a9,0,none⟩)) (lk:=1) a1) fun ⟨⟨f,j⟩,p⟩=>?_
  obtain ⟨af,ai⟩:=p
  refine zru 1 [0] [] 0 (bx i [.slice f y4.length j] 289) ?_
  subst hR
  refine ie (A8 ?_)
  exact cc (I9 Z (E8 A1k Z 0)) _
 refine bS Z (bP 3 58 Z ?_)
 refine zid 4 1 58 62 (!decide (a.n=6)) (fun a6 ar=>?_) ?_
 ·refine cB 4 [1] 62 Z ?_
  exact A1 (I1 2 58 _ a6 bX bU Z Z Z Z Z)
 refine bP 1 55 Z (ie ?_)
 refine zjb Z hR ?_ ?_<;>intro hR u
 ·have w:=bV u
  refine bS Z (bP 1 63 Z (ix Z (J8.pure Z) (bP 1 65 Z (ix Z (J8.pure Z) (ix Z (J8.pure Z) (it Z (B0 (c:=H0) (xs:=[(i64.wrap ((i64.wrap ((i64.wrap ((i64.wrap ((38:Int)+(i64.wrap ((10:Int) * (i64.wrap (a.n - (4:Int)))))))+(52:Int)))+a.color.n)) - (8:Int)))]) I0 Z Z Z oki) fun a3=>?_))))))
  have:([(i64.wrap ((i64.wrap ((i64.wrap ((i64.wrap ((38:Int)+(i64.wrap ((10:Int) * (i64.wrap (a.n - (4:Int)))))))+(52:Int)))+a.color.n)) - (8:Int)))]:List Int).length=1:=rfl
  obtain ⟨y5,a5,hR⟩:=C3 hR
  refine zc Z (R5 (l:=([(i64.wrap ((i64.wrap ((i64.wrap ((i64.wrap ((38:Int)+(i64.wrap ((10:Int) * (i64.wrap (a.n - (4:Int)))))))+(52:Int)))+a.color.n)) - (8:Int)))]:List Int)) (lq:=(some ⟨a3,0,none⟩)) (lk:=1) a5) fun ⟨⟨k,d⟩,r⟩=>?_
  obtain ⟨aq,ac⟩:=r
  refine zru 1 [0] [] 0 (bx i [.slice k y5.length d] 289) ?_
  subst hR
  refine ie (A8 ?_)
  exact cc (I9 Z (E8 A1k Z 0)) _
 refine bS Z (cF 2 13 14 Z (it Z (B0 (c:=H0) (xs:=[(i64.wrap ((38:Int)+(i64.wrap ((10:Int) * (i64.wrap (a.n - (4:Int))))))),5,a.color.n]) I0 Z Z Z oki) fun z=>?_))
 have:([(i64.wrap ((38:Int)+(i64.wrap ((10:Int) * (i64.wrap (a.n - (4:Int))))))),5,a.color.n]:List Int).length=3:=rfl
 obtain ⟨y3,a2,hR⟩:=C3 hR
 refine zc Z (R5 (l:=([(i64.wrap ((38:Int)+(i64.wrap ((10:Int) * (i64.wrap (a.n - (4:Int))))))),5,a.color.n]:List Int)) (lq:=(some ⟨z,0,none⟩)) (lk:=3) a2) fun ⟨⟨e,g⟩,o⟩=>?_
 obtain ⟨aj,au⟩:=o
 refine zru 1 [0] [] 0 (bx i [.slice e y3.length g] 289) ?_
 subst hR
 refine ie (A8 ?_)
 exact cc (I9 Z (E8 A1k Z 0)) _
def Q8 (a:Act):List Int :=
 (bif (decide (a.n=0)) then (B5 (V6 ([0]:List Int)) fun (u:List Int)=>u) else (bif ((decide (a.n=3))&&(decide (a.m=0))) then (B5 (V6 ([24]:List Int)) fun (s:List Int)=>s) else (bif ((decide (a.n=3))&&(decide (a.m=1))) then (B5 (V6 ([4]:List Int)) fun (t:List Int)=>t) else (bif (decide (a.n=3)) then (B5 (V6 ([4,a.m]:List Int)) fun (x:List Int)=>x) else (bif (decide ((4:Int)≤a.n)) then (B5 (B7d a) fun (e:List Int)=>e) else (bif (decide ((cH .and .i64 1 a.m)=0)) then (bif (decide ((cH .and .i64 2 a.m)=0)) then (bif (decide ((cH .and .i64 4 a.m)=0)) then (bif (decide ((cH .and .i64 8 a.m)=0)) then (bif (decide ((cH .and .i64 16 a.m)=0)) then (bif (decide ((cH .and .i64 32 a.m)=0)) then (bif (decide ((cH .and .i64 64 a.m)=0)) then (bif (decide ((cH .and .i64 128 a.m)=0)) then ([]:List Int) else (bif (decide (a.n=1)) then (B5 (V6 ([53]:List Int)) fun (v:List Int)=>v) else (B5 (V6 ([55]:List Int)) fun (r:List Int)=>r))) else (bif (decide (a.n=1)) then (B5 (V6 ([9]:List Int)) fun (j:List Int)=>j) else (B5 (V6 ([29]:List Int)) fun (d:List Int)=>d))) else (bif (decide (a.n=1)) then (B5 (V6 ([8]:List Int)) fun (f:List Int)=>f) else (B5 (V6 ([28]:List Int)) fun (p:List Int)=>p))) else (bif (decide (a.n=1)) then (B5 (V6 ([7]:List Int)) fun (k:List Int)=>k) else (B5 (V6 ([27]:List Int)) fun (b:List Int)=>b))) else (bif (decide (a.n=1)) then (B5 (V6 ([5]:List Int)) fun (h:List Int)=>h) else (B5 (V6 ([25]:List Int)) fun (c:List Int)=>c))) else (bif (decide (a.n=1)) then (B5 (V6 ([3]:List Int)) fun (l:List Int)=>l) else (B5 (V6 ([23]:List Int)) fun (q:List Int)=>q))) else (bif (decide (a.n=1)) then (B5 (V6 ([2]:List Int)) fun (g:List Int)=>g) else (B5 (V6 ([22]:List Int)) fun (o:List Int)=>o))) else (bif (decide (a.n=1)) then (B5 (V6 ([1]:List Int)) fun (i:List Int)=>i) else (B5 (V6 ([22]:List Int)) fun (w:List Int)=>w))))))))
theorem E8h (hR:Q8 a=R):cM prog 199 [ag (A2 a)] [] [P0] ({t:kQ×Nat // R.length≤t.2∧R.length≤9223372036854775807}) (fun x=>ag [.slice x.1.1 R.length x.1.2]) (fun x=>[]) (fun x=>[sl H0 x.1.1 R]):=by
 refine cD Tryz.func199 fun X hX hr hD=>?_
 rw[Q8]at hR
 refine bS Z (B3r 2 [] (fun b1 d=>[(1,pt _ 0),(2,pt d 0)]) (fun _ _=>(A2 a)) (fun _ _=>[.slice none 0 0]) 51 289 fun b1 d=>(ie (A3 (A9 (bS Z (cB 4 [1] 5 Z (ie ?_)))))))
 refine cK Z hR ?_ ?_<;>intro hR h3 fw
 ·refine bS Z (it Z (B0 (c:=H0) (xs:=[0]) I0 Z Z Z oki) fun b4=>?_)
  have:([0]:List Int).length=1:=rfl
  obtain ⟨y0,dt,hR⟩:=C3 hR
  refine zc Z (R5 (l:=([0]:List Int)) (lq:=(some ⟨b4,0,none⟩)) (lk:=1) dt) fun ⟨⟨q5,k6⟩,d9⟩=>?_
  obtain ⟨ft,g4⟩:=d9
  refine zru 1 [0] [] 0 (bx d [.slice q5 y0.length k6] 289) ?_
  subst hR
  refine ie (A8 ?_)
  exact cc (I9 Z (E8 A1k Z 0)) _
 refine bS Z (cB 4 [1] 15 Z ?_)
 refine zid 4 1 15 19 (decide (a.m=0)) (fun df fb=>?_) ?_
 ·refine cB 4 [1] 19 Z ?_
  exact zai 2 15 _ df
 refine bP 1 11 Z (ie ?_)
 refine zja Z hR ?_ ?_<;>intro hR g1 e7
 ·refine bS Z (it Z (B0 (c:=H0) (xs:=[24]) I0 Z Z Z oki) fun e3=>?_)
  have:([24]:List Int).length=1:=rfl
  obtain ⟨y1,ct,hR⟩:=C3 hR
  refine zc Z (R5 (l:=([24]:List Int)) (lq:=(some ⟨e3,0,none⟩)) (lk:=1) ct) fun ⟨⟨al,ab⟩,b5⟩=>?_
  obtain ⟨ei,ey⟩:=b5
  refine zru 1 [0] [] 0 (bx d [.slice al y1.length ab] 289) ?_
  subst hR
  refine ie (A8 ?_)
  exact cc (I9 Z (E8 A1k Z 0)) _
 refine bS Z (cB 4 [1] 26 Z ?_)
 refine zid 4 1 26 30 (decide (a.m=1)) (fun cw fh=>?_) ?_
 ·refine cB 4 [1] 30 Z ?_
  exact zai 2 26 _ cw
 refine bP 1 22 Z (ie ?_)
 refine zja Z hR ?_ ?_<;>intro hR fv f6
 ·refine bS Z (it Z (B0 (c:=H0) (xs:=[4]) I0 Z Z Z oki) fun dn=>?_)
  have:([4]:List Int).length=1:=rfl
  obtain ⟨y4,cv,hR⟩:=C3 hR
  refine zc Z (R5 (l:=([4]:List Int)) (lq:=(some ⟨dn,0,none⟩)) (lk:=1) cv) fun ⟨⟨a6,a4⟩,ci⟩=>?_
  obtain ⟨eb,ef⟩:=ci
  refine zru 1 [0] [] 0 (bx d [.slice a6 y4.length a4] 289) ?_
  subst hR
  refine ie (A8 ?_)
  exact cc (I9 Z (E8 A1k Z 0)) _
 refine bS Z (cB 4 [1] 33 Z (ie ?_))
 refine cK Z hR ?_ ?_<;>intro hR fu eu
 ·refine bS Z (cB 2 [1] 38 Z (it Z (B0 (c:=H0) (xs:=[4,a.m]) I0 Z Z Z oki) fun d7=>?_))
  have:([4,a.m]:List Int).length=2:=rfl
  obtain ⟨y5,cy,hR⟩:=C3 hR
  refine zc Z (R5 (l:=([4,a.m]:List Int)) (lq:=(some ⟨d7,0,none⟩)) (lk:=2) cy) fun ⟨⟨a7,a2⟩,bd⟩=>?_
  obtain ⟨fk,f8⟩:=bd
  refine zru 1 [0] [] 0 (bx d [.slice a7 y5.length a2] 289) ?_
  subst hR
  refine ie (A8 ?_)
  exact cc (I9 Z (E8 A1k Z 0)) _
 refine bS Z (cB 4 [1] 41 Z (ie ?_))
 refine cK Z hR ?_ ?_<;>intro hR fx eo
 ·refine bS Z (bY 1 2 [1] [(45,ag (A2 a))] ?_)
  obtain ⟨cn,bp,hR⟩:=C3 hR
  refine zc Z (E4e bp) fun ⟨⟨ak,av⟩,az⟩=>?_
  obtain ⟨eq,f5⟩:=az
  refine zru 1 [0] [] 0 (bx d [.slice ak cn.length av] 289) ?_
  subst hR
  refine ie (A8 ?_)
  exact cc (I9 Z (E8 A1k Z 0)) _
 refine A4 (nx (A3 (bS Z (ix Z (J0 (us:=[iv 1,iv 1,iv 22,iv 2,iv 2,iv 22,iv 4,iv 3,iv 23,iv 8,iv 5,iv 25,iv 16,iv 7,iv 27,iv 32,iv 8,iv 28,iv 64,iv 9,iv 29,iv 128,iv 53,iv 55]) G4i Z Z (G2w 0 Z oki) Z) (bP 1 48 Z (ie (A9 (A1g 10 (E9 (bS Z (bP 1 49 Z (ie (A3 (K1 Z (A4 (nx (A3 (A9 (bS Z (ix Z (F3 (v:=ag [_,_,_]) Tryz.underlying325 D2b Z Z Z 0) ?_))))))))))))))))))))
 refine cI 2 [0] (fun br=>[(4,pt br 0)]) (fun _=>(C7a ⟨1,1,22⟩)) 324 fun br=>?_
 refine ie (A9 (bS Z (cB 7 [0,2] 55 Z (ie ?_))))
 refine cK Z hR ?_ ?_<;>intro hR g0 e9
 ·refine A4 (nx (A0 2 Z (ix Z (B1 (c:=1)) (bP 1 48 Z (A1 (E9 (bS Z (bP 1 49 Z (ie (A3 (K1 Z (A4 (nx (A3 (A9 (bS Z (ix Z (F3 (v:=ag [_,_,_]) Tryz.underlying325 D2b Z Z Z 1) ?_)))))))))))))))))
  refine cI 2 [0] (fun c2=>[(4,pt c2 0)]) (fun _=>(C7a ⟨2,2,22⟩)) 324 fun c2=>?_
  refine ie (A9 (bS Z (cB 7 [0,3] 55 Z (ie ?_))))
  refine cK Z hR ?_ ?_<;>intro hR g2 ez
  ·refine A4 (nx (A0 2 Z (ix Z (B1 (c:=2)) (bP 1 48 Z (A1 (E9 (bS Z (bP 1 49 Z (ie (A3 (K1 Z (A4 (nx (A3 (A9 (bS Z (ix Z (F3 (v:=ag [_,_,_]) Tryz.underlying325 D2b Z Z Z 2) ?_)))))))))))))))))
   refine cI 2 [0] (fun cf=>[(4,pt cf 0)]) (fun _=>(C7a ⟨4,3,23⟩)) 324 fun cf=>?_
   refine ie (A9 (bS Z (cB 7 [0,4] 55 Z (ie ?_))))
   refine cK Z hR ?_ ?_<;>intro hR fp ea
   ·refine A4 (nx (A0 2 Z (ix Z (B1 (c:=3)) (bP 1 48 Z (A1 (E9 (bS Z (bP 1 49 Z (ie (A3 (K1 Z (A4 (nx (A3 (A9 (bS Z (ix Z (F3 (v:=ag [_,_,_]) Tryz.underlying325 D2b Z Z Z 3) ?_)))))))))))))))))
    refine cI 2 [0] (fun bh=>[(4,pt bh 0)]) (fun _=>(C7a ⟨8,5,25⟩)) 324 fun bh=>?_
    refine ie (A9 (bS Z (cB 7 [0,5] 55 Z (ie ?_))))
    refine cK Z hR ?_ ?_<;>intro hR fs ee
    ·refine A4 (nx (A0 2 Z (ix Z (B1 (c:=4)) (bP 1 48 Z (A1 (E9 (bS Z (bP 1 49 Z (ie (A3 (K1 Z (A4 (nx (A3 (A9 (bS Z (ix Z (F3 (v:=ag [_,_,_]) Tryz.underlying325 D2b Z Z Z 4) ?_)))))))))))))))))
     refine cI 2 [0] (fun bn=>[(4,pt bn 0)]) (fun _=>(C7a ⟨16,7,27⟩)) 324 fun bn=>?_
     refine ie (A9 (bS Z (cB 7 [0,6] 55 Z (ie ?_))))
     refine cK Z hR ?_ ?_<;>intro hR fz f4
     ·refine A4 (nx (A0 2 Z (ix Z (B1 (c:=5)) (bP 1 48 Z (A1 (E9 (bS Z (bP 1 49 Z (ie (A3 (K1 Z (A4 (nx (A3 (A9 (bS Z (ix Z (F3 (v:=ag [_,_,_]) Tryz.underlying325 D2b Z Z Z 5) ?_)))))))))))))))))
      refine cI 2 [0] (fun cc=>[(4,pt cc 0)]) (fun _=>(C7a ⟨32,8,28⟩)) 324 fun cc=>?_
      refine ie (A9 (bS Z (cB 7 [0,7] 55 Z (ie ?_))))
      refine cK Z hR ?_ ?_<;>intro hR g5 eh
      ·refine A4 (nx (A0 2 Z (ix Z (B1 (c:=6)) (bP 1 48 Z (A1 (E9 (bS Z (bP 1 49 Z (ie (A3 (K1 Z (A4 (nx (A3 (A9 (bS Z (ix Z (F3 (v:=ag [_,_,_]) Tryz.underlying325 D2b Z Z Z 6) ?_)))))))))))))))))
       refine cI 2 [0] (fun bg=>[(4,pt bg 0)]) (fun _=>(C7a ⟨64,9,29⟩)) 324 fun bg=>?_
       refine ie (A9 (bS Z (cB 7 [0,8] 55 Z (ie ?_))))
       refine cK Z hR ?_ ?_<;>intro hR fy e8
       ·refine A4 (nx (A0 2 Z (ix Z (B1 (c:=7)) (bP 1 48 Z (A1 (E9 (bS Z (bP 1 49 Z (ie (A3 (K1 Z (A4 (nx (A3 (A9 (bS Z (ix Z (F3 (v:=ag [_,_,_]) Tryz.underlying325 D2b Z Z Z 7) ?_)))))))))))))))))
        refine cI 2 [0] (fun cm=>[(4,pt cm 0)]) (fun _=>(C7a ⟨128,53,55⟩)) 324 fun cm=>?_
        refine ie (A9 (bS Z (cB 7 [0,9] 55 Z (ie ?_))))
        refine cK Z hR ?_ ?_<;>intro hR fq fg
        ·refine A4 (nx (A0 2 Z (ix Z (B1 (c:=8)) (bP 1 48 Z (A1 (E9 (bS Z (bP 1 49 Z (ie (A3 (A5t Z (F1 (nx (bS Z (zru 2 [8] [] 8 (bx d [.slice none 0 0] 289) ?_)))))))))))))))
         subst hR
         refine ie (A8 ?_)
         exact cC hr hD (I9 Z (E8 A1k Z 8 Z Z Z)) (zq _ 0) bU c9
        refine bS Z (cB 4 [9] 62 Z (ie ?_))
        refine cK Z hR ?_ ?_<;>intro hR fr ej
        ·refine bS Z (cB 2 [0] 67 Z (it Z (B0 (c:=H0) (xs:=[53]) I0 Z Z Z oki) fun dq=>?_))
         have:([53]:List Int).length=1:=rfl
         obtain ⟨y3,dw,hR⟩:=C3 hR
         refine zc Z (R5 (l:=([53]:List Int)) (lq:=(some ⟨dq,0,none⟩)) (lk:=1) dw) fun ⟨⟨a9,a3⟩,be⟩=>?_
         obtain ⟨eg,es⟩:=be
         refine zru 1 [8] [] 8 (bx d [.slice a9 y3.length a3] 289) ?_
         subst hR
         refine ie (A8 ?_)
         exact cC hr hD (I9 Z (E8 A1k Z 8 Z Z Z)) _ bU c9
        refine bS Z (cB 2 [0] 52 Z (it Z (B0 (c:=H0) (xs:=[55]) I0 Z Z Z oki) fun d1=>?_))
        have:([55]:List Int).length=1:=rfl
        obtain ⟨y9,dy,hR⟩:=C3 hR
        refine zc Z (R5 (l:=([55]:List Int)) (lq:=(some ⟨d1,0,none⟩)) (lk:=1) dy) fun ⟨⟨aa,a5⟩,bz⟩=>?_
        obtain ⟨fa,ek⟩:=bz
        refine zru 1 [8] [] 8 (bx d [.slice aa y9.length a5] 289) ?_
        subst hR
        refine ie (A8 ?_)
        exact cC hr hD (I9 Z (E8 A1k Z 8 Z Z Z)) _ bU c9
       refine bS Z (cB 4 [8] 62 Z (ie ?_))
       refine cK Z hR ?_ ?_<;>intro hR fo en
       ·refine bS Z (cB 2 [0] 67 Z (it Z (B0 (c:=H0) (xs:=[9]) I0 Z Z Z oki) fun d2=>?_))
        have:([9]:List Int).length=1:=rfl
        obtain ⟨c8,ba,hR⟩:=C3 hR
        refine zc Z (R5 (l:=([9]:List Int)) (lq:=(some ⟨d2,0,none⟩)) (lk:=1) ba) fun ⟨⟨ac,ay⟩,bo⟩=>?_
        obtain ⟨ep,fm⟩:=bo
        refine zru 1 [7] [] 7 (bx d [.slice ac c8.length ay] 289) ?_
        subst hR
        refine ie (A8 ?_)
        exact cC hr hD (I9 Z (E8 A1k Z 7 Z Z Z)) _ bU c9
       refine bS Z (cB 2 [0] 52 Z (it Z (B0 (c:=H0) (xs:=[29]) I0 Z Z Z oki) fun cu=>?_))
       have:([29]:List Int).length=1:=rfl
       obtain ⟨c0,c5,hR⟩:=C3 hR
       refine zc Z (R5 (l:=([29]:List Int)) (lq:=(some ⟨cu,0,none⟩)) (lk:=1) c5) fun ⟨⟨ap,am⟩,cp⟩=>?_
       obtain ⟨fc,f9⟩:=cp
       refine zru 1 [7] [] 7 (bx d [.slice ap c0.length am] 289) ?_
       subst hR
       refine ie (A8 ?_)
       exact cC hr hD (I9 Z (E8 A1k Z 7 Z Z Z)) _ bU c9
      refine bS Z (cB 4 [7] 62 Z (ie ?_))
      refine cK Z hR ?_ ?_<;>intro hR g6 e6
      ·refine bS Z (cB 2 [0] 67 Z (it Z (B0 (c:=H0) (xs:=[8]) I0 Z Z Z oki) fun d3=>?_))
       have:([8]:List Int).length=1:=rfl
       obtain ⟨bi,bc,hR⟩:=C3 hR
       refine zc Z (R5 (l:=([8]:List Int)) (lq:=(some ⟨d3,0,none⟩)) (lk:=1) bc) fun ⟨⟨ar,aq⟩,bm⟩=>?_
       obtain ⟨e5,f0⟩:=bm
       refine zru 1 [6] [] 6 (bx d [.slice ar bi.length aq] 289) ?_
       subst hR
       refine ie (A8 ?_)
       exact cC hr hD (I9 Z (E8 A1k Z 6 Z Z Z)) _ bU c9
      refine bS Z (cB 2 [0] 52 Z (it Z (B0 (c:=H0) (xs:=[28]) I0 Z Z Z oki) fun dg=>?_))
      have:([28]:List Int).length=1:=rfl
      obtain ⟨y6,cz,hR⟩:=C3 hR
      refine zc Z (R5 (l:=([28]:List Int)) (lq:=(some ⟨dg,0,none⟩)) (lk:=1) cz) fun ⟨⟨ah,ae⟩,b0⟩=>?_
      obtain ⟨fj,ew⟩:=b0
      refine zru 1 [6] [] 6 (bx d [.slice ah y6.length ae] 289) ?_
      subst hR
      refine ie (A8 ?_)
      exact cC hr hD (I9 Z (E8 A1k Z 6 Z Z Z)) _ bU c9
     refine bS Z (cB 4 [6] 62 Z (ie ?_))
     refine cK Z hR ?_ ?_<;>intro hR fn f7
     ·refine bS Z (cB 2 [0] 67 Z (it Z (B0 (c:=H0) (xs:=[7]) I0 Z Z Z oki) fun cq=>?_))
      have:([7]:List Int).length=1:=rfl
      obtain ⟨bu,cd,hR⟩:=C3 hR
      refine zc Z (R5 (l:=([7]:List Int)) (lq:=(some ⟨cq,0,none⟩)) (lk:=1) cd) fun ⟨⟨a8,af⟩,c4⟩=>?_
      obtain ⟨f3,dc⟩:=c4
      refine zru 1 [5] [] 5 (bx d [.slice a8 bu.length af] 289) ?_
      subst hR
      refine ie (A8 ?_)
      exact cc (I9 Z (E8 A1k Z 5)) _
     refine bS Z (cB 2 [0] 52 Z (it Z (B0 (c:=H0) (xs:=[27]) I0 Z Z Z oki) fun bj=>?_))
     have:([27]:List Int).length=1:=rfl
     obtain ⟨ca,b9,hR⟩:=C3 hR
     refine zc Z (R5 (l:=([27]:List Int)) (lq:=(some ⟨bj,0,none⟩)) (lk:=1) b9) fun ⟨⟨y,z⟩,aj⟩=>?_
     obtain ⟨db,dz⟩:=aj
     refine zru 1 [5] [] 5 (bx d [.slice y ca.length z] 289) ?_
     subst hR
     refine ie (A8 ?_)
     exact cc (I9 Z (E8 A1k Z 5)) _
    refine bS Z (cB 4 [5] 62 Z (ie ?_))
    refine cK Z hR ?_ ?_<;>intro hR fe dj
    ·refine bS Z (cB 2 [0] 67 Z (it Z (B0 (c:=H0) (xs:=[5]) I0 Z Z Z oki) fun cg=>?_))
     have:([5]:List Int).length=1:=rfl
     obtain ⟨ck,b6,hR⟩:=C3 hR
     refine zc Z (R5 (l:=([5]:List Int)) (lq:=(some ⟨cg,0,none⟩)) (lk:=1) b6) fun ⟨⟨j,e⟩,a1⟩=>?_
     obtain ⟨dk,e2⟩:=a1
     refine zru 1 [4] [] 4 (bx d [.slice j ck.length e] 289) ?_
     subst hR
     refine ie (A8 ?_)
     exact cc (I9 Z (E8 A1k Z 4)) _
    refine bS Z (cB 2 [0] 52 Z (it Z (B0 (c:=H0) (xs:=[25]) I0 Z Z Z oki) fun c3=>?_))
    have:([25]:List Int).length=1:=rfl
    obtain ⟨b3,ch,hR⟩:=C3 hR
    refine zc Z (R5 (l:=([25]:List Int)) (lq:=(some ⟨c3,0,none⟩)) (lk:=1) ch) fun ⟨⟨k,o⟩,ai⟩=>?_
    obtain ⟨e1,e0⟩:=ai
    refine zru 1 [4] [] 4 (bx d [.slice k b3.length o] 289) ?_
    subst hR
    refine ie (A8 ?_)
    exact cc (I9 Z (E8 A1k Z 4)) _
   refine bS Z (cB 4 [4] 62 Z (ie ?_))
   refine cK Z hR ?_ ?_<;>intro hR er di
   ·refine bS Z (cB 2 [0] 67 Z (it Z (B0 (c:=H0) (xs:=[3]) I0 Z Z Z oki) fun bb=>?_))
    have:([3]:List Int).length=1:=rfl
    obtain ⟨bl,ce,hR⟩:=C3 hR
    refine zc Z (R5 (l:=([3]:List Int)) (lq:=(some ⟨bb,0,none⟩)) (lk:=1) ce) fun ⟨⟨q,f⟩,an⟩=>?_
    obtain ⟨e4,da⟩:=an
    refine zru 1 [3] [] 3 (bx d [.slice q bl.length f] 289) ?_
    subst hR
    refine ie (A8 ?_)
    exact cc (I9 Z (E8 A1k Z 3)) _
   refine bS Z (cB 2 [0] 52 Z (it Z (B0 (c:=H0) (xs:=[23]) I0 Z Z Z oki) fun bk=>?_))
   have:([23]:List Int).length=1:=rfl
   obtain ⟨y7,cr,hR⟩:=C3 hR
   refine zc Z (R5 (l:=([23]:List Int)) (lq:=(some ⟨bk,0,none⟩)) (lk:=1) cr) fun ⟨⟨i,s⟩,ad⟩=>?_
   obtain ⟨dh,d5⟩:=ad
   refine zru 1 [3] [] 3 (bx d [.slice i y7.length s] 289) ?_
   subst hR
   refine ie (A8 ?_)
   exact cc (I9 Z (E8 A1k Z 3)) _
  refine bS Z (cB 4 [3] 62 Z (ie ?_))
  refine cK Z hR ?_ ?_<;>intro hR et d4
  ·refine bS Z (cB 2 [0] 67 Z (it Z (B0 (c:=H0) (xs:=[2]) I0 Z Z Z oki) fun b8=>?_))
   have:([2]:List Int).length=1:=rfl
   obtain ⟨cj,c6,hR⟩:=C3 hR
   refine zc Z (R5 (l:=([2]:List Int)) (lq:=(some ⟨b8,0,none⟩)) (lk:=1) c6) fun ⟨⟨w,p⟩,aw⟩=>?_
   obtain ⟨d8,cs⟩:=aw
   refine zru 1 [2] [] 2 (bx d [.slice w cj.length p] 289) ?_
   subst hR
   refine ie (A8 ?_)
   exact cc (I9 Z (E8 A1k Z 2)) _
  refine bS Z (cB 2 [0] 52 Z (it Z (B0 (c:=H0) (xs:=[22]) I0 Z Z Z oki) fun b7=>?_))
  have:([22]:List Int).length=1:=rfl
  obtain ⟨cl,co,hR⟩:=C3 hR
  refine zc Z (R5 (l:=([22]:List Int)) (lq:=(some ⟨b7,0,none⟩)) (lk:=1) co) fun ⟨⟨n,h⟩,au⟩=>?_
  obtain ⟨d0,dx⟩:=au
  refine zru 1 [2] [] 2 (bx d [.slice n cl.length h] 289) ?_
  subst hR
  refine ie (A8 ?_)
  exact cc (I9 Z (E8 A1k Z 2)) _
 refine bS Z (cB 4 [2] 62 Z (ie ?_))
 refine cK Z hR ?_ ?_<;>intro hR fl dr
 ·refine bS Z (cB 2 [0] 67 Z (it Z (B0 (c:=H0) (xs:=[1]) I0 Z Z Z oki) fun cb=>?_))
  have:([1]:List Int).length=1:=rfl
  obtain ⟨c7,bw,hR⟩:=C3 hR
  refine zc Z (R5 (l:=([1]:List Int)) (lq:=(some ⟨cb,0,none⟩)) (lk:=1) bw) fun ⟨⟨g,u⟩,ax⟩=>?_
  obtain ⟨d6,du⟩:=ax
  refine zru 1 [1] [] 1 (bx d [.slice g c7.length u] 289) ?_
  subst hR
  refine ie (A8 ?_)
  exact cc (I9 Z (E8 A1k Z 1)) _
 refine bS Z (cB 2 [0] 52 Z (it Z (B0 (c:=H0) (xs:=[22]) I0 Z Z Z oki) fun c1=>?_))
 have:([22]:List Int).length=1:=rfl
 obtain ⟨y8,dv,hR⟩:=C3 hR
 refine zc Z (R5 (l:=([22]:List Int)) (lq:=(some ⟨c1,0,none⟩)) (lk:=1) dv) fun ⟨⟨r,a0⟩,ao⟩=>?_
 obtain ⟨ds,dl⟩:=ao
 refine zru 1 [1] [] 1 (bx d [.slice r y8.length a0] 289) ?_
 subst hR
 refine ie (A8 ?_)
 exact cc (I9 Z (E8 A1k Z 1)) _
def A4m:jz→List (List Int)→Nat→(List (List Int)×Int)
 | [],out,t26=>(out,0)
 | hd_l1::tl_l1,out,t26=>(B5 (Q8 hd_l1) fun (a:List Int)=>A4m tl_l1 (out++([a]:List (List Int))) (t26+1))
def A4q (l:jz):jz→Nat→(List (List Int)×Int)
 | [],t11=>(bif (decide ((16:Int)<(l.length:Int))) then (([]:List (List Int)),3) else A4m l ([]:List (List Int)) 0)
 | hd_l0::tl_l0,t11=>(bif (!decide ((A0q hd_l0)=0)) then (([]:List (List Int)),(A0q hd_l0)) else A4q l tl_l0 (t11+1))
def B7k (l:jz):List (List Int)×Int :=
 A4q l l 0
theorem ooy (h:p:=by first|rfl|(simp +zetaDelta only [List.length_take,List.length_drop];omega)):p:=h
theorem ohq (h:p:=by first|omega|(simp +zetaDelta only [List.length_take,List.length_drop,List.length_append,List.length_cons,List.length_nil,List.length_set,List.length_map,V6];omega)|decide):p:=h
theorem oja (h:p:=by first|omega|(simp +zetaDelta only [List.length_cons,List.length_nil,List.length_append,List.length_take,List.length_drop,V6];omega)):p:=h
theorem ozq (h:p:=by first|omega|(simp +zetaDelta only [List.length_append,List.length_cons,List.length_nil];omega)):p:=h
theorem E1o {l:jz} {R:List (List Int)×Int} (hR:B7k l=R) (a9:l.length≤9223372036854775807:=by exact bW) (ah:l.length≤lk:=by exact bW):cM prog 159 [.slice lq l.length lk] [] [sl A2 lq l,P0] ({t:VR×List Slc // bT 1 R.1.length t.1∧B4 t.2 R.1}) (fun x=>.tuple #[.slice (va x.1.1.q) R.1.length x.1.1.k,iv R.2]) (fun x=>((vo F0 289 x.1.1 x.1.2)++([]))) (fun x=>[D8 H0 x.1.2 R.1]):=by
 refine cD Tryz.func159 fun X hX hr hD=>?_
 rw[B7k]at hR
 refine k_ ?_
 refine ie ?_
 refine k_ ?_
 refine ie (A9 ?_)
 refine A1y (fun g=>(g≤l.length∧A4q l (l.drop g) g=R,[(0,_),(2,.slice _ 0 0),(9,_),(10,iv _),(11,iv g)],_,_,l.length - g)) 0 ⟨opx,hR⟩ bU A7.refl ?_
 rintro g ⟨ad,hR⟩
 refine k_ ?_
 refine ie (A3 (G3 Z (fun h2=>?_) (fun h2=>?_)))
 ·have v:=bV h2
  rw [A1a ZZ (show g<l.length by omega)] at hR;rw[A4q]at hR
  refine k_ ?_
  refine H8 0 Z opx fun a3 s=>(ix Z (E7 N3 Z Z s Z g) (ix Z (J0 C5s Z Z (F8 (sz:=6) s jJ 0 Z (gd ZZ opx)) Z) ?_))
  refine cI 2 [0] (fun b5=>[(5,pt b5 0)]) (fun _=>(A2 (l.getD g ZZ))) 51 fun b5=>?_
  refine ie ?_
  refine k_ ?_
  refine bY 1 2 [0] [(15,ag (A2 (l.getD g ZZ)))] ?_
  refine zv Z (C0k Z) ?_
  refine k_ ?_
  refine ie ?_
  refine zjn Z hR ?_ ?_<;>intro hR h6 aa
  ·refine k_ ?_
   subst hR
   refine ie (A8 ?_)
   exact cy ⟨(_,_),⟨bT.nil,B4.none⟩⟩
  refine k_ ?_
  refine ix Z B1 ?_
  refine k_ ?_
  refine A1 ?_
  exact z0 _ ⟨opx,hR⟩
 have v:=bV h2
 rw [A1b v] at hR;rw[A4q]at hR
 refine k_ ?_
 refine ie ?_
 refine cK Z hR ?_ ?_<;>intro hR h7 ae
 ·refine k_ ?_
  subst hR
  refine ie (A8 ?_)
  exact cy ⟨(_,_),⟨bT.nil,B4.none⟩⟩
 refine k_ ?_
 refine ie (A9 ?_)
 refine A1y (un fun out=>un fun f=>un fun d e=>(e≤l.length∧A4m (l.drop e) out e=R∧bT 1 out.length f∧B4 d out∧out.length≤e∧l.length≤16,[(2,.slice (va f.q) out.length f.k),(24,_),(25,iv _),(26,iv e)],((vo F0 289 f d)++([])),[_,P0,D8 H0 d out],l.length - e)) (_,_,_,0) ⟨opx,hR,bT.nil,B4.none,(by constructor<;>first|omega|simp)⟩ bU c9 ?_
 rintro ⟨out,f,d,e⟩ ⟨af,hR,h,b,ho⟩
 have:=bT.le h
 have:=b.1
 refine k_ ?_
 refine ie (A3 (G3 Z (fun h9=>?_) (fun h9=>?_)))
 ·have z:=bV h9
  rw [A1a ZZ (show e<l.length by omega)] at hR;rw[A4m]at hR
  refine k_ ?_
  refine H8 0 Z opx fun ac o=>(ix Z (E7 N3 Z Z o Z e) (ix Z (J0 C5s Z Z (F8 (sz:=6) o jJ 0 Z (gd ZZ opx)) Z) ?_))
  refine cI 2 [0] (fun u=>[(8,pt u 0)]) (fun _=>(A2 (l.getD e ZZ))) 51 fun u=>?_
  refine ie ?_
  refine kc_ ?_
  refine bY 2 4 [0] [(30,.slice (va f.q) out.length f.k),(31,ag (A2 (l.getD e ZZ)))] ?_
  obtain ⟨n,a1,hR⟩:=C3 hR
  refine zc Z (E8h (a:=(l.getD e ZZ)) a1) fun ⟨⟨m,j⟩,w⟩=>?_
  obtain ⟨a7,a6⟩:=w
  refine it Z (B0 (c:=F0) (xs:=[⟨m,n.length,j⟩]) A8w Z Z Z oki) fun a8=>?_
  have i:B4 ([⟨m,n.length,j⟩]:List Slc) ([n]:List (List Int)):=(B4.cons ⟨ooy,ohq,ohq⟩ B4.none)
  refine D4 (q:=D8 _ [⟨m,n.length,j⟩] _) (M8 (A5 1 Z) I5) ?_
  have y:B4 (d++([⟨m,n.length,j⟩]:List Slc)) (out++([n]:List (List Int))):=B4.append b i
  refine it Z (K5 (r:=f) (rs:=d) (xss:=out) (pre:=[bx u (A2 (l.getD e ZZ)) 51]) (post:=[]) E4h Z Z Z Z Z Z Z Z Z (A5 1 Z) (A5 5 Z) (A5 0 Z) b i h oja oja) fun ⟨a2,p⟩=>?_
  have:(out++([n]:List (List Int))).length=out.length+1:=List.length_append
  refine k_ ?_
  refine ix Z B1 ?_
  refine k_ ?_
  refine A1 ?_
  exact z0 (_,_,_,_) ⟨opx,hR,p,y,ozq⟩
 have z:=bV h9
 rw [A1b z] at hR;rw[A4m]at hR
 refine k_ ?_
 subst hR
 refine ie (A8 ?_)
 exact cy ⟨(f,d),⟨h,b⟩⟩
end
section
open Go Go.Fen open Tryz (prog)
variable {R:Bool} {a:kQ} {b:List Slc} {l:List (List Int)} {lk:Nat} {lq:kQ} {s:List (List Int)} {sk:Nat}
theorem G4j:Ty prog 251 1 false:=⟨by rfl⟩
def A9x (l:List (List Int)):Bool :=
 (((decide ((l.length:Int)=1))&&(decide (((l.getD 0 []).length:Int)=1)))&&(decide (((l.getD 0 []).getD 0 0)=(-1))))
theorem D8d (hR:A9x l=R) (a:B4 b l:=by exact bW) (m:l.length≤9223372036854775807:=by exact bW) (r:l.length≤lk:=by exact bW):J7 prog 235 [.slice lq l.length lk] [sl F0 lq b,D8 H0 b l] (bv R):=by
 refine cD Tryz.func235 fun X hX hr hD=>?_
 rw[A9x]at hR
 have:=a.1
 refine bS Z (pp0 1 Z (ie (bS Z (bP 4 6 Z (zid 7 10 6 13 (decide (((l.getD 0 []).length:Int)=1)) (fun j i=>?_) ?_)))))
 ·refine ip' 1 6 [(7,.slice lq l.length lk)] (H8 0 Z jV fun p e=>(D4 (Q6 (k:=0) (d:=⟨none,0,0⟩) a 1 Z jV) ?_))
  refine ix Z (E7 A8w Z Z e Z 0) (ip' 1 4 [(9,pa _)] (ix Z (G1 (B6 C1g Z Z (U0 (F8 (sz:=1) e jJ 1 Z (gd _ jV)) (ws:=[.slice _ _ ((b.getD 0 ⟨none,0,0⟩).k)]) 1 Z) Z) (M2 a jV)) (bP 3 13 Z ?_)))
  exact A1 (I1 6 6 _ j c9 bU Z Z Z Z Z)
 refine bP 1 14 Z (zia 8 1 14 22 (decide (((l.getD 0 []).getD 0 0)=(-1))) (fun h=>?_) ?_)
 ·have o:=bV h
  refine ip' 1 7 [(15,.slice lq l.length lk)] (H8 0 Z jV fun s g=>(D4 (Q6 (k:=0) (d:=⟨none,0,0⟩) a 1 Z jV) ?_))
  refine ix Z (E7 A8w Z Z g Z 0) (ip' 1 5 [(17,pa _)] (ix Z (G1 (B6 C1g Z Z (U0 (F8 (sz:=1) g jJ 1 Z (gd _ jV)) 1 Z) Z) (M2 a jV)) (H8 0 Z opx fun t f=>(ix Z (E7 I0 Z Z f Z 0) (ix Z (B6 (us:=[iv _]) cE Z Z (F8 (c:=H0) f jJ 0 Z (gd 0 opx)) Z) (bP 2 22 Z ?_))))))
  exact A1 (I1 8 14 _ h c9 bU Z Z Z Z Z)
 refine bP 1 2 Z ?_
 subst hR
 exact q8
def A3r (n:Int):Bool :=
 ((decide (n<(-1)))||(decide ((9999:Int)<n)))
theorem C8c {n:Int} (hR:A3r n=R):J7 prog 234 [iv n] [] (bv R):=by
 refine cD Tryz.func234 fun X hX hr hD=>?_
 rw[A3r]at hR
 refine k_ ?_
 refine ie (k_ ?_)
 refine zir 3 1 5 8 (decide (9999<n)) (fun b a=>?_) ?_
 ·exact bP 3 8 Z (A1 (I1 2 5 8 b bX bU Z Z Z Z Z))
 refine bP 1 2 Z ?_
 subst hR
 refine k_ ?_
 exact F7 hr hD
def K6:List Int→Nat→Int
 | [],a=>(-1)
 | hd_l0::tl_l0,a=>(bif (A3r hd_l0) then (a:Int) else K6 tl_l0 (a+1))
def X9 (s:List Int):Int :=
 K6 s 0
theorem B7l {s:List Int} {e:kQ} {R:Int} (hR:X9 s=R) (h:s.length≤9223372036854775807:=by exact bW) (g:s.length≤sk:=by exact bW):J7 prog 251 [.slice e s.length sk,aC 234] [sl H0 e s] (iv R):=by
 refine cD Tryz.func251 fun X hX hr hD=>?_
 rw[X9]at hR
 refine bS Z (pp0 1 Z (ie (A3 (bS Z (cF 3 7 8 Z (ie (A9 (A1y (fun a=>(a≤s.length∧K6 (s.drop a) a=R,[(0,_),(1,_),(7,iv _),(8,iv a)],_,_,s.length - a)) 0 ⟨opx,hR⟩ bU A7.refl ?_))))))))
 rintro a ⟨i,hR⟩
 refine bS Z (bP 1 9 Z (ie (A3 (G3 Z (fun f=>?_) (fun f=>?_)))))
 ·have d:=bV f
  rw [A1a 0 (show a<s.length by omega)] at hR;rw[K6]at hR
  refine A4 (nx (A3 (A9 (bS Z (bP 2 5 Z (ie (bS Z (ip' 3 3 [(11,aC 234),(12,.slice e s.length sk),(13,iv _)] (H8 0 Z opx fun k b=>(ix Z (E7 I0 Z Z b Z a) (ix Z (B6 cE Z Z (F8 (sz:=1) b jJ 0 Z (gd 0 opx)) Z) (zv Z (C8c Z) (ie ?_)))))))))))))
  refine zjb Z hR ?_ ?_<;>intro hR j
  ·refine bS Z (bP 2 4 Z ?_)
   subst hR
   exact q8
  refine A4 (nx (A0 2 Z (ix Z B1 (bP 1 8 Z (A1 ?_)))))
  exact z0 _ ⟨opx,hR⟩
 have d:=bV f
 rw [A1b d] at hR;rw[K6]at hR
 refine F1 (nx (bS Z (bP 1 4 Z ?_)))
 subst hR
 exact q8
def O3 (s:List Int):Bool :=
 (decide ((0:Int)≤(X9 s)))
theorem B5e {s:List Int} (hR:O3 s=R) (b:s.length≤9223372036854775807:=by exact bW) (c:s.length≤sk:=by exact bW):J7 prog 233 [.slice a s.length sk,aC 234] [sl H0 a s] (bv R):=by
 refine cD Tryz.func233 fun X hX hr hD=>?_
 rw[O3]at hR
 refine bS Z (pp0 1 Z (ie (bS Z (ip' 2 3 [(5,_),(6,aC _)] (zv Z (B7l Z) (bP 2 4 Z ?_))))))
 subst hR
 exact q8
def A0m (p:List Int):Bool :=
 (((decide ((p.length:Int)=0))||(decide ((6:Int)<(p.length:Int))))||(O3 p))
theorem D3o {p:List Int} {pk:Nat} (hR:A0m p=R) (h:p.length≤9223372036854775807:=by exact bW) (e:p.length≤pk:=by exact bW):J7 prog 232 [ag [.slice a p.length pk]] [sl H0 a p] (bv R):=by
 refine cD Tryz.func232 fun X hX hr hD=>?_
 rw[A0m]at hR
 refine k_ ?_
 refine cI 2 [] (fun b=>[(1,pt b 0)]) (fun _=>[.slice a p.length pk]) 289 fun b=>?_
 refine ie (k_ ?_)
 refine zir 5 6 7 12 (decide (6<(p.length:Int))) (fun d g=>?_) ?_
 ·exact cB 5 [0] 12 Z (zai 2 7 _ d)
 refine k_ ?_
 refine zio 4 1 13 17 (O3 p) (fun c=>?_) ?_
 ·have f:=bV c
  refine cB 2 [0] 15 Z (zv Z (B5e Z) ?_)
  exact bP 1 17 Z (zai 4 13 _ c)
 refine bP 1 2 Z ?_
 subst hR
 refine k_ ?_
 exact F7 hr hD
def F6:List (List Int)→Nat→Int
 | [],a=>(-1)
 | hd_l0::tl_l0,a=>(bif (A0m hd_l0) then (a:Int) else F6 tl_l0 (a+1))
def L5 (s:List (List Int)):Int :=
 F6 s 0
theorem A9b {h:kQ} {R:Int} (hR:L5 s=R) (a:B4 b s:=by exact bW) (l:s.length≤9223372036854775807:=by exact bW) (j:s.length≤sk:=by exact bW):J7 prog 252 [.slice h s.length sk,aC 232] [sl F0 h b,D8 H0 b s] (iv R):=by
 refine cD Tryz.func252 fun X hX hr hD=>?_
 rw[L5]at hR
 have:=a.1
 refine k_ ?_
 refine ie ?_
 refine k_ ?_
 refine ie (A9 ?_)
 refine A1y (fun e=>(e≤s.length∧F6 (s.drop e) e=R,[(0,_),(1,_),(7,iv _),(8,iv e)],_,_,s.length - e)) 0 ⟨opx,hR⟩ bU A7.refl ?_
 rintro e ⟨m,hR⟩
 refine k_ ?_
 refine ie (A3 (G3 Z (fun i=>?_) (fun i=>?_)))
 ·have g:=bV i
  rw [A1a [] (show e<s.length by omega)] at hR;rw[F6]at hR
  refine k_ ?_
  refine ie ?_
  refine k_ ?_
  refine H8 0 Z jV fun p f=>(D4 (Q6 (k:=e) (d:=⟨none,0,0⟩) a 1 Z jV) ?_)
  have:=Q9 a (k:=e) (d:=(⟨none,0,0⟩:Slc)) jV
  refine ix Z (E7 A8w Z Z f Z e) (ix Z (G1 (J0 A1k Z Z (F8 (c:=F0) f jJ 1 Z (gd ⟨none,0,0⟩ jV)) Z) (congrArg (fun z=>ag [z]) (M2 a jV))) ?_)
  refine zv Z (D3o Z) ?_
  refine ie ?_
  refine zjb Z hR ?_ ?_<;>intro hR o
  ·refine k_ ?_
   subst hR
   exact q8
  refine k_ ?_
  refine ix Z B1 ?_
  refine k_ ?_
  refine A1 ?_
  exact z0 _ ⟨opx,hR⟩
 have g:=bV i
 rw [A1b g] at hR;rw[F6]at hR
 refine k_ ?_
 subst hR
 exact q8
def H4 (s:List (List Int)):Bool :=
 (decide ((0:Int)≤(L5 s)))
theorem A8m {c:kQ} (hR:H4 s=R) (a:B4 b s:=by exact bW) (d:s.length≤9223372036854775807:=by exact bW) (e:s.length≤sk:=by exact bW):J7 prog 236 [.slice c s.length sk,aC 232] [sl F0 c b,D8 H0 b s] (bv R):=by
 refine cD Tryz.func236 fun X hX hr hD=>?_
 rw[H4]at hR
 refine bS Z (pp0 1 Z (ie (bS Z (ip' 2 3 [(5,_),(6,aC _)] (zv Z (A9b Z a) (bP 2 4 Z ?_))))))
 subst hR
 exact q8
def A3k (l:List (List Int)):Int :=
 (bif (((decide ((16:Int)<(l.length:Int)))||(A9x l))||(H4 l)) then 150 else 0)
def C0v (l:List (List Int)):Prop:=l.length≤16∧∀ r ∈ l,1≤r.length∧r.length≤6∧∀ n ∈ r,-1≤n∧n≤9999
theorem D7m:∀ (s:List Int) (t:Nat),K6 s t<0→∀ n ∈ s,-1≤n∧n≤9999
 | [],t,_,n,hn=>by cases hn
 | x::s,t,h,n,hn=>by
  simp only [K6] at h
  cases hc:A3r x with
  | true=>grind
  | false =>
   rw [hc,cond_false] at h
   unfold A3r at hc
   simp only [Bool.or_eq_false_iff,decide_eq_false_iff_not] at hc
   rcases List.mem_cons.1 hn with rfl | hn
   ·omega
   ·exact D7m s (t+1) h n hn
theorem D7s:∀ (s:List (List Int)) (t:Nat),F6 s t<0→∀ r ∈ s,A0m r=false
 | [],t,_,n,hn=>by cases hn
 | x::s,t,h,n,hn=>by
  simp only [F6] at h
  cases hc:A0m x with
  | true=>grind
  | false =>
   rw [hc,cond_false] at h
   rcases List.mem_cons.1 hn with rfl | hn
   ·exact hc
   ·exact D7s s (t+1) h n hn
theorem E7m {r:List Int} (h:A0m r=false):1≤r.length∧r.length≤6∧∀ n ∈ r,-1≤n∧n≤9999:=by
 unfold A0m at h
 simp only [Bool.or_eq_false_iff,decide_eq_false_iff_not] at h
 have a:=h.2;unfold O3 X9 at a;simp only [decide_eq_false_iff_not] at a
 exact ⟨by omega,by omega,D7m r 0 opx⟩
theorem B8a (h:A3k l=0):C0v l:=by
 unfold A3k at h
 generalize hc:(((decide ((16:Int)<(l.length:Int)))||(A9x l))||(H4 l))=c at h
 cases c with
 | true=>simp at h
 | false =>
  simp only [Bool.or_eq_false_iff,decide_eq_false_iff_not] at hc
  have a:=hc.2;unfold H4 L5 at a;simp only [decide_eq_false_iff_not] at a
  exact ⟨by omega,fun r hr=>E7m (D7s l 0 opx r hr)⟩
theorem C0v.at (h:C0v l) (i k:Nat):-1≤(l.getD i []).getD k 0∧(l.getD i []).getD k 0≤9999:=by
 by_cases hi:i<l.length
 ·by_cases hk:k<(l.getD i []).length
  ·rw [gdE hk]
   have a:l.getD i [] ∈ l:=by grind
   exact (h.2 _ a).2.2 _ (List.getElem_mem hk)
  grind
 grind
theorem C0v.row (h:C0v l) (i:Nat):(l.getD i []).length≤6:=by
 by_cases hi:i<l.length
 ·have a:l.getD i [] ∈ l:=by grind
  exact (h.2 _ a).2.1
 grind
theorem D8j {R:Int} (hR:A3k l=R) (a:B4 b l:=by exact bW) (h:l.length≤9223372036854775807:=by exact bW) (j:l.length≤lk:=by exact bW):J7 prog 200 [.slice lq l.length lk] [sl F0 lq b,D8 H0 b l] (iv R):=by
 refine cD Tryz.func200 fun X hX hr hD=>?_
 rw[A3k]at hR
 refine bS Z (pp0 1 Z (ie (bS Z (ip' 1 0 [(3,aC 232)] (ie (A3 (bS Z (bP 4 7 Z ?_))))))))
 refine zir 3 5 7 10 (A9x l) (fun g f=>?_) ?_
 ·refine bP 1 8 Z (zv Z (D8d Z a) (bP 1 10 Z ?_))
  exact zai 4 7 _ g
 refine bP 1 11 Z ?_
 refine zio 4 0 11 15 (H4 l) (fun e=>?_) ?_
 ·have i:=bV e
  refine ip' 2 2 [(12,_),(13,aC _)] (zv Z (A8m Z a) (bP 1 15 Z ?_))
  exact zai 5 11 _ e
 refine ie ?_
 refine zjb Z hR ?_ ?_<;>intro hR d
 ·have c:=bV d
  refine bS Z (bP 1 2 Z ?_)
  subst hR
  exact q8
 refine A4 (nx (bS Z (bP 1 2 Z ?_)))
 subst hR
 exact q8
def W4 (l:List (List Int)):List (List Int) :=
 l
theorem D8b {R:List (List Int)} (hR:W4 l=R) (a:B4 b l:=by exact bW) (d:l.length≤9223372036854775807:=by exact bW) (e:l.length≤lk:=by exact bW):cM prog 201 [.slice lq l.length lk] [] [sl F0 lq b,D8 H0 b l] (Addr×{t:kQ×List Slc×Nat // B4 t.2.1 R∧R.length≤t.2.2∧R.length≤9223372036854775807}) (fun x=>.func (.func 237) #[] #[pa x.1]) (fun x=>[]) (fun x=>[at_ x.1 [.slice x.2.1.1 R.length x.2.1.2.2],sl F0 x.2.1.1 x.2.1.2.1,D8 H0 x.2.1.2.1 R]):=by
 refine cD Tryz.func201 fun X hX hr hD=>?_
 rw[W4]at hR
 refine k_ ?_
 refine it Z (A2s Z Z Z) fun c=>(A6p 0 Z (k_ ?_))
 refine ie (kc_ ?_)
 refine ip' 2 0 [(2,.func (.func 237) #[] #[pa ⟨c,0,none⟩])] ?_
 subst hR
 refine k_ ?_
 exact ci (_,⟨(_,b,_),⟨a,okl,okl⟩⟩)
def A2a (d:Nat) (b:List UInt8) (a:Nat→(List (List UInt8×List UInt8))) (c:List UInt8):List (List UInt8×List UInt8) :=
 ((b,c)::a (d+1))
def A0e (c0:List (List Int)) (d:Nat) (c:Nat) (a:Nat→(List (List UInt8×List UInt8))) (b:List UInt8):List (List UInt8×List UInt8) :=
 (bif (!decide (((c0.getD d []).getD c 0)=(-1))) then A2a c b a (Lib.itoa ((c0.getD d []).getD c 0)) else A2a c b a ([]:List UInt8))
def J3 (c0:List (List Int)) (b:Nat) (a:Nat→(List (List UInt8×List UInt8))):List Int→Nat→(List (List UInt8×List UInt8))
 | [],c=>a (b+1)
 | hd_l3::tl_l3,c=>(bif ((decide ((c:Int)=0))&&(decide ((b:Int)=0))) then A0e c0 b c (J3 c0 b a tl_l3) ([]:List UInt8) else (bif (decide ((c:Int)=0)) then A0e c0 b c (J3 c0 b a tl_l3) ([59]:List UInt8) else A0e c0 b c (J3 c0 b a tl_l3) ([58]:List UInt8)))
def J5 (c0:List (List Int)):List (List Int)→Nat→(List (List UInt8×List UInt8))
 | [],t11=>[]
 | hd_l2::tl_l2,t11=>J3 c0 t11 (J5 c0 tl_l2) hd_l2 0
def Z8 (c0:List (List Int)):List (List UInt8×List UInt8) :=
 J5 c0 c0 0
def B5x (x:List UInt8×List UInt8):Prop:=x.1.length≤1∧x.2.length≤21
theorem B6c (c0:List (List Int)) (h:C0v c0) (a:Nat) (ag:Nat→List (List UInt8×List UInt8)) (B:Nat) (b:∀ t,(ag t).length≤B∧∀ x ∈ ag t,B5x x):∀ (s:List Int) (t:Nat),(J3 c0 a ag s t).length≤s.length+B∧∀ x ∈ J3 c0 a ag s t,B5x x
 | [],t=>by have:=b (a+1);simp only [J3,List.length_nil];exact ⟨by omega,this.2⟩
 | n::s,t=>by
  have d:=B6c c0 h a ag B b s (t+1)
  have hb:=h.at a t
  have e:=E5k ((c0.getD a []).getD t 0) opx opx
  simp only [J3,A0e,A2a,Bool.cond_eq_ite]
  repeat' split
  all_goals refine ⟨by simp only [List.length_cons];omega,fun x c=>?_⟩
  all_goals rcases List.mem_cons.1 c with rfl | c
  all_goals first|exact d.2 x c|exact ⟨by simp,by first|exact e|simp⟩
theorem B6d (c0:List (List Int)) (h:C0v c0):∀ (s:List (List Int)) (t:Nat),(∀ r ∈ s,r.length≤6)→(J5 c0 s t).length≤6 * s.length∧∀ x ∈ J5 c0 s t,B5x x
 | [],t,_=>⟨by simp [J5],fun x a=>by cases a⟩
 | r::s,t,hs=>by
  have b:=fun c=>B6d c0 h s c (fun r hr=>hs r (List.mem_cons_of_mem _ hr))
  have d:=hs r jU
  have a:=B6c c0 h t (J5 c0 s) (6 * s.length) b r 0
  simp only [J5,List.length_cons]
  exact ⟨by omega,a.2⟩
theorem C0q (c0:List (List Int)) (h:C0v c0):(Z8 c0).length≤96∧∀ x ∈ Z8 c0,B5x x:=by
 have:=B6d c0 h c0 0 (fun r hr=>(h.2 r hr).2.1)
 have a:=h.1
 grind[Z8]
theorem D3i (c0:List (List Int)) (o:Addr) (g:kQ) (b:List Slc) (i:Nat) (e:B4 b c0) (am:c0.length≤9223372036854775807) (ap:c0.length≤i) (ac:C0v c0) (R:List (List UInt8×List UInt8)) (hR:Z8 c0=R):D7b prog 237 [pa o] [sl F0 g b,D8 H0 b c0,at_ o [.slice g c0.length i],M1] (fun x=>sv x.1) (fun x=>sv x.2) R:=by
 refine E8k (n:=45) Tryz.func237 Z oki Z Z (fun l=>[(0,_),(1,_)]) (fun l=>⟨rfl,rfl,trivial⟩) fun X l I Ix L Φ hX hr hD hI0 hY=>?_
 rw[Z8]at hR
 have:=e.1
 refine k_ ?_
 refine ix Z (B6 G4j Z Z (A5 2 Z) Z) (k_ ?_)
 refine ie (A9 (A1y (un fun a=>un fun R_=>un fun Lt Ft=>(a≤c0.length∧J5 _ (c0.drop a) a=R_∧I R_ Lt Ft,[(0,_),(9,_),(10,iv _),(11,iv a)],(Lt++([])),(sl _ g b::D8 _ b _::at_ o _::M1::Ft),c0.length - a)) (0,R,L,_) ⟨opx,hR,hI0⟩ bU c9 ?_))
 rintro ⟨a,R_,Lt,Ft⟩ ⟨ax,hR,a1⟩
 let D:=sl H0 ((b.getD a ⟨none,0,0⟩).q) (c0.getD a [])
 refine k_ ?_
 refine ie (A3 (G3 Z (fun h2=>?_) (fun h2=>?_)))
 ·have a4:=bV h2
  rw [A1a [] (show a<c0.length by omega)] at hR;rw[J5]at hR
  refine k_ ?_
  refine H8 0 Z (by have:=e.1;omega) fun a3 y=>(D4 (Q6 (k:=a) (d:=⟨none,0,0⟩) e 1 Z (by have:=e.1;omega)) ?_)
  have:=Q9 e (k:=a) (d:=(⟨none,0,0⟩:Slc)) (by have:=e.1;omega)
  refine ix Z (E7 A8w Z Z y Z a) (ix Z (G1 (J0 A1k Z Z (F8 (sz:=1) y jJ 1 Z (gd ⟨none,0,0⟩ (by have:=e.1;omega))) Z) (congrArg (fun z=>ag [z]) (M2 e (by have:=e.1;omega)))) (D7x 3 0 [0] (fun s=>[(4,pt s 0),(3,iv a)]) (fun s=>(bx s [.slice ((b.getD a ⟨none,0,0⟩).q) ((c0.getD a []).length) ((b.getD a ⟨none,0,0⟩).k)] 289::(Lt++([])))) (fun s=>?_)))
  let B:=bx s [.slice ((b.getD a ⟨none,0,0⟩).q) ((c0.getD a []).length) ((b.getD a ⟨none,0,0⟩).k)] 289
  let A:=[bx s [.slice ((b.getD a (⟨none,0,0⟩:Slc)).q) ((c0.getD a []).length) ((b.getD a (⟨none,0,0⟩:Slc)).k)] 289]
  refine k_ ?_
  refine ie (A9 (A1y (un fun f=>un fun R_1=>un fun Lt1 Ft1=>(f≤(c0.getD a []).length∧J3 _ a _ ((c0.getD a _).drop f) f=R_1∧I R_1 Lt1 Ft1,[(0,_),(3,_),(9,_),(10,_),(11,_),(17,_),(18,iv _),(19,iv f)],(bx s _ _::(Lt1++([]))),(sl _ _ _::sl _ g b::D8 _ b _::at_ o _::M1::Ft1),(c0.getD a []).length - f)) (0,_,_,_) ⟨opx,hR,a1⟩ bU c9 ?_))
  rintro ⟨f,R_1,Lt1,Ft1⟩ ⟨av,hR,m⟩
  have hq:=C0v.at ac a f
  refine k_ ?_
  refine ie (A3 (G3 Z (fun h7=>?_) (fun h7=>?_)))
  ·have a6:=bV h7
   rw [A1a 0 (show f<(c0.getD a []).length by omega)] at hR;rw[J3]at hR
   refine k_ ?_
   refine H8 0 Z opx fun a8 a0=>(ix Z (E7 I0 Z Z a0 Z f) (ix Z (B6 (us:=[iv _]) cE Z Z (F8 (c:=H0) a0 jJ 0 Z (gd 0 opx)) Z) (k_ ?_)))
   refine ie (k_ ?_)
   refine ie (A7i (un fun h=>un fun R_2=>un fun Lt2 Ft2=>(A0e c0 a f (J3 c0 a (J5 c0 (c0.drop (a+1))) ((c0.getD a []).drop (f+1))) h=R_2∧I R_2 Lt2 Ft2,[(0,.func (.yield l) #[] #[]),(3,iv a),(6,iv ((c0.getD a []).getD f 0)),(7,sv h),(8,sv []),(9,.slice g c0.length i),(10,iv c0.length),(11,iv a),(17,.slice ((b.getD a ⟨none,0,0⟩).q) ((c0.getD a []).length) ((b.getD a ⟨none,0,0⟩).k)),(18,iv ((c0.getD a []).length)),(19,iv f)],(B::(Lt2++([]))),(D::sl F0 g b::D8 H0 b c0::at_ o [.slice g c0.length i]::M1::Ft2))) ?_ ?_)
   ·refine k_ ?_
    refine zid 3 1 27 30 (decide ((a:Int)=0)) (fun ah an=>?_) ?_
    ·exact bP 3 30 Z (A1 (I1 2 27 _ ah A7.refl bU Z Z Z Z Z))
    refine k_ ?_
    refine zja Z hR ?_ ?_<;>intro hR ay ak
    ·refine k_ ?_
     exact A1 (S6 (_,_,_,_) ⟨hR,m⟩ bU (A7.con1 (A5 0 Z) (A7.con1 (A5 1 Z) (A7.con1 (A5 2 Z) (A7.con1 (A5 3 Z) (A7.con1 (A5 4 Z) (A7.dropT 5 Z)))))))
    refine k_ ?_
    refine ie ?_
    refine cK Z hR ?_ ?_<;>intro hR aw aq
    ·refine k_ ?_
     exact A1 (S6 (_,_,_,_) ⟨hR,m⟩ bU (A7.con1 (A5 0 Z) (A7.con1 (A5 1 Z) (A7.con1 (A5 2 Z) (A7.con1 (A5 3 Z) (A7.con1 (A5 4 Z) (A7.dropT 5 Z)))))))
    exact A4 (S6 (_,_,_,_) ⟨hR,m⟩ bU (A7.con1 (A5 0 Z) (A7.con1 (A5 1 Z) (A7.con1 (A5 2 Z) (A7.con1 (A5 3 Z) (A7.con1 (A5 4 Z) (A7.dropT 5 Z)))))))
   rintro ⟨h,R_2,Lt2,Ft2⟩
   rintro ⟨hR,w⟩
   rw[A0e]at hR
   refine A7i (un fun r=>un fun R_3=>un fun Lt3 Ft3=>(A2a f h (J3 c0 a (J5 c0 (c0.drop (a+1))) ((c0.getD a []).drop (f+1))) r=R_3∧I R_3 Lt3 Ft3,[(0,.func (.yield l) #[] #[]),(3,iv a),(7,sv h),(8,sv r),(9,.slice g c0.length i),(10,iv c0.length),(11,iv a),(17,.slice ((b.getD a ⟨none,0,0⟩).q) ((c0.getD a []).length) ((b.getD a ⟨none,0,0⟩).k)),(18,iv ((c0.getD a []).length)),(19,iv f)],(B::(Lt3++([]))),(D::sl F0 g b::D8 H0 b c0::at_ o [.slice g c0.length i]::M1::Ft3))) ?_ ?_
   ·refine k_ ?_
    refine ie ?_
    refine zjn Z hR ?_ ?_<;>intro hR au ar
    ·refine k_ ?_
     refine zca (G1g ((c0.getD a []).getD f 0) (by first|omega|(exact ⟨by omega,by omega⟩))) (A7.cons (A5 4 Z) bX) ?_
     refine k_ ?_
     exact A1 (S6 (_,_,_,_) ⟨hR,w⟩ bU (A7.con1 (A5 0 Z) (A7.con1 (A5 1 Z) (A7.con1 (A5 2 Z) (A7.con1 (A5 3 Z) (A7.con1 (A5 4 Z) (A7.dropT 5 Z)))))))
    exact A4 (S6 (_,_,_,_) ⟨hR,w⟩ bU (A7.con1 (A5 0 Z) (A7.con1 (A5 1 Z) (A7.con1 (A5 2 Z) (A7.con1 (A5 3 Z) (A7.con1 (A5 4 Z) (A7.dropT 5 Z)))))))
   rintro ⟨r,R_3,Lt3,Ft3⟩
   rintro ⟨hR,t⟩
   rw[A2a]at hR
   refine k_ ?_
   obtain ⟨R14,hR,p⟩:=C2v hR;rw [p] at t
   refine it Z (E9o (L2:=A) (hY _ R14 _ _ t) Z Z Z Z (A7.dropT 5 Z) (I8 [A,Lt3] [1,0] 2 Z ozw Z [Lt3,A] Z ooa)) fun ⟨⟨a5,L16,Φ17⟩,j⟩=>(B1j (A7.yield [_,_,_,_,_]) (k_ ?_))
   refine ie (G3 Z (fun a2=>?_) (fun a2=>?_))
   ·have u:a5=false:=by simpa using a2
    rw [u] at j;try simp only [if_true,if_false,Bool.false_eq_true] at j
    exact A8 (B6z Z ⟨hr,hD⟩ (by simp [hD]) (B3x rfl) (by exact .inr j) (mcT [_,[_]] 0 Z Z) (A7.dropT 5 Z))
   ·have u:a5=true:=by simpa using a2
    rw [u] at j;try simp only [if_true,if_false,Bool.false_eq_true] at j
    refine k_ ?_
    refine ix Z B1 (k_ ?_)
    exact A1 (Y9 (I8 [_,_] [1,0] 2 Z ozw Z [[_],L16] Z opv) (Z0 (_,_,_,_) ⟨opx,hR,j⟩ olr bU (A7.con1 (A5 0 Z) (A7.con1 (A5 1 Z) (A7.con1 (A5 2 Z) (A7.con1 (A5 3 Z) (A7.con1 (A5 4 Z) (A7.dropT 5 Z))))))))
  have a6:=bV h7
  rw [A1b a6] at hR;rw[J3]at hR
  refine k_ ?_
  refine ix Z B1 (k_ ?_)
  exact A1 (Z0 (_,_,_,_) ⟨opx,hR,m⟩ olr bU (A7.con1 (A5 1 Z) (A7.con1 (A5 2 Z) (A7.con1 (A5 3 Z) (A7.con1 (A5 4 Z) (A7.dropT 5 Z))))))
 have a4:=bV h2
 rw [A1b a4] at hR;rw[J5]at hR
 subst hR
 exact F1 (A0y Z ⟨hr,hD⟩ (by simp [hD]) (B3x rfl) (by exact .inl a1) (mcT [_] 0 Z Z) (A7.dropT 4 Z))
def S3:List (List UInt8×List UInt8)→List UInt8→(List UInt8×Int)
 | [],bbuf=>(bbuf,0)
 | el::rest,bbuf=>(B5 (J9 bbuf (el.1++el.2)) fun (a:List UInt8×Int)=>S3 rest a.1)
def V9 (l:List (List Int)):List UInt8×Int :=
 (bif (!decide ((A3k l)=0)) then (([]:List UInt8),(A3k l)) else S3 (Z8 (W4 l)) ([]:List UInt8))
theorem B7u:∀ (es:List (List UInt8×List UInt8)) (b:List UInt8),(∀ x ∈ es,B5x x)→(S3 es b).1.length≤b.length+22 * es.length
 | [],b,_=>by simp [S3]
 | e::es,b,h=>by
  have a:=h e jU;unfold B5x at a
  have c:=B7u es (J9 b (e.1++e.2)).1 (fun x d=>h x (List.mem_cons_of_mem _ d))
  rw [A2d,List.length_append] at c
  simp only [S3,B5,List.length_cons];omega
theorem B1h (l:List (List Int)):(V9 l).1.length≤2112:=by
 unfold V9
 by_cases h:A3k l=0
 ·have a:=C0q l (B8a h)
  have:=B7u (Z8 (W4 l)) [] a.2
  rw [h];simp only [decide_true,Bool.not_true,cond_false]
  grind[W4]
 grind
theorem olf {p:Prop} (h:p:=by first|omega|(simp +zetaDelta only [List.length_take,List.length_drop,List.length_append,List.length_cons,List.length_nil,List.length_set,List.length_map,W4];omega)|decide):p:=h
theorem C6b {d:List Slc} {R:List UInt8×Int} (hR:V9 l=R) (b:B4 d l:=by exact bW) (a5:l.length≤9223372036854775807:=by exact bW) (an:l.length≤lk:=by exact bW):J7 prog 160 [.slice lq l.length lk] [sl F0 lq d,D8 H0 d l,M1] (.tuple #[sv R.1,iv R.2]):=by
 refine cD Tryz.func160 fun X hX hr hD=>?_
 rw[V9]at hR
 have:=b.1
 refine k_ ?_
 refine ie ?_
 refine k_ ?_
 refine zv Z (D8j Z b) ?_
 refine k_ ?_
 refine ie ?_
 refine k_ ?_
 refine ie ?_
 refine zjn Z hR ?_ ?_<;>intro hR h1 a9
 ·refine k_ ?_
  subst hR
  refine ie (A8 ?_)
  exact B6u hr hD
 refine k_ ?_
 refine cI 1 [] (fun m=>[(5,pt m 0)]) (fun _=>[.pointer none,.slice none 0 0]) 295 fun m=>?_
 refine ie ?_
 refine k_ ?_
 refine zc Z (D8b Z b) fun ⟨z,⟨⟨u,n,k6⟩,a1⟩⟩=>?_
 obtain ⟨y,ah,a3⟩:=a1
 have:=y.1
 refine ie (A9 (Y9 (I8 [_,_] [1,0] 2 Z ozw Z [[_],vo cJ 5 VR.nil []] Z opv) ?_))
 refine k_ ?_
 refine F5h (β:=(List UInt8×List UInt8)) (enc:=(fun x=>sv x.1)) (enc2:=(fun x=>sv x.2)) (xs:=(Z8 (W4 l))) (σ:=kQ×List UInt8×VR) hr Z (D3i (W4 l) z u n k6 y olf olf (by exact B8a (Decidable.of_not_not oiu)) _ Z) c9 Z Z Z (fun e x=>S3 e x.2.1=R∧(x.1=none∨x.1=some ⟨m,0,none⟩)∧bT 1 x.2.1.length x.2.2∧x.2.1.length+22 * e.length≤2112∧∀ x ∈ e,B5x x) (fun _ _=>False) (fun x=>(bx m [.pointer x.1,.slice (va x.2.2.q) x.2.1.length x.2.2.k] 295::((vo cJ 5 x.2.2 x.2.1)++([])))) (fun x=>[at_ z [.slice u ((W4 l).length) k6],sl F0 u n,D8 H0 n (W4 l),sl F0 lq d,D8 H0 d l,M1]) (none,jx,VR.nil) (by exact ⟨hR,(.inl Z),bT.nil,(by have s:=C0q l (B8a (Decidable.of_not_not oiu));refine ⟨?_,s.2⟩;have a6:(Z8 (W4 l)).length≤96:=s.1;simp only [List.length_nil];omega)⟩) bU A7.refl ?_ ?_ (fun _ _ _ _ h=>h.elim)
 ·rintro el rest ⟨f,j,g⟩ t Y Y' K' ac hK
  try dsimp only at t
  obtain ⟨hR,c,a,p⟩:=t
  rw[S3]at hR
  have:=bT.le a
  refine k_ ?_
  refine ie ?_
  refine k_ ?_
  refine A1 (hK _ _ _ ?_)
  refine k_ ?_
  refine ix Z (E0p Z Z Z (by first|omega|(have i:=p.2 _ jU;unfold B5x at i;omega)|(first|omega|(simp only [List.length_cons,List.length_nil,List.length_append,List.length_take,List.length_drop,W4];omega)))) ?_
  have:=@List.length_append _ el.1 el.2
  obtain ⟨y0,v,hR⟩:=C3 hR
  refine zc Z (A7b v c a (by (have i:=p.2 _ jU;unfold B5x at i;have w:=p.1;simp only [List.length_append,List.length_cons,List.length_nil] at *;omega))) fun ⟨a2,o⟩=>?_
  have:=bT.lc o
  have:=A2d j (el.1++el.2);try rw [v] at this
  refine A1 ?_
  exact B2c (I:=fun e x=>S3 e x.2.1=R∧(x.1=none∨x.1=some ⟨m,0,none⟩)∧bT 1 x.2.1.length x.2.2∧x.2.1.length+22 * e.length≤2112∧∀ x ∈ e,B5x x) (Jx:=fun _ _=>False) (Lk:=fun x=>(bx m [.pointer x.1,.slice (va x.2.2.q) x.2.1.length x.2.2.k] 295::((vo cJ 5 x.2.2 x.2.1)++([])))) (Φk:=fun x=>[at_ z [.slice u ((W4 l).length) k6],sl F0 u n,D8 H0 n (W4 l),sl F0 lq d,D8 H0 d l,M1]) (rest:=rest) ((some ⟨m,0,none⟩),y0.1,a2) (by exact ⟨hR,(.inr Z),o,(by have i:=p.2 _ jU;unfold B5x at i;refine ⟨?_,fun x hx=>p.2 x (List.mem_cons_of_mem _ hx)⟩;have w:=p.1;try dsimp only;simp only [List.length_cons] at w;omega)⟩) bU A7.refl
 ·rintro a4 ⟨f,j,g⟩ r t
  try dsimp only at t
  obtain ⟨hR,c,a,p⟩:=t
  rw[S3]at hR
  have:=bT.le a
  refine k_ ?_
  refine zc Z (E6c m (.pointer f) j g a) fun _=>?_
  refine k_ ?_
  subst hR
  refine ie (A8 ?_)
  exact B7w Z ⟨hr,hD⟩ (by exact (P3.cons (show P3 X.D by rw [hD];exact P3.nil) r)) (Y4 Z A6 A6) () odv bU bX
end
end Go.Proofs.YtmldjljkeigpnaaGreatDoor
