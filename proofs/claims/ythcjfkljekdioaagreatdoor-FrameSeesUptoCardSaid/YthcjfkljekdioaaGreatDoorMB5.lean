import Derived.Test.YthcjfkljekdioaaGreatDoorProg
import Derived.Test.YthcjfkljekdioaaGreatDoorMA2
import Derived.Test.YthcjfkljekdioaaGreatDoorMB1
import Derived.Test.YthcjfkljekdioaaGreatDoorMB2
import Derived.Test.YthcjfkljekdioaaGreatDoorMB3
import Derived.Test.YthcjfkljekdioaaGreatDoorMB7
import Derived.Test.YthcjfkljekdioaaGreatDoorMB4
set_option linter.unusedVariables false
set_option linter.unusedSimpArgs false
set_option linter.unnecessarySimpa false
set_option maxRecDepth 100000
namespace Go.Proofs.YthcjfkljekdioaaGreatDoor
open Go Go.Fen
theorem D4r:EqT Tryz.prog 70 S8:=EqT.of 20 rfl (by kernel_rfl) (by kernel_rfl) (fun _ _=>by kernel_rfl) S8.inj
theorem C1b:SlTy Tryz.prog 136 70 2:=⟨by kernel_rfl,by kernel_rfl⟩
theorem D5f:Zero Tryz.prog 5 [.int .u8 0]:=⟨by kernel_rfl⟩
def J6 (c:Col):Int :=
 (bif (decide (c.kind=0)) then (bif (decide (c.n=0)) then 0 else 130) else (bif (decide (c.kind=1)) then (bif ((decide ((0:Int)≤c.n))&&(decide (c.n≤255))) then 0 else 130) else (bif (decide (c.kind=2)) then (bif ((decide ((0:Int)≤c.n))&&(decide (c.n≤16777215))) then 0 else 130) else 130)))
theorem A7e (c:Col) (R:Int) (hR:J6 c=R):I6 Tryz.prog 112 [ag (V9 c)] [] (iv R):=by
 refine zco Tryz.func112 [(0,ag (V9 c))] fun X hX hr hD=>?_
 replace hR:=(J6.eq_1 ..).symm.trans hR
 refine sr 2 rfl (I7 2 0 [] (fun b1=>[(1,pt b1 0)]) (fun b1=>[bx b1 (V9 c) 40]) (fun b1=>?_))
 refine ie (A3 (sr 2 rfl (zrl 2 0 [0] [(4,iv c.kind)] ?_)))
 refine ie (B0 (sr 2 rfl (ip' 2 0 [(5,bv (decide (c.kind=0)))] ?_)))
 refine ie ?_
 refine zjd rfl hR ?_ ?_<;>clear hR<;>intro hR h2 h2p
 ·refine sr 3 rfl (zrl 3 0 [0] [(9,bv (decide (c.n=0)))] ?_)
  refine ie ?_
  refine zjd rfl hR ?_ ?_<;>clear hR<;>intro hR h3 h3p
  ·refine sr 1 rfl (ip' 1 0 [(2,iv 0)] ?_)
   subst hR
   refine ie (A7 ?_)
   exact D5 hr hD
  refine A4 (nx (sr 1 rfl (ip' 1 0 [(2,iv 130)] ?_)))
  subst hR
  refine ie (A7 ?_)
  exact D5 hr hD
 refine sr 2 rfl (ip' 2 0 [(10,bv (decide (c.kind=1)))] ?_)
 refine ie ?_
 refine zjd rfl hR ?_ ?_<;>clear hR<;>intro hR h4 h4p
 ·refine sr 8 rfl (zrl 4 4 [0] [(15,bv (decide ((0:Int)≤c.n)))] ?_)
  refine zid 4 0 15 19 (decide (c.n≤255)) (fun g5 g5p=>?_) ?_
  ·refine zrl 4 0 [0] [(19,bv (decide (c.n≤255)))] ?_
   exact A1 (H1 2 15 19 g5 fn0 (mk [true] rfl) rfl rfl rfl rfl rfl)
  refine ie ?_
  refine zja rfl hR ?_ ?_<;>clear hR<;>intro hR h6 h6p
  ·refine sr 1 rfl (ip' 1 0 [(2,iv 0)] ?_)
   subst hR
   refine ie (A7 ?_)
   exact D5 hr hD
  refine A4 (nx (sr 1 rfl (ip' 1 0 [(2,iv 130)] ?_)))
  subst hR
  refine ie (A7 ?_)
  exact D5 hr hD
 refine sr 2 rfl (ip' 2 0 [(20,bv (decide (c.kind=2)))] ?_)
 refine ie ?_
 refine zjd rfl hR ?_ ?_<;>clear hR<;>intro hR h7 h7p
 ·refine sr 8 rfl (zrl 4 4 [0] [(25,bv (decide ((0:Int)≤c.n)))] ?_)
  refine zid 4 0 25 29 (decide (c.n≤16777215)) (fun g8 g8p=>?_) ?_
  ·refine zrl 4 0 [0] [(29,bv (decide (c.n≤16777215)))] ?_
   exact A1 (H1 2 25 29 g8 fn0 (mk [true] rfl) rfl rfl rfl rfl rfl)
  refine ie ?_
  refine zja rfl hR ?_ ?_<;>clear hR<;>intro hR h9 h9p
  ·refine sr 1 rfl (ip' 1 0 [(2,iv 0)] ?_)
   subst hR
   refine ie (A7 ?_)
   exact D5 hr hD
  refine A4 (nx (sr 1 rfl (ip' 1 0 [(2,iv 130)] ?_)))
  subst hR
  refine ie (A7 ?_)
  exact D5 hr hD
 refine A4 (nx (sr 1 rfl (ip' 1 0 [(2,iv 130)] ?_)))
 subst hR
 refine ie (A7 ?_)
 exact D5 hr hD
def Y0 (s:Sty):Int :=
 (bif ((((decide (s.attr<0))||(decide ((255:Int)<s.attr)))||(decide (s.under<0)))||(decide ((5:Int)<s.under))) then 140 else (bif (!decide ((J6 s.fore)=0)) then (J6 s.fore) else (bif (!decide ((J6 s.back)=0)) then (J6 s.back) else (bif (!decide ((J6 s.line)=0)) then (J6 s.line) else 0))))
theorem B1a (s:Sty) (R:Int) (hR:Y0 s=R):I6 Tryz.prog 80 [ag (I8 s)] [] (iv R):=by
 refine zco Tryz.func80 [(0,ag (I8 s))] fun X hX hr hD=>?_
 replace hR:=(Y0.eq_1 ..).symm.trans hR
 refine sr 2 rfl (I7 2 0 [] (fun b1=>[(1,pt b1 0)]) (fun b1=>[bx b1 (I8 s) 42]) (fun b1=>?_))
 refine ie (A3 (sr 18 rfl (zrl 4 14 [0] [(9,bv (decide (s.attr<0)))] ?_)))
 refine zir 4 10 9 13 (decide ((255:Int)<s.attr)) (fun g2 g2p=>?_) ?_
 ·refine zrl 4 0 [0] [(13,bv (decide ((255:Int)<s.attr)))] ?_
  exact A1 (H1 2 9 13 g2 fn0 (mk [true] rfl) rfl rfl rfl rfl rfl)
 refine ip' 1 9 [(14,bv ((decide (s.attr<0))||(decide ((255:Int)<s.attr))))] ?_
 refine zio 4 5 14 18 (decide (s.under<0)) (fun g3=>?_) ?_
 ·have g3p:¬ ((s.attr<0)∨((255:Int)<s.attr)):=by simpa using g3
  refine zrl 4 0 [0] [(18,bv (decide (s.under<0)))] ?_
  exact A1 (H1 2 14 18 g3 fn0 (mk [true] rfl) rfl rfl rfl rfl rfl)
 refine ip' 1 4 [(19,bv (((decide (s.attr<0))||(decide ((255:Int)<s.attr)))||(decide (s.under<0))))] ?_
 refine zio 4 0 19 23 (decide ((5:Int)<s.under)) (fun g4=>?_) ?_
 ·have g4p:¬ (((s.attr<0)∨((255:Int)<s.attr))∨(s.under<0)):=by simpa using g4
  refine zrl 4 0 [0] [(23,bv (decide ((5:Int)<s.under)))] ?_
  exact A1 (H1 2 19 23 g4 fn0 (mk [true] rfl) rfl rfl rfl rfl rfl)
 refine ie ?_
 refine zjb rfl hR ?_ ?_<;>clear hR<;>intro hR h5
 ·have h5p:(((s.attr<0)∨((255:Int)<s.attr))∨(s.under<0))∨((5:Int)<s.under):=by simpa using h5
  refine sr 1 rfl (ip' 1 0 [(2,iv 140)] ?_)
  subst hR
  refine ie (A7 ?_)
  exact D5 hr hD
 have h5p:¬ ((((s.attr<0)∨((255:Int)<s.attr))∨(s.under<0))∨((5:Int)<s.under)):=by simpa using h5
 refine A4 (nx (A3 (sr 8 rfl (zrl 8 0 [0,0,0] [(30,ag [iv s.fore.kind,iv s.fore.n,iv s.back.kind,iv s.back.n,iv s.line.kind,iv s.line.n]),(31,iv 0)] ?_))))
 refine ie (B0 (R6 5 ?_))
 refine D7 (sr 1 rfl (ip' 1 0 [(32,bv true)] ?_))
 refine ie (A3 (H8 rfl (A4 (nx (A3 (B0 (sr 3 rfl (ix rfl (F0 (v:=ag [iv s.fore.kind,iv s.fore.n]) (us:=[iv s.fore.kind,iv s.fore.n]) Tryz.underlying192 C1v rfl rfl rfl 0 rfl (by decide) rfl rfl rfl) ?_))))))))
 refine I7 2 0 [0] (fun b6=>[(4,pt b6 0)]) (fun b6=>[bx b6 (V9 s.fore) 40,bx b1 (I8 s) 42]) (fun b6=>?_)
 refine ie (sr 3 rfl (zrl 1 2 [0] [(34,ag (V9 s.fore))] ?_))
 refine zca (A7e s.fore _ rfl) fn0 ?_
 refine ip' 1 0 [(5,iv (J6 s.fore))] ?_
 refine ie (sr 2 rfl (ip' 2 0 [(37,bv (!decide ((J6 s.fore)=0)))] ?_))
 refine ie ?_
 refine zjn rfl hR ?_ ?_<;>clear hR<;>intro hR h7 h7p
 ·refine sr 2 rfl (ip' 2 0 [(2,iv (J6 s.fore))] ?_)
  subst hR
  refine ie (A7 ?_)
  exact D5 hr hD
 refine A4 (nx (A5 2 rfl (ix rfl (B4 (c:=1) rfl rfl rfl rfl (by decide)) ?_)))
 refine ip' 1 0 [(31,iv 1)] ?_
 refine A1 (D7 (sr 1 rfl (ip' 1 0 [(32,bv true)] ?_)))
 refine ie (A3 (H8 rfl (A4 (nx (A3 (B0 (sr 3 rfl (ix rfl (F0 (v:=ag [iv s.back.kind,iv s.back.n]) (us:=[iv s.back.kind,iv s.back.n]) Tryz.underlying192 C1v rfl rfl rfl 1 rfl (by decide) rfl rfl rfl) ?_))))))))
 refine I7 2 0 [0] (fun b8=>[(4,pt b8 0)]) (fun b8=>[bx b8 (V9 s.back) 40,bx b6 (V9 s.fore) 40,bx b1 (I8 s) 42]) (fun b8=>?_)
 refine ie (sr 3 rfl (zrl 1 2 [0] [(34,ag (V9 s.back))] ?_))
 refine zca (A7e s.back _ rfl) fn0 ?_
 refine ip' 1 0 [(5,iv (J6 s.back))] ?_
 refine ie (sr 2 rfl (ip' 2 0 [(37,bv (!decide ((J6 s.back)=0)))] ?_))
 refine ie ?_
 refine zjn rfl hR ?_ ?_<;>clear hR<;>intro hR h9 h9p
 ·refine sr 2 rfl (ip' 2 0 [(2,iv (J6 s.back))] ?_)
  subst hR
  refine ie (A7 ?_)
  exact D5 hr hD
 refine A4 (nx (A5 2 rfl (ix rfl (B4 (c:=2) rfl rfl rfl rfl (by decide)) ?_)))
 refine ip' 1 0 [(31,iv 2)] ?_
 refine A1 (D7 (sr 1 rfl (ip' 1 0 [(32,bv true)] ?_)))
 refine ie (A3 (H8 rfl (A4 (nx (A3 (B0 (sr 3 rfl (ix rfl (F0 (v:=ag [iv s.line.kind,iv s.line.n]) (us:=[iv s.line.kind,iv s.line.n]) Tryz.underlying192 C1v rfl rfl rfl 2 rfl (by decide) rfl rfl rfl) ?_))))))))
 refine I7 2 0 [0] (fun b10=>[(4,pt b10 0)]) (fun b10=>[bx b10 (V9 s.line) 40,bx b8 (V9 s.back) 40,bx b6 (V9 s.fore) 40,bx b1 (I8 s) 42]) (fun b10=>?_)
 refine ie (sr 3 rfl (zrl 1 2 [0] [(34,ag (V9 s.line))] ?_))
 refine zca (A7e s.line _ rfl) fn0 ?_
 refine ip' 1 0 [(5,iv (J6 s.line))] ?_
 refine ie (sr 2 rfl (ip' 2 0 [(37,bv (!decide ((J6 s.line)=0)))] ?_))
 refine ie ?_
 refine zjn rfl hR ?_ ?_<;>clear hR<;>intro hR h11 h11p
 ·refine sr 2 rfl (ip' 2 0 [(2,iv (J6 s.line))] ?_)
  subst hR
  refine ie (A7 ?_)
  exact D5 hr hD
 refine A4 (nx (A5 2 rfl (ix rfl (B4 (c:=3) rfl rfl rfl rfl (by decide)) ?_)))
 refine ip' 1 0 [(31,iv 3)] ?_
 refine A1 (D7 (sr 1 rfl (ip' 1 0 [(32,bv false)] ?_)))
 refine ie (A3 (A0m rfl (G2 (nx (sr 1 rfl (ip' 1 0 [(2,iv 0)] ?_))))))
 subst hR
 refine ie (A7 ?_)
 exact D5 hr hD
def A1i (c:Cel):Bool :=
 (((decide (c.base=0))&&(decide (c.marks=Ar2.zero)))&&(decide (c.wide=2)))
theorem B6b (c:Cel) (R:Bool) (hR:A1i c=R):I6 Tryz.prog 172 [ag (B2 c)] [] (bv R):=by
 refine zco Tryz.func172 [(0,ag (B2 c))] fun X hX hr hD=>?_
 replace hR:=(A1i.eq_1 ..).symm.trans hR
 refine sr 2 rfl (I7 2 0 [] (fun b1=>[(1,pt b1 0)]) (fun b1=>[bx b1 (B2 c) 72]) (fun b1=>?_))
 refine ie (sr 15 rfl (zrl 4 11 [0] [(6,bv (decide (c.base=0)))] ?_))
 refine zid 5 6 6 11 (decide (c.marks=Ar2.zero)) (fun g2 g2p=>?_) ?_
 ·refine zrl 3 2 [0] [(8,ag (S8 c.marks)),(9,ag (S8 Ar2.zero))] ?_
  refine ix rfl (A6t (a:=c.marks) (b:=Ar2.zero) D4r rfl rfl rfl) ?_
  refine ip' 1 0 [(11,bv (decide (c.marks=Ar2.zero)))] ?_
  exact A1 (H1 5 6 11 g2 fn0 (mk [true] rfl) rfl rfl rfl rfl rfl)
 refine ip' 1 5 [(12,bv ((decide (c.base=0))&&(decide (c.marks=Ar2.zero))))] ?_
 refine zia 4 1 12 16 (decide (c.wide=2)) (fun g3=>?_) ?_
 ·have g3p:(c.base=0)∧(c.marks=Ar2.zero):=by simpa using g3
  refine zrl 4 0 [0] [(16,bv (decide (c.wide=2)))] ?_
  exact A1 (H1 2 12 16 g3 fn0 (mk [true] rfl) rfl rfl rfl rfl rfl)
 refine ip' 1 0 [(2,bv (((decide (c.base=0))&&(decide (c.marks=Ar2.zero)))&&(decide (c.wide=2))))] ?_
 subst hR
 refine ie (A7 ?_)
 exact D5 hr hD
def M7 (cp:Int):Bool :=
 (((decide ((0:Int)≤cp))&&(decide (cp≤1114111)))&&((decide (cp<55296))||(decide ((57343:Int)<cp))))
theorem B1g (cp:Int) (R:Bool) (hR:M7 cp=R):I6 Tryz.prog 82 [iv cp] [] (bv R):=by
 refine zco Tryz.func82 [(0,iv cp)] fun X hX hr hD=>?_
 replace hR:=(M7.eq_1 ..).symm.trans hR
 refine sr 1 rfl (ip' 1 0 [] ?_)
 refine ie (sr 15 rfl (ip' 3 12 [(5,bv (decide ((0:Int)≤cp)))] ?_))
 refine zid 3 9 5 8 (decide (cp≤1114111)) (fun g1 g1p=>?_) ?_
 ·refine ip' 3 0 [(8,bv (decide (cp≤1114111)))] ?_
  exact A1 (H1 2 5 8 g1 fn0 (mk [] rfl) rfl rfl rfl rfl rfl)
 refine ip' 1 8 [(9,bv ((decide ((0:Int)≤cp))&&(decide (cp≤1114111))))] ?_
 refine zia 7 1 9 16 ((decide (cp<55296))||(decide ((57343:Int)<cp))) (fun g2=>?_) ?_
 ·have g2p:((0:Int)≤cp)∧(cp≤1114111):=by simpa using g2
  refine ip' 3 4 [(12,bv (decide (cp<55296)))] ?_
  refine zir 3 1 12 15 (decide ((57343:Int)<cp)) (fun g3 g3p=>?_) ?_
  ·refine ip' 3 0 [(15,bv (decide ((57343:Int)<cp)))] ?_
   exact A1 (H1 2 12 15 g3 fn0 (mk [] rfl) rfl rfl rfl rfl rfl)
  refine ip' 1 0 [(16,bv ((decide (cp<55296))||(decide ((57343:Int)<cp))))] ?_
  exact A1 (H1 4 9 16 g2 fn0 (mk [] rfl) rfl rfl rfl rfl rfl)
 refine ip' 1 0 [(2,bv (((decide ((0:Int)≤cp))&&(decide (cp≤1114111)))&&((decide (cp<55296))||(decide ((57343:Int)<cp)))))] ?_
 subst hR
 refine ie (A7 ?_)
 exact D5 hr hD
def A3t:List Ar2 :=
 ([(⟨768,879⟩:Ar2),(⟨1155,1161⟩:Ar2),(⟨1425,1469⟩:Ar2),(⟨1552,1562⟩:Ar2),(⟨1611,1631⟩:Ar2),(⟨6832,6911⟩:Ar2),(⟨7616,7679⟩:Ar2),(⟨8203,8207⟩:Ar2),(⟨8400,8447⟩:Ar2),(⟨65024,65039⟩:Ar2),(⟨65056,65071⟩:Ar2)]:List Ar2)
theorem C0n (R:List Ar2) (hR:A3t=R):Con Tryz.prog 84 [] [] [] ({t:Option Addr×Nat // R.length≤t.2∧R.length≤9223372036854775807}) (fun x=>.slice x.1.1 R.length x.1.2) (fun x=>[]) (fun x=>[sl S8 x.1.1 R]):=by
 refine zco Tryz.func84 [] fun X hX hr hD=>?_
 replace hR:=(A3t.eq_1 ..).symm.trans hR
 refine sr 1 rfl (ip' 1 0 [] ?_)
 refine ie (sr 13 rfl (zrl 11 2 [] [(1,ag (S8 (⟨768,879⟩:Ar2))),(2,ag (S8 (⟨1155,1161⟩:Ar2))),(3,ag (S8 (⟨1425,1469⟩:Ar2))),(4,ag (S8 (⟨1552,1562⟩:Ar2))),(5,ag (S8 (⟨1611,1631⟩:Ar2))),(6,ag (S8 (⟨6832,6911⟩:Ar2))),(7,ag (S8 (⟨7616,7679⟩:Ar2))),(8,ag (S8 (⟨8203,8207⟩:Ar2))),(9,ag (S8 (⟨8400,8447⟩:Ar2))),(10,ag (S8 (⟨65024,65039⟩:Ar2))),(11,ag (S8 (⟨65056,65071⟩:Ar2)))] ?_))
 refine it rfl (E9 (c:=S8) (xs:=([(⟨768,879⟩:Ar2),(⟨1155,1161⟩:Ar2),(⟨1425,1469⟩:Ar2),(⟨1552,1562⟩:Ar2),(⟨1611,1631⟩:Ar2),(⟨6832,6911⟩:Ar2),(⟨7616,7679⟩:Ar2),(⟨8203,8207⟩:Ar2),(⟨8400,8447⟩:Ar2),(⟨65024,65039⟩:Ar2),(⟨65056,65071⟩:Ar2)]:List Ar2)) C1b rfl rfl rfl (by kernel_rfl)) fun b1=>?_
 have:([(⟨768,879⟩:Ar2),(⟨1155,1161⟩:Ar2),(⟨1425,1469⟩:Ar2),(⟨1552,1562⟩:Ar2),(⟨1611,1631⟩:Ar2),(⟨6832,6911⟩:Ar2),(⟨7616,7679⟩:Ar2),(⟨8203,8207⟩:Ar2),(⟨8400,8447⟩:Ar2),(⟨65024,65039⟩:Ar2),(⟨65056,65071⟩:Ar2)]:List Ar2).length=11:=rfl
 refine ip' 1 0 [(0,.slice (some ⟨b1,0,none⟩) 11 11)] ?_
 subst hR
 refine ie (A7 ?_)
 exact zer hr hD (P3 rfl (B1 rfl)) (zq (some ⟨b1,0,none⟩) 11) (mk [] rfl) (A2.con1 (B5 0 rfl) fn0)
def A1b (cp:Int):List Ar2→Nat→Bool
 | [],i=>false
 | hd_l0::tl_l0,i=>(bif ((decide (hd_l0.a≤cp))&&(decide (cp≤hd_l0.b))) then true else A1b cp tl_l0 (i+1))
def A0j (l:List Ar2) (cp:Int):Bool :=
 A1b cp l 0
theorem B5x (l:List Ar2) (cp:Int) (lq:Option Addr) (lk:Nat) (hll:l.length≤9223372036854775807) (hcl:l.length≤lk) (R:Bool) (hR:A0j l cp=R):I6 Tryz.prog 83 [.slice lq l.length lk,iv cp] [sl S8 lq l] (bv R):=by
 refine zco Tryz.func83 [(0,.slice lq l.length lk),(1,iv cp)] fun X hX hr hD=>?_
 replace hR:=(A0j.eq_1 ..).symm.trans hR
 refine sr 1 rfl (ip' 1 0 [] ?_)
 refine ie (A3 (sr 1 rfl (ip' 1 0 [(5,iv 0)] ?_)))
 refine ie (B0 (B3w (fun (i:Nat)=>(i≤l.length∧A1b cp (l.drop i) i=R,[(0,.slice lq l.length lk),(1,iv cp),(5,iv (i:Int))],[],[sl S8 lq l],l.length - i)) 0 ⟨(by omega),hR⟩ (mk [] rfl) A2.refl ?_))
 rintro i ⟨hm1,hR⟩
 refine A3 (sr 4 rfl (ip' 4 0 [(9,bv (decide ((i:Int)<(l.length:Int))))] ?_))
 refine ie (S2 rfl (fun h2=>?_) (fun h2=>?_))
 ·have h2p:(i:Int)<(l.length:Int):=by simpa using h2
  rw [U1 Ar2.zero (show i<l.length by omega)] at hR;replace hR:=(A1b.eq_2 ..).symm.trans hR
  refine A4 (nx (A3 (B0 (sr 16 rfl (ip' 3 13 [(12,iv cp),(13,.slice lq l.length lk),(14,iv (i:Int))] ?_)))))
  refine J3 0 rfl (by omega) fun a3 hq4=>?_
  refine ix rfl (E8 C1b rfl rfl hq4 rfl i rfl (by omega)) ?_
  refine ix rfl (A7x Tryz.underlying70 ty3 rfl rfl rfl 0 rfl (by decide)) ?_
  refine ix rfl (C8 (v:=iv ((l.getD i Ar2.zero).a)) (us:=[iv ((l.getD i Ar2.zero).a)]) ty3 rfl rfl (A3x (G0 (c:=S8) (sz:=2) hq4 (fun _=>rfl) 0 rfl (gd Ar2.zero (by omega))) (ws:=[iv ((l.getD i Ar2.zero).a)]) 0 1 rfl) rfl) ?_
  refine ip' 2 8 [(19,bv (decide ((l.getD i Ar2.zero).a≤cp)))] ?_
  refine zid 8 0 19 27 (decide (cp≤(l.getD i Ar2.zero).b)) (fun g5 g5p=>?_) ?_
  ·refine ip' 3 5 [(20,iv cp),(21,.slice lq l.length lk),(22,iv (i:Int))] ?_
   refine ix rfl (E8 C1b rfl rfl hq4 rfl i rfl (by omega)) ?_
   refine ix rfl (A7x Tryz.underlying70 ty3 rfl rfl rfl 1 rfl (by decide)) ?_
   refine ix rfl (C8 (v:=iv ((l.getD i Ar2.zero).b)) (us:=[iv ((l.getD i Ar2.zero).b)]) ty3 rfl rfl (A3x (G0 (c:=S8) (sz:=2) hq4 (fun _=>rfl) 0 rfl (gd Ar2.zero (by omega))) (ws:=[iv ((l.getD i Ar2.zero).b)]) 1 1 rfl) rfl) ?_
   refine ip' 2 0 [(27,bv (decide (cp≤(l.getD i Ar2.zero).b)))] ?_
   exact zai 8 19 27 g5
  refine ie ?_
  refine zja rfl hR ?_ ?_<;>clear hR<;>intro hR h6 h6p
  ·refine sr 1 rfl (ip' 1 0 [(4,bv true)] ?_)
   subst hR
   refine ie (A7 ?_)
   exact D5 hr hD
  refine A4 (nx (A5 3 rfl (ip' 1 2 [(10,iv (i:Int))] ?_)))
  refine ix rfl (B4 rfl rfl rfl rfl (by omega)) ?_
  refine ip' 1 0 [(5,iv ((i:Int)+1))] ?_
  refine A1 ?_
  exact B4g (z1:=i) (i+1) ⟨(by omega),hR⟩ (by (try dsimp only);omega) (mk [] rfl) A2.refl
 have h2p:¬ ((i:Int)<(l.length:Int)):=by simpa using h2
 rw [U2 h2p] at hR;replace hR:=(A1b.eq_1 ..).symm.trans hR
 refine G2 (nx (sr 1 rfl (ip' 1 0 [(4,bv false)] ?_)))
 subst hR
 refine ie (A7 ?_)
 exact D5 hr hD
def A3w:List Ar2 :=
 ([(⟨4352,4447⟩:Ar2),(⟨11904,12350⟩:Ar2),(⟨12353,13311⟩:Ar2),(⟨13312,19903⟩:Ar2),(⟨19968,40959⟩:Ar2),(⟨40960,42191⟩:Ar2),(⟨44032,55203⟩:Ar2),(⟨63744,64255⟩:Ar2),(⟨65072,65135⟩:Ar2),(⟨65280,65376⟩:Ar2),(⟨65504,65510⟩:Ar2),(⟨127744,128591⟩:Ar2),(⟨128640,128767⟩:Ar2),(⟨129280,129535⟩:Ar2),(⟨131072,262141⟩:Ar2)]:List Ar2)
theorem C3g (R:List Ar2) (hR:A3w=R):Con Tryz.prog 85 [] [] [] ({t:Option Addr×Nat // R.length≤t.2∧R.length≤9223372036854775807}) (fun x=>.slice x.1.1 R.length x.1.2) (fun x=>[]) (fun x=>[sl S8 x.1.1 R]):=by
 refine zco Tryz.func85 [] fun X hX hr hD=>?_
 replace hR:=(A3w.eq_1 ..).symm.trans hR
 refine sr 1 rfl (ip' 1 0 [] ?_)
 refine ie (sr 17 rfl (zrl 15 2 [] [(1,ag (S8 (⟨4352,4447⟩:Ar2))),(2,ag (S8 (⟨11904,12350⟩:Ar2))),(3,ag (S8 (⟨12353,13311⟩:Ar2))),(4,ag (S8 (⟨13312,19903⟩:Ar2))),(5,ag (S8 (⟨19968,40959⟩:Ar2))),(6,ag (S8 (⟨40960,42191⟩:Ar2))),(7,ag (S8 (⟨44032,55203⟩:Ar2))),(8,ag (S8 (⟨63744,64255⟩:Ar2))),(9,ag (S8 (⟨65072,65135⟩:Ar2))),(10,ag (S8 (⟨65280,65376⟩:Ar2))),(11,ag (S8 (⟨65504,65510⟩:Ar2))),(12,ag (S8 (⟨127744,128591⟩:Ar2))),(13,ag (S8 (⟨128640,128767⟩:Ar2))),(14,ag (S8 (⟨129280,129535⟩:Ar2))),(15,ag (S8 (⟨131072,262141⟩:Ar2)))] ?_))
 refine it rfl (E9 (c:=S8) (xs:=([(⟨4352,4447⟩:Ar2),(⟨11904,12350⟩:Ar2),(⟨12353,13311⟩:Ar2),(⟨13312,19903⟩:Ar2),(⟨19968,40959⟩:Ar2),(⟨40960,42191⟩:Ar2),(⟨44032,55203⟩:Ar2),(⟨63744,64255⟩:Ar2),(⟨65072,65135⟩:Ar2),(⟨65280,65376⟩:Ar2),(⟨65504,65510⟩:Ar2),(⟨127744,128591⟩:Ar2),(⟨128640,128767⟩:Ar2),(⟨129280,129535⟩:Ar2),(⟨131072,262141⟩:Ar2)]:List Ar2)) C1b rfl rfl rfl (by kernel_rfl)) fun b1=>?_
 have:([(⟨4352,4447⟩:Ar2),(⟨11904,12350⟩:Ar2),(⟨12353,13311⟩:Ar2),(⟨13312,19903⟩:Ar2),(⟨19968,40959⟩:Ar2),(⟨40960,42191⟩:Ar2),(⟨44032,55203⟩:Ar2),(⟨63744,64255⟩:Ar2),(⟨65072,65135⟩:Ar2),(⟨65280,65376⟩:Ar2),(⟨65504,65510⟩:Ar2),(⟨127744,128591⟩:Ar2),(⟨128640,128767⟩:Ar2),(⟨129280,129535⟩:Ar2),(⟨131072,262141⟩:Ar2)]:List Ar2).length=15:=rfl
 refine ip' 1 0 [(0,.slice (some ⟨b1,0,none⟩) 15 15)] ?_
 subst hR
 refine ie (A7 ?_)
 exact zer hr hD (P3 rfl (B1 rfl)) (zq (some ⟨b1,0,none⟩) 15) (mk [] rfl) (A2.con1 (B5 0 rfl) fn0)
def G3 (cp:Int):Int :=
 (bif (((!(M7 cp))||(decide (cp<32)))||((decide ((127:Int)≤cp))&&(decide (cp<160)))) then (-1) else (F1 A3t fun (y12:List Ar2)=>(bif (A0j y12 cp) then 0 else (F1 A3w fun (y11:List Ar2)=>(bif (A0j y11 cp) then 2 else 1)))))
theorem A8a (cp:Int) (R:Int) (hR:G3 cp=R):I6 Tryz.prog 51 [iv cp] [] (iv R):=by
 refine zco Tryz.func51 [(0,iv cp)] fun X hX hr hD=>?_
 replace hR:=(G3.eq_1 ..).symm.trans hR
 refine sr 1 rfl (ip' 1 0 [] ?_)
 refine ie (A3 (sr 15 rfl (ip' 1 14 [(3,iv cp)] ?_)))
 refine zca (B1g cp _ rfl) fn0 ?_
 refine ip' 2 11 [(6,bv (!(M7 cp)))] ?_
 refine zio 3 8 6 9 (decide (cp<32)) (fun g1=>?_) ?_
 ·refine ip' 3 0 [(9,bv (decide (cp<32)))] ?_
  exact A1 (H1 2 6 9 g1 fn0 (mk [] rfl) rfl rfl rfl rfl rfl)
 refine ip' 1 7 [(10,bv ((!(M7 cp))||(decide (cp<32))))] ?_
 refine zio 7 0 10 17 ((decide ((127:Int)≤cp))&&(decide (cp<160))) (fun g2=>?_) ?_
 ·have g2p:=g2;try simp only [Bool.and_eq_true,Bool.or_eq_true,Bool.and_eq_false_iff,Bool.or_eq_false_iff,Bool.not_eq_true',Bool.not_eq_false',decide_eq_true_eq,decide_eq_false_iff_not] at g2p
  refine ip' 3 4 [(13,bv (decide ((127:Int)≤cp)))] ?_
  refine zid 3 1 13 16 (decide (cp<160)) (fun g3 g3p=>?_) ?_
  ·refine ip' 3 0 [(16,bv (decide (cp<160)))] ?_
   exact A1 (H1 2 13 16 g3 fn0 (mk [] rfl) rfl rfl rfl rfl rfl)
  refine ip' 1 0 [(17,bv ((decide ((127:Int)≤cp))&&(decide (cp<160))))] ?_
  exact A1 (H1 4 10 17 g2 fn0 (mk [] rfl) rfl rfl rfl rfl rfl)
 refine ie ?_
 refine zjb rfl hR ?_ ?_<;>clear hR<;>intro hR h4
 ·have h4p:=h4;try simp only [Bool.and_eq_true,Bool.or_eq_true,Bool.and_eq_false_iff,Bool.or_eq_false_iff,Bool.not_eq_true',Bool.not_eq_false',decide_eq_true_eq,decide_eq_false_iff_not] at h4p
  refine sr 1 rfl (ip' 1 0 [(2,iv (-1))] ?_)
  subst hR
  refine ie (A7 ?_)
  exact D5 hr hD
 have h4p:=h4;try simp only [Bool.and_eq_true,Bool.or_eq_true,Bool.and_eq_false_iff,Bool.or_eq_false_iff,Bool.not_eq_true',Bool.not_eq_false',decide_eq_true_eq,decide_eq_false_iff_not] at h4p
 refine A4 (nx (A3 (sr 3 rfl ?_)))
 have hQ:=G6 hR;clear hR;obtain ⟨y12,hy12,hR⟩:=hQ
 refine zcm (C0n y12 hy12) fn0 fun ⟨⟨q5,k6⟩,hp7⟩=>?_
 obtain ⟨hc8,hl9⟩:=hp7
 refine ip' 1 1 [(19,iv cp)] ?_
 refine zca (B5x y12 cp q5 k6 (by first|omega|(simp only [List.length_take,List.length_drop,List.length_append,List.length_cons,List.length_nil,List.length_set,List.length_map];omega)|decide) (by first|omega|(simp only [List.length_take,List.length_drop,List.length_append,List.length_cons,List.length_nil,List.length_set,List.length_map];omega)|decide) _ rfl) A2.refl ?_
 refine ie ?_
 refine zjb rfl hR ?_ ?_<;>clear hR<;>intro hR h10
 ·refine sr 1 rfl (ip' 1 0 [(2,iv 0)] ?_)
  subst hR
  refine ie (A7 ?_)
  exact D5 hr hD
 refine A4 (nx (A3 (sr 3 rfl ?_)))
 have hQ:=G6 hR;clear hR;obtain ⟨y11,hy11,hR⟩:=hQ
 refine zcm (C3g y11 hy11) fn0 fun ⟨⟨q11,k12⟩,hp13⟩=>?_
 obtain ⟨hc14,hl15⟩:=hp13
 refine ip' 1 1 [(22,iv cp)] ?_
 refine zca (B5x y11 cp q11 k12 (by first|omega|(simp only [List.length_take,List.length_drop,List.length_append,List.length_cons,List.length_nil,List.length_set,List.length_map];omega)|decide) (by first|omega|(simp only [List.length_take,List.length_drop,List.length_append,List.length_cons,List.length_nil,List.length_set,List.length_map];omega)|decide) _ rfl) (A2.pick [0] rfl) ?_
 refine ie ?_
 refine zjb rfl hR ?_ ?_<;>clear hR<;>intro hR h16
 ·refine sr 1 rfl (ip' 1 0 [(2,iv 2)] ?_)
  subst hR
  refine ie (A7 ?_)
  exact D5 hr hD
 refine A4 (nx (sr 1 rfl (ip' 1 0 [(2,iv 1)] ?_)))
 subst hR
 refine ie (A7 ?_)
 exact D5 hr hD
def S4 (c:Cel):Int :=
 (bif (!decide ((Y0 c.sty)=0)) then 221 else (bif (A1i c) then 0 else (bif ((!decide (c.marks.a=0))&&((!decide ((G3 c.marks.a)=0))||false)) then 221 else (bif ((!decide (c.marks.b=0))&&((!decide ((G3 c.marks.b)=0))||(decide (c.marks.a=0)))) then 221 else (bif (((decide ((G3 c.base)=1))&&(decide (c.wide=0)))||((decide ((G3 c.base)=2))&&(decide (c.wide=1)))) then 0 else 221)))))
theorem B3a (c:Cel) (R:Int) (hR:S4 c=R):I6 Tryz.prog 110 [ag (B2 c)] [] (iv R):=by
 refine zco Tryz.func110 [(0,ag (B2 c))] fun X hX hr hD=>?_
 replace hR:=(S4.eq_1 ..).symm.trans hR
 refine sr 2 rfl (I7 2 0 [] (fun b1=>[(1,pt b1 0)]) (fun b1=>[bx b1 (B2 c) 72]) (fun b1=>?_))
 refine ie (A3 (sr 4 rfl (zrl 2 2 [0] [(6,ag (I8 c.sty))] ?_)))
 refine zca (B1a c.sty _ rfl) fn0 ?_
 refine ip' 1 0 [(8,bv (!decide ((Y0 c.sty)=0)))] ?_
 refine ie ?_
 refine zjn rfl hR ?_ ?_<;>clear hR<;>intro hR h2 h2p
 ·refine sr 1 rfl (ip' 1 0 [(2,iv 221)] ?_)
  subst hR
  refine ie (A7 ?_)
  exact D5 hr hD
 refine A4 (nx (A3 (sr 2 rfl (zrl 1 1 [0] [(9,ag (B2 c))] ?_))))
 refine zca (B6b c _ rfl) fn0 ?_
 refine ie ?_
 refine zjb rfl hR ?_ ?_<;>clear hR<;>intro hR h3
 ·refine sr 1 rfl (ip' 1 0 [(2,iv 0)] ?_)
  subst hR
  refine ie (A7 ?_)
  exact D5 hr hD
 refine A4 (nx (A3 (sr 1 rfl (ip' 1 0 [(3,iv 0)] ?_))))
 refine ie (B0 (R6 3 ?_))
 refine D7 (A3 (sr 2 rfl (ip' 2 0 [(12,bv true)] ?_)))
 refine ie (H8 rfl (A4 (nx (A3 (B0 (sr 25 rfl (ip' 2 23 [(15,iv 0),(16,pt b1 1)] ?_)))))))
 refine ix rfl (Q9 Tryz.underlying70 ty3 rfl rfl rfl 0 rfl rfl) ?_
 refine zrl 3 19 [0] [(20,bv (!decide (c.marks.a=0)))] ?_
 refine zia 19 0 20 39 ((!decide ((G3 c.marks.a)=0))||false) (fun g4=>?_) ?_
 ·have g4p:¬ c.marks.a=0:=by simpa using g4
  refine ip' 2 17 [(21,iv 0),(22,pt b1 1)] ?_
  refine ix rfl (Q9 Tryz.underlying70 ty3 rfl rfl rfl 0 rfl rfl) ?_
  refine zrl 1 15 [0] [(24,iv c.marks.a)] ?_
  refine zca (A8a c.marks.a _ rfl) fn0 ?_
  refine ip' 2 12 [(27,bv (!decide ((G3 c.marks.a)=0)))] ?_
  refine zio 11 1 27 38 false (fun g5=>?_) ?_
  ·have g5p:¬ (¬ (G3 c.marks.a)=0):=by simpa using g5
   refine ip' 11 0 [(38,bv false)] ?_
   exact A1 (H1 2 27 38 g5 fn0 (mk [true] rfl) rfl rfl rfl rfl rfl)
  refine ip' 1 0 [(39,bv ((!decide ((G3 c.marks.a)=0))||false))] ?_
  exact A1 (H1 9 20 39 g4 fn0 (mk [true] rfl) rfl rfl rfl rfl rfl)
 refine ie ?_
 refine zjb rfl hR ?_ ?_<;>clear hR<;>intro hR h6
 ·have h6p:=h6;try simp only [Bool.and_eq_true,Bool.or_eq_true,Bool.and_eq_false_iff,Bool.or_eq_false_iff,Bool.not_eq_true',Bool.not_eq_false',decide_eq_true_eq,decide_eq_false_iff_not] at h6p
  refine sr 1 rfl (ip' 1 0 [(2,iv 221)] ?_)
  subst hR
  refine ie (A7 ?_)
  exact D5 hr hD
 have h6p:=h6;try simp only [Bool.and_eq_true,Bool.or_eq_true,Bool.and_eq_false_iff,Bool.or_eq_false_iff,Bool.not_eq_true',Bool.not_eq_false',decide_eq_true_eq,decide_eq_false_iff_not] at h6p
 refine A4 (nx (A5 3 rfl (ip' 1 2 [(13,iv 0)] ?_)))
 refine ix rfl (B4 (c:=1) rfl rfl rfl rfl (by decide)) ?_
 refine ip' 1 0 [(3,iv 1)] ?_
 refine A1 (D7 (A3 (sr 2 rfl (ip' 2 0 [(12,bv true)] ?_))))
 refine ie (H8 rfl (A4 (nx (A3 (B0 (sr 25 rfl (ip' 2 23 [(15,iv 1),(16,pt b1 1)] ?_)))))))
 refine ix rfl (Q9 Tryz.underlying70 ty3 rfl rfl rfl 1 rfl rfl) ?_
 refine zrl 3 19 [0] [(20,bv (!decide (c.marks.b=0)))] ?_
 refine zia 19 0 20 39 ((!decide ((G3 c.marks.b)=0))||(decide (c.marks.a=0))) (fun g7=>?_) ?_
 ·have g7p:¬ c.marks.b=0:=by simpa using g7
  refine ip' 2 17 [(21,iv 1),(22,pt b1 1)] ?_
  refine ix rfl (Q9 Tryz.underlying70 ty3 rfl rfl rfl 1 rfl rfl) ?_
  refine zrl 1 15 [0] [(24,iv c.marks.b)] ?_
  refine zca (A8a c.marks.b _ rfl) fn0 ?_
  refine ip' 2 12 [(27,bv (!decide ((G3 c.marks.b)=0)))] ?_
  refine zio 11 1 27 38 (decide (c.marks.a=0)) (fun g8=>?_) ?_
  ·have g8p:¬ (¬ (G3 c.marks.b)=0):=by simpa using g8
   refine ip' 4 7 [(30,bv true),(31,iv 1)] ?_
   refine ix rfl (Q0 (c:=0) rfl rfl rfl rfl (by decide)) ?_
   refine ip' 1 5 [(33,pt b1 1)] ?_
   refine ix rfl (Q9 Tryz.underlying70 ty3 rfl rfl rfl 0 rfl rfl) ?_
   refine zrl 4 0 [0] [(38,bv (decide (c.marks.a=0)))] ?_
   exact A1 (H1 7 27 38 g8 fn0 (mk [true] rfl) rfl rfl rfl rfl rfl)
  refine ip' 1 0 [(39,bv ((!decide ((G3 c.marks.b)=0))||(decide (c.marks.a=0))))] ?_
  exact A1 (H1 9 20 39 g7 fn0 (mk [true] rfl) rfl rfl rfl rfl rfl)
 refine ie ?_
 refine zjb rfl hR ?_ ?_<;>clear hR<;>intro hR h9
 ·have h9p:(¬ c.marks.b=0)∧((¬ (G3 c.marks.b)=0)∨(c.marks.a=0)):=by simpa using h9
  refine sr 1 rfl (ip' 1 0 [(2,iv 221)] ?_)
  subst hR
  refine ie (A7 ?_)
  exact D5 hr hD
 have h9p:¬ ((¬ c.marks.b=0)∧((¬ (G3 c.marks.b)=0)∨(c.marks.a=0))):=by simpa using h9
 refine A4 (nx (A5 3 rfl (ip' 1 2 [(13,iv 1)] ?_)))
 refine ix rfl (B4 (c:=2) rfl rfl rfl rfl (by decide)) ?_
 refine ip' 1 0 [(3,iv 2)] ?_
 refine A1 (D7 (A3 (sr 2 rfl (ip' 2 0 [(12,bv false)] ?_))))
 refine ie (A0m rfl (G2 (nx (sr 4 rfl (zrl 2 2 [0] [(41,iv c.base)] ?_)))))
 refine zca (A8a c.base _ rfl) fn0 ?_
 refine ip' 1 0 [(4,iv (G3 c.base))] ?_
 refine ie (A3 (sr 16 rfl (ip' 3 13 [(45,bv (decide ((G3 c.base)=1)))] ?_)))
 refine zid 4 9 45 49 (decide (c.wide=0)) (fun g10 g10p=>?_) ?_
 ·refine zrl 4 0 [0] [(49,bv (decide (c.wide=0)))] ?_
  exact A1 (H1 2 45 49 g10 fn0 (mk [true] rfl) rfl rfl rfl rfl rfl)
 refine ip' 1 8 [(50,bv ((decide ((G3 c.base)=1))&&(decide (c.wide=0))))] ?_
 refine zio 8 0 50 58 ((decide ((G3 c.base)=2))&&(decide (c.wide=1))) (fun g11=>?_) ?_
 ·have g11p:¬ (((G3 c.base)=1)∧(c.wide=0)):=by simpa using g11
  refine ip' 3 5 [(53,bv (decide ((G3 c.base)=2)))] ?_
  refine zid 4 1 53 57 (decide (c.wide=1)) (fun g12 g12p=>?_) ?_
  ·refine zrl 4 0 [0] [(57,bv (decide (c.wide=1)))] ?_
   exact A1 (H1 2 53 57 g12 fn0 (mk [true] rfl) rfl rfl rfl rfl rfl)
  refine ip' 1 0 [(58,bv ((decide ((G3 c.base)=2))&&(decide (c.wide=1))))] ?_
  exact A1 (H1 4 50 58 g11 fn0 (mk [true] rfl) rfl rfl rfl rfl rfl)
 refine ie ?_
 refine zjb rfl hR ?_ ?_<;>clear hR<;>intro hR h13
 ·have h13p:(((G3 c.base)=1)∧(c.wide=0))∨(((G3 c.base)=2)∧(c.wide=1)):=by simpa using h13
  refine sr 1 rfl (ip' 1 0 [(2,iv 0)] ?_)
  subst hR
  refine ie (A7 ?_)
  exact D5 hr hD
 have h13p:¬ ((((G3 c.base)=1)∧(c.wide=0))∨(((G3 c.base)=2)∧(c.wide=1))):=by first|simpa using h13|(simp at h13 ⊢;omega)
 refine A4 (nx (sr 1 rfl (ip' 1 0 [(2,iv 221)] ?_)))
 subst hR
 refine ie (A7 ?_)
 exact D5 hr hD
def R4 (rCells:List Cel):List Cel→Nat→Int
 | [],i=>0
 | hd_l0::tl_l0,i=>(bif (!decide ((S4 hd_l0)=0)) then 220 else (bif (((!(((decide ((0:Int)<(i:Int)))&&(decide ((rCells.getD (i - 1) Cel.zero).wide=1))) == (decide (hd_l0.wide=2))))||(((decide ((0:Int)<(i:Int)))&&(decide ((rCells.getD (i - 1) Cel.zero).wide=1)))&&(!(decide (hd_l0.sty=(rCells.getD (i - 1) Cel.zero).sty)))))||((decide (hd_l0.wide=1))&&(decide ((i:Int)=((rCells.length:Int) - 1))))) then 220 else R4 rCells tl_l0 (i+1)))
def A4d (rCells:List Cel) (rWrapped:Bool):Int :=
 (bif ((decide ((rCells.length:Int)<2))||(decide ((80:Int)<(rCells.length:Int)))) then 220 else R4 rCells rCells 0)
theorem B8j (rCells:List Cel) (rWrapped:Bool) (rCellsq:Option Addr) (rCellsk:Nat) (hlrCells:rCells.length≤9223372036854775807) (hcrCells:rCells.length≤rCellsk) (R:Int) (hR:A4d rCells rWrapped=R):I6 Tryz.prog 65 [ag [.slice rCellsq rCells.length rCellsk,bv rWrapped]] [sl B2 rCellsq rCells] (iv R):=by
 refine zco Tryz.func65 [(0,ag [.slice rCellsq rCells.length rCellsk,bv rWrapped])] fun X hX hr hD=>?_
 replace hR:=(A4d.eq_1 ..).symm.trans hR
 refine sr 2 rfl (I7 2 0 [] (fun b1=>[(1,pt b1 0)]) (fun b1=>[bx b1 [.slice rCellsq rCells.length rCellsk,bv rWrapped] 78]) (fun b1=>?_))
 refine ie (sr 3 rfl (zrl 3 0 [0] [(3,.slice rCellsq rCells.length rCellsk)] ?_))
 refine ie (A3 (sr 8 rfl (ip' 4 4 [(11,bv (decide ((rCells.length:Int)<2)))] ?_)))
 refine zir 4 0 11 15 (decide ((80:Int)<(rCells.length:Int))) (fun g2 g2p=>?_) ?_
 ·refine ip' 4 0 [(15,bv (decide ((80:Int)<(rCells.length:Int))))] ?_
  exact zai 2 11 15 g2
 refine ie ?_
 refine zjo rfl hR ?_ ?_<;>clear hR<;>intro hR h3 h3p
 ·refine sr 1 rfl (ip' 1 0 [(2,iv 220)] ?_)
  subst hR
  refine ie (A7 ?_)
  exact D5 hr hD
 refine A4 (nx (A3 (sr 1 rfl (ip' 1 0 [(4,iv 0)] ?_))))
 refine ie (B0 (B3w (fun (i:Nat)=>(i≤rCells.length∧R4 rCells (rCells.drop i) i=R,[(3,.slice rCellsq rCells.length rCellsk),(4,iv (i:Int))],[bx b1 [.slice rCellsq rCells.length rCellsk,bv rWrapped] 78],[sl B2 rCellsq rCells],rCells.length - i)) 0 ⟨(by omega),hR⟩ (mk [true] rfl) A2.refl ?_))
 rintro i ⟨hm4,hR⟩
 refine A3 (sr 4 rfl (ip' 4 0 [(19,bv (decide ((i:Int)<(rCells.length:Int))))] ?_))
 refine ie (S2 rfl (fun h5=>?_) (fun h5=>?_))
 ·have h5p:(i:Int)<(rCells.length:Int):=by simpa using h5
  rw [U1 Cel.zero (show i<rCells.length by omega)] at hR;replace hR:=(R4.eq_2 ..).symm.trans hR
  refine A4 (nx (A3 (B0 (A3 (sr 6 rfl (ip' 2 4 [(22,.slice rCellsq rCells.length rCellsk),(23,iv (i:Int))] ?_))))))
  refine J3 0 rfl (by omega) fun a6 hq7=>?_
  refine ix rfl (E8 S9 rfl rfl hq7 rfl i rfl (by omega)) ?_
  refine ix rfl (L4 (us:=B2 (rCells.getD i Cel.zero)) B8o rfl rfl (G0 (c:=B2) (sz:=12) hq7 (fun _=>rfl) 0 rfl (gd Cel.zero (by omega))) rfl) ?_
  refine zca (B3a (rCells.getD i Cel.zero) _ rfl) fn0 ?_
  refine ip' 1 0 [(27,bv (!decide ((S4 (rCells.getD i Cel.zero))=0)))] ?_
  refine ie ?_
  refine zjn rfl hR ?_ ?_<;>clear hR<;>intro hR h8 h8p
  ·refine sr 1 rfl (ip' 1 0 [(2,iv 220)] ?_)
   subst hR
   refine ie (A7 ?_)
   exact D5 hr hD
  refine A4 (nx (sr 12 rfl (ip' 3 9 [(30,bv (decide ((0:Int)<(i:Int))))] ?_)))
  refine zid 8 1 30 38 (decide ((rCells.getD (i - 1) Cel.zero).wide=1)) (fun g9 g9p=>?_) ?_
  ·refine ip' 2 6 [(31,.slice rCellsq rCells.length rCellsk),(32,iv (i:Int))] ?_
   refine ix rfl (Q0 rfl rfl rfl rfl (by omega)) ?_
   refine ix rfl (E8 S9 rfl rfl hq7 rfl (i - 1) (by omega) (by omega)) ?_
   refine ip' 1 3 [(35,pa ((Addr.add a6 ((i - 1) * 12)).add 3))] ?_
   refine ix rfl (C8 (v:=iv ((rCells.getD (i - 1) Cel.zero).wide)) (us:=[iv ((rCells.getD (i - 1) Cel.zero).wide)]) ty3 rfl rfl (A3x (G0 (c:=B2) (sz:=12) hq7 (fun _=>rfl) 0 rfl (gd Cel.zero (by omega))) (ws:=[iv ((rCells.getD (i - 1) Cel.zero).wide)]) 3 1 rfl) rfl) ?_
   refine ip' 2 0 [(38,bv (decide ((rCells.getD (i - 1) Cel.zero).wide=1)))] ?_
   exact zai 8 30 38 g9
  refine ip' 1 0 [(5,bv ((decide ((0:Int)<(i:Int)))&&(decide ((rCells.getD (i - 1) Cel.zero).wide=1))))] ?_
  refine ie (sd 40 rfl (by kernel_rfl) rfl ?_)
  refine dp' 3 37 [(39,bv ((decide ((0:Int)<(i:Int)))&&(decide ((rCells.getD (i - 1) Cel.zero).wide=1)))),(40,.slice rCellsq rCells.length rCellsk),(41,iv (i:Int))] ?_
  refine dd rfl (E8 S9 rfl rfl hq7 rfl i rfl (by omega)) ?_
  refine dp' 1 35 [(43,pa ((Addr.add a6 (i * 12)).add 3))] ?_
  refine dd rfl (C8 (v:=iv ((rCells.getD i Cel.zero).wide)) (us:=[iv ((rCells.getD i Cel.zero).wide)]) ty3 rfl rfl (A3x (G0 (c:=B2) (sz:=12) hq7 (fun _=>rfl) 0 rfl (gd Cel.zero (by omega))) (ws:=[iv ((rCells.getD i Cel.zero).wide)]) 3 1 rfl) rfl) ?_
  refine dp' 1 33 [(45,bv (decide ((rCells.getD i Cel.zero).wide=2)))] ?_
  refine dd rfl (C0o Tryz.underlying4 rfl rfl rfl) ?_
  refine dp' 1 31 [(47,bv (!(((decide ((0:Int)<(i:Int)))&&(decide ((rCells.getD (i - 1) Cel.zero).wide=1))) == (decide ((rCells.getD i Cel.zero).wide=2)))))] ?_
  refine zdO 16 15 47 63 (((decide ((0:Int)<(i:Int)))&&(decide ((rCells.getD (i - 1) Cel.zero).wide=1)))&&(!(decide ((rCells.getD i Cel.zero).sty=(rCells.getD (i - 1) Cel.zero).sty)))) (fun g10=>?_) ?_
  ·have g10p:=g10;try simp only [Bool.and_eq_true,Bool.or_eq_true,Bool.and_eq_false_iff,Bool.or_eq_false_iff,Bool.not_eq_true',Bool.not_eq_false',decide_eq_true_eq,decide_eq_false_iff_not] at g10p
   refine dp' 2 14 [(49,bv ((decide ((0:Int)<(i:Int)))&&(decide ((rCells.getD (i - 1) Cel.zero).wide=1))))] ?_
   refine zda 13 1 49 62 (!(decide ((rCells.getD i Cel.zero).sty=(rCells.getD (i - 1) Cel.zero).sty))) (fun g11=>?_) ?_
   ·have g11p:((0:Int)<(i:Int))∧((rCells.getD (i - 1) Cel.zero).wide=1):=by simpa using g11
    refine dp' 2 11 [(50,.slice rCellsq rCells.length rCellsk),(51,iv (i:Int))] ?_
    refine dd rfl (E8 S9 rfl rfl hq7 rfl i rfl (by omega)) ?_
    refine dp' 1 9 [(53,pa ((Addr.add a6 (i * 12)).add 4))] ?_
    refine dd rfl (L4 (us:=I8 ((rCells.getD i Cel.zero).sty)) C9j rfl rfl (A3x (G0 (c:=B2) (sz:=12) hq7 (fun _=>rfl) 0 rfl (gd Cel.zero (by omega))) (ws:=I8 ((rCells.getD i Cel.zero).sty)) 4 8 rfl) rfl) ?_
    refine dp' 2 6 [(55,.slice rCellsq rCells.length rCellsk),(56,iv (i:Int))] ?_
    refine dd rfl (Q0 rfl rfl rfl rfl (by omega)) ?_
    refine dd rfl (E8 S9 rfl rfl hq7 rfl (i - 1) (by omega) (by omega)) ?_
    refine dp' 1 3 [(59,pa ((Addr.add a6 ((i - 1) * 12)).add 4))] ?_
    refine dd rfl (L4 (us:=I8 ((rCells.getD (i - 1) Cel.zero).sty)) C9j rfl rfl (A3x (G0 (c:=B2) (sz:=12) hq7 (fun _=>rfl) 0 rfl (gd Cel.zero (by omega))) (ws:=I8 ((rCells.getD (i - 1) Cel.zero).sty)) 4 8 rfl) rfl) ?_
    refine dd rfl (A5i (a:=(rCells.getD i Cel.zero).sty) (b:=(rCells.getD (i - 1) Cel.zero).sty) D2d rfl rfl rfl) ?_
    refine dp' 1 0 [(62,bv (!(decide ((rCells.getD i Cel.zero).sty=(rCells.getD (i - 1) Cel.zero).sty))))] ?_
    exact zad 14 49 62 g11
   refine dp' 1 0 [(63,bv (((decide ((0:Int)<(i:Int)))&&(decide ((rCells.getD (i - 1) Cel.zero).wide=1)))&&(!(decide ((rCells.getD i Cel.zero).sty=(rCells.getD (i - 1) Cel.zero).sty)))))] ?_
   exact zad 4 47 63 g10
  refine dp' 1 14 [(64,bv ((!(((decide ((0:Int)<(i:Int)))&&(decide ((rCells.getD (i - 1) Cel.zero).wide=1))) == (decide ((rCells.getD i Cel.zero).wide=2))))||(((decide ((0:Int)<(i:Int)))&&(decide ((rCells.getD (i - 1) Cel.zero).wide=1)))&&(!(decide ((rCells.getD i Cel.zero).sty=(rCells.getD (i - 1) Cel.zero).sty))))))] ?_
  refine zdO 14 0 64 78 ((decide ((rCells.getD i Cel.zero).wide=1))&&(decide ((i:Int)=((rCells.length:Int) - 1)))) (fun g12=>?_) ?_
  ·have g12p:=g12;try simp only [Bool.and_eq_true,Bool.or_eq_true,Bool.and_eq_false_iff,Bool.or_eq_false_iff,Bool.not_eq_true',Bool.not_eq_false',decide_eq_true_eq,decide_eq_false_iff_not] at g12p
   refine dp' 2 12 [(65,.slice rCellsq rCells.length rCellsk),(66,iv (i:Int))] ?_
   refine dd rfl (E8 S9 rfl rfl hq7 rfl i rfl (by omega)) ?_
   refine dp' 1 10 [(68,pa ((Addr.add a6 (i * 12)).add 3))] ?_
   refine dd rfl (C8 (v:=iv ((rCells.getD i Cel.zero).wide)) (us:=[iv ((rCells.getD i Cel.zero).wide)]) ty3 rfl rfl (A3x (G0 (c:=B2) (sz:=12) hq7 (fun _=>rfl) 0 rfl (gd Cel.zero (by omega))) (ws:=[iv ((rCells.getD i Cel.zero).wide)]) 3 1 rfl) rfl) ?_
   refine dp' 2 7 [(71,bv (decide ((rCells.getD i Cel.zero).wide=1)))] ?_
   refine zdd 6 1 71 77 (decide ((i:Int)=((rCells.length:Int) - 1))) (fun g13 g13p=>?_) ?_
   ·refine dp' 3 3 [(72,iv (i:Int)),(74,iv (rCells.length:Int))] ?_
    refine dd rfl (Q0 rfl rfl rfl rfl (by omega)) ?_
    refine dp' 2 0 [(77,bv (decide ((i:Int)=((rCells.length:Int) - 1))))] ?_
    exact zad 5 71 77 g13
   refine dp' 1 0 [(78,bv ((decide ((rCells.getD i Cel.zero).wide=1))&&(decide ((i:Int)=((rCells.length:Int) - 1)))))] ?_
   exact zad 9 64 78 g12
  refine de ?_
  refine zjb rfl hR ?_ ?_<;>clear hR<;>intro hR h14
  ·have h14p:=h14;try simp only [Bool.and_eq_true,Bool.or_eq_true,Bool.and_eq_false_iff,Bool.or_eq_false_iff,Bool.not_eq_true',Bool.not_eq_false',decide_eq_true_eq,decide_eq_false_iff_not] at h14p
   refine sr 1 rfl (ip' 1 0 [(2,iv 220)] ?_)
   subst hR
   refine ie (A7 ?_)
   exact D5 hr hD
  have h14p:=h14;try simp only [Bool.and_eq_true,Bool.or_eq_true,Bool.and_eq_false_iff,Bool.or_eq_false_iff,Bool.not_eq_true',Bool.not_eq_false',decide_eq_true_eq,decide_eq_false_iff_not] at h14p
  refine A4 (nx (A5 3 rfl (ip' 1 2 [(20,iv (i:Int))] ?_)))
  refine ix rfl (B4 rfl rfl rfl rfl (by omega)) ?_
  refine ip' 1 0 [(4,iv ((i:Int)+1))] ?_
  refine A1 ?_
  exact B4g (z1:=i) (i+1) ⟨(by omega),hR⟩ (by (try dsimp only);omega) (mk [true] rfl) A2.refl
 have h5p:¬ ((i:Int)<(rCells.length:Int)):=by simpa using h5
 rw [U2 h5p] at hR;replace hR:=(R4.eq_1 ..).symm.trans hR
 refine G2 (nx (sr 1 rfl (ip' 1 0 [(2,iv 0)] ?_)))
 subst hR
 refine ie (A7 ?_)
 exact D5 hr hD
def O0 (rCells:List Cel) (rWrapped:Bool):Bool :=
 (decide ((A4d rCells rWrapped)=0))
theorem B1c (rCells:List Cel) (rWrapped:Bool) (rCellsq:Option Addr) (rCellsk:Nat) (hlrCells:rCells.length≤9223372036854775807) (hcrCells:rCells.length≤rCellsk) (R:Bool) (hR:O0 rCells rWrapped=R):I6 Tryz.prog 32 [ag [.slice rCellsq rCells.length rCellsk,bv rWrapped]] [sl B2 rCellsq rCells] (bv R):=by
 refine zco Tryz.func32 [(0,ag [.slice rCellsq rCells.length rCellsk,bv rWrapped])] fun X hX hr hD=>?_
 replace hR:=(O0.eq_1 ..).symm.trans hR
 refine sr 2 rfl (I7 2 0 [] (fun b1=>[(1,pt b1 0)]) (fun b1=>[bx b1 [.slice rCellsq rCells.length rCellsk,bv rWrapped] 78]) (fun b1=>?_))
 refine ie (sr 4 rfl (zrl 1 3 [0] [(3,ag [.slice rCellsq rCells.length rCellsk,bv rWrapped])] ?_))
 refine zca (B8j rCells rWrapped rCellsq rCellsk (by first|omega|(simp only [List.length_take,List.length_drop,List.length_append,List.length_cons,List.length_nil,List.length_set,List.length_map];omega)|decide) (by first|omega|(simp only [List.length_take,List.length_drop,List.length_append,List.length_cons,List.length_nil,List.length_set,List.length_map];omega)|decide) _ rfl) A2.refl ?_
 refine ip' 2 0 [(2,bv (decide ((A4d rCells rWrapped)=0)))] ?_
 subst hR
 refine ie (A7 ?_)
 exact D5 hr hD
def C6:Int×Int×Int :=
 (0,0,0)
theorem B8e:0≤(C6).2.2∧(C6).2.2≤4:=by unfold C6;decide
theorem B9y (R:Int×Int×Int) (hR:C6=R):I6 Tryz.prog 309 [.slice none 0 0] [] (.tuple #[iv R.1,iv R.2.1,iv R.2.2]):=by
 refine zco Tryz.func309 [(0,.slice none 0 0)] fun X hX hr hD=>?_
 replace hR:=(C6.eq_1 ..).symm.trans hR
 refine sr 3 rfl (ip' 3 0 [] ?_)
 refine ie (A3 (sr 3 rfl (ip' 3 0 [(12,bv true)] ?_)))
 refine ie (H8 rfl (sr 3 rfl (ip' 3 0 [(2,iv 0),(3,iv 0),(4,iv 0)] ?_)))
 subst hR
 refine ie (A7 ?_)
 exact zer hr hD (C8z rfl (B1 rfl) (B1 rfl) (B1 rfl)) () (mk [] rfl) fn0
def B1t:Bool×Bool :=
 (F1 C6 fun (y0:Int×Int×Int)=>(bif (decide (y0.2.2=0)) then (false,false) else (((decide ((if (([0,0,128,2048,65536]:List Int).getD ((y0.2.2).toNat) 0) > y0.1 then (([0,0,128,2048,65536]:List Int).getD ((y0.2.2).toNat) 0) else y0.1)≤(if (([0,127,2047,65535,1114111]:List Int).getD ((y0.2.2).toNat) 0)<y0.2.1 then (([0,127,2047,65535,1114111]:List Int).getD ((y0.2.2).toNat) 0) else y0.2.1)))&&(!((decide ((55296:Int)≤(if (([0,0,128,2048,65536]:List Int).getD ((y0.2.2).toNat) 0) > y0.1 then (([0,0,128,2048,65536]:List Int).getD ((y0.2.2).toNat) 0) else y0.1)))&&(decide ((if (([0,127,2047,65535,1114111]:List Int).getD ((y0.2.2).toNat) 0)<y0.2.1 then (([0,127,2047,65535,1114111]:List Int).getD ((y0.2.2).toNat) 0) else y0.2.1)≤57343))))),(((decide ((if (([0,0,128,2048,65536]:List Int).getD ((y0.2.2).toNat) 0) > y0.1 then (([0,0,128,2048,65536]:List Int).getD ((y0.2.2).toNat) 0) else y0.1)≤(if (([0,127,2047,65535,1114111]:List Int).getD ((y0.2.2).toNat) 0)<y0.2.1 then (([0,127,2047,65535,1114111]:List Int).getD ((y0.2.2).toNat) 0) else y0.2.1)))&&(!((decide ((55296:Int)≤(if (([0,0,128,2048,65536]:List Int).getD ((y0.2.2).toNat) 0) > y0.1 then (([0,0,128,2048,65536]:List Int).getD ((y0.2.2).toNat) 0) else y0.1)))&&(decide ((if (([0,127,2047,65535,1114111]:List Int).getD ((y0.2.2).toNat) 0)<y0.2.1 then (([0,127,2047,65535,1114111]:List Int).getD ((y0.2.2).toNat) 0) else y0.2.1)≤57343)))))&&(decide ((0:Int)=y0.2.2))))))
theorem B9x (R:Bool×Bool) (hR:B1t=R):I6 Tryz.prog 308 [.slice none 0 0] [] (.tuple #[bv R.1,bv R.2]):=by
 refine zco Tryz.func308 [(0,.slice none 0 0)] fun X hX hr hD=>?_
 replace hR:=(B1t.eq_1 ..).symm.trans hR
 refine sr 2 rfl (ip' 2 0 [] ?_)
 refine ie (sr 9 rfl (ip' 1 8 [(11,.slice none 0 0)] ?_))
 have hQ:=G6 hR;clear hR;obtain ⟨y0,hy0,hR⟩:=hQ
 refine zca (B9y y0 hy0) fn0 ?_
 have:=B8e ;try rw [hy0] at this
 refine ip' 7 0 [(4,iv y0.1),(5,iv y0.2.1),(6,iv y0.2.2)] ?_
 refine ie (A3 (sr 2 rfl (ip' 2 0 [(17,bv (decide (y0.2.2=0)))] ?_)))
 refine ie ?_
 refine zjd rfl hR ?_ ?_<;>clear hR<;>intro hR h1 h1p
 ·refine sr 2 rfl (ip' 2 0 [(2,bv false),(3,bv false)] ?_)
  subst hR
  refine ie (A7 ?_)
  exact A7m hr hD
 refine A4 (nx (sr 3 rfl (I7 3 0 [0] (fun b2=>[(7,pt b2 0)]) (fun b2=>[bx b2 [iv 0,iv 0,iv 128,iv 2048,iv 65536] 310]) (fun b2=>?_))))
 refine ie (sr 3 rfl (I7 3 0 [0] (fun b3=>[(8,pt b3 0)]) (fun b3=>[bx b3 [iv 0,iv 127,iv 2047,iv 65535,iv 1114111] 310,bx b2 [iv 0,iv 0,iv 128,iv 2048,iv 65536] 310]) (fun b3=>?_)))
 refine ie (sd 12 rfl (by kernel_rfl) rfl ?_)
 refine dp' 2 10 [(20,iv y0.1),(21,iv y0.2.2)] ?_
 refine dd rfl (A2a Tryz.underlying310 ty3 rfl rfl rfl ((y0.2.2).toNat) (by omega) (by omega)) ?_
 refine dd rfl (V2 (u:=iv (([0,0,128,2048,65536]:List Int).getD ((y0.2.2).toNat) 0)) (c:=K8) (xs:=([0,0,128,2048,65536]:List Int)) (j:=[]) (sz:=1) ty3 (fun _=>rfl) rfl rfl 1 rfl ((y0.2.2).toNat) 0 rfl (gd 0 (by simp only [List.length_cons,List.length_nil];omega)) rfl) ?_
 refine dp' 3 5 [(24,iv (if (([0,0,128,2048,65536]:List Int).getD ((y0.2.2).toNat) 0) > y0.1 then (([0,0,128,2048,65536]:List Int).getD ((y0.2.2).toNat) 0) else y0.1)),(25,iv y0.2.1),(26,iv y0.2.2)] ?_
 have:=C0q y0.1 (([0,0,128,2048,65536]:List Int).getD ((y0.2.2).toNat) 0)
 refine dd rfl (A2a Tryz.underlying310 ty3 rfl rfl rfl ((y0.2.2).toNat) (by omega) (by omega)) ?_
 refine dd rfl (V2 (u:=iv (([0,127,2047,65535,1114111]:List Int).getD ((y0.2.2).toNat) 0)) (c:=K8) (xs:=([0,127,2047,65535,1114111]:List Int)) (j:=[]) (sz:=1) ty3 (fun _=>rfl) rfl rfl 0 rfl ((y0.2.2).toNat) 0 rfl (gd 0 (by simp only [List.length_cons,List.length_nil];omega)) rfl) ?_
 refine dp' 3 0 [(4,iv (if (([0,0,128,2048,65536]:List Int).getD ((y0.2.2).toNat) 0) > y0.1 then (([0,0,128,2048,65536]:List Int).getD ((y0.2.2).toNat) 0) else y0.1)),(5,iv (if (([0,127,2047,65535,1114111]:List Int).getD ((y0.2.2).toNat) 0)<y0.2.1 then (([0,127,2047,65535,1114111]:List Int).getD ((y0.2.2).toNat) 0) else y0.2.1))] ?_
 have:=C0q y0.1 (([0,0,128,2048,65536]:List Int).getD ((y0.2.2).toNat) 0)
 have:=C7z y0.2.1 (([0,127,2047,65535,1114111]:List Int).getD ((y0.2.2).toNat) 0)
 refine de (sr 13 rfl (ip' 4 9 [(33,bv (decide ((if (([0,0,128,2048,65536]:List Int).getD ((y0.2.2).toNat) 0) > y0.1 then (([0,0,128,2048,65536]:List Int).getD ((y0.2.2).toNat) 0) else y0.1)≤(if (([0,127,2047,65535,1114111]:List Int).getD ((y0.2.2).toNat) 0)<y0.2.1 then (([0,127,2047,65535,1114111]:List Int).getD ((y0.2.2).toNat) 0) else y0.2.1))))] ?_))
 refine zia 8 1 33 41 (!((decide ((55296:Int)≤(if (([0,0,128,2048,65536]:List Int).getD ((y0.2.2).toNat) 0) > y0.1 then (([0,0,128,2048,65536]:List Int).getD ((y0.2.2).toNat) 0) else y0.1)))&&(decide ((if (([0,127,2047,65535,1114111]:List Int).getD ((y0.2.2).toNat) 0)<y0.2.1 then (([0,127,2047,65535,1114111]:List Int).getD ((y0.2.2).toNat) 0) else y0.2.1)≤57343)))) (fun g4=>?_) ?_
 ·have g4p:(if (([0,0,128,2048,65536]:List Int).getD ((y0.2.2).toNat) 0) > y0.1 then (([0,0,128,2048,65536]:List Int).getD ((y0.2.2).toNat) 0) else y0.1)≤(if (([0,127,2047,65535,1114111]:List Int).getD ((y0.2.2).toNat) 0)<y0.2.1 then (([0,127,2047,65535,1114111]:List Int).getD ((y0.2.2).toNat) 0) else y0.2.1):=by first|exact of_decide_eq_true g4|simpa only [Bool.and_eq_true,Bool.not_eq_true',Bool.and_eq_false_imp,decide_eq_true_eq,decide_eq_false_iff_not,not_and] using g4|simpa using g4
  refine ip' 3 5 [(36,bv (decide ((55296:Int)≤(if (([0,0,128,2048,65536]:List Int).getD ((y0.2.2).toNat) 0) > y0.1 then (([0,0,128,2048,65536]:List Int).getD ((y0.2.2).toNat) 0) else y0.1))))] ?_
  refine zia 3 2 36 39 (decide ((if (([0,127,2047,65535,1114111]:List Int).getD ((y0.2.2).toNat) 0)<y0.2.1 then (([0,127,2047,65535,1114111]:List Int).getD ((y0.2.2).toNat) 0) else y0.2.1)≤57343)) (fun g5=>?_) ?_
  ·have g5p:(55296:Int)≤(if (([0,0,128,2048,65536]:List Int).getD ((y0.2.2).toNat) 0) > y0.1 then (([0,0,128,2048,65536]:List Int).getD ((y0.2.2).toNat) 0) else y0.1):=by first|exact of_decide_eq_true g5|simpa only [Bool.and_eq_true,Bool.not_eq_true',Bool.and_eq_false_imp,decide_eq_true_eq,decide_eq_false_iff_not,not_and] using g5|simpa using g5
   refine ip' 3 0 [(39,bv (decide ((if (([0,127,2047,65535,1114111]:List Int).getD ((y0.2.2).toNat) 0)<y0.2.1 then (([0,127,2047,65535,1114111]:List Int).getD ((y0.2.2).toNat) 0) else y0.2.1)≤57343)))] ?_
   exact A1 (H1 2 36 39 g5 fn0 (mk [true,true] rfl) rfl rfl rfl rfl rfl)
  refine ip' 2 0 [(41,bv (!((decide ((55296:Int)≤(if (([0,0,128,2048,65536]:List Int).getD ((y0.2.2).toNat) 0) > y0.1 then (([0,0,128,2048,65536]:List Int).getD ((y0.2.2).toNat) 0) else y0.1)))&&(decide ((if (([0,127,2047,65535,1114111]:List Int).getD ((y0.2.2).toNat) 0)<y0.2.1 then (([0,127,2047,65535,1114111]:List Int).getD ((y0.2.2).toNat) 0) else y0.2.1)≤57343)))))] ?_
  exact A1 (H1 4 33 41 g4 fn0 (mk [true,true] rfl) rfl rfl rfl rfl rfl)
 refine ip' 1 0 [(9,bv ((decide ((if (([0,0,128,2048,65536]:List Int).getD ((y0.2.2).toNat) 0) > y0.1 then (([0,0,128,2048,65536]:List Int).getD ((y0.2.2).toNat) 0) else y0.1)≤(if (([0,127,2047,65535,1114111]:List Int).getD ((y0.2.2).toNat) 0)<y0.2.1 then (([0,127,2047,65535,1114111]:List Int).getD ((y0.2.2).toNat) 0) else y0.2.1)))&&(!((decide ((55296:Int)≤(if (([0,0,128,2048,65536]:List Int).getD ((y0.2.2).toNat) 0) > y0.1 then (([0,0,128,2048,65536]:List Int).getD ((y0.2.2).toNat) 0) else y0.1)))&&(decide ((if (([0,127,2047,65535,1114111]:List Int).getD ((y0.2.2).toNat) 0)<y0.2.1 then (([0,127,2047,65535,1114111]:List Int).getD ((y0.2.2).toNat) 0) else y0.2.1)≤57343))))))] ?_
 refine ie (sr 10 rfl (ip' 3 7 [(42,bv ((decide ((if (([0,0,128,2048,65536]:List Int).getD ((y0.2.2).toNat) 0) > y0.1 then (([0,0,128,2048,65536]:List Int).getD ((y0.2.2).toNat) 0) else y0.1)≤(if (([0,127,2047,65535,1114111]:List Int).getD ((y0.2.2).toNat) 0)<y0.2.1 then (([0,127,2047,65535,1114111]:List Int).getD ((y0.2.2).toNat) 0) else y0.2.1)))&&(!((decide ((55296:Int)≤(if (([0,0,128,2048,65536]:List Int).getD ((y0.2.2).toNat) 0) > y0.1 then (([0,0,128,2048,65536]:List Int).getD ((y0.2.2).toNat) 0) else y0.1)))&&(decide ((if (([0,127,2047,65535,1114111]:List Int).getD ((y0.2.2).toNat) 0)<y0.2.1 then (([0,127,2047,65535,1114111]:List Int).getD ((y0.2.2).toNat) 0) else y0.2.1)≤57343)))))),(44,bv ((decide ((if (([0,0,128,2048,65536]:List Int).getD ((y0.2.2).toNat) 0) > y0.1 then (([0,0,128,2048,65536]:List Int).getD ((y0.2.2).toNat) 0) else y0.1)≤(if (([0,127,2047,65535,1114111]:List Int).getD ((y0.2.2).toNat) 0)<y0.2.1 then (([0,127,2047,65535,1114111]:List Int).getD ((y0.2.2).toNat) 0) else y0.2.1)))&&(!((decide ((55296:Int)≤(if (([0,0,128,2048,65536]:List Int).getD ((y0.2.2).toNat) 0) > y0.1 then (([0,0,128,2048,65536]:List Int).getD ((y0.2.2).toNat) 0) else y0.1)))&&(decide ((if (([0,127,2047,65535,1114111]:List Int).getD ((y0.2.2).toNat) 0)<y0.2.1 then (([0,127,2047,65535,1114111]:List Int).getD ((y0.2.2).toNat) 0) else y0.2.1)≤57343))))))] ?_))
 refine zia 5 2 44 49 (decide ((0:Int)=y0.2.2)) (fun g6=>?_) ?_
 ·have g6p:((if (([0,0,128,2048,65536]:List Int).getD ((y0.2.2).toNat) 0) > y0.1 then (([0,0,128,2048,65536]:List Int).getD ((y0.2.2).toNat) 0) else y0.1)≤(if (([0,127,2047,65535,1114111]:List Int).getD ((y0.2.2).toNat) 0)<y0.2.1 then (([0,127,2047,65535,1114111]:List Int).getD ((y0.2.2).toNat) 0) else y0.2.1))∧(¬ (((55296:Int)≤(if (([0,0,128,2048,65536]:List Int).getD ((y0.2.2).toNat) 0) > y0.1 then (([0,0,128,2048,65536]:List Int).getD ((y0.2.2).toNat) 0) else y0.1))∧((if (([0,127,2047,65535,1114111]:List Int).getD ((y0.2.2).toNat) 0)<y0.2.1 then (([0,127,2047,65535,1114111]:List Int).getD ((y0.2.2).toNat) 0) else y0.2.1)≤57343))):=by first|exact of_decide_eq_true g6|simpa only [Bool.and_eq_true,Bool.not_eq_true',Bool.and_eq_false_imp,decide_eq_true_eq,decide_eq_false_iff_not,not_and] using g6|simpa using g6
  refine ip' 5 0 [(49,bv (decide ((0:Int)=y0.2.2)))] ?_
  exact A1 (H1 2 44 49 g6 fn0 (mk [true,true] rfl) rfl rfl rfl rfl rfl)
 refine ip' 2 0 [(2,bv ((decide ((if (([0,0,128,2048,65536]:List Int).getD ((y0.2.2).toNat) 0) > y0.1 then (([0,0,128,2048,65536]:List Int).getD ((y0.2.2).toNat) 0) else y0.1)≤(if (([0,127,2047,65535,1114111]:List Int).getD ((y0.2.2).toNat) 0)<y0.2.1 then (([0,127,2047,65535,1114111]:List Int).getD ((y0.2.2).toNat) 0) else y0.2.1)))&&(!((decide ((55296:Int)≤(if (([0,0,128,2048,65536]:List Int).getD ((y0.2.2).toNat) 0) > y0.1 then (([0,0,128,2048,65536]:List Int).getD ((y0.2.2).toNat) 0) else y0.1)))&&(decide ((if (([0,127,2047,65535,1114111]:List Int).getD ((y0.2.2).toNat) 0)<y0.2.1 then (([0,127,2047,65535,1114111]:List Int).getD ((y0.2.2).toNat) 0) else y0.2.1)≤57343)))))),(3,bv (((decide ((if (([0,0,128,2048,65536]:List Int).getD ((y0.2.2).toNat) 0) > y0.1 then (([0,0,128,2048,65536]:List Int).getD ((y0.2.2).toNat) 0) else y0.1)≤(if (([0,127,2047,65535,1114111]:List Int).getD ((y0.2.2).toNat) 0)<y0.2.1 then (([0,127,2047,65535,1114111]:List Int).getD ((y0.2.2).toNat) 0) else y0.2.1)))&&(!((decide ((55296:Int)≤(if (([0,0,128,2048,65536]:List Int).getD ((y0.2.2).toNat) 0) > y0.1 then (([0,0,128,2048,65536]:List Int).getD ((y0.2.2).toNat) 0) else y0.1)))&&(decide ((if (([0,127,2047,65535,1114111]:List Int).getD ((y0.2.2).toNat) 0)<y0.2.1 then (([0,127,2047,65535,1114111]:List Int).getD ((y0.2.2).toNat) 0) else y0.2.1)≤57343)))))&&(decide ((0:Int)=y0.2.2))))] ?_
 subst hR
 refine ie (A7 ?_)
 exact A7m hr hD
def A4m:Bool :=
 (F1 B1t fun (y2:Bool×Bool)=>true)
theorem B8p (R:Bool) (hR:A4m=R):I6 Tryz.prog 307 [.slice none 0 0] [] (bv R):=by
 refine zco Tryz.func307 [(0,.slice none 0 0)] fun X hX hr hD=>?_
 replace hR:=(A4m.eq_1 ..).symm.trans hR
 refine sr 1 rfl (ip' 1 0 [] ?_)
 refine ie (sr 7 rfl (ip' 1 6 [(6,.slice none 0 0)] ?_))
 have hQ:=G6 hR;clear hR;obtain ⟨y2,hy2,hR⟩:=hQ
 refine zca (B9x y2 hy2) fn0 ?_
 refine ip' 5 0 [(3,bv y2.1),(4,bv y2.2)] ?_
 refine ie (sr 11 rfl (ip' 11 0 [(2,bv true)] ?_))
 subst hR
 refine ie (A7 ?_)
 exact D5 hr hD
def F8 (b:UInt8):Int×Int :=
 (bif (decide ((b.toNat:Int)<128)) then (1,(b.toNat:Int)) else (bif ((decide ((192:Int)≤(b.toNat:Int)))&&(decide ((b.toNat:Int)<224))) then (2,((b.toNat:Int) - 192)) else (bif ((decide ((224:Int)≤(b.toNat:Int)))&&(decide ((b.toNat:Int)<240))) then (3,((b.toNat:Int) - 224)) else (bif ((decide ((240:Int)≤(b.toNat:Int)))&&(decide ((b.toNat:Int)<248))) then (4,((b.toNat:Int) - 240)) else (0,0)))))
theorem A9z (b:UInt8):(0≤(F8 b).1∧(F8 b).1≤4)∧0≤(F8 b).2∧(F8 b).2≤127:=by
 have:=b.toNat_lt
 unfold F8
 by_cases h1:(b.toNat:Int)<128
 ·rw [decide_eq_true h1];simp only [cond_true];omega
 ·rw [decide_eq_false h1,cond_false]
  by_cases h2:(192:Int)≤(b.toNat:Int)∧(b.toNat:Int)<224
  ·rw [show ((decide ((192:Int)≤(b.toNat:Int)))&&(decide ((b.toNat:Int)<224)))=true by simp only [Bool.and_eq_true,decide_eq_true_eq];exact h2,cond_true];dsimp only;omega
  ·rw [show ((decide ((192:Int)≤(b.toNat:Int)))&&(decide ((b.toNat:Int)<224)))=false by simp only [Bool.and_eq_false_iff,decide_eq_false_iff_not];omega,cond_false]
   by_cases h3:(224:Int)≤(b.toNat:Int)∧(b.toNat:Int)<240
   ·rw [show ((decide ((224:Int)≤(b.toNat:Int)))&&(decide ((b.toNat:Int)<240)))=true by simp only [Bool.and_eq_true,decide_eq_true_eq];exact h3,cond_true];dsimp only;omega
   ·rw [show ((decide ((224:Int)≤(b.toNat:Int)))&&(decide ((b.toNat:Int)<240)))=false by simp only [Bool.and_eq_false_iff,decide_eq_false_iff_not];omega,cond_false]
    by_cases h4:(240:Int)≤(b.toNat:Int)∧(b.toNat:Int)<248
    ·rw [show ((decide ((240:Int)≤(b.toNat:Int)))&&(decide ((b.toNat:Int)<248)))=true by simp only [Bool.and_eq_true,decide_eq_true_eq];exact h4,cond_true];dsimp only;omega
    ·rw [show ((decide ((240:Int)≤(b.toNat:Int)))&&(decide ((b.toNat:Int)<248)))=false by simp only [Bool.and_eq_false_iff,decide_eq_false_iff_not];omega,cond_false];dsimp only;omega
theorem B8f (b:UInt8) (R:Int×Int) (hR:F8 b=R):I6 Tryz.prog 356 [.int .u8 (b.toNat:Int)] [] (.tuple #[iv R.1,iv R.2]):=by
 refine zco Tryz.func356 [(0,.int .u8 (b.toNat:Int))] fun X hX hr hD=>?_
 unfold F8 at hR
 refine sr 2 rfl (ip' 2 0 [] ?_)
 refine ie (A3 (sr 2 rfl (ip' 2 0 [(5,bv (decide ((b.toNat:Int)<128)))] ?_)))
 refine ie ?_
 refine zjd rfl hR ?_ ?_<;>clear hR<;>intro hR h1 h1p
 ·refine sr 4 rfl (ip' 1 3 [(6,.int .u8 (b.toNat:Int))] ?_)
  refine ix rfl (A3l (c:=(b.toNat:Int)) Tryz.underlying3 (by kernel_rfl) rfl rfl (A1d b)) ?_
  refine ip' 2 0 [(2,iv 1),(3,iv (b.toNat:Int))] ?_
  subst hR
  refine ie (A7 ?_)
  exact A7m hr hD
 refine A4 (nx (A3 (sr 6 rfl (ip' 3 3 [(10,bv (decide ((192:Int)≤(b.toNat:Int))))] ?_))))
 refine zid 3 0 10 13 (decide ((b.toNat:Int)<224)) (fun g2 g2p=>?_) ?_
 ·refine ip' 3 0 [(13,bv (decide ((b.toNat:Int)<224)))] ?_
  exact A1 (H1 2 10 13 g2 fn0 (mk [] rfl) rfl rfl rfl rfl rfl)
 refine ie ?_
 refine zja rfl hR ?_ ?_<;>clear hR<;>intro hR h3 h3p
 ·refine sr 5 rfl (ip' 1 4 [(14,.int .u8 (b.toNat:Int))] ?_)
  refine ix rfl (A3l (c:=(b.toNat:Int)) Tryz.underlying3 (by kernel_rfl) rfl rfl (A1d b)) ?_
  refine ix rfl (Q0 rfl rfl rfl rfl (by omega)) ?_
  refine ip' 2 0 [(2,iv 2),(3,iv ((b.toNat:Int) - 192))] ?_
  subst hR
  refine ie (A7 ?_)
  exact A7m hr hD
 refine A4 (nx (A3 (sr 6 rfl (ip' 3 3 [(19,bv (decide ((224:Int)≤(b.toNat:Int))))] ?_))))
 refine zid 3 0 19 22 (decide ((b.toNat:Int)<240)) (fun g4 g4p=>?_) ?_
 ·refine ip' 3 0 [(22,bv (decide ((b.toNat:Int)<240)))] ?_
  exact A1 (H1 2 19 22 g4 fn0 (mk [] rfl) rfl rfl rfl rfl rfl)
 refine ie ?_
 refine zja rfl hR ?_ ?_<;>clear hR<;>intro hR h5 h5p
 ·refine sr 5 rfl (ip' 1 4 [(23,.int .u8 (b.toNat:Int))] ?_)
  refine ix rfl (A3l (c:=(b.toNat:Int)) Tryz.underlying3 (by kernel_rfl) rfl rfl (A1d b)) ?_
  refine ix rfl (Q0 rfl rfl rfl rfl (by omega)) ?_
  refine ip' 2 0 [(2,iv 3),(3,iv ((b.toNat:Int) - 224))] ?_
  subst hR
  refine ie (A7 ?_)
  exact A7m hr hD
 refine A4 (nx (A3 (sr 6 rfl (ip' 3 3 [(28,bv (decide ((240:Int)≤(b.toNat:Int))))] ?_))))
 refine zid 3 0 28 31 (decide ((b.toNat:Int)<248)) (fun g6 g6p=>?_) ?_
 ·refine ip' 3 0 [(31,bv (decide ((b.toNat:Int)<248)))] ?_
  exact A1 (H1 2 28 31 g6 fn0 (mk [] rfl) rfl rfl rfl rfl rfl)
 refine ie ?_
 refine zja rfl hR ?_ ?_<;>clear hR<;>intro hR h7 h7p
 ·refine sr 5 rfl (ip' 1 4 [(32,.int .u8 (b.toNat:Int))] ?_)
  refine ix rfl (A3l (c:=(b.toNat:Int)) Tryz.underlying3 (by kernel_rfl) rfl rfl (A1d b)) ?_
  refine ix rfl (Q0 rfl rfl rfl rfl (by omega)) ?_
  refine ip' 2 0 [(2,iv 4),(3,iv ((b.toNat:Int) - 240))] ?_
  subst hR
  refine ie (A7 ?_)
  exact A7m hr hD
 refine A4 (nx (sr 2 rfl (ip' 2 0 [(2,iv 0),(3,iv 0)] ?_)))
 subst hR
 refine ie (A7 ?_)
 exact A7m hr hD
def E3 (p:List UInt8) (y5:Int×Int):Nat→Int→Int→Nat→(Int×Int×Int)
 | 0,_,_,_=>(0,0,0)
 | fu1+1,low,high,i=>(bif (decide ((i:Int)<y5.1)) then (bif (decide ((i:Int)<(p.length:Int))) then (bif ((decide (((p.getD i 0).toNat:Int)<128))||(decide ((191:Int)<((p.getD i 0).toNat:Int)))) then (0,0,0) else E3 p y5 fu1 (IntKind.i64.wrap ((IntKind.i64.wrap (low * (64:Int)))+(((p.getD i 0).toNat:Int) - 128))) (IntKind.i64.wrap ((IntKind.i64.wrap ((IntKind.i64.wrap ((IntKind.i64.wrap (high * (64:Int)))+(63:Int))) - (63:Int)))+(((p.getD i 0).toNat:Int) - 128))) (i+1)) else E3 p y5 fu1 (IntKind.i64.wrap (low * (64:Int))) (IntKind.i64.wrap ((IntKind.i64.wrap (high * (64:Int)))+(63:Int))) (i+1)) else (bif (decide (y5.1<(p.length:Int))) then (0,0,0) else (low,high,y5.1)))
def I4 (p:List UInt8):Int×Int×Int :=
 (bif (decide ((p.length:Int)=0)) then (0,0,0) else (F1 (F8 (p.getD 0 0)) fun (y5:Int×Int)=>E3 p y5 ((y5.1 - (1:Int)).toNat+1) y5.2 y5.2 1))
theorem A2s (p:List UInt8) (f:Int×Int) (hf:0≤f.1∧f.1≤4):∀ (fu:Nat) (low high:Int) (i:Nat),0≤(E3 p f fu low high i).2.2∧(E3 p f fu low high i).2.2≤4∧((E3 p f fu low high i).2.2≠0→(p.length:Int)≤4)
 | 0,low,high,i=>by simp [E3]
 | fu+1,low,high,i=>by
  simp only [E3]
  cases (decide ((i:Int)<f.1)) with
  | true =>
   rw [cond_true]
   cases (decide ((i:Int)<(p.length:Int))) with
   | true =>
    rw [cond_true]
    generalize ((decide (((p.getD i 0).toNat:Int)<128))||(decide ((191:Int)<((p.getD i 0).toNat:Int))))=c
    cases c with
    | true=>simp
    | false=>rw [cond_false];exact A2s p f hf fu _ _ _
   | false=>rw [cond_false];exact A2s p f hf fu _ _ _
  | false =>
   rw [cond_false]
   by_cases h:f.1<(p.length:Int)
   ·rw [decide_eq_true h,cond_true];simp
   ·rw [decide_eq_false h,cond_false];dsimp only;omega
theorem A2r (p:List UInt8):0≤(I4 p).2.2∧(I4 p).2.2≤4∧((I4 p).2.2≠0→(p.length:Int)≤4):=by
 unfold I4
 cases (decide ((p.length:Int)=0)) with
 | true=>simp
 | false=>rw [cond_false];simp only [F1];exact A2s p _ (A9z _).1 _ _ _ _
theorem A7a (p:List UInt8) (pq:Option Addr) (pk:Nat) (hlp:p.length≤9223372036854775807) (hcp:p.length≤pk) (R:Int×Int×Int) (hR:I4 p=R):I6 Tryz.prog 309 [.slice pq p.length pk] [sl cU8 pq p] (.tuple #[iv R.1,iv R.2.1,iv R.2.2]):=by
 refine zco Tryz.func309 [(0,.slice pq p.length pk)] fun X hX hr hD=>?_
 replace hR:=(I4.eq_1 ..).symm.trans hR
 refine sr 3 rfl (ip' 3 0 [] ?_)
 refine ie (A3 (sr 3 rfl (ip' 3 0 [(12,bv (decide ((p.length:Int)=0)))] ?_)))
 refine ie ?_
 refine zjd rfl hR ?_ ?_<;>clear hR<;>intro hR h1 h1p
 ·refine sr 3 rfl (ip' 3 0 [(2,iv 0),(3,iv 0),(4,iv 0)] ?_)
  subst hR
  refine ie (A7 ?_)
  exact zer hr hD (C8z rfl (B1 rfl) (B1 rfl) (B1 rfl)) () (mk [] rfl) fn0
 refine A4 (nx (sr 9 rfl (ip' 1 8 [(14,.slice pq p.length pk)] ?_)))
 refine J3 0 rfl (by omega) fun a2 hq3=>?_
 refine ix rfl (E8 R3 rfl rfl hq3 rfl 0 rfl (by omega)) ?_
 refine ix rfl (C8 (v:=.int .u8 ((p.getD 0 0).toNat:Int)) (us:=[.int .u8 ((p.getD 0 0).toNat:Int)]) ty5 rfl rfl (G0 (c:=cU8) (sz:=1) hq3 (fun _=>rfl) 0 rfl (gd 0 (by omega))) rfl) ?_
 have hQ:=G6 hR;clear hR;obtain ⟨y5,hy5,hR⟩:=hQ
 refine zca (B8f (p.getD 0 0) y5 hy5) fn0 ?_
 have:=A9z (p.getD 0 0);try rw [hy5] at this
 refine ip' 5 0 [(5,iv y5.1),(6,iv y5.2)] ?_
 refine ie (sr 2 rfl (ip' 2 0 [(7,iv y5.2)] ?_))
 refine ie (A3 (sr 1 rfl (ip' 1 0 [(8,iv 1)] ?_)))
 refine ie (B0 (B2k (fun (fu:Nat) (low:Int) (high:Int) (i:Nat)=>((y5.1 - (i:Int)).toNat<fu∧E3 p y5 fu low high i=R,[(0,.slice pq p.length pk),(5,iv y5.1),(6,iv low),(7,iv high),(8,iv (i:Int))],[],[sl cU8 pq p],fu)) ((y5.1 - (1:Int)).toNat+1) y5.2 y5.2 1 ⟨(Nat.lt_succ_self _),hR⟩ (mk [] rfl) A2.refl ?_))
 rintro fu low high i ⟨hm4,hR⟩
 obtain ⟨fu1,rfl⟩:∃ m,fu=m+1:=⟨fu - 1,by omega⟩
 replace hR:=(E3.eq_2 ..).symm.trans hR
 refine A3 (sr 3 rfl (ip' 3 0 [(23,bv (decide ((i:Int)<y5.1)))] ?_))
 refine ie ?_
 refine zjd rfl hR ?_ ?_<;>clear hR<;>intro hR h5 h5p
 ·refine A4 (nx (A3 (B0 (sr 7 rfl (ip' 1 6 [(26,iv low)] ?_)))))
  refine ix rfl (I9.pure rfl) ?_
  refine ip' 1 4 [(28,iv high)] ?_
  refine ix rfl (I9.pure rfl) ?_
  refine ix rfl (I9.pure rfl) ?_
  refine ip' 2 0 [(6,iv (IntKind.i64.wrap (low * (64:Int)))),(7,iv (IntKind.i64.wrap ((IntKind.i64.wrap (high * (64:Int)))+(63:Int))))] ?_
  refine ie (sr 4 rfl (ip' 4 0 [(34,bv (decide ((i:Int)<(p.length:Int))))] ?_))
  refine ie ?_
  refine zjd rfl hR ?_ ?_<;>clear hR<;>intro hR h6 h6p
  ·refine A3 (sr 12 rfl (ip' 2 10 [(35,.slice pq p.length pk),(36,iv (i:Int))] ?_))
   refine ix rfl (E8 R3 rfl rfl hq3 rfl i rfl (by omega)) ?_
   refine ix rfl (C8 (v:=.int .u8 ((p.getD i 0).toNat:Int)) (us:=[.int .u8 ((p.getD i 0).toNat:Int)]) ty5 rfl rfl (G0 (c:=cU8) (sz:=1) hq3 (fun _=>rfl) 0 rfl (gd 0 (by omega))) rfl) ?_
   refine ip' 2 6 [(40,bv (decide (((p.getD i 0).toNat:Int)<128)))] ?_
   refine zir 6 0 40 46 (decide ((191:Int)<((p.getD i 0).toNat:Int))) (fun g7 g7p=>?_) ?_
   ·refine ip' 2 4 [(41,.slice pq p.length pk),(42,iv (i:Int))] ?_
    refine ix rfl (E8 R3 rfl rfl hq3 rfl i rfl (by omega)) ?_
    refine ix rfl (C8 (v:=.int .u8 ((p.getD i 0).toNat:Int)) (us:=[.int .u8 ((p.getD i 0).toNat:Int)]) ty5 rfl rfl (G0 (c:=cU8) (sz:=1) hq3 (fun _=>rfl) 0 rfl (gd 0 (by omega))) rfl) ?_
    refine ip' 2 0 [(46,bv (decide ((191:Int)<((p.getD i 0).toNat:Int))))] ?_
    exact zai 6 40 46 g7
   refine ie ?_
   refine zjo rfl hR ?_ ?_<;>clear hR<;>intro hR h8 h8p
   ·refine sr 3 rfl (ip' 3 0 [(2,iv 0),(3,iv 0),(4,iv 0)] ?_)
    subst hR
    refine ie (A7 ?_)
    exact zer hr hD (C8z rfl (B1 rfl) (B1 rfl) (B1 rfl)) () (mk [] rfl) fn0
   refine A4 (nx (sr 7 rfl (ip' 2 5 [(47,.slice pq p.length pk),(48,iv (i:Int))] ?_)))
   refine ix rfl (E8 R3 rfl rfl hq3 rfl i rfl (by omega)) ?_
   refine ix rfl (C8 (v:=.int .u8 ((p.getD i 0).toNat:Int)) (us:=[.int .u8 ((p.getD i 0).toNat:Int)]) ty5 rfl rfl (G0 (c:=cU8) (sz:=1) hq3 (fun _=>rfl) 0 rfl (gd 0 (by omega))) rfl) ?_
   refine ix rfl (A3l (c:=((p.getD i 0).toNat:Int)) Tryz.underlying3 (by kernel_rfl) rfl rfl (A1d (p.getD i 0))) ?_
   refine ix rfl (Q0 rfl rfl rfl rfl (by omega)) ?_
   refine ip' 1 0 [(9,iv (((p.getD i 0).toNat:Int) - 128))] ?_
   refine ie (A5 9 rfl (ip' 2 7 [(53,iv (IntKind.i64.wrap (low * (64:Int)))),(54,iv (((p.getD i 0).toNat:Int) - 128))] ?_))
   refine ix rfl (I9.pure rfl) ?_
   refine ip' 1 5 [(56,iv (IntKind.i64.wrap ((IntKind.i64.wrap (high * (64:Int)))+(63:Int))))] ?_
   refine ix rfl (I9.pure rfl) ?_
   refine ip' 1 3 [(58,iv (((p.getD i 0).toNat:Int) - 128))] ?_
   refine ix rfl (I9.pure rfl) ?_
   refine ip' 2 0 [(6,iv (IntKind.i64.wrap ((IntKind.i64.wrap (low * (64:Int)))+(((p.getD i 0).toNat:Int) - 128)))),(7,iv (IntKind.i64.wrap ((IntKind.i64.wrap ((IntKind.i64.wrap ((IntKind.i64.wrap (high * (64:Int)))+(63:Int))) - (63:Int)))+(((p.getD i 0).toNat:Int) - 128))))] ?_
   refine A1 (nx (A5 3 rfl (ip' 1 2 [(24,iv (i:Int))] ?_)))
   refine ix rfl (B4 rfl rfl rfl rfl (by omega)) ?_
   refine ip' 1 0 [(8,iv ((i:Int)+1))] ?_
   refine A1 ?_
   exact B1k (z1:=(fu1+1)) (z2:=low) (z3:=high) (z4:=i) fu1 (IntKind.i64.wrap ((IntKind.i64.wrap (low * (64:Int)))+(((p.getD i 0).toNat:Int) - 128))) (IntKind.i64.wrap ((IntKind.i64.wrap ((IntKind.i64.wrap ((IntKind.i64.wrap (high * (64:Int)))+(63:Int))) - (63:Int)))+(((p.getD i 0).toNat:Int) - 128))) (i+1) ⟨(by omega),hR⟩ (Nat.lt_succ_self _) (mk [] rfl) A2.refl
  refine A4 (nx (A5 3 rfl (ip' 1 2 [(24,iv (i:Int))] ?_)))
  refine ix rfl (B4 rfl rfl rfl rfl (by omega)) ?_
  refine ip' 1 0 [(8,iv ((i:Int)+1))] ?_
  refine A1 ?_
  exact B1k (z1:=(fu1+1)) (z2:=low) (z3:=high) (z4:=i) fu1 (IntKind.i64.wrap (low * (64:Int))) (IntKind.i64.wrap ((IntKind.i64.wrap (high * (64:Int)))+(63:Int))) (i+1) ⟨(by omega),hR⟩ (Nat.lt_succ_self _) (mk [] rfl) A2.refl
 refine G2 (nx (A3 (sr 4 rfl (ip' 4 0 [(63,bv (decide (y5.1<(p.length:Int))))] ?_))))
 refine ie ?_
 refine zjd rfl hR ?_ ?_<;>clear hR<;>intro hR h9 h9p
 ·refine sr 3 rfl (ip' 3 0 [(2,iv 0),(3,iv 0),(4,iv 0)] ?_)
  subst hR
  refine ie (A7 ?_)
  exact zer hr hD (C8z rfl (B1 rfl) (B1 rfl) (B1 rfl)) () (mk [] rfl) fn0
 refine A4 (nx (sr 6 rfl (ip' 6 0 [(2,iv low),(3,iv high),(4,iv y5.1)] ?_)))
 subst hR
 refine ie (A7 ?_)
 exact zer hr hD (C8z rfl (B1 rfl) (B1 rfl) (B1 rfl)) () (mk [] rfl) fn0
def K4 (p:List UInt8):Bool×Bool :=
 (F1 (I4 p) fun (y1:Int×Int×Int)=>(bif (decide (y1.2.2=0)) then (false,false) else (((decide ((if (([0,0,128,2048,65536]:List Int).getD ((y1.2.2).toNat) 0) > y1.1 then (([0,0,128,2048,65536]:List Int).getD ((y1.2.2).toNat) 0) else y1.1)≤(if (([0,127,2047,65535,1114111]:List Int).getD ((y1.2.2).toNat) 0)<y1.2.1 then (([0,127,2047,65535,1114111]:List Int).getD ((y1.2.2).toNat) 0) else y1.2.1)))&&(!((decide ((55296:Int)≤(if (([0,0,128,2048,65536]:List Int).getD ((y1.2.2).toNat) 0) > y1.1 then (([0,0,128,2048,65536]:List Int).getD ((y1.2.2).toNat) 0) else y1.1)))&&(decide ((if (([0,127,2047,65535,1114111]:List Int).getD ((y1.2.2).toNat) 0)<y1.2.1 then (([0,127,2047,65535,1114111]:List Int).getD ((y1.2.2).toNat) 0) else y1.2.1)≤57343))))),(((decide ((if (([0,0,128,2048,65536]:List Int).getD ((y1.2.2).toNat) 0) > y1.1 then (([0,0,128,2048,65536]:List Int).getD ((y1.2.2).toNat) 0) else y1.1)≤(if (([0,127,2047,65535,1114111]:List Int).getD ((y1.2.2).toNat) 0)<y1.2.1 then (([0,127,2047,65535,1114111]:List Int).getD ((y1.2.2).toNat) 0) else y1.2.1)))&&(!((decide ((55296:Int)≤(if (([0,0,128,2048,65536]:List Int).getD ((y1.2.2).toNat) 0) > y1.1 then (([0,0,128,2048,65536]:List Int).getD ((y1.2.2).toNat) 0) else y1.1)))&&(decide ((if (([0,127,2047,65535,1114111]:List Int).getD ((y1.2.2).toNat) 0)<y1.2.1 then (([0,127,2047,65535,1114111]:List Int).getD ((y1.2.2).toNat) 0) else y1.2.1)≤57343)))))&&(decide ((p.length:Int)=y1.2.2))))))
theorem B7a (p:List UInt8) (h:(K4 p).1=true):(p.length:Int)≤4:=by
 unfold K4 at h
 simp only [F1] at h
 by_cases e:(I4 p).2.2=0
 ·rw [decide_eq_true e] at h;simp at h
 ·exact (A2r p).2.2 e
theorem A7b (p:List UInt8) (pq:Option Addr) (pk:Nat) (hlp:p.length≤9223372036854775807) (hcp:p.length≤pk) (R:Bool×Bool) (hR:K4 p=R):I6 Tryz.prog 308 [.slice pq p.length pk] [sl cU8 pq p] (.tuple #[bv R.1,bv R.2]):=by
 refine zco Tryz.func308 [(0,.slice pq p.length pk)] fun X hX hr hD=>?_
 replace hR:=(K4.eq_1 ..).symm.trans hR
 refine sr 2 rfl (ip' 2 0 [] ?_)
 refine ie (sr 9 rfl (ip' 1 8 [(11,.slice pq p.length pk)] ?_))
 have hQ:=G6 hR;clear hR;obtain ⟨y1,hy1,hR⟩:=hQ
 refine zca (A7a p pq pk (by first|omega|(simp only [List.length_take,List.length_drop,List.length_append,List.length_cons,List.length_nil,List.length_set,List.length_map,C6];omega)|decide) (by first|omega|(simp only [List.length_take,List.length_drop,List.length_append,List.length_cons,List.length_nil,List.length_set,List.length_map,C6];omega)|decide) y1 hy1) A2.refl ?_
 have:=A2r p;try rw [hy1] at this
 refine ip' 7 0 [(4,iv y1.1),(5,iv y1.2.1),(6,iv y1.2.2)] ?_
 refine ie (A3 (sr 2 rfl (ip' 2 0 [(17,bv (decide (y1.2.2=0)))] ?_)))
 refine ie ?_
 refine zjd rfl hR ?_ ?_<;>clear hR<;>intro hR h1 h1p
 ·refine sr 2 rfl (ip' 2 0 [(2,bv false),(3,bv false)] ?_)
  subst hR
  refine ie (A7 ?_)
  exact A7m hr hD
 refine A4 (nx (sr 3 rfl (I7 3 0 [0] (fun b2=>[(7,pt b2 0)]) (fun b2=>[bx b2 [iv 0,iv 0,iv 128,iv 2048,iv 65536] 310]) (fun b2=>?_))))
 refine ie (sr 3 rfl (I7 3 0 [0] (fun b3=>[(8,pt b3 0)]) (fun b3=>[bx b3 [iv 0,iv 127,iv 2047,iv 65535,iv 1114111] 310,bx b2 [iv 0,iv 0,iv 128,iv 2048,iv 65536] 310]) (fun b3=>?_)))
 refine ie (sd 12 rfl (by kernel_rfl) rfl ?_)
 refine dp' 2 10 [(20,iv y1.1),(21,iv y1.2.2)] ?_
 refine dd rfl (A2a Tryz.underlying310 ty3 rfl rfl rfl ((y1.2.2).toNat) (by omega) (by omega)) ?_
 refine dd rfl (V2 (u:=iv (([0,0,128,2048,65536]:List Int).getD ((y1.2.2).toNat) 0)) (c:=K8) (xs:=([0,0,128,2048,65536]:List Int)) (j:=[]) (sz:=1) ty3 (fun _=>rfl) rfl rfl 1 rfl ((y1.2.2).toNat) 0 rfl (gd 0 (by simp only [List.length_cons,List.length_nil];omega)) rfl) ?_
 refine dp' 3 5 [(24,iv (if (([0,0,128,2048,65536]:List Int).getD ((y1.2.2).toNat) 0) > y1.1 then (([0,0,128,2048,65536]:List Int).getD ((y1.2.2).toNat) 0) else y1.1)),(25,iv y1.2.1),(26,iv y1.2.2)] ?_
 have:=C0q y1.1 (([0,0,128,2048,65536]:List Int).getD ((y1.2.2).toNat) 0)
 refine dd rfl (A2a Tryz.underlying310 ty3 rfl rfl rfl ((y1.2.2).toNat) (by omega) (by omega)) ?_
 refine dd rfl (V2 (u:=iv (([0,127,2047,65535,1114111]:List Int).getD ((y1.2.2).toNat) 0)) (c:=K8) (xs:=([0,127,2047,65535,1114111]:List Int)) (j:=[]) (sz:=1) ty3 (fun _=>rfl) rfl rfl 0 rfl ((y1.2.2).toNat) 0 rfl (gd 0 (by simp only [List.length_cons,List.length_nil];omega)) rfl) ?_
 refine dp' 3 0 [(4,iv (if (([0,0,128,2048,65536]:List Int).getD ((y1.2.2).toNat) 0) > y1.1 then (([0,0,128,2048,65536]:List Int).getD ((y1.2.2).toNat) 0) else y1.1)),(5,iv (if (([0,127,2047,65535,1114111]:List Int).getD ((y1.2.2).toNat) 0)<y1.2.1 then (([0,127,2047,65535,1114111]:List Int).getD ((y1.2.2).toNat) 0) else y1.2.1))] ?_
 have:=C0q y1.1 (([0,0,128,2048,65536]:List Int).getD ((y1.2.2).toNat) 0)
 have:=C7z y1.2.1 (([0,127,2047,65535,1114111]:List Int).getD ((y1.2.2).toNat) 0)
 refine de (sr 13 rfl (ip' 4 9 [(33,bv (decide ((if (([0,0,128,2048,65536]:List Int).getD ((y1.2.2).toNat) 0) > y1.1 then (([0,0,128,2048,65536]:List Int).getD ((y1.2.2).toNat) 0) else y1.1)≤(if (([0,127,2047,65535,1114111]:List Int).getD ((y1.2.2).toNat) 0)<y1.2.1 then (([0,127,2047,65535,1114111]:List Int).getD ((y1.2.2).toNat) 0) else y1.2.1))))] ?_))
 refine zia 8 1 33 41 (!((decide ((55296:Int)≤(if (([0,0,128,2048,65536]:List Int).getD ((y1.2.2).toNat) 0) > y1.1 then (([0,0,128,2048,65536]:List Int).getD ((y1.2.2).toNat) 0) else y1.1)))&&(decide ((if (([0,127,2047,65535,1114111]:List Int).getD ((y1.2.2).toNat) 0)<y1.2.1 then (([0,127,2047,65535,1114111]:List Int).getD ((y1.2.2).toNat) 0) else y1.2.1)≤57343)))) (fun g4=>?_) ?_
 ·have g4p:(if (([0,0,128,2048,65536]:List Int).getD ((y1.2.2).toNat) 0) > y1.1 then (([0,0,128,2048,65536]:List Int).getD ((y1.2.2).toNat) 0) else y1.1)≤(if (([0,127,2047,65535,1114111]:List Int).getD ((y1.2.2).toNat) 0)<y1.2.1 then (([0,127,2047,65535,1114111]:List Int).getD ((y1.2.2).toNat) 0) else y1.2.1):=by first|exact of_decide_eq_true g4|simpa only [Bool.and_eq_true,Bool.not_eq_true',Bool.and_eq_false_imp,decide_eq_true_eq,decide_eq_false_iff_not,not_and] using g4|simpa using g4
  refine ip' 3 5 [(36,bv (decide ((55296:Int)≤(if (([0,0,128,2048,65536]:List Int).getD ((y1.2.2).toNat) 0) > y1.1 then (([0,0,128,2048,65536]:List Int).getD ((y1.2.2).toNat) 0) else y1.1))))] ?_
  refine zia 3 2 36 39 (decide ((if (([0,127,2047,65535,1114111]:List Int).getD ((y1.2.2).toNat) 0)<y1.2.1 then (([0,127,2047,65535,1114111]:List Int).getD ((y1.2.2).toNat) 0) else y1.2.1)≤57343)) (fun g5=>?_) ?_
  ·have g5p:(55296:Int)≤(if (([0,0,128,2048,65536]:List Int).getD ((y1.2.2).toNat) 0) > y1.1 then (([0,0,128,2048,65536]:List Int).getD ((y1.2.2).toNat) 0) else y1.1):=by first|exact of_decide_eq_true g5|simpa only [Bool.and_eq_true,Bool.not_eq_true',Bool.and_eq_false_imp,decide_eq_true_eq,decide_eq_false_iff_not,not_and] using g5|simpa using g5
   refine ip' 3 0 [(39,bv (decide ((if (([0,127,2047,65535,1114111]:List Int).getD ((y1.2.2).toNat) 0)<y1.2.1 then (([0,127,2047,65535,1114111]:List Int).getD ((y1.2.2).toNat) 0) else y1.2.1)≤57343)))] ?_
   exact zai 2 36 39 g5
  refine ip' 2 0 [(41,bv (!((decide ((55296:Int)≤(if (([0,0,128,2048,65536]:List Int).getD ((y1.2.2).toNat) 0) > y1.1 then (([0,0,128,2048,65536]:List Int).getD ((y1.2.2).toNat) 0) else y1.1)))&&(decide ((if (([0,127,2047,65535,1114111]:List Int).getD ((y1.2.2).toNat) 0)<y1.2.1 then (([0,127,2047,65535,1114111]:List Int).getD ((y1.2.2).toNat) 0) else y1.2.1)≤57343)))))] ?_
  exact zai 4 33 41 g4
 refine ip' 1 0 [(9,bv ((decide ((if (([0,0,128,2048,65536]:List Int).getD ((y1.2.2).toNat) 0) > y1.1 then (([0,0,128,2048,65536]:List Int).getD ((y1.2.2).toNat) 0) else y1.1)≤(if (([0,127,2047,65535,1114111]:List Int).getD ((y1.2.2).toNat) 0)<y1.2.1 then (([0,127,2047,65535,1114111]:List Int).getD ((y1.2.2).toNat) 0) else y1.2.1)))&&(!((decide ((55296:Int)≤(if (([0,0,128,2048,65536]:List Int).getD ((y1.2.2).toNat) 0) > y1.1 then (([0,0,128,2048,65536]:List Int).getD ((y1.2.2).toNat) 0) else y1.1)))&&(decide ((if (([0,127,2047,65535,1114111]:List Int).getD ((y1.2.2).toNat) 0)<y1.2.1 then (([0,127,2047,65535,1114111]:List Int).getD ((y1.2.2).toNat) 0) else y1.2.1)≤57343))))))] ?_
 refine ie (sr 10 rfl (ip' 3 7 [(42,bv ((decide ((if (([0,0,128,2048,65536]:List Int).getD ((y1.2.2).toNat) 0) > y1.1 then (([0,0,128,2048,65536]:List Int).getD ((y1.2.2).toNat) 0) else y1.1)≤(if (([0,127,2047,65535,1114111]:List Int).getD ((y1.2.2).toNat) 0)<y1.2.1 then (([0,127,2047,65535,1114111]:List Int).getD ((y1.2.2).toNat) 0) else y1.2.1)))&&(!((decide ((55296:Int)≤(if (([0,0,128,2048,65536]:List Int).getD ((y1.2.2).toNat) 0) > y1.1 then (([0,0,128,2048,65536]:List Int).getD ((y1.2.2).toNat) 0) else y1.1)))&&(decide ((if (([0,127,2047,65535,1114111]:List Int).getD ((y1.2.2).toNat) 0)<y1.2.1 then (([0,127,2047,65535,1114111]:List Int).getD ((y1.2.2).toNat) 0) else y1.2.1)≤57343)))))),(44,bv ((decide ((if (([0,0,128,2048,65536]:List Int).getD ((y1.2.2).toNat) 0) > y1.1 then (([0,0,128,2048,65536]:List Int).getD ((y1.2.2).toNat) 0) else y1.1)≤(if (([0,127,2047,65535,1114111]:List Int).getD ((y1.2.2).toNat) 0)<y1.2.1 then (([0,127,2047,65535,1114111]:List Int).getD ((y1.2.2).toNat) 0) else y1.2.1)))&&(!((decide ((55296:Int)≤(if (([0,0,128,2048,65536]:List Int).getD ((y1.2.2).toNat) 0) > y1.1 then (([0,0,128,2048,65536]:List Int).getD ((y1.2.2).toNat) 0) else y1.1)))&&(decide ((if (([0,127,2047,65535,1114111]:List Int).getD ((y1.2.2).toNat) 0)<y1.2.1 then (([0,127,2047,65535,1114111]:List Int).getD ((y1.2.2).toNat) 0) else y1.2.1)≤57343))))))] ?_))
 refine zia 5 2 44 49 (decide ((p.length:Int)=y1.2.2)) (fun g6=>?_) ?_
 ·have g6p:((if (([0,0,128,2048,65536]:List Int).getD ((y1.2.2).toNat) 0) > y1.1 then (([0,0,128,2048,65536]:List Int).getD ((y1.2.2).toNat) 0) else y1.1)≤(if (([0,127,2047,65535,1114111]:List Int).getD ((y1.2.2).toNat) 0)<y1.2.1 then (([0,127,2047,65535,1114111]:List Int).getD ((y1.2.2).toNat) 0) else y1.2.1))∧(¬ (((55296:Int)≤(if (([0,0,128,2048,65536]:List Int).getD ((y1.2.2).toNat) 0) > y1.1 then (([0,0,128,2048,65536]:List Int).getD ((y1.2.2).toNat) 0) else y1.1))∧((if (([0,127,2047,65535,1114111]:List Int).getD ((y1.2.2).toNat) 0)<y1.2.1 then (([0,127,2047,65535,1114111]:List Int).getD ((y1.2.2).toNat) 0) else y1.2.1)≤57343))):=by first|exact of_decide_eq_true g6|simpa only [Bool.and_eq_true,Bool.not_eq_true',Bool.and_eq_false_imp,decide_eq_true_eq,decide_eq_false_iff_not,not_and] using g6|simpa using g6
  refine ip' 5 0 [(49,bv (decide ((p.length:Int)=y1.2.2)))] ?_
  exact zai 2 44 49 g6
 refine ip' 2 0 [(2,bv ((decide ((if (([0,0,128,2048,65536]:List Int).getD ((y1.2.2).toNat) 0) > y1.1 then (([0,0,128,2048,65536]:List Int).getD ((y1.2.2).toNat) 0) else y1.1)≤(if (([0,127,2047,65535,1114111]:List Int).getD ((y1.2.2).toNat) 0)<y1.2.1 then (([0,127,2047,65535,1114111]:List Int).getD ((y1.2.2).toNat) 0) else y1.2.1)))&&(!((decide ((55296:Int)≤(if (([0,0,128,2048,65536]:List Int).getD ((y1.2.2).toNat) 0) > y1.1 then (([0,0,128,2048,65536]:List Int).getD ((y1.2.2).toNat) 0) else y1.1)))&&(decide ((if (([0,127,2047,65535,1114111]:List Int).getD ((y1.2.2).toNat) 0)<y1.2.1 then (([0,127,2047,65535,1114111]:List Int).getD ((y1.2.2).toNat) 0) else y1.2.1)≤57343)))))),(3,bv (((decide ((if (([0,0,128,2048,65536]:List Int).getD ((y1.2.2).toNat) 0) > y1.1 then (([0,0,128,2048,65536]:List Int).getD ((y1.2.2).toNat) 0) else y1.1)≤(if (([0,127,2047,65535,1114111]:List Int).getD ((y1.2.2).toNat) 0)<y1.2.1 then (([0,127,2047,65535,1114111]:List Int).getD ((y1.2.2).toNat) 0) else y1.2.1)))&&(!((decide ((55296:Int)≤(if (([0,0,128,2048,65536]:List Int).getD ((y1.2.2).toNat) 0) > y1.1 then (([0,0,128,2048,65536]:List Int).getD ((y1.2.2).toNat) 0) else y1.1)))&&(decide ((if (([0,127,2047,65535,1114111]:List Int).getD ((y1.2.2).toNat) 0)<y1.2.1 then (([0,127,2047,65535,1114111]:List Int).getD ((y1.2.2).toNat) 0) else y1.2.1)≤57343)))))&&(decide ((p.length:Int)=y1.2.2))))] ?_
 subst hR
 refine ie (A7 ?_)
 exact A7m hr hD
def R2 (b:UInt8):List UInt8×List Int :=
 (F1 (K4 (([]:List UInt8)++([b]:List UInt8))) fun (y3:Bool×Bool)=>(bif y3.2 then (F1 (I4 (([]:List UInt8)++([b]:List UInt8))) fun (y1:Int×Int×Int)=>(([]:List UInt8),([y1.1]:List Int))) else (bif y3.1 then ((([]:List UInt8)++([b]:List UInt8)),([]:List Int)) else (([]:List UInt8),([65533]:List Int)))))
def A0q (b:UInt8):List UInt8×List Int :=
 (bif (!A4m) then R2 b else R2 b)
theorem B2y (b:UInt8):(R2 b).1.length≤4∧(R2 b).2.length≤2:=by
 unfold R2
 simp only [F1]
 cases (K4 (([]:List UInt8)++([b]:List UInt8))).2<;>cases (K4 (([]:List UInt8)++([b]:List UInt8))).1<;>simp
theorem B0c (b:UInt8):(A0q b).1.length≤4∧(A0q b).2.length≤2:=by
 unfold A0q
 cases (!A4m)<;>simp only [cond_true,cond_false]<;>exact B2y b
theorem C0v (b:UInt8) (hp:([]:List UInt8).length≤4) (R:List UInt8×List Int) (hR:A0q b=R):Con Tryz.prog 253 [.slice none 0 0,.int .u8 (b.toNat:Int)] [] [] ({t:Option Addr×Nat // R.1.length≤t.2∧R.1.length≤9223372036854775807}×{t:Option Addr×Nat // R.2.length≤t.2∧R.2.length≤9223372036854775807}) (fun x=>.tuple #[.slice x.1.1.1 R.1.length x.1.1.2,.slice x.2.1.1 R.2.length x.2.1.2]) (fun x=>[]) (fun x=>[sl cU8 x.1.1.1 R.1,sl K8 x.2.1.1 R.2]):=by
 refine zco Tryz.func253 [(0,.slice none 0 0),(1,.int .u8 (b.toNat:Int))] fun X hX hr hD=>?_
 replace hR:=(A0q.eq_1 ..).symm.trans hR
 refine sr 2 rfl (ip' 2 0 [] ?_)
 refine ie (B5u (fun (_:Unit)=>(R2 b=R,[(0,.slice none 0 0),(1,.int .u8 (b.toNat:Int))],[],[])) ?_ ?_)
 ·refine sr 3 rfl (ip' 1 2 [(14,.slice none 0 0)] ?_)
  refine zca (B8p _ rfl) fn0 ?_
  refine ip' 1 0 [(16,bv (!A4m))] ?_
  refine ie ?_
  refine zjb rfl hR ?_ ?_<;>clear hR<;>intro hR h1
  ·refine A5 1 rfl (ip' 1 0 [(0,.slice none 0 0)] ?_)
   refine A1 ?_
   exact A2q () hR (mk [] rfl) fn0
  refine A4 ?_
  exact A2q () hR (mk [] rfl) fn0
 intro _
 rintro hR
 replace hR:=(R2.eq_1 ..).symm.trans hR
 refine sr 7 rfl (it rfl (A8p R3 rfl rfl) fun b2=>?_)
 have:([]:List UInt8).length=0:=rfl
 refine ip' 1 5 [(18,.slice none 0 0)] ?_
 refine ix rfl (C4w A9y rfl rfl rfl rfl rfl rfl (by first|omega|exact Nat.zero_le _|exact VOk.cap (show VOk 1 0 _ from ⟨rfl,Nat.zero_le _,Nat.zero_le _⟩))) ?_
 have:([]:List UInt8).length=0:=rfl
 refine ip' 1 3 [(20,.int .u8 (b.toNat:Int))] ?_
 refine it rfl (E9 (c:=cU8) (xs:=([b]:List UInt8)) R3 rfl rfl rfl (by kernel_rfl)) fun b3=>?_
 have:([b]:List UInt8).length=1:=rfl
 refine it rfl (B0h (f:=cU8) (r:=(⟨some b2,0,[]⟩:VR)) (xs:=([]:List UInt8)) (ys:=([b]:List UInt8)) (pre:=[]) (post:=[]) A9y (fun _=>rfl) (fun _=>rfl) rfl rfl rfl rfl rfl rfl rfl rfl rfl (B5 0 rfl) (show VOk 1 0 _ from ⟨rfl,Nat.zero_le _,Nat.zero_le _⟩) (by first|omega|(simp only [List.length_cons,List.length_nil,List.length_append,List.length_take,List.length_drop,C6];omega)) (by first|omega|(simp only [List.length_cons,List.length_nil,List.length_append,List.length_take,List.length_drop,C6];omega))) fun ⟨r4,hr5⟩=>?_
 have:=VOk.le hr5
 have:=VOk.cap hr5
 refine ip' 1 0 [(6,.slice (va r4.q) ((([]:List UInt8)++([b]:List UInt8)).length) r4.k)] ?_
 refine ie (sr 7 rfl (ip' 1 6 [(24,.slice (va r4.q) ((([]:List UInt8)++([b]:List UInt8)).length) r4.k)] ?_))
 have:=VOk.cap hr5
 have:=VOk.le hr5
 refine S1 [] [] (T:=5) (c:=cU8) (r:=r4) (xs:=(([]:List UInt8)++([b]:List UInt8))) hr5 (by first|rfl|simp only [List.cons_append,List.append_assoc,List.nil_append,List.append_nil]) ?_
 have hQ:=G6 hR;clear hR;obtain ⟨y3,hy3,hR⟩:=hQ
 refine zca (A7b (([]:List UInt8)++([b]:List UInt8)) (va r4.q) r4.k (by first|omega|(simp only [List.length_take,List.length_drop,List.length_append,List.length_cons,List.length_nil,List.length_set,List.length_map,C6];omega)|decide) (by first|omega|(simp only [List.length_take,List.length_drop,List.length_append,List.length_cons,List.length_nil,List.length_set,List.length_map,C6];omega)|decide) y3 hy3) (A2.pick [0] rfl) ?_
 refine ip' 5 0 [(7,bv y3.1),(8,bv y3.2)] ?_
 refine ie (A3 (sr 1 rfl (ip' 1 0 [(28,bv y3.2)] ?_)))
 refine ie ?_
 refine zjb rfl hR ?_ ?_<;>clear hR<;>intro hR h6
 ·refine sr 9 rfl (ip' 1 8 [(30,.slice (va r4.q) ((([]:List UInt8)++([b]:List UInt8)).length) r4.k)] ?_)
  have hQ:=G6 hR;clear hR;obtain ⟨y1,hy1,hR⟩:=hQ
  refine zca (A7a (([]:List UInt8)++([b]:List UInt8)) (va r4.q) r4.k (by first|omega|(simp only [List.length_take,List.length_drop,List.length_append,List.length_cons,List.length_nil,List.length_set,List.length_map,C6];omega)|decide) (by first|omega|(simp only [List.length_take,List.length_drop,List.length_append,List.length_cons,List.length_nil,List.length_set,List.length_map,C6];omega)|decide) y1 hy1) (A2.pick [0] rfl) ?_
  have:=A2r (([]:List UInt8)++([b]:List UInt8));try rw [hy1] at this
  refine ip' 7 0 [(9,iv y1.1)] ?_
  refine ie (sr 4 rfl (ip' 1 3 [(35,iv y1.1)] ?_))
  refine it rfl (E9 (c:=K8) (xs:=([y1.1]:List Int)) V7 rfl rfl rfl (by kernel_rfl)) fun b7=>?_
  have:([y1.1]:List Int).length=1:=rfl
  refine ip' 2 0 [(4,.slice none 0 0),(5,.slice (some ⟨b7,0,none⟩) 1 1)] ?_
  subst hR
  refine ie (A7 ?_)
  exact zer hr hD (V5 rfl (B1 rfl) (B1 rfl)) ((zq none 0),(zq (some ⟨b7,0,none⟩) 1)) (mk [] rfl) (A2.con1 P2 (A2.con1 (B5 0 rfl) fn0))
 refine A4 (nx (A3 (sr 1 rfl (ip' 1 0 [(37,bv y3.1)] ?_))))
 refine ie ?_
 refine zjb rfl hR ?_ ?_<;>clear hR<;>intro hR h8
 ·refine sr 3 rfl (ip' 3 0 [(4,.slice (va r4.q) ((([]:List UInt8)++([b]:List UInt8)).length) r4.k),(5,.slice none 0 0)] ?_)
  subst hR
  refine ie (A7 ?_)
  exact zer hr hD (V5 rfl (B1 rfl) (B1 rfl)) ((zq (va r4.q) r4.k),(zq none 0)) (mk [] rfl) (A2.con1 (B5 0 rfl) (A2.con1 P2 fn0))
 refine A4 (nx (A3 (sr 3 rfl (ip' 3 0 [(41,bv true)] ?_))))
 refine ie (H8 rfl (sr 3 rfl (it rfl (E9 (c:=K8) (xs:=([65533]:List Int)) V7 rfl rfl rfl (by kernel_rfl)) fun b9=>?_)))
 have:([65533]:List Int).length=1:=rfl
 refine ip' 2 0 [(4,.slice none 0 0),(5,.slice (some ⟨b9,0,none⟩) 1 1)] ?_
 subst hR
 refine ie (A7 ?_)
 exact zer hr hD (V5 rfl (B1 rfl) (B1 rfl)) ((zq none 0),(zq (some ⟨b9,0,none⟩) 1)) (mk [] rfl) (A2.con1 P2 (A2.con1 (B5 0 rfl) fn0))
def O4 (p:List UInt8):Bool :=
 (F1 (K4 p) fun (y3:Bool×Bool)=>((decide ((p.length:Int)=0))||(y3.1&&(!y3.2))))
theorem B0b (p:List UInt8) (pq:Option Addr) (pk:Nat) (hlp:p.length≤9223372036854775807) (hcp:p.length≤pk) (R:Bool) (hR:O4 p=R):I6 Tryz.prog 307 [.slice pq p.length pk] [sl cU8 pq p] (bv R):=by
 refine zco Tryz.func307 [(0,.slice pq p.length pk)] fun X hX hr hD=>?_
 replace hR:=(O4.eq_1 ..).symm.trans hR
 refine sr 1 rfl (ip' 1 0 [] ?_)
 refine ie (sr 7 rfl (ip' 1 6 [(6,.slice pq p.length pk)] ?_))
 have hQ:=G6 hR;clear hR;obtain ⟨y3,hy3,hR⟩:=hQ
 refine zca (A7b p pq pk (by first|omega|(simp only [List.length_take,List.length_drop,List.length_append,List.length_cons,List.length_nil,List.length_set,List.length_map,C6];omega)|decide) (by first|omega|(simp only [List.length_take,List.length_drop,List.length_append,List.length_cons,List.length_nil,List.length_set,List.length_map,C6];omega)|decide) y3 hy3) A2.refl ?_
 refine ip' 5 0 [(3,bv y3.1),(4,bv y3.2)] ?_
 refine ie (sr 11 rfl (ip' 4 7 [(13,bv (decide ((p.length:Int)=0)))] ?_))
 refine zir 6 1 13 19 (y3.1&&(!y3.2)) (fun g1 g1p=>?_) ?_
 ·refine ip' 2 4 [(15,bv y3.1)] ?_
  refine zia 3 1 15 18 (!y3.2) (fun g2=>?_) ?_
  ·refine ip' 3 0 [(18,bv (!y3.2))] ?_
   exact zai 2 15 18 g2
  refine ip' 1 0 [(19,bv (y3.1&&(!y3.2)))] ?_
  exact zai 4 13 19 g1
 refine ip' 1 0 [(2,bv ((decide ((p.length:Int)=0))||(y3.1&&(!y3.2))))] ?_
 subst hR
 refine ie (A7 ?_)
 exact D5 hr hD
def P7 (b:UInt8) (pending1:List UInt8):List UInt8×List Int :=
 (F1 (K4 ((([]:List UInt8)++pending1)++([b]:List UInt8))) fun (y3:Bool×Bool)=>(bif y3.2 then (F1 (I4 ((([]:List UInt8)++pending1)++([b]:List UInt8))) fun (y1:Int×Int×Int)=>(([]:List UInt8),([y1.1]:List Int))) else (bif y3.1 then (((([]:List UInt8)++pending1)++([b]:List UInt8)),([]:List Int)) else (bif (decide ((pending1.length:Int)=0)) then (([]:List UInt8),([65533]:List Int)) else (F1 (A0q b) fun (y4:List UInt8×List Int)=>(y4.1,(([65533]:List Int)++y4.2)))))))
def V4 (pending:List UInt8) (b:UInt8):List UInt8×List Int :=
 (bif (!(O4 pending)) then P7 b ([]:List UInt8) else P7 b pending)
theorem B1z (b:UInt8) (p:List UInt8):(P7 b p).1.length≤4∧(P7 b p).2.length≤3:=by
 unfold P7
 simp only [F1]
 have hs:=B0c b
 cases h2:(K4 ((([]:List UInt8)++p)++([b]:List UInt8))).2 with
 | true=>simp
 | false =>
  rw [cond_false]
  cases h1:(K4 ((([]:List UInt8)++p)++([b]:List UInt8))).1 with
  | true =>
   have:=B7a _ h1
   simp only [cond_true,List.length_nil];omega
  | false =>
   rw [cond_false]
   cases (decide ((p.length:Int)=0)) with
   | true=>simp
   | false=>simp only [cond_false,List.length_append,List.length_cons,List.length_nil];omega
theorem A8u (p:List UInt8) (b:UInt8):(V4 p b).1.length≤4∧(V4 p b).2.length≤3:=by
 unfold V4
 cases (!(O4 p))<;>simp only [cond_true,cond_false]<;>exact B1z b _
theorem B7s (pending:List UInt8) (b:UInt8) (pendingq:Option Addr) (pendingk:Nat) (hlpending:pending.length≤9223372036854775807) (hcpending:pending.length≤pendingk) (hp:pending.length≤4) (R:List UInt8×List Int) (hR:V4 pending b=R):Con Tryz.prog 253 [.slice pendingq pending.length pendingk,.int .u8 (b.toNat:Int)] [] [sl cU8 pendingq pending] ({t:Option Addr×Nat // R.1.length≤t.2∧R.1.length≤9223372036854775807}×{t:Option Addr×Nat // R.2.length≤t.2∧R.2.length≤9223372036854775807}) (fun x=>.tuple #[.slice x.1.1.1 R.1.length x.1.1.2,.slice x.2.1.1 R.2.length x.2.1.2]) (fun x=>[]) (fun x=>[sl cU8 x.1.1.1 R.1,sl K8 x.2.1.1 R.2]):=by
 refine zco Tryz.func253 [(0,.slice pendingq pending.length pendingk),(1,.int .u8 (b.toNat:Int))] fun X hX hr hD=>?_
 replace hR:=(V4.eq_1 ..).symm.trans hR
 refine sr 2 rfl (ip' 2 0 [] ?_)
 refine ie (D5h (fun (pending1:List UInt8) (pendingq1:Option Addr) (pendingk1:Nat)=>(P7 b pending1=R∧pending1.length≤pendingk1∧pending1.length≤9223372036854775807∧pending1.length≤4,[(0,.slice pendingq1 pending1.length pendingk1),(1,.int .u8 (b.toNat:Int))],[],[sl cU8 pendingq pending,sl cU8 pendingq1 pending1])) ?_ ?_)
 ·refine sr 3 rfl (ip' 1 2 [(14,.slice pendingq pending.length pendingk)] ?_)
  refine zca (B0b pending pendingq pendingk (by first|omega|(simp only [List.length_take,List.length_drop,List.length_append,List.length_cons,List.length_nil,List.length_set,List.length_map,C6];omega)|decide) (by first|omega|(simp only [List.length_take,List.length_drop,List.length_append,List.length_cons,List.length_nil,List.length_set,List.length_map,C6];omega)|decide) _ rfl) A2.refl ?_
  refine ip' 1 0 [(16,bv (!(O4 pending)))] ?_
  refine ie ?_
  refine zjb rfl hR ?_ ?_<;>clear hR<;>intro hR h1
  ·refine A5 1 rfl (ip' 1 0 [(0,.slice none 0 0)] ?_)
   refine A1 ?_
   exact D1a ([]:List UInt8) none 0 ⟨hR,(by first|omega|(simp only [List.length_take,List.length_drop,List.length_append,List.length_cons,List.length_nil,List.length_set,List.length_map,C6];omega)|decide),(by first|omega|(simp only [List.length_take,List.length_drop,List.length_append,List.length_cons,List.length_nil,List.length_set,List.length_map,C6];omega)|decide),(by first|omega|(simp only [List.length_nil];omega))⟩ (mk [] rfl) (A2.con1 (B5 0 rfl) (A2.con1 P2 fn0))
  refine A4 ?_
  exact D1a pending pendingq pendingk ⟨hR,(by first|omega|(simp only [List.length_take,List.length_drop,List.length_append,List.length_cons,List.length_nil,List.length_set,List.length_map,C6];omega)|decide),(by first|omega|(simp only [List.length_take,List.length_drop,List.length_append,List.length_cons,List.length_nil,List.length_set,List.length_map,C6];omega)|decide),(by first|omega|(simp only [List.length_nil];omega))⟩ (mk [] rfl) (A2.pick [0,0] rfl)
 intro pending1 pendingq1 pendingk1
 rintro ⟨hR,hcpending1,hlpending1,hj⟩
 replace hR:=(P7.eq_1 ..).symm.trans hR
 refine sr 7 rfl (it rfl (A8p R3 rfl rfl) fun b2=>?_)
 have:([]:List UInt8).length=0:=rfl
 refine ip' 1 5 [(18,.slice pendingq1 pending1.length pendingk1)] ?_
 refine it rfl (A4o (f:=cU8) (r:=(⟨some b2,0,[]⟩:VR)) (xs:=([]:List UInt8)) (ys:=pending1) (pre:=[]) (post:=[]) A9y (fun _=>rfl) (fun _=>rfl) rfl rfl rfl rfl rfl rfl rfl rfl (B5 1 rfl) (show VOk 1 0 _ from ⟨rfl,Nat.zero_le _,Nat.zero_le _⟩) (by first|omega|(simp only [List.length_cons,List.length_nil,List.length_append,List.length_take,List.length_drop,C6];omega)) (by first|omega|(simp only [List.length_cons,List.length_nil,List.length_append,List.length_take,List.length_drop,C6];omega))) fun ⟨r3,hr4⟩=>?_
 have:=VOk.le hr4
 have:=VOk.cap hr4
 refine ip' 1 3 [(20,.int .u8 (b.toNat:Int))] ?_
 refine it rfl (E9 (c:=cU8) (xs:=([b]:List UInt8)) R3 rfl rfl rfl (by kernel_rfl)) fun b5=>?_
 have:([b]:List UInt8).length=1:=rfl
 refine it rfl (B0h (f:=cU8) (r:=r3) (xs:=(([]:List UInt8)++pending1)) (ys:=([b]:List UInt8)) (pre:=[]) (post:=[]) A9y (fun _=>rfl) (fun _=>rfl) rfl rfl rfl rfl rfl rfl rfl rfl rfl (B5 0 rfl) hr4 (by first|omega|(simp only [List.length_cons,List.length_nil,List.length_append,List.length_take,List.length_drop,C6];omega)) (by first|omega|(simp only [List.length_cons,List.length_nil,List.length_append,List.length_take,List.length_drop,C6];omega))) fun ⟨r6,hr7⟩=>?_
 have:=VOk.le hr7
 have:=VOk.cap hr7
 refine ip' 1 0 [(6,.slice (va r6.q) (((([]:List UInt8)++pending1)++([b]:List UInt8)).length) r6.k)] ?_
 refine ie (sr 7 rfl (ip' 1 6 [(24,.slice (va r6.q) (((([]:List UInt8)++pending1)++([b]:List UInt8)).length) r6.k)] ?_))
 have:=VOk.cap hr7
 have:=VOk.le hr7
 refine S1 [] [] (T:=5) (c:=cU8) (r:=r6) (xs:=((([]:List UInt8)++pending1)++([b]:List UInt8))) hr7 (by first|rfl|simp only [List.cons_append,List.append_assoc,List.nil_append,List.append_nil]) ?_
 have hQ:=G6 hR;clear hR;obtain ⟨y3,hy3,hR⟩:=hQ
 refine zca (A7b ((([]:List UInt8)++pending1)++([b]:List UInt8)) (va r6.q) r6.k (by first|omega|(simp only [List.length_take,List.length_drop,List.length_append,List.length_cons,List.length_nil,List.length_set,List.length_map,C6];omega)|decide) (by first|omega|(simp only [List.length_take,List.length_drop,List.length_append,List.length_cons,List.length_nil,List.length_set,List.length_map,C6];omega)|decide) y3 hy3) (A2.pick [0] rfl) ?_
 refine ip' 5 0 [(7,bv y3.1),(8,bv y3.2)] ?_
 refine ie (A3 (sr 1 rfl (ip' 1 0 [(28,bv y3.2)] ?_)))
 refine ie ?_
 refine zjb rfl hR ?_ ?_<;>clear hR<;>intro hR h8
 ·refine sr 9 rfl (ip' 1 8 [(30,.slice (va r6.q) (((([]:List UInt8)++pending1)++([b]:List UInt8)).length) r6.k)] ?_)
  have hQ:=G6 hR;clear hR;obtain ⟨y1,hy1,hR⟩:=hQ
  refine zca (A7a ((([]:List UInt8)++pending1)++([b]:List UInt8)) (va r6.q) r6.k (by first|omega|(simp only [List.length_take,List.length_drop,List.length_append,List.length_cons,List.length_nil,List.length_set,List.length_map,C6];omega)|decide) (by first|omega|(simp only [List.length_take,List.length_drop,List.length_append,List.length_cons,List.length_nil,List.length_set,List.length_map,C6];omega)|decide) y1 hy1) (A2.pick [0] rfl) ?_
  have:=A2r ((([]:List UInt8)++pending1)++([b]:List UInt8));try rw [hy1] at this
  refine ip' 7 0 [(9,iv y1.1)] ?_
  refine ie (sr 4 rfl (ip' 1 3 [(35,iv y1.1)] ?_))
  refine it rfl (E9 (c:=K8) (xs:=([y1.1]:List Int)) V7 rfl rfl rfl (by kernel_rfl)) fun b9=>?_
  have:([y1.1]:List Int).length=1:=rfl
  refine ip' 2 0 [(4,.slice none 0 0),(5,.slice (some ⟨b9,0,none⟩) 1 1)] ?_
  subst hR
  refine ie (A7 ?_)
  exact zer hr hD (V5 rfl (B1 rfl) (B1 rfl)) ((zq none 0),(zq (some ⟨b9,0,none⟩) 1)) (mk [] rfl) (A2.con1 P2 (A2.con1 (B5 0 rfl) fn0))
 refine A4 (nx (A3 (sr 1 rfl (ip' 1 0 [(37,bv y3.1)] ?_))))
 refine ie ?_
 refine zjb rfl hR ?_ ?_<;>clear hR<;>intro hR h10
 ·refine sr 3 rfl (ip' 3 0 [(4,.slice (va r6.q) (((([]:List UInt8)++pending1)++([b]:List UInt8)).length) r6.k),(5,.slice none 0 0)] ?_)
  subst hR
  refine ie (A7 ?_)
  exact zer hr hD (V5 rfl (B1 rfl) (B1 rfl)) ((zq (va r6.q) r6.k),(zq none 0)) (mk [] rfl) (A2.con1 (B5 0 rfl) (A2.con1 P2 fn0))
 refine A4 (nx (A3 (sr 3 rfl (ip' 3 0 [(41,bv (decide ((pending1.length:Int)=0)))] ?_))))
 refine ie ?_
 refine zjd rfl hR ?_ ?_<;>clear hR<;>intro hR h11 h11p
 ·refine sr 3 rfl (it rfl (E9 (c:=K8) (xs:=([65533]:List Int)) V7 rfl rfl rfl (by kernel_rfl)) fun b12=>?_)
  have:([65533]:List Int).length=1:=rfl
  refine ip' 2 0 [(4,.slice none 0 0),(5,.slice (some ⟨b12,0,none⟩) 1 1)] ?_
  subst hR
  refine ie (A7 ?_)
  exact zer hr hD (V5 rfl (B1 rfl) (B1 rfl)) ((zq none 0),(zq (some ⟨b12,0,none⟩) 1)) (mk [] rfl) (A2.con1 P2 (A2.con1 (B5 0 rfl) fn0))
 refine A4 (nx (sr 7 rfl (ip' 1 6 [(44,.int .u8 (b.toNat:Int))] ?_)))
 have hQ:=G6 hR;clear hR;obtain ⟨y4,hy4,hR⟩:=hQ
 refine zcm (C0v b (by first|omega|(simp only [List.length_nil];omega)) y4 hy4) fn0 fun ⟨⟨⟨q13,k14⟩,hp15⟩,⟨⟨q18,k19⟩,hp20⟩⟩=>?_
 obtain ⟨hc16,hl17⟩:=hp15
 obtain ⟨hc21,hl22⟩:=hp20
 have:=B0c b;try rw [hy4] at this
 refine ip' 5 0 [(12,.slice q13 y4.1.length k14),(13,.slice q18 y4.2.length k19)] ?_
 refine ie (sr 6 rfl (ip' 1 5 [(48,.slice q13 y4.1.length k14)] ?_))
 refine it rfl (E9 (c:=K8) (xs:=([65533]:List Int)) V7 rfl rfl rfl (by kernel_rfl)) fun b23=>?_
 have:([65533]:List Int).length=1:=rfl
 refine ip' 1 3 [(50,.slice q18 y4.2.length k19)] ?_
 refine it rfl (B6q (f:=K8) (xs:=([65533]:List Int)) (ys:=y4.2) B6u (fun _=>rfl) (fun _=>rfl) rfl rfl rfl rfl rfl rfl (by omega) (by omega) (by rfl) (B5 0 rfl) (B5 2 rfl) (by first|omega|(simp only [List.length_cons,List.length_nil,List.length_append,List.length_take,List.length_drop,C6];omega)) (by first|omega|(simp only [List.length_cons,List.length_nil,List.length_append,List.length_take,List.length_drop,C6];omega))) fun ⟨⟨q24,k25⟩,hq26⟩=>?_
 refine ip' 2 0 [(4,.slice q13 y4.1.length k14),(5,.slice q24 ((([65533]:List Int)++y4.2).length) k25)] ?_
 subst hR
 refine ie (A7 ?_)
 exact zer hr hD (V5 rfl (B1 rfl) (B1 rfl)) ((zq q13 k14),(zq q24 k25)) (mk [] rfl) (A2.con1 (B5 2 rfl) (A2.con1 (B5 0 rfl) fn0))
def A2i (pending:List UInt8):List Int :=
 (bif ((decide ((0:Int)<(pending.length:Int)))&&(O4 pending)) then ([65533]:List Int) else ([]:List Int))
theorem A8x (p:List UInt8):(A2i p).length≤1:=by
 unfold A2i
 cases ((decide ((0:Int)<(p.length:Int)))&&(O4 p))<;>simp
theorem B8w (pending:List UInt8) (pendingq:Option Addr) (pendingk:Nat) (hlpending:pending.length≤9223372036854775807) (hcpending:pending.length≤pendingk) (R:List Int) (hR:A2i pending=R):Con Tryz.prog 254 [.slice pendingq pending.length pendingk] [] [sl cU8 pendingq pending] ({t:Option Addr×Nat // R.length≤t.2∧R.length≤9223372036854775807}) (fun x=>.slice x.1.1 R.length x.1.2) (fun x=>[]) (fun x=>[sl K8 x.1.1 R]):=by
 refine zco Tryz.func254 [(0,.slice pendingq pending.length pendingk)] fun X hX hr hD=>?_
 replace hR:=(A2i.eq_1 ..).symm.trans hR
 refine sr 1 rfl (ip' 1 0 [] ?_)
 refine ie (A3 (sr 7 rfl (ip' 4 3 [(6,bv (decide ((0:Int)<(pending.length:Int))))] ?_)))
 refine zid 3 0 6 9 (O4 pending) (fun g1 g1p=>?_) ?_
 ·refine ip' 1 2 [(7,.slice pendingq pending.length pendingk)] ?_
  refine zca (B0b pending pendingq pendingk (by first|omega|(simp only [List.length_take,List.length_drop,List.length_append,List.length_cons,List.length_nil,List.length_set,List.length_map,C6];omega)|decide) (by first|omega|(simp only [List.length_take,List.length_drop,List.length_append,List.length_cons,List.length_nil,List.length_set,List.length_map,C6];omega)|decide) _ rfl) A2.refl ?_
  refine ip' 1 0 [(9,bv (O4 pending))] ?_
  exact zai 4 6 9 g1
 refine ie ?_
 refine zjb rfl hR ?_ ?_<;>clear hR<;>intro hR h2
 ·have h2p:=h2;try simp only [Bool.and_eq_true,Bool.or_eq_true,Bool.and_eq_false_iff,Bool.or_eq_false_iff,Bool.not_eq_true',Bool.not_eq_false',decide_eq_true_eq,decide_eq_false_iff_not] at h2p
  refine sr 2 rfl (it rfl (E9 (c:=K8) (xs:=([65533]:List Int)) V7 rfl rfl rfl (by kernel_rfl)) fun b3=>?_)
  have:([65533]:List Int).length=1:=rfl
  refine ip' 1 0 [(2,.slice (some ⟨b3,0,none⟩) 1 1)] ?_
  subst hR
  refine ie (A7 ?_)
  exact zer hr hD (P3 rfl (B1 rfl)) (zq (some ⟨b3,0,none⟩) 1) (mk [] rfl) (A2.con1 (B5 0 rfl) fn0)
 have h2p:=h2;try simp only [Bool.and_eq_true,Bool.or_eq_true,Bool.and_eq_false_iff,Bool.or_eq_false_iff,Bool.not_eq_true',Bool.not_eq_false',decide_eq_true_eq,decide_eq_false_iff_not] at h2p
 refine A4 (nx (sr 1 rfl (ip' 1 0 [(2,.slice none 0 0)] ?_)))
 subst hR
 refine ie (A7 ?_)
 exact zer hr hD (P3 rfl (B1 rfl)) (zq none 0) (mk [] rfl) (A2.con1 P2 fn0)
def M9:List UInt8→List Int→List UInt8→Nat→List Int
 | [],out,pending,i=>(F1 (A2i pending) fun (y8:List Int)=>(out++y8))
 | hd_l0::tl_l0,out,pending,i=>(F1 (V4 pending hd_l0) fun (y6:List UInt8×List Int)=>M9 tl_l0 (out++y6.2) y6.1 (i+1))
def Z6 (s:List UInt8):List Int :=
 M9 s ([]:List Int) ([]:List UInt8) 0
theorem A5p:∀ (xs:List UInt8) (out:List Int) (p:List UInt8) (i:Nat),(M9 xs out p i).length≤out.length+3 * xs.length+1
 | [],out,p,i=>by
  have:=A8x p
  simp only [M9,F1,List.length_append,List.length_nil];omega
 | x::xs,out,p,i=>by
  have:=A8u p x
  have:=A5p xs (out++(V4 p x).2) (V4 p x).1 (i+1)
  simp only [M9,F1,List.length_append,List.length_cons] at *;omega
theorem B5f (s:List UInt8):(Z6 s).length≤3 * s.length+1:=by
 have:=A5p s [] [] 0
 simp only [List.length_nil] at this
 unfold Z6;omega
theorem B7v (s:List UInt8) (hs:s.length≤1000000) (R:List Int) (hR:Z6 s=R):Con Tryz.prog 173 [sv s] [] [] ({r:VR // VOk 1 R.length r}) (fun x=>.slice (va x.1.q) R.length x.1.k) (fun x=>((vo K8 3 x.1 R)++([]))) (fun x=>[]):=by
 refine zco Tryz.func173 [(0,sv s)] fun X hX hr hD=>?_
 replace hR:=(Z6.eq_1 ..).symm.trans hR
 refine sr 1 rfl (ip' 1 0 [] ?_)
 refine ie (sr 1 rfl (ip' 1 0 [(3,.slice none 0 0)] ?_))
 refine ie (sr 1 rfl (ip' 1 0 [(4,.slice none 0 0)] ?_))
 refine ie (A3 (sr 1 rfl (ip' 1 0 [(5,iv 0)] ?_)))
 refine ie (B0 ?_)
 refine D6v (fun (out:List Int) (outr:VR) (pending:List UInt8) (pendingq:Option Addr) (pendingk:Nat) (i:Nat)=>(i≤s.length∧M9 (s.drop i) out pending i=R∧VOk 1 out.length outr∧pending.length≤pendingk∧pending.length≤9223372036854775807∧pending.length≤4∧out.length≤3 * i,[(0,sv s),(3,.slice (va outr.q) out.length outr.k),(4,.slice pendingq pending.length pendingk),(5,iv (i:Int))],((vo K8 3 outr out)++([])),[sl cU8 pendingq pending],s.length - i)) ([]:List Int) VR.nil ([]:List UInt8) none 0 0 ⟨(by omega),hR,VOk.nil,(by first|omega|(simp only [List.length_take,List.length_drop,List.length_append,List.length_cons,List.length_nil,List.length_set,List.length_map,C6];omega)|decide),(by first|omega|(simp only [List.length_take,List.length_drop,List.length_append,List.length_cons,List.length_nil,List.length_set,List.length_map,C6];omega)|decide),(by simp),(by simp)⟩ (mc [vo K8 3 VR.nil ([]:List Int)] [true] rfl (by first|rfl|(simp only [List.length_set]<;>rfl))) (A2.con1 P2 fn0) ?_
 rintro out outr pending pendingq pendingk i ⟨hm1,hR,hokoutr,hcpending,hlpending,hpl,hol⟩
 have:=VOk.le hokoutr
 refine A3 (sr 4 rfl (ip' 4 0 [(11,bv (decide ((i:Int)<(s.length:Int))))] ?_))
 refine ie (S2 rfl (fun h2=>?_) (fun h2=>?_))
 ·have h2p:(i:Int)<(s.length:Int):=by simpa using h2
  rw [U1 0 (show i<s.length by omega)] at hR;replace hR:=(M9.eq_2 ..).symm.trans hR
  refine A4 (nx (A3 (B0 (sr 10 rfl (ip' 3 7 [(15,.slice pendingq pending.length pendingk),(16,sv s),(17,iv (i:Int))] ?_)))))
  refine ix rfl (C2q (T:=9) Tryz.underlying9 rfl rfl rfl i rfl (by omega)) ?_
  have hQ:=G6 hR;clear hR;obtain ⟨y6,hy6,hR⟩:=hQ
  refine zcm (B7s pending (s.getD i 0) pendingq pendingk (by first|omega|(simp only [List.length_take,List.length_drop,List.length_append,List.length_cons,List.length_nil,List.length_set,List.length_map,C6];omega)|decide) (by first|omega|(simp only [List.length_take,List.length_drop,List.length_append,List.length_cons,List.length_nil,List.length_set,List.length_map,C6];omega)|decide) (by first|omega|(simp only [List.length_nil];omega)) y6 hy6) A2.refl fun ⟨⟨⟨q3,k4⟩,hp5⟩,⟨⟨q8,k9⟩,hp10⟩⟩=>?_
  obtain ⟨hc6,hl7⟩:=hp5
  obtain ⟨hc11,hl12⟩:=hp10
  have:=A8u pending (s.getD i 0);try rw [hy6] at this
  refine ip' 5 0 [(6,.slice q3 y6.1.length k4),(7,.slice q8 y6.2.length k9)] ?_
  refine ie (sr 2 rfl (ip' 2 0 [(4,.slice q3 y6.1.length k4)] ?_))
  refine ie (A5 4 rfl (ip' 2 2 [(23,.slice (va outr.q) out.length outr.k),(24,.slice q8 y6.2.length k9)] ?_))
  refine it rfl (A4o (f:=K8) (r:=outr) (xs:=out) (ys:=y6.2) (pre:=[]) (post:=[]) B6u (fun _=>rfl) (fun _=>rfl) rfl rfl rfl rfl rfl rfl rfl rfl (B5 1 rfl) hokoutr (by first|omega|(simp only [List.length_cons,List.length_nil,List.length_append,List.length_take,List.length_drop,C6];omega)) (by first|omega|(simp only [List.length_cons,List.length_nil,List.length_append,List.length_take,List.length_drop,C6];omega))) fun ⟨r13,hr14⟩=>?_
  have:=@List.length_append _ out y6.2
  have:=VOk.le hr14
  have:=VOk.cap hr14
  refine ip' 1 0 [(3,.slice (va r13.q) ((out++y6.2).length) r13.k)] ?_
  refine A1 (nx (A5 3 rfl (ip' 1 2 [(12,iv (i:Int))] ?_)))
  refine ix rfl (B4 rfl rfl rfl rfl (by omega)) ?_
  refine ip' 1 0 [(5,iv ((i:Int)+1))] ?_
  refine A1 ?_
  exact D7e (z1:=out) (z2:=outr) (z3:=pending) (z4:=pendingq) (z5:=pendingk) (z6:=i) (out++y6.2) r13 y6.1 q3 k4 (i+1) ⟨(by omega),hR,hr14,(by first|omega|(simp only [List.length_take,List.length_drop,List.length_append,List.length_cons,List.length_nil,List.length_set,List.length_map,C6];omega)|decide),(by first|omega|(simp only [List.length_take,List.length_drop,List.length_append,List.length_cons,List.length_nil,List.length_set,List.length_map,C6];omega)|decide),(by omega),(by first|omega|(simp only [List.length_append];omega))⟩ (by (try dsimp only);omega) (mc [vo K8 3 r13 (out++y6.2)] [true] rfl (by first|rfl|(simp only [List.length_set]<;>rfl))) (A2.pick [0] rfl)
 have h2p:¬ ((i:Int)<(s.length:Int)):=by simpa using h2
 rw [U2 h2p] at hR;replace hR:=(M9.eq_1 ..).symm.trans hR
 refine G2 (nx (sr 5 rfl (ip' 2 3 [(26,.slice (va outr.q) out.length outr.k),(27,.slice pendingq pending.length pendingk)] ?_)))
 have hQ:=G6 hR;clear hR;obtain ⟨y8,hy8,hR⟩:=hQ
 refine zcm (B8w pending pendingq pendingk (by first|omega|(simp only [List.length_take,List.length_drop,List.length_append,List.length_cons,List.length_nil,List.length_set,List.length_map,C6];omega)|decide) (by first|omega|(simp only [List.length_take,List.length_drop,List.length_append,List.length_cons,List.length_nil,List.length_set,List.length_map,C6];omega)|decide) y8 hy8) A2.refl fun ⟨⟨q15,k16⟩,hp17⟩=>?_
 obtain ⟨hc18,hl19⟩:=hp17
 have:=A8x pending;try rw [hy8] at this
 refine it rfl (A4o (f:=K8) (r:=outr) (xs:=out) (ys:=y8) (pre:=[]) (post:=[]) B6u (fun _=>rfl) (fun _=>rfl) rfl rfl rfl rfl rfl rfl rfl rfl (B5 0 rfl) hokoutr (by first|omega|(simp only [List.length_cons,List.length_nil,List.length_append,List.length_take,List.length_drop,C6];omega)) (by first|omega|(simp only [List.length_cons,List.length_nil,List.length_append,List.length_take,List.length_drop,C6];omega))) fun ⟨r20,hr21⟩=>?_
 have:=@List.length_append _ out y8
 have:=VOk.le hr21
 have:=VOk.cap hr21
 refine ip' 1 0 [(2,.slice (va r20.q) ((out++y8).length) r20.k)] ?_
 subst hR
 refine ie (A7 ?_)
 exact zer hr hD (P3 rfl (B1 rfl)) ⟨r20,hr21⟩ (mc [vo K8 3 r20 (out++y8)] [true] rfl (by first|rfl|(simp only [List.length_set]<;>rfl))) fn0
def C9 (cp:Int):Int :=
 (bif (decide (cp<128)) then 1 else (bif (decide (cp<2048)) then 2 else (bif (decide (cp<65536)) then 3 else 4)))
theorem A6w (cp:Int):1≤C9 cp∧C9 cp≤4:=by
 unfold C9
 cases decide (cp<128)<;>cases decide (cp<2048)<;>cases decide (cp<65536)<;>simp
theorem C0h (cp:Int) (R:Int) (hR:C9 cp=R):I6 Tryz.prog 310 [iv cp] [] (iv R):=by
 refine zco Tryz.func310 [(0,iv cp)] fun X hX hr hD=>?_
 replace hR:=(C9.eq_1 ..).symm.trans hR
 refine sr 1 rfl (ip' 1 0 [] ?_)
 refine ie (A3 (sr 2 rfl (ip' 2 0 [(4,bv (decide (cp<128)))] ?_)))
 refine ie ?_
 refine zjd rfl hR ?_ ?_<;>clear hR<;>intro hR h1 h1p
 ·refine sr 1 rfl (ip' 1 0 [(2,iv 1)] ?_)
  subst hR
  refine ie (A7 ?_)
  exact D5 hr hD
 refine A4 (nx (A3 (sr 2 rfl (ip' 2 0 [(6,bv (decide (cp<2048)))] ?_))))
 refine ie ?_
 refine zjd rfl hR ?_ ?_<;>clear hR<;>intro hR h2 h2p
 ·refine sr 1 rfl (ip' 1 0 [(2,iv 2)] ?_)
  subst hR
  refine ie (A7 ?_)
  exact D5 hr hD
 refine A4 (nx (A3 (sr 2 rfl (ip' 2 0 [(8,bv (decide (cp<65536)))] ?_))))
 refine ie ?_
 refine zjd rfl hR ?_ ?_<;>clear hR<;>intro hR h3 h3p
 ·refine sr 1 rfl (ip' 1 0 [(2,iv 3)] ?_)
  subst hR
  refine ie (A7 ?_)
  exact D5 hr hD
 refine A4 (nx (sr 1 rfl (ip' 1 0 [(2,iv 4)] ?_)))
 subst hR
 refine ie (A7 ?_)
 exact D5 hr hD
def L6 (cp1:Int):Nat→Int→List UInt8→Int→List UInt8
 | 0,_,_,_=>[]
 | fu1+1,cp2,b,i=>(bif (decide ((0:Int)<i)) then L6 cp1 fu1 (IntKind.i64.wrap (Int.tdiv cp2 64)) (b.set ((i).toNat) (by8 (IntKind.u8.wrap (128+(Int.tmod cp2 64))))) (i - 1) else (b.set 0 (by8 (IntKind.u8.wrap ((([0,0,192,224,240]:List Int).getD ((C9 cp1).toNat) 0)+cp2)))))
def X2 (cp1:Int):List UInt8 :=
 (bif (decide ((C9 cp1)=1)) then ([(by8 (IntKind.u8.wrap cp1))]:List UInt8) else L6 cp1 ((((C9 cp1) - 1) - (0:Int)).toNat+1) cp1 (List.replicate ((C9 cp1).toNat) (0:UInt8)) ((C9 cp1) - 1))
def A3s (cp:Int):List UInt8 :=
 (bif (!(M7 cp)) then X2 65533 else X2 cp)
theorem A7l (c:Int):∀ (fu:Nat) (x:Int) (b:List UInt8) (i:Int),b.length≤4→(L6 c fu x b i).length≤4
 | 0,x,b,i,h=>by simp [L6]
 | fu+1,x,b,i,h=>by
  simp only [L6]
  cases (decide ((0:Int)<i)) with
  | true=>rw [cond_true];exact A7l c fu _ _ _ (by rw [List.length_set];exact h)
  | false=>rw [cond_false,List.length_set];exact h
theorem B4i (c:Int):(X2 c).length≤4:=by
 have:=A6w c
 unfold X2
 cases (decide ((C9 c)=1)) with
 | true=>simp
 | false=>rw [cond_false];exact A7l c _ _ _ _ (by rw [List.length_replicate];omega)
theorem B8r (c:Int):(A3s c).length≤4:=by
 unfold A3s
 cases (!(M7 c))<;>simp only [cond_true,cond_false]<;>exact B4i _
theorem C3o (cp:Int) (R:List UInt8) (hR:A3s cp=R):I6 Tryz.prog 255 [iv cp] [] (sv R):=by
 refine zco Tryz.func255 [(0,iv cp)] fun X hX hr hD=>?_
 replace hR:=(A3s.eq_1 ..).symm.trans hR
 refine sr 1 rfl (ip' 1 0 [] ?_)
 refine ie (B5u (fun (cp1:Int)=>(X2 cp1=R∧cp1≤1114111∧0≤cp1,[(0,iv cp1)],[],[])) ?_ ?_)
 ·refine sr 3 rfl (ip' 1 2 [(7,iv cp)] ?_)
  refine zca (B1g cp _ rfl) fn0 ?_
  refine ip' 1 0 [(9,bv (!(M7 cp)))] ?_
  refine ie ?_
  refine zjb rfl hR ?_ ?_<;>clear hR<;>intro hR h1
  ·refine A5 1 rfl (ip' 1 0 [(0,iv 65533)] ?_)
   refine A1 ?_
   exact A2q 65533 ⟨hR,(by omega)⟩ (mk [] rfl) fn0
  have hck:0≤cp∧cp≤1114111:=by have q:=h1;simp [M7] at q;omega
  refine A4 ?_
  exact A2q cp ⟨hR,(by omega)⟩ (mk [] rfl) fn0
 intro cp1
 rintro ⟨hR,hcp⟩
 replace hR:=(X2.eq_1 ..).symm.trans hR
 refine sr 3 rfl (ip' 1 2 [(10,iv cp1)] ?_)
 refine zca (C0h cp1 _ rfl) fn0 ?_
 have:=A6w cp1
 refine ip' 1 0 [(3,iv (C9 cp1))] ?_
 refine ie (A3 (sr 2 rfl (ip' 2 0 [(13,bv (decide ((C9 cp1)=1)))] ?_)))
 refine ie ?_
 refine zjd rfl hR ?_ ?_<;>clear hR<;>intro hR h2 h2p
 ·refine sr 5 rfl (ip' 1 4 [(14,iv cp1)] ?_)
  refine ix rfl (F9 (v:=.int .u8 (IntKind.u8.wrap cp1)) (I9.pure rfl) (A5e)) ?_
  refine it rfl (E9 (c:=cU8) (xs:=([(by8 (IntKind.u8.wrap cp1))]:List UInt8)) R3 rfl rfl rfl (by kernel_rfl)) fun b3=>?_
  have:([(by8 (IntKind.u8.wrap cp1))]:List UInt8).length=1:=rfl
  refine ix rfl (B3m Tryz.underlying9 Tryz.underlying239 rfl rfl (B5 0 rfl) rfl (by kernel_rfl)) ?_
  have:([(by8 (IntKind.u8.wrap cp1))]:List UInt8).length=1:=rfl
  refine ip' 1 0 [(2,sv ([(by8 (IntKind.u8.wrap cp1))]:List UInt8))] ?_
  subst hR
  refine ie (A7 ?_)
  exact D5 hr hD
 have hsz:=A6w cp1
 refine A4 (nx (sr 3 rfl (ip' 1 2 [(18,iv (C9 cp1))] ?_)))
 refine it rfl (A9p (f:=cU8) (l:=(C9 cp1).toNat) (c:=(C9 cp1).toNat) 0 A9y D5f.ok (fun _=>rfl) rfl (by exact congrArg (fun z=>some (Value.int .i64 z)) (show (C9 cp1)=(((C9 cp1).toNat:Nat):Int) by omega)) (by exact congrArg (fun z=>some (Value.int .i64 z)) (show (C9 cp1)=(((C9 cp1).toNat:Nat):Int) by omega)) (by omega) (by first|omega|(simp only [List.length_cons,List.length_nil,List.length_append,List.length_take,List.length_drop,C6];omega)) (by omega)) fun ⟨r4,hr5⟩=>?_
 have:=VOk.le hr5
 have:=VOk.cap hr5
 refine ip' 1 0 [(4,.slice (va r4.q) ((List.replicate ((C9 cp1).toNat) (0:UInt8)).length) r4.k)] ?_
 refine ie (A3 (sr 3 rfl (ip' 1 2 [(20,iv (C9 cp1))] ?_)))
 refine ix rfl (Q0 rfl rfl rfl rfl (by omega)) ?_
 refine ip' 1 0 [(5,iv ((C9 cp1) - 1))] ?_
 refine ie (B0 ?_)
 refine D7i (fun (fu:Nat) (cp2:Int) (b:List UInt8) (br:VR) (i:Int)=>((i - (0:Int)).toNat<fu∧L6 cp1 fu cp2 b i=R∧VOk 1 b.length br∧(0≤cp2∧cp2≤1114111)∧(b.length:Int)=C9 cp1∧0≤i∧i<C9 cp1,[(0,iv cp2),(3,iv (C9 cp1)),(4,.slice (va br.q) b.length br.k),(5,iv i)],((vo cU8 5 br b)++([])),[],fu)) ((((C9 cp1) - 1) - (0:Int)).toNat+1) cp1 (List.replicate ((C9 cp1).toNat) (0:UInt8)) r4 ((C9 cp1) - 1) ⟨(Nat.lt_succ_self _),hR,hr5,(by omega),(by first|omega|(simp only [List.length_replicate];omega)),(by omega)⟩ (mc [vo cU8 5 r4 (List.replicate ((C9 cp1).toNat) (0:UInt8))] [true] rfl (by first|rfl|(simp only [List.length_set]<;>rfl))) fn0 ?_
 rintro fu cp2 b br i ⟨hm6,hR,hokbr,hcr,hbl,hi0⟩
 have:=VOk.le hokbr
 obtain ⟨fu1,rfl⟩:∃ m,fu=m+1:=⟨fu - 1,by omega⟩
 replace hR:=(L6.eq_2 ..).symm.trans hR
 have htd:=Int.tdiv_eq_ediv_of_nonneg (a:=cp2) (b:=64) hcr.1
 have htm:=Int.tmod_eq_emod_of_nonneg (a:=cp2) (b:=64) hcr.1
 have hmk:0≤([0,0,192,224,240]:List Int).getD ((C9 cp1).toNat) 0∧([0,0,192,224,240]:List Int).getD ((C9 cp1).toNat) 0≤240:=by generalize (C9 cp1).toNat=k;rcases k with _ | _ | _ | _ | _ | k<;>simp
 refine A3 (sr 2 rfl (ip' 2 0 [(23,bv (decide ((0:Int)<i)))] ?_))
 refine ie ?_
 refine zjd rfl hR ?_ ?_<;>clear hR<;>intro hR h7 h7p
 ·refine A4 (nx (A3 (B0 (sr 8 rfl (ip' 3 5 [(26,.slice (va br.q) b.length br.k),(27,iv i),(28,iv cp2)] ?_)))))
  refine ix rfl (D0i rfl rfl rfl (by decide) rfl) ?_
  refine ix rfl (B4 rfl rfl rfl rfl (by omega)) ?_
  refine ix rfl (F9 (v:=.int .u8 (IntKind.u8.wrap (128+(Int.tmod cp2 64)))) (I9.pure rfl) (A5e)) ?_
  obtain ⟨b8,hb9⟩:=VOk.some hokbr (by omega)
  obtain ⟨q10,k11,j12⟩:=br
  obtain rfl:q10=some b8:=hb9
  refine ix rfl (S6 R3 rfl rfl rfl ((i).toNat) (by omega) (by omega)) ?_
  refine it rfl (V1 (us:=[.int .u8 ((by8 (IntKind.u8.wrap (128+(Int.tmod cp2 64)))).toNat:Int)]) (u':=(by8 (IntKind.u8.wrap (128+(Int.tmod cp2 64))))) (c:=cU8) (sz:=1) ty5 (fun _=>rfl) rfl rfl rfl 0 rfl rfl rfl rfl ((i).toNat) 0 rfl (gd 0 (by omega)) rfl rfl) fun _=>?_
  refine ie (A5 3 rfl (ip' 1 2 [(33,iv cp2)] ?_))
  refine ix rfl (C9o rfl rfl rfl (by decide)) ?_
  refine ip' 1 0 [(0,iv (IntKind.i64.wrap (Int.tdiv cp2 64)))] ?_
  refine A1 (nx (A5 3 rfl (ip' 1 2 [(24,iv i)] ?_)))
  refine ix rfl (Q0 rfl rfl rfl rfl (by omega)) ?_
  refine ip' 1 0 [(5,iv (i - 1))] ?_
  refine A1 ?_
  exact D6m (z1:=(fu1+1)) (z2:=cp2) (z3:=b) (z4:=(⟨some b8,k11,j12⟩:VR)) (z5:=i) fu1 (IntKind.i64.wrap (Int.tdiv cp2 64)) (b.set ((i).toNat) (by8 (IntKind.u8.wrap (128+(Int.tmod cp2 64))))) (⟨some b8,k11,j12⟩:VR) (i - 1) ⟨(by omega),hR,(VOk.cast hokbr (by simp)),(by rw [htd,show IntKind.i64.wrap (cp2 / 64)=cp2 / 64 from A4b (by simp [IntKind.min,IntKind.signed,IntKind.bits];omega) (by simp [IntKind.max,IntKind.signed,IntKind.bits];omega)];omega),(by first|omega|(simp only [List.length_set];omega)),(by omega)⟩ (Nat.lt_succ_self _) (mc [vo cU8 5 (⟨some b8,k11,j12⟩:VR) (b.set ((i).toNat) (by8 (IntKind.u8.wrap (128+(Int.tmod cp2 64)))))] [true] rfl (by first|rfl|(simp only [List.length_set]<;>rfl))) fn0
 refine G2 (nx (sr 3 rfl (I7 3 0 [0] (fun b13=>[(6,pt b13 0)]) (fun b13=>(bx b13 [iv 0,iv 0,iv 192,iv 224,iv 240] 310::(vo cU8 5 br b)++([]))) (fun b13=>?_))))
 refine ie (sr 9 rfl (ip' 2 7 [(36,.slice (va br.q) b.length br.k),(37,iv (C9 cp1))] ?_))
 refine ix rfl (A2a Tryz.underlying310 ty3 rfl rfl rfl ((C9 cp1).toNat) (by omega) (by omega)) ?_
 refine ix rfl (V2 (u:=iv (([0,0,192,224,240]:List Int).getD ((C9 cp1).toNat) 0)) (c:=K8) (xs:=([0,0,192,224,240]:List Int)) (j:=[]) (sz:=1) ty3 (fun _=>rfl) rfl rfl 0 rfl ((C9 cp1).toNat) 0 rfl (gd 0 (by simp only [List.length_cons,List.length_nil];omega)) rfl) ?_
 refine ip' 1 4 [(40,iv cp2)] ?_
 refine ix rfl (B4 rfl rfl rfl rfl (by omega)) ?_
 refine ix rfl (F9 (v:=.int .u8 (IntKind.u8.wrap ((([0,0,192,224,240]:List Int).getD ((C9 cp1).toNat) 0)+cp2))) (I9.pure rfl) (A5e)) ?_
 obtain ⟨b14,hb15⟩:=VOk.some hokbr (by omega)
 obtain ⟨q16,k17,j18⟩:=br
 obtain rfl:q16=some b14:=hb15
 refine ix rfl (S6 R3 rfl rfl rfl 0 rfl (by omega)) ?_
 refine it rfl (V1 (us:=[.int .u8 ((by8 (IntKind.u8.wrap ((([0,0,192,224,240]:List Int).getD ((C9 cp1).toNat) 0)+cp2))).toNat:Int)]) (u':=(by8 (IntKind.u8.wrap ((([0,0,192,224,240]:List Int).getD ((C9 cp1).toNat) 0)+cp2)))) (c:=cU8) (sz:=1) ty5 (fun _=>rfl) rfl rfl rfl 1 rfl rfl rfl rfl 0 0 rfl (gd 0 (by omega)) rfl rfl) fun _=>?_
 refine ie (sr 3 rfl (ip' 1 2 [(44,.slice (va (⟨some b14,k17,j18⟩:VR).q) b.length ((⟨some b14,k17,j18⟩:VR).k))] ?_))
 refine ix rfl (C2t (r:=(⟨some b14,k17,j18⟩:VR)) (pre:=[bx b13 [iv 0,iv 0,iv 192,iv 224,iv 240] 310]) (post:=[]) (s:=(b.set 0 (by8 (IntKind.u8.wrap ((([0,0,192,224,240]:List Int).getD ((C9 cp1).toNat) 0)+cp2))))) Tryz.underlying9 Tryz.underlying239 rfl (by first|rfl|(rw [List.length_set];rfl)) rfl (VOk.cast hokbr (by simp)) (by kernel_rfl)) ?_
 refine ip' 1 0 [(2,sv (b.set 0 (by8 (IntKind.u8.wrap ((([0,0,192,224,240]:List Int).getD ((C9 cp1).toNat) 0)+cp2)))))] ?_
 subst hR
 refine ie (A7 ?_)
 exact D5 hr hD
def Y6:List Int→List UInt8→Nat→List UInt8
 | [],s,i=>s
 | hd_l0::tl_l0,s,i=>(F1 (A3s hd_l0) fun (y9:List UInt8)=>Y6 tl_l0 (s++y9) (i+1))
def A3k (codes:List Int):List UInt8 :=
 Y6 codes ([]:List UInt8) 0
theorem C1w (codes:List Int) (codesq:Option Addr) (codesk:Nat) (hlcodes:codes.length≤9223372036854775807) (hccodes:codes.length≤codesk) (hcl:codes.length≤1000000) (R:List UInt8) (hR:A3k codes=R):I6 Tryz.prog 174 [.slice codesq codes.length codesk] [sl K8 codesq codes] (sv R):=by
 refine zco Tryz.func174 [(0,.slice codesq codes.length codesk)] fun X hX hr hD=>?_
 replace hR:=(A3k.eq_1 ..).symm.trans hR
 refine sr 1 rfl (ip' 1 0 [] ?_)
 refine ie (sr 1 rfl (ip' 1 0 [(3,sv ([]:List UInt8))] ?_))
 refine ie (A3 (sr 1 rfl (ip' 1 0 [(4,iv 0)] ?_)))
 refine ie (B0 (C9d (fun (s:List UInt8) (i:Nat)=>(i≤codes.length∧Y6 (codes.drop i) s i=R∧s.length≤4 * i,[(0,.slice codesq codes.length codesk),(3,sv s),(4,iv (i:Int))],[],[sl K8 codesq codes],codes.length - i)) ([]:List UInt8) 0 ⟨(by omega),hR,(by simp)⟩ (mk [] rfl) A2.refl ?_))
 rintro s i ⟨hm1,hR,hsl⟩
 refine A3 (sr 4 rfl (ip' 4 0 [(8,bv (decide ((i:Int)<(codes.length:Int))))] ?_))
 refine ie (S2 rfl (fun h2=>?_) (fun h2=>?_))
 ·have h2p:(i:Int)<(codes.length:Int):=by simpa using h2
  rw [U1 0 (show i<codes.length by omega)] at hR;replace hR:=(Y6.eq_2 ..).symm.trans hR
  refine A4 (nx (A3 (B0 (A5 8 rfl (ip' 3 5 [(11,sv s),(12,.slice codesq codes.length codesk),(13,iv (i:Int))] ?_)))))
  refine J3 0 rfl (by omega) fun a3 hq4=>?_
  refine ix rfl (E8 V7 rfl rfl hq4 rfl i rfl (by omega)) ?_
  refine ix rfl (C8 (v:=iv (codes.getD i 0)) (us:=[iv (codes.getD i 0)]) ty3 rfl rfl (G0 (c:=K8) (sz:=1) hq4 (fun _=>rfl) 0 rfl (gd 0 (by omega))) rfl) ?_
  have hQ:=G6 hR;clear hR;obtain ⟨y9,hy9,hR⟩:=hQ
  refine zca (C3o (codes.getD i 0) y9 hy9) fn0 ?_
  have:=B8r (codes.getD i 0);try rw [hy9] at this
  refine ix rfl (zst rfl rfl rfl) ?_
  have:=@List.length_append _ s y9
  refine ip' 1 0 [(3,sv (s++y9))] ?_
  refine A1 (nx (A5 3 rfl (ip' 1 2 [(9,iv (i:Int))] ?_)))
  refine ix rfl (B4 rfl rfl rfl rfl (by omega)) ?_
  refine ip' 1 0 [(4,iv ((i:Int)+1))] ?_
  refine A1 ?_
  exact C9t (z1:=s) (z2:=i) (s++y9) (i+1) ⟨(by omega),hR,(by first|omega|(simp only [List.length_append];omega))⟩ (by (try dsimp only);omega) (mk [] rfl) A2.refl
 have h2p:¬ ((i:Int)<(codes.length:Int)):=by simpa using h2
 rw [U2 h2p] at hR;replace hR:=(Y6.eq_1 ..).symm.trans hR
 refine G2 (nx (sr 2 rfl (ip' 2 0 [(2,sv s)] ?_)))
 subst hR
 refine ie (A7 ?_)
 exact D5 hr hD
def Z4 (s:List UInt8):Nat→List Int→Nat→Bool
 | 0,_,_=>false
 | fu1+1,l,i=>(bif (decide ((i:Int)<(l.length:Int))) then (bif ((decide ((l.getD i 0)<32))||((decide ((127:Int)≤(l.getD i 0)))&&(decide ((l.getD i 0)≤159)))) then false else Z4 s fu1 l (i+1)) else (F1 (A3k l) fun (y13:List UInt8)=>(decide (y13=s))))
def O5 (s:List UInt8):Bool :=
 (bif (decide ((510:Int)<(s.length:Int))) then false else (F1 (Z6 s) fun (y7:List Int)=>Z4 s ((y7.length - 0)+1) y7 0))
theorem B7m (s:List UInt8) (h:O5 s=true):s.length≤510:=by
 unfold O5 at h
 by_cases e:(510:Int)<(s.length:Int)
 ·rw [decide_eq_true e] at h;simp at h
 ·omega
theorem B7t (s:List UInt8) (R:Bool) (hR:O5 s=R):I6 Tryz.prog 113 [sv s] [] (bv R):=by
 refine zco Tryz.func113 [(0,sv s)] fun X hX hr hD=>?_
 replace hR:=(O5.eq_1 ..).symm.trans hR
 refine sr 1 rfl (ip' 1 0 [] ?_)
 refine ie (A3 (sr 3 rfl (ip' 3 0 [(7,bv (decide ((510:Int)<(s.length:Int))))] ?_)))
 refine ie ?_
 refine zjd rfl hR ?_ ?_<;>clear hR<;>intro hR h1 h1p
 ·refine sr 1 rfl (ip' 1 0 [(2,bv false)] ?_)
  subst hR
  refine ie (A7 ?_)
  exact D5 hr hD
 refine A4 (nx (sr 3 rfl (ip' 1 2 [(8,sv s)] ?_)))
 have hQ:=G6 hR;clear hR;obtain ⟨y7,hy7,hR⟩:=hQ
 refine it rfl (H2 (L2:=[]) (B7v s (by first|omega|(simp only [List.length_append,List.length_cons,List.length_nil,List.length_take,List.length_drop,List.length_set];omega)) y7 hy7) rfl rfl rfl rfl rfl fn0 (List.Perm.refl _) (fun ⟨r2,hk3⟩=>((vo K8 3 r2 y7)++([]))) (fun _=>by first|rfl|simp only [List.append_nil,List.cons_append,List.nil_append,List.append_assoc])) fun ⟨r2,hk3⟩=>?_
 have:=VOk.le hk3
 have:=VOk.cap hk3
 have:=B5f s;try rw [hy7] at this
 refine ip' 1 0 [(3,.slice (va r2.q) y7.length r2.k)] ?_
 refine ie (A3 (sr 1 rfl (ip' 1 0 [(4,iv 0)] ?_)))
 refine ie (B0 ?_)
 refine B2k (fun (fu:Nat) (l:List Int) (lr:VR) (i:Nat)=>((l.length - i)<fu∧Z4 s fu l i=R∧VOk 1 l.length lr∧l.length≤10000,[(0,sv s),(3,.slice (va lr.q) l.length lr.k),(4,iv (i:Int))],((vo K8 3 lr l)++([])),[],fu)) ((y7.length - 0)+1) y7 r2 0 ⟨(Nat.lt_succ_self _),hR,hk3,(by omega)⟩ (mc [vo K8 3 r2 y7] [true] rfl (by first|rfl|(simp only [List.length_set]<;>rfl))) fn0 ?_
 rintro fu l lr i ⟨hm4,hR,hoklr,hll⟩
 have:=VOk.le hoklr
 obtain ⟨fu1,rfl⟩:∃ m,fu=m+1:=⟨fu - 1,by omega⟩
 replace hR:=(Z4.eq_2 ..).symm.trans hR
 refine A3 (sr 4 rfl (ip' 4 0 [(13,bv (decide ((i:Int)<(l.length:Int))))] ?_))
 refine ie ?_
 refine zjd rfl hR ?_ ?_<;>clear hR<;>intro hR h5 h5p
 ·refine A4 (nx (A3 (B0 (sr 19 rfl (ip' 2 17 [(16,.slice (va lr.q) l.length lr.k),(17,iv (i:Int))] ?_)))))
  obtain ⟨b6,hb7⟩:=VOk.some hoklr (by omega)
  obtain ⟨q8,k9,j10⟩:=lr
  obtain rfl:q8=some b6:=hb7
  refine ix rfl (S6 V7 rfl rfl rfl i rfl (by omega)) ?_
  refine ix rfl (V2 (u:=iv (l.getD i 0)) (c:=K8) (sz:=1) ty3 (fun _=>rfl) rfl rfl 0 rfl i 0 rfl (gd 0 (by omega)) rfl) ?_
  refine ip' 2 13 [(21,bv (decide ((l.getD i 0)<32)))] ?_
  refine zir 13 0 21 34 ((decide ((127:Int)≤(l.getD i 0)))&&(decide ((l.getD i 0)≤159))) (fun g11 g11p=>?_) ?_
  ·refine ip' 2 11 [(22,.slice (va (⟨some b6,k9,j10⟩:VR).q) l.length ((⟨some b6,k9,j10⟩:VR).k)),(23,iv (i:Int))] ?_
   refine ix rfl (S6 V7 rfl rfl rfl i rfl (by omega)) ?_
   refine ix rfl (V2 (u:=iv (l.getD i 0)) (c:=K8) (sz:=1) ty3 (fun _=>rfl) rfl rfl 0 rfl i 0 rfl (gd 0 (by omega)) rfl) ?_
   refine ip' 2 7 [(27,bv (decide ((127:Int)≤(l.getD i 0))))] ?_
   refine zid 6 1 27 33 (decide ((l.getD i 0)≤159)) (fun g12 g12p=>?_) ?_
   ·refine ip' 2 4 [(28,.slice (va (⟨some b6,k9,j10⟩:VR).q) l.length ((⟨some b6,k9,j10⟩:VR).k)),(29,iv (i:Int))] ?_
    refine ix rfl (S6 V7 rfl rfl rfl i rfl (by omega)) ?_
    refine ix rfl (V2 (u:=iv (l.getD i 0)) (c:=K8) (sz:=1) ty3 (fun _=>rfl) rfl rfl 0 rfl i 0 rfl (gd 0 (by omega)) rfl) ?_
    refine ip' 2 0 [(33,bv (decide ((l.getD i 0)≤159)))] ?_
    exact A1 (H1 6 27 33 g12 fn0 (mc [vo K8 3 (⟨some b6,k9,j10⟩:VR) l] [true] rfl (by first|rfl|(simp only [List.length_set]<;>rfl))) rfl rfl rfl rfl rfl)
   refine ip' 1 0 [(34,bv ((decide ((127:Int)≤(l.getD i 0)))&&(decide ((l.getD i 0)≤159))))] ?_
   exact A1 (H1 8 21 34 g11 fn0 (mc [vo K8 3 (⟨some b6,k9,j10⟩:VR) l] [true] rfl (by first|rfl|(simp only [List.length_set]<;>rfl))) rfl rfl rfl rfl rfl)
  refine ie ?_
  refine zjb rfl hR ?_ ?_<;>clear hR<;>intro hR h13
  ·have h13p:((l.getD i 0)<32)∨(((127:Int)≤(l.getD i 0))∧((l.getD i 0)≤159)):=by simpa using h13
   refine sr 1 rfl (ip' 1 0 [(2,bv false)] ?_)
   subst hR
   refine ie (A7 ?_)
   exact D5 hr hD
  have h13p:¬ (((l.getD i 0)<32)∨(((127:Int)≤(l.getD i 0))∧((l.getD i 0)≤159))):=by simpa using h13
  refine A4 (nx (A5 3 rfl (ip' 1 2 [(14,iv (i:Int))] ?_)))
  refine ix rfl (B4 rfl rfl rfl rfl (by omega)) ?_
  refine ip' 1 0 [(4,iv ((i:Int)+1))] ?_
  refine A1 ?_
  exact B1k (z1:=(fu1+1)) (z2:=l) (z3:=(⟨some b6,k9,j10⟩:VR)) (z4:=i) fu1 l (⟨some b6,k9,j10⟩:VR) (i+1) ⟨(by omega),hR,hoklr,(by omega)⟩ (Nat.lt_succ_self _) (mc [vo K8 3 (⟨some b6,k9,j10⟩:VR) l] [true] rfl (by first|rfl|(simp only [List.length_set]<;>rfl))) fn0
 refine G2 (nx (sr 5 rfl (ip' 1 4 [(35,.slice (va lr.q) l.length lr.k)] ?_)))
 have:=VOk.cap hoklr
 have:=VOk.le hoklr
 refine S1 [] [] (T:=3) (c:=K8) (r:=lr) (xs:=l) hoklr (by first|rfl|simp only [List.cons_append,List.append_assoc,List.nil_append,List.append_nil]) ?_
 have hQ:=G6 hR;clear hR;obtain ⟨y13,hy13,hR⟩:=hQ
 refine zca (C1w l (va lr.q) lr.k (by first|omega|(simp only [List.length_take,List.length_drop,List.length_append,List.length_cons,List.length_nil,List.length_set,List.length_map,C6];omega)|decide) (by first|omega|(simp only [List.length_take,List.length_drop,List.length_append,List.length_cons,List.length_nil,List.length_set,List.length_map,C6];omega)|decide) (by first|omega|(simp only [List.length_append,List.length_cons,List.length_nil,List.length_take,List.length_drop,List.length_set];omega)) y13 hy13) A2.refl ?_
 refine ip' 1 2 [(37,sv s)] ?_
 refine ix rfl (B6z rfl rfl rfl) ?_
 refine ip' 1 0 [(2,bv (decide (y13=s)))] ?_
 subst hR
 refine ie (A7 ?_)
 exact D5 hr hD
def A6o (an:Int) (am:Int) (acolor:Col) (atext:List UInt8):List UInt8×Int :=
 (bif ((decide ((⟨44,an,am,acolor,atext⟩:Act)={Act.zero with kind:=44,text:=atext}))&&(O5 atext)) then ((([50,59]:List UInt8)++atext),0) else (([]:List UInt8),2))
theorem B7z (an:Int) (am:Int) (acolor:Col) (atext:List UInt8) (R:List UInt8×Int) (hR:A6o an am acolor atext=R):I6 Tryz.prog 67 [ag (H0 (⟨44,an,am,acolor,atext⟩:Act))] [] (.tuple #[sv R.1,iv R.2]):=by
 refine zco Tryz.func67 [(0,ag (H0 (⟨44,an,am,acolor,atext⟩:Act)))] fun X hX hr hD=>?_
 replace hR:=(A6o.eq_1 ..).symm.trans hR
 refine sr 3 rfl (I7 3 0 [] (fun b1=>[(1,pt b1 0)]) (fun b1=>[bx b1 (H0 (⟨44,an,am,acolor,atext⟩:Act)) 81]) (fun b1=>?_))
 refine ie (A3 (B0 (sr 11 rfl (zrl 4 7 [0,0] [(9,ag (H0 (⟨44,an,am,acolor,atext⟩:Act))),(12,ag (H0 ({Act.zero with kind:=44,text:=atext})))] ?_))))
 refine ix rfl (A6t (a:=(⟨44,an,am,acolor,atext⟩:Act)) (b:={Act.zero with kind:=44,text:=atext}) C6j rfl rfl rfl) ?_
 refine ip' 1 5 [(14,bv (decide ((⟨44,an,am,acolor,atext⟩:Act)={Act.zero with kind:=44,text:=atext})))] ?_
 refine zid 4 1 14 18 (O5 atext) (fun g2 g2p=>?_) ?_
 ·refine zrl 2 2 [0] [(16,sv atext)] ?_
  refine zca (B7t atext _ rfl) fn0 ?_
  refine ip' 1 0 [(18,bv (O5 atext))] ?_
  exact A1 (H1 4 14 18 g2 fn0 (mk [true] rfl) rfl rfl rfl rfl rfl)
 refine ip' 1 0 [(8,bv ((decide ((⟨44,an,am,acolor,atext⟩:Act)={Act.zero with kind:=44,text:=atext}))&&(O5 atext)))] ?_
 refine ie ?_
 refine zjb rfl hR ?_ ?_<;>clear hR<;>intro hR h3
 ·have h3p:=h3;try simp only [Bool.and_eq_true,Bool.or_eq_true,Bool.and_eq_false_iff,Bool.or_eq_false_iff,Bool.not_eq_true',Bool.not_eq_false',decide_eq_true_eq,decide_eq_false_iff_not] at h3p
  have hti:=B7m atext (by have q:=h3;rw [Bool.and_eq_true] at q;exact q.2)
  refine sr 5 rfl (zrl 2 3 [0] [(20,sv atext)] ?_)
  refine ix rfl (zst rfl rfl rfl) ?_
  refine ip' 2 0 [(2,sv (([50,59]:List UInt8)++atext)),(3,iv 0)] ?_
  subst hR
  refine ie (A7 ?_)
  exact A7m hr hD
 have h3p:=h3;try simp only [Bool.and_eq_true,Bool.or_eq_true,Bool.and_eq_false_iff,Bool.or_eq_false_iff,Bool.not_eq_true',Bool.not_eq_false',decide_eq_true_eq,decide_eq_false_iff_not] at h3p
 refine sr 24 rfl (zrl 6 18 [0,0,0] [(23,ag (H0 (⟨44,an,am,acolor,atext⟩:Act))),(28,ag (H0 ({Act.zero with kind:=45,n:=an,color:=acolor})))] ?_)
 refine ix rfl (A6t (a:=(⟨44,an,am,acolor,atext⟩:Act)) (b:={Act.zero with kind:=45,n:=an,color:=acolor}) C6j rfl rfl rfl) ?_
 refine ip' 1 16 [(30,bv (decide ((⟨44,an,am,acolor,atext⟩:Act)={Act.zero with kind:=45,n:=an,color:=acolor})))] ?_
 refine zid 4 12 30 34 (decide ((0:Int)≤an)) (fun g4 g4p=>?_) ?_
 ·refine zrl 4 0 [0] [(34,bv (decide ((0:Int)≤an)))] ?_
  exact A1 (H1 2 30 34 g4 fn0 (mk [true] rfl) rfl rfl rfl rfl rfl)
 refine ip' 1 11 [(35,bv ((decide ((⟨44,an,am,acolor,atext⟩:Act)={Act.zero with kind:=45,n:=an,color:=acolor}))&&(decide ((0:Int)≤an))))] ?_
 refine zia 4 7 35 39 (decide (an≤255)) (fun g5=>?_) ?_
 ·have g5p:((⟨44,an,am,acolor,atext⟩:Act)={Act.zero with kind:=45,n:=an,color:=acolor})∧((0:Int)≤an):=by simpa using g5
  refine zrl 4 0 [0] [(39,bv (decide (an≤255)))] ?_
  exact A1 (H1 2 35 39 g5 fn0 (mk [true] rfl) rfl rfl rfl rfl rfl)
 refine ip' 1 6 [(40,bv (((decide ((⟨44,an,am,acolor,atext⟩:Act)={Act.zero with kind:=45,n:=an,color:=acolor}))&&(decide ((0:Int)≤an)))&&(decide (an≤255))))] ?_
 refine zia 5 1 40 45 (decide (acolor.kind=2)) (fun g6=>?_) ?_
 ·have g6p:(((⟨44,an,am,acolor,atext⟩:Act)={Act.zero with kind:=45,n:=an,color:=acolor})∧((0:Int)≤an))∧(an≤255):=by simpa using g6
  refine zrl 5 0 [0] [(45,bv (decide (acolor.kind=2)))] ?_
  exact A1 (H1 2 40 45 g6 fn0 (mk [true] rfl) rfl rfl rfl rfl rfl)
 refine ip' 1 0 [(22,bv ((((decide ((⟨44,an,am,acolor,atext⟩:Act)={Act.zero with kind:=45,n:=an,color:=acolor}))&&(decide ((0:Int)≤an)))&&(decide (an≤255)))&&(decide (acolor.kind=2))))] ?_
 refine ie (S2 rfl (fun h7=>?_) (fun h7=>?_))
 ·have h7p:((((⟨44,an,am,acolor,atext⟩:Act)={Act.zero with kind:=45,n:=an,color:=acolor})∧((0:Int)≤an))∧(an≤255))∧(acolor.kind=2):=by simpa using h7
  exfalso;simp [Act.zero] at h7
 have h7p:¬ (((((⟨44,an,am,acolor,atext⟩:Act)={Act.zero with kind:=45,n:=an,color:=acolor})∧((0:Int)≤an))∧(an≤255))∧(acolor.kind=2)):=by first|simpa using h7|(simp at h7 ⊢;omega)
 refine sr 12 rfl (zrl 4 8 [0,0] [(62,ag (H0 (⟨44,an,am,acolor,atext⟩:Act))),(65,ag (H0 ({Act.zero with kind:=46,text:=atext})))] ?_)
 refine ix rfl (A6t (a:=(⟨44,an,am,acolor,atext⟩:Act)) (b:={Act.zero with kind:=46,text:=atext}) C6j rfl rfl rfl) ?_
 refine ip' 1 6 [(67,bv (decide ((⟨44,an,am,acolor,atext⟩:Act)={Act.zero with kind:=46,text:=atext})))] ?_
 refine zid 5 1 67 72 (decide ((atext.length:Int)≤378)) (fun g8 g8p=>?_) ?_
 ·refine zrl 5 0 [0] [(72,bv (decide ((atext.length:Int)≤378)))] ?_
  exact A1 (H1 2 67 72 g8 fn0 (mk [true] rfl) rfl rfl rfl rfl rfl)
 refine ip' 1 0 [(61,bv ((decide ((⟨44,an,am,acolor,atext⟩:Act)={Act.zero with kind:=46,text:=atext}))&&(decide ((atext.length:Int)≤378))))] ?_
 refine ie (S2 rfl (fun h9=>?_) (fun h9=>?_))
 ·have h9p:((⟨44,an,am,acolor,atext⟩:Act)={Act.zero with kind:=46,text:=atext})∧((atext.length:Int)≤378):=by simpa using h9
  exfalso;simp [Act.zero] at h9
 have h9p:¬ (((⟨44,an,am,acolor,atext⟩:Act)={Act.zero with kind:=46,text:=atext})∧((atext.length:Int)≤378)):=by simpa using h9
 refine A4 (nx (sr 2 rfl (ip' 2 0 [(2,sv ([]:List UInt8)),(3,iv 2)] ?_)))
 subst hR
 refine ie (A7 ?_)
 exact A7m hr hD
def A2c (an:Int) (am:Int) (acolor:Col) (atext:List UInt8):Bool :=
 (F1 (A6o an am acolor atext) fun (y10:List UInt8×Int)=>(decide (y10.2=0)))
theorem B8h (an:Int) (am:Int) (acolor:Col) (atext:List UInt8) (R:Bool) (hR:A2c an am acolor atext=R):I6 Tryz.prog 33 [ag (H0 (⟨44,an,am,acolor,atext⟩:Act))] [] (bv R):=by
 refine zco Tryz.func33 [(0,ag (H0 (⟨44,an,am,acolor,atext⟩:Act)))] fun X hX hr hD=>?_
 replace hR:=(A2c.eq_1 ..).symm.trans hR
 refine sr 2 rfl (I7 2 0 [] (fun b1=>[(1,pt b1 0)]) (fun b1=>[bx b1 (H0 (⟨44,an,am,acolor,atext⟩:Act)) 81]) (fun b1=>?_))
 refine ie (A3 (sr 2 rfl (zrl 2 0 [0] [(6,iv 44)] ?_)))
 refine ie (B0 (sr 2 rfl (ip' 2 0 [(7,bv false)] ?_)))
 refine ie (A0m rfl (A3 (sr 2 rfl (ip' 2 0 [(12,bv true)] ?_))))
 refine ie (H8 rfl (A4 (nx (H8 rfl (sr 7 rfl (zrl 1 6 [0] [(17,ag (H0 (⟨44,an,am,acolor,atext⟩:Act)))] ?_))))))
 have hQ:=G6 hR;clear hR;obtain ⟨y10,hy10,hR⟩:=hQ
 refine zca (B7z an am acolor atext y10 hy10) fn0 ?_
 refine ip' 5 0 [(4,iv y10.2)] ?_
 refine ie (sr 3 rfl (ip' 3 0 [(2,bv (decide (y10.2=0)))] ?_))
 subst hR
 refine ie (A7 ?_)
 exact D5 hr hD
def M8 (b:List Cel):List Cel→Nat→Bool
 | [],i=>true
 | hd_l0::tl_l0,i=>(bif (!(decide (hd_l0=(b.getD i Cel.zero)))) then false else M8 b tl_l0 (i+1))
def X1 (a:List Cel) (b:List Cel):Bool :=
 (bif (!decide ((a.length:Int)=(b.length:Int))) then false else M8 b a 0)
theorem B2d (a:List Cel) (b:List Cel) (aq:Option Addr) (ak:Nat) (bq:Option Addr) (bk:Nat) (hla:a.length≤9223372036854775807) (hca:a.length≤ak) (hlb:b.length≤9223372036854775807) (hcb:b.length≤bk) (R:Bool) (hR:X1 a b=R):I6 Tryz.prog 38 [.slice aq a.length ak,.slice bq b.length bk] [sl B2 aq a,sl B2 bq b] (bv R):=by
 refine zco Tryz.func38 [(0,.slice aq a.length ak),(1,.slice bq b.length bk)] fun X hX hr hD=>?_
 replace hR:=(X1.eq_1 ..).symm.trans hR
 refine sr 1 rfl (ip' 1 0 [] ?_)
 refine ie (A3 (sr 5 rfl (ip' 5 0 [(10,bv (!decide ((a.length:Int)=(b.length:Int))))] ?_)))
 refine ie ?_
 refine zjn rfl hR ?_ ?_<;>clear hR<;>intro hR h1 h1p
 ·refine sr 1 rfl (ip' 1 0 [(4,bv false)] ?_)
  subst hR
  refine ie (A7 ?_)
  exact D5 hr hD
 refine A4 (nx (A3 (sr 1 rfl (ip' 1 0 [(5,iv 0)] ?_))))
 refine ie (B0 (B3w (fun (i:Nat)=>(i≤a.length∧M8 b (a.drop i) i=R,[(0,.slice aq a.length ak),(1,.slice bq b.length bk),(5,iv (i:Int))],[],[sl B2 aq a,sl B2 bq b],a.length - i)) 0 ⟨(by omega),hR⟩ (mk [] rfl) A2.refl ?_))
 rintro i ⟨hm2,hR⟩
 refine A3 (sr 4 rfl (ip' 4 0 [(14,bv (decide ((i:Int)<(a.length:Int))))] ?_))
 refine ie (S2 rfl (fun h3=>?_) (fun h3=>?_))
 ·have h3p:(i:Int)<(a.length:Int):=by simpa using h3
  rw [U1 Cel.zero (show i<a.length by omega)] at hR;replace hR:=(M8.eq_2 ..).symm.trans hR
  refine A4 (nx (A3 (B0 (sd 9 rfl (by kernel_rfl) rfl ?_))))
  refine dp' 2 7 [(17,.slice aq a.length ak),(18,iv (i:Int))] ?_
  refine A4a 0 rfl (by omega) fun a4 hq5=>?_
  refine dd rfl (E8 S9 rfl rfl hq5 rfl i rfl (by omega)) ?_
  refine dd rfl (L4 (us:=B2 (a.getD i Cel.zero)) B8o rfl rfl (G0 (c:=B2) (sz:=12) hq5 (fun _=>rfl) 0 rfl (gd Cel.zero (by omega))) rfl) ?_
  refine dp' 2 3 [(21,.slice bq b.length bk),(22,iv (i:Int))] ?_
  refine A4a 1 rfl (by omega) fun a6 hq7=>?_
  refine dd rfl (E8 S9 rfl rfl hq7 rfl i rfl (by omega)) ?_
  refine dd rfl (L4 (us:=B2 (b.getD i Cel.zero)) B8o rfl rfl (G0 (c:=B2) (sz:=12) hq7 (fun _=>rfl) 1 rfl (gd Cel.zero (by omega))) rfl) ?_
  refine dd rfl (A5i (a:=(a.getD i Cel.zero)) (b:=(b.getD i Cel.zero)) C9f rfl rfl rfl) ?_
  refine de ?_
  refine zjn rfl hR ?_ ?_<;>clear hR<;>intro hR h8 h8p
  ·refine sr 1 rfl (ip' 1 0 [(4,bv false)] ?_)
   subst hR
   refine ie (A7 ?_)
   exact D5 hr hD
  refine A4 (nx (A5 3 rfl (ip' 1 2 [(15,iv (i:Int))] ?_)))
  refine ix rfl (B4 rfl rfl rfl rfl (by omega)) ?_
  refine ip' 1 0 [(5,iv ((i:Int)+1))] ?_
  refine A1 ?_
  exact B4g (z1:=i) (i+1) ⟨(by omega),hR⟩ (by (try dsimp only);omega) (mk [] rfl) A2.refl
 have h3p:¬ ((i:Int)<(a.length:Int)):=by simpa using h3
 rw [U2 h3p] at hR;replace hR:=(M8.eq_1 ..).symm.trans hR
 refine G2 (nx (sr 1 rfl (ip' 1 0 [(4,bv true)] ?_)))
 subst hR
 refine ie (A7 ?_)
 exact D5 hr hD
def R0 (bR:List (List Cel)):List (List Cel)→Nat→Bool
 | [],i=>true
 | hd_l0::tl_l0,i=>(bif (!(X1 hd_l0 (bR.getD i []))) then false else R0 bR tl_l0 (i+1))
def A1z (a:FrmC) (aR:List (List Cel)) (b:FrmC) (bR:List (List Cel)):Bool :=
 (bif ((((((!decide (a.cols=b.cols))||(!decide ((aR.length:Int)=(bR.length:Int))))||(!(decide (a.cursor=b.cursor))))||(!(a.visible == b.visible)))||(!decide (a.shape=b.shape)))||(!(decide (a.title=b.title)))) then false else R0 bR aR 0)
theorem C0z (a:FrmC) (aR:List (List Cel)) (b:FrmC) (bR:List (List Cel)) (aQ:Option Addr) (aZ:List Slc) (aK:Nat) (bQ:Option Addr) (bZ:List Slc) (bK:Nat) (hrowsaRowsrs:C7 aZ aR) (hlaRows:aR.length≤9223372036854775807) (hcaRows:aR.length≤aK) (hrowsbRowsrs:C7 bZ bR) (hlbRows:bR.length≤9223372036854775807) (hcbRows:bR.length≤bK) (R:Bool) (hR:A1z a aR b bR=R):I6 Tryz.prog 16 [ag (A0 a ⟨aQ,aR.length,aK⟩),ag (A0 b ⟨bQ,bR.length,bK⟩)] [sl C4 aQ aZ,G5 B2 aZ aR,sl C4 bQ bZ,G5 B2 bZ bR] (bv R):=by
 refine zco Tryz.func16 [(0,ag (A0 a ⟨aQ,aR.length,aK⟩)),(1,ag (A0 b ⟨bQ,bR.length,bK⟩))] fun X hX hr hD=>?_
 replace hR:=(A1z.eq_1 ..).symm.trans hR
 have:=hrowsaRowsrs.1
 have:=hrowsbRowsrs.1
 refine sr 3 rfl (A8y 3 0 [] (fun b1 b2=>[(2,pt b1 0),(3,pt b2 0)]) (fun b1 b2=>[bx b2 (A0 b ⟨bQ,bR.length,bK⟩) 26,bx b1 (A0 a ⟨aQ,aR.length,aK⟩) 26]) (fun b1 b2=>?_))
 refine ie (A3 (sr 42 rfl (zrl 6 36 [1,0] [(11,bv (!decide (a.cols=b.cols)))] ?_)))
 refine zio 8 28 11 19 (!decide ((aR.length:Int)=(bR.length:Int))) (fun g3=>?_) ?_
 ·have g3p:¬ (¬ a.cols=b.cols):=by simpa using g3
  refine zrl 8 0 [1,0] [(19,bv (!decide ((aR.length:Int)=(bR.length:Int))))] ?_
  exact zai 2 11 19 g3
 refine ip' 1 27 [(20,bv ((!decide (a.cols=b.cols))||(!decide ((aR.length:Int)=(bR.length:Int)))))] ?_
 refine zio 6 21 20 26 (!(decide (a.cursor=b.cursor))) (fun g4=>?_) ?_
 ·have g4p:¬ ((¬ a.cols=b.cols)∨(¬ (aR.length:Int)=(bR.length:Int))):=by simpa using g4
  refine zrl 4 2 [1,0] [(22,ag (L7 a.cursor)),(24,ag (L7 b.cursor))] ?_
  refine ix rfl (A5i (a:=a.cursor) (b:=b.cursor) D2h rfl rfl rfl) ?_
  refine ip' 1 0 [(26,bv (!(decide (a.cursor=b.cursor))))] ?_
  exact zai 5 20 26 g4
 refine ip' 1 20 [(27,bv (((!decide (a.cols=b.cols))||(!decide ((aR.length:Int)=(bR.length:Int))))||(!(decide (a.cursor=b.cursor)))))] ?_
 refine zio 6 14 27 33 (!(a.visible == b.visible)) (fun g5=>?_) ?_
 ·have g5p:¬ (((¬ a.cols=b.cols)∨(¬ (aR.length:Int)=(bR.length:Int)))∨(¬ a.cursor=b.cursor)):=by simpa using g5
  refine zrl 4 2 [1,0] [(29,bv a.visible),(31,bv b.visible)] ?_
  refine ix rfl (C0o Tryz.underlying4 rfl rfl rfl) ?_
  refine ip' 1 0 [(33,bv (!(a.visible == b.visible)))] ?_
  exact zai 5 27 33 g5
 refine ip' 1 13 [(34,bv ((((!decide (a.cols=b.cols))||(!decide ((aR.length:Int)=(bR.length:Int))))||(!(decide (a.cursor=b.cursor))))||(!(a.visible == b.visible))))] ?_
 refine zio 6 7 34 40 (!decide (a.shape=b.shape)) (fun g6=>?_) ?_
 ·have g6p:=g6;try simp only [Bool.and_eq_true,Bool.or_eq_true,Bool.and_eq_false_iff,Bool.or_eq_false_iff,Bool.not_eq_true',Bool.not_eq_false',decide_eq_true_eq,decide_eq_false_iff_not] at g6p
  refine zrl 6 0 [1,0] [(40,bv (!decide (a.shape=b.shape)))] ?_
  exact zai 2 34 40 g6
 refine ip' 1 6 [(41,bv (((((!decide (a.cols=b.cols))||(!decide ((aR.length:Int)=(bR.length:Int))))||(!(decide (a.cursor=b.cursor))))||(!(a.visible == b.visible)))||(!decide (a.shape=b.shape))))] ?_
 refine zio 6 0 41 47 (!(decide (a.title=b.title))) (fun g7=>?_) ?_
 ·have g7p:=g7;try simp only [Bool.and_eq_true,Bool.or_eq_true,Bool.and_eq_false_iff,Bool.or_eq_false_iff,Bool.not_eq_true',Bool.not_eq_false',decide_eq_true_eq,decide_eq_false_iff_not] at g7p
  refine zrl 4 2 [1,0] [(43,sv a.title),(45,sv b.title)] ?_
  refine ix rfl (B2z rfl rfl rfl) ?_
  refine ip' 1 0 [(47,bv (!(decide (a.title=b.title))))] ?_
  exact zai 5 41 47 g7
 refine ie ?_
 refine zjb rfl hR ?_ ?_<;>clear hR<;>intro hR h8
 ·have h8p:=h8;try simp only [Bool.and_eq_true,Bool.or_eq_true,Bool.and_eq_false_iff,Bool.or_eq_false_iff,Bool.not_eq_true',Bool.not_eq_false',decide_eq_true_eq,decide_eq_false_iff_not] at h8p
  refine sr 1 rfl (ip' 1 0 [(4,bv false)] ?_)
  subst hR
  refine ie (A7 ?_)
  exact D5 hr hD
 have h8p:=h8;try simp only [Bool.and_eq_true,Bool.or_eq_true,Bool.and_eq_false_iff,Bool.or_eq_false_iff,Bool.not_eq_true',Bool.not_eq_false',decide_eq_true_eq,decide_eq_false_iff_not] at h8p
 refine A4 (nx (A3 (sr 1 rfl (ip' 1 0 [(5,iv 0)] ?_))))
 refine ie (B0 (B3w (fun (i:Nat)=>(i≤aR.length∧R0 bR (aR.drop i) i=R,[(2,pt b1 0),(3,pt b2 0),(5,iv (i:Int))],[bx b2 (A0 b ⟨bQ,bR.length,bK⟩) 26,bx b1 (A0 a ⟨aQ,aR.length,aK⟩) 26],[sl C4 aQ aZ,G5 B2 aZ aR,sl C4 bQ bZ,G5 B2 bZ bR],aR.length - i)) 0 ⟨(by omega),hR⟩ (mk [true,true] rfl) A2.refl ?_))
 rintro i ⟨hm9,hR⟩
 refine A3 (sr 5 rfl (zrl 5 0 [1] [(52,bv (decide ((i:Int)<(aR.length:Int))))] ?_))
 refine ie (S2 rfl (fun h10=>?_) (fun h10=>?_))
 ·have h10p:(i:Int)<(aR.length:Int):=by simpa using h10
  rw [U1 [] (show i<aR.length by omega)] at hR;replace hR:=(R0.eq_2 ..).symm.trans hR
  refine A4 (nx (A3 (B0 (sd 12 rfl (by kernel_rfl) rfl ?_))))
  refine zdg 3 9 [1] [(56,.slice aQ aR.length aK),(57,iv (i:Int))] ?_
  refine A4a 0 rfl (by have:=hrowsaRowsrs.1;omega) fun a11 hq12=>?_
  refine A4g (P9 (k:=i) (d:=(⟨none,0,0⟩:Slc)) hrowsaRowsrs 1 rfl (by have:=hrowsaRowsrs.1;omega)) ?_
  have:=P8 hrowsaRowsrs (k:=i) (d:=(⟨none,0,0⟩:Slc)) (by have:=hrowsaRowsrs.1;omega)
  refine dd rfl (E8 A0k rfl rfl hq12 rfl i rfl (by omega)) ?_
  refine dd rfl (F9 (C8 (v:=.slice ((aZ.getD i (⟨none,0,0⟩:Slc)).q) ((aZ.getD i (⟨none,0,0⟩:Slc)).n) ((aZ.getD i (⟨none,0,0⟩:Slc)).k)) (us:=[.slice ((aZ.getD i (⟨none,0,0⟩:Slc)).q) ((aZ.getD i (⟨none,0,0⟩:Slc)).n) ((aZ.getD i (⟨none,0,0⟩:Slc)).k)]) A3e rfl rfl (G0 (c:=C4) (sz:=1) hq12 (fun _=>rfl) 1 rfl (gd (⟨none,0,0⟩:Slc) (by have:=hrowsaRowsrs.1;omega))) rfl) (Q7 hrowsaRowsrs (by have:=hrowsaRowsrs.1;omega))) ?_
  refine zdg 3 4 [0] [(61,.slice bQ bR.length bK),(62,iv (i:Int))] ?_
  refine A4a 3 rfl (by have:=hrowsbRowsrs.1;omega) fun a13 hq14=>?_
  refine A4g (P9 (k:=i) (d:=(⟨none,0,0⟩:Slc)) hrowsbRowsrs 4 rfl (by have:=hrowsbRowsrs.1;omega)) ?_
  have:=P8 hrowsbRowsrs (k:=i) (d:=(⟨none,0,0⟩:Slc)) (by have:=hrowsbRowsrs.1;omega)
  refine dd rfl (E8 A0k rfl rfl hq14 rfl i rfl (by omega)) ?_
  refine dd rfl (F9 (C8 (v:=.slice ((bZ.getD i (⟨none,0,0⟩:Slc)).q) ((bZ.getD i (⟨none,0,0⟩:Slc)).n) ((bZ.getD i (⟨none,0,0⟩:Slc)).k)) (us:=[.slice ((bZ.getD i (⟨none,0,0⟩:Slc)).q) ((bZ.getD i (⟨none,0,0⟩:Slc)).n) ((bZ.getD i (⟨none,0,0⟩:Slc)).k)]) A3e rfl rfl (G0 (c:=C4) (sz:=1) hq14 (fun _=>rfl) 4 rfl (gd (⟨none,0,0⟩:Slc) (by have:=hrowsbRowsrs.1;omega))) rfl) (Q7 hrowsbRowsrs (by have:=hrowsbRowsrs.1;omega))) ?_
  refine zcd (B2d (aR.getD i []) (bR.getD i []) ((aZ.getD i (⟨none,0,0⟩:Slc)).q) ((aZ.getD i (⟨none,0,0⟩:Slc)).k) ((bZ.getD i (⟨none,0,0⟩:Slc)).q) ((bZ.getD i (⟨none,0,0⟩:Slc)).k) (by first|omega|(simp only [List.length_take,List.length_drop,List.length_append,List.length_cons,List.length_nil,List.length_set,List.length_map,C6];omega)|decide) (by first|omega|(simp only [List.length_take,List.length_drop,List.length_append,List.length_cons,List.length_nil,List.length_set,List.length_map,C6];omega)|decide) (by first|omega|(simp only [List.length_take,List.length_drop,List.length_append,List.length_cons,List.length_nil,List.length_set,List.length_map,C6];omega)|decide) (by first|omega|(simp only [List.length_take,List.length_drop,List.length_append,List.length_cons,List.length_nil,List.length_set,List.length_map,C6];omega)|decide) _ rfl) (A2.pick [1,0] rfl) ?_
  refine dp' 1 0 [(66,bv (!(X1 (aR.getD i []) (bR.getD i []))))] ?_
  refine de ?_
  refine zjb rfl hR ?_ ?_<;>clear hR<;>intro hR h15
  ·refine sr 1 rfl (ip' 1 0 [(4,bv false)] ?_)
   subst hR
   refine ie (A7 ?_)
   exact D5 hr hD
  refine A4 (nx (A5 3 rfl (ip' 1 2 [(53,iv (i:Int))] ?_)))
  refine ix rfl (B4 rfl rfl rfl rfl (by omega)) ?_
  refine ip' 1 0 [(5,iv ((i:Int)+1))] ?_
  refine A1 ?_
  exact B4g (z1:=i) (i+1) ⟨(by omega),hR⟩ (by (try dsimp only);omega) (mk [true,true] rfl) (A2.pick [2,3,4,5] rfl)
 have h10p:¬ ((i:Int)<(aR.length:Int)):=by simpa using h10
 rw [U2 h10p] at hR;replace hR:=(R0.eq_1 ..).symm.trans hR
 refine G2 (nx (sr 1 rfl (ip' 1 0 [(4,bv true)] ?_)))
 subst hR
 refine ie (A7 ?_)
 exact D5 hr hD
end Go.Proofs.YthcjfkljekdioaaGreatDoor
