import Derived.Test.YtmldjljkeigpnaaGreatDoorProg
import Derived.Test.YtmldjljkeigpnaaGreatDoorMA2
import Derived.Test.YtmldjljkeigpnaaGreatDoorMB1
import Derived.Test.YtmldjljkeigpnaaGreatDoorMA3
import Derived.Test.YtmldjljkeigpnaaGreatDoorMB2
import Derived.Test.YtmldjljkeigpnaaGreatDoorMB3
import Derived.Test.YtmldjljkeigpnaaGreatDoorMQ1
import Derived.Test.YtmldjljkeigpnaaGreatDoorMQ2
import Derived.Test.YtmldjljkeigpnaaGreatDoorMQ3
import Derived.Test.YtmldjljkeigpnaaGreatDoorMQ4
set_option linter.unusedVariables false
set_option linter.unusedSimpArgs false
set_option linter.unnecessarySimpa false
set_option maxRecDepth 100000
namespace Go.Proofs.YtmldjljkeigpnaaGreatDoor
open Go Go.Fen
section
variable {R:Bool} {aRowsk:Nat} {aY:Option Addr} {bA:Nat} {bC:Bool} {bRowsk:Nat} {e:Option Addr} {from_:Int} {g h:Option Addr} {i:Nat} {last:Bool} {lk:Nat} {lq:Option Addr} {m n:Int} {p pending:List UInt8} {pendingk:Nat} {pendingq:Option Addr} {pk:Nat} {q:Int} {s:List UInt8} {to_:Int}
theorem F4x:ApTy Tryz.prog 99 74 10 96:=⟨by simp,by kernel_rfl,rfl⟩
theorem C9t:SlTy Tryz.prog 99 74 10:=⟨by simp,by kernel_rfl⟩
theorem F7n:Ty Tryz.prog 74 10 true:=⟨by kernel_rfl⟩
theorem F6n:Zero Tryz.prog 74 (N4 ZW ⟨none,0,0⟩):=⟨by kernel_rfl⟩
def B2g (s:Sty):Int :=
 (bif ((((decide (s.attr<0))||(decide ((255:Int)<s.attr)))||(decide (s.under<0)))||(decide ((5:Int)<s.under))) then 140 else (bif (!decide ((U6 s.fore)=0)) then (U6 s.fore) else (bif (!decide ((U6 s.back)=0)) then (U6 s.back) else (bif (!decide ((U6 s.line)=0)) then (U6 s.line) else 0))))
theorem D9n {s:Sty} {R:Int} (hR:B2g s=R):J7 Tryz.prog 125 [ag (B7 s)] [] (iv R):=by
 refine cD Tryz.func125 fun X hX hr hD=>?_
 replace hR:=V (B2g.eq_1 ..) hR
 refine bS Z (cI 2 [] (fun e=>[(1,pt e 0)]) (fun _=>(B7 s)) 63 fun e=>?_)
 refine ie (A3 (bS Z (cB 4 [0] 9 Z ?_)))
 refine zir 4 10 9 13 (decide (255<s.attr)) (fun o k=>?_) ?_
 ·refine cB 4 [0] 13 Z ?_
  exact A1 (I1 2 9 _ o A7.nil bU Z Z Z Z Z)
 refine bP 1 14 Z ?_
 refine zio 4 5 14 18 (decide (s.under<0)) (fun j=>?_) ?_
 ·have q:=bV j
  refine cB 4 [0] 18 Z ?_
  exact A1 (I1 2 14 _ j A7.nil bU Z Z Z Z Z)
 refine bP 1 19 Z ?_
 refine zio 4 0 19 23 (decide (5<s.under)) (fun d=>?_) ?_
 ·have l:=bV d
  refine cB 4 [0] 23 Z ?_
  exact A1 (I1 2 19 _ d A7.nil bU Z Z Z Z Z)
 refine ie ?_
 refine zjb Z hR ?_ ?_<;>intro hR h
 ·have b:=bV h
  refine bS Z (bP 1 2 Z ?_)
  subst hR
  refine ie (A8 ?_)
  exact F7 hr hD
 refine A4 (nx (A3 (bS Z (bY 8 0 [0,0,0] [(30,ag [iv s.fore.kind,iv s.fore.n,iv s.back.kind,iv s.back.n,iv s.line.kind,iv s.line.n]),(31,iv 0)] ?_))))
 refine ie (A9 (A1g 5 (E9 (bS Z (bP 1 32 Z (ie (A3 (K1 Z (A4 (nx (A3 (A9 (bS Z (ix Z (F3 (v:=ag [_,_]) Tryz.underlying255 C4m Z Z Z 0 Z ozw Z Z Z) ?_))))))))))))))
 refine cI 2 [0] (fun g=>[(4,pt g 0)]) (fun _=>(R1 s.fore)) 49 fun g=>?_
 refine ie (bS Z (bY 1 2 [0] [(34,ag (R1 s.fore))] ?_))
 refine zv Z (B4t Z) ?_
 refine bP 1 5 Z (ie (bS Z (bP 2 37 Z (ie ?_))))
 refine zjn Z hR ?_ ?_<;>intro hR u m
 ·refine bS Z (bP 2 2 Z ?_)
  subst hR
  refine ie (A8 ?_)
  exact F7 hr hD
 refine A4 (nx (A0 2 Z (ix Z (B1 (c:=1) Z Z Z Z ozw) (bP 1 31 Z (A1 (E9 (bS Z (bP 1 32 Z (ie (A3 (K1 Z (A4 (nx (A3 (A9 (bS Z (ix Z (F3 (v:=ag [_,_]) Tryz.underlying255 C4m Z Z Z 1 Z ozw Z Z Z) ?_)))))))))))))))))
 refine cI 2 [0] (fun i=>[(4,pt i 0)]) (fun _=>(R1 s.back)) 49 fun i=>?_
 refine ie (bS Z (bY 1 2 [0] [(34,ag (R1 s.back))] ?_))
 refine zv Z (B4t Z) ?_
 refine bP 1 5 Z (ie (bS Z (bP 2 37 Z (ie ?_))))
 refine zjn Z hR ?_ ?_<;>intro hR t p
 ·refine bS Z (bP 2 2 Z ?_)
  subst hR
  refine ie (A8 ?_)
  exact F7 hr hD
 refine A4 (nx (A0 2 Z (ix Z (B1 (c:=2) Z Z Z Z ozw) (bP 1 31 Z (A1 (E9 (bS Z (bP 1 32 Z (ie (A3 (K1 Z (A4 (nx (A3 (A9 (bS Z (ix Z (F3 (v:=ag [_,_]) Tryz.underlying255 C4m Z Z Z 2 Z ozw Z Z Z) ?_)))))))))))))))))
 refine cI 2 [0] (fun a=>[(4,pt a 0)]) (fun _=>(R1 s.line)) 49 fun a=>?_
 refine ie (bS Z (bY 1 2 [0] [(34,ag (R1 s.line))] ?_))
 refine zv Z (B4t Z) ?_
 refine bP 1 5 Z (ie (bS Z (bP 2 37 Z (ie ?_))))
 refine zjn Z hR ?_ ?_<;>intro hR r f
 ·refine bS Z (bP 2 2 Z ?_)
  subst hR
  refine ie (A8 ?_)
  exact F7 hr hD
 refine A4 (nx (A0 2 Z (ix Z (B1 (c:=3) Z Z Z Z ozw) (bP 1 31 Z (A1 (E9 (bS Z (bP 1 32 Z (ie (A3 (A5t Z (F1 (nx (bS Z (bP 1 2 Z ?_)))))))))))))))
 subst hR
 refine ie (A8 ?_)
 exact F7 hr hD
def A5u (c:Cel):Bool :=
 (((decide (c.base=0))&&(decide (c.marks=Ar2.zero)))&&(decide (c.wide=2)))
theorem D4z {c:Cel} (hR:A5u c=R):J7 Tryz.prog 126 [ag (D0 c)] [] (bv R):=by
 refine cD Tryz.func126 fun X hX hr hD=>?_
 replace hR:=V (A5u.eq_1 ..) hR
 refine bS Z (cI 2 [] (fun d=>[(1,pt d 0)]) (fun _=>(D0 c)) 71 fun d=>?_)
 refine ie (bS Z (cB 4 [0] 6 Z (zid 5 6 6 11 (decide (c.marks=Ar2.zero)) (fun f h=>?_) ?_)))
 ·refine bY 3 2 [0] [(8,ag (A3a c.marks)),(9,ag (A3a Ar2.zero))] ?_
  exact ix Z (A3m G0f Z Z Z) (bP 1 11 Z (A1 (I1 5 6 _ f A7.nil bU Z Z Z Z Z)))
 refine bP 1 12 Z (zia 4 1 12 16 (decide (c.wide=2)) (fun e=>?_) ?_)
 ·have g:=bV e
  exact cB 4 [0] 16 Z (A1 (I1 2 12 _ e A7.nil bU Z Z Z Z Z))
 refine bP 1 2 Z ?_
 subst hR
 exact ie (A8 (F7 hr hD))
def A0w (c:Cel):Int :=
 (bif (!decide ((B2g c.sty)=0)) then 221 else (bif (A5u c) then 0 else (bif ((!decide (c.marks.a=0))&&((!decide ((P7 c.marks.a)=0))||false)) then 221 else (bif ((!decide (c.marks.b=0))&&((!decide ((P7 c.marks.b)=0))||(decide (c.marks.a=0)))) then 221 else (bif (((decide ((P7 c.base)=1))&&(decide (c.wide=0)))||((decide ((P7 c.base)=2))&&(decide (c.wide=1)))) then 0 else 221)))))
theorem C8v {c:Cel} {R:Int} (hR:A0w c=R):J7 Tryz.prog 86 [ag (D0 c)] [] (iv R):=by
 refine cD Tryz.func86 fun X hX hr hD=>?_
 replace hR:=V (A0w.eq_1 ..) hR
 refine bS Z (cI 2 [] (fun l=>[(1,pt l 0)]) (fun _=>(D0 c)) 71 fun l=>?_)
 refine ie (A3 (bS Z (bY 2 2 [0] [(6,ag (B7 c.sty))] ?_)))
 refine zv Z (D9n Z) ?_
 refine bP 1 8 Z (ie ?_)
 refine zjn Z hR ?_ ?_<;>intro hR z x
 ·refine bS Z (bP 1 2 Z ?_)
  subst hR
  refine ie (A8 ?_)
  exact F7 hr hD
 refine A4 (nx (A3 (bS Z (bY 1 1 [0] [(9,ag (D0 c))] ?_))))
 refine zv Z (D4z Z) ?_
 refine ie ?_
 refine zjb Z hR ?_ ?_<;>intro hR h3
 ·refine bS Z (bP 1 2 Z ?_)
  subst hR
  refine ie (A8 ?_)
  exact F7 hr hD
 refine A4 (nx (A3 (bS Z (bP 1 3 Z (ie (A9 (A1g 3 (E9 (A3 (bS Z (bP 2 12 Z (ie (K1 Z (A4 (nx (A3 (A9 (bS Z (cF 2 15 16 Z (ix Z (A2w Tryz.underlying69 cE Z Z Z 0 Z Z) (cB 3 [0] 20 Z ?_)))))))))))))))))))))
 refine zia 19 0 20 39 ((!decide ((P7 c.marks.a)=0))||false) (fun k=>?_) ?_
 ·have v:=bV k
  refine cF 2 21 22 Z (ix Z (A2w Tryz.underlying69 cE Z Z Z 0 Z Z) (cB 1 [0] 24 Z ?_))
  refine zv Z (C2c Z) ?_
  refine bP 2 27 Z ?_
  refine zio _ 1 27 38 false (fun o=>?_) ?_
  ·have y:=bV o
   refine bP 11 38 Z ?_
   exact A1 (I1 2 27 _ o A7.nil bU Z Z Z Z Z)
  refine bP 1 39 Z ?_
  exact A1 (I1 9 20 _ k A7.nil bU Z Z Z Z Z)
 refine ie ?_
 refine zjb Z hR ?_ ?_<;>intro hR n
 ·have g:=bV n
  refine bS Z (bP 1 2 Z ?_)
  subst hR
  refine ie (A8 ?_)
  exact F7 hr hD
 refine A4 (nx (A0 3 Z (bP 1 13 Z (ix Z (B1 (c:=1) Z Z Z Z ozw) (bP 1 3 Z (A1 (E9 (A3 (bS Z (bP 2 12 Z (ie (K1 Z (A4 (nx (A3 (A9 (bS Z (cF 2 15 16 Z (ix Z (A2w Tryz.underlying69 cE Z Z Z 1 Z Z) (cB 3 [0] 20 Z ?_))))))))))))))))))))
 refine zia 19 0 20 39 ((!decide ((P7 c.marks.b)=0))||(decide (c.marks.a=0))) (fun s=>?_) ?_
 ·have u:=bV s
  refine cF 2 21 22 Z (ix Z (A2w Tryz.underlying69 cE Z Z Z 1 Z Z) (cB 1 [0] 24 Z ?_))
  refine zv Z (C2c Z) ?_
  refine bP 2 27 Z ?_
  refine zio _ 1 27 38 (decide (c.marks.a=0)) (fun t=>?_) ?_
  ·have w:=bV t
   refine cF 4 30 31 Z (ix Z (L8 (c:=0) Z Z Z Z ozw) (bP 1 33 Z (ix Z (A2w Tryz.underlying69 cE Z Z Z 0 Z Z) (cB 4 [0] 38 Z ?_))))
   exact A1 (I1 7 27 _ t A7.nil bU Z Z Z Z Z)
  refine bP 1 39 Z ?_
  exact A1 (I1 9 20 _ s A7.nil bU Z Z Z Z Z)
 refine ie ?_
 refine zjb Z hR ?_ ?_<;>intro hR p
 ·have i:=bV p
  refine bS Z (bP 1 2 Z ?_)
  subst hR
  refine ie (A8 ?_)
  exact F7 hr hD
 refine A4 (nx (A0 3 Z (bP 1 13 Z (ix Z (B1 (c:=2) Z Z Z Z ozw) (bP 1 3 Z (A1 (E9 (A3 (bS Z (bP 2 12 Z (ie (A5t Z (F1 (nx (bS Z (cB 2 [0] 41 Z ?_))))))))))))))))
 refine zv Z (C2c Z) ?_
 refine bP 1 4 Z (ie (A3 (bS Z (bP 3 45 Z ?_))))
 refine zid 4 9 45 49 (decide (c.wide=0)) (fun j q=>?_) ?_
 ·refine cB 4 [0] 49 Z ?_
  exact A1 (I1 2 45 _ j A7.nil bU Z Z Z Z Z)
 refine bP 1 50 Z ?_
 refine zio 8 0 50 58 ((decide ((P7 c.base)=2))&&(decide (c.wide=1))) (fun f=>?_) ?_
 ·have m:=bV f
  refine bP 3 53 Z ?_
  refine zid 4 1 53 57 (decide (c.wide=1)) (fun h r=>?_) ?_
  ·refine cB 4 [0] 57 Z ?_
   exact A1 (I1 2 53 _ h A7.nil bU Z Z Z Z Z)
  refine bP 1 58 Z ?_
  exact A1 (I1 4 50 _ f A7.nil bU Z Z Z Z Z)
 refine ie ?_
 refine zjb Z hR ?_ ?_<;>intro hR d
 ·have e:=bV d
  refine bS Z (bP 1 2 Z ?_)
  subst hR
  refine ie (A8 ?_)
  exact F7 hr hD
 refine A4 (nx (bS Z (bP 1 2 Z ?_)))
 subst hR
 refine ie (A8 ?_)
 exact F7 hr hD
def X4 (bB:List Cel):List Cel→Nat→Int
 | [],i=>0
 | hd_l0::tl_l0,i=>(bif (!decide ((A0w hd_l0)=0)) then 220 else (bif (((!(((decide ((0:Int)<(i:Int)))&&(decide ((bB.getD (i - 1) ZV).wide=1))) == (decide (hd_l0.wide=2))))||(((decide ((0:Int)<(i:Int)))&&(decide ((bB.getD (i - 1) ZV).wide=1)))&&(!(decide (hd_l0.sty=(bB.getD (i - 1) ZV).sty)))))||((decide (hd_l0.wide=1))&&(decide ((i:Int)=((bB.length:Int) - 1))))) then 220 else X4 bB tl_l0 (i+1)))
def B1y (bB:List Cel) (bC:Bool):Int :=
 (bif ((decide ((bB.length:Int)<2))||(decide ((80:Int)<(bB.length:Int)))) then 220 else X4 bB bB 0)
theorem D9c {bB:List Cel} {R:Int} (hR:B1y bB bC=R) (z:bB.length≤9223372036854775807:=by exact bW) (bG:bB.length≤bA:=by exact bW):J7 Tryz.prog 55 [ag [.slice aY bB.length bA,bv bC]] [sl D0 aY bB] (iv R):=by
 refine cD Tryz.func55 fun X hX hr hD=>?_
 replace hR:=V (B1y.eq_1 ..) hR
 refine bS Z (cI 2 [] (fun l=>[(1,pt l 0)]) (fun _=>[.slice aY bB.length bA,bv bC]) 85 fun l=>?_)
 refine ie (bS Z (cB 3 [0] 3 Z (ie (A3 (bS Z (bP 4 11 Z ?_))))))
 refine zir 4 0 11 15 (decide (80<(bB.length:Int))) (fun v y=>?_) ?_
 ·refine bP 4 15 Z ?_
  exact zai 2 11 _ v
 refine ie ?_
 refine zjo Z hR ?_ ?_<;>intro hR h3 w
 ·refine bS Z (bP 1 2 Z ?_)
  subst hR
  refine ie (A8 ?_)
  exact F7 hr hD
 refine A4 (nx (A3 (bS Z (bP 1 4 Z ?_))))
 refine ie (A9 (A1y (fun i=>(i≤bB.length∧X4 _ (bB.drop i) i=R,[(3,_),(4,iv i)],[_],_,bB.length - i)) 0 ⟨opx,hR⟩ bU A7.refl ?_))
 rintro i ⟨x,hR⟩
 refine A3 (bS Z (bP 4 19 Z (ie (G3 Z (fun m=>?_) (fun m=>?_)))))
 ·have g:=bV m
  rw [A1a ZV (show i<bB.length by omega)] at hR;replace hR:=V (X4.eq_2 ..) hR
  refine A4 (nx (A3 (A9 (A3 (bS Z (cF 2 22 23 Z (H8 0 Z opx fun a6 d=>(ix Z (E7 A1n Z Z d Z i Z opx) (ix Z (J0 D3g Z Z (F8 (sz:=12) d (fun _=>Z) 0 Z (gd ZV opx)) Z) ?_)))))))))
  refine zv Z (C8v Z) ?_
  refine bP 1 27 Z (ie ?_)
  refine zjn Z hR ?_ ?_<;>intro hR h8 u
  ·refine bS Z (bP 1 2 Z ?_)
   subst hR
   refine ie (A8 ?_)
   exact F7 hr hD
  refine A4 (nx (bS Z (bP 3 30 Z ?_)))
  refine zid 8 1 30 38 (decide ((bB.getD (i - 1) ZV).wide=1)) (fun s t=>?_) ?_
  ·refine cF 2 31 32 Z (ix Z (L8 Z Z Z Z opx) (ix Z (E7 A1n Z Z d Z (i - 1) opx opx) (bP 1 35 Z (ix Z (B6 cE Z Z (U8 (F8 (sz:=12) d (fun _=>Z) 0 Z (gd _ opx)) (ws:=[iv ((bB.getD _ ZV).wide)]) 3 1 Z) Z) (bP 2 38 Z ?_)))))
   exact zai 8 30 _ s
  refine bP 1 5 Z (ie (sd 40 Z oki Z (pd3 3 39 40 41 Z (dd Z (E7 A1n Z Z d Z i Z opx) (pd1 1 43 Z (dd Z (B6 cE Z Z (U8 (F8 (sz:=12) d (fun _=>Z) 0 Z (gd _ opx)) (ws:=[iv ((bB.getD i ZV).wide)]) 3 1 Z) Z) (pd1 1 45 Z (dd Z (E2y Tryz.underlying4 Z Z Z) (pd1 1 47 Z ?_)))))))))
  refine zdO _ 15 47 63 (((decide (0<(i:Int)))&&(decide ((bB.getD (i - 1) ZV).wide=1)))&&(!(decide ((bB.getD i ZV).sty=(bB.getD (i - 1) ZV).sty)))) (fun k=>?_) ?_
  ·have q:=bV k
   refine pd1 2 49 Z ?_
   refine zda _ 1 49 62 (!(decide ((bB.getD i ZV).sty=(bB.getD (i - 1) ZV).sty))) (fun f=>?_) ?_
   ·have o:=bV f
    refine pd2 2 50 51 Z (dd Z (E7 A1n Z Z d Z i Z opx) (pd1 1 53 Z (dd Z (J0 B4w Z Z (U8 (F8 (sz:=12) d (fun _=>Z) 0 Z (gd _ opx)) (ws:=B7 ((bB.getD i ZV).sty)) 4 8 Z) Z) (pd2 2 55 56 Z (dd Z (L8 Z Z Z Z opx) (dd Z (E7 A1n Z Z d Z (i - 1) opx opx) (pd1 1 59 Z (dd Z (J0 B4w Z Z (U8 (F8 (sz:=12) d (fun _=>Z) 0 Z (gd _ opx)) (ws:=B7 ((bB.getD _ ZV).sty)) 4 8 Z) Z) (dd Z (A0f E0h Z Z Z) (pd1 1 62 Z ?_))))))))))
    exact zad 14 49 _ f
   refine pd1 1 63 Z ?_
   exact zad 4 47 _ k
  refine pd1 1 64 Z ?_
  refine zdO _ 0 64 78 ((decide ((bB.getD i ZV).wide=1))&&(decide (i=((bB.length:Int) - 1)))) (fun j=>?_) ?_
  ·have r:=bV j
   refine pd2 2 65 66 Z (dd Z (E7 A1n Z Z d Z i Z opx) (pd1 1 68 Z (dd Z (B6 cE Z Z (U8 (F8 (sz:=12) d (fun _=>Z) 0 Z (gd _ opx)) (ws:=[iv ((bB.getD i ZV).wide)]) 3 1 Z) Z) (pd1 2 71 Z ?_))))
   refine zdd 6 1 71 77 (decide (i=((bB.length:Int) - 1))) (fun n p=>?_) ?_
   ·refine pd2 3 72 74 Z (dd Z (L8 Z Z Z Z opx) (pd1 2 77 Z ?_))
    exact zad 5 71 _ n
   refine pd1 1 78 Z ?_
   exact zad 9 64 _ j
  refine de ?_
  refine zjb Z hR ?_ ?_<;>intro hR e
  ·have h:=bV e
   refine bS Z (bP 1 2 Z ?_)
   subst hR
   refine ie (A8 ?_)
   exact F7 hr hD
  refine A4 (nx (A0 3 Z (bP 1 20 Z (ix Z (B1 Z Z Z Z opx) (bP 1 4 Z (A1 ?_))))))
  exact Z0 _ ⟨opx,hR⟩ olr bU A7.refl
 have g:=bV m
 rw [A1b g] at hR;replace hR:=V (X4.eq_1 ..) hR
 refine F1 (nx (bS Z (bP 1 2 Z ?_)))
 subst hR
 refine ie (A8 ?_)
 exact F7 hr hD
def U5 (bB:List Cel) (bC:Bool):Bool :=
 (decide ((B1y bB bC)=0))
theorem D8a {bB:List Cel} (hR:U5 bB bC=R) (b:bB.length≤9223372036854775807:=by exact bW) (c:bB.length≤bA:=by exact bW):J7 Tryz.prog 30 [ag [.slice aY bB.length bA,bv bC]] [sl D0 aY bB] (bv R):=by
 refine cD Tryz.func30 fun X hX hr hD=>?_
 replace hR:=V (U5.eq_1 ..) hR
 refine bS Z (cI 2 [] (fun a=>[(1,pt a 0)]) (fun _=>[.slice aY bB.length bA,bv bC]) 85 fun a=>?_)
 refine ie (bS Z (bY 1 3 [0] [(3,ag [.slice aY bB.length bA,bv bC])] ?_))
 refine zv Z (D9c Z) ?_
 refine bP 2 2 Z ?_
 subst hR
 exact ie (A8 (F7 hr hD))
def D6:Int×Int×Int :=
 (0,0,0)
theorem D9i:0≤(D6).2.2∧(D6).2.2≤4:=by simp[D6]
theorem E2g {R:Int×Int×Int} (hR:D6=R):J7 Tryz.prog 229 [.slice none 0 0] [] (.tuple #[iv R.1,iv R.2.1,iv R.2.2]):=by
 refine cD Tryz.func229 fun X hX hr hD=>?_
 replace hR:=V (D6.eq_1 ..) hR
 refine bS Z (pp0 3 Z (ie (A3 (bS Z (bP 3 12 Z (ie (K1 Z (bS Z (pp3 3 2 3 4 Z ?_)))))))))
 subst hR
 refine ie (A8 ?_)
 exact cC hr hD (E6f Z (A6 Z) (A6 Z) (A6 Z)) () bU A7.nil
def C7u:Bool×Bool :=
 (B5 D6 fun (a:Int×Int×Int)=>(bif (decide (a.2.2=0)) then (false,false) else (((decide ((if (([0,0,128,2048,65536]:List Int).getD ((a.2.2).toNat) 0) > a.1 then (([0,0,128,2048,65536]:List Int).getD ((a.2.2).toNat) 0) else a.1)≤(if (([0,127,2047,65535,1114111]:List Int).getD ((a.2.2).toNat) 0)<a.2.1 then (([0,127,2047,65535,1114111]:List Int).getD ((a.2.2).toNat) 0) else a.2.1)))&&(!((decide ((55296:Int)≤(if (([0,0,128,2048,65536]:List Int).getD ((a.2.2).toNat) 0) > a.1 then (([0,0,128,2048,65536]:List Int).getD ((a.2.2).toNat) 0) else a.1)))&&(decide ((if (([0,127,2047,65535,1114111]:List Int).getD ((a.2.2).toNat) 0)<a.2.1 then (([0,127,2047,65535,1114111]:List Int).getD ((a.2.2).toNat) 0) else a.2.1)≤57343))))),(((decide ((if (([0,0,128,2048,65536]:List Int).getD ((a.2.2).toNat) 0) > a.1 then (([0,0,128,2048,65536]:List Int).getD ((a.2.2).toNat) 0) else a.1)≤(if (([0,127,2047,65535,1114111]:List Int).getD ((a.2.2).toNat) 0)<a.2.1 then (([0,127,2047,65535,1114111]:List Int).getD ((a.2.2).toNat) 0) else a.2.1)))&&(!((decide ((55296:Int)≤(if (([0,0,128,2048,65536]:List Int).getD ((a.2.2).toNat) 0) > a.1 then (([0,0,128,2048,65536]:List Int).getD ((a.2.2).toNat) 0) else a.1)))&&(decide ((if (([0,127,2047,65535,1114111]:List Int).getD ((a.2.2).toNat) 0)<a.2.1 then (([0,127,2047,65535,1114111]:List Int).getD ((a.2.2).toNat) 0) else a.2.1)≤57343)))))&&(decide ((0:Int)=a.2.2))))))
theorem E2p {R:Bool×Bool} (hR:C7u=R):J7 Tryz.prog 228 [.slice none 0 0] [] (.tuple #[bv R.1,bv R.2]):=by
 refine cD Tryz.func228 fun X hX hr hD=>?_
 replace hR:=V (C7u.eq_1 ..) hR
 refine bS Z (pp0 2 Z (ie (bS Z (bP 1 11 Z ?_))))
 have l:=C3 hR;clear hR;obtain ⟨a,b,hR⟩:=l
 refine zv Z (E2g b) ?_
 have:=D9i ;try rw [b] at this
 refine pp3 7 4 5 6 Z (ie (A3 (bS Z (bP 2 17 Z (ie ?_)))))
 refine cK Z hR ?_ ?_<;>intro hR o n
 ·refine bS Z (cF 2 2 3 Z ?_)
  subst hR
  refine ie (A8 ?_)
  exact B6u hr hD
 refine A4 (nx (bS Z (cI 3 [0] (fun f=>[(7,pt f 0)]) (fun _=>[iv 0,iv 0,iv 128,iv 2048,iv 65536]) 304 fun f=>?_)))
 refine ie (bS Z (cI 3 [0] (fun g=>[(8,pt g 0)]) (fun _=>[iv 0,iv 127,iv 2047,iv 65535,iv 1114111]) 304 fun g=>?_))
 refine ie (sd 12 Z oki Z (pd2 2 20 21 Z (dd Z (A9f Tryz.underlying304 cE Z Z Z ((a.2.2).toNat) opx opx) (dd Z (Y2 (u:=iv ([0,0,128,2048,65536].getD _ 0)) (c:=H0) cE (fun _=>Z) Z Z 1 Z _ 0 Z (gd 0 oqd) Z) (pd3 3 24 25 26 Z (dd Z (A9f Tryz.underlying304 cE Z Z Z ((a.2.2).toNat) opx opx) (dd Z (Y2 (u:=iv ([0,127,2047,65535,1114111].getD _ 0)) (c:=H0) cE (fun _=>Z) Z Z 0 Z _ 0 Z (gd 0 oqd) Z) (pd2 3 4 5 Z (de (bS Z (bP 4 33 Z ?_)))))))))))
 refine zia 8 1 33 41 (!((decide (55296≤(if ([0,0,128,2048,65536].getD ((a.2.2).toNat) 0) > a.1 then ([0,0,128,2048,65536].getD ((a.2.2).toNat) 0) else a.1)))&&(decide ((if ([0,127,2047,65535,1114111].getD ((a.2.2).toNat) 0)<a.2.1 then ([0,127,2047,65535,1114111].getD ((a.2.2).toNat) 0) else a.2.1)≤57343)))) (fun d=>?_) ?_
 ·have k:=bV d
  refine bP 3 36 Z ?_
  refine zia 3 2 36 39 (decide ((if ([0,127,2047,65535,1114111].getD ((a.2.2).toNat) 0)<a.2.1 then ([0,127,2047,65535,1114111].getD ((a.2.2).toNat) 0) else a.2.1)≤57343)) (fun h=>?_) ?_
  ·have m:=bV h
   refine bP 3 39 Z ?_
   exact A1 (I1 2 36 _ h A7.nil bU Z Z Z Z Z)
  refine bP 2 41 Z ?_
  exact A1 (I1 4 33 _ d A7.nil bU Z Z Z Z Z)
 refine ip' 1 0 [(9,bv ((decide ((if ([0,0,128,2048,65536].getD ((a.2.2).toNat) 0) > a.1 then ([0,0,128,2048,65536].getD ((a.2.2).toNat) 0) else a.1)≤(if ([0,127,2047,65535,1114111].getD ((a.2.2).toNat) 0)<a.2.1 then ([0,127,2047,65535,1114111].getD ((a.2.2).toNat) 0) else a.2.1)))&&(!((decide (55296≤(if ([0,0,128,2048,65536].getD ((a.2.2).toNat) 0) > a.1 then ([0,0,128,2048,65536].getD ((a.2.2).toNat) 0) else a.1)))&&(decide ((if ([0,127,2047,65535,1114111].getD ((a.2.2).toNat) 0)<a.2.1 then ([0,127,2047,65535,1114111].getD ((a.2.2).toNat) 0) else a.2.1)≤57343))))))] ?_
 refine ie (bS Z (ip' 3 7 [(42,bv ((decide ((if ([0,0,128,2048,65536].getD ((a.2.2).toNat) 0) > a.1 then ([0,0,128,2048,65536].getD ((a.2.2).toNat) 0) else a.1)≤(if ([0,127,2047,65535,1114111].getD ((a.2.2).toNat) 0)<a.2.1 then ([0,127,2047,65535,1114111].getD ((a.2.2).toNat) 0) else a.2.1)))&&(!((decide (55296≤(if ([0,0,128,2048,65536].getD ((a.2.2).toNat) 0) > a.1 then ([0,0,128,2048,65536].getD ((a.2.2).toNat) 0) else a.1)))&&(decide ((if ([0,127,2047,65535,1114111].getD ((a.2.2).toNat) 0)<a.2.1 then ([0,127,2047,65535,1114111].getD ((a.2.2).toNat) 0) else a.2.1)≤57343)))))),(44,bv ((decide ((if ([0,0,128,2048,65536].getD ((a.2.2).toNat) 0) > a.1 then ([0,0,128,2048,65536].getD ((a.2.2).toNat) 0) else a.1)≤(if ([0,127,2047,65535,1114111].getD ((a.2.2).toNat) 0)<a.2.1 then ([0,127,2047,65535,1114111].getD ((a.2.2).toNat) 0) else a.2.1)))&&(!((decide (55296≤(if ([0,0,128,2048,65536].getD ((a.2.2).toNat) 0) > a.1 then ([0,0,128,2048,65536].getD ((a.2.2).toNat) 0) else a.1)))&&(decide ((if ([0,127,2047,65535,1114111].getD ((a.2.2).toNat) 0)<a.2.1 then ([0,127,2047,65535,1114111].getD ((a.2.2).toNat) 0) else a.2.1)≤57343))))))] ?_))
 refine zia 5 2 44 49 (decide (0=a.2.2)) (fun e=>?_) ?_
 ·have i:=bV e
  refine bP 5 49 Z ?_
  exact A1 (I1 2 44 _ e A7.nil bU Z Z Z Z Z)
 refine cF 2 2 3 Z ?_
 subst hR
 refine ie (A8 ?_)
 exact B6u hr hD
def B8v:Bool :=
 (B5 C7u fun (a:Bool×Bool)=>true)
theorem D8w (hR:B8v=R):J7 Tryz.prog 227 [.slice none 0 0] [] (bv R):=by
 refine cD Tryz.func227 fun X hX hr hD=>?_
 replace hR:=V (B8v.eq_1 ..) hR
 refine bS Z (pp0 1 Z (ie (bS Z (bP 1 6 Z ?_))))
 have c:=C3 hR;clear hR;obtain ⟨b,a,hR⟩:=c
 refine zv Z (E2p a) ?_
 refine cF 5 3 4 Z (ie (bS Z (bP 11 2 Z ?_)))
 subst hR
 exact ie (A8 (F7 hr hD))
def J1 (b:UInt8):Int×Int :=
 (bif (decide ((b.toNat:Int)<128)) then (1,(b.toNat:Int)) else (bif ((decide ((192:Int)≤(b.toNat:Int)))&&(decide ((b.toNat:Int)<224))) then (2,((b.toNat:Int) - 192)) else (bif ((decide ((224:Int)≤(b.toNat:Int)))&&(decide ((b.toNat:Int)<240))) then (3,((b.toNat:Int) - 224)) else (bif ((decide ((240:Int)≤(b.toNat:Int)))&&(decide ((b.toNat:Int)<248))) then (4,((b.toNat:Int) - 240)) else (0,0)))))
theorem C4o (b:UInt8):(0≤(J1 b).1∧(J1 b).1≤4)∧0≤(J1 b).2∧(J1 b).2≤127:=by
 have:=b.toNat_lt
 unfold J1
 grind
theorem D9m {b:UInt8} {R:Int×Int} (hR:J1 b=R):J7 Tryz.prog 250 [.int .u8 (b.toNat:Int)] [] (.tuple #[iv R.1,iv R.2]):=by
 refine cD Tryz.func250 fun X hX hr hD=>?_
 unfold J1 at hR
 refine bS Z (pp0 2 Z (ie (A3 (bS Z (bP 2 5 Z (ie ?_))))))
 refine cK Z hR ?_ ?_<;>intro hR n l
 ·refine bS Z (bP 1 6 Z (ix Z (B4i Tryz.underlying3 oki Z Z (A9c b)) (cF 2 2 3 Z ?_)))
  subst hR
  refine ie (A8 ?_)
  exact B6u hr hD
 refine A4 (nx (A3 (bS Z (bP 3 10 Z ?_))))
 refine zid 3 0 10 13 (decide ((b.toNat:Int)<224)) (fun i f=>?_) ?_
 ·refine bP 3 13 Z ?_
  exact A1 (I1 2 10 _ i A7.nil bU Z Z Z Z Z)
 refine ie ?_
 refine zja Z hR ?_ ?_<;>intro hR m k
 ·refine bS Z (bP 1 14 Z (ix Z (B4i Tryz.underlying3 oki Z Z (A9c b)) (ix Z (L8 Z Z Z Z opx) (cF 2 2 3 Z ?_))))
  subst hR
  refine ie (A8 ?_)
  exact B6u hr hD
 refine A4 (nx (A3 (bS Z (bP 3 19 Z ?_))))
 refine zid 3 0 19 22 (decide ((b.toNat:Int)<240)) (fun a g=>?_) ?_
 ·refine bP 3 22 Z ?_
  exact A1 (I1 2 19 _ a A7.nil bU Z Z Z Z Z)
 refine ie ?_
 refine zja Z hR ?_ ?_<;>intro hR p j
 ·refine bS Z (bP 1 23 Z (ix Z (B4i Tryz.underlying3 oki Z Z (A9c b)) (ix Z (L8 Z Z Z Z opx) (cF 2 2 3 Z ?_))))
  subst hR
  refine ie (A8 ?_)
  exact B6u hr hD
 refine A4 (nx (A3 (bS Z (bP 3 28 Z ?_))))
 refine zid 3 0 28 31 (decide ((b.toNat:Int)<248)) (fun d e=>?_) ?_
 ·refine bP 3 31 Z ?_
  exact A1 (I1 2 28 _ d A7.nil bU Z Z Z Z Z)
 refine ie ?_
 refine zja Z hR ?_ ?_<;>intro hR o h
 ·refine bS Z (bP 1 32 Z (ix Z (B4i Tryz.underlying3 oki Z Z (A9c b)) (ix Z (L8 Z Z Z Z opx) (cF 2 2 3 Z ?_))))
  subst hR
  refine ie (A8 ?_)
  exact B6u hr hD
 refine A4 (nx (bS Z (cF 2 2 3 Z ?_)))
 subst hR
 refine ie (A8 ?_)
 exact B6u hr hD
def H2 (p:List UInt8) (a:Int×Int):Nat→Int→Int→Nat→(Int×Int×Int)
 | 0,_,_,_=>(0,0,0)
 | fu1+1,low,high,i=>(bif (decide ((i:Int)<a.1)) then (bif (decide ((i:Int)<(p.length:Int))) then (bif ((decide (((p.getD i 0).toNat:Int)<128))||(decide ((191:Int)<((p.getD i 0).toNat:Int)))) then (0,0,0) else H2 p a fu1 (IntKind.i64.wrap ((IntKind.i64.wrap (low * (64:Int)))+(((p.getD i 0).toNat:Int) - 128))) (IntKind.i64.wrap ((IntKind.i64.wrap ((IntKind.i64.wrap ((IntKind.i64.wrap (high * (64:Int)))+(63:Int))) - (63:Int)))+(((p.getD i 0).toNat:Int) - 128))) (i+1)) else H2 p a fu1 (IntKind.i64.wrap (low * (64:Int))) (IntKind.i64.wrap ((IntKind.i64.wrap (high * (64:Int)))+(63:Int))) (i+1)) else (bif (decide (a.1<(p.length:Int))) then (0,0,0) else (low,high,a.1)))
def O4 (p:List UInt8):Int×Int×Int :=
 (bif (decide ((p.length:Int)=0)) then (0,0,0) else (B5 (J1 (p.getD 0 0)) fun (a:Int×Int)=>H2 p a ((a.1 - (1:Int)).toNat+1) a.2 a.2 1))
theorem B3f (p:List UInt8) (f:Int×Int) (a:0≤f.1∧f.1≤4):∀ (fu:Nat) (low high:Int) (i:Nat),0≤(H2 p f fu low high i).2.2∧(H2 p f fu low high i).2.2≤4∧((H2 p f fu low high i).2.2≠0→(p.length:Int)≤4)
 | 0,low,high,i=>by simp [H2]
 | fu+1,low,high,i=>by
  simp only [H2]
  cases (decide ((i:Int)<f.1)) with
  | true =>
   rw [cond_true]
   cases (decide ((i:Int)<(p.length:Int))) with
   | true =>
    rw [cond_true]
    generalize ((decide (((p.getD i 0).toNat:Int)<128))||(decide ((191:Int)<((p.getD i 0).toNat:Int))))=c
    cases c with
    | true=>simp
    | false=>rw [cond_false];exact B3f p f a fu _ _ _
   | false=>rw [cond_false];exact B3f p f a fu _ _ _
  | false =>
   grind
theorem B2y (p:List UInt8):0≤(O4 p).2.2∧(O4 p).2.2≤4∧((O4 p).2.2≠0→(p.length:Int)≤4):=by
 unfold O4
 cases (decide ((p.length:Int)=0)) with
 | true=>simp
 | false=>rw [cond_false];simp only [B5];exact B3f p _ (C4o _).1 _ _ _ _
theorem C0g {R:Int×Int×Int} (hR:O4 p=R) (s:p.length≤9223372036854775807:=by exact bW) (g:p.length≤pk:=by exact bW):J7 Tryz.prog 229 [.slice e p.length pk] [sl cJ e p] (.tuple #[iv R.1,iv R.2.1,iv R.2.2]):=by
 refine cD Tryz.func229 fun X hX hr hD=>?_
 replace hR:=V (O4.eq_1 ..) hR
 refine bS Z (pp0 3 Z (ie (A3 (bS Z (bP 3 12 Z (ie ?_))))))
 refine cK Z hR ?_ ?_<;>intro hR t n
 ·refine bS Z (pp3 3 2 3 4 Z ?_)
  subst hR
  refine ie (A8 ?_)
  exact cC hr hD (E6f Z (A6 Z) (A6 Z) (A6 Z)) () bU A7.nil
 refine A4 (nx (bS Z (bP 1 14 Z (H8 0 Z opx fun y d=>(ix Z (E7 A6y Z Z d Z 0 Z opx) (ix Z (B6 ty5 Z Z (F8 (sz:=1) d (fun _=>Z) 0 Z (gd 0 opx)) Z) ?_))))))
 have j:=C3 hR;clear hR;obtain ⟨a,b,hR⟩:=j
 refine zv Z (D9m b) ?_
 have:=C4o (p.getD 0 0);try rw [b] at this
 refine cF 5 5 6 Z (ie (bS Z (bP 2 7 Z (ie (A3 (bS Z (bP 1 8 Z ?_)))))))
 refine ie (A9 (A1y (un fun fu=>un fun low=>un fun high (i:Nat)=>((a.1 - i).toNat<fu∧H2 p a fu low high i=R,[(0,_),(5,iv _),(6,iv low),(7,iv high),(8,iv i)],_,_,fu)) (_,_,_,1) ⟨(Nat.lt_succ_self _),hR⟩ bU A7.refl ?_))
 rintro ⟨fu,low,high,i⟩ ⟨q,hR⟩
 obtain ⟨fu1,rfl⟩:∃ m,fu=m+1:=⟨fu - 1,by omega⟩
 replace hR:=V (H2.eq_2 ..) hR
 refine A3 (bS Z (bP 3 23 Z (ie ?_)))
 refine cK Z hR ?_ ?_<;>intro hR u l
 ·refine A4 (nx (A3 (A9 (bS Z (bP 1 26 Z (ix Z (J8.pure Z) (bP 1 28 Z (ix Z (J8.pure Z) (ix Z (J8.pure Z) (cF 2 6 7 Z (ie (bS Z (bP 4 34 Z (ie ?_))))))))))))))
  refine cK Z hR ?_ ?_<;>intro hR w h
  ·refine A3 (bS Z (cF 2 35 36 Z (ix Z (E7 A6y Z Z d Z i Z opx) (ix Z (B6 ty5 Z Z (F8 (sz:=1) d (fun _=>Z) 0 Z (gd 0 opx)) Z) (bP 2 40 Z ?_)))))
   refine zir 6 0 40 46 (decide (191<((p.getD i 0).toNat:Int))) (fun o f=>?_) ?_
   ·refine cF 2 41 42 Z (ix Z (E7 A6y Z Z d Z i Z opx) (ix Z (B6 ty5 Z Z (F8 (sz:=1) d (fun _=>Z) 0 Z (gd 0 opx)) Z) (bP 2 46 Z ?_)))
    exact zai 6 40 _ o
   refine ie ?_
   refine zjo Z hR ?_ ?_<;>intro hR v k
   ·refine bS Z (pp3 3 2 3 4 Z ?_)
    subst hR
    refine ie (A8 ?_)
    exact cC hr hD (E6f Z (A6 Z) (A6 Z) (A6 Z)) () bU A7.nil
   refine A4 (nx (bS Z (cF 2 47 48 Z (ix Z (E7 A6y Z Z d Z i Z opx) (ix Z (B6 ty5 Z Z (F8 (sz:=1) d (fun _=>Z) 0 Z (gd 0 opx)) Z) (ix Z (B4i Tryz.underlying3 oki Z Z (A9c _)) ?_))))))
   refine ix Z (L8 Z Z Z Z opx) (bP 1 9 Z (ie (A0 9 Z (cF 2 53 54 Z (ix Z (J8.pure Z) (bP 1 56 Z (ix Z (J8.pure Z) (bP 1 58 Z (ix Z (J8.pure Z) (cF 2 6 7 Z (A1 (nx (A0 3 Z (bP 1 24 Z (ix Z (B1 Z Z Z Z opx) (bP 1 8 Z (A1 ?_)))))))))))))))))
   exact Z0 (_,_,_,_) ⟨opx,hR⟩ (Nat.lt_succ_self _) bU A7.refl
  refine A4 (nx (A0 3 Z (bP 1 24 Z (ix Z (B1 Z Z Z Z opx) (bP 1 8 Z (A1 ?_))))))
  exact Z0 (_,_,_,_) ⟨opx,hR⟩ (Nat.lt_succ_self _) bU A7.refl
 refine F1 (nx (A3 (bS Z (bP 4 63 Z (ie ?_)))))
 refine cK Z hR ?_ ?_<;>intro hR x r
 ·refine bS Z (pp3 3 2 3 4 Z ?_)
  subst hR
  refine ie (A8 ?_)
  exact cC hr hD (E6f Z (A6 Z) (A6 Z) (A6 Z)) () bU A7.nil
 refine A4 (nx (bS Z (pp3 6 2 3 4 Z ?_)))
 subst hR
 refine ie (A8 ?_)
 exact cC hr hD (E6f Z (A6 Z) (A6 Z) (A6 Z)) () bU A7.nil
def U4 (p:List UInt8):Bool×Bool :=
 (B5 (O4 p) fun (a:Int×Int×Int)=>(bif (decide (a.2.2=0)) then (false,false) else (((decide ((if (([0,0,128,2048,65536]:List Int).getD ((a.2.2).toNat) 0) > a.1 then (([0,0,128,2048,65536]:List Int).getD ((a.2.2).toNat) 0) else a.1)≤(if (([0,127,2047,65535,1114111]:List Int).getD ((a.2.2).toNat) 0)<a.2.1 then (([0,127,2047,65535,1114111]:List Int).getD ((a.2.2).toNat) 0) else a.2.1)))&&(!((decide ((55296:Int)≤(if (([0,0,128,2048,65536]:List Int).getD ((a.2.2).toNat) 0) > a.1 then (([0,0,128,2048,65536]:List Int).getD ((a.2.2).toNat) 0) else a.1)))&&(decide ((if (([0,127,2047,65535,1114111]:List Int).getD ((a.2.2).toNat) 0)<a.2.1 then (([0,127,2047,65535,1114111]:List Int).getD ((a.2.2).toNat) 0) else a.2.1)≤57343))))),(((decide ((if (([0,0,128,2048,65536]:List Int).getD ((a.2.2).toNat) 0) > a.1 then (([0,0,128,2048,65536]:List Int).getD ((a.2.2).toNat) 0) else a.1)≤(if (([0,127,2047,65535,1114111]:List Int).getD ((a.2.2).toNat) 0)<a.2.1 then (([0,127,2047,65535,1114111]:List Int).getD ((a.2.2).toNat) 0) else a.2.1)))&&(!((decide ((55296:Int)≤(if (([0,0,128,2048,65536]:List Int).getD ((a.2.2).toNat) 0) > a.1 then (([0,0,128,2048,65536]:List Int).getD ((a.2.2).toNat) 0) else a.1)))&&(decide ((if (([0,127,2047,65535,1114111]:List Int).getD ((a.2.2).toNat) 0)<a.2.1 then (([0,127,2047,65535,1114111]:List Int).getD ((a.2.2).toNat) 0) else a.2.1)≤57343)))))&&(decide ((p.length:Int)=a.2.2))))))
theorem D5e (p:List UInt8) (h:(U4 p).1=true):(p.length:Int)≤4:=by
 unfold U4 at h
 simp only [B5] at h
 by_cases e:(O4 p).2.2=0
 all_goals simp_all[B2y]
theorem B9w {R:Bool×Bool} (hR:U4 p=R) (r:p.length≤9223372036854775807:=by exact bW) (k:p.length≤pk:=by exact bW):J7 Tryz.prog 228 [.slice h p.length pk] [sl cJ h p] (.tuple #[bv R.1,bv R.2]):=by
 refine cD Tryz.func228 fun X hX hr hD=>?_
 replace hR:=V (U4.eq_1 ..) hR
 refine bS Z (pp0 2 Z (ie (bS Z (bP 1 11 Z ?_))))
 have n:=C3 hR;clear hR;obtain ⟨a,b,hR⟩:=n
 refine zv Z (C0g b) ?_
 have:=B2y p;try rw [b] at this
 refine pp3 7 4 5 6 Z (ie (A3 (bS Z (bP 2 17 Z (ie ?_)))))
 refine cK Z hR ?_ ?_<;>intro hR s q
 ·refine bS Z (cF 2 2 3 Z ?_)
  subst hR
  refine ie (A8 ?_)
  exact B6u hr hD
 refine A4 (nx (bS Z (cI 3 [0] (fun f=>[(7,pt f 0)]) (fun _=>[iv 0,iv 0,iv 128,iv 2048,iv 65536]) 304 fun f=>?_)))
 refine ie (bS Z (cI 3 [0] (fun g=>[(8,pt g 0)]) (fun _=>[iv 0,iv 127,iv 2047,iv 65535,iv 1114111]) 304 fun g=>?_))
 refine ie (sd 12 Z oki Z (pd2 2 20 21 Z (dd Z (A9f Tryz.underlying304 cE Z Z Z ((a.2.2).toNat) opx opx) (dd Z (Y2 (u:=iv ([0,0,128,2048,65536].getD _ 0)) (c:=H0) cE (fun _=>Z) Z Z 1 Z _ 0 Z (gd 0 oqd) Z) (pd3 3 24 25 26 Z (dd Z (A9f Tryz.underlying304 cE Z Z Z ((a.2.2).toNat) opx opx) (dd Z (Y2 (u:=iv ([0,127,2047,65535,1114111].getD _ 0)) (c:=H0) cE (fun _=>Z) Z Z 0 Z _ 0 Z (gd 0 oqd) Z) (pd2 3 4 5 Z (de (bS Z (bP 4 33 Z ?_)))))))))))
 refine zia 8 1 33 41 (!((decide (55296≤(if ([0,0,128,2048,65536].getD ((a.2.2).toNat) 0) > a.1 then ([0,0,128,2048,65536].getD ((a.2.2).toNat) 0) else a.1)))&&(decide ((if ([0,127,2047,65535,1114111].getD ((a.2.2).toNat) 0)<a.2.1 then ([0,127,2047,65535,1114111].getD ((a.2.2).toNat) 0) else a.2.1)≤57343)))) (fun d=>?_) ?_
 ·have m:=bV d
  refine bP 3 36 Z ?_
  refine zia 3 2 36 39 (decide ((if ([0,127,2047,65535,1114111].getD ((a.2.2).toNat) 0)<a.2.1 then ([0,127,2047,65535,1114111].getD ((a.2.2).toNat) 0) else a.2.1)≤57343)) (fun i=>?_) ?_
  ·have o:=bV i
   refine bP 3 39 Z ?_
   exact zai 2 36 _ i
  refine bP 2 41 Z ?_
  exact zai 4 33 _ d
 refine ip' 1 0 [(9,bv ((decide ((if ([0,0,128,2048,65536].getD ((a.2.2).toNat) 0) > a.1 then ([0,0,128,2048,65536].getD ((a.2.2).toNat) 0) else a.1)≤(if ([0,127,2047,65535,1114111].getD ((a.2.2).toNat) 0)<a.2.1 then ([0,127,2047,65535,1114111].getD ((a.2.2).toNat) 0) else a.2.1)))&&(!((decide (55296≤(if ([0,0,128,2048,65536].getD ((a.2.2).toNat) 0) > a.1 then ([0,0,128,2048,65536].getD ((a.2.2).toNat) 0) else a.1)))&&(decide ((if ([0,127,2047,65535,1114111].getD ((a.2.2).toNat) 0)<a.2.1 then ([0,127,2047,65535,1114111].getD ((a.2.2).toNat) 0) else a.2.1)≤57343))))))] ?_
 refine ie (bS Z (ip' 3 7 [(42,bv ((decide ((if ([0,0,128,2048,65536].getD ((a.2.2).toNat) 0) > a.1 then ([0,0,128,2048,65536].getD ((a.2.2).toNat) 0) else a.1)≤(if ([0,127,2047,65535,1114111].getD ((a.2.2).toNat) 0)<a.2.1 then ([0,127,2047,65535,1114111].getD ((a.2.2).toNat) 0) else a.2.1)))&&(!((decide (55296≤(if ([0,0,128,2048,65536].getD ((a.2.2).toNat) 0) > a.1 then ([0,0,128,2048,65536].getD ((a.2.2).toNat) 0) else a.1)))&&(decide ((if ([0,127,2047,65535,1114111].getD ((a.2.2).toNat) 0)<a.2.1 then ([0,127,2047,65535,1114111].getD ((a.2.2).toNat) 0) else a.2.1)≤57343)))))),(44,bv ((decide ((if ([0,0,128,2048,65536].getD ((a.2.2).toNat) 0) > a.1 then ([0,0,128,2048,65536].getD ((a.2.2).toNat) 0) else a.1)≤(if ([0,127,2047,65535,1114111].getD ((a.2.2).toNat) 0)<a.2.1 then ([0,127,2047,65535,1114111].getD ((a.2.2).toNat) 0) else a.2.1)))&&(!((decide (55296≤(if ([0,0,128,2048,65536].getD ((a.2.2).toNat) 0) > a.1 then ([0,0,128,2048,65536].getD ((a.2.2).toNat) 0) else a.1)))&&(decide ((if ([0,127,2047,65535,1114111].getD ((a.2.2).toNat) 0)<a.2.1 then ([0,127,2047,65535,1114111].getD ((a.2.2).toNat) 0) else a.2.1)≤57343))))))] ?_))
 refine zia 5 2 44 49 (decide (p.length=a.2.2)) (fun e=>?_) ?_
 ·have l:=bV e
  refine bP 5 49 Z ?_
  exact zai 2 44 _ e
 refine cF 2 2 3 Z ?_
 subst hR
 refine ie (A8 ?_)
 exact B6u hr hD
def A2y (b:UInt8):List UInt8×List Int :=
 (B5 (U4 (([]:List UInt8)++([b]:List UInt8))) fun (a:Bool×Bool)=>(bif a.2 then (B5 (O4 (([]:List UInt8)++([b]:List UInt8))) fun (c:Int×Int×Int)=>(([]:List UInt8),([c.1]:List Int))) else (bif a.1 then ((([]:List UInt8)++([b]:List UInt8)),([]:List Int)) else (([]:List UInt8),([65533]:List Int)))))
def A9y (b:UInt8):List UInt8×List Int :=
 (bif (!B8v) then A2y b else A2y b)
theorem C8h (b:UInt8):(A2y b).1.length≤4∧(A2y b).2.length≤2:=by grind[A2y,B5]
theorem C4h (b:UInt8):(A9y b).1.length≤4∧(A9y b).2.length≤2:=by simp[A9y,C8h]
theorem ore {p:Prop} (h:p:=by first|omega|(simp +zetaDelta only [List.length_cons,List.length_nil,List.length_append,List.length_take,List.length_drop,D6];omega)):p:=h
theorem E2m {b:UInt8} {R:List UInt8×List Int} (hR:A9y b=R) (o:([]:List UInt8).length≤4:=by exact bW):cM Tryz.prog 195 [.slice none 0 0,.int .u8 (b.toNat:Int)] [] [] ({t:Option Addr×Nat // R.1.length≤t.2∧R.1.length≤9223372036854775807}×{t:Option Addr×Nat // R.2.length≤t.2∧R.2.length≤9223372036854775807}) (fun x=>.tuple #[.slice x.1.1.1 R.1.length x.1.1.2,.slice x.2.1.1 R.2.length x.2.1.2]) (fun x=>[]) (fun x=>[sl cJ x.1.1.1 R.1,sl H0 x.2.1.1 R.2]):=by
 refine cD Tryz.func195 fun X hX hr hD=>?_
 replace hR:=V (A9y.eq_1 ..) hR
 refine bS Z (pp0 2 Z (ie (A7i (fun (_:Unit)=>(A2y b=R,[(0,.slice none 0 0),(1,.int .u8 b.toNat)],[],[])) ?_ ?_)))
 ·refine bS Z (bP 1 14 Z ?_)
  refine zv Z (D8w Z) ?_
  refine bP 1 16 Z (ie ?_)
  refine zjb Z hR ?_ ?_<;>intro hR v
  ·refine A0 1 Z (bP 1 0 Z (A1 ?_))
   exact S6 () hR bU A7.nil
  refine A4 ?_
  exact S6 () hR bU A7.nil
 intro _
 rintro hR
 replace hR:=V (A2y.eq_1 ..) hR
 refine bS Z (it Z (B6s A6y Z Z) fun m=>?_)
 have:([]:List UInt8).length=0:=rfl
 refine bP 1 18 Z (ix Z (E8q C2m Z Z Z Z Z Z (by omega)) (bP 1 20 Z (it Z (B0 (c:=cJ) (xs:=[b]) A6y Z Z Z oki) fun s=>?_)))
 have:([b]:List UInt8).length=1:=rfl
 refine it Z (Q7 (f:=cJ) (r:=(⟨some m,0,[]⟩:VR)) (xs:=([]:List UInt8)) (ys:=([b]:List UInt8)) (pre:=[]) (post:=[]) C2m (fun _=>Z) (fun _=>Z) Z Z Z Z Z Z Z Z Z (A5 0 Z) (show bT 1 0 _ from ⟨rfl,Nat.zero_le _,Nat.zero_le _⟩) ore ore) fun ⟨j,g⟩=>(bP 1 6 Z (ie (bS Z (bP 1 24 Z ?_))))
 have:=bT.cap g
 have:=bT.le g
 refine P2 _ _ g omm ?_
 have i:=C3 hR;clear hR;obtain ⟨h,e,hR⟩:=i
 refine zv Z (B9w e) ?_
 refine cF 5 7 8 Z (ie (A3 (bS Z (bP 1 28 Z (ie ?_)))))
 refine zjb Z hR ?_ ?_<;>intro hR u
 ·refine bS Z (bP 1 30 Z ?_)
  have i:=C3 hR;clear hR;obtain ⟨d,a,hR⟩:=i
  refine zv Z (C0g a) ?_
  have:=B2y (([]:List UInt8)++([b]:List UInt8));try rw [a] at this
  refine bP 7 9 Z (ie (bS Z (bP 1 35 Z (it Z (B0 (c:=H0) (xs:=[d.1]) I0 Z Z Z oki) fun l=>(cF 2 4 5 Z ?_)))))
  subst hR
  refine ie (A8 ?_)
  exact cC hr hD (Y4 Z (A6 Z) (A6 Z)) ((zq _ 0),(zq _ 1)) bU c9
 refine A4 (nx (A3 (bS Z (bP 1 37 Z (ie ?_)))))
 refine zjb Z hR ?_ ?_<;>intro hR p
 ·refine bS Z (cF 3 4 5 Z ?_)
  subst hR
  refine ie (A8 ?_)
  exact cC hr hD (Y4 Z (A6 Z) (A6 Z)) ((zq _ j.k),(zq _ 0)) bU c9
 refine A4 (nx (A3 (bS Z (bP 3 41 Z (ie (K1 Z (bS Z (it Z (B0 (c:=H0) (xs:=[65533]) I0 Z Z Z oki) fun n=>(cF 2 4 5 Z ?_)))))))))
 subst hR
 refine ie (A8 ?_)
 exact cC hr hD (Y4 Z (A6 Z) (A6 Z)) ((zq _ 0),(zq _ 1)) bU c9
def A2z (p:List UInt8):Bool :=
 (B5 (U4 p) fun (a:Bool×Bool)=>((decide ((p.length:Int)=0))||(a.1&&(!a.2))))
theorem C4n {c:Option Addr} (hR:A2z p=R) (i:p.length≤9223372036854775807:=by exact bW) (f:p.length≤pk:=by exact bW):J7 Tryz.prog 227 [.slice c p.length pk] [sl cJ c p] (bv R):=by
 refine cD Tryz.func227 fun X hX hr hD=>?_
 replace hR:=V (A2z.eq_1 ..) hR
 refine bS Z (pp0 1 Z (ie (bS Z (bP 1 6 Z ?_))))
 have h:=C3 hR;clear hR;obtain ⟨a,b,hR⟩:=h
 refine zv Z (B9w b) ?_
 refine cF 5 3 4 Z (ie (bS Z (bP 4 13 Z (zir 6 1 13 19 (a.1&&(!a.2)) (fun g d=>?_) ?_))))
 ·refine bP 2 15 Z (zia 3 1 15 18 (!a.2) (fun e=>?_) ?_)
  ·exact bP 3 18 Z (zai 2 15 _ e)
  exact bP 1 19 Z (zai 4 13 _ g)
 refine bP 1 2 Z ?_
 subst hR
 exact ie (A8 (F7 hr hD))
def A2f (b:UInt8) (a:List UInt8):List UInt8×List Int :=
 (B5 (U4 ((([]:List UInt8)++a)++([b]:List UInt8))) fun (c:Bool×Bool)=>(bif c.2 then (B5 (O4 ((([]:List UInt8)++a)++([b]:List UInt8))) fun (e:Int×Int×Int)=>(([]:List UInt8),([e.1]:List Int))) else (bif c.1 then (((([]:List UInt8)++a)++([b]:List UInt8)),([]:List Int)) else (bif (decide ((a.length:Int)=0)) then (([]:List UInt8),([65533]:List Int)) else (B5 (A9y b) fun (d:List UInt8×List Int)=>(d.1,(([65533]:List Int)++d.2)))))))
def A4l (pending:List UInt8) (b:UInt8):List UInt8×List Int :=
 (bif (!(A2z pending)) then A2f b ([]:List UInt8) else A2f b pending)
theorem C7t (b:UInt8) (p:List UInt8):(A2f b p).1.length≤4∧(A2f b p).2.length≤3:=by
 unfold A2f
 simp only [B5]
 have a:=C4h b
 cases h2:(U4 ((([]:List UInt8)++p)++([b]:List UInt8))).2 with
 | true=>simp
 | false =>
  rw [cond_false]
  cases h1:(U4 ((([]:List UInt8)++p)++([b]:List UInt8))).1 with
  | true =>
   have:=D5e _ h1
   grind
  | false =>
   grind
theorem C2k (p:List UInt8) (b:UInt8):(A4l p b).1.length≤4∧(A4l p b).2.length≤3:=by
 unfold A4l
 cases (!(A2z p))<;>simp only [cond_true,cond_false]<;>simp[C7t]
theorem osf {p:Prop} (h:p:=by first|omega|(simp +zetaDelta only [List.length_take,List.length_drop,List.length_append,List.length_cons,List.length_nil,List.length_set,List.length_map,D6];omega)|decide):p:=h
theorem D8u {b:UInt8} {R:List UInt8×List Int} (hR:A4l pending b=R) (v:pending.length≤9223372036854775807:=by exact bW) (u:pending.length≤pendingk:=by exact bW) (hp:pending.length≤4:=by exact bW):cM Tryz.prog 195 [.slice pendingq pending.length pendingk,.int .u8 (b.toNat:Int)] [] [sl cJ pendingq pending] ({t:Option Addr×Nat // R.1.length≤t.2∧R.1.length≤9223372036854775807}×{t:Option Addr×Nat // R.2.length≤t.2∧R.2.length≤9223372036854775807}) (fun x=>.tuple #[.slice x.1.1.1 R.1.length x.1.1.2,.slice x.2.1.1 R.2.length x.2.1.2]) (fun x=>[]) (fun x=>[sl cJ x.1.1.1 R.1,sl H0 x.2.1.1 R.2]):=by
 refine cD Tryz.func195 fun X hX hr hD=>?_
 replace hR:=V (A4l.eq_1 ..) hR
 refine bS Z (pp0 2 Z (ie (A7i (un fun a=>un fun g e=>(A2f b a=R∧a.length≤e∧a.length≤9223372036854775807∧a.length≤4,[(0,.slice g a.length e),(1,.int .u8 b.toNat)],[],[sl cJ pendingq pending,sl cJ g a])) ?_ ?_)))
 ·refine bS Z (bP 1 14 Z ?_)
  refine zv Z (C4n Z) ?_
  refine bP 1 16 Z (ie ?_)
  refine zjb Z hR ?_ ?_<;>intro hR h1
  ·refine A0 1 Z (bP 1 0 Z (A1 ?_))
   exact S6 (_,_,0) ⟨hR,osf,osf,osj⟩ bU c9
  refine A4 ?_
  exact S6 (pending,pendingq,pendingk) ⟨hR,osf,osf,osj⟩ bU c9
 rintro ⟨a,g,e⟩
 rintro ⟨hR,o,p,hj⟩
 replace hR:=V (A2f.eq_1 ..) hR
 refine bS Z (it Z (B6s A6y Z Z) fun b2=>?_)
 have:([]:List UInt8).length=0:=rfl
 refine bP 1 18 Z (it Z (Y6 (f:=cJ) (r:=(⟨some b2,0,[]⟩:VR)) (xs:=([]:List UInt8)) (ys:=a) (pre:=[]) (post:=[]) C2m (fun _=>Z) (fun _=>Z) Z Z Z Z Z Z Z Z (A5 1 Z) (show bT 1 0 _ from ⟨rfl,Nat.zero_le _,Nat.zero_le _⟩) ore ore) fun ⟨r3,s⟩=>?_)
 have:=bT.le s
 have:=bT.cap s
 refine bP 1 20 Z (it Z (B0 (c:=cJ) (xs:=[b]) A6y Z Z Z oki) fun b5=>?_)
 have:([b]:List UInt8).length=1:=rfl
 refine it Z (Q7 (f:=cJ) (r:=r3) (xs:=(([]:List UInt8)++a)) (ys:=([b]:List UInt8)) (pre:=[]) (post:=[]) C2m (fun _=>Z) (fun _=>Z) Z Z Z Z Z Z Z Z Z (A5 0 Z) s ore ore) fun ⟨r6,m⟩=>?_
 have:=bT.le m
 have:=bT.cap m
 refine bP 1 6 Z (ie (bS Z (bP 1 24 Z ?_)))
 have:=bT.cap m
 have:=bT.le m
 refine P2 _ _ m omm ?_
 have w:=C3 hR;clear hR;obtain ⟨n,j,hR⟩:=w
 refine zv Z (B9w j) ?_
 refine cF 5 7 8 Z (ie (A3 (bS Z (bP 1 28 Z (ie ?_)))))
 refine zjb Z hR ?_ ?_<;>intro hR h8
 ·refine bS Z (bP 1 30 Z ?_)
  have w:=C3 hR;clear hR;obtain ⟨h,d,hR⟩:=w
  refine zv Z (C0g d) ?_
  have:=B2y ((([]:List UInt8)++a)++([b]:List UInt8));try rw [d] at this
  refine bP 7 9 Z (ie (bS Z (bP 1 35 Z (it Z (B0 (c:=H0) (xs:=[h.1]) I0 Z Z Z oki) fun b9=>?_))))
  have:([h.1]:List Int).length=1:=rfl
  refine cF 2 4 5 Z ?_
  subst hR
  refine ie (A8 ?_)
  exact cC hr hD (Y4 Z (A6 Z) (A6 Z)) ((zq _ 0),(zq _ 1)) bU c9
 refine A4 (nx (A3 (bS Z (bP 1 37 Z (ie ?_)))))
 refine zjb Z hR ?_ ?_<;>intro hR ad
 ·refine bS Z (cF 3 4 5 Z ?_)
  subst hR
  refine ie (A8 ?_)
  exact cC hr hD (Y4 Z (A6 Z) (A6 Z)) ((zq _ r6.k),(zq _ 0)) bU c9
 refine A4 (nx (A3 (bS Z (bP 3 41 Z (ie ?_)))))
 refine cK Z hR ?_ ?_<;>intro hR ah a8
 ·refine bS Z (it Z (B0 (c:=H0) (xs:=[65533]) I0 Z Z Z oki) fun a6=>?_)
  have:([65533]:List Int).length=1:=rfl
  refine cF 2 4 5 Z ?_
  subst hR
  refine ie (A8 ?_)
  exact cC hr hD (Y4 Z (A6 Z) (A6 Z)) ((zq _ 0),(zq _ 1)) bU c9
 refine A4 (nx (bS Z (bP 1 44 Z ?_)))
 have w:=C3 hR;clear hR;obtain ⟨l,i,hR⟩:=w
 refine zc Z (E2m i) fun ⟨⟨⟨a4,a2⟩,y⟩,⟨⟨af,aj⟩,z⟩⟩=>?_
 obtain ⟨a9,a7⟩:=y
 obtain ⟨aa,ab⟩:=z
 have:=C4h b;try rw [i] at this
 refine cF 5 12 13 Z (ie (bS Z (bP 1 48 Z (it Z (B0 (c:=H0) (xs:=[65533]) I0 Z Z Z oki) fun ae=>?_))))
 have:([65533]:List Int).length=1:=rfl
 refine bP 1 50 Z (it Z (C3h (f:=H0) (xs:=([65533]:List Int)) (ys:=l.2) D5t (fun _=>Z) (fun _=>Z) Z Z Z Z Z Z opx opx odv (A5 0 Z) (A5 2 Z) ore ore) fun ⟨⟨a5,a0⟩,a1⟩=>(cF 2 4 5 Z ?_))
 subst hR
 refine ie (A8 ?_)
 exact cC hr hD (Y4 Z (A6 Z) (A6 Z)) (_,(zq _ _)) bU c9
def B1z (pending:List UInt8):List Int :=
 (bif ((decide ((0:Int)<(pending.length:Int)))&&(A2z pending)) then ([65533]:List Int) else ([]:List Int))
theorem C2r (p:List UInt8):(B1z p).length≤1:=by grind[B1z]
theorem D9q {R:List Int} (hR:B1z pending=R) (b:pending.length≤9223372036854775807:=by exact bW) (a:pending.length≤pendingk:=by exact bW):cM Tryz.prog 196 [.slice pendingq pending.length pendingk] [] [sl cJ pendingq pending] ({t:Option Addr×Nat // R.length≤t.2∧R.length≤9223372036854775807}) (fun x=>.slice x.1.1 R.length x.1.2) (fun x=>[]) (fun x=>[sl H0 x.1.1 R]):=by
 refine cD Tryz.func196 fun X hX hr hD=>?_
 replace hR:=V (B1z.eq_1 ..) hR
 refine bS Z (pp0 1 Z (ie (A3 (bS Z (bP 4 6 Z ?_)))))
 refine zid 3 0 6 9 (A2z pending) (fun g f=>?_) ?_
 ·refine bP 1 7 Z ?_
  refine zv Z (C4n Z) ?_
  refine bP 1 9 Z ?_
  exact zai 4 6 9 g
 refine ie ?_
 refine zjb Z hR ?_ ?_<;>intro hR e
 ·have d:=bV e
  refine bS Z (it Z (B0 (c:=H0) (xs:=[65533]) I0 Z Z Z oki) fun h=>?_)
  have:([65533]:List Int).length=1:=rfl
  refine bP 1 2 Z ?_
  subst hR
  refine ie (A8 ?_)
  exact cC hr hD (I9 Z (A6 Z)) (zq _ 1) bU c9
 refine A4 (nx (bS Z (bP 1 2 Z ?_)))
 subst hR
 refine ie (A8 ?_)
 exact cC hr hD (I9 Z (A6 Z)) (zq _ 0) bU c9
def Z3:List UInt8→List Int→List UInt8→Nat→List Int
 | [],out,pending,i=>(B5 (B1z pending) fun (b:List Int)=>(out++b))
 | hd_l0::tl_l0,out,pending,i=>(B5 (A4l pending hd_l0) fun (a:List UInt8×List Int)=>Z3 tl_l0 (out++a.2) a.1 (i+1))
def A7l (s:List UInt8):List Int :=
 Z3 s ([]:List Int) ([]:List UInt8) 0
theorem B7b:∀ (xs:List UInt8) (out:List Int) (p:List UInt8) (i:Nat),(Z3 xs out p i).length≤out.length+3 * xs.length+1
 | [],out,p,i=>by
  have:=C2r p
  simp only [Z3,B5,List.length_append,List.length_nil];omega
 | x::xs,out,p,i=>by
  have:=C2k p x
  have:=B7b xs (out++(A4l p x).2) (A4l p x).1 (i+1)
  simp only [Z3,B5,List.length_append,List.length_cons] at *;omega
theorem D3m (s:List UInt8):(A7l s).length≤3 * s.length+1:=by grind[B7b,A7l]
theorem D9b {R:List Int} (hR:A7l s=R) (hs:s.length≤1000000:=by exact bW):cM Tryz.prog 127 [sv s] [] [] ({r:VR // bT 1 R.length r}) (fun x=>.slice (va x.1.q) R.length x.1.k) (fun x=>((vo H0 3 x.1 R)++([]))) (fun x=>[]):=by
 refine cD Tryz.func127 fun X hX hr hD=>?_
 replace hR:=V (A7l.eq_1 ..) hR
 refine bS Z (ip' 1 0 [] ?_)
 refine ie (bS Z (ip' 1 0 [(3,.slice none 0 0)] ?_))
 refine ie (bS Z (ip' 1 0 [(4,.slice none 0 0)] ?_))
 refine ie (A3 (bS Z (ip' 1 0 [(5,iv 0)] ?_)))
 refine ie (A9 (A1y (un fun (out:List Int)=>un fun (c:VR)=>un fun (pending:List UInt8)=>un fun (pendingq:Option Addr)=>un fun (pendingk:Nat) (i:Nat)=>(i≤s.length∧Z3 (s.drop i) out pending i=R∧bT 1 out.length c∧pending.length≤pendingk∧pending.length≤9223372036854775807∧pending.length≤4∧out.length≤3 * i,[(0,sv s),(3,.slice (va c.q) out.length c.k),(4,.slice pendingq pending.length pendingk),(5,iv (i:Int))],((vo H0 3 c out)++([])),[sl cJ pendingq pending],s.length - i)) (([]:List Int),VR.nil,([]:List UInt8),none,0,0) ⟨opx,hR,bT.nil,osf,osf,oom,oom⟩ bU c9 ?_))
 rintro ⟨out,c,pending,pendingq,pendingk,i⟩ ⟨ac,hR,g,n,o,a7,a8⟩
 have:=bT.le g
 refine A3 (bS Z (ip' 4 0 [(11,bv (decide ((i:Int)<(s.length:Int))))] ?_))
 refine ie (G3 Z (fun v=>?_) (fun v=>?_))
 ·have p:=bV v
  rw [A1a 0 (show i<s.length by omega)] at hR;replace hR:=V (Z3.eq_2 ..) hR
  refine A4 (nx (A3 (A9 (bS Z (ip' 3 7 [(15,.slice pendingq pending.length pendingk),(16,sv s),(17,iv (i:Int))] ?_)))))
  refine ix Z (E7q (T:=9) Tryz.underlying9 Z Z Z i Z opx) ?_
  have w:=C3 hR;clear hR;obtain ⟨a,d,hR⟩:=w
  refine zc Z (D8u d) fun ⟨⟨⟨z,k4⟩,y⟩,⟨⟨q8,k9⟩,t⟩⟩=>?_
  obtain ⟨am,ak⟩:=y
  obtain ⟨a4,a3⟩:=t
  have:=C2k pending (s.getD i 0);try rw [d] at this
  refine ip' 5 0 [(6,.slice z a.1.length k4),(7,.slice q8 a.2.length k9)] ?_
  refine ie (bS Z (ip' 2 0 [(4,.slice z a.1.length k4)] ?_))
  refine ie (A0 4 Z (ip' 2 2 [(23,.slice (va c.q) out.length c.k),(24,.slice q8 a.2.length k9)] ?_))
  refine it Z (Y6 (f:=H0) (r:=c) (xs:=out) (ys:=a.2) (pre:=[]) (post:=[]) D5t (fun _=>Z) (fun _=>Z) Z Z Z Z Z Z Z Z (A5 1 Z) g ore ore) fun ⟨l,j⟩=>?_
  have:=@List.length_append _ out a.2
  have:=bT.lc j
  refine ip' 1 0 [(3,.slice (va l.q) ((out++a.2).length) l.k)] ?_
  refine A1 (nx (A0 3 Z (ip' 1 2 [(12,iv (i:Int))] ?_)))
  refine ix Z (B1 Z Z Z Z opx) (ip' 1 0 [(5,iv ((i:Int)+1))] ?_)
  exact A1 (Z0 (z1:=(out,c,pending,pendingq,pendingk,i)) (out++a.2,l,a.1,z,k4,i+1) ⟨opx,hR,j,osf,osf,opx,odi⟩ olr bU c9)
 have p:=bV v
 rw [A1b p] at hR;replace hR:=V (Z3.eq_1 ..) hR
 refine F1 (nx (bS Z (ip' 2 3 [(26,.slice (va c.q) out.length c.k),(27,.slice pendingq pending.length pendingk)] ?_)))
 have w:=C3 hR;clear hR;obtain ⟨b,e,hR⟩:=w
 refine zc Z (D9q e) fun ⟨⟨a9,ah⟩,u⟩=>?_
 obtain ⟨a1,a6⟩:=u
 have:=C2r pending;try rw [e] at this
 refine it Z (Y6 (f:=H0) (r:=c) (xs:=out) (ys:=b) (pre:=[]) (post:=[]) D5t (fun _=>Z) (fun _=>Z) Z Z Z Z Z Z Z Z (A5 0 Z) g ore ore) fun ⟨m,h⟩=>?_
 have:=@List.length_append _ out b
 have:=bT.lc h
 refine ip' 1 0 [(2,.slice (va m.q) ((out++b).length) m.k)] ?_
 subst hR
 exact ie (A8 (cC hr hD (I9 Z (A6 Z)) ⟨m,h⟩ bU A7.nil))
def A6m:List Int→List UInt8→Nat→List UInt8
 | [],s,i=>s
 | hd_l0::tl_l0,s,i=>(B5 (B0j hd_l0) fun (a:List UInt8)=>A6m tl_l0 (s++a) (i+1))
def B3v (a:List Int):List UInt8 :=
 A6m a ([]:List UInt8) 0
theorem E4b {a:List Int} {d:Option Addr} {codesk:Nat} {R:List UInt8} (hR:B3v a=R) (j:a.length≤9223372036854775807:=by exact bW) (g:a.length≤codesk:=by exact bW) (n:a.length≤1000000:=by exact bW):J7 Tryz.prog 128 [.slice d a.length codesk] [sl H0 d a] (sv R):=by
 refine cD Tryz.func128 fun X hX hr hD=>?_
 replace hR:=V (B3v.eq_1 ..) hR
 refine bS Z (pp0 1 Z (ie (bS Z (bP 1 3 Z (ie (A3 (bS Z (bP 1 4 Z (ie (A9 (A1y (un fun s i=>(i≤a.length∧A6m (a.drop i) s i=R∧s.length≤4 * i,[(0,_),(3,sv s),(4,iv i)],_,_,a.length - i)) (_,0) ⟨opx,hR,oom⟩ bU A7.refl ?_)))))))))))
 rintro ⟨s,i⟩ ⟨o,hR,m⟩
 refine A3 (bS Z (bP 4 8 Z (ie (G3 Z (fun k=>?_) (fun k=>?_)))))
 ·have h:=bV k
  rw [A1a 0 (show i<a.length by omega)] at hR;replace hR:=V (A6m.eq_2 ..) hR
  refine A4 (nx (A3 (A9 (A0 8 Z (pp3 3 11 12 13 Z (H8 0 Z opx fun p f=>(ix Z (E7 I0 Z Z f Z i Z opx) (ix Z (B6 cE Z Z (F8 (sz:=1) f (fun _=>Z) 0 Z (gd 0 opx)) Z) ?_))))))))
  have l:=C3 hR;clear hR;obtain ⟨e,b,hR⟩:=l
  refine zv Z (D2n b) ?_
  have:=C0b (a.getD i 0);try rw [b] at this
  refine ix Z (zst Z Z Z) ?_
  have:=@List.length_append _ s e
  exact bP 1 3 Z (A1 (nx (A0 3 Z (bP 1 9 Z (ix Z (B1 Z Z Z Z opx) (bP 1 4 Z (A1 (Z0 (_,_) ⟨opx,hR,odi⟩ olr bU A7.refl))))))))
 have h:=bV k
 rw [A1b h] at hR;replace hR:=V (A6m.eq_1 ..) hR
 refine F1 (nx (bS Z (bP 2 2 Z ?_)))
 subst hR
 exact ie (A8 (F7 hr hD))
def A7k (s:List UInt8):Nat→List Int→Nat→Bool
 | 0,_,_=>false
 | fu1+1,l,i=>(bif (decide ((i:Int)<(l.length:Int))) then (bif ((decide ((l.getD i 0)<32))||((decide ((127:Int)≤(l.getD i 0)))&&(decide ((l.getD i 0)≤159)))) then false else A7k s fu1 l (i+1)) else (B5 (B3v l) fun (a:List UInt8)=>(decide (a=s))))
def A2m (s:List UInt8):Bool :=
 (bif (decide ((510:Int)<(s.length:Int))) then false else (B5 (A7l s) fun (a:List Int)=>A7k s ((a.length - 0)+1) a 0))
theorem D7a (s:List UInt8) (h:A2m s=true):s.length≤510:=by grind[A2m]
theorem D8v (hR:A2m s=R):J7 Tryz.prog 89 [sv s] [] (bv R):=by
 refine zco Tryz.func89 [(0,sv s)] fun X hX hr hD=>?_
 replace hR:=V (A2m.eq_1 ..) hR
 refine bS Z (ip' 1 0 [] ?_)
 refine ie (A3 (bS Z (ip' 3 0 [(7,bv (decide ((510:Int)<(s.length:Int))))] ?_)))
 refine ie ?_
 refine cK Z hR ?_ ?_<;>intro hR h1 a2
 ·refine bS Z (ip' 1 0 [(2,bv false)] ?_)
  subst hR
  refine ie (A8 ?_)
  exact F7 hr hD
 refine A4 (nx (bS Z (ip' 1 2 [(8,sv s)] ?_)))
 have t:=C3 hR;clear hR;obtain ⟨a,b,hR⟩:=t
 refine it Z (I4 (L2:=[]) (D9b (s:=s) b oyd) Z Z Z Z Z A7.nil (List.Perm.refl _) (fun ⟨j,g⟩=>((vo H0 3 j a)++([]))) (fun _=>by first|rfl|simp only [List.append_nil,List.cons_append,List.nil_append,List.append_assoc])) fun ⟨j,g⟩=>?_
 have:=bT.lc g
 have:=D3m s;try rw [b] at this
 refine ip' 1 0 [(3,.slice (va j.q) a.length j.k)] ?_
 refine ie (A3 (bS Z (ip' 1 0 [(4,iv 0)] ?_)))
 refine ie (A9 ?_)
 refine A1y (un fun (fu:Nat)=>un fun (l:List Int)=>un fun (lr:VR) (i:Nat)=>((l.length - i)<fu∧A7k s fu l i=R∧bT 1 l.length lr∧l.length≤10000,[(0,sv s),(3,.slice (va lr.q) l.length lr.k),(4,iv (i:Int))],((vo H0 3 lr l)++([])),[],fu)) ((a.length - 0)+1,a,j,0) ⟨(Nat.lt_succ_self _),hR,g,opx⟩ (mc [vo H0 3 j a] [true] Z oxs) A7.nil ?_
 rintro ⟨fu,l,lr,i⟩ ⟨a3,hR,d,a0⟩
 have:=bT.le d
 obtain ⟨fu1,rfl⟩:∃ m,fu=m+1:=⟨fu - 1,by omega⟩
 replace hR:=V (A7k.eq_2 ..) hR
 refine A3 (bS Z (bP 4 13 Z (ie ?_)))
 refine cK Z hR ?_ ?_<;>intro hR h5 a1
 ·refine A4 (nx (A3 (A9 (bS Z (cF 2 16 17 Z ?_)))))
  obtain ⟨b6,w⟩:=bT.some d opx
  obtain ⟨q8,o,f⟩:=lr
  let A:=[vo H0 3 (⟨some b6,o,f⟩:VR) l]
  obtain rfl:q8=some b6:=w
  refine ix Z (Z5 I0 Z Z Z i Z opx) (ix Z (Y2 (u:=iv (l.getD i 0)) (c:=H0) (sz:=1) cE (fun _=>Z) Z Z 0 Z i 0 Z (gd 0 opx) Z) (bP 2 21 Z ?_))
  refine zir 13 0 21 34 ((decide ((127:Int)≤(l.getD i 0)))&&(decide ((l.getD i 0)≤159))) (fun v y=>?_) ?_
  ·refine cF 2 22 23 Z (ix Z (Z5 I0 Z Z Z i Z opx) (ix Z (Y2 (u:=iv (l.getD i 0)) (c:=H0) (sz:=1) cE (fun _=>Z) Z Z 0 Z i 0 Z (gd 0 opx) Z) (bP 2 27 Z ?_)))
   refine zid 6 1 27 33 (decide ((l.getD i 0)≤159)) (fun x z=>?_) ?_
   ·exact cF 2 28 29 Z (ix Z (Z5 I0 Z Z Z i Z opx) (ix Z (Y2 (u:=iv (l.getD i 0)) (c:=H0) (sz:=1) cE (fun _=>Z) Z Z 0 Z i 0 Z (gd 0 opx) Z) (bP 2 33 Z (A1 (I1 6 27 33 x A7.nil (mc A [true] Z oxs) Z Z Z Z Z)))))
   exact bP 1 34 Z (A1 (I1 8 21 34 v A7.nil (mc A [true] Z oxs) Z Z Z Z Z))
  refine ie ?_
  refine zjb Z hR ?_ ?_<;>intro hR n
  ·have p:=bV n
   refine bS Z (bP 1 2 Z ?_)
   subst hR
   refine ie (A8 ?_)
   exact F7 hr hD
  have p:=bV n
  refine A4 (nx (A0 3 Z (bP 1 14 Z (ix Z (B1 Z Z Z Z opx) (bP 1 4 Z (A1 ?_))))))
  exact Z0 (z1:=(fu1+1,l,(⟨some b6,o,f⟩:VR),i)) (fu1,l,(⟨some b6,o,f⟩:VR),i+1) ⟨opx,hR,d,opx⟩ (Nat.lt_succ_self _) (mc A [true] Z oxs) A7.nil
 refine F1 (nx (bS Z (bP 1 35 Z ?_)))
 have:=bT.lc d
 refine P2 [] [] (T:=3) (c:=H0) (r:=lr) (xs:=l) d omm ?_
 have t:=C3 hR;clear hR;obtain ⟨h,e,hR⟩:=t
 refine zv Z (E4b e osf osf oyd) ?_
 refine bP 1 37 Z (ix Z (D4r Z Z Z) (bP 1 2 Z ?_))
 subst hR
 refine ie (A8 ?_)
 exact F7 hr hD
def B8q (d:Int) (c:Int) (b:Col) (a:List UInt8):List UInt8×Int :=
 (bif ((decide ((⟨44,d,c,b,a⟩:Act)={ZZ with kind:=44,text:=a}))&&(A2m a)) then ((([50,59]:List UInt8)++a),0) else (([]:List UInt8),2))
theorem D9f {e f:Int} {d:Col} {c:List UInt8} {R:List UInt8×Int} (hR:B8q e f d c=R):J7 Tryz.prog 57 [ag (A2 (⟨44,e,f,d,c⟩:Act))] [] (.tuple #[sv R.1,iv R.2]):=by
 refine cD Tryz.func57 fun X hX hr hD=>?_
 replace hR:=V (B8q.eq_1 ..) hR
 refine bS Z (cI 3 [] (fun o=>[(1,pt o 0)]) (fun _=>(A2 ⟨44,e,f,d,c⟩)) 51 fun o=>?_)
 refine ie (A3 (A9 (bS Z (bY 4 7 [0,0] [(9,ag (A2 ⟨44,e,f,d,c⟩)),(12,ag (A2 ({ZZ with kind:=44,text:=c})))] ?_))))
 refine ix Z (A3m D9w Z Z Z) (bP 1 14 Z ?_)
 refine zid 4 1 14 18 (A2m c) (fun x t=>?_) ?_
 ·refine cB 2 [0] 16 Z ?_
  refine zv Z (D8v Z) ?_
  refine bP 1 18 Z ?_
  exact A1 (I1 4 14 _ x A7.nil bU Z Z Z Z Z)
 refine bP 1 8 Z (ie ?_)
 refine zjb Z hR ?_ ?_<;>intro hR i
 ·have l:=bV i
  have s:=D7a c (by have q:=i;rw [Bool.and_eq_true] at q;exact q.2)
  refine bS Z (cB 2 [0] 20 Z ?_)
  refine ix Z (zst Z Z Z) ?_
  refine cF 2 2 3 Z ?_
  subst hR
  refine ie (A8 ?_)
  exact B6u hr hD
 refine bS Z (bY 6 18 [0,0,0] [(23,ag (A2 ⟨44,e,f,d,c⟩)),(28,ag (A2 ({ZZ with kind:=45,n:=e,color:=d})))] ?_)
 refine ix Z (A3m D9w Z Z Z) (bP 1 30 Z ?_)
 refine zid 4 12 30 34 (decide (0≤e)) (fun r v=>?_) ?_
 ·refine cB 4 [0] 34 Z ?_
  exact A1 (I1 2 30 _ r A7.nil bU Z Z Z Z Z)
 refine bP 1 35 Z ?_
 refine zia 4 7 35 39 (decide (e≤255)) (fun p=>?_) ?_
 ·have y:=bV p
  refine cB 4 [0] 39 Z ?_
  exact A1 (I1 2 35 _ p A7.nil bU Z Z Z Z Z)
 refine bP 1 40 Z ?_
 refine zia 5 1 40 45 (decide (d.kind=2)) (fun m=>?_) ?_
 ·have u:=bV m
  refine cB 5 [0] 45 Z ?_
  exact A1 (I1 2 40 _ m A7.nil bU Z Z Z Z Z)
 refine bP 1 22 Z (ie (G3 Z (fun h=>?_) (fun h=>?_)))
 ·have j:=bV h
  exfalso;simp [ZZ] at h
 refine bS Z (bY 4 8 [0,0] [(62,ag (A2 ⟨44,e,f,d,c⟩)),(65,ag (A2 ({ZZ with kind:=46,text:=c})))] ?_)
 refine ix Z (A3m D9w Z Z Z) (bP 1 67 Z ?_)
 refine zid 5 1 67 72 (decide ((c.length:Int)≤378)) (fun z w=>?_) ?_
 ·refine cB 5 [0] 72 Z ?_
  exact A1 (I1 2 67 _ z A7.nil bU Z Z Z Z Z)
 refine bP 1 61 Z (ie (G3 Z (fun g=>?_) (fun g=>?_)))
 ·have k:=bV g
  exfalso;simp [ZZ] at g
 refine A4 (nx (bS Z (cF 2 2 3 Z ?_)))
 subst hR
 refine ie (A8 ?_)
 exact B6u hr hD
def B3d (e:Int) (d:Int) (b:Col) (c:List UInt8):Bool :=
 (B5 (B8q e d b c) fun (a:List UInt8×Int)=>(decide (a.2=0)))
theorem D5w {f e:Int} {a:Col} {c:List UInt8} (hR:B3d f e a c=R):J7 Tryz.prog 31 [ag (A2 (⟨44,f,e,a,c⟩:Act))] [] (bv R):=by
 refine cD Tryz.func31 fun X hX hr hD=>?_
 replace hR:=V (B3d.eq_1 ..) hR
 refine bS Z (cI 2 [] (fun g=>[(1,pt g 0)]) (fun _=>(A2 ⟨44,f,e,a,c⟩)) 51 fun g=>?_)
 refine ie (A3 (bS Z (cB 2 [0] 6 Z (ie (A9 (bS Z (bP 2 7 Z (ie (A5t Z (A3 (bS Z (bP 2 12 Z ?_))))))))))))
 refine ie (K1 Z (A4 (nx (K1 Z (bS Z (bY 1 6 [0] [(17,ag (A2 ⟨44,f,e,a,c⟩))] ?_))))))
 have h:=C3 hR;clear hR;obtain ⟨d,b,hR⟩:=h
 refine zv Z (D9f b) ?_
 refine bP 5 4 Z (ie (bS Z (bP 3 2 Z ?_)))
 subst hR
 refine ie (A8 ?_)
 exact F7 hr hD
def X7 (f:FrmC):List (List Cel)→Nat→Bool
 | [],i=>(B3d 0 0 ZU f.title)
 | hd_l0::tl_l0,i=>(bif ((!decide ((hd_l0.length:Int)=f.cols))||(!(U5 hd_l0 false))) then false else X7 f tl_l0 (i+1))
def L6 (f:FrmC) (a:List (List Cel)):Bool :=
 (bif ((((((decide (f.cols<2))||(decide ((80:Int)<f.cols)))||(decide ((a.length:Int)<1)))||(decide ((40:Int)<(a.length:Int))))||(decide (f.shape<0)))||(decide ((6:Int)<f.shape))) then false else (bif ((((decide (f.cursor.row<0))||(decide ((a.length:Int)≤f.cursor.row)))||(decide (f.cursor.col<0)))||(decide (f.cols≤f.cursor.col))) then false else X7 f a 0))
theorem B9f (f:FrmC):∀ (a:List (List Cel)) (i:Nat),X7 f a i=true→∀ r ∈ a,(r.length:Int)=f.cols
 | [],i,_=>fun r hr=>by cases hr
 | x::a,i,h=>by
  simp only [X7] at h
  generalize hc:((!decide ((x.length:Int)=f.cols))||(!(U5 x false)))=d at h
  cases d with
  | true=>simp at h
  | false =>
   rw [cond_false] at h
   simp only [Bool.or_eq_false_iff,Bool.not_eq_false',decide_eq_true_eq] at hc
   intro r hr
   rcases List.mem_cons.1 hr with rfl | hr
   ·omega
   ·exact B9f f a (i+1) h r hr
theorem C3g {f:FrmC} {a:List (List Cel)} (h:L6 f a=true):2≤f.cols∧f.cols≤80∧1≤a.length∧a.length≤40∧∀ i,i<a.length→((a.getD i []).length:Int)=f.cols:=by
 unfold L6 at h
 generalize h1:((((((decide (f.cols<2))||(decide ((80:Int)<f.cols)))||(decide ((a.length:Int)<1)))||(decide ((40:Int)<(a.length:Int))))||(decide (f.shape<0)))||(decide ((6:Int)<f.shape)))=c at h
 cases c with
 | true=>simp at h
 | false =>
  rw [cond_false] at h
  simp only [Bool.or_eq_false_iff,decide_eq_false_iff_not] at h1
  generalize ((((decide (f.cursor.row<0))||(decide ((a.length:Int)≤f.cursor.row)))||(decide (f.cursor.col<0)))||(decide (f.cols≤f.cursor.col)))=d at h
  cases d with
  | true=>simp at h
  | false =>
   rw [cond_false] at h
   grind[B9f]
theorem C5x {f:FrmC} {fRows:List (List Cel)} {b:List Slc} {fRowsk:Nat} (hR:L6 f fRows=R) (a:B4 b fRows:=by exact bW) (m:fRows.length≤9223372036854775807:=by exact bW) (t:fRows.length≤fRowsk:=by exact bW) (hT:f.title.length≤100000000:=by exact bW):J7 Tryz.prog 12 [ag (C9 f ⟨e,fRows.length,fRowsk⟩)] [sl F0 e b,D8 D0 b fRows] (bv R):=by
 refine cD Tryz.func12 fun X hX hr hD=>?_
 replace hR:=V (L6.eq_1 ..) hR
 have:=a.1
 refine bS Z (cI 2 [] (fun w=>[(1,pt w 0)]) (fun _=>(C9 f ⟨e,fRows.length,fRowsk⟩)) 26 fun w=>?_)
 refine ie (A3 (bS Z (cB 4 [0] 7 Z ?_)))
 refine zir 4 22 7 11 (decide (80<f.cols)) (fun g2 ae=>?_) ?_
 ·refine cB 4 [0] 11 Z ?_
  exact zai 2 7 _ g2
 refine bP 1 12 Z ?_
 refine zio 5 16 12 17 (decide ((fRows.length:Int)<1)) (fun g3=>?_) ?_
 ·have ab:=bV g3
  refine cB 5 [0] 17 Z ?_
  exact zai 2 12 _ g3
 refine bP 1 18 Z ?_
 refine zio 5 10 18 23 (decide (40<(fRows.length:Int))) (fun g4=>?_) ?_
 ·have ah:=bV g4
  refine cB 5 [0] 23 Z ?_
  exact zai 2 18 _ g4
 refine bP 1 24 Z ?_
 refine zio 4 5 24 28 (decide (f.shape<0)) (fun g5=>?_) ?_
 ·have ac:=bV g5
  refine cB 4 [0] 28 Z ?_
  exact zai 2 24 _ g5
 refine bP 1 29 Z ?_
 refine zio 4 0 29 33 (decide (6<f.shape)) (fun y=>?_) ?_
 ·have a7:=bV y
  refine cB 4 [0] 33 Z ?_
  exact zai 2 29 _ y
 refine ie ?_
 refine zjb Z hR ?_ ?_<;>intro hR h7
 ·have x:=bV h7
  refine bS Z (bP 1 2 Z ?_)
  subst hR
  refine ie (A8 ?_)
  exact F7 hr hD
 have x:=bV h7
 refine A4 (nx (A3 (bS Z (cB 5 [0] 38 Z ?_))))
 refine zir 8 14 38 46 (decide (fRows.length≤f.cursor.row)) (fun g8 af=>?_) ?_
 ·refine cB 8 [0,0] 46 Z ?_
  exact zai 2 38 _ g8
 refine bP 1 47 Z ?_
 refine zio 5 8 47 52 (decide (f.cursor.col<0)) (fun g9=>?_) ?_
 ·have a8:=bV g9
  refine cB 5 [0] 52 Z ?_
  exact zai 2 47 _ g9
 refine bP 1 53 Z ?_
 refine zio 7 0 53 60 (decide (f.cols≤f.cursor.col)) (fun u=>?_) ?_
 ·have a2:=bV u
  refine cB 7 [0,0] 60 Z ?_
  exact zai 2 53 _ u
 refine ie ?_
 refine zjb Z hR ?_ ?_<;>intro hR p
 ·have l:=bV p
  refine bS Z (bP 1 2 Z ?_)
  subst hR
  refine ie (A8 ?_)
  exact F7 hr hD
 refine A4 (nx (A3 (bS Z (bP 1 3 Z ?_))))
 refine ie (A9 (A1y (fun i=>(i≤fRows.length∧X7 f (fRows.drop i) i=R,[(1,pt w 0),(3,iv i)],[_],_,fRows.length - i)) 0 ⟨opx,hR⟩ bU A7.refl ?_))
 rintro i ⟨z,hR⟩
 refine A3 (bS Z (bY 5 0 [0] [(65,bv (decide (i<(fRows.length:Int))))] ?_))
 refine ie (G3 Z (fun j=>?_) (fun j=>?_))
 ·have h:=bV j
  rw [A1a [] (show i<fRows.length by omega)] at hR;replace hR:=V (X7.eq_2 ..) hR
  refine A4 (nx (A3 (A9 (sd 19 Z oki Z ?_))))
  refine zdg 3 16 [0] [(69,.slice e fRows.length fRowsk),(70,iv i)] ?_
  refine B2k 0 Z (by have:=a.1;omega) fun a9 g=>(B7m (Q6 (k:=i) (d:=⟨none,0,0⟩) a 1 Z (by have:=a.1;omega)) ?_)
  have:=Q9 a (k:=i) (d:=(⟨none,0,0⟩:Slc)) (by have:=a.1;omega)
  refine dd Z (E7 B0s Z Z g Z i Z opx) (dd Z (G1 (B6 B5c Z Z (F8 (sz:=1) g (fun _=>Z) 1 Z (gd ⟨none,0,0⟩ (by have:=a.1;omega))) Z) (M2 a (by have:=a.1;omega))) ?_)
  refine zdg 5 9 [0] [(77,bv (!decide (((fRows.getD i []).length)=f.cols)))] ?_
  refine zdO 9 0 77 86 (!(U5 (fRows.getD i []) false)) (fun s=>?_) ?_
  ·have a0:=bV s
   refine zdg 3 6 [0] [(79,.slice e fRows.length fRowsk),(80,iv i)] ?_
   refine dd Z (E7 B0s Z Z g Z i Z opx) (dd Z (G1 (B6 B5c Z Z (F8 (sz:=1) g (fun _=>Z) 1 Z (gd ⟨none,0,0⟩ (by have:=a.1;omega))) Z) (M2 a (by have:=a.1;omega))) ?_)
   refine zdg 1 3 [] [(83,ag [.slice ((b.getD i ⟨none,0,0⟩).q) ((fRows.getD i []).length) ((b.getD i ⟨none,0,0⟩).k),bv false])] ?_
   refine zvd Z (D8a Z) ?_
   refine pd1 2 86 Z ?_
   exact zad 8 77 _ s
  refine de ?_
  refine zjb Z hR ?_ ?_<;>intro hR o
  ·have r:=bV o
   refine bS Z (bP 1 2 Z ?_)
   subst hR
   refine ie (A8 ?_)
   exact F7 hr hD
  refine A4 (nx (A0 3 Z (bP 1 66 Z (ix Z (B1 Z Z Z Z opx) (bP 1 3 Z (A1 ?_))))))
  exact Z0 _ ⟨opx,hR⟩ olr bU c9
 have h:=bV j
 rw [A1b h] at hR;replace hR:=V (X7.eq_1 ..) hR
 refine F1 (nx (bS Z (bY 3 2 [0] [(89,ag (A2 ({ZZ with kind:=44,text:=f.title})))] ?_)))
 refine zv Z (D5w Z) ?_
 refine bP 1 2 Z ?_
 subst hR
 refine ie (A8 ?_)
 exact F7 hr hD
def A4o (a:FrmC) (c:List (List Cel)) (b:FrmC) (d:List (List Cel)):Bool :=
 ((decide (a.cols=b.cols))&&(decide ((c.length:Int)=(d.length:Int))))
theorem D8k {a:FrmC} {aRows:List (List Cel)} {b:FrmC} {bRows:List (List Cel)} {d:List Slc} {c:List Slc} (hR:A4o a aRows b bRows=R) (f:B4 d aRows:=by exact bW) (i:aRows.length≤9223372036854775807:=by exact bW) (k:aRows.length≤aRowsk:=by exact bW) (e:B4 c bRows:=by exact bW) (j:bRows.length≤9223372036854775807:=by exact bW) (l:bRows.length≤bRowsk:=by exact bW):J7 Tryz.prog 20 [ag (C9 a ⟨h,aRows.length,aRowsk⟩),ag (C9 b ⟨g,bRows.length,bRowsk⟩)] [sl F0 h d,D8 D0 d aRows,sl F0 g c,D8 D0 c bRows] (bv R):=by
 refine cD Tryz.func20 fun X hX hr hD=>?_
 replace hR:=V (A4o.eq_1 ..) hR
 refine bS Z (B3r 3 [] (fun m n=>[(2,pt m 0),(3,pt n 0)]) (fun _ _=>(C9 a ⟨h,aRows.length,aRowsk⟩)) (fun _ _=>(C9 b ⟨g,bRows.length,bRowsk⟩)) 26 26 fun m n=>?_)
 refine ie (bS Z (cB 6 [1,0] 10 Z (zid 8 1 10 18 (decide (aRows.length=(bRows.length:Int))) (fun p o=>?_) ?_)))
 ·exact cB 8 [1,0] 18 Z (zai 2 10 _ p)
 refine bP 1 4 Z ?_
 subst hR
 exact ie (A8 (F7 hr hD))
def N7 (a:FrmC) (d:List (List Cel)) (b:FrmC) (e:List (List Cel)) (c:Cur):Int :=
 (bif ((!(L6 a d))||(!(L6 b e))) then 330 else (bif ((!(A4o a d b e))||(!(A1j a.cols (d.length:Int) c))) then 2 else 0))
theorem F2t {f:FrmC} {a:List (List Cel)} (h:L6 f a=true):0≤f.cursor.row∧f.cursor.row<(a.length:Int)∧0≤f.cursor.col∧f.cursor.col<f.cols:=by
 refine Decidable.byContradiction fun b=>?_
 unfold L6 at h
 grind
theorem B7f {a:FrmC} {aR:List (List Cel)} {b:FrmC} {bR:List (List Cel)} {c:Cur} (h:N7 a aR b bR c=0):L6 a aR=true∧L6 b bR=true∧A4o a aR b bR=true∧A1j a.cols (aR.length:Int) c=true:=by
 unfold N7 at h
 grind
theorem F5n {a:FrmC} {aR:List (List Cel)} {b:FrmC} {bR:List (List Cel)} {c:Cur} (h:N7 a aR b bR c=0):(0≤c.row∧c.row≤40∧0≤b.cursor.row∧b.cursor.row≤40)∧(0≤c.col∧c.col≤80∧0≤b.cursor.col∧b.cursor.col≤80):=by
 obtain ⟨j,f,d,e⟩:=B7f h
 have i:=E1i e
 have g:=F2t f
 unfold A4o at d
 grind
theorem D9g (a:FrmC) (d:List (List Cel)) (b:FrmC) (g:List (List Cel)) (c:Cur) (j:Option Addr) (m:List Slc) (k:Nat) (h:Option Addr) (l:List Slc) (i:Nat) (f:B4 m d) (n:d.length≤9223372036854775807) (q:d.length≤k) (e:B4 l g) (o:g.length≤9223372036854775807) (s:g.length≤i) (hT:a.title.length≤100000000) (a0:b.title.length≤100000000) (R:Int) (hR:N7 a d b g c=R):J7 Tryz.prog 7 [ag (C9 a ⟨j,d.length,k⟩),ag (C9 b ⟨h,g.length,i⟩),ag (F5 c)] [sl F0 j m,D8 D0 m d,sl F0 h l,D8 D0 l g] (iv R):=by
 refine cD Tryz.func7 fun X hX hr hD=>?_
 replace hR:=V (N7.eq_1 ..) hR
 refine bS Z (D8c 4 0 [] (fun t u v=>[(3,pt t 0),(4,pt u 0),(5,pt v 0)]) (fun t u v=>[bx v (F5 c) 29,bx u (C9 b ⟨h,g.length,i⟩) 26,bx t (C9 a ⟨j,d.length,k⟩) 26]) (fun t u v=>?_))
 refine ie (A3 (A9 (bS Z (bY 1 8 [2] [(8,ag (C9 a ⟨j,d.length,k⟩))] ?_))))
 refine zv Z (C5x Z f) ?_
 refine bP 2 11 Z ?_
 refine zio 4 1 11 15 (!(L6 b g)) (fun y=>?_) ?_
 ·refine bY 1 3 [1] [(12,ag (C9 b ⟨h,g.length,i⟩))] ?_
  refine zv Z (C5x Z e) ?_
  refine bP 2 15 Z ?_
  exact zai 4 11 _ y
 refine bP 1 7 Z (ie (G3 Z (fun r=>?_) (fun r=>?_)))
 ·have x:=bV r
  replace hR:=bt hR r
  refine bS Z (bP 1 6 Z ?_)
  subst hR
  refine ie (A8 ?_)
  exact F7 hr hD
 replace hR:=bf hR r
 refine bS Z (bY 2 13 [2,1] [(17,ag (C9 a ⟨j,d.length,k⟩)),(18,ag (C9 b ⟨h,g.length,i⟩))] ?_)
 refine zv Z (D8k Z f bW bW e) ?_
 refine bP 2 21 Z ?_
 refine zio 9 1 21 30 (!(A1j a.cols d.length c)) (fun z=>?_) ?_
 ·refine bY 6 3 [2,2,0] [(23,iv a.cols),(26,iv d.length),(27,ag (F5 c))] ?_
  refine zv Z (E9k Z) ?_
  refine bP 2 30 Z ?_
  exact zai 6 21 _ z
 refine bP 1 16 Z (ie (G3 Z (fun p=>?_) (fun p=>?_)))
 ·have w:=bV p
  replace hR:=bt hR p
  refine bS Z (bP 1 6 Z ?_)
  subst hR
  refine ie (A8 ?_)
  exact F7 hr hD
 replace hR:=bf hR p
 refine A4 (nx (bS Z (bP 1 6 Z ?_)))
 subst hR
 refine ie (A8 ?_)
 exact F7 hr hD
def P8 (a:FrmC) (c:List (List Cel)) (b:FrmC) (d:List (List Cel)) (s:Sp3):Bool :=
 (bif (((((decide (s.row<0))||(decide ((c.length:Int)≤s.row)))||(decide (s.frm<0)))||(decide (a.cols<s.tt)))||(decide (s.tt≤s.frm))) then false else (bif ((decide (((c.getD ((s.row).toNat) []).getD ((s.frm).toNat) ZV).wide=2))||(decide (((d.getD ((s.row).toNat) []).getD ((s.frm).toNat) ZV).wide=2))) then false else ((decide (s.tt=a.cols))||((!decide (((c.getD ((s.row).toNat) []).getD ((s.tt).toNat) ZV).wide=2))&&(!decide (((d.getD ((s.row).toNat) []).getD ((s.tt).toNat) ZV).wide=2))))))
theorem E3v {a:FrmC} {aRows:List (List Cel)} {b:FrmC} {bRows:List (List Cel)} {s:Sp3} {l:Option Addr} {h:List Slc} {j:Option Addr} {g:List Slc} (hR:P8 a aRows b bRows s=R) (f:B4 h aRows:=by exact bW) (y:aRows.length≤9223372036854775807:=by exact bW) (x:aRows.length≤aRowsk:=by exact bW) (e:B4 g bRows:=by exact bW) (w:bRows.length≤9223372036854775807:=by exact bW) (z:bRows.length≤bRowsk:=by exact bW) (hz:aRows.length≤40∧aRows.length=bRows.length∧0≤a.cols∧a.cols≤80:=by exact bW) (a3:∀ i,i<aRows.length→((aRows.getD i []).length:Int)=a.cols:=by exact bW) (a6:∀ i,i<bRows.length→((bRows.getD i []).length:Int)=a.cols:=by exact bW):J7 Tryz.prog 8 [ag (C9 a ⟨l,aRows.length,aRowsk⟩),ag (C9 b ⟨j,bRows.length,bRowsk⟩),ag (H1 s)] [sl F0 l h,D8 D0 h aRows,sl F0 j g,D8 D0 g bRows] (bv R):=by
 refine cD Tryz.func8 fun X hX hr hD=>?_
 replace hR:=V (P8.eq_1 ..) hR
 have:=f.1
 have:=e.1
 refine bS Z (D8c 4 0 [] (fun b1 b2 b3=>[(3,pt b1 0),(4,pt b2 0),(5,pt b3 0)]) (fun b1 b2 b3=>[bx b3 (H1 s) 37,bx b2 (C9 b ⟨j,bRows.length,bRowsk⟩) 26,bx b1 (C9 a ⟨l,aRows.length,aRowsk⟩) 26]) (fun b1 b2 b3=>?_))
 refine ie (A3 (bS Z (cB 4 [0] 12 Z ?_)))
 refine zir 7 19 12 19 (decide (aRows.length≤s.row)) (fun g4 ao=>?_) ?_
 ·refine cB 7 [0,2] 19 Z ?_
  exact zai 2 12 _ g4
 refine bP 1 20 Z ?_
 refine zio 4 14 20 24 (decide (s.frm<0)) (fun g5=>?_) ?_
 ·have al:=bV g5
  refine cB 4 [0] 24 Z ?_
  exact zai 2 20 _ g5
 refine bP 1 25 Z ?_
 refine zio 6 7 25 31 (decide (a.cols<s.tt)) (fun g6=>?_) ?_
 ·have aj:=bV g6
  refine cB 6 [0,2] 31 Z ?_
  exact zai 2 25 _ g6
 refine bP 1 32 Z ?_
 refine zio 6 0 32 38 (decide (s.tt≤s.frm)) (fun g7=>?_) ?_
 ·have ai:=bV g7
  refine cB 6 [0,0] 38 Z ?_
  exact zai 2 32 _ g7
 refine ie ?_
 refine zjb Z hR ?_ ?_<;>intro hR h8
 ·have a4:=bV h8
  refine bS Z (ip' 1 0 [(6,bv false)] ?_)
  subst hR
  refine ie (A8 ?_)
  exact F7 hr hD
 have a4:=bV h8
 have ar:=a3 (s.row).toNat
 have aq:=a6 (s.row).toNat
 refine A4 (nx (sd 14 Z oki Z ?_))
 refine zdg 4 10 [2,0] [(40,.slice l aRows.length aRowsk),(42,iv s.row)] ?_
 refine B2k 0 Z (by have:=f.1;omega) fun a9 o=>(B7m (Q6 (k:=(s.row).toNat) (d:=⟨none,0,0⟩) f 1 Z (by have:=f.1;omega)) ?_)
 have:=Q9 f (k:=(s.row).toNat) (d:=(⟨none,0,0⟩:Slc)) (by have:=f.1;omega)
 refine dd Z (E7 B0s Z Z o Z ((s.row).toNat) opx opx) (dd Z (G1 (B6 B5c Z Z (F8 (sz:=1) o (fun _=>Z) 1 Z (gd ⟨none,0,0⟩ (by have:=f.1;omega))) Z) (M2 f (by have:=f.1;omega))) ?_)
 refine zdg 4 4 [1,0] [(46,.slice j bRows.length bRowsk),(48,iv s.row)] ?_
 refine B2k 3 Z (by have:=e.1;omega) fun an p=>(B7m (Q6 (k:=(s.row).toNat) (d:=⟨none,0,0⟩) e 4 Z (by have:=e.1;omega)) ?_)
 have:=Q9 e (k:=(s.row).toNat) (d:=(⟨none,0,0⟩:Slc)) (by have:=e.1;omega)
 refine dd Z (E7 B0s Z Z p Z ((s.row).toNat) opx opx) (dd Z (G1 (B6 B5c Z Z (F8 (sz:=1) p (fun _=>Z) 4 Z (gd ⟨none,0,0⟩ (by have:=e.1;omega))) Z) (M2 e (by have:=e.1;omega))) (pd2 2 7 8 Z (de (A3 (bS Z (pl2 3 [0] 51 53 Z (H8 1 Z opx fun av m=>(ix Z (E7 A1n Z Z m Z ((s.frm).toNat) opx opx) (bP 1 55 Z (ix Z (B6 cE Z Z (U8 (F8 (sz:=12) m (fun _=>Z) 1 Z (gd _ opx)) (ws:=[iv (((aRows.getD _ _).getD _ ZV).wide)]) 3 1 Z) Z) (bP 2 58 Z ?_)))))))))))
 refine zir 8 0 58 66 (decide (((bRows.getD ((s.row).toNat) []).getD ((s.frm).toNat) ZV).wide=2)) (fun a5 aa=>?_) ?_
 ·refine pl2 3 [0] 59 61 Z (H8 0 Z opx fun ak r=>(ix Z (E7 A1n Z Z r Z ((s.frm).toNat) opx opx) (bP 1 63 Z (ix Z (B6 cE Z Z (U8 (F8 (sz:=12) r (fun _=>Z) 0 Z (gd _ opx)) (ws:=[iv (((bRows.getD _ _).getD _ ZV).wide)]) 3 1 Z) Z) (bP 2 66 Z ?_)))))
  exact zai 7 58 _ a5
 refine ie ?_
 refine zjo Z hR ?_ ?_<;>intro hR au af
 ·refine bS Z (bP 1 6 Z ?_)
  subst hR
  refine ie (A8 ?_)
  exact F7 hr hD
 refine A4 (nx (bS Z (cB 6 [0,2] 72 Z ?_)))
 refine zir 17 1 72 89 ((!decide (((aRows.getD ((s.row).toNat) []).getD ((s.tt).toNat) ZV).wide=2))&&(!decide (((bRows.getD ((s.row).toNat) []).getD ((s.tt).toNat) ZV).wide=2))) (fun a7 ac=>?_) ?_
 ·refine pl2 3 [0] 73 75 Z (ix Z (E7 A1n Z Z m Z ((s.tt).toNat) opx opx) (bP 1 77 Z (ix Z (B6 cE Z Z (U8 (F8 (sz:=12) m (fun _=>Z) 1 Z (gd _ opx)) (ws:=[iv (((aRows.getD _ _).getD _ ZV).wide)]) 3 1 Z) Z) (bP 2 80 Z ?_))))
  refine zia 8 1 80 88 (!decide (((bRows.getD ((s.row).toNat) []).getD ((s.tt).toNat) ZV).wide=2)) (fun u=>?_) ?_
  ·have ab:=bV u
   refine pl2 3 [0] 81 83 Z (H8 0 Z opx fun ap t=>(ix Z (E7 A1n Z Z t Z ((s.tt).toNat) opx opx) (bP 1 85 Z (ix Z (B6 cE Z Z (U8 (F8 (sz:=12) t (fun _=>Z) 0 Z (gd _ opx)) (ws:=[iv (((bRows.getD _ _).getD _ ZV).wide)]) 3 1 Z) Z) (bP 2 88 Z ?_)))))
   exact zai 7 80 _ u
  refine bP 1 89 Z ?_
  exact zai 9 72 _ a7
 refine bP 1 6 Z ?_
 subst hR
 refine ie (A8 ?_)
 exact F7 hr hD
def O8 (a:Int) (m:Int):Act :=
 {ZZ with kind:=39,n:=a,m:=m}
theorem B4y {a:Int} {R:Act} (hR:O8 a m=R):J7 Tryz.prog 72 [iv a,iv m] [] (ag (A2 R)):=by
 refine cD Tryz.func72 fun X hX hr hD=>?_
 replace hR:=V (O8.eq_1 ..) hR
 refine bS Z (cI 1 [] (fun b=>[(4,pt b 0)]) (fun _=>(A2 ZZ)) 51 fun b=>?_)
 refine ie (bS Z (zru 4 [0] [] 0 (bx b (A2 ({ZZ with kind:=39,n:=a,m:=m})) 51) ?_))
 subst hR
 exact ie (A8 (cC hr hD (I9 Z (E8 C5s Z 0 Z Z Z)) () bU A7.nil))
def Z4 (a:Int) (c:Col):Act :=
 {ZZ with kind:=39,n:=a,color:=c}
theorem C1z {a:Int} {c:Col} {R:Act} (hR:Z4 a c=R):J7 Tryz.prog 73 [iv a,ag (R1 c)] [] (ag (A2 R)):=by
 refine cD Tryz.func73 fun X hX hr hD=>?_
 replace hR:=V (Z4.eq_1 ..) hR
 refine bS Z (B3r 2 [] (fun b d=>[(3,pt b 0),(4,pt d 0)]) (fun _ _=>(R1 c)) (fun _ _=>(A2 ZZ)) 49 51 fun b d=>?_)
 refine ie (bS Z (zrg 4 0 [1,0] [] [bx d (A2 ({ZZ with kind:=39,n:=a,color:=c})) 51,bx b (R1 c) 49] ?_))
 subst hR
 exact ie (A8 (cC hr hD (I9 Z (E8 C5s Z 0 Z Z Z)) () bU A7.nil))
def A4s (c:Int) (a:List Act→Int→List Act) (b:List Act):List Act :=
 a b (2 * c)
def A3o (b:Int) (a:List Act→Int→List Act) (c:List Act):List Act :=
 a c (2 * b)
def A3q (to_:Sty) (c:List Act) (b:Int) (a:List Act→Int→List Act) (d:Bool):List Act :=
 (bif ((decide ((0:Int)<(cH .and .i64 to_.attr b)))&&(!d)) then A3o b a (c++([(O8 1 b)]:List Act)) else A3o b a c)
def A5w (from_:Sty) (to_:Sty) (a:List Act):List Act :=
 (bif (!(decide (from_.line=to_.line))) then (a++([(Z4 6 to_.line)]:List Act)) else a)
def A5q (from_:Sty) (to_:Sty) (a:List Act):List Act :=
 (bif (!(decide (from_.back=to_.back))) then A5w from_ to_ (a++([(Z4 5 to_.back)]:List Act)) else A5w from_ to_ a)
def A3n (from_:Sty) (to_:Sty) (a:List Act):List Act :=
 (bif (!(decide (from_.fore=to_.fore))) then A5q from_ to_ (a++([(Z4 4 to_.fore)]:List Act)) else A5q from_ to_ a)
def M9 (from_:Sty) (to_:Sty) (a:Bool):Nat→List Act→Int→List Act
 | 0,_,_=>[]
 | fu3+1,out3,bit1=>(bif (decide (bit1<256)) then (bif (a&&(decide (bit1<4))) then A3q to_ out3 bit1 (M9 from_ to_ a fu3) false else A3q to_ out3 bit1 (M9 from_ to_ a fu3) (decide ((0:Int)<(cH .and .i64 from_.attr bit1)))) else (bif (!decide (from_.under=to_.under)) then A3n from_ to_ (out3++([(O8 3 to_.under)]:List Act)) else A3n from_ to_ out3))
def V3 (from_:Sty) (to_:Sty) (a:Bool):Nat→List Act→Int→List Act
 | 0,_,_=>[]
 | fu1+1,out1,bit=>(bif (decide (bit<256)) then (bif (decide ((cH .and .i64 to_.attr bit)<(cH .and .i64 from_.attr bit))) then A4s bit (V3 from_ to_ a fu1) (out1++([(O8 2 bit)]:List Act)) else A4s bit (V3 from_ to_ a fu1) out1) else M9 from_ to_ a (((512:Int) - 1).toNat+1) out1 1)
def A1i (from_:Sty) (to_:Sty) (out:List Act) (a:Bool):List Act :=
 V3 from_ to_ a (((512:Int) - 4).toNat+1) out 4
def A1s (from_:Sty) (to_:Sty):List Act :=
 (bif ((decide ((cH .and .i64 to_.attr 1)<(cH .and .i64 from_.attr 1)))||(decide ((cH .and .i64 to_.attr 2)<(cH .and .i64 from_.attr 2)))) then A1i from_ to_ (([]:List Act)++([(O8 2 3)]:List Act)) true else A1i from_ to_ ([]:List Act) false)
theorem B5a (f t:Sty) (l:List Act):A3n f t l=l++(Y7 (!decide (f.fore=t.fore)) (kC 4 t.fore)++(Y7 (!decide (f.back=t.back)) (kC 5 t.back)++Y7 (!decide (f.line=t.line)) (kC 6 t.line))):=by grind[A3n,A5q,A5w,Z4,Y7,kC]
def E3d (f:Sty) (g:Bool) (b:Int):Bool:=bif g&&decide (b<4) then false else decide ((0:Int)<(cH .and .i64 f.attr b))
def C6a (f t:Sty) (g:Bool) (b:Int):Bool:=decide ((0:Int)<(cH .and .i64 t.attr b))&&!(E3d f g b)
def C9e (f t:Sty) (b:Int):Bool:=decide ((cH .and .i64 t.attr b)<(cH .and .i64 f.attr b))
def D4m (f t:Sty):Bool:=(decide ((cH .and .i64 t.attr 1)<(cH .and .i64 f.attr 1)))||(decide ((cH .and .i64 t.attr 2)<(cH .and .i64 f.attr 2)))
def D9u (f t:Sty):List Act:=Y7 (D4m f t) (kA 2 3)++(([4,8,16,32,64,128]:List Int).flatMap (fun b=>Y7 (C9e f t b) (kA 2 b))++(C2q.flatMap (fun b=>Y7 (C6a f t (D4m f t) b) (kA 1 b))++B3t f t))
theorem U3 (f t:Sty) (g:Bool) (F:Nat) (b:Int) (l:List Act) (hb:b≤255):M9 f t g (F+1) l b=M9 f t g F (l++Y7 (C6a f t g b) (kA 1 b)) (2 * b):=by
 rw [M9,decide_eq_true (by omega:b<256),cond_true]
 have e:∀ a:Bool,A3q t l b (M9 f t g F) a=M9 f t g F (l++Y7 (decide ((0:Int)<(cH .and .i64 t.attr b))&&!a) (kA 1 b)) (2 * b):=by
  intro a
  unfold A3q
  cases decide ((0:Int)<(cH .and .i64 t.attr b))&&!a with
  | true=>rfl
  | false=>simp[A3o,Y7]
 unfold C6a E3d
 grind
theorem C3v (f t:Sty) (g:Bool) (F:Nat) (l:List Act):M9 f t g (F+1) l 256=l++B3t f t:=by
 rw [M9,decide_eq_false (by omega:¬ (256:Int)<256),cond_false]
 unfold B3t
 cases decide (f.under=t.under) with
 | true=>simp[B5a,Y7]
 | false=>simp only [Bool.not_false,cond_true,B5a,Y7,List.append_assoc];rfl
theorem C5t (f t:Sty) (g:Bool) (F:Nat) (a:9≤F) (l:List Act):M9 f t g F l 1=l++(C2q.flatMap (fun b=>Y7 (C6a f t g b) (kA 1 b))++B3t f t):=by
 obtain ⟨G,rfl⟩:∃ G,F=G+1+1+1+1+1+1+1+1+1:=⟨F - 9,by omega⟩
 simp[U3,C3v,C2q]
theorem A0i (f t:Sty) (g:Bool) (F:Nat) (b:Int) (l:List Act) (hb:b≤255):V3 f t g (F+1) l b=V3 f t g F (l++Y7 (C9e f t b) (kA 2 b)) (2 * b):=by
 rw [V3,decide_eq_true (by omega:b<256),cond_true]
 generalize ((512:Int) - 1).toNat+1=Zb
 show (bif C9e f t b then _ else _)=_
 cases C9e f t b with
 | true=>rfl
 | false=>simp[A4s,Y7]
theorem C3o (f t:Sty) (g:Bool) (F:Nat) (l:List Act):V3 f t g (F+1) l 256=l++(C2q.flatMap (fun b=>Y7 (C6a f t g b) (kA 1 b))++B3t f t):=by simp[V3,C5t]
theorem B6f (f t:Sty) (g:Bool) (l:List Act):A1i f t l g=l++(([4,8,16,32,64,128]:List Int).flatMap (fun b=>Y7 (C9e f t b) (kA 2 b))++(C2q.flatMap (fun b=>Y7 (C6a f t g b) (kA 1 b))++B3t f t)):=by
 rw [A1i]
 generalize hF:((512:Int) - 4).toNat+1=F
 obtain ⟨G,rfl⟩:∃ G,F=G+1+1+1+1+1+1+1:=⟨F - 7,by omega⟩
 simp[A0i,C3o]
theorem C9n (f t:Sty) (X:List Act) (c:Bool) (a:D4m f t=c) (h:(bif c then A1i f t (([]:List Act)++([(O8 2 3)]:List Act)) true else A1i f t ([]:List Act) false)=X):X=D9u f t:=by
 unfold D9u
 rw [a]
 clear a
 cases c with
 | true=>rw [cond_true,B6f] at h;rw [← h,List.nil_append];rfl
 | false=>rw [cond_false,B6f] at h;rw [← h];rfl
theorem B0k (f t:Sty):A1s f t=D9u f t:=C9n f t _ _ Z (A1s.eq_1 f t).symm
theorem E6m (f t:Sty):∀ a ∈ D9u f t,C3w a:=by
 intro a d
 have e:∀ n m,C3w (kA n m):=fun n m=>⟨rfl,rfl⟩
 have g:∀ n c,C3w (kC n c):=fun n c=>⟨rfl,rfl⟩
 unfold D9u B3t at d
 simp only [List.mem_append,List.mem_flatMap] at d
 grind[B0l]
theorem E5o (f t:Sty):(D9u f t).length≤19:=by
 have h:=D0i
 unfold D9u B3t C2q
 simp only [List.flatMap_cons,List.flatMap_nil,List.length_append,List.length_nil]
 grind
theorem B3n (f t:Sty):(A1s f t).length≤1100:=by grind[B0k,E5o]
theorem B3c (f t:Sty):∀ a ∈ A1s f t,C3w a:=by grind[B0k,E6m]
theorem C2p {from_ to_:Sty} {R:List Act} (hR:A1s from_ to_=R):cM Tryz.prog 45 [ag (B7 from_),ag (B7 to_)] [] [] ({r:VR // bT 6 R.length r}) (fun x=>.slice (va x.1.q) R.length x.1.k) (fun x=>((vo A2 51 x.1 R)++([]))) (fun x=>[]):=by
 refine cD Tryz.func45 fun X hX hr hD=>?_
 replace hR:=V (A1s.eq_1 ..) hR
 refine bS Z (B3r 3 [] (fun w y=>[(2,pt w 0),(3,pt y 0)]) (fun _ _=>(B7 from_)) (fun _ _=>(B7 to_)) 63 63 fun w y=>?_)
 let D:=bx y (B7 to_) 63
 let B:=bx w (B7 from_) 63
 let A:=[D,B]
 refine ie (bS Z (bP 1 5 Z (ie (bS Z (bP 1 6 Z (ie (A7i (un fun out=>un fun a7 i=>(A1i from_ to_ out i=R∧bT 6 out.length a7∧out.length≤1,[(2,pt w 0),(3,pt y 0),(5,.slice (va a7.q) out.length a7.k),(6,bv i)],(D::B::((vo A2 51 a7 out)++([]))),[])) ?_ ?_)))))))
 ·refine bS Z (cB 8 [1,0] 17 Z ?_)
  refine zir 8 0 17 25 (decide ((cH .and .i64 to_.attr 2)<(cH .and .i64 from_.attr 2))) (fun g3 bd=>?_) ?_
  ·refine cB 8 [1,0] 25 Z ?_
   exact A1 (I1 2 17 _ g3 A7.nil bU Z Z Z Z Z)
  refine ie ?_
  refine zjo Z hR ?_ ?_<;>intro hR h4 bg
  ·refine bS Z (bP 1 26 Z ?_)
   refine zv Z (B4y Z) ?_
   refine it Z (B0 (c:=A2) (xs:=[(O8 2 3)]) N3 Z Z Z oki) fun b5=>(it Z (Q7 (f:=A2) (r:=VR.nil) (xs:=([]:List Act)) (ys:=([(O8 2 3)]:List Act)) (pre:=A) (post:=[]) A0c (fun _=>Z) (fun _=>Z) Z Z Z Z Z Z Z Z Z (A5 0 Z) bT.nil ore ore) fun ⟨r6,ak⟩=>(bP 1 5 Z (ie (A0 1 Z (bP 1 6 Z (A1 ?_))))))
   exact S6 (_,_,_) ⟨hR,ak,ozq⟩ bU A7.nil
  refine A4 (Y9 (I8 [_,_,_] [1,2,0] 3 Z ozw Z [[_],[_],vo A2 51 VR.nil []] Z opv) ?_)
  exact S6 (_,_,_) ⟨hR,bT.nil,ozq⟩ bU A7.nil
 rintro ⟨out,a7,i⟩
 rintro ⟨hR,ad,hj⟩
 replace hR:=V (A1i.eq_1 ..) hR
 refine A3 (bS Z (bP 1 7 Z (ie (A9 ?_))))
 refine A1y (un fun fu=>un fun p=>un fun n t=>((512 - t).toNat<fu∧V3 _ _ i fu p t=R∧bT 6 p.length n∧1≤t∧t≤510∧p.length≤t,[(2,_),(3,_),(5,.slice (va n.q) p.length n.k),(6,_),(7,iv t)],(bx y _ _::bx w _ _::((vo _ _ n p)++([]))),_,fu)) (_,_,_,4) ⟨(Nat.lt_succ_self _),hR,ad,opx,ozq⟩ bU A7.nil ?_
 rintro ⟨fu,p,n,t⟩ ⟨bz,hR,s,hb,hn⟩
 have:=bT.le s
 obtain ⟨fu1,rfl⟩:∃ m,fu=m+1:=⟨fu - 1,by omega⟩
 replace hR:=V (V3.eq_2 ..) hR
 refine A3 (bS Z (bP 2 31 Z (ie ?_)))
 refine cK Z hR ?_ ?_<;>intro hR h9 bu
 ·refine A4 (nx (A7i (un fun a2 a0=>(A4s t (V3 from_ to_ i fu1) a2=R∧bT 6 a2.length a0∧a2.length≤t+1,[(2,pt w 0),(3,pt y 0),(5,.slice (va a0.q) a2.length a0.k),(6,bv i),(7,iv t)],(D::B::((vo A2 51 a0 a2)++([]))),[])) ?_ ?_))
  ·refine A9 (bS Z (cB 9 [1,0] 42 Z (ie ?_)))
   refine cK Z hR ?_ ?_<;>intro hR bp b4
   ·refine A0 6 Z (cF 2 43 44 Z ?_)
    refine zv Z (B4y Z) ?_
    refine it Z (B0 (c:=A2) (xs:=[(O8 2 t)]) N3 Z Z Z oki) fun bo=>?_
    have:([(O8 2 t)]:List Act).length=1:=rfl
    refine it Z (Q7 (f:=A2) (r:=n) (xs:=p) (ys:=([(O8 2 t)]:List Act)) (pre:=A) (post:=[]) A0c (fun _=>Z) (fun _=>Z) Z Z Z Z Z Z Z Z Z (A5 0 Z) s ore ore) fun ⟨az,ai⟩=>(bP 1 5 Z (A1 ?_))
    exact S6 (_,_) ⟨hR,ai,ozq⟩ bU A7.nil
   refine A4 ?_
   exact S6 (p,n) ⟨hR,s,ozq⟩ bU A7.nil
  rintro ⟨a2,a0⟩
  rintro ⟨hR,a9,hj⟩
  replace hR:=V (A4s.eq_1 ..) hR
  refine A0 3 Z (bP 1 32 Z (ix Z (E0v Z Z Z Z opx) (bP 1 7 Z (A1 ?_))))
  exact Z0 (_,_,_,_) ⟨opx,hR,a9,(by first|omega|(rw [A3b (by simp [IntKind.min,IntKind.signed,IntKind.bits];omega) (by simp [IntKind.max,IntKind.signed,IntKind.bits];omega)];omega)),ozq⟩ (Nat.lt_succ_self _) bU A7.nil
 refine F1 (nx (A3 (bS Z (bP 1 8 Z (ie (A9 ?_))))))
 refine A1y (un fun aa=>un fun g=>un fun e d=>((512 - d).toNat<aa∧M9 _ _ i aa g d=R∧bT 6 g.length e∧1≤d∧d≤510∧g.length≤512+d,[(2,_),(3,_),(5,.slice (va e.q) g.length e.k),(6,_),(8,iv d)],(bx y _ _::bx w _ _::((vo _ _ e g)++([]))),_,aa)) (_,p,n,1) ⟨(Nat.lt_succ_self _),hR,s,opx,ozq⟩ bU A7.nil ?_
 rintro ⟨aa,g,e,d⟩ ⟨b3,hR,h,hb,hn⟩
 have:=bT.le h
 obtain ⟨fu3,rfl⟩:∃ m,aa=m+1:=⟨aa - 1,by omega⟩
 replace hR:=V (M9.eq_2 ..) hR
 refine A3 (bS Z (bP 2 49 Z (ie ?_)))
 refine cK Z hR ?_ ?_<;>intro hR bh b6
 ·refine A4 (nx (A7i (un fun a3 z=>(A3o d (M9 from_ to_ i fu3) a3=R∧bT 6 a3.length z∧a3.length≤513+d,[(2,pt w 0),(3,pt y 0),(5,.slice (va z.q) a3.length z.k),(6,bv i),(8,iv d)],(D::B::((vo A2 51 z a3)++([]))),[])) ?_ ?_))
  ·refine A9 (bS Z (cB 6 [1] 9 Z (ie (A7i (fun a8=>(A3q to_ g d (M9 from_ to_ i fu3) a8=R,[(2,pt w 0),(3,pt y 0),(5,.slice (va e.q) g.length e.k),(6,bv i),(8,iv d),(9,bv a8)],(D::B::((vo A2 51 e g)++([]))),[])) ?_ ?_))))
   ·refine bS Z (bP 2 58 Z ?_)
    refine zia 3 0 58 61 (decide (d<4)) (fun ay=>?_) ?_
    ·refine bP 3 61 Z ?_
     exact A1 (I1 2 58 _ ay A7.nil bU Z Z Z Z Z)
    refine ie ?_
    refine zjb Z hR ?_ ?_<;>intro hR am
    ·have an:=bV am
     refine A0 1 Z (bP 1 9 Z (A1 ?_))
     exact S6 _ hR bU A7.nil
    refine A4 ?_
    exact S6 _ hR bU A7.nil
   intro a8
   rintro hR
   replace hR:=V (A3q.eq_1 ..) hR
   refine bS Z (cB 6 [0] 67 Z ?_)
   refine zid 3 0 67 70 (!a8) (fun ar b7=>?_) ?_
   ·refine bP 3 70 Z ?_
    exact A1 (I1 2 67 _ ar A7.nil bU Z Z Z Z Z)
   refine ie ?_
   refine zjb Z hR ?_ ?_<;>intro hR al
   ·have ap:=bV al
    refine A0 6 Z (cF 2 71 72 Z ?_)
    refine zv Z (B4y Z) ?_
    refine it Z (B0 (c:=A2) (xs:=[(O8 1 d)]) N3 Z Z Z oki) fun bj=>?_
    have:([(O8 1 d)]:List Act).length=1:=rfl
    refine it Z (Q7 (f:=A2) (r:=e) (xs:=g) (ys:=([(O8 1 d)]:List Act)) (pre:=A) (post:=[]) A0c (fun _=>Z) (fun _=>Z) Z Z Z Z Z Z Z Z Z (A5 0 Z) h ore ore) fun ⟨aw,ae⟩=>(bP 1 5 Z (A1 ?_))
    exact S6 (_,_) ⟨hR,ae,ozq⟩ bU A7.nil
   refine A4 ?_
   exact S6 (g,e) ⟨hR,h,ozq⟩ bU A7.nil
  rintro ⟨a3,z⟩
  rintro ⟨hR,ab,hj⟩
  replace hR:=V (A3o.eq_1 ..) hR
  refine A0 3 Z (bP 1 50 Z (ix Z (E0v Z Z Z Z opx) (bP 1 8 Z (A1 ?_))))
  exact Z0 (_,_,z,_) ⟨opx,hR,ab,(by first|omega|(rw [A3b (by simp [IntKind.min,IntKind.signed,IntKind.bits];omega) (by simp [IntKind.max,IntKind.signed,IntKind.bits];omega)];omega)),ozq⟩ (Nat.lt_succ_self _) bU A7.nil
 refine F1 (nx (A7i (un fun u l=>(A3n from_ to_ u=R∧bT 6 u.length l∧u.length≤1100,[(2,pt w 0),(3,pt y 0),(5,.slice (va l.q) u.length l.k)],(D::B::((vo A2 51 l u)++([]))),[])) ?_ ?_))
 ·refine bS Z (cB 5 [1,0] 80 Z (ie ?_))
  refine zjn Z hR ?_ ?_<;>intro hR bm ba
  ·refine A0 7 Z (pl2 3 [0] 81 83 Z ?_)
   refine zv Z (B4y Z) ?_
   refine it Z (B0 (c:=A2) (xs:=[(O8 3 to_.under)]) N3 Z Z Z oki) fun bb=>?_
   have:([(O8 3 to_.under)]:List Act).length=1:=rfl
   refine it Z (Q7 (f:=A2) (r:=e) (xs:=g) (ys:=([(O8 3 to_.under)]:List Act)) (pre:=A) (post:=[]) A0c (fun _=>Z) (fun _=>Z) Z Z Z Z Z Z Z Z Z (A5 0 Z) h ore ore) fun ⟨au,ah⟩=>(bP 1 5 Z (A1 ?_))
   exact S6 (_,_) ⟨hR,ah,ozq⟩ bU A7.nil
  refine A4 ?_
  exact S6 (g,e) ⟨hR,h,ozq⟩ bU A7.nil
 rintro ⟨u,l⟩
 rintro ⟨hR,a4,hj⟩
 replace hR:=V (A3n.eq_1 ..) hR
 refine A7i (un fun v o=>(A5q from_ to_ v=R∧bT 6 v.length o∧v.length≤1101,[(2,pt w 0),(3,pt y 0),(5,.slice (va o.q) v.length o.k)],(D::B::((vo A2 51 o v)++([]))),[])) ?_ ?_
 ·refine bS Z (bY 4 1 [1,0] [(88,ag (R1 from_.fore)),(90,ag (R1 to_.fore))] ?_)
  refine ix Z (A0f B5g Z Z Z) (ie ?_)
  refine zjn Z hR ?_ ?_<;>intro hR bi b9
  ·refine A0 7 Z (bY 3 4 [0] [(92,.slice (va l.q) u.length l.k),(94,ag (R1 to_.fore))] ?_)
   refine zv Z (C1z Z) ?_
   refine it Z (B0 (c:=A2) (xs:=[(Z4 4 to_.fore)]) N3 Z Z Z oki) fun bk=>?_
   have:([(Z4 4 to_.fore)]:List Act).length=1:=rfl
   refine it Z (Q7 (f:=A2) (r:=l) (xs:=u) (ys:=([(Z4 4 to_.fore)]:List Act)) (pre:=A) (post:=[]) A0c (fun _=>Z) (fun _=>Z) Z Z Z Z Z Z Z Z Z (A5 0 Z) a4 ore ore) fun ⟨av,aj⟩=>(bP 1 5 Z (A1 ?_))
   exact S6 (_,_) ⟨hR,aj,ozq⟩ bU A7.nil
  refine A4 ?_
  exact S6 (u,l) ⟨hR,a4,ozq⟩ bU A7.nil
 rintro ⟨v,o⟩
 rintro ⟨hR,a5,hj⟩
 replace hR:=V (A5q.eq_1 ..) hR
 refine A7i (un fun a1 j=>(A5w from_ to_ a1=R∧bT 6 a1.length j∧a1.length≤1102,[(2,pt w 0),(3,pt y 0),(5,.slice (va j.q) a1.length j.k)],(D::B::((vo A2 51 j a1)++([]))),[])) ?_ ?_
 ·refine bS Z (bY 4 1 [1,0] [(99,ag (R1 from_.back)),(101,ag (R1 to_.back))] ?_)
  refine ix Z (A0f B5g Z Z Z) (ie ?_)
  refine zjn Z hR ?_ ?_<;>intro hR bw b8
  ·refine A0 7 Z (bY 3 4 [0] [(103,.slice (va o.q) v.length o.k),(105,ag (R1 to_.back))] ?_)
   refine zv Z (C1z Z) ?_
   refine it Z (B0 (c:=A2) (xs:=[(Z4 5 to_.back)]) N3 Z Z Z oki) fun bl=>?_
   have:([(Z4 5 to_.back)]:List Act).length=1:=rfl
   refine it Z (Q7 (f:=A2) (r:=o) (xs:=v) (ys:=([(Z4 5 to_.back)]:List Act)) (pre:=A) (post:=[]) A0c (fun _=>Z) (fun _=>Z) Z Z Z Z Z Z Z Z Z (A5 0 Z) a5 ore ore) fun ⟨aq,af⟩=>(bP 1 5 Z (A1 ?_))
   exact S6 (_,_) ⟨hR,af,ozq⟩ bU A7.nil
  refine A4 ?_
  exact S6 (v,o) ⟨hR,a5,ozq⟩ bU A7.nil
 rintro ⟨a1,j⟩
 rintro ⟨hR,a6,hj⟩
 replace hR:=V (A5w.eq_1 ..) hR
 refine A3 (bS Z (bY 4 1 [1,0] [(110,ag (R1 from_.line)),(112,ag (R1 to_.line))] ?_))
 refine ix Z (A0f B5g Z Z Z) (ie ?_)
 refine zjn Z hR ?_ ?_<;>intro hR bn b0
 ·refine A0 7 Z (bY 3 4 [0] [(114,.slice (va j.q) a1.length j.k),(116,ag (R1 to_.line))] ?_)
  refine zv Z (C1z Z) ?_
  refine it Z (B0 (c:=A2) (xs:=[(Z4 6 to_.line)]) N3 Z Z Z oki) fun be=>?_
  have:([(Z4 6 to_.line)]:List Act).length=1:=rfl
  refine it Z (Q7 (f:=A2) (r:=j) (xs:=a1) (ys:=([(Z4 6 to_.line)]:List Act)) (pre:=A) (post:=[]) A0c (fun _=>Z) (fun _=>Z) Z Z Z Z Z Z Z Z Z (A5 0 Z) a6 ore ore) fun ⟨ax,ac⟩=>(bP 1 5 Z (A1 (nx (bS Z (bP 2 4 Z ?_)))))
  subst hR
  refine ie (A8 ?_)
  exact cC hr hD (I9 Z (A6 Z)) _ bU A7.nil
 refine A4 (nx (bS Z (bP 2 4 Z ?_)))
 subst hR
 refine ie (A8 ?_)
 exact cC hr hD (I9 Z (A6 Z)) ⟨j,a6⟩ bU A7.nil
def A7v (to_:Sty):List Act :=
 (B5 (A1s ZJ to_) fun (a:List Act)=>(([(O8 0 0)]:List Act)++a))
theorem B9z (t:Sty):A7v t=kA 0 0::D9u ZJ t:=by unfold A7v B5;rw [B0k];rfl
theorem C3k (t:Sty):(A7v t).length≤20:=by simp[B9z,E5o]
theorem C4w (t:Sty):∀ a ∈ A7v t,C3w a:=by
 rw [B9z];intro a b
 rcases List.mem_cons.1 b with rfl | b
 ·exact ⟨rfl,rfl⟩
 grind[E6m]
theorem E4f {to_:Sty} {R:List Act} (hR:A7v to_=R):cM Tryz.prog 46 [ag (B7 to_)] [] [] ({t:Option Addr×Nat // R.length≤t.2∧R.length≤9223372036854775807}) (fun x=>.slice x.1.1 R.length x.1.2) (fun x=>[]) (fun x=>[sl A2 x.1.1 R]):=by
 refine cD Tryz.func46 fun X hX hr hD=>?_
 replace hR:=V (A7v.eq_1 ..) hR
 refine bS Z (cI 2 [] (fun e=>[(1,pt e 0)]) (fun _=>(B7 to_)) 63 fun e=>?_)
 refine ie (bS Z (zv Z (B4y Z) ?_))
 refine it Z (B0 (c:=A2) (xs:=[(O8 0 0)]) N3 Z Z Z oki) fun i=>?_
 have:([(O8 0 0)]:List Act).length=1:=rfl
 refine bP 1 3 Z (ie (bS Z (bY 3 3 [0] [(6,.slice (some ⟨i,0,none⟩) 1 1),(7,ag (B7 ZJ)),(8,ag (B7 to_))] ?_)))
 have j:=C3 hR;clear hR;obtain ⟨b,a,hR⟩:=j
 refine zc Z (C2p a) fun ⟨h,d⟩=>?_
 have:=bT.le d
 have:=B3n ZJ to_;try rw [a] at this
 have:=B3c ZJ to_;try rw [a] at this
 refine P2 [_] _ d omm (it Z (C3h (f:=A2) (xs:=([(O8 0 0)]:List Act)) (ys:=b) A0c (fun _=>Z) (fun _=>Z) Z Z Z Z Z Z opx opx odv (A5 1 Z) (A5 0 Z) ore ore) fun ⟨⟨k,k6⟩,g⟩=>(bP 1 2 Z ?_))
 subst hR
 exact ie (A8 (cC hr hD (I9 Z (A6 Z)) (zq k _) bU c9))
theorem B8u {l:List Act} (h:∀ a ∈ l,C3w a):∀ a ∈ l,k6 a:=fun a b=>by
 have q:=h a b
 have e:a.text.length=0:=by rw [q.2];rfl
 have k:=q.1
 grind[k6]
def I3 (l:List Act):Int :=
 (B5 (A0g l) fun (a:List UInt8)=>(a.length:Int))
theorem B6m {l:List Act} {R:Int} (hR:I3 l=R) (f:l.length≤9223372036854775807:=by exact bW) (g:l.length≤lk:=by exact bW) (e:∀ a ∈ l,k6 a:=by exact bW):J7 Tryz.prog 44 [.slice lq l.length lk] [sl A2 lq l] (iv R):=by
 refine cD Tryz.func44 fun X hX hr hD=>?_
 replace hR:=V (I3.eq_1 ..) hR
 refine bS Z (pp0 1 Z (ie (bS Z (bP 1 3 Z ?_))))
 have h:=C3 hR;clear hR;obtain ⟨c,b,hR⟩:=h
 refine zc Z (B9v b bW bW (by first|exact C6w hr6 _|assumption|exact B8u oiu|exact k6_rows oiu _)) fun ⟨i,d⟩=>?_
 refine bP 2 2 Z ?_
 subst hR
 exact ie (A8 (F7 hr hD))
def H5 (from_:Sty) (to_:Sty):List Act :=
 (bif (decide (from_=to_)) then ([]:List Act) else (B5 (A1s from_ to_) fun (a:List Act)=>(B5 (A7v to_) fun (b:List Act)=>(bif (decide ((I3 a)≤(I3 b))) then a else b))))
theorem A9p (f t:Sty):(H5 f t).length≤1100∧∀ a ∈ H5 f t,C3w a:=by
 unfold H5;simp only [B5]
 have c:=C3k t
 cases decide (f=t) with
 | true=>simp
 | false =>
  simp only [cond_false]
  cases decide (I3 (A1s f t)≤I3 (A7v t)) with
  | true=>simp only [cond_true,cond_false];grind[B3n,B3c]
  | false=>simp only [cond_false];exact ⟨Nat.le_trans c ozw,C4w t⟩
theorem C0i {from_ to_:Sty} {R:List Act} (hR:H5 from_ to_=R):cM Tryz.prog 24 [ag (B7 from_),ag (B7 to_)] [] [] ({t:Option Addr×Nat // R.length≤t.2∧R.length≤9223372036854775807}) (fun x=>.slice x.1.1 R.length x.1.2) (fun x=>[]) (fun x=>[sl A2 x.1.1 R]):=by
 refine cD Tryz.func24 fun X hX hr hD=>?_
 replace hR:=V (H5.eq_1 ..) hR
 refine bS Z (B3r 3 [] (fun j l=>[(2,pt j 0),(3,pt l 0)]) (fun _ _=>(B7 from_)) (fun _ _=>(B7 to_)) 63 63 fun j l=>?_)
 refine ie (A3 (bS Z (bY 2 1 [1,0] [(7,ag (B7 from_)),(8,ag (B7 to_))] ?_)))
 refine ix Z (A3m E0h Z Z Z) (ie ?_)
 refine cK Z hR ?_ ?_<;>intro hR z w
 ·refine bS Z (bP 1 4 Z ?_)
  subst hR
  refine ie (A8 ?_)
  exact cC hr hD (I9 Z (A6 Z)) (zq _ 0) bU c9
 refine A4 (nx (bS Z (bY 2 2 [1,0] [(10,ag (B7 from_)),(11,ag (B7 to_))] ?_)))
 have m:=C3 hR;clear hR;obtain ⟨f,d,hR⟩:=m
 refine zc Z (C2p d) fun ⟨n,g⟩=>?_
 have:=B3n from_ to_;try rw [d] at this
 have:=B3c from_ to_;try rw [d] at this
 refine bP 1 5 Z ?_
 refine ie (bS Z (bY 1 2 [0] [(13,ag (B7 to_))] ?_))
 have m:=C3 hR;clear hR;obtain ⟨h,e,hR⟩:=m
 refine zc Z (E4f e) fun ⟨⟨v,u⟩,i⟩=>?_
 obtain ⟨s,p⟩:=i
 have:=C3k to_;try rw [e] at this
 have:=C4w to_;try rw [e] at this
 refine bP 1 6 Z (ie (A3 (bS Z (bP 1 15 Z ?_))))
 have:=bT.lc g
 refine P2 [_,_] _ g omm ?_
 refine zv Z (B6m Z bW bW (by first|exact C6w hr6 _|assumption|exact B8u oiu|exact (hwb.getD _).2)) ?_
 refine bP 1 17 Z ?_
 refine zv Z (B6m Z bW bW (by first|exact C6w hr6 _|assumption|exact B8u oiu|exact (hwb.getD _).2)) ?_
 refine bP 1 19 Z (ie ?_)
 refine cK Z hR ?_ ?_<;>intro hR y o
 ·refine bS Z (bP 2 4 Z ?_)
  subst hR
  refine ie (A8 ?_)
  exact cC hr hD (I9 Z (A6 Z)) (zq _ n.k) bU c9
 refine A4 (nx (bS Z (bP 2 4 Z ?_)))
 subst hR
 refine ie (A8 ?_)
 exact cC hr hD (I9 Z (A6 Z)) _ bU c9
def W9 (c:Cel):List Act :=
 (bif (!decide (c.marks.a=0)) then (bif (!decide (c.marks.b=0)) then ((([{ZZ with kind:=1,n:=c.base}]:List Act)++([{ZZ with kind:=1,n:=c.marks.a}]:List Act))++([{ZZ with kind:=1,n:=c.marks.b}]:List Act)) else (([{ZZ with kind:=1,n:=c.base}]:List Act)++([{ZZ with kind:=1,n:=c.marks.a}]:List Act))) else (bif (!decide (c.marks.b=0)) then (([{ZZ with kind:=1,n:=c.base}]:List Act)++([{ZZ with kind:=1,n:=c.marks.b}]:List Act)) else ([{ZZ with kind:=1,n:=c.base}]:List Act)))
theorem B1b (c:Cel):(W9 c).length≤3∧∀ a ∈ W9 c,k6 a:=by
 have d:∀ n:Int,k6 {ZZ with kind:=1,n:=n}:=fun n=>by unfold k6;dsimp only;exact ⟨by omega,Nat.zero_le _,by omega⟩
 unfold W9
 grind
theorem C9r {c:Cel} {R:List Act} (hR:W9 c=R):cM Tryz.prog 71 [ag (D0 c)] [] [] ({t:Option Addr×Nat // R.length≤t.2∧R.length≤9223372036854775807}) (fun x=>.slice x.1.1 R.length x.1.2) (fun x=>[]) (fun x=>[sl A2 x.1.1 R]):=by
 refine cD Tryz.func71 fun X hX hr hD=>?_
 replace hR:=V (W9.eq_1 ..) hR
 refine bS Z (cI 2 [] (fun i=>[(1,pt i 0)]) (fun _=>(D0 c)) 71 fun i=>?_)
 refine ie (bS Z (bY 3 2 [0] [(7,ag (A2 ({ZZ with kind:=1,n:=c.base})))] ?_))
 refine it Z (B0 (c:=A2) (xs:=[{ZZ with kind:=1,n:=c.base}]) N3 Z Z Z oki) fun o=>?_
 have:([{ZZ with kind:=1,n:=c.base}]:List Act).length=1:=rfl
 refine bP 1 3 Z (ie (A3 (bS Z (bP 1 4 Z (ie (A9 (A1g 3 (E9 (A3 (bS Z (bP 2 10 Z (ie (K1 Z (A4 (nx (A3 (A9 (bS Z (cF 2 13 14 Z (ix Z (A2w Tryz.underlying69 cE Z Z Z 0 Z Z) (cB 2 [0] 17 Z (ie ?_))))))))))))))))))))))
 refine zjn Z hR ?_ ?_<;>intro hR y u
 ·refine A0 9 Z (pp3 3 18 19 20 Z (ix Z (A2w Tryz.underlying69 cE Z Z Z 0 Z Z) (bY 2 3 [0] [(23,ag (A2 ({ZZ with kind:=1,n:=c.marks.a})))] ?_)))
  refine it Z (B0 (c:=A2) (xs:=[{ZZ with kind:=1,n:=c.marks.a}]) N3 Z Z Z oki) fun w=>?_
  have:([{ZZ with kind:=1,n:=c.marks.a}]:List Act).length=1:=rfl
  refine it Z (C7v (f:=A2) (xs:=([{ZZ with kind:=1,n:=c.base}]:List Act)) (ys:=([{ZZ with kind:=1,n:=c.marks.a}]:List Act)) A0c (fun _=>Z) (fun _=>Z) Z Z Z Z Z Z opx opx odv (A5 1 Z) (A5 0 Z) oom ore ore) fun ⟨j,g⟩=>?_
  have:=bT.le g
  refine bP 1 3 Z (A1 (nx (A0 3 Z (bP 1 11 Z (ix Z (B1 (c:=1) Z Z Z Z ozw) (bP 1 4 Z (A1 (E9 (A3 (bS Z (bP 2 10 Z (ie (K1 Z (A4 (nx (A3 (A9 (bS Z (cF 2 13 14 Z (ix Z (A2w Tryz.underlying69 cE Z Z Z 1 Z Z) (cB 2 [0] 17 Z (ie ?_))))))))))))))))))))))
  refine zjn Z hR ?_ ?_<;>intro hR z p
  ·refine A0 9 Z (pp3 3 18 19 20 Z (ix Z (A2w Tryz.underlying69 cE Z Z Z 1 Z Z) (bY 2 3 [0] [(23,ag (A2 ({ZZ with kind:=1,n:=c.marks.b})))] ?_)))
   refine it Z (B0 (c:=A2) (xs:=[{ZZ with kind:=1,n:=c.marks.b}]) N3 Z Z Z oki) fun b8=>(it Z (Q7 (f:=A2) (r:=j) (xs:=(([{ZZ with kind:=1,n:=c.base}]:List Act)++([{ZZ with kind:=1,n:=c.marks.a}]:List Act))) (ys:=([{ZZ with kind:=1,n:=c.marks.b}]:List Act)) (pre:=[bx i (D0 c) 71]) (post:=[]) A0c (fun _=>Z) (fun _=>Z) Z Z Z Z Z Z Z Z Z (A5 0 Z) g ore ore) fun ⟨l,e⟩=>?_)
   have:=bT.le e
   refine bP 1 3 Z (A1 (nx (A0 3 Z (bP 1 11 Z (ix Z (B1 (c:=2) Z Z Z Z ozw) (bP 1 4 Z (A1 (E9 (A3 (bS Z (bP 2 10 Z (ie (A5t Z (F1 (nx (bS Z (bP 2 2 Z (ie (A8 (D3z _ _ e omm ?_))))))))))))))))))))
   have:=bT.cap e
   subst hR
   exact cC hr hD (I9 Z (A6 Z)) (zq _ _) bU c9
  refine A4 (nx (A0 3 Z (bP 1 11 Z (ix Z (B1 (c:=2) Z Z Z Z ozw) (bP 1 4 Z (A1 (E9 (A3 (bS Z (bP 2 10 Z (ie (A5t Z (F1 (nx (bS Z (bP 2 2 Z (ie (A8 (D3z _ _ g omm ?_)))))))))))))))))))
  have:=bT.cap g
  subst hR
  exact cC hr hD (I9 Z (A6 Z)) (zq _ _) bU c9
 refine A4 (nx (A0 3 Z (bP 1 11 Z (ix Z (B1 (c:=1) Z Z Z Z ozw) (bP 1 4 Z (A1 (E9 (A3 (bS Z (bP 2 10 Z (ie (K1 Z (A4 (nx (A3 (A9 (bS Z (cF 2 13 14 Z (ix Z (A2w Tryz.underlying69 cE Z Z Z 1 Z Z) (cB 2 [0] 17 Z (ie ?_)))))))))))))))))))))
 refine zjn Z hR ?_ ?_<;>intro hR v m
 ·refine A0 9 Z (pp3 3 18 19 20 Z (ix Z (A2w Tryz.underlying69 cE Z Z Z 1 Z Z) (bY 2 3 [0] [(23,ag (A2 ({ZZ with kind:=1,n:=c.marks.b})))] ?_)))
  refine it Z (B0 (c:=A2) (xs:=[{ZZ with kind:=1,n:=c.marks.b}]) N3 Z Z Z oki) fun s=>?_
  have:([{ZZ with kind:=1,n:=c.marks.b}]:List Act).length=1:=rfl
  refine it Z (C7v (f:=A2) (xs:=([{ZZ with kind:=1,n:=c.base}]:List Act)) (ys:=([{ZZ with kind:=1,n:=c.marks.b}]:List Act)) A0c (fun _=>Z) (fun _=>Z) Z Z Z Z Z Z opx opx odv (A5 1 Z) (A5 0 Z) oom ore ore) fun ⟨h,d⟩=>?_
  have:=bT.le d
  refine bP 1 3 Z (A1 (nx (A0 3 Z (bP 1 11 Z (ix Z (B1 (c:=2) Z Z Z Z ozw) (bP 1 4 Z (A1 (E9 (A3 (bS Z (bP 2 10 Z (ie (A5t Z (F1 (nx (bS Z (bP 2 2 Z (ie (A8 (D3z _ _ d omm ?_))))))))))))))))))))
  have:=bT.cap d
  subst hR
  exact cC hr hD (I9 Z (A6 Z)) (zq _ _) bU c9
 refine A4 (nx (A0 3 Z (bP 1 11 Z (ix Z (B1 (c:=2) Z Z Z Z ozw) (bP 1 4 Z (A1 (E9 (A3 (bS Z (bP 2 10 Z (ie (A5t Z (F1 (nx (bS Z (bP 2 2 Z ?_))))))))))))))))
 subst hR
 exact ie (A8 (cC hr hD (I9 Z (A6 Z)) (zq _ 1) bU c9))
def A1u (c:Cel) (n:Int) (at_:Int) (to_:Int) (pen:Sty) (last:Bool) (out:List (RwD OutC Act)):List (RwD OutC Act) :=
 (bif (((((decide (c.wide=0))&&(decide (c.marks.a=0)))&&(decide (c.marks.b=0)))&&(decide (c.base=32)))&&(decide (c.sty={ZJ with back:=c.sty.back}))) then (B5 (H5 pen ({pen with back:=c.sty.back})) fun (d:List Act)=>(bif last then (out++([⟨((([]:List Act)++d)++([{ZZ with kind:=30,n:=n}]:List Act)),(⟨{pen with back:=c.sty.back},at_⟩:OutC)⟩]:List (RwD OutC Act))) else (out++([⟨(((([]:List Act)++d)++([{ZZ with kind:=30,n:=n}]:List Act))++([{ZZ with kind:=20,n:=2,m:=n}]:List Act)),(⟨{pen with back:=c.sty.back},to_⟩:OutC)⟩]:List (RwD OutC Act))))) else out)
def X0 (c:Cel) (n:Int) (at_:Int) (to_:Int) (pen:Sty) (last:Bool) (d:List Act) (e:List Act):Nat→List Act→Nat→List (RwD OutC Act)
 | 0,_,_=>[]
 | fu1+1,print,i=>(bif (decide ((i:Int)<n)) then (B5 (W9 c) fun (f:List Act)=>X0 c n at_ to_ pen last d e fu1 (print++f) (i+1)) else (bif ((((decide (c.wide=0))&&(decide (c.marks.a=0)))&&(decide (c.marks.b=0)))&&(decide ((1:Int)<n))) then A1u c n at_ to_ pen last (([⟨print,(⟨c.sty,to_⟩:OutC)⟩]:List (RwD OutC Act))++([⟨(((([]:List Act)++(([]:List Act)++d))++e)++([{ZZ with kind:=34,n:=(n - 1)}]:List Act)),(⟨c.sty,to_⟩:OutC)⟩]:List (RwD OutC Act))) else A1u c n at_ to_ pen last ([⟨print,(⟨c.sty,to_⟩:OutC)⟩]:List (RwD OutC Act))))
def A4t (c:Cel) (n:Int) (at_:Int) (to_:Int) (pen:Sty) (last:Bool):List (RwD OutC Act) :=
 (B5 (H5 pen c.sty) fun (a:List Act)=>(B5 (W9 c) fun (b:List Act)=>X0 c n at_ to_ pen last a b ((n - (0:Int)).toNat+1) (([]:List Act)++a) 0))
def B0v (l:List Act) (n:Nat):Prop:=l.length≤n∧∀ a ∈ l,k6 a
theorem B0v.app {l m:List Act} {n k q:Nat} (h:B0v l n) (c:B0v m k) (d:n+k≤q):B0v (l++m) q :=
 ⟨by have:=h.1;have:=c.1;grind,fun a b=>by rcases List.mem_append.1 b with b | b;exact h.2 a b;exact c.2 a b⟩
theorem B0v.one {a:Act} (h:k6 a):B0v [a] 1:=⟨Nat.le_refl _,fun x b=>by grind⟩
theorem B0v.steps (f t:Sty):B0v ([]++H5 f t) 1100:=⟨(A9p f t).1,B8u (A9p f t).2⟩
def G1p (p q:Int) (x:RwD OutC Act):Prop:=B0v x.l 2000∧(x.b.ends=p∨x.b.ends=q)
def C1e (p q:Int) (l:List (RwD OutC Act)):Prop:=∀ x ∈ l,G1p p q x
theorem C1e.app {p:Int} {l:List (RwD OutC Act)} {y:RwD OutC Act} (h:C1e p q l) (b:G1p p q y):C1e p q (l++[y]):=fun x a=>by
 rcases List.mem_append.1 a with a | a
 ·exact h x a
 grind
theorem F5z {k:Int} (c:k=20∨k=30∨k=34) (a:0≤n∧n≤1000) (b:0≤m∧m≤1000) (d:k=20→n≤3):k6 {ZZ with kind:=k,n:=n,m:=m}:=by unfold k6;dsimp only;exact ⟨by omega,Nat.zero_le _,by omega⟩
theorem B5t {c:Cel} {at_:Int} {pen:Sty} {out:List (RwD OutC Act)} (g:0≤n∧n≤200) (h:(1≤out.length∧out.length≤2)∧C1e at_ to_ out):(1≤(A1u c n at_ to_ pen last out).length∧(A1u c n at_ to_ pen last out).length≤3)∧C1e at_ to_ (A1u c n at_ to_ pen last out):=by
 have e:=B0v.steps pen {pen with back:=c.sty.back}
 have d:k6 {ZZ with kind:=30,n:=n}:=F5z (k:=30) (m:=0) opx opx opx opx
 have f:k6 {ZZ with kind:=20,n:=2,m:=n}:=F5z opx opx opx opx
 unfold A1u;simp only [B5]
 generalize (((((decide (c.wide=0))&&(decide (c.marks.a=0)))&&(decide (c.marks.b=0)))&&(decide (c.base=32)))&&(decide (c.sty={ZJ with back:=c.sty.back})))=q
 cases q with
 | false=>grind
 | true =>
  cases last<;>simp only [cond_true,cond_false,List.length_append,List.length_cons,List.length_nil]
  ·exact ⟨by omega,h.2.app ⟨(e.app (B0v.one d) (by decide:1100+1≤1101)).app (B0v.one f) ozw,.inr Z⟩⟩
  ·exact ⟨by omega,h.2.app ⟨e.app (B0v.one d) ozw,.inl Z⟩⟩
theorem C2w {c:Cel} {at_:Int} {pen:Sty} {s g:List Act} (f:0≤n∧n≤200) (h:B0v ([]++s) 1100) (j:B0v g 3):∀ (fu:Nat) (d:List Act) (i:Nat),n - i<fu→(i:Int)≤n→B0v d (1100+3 * i) →
  (1≤(X0 c n at_ to_ pen last s g fu d i).length∧(X0 c n at_ to_ pen last s g fu d i).length≤3)∧C1e at_ to_ (X0 c n at_ to_ pen last s g fu d i)
 | 0,d,i,h1,h2,h3=>by omega
 | fu+1,d,i,h1,h2,h3=>by
  rw [X0]
  by_cases hc:(i:Int)<n
  ·rw [decide_eq_true hc];simp only [cond_true,B5]
   exact C2w f h j fu _ (i+1) opx opx (h3.app (B1b c) opx)
  ·rw [decide_eq_false hc];simp only [cond_false]
   have l:G1p at_ to_ ⟨d,(⟨c.sty,to_⟩:OutC)⟩:=⟨⟨by have:=h3.1;grind,h3.2⟩,.inr Z⟩
   have e:C1e at_ to_ [⟨d,(⟨c.sty,to_⟩:OutC)⟩]:=fun x o=>by rw [List.mem_singleton.1 o];exact l
   generalize (((decide (c.wide=0))&&(decide (c.marks.a=0)))&&(decide (c.marks.b=0)))=q
   by_cases h1n:(1:Int)<n
   ·have p:k6 {ZZ with kind:=34,n:=(n - (1:Int))}:=F5z (k:=34) (m:=0) opx opx opx opx
    rw [decide_eq_true h1n]
    cases q<;>simp only [Bool.and_true,cond_true,cond_false]
    ·exact B5t f ⟨⟨Nat.le_refl 1,(by decide:1≤2)⟩,e⟩
    ·exact B5t f ⟨⟨(by decide:1≤2),Nat.le_refl 2⟩,e.app ⟨((show B0v ([]++([]++s)) 1100 from h).app j (by decide:1100+3≤1103)).app (B0v.one p) ozw,.inr Z⟩⟩
   ·rw [decide_eq_false h1n,Bool.and_false];simp only [cond_false]
    exact B5t f ⟨⟨Nat.le_refl 1,(by decide:1≤2)⟩,e⟩
theorem C8u {c:Cel} {at_:Int} {pen:Sty} {R:List (RwD OutC Act)} (hR:A4t c n at_ to_ pen last=R) (a:0≤n∧n≤200):(1≤R.length∧R.length≤3)∧C1e at_ to_ R:=by
 subst hR
 unfold A4t;simp only [B5]
 exact C2w a (B0v.steps _ _) (B1b c) _ _ _ opx opx (B0v.steps _ _)
theorem C1e.getD {p:Int} {l:List (RwD OutC Act)} (h:C1e p q l) (i:Nat):B0v (l.getD i (zwd ZW)).l 2000:=by
 rw [List.getD_eq_getElem?_getD]
 cases h3:l[i]? with
 | none=>exact ⟨Nat.zero_le _,fun a b=>by cases b⟩
 | some y=>exact (h y (List.mem_of_getElem? h3)).1
theorem C1e.ends {p:Int} {l:List (RwD OutC Act)} (h:C1e p q l) (a:i<l.length):(l.getD i (zwd ZW)).b.ends=p∨(l.getD i (zwd ZW)).b.ends=q:=by
 rw [List.getD_eq_getElem?_getD,List.getElem?_eq_getElem a];exact (h _ (List.getElem_mem a)).2
theorem old {p:Prop} (h:p:=by first|omega|(simp +zetaDelta only [List.length_append,List.length_cons,List.length_nil,List.nil_append];omega)):p:=h
theorem E6k {c:Cel} {at_:Int} {pen:Sty} {R:List (RwD OutC Act)} (hR:A4t c n at_ to_ pen last=R) (hn:0≤n∧n≤200:=by exact bW):cM Tryz.prog 43 [ag (D0 c),iv n,iv at_,iv to_,ag (B7 pen),bv last] [] [] ({t:VR×List (RwX OutC) // bT 10 R.length t.1∧A2u t.2 R}) (fun x=>.slice (va x.1.1.q) R.length x.1.1.k) (fun x=>((vo (A0d O6) 74 x.1.1 x.1.2)++([]))) (fun x=>[A8z A2 x.1.2 R]):=by
 refine cD Tryz.func43 fun X hX hr hD=>?_
 replace hR:=V (A4t.eq_1 ..) hR
 refine bS Z (F8l 3 0 [] (fun b1 b2=>[(6,pt b1 0),(10,pt b2 0)]) (fun b1 b2=>[bx b2 (B7 pen) 63,bx b1 (D0 c) 71]) (fun b1 b2=>?_))
 refine ie (bS Z (bP 1 13 Z (ie (bS Z (bY 4 3 [0,1] [(20,.slice none 0 0),(21,ag (B7 pen)),(23,ag (B7 c.sty))] ?_)))))
 have hQ:=C3 hR;clear hR;obtain ⟨e,a7,hR⟩:=hQ
 refine zcm (C0i (from_:=pen) (to_:=c.sty) a7) A7.nil fun ⟨⟨q3,k4⟩,bu⟩=>?_
 obtain ⟨co,ch⟩:=bu
 have:=(A9p pen c.sty).1;try rw [a7] at this
 refine it Z (Y6 (f:=A2) (r:=VR.nil) (xs:=([]:List Act)) (ys:=e) (pre:=[bx b2 (B7 pen) 63,bx b1 (D0 c) 71]) (post:=[]) A0c (fun _=>Z) (fun _=>Z) Z Z Z Z Z Z Z Z (A5 0 Z) bT.nil old old) fun ⟨r8,ax⟩=>?_
 have:=bT.le ax
 have:=bT.cap ax
 refine bP 1 13 Z (ie (bS Z (it Z (B6s N3 Z Z) fun az=>?_)))
 have:([]:List Act).length=0:=rfl
 refine B2n (I8 [vo A2 51 (⟨some az,0,[]⟩:VR) ([]:List Act),[bx b2 (B7 pen) 63],[bx b1 (D0 c) 71],vo A2 51 r8 (([]:List Act)++e)] [1,2,0,3] 4 Z ozw Z [[bx b2 (B7 pen) 63],[bx b1 (D0 c) 71],vo A2 51 (⟨some az,0,[]⟩:VR) ([]:List Act),vo A2 51 r8 (([]:List Act)++e)] Z opl) (bP 1 27 Z (it Z (F5f (f:=A2) (r:=(⟨some az,0,[]⟩:VR)) (s:=r8) (xs:=([]:List Act)) (ys:=(([]:List Act)++e)) (pre:=[bx b2 (B7 pen) 63,bx b1 (D0 c) 71]) (post:=((vo A2 51 r8 (([]:List Act)++e))++([]))) A0c (fun _=>Z) (fun _=>Z) Z Z Z Z Z Z Z Z (fun z h=>by first|exact List.mem_append_right _ (List.mem_append_right _ (List.mem_append_left _ h))|simp only [List.flatten_cons,List.mem_append,List.mem_cons,h,true_or,or_true]) ax (show bT 6 0 _ from ⟨rfl,Nat.zero_le _,Nat.zero_le _⟩) old old) fun ⟨b6,ar⟩=>?_))
 have:=bT.le ar
 have:=bT.cap ar
 refine bP 1 14 Z (ie (bS Z (bY 2 3 [1] [(29,.slice (va b6.q) ((([]:List Act)++(([]:List Act)++e)).length) b6.k),(30,ag (D0 c))] ?_)))
 have hQ:=C3 hR;clear hR;obtain ⟨g,a9,hR⟩:=hQ
 refine zcm (C9r (c:=c) a9) A7.nil fun ⟨⟨b0,cl⟩,ba⟩=>?_
 obtain ⟨c7,c1⟩:=ba
 have:=(B1b c).1;try rw [a9] at this
 refine it Z (Tri.own (Y6 (f:=A2) (r:=b6) (xs:=(([]:List Act)++(([]:List Act)++e))) (ys:=g) (pre:=[bx b2 (B7 pen) 63,bx b1 (D0 c) 71]) (post:=((vo A2 51 r8 (([]:List Act)++e))++([]))) A0c (fun _=>Z) (fun _=>Z) Z Z Z Z Z Z Z ogz (A5 0 Z) ar old old) (fun ⟨aw,ai⟩=>(bx b2 (B7 pen) 63::bx b1 (D0 c) 71::((vo A2 51 aw ((([]:List Act)++(([]:List Act)++e))++g))++((vo A2 51 r8 (([]:List Act)++e))++([]))))) (fun ⟨aw,ai⟩=>by first|rfl|(try dsimp only;simp only [List.append_nil,List.cons_append,List.nil_append,List.append_assoc]))) fun ⟨aw,ai⟩=>?_
 have:=bT.le ai
 have:=bT.cap ai
 refine bP 1 14 Z (ie (bS Z (cF 2 33 34 Z (ix Z (L8 Z Z Z Z opx) (bY 1 3 [] [(36,ag (A2 ({ZZ with kind:=34,n:=(n - 1)})))] ?_)))))
 refine it Z (B0 (c:=A2) (xs:=([{ZZ with kind:=34,n:=(n - 1)}]:List Act)) N3 Z Z Z oki) fun b3=>?_
 have:([{ZZ with kind:=34,n:=(n - 1)}]:List Act).length=1:=rfl
 refine it Z (Tri.own (Q7 (f:=A2) (r:=aw) (xs:=((([]:List Act)++(([]:List Act)++e))++g)) (ys:=([{ZZ with kind:=34,n:=(n - 1)}]:List Act)) (pre:=[bx b2 (B7 pen) 63,bx b1 (D0 c) 71]) (post:=((vo A2 51 r8 (([]:List Act)++e))++([]))) A0c (fun _=>Z) (fun _=>Z) Z Z Z Z Z Z Z Z ogz (A5 0 Z) ai old old) (fun ⟨u,ae⟩=>(bx b2 (B7 pen) 63::bx b1 (D0 c) 71::((vo A2 51 u (((([]:List Act)++(([]:List Act)++e))++g)++([{ZZ with kind:=34,n:=(n - 1)}]:List Act)))++((vo A2 51 r8 (([]:List Act)++e))++([]))))) (fun ⟨u,ae⟩=>by first|rfl|(try dsimp only;simp only [List.append_nil,List.cons_append,List.nil_append,List.append_assoc]))) fun ⟨u,ae⟩=>?_
 have:=bT.le ae
 have:=bT.cap ae
 refine bP 1 14 Z (ie (A3 (bS Z (bP 1 15 Z (ie (A9 (A1y (un fun (fu:Nat)=>un fun (l:List Act)=>un fun (j:VR) (i:Nat)=>((n - (i:Int)).toNat<fu∧X0 c n at_ to_ pen last e g fu l i=R∧bT 6 l.length j∧l.length≤1100+3 * i,[(1,iv n),(2,iv at_),(3,iv to_),(5,bv last),(6,pt b1 0),(10,pt b2 0),(13,.slice (va j.q) l.length j.k),(14,.slice (va u.q) ((((([]:List Act)++(([]:List Act)++e))++g)++([{ZZ with kind:=34,n:=(n - 1)}]:List Act)).length) u.k),(15,iv (i:Int))],(bx b2 (B7 pen) 63::bx b1 (D0 c) 71::((vo A2 51 u (((([]:List Act)++(([]:List Act)++e))++g)++([{ZZ with kind:=34,n:=(n - 1)}]:List Act)))++((vo A2 51 j l)++([])))),[sl A2 (some ⟨b3,0,none⟩) ([{ZZ with kind:=34,n:=(n - 1)}]:List Act),sl A2 b0 g,sl A2 q3 e],fu)) (((n - (0:Int)).toNat+1),(([]:List Act)++e),r8,0) ⟨(Nat.lt_succ_self _),hR,ax,(by (simp only [List.nil_append];omega))⟩ bU A7.refl ?_)))))))
 rintro ⟨fu,l,j,i⟩ ⟨c4,hR,a5,ce⟩
 have:=bT.le a5
 obtain ⟨fu1,rfl⟩:∃ m,fu=m+1:=⟨fu - 1,by omega⟩
 replace hR:=V (X0.eq_2 ..) hR
 refine A3 (bS Z (bP 3 41 Z (ie ?_)))
 refine cK Z hR ?_ ?_<;>clear hR<;>intro hR cm cc
 ·refine A4 (nx (A3 (A9 (A0 5 Z (bY 2 3 [1] [(44,.slice (va j.q) l.length j.k),(45,ag (D0 c))] ?_)))))
  have hQ:=C3 hR;clear hR;obtain ⟨w,a8,hR⟩:=hQ
  refine zcm (C9r (c:=c) a8) A7.nil fun ⟨⟨cn,ci⟩,bc⟩=>?_
  obtain ⟨c5,c2⟩:=bc
  have:=(B1b c).1;try rw [a8] at this
  refine B2n (I8 [[bx b2 (B7 pen) 63],[bx b1 (D0 c) 71],vo A2 51 u (((([]:List Act)++(([]:List Act)++e))++g)++([{ZZ with kind:=34,n:=(n - 1)}]:List Act)),vo A2 51 j l] [0,1,3,2] 4 Z ozw Z [[bx b2 (B7 pen) 63],[bx b1 (D0 c) 71],vo A2 51 j l,vo A2 51 u (((([]:List Act)++(([]:List Act)++e))++g)++([{ZZ with kind:=34,n:=(n - 1)}]:List Act))] Z opl) (it Z (Tri.own (Y6 (f:=A2) (r:=j) (xs:=l) (ys:=w) (pre:=[bx b2 (B7 pen) 63,bx b1 (D0 c) 71]) (post:=((vo A2 51 u (((([]:List Act)++(([]:List Act)++e))++g)++([{ZZ with kind:=34,n:=(n - 1)}]:List Act)))++([]))) A0c (fun _=>Z) (fun _=>Z) Z Z Z Z Z Z Z ogz (A5 0 Z) a5 old old) (fun ⟨am,af⟩=>(bx b2 (B7 pen) 63::bx b1 (D0 c) 71::((vo A2 51 am (l++w))++((vo A2 51 u (((([]:List Act)++(([]:List Act)++e))++g)++([{ZZ with kind:=34,n:=(n - 1)}]:List Act)))++([]))))) (fun ⟨am,af⟩=>by first|rfl|(try dsimp only;simp only [List.append_nil,List.cons_append,List.nil_append,List.append_assoc]))) fun ⟨am,af⟩=>?_)
  have:=@List.length_append _ l w
  have:=bT.le af
  have:=bT.cap af
  exact B2n (I8 [[bx b2 (B7 pen) 63],[bx b1 (D0 c) 71],vo A2 51 am (l++w),vo A2 51 u (((([]:List Act)++(([]:List Act)++e))++g)++([{ZZ with kind:=34,n:=(n - 1)}]:List Act))] [0,1,3,2] 4 Z ozw Z [[bx b2 (B7 pen) 63],[bx b1 (D0 c) 71],vo A2 51 u (((([]:List Act)++(([]:List Act)++e))++g)++([{ZZ with kind:=34,n:=(n - 1)}]:List Act)),vo A2 51 am (l++w)] Z opl) (bP 1 13 Z (A1 (nx (A0 3 Z (bP 1 42 Z (ix Z (B1 Z Z Z Z opx) (bP 1 15 Z (A1 (Z0 (z1:=(fu1+1,l,j,i)) (fu1,l++w,am,i+1) ⟨opx,hR,af,(by (simp only [List.length_append];omega))⟩ (Nat.lt_succ_self _) bU c9)))))))))
 refine F1 (nx (bS Z (bY 5 2 [1] [(52,ag (N4 (⟨c.sty,to_⟩:OutC) ⟨va j.q,l.length,j.k⟩))] ?_)))
 refine P2 (bx b2 (B7 pen) 63::bx b1 (D0 c) 71::((vo A2 51 u (((([]:List Act)++(([]:List Act)++e))++g)++([{ZZ with kind:=34,n:=(n - 1)}]:List Act)))++([]))) [] (T:=51) (c:=A2) (r:=j) (xs:=l) a5 omm ?_
 have:=bT.cap a5
 have ad:A2u ([⟨⟨va j.q,l.length,j.k⟩,(⟨c.sty,to_⟩:OutC)⟩]:List (RwX OutC)) ([⟨l,(⟨c.sty,to_⟩:OutC)⟩]:List (RwD OutC Act)):=(A2u.cons ⟨ooy,osf,osf⟩ Z A2u.none)
 refine D4 (q:=A8z A2 ([⟨⟨va j.q,l.length,j.k⟩,(⟨c.sty,to_⟩:OutC)⟩]:List (RwX OutC)) ([⟨l,(⟨c.sty,to_⟩:OutC)⟩]:List (RwD OutC Act))) (E2c (A5 0 Z) E2u) (it Z (B2t (c:=(A0d O6)) (xs:=([⟨⟨va j.q,l.length,j.k⟩,(⟨c.sty,to_⟩:OutC)⟩]:List (RwX OutC))) C9t Z Z Z oki) fun aq=>?_)
 have:([⟨⟨va j.q,l.length,j.k⟩,(⟨c.sty,to_⟩:OutC)⟩]:List (RwX OutC)).length=1:=rfl
 refine bP 1 16 Z (ie (bS Z (bP 1 54 Z (ix Z (B8 (v:=iv c.wide) cE Z Z 2 Z Z) (bP 2 57 Z (zid 5 7 57 62 (decide (c.marks.a=0)) (fun bw cb=>?_) ?_))))))
 ·exact bP 1 58 Z (ix Z (A2w Tryz.underlying69 cE Z Z Z 0 Z Z) (ix Z (B8 (v:=iv c.marks.a) cE Z Z 2 Z Z) (bP 2 62 Z (A1 (I1 5 57 62 bw A7.refl bU Z Z Z Z Z)))))
 refine bP 1 63 Z (zia 5 1 63 68 (decide (c.marks.b=0)) (fun bd=>?_) ?_)
 ·have ca:=bV bd
  exact bP 1 64 Z (ix Z (A2w Tryz.underlying69 cE Z Z Z 1 Z Z) (ix Z (B8 (v:=iv c.marks.b) cE Z Z 2 Z Z) (bP 2 68 Z (A1 (I1 5 63 68 bd A7.refl bU Z Z Z Z Z)))))
 refine bP 1 17 Z (ie (A7i (un fun (out:List (RwD OutC Act))=>un fun (p:VR) (o:List (RwX OutC))=>(A1u c n at_ to_ pen last out=R∧bT 10 out.length p∧A2u o out∧out.length≤2,[(1,iv n),(2,iv at_),(3,iv to_),(5,bv last),(6,pt b1 0),(10,pt b2 0),(16,.slice (va p.q) out.length p.k),(17,bv (((decide (c.wide=0))&&(decide (c.marks.a=0)))&&(decide (c.marks.b=0))))],(bx b2 (B7 pen) 63::bx b1 (D0 c) 71::((vo (A0d O6) 74 p o)++([]))),[A8z A2 ([⟨⟨va j.q,l.length,j.k⟩,(⟨c.sty,to_⟩:OutC)⟩]:List (RwX OutC)) ([⟨l,(⟨c.sty,to_⟩:OutC)⟩]:List (RwD OutC Act)),sl A2 (va j.q) l,sl A2 (some ⟨b3,0,none⟩) ([{ZZ with kind:=34,n:=(n - 1)}]:List Act),sl A2 b0 g,sl A2 q3 e,A8z A2 o out])) ?_ ?_))
 ·refine bS Z (bP 2 70 Z (zia 3 0 70 73 (decide ((1:Int)<n)) (fun b9=>?_) ?_))
  ·have c8:=bV b9
   exact bP 3 73 Z (A1 (I1 2 70 73 b9 A7.refl bU Z Z Z Z Z))
  refine ie ?_
  refine zjb Z hR ?_ ?_<;>clear hR<;>intro hR bn
  ·have bi:=bV bn
   refine A0 9 Z (pp3 3 74 75 76 Z (ix Z (G6 (us:=B7 c.sty) B4w Z Z 2 Z Z Z) (bY 2 3 [] [(79,ag (N4 (⟨c.sty,to_⟩:OutC) ⟨va u.q,(((([]:List Act)++(([]:List Act)++e))++g)++([{ZZ with kind:=34,n:=(n - 1)}]:List Act)).length,u.k⟩))] ?_)))
   refine P2 ((vo (A0d O6) 74 (⟨some aq,1,[]⟩:VR) ([⟨⟨va j.q,l.length,j.k⟩,(⟨c.sty,to_⟩:OutC)⟩]:List (RwX OutC)))++(bx b2 (B7 pen) 63::bx b1 (D0 c) 71::[])) [] (T:=51) (c:=A2) (r:=u) (xs:=(((([]:List Act)++(([]:List Act)++e))++g)++([{ZZ with kind:=34,n:=(n - 1)}]:List Act))) ae (by (simp only [K3,List.append_nil];exact Z)) ?_
   have:=bT.cap ae
   refine it Z (B0 (c:=(A0d O6)) (xs:=([⟨⟨va u.q,(((([]:List Act)++(([]:List Act)++e))++g)++([{ZZ with kind:=34,n:=(n - 1)}]:List Act)).length,u.k⟩,(⟨c.sty,to_⟩:OutC)⟩]:List (RwX OutC))) C9t Z Z Z oki) fun cg=>?_
   have ah:A2u ([⟨⟨va u.q,(((([]:List Act)++(([]:List Act)++e))++g)++([{ZZ with kind:=34,n:=(n - 1)}]:List Act)).length,u.k⟩,(⟨c.sty,to_⟩:OutC)⟩]:List (RwX OutC)) ([⟨(((([]:List Act)++(([]:List Act)++e))++g)++([{ZZ with kind:=34,n:=(n - 1)}]:List Act)),(⟨c.sty,to_⟩:OutC)⟩]:List (RwD OutC Act)):=(A2u.cons ⟨ooy,osf,osf⟩ Z A2u.none)
   refine D4 (q:=A8z A2 ([⟨⟨va u.q,(((([]:List Act)++(([]:List Act)++e))++g)++([{ZZ with kind:=34,n:=(n - 1)}]:List Act)).length,u.k⟩,(⟨c.sty,to_⟩:OutC)⟩]:List (RwX OutC)) ([⟨(((([]:List Act)++(([]:List Act)++e))++g)++([{ZZ with kind:=34,n:=(n - 1)}]:List Act)),(⟨c.sty,to_⟩:OutC)⟩]:List (RwD OutC Act))) (E2c (A5 1 Z) E2u) ?_
   have:([⟨⟨va u.q,(((([]:List Act)++(([]:List Act)++e))++g)++([{ZZ with kind:=34,n:=(n - 1)}]:List Act)).length,u.k⟩,(⟨c.sty,to_⟩:OutC)⟩]:List (RwX OutC)).length=1:=rfl
   have bh:A2u (([⟨⟨va j.q,l.length,j.k⟩,(⟨c.sty,to_⟩:OutC)⟩]:List (RwX OutC))++([⟨⟨va u.q,(((([]:List Act)++(([]:List Act)++e))++g)++([{ZZ with kind:=34,n:=(n - 1)}]:List Act)).length,u.k⟩,(⟨c.sty,to_⟩:OutC)⟩]:List (RwX OutC))) (([⟨l,(⟨c.sty,to_⟩:OutC)⟩]:List (RwD OutC Act))++([⟨(((([]:List Act)++(([]:List Act)++e))++g)++([{ZZ with kind:=34,n:=(n - 1)}]:List Act)),(⟨c.sty,to_⟩:OutC)⟩]:List (RwD OutC Act))):=A2u.append ad ah
   refine it Z (D0q (r:=(⟨some aq,1,[]⟩:VR)) (rs:=([⟨⟨va j.q,l.length,j.k⟩,(⟨c.sty,to_⟩:OutC)⟩]:List (RwX OutC))) (xss:=([⟨l,(⟨c.sty,to_⟩:OutC)⟩]:List (RwD OutC Act))) (pre:=[]) (post:=[bx b2 (B7 pen) 63,bx b1 (D0 c) 71]) F4x (fun _=>Z) (fun _=>Z) Z Z Z Z Z Z Z Z (by exact Z) (A5 1 Z) (A5 3 Z) (A5 0 Z) ad ah (show bT 10 1 _ from ⟨rfl,Nat.le_refl _,Nat.le_of_ble_eq_true Z⟩) old old) fun ⟨b4,av⟩=>?_
   have:=bT.le av
   have:=bT.cap av
   have:([⟨l,(⟨c.sty,to_⟩:OutC)⟩]:List (RwD OutC Act)).length=1:=rfl
   have:([⟨(((([]:List Act)++(([]:List Act)++e))++g)++([{ZZ with kind:=34,n:=(n - 1)}]:List Act)),(⟨c.sty,to_⟩:OutC)⟩]:List (RwD OutC Act)).length=1:=rfl
   have:(([⟨l,(⟨c.sty,to_⟩:OutC)⟩]:List (RwD OutC Act))++([⟨(((([]:List Act)++(([]:List Act)++e))++g)++([{ZZ with kind:=34,n:=(n - 1)}]:List Act)),(⟨c.sty,to_⟩:OutC)⟩]:List (RwD OutC Act))).length=([⟨l,(⟨c.sty,to_⟩:OutC)⟩]:List (RwD OutC Act)).length+1:=List.length_append
   exact bP 1 16 Z (A1 (Y9 (I8 [vo (A0d O6) 74 b4 (([⟨⟨va j.q,l.length,j.k⟩,(⟨c.sty,to_⟩:OutC)⟩]:List (RwX OutC))++([⟨⟨va u.q,(((([]:List Act)++(([]:List Act)++e))++g)++([{ZZ with kind:=34,n:=(n - 1)}]:List Act)).length,u.k⟩,(⟨c.sty,to_⟩:OutC)⟩]:List (RwX OutC))),[bx b2 (B7 pen) 63],[bx b1 (D0 c) 71]] [1,2,0] 3 Z ozw (by exact Z) [[bx b2 (B7 pen) 63],[bx b1 (D0 c) 71],vo (A0d O6) 74 b4 (([⟨⟨va j.q,l.length,j.k⟩,(⟨c.sty,to_⟩:OutC)⟩]:List (RwX OutC))++([⟨⟨va u.q,(((([]:List Act)++(([]:List Act)++e))++g)++([{ZZ with kind:=34,n:=(n - 1)}]:List Act)).length,u.k⟩,(⟨c.sty,to_⟩:OutC)⟩]:List (RwX OutC)))] Z opv) (S6 ((([⟨l,(⟨c.sty,to_⟩:OutC)⟩]:List (RwD OutC Act))++([⟨(((([]:List Act)++(([]:List Act)++e))++g)++([{ZZ with kind:=34,n:=(n - 1)}]:List Act)),(⟨c.sty,to_⟩:OutC)⟩]:List (RwD OutC Act))),b4,(([⟨⟨va j.q,l.length,j.k⟩,(⟨c.sty,to_⟩:OutC)⟩]:List (RwX OutC))++([⟨⟨va u.q,(((([]:List Act)++(([]:List Act)++e))++g)++([{ZZ with kind:=34,n:=(n - 1)}]:List Act)).length,u.k⟩,(⟨c.sty,to_⟩:OutC)⟩]:List (RwX OutC)))) ⟨hR,av,bh,oqx⟩ bU c9)))
  have bi:=bV bn
  exact A4 (Y9 (I8 [vo (A0d O6) 74 (⟨some aq,1,[]⟩:VR) ([⟨⟨va j.q,l.length,j.k⟩,(⟨c.sty,to_⟩:OutC)⟩]:List (RwX OutC)),[bx b2 (B7 pen) 63],[bx b1 (D0 c) 71],vo A2 51 u (((([]:List Act)++(([]:List Act)++e))++g)++([{ZZ with kind:=34,n:=(n - 1)}]:List Act))] [1,2,0,3] 4 Z ozw (by (simp only [K3,List.flatten_cons,List.flatten_nil,List.cons_append,List.append_assoc,List.nil_append,List.append_nil];exact Z)) [[bx b2 (B7 pen) 63],[bx b1 (D0 c) 71],vo (A0d O6) 74 (⟨some aq,1,[]⟩:VR) ([⟨⟨va j.q,l.length,j.k⟩,(⟨c.sty,to_⟩:OutC)⟩]:List (RwX OutC)),vo A2 51 u (((([]:List Act)++(([]:List Act)++e))++g)++([{ZZ with kind:=34,n:=(n - 1)}]:List Act))] Z opv) (S6 (([⟨l,(⟨c.sty,to_⟩:OutC)⟩]:List (RwD OutC Act)),(⟨some aq,1,[]⟩:VR),([⟨⟨va j.q,l.length,j.k⟩,(⟨c.sty,to_⟩:OutC)⟩]:List (RwX OutC))) ⟨hR,(show bT 10 1 _ from ⟨rfl,Nat.le_refl _,Nat.le_of_ble_eq_true Z⟩),ad,oqx⟩ bU c9))
 rintro ⟨out,p,o⟩
 rintro ⟨hR,ab,y,hj⟩
 replace hR:=V (A1u.eq_1 ..) hR
 refine A3 (bS Z (bP 2 83 Z (zia 4 9 83 87 (decide (c.base=32)) (fun b8=>?_) ?_)))
 ·have c3:=bV b8
  exact cB 4 [1] 87 Z (A1 (I1 2 83 87 b8 A7.refl bU Z Z Z Z Z))
 refine bP 1 88 Z (zia 8 0 88 96 (decide (c.sty={ZJ with back:=c.sty.back})) (fun be=>?_) ?_)
 ·have cd:=bV be
  refine bY 6 2 [1,1] [(90,ag (B7 c.sty)),(94,ag (B7 ({ZJ with back:=c.sty.back})))] ?_
  exact ix Z (A3m (a:=c.sty) (b:={ZJ with back:=c.sty.back}) E0h Z Z Z) (bP 1 96 Z (A1 (I1 5 88 96 be A7.refl bU Z Z Z Z Z)))
 refine ie ?_
 refine zjb Z hR ?_ ?_<;>clear hR<;>intro hR bj
 ·have bl:=bV bj
  refine bS Z (D7x 3 0 [0,0] (fun a0=>[(18,pt a0 0)]) (fun a0=>(bx a0 (B7 pen) 63::bx b2 (B7 pen) 63::bx b1 (D0 c) 71::((vo (A0d O6) 74 p o)++([])))) (fun a0=>?_))
  refine ie (bS Z (zrg 5 0 [2,0] [] (bx a0 (B7 ({pen with back:=c.sty.back})) 63::bx b2 (B7 pen) 63::bx b1 (D0 c) 71::((vo (A0d O6) 74 p o)++([]))) ?_))
  refine ie (bS Z (bP 1 19 Z (ie (bS Z (bY 3 3 [1,0] [(102,.slice none 0 0),(103,ag (B7 pen)),(104,ag (B7 ({pen with back:=c.sty.back})))] ?_)))))
  have hQ:=C3 hR;clear hR;obtain ⟨d,a6,hR⟩:=hQ
  refine zcm (C0i (from_:=pen) (to_:=({pen with back:=c.sty.back})) a6) A7.nil fun ⟨⟨br,cj⟩,bm⟩=>?_
  obtain ⟨c0,c6⟩:=bm
  have:=(A9p pen ({pen with back:=c.sty.back})).1;try rw [a6] at this
  refine it Z (Y6 (f:=A2) (r:=VR.nil) (xs:=([]:List Act)) (ys:=d) (pre:=(bx a0 (B7 ({pen with back:=c.sty.back})) 63::bx b2 (B7 pen) 63::bx b1 (D0 c) 71::((vo (A0d O6) 74 p o)++([])))) (post:=[]) A0c (fun _=>Z) (fun _=>Z) Z Z Z Z Z Z Z (by first|exact Z|(simp only [K3,List.append_nil];done)|(simp only [K3,List.append_nil];exact Z)|(simp only [K3,List.flatten_cons,List.flatten_nil,List.cons_append,List.append_assoc,List.nil_append,List.append_nil];done)|(simp only [K3,List.flatten_cons,List.flatten_nil,List.cons_append,List.append_assoc,List.nil_append,List.append_nil];exact Z)) (A5 0 Z) bT.nil old old) fun ⟨an,ao⟩=>?_
  have:=bT.le ao
  have:=bT.cap ao
  refine bP 1 19 Z (ie (bS Z (bY 3 3 [] [(107,.slice (va an.q) ((([]:List Act)++d).length) an.k),(109,ag (A2 ({ZZ with kind:=30,n:=n})))] ?_)))
  refine it Z (B0 (c:=A2) (xs:=([{ZZ with kind:=30,n:=n}]:List Act)) N3 Z Z Z oki) fun bz=>?_
  have:([{ZZ with kind:=30,n:=n}]:List Act).length=1:=rfl
  refine B2n (I8 [[bx a0 (B7 ({pen with back:=c.sty.back})) 63],[bx b2 (B7 pen) 63],[bx b1 (D0 c) 71],vo (A0d O6) 74 p o,vo A2 51 an (([]:List Act)++d)] [0,1,2,4,3] 5 Z ozw (by first|exact Z|(simp only [K3,List.append_nil];done)|(simp only [K3,List.append_nil];exact Z)|(simp only [K3,List.flatten_cons,List.flatten_nil,List.cons_append,List.append_assoc,List.nil_append,List.append_nil];done)|(simp only [K3,List.flatten_cons,List.flatten_nil,List.cons_append,List.append_assoc,List.nil_append,List.append_nil];exact Z)) [[bx a0 (B7 ({pen with back:=c.sty.back})) 63],[bx b2 (B7 pen) 63],[bx b1 (D0 c) 71],vo A2 51 an (([]:List Act)++d),vo (A0d O6) 74 p o] Z opl) (it Z (Tri.own (Q7 (f:=A2) (r:=an) (xs:=(([]:List Act)++d)) (ys:=([{ZZ with kind:=30,n:=n}]:List Act)) (pre:=[bx a0 (B7 ({pen with back:=c.sty.back})) 63,bx b2 (B7 pen) 63,bx b1 (D0 c) 71]) (post:=((vo (A0d O6) 74 p o)++([]))) A0c (fun _=>Z) (fun _=>Z) Z Z Z Z Z Z Z Z (by rfl) (A5 0 Z) ao old old) (fun ⟨a1,ac⟩=>(bx a0 (B7 ({pen with back:=c.sty.back})) 63::bx b2 (B7 pen) 63::bx b1 (D0 c) 71::((vo A2 51 a1 ((([]:List Act)++d)++([{ZZ with kind:=30,n:=n}]:List Act)))++((vo (A0d O6) 74 p o)++([]))))) (fun ⟨a1,ac⟩=>by first|rfl|(try dsimp only;simp only [List.append_nil,List.cons_append,List.nil_append,List.append_assoc]))) fun ⟨a1,ac⟩=>?_)
  have:=bT.le ac
  have:=bT.cap ac
  refine B2n (I8 [[bx a0 (B7 ({pen with back:=c.sty.back})) 63],[bx b2 (B7 pen) 63],[bx b1 (D0 c) 71],vo A2 51 a1 ((([]:List Act)++d)++([{ZZ with kind:=30,n:=n}]:List Act)),vo (A0d O6) 74 p o] [0,1,2,4,3] 5 Z ozw (by exact Z) [[bx a0 (B7 ({pen with back:=c.sty.back})) 63],[bx b2 (B7 pen) 63],[bx b1 (D0 c) 71],vo (A0d O6) 74 p o,vo A2 51 a1 ((([]:List Act)++d)++([{ZZ with kind:=30,n:=n}]:List Act))] Z opl) (bP 1 19 Z (ie (bS Z (bP 1 112 Z (ie ?_)))))
  refine zjb Z hR ?_ ?_<;>clear hR<;>intro hR ck
  ·refine A0 8 Z (bY 5 3 [0] [(113,.slice (va p.q) out.length p.k),(117,ag (N4 (⟨{pen with back:=c.sty.back},at_⟩:OutC) ⟨va a1.q,((([]:List Act)++d)++([{ZZ with kind:=30,n:=n}]:List Act)).length,a1.k⟩))] ?_)
   refine P2 (bx a0 (B7 ({pen with back:=c.sty.back})) 63::bx b2 (B7 pen) 63::bx b1 (D0 c) 71::((vo (A0d O6) 74 p o)++([]))) [] (T:=51) (c:=A2) (r:=a1) (xs:=((([]:List Act)++d)++([{ZZ with kind:=30,n:=n}]:List Act))) ac (by first|exact Z|(simp only [K3,List.append_nil];done)|(simp only [K3,List.append_nil];exact Z)|(simp only [K3,List.flatten_cons,List.flatten_nil,List.cons_append,List.append_assoc,List.nil_append,List.append_nil];done)|(simp only [K3,List.flatten_cons,List.flatten_nil,List.cons_append,List.append_assoc,List.nil_append,List.append_nil];exact Z)) ?_
   have:=bT.cap ac
   refine it Z (B0 (c:=(A0d O6)) (xs:=([⟨⟨va a1.q,((([]:List Act)++d)++([{ZZ with kind:=30,n:=n}]:List Act)).length,a1.k⟩,(⟨{pen with back:=c.sty.back},at_⟩:OutC)⟩]:List (RwX OutC))) C9t Z Z Z oki) fun cf=>?_
   have aj:A2u ([⟨⟨va a1.q,((([]:List Act)++d)++([{ZZ with kind:=30,n:=n}]:List Act)).length,a1.k⟩,(⟨{pen with back:=c.sty.back},at_⟩:OutC)⟩]:List (RwX OutC)) ([⟨((([]:List Act)++d)++([{ZZ with kind:=30,n:=n}]:List Act)),(⟨{pen with back:=c.sty.back},at_⟩:OutC)⟩]:List (RwD OutC Act)):=(A2u.cons ⟨ooy,osf,osf⟩ Z A2u.none)
   refine D4 (q:=A8z A2 ([⟨⟨va a1.q,((([]:List Act)++d)++([{ZZ with kind:=30,n:=n}]:List Act)).length,a1.k⟩,(⟨{pen with back:=c.sty.back},at_⟩:OutC)⟩]:List (RwX OutC)) ([⟨((([]:List Act)++d)++([{ZZ with kind:=30,n:=n}]:List Act)),(⟨{pen with back:=c.sty.back},at_⟩:OutC)⟩]:List (RwD OutC Act))) (E2c (A5 1 Z) E2u) ?_
   have:([⟨⟨va a1.q,((([]:List Act)++d)++([{ZZ with kind:=30,n:=n}]:List Act)).length,a1.k⟩,(⟨{pen with back:=c.sty.back},at_⟩:OutC)⟩]:List (RwX OutC)).length=1:=rfl
   have bg:A2u (o++([⟨⟨va a1.q,((([]:List Act)++d)++([{ZZ with kind:=30,n:=n}]:List Act)).length,a1.k⟩,(⟨{pen with back:=c.sty.back},at_⟩:OutC)⟩]:List (RwX OutC))) (out++([⟨((([]:List Act)++d)++([{ZZ with kind:=30,n:=n}]:List Act)),(⟨{pen with back:=c.sty.back},at_⟩:OutC)⟩]:List (RwD OutC Act))):=A2u.append y aj
   refine it Z (D0q (r:=p) (rs:=o) (xss:=out) (pre:=[bx a0 (B7 ({pen with back:=c.sty.back})) 63,bx b2 (B7 pen) 63,bx b1 (D0 c) 71]) (post:=[]) F4x (fun _=>Z) (fun _=>Z) Z Z Z Z Z Z Z Z (by (simp only [K3,List.append_nil];exact Z)) (A5 1 Z) (A5 10 Z) (A5 0 Z) y aj ab old old) fun ⟨bo,ap⟩=>?_
   have:=bT.le ap
   have:=bT.cap ap
   have:([⟨((([]:List Act)++d)++([{ZZ with kind:=30,n:=n}]:List Act)),(⟨{pen with back:=c.sty.back},at_⟩:OutC)⟩]:List (RwD OutC Act)).length=1:=rfl
   have:(out++([⟨((([]:List Act)++d)++([{ZZ with kind:=30,n:=n}]:List Act)),(⟨{pen with back:=c.sty.back},at_⟩:OutC)⟩]:List (RwD OutC Act))).length=out.length+1:=List.length_append
   refine bP 1 16 Z (A1 (nx (bS Z (bP 2 12 Z ?_))))
   subst hR
   exact ie (A8 (cC hr hD (I9 Z (A6 Z)) ⟨(bo,(o++([⟨⟨va a1.q,((([]:List Act)++d)++([{ZZ with kind:=30,n:=n}]:List Act)).length,a1.k⟩,(⟨{pen with back:=c.sty.back},at_⟩:OutC)⟩]:List (RwX OutC)))),⟨ap,bg⟩⟩ bU c9))
  refine sh' 12 [(12,[bx a0 (B7 ({pen with back:=c.sty.back})) 63]),(12,[bx b2 (B7 pen) 63]),(12,[bx b1 (D0 c) 71]),(10,vo (A0d O6) 74 p o),(5,vo A2 51 a1 ((([]:List Act)++d)++([{ZZ with kind:=30,n:=n}]:List Act)))] [sl A2 (some ⟨bz,0,none⟩) ([{ZZ with kind:=30,n:=n}]:List Act),sl A2 br d,A8z A2 ([⟨⟨va j.q,l.length,j.k⟩,(⟨c.sty,to_⟩:OutC)⟩]:List (RwX OutC)) ([⟨l,(⟨c.sty,to_⟩:OutC)⟩]:List (RwD OutC Act)),sl A2 (va j.q) l,sl A2 (some ⟨b3,0,none⟩) ([{ZZ with kind:=34,n:=(n - 1)}]:List Act),sl A2 b0 g,sl A2 q3 e,A8z A2 o out] (bx a0 (B7 ({pen with back:=c.sty.back})) 63::bx b2 (B7 pen) 63::bx b1 (D0 c) 71::((vo (A0d O6) 74 p o)++((vo A2 51 a1 ((([]:List Act)++d)++([{ZZ with kind:=30,n:=n}]:List Act)))++([])))) (cL 12 0) oki Z oki oki oki bU A7.refl ?_
  refine zhp [0,1,2,7] 8 (cL 12 135) [(120,.slice (va p.q) out.length p.k),(121,.slice (va a1.q) (((([]:List Act)++d)++([{ZZ with kind:=30,n:=n}]:List Act)).length) a1.k),(122,iv n),(127,iv to_)] ?_
  refine zhk 3 (cL 12 143) Z (A2h (cs:=A2 ({ZZ with kind:=20,n:=2,m:=n})) Z Z oki) ?_
  refine zhl 6 [bx a0 (B7 ({pen with back:=c.sty.back})) 63,bx b2 (B7 pen) 63,bx b1 (D0 c) 71] (cL 12 207) Z (G6 (us:=B7 ({pen with back:=c.sty.back})) B4w Z Z 0 Z Z Z) ?_
  refine zho 4 (bx a0 (B7 ({pen with back:=c.sty.back})) 63::bx b2 (B7 pen) 63::bx b1 (D0 c) 71::((vo (A0d O6) 74 p o)++((vo A2 51 a1 ((([]:List Act)++d)++([{ZZ with kind:=30,n:=n}]:List Act)))++([])))) (cL 12 223) Z (B0 (c:=A2) (xs:=([{ZZ with kind:=20,n:=2,m:=n}]:List Act)) N3 Z Z Z oki) (fun bb=>by exact bU) (fun bb=>c9) fun bb=>?_
  have:([{ZZ with kind:=20,n:=2,m:=n}]:List Act).length=1:=rfl
  refine zho 5 (bx a0 (B7 ({pen with back:=c.sty.back})) 63::bx b2 (B7 pen) 63::bx b1 (D0 c) 71::((vo (A0d O6) 74 p o)++([]))) (cL 12 255) Z (Tri.own (Q7 (f:=A2) (r:=a1) (xs:=((([]:List Act)++d)++([{ZZ with kind:=30,n:=n}]:List Act))) (ys:=([{ZZ with kind:=20,n:=2,m:=n}]:List Act)) (pre:=(bx a0 (B7 ({pen with back:=c.sty.back})) 63::bx b2 (B7 pen) 63::bx b1 (D0 c) 71::((vo (A0d O6) 74 p o)++([])))) (post:=[]) A0c (fun _=>Z) (fun _=>Z) Z Z Z Z Z Z Z Z (by (simp only [K3,List.flatten_cons,List.flatten_nil,List.cons_append,List.append_assoc,List.nil_append,List.append_nil];done)) (A5 0 Z) ac old old) (fun ⟨a4,aa⟩=>(bx a0 (B7 ({pen with back:=c.sty.back})) 63::bx b2 (B7 pen) 63::bx b1 (D0 c) 71::((vo (A0d O6) 74 p o)++((vo A2 51 a4 (((([]:List Act)++d)++([{ZZ with kind:=30,n:=n}]:List Act))++([{ZZ with kind:=20,n:=2,m:=n}]:List Act)))++([]))))) (fun ⟨a4,aa⟩=>by first|rfl|(try dsimp only;simp only [List.append_nil,List.cons_append,List.nil_append,List.append_assoc]))) (fun ⟨a4,aa⟩=>bU) (fun ⟨a4,aa⟩=>c9) fun ⟨a4,aa⟩=>?_
  have:=bT.le aa
  have:=bT.cap aa
  refine zhk 8 (cL 12 511) Z (A2h (cs:=N4 (⟨{pen with back:=c.sty.back},to_⟩:OutC) ⟨va a4.q,(((([]:List Act)++d)++([{ZZ with kind:=30,n:=n}]:List Act))++([{ZZ with kind:=20,n:=2,m:=n}]:List Act)).length,a4.k⟩) Z Z oki) ?_
  have:=bT.cap aa
  have:=bT.le aa
  refine F0u (bx a0 (B7 ({pen with back:=c.sty.back})) 63::bx b2 (B7 pen) 63::bx b1 (D0 c) 71::((vo (A0d O6) 74 p o)++([]))) [] (T:=51) (c:=A2) (r:=a4) (xs:=(((([]:List Act)++d)++([{ZZ with kind:=30,n:=n}]:List Act))++([{ZZ with kind:=20,n:=2,m:=n}]:List Act))) aa (by (simp only [K3,List.append_nil];exact Z)) (bx a0 (B7 ({pen with back:=c.sty.back})) 63::bx b2 (B7 pen) 63::bx b1 (D0 c) 71::((vo (A0d O6) 74 p o)++([]))) Z (by (simp only [List.append_nil,List.cons_append,List.nil_append,List.append_assoc];exact List.Sublist.refl _)) (zho 9 (bx a0 (B7 ({pen with back:=c.sty.back})) 63::bx b2 (B7 pen) 63::bx b1 (D0 c) 71::((vo (A0d O6) 74 p o)++([]))) (cL 12 1023) Z (B0 (c:=(A0d O6)) (xs:=([⟨⟨va a4.q,(((([]:List Act)++d)++([{ZZ with kind:=30,n:=n}]:List Act))++([{ZZ with kind:=20,n:=2,m:=n}]:List Act)).length,a4.k⟩,(⟨{pen with back:=c.sty.back},to_⟩:OutC)⟩]:List (RwX OutC))) C9t Z Z Z oki) (fun b7=>by (simp only [List.append_nil];exact bU)) (fun b7=>c9) fun b7=>?_)
  have ak:A2u ([⟨⟨va a4.q,(((([]:List Act)++d)++([{ZZ with kind:=30,n:=n}]:List Act))++([{ZZ with kind:=20,n:=2,m:=n}]:List Act)).length,a4.k⟩,(⟨{pen with back:=c.sty.back},to_⟩:OutC)⟩]:List (RwX OutC)) ([⟨(((([]:List Act)++d)++([{ZZ with kind:=30,n:=n}]:List Act))++([{ZZ with kind:=20,n:=2,m:=n}]:List Act)),(⟨{pen with back:=c.sty.back},to_⟩:OutC)⟩]:List (RwD OutC Act)):=(A2u.cons ⟨ooy,osf,osf⟩ Z A2u.none)
  refine C9w (q:=A8z A2 ([⟨⟨va a4.q,(((([]:List Act)++d)++([{ZZ with kind:=30,n:=n}]:List Act))++([{ZZ with kind:=20,n:=2,m:=n}]:List Act)).length,a4.k⟩,(⟨{pen with back:=c.sty.back},to_⟩:OutC)⟩]:List (RwX OutC)) ([⟨(((([]:List Act)++d)++([{ZZ with kind:=30,n:=n}]:List Act))++([{ZZ with kind:=20,n:=2,m:=n}]:List Act)),(⟨{pen with back:=c.sty.back},to_⟩:OutC)⟩]:List (RwD OutC Act))) (E2c (A5 1 Z) E2u) ?_
  have:([⟨⟨va a4.q,(((([]:List Act)++d)++([{ZZ with kind:=30,n:=n}]:List Act))++([{ZZ with kind:=20,n:=2,m:=n}]:List Act)).length,a4.k⟩,(⟨{pen with back:=c.sty.back},to_⟩:OutC)⟩]:List (RwX OutC)).length=1:=rfl
  have bk:A2u (o++([⟨⟨va a4.q,(((([]:List Act)++d)++([{ZZ with kind:=30,n:=n}]:List Act))++([{ZZ with kind:=20,n:=2,m:=n}]:List Act)).length,a4.k⟩,(⟨{pen with back:=c.sty.back},to_⟩:OutC)⟩]:List (RwX OutC))) (out++([⟨(((([]:List Act)++d)++([{ZZ with kind:=30,n:=n}]:List Act))++([{ZZ with kind:=20,n:=2,m:=n}]:List Act)),(⟨{pen with back:=c.sty.back},to_⟩:OutC)⟩]:List (RwD OutC Act))):=A2u.append y ak
  refine zho 10 [bx a0 (B7 ({pen with back:=c.sty.back})) 63,bx b2 (B7 pen) 63,bx b1 (D0 c) 71] (cL 12 2047) Z (D0q (r:=p) (rs:=o) (xss:=out) (pre:=[bx a0 (B7 ({pen with back:=c.sty.back})) 63,bx b2 (B7 pen) 63,bx b1 (D0 c) 71]) (post:=[]) F4x (fun _=>Z) (fun _=>Z) Z Z Z Z Z Z Z Z (by (simp only [K3,List.append_nil];exact Z)) (A5 1 Z) (A5 11 Z) (A5 0 Z) y ak ab old old) (fun ⟨au,al⟩=>bU) (fun ⟨au,al⟩=>c9) fun ⟨au,al⟩=>?_
  have:=bT.le al
  have:=bT.cap al
  have:([⟨(((([]:List Act)++d)++([{ZZ with kind:=30,n:=n}]:List Act))++([{ZZ with kind:=20,n:=2,m:=n}]:List Act)),(⟨{pen with back:=c.sty.back},to_⟩:OutC)⟩]:List (RwD OutC Act)).length=1:=rfl
  have:(out++([⟨(((([]:List Act)++d)++([{ZZ with kind:=30,n:=n}]:List Act))++([{ZZ with kind:=20,n:=2,m:=n}]:List Act)),(⟨{pen with back:=c.sty.back},to_⟩:OutC)⟩]:List (RwD OutC Act))).length=out.length+1:=List.length_append
  refine zhp [11] 0 (cL 12 4095) [(16,.slice (va au.q) ((out++([⟨(((([]:List Act)++d)++([{ZZ with kind:=30,n:=n}]:List Act))++([{ZZ with kind:=20,n:=2,m:=n}]:List Act)),(⟨{pen with back:=c.sty.back},to_⟩:OutC)⟩]:List (RwD OutC Act))).length) au.k)] ?_
  refine C5e oki (nx (bS Z (bP 2 12 Z ?_)))
  subst hR
  exact ie (A8 (cC hr hD (I9 Z (A6 Z)) ⟨(au,(o++([⟨⟨va a4.q,(((([]:List Act)++d)++([{ZZ with kind:=30,n:=n}]:List Act))++([{ZZ with kind:=20,n:=2,m:=n}]:List Act)).length,a4.k⟩,(⟨{pen with back:=c.sty.back},to_⟩:OutC)⟩]:List (RwX OutC)))),⟨al,bk⟩⟩ bU c9))
 have bl:=bV bj
 refine A4 (nx (bS Z (bP 2 12 Z ?_)))
 subst hR
 exact ie (A8 (cC hr hD (I9 Z (A6 Z)) ⟨(p,o),⟨ab,y⟩⟩ bU c9))
def N5 (outL:List Act) (at_:Int) (a:Int→OutC→List Act→(OutC×List Act)):Nat→List (RwD OutC Act)→Nat→Nat→(OutC×List Act)
 | 0,_,_,_=>(ZW,[])
 | fu5+1,ways,best,i=>(bif (decide ((i:Int)<(ways.length:Int))) then (bif (decide ((I3 ((ways.getD i (zwd ZW)).l))<(I3 ((ways.getD best (zwd ZW)).l)))) then N5 outL at_ a fu5 ways i (i+1) else N5 outL at_ a fu5 ways best (i+1)) else a at_ (⟨((ways.getD best (zwd ZW)).b).pen,((ways.getD best (zwd ZW)).b).ends⟩:OutC) ((([]:List Act)++outL)++(ways.getD best (zwd ZW)).l))
def A0p (l:List Cel) (to_:Int) (b:Int) (out:OutC) (outL:List Act) (a:Int→OutC→List Act→(OutC×List Act)):Nat→Nat→Int→(OutC×List Act)
 | 0,_,_=>(ZW,[])
 | fu3+1,n,at_=>(bif ((decide (at_<to_))&&(decide ((l.getD ((at_).toNat) ZV)=(l.getD ((b).toNat) ZV)))) then (bif (decide ((l.getD ((b).toNat) ZV).wide=1)) then A0p l to_ b out outL a fu3 (n+1) ((at_+1)+1) else A0p l to_ b out outL a fu3 (n+1) (at_+1)) else (B5 (A4t (l.getD ((b).toNat) ZV) (n:Int) b at_ out.pen (decide (at_=to_))) fun (c:List (RwD OutC Act))=>N5 outL at_ a ((c.length - 1)+1) c 0 1))
def S7 (l:List Cel) (to_:Int):Nat→Int→OutC→List Act→(OutC×List Act)
 | 0,_,_,_=>(ZW,[])
 | fu1+1,from_1,out,outL=>(bif (decide (from_1<to_)) then A0p l to_ from_1 out outL (S7 l to_ fu1) ((to_ - from_1).toNat+1) 0 from_1 else (out,outL))
def C4 (l:List Cel) (from_:Int) (to_:Int) (pen:Sty):OutC×List Act :=
 S7 l to_ ((to_ - from_).toNat+1) from_ (⟨pen,to_⟩:OutC) ([]:List Act)
theorem B2s {outL:List Act} {at_:Int} {ag:Int→OutC→List Act→(OutC×List Act)} {ways:List (RwD OutC Act)}:∀ (fu a i:Nat),ways.length - i<fu→a<ways.length →
  ∃ k,k<ways.length∧N5 outL at_ ag fu ways a i=ag at_ (⟨((ways.getD k (zwd ZW)).b).pen,((ways.getD k (zwd ZW)).b).ends⟩:OutC) ((([]:List Act)++outL)++(ways.getD k (zwd ZW)).l)
 | 0,a,i,h,_=>by omega
 | fu+1,a,i,h,hb=>by
  rw [N5]
  by_cases hc:(i:Int)<(ways.length:Int)
  ·rw [decide_eq_true hc];simp only [cond_true]
   cases decide (I3 ((ways.getD i (zwd ZW)).l)<I3 ((ways.getD a (zwd ZW)).l)) with
   | true=>simp only [cond_true];exact B2s fu i (i+1) opx opx
   | false=>simp only [cond_false];exact B2s fu a (i+1) opx hb
  ·rw [decide_eq_false hc];grind
theorem B3g {l:List Cel} {from_1:Int} {out:OutC} {outL:List Act} {ag:Int→OutC→List Act→(OutC×List Act)} (d:0≤from_∧to_≤l.length∧l.length≤100)
  (a:∀ i:Int,from_≤i→i<to_→(l.getD i.toNat ZV).wide=1→i+1<to_) (m:from_≤from_1∧from_1<to_):∀ (fu n:Nat) (at_:Int),(to_ - at_).toNat<fu→from_1≤at_∧at_≤to_∧(n:Int)≤at_ - from_1∧(n=0→at_=from_1) →
  ∃ (f:Int) (j:OutC) (o:List Act),(from_1<f∧f≤to_∧(j.ends=from_1∨j.ends=f)∧o.length≤2000)∧A0p l to_ from_1 out outL ag fu n at_=ag f j ((([]:List Act)++outL)++o)
 | 0,n,at_,h,_=>by omega
 | fu+1,n,at_,h,hi=>by
  rw [A0p]
  by_cases hc:at_<to_∧(l.getD ((at_).toNat) ZV)=(l.getD ((from_1).toNat) ZV)
  ·rw [decide_eq_true hc.1,decide_eq_true hc.2];simp only [Bool.and_true,cond_true]
   by_cases b:(l.getD ((from_1).toNat) ZV).wide=1
   ·have p:=a at_ opx hc.1 (by grind)
    rw [decide_eq_true b];simp only [cond_true]
    exact B3g d a m fu (n+1) _ opx opx
   ·rw [decide_eq_false b];simp only [cond_false]
    exact B3g d a m fu (n+1) _ opx opx
  ·have g:from_1<at_:=by
    refine Decidable.byContradiction fun r=>?_
    have e:at_=from_1:=by omega
    subst e;exact hc ⟨by omega,rfl⟩
   rw [show (decide (at_<to_)&&decide ((l.getD ((at_).toNat) ZV)=(l.getD ((from_1).toNat) ZV)))=false by
    rw [← Bool.decide_and];exact decide_eq_false hc]
   simp only [cond_false,B5]
   have b:=C8u (c:=l.getD ((from_1).toNat) ZV) (n:=(n:Int)) (at_:=from_1) (to_:=at_) (pen:=out.pen) (last:=decide (at_=to_)) Z opx
   obtain ⟨k,q,e⟩:=B2s (outL:=outL) (at_:=at_) (ag:=ag) (ways:=A4t (l.getD ((from_1).toNat) ZV) (n:Int) from_1 at_ out.pen (decide (at_=to_))) ((A4t (l.getD ((from_1).toNat) ZV) (n:Int) from_1 at_ out.pen (decide (at_=to_))).length - 1+1) 0 1 opx opx
   exact ⟨at_,_,_,⟨g,hi.2.1,b.2.ends q,(b.2.getD k).1⟩,e⟩
theorem C0j {l:List Cel} (b:0≤from_∧to_≤l.length∧l.length≤100)
  (c:∀ i:Int,from_≤i→i<to_→(l.getD i.toNat ZV).wide=1→i+1<to_):∀ (fu:Nat) (a:Int) (out:OutC) (outL:List Act),(to_ - a).toNat<fu→from_≤a∧a≤to_→(0≤out.ends∧out.ends≤to_)→(outL.length:Int)≤2000 * a →
  (0≤(S7 l to_ fu a out outL).1.ends∧(S7 l to_ fu a out outL).1.ends≤to_)∧(S7 l to_ fu a out outL).2.length≤200000
 | 0,a,out,outL,h,_,_,_=>by omega
 | fu+1,a,out,outL,h,hf,ho,hl=>by
  rw [S7]
  by_cases hc:a<to_
  ·rw [decide_eq_true hc];simp only [cond_true]
   obtain ⟨d,f,j,g,e⟩:=B3g (outL:=outL) (out:=out) (ag:=S7 l to_ fu) b c ⟨hf.1,hc⟩ ((to_ - a).toNat+1) 0 a opx opx
   rw [e]
   exact C0j b c fu d f _ opx opx opx (by simp only [List.length_append,List.nil_append];omega)
  ·rw [decide_eq_false hc];simp only [cond_false];exact ⟨ho,by omega⟩
theorem B9s (l:List Cel) (from_ to_:Int) (pen:Sty) (b:0≤from_∧from_<to_∧to_≤l.length∧l.length≤100) (a:∀ i:Int,from_≤i→i<to_→(l.getD i.toNat ZV).wide=1→i+1<to_) :
  (0≤(C4 l from_ to_ pen).1.ends∧(C4 l from_ to_ pen).1.ends≤to_)∧(C4 l from_ to_ pen).2.length≤200000:=by
 unfold C4
 exact C0j opx a _ _ _ _ opx opx (by grind) (by grind)
theorem C8x {l:List Cel} {pen:Sty} {R:OutC×List Act} (hR:C4 l from_ to_ pen=R) (be:l.length≤9223372036854775807:=by exact bW) (bm:l.length≤lk:=by exact bW) (bd:0≤from_∧from_<to_∧to_≤l.length∧l.length≤100:=by exact bW) (ax:∀ i:Int,from_≤i→i<to_→(l.getD i.toNat ZV).wide=1→i+1<to_:=by exact bW):cM Tryz.prog 23 [.slice lq l.length lk,iv from_,iv to_,ag (B7 pen)] [] [sl D0 lq l] ({r:VR // bT 6 R.2.length r}) (fun x=>ag (N4 R.1 ⟨va x.1.q,R.2.length,x.1.k⟩)) (fun x=>((vo A2 51 x.1 R.2)++([]))) (fun x=>[]):=by
 refine cD Tryz.func23 fun X hX hr hD=>?_
 replace hR:=V (C4.eq_1 ..) hR
 refine bS Z (B3r 2 [] (fun b1 p=>[(7,pt b1 0),(8,pt p 0)]) (fun _ _=>(B7 pen)) (fun _ _=>(N4 ZW ⟨none,0,0⟩)) 63 74 fun b1 p=>?_)
 let G:=bx b1 (B7 pen) 63
 let D:=bx p (N4 ZW ⟨none,0,0⟩) 74
 refine ie (bS Z (cI 5 [1,0] (fun t=>[(9,pt t 0)]) (fun _=>(N4 ⟨pen,to_⟩ ⟨none,0,0⟩)) 74 fun t=>?_))
 refine ie (A3 (A9 (Y9 (I8 [_,_,_,_] [1,2,3,0] 4 Z ozw Z [[_],[_],[_],vo A2 51 VR.nil []] Z opv) (A1y (un fun fu=>un fun from_1=>un fun out=>un fun outL g=>((to_ - from_1).toNat<fu∧S7 l _ fu from_1 out outL=R∧bT 6 outL.length g∧from_≤from_1∧from_1≤101∧outL.length≤2000 * from_1+2000∧(from_<to_→from_1≤to_),[(0,_),(1,iv from_1),(2,_),(8,_),(9,_)],(bx t (N4 out ⟨va g.q,outL.length,g.k⟩) _::bx p _ _::bx _ _ _::((vo A2 51 g outL)++([]))),_,fu)) (_,_,_,_,_) ⟨(Nat.lt_succ_self _),hR,bT.nil,ojx⟩ (mc _ [true,true,true,true] opl oxs) A7.refl ?_))))
 rintro ⟨fu,from_1,out,outL,g⟩ ⟨bb,hR,w,bl⟩
 let U:=sl A2 (va g.q) outL
 let N:=vo A2 51 g outL
 let F:=bx t (N4 out ⟨va g.q,outL.length,g.k⟩) 74
 have:=bT.le w
 obtain ⟨fu1,rfl⟩:∃ m,fu=m+1:=⟨fu - 1,by omega⟩
 replace hR:=V (S7.eq_2 ..) hR
 refine A3 (bS Z (bP 3 22 Z (ie ?_)))
 refine cK Z hR ?_ ?_<;>intro hR h5 bj
 ·refine A4 (nx (A9 (bS Z (cF 2 23 24 Z (H8 0 Z opx fun a6 ac=>(ix Z (E7 A1n Z Z ac Z ((from_1).toNat) opx opx) (ix Z (J0 D3g Z Z (F8 (sz:=12) ac (fun _=>Z) 0 Z (gd ZV opx)) Z) (cI 5 [0] (fun b8=>[(10,pt b8 0),(11,iv 0),(12,iv from_1)]) (fun _=>(D0 (l.getD ((from_1).toNat) ZV))) 71 fun b8=>?_))))))))
  let B:=bx b8 (D0 (l.getD ((from_1).toNat) ZV)) 71
  refine ie (A3 (A9 (A1y (un fun ae=>un fun n at_=>((to_ - at_).toNat<ae∧A0p l _ _ _ _ _ ae n at_=R∧from_1≤at_∧at_≤to_∧n≤at_ - from_1∧(n=0→at_=from_1),[(0,_),(1,_),(2,_),(8,_),(9,_),(10,_),(11,iv n),(12,iv at_)],(bx _ _ _::bx t _ _::bx p _ _::bx _ _ _::((vo _ _ g _)++([]))),_,ae)) (_,0,_) ⟨(Nat.lt_succ_self _),hR,opx⟩ (mc [[_],[_],[D],[G],_] [true,true,true,true,true] opl oxs) A7.refl ?_)))
  rintro ⟨ae,n,at_⟩ ⟨bc,hR,hat⟩
  obtain ⟨fu3,rfl⟩:∃ m,ae=m+1:=⟨ae - 1,by omega⟩
  replace hR:=V (A0p.eq_2 ..) hR
  refine A3 (sd 11 Z oki Z (pd1 4 31 Z (zdd 7 0 31 38 (decide ((l.getD ((at_).toNat) ZV)=(l.getD ((from_1).toNat) ZV))) (fun ay b4=>?_) ?_)))
  ·refine pd2 2 32 33 Z (dd Z (E7 A1n Z Z ac Z ((at_).toNat) opx opx) (dd Z (J0 D3g Z Z (F8 (sz:=12) ac (fun _=>Z) 0 Z (gd ZV opx)) Z) (zdg 1 2 [0] [(36,ag (D0 (l.getD ((from_1).toNat) ZV)))] ?_)))
   exact dd Z (A3m E4x Z Z Z) (pd1 1 38 Z (zad 8 31 _ ay))
  refine de ?_
  refine zja Z hR ?_ ?_<;>intro hR bk al
  ·refine A4 (nx (A9 (bS Z (bP 1 39 Z (ix Z (B1 Z Z Z Z opx) (bP 1 11 Z (ie (bS Z (bP 1 41 Z (ix Z (B1 Z Z Z Z opx) (bP 1 12 Z (ie (bS Z (cB 3 [0] 45 Z (ie ?_)))))))))))))))
   refine cK Z hR ?_ ?_<;>intro hR b9 ar
   ·have bg:=ax at_ opx opx (by rw [al.2];exact ar)
    exact A0 3 Z (bP 1 46 Z (ix Z (B1 Z Z Z Z opx) (bP 1 12 Z (A1 (Z0 (_,_,_) ⟨opx,hR,opx⟩ (Nat.lt_succ_self _) (mc [[_],[_],[_],[_],_] [true,true,true,true,true] opl oxs) A7.refl)))))
   exact A4 (Z0 (_,_,_) ⟨opx,hR,opx⟩ (Nat.lt_succ_self _) (mc [[_],[_],[_],[_],_] [true,true,true,true,true] opl oxs) A7.refl)
  have b7:from_1<at_:=by refine Decidable.byContradiction fun hq=>?_;have e:at_=from_1:=opx;subst e;exact absurd ⟨by omega,rfl⟩ al
  refine F1 (nx (bS Z (bY 9 2 [0,1] [(48,ag (D0 (l.getD ((from_1).toNat) ZV))),(49,iv n),(50,iv from_1),(51,iv at_),(53,ag (B7 out.pen)),(56,bv (decide (at_=to_)))] ?_)))
  obtain ⟨a0,a2,hR⟩:=C3 hR
  refine it Z (N9 (L2:=(B::F::D::G::(N++([])))) (E6k (c:=(l.getD ((from_1).toNat) ZV)) (n:=(n:Int)) (at_:=from_1) (to_:=at_) (pen:=out.pen) (last:=(decide (at_=to_))) a2) Z Z Z Z Z A7.nil (List.Perm.refl _) (fun ⟨⟨a9,a3⟩,ad⟩=>(B::F::D::G::((vo (A0d O6) 74 a9 a3)++(N++([]))))) (fun ⟨⟨a9,a3⟩,ad⟩=>I8 [vo (A0d O6) 74 a9 a3,[B],[F],[D],[G],N] [1,2,3,4,0,5] 6 Z ozw opl [[B],[F],[D],[G],vo (A0d O6) 74 a9 a3,N] Z opl)) fun ⟨⟨a9,a3⟩,ad⟩=>?_
  let T:=vo (A0d O6) 74 a9 a3
  try dsimp only at ad
  obtain ⟨aj,am⟩:=ad
  have:=bT.le aj
  have:=am.1
  have aq:=C8u a2 opx
  have:=aq.1;try rw [a2] at this
  refine bP 1 13 Z (ie (bS Z (bP 1 14 Z (ie (A3 (bS Z (bP 1 15 Z (ie (A9 (D0z (bx _ _ _::bx t _ _::bx p _ _::bx _ _ _::((vo _ _ _ _)++([]))) [] w (by first|exact Z|(simp only [K3,List.append_nil];done)|(simp only [K3,List.append_nil];exact Z)|(simp only [K3,List.flatten_cons,List.flatten_nil,List.cons_append,List.append_assoc,List.nil_append,List.append_nil];done)|(simp only [K3,List.flatten_cons,List.flatten_nil,List.cons_append,List.append_assoc,List.nil_append,List.append_nil];exact Z)) (F4p (L':=(B::F::D::G::(T++([])))) omm (A1y (un fun af=>un fun ways=>un fun o=>un fun h=>un fun j i=>((ways.length - i)<af∧N5 _ _ _ af ways j i=R∧bT _ ways.length o∧A2u h ways∧(j<ways.length∧j<i)∧C1e _ _ ways,[(0,.slice lq l.length lk),(2,iv to_),(8,pt p 0),(9,pt t 0),(12,iv at_),(13,.slice (va o.q) ways.length o.k),(14,iv (j:Int)),(15,iv (i:Int))],(B::F::D::G::((vo (A0d O6) 74 o h)++([]))),[U,A8z A2 a3 a0,sl D0 lq l,A8z A2 h ways],af)) ((a0.length - 1)+1,a0,a9,a3,0,1) ⟨(Nat.lt_succ_self _),hR,aj,am,opx,(by exact aq.2)⟩ (mc [[B],[F],[D],[G],T] [true,true,true,true,true] opl oxs) c9 ?_))))))))))))
  rintro ⟨af,ways,o,h,j,i⟩ ⟨az,hR,v,d,ba,aa⟩
  have:=bT.le v
  have:=d.1
  obtain ⟨fu5,rfl⟩:∃ m,af=m+1:=⟨af - 1,by omega⟩
  replace hR:=V (N5.eq_2 ..) hR
  refine A3 (bS Z (bP 4 61 Z (ie ?_)))
  refine cK Z hR ?_ ?_<;>intro hR b6 b0
  ·refine A4 (nx (A3 (A9 (sd 13 Z oki Z (pd2 2 64 65 Z ?_)))))
   obtain ⟨b20,au⟩:=bT.some v opx
   obtain ⟨aw,ai,ah⟩:=o
   obtain rfl:aw=some b20:=au
   refine B7m (G1l (k:=i) (z:=ZW) d 3 Z (by have:=d.1;omega)) ?_
   have:=F6x d (k:=i) (z:=ZW) (by have:=d.1;omega)
   refine dd Z (Z5 C9t Z Z Z i Z (by have:=d.1;omega)) (pd1 1 67 Z (dd Z (G1 (Y2 (sz:=10) C2z (fun _=>Z) Z Z 4 Z i 0 Z (gd _ (by have:=d.1;omega)) Z) (D7l d (by have:=d.1;omega) (fun n_ b_=>.slice _ (n_) ((h.getD i (zwx ZW)).s.k)))) (zcd (B6m (l:=((ways.getD i (zwd ZW)).l)) (lk:=((h.getD i (zwx ZW)).s.k)) Z bW bW (by first|exact C6w hr6 _|assumption|exact B8u oiu|exact (aa.getD _).2)) c9 ?_)))
   refine pd2 2 70 71 Z (B7m (G1l (k:=j) (z:=ZW) d 4 Z (by have:=d.1;omega)) ?_)
   have:=F6x d (k:=j) (z:=ZW) (by have:=d.1;omega)
   refine dd Z (Z5 C9t Z Z Z j Z (by have:=d.1;omega)) (pd1 1 73 Z (dd Z (G1 (Y2 (sz:=10) C2z (fun _=>Z) Z Z 4 Z j 0 Z (gd _ (by have:=d.1;omega)) Z) (D7l d (by have:=d.1;omega) (fun n_ b_=>.slice _ (n_) ((h.getD j (zwx ZW)).s.k)))) (zcd (B6m (l:=((ways.getD j (zwd ZW)).l)) (lk:=((h.getD j (zwx ZW)).s.k)) Z bW bW (by first|exact C6w hr6 _|assumption|exact B8u oiu|exact (aa.getD _).2)) c9 ?_)))
   refine pd1 1 76 Z (de ?_)
   refine cK Z hR ?_ ?_<;>intro hR bh b5
   ·exact A0 2 Z (bP 2 14 Z (A1 (nx (A0 3 Z (bP 1 62 Z (ix Z (B1 Z Z Z Z opx) (bP 1 15 Z (A1 (Z0 (_,_,_,h,i,_) ⟨opx,hR,v,d,opx,(by exact aa)⟩ (Nat.lt_succ_self _) (mc [[_],[_],[D],[G],vo (A0d O6) 74 (⟨some b20,ai,ah⟩:VR) h] [true,true,true,true,true] opl oxs) c9)))))))))
   exact A4 (nx (A0 3 Z (bP 1 62 Z (ix Z (B1 Z Z Z Z opx) (bP 1 15 Z (A1 (Z0 (_,_,_,h,j,_) ⟨opx,hR,v,d,opx,(by exact aa)⟩ (Nat.lt_succ_self _) (mc [[_],[_],[_],[_],vo _ _ ⟨some b20,ai,ah⟩ h] [true,true,true,true,true] opl oxs) c9)))))))
  refine F1 (nx (bS Z (bP 1 16 Z (ie (bS Z (pl2 3 [1] 78 80 Z (it Z (Y6 (f:=A2) (r:=VR.nil) (xs:=([]:List Act)) (ys:=outL) (pre:=(B::F::D::G::((vo (A0d O6) 74 o h)++([])))) (post:=[]) A0c (fun _=>Z) (fun _=>Z) Z Z Z Z Z Z Z (by first|exact Z|(simp only [K3,List.append_nil];done)|(simp only [K3,List.append_nil];exact Z)|(simp only [K3,List.flatten_cons,List.flatten_nil,List.cons_append,List.append_assoc,List.nil_append,List.append_nil];done)|(simp only [K3,List.flatten_cons,List.flatten_nil,List.cons_append,List.append_assoc,List.nil_append,List.append_nil];exact Z)) (A5 0 Z) bT.nil (by first|omega|(have:=(aa.getD j).1;simp only [List.length_append,List.length_nil,List.nil_append];omega)|(simp only [List.length_cons,List.length_nil,List.length_append,List.length_take,List.length_drop,D6];omega)) (by first|omega|(have:=(aa.getD j).1;simp only [List.length_append,List.length_nil,List.nil_append];omega)|(simp only [List.length_cons,List.length_nil,List.length_append,List.length_take,List.length_drop,D6];omega))) fun ⟨ab,ak⟩=>?_)))))))
  let S:=vo A2 51 ab (([]:List Act)++outL)
  refine bP 1 16 Z (ie (A6v (G1l (k:=j) (z:=ZW) d 3 Z (by have:=d.1;omega)) ?_))
  have:=F6x d (k:=j) (z:=ZW) (by have:=d.1;omega)
  refine sh 19 [(19,[B]),(18,[F]),(19,[D]),(19,[G]),(19,vo (A0d O6) 74 o h),(6,vo A2 51 ab (([]:List Act)++outL))] [sl A2 ((h.getD j (zwx ZW)).s.q) ((ways.getD j (zwd ZW)).l),U,A8z A2 a3 a0,sl D0 lq l,A8z A2 h ways] _ (cL 19 0) oki Z oki oki oki (mc [[B],[F],[D],[G],vo (A0d O6) 74 o h,S] [true,true,true,true,true,true] opl oxs) A7.refl (zhp [0,1,2,7,8,12,13] 12 (cL 19 12679) [(82,.slice (va ab.q) (([]++outL).length) ab.k),(83,.slice (va o.q) ways.length o.k),(84,iv j),(89,.slice (va o.q) ways.length o.k),(90,iv (j:Int)),(94,.slice (va o.q) ways.length o.k),(95,iv (j:Int))] ?_)
  obtain ⟨b28,ap⟩:=bT.some v opx
  obtain ⟨av,a7,a5⟩:=o
  let H:=vo (A0d O6) 74 (⟨some b28,a7,a5⟩:VR) h
  let A:=bx b8 (D0 (l.getD ((from_1).toNat) ZV)) 71::bx t (N4 out ⟨va g.q,outL.length,g.k⟩) 74::bx p (N4 ZW ⟨none,0,0⟩) 74::bx b1 (B7 pen) 63::(H++([]))
  obtain rfl:av=some b28:=ap
  refine zhl 3 A (cL 19 12687) Z (Z5 C9t Z Z Z j Z (by have:=d.1;omega)) ?_
  refine zhp [4] 10 (cL 19 12703) [(86,.pointer (some ⟨b28,j * 10,none⟩))] ?_
  refine zhl 5 (B::F::D::G::(H++(S++([])))) (cL 19 12735) Z (G1 (Y2 (u:=.slice ((h.getD j (zwx ZW)).s.q) ((h.getD j (zwx ZW)).s.n) ((h.getD j (zwx ZW)).s.k)) (c:=(A0d O6)) (sz:=10) C2z (fun _=>Z) Z Z 4 Z j 0 Z (gd (zwx ZW) (by have:=d.1;omega)) Z) (D7l (z:=ZW) d (by have:=d.1;omega) (fun n_ b_=>.slice ((h.getD j (zwx ZW)).s.q) (n_) ((h.getD j (zwx ZW)).s.k)))) ?_
  refine zhl 9 A (cL 19 13247) Z (Z5 C9t Z Z Z j Z (by have:=d.1;omega)) ?_
  refine zhp [10] 7 (cL 19 14271) [(92,.pointer (some ⟨b28,j * 10+1,none⟩))] ?_
  refine zhl 11 A (cL 19 16319) Z (G1 (D2i (us:=B7 (((h.getD j (zwx ZW)).b).pen)) (c:=(A0d O6)) (sz:=10) B4w (fun _=>Z) Z Z 4 Z j 1 Z (gd (zwx ZW) (by have:=d.1;omega)) Z Z) (D7l (z:=ZW) d (by have:=d.1;omega) (fun n_ b_=>ag (B7 ((b_).pen))))) ?_
  refine zhl 14 A (cL 19 32703) Z (Z5 C9t Z Z Z j Z (by have:=d.1;omega)) ?_
  refine zhp [15] 4 (cL 19 65471) [(97,.pointer (some ⟨b28,j * 10+9,none⟩))] ?_
  refine zhl 16 A (cL 19 131007) Z (G1 (Y2 (u:=iv (((h.getD j (zwx ZW)).b).ends)) (c:=(A0d O6)) (sz:=10) cE (fun _=>Z) Z Z 4 Z j 9 Z (gd (zwx ZW) (by have:=d.1;omega)) Z) (D7l (z:=ZW) d (by have:=d.1;omega) (fun n_ b_=>iv ((b_).ends)))) ?_
  refine zho 6 A (cL 19 131071) Z (Tri.own (Y6 (f:=A2) (r:=ab) (xs:=(([]:List Act)++outL)) (ys:=(ways.getD j (zwd ZW)).l) (pre:=A) (post:=[]) A0c (fun _=>Z) (fun _=>Z) Z Z Z Z Z Z Z (by first|rfl|(simp only [List.append_nil,List.cons_append,List.nil_append,List.append_assoc];done)|(simp only [K3,List.flatten_cons,List.flatten_nil,List.cons_append,List.append_assoc,List.nil_append,List.append_nil];done)|(simp only [K3,List.flatten_cons,List.flatten_nil,List.cons_append,List.append_assoc,List.nil_append,List.append_nil];exact Z)) (A5 0 Z) ak (by first|omega|(have:=(aa.getD j).1;simp only [List.length_append,List.length_nil,List.nil_append];omega)|(simp only [List.length_cons,List.length_nil,List.length_append,List.length_take,List.length_drop,D6];omega)) (by first|omega|(have:=(aa.getD j).1;simp only [List.length_append,List.length_nil,List.nil_append];omega)|(simp only [List.length_cons,List.length_nil,List.length_append,List.length_take,List.length_drop,D6];omega))) (fun ⟨y,a8⟩=>(B::F::D::G::(H++((vo A2 51 y ((([]:List Act)++outL)++(ways.getD j (zwd ZW)).l))++([]))))) (fun ⟨y,a8⟩=>by first|rfl|(try dsimp only;simp only [List.append_nil,List.cons_append,List.nil_append,List.append_assoc]))) (fun ⟨y,a8⟩=>(mc [[B],[F],[D],[G],H,vo A2 51 y ((([]:List Act)++outL)++(ways.getD j (zwd ZW)).l)] [true,true,true,true,true,false] opl oxs)) (fun ⟨y,a8⟩=>A7.refl) fun ⟨y,a8⟩=>?_
  let M:=vo A2 51 y ((([]:List Act)++outL)++(ways.getD j (zwd ZW)).l)
  let I:=[bx t (N4 (⟨((ways.getD j (zwd ZW)).b).pen,((ways.getD j (zwd ZW)).b).ends⟩:OutC) ⟨va y.q,((([]:List Act)++outL)++(ways.getD j (zwd ZW)).l).length,y.k⟩) 74]
  refine zhk 17 (cL 19 262143) Z (A2h (cs:=N4 ⟨((ways.getD j (zwd ZW)).b).pen,((ways.getD j (zwd ZW)).b).ends⟩ ⟨va y.q,(([]++outL)++(ways.getD j (zwd ZW)).l).length,y.k⟩) Z Z oki) ?_
  refine zho 18 (B::D::G::(H++([]))) (cL 19 524287) Z (O9 (us:=N4 (⟨((ways.getD j (zwd ZW)).b).pen,((ways.getD j (zwd ZW)).b).ends⟩:OutC) ⟨va y.q,((([]:List Act)++outL)++(ways.getD j (zwd ZW)).l).length,y.k⟩) (cs':=N4 (⟨((ways.getD j (zwd ZW)).b).pen,((ways.getD j (zwd ZW)).b).ends⟩:OutC) ⟨va y.q,((([]:List Act)++outL)++(ways.getD j (zwd ZW)).l).length,y.k⟩) F7n Z Z Z 1 Z Z Z Z Z Z) (fun _=>(mc [[B],I,[D],[G],H,M] [true,false,true,true,true,false] opl oxs)) (fun _=>A7.refl) fun _=>?_
  exact D6r oki (A0 2 Z (bP 2 1 Z (A1 (Z0 (_,_,_,_,y) ⟨opx,hR,a8,(by (have:=(aa.getD j).1;simp only [List.length_append,List.nil_append];omega))⟩ (Nat.lt_succ_self _) (mc [[B],I,[D],[G],H,M] [false,true,true,true,false,true] opl oxs) c9))))
 refine F1 (nx (bS Z (zrg 2 0 [0,1] [] (F::bx p (N4 out ⟨va g.q,outL.length,g.k⟩) 74::G::(N++([]))) ?_)))
 subst hR
 exact ie (A8 (cC hr hD (I9 Z (E8 F7n Z 1 Z Z Z)) ⟨g,w⟩ (mc [[_],[_],[_],_] [false,false,false,true] opl oxs) A7.nil))
theorem G3g {l:List Sp3} (h:i<l.length):l.getD i ZY ∈ l:=by grind
def V2 (a:FrmC) (b:List (List Cel)):List Sp3→List Act→Nat→Sty→Cur→(List Act×Cur)
 | [],out,i,pen,c1=>(B5 (H5 pen ZJ) fun (d:List Act)=>((out++d),c1))
 | hd_l0::tl_l0,out,i,pen,c1=>(B5 (A1z c1 (⟨hd_l0.row,hd_l0.frm⟩:Plc)) fun (c:List Act)=>(bif (decide (((C4 (b.getD ((hd_l0.row).toNat) []) (hd_l0.frm) (hd_l0.tt) pen).1).ends=a.cols)) then V2 a b tl_l0 ((out++c)++(C4 (b.getD ((hd_l0.row).toNat) []) (hd_l0.frm) (hd_l0.tt) pen).2) (i+1) (((C4 (b.getD ((hd_l0.row).toNat) []) (hd_l0.frm) (hd_l0.tt) pen).1).pen) (⟨hd_l0.row,(((C4 (b.getD ((hd_l0.row).toNat) []) (hd_l0.frm) (hd_l0.tt) pen).1).ends - 1),true⟩:Cur) else V2 a b tl_l0 ((out++c)++(C4 (b.getD ((hd_l0.row).toNat) []) (hd_l0.frm) (hd_l0.tt) pen).2) (i+1) (((C4 (b.getD ((hd_l0.row).toNat) []) (hd_l0.frm) (hd_l0.tt) pen).1).pen) ({ZS with row:=hd_l0.row,col:=((C4 (b.getD ((hd_l0.row).toNat) []) (hd_l0.frm) (hd_l0.tt) pen).1).ends})))
def B5s (a:FrmC) (e:List (List Cel)) (b:FrmC) (d:List (List Cel)) (l:List Sp3) (c:Cur):List Act×Cur :=
 V2 a d l ([]:List Act) 0 ZJ c
theorem oln {p:Prop} (h:p:=by first|omega|(dsimp only;simp +zetaDelta only [List.length_append];omega)):p:=h
theorem D9r {a:FrmC} {aRows:List (List Cel)} {b:FrmC} {bRows:List (List Cel)} {l:List Sp3} {c:Cur} {u:List Slc} {o:List Slc} {R:List Act×Cur} (hR:B5s a aRows b bRows l c=R) (ad:B4 u aRows:=by exact bW) (b0:aRows.length≤9223372036854775807:=by exact bW) (aw:aRows.length≤aRowsk:=by exact bW) (m:B4 o bRows:=by exact bW) (av:bRows.length≤9223372036854775807:=by exact bW) (b6:bRows.length≤bRowsk:=by exact bW) (bl:l.length≤9223372036854775807:=by exact bW) (bw:l.length≤lk:=by exact bW) (bp:(2≤a.cols∧a.cols≤80)∧(aRows.length≤40∧bRows.length=aRows.length)∧l.length≤20:=by exact bW) (bn:0≤c.row∧c.row≤40∧0≤c.col∧c.col≤80:=by exact bW) (bb:∀ j,j<bRows.length→((bRows.getD j []).length:Int)=a.cols:=by exact bW) (ba:∀ s ∈ l,(0≤s.row∧s.row<bRows.length∧0≤s.frm∧s.frm<s.tt∧s.tt≤a.cols)∧∀ i:Int,s.frm≤i→i<s.tt→((bRows.getD (s.row).toNat []).getD i.toNat ZV).wide=1→i+1<s.tt:=by exact bW):cM Tryz.prog 9 [ag (C9 a ⟨h,aRows.length,aRowsk⟩),ag (C9 b ⟨g,bRows.length,bRowsk⟩),.slice lq l.length lk,ag (F5 c)] [] [sl F0 h u,D8 D0 u aRows,sl F0 g o,D8 D0 o bRows,sl H1 lq l] ({r:VR // bT 6 R.1.length r}) (fun x=>.tuple #[.slice (va x.1.q) R.1.length x.1.k,ag (F5 R.2)]) (fun x=>((vo A2 51 x.1 R.1)++([]))) (fun x=>[]):=by
 let Y:=vo A2 51 VR.nil ([]:List Act)
 refine cD Tryz.func9 fun X hX hr hD=>?_
 replace hR:=V (B5s.eq_1 ..) hR
 have:=ad.1
 have:=m.1
 refine bS Z (D8c 4 1 [] (fun z w y=>[(4,pt z 0),(5,pt w 0),(7,pt y 0)]) (fun z w y=>[bx y (F5 c) 29,bx w (C9 b ⟨g,bRows.length,bRowsk⟩) 26,bx z (C9 a ⟨h,aRows.length,aRowsk⟩) 26]) (fun z w y=>?_))
 let W:=bx y (F5 c) 29
 let D:=bx z (C9 a ⟨h,aRows.length,aRowsk⟩) 26
 let B:=bx w (C9 b ⟨g,bRows.length,bRowsk⟩) 26
 refine D7x 1 0 [] (fun b4=>[(9,pt b4 0)]) (fun b4=>[bx b4 (F5 ZS) 29,W,B,D]) (fun b4=>?_)
 let F:=bx b4 (F5 ZS) 29
 refine ie (bS Z (bP 1 10 Z (ie (bS Z (D7x 1 0 [] (fun b5=>[(11,pt b5 0)]) (fun b5=>[bx b5 (B7 ZJ) 63,F,W,B,D]) (fun b5=>?_))))))
 let Zb:=[bx b5 (B7 ZJ) 63]
 refine ie (A3 (bS Z (bP 1 12 Z (ie (A9 (Y9 (I8 [Y,Zb,[F],[W],[B],[D]] [1,2,3,4,5,0] 6 Z ozw Z [Zb,[F],[W],[B],[D],Y] Z opv) (A1y (un fun (out:List Act)=>un fun (t:VR)=>un fun (i:Nat)=>un fun (pen:Sty) (c1:Cur)=>(i≤l.length∧V2 a bRows (l.drop i) out i pen c1=R∧bT 6 out.length t∧0≤c1.row∧c1.row≤40∧0≤c1.col∧c1.col≤80∧out.length≤300000 * i,[(2,.slice lq l.length lk),(4,pt z 0),(5,pt w 0),(7,pt y 0),(9,pt b4 0),(10,.slice (va t.q) out.length t.k),(11,pt b5 0),(12,iv (i:Int))],(bx b5 (B7 pen) 63::F::bx y (F5 c1) 29::B::D::((vo A2 51 t out)++([]))),[sl F0 h u,D8 D0 u aRows,sl F0 g o,D8 D0 o bRows,sl H1 lq l],l.length - i)) (([]:List Act),VR.nil,0,ZJ,c) ⟨opx,hR,bT.nil,ojx⟩ bU A7.refl ?_)))))))
 rintro ⟨out,t,i,pen,c1⟩ ⟨bk,hR,aa,bz⟩
 let Zc:=(vo A2 51 t out)++([])
 let N:=bx y (F5 c1) 29
 let M:=bx b5 (B7 pen) 63
 have:=bT.le aa
 refine A3 (bS Z (bP 4 18 Z (ie (G3 Z (fun h7=>?_) (fun h7=>?_)))))
 ·have ay:=bV h7
  rw [A1a ZY (show i<l.length by omega)] at hR;replace hR:=V (V2.eq_2 ..) hR
  have ap:=ba _ (G3g (l:=l) (i:=i) opx)
  have bo:=bb ((l.getD i ZY).row).toNat opx
  refine A4 (nx (A3 (A9 (bS Z (cF 2 21 22 Z (H8 4 Z opx fun a8 aq=>(ix Z (E7 C6l Z Z aq Z i Z opx) (ix Z (J0 (us:=H1 (l.getD i ZY)) E8u Z Z (F8 (c:=H1) (sz:=3) aq (fun _=>Z) 4 Z (gd ZY opx)) Z) (D7x 2 0 [0] (fun p=>[(13,pt p 0)]) (fun p=>(bx p (H1 (l.getD i ZY)) 37::M::F::N::B::D::Zc)) (fun p=>?_))))))))))
  let I:=bx p (H1 (l.getD i ZY)) 37
  refine ie (bS Z (bY 7 3 [3,0,0] [(25,.slice (va t.q) out.length t.k),(26,ag (F5 c1)),(31,ag (A0n (⟨(l.getD i ZY).row,(l.getD i ZY).frm⟩:Plc)))] ?_))
  obtain ⟨e,a7,hR⟩:=C3 hR
  refine zc Z (E4j a7) fun ⟨⟨b9,br⟩,ax⟩=>?_
  obtain ⟨bc,bi⟩:=ax
  have:=D6s c1 (⟨(l.getD i ZY).row,(l.getD i ZY).frm⟩:Plc) (by first|omega|(dsimp only;omega));try rw [a7] at this
  refine it Z (Y6 (f:=A2) (r:=t) (xs:=out) (ys:=e) (pre:=[I,M,F,N,B,D]) (post:=[]) A0c (fun _=>Z) (fun _=>Z) Z Z Z Z Z Z Z Z (A5 0 Z) aa ore ore) fun ⟨a0,ah⟩=>?_
  let S:=vo A2 51 a0 (out++e)
  let A:=bx p (H1 (l.getD i ZY)) 37::bx b5 (B7 pen) 63::bx b4 (F5 ZS) 29::bx y (F5 c1) 29::bx w (C9 b ⟨g,bRows.length,bRowsk⟩) 26::bx z (C9 a ⟨h,aRows.length,aRowsk⟩) 26::(S++([]))
  have:=@List.length_append _ out e
  have:=bT.lc ah
  refine bP 1 10 Z (ie (A6v (Q6 (k:=((l.getD i ZY).row).toNat) (d:=(⟨none,0,0⟩:Slc)) m 4 Z (by have:=m.1;omega)) ?_))
  have:=Q9 m (k:=((l.getD i ZY).row).toNat) (d:=(⟨none,0,0⟩:Slc)) (by have:=m.1;omega)
  refine sh 14 [(14,[I]),(14,[M]),(14,[F]),(14,[N]),(14,[B]),(14,[D]),(14,vo A2 51 a0 (out++e))] [sl D0 ((o.getD (((l.getD i ZY).row).toNat) (⟨none,0,0⟩:Slc)).q) (bRows.getD (((l.getD i ZY).row).toNat) []),sl A2 b9 e,sl F0 h u,D8 D0 u aRows,sl F0 g o,D8 D0 o bRows,sl H1 lq l] A (cL 14 0) oki Z oki oki oki bU A7.refl ?_
  refine zhp [0,2,6,8] 10 (cL 14 325) [(34,pt w 1),(36,pt p 0),(40,pt p 1),(42,pt p 2)] ?_
  refine zhl 1 A (cL 14 327) Z (B8 (v:=.slice g bRows.length bRowsk) F2i Z Z 4 Z Z) ?_
  refine zhl 3 A (cL 14 335) Z (B8 (v:=iv ((l.getD i ZY).row)) cE Z Z 0 Z Z) ?_
  refine B9j 4 Z (by have:=m.1;omega) fun bj al=>(zhk 4 (cL 14 351) Z (E7 B0s Z Z al Z (((l.getD i ZY).row).toNat) opx opx) ?_)
  refine zhk 5 (cL 14 383) Z (G1 (B6 (v:=.slice ((o.getD (((l.getD i ZY).row).toNat) (⟨none,0,0⟩:Slc)).q) ((o.getD (((l.getD i ZY).row).toNat) (⟨none,0,0⟩:Slc)).n) ((o.getD (((l.getD i ZY).row).toNat) (⟨none,0,0⟩:Slc)).k)) (us:=[.slice ((o.getD (((l.getD i ZY).row).toNat) (⟨none,0,0⟩:Slc)).q) ((o.getD (((l.getD i ZY).row).toNat) (⟨none,0,0⟩:Slc)).n) ((o.getD (((l.getD i ZY).row).toNat) (⟨none,0,0⟩:Slc)).k)]) B5c Z Z (F8 (c:=F0) (sz:=1) al (fun _=>Z) 4 Z (gd (⟨none,0,0⟩:Slc) (by have:=m.1;omega))) Z) (M2 m (by have:=m.1;omega))) ?_
  refine zhl 7 A (cL 14 511) Z (B8 (v:=iv ((l.getD i ZY).frm)) cE Z Z 0 Z Z) ?_
  refine zhl 9 A (cL 14 1023) Z (B8 (v:=iv ((l.getD i ZY).tt)) cE Z Z 0 Z Z) ?_
  refine zhl 10 A (cL 14 2047) Z (G6 (us:=B7 pen) B4w Z Z 1 Z Z Z) ?_
  refine E4k 11 12 oki ?_ ?_
  ·refine F4f 11 A (cL 14 4095) Z Z Z oki oki oki (N9 (L2:=A) (C8x Z bW bW bW (by first|exact ap.2|assumption)) Z Z Z Z Z c9 (List.Perm.refl _) (fun ⟨a4,ac⟩=>(I::M::F::N::B::D::((vo A2 51 a4 ((C4 (bRows.getD (((l.getD i ZY).row).toNat) []) ((l.getD i ZY).frm) ((l.getD i ZY).tt) pen).2))++(S++([]))))) (fun ⟨a4,ac⟩=>I8 [vo A2 51 a4 ((C4 (bRows.getD (((l.getD i ZY).row).toNat) []) ((l.getD i ZY).frm) ((l.getD i ZY).tt) pen).2),[I],[M],[F],[N],[B],[D],S] [1,2,3,4,5,6,0,7] 8 Z ozw opl [[I],[M],[F],[N],[B],[D],vo A2 51 a4 ((C4 (bRows.getD (((l.getD i ZY).row).toNat) []) ((l.getD i ZY).frm) ((l.getD i ZY).tt) pen).2),S] Z opl)) (fun ⟨a4,ac⟩=>bU) (fun ⟨a4,ac⟩=>A7.refl) fun ⟨a4,ac⟩=>?_
   have:=bT.lc ac
   have az:=B9s (bRows.getD (((l.getD i ZY).row).toNat) []) ((l.getD i ZY).frm) ((l.getD i ZY).tt) pen opx (by first|exact ap.2|assumption)
   refine zho 12 A (cL 14 8191) Z (A5p (cs:=N4 ZW ⟨none,0,0⟩) F6n Z) (fun af=>bU) (fun af=>A7.refl) fun af=>?_
   let G:=bx af (N4 ((C4 (bRows.getD (((l.getD i ZY).row).toNat) []) ((l.getD i ZY).frm) ((l.getD i ZY).tt) pen).1) ⟨va a4.q,((C4 (bRows.getD (((l.getD i ZY).row).toNat) []) ((l.getD i ZY).frm) ((l.getD i ZY).tt) pen).2).length,a4.k⟩) 74
   refine zho 13 A (cL 14 16383) Z (O9 (us:=N4 ((C4 (bRows.getD (((l.getD i ZY).row).toNat) []) ((l.getD i ZY).frm) ((l.getD i ZY).tt) pen).1) ⟨va a4.q,((C4 (bRows.getD (((l.getD i ZY).row).toNat) []) ((l.getD i ZY).frm) ((l.getD i ZY).tt) pen).2).length,a4.k⟩) (cs':=N4 ((C4 (bRows.getD (((l.getD i ZY).row).toNat) []) ((l.getD i ZY).frm) ((l.getD i ZY).tt) pen).1) ⟨va a4.q,((C4 (bRows.getD (((l.getD i ZY).row).toNat) []) ((l.getD i ZY).frm) ((l.getD i ZY).tt) pen).2).length,a4.k⟩) F7n Z Z Z 0 Z Z Z Z Z Z) (fun _=>bU) (fun _=>A7.refl) fun _=>?_
   refine D6r oki (bS Z (pl2 3 [0] 46 48 Z (P2 [G,I,M,F,N,B,D] (S++([])) (T:=51) (c:=A2) (r:=a4) (xs:=(C4 (bRows.getD (((l.getD i ZY).row).toNat) []) ((l.getD i ZY).frm) ((l.getD i ZY).tt) pen).2) ac omm (it Z (Y6 (f:=A2) (r:=a0) (xs:=(out++e)) (ys:=(C4 (bRows.getD (((l.getD i ZY).row).toNat) []) ((l.getD i ZY).frm) ((l.getD i ZY).tt) pen).2) (pre:=[G,I,M,F,N,B,D]) (post:=[]) A0c (fun _=>Z) (fun _=>Z) Z Z Z Z Z Z Z Z (A5 0 Z) ah ore ore) fun ⟨ao,aj⟩=>?_))))
   have:=@List.length_append _ out e
   have:=@List.length_append _ (out++e) ((C4 (bRows.getD (((l.getD i ZY).row).toNat) []) ((l.getD i ZY).frm) ((l.getD i ZY).tt) pen).2)
   have:=bT.lc aj
   refine bP 1 10 Z (ie (bS Z (zrg 3 0 [0,2] [] (G::I::bx b5 (B7 (((C4 (bRows.getD (((l.getD i ZY).row).toNat) []) ((l.getD i ZY).frm) ((l.getD i ZY).tt) pen).1).pen)) 63::F::N::B::D::((vo A2 51 ao ((out++e)++(C4 (bRows.getD (((l.getD i ZY).row).toNat) []) ((l.getD i ZY).frm) ((l.getD i ZY).tt) pen).2))++([]))) ?_)))
   refine ie (bS Z (zrg 6 0 [1,0,4] [] (bx af (N4 ((C4 (bRows.getD (((l.getD i ZY).row).toNat) []) ((l.getD i ZY).frm) ((l.getD i ZY).tt) pen).1) ⟨va a4.q,((C4 (bRows.getD (((l.getD i ZY).row).toNat) []) ((l.getD i ZY).frm) ((l.getD i ZY).tt) pen).2).length,a4.k⟩) 74::I::bx b5 (B7 (((C4 (bRows.getD (((l.getD i ZY).row).toNat) []) ((l.getD i ZY).frm) ((l.getD i ZY).tt) pen).1).pen)) 63::F::bx y (F5 ({ZS with row:=(l.getD i ZY).row,col:=((C4 (bRows.getD (((l.getD i ZY).row).toNat) []) ((l.getD i ZY).frm) ((l.getD i ZY).tt) pen).1).ends})) 29::B::D::((vo A2 51 ao ((out++e)++(C4 (bRows.getD (((l.getD i ZY).row).toNat) []) ((l.getD i ZY).frm) ((l.getD i ZY).tt) pen).2))++([]))) ?_))
   refine ie (bS Z (cB 5 [0,6] 61 Z (ie ?_)))
   refine cK Z hR ?_ ?_<;>intro hR bm bh
   ·refine A0 7 Z (pl2 4 [1,0] 63 65 Z (ix Z (L8 Z Z Z Z opx) (zrg 2 0 [4] [] (bx af (N4 ((C4 (bRows.getD (((l.getD i ZY).row).toNat) []) ((l.getD i ZY).frm) ((l.getD i ZY).tt) pen).1) ⟨va a4.q,((C4 (bRows.getD (((l.getD i ZY).row).toNat) []) ((l.getD i ZY).frm) ((l.getD i ZY).tt) pen).2).length,a4.k⟩) 74::I::bx b5 (B7 (((C4 (bRows.getD (((l.getD i ZY).row).toNat) []) ((l.getD i ZY).frm) ((l.getD i ZY).tt) pen).1).pen)) 63::F::bx y (F5 (⟨(l.getD i ZY).row,(((C4 (bRows.getD (((l.getD i ZY).row).toNat) []) ((l.getD i ZY).frm) ((l.getD i ZY).tt) pen).1).ends - 1),true⟩:Cur)) 29::B::D::((vo A2 51 ao ((out++e)++(C4 (bRows.getD (((l.getD i ZY).row).toNat) []) ((l.getD i ZY).frm) ((l.getD i ZY).tt) pen).2))++([]))) ?_)))
    exact A1 (nx (A0 3 Z (bP 1 19 Z (ix Z (B1 Z Z Z Z opx) (bP 1 12 Z (A1 (Z0 (z1:=(out,t,i,pen,c1)) ((out++e)++(C4 (bRows.getD (((l.getD i ZY).row).toNat) []) ((l.getD i ZY).frm) ((l.getD i ZY).tt) pen).2,ao,i+1,((C4 (bRows.getD (((l.getD i ZY).row).toNat) []) ((l.getD i ZY).frm) ((l.getD i ZY).tt) pen).1).pen,(⟨(l.getD i ZY).row,(((C4 (bRows.getD (((l.getD i ZY).row).toNat) []) ((l.getD i ZY).frm) ((l.getD i ZY).tt) pen).1).ends - 1),true⟩:Cur)) ⟨opx,hR,aj,oln⟩ olr bU c9)))))))
   exact A4 (nx (A0 3 Z (bP 1 19 Z (ix Z (B1 Z Z Z Z opx) (bP 1 12 Z (A1 (Z0 (z1:=(out,t,i,pen,c1)) ((out++e)++(C4 (bRows.getD (((l.getD i ZY).row).toNat) []) ((l.getD i ZY).frm) ((l.getD i ZY).tt) pen).2,ao,i+1,((C4 (bRows.getD (((l.getD i ZY).row).toNat) []) ((l.getD i ZY).frm) ((l.getD i ZY).tt) pen).1).pen,{ZS with row:=(l.getD i ZY).row,col:=((C4 (bRows.getD (((l.getD i ZY).row).toNat) []) ((l.getD i ZY).frm) ((l.getD i ZY).tt) pen).1).ends}) ⟨opx,hR,aj,oln⟩ olr bU c9)))))))
  ·refine F4f 12 A (cL 14 6143) Z Z Z oki oki oki (A5p (cs:=N4 ZW ⟨none,0,0⟩) F6n Z) (fun a9=>bU) (fun a9=>A7.refl) fun a9=>?_
   let U:=bx a9 (N4 ZW ⟨none,0,0⟩) 74
   refine zho 11 A (cL 14 8191) Z (N9 (L2:=(U::A)) (C8x Z bW bW bW (by first|exact ap.2|assumption)) Z Z Z Z Z c9 (List.Perm.refl _) (fun ⟨a3,ab⟩=>(U::I::M::F::N::B::D::((vo A2 51 a3 ((C4 (bRows.getD (((l.getD i ZY).row).toNat) []) ((l.getD i ZY).frm) ((l.getD i ZY).tt) pen).2))++(S++([]))))) (fun ⟨a3,ab⟩=>I8 [vo A2 51 a3 ((C4 (bRows.getD (((l.getD i ZY).row).toNat) []) ((l.getD i ZY).frm) ((l.getD i ZY).tt) pen).2),[U],[I],[M],[F],[N],[B],[D],S] [1,2,3,4,5,6,7,0,8] 9 Z ozw opl [[U],[I],[M],[F],[N],[B],[D],vo A2 51 a3 ((C4 (bRows.getD (((l.getD i ZY).row).toNat) []) ((l.getD i ZY).frm) ((l.getD i ZY).tt) pen).2),S] Z opl)) (fun ⟨a3,ab⟩=>bU) (fun ⟨a3,ab⟩=>A7.refl) fun ⟨a3,ab⟩=>?_
   let H:=bx a9 (N4 ((C4 (bRows.getD (((l.getD i ZY).row).toNat) []) ((l.getD i ZY).frm) ((l.getD i ZY).tt) pen).1) ⟨va a3.q,((C4 (bRows.getD (((l.getD i ZY).row).toNat) []) ((l.getD i ZY).frm) ((l.getD i ZY).tt) pen).2).length,a3.k⟩) 74
   have:=bT.lc ab
   have az:=B9s (bRows.getD (((l.getD i ZY).row).toNat) []) ((l.getD i ZY).frm) ((l.getD i ZY).tt) pen opx (by first|exact ap.2|assumption)
   refine zho 13 A (cL 14 16383) Z (O9 (us:=N4 ((C4 (bRows.getD (((l.getD i ZY).row).toNat) []) ((l.getD i ZY).frm) ((l.getD i ZY).tt) pen).1) ⟨va a3.q,((C4 (bRows.getD (((l.getD i ZY).row).toNat) []) ((l.getD i ZY).frm) ((l.getD i ZY).tt) pen).2).length,a3.k⟩) (cs':=N4 ((C4 (bRows.getD (((l.getD i ZY).row).toNat) []) ((l.getD i ZY).frm) ((l.getD i ZY).tt) pen).1) ⟨va a3.q,((C4 (bRows.getD (((l.getD i ZY).row).toNat) []) ((l.getD i ZY).frm) ((l.getD i ZY).tt) pen).2).length,a3.k⟩) F7n Z Z Z 0 Z Z Z Z Z Z) (fun _=>bU) (fun _=>A7.refl) fun _=>?_
   refine D6r oki (bS Z (pl2 3 [0] 46 48 Z (P2 [H,I,M,F,N,B,D] (S++([])) (T:=51) (c:=A2) (r:=a3) (xs:=(C4 (bRows.getD (((l.getD i ZY).row).toNat) []) ((l.getD i ZY).frm) ((l.getD i ZY).tt) pen).2) ab omm (it Z (Y6 (f:=A2) (r:=a0) (xs:=(out++e)) (ys:=(C4 (bRows.getD (((l.getD i ZY).row).toNat) []) ((l.getD i ZY).frm) ((l.getD i ZY).tt) pen).2) (pre:=[H,I,M,F,N,B,D]) (post:=[]) A0c (fun _=>Z) (fun _=>Z) Z Z Z Z Z Z Z Z (A5 0 Z) ah ore ore) fun ⟨am,ak⟩=>?_))))
   have:=@List.length_append _ out e
   have:=@List.length_append _ (out++e) ((C4 (bRows.getD (((l.getD i ZY).row).toNat) []) ((l.getD i ZY).frm) ((l.getD i ZY).tt) pen).2)
   have:=bT.lc ak
   refine bP 1 10 Z (ie (bS Z (zrg 3 0 [0,2] [] (H::I::bx b5 (B7 (((C4 (bRows.getD (((l.getD i ZY).row).toNat) []) ((l.getD i ZY).frm) ((l.getD i ZY).tt) pen).1).pen)) 63::F::N::B::D::((vo A2 51 am ((out++e)++(C4 (bRows.getD (((l.getD i ZY).row).toNat) []) ((l.getD i ZY).frm) ((l.getD i ZY).tt) pen).2))++([]))) ?_)))
   refine ie (bS Z (zrg 6 0 [1,0,4] [] (bx a9 (N4 ((C4 (bRows.getD (((l.getD i ZY).row).toNat) []) ((l.getD i ZY).frm) ((l.getD i ZY).tt) pen).1) ⟨va a3.q,((C4 (bRows.getD (((l.getD i ZY).row).toNat) []) ((l.getD i ZY).frm) ((l.getD i ZY).tt) pen).2).length,a3.k⟩) 74::I::bx b5 (B7 (((C4 (bRows.getD (((l.getD i ZY).row).toNat) []) ((l.getD i ZY).frm) ((l.getD i ZY).tt) pen).1).pen)) 63::F::bx y (F5 ({ZS with row:=(l.getD i ZY).row,col:=((C4 (bRows.getD (((l.getD i ZY).row).toNat) []) ((l.getD i ZY).frm) ((l.getD i ZY).tt) pen).1).ends})) 29::B::D::((vo A2 51 am ((out++e)++(C4 (bRows.getD (((l.getD i ZY).row).toNat) []) ((l.getD i ZY).frm) ((l.getD i ZY).tt) pen).2))++([]))) ?_))
   refine ie (bS Z (cB 5 [0,6] 61 Z (ie ?_)))
   refine cK Z hR ?_ ?_<;>intro hR bu bg
   ·refine A0 7 Z (pl2 4 [1,0] 63 65 Z (ix Z (L8 Z Z Z Z opx) (zrg 2 0 [4] [] (bx a9 (N4 ((C4 (bRows.getD (((l.getD i ZY).row).toNat) []) ((l.getD i ZY).frm) ((l.getD i ZY).tt) pen).1) ⟨va a3.q,((C4 (bRows.getD (((l.getD i ZY).row).toNat) []) ((l.getD i ZY).frm) ((l.getD i ZY).tt) pen).2).length,a3.k⟩) 74::I::bx b5 (B7 (((C4 (bRows.getD (((l.getD i ZY).row).toNat) []) ((l.getD i ZY).frm) ((l.getD i ZY).tt) pen).1).pen)) 63::F::bx y (F5 (⟨(l.getD i ZY).row,(((C4 (bRows.getD (((l.getD i ZY).row).toNat) []) ((l.getD i ZY).frm) ((l.getD i ZY).tt) pen).1).ends - 1),true⟩:Cur)) 29::B::D::((vo A2 51 am ((out++e)++(C4 (bRows.getD (((l.getD i ZY).row).toNat) []) ((l.getD i ZY).frm) ((l.getD i ZY).tt) pen).2))++([]))) ?_)))
    exact A1 (nx (A0 3 Z (bP 1 19 Z (ix Z (B1 Z Z Z Z opx) (bP 1 12 Z (A1 (Z0 (z1:=(out,t,i,pen,c1)) ((out++e)++(C4 (bRows.getD (((l.getD i ZY).row).toNat) []) ((l.getD i ZY).frm) ((l.getD i ZY).tt) pen).2,am,i+1,((C4 (bRows.getD (((l.getD i ZY).row).toNat) []) ((l.getD i ZY).frm) ((l.getD i ZY).tt) pen).1).pen,(⟨(l.getD i ZY).row,(((C4 (bRows.getD (((l.getD i ZY).row).toNat) []) ((l.getD i ZY).frm) ((l.getD i ZY).tt) pen).1).ends - 1),true⟩:Cur)) ⟨opx,hR,ak,oln⟩ olr bU c9)))))))
   exact A4 (nx (A0 3 Z (bP 1 19 Z (ix Z (B1 Z Z Z Z opx) (bP 1 12 Z (A1 (Z0 (z1:=(out,t,i,pen,c1)) ((out++e)++(C4 (bRows.getD (((l.getD i ZY).row).toNat) []) ((l.getD i ZY).frm) ((l.getD i ZY).tt) pen).2,am,i+1,((C4 (bRows.getD (((l.getD i ZY).row).toNat) []) ((l.getD i ZY).frm) ((l.getD i ZY).tt) pen).1).pen,{ZS with row:=(l.getD i ZY).row,col:=((C4 (bRows.getD (((l.getD i ZY).row).toNat) []) ((l.getD i ZY).frm) ((l.getD i ZY).tt) pen).1).ends}) ⟨opx,hR,ak,oln⟩ olr bU c9)))))))
 have ay:=bV h7
 rw [A1b ay] at hR;replace hR:=V (V2.eq_1 ..) hR
 refine F1 (nx (sh 8 [(8,[M]),(7,[F]),(8,[N]),(8,[B]),(8,[D]),(4,vo A2 51 t out)] [sl F0 h u,D8 D0 u aRows,sl F0 g o,D8 D0 o bRows,sl H1 lq l] (M::F::N::B::D::Zc) (cL 8 0) oki Z oki oki oki bU A7.refl ?_))
 refine zhp [0] 7 (cL 8 1) [(68,.slice (va t.q) out.length t.k)] ?_
 refine zhl 1 [M,F,N,B,D] (cL 8 3) Z (G6 (us:=B7 pen) B4w Z Z 0 Z Z Z) ?_
 refine zhk 2 (cL 8 7) Z (A2h (cs:=B7 ZJ) Z Z oki) ?_
 refine zhl 5 [M,F,N,B,D] (cL 8 39) Z (G6 (us:=F5 c1) D3l Z Z 2 Z Z Z) ?_
 obtain ⟨a5,a6,hR⟩:=C3 hR
 refine zho 3 (M::F::N::B::D::Zc) (cL 8 47) Z (I4 (L2:=(M::F::N::B::D::Zc)) (C0i a6) Z Z Z Z Z A7.nil (List.Perm.refl _) (fun ⟨⟨ar,au⟩,ai⟩=>(M::F::N::B::D::Zc)) (fun _=>by first|rfl|simp only [List.append_nil,List.cons_append,List.nil_append,List.append_assoc])) (fun ⟨⟨ar,au⟩,ai⟩=>bU) (fun ⟨⟨ar,au⟩,ai⟩=>c9) fun ⟨⟨ar,au⟩,ai⟩=>?_
 obtain ⟨be,bd⟩:=ai
 have:=(A9p pen ZJ).1;try rw [a6] at this
 refine zho 4 [M,F,N,B,D] (cL 8 63) Z (Y6 (f:=A2) (r:=t) (xs:=out) (ys:=a5) (pre:=[M,F,N,B,D]) (post:=[]) A0c (fun _=>Z) (fun _=>Z) Z Z Z Z Z Z Z Z (A5 0 Z) aa ore ore) (fun ⟨an,ae⟩=>bU) (fun ⟨an,ae⟩=>c9) fun ⟨an,ae⟩=>?_
 have:=@List.length_append _ out a5
 have:=bT.lc ae
 refine zhp [6] 1 (cL 8 127) [(8,.slice (va an.q) ((out++a5).length) an.k)] ?_
 refine zho 7 [M,N,B,D] (cL 8 255) Z (O9 (us:=F5 c1) (cs':=F5 c1) D3l Z Z Z 1 Z Z Z Z Z Z) (fun _=>bU) (fun _=>c9) fun _=>?_
 refine D6r oki ?_
 subst hR
 exact A8 (cC hr hD (Y4 Z (A6 Z) (E8 (us:=F5 c1) D3l Z 1 Z Z Z)) ⟨an,ae⟩ bU A7.nil)
theorem E1p {c:Bool} {x y:Int} (h:(bif c then x else y)=0) (a:x≠0):c=false∧y=0:=by grind
theorem F7a {c y:Bool} (h:(bif c then false else y)=true):c=false∧y=true:=by grind
theorem D4g (r:List Cel):∀ (l:List Cel) (k:Nat),X4 r l k=0→∀ j,j<l.length→(((decide ((0:Int)<((k+j:Nat):Int)))&&(decide ((r.getD (k+j - 1) ZV).wide=1)))=(decide ((l.getD j ZV).wide=2)))∧¬ ((l.getD j ZV).wide=1∧((k+j:Nat):Int)=(r.length:Int) - 1)
 | [],k,h,j,hj=>by cases hj
 | x::l,k,h,j,hj=>by
  rw [X4] at h
  obtain ⟨-,h⟩:=E1p h ozw
  obtain ⟨c,h⟩:=E1p h ozw
  match j,hj with
  | 0,_ =>
   simp only [Bool.or_eq_false_iff] at c
   obtain ⟨⟨a,-⟩,b⟩:=c
   refine ⟨by rw [Bool.not_eq_false'] at a;exact eq_of_beq a,fun q=>?_⟩
   rw [decide_eq_true (show x.wide=1 from q.1),decide_eq_true (show (k:Int)=(r.length:Int) - 1 from q.2)] at b
   exact Bool.noConfusion b
  | j+1,hj =>
   have q:=D4g r l (k+1) h j (by simpa using hj)
   rw [show k+(j+1)=k+1+j by omega];exact q
theorem F7i {row:List Cel} (h:U5 row false=true) (d:i<row.length) (c:(row.getD i ZV).wide=1):i+1<row.length∧(row.getD (i+1) ZV).wide=2:=by
 unfold U5 at h
 have h:=of_decide_eq_true h
 unfold B1y at h
 obtain ⟨-,h⟩:=E1p h ozw
 have a:=D4g row row 0 h i d
 have b:i+1<row.length:=Decidable.byContradiction fun e=>a.2 ⟨c,by omega⟩
 have q:=(D4g row row 0 h (i+1) b).1
 grind
theorem D1s (f:FrmC):∀ (a:List (List Cel)) (i:Nat),X7 f a i=true→∀ r ∈ a,U5 r false=true
 | [],i,_=>fun r hr=>by cases hr
 | x::l,i,h=>by
  rw [X7] at h
  obtain ⟨b,h⟩:=F7a h
  simp only [Bool.or_eq_false_iff,Bool.not_eq_false'] at b
  intro r hr
  rcases List.mem_cons.1 hr with rfl | hr
  ·exact b.2
  ·exact D1s f l _ h r hr
theorem F5v {f:FrmC} {a:List (List Cel)} (h:L6 f a=true):∀ r ∈ a,U5 r false=true:=by
 unfold L6 at h
 exact D1s f a 0 (F7a (F7a h).2).2
theorem B4n {a:FrmC} {aR:List (List Cel)} {b:FrmC} {bR:List (List Cel)} {c:Cur} (h:N7 a aR b bR c=0):((2≤a.cols∧a.cols≤80)∧aR.length≤40∧aR.length=bR.length)∧(∀ i,i<aR.length→((aR.getD i []).length:Int)=a.cols)∧(∀ i,i<bR.length→((bR.getD i []).length:Int)=a.cols)∧(0≤c.row∧c.row≤40∧0≤c.col∧c.col≤80)∧∀ r ∈ bR,U5 r false=true:=by
 have l:=F5n h
 obtain ⟨j,e,d,m⟩:=B7f h
 have f:=C3g j
 have g:=C3g e
 unfold A4o at d
 simp only [Bool.and_eq_true,decide_eq_true_eq] at d
 grind[F5v]
theorem F1t {a:FrmC} {aR:List (List Cel)} {b:FrmC} {bR:List (List Cel)} {s:Sp3} (c:P8 a aR b bR s=true) (k:aR.length=bR.length) (d:∀ i,i<bR.length→((bR.getD i []).length:Int)=a.cols) (hR:∀ r ∈ bR,U5 r false=true) :
  (0≤s.row∧s.row<bR.length∧0≤s.frm∧s.frm<s.tt∧s.tt≤a.cols)∧∀ i:Int,s.frm≤i→i<s.tt→((bR.getD (s.row).toNat []).getD i.toNat ZV).wide=1→i+1<s.tt:=by
 unfold P8 at c
 obtain ⟨j,c⟩:=F7a c
 obtain ⟨l,c⟩:=F7a c
 simp only [Bool.or_eq_false_iff,decide_eq_false_iff_not] at j
 refine ⟨by omega,fun i f h e=>?_⟩
 have hr:=d s.row.toNat opx
 have g:bR.getD s.row.toNat [] ∈ bR:=by
  grind
 have p:=F7i (hR _ g) (i:=i.toNat) opx e
 grind
theorem F4n {a:FrmC} {aR:List (List Cel)} {b:FrmC} {bR:List (List Cel)} {c:Cur} {l:List Sp3} (h:N7 a aR b bR c=0∧∀ j,j<l.length→P8 a aR b bR (l.getD j ZY)=true) :
  ∀ s ∈ l,(0≤s.row∧s.row<bR.length∧0≤s.frm∧s.frm<s.tt∧s.tt≤a.cols)∧∀ i:Int,s.frm≤i→i<s.tt→((bR.getD (s.row).toNat []).getD i.toNat ZV).wide=1→i+1<s.tt:=fun s e=>by
 have w:=B4n h.1
 obtain ⟨j,d,rfl⟩:=List.getElem_of_mem e
 have:=h.2 j d
 rw [List.getD_eq_getElem?_getD,List.getElem?_eq_getElem d] at this
 exact F1t this w.1.2.2 w.2.2.1 w.2.2.2.2
def S8 (a:FrmC) (f:List (List Cel)) (b:FrmC) (g:List (List Cel)) (x:List Sp3) (c:Cur) (d:List Act×Cur×Int):List Sp3→Int→Nat→Bool
 | [],no,t40=>(bif (!decide (no=0)) then (((decide ((d.1.length:Int)=0))&&(decide (d.2.1=ZS)))&&(decide (d.2.2=no))) else (B5 (B5s a f b g (x.take ((if (20:Int)<(x.length:Int) then (20:Int) else (x.length:Int)).toNat)) c) fun (e:List Act×Cur)=>(((decide (d.2.2=0))&&(A6s d.1 e.1))&&(decide (d.2.1=e.2)))))
 | hd_l0::tl_l0,no,t40=>(bif ((decide (no=0))&&(!(P8 a f b g hd_l0))) then S8 a f b g x c d tl_l0 2 (t40+1) else S8 a f b g x c d tl_l0 no (t40+1))
def B1i (a:FrmC) (e:List (List Cel)) (b:FrmC) (f:List (List Cel)) (x:List Sp3) (c:Cur):Bool :=
 (bif (!B9a) then false else (B5 (A9i a e b f (x.take ((if (20:Int)<(x.length:Int) then (20:Int) else (x.length:Int)).toNat)) c) fun (d:List Act×Cur×Int)=>S8 a e b f x c d (x.take ((if (20:Int)<(x.length:Int) then (20:Int) else (x.length:Int)).toNat)) (N7 a e b f c) 0))
theorem C8z (a:FrmC) (f:List (List Cel)) (b:FrmC) (e:List (List Cel)) (x:List Sp3) (c:Cur) (n:Option Addr) (t:List Slc) (p:Nat) (m:Option Addr) (s:List Slc) (o:Nat) (xq:Option Addr) (xk:Nat) (i:B4 t f) (ak:f.length≤9223372036854775807) (af:f.length≤p) (l:B4 s e) (ae:e.length≤9223372036854775807) (ao:e.length≤o) (bd:x.length≤9223372036854775807) (b8:x.length≤xk) (hT:a.title.length≤100000000) (b9:b.title.length≤100000000) (R:Bool) (hR:B1i a f b e x c=R):J7 Tryz.prog 3 [ag (C9 a ⟨n,f.length,p⟩),ag (C9 b ⟨m,e.length,o⟩),.slice xq x.length xk,ag (F5 c)] [sl F0 n t,D8 D0 t f,sl F0 m s,D8 D0 s e,sl H1 xq x,A1o,A1p,M1,P0] (bv R):=by
 refine cD Tryz.func3 fun X hX hr hD=>?_
 replace hR:=V (B1i.eq_1 ..) hR
 have:=i.1
 have:=l.1
 have bc:(x.take ((if (20:Int)<(x.length:Int) then (20:Int) else (x.length:Int)).toNat)).length≤20:=by rw [List.length_take];split<;>omega
 have ba:((if (20:Int)<(x.length:Int) then (20:Int) else (x.length:Int)).toNat)≤xk:=by split<;>omega
 refine bS Z (D8c 4 0 [] (fun b1 b2 b3=>[(4,pt b1 0),(5,pt b2 0),(7,pt b3 0)]) (fun b1 b2 b3=>[bx b3 (F5 c) 29,bx b2 (C9 b ⟨m,e.length,o⟩) 26,bx b1 (C9 a ⟨n,f.length,p⟩) 26]) (fun b1 b2 b3=>?_))
 refine ie (A3 (bS Z (zv Z (D9p _ Z) ?_)))
 refine bP 1 19 Z (ie (G3 Z (fun h4=>?_) (fun h4=>?_)))
 ·replace hR:=bt hR h4
  refine bS Z (ip' 1 0 [(8,bv false)] ?_)
  subst hR
  refine ie (A8 ?_)
  exact F7 hr hD
 replace hR:=bf hR h4
 refine A4 (nx (bS Z (ip' 4 2 [(20,.slice xq x.length xk),(23,iv (if 20<(x.length:Int) then 20 else x.length))] ?_)))
 have:=E8t (x.length:Int) (20:Int)
 refine D4 (D4c (A5 4 Z) ((if 20<(x.length:Int) then 20 else (x.length:Int)).toNat)) (ix Z (B5n (n':=(x.take ((if 20<(x.length:Int) then 20 else (x.length:Int)).toNat)).length) C6l Z Z ((if 20<x.length then 20 else (x.length:Int)).toNat) _ (A1l Z opx) A2b opx opx ofx Z) (bP 1 9 Z ?_))
 refine ie (bS Z (bY 4 9 [2,1,0] [(26,ag (C9 a ⟨n,f.length,p⟩)),(27,ag (C9 b ⟨m,e.length,o⟩)),(28,.slice xq ((x.take ((if 20<(x.length:Int) then 20 else (x.length:Int)).toNat)).length) xk),(29,ag (F5 c))] ?_))
 obtain ⟨d,y,hR⟩:=C3 hR
 refine zc Z (C8r y i bW bW l bW bW bW bW opd opd oxw) fun ⟨r5,aa⟩=>?_
 have:=bT.lc aa
 refine P2 [_,_,_] _ aa omm ?_
 refine cI 8 [0] (fun b7=>[(11,pt b7 0),(10,.slice (va r5.q) d.1.length r5.k),(12,iv d.2.2)]) (fun _=>(F5 d.2.1)) 29 fun b7=>?_
 refine ie (bS Z (bY 3 2 [3,2,1] [(34,ag (C9 a ⟨n,f.length,p⟩)),(35,ag (C9 b ⟨m,e.length,o⟩)),(36,ag (F5 c))] ?_))
 refine zv Z (D9g a f b e c n t p m s o i osf osf l osf osf opd opd _ Z) ?_
 refine bP 1 13 Z (ie (A3 (bS Z (pp3 3 38 39 40 Z ?_))))
 refine ie (A9 (A1y (un fun no u=>(u≤(x.take ((if 20<(x.length:Int) then 20 else (x.length:Int)).toNat)).length∧S8 a f b e x c d ((x.take _).drop u) no u=R∧(no=0→N7 a f b e c=0∧∀ j,j<u→P8 a f b e ((x.take ((if 20<(x.length:Int) then 20 else (x.length:Int)).toNat)).getD j ZY)=true),[(4,_),(5,_),(7,_),(9,_),(10,.slice (va r5.q) d.1.length r5.k),(11,pt b7 0),(12,iv d.2.2),(13,iv no),(38,.slice xq ((x.take ((if (20:Int)<(x.length:Int) then (20:Int) else (x.length:Int)).toNat)).length) xk),(39,iv ((x.take ((if (20:Int)<(x.length:Int) then (20:Int) else (x.length:Int)).toNat)).length:Int)),(40,iv (u:Int))],[bx b7 (F5 d.2.1) 29,bx b3 (F5 c) 29,bx b2 (C9 b ⟨m,e.length,o⟩) 26,bx b1 (C9 a ⟨n,f.length,p⟩) 26],_,(x.take ((if (20:Int)<(x.length:Int) then (20:Int) else (x.length:Int)).toNat)).length - u)) (N7 a f b e c,0) ⟨opx,hR,(by exact fun h=>⟨h,fun j hj=>absurd hj (Nat.not_lt_zero _)⟩)⟩ bU A7.refl ?_))
 rintro ⟨no,u⟩ ⟨be,hR,v⟩
 refine bS Z (bP 1 41 Z (ie (A3 (G3 Z (fun h9=>?_) (fun h9=>?_)))))
 ·have al:=bV h9
  rw [A1a ZY (show u<(x.take ((if (20:Int)<(x.length:Int) then (20:Int) else (x.length:Int)).toNat)).length by omega)] at hR;replace hR:=V (S8.eq_2 ..) hR
  refine A4 (nx (A3 (A9 (bS Z (H8 1 Z opx fun bb a2=>(ix Z (E7 C6l Z Z a2 Z u Z opx) (ix Z (J0 E8u Z Z (F8 (sz:=3) a2 (fun _=>Z) 1 Z (gd ZY opx)) Z) ?_)))))))
  refine cI 2 [0] (fun an=>[(15,pt an 0)]) (fun _=>(H1 ((x.take ((if 20<(x.length:Int) then 20 else (x.length:Int)).toNat)).getD u ZY))) 37 fun an=>?_
  refine ie (bS Z (bP 3 46 Z ?_))
  refine zid 6 0 46 52 (!(P8 a f b e ((x.take ((if 20<(x.length:Int) then 20 else (x.length:Int)).toNat)).getD u ZY))) (fun aw b0=>?_) ?_
  ·refine bY 3 3 [4,3,0] [(47,ag (C9 a ⟨n,f.length,p⟩)),(48,ag (C9 b ⟨m,e.length,o⟩)),(49,ag (H1 ((x.take ((if 20<(x.length:Int) then 20 else (x.length:Int)).toNat)).getD u ZY)))] ?_
   refine zv Z (E3v Z i bW bW l bW bW (by first|omega|exact hz0|(have:=(B4n (v oiu).1).1;omega)) (by first|exact hra0|exact (B4n (v oiu).1).2.1) (by first|exact hrb0|exact (B4n (v oiu).1).2.2.1)) ?_
   refine bP 2 52 Z ?_
   exact zai 6 46 _ aw
  refine ie (G3 Z (fun z=>?_) (fun z=>?_))
  ·have a5:=bV z
   replace hR:=bt hR z
   refine A0 1 Z (bP 1 13 Z (A1 (nx (A0 2 Z (ix Z (B1 Z Z Z Z opx) (bP 1 40 Z (A1 ?_)))))))
   exact Z0 (2,_) ⟨opx,hR,(by first|exact fun h=>absurd (show (2:Int)=0 from h) ozw|exact fun h=>⟨(v h).1,fun j hj=>by rcases Nat.lt_succ_iff_lt_or_eq.1 hj with hj|rfl;exact (v h).2 j hj;exact ap h⟩)⟩ olr bU A7.refl
  have a5:=bV z
  replace hR:=bf hR z
  have ap:no=0→P8 a f b e ((x.take ((if (20:Int)<(x.length:Int) then (20:Int) else (x.length:Int)).toNat)).getD u ZY)=true:=fun h=>by cases hz:P8 a f b e ((x.take ((if (20:Int)<(x.length:Int) then (20:Int) else (x.length:Int)).toNat)).getD u ZY) with | true=>rfl | false=>exact (a5 ⟨h,by rw [hz];exact Bool.false_ne_true⟩).elim
  refine A4 (nx (A0 2 Z (ix Z (B1 Z Z Z Z opx) (bP 1 40 Z (A1 ?_)))))
  exact Z0 (_,_) ⟨opx,hR,(by first|exact fun h=>absurd (show (2:Int)=0 from h) ozw|exact fun h=>⟨(v h).1,fun j hj=>by rcases Nat.lt_succ_iff_lt_or_eq.1 hj with hj|rfl;exact (v h).2 j hj;exact ap h⟩)⟩ olr bU A7.refl
 have al:=bV h9
 rw [A1b al] at hR;replace hR:=V (S8.eq_1 ..) hR
 refine F1 (nx (A3 (bS Z (bP 2 55 Z (ie (G3 Z (fun a0=>?_) (fun a0=>?_)))))))
 ·have a6:=bV a0
  replace hR:=bt hR a0
  refine bS Z (bP 4 59 Z ?_)
  refine zid 4 6 59 63 (decide (d.2.1=ZS)) (fun ax az=>?_) ?_
  ·refine bY 2 2 [0] [(60,ag (F5 d.2.1)),(61,ag (F5 ZS))] ?_
   refine ix Z (A3m F4m Z Z Z) (bP 1 63 Z ?_)
   exact zai 5 59 _ ax
  refine bP 1 64 Z ?_
  refine zia 4 1 64 68 (decide (d.2.2=no)) (fun aj=>?_) ?_
  ·have b5:=bV aj
   refine bP 4 68 Z ?_
   exact zai 2 64 _ aj
  refine bP 1 8 Z ?_
  subst hR
  refine ie (A8 ?_)
  exact F7 hr hD
 have a6:=bV a0
 replace hR:=bf hR a0
 have ab:=v (Decidable.not_not.1 a6)
 have ac:=B4n ab.1
 have aq:=F4n ⟨ab.1,fun j hj=>ab.2 j opx⟩
 refine A4 (nx (bS Z (bY 4 7 [3,2,1] [(70,ag (C9 a ⟨n,f.length,p⟩)),(71,ag (C9 b ⟨m,e.length,o⟩)),(72,.slice xq ((x.take ((if 20<(x.length:Int) then 20 else (x.length:Int)).toNat)).length) xk),(73,ag (F5 c))] ?_)))
 obtain ⟨g,w,hR⟩:=C3 hR
 refine zc Z (D9r w i bW bW l bW bW bW bW (by first|assumption|omega|(have:=ac.1;omega)) (by first|omega|exact ac.2.2.2.1) (by first|assumption|exact ac.2.2.1) (by first|assumption|exact aq)) fun ⟨a9,a1⟩=>?_
 have:=bT.lc a1
 refine P2 [_,_,_,_] _ a1 omm ?_
 refine cI 6 [0] (fun ah=>[(17,pt ah 0),(16,.slice (va a9.q) g.1.length a9.k)]) (fun _=>(F5 g.2)) 29 fun ah=>?_
 refine ie (bS Z (bP 3 79 Z ?_))
 refine zid 4 6 79 83 (A6s d.1 g.1) (fun au b4=>?_) ?_
 ·refine cF 2 80 81 Z ?_
  refine zv Z (C1i Z) ?_
  refine bP 1 83 Z ?_
  exact zai 5 79 _ au
 refine bP 1 84 Z ?_
 refine zia 4 1 84 88 (decide (d.2.1=g.2)) (fun am=>?_) ?_
 ·have b6:=bV am
  refine bY 2 2 [1,0] [(85,ag (F5 d.2.1)),(86,ag (F5 g.2))] ?_
  refine ix Z (A3m F4m Z Z Z) (bP 1 88 Z ?_)
  exact zai 5 84 _ am
 refine bP 1 8 Z ?_
 subst hR
 refine ie (A8 ?_)
 exact F7 hr hD
end
end Go.Proofs.YtmldjljkeigpnaaGreatDoor
