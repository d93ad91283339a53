import Derived.Test.YtmldjljkeigpnaaGreatDoorProg
import Derived.Test.YtmldjljkeigpnaaGreatDoorMA2
import Derived.Test.YtmldjljkeigpnaaGreatDoorMB1
import Derived.Test.YtmldjljkeigpnaaGreatDoorMA3
import Derived.Test.YtmldjljkeigpnaaGreatDoorMB2
import Derived.Test.YtmldjljkeigpnaaGreatDoorMB3
import Derived.Test.YtmldjljkeigpnaaGreatDoorMQ1
import Derived.Test.YtmldjljkeigpnaaGreatDoorMQ2
import Derived.Test.YtmldjljkeigpnaaGreatDoorMQ3
import Derived.Test.YtmldjljkeigpnaaGreatDoorMQ4
set_option linter.unusedVariables false
set_option linter.unusedSimpArgs false
set_option linter.unnecessarySimpa false
set_option maxRecDepth 100000
namespace Go.Proofs.YtmldjljkeigpnaaGreatDoor
section
open Go Go.Fen open Go.IntKind (i64) open Tryz (prog)
variable {R:Bool} {aRowsk:Nat} {aY:kQ} {bA:Nat} {bC:Bool} {bRowsk:Nat} {e:kQ} {from_:Int} {g h:kQ} {i:Nat} {last:Bool} {lk:Nat} {lq:kQ} {m n:Int} {p pending:List UInt8} {pendingk:Nat} {pendingq:kQ} {pk:Nat} {q:Int} {s:List UInt8} {to_:Int}
theorem F4x:ApTy prog 99 74 10 96:=⟨by simp,by kernel_rfl,rfl⟩
theorem C9t:SlTy prog 99 74 10:=⟨by simp,by kernel_rfl⟩
theorem F7n:Ty prog 74 10 true:=⟨by kernel_rfl⟩
theorem F6n:Zero prog 74 (N4 ZW ⟨none,0,0⟩):=⟨by kernel_rfl⟩
def B2g (s:Sty):Int :=
 (bif ((((decide (s.attr<0))||(decide ((255:Int)<s.attr)))||(decide (s.under<0)))||(decide ((5:Int)<s.under))) then 140 else (bif (!decide ((U6 s.fore)=0)) then (U6 s.fore) else (bif (!decide ((U6 s.back)=0)) then (U6 s.back) else (bif (!decide ((U6 s.line)=0)) then (U6 s.line) else 0))))
theorem D9n {s:Sty} {R:Int} (hR:B2g s=R):J7 prog 125 [ag (B7 s)] [] (iv R):=by
 refine cD Tryz.func125 fun X hX hr hD=>?_
 rw[B2g]at hR
 refine bS Z (cI 2 [] (fun e=>[(1,pt e 0)]) (fun _=>(B7 s)) 63 fun e=>?_)
 refine ie (A3 (bS Z (cB 4 [0] 9 Z ?_)))
 refine zir 4 10 9 13 (decide (255<s.attr)) (fun o k=>?_) ?_
 ·refine cB 4 [0] 13 Z ?_
  exact A1 (I1 2 9 _ o A7.nil bU Z Z Z Z Z)
 refine bP 1 14 Z ?_
 refine zio 4 5 14 18 (decide (s.under<0)) (fun j=>?_) ?_
 ·have q:=bV j
  refine cB 4 [0] 18 Z ?_
  exact A1 (I1 2 14 _ j A7.nil bU Z Z Z Z Z)
 refine bP 1 19 Z ?_
 refine zio 4 0 19 23 (decide (5<s.under)) (fun d=>?_) ?_
 ·have l:=bV d
  refine cB 4 [0] 23 Z ?_
  exact A1 (I1 2 19 _ d A7.nil bU Z Z Z Z Z)
 refine ie ?_
 refine zjb Z hR ?_ ?_<;>intro hR h
 ·have b:=bV h
  refine bS Z (bP 1 2 Z ?_)
  subst hR
  exact q8
 refine A4 (nx (A3 (bS Z (bY 8 0 [0,0,0] [(30,ag [iv s.fore.kind,iv s.fore.n,iv s.back.kind,iv s.back.n,iv s.line.kind,iv s.line.n]),(31,iv 0)] ?_))))
 refine ie (A9 (A1g 5 (E9 (bS Z (bP 1 32 Z (ie (A3 (K1 Z (A4 (nx (A3 (A9 (bS Z (ix Z (F3 (v:=ag [_,_]) Tryz.underlying255 C4m Z Z Z 0) ?_))))))))))))))
 refine cI 2 [0] (fun g=>[(4,pt g 0)]) (fun _=>(R1 s.fore)) 49 fun g=>?_
 refine ie (bS Z (bY 1 2 [0] [(34,ag (R1 s.fore))] ?_))
 refine zv Z (B4t Z) ?_
 refine bP 1 5 Z (ie (bS Z (bP 2 37 Z (ie ?_))))
 refine zjn Z hR ?_ ?_<;>intro hR u m
 ·refine bS Z (bP 2 2 Z ?_)
  subst hR
  exact q8
 refine A4 (nx (A0 2 Z (ix Z (B1 (c:=1)) (bP 1 31 Z (A1 (E9 (bS Z (bP 1 32 Z (ie (A3 (K1 Z (A4 (nx (A3 (A9 (bS Z (ix Z (F3 (v:=ag [_,_]) Tryz.underlying255 C4m Z Z Z 1) ?_)))))))))))))))))
 refine cI 2 [0] (fun i=>[(4,pt i 0)]) (fun _=>(R1 s.back)) 49 fun i=>?_
 refine ie (bS Z (bY 1 2 [0] [(34,ag (R1 s.back))] ?_))
 refine zv Z (B4t Z) ?_
 refine bP 1 5 Z (ie (bS Z (bP 2 37 Z (ie ?_))))
 refine zjn Z hR ?_ ?_<;>intro hR t p
 ·refine bS Z (bP 2 2 Z ?_)
  subst hR
  exact q8
 refine A4 (nx (A0 2 Z (ix Z (B1 (c:=2)) (bP 1 31 Z (A1 (E9 (bS Z (bP 1 32 Z (ie (A3 (K1 Z (A4 (nx (A3 (A9 (bS Z (ix Z (F3 (v:=ag [_,_]) Tryz.underlying255 C4m Z Z Z 2) ?_)))))))))))))))))
 refine cI 2 [0] (fun a=>[(4,pt a 0)]) (fun _=>(R1 s.line)) 49 fun a=>?_
 refine ie (bS Z (bY 1 2 [0] [(34,ag (R1 s.line))] ?_))
 refine zv Z (B4t Z) ?_
 refine bP 1 5 Z (ie (bS Z (bP 2 37 Z (ie ?_))))
 refine zjn Z hR ?_ ?_<;>intro hR r f
 ·refine bS Z (bP 2 2 Z ?_)
  subst hR
  exact q8
 refine A4 (nx (A0 2 Z (ix Z (B1 (c:=3)) (bP 1 31 Z (A1 (E9 (bS Z (bP 1 32 Z (ie (A3 (A5t Z (F1 (nx (bS Z (bP 1 2 Z ?_)))))))))))))))
 subst hR
 exact q8
def A5u (c:Cel):Bool :=
 (((decide (c.base=0))&&(decide (c.marks=Ar2.zero)))&&(decide (c.wide=2)))
theorem D4z {c:Cel} (hR:A5u c=R):J7 prog 126 [ag (D0 c)] [] (bv R):=by
 refine cD Tryz.func126 fun X hX hr hD=>?_
 rw[A5u]at hR
 refine k_ ?_
 refine cI 2 [] (fun d=>[(1,pt d 0)]) (fun _=>(D0 c)) 71 fun d=>?_
 refine ie (bS Z (cB 4 [0] 6 Z (zid 5 6 6 11 (decide (c.marks=Ar2.zero)) (fun f h=>?_) ?_)))
 ·refine bY 3 2 [0] [(8,ag (A3a c.marks)),(9,ag (A3a Ar2.zero))] ?_
  refine ix Z (A3m G0f Z Z Z) (k_ ?_)
  exact I1 5 6 _ f A7.nil bU Z Z Z Z Z
 refine bP 1 12 Z (zia 4 1 12 16 (decide (c.wide=2)) (fun e=>?_) ?_)
 ·have g:=bV e
  exact cB 4 [0] 16 Z (A1 (I1 2 12 _ e A7.nil bU Z Z Z Z Z))
 refine bP 1 2 Z ?_
 subst hR
 refine k_ ?_
 exact F7 hr hD
def A0w (c:Cel):Int :=
 (bif (!decide ((B2g c.sty)=0)) then 221 else (bif (A5u c) then 0 else (bif ((!decide (c.marks.a=0))&&((!decide ((P7 c.marks.a)=0))||false)) then 221 else (bif ((!decide (c.marks.b=0))&&((!decide ((P7 c.marks.b)=0))||(decide (c.marks.a=0)))) then 221 else (bif (((decide ((P7 c.base)=1))&&(decide (c.wide=0)))||((decide ((P7 c.base)=2))&&(decide (c.wide=1)))) then 0 else 221)))))
theorem C8v {c:Cel} {R:Int} (hR:A0w c=R):J7 prog 86 [ag (D0 c)] [] (iv R):=by
 refine cD Tryz.func86 fun X hX hr hD=>?_
 rw[A0w]at hR
 refine bS Z (cI 2 [] (fun l=>[(1,pt l 0)]) (fun _=>(D0 c)) 71 fun l=>?_)
 refine ie (A3 (bS Z (bY 2 2 [0] [(6,ag (B7 c.sty))] ?_)))
 refine zv Z (D9n Z) ?_
 refine bP 1 8 Z (ie ?_)
 refine zjn Z hR ?_ ?_<;>intro hR z x
 ·refine bS Z (bP 1 2 Z ?_)
  subst hR
  exact q8
 refine A4 (nx (A3 (bS Z (bY 1 1 [0] [(9,ag (D0 c))] ?_))))
 refine zv Z (D4z Z) ?_
 refine ie ?_
 refine zjb Z hR ?_ ?_<;>intro hR h3
 ·refine bS Z (bP 1 2 Z ?_)
  subst hR
  exact q8
 refine A4 (nx (A3 (bS Z (bP 1 3 Z (ie (A9 (A1g 3 (E9 (A3 (bS Z (bP 2 12 Z (ie (K1 Z (A4 (nx (A3 (A9 (bS Z (cF 2 15 16 Z (ix Z (A2w Tryz.underlying69 cE Z Z Z 0 Z Z) (cB 3 [0] 20 Z ?_)))))))))))))))))))))
 refine zia 19 0 20 39 ((!decide ((P7 c.marks.a)=0))||false) (fun k=>?_) ?_
 ·have v:=bV k
  refine cF 2 21 22 Z (ix Z (A2w Tryz.underlying69 cE Z Z Z 0 Z Z) (cB 1 [0] 24 Z ?_))
  refine zv Z (C2c Z) ?_
  refine bP 2 27 Z ?_
  refine zio _ 1 27 38 false (fun o=>?_) ?_
  ·have y:=bV o
   refine bP 11 38 Z ?_
   exact A1 (I1 2 27 _ o A7.nil bU Z Z Z Z Z)
  refine bP 1 39 Z ?_
  exact A1 (I1 9 20 _ k A7.nil bU Z Z Z Z Z)
 refine ie ?_
 refine zjb Z hR ?_ ?_<;>intro hR n
 ·have g:=bV n
  refine bS Z (bP 1 2 Z ?_)
  subst hR
  exact q8
 refine A4 (nx (A0 3 Z (bP 1 13 Z (ix Z (B1 (c:=1)) (bP 1 3 Z (A1 (E9 (A3 (bS Z (bP 2 12 Z (ie (K1 Z (A4 (nx (A3 (A9 (bS Z (cF 2 15 16 Z (ix Z (A2w Tryz.underlying69 cE Z Z Z 1 Z Z) (cB 3 [0] 20 Z ?_))))))))))))))))))))
 refine zia 19 0 20 39 ((!decide ((P7 c.marks.b)=0))||(decide (c.marks.a=0))) (fun s=>?_) ?_
 ·have u:=bV s
  refine cF 2 21 22 Z (ix Z (A2w Tryz.underlying69 cE Z Z Z 1 Z Z) (cB 1 [0] 24 Z ?_))
  refine zv Z (C2c Z) ?_
  refine bP 2 27 Z ?_
  refine zio _ 1 27 38 (decide (c.marks.a=0)) (fun t=>?_) ?_
  ·have w:=bV t
   refine cF 4 30 31 Z (ix Z (L8 (c:=0)) (bP 1 33 Z (ix Z (A2w Tryz.underlying69 cE Z Z Z 0 Z Z) (cB 4 [0] 38 Z ?_))))
   exact A1 (I1 7 27 _ t A7.nil bU Z Z Z Z Z)
  refine bP 1 39 Z ?_
  exact A1 (I1 9 20 _ s A7.nil bU Z Z Z Z Z)
 refine ie ?_
 refine zjb Z hR ?_ ?_<;>intro hR p
 ·have i:=bV p
  refine bS Z (bP 1 2 Z ?_)
  subst hR
  exact q8
 refine A4 (nx (A0 3 Z (bP 1 13 Z (ix Z (B1 (c:=2)) (bP 1 3 Z (A1 (E9 (A3 (bS Z (bP 2 12 Z (ie (A5t Z (F1 (nx (bS Z (cB 2 [0] 41 Z ?_))))))))))))))))
 refine zv Z (C2c Z) ?_
 refine bP 1 4 Z (ie (A3 (bS Z (bP 3 45 Z ?_))))
 refine zid 4 9 45 49 (decide (c.wide=0)) (fun j q=>?_) ?_
 ·refine cB 4 [0] 49 Z ?_
  exact A1 (I1 2 45 _ j A7.nil bU Z Z Z Z Z)
 refine bP 1 50 Z ?_
 refine zio 8 0 50 58 ((decide ((P7 c.base)=2))&&(decide (c.wide=1))) (fun f=>?_) ?_
 ·have m:=bV f
  refine bP 3 53 Z ?_
  refine zid 4 1 53 57 (decide (c.wide=1)) (fun h r=>?_) ?_
  ·refine cB 4 [0] 57 Z ?_
   exact A1 (I1 2 53 _ h A7.nil bU Z Z Z Z Z)
  refine bP 1 58 Z ?_
  exact A1 (I1 4 50 _ f A7.nil bU Z Z Z Z Z)
 refine ie ?_
 refine zjb Z hR ?_ ?_<;>intro hR d
 ·have e:=bV d
  refine bS Z (bP 1 2 Z ?_)
  subst hR
  exact q8
 refine A4 (nx (bS Z (bP 1 2 Z ?_)))
 subst hR
 exact q8
def X4 (bB:jk):jk→Nat→Int
 | [],i=>0
 | hd_l0::tl_l0,i=>(bif (!decide ((A0w hd_l0)=0)) then 220 else (bif (((!(((decide ((0:Int)<(i:Int)))&&(decide ((bB.getD (i - 1) ZV).wide=1))) == (decide (hd_l0.wide=2))))||(((decide ((0:Int)<(i:Int)))&&(decide ((bB.getD (i - 1) ZV).wide=1)))&&(!(decide (hd_l0.sty=(bB.getD (i - 1) ZV).sty)))))||((decide (hd_l0.wide=1))&&(decide ((i:Int)=((bB.length:Int) - 1))))) then 220 else X4 bB tl_l0 (i+1)))
def B1y (bB:jk) (bC:Bool):Int :=
 (bif ((decide ((bB.length:Int)<2))||(decide ((80:Int)<(bB.length:Int)))) then 220 else X4 bB bB 0)
theorem D9c {bB:jk} {R:Int} (hR:B1y bB bC=R) (z:bB.length≤9223372036854775807:=by exact bW) (bG:bB.length≤bA:=by exact bW):J7 prog 55 [ag [.slice aY bB.length bA,bv bC]] [sl D0 aY bB] (iv R):=by
 refine cD Tryz.func55 fun X hX hr hD=>?_
 rw[B1y]at hR
 refine k_ ?_
 refine cI 2 [] (fun l=>[(1,pt l 0)]) (fun _=>[.slice aY bB.length bA,bv bC]) 85 fun l=>?_
 refine ie ?_
 refine k_ ?_
 refine ie ?_
 refine k_ ?_
 refine zir 4 0 11 15 (decide (80<(bB.length:Int))) (fun v y=>?_) ?_
 ·refine bP 4 15 Z ?_
  exact zai 2 11 _ v
 refine ie ?_
 refine zjo Z hR ?_ ?_<;>intro hR h3 w
 ·refine k_ ?_
  subst hR
  exact q8
 refine k_ ?_
 refine ie (A9 ?_)
 refine A1y (fun i=>(i≤bB.length∧X4 _ (bB.drop i) i=R,[(3,_),(4,iv i)],[_],_,bB.length - i)) 0 ⟨opx,hR⟩ bU A7.refl ?_
 rintro i ⟨x,hR⟩
 refine A3 (bS Z (bP 4 19 Z (ie (G3 Z (fun m=>?_) (fun m=>?_)))))
 ·have g:=bV m
  rw [A1a ZV (show i<bB.length by omega)] at hR;rw[X4]at hR
  refine k_ ?_
  refine H8 0 Z opx fun a6 d=>(ix Z (E7 A1n Z Z d Z i) (ix Z (J0 D3g Z Z (F8 (sz:=12) d jJ 0 Z (gd ZV opx)) Z) ?_))
  refine zv Z (C8v Z) ?_
  refine k_ ?_
  refine ie ?_
  refine zjn Z hR ?_ ?_<;>intro hR h8 u
  ·refine k_ ?_
   subst hR
   exact q8
  refine k_ ?_
  refine zid 8 1 30 38 (decide ((bB.getD (i - 1) ZV).wide=1)) (fun s t=>?_) ?_
  ·refine k_ ?_
   refine ix Z (L8 Z Z Z Z opx) (ix Z (E7 A1n Z Z d Z (i - 1) opx opx) ?_)
   refine k_ ?_
   refine ix Z (B6 cE Z Z (U8 (F8 (sz:=12) d jJ 0 Z (gd _ opx)) (ws:=[iv ((bB.getD _ ZV).wide)]) 3 1 Z) Z) (bP 2 38 Z ?_)
   exact zai 8 30 _ s
  refine bP 1 5 Z (ie (sd 40 Z oki Z ?_))
  refine k_ ?_
  refine dd Z (E7 A1n Z Z d Z i) ?_
  refine k_ ?_
  refine dd Z (B6 cE Z Z (U8 (F8 (sz:=12) d jJ 0 Z (gd _ opx)) (ws:=[iv ((bB.getD i ZV).wide)]) 3 1 Z) Z) ?_
  refine k_ ?_
  refine dd Z (E2y Tryz.underlying4 Z Z Z) ?_
  refine k_ ?_
  refine zdO _ 15 47 63 (((decide (0<(i:Int)))&&(decide ((bB.getD (i - 1) ZV).wide=1)))&&(!(decide ((bB.getD i ZV).sty=(bB.getD (i - 1) ZV).sty)))) (fun k=>?_) ?_
  ·have q:=bV k
   refine pd1 2 49 Z ?_
   refine zda _ 1 49 62 (!(decide ((bB.getD i ZV).sty=(bB.getD (i - 1) ZV).sty))) (fun f=>?_) ?_
   ·have o:=bV f
    refine k_ ?_
    refine dd Z (E7 A1n Z Z d Z i) ?_
    refine k_ ?_
    refine dd Z (J0 B4w Z Z (U8 (F8 (sz:=12) d jJ 0 Z (gd _ opx)) (ws:=B7 ((bB.getD i ZV).sty)) 4 8 Z) Z) ?_
    refine k_ ?_
    refine dd Z (L8 Z Z Z Z opx) (dd Z (E7 A1n Z Z d Z (i - 1) opx opx) ?_)
    refine k_ ?_
    refine dd Z (J0 B4w Z Z (U8 (F8 (sz:=12) d jJ 0 Z (gd _ opx)) (ws:=B7 ((bB.getD _ ZV).sty)) 4 8 Z) Z) (dd Z (A0f E0h Z Z Z) ?_)
    refine k_ ?_
    exact zad 14 49 _ f
   refine k_ ?_
   exact zad 4 47 _ k
  refine k_ ?_
  refine zdO _ 0 64 78 ((decide ((bB.getD i ZV).wide=1))&&(decide (i=((bB.length:Int) - 1)))) (fun j=>?_) ?_
  ·have r:=bV j
   refine k_ ?_
   refine dd Z (E7 A1n Z Z d Z i) ?_
   refine k_ ?_
   refine dd Z (B6 cE Z Z (U8 (F8 (sz:=12) d jJ 0 Z (gd _ opx)) (ws:=[iv ((bB.getD i ZV).wide)]) 3 1 Z) Z) (pd1 2 71 Z ?_)
   refine zdd 6 1 71 77 (decide (i=((bB.length:Int) - 1))) (fun n p=>?_) ?_
   ·refine pd2 3 72 74 Z (dd Z L8 (pd1 2 77 Z ?_))
    exact zad 5 71 _ n
   refine k_ ?_
   exact zad 9 64 _ j
  refine de ?_
  refine zjb Z hR ?_ ?_<;>intro hR e
  ·have h:=bV e
   refine k_ ?_
   subst hR
   exact q8
  refine k_ ?_
  refine ix Z B1 ?_
  refine k_ ?_
  refine A1 ?_
  exact z0 _ ⟨opx,hR⟩
 have g:=bV m
 rw [A1b g] at hR;rw[X4]at hR
 refine k_ ?_
 subst hR
 exact q8
def U5 (bB:jk) (bC:Bool):Bool :=
 (decide ((B1y bB bC)=0))
theorem D8a {bB:jk} (hR:U5 bB bC=R) (b:bB.length≤9223372036854775807:=by exact bW) (c:bB.length≤bA:=by exact bW):J7 prog 30 [ag [.slice aY bB.length bA,bv bC]] [sl D0 aY bB] (bv R):=by
 refine cD Tryz.func30 fun X hX hr hD=>?_
 rw[U5]at hR
 refine k_ ?_
 refine cI 2 [] (fun a=>[(1,pt a 0)]) (fun _=>[.slice aY bB.length bA,bv bC]) 85 fun a=>?_
 refine ie (k_ ?_)
 refine bY 1 3 [0] [(3,ag [.slice aY bB.length bA,bv bC])] ?_
 refine zv Z (D9c Z) ?_
 refine bP 2 2 Z ?_
 subst hR
 refine k_ ?_
 exact F7 hr hD
def D6:Int×Int×Int :=
 (0,0,0)
theorem D9i:0≤(D6).2.2∧(D6).2.2≤4:=by simp[D6]
theorem E2g {R:Int×Int×Int} (hR:D6=R):J7 prog 229 [.slice none 0 0] [] (.tuple #[iv R.1,iv R.2.1,iv R.2.2]):=by
 refine cD Tryz.func229 fun X hX hr hD=>?_
 rw[D6]at hR
 refine k_ ?_
 refine ie ?_
 refine k_ ?_
 subst hR
 refine ie (A8 ?_)
 exact cc (E6f Z A6 A6 A6) ()
def C7u:Bool×Bool :=
 (B5 D6 fun (a:Int×Int×Int)=>(bif (decide (a.2.2=0)) then (false,false) else (((decide ((if (([0,0,128,2048,65536]:List Int).getD ((a.2.2).toNat) 0) > a.1 then (([0,0,128,2048,65536]:List Int).getD ((a.2.2).toNat) 0) else a.1)≤(if (([0,127,2047,65535,1114111]:List Int).getD ((a.2.2).toNat) 0)<a.2.1 then (([0,127,2047,65535,1114111]:List Int).getD ((a.2.2).toNat) 0) else a.2.1)))&&(!((decide ((55296:Int)≤(if (([0,0,128,2048,65536]:List Int).getD ((a.2.2).toNat) 0) > a.1 then (([0,0,128,2048,65536]:List Int).getD ((a.2.2).toNat) 0) else a.1)))&&(decide ((if (([0,127,2047,65535,1114111]:List Int).getD ((a.2.2).toNat) 0)<a.2.1 then (([0,127,2047,65535,1114111]:List Int).getD ((a.2.2).toNat) 0) else a.2.1)≤57343))))),(((decide ((if (([0,0,128,2048,65536]:List Int).getD ((a.2.2).toNat) 0) > a.1 then (([0,0,128,2048,65536]:List Int).getD ((a.2.2).toNat) 0) else a.1)≤(if (([0,127,2047,65535,1114111]:List Int).getD ((a.2.2).toNat) 0)<a.2.1 then (([0,127,2047,65535,1114111]:List Int).getD ((a.2.2).toNat) 0) else a.2.1)))&&(!((decide ((55296:Int)≤(if (([0,0,128,2048,65536]:List Int).getD ((a.2.2).toNat) 0) > a.1 then (([0,0,128,2048,65536]:List Int).getD ((a.2.2).toNat) 0) else a.1)))&&(decide ((if (([0,127,2047,65535,1114111]:List Int).getD ((a.2.2).toNat) 0)<a.2.1 then (([0,127,2047,65535,1114111]:List Int).getD ((a.2.2).toNat) 0) else a.2.1)≤57343)))))&&(decide ((0:Int)=a.2.2))))))
theorem E2p {R:Bool×Bool} (hR:C7u=R):J7 prog 228 [.slice none 0 0] [] (.tuple #[bv R.1,bv R.2]):=by
 refine cD Tryz.func228 fun X hX hr hD=>?_
 rw[C7u]at hR
 refine k_ ?_
 refine ie ?_
 refine k_ ?_
 obtain ⟨a,b,hR⟩:=C3 hR
 refine zv Z (E2g b) ?_
 have:=D9i ;try rw [b] at this
 refine k_ ?_
 refine ie ?_
 refine k_ ?_
 refine ie ?_
 refine cK Z hR ?_ ?_<;>intro hR o n
 ·refine k_ ?_
  subst hR
  refine ie (A8 ?_)
  exact B6u hr hD
 refine k_ ?_
 refine cI 3 [0] (fun f=>[(7,pt f 0)]) (fun _=>[iv 0,iv 0,iv 128,iv 2048,iv 65536]) 304 fun f=>?_
 refine ie ?_
 refine k_ ?_
 refine cI 3 [0] (fun g=>[(8,pt g 0)]) (fun _=>[iv 0,iv 127,iv 2047,iv 65535,iv 1114111]) 304 fun g=>?_
 refine ie (sd 12 Z oki Z ?_)
 refine k_ ?_
 refine dd Z (A9f Tryz.underlying304 cE Z Z Z ((a.2.2).toNat) opx opx) (dd Z (Y2 (u:=iv ([0,0,128,2048,65536].getD _ 0)) (c:=H0) cE jJ Z Z 1 Z _ 0 Z (gd 0 oqd) Z) ?_)
 refine k_ ?_
 refine dd Z (A9f Tryz.underlying304 cE Z Z Z ((a.2.2).toNat) opx opx) (dd Z (Y2 (u:=iv ([0,127,2047,65535,1114111].getD _ 0)) (c:=H0) cE jJ Z Z 0 Z _ 0 Z (gd 0 oqd) Z) ?_)
 refine k_ ?_
 refine zia 8 1 33 41 (!((decide (55296≤(if ([0,0,128,2048,65536].getD ((a.2.2).toNat) 0) > a.1 then ([0,0,128,2048,65536].getD ((a.2.2).toNat) 0) else a.1)))&&(decide ((if ([0,127,2047,65535,1114111].getD ((a.2.2).toNat) 0)<a.2.1 then ([0,127,2047,65535,1114111].getD ((a.2.2).toNat) 0) else a.2.1)≤57343)))) (fun d=>?_) ?_
 ·have k:=bV d
  refine bP 3 36 Z ?_
  refine zia 3 2 36 39 (decide ((if ([0,127,2047,65535,1114111].getD ((a.2.2).toNat) 0)<a.2.1 then ([0,127,2047,65535,1114111].getD ((a.2.2).toNat) 0) else a.2.1)≤57343)) (fun h=>?_) ?_
  ·have m:=bV h
   refine bP 3 39 Z (A1 ?_)
   exact I1 2 36 _ h A7.nil bU Z Z Z Z Z
  refine bP 2 41 Z (A1 ?_)
  exact I1 4 33 _ d A7.nil bU Z Z Z Z Z
 refine ip' 1 0 [(9,bv ((decide ((if ([0,0,128,2048,65536].getD ((a.2.2).toNat) 0) > a.1 then ([0,0,128,2048,65536].getD ((a.2.2).toNat) 0) else a.1)≤(if ([0,127,2047,65535,1114111].getD ((a.2.2).toNat) 0)<a.2.1 then ([0,127,2047,65535,1114111].getD ((a.2.2).toNat) 0) else a.2.1)))&&(!((decide (55296≤(if ([0,0,128,2048,65536].getD ((a.2.2).toNat) 0) > a.1 then ([0,0,128,2048,65536].getD ((a.2.2).toNat) 0) else a.1)))&&(decide ((if ([0,127,2047,65535,1114111].getD ((a.2.2).toNat) 0)<a.2.1 then ([0,127,2047,65535,1114111].getD ((a.2.2).toNat) 0) else a.2.1)≤57343))))))] ?_
 refine kc_ ?_
 refine k_ ?_
 refine zia 5 2 44 49 (decide (0=a.2.2)) (fun e=>?_) ?_
 ·have i:=bV e
  refine bP 5 49 Z (A1 ?_)
  exact I1 2 44 _ e A7.nil bU Z Z Z Z Z
 refine cF 2 2 3 Z ?_
 subst hR
 refine k_ ?_
 exact B6u hr hD
def B8v:Bool :=
 (B5 C7u fun (a:Bool×Bool)=>true)
theorem D8w (hR:B8v=R):J7 prog 227 [.slice none 0 0] [] (bv R):=by
 refine cD Tryz.func227 fun X hX hr hD=>?_
 rw[B8v]at hR
 refine k_ ?_
 refine ie (k_ ?_)
 obtain ⟨b,a,hR⟩:=C3 hR
 refine zv Z (E2p a) ?_
 refine k_ ?_
 refine ie (k_ ?_)
 subst hR
 exact q8
def J1 (b:UInt8):Int×Int :=
 (bif (decide ((b.toNat:Int)<128)) then (1,(b.toNat:Int)) else (bif ((decide ((192:Int)≤(b.toNat:Int)))&&(decide ((b.toNat:Int)<224))) then (2,((b.toNat:Int) - 192)) else (bif ((decide ((224:Int)≤(b.toNat:Int)))&&(decide ((b.toNat:Int)<240))) then (3,((b.toNat:Int) - 224)) else (bif ((decide ((240:Int)≤(b.toNat:Int)))&&(decide ((b.toNat:Int)<248))) then (4,((b.toNat:Int) - 240)) else (0,0)))))
theorem C4o (b:UInt8):(0≤(J1 b).1∧(J1 b).1≤4)∧0≤(J1 b).2∧(J1 b).2≤127:=by
 have:=b.toNat_lt
 unfold J1
 grind
theorem D9m {b:UInt8} {R:Int×Int} (hR:J1 b=R):J7 prog 250 [.int .u8 (b.toNat:Int)] [] (.tuple #[iv R.1,iv R.2]):=by
 refine cD Tryz.func250 fun X hX hr hD=>?_
 unfold J1 at hR
 refine k_ ?_
 refine ie ?_
 refine k_ ?_
 refine ie ?_
 refine cK Z hR ?_ ?_<;>intro hR n l
 ·refine kc_ ?_
  refine bP 1 6 Z (ix Z (B4i Tryz.underlying3 oki Z Z (A9c b)) (cF 2 2 3 Z ?_))
  subst hR
  refine ie (A8 ?_)
  exact B6u hr hD
 refine k_ ?_
 refine zid 3 0 10 13 (decide ((b.toNat:Int)<224)) (fun i f=>?_) ?_
 ·refine bP 3 13 Z (A1 ?_)
  exact I1 2 10 _ i A7.nil bU Z Z Z Z Z
 refine ie ?_
 refine zja Z hR ?_ ?_<;>intro hR m k
 ·refine kc_ ?_
  refine bP 1 14 Z (ix Z (B4i Tryz.underlying3 oki Z Z (A9c b)) (ix Z L8 ?_))
  refine k_ ?_
  subst hR
  refine ie (A8 ?_)
  exact B6u hr hD
 refine k_ ?_
 refine zid 3 0 19 22 (decide ((b.toNat:Int)<240)) (fun a g=>?_) ?_
 ·refine bP 3 22 Z (A1 ?_)
  exact I1 2 19 _ a A7.nil bU Z Z Z Z Z
 refine ie ?_
 refine zja Z hR ?_ ?_<;>intro hR p j
 ·refine kc_ ?_
  refine bP 1 23 Z (ix Z (B4i Tryz.underlying3 oki Z Z (A9c b)) (ix Z L8 ?_))
  refine k_ ?_
  subst hR
  refine ie (A8 ?_)
  exact B6u hr hD
 refine k_ ?_
 refine zid 3 0 28 31 (decide ((b.toNat:Int)<248)) (fun d e=>?_) ?_
 ·refine bP 3 31 Z (A1 ?_)
  exact I1 2 28 _ d A7.nil bU Z Z Z Z Z
 refine ie ?_
 refine zja Z hR ?_ ?_<;>intro hR o h
 ·refine kc_ ?_
  refine bP 1 32 Z (ix Z (B4i Tryz.underlying3 oki Z Z (A9c b)) (ix Z L8 ?_))
  refine k_ ?_
  subst hR
  refine ie (A8 ?_)
  exact B6u hr hD
 refine k_ ?_
 subst hR
 refine ie (A8 ?_)
 exact B6u hr hD
def H2 (p:List UInt8) (a:Int×Int):Nat→Int→Int→Nat→(Int×Int×Int)
 | 0,_,_,_=>(0,0,0)
 | fu1+1,low,high,i=>(bif (decide ((i:Int)<a.1)) then (bif (decide ((i:Int)<(p.length:Int))) then (bif ((decide (((p.getD i 0).toNat:Int)<128))||(decide ((191:Int)<((p.getD i 0).toNat:Int)))) then (0,0,0) else H2 p a fu1 (i64.wrap ((i64.wrap (low * (64:Int)))+(((p.getD i 0).toNat:Int) - 128))) (i64.wrap ((i64.wrap ((i64.wrap ((i64.wrap (high * (64:Int)))+(63:Int))) - (63:Int)))+(((p.getD i 0).toNat:Int) - 128))) (i+1)) else H2 p a fu1 (i64.wrap (low * (64:Int))) (i64.wrap ((i64.wrap (high * (64:Int)))+(63:Int))) (i+1)) else (bif (decide (a.1<(p.length:Int))) then (0,0,0) else (low,high,a.1)))
def O4 (p:List UInt8):Int×Int×Int :=
 (bif (decide ((p.length:Int)=0)) then (0,0,0) else (B5 (J1 (p.getD 0 0)) fun (a:Int×Int)=>H2 p a ((a.1 - (1:Int)).toNat+1) a.2 a.2 1))
theorem B3f (p:List UInt8) (f:Int×Int) (a:0≤f.1∧f.1≤4):∀ (fu:Nat) (low high:Int) (i:Nat),0≤(H2 p f fu low high i).2.2∧(H2 p f fu low high i).2.2≤4∧((H2 p f fu low high i).2.2≠0→(p.length:Int)≤4)
 | 0,low,high,i=>by simp [H2]
 | fu+1,low,high,i=>by
  simp only [H2]
  cases (decide ((i:Int)<f.1)) with
  | true =>
   rw [cond_true]
   cases (decide ((i:Int)<(p.length:Int))) with
   | true =>
    rw [cond_true]
    generalize ((decide (((p.getD i 0).toNat:Int)<128))||(decide ((191:Int)<((p.getD i 0).toNat:Int))))=c
    cases c with
    | true=>simp
    | false=>rw [cond_false];exact B3f p f a fu _ _ _
   | false=>rw [cond_false];exact B3f p f a fu _ _ _
  | false =>
   grind
theorem B2y (p:List UInt8):0≤(O4 p).2.2∧(O4 p).2.2≤4∧((O4 p).2.2≠0→(p.length:Int)≤4):=by
 unfold O4
 cases (decide ((p.length:Int)=0)) with
 | true=>simp
 | false=>rw [cond_false];simp only [B5];exact B3f p _ (C4o _).1 _ _ _ _
theorem C0g {R:Int×Int×Int} (hR:O4 p=R) (s:p.length≤9223372036854775807:=by exact bW) (g:p.length≤pk:=by exact bW):J7 prog 229 [.slice e p.length pk] [sl cJ e p] (.tuple #[iv R.1,iv R.2.1,iv R.2.2]):=by
 refine cD Tryz.func229 fun X hX hr hD=>?_
 rw[O4]at hR
 refine k_ ?_
 refine ie ?_
 refine k_ ?_
 refine ie ?_
 refine cK Z hR ?_ ?_<;>intro hR t n
 ·refine k_ ?_
  subst hR
  refine ie (A8 ?_)
  exact cc (E6f Z A6 A6 A6) ()
 refine k_ ?_
 refine H8 0 Z opx fun y d=>(ix Z (E7 A6y Z Z d Z 0) (ix Z (B6 ty5 Z Z (F8 (sz:=1) d jJ 0 Z (gd 0 opx)) Z) ?_))
 obtain ⟨a,b,hR⟩:=C3 hR
 refine zv Z (D9m b) ?_
 have:=C4o (p.getD 0 0);try rw [b] at this
 refine k_ ?_
 refine ie ?_
 refine k_ ?_
 refine ie ?_
 refine k_ ?_
 refine ie (A9 ?_)
 refine A1y (un fun fu=>un fun low=>un fun high (i:Nat)=>((a.1 - i).toNat<fu∧H2 p a fu low high i=R,[(0,_),(5,iv _),(6,iv low),(7,iv high),(8,iv i)],_,_,fu)) (_,_,_,1) ⟨(Nat.lt_succ_self _),hR⟩ bU A7.refl ?_
 rintro ⟨fu,low,high,i⟩ ⟨q,hR⟩
 obtain ⟨fu1,rfl⟩:∃ m,fu=m+1:=⟨fu - 1,by omega⟩
 rw[H2]at hR
 refine k_ ?_
 refine ie ?_
 refine cK Z hR ?_ ?_<;>intro hR u l
 ·refine k_ ?_
  refine ix Z (J8.pure Z) ?_
  refine k_ ?_
  refine ix Z (J8.pure Z) (ix Z (J8.pure Z) ?_)
  refine k_ ?_
  refine ie ?_
  refine k_ ?_
  refine ie ?_
  refine cK Z hR ?_ ?_<;>intro hR w h
  ·refine k_ ?_
   refine ix Z (E7 A6y Z Z d Z i) (ix Z (B6 ty5 Z Z (F8 (sz:=1) d jJ 0 Z (gd 0 opx)) Z) ?_)
   refine k_ ?_
   refine zir 6 0 40 46 (decide (191<((p.getD i 0).toNat:Int))) (fun o f=>?_) ?_
   ·refine k_ ?_
    refine ix Z (E7 A6y Z Z d Z i) (ix Z (B6 ty5 Z Z (F8 (sz:=1) d jJ 0 Z (gd 0 opx)) Z) (bP 2 46 Z ?_))
    exact zai 6 40 _ o
   refine ie ?_
   refine zjo Z hR ?_ ?_<;>intro hR v k
   ·refine k_ ?_
    subst hR
    refine ie (A8 ?_)
    exact cc (E6f Z A6 A6 A6) ()
   refine k_ ?_
   refine ix Z (E7 A6y Z Z d Z i) (ix Z (B6 ty5 Z Z (F8 (sz:=1) d jJ 0 Z (gd 0 opx)) Z) (ix Z (B4i Tryz.underlying3 oki Z Z (A9c _)) (ix Z L8 ?_)))
   refine k_ ?_
   refine ie ?_
   refine k_ ?_
   refine ix Z (J8.pure Z) ?_
   refine k_ ?_
   refine ix Z (J8.pure Z) ?_
   refine k_ ?_
   refine ix Z (J8.pure Z) ?_
   refine k_ ?_
   refine A1 ?_
   refine k_ ?_
   refine ix Z B1 ?_
   refine k_ ?_
   refine A1 ?_
   exact z0 (_,_,_,_) ⟨opx,hR⟩
  refine k_ ?_
  refine ix Z B1 ?_
  refine k_ ?_
  refine A1 ?_
  exact z0 (_,_,_,_) ⟨opx,hR⟩
 refine k_ ?_
 refine ie ?_
 refine cK Z hR ?_ ?_<;>intro hR x r
 ·refine k_ ?_
  subst hR
  refine ie (A8 ?_)
  exact cc (E6f Z A6 A6 A6) ()
 refine k_ ?_
 subst hR
 refine ie (A8 ?_)
 exact cc (E6f Z A6 A6 A6) ()
def U4 (p:List UInt8):Bool×Bool :=
 (B5 (O4 p) fun (a:Int×Int×Int)=>(bif (decide (a.2.2=0)) then (false,false) else (((decide ((if (([0,0,128,2048,65536]:List Int).getD ((a.2.2).toNat) 0) > a.1 then (([0,0,128,2048,65536]:List Int).getD ((a.2.2).toNat) 0) else a.1)≤(if (([0,127,2047,65535,1114111]:List Int).getD ((a.2.2).toNat) 0)<a.2.1 then (([0,127,2047,65535,1114111]:List Int).getD ((a.2.2).toNat) 0) else a.2.1)))&&(!((decide ((55296:Int)≤(if (([0,0,128,2048,65536]:List Int).getD ((a.2.2).toNat) 0) > a.1 then (([0,0,128,2048,65536]:List Int).getD ((a.2.2).toNat) 0) else a.1)))&&(decide ((if (([0,127,2047,65535,1114111]:List Int).getD ((a.2.2).toNat) 0)<a.2.1 then (([0,127,2047,65535,1114111]:List Int).getD ((a.2.2).toNat) 0) else a.2.1)≤57343))))),(((decide ((if (([0,0,128,2048,65536]:List Int).getD ((a.2.2).toNat) 0) > a.1 then (([0,0,128,2048,65536]:List Int).getD ((a.2.2).toNat) 0) else a.1)≤(if (([0,127,2047,65535,1114111]:List Int).getD ((a.2.2).toNat) 0)<a.2.1 then (([0,127,2047,65535,1114111]:List Int).getD ((a.2.2).toNat) 0) else a.2.1)))&&(!((decide ((55296:Int)≤(if (([0,0,128,2048,65536]:List Int).getD ((a.2.2).toNat) 0) > a.1 then (([0,0,128,2048,65536]:List Int).getD ((a.2.2).toNat) 0) else a.1)))&&(decide ((if (([0,127,2047,65535,1114111]:List Int).getD ((a.2.2).toNat) 0)<a.2.1 then (([0,127,2047,65535,1114111]:List Int).getD ((a.2.2).toNat) 0) else a.2.1)≤57343)))))&&(decide ((p.length:Int)=a.2.2))))))
theorem D5e (p:List UInt8) (h:(U4 p).1=true):(p.length:Int)≤4:=by
 unfold U4 at h
 simp only [B5] at h
 by_cases e:(O4 p).2.2=0
 all_goals simp_all[B2y]
theorem B9w {R:Bool×Bool} (hR:U4 p=R) (r:p.length≤9223372036854775807:=by exact bW) (k:p.length≤pk:=by exact bW):J7 prog 228 [.slice h p.length pk] [sl cJ h p] (.tuple #[bv R.1,bv R.2]):=by
 refine cD Tryz.func228 fun X hX hr hD=>?_
 rw[U4]at hR
 refine k_ ?_
 refine ie ?_
 refine k_ ?_
 obtain ⟨a,b,hR⟩:=C3 hR
 refine zv Z (C0g b) ?_
 have:=B2y p;try rw [b] at this
 refine k_ ?_
 refine ie ?_
 refine k_ ?_
 refine ie ?_
 refine cK Z hR ?_ ?_<;>intro hR s q
 ·refine k_ ?_
  subst hR
  refine ie (A8 ?_)
  exact B6u hr hD
 refine k_ ?_
 refine cI 3 [0] (fun f=>[(7,pt f 0)]) (fun _=>[iv 0,iv 0,iv 128,iv 2048,iv 65536]) 304 fun f=>?_
 refine ie ?_
 refine k_ ?_
 refine cI 3 [0] (fun g=>[(8,pt g 0)]) (fun _=>[iv 0,iv 127,iv 2047,iv 65535,iv 1114111]) 304 fun g=>?_
 refine ie (sd 12 Z oki Z ?_)
 refine k_ ?_
 refine dd Z (A9f Tryz.underlying304 cE Z Z Z ((a.2.2).toNat) opx opx) (dd Z (Y2 (u:=iv ([0,0,128,2048,65536].getD _ 0)) (c:=H0) cE jJ Z Z 1 Z _ 0 Z (gd 0 oqd) Z) ?_)
 refine k_ ?_
 refine dd Z (A9f Tryz.underlying304 cE Z Z Z ((a.2.2).toNat) opx opx) (dd Z (Y2 (u:=iv ([0,127,2047,65535,1114111].getD _ 0)) (c:=H0) cE jJ Z Z 0 Z _ 0 Z (gd 0 oqd) Z) ?_)
 refine k_ ?_
 refine zia 8 1 33 41 (!((decide (55296≤(if ([0,0,128,2048,65536].getD ((a.2.2).toNat) 0) > a.1 then ([0,0,128,2048,65536].getD ((a.2.2).toNat) 0) else a.1)))&&(decide ((if ([0,127,2047,65535,1114111].getD ((a.2.2).toNat) 0)<a.2.1 then ([0,127,2047,65535,1114111].getD ((a.2.2).toNat) 0) else a.2.1)≤57343)))) (fun d=>?_) ?_
 ·have m:=bV d
  refine bP 3 36 Z ?_
  refine zia 3 2 36 39 (decide ((if ([0,127,2047,65535,1114111].getD ((a.2.2).toNat) 0)<a.2.1 then ([0,127,2047,65535,1114111].getD ((a.2.2).toNat) 0) else a.2.1)≤57343)) (fun i=>?_) ?_
  ·have o:=bV i
   refine bP 3 39 Z ?_
   exact zai 2 36 _ i
  refine bP 2 41 Z ?_
  exact zai 4 33 _ d
 refine ip' 1 0 [(9,bv ((decide ((if ([0,0,128,2048,65536].getD ((a.2.2).toNat) 0) > a.1 then ([0,0,128,2048,65536].getD ((a.2.2).toNat) 0) else a.1)≤(if ([0,127,2047,65535,1114111].getD ((a.2.2).toNat) 0)<a.2.1 then ([0,127,2047,65535,1114111].getD ((a.2.2).toNat) 0) else a.2.1)))&&(!((decide (55296≤(if ([0,0,128,2048,65536].getD ((a.2.2).toNat) 0) > a.1 then ([0,0,128,2048,65536].getD ((a.2.2).toNat) 0) else a.1)))&&(decide ((if ([0,127,2047,65535,1114111].getD ((a.2.2).toNat) 0)<a.2.1 then ([0,127,2047,65535,1114111].getD ((a.2.2).toNat) 0) else a.2.1)≤57343))))))] ?_
 refine kc_ ?_
 refine k_ ?_
 refine zia 5 2 44 49 (decide (p.length=a.2.2)) (fun e=>?_) ?_
 ·have l:=bV e
  refine bP 5 49 Z ?_
  exact zai 2 44 _ e
 refine cF 2 2 3 Z ?_
 subst hR
 refine k_ ?_
 exact B6u hr hD
def A2y (b:UInt8):List UInt8×List Int :=
 (B5 (U4 (([]:List UInt8)++([b]:List UInt8))) fun (a:Bool×Bool)=>(bif a.2 then (B5 (O4 (([]:List UInt8)++([b]:List UInt8))) fun (c:Int×Int×Int)=>(([]:List UInt8),([c.1]:List Int))) else (bif a.1 then ((([]:List UInt8)++([b]:List UInt8)),([]:List Int)) else (([]:List UInt8),([65533]:List Int)))))
def A9y (b:UInt8):List UInt8×List Int :=
 (bif (!B8v) then A2y b else A2y b)
theorem C8h (b:UInt8):(A2y b).1.length≤4∧(A2y b).2.length≤2:=by grind[A2y,B5]
theorem C4h (b:UInt8):(A9y b).1.length≤4∧(A9y b).2.length≤2:=by simp[A9y,C8h]
theorem ore {p:Prop} (h:p:=by first|omega|(simp +zetaDelta only [List.length_cons,List.length_nil,List.length_append,List.length_take,List.length_drop,D6];omega)):p:=h
theorem E2m {b:UInt8} {R:List UInt8×List Int} (hR:A9y b=R) (o:([]:List UInt8).length≤4:=by exact bW):cM prog 195 [.slice none 0 0,.int .u8 (b.toNat:Int)] [] [] ({t:kQ×Nat // R.1.length≤t.2∧R.1.length≤9223372036854775807}×{t:kQ×Nat // R.2.length≤t.2∧R.2.length≤9223372036854775807}) (fun x=>.tuple #[.slice x.1.1.1 R.1.length x.1.1.2,.slice x.2.1.1 R.2.length x.2.1.2]) (fun x=>[]) (fun x=>[sl cJ x.1.1.1 R.1,sl H0 x.2.1.1 R.2]):=by
 refine cD Tryz.func195 fun X hX hr hD=>?_
 rw[A9y]at hR
 refine bS Z (pp0 2 Z (ie (A7i (fun (_:Unit)=>(A2y b=R,[(0,.slice none 0 0),(1,.int .u8 b.toNat)],[],[])) ?_ ?_)))
 ·refine k_ ?_
  refine zv Z (D8w Z) ?_
  refine bP 1 16 Z (ie ?_)
  refine zjb Z hR ?_ ?_<;>intro hR v
  ·refine k_ ?_
   refine A1 ?_
   exact S6 () hR bU A7.nil
  refine A4 ?_
  exact S6 () hR bU A7.nil
 intro _
 rintro hR
 rw[A2y]at hR
 refine k_ ?_
 refine it Z (B6s A6y Z Z) fun m=>?_
 have:([]:List UInt8).length=0:=rfl
 refine k_ ?_
 refine ix Z (E8q C2m Z Z Z Z Z Z (by omega)) ?_
 refine k_ ?_
 refine it Z (B0 (c:=cJ) (xs:=[b]) A6y Z Z Z oki) fun s=>?_
 have:([b]:List UInt8).length=1:=rfl
 refine it Z (Q7 (f:=cJ) (r:=(⟨some m,0,[]⟩:VR)) (xs:=jx) (ys:=([b]:List UInt8)) (pre:=[]) (post:=[]) C2m jJ jJ Z Z Z Z Z Z Z Z Z (A5 0 Z) (show bT 1 0 _ from ⟨rfl,Nat.zero_le _,Nat.zero_le _⟩) ore ore) fun ⟨j,g⟩=>?_
 refine k_ ?_
 refine ie ?_
 refine k_ ?_
 have:=bT.cap g
 have:=bT.le g
 refine P2 _ _ g omm ?_
 obtain ⟨h,e,hR⟩:=C3 hR
 refine zv Z (B9w e) ?_
 refine k_ ?_
 refine ie ?_
 refine k_ ?_
 refine ie ?_
 refine zjb Z hR ?_ ?_<;>intro hR u
 ·refine k_ ?_
  obtain ⟨d,a,hR⟩:=C3 hR
  refine zv Z (C0g a) ?_
  have:=B2y (([]:List UInt8)++([b]:List UInt8));try rw [a] at this
  refine k_ ?_
  refine ie ?_
  refine k_ ?_
  refine it Z (B0 (c:=H0) (xs:=[d.1]) I0 Z Z Z oki) fun l=>?_
  refine k_ ?_
  subst hR
  refine ie (A8 ?_)
  exact cy ((zq _ 0),(zq _ 1))
 refine k_ ?_
 refine ie ?_
 refine zjb Z hR ?_ ?_<;>intro hR p
 ·refine k_ ?_
  subst hR
  refine ie (A8 ?_)
  exact cy ((zq _ j.k),(zq _ 0))
 refine k_ ?_
 refine it Z (B0 (c:=H0) (xs:=[65533]) I0 Z Z Z oki) fun n=>?_
 refine k_ ?_
 subst hR
 refine ie (A8 ?_)
 exact cy ((zq _ 0),(zq _ 1))
def A2z (p:List UInt8):Bool :=
 (B5 (U4 p) fun (a:Bool×Bool)=>((decide ((p.length:Int)=0))||(a.1&&(!a.2))))
theorem C4n {c:kQ} (hR:A2z p=R) (i:p.length≤9223372036854775807:=by exact bW) (f:p.length≤pk:=by exact bW):J7 prog 227 [.slice c p.length pk] [sl cJ c p] (bv R):=by
 refine cD Tryz.func227 fun X hX hr hD=>?_
 rw[A2z]at hR
 refine k_ ?_
 refine ie (k_ ?_)
 obtain ⟨a,b,hR⟩:=C3 hR
 refine zv Z (B9w b) ?_
 refine cF 5 3 4 Z (ie (bS Z (bP 4 13 Z (zir 6 1 13 19 (a.1&&(!a.2)) (fun g d=>?_) ?_))))
 ·refine bP 2 15 Z (zia 3 1 15 18 (!a.2) (fun e=>?_) ?_)
  ·exact bP 3 18 Z (zai 2 15 _ e)
  exact bP 1 19 Z (zai 4 13 _ g)
 refine bP 1 2 Z ?_
 subst hR
 refine k_ ?_
 exact F7 hr hD
def A2f (b:UInt8) (a:List UInt8):List UInt8×List Int :=
 (B5 (U4 ((([]:List UInt8)++a)++([b]:List UInt8))) fun (c:Bool×Bool)=>(bif c.2 then (B5 (O4 ((([]:List UInt8)++a)++([b]:List UInt8))) fun (e:Int×Int×Int)=>(([]:List UInt8),([e.1]:List Int))) else (bif c.1 then (((([]:List UInt8)++a)++([b]:List UInt8)),([]:List Int)) else (bif (decide ((a.length:Int)=0)) then (([]:List UInt8),([65533]:List Int)) else (B5 (A9y b) fun (d:List UInt8×List Int)=>(d.1,(([65533]:List Int)++d.2)))))))
def A4l (pending:List UInt8) (b:UInt8):List UInt8×List Int :=
 (bif (!(A2z pending)) then A2f b ([]:List UInt8) else A2f b pending)
theorem C7t (b:UInt8) (p:List UInt8):(A2f b p).1.length≤4∧(A2f b p).2.length≤3:=by
 unfold A2f
 simp only [B5]
 have a:=C4h b
 cases h2:(U4 ((([]:List UInt8)++p)++([b]:List UInt8))).2 with
 | true=>simp
 | false =>
  rw [cond_false]
  cases h1:(U4 ((([]:List UInt8)++p)++([b]:List UInt8))).1 with
  | true =>
   have:=D5e _ h1
   grind
  | false =>
   grind
theorem C2k (p:List UInt8) (b:UInt8):(A4l p b).1.length≤4∧(A4l p b).2.length≤3:=by
 unfold A4l
 cases (!(A2z p))<;>simp only [cond_true,cond_false]<;>simp[C7t]
theorem osf {p:Prop} (h:p:=by first|omega|(simp +zetaDelta only [List.length_take,List.length_drop,List.length_append,List.length_cons,List.length_nil,List.length_set,List.length_map,D6];omega)|decide):p:=h
theorem D8u {b:UInt8} {R:List UInt8×List Int} (hR:A4l pending b=R) (v:pending.length≤9223372036854775807:=by exact bW) (u:pending.length≤pendingk:=by exact bW) (hp:pending.length≤4:=by exact bW):cM prog 195 [.slice pendingq pending.length pendingk,.int .u8 (b.toNat:Int)] [] [sl cJ pendingq pending] ({t:kQ×Nat // R.1.length≤t.2∧R.1.length≤9223372036854775807}×{t:kQ×Nat // R.2.length≤t.2∧R.2.length≤9223372036854775807}) (fun x=>.tuple #[.slice x.1.1.1 R.1.length x.1.1.2,.slice x.2.1.1 R.2.length x.2.1.2]) (fun x=>[]) (fun x=>[sl cJ x.1.1.1 R.1,sl H0 x.2.1.1 R.2]):=by
 refine cD Tryz.func195 fun X hX hr hD=>?_
 rw[A4l]at hR
 refine bS Z (pp0 2 Z (ie (A7i (un fun a=>un fun g e=>(A2f b a=R∧a.length≤e∧a.length≤9223372036854775807∧a.length≤4,[(0,.slice g a.length e),(1,.int .u8 b.toNat)],[],[sl cJ pendingq pending,sl cJ g a])) ?_ ?_)))
 ·refine k_ ?_
  refine zv Z (C4n Z) ?_
  refine k_ ?_
  refine ie ?_
  refine zjb Z hR ?_ ?_<;>intro hR h1
  ·refine k_ ?_
   refine A1 ?_
   exact S6 (_,_,0) ⟨hR,osf,osf,osj⟩ bU c9
  refine A4 ?_
  exact S6 (pending,pendingq,pendingk) ⟨hR,osf,osf,osj⟩ bU c9
 rintro ⟨a,g,e⟩
 rintro ⟨hR,o,p,hj⟩
 rw[A2f]at hR
 refine k_ ?_
 refine it Z (B6s A6y Z Z) fun b2=>?_
 have:([]:List UInt8).length=0:=rfl
 refine k_ ?_
 refine it Z (Y6 (f:=cJ) (r:=(⟨some b2,0,[]⟩:VR)) (xs:=jx) (ys:=a) (pre:=[]) (post:=[]) C2m jJ jJ Z Z Z Z Z Z Z Z (A5 1 Z) (show bT 1 0 _ from ⟨rfl,Nat.zero_le _,Nat.zero_le _⟩) ore ore) fun ⟨r3,s⟩=>?_
 have:=bT.le s
 have:=bT.cap s
 refine k_ ?_
 refine it Z (B0 (c:=cJ) (xs:=[b]) A6y Z Z Z oki) fun b5=>?_
 have:([b]:List UInt8).length=1:=rfl
 refine it Z (Q7 (f:=cJ) (r:=r3) (xs:=(jx++a)) (ys:=([b]:List UInt8)) (pre:=[]) (post:=[]) C2m jJ jJ Z Z Z Z Z Z Z Z Z (A5 0 Z) s ore ore) fun ⟨r6,m⟩=>?_
 have:=bT.le m
 have:=bT.cap m
 refine k_ ?_
 refine ie ?_
 refine k_ ?_
 have:=bT.cap m
 have:=bT.le m
 refine P2 _ _ m omm ?_
 obtain ⟨n,j,hR⟩:=C3 hR
 refine zv Z (B9w j) ?_
 refine k_ ?_
 refine ie ?_
 refine k_ ?_
 refine ie ?_
 refine zjb Z hR ?_ ?_<;>intro hR h8
 ·refine k_ ?_
  obtain ⟨h,d,hR⟩:=C3 hR
  refine zv Z (C0g d) ?_
  have:=B2y ((([]:List UInt8)++a)++([b]:List UInt8));try rw [d] at this
  refine k_ ?_
  refine ie ?_
  refine k_ ?_
  refine it Z (B0 (c:=H0) (xs:=[h.1]) I0 Z Z Z oki) fun b9=>?_
  have:([h.1]:List Int).length=1:=rfl
  refine k_ ?_
  subst hR
  refine ie (A8 ?_)
  exact cy ((zq _ 0),(zq _ 1))
 refine k_ ?_
 refine ie ?_
 refine zjb Z hR ?_ ?_<;>intro hR ad
 ·refine k_ ?_
  subst hR
  refine ie (A8 ?_)
  exact cy ((zq _ r6.k),(zq _ 0))
 refine k_ ?_
 refine ie ?_
 refine cK Z hR ?_ ?_<;>intro hR ah a8
 ·refine k_ ?_
  refine it Z (B0 (c:=H0) (xs:=[65533]) I0 Z Z Z oki) fun a6=>?_
  have:([65533]:List Int).length=1:=rfl
  refine k_ ?_
  subst hR
  refine ie (A8 ?_)
  exact cy ((zq _ 0),(zq _ 1))
 refine k_ ?_
 obtain ⟨l,i,hR⟩:=C3 hR
 refine zc Z (E2m i) fun ⟨⟨⟨a4,a2⟩,y⟩,⟨⟨af,aj⟩,z⟩⟩=>?_
 obtain ⟨a9,a7⟩:=y
 obtain ⟨aa,ab⟩:=z
 have:=C4h b;try rw [i] at this
 refine k_ ?_
 refine ie ?_
 refine k_ ?_
 refine it Z (B0 (c:=H0) (xs:=[65533]) I0 Z Z Z oki) fun ae=>?_
 have:([65533]:List Int).length=1:=rfl
 refine k_ ?_
 refine it Z (C3h (f:=H0) (xs:=([65533]:List Int)) (ys:=l.2) D5t jJ jJ Z Z Z Z Z Z opx opx odv (A5 0 Z) (A5 2 Z) ore ore) fun ⟨⟨a5,a0⟩,a1⟩=>?_
 refine k_ ?_
 subst hR
 refine ie (A8 ?_)
 exact cy (_,(zq _ _))
def B1z (pending:List UInt8):List Int :=
 (bif ((decide ((0:Int)<(pending.length:Int)))&&(A2z pending)) then ([65533]:List Int) else ([]:List Int))
theorem C2r (p:List UInt8):(B1z p).length≤1:=by grind[B1z]
theorem D9q {R:List Int} (hR:B1z pending=R) (b:pending.length≤9223372036854775807:=by exact bW) (a:pending.length≤pendingk:=by exact bW):cM prog 196 [.slice pendingq pending.length pendingk] [] [sl cJ pendingq pending] ({t:kQ×Nat // R.length≤t.2∧R.length≤9223372036854775807}) (fun x=>.slice x.1.1 R.length x.1.2) (fun x=>[]) (fun x=>[sl H0 x.1.1 R]):=by
 refine cD Tryz.func196 fun X hX hr hD=>?_
 rw[B1z]at hR
 refine k_ ?_
 refine ie ?_
 refine k_ ?_
 refine zid 3 0 6 9 (A2z pending) (fun g f=>?_) ?_
 ·refine k_ ?_
  refine zv Z (C4n Z) ?_
  refine bP 1 9 Z ?_
  exact zai 4 6 9 g
 refine ie ?_
 refine zjb Z hR ?_ ?_<;>intro hR e
 ·have d:=bV e
  refine k_ ?_
  refine it Z (B0 (c:=H0) (xs:=[65533]) I0 Z Z Z oki) fun h=>?_
  have:([65533]:List Int).length=1:=rfl
  refine k_ ?_
  subst hR
  refine ie (A8 ?_)
  exact ci (zq _ 1)
 refine k_ ?_
 subst hR
 refine ie (A8 ?_)
 exact ci (zq _ 0)
def Z3:List UInt8→List Int→List UInt8→Nat→List Int
 | [],out,pending,i=>(B5 (B1z pending) fun (b:List Int)=>(out++b))
 | hd_l0::tl_l0,out,pending,i=>(B5 (A4l pending hd_l0) fun (a:List UInt8×List Int)=>Z3 tl_l0 (out++a.2) a.1 (i+1))
def A7l (s:List UInt8):List Int :=
 Z3 s ([]:List Int) ([]:List UInt8) 0
theorem B7b:∀ (xs:List UInt8) (out:List Int) (p:List UInt8) (i:Nat),(Z3 xs out p i).length≤out.length+3 * xs.length+1
 | [],out,p,i=>by
  have:=C2r p
  simp only [Z3,B5,List.length_append,List.length_nil];omega
 | x::xs,out,p,i=>by
  have:=C2k p x
  have:=B7b xs (out++(A4l p x).2) (A4l p x).1 (i+1)
  simp only [Z3,B5,List.length_append,List.length_cons] at *;omega
theorem D3m (s:List UInt8):(A7l s).length≤3 * s.length+1:=by grind[B7b,A7l]
theorem D9b {R:List Int} (hR:A7l s=R) (hs:s.length≤1000000:=by exact bW):cM prog 127 [sv s] [] [] ({r:VR // bT 1 R.length r}) (fun x=>.slice (va x.1.q) R.length x.1.k) (fun x=>((vo H0 3 x.1 R)++([]))) (fun x=>[]):=by
 refine cD Tryz.func127 fun X hX hr hD=>?_
 rw[A7l]at hR
 refine k_ ?_
 refine ie (k_ ?_)
 refine ie (k_ ?_)
 refine ie (k_ ?_)
 refine ie (A9 (A1y (un fun (out:List Int)=>un fun (c:VR)=>un fun (pending:List UInt8)=>un fun (pendingq:kQ)=>un fun (pendingk:Nat) (i:Nat)=>(i≤s.length∧Z3 (s.drop i) out pending i=R∧bT 1 out.length c∧pending.length≤pendingk∧pending.length≤9223372036854775807∧pending.length≤4∧out.length≤3 * i,[(0,sv s),(3,.slice (va c.q) out.length c.k),(4,.slice pendingq pending.length pendingk),(5,iv (i:Int))],((vo H0 3 c out)++([])),[sl cJ pendingq pending],s.length - i)) (([]:List Int),VR.nil,jx,none,0,0) ⟨opx,hR,bT.nil,osf,osf,oom,oom⟩ bU c9 ?_))
 rintro ⟨out,c,pending,pendingq,pendingk,i⟩ ⟨ac,hR,g,n,o,a7,a8⟩
 have:=bT.le g
 refine kc_ ?_
 refine ip' 4 0 [(11,bv (decide ((i:Int)<(s.length:Int))))] ?_
 refine ie (G3 Z (fun v=>?_) (fun v=>?_))
 ·have p:=bV v
  rw [A1a 0 (show i<s.length by omega)] at hR;rw[Z3]at hR
  refine k_ ?_
  refine ix Z (E7q (T:=9) Tryz.underlying9 Z Z Z i Z opx) ?_
  obtain ⟨a,d,hR⟩:=C3 hR
  refine zc Z (D8u d) fun ⟨⟨⟨z,k4⟩,y⟩,⟨⟨q8,k9⟩,t⟩⟩=>?_
  obtain ⟨am,ak⟩:=y
  obtain ⟨a4,a3⟩:=t
  have:=C2k pending (s.getD i 0);try rw [d] at this
  refine ip' 5 0 [(6,.slice z a.1.length k4),(7,.slice q8 a.2.length k9)] ?_
  refine k_ ?_
  refine ie (k_ ?_)
  refine it Z (Y6 (f:=H0) (r:=c) (xs:=out) (ys:=a.2) (pre:=[]) (post:=[]) D5t jJ jJ Z Z Z Z Z Z Z Z (A5 1 Z) g ore ore) fun ⟨l,j⟩=>?_
  have:=@List.length_append _ out a.2
  have:=bT.lc j
  refine k_ ?_
  refine A1 (k_ ?_)
  refine ix Z B1 (k_ ?_)
  exact A1 (z0 (z1:=(out,c,pending,pendingq,pendingk,i)) (out++a.2,l,a.1,z,k4,i+1) ⟨opx,hR,j,osf,osf,opx,odi⟩)
 have p:=bV v
 rw [A1b p] at hR;rw[Z3]at hR
 refine k_ ?_
 obtain ⟨b,e,hR⟩:=C3 hR
 refine zc Z (D9q e) fun ⟨⟨a9,ah⟩,u⟩=>?_
 obtain ⟨a1,a6⟩:=u
 have:=C2r pending;try rw [e] at this
 refine it Z (Y6 (f:=H0) (r:=c) (xs:=out) (ys:=b) (pre:=[]) (post:=[]) D5t jJ jJ Z Z Z Z Z Z Z Z (A5 0 Z) g ore ore) fun ⟨m,h⟩=>?_
 have:=@List.length_append _ out b
 have:=bT.lc h
 refine k_ ?_
 subst hR
 exact ie (A8 (ci ⟨m,h⟩))
def A6m:List Int→List UInt8→Nat→List UInt8
 | [],s,i=>s
 | hd_l0::tl_l0,s,i=>(B5 (B0j hd_l0) fun (a:List UInt8)=>A6m tl_l0 (s++a) (i+1))
def B3v (a:List Int):List UInt8 :=
 A6m a ([]:List UInt8) 0
theorem E4b {a:List Int} {d:kQ} {codesk:Nat} {R:List UInt8} (hR:B3v a=R) (j:a.length≤9223372036854775807:=by exact bW) (g:a.length≤codesk:=by exact bW) (n:a.length≤1000000:=by exact bW):J7 prog 128 [.slice d a.length codesk] [sl H0 d a] (sv R):=by
 refine cD Tryz.func128 fun X hX hr hD=>?_
 rw[B3v]at hR
 refine k_ ?_
 refine ie (k_ ?_)
 refine ie (k_ ?_)
 refine ie (A9 (A1y (un fun s i=>(i≤a.length∧A6m (a.drop i) s i=R∧s.length≤4 * i,[(0,_),(3,sv s),(4,iv i)],_,_,a.length - i)) (_,0) ⟨opx,hR,oom⟩ bU A7.refl ?_))
 rintro ⟨s,i⟩ ⟨o,hR,m⟩
 refine A3 (bS Z (bP 4 8 Z (ie (G3 Z (fun k=>?_) (fun k=>?_)))))
 ·have h:=bV k
  rw [A1a 0 (show i<a.length by omega)] at hR;rw[A6m]at hR
  refine k_ ?_
  refine H8 0 Z opx fun p f=>(ix Z (E7 I0 Z Z f Z i) (ix Z (B6 cE Z Z (F8 (sz:=1) f jJ 0 Z (gd 0 opx)) Z) ?_))
  obtain ⟨e,b,hR⟩:=C3 hR
  refine zv Z (D2n b) ?_
  have:=C0b (a.getD i 0);try rw [b] at this
  refine ix Z (zst Z Z Z) ?_
  have:=@List.length_append _ s e
  refine k_ ?_
  refine A1 (k_ ?_)
  refine ix Z B1 (k_ ?_)
  exact A1 (z0 (_,_) ⟨opx,hR,odi⟩)
 have h:=bV k
 rw [A1b h] at hR;rw[A6m]at hR
 refine k_ ?_
 subst hR
 exact q8
def A7k (s:List UInt8):Nat→List Int→Nat→Bool
 | 0,_,_=>false
 | fu1+1,l,i=>(bif (decide ((i:Int)<(l.length:Int))) then (bif ((decide ((l.getD i 0)<32))||((decide ((127:Int)≤(l.getD i 0)))&&(decide ((l.getD i 0)≤159)))) then false else A7k s fu1 l (i+1)) else (B5 (B3v l) fun (a:List UInt8)=>(decide (a=s))))
def A2m (s:List UInt8):Bool :=
 (bif (decide ((510:Int)<(s.length:Int))) then false else (B5 (A7l s) fun (a:List Int)=>A7k s ((a.length - 0)+1) a 0))
theorem D7a (s:List UInt8) (h:A2m s=true):s.length≤510:=by grind[A2m]
theorem D8v (hR:A2m s=R):J7 prog 89 [sv s] [] (bv R):=by
 refine zco Tryz.func89 [(0,sv s)] fun X hX hr hD=>?_
 rw[A2m]at hR
 refine k_ ?_
 refine ie ?_
 refine kc_ ?_
 refine ip' 3 0 [(7,bv (decide ((510:Int)<(s.length:Int))))] ?_
 refine ie ?_
 refine cK Z hR ?_ ?_<;>intro hR h1 a2
 ·refine k_ ?_
  subst hR
  exact q8
 refine k_ ?_
 obtain ⟨a,b,hR⟩:=C3 hR
 refine it Z (I4 (L2:=[]) (D9b (s:=s) b oyd) Z Z Z Z Z A7.nil jK (fun ⟨j,g⟩=>((vo H0 3 j a)++([]))) (fun _=>by first|rfl|simp only [List.append_nil,List.cons_append,List.nil_append,List.append_assoc])) fun ⟨j,g⟩=>?_
 have:=bT.lc g
 have:=D3m s;try rw [b] at this
 refine k_ ?_
 refine ie ?_
 refine k_ ?_
 refine ie (A9 ?_)
 refine A1y (un fun (fu:Nat)=>un fun (l:List Int)=>un fun (lr:VR) (i:Nat)=>((l.length - i)<fu∧A7k s fu l i=R∧bT 1 l.length lr∧l.length≤10000,[(0,sv s),(3,.slice (va lr.q) l.length lr.k),(4,iv (i:Int))],((vo H0 3 lr l)++([])),[],fu)) ((a.length - 0)+1,a,j,0) ⟨(Nat.lt_succ_self _),hR,g,opx⟩ (mc [vo H0 3 j a] [true] Z oxs) A7.nil ?_
 rintro ⟨fu,l,lr,i⟩ ⟨a3,hR,d,a0⟩
 have:=bT.le d
 obtain ⟨fu1,rfl⟩:∃ m,fu=m+1:=⟨fu - 1,by omega⟩
 rw[A7k]at hR
 refine k_ ?_
 refine ie ?_
 refine cK Z hR ?_ ?_<;>intro hR h5 a1
 ·refine k_ ?_
  obtain ⟨b6,w⟩:=bT.some d opx
  obtain ⟨q8,o,f⟩:=lr
  let A:=[vo H0 3 (⟨some b6,o,f⟩:VR) l]
  obtain rfl:q8=some b6:=w
  refine ix Z (Z5 I0 Z Z Z i Z opx) (ix Z (Y2 (u:=iv (l.getD i 0)) (c:=H0) (sz:=1) cE jJ Z Z 0 Z i 0 Z (gd 0 opx) Z) ?_)
  refine k_ ?_
  refine zir 13 0 21 34 ((decide ((127:Int)≤(l.getD i 0)))&&(decide ((l.getD i 0)≤159))) (fun v y=>?_) ?_
  ·refine k_ ?_
   refine ix Z (Z5 I0 Z Z Z i Z opx) (ix Z (Y2 (u:=iv (l.getD i 0)) (c:=H0) (sz:=1) cE jJ Z Z 0 Z i 0 Z (gd 0 opx) Z) (bP 2 27 Z ?_))
   refine zid 6 1 27 33 (decide ((l.getD i 0)≤159)) (fun x z=>?_) ?_
   ·refine k_ ?_
    exact ix Z (Z5 I0 Z Z Z i Z opx) (ix Z (Y2 (u:=iv (l.getD i 0)) (c:=H0) (sz:=1) cE jJ Z Z 0 Z i 0 Z (gd 0 opx) Z) (bP 2 33 Z (A1 (I1 6 27 33 x A7.nil (mc A [true] Z oxs) Z Z Z Z Z))))
   refine k_ ?_
   exact I1 8 21 34 v A7.nil (mc A [true] Z oxs) Z Z Z Z Z
  refine ie ?_
  refine zjb Z hR ?_ ?_<;>intro hR n
  ·have p:=bV n
   refine k_ ?_
   subst hR
   exact q8
  have p:=bV n
  refine k_ ?_
  refine ix Z B1 ?_
  refine k_ ?_
  refine A1 ?_
  exact Z0 (z1:=(fu1+1,l,(⟨some b6,o,f⟩:VR),i)) (fu1,l,(⟨some b6,o,f⟩:VR),i+1) ⟨opx,hR,d,opx⟩ (Nat.lt_succ_self _) (mc A [true] Z oxs) A7.nil
 refine k_ ?_
 have:=bT.lc d
 refine P2 [] [] (T:=3) (c:=H0) (r:=lr) (xs:=l) d omm ?_
 obtain ⟨h,e,hR⟩:=C3 hR
 refine zv Z (E4b e osf osf oyd) ?_
 refine bP 1 37 Z (ix Z (D4r Z Z Z) (bP 1 2 Z ?_))
 subst hR
 exact q8
def B8q (d:Int) (c:Int) (b:Col) (a:List UInt8):List UInt8×Int :=
 (bif ((decide ((⟨44,d,c,b,a⟩:Act)={ZZ with kind:=44,text:=a}))&&(A2m a)) then ((([50,59]:List UInt8)++a),0) else (([]:List UInt8),2))
theorem D9f {e f:Int} {d:Col} {c:List UInt8} {R:List UInt8×Int} (hR:B8q e f d c=R):J7 prog 57 [ag (A2 (⟨44,e,f,d,c⟩:Act))] [] (.tuple #[sv R.1,iv R.2]):=by
 refine cD Tryz.func57 fun X hX hr hD=>?_
 rw[B8q]at hR
 refine k_ ?_
 refine cI 3 [] (fun o=>[(1,pt o 0)]) (fun _=>(A2 ⟨44,e,f,d,c⟩)) 51 fun o=>?_
 refine ie ?_
 refine k_ ?_
 refine bY 4 7 [0,0] [(9,ag (A2 ⟨44,e,f,d,c⟩)),(12,ag (A2 ({ZZ with kind:=44,text:=c})))] ?_
 refine ix Z (A3m D9w Z Z Z) ?_
 refine k_ ?_
 refine zid 4 1 14 18 (A2m c) (fun x t=>?_) ?_
 ·refine cB 2 [0] 16 Z ?_
  refine zv Z (D8v Z) ?_
  refine k_ ?_
  exact I1 4 14 _ x A7.nil bU Z Z Z Z Z
 refine k_ ?_
 refine zjb Z hR ?_ ?_<;>intro hR i
 ·have l:=bV i
  have s:=D7a c (by have q:=i;rw [Bool.and_eq_true] at q;exact q.2)
  refine k_ ?_
  refine ix Z (zst Z Z Z) ?_
  refine k_ ?_
  subst hR
  refine ie (A8 ?_)
  exact B6u hr hD
 refine k_ ?_
 refine bY 6 18 [0,0,0] [(23,ag (A2 ⟨44,e,f,d,c⟩)),(28,ag (A2 ({ZZ with kind:=45,n:=e,color:=d})))] ?_
 refine ix Z (A3m D9w Z Z Z) (bP 1 30 Z ?_)
 refine zid 4 12 30 34 (decide (0≤e)) (fun r v=>?_) ?_
 ·refine cB 4 [0] 34 Z (A1 ?_)
  exact I1 2 30 _ r A7.nil bU Z Z Z Z Z
 refine bP 1 35 Z ?_
 refine zia 4 7 35 39 (decide (e≤255)) (fun p=>?_) ?_
 ·have y:=bV p
  refine cB 4 [0] 39 Z (A1 ?_)
  exact I1 2 35 _ p A7.nil bU Z Z Z Z Z
 refine bP 1 40 Z ?_
 refine zia 5 1 40 45 (decide (d.kind=2)) (fun m=>?_) ?_
 ·have u:=bV m
  refine cB 5 [0] 45 Z (A1 ?_)
  exact I1 2 40 _ m A7.nil bU Z Z Z Z Z
 refine bP 1 22 Z (ie (G3 Z (fun h=>?_) (fun h=>?_)))
 ·have j:=bV h
  exfalso;simp [ZZ] at h
 refine kc_ ?_
 refine bY 4 8 [0,0] [(62,ag (A2 ⟨44,e,f,d,c⟩)),(65,ag (A2 ({ZZ with kind:=46,text:=c})))] ?_
 refine ix Z (A3m D9w Z Z Z) (bP 1 67 Z ?_)
 refine zid 5 1 67 72 (decide ((c.length:Int)≤378)) (fun z w=>?_) ?_
 ·refine cB 5 [0] 72 Z (A1 ?_)
  exact I1 2 67 _ z A7.nil bU Z Z Z Z Z
 refine bP 1 61 Z (ie (G3 Z (fun g=>?_) (fun g=>?_)))
 ·have k:=bV g
  exfalso;simp [ZZ] at g
 refine kc_ ?_
 refine k_ ?_
 subst hR
 refine ie (A8 ?_)
 exact B6u hr hD
def B3d (e:Int) (d:Int) (b:Col) (c:List UInt8):Bool :=
 (B5 (B8q e d b c) fun (a:List UInt8×Int)=>(decide (a.2=0)))
theorem D5w {f e:Int} {a:Col} {c:List UInt8} (hR:B3d f e a c=R):J7 prog 31 [ag (A2 (⟨44,f,e,a,c⟩:Act))] [] (bv R):=by
 refine cD Tryz.func31 fun X hX hr hD=>?_
 rw[B3d]at hR
 refine k_ ?_
 refine cI 2 [] (fun g=>[(1,pt g 0)]) (fun _=>(A2 ⟨44,f,e,a,c⟩)) 51 fun g=>?_
 refine ie ?_
 refine k_ ?_
 refine ie ?_
 refine k_ ?_
 refine bY 1 6 [0] [(17,ag (A2 ⟨44,f,e,a,c⟩))] ?_
 obtain ⟨d,b,hR⟩:=C3 hR
 refine zv Z (D9f b) ?_
 refine k_ ?_
 subst hR
 exact q8
def X7 (f:FrmC):jj→Nat→Bool
 | [],i=>(B3d 0 0 ZU f.title)
 | hd_l0::tl_l0,i=>(bif ((!decide ((hd_l0.length:Int)=f.cols))||(!(U5 hd_l0 false))) then false else X7 f tl_l0 (i+1))
def L6 (f:FrmC) (a:jj):Bool :=
 (bif ((((((decide (f.cols<2))||(decide ((80:Int)<f.cols)))||(decide ((a.length:Int)<1)))||(decide ((40:Int)<(a.length:Int))))||(decide (f.shape<0)))||(decide ((6:Int)<f.shape))) then false else (bif ((((decide (f.cursor.row<0))||(decide ((a.length:Int)≤f.cursor.row)))||(decide (f.cursor.col<0)))||(decide (f.cols≤f.cursor.col))) then false else X7 f a 0))
theorem B9f (f:FrmC):∀ (a:jj) (i:Nat),X7 f a i=true→∀ r ∈ a,(r.length:Int)=f.cols
 | [],i,_=>fun r hr=>by cases hr
 | x::a,i,h=>by
  simp only [X7] at h
  generalize hc:((!decide ((x.length:Int)=f.cols))||(!(U5 x false)))=d at h
  cases d with
  | true=>simp at h
  | false =>
   rw [cond_false] at h
   simp only [Bool.or_eq_false_iff,Bool.not_eq_false',decide_eq_true_eq] at hc
   intro r hr
   rcases List.mem_cons.1 hr with rfl | hr
   ·omega
   ·exact B9f f a (i+1) h r hr
theorem C3g {f:FrmC} {a:jj} (h:L6 f a=true):2≤f.cols∧f.cols≤80∧1≤a.length∧a.length≤40∧∀ i,i<a.length→((a.getD i []).length:Int)=f.cols:=by
 unfold L6 at h
 generalize h1:((((((decide (f.cols<2))||(decide ((80:Int)<f.cols)))||(decide ((a.length:Int)<1)))||(decide ((40:Int)<(a.length:Int))))||(decide (f.shape<0)))||(decide ((6:Int)<f.shape)))=c at h
 cases c with
 | true=>simp at h
 | false =>
  rw [cond_false] at h
  simp only [Bool.or_eq_false_iff,decide_eq_false_iff_not] at h1
  generalize ((((decide (f.cursor.row<0))||(decide ((a.length:Int)≤f.cursor.row)))||(decide (f.cursor.col<0)))||(decide (f.cols≤f.cursor.col)))=d at h
  cases d with
  | true=>simp at h
  | false =>
   rw [cond_false] at h
   grind[B9f]
theorem C5x {f:FrmC} {fRows:jj} {b:List Slc} {fRowsk:Nat} (hR:L6 f fRows=R) (a:B4 b fRows:=by exact bW) (m:fRows.length≤9223372036854775807:=by exact bW) (t:fRows.length≤fRowsk:=by exact bW) (hT:f.title.length≤100000000:=by exact bW):J7 prog 12 [ag (C9 f ⟨e,fRows.length,fRowsk⟩)] [sl F0 e b,D8 D0 b fRows] (bv R):=by
 refine cD Tryz.func12 fun X hX hr hD=>?_
 rw[L6]at hR
 have:=a.1
 refine bS Z (cI 2 [] (fun w=>[(1,pt w 0)]) (fun _=>(C9 f ⟨e,fRows.length,fRowsk⟩)) 26 fun w=>?_)
 refine ie (A3 (bS Z (cB 4 [0] 7 Z ?_)))
 refine zir 4 22 7 11 (decide (80<f.cols)) (fun g2 ae=>?_) ?_
 ·refine cB 4 [0] 11 Z ?_
  exact zai 2 7 _ g2
 refine bP 1 12 Z ?_
 refine zio 5 16 12 17 (decide ((fRows.length:Int)<1)) (fun g3=>?_) ?_
 ·have ab:=bV g3
  refine cB 5 [0] 17 Z ?_
  exact zai 2 12 _ g3
 refine bP 1 18 Z ?_
 refine zio 5 10 18 23 (decide (40<(fRows.length:Int))) (fun g4=>?_) ?_
 ·have ah:=bV g4
  refine cB 5 [0] 23 Z ?_
  exact zai 2 18 _ g4
 refine bP 1 24 Z ?_
 refine zio 4 5 24 28 (decide (f.shape<0)) (fun g5=>?_) ?_
 ·have ac:=bV g5
  refine cB 4 [0] 28 Z ?_
  exact zai 2 24 _ g5
 refine bP 1 29 Z ?_
 refine zio 4 0 29 33 (decide (6<f.shape)) (fun y=>?_) ?_
 ·have a7:=bV y
  refine cB 4 [0] 33 Z ?_
  exact zai 2 29 _ y
 refine ie ?_
 refine zjb Z hR ?_ ?_<;>intro hR h7
 ·have x:=bV h7
  refine bS Z (bP 1 2 Z ?_)
  subst hR
  exact q8
 have x:=bV h7
 refine A4 (nx (A3 (bS Z (cB 5 [0] 38 Z ?_))))
 refine zir 8 14 38 46 (decide (fRows.length≤f.cursor.row)) (fun g8 af=>?_) ?_
 ·refine cB 8 [0,0] 46 Z ?_
  exact zai 2 38 _ g8
 refine bP 1 47 Z ?_
 refine zio 5 8 47 52 (decide (f.cursor.col<0)) (fun g9=>?_) ?_
 ·have a8:=bV g9
  refine cB 5 [0] 52 Z ?_
  exact zai 2 47 _ g9
 refine bP 1 53 Z ?_
 refine zio 7 0 53 60 (decide (f.cols≤f.cursor.col)) (fun u=>?_) ?_
 ·have a2:=bV u
  refine cB 7 [0,0] 60 Z ?_
  exact zai 2 53 _ u
 refine ie ?_
 refine zjb Z hR ?_ ?_<;>intro hR p
 ·have l:=bV p
  refine bS Z (bP 1 2 Z ?_)
  subst hR
  exact q8
 refine A4 (nx (A3 (bS Z (bP 1 3 Z ?_))))
 refine ie (A9 (A1y (fun i=>(i≤fRows.length∧X7 f (fRows.drop i) i=R,[(1,pt w 0),(3,iv i)],[_],_,fRows.length - i)) 0 ⟨opx,hR⟩ bU A7.refl ?_))
 rintro i ⟨z,hR⟩
 refine A3 (bS Z (bY 5 0 [0] [(65,bv (decide (i<(fRows.length:Int))))] ?_))
 refine ie (G3 Z (fun j=>?_) (fun j=>?_))
 ·have h:=bV j
  rw [A1a [] (show i<fRows.length by omega)] at hR;rw[X7]at hR
  refine A4 (nx (A3 (A9 (sd 19 Z oki Z ?_))))
  refine zdg 3 16 [0] [(69,.slice e fRows.length fRowsk),(70,iv i)] ?_
  refine B2k 0 Z jV fun a9 g=>(B7m (Q6 (k:=i) (d:=⟨none,0,0⟩) a 1 Z jV) ?_)
  have:=Q9 a (k:=i) (d:=(⟨none,0,0⟩:Slc)) jV
  refine dd Z (E7 B0s Z Z g Z i) (dd Z (G1 (B6 B5c Z Z (F8 (sz:=1) g jJ 1 Z (gd ⟨none,0,0⟩ jV)) Z) (M2 a jV)) ?_)
  refine zdg 5 9 [0] [(77,bv (!decide (((fRows.getD i []).length)=f.cols)))] ?_
  refine zdO 9 0 77 86 (!(U5 (fRows.getD i []) false)) (fun s=>?_) ?_
  ·have a0:=bV s
   refine zdg 3 6 [0] [(79,.slice e fRows.length fRowsk),(80,iv i)] ?_
   refine dd Z (E7 B0s Z Z g Z i) (dd Z (G1 (B6 B5c Z Z (F8 (sz:=1) g jJ 1 Z (gd ⟨none,0,0⟩ jV)) Z) (M2 a jV)) ?_)
   refine zdg 1 3 [] [(83,ag [.slice ((b.getD i ⟨none,0,0⟩).q) ((fRows.getD i []).length) ((b.getD i ⟨none,0,0⟩).k),bv false])] ?_
   refine zvd Z (D8a Z) ?_
   refine pd1 2 86 Z ?_
   exact zad 8 77 _ s
  refine de ?_
  refine zjb Z hR ?_ ?_<;>intro hR o
  ·have r:=bV o
   refine bS Z (bP 1 2 Z ?_)
   subst hR
   exact q8
  refine A4 (nx (A0 3 Z (bP 1 66 Z (ix Z B1 (bP 1 3 Z (A1 ?_))))))
  exact z0 _ ⟨opx,hR⟩
 have h:=bV j
 rw [A1b h] at hR;rw[X7]at hR
 refine F1 (nx (bS Z (bY 3 2 [0] [(89,ag (A2 ({ZZ with kind:=44,text:=f.title})))] ?_)))
 refine zv Z (D5w Z) ?_
 refine bP 1 2 Z ?_
 subst hR
 exact q8
def A4o (a:FrmC) (c:jj) (b:FrmC) (d:jj):Bool :=
 ((decide (a.cols=b.cols))&&(decide ((c.length:Int)=(d.length:Int))))
def N7 (a:FrmC) (d:jj) (b:FrmC) (e:jj) (c:Cur):Int :=
 (bif ((!(L6 a d))||(!(L6 b e))) then 330 else (bif ((!(A4o a d b e))||(!(A1j a.cols (d.length:Int) c))) then 2 else 0))
theorem F2t {f:FrmC} {a:jj} (h:L6 f a=true):0≤f.cursor.row∧f.cursor.row<(a.length:Int)∧0≤f.cursor.col∧f.cursor.col<f.cols:=by
 refine Decidable.byContradiction fun b=>?_
 unfold L6 at h
 grind
theorem B7f {a:FrmC} {aR:jj} {b:FrmC} {bR:jj} {c:Cur} (h:N7 a aR b bR c=0):L6 a aR=true∧L6 b bR=true∧A4o a aR b bR=true∧A1j a.cols (aR.length:Int) c=true:=by
 unfold N7 at h
 grind
theorem F5n {a:FrmC} {aR:jj} {b:FrmC} {bR:jj} {c:Cur} (h:N7 a aR b bR c=0):(0≤c.row∧c.row≤40∧0≤b.cursor.row∧b.cursor.row≤40)∧(0≤c.col∧c.col≤80∧0≤b.cursor.col∧b.cursor.col≤80):=by
 obtain ⟨j,f,d,e⟩:=B7f h
 have i:=E1i e
 have g:=F2t f
 unfold A4o at d
 grind
def P8 (a:FrmC) (c:jj) (b:FrmC) (d:jj) (s:Sp3):Bool :=
 (bif (((((decide (s.row<0))||(decide ((c.length:Int)≤s.row)))||(decide (s.frm<0)))||(decide (a.cols<s.tt)))||(decide (s.tt≤s.frm))) then false else (bif ((decide (((c.getD ((s.row).toNat) []).getD ((s.frm).toNat) ZV).wide=2))||(decide (((d.getD ((s.row).toNat) []).getD ((s.frm).toNat) ZV).wide=2))) then false else ((decide (s.tt=a.cols))||((!decide (((c.getD ((s.row).toNat) []).getD ((s.tt).toNat) ZV).wide=2))&&(!decide (((d.getD ((s.row).toNat) []).getD ((s.tt).toNat) ZV).wide=2))))))
def O8 (a:Int) (m:Int):Act :=
 {ZZ with kind:=39,n:=a,m:=m}
theorem B4y {a:Int} {R:Act} (hR:O8 a m=R):J7 prog 72 [iv a,iv m] [] (ag (A2 R)):=by
 refine cD Tryz.func72 fun X hX hr hD=>?_
 rw[O8]at hR
 refine k_ ?_
 refine cI 1 [] (fun b=>[(4,pt b 0)]) (fun _=>(A2 ZZ)) 51 fun b=>?_
 refine ie (kc_ ?_)
 refine zru 4 [0] [] 0 (bx b (A2 ({ZZ with kind:=39,n:=a,m:=m})) 51) ?_
 subst hR
 exact ie (A8 (cc (I9 Z (E8 C5s Z 0)) ()))
def Z4 (a:Int) (c:Col):Act :=
 {ZZ with kind:=39,n:=a,color:=c}
theorem C1z {a:Int} {c:Col} {R:Act} (hR:Z4 a c=R):J7 prog 73 [iv a,ag (R1 c)] [] (ag (A2 R)):=by
 refine cD Tryz.func73 fun X hX hr hD=>?_
 rw[Z4]at hR
 refine k_ ?_
 refine B3r 2 [] (fun b d=>[(3,pt b 0),(4,pt d 0)]) (fun _ _=>(R1 c)) (fun _ _=>(A2 ZZ)) 49 51 fun b d=>?_
 refine ie (kc_ ?_)
 refine zrg 4 0 [1,0] [] [bx d (A2 ({ZZ with kind:=39,n:=a,color:=c})) 51,bx b (R1 c) 49] ?_
 subst hR
 refine k_ ?_
 exact cc (I9 Z (E8 C5s Z 0)) ()
def A4s (c:Int) (a:jz→Int→jz) (b:jz):jz :=
 a b (2 * c)
def A3o (b:Int) (a:jz→Int→jz) (c:jz):jz :=
 a c (2 * b)
def A3q (to_:Sty) (c:jz) (b:Int) (a:jz→Int→jz) (d:Bool):jz :=
 (bif ((decide ((0:Int)<(cH .and .i64 to_.attr b)))&&(!d)) then A3o b a (c++([(O8 1 b)]:jz)) else A3o b a c)
def A5w (from_:Sty) (to_:Sty) (a:jz):jz :=
 (bif (!(decide (from_.line=to_.line))) then (a++([(Z4 6 to_.line)]:jz)) else a)
def A5q (from_:Sty) (to_:Sty) (a:jz):jz :=
 (bif (!(decide (from_.back=to_.back))) then A5w from_ to_ (a++([(Z4 5 to_.back)]:jz)) else A5w from_ to_ a)
def A3n (from_:Sty) (to_:Sty) (a:jz):jz :=
 (bif (!(decide (from_.fore=to_.fore))) then A5q from_ to_ (a++([(Z4 4 to_.fore)]:jz)) else A5q from_ to_ a)
def M9 (from_:Sty) (to_:Sty) (a:Bool):Nat→jz→Int→jz
 | 0,_,_=>[]
 | fu3+1,out3,bit1=>(bif (decide (bit1<256)) then (bif (a&&(decide (bit1<4))) then A3q to_ out3 bit1 (M9 from_ to_ a fu3) false else A3q to_ out3 bit1 (M9 from_ to_ a fu3) (decide ((0:Int)<(cH .and .i64 from_.attr bit1)))) else (bif (!decide (from_.under=to_.under)) then A3n from_ to_ (out3++([(O8 3 to_.under)]:jz)) else A3n from_ to_ out3))
def V3 (from_:Sty) (to_:Sty) (a:Bool):Nat→jz→Int→jz
 | 0,_,_=>[]
 | fu1+1,out1,bit=>(bif (decide (bit<256)) then (bif (decide ((cH .and .i64 to_.attr bit)<(cH .and .i64 from_.attr bit))) then A4s bit (V3 from_ to_ a fu1) (out1++([(O8 2 bit)]:jz)) else A4s bit (V3 from_ to_ a fu1) out1) else M9 from_ to_ a (((512:Int) - 1).toNat+1) out1 1)
def A1i (from_:Sty) (to_:Sty) (out:jz) (a:Bool):jz :=
 V3 from_ to_ a (((512:Int) - 4).toNat+1) out 4
def A1s (from_:Sty) (to_:Sty):jz :=
 (bif ((decide ((cH .and .i64 to_.attr 1)<(cH .and .i64 from_.attr 1)))||(decide ((cH .and .i64 to_.attr 2)<(cH .and .i64 from_.attr 2)))) then A1i from_ to_ (([]:jz)++([(O8 2 3)]:jz)) true else A1i from_ to_ ([]:jz) false)
theorem B5a (f t:Sty) (l:jz):A3n f t l=l++(Y7 (!decide (f.fore=t.fore)) (kC 4 t.fore)++(Y7 (!decide (f.back=t.back)) (kC 5 t.back)++Y7 (!decide (f.line=t.line)) (kC 6 t.line))):=by grind[A3n,A5q,A5w,Z4,Y7,kC]
def E3d (f:Sty) (g:Bool) (b:Int):Bool:=bif g&&decide (b<4) then false else decide ((0:Int)<(cH .and .i64 f.attr b))
def C6a (f t:Sty) (g:Bool) (b:Int):Bool:=decide ((0:Int)<(cH .and .i64 t.attr b))&&!(E3d f g b)
def C9e (f t:Sty) (b:Int):Bool:=decide ((cH .and .i64 t.attr b)<(cH .and .i64 f.attr b))
def D4m (f t:Sty):Bool:=(decide ((cH .and .i64 t.attr 1)<(cH .and .i64 f.attr 1)))||(decide ((cH .and .i64 t.attr 2)<(cH .and .i64 f.attr 2)))
def D9u (f t:Sty):jz:=Y7 (D4m f t) (kA 2 3)++(([4,8,16,32,64,128]:List Int).flatMap (fun b=>Y7 (C9e f t b) (kA 2 b))++(C2q.flatMap (fun b=>Y7 (C6a f t (D4m f t) b) (kA 1 b))++B3t f t))
theorem U3 (f t:Sty) (g:Bool) (F:Nat) (b:Int) (l:jz) (hb:b≤255):M9 f t g (F+1) l b=M9 f t g F (l++Y7 (C6a f t g b) (kA 1 b)) (2 * b):=by
 rw [M9,jQ (by omega:b<256),cond_true]
 have e:∀ a:Bool,A3q t l b (M9 f t g F) a=M9 f t g F (l++Y7 (decide ((0:Int)<(cH .and .i64 t.attr b))&&!a) (kA 1 b)) (2 * b):=by
  intro a
  unfold A3q
  cases decide ((0:Int)<(cH .and .i64 t.attr b))&&!a with
  | true=>rfl
  | false=>simp[A3o,Y7]
 unfold C6a E3d
 grind
theorem C3v (f t:Sty) (g:Bool) (F:Nat) (l:jz):M9 f t g (F+1) l 256=l++B3t f t:=by
 rw [M9,jX (by omega:¬ (256:Int)<256),cond_false]
 unfold B3t
 cases decide (f.under=t.under) with
 | true=>simp[B5a,Y7]
 | false=>simp only [Bool.not_false,cond_true,B5a,Y7,List.append_assoc];rfl
theorem C5t (f t:Sty) (g:Bool) (F:Nat) (a:9≤F) (l:jz):M9 f t g F l 1=l++(C2q.flatMap (fun b=>Y7 (C6a f t g b) (kA 1 b))++B3t f t):=by
 obtain ⟨G,rfl⟩:∃ G,F=G+1+1+1+1+1+1+1+1+1:=⟨F - 9,by omega⟩
 simp[U3,C3v,C2q]
theorem A0i (f t:Sty) (g:Bool) (F:Nat) (b:Int) (l:jz) (hb:b≤255):V3 f t g (F+1) l b=V3 f t g F (l++Y7 (C9e f t b) (kA 2 b)) (2 * b):=by
 rw [V3,jQ (by omega:b<256),cond_true]
 generalize ((512:Int) - 1).toNat+1=Zb
 show (bif C9e f t b then _ else _)=_
 cases C9e f t b with
 | true=>rfl
 | false=>simp[A4s,Y7]
theorem C3o (f t:Sty) (g:Bool) (F:Nat) (l:jz):V3 f t g (F+1) l 256=l++(C2q.flatMap (fun b=>Y7 (C6a f t g b) (kA 1 b))++B3t f t):=by simp[V3,C5t]
theorem B6f (f t:Sty) (g:Bool) (l:jz):A1i f t l g=l++(([4,8,16,32,64,128]:List Int).flatMap (fun b=>Y7 (C9e f t b) (kA 2 b))++(C2q.flatMap (fun b=>Y7 (C6a f t g b) (kA 1 b))++B3t f t)):=by
 rw [A1i]
 generalize hF:((512:Int) - 4).toNat+1=F
 obtain ⟨G,rfl⟩:∃ G,F=G+1+1+1+1+1+1+1:=⟨F - 7,by omega⟩
 simp[A0i,C3o]
theorem C9n (f t:Sty) (X:jz) (c:Bool) (a:D4m f t=c) (h:(bif c then A1i f t (([]:jz)++([(O8 2 3)]:jz)) true else A1i f t ([]:jz) false)=X):X=D9u f t:=by
 unfold D9u
 rw [a]
 clear a
 cases c with
 | true=>rw [cond_true,B6f] at h;rw [← h,List.nil_append];rfl
 | false=>rw [cond_false,B6f] at h;rw [← h];rfl
theorem B0k (f t:Sty):A1s f t=D9u f t:=C9n f t _ _ Z (A1s.eq_1 f t).symm
theorem E6m (f t:Sty):∀ a ∈ D9u f t,C3w a:=by
 intro a d
 have e:∀ n m,C3w (kA n m):=fun n m=>⟨rfl,rfl⟩
 have g:∀ n c,C3w (kC n c):=fun n c=>⟨rfl,rfl⟩
 unfold D9u B3t at d
 simp only [List.mem_append,List.mem_flatMap] at d
 grind[B0l]
theorem E5o (f t:Sty):(D9u f t).length≤19:=by
 have h:=D0i
 unfold D9u B3t C2q
 simp only [List.flatMap_cons,List.flatMap_nil,List.length_append,List.length_nil]
 grind
theorem B3n (f t:Sty):(A1s f t).length≤1100:=by grind[B0k,E5o]
theorem B3c (f t:Sty):∀ a ∈ A1s f t,C3w a:=by grind[B0k,E6m]
theorem C2p {from_ to_:Sty} {R:jz} (hR:A1s from_ to_=R):cM prog 45 [ag (B7 from_),ag (B7 to_)] [] [] ({r:VR // bT 6 R.length r}) (fun x=>.slice (va x.1.q) R.length x.1.k) (fun x=>((vo A2 51 x.1 R)++([]))) (fun x=>[]):=by
 refine cD Tryz.func45 fun X hX hr hD=>?_
 rw[A1s]at hR
 refine k_ ?_
 refine B3r 3 [] (fun w y=>[(2,pt w 0),(3,pt y 0)]) (fun _ _=>(B7 from_)) (fun _ _=>(B7 to_)) 63 63 fun w y=>?_
 let D:=bx y (B7 to_) 63
 let B:=bx w (B7 from_) 63
 let A:=[D,B]
 refine ie (bS Z (bP 1 5 Z (ie (bS Z (bP 1 6 Z (ie (A7i (un fun out=>un fun a7 i=>(A1i from_ to_ out i=R∧bT 6 out.length a7∧out.length≤1,[(2,pt w 0),(3,pt y 0),(5,.slice (va a7.q) out.length a7.k),(6,bv i)],(D::B::((vo A2 51 a7 out)++([]))),[])) ?_ ?_)))))))
 ·refine k_ ?_
  refine zir 8 0 17 25 (decide ((cH .and .i64 to_.attr 2)<(cH .and .i64 from_.attr 2))) (fun g3 bd=>?_) ?_
  ·exact cB 8 [1,0] 25 Z (A1 (I1 2 17 _ g3 A7.nil bU Z Z Z Z Z))
  refine ie ?_
  refine zjo Z hR ?_ ?_<;>intro hR h4 bg
  ·refine k_ ?_
   refine zv Z (B4y Z) ?_
   refine it Z (B0 (c:=A2) (xs:=[(O8 2 3)]) N3) fun b5=>(it Z (Q7 (f:=A2) (r:=VR.nil) (xs:=jZ) (ys:=([(O8 2 3)]:jz)) (pre:=A) (post:=[]) A0c jJ jJ Z Z Z Z Z Z Z Z Z (A5 0 Z) bT.nil ore ore) fun ⟨r6,ak⟩=>(k_ ?_))
   refine ie (k_ ?_)
   exact A1 (S6 (_,_,_) ⟨hR,ak,ozq⟩ bU A7.nil)
  exact A4 (Y9 (I8 [_,_,_] [1,2,0] 3 Z ozw Z [[_],[_],vo A2 51 VR.nil []] Z opv) (S6 (_,_,_) ⟨hR,bT.nil,ozq⟩ bU A7.nil))
 rintro ⟨out,a7,i⟩
 rintro ⟨hR,ad,hj⟩
 rw[A1i]at hR
 refine k_ ?_
 refine ie (A9 (A1y (un fun fu=>un fun p=>un fun n t=>((512 - t).toNat<fu∧V3 _ _ i fu p t=R∧bT 6 p.length n∧1≤t∧t≤510∧p.length≤t,[(2,_),(3,_),(5,.slice (va n.q) p.length n.k),(6,_),(7,iv t)],(bx y _ _::bx w _ _::((vo _ _ n p)++([]))),_,fu)) (_,_,_,4) ⟨(Nat.lt_succ_self _),hR,ad,opx,ozq⟩ bU A7.nil ?_))
 rintro ⟨fu,p,n,t⟩ ⟨bz,hR,s,hb,hn⟩
 have:=bT.le s
 obtain ⟨fu1,rfl⟩:∃ m,fu=m+1:=⟨fu - 1,by omega⟩
 rw[V3]at hR
 refine k_ ?_
 refine ie ?_
 refine cK Z hR ?_ ?_<;>intro hR h9 bu
 ·refine A4 (nx (A7i (un fun a2 a0=>(A4s t (V3 from_ to_ i fu1) a2=R∧bT 6 a2.length a0∧a2.length≤t+1,[(2,pt w 0),(3,pt y 0),(5,.slice (va a0.q) a2.length a0.k),(6,bv i),(7,iv t)],(D::B::((vo A2 51 a0 a2)++([]))),[])) ?_ ?_))
  ·refine k_ ?_
   refine ie ?_
   refine cK Z hR ?_ ?_<;>intro hR bp b4
   ·refine k_ ?_
    refine zv Z (B4y Z) ?_
    refine it Z (B0 (c:=A2) (xs:=[(O8 2 t)]) N3 Z Z Z oki) fun bo=>?_
    have:([(O8 2 t)]:jz).length=1:=rfl
    refine it Z (Q7 (f:=A2) (r:=n) (xs:=p) (ys:=([(O8 2 t)]:jz)) (pre:=A) (post:=[]) A0c jJ jJ Z Z Z Z Z Z Z Z Z (A5 0 Z) s ore ore) fun ⟨az,ai⟩=>(k_ ?_)
    exact A1 (S6 (_,_) ⟨hR,ai,ozq⟩ bU A7.nil)
   exact A4 (S6 (p,n) ⟨hR,s,ozq⟩ bU A7.nil)
  rintro ⟨a2,a0⟩
  rintro ⟨hR,a9,hj⟩
  rw[A4s]at hR
  refine k_ ?_
  refine ix Z (E0v Z Z Z Z opx) (k_ ?_)
  exact A1 (z0 (_,_,_,_) ⟨opx,hR,a9,(by first|omega|(rw [A3b (by simp [IntKind.min,IntKind.signed,IntKind.bits];omega) (by simp [IntKind.max,IntKind.signed,IntKind.bits];omega)];omega)),ozq⟩)
 refine k_ ?_
 refine ie (A9 (A1y (un fun aa=>un fun g=>un fun e d=>((512 - d).toNat<aa∧M9 _ _ i aa g d=R∧bT 6 g.length e∧1≤d∧d≤510∧g.length≤512+d,[(2,_),(3,_),(5,.slice (va e.q) g.length e.k),(6,_),(8,iv d)],(bx y _ _::bx w _ _::((vo _ _ e g)++([]))),_,aa)) (_,p,n,1) ⟨(Nat.lt_succ_self _),hR,s,opx,ozq⟩ bU A7.nil ?_))
 rintro ⟨aa,g,e,d⟩ ⟨b3,hR,h,hb,hn⟩
 have:=bT.le h
 obtain ⟨fu3,rfl⟩:∃ m,aa=m+1:=⟨aa - 1,by omega⟩
 rw[M9]at hR
 refine k_ ?_
 refine ie ?_
 refine cK Z hR ?_ ?_<;>intro hR bh b6
 ·refine A4 (nx (A7i (un fun a3 z=>(A3o d (M9 from_ to_ i fu3) a3=R∧bT 6 a3.length z∧a3.length≤513+d,[(2,pt w 0),(3,pt y 0),(5,.slice (va z.q) a3.length z.k),(6,bv i),(8,iv d)],(D::B::((vo A2 51 z a3)++([]))),[])) ?_ ?_))
  ·refine A9 (bS Z (cB 6 [1] 9 Z (ie (A7i (fun a8=>(A3q to_ g d (M9 from_ to_ i fu3) a8=R,[(2,pt w 0),(3,pt y 0),(5,.slice (va e.q) g.length e.k),(6,bv i),(8,iv d),(9,bv a8)],(D::B::((vo A2 51 e g)++([]))),[])) ?_ ?_))))
   ·refine k_ ?_
    refine zia 3 0 58 61 (decide (d<4)) (fun ay=>?_) ?_
    ·exact bP 3 61 Z (A1 (I1 2 58 _ ay A7.nil bU Z Z Z Z Z))
    refine ie ?_
    refine zjb Z hR ?_ ?_<;>intro hR am
    ·have an:=bV am
     refine k_ ?_
     exact A1 (S6 _ hR bU A7.nil)
    exact A4 (S6 _ hR bU A7.nil)
   intro a8
   rintro hR
   rw[A3q]at hR
   refine k_ ?_
   refine zid 3 0 67 70 (!a8) (fun ar b7=>?_) ?_
   ·exact bP 3 70 Z (A1 (I1 2 67 _ ar A7.nil bU Z Z Z Z Z))
   refine ie ?_
   refine zjb Z hR ?_ ?_<;>intro hR al
   ·have ap:=bV al
    refine k_ ?_
    refine zv Z (B4y Z) ?_
    refine it Z (B0 (c:=A2) (xs:=[(O8 1 d)]) N3 Z Z Z oki) fun bj=>?_
    have:([(O8 1 d)]:jz).length=1:=rfl
    refine it Z (Q7 (f:=A2) (r:=e) (xs:=g) (ys:=([(O8 1 d)]:jz)) (pre:=A) (post:=[]) A0c jJ jJ Z Z Z Z Z Z Z Z Z (A5 0 Z) h ore ore) fun ⟨aw,ae⟩=>(k_ ?_)
    exact A1 (S6 (_,_) ⟨hR,ae,ozq⟩ bU A7.nil)
   exact A4 (S6 (g,e) ⟨hR,h,ozq⟩ bU A7.nil)
  rintro ⟨a3,z⟩
  rintro ⟨hR,ab,hj⟩
  rw[A3o]at hR
  refine k_ ?_
  refine ix Z (E0v Z Z Z Z opx) (k_ ?_)
  exact A1 (z0 (_,_,z,_) ⟨opx,hR,ab,(by first|omega|(rw [A3b (by simp [IntKind.min,IntKind.signed,IntKind.bits];omega) (by simp [IntKind.max,IntKind.signed,IntKind.bits];omega)];omega)),ozq⟩)
 refine F1 (nx (A7i (un fun u l=>(A3n from_ to_ u=R∧bT 6 u.length l∧u.length≤1100,[(2,pt w 0),(3,pt y 0),(5,.slice (va l.q) u.length l.k)],(D::B::((vo A2 51 l u)++([]))),[])) ?_ ?_))
 ·refine k_ ?_
  refine ie ?_
  refine zjn Z hR ?_ ?_<;>intro hR bm ba
  ·refine k_ ?_
   refine zv Z (B4y Z) ?_
   refine it Z (B0 (c:=A2) (xs:=[(O8 3 to_.under)]) N3 Z Z Z oki) fun bb=>?_
   have:([(O8 3 to_.under)]:jz).length=1:=rfl
   refine it Z (Q7 (f:=A2) (r:=e) (xs:=g) (ys:=([(O8 3 to_.under)]:jz)) (pre:=A) (post:=[]) A0c jJ jJ Z Z Z Z Z Z Z Z Z (A5 0 Z) h ore ore) fun ⟨au,ah⟩=>(k_ ?_)
   exact A1 (S6 (_,_) ⟨hR,ah,ozq⟩ bU A7.nil)
  exact A4 (S6 (g,e) ⟨hR,h,ozq⟩ bU A7.nil)
 rintro ⟨u,l⟩
 rintro ⟨hR,a4,hj⟩
 rw[A3n]at hR
 refine A7i (un fun v o=>(A5q from_ to_ v=R∧bT 6 v.length o∧v.length≤1101,[(2,pt w 0),(3,pt y 0),(5,.slice (va o.q) v.length o.k)],(D::B::((vo A2 51 o v)++([]))),[])) ?_ ?_
 ·refine kc_ ?_
  refine bY 4 1 [1,0] [(88,ag (R1 from_.fore)),(90,ag (R1 to_.fore))] ?_
  refine ix Z (A0f B5g Z Z Z) (ie ?_)
  refine zjn Z hR ?_ ?_<;>intro hR bi b9
  ·refine kc_ ?_
   refine bY 3 4 [0] [(92,.slice (va l.q) u.length l.k),(94,ag (R1 to_.fore))] ?_
   refine zv Z (C1z Z) ?_
   refine it Z (B0 (c:=A2) (xs:=[(Z4 4 to_.fore)]) N3 Z Z Z oki) fun bk=>?_
   have:([(Z4 4 to_.fore)]:jz).length=1:=rfl
   refine it Z (Q7 (f:=A2) (r:=l) (xs:=u) (ys:=([(Z4 4 to_.fore)]:jz)) (pre:=A) (post:=[]) A0c jJ jJ Z Z Z Z Z Z Z Z Z (A5 0 Z) a4 ore ore) fun ⟨av,aj⟩=>(k_ ?_)
   exact S6 (_,_) ⟨hR,aj,ozq⟩ bU A7.nil
  exact A4 (S6 (u,l) ⟨hR,a4,ozq⟩ bU A7.nil)
 rintro ⟨v,o⟩
 rintro ⟨hR,a5,hj⟩
 rw[A5q]at hR
 refine A7i (un fun a1 j=>(A5w from_ to_ a1=R∧bT 6 a1.length j∧a1.length≤1102,[(2,pt w 0),(3,pt y 0),(5,.slice (va j.q) a1.length j.k)],(D::B::((vo A2 51 j a1)++([]))),[])) ?_ ?_
 ·refine kc_ ?_
  refine bY 4 1 [1,0] [(99,ag (R1 from_.back)),(101,ag (R1 to_.back))] ?_
  refine ix Z (A0f B5g Z Z Z) (ie ?_)
  refine zjn Z hR ?_ ?_<;>intro hR bw b8
  ·refine kc_ ?_
   refine bY 3 4 [0] [(103,.slice (va o.q) v.length o.k),(105,ag (R1 to_.back))] ?_
   refine zv Z (C1z Z) ?_
   refine it Z (B0 (c:=A2) (xs:=[(Z4 5 to_.back)]) N3 Z Z Z oki) fun bl=>?_
   have:([(Z4 5 to_.back)]:jz).length=1:=rfl
   refine it Z (Q7 (f:=A2) (r:=o) (xs:=v) (ys:=([(Z4 5 to_.back)]:jz)) (pre:=A) (post:=[]) A0c jJ jJ Z Z Z Z Z Z Z Z Z (A5 0 Z) a5 ore ore) fun ⟨aq,af⟩=>(k_ ?_)
   exact S6 (_,_) ⟨hR,af,ozq⟩ bU A7.nil
  exact A4 (S6 (v,o) ⟨hR,a5,ozq⟩ bU A7.nil)
 rintro ⟨a1,j⟩
 rintro ⟨hR,a6,hj⟩
 rw[A5w]at hR
 refine kc_ ?_
 refine bY 4 1 [1,0] [(110,ag (R1 from_.line)),(112,ag (R1 to_.line))] ?_
 refine ix Z (A0f B5g Z Z Z) (ie ?_)
 refine zjn Z hR ?_ ?_<;>intro hR bn b0
 ·refine kc_ ?_
  refine bY 3 4 [0] [(114,.slice (va j.q) a1.length j.k),(116,ag (R1 to_.line))] ?_
  refine zv Z (C1z Z) ?_
  refine it Z (B0 (c:=A2) (xs:=[(Z4 6 to_.line)]) N3 Z Z Z oki) fun be=>?_
  have:([(Z4 6 to_.line)]:jz).length=1:=rfl
  refine it Z (Q7 (f:=A2) (r:=j) (xs:=a1) (ys:=([(Z4 6 to_.line)]:jz)) (pre:=A) (post:=[]) A0c jJ jJ Z Z Z Z Z Z Z Z Z (A5 0 Z) a6 ore ore) fun ⟨ax,ac⟩=>(k_ ?_)
  subst hR
  exact ie (A8 (ci _))
 refine k_ ?_
 subst hR
 exact ie (A8 (ci ⟨j,a6⟩))
def A7v (to_:Sty):jz :=
 (B5 (A1s ZJ to_) fun (a:jz)=>(([(O8 0 0)]:jz)++a))
theorem B9z (t:Sty):A7v t=kA 0 0::D9u ZJ t:=by unfold A7v B5;rw [B0k];rfl
theorem C3k (t:Sty):(A7v t).length≤20:=by simp[B9z,E5o]
theorem C4w (t:Sty):∀ a ∈ A7v t,C3w a:=by
 rw [B9z];intro a b
 rcases List.mem_cons.1 b with rfl | b
 ·exact ⟨rfl,rfl⟩
 grind[E6m]
theorem E4f {to_:Sty} {R:jz} (hR:A7v to_=R):cM prog 46 [ag (B7 to_)] [] [] ({t:kQ×Nat // R.length≤t.2∧R.length≤9223372036854775807}) (fun x=>.slice x.1.1 R.length x.1.2) (fun x=>[]) (fun x=>[sl A2 x.1.1 R]):=by
 refine cD Tryz.func46 fun X hX hr hD=>?_
 rw[A7v]at hR
 refine k_ ?_
 refine cI 2 [] (fun e=>[(1,pt e 0)]) (fun _=>(B7 to_)) 63 fun e=>?_
 refine ie (k_ ?_)
 refine zv Z (B4y Z) ?_
 refine it Z (B0 (c:=A2) (xs:=[(O8 0 0)]) N3 Z Z Z oki) fun i=>?_
 have:([(O8 0 0)]:jz).length=1:=rfl
 refine k_ ?_
 refine ie (kc_ ?_)
 refine bY 3 3 [0] [(6,.slice (some ⟨i,0,none⟩) 1 1),(7,ag (B7 ZJ)),(8,ag (B7 to_))] ?_
 obtain ⟨b,a,hR⟩:=C3 hR
 refine zc Z (C2p a) fun ⟨h,d⟩=>?_
 have:=bT.le d
 have:=B3n ZJ to_;try rw [a] at this
 have:=B3c ZJ to_;try rw [a] at this
 refine P2 [_] _ d omm (it Z (C3h (f:=A2) (xs:=([(O8 0 0)]:jz)) (ys:=b) A0c jJ jJ Z Z Z Z Z Z opx opx odv (A5 1 Z) (A5 0 Z) ore ore) fun ⟨⟨k,k6⟩,g⟩=>(bP 1 2 Z ?_))
 subst hR
 refine k_ ?_
 exact ci (zq k _)
theorem B8u {l:jz} (h:∀ a ∈ l,C3w a):∀ a ∈ l,k6 a:=fun a b=>by
 have q:=h a b
 have e:a.text.length=0:=by rw [q.2];rfl
 have k:=q.1
 grind[k6]
def I3 (l:jz):Int :=
 (B5 (A0g l) fun (a:List UInt8)=>(a.length:Int))
theorem B6m {l:jz} {R:Int} (hR:I3 l=R) (f:l.length≤9223372036854775807:=by exact bW) (g:l.length≤lk:=by exact bW) (e:∀ a ∈ l,k6 a:=by exact bW):J7 prog 44 [.slice lq l.length lk] [sl A2 lq l] (iv R):=by
 refine cD Tryz.func44 fun X hX hr hD=>?_
 rw[I3]at hR
 refine k_ ?_
 refine ie (k_ ?_)
 obtain ⟨c,b,hR⟩:=C3 hR
 refine zc Z (B9v b bW bW (by first|exact C6w hr6 _|assumption|exact B8u oiu|exact k6_rows oiu _)) fun ⟨i,d⟩=>?_
 refine k_ ?_
 subst hR
 exact q8
def H5 (from_:Sty) (to_:Sty):jz :=
 (bif (decide (from_=to_)) then ([]:jz) else (B5 (A1s from_ to_) fun (a:jz)=>(B5 (A7v to_) fun (b:jz)=>(bif (decide ((I3 a)≤(I3 b))) then a else b))))
theorem A9p (f t:Sty):(H5 f t).length≤1100∧∀ a ∈ H5 f t,C3w a:=by
 unfold H5;simp only [B5]
 have c:=C3k t
 cases decide (f=t) with
 | true=>simp
 | false =>
  simp only [cond_false]
  cases decide (I3 (A1s f t)≤I3 (A7v t)) with
  | true=>simp only [cond_true,cond_false];grind[B3n,B3c]
  | false=>simp only [cond_false];exact ⟨Nat.le_trans c ozw,C4w t⟩
theorem C0i {from_ to_:Sty} {R:jz} (hR:H5 from_ to_=R):cM prog 24 [ag (B7 from_),ag (B7 to_)] [] [] ({t:kQ×Nat // R.length≤t.2∧R.length≤9223372036854775807}) (fun x=>.slice x.1.1 R.length x.1.2) (fun x=>[]) (fun x=>[sl A2 x.1.1 R]):=by
 refine cD Tryz.func24 fun X hX hr hD=>?_
 rw[H5]at hR
 refine k_ ?_
 refine B3r 3 [] (fun j l=>[(2,pt j 0),(3,pt l 0)]) (fun _ _=>(B7 from_)) (fun _ _=>(B7 to_)) 63 63 fun j l=>?_
 refine ie ?_
 refine k_ ?_
 refine bY 2 1 [1,0] [(7,ag (B7 from_)),(8,ag (B7 to_))] ?_
 refine ix Z (A3m E0h Z Z Z) (ie ?_)
 refine cK Z hR ?_ ?_<;>intro hR z w
 ·refine k_ ?_
  subst hR
  refine ie (A8 ?_)
  exact ci (zq _ 0)
 refine k_ ?_
 refine bY 2 2 [1,0] [(10,ag (B7 from_)),(11,ag (B7 to_))] ?_
 obtain ⟨f,d,hR⟩:=C3 hR
 refine zc Z (C2p d) fun ⟨n,g⟩=>?_
 have:=B3n from_ to_;try rw [d] at this
 have:=B3c from_ to_;try rw [d] at this
 refine k_ ?_
 refine bY 1 2 [0] [(13,ag (B7 to_))] ?_
 obtain ⟨h,e,hR⟩:=C3 hR
 refine zc Z (E4f e) fun ⟨⟨v,u⟩,i⟩=>?_
 obtain ⟨s,p⟩:=i
 have:=C3k to_;try rw [e] at this
 have:=C4w to_;try rw [e] at this
 refine k_ ?_
 have:=bT.lc g
 refine P2 [_,_] _ g omm ?_
 refine zv Z (B6m Z bW bW (by first|exact C6w hr6 _|assumption|exact B8u oiu|exact (hwb.getD _).2)) ?_
 refine k_ ?_
 refine zv Z (B6m Z bW bW (by first|exact C6w hr6 _|assumption|exact B8u oiu|exact (hwb.getD _).2)) ?_
 refine k_ ?_
 refine ie ?_
 refine cK Z hR ?_ ?_<;>intro hR y o
 ·refine k_ ?_
  subst hR
  refine ie (A8 ?_)
  exact ci (zq _ n.k)
 refine k_ ?_
 subst hR
 refine ie (A8 ?_)
 exact ci _
def W9 (c:Cel):jz :=
 (bif (!decide (c.marks.a=0)) then (bif (!decide (c.marks.b=0)) then ((([{ZZ with kind:=1,n:=c.base}]:jz)++([{ZZ with kind:=1,n:=c.marks.a}]:jz))++([{ZZ with kind:=1,n:=c.marks.b}]:jz)) else (([{ZZ with kind:=1,n:=c.base}]:jz)++([{ZZ with kind:=1,n:=c.marks.a}]:jz))) else (bif (!decide (c.marks.b=0)) then (([{ZZ with kind:=1,n:=c.base}]:jz)++([{ZZ with kind:=1,n:=c.marks.b}]:jz)) else ([{ZZ with kind:=1,n:=c.base}]:jz)))
theorem B1b (c:Cel):(W9 c).length≤3∧∀ a ∈ W9 c,k6 a:=by
 have d:∀ n:Int,k6 {ZZ with kind:=1,n:=n}:=fun n=>by unfold k6;dsimp only;exact ⟨by omega,Nat.zero_le _,by omega⟩
 unfold W9
 grind
theorem C9r {c:Cel} {R:jz} (hR:W9 c=R):cM prog 71 [ag (D0 c)] [] [] ({t:kQ×Nat // R.length≤t.2∧R.length≤9223372036854775807}) (fun x=>.slice x.1.1 R.length x.1.2) (fun x=>[]) (fun x=>[sl A2 x.1.1 R]):=by
 refine cD Tryz.func71 fun X hX hr hD=>?_
 rw[W9]at hR
 refine bS Z (cI 2 [] (fun i=>[(1,pt i 0)]) (fun _=>(D0 c)) 71 fun i=>?_)
 refine ie (bS Z (bY 3 2 [0] [(7,ag (A2 ({ZZ with kind:=1,n:=c.base})))] ?_))
 refine it Z (B0 (c:=A2) (xs:=[{ZZ with kind:=1,n:=c.base}]) N3 Z Z Z oki) fun o=>?_
 have:([{ZZ with kind:=1,n:=c.base}]:jz).length=1:=rfl
 refine bP 1 3 Z (ie (A3 (bS Z (bP 1 4 Z (ie (A9 (A1g 3 (E9 (A3 (bS Z (bP 2 10 Z (ie (K1 Z (A4 (nx (A3 (A9 (bS Z (cF 2 13 14 Z (ix Z (A2w Tryz.underlying69 cE Z Z Z 0 Z Z) (cB 2 [0] 17 Z (ie ?_))))))))))))))))))))))
 refine zjn Z hR ?_ ?_<;>intro hR y u
 ·refine A0 9 Z (pp3 3 18 19 20 Z (ix Z (A2w Tryz.underlying69 cE Z Z Z 0 Z Z) (bY 2 3 [0] [(23,ag (A2 ({ZZ with kind:=1,n:=c.marks.a})))] ?_)))
  refine it Z (B0 (c:=A2) (xs:=[{ZZ with kind:=1,n:=c.marks.a}]) N3 Z Z Z oki) fun w=>?_
  have:([{ZZ with kind:=1,n:=c.marks.a}]:jz).length=1:=rfl
  refine it Z (C7v (f:=A2) (xs:=([{ZZ with kind:=1,n:=c.base}]:jz)) (ys:=([{ZZ with kind:=1,n:=c.marks.a}]:jz)) A0c jJ jJ Z Z Z Z Z Z opx opx odv (A5 1 Z) (A5 0 Z) oom ore ore) fun ⟨j,g⟩=>?_
  have:=bT.le g
  refine bP 1 3 Z (A1 (nx (A0 3 Z (bP 1 11 Z (ix Z (B1 (c:=1)) (bP 1 4 Z (A1 (E9 (A3 (bS Z (bP 2 10 Z (ie (K1 Z (A4 (nx (A3 (A9 (bS Z (cF 2 13 14 Z (ix Z (A2w Tryz.underlying69 cE Z Z Z 1 Z Z) (cB 2 [0] 17 Z (ie ?_))))))))))))))))))))))
  refine zjn Z hR ?_ ?_<;>intro hR z p
  ·refine A0 9 Z (pp3 3 18 19 20 Z (ix Z (A2w Tryz.underlying69 cE Z Z Z 1 Z Z) (bY 2 3 [0] [(23,ag (A2 ({ZZ with kind:=1,n:=c.marks.b})))] ?_)))
   refine it Z (B0 (c:=A2) (xs:=[{ZZ with kind:=1,n:=c.marks.b}]) N3) fun b8=>(it Z (Q7 (f:=A2) (r:=j) (xs:=(([{ZZ with kind:=1,n:=c.base}]:jz)++([{ZZ with kind:=1,n:=c.marks.a}]:jz))) (ys:=([{ZZ with kind:=1,n:=c.marks.b}]:jz)) (pre:=[bx i (D0 c) 71]) (post:=[]) A0c jJ jJ Z Z Z Z Z Z Z Z Z (A5 0 Z) g ore ore) fun ⟨l,e⟩=>?_)
   have:=bT.le e
   refine bP 1 3 Z (A1 (nx (A0 3 Z (bP 1 11 Z (ix Z (B1 (c:=2)) (bP 1 4 Z (A1 (E9 (A3 (bS Z (bP 2 10 Z (ie (A5t Z (F1 (nx (bS Z (bP 2 2 Z (ie (A8 (D3z _ _ e omm ?_))))))))))))))))))))
   have:=bT.cap e
   subst hR
   exact ci (zq _ _)
  refine A4 (nx (A0 3 Z (bP 1 11 Z (ix Z (B1 (c:=2)) (bP 1 4 Z (A1 (E9 (A3 (bS Z (bP 2 10 Z (ie (A5t Z (F1 (nx (bS Z (bP 2 2 Z (ie (A8 (D3z _ _ g omm ?_)))))))))))))))))))
  have:=bT.cap g
  subst hR
  exact ci (zq _ _)
 refine A4 (nx (A0 3 Z (bP 1 11 Z (ix Z (B1 (c:=1)) (bP 1 4 Z (A1 (E9 (A3 (bS Z (bP 2 10 Z (ie (K1 Z (A4 (nx (A3 (A9 (bS Z (cF 2 13 14 Z (ix Z (A2w Tryz.underlying69 cE Z Z Z 1 Z Z) (cB 2 [0] 17 Z (ie ?_)))))))))))))))))))))
 refine zjn Z hR ?_ ?_<;>intro hR v m
 ·refine A0 9 Z (pp3 3 18 19 20 Z (ix Z (A2w Tryz.underlying69 cE Z Z Z 1 Z Z) (bY 2 3 [0] [(23,ag (A2 ({ZZ with kind:=1,n:=c.marks.b})))] ?_)))
  refine it Z (B0 (c:=A2) (xs:=[{ZZ with kind:=1,n:=c.marks.b}]) N3 Z Z Z oki) fun s=>?_
  have:([{ZZ with kind:=1,n:=c.marks.b}]:jz).length=1:=rfl
  refine it Z (C7v (f:=A2) (xs:=([{ZZ with kind:=1,n:=c.base}]:jz)) (ys:=([{ZZ with kind:=1,n:=c.marks.b}]:jz)) A0c jJ jJ Z Z Z Z Z Z opx opx odv (A5 1 Z) (A5 0 Z) oom ore ore) fun ⟨h,d⟩=>?_
  have:=bT.le d
  refine bP 1 3 Z (A1 (nx (A0 3 Z (bP 1 11 Z (ix Z (B1 (c:=2)) (bP 1 4 Z (A1 (E9 (A3 (bS Z (bP 2 10 Z (ie (A5t Z (F1 (nx (bS Z (bP 2 2 Z (ie (A8 (D3z _ _ d omm ?_))))))))))))))))))))
  have:=bT.cap d
  subst hR
  exact ci (zq _ _)
 refine A4 (nx (A0 3 Z (bP 1 11 Z (ix Z (B1 (c:=2)) (bP 1 4 Z (A1 (E9 (A3 (bS Z (bP 2 10 Z (ie (A5t Z (F1 (nx (bS Z (bP 2 2 Z ?_))))))))))))))))
 subst hR
 exact ie (A8 (ci (zq _ 1)))
def A1u (c:Cel) (n:Int) (at_:Int) (to_:Int) (pen:Sty) (last:Bool) (out:List (RwD OutC Act)):List (RwD OutC Act) :=
 (bif (((((decide (c.wide=0))&&(decide (c.marks.a=0)))&&(decide (c.marks.b=0)))&&(decide (c.base=32)))&&(decide (c.sty={ZJ with back:=c.sty.back}))) then (B5 (H5 pen ({pen with back:=c.sty.back})) fun (d:jz)=>(bif last then (out++([⟨((([]:jz)++d)++([{ZZ with kind:=30,n:=n}]:jz)),(⟨{pen with back:=c.sty.back},at_⟩:OutC)⟩]:List (RwD OutC Act))) else (out++([⟨(((([]:jz)++d)++([{ZZ with kind:=30,n:=n}]:jz))++([{ZZ with kind:=20,n:=2,m:=n}]:jz)),(⟨{pen with back:=c.sty.back},to_⟩:OutC)⟩]:List (RwD OutC Act))))) else out)
def X0 (c:Cel) (n:Int) (at_:Int) (to_:Int) (pen:Sty) (last:Bool) (d:jz) (e:jz):Nat→jz→Nat→List (RwD OutC Act)
 | 0,_,_=>[]
 | fu1+1,print,i=>(bif (decide ((i:Int)<n)) then (B5 (W9 c) fun (f:jz)=>X0 c n at_ to_ pen last d e fu1 (print++f) (i+1)) else (bif ((((decide (c.wide=0))&&(decide (c.marks.a=0)))&&(decide (c.marks.b=0)))&&(decide ((1:Int)<n))) then A1u c n at_ to_ pen last (([⟨print,(⟨c.sty,to_⟩:OutC)⟩]:List (RwD OutC Act))++([⟨(((([]:jz)++(([]:jz)++d))++e)++([{ZZ with kind:=34,n:=(n - 1)}]:jz)),(⟨c.sty,to_⟩:OutC)⟩]:List (RwD OutC Act))) else A1u c n at_ to_ pen last ([⟨print,(⟨c.sty,to_⟩:OutC)⟩]:List (RwD OutC Act))))
def A4t (c:Cel) (n:Int) (at_:Int) (to_:Int) (pen:Sty) (last:Bool):List (RwD OutC Act) :=
 (B5 (H5 pen c.sty) fun (a:jz)=>(B5 (W9 c) fun (b:jz)=>X0 c n at_ to_ pen last a b ((n - (0:Int)).toNat+1) (([]:jz)++a) 0))
def B0v (l:jz) (n:Nat):Prop:=l.length≤n∧∀ a ∈ l,k6 a
theorem B0v.app {l m:jz} {n k q:Nat} (h:B0v l n) (c:B0v m k) (d:n+k≤q):B0v (l++m) q :=
 ⟨by have:=h.1;have:=c.1;grind,fun a b=>by rcases List.mem_append.1 b with b | b;exact h.2 a b;exact c.2 a b⟩
theorem B0v.one {a:Act} (h:k6 a):B0v [a] 1:=⟨Nat.le_refl _,fun x b=>by grind⟩
theorem B0v.steps (f t:Sty):B0v ([]++H5 f t) 1100:=⟨(A9p f t).1,B8u (A9p f t).2⟩
def G1p (p q:Int) (x:RwD OutC Act):Prop:=B0v x.l 2000∧(x.b.ends=p∨x.b.ends=q)
def C1e (p q:Int) (l:List (RwD OutC Act)):Prop:=∀ x ∈ l,G1p p q x
theorem C1e.app {p:Int} {l:List (RwD OutC Act)} {y:RwD OutC Act} (h:C1e p q l) (b:G1p p q y):C1e p q (l++[y]):=fun x a=>by
 rcases List.mem_append.1 a with a | a
 ·exact h x a
 grind
theorem F5z {k:Int} (c:k=20∨k=30∨k=34) (a:0≤n∧n≤1000) (b:0≤m∧m≤1000) (d:k=20→n≤3):k6 {ZZ with kind:=k,n:=n,m:=m}:=by unfold k6;dsimp only;exact ⟨by omega,Nat.zero_le _,by omega⟩
theorem B5t {c:Cel} {at_:Int} {pen:Sty} {out:List (RwD OutC Act)} (g:0≤n∧n≤200) (h:(1≤out.length∧out.length≤2)∧C1e at_ to_ out):(1≤(A1u c n at_ to_ pen last out).length∧(A1u c n at_ to_ pen last out).length≤3)∧C1e at_ to_ (A1u c n at_ to_ pen last out):=by
 have e:=B0v.steps pen {pen with back:=c.sty.back}
 have d:k6 {ZZ with kind:=30,n:=n}:=F5z (k:=30) (m:=0) opx opx opx opx
 have f:k6 {ZZ with kind:=20,n:=2,m:=n}:=F5z opx opx opx opx
 unfold A1u;simp only [B5]
 generalize (((((decide (c.wide=0))&&(decide (c.marks.a=0)))&&(decide (c.marks.b=0)))&&(decide (c.base=32)))&&(decide (c.sty={ZJ with back:=c.sty.back})))=q
 cases q with
 | false=>grind
 | true =>
  cases last<;>simp only [cond_true,cond_false,List.length_append,List.length_cons,List.length_nil]
  ·exact ⟨by omega,h.2.app ⟨(e.app (B0v.one d) (by decide:1100+1≤1101)).app (B0v.one f) ozw,.inr Z⟩⟩
  ·exact ⟨by omega,h.2.app ⟨e.app (B0v.one d) ozw,.inl Z⟩⟩
theorem C2w {c:Cel} {at_:Int} {pen:Sty} {s g:jz} (f:0≤n∧n≤200) (h:B0v ([]++s) 1100) (j:B0v g 3):∀ (fu:Nat) (d:jz) (i:Nat),n - i<fu→(i:Int)≤n→B0v d (1100+3 * i) →
  (1≤(X0 c n at_ to_ pen last s g fu d i).length∧(X0 c n at_ to_ pen last s g fu d i).length≤3)∧C1e at_ to_ (X0 c n at_ to_ pen last s g fu d i)
 | 0,d,i,h1,h2,h3=>by omega
 | fu+1,d,i,h1,h2,h3=>by
  rw [X0]
  by_cases hc:(i:Int)<n
  ·rw [jQ hc];simp only [cond_true,B5]
   exact C2w f h j fu _ (i+1) opx opx (h3.app (B1b c) opx)
  ·rw [jX hc];simp only [cond_false]
   have l:G1p at_ to_ ⟨d,(⟨c.sty,to_⟩:OutC)⟩:=⟨⟨by have:=h3.1;grind,h3.2⟩,.inr Z⟩
   have e:C1e at_ to_ [⟨d,(⟨c.sty,to_⟩:OutC)⟩]:=fun x o=>by rw [List.mem_singleton.1 o];exact l
   generalize (((decide (c.wide=0))&&(decide (c.marks.a=0)))&&(decide (c.marks.b=0)))=q
   by_cases h1n:(1:Int)<n
   ·have p:k6 {ZZ with kind:=34,n:=(n - (1:Int))}:=F5z (k:=34) (m:=0) opx opx opx opx
    rw [jQ h1n]
    cases q<;>simp only [Bool.and_true,cond_true,cond_false]
    ·exact B5t f ⟨⟨Nat.le_refl 1,(by decide:1≤2)⟩,e⟩
    ·exact B5t f ⟨⟨(by decide:1≤2),Nat.le_refl 2⟩,e.app ⟨((show B0v ([]++([]++s)) 1100 from h).app j (by decide:1100+3≤1103)).app (B0v.one p) ozw,.inr Z⟩⟩
   ·rw [jX h1n,Bool.and_false];simp only [cond_false]
    exact B5t f ⟨⟨Nat.le_refl 1,(by decide:1≤2)⟩,e⟩
theorem C8u {c:Cel} {at_:Int} {pen:Sty} {R:List (RwD OutC Act)} (hR:A4t c n at_ to_ pen last=R) (a:0≤n∧n≤200):(1≤R.length∧R.length≤3)∧C1e at_ to_ R:=by
 subst hR
 unfold A4t;simp only [B5]
 exact C2w a (B0v.steps _ _) (B1b c) _ _ _ opx opx (B0v.steps _ _)
theorem C1e.getD {p:Int} {l:List (RwD OutC Act)} (h:C1e p q l) (i:Nat):B0v (l.getD i (zwd ZW)).l 2000:=by
 rw [List.getD_eq_getElem?_getD]
 cases h3:l[i]? with
 | none=>exact ⟨Nat.zero_le _,fun a b=>by cases b⟩
 | some y=>exact (h y (List.mem_of_getElem? h3)).1
theorem C1e.ends {p:Int} {l:List (RwD OutC Act)} (h:C1e p q l) (a:i<l.length):(l.getD i (zwd ZW)).b.ends=p∨(l.getD i (zwd ZW)).b.ends=q:=by
 rw [List.getD_eq_getElem?_getD,List.getElem?_eq_getElem a];exact (h _ (List.getElem_mem a)).2
theorem old {p:Prop} (h:p:=by first|omega|(simp +zetaDelta only [List.length_append,List.length_cons,List.length_nil,List.nil_append];omega)):p:=h
theorem E6k {c:Cel} {at_:Int} {pen:Sty} {R:List (RwD OutC Act)} (hR:A4t c n at_ to_ pen last=R) (hn:0≤n∧n≤200:=by exact bW):cM prog 43 [ag (D0 c),iv n,iv at_,iv to_,ag (B7 pen),bv last] [] [] ({t:VR×List (RwX OutC) // bT 10 R.length t.1∧A2u t.2 R}) (fun x=>.slice (va x.1.1.q) R.length x.1.1.k) (fun x=>((vo (A0d O6) 74 x.1.1 x.1.2)++([]))) (fun x=>[A8z A2 x.1.2 R]):=by
 refine cD Tryz.func43 fun X hX hr hD=>?_
 rw[A4t]at hR
 refine k_ ?_
 refine F8l 3 0 [] (fun b1 b2=>[(6,pt b1 0),(10,pt b2 0)]) (fun b1 b2=>[bx b2 (B7 pen) 63,bx b1 (D0 c) 71]) (fun b1 b2=>?_)
 refine k_ ?_
 refine ie (kc_ ?_)
 refine bY 4 3 [0,1] [(20,.slice none 0 0),(21,ag (B7 pen)),(23,ag (B7 c.sty))] ?_
 obtain ⟨e,a7,hR⟩:=C3 hR
 refine zcm (C0i (from_:=pen) (to_:=c.sty) a7) A7.nil fun ⟨⟨q3,k4⟩,bu⟩=>?_
 obtain ⟨co,ch⟩:=bu
 have:=(A9p pen c.sty).1;try rw [a7] at this
 refine it Z (Y6 (f:=A2) (r:=VR.nil) (xs:=jZ) (ys:=e) (pre:=[bx b2 (B7 pen) 63,bx b1 (D0 c) 71]) (post:=[]) A0c jJ jJ Z Z Z Z Z Z Z Z (A5 0 Z) bT.nil old old) fun ⟨r8,ax⟩=>?_
 have:=bT.le ax
 have:=bT.cap ax
 refine k_ ?_
 refine it Z (B6s N3 Z Z) fun az=>?_
 have:([]:jz).length=0:=rfl
 refine B2n (I8 [vo A2 51 (⟨some az,0,[]⟩:VR) jZ,[bx b2 (B7 pen) 63],[bx b1 (D0 c) 71],vo A2 51 r8 (jZ++e)] [1,2,0,3] 4 Z ozw Z [[bx b2 (B7 pen) 63],[bx b1 (D0 c) 71],vo A2 51 (⟨some az,0,[]⟩:VR) jZ,vo A2 51 r8 (jZ++e)] Z opl) (k_ ?_)
 refine it Z (F5f (f:=A2) (r:=(⟨some az,0,[]⟩:VR)) (s:=r8) (xs:=jZ) (ys:=(jZ++e)) (pre:=[bx b2 (B7 pen) 63,bx b1 (D0 c) 71]) (post:=((vo A2 51 r8 (jZ++e))++([]))) A0c jJ jJ Z Z Z Z Z Z Z Z (fun z h=>by first|exact List.mem_append_right _ (List.mem_append_right _ (List.mem_append_left _ h))|simp only [List.flatten_cons,List.mem_append,List.mem_cons,h,true_or,or_true]) ax (show bT 6 0 _ from ⟨rfl,Nat.zero_le _,Nat.zero_le _⟩) old old) fun ⟨b6,ar⟩=>?_
 have:=bT.le ar
 have:=bT.cap ar
 refine k_ ?_
 refine ie (kc_ ?_)
 refine bY 2 3 [1] [(29,.slice (va b6.q) ((jZ++(jZ++e)).length) b6.k),(30,ag (D0 c))] ?_
 obtain ⟨g,a9,hR⟩:=C3 hR
 refine zcm (C9r (c:=c) a9) A7.nil fun ⟨⟨b0,cl⟩,ba⟩=>?_
 obtain ⟨c7,c1⟩:=ba
 have:=(B1b c).1;try rw [a9] at this
 refine it Z (Tri.own (Y6 (f:=A2) (r:=b6) (xs:=(jZ++(jZ++e))) (ys:=g) (pre:=[bx b2 (B7 pen) 63,bx b1 (D0 c) 71]) (post:=((vo A2 51 r8 (jZ++e))++([]))) A0c jJ jJ Z Z Z Z Z Z Z ogz (A5 0 Z) ar old old) (fun ⟨aw,ai⟩=>(bx b2 (B7 pen) 63::bx b1 (D0 c) 71::((vo A2 51 aw ((jZ++(jZ++e))++g))++((vo A2 51 r8 (jZ++e))++([]))))) (fun ⟨aw,ai⟩=>by first|rfl|(try dsimp only;simp only [List.append_nil,List.cons_append,List.nil_append,List.append_assoc]))) fun ⟨aw,ai⟩=>?_
 have:=bT.le ai
 have:=bT.cap ai
 refine k_ ?_
 refine ix Z L8 (bY 1 3 [] [(36,ag (A2 ({ZZ with kind:=34,n:=(n - 1)})))] ?_)
 refine it Z (B0 (c:=A2) (xs:=([{ZZ with kind:=34,n:=(n - 1)}]:List Act)) N3 Z Z Z oki) fun b3=>?_
 have:([{ZZ with kind:=34,n:=(n - 1)}]:jz).length=1:=rfl
 refine it Z (Tri.own (Q7 (f:=A2) (r:=aw) (xs:=((jZ++(jZ++e))++g)) (ys:=([{ZZ with kind:=34,n:=(n - 1)}]:jz)) (pre:=[bx b2 (B7 pen) 63,bx b1 (D0 c) 71]) (post:=((vo A2 51 r8 (jZ++e))++([]))) A0c jJ jJ Z Z Z Z Z Z Z Z ogz (A5 0 Z) ai old old) (fun ⟨u,ae⟩=>(bx b2 (B7 pen) 63::bx b1 (D0 c) 71::((vo A2 51 u (((jZ++(jZ++e))++g)++([{ZZ with kind:=34,n:=(n - 1)}]:jz)))++((vo A2 51 r8 (jZ++e))++([]))))) (fun ⟨u,ae⟩=>by first|rfl|(try dsimp only;simp only [List.append_nil,List.cons_append,List.nil_append,List.append_assoc]))) fun ⟨u,ae⟩=>?_
 have:=bT.le ae
 have:=bT.cap ae
 refine k_ ?_
 refine ie (A9 (A1y (un fun (fu:Nat)=>un fun (l:jz)=>un fun (j:VR) (i:Nat)=>((n - (i:Int)).toNat<fu∧X0 c n at_ to_ pen last e g fu l i=R∧bT 6 l.length j∧l.length≤1100+3 * i,[(1,iv n),(2,iv at_),(3,iv to_),(5,bv last),(6,pt b1 0),(10,pt b2 0),(13,.slice (va j.q) l.length j.k),(14,.slice (va u.q) ((((jZ++(jZ++e))++g)++([{ZZ with kind:=34,n:=(n - 1)}]:jz)).length) u.k),(15,iv (i:Int))],(bx b2 (B7 pen) 63::bx b1 (D0 c) 71::((vo A2 51 u (((jZ++(jZ++e))++g)++([{ZZ with kind:=34,n:=(n - 1)}]:jz)))++((vo A2 51 j l)++([])))),[sl A2 (some ⟨b3,0,none⟩) ([{ZZ with kind:=34,n:=(n - 1)}]:jz),sl A2 b0 g,sl A2 q3 e],fu)) (((n - (0:Int)).toNat+1),(jZ++e),r8,0) ⟨(Nat.lt_succ_self _),hR,ax,(by (simp only [List.nil_append];omega))⟩ bU A7.refl ?_))
 rintro ⟨fu,l,j,i⟩ ⟨c4,hR,a5,ce⟩
 have:=bT.le a5
 obtain ⟨fu1,rfl⟩:∃ m,fu=m+1:=⟨fu - 1,by omega⟩
 rw[X0]at hR
 refine k_ ?_
 refine ie ?_
 refine cK Z hR ?_ ?_<;>clear hR<;>intro hR cm cc
 ·refine kc_ ?_
  refine bY 2 3 [1] [(44,.slice (va j.q) l.length j.k),(45,ag (D0 c))] ?_
  obtain ⟨w,a8,hR⟩:=C3 hR
  refine zcm (C9r (c:=c) a8) A7.nil fun ⟨⟨cn,ci⟩,bc⟩=>?_
  obtain ⟨c5,c2⟩:=bc
  have:=(B1b c).1;try rw [a8] at this
  refine B2n (I8 [[bx b2 (B7 pen) 63],[bx b1 (D0 c) 71],vo A2 51 u (((jZ++(jZ++e))++g)++([{ZZ with kind:=34,n:=(n - 1)}]:jz)),vo A2 51 j l] [0,1,3,2] 4 Z ozw Z [[bx b2 (B7 pen) 63],[bx b1 (D0 c) 71],vo A2 51 j l,vo A2 51 u (((jZ++(jZ++e))++g)++([{ZZ with kind:=34,n:=(n - 1)}]:jz))] Z opl) (it Z (Tri.own (Y6 (f:=A2) (r:=j) (xs:=l) (ys:=w) (pre:=[bx b2 (B7 pen) 63,bx b1 (D0 c) 71]) (post:=((vo A2 51 u (((jZ++(jZ++e))++g)++([{ZZ with kind:=34,n:=(n - 1)}]:jz)))++([]))) A0c jJ jJ Z Z Z Z Z Z Z ogz (A5 0 Z) a5 old old) (fun ⟨am,af⟩=>(bx b2 (B7 pen) 63::bx b1 (D0 c) 71::((vo A2 51 am (l++w))++((vo A2 51 u (((jZ++(jZ++e))++g)++([{ZZ with kind:=34,n:=(n - 1)}]:jz)))++([]))))) (fun ⟨am,af⟩=>by first|rfl|(try dsimp only;simp only [List.append_nil,List.cons_append,List.nil_append,List.append_assoc]))) fun ⟨am,af⟩=>?_)
  have:=@List.length_append _ l w
  have:=bT.le af
  have:=bT.cap af
  exact B2n (I8 [[bx b2 (B7 pen) 63],[bx b1 (D0 c) 71],vo A2 51 am (l++w),vo A2 51 u (((jZ++(jZ++e))++g)++([{ZZ with kind:=34,n:=(n - 1)}]:jz))] [0,1,3,2] 4 Z ozw Z [[bx b2 (B7 pen) 63],[bx b1 (D0 c) 71],vo A2 51 u (((jZ++(jZ++e))++g)++([{ZZ with kind:=34,n:=(n - 1)}]:jz)),vo A2 51 am (l++w)] Z opl) (bP 1 13 Z (A1 (nx (A0 3 Z (bP 1 42 Z (ix Z B1 (bP 1 15 Z (A1 (z0 (z1:=(fu1+1,l,j,i)) (fu1,l++w,am,i+1) ⟨opx,hR,af,(by (simp only [List.length_append];omega))⟩)))))))))
 refine kc_ ?_
 refine bY 5 2 [1] [(52,ag (N4 (⟨c.sty,to_⟩:OutC) ⟨va j.q,l.length,j.k⟩))] ?_
 refine P2 (bx b2 (B7 pen) 63::bx b1 (D0 c) 71::((vo A2 51 u (((jZ++(jZ++e))++g)++([{ZZ with kind:=34,n:=(n - 1)}]:jz)))++([]))) [] (T:=51) (c:=A2) (r:=j) (xs:=l) a5 omm ?_
 have:=bT.cap a5
 have ad:A2u ([⟨⟨va j.q,l.length,j.k⟩,(⟨c.sty,to_⟩:OutC)⟩]:List (RwX OutC)) ([⟨l,(⟨c.sty,to_⟩:OutC)⟩]:List (RwD OutC Act)):=(A2u.cons ⟨ooy,osf,osf⟩ Z A2u.none)
 refine D4 (q:=A8z A2 ([⟨⟨va j.q,l.length,j.k⟩,(⟨c.sty,to_⟩:OutC)⟩]:List (RwX OutC)) ([⟨l,(⟨c.sty,to_⟩:OutC)⟩]:List (RwD OutC Act))) (E2c (A5 0 Z) E2u) (it Z (B2t (c:=(A0d O6)) (xs:=([⟨⟨va j.q,l.length,j.k⟩,(⟨c.sty,to_⟩:OutC)⟩]:List (RwX OutC))) C9t Z Z Z oki) fun aq=>?_)
 have:([⟨⟨va j.q,l.length,j.k⟩,(⟨c.sty,to_⟩:OutC)⟩]:List (RwX OutC)).length=1:=rfl
 refine bP 1 16 Z (ie (bS Z (bP 1 54 Z (ix Z (B8 (v:=iv c.wide) cE Z Z 2) (bP 2 57 Z (zid 5 7 57 62 (decide (c.marks.a=0)) (fun bw cb=>?_) ?_))))))
 ·refine k_ ?_
  exact ix Z (A2w Tryz.underlying69 cE Z Z Z 0 Z Z) (ix Z (B8 (v:=iv c.marks.a) cE Z Z 2 Z Z) (bP 2 62 Z (A1 (I1 5 57 62 bw A7.refl bU Z Z Z Z Z))))
 refine bP 1 63 Z (zia 5 1 63 68 (decide (c.marks.b=0)) (fun bd=>?_) ?_)
 ·have ca:=bV bd
  refine k_ ?_
  exact ix Z (A2w Tryz.underlying69 cE Z Z Z 1 Z Z) (ix Z (B8 (v:=iv c.marks.b) cE Z Z 2 Z Z) (bP 2 68 Z (A1 (I1 5 63 68 bd A7.refl bU Z Z Z Z Z))))
 refine bP 1 17 Z (ie (A7i (un fun (out:List (RwD OutC Act))=>un fun (p:VR) (o:List (RwX OutC))=>(A1u c n at_ to_ pen last out=R∧bT 10 out.length p∧A2u o out∧out.length≤2,[(1,iv n),(2,iv at_),(3,iv to_),(5,bv last),(6,pt b1 0),(10,pt b2 0),(16,.slice (va p.q) out.length p.k),(17,bv (((decide (c.wide=0))&&(decide (c.marks.a=0)))&&(decide (c.marks.b=0))))],(bx b2 (B7 pen) 63::bx b1 (D0 c) 71::((vo (A0d O6) 74 p o)++([]))),[A8z A2 ([⟨⟨va j.q,l.length,j.k⟩,(⟨c.sty,to_⟩:OutC)⟩]:List (RwX OutC)) ([⟨l,(⟨c.sty,to_⟩:OutC)⟩]:List (RwD OutC Act)),sl A2 (va j.q) l,sl A2 (some ⟨b3,0,none⟩) ([{ZZ with kind:=34,n:=(n - 1)}]:jz),sl A2 b0 g,sl A2 q3 e,A8z A2 o out])) ?_ ?_))
 ·refine bS Z (bP 2 70 Z (zia 3 0 70 73 (decide ((1:Int)<n)) (fun b9=>?_) ?_))
  ·have c8:=bV b9
   exact bP 3 73 Z (A1 (I1 2 70 73 b9 A7.refl bU Z Z Z Z Z))
  refine ie ?_
  refine zjb Z hR ?_ ?_<;>clear hR<;>intro hR bn
  ·have bi:=bV bn
   refine k_ ?_
   refine ix Z (G6 (us:=B7 c.sty) B4w Z Z 2) (bY 2 3 [] [(79,ag (N4 (⟨c.sty,to_⟩:OutC) ⟨va u.q,(((jZ++(jZ++e))++g)++([{ZZ with kind:=34,n:=(n - 1)}]:jz)).length,u.k⟩))] ?_)
   refine P2 ((vo (A0d O6) 74 (⟨some aq,1,[]⟩:VR) ([⟨⟨va j.q,l.length,j.k⟩,(⟨c.sty,to_⟩:OutC)⟩]:List (RwX OutC)))++(bx b2 (B7 pen) 63::bx b1 (D0 c) 71::[])) [] (T:=51) (c:=A2) (r:=u) (xs:=(((jZ++(jZ++e))++g)++([{ZZ with kind:=34,n:=(n - 1)}]:jz))) ae (by (simp only [K3,List.append_nil];exact Z)) ?_
   have:=bT.cap ae
   refine it Z (B0 (c:=(A0d O6)) (xs:=([⟨⟨va u.q,(((([]:List Act)++(([]:List Act)++e))++g)++([{ZZ with kind:=34,n:=(n - 1)}]:List Act)).length,u.k⟩,(⟨c.sty,to_⟩:OutC)⟩]:List (RwX OutC))) C9t Z Z Z oki) fun cg=>?_
   have ah:A2u ([⟨⟨va u.q,(((([]:jz)++(([]:jz)++e))++g)++([{ZZ with kind:=34,n:=(n - 1)}]:jz)).length,u.k⟩,(⟨c.sty,to_⟩:OutC)⟩]:List (RwX OutC)) ([⟨(((([]:jz)++(([]:jz)++e))++g)++([{ZZ with kind:=34,n:=(n - 1)}]:jz)),(⟨c.sty,to_⟩:OutC)⟩]:List (RwD OutC Act)):=(A2u.cons ⟨ooy,osf,osf⟩ Z A2u.none)
   refine D4 (q:=A8z A2 ([⟨⟨va u.q,(((jZ++(jZ++e))++g)++([{ZZ with kind:=34,n:=(n - 1)}]:jz)).length,u.k⟩,(⟨c.sty,to_⟩:OutC)⟩]:List (RwX OutC)) ([⟨(((jZ++(jZ++e))++g)++([{ZZ with kind:=34,n:=(n - 1)}]:jz)),(⟨c.sty,to_⟩:OutC)⟩]:List (RwD OutC Act))) (E2c (A5 1 Z) E2u) ?_
   have:([⟨⟨va u.q,(((([]:jz)++(([]:jz)++e))++g)++([{ZZ with kind:=34,n:=(n - 1)}]:jz)).length,u.k⟩,(⟨c.sty,to_⟩:OutC)⟩]:List (RwX OutC)).length=1:=rfl
   have bh:A2u (([⟨⟨va j.q,l.length,j.k⟩,(⟨c.sty,to_⟩:OutC)⟩]:List (RwX OutC))++([⟨⟨va u.q,(((([]:jz)++(([]:jz)++e))++g)++([{ZZ with kind:=34,n:=(n - 1)}]:jz)).length,u.k⟩,(⟨c.sty,to_⟩:OutC)⟩]:List (RwX OutC))) (([⟨l,(⟨c.sty,to_⟩:OutC)⟩]:List (RwD OutC Act))++([⟨(((([]:jz)++(([]:jz)++e))++g)++([{ZZ with kind:=34,n:=(n - 1)}]:jz)),(⟨c.sty,to_⟩:OutC)⟩]:List (RwD OutC Act))):=A2u.append ad ah
   refine it Z (D0q (r:=(⟨some aq,1,[]⟩:VR)) (rs:=([⟨⟨va j.q,l.length,j.k⟩,(⟨c.sty,to_⟩:OutC)⟩]:List (RwX OutC))) (xss:=([⟨l,(⟨c.sty,to_⟩:OutC)⟩]:List (RwD OutC Act))) (pre:=[]) (post:=[bx b2 (B7 pen) 63,bx b1 (D0 c) 71]) F4x jJ jJ Z Z Z Z Z Z Z Z (by exact Z) (A5 1 Z) (A5 3 Z) (A5 0 Z) ad ah (show bT 10 1 _ from ⟨rfl,Nat.le_refl _,Nat.le_of_ble_eq_true Z⟩) old old) fun ⟨b4,av⟩=>?_
   have:=bT.le av
   have:=bT.cap av
   have:([⟨l,(⟨c.sty,to_⟩:OutC)⟩]:List (RwD OutC Act)).length=1:=rfl
   have:([⟨(((([]:jz)++(([]:jz)++e))++g)++([{ZZ with kind:=34,n:=(n - 1)}]:jz)),(⟨c.sty,to_⟩:OutC)⟩]:List (RwD OutC Act)).length=1:=rfl
   have:(([⟨l,(⟨c.sty,to_⟩:OutC)⟩]:List (RwD OutC Act))++([⟨(((([]:jz)++(([]:jz)++e))++g)++([{ZZ with kind:=34,n:=(n - 1)}]:jz)),(⟨c.sty,to_⟩:OutC)⟩]:List (RwD OutC Act))).length=([⟨l,(⟨c.sty,to_⟩:OutC)⟩]:List (RwD OutC Act)).length+1:=List.length_append
   refine k_ ?_
   exact Y9 (I8 [vo (A0d O6) 74 b4 (([⟨⟨va j.q,l.length,j.k⟩,(⟨c.sty,to_⟩:OutC)⟩]:List (RwX OutC))++([⟨⟨va u.q,(((([]:List Act)++(([]:List Act)++e))++g)++([{ZZ with kind:=34,n:=(n - 1)}]:List Act)).length,u.k⟩,(⟨c.sty,to_⟩:OutC)⟩]:List (RwX OutC))),[bx b2 (B7 pen) 63],[bx b1 (D0 c) 71]] [1,2,0] 3 Z ozw (by exact Z) [[bx b2 (B7 pen) 63],[bx b1 (D0 c) 71],vo (A0d O6) 74 b4 (([⟨⟨va j.q,l.length,j.k⟩,(⟨c.sty,to_⟩:OutC)⟩]:List (RwX OutC))++([⟨⟨va u.q,(((([]:List Act)++(([]:List Act)++e))++g)++([{ZZ with kind:=34,n:=(n - 1)}]:List Act)).length,u.k⟩,(⟨c.sty,to_⟩:OutC)⟩]:List (RwX OutC)))] Z opv) (S6 ((([⟨l,(⟨c.sty,to_⟩:OutC)⟩]:List (RwD OutC Act))++([⟨(((([]:List Act)++(([]:List Act)++e))++g)++([{ZZ with kind:=34,n:=(n - 1)}]:List Act)),(⟨c.sty,to_⟩:OutC)⟩]:List (RwD OutC Act))),b4,(([⟨⟨va j.q,l.length,j.k⟩,(⟨c.sty,to_⟩:OutC)⟩]:List (RwX OutC))++([⟨⟨va u.q,(((([]:List Act)++(([]:List Act)++e))++g)++([{ZZ with kind:=34,n:=(n - 1)}]:List Act)).length,u.k⟩,(⟨c.sty,to_⟩:OutC)⟩]:List (RwX OutC)))) ⟨hR,av,bh,oqx⟩ bU c9)
  have bi:=bV bn
  exact A4 (Y9 (I8 [vo (A0d O6) 74 (⟨some aq,1,[]⟩:VR) ([⟨⟨va j.q,l.length,j.k⟩,(⟨c.sty,to_⟩:OutC)⟩]:List (RwX OutC)),[bx b2 (B7 pen) 63],[bx b1 (D0 c) 71],vo A2 51 u (((([]:List Act)++(([]:List Act)++e))++g)++([{ZZ with kind:=34,n:=(n - 1)}]:List Act))] [1,2,0,3] 4 Z ozw (by (simp only [K3,List.flatten_cons,List.flatten_nil,List.cons_append,List.append_assoc,List.nil_append,List.append_nil];exact Z)) [[bx b2 (B7 pen) 63],[bx b1 (D0 c) 71],vo (A0d O6) 74 (⟨some aq,1,[]⟩:VR) ([⟨⟨va j.q,l.length,j.k⟩,(⟨c.sty,to_⟩:OutC)⟩]:List (RwX OutC)),vo A2 51 u (((([]:List Act)++(([]:List Act)++e))++g)++([{ZZ with kind:=34,n:=(n - 1)}]:List Act))] Z opv) (S6 (([⟨l,(⟨c.sty,to_⟩:OutC)⟩]:List (RwD OutC Act)),(⟨some aq,1,[]⟩:VR),([⟨⟨va j.q,l.length,j.k⟩,(⟨c.sty,to_⟩:OutC)⟩]:List (RwX OutC))) ⟨hR,(show bT 10 1 _ from ⟨rfl,Nat.le_refl _,Nat.le_of_ble_eq_true Z⟩),ad,oqx⟩ bU c9))
 rintro ⟨out,p,o⟩
 rintro ⟨hR,ab,y,hj⟩
 rw[A1u]at hR
 refine A3 (bS Z (bP 2 83 Z (zia 4 9 83 87 (decide (c.base=32)) (fun b8=>?_) ?_)))
 ·have c3:=bV b8
  exact cB 4 [1] 87 Z (A1 (I1 2 83 87 b8 A7.refl bU Z Z Z Z Z))
 refine bP 1 88 Z (zia 8 0 88 96 (decide (c.sty={ZJ with back:=c.sty.back})) (fun be=>?_) ?_)
 ·have cd:=bV be
  refine bY 6 2 [1,1] [(90,ag (B7 c.sty)),(94,ag (B7 ({ZJ with back:=c.sty.back})))] ?_
  refine ix Z (A3m (a:=c.sty) (b:={ZJ with back:=c.sty.back}) E0h Z Z Z) (k_ ?_)
  exact I1 5 88 96 be A7.refl bU Z Z Z Z Z
 refine ie ?_
 refine zjb Z hR ?_ ?_<;>clear hR<;>intro hR bj
 ·have bl:=bV bj
  refine k_ ?_
  refine D7x 3 0 [0,0] (fun a0=>[(18,pt a0 0)]) (fun a0=>(bx a0 (B7 pen) 63::bx b2 (B7 pen) 63::bx b1 (D0 c) 71::((vo (A0d O6) 74 p o)++([])))) (fun a0=>?_)
  refine kc_ ?_
  refine zrg 5 0 [2,0] [] (bx a0 (B7 ({pen with back:=c.sty.back})) 63::bx b2 (B7 pen) 63::bx b1 (D0 c) 71::((vo (A0d O6) 74 p o)++([]))) ?_
  refine k_ ?_
  refine ie (kc_ ?_)
  refine bY 3 3 [1,0] [(102,.slice none 0 0),(103,ag (B7 pen)),(104,ag (B7 ({pen with back:=c.sty.back})))] ?_
  obtain ⟨d,a6,hR⟩:=C3 hR
  refine zcm (C0i (from_:=pen) (to_:=({pen with back:=c.sty.back})) a6) A7.nil fun ⟨⟨br,cj⟩,bm⟩=>?_
  obtain ⟨c0,c6⟩:=bm
  have:=(A9p pen ({pen with back:=c.sty.back})).1;try rw [a6] at this
  refine it Z (Y6 (f:=A2) (r:=VR.nil) (xs:=jZ) (ys:=d) (pre:=(bx a0 (B7 ({pen with back:=c.sty.back})) 63::bx b2 (B7 pen) 63::bx b1 (D0 c) 71::((vo (A0d O6) 74 p o)++([])))) (post:=[]) A0c jJ jJ Z Z Z Z Z Z Z (by first|exact Z|(simp only [K3,List.append_nil];done)|(simp only [K3,List.append_nil];exact Z)|(simp only [K3,List.flatten_cons,List.flatten_nil,List.cons_append,List.append_assoc,List.nil_append,List.append_nil];done)|(simp only [K3,List.flatten_cons,List.flatten_nil,List.cons_append,List.append_assoc,List.nil_append,List.append_nil];exact Z)) (A5 0 Z) bT.nil old old) fun ⟨an,ao⟩=>?_
  have:=bT.le ao
  have:=bT.cap ao
  refine bP 1 19 Z (kc_ ?_)
  refine bY 3 3 [] [(107,.slice (va an.q) ((jZ++d).length) an.k),(109,ag (A2 ({ZZ with kind:=30,n:=n})))] ?_
  refine it Z (B0 (c:=A2) (xs:=([{ZZ with kind:=30,n:=n}]:List Act)) N3 Z Z Z oki) fun bz=>?_
  have:([{ZZ with kind:=30,n:=n}]:jz).length=1:=rfl
  refine B2n (I8 [[bx a0 (B7 ({pen with back:=c.sty.back})) 63],[bx b2 (B7 pen) 63],[bx b1 (D0 c) 71],vo (A0d O6) 74 p o,vo A2 51 an (jZ++d)] [0,1,2,4,3] 5 Z ozw (by first|exact Z|(simp only [K3,List.append_nil];done)|(simp only [K3,List.append_nil];exact Z)|(simp only [K3,List.flatten_cons,List.flatten_nil,List.cons_append,List.append_assoc,List.nil_append,List.append_nil];done)|(simp only [K3,List.flatten_cons,List.flatten_nil,List.cons_append,List.append_assoc,List.nil_append,List.append_nil];exact Z)) [[bx a0 (B7 ({pen with back:=c.sty.back})) 63],[bx b2 (B7 pen) 63],[bx b1 (D0 c) 71],vo A2 51 an (jZ++d),vo (A0d O6) 74 p o] Z opl) (it Z (Tri.own (Q7 (f:=A2) (r:=an) (xs:=(jZ++d)) (ys:=([{ZZ with kind:=30,n:=n}]:jz)) (pre:=[bx a0 (B7 ({pen with back:=c.sty.back})) 63,bx b2 (B7 pen) 63,bx b1 (D0 c) 71]) (post:=((vo (A0d O6) 74 p o)++([]))) A0c jJ jJ Z Z Z Z Z Z Z Z (by rfl) (A5 0 Z) ao old old) (fun ⟨a1,ac⟩=>(bx a0 (B7 ({pen with back:=c.sty.back})) 63::bx b2 (B7 pen) 63::bx b1 (D0 c) 71::((vo A2 51 a1 ((jZ++d)++([{ZZ with kind:=30,n:=n}]:jz)))++((vo (A0d O6) 74 p o)++([]))))) (fun ⟨a1,ac⟩=>by first|rfl|(try dsimp only;simp only [List.append_nil,List.cons_append,List.nil_append,List.append_assoc]))) fun ⟨a1,ac⟩=>?_)
  have:=bT.le ac
  have:=bT.cap ac
  refine B2n (I8 [[bx a0 (B7 ({pen with back:=c.sty.back})) 63],[bx b2 (B7 pen) 63],[bx b1 (D0 c) 71],vo A2 51 a1 ((jZ++d)++([{ZZ with kind:=30,n:=n}]:jz)),vo (A0d O6) 74 p o] [0,1,2,4,3] 5 Z ozw (by exact Z) [[bx a0 (B7 ({pen with back:=c.sty.back})) 63],[bx b2 (B7 pen) 63],[bx b1 (D0 c) 71],vo (A0d O6) 74 p o,vo A2 51 a1 ((jZ++d)++([{ZZ with kind:=30,n:=n}]:jz))] Z opl) (k_ ?_)
  refine ie ?_
  refine zjb Z hR ?_ ?_<;>clear hR<;>intro hR ck
  ·refine kc_ ?_
   refine bY 5 3 [0] [(113,.slice (va p.q) out.length p.k),(117,ag (N4 (⟨{pen with back:=c.sty.back},at_⟩:OutC) ⟨va a1.q,((jZ++d)++([{ZZ with kind:=30,n:=n}]:jz)).length,a1.k⟩))] ?_
   refine P2 (bx a0 (B7 ({pen with back:=c.sty.back})) 63::bx b2 (B7 pen) 63::bx b1 (D0 c) 71::((vo (A0d O6) 74 p o)++([]))) [] (T:=51) (c:=A2) (r:=a1) (xs:=((jZ++d)++([{ZZ with kind:=30,n:=n}]:jz))) ac (by first|exact Z|(simp only [K3,List.append_nil];done)|(simp only [K3,List.append_nil];exact Z)|(simp only [K3,List.flatten_cons,List.flatten_nil,List.cons_append,List.append_assoc,List.nil_append,List.append_nil];done)|(simp only [K3,List.flatten_cons,List.flatten_nil,List.cons_append,List.append_assoc,List.nil_append,List.append_nil];exact Z)) ?_
   have:=bT.cap ac
   refine it Z (B0 (c:=(A0d O6)) (xs:=([⟨⟨va a1.q,((([]:List Act)++d)++([{ZZ with kind:=30,n:=n}]:List Act)).length,a1.k⟩,(⟨{pen with back:=c.sty.back},at_⟩:OutC)⟩]:List (RwX OutC))) C9t Z Z Z oki) fun cf=>?_
   have aj:A2u ([⟨⟨va a1.q,((([]:jz)++d)++([{ZZ with kind:=30,n:=n}]:jz)).length,a1.k⟩,(⟨{pen with back:=c.sty.back},at_⟩:OutC)⟩]:List (RwX OutC)) ([⟨((([]:jz)++d)++([{ZZ with kind:=30,n:=n}]:jz)),(⟨{pen with back:=c.sty.back},at_⟩:OutC)⟩]:List (RwD OutC Act)):=(A2u.cons ⟨ooy,osf,osf⟩ Z A2u.none)
   refine D4 (q:=A8z A2 ([⟨⟨va a1.q,((jZ++d)++([{ZZ with kind:=30,n:=n}]:jz)).length,a1.k⟩,(⟨{pen with back:=c.sty.back},at_⟩:OutC)⟩]:List (RwX OutC)) ([⟨((jZ++d)++([{ZZ with kind:=30,n:=n}]:jz)),(⟨{pen with back:=c.sty.back},at_⟩:OutC)⟩]:List (RwD OutC Act))) (E2c (A5 1 Z) E2u) ?_
   have:([⟨⟨va a1.q,((([]:jz)++d)++([{ZZ with kind:=30,n:=n}]:jz)).length,a1.k⟩,(⟨{pen with back:=c.sty.back},at_⟩:OutC)⟩]:List (RwX OutC)).length=1:=rfl
   have bg:A2u (o++([⟨⟨va a1.q,((([]:jz)++d)++([{ZZ with kind:=30,n:=n}]:jz)).length,a1.k⟩,(⟨{pen with back:=c.sty.back},at_⟩:OutC)⟩]:List (RwX OutC))) (out++([⟨((([]:jz)++d)++([{ZZ with kind:=30,n:=n}]:jz)),(⟨{pen with back:=c.sty.back},at_⟩:OutC)⟩]:List (RwD OutC Act))):=A2u.append y aj
   refine it Z (D0q (r:=p) (rs:=o) (xss:=out) (pre:=[bx a0 (B7 ({pen with back:=c.sty.back})) 63,bx b2 (B7 pen) 63,bx b1 (D0 c) 71]) (post:=[]) F4x jJ jJ Z Z Z Z Z Z Z Z (by (simp only [K3,List.append_nil];exact Z)) (A5 1 Z) (A5 10 Z) (A5 0 Z) y aj ab old old) fun ⟨bo,ap⟩=>?_
   have:=bT.le ap
   have:=bT.cap ap
   have:([⟨((([]:jz)++d)++([{ZZ with kind:=30,n:=n}]:jz)),(⟨{pen with back:=c.sty.back},at_⟩:OutC)⟩]:List (RwD OutC Act)).length=1:=rfl
   have:(out++([⟨((([]:jz)++d)++([{ZZ with kind:=30,n:=n}]:jz)),(⟨{pen with back:=c.sty.back},at_⟩:OutC)⟩]:List (RwD OutC Act))).length=out.length+1:=List.length_append
   refine k_ ?_
   subst hR
   exact ie (A8 (ci ⟨(bo,(o++([⟨⟨va a1.q,((jZ++d)++([{ZZ with kind:=30,n:=n}]:jz)).length,a1.k⟩,(⟨{pen with back:=c.sty.back},at_⟩:OutC)⟩]:List (RwX OutC)))),⟨ap,bg⟩⟩))
  refine sh' 12 [(12,[bx a0 (B7 ({pen with back:=c.sty.back})) 63]),(12,[bx b2 (B7 pen) 63]),(12,[bx b1 (D0 c) 71]),(10,vo (A0d O6) 74 p o),(5,vo A2 51 a1 ((jZ++d)++([{ZZ with kind:=30,n:=n}]:jz)))] [sl A2 (some ⟨bz,0,none⟩) ([{ZZ with kind:=30,n:=n}]:jz),sl A2 br d,A8z A2 ([⟨⟨va j.q,l.length,j.k⟩,(⟨c.sty,to_⟩:OutC)⟩]:List (RwX OutC)) ([⟨l,(⟨c.sty,to_⟩:OutC)⟩]:List (RwD OutC Act)),sl A2 (va j.q) l,sl A2 (some ⟨b3,0,none⟩) ([{ZZ with kind:=34,n:=(n - 1)}]:jz),sl A2 b0 g,sl A2 q3 e,A8z A2 o out] (bx a0 (B7 ({pen with back:=c.sty.back})) 63::bx b2 (B7 pen) 63::bx b1 (D0 c) 71::((vo (A0d O6) 74 p o)++((vo A2 51 a1 ((jZ++d)++([{ZZ with kind:=30,n:=n}]:jz)))++([])))) (cL 12 0) oki Z oki oki oki bU A7.refl ?_
  refine zhp [0,1,2,7] 8 (cL 12 135) [(120,.slice (va p.q) out.length p.k),(121,.slice (va a1.q) (((jZ++d)++([{ZZ with kind:=30,n:=n}]:jz)).length) a1.k),(122,iv n),(127,iv to_)] ?_
  refine zhk 3 (cL 12 143) Z (A2h (cs:=A2 ({ZZ with kind:=20,n:=2,m:=n})) Z Z oki) ?_
  refine zhl 6 [bx a0 (B7 ({pen with back:=c.sty.back})) 63,bx b2 (B7 pen) 63,bx b1 (D0 c) 71] (cL 12 207) Z (G6 (us:=B7 ({pen with back:=c.sty.back})) B4w Z Z 0) ?_
  refine zho 4 (bx a0 (B7 ({pen with back:=c.sty.back})) 63::bx b2 (B7 pen) 63::bx b1 (D0 c) 71::((vo (A0d O6) 74 p o)++((vo A2 51 a1 ((([]:List Act)++d)++([{ZZ with kind:=30,n:=n}]:List Act)))++([])))) (cL 12 223) Z (B0 (c:=A2) (xs:=([{ZZ with kind:=20,n:=2,m:=n}]:List Act)) N3 Z Z Z oki) (fun bb=>by exact bU) (fun bb=>c9) fun bb=>?_
  have:([{ZZ with kind:=20,n:=2,m:=n}]:jz).length=1:=rfl
  refine zho 5 (bx a0 (B7 ({pen with back:=c.sty.back})) 63::bx b2 (B7 pen) 63::bx b1 (D0 c) 71::((vo (A0d O6) 74 p o)++([]))) (cL 12 255) Z (Tri.own (Q7 (f:=A2) (r:=a1) (xs:=((jZ++d)++([{ZZ with kind:=30,n:=n}]:jz))) (ys:=([{ZZ with kind:=20,n:=2,m:=n}]:jz)) (pre:=(bx a0 (B7 ({pen with back:=c.sty.back})) 63::bx b2 (B7 pen) 63::bx b1 (D0 c) 71::((vo (A0d O6) 74 p o)++([])))) (post:=[]) A0c jJ jJ Z Z Z Z Z Z Z Z (by (simp only [K3,List.flatten_cons,List.flatten_nil,List.cons_append,List.append_assoc,List.nil_append,List.append_nil];done)) (A5 0 Z) ac old old) (fun ⟨a4,aa⟩=>(bx a0 (B7 ({pen with back:=c.sty.back})) 63::bx b2 (B7 pen) 63::bx b1 (D0 c) 71::((vo (A0d O6) 74 p o)++((vo A2 51 a4 (((jZ++d)++([{ZZ with kind:=30,n:=n}]:jz))++([{ZZ with kind:=20,n:=2,m:=n}]:jz)))++([]))))) (fun ⟨a4,aa⟩=>by first|rfl|(try dsimp only;simp only [List.append_nil,List.cons_append,List.nil_append,List.append_assoc]))) (fun ⟨a4,aa⟩=>bU) (fun ⟨a4,aa⟩=>c9) fun ⟨a4,aa⟩=>?_
  have:=bT.le aa
  have:=bT.cap aa
  refine zhk 8 (cL 12 511) Z (A2h (cs:=N4 (⟨{pen with back:=c.sty.back},to_⟩:OutC) ⟨va a4.q,(((jZ++d)++([{ZZ with kind:=30,n:=n}]:jz))++([{ZZ with kind:=20,n:=2,m:=n}]:jz)).length,a4.k⟩) Z Z oki) ?_
  have:=bT.cap aa
  have:=bT.le aa
  refine F0u (bx a0 (B7 ({pen with back:=c.sty.back})) 63::bx b2 (B7 pen) 63::bx b1 (D0 c) 71::((vo (A0d O6) 74 p o)++([]))) [] (T:=51) (c:=A2) (r:=a4) (xs:=(((([]:List Act)++d)++([{ZZ with kind:=30,n:=n}]:List Act))++([{ZZ with kind:=20,n:=2,m:=n}]:List Act))) aa (by (simp only [K3,List.append_nil];exact Z)) (bx a0 (B7 ({pen with back:=c.sty.back})) 63::bx b2 (B7 pen) 63::bx b1 (D0 c) 71::((vo (A0d O6) 74 p o)++([]))) Z (by (simp only [List.append_nil,List.cons_append,List.nil_append,List.append_assoc];exact List.Sublist.refl _)) (zho 9 (bx a0 (B7 ({pen with back:=c.sty.back})) 63::bx b2 (B7 pen) 63::bx b1 (D0 c) 71::((vo (A0d O6) 74 p o)++([]))) (cL 12 1023) Z (B0 (c:=(A0d O6)) (xs:=([⟨⟨va a4.q,(((([]:List Act)++d)++([{ZZ with kind:=30,n:=n}]:List Act))++([{ZZ with kind:=20,n:=2,m:=n}]:List Act)).length,a4.k⟩,(⟨{pen with back:=c.sty.back},to_⟩:OutC)⟩]:List (RwX OutC))) C9t Z Z Z oki) (fun b7=>by (simp only [List.append_nil];exact bU)) (fun b7=>c9) fun b7=>?_)
  have ak:A2u ([⟨⟨va a4.q,(((([]:jz)++d)++([{ZZ with kind:=30,n:=n}]:jz))++([{ZZ with kind:=20,n:=2,m:=n}]:jz)).length,a4.k⟩,(⟨{pen with back:=c.sty.back},to_⟩:OutC)⟩]:List (RwX OutC)) ([⟨(((([]:jz)++d)++([{ZZ with kind:=30,n:=n}]:jz))++([{ZZ with kind:=20,n:=2,m:=n}]:jz)),(⟨{pen with back:=c.sty.back},to_⟩:OutC)⟩]:List (RwD OutC Act)):=(A2u.cons ⟨ooy,osf,osf⟩ Z A2u.none)
  refine C9w (q:=A8z A2 ([⟨⟨va a4.q,(((jZ++d)++([{ZZ with kind:=30,n:=n}]:jz))++([{ZZ with kind:=20,n:=2,m:=n}]:jz)).length,a4.k⟩,(⟨{pen with back:=c.sty.back},to_⟩:OutC)⟩]:List (RwX OutC)) ([⟨(((jZ++d)++([{ZZ with kind:=30,n:=n}]:jz))++([{ZZ with kind:=20,n:=2,m:=n}]:jz)),(⟨{pen with back:=c.sty.back},to_⟩:OutC)⟩]:List (RwD OutC Act))) (E2c (A5 1 Z) E2u) ?_
  have:([⟨⟨va a4.q,(((([]:jz)++d)++([{ZZ with kind:=30,n:=n}]:jz))++([{ZZ with kind:=20,n:=2,m:=n}]:jz)).length,a4.k⟩,(⟨{pen with back:=c.sty.back},to_⟩:OutC)⟩]:List (RwX OutC)).length=1:=rfl
  have bk:A2u (o++([⟨⟨va a4.q,(((([]:jz)++d)++([{ZZ with kind:=30,n:=n}]:jz))++([{ZZ with kind:=20,n:=2,m:=n}]:jz)).length,a4.k⟩,(⟨{pen with back:=c.sty.back},to_⟩:OutC)⟩]:List (RwX OutC))) (out++([⟨(((([]:jz)++d)++([{ZZ with kind:=30,n:=n}]:jz))++([{ZZ with kind:=20,n:=2,m:=n}]:jz)),(⟨{pen with back:=c.sty.back},to_⟩:OutC)⟩]:List (RwD OutC Act))):=A2u.append y ak
  refine zho 10 [bx a0 (B7 ({pen with back:=c.sty.back})) 63,bx b2 (B7 pen) 63,bx b1 (D0 c) 71] (cL 12 2047) Z (D0q (r:=p) (rs:=o) (xss:=out) (pre:=[bx a0 (B7 ({pen with back:=c.sty.back})) 63,bx b2 (B7 pen) 63,bx b1 (D0 c) 71]) (post:=[]) F4x jJ jJ Z Z Z Z Z Z Z Z (by (simp only [K3,List.append_nil];exact Z)) (A5 1 Z) (A5 11 Z) (A5 0 Z) y ak ab old old) (fun ⟨au,al⟩=>bU) (fun ⟨au,al⟩=>c9) fun ⟨au,al⟩=>?_
  have:=bT.le al
  have:=bT.cap al
  have:([⟨(((([]:jz)++d)++([{ZZ with kind:=30,n:=n}]:jz))++([{ZZ with kind:=20,n:=2,m:=n}]:jz)),(⟨{pen with back:=c.sty.back},to_⟩:OutC)⟩]:List (RwD OutC Act)).length=1:=rfl
  have:(out++([⟨(((([]:jz)++d)++([{ZZ with kind:=30,n:=n}]:jz))++([{ZZ with kind:=20,n:=2,m:=n}]:jz)),(⟨{pen with back:=c.sty.back},to_⟩:OutC)⟩]:List (RwD OutC Act))).length=out.length+1:=List.length_append
  refine zhp [11] 0 (cL 12 4095) [(16,.slice (va au.q) ((out++([⟨(((jZ++d)++([{ZZ with kind:=30,n:=n}]:jz))++([{ZZ with kind:=20,n:=2,m:=n}]:jz)),(⟨{pen with back:=c.sty.back},to_⟩:OutC)⟩]:List (RwD OutC Act))).length) au.k)] ?_
  refine C5e oki (k_ ?_)
  subst hR
  exact ie (A8 (ci ⟨(au,(o++([⟨⟨va a4.q,(((jZ++d)++([{ZZ with kind:=30,n:=n}]:jz))++([{ZZ with kind:=20,n:=2,m:=n}]:jz)).length,a4.k⟩,(⟨{pen with back:=c.sty.back},to_⟩:OutC)⟩]:List (RwX OutC)))),⟨al,bk⟩⟩))
 have bl:=bV bj
 refine k_ ?_
 subst hR
 exact ie (A8 (ci ⟨(p,o),⟨ab,y⟩⟩))
def N5 (outL:jz) (at_:Int) (a:Int→OutC→jz→(OutC×jz)):Nat→List (RwD OutC Act)→Nat→Nat→(OutC×jz)
 | 0,_,_,_=>(ZW,[])
 | fu5+1,ways,best,i=>(bif (decide ((i:Int)<(ways.length:Int))) then (bif (decide ((I3 ((ways.getD i (zwd ZW)).l))<(I3 ((ways.getD best (zwd ZW)).l)))) then N5 outL at_ a fu5 ways i (i+1) else N5 outL at_ a fu5 ways best (i+1)) else a at_ (⟨((ways.getD best (zwd ZW)).b).pen,((ways.getD best (zwd ZW)).b).ends⟩:OutC) ((([]:jz)++outL)++(ways.getD best (zwd ZW)).l))
def A0p (l:jk) (to_:Int) (b:Int) (out:OutC) (outL:jz) (a:Int→OutC→jz→(OutC×jz)):Nat→Nat→Int→(OutC×jz)
 | 0,_,_=>(ZW,[])
 | fu3+1,n,at_=>(bif ((decide (at_<to_))&&(decide ((l.getD ((at_).toNat) ZV)=(l.getD ((b).toNat) ZV)))) then (bif (decide ((l.getD ((b).toNat) ZV).wide=1)) then A0p l to_ b out outL a fu3 (n+1) ((at_+1)+1) else A0p l to_ b out outL a fu3 (n+1) (at_+1)) else (B5 (A4t (l.getD ((b).toNat) ZV) (n:Int) b at_ out.pen (decide (at_=to_))) fun (c:List (RwD OutC Act))=>N5 outL at_ a ((c.length - 1)+1) c 0 1))
def S7 (l:jk) (to_:Int):Nat→Int→OutC→jz→(OutC×jz)
 | 0,_,_,_=>(ZW,[])
 | fu1+1,from_1,out,outL=>(bif (decide (from_1<to_)) then A0p l to_ from_1 out outL (S7 l to_ fu1) ((to_ - from_1).toNat+1) 0 from_1 else (out,outL))
def C4 (l:jk) (from_:Int) (to_:Int) (pen:Sty):OutC×jz :=
 S7 l to_ ((to_ - from_).toNat+1) from_ (⟨pen,to_⟩:OutC) ([]:jz)
theorem B2s {outL:jz} {at_:Int} {ag:Int→OutC→jz→(OutC×jz)} {ways:List (RwD OutC Act)}:∀ (fu a i:Nat),ways.length - i<fu→a<ways.length →
  ∃ k,k<ways.length∧N5 outL at_ ag fu ways a i=ag at_ (⟨((ways.getD k (zwd ZW)).b).pen,((ways.getD k (zwd ZW)).b).ends⟩:OutC) ((([]:jz)++outL)++(ways.getD k (zwd ZW)).l)
 | 0,a,i,h,_=>by omega
 | fu+1,a,i,h,hb=>by
  rw [N5]
  by_cases hc:(i:Int)<(ways.length:Int)
  ·rw [jQ hc];simp only [cond_true]
   cases decide (I3 ((ways.getD i (zwd ZW)).l)<I3 ((ways.getD a (zwd ZW)).l)) with
   | true=>simp only [cond_true];exact B2s fu i (i+1) opx opx
   | false=>simp only [cond_false];exact B2s fu a (i+1) opx hb
  ·rw [jX hc];grind
theorem B3g {l:jk} {from_1:Int} {out:OutC} {outL:jz} {ag:Int→OutC→jz→(OutC×jz)} (d:0≤from_∧to_≤l.length∧l.length≤100)
  (a:∀ i:Int,from_≤i→i<to_→(l.getD i.toNat ZV).wide=1→i+1<to_) (m:from_≤from_1∧from_1<to_):∀ (fu n:Nat) (at_:Int),(to_ - at_).toNat<fu→from_1≤at_∧at_≤to_∧(n:Int)≤at_ - from_1∧(n=0→at_=from_1) →
  ∃ (f:Int) (j:OutC) (o:jz),(from_1<f∧f≤to_∧(j.ends=from_1∨j.ends=f)∧o.length≤2000)∧A0p l to_ from_1 out outL ag fu n at_=ag f j ((([]:jz)++outL)++o)
 | 0,n,at_,h,_=>by omega
 | fu+1,n,at_,h,hi=>by
  rw [A0p]
  by_cases hc:at_<to_∧(l.getD ((at_).toNat) ZV)=(l.getD ((from_1).toNat) ZV)
  ·rw [jQ hc.1,jQ hc.2];simp only [Bool.and_true,cond_true]
   by_cases b:(l.getD ((from_1).toNat) ZV).wide=1
   ·have p:=a at_ opx hc.1 (by grind)
    rw [jQ b];simp only [cond_true]
    exact B3g d a m fu (n+1) _ opx opx
   ·rw [jX b];simp only [cond_false]
    exact B3g d a m fu (n+1) _ opx opx
  ·have g:from_1<at_:=by
    refine Decidable.byContradiction fun r=>?_
    have e:at_=from_1:=by omega
    subst e;exact hc ⟨by omega,rfl⟩
   rw [show (decide (at_<to_)&&decide ((l.getD ((at_).toNat) ZV)=(l.getD ((from_1).toNat) ZV)))=false by
    rw [← Bool.decide_and];exact jX hc]
   simp only [cond_false,B5]
   have b:=C8u (c:=l.getD ((from_1).toNat) ZV) (n:=(n:Int)) (at_:=from_1) (to_:=at_) (pen:=out.pen) (last:=decide (at_=to_)) Z opx
   obtain ⟨k,q,e⟩:=B2s (outL:=outL) (at_:=at_) (ag:=ag) (ways:=A4t (l.getD ((from_1).toNat) ZV) (n:Int) from_1 at_ out.pen (decide (at_=to_))) ((A4t (l.getD ((from_1).toNat) ZV) (n:Int) from_1 at_ out.pen (decide (at_=to_))).length - 1+1) 0 1 opx opx
   exact ⟨at_,_,_,⟨g,hi.2.1,b.2.ends q,(b.2.getD k).1⟩,e⟩
theorem C0j {l:jk} (b:0≤from_∧to_≤l.length∧l.length≤100)
  (c:∀ i:Int,from_≤i→i<to_→(l.getD i.toNat ZV).wide=1→i+1<to_):∀ (fu:Nat) (a:Int) (out:OutC) (outL:jz),(to_ - a).toNat<fu→from_≤a∧a≤to_→(0≤out.ends∧out.ends≤to_)→(outL.length:Int)≤2000 * a →
  (0≤(S7 l to_ fu a out outL).1.ends∧(S7 l to_ fu a out outL).1.ends≤to_)∧(S7 l to_ fu a out outL).2.length≤200000
 | 0,a,out,outL,h,_,_,_=>by omega
 | fu+1,a,out,outL,h,hf,ho,hl=>by
  rw [S7]
  by_cases hc:a<to_
  ·rw [jQ hc];simp only [cond_true]
   obtain ⟨d,f,j,g,e⟩:=B3g (outL:=outL) (out:=out) (ag:=S7 l to_ fu) b c ⟨hf.1,hc⟩ ((to_ - a).toNat+1) 0 a opx opx
   rw [e]
   exact C0j b c fu d f _ opx opx opx (by simp only [List.length_append,List.nil_append];omega)
  ·rw [jX hc];simp only [cond_false];exact ⟨ho,by omega⟩
theorem B9s (l:jk) (from_ to_:Int) (pen:Sty) (b:0≤from_∧from_<to_∧to_≤l.length∧l.length≤100) (a:∀ i:Int,from_≤i→i<to_→(l.getD i.toNat ZV).wide=1→i+1<to_) :
  (0≤(C4 l from_ to_ pen).1.ends∧(C4 l from_ to_ pen).1.ends≤to_)∧(C4 l from_ to_ pen).2.length≤200000:=by
 unfold C4
 exact C0j opx a _ _ _ _ opx opx (by grind) (by grind)
theorem C8x {l:jk} {pen:Sty} {R:OutC×jz} (hR:C4 l from_ to_ pen=R) (be:l.length≤9223372036854775807:=by exact bW) (bm:l.length≤lk:=by exact bW) (bd:0≤from_∧from_<to_∧to_≤l.length∧l.length≤100:=by exact bW) (ax:∀ i:Int,from_≤i→i<to_→(l.getD i.toNat ZV).wide=1→i+1<to_:=by exact bW):cM prog 23 [.slice lq l.length lk,iv from_,iv to_,ag (B7 pen)] [] [sl D0 lq l] ({r:VR // bT 6 R.2.length r}) (fun x=>ag (N4 R.1 ⟨va x.1.q,R.2.length,x.1.k⟩)) (fun x=>((vo A2 51 x.1 R.2)++([]))) (fun x=>[]):=by
 refine cD Tryz.func23 fun X hX hr hD=>?_
 rw[C4]at hR
 refine k_ ?_
 refine B3r 2 [] (fun b1 p=>[(7,pt b1 0),(8,pt p 0)]) (fun _ _=>(B7 pen)) (fun _ _=>(N4 ZW ⟨none,0,0⟩)) 63 74 fun b1 p=>?_
 let G:=bx b1 (B7 pen) 63
 let D:=bx p (N4 ZW ⟨none,0,0⟩) 74
 refine ie (k_ ?_)
 refine cI 5 [1,0] (fun t=>[(9,pt t 0)]) (fun _=>(N4 ⟨pen,to_⟩ ⟨none,0,0⟩)) 74 fun t=>?_
 refine ie (k_ ?_)
 refine Y9 (I8 [_,_,_,_] [1,2,3,0] 4 Z ozw Z [[_],[_],[_],vo A2 51 VR.nil []] Z opv) (A1y (un fun fu=>un fun from_1=>un fun out=>un fun outL g=>((to_ - from_1).toNat<fu∧S7 l _ fu from_1 out outL=R∧bT 6 outL.length g∧from_≤from_1∧from_1≤101∧outL.length≤2000 * from_1+2000∧(from_<to_→from_1≤to_),[(0,_),(1,iv from_1),(2,_),(8,_),(9,_)],(bx t (N4 out ⟨va g.q,outL.length,g.k⟩) _::bx p _ _::bx _ _ _::((vo A2 51 g outL)++([]))),_,fu)) (_,_,_,_,_) ⟨(Nat.lt_succ_self _),hR,bT.nil,ojx⟩ (mc _ [true,true,true,true] opl oxs) A7.refl ?_)
 rintro ⟨fu,from_1,out,outL,g⟩ ⟨bb,hR,w,bl⟩
 let U:=sl A2 (va g.q) outL
 let N:=vo A2 51 g outL
 let F:=bx t (N4 out ⟨va g.q,outL.length,g.k⟩) 74
 have:=bT.le w
 obtain ⟨fu1,rfl⟩:∃ m,fu=m+1:=⟨fu - 1,by omega⟩
 rw[S7]at hR
 refine k_ ?_
 refine ie ?_
 refine cK Z hR ?_ ?_<;>intro hR h5 bj
 ·refine k_ ?_
  refine H8 0 Z opx fun a6 ac=>(ix Z (E7 A1n Z Z ac Z ((from_1).toNat) opx opx) (ix Z (J0 D3g Z Z (F8 (sz:=12) ac (fun _=>Z) 0 Z (gd ZV opx)) Z) (cI 5 [0] (fun b8=>[(10,pt b8 0),(11,iv 0),(12,iv from_1)]) (fun _=>(D0 (l.getD ((from_1).toNat) ZV))) 71 fun b8=>?_)))
  let B:=bx b8 (D0 (l.getD ((from_1).toNat) ZV)) 71
  refine ie (k_ ?_)
  refine A1y (un fun ae=>un fun n at_=>((to_ - at_).toNat<ae∧A0p l _ _ _ _ _ ae n at_=R∧from_1≤at_∧at_≤to_∧n≤at_ - from_1∧(n=0→at_=from_1),[(0,_),(1,_),(2,_),(8,_),(9,_),(10,_),(11,iv n),(12,iv at_)],(bx _ _ _::bx t _ _::bx p _ _::bx _ _ _::((vo _ _ g _)++([]))),_,ae)) (_,0,_) ⟨(Nat.lt_succ_self _),hR,opx⟩ (mc [[_],[_],[D],[G],_] [true,true,true,true,true] opl oxs) A7.refl ?_
  rintro ⟨ae,n,at_⟩ ⟨bc,hR,hat⟩
  obtain ⟨fu3,rfl⟩:∃ m,ae=m+1:=⟨ae - 1,by omega⟩
  rw[A0p]at hR
  refine A3 (sd 11 Z oki Z (pd1 4 31 Z (zdd 7 0 31 38 (decide ((l.getD ((at_).toNat) ZV)=(l.getD ((from_1).toNat) ZV))) (fun ay b4=>?_) ?_)))
  ·refine k_ ?_
   refine dd Z (E7 A1n Z Z ac Z ((at_).toNat) opx opx) (dd Z (J0 D3g Z Z (F8 (sz:=12) ac (fun _=>Z) 0 Z (gd ZV opx)) Z) (zdg 1 2 [0] [(36,ag (D0 (l.getD ((from_1).toNat) ZV)))] ?_))
   refine dd Z (A3m E4x Z Z Z) (k_ ?_)
   exact zad 8 31 _ ay
  refine de ?_
  refine zja Z hR ?_ ?_<;>intro hR bk al
  ·refine k_ ?_
   refine ix Z B1 (k_ ?_)
   refine ie (k_ ?_)
   refine ix Z B1 (k_ ?_)
   refine ie (k_ ?_)
   refine ie ?_
   refine cK Z hR ?_ ?_<;>intro hR b9 ar
   ·have bg:=ax at_ opx opx (by rw [al.2];exact ar)
    refine k_ ?_
    refine ix Z B1 (k_ ?_)
    exact A1 (Z0 (_,_,_) ⟨opx,hR,opx⟩ (Nat.lt_succ_self _) (mc [[_],[_],[_],[_],_] [true,true,true,true,true] opl oxs) A7.refl)
   exact A4 (Z0 (_,_,_) ⟨opx,hR,opx⟩ (Nat.lt_succ_self _) (mc [[_],[_],[_],[_],_] [true,true,true,true,true] opl oxs) A7.refl)
  have b7:from_1<at_:=by refine Decidable.byContradiction fun hq=>?_;have e:at_=from_1:=opx;subst e;exact absurd ⟨by omega,rfl⟩ al
  refine k_ ?_
  refine bY 9 2 [0,1] [(48,ag (D0 (l.getD ((from_1).toNat) ZV))),(49,iv n),(50,iv from_1),(51,iv at_),(53,ag (B7 out.pen)),(56,bv (decide (at_=to_)))] ?_
  obtain ⟨a0,a2,hR⟩:=C3 hR
  refine it Z (N9 (L2:=(B::F::D::G::(N++([])))) (E6k (c:=(l.getD ((from_1).toNat) ZV)) (n:=(n:Int)) (at_:=from_1) (to_:=at_) (pen:=out.pen) (last:=(decide (at_=to_))) a2) Z Z Z Z Z A7.nil jK (fun ⟨⟨a9,a3⟩,ad⟩=>(B::F::D::G::((vo (A0d O6) 74 a9 a3)++(N++([]))))) (fun ⟨⟨a9,a3⟩,ad⟩=>I8 [vo (A0d O6) 74 a9 a3,[B],[F],[D],[G],N] [1,2,3,4,0,5] 6 Z ozw opl [[B],[F],[D],[G],vo (A0d O6) 74 a9 a3,N] Z opl)) fun ⟨⟨a9,a3⟩,ad⟩=>?_
  let T:=vo (A0d O6) 74 a9 a3
  try dsimp only at ad
  obtain ⟨aj,am⟩:=ad
  have:=bT.le aj
  have:=am.1
  have aq:=C8u a2 opx
  have:=aq.1;try rw [a2] at this
  refine k_ ?_
  refine ie (k_ ?_)
  refine ie (A9 (D0z (bx _ _ _::bx t _ _::bx p _ _::bx _ _ _::((vo _ _ _ _)++([]))) [] w (by first|exact Z|(simp only [K3,List.append_nil];done)|(simp only [K3,List.append_nil];exact Z)|(simp only [K3,List.flatten_cons,List.flatten_nil,List.cons_append,List.append_assoc,List.nil_append,List.append_nil];done)|(simp only [K3,List.flatten_cons,List.flatten_nil,List.cons_append,List.append_assoc,List.nil_append,List.append_nil];exact Z)) (F4p (L':=(B::F::D::G::(T++([])))) omm (A1y (un fun af=>un fun ways=>un fun o=>un fun h=>un fun j i=>((ways.length - i)<af∧N5 _ _ _ af ways j i=R∧bT _ ways.length o∧A2u h ways∧(j<ways.length∧j<i)∧C1e _ _ ways,[(0,.slice lq l.length lk),(2,iv to_),(8,pt p 0),(9,pt t 0),(12,iv at_),(13,.slice (va o.q) ways.length o.k),(14,iv (j:Int)),(15,iv (i:Int))],(B::F::D::G::((vo (A0d O6) 74 o h)++([]))),[U,A8z A2 a3 a0,sl D0 lq l,A8z A2 h ways],af)) ((a0.length - 1)+1,a0,a9,a3,0,1) ⟨(Nat.lt_succ_self _),hR,aj,am,opx,(by exact aq.2)⟩ (mc [[B],[F],[D],[G],T] [true,true,true,true,true] opl oxs) c9 ?_))))
  rintro ⟨af,ways,o,h,j,i⟩ ⟨az,hR,v,d,ba,aa⟩
  have:=bT.le v
  have:=d.1
  obtain ⟨fu5,rfl⟩:∃ m,af=m+1:=⟨af - 1,by omega⟩
  rw[N5]at hR
  refine k_ ?_
  refine ie ?_
  refine cK Z hR ?_ ?_<;>intro hR b6 b0
  ·refine A4 (nx (A3 (A9 (sd 13 Z oki Z (k_ ?_)))))
   obtain ⟨b20,au⟩:=bT.some v opx
   obtain ⟨aw,ai,ah⟩:=o
   obtain rfl:aw=some b20:=au
   refine B7m (G1l (k:=i) (z:=ZW) d 3 Z (by have:=d.1;omega)) ?_
   have:=F6x d (k:=i) (z:=ZW) (by have:=d.1;omega)
   refine dd Z (Z5 C9t Z Z Z i Z (by have:=d.1;omega)) (k_ ?_)
   refine dd Z (G1 (Y2 (sz:=10) C2z jJ Z Z 4 Z i 0 Z (gd _ (by have:=d.1;omega)) Z) (D7l d (by have:=d.1;omega) (fun n_ b_=>.slice _ (n_) ((h.getD i (zwx ZW)).s.k)))) (zcd (B6m (l:=((ways.getD i (zwd ZW)).l)) (lk:=((h.getD i (zwx ZW)).s.k)) Z bW bW (by first|exact C6w hr6 _|assumption|exact B8u oiu|exact (aa.getD _).2)) c9 ?_)
   refine k_ ?_
   refine B7m (G1l (k:=j) (z:=ZW) d 4 Z (by have:=d.1;omega)) ?_
   have:=F6x d (k:=j) (z:=ZW) (by have:=d.1;omega)
   refine dd Z (Z5 C9t Z Z Z j Z (by have:=d.1;omega)) (k_ ?_)
   refine dd Z (G1 (Y2 (sz:=10) C2z jJ Z Z 4 Z j 0 Z (gd _ (by have:=d.1;omega)) Z) (D7l d (by have:=d.1;omega) (fun n_ b_=>.slice _ (n_) ((h.getD j (zwx ZW)).s.k)))) (zcd (B6m (l:=((ways.getD j (zwd ZW)).l)) (lk:=((h.getD j (zwx ZW)).s.k)) Z bW bW (by first|exact C6w hr6 _|assumption|exact B8u oiu|exact (aa.getD _).2)) c9 ?_)
   refine k_ ?_
   refine cK Z hR ?_ ?_<;>intro hR bh b5
   ·refine k_ ?_
    refine A1 (k_ ?_)
    refine ix Z B1 (k_ ?_)
    exact A1 (Z0 (_,_,_,h,i,_) ⟨opx,hR,v,d,opx,(by exact aa)⟩ (Nat.lt_succ_self _) (mc [[_],[_],[D],[G],vo (A0d O6) 74 (⟨some b20,ai,ah⟩:VR) h] [true,true,true,true,true] opl oxs) c9)
   refine k_ ?_
   refine ix Z B1 (k_ ?_)
   exact A1 (Z0 (_,_,_,h,j,_) ⟨opx,hR,v,d,opx,(by exact aa)⟩ (Nat.lt_succ_self _) (mc [[_],[_],[_],[_],vo _ _ ⟨some b20,ai,ah⟩ h] [true,true,true,true,true] opl oxs) c9)
  refine k_ ?_
  refine ie (k_ ?_)
  refine it Z (Y6 (f:=A2) (r:=VR.nil) (xs:=jZ) (ys:=outL) (pre:=(B::F::D::G::((vo (A0d O6) 74 o h)++([])))) (post:=[]) A0c jJ jJ Z Z Z Z Z Z Z (by first|exact Z|(simp only [K3,List.append_nil];done)|(simp only [K3,List.append_nil];exact Z)|(simp only [K3,List.flatten_cons,List.flatten_nil,List.cons_append,List.append_assoc,List.nil_append,List.append_nil];done)|(simp only [K3,List.flatten_cons,List.flatten_nil,List.cons_append,List.append_assoc,List.nil_append,List.append_nil];exact Z)) (A5 0 Z) bT.nil (by first|omega|(have:=(aa.getD j).1;simp only [List.length_append,List.length_nil,List.nil_append];omega)|(simp only [List.length_cons,List.length_nil,List.length_append,List.length_take,List.length_drop,D6];omega)) (by first|omega|(have:=(aa.getD j).1;simp only [List.length_append,List.length_nil,List.nil_append];omega)|(simp only [List.length_cons,List.length_nil,List.length_append,List.length_take,List.length_drop,D6];omega))) fun ⟨ab,ak⟩=>?_
  let S:=vo A2 51 ab (([]:jz)++outL)
  refine k_ ?_
  refine ie (A6v (G1l (k:=j) (z:=ZW) d 3 Z (by have:=d.1;omega)) ?_)
  have:=F6x d (k:=j) (z:=ZW) (by have:=d.1;omega)
  refine sh 19 [(19,[B]),(18,[F]),(19,[D]),(19,[G]),(19,vo (A0d O6) 74 o h),(6,vo A2 51 ab (jZ++outL))] [sl A2 ((h.getD j (zwx ZW)).s.q) ((ways.getD j (zwd ZW)).l),U,A8z A2 a3 a0,sl D0 lq l,A8z A2 h ways] _ (cL 19 0) oki Z oki oki oki (mc [[B],[F],[D],[G],vo (A0d O6) 74 o h,S] [true,true,true,true,true,true] opl oxs) A7.refl (zhp [0,1,2,7,8,12,13] 12 (cL 19 12679) [(82,.slice (va ab.q) (([]++outL).length) ab.k),(83,.slice (va o.q) ways.length o.k),(84,iv j),(89,.slice (va o.q) ways.length o.k),(90,iv (j:Int)),(94,.slice (va o.q) ways.length o.k),(95,iv (j:Int))] ?_)
  obtain ⟨b28,ap⟩:=bT.some v opx
  obtain ⟨av,a7,a5⟩:=o
  let H:=vo (A0d O6) 74 (⟨some b28,a7,a5⟩:VR) h
  let A:=bx b8 (D0 (l.getD ((from_1).toNat) ZV)) 71::bx t (N4 out ⟨va g.q,outL.length,g.k⟩) 74::bx p (N4 ZW ⟨none,0,0⟩) 74::bx b1 (B7 pen) 63::(H++([]))
  obtain rfl:av=some b28:=ap
  refine zhl 3 A (cL 19 12687) Z (Z5 C9t Z Z Z j Z (by have:=d.1;omega)) ?_
  refine zhp [4] 10 (cL 19 12703) [(86,.pointer (some ⟨b28,j * 10,none⟩))] ?_
  refine zhl 5 (B::F::D::G::(H++(S++([])))) (cL 19 12735) Z (G1 (Y2 (u:=.slice ((h.getD j (zwx ZW)).s.q) ((h.getD j (zwx ZW)).s.n) ((h.getD j (zwx ZW)).s.k)) (c:=(A0d O6)) (sz:=10) C2z jJ Z Z 4 Z j 0 Z (gd (zwx ZW) (by have:=d.1;omega)) Z) (D7l (z:=ZW) d (by have:=d.1;omega) (fun n_ b_=>.slice ((h.getD j (zwx ZW)).s.q) (n_) ((h.getD j (zwx ZW)).s.k)))) ?_
  refine zhl 9 A (cL 19 13247) Z (Z5 C9t Z Z Z j Z (by have:=d.1;omega)) ?_
  refine zhp [10] 7 (cL 19 14271) [(92,.pointer (some ⟨b28,j * 10+1,none⟩))] ?_
  refine zhl 11 A (cL 19 16319) Z (G1 (D2i (us:=B7 (((h.getD j (zwx ZW)).b).pen)) (c:=(A0d O6)) (sz:=10) B4w jJ Z Z 4 Z j 1 Z (gd (zwx ZW) (by have:=d.1;omega)) Z Z) (D7l (z:=ZW) d (by have:=d.1;omega) (fun n_ b_=>ag (B7 ((b_).pen))))) ?_
  refine zhl 14 A (cL 19 32703) Z (Z5 C9t Z Z Z j Z (by have:=d.1;omega)) ?_
  refine zhp [15] 4 (cL 19 65471) [(97,.pointer (some ⟨b28,j * 10+9,none⟩))] ?_
  refine zhl 16 A (cL 19 131007) Z (G1 (Y2 (u:=iv (((h.getD j (zwx ZW)).b).ends)) (c:=(A0d O6)) (sz:=10) cE jJ Z Z 4 Z j 9 Z (gd (zwx ZW) (by have:=d.1;omega)) Z) (D7l (z:=ZW) d (by have:=d.1;omega) (fun n_ b_=>iv ((b_).ends)))) ?_
  refine zho 6 A (cL 19 131071) Z (Tri.own (Y6 (f:=A2) (r:=ab) (xs:=(jZ++outL)) (ys:=(ways.getD j (zwd ZW)).l) (pre:=A) (post:=[]) A0c jJ jJ Z Z Z Z Z Z Z (by first|rfl|(simp only [List.append_nil,List.cons_append,List.nil_append,List.append_assoc];done)|(simp only [K3,List.flatten_cons,List.flatten_nil,List.cons_append,List.append_assoc,List.nil_append,List.append_nil];done)|(simp only [K3,List.flatten_cons,List.flatten_nil,List.cons_append,List.append_assoc,List.nil_append,List.append_nil];exact Z)) (A5 0 Z) ak (by first|omega|(have:=(aa.getD j).1;simp only [List.length_append,List.length_nil,List.nil_append];omega)|(simp only [List.length_cons,List.length_nil,List.length_append,List.length_take,List.length_drop,D6];omega)) (by first|omega|(have:=(aa.getD j).1;simp only [List.length_append,List.length_nil,List.nil_append];omega)|(simp only [List.length_cons,List.length_nil,List.length_append,List.length_take,List.length_drop,D6];omega))) (fun ⟨y,a8⟩=>(B::F::D::G::(H++((vo A2 51 y ((jZ++outL)++(ways.getD j (zwd ZW)).l))++([]))))) (fun ⟨y,a8⟩=>by first|rfl|(try dsimp only;simp only [List.append_nil,List.cons_append,List.nil_append,List.append_assoc]))) (fun ⟨y,a8⟩=>(mc [[B],[F],[D],[G],H,vo A2 51 y ((jZ++outL)++(ways.getD j (zwd ZW)).l)] [true,true,true,true,true,false] opl oxs)) (fun ⟨y,a8⟩=>A7.refl) fun ⟨y,a8⟩=>?_
  let M:=vo A2 51 y ((([]:jz)++outL)++(ways.getD j (zwd ZW)).l)
  let I:=[bx t (N4 (⟨((ways.getD j (zwd ZW)).b).pen,((ways.getD j (zwd ZW)).b).ends⟩:OutC) ⟨va y.q,((([]:jz)++outL)++(ways.getD j (zwd ZW)).l).length,y.k⟩) 74]
  refine zhk 17 (cL 19 262143) Z (A2h (cs:=N4 ⟨((ways.getD j (zwd ZW)).b).pen,((ways.getD j (zwd ZW)).b).ends⟩ ⟨va y.q,(([]++outL)++(ways.getD j (zwd ZW)).l).length,y.k⟩) Z Z oki) ?_
  refine zho 18 (B::D::G::(H++([]))) (cL 19 524287) Z (O9 (us:=N4 (⟨((ways.getD j (zwd ZW)).b).pen,((ways.getD j (zwd ZW)).b).ends⟩:OutC) ⟨va y.q,((jZ++outL)++(ways.getD j (zwd ZW)).l).length,y.k⟩) (cs':=N4 (⟨((ways.getD j (zwd ZW)).b).pen,((ways.getD j (zwd ZW)).b).ends⟩:OutC) ⟨va y.q,((jZ++outL)++(ways.getD j (zwd ZW)).l).length,y.k⟩) F7n Z Z Z 1) (fun _=>(mc [[B],I,[D],[G],H,M] [true,false,true,true,true,false] opl oxs)) (fun _=>A7.refl) fun _=>?_
  exact D6r oki (A0 2 Z (bP 2 1 Z (A1 (Z0 (_,_,_,_,y) ⟨opx,hR,a8,(by (have:=(aa.getD j).1;simp only [List.length_append,List.nil_append];omega))⟩ (Nat.lt_succ_self _) (mc [[B],I,[D],[G],H,M] [false,true,true,true,false,true] opl oxs) c9))))
 refine k_ ?_
 refine zrg 2 0 [0,1] [] (F::bx p (N4 out ⟨va g.q,outL.length,g.k⟩) 74::G::(N++([]))) ?_
 subst hR
 refine k_ ?_
 exact cC hr hD (I9 Z (E8 F7n Z 1)) ⟨g,w⟩ (mc [[_],[_],[_],_] [false,false,false,true] opl oxs) A7.nil
theorem G3g {l:List Sp3} (h:i<l.length):l.getD i ZY ∈ l:=by grind
def V2 (a:FrmC) (b:jj):List Sp3→jz→Nat→Sty→Cur→(jz×Cur)
 | [],out,i,pen,c1=>(B5 (H5 pen ZJ) fun (d:jz)=>((out++d),c1))
 | hd_l0::tl_l0,out,i,pen,c1=>(B5 (A1z c1 (⟨hd_l0.row,hd_l0.frm⟩:Plc)) fun (c:jz)=>(bif (decide (((C4 (b.getD ((hd_l0.row).toNat) []) (hd_l0.frm) (hd_l0.tt) pen).1).ends=a.cols)) then V2 a b tl_l0 ((out++c)++(C4 (b.getD ((hd_l0.row).toNat) []) (hd_l0.frm) (hd_l0.tt) pen).2) (i+1) (((C4 (b.getD ((hd_l0.row).toNat) []) (hd_l0.frm) (hd_l0.tt) pen).1).pen) (⟨hd_l0.row,(((C4 (b.getD ((hd_l0.row).toNat) []) (hd_l0.frm) (hd_l0.tt) pen).1).ends - 1),true⟩:Cur) else V2 a b tl_l0 ((out++c)++(C4 (b.getD ((hd_l0.row).toNat) []) (hd_l0.frm) (hd_l0.tt) pen).2) (i+1) (((C4 (b.getD ((hd_l0.row).toNat) []) (hd_l0.frm) (hd_l0.tt) pen).1).pen) ({ZS with row:=hd_l0.row,col:=((C4 (b.getD ((hd_l0.row).toNat) []) (hd_l0.frm) (hd_l0.tt) pen).1).ends})))
def B5s (a:FrmC) (e:jj) (b:FrmC) (d:jj) (l:List Sp3) (c:Cur):jz×Cur :=
 V2 a d l ([]:jz) 0 ZJ c
theorem oln {p:Prop} (h:p:=by first|omega|(dsimp only;simp +zetaDelta only [List.length_append];omega)):p:=h
theorem D9r {a:FrmC} {aRows:jj} {b:FrmC} {bRows:jj} {l:List Sp3} {c:Cur} {u:List Slc} {o:List Slc} {R:jz×Cur} (hR:B5s a aRows b bRows l c=R) (ad:B4 u aRows:=by exact bW) (b0:aRows.length≤9223372036854775807:=by exact bW) (aw:aRows.length≤aRowsk:=by exact bW) (m:B4 o bRows:=by exact bW) (av:bRows.length≤9223372036854775807:=by exact bW) (b6:bRows.length≤bRowsk:=by exact bW) (bl:l.length≤9223372036854775807:=by exact bW) (bw:l.length≤lk:=by exact bW) (bp:(2≤a.cols∧a.cols≤80)∧(aRows.length≤40∧bRows.length=aRows.length)∧l.length≤3200:=by exact bW) (bn:0≤c.row∧c.row≤40∧0≤c.col∧c.col≤80:=by exact bW) (bb:∀ j,j<bRows.length→((bRows.getD j []).length:Int)=a.cols:=by exact bW) (ba:∀ s ∈ l,(0≤s.row∧s.row<bRows.length∧0≤s.frm∧s.frm<s.tt∧s.tt≤a.cols)∧∀ i:Int,s.frm≤i→i<s.tt→((bRows.getD (s.row).toNat []).getD i.toNat ZV).wide=1→i+1<s.tt:=by exact bW):cM prog 9 [ag (C9 a ⟨h,aRows.length,aRowsk⟩),ag (C9 b ⟨g,bRows.length,bRowsk⟩),.slice lq l.length lk,ag (F5 c)] [] [sl F0 h u,D8 D0 u aRows,sl F0 g o,D8 D0 o bRows,sl H1 lq l] ({r:VR // bT 6 R.1.length r}) (fun x=>.tuple #[.slice (va x.1.q) R.1.length x.1.k,ag (F5 R.2)]) (fun x=>((vo A2 51 x.1 R.1)++([]))) (fun x=>[]):=by
 let Y:=vo A2 51 VR.nil ([]:jz)
 refine cD Tryz.func9 fun X hX hr hD=>?_
 rw[B5s]at hR
 have:=ad.1
 have:=m.1
 refine k_ ?_
 refine D8c 4 1 [] (fun z w y=>[(4,pt z 0),(5,pt w 0),(7,pt y 0)]) (fun z w y=>[bx y (F5 c) 29,bx w (C9 b ⟨g,bRows.length,bRowsk⟩) 26,bx z (C9 a ⟨h,aRows.length,aRowsk⟩) 26]) (fun z w y=>?_)
 let W:=bx y (F5 c) 29
 let D:=bx z (C9 a ⟨h,aRows.length,aRowsk⟩) 26
 let B:=bx w (C9 b ⟨g,bRows.length,bRowsk⟩) 26
 refine D7x 1 0 [] (fun b4=>[(9,pt b4 0)]) (fun b4=>[bx b4 (F5 ZS) 29,W,B,D]) (fun b4=>?_)
 let F:=bx b4 (F5 ZS) 29
 refine k_ ?_
 refine ie (k_ ?_)
 refine D7x 1 0 [] (fun b5=>[(11,pt b5 0)]) (fun b5=>[bx b5 (B7 ZJ) 63,F,W,B,D]) (fun b5=>?_)
 let Zb:=[bx b5 (B7 ZJ) 63]
 refine k_ ?_
 refine ie (A9 (Y9 (I8 [Y,Zb,[F],[W],[B],[D]] [1,2,3,4,5,0] 6 Z ozw Z [Zb,[F],[W],[B],[D],Y] Z opv) (A1y (un fun (out:jz)=>un fun (t:VR)=>un fun (i:Nat)=>un fun (pen:Sty) (c1:Cur)=>(i≤l.length∧V2 a bRows (l.drop i) out i pen c1=R∧bT 6 out.length t∧0≤c1.row∧c1.row≤40∧0≤c1.col∧c1.col≤80∧out.length≤300000 * i,[(2,.slice lq l.length lk),(4,pt z 0),(5,pt w 0),(7,pt y 0),(9,pt b4 0),(10,.slice (va t.q) out.length t.k),(11,pt b5 0),(12,iv (i:Int))],(bx b5 (B7 pen) 63::F::bx y (F5 c1) 29::B::D::((vo A2 51 t out)++([]))),[sl F0 h u,D8 D0 u aRows,sl F0 g o,D8 D0 o bRows,sl H1 lq l],l.length - i)) (jZ,VR.nil,0,ZJ,c) ⟨opx,hR,bT.nil,ojx⟩ bU A7.refl ?_)))
 rintro ⟨out,t,i,pen,c1⟩ ⟨bk,hR,aa,bz⟩
 let Zc:=(vo A2 51 t out)++([])
 let N:=bx y (F5 c1) 29
 let M:=bx b5 (B7 pen) 63
 have:=bT.le aa
 refine A3 (bS Z (bP 4 18 Z (ie (G3 Z (fun h7=>?_) (fun h7=>?_)))))
 ·have ay:=bV h7
  rw [A1a ZY (show i<l.length by omega)] at hR;rw[V2]at hR
  have ap:=ba _ (G3g (l:=l) (i:=i) opx)
  have bo:=bb ((l.getD i ZY).row).toNat opx
  refine k_ ?_
  refine H8 4 Z opx fun a8 aq=>(ix Z (E7 C6l Z Z aq Z i) (ix Z (J0 (us:=H1 (l.getD i ZY)) E8u Z Z (F8 (c:=H1) (sz:=3) aq jJ 4 Z (gd ZY opx)) Z) (D7x 2 0 [0] (fun p=>[(13,pt p 0)]) (fun p=>(bx p (H1 (l.getD i ZY)) 37::M::F::N::B::D::Zc)) (fun p=>?_))))
  let I:=bx p (H1 (l.getD i ZY)) 37
  refine kc_ ?_
  refine bY 7 3 [3,0,0] [(25,.slice (va t.q) out.length t.k),(26,ag (F5 c1)),(31,ag (A0n (⟨(l.getD i ZY).row,(l.getD i ZY).frm⟩:Plc)))] ?_
  obtain ⟨e,a7,hR⟩:=C3 hR
  refine zc Z (E4j a7) fun ⟨⟨b9,br⟩,ax⟩=>?_
  obtain ⟨bc,bi⟩:=ax
  have:=D6s c1 (⟨(l.getD i ZY).row,(l.getD i ZY).frm⟩:Plc) (by first|omega|(dsimp only;omega));try rw [a7] at this
  refine it Z (Y6 (f:=A2) (r:=t) (xs:=out) (ys:=e) (pre:=[I,M,F,N,B,D]) (post:=[]) A0c jJ jJ Z Z Z Z Z Z Z Z (A5 0 Z) aa ore ore) fun ⟨a0,ah⟩=>?_
  let S:=vo A2 51 a0 (out++e)
  let A:=bx p (H1 (l.getD i ZY)) 37::bx b5 (B7 pen) 63::bx b4 (F5 ZS) 29::bx y (F5 c1) 29::bx w (C9 b ⟨g,bRows.length,bRowsk⟩) 26::bx z (C9 a ⟨h,aRows.length,aRowsk⟩) 26::(S++([]))
  have:=@List.length_append _ out e
  have:=bT.lc ah
  refine bP 1 10 Z (ie (A6v (Q6 (k:=((l.getD i ZY).row).toNat) (d:=jY) m 4 Z (by have:=m.1;omega)) ?_))
  have:=Q9 m (k:=((l.getD i ZY).row).toNat) (d:=(⟨none,0,0⟩:Slc)) (by have:=m.1;omega)
  refine sh 14 [(14,[I]),(14,[M]),(14,[F]),(14,[N]),(14,[B]),(14,[D]),(14,vo A2 51 a0 (out++e))] [sl D0 ((o.getD (((l.getD i ZY).row).toNat) jY).q) (bRows.getD (((l.getD i ZY).row).toNat) []),sl A2 b9 e,sl F0 h u,D8 D0 u aRows,sl F0 g o,D8 D0 o bRows,sl H1 lq l] A (cL 14 0) oki Z oki oki oki bU A7.refl ?_
  refine zhp [0,2,6,8] 10 (cL 14 325) [(34,pt w 1),(36,pt p 0),(40,pt p 1),(42,pt p 2)] ?_
  refine zhl 1 A (cL 14 327) Z (B8 (v:=.slice g bRows.length bRowsk) F2i Z Z 4) ?_
  refine zhl 3 A (cL 14 335) Z (B8 (v:=iv ((l.getD i ZY).row)) cE Z Z 0 Z Z) ?_
  refine B9j 4 Z (by have:=m.1;omega) fun bj al=>(zhk 4 (cL 14 351) Z (E7 B0s Z Z al Z (((l.getD i ZY).row).toNat) opx opx) ?_)
  refine zhk 5 (cL 14 383) Z (G1 (B6 (v:=.slice ((o.getD (((l.getD i ZY).row).toNat) (⟨none,0,0⟩:Slc)).q) ((o.getD (((l.getD i ZY).row).toNat) (⟨none,0,0⟩:Slc)).n) ((o.getD (((l.getD i ZY).row).toNat) (⟨none,0,0⟩:Slc)).k)) (us:=[.slice ((o.getD (((l.getD i ZY).row).toNat) (⟨none,0,0⟩:Slc)).q) ((o.getD (((l.getD i ZY).row).toNat) (⟨none,0,0⟩:Slc)).n) ((o.getD (((l.getD i ZY).row).toNat) (⟨none,0,0⟩:Slc)).k)]) B5c Z Z (F8 (c:=F0) (sz:=1) al (fun _=>Z) 4 Z (gd (⟨none,0,0⟩:Slc) (by have:=m.1;omega))) Z) (M2 m (by have:=m.1;omega))) ?_
  refine zhl 7 A (cL 14 511) Z (B8 (v:=iv ((l.getD i ZY).frm)) cE Z Z 0 Z Z) ?_
  refine zhl 9 A (cL 14 1023) Z (B8 (v:=iv ((l.getD i ZY).tt)) cE Z Z 0 Z Z) ?_
  refine zhl 10 A (cL 14 2047) Z (G6 (us:=B7 pen) B4w Z Z 1 Z Z Z) ?_
  refine E4k 11 12 oki ?_ ?_
  ·refine F4f 11 A (cL 14 4095) Z Z Z oki oki oki (N9 (L2:=A) (C8x Z bW bW bW (by first|exact ap.2|assumption)) Z Z Z Z Z c9 (List.Perm.refl _) (fun ⟨a4,ac⟩=>(I::M::F::N::B::D::((vo A2 51 a4 ((C4 (bRows.getD (((l.getD i ZY).row).toNat) []) ((l.getD i ZY).frm) ((l.getD i ZY).tt) pen).2))++(S++([]))))) (fun ⟨a4,ac⟩=>I8 [vo A2 51 a4 ((C4 (bRows.getD (((l.getD i ZY).row).toNat) []) ((l.getD i ZY).frm) ((l.getD i ZY).tt) pen).2),[I],[M],[F],[N],[B],[D],S] [1,2,3,4,5,6,0,7] 8 Z ozw opl [[I],[M],[F],[N],[B],[D],vo A2 51 a4 ((C4 (bRows.getD (((l.getD i ZY).row).toNat) []) ((l.getD i ZY).frm) ((l.getD i ZY).tt) pen).2),S] Z opl)) (fun ⟨a4,ac⟩=>bU) (fun ⟨a4,ac⟩=>A7.refl) fun ⟨a4,ac⟩=>?_
   have:=bT.lc ac
   have az:=B9s (bRows.getD (((l.getD i ZY).row).toNat) []) ((l.getD i ZY).frm) ((l.getD i ZY).tt) pen opx (by first|exact ap.2|assumption)
   refine zho 12 A (cL 14 8191) Z (A5p (cs:=N4 ZW ⟨none,0,0⟩) F6n Z) (fun af=>bU) (fun af=>A7.refl) fun af=>?_
   let G:=bx af (N4 ((C4 (bRows.getD (((l.getD i ZY).row).toNat) []) ((l.getD i ZY).frm) ((l.getD i ZY).tt) pen).1) ⟨va a4.q,((C4 (bRows.getD (((l.getD i ZY).row).toNat) []) ((l.getD i ZY).frm) ((l.getD i ZY).tt) pen).2).length,a4.k⟩) 74
   refine zho 13 A (cL 14 16383) Z (O9 (us:=N4 ((C4 (bRows.getD (((l.getD i ZY).row).toNat) []) ((l.getD i ZY).frm) ((l.getD i ZY).tt) pen).1) ⟨va a4.q,((C4 (bRows.getD (((l.getD i ZY).row).toNat) []) ((l.getD i ZY).frm) ((l.getD i ZY).tt) pen).2).length,a4.k⟩) (cs':=N4 ((C4 (bRows.getD (((l.getD i ZY).row).toNat) []) ((l.getD i ZY).frm) ((l.getD i ZY).tt) pen).1) ⟨va a4.q,((C4 (bRows.getD (((l.getD i ZY).row).toNat) []) ((l.getD i ZY).frm) ((l.getD i ZY).tt) pen).2).length,a4.k⟩) F7n Z Z Z 0) (fun _=>bU) (fun _=>A7.refl) fun _=>?_
   refine D6r oki (k_ ?_)
   refine P2 [G,I,M,F,N,B,D] (S++([])) (T:=51) (c:=A2) (r:=a4) (xs:=(C4 (bRows.getD (((l.getD i ZY).row).toNat) []) ((l.getD i ZY).frm) ((l.getD i ZY).tt) pen).2) ac omm (it Z (Y6 (f:=A2) (r:=a0) (xs:=(out++e)) (ys:=(C4 (bRows.getD (((l.getD i ZY).row).toNat) []) ((l.getD i ZY).frm) ((l.getD i ZY).tt) pen).2) (pre:=[G,I,M,F,N,B,D]) (post:=[]) A0c jJ jJ Z Z Z Z Z Z Z Z (A5 0 Z) ah ore ore) fun ⟨ao,aj⟩=>?_)
   have:=@List.length_append _ out e
   have:=@List.length_append _ (out++e) ((C4 (bRows.getD (((l.getD i ZY).row).toNat) []) ((l.getD i ZY).frm) ((l.getD i ZY).tt) pen).2)
   have:=bT.lc aj
   refine k_ ?_
   refine ie (kc_ ?_)
   refine zrg 3 0 [0,2] [] (G::I::bx b5 (B7 (((C4 (bRows.getD (((l.getD i ZY).row).toNat) []) ((l.getD i ZY).frm) ((l.getD i ZY).tt) pen).1).pen)) 63::F::N::B::D::((vo A2 51 ao ((out++e)++(C4 (bRows.getD (((l.getD i ZY).row).toNat) []) ((l.getD i ZY).frm) ((l.getD i ZY).tt) pen).2))++([]))) ?_
   refine kc_ ?_
   refine zrg 6 0 [1,0,4] [] (bx af (N4 ((C4 (bRows.getD (((l.getD i ZY).row).toNat) []) ((l.getD i ZY).frm) ((l.getD i ZY).tt) pen).1) ⟨va a4.q,((C4 (bRows.getD (((l.getD i ZY).row).toNat) []) ((l.getD i ZY).frm) ((l.getD i ZY).tt) pen).2).length,a4.k⟩) 74::I::bx b5 (B7 (((C4 (bRows.getD (((l.getD i ZY).row).toNat) []) ((l.getD i ZY).frm) ((l.getD i ZY).tt) pen).1).pen)) 63::F::bx y (F5 ({ZS with row:=(l.getD i ZY).row,col:=((C4 (bRows.getD (((l.getD i ZY).row).toNat) []) ((l.getD i ZY).frm) ((l.getD i ZY).tt) pen).1).ends})) 29::B::D::((vo A2 51 ao ((out++e)++(C4 (bRows.getD (((l.getD i ZY).row).toNat) []) ((l.getD i ZY).frm) ((l.getD i ZY).tt) pen).2))++([]))) ?_
   refine kc_ ?_
   refine cB 5 [0,6] 61 Z (ie ?_)
   refine cK Z hR ?_ ?_<;>intro hR bm bh
   ·refine k_ ?_
    refine ix Z (L8 Z Z Z Z opx) (zrg 2 0 [4] [] (bx af (N4 ((C4 (bRows.getD (((l.getD i ZY).row).toNat) []) ((l.getD i ZY).frm) ((l.getD i ZY).tt) pen).1) ⟨va a4.q,((C4 (bRows.getD (((l.getD i ZY).row).toNat) []) ((l.getD i ZY).frm) ((l.getD i ZY).tt) pen).2).length,a4.k⟩) 74::I::bx b5 (B7 (((C4 (bRows.getD (((l.getD i ZY).row).toNat) []) ((l.getD i ZY).frm) ((l.getD i ZY).tt) pen).1).pen)) 63::F::bx y (F5 (⟨(l.getD i ZY).row,(((C4 (bRows.getD (((l.getD i ZY).row).toNat) []) ((l.getD i ZY).frm) ((l.getD i ZY).tt) pen).1).ends - 1),true⟩:Cur)) 29::B::D::((vo A2 51 ao ((out++e)++(C4 (bRows.getD (((l.getD i ZY).row).toNat) []) ((l.getD i ZY).frm) ((l.getD i ZY).tt) pen).2))++([]))) ?_)
    refine k_ ?_
    refine ix Z (B1 Z Z Z Z opx) (k_ ?_)
    exact A1 (Z0 (z1:=(out,t,i,pen,c1)) ((out++e)++(C4 (bRows.getD (((l.getD i ZY).row).toNat) []) ((l.getD i ZY).frm) ((l.getD i ZY).tt) pen).2,ao,i+1,((C4 (bRows.getD (((l.getD i ZY).row).toNat) []) ((l.getD i ZY).frm) ((l.getD i ZY).tt) pen).1).pen,(⟨(l.getD i ZY).row,(((C4 (bRows.getD (((l.getD i ZY).row).toNat) []) ((l.getD i ZY).frm) ((l.getD i ZY).tt) pen).1).ends - 1),true⟩:Cur)) ⟨opx,hR,aj,oln⟩ olr bU c9)
   refine k_ ?_
   refine ix Z (B1 Z Z Z Z opx) (k_ ?_)
   exact A1 (Z0 (z1:=(out,t,i,pen,c1)) ((out++e)++(C4 (bRows.getD (((l.getD i ZY).row).toNat) []) ((l.getD i ZY).frm) ((l.getD i ZY).tt) pen).2,ao,i+1,((C4 (bRows.getD (((l.getD i ZY).row).toNat) []) ((l.getD i ZY).frm) ((l.getD i ZY).tt) pen).1).pen,{ZS with row:=(l.getD i ZY).row,col:=((C4 (bRows.getD (((l.getD i ZY).row).toNat) []) ((l.getD i ZY).frm) ((l.getD i ZY).tt) pen).1).ends}) ⟨opx,hR,aj,oln⟩ olr bU c9)
  ·refine F4f 12 A (cL 14 6143) Z Z Z oki oki oki (A5p (cs:=N4 ZW ⟨none,0,0⟩) F6n Z) (fun a9=>bU) (fun a9=>A7.refl) fun a9=>?_
   let U:=bx a9 (N4 ZW ⟨none,0,0⟩) 74
   refine zho 11 A (cL 14 8191) Z (N9 (L2:=(U::A)) (C8x Z bW bW bW (by first|exact ap.2|assumption)) Z Z Z Z Z c9 (List.Perm.refl _) (fun ⟨a3,ab⟩=>(U::I::M::F::N::B::D::((vo A2 51 a3 ((C4 (bRows.getD (((l.getD i ZY).row).toNat) []) ((l.getD i ZY).frm) ((l.getD i ZY).tt) pen).2))++(S++([]))))) (fun ⟨a3,ab⟩=>I8 [vo A2 51 a3 ((C4 (bRows.getD (((l.getD i ZY).row).toNat) []) ((l.getD i ZY).frm) ((l.getD i ZY).tt) pen).2),[U],[I],[M],[F],[N],[B],[D],S] [1,2,3,4,5,6,7,0,8] 9 Z ozw opl [[U],[I],[M],[F],[N],[B],[D],vo A2 51 a3 ((C4 (bRows.getD (((l.getD i ZY).row).toNat) []) ((l.getD i ZY).frm) ((l.getD i ZY).tt) pen).2),S] Z opl)) (fun ⟨a3,ab⟩=>bU) (fun ⟨a3,ab⟩=>A7.refl) fun ⟨a3,ab⟩=>?_
   let H:=bx a9 (N4 ((C4 (bRows.getD (((l.getD i ZY).row).toNat) []) ((l.getD i ZY).frm) ((l.getD i ZY).tt) pen).1) ⟨va a3.q,((C4 (bRows.getD (((l.getD i ZY).row).toNat) []) ((l.getD i ZY).frm) ((l.getD i ZY).tt) pen).2).length,a3.k⟩) 74
   have:=bT.lc ab
   have az:=B9s (bRows.getD (((l.getD i ZY).row).toNat) []) ((l.getD i ZY).frm) ((l.getD i ZY).tt) pen opx (by first|exact ap.2|assumption)
   refine zho 13 A (cL 14 16383) Z (O9 (us:=N4 ((C4 (bRows.getD (((l.getD i ZY).row).toNat) []) ((l.getD i ZY).frm) ((l.getD i ZY).tt) pen).1) ⟨va a3.q,((C4 (bRows.getD (((l.getD i ZY).row).toNat) []) ((l.getD i ZY).frm) ((l.getD i ZY).tt) pen).2).length,a3.k⟩) (cs':=N4 ((C4 (bRows.getD (((l.getD i ZY).row).toNat) []) ((l.getD i ZY).frm) ((l.getD i ZY).tt) pen).1) ⟨va a3.q,((C4 (bRows.getD (((l.getD i ZY).row).toNat) []) ((l.getD i ZY).frm) ((l.getD i ZY).tt) pen).2).length,a3.k⟩) F7n Z Z Z 0) (fun _=>bU) (fun _=>A7.refl) fun _=>?_
   refine D6r oki (k_ ?_)
   refine P2 [H,I,M,F,N,B,D] (S++([])) (T:=51) (c:=A2) (r:=a3) (xs:=(C4 (bRows.getD (((l.getD i ZY).row).toNat) []) ((l.getD i ZY).frm) ((l.getD i ZY).tt) pen).2) ab omm (it Z (Y6 (f:=A2) (r:=a0) (xs:=(out++e)) (ys:=(C4 (bRows.getD (((l.getD i ZY).row).toNat) []) ((l.getD i ZY).frm) ((l.getD i ZY).tt) pen).2) (pre:=[H,I,M,F,N,B,D]) (post:=[]) A0c jJ jJ Z Z Z Z Z Z Z Z (A5 0 Z) ah ore ore) fun ⟨am,ak⟩=>?_)
   have:=@List.length_append _ out e
   have:=@List.length_append _ (out++e) ((C4 (bRows.getD (((l.getD i ZY).row).toNat) []) ((l.getD i ZY).frm) ((l.getD i ZY).tt) pen).2)
   have:=bT.lc ak
   refine k_ ?_
   refine ie (kc_ ?_)
   refine zrg 3 0 [0,2] [] (H::I::bx b5 (B7 (((C4 (bRows.getD (((l.getD i ZY).row).toNat) []) ((l.getD i ZY).frm) ((l.getD i ZY).tt) pen).1).pen)) 63::F::N::B::D::((vo A2 51 am ((out++e)++(C4 (bRows.getD (((l.getD i ZY).row).toNat) []) ((l.getD i ZY).frm) ((l.getD i ZY).tt) pen).2))++([]))) ?_
   refine kc_ ?_
   refine zrg 6 0 [1,0,4] [] (bx a9 (N4 ((C4 (bRows.getD (((l.getD i ZY).row).toNat) []) ((l.getD i ZY).frm) ((l.getD i ZY).tt) pen).1) ⟨va a3.q,((C4 (bRows.getD (((l.getD i ZY).row).toNat) []) ((l.getD i ZY).frm) ((l.getD i ZY).tt) pen).2).length,a3.k⟩) 74::I::bx b5 (B7 (((C4 (bRows.getD (((l.getD i ZY).row).toNat) []) ((l.getD i ZY).frm) ((l.getD i ZY).tt) pen).1).pen)) 63::F::bx y (F5 ({ZS with row:=(l.getD i ZY).row,col:=((C4 (bRows.getD (((l.getD i ZY).row).toNat) []) ((l.getD i ZY).frm) ((l.getD i ZY).tt) pen).1).ends})) 29::B::D::((vo A2 51 am ((out++e)++(C4 (bRows.getD (((l.getD i ZY).row).toNat) []) ((l.getD i ZY).frm) ((l.getD i ZY).tt) pen).2))++([]))) ?_
   refine kc_ ?_
   refine cB 5 [0,6] 61 Z (ie ?_)
   refine cK Z hR ?_ ?_<;>intro hR bu bg
   ·refine k_ ?_
    refine ix Z L8 (zrg 2 0 [4] [] (bx a9 (N4 ((C4 (bRows.getD (((l.getD i ZY).row).toNat) []) ((l.getD i ZY).frm) ((l.getD i ZY).tt) pen).1) ⟨va a3.q,((C4 (bRows.getD (((l.getD i ZY).row).toNat) []) ((l.getD i ZY).frm) ((l.getD i ZY).tt) pen).2).length,a3.k⟩) 74::I::bx b5 (B7 (((C4 (bRows.getD (((l.getD i ZY).row).toNat) []) ((l.getD i ZY).frm) ((l.getD i ZY).tt) pen).1).pen)) 63::F::bx y (F5 (⟨(l.getD i ZY).row,(((C4 (bRows.getD (((l.getD i ZY).row).toNat) []) ((l.getD i ZY).frm) ((l.getD i ZY).tt) pen).1).ends - 1),true⟩:Cur)) 29::B::D::((vo A2 51 am ((out++e)++(C4 (bRows.getD (((l.getD i ZY).row).toNat) []) ((l.getD i ZY).frm) ((l.getD i ZY).tt) pen).2))++([]))) ?_)
    refine k_ ?_
    refine ix Z B1 (k_ ?_)
    exact A1 (z0 (z1:=(out,t,i,pen,c1)) ((out++e)++(C4 (bRows.getD (((l.getD i ZY).row).toNat) []) ((l.getD i ZY).frm) ((l.getD i ZY).tt) pen).2,am,i+1,((C4 (bRows.getD (((l.getD i ZY).row).toNat) []) ((l.getD i ZY).frm) ((l.getD i ZY).tt) pen).1).pen,(⟨(l.getD i ZY).row,(((C4 (bRows.getD (((l.getD i ZY).row).toNat) []) ((l.getD i ZY).frm) ((l.getD i ZY).tt) pen).1).ends - 1),true⟩:Cur)) ⟨opx,hR,ak,oln⟩)
   refine k_ ?_
   refine ix Z B1 (k_ ?_)
   exact A1 (z0 (z1:=(out,t,i,pen,c1)) ((out++e)++(C4 (bRows.getD (((l.getD i ZY).row).toNat) []) ((l.getD i ZY).frm) ((l.getD i ZY).tt) pen).2,am,i+1,((C4 (bRows.getD (((l.getD i ZY).row).toNat) []) ((l.getD i ZY).frm) ((l.getD i ZY).tt) pen).1).pen,{ZS with row:=(l.getD i ZY).row,col:=((C4 (bRows.getD (((l.getD i ZY).row).toNat) []) ((l.getD i ZY).frm) ((l.getD i ZY).tt) pen).1).ends}) ⟨opx,hR,ak,oln⟩)
 have ay:=bV h7
 rw [A1b ay] at hR;rw[V2]at hR
 refine F1 (nx (sh 8 [(8,[M]),(7,[F]),(8,[N]),(8,[B]),(8,[D]),(4,vo A2 51 t out)] [sl F0 h u,D8 D0 u aRows,sl F0 g o,D8 D0 o bRows,sl H1 lq l] (M::F::N::B::D::Zc) (cL 8 0) oki Z oki oki oki bU A7.refl ?_))
 refine zhp [0] 7 (cL 8 1) [(68,.slice (va t.q) out.length t.k)] ?_
 refine zhl 1 [M,F,N,B,D] (cL 8 3) Z (G6 (us:=B7 pen) B4w Z Z 0) ?_
 refine zhk 2 (cL 8 7) Z (A2h (cs:=B7 ZJ) Z Z oki) ?_
 refine zhl 5 [M,F,N,B,D] (cL 8 39) Z (G6 (us:=F5 c1) D3l Z Z 2) ?_
 obtain ⟨a5,a6,hR⟩:=C3 hR
 refine zho 3 (M::F::N::B::D::Zc) (cL 8 47) Z (I4 (L2:=(M::F::N::B::D::Zc)) (C0i a6) Z Z Z Z Z A7.nil jK (fun ⟨⟨ar,au⟩,ai⟩=>(M::F::N::B::D::Zc)) (fun _=>by first|rfl|simp only [List.append_nil,List.cons_append,List.nil_append,List.append_assoc])) (fun ⟨⟨ar,au⟩,ai⟩=>bU) (fun ⟨⟨ar,au⟩,ai⟩=>c9) fun ⟨⟨ar,au⟩,ai⟩=>?_
 obtain ⟨be,bd⟩:=ai
 have:=(A9p pen ZJ).1;try rw [a6] at this
 refine zho 4 [M,F,N,B,D] (cL 8 63) Z (Y6 (f:=A2) (r:=t) (xs:=out) (ys:=a5) (pre:=[M,F,N,B,D]) (post:=[]) A0c jJ jJ Z Z Z Z Z Z Z Z (A5 0 Z) aa ore ore) (fun ⟨an,ae⟩=>bU) (fun ⟨an,ae⟩=>c9) fun ⟨an,ae⟩=>?_
 have:=@List.length_append _ out a5
 have:=bT.lc ae
 refine zhp [6] 1 (cL 8 127) [(8,.slice (va an.q) ((out++a5).length) an.k)] ?_
 refine zho 7 [M,N,B,D] (cL 8 255) Z (O9 (us:=F5 c1) (cs':=F5 c1) D3l Z Z Z 1) (fun _=>bU) (fun _=>c9) fun _=>?_
 refine D6r oki ?_
 subst hR
 exact A8 (cc (Y4 Z A6 (E8 (us:=F5 c1) D3l Z 1)) ⟨an,ae⟩)
theorem E1p {c:Bool} {x y:Int} (h:(bif c then x else y)=0) (a:x≠0):c=false∧y=0:=by grind
theorem F7a {c y:Bool} (h:(bif c then false else y)=true):c=false∧y=true:=by grind
theorem D4g (r:jk):∀ (l:jk) (k:Nat),X4 r l k=0→∀ j,j<l.length→(((decide ((0:Int)<((k+j:Nat):Int)))&&(decide ((r.getD (k+j - 1) ZV).wide=1)))=(decide ((l.getD j ZV).wide=2)))∧¬ ((l.getD j ZV).wide=1∧((k+j:Nat):Int)=(r.length:Int) - 1)
 | [],k,h,j,hj=>by cases hj
 | x::l,k,h,j,hj=>by
  rw [X4] at h
  obtain ⟨-,h⟩:=E1p h ozw
  obtain ⟨c,h⟩:=E1p h ozw
  match j,hj with
  | 0,_ =>
   simp only [Bool.or_eq_false_iff] at c
   obtain ⟨⟨a,-⟩,b⟩:=c
   refine ⟨by rw [Bool.not_eq_false'] at a;exact eq_of_beq a,fun q=>?_⟩
   rw [jQ (show x.wide=1 from q.1),jQ (show (k:Int)=(r.length:Int) - 1 from q.2)] at b
   exact Bool.noConfusion b
  | j+1,hj =>
   have q:=D4g r l (k+1) h j (by simpa using hj)
   rw [show k+(j+1)=k+1+j by omega];exact q
theorem F7i {row:jk} (h:U5 row false=true) (d:i<row.length) (c:(row.getD i ZV).wide=1):i+1<row.length∧(row.getD (i+1) ZV).wide=2:=by
 unfold U5 at h
 have h:=of_decide_eq_true h
 unfold B1y at h
 obtain ⟨-,h⟩:=E1p h ozw
 have a:=D4g row row 0 h i d
 have b:i+1<row.length:=Decidable.byContradiction fun e=>a.2 ⟨c,by omega⟩
 have q:=(D4g row row 0 h (i+1) b).1
 grind
theorem D1s (f:FrmC):∀ (a:jj) (i:Nat),X7 f a i=true→∀ r ∈ a,U5 r false=true
 | [],i,_=>fun r hr=>by cases hr
 | x::l,i,h=>by
  rw [X7] at h
  obtain ⟨b,h⟩:=F7a h
  simp only [Bool.or_eq_false_iff,Bool.not_eq_false'] at b
  intro r hr
  rcases List.mem_cons.1 hr with rfl | hr
  ·exact b.2
  ·exact D1s f l _ h r hr
theorem F5v {f:FrmC} {a:jj} (h:L6 f a=true):∀ r ∈ a,U5 r false=true:=by
 unfold L6 at h
 exact D1s f a 0 (F7a (F7a h).2).2
theorem B4n {a:FrmC} {aR:jj} {b:FrmC} {bR:jj} {c:Cur} (h:N7 a aR b bR c=0):((2≤a.cols∧a.cols≤80)∧aR.length≤40∧aR.length=bR.length)∧(∀ i,i<aR.length→((aR.getD i []).length:Int)=a.cols)∧(∀ i,i<bR.length→((bR.getD i []).length:Int)=a.cols)∧(0≤c.row∧c.row≤40∧0≤c.col∧c.col≤80)∧∀ r ∈ bR,U5 r false=true:=by
 have l:=F5n h
 obtain ⟨j,e,d,m⟩:=B7f h
 have f:=C3g j
 have g:=C3g e
 unfold A4o at d
 simp only [Bool.and_eq_true,decide_eq_true_eq] at d
 grind[F5v]
theorem F1t {a:FrmC} {aR:jj} {b:FrmC} {bR:jj} {s:Sp3} (c:P8 a aR b bR s=true) (k:aR.length=bR.length) (d:∀ i,i<bR.length→((bR.getD i []).length:Int)=a.cols) (hR:∀ r ∈ bR,U5 r false=true) :
  (0≤s.row∧s.row<bR.length∧0≤s.frm∧s.frm<s.tt∧s.tt≤a.cols)∧∀ i:Int,s.frm≤i→i<s.tt→((bR.getD (s.row).toNat []).getD i.toNat ZV).wide=1→i+1<s.tt:=by
 unfold P8 at c
 obtain ⟨j,c⟩:=F7a c
 obtain ⟨l,c⟩:=F7a c
 simp only [Bool.or_eq_false_iff,decide_eq_false_iff_not] at j
 refine ⟨by omega,fun i f h e=>?_⟩
 have hr:=d s.row.toNat opx
 have g:bR.getD s.row.toNat [] ∈ bR:=by
  grind
 have p:=F7i (hR _ g) (i:=i.toNat) opx e
 grind
end
end Go.Proofs.YtmldjljkeigpnaaGreatDoor
namespace Go.Proofs.YtmldjljkeigpnaaGreatDoor
open Go Go.Fen
theorem bn (cols a:Int):∀ (fu i:Nat) (fR:jj),(a - (i:Int)).toNat<fu→A4z cols a fu i fR=(({Za with cols:=cols,visible:=true}:FrmC),fR++List.replicate (a - (i:Int)).toNat (List.replicate cols.toNat {ZV with base:=32}))
 | 0,i,fR,h=>by omega
 | fu+1,i,fR,h=>by
  simp only [A4z]
  by_cases c:(i:Int)<a
  ·rw [jQ c,cond_true,B9l _ _ _ _ _ _ _ opx,bn cols a fu (i+1) _ opx,show (a - (i:Int)).toNat=(a - ((i+1:Nat):Int)).toNat+1 by omega,List.replicate_succ,List.append_assoc,show (cols - ((0:Nat):Int)).toNat=cols.toNat by omega];rfl
  simp_all[jX]
theorem bm (cols a:Int):B2d cols a=(({Za with cols:=cols,visible:=true}:FrmC),List.replicate a.toNat (List.replicate cols.toNat {ZV with base:=32})):=by simp[B2d,bn]
theorem bo {cols a:Int} {r:FrmC×jj} (h:B2d cols a=r) (c:0≤cols):r.1.cols=cols∧∀ i,i<r.2.length→((r.2.getD i []).length:Int)=cols:=by
 subst h;rw [bm]
 grind
def FRt (f:FrmC) (fR:jj):Prop:=2≤f.cols∧f.cols≤80∧1≤fR.length∧fR.length≤40∧∀ i,i<fR.length→((fR.getD i []).length:Int)=f.cols
theorem u0f {f:FrmC} {fR:jj} {r:FrmC×jj} (h:B2d f.cols (fR.length:Int)=r) (d:FRt f fR):∀ i,i<r.2.length→(r.2.getD i []).length≤80∧(r.2.getD i []).length=(fR.getD i []).length:=by
 have hr:=bo h (by have:=d.1;omega)
 have e:=D2t f.cols (fR.length:Int);rw [h] at e
 intro i g
 have a:=hr.2 i g;have b:=d.2.2.2.2 i opx;have c:=d.2.1
 omega
theorem aw {f:FrmC} {fR:jj} {r:FrmC×jj} (h:B2d f.cols (fR.length:Int)=r) (a:FRt f fR):(2≤r.1.cols∧r.1.cols≤80)∧(r.2.length≤40∧fR.length=r.2.length)∧∀ j,j<fR.length→((fR.getD j []).length:Int)=r.1.cols:=by
 have hr:=bo h jV
 have c:=D2t f.cols (fR.length:Int);rw [h] at c
 obtain ⟨g,k,i,e,d⟩:=a
 grind
theorem owe {p:Prop} (h:p:=by first|omega|(simp only [List.length_set];omega)):p:=h
def u0e (a:jk) (b:jk) (i:Int):Bool :=
 (((decide ((0:Int)≤i))&&(decide ((i+1)<(a.length:Int))))&&((decide ((a.getD ((i).toNat) ZV).wide=1))||(decide ((b.getD ((i).toNat) ZV).wide=1))))
theorem cu {a b:jk} {i:Int} {aq:kQ} {ak:Nat} {bq:kQ} {bk:Nat} {R:Bool} (hR:u0e a b i=R) (m:a.length≤9223372036854775807:=by exact bW) (k:a.length≤ak:=by exact bW) (q:b.length≤9223372036854775807:=by exact bW) (h:b.length≤bk:=by exact bW) (l:a.length≤b.length:=by exact bW) (t:a.length≤1000000:=by exact bW) (r:0≤i∧i<1000000:=by exact bW):J7 Tryz.prog 96 [.slice aq a.length ak,.slice bq b.length bk,iv i] [sl D0 aq a,sl D0 bq b] (bv R):=by
 refine cD Tryz.func96 fun X hX hr hD=>?_
 replace hR:=(u0e.eq_1 ..).symm.trans hR
 refine bS rfl (pp0 1 rfl ?_)
 refine ie (bS rfl (bP 3 9 rfl ?_))
 refine zid 6 17 9 15 (decide ((i+1)<a.length)) (fun j g=>?_) ?_
 ·refine bP 1 10 rfl ?_
  refine ix rfl B1 ?_
  refine bP 4 15 rfl ?_
  exact zai 4 9 _ j
 refine bP 1 16 rfl ?_
 refine zia _ 1 16 31 ((decide ((a.getD ((i).toNat) ZV).wide=1))||(decide ((b.getD ((i).toNat) ZV).wide=1))) (fun f=>?_) ?_
 ·have n:=bV f
  refine cF 2 17 18 rfl ?_
  refine H8 0 rfl opx fun u d=>?_
  refine ix rfl (E7 A1n rfl rfl d rfl ((i).toNat) opx opx) ?_
  refine bP 1 20 rfl ?_
  refine ix rfl (B6 cE rfl rfl (U8 (F8 (sz:=12) d (fun _=>rfl) 0 rfl (gd _ opx)) (ws:=[iv ((a.getD _ ZV).wide)]) 3 1 rfl) rfl) ?_
  refine bP 2 23 rfl ?_
  refine zir 7 1 23 30 (decide ((b.getD ((i).toNat) ZV).wide=1)) (fun o p=>?_) ?_
  ·refine cF 2 24 25 rfl ?_
   refine H8 1 rfl opx fun s e=>?_
   refine ix rfl (E7 A1n rfl rfl e rfl ((i).toNat) opx opx) ?_
   refine bP 1 27 rfl ?_
   refine ix rfl (B6 cE rfl rfl (U8 (F8 (sz:=12) e (fun _=>rfl) 1 rfl (gd _ opx)) (ws:=[iv ((b.getD _ ZV).wide)]) 3 1 rfl) rfl) ?_
   refine bP 2 30 rfl ?_
   exact zai 7 23 _ o
  refine bP 1 31 rfl ?_
  exact zai 9 16 _ f
 refine bP 1 6 rfl ?_
 subst hR
 exact q8
theorem ce {l:List Bool} {i:Nat} (h:i+1<l.length) (a:(l.getD i false == l.getD (i+1) false)=false):((l.set i true).set (i+1) true).count false+1≤l.count false:=by
 have d:l.getD i false=l[i]:=by simp [List.getD_eq_getElem?_getD,show i<l.length by omega]
 have e:l.getD (i+1) false=l[i+1]:=by simp [List.getD_eq_getElem?_getD,h]
 rw [d,e] at a
 rw [List.count_set (h:=by rw [List.length_set];exact h),List.count_set (h:=by omega),List.getElem_set_ne opx]
 have c:l[i]=false∨l[i+1]=false:=by
  cases b:l[i]<;>cases h2:l[i+1]<;>simp [b,h2] at a ⊢
 have f:0<l.count false:=by
  rw [List.count_pos_iff]
  rcases c with b | b<;>rw [← b]<;>exact List.getElem_mem _
 cases b:l[i]<;>cases h2:l[i+1]<;>simp [b,h2] at a ⊢<;>omega
def u0a (a:jk) (b:jk) (c:List Bool→Bool→List Bool):Nat→List Bool→Bool→Nat→List Bool
 | 0,_,_,_=>[]
 | fu3+1,in_2,more1,d=>(bif (decide (((d:Int)+1)<(a.length:Int))) then (bif ((u0e a b (d:Int))&&(!((in_2.getD d false) == (in_2.getD (d+1) false)))) then u0a a b c fu3 ((in_2.set d true).set (d+1) true) true (d+1) else u0a a b c fu3 in_2 more1 (d+1)) else c in_2 more1)
def u0h (a:jk) (b:jk):Nat→List Bool→Bool→List Bool
 | 0,_,_=>[]
 | fu1+1,in_1,more=>(bif more then u0a a b (u0h a b fu1) ((a.length - (0+1))+1) in_1 false 0 else in_1)
def u0i (a:jk) (b:jk):jk→List Bool→Nat→List Bool
 | [],in_,i=>u0h a b ((in_.count false+true.toNat)+1) in_ true
 | hd_l0::tl_l0,in_,i=>u0i a b tl_l0 (in_.set i (!(decide (hd_l0=(b.getD i ZV))))) (i+1)
def u0g (a:jk) (b:jk):List Bool :=
 u0i a b a (List.replicate a.length false) 0
theorem ay (a b:jk) (n:Nat) (ag:List Bool→Bool→List Bool) (c:∀ l m,l.length≤n→(ag l m).length≤n):∀ (fu:Nat) (l:List Bool) (m:Bool) (i:Nat),l.length≤n→(u0a a b ag fu l m i).length≤n
 | 0,l,m,i,h=>by simp [u0a]
 | fu+1,l,m,i,h=>by
  simp only [u0a]
  cases (decide (((i:Int)+1)<(a.length:Int))) with
  | false=>rw [cond_false];exact c l m h
  | true =>
   rw [cond_true]
   cases ((u0e a b (i:Int))&&(!((l.getD i false) == (l.getD (i+1) false)))) with
   | true=>rw [cond_true];exact ay a b n ag c fu _ _ _ (by rw [List.length_set,List.length_set];exact h)
   | false=>rw [cond_false];exact ay a b n ag c fu _ _ _ h
theorem bd (a b:jk) (n:Nat):∀ (fu:Nat) (l:List Bool) (m:Bool),l.length≤n→(u0h a b fu l m).length≤n
 | 0,l,m,h=>by simp [u0h]
 | fu+1,l,m,h=>by
  simp only [u0h]
  cases m with
  | true=>rw [cond_true];exact ay a b n _ (fun l m h=>bd a b n fu l m h) _ _ _ _ h
  | false=>rw [cond_false];exact h
theorem ax (a b:jk) (n:Nat):∀ (xs:jk) (l:List Bool) (i:Nat),l.length≤n→(u0i a b xs l i).length≤n
 | [],l,i,h=>by simp only [u0i];exact bd a b n _ _ _ h
 | x::xs,l,i,h=>by simp only [u0i];exact ax a b n xs _ _ (by rw [List.length_set];exact h)
theorem bp (a b:jk):(u0g a b).length≤a.length:=by
 unfold u0g
 first|exact ax a b _ _ _ _ oom|(simp only [B5];exact ax a b _ _ _ _ oom)
theorem d9 {a b:jk} {aq:kQ} {ak:Nat} {bq:kQ} {bk:Nat} {R:List Bool} (hR:u0g a b=R) (cc:a.length≤9223372036854775807:=by exact bW) (br:a.length≤ak:=by exact bW) (ch:b.length≤9223372036854775807:=by exact bW) (bb:b.length≤bk:=by exact bW) (c0:a.length≤b.length:=by exact bW) (h6:a.length≤1000000:=by exact bW):cM Tryz.prog 59 [.slice aq a.length ak,.slice bq b.length bk] [] [sl D0 aq a,sl D0 bq b] ({r:VR // bT 1 R.length r}) (fun x=>.slice (va x.1.q) R.length x.1.k) (fun x=>((vo B1w 4 x.1 R)++([]))) (fun x=>[]):=by
 refine cD Tryz.func59 fun X hX hr hD=>?_
 replace hR:=(u0g.eq_1 ..).symm.trans hR
 refine bS rfl (pp0 1 rfl ?_)
 refine ie (bS rfl (bP 2 10 rfl ?_))
 refine it rfl (C8o (f:=B1w) (l:=a.length) (c:=a.length) false G1i G5m.ok (fun _=>rfl) rfl rfl rfl opx ofv opx) fun ⟨r1,a0⟩=>?_
 have:(List.replicate a.length false).length=a.length:=List.length_replicate
 have:=bT.le a0
 have:=bT.cap a0
 have:(List.replicate a.length false).length=a.length:=List.length_replicate
 refine bP 1 5 rfl ?_
 refine ie (A3 (bS rfl (bP 1 6 rfl ?_)))
 refine ie (A9 ?_)
 refine A1y (un fun (n:List Bool)=>un fun (inr:VR) (i:Nat)=>(i≤a.length∧u0i a b (a.drop i) n i=R∧bT 1 n.length inr∧n.length=a.length,[(0,.slice aq a.length ak),(1,.slice bq b.length bk),(5,.slice (va inr.q) n.length inr.k),(6,iv (i:Int))],((vo B1w 4 inr n)++([])),[sl D0 aq a,sl D0 bq b],a.length - i)) (List.replicate a.length false,r1,0) ⟨opx,hR,a0,oom⟩ bU A7.refl ?_
 rintro ⟨n,inr,i⟩ ⟨c3,hR,s,c7⟩
 have:=bT.le s
 refine A3 (bS rfl (bP 4 15 rfl ?_))
 refine ie (G3 rfl (fun h4=>?_) (fun h4=>?_))
 ·have a6:=bV h4
  rw [A1a ZV (show i<a.length by omega)] at hR;replace hR:=(u0i.eq_2 ..).symm.trans hR
  refine A4 (nx (A3 (A9 ?_)))
  refine sh' 13 [(12,vo B1w 4 inr n)] [sl D0 aq a,sl D0 bq b] ((vo B1w 4 inr n)++([])) (cL 13 0) oki rfl oki oki oki bU A7.refl ?_
  refine zhp [0,1,2,3,6,7] 7 (cL 13 207) [(18,.slice (va inr.q) n.length inr.k),(19,iv (i:Int)),(20,.slice aq a.length ak),(21,iv (i:Int)),(24,.slice bq b.length bk),(25,iv (i:Int))] ?_
  refine B9j 0 rfl opx fun a5 y=>?_
  refine zhk 4 (cL 13 223) rfl (E7 A1n rfl rfl y rfl i) ?_
  refine zhk 5 (cL 13 255) rfl (J0 (us:=D0 (a.getD i ZV)) D3g rfl rfl (F8 (c:=D0) (sz:=12) y (fun _=>rfl) 0 rfl (gd ZV opx)) rfl) ?_
  refine B9j 1 rfl opx fun a7 z=>?_
  refine zhk 8 (cL 13 511) rfl (E7 A1n rfl rfl z rfl i) ?_
  refine zhk 9 (cL 13 1023) rfl (J0 (us:=D0 (b.getD i ZV)) D3g rfl rfl (F8 (c:=D0) (sz:=12) z (fun _=>rfl) 1 rfl (gd ZV opx)) rfl) ?_
  refine zhk 10 (cL 13 2047) rfl (A0f (a:=(a.getD i ZV)) (b:=(b.getD i ZV)) E4x rfl rfl rfl) ?_
  obtain ⟨b9,ah⟩:=bT.some s opx
  obtain ⟨b1,a2,a1⟩:=inr
  obtain rfl:b1=some b9:=ah
  refine zhl 11 ((vo B1w 4 (⟨some b9,a2,a1⟩:VR) n)++([])) (cL 13 4095) rfl (Z5 G0s rfl rfl rfl i rfl opx) ?_
  refine zho 12 [] (cL 13 8191) rfl (A8t (us:=[bv (!(decide ((a.getD i ZV)=(b.getD i ZV))))]) (u':=(!(decide ((a.getD i ZV)=(b.getD i ZV))))) (c:=B1w) (sz:=1) ty4 (fun _=>rfl) rfl rfl rfl 0 rfl rfl rfl rfl i 0 rfl (gd false opx) rfl rfl) (fun _=>(List.nil_sublist _)) (fun _=>A7.refl) fun _=>?_
  refine C5e oki ?_
  refine nx (A0 3 rfl (bP 1 16 rfl ?_))
  refine ix rfl B1 ?_
  refine bP 1 6 rfl ?_
  refine A1 ?_
  exact z0 (z1:=(n,(⟨some b9,a2,a1⟩:VR),i)) (n.set i (!(decide ((a.getD i ZV)=(b.getD i ZV)))),(⟨some b9,a2,a1⟩:VR),i+1) ⟨opx,hR,(bT.cast s oom),owe⟩
 have a6:=bV h4
 rw [A1b a6] at hR;replace hR:=(u0i.eq_1 ..).symm.trans hR
 refine F1 (nx (A3 (bS rfl (bP 1 7 rfl ?_))))
 refine ie (A9 ?_)
 refine A1y (un fun (fu:Nat)=>un fun (h:List Bool)=>un fun (o:VR) (t:Bool)=>((h.count false+t.toNat)<fu∧u0h a b fu h t=R∧bT 1 h.length o∧h.length=a.length,[(0,.slice aq a.length ak),(1,.slice bq b.length bk),(5,.slice (va o.q) h.length o.k),(7,bv t)],((vo B1w 4 o h)++([])),[sl D0 aq a,sl D0 bq b],fu)) ((n.count false+true.toNat)+1,n,inr,true) ⟨(Nat.lt_succ_self _),hR,s,opx⟩ bU A7.refl ?_
 rintro ⟨fu,h,o,t⟩ ⟨b5,hR,v,b7⟩
 have:=bT.le v
 obtain ⟨fu1,rfl⟩:∃ m,fu=m+1:=⟨fu - 1,by omega⟩
 replace hR:=(u0h.eq_2 ..).symm.trans hR
 refine A3 (bS rfl (bP 1 30 rfl ?_))
 refine ie ?_
 refine zjb rfl hR ?_ ?_<;>clear hR<;>intro hR c2
 ·refine A4 (nx (A9 (bS rfl (bP 1 7 rfl ?_))))
  refine ie (bS rfl (bP 1 8 rfl ?_))
  refine ie (A9 ?_)
  refine A1y (un fun (w:Nat)=>un fun (d:List Bool)=>un fun (j:VR)=>un fun (g:Bool) (p:Nat)=>((a.length - (p+1))<w∧u0a a b (u0h a b fu1) w d g p=R∧bT 1 d.length j∧p≤a.length∧d.length=a.length∧d.count false+g.toNat≤h.count false,[(0,.slice aq a.length ak),(1,.slice bq b.length bk),(5,.slice (va j.q) d.length j.k),(7,bv g),(8,iv (p:Int))],((vo B1w 4 j d)++([])),[sl D0 aq a,sl D0 bq b],w)) ((a.length - (0+1))+1,h,o,false,0) ⟨(Nat.lt_succ_self _),hR,v,opx,opx,(by first|omega|simp)⟩ bU A7.refl ?_
  rintro ⟨w,d,j,g,p⟩ ⟨b4,hR,e,be,b8,c8⟩
  have:=bT.le e
  obtain ⟨fu3,rfl⟩:∃ m,w=m+1:=⟨w - 1,by omega⟩
  replace hR:=(u0a.eq_2 ..).symm.trans hR
  have c5:t.toNat=1:=by cases t<;>first|rfl|contradiction
  refine A3 (bS rfl (bP 1 31 rfl ?_))
  refine ix rfl B1 ?_
  refine bP 3 35 rfl ?_
  refine ie ?_
  refine cK rfl hR ?_ ?_<;>clear hR<;>intro hR c1 b6
  ·refine A4 (nx (A3 (A9 (sd 16 rfl oki rfl ?_))))
   refine pd3 3 38 39 40 rfl ?_
   refine zvd rfl (cu rfl) ?_
   refine pd1 1 42 rfl ?_
   refine zda 11 0 42 53 (!((d.getD p false) == (d.getD (p+1) false))) (fun an=>?_) ?_
   ·refine pd2 2 43 44 rfl ?_
    obtain ⟨b19,a4⟩:=bT.some e opx
    obtain ⟨b2,c6,c4⟩:=j
    obtain rfl:b2=some b19:=a4
    refine dd rfl (Z5 G0s rfl rfl rfl p rfl opx) ?_
    refine dd rfl (Y2 (u:=bv (d.getD p false)) (c:=B1w) (sz:=1) ty4 (fun _=>rfl) rfl rfl 0 rfl p 0 rfl (gd false opx) rfl) ?_
    refine pd2 2 47 48 rfl ?_
    refine dd rfl B1 ?_
    refine dd rfl (Z5 G0s rfl rfl rfl (p+1) opx opx) ?_
    refine dd rfl (Y2 (u:=bv (d.getD (p+1) false)) (c:=B1w) (sz:=1) ty4 (fun _=>rfl) rfl rfl 0 rfl (p+1) 0 rfl (gd false opx) rfl) ?_
    refine dd rfl (E2y Tryz.underlying4 rfl rfl rfl) ?_
    refine pd1 1 53 rfl ?_
    exact zad 12 42 53 an
   refine de ?_
   refine zjb rfl hR ?_ ?_<;>clear hR<;>intro hR a8
   ·have ac:=bV a8
    refine bS rfl (cF 2 54 55 rfl ?_)
    obtain ⟨b25,a9⟩:=bT.some e opx
    obtain ⟨b3,a3,am⟩:=j
    obtain rfl:b3=some b25:=a9
    refine ix rfl (Z5 G0s rfl rfl rfl p rfl opx) ?_
    refine it rfl (A8t (us:=[bv true]) (u':=true) (c:=B1w) (sz:=1) ty4 (fun _=>rfl) rfl rfl rfl 0 rfl rfl rfl rfl p 0 rfl (gd false opx) rfl rfl) fun _=>?_
    refine ie (bS rfl (cF 2 57 58 rfl ?_))
    refine ix rfl B1 ?_
    refine ix rfl (Z5 G0s rfl rfl rfl (p+1) opx owe) ?_
    refine it rfl (A8t (us:=[bv true]) (u':=true) (c:=B1w) (sz:=1) ty4 (fun _=>rfl) rfl rfl rfl 0 rfl rfl rfl rfl (p+1) 0 rfl (gd false owe) rfl rfl) fun _=>?_
    refine ie (A0 1 rfl (bP 1 7 rfl ?_))
    refine A1 (nx (A0 3 rfl (bP 1 36 rfl ?_)))
    refine ix rfl B1 ?_
    refine bP 1 8 rfl ?_
    refine A1 ?_
    exact z0 (z1:=(fu3+1,d,(⟨some b25,a3,am⟩:VR),g,p)) (fu3,(d.set p true).set (p+1) true,(⟨some b25,a3,am⟩:VR),true,p+1) ⟨opx,hR,(bT.cast e oom),opx,owe,(by first|omega|(have:=ce (l:=d) (i:=p) opx (by simp_all);simp only [Bool.toNat_true];omega))⟩
   have ac:=bV a8
   refine A4 (nx (A0 3 rfl (bP 1 36 rfl ?_)))
   refine ix rfl B1 ?_
   refine bP 1 8 rfl ?_
   refine A1 ?_
   exact z0 (z1:=(fu3+1,d,j,g,p)) (fu3,d,j,g,p+1) ⟨opx,hR,e,opx,owe,(by first|omega|(have:=ce (l:=d) (i:=p) opx (by simp_all);simp only [Bool.toNat_true];omega))⟩
  refine F1 ?_
  exact z0 (z1:=(fu1+1,h,o,t)) (fu1,d,j,g) ⟨opx,hR,e,owe⟩
 refine F1 (nx (bS rfl (bP 2 4 rfl ?_)))
 subst hR
 refine ie (A8 ?_)
 exact cC hr hD (I9 rfl (A6 rfl)) ⟨o,v⟩ bU A7.nil
def u0b (r:Nat) (b:List Bool) (a:List Sp3→Nat→List Sp3):List Bool→List Sp3→Nat→List Sp3
 | [],out1,i=>a out1 (r+1)
 | hd_l1::tl_l1,out1,i=>(bif (!hd_l1) then u0b r b a tl_l1 out1 (i+1) else (bif ((decide ((0:Int)<(i:Int)))&&(b.getD (i - 1) false)) then u0b r b a tl_l1 (out1.set (out1.length - 1) ({(out1.getD (out1.length - 1) ZY) with tt:=((i:Int)+1)})) (i+1) else u0b r b a tl_l1 (out1++([(⟨(r:Int),(i:Int),((i:Int)+1)⟩:Sp3)]:List Sp3)) (i+1)))
def u0c (b:jj):jj→List Sp3→Nat→List Sp3
 | [],out,r=>out
 | hd_l0::tl_l0,out,r=>(B5 (u0g hd_l0 (b.getD r [])) fun (a:List Bool)=>u0b r a (u0c b tl_l0) a out 0)
def u0d (a:FrmC) (c:jj) (b:FrmC) (d:jj):List Sp3 :=
 u0c d c ([]:List Sp3) 0
theorem u0j (r:Nat) (mk:List Bool) (ag:List Sp3→Nat→List Sp3) (B:Nat) (a:∀ l,(ag l (r+1)).length≤l.length+B):∀ (b:List Bool) (l:List Sp3) (i:Nat),(u0b r mk ag b l i).length≤l.length+b.length+B
 | [],l,i=>by have:=a l;simp only [u0b,List.length_nil];omega
 | m::b,l,i=>by
  have e:=u0j r mk ag B a b l (i+1)
  have c:=u0j r mk ag B a b (l.set (l.length - 1) ({(l.getD (l.length - 1) ZY) with tt:=((i:Int)+1)})) (i+1)
  have d:=u0j r mk ag B a b (l++([(⟨(r:Int),(i:Int),((i:Int)+1)⟩:Sp3)]:List Sp3)) (i+1)
  rw [List.length_set] at c
  rw [List.length_append,List.length_cons,List.length_nil] at d
  rw [u0b,List.length_cons]
  cases (!m) with
  | true=>rw [cond_true];omega
  | false =>
   rw [cond_false]
   cases ((decide ((0:Int)<(i:Int)))&&(mk.getD (i - 1) false)) with
   | true=>rw [cond_true];omega
   | false=>rw [cond_false];omega
theorem bj (bR:jj):∀ (a:jj) (l:List Sp3) (t:Nat),(∀ r ∈ a,r.length≤80)→(u0c bR a l t).length≤l.length+80 * a.length
 | [],l,t,_=>by simp [u0c]
 | r::a,l,t,h=>by
  have d:=u0j t (u0g r (bR.getD t [])) (u0c bR a) (80 * a.length) (fun l=>bj bR a l (t+1) (fun x b=>h x (List.mem_cons_of_mem _ b))) (u0g r (bR.getD t [])) l 0
  have c:=bp r (bR.getD t []);have e:=h r jU
  simp only [u0c,B5,List.length_cons];omega
theorem cz (a:FrmC) (aR:jj) (b:FrmC) (bR:jj) (h:∀ i,i<aR.length→(aR.getD i []).length≤80):(u0d a aR b bR).length≤80 * aR.length:=by
 have:=bj bR aR [] 0 (fun r hr=>by
  obtain ⟨i,c,rfl⟩:=List.getElem_of_mem hr;have:=h i c;rwa [List.getD_eq_getElem?_getD,List.getElem?_eq_getElem c] at this)
 rw [List.length_nil] at this;unfold u0d;omega
theorem ca {f:FrmC} {fR:jj} {r:FrmC×jj} (h:B2d f.cols (fR.length:Int)=r) (a:FRt f fR):(2≤r.1.cols∧r.1.cols≤80)∧(r.2.length≤40∧fR.length=r.2.length)∧(u0d r.1 r.2 f fR).length≤3200:=by
 have b:=aw h a;have d:=cz r.1 r.2 f fR (fun i c=>(u0f h a i c).1)
 exact ⟨b.1,b.2.1,by omega⟩
theorem ogc {p:Prop} (h:p:=by first|omega|(simp only [List.length_append,List.length_set,List.length_cons,List.length_nil];omega)):p:=h
theorem cb {a:FrmC} {aRows:jj} {b:FrmC} {bRows:jj} {p:kQ} {l:List Slc} {aRowsk:Nat} {o:kQ} {j:List Slc} {bRowsk:Nat} {R:List Sp3} (hR:u0d a aRows b bRows=R) (h:B4 l aRows:=by exact bW) (b6:aRows.length≤9223372036854775807:=by exact bW) (b4:aRows.length≤aRowsk:=by exact bW) (g:B4 j bRows:=by exact bW) (b0:bRows.length≤9223372036854775807:=by exact bW) (b8:bRows.length≤bRowsk:=by exact bW) (c4:aRows.length≤40∧aRows.length=bRows.length:=by exact bW) (bb:∀ i,i<aRows.length→(aRows.getD i []).length≤80∧(aRows.getD i []).length=(bRows.getD i []).length:=by exact bW):cM Tryz.prog 32 [ag (C9 a ⟨p,aRows.length,aRowsk⟩),ag (C9 b ⟨o,bRows.length,bRowsk⟩)] [] [sl F0 p l,D8 D0 l aRows,sl F0 o j,D8 D0 j bRows] ({r:VR // bT 3 R.length r}) (fun x=>.slice (va x.1.q) R.length x.1.k) (fun x=>((vo H1 37 x.1 R)++([]))) (fun x=>[]):=by
 refine cD Tryz.func32 fun X hX hr hD=>?_
 replace hR:=(u0d.eq_1 ..).symm.trans hR
 have:=h.1
 have:=g.1
 refine bS rfl (B3r 3 [] (fun b1 b2=>[(2,pt b1 0),(3,pt b2 0)]) (fun _ _=>(C9 a ⟨p,aRows.length,aRowsk⟩)) (fun _ _=>(C9 b ⟨o,bRows.length,bRowsk⟩)) 26 26 fun b1 b2=>?_)
 refine ie (bS rfl (bP 1 5 rfl ?_))
 refine ie (A3 (bS rfl (bP 1 6 rfl ?_)))
 refine ie (A9 (Y9 (I8 [_,_,_] [1,2,0] 3 rfl ozw rfl [[_],[_],vo H1 37 VR.nil []] rfl opv) ?_))
 refine A1y (un fun out=>un fun w r=>(r≤aRows.length∧u0c _ (aRows.drop r) out r=R∧bT 3 out.length w∧out.length≤80 * r,[(2,_),(3,_),(5,.slice (va w.q) out.length w.k),(6,iv r)],(bx _ _ _::bx _ _ _::((vo H1 37 w out)++([]))),_,aRows.length - r)) (_,_,0) ⟨opx,hR,bT.nil,oom⟩ bU A7.refl ?_
 rintro ⟨out,w,r⟩ ⟨c5,hR,y,hb⟩
 have c7:=bb r
 refine A3 (bS rfl (cB 5 [1] 13 rfl ?_))
 refine ie (G3 rfl (fun h4=>?_) (fun h4=>?_))
 ·have a2:=bV h4
  rw [A1a [] (show r<aRows.length by first|omega|(dsimp only at a2;omega))] at hR;replace hR:=(u0c.eq_2 ..).symm.trans hR
  try dsimp only at a2
  refine A4 (nx (A3 (A9 (A6v (Q6 (k:=r) (d:=⟨none,0,0⟩) h 1 rfl (by have:=h.1;omega)) ?_))))
  have:=Q9 h (k:=r) (d:=(⟨none,0,0⟩:Slc)) (by have:=h.1;omega)
  refine A6v (Q6 (k:=r) (d:=⟨none,0,0⟩) g 4 rfl (by have:=g.1;omega)) ?_
  have:=Q9 g (k:=r) (d:=(⟨none,0,0⟩:Slc)) (by have:=g.1;omega)
  refine zS [(12,[0]),(12,[1]),(12,[2])] ?_
  refine hq4 [0,2,5,7] 16 18 21 23 rfl ?_
  refine gl 1 [0,1,2] rfl (B8 (v:=.slice p aRows.length aRowsk) F2i rfl rfl 1) ?_
  refine B9j 2 rfl (by have:=h.1;omega) fun a5 ac=>?_
  refine gk 3 rfl (E7 B0s rfl rfl ac rfl r) ?_
  refine gk 4 rfl (G1 (B6 B5c rfl rfl (F8 (sz:=1) ac (fun _=>rfl) 2 rfl (gd ⟨none,0,0⟩ (by have:=h.1;omega))) rfl) (M2 h (by have:=h.1;omega))) ?_
  refine gl 6 [0,1,2] rfl (B8 (v:=.slice o bRows.length bRowsk) F2i rfl rfl 0) ?_
  refine B9j 4 rfl (by have:=g.1;omega) fun a7 ah=>?_
  refine gk 8 rfl (E7 B0s rfl rfl ah rfl r) ?_
  refine gk 9 rfl (G1 (B6 B5c rfl rfl (F8 (sz:=1) ah (fun _=>rfl) 4 rfl (gd ⟨none,0,0⟩ (by have:=g.1;omega))) rfl) (M2 g (by have:=g.1;omega))) ?_
  obtain ⟨e,u,hR⟩:=C3 hR
  refine gc 10 [0,1,2] rfl (d9 u) fun ⟨r9,a0⟩=>?_
  have:=bT.le a0
  have:=bp (aRows.getD r []) (bRows.getD r []);try rw [u] at this
  refine hq1 [11] 7 rfl ?_
  refine ge ?_
  refine bS rfl (bP 1 8 rfl ?_)
  refine ie (A9 ?_)
  refine D0z [_,_] ((vo _ _ w _)++([])) a0 omm ?_
  refine A1y (un fun m=>un fun t i=>(i≤e.length∧u0b r e _ (e.drop i) m i=R∧bT 3 m.length t∧i≤e.length∧m.length≤80 * r+i∧(0<i→e.getD (i - 1) false=true→0<m.length),[(2,_),(3,_),(5,.slice (va t.q) m.length t.k),(6,_),(7,.slice (va r9.q) _ r9.k),(8,iv i)],(bx _ _ _::bx _ _ _::((vo _ _ t m)++([]))),[_,_,_,_,_,_,_],e.length - i)) (_,w,0) ⟨opx,hR,y,opx,opx,opx⟩ bU A7.refl ?_
  rintro ⟨m,t,i⟩ ⟨c2,hR,s,c8,cc,am⟩
  have:=bT.le s
  refine A3 (bS rfl (bP 4 30 rfl ?_))
  refine ie (G3 rfl (fun ak=>?_) (fun ak=>?_))
  ·have a1:=bV ak
   rw [A1a false (show i<e.length by omega)] at hR;replace hR:=(u0b.eq_2 ..).symm.trans hR
   try dsimp only at a1
   refine A4 (nx (A3 (A9 (A3 (bS rfl (cF 2 33 34 rfl ?_))))))
   refine H8 0 rfl opx fun ch z=>?_
   refine ix rfl (E7 G0s rfl rfl z rfl i) ?_
   refine ix rfl (B6 ty4 rfl rfl (F8 (sz:=1) z (fun _=>rfl) 0 rfl (gd false opx)) rfl) ?_
   refine bP 1 37 rfl ?_
   refine ie ?_
   refine zjb rfl hR ?_ ?_<;>clear hR<;>intro hR b3
   ·try dsimp only at h15p
    try have b5:0<m.length:=by simp only [Bool.and_eq_true,decide_eq_true_eq] at b3;exact am opx b3.2
    refine F1 (nx (A0 3 rfl (bP 1 31 rfl ?_)))
    refine ix rfl B1 ?_
    refine bP 1 8 rfl ?_
    refine A1 ?_
    exact z0 (m,t,_) ⟨opx,hR,s,opx,ogc,(by first|omega|(intros;simp only [List.length_append,List.length_set,List.length_cons,List.length_nil];omega)|(intro _ hh;simp_all))⟩
   try dsimp only at h15p
   refine A4 (nx (bS rfl (bP 3 40 rfl ?_)))
   refine zid 6 0 40 46 (e.getD (i - 1) false) (fun br c0=>?_) ?_
   ·refine cF 2 41 42 rfl ?_
    refine ix rfl L8 ?_
    refine ix rfl (E7 G0s rfl rfl z rfl (i - 1) opx opx) ?_
    refine ix rfl (B6 ty4 rfl rfl (F8 (sz:=1) z (fun _=>rfl) 0 rfl (gd false opx)) rfl) ?_
    refine bP 1 46 rfl ?_
    exact A1 (I1 7 40 _ br A7.refl bU rfl rfl rfl rfl rfl)
   refine ie ?_
   refine zjb rfl hR ?_ ?_<;>clear hR<;>intro hR a9
   ·have a3:=bV a9
    try dsimp only at a3
    try have b5:0<m.length:=by simp only [Bool.and_eq_true,decide_eq_true_eq] at a9;exact am opx a9.2
    refine A0 9 rfl (cF 3 47 49 rfl ?_)
    refine ix rfl L8 ?_
    refine bP 1 51 rfl ?_
    refine ix rfl B1 ?_
    obtain ⟨b18,an⟩:=bT.some s opx
    obtain ⟨be,b7,aq⟩:=t
    obtain rfl:be=some b18:=an
    refine ix rfl (Z5 C6l rfl rfl rfl (m.length - 1) opx opx) ?_
    refine bP 1 54 rfl ?_
    refine it rfl (A8t (us:=[iv ((i:Int)+1)]) (u':={(m.getD (m.length - 1) ZY) with tt:=((i:Int)+1)}) (c:=H1) (sz:=3) cE (fun _=>rfl) rfl rfl rfl 2 rfl rfl rfl rfl (m.length - 1) 2 rfl (gd ZY opx) rfl rfl) fun _=>?_
    refine A1 (nx (A0 3 rfl (bP 1 31 rfl ?_)))
    refine ix rfl B1 ?_
    refine bP 1 8 rfl ?_
    refine A1 ?_
    exact z0 (_,_,_) ⟨opx,hR,(bT.cast s oom),opx,ogc,(by first|omega|(intros;simp only [List.length_append,List.length_set,List.length_cons,List.length_nil];omega)|(intro _ hh;simp_all))⟩
   have a3:=bV a9
   try dsimp only at a3
   refine A0 9 rfl (pp4 4 55 56 57 58 rfl ?_)
   refine ix rfl B1 ?_
   refine bY 1 3 [] [(60,ag (H1 ⟨(r:Int),(i:Int),((i:Int)+1)⟩))] ?_
   refine it rfl (B0 (c:=H1) (xs:=[(⟨(r:Int),(i:Int),((i:Int)+1)⟩:Sp3)]) C6l rfl rfl rfl oki) fun c6=>?_
   have:([(⟨(r:Int),(i:Int),((i:Int)+1)⟩:Sp3)]:List Sp3).length=1:=rfl
   refine it rfl (Q7 (f:=H1) (r:=t) (xs:=m) (ys:=([(⟨(r:Int),(i:Int),((i:Int)+1)⟩:Sp3)]:List Sp3)) (pre:=[bx b2 (C9 b ⟨o,bRows.length,bRowsk⟩) 26,bx b1 (C9 a ⟨p,aRows.length,aRowsk⟩) 26]) (post:=[]) G4k (fun _=>rfl) (fun _=>rfl) rfl rfl rfl rfl rfl rfl rfl rfl rfl (A5 0 rfl) s ofv ofv) fun ⟨bk,a4⟩=>?_
   refine bP 1 5 rfl ?_
   refine A1 (nx (A0 3 rfl (bP 1 31 rfl ?_)))
   refine ix rfl B1 ?_
   refine bP 1 8 rfl ?_
   refine A1 ?_
   exact z0 (_,_,_) ⟨opx,hR,a4,opx,ogc,(by first|omega|(intros;simp only [List.length_append,List.length_set,List.length_cons,List.length_nil];omega)|(intro _ hh;simp_all))⟩
  have a1:=bV ak
  rw [A1b a1] at hR;replace hR:=(u0b.eq_1 ..).symm.trans hR
  try dsimp only at a1
  refine F1 (nx (A0 3 rfl (bP 1 14 rfl ?_)))
  refine ix rfl B1 ?_
  refine bP 1 6 rfl ?_
  refine A1 ?_
  exact z0 (m,t,_) ⟨opx,hR,s,opx⟩
 have a2:=bV h4
 rw [A1b a2] at hR;replace hR:=(u0c.eq_1 ..).symm.trans hR
 try dsimp only at a2
 refine F1 (nx (bS rfl (bP 2 4 rfl ?_)))
 subst hR
 refine ie (A8 ?_)
 exact cc (I9 rfl A6) ⟨w,y⟩
theorem d8 {α:Type} {xs:List α} {d:α} {i:Nat} (h:i<xs.length):xs.getD i d=xs[i]:=by grind
def Cov (l:List Sp3) (r i:Int):Prop:=∃ s ∈ l,s.row=r∧s.frm≤i∧i<s.tt
def Bd (a b:jk) (f:Nat):Prop:=f=0∨f=a.length∨A6r a b ((f:Int) - 1)=false
def Df (a b:jk) (i:Nat):Prop:=a.getD i ZV≠b.getD i ZV
def SpQ (a b:jk) (r:Int) (s:Sp3):Prop :=
 s.row=r∧∃ f t:Nat,s.frm=f∧s.tt=t∧f<t∧t≤a.length∧(∃ i,f≤i∧i<t∧Df a b i)∧Bd a b f∧Bd a b t
def Chn (r:Int):Int→List Sp3→Prop
 | _,[]=>True
 | f,e::es=>e.row=r∧f≤e.frm∧e.frm<e.tt∧Chn r e.tt es
theorem Chn.mono {r f a:Int} (h:a≤f):∀ {es:List Sp3},Chn r f es→Chn r a es
 | [],_=>trivial
 | e::es,⟨h1,h2,h3,h4⟩=>⟨h1,by omega,h3,h4⟩
def fg (a b:jk) (r:Int) (f:Nat) (es:List Sp3):Prop :=
 Chn r f es∧(∀ s ∈ es,SpQ a b r s)∧∀ i:Nat,f≤i→i<a.length→Df a b i→Cov es r i
theorem ep (a b:jk) (r:Int) (f:Nat) (ag:Nat→List Sp3) (k:∀ t,f<t→t≤a.length→Bd a b t→fg a b r t (ag t)) (j:Bd a b f) :
  ∀ (fu tw:Nat) (d:Bool),f<tw→tw≤a.length→a.length - tw<fu→(d=true ↔ ∃ i,f≤i∧i<tw∧Df a b i)→fg a b r f (V7 a b r f ag fu tw d)
 | 0,tw,d,_,_,h,_=>by omega
 | fu+1,tw,d,h1,h2,h3,hd=>by
  simp only [V7]
  cases hc:(decide ((tw:Int)<(a.length:Int))&&A6r a b ((tw:Int) - 1)) with
  | true =>
   simp only [Bool.and_eq_true,decide_eq_true_eq] at hc
   rw [cond_true]
   refine ep a b r f ag k j fu (tw+1) _ opx opx opx ?_
   simp only [Bool.or_eq_true,Bool.not_eq_true',decide_eq_false_iff_not,hd]
   constructor
   ·rintro (⟨i,h,v,g⟩ | h)
    ·grind
    ·exact ⟨tw,by omega,by omega,h⟩
   ·rintro ⟨i,h,v,g⟩
    by_cases e:i=tw
    ·subst e;exact Or.inr g
    grind
  | false =>
   rw [cond_false]
   have m:Bd a b tw:=by
    by_cases e:tw=a.length
    ·exact Or.inr (Or.inl e)
    ·rw [show decide ((tw:Int)<(a.length:Int))=true from jQ opx,Bool.true_and] at hc
     exact Or.inr (Or.inr hc)
   obtain ⟨o,q,u⟩:=k tw h1 h2 m
   cases d with
   | true =>
    rw [cond_true]
    refine ⟨⟨rfl,Int.le_refl _,by grind,o⟩,fun s l=>?_,fun i p n c=>?_⟩
    ·rcases List.mem_cons.1 l with rfl | l
     ·exact ⟨rfl,f,tw,rfl,rfl,h1,h2,hd.1 rfl,j,m⟩
     grind
    ·by_cases e:i<tw
     ·exact ⟨_,List.mem_cons_self ..,rfl,by grind,by grind⟩
     ·obtain ⟨s,l,h⟩:=u i opx n c
      exact ⟨s,List.mem_cons_of_mem _ l,h⟩
   | false =>
    rw [cond_false]
    refine ⟨o.mono opx,q,fun i p n c=>?_⟩
    grind
theorem eq (a b:jk) (r:Int):∀ (fu f:Nat),f≤a.length→a.length - f<fu→Bd a b f→fg a b r f (S4 a b r fu f)
 | 0,f,_,h,_=>by omega
 | fu+1,f,hf,h,hb=>by
  simp only [S4]
  by_cases e:f<a.length
  ·rw [show decide ((f:Int)<(a.length:Int))=true from jQ opx,cond_true]
   refine ep a b r f _ (fun t m c d=>eq a b r fu t c opx d) hb _ _ _ opx opx opx ?_
   simp only [Bool.not_eq_true',decide_eq_false_iff_not]
   constructor
   ·intro h;exact ⟨f,Nat.le_refl _,by omega,h⟩
   ·rintro ⟨i,l,g,j⟩
    rwa [show i=f by omega] at j
  ·rw [show decide ((f:Int)<(a.length:Int))=false from jX opx,cond_false]
   exact ⟨trivial,fun s k=>absurd k List.not_mem_nil,fun i l g=>by omega⟩
theorem ef (a b:jk) (r:Int):fg a b r 0 (A5c a b r):=eq a b r _ 0 (Nat.zero_le _) opx (Or.inl rfl)
def Lt3 (x y:Sp3):Prop:=x.row<y.row∨(x.row=y.row∧x.tt<y.frm)
def eo (g:List Sp3) (r f:Int):Prop:=∀ x ∈ g,x.row<r∨(x.row=r∧x.tt≤f)
def SpG (A B:jj) (s:Sp3):Prop:=∃ r:Nat,r<A.length∧SpQ (A.getD r []) (B.getD r []) r s
theorem SpG.lt {A B:jj} {s:Sp3} (h:SpG A B s):s.frm<s.tt:=by
 obtain ⟨r,_,_,f,t,b,a,c,_⟩:=h;omega
theorem SpG.glue {A B:jj} {x e:Sp3} (p:SpG A B x) (s:SpG A B e) (hr:x.row=e.row) (z:x.tt=e.frm):SpG A B {x with tt:=e.tt}:=by
 obtain ⟨r,d,c,f,t,u,w,h3,h4,⟨i,q,y,l⟩,k,b2⟩:=p
 obtain ⟨r',j,h,f',m,n,a,o,b,_,v,g⟩:=s
 obtain rfl:r=r':=by omega
 exact ⟨r,d,c,f,m,u,a,by omega,b,⟨i,q,by omega,l⟩,k,g⟩
structure Inv (A B:jj) (g:List Sp3) (r f:Int):Prop where
 below:eo g r f
 ord:g.Pairwise Lt3
 all:∀ s ∈ g,SpG A B s
theorem e8 (e:Sp3):W6 [] e=[e]:=by simp [W6]
theorem dq (g:List Sp3) (x e:Sp3) (h:x.frm<x.tt) (b:e.frm<e.tt):W6 (g++[x]) e=if x.row=e.row∧x.tt=e.frm then g++[{x with tt:=e.tt}] else g++[x]++[e]:=by
 unfold W6
 have a:(g++[x]).getD ((g++[x]).length - 1) ZY=x:=by simp
 rw [a,show decide ((0:Int)<((g++[x]).length:Int))=true from jQ (by simp),Bool.true_and]
 simp_all[A9z]
theorem cw {α:Type} (g:List α):g=[]∨∃ a x,g=a++[x]:=by
 rcases List.eq_nil_or_concat g with h | ⟨a,x,h⟩
 all_goals grind
theorem f7 {A B:jj} {g:List Sp3} {r f:Int} {e:Sp3} (h:Inv A B g r f) (hr:e.row=r) (q:f≤e.frm) (d:SpG A B e):Inv A B (W6 g e) r e.tt:=by
 have j:=d.lt
 rcases cw g with rfl | ⟨g',x,rfl⟩
 ·rw [e8]
  exact ⟨fun y a=>by grind,List.pairwise_singleton ..,fun y a=>by grind⟩
 ·have n:x ∈ g'++[x]:=by simp
  have b:=h.all x n
  have i:=b.lt
  have o:=h.below x n
  rw [dq _ _ _ i j]
  obtain ⟨p,_,m⟩:=List.pairwise_append.1 h.ord
  split
  ·rename_i c
   refine ⟨fun y a=>?_,List.pairwise_append.2 ⟨p,List.pairwise_singleton ..,fun y a z l=>?_⟩,fun y a=>?_⟩
   ·rcases List.mem_append.1 a with a | a
    ·rcases h.below y (List.mem_append_left _ a) with h | h
     all_goals omega
    grind
   ·rw [List.mem_singleton.1 l];exact m y a x oom
   ·rcases List.mem_append.1 a with a | a
    ·exact h.all y (List.mem_append_left _ a)
    ·rw [List.mem_singleton.1 a];exact b.glue d c.1 c.2
  ·rename_i c
   refine ⟨fun y a=>?_,List.pairwise_append.2 ⟨h.ord,List.pairwise_singleton ..,fun y a z l=>?_⟩,fun y a=>?_⟩
   ·rcases List.mem_append.1 a with a | a
    ·rcases h.below y a with h | h
     all_goals omega
    grind
   ·rw [List.mem_singleton.1 l]
    have k:Lt3 x e:=by grind[Lt3]
    rcases List.mem_append.1 a with a | a
    ·have:=m y a x oom
     grind[Lt3]
    grind
   ·rcases List.mem_append.1 a with a | a
    ·exact h.all y a
    grind
theorem dx {A B:jj} {g:List Sp3} {r f:Int} {e:Sp3} (h:Inv A B g r f) (k:SpG A B e) {q i:Int} (b:Cov g q i∨(e.row=q∧e.frm≤i∧i<e.tt)):Cov (W6 g e) q i:=by
 have j:=k.lt
 rcases cw g with rfl | ⟨g',x,rfl⟩
 ·rw [e8]
  rcases b with ⟨s,a,_⟩ | b
  ·grind
  ·exact ⟨e,by simp,b⟩
 ·have l:x ∈ g'++[x]:=by simp
  have d:=(h.all x l).lt
  rw [dq _ _ _ d j]
  split
  ·rename_i c
   rcases b with ⟨s,a,hh⟩ | b
   ·rcases List.mem_append.1 a with a | a
    ·exact ⟨s,List.mem_append_left _ a,hh⟩
    ·rw [List.mem_singleton.1 a] at hh
     exact ⟨_,List.mem_append_right _ (List.mem_singleton.2 rfl),hh.1,hh.2.1,by grind⟩
   ·exact ⟨_,List.mem_append_right _ (List.mem_singleton.2 rfl),by grind,by grind,b.2.2⟩
  ·rcases b with ⟨s,a,hh⟩ | b
   ·exact ⟨s,List.mem_append_left _ a,hh⟩
   ·exact ⟨e,by simp,b⟩
theorem f5 {A B:jj} (t:Nat) (ag:Nat→List Sp3→List Sp3×Int):∀ (es g:List Sp3) (f:Int),Inv A B g t f→Chn t f es→(∀ s ∈ es,SpG A B s) →
  ∃ c,U9 t ag es g=ag (t+1) c∧Inv A B c ((t+1:Nat):Int) 0∧∀ q i,Cov g q i∨Cov es q i→Cov c q i
 | [],g,f,h,_,_=>⟨g,by rfl,⟨fun x l=>by have:=h.below x l;omega,h.ord,h.all⟩,fun q i b=>by
   rcases b with b | ⟨s,hs,_⟩
   all_goals grind⟩
 | e::es,g,f,h,⟨c1,c2,c3,c4⟩,hs=>by
  have d:=hs e jU
  obtain ⟨c,m,j,k⟩:=f5 t ag es _ e.tt (f7 h c1 c2 d) c4 (fun s a=>hs s (List.mem_cons_of_mem _ a))
  refine ⟨c,by simpa only [U9,B5] using m,j,fun q i b=>k q i ?_⟩
  rcases b with b | ⟨s,a,b⟩
  ·exact Or.inl (dx h d (Or.inl b))
  ·rcases List.mem_cons.1 a with rfl | a
   ·exact Or.inl (dx h d (Or.inr b))
   ·exact Or.inr ⟨s,a,b⟩
theorem f9 {A B:jj}:∀ (a:jj) (t:Nat) (g:List Sp3),t+a.length=A.length→(∀ i,i<a.length→a.getD i []=A.getD (t+i) [])→Inv A B g t 0 →
  (P4 B a t g).1.Pairwise Lt3∧(∀ s ∈ (P4 B a t g).1,SpG A B s)∧(∀ q i,Cov g q i→Cov (P4 B a t g).1 q i) ∧
   ∀ r i:Nat,t≤r→r<A.length→i<(A.getD r []).length→Df (A.getD r []) (B.getD r []) i→Cov (P4 B a t g).1 r i
 | [],t,g,hl,_,h=>⟨h.ord,h.all,fun _ _ c=>c,fun r i w j=>by grind⟩
 | row::a,t,g,hl,hr,h=>by
  have k:row=A.getD t []:=by simpa using hr 0 oom
  simp only [List.length_cons] at hl
  obtain ⟨m,v,p⟩:=ef row (B.getD t []) (t:Int)
  obtain ⟨x,u,y,l⟩:=f5 (A:=A) (B:=B) t (P4 B a) (A5c row (B.getD t []) (t:Int)) g 0 h m (fun s n=>⟨t,by omega,by grind⟩)
  have b:=f9 (A:=A) (B:=B) a (t+1) x opx (fun i o=>by
   have:=hr (i+1) (by grind)
   grind) y
  simp only [P4,G9]
  grind
theorem dm (A B:jj):(P4 B A 0 []).1.Pairwise Lt3∧(∀ s ∈ (P4 B A 0 []).1,SpG A B s) ∧
   ∀ r i:Nat,r<A.length→i<(A.getD r []).length→Df (A.getD r []) (B.getD r []) i→Cov (P4 B A 0 []).1 r i:=by
 have h:=f9 (A:=A) (B:=B) A 0 [] opx (fun i _=>by simp) ⟨fun x a=>absurd a List.not_mem_nil,List.Pairwise.nil,fun x a=>absurd a List.not_mem_nil⟩
 grind
def Cv (l:List Sp3) (r i:Int):Prop:=∃ s ∈ l,s.row=r∧s.frm≤i∧i<s.tt
def Lt4 (x y:Sp3):Prop:=x.row<y.row∨(x.row=y.row∧x.tt<y.frm)
theorem Cv.cons {x:Sp3} {l:List Sp3} {r i:Int}:Cv (x::l) r i ↔ (x.row=r∧x.frm≤i∧i<x.tt)∨Cv l r i:=by
 constructor
 ·rintro ⟨s,a,h⟩
  rcases List.mem_cons.1 a with rfl | a
  ·omega
  ·exact Or.inr ⟨s,a,h⟩
 ·rintro (h | ⟨s,a,h⟩)
  ·exact ⟨x,List.mem_cons_self ..,h⟩
  ·exact ⟨s,List.mem_cons_of_mem _ a,h⟩
theorem Cv.nil {r i:Int}:¬ Cv [] r i:=fun ⟨s,a,_⟩=>absurd a List.not_mem_nil
theorem Cv.append {l m:List Sp3} {r i:Int}:Cv (l++m) r i ↔ Cv l r i∨Cv m r i:=by
 constructor
 ·rintro ⟨s,a,h⟩
  rcases List.mem_append.1 a with a | a
  ·exact Or.inl ⟨s,a,h⟩
  ·exact Or.inr ⟨s,a,h⟩
 ·rintro (⟨s,a,h⟩ | ⟨s,a,h⟩)
  ·exact ⟨s,List.mem_append_left _ a,h⟩
  ·exact ⟨s,List.mem_append_right _ a,h⟩
theorem fl:∀ l m:List Sp3,l.Pairwise Lt4→m.Pairwise Lt4→(∀ s ∈ l,s.frm<s.tt)→(∀ s ∈ m,s.frm<s.tt)→(∀ r i,Cv l r i ↔ Cv m r i)→l=m
 | [],[],_,_,_,_,_=>rfl
 | [],y::m,_,_,_,hm,h=>by
  have:=hm y jU
  exact absurd ((h y.row y.frm).2 (Cv.cons.2 (Or.inl ⟨rfl,Int.le_refl _,this⟩))) Cv.nil
 | x::l,[],_,_,hl,_,h=>by
  have:=hl x jU
  exact absurd ((h x.row x.frm).1 (Cv.cons.2 (Or.inl ⟨rfl,Int.le_refl _,this⟩))) Cv.nil
 | x::l,y::m,pl,pm,hl,hm,h=>by
  have n:=hl x jU
  have p:=hm y jU
  obtain ⟨b,pl2⟩:=List.pairwise_cons.1 pl
  obtain ⟨j,o⟩:=List.pairwise_cons.1 pm
  have first:∀ {x:Sp3} {l:List Sp3},(∀ z ∈ l,Lt4 x z)→(x.frm<x.tt)→∀ r i,Cv (x::l) r i→x.row<r∨(x.row=r∧x.frm≤i):=fun {x l} b n r i a=>by
   rcases Cv.cons.1 a with h | ⟨z,hz,h⟩
   ·exact Or.inr ⟨h.1,h.2.1⟩
   ·have:=b z hz;unfold Lt4 at this;omega
  have v:=first b n _ _ ((h y.row y.frm).2 (Cv.cons.2 (Or.inl ⟨rfl,Int.le_refl _,p⟩)))
  have u:=first j p _ _ ((h x.row x.frm).1 (Cv.cons.2 (Or.inl ⟨rfl,Int.le_refl _,n⟩)))
  have g:x.row=y.row:=by omega
  have t:x.frm=y.frm:=by omega
  have f:∀ {x:Sp3} {l:List Sp3},(∀ z ∈ l,Lt4 x z)→∀ i,x.tt≤i→Cv (x::l) x.row i→x.tt<i:=fun {x l} b i hi a=>by
   rcases Cv.cons.1 a with h | ⟨z,hz,h⟩
   ·omega
   ·have:=b z hz;unfold Lt4 at this;omega
  have q:x.tt=y.tt:=by
   rcases Int.lt_trichotomy x.tt y.tt with d | he | d
   ·have:=f b x.tt (Int.le_refl _) ((h x.row x.tt).2 (Cv.cons.2 (Or.inl ⟨g.symm,by omega,d⟩)));omega
   ·exact he
   ·have:=f j y.tt (Int.le_refl _) ((h y.row y.tt).1 (Cv.cons.2 (Or.inl ⟨g,by omega,d⟩)));omega
  have e:x=y:=by cases x;cases y;simp only at g t q;subst g t q;rfl
  subst e
  have out:∀ {l:List Sp3},(∀ z ∈ l,Lt4 x z)→∀ r i,Cv l r i→¬ (x.row=r∧x.frm≤i∧i<x.tt):=fun {l} b r i ⟨z,hz,a⟩ c=>by
   have:=b z hz;unfold Lt4 at this;have:=hl;have:z.frm≤i:=a.2.1;omega
  rw [fl l m pl2 o (fun s k=>hl s (List.mem_cons_of_mem _ k)) (fun s k=>hm s (List.mem_cons_of_mem _ k)) fun r i=>⟨fun a=>?_,fun a=>?_⟩]
  ·rcases Cv.cons.1 ((h r i).1 (Cv.cons.2 (Or.inr a))) with c | c
   ·exact absurd c (out b r i a)
   ·exact c
  ·rcases Cv.cons.1 ((h r i).2 (Cv.cons.2 (Or.inr a))) with c | c
   ·exact absurd c (out j r i a)
   ·exact c
def Lk (a b:jk) (i:Nat):Prop:=A6r a b (i:Int)=true
def Dff (a b:jk) (i:Nat):Prop:=a.getD i ZV≠b.getD i ZV
def Rch (a b:jk) (i:Nat):Prop:=∃ j,j<a.length∧Dff a b j∧∀ k,(i≤k∧k<j)∨(j≤k∧k<i)→Lk a b k
def SpR (a b:jk) (r:Int) (s:Sp3):Prop:=s.row=r∧∀ i:Nat,s.frm≤i→(i:Int)<s.tt→i<a.length∧Rch a b i
theorem f0 (a b:jk) (r:Int) (f:Nat) (ag:Nat→List Sp3) (g:∀ t,t≤a.length→∀ s ∈ ag t,SpR a b r s) :
  ∀ (fu c:Nat) (d:Bool),f<c→c≤a.length→(∀ k,f≤k→k+1<c→Lk a b k)→(d=true→∃ i,f≤i∧i<c∧Dff a b i)→∀ s ∈ V7 a b r f ag fu c d,SpR a b r s
 | 0,c,d,_,_,_,_,s,hs=>by grind[V7]
 | fu+1,c,d,h1,h2,h3,hd,s,hs=>by
  simp only [V7] at hs
  cases hc:(decide ((c:Int)<(a.length:Int))&&A6r a b ((c:Int) - 1)) with
  | true =>
   rw [hc,cond_true] at hs
   simp only [Bool.and_eq_true,decide_eq_true_eq] at hc
   refine f0 a b r f ag g fu (c+1) _ opx opx (fun k n o=>?_) (fun l=>?_) s hs
   ·by_cases e:k+1=c
    ·grind[Lk]
    grind
   ·rcases Bool.or_eq_true _ _▸l with l | l
    ·obtain ⟨i,h⟩:=hd l;exact ⟨i,h.1,by omega,h.2.2⟩
    ·exact ⟨c,by omega,by omega,by simpa [Dff] using l⟩
  | false =>
   rw [hc,cond_false] at hs
   cases d with
   | false=>exact g c h2 s (by simpa using hs)
   | true =>
    simp only [cond_true,List.mem_cons] at hs
    rcases hs with rfl | hs
    ·refine ⟨rfl,fun i q m=>?_⟩
     simp only at q m
     obtain ⟨j,u,v,p⟩:=hd rfl
     exact ⟨by omega,j,by omega,p,fun k n=>h3 k opx opx⟩
    ·exact g c h2 s hs
theorem f6 (a b:jk) (r:Int):∀ (fu f:Nat),f≤a.length→∀ s ∈ S4 a b r fu f,SpR a b r s
 | 0,f,_,s,hs=>by grind[S4]
 | fu+1,f,h,s,hs=>by
  simp only [S4] at hs
  cases hc:decide ((f:Int)<(a.length:Int)) with
  | false=>grind
  | true =>
   rw [hc,cond_true] at hs
   simp only [decide_eq_true_eq] at hc
   exact f0 a b r f _ (fun t d=>f6 a b r fu t d) _ _ _ opx opx (fun k _ _=>by omega) (fun c=>⟨f,by omega,by omega,by grind[Dff]⟩) s hs
def dw (A B:jj) (s:Sp3):Prop:=∃ r:Nat,s.row=r∧r<A.length∧∀ i:Nat,s.frm≤i→(i:Int)<s.tt→i<(A.getD r []).length∧Rch (A.getD r []) (B.getD r []) i
theorem dw.glue {A B:jj} (x e:Sp3) (j:dw A B x) (l:dw A B e) (h:A9z x e=true):dw A B {x with tt:=(if e.tt > x.tt then e.tt else x.tt)}:=by
 obtain ⟨r,g,k,f⟩:=j
 obtain ⟨r',n,m,b⟩:=l
 unfold A9z at h
 simp only [Bool.and_eq_true,decide_eq_true_eq] at h
 obtain rfl:r=r':=by omega
 refine ⟨r,g,k,fun i d a=>?_⟩
 grind
theorem fc (A B:jj):∀ (c:jj) (t:Nat) (l:List Sp3),t+c.length=A.length→(∀ i,i<c.length→c.getD i []=A.getD (t+i) [])→(∀ x ∈ l,dw A B x)→∀ x ∈ (P4 B c t l).1,dw A B x
 | [],t,l,_,_,d=>by grind[P4]
 | r::c,t,l,hn,hr,d=>by
  simp only [List.length_cons] at hn
  have g:r=A.getD t []:=by have:=hr 0 oom;grind
  simp only [P4,G9]
  refine D2r (dw A B) (fun a b f hb e=>dw.glue a b f hb e) t _ (fun l d=>fc A B c (t+1) l opx (fun i j=>by
   have:=hr (i+1) (by grind)
   grind) d) _ l ?_ d
  intro s h
  have:=f6 r (B.getD t []) (t:Int) _ 0 (Nat.zero_le _) s h
  rw [g] at this
  exact ⟨t,this.1,by omega,this.2⟩
theorem ex (A B:jj):∀ x ∈ (P4 B A 0 []).1,dw A B x :=
 fc A B A 0 [] opx (fun i _=>by simp) (fun x a=>absurd a List.not_mem_nil)
def MOk (a b:jk) (l:List Bool):Prop:=l.length=a.length∧(∀ i,i<a.length→l.getD i false=true→Rch a b i)∧∀ i,i<a.length→Dff a b i→l.getD i false=true
def MCl (a b:jk) (l:List Bool) (n:Nat):Prop:=∀ k,k<n→k+1<a.length→Lk a b k→l.getD k false=l.getD (k+1) false
theorem cr {α:Type} {l:List α} {d x:α} {i j:Nat} (a:i<l.length):(l.set i x).getD j d=if j=i then x else l.getD j d:=by grind
theorem dy (a b:jk) (i:Nat) (h:i+1<a.length):u0e a b (i:Int)=A6r a b (i:Int):=by grind[u0e,A6r]
theorem e7 {a b:jk} {i:Nat} (h:Lk a b i):Rch a b i ↔ Rch a b (i+1):=by
 constructor
 ·rintro ⟨j,d,c,f⟩
  refine ⟨j,d,c,fun k g=>?_⟩
  grind
 ·rintro ⟨j,d,c,f⟩
  refine ⟨j,d,c,fun k g=>?_⟩
  grind
theorem et (a b:jk) (ag:List Bool→Bool→List Bool) (P:List Bool→Prop) (B:Nat) (g:∀ l m,MOk a b l→(m=false→MCl a b l a.length)→l.count false+m.toNat≤B→P (ag l m)) :
  ∀ (fu:Nat) (l:List Bool) (m:Bool) (i:Nat),a.length - (i+1)<fu→MOk a b l→(m=false→MCl a b l i)→l.count false+m.toNat≤B→P (u0a a b ag fu l m i)
 | 0,l,m,i,h,_,_,_=>by omega
 | fu+1,l,m,i,h,hl,hm,hB=>by
  simp only [u0a]
  by_cases c:((i:Int)+1)<(a.length:Int)
  ·rw [jQ c,cond_true,dy a b i opx]
   cases hk:A6r a b (i:Int) with
   | false =>
    rw [Bool.false_and,cond_false]
    refine et a b ag P B g fu l m (i+1) opx hl (fun e k n f d=>?_) hB
    by_cases e2:k=i
    ·grind[Lk]
    ·exact hm e k opx f d
   | true =>
    rw [Bool.true_and]
    cases he:(l.getD i false == l.getD (i+1) false) with
    | true =>
     rw [Bool.not_true,cond_false]
     refine et a b ag P B g fu l m (i+1) opx hl (fun e k n f d=>?_) hB
     by_cases e2:k=i
     ·grind
     ·exact hm e k opx f d
    | false =>
     rw [Bool.not_false,cond_true]
     have p:i<l.length:=by grind
     have s:i+1<(l.set i true).length:=by rw [List.length_set,hl.1];omega
     have t:∀ j,((l.set i true).set (i+1) true).getD j false=if j=i+1 then true else if j=i then true else l.getD j false:=fun j=>by grind
     have hr:Rch a b i:=by
      have:l.getD i false=true∨l.getD (i+1) false=true:=by
       grind
      rcases this with o | o
      ·exact hl.2.1 i opx o
      ·exact (e7 hk).2 (hl.2.1 (i+1) opx o)
     have v:=ce (l:=l) (i:=i) (by rw [hl.1];omega) he
     refine et a b ag P B g fu _ true (i+1) opx ⟨by rw [List.length_set,List.length_set];exact hl.1,fun j r q=>?_,fun j r u=>?_⟩ (fun e=>absurd e ozw) (by simp only [Bool.toNat_true];omega)
     ·rw [t] at q
      by_cases e1:j=i+1
      ·rw [e1];exact (e7 hk).1 hr
      ·by_cases e2:j=i
       ·rw [e2];exact hr
       ·rw [if_neg e1,if_neg e2] at q;exact hl.2.1 j r q
     ·rw [t];split
      ·rfl
      ·split
       ·rfl
       ·exact hl.2.2 j r u
  ·rw [jX c,cond_false]
   exact g l m hl (fun e k n f d=>hm e k opx f d) hB
theorem fm (a b:jk):∀ (fu:Nat) (l:List Bool) (m:Bool),MOk a b l→(m=false→MCl a b l a.length)→l.count false+m.toNat<fu→MOk a b (u0h a b fu l m)∧MCl a b (u0h a b fu l m) a.length
 | 0,l,m,_,_,h=>by omega
 | fu+1,l,false,hl,hm,h=>by simp only [u0h,cond_false];grind
 | fu+1,l,true,hl,hm,h=>by
  simp only [u0h,cond_true]
  simp only [Bool.toNat_true] at h
  exact et a b (u0h a b fu) (fun r=>MOk a b r∧MCl a b r a.length) (l.count false) (fun f e g d i=>fm a b fu f e g d opx) _ l false 0 opx hl (fun _ k c=>absurd c opx) oom
theorem fa (a b:jk):∀ (xs:jk) (l:List Bool) (i:Nat),xs=a.drop i→i≤a.length→l.length=a.length→(∀ k,l.getD k false=(decide (k<i)&&!decide (a.getD k ZV=b.getD k ZV))) →
  MOk a b (u0i a b xs l i)∧MCl a b (u0i a b xs l i) a.length
 | [],l,i,h,hi,hl,hk=>by
  simp only [u0i]
  have m:i=a.length:=by have:=congrArg List.length h;grind
  refine fm a b _ l true ⟨hl,fun k j d=>?_,fun k j d=>?_⟩ (fun e=>absurd e ozw) opx
  ·rw [hk] at d
   simp only [Bool.and_eq_true,Bool.not_eq_true',decide_eq_false_iff_not] at d
   exact ⟨k,j,d.2,fun q o=>by omega⟩
  ·rw [hk,jQ opx,Bool.true_and];grind[Dff]
 | x::xs,l,i,h,hi,hl,hk=>by
  have c:i<a.length:=by
   grind
  have g:=List.drop_eq_getElem_cons c
  have n:x=a.getD i ZV:=by grind
  have f:xs=a.drop (i+1):=by grind
  simp only [u0i]
  refine fa a b xs _ (i+1) f opx (by grind) (fun k=>?_)
  grind
theorem dr (a b:jk):MOk a b (u0g a b)∧MCl a b (u0g a b) a.length :=
 fa a b a _ 0 oom (Nat.zero_le _) oom (fun k=>by grind)
theorem dv {a b:jk} {l:List Bool} (c:MCl a b l a.length):∀ (n i:Nat),i+n<a.length→(∀ k,i≤k→k<i+n→Lk a b k)→l.getD i false=l.getD (i+n) false
 | 0,i,_,_=>rfl
 | n+1,i,h,hk=>by
  rw [c i opx opx (hk i opx opx),dv c n (i+1) opx (fun k e d=>hk k opx opx)]
  grind
theorem df (a b:jk) (i:Nat) (p:i<a.length):(u0g a b).getD i false=true ↔ Rch a b i:=by
 obtain ⟨⟨q,l,n⟩,f⟩:=dr a b
 refine ⟨l i p,fun ⟨j,m,o,e⟩=>?_⟩
 have d:=n j m o
 rcases Nat.le_total i j with c | c
 ·have:=dv f (j - i) i opx (fun k g h=>e k opx)
  grind
 ·have:=dv f (i - j) j opx (fun k g h=>e k opx)
  grind
theorem eh (a b:jk):(u0g a b).length=a.length:=(dr a b).1.1
structure RI (out:List Sp3) (r:Nat) (i:Nat) (m:List Bool) (C:Int→Int→Prop):Prop where
 pw:out.Pairwise Lt4
 pos:∀ s ∈ out,s.frm<s.tt
 below:∀ s ∈ out,s.row<r∨(s.row=r∧s.tt≤i∧(s.tt=i→0<i∧m.getD (i - 1) false=true))
 cov:∀ q j:Int,Cv out q j ↔ C q j∨(q=r∧∃ k:Nat,k<i∧j=k∧m.getD k false=true)
 last:0<i→m.getD (i - 1) false=true→∃ (g:List Sp3) (x:Sp3),out=g++[x]∧x.row=(r:Int)∧x.tt=(i:Int)
theorem ey (g:List Sp3) (x y:Sp3):(g++[x]).set ((g++[x]).length - 1) y=g++[y]:=by simp
theorem eu (g:List Sp3) (x:Sp3):(g++[x]).getD ((g++[x]).length - 1) ZY=x:=by simp
theorem rl1 (r:Nat) (m:List Bool) (ag:List Sp3→Nat→List Sp3) (C:Int→Int→Prop):∀ (xs:List Bool) (out:List Sp3) (i:Nat),xs=m.drop i→i≤m.length→RI out r i m C→∃ d,u0b r m ag xs out i=ag d (r+1)∧RI d r m.length m C
 | [],out,i,h,hi,hR=>by
  have v:i=m.length:=by have:=congrArg List.length h;grind
  grind[u0b]
 | x::xs,out,i,h,hi,hR=>by
  have t:i<m.length:=by
   grind
  have hd:=List.drop_eq_getElem_cons t
  have p:m.getD i false=x:=by grind
  have n:xs=m.drop (i+1):=by grind
  simp only [u0b]
  cases x with
  | false =>
   rw [Bool.not_false,cond_true]
   refine rl1 r m ag C xs out (i+1) n opx ⟨hR.pw,hR.pos,fun s a=>?_,fun q j=>?_,fun _ b=>?_⟩
   ·rcases hR.below s a with h | ⟨h1,b,h3⟩
    all_goals omega
   ·rw [hR.cov]
    grind
   grind
  | true =>
   rw [Bool.not_true,cond_false]
   by_cases c:0<i∧m.getD (i - 1) false=true
   ·rw [show ((decide ((0:Int)<(i:Int)))&&(m.getD (i - 1) false))=true by grind,cond_true]
    obtain ⟨g,y,rfl,y1,y2⟩:=hR.last c.1 c.2
    rw [ey,eu]
    have hy:=hR.pos y oom
    have l:=List.pairwise_append.1 hR.pw
    refine rl1 r m ag C xs _ (i+1) n opx ⟨?_,fun s a=>?_,fun s a=>?_,fun q j=>?_,fun _ _=>⟨g,_,rfl,y1,by simp⟩⟩
    ·refine List.pairwise_append.2 ⟨l.1,List.pairwise_singleton _ _,fun z hz w hw=>?_⟩
     have:=l.2.2 z hz y oom
     rw [List.mem_singleton.1 hw];exact this
    ·rcases List.mem_append.1 a with a | a
     ·exact hR.pos s (List.mem_append_left _ a)
     grind
    ·rcases List.mem_append.1 a with a | a
     ·have f:=l.2.2 s a y oom
      have a8:=hR.pos s (List.mem_append_left _ a)
      unfold Lt4 at f
      omega
     grind
    ·have o:=hR.cov q j
     grind[Cv.append,Cv,List.mem_singleton_self]
   ·rw [show ((decide ((0:Int)<(i:Int)))&&(m.getD (i - 1) false))=false by
     grind,cond_false]
    have u:∀ s ∈ out,s.row<r∨(s.row=r∧s.tt<i):=fun s a=>by
     rcases hR.below s a with h | ⟨h1,b,h3⟩
     all_goals grind
    refine rl1 r m ag C xs _ (i+1) n opx ⟨?_,fun s a=>?_,fun s a=>?_,fun q j=>?_,fun _ _=>⟨out,_,rfl,rfl,by simp⟩⟩
    ·refine List.pairwise_append.2 ⟨hR.pw,List.pairwise_singleton _ _,fun z hz w hw=>?_⟩
     rw [List.mem_singleton.1 hw];unfold Lt4;simp only;have:=u z hz;omega
    ·rcases List.mem_append.1 a with a | a
     ·exact hR.pos s a
     ·rw [List.mem_singleton.1 a];simp only;omega
    ·rcases List.mem_append.1 a with a | a
     ·rcases u s a with h | ⟨h1,b⟩
      ·exact Or.inl h
      ·exact Or.inr ⟨h1,by omega,fun e=>by omega⟩
     ·rw [List.mem_singleton.1 a]
      exact Or.inr ⟨rfl,by simp,fun _=>⟨by omega,by rw [Nat.add_sub_cancel];exact p⟩⟩
    ·rw [Cv.append,hR.cov]
     have e2:Cv [{ZY with row:=(r:Int),frm:=(i:Int),tt:=((i:Int)+1)}] q j ↔ ((r:Int)=q∧(i:Int)≤j∧j<(i:Int)+1):=⟨fun ⟨s,a,h⟩=>by rw [List.mem_singleton.1 a] at h;exact h,fun h=>⟨_,List.mem_singleton_self _,h⟩⟩
     rw [e2]
     constructor
     ·rintro ((h | ⟨h1,k,b,h3⟩) | ⟨h1,b,h3⟩)
      ·exact Or.inl h
      ·exact Or.inr ⟨h1,k,by omega,h3⟩
      ·exact Or.inr ⟨h1.symm,i,by omega,by omega,p⟩
     ·rintro (h | ⟨h1,k,b,h3,h4⟩)
      ·exact Or.inl (Or.inl h)
      ·by_cases e:k=i
       ·exact Or.inr ⟨h1.symm,by omega,by omega⟩
       ·exact Or.inl (Or.inr ⟨h1,k,by omega,h3,h4⟩)
def CA (A B:jj) (t:Nat) (q j:Int):Prop:=∃ r k:Nat,q=r∧j=k∧r<t∧k<(A.getD r []).length∧Rch (A.getD r []) (B.getD r []) k
theorem rl0 (A B:jj):∀ (a:jj) (out:List Sp3) (r:Nat),a=A.drop r→r≤A.length→RI out r 0 [] (CA A B r)→RI (u0c B a out r) A.length 0 [] (CA A B A.length)
 | [],out,r,h,hr,hR=>by
  have g:r=A.length:=by have:=congrArg List.length h;grind
  grind[u0c]
 | x::a,out,r,h,hr,hR=>by
  have d:r<A.length:=by
   grind
  have n:=List.drop_eq_getElem_cons d
  have l:x=A.getD r []:=by grind
  have m:a=A.drop (r+1):=by grind
  simp only [u0c,B5]
  obtain ⟨f,e,b⟩:=rl1 r (u0g x (B.getD r [])) (u0c B a) (CA A B r) (u0g x (B.getD r [])) out 0 oom (Nat.zero_le _) ⟨hR.pw,hR.pos,fun s i=>by
   rcases hR.below s i with h | ⟨h1,h2,h3⟩
   ·exact Or.inl h
   ·exact Or.inr ⟨h1,h2,fun e=>absurd (h3 e).1 opx⟩,fun q j=>by
   rw [hR.cov]
   constructor
   ·rintro (h | ⟨_,k,h2,_⟩)
    ·exact Or.inl h
    ·omega
   ·rintro (h | ⟨_,k,h2,_⟩)
    ·exact Or.inl h
    ·omega,fun h=>absurd h opx⟩
  rw [e]
  refine rl0 A B a f (r+1) m opx ⟨b.pw,b.pos,fun s i=>Or.inl ?_,fun q j=>?_,fun h=>absurd h opx⟩
  ·have:=b.below s i;omega
  ·rw [b.cov]
   have c:=eh x (B.getD r [])
   constructor
   ·rintro (⟨r',k,h1,h2,h3,h4⟩ | ⟨h1,k,h2,h3,h4⟩)
    ·exact Or.inl ⟨r',k,h1,h2,by omega,h4⟩
    ·rw [c] at h2
     exact Or.inl ⟨r,k,h1,h3,by omega,by rw [← l];exact h2,by rw [← l];exact (df x _ k h2).1 h4⟩
   ·rintro (⟨r',k,h1,h2,h3,h4,h5⟩ | ⟨_,k,h2,_⟩)
    ·by_cases e:r'=r
     ·subst e;rw [← l] at h4 h5
      exact Or.inr ⟨h1,k,by rw [c];exact h4,h2,(df x _ k h4).2 h5⟩
     ·exact Or.inl ⟨r',k,h1,h2,by omega,h4,h5⟩
    ·omega
theorem dl (A B:jj):(P4 B A 0 []).1=u0c B A [] 0:=by
 have hR:=rl0 A B A [] 0 oom (Nat.zero_le _) ⟨List.Pairwise.nil,fun s a=>absurd a List.not_mem_nil,fun s a=>absurd a List.not_mem_nil,fun q j=>⟨fun h=>absurd h Cv.nil,fun h=>by
  rcases h with ⟨r,k,_,_,h,_⟩ | ⟨_,k,h,_⟩
  ·omega
  ·omega⟩,fun h=>absurd h opx⟩
 obtain ⟨w,p2,o⟩:=dm A B
 refine fl _ _ w hR.pw (fun s a=>(p2 s a).lt) hR.pos fun q j=>?_
 rw [hR.cov]
 constructor
 ·rintro ⟨s,a,v,d,g⟩
  obtain ⟨r,r1,y,p⟩:=ex A B s a
  obtain ⟨l,i,e,f,t,m,n,_⟩:=p2 s a
  obtain ⟨k,rfl⟩:∃ k:Nat,j=k:=⟨j.toNat,by omega⟩
  exact Or.inl ⟨r,k,by omega,rfl,y,p k d g⟩
 ·rintro (⟨r,k,v,d,g,h4,j',j1,j2,j3⟩ | ⟨_,k,d,_⟩)
  ·obtain ⟨s,a,s1,s2,s3⟩:=o r j' g j1 j2
   obtain ⟨l,i,e,f,t,m,n,z,tl,_,u,x⟩:=p2 s a
   obtain rfl:l=r:=by omega
   refine ⟨s,a,by omega,?_,?_⟩
   ·rw [m,d]
    by_cases c:f≤k
    ·omega
    ·exfalso
     have:=j3 (f - 1) opx
     rcases u with b | b | b
     all_goals grind[Lk]
   ·rw [n,d]
    by_cases c:k<t
    ·omega
    ·exfalso
     have:=j3 (t - 1) opx
     rcases x with b | b | b
     ·omega
     ·omega
     ·unfold Lk at this;rw [show ((t - 1:Nat):Int)=(t:Int) - 1 by omega,b] at this;cases this
  ·omega
theorem fe {row:jk} (h:U5 row false=true) {i:Nat} (c:i<row.length) (b:(row.getD i ZV).wide=2):0<i∧(row.getD (i - 1) ZV).wide=1:=by
 unfold U5 at h
 have h:=of_decide_eq_true h
 unfold B1y at h
 obtain ⟨-,h⟩:=E1p h ozw
 have a:=(D4g row row 0 h i c).1
 rw [Nat.zero_add,jQ b] at a
 simp only [Bool.and_eq_true,decide_eq_true_eq] at a
 exact ⟨by omega,a.2⟩
theorem di {f:FrmC} {fR:jj} {r:FrmC×jj} (h:B2d f.cols (fR.length:Int)=r) (a:L6 f fR=true) :
  ∀ s ∈ u0d r.1 r.2 f fR,P8 r.1 r.2 f fR s=true:=by
 have g:FRt f fR:=C3g a
 have d:=u0f h g
 have e:=aw h g
 have l:∀ q i,((r.2.getD q []).getD i ZV).wide=0:=by
  rw [bm] at h
  intro q i
  rw [← h]
  simp only [List.getD_eq_getElem?_getD,List.getElem?_replicate]
  split
  ·simp only [Option.getD_some,List.getElem?_replicate];split<;>rfl
  ·rfl
 intro s v
 have c:s ∈ (P4 fR r.2 0 []).1:=by rw [dl];exact v
 obtain ⟨q,y,w,j,k,f1,t1,z,tl,_,m,u⟩:=(dm r.2 fR).2.1 s c
 have l1:=d q y
 have l2:=e.2.2 q opx
 have x:fR.getD q [] ∈ fR:=by
  rw [List.getD_eq_getElem?_getD,List.getElem?_eq_getElem (show q<fR.length by omega)];exact List.getElem_mem _
 have hb:∀ t:Nat,Bd (r.2.getD q []) (fR.getD q []) t→t<(fR.getD q []).length→((fR.getD q []).getD t ZV).wide≠2:=by
  intro t p n o
  obtain ⟨p1,p2⟩:=fe (F5v a _ x) n o
  rcases p with b | b | b
  ·omega
  ·omega
  ·unfold A6r at b
   simp only [Bool.or_eq_false_iff,decide_eq_false_iff_not] at b
   refine b.2 ?_
   rw [show ((t:Int) - 1).toNat=t - 1 by omega];exact p2
 unfold P8
 rw [show s.row.toNat=q by omega,show s.frm.toNat=j by omega,show s.tt.toNat=k by omega,l,l]
 rw [show (((((decide (s.row<0))||(decide ((r.2.length:Int)≤s.row)))||(decide (s.frm<0)))||(decide (r.1.cols<s.tt)))||(decide (s.tt≤s.frm)))=false by simp only [Bool.or_eq_false_iff,decide_eq_false_iff_not];omega]
 rw [jX (hb j m opx)]
 by_cases he:s.tt=r.1.cols
 ·rw [jQ he];rfl
 ·rw [jX (hb k u opx)]
  cases decide (s.tt=r.1.cols)<;>rfl
theorem bz {f:FrmC} {fR:jj} {r:FrmC×jj} (h:B2d f.cols (fR.length:Int)=r) (a:L6 f fR=true) :
  ∀ s ∈ u0d r.1 r.2 f fR,(0≤s.row∧s.row<fR.length∧0≤s.frm∧s.frm<s.tt∧s.tt≤r.1.cols)∧∀ i:Int,s.frm≤i→i<s.tt→((fR.getD (s.row).toNat []).getD i.toNat ZV).wide=1→i+1<s.tt:=fun s d=>by
 have c:FRt f fR:=C3g a
 have b:=aw h c
 exact F1t (di h a s d) b.2.1.2.symm b.2.2 (F5v a)
theorem eg {a:FrmC} {bR:jj} (d:∀ j,j<bR.length→((bR.getD j []).length:Int)=a.cols) (b:2≤a.cols∧a.cols≤80) (hb:bR.length≤40):∀ (l:List Sp3) (out:jz) (i:Nat) (pen:Sty) (c:Cur),(0≤c.row∧c.row≤40∧0≤c.col∧c.col≤80) →
  (∀ s ∈ l,(0≤s.row∧s.row<bR.length∧0≤s.frm∧s.frm<s.tt∧s.tt≤a.cols)∧∀ i:Int,s.frm≤i→i<s.tt→((bR.getD (s.row).toNat []).getD i.toNat ZV).wide=1→i+1<s.tt) →
  (V2 a bR l out i pen c).1.length≤out.length+300000 * l.length+1100∧(0≤(V2 a bR l out i pen c).2.row∧(V2 a bR l out i pen c).2.row≤40∧0≤(V2 a bR l out i pen c).2.col∧(V2 a bR l out i pen c).2.col≤80)
 | [],out,i,pen,c,hc,_=>by
  have:=(A9p pen ZJ).1
  simp only [V2,B5,List.length_append,List.length_nil];exact ⟨by omega,hc⟩
 | s::l,out,i,pen,c,hc,hs=>by
  obtain ⟨m,f⟩:=hs s jU
  have h:=d s.row.toNat opx
  have g:=B9s (bR.getD s.row.toNat []) s.frm s.tt pen ⟨by omega,by omega,by omega,by omega⟩ f
  have k:=D6s c ⟨s.row,s.frm⟩ ⟨⟨hc.1,hc.2.1,by show 0≤s.row;omega,by show s.row≤40;omega⟩,hc.2.2.1,hc.2.2.2,by show 0≤s.frm;omega,by show s.frm≤80;omega⟩
  simp only [V2,B5]
  generalize C4 (bR.getD s.row.toNat []) s.frm s.tt pen=S at *
  generalize A1z c ⟨s.row,s.frm⟩=W at *
  have hL:((out++W)++S.2).length≤out.length+250000:=by simp only [List.length_append];omega
  by_cases he:S.1.ends=a.cols
  ·rw [jQ he,cond_true]
   have:=eg d b hb l ((out++W)++S.2) (i+1) S.1.pen ⟨s.row,S.1.ends - 1,true⟩ ⟨by show 0≤s.row;omega,by show s.row≤40;omega,by show 0≤S.1.ends - 1;omega,by show S.1.ends - 1≤80;omega⟩ (fun x e=>hs x (List.mem_cons_of_mem _ e))
   exact ⟨Nat.le_trans this.1 (by rw [List.length_cons];omega),this.2⟩
  ·rw [jX he,cond_false]
   have:=eg d b hb l ((out++W)++S.2) (i+1) S.1.pen {ZS with row:=s.row,col:=S.1.ends} ⟨by show 0≤s.row;omega,by show s.row≤40;omega,by show 0≤S.1.ends;omega,by show S.1.ends≤80;omega⟩ (fun x e=>hs x (List.mem_cons_of_mem _ e))
   exact ⟨Nat.le_trans this.1 (by rw [List.length_cons];omega),this.2⟩
theorem ea {f:FrmC} {fR:jj} {r:FrmC×jj} (h:B2d f.cols (fR.length:Int)=r) (b:L6 f fR=true):(B5s r.1 r.2 f fR (u0d r.1 r.2 f fR) ZS).1.length≤1000000000 ∧
  (0≤(B5s r.1 r.2 f fR (u0d r.1 r.2 f fR) ZS).2.row∧(B5s r.1 r.2 f fR (u0d r.1 r.2 f fR) ZS).2.row≤40∧0≤(B5s r.1 r.2 f fR (u0d r.1 r.2 f fR) ZS).2.col∧(B5s r.1 r.2 f fR (u0d r.1 r.2 f fR) ZS).2.col≤80):=by
 have c:FRt f fR:=C3g b
 have d:=ca h c
 have:=eg (a:=r.1) (bR:=fR) (aw h c).2.2 (aw h c).1 c.2.2.2.1 (u0d r.1 r.2 f fR) [] 0 ZJ ZS ozw (bz h b)
 rw [List.length_nil] at this
 exact ⟨by unfold B5s;omega,this.2⟩
theorem ee:Zero Tryz.prog 29 (F5 ZS):=⟨by kernel_rfl⟩
def av (b:FrmC) (c:Cur) (d:jz):jz :=
 (B5 (A1z c b.cursor) fun (a:jz)=>(d++a))
def ap (a:FrmC) (b:FrmC) (c:Cur) (d:jz):jz :=
 (bif ((!a.visible)&&b.visible) then av b c (d++([{ZZ with kind:=37,n:=25,m:=1}]:jz)) else av b c d)
def ar (a:FrmC) (b:FrmC) (c:Cur) (d:jz):jz :=
 (bif (a.visible&&(!b.visible)) then ap a b c (d++([{ZZ with kind:=37,n:=25,m:=0}]:jz)) else ap a b c d)
def au (a:FrmC) (b:FrmC) (c:Cur) (out:jz):jz :=
 (bif (!decide (a.shape=b.shape)) then ar a b c (out++([{ZZ with kind:=40,n:=b.shape}]:jz)) else ar a b c out)
def ba (a:FrmC) (d:jj) (b:FrmC) (e:jj) (c:Cur):jz :=
 (bif (!(decide (a.title=b.title))) then au a b c (([]:jz)++([{ZZ with kind:=44,text:=b.title}]:jz)) else au a b c ([]:jz))
theorem bh {a:FrmC} {aR:jj} {b:FrmC} {bR:jj} {c:Cur} {R:jz} (h:ba a aR b bR c=R) (hb:(0≤c.row∧c.row≤40∧0≤b.cursor.row∧b.cursor.row≤40)∧(0≤c.col∧c.col≤80∧0≤b.cursor.col∧b.cursor.col≤80)):R.length≤110:=by
 have:=D6s c b.cursor hb
 subst h
 unfold ba au ar ap av
 simp only [B5]
 generalize (!decide (a.title=b.title))=x
 generalize (!decide (a.shape=b.shape))=y
 generalize (a.visible&&(!b.visible))=v
 generalize ((!a.visible)&&b.visible)=w
 cases x<;>cases y<;>cases v<;>cases w<;>simp only [cond_true,cond_false,List.length_append,List.length_cons,List.length_nil]<;>omega
theorem bu {a:FrmC} {aRows:jj} {b:FrmC} {bRows:jj} {c:Cur} {e:kQ} {h:List Slc} {aRowsk:Nat} {d:kQ} {g:List Slc} {bRowsk:Nat} {R:jz} (hR:ba a aRows b bRows c=R) (w:B4 h aRows:=by exact bW) (b4:aRows.length≤9223372036854775807:=by exact bW) (an:aRows.length≤aRowsk:=by exact bW) (y:B4 g bRows:=by exact bW) (am:bRows.length≤9223372036854775807:=by exact bW) (b7:bRows.length≤bRowsk:=by exact bW) (hb:(0≤c.row∧c.row≤40∧0≤b.cursor.row∧b.cursor.row≤40)∧(0≤c.col∧c.col≤80∧0≤b.cursor.col∧b.cursor.col≤80):=by exact bW):cM Tryz.prog 33 [ag (C9 a ⟨e,aRows.length,aRowsk⟩),ag (C9 b ⟨d,bRows.length,bRowsk⟩),ag (F5 c)] [] [sl F0 e h,D8 D0 h aRows,sl F0 d g,D8 D0 g bRows] ({r:VR // bT 6 R.length r}) (fun x=>.slice (va x.1.q) R.length x.1.k) (fun x=>((vo A2 51 x.1 R)++([]))) (fun x=>[]):=by
 refine cD Tryz.func33 fun X hX hr hD=>?_
 replace hR:=(ba.eq_1 ..).symm.trans hR
 refine bS rfl (D8c 4 0 [] (fun b1 b2 b3=>[(3,pt b1 0),(4,pt b2 0),(5,pt b3 0)]) (fun b1 b2 b3=>[bx b3 (F5 c) 29,bx b2 (C9 b ⟨d,bRows.length,bRowsk⟩) 26,bx b1 (C9 a ⟨e,aRows.length,aRowsk⟩) 26]) (fun b1 b2 b3=>?_))
 refine ie (bS rfl (bP 1 7 rfl ?_))
 refine ie (A7i (un fun out t=>(au a b c out=R∧bT 6 out.length t∧out.length≤1,[(3,pt b1 0),(4,pt b2 0),(5,pt b3 0),(7,.slice (va t.q) out.length t.k)],(bx b3 (F5 c) 29::bx b2 (C9 b ⟨d,bRows.length,bRowsk⟩) 26::bx b1 (C9 a ⟨e,aRows.length,aRowsk⟩) 26::((vo A2 51 t out)++([]))),[sl F0 e h,D8 D0 h aRows,sl F0 d g,D8 D0 g bRows])) ?_ ?_)
 ·refine bS rfl (pl2 4 [2,1] 9 11 rfl ?_)
  refine ix rfl (B2u rfl rfl rfl) ?_
  refine ie ?_
  refine zjn rfl hR ?_ ?_<;>clear hR<;>intro hR h4 c5
  ·refine A0 7 rfl (bY 4 3 [1] [(13,.slice none 0 0),(16,ag (A2 ({ZZ with kind:=44,text:=b.title})))] ?_)
   refine it rfl (B0 (c:=A2) (xs:=[{ZZ with kind:=44,text:=b.title}]) N3 rfl rfl rfl oki) fun b5=>?_
   refine it rfl (Q7 (f:=A2) (r:=VR.nil) (xs:=jZ) (ys:=([{ZZ with kind:=44,text:=b.title}]:jz)) (pre:=[bx b3 (F5 c) 29,bx b2 (C9 b ⟨d,bRows.length,bRowsk⟩) 26,bx b1 (C9 a ⟨e,aRows.length,aRowsk⟩) 26]) (post:=[]) A0c (fun _=>rfl) (fun _=>rfl) rfl rfl rfl rfl rfl rfl rfl rfl rfl (A5 0 rfl) bT.nil ofv ofv) fun ⟨r6,ac⟩=>?_
   refine bP 1 7 rfl ?_
   refine A1 ?_
   exact S6 (_,_) ⟨hR,ac,ozq⟩ bU c9
  refine A4 (Y9 (I8 [_,_,_,_] [1,2,3,0] 4 rfl ozw rfl [[_],[_],[_],vo A2 51 VR.nil []] rfl opv) ?_)
  exact S6 (_,_) ⟨hR,bT.nil,ozq⟩ bU A7.refl
 rintro ⟨out,t⟩
 rintro ⟨hR,a4,c3⟩
 replace hR:=(au.eq_1 ..).symm.trans hR
 refine A7i (un fun p j=>(ar a b c p=R∧bT 6 p.length j∧p.length≤2,[(3,pt b1 0),(4,pt b2 0),(5,pt b3 0),(7,.slice (va j.q) p.length j.k)],(bx b3 (F5 c) 29::bx b2 (C9 b ⟨d,bRows.length,bRowsk⟩) 26::bx b1 (C9 a ⟨e,aRows.length,aRowsk⟩) 26::((vo A2 51 j p)++([]))),[sl F0 e h,D8 D0 h aRows,sl F0 d g,D8 D0 g bRows])) ?_ ?_
 ·refine bS rfl (cB 5 [2,1] 23 rfl ?_)
  refine ie ?_
  refine zjn rfl hR ?_ ?_<;>clear hR<;>intro hR h8 ch
  ·refine A0 7 rfl (bY 4 3 [1] [(24,.slice (va t.q) out.length t.k),(27,ag (A2 ({ZZ with kind:=40,n:=b.shape})))] ?_)
   refine it rfl (B0 (c:=A2) (xs:=[{ZZ with kind:=40,n:=b.shape}]) N3 rfl rfl rfl oki) fun b9=>?_
   have:([{ZZ with kind:=40,n:=b.shape}]:jz).length=1:=rfl
   refine it rfl (Q7 (f:=A2) (r:=t) (xs:=out) (ys:=([{ZZ with kind:=40,n:=b.shape}]:jz)) (pre:=[bx b3 (F5 c) 29,bx b2 (C9 b ⟨d,bRows.length,bRowsk⟩) 26,bx b1 (C9 a ⟨e,aRows.length,aRowsk⟩) 26]) (post:=[]) A0c (fun _=>rfl) (fun _=>rfl) rfl rfl rfl rfl rfl rfl rfl rfl rfl (A5 0 rfl) a4 ofv ofv) fun ⟨be,a7⟩=>?_
   refine bP 1 7 rfl ?_
   refine A1 ?_
   exact S6 (_,_) ⟨hR,a7,ozq⟩ bU c9
  refine A4 ?_
  exact S6 (_,t) ⟨hR,a4,ozq⟩ bU A7.refl
 rintro ⟨p,j⟩
 rintro ⟨hR,a0,c6⟩
 replace hR:=(ar.eq_1 ..).symm.trans hR
 refine A7i (un fun o i=>(ap a b c o=R∧bT 6 o.length i∧o.length≤3,[(3,pt b1 0),(4,pt b2 0),(5,pt b3 0),(7,.slice (va i.q) o.length i.k)],(bx b3 (F5 c) 29::bx b2 (C9 b ⟨d,bRows.length,bRowsk⟩) 26::bx b1 (C9 a ⟨e,aRows.length,aRowsk⟩) 26::((vo A2 51 i o)++([]))),[sl F0 e h,D8 D0 h aRows,sl F0 d g,D8 D0 g bRows])) ?_ ?_
 ·refine bS rfl (cB 3 [2] 32 rfl ?_)
  refine zia 4 0 32 36 (!b.visible) (fun br=>?_) ?_
  ·refine cB 4 [1] 36 rfl ?_
   exact A1 (I1 2 32 _ br A7.refl bU rfl rfl rfl rfl rfl)
  refine ie ?_
  refine zjb rfl hR ?_ ?_<;>clear hR<;>intro hR ah
  ·have aq:=bV ah
   refine A0 5 rfl (bY 2 3 [] [(37,.slice (va j.q) p.length j.k),(38,ag (A2 ({ZZ with kind:=37,n:=25,m:=0})))] ?_)
   refine it rfl (B0 (c:=A2) (xs:=[{ZZ with kind:=37,n:=25,m:=0}]) N3 rfl rfl rfl oki) fun c2=>?_
   have:([{ZZ with kind:=37,n:=25,m:=0}]:jz).length=1:=rfl
   refine it rfl (Q7 (f:=A2) (r:=j) (xs:=p) (ys:=([{ZZ with kind:=37,n:=25,m:=0}]:jz)) (pre:=[bx b3 (F5 c) 29,bx b2 (C9 b ⟨d,bRows.length,bRowsk⟩) 26,bx b1 (C9 a ⟨e,aRows.length,aRowsk⟩) 26]) (post:=[]) A0c (fun _=>rfl) (fun _=>rfl) rfl rfl rfl rfl rfl rfl rfl rfl rfl (A5 0 rfl) a0 ofv ofv) fun ⟨b8,a9⟩=>?_
   refine bP 1 7 rfl ?_
   refine A1 ?_
   exact S6 (_,_) ⟨hR,a9,ozq⟩ bU c9
  refine A4 ?_
  exact S6 (p,j) ⟨hR,a0,ozq⟩ bU A7.refl
 rintro ⟨o,i⟩
 rintro ⟨hR,z,cs⟩
 replace hR:=(ap.eq_1 ..).symm.trans hR
 refine A7i (un fun s l=>(av b c s=R∧bT 6 s.length l∧s.length≤4,[(4,pt b2 0),(5,pt b3 0),(7,.slice (va l.q) s.length l.k)],(bx b3 (F5 c) 29::bx b2 (C9 b ⟨d,bRows.length,bRowsk⟩) 26::bx b1 (C9 a ⟨e,aRows.length,aRowsk⟩) 26::((vo A2 51 l s)++([]))),[sl F0 e h,D8 D0 h aRows,sl F0 d g,D8 D0 g bRows])) ?_ ?_
 ·refine bS rfl (cB 4 [2] 44 rfl ?_)
  refine zia 3 0 44 47 b.visible (fun bk=>?_) ?_
  ·refine cB 3 [1] 47 rfl ?_
   exact A1 (I1 2 44 _ bk A7.refl bU rfl rfl rfl rfl rfl)
  refine ie ?_
  refine zjb rfl hR ?_ ?_<;>clear hR<;>intro hR b0
  ·have b6:=bV b0
   refine A0 5 rfl (bY 2 3 [] [(48,.slice (va i.q) o.length i.k),(49,ag (A2 ({ZZ with kind:=37,n:=25,m:=1})))] ?_)
   refine it rfl (B0 (c:=A2) (xs:=[{ZZ with kind:=37,n:=25,m:=1}]) N3 rfl rfl rfl oki) fun cp=>?_
   have:([{ZZ with kind:=37,n:=25,m:=1}]:jz).length=1:=rfl
   refine it rfl (Q7 (f:=A2) (r:=i) (xs:=o) (ys:=([{ZZ with kind:=37,n:=25,m:=1}]:jz)) (pre:=[bx b3 (F5 c) 29,bx b2 (C9 b ⟨d,bRows.length,bRowsk⟩) 26,bx b1 (C9 a ⟨e,aRows.length,aRowsk⟩) 26]) (post:=[]) A0c (fun _=>rfl) (fun _=>rfl) rfl rfl rfl rfl rfl rfl rfl rfl rfl (A5 0 rfl) z ofv ofv) fun ⟨bl,a6⟩=>?_
   refine bP 1 7 rfl ?_
   refine A1 ?_
   exact S6 (_,_) ⟨hR,a6,ozq⟩ bU c9
  refine A4 ?_
  exact S6 (o,i) ⟨hR,z,ozq⟩ bU A7.refl
 rintro ⟨s,l⟩
 rintro ⟨hR,a5,c8⟩
 replace hR:=(av.eq_1 ..).symm.trans hR
 refine bS rfl (bY 4 3 [0,1] [(52,.slice (va l.q) s.length l.k),(53,ag (F5 c)),(55,ag (A0n b.cursor))] ?_)
 obtain ⟨v,u,hR⟩:=C3 hR
 refine zc rfl (E4j u) fun ⟨⟨cl,c7⟩,ak⟩=>?_
 obtain ⟨c1,c0⟩:=ak
 have:=D6s c b.cursor (by first|omega|(dsimp only;omega));try rw [u] at this
 refine it rfl (Y6 (f:=A2) (r:=l) (xs:=s) (ys:=v) (pre:=[bx b3 (F5 c) 29,bx b2 (C9 b ⟨d,bRows.length,bRowsk⟩) 26,bx b1 (C9 a ⟨e,aRows.length,aRowsk⟩) 26]) (post:=[]) A0c (fun _=>rfl) (fun _=>rfl) rfl rfl rfl rfl rfl rfl rfl rfl (A5 0 rfl) a5 ofv ofv) fun ⟨bb,a8⟩=>?_
 refine bP 1 6 rfl ?_
 subst hR
 refine ie (A8 ?_)
 exact cc (I9 rfl A6) _
def bi (f:FrmC) (b:jj):jz :=
 (B5 (B2d f.cols (b.length:Int)) fun (a:FrmC×jj)=>(B5 (ba a.1 a.2 f b ((B5s a.1 a.2 f b (u0d a.1 a.2 f b) ZS).2)) fun (c:jz)=>((([{ZZ with kind:=15},{ZZ with kind:=37,n:=1049,m:=1}]:jz)++(B5s a.1 a.2 f b (u0d a.1 a.2 f b) ZS).1)++c)))
theorem ei {f:FrmC} {fRows:jj} {d:kQ} {s:List Slc} {fRowsk:Nat} {R:jz} (hR:bi f fRows=R) (e:B4 s fRows:=by exact bW) (c0:fRows.length≤9223372036854775807:=by exact bW) (c2:fRows.length≤fRowsk:=by exact bW) (a0:L6 f fRows=true:=by exact bW):cM Tryz.prog 13 [ag (C9 f ⟨d,fRows.length,fRowsk⟩)] [] [sl F0 d s,D8 D0 s fRows] ({r:VR // bT 6 R.length r}) (fun x=>.slice (va x.1.q) R.length x.1.k) (fun x=>((vo A2 51 x.1 R)++([]))) (fun x=>[]):=by
 refine cD Tryz.func13 fun X hX hr hD=>?_
 replace hR:=(bi.eq_1 ..).symm.trans hR
 have:=e.1
 have w:FRt f fRows:=C3g a0
 obtain ⟨d0,d3,ct,ch,d2⟩:=id w
 have d1:=F2t a0
 refine bS rfl (cI 2 [] (fun v=>[(1,pt v 0)]) (fun _=>(C9 f ⟨d,fRows.length,fRowsk⟩)) 26 fun v=>?_)
 refine ie (bS rfl (pl2 5 [0,0] 8 11 rfl ?_))
 obtain ⟨a,b,hR⟩:=C3 hR
 refine zc rfl (D9s b) fun ⟨⟨g,bb⟩,c1⟩=>?_
 try dsimp only at c1
 obtain ⟨am,t⟩:=c1
 have:=bT.le am
 have:=t.1
 have:=D2t f.cols (fRows.length:Int);try rw [b] at this
 have b9:=ea b a0
 refine cI 2 [0] (fun u=>[(3,pt u 0)]) (fun _=>(C9 a.1 ⟨va g.q,a.2.length,g.k⟩)) 26 fun u=>?_
 refine ie (bS rfl (bY 2 2 [] [(13,ag (A2 ({ZZ with kind:=15}))),(14,ag (A2 ({ZZ with kind:=37,n:=1049,m:=1})))] ?_))
 refine it rfl (B2t (c:=A2) (xs:=[{ZZ with kind:=15},{ZZ with kind:=37,n:=1049,m:=1}]) N3 rfl rfl rfl oki) fun b8=>?_
 have:([{ZZ with kind:=15},{ZZ with kind:=37,n:=1049,m:=1}]:jz).length=2:=rfl
 refine B2n (I8 [_,_,_,_] [1,2,0,3] 4 rfl ozw rfl [[_],[_],vo _ _ ⟨some b8,2,[]⟩ _,vo _ _ g bb] rfl opl) ?_
 refine bP 1 4 rfl ?_
 refine ie ?_
 have:=bT.cap am
 have:=bT.le am
 refine D0z (bx u _ _::bx v _ _::((vo _ _ ⟨some b8,2,[]⟩ _)++([]))) [] (bT.cast am (by rw [t.1])) omm ?_
 refine F4p (L':=(bx u _ _::bx v _ _::((vo _ _ ⟨some b8,2,[]⟩ _)++([])))) omm ?_
 refine zS [(13,[0]),(13,[1]),(13,[2])] ?_
 refine gl 0 [0,1,2] rfl (G6 (us:=C9 _ _) C6z rfl rfl 0) ?_
 refine gl 1 [0,1,2] rfl (G6 (us:=C9 f _) C6z rfl rfl 1) ?_
 refine gl 2 [0,1,2] rfl (G6 (us:=C9 _ _) C6z rfl rfl 0) ?_
 refine gl 3 [0,1,2] rfl (G6 (us:=C9 f _) C6z rfl rfl 1) ?_
 refine gk 5 rfl (A2h (cs:=F5 ZS) rfl rfl oki) ?_
 refine gf 4 10 ?_ ?_
 ·refine ghc 4 [0,1,2] rfl (cb rfl t bW bW e bW bW bW (by first|exact hra1|exact u0f b w)) fun ⟨r9,z⟩=>?_
  have:=bT.cap z
  have:=bT.le z
  refine gS [_,_] ((vo _ _ _ [{ZZ with kind:=15},{ZZ with kind:=37,n:=1049,m:=1}])++([])) [0,1,2] z omm ?_
  refine gf 6 10 ?_ ?_
  ·refine ghc 6 [0,1,2] rfl (D9r rfl t bW bW e bW bW bW bW (by first|assumption|omega|(have:=hwp.1;omega)|exact ca b w) (by first|omega|exact hwp.2.2.2.1|decide) (by first|assumption|exact hwp.2.2.1|exact (aw b w).2.2) (by first|assumption|exact hfa|exact bz b a0)) fun ⟨br,ac⟩=>?_
   refine hqV [7,8,9] [(24,.slice (va br.q) (((B5s a.1 a.2 f fRows (u0d a.1 a.2 f fRows) ZS).1).length) br.k),(25,ag (F5 ((B5s a.1 a.2 f fRows (u0d a.1 a.2 f fRows) ZS).2)))] ?_
   refine go 10 [0,1,2] rfl (A5p ee rfl) fun b0=>?_
   refine hq1 [11] 5 rfl ?_
   refine go 12 [0,1,2] rfl (O9 (us:=F5 ((B5s a.1 a.2 f fRows (u0d a.1 a.2 f fRows) ZS).2)) (cs':=F5 ((B5s a.1 a.2 f fRows (u0d a.1 a.2 f fRows) ZS).2)) D3l rfl rfl rfl 0) fun _=>?_
   refine ge ?_
   refine bS rfl (cF 2 26 27 rfl ?_)
   refine P2 [_,_,_] ((vo _ _ _ [{ZZ with kind:=15},{ZZ with kind:=37,n:=1049,m:=1}])++([])) ac omm ?_
   refine it rfl (Y6 (f:=A2) (r:=(⟨some b8,2,[]⟩:VR)) (xs:=([{ZZ with kind:=15},{ZZ with kind:=37,n:=1049,m:=1}]:jz)) (ys:=(B5s a.1 a.2 f fRows (u0d a.1 a.2 f fRows) ZS).1) (pre:=[bx b0 (F5 ((B5s a.1 a.2 f fRows (u0d a.1 a.2 f fRows) ZS).2)) 29,bx u (C9 a.1 ⟨va g.q,a.2.length,g.k⟩) 26,bx v (C9 f ⟨d,fRows.length,fRowsk⟩) 26]) (post:=[]) A0c (fun _=>rfl) (fun _=>rfl) rfl rfl rfl rfl rfl rfl rfl rfl (A5 0 rfl) (show bT 6 2 _ from ⟨rfl,Nat.le_refl _,Nat.le_of_ble_eq_true rfl⟩) ofv ofv) fun ⟨b4,a5⟩=>?_
   refine bP 1 4 rfl ?_
   refine ie (bS rfl (bY 4 3 [1,2,0] [(29,.slice (va b4.q) (([{ZZ with kind:=15},{ZZ with kind:=37,n:=1049,m:=1}]++(B5s a.1 a.2 f fRows (u0d a.1 a.2 f fRows) ZS).1).length) b4.k),(30,ag (C9 a.1 ⟨va g.q,a.2.length,g.k⟩)),(31,ag (C9 f ⟨d,fRows.length,fRowsk⟩)),(32,ag (F5 ((B5s a.1 a.2 f fRows (u0d a.1 a.2 f fRows) ZS).2)))] ?_))
   obtain ⟨p,o,hR⟩:=C3 hR
   refine zc rfl (bu o t bW bW e bW bW ojv) fun ⟨c8,a6⟩=>?_
   have:=bT.le a6
   have b6:=bh o opx
   refine P2 [_,_,_] ((vo _ _ _ ([{ZZ with kind:=15},{ZZ with kind:=37,n:=1049,m:=1}]++(B5s _ _ f _ _ _).1))++([])) a6 omm ?_
   refine it rfl (Y6 (f:=A2) (r:=b4) (xs:=(([{ZZ with kind:=15},{ZZ with kind:=37,n:=1049,m:=1}]:jz)++(B5s a.1 a.2 f fRows (u0d a.1 a.2 f fRows) ZS).1)) (ys:=p) (pre:=[bx b0 (F5 ((B5s a.1 a.2 f fRows (u0d a.1 a.2 f fRows) ZS).2)) 29,bx u (C9 a.1 ⟨va g.q,a.2.length,g.k⟩) 26,bx v (C9 f ⟨d,fRows.length,fRowsk⟩) 26]) (post:=[]) A0c (fun _=>rfl) (fun _=>rfl) rfl rfl rfl rfl rfl rfl rfl rfl (A5 0 rfl) a5 ofv ofv) fun ⟨cc,ah⟩=>?_
   refine bP 1 2 rfl ?_
   subst hR
   refine ie (A8 ?_)
   exact cC hr hD (I9 rfl (A6 rfl)) _ bU A7.nil
  ·refine gh _ [0,1,2] rfl (A5p ee rfl) fun b2=>?_
   refine gc 6 [0,1,2] rfl (D9r rfl t bW bW e bW bW bW bW (by first|assumption|omega|(have:=hwp.1;omega)|exact ca b w) (by first|omega|exact hwp.2.2.2.1|decide) (by first|assumption|exact hwp.2.2.1|exact (aw b w).2.2) (by first|assumption|exact hfa|exact bz b a0)) fun ⟨bl,an⟩=>?_
   refine hqV [7,8,9,11] [(25,ag (F5 ((B5s a.1 a.2 f fRows (u0d a.1 a.2 f fRows) ZS).2))),(5,.slice (va bl.q) (((B5s a.1 a.2 f fRows (u0d a.1 a.2 f fRows) ZS).1).length) bl.k)] ?_
   refine go 12 [0,1,2] rfl (O9 (us:=F5 ((B5s a.1 a.2 f fRows (u0d a.1 a.2 f fRows) ZS).2)) (cs':=F5 ((B5s a.1 a.2 f fRows (u0d a.1 a.2 f fRows) ZS).2)) D3l rfl rfl rfl 0) fun _=>?_
   refine ge ?_
   refine bS rfl (cF 2 26 27 rfl ?_)
   refine P2 [_,_,_] ((vo _ _ _ [{ZZ with kind:=15},{ZZ with kind:=37,n:=1049,m:=1}])++([])) an omm ?_
   refine it rfl (Y6 (f:=A2) (r:=(⟨some b8,2,[]⟩:VR)) (xs:=([{ZZ with kind:=15},{ZZ with kind:=37,n:=1049,m:=1}]:jz)) (ys:=(B5s a.1 a.2 f fRows (u0d a.1 a.2 f fRows) ZS).1) (pre:=[bx b2 (F5 ((B5s a.1 a.2 f fRows (u0d a.1 a.2 f fRows) ZS).2)) 29,bx u (C9 a.1 ⟨va g.q,a.2.length,g.k⟩) 26,bx v (C9 f ⟨d,fRows.length,fRowsk⟩) 26]) (post:=[]) A0c (fun _=>rfl) (fun _=>rfl) rfl rfl rfl rfl rfl rfl rfl rfl (A5 0 rfl) (show bT 6 2 _ from ⟨rfl,Nat.le_refl _,Nat.le_of_ble_eq_true rfl⟩) ofv ofv) fun ⟨b5,ak⟩=>?_
   refine bP 1 4 rfl ?_
   refine ie (bS rfl (bY 4 3 [1,2,0] [(29,.slice (va b5.q) (([{ZZ with kind:=15},{ZZ with kind:=37,n:=1049,m:=1}]++(B5s a.1 a.2 f fRows (u0d a.1 a.2 f fRows) ZS).1).length) b5.k),(30,ag (C9 a.1 ⟨va g.q,a.2.length,g.k⟩)),(31,ag (C9 f ⟨d,fRows.length,fRowsk⟩)),(32,ag (F5 ((B5s a.1 a.2 f fRows (u0d a.1 a.2 f fRows) ZS).2)))] ?_))
   obtain ⟨l,h,hR⟩:=C3 hR
   refine zc rfl (bu h t bW bW e bW bW ojv) fun ⟨c6,a9⟩=>?_
   have:=bT.le a9
   have b6:=bh h opx
   refine P2 [_,_,_] ((vo _ _ _ ([{ZZ with kind:=15},{ZZ with kind:=37,n:=1049,m:=1}]++(B5s _ _ f _ _ _).1))++([])) a9 omm ?_
   refine it rfl (Y6 (f:=A2) (r:=b5) (xs:=(([{ZZ with kind:=15},{ZZ with kind:=37,n:=1049,m:=1}]:jz)++(B5s a.1 a.2 f fRows (u0d a.1 a.2 f fRows) ZS).1)) (ys:=l) (pre:=[bx b2 (F5 ((B5s a.1 a.2 f fRows (u0d a.1 a.2 f fRows) ZS).2)) 29,bx u (C9 a.1 ⟨va g.q,a.2.length,g.k⟩) 26,bx v (C9 f ⟨d,fRows.length,fRowsk⟩) 26]) (post:=[]) A0c (fun _=>rfl) (fun _=>rfl) rfl rfl rfl rfl rfl rfl rfl rfl (A5 0 rfl) ak ofv ofv) fun ⟨c5,a7⟩=>?_
   refine bP 1 2 rfl ?_
   subst hR
   refine ie (A8 ?_)
   exact cc (I9 rfl A6) _
 ·refine gh _ [0,1,2] rfl (A5p ee rfl) fun a4=>?_
  refine gc 4 [0,1,2] rfl (cb rfl t bW bW e bW bW bW (by first|exact hra1|exact u0f b w)) fun ⟨c7,y⟩=>?_
  have:=bT.cap y
  have:=bT.le y
  refine gS [_,_,_] ((vo _ _ _ [{ZZ with kind:=15},{ZZ with kind:=37,n:=1049,m:=1}])++([])) [0,1,2] y omm ?_
  refine gc 6 [0,1,2] rfl (D9r rfl t bW bW e bW bW bW bW (by first|assumption|omega|(have:=hwp.1;omega)|exact ca b w) (by first|omega|exact hwp.2.2.2.1|decide) (by first|assumption|exact hwp.2.2.1|exact (aw b w).2.2) (by first|assumption|exact hfa|exact bz b a0)) fun ⟨be,a2⟩=>?_
  refine hqV [7,8,9,11] [(25,ag (F5 ((B5s a.1 a.2 f fRows (u0d a.1 a.2 f fRows) ZS).2))),(5,.slice (va be.q) (((B5s a.1 a.2 f fRows (u0d a.1 a.2 f fRows) ZS).1).length) be.k)] ?_
  refine go 12 [0,1,2] rfl (O9 (us:=F5 ((B5s a.1 a.2 f fRows (u0d a.1 a.2 f fRows) ZS).2)) (cs':=F5 ((B5s a.1 a.2 f fRows (u0d a.1 a.2 f fRows) ZS).2)) D3l rfl rfl rfl 0) fun _=>?_
  refine ge ?_
  refine bS rfl (cF 2 26 27 rfl ?_)
  refine P2 [_,_,_] ((vo _ _ _ [{ZZ with kind:=15},{ZZ with kind:=37,n:=1049,m:=1}])++([])) a2 omm ?_
  refine it rfl (Y6 (f:=A2) (r:=(⟨some b8,2,[]⟩:VR)) (xs:=([{ZZ with kind:=15},{ZZ with kind:=37,n:=1049,m:=1}]:jz)) (ys:=(B5s a.1 a.2 f fRows (u0d a.1 a.2 f fRows) ZS).1) (pre:=[bx a4 (F5 ((B5s a.1 a.2 f fRows (u0d a.1 a.2 f fRows) ZS).2)) 29,bx u (C9 a.1 ⟨va g.q,a.2.length,g.k⟩) 26,bx v (C9 f ⟨d,fRows.length,fRowsk⟩) 26]) (post:=[]) A0c (fun _=>rfl) (fun _=>rfl) rfl rfl rfl rfl rfl rfl rfl rfl (A5 0 rfl) (show bT 6 2 _ from ⟨rfl,Nat.le_refl _,Nat.le_of_ble_eq_true rfl⟩) ofv ofv) fun ⟨b3,aq⟩=>?_
  refine bP 1 4 rfl ?_
  refine ie (bS rfl (bY 4 3 [1,2,0] [(29,.slice (va b3.q) (([{ZZ with kind:=15},{ZZ with kind:=37,n:=1049,m:=1}]++(B5s a.1 a.2 f fRows (u0d a.1 a.2 f fRows) ZS).1).length) b3.k),(30,ag (C9 a.1 ⟨va g.q,a.2.length,g.k⟩)),(31,ag (C9 f ⟨d,fRows.length,fRowsk⟩)),(32,ag (F5 ((B5s a.1 a.2 f fRows (u0d a.1 a.2 f fRows) ZS).2)))] ?_))
  obtain ⟨j,i,hR⟩:=C3 hR
  refine zc rfl (bu i t bW bW e bW bW ojv) fun ⟨c4,a3⟩=>?_
  have:=bT.le a3
  have b6:=bh i opx
  refine P2 [_,_,_] ((vo _ _ _ ([{ZZ with kind:=15},{ZZ with kind:=37,n:=1049,m:=1}]++(B5s _ _ f _ _ _).1))++([])) a3 omm ?_
  refine it rfl (Y6 (f:=A2) (r:=b3) (xs:=(([{ZZ with kind:=15},{ZZ with kind:=37,n:=1049,m:=1}]:jz)++(B5s a.1 a.2 f fRows (u0d a.1 a.2 f fRows) ZS).1)) (ys:=j) (pre:=[bx a4 (F5 ((B5s a.1 a.2 f fRows (u0d a.1 a.2 f fRows) ZS).2)) 29,bx u (C9 a.1 ⟨va g.q,a.2.length,g.k⟩) 26,bx v (C9 f ⟨d,fRows.length,fRowsk⟩) 26]) (post:=[]) A0c (fun _=>rfl) (fun _=>rfl) rfl rfl rfl rfl rfl rfl rfl rfl (A5 0 rfl) aq ofv ofv) fun ⟨c3,a8⟩=>?_
  refine bP 1 2 rfl ?_
  subst hR
  refine ie (A8 ?_)
  exact cc (I9 rfl A6) _
def az (f:FrmC) (b:jj):Bool :=
 (bif (!B9a) then false else (B5 (E2l f b) fun (a:jz×Int)=>(bif (!(L6 f b)) then ((decide ((a.1.length:Int)=0))&&(decide (a.2=330))) else ((decide (a.2=0))&&(A6s a.1 (bi f b))))))
theorem ck (f:FrmC) (a:jj) (e:kQ) (h:List Slc) (d:Nat) (b:B4 h a) (m:a.length≤9223372036854775807) (n:a.length≤d) (hT:f.title.length≤100000000) (R:Bool) (hR:az f a=R):J7 Tryz.prog 4 [ag (C9 f ⟨e,a.length,d⟩)] [sl F0 e h,D8 D0 h a,A1o,A1p,M1,P0] (bv R):=by
 refine cD Tryz.func4 fun X hX hr hD=>?_
 replace hR:=(az.eq_1 ..).symm.trans hR
 refine bS rfl (cI 2 [] (fun o=>[(1,pt o 0)]) (fun _=>(C9 f ⟨e,a.length,d⟩)) 26 fun o=>?_)
 refine ie (A3 (bS rfl (zv rfl (D9p _ rfl) ?_)))
 refine bP 1 6 rfl ?_
 refine ie (G3 rfl (fun s=>?_) (fun s=>?_))
 ·replace hR:=bt hR s
  refine bS rfl (bP 1 2 rfl ?_)
  subst hR
  exact q8
 replace hR:=bf hR s
 refine A4 (nx (bS rfl (bY 1 6 [0] [(8,ag (C9 f ⟨e,a.length,d⟩))] ?_)))
 obtain ⟨g,i,hR⟩:=C3 hR
 refine zc rfl (F3n i b bW bW opd) fun ⟨p,j⟩=>?_
 have:=bT.le j
 have:=bT.cap j
 refine P2 [_] _ j omm ?_
 refine cF 5 3 4 rfl ?_
 refine ie (A3 (bS rfl (bY 1 2 [0] [(12,ag (C9 f ⟨e,a.length,d⟩))] ?_)))
 refine zv rfl (C5x rfl b) ?_
 refine bP 1 14 rfl ?_
 refine ie (G3 rfl (fun t=>?_) (fun t=>?_))
 ·replace hR:=bt hR t
  refine bS rfl (bP 4 18 rfl ?_)
  refine zid 3 1 18 21 (decide (g.2=330)) (fun u w=>?_) ?_
  ·refine bP 3 21 rfl ?_
   exact zai 2 18 _ u
  refine bP 1 2 rfl ?_
  subst hR
  exact q8
 replace hR:=bf hR t
 refine A4 (nx (bS rfl (bP 3 24 rfl ?_)))
 refine zid 5 1 24 29 (A6s g.1 (bi f a)) (fun z v=>?_) ?_
 ·refine bY 2 3 [0] [(25,.slice (va p.q) g.1.length p.k),(26,ag (C9 f ⟨e,a.length,d⟩))] ?_
  refine zc rfl (ei rfl b bW bW (by first|assumption|(cases hh:L6 f a<;>simp_all))) fun ⟨y,l⟩=>?_
  have:=bT.le l
  have:=bT.cap l
  refine P2 [_] _ l omm ?_
  refine zv rfl (C1i rfl) ?_
  refine bP 1 29 rfl ?_
  exact A1 (I1 6 24 _ z c9 bU rfl rfl rfl rfl rfl)
 refine bP 1 2 rfl ?_
 subst hR
 exact q8
end Go.Proofs.YtmldjljkeigpnaaGreatDoor
