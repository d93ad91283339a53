import Derived.Test.YtanighkpfmgnbaaGreatDoorProg
import Derived.Test.YtanighkpfmgnbaaGreatDoorWA2
import Derived.Test.YtanighkpfmgnbaaGreatDoorWB1
import Derived.Test.YtanighkpfmgnbaaGreatDoorWA3
import Derived.Test.YtanighkpfmgnbaaGreatDoorWB2
import Derived.Test.YtanighkpfmgnbaaGreatDoorWB3
set_option linter.unusedVariables false
set_option linter.unusedSimpArgs false
set_option linter.unnecessarySimpa false
set_option maxRecDepth 100000
namespace Go.Proofs.YtanighkpfmgnbaaGreatDoor
open Go Go.Fen
def C8b:List UInt8:=[48,49,50,51,52,53,54,55,56,57,97,98,99,100,101,102]
theorem C6a:SlTy Tryz.prog 256 71 2:=⟨by kernel_rfl,by kernel_rfl⟩
theorem E4b:Zero Tryz.prog 5 [.int .u8 0]:=⟨by kernel_rfl⟩
def W1 (m:Int):Nat→Nat→Bool
 | 0,_=>false
 | fu1+1,k=>(bif (decide ((k:Int)<8)) then (bif (decide (m=(([1,2,4,8,16,32,64,128]:List Int).getD k 0))) then true else W1 m fu1 (k+1)) else false)
def J5 (m:Int):Bool :=
 W1 m ((8 - 0)+1) 0
theorem A9w (m:Int) (R:Bool) (hR:J5 m=R):I6 Tryz.prog 129 [iv m] [] (bv R):=by
 refine zco Tryz.func129 [(0,iv m)] fun X hX hr hD=>?_
 replace hR:=(J5.eq_1 ..).symm.trans hR
 refine sr 1 rfl (ip' 1 0 [] ?_)
 refine ie (A8 (sr 1 rfl (ip' 1 0 [(3,iv 0)] ?_)))
 refine ie (B3 (D2c (fun (fu:Nat) (k:Nat)=>((8 - k)<fu∧W1 m fu k=R,[(0,iv m),(3,iv (k:Int))],[],[],fu)) ((8 - 0)+1) 0 ⟨(Nat.lt_succ_self _),hR⟩ (mk [] rfl) fn0 ?_))
 rintro fu k ⟨hm1,hR⟩
 obtain ⟨fu1,rfl⟩:∃ m,fu=m+1:=⟨fu - 1,by omega⟩
 replace hR:=(W1.eq_2 ..).symm.trans hR
 refine A8 (sr 2 rfl (ip' 2 0 [(5,bv (decide ((k:Int)<8)))] ?_))
 refine ie ?_
 refine zjd rfl hR ?_ ?_<;>clear hR<;>intro hR h2 h2p
 ·refine A6 (nx (A8 (B3 (sr 5 rfl (zrl 3 2 [] [(8,iv m),(9,ag [iv 1,iv 2,iv 4,iv 8,iv 16,iv 32,iv 64,iv 128]),(10,iv (k:Int))] ?_)))))
  refine ix rfl (B6d (v:=iv (([1,2,4,8,16,32,64,128]:List Int).getD k 0)) (c:=D9) (xs:=([1,2,4,8,16,32,64,128]:List Int)) (d:=0) Tryz.underlying249 ty3 (fun _=>rfl) rfl rfl rfl rfl k rfl rfl (by omega) rfl rfl) ?_
  refine ip' 1 0 [(12,bv (decide (m=(([1,2,4,8,16,32,64,128]:List Int).getD k 0))))] ?_
  refine ie ?_
  refine zjd rfl hR ?_ ?_<;>clear hR<;>intro hR h3 h3p
  ·refine sr 1 rfl (ip' 1 0 [(2,bv true)] ?_)
   subst hR
   refine ie (A9 ?_)
   exact F1 hr hD
  refine A6 (nx (A2 3 rfl (ip' 1 2 [(6,iv (k:Int))] ?_)))
  refine ix rfl (B5 rfl rfl rfl rfl (by omega)) ?_
  refine ip' 1 0 [(3,iv ((k:Int)+1))] ?_
  refine A3 ?_
  exact D2j (z1:=(fu1+1)) (z2:=k) fu1 (k+1) ⟨(by omega),hR⟩ (Nat.lt_succ_self _) (mk [] rfl) fn0
 refine I1 (nx (sr 1 rfl (ip' 1 0 [(2,bv false)] ?_)))
 subst hR
 refine ie (A9 ?_)
 exact F1 hr hD
def I2 (c:Col):Int :=
 (bif (decide (c.kind=0)) then (bif (decide (c.n=0)) then 0 else 130) else (bif (decide (c.kind=1)) then (bif ((decide ((0:Int)≤c.n))&&(decide (c.n≤255))) then 0 else 130) else (bif (decide (c.kind=2)) then (bif ((decide ((0:Int)≤c.n))&&(decide (c.n≤16777215))) then 0 else 130) else 130)))
theorem B0n (c:Col) (R:Int) (hR:I2 c=R):I6 Tryz.prog 130 [ag (M5 c)] [] (iv R):=by
 refine zco Tryz.func130 [(0,ag (M5 c))] fun X hX hr hD=>?_
 replace hR:=(I2.eq_1 ..).symm.trans hR
 refine sr 2 rfl (P0 2 0 [] (fun b1=>[(1,pt b1 0)]) (fun b1=>[bx b1 (M5 c) 24]) (fun b1=>?_))
 refine ie (A8 (sr 2 rfl (zrl 2 0 [0] [(4,iv c.kind)] ?_)))
 refine ie (B3 (sr 2 rfl (ip' 2 0 [(5,bv (decide (c.kind=0)))] ?_)))
 refine ie ?_
 refine zjd rfl hR ?_ ?_<;>clear hR<;>intro hR h2 h2p
 ·refine sr 3 rfl (zrl 3 0 [0] [(9,bv (decide (c.n=0)))] ?_)
  refine ie ?_
  refine zjd rfl hR ?_ ?_<;>clear hR<;>intro hR h3 h3p
  ·refine sr 1 rfl (ip' 1 0 [(2,iv 0)] ?_)
   subst hR
   refine ie (A9 ?_)
   exact F1 hr hD
  refine A6 (nx (sr 1 rfl (ip' 1 0 [(2,iv 130)] ?_)))
  subst hR
  refine ie (A9 ?_)
  exact F1 hr hD
 refine sr 2 rfl (ip' 2 0 [(10,bv (decide (c.kind=1)))] ?_)
 refine ie ?_
 refine zjd rfl hR ?_ ?_<;>clear hR<;>intro hR h4 h4p
 ·refine sr 8 rfl (zrl 4 4 [0] [(15,bv (decide ((0:Int)≤c.n)))] ?_)
  refine zid 4 0 15 19 (decide (c.n≤255)) (fun g5 g5p=>?_) ?_
  ·refine zrl 4 0 [0] [(19,bv (decide (c.n≤255)))] ?_
   exact A3 (L3 2 15 19 g5 fn0 (mk [true] rfl) rfl rfl rfl rfl rfl)
  refine ie ?_
  refine zja rfl hR ?_ ?_<;>clear hR<;>intro hR h6 h6p
  ·refine sr 1 rfl (ip' 1 0 [(2,iv 0)] ?_)
   subst hR
   refine ie (A9 ?_)
   exact F1 hr hD
  refine A6 (nx (sr 1 rfl (ip' 1 0 [(2,iv 130)] ?_)))
  subst hR
  refine ie (A9 ?_)
  exact F1 hr hD
 refine sr 2 rfl (ip' 2 0 [(20,bv (decide (c.kind=2)))] ?_)
 refine ie ?_
 refine zjd rfl hR ?_ ?_<;>clear hR<;>intro hR h7 h7p
 ·refine sr 8 rfl (zrl 4 4 [0] [(25,bv (decide ((0:Int)≤c.n)))] ?_)
  refine zid 4 0 25 29 (decide (c.n≤16777215)) (fun g8 g8p=>?_) ?_
  ·refine zrl 4 0 [0] [(29,bv (decide (c.n≤16777215)))] ?_
   exact A3 (L3 2 25 29 g8 fn0 (mk [true] rfl) rfl rfl rfl rfl rfl)
  refine ie ?_
  refine zja rfl hR ?_ ?_<;>clear hR<;>intro hR h9 h9p
  ·refine sr 1 rfl (ip' 1 0 [(2,iv 0)] ?_)
   subst hR
   refine ie (A9 ?_)
   exact F1 hr hD
  refine A6 (nx (sr 1 rfl (ip' 1 0 [(2,iv 130)] ?_)))
  subst hR
  refine ie (A9 ?_)
  exact F1 hr hD
 refine A6 (nx (sr 1 rfl (ip' 1 0 [(2,iv 130)] ?_)))
 subst hR
 refine ie (A9 ?_)
 exact F1 hr hD
def O6 (a:Act) (is:Bool):Int :=
 (bif (((!decide (a.kind=39))||(!(decide (a.text=([]:List UInt8)))))||(!is)) then 141 else 0)
def X2 (a:Act) (t72:Bool):Int :=
 (bif t72 then O6 a ((decide (a.m=0))&&(decide ((I2 a.color)=0))) else O6 a false)
def L6 (a:Act):Int :=
 (bif (decide (a.n=0)) then O6 a ((decide (a.m=0))&&(decide (a.color=Col.zero))) else (bif (decide (a.n=1)) then O6 a ((J5 a.m)&&(decide (a.color=Col.zero))) else (bif (decide (a.n=2)) then O6 a (((decide (a.m=3))||(((J5 a.m)&&(!decide (a.m=1)))&&(!decide (a.m=2))))&&(decide (a.color=Col.zero))) else (bif (decide (a.n=3)) then O6 a (((decide ((0:Int)≤a.m))&&(decide (a.m≤5)))&&(decide (a.color=Col.zero))) else (bif (decide (a.n=4)) then X2 a (decide (a.n=4)) else (bif (decide (a.n=5)) then X2 a (decide (a.n=5)) else X2 a (decide (a.n=6))))))))
theorem B8m (a:Act) (R:Int) (hR:L6 a=R):I6 Tryz.prog 90 [ag (A5 a)] [] (iv R):=by
 refine zco Tryz.func90 [(0,ag (A5 a))] fun X hX hr hD=>?_
 replace hR:=(L6.eq_1 ..).symm.trans hR
 refine sr 2 rfl (P0 2 0 [] (fun b1=>[(1,pt b1 0)]) (fun b1=>[bx b1 (A5 a) 26]) (fun b1=>?_))
 refine ie (sr 3 rfl (P0 3 0 [0] (fun b2=>[(3,pt b2 0)]) (fun b2=>[bx b2 (M5 Col.zero) 24,bx b1 (A5 a) 26]) (fun b2=>?_)))
 refine ie (sr 1 rfl (ip' 1 0 [(4,bv false)] ?_))
 refine ie (B7n (fun (is:Bool)=>(O6 a is=R,[(1,pt b1 0),(4,bv is)],[bx b2 (M5 Col.zero) 24,bx b1 (A5 a) 26],[])) ?_ ?_)
 ·refine sr 2 rfl (zrl 2 0 [1] [(7,iv a.n)] ?_)
  refine ie (B3 (sr 2 rfl (ip' 2 0 [(8,bv (decide (a.n=0)))] ?_)))
  refine ie ?_
  refine zjd rfl hR ?_ ?_<;>clear hR<;>intro hR h3 h3p
  ·refine A2 10 rfl (zrl 4 6 [1] [(13,bv (decide (a.m=0)))] ?_)
   refine zid 5 1 13 18 (decide (a.color=Col.zero)) (fun g4 g4p=>?_) ?_
   ·refine zrl 3 2 [1,0] [(15,ag (M5 a.color)),(16,ag (M5 Col.zero))] ?_
    refine ix rfl (A7u (a:=a.color) (b:=Col.zero) A6s rfl rfl rfl) ?_
    refine ip' 1 0 [(18,bv (decide (a.color=Col.zero)))] ?_
    exact A3 (L3 5 13 18 g4 fn0 (mk [true,true] rfl) rfl rfl rfl rfl rfl)
   refine ip' 1 0 [(4,bv ((decide (a.m=0))&&(decide (a.color=Col.zero))))] ?_
   refine A3 ?_
   exact V5 ((decide (a.m=0))&&(decide (a.color=Col.zero))) hR (mk [true,true] rfl) fn0
  refine sr 2 rfl (ip' 2 0 [(19,bv (decide (a.n=1)))] ?_)
  refine ie ?_
  refine zjd rfl hR ?_ ?_<;>clear hR<;>intro hR h5 h5p
  ·refine A2 10 rfl (zrl 2 8 [1] [(22,iv a.m)] ?_)
   refine zca (A9w a.m _ rfl) fn0 ?_
   refine ip' 1 6 [(24,bv (J5 a.m))] ?_
   refine zia 5 1 24 29 (decide (a.color=Col.zero)) (fun g6=>?_) ?_
   ·refine zrl 3 2 [1,0] [(26,ag (M5 a.color)),(27,ag (M5 Col.zero))] ?_
    refine ix rfl (A7u (a:=a.color) (b:=Col.zero) A6s rfl rfl rfl) ?_
    refine ip' 1 0 [(29,bv (decide (a.color=Col.zero)))] ?_
    exact A3 (L3 5 24 29 g6 fn0 (mk [true,true] rfl) rfl rfl rfl rfl rfl)
   refine ip' 1 0 [(4,bv ((J5 a.m)&&(decide (a.color=Col.zero))))] ?_
   refine A3 ?_
   exact V5 ((J5 a.m)&&(decide (a.color=Col.zero))) hR (mk [true,true] rfl) fn0
  refine sr 2 rfl (ip' 2 0 [(30,bv (decide (a.n=2)))] ?_)
  refine ie ?_
  refine zjd rfl hR ?_ ?_<;>clear hR<;>intro hR h7 h7p
  ·refine A2 25 rfl (zrl 4 21 [1] [(35,bv (decide (a.m=3)))] ?_)
   refine zir 14 7 35 49 (((J5 a.m)&&(!decide (a.m=1)))&&(!decide (a.m=2))) (fun g8 g8p=>?_) ?_
   ·refine zrl 2 12 [1] [(37,iv a.m)] ?_
    refine zca (A9w a.m _ rfl) fn0 ?_
    refine ip' 1 10 [(39,bv (J5 a.m))] ?_
    refine zia 4 6 39 43 (!decide (a.m=1)) (fun g9=>?_) ?_
    ·refine zrl 4 0 [1] [(43,bv (!decide (a.m=1)))] ?_
     exact A3 (L3 2 39 43 g9 fn0 (mk [true,true] rfl) rfl rfl rfl rfl rfl)
    refine ip' 1 5 [(44,bv ((J5 a.m)&&(!decide (a.m=1))))] ?_
    refine zia 4 1 44 48 (!decide (a.m=2)) (fun g10=>?_) ?_
    ·have g10p:=g10;try simp at g10p
     refine zrl 4 0 [1] [(48,bv (!decide (a.m=2)))] ?_
     exact A3 (L3 2 44 48 g10 fn0 (mk [true,true] rfl) rfl rfl rfl rfl rfl)
    refine ip' 1 0 [(49,bv (((J5 a.m)&&(!decide (a.m=1)))&&(!decide (a.m=2))))] ?_
    exact A3 (L3 8 35 49 g8 fn0 (mk [true,true] rfl) rfl rfl rfl rfl rfl)
   refine ip' 1 6 [(50,bv ((decide (a.m=3))||(((J5 a.m)&&(!decide (a.m=1)))&&(!decide (a.m=2)))))] ?_
   refine zia 5 1 50 55 (decide (a.color=Col.zero)) (fun g11=>?_) ?_
   ·have g11p:=g11;try simp at g11p
    refine zrl 3 2 [1,0] [(52,ag (M5 a.color)),(53,ag (M5 Col.zero))] ?_
    refine ix rfl (A7u (a:=a.color) (b:=Col.zero) A6s rfl rfl rfl) ?_
    refine ip' 1 0 [(55,bv (decide (a.color=Col.zero)))] ?_
    exact A3 (L3 5 50 55 g11 fn0 (mk [true,true] rfl) rfl rfl rfl rfl rfl)
   refine ip' 1 0 [(4,bv (((decide (a.m=3))||(((J5 a.m)&&(!decide (a.m=1)))&&(!decide (a.m=2))))&&(decide (a.color=Col.zero))))] ?_
   refine A3 ?_
   exact V5 (((decide (a.m=3))||(((J5 a.m)&&(!decide (a.m=1)))&&(!decide (a.m=2))))&&(decide (a.color=Col.zero))) hR (mk [true,true] rfl) fn0
  refine sr 2 rfl (ip' 2 0 [(56,bv (decide (a.n=3)))] ?_)
  refine ie ?_
  refine zjd rfl hR ?_ ?_<;>clear hR<;>intro hR h12 h12p
  ·refine A2 15 rfl (zrl 4 11 [1] [(61,bv (decide ((0:Int)≤a.m)))] ?_)
   refine zid 4 7 61 65 (decide (a.m≤5)) (fun g13 g13p=>?_) ?_
   ·refine zrl 4 0 [1] [(65,bv (decide (a.m≤5)))] ?_
    exact A3 (L3 2 61 65 g13 fn0 (mk [true,true] rfl) rfl rfl rfl rfl rfl)
   refine ip' 1 6 [(66,bv ((decide ((0:Int)≤a.m))&&(decide (a.m≤5))))] ?_
   refine zia 5 1 66 71 (decide (a.color=Col.zero)) (fun g14=>?_) ?_
   ·have g14p:((0:Int)≤a.m)∧(a.m≤5):=by simpa using g14
    refine zrl 3 2 [1,0] [(68,ag (M5 a.color)),(69,ag (M5 Col.zero))] ?_
    refine ix rfl (A7u (a:=a.color) (b:=Col.zero) A6s rfl rfl rfl) ?_
    refine ip' 1 0 [(71,bv (decide (a.color=Col.zero)))] ?_
    exact A3 (L3 5 66 71 g14 fn0 (mk [true,true] rfl) rfl rfl rfl rfl rfl)
   refine ip' 1 0 [(4,bv (((decide ((0:Int)≤a.m))&&(decide (a.m≤5)))&&(decide (a.color=Col.zero))))] ?_
   refine A3 ?_
   exact V5 (((decide ((0:Int)≤a.m))&&(decide (a.m≤5)))&&(decide (a.color=Col.zero))) hR (mk [true,true] rfl) fn0
  refine B7n (fun (t72:Bool)=>(X2 a t72=R,[(1,pt b1 0),(4,bv false),(72,bv t72)],[bx b2 (M5 Col.zero) 24,bx b1 (A5 a) 26],[])) ?_ ?_
  ·refine sr 2 rfl (ip' 2 0 [(72,bv (decide (a.n=4)))] ?_)
   refine ie ?_
   refine zjd rfl hR ?_ ?_<;>clear hR<;>intro hR h15 h15p
   ·refine A6 ?_
    exact V5 (decide (a.n=4)) hR (mk [true,true] rfl) fn0
   refine sr 2 rfl (ip' 2 0 [(72,bv (decide (a.n=5)))] ?_)
   refine ie ?_
   refine zjd rfl hR ?_ ?_<;>clear hR<;>intro hR h16 h16p
   ·refine A6 ?_
    exact V5 (decide (a.n=5)) hR (mk [true,true] rfl) fn0
   refine A2 2 rfl (ip' 2 0 [(72,bv (decide (a.n=6)))] ?_)
   refine A3 ?_
   exact V5 (decide (a.n=6)) hR (mk [true,true] rfl) fn0
  intro t72
  rintro hR
  replace hR:=(X2.eq_1 ..).symm.trans hR
  refine zjb rfl hR ?_ ?_<;>clear hR<;>intro hR h17
  ·refine A2 10 rfl (zrl 4 6 [1] [(79,bv (decide (a.m=0)))] ?_)
   refine zid 5 1 79 84 (decide ((I2 a.color)=0)) (fun g18 g18p=>?_) ?_
   ·refine zrl 2 3 [1] [(81,ag (M5 a.color))] ?_
    refine zca (B0n a.color _ rfl) fn0 ?_
    refine ip' 2 0 [(84,bv (decide ((I2 a.color)=0)))] ?_
    exact A3 (L3 4 79 84 g18 fn0 (mk [true,true] rfl) rfl rfl rfl rfl rfl)
   refine ip' 1 0 [(4,bv ((decide (a.m=0))&&(decide ((I2 a.color)=0))))] ?_
   refine A3 ?_
   exact V5 ((decide (a.m=0))&&(decide ((I2 a.color)=0))) hR (mk [true,true] rfl) fn0
  refine A6 ?_
  exact V5 false hR (mk [true,true] rfl) fn0
 intro is
 rintro hR
 replace hR:=(O6.eq_1 ..).symm.trans hR
 refine A8 (sr 12 rfl (zrl 4 8 [1] [(88,bv (!decide (a.kind=39)))] ?_))
 refine zio 4 4 88 92 (!(decide (a.text=([]:List UInt8)))) (fun g19=>?_) ?_
 ·have g19p:¬ (¬ a.kind=39):=by simpa using g19
  refine zrl 2 2 [1] [(90,sv a.text)] ?_
  refine ix rfl (Z2 rfl rfl rfl) ?_
  refine ip' 1 0 [(92,bv (!(decide (a.text=([]:List UInt8)))))] ?_
  exact A3 (L3 4 88 92 g19 fn0 (mk [true,true] rfl) rfl rfl rfl rfl rfl)
 refine ip' 1 3 [(93,bv ((!decide (a.kind=39))||(!(decide (a.text=([]:List UInt8))))))] ?_
 refine zio 3 0 93 96 (!is) (fun g20=>?_) ?_
 ·have g20p:¬ ((¬ a.kind=39)∨(¬ a.text=([]:List UInt8))):=by simpa using g20
  refine ip' 3 0 [(96,bv (!is))] ?_
  exact A3 (L3 2 93 96 g20 fn0 (mk [true,true] rfl) rfl rfl rfl rfl rfl)
 refine ie ?_
 refine zjb rfl hR ?_ ?_<;>clear hR<;>intro hR h21
 ·have h21p:=h21;try simp at h21p
  refine sr 1 rfl (ip' 1 0 [(2,iv 141)] ?_)
  subst hR
  refine ie (A9 ?_)
  exact F1 hr hD
 have h21p:=h21;try simp at h21p
 refine A6 (nx (sr 1 rfl (ip' 1 0 [(2,iv 0)] ?_)))
 subst hR
 refine ie (A9 ?_)
 exact F1 hr hD
def A5n:Int×Int×Int :=
 (0,0,0)
theorem C4e:0≤(A5n).2.2∧(A5n).2.2≤4:=by unfold A5n;decide
theorem C7c (R:Int×Int×Int) (hR:A5n=R):I6 Tryz.prog 227 [.slice none 0 0] [] (.tuple #[iv R.1,iv R.2.1,iv R.2.2]):=by
 refine zco Tryz.func227 [(0,.slice none 0 0)] fun X hX hr hD=>?_
 replace hR:=(A5n.eq_1 ..).symm.trans hR
 refine sr 3 rfl (ip' 3 0 [] ?_)
 refine ie (A8 (sr 3 rfl (ip' 3 0 [(12,bv true)] ?_)))
 refine ie (M8 rfl (sr 3 rfl (ip' 3 0 [(2,iv 0),(3,iv 0),(4,iv 0)] ?_)))
 subst hR
 refine ie (A9 ?_)
 exact zer hr hD (D5r rfl (C0 rfl) (C0 rfl) (C0 rfl)) () (mk [] rfl) fn0
def B6a:Bool×Bool :=
 (C1 A5n fun (y0:Int×Int×Int)=>(bif (decide (y0.2.2=0)) then (false,false) else (((decide ((if (([0,0,128,2048,65536]:List Int).getD ((y0.2.2).toNat) 0) > y0.1 then (([0,0,128,2048,65536]:List Int).getD ((y0.2.2).toNat) 0) else y0.1)≤(if (([0,127,2047,65535,1114111]:List Int).getD ((y0.2.2).toNat) 0)<y0.2.1 then (([0,127,2047,65535,1114111]:List Int).getD ((y0.2.2).toNat) 0) else y0.2.1)))&&(!((decide ((55296:Int)≤(if (([0,0,128,2048,65536]:List Int).getD ((y0.2.2).toNat) 0) > y0.1 then (([0,0,128,2048,65536]:List Int).getD ((y0.2.2).toNat) 0) else y0.1)))&&(decide ((if (([0,127,2047,65535,1114111]:List Int).getD ((y0.2.2).toNat) 0)<y0.2.1 then (([0,127,2047,65535,1114111]:List Int).getD ((y0.2.2).toNat) 0) else y0.2.1)≤57343))))),(((decide ((if (([0,0,128,2048,65536]:List Int).getD ((y0.2.2).toNat) 0) > y0.1 then (([0,0,128,2048,65536]:List Int).getD ((y0.2.2).toNat) 0) else y0.1)≤(if (([0,127,2047,65535,1114111]:List Int).getD ((y0.2.2).toNat) 0)<y0.2.1 then (([0,127,2047,65535,1114111]:List Int).getD ((y0.2.2).toNat) 0) else y0.2.1)))&&(!((decide ((55296:Int)≤(if (([0,0,128,2048,65536]:List Int).getD ((y0.2.2).toNat) 0) > y0.1 then (([0,0,128,2048,65536]:List Int).getD ((y0.2.2).toNat) 0) else y0.1)))&&(decide ((if (([0,127,2047,65535,1114111]:List Int).getD ((y0.2.2).toNat) 0)<y0.2.1 then (([0,127,2047,65535,1114111]:List Int).getD ((y0.2.2).toNat) 0) else y0.2.1)≤57343)))))&&(decide ((0:Int)=y0.2.2))))))
theorem C6f (R:Bool×Bool) (hR:B6a=R):I6 Tryz.prog 226 [.slice none 0 0] [] (.tuple #[bv R.1,bv R.2]):=by
 refine zco Tryz.func226 [(0,.slice none 0 0)] fun X hX hr hD=>?_
 replace hR:=(B6a.eq_1 ..).symm.trans hR
 refine sr 2 rfl (ip' 2 0 [] ?_)
 refine ie (sr 9 rfl (ip' 1 8 [(11,.slice none 0 0)] ?_))
 have hQ:=D4 hR;clear hR;obtain ⟨y0,hy0,hR⟩:=hQ
 refine zca (C7c y0 hy0) fn0 ?_
 have:=C4e ;try rw [hy0] at this
 refine ip' 7 0 [(4,iv y0.1),(5,iv y0.2.1),(6,iv y0.2.2)] ?_
 refine ie (A8 (sr 2 rfl (ip' 2 0 [(17,bv (decide (y0.2.2=0)))] ?_)))
 refine ie ?_
 refine zjd rfl hR ?_ ?_<;>clear hR<;>intro hR h1 h1p
 ·refine sr 2 rfl (ip' 2 0 [(2,bv false),(3,bv false)] ?_)
  subst hR
  refine ie (A9 ?_)
  exact A0l hr hD
 refine A6 (nx (sr 3 rfl (P0 3 0 [0] (fun b2=>[(7,pt b2 0)]) (fun b2=>[bx b2 [iv 0,iv 0,iv 128,iv 2048,iv 65536] 85]) (fun b2=>?_))))
 refine ie (sr 3 rfl (P0 3 0 [0] (fun b3=>[(8,pt b3 0)]) (fun b3=>[bx b3 [iv 0,iv 127,iv 2047,iv 65535,iv 1114111] 85,bx b2 [iv 0,iv 0,iv 128,iv 2048,iv 65536] 85]) (fun b3=>?_)))
 refine ie (sd 12 rfl (by kernel_rfl) rfl ?_)
 refine dp' 2 10 [(20,iv y0.1),(21,iv y0.2.2)] ?_
 refine dd rfl (U9 Tryz.underlying85 ty3 rfl rfl rfl ((y0.2.2).toNat) (by omega) (by omega)) ?_
 refine dd rfl (N2 (u:=iv (([0,0,128,2048,65536]:List Int).getD ((y0.2.2).toNat) 0)) (c:=D9) (xs:=([0,0,128,2048,65536]:List Int)) (j:=[]) (sz:=1) ty3 (fun _=>rfl) rfl rfl 1 rfl ((y0.2.2).toNat) 0 rfl (gd 0 (by simp only [List.length_cons,List.length_nil];omega)) rfl) ?_
 refine dp' 3 5 [(24,iv (if (([0,0,128,2048,65536]:List Int).getD ((y0.2.2).toNat) 0) > y0.1 then (([0,0,128,2048,65536]:List Int).getD ((y0.2.2).toNat) 0) else y0.1)),(25,iv y0.2.1),(26,iv y0.2.2)] ?_
 have:=C7w y0.1 (([0,0,128,2048,65536]:List Int).getD ((y0.2.2).toNat) 0)
 refine dd rfl (U9 Tryz.underlying85 ty3 rfl rfl rfl ((y0.2.2).toNat) (by omega) (by omega)) ?_
 refine dd rfl (N2 (u:=iv (([0,127,2047,65535,1114111]:List Int).getD ((y0.2.2).toNat) 0)) (c:=D9) (xs:=([0,127,2047,65535,1114111]:List Int)) (j:=[]) (sz:=1) ty3 (fun _=>rfl) rfl rfl 0 rfl ((y0.2.2).toNat) 0 rfl (gd 0 (by simp only [List.length_cons,List.length_nil];omega)) rfl) ?_
 refine dp' 3 0 [(4,iv (if (([0,0,128,2048,65536]:List Int).getD ((y0.2.2).toNat) 0) > y0.1 then (([0,0,128,2048,65536]:List Int).getD ((y0.2.2).toNat) 0) else y0.1)),(5,iv (if (([0,127,2047,65535,1114111]:List Int).getD ((y0.2.2).toNat) 0)<y0.2.1 then (([0,127,2047,65535,1114111]:List Int).getD ((y0.2.2).toNat) 0) else y0.2.1))] ?_
 have:=C7w y0.1 (([0,0,128,2048,65536]:List Int).getD ((y0.2.2).toNat) 0)
 have:=D1j y0.2.1 (([0,127,2047,65535,1114111]:List Int).getD ((y0.2.2).toNat) 0)
 refine de (sr 13 rfl (ip' 4 9 [(33,bv (decide ((if (([0,0,128,2048,65536]:List Int).getD ((y0.2.2).toNat) 0) > y0.1 then (([0,0,128,2048,65536]:List Int).getD ((y0.2.2).toNat) 0) else y0.1)≤(if (([0,127,2047,65535,1114111]:List Int).getD ((y0.2.2).toNat) 0)<y0.2.1 then (([0,127,2047,65535,1114111]:List Int).getD ((y0.2.2).toNat) 0) else y0.2.1))))] ?_))
 refine zia 8 1 33 41 (!((decide ((55296:Int)≤(if (([0,0,128,2048,65536]:List Int).getD ((y0.2.2).toNat) 0) > y0.1 then (([0,0,128,2048,65536]:List Int).getD ((y0.2.2).toNat) 0) else y0.1)))&&(decide ((if (([0,127,2047,65535,1114111]:List Int).getD ((y0.2.2).toNat) 0)<y0.2.1 then (([0,127,2047,65535,1114111]:List Int).getD ((y0.2.2).toNat) 0) else y0.2.1)≤57343)))) (fun g4=>?_) ?_
 ·have g4p:(if (([0,0,128,2048,65536]:List Int).getD ((y0.2.2).toNat) 0) > y0.1 then (([0,0,128,2048,65536]:List Int).getD ((y0.2.2).toNat) 0) else y0.1)≤(if (([0,127,2047,65535,1114111]:List Int).getD ((y0.2.2).toNat) 0)<y0.2.1 then (([0,127,2047,65535,1114111]:List Int).getD ((y0.2.2).toNat) 0) else y0.2.1):=by first|exact of_decide_eq_true g4|simpa only [Bool.and_eq_true,Bool.not_eq_true',Bool.and_eq_false_imp,decide_eq_true_eq,decide_eq_false_iff_not,not_and] using g4|simpa using g4
  refine ip' 3 5 [(36,bv (decide ((55296:Int)≤(if (([0,0,128,2048,65536]:List Int).getD ((y0.2.2).toNat) 0) > y0.1 then (([0,0,128,2048,65536]:List Int).getD ((y0.2.2).toNat) 0) else y0.1))))] ?_
  refine zia 3 2 36 39 (decide ((if (([0,127,2047,65535,1114111]:List Int).getD ((y0.2.2).toNat) 0)<y0.2.1 then (([0,127,2047,65535,1114111]:List Int).getD ((y0.2.2).toNat) 0) else y0.2.1)≤57343)) (fun g5=>?_) ?_
  ·have g5p:(55296:Int)≤(if (([0,0,128,2048,65536]:List Int).getD ((y0.2.2).toNat) 0) > y0.1 then (([0,0,128,2048,65536]:List Int).getD ((y0.2.2).toNat) 0) else y0.1):=by first|exact of_decide_eq_true g5|simpa only [Bool.and_eq_true,Bool.not_eq_true',Bool.and_eq_false_imp,decide_eq_true_eq,decide_eq_false_iff_not,not_and] using g5|simpa using g5
   refine ip' 3 0 [(39,bv (decide ((if (([0,127,2047,65535,1114111]:List Int).getD ((y0.2.2).toNat) 0)<y0.2.1 then (([0,127,2047,65535,1114111]:List Int).getD ((y0.2.2).toNat) 0) else y0.2.1)≤57343)))] ?_
   exact A3 (L3 2 36 39 g5 fn0 (mk [true,true] rfl) rfl rfl rfl rfl rfl)
  refine ip' 2 0 [(41,bv (!((decide ((55296:Int)≤(if (([0,0,128,2048,65536]:List Int).getD ((y0.2.2).toNat) 0) > y0.1 then (([0,0,128,2048,65536]:List Int).getD ((y0.2.2).toNat) 0) else y0.1)))&&(decide ((if (([0,127,2047,65535,1114111]:List Int).getD ((y0.2.2).toNat) 0)<y0.2.1 then (([0,127,2047,65535,1114111]:List Int).getD ((y0.2.2).toNat) 0) else y0.2.1)≤57343)))))] ?_
  exact A3 (L3 4 33 41 g4 fn0 (mk [true,true] rfl) rfl rfl rfl rfl rfl)
 refine ip' 1 0 [(9,bv ((decide ((if (([0,0,128,2048,65536]:List Int).getD ((y0.2.2).toNat) 0) > y0.1 then (([0,0,128,2048,65536]:List Int).getD ((y0.2.2).toNat) 0) else y0.1)≤(if (([0,127,2047,65535,1114111]:List Int).getD ((y0.2.2).toNat) 0)<y0.2.1 then (([0,127,2047,65535,1114111]:List Int).getD ((y0.2.2).toNat) 0) else y0.2.1)))&&(!((decide ((55296:Int)≤(if (([0,0,128,2048,65536]:List Int).getD ((y0.2.2).toNat) 0) > y0.1 then (([0,0,128,2048,65536]:List Int).getD ((y0.2.2).toNat) 0) else y0.1)))&&(decide ((if (([0,127,2047,65535,1114111]:List Int).getD ((y0.2.2).toNat) 0)<y0.2.1 then (([0,127,2047,65535,1114111]:List Int).getD ((y0.2.2).toNat) 0) else y0.2.1)≤57343))))))] ?_
 refine ie (sr 10 rfl (ip' 3 7 [(42,bv ((decide ((if (([0,0,128,2048,65536]:List Int).getD ((y0.2.2).toNat) 0) > y0.1 then (([0,0,128,2048,65536]:List Int).getD ((y0.2.2).toNat) 0) else y0.1)≤(if (([0,127,2047,65535,1114111]:List Int).getD ((y0.2.2).toNat) 0)<y0.2.1 then (([0,127,2047,65535,1114111]:List Int).getD ((y0.2.2).toNat) 0) else y0.2.1)))&&(!((decide ((55296:Int)≤(if (([0,0,128,2048,65536]:List Int).getD ((y0.2.2).toNat) 0) > y0.1 then (([0,0,128,2048,65536]:List Int).getD ((y0.2.2).toNat) 0) else y0.1)))&&(decide ((if (([0,127,2047,65535,1114111]:List Int).getD ((y0.2.2).toNat) 0)<y0.2.1 then (([0,127,2047,65535,1114111]:List Int).getD ((y0.2.2).toNat) 0) else y0.2.1)≤57343)))))),(44,bv ((decide ((if (([0,0,128,2048,65536]:List Int).getD ((y0.2.2).toNat) 0) > y0.1 then (([0,0,128,2048,65536]:List Int).getD ((y0.2.2).toNat) 0) else y0.1)≤(if (([0,127,2047,65535,1114111]:List Int).getD ((y0.2.2).toNat) 0)<y0.2.1 then (([0,127,2047,65535,1114111]:List Int).getD ((y0.2.2).toNat) 0) else y0.2.1)))&&(!((decide ((55296:Int)≤(if (([0,0,128,2048,65536]:List Int).getD ((y0.2.2).toNat) 0) > y0.1 then (([0,0,128,2048,65536]:List Int).getD ((y0.2.2).toNat) 0) else y0.1)))&&(decide ((if (([0,127,2047,65535,1114111]:List Int).getD ((y0.2.2).toNat) 0)<y0.2.1 then (([0,127,2047,65535,1114111]:List Int).getD ((y0.2.2).toNat) 0) else y0.2.1)≤57343))))))] ?_))
 refine zia 5 2 44 49 (decide ((0:Int)=y0.2.2)) (fun g6=>?_) ?_
 ·have g6p:((if (([0,0,128,2048,65536]:List Int).getD ((y0.2.2).toNat) 0) > y0.1 then (([0,0,128,2048,65536]:List Int).getD ((y0.2.2).toNat) 0) else y0.1)≤(if (([0,127,2047,65535,1114111]:List Int).getD ((y0.2.2).toNat) 0)<y0.2.1 then (([0,127,2047,65535,1114111]:List Int).getD ((y0.2.2).toNat) 0) else y0.2.1))∧(¬ (((55296:Int)≤(if (([0,0,128,2048,65536]:List Int).getD ((y0.2.2).toNat) 0) > y0.1 then (([0,0,128,2048,65536]:List Int).getD ((y0.2.2).toNat) 0) else y0.1))∧((if (([0,127,2047,65535,1114111]:List Int).getD ((y0.2.2).toNat) 0)<y0.2.1 then (([0,127,2047,65535,1114111]:List Int).getD ((y0.2.2).toNat) 0) else y0.2.1)≤57343))):=by first|exact of_decide_eq_true g6|simpa only [Bool.and_eq_true,Bool.not_eq_true',Bool.and_eq_false_imp,decide_eq_true_eq,decide_eq_false_iff_not,not_and] using g6|simpa using g6
  refine ip' 5 0 [(49,bv (decide ((0:Int)=y0.2.2)))] ?_
  exact A3 (L3 2 44 49 g6 fn0 (mk [true,true] rfl) rfl rfl rfl rfl rfl)
 refine ip' 2 0 [(2,bv ((decide ((if (([0,0,128,2048,65536]:List Int).getD ((y0.2.2).toNat) 0) > y0.1 then (([0,0,128,2048,65536]:List Int).getD ((y0.2.2).toNat) 0) else y0.1)≤(if (([0,127,2047,65535,1114111]:List Int).getD ((y0.2.2).toNat) 0)<y0.2.1 then (([0,127,2047,65535,1114111]:List Int).getD ((y0.2.2).toNat) 0) else y0.2.1)))&&(!((decide ((55296:Int)≤(if (([0,0,128,2048,65536]:List Int).getD ((y0.2.2).toNat) 0) > y0.1 then (([0,0,128,2048,65536]:List Int).getD ((y0.2.2).toNat) 0) else y0.1)))&&(decide ((if (([0,127,2047,65535,1114111]:List Int).getD ((y0.2.2).toNat) 0)<y0.2.1 then (([0,127,2047,65535,1114111]:List Int).getD ((y0.2.2).toNat) 0) else y0.2.1)≤57343)))))),(3,bv (((decide ((if (([0,0,128,2048,65536]:List Int).getD ((y0.2.2).toNat) 0) > y0.1 then (([0,0,128,2048,65536]:List Int).getD ((y0.2.2).toNat) 0) else y0.1)≤(if (([0,127,2047,65535,1114111]:List Int).getD ((y0.2.2).toNat) 0)<y0.2.1 then (([0,127,2047,65535,1114111]:List Int).getD ((y0.2.2).toNat) 0) else y0.2.1)))&&(!((decide ((55296:Int)≤(if (([0,0,128,2048,65536]:List Int).getD ((y0.2.2).toNat) 0) > y0.1 then (([0,0,128,2048,65536]:List Int).getD ((y0.2.2).toNat) 0) else y0.1)))&&(decide ((if (([0,127,2047,65535,1114111]:List Int).getD ((y0.2.2).toNat) 0)<y0.2.1 then (([0,127,2047,65535,1114111]:List Int).getD ((y0.2.2).toNat) 0) else y0.2.1)≤57343)))))&&(decide ((0:Int)=y0.2.2))))] ?_
 subst hR
 refine ie (A9 ?_)
 exact A0l hr hD
def A7b:Bool :=
 (C1 B6a fun (y2:Bool×Bool)=>true)
theorem C4c (R:Bool) (hR:A7b=R):I6 Tryz.prog 225 [.slice none 0 0] [] (bv R):=by
 refine zco Tryz.func225 [(0,.slice none 0 0)] fun X hX hr hD=>?_
 replace hR:=(A7b.eq_1 ..).symm.trans hR
 refine sr 1 rfl (ip' 1 0 [] ?_)
 refine ie (sr 7 rfl (ip' 1 6 [(6,.slice none 0 0)] ?_))
 have hQ:=D4 hR;clear hR;obtain ⟨y2,hy2,hR⟩:=hQ
 refine zca (C6f y2 hy2) fn0 ?_
 refine ip' 5 0 [(3,bv y2.1),(4,bv y2.2)] ?_
 refine ie (sr 11 rfl (ip' 11 0 [(2,bv true)] ?_))
 subst hR
 refine ie (A9 ?_)
 exact F1 hr hD
def G3 (b:UInt8):Int×Int :=
 (bif (decide ((b.toNat:Int)<128)) then (1,(b.toNat:Int)) else (bif ((decide ((192:Int)≤(b.toNat:Int)))&&(decide ((b.toNat:Int)<224))) then (2,((b.toNat:Int) - 192)) else (bif ((decide ((224:Int)≤(b.toNat:Int)))&&(decide ((b.toNat:Int)<240))) then (3,((b.toNat:Int) - 224)) else (bif ((decide ((240:Int)≤(b.toNat:Int)))&&(decide ((b.toNat:Int)<248))) then (4,((b.toNat:Int) - 240)) else (0,0)))))
theorem B2y (b:UInt8):(0≤(G3 b).1∧(G3 b).1≤4)∧0≤(G3 b).2∧(G3 b).2≤127:=by
 have:=b.toNat_lt
 unfold G3
 by_cases h1:(b.toNat:Int)<128
 ·rw [decide_eq_true h1];simp only [cond_true];omega
 ·rw [decide_eq_false h1,cond_false]
  by_cases h2:(192:Int)≤(b.toNat:Int)∧(b.toNat:Int)<224
  ·rw [show ((decide ((192:Int)≤(b.toNat:Int)))&&(decide ((b.toNat:Int)<224)))=true by simp only [Bool.and_eq_true,decide_eq_true_eq];exact h2,cond_true];dsimp only;omega
  ·rw [show ((decide ((192:Int)≤(b.toNat:Int)))&&(decide ((b.toNat:Int)<224)))=false by simp only [Bool.and_eq_false_iff,decide_eq_false_iff_not];omega,cond_false]
   by_cases h3:(224:Int)≤(b.toNat:Int)∧(b.toNat:Int)<240
   ·rw [show ((decide ((224:Int)≤(b.toNat:Int)))&&(decide ((b.toNat:Int)<240)))=true by simp only [Bool.and_eq_true,decide_eq_true_eq];exact h3,cond_true];dsimp only;omega
   ·rw [show ((decide ((224:Int)≤(b.toNat:Int)))&&(decide ((b.toNat:Int)<240)))=false by simp only [Bool.and_eq_false_iff,decide_eq_false_iff_not];omega,cond_false]
    by_cases h4:(240:Int)≤(b.toNat:Int)∧(b.toNat:Int)<248
    ·rw [show ((decide ((240:Int)≤(b.toNat:Int)))&&(decide ((b.toNat:Int)<248)))=true by simp only [Bool.and_eq_true,decide_eq_true_eq];exact h4,cond_true];dsimp only;omega
    ·rw [show ((decide ((240:Int)≤(b.toNat:Int)))&&(decide ((b.toNat:Int)<248)))=false by simp only [Bool.and_eq_false_iff,decide_eq_false_iff_not];omega,cond_false];dsimp only;omega
theorem C4p (b:UInt8) (R:Int×Int) (hR:G3 b=R):I6 Tryz.prog 239 [.int .u8 (b.toNat:Int)] [] (.tuple #[iv R.1,iv R.2]):=by
 refine zco Tryz.func239 [(0,.int .u8 (b.toNat:Int))] fun X hX hr hD=>?_
 unfold G3 at hR
 refine sr 2 rfl (ip' 2 0 [] ?_)
 refine ie (A8 (sr 2 rfl (ip' 2 0 [(5,bv (decide ((b.toNat:Int)<128)))] ?_)))
 refine ie ?_
 refine zjd rfl hR ?_ ?_<;>clear hR<;>intro hR h1 h1p
 ·refine sr 4 rfl (ip' 1 3 [(6,.int .u8 (b.toNat:Int))] ?_)
  refine ix rfl (N3 (c:=(b.toNat:Int)) Tryz.underlying3 (by kernel_rfl) rfl rfl (W9 b)) ?_
  refine ip' 2 0 [(2,iv 1),(3,iv (b.toNat:Int))] ?_
  subst hR
  refine ie (A9 ?_)
  exact A0l hr hD
 refine A6 (nx (A8 (sr 6 rfl (ip' 3 3 [(10,bv (decide ((192:Int)≤(b.toNat:Int))))] ?_))))
 refine zid 3 0 10 13 (decide ((b.toNat:Int)<224)) (fun g2 g2p=>?_) ?_
 ·refine ip' 3 0 [(13,bv (decide ((b.toNat:Int)<224)))] ?_
  exact A3 (L3 2 10 13 g2 fn0 (mk [] rfl) rfl rfl rfl rfl rfl)
 refine ie ?_
 refine zja rfl hR ?_ ?_<;>clear hR<;>intro hR h3 h3p
 ·refine sr 5 rfl (ip' 1 4 [(14,.int .u8 (b.toNat:Int))] ?_)
  refine ix rfl (N3 (c:=(b.toNat:Int)) Tryz.underlying3 (by kernel_rfl) rfl rfl (W9 b)) ?_
  refine ix rfl (M6 rfl rfl rfl rfl (by omega)) ?_
  refine ip' 2 0 [(2,iv 2),(3,iv ((b.toNat:Int) - 192))] ?_
  subst hR
  refine ie (A9 ?_)
  exact A0l hr hD
 refine A6 (nx (A8 (sr 6 rfl (ip' 3 3 [(19,bv (decide ((224:Int)≤(b.toNat:Int))))] ?_))))
 refine zid 3 0 19 22 (decide ((b.toNat:Int)<240)) (fun g4 g4p=>?_) ?_
 ·refine ip' 3 0 [(22,bv (decide ((b.toNat:Int)<240)))] ?_
  exact A3 (L3 2 19 22 g4 fn0 (mk [] rfl) rfl rfl rfl rfl rfl)
 refine ie ?_
 refine zja rfl hR ?_ ?_<;>clear hR<;>intro hR h5 h5p
 ·refine sr 5 rfl (ip' 1 4 [(23,.int .u8 (b.toNat:Int))] ?_)
  refine ix rfl (N3 (c:=(b.toNat:Int)) Tryz.underlying3 (by kernel_rfl) rfl rfl (W9 b)) ?_
  refine ix rfl (M6 rfl rfl rfl rfl (by omega)) ?_
  refine ip' 2 0 [(2,iv 3),(3,iv ((b.toNat:Int) - 224))] ?_
  subst hR
  refine ie (A9 ?_)
  exact A0l hr hD
 refine A6 (nx (A8 (sr 6 rfl (ip' 3 3 [(28,bv (decide ((240:Int)≤(b.toNat:Int))))] ?_))))
 refine zid 3 0 28 31 (decide ((b.toNat:Int)<248)) (fun g6 g6p=>?_) ?_
 ·refine ip' 3 0 [(31,bv (decide ((b.toNat:Int)<248)))] ?_
  exact A3 (L3 2 28 31 g6 fn0 (mk [] rfl) rfl rfl rfl rfl rfl)
 refine ie ?_
 refine zja rfl hR ?_ ?_<;>clear hR<;>intro hR h7 h7p
 ·refine sr 5 rfl (ip' 1 4 [(32,.int .u8 (b.toNat:Int))] ?_)
  refine ix rfl (N3 (c:=(b.toNat:Int)) Tryz.underlying3 (by kernel_rfl) rfl rfl (W9 b)) ?_
  refine ix rfl (M6 rfl rfl rfl rfl (by omega)) ?_
  refine ip' 2 0 [(2,iv 4),(3,iv ((b.toNat:Int) - 240))] ?_
  subst hR
  refine ie (A9 ?_)
  exact A0l hr hD
 refine A6 (nx (sr 2 rfl (ip' 2 0 [(2,iv 0),(3,iv 0)] ?_)))
 subst hR
 refine ie (A9 ?_)
 exact A0l hr hD
def F3 (p:List UInt8) (y6:Int×Int):Nat→Int→Int→Nat→(Int×Int×Int)
 | 0,_,_,_=>(0,0,0)
 | fu1+1,low,high,i=>(bif (decide ((i:Int)<y6.1)) then (bif (decide ((i:Int)<(p.length:Int))) then (bif ((decide (((p.getD i 0).toNat:Int)<128))||(decide ((191:Int)<((p.getD i 0).toNat:Int)))) then (0,0,0) else F3 p y6 fu1 (IntKind.i64.wrap ((IntKind.i64.wrap (low * (64:Int)))+(((p.getD i 0).toNat:Int) - 128))) (IntKind.i64.wrap ((IntKind.i64.wrap ((IntKind.i64.wrap ((IntKind.i64.wrap (high * (64:Int)))+(63:Int))) - (63:Int)))+(((p.getD i 0).toNat:Int) - 128))) (i+1)) else F3 p y6 fu1 (IntKind.i64.wrap (low * (64:Int))) (IntKind.i64.wrap ((IntKind.i64.wrap (high * (64:Int)))+(63:Int))) (i+1)) else (bif (decide (y6.1<(p.length:Int))) then (0,0,0) else (low,high,y6.1)))
def K4 (p:List UInt8):Int×Int×Int :=
 (bif (decide ((p.length:Int)=0)) then (0,0,0) else (C1 (G3 (p.getD 0 0)) fun (y6:Int×Int)=>F3 p y6 ((y6.1 - (1:Int)).toNat+1) y6.2 y6.2 1))
theorem A5g (p:List UInt8) (f:Int×Int) (hf:0≤f.1∧f.1≤4):∀ (fu:Nat) (low high:Int) (i:Nat),0≤(F3 p f fu low high i).2.2∧(F3 p f fu low high i).2.2≤4∧((F3 p f fu low high i).2.2≠0→(p.length:Int)≤4)
 | 0,low,high,i=>by simp [F3]
 | fu+1,low,high,i=>by
  simp only [F3]
  cases (decide ((i:Int)<f.1)) with
  | true =>
   rw [cond_true]
   cases (decide ((i:Int)<(p.length:Int))) with
   | true =>
    rw [cond_true]
    generalize ((decide (((p.getD i 0).toNat:Int)<128))||(decide ((191:Int)<((p.getD i 0).toNat:Int))))=c
    cases c with
    | true=>simp
    | false=>rw [cond_false];exact A5g p f hf fu _ _ _
   | false=>rw [cond_false];exact A5g p f hf fu _ _ _
  | false =>
   rw [cond_false]
   by_cases h:f.1<(p.length:Int)
   ·rw [decide_eq_true h,cond_true];simp
   ·rw [decide_eq_false h,cond_false];dsimp only;omega
theorem A4z (p:List UInt8):0≤(K4 p).2.2∧(K4 p).2.2≤4∧((K4 p).2.2≠0→(p.length:Int)≤4):=by
 unfold K4
 cases (decide ((p.length:Int)=0)) with
 | true=>simp
 | false=>rw [cond_false];simp only [C1];exact A5g p _ (B2y _).1 _ _ _ _
theorem B0o (p:List UInt8) (pq:Option Addr) (pk:Nat) (hlp:p.length≤9223372036854775807) (hcp:p.length≤pk) (R:Int×Int×Int) (hR:K4 p=R):I6 Tryz.prog 227 [.slice pq p.length pk] [sl cU8 pq p] (.tuple #[iv R.1,iv R.2.1,iv R.2.2]):=by
 refine zco Tryz.func227 [(0,.slice pq p.length pk)] fun X hX hr hD=>?_
 replace hR:=(K4.eq_1 ..).symm.trans hR
 refine sr 3 rfl (ip' 3 0 [] ?_)
 refine ie (A8 (sr 3 rfl (ip' 3 0 [(12,bv (decide ((p.length:Int)=0)))] ?_)))
 refine ie ?_
 refine zjd rfl hR ?_ ?_<;>clear hR<;>intro hR h1 h1p
 ·refine sr 3 rfl (ip' 3 0 [(2,iv 0),(3,iv 0),(4,iv 0)] ?_)
  subst hR
  refine ie (A9 ?_)
  exact zer hr hD (D5r rfl (C0 rfl) (C0 rfl) (C0 rfl)) () (mk [] rfl) fn0
 refine A6 (nx (sr 9 rfl (ip' 1 8 [(14,.slice pq p.length pk)] ?_)))
 refine O8 0 rfl (by omega) fun a2 hq3=>?_
 refine ix rfl (L8 A0n rfl rfl hq3 rfl 0 rfl (by omega)) ?_
 refine ix rfl (F2 (v:=.int .u8 ((p.getD 0 0).toNat:Int)) (us:=[.int .u8 ((p.getD 0 0).toNat:Int)]) ty5 rfl rfl (N7 (c:=cU8) (sz:=1) hq3 (fun _=>rfl) 0 rfl (gd 0 (by omega))) rfl) ?_
 have hQ:=D4 hR;clear hR;obtain ⟨y6,hy6,hR⟩:=hQ
 refine zca (C4p (p.getD 0 0) y6 hy6) fn0 ?_
 have:=B2y (p.getD 0 0);try rw [hy6] at this
 refine ip' 5 0 [(5,iv y6.1),(6,iv y6.2)] ?_
 refine ie (sr 2 rfl (ip' 2 0 [(7,iv y6.2)] ?_))
 refine ie (A8 (sr 1 rfl (ip' 1 0 [(8,iv 1)] ?_)))
 refine ie (B3 (C0r (fun (fu:Nat) (low:Int) (high:Int) (i:Nat)=>((y6.1 - (i:Int)).toNat<fu∧F3 p y6 fu low high i=R,[(0,.slice pq p.length pk),(5,iv y6.1),(6,iv low),(7,iv high),(8,iv (i:Int))],[],[sl cU8 pq p],fu)) ((y6.1 - (1:Int)).toNat+1) y6.2 y6.2 1 ⟨(Nat.lt_succ_self _),hR⟩ (mk [] rfl) A1.refl ?_))
 rintro fu low high i ⟨hm4,hR⟩
 obtain ⟨fu1,rfl⟩:∃ m,fu=m+1:=⟨fu - 1,by omega⟩
 replace hR:=(F3.eq_2 ..).symm.trans hR
 refine A8 (sr 3 rfl (ip' 3 0 [(23,bv (decide ((i:Int)<y6.1)))] ?_))
 refine ie ?_
 refine zjd rfl hR ?_ ?_<;>clear hR<;>intro hR h5 h5p
 ·refine A6 (nx (A8 (B3 (sr 7 rfl (ip' 1 6 [(26,iv low)] ?_)))))
  refine ix rfl (G8.pure rfl) ?_
  refine ip' 1 4 [(28,iv high)] ?_
  refine ix rfl (G8.pure rfl) ?_
  refine ix rfl (G8.pure rfl) ?_
  refine ip' 2 0 [(6,iv (IntKind.i64.wrap (low * (64:Int)))),(7,iv (IntKind.i64.wrap ((IntKind.i64.wrap (high * (64:Int)))+(63:Int))))] ?_
  refine ie (sr 4 rfl (ip' 4 0 [(34,bv (decide ((i:Int)<(p.length:Int))))] ?_))
  refine ie ?_
  refine zjd rfl hR ?_ ?_<;>clear hR<;>intro hR h6 h6p
  ·refine A8 (sr 12 rfl (ip' 2 10 [(35,.slice pq p.length pk),(36,iv (i:Int))] ?_))
   refine ix rfl (L8 A0n rfl rfl hq3 rfl i rfl (by omega)) ?_
   refine ix rfl (F2 (v:=.int .u8 ((p.getD i 0).toNat:Int)) (us:=[.int .u8 ((p.getD i 0).toNat:Int)]) ty5 rfl rfl (N7 (c:=cU8) (sz:=1) hq3 (fun _=>rfl) 0 rfl (gd 0 (by omega))) rfl) ?_
   refine ip' 2 6 [(40,bv (decide (((p.getD i 0).toNat:Int)<128)))] ?_
   refine zir 6 0 40 46 (decide ((191:Int)<((p.getD i 0).toNat:Int))) (fun g7 g7p=>?_) ?_
   ·refine ip' 2 4 [(41,.slice pq p.length pk),(42,iv (i:Int))] ?_
    refine ix rfl (L8 A0n rfl rfl hq3 rfl i rfl (by omega)) ?_
    refine ix rfl (F2 (v:=.int .u8 ((p.getD i 0).toNat:Int)) (us:=[.int .u8 ((p.getD i 0).toNat:Int)]) ty5 rfl rfl (N7 (c:=cU8) (sz:=1) hq3 (fun _=>rfl) 0 rfl (gd 0 (by omega))) rfl) ?_
    refine ip' 2 0 [(46,bv (decide ((191:Int)<((p.getD i 0).toNat:Int))))] ?_
    exact zai 6 40 46 g7
   refine ie ?_
   refine zjo rfl hR ?_ ?_<;>clear hR<;>intro hR h8 h8p
   ·refine sr 3 rfl (ip' 3 0 [(2,iv 0),(3,iv 0),(4,iv 0)] ?_)
    subst hR
    refine ie (A9 ?_)
    exact zer hr hD (D5r rfl (C0 rfl) (C0 rfl) (C0 rfl)) () (mk [] rfl) fn0
   refine A6 (nx (sr 7 rfl (ip' 2 5 [(47,.slice pq p.length pk),(48,iv (i:Int))] ?_)))
   refine ix rfl (L8 A0n rfl rfl hq3 rfl i rfl (by omega)) ?_
   refine ix rfl (F2 (v:=.int .u8 ((p.getD i 0).toNat:Int)) (us:=[.int .u8 ((p.getD i 0).toNat:Int)]) ty5 rfl rfl (N7 (c:=cU8) (sz:=1) hq3 (fun _=>rfl) 0 rfl (gd 0 (by omega))) rfl) ?_
   refine ix rfl (N3 (c:=((p.getD i 0).toNat:Int)) Tryz.underlying3 (by kernel_rfl) rfl rfl (W9 (p.getD i 0))) ?_
   refine ix rfl (M6 rfl rfl rfl rfl (by omega)) ?_
   refine ip' 1 0 [(9,iv (((p.getD i 0).toNat:Int) - 128))] ?_
   refine ie (A2 9 rfl (ip' 2 7 [(53,iv (IntKind.i64.wrap (low * (64:Int)))),(54,iv (((p.getD i 0).toNat:Int) - 128))] ?_))
   refine ix rfl (G8.pure rfl) ?_
   refine ip' 1 5 [(56,iv (IntKind.i64.wrap ((IntKind.i64.wrap (high * (64:Int)))+(63:Int))))] ?_
   refine ix rfl (G8.pure rfl) ?_
   refine ip' 1 3 [(58,iv (((p.getD i 0).toNat:Int) - 128))] ?_
   refine ix rfl (G8.pure rfl) ?_
   refine ip' 2 0 [(6,iv (IntKind.i64.wrap ((IntKind.i64.wrap (low * (64:Int)))+(((p.getD i 0).toNat:Int) - 128)))),(7,iv (IntKind.i64.wrap ((IntKind.i64.wrap ((IntKind.i64.wrap ((IntKind.i64.wrap (high * (64:Int)))+(63:Int))) - (63:Int)))+(((p.getD i 0).toNat:Int) - 128))))] ?_
   refine A3 (nx (A2 3 rfl (ip' 1 2 [(24,iv (i:Int))] ?_)))
   refine ix rfl (B5 rfl rfl rfl rfl (by omega)) ?_
   refine ip' 1 0 [(8,iv ((i:Int)+1))] ?_
   refine A3 ?_
   exact B5k (z1:=(fu1+1)) (z2:=low) (z3:=high) (z4:=i) fu1 (IntKind.i64.wrap ((IntKind.i64.wrap (low * (64:Int)))+(((p.getD i 0).toNat:Int) - 128))) (IntKind.i64.wrap ((IntKind.i64.wrap ((IntKind.i64.wrap ((IntKind.i64.wrap (high * (64:Int)))+(63:Int))) - (63:Int)))+(((p.getD i 0).toNat:Int) - 128))) (i+1) ⟨(by omega),hR⟩ (Nat.lt_succ_self _) (mk [] rfl) A1.refl
  refine A6 (nx (A2 3 rfl (ip' 1 2 [(24,iv (i:Int))] ?_)))
  refine ix rfl (B5 rfl rfl rfl rfl (by omega)) ?_
  refine ip' 1 0 [(8,iv ((i:Int)+1))] ?_
  refine A3 ?_
  exact B5k (z1:=(fu1+1)) (z2:=low) (z3:=high) (z4:=i) fu1 (IntKind.i64.wrap (low * (64:Int))) (IntKind.i64.wrap ((IntKind.i64.wrap (high * (64:Int)))+(63:Int))) (i+1) ⟨(by omega),hR⟩ (Nat.lt_succ_self _) (mk [] rfl) A1.refl
 refine I1 (nx (A8 (sr 4 rfl (ip' 4 0 [(63,bv (decide (y6.1<(p.length:Int))))] ?_))))
 refine ie ?_
 refine zjd rfl hR ?_ ?_<;>clear hR<;>intro hR h9 h9p
 ·refine sr 3 rfl (ip' 3 0 [(2,iv 0),(3,iv 0),(4,iv 0)] ?_)
  subst hR
  refine ie (A9 ?_)
  exact zer hr hD (D5r rfl (C0 rfl) (C0 rfl) (C0 rfl)) () (mk [] rfl) fn0
 refine A6 (nx (sr 6 rfl (ip' 6 0 [(2,iv low),(3,iv high),(4,iv y6.1)] ?_)))
 subst hR
 refine ie (A9 ?_)
 exact zer hr hD (D5r rfl (C0 rfl) (C0 rfl) (C0 rfl)) () (mk [] rfl) fn0
def M4 (p:List UInt8):Bool×Bool :=
 (C1 (K4 p) fun (y1:Int×Int×Int)=>(bif (decide (y1.2.2=0)) then (false,false) else (((decide ((if (([0,0,128,2048,65536]:List Int).getD ((y1.2.2).toNat) 0) > y1.1 then (([0,0,128,2048,65536]:List Int).getD ((y1.2.2).toNat) 0) else y1.1)≤(if (([0,127,2047,65535,1114111]:List Int).getD ((y1.2.2).toNat) 0)<y1.2.1 then (([0,127,2047,65535,1114111]:List Int).getD ((y1.2.2).toNat) 0) else y1.2.1)))&&(!((decide ((55296:Int)≤(if (([0,0,128,2048,65536]:List Int).getD ((y1.2.2).toNat) 0) > y1.1 then (([0,0,128,2048,65536]:List Int).getD ((y1.2.2).toNat) 0) else y1.1)))&&(decide ((if (([0,127,2047,65535,1114111]:List Int).getD ((y1.2.2).toNat) 0)<y1.2.1 then (([0,127,2047,65535,1114111]:List Int).getD ((y1.2.2).toNat) 0) else y1.2.1)≤57343))))),(((decide ((if (([0,0,128,2048,65536]:List Int).getD ((y1.2.2).toNat) 0) > y1.1 then (([0,0,128,2048,65536]:List Int).getD ((y1.2.2).toNat) 0) else y1.1)≤(if (([0,127,2047,65535,1114111]:List Int).getD ((y1.2.2).toNat) 0)<y1.2.1 then (([0,127,2047,65535,1114111]:List Int).getD ((y1.2.2).toNat) 0) else y1.2.1)))&&(!((decide ((55296:Int)≤(if (([0,0,128,2048,65536]:List Int).getD ((y1.2.2).toNat) 0) > y1.1 then (([0,0,128,2048,65536]:List Int).getD ((y1.2.2).toNat) 0) else y1.1)))&&(decide ((if (([0,127,2047,65535,1114111]:List Int).getD ((y1.2.2).toNat) 0)<y1.2.1 then (([0,127,2047,65535,1114111]:List Int).getD ((y1.2.2).toNat) 0) else y1.2.1)≤57343)))))&&(decide ((p.length:Int)=y1.2.2))))))
theorem C1l (p:List UInt8) (h:(M4 p).1=true):(p.length:Int)≤4:=by
 unfold M4 at h
 simp only [C1] at h
 by_cases e:(K4 p).2.2=0
 ·rw [decide_eq_true e] at h;simp at h
 ·exact (A4z p).2.2 e
theorem B0l (p:List UInt8) (pq:Option Addr) (pk:Nat) (hlp:p.length≤9223372036854775807) (hcp:p.length≤pk) (R:Bool×Bool) (hR:M4 p=R):I6 Tryz.prog 226 [.slice pq p.length pk] [sl cU8 pq p] (.tuple #[bv R.1,bv R.2]):=by
 refine zco Tryz.func226 [(0,.slice pq p.length pk)] fun X hX hr hD=>?_
 replace hR:=(M4.eq_1 ..).symm.trans hR
 refine sr 2 rfl (ip' 2 0 [] ?_)
 refine ie (sr 9 rfl (ip' 1 8 [(11,.slice pq p.length pk)] ?_))
 have hQ:=D4 hR;clear hR;obtain ⟨y1,hy1,hR⟩:=hQ
 refine zca (B0o p pq pk (by first|omega|(simp<;>omega)|(dsimp only;omega)|decide) (by first|omega|(simp<;>omega)|(dsimp only;omega)|decide) y1 hy1) A1.refl ?_
 have:=A4z p;try rw [hy1] at this
 refine ip' 7 0 [(4,iv y1.1),(5,iv y1.2.1),(6,iv y1.2.2)] ?_
 refine ie (A8 (sr 2 rfl (ip' 2 0 [(17,bv (decide (y1.2.2=0)))] ?_)))
 refine ie ?_
 refine zjd rfl hR ?_ ?_<;>clear hR<;>intro hR h1 h1p
 ·refine sr 2 rfl (ip' 2 0 [(2,bv false),(3,bv false)] ?_)
  subst hR
  refine ie (A9 ?_)
  exact A0l hr hD
 refine A6 (nx (sr 3 rfl (P0 3 0 [0] (fun b2=>[(7,pt b2 0)]) (fun b2=>[bx b2 [iv 0,iv 0,iv 128,iv 2048,iv 65536] 85]) (fun b2=>?_))))
 refine ie (sr 3 rfl (P0 3 0 [0] (fun b3=>[(8,pt b3 0)]) (fun b3=>[bx b3 [iv 0,iv 127,iv 2047,iv 65535,iv 1114111] 85,bx b2 [iv 0,iv 0,iv 128,iv 2048,iv 65536] 85]) (fun b3=>?_)))
 refine ie (sd 12 rfl (by kernel_rfl) rfl ?_)
 refine dp' 2 10 [(20,iv y1.1),(21,iv y1.2.2)] ?_
 refine dd rfl (U9 Tryz.underlying85 ty3 rfl rfl rfl ((y1.2.2).toNat) (by omega) (by omega)) ?_
 refine dd rfl (N2 (u:=iv (([0,0,128,2048,65536]:List Int).getD ((y1.2.2).toNat) 0)) (c:=D9) (xs:=([0,0,128,2048,65536]:List Int)) (j:=[]) (sz:=1) ty3 (fun _=>rfl) rfl rfl 1 rfl ((y1.2.2).toNat) 0 rfl (gd 0 (by simp only [List.length_cons,List.length_nil];omega)) rfl) ?_
 refine dp' 3 5 [(24,iv (if (([0,0,128,2048,65536]:List Int).getD ((y1.2.2).toNat) 0) > y1.1 then (([0,0,128,2048,65536]:List Int).getD ((y1.2.2).toNat) 0) else y1.1)),(25,iv y1.2.1),(26,iv y1.2.2)] ?_
 have:=C7w y1.1 (([0,0,128,2048,65536]:List Int).getD ((y1.2.2).toNat) 0)
 refine dd rfl (U9 Tryz.underlying85 ty3 rfl rfl rfl ((y1.2.2).toNat) (by omega) (by omega)) ?_
 refine dd rfl (N2 (u:=iv (([0,127,2047,65535,1114111]:List Int).getD ((y1.2.2).toNat) 0)) (c:=D9) (xs:=([0,127,2047,65535,1114111]:List Int)) (j:=[]) (sz:=1) ty3 (fun _=>rfl) rfl rfl 0 rfl ((y1.2.2).toNat) 0 rfl (gd 0 (by simp only [List.length_cons,List.length_nil];omega)) rfl) ?_
 refine dp' 3 0 [(4,iv (if (([0,0,128,2048,65536]:List Int).getD ((y1.2.2).toNat) 0) > y1.1 then (([0,0,128,2048,65536]:List Int).getD ((y1.2.2).toNat) 0) else y1.1)),(5,iv (if (([0,127,2047,65535,1114111]:List Int).getD ((y1.2.2).toNat) 0)<y1.2.1 then (([0,127,2047,65535,1114111]:List Int).getD ((y1.2.2).toNat) 0) else y1.2.1))] ?_
 have:=C7w y1.1 (([0,0,128,2048,65536]:List Int).getD ((y1.2.2).toNat) 0)
 have:=D1j y1.2.1 (([0,127,2047,65535,1114111]:List Int).getD ((y1.2.2).toNat) 0)
 refine de (sr 13 rfl (ip' 4 9 [(33,bv (decide ((if (([0,0,128,2048,65536]:List Int).getD ((y1.2.2).toNat) 0) > y1.1 then (([0,0,128,2048,65536]:List Int).getD ((y1.2.2).toNat) 0) else y1.1)≤(if (([0,127,2047,65535,1114111]:List Int).getD ((y1.2.2).toNat) 0)<y1.2.1 then (([0,127,2047,65535,1114111]:List Int).getD ((y1.2.2).toNat) 0) else y1.2.1))))] ?_))
 refine zia 8 1 33 41 (!((decide ((55296:Int)≤(if (([0,0,128,2048,65536]:List Int).getD ((y1.2.2).toNat) 0) > y1.1 then (([0,0,128,2048,65536]:List Int).getD ((y1.2.2).toNat) 0) else y1.1)))&&(decide ((if (([0,127,2047,65535,1114111]:List Int).getD ((y1.2.2).toNat) 0)<y1.2.1 then (([0,127,2047,65535,1114111]:List Int).getD ((y1.2.2).toNat) 0) else y1.2.1)≤57343)))) (fun g4=>?_) ?_
 ·have g4p:(if (([0,0,128,2048,65536]:List Int).getD ((y1.2.2).toNat) 0) > y1.1 then (([0,0,128,2048,65536]:List Int).getD ((y1.2.2).toNat) 0) else y1.1)≤(if (([0,127,2047,65535,1114111]:List Int).getD ((y1.2.2).toNat) 0)<y1.2.1 then (([0,127,2047,65535,1114111]:List Int).getD ((y1.2.2).toNat) 0) else y1.2.1):=by first|exact of_decide_eq_true g4|simpa only [Bool.and_eq_true,Bool.not_eq_true',Bool.and_eq_false_imp,decide_eq_true_eq,decide_eq_false_iff_not,not_and] using g4|simpa using g4
  refine ip' 3 5 [(36,bv (decide ((55296:Int)≤(if (([0,0,128,2048,65536]:List Int).getD ((y1.2.2).toNat) 0) > y1.1 then (([0,0,128,2048,65536]:List Int).getD ((y1.2.2).toNat) 0) else y1.1))))] ?_
  refine zia 3 2 36 39 (decide ((if (([0,127,2047,65535,1114111]:List Int).getD ((y1.2.2).toNat) 0)<y1.2.1 then (([0,127,2047,65535,1114111]:List Int).getD ((y1.2.2).toNat) 0) else y1.2.1)≤57343)) (fun g5=>?_) ?_
  ·have g5p:(55296:Int)≤(if (([0,0,128,2048,65536]:List Int).getD ((y1.2.2).toNat) 0) > y1.1 then (([0,0,128,2048,65536]:List Int).getD ((y1.2.2).toNat) 0) else y1.1):=by first|exact of_decide_eq_true g5|simpa only [Bool.and_eq_true,Bool.not_eq_true',Bool.and_eq_false_imp,decide_eq_true_eq,decide_eq_false_iff_not,not_and] using g5|simpa using g5
   refine ip' 3 0 [(39,bv (decide ((if (([0,127,2047,65535,1114111]:List Int).getD ((y1.2.2).toNat) 0)<y1.2.1 then (([0,127,2047,65535,1114111]:List Int).getD ((y1.2.2).toNat) 0) else y1.2.1)≤57343)))] ?_
   exact zai 2 36 39 g5
  refine ip' 2 0 [(41,bv (!((decide ((55296:Int)≤(if (([0,0,128,2048,65536]:List Int).getD ((y1.2.2).toNat) 0) > y1.1 then (([0,0,128,2048,65536]:List Int).getD ((y1.2.2).toNat) 0) else y1.1)))&&(decide ((if (([0,127,2047,65535,1114111]:List Int).getD ((y1.2.2).toNat) 0)<y1.2.1 then (([0,127,2047,65535,1114111]:List Int).getD ((y1.2.2).toNat) 0) else y1.2.1)≤57343)))))] ?_
  exact zai 4 33 41 g4
 refine ip' 1 0 [(9,bv ((decide ((if (([0,0,128,2048,65536]:List Int).getD ((y1.2.2).toNat) 0) > y1.1 then (([0,0,128,2048,65536]:List Int).getD ((y1.2.2).toNat) 0) else y1.1)≤(if (([0,127,2047,65535,1114111]:List Int).getD ((y1.2.2).toNat) 0)<y1.2.1 then (([0,127,2047,65535,1114111]:List Int).getD ((y1.2.2).toNat) 0) else y1.2.1)))&&(!((decide ((55296:Int)≤(if (([0,0,128,2048,65536]:List Int).getD ((y1.2.2).toNat) 0) > y1.1 then (([0,0,128,2048,65536]:List Int).getD ((y1.2.2).toNat) 0) else y1.1)))&&(decide ((if (([0,127,2047,65535,1114111]:List Int).getD ((y1.2.2).toNat) 0)<y1.2.1 then (([0,127,2047,65535,1114111]:List Int).getD ((y1.2.2).toNat) 0) else y1.2.1)≤57343))))))] ?_
 refine ie (sr 10 rfl (ip' 3 7 [(42,bv ((decide ((if (([0,0,128,2048,65536]:List Int).getD ((y1.2.2).toNat) 0) > y1.1 then (([0,0,128,2048,65536]:List Int).getD ((y1.2.2).toNat) 0) else y1.1)≤(if (([0,127,2047,65535,1114111]:List Int).getD ((y1.2.2).toNat) 0)<y1.2.1 then (([0,127,2047,65535,1114111]:List Int).getD ((y1.2.2).toNat) 0) else y1.2.1)))&&(!((decide ((55296:Int)≤(if (([0,0,128,2048,65536]:List Int).getD ((y1.2.2).toNat) 0) > y1.1 then (([0,0,128,2048,65536]:List Int).getD ((y1.2.2).toNat) 0) else y1.1)))&&(decide ((if (([0,127,2047,65535,1114111]:List Int).getD ((y1.2.2).toNat) 0)<y1.2.1 then (([0,127,2047,65535,1114111]:List Int).getD ((y1.2.2).toNat) 0) else y1.2.1)≤57343)))))),(44,bv ((decide ((if (([0,0,128,2048,65536]:List Int).getD ((y1.2.2).toNat) 0) > y1.1 then (([0,0,128,2048,65536]:List Int).getD ((y1.2.2).toNat) 0) else y1.1)≤(if (([0,127,2047,65535,1114111]:List Int).getD ((y1.2.2).toNat) 0)<y1.2.1 then (([0,127,2047,65535,1114111]:List Int).getD ((y1.2.2).toNat) 0) else y1.2.1)))&&(!((decide ((55296:Int)≤(if (([0,0,128,2048,65536]:List Int).getD ((y1.2.2).toNat) 0) > y1.1 then (([0,0,128,2048,65536]:List Int).getD ((y1.2.2).toNat) 0) else y1.1)))&&(decide ((if (([0,127,2047,65535,1114111]:List Int).getD ((y1.2.2).toNat) 0)<y1.2.1 then (([0,127,2047,65535,1114111]:List Int).getD ((y1.2.2).toNat) 0) else y1.2.1)≤57343))))))] ?_))
 refine zia 5 2 44 49 (decide ((p.length:Int)=y1.2.2)) (fun g6=>?_) ?_
 ·have g6p:((if (([0,0,128,2048,65536]:List Int).getD ((y1.2.2).toNat) 0) > y1.1 then (([0,0,128,2048,65536]:List Int).getD ((y1.2.2).toNat) 0) else y1.1)≤(if (([0,127,2047,65535,1114111]:List Int).getD ((y1.2.2).toNat) 0)<y1.2.1 then (([0,127,2047,65535,1114111]:List Int).getD ((y1.2.2).toNat) 0) else y1.2.1))∧(¬ (((55296:Int)≤(if (([0,0,128,2048,65536]:List Int).getD ((y1.2.2).toNat) 0) > y1.1 then (([0,0,128,2048,65536]:List Int).getD ((y1.2.2).toNat) 0) else y1.1))∧((if (([0,127,2047,65535,1114111]:List Int).getD ((y1.2.2).toNat) 0)<y1.2.1 then (([0,127,2047,65535,1114111]:List Int).getD ((y1.2.2).toNat) 0) else y1.2.1)≤57343))):=by first|exact of_decide_eq_true g6|simpa only [Bool.and_eq_true,Bool.not_eq_true',Bool.and_eq_false_imp,decide_eq_true_eq,decide_eq_false_iff_not,not_and] using g6|simpa using g6
  refine ip' 5 0 [(49,bv (decide ((p.length:Int)=y1.2.2)))] ?_
  exact zai 2 44 49 g6
 refine ip' 2 0 [(2,bv ((decide ((if (([0,0,128,2048,65536]:List Int).getD ((y1.2.2).toNat) 0) > y1.1 then (([0,0,128,2048,65536]:List Int).getD ((y1.2.2).toNat) 0) else y1.1)≤(if (([0,127,2047,65535,1114111]:List Int).getD ((y1.2.2).toNat) 0)<y1.2.1 then (([0,127,2047,65535,1114111]:List Int).getD ((y1.2.2).toNat) 0) else y1.2.1)))&&(!((decide ((55296:Int)≤(if (([0,0,128,2048,65536]:List Int).getD ((y1.2.2).toNat) 0) > y1.1 then (([0,0,128,2048,65536]:List Int).getD ((y1.2.2).toNat) 0) else y1.1)))&&(decide ((if (([0,127,2047,65535,1114111]:List Int).getD ((y1.2.2).toNat) 0)<y1.2.1 then (([0,127,2047,65535,1114111]:List Int).getD ((y1.2.2).toNat) 0) else y1.2.1)≤57343)))))),(3,bv (((decide ((if (([0,0,128,2048,65536]:List Int).getD ((y1.2.2).toNat) 0) > y1.1 then (([0,0,128,2048,65536]:List Int).getD ((y1.2.2).toNat) 0) else y1.1)≤(if (([0,127,2047,65535,1114111]:List Int).getD ((y1.2.2).toNat) 0)<y1.2.1 then (([0,127,2047,65535,1114111]:List Int).getD ((y1.2.2).toNat) 0) else y1.2.1)))&&(!((decide ((55296:Int)≤(if (([0,0,128,2048,65536]:List Int).getD ((y1.2.2).toNat) 0) > y1.1 then (([0,0,128,2048,65536]:List Int).getD ((y1.2.2).toNat) 0) else y1.1)))&&(decide ((if (([0,127,2047,65535,1114111]:List Int).getD ((y1.2.2).toNat) 0)<y1.2.1 then (([0,127,2047,65535,1114111]:List Int).getD ((y1.2.2).toNat) 0) else y1.2.1)≤57343)))))&&(decide ((p.length:Int)=y1.2.2))))] ?_
 subst hR
 refine ie (A9 ?_)
 exact A0l hr hD
def W5 (b:UInt8):List UInt8×List Int :=
 (C1 (M4 (([]:List UInt8)++([b]:List UInt8))) fun (y3:Bool×Bool)=>(bif y3.2 then (C1 (K4 (([]:List UInt8)++([b]:List UInt8))) fun (y1:Int×Int×Int)=>(([]:List UInt8),([y1.1]:List Int))) else (bif y3.1 then ((([]:List UInt8)++([b]:List UInt8)),([]:List Int)) else (([]:List UInt8),([65533]:List Int)))))
def A2q (b:UInt8):List UInt8×List Int :=
 (bif (!A7b) then W5 b else W5 b)
theorem B7y (b:UInt8):(W5 b).1.length≤4∧(W5 b).2.length≤2:=by
 unfold W5
 simp only [C1]
 cases (M4 (([]:List UInt8)++([b]:List UInt8))).2<;>cases (M4 (([]:List UInt8)++([b]:List UInt8))).1<;>simp
theorem B3j (b:UInt8):(A2q b).1.length≤4∧(A2q b).2.length≤2:=by
 unfold A2q
 cases (!A7b)<;>simp only [cond_true,cond_false]<;>exact B7y b
theorem C6c (b:UInt8) (hp:([]:List UInt8).length≤4) (R:List UInt8×List Int) (hR:A2q b=R):Con Tryz.prog 212 [.slice none 0 0,.int .u8 (b.toNat:Int)] [] [] ({t:Option Addr×Nat // R.1.length≤t.2∧R.1.length≤9223372036854775807}×{t:Option Addr×Nat // R.2.length≤t.2∧R.2.length≤9223372036854775807}) (fun x=>.tuple #[.slice x.1.1.1 R.1.length x.1.1.2,.slice x.2.1.1 R.2.length x.2.1.2]) (fun x=>[]) (fun x=>[sl cU8 x.1.1.1 R.1,sl D9 x.2.1.1 R.2]):=by
 refine zco Tryz.func212 [(0,.slice none 0 0),(1,.int .u8 (b.toNat:Int))] fun X hX hr hD=>?_
 replace hR:=(A2q.eq_1 ..).symm.trans hR
 refine sr 2 rfl (ip' 2 0 [] ?_)
 refine ie (B7n (fun (_:Unit)=>(W5 b=R,[(0,.slice none 0 0),(1,.int .u8 (b.toNat:Int))],[],[])) ?_ ?_)
 ·refine sr 3 rfl (ip' 1 2 [(14,.slice none 0 0)] ?_)
  refine zca (C4c _ rfl) fn0 ?_
  refine ip' 1 0 [(16,bv (!A7b))] ?_
  refine ie ?_
  refine zjb rfl hR ?_ ?_<;>clear hR<;>intro hR h1
  ·refine A2 1 rfl (ip' 1 0 [(0,.slice none 0 0)] ?_)
   refine A3 ?_
   exact V5 () hR (mk [] rfl) fn0
  refine A6 ?_
  exact V5 () hR (mk [] rfl) fn0
 intro _
 rintro hR
 replace hR:=(W5.eq_1 ..).symm.trans hR
 refine sr 7 rfl (it rfl (B6i A0n rfl rfl) fun b2=>?_)
 have:([]:List UInt8).length=0:=rfl
 refine ip' 1 5 [(18,.slice none 0 0)] ?_
 refine ix rfl (D2i B2m rfl rfl rfl rfl rfl rfl (by first|omega|exact Nat.zero_le _|exact VOk.cap (show VOk 1 0 _ from ⟨rfl,Nat.zero_le _,Nat.zero_le _⟩))) ?_
 have:([]:List UInt8).length=0:=rfl
 refine ip' 1 3 [(20,.int .u8 (b.toNat:Int))] ?_
 refine it rfl (B6 (c:=cU8) (xs:=([b]:List UInt8)) A0n rfl rfl rfl (by kernel_rfl)) fun b3=>?_
 have:([b]:List UInt8).length=1:=rfl
 refine it rfl (A6u (f:=cU8) (r:=(⟨some b2,0,[]⟩:VR)) (xs:=([]:List UInt8)) (ys:=([b]:List UInt8)) (pre:=[]) (post:=[]) B2m (fun _=>rfl) (fun _=>rfl) rfl rfl rfl rfl rfl rfl rfl rfl rfl (B0 0 rfl) (show VOk 1 0 _ from ⟨rfl,Nat.zero_le _,Nat.zero_le _⟩) (by first|omega|(simp<;>omega)) (by first|omega|(simp<;>omega))) fun ⟨r4,hr5⟩=>?_
 have:=VOk.le hr5
 have:=VOk.cap hr5
 refine ip' 1 0 [(6,.slice (va r4.q) ((([]:List UInt8)++([b]:List UInt8)).length) r4.k)] ?_
 refine ie (sr 7 rfl (ip' 1 6 [(24,.slice (va r4.q) ((([]:List UInt8)++([b]:List UInt8)).length) r4.k)] ?_))
 have:=VOk.cap hr5
 have:=VOk.le hr5
 refine A3i [] [] (T:=5) (c:=cU8) (r:=r4) (xs:=(([]:List UInt8)++([b]:List UInt8))) hr5 (by first|rfl|simp only [List.cons_append,List.append_assoc,List.nil_append,List.append_nil]) ?_
 have hQ:=D4 hR;clear hR;obtain ⟨y3,hy3,hR⟩:=hQ
 refine zca (B0l (([]:List UInt8)++([b]:List UInt8)) (va r4.q) r4.k (by first|omega|(simp<;>omega)|(dsimp only;omega)|decide) (by first|omega|(simp<;>omega)|(dsimp only;omega)|decide) y3 hy3) (A1.pick [0] rfl) ?_
 refine ip' 5 0 [(7,bv y3.1),(8,bv y3.2)] ?_
 refine ie (A8 (sr 1 rfl (ip' 1 0 [(28,bv y3.2)] ?_)))
 refine ie ?_
 refine zjb rfl hR ?_ ?_<;>clear hR<;>intro hR h6
 ·refine sr 9 rfl (ip' 1 8 [(30,.slice (va r4.q) ((([]:List UInt8)++([b]:List UInt8)).length) r4.k)] ?_)
  have hQ:=D4 hR;clear hR;obtain ⟨y1,hy1,hR⟩:=hQ
  refine zca (B0o (([]:List UInt8)++([b]:List UInt8)) (va r4.q) r4.k (by first|omega|(simp<;>omega)|(dsimp only;omega)|decide) (by first|omega|(simp<;>omega)|(dsimp only;omega)|decide) y1 hy1) (A1.pick [0] rfl) ?_
  have:=A4z (([]:List UInt8)++([b]:List UInt8));try rw [hy1] at this
  refine ip' 7 0 [(9,iv y1.1)] ?_
  refine ie (sr 4 rfl (ip' 1 3 [(35,iv y1.1)] ?_))
  refine it rfl (B6 (c:=D9) (xs:=([y1.1]:List Int)) H4 rfl rfl rfl (by kernel_rfl)) fun b7=>?_
  have:([y1.1]:List Int).length=1:=rfl
  refine ip' 2 0 [(4,.slice none 0 0),(5,.slice (some ⟨b7,0,none⟩) 1 1)] ?_
  subst hR
  refine ie (A9 ?_)
  exact zer hr hD (A7i rfl (C0 rfl) (C0 rfl)) ((zq none 0),(zq (some ⟨b7,0,none⟩) 1)) (mk [] rfl) (A1.con1 A1o (A1.con1 (B0 0 rfl) fn0))
 refine A6 (nx (A8 (sr 1 rfl (ip' 1 0 [(37,bv y3.1)] ?_))))
 refine ie ?_
 refine zjb rfl hR ?_ ?_<;>clear hR<;>intro hR h8
 ·refine sr 3 rfl (ip' 3 0 [(4,.slice (va r4.q) ((([]:List UInt8)++([b]:List UInt8)).length) r4.k),(5,.slice none 0 0)] ?_)
  subst hR
  refine ie (A9 ?_)
  exact zer hr hD (A7i rfl (C0 rfl) (C0 rfl)) ((zq (va r4.q) r4.k),(zq none 0)) (mk [] rfl) (A1.con1 (B0 0 rfl) (A1.con1 A1o fn0))
 refine A6 (nx (A8 (sr 3 rfl (ip' 3 0 [(41,bv true)] ?_))))
 refine ie (M8 rfl (sr 3 rfl (it rfl (B6 (c:=D9) (xs:=([65533]:List Int)) H4 rfl rfl rfl (by kernel_rfl)) fun b9=>?_)))
 have:([65533]:List Int).length=1:=rfl
 refine ip' 2 0 [(4,.slice none 0 0),(5,.slice (some ⟨b9,0,none⟩) 1 1)] ?_
 subst hR
 refine ie (A9 ?_)
 exact zer hr hD (A7i rfl (C0 rfl) (C0 rfl)) ((zq none 0),(zq (some ⟨b9,0,none⟩) 1)) (mk [] rfl) (A1.con1 A1o (A1.con1 (B0 0 rfl) fn0))
def S0 (p:List UInt8):Bool :=
 (C1 (M4 p) fun (y3:Bool×Bool)=>((decide ((p.length:Int)=0))||(y3.1&&(!y3.2))))
theorem B3t (p:List UInt8) (pq:Option Addr) (pk:Nat) (hlp:p.length≤9223372036854775807) (hcp:p.length≤pk) (R:Bool) (hR:S0 p=R):I6 Tryz.prog 225 [.slice pq p.length pk] [sl cU8 pq p] (bv R):=by
 refine zco Tryz.func225 [(0,.slice pq p.length pk)] fun X hX hr hD=>?_
 replace hR:=(S0.eq_1 ..).symm.trans hR
 refine sr 1 rfl (ip' 1 0 [] ?_)
 refine ie (sr 7 rfl (ip' 1 6 [(6,.slice pq p.length pk)] ?_))
 have hQ:=D4 hR;clear hR;obtain ⟨y3,hy3,hR⟩:=hQ
 refine zca (B0l p pq pk (by first|omega|(simp<;>omega)|(dsimp only;omega)|decide) (by first|omega|(simp<;>omega)|(dsimp only;omega)|decide) y3 hy3) A1.refl ?_
 refine ip' 5 0 [(3,bv y3.1),(4,bv y3.2)] ?_
 refine ie (sr 11 rfl (ip' 4 7 [(13,bv (decide ((p.length:Int)=0)))] ?_))
 refine zir 6 1 13 19 (y3.1&&(!y3.2)) (fun g1 g1p=>?_) ?_
 ·refine ip' 2 4 [(15,bv y3.1)] ?_
  refine zia 3 1 15 18 (!y3.2) (fun g2=>?_) ?_
  ·refine ip' 3 0 [(18,bv (!y3.2))] ?_
   exact zai 2 15 18 g2
  refine ip' 1 0 [(19,bv (y3.1&&(!y3.2)))] ?_
  exact zai 4 13 19 g1
 refine ip' 1 0 [(2,bv ((decide ((p.length:Int)=0))||(y3.1&&(!y3.2))))] ?_
 subst hR
 refine ie (A9 ?_)
 exact F1 hr hD
def U1 (b:UInt8) (pending1:List UInt8):List UInt8×List Int :=
 (C1 (M4 ((([]:List UInt8)++pending1)++([b]:List UInt8))) fun (y3:Bool×Bool)=>(bif y3.2 then (C1 (K4 ((([]:List UInt8)++pending1)++([b]:List UInt8))) fun (y1:Int×Int×Int)=>(([]:List UInt8),([y1.1]:List Int))) else (bif y3.1 then (((([]:List UInt8)++pending1)++([b]:List UInt8)),([]:List Int)) else (bif (decide ((pending1.length:Int)=0)) then (([]:List UInt8),([65533]:List Int)) else (C1 (A2q b) fun (y4:List UInt8×List Int)=>(y4.1,(([65533]:List Int)++y4.2)))))))
def Y5 (pending:List UInt8) (b:UInt8):List UInt8×List Int :=
 (bif (!(S0 pending)) then U1 b ([]:List UInt8) else U1 b pending)
theorem B5i (b:UInt8) (p:List UInt8):(U1 b p).1.length≤4∧(U1 b p).2.length≤3:=by
 unfold U1
 simp only [C1]
 have hs:=B3j b
 cases h2:(M4 ((([]:List UInt8)++p)++([b]:List UInt8))).2 with
 | true=>simp
 | false =>
  rw [cond_false]
  cases h1:(M4 ((([]:List UInt8)++p)++([b]:List UInt8))).1 with
  | true =>
   have:=C1l _ h1
   simp only [cond_true,List.length_nil];omega
  | false =>
   rw [cond_false]
   cases (decide ((p.length:Int)=0)) with
   | true=>simp
   | false=>simp only [cond_false,List.length_append,List.length_cons,List.length_nil];omega
theorem B2i (p:List UInt8) (b:UInt8):(Y5 p b).1.length≤4∧(Y5 p b).2.length≤3:=by
 unfold Y5
 cases (!(S0 p))<;>simp only [cond_true,cond_false]<;>exact B5i b _
theorem C4f (pending:List UInt8) (b:UInt8) (pendingq:Option Addr) (pendingk:Nat) (hlpending:pending.length≤9223372036854775807) (hcpending:pending.length≤pendingk) (hp:pending.length≤4) (R:List UInt8×List Int) (hR:Y5 pending b=R):Con Tryz.prog 212 [.slice pendingq pending.length pendingk,.int .u8 (b.toNat:Int)] [] [sl cU8 pendingq pending] ({t:Option Addr×Nat // R.1.length≤t.2∧R.1.length≤9223372036854775807}×{t:Option Addr×Nat // R.2.length≤t.2∧R.2.length≤9223372036854775807}) (fun x=>.tuple #[.slice x.1.1.1 R.1.length x.1.1.2,.slice x.2.1.1 R.2.length x.2.1.2]) (fun x=>[]) (fun x=>[sl cU8 x.1.1.1 R.1,sl D9 x.2.1.1 R.2]):=by
 refine zco Tryz.func212 [(0,.slice pendingq pending.length pendingk),(1,.int .u8 (b.toNat:Int))] fun X hX hr hD=>?_
 replace hR:=(Y5.eq_1 ..).symm.trans hR
 refine sr 2 rfl (ip' 2 0 [] ?_)
 refine ie (E2r (fun (pending1:List UInt8) (pendingq1:Option Addr) (pendingk1:Nat)=>(U1 b pending1=R∧pending1.length≤pendingk1∧pending1.length≤9223372036854775807∧pending1.length≤4,[(0,.slice pendingq1 pending1.length pendingk1),(1,.int .u8 (b.toNat:Int))],[],[sl cU8 pendingq pending,sl cU8 pendingq1 pending1])) ?_ ?_)
 ·refine sr 3 rfl (ip' 1 2 [(14,.slice pendingq pending.length pendingk)] ?_)
  refine zca (B3t pending pendingq pendingk (by first|omega|(simp<;>omega)|(dsimp only;omega)|decide) (by first|omega|(simp<;>omega)|(dsimp only;omega)|decide) _ rfl) A1.refl ?_
  refine ip' 1 0 [(16,bv (!(S0 pending)))] ?_
  refine ie ?_
  refine zjb rfl hR ?_ ?_<;>clear hR<;>intro hR h1
  ·refine A2 1 rfl (ip' 1 0 [(0,.slice none 0 0)] ?_)
   refine A3 ?_
   exact D4m ([]:List UInt8) none 0 ⟨hR,(by first|omega|(simp<;>omega)|(dsimp only;omega)|decide),(by first|omega|(simp<;>omega)|(dsimp only;omega)|decide),(by first|omega|(simp<;>omega))⟩ (mk [] rfl) (A1.con1 (B0 0 rfl) (A1.con1 A1o fn0))
  refine A6 ?_
  exact D4m pending pendingq pendingk ⟨hR,(by first|omega|(simp<;>omega)|(dsimp only;omega)|decide),(by first|omega|(simp<;>omega)|(dsimp only;omega)|decide),(by first|omega|(simp<;>omega))⟩ (mk [] rfl) (A1.pick [0,0] rfl)
 intro pending1 pendingq1 pendingk1
 rintro ⟨hR,hcpending1,hlpending1,hj⟩
 replace hR:=(U1.eq_1 ..).symm.trans hR
 refine sr 7 rfl (it rfl (B6i A0n rfl rfl) fun b2=>?_)
 have:([]:List UInt8).length=0:=rfl
 refine ip' 1 5 [(18,.slice pendingq1 pending1.length pendingk1)] ?_
 refine it rfl (B2w (f:=cU8) (r:=(⟨some b2,0,[]⟩:VR)) (xs:=([]:List UInt8)) (ys:=pending1) (pre:=[]) (post:=[]) B2m (fun _=>rfl) (fun _=>rfl) rfl rfl rfl rfl rfl rfl rfl rfl (B0 1 rfl) (show VOk 1 0 _ from ⟨rfl,Nat.zero_le _,Nat.zero_le _⟩) (by first|omega|(simp<;>omega)) (by first|omega|(simp<;>omega))) fun ⟨r3,hr4⟩=>?_
 have:=VOk.le hr4
 have:=VOk.cap hr4
 refine ip' 1 3 [(20,.int .u8 (b.toNat:Int))] ?_
 refine it rfl (B6 (c:=cU8) (xs:=([b]:List UInt8)) A0n rfl rfl rfl (by kernel_rfl)) fun b5=>?_
 have:([b]:List UInt8).length=1:=rfl
 refine it rfl (A6u (f:=cU8) (r:=r3) (xs:=(([]:List UInt8)++pending1)) (ys:=([b]:List UInt8)) (pre:=[]) (post:=[]) B2m (fun _=>rfl) (fun _=>rfl) rfl rfl rfl rfl rfl rfl rfl rfl rfl (B0 0 rfl) hr4 (by first|omega|(simp<;>omega)) (by first|omega|(simp<;>omega))) fun ⟨r6,hr7⟩=>?_
 have:=VOk.le hr7
 have:=VOk.cap hr7
 refine ip' 1 0 [(6,.slice (va r6.q) (((([]:List UInt8)++pending1)++([b]:List UInt8)).length) r6.k)] ?_
 refine ie (sr 7 rfl (ip' 1 6 [(24,.slice (va r6.q) (((([]:List UInt8)++pending1)++([b]:List UInt8)).length) r6.k)] ?_))
 have:=VOk.cap hr7
 have:=VOk.le hr7
 refine A3i [] [] (T:=5) (c:=cU8) (r:=r6) (xs:=((([]:List UInt8)++pending1)++([b]:List UInt8))) hr7 (by first|rfl|simp only [List.cons_append,List.append_assoc,List.nil_append,List.append_nil]) ?_
 have hQ:=D4 hR;clear hR;obtain ⟨y3,hy3,hR⟩:=hQ
 refine zca (B0l ((([]:List UInt8)++pending1)++([b]:List UInt8)) (va r6.q) r6.k (by first|omega|(simp<;>omega)|(dsimp only;omega)|decide) (by first|omega|(simp<;>omega)|(dsimp only;omega)|decide) y3 hy3) (A1.pick [0] rfl) ?_
 refine ip' 5 0 [(7,bv y3.1),(8,bv y3.2)] ?_
 refine ie (A8 (sr 1 rfl (ip' 1 0 [(28,bv y3.2)] ?_)))
 refine ie ?_
 refine zjb rfl hR ?_ ?_<;>clear hR<;>intro hR h8
 ·refine sr 9 rfl (ip' 1 8 [(30,.slice (va r6.q) (((([]:List UInt8)++pending1)++([b]:List UInt8)).length) r6.k)] ?_)
  have hQ:=D4 hR;clear hR;obtain ⟨y1,hy1,hR⟩:=hQ
  refine zca (B0o ((([]:List UInt8)++pending1)++([b]:List UInt8)) (va r6.q) r6.k (by first|omega|(simp<;>omega)|(dsimp only;omega)|decide) (by first|omega|(simp<;>omega)|(dsimp only;omega)|decide) y1 hy1) (A1.pick [0] rfl) ?_
  have:=A4z ((([]:List UInt8)++pending1)++([b]:List UInt8));try rw [hy1] at this
  refine ip' 7 0 [(9,iv y1.1)] ?_
  refine ie (sr 4 rfl (ip' 1 3 [(35,iv y1.1)] ?_))
  refine it rfl (B6 (c:=D9) (xs:=([y1.1]:List Int)) H4 rfl rfl rfl (by kernel_rfl)) fun b9=>?_
  have:([y1.1]:List Int).length=1:=rfl
  refine ip' 2 0 [(4,.slice none 0 0),(5,.slice (some ⟨b9,0,none⟩) 1 1)] ?_
  subst hR
  refine ie (A9 ?_)
  exact zer hr hD (A7i rfl (C0 rfl) (C0 rfl)) ((zq none 0),(zq (some ⟨b9,0,none⟩) 1)) (mk [] rfl) (A1.con1 A1o (A1.con1 (B0 0 rfl) fn0))
 refine A6 (nx (A8 (sr 1 rfl (ip' 1 0 [(37,bv y3.1)] ?_))))
 refine ie ?_
 refine zjb rfl hR ?_ ?_<;>clear hR<;>intro hR h10
 ·refine sr 3 rfl (ip' 3 0 [(4,.slice (va r6.q) (((([]:List UInt8)++pending1)++([b]:List UInt8)).length) r6.k),(5,.slice none 0 0)] ?_)
  subst hR
  refine ie (A9 ?_)
  exact zer hr hD (A7i rfl (C0 rfl) (C0 rfl)) ((zq (va r6.q) r6.k),(zq none 0)) (mk [] rfl) (A1.con1 (B0 0 rfl) (A1.con1 A1o fn0))
 refine A6 (nx (A8 (sr 3 rfl (ip' 3 0 [(41,bv (decide ((pending1.length:Int)=0)))] ?_))))
 refine ie ?_
 refine zjd rfl hR ?_ ?_<;>clear hR<;>intro hR h11 h11p
 ·refine sr 3 rfl (it rfl (B6 (c:=D9) (xs:=([65533]:List Int)) H4 rfl rfl rfl (by kernel_rfl)) fun b12=>?_)
  have:([65533]:List Int).length=1:=rfl
  refine ip' 2 0 [(4,.slice none 0 0),(5,.slice (some ⟨b12,0,none⟩) 1 1)] ?_
  subst hR
  refine ie (A9 ?_)
  exact zer hr hD (A7i rfl (C0 rfl) (C0 rfl)) ((zq none 0),(zq (some ⟨b12,0,none⟩) 1)) (mk [] rfl) (A1.con1 A1o (A1.con1 (B0 0 rfl) fn0))
 refine A6 (nx (sr 7 rfl (ip' 1 6 [(44,.int .u8 (b.toNat:Int))] ?_)))
 have hQ:=D4 hR;clear hR;obtain ⟨y4,hy4,hR⟩:=hQ
 refine zcm (C6c b (by first|omega|(simp<;>omega)) y4 hy4) fn0 fun ⟨⟨⟨q13,k14⟩,hp15⟩,⟨⟨q18,k19⟩,hp20⟩⟩=>?_
 obtain ⟨hc16,hl17⟩:=hp15
 obtain ⟨hc21,hl22⟩:=hp20
 have:=B3j b;try rw [hy4] at this
 refine ip' 5 0 [(12,.slice q13 y4.1.length k14),(13,.slice q18 y4.2.length k19)] ?_
 refine ie (sr 6 rfl (ip' 1 5 [(48,.slice q13 y4.1.length k14)] ?_))
 refine it rfl (B6 (c:=D9) (xs:=([65533]:List Int)) H4 rfl rfl rfl (by kernel_rfl)) fun b23=>?_
 have:([65533]:List Int).length=1:=rfl
 refine ip' 1 3 [(50,.slice q18 y4.2.length k19)] ?_
 refine it rfl (C1n (f:=D9) (xs:=([65533]:List Int)) (ys:=y4.2) B6e (fun _=>rfl) (fun _=>rfl) rfl rfl rfl rfl rfl rfl (by omega) (by omega) (by rfl) (B0 0 rfl) (B0 2 rfl) (by first|omega|(simp<;>omega)) (by first|omega|(simp<;>omega))) fun ⟨⟨q24,k25⟩,hq26⟩=>?_
 refine ip' 2 0 [(4,.slice q13 y4.1.length k14),(5,.slice q24 ((([65533]:List Int)++y4.2).length) k25)] ?_
 subst hR
 refine ie (A9 ?_)
 exact zer hr hD (A7i rfl (C0 rfl) (C0 rfl)) ((zq q13 k14),(zq q24 k25)) (mk [] rfl) (A1.con1 (B0 2 rfl) (A1.con1 (B0 0 rfl) fn0))
def A4i (pending:List UInt8):List Int :=
 (bif ((decide ((0:Int)<(pending.length:Int)))&&(S0 pending)) then ([65533]:List Int) else ([]:List Int))
theorem B2k (p:List UInt8):(A4i p).length≤1:=by
 unfold A4i
 cases ((decide ((0:Int)<(p.length:Int)))&&(S0 p))<;>simp
theorem C4n (pending:List UInt8) (pendingq:Option Addr) (pendingk:Nat) (hlpending:pending.length≤9223372036854775807) (hcpending:pending.length≤pendingk) (R:List Int) (hR:A4i pending=R):Con Tryz.prog 213 [.slice pendingq pending.length pendingk] [] [sl cU8 pendingq pending] ({t:Option Addr×Nat // R.length≤t.2∧R.length≤9223372036854775807}) (fun x=>.slice x.1.1 R.length x.1.2) (fun x=>[]) (fun x=>[sl D9 x.1.1 R]):=by
 refine zco Tryz.func213 [(0,.slice pendingq pending.length pendingk)] fun X hX hr hD=>?_
 replace hR:=(A4i.eq_1 ..).symm.trans hR
 refine sr 1 rfl (ip' 1 0 [] ?_)
 refine ie (A8 (sr 7 rfl (ip' 4 3 [(6,bv (decide ((0:Int)<(pending.length:Int))))] ?_)))
 refine zid 3 0 6 9 (S0 pending) (fun g1 g1p=>?_) ?_
 ·refine ip' 1 2 [(7,.slice pendingq pending.length pendingk)] ?_
  refine zca (B3t pending pendingq pendingk (by first|omega|(simp<;>omega)|(dsimp only;omega)|decide) (by first|omega|(simp<;>omega)|(dsimp only;omega)|decide) _ rfl) A1.refl ?_
  refine ip' 1 0 [(9,bv (S0 pending))] ?_
  exact zai 4 6 9 g1
 refine ie ?_
 refine zjb rfl hR ?_ ?_<;>clear hR<;>intro hR h2
 ·have h2p:=h2;try simp at h2p
  refine sr 2 rfl (it rfl (B6 (c:=D9) (xs:=([65533]:List Int)) H4 rfl rfl rfl (by kernel_rfl)) fun b3=>?_)
  have:([65533]:List Int).length=1:=rfl
  refine ip' 1 0 [(2,.slice (some ⟨b3,0,none⟩) 1 1)] ?_
  subst hR
  refine ie (A9 ?_)
  exact zer hr hD (M9 rfl (C0 rfl)) (zq (some ⟨b3,0,none⟩) 1) (mk [] rfl) (A1.con1 (B0 0 rfl) fn0)
 have h2p:=h2;try simp at h2p
 refine A6 (nx (sr 1 rfl (ip' 1 0 [(2,.slice none 0 0)] ?_)))
 subst hR
 refine ie (A9 ?_)
 exact zer hr hD (M9 rfl (C0 rfl)) (zq none 0) (mk [] rfl) (A1.con1 A1o fn0)
def P5:List UInt8→List Int→List UInt8→Nat→List Int
 | [],out,pending,i=>(C1 (A4i pending) fun (y14:List Int)=>(out++y14))
 | hd_l0::tl_l0,out,pending,i=>(C1 (Y5 pending hd_l0) fun (y9:List UInt8×List Int)=>P5 tl_l0 (out++y9.2) y9.1 (i+1))
def A1i (s:List UInt8):List Int :=
 P5 s ([]:List Int) ([]:List UInt8) 0
theorem A9f:∀ (xs:List UInt8) (out:List Int) (p:List UInt8) (i:Nat),(P5 xs out p i).length≤out.length+3 * xs.length+1
 | [],out,p,i=>by
  have:=B2k p
  simp only [P5,C1,List.length_append,List.length_nil];omega
 | x::xs,out,p,i=>by
  have:=B2i p x
  have:=A9f xs (out++(Y5 p x).2) (Y5 p x).1 (i+1)
  simp only [P5,C1,List.length_append,List.length_cons] at *;omega
theorem C0h (s:List UInt8):(A1i s).length≤3 * s.length+1:=by
 have:=A9f s [] [] 0
 simp only [List.length_nil] at this
 unfold A1i;omega
theorem C4k (s:List UInt8) (hs:s.length≤1000000) (R:List Int) (hR:A1i s=R):Con Tryz.prog 189 [sv s] [] [] ({r:VR // VOk 1 R.length r}) (fun x=>.slice (va x.1.q) R.length x.1.k) (fun x=>((vo D9 3 x.1 R)++([]))) (fun x=>[]):=by
 refine zco Tryz.func189 [(0,sv s)] fun X hX hr hD=>?_
 replace hR:=(A1i.eq_1 ..).symm.trans hR
 refine sr 1 rfl (ip' 1 0 [] ?_)
 refine ie (sr 1 rfl (ip' 1 0 [(3,.slice none 0 0)] ?_))
 refine ie (sr 1 rfl (ip' 1 0 [(4,.slice none 0 0)] ?_))
 refine ie (A8 (sr 1 rfl (ip' 1 0 [(5,iv 0)] ?_)))
 refine ie (B3 ?_)
 refine E4z (fun (out:List Int) (outr:VR) (pending:List UInt8) (pendingq:Option Addr) (pendingk:Nat) (i:Nat)=>(i≤s.length∧P5 (s.drop i) out pending i=R∧VOk 1 out.length outr∧pending.length≤pendingk∧pending.length≤9223372036854775807∧pending.length≤4∧out.length≤3 * i,[(0,sv s),(3,.slice (va outr.q) out.length outr.k),(4,.slice pendingq pending.length pendingk),(5,iv (i:Int))],((vo D9 3 outr out)++([])),[sl cU8 pendingq pending],s.length - i)) ([]:List Int) VR.nil ([]:List UInt8) none 0 0 ⟨(by omega),hR,VOk.nil,(by first|omega|(simp<;>omega)|(dsimp only;omega)|decide),(by first|omega|(simp<;>omega)|(dsimp only;omega)|decide),(by simp),(by simp)⟩ (mc [vo D9 3 VR.nil ([]:List Int)] [true] rfl (by first|rfl|(simp only [List.length_set]<;>rfl))) (A1.con1 A1o fn0) ?_
 rintro out outr pending pendingq pendingk i ⟨hm1,hR,hokoutr,hcpending,hlpending,hpl,hol⟩
 have:=VOk.le hokoutr
 refine A8 (sr 4 rfl (ip' 4 0 [(11,bv (decide ((i:Int)<(s.length:Int))))] ?_))
 refine ie (A1r rfl (fun h2=>?_) (fun h2=>?_))
 ·have h2p:(i:Int)<(s.length:Int):=by simpa using h2
  rw [A4m 0 (show i<s.length by omega)] at hR;replace hR:=(P5.eq_2 ..).symm.trans hR
  refine A6 (nx (A8 (B3 (sr 10 rfl (ip' 3 7 [(15,.slice pendingq pending.length pendingk),(16,sv s),(17,iv (i:Int))] ?_)))))
  refine ix rfl (A9g (T:=9) Tryz.underlying9 rfl rfl rfl i rfl (by omega)) ?_
  have hQ:=D4 hR;clear hR;obtain ⟨y9,hy9,hR⟩:=hQ
  refine zcm (C4f pending (s.getD i 0) pendingq pendingk (by first|omega|(simp<;>omega)|(dsimp only;omega)|decide) (by first|omega|(simp<;>omega)|(dsimp only;omega)|decide) (by first|omega|(simp<;>omega)) y9 hy9) A1.refl fun ⟨⟨⟨q3,k4⟩,hp5⟩,⟨⟨q8,k9⟩,hp10⟩⟩=>?_
  obtain ⟨hc6,hl7⟩:=hp5
  obtain ⟨hc11,hl12⟩:=hp10
  have:=B2i pending (s.getD i 0);try rw [hy9] at this
  refine ip' 5 0 [(6,.slice q3 y9.1.length k4),(7,.slice q8 y9.2.length k9)] ?_
  refine ie (sr 2 rfl (ip' 2 0 [(4,.slice q3 y9.1.length k4)] ?_))
  refine ie (A2 4 rfl (ip' 2 2 [(23,.slice (va outr.q) out.length outr.k),(24,.slice q8 y9.2.length k9)] ?_))
  refine it rfl (B2w (f:=D9) (r:=outr) (xs:=out) (ys:=y9.2) (pre:=[]) (post:=[]) B6e (fun _=>rfl) (fun _=>rfl) rfl rfl rfl rfl rfl rfl rfl rfl (B0 1 rfl) hokoutr (by first|omega|(simp<;>omega)) (by first|omega|(simp<;>omega))) fun ⟨r13,hr14⟩=>?_
  have:=@List.length_append _ out y9.2
  have:=VOk.le hr14
  have:=VOk.cap hr14
  refine ip' 1 0 [(3,.slice (va r13.q) ((out++y9.2).length) r13.k)] ?_
  refine A3 (nx (A2 3 rfl (ip' 1 2 [(12,iv (i:Int))] ?_)))
  refine ix rfl (B5 rfl rfl rfl rfl (by omega)) ?_
  refine ip' 1 0 [(5,iv ((i:Int)+1))] ?_
  refine A3 ?_
  exact E4w (z1:=out) (z2:=outr) (z3:=pending) (z4:=pendingq) (z5:=pendingk) (z6:=i) (out++y9.2) r13 y9.1 q3 k4 (i+1) ⟨(by omega),hR,hr14,(by first|omega|(simp<;>omega)|(dsimp only;omega)|decide),(by first|omega|(simp<;>omega)|(dsimp only;omega)|decide),(by omega),(by first|omega|(simp<;>omega))⟩ (by (try dsimp only);omega) (mc [vo D9 3 r13 (out++y9.2)] [true] rfl (by first|rfl|(simp only [List.length_set]<;>rfl))) (A1.pick [0] rfl)
 have h2p:¬ ((i:Int)<(s.length:Int)):=by simpa using h2
 rw [A4n h2p] at hR;replace hR:=(P5.eq_1 ..).symm.trans hR
 refine I1 (nx (sr 5 rfl (ip' 2 3 [(26,.slice (va outr.q) out.length outr.k),(27,.slice pendingq pending.length pendingk)] ?_)))
 have hQ:=D4 hR;clear hR;obtain ⟨y14,hy14,hR⟩:=hQ
 refine zcm (C4n pending pendingq pendingk (by first|omega|(simp<;>omega)|(dsimp only;omega)|decide) (by first|omega|(simp<;>omega)|(dsimp only;omega)|decide) y14 hy14) A1.refl fun ⟨⟨q15,k16⟩,hp17⟩=>?_
 obtain ⟨hc18,hl19⟩:=hp17
 have:=B2k pending;try rw [hy14] at this
 refine it rfl (B2w (f:=D9) (r:=outr) (xs:=out) (ys:=y14) (pre:=[]) (post:=[]) B6e (fun _=>rfl) (fun _=>rfl) rfl rfl rfl rfl rfl rfl rfl rfl (B0 0 rfl) hokoutr (by first|omega|(simp<;>omega)) (by first|omega|(simp<;>omega))) fun ⟨r20,hr21⟩=>?_
 have:=@List.length_append _ out y14
 have:=VOk.le hr21
 have:=VOk.cap hr21
 refine ip' 1 0 [(2,.slice (va r20.q) ((out++y14).length) r20.k)] ?_
 subst hR
 refine ie (A9 ?_)
 exact zer hr hD (M9 rfl (C0 rfl)) ⟨r20,hr21⟩ (mc [vo D9 3 r20 (out++y14)] [true] rfl (by first|rfl|(simp only [List.length_set]<;>rfl))) fn0
def P4 (cp:Int):Bool :=
 (((decide ((0:Int)≤cp))&&(decide (cp≤1114111)))&&((decide (cp<55296))||(decide ((57343:Int)<cp))))
theorem B5a (cp:Int) (R:Bool) (hR:P4 cp=R):I6 Tryz.prog 140 [iv cp] [] (bv R):=by
 refine zco Tryz.func140 [(0,iv cp)] fun X hX hr hD=>?_
 replace hR:=(P4.eq_1 ..).symm.trans hR
 refine sr 1 rfl (ip' 1 0 [] ?_)
 refine ie (sr 15 rfl (ip' 3 12 [(5,bv (decide ((0:Int)≤cp)))] ?_))
 refine zid 3 9 5 8 (decide (cp≤1114111)) (fun g1 g1p=>?_) ?_
 ·refine ip' 3 0 [(8,bv (decide (cp≤1114111)))] ?_
  exact A3 (L3 2 5 8 g1 fn0 (mk [] rfl) rfl rfl rfl rfl rfl)
 refine ip' 1 8 [(9,bv ((decide ((0:Int)≤cp))&&(decide (cp≤1114111))))] ?_
 refine zia 7 1 9 16 ((decide (cp<55296))||(decide ((57343:Int)<cp))) (fun g2=>?_) ?_
 ·have g2p:((0:Int)≤cp)∧(cp≤1114111):=by simpa using g2
  refine ip' 3 4 [(12,bv (decide (cp<55296)))] ?_
  refine zir 3 1 12 15 (decide ((57343:Int)<cp)) (fun g3 g3p=>?_) ?_
  ·refine ip' 3 0 [(15,bv (decide ((57343:Int)<cp)))] ?_
   exact A3 (L3 2 12 15 g3 fn0 (mk [] rfl) rfl rfl rfl rfl rfl)
  refine ip' 1 0 [(16,bv ((decide (cp<55296))||(decide ((57343:Int)<cp))))] ?_
  exact A3 (L3 4 9 16 g2 fn0 (mk [] rfl) rfl rfl rfl rfl rfl)
 refine ip' 1 0 [(2,bv (((decide ((0:Int)≤cp))&&(decide (cp≤1114111)))&&((decide (cp<55296))||(decide ((57343:Int)<cp)))))] ?_
 subst hR
 refine ie (A9 ?_)
 exact F1 hr hD
def D0 (cp:Int):Int :=
 (bif (decide (cp<128)) then 1 else (bif (decide (cp<2048)) then 2 else (bif (decide (cp<65536)) then 3 else 4)))
theorem B0p (cp:Int):1≤D0 cp∧D0 cp≤4:=by
 unfold D0
 cases decide (cp<128)<;>cases decide (cp<2048)<;>cases decide (cp<65536)<;>simp
theorem C7t (cp:Int) (R:Int) (hR:D0 cp=R):I6 Tryz.prog 141 [iv cp] [] (iv R):=by
 refine zco Tryz.func141 [(0,iv cp)] fun X hX hr hD=>?_
 replace hR:=(D0.eq_1 ..).symm.trans hR
 refine sr 1 rfl (ip' 1 0 [] ?_)
 refine ie (A8 (sr 2 rfl (ip' 2 0 [(4,bv (decide (cp<128)))] ?_)))
 refine ie ?_
 refine zjd rfl hR ?_ ?_<;>clear hR<;>intro hR h1 h1p
 ·refine sr 1 rfl (ip' 1 0 [(2,iv 1)] ?_)
  subst hR
  refine ie (A9 ?_)
  exact F1 hr hD
 refine A6 (nx (A8 (sr 2 rfl (ip' 2 0 [(6,bv (decide (cp<2048)))] ?_))))
 refine ie ?_
 refine zjd rfl hR ?_ ?_<;>clear hR<;>intro hR h2 h2p
 ·refine sr 1 rfl (ip' 1 0 [(2,iv 2)] ?_)
  subst hR
  refine ie (A9 ?_)
  exact F1 hr hD
 refine A6 (nx (A8 (sr 2 rfl (ip' 2 0 [(8,bv (decide (cp<65536)))] ?_))))
 refine ie ?_
 refine zjd rfl hR ?_ ?_<;>clear hR<;>intro hR h3 h3p
 ·refine sr 1 rfl (ip' 1 0 [(2,iv 3)] ?_)
  subst hR
  refine ie (A9 ?_)
  exact F1 hr hD
 refine A6 (nx (sr 1 rfl (ip' 1 0 [(2,iv 4)] ?_)))
 subst hR
 refine ie (A9 ?_)
 exact F1 hr hD
def N4 (cp1:Int):Nat→Int→List UInt8→Int→List UInt8
 | 0,_,_,_=>[]
 | fu1+1,cp2,b,i=>(bif (decide ((0:Int)<i)) then N4 cp1 fu1 (IntKind.i64.wrap (Int.tdiv cp2 64)) (b.set ((i).toNat) (by8 (IntKind.u8.wrap (128+(Int.tmod cp2 64))))) (i - 1) else (b.set 0 (by8 (IntKind.u8.wrap ((([0,0,192,224,240]:List Int).getD ((D0 cp1).toNat) 0)+cp2)))))
def A0j (cp1:Int):List UInt8 :=
 (bif (decide ((D0 cp1)=1)) then ([(by8 (IntKind.u8.wrap cp1))]:List UInt8) else N4 cp1 ((((D0 cp1) - 1) - (0:Int)).toNat+1) cp1 (List.replicate ((D0 cp1).toNat) (0:UInt8)) ((D0 cp1) - 1))
def A4o (cp:Int):List UInt8 :=
 (bif (!(P4 cp)) then A0j 65533 else A0j cp)
theorem B1k (c:Int):∀ (fu:Nat) (x:Int) (b:List UInt8) (i:Int),b.length≤4→(N4 c fu x b i).length≤4
 | 0,x,b,i,h=>by simp [N4]
 | fu+1,x,b,i,h=>by
  simp only [N4]
  cases (decide ((0:Int)<i)) with
  | true=>rw [cond_true];exact B1k c fu _ _ _ (by rw [List.length_set];exact h)
  | false=>rw [cond_false,List.length_set];exact h
theorem B8c (c:Int):(A0j c).length≤4:=by
 have:=B0p c
 unfold A0j
 cases (decide ((D0 c)=1)) with
 | true=>simp
 | false=>rw [cond_false];exact B1k c _ _ _ _ (by rw [List.length_replicate];omega)
theorem C4t (c:Int):(A4o c).length≤4:=by
 unfold A4o
 cases (!(P4 c))<;>simp only [cond_true,cond_false]<;>exact B8c _
theorem C9q (cp:Int) (R:List UInt8) (hR:A4o cp=R):I6 Tryz.prog 95 [iv cp] [] (sv R):=by
 refine zco Tryz.func95 [(0,iv cp)] fun X hX hr hD=>?_
 replace hR:=(A4o.eq_1 ..).symm.trans hR
 refine sr 1 rfl (ip' 1 0 [] ?_)
 refine ie (B7n (fun (cp1:Int)=>(A0j cp1=R∧cp1≤1114111∧0≤cp1,[(0,iv cp1)],[],[])) ?_ ?_)
 ·refine sr 3 rfl (ip' 1 2 [(7,iv cp)] ?_)
  refine zca (B5a cp _ rfl) fn0 ?_
  refine ip' 1 0 [(9,bv (!(P4 cp)))] ?_
  refine ie ?_
  refine zjb rfl hR ?_ ?_<;>clear hR<;>intro hR h1
  ·refine A2 1 rfl (ip' 1 0 [(0,iv 65533)] ?_)
   refine A3 ?_
   exact V5 65533 ⟨hR,(by omega)⟩ (mk [] rfl) fn0
  have hck:0≤cp∧cp≤1114111:=by have q:=h1;simp [P4] at q;omega
  refine A6 ?_
  exact V5 cp ⟨hR,(by omega)⟩ (mk [] rfl) fn0
 intro cp1
 rintro ⟨hR,hcp⟩
 replace hR:=(A0j.eq_1 ..).symm.trans hR
 refine sr 3 rfl (ip' 1 2 [(10,iv cp1)] ?_)
 refine zca (C7t cp1 _ rfl) fn0 ?_
 have:=B0p cp1
 refine ip' 1 0 [(3,iv (D0 cp1))] ?_
 refine ie (A8 (sr 2 rfl (ip' 2 0 [(13,bv (decide ((D0 cp1)=1)))] ?_)))
 refine ie ?_
 refine zjd rfl hR ?_ ?_<;>clear hR<;>intro hR h2 h2p
 ·refine sr 5 rfl (ip' 1 4 [(14,iv cp1)] ?_)
  refine ix rfl (J0 (v:=.int .u8 (IntKind.u8.wrap cp1)) (G8.pure rfl) (A6g)) ?_
  refine it rfl (B6 (c:=cU8) (xs:=([(by8 (IntKind.u8.wrap cp1))]:List UInt8)) A0n rfl rfl rfl (by kernel_rfl)) fun b3=>?_
  have:([(by8 (IntKind.u8.wrap cp1))]:List UInt8).length=1:=rfl
  refine ix rfl (A3d Tryz.underlying9 Tryz.underlying30 rfl rfl (B0 0 rfl) rfl (by kernel_rfl)) ?_
  have:([(by8 (IntKind.u8.wrap cp1))]:List UInt8).length=1:=rfl
  refine ip' 1 0 [(2,sv ([(by8 (IntKind.u8.wrap cp1))]:List UInt8))] ?_
  subst hR
  refine ie (A9 ?_)
  exact F1 hr hD
 have hsz:=B0p cp1
 refine A6 (nx (sr 3 rfl (ip' 1 2 [(18,iv (D0 cp1))] ?_)))
 refine it rfl (D6y (f:=cU8) (l:=(D0 cp1).toNat) (c:=(D0 cp1).toNat) 0 B2m E4b.ok (fun _=>rfl) rfl (by exact congrArg (fun z=>some (Value.int .i64 z)) (show (D0 cp1)=(((D0 cp1).toNat:Nat):Int) by omega)) (by exact congrArg (fun z=>some (Value.int .i64 z)) (show (D0 cp1)=(((D0 cp1).toNat:Nat):Int) by omega)) (by omega) (by first|omega|(simp<;>omega)) (by omega)) fun ⟨r4,hr5⟩=>?_
 have:=VOk.le hr5
 have:=VOk.cap hr5
 refine ip' 1 0 [(4,.slice (va r4.q) ((List.replicate ((D0 cp1).toNat) (0:UInt8)).length) r4.k)] ?_
 refine ie (A8 (sr 3 rfl (ip' 1 2 [(20,iv (D0 cp1))] ?_)))
 refine ix rfl (M6 rfl rfl rfl rfl (by omega)) ?_
 refine ip' 1 0 [(5,iv ((D0 cp1) - 1))] ?_
 refine ie (B3 ?_)
 refine E3l (fun (fu:Nat) (cp2:Int) (b:List UInt8) (br:VR) (i:Int)=>((i - (0:Int)).toNat<fu∧N4 cp1 fu cp2 b i=R∧VOk 1 b.length br∧(0≤cp2∧cp2≤1114111)∧(b.length:Int)=D0 cp1∧0≤i∧i<D0 cp1,[(0,iv cp2),(3,iv (D0 cp1)),(4,.slice (va br.q) b.length br.k),(5,iv i)],((vo cU8 5 br b)++([])),[],fu)) ((((D0 cp1) - 1) - (0:Int)).toNat+1) cp1 (List.replicate ((D0 cp1).toNat) (0:UInt8)) r4 ((D0 cp1) - 1) ⟨(Nat.lt_succ_self _),hR,hr5,(by omega),(by first|omega|(simp<;>omega)),(by omega)⟩ (mc [vo cU8 5 r4 (List.replicate ((D0 cp1).toNat) (0:UInt8))] [true] rfl (by first|rfl|(simp only [List.length_set]<;>rfl))) fn0 ?_
 rintro fu cp2 b br i ⟨hm6,hR,hokbr,hcr,hbl,hi0⟩
 have:=VOk.le hokbr
 obtain ⟨fu1,rfl⟩:∃ m,fu=m+1:=⟨fu - 1,by omega⟩
 replace hR:=(N4.eq_2 ..).symm.trans hR
 have htd:=Int.tdiv_eq_ediv_of_nonneg (a:=cp2) (b:=64) hcr.1
 have htm:=Int.tmod_eq_emod_of_nonneg (a:=cp2) (b:=64) hcr.1
 have hmk:0≤([0,0,192,224,240]:List Int).getD ((D0 cp1).toNat) 0∧([0,0,192,224,240]:List Int).getD ((D0 cp1).toNat) 0≤240:=by generalize (D0 cp1).toNat=k;rcases k with _ | _ | _ | _ | _ | k<;>simp
 refine A8 (sr 2 rfl (ip' 2 0 [(23,bv (decide ((0:Int)<i)))] ?_))
 refine ie ?_
 refine zjd rfl hR ?_ ?_<;>clear hR<;>intro hR h7 h7p
 ·refine A6 (nx (A8 (B3 (sr 8 rfl (ip' 3 5 [(26,.slice (va br.q) b.length br.k),(27,iv i),(28,iv cp2)] ?_)))))
  refine ix rfl (B2c rfl rfl rfl (by decide) rfl) ?_
  refine ix rfl (B5 rfl rfl rfl rfl (by omega)) ?_
  refine ix rfl (J0 (v:=.int .u8 (IntKind.u8.wrap (128+(Int.tmod cp2 64)))) (G8.pure rfl) (A6g)) ?_
  obtain ⟨b8,hb9⟩:=VOk.some hokbr (by omega)
  obtain ⟨q10,k11,j12⟩:=br
  obtain rfl:q10=some b8:=hb9
  refine ix rfl (A8g A0n rfl rfl rfl ((i).toNat) (by omega) (by omega)) ?_
  refine it rfl (B5e (us:=[.int .u8 ((by8 (IntKind.u8.wrap (128+(Int.tmod cp2 64)))).toNat:Int)]) (u':=(by8 (IntKind.u8.wrap (128+(Int.tmod cp2 64))))) (c:=cU8) (sz:=1) ty5 (fun _=>rfl) rfl rfl rfl 0 rfl rfl rfl rfl ((i).toNat) 0 rfl (gd 0 (by omega)) rfl rfl) fun _=>?_
  refine ie (A2 3 rfl (ip' 1 2 [(33,iv cp2)] ?_))
  refine ix rfl (B6t rfl rfl rfl (by decide)) ?_
  refine ip' 1 0 [(0,iv (IntKind.i64.wrap (Int.tdiv cp2 64)))] ?_
  refine A3 (nx (A2 3 rfl (ip' 1 2 [(24,iv i)] ?_)))
  refine ix rfl (M6 rfl rfl rfl rfl (by omega)) ?_
  refine ip' 1 0 [(5,iv (i - 1))] ?_
  refine A3 ?_
  exact E3z (z1:=(fu1+1)) (z2:=cp2) (z3:=b) (z4:=(⟨some b8,k11,j12⟩:VR)) (z5:=i) fu1 (IntKind.i64.wrap (Int.tdiv cp2 64)) (b.set ((i).toNat) (by8 (IntKind.u8.wrap (128+(Int.tmod cp2 64))))) (⟨some b8,k11,j12⟩:VR) (i - 1) ⟨(by omega),hR,(VOk.cast hokbr (by simp)),(by rw [htd,show IntKind.i64.wrap (cp2 / 64)=cp2 / 64 from O4 (by simp [IntKind.min,IntKind.signed,IntKind.bits];omega) (by simp [IntKind.max,IntKind.signed,IntKind.bits];omega)];omega),(by first|omega|(simp<;>omega)),(by omega)⟩ (Nat.lt_succ_self _) (mc [vo cU8 5 (⟨some b8,k11,j12⟩:VR) (b.set ((i).toNat) (by8 (IntKind.u8.wrap (128+(Int.tmod cp2 64)))))] [true] rfl (by first|rfl|(simp only [List.length_set]<;>rfl))) fn0
 refine I1 (nx (sr 3 rfl (P0 3 0 [0] (fun b13=>[(6,pt b13 0)]) (fun b13=>(bx b13 [iv 0,iv 0,iv 192,iv 224,iv 240] 85::(vo cU8 5 br b)++([]))) (fun b13=>?_))))
 refine ie (sr 9 rfl (ip' 2 7 [(36,.slice (va br.q) b.length br.k),(37,iv (D0 cp1))] ?_))
 refine ix rfl (U9 Tryz.underlying85 ty3 rfl rfl rfl ((D0 cp1).toNat) (by omega) (by omega)) ?_
 refine ix rfl (N2 (u:=iv (([0,0,192,224,240]:List Int).getD ((D0 cp1).toNat) 0)) (c:=D9) (xs:=([0,0,192,224,240]:List Int)) (j:=[]) (sz:=1) ty3 (fun _=>rfl) rfl rfl 0 rfl ((D0 cp1).toNat) 0 rfl (gd 0 (by simp only [List.length_cons,List.length_nil];omega)) rfl) ?_
 refine ip' 1 4 [(40,iv cp2)] ?_
 refine ix rfl (B5 rfl rfl rfl rfl (by omega)) ?_
 refine ix rfl (J0 (v:=.int .u8 (IntKind.u8.wrap ((([0,0,192,224,240]:List Int).getD ((D0 cp1).toNat) 0)+cp2))) (G8.pure rfl) (A6g)) ?_
 obtain ⟨b14,hb15⟩:=VOk.some hokbr (by omega)
 obtain ⟨q16,k17,j18⟩:=br
 obtain rfl:q16=some b14:=hb15
 refine ix rfl (A8g A0n rfl rfl rfl 0 rfl (by omega)) ?_
 refine it rfl (B5e (us:=[.int .u8 ((by8 (IntKind.u8.wrap ((([0,0,192,224,240]:List Int).getD ((D0 cp1).toNat) 0)+cp2))).toNat:Int)]) (u':=(by8 (IntKind.u8.wrap ((([0,0,192,224,240]:List Int).getD ((D0 cp1).toNat) 0)+cp2)))) (c:=cU8) (sz:=1) ty5 (fun _=>rfl) rfl rfl rfl 1 rfl rfl rfl rfl 0 0 rfl (gd 0 (by omega)) rfl rfl) fun _=>?_
 refine ie (sr 3 rfl (ip' 1 2 [(44,.slice (va (⟨some b14,k17,j18⟩:VR).q) b.length ((⟨some b14,k17,j18⟩:VR).k))] ?_))
 refine ix rfl (B9u (r:=(⟨some b14,k17,j18⟩:VR)) (pre:=[bx b13 [iv 0,iv 0,iv 192,iv 224,iv 240] 85]) (post:=[]) (s:=(b.set 0 (by8 (IntKind.u8.wrap ((([0,0,192,224,240]:List Int).getD ((D0 cp1).toNat) 0)+cp2))))) Tryz.underlying9 Tryz.underlying30 rfl (by first|rfl|(rw [List.length_set];rfl)) rfl (VOk.cast hokbr (by simp)) (by kernel_rfl)) ?_
 refine ip' 1 0 [(2,sv (b.set 0 (by8 (IntKind.u8.wrap ((([0,0,192,224,240]:List Int).getD ((D0 cp1).toNat) 0)+cp2)))))] ?_
 subst hR
 refine ie (A9 ?_)
 exact F1 hr hD
def A0u:List Int→List UInt8→Nat→List UInt8
 | [],s,i=>s
 | hd_l0::tl_l0,s,i=>(C1 (A4o hd_l0) fun (y13:List UInt8)=>A0u tl_l0 (s++y13) (i+1))
def A6d (codes:List Int):List UInt8 :=
 A0u codes ([]:List UInt8) 0
theorem C7b (codes:List Int) (codesq:Option Addr) (codesk:Nat) (hlcodes:codes.length≤9223372036854775807) (hccodes:codes.length≤codesk) (hcl:codes.length≤1000000) (R:List UInt8) (hR:A6d codes=R):I6 Tryz.prog 190 [.slice codesq codes.length codesk] [sl D9 codesq codes] (sv R):=by
 refine zco Tryz.func190 [(0,.slice codesq codes.length codesk)] fun X hX hr hD=>?_
 replace hR:=(A6d.eq_1 ..).symm.trans hR
 refine sr 1 rfl (ip' 1 0 [] ?_)
 refine ie (sr 1 rfl (ip' 1 0 [(3,sv ([]:List UInt8))] ?_))
 refine ie (A8 (sr 1 rfl (ip' 1 0 [(4,iv 0)] ?_)))
 refine ie (B3 (D2c (fun (s:List UInt8) (i:Nat)=>(i≤codes.length∧A0u (codes.drop i) s i=R∧s.length≤4 * i,[(0,.slice codesq codes.length codesk),(3,sv s),(4,iv (i:Int))],[],[sl D9 codesq codes],codes.length - i)) ([]:List UInt8) 0 ⟨(by omega),hR,(by simp)⟩ (mk [] rfl) A1.refl ?_))
 rintro s i ⟨hm1,hR,hsl⟩
 refine A8 (sr 4 rfl (ip' 4 0 [(8,bv (decide ((i:Int)<(codes.length:Int))))] ?_))
 refine ie (A1r rfl (fun h2=>?_) (fun h2=>?_))
 ·have h2p:(i:Int)<(codes.length:Int):=by simpa using h2
  rw [A4m 0 (show i<codes.length by omega)] at hR;replace hR:=(A0u.eq_2 ..).symm.trans hR
  refine A6 (nx (A8 (B3 (A2 8 rfl (ip' 3 5 [(11,sv s),(12,.slice codesq codes.length codesk),(13,iv (i:Int))] ?_)))))
  refine O8 0 rfl (by omega) fun a3 hq4=>?_
  refine ix rfl (L8 H4 rfl rfl hq4 rfl i rfl (by omega)) ?_
  refine ix rfl (F2 (v:=iv (codes.getD i 0)) (us:=[iv (codes.getD i 0)]) ty3 rfl rfl (N7 (c:=D9) (sz:=1) hq4 (fun _=>rfl) 0 rfl (gd 0 (by omega))) rfl) ?_
  have hQ:=D4 hR;clear hR;obtain ⟨y13,hy13,hR⟩:=hQ
  refine zca (C9q (codes.getD i 0) y13 hy13) fn0 ?_
  have:=C4t (codes.getD i 0);try rw [hy13] at this
  refine ix rfl (zst rfl rfl rfl) ?_
  have:=@List.length_append _ s y13
  refine ip' 1 0 [(3,sv (s++y13))] ?_
  refine A3 (nx (A2 3 rfl (ip' 1 2 [(9,iv (i:Int))] ?_)))
  refine ix rfl (B5 rfl rfl rfl rfl (by omega)) ?_
  refine ip' 1 0 [(4,iv ((i:Int)+1))] ?_
  refine A3 ?_
  exact D2j (z1:=s) (z2:=i) (s++y13) (i+1) ⟨(by omega),hR,(by first|omega|(simp<;>omega))⟩ (by (try dsimp only);omega) (mk [] rfl) A1.refl
 have h2p:¬ ((i:Int)<(codes.length:Int)):=by simpa using h2
 rw [A4n h2p] at hR;replace hR:=(A0u.eq_1 ..).symm.trans hR
 refine I1 (nx (sr 2 rfl (ip' 2 0 [(2,sv s)] ?_)))
 subst hR
 refine ie (A9 ?_)
 exact F1 hr hD
def A1c (s:List UInt8):Nat→List Int→Nat→Bool
 | 0,_,_=>false
 | fu1+1,l,i=>(bif (decide ((i:Int)<(l.length:Int))) then (bif ((decide ((l.getD i 0)<32))||((decide ((127:Int)≤(l.getD i 0)))&&(decide ((l.getD i 0)≤159)))) then false else A1c s fu1 l (i+1)) else (C1 (A6d l) fun (y20:List UInt8)=>(decide (y20=s))))
def U7 (s:List UInt8):Bool :=
 (bif (decide ((510:Int)<(s.length:Int))) then false else (C1 (A1i s) fun (y11:List Int)=>A1c s ((y11.length - 0)+1) y11 0))
theorem C1k (s:List UInt8) (h:U7 s=true):s.length≤510:=by
 unfold U7 at h
 by_cases e:(510:Int)<(s.length:Int)
 ·rw [decide_eq_true e] at h;simp at h
 ·omega
theorem C4a (s:List UInt8) (R:Bool) (hR:U7 s=R):I6 Tryz.prog 131 [sv s] [] (bv R):=by
 refine zco Tryz.func131 [(0,sv s)] fun X hX hr hD=>?_
 replace hR:=(U7.eq_1 ..).symm.trans hR
 refine sr 1 rfl (ip' 1 0 [] ?_)
 refine ie (A8 (sr 3 rfl (ip' 3 0 [(7,bv (decide ((510:Int)<(s.length:Int))))] ?_)))
 refine ie ?_
 refine zjd rfl hR ?_ ?_<;>clear hR<;>intro hR h1 h1p
 ·refine sr 1 rfl (ip' 1 0 [(2,bv false)] ?_)
  subst hR
  refine ie (A9 ?_)
  exact F1 hr hD
 refine A6 (nx (sr 3 rfl (ip' 1 2 [(8,sv s)] ?_)))
 have hQ:=D4 hR;clear hR;obtain ⟨y11,hy11,hR⟩:=hQ
 refine it rfl (C2 (L2:=[]) (C4k s (by first|omega|(simp<;>omega)) y11 hy11) rfl rfl rfl rfl rfl fn0 (List.Perm.refl _) (fun ⟨r2,hk3⟩=>((vo D9 3 r2 y11)++([]))) (fun _=>by first|rfl|simp only [List.append_nil,List.cons_append,List.nil_append,List.append_assoc])) fun ⟨r2,hk3⟩=>?_
 have:=VOk.le hk3
 have:=VOk.cap hk3
 have:=C0h s;try rw [hy11] at this
 refine ip' 1 0 [(3,.slice (va r2.q) y11.length r2.k)] ?_
 refine ie (A8 (sr 1 rfl (ip' 1 0 [(4,iv 0)] ?_)))
 refine ie (B3 ?_)
 refine C0r (fun (fu:Nat) (l:List Int) (lr:VR) (i:Nat)=>((l.length - i)<fu∧A1c s fu l i=R∧VOk 1 l.length lr∧l.length≤10000,[(0,sv s),(3,.slice (va lr.q) l.length lr.k),(4,iv (i:Int))],((vo D9 3 lr l)++([])),[],fu)) ((y11.length - 0)+1) y11 r2 0 ⟨(Nat.lt_succ_self _),hR,hk3,(by omega)⟩ (mc [vo D9 3 r2 y11] [true] rfl (by first|rfl|(simp only [List.length_set]<;>rfl))) fn0 ?_
 rintro fu l lr i ⟨hm4,hR,hoklr,hll⟩
 have:=VOk.le hoklr
 obtain ⟨fu1,rfl⟩:∃ m,fu=m+1:=⟨fu - 1,by omega⟩
 replace hR:=(A1c.eq_2 ..).symm.trans hR
 refine A8 (sr 4 rfl (ip' 4 0 [(13,bv (decide ((i:Int)<(l.length:Int))))] ?_))
 refine ie ?_
 refine zjd rfl hR ?_ ?_<;>clear hR<;>intro hR h5 h5p
 ·refine A6 (nx (A8 (B3 (sr 19 rfl (ip' 2 17 [(16,.slice (va lr.q) l.length lr.k),(17,iv (i:Int))] ?_)))))
  obtain ⟨b6,hb7⟩:=VOk.some hoklr (by omega)
  obtain ⟨q8,k9,j10⟩:=lr
  obtain rfl:q8=some b6:=hb7
  refine ix rfl (A8g H4 rfl rfl rfl i rfl (by omega)) ?_
  refine ix rfl (N2 (u:=iv (l.getD i 0)) (c:=D9) (sz:=1) ty3 (fun _=>rfl) rfl rfl 0 rfl i 0 rfl (gd 0 (by omega)) rfl) ?_
  refine ip' 2 13 [(21,bv (decide ((l.getD i 0)<32)))] ?_
  refine zir 13 0 21 34 ((decide ((127:Int)≤(l.getD i 0)))&&(decide ((l.getD i 0)≤159))) (fun g11 g11p=>?_) ?_
  ·refine ip' 2 11 [(22,.slice (va (⟨some b6,k9,j10⟩:VR).q) l.length ((⟨some b6,k9,j10⟩:VR).k)),(23,iv (i:Int))] ?_
   refine ix rfl (A8g H4 rfl rfl rfl i rfl (by omega)) ?_
   refine ix rfl (N2 (u:=iv (l.getD i 0)) (c:=D9) (sz:=1) ty3 (fun _=>rfl) rfl rfl 0 rfl i 0 rfl (gd 0 (by omega)) rfl) ?_
   refine ip' 2 7 [(27,bv (decide ((127:Int)≤(l.getD i 0))))] ?_
   refine zid 6 1 27 33 (decide ((l.getD i 0)≤159)) (fun g12 g12p=>?_) ?_
   ·refine ip' 2 4 [(28,.slice (va (⟨some b6,k9,j10⟩:VR).q) l.length ((⟨some b6,k9,j10⟩:VR).k)),(29,iv (i:Int))] ?_
    refine ix rfl (A8g H4 rfl rfl rfl i rfl (by omega)) ?_
    refine ix rfl (N2 (u:=iv (l.getD i 0)) (c:=D9) (sz:=1) ty3 (fun _=>rfl) rfl rfl 0 rfl i 0 rfl (gd 0 (by omega)) rfl) ?_
    refine ip' 2 0 [(33,bv (decide ((l.getD i 0)≤159)))] ?_
    exact A3 (L3 6 27 33 g12 fn0 (mc [vo D9 3 (⟨some b6,k9,j10⟩:VR) l] [true] rfl (by first|rfl|(simp only [List.length_set]<;>rfl))) rfl rfl rfl rfl rfl)
   refine ip' 1 0 [(34,bv ((decide ((127:Int)≤(l.getD i 0)))&&(decide ((l.getD i 0)≤159))))] ?_
   exact A3 (L3 8 21 34 g11 fn0 (mc [vo D9 3 (⟨some b6,k9,j10⟩:VR) l] [true] rfl (by first|rfl|(simp only [List.length_set]<;>rfl))) rfl rfl rfl rfl rfl)
  refine ie ?_
  refine zjb rfl hR ?_ ?_<;>clear hR<;>intro hR h13
  ·have h13p:((l.getD i 0)<32)∨(((127:Int)≤(l.getD i 0))∧((l.getD i 0)≤159)):=by simpa using h13
   refine sr 1 rfl (ip' 1 0 [(2,bv false)] ?_)
   subst hR
   refine ie (A9 ?_)
   exact F1 hr hD
  have h13p:¬ (((l.getD i 0)<32)∨(((127:Int)≤(l.getD i 0))∧((l.getD i 0)≤159))):=by simpa using h13
  refine A6 (nx (A2 3 rfl (ip' 1 2 [(14,iv (i:Int))] ?_)))
  refine ix rfl (B5 rfl rfl rfl rfl (by omega)) ?_
  refine ip' 1 0 [(4,iv ((i:Int)+1))] ?_
  refine A3 ?_
  exact B5k (z1:=(fu1+1)) (z2:=l) (z3:=(⟨some b6,k9,j10⟩:VR)) (z4:=i) fu1 l (⟨some b6,k9,j10⟩:VR) (i+1) ⟨(by omega),hR,hoklr,(by omega)⟩ (Nat.lt_succ_self _) (mc [vo D9 3 (⟨some b6,k9,j10⟩:VR) l] [true] rfl (by first|rfl|(simp only [List.length_set]<;>rfl))) fn0
 refine I1 (nx (sr 5 rfl (ip' 1 4 [(35,.slice (va lr.q) l.length lr.k)] ?_)))
 have:=VOk.cap hoklr
 have:=VOk.le hoklr
 refine A3i [] [] (T:=3) (c:=D9) (r:=lr) (xs:=l) hoklr (by first|rfl|simp only [List.cons_append,List.append_assoc,List.nil_append,List.append_nil]) ?_
 have hQ:=D4 hR;clear hR;obtain ⟨y20,hy20,hR⟩:=hQ
 refine zca (C7b l (va lr.q) lr.k (by first|omega|(simp<;>omega)|(dsimp only;omega)|decide) (by first|omega|(simp<;>omega)|(dsimp only;omega)|decide) (by first|omega|(simp<;>omega)) y20 hy20) A1.refl ?_
 refine ip' 1 2 [(37,sv s)] ?_
 refine ix rfl (B7u rfl rfl rfl) ?_
 refine ip' 1 0 [(2,bv (decide (y20=s)))] ?_
 subst hR
 refine ie (A9 ?_)
 exact F1 hr hD
theorem D2g:∀ k:Nat,0≤([0,95,135,175,215,255]:List Int).getD k 0∧([0,95,135,175,215,255]:List Int).getD k 0≤255
 | 0 | 1 | 2 | 3 | 4 | 5=>by decide
 | _+6=>by exact ⟨Int.le_refl _,by show (0:Int)≤255;decide⟩
theorem C2r (x:UInt8):((x.toNat:Nat):Int)≤9223372036854775807:=by have:=UInt8.toNat_lt x;omega
def A1g (n:Int):Int :=
 (bif (decide (n<16)) then (([0,13434880,52480,13487360,238,13435085,52685,15066597,8355711,16711680,65280,16776960,6053119,16711935,65535,16777215]:List Int).getD ((n).toNat) 0) else (bif (decide ((232:Int)≤n)) then ((8+(10 * (n - 232))) * 65793) else ((((([0,95,135,175,215,255]:List Int).getD (((n - 16) / 36).toNat) 0) * 65536)+((([0,95,135,175,215,255]:List Int).getD ((((n - 16) / 6) % 6).toNat) 0) * 256))+(([0,95,135,175,215,255]:List Int).getD (((n - 16) % 6).toNat) 0))))
theorem C3z (n:Int) (hn:0≤n∧n≤255) (R:Int) (hR:A1g n=R):I6 Tryz.prog 214 [iv n] [] (iv R):=by
 refine zco Tryz.func214 [(0,iv n)] fun X hX hr hD=>?_
 replace hR:=(A1g.eq_1 ..).symm.trans hR
 have q1:=D2g ((n - 16) / 36).toNat
 have q2:=D2g (((n - 16) / 6) % 6).toNat
 have q3:=D2g ((n - 16) % 6).toNat
 refine sr 1 rfl (ip' 1 0 [] ?_)
 refine ie (sr 3 rfl (P0 3 0 [0] (fun b1=>[(3,pt b1 0)]) (fun b1=>[bx b1 [iv 0,iv 13434880,iv 52480,iv 13487360,iv 238,iv 13435085,iv 52685,iv 15066597,iv 8355711,iv 16711680,iv 65280,iv 16776960,iv 6053119,iv 16711935,iv 65535,iv 16777215] 288]) (fun b1=>?_)))
 refine ie (A8 (sr 2 rfl (ip' 2 0 [(8,bv (decide (n<16)))] ?_)))
 refine ie ?_
 refine zjd rfl hR ?_ ?_<;>clear hR<;>intro hR h2 h2p
 ·refine sr 4 rfl (ip' 1 3 [(9,iv n)] ?_)
  refine ix rfl (U9 Tryz.underlying288 ty3 rfl rfl rfl ((n).toNat) (by omega) (by omega)) ?_
  refine ix rfl (N2 (u:=iv (([0,13434880,52480,13487360,238,13435085,52685,15066597,8355711,16711680,65280,16776960,6053119,16711935,65535,16777215]:List Int).getD ((n).toNat) 0)) (c:=D9) (xs:=([0,13434880,52480,13487360,238,13435085,52685,15066597,8355711,16711680,65280,16776960,6053119,16711935,65535,16777215]:List Int)) (j:=[]) (sz:=1) ty3 (fun _=>rfl) rfl rfl 0 rfl ((n).toNat) 0 rfl (gd 0 (by simp only [List.length_cons,List.length_nil];omega)) rfl) ?_
  refine ip' 1 0 [(2,iv (([0,13434880,52480,13487360,238,13435085,52685,15066597,8355711,16711680,65280,16776960,6053119,16711935,65535,16777215]:List Int).getD ((n).toNat) 0))] ?_
  subst hR
  refine ie (A9 ?_)
  exact F1 hr hD
 refine A6 (nx (A8 (sr 2 rfl (ip' 2 0 [(13,bv (decide ((232:Int)≤n)))] ?_))))
 refine ie ?_
 refine zjd rfl hR ?_ ?_<;>clear hR<;>intro hR h3 h3p
 ·refine sr 6 rfl (ip' 1 5 [(14,iv n)] ?_)
  refine ix rfl (M6 rfl rfl rfl rfl (by omega)) ?_
  refine ix rfl (A5s rfl rfl rfl rfl (by omega)) ?_
  refine ix rfl (B5 rfl rfl rfl rfl (by omega)) ?_
  refine ix rfl (A5s rfl rfl rfl rfl (by omega)) ?_
  refine ip' 1 0 [(2,iv ((8+(10 * (n - 232))) * 65793))] ?_
  subst hR
  refine ie (A9 ?_)
  exact F1 hr hD
 refine A6 (nx (sr 3 rfl (P0 3 0 [0] (fun b4=>[(4,pt b4 0)]) (fun b4=>[bx b4 [iv 0,iv 95,iv 135,iv 175,iv 215,iv 255] 147,bx b1 [iv 0,iv 13434880,iv 52480,iv 13487360,iv 238,iv 13435085,iv 52685,iv 15066597,iv 8355711,iv 16711680,iv 65280,iv 16776960,iv 6053119,iv 16711935,iv 65535,iv 16777215] 288]) (fun b4=>?_))))
 refine ie (sr 3 rfl (ip' 1 2 [(20,iv n)] ?_))
 refine ix rfl (M6 rfl rfl rfl rfl (by omega)) ?_
 refine ip' 1 0 [(5,iv (n - 16))] ?_
 refine ie (sd 18 rfl (by kernel_rfl) rfl ?_)
 refine dp' 1 17 [(22,iv (n - 16))] ?_
 refine dd rfl (A8y (c:=((n - 16) / 36)) rfl rfl rfl (by decide) (by first|exact ⟨⟨by omega,by show _≤(9223372036854775807:Int);omega⟩,rfl⟩|exact ⟨by omega,rfl⟩|exact ⟨⟨Int.natCast_nonneg _,C2r _⟩,rfl⟩|exact ⟨Int.ediv_nonneg (by first|omega|exact Int.natCast_nonneg _) (by omega),rfl⟩)) ?_
 refine dd rfl (U9 Tryz.underlying147 ty3 rfl rfl rfl (((n - 16) / 36).toNat) (by omega) (by omega)) ?_
 refine dd rfl (N2 (u:=iv (([0,95,135,175,215,255]:List Int).getD (((n - 16) / 36).toNat) 0)) (c:=D9) (xs:=([0,95,135,175,215,255]:List Int)) (j:=[]) (sz:=1) ty3 (fun _=>rfl) rfl rfl 0 rfl (((n - 16) / 36).toNat) 0 rfl (gd 0 (by simp only [List.length_cons,List.length_nil];omega)) rfl) ?_
 refine dd rfl (A5s rfl rfl rfl rfl (by omega)) ?_
 refine dp' 1 12 [(27,iv (n - 16))] ?_
 refine dd rfl (A8y (c:=((n - 16) / 6)) rfl rfl rfl (by decide) (by first|exact ⟨⟨by omega,by show _≤(9223372036854775807:Int);omega⟩,rfl⟩|exact ⟨by omega,rfl⟩|exact ⟨⟨Int.natCast_nonneg _,C2r _⟩,rfl⟩|exact ⟨Int.ediv_nonneg (by first|omega|exact Int.natCast_nonneg _) (by omega),rfl⟩)) ?_
 refine dd rfl (V6 (c:=(((n - 16) / 6) % 6)) rfl rfl rfl (by decide) (by first|exact ⟨⟨by omega,by show _≤(9223372036854775807:Int);omega⟩,rfl⟩|exact ⟨by omega,rfl⟩|exact ⟨⟨Int.natCast_nonneg _,C2r _⟩,rfl⟩|exact ⟨Int.ediv_nonneg (by first|omega|exact Int.natCast_nonneg _) (by omega),rfl⟩)) ?_
 refine dd rfl (U9 Tryz.underlying147 ty3 rfl rfl rfl ((((n - 16) / 6) % 6).toNat) (by omega) (by omega)) ?_
 refine dd rfl (N2 (u:=iv (([0,95,135,175,215,255]:List Int).getD ((((n - 16) / 6) % 6).toNat) 0)) (c:=D9) (xs:=([0,95,135,175,215,255]:List Int)) (j:=[]) (sz:=1) ty3 (fun _=>rfl) rfl rfl 0 rfl ((((n - 16) / 6) % 6).toNat) 0 rfl (gd 0 (by simp only [List.length_cons,List.length_nil];omega)) rfl) ?_
 refine dd rfl (A5s rfl rfl rfl rfl (by omega)) ?_
 refine dd rfl (B5 rfl rfl rfl rfl (by omega)) ?_
 refine dp' 1 5 [(34,iv (n - 16))] ?_
 refine dd rfl (V6 (c:=((n - 16) % 6)) rfl rfl rfl (by decide) (by first|exact ⟨⟨by omega,by show _≤(9223372036854775807:Int);omega⟩,rfl⟩|exact ⟨by omega,rfl⟩|exact ⟨⟨Int.natCast_nonneg _,C2r _⟩,rfl⟩|exact ⟨Int.ediv_nonneg (by first|omega|exact Int.natCast_nonneg _) (by omega),rfl⟩)) ?_
 refine dd rfl (U9 Tryz.underlying147 ty3 rfl rfl rfl (((n - 16) % 6).toNat) (by omega) (by omega)) ?_
 refine dd rfl (N2 (u:=iv (([0,95,135,175,215,255]:List Int).getD (((n - 16) % 6).toNat) 0)) (c:=D9) (xs:=([0,95,135,175,215,255]:List Int)) (j:=[]) (sz:=1) ty3 (fun _=>rfl) rfl rfl 0 rfl (((n - 16) % 6).toNat) 0 rfl (gd 0 (by simp only [List.length_cons,List.length_nil];omega)) rfl) ?_
 refine dd rfl (B5 rfl rfl rfl rfl (by omega)) ?_
 refine dp' 1 0 [(2,iv ((((([0,95,135,175,215,255]:List Int).getD (((n - 16) / 36).toNat) 0) * 65536)+((([0,95,135,175,215,255]:List Int).getD ((((n - 16) / 6) % 6).toNat) 0) * 256))+(([0,95,135,175,215,255]:List Int).getD (((n - 16) % 6).toNat) 0)))] ?_
 subst hR
 refine de (A9 ?_)
 exact F1 hr hD
theorem A8i {c:Col} (h:I2 c=0):0≤c.n∧c.n≤16777215∧(c.kind=1→c.n≤255):=by
 unfold I2 at h
 simp only [Bool.cond_eq_ite,decide_eq_true_eq,Bool.and_eq_true] at h
 repeat' split at h
 all_goals first|omega|exact absurd h (by decide)
def A3k (c:Col):Int×Bool :=
 (bif ((!decide ((I2 c)=0))||(decide (c.kind=0))) then (0,false) else (bif (decide (c.kind=1)) then ((A1g c.n),true) else (c.n,true)))
theorem C1x:∀ n<256,0≤A1g ((n:Nat):Int)∧A1g ((n:Nat):Int)≤16777215:=by decide +kernel
theorem C7i (c:Col):0≤(A3k c).1∧(A3k c).1≤16777215:=by
 unfold A3k
 simp only [Bool.cond_eq_ite,Bool.or_eq_true,Bool.not_eq_true',decide_eq_true_eq,decide_eq_false_iff_not]
 repeat' split
 ·exact ⟨Int.le_refl _,by show (0:Int)≤_;omega⟩
 ·rename_i h1 h2
  have hc:=A8i (c:=c) (by omega)
  obtain ⟨m,e⟩:∃ m:Nat,c.n=m:=⟨c.n.toNat,by omega⟩
  show 0≤A1g c.n∧A1g c.n≤16777215
  rw [e];exact C1x m (by have:=hc.2.2 h2;omega)
 ·have hc:=A8i (c:=c) (by omega)
  exact ⟨hc.1,hc.2.1⟩
theorem C8t (c:Col) (R:Int×Bool) (hR:A3k c=R):I6 Tryz.prog 191 [ag (M5 c)] [] (.tuple #[iv R.1,bv R.2]):=by
 refine zco Tryz.func191 [(0,ag (M5 c))] fun X hX hr hD=>?_
 replace hR:=(A3k.eq_1 ..).symm.trans hR
 refine sr 3 rfl (P0 3 0 [] (fun b1=>[(1,pt b1 0)]) (fun b1=>[bx b1 (M5 c) 24]) (fun b1=>?_))
 refine ie (A8 (sr 8 rfl (zrl 1 7 [0] [(4,ag (M5 c))] ?_)))
 refine zca (B0n c _ rfl) fn0 ?_
 refine ip' 2 4 [(7,bv (!decide ((I2 c)=0)))] ?_
 refine zio 4 0 7 11 (decide (c.kind=0)) (fun g2=>?_) ?_
 ·have g2p:¬ (¬ (I2 c)=0):=by simpa using g2
  refine zrl 4 0 [0] [(11,bv (decide (c.kind=0)))] ?_
  exact A3 (L3 2 7 11 g2 fn0 (mk [true] rfl) rfl rfl rfl rfl rfl)
 refine ie ?_
 refine zjb rfl hR ?_ ?_<;>clear hR<;>intro hR h3
 ·have h3p:(¬ (I2 c)=0)∨(c.kind=0):=by simpa using h3
  refine sr 2 rfl (ip' 2 0 [(2,iv 0),(3,bv false)] ?_)
  subst hR
  refine ie (A9 ?_)
  exact A0l hr hD
 have h3p:¬ ((¬ (I2 c)=0)∨(c.kind=0)):=by simpa using h3
 refine A6 (nx (A8 (sr 3 rfl (zrl 3 0 [0] [(14,bv (decide (c.kind=1)))] ?_))))
 refine ie ?_
 refine zjd rfl hR ?_ ?_<;>clear hR<;>intro hR h4 h4p
 ·have hci:=A8i (c:=c) (by simp_all)
  refine sr 5 rfl (zrl 2 3 [0] [(16,iv c.n)] ?_)
  refine zca (C3z c.n (by omega) _ rfl) fn0 ?_
  refine ip' 2 0 [(2,iv (A1g c.n)),(3,bv true)] ?_
  subst hR
  refine ie (A9 ?_)
  exact A0l hr hD
 refine A6 (nx (sr 4 rfl (zrl 4 0 [0] [(2,iv c.n),(3,bv true)] ?_)))
 subst hR
 refine ie (A9 ?_)
 exact A0l hr hD
theorem dv6:∀ k:Nat,k<6→1≤([1048576,65536,4096,256,16,1]:List Int).getD k 0∧([1048576,65536,4096,256,16,1]:List Int).getD k 0≤1048576
 | 0,_ | 1,_ | 2,_ | 3,_ | 4,_ | 5,_=>by decide
 | _+6,h=>by omega
def b7I (j n:Int):Prop:=(j=0∧0≤n∧n<1)∨(j=1∧0≤n∧n<2)∨(j=2∧0≤n∧n<4)∨(j=3∧0≤n∧n<8)∨(j=4∧0≤n∧n<16)∨(j=5∧0≤n∧n<32)∨(j=6∧0≤n∧n<64)
theorem D9k {j:Int} (h:j=0):b7I j 0:=by unfold b7I;omega
theorem D3x {j n:Int} (h:b7I j n):0≤n∧n<64:=by unfold b7I at h;omega
theorem B7h {j n x:Int} (h:b7I j n) (hj:j<6) (hx:0≤x∧x≤1):b7I (j+1) (2 * n+x):=by unfold b7I at *;omega
theorem B6y {j j' n x:Int} (h:b7I j n) (hj:j<6) (hx:0≤x∧x≤1) (e:j'=j+1):b7I j' (2 * n+x):=e▸B7h h hj hx
theorem dv8:∀ k:Nat,k<8→1≤([128,64,32,16,8,4,2,1]:List Int).getD k 0∧([128,64,32,16,8,4,2,1]:List Int).getD k 0≤128
 | 0,_ | 1,_ | 2,_ | 3,_ | 4,_ | 5,_ | 6,_ | 7,_=>by decide
 | _+8,h=>by omega
def R5 (y5:Int×Bool):Nat→List UInt8→Nat→(List UInt8×Int)
 | 0,_,_=>([],0)
 | fu1+1,s,k=>(bif (decide ((k:Int)<6)) then R5 y5 fu1 (s++((C8b.drop (((y5.1 / (([1048576,65536,4096,256,16,1]:List Int).getD k 0)) % 16).toNat)).take ((((y5.1 / (([1048576,65536,4096,256,16,1]:List Int).getD k 0)) % 16).toNat+1) - (((y5.1 / (([1048576,65536,4096,256,16,1]:List Int).getD k 0)) % 16).toNat)))) (k+1) else ((((((([114,103,98,58]:List UInt8)++(s.take 2))++([47]:List UInt8))++((s.drop 2).take (4 - 2)))++([47]:List UInt8))++(s.drop 4)),0))
def Z7 (c:Col):List UInt8×Int :=
 (bif (!decide ((I2 c)=0)) then (([]:List UInt8),130) else (C1 (A3k c) fun (y5:Int×Bool)=>(bif (!y5.2) then (([]:List UInt8),2) else R5 y5 ((6 - 0)+1) ([]:List UInt8) 0)))
theorem B0d (n:Int×Bool):∀ (fu:Nat) (s:List UInt8) (k:Nat),(R5 n fu s k).1.length≤3 * s.length+3 * fu+10
 | 0,s,k=>Nat.zero_le _
 | fu+1,s,k=>by
  have ih:=B0d n fu
  rw [R5]
  simp only [Bool.cond_eq_ite]
  split
  ·refine Nat.le_trans (ih _ _) ?_
   simp only [List.length_append,List.length_take,List.length_drop];omega
  ·simp only [List.length_append,List.length_take,List.length_drop,List.length_cons,List.length_nil];omega
theorem B2r (c:Col):(Z7 c).1.length≤100:=by
 have h:=B0d (A3k c) ((6 - 0)+1) [] 0
 unfold Z7 C1
 simp only [Bool.cond_eq_ite]
 repeat' split
 ·exact Nat.zero_le _
 ·exact Nat.zero_le _
 ·simp only [List.length_nil] at h;omega
theorem C7p (c:Col) (R:List UInt8×Int) (hR:Z7 c=R):I6 Tryz.prog 132 [ag (M5 c)] [] (.tuple #[sv R.1,iv R.2]):=by
 refine zco Tryz.func132 [(0,ag (M5 c))] fun X hX hr hD=>?_
 replace hR:=(Z7.eq_1 ..).symm.trans hR
 have hs16:C8b.length=16:=rfl
 refine sr 3 rfl (P0 3 0 [] (fun b1=>[(1,pt b1 0)]) (fun b1=>[bx b1 (M5 c) 24]) (fun b1=>?_))
 refine ie (A8 (sr 3 rfl (zrl 1 2 [0] [(9,ag (M5 c))] ?_)))
 refine zca (B0n c _ rfl) fn0 ?_
 refine ip' 1 0 [(11,bv (!decide ((I2 c)=0)))] ?_
 refine ie ?_
 refine zjn rfl hR ?_ ?_<;>clear hR<;>intro hR h2 h2p
 ·refine sr 2 rfl (ip' 2 0 [(2,sv ([]:List UInt8)),(3,iv 130)] ?_)
  subst hR
  refine ie (A9 ?_)
  exact A0l hr hD
 refine A6 (nx (sr 7 rfl (zrl 1 6 [0] [(13,ag (M5 c))] ?_)))
 have hQ:=D4 hR;clear hR;obtain ⟨y5,hy5,hR⟩:=hQ
 refine zca (C8t c y5 hy5) fn0 ?_
 have:=C7i c;try rw [hy5] at this
 refine ip' 5 0 [(4,iv y5.1),(5,bv y5.2)] ?_
 refine ie (A8 (sr 2 rfl (ip' 2 0 [(18,bv (!y5.2))] ?_)))
 refine ie ?_
 refine zjb rfl hR ?_ ?_<;>clear hR<;>intro hR h3
 ·refine sr 2 rfl (ip' 2 0 [(2,sv ([]:List UInt8)),(3,iv 2)] ?_)
  subst hR
  refine ie (A9 ?_)
  exact A0l hr hD
 refine A6 (nx (sr 1 rfl (ip' 1 0 [(6,sv ([]:List UInt8))] ?_)))
 refine ie (A8 (sr 1 rfl (ip' 1 0 [(7,iv 0)] ?_)))
 refine ie (B3 (E0r (fun (fu:Nat) (s:List UInt8) (k:Nat)=>((6 - k)<fu∧R5 y5 fu s k=R∧s.length=k∧k≤6,[(4,iv y5.1),(6,sv s),(7,iv (k:Int))],[bx b1 (M5 c) 24],[],fu)) ((6 - 0)+1) ([]:List UInt8) 0 ⟨(Nat.lt_succ_self _),hR,(by rfl),(by omega)⟩ (mk [true] rfl) fn0 ?_))
 rintro fu s k ⟨hm4,hR,hs,hk⟩
 obtain ⟨fu1,rfl⟩:∃ m,fu=m+1:=⟨fu - 1,by omega⟩
 replace hR:=(R5.eq_2 ..).symm.trans hR
 have hdv:=dv6 k
 refine A8 (sr 2 rfl (ip' 2 0 [(20,bv (decide ((k:Int)<6)))] ?_))
 refine ie ?_
 refine zjd rfl hR ?_ ?_<;>clear hR<;>intro hR h5 h5p
 ·refine A6 (nx (A8 (B3 (sr 7 rfl (zrl 3 4 [] [(23,iv y5.1),(24,ag [iv 1048576,iv 65536,iv 4096,iv 256,iv 16,iv 1]),(25,iv (k:Int))] ?_)))))
  refine ix rfl (B6d (v:=iv (([1048576,65536,4096,256,16,1]:List Int).getD k 0)) (c:=D9) (xs:=([1048576,65536,4096,256,16,1]:List Int)) (d:=0) Tryz.underlying147 ty3 (fun _=>rfl) rfl rfl rfl rfl k rfl rfl (by first|omega|(refine Nat.le_trans (m:=16) (by omega) (by decide))) rfl rfl) ?_
  refine ix rfl (A8y (c:=(y5.1 / (([1048576,65536,4096,256,16,1]:List Int).getD k 0))) rfl rfl rfl (by omega) (by first|exact ⟨⟨by omega,by show _≤(9223372036854775807:Int);omega⟩,rfl⟩|exact ⟨by omega,rfl⟩|exact ⟨⟨Int.natCast_nonneg _,C2r _⟩,rfl⟩|exact ⟨Int.ediv_nonneg (by first|omega|exact Int.natCast_nonneg _) (by omega),rfl⟩)) ?_
  refine ix rfl (V6 (c:=((y5.1 / (([1048576,65536,4096,256,16,1]:List Int).getD k 0)) % 16)) rfl rfl rfl (by decide) (by first|exact ⟨⟨by omega,by show _≤(9223372036854775807:Int);omega⟩,rfl⟩|exact ⟨by omega,rfl⟩|exact ⟨⟨Int.natCast_nonneg _,C2r _⟩,rfl⟩|exact ⟨Int.ediv_nonneg (by first|omega|exact Int.natCast_nonneg _) (by omega),rfl⟩)) ?_
  refine ip' 1 0 [(8,iv ((y5.1 / (([1048576,65536,4096,256,16,1]:List Int).getD k 0)) % 16))] ?_
  refine ie (A2 7 rfl (ip' 3 4 [(29,sv s),(30,iv ((y5.1 / (([1048576,65536,4096,256,16,1]:List Int).getD k 0)) % 16)),(31,iv ((y5.1 / (([1048576,65536,4096,256,16,1]:List Int).getD k 0)) % 16))] ?_))
  refine ix rfl (B5 rfl rfl rfl rfl (by omega)) ?_
  refine ix rfl (B7i (T:=9) Tryz.underlying9 rfl rfl rfl rfl (((y5.1 / (([1048576,65536,4096,256,16,1]:List Int).getD k 0)) % 16).toNat) (by omega) (((y5.1 / (([1048576,65536,4096,256,16,1]:List Int).getD k 0)) % 16).toNat+1) (by omega) (by first|omega|(refine Nat.le_trans (m:=16) (by omega) (by decide))) (by first|omega|(refine Nat.le_trans (m:=16) (by omega) (by decide)))) ?_
  refine ix rfl (zst rfl rfl rfl) ?_
  refine ip' 1 0 [(6,sv (s++((C8b.drop (((y5.1 / (([1048576,65536,4096,256,16,1]:List Int).getD k 0)) % 16).toNat)).take ((((y5.1 / (([1048576,65536,4096,256,16,1]:List Int).getD k 0)) % 16).toNat+1) - (((y5.1 / (([1048576,65536,4096,256,16,1]:List Int).getD k 0)) % 16).toNat)))))] ?_
  refine A3 (nx (A2 3 rfl (ip' 1 2 [(21,iv (k:Int))] ?_)))
  refine ix rfl (B5 rfl rfl rfl rfl (by omega)) ?_
  refine ip' 1 0 [(7,iv ((k:Int)+1))] ?_
  refine A3 ?_
  exact E0a (z1:=(fu1+1)) (z2:=s) (z3:=k) fu1 (s++((C8b.drop (((y5.1 / (([1048576,65536,4096,256,16,1]:List Int).getD k 0)) % 16).toNat)).take ((((y5.1 / (([1048576,65536,4096,256,16,1]:List Int).getD k 0)) % 16).toNat+1) - (((y5.1 / (([1048576,65536,4096,256,16,1]:List Int).getD k 0)) % 16).toNat)))) (k+1) ⟨(by omega),hR,(by simp only [List.length_append,List.length_take,List.length_drop];omega),(by omega)⟩ (Nat.lt_succ_self _) (mk [true] rfl) fn0
 refine I1 (nx (sd 13 rfl (by kernel_rfl) rfl ?_))
 refine dp' 1 12 [(35,sv s)] ?_
 refine dd rfl (A6m (T:=9) Tryz.underlying9 rfl rfl rfl 2 rfl (by first|omega|(refine Nat.le_trans (m:=16) (by omega) (by decide)))) ?_
 have:=@List.length_take _ 2 s
 refine dd rfl (zst rfl rfl rfl) ?_
 refine dd rfl (zst rfl rfl rfl) ?_
 refine dp' 1 8 [(39,sv s)] ?_
 refine dd rfl (B7i (T:=9) Tryz.underlying9 rfl rfl rfl rfl 2 rfl 4 rfl (by first|omega|(refine Nat.le_trans (m:=16) (by omega) (by decide))) (by first|omega|(refine Nat.le_trans (m:=16) (by omega) (by decide)))) ?_
 have:=@List.length_drop _ 2 s
 have:=@List.length_take _ (4 - 2) (s.drop 2)
 refine dd rfl (zst rfl rfl rfl) ?_
 refine dd rfl (zst rfl rfl rfl) ?_
 refine dp' 1 4 [(43,sv s)] ?_
 refine dd rfl (B0j (T:=9) Tryz.underlying9 rfl rfl rfl 4 rfl (by first|omega|(refine Nat.le_trans (m:=16) (by omega) (by decide)))) ?_
 have:=@List.length_drop _ 4 s
 refine dd rfl (zst rfl rfl rfl) ?_
 refine dp' 2 0 [(2,sv (((((([114,103,98,58]:List UInt8)++(s.take 2))++([47]:List UInt8))++((s.drop 2).take (4 - 2)))++([47]:List UInt8))++(s.drop 4))),(3,iv 0)] ?_
 subst hR
 refine de (A9 ?_)
 exact A0l hr hD
def G0:Nat→Int→List UInt8
 | 0,_=>[]
 | fu+1,n=>(bif (decide (n<10)) then ([(by8 (IntKind.u8.wrap (IntKind.i64.wrap ((48:Int)+n))))]:List UInt8) else ((G0 fu (n / 10))++(G0 fu (n % 10))))
theorem Y7:∀ (fu:Nat) (n:Int),(G0 fu n).length≤n.toNat+1
 | 0,n=>by simp [G0]
 | fu+1,n=>by
  simp only [G0]
  cases h:decide (n<10) with
  | true=>simp
  | false =>
   have hn:¬ n<10:=of_decide_eq_false h
   have h1:=Y7 fu (n / 10)
   have h2:=Y7 fu (n % 10)
   simp only [cond_false,List.length_append]
   omega
theorem C2g:∀ (fu:Nat) (n:Int) (hn:n≤9223372036854775807) (hmu:n.toNat<fu) (R:List UInt8) (hR:G0 fu n=R),I6 Tryz.prog 133 [iv n] [] (sv R):=by
 intro fu
 induction fu with
 | zero=>intros;omega
 | succ fu ih =>
  intro n hn hmu R hR
  refine zco Tryz.func133 [(0,iv n)] fun X hX hr hD=>?_
  replace hR:=(G0.eq_2 ..).symm.trans hR
  refine sr 1 rfl (ip' 1 0 [] ?_)
  refine ie (A8 (sr 2 rfl (ip' 2 0 [(4,bv (decide (n<10)))] ?_)))
  refine ie ?_
  refine zjd rfl hR ?_ ?_<;>clear hR<;>intro hR h1 h1p
  ·refine sr 6 rfl (ip' 1 5 [(5,iv n)] ?_)
   refine ix rfl (G8.pure rfl) ?_
   refine ix rfl (J0 (v:=.int .u8 (IntKind.u8.wrap (IntKind.i64.wrap ((48:Int)+n)))) (G8.pure rfl) (A6g)) ?_
   refine it rfl (B6 (c:=cU8) (xs:=([(by8 (IntKind.u8.wrap (IntKind.i64.wrap ((48:Int)+n))))]:List UInt8)) A0n rfl rfl rfl (by kernel_rfl)) fun b2=>?_
   have:([(by8 (IntKind.u8.wrap (IntKind.i64.wrap ((48:Int)+n))))]:List UInt8).length=1:=rfl
   refine ix rfl (A3d Tryz.underlying9 Tryz.underlying30 rfl rfl (B0 0 rfl) rfl (by kernel_rfl)) ?_
   have:([(by8 (IntKind.u8.wrap (IntKind.i64.wrap ((48:Int)+n))))]:List UInt8).length=1:=rfl
   refine ip' 1 0 [(2,sv ([(by8 (IntKind.u8.wrap (IntKind.i64.wrap ((48:Int)+n))))]:List UInt8))] ?_
   subst hR
   refine ie (A9 ?_)
   exact F1 hr hD
  refine A6 (nx (sr 8 rfl (ip' 1 7 [(10,iv n)] ?_)))
  refine ix rfl (A8y (c:=(n / 10)) rfl rfl rfl (by decide) (by first|exact ⟨⟨by omega,by show _≤(9223372036854775807:Int);omega⟩,rfl⟩|exact ⟨by omega,rfl⟩)) ?_
  refine zca (ih (n / 10) (by first|omega|(simp<;>omega)) (by omega) _ rfl) fn0 ?_
  have:=Y7 fu (n / 10)
  refine ip' 1 4 [(13,iv n)] ?_
  refine ix rfl (V6 (c:=(n % 10)) rfl rfl rfl (by decide) (by first|exact ⟨⟨by omega,by show _≤(9223372036854775807:Int);omega⟩,rfl⟩|exact ⟨by omega,rfl⟩)) ?_
  refine zca (ih (n % 10) (by first|omega|(simp<;>omega)) (by omega) _ rfl) fn0 ?_
  have:=Y7 fu (n % 10)
  refine ix rfl (zst rfl rfl rfl) ?_
  have:=@List.length_append _ (G0 fu (n / 10)) (G0 fu (n % 10))
  refine ip' 1 0 [(2,sv ((G0 fu (n / 10))++(G0 fu (n % 10))))] ?_
  subst hR
  refine ie (A9 ?_)
  exact F1 hr hD
def P8 (s:List UInt8) (out:List UInt8) (bit:Nat) (ag_ref07_Bare_l3:List UInt8→Nat→List UInt8):Nat→Int→Nat→List UInt8
 | 0,_,_=>[]
 | fu3+1,n,k=>(bif (decide ((k:Int)<((bit:Int)+6))) then (bif (decide (((k:Int) / 8)<(s.length:Int))) then P8 s out bit ag_ref07_Bare_l3 fu3 ((2 * n)+((((s.getD (((k:Int) / 8).toNat) 0).toNat:Int) / (([128,64,32,16,8,4,2,1]:List Int).getD (((k:Int) % 8).toNat) 0)) % 2)) (k+1) else P8 s out bit ag_ref07_Bare_l3 fu3 ((2 * n)+0) (k+1)) else ag_ref07_Bare_l3 (out++([(A9z.getD ((n).toNat) 0)]:List UInt8)) (bit+6))
def M7 (s:List UInt8):Nat→List UInt8→Nat→List UInt8
 | 0,_,_=>[]
 | fu1+1,out,bit=>(bif (decide ((bit:Int)<(8 * (s.length:Int)))) then P8 s out bit (M7 s fu1) (((bit+6) - bit)+1) 0 bit else out)
def A1p (s:List UInt8):List UInt8 :=
 M7 s (((8 * (s.length:Int)) - (0:Int)).toNat+1) ([]:List UInt8) 0
theorem A9y (s out:List UInt8) (bit:Nat) (ag:List UInt8→Nat→List UInt8) (B:Nat) (hag:∀ o b,(ag o b).length≤o.length+B):∀ (fu:Nat) (n:Int) (k:Nat),(P8 s out bit ag fu n k).length≤out.length+1+B
 | 0,n,k=>Nat.zero_le _
 | fu+1,n,k=>by
  have ih:=A9y s out bit ag B hag fu
  rw [P8]
  simp only [Bool.cond_eq_ite]
  repeat' split
  ·exact ih _ _
  ·exact ih _ _
  ·refine Nat.le_trans (hag _ _) ?_
   simp only [List.length_append,List.length_cons,List.length_nil];omega
theorem B0b (s:List UInt8):∀ (fu:Nat) (out:List UInt8) (bit:Nat),(M7 s fu out bit).length≤out.length+fu
 | 0,out,bit=>Nat.zero_le _
 | fu+1,out,bit=>by
  rw [M7]
  simp only [Bool.cond_eq_ite]
  split
  ·have:=A9y s out bit (M7 s fu) fu (fun o b=>B0b s fu o b) (((bit+6) - bit)+1) 0 bit;omega
  ·omega
theorem B3w (s:List UInt8):(A1p s).length≤8 * s.length+1:=by
 have:=B0b s (((8 * (s.length:Int)) - (0:Int)).toNat+1) [] 0
 unfold A1p
 simp only [List.length_nil] at this
 omega
set_option maxHeartbeats 1000000 in
theorem C7h (s:List UInt8) (hs:s.length≤4096) (R:List UInt8) (hR:A1p s=R):I6 Tryz.prog 192 [sv s] [] (sv R):=by
 refine zco Tryz.func192 [(0,sv s)] fun X hX hr hD=>?_
 replace hR:=(A1p.eq_1 ..).symm.trans hR
 refine sr 1 rfl (ip' 1 0 [] ?_)
 refine ie (sr 1 rfl (ip' 1 0 [(3,.slice none 0 0)] ?_))
 refine ie (A8 (sr 1 rfl (ip' 1 0 [(4,iv 0)] ?_)))
 refine ie (B3 ?_)
 refine C0r (fun (fu:Nat) (out:List UInt8) (outr:VR) (bit:Nat)=>(((8 * (s.length:Int)) - (bit:Int)).toNat<fu∧M7 s fu out bit=R∧VOk 1 out.length outr∧out.length≤bit∧(bit:Int)≤8 * (s.length:Int)+5,[(0,sv s),(3,.slice (va outr.q) out.length outr.k),(4,iv (bit:Int))],((vo cU8 5 outr out)++([])),[],fu)) (((8 * (s.length:Int)) - (0:Int)).toNat+1) ([]:List UInt8) VR.nil 0 ⟨(Nat.lt_succ_self _),hR,VOk.nil,(by (simp<;>omega)),(by omega)⟩ (mc [vo cU8 5 VR.nil ([]:List UInt8)] [true] rfl (by first|rfl|(simp only [List.length_set]<;>rfl))) fn0 ?_
 rintro fu out outr bit ⟨hm1,hR,hokoutr,ho,hbit⟩
 have:=VOk.le hokoutr
 obtain ⟨fu1,rfl⟩:∃ m,fu=m+1:=⟨fu - 1,by omega⟩
 replace hR:=(M7.eq_2 ..).symm.trans hR
 refine A8 (sr 5 rfl (ip' 3 2 [(8,iv (bit:Int)),(10,iv (s.length:Int))] ?_))
 refine ix rfl (A5s rfl rfl rfl rfl (by omega)) ?_
 refine ip' 1 0 [(12,bv (decide ((bit:Int)<(8 * (s.length:Int)))))] ?_
 refine ie ?_
 refine zjd rfl hR ?_ ?_<;>clear hR<;>intro hR h2 h2p
 ·refine A6 (nx (A8 (B3 (sr 1 rfl (ip' 1 0 [(5,iv 0)] ?_)))))
  refine ie (A8 (sr 2 rfl (ip' 2 0 [(6,iv (bit:Int))] ?_)))
  refine ie (B3 ?_)
  refine E0r (fun (fu2:Nat) (n:Int) (k:Nat)=>(((bit+6) - k)<fu2∧P8 s out bit (M7 s fu1) fu2 n k=R∧(bit≤k∧k≤bit+6)∧(0≤n∧n<64)∧b7I ((k:Int) - (bit:Int)) n,[(0,sv s),(3,.slice (va outr.q) out.length outr.k),(4,iv (bit:Int)),(5,iv n),(6,iv (k:Int))],((vo cU8 5 outr out)++([])),[],fu2)) (((bit+6) - bit)+1) 0 bit ⟨(Nat.lt_succ_self _),hR,(by omega),(by omega),(by exact D9k (by omega))⟩ (mc [vo cU8 5 outr out] [true] rfl (by first|rfl|(simp only [List.length_set]<;>rfl))) fn0 ?_
  rintro fu2 n k ⟨hm3,hR,hk,hn64,hb7⟩
  obtain ⟨fu3,rfl⟩:∃ m,fu2=m+1:=⟨fu2 - 1,by omega⟩
  replace hR:=(P8.eq_2 ..).symm.trans hR
  have hdv:=dv8 ((k:Int) % 8).toNat (by omega)
  refine A8 (sr 4 rfl (ip' 2 2 [(16,iv (k:Int)),(17,iv (bit:Int))] ?_))
  refine ix rfl (B5 rfl rfl rfl rfl (by omega)) ?_
  refine ip' 1 0 [(19,bv (decide ((k:Int)<((bit:Int)+6))))] ?_
  refine ie ?_
  refine zjd rfl hR ?_ ?_<;>clear hR<;>intro hR h4 h4p
  ·refine A6 (nx (A8 (B3 (sr 1 rfl (ip' 1 0 [(7,iv 0)] ?_)))))
   refine ie (A8 (sr 5 rfl (ip' 1 4 [(22,iv (k:Int))] ?_)))
   refine ix rfl (A8y (c:=((k:Int) / 8)) rfl rfl rfl (by decide) (by first|exact ⟨⟨by omega,by show _≤(9223372036854775807:Int);omega⟩,rfl⟩|exact ⟨by omega,rfl⟩|exact ⟨⟨Int.natCast_nonneg _,C2r _⟩,rfl⟩|exact ⟨Int.ediv_nonneg (by first|omega|exact Int.natCast_nonneg _) (by omega),rfl⟩)) ?_
   refine ip' 3 0 [(26,bv (decide (((k:Int) / 8)<(s.length:Int))))] ?_
   refine ie ?_
   refine zjd rfl hR ?_ ?_<;>clear hR<;>intro hR h5 h5p
   ·refine D7a 12 rfl (by kernel_rfl) rfl ?_
    refine dp' 2 10 [(27,sv s),(28,iv (k:Int))] ?_
    refine dd rfl (A8y (c:=((k:Int) / 8)) rfl rfl rfl (by decide) (by first|exact ⟨⟨by omega,by show _≤(9223372036854775807:Int);omega⟩,rfl⟩|exact ⟨by omega,rfl⟩|exact ⟨⟨Int.natCast_nonneg _,C2r _⟩,rfl⟩|exact ⟨Int.ediv_nonneg (by first|omega|exact Int.natCast_nonneg _) (by omega),rfl⟩)) ?_
    refine dd rfl (A9g (T:=9) Tryz.underlying9 rfl rfl rfl (((k:Int) / 8).toNat) (by omega) (by first|omega|(refine Nat.lt_of_lt_of_le (m:=64) (by omega) (by decide)))) ?_
    refine dd rfl (N3 (c:=((s.getD (((k:Int) / 8).toNat) 0).toNat:Int)) Tryz.underlying3 (by kernel_rfl) rfl rfl (W9 (s.getD (((k:Int) / 8).toNat) 0))) ?_
    refine zdg 2 5 [] [(32,ag [iv 128,iv 64,iv 32,iv 16,iv 8,iv 4,iv 2,iv 1]),(33,iv (k:Int))] ?_
    refine dd rfl (V6 (c:=((k:Int) % 8)) rfl rfl rfl (by decide) (by first|exact ⟨⟨by omega,by show _≤(9223372036854775807:Int);omega⟩,rfl⟩|exact ⟨by omega,rfl⟩|exact ⟨⟨Int.natCast_nonneg _,C2r _⟩,rfl⟩|exact ⟨Int.ediv_nonneg (by first|omega|exact Int.natCast_nonneg _) (by omega),rfl⟩)) ?_
    refine dd rfl (B6d (v:=iv (([128,64,32,16,8,4,2,1]:List Int).getD (((k:Int) % 8).toNat) 0)) (c:=D9) (xs:=([128,64,32,16,8,4,2,1]:List Int)) (d:=0) Tryz.underlying249 ty3 (fun _=>rfl) rfl rfl rfl rfl (((k:Int) % 8).toNat) (by omega) rfl (by first|omega|(refine Nat.lt_of_lt_of_le (m:=64) (by omega) (by decide))) rfl rfl) ?_
    refine dd rfl (A8y (c:=(((s.getD (((k:Int) / 8).toNat) 0).toNat:Int) / (([128,64,32,16,8,4,2,1]:List Int).getD (((k:Int) % 8).toNat) 0))) rfl rfl rfl (by omega) (by first|exact ⟨⟨by omega,by show _≤(9223372036854775807:Int);omega⟩,rfl⟩|exact ⟨by omega,rfl⟩|exact ⟨⟨Int.natCast_nonneg _,C2r _⟩,rfl⟩|exact ⟨Int.ediv_nonneg (by first|omega|exact Int.natCast_nonneg _) (by omega),rfl⟩)) ?_
    refine dd rfl (V6 (c:=((((s.getD (((k:Int) / 8).toNat) 0).toNat:Int) / (([128,64,32,16,8,4,2,1]:List Int).getD (((k:Int) % 8).toNat) 0)) % 2)) rfl rfl rfl (by decide) (by first|exact ⟨⟨by omega,by show _≤(9223372036854775807:Int);omega⟩,rfl⟩|exact ⟨by omega,rfl⟩|exact ⟨⟨Int.natCast_nonneg _,C2r _⟩,rfl⟩|exact ⟨Int.ediv_nonneg (by first|omega|exact Int.natCast_nonneg _) (by omega),rfl⟩)) ?_
    refine dp' 1 0 [(7,iv ((((s.getD (((k:Int) / 8).toNat) 0).toNat:Int) / (([128,64,32,16,8,4,2,1]:List Int).getD (((k:Int) % 8).toNat) 0)) % 2))] ?_
    refine C7l (nx (A2 5 rfl (ip' 1 4 [(38,iv n)] ?_)))
    refine ix rfl (A5s rfl rfl rfl rfl (by omega)) ?_
    refine ip' 1 2 [(40,iv ((((s.getD (((k:Int) / 8).toNat) 0).toNat:Int) / (([128,64,32,16,8,4,2,1]:List Int).getD (((k:Int) % 8).toNat) 0)) % 2))] ?_
    refine ix rfl (B5 rfl rfl rfl rfl (by omega)) ?_
    refine ip' 1 0 [(5,iv ((2 * n)+((((s.getD (((k:Int) / 8).toNat) 0).toNat:Int) / (([128,64,32,16,8,4,2,1]:List Int).getD (((k:Int) % 8).toNat) 0)) % 2)))] ?_
    refine A3 (nx (A2 3 rfl (ip' 1 2 [(20,iv (k:Int))] ?_)))
    refine ix rfl (B5 rfl rfl rfl rfl (by omega)) ?_
    refine ip' 1 0 [(6,iv ((k:Int)+1))] ?_
    refine A3 ?_
    exact E0a (z1:=(fu3+1)) (z2:=n) (z3:=k) fu3 ((2 * n)+((((s.getD (((k:Int) / 8).toNat) 0).toNat:Int) / (([128,64,32,16,8,4,2,1]:List Int).getD (((k:Int) % 8).toNat) 0)) % 2)) (k+1) ⟨(by omega),hR,(by omega),(by first|exact D3x (B7h hb7 (by omega) ⟨by omega,by omega⟩)|(have q:=D3x (B7h hb7 (by omega) (x:=0) ⟨by omega,by omega⟩);exact q)),(by first|exact B6y hb7 (by omega) ⟨by omega,by omega⟩ (by omega)|exact B6y (x:=0) hb7 (by omega) ⟨by omega,by omega⟩ (by omega))⟩ (Nat.lt_succ_self _) (mc [vo cU8 5 outr out] [true] rfl (by first|rfl|(simp only [List.length_set]<;>rfl))) fn0
   refine A6 (nx (A2 5 rfl (ip' 1 4 [(38,iv n)] ?_)))
   refine ix rfl (A5s rfl rfl rfl rfl (by omega)) ?_
   refine ip' 1 2 [(40,iv 0)] ?_
   refine ix rfl (B5 rfl rfl rfl rfl (by omega)) ?_
   refine ip' 1 0 [(5,iv ((2 * n)+0))] ?_
   refine A3 (nx (A2 3 rfl (ip' 1 2 [(20,iv (k:Int))] ?_)))
   refine ix rfl (B5 rfl rfl rfl rfl (by omega)) ?_
   refine ip' 1 0 [(6,iv ((k:Int)+1))] ?_
   refine A3 ?_
   exact E0a (z1:=(fu3+1)) (z2:=n) (z3:=k) fu3 ((2 * n)+0) (k+1) ⟨(by omega),hR,(by omega),(by first|exact D3x (B7h hb7 (by omega) ⟨by omega,by omega⟩)|(have q:=D3x (B7h hb7 (by omega) (x:=0) ⟨by omega,by omega⟩);exact q)),(by first|exact B6y hb7 (by omega) ⟨by omega,by omega⟩ (by omega)|exact B6y (x:=0) hb7 (by omega) ⟨by omega,by omega⟩ (by omega))⟩ (Nat.lt_succ_self _) (mc [vo cU8 5 outr out] [true] rfl (by first|rfl|(simp only [List.length_set]<;>rfl))) fn0
  refine I1 (nx (A2 6 rfl (ip' 2 4 [(42,.slice (va outr.q) out.length outr.k),(43,iv n)] ?_)))
  refine ix rfl (A9g (T:=9) Tryz.underlying9 rfl rfl rfl ((n).toNat) (by omega) (by first|omega|(refine Nat.lt_of_lt_of_le (m:=64) (by omega) (by decide)))) ?_
  refine it rfl (B6 (c:=cU8) (xs:=([(A9z.getD ((n).toNat) 0)]:List UInt8)) A0n rfl rfl rfl (by kernel_rfl)) fun b6=>?_
  have:([(A9z.getD ((n).toNat) 0)]:List UInt8).length=1:=rfl
  refine it rfl (A6u (f:=cU8) (r:=outr) (xs:=out) (ys:=([(A9z.getD ((n).toNat) 0)]:List UInt8)) (pre:=[]) (post:=[]) B2m (fun _=>rfl) (fun _=>rfl) rfl rfl rfl rfl rfl rfl rfl rfl rfl (B0 0 rfl) hokoutr (by first|omega|(simp<;>omega)) (by first|omega|(simp<;>omega))) fun ⟨r7,hr8⟩=>?_
  have:=VOk.le hr8
  have:=VOk.cap hr8
  refine ip' 1 0 [(3,.slice (va r7.q) ((out++([(A9z.getD ((n).toNat) 0)]:List UInt8)).length) r7.k)] ?_
  refine A3 (nx (A2 3 rfl (ip' 1 2 [(13,iv (bit:Int))] ?_)))
  refine ix rfl (B5 rfl rfl rfl rfl (by omega)) ?_
  refine ip' 1 0 [(4,iv ((bit:Int)+6))] ?_
  refine A3 ?_
  exact B5k (z1:=(fu1+1)) (z2:=out) (z3:=outr) (z4:=bit) fu1 (out++([(A9z.getD ((n).toNat) 0)]:List UInt8)) r7 (bit+6) ⟨(by omega),hR,hr8,(by (simp<;>omega)),(by omega)⟩ (Nat.lt_succ_self _) (mc [vo cU8 5 r7 (out++([(A9z.getD ((n).toNat) 0)]:List UInt8))] [true] rfl (by first|rfl|(simp only [List.length_set]<;>rfl))) fn0
 refine I1 (nx (sr 3 rfl (ip' 1 2 [(47,.slice (va outr.q) out.length outr.k)] ?_)))
 refine ix rfl (B9u (r:=outr) (pre:=[]) (post:=[]) Tryz.underlying9 Tryz.underlying30 rfl rfl rfl hokoutr (by kernel_rfl)) ?_
 refine ip' 1 0 [(2,sv out)] ?_
 subst hR
 refine ie (A9 ?_)
 exact F1 hr hD
def N8:Nat→List UInt8→(List UInt8×Int)
 | 0,_=>([],0)
 | fu1+1,t=>(bif (!decide (((t.length:Int) % 4)=0)) then N8 fu1 (t++([61]:List UInt8)) else (t,0))
def A1l (s:List UInt8):List UInt8×Int :=
 (bif (decide ((4096:Int)<(s.length:Int))) then (([]:List UInt8),3) else (C1 (A1p s) fun (y15:List UInt8)=>N8 (((4 - y15.length % 4) % 4)+1) y15))
theorem A7l:∀ (fu:Nat) (t:List UInt8),(N8 fu t).1.length≤t.length+fu
 | 0,t=>Nat.zero_le _
 | fu+1,t=>by
  have ih:=A7l fu (t++[61])
  rw [N8]
  simp only [Bool.cond_eq_ite]
  split
  ·simp only [List.length_append,List.length_cons,List.length_nil] at ih;omega
  ·show t.length≤_;omega
theorem B0w (s:List UInt8):(A1l s).1.length≤33000:=by
 unfold A1l C1
 simp only [Bool.cond_eq_ite,decide_eq_true_eq]
 split
 ·exact Nat.zero_le _
 ·have h1:=B3w s
  have h2:=A7l (((4 - (A1p s).length % 4) % 4)+1) (A1p s)
  omega
theorem C3p (s:List UInt8) (R:List UInt8×Int) (hR:A1l s=R):I6 Tryz.prog 134 [sv s] [] (.tuple #[sv R.1,iv R.2]):=by
 refine zco Tryz.func134 [(0,sv s)] fun X hX hr hD=>?_
 replace hR:=(A1l.eq_1 ..).symm.trans hR
 refine sr 2 rfl (ip' 2 0 [] ?_)
 refine ie (A8 (sr 3 rfl (ip' 3 0 [(7,bv (decide ((4096:Int)<(s.length:Int))))] ?_)))
 refine ie ?_
 refine zjd rfl hR ?_ ?_<;>clear hR<;>intro hR h1 h1p
 ·refine sr 2 rfl (ip' 2 0 [(2,sv ([]:List UInt8)),(3,iv 3)] ?_)
  subst hR
  refine ie (A9 ?_)
  exact A0l hr hD
 refine A6 (nx (sr 3 rfl (ip' 1 2 [(8,sv s)] ?_)))
 have hQ:=D4 hR;clear hR;obtain ⟨y15,hy15,hR⟩:=hQ
 refine zca (C7h s (by omega) y15 hy15) fn0 ?_
 have:=B3w s;try rw [hy15] at this
 refine ip' 1 0 [(4,sv y15)] ?_
 refine ie (A8 (B3 (D2c (fun (fu:Nat) (t:List UInt8)=>(((4 - t.length % 4) % 4)<fu∧N8 fu t=R∧t.length+(4 - t.length % 4) % 4≤33000,[(4,sv t)],[],[],fu)) (((4 - y15.length % 4) % 4)+1) y15 ⟨(Nat.lt_succ_self _),hR,(by omega)⟩ (mk [] rfl) fn0 ?_)))
 rintro fu t ⟨hm2,hR,ht⟩
 obtain ⟨fu1,rfl⟩:∃ m,fu=m+1:=⟨fu - 1,by omega⟩
 replace hR:=(N8.eq_2 ..).symm.trans hR
 refine A8 (sr 4 rfl (ip' 2 2 [(11,iv (t.length:Int))] ?_))
 refine ix rfl (V6 (c:=((t.length:Int) % 4)) rfl rfl rfl (by decide) (by exact ⟨by omega,rfl⟩)) ?_
 refine ip' 1 0 [(13,bv (!decide (((t.length:Int) % 4)=0)))] ?_
 refine ie ?_
 refine zjn rfl hR ?_ ?_<;>clear hR<;>intro hR h3 h3p
 ·refine A6 (nx (B3 (A2 3 rfl (ip' 1 2 [(14,sv t)] ?_))))
  refine ix rfl (zst rfl rfl rfl) ?_
  refine ip' 1 0 [(4,sv (t++([61]:List UInt8)))] ?_
  refine A3 ?_
  have hal:(t++([61]:List UInt8)).length=t.length+1:=by simp
  exact D2j (z1:=(fu1+1)) (z2:=t) fu1 (t++([61]:List UInt8)) ⟨(by omega),hR,(by (simp<;>omega))⟩ (Nat.lt_succ_self _) (mk [] rfl) fn0
 refine I1 (nx (sr 3 rfl (ip' 3 0 [(2,sv t),(3,iv 0)] ?_)))
 subst hR
 refine ie (A9 ?_)
 exact A0l hr hD
def I0 (a:Act):List UInt8×Int :=
 (bif ((decide (a={Act.zero with kind:=44,text:=a.text}))&&(U7 a.text)) then ((([50,59]:List UInt8)++a.text),0) else (bif ((((decide (a={Act.zero with kind:=45,n:=a.n,color:=a.color}))&&(decide ((0:Int)≤a.n)))&&(decide (a.n≤255)))&&(decide (a.color.kind=2))) then (C1 (Z7 a.color) fun (y12:List UInt8×Int)=>(bif (decide (y12.2=0)) then ((((([52,59]:List UInt8)++(G0 (a.n.toNat+1) a.n))++([59]:List UInt8))++y12.1),0) else (([]:List UInt8),2))) else (bif ((decide (a={Act.zero with kind:=46,text:=a.text}))&&(decide ((a.text.length:Int)≤378))) then (C1 (A1l a.text) fun (y16:List UInt8×Int)=>((([53,50,59,99,59]:List UInt8)++y16.1),0)) else (([]:List UInt8),2))))
theorem C0a (a:Act):(I0 a).1.length≤a.text.length+40000:=by
 have h1:=B2r a.color
 have h2:=B0w a.text
 have h3:=Y7 (a.n.toNat+1) a.n
 unfold I0 C1
 simp only [Bool.cond_eq_ite]
 repeat' split
 all_goals try simp only [Bool.and_eq_true,decide_eq_true_eq] at *
 all_goals first|omega|(simp<;>omega)
theorem C4s (a:Act) (R:List UInt8×Int) (hR:I0 a=R):I6 Tryz.prog 91 [ag (A5 a)] [] (.tuple #[sv R.1,iv R.2]):=by
 refine zco Tryz.func91 [(0,ag (A5 a))] fun X hX hr hD=>?_
 replace hR:=(I0.eq_1 ..).symm.trans hR
 refine sr 3 rfl (P0 3 0 [] (fun b1=>[(1,pt b1 0)]) (fun b1=>[bx b1 (A5 a) 26]) (fun b1=>?_))
 refine ie (A8 (B3 (sr 11 rfl (zrl 4 7 [0,0] [(9,ag (A5 a)),(12,ag (A5 ({Act.zero with kind:=44,text:=a.text})))] ?_))))
 refine ix rfl (A7u (a:=a) (b:={Act.zero with kind:=44,text:=a.text}) D0m rfl rfl rfl) ?_
 refine ip' 1 5 [(14,bv (decide (a={Act.zero with kind:=44,text:=a.text})))] ?_
 refine zid 4 1 14 18 (U7 a.text) (fun g2 g2p=>?_) ?_
 ·refine zrl 2 2 [0] [(16,sv a.text)] ?_
  refine zca (C4a a.text _ rfl) fn0 ?_
  refine ip' 1 0 [(18,bv (U7 a.text))] ?_
  exact A3 (L3 4 14 18 g2 fn0 (mk [true] rfl) rfl rfl rfl rfl rfl)
 refine ip' 1 0 [(8,bv ((decide (a={Act.zero with kind:=44,text:=a.text}))&&(U7 a.text)))] ?_
 refine ie ?_
 refine zjb rfl hR ?_ ?_<;>clear hR<;>intro hR h3
 ·have h3p:=h3;try simp at h3p
  have hti:=C1k a.text (by have q:=h3;rw [Bool.and_eq_true] at q;exact q.2)
  refine sr 5 rfl (zrl 2 3 [0] [(20,sv a.text)] ?_)
  refine ix rfl (zst rfl rfl rfl) ?_
  refine ip' 2 0 [(2,sv (([50,59]:List UInt8)++a.text)),(3,iv 0)] ?_
  subst hR
  refine ie (A9 ?_)
  exact A0l hr hD
 have h3p:=h3;try simp at h3p
 refine sr 24 rfl (zrl 6 18 [0,0,0] [(23,ag (A5 a)),(28,ag (A5 ({Act.zero with kind:=45,n:=a.n,color:=a.color})))] ?_)
 refine ix rfl (A7u (a:=a) (b:={Act.zero with kind:=45,n:=a.n,color:=a.color}) D0m rfl rfl rfl) ?_
 refine ip' 1 16 [(30,bv (decide (a={Act.zero with kind:=45,n:=a.n,color:=a.color})))] ?_
 refine zid 4 12 30 34 (decide ((0:Int)≤a.n)) (fun g4 g4p=>?_) ?_
 ·refine zrl 4 0 [0] [(34,bv (decide ((0:Int)≤a.n)))] ?_
  exact A3 (L3 2 30 34 g4 fn0 (mk [true] rfl) rfl rfl rfl rfl rfl)
 refine ip' 1 11 [(35,bv ((decide (a={Act.zero with kind:=45,n:=a.n,color:=a.color}))&&(decide ((0:Int)≤a.n))))] ?_
 refine zia 4 7 35 39 (decide (a.n≤255)) (fun g5=>?_) ?_
 ·have g5p:(a={Act.zero with kind:=45,n:=a.n,color:=a.color})∧((0:Int)≤a.n):=by simpa using g5
  refine zrl 4 0 [0] [(39,bv (decide (a.n≤255)))] ?_
  exact A3 (L3 2 35 39 g5 fn0 (mk [true] rfl) rfl rfl rfl rfl rfl)
 refine ip' 1 6 [(40,bv (((decide (a={Act.zero with kind:=45,n:=a.n,color:=a.color}))&&(decide ((0:Int)≤a.n)))&&(decide (a.n≤255))))] ?_
 refine zia 5 1 40 45 (decide (a.color.kind=2)) (fun g6=>?_) ?_
 ·have g6p:((a={Act.zero with kind:=45,n:=a.n,color:=a.color})∧((0:Int)≤a.n))∧(a.n≤255):=by simpa using g6
  refine zrl 5 0 [0] [(45,bv (decide (a.color.kind=2)))] ?_
  exact A3 (L3 2 40 45 g6 fn0 (mk [true] rfl) rfl rfl rfl rfl rfl)
 refine ip' 1 0 [(22,bv ((((decide (a={Act.zero with kind:=45,n:=a.n,color:=a.color}))&&(decide ((0:Int)≤a.n)))&&(decide (a.n≤255)))&&(decide (a.color.kind=2))))] ?_
 refine ie ?_
 refine zjb rfl hR ?_ ?_<;>clear hR<;>intro hR h7
 ·have h7p:(((a={Act.zero with kind:=45,n:=a.n,color:=a.color})∧((0:Int)≤a.n))∧(a.n≤255))∧(a.color.kind=2):=by simpa using h7
  refine sr 8 rfl (zrl 2 6 [0] [(48,ag (M5 a.color))] ?_)
  have hQ:=D4 hR;clear hR;obtain ⟨y12,hy12,hR⟩:=hQ
  refine zca (C7p a.color y12 hy12) fn0 ?_
  have:=B2r a.color;try rw [hy12] at this
  refine ip' 5 0 [(4,sv y12.1),(5,iv y12.2)] ?_
  refine ie (sr 2 rfl (ip' 2 0 [(53,bv (decide (y12.2=0)))] ?_))
  refine ie ?_
  refine zjd rfl hR ?_ ?_<;>clear hR<;>intro hR h8 h8p
  ·refine sr 9 rfl (zrl 2 7 [0] [(55,iv a.n)] ?_)
   refine zca (C2g (a.n.toNat+1) a.n (by first|omega|(simp<;>omega)) (Nat.lt_succ_self _) _ rfl) fn0 ?_
   have:=Y7 (a.n.toNat+1) a.n
   refine ix rfl (zst rfl rfl rfl) ?_
   refine ix rfl (zst rfl rfl rfl) ?_
   refine ip' 1 3 [(59,sv y12.1)] ?_
   refine ix rfl (zst rfl rfl rfl) ?_
   refine ip' 2 0 [(2,sv (((([52,59]:List UInt8)++(G0 (a.n.toNat+1) a.n))++([59]:List UInt8))++y12.1)),(3,iv 0)] ?_
   subst hR
   refine ie (A9 ?_)
   exact A0l hr hD
  refine A6 (nx (sr 2 rfl (ip' 2 0 [(2,sv ([]:List UInt8)),(3,iv 2)] ?_)))
  subst hR
  refine ie (A9 ?_)
  exact A0l hr hD
 have h7p:¬ ((((a={Act.zero with kind:=45,n:=a.n,color:=a.color})∧((0:Int)≤a.n))∧(a.n≤255))∧(a.color.kind=2)):=by simpa using h7
 refine sr 12 rfl (zrl 4 8 [0,0] [(62,ag (A5 a)),(65,ag (A5 ({Act.zero with kind:=46,text:=a.text})))] ?_)
 refine ix rfl (A7u (a:=a) (b:={Act.zero with kind:=46,text:=a.text}) D0m rfl rfl rfl) ?_
 refine ip' 1 6 [(67,bv (decide (a={Act.zero with kind:=46,text:=a.text})))] ?_
 refine zid 5 1 67 72 (decide ((a.text.length:Int)≤378)) (fun g9 g9p=>?_) ?_
 ·refine zrl 5 0 [0] [(72,bv (decide ((a.text.length:Int)≤378)))] ?_
  exact A3 (L3 2 67 72 g9 fn0 (mk [true] rfl) rfl rfl rfl rfl rfl)
 refine ip' 1 0 [(61,bv ((decide (a={Act.zero with kind:=46,text:=a.text}))&&(decide ((a.text.length:Int)≤378))))] ?_
 refine ie ?_
 refine zja rfl hR ?_ ?_<;>clear hR<;>intro hR h10 h10p
 ·refine sr 8 rfl (zrl 2 6 [0] [(75,sv a.text)] ?_)
  have hQ:=D4 hR;clear hR;obtain ⟨y16,hy16,hR⟩:=hQ
  refine zca (C3p a.text y16 hy16) fn0 ?_
  have:=B0w a.text;try rw [hy16] at this
  refine ip' 5 0 [(6,sv y16.1)] ?_
  refine ie (sr 4 rfl (ip' 1 3 [(79,sv y16.1)] ?_))
  refine ix rfl (zst rfl rfl rfl) ?_
  refine ip' 2 0 [(2,sv (([53,50,59,99,59]:List UInt8)++y16.1)),(3,iv 0)] ?_
  subst hR
  refine ie (A9 ?_)
  exact A0l hr hD
 refine A6 (nx (sr 2 rfl (ip' 2 0 [(2,sv ([]:List UInt8)),(3,iv 2)] ?_)))
 subst hR
 refine ie (A9 ?_)
 exact A0l hr hD
def A6b:List Ar2 :=
 ([(⟨768,879⟩:Ar2),(⟨1155,1161⟩:Ar2),(⟨1425,1469⟩:Ar2),(⟨1552,1562⟩:Ar2),(⟨1611,1631⟩:Ar2),(⟨6832,6911⟩:Ar2),(⟨7616,7679⟩:Ar2),(⟨8203,8207⟩:Ar2),(⟨8400,8447⟩:Ar2),(⟨65024,65039⟩:Ar2),(⟨65056,65071⟩:Ar2)]:List Ar2)
theorem C7k (R:List Ar2) (hR:A6b=R):Con Tryz.prog 194 [] [] [] ({t:Option Addr×Nat // R.length≤t.2∧R.length≤9223372036854775807}) (fun x=>.slice x.1.1 R.length x.1.2) (fun x=>[]) (fun x=>[sl A1a x.1.1 R]):=by
 refine zco Tryz.func194 [] fun X hX hr hD=>?_
 replace hR:=(A6b.eq_1 ..).symm.trans hR
 refine sr 1 rfl (ip' 1 0 [] ?_)
 refine ie (sr 13 rfl (zrl 11 2 [] [(1,ag (A1a (⟨768,879⟩:Ar2))),(2,ag (A1a (⟨1155,1161⟩:Ar2))),(3,ag (A1a (⟨1425,1469⟩:Ar2))),(4,ag (A1a (⟨1552,1562⟩:Ar2))),(5,ag (A1a (⟨1611,1631⟩:Ar2))),(6,ag (A1a (⟨6832,6911⟩:Ar2))),(7,ag (A1a (⟨7616,7679⟩:Ar2))),(8,ag (A1a (⟨8203,8207⟩:Ar2))),(9,ag (A1a (⟨8400,8447⟩:Ar2))),(10,ag (A1a (⟨65024,65039⟩:Ar2))),(11,ag (A1a (⟨65056,65071⟩:Ar2)))] ?_))
 refine it rfl (B6 (c:=A1a) (xs:=([(⟨768,879⟩:Ar2),(⟨1155,1161⟩:Ar2),(⟨1425,1469⟩:Ar2),(⟨1552,1562⟩:Ar2),(⟨1611,1631⟩:Ar2),(⟨6832,6911⟩:Ar2),(⟨7616,7679⟩:Ar2),(⟨8203,8207⟩:Ar2),(⟨8400,8447⟩:Ar2),(⟨65024,65039⟩:Ar2),(⟨65056,65071⟩:Ar2)]:List Ar2)) C6a rfl rfl rfl (by kernel_rfl)) fun b1=>?_
 have:([(⟨768,879⟩:Ar2),(⟨1155,1161⟩:Ar2),(⟨1425,1469⟩:Ar2),(⟨1552,1562⟩:Ar2),(⟨1611,1631⟩:Ar2),(⟨6832,6911⟩:Ar2),(⟨7616,7679⟩:Ar2),(⟨8203,8207⟩:Ar2),(⟨8400,8447⟩:Ar2),(⟨65024,65039⟩:Ar2),(⟨65056,65071⟩:Ar2)]:List Ar2).length=11:=rfl
 refine ip' 1 0 [(0,.slice (some ⟨b1,0,none⟩) 11 11)] ?_
 subst hR
 refine ie (A9 ?_)
 exact zer hr hD (M9 rfl (C0 rfl)) (zq (some ⟨b1,0,none⟩) 11) (mk [] rfl) (A1.con1 (B0 0 rfl) fn0)
def A2y (cp:Int):List Ar2→Nat→Bool
 | [],i=>false
 | hd_l0::tl_l0,i=>(bif ((decide (hd_l0.a≤cp))&&(decide (cp≤hd_l0.b))) then true else A2y cp tl_l0 (i+1))
def A1y (l:List Ar2) (cp:Int):Bool :=
 A2y cp l 0
theorem C2c (l:List Ar2) (cp:Int) (lq:Option Addr) (lk:Nat) (hll:l.length≤9223372036854775807) (hcl:l.length≤lk) (R:Bool) (hR:A1y l cp=R):I6 Tryz.prog 193 [.slice lq l.length lk,iv cp] [sl A1a lq l] (bv R):=by
 refine zco Tryz.func193 [(0,.slice lq l.length lk),(1,iv cp)] fun X hX hr hD=>?_
 replace hR:=(A1y.eq_1 ..).symm.trans hR
 refine sr 1 rfl (ip' 1 0 [] ?_)
 refine ie (A8 (sr 1 rfl (ip' 1 0 [(5,iv 0)] ?_)))
 refine ie (B3 (C9v (fun (i:Nat)=>(i≤l.length∧A2y cp (l.drop i) i=R,[(0,.slice lq l.length lk),(1,iv cp),(5,iv (i:Int))],[],[sl A1a lq l],l.length - i)) 0 ⟨(by omega),hR⟩ (mk [] rfl) A1.refl ?_))
 rintro i ⟨hm1,hR⟩
 refine A8 (sr 4 rfl (ip' 4 0 [(9,bv (decide ((i:Int)<(l.length:Int))))] ?_))
 refine ie (A1r rfl (fun h2=>?_) (fun h2=>?_))
 ·have h2p:(i:Int)<(l.length:Int):=by simpa using h2
  rw [A4m Ar2.zero (show i<l.length by omega)] at hR;replace hR:=(A2y.eq_2 ..).symm.trans hR
  refine A6 (nx (A8 (B3 (sr 16 rfl (ip' 3 13 [(12,iv cp),(13,.slice lq l.length lk),(14,iv (i:Int))] ?_)))))
  refine O8 0 rfl (by omega) fun a3 hq4=>?_
  refine ix rfl (L8 C6a rfl rfl hq4 rfl i rfl (by omega)) ?_
  refine ix rfl (A8n Tryz.underlying71 ty3 rfl rfl rfl 0 rfl (by decide)) ?_
  refine ix rfl (F2 (v:=iv ((l.getD i Ar2.zero).a)) (us:=[iv ((l.getD i Ar2.zero).a)]) ty3 rfl rfl (C1b (N7 (c:=A1a) (sz:=2) hq4 (fun _=>rfl) 0 rfl (gd Ar2.zero (by omega))) (ws:=[iv ((l.getD i Ar2.zero).a)]) 0 1 rfl) rfl) ?_
  refine ip' 2 8 [(19,bv (decide ((l.getD i Ar2.zero).a≤cp)))] ?_
  refine zid 8 0 19 27 (decide (cp≤(l.getD i Ar2.zero).b)) (fun g5 g5p=>?_) ?_
  ·refine ip' 3 5 [(20,iv cp),(21,.slice lq l.length lk),(22,iv (i:Int))] ?_
   refine ix rfl (L8 C6a rfl rfl hq4 rfl i rfl (by omega)) ?_
   refine ix rfl (A8n Tryz.underlying71 ty3 rfl rfl rfl 1 rfl (by decide)) ?_
   refine ix rfl (F2 (v:=iv ((l.getD i Ar2.zero).b)) (us:=[iv ((l.getD i Ar2.zero).b)]) ty3 rfl rfl (C1b (N7 (c:=A1a) (sz:=2) hq4 (fun _=>rfl) 0 rfl (gd Ar2.zero (by omega))) (ws:=[iv ((l.getD i Ar2.zero).b)]) 1 1 rfl) rfl) ?_
   refine ip' 2 0 [(27,bv (decide (cp≤(l.getD i Ar2.zero).b)))] ?_
   exact zai 8 19 27 g5
  refine ie ?_
  refine zja rfl hR ?_ ?_<;>clear hR<;>intro hR h6 h6p
  ·refine sr 1 rfl (ip' 1 0 [(4,bv true)] ?_)
   subst hR
   refine ie (A9 ?_)
   exact F1 hr hD
  refine A6 (nx (A2 3 rfl (ip' 1 2 [(10,iv (i:Int))] ?_)))
  refine ix rfl (B5 rfl rfl rfl rfl (by omega)) ?_
  refine ip' 1 0 [(5,iv ((i:Int)+1))] ?_
  refine A3 ?_
  exact C8g (z1:=i) (i+1) ⟨(by omega),hR⟩ (by (try dsimp only);omega) (mk [] rfl) A1.refl
 have h2p:¬ ((i:Int)<(l.length:Int)):=by simpa using h2
 rw [A4n h2p] at hR;replace hR:=(A2y.eq_1 ..).symm.trans hR
 refine I1 (nx (sr 1 rfl (ip' 1 0 [(4,bv false)] ?_)))
 subst hR
 refine ie (A9 ?_)
 exact F1 hr hD
def A6e:List Ar2 :=
 ([(⟨4352,4447⟩:Ar2),(⟨11904,12350⟩:Ar2),(⟨12353,13311⟩:Ar2),(⟨13312,19903⟩:Ar2),(⟨19968,40959⟩:Ar2),(⟨40960,42191⟩:Ar2),(⟨44032,55203⟩:Ar2),(⟨63744,64255⟩:Ar2),(⟨65072,65135⟩:Ar2),(⟨65280,65376⟩:Ar2),(⟨65504,65510⟩:Ar2),(⟨127744,128591⟩:Ar2),(⟨128640,128767⟩:Ar2),(⟨129280,129535⟩:Ar2),(⟨131072,262141⟩:Ar2)]:List Ar2)
theorem C8p (R:List Ar2) (hR:A6e=R):Con Tryz.prog 195 [] [] [] ({t:Option Addr×Nat // R.length≤t.2∧R.length≤9223372036854775807}) (fun x=>.slice x.1.1 R.length x.1.2) (fun x=>[]) (fun x=>[sl A1a x.1.1 R]):=by
 refine zco Tryz.func195 [] fun X hX hr hD=>?_
 replace hR:=(A6e.eq_1 ..).symm.trans hR
 refine sr 1 rfl (ip' 1 0 [] ?_)
 refine ie (sr 17 rfl (zrl 15 2 [] [(1,ag (A1a (⟨4352,4447⟩:Ar2))),(2,ag (A1a (⟨11904,12350⟩:Ar2))),(3,ag (A1a (⟨12353,13311⟩:Ar2))),(4,ag (A1a (⟨13312,19903⟩:Ar2))),(5,ag (A1a (⟨19968,40959⟩:Ar2))),(6,ag (A1a (⟨40960,42191⟩:Ar2))),(7,ag (A1a (⟨44032,55203⟩:Ar2))),(8,ag (A1a (⟨63744,64255⟩:Ar2))),(9,ag (A1a (⟨65072,65135⟩:Ar2))),(10,ag (A1a (⟨65280,65376⟩:Ar2))),(11,ag (A1a (⟨65504,65510⟩:Ar2))),(12,ag (A1a (⟨127744,128591⟩:Ar2))),(13,ag (A1a (⟨128640,128767⟩:Ar2))),(14,ag (A1a (⟨129280,129535⟩:Ar2))),(15,ag (A1a (⟨131072,262141⟩:Ar2)))] ?_))
 refine it rfl (B6 (c:=A1a) (xs:=([(⟨4352,4447⟩:Ar2),(⟨11904,12350⟩:Ar2),(⟨12353,13311⟩:Ar2),(⟨13312,19903⟩:Ar2),(⟨19968,40959⟩:Ar2),(⟨40960,42191⟩:Ar2),(⟨44032,55203⟩:Ar2),(⟨63744,64255⟩:Ar2),(⟨65072,65135⟩:Ar2),(⟨65280,65376⟩:Ar2),(⟨65504,65510⟩:Ar2),(⟨127744,128591⟩:Ar2),(⟨128640,128767⟩:Ar2),(⟨129280,129535⟩:Ar2),(⟨131072,262141⟩:Ar2)]:List Ar2)) C6a rfl rfl rfl (by kernel_rfl)) fun b1=>?_
 have:([(⟨4352,4447⟩:Ar2),(⟨11904,12350⟩:Ar2),(⟨12353,13311⟩:Ar2),(⟨13312,19903⟩:Ar2),(⟨19968,40959⟩:Ar2),(⟨40960,42191⟩:Ar2),(⟨44032,55203⟩:Ar2),(⟨63744,64255⟩:Ar2),(⟨65072,65135⟩:Ar2),(⟨65280,65376⟩:Ar2),(⟨65504,65510⟩:Ar2),(⟨127744,128591⟩:Ar2),(⟨128640,128767⟩:Ar2),(⟨129280,129535⟩:Ar2),(⟨131072,262141⟩:Ar2)]:List Ar2).length=15:=rfl
 refine ip' 1 0 [(0,.slice (some ⟨b1,0,none⟩) 15 15)] ?_
 subst hR
 refine ie (A9 ?_)
 exact zer hr hD (M9 rfl (C0 rfl)) (zq (some ⟨b1,0,none⟩) 15) (mk [] rfl) (A1.con1 (B0 0 rfl) fn0)
def A6w (cp:Int):Int :=
 (bif (((!(P4 cp))||(decide (cp<32)))||((decide ((127:Int)≤cp))&&(decide (cp<160)))) then (-1) else (C1 A6b fun (y18:List Ar2)=>(bif (A1y y18 cp) then 0 else (C1 A6e fun (y19:List Ar2)=>(bif (A1y y19 cp) then 2 else 1)))))
theorem D1d (cp:Int) (R:Int) (hR:A6w cp=R):I6 Tryz.prog 135 [iv cp] [] (iv R):=by
 refine zco Tryz.func135 [(0,iv cp)] fun X hX hr hD=>?_
 replace hR:=(A6w.eq_1 ..).symm.trans hR
 refine sr 1 rfl (ip' 1 0 [] ?_)
 refine ie (A8 (sr 15 rfl (ip' 1 14 [(3,iv cp)] ?_)))
 refine zca (B5a cp _ rfl) fn0 ?_
 refine ip' 2 11 [(6,bv (!(P4 cp)))] ?_
 refine zio 3 8 6 9 (decide (cp<32)) (fun g1=>?_) ?_
 ·refine ip' 3 0 [(9,bv (decide (cp<32)))] ?_
  exact A3 (L3 2 6 9 g1 fn0 (mk [] rfl) rfl rfl rfl rfl rfl)
 refine ip' 1 7 [(10,bv ((!(P4 cp))||(decide (cp<32))))] ?_
 refine zio 7 0 10 17 ((decide ((127:Int)≤cp))&&(decide (cp<160))) (fun g2=>?_) ?_
 ·have g2p:=g2;try simp at g2p
  refine ip' 3 4 [(13,bv (decide ((127:Int)≤cp)))] ?_
  refine zid 3 1 13 16 (decide (cp<160)) (fun g3 g3p=>?_) ?_
  ·refine ip' 3 0 [(16,bv (decide (cp<160)))] ?_
   exact A3 (L3 2 13 16 g3 fn0 (mk [] rfl) rfl rfl rfl rfl rfl)
  refine ip' 1 0 [(17,bv ((decide ((127:Int)≤cp))&&(decide (cp<160))))] ?_
  exact A3 (L3 4 10 17 g2 fn0 (mk [] rfl) rfl rfl rfl rfl rfl)
 refine ie ?_
 refine zjb rfl hR ?_ ?_<;>clear hR<;>intro hR h4
 ·have h4p:=h4;try simp at h4p
  refine sr 1 rfl (ip' 1 0 [(2,iv (-1))] ?_)
  subst hR
  refine ie (A9 ?_)
  exact F1 hr hD
 have h4p:=h4;try simp at h4p
 refine A6 (nx (A8 (sr 3 rfl ?_)))
 have hQ:=D4 hR;clear hR;obtain ⟨y18,hy18,hR⟩:=hQ
 refine zcm (C7k y18 hy18) fn0 fun ⟨⟨q5,k6⟩,hp7⟩=>?_
 obtain ⟨hc8,hl9⟩:=hp7
 refine ip' 1 1 [(19,iv cp)] ?_
 refine zca (C2c y18 cp q5 k6 (by first|omega|(simp<;>omega)|(dsimp only;omega)|decide) (by first|omega|(simp<;>omega)|(dsimp only;omega)|decide) _ rfl) A1.refl ?_
 refine ie ?_
 refine zjb rfl hR ?_ ?_<;>clear hR<;>intro hR h10
 ·refine sr 1 rfl (ip' 1 0 [(2,iv 0)] ?_)
  subst hR
  refine ie (A9 ?_)
  exact F1 hr hD
 refine A6 (nx (A8 (sr 3 rfl ?_)))
 have hQ:=D4 hR;clear hR;obtain ⟨y19,hy19,hR⟩:=hQ
 refine zcm (C8p y19 hy19) fn0 fun ⟨⟨q11,k12⟩,hp13⟩=>?_
 obtain ⟨hc14,hl15⟩:=hp13
 refine ip' 1 1 [(22,iv cp)] ?_
 refine zca (C2c y19 cp q11 k12 (by first|omega|(simp<;>omega)|(dsimp only;omega)|decide) (by first|omega|(simp<;>omega)|(dsimp only;omega)|decide) _ rfl) (A1.pick [0] rfl) ?_
 refine ie ?_
 refine zjb rfl hR ?_ ?_<;>clear hR<;>intro hR h16
 ·refine sr 1 rfl (ip' 1 0 [(2,iv 2)] ?_)
  subst hR
  refine ie (A9 ?_)
  exact F1 hr hD
 refine A6 (nx (sr 1 rfl (ip' 1 0 [(2,iv 1)] ?_)))
 subst hR
 refine ie (A9 ?_)
 exact F1 hr hD
def F6 (n:Int) (from_:Int) (to_:Int):Bool :=
 ((decide (from_≤n))&&(decide (n≤to_)))
theorem S2 (n:Int) (from_:Int) (to_:Int) (R:Bool) (hR:F6 n from_ to_=R):I6 Tryz.prog 136 [iv n,iv from_,iv to_] [] (bv R):=by
 refine zco Tryz.func136 [(0,iv n),(1,iv from_),(2,iv to_)] fun X hX hr hD=>?_
 replace hR:=(F6.eq_1 ..).symm.trans hR
 refine sr 1 rfl (ip' 1 0 [] ?_)
 refine ie (sr 9 rfl (ip' 4 5 [(10,bv (decide (from_≤n)))] ?_))
 refine zid 4 1 10 14 (decide (n≤to_)) (fun g1 g1p=>?_) ?_
 ·refine ip' 4 0 [(14,bv (decide (n≤to_)))] ?_
  exact A3 (L3 2 10 14 g1 fn0 (mk [] rfl) rfl rfl rfl rfl rfl)
 refine ip' 1 0 [(6,bv ((decide (from_≤n))&&(decide (n≤to_))))] ?_
 subst hR
 refine ie (A9 ?_)
 exact F1 hr hD
def J7 (n:Int):Bool :=
 (F6 n 1 9999)
theorem A3t (n:Int) (R:Bool) (hR:J7 n=R):I6 Tryz.prog 137 [iv n] [] (bv R):=by
 refine zco Tryz.func137 [(0,iv n)] fun X hX hr hD=>?_
 replace hR:=(J7.eq_1 ..).symm.trans hR
 refine sr 1 rfl (ip' 1 0 [] ?_)
 refine ie (sr 3 rfl (ip' 1 2 [(3,iv n)] ?_))
 refine zca (S2 n 1 9999 _ rfl) fn0 ?_
 refine ip' 1 0 [(2,bv (F6 n 1 9999))] ?_
 subst hR
 refine ie (A9 ?_)
 exact F1 hr hD
def S7 (a:Act) (t155:Bool):Bool :=
 (bif t155 then ((F6 a.n 0 9999)&&(F6 a.m 0 1)) else (bif (decide (a.kind=38)) then ((F6 a.n 0 9999)&&(F6 a.m 0 9999)) else (bif (decide (a.kind=40)) then ((F6 a.n 0 6)&&(decide (a.m=0))) else (bif (decide (a.kind=41)) then ((F6 a.n 5 6)&&(decide (a.m=0))) else false))))
def I7 (a:Act) (t101:Bool):Bool :=
 (bif t101 then ((J7 a.n)&&(decide (a.m=0))) else (bif (decide (a.kind=26)) then ((F6 a.n 0 3)&&(decide (a.m=0))) else (bif (decide (a.kind=27)) then ((F6 a.n 0 2)&&(decide (a.m=0))) else (bif (decide (a.kind=35)) then (((decide (a.n=0))||(decide (a.n=3)))&&(decide (a.m=0))) else (bif (decide (a.kind=36)) then S7 a (decide (a.kind=36)) else (bif (decide (a.kind=37)) then S7 a (decide (a.kind=37)) else S7 a (decide (a.kind=43))))))))
def W3 (a:Act) (t90:Bool):Bool :=
 (bif t90 then ((F6 a.n 0 1)&&(J7 a.m)) else (bif (decide (a.kind=22)) then I7 a (decide (a.kind=22)) else (bif (decide (a.kind=23)) then I7 a (decide (a.kind=23)) else (bif (decide (a.kind=24)) then I7 a (decide (a.kind=24)) else (bif (decide (a.kind=25)) then I7 a (decide (a.kind=25)) else (bif (decide (a.kind=28)) then I7 a (decide (a.kind=28)) else (bif (decide (a.kind=29)) then I7 a (decide (a.kind=29)) else (bif (decide (a.kind=30)) then I7 a (decide (a.kind=30)) else (bif (decide (a.kind=31)) then I7 a (decide (a.kind=31)) else (bif (decide (a.kind=32)) then I7 a (decide (a.kind=32)) else I7 a (decide (a.kind=34))))))))))))
def S5 (a:Act) (t38:Bool):Bool :=
 (bif t38 then ((F6 a.n 0 1)&&(decide (a.m=0))) else (bif (decide (a.kind=17)) then ((F6 a.n 0 3)&&(F6 a.m 0 1)) else (bif (decide (a.kind=18)) then ((F6 a.n 2 3)&&(decide (a.m=0))) else (bif (decide (a.kind=19)) then ((J7 a.n)&&(J7 a.m)) else (bif (decide (a.kind=20)) then ((F6 a.n 0 3)&&(J7 a.m)) else (bif (decide (a.kind=21)) then W3 a (decide (a.kind=21)) else W3 a (decide (a.kind=33))))))))
def G7 (a:Act) (t16:Bool):Bool :=
 (bif t16 then ((decide (a.n=0))&&(decide (a.m=0))) else (bif (decide (a.kind=7)) then S5 a (decide (a.kind=7)) else (bif (decide (a.kind=14)) then S5 a (decide (a.kind=14)) else S5 a (decide (a.kind=42)))))
def M3 (a:Act):Bool :=
 (bif (decide (a.kind=1)) then ((decide ((0:Int)≤(A6w a.n)))&&(decide (a.m=0))) else (bif (decide (a.kind=2)) then G7 a (decide (a.kind=2)) else (bif (decide (a.kind=3)) then G7 a (decide (a.kind=3)) else (bif (decide (a.kind=4)) then G7 a (decide (a.kind=4)) else (bif (decide (a.kind=5)) then G7 a (decide (a.kind=5)) else (bif (decide (a.kind=6)) then G7 a (decide (a.kind=6)) else (bif (decide (a.kind=8)) then G7 a (decide (a.kind=8)) else (bif (decide (a.kind=9)) then G7 a (decide (a.kind=9)) else (bif (decide (a.kind=10)) then G7 a (decide (a.kind=10)) else (bif (decide (a.kind=11)) then G7 a (decide (a.kind=11)) else (bif (decide (a.kind=12)) then G7 a (decide (a.kind=12)) else (bif (decide (a.kind=13)) then G7 a (decide (a.kind=13)) else (bif (decide (a.kind=15)) then G7 a (decide (a.kind=15)) else G7 a (decide (a.kind=16)))))))))))))))
theorem C0f (a:Act) (R:Bool) (hR:M3 a=R):I6 Tryz.prog 92 [ag (A5 a)] [] (bv R):=by
 refine zco Tryz.func92 [(0,ag (A5 a))] fun X hX hr hD=>?_
 replace hR:=(M3.eq_1 ..).symm.trans hR
 refine sr 2 rfl (P0 2 0 [] (fun b1=>[(1,pt b1 0)]) (fun b1=>[bx b1 (A5 a) 26]) (fun b1=>?_))
 refine ie (A8 (sr 2 rfl (zrl 2 0 [0] [(4,iv a.kind)] ?_)))
 refine ie (B3 (sr 2 rfl (ip' 2 0 [(5,bv (decide (a.kind=1)))] ?_)))
 refine ie ?_
 refine zjd rfl hR ?_ ?_<;>clear hR<;>intro hR h2 h2p
 ·refine sr 10 rfl (zrl 2 8 [0] [(8,iv a.n)] ?_)
  refine zca (D1d a.n _ rfl) fn0 ?_
  refine ip' 2 5 [(11,bv (decide ((0:Int)≤(A6w a.n))))] ?_
  refine zid 4 1 11 15 (decide (a.m=0)) (fun g3 g3p=>?_) ?_
  ·refine zrl 4 0 [0] [(15,bv (decide (a.m=0)))] ?_
   exact A3 (L3 2 11 15 g3 fn0 (mk [true] rfl) rfl rfl rfl rfl rfl)
  refine ip' 1 0 [(2,bv ((decide ((0:Int)≤(A6w a.n)))&&(decide (a.m=0))))] ?_
  subst hR
  refine ie (A9 ?_)
  exact F1 hr hD
 refine B7n (fun (t16:Bool)=>(G7 a t16=R,[(1,pt b1 0),(4,iv a.kind),(16,bv t16)],[bx b1 (A5 a) 26],[])) ?_ ?_
 ·refine sr 2 rfl (ip' 2 0 [(16,bv (decide (a.kind=2)))] ?_)
  refine ie ?_
  refine zjd rfl hR ?_ ?_<;>clear hR<;>intro hR h4 h4p
  ·refine A6 ?_
   exact V5 (decide (a.kind=2)) hR (mk [true] rfl) fn0
  refine sr 2 rfl (ip' 2 0 [(16,bv (decide (a.kind=3)))] ?_)
  refine ie ?_
  refine zjd rfl hR ?_ ?_<;>clear hR<;>intro hR h5 h5p
  ·refine A6 ?_
   exact V5 (decide (a.kind=3)) hR (mk [true] rfl) fn0
  refine sr 2 rfl (ip' 2 0 [(16,bv (decide (a.kind=4)))] ?_)
  refine ie ?_
  refine zjd rfl hR ?_ ?_<;>clear hR<;>intro hR h6 h6p
  ·refine A6 ?_
   exact V5 (decide (a.kind=4)) hR (mk [true] rfl) fn0
  refine sr 2 rfl (ip' 2 0 [(16,bv (decide (a.kind=5)))] ?_)
  refine ie ?_
  refine zjd rfl hR ?_ ?_<;>clear hR<;>intro hR h7 h7p
  ·refine A6 ?_
   exact V5 (decide (a.kind=5)) hR (mk [true] rfl) fn0
  refine sr 2 rfl (ip' 2 0 [(16,bv (decide (a.kind=6)))] ?_)
  refine ie ?_
  refine zjd rfl hR ?_ ?_<;>clear hR<;>intro hR h8 h8p
  ·refine A6 ?_
   exact V5 (decide (a.kind=6)) hR (mk [true] rfl) fn0
  refine sr 2 rfl (ip' 2 0 [(16,bv (decide (a.kind=8)))] ?_)
  refine ie ?_
  refine zjd rfl hR ?_ ?_<;>clear hR<;>intro hR h9 h9p
  ·refine A6 ?_
   exact V5 (decide (a.kind=8)) hR (mk [true] rfl) fn0
  refine sr 2 rfl (ip' 2 0 [(16,bv (decide (a.kind=9)))] ?_)
  refine ie ?_
  refine zjd rfl hR ?_ ?_<;>clear hR<;>intro hR h10 h10p
  ·refine A6 ?_
   exact V5 (decide (a.kind=9)) hR (mk [true] rfl) fn0
  refine sr 2 rfl (ip' 2 0 [(16,bv (decide (a.kind=10)))] ?_)
  refine ie ?_
  refine zjd rfl hR ?_ ?_<;>clear hR<;>intro hR h11 h11p
  ·refine A6 ?_
   exact V5 (decide (a.kind=10)) hR (mk [true] rfl) fn0
  refine sr 2 rfl (ip' 2 0 [(16,bv (decide (a.kind=11)))] ?_)
  refine ie ?_
  refine zjd rfl hR ?_ ?_<;>clear hR<;>intro hR h12 h12p
  ·refine A6 ?_
   exact V5 (decide (a.kind=11)) hR (mk [true] rfl) fn0
  refine sr 2 rfl (ip' 2 0 [(16,bv (decide (a.kind=12)))] ?_)
  refine ie ?_
  refine zjd rfl hR ?_ ?_<;>clear hR<;>intro hR h13 h13p
  ·refine A6 ?_
   exact V5 (decide (a.kind=12)) hR (mk [true] rfl) fn0
  refine sr 2 rfl (ip' 2 0 [(16,bv (decide (a.kind=13)))] ?_)
  refine ie ?_
  refine zjd rfl hR ?_ ?_<;>clear hR<;>intro hR h14 h14p
  ·refine A6 ?_
   exact V5 (decide (a.kind=13)) hR (mk [true] rfl) fn0
  refine sr 2 rfl (ip' 2 0 [(16,bv (decide (a.kind=15)))] ?_)
  refine ie ?_
  refine zjd rfl hR ?_ ?_<;>clear hR<;>intro hR h15 h15p
  ·refine A6 ?_
   exact V5 (decide (a.kind=15)) hR (mk [true] rfl) fn0
  refine A2 2 rfl (ip' 2 0 [(16,bv (decide (a.kind=16)))] ?_)
  refine A3 ?_
  exact V5 (decide (a.kind=16)) hR (mk [true] rfl) fn0
 intro t16
 rintro hR
 replace hR:=(G7.eq_1 ..).symm.trans hR
 refine zjb rfl hR ?_ ?_<;>clear hR<;>intro hR h16
 ·refine sr 9 rfl (zrl 4 5 [0] [(33,bv (decide (a.n=0)))] ?_)
  refine zid 4 1 33 37 (decide (a.m=0)) (fun g17 g17p=>?_) ?_
  ·refine zrl 4 0 [0] [(37,bv (decide (a.m=0)))] ?_
   exact A3 (L3 2 33 37 g17 fn0 (mk [true] rfl) rfl rfl rfl rfl rfl)
  refine ip' 1 0 [(2,bv ((decide (a.n=0))&&(decide (a.m=0))))] ?_
  subst hR
  refine ie (A9 ?_)
  exact F1 hr hD
 refine B7n (fun (t38:Bool)=>(S5 a t38=R,[(1,pt b1 0),(4,iv a.kind),(38,bv t38)],[bx b1 (A5 a) 26],[])) ?_ ?_
 ·refine sr 2 rfl (ip' 2 0 [(38,bv (decide (a.kind=7)))] ?_)
  refine ie ?_
  refine zjd rfl hR ?_ ?_<;>clear hR<;>intro hR h18 h18p
  ·refine A6 ?_
   exact V5 (decide (a.kind=7)) hR (mk [true] rfl) fn0
  refine sr 2 rfl (ip' 2 0 [(38,bv (decide (a.kind=14)))] ?_)
  refine ie ?_
  refine zjd rfl hR ?_ ?_<;>clear hR<;>intro hR h19 h19p
  ·refine A6 ?_
   exact V5 (decide (a.kind=14)) hR (mk [true] rfl) fn0
  refine A2 2 rfl (ip' 2 0 [(38,bv (decide (a.kind=42)))] ?_)
  refine A3 ?_
  exact V5 (decide (a.kind=42)) hR (mk [true] rfl) fn0
 intro t38
 rintro hR
 replace hR:=(S5.eq_1 ..).symm.trans hR
 refine zjb rfl hR ?_ ?_<;>clear hR<;>intro hR h20
 ·refine sr 9 rfl (zrl 2 7 [0] [(43,iv a.n)] ?_)
  refine zca (S2 a.n 0 1 _ rfl) fn0 ?_
  refine ip' 1 5 [(45,bv (F6 a.n 0 1))] ?_
  refine zia 4 1 45 49 (decide (a.m=0)) (fun g21=>?_) ?_
  ·refine zrl 4 0 [0] [(49,bv (decide (a.m=0)))] ?_
   exact A3 (L3 2 45 49 g21 fn0 (mk [true] rfl) rfl rfl rfl rfl rfl)
  refine ip' 1 0 [(2,bv ((F6 a.n 0 1)&&(decide (a.m=0))))] ?_
  subst hR
  refine ie (A9 ?_)
  exact F1 hr hD
 refine sr 2 rfl (ip' 2 0 [(50,bv (decide (a.kind=17)))] ?_)
 refine ie ?_
 refine zjd rfl hR ?_ ?_<;>clear hR<;>intro hR h22 h22p
 ·refine sr 9 rfl (zrl 2 7 [0] [(53,iv a.n)] ?_)
  refine zca (S2 a.n 0 3 _ rfl) fn0 ?_
  refine ip' 1 5 [(55,bv (F6 a.n 0 3))] ?_
  refine zia 4 1 55 59 (F6 a.m 0 1) (fun g23=>?_) ?_
  ·refine zrl 2 2 [0] [(57,iv a.m)] ?_
   refine zca (S2 a.m 0 1 _ rfl) fn0 ?_
   refine ip' 1 0 [(59,bv (F6 a.m 0 1))] ?_
   exact A3 (L3 4 55 59 g23 fn0 (mk [true] rfl) rfl rfl rfl rfl rfl)
  refine ip' 1 0 [(2,bv ((F6 a.n 0 3)&&(F6 a.m 0 1)))] ?_
  subst hR
  refine ie (A9 ?_)
  exact F1 hr hD
 refine sr 2 rfl (ip' 2 0 [(60,bv (decide (a.kind=18)))] ?_)
 refine ie ?_
 refine zjd rfl hR ?_ ?_<;>clear hR<;>intro hR h24 h24p
 ·refine sr 9 rfl (zrl 2 7 [0] [(63,iv a.n)] ?_)
  refine zca (S2 a.n 2 3 _ rfl) fn0 ?_
  refine ip' 1 5 [(65,bv (F6 a.n 2 3))] ?_
  refine zia 4 1 65 69 (decide (a.m=0)) (fun g25=>?_) ?_
  ·refine zrl 4 0 [0] [(69,bv (decide (a.m=0)))] ?_
   exact A3 (L3 2 65 69 g25 fn0 (mk [true] rfl) rfl rfl rfl rfl rfl)
  refine ip' 1 0 [(2,bv ((F6 a.n 2 3)&&(decide (a.m=0))))] ?_
  subst hR
  refine ie (A9 ?_)
  exact F1 hr hD
 refine sr 2 rfl (ip' 2 0 [(70,bv (decide (a.kind=19)))] ?_)
 refine ie ?_
 refine zjd rfl hR ?_ ?_<;>clear hR<;>intro hR h26 h26p
 ·refine sr 9 rfl (zrl 2 7 [0] [(73,iv a.n)] ?_)
  refine zca (A3t a.n _ rfl) fn0 ?_
  refine ip' 1 5 [(75,bv (J7 a.n))] ?_
  refine zia 4 1 75 79 (J7 a.m) (fun g27=>?_) ?_
  ·refine zrl 2 2 [0] [(77,iv a.m)] ?_
   refine zca (A3t a.m _ rfl) fn0 ?_
   refine ip' 1 0 [(79,bv (J7 a.m))] ?_
   exact A3 (L3 4 75 79 g27 fn0 (mk [true] rfl) rfl rfl rfl rfl rfl)
  refine ip' 1 0 [(2,bv ((J7 a.n)&&(J7 a.m)))] ?_
  subst hR
  refine ie (A9 ?_)
  exact F1 hr hD
 refine sr 2 rfl (ip' 2 0 [(80,bv (decide (a.kind=20)))] ?_)
 refine ie ?_
 refine zjd rfl hR ?_ ?_<;>clear hR<;>intro hR h28 h28p
 ·refine sr 9 rfl (zrl 2 7 [0] [(83,iv a.n)] ?_)
  refine zca (S2 a.n 0 3 _ rfl) fn0 ?_
  refine ip' 1 5 [(85,bv (F6 a.n 0 3))] ?_
  refine zia 4 1 85 89 (J7 a.m) (fun g29=>?_) ?_
  ·refine zrl 2 2 [0] [(87,iv a.m)] ?_
   refine zca (A3t a.m _ rfl) fn0 ?_
   refine ip' 1 0 [(89,bv (J7 a.m))] ?_
   exact A3 (L3 4 85 89 g29 fn0 (mk [true] rfl) rfl rfl rfl rfl rfl)
  refine ip' 1 0 [(2,bv ((F6 a.n 0 3)&&(J7 a.m)))] ?_
  subst hR
  refine ie (A9 ?_)
  exact F1 hr hD
 refine B7n (fun (t90:Bool)=>(W3 a t90=R,[(1,pt b1 0),(4,iv a.kind),(90,bv t90)],[bx b1 (A5 a) 26],[])) ?_ ?_
 ·refine sr 2 rfl (ip' 2 0 [(90,bv (decide (a.kind=21)))] ?_)
  refine ie ?_
  refine zjd rfl hR ?_ ?_<;>clear hR<;>intro hR h30 h30p
  ·refine A6 ?_
   exact V5 (decide (a.kind=21)) hR (mk [true] rfl) fn0
  refine A2 2 rfl (ip' 2 0 [(90,bv (decide (a.kind=33)))] ?_)
  refine A3 ?_
  exact V5 (decide (a.kind=33)) hR (mk [true] rfl) fn0
 intro t90
 rintro hR
 replace hR:=(W3.eq_1 ..).symm.trans hR
 refine zjb rfl hR ?_ ?_<;>clear hR<;>intro hR h31
 ·refine sr 9 rfl (zrl 2 7 [0] [(94,iv a.n)] ?_)
  refine zca (S2 a.n 0 1 _ rfl) fn0 ?_
  refine ip' 1 5 [(96,bv (F6 a.n 0 1))] ?_
  refine zia 4 1 96 100 (J7 a.m) (fun g32=>?_) ?_
  ·refine zrl 2 2 [0] [(98,iv a.m)] ?_
   refine zca (A3t a.m _ rfl) fn0 ?_
   refine ip' 1 0 [(100,bv (J7 a.m))] ?_
   exact A3 (L3 4 96 100 g32 fn0 (mk [true] rfl) rfl rfl rfl rfl rfl)
  refine ip' 1 0 [(2,bv ((F6 a.n 0 1)&&(J7 a.m)))] ?_
  subst hR
  refine ie (A9 ?_)
  exact F1 hr hD
 refine B7n (fun (t101:Bool)=>(I7 a t101=R,[(1,pt b1 0),(4,iv a.kind),(101,bv t101)],[bx b1 (A5 a) 26],[])) ?_ ?_
 ·refine sr 2 rfl (ip' 2 0 [(101,bv (decide (a.kind=22)))] ?_)
  refine ie ?_
  refine zjd rfl hR ?_ ?_<;>clear hR<;>intro hR h33 h33p
  ·refine A6 ?_
   exact V5 (decide (a.kind=22)) hR (mk [true] rfl) fn0
  refine sr 2 rfl (ip' 2 0 [(101,bv (decide (a.kind=23)))] ?_)
  refine ie ?_
  refine zjd rfl hR ?_ ?_<;>clear hR<;>intro hR h34 h34p
  ·refine A6 ?_
   exact V5 (decide (a.kind=23)) hR (mk [true] rfl) fn0
  refine sr 2 rfl (ip' 2 0 [(101,bv (decide (a.kind=24)))] ?_)
  refine ie ?_
  refine zjd rfl hR ?_ ?_<;>clear hR<;>intro hR h35 h35p
  ·refine A6 ?_
   exact V5 (decide (a.kind=24)) hR (mk [true] rfl) fn0
  refine sr 2 rfl (ip' 2 0 [(101,bv (decide (a.kind=25)))] ?_)
  refine ie ?_
  refine zjd rfl hR ?_ ?_<;>clear hR<;>intro hR h36 h36p
  ·refine A6 ?_
   exact V5 (decide (a.kind=25)) hR (mk [true] rfl) fn0
  refine sr 2 rfl (ip' 2 0 [(101,bv (decide (a.kind=28)))] ?_)
  refine ie ?_
  refine zjd rfl hR ?_ ?_<;>clear hR<;>intro hR h37 h37p
  ·refine A6 ?_
   exact V5 (decide (a.kind=28)) hR (mk [true] rfl) fn0
  refine sr 2 rfl (ip' 2 0 [(101,bv (decide (a.kind=29)))] ?_)
  refine ie ?_
  refine zjd rfl hR ?_ ?_<;>clear hR<;>intro hR h38 h38p
  ·refine A6 ?_
   exact V5 (decide (a.kind=29)) hR (mk [true] rfl) fn0
  refine sr 2 rfl (ip' 2 0 [(101,bv (decide (a.kind=30)))] ?_)
  refine ie ?_
  refine zjd rfl hR ?_ ?_<;>clear hR<;>intro hR h39 h39p
  ·refine A6 ?_
   exact V5 (decide (a.kind=30)) hR (mk [true] rfl) fn0
  refine sr 2 rfl (ip' 2 0 [(101,bv (decide (a.kind=31)))] ?_)
  refine ie ?_
  refine zjd rfl hR ?_ ?_<;>clear hR<;>intro hR h40 h40p
  ·refine A6 ?_
   exact V5 (decide (a.kind=31)) hR (mk [true] rfl) fn0
  refine sr 2 rfl (ip' 2 0 [(101,bv (decide (a.kind=32)))] ?_)
  refine ie ?_
  refine zjd rfl hR ?_ ?_<;>clear hR<;>intro hR h41 h41p
  ·refine A6 ?_
   exact V5 (decide (a.kind=32)) hR (mk [true] rfl) fn0
  refine A2 2 rfl (ip' 2 0 [(101,bv (decide (a.kind=34)))] ?_)
  refine A3 ?_
  exact V5 (decide (a.kind=34)) hR (mk [true] rfl) fn0
 intro t101
 rintro hR
 replace hR:=(I7.eq_1 ..).symm.trans hR
 refine zjb rfl hR ?_ ?_<;>clear hR<;>intro hR h42
 ·refine sr 9 rfl (zrl 2 7 [0] [(113,iv a.n)] ?_)
  refine zca (A3t a.n _ rfl) fn0 ?_
  refine ip' 1 5 [(115,bv (J7 a.n))] ?_
  refine zia 4 1 115 119 (decide (a.m=0)) (fun g43=>?_) ?_
  ·refine zrl 4 0 [0] [(119,bv (decide (a.m=0)))] ?_
   exact A3 (L3 2 115 119 g43 fn0 (mk [true] rfl) rfl rfl rfl rfl rfl)
  refine ip' 1 0 [(2,bv ((J7 a.n)&&(decide (a.m=0))))] ?_
  subst hR
  refine ie (A9 ?_)
  exact F1 hr hD
 refine sr 2 rfl (ip' 2 0 [(120,bv (decide (a.kind=26)))] ?_)
 refine ie ?_
 refine zjd rfl hR ?_ ?_<;>clear hR<;>intro hR h44 h44p
 ·refine sr 9 rfl (zrl 2 7 [0] [(123,iv a.n)] ?_)
  refine zca (S2 a.n 0 3 _ rfl) fn0 ?_
  refine ip' 1 5 [(125,bv (F6 a.n 0 3))] ?_
  refine zia 4 1 125 129 (decide (a.m=0)) (fun g45=>?_) ?_
  ·refine zrl 4 0 [0] [(129,bv (decide (a.m=0)))] ?_
   exact A3 (L3 2 125 129 g45 fn0 (mk [true] rfl) rfl rfl rfl rfl rfl)
  refine ip' 1 0 [(2,bv ((F6 a.n 0 3)&&(decide (a.m=0))))] ?_
  subst hR
  refine ie (A9 ?_)
  exact F1 hr hD
 refine sr 2 rfl (ip' 2 0 [(130,bv (decide (a.kind=27)))] ?_)
 refine ie ?_
 refine zjd rfl hR ?_ ?_<;>clear hR<;>intro hR h46 h46p
 ·refine sr 9 rfl (zrl 2 7 [0] [(133,iv a.n)] ?_)
  refine zca (S2 a.n 0 2 _ rfl) fn0 ?_
  refine ip' 1 5 [(135,bv (F6 a.n 0 2))] ?_
  refine zia 4 1 135 139 (decide (a.m=0)) (fun g47=>?_) ?_
  ·refine zrl 4 0 [0] [(139,bv (decide (a.m=0)))] ?_
   exact A3 (L3 2 135 139 g47 fn0 (mk [true] rfl) rfl rfl rfl rfl rfl)
  refine ip' 1 0 [(2,bv ((F6 a.n 0 2)&&(decide (a.m=0))))] ?_
  subst hR
  refine ie (A9 ?_)
  exact F1 hr hD
 refine sr 2 rfl (ip' 2 0 [(140,bv (decide (a.kind=35)))] ?_)
 refine ie ?_
 refine zjd rfl hR ?_ ?_<;>clear hR<;>intro hR h48 h48p
 ·refine sr 14 rfl (zrl 4 10 [0] [(145,bv (decide (a.n=0)))] ?_)
  refine zir 4 6 145 149 (decide (a.n=3)) (fun g49 g49p=>?_) ?_
  ·refine zrl 4 0 [0] [(149,bv (decide (a.n=3)))] ?_
   exact A3 (L3 2 145 149 g49 fn0 (mk [true] rfl) rfl rfl rfl rfl rfl)
  refine ip' 1 5 [(150,bv ((decide (a.n=0))||(decide (a.n=3))))] ?_
  refine zia 4 1 150 154 (decide (a.m=0)) (fun g50=>?_) ?_
  ·have g50p:(a.n=0)∨(a.n=3):=by simpa using g50
   refine zrl 4 0 [0] [(154,bv (decide (a.m=0)))] ?_
   exact A3 (L3 2 150 154 g50 fn0 (mk [true] rfl) rfl rfl rfl rfl rfl)
  refine ip' 1 0 [(2,bv (((decide (a.n=0))||(decide (a.n=3)))&&(decide (a.m=0))))] ?_
  subst hR
  refine ie (A9 ?_)
  exact F1 hr hD
 refine B7n (fun (t155:Bool)=>(S7 a t155=R,[(1,pt b1 0),(4,iv a.kind),(155,bv t155)],[bx b1 (A5 a) 26],[])) ?_ ?_
 ·refine sr 2 rfl (ip' 2 0 [(155,bv (decide (a.kind=36)))] ?_)
  refine ie ?_
  refine zjd rfl hR ?_ ?_<;>clear hR<;>intro hR h51 h51p
  ·refine A6 ?_
   exact V5 (decide (a.kind=36)) hR (mk [true] rfl) fn0
  refine sr 2 rfl (ip' 2 0 [(155,bv (decide (a.kind=37)))] ?_)
  refine ie ?_
  refine zjd rfl hR ?_ ?_<;>clear hR<;>intro hR h52 h52p
  ·refine A6 ?_
   exact V5 (decide (a.kind=37)) hR (mk [true] rfl) fn0
  refine A2 2 rfl (ip' 2 0 [(155,bv (decide (a.kind=43)))] ?_)
  refine A3 ?_
  exact V5 (decide (a.kind=43)) hR (mk [true] rfl) fn0
 intro t155
 rintro hR
 replace hR:=(S7.eq_1 ..).symm.trans hR
 refine zjb rfl hR ?_ ?_<;>clear hR<;>intro hR h53
 ·refine sr 9 rfl (zrl 2 7 [0] [(160,iv a.n)] ?_)
  refine zca (S2 a.n 0 9999 _ rfl) fn0 ?_
  refine ip' 1 5 [(162,bv (F6 a.n 0 9999))] ?_
  refine zia 4 1 162 166 (F6 a.m 0 1) (fun g54=>?_) ?_
  ·refine zrl 2 2 [0] [(164,iv a.m)] ?_
   refine zca (S2 a.m 0 1 _ rfl) fn0 ?_
   refine ip' 1 0 [(166,bv (F6 a.m 0 1))] ?_
   exact A3 (L3 4 162 166 g54 fn0 (mk [true] rfl) rfl rfl rfl rfl rfl)
  refine ip' 1 0 [(2,bv ((F6 a.n 0 9999)&&(F6 a.m 0 1)))] ?_
  subst hR
  refine ie (A9 ?_)
  exact F1 hr hD
 refine sr 2 rfl (ip' 2 0 [(167,bv (decide (a.kind=38)))] ?_)
 refine ie ?_
 refine zjd rfl hR ?_ ?_<;>clear hR<;>intro hR h55 h55p
 ·refine sr 9 rfl (zrl 2 7 [0] [(170,iv a.n)] ?_)
  refine zca (S2 a.n 0 9999 _ rfl) fn0 ?_
  refine ip' 1 5 [(172,bv (F6 a.n 0 9999))] ?_
  refine zia 4 1 172 176 (F6 a.m 0 9999) (fun g56=>?_) ?_
  ·refine zrl 2 2 [0] [(174,iv a.m)] ?_
   refine zca (S2 a.m 0 9999 _ rfl) fn0 ?_
   refine ip' 1 0 [(176,bv (F6 a.m 0 9999))] ?_
   exact A3 (L3 4 172 176 g56 fn0 (mk [true] rfl) rfl rfl rfl rfl rfl)
  refine ip' 1 0 [(2,bv ((F6 a.n 0 9999)&&(F6 a.m 0 9999)))] ?_
  subst hR
  refine ie (A9 ?_)
  exact F1 hr hD
 refine sr 2 rfl (ip' 2 0 [(177,bv (decide (a.kind=40)))] ?_)
 refine ie ?_
 refine zjd rfl hR ?_ ?_<;>clear hR<;>intro hR h57 h57p
 ·refine sr 9 rfl (zrl 2 7 [0] [(180,iv a.n)] ?_)
  refine zca (S2 a.n 0 6 _ rfl) fn0 ?_
  refine ip' 1 5 [(182,bv (F6 a.n 0 6))] ?_
  refine zia 4 1 182 186 (decide (a.m=0)) (fun g58=>?_) ?_
  ·refine zrl 4 0 [0] [(186,bv (decide (a.m=0)))] ?_
   exact A3 (L3 2 182 186 g58 fn0 (mk [true] rfl) rfl rfl rfl rfl rfl)
  refine ip' 1 0 [(2,bv ((F6 a.n 0 6)&&(decide (a.m=0))))] ?_
  subst hR
  refine ie (A9 ?_)
  exact F1 hr hD
 refine sr 2 rfl (ip' 2 0 [(187,bv (decide (a.kind=41)))] ?_)
 refine ie ?_
 refine zjd rfl hR ?_ ?_<;>clear hR<;>intro hR h59 h59p
 ·refine sr 9 rfl (zrl 2 7 [0] [(190,iv a.n)] ?_)
  refine zca (S2 a.n 5 6 _ rfl) fn0 ?_
  refine ip' 1 5 [(192,bv (F6 a.n 5 6))] ?_
  refine zia 4 1 192 196 (decide (a.m=0)) (fun g60=>?_) ?_
  ·refine zrl 4 0 [0] [(196,bv (decide (a.m=0)))] ?_
   exact A3 (L3 2 192 196 g60 fn0 (mk [true] rfl) rfl rfl rfl rfl rfl)
  refine ip' 1 0 [(2,bv ((F6 a.n 5 6)&&(decide (a.m=0))))] ?_
  subst hR
  refine ie (A9 ?_)
  exact F1 hr hD
 refine A6 (nx (sr 1 rfl (ip' 1 0 [(2,bv false)] ?_)))
 subst hR
 refine ie (A9 ?_)
 exact F1 hr hD
def D1b (a:Act):Prop:=1≤a.kind∧a.kind≤46∧(a.kind≠1→a.kind≠39→a.kind≠44→a.kind≠45→a.kind≠46→(0≤a.n∧a.n≤9999)∧0≤a.m∧a.m≤9999)∧(a.kind=7∨a.kind=14∨a.kind=21∨a.kind=33∨a.kind=42→0≤a.n∧a.n≤1)∧(a.kind=17∨a.kind=20→0≤a.n∧a.n≤3)∧(a.kind=18→2≤a.n∧a.n≤3)∧(a.kind=17∨a.kind=36∨a.kind=37∨a.kind=43→0≤a.m∧a.m≤1)
def R4 (a:Act) (t12:Bool):Bool :=
 (bif t12 then (C1 (I0 a) fun (y10:List UInt8×Int)=>(decide (y10.2=0))) else (((M3 a)&&(decide (a.color=Col.zero)))&&(decide (a.text=([]:List UInt8)))))
def D5 (a:Act):Bool :=
 (bif (decide (a.kind=39)) then (decide ((L6 a)=0)) else (bif (decide (a.kind=44)) then R4 a (decide (a.kind=44)) else (bif (decide (a.kind=45)) then R4 a (decide (a.kind=45)) else R4 a (decide (a.kind=46)))))
theorem B8j {a:Act} (h:D5 a=true):D1b a:=by
 unfold D5 R4 at h
 by_cases k39:a.kind=39
 ·unfold D1b;omega
 by_cases k44:a.kind=44
 ·unfold D1b;omega
 by_cases k45:a.kind=45
 ·unfold D1b;omega
 by_cases k46:a.kind=46
 ·unfold D1b;omega
 simp only [k39,k44,k45,k46,decide_false,cond_false,Bool.and_eq_true] at h
 have hn:=h.1.1
 clear h
 unfold M3 G7 S5 W3 I7 S7 J7 F6 at hn
 by_cases hr:1≤a.kind∧a.kind≤46
 ·have hk:a.kind=1∨a.kind=2∨a.kind=3∨a.kind=4∨a.kind=5∨a.kind=6∨a.kind=7∨a.kind=8∨a.kind=9∨a.kind=10∨a.kind=11∨a.kind=12∨a.kind=13∨a.kind=14∨a.kind=15∨a.kind=16∨a.kind=17∨a.kind=18∨a.kind=19∨a.kind=20∨a.kind=21∨a.kind=22∨a.kind=23∨a.kind=24∨a.kind=25∨a.kind=26∨a.kind=27∨a.kind=28∨a.kind=29∨a.kind=30∨a.kind=31∨a.kind=32∨a.kind=33∨a.kind=34∨a.kind=35∨a.kind=36∨a.kind=37∨a.kind=38∨a.kind=39∨a.kind=40∨a.kind=41∨a.kind=42∨a.kind=43∨a.kind=44∨a.kind=45∨a.kind=46:=by omega
  unfold D1b
  rcases hk with h | h | h | h | h | h | h | h | h | h | h | h | h | h | h | h | h | h | h | h | h | h | h | h | h | h | h | h | h | h | h | h | h | h | h | h | h | h | h | h | h | h | h | h | h | h<;>simp only [h,Int.reduceEq,decide_true,decide_false,cond_true,cond_false,Bool.and_eq_true,Bool.or_eq_true,decide_eq_true_eq] at hn k39 k44 k45 k46 hr<;>omega
 ·simp only [show ¬ a.kind=1 by omega,show ¬ a.kind=2 by omega,show ¬ a.kind=3 by omega,show ¬ a.kind=4 by omega,show ¬ a.kind=5 by omega,show ¬ a.kind=6 by omega,show ¬ a.kind=7 by omega,show ¬ a.kind=8 by omega,show ¬ a.kind=9 by omega,show ¬ a.kind=10 by omega,show ¬ a.kind=11 by omega,show ¬ a.kind=12 by omega,show ¬ a.kind=13 by omega,show ¬ a.kind=14 by omega,show ¬ a.kind=15 by omega,show ¬ a.kind=16 by omega,show ¬ a.kind=17 by omega,show ¬ a.kind=18 by omega,show ¬ a.kind=19 by omega,show ¬ a.kind=20 by omega,show ¬ a.kind=21 by omega,show ¬ a.kind=22 by omega,show ¬ a.kind=23 by omega,show ¬ a.kind=24 by omega,show ¬ a.kind=25 by omega,show ¬ a.kind=26 by omega,show ¬ a.kind=27 by omega,show ¬ a.kind=28 by omega,show ¬ a.kind=29 by omega,show ¬ a.kind=30 by omega,show ¬ a.kind=31 by omega,show ¬ a.kind=32 by omega,show ¬ a.kind=33 by omega,show ¬ a.kind=34 by omega,show ¬ a.kind=35 by omega,show ¬ a.kind=36 by omega,show ¬ a.kind=37 by omega,show ¬ a.kind=38 by omega,show ¬ a.kind=39 by omega,show ¬ a.kind=40 by omega,show ¬ a.kind=41 by omega,show ¬ a.kind=42 by omega,show ¬ a.kind=43 by omega,show ¬ a.kind=44 by omega,show ¬ a.kind=45 by omega,show ¬ a.kind=46 by omega,decide_false,cond_false] at hn
  exact absurd hn (by decide)
theorem A6f (a:Act) (R:Bool) (hR:D5 a=R):I6 Tryz.prog 41 [ag (A5 a)] [] (bv R):=by
 refine zco Tryz.func41 [(0,ag (A5 a))] fun X hX hr hD=>?_
 replace hR:=(D5.eq_1 ..).symm.trans hR
 refine sr 2 rfl (P0 2 0 [] (fun b1=>[(1,pt b1 0)]) (fun b1=>[bx b1 (A5 a) 26]) (fun b1=>?_))
 refine ie (A8 (sr 2 rfl (zrl 2 0 [0] [(6,iv a.kind)] ?_)))
 refine ie (B3 (sr 2 rfl (ip' 2 0 [(7,bv (decide (a.kind=39)))] ?_)))
 refine ie ?_
 refine zjd rfl hR ?_ ?_<;>clear hR<;>intro hR h2 h2p
 ·refine sr 4 rfl (zrl 1 3 [0] [(9,ag (A5 a))] ?_)
  refine zca (B8m a _ rfl) fn0 ?_
  refine ip' 2 0 [(2,bv (decide ((L6 a)=0)))] ?_
  subst hR
  refine ie (A9 ?_)
  exact F1 hr hD
 refine B7n (fun (t12:Bool)=>(R4 a t12=R,[(1,pt b1 0),(12,bv t12)],[bx b1 (A5 a) 26],[])) ?_ ?_
 ·refine sr 2 rfl (ip' 2 0 [(12,bv (decide (a.kind=44)))] ?_)
  refine ie ?_
  refine zjd rfl hR ?_ ?_<;>clear hR<;>intro hR h3 h3p
  ·refine A6 ?_
   exact V5 (decide (a.kind=44)) hR (mk [true] rfl) fn0
  refine sr 2 rfl (ip' 2 0 [(12,bv (decide (a.kind=45)))] ?_)
  refine ie ?_
  refine zjd rfl hR ?_ ?_<;>clear hR<;>intro hR h4 h4p
  ·refine A6 ?_
   exact V5 (decide (a.kind=45)) hR (mk [true] rfl) fn0
  refine A2 2 rfl (ip' 2 0 [(12,bv (decide (a.kind=46)))] ?_)
  refine A3 ?_
  exact V5 (decide (a.kind=46)) hR (mk [true] rfl) fn0
 intro t12
 rintro hR
 replace hR:=(R4.eq_1 ..).symm.trans hR
 refine zjb rfl hR ?_ ?_<;>clear hR<;>intro hR h5
 ·refine sr 7 rfl (zrl 1 6 [0] [(17,ag (A5 a))] ?_)
  have hQ:=D4 hR;clear hR;obtain ⟨y10,hy10,hR⟩:=hQ
  refine zca (C4s a y10 hy10) fn0 ?_
  have:=C0a a;try rw [hy10] at this
  refine ip' 5 0 [(4,iv y10.2)] ?_
  refine ie (sr 3 rfl (ip' 3 0 [(2,bv (decide (y10.2=0)))] ?_))
  subst hR
  refine ie (A9 ?_)
  exact F1 hr hD
 refine A6 (nx (sr 14 rfl (zrl 1 13 [0] [(23,ag (A5 a))] ?_)))
 refine zca (C0f a _ rfl) fn0 ?_
 refine ip' 1 11 [(25,bv (M3 a))] ?_
 refine zia 5 6 25 30 (decide (a.color=Col.zero)) (fun g6=>?_) ?_
 ·refine zrl 3 2 [0] [(27,ag (M5 a.color)),(28,ag (M5 Col.zero))] ?_
  refine ix rfl (A7u (a:=a.color) (b:=Col.zero) A6s rfl rfl rfl) ?_
  refine ip' 1 0 [(30,bv (decide (a.color=Col.zero)))] ?_
  exact A3 (L3 5 25 30 g6 fn0 (mk [true] rfl) rfl rfl rfl rfl rfl)
 refine ip' 1 5 [(31,bv ((M3 a)&&(decide (a.color=Col.zero))))] ?_
 refine zia 4 1 31 35 (decide (a.text=([]:List UInt8))) (fun g7=>?_) ?_
 ·have g7p:=g7;try simp at g7p
  refine zrl 2 2 [0] [(33,sv a.text)] ?_
  refine ix rfl (B7u rfl rfl rfl) ?_
  refine ip' 1 0 [(35,bv (decide (a.text=([]:List UInt8))))] ?_
  exact A3 (L3 4 31 35 g7 fn0 (mk [true] rfl) rfl rfl rfl rfl rfl)
 refine ip' 1 0 [(2,bv (((M3 a)&&(decide (a.color=Col.zero)))&&(decide (a.text=([]:List UInt8)))))] ?_
 subst hR
 refine ie (A9 ?_)
 exact F1 hr hD
def C9c:List Ar3 :=
 ([(⟨1,1,22⟩:Ar3),(⟨2,2,22⟩:Ar3),(⟨3,4,23⟩:Ar3),(⟨5,8,25⟩:Ar3),(⟨7,16,27⟩:Ar3),(⟨8,32,28⟩:Ar3),(⟨9,64,29⟩:Ar3),(⟨53,128,55⟩:Ar3)]:List Ar3)
def B3d (a:Act):List Ar3→Nat→List Int
 | [],i=>(bif (decide (a.n=0)) then ([0]:List Int) else (bif ((decide (a.n=3))&&(decide (a.m=1))) then ([4]:List Int) else (bif ((decide (a.n=3))&&(decide (a.m=0))) then ([24]:List Int) else (bif (decide (a.n=3)) then ([4,a.m]:List Int) else (bif (decide (a.color.kind=0)) then ([(IntKind.i64.wrap ((IntKind.i64.wrap ((38:Int)+(IntKind.i64.wrap ((10:Int) * (IntKind.i64.wrap (a.n - (4:Int)))))))+(1:Int)))]:List Int) else (bif (decide (a.color.kind=2)) then ([(IntKind.i64.wrap ((38:Int)+(IntKind.i64.wrap ((10:Int) * (IntKind.i64.wrap (a.n - (4:Int))))))),2,(-1),(IntKind.i64.wrap (Int.tdiv a.color.n 65536)),(Int.tmod (IntKind.i64.wrap (Int.tdiv a.color.n 256)) 256),(Int.tmod a.color.n 256)]:List Int) else (bif ((!decide (a.n=6))&&(decide (a.color.n<8))) then ([(IntKind.i64.wrap ((IntKind.i64.wrap ((IntKind.i64.wrap ((38:Int)+(IntKind.i64.wrap ((10:Int) * (IntKind.i64.wrap (a.n - (4:Int))))))) - (8:Int)))+a.color.n))]:List Int) else (bif ((!decide (a.n=6))&&(decide (a.color.n<16))) then ([(IntKind.i64.wrap ((IntKind.i64.wrap ((IntKind.i64.wrap ((38:Int)+(IntKind.i64.wrap ((10:Int) * (IntKind.i64.wrap (a.n - (4:Int)))))))+(44:Int)))+a.color.n))]:List Int) else ([(IntKind.i64.wrap ((38:Int)+(IntKind.i64.wrap ((10:Int) * (IntKind.i64.wrap (a.n - (4:Int))))))),5,a.color.n]:List Int)))))))))
 | hd_l0::tl_l0,i=>(bif ((decide (a.n=1))&&(decide (a.m=hd_l0.b))) then ([hd_l0.a]:List Int) else (bif ((decide (a.n=2))&&((decide (a.m=hd_l0.b))||((decide (a.m=3))&&(decide ((i:Int)=0))))) then ([hd_l0.c]:List Int) else B3d a tl_l0 (i+1)))
def A3b (a:Act):List Int :=
 (C1 C9c fun (y40:List Ar3)=>B3d a y40 0)
def A0f (l:List Act):List Act→List (List Int)→Nat→(List (List Int)×Int)
 | [],out,i=>(bif (decide ((16:Int)<(l.length:Int))) then (([]:List (List Int)),3) else (out,0))
 | hd_l0::tl_l0,out,i=>(bif (!decide ((L6 hd_l0)=0)) then (([]:List (List Int)),141) else (C1 (A3b hd_l0) fun (y29:List Int)=>A0f l tl_l0 (out++([y29]:List (List Int))) (i+1)))
def B6w (l:List Act):List (List Int)×Int :=
 A0f l l ([]:List (List Int)) 0
def A5a (i:Nat) (ag_ref05_Check_l2:Nat→Int):List Int→Nat→Int
 | [],k=>ag_ref05_Check_l2 (i+1)
 | hd_l3::tl_l3,k=>(bif ((decide (hd_l3<(-1)))||(decide ((9999:Int)<hd_l3))) then 150 else A5a i ag_ref05_Check_l2 tl_l3 (k+1))
def A2u (l:List (List Int)):List (List Int)→Nat→Int
 | [],i=>(bif (((decide ((l.length:Int)=1))&&(decide (((l.getD 0 []).length:Int)=1)))&&(decide (((l.getD 0 []).getD 0 0)=(-1)))) then 150 else 0)
 | hd_l2::tl_l2,i=>(bif ((decide ((hd_l2.length:Int)<1))||(decide ((6:Int)<(hd_l2.length:Int)))) then 150 else A5a i (A2u l tl_l2) hd_l2 0)
def B3b (l:List (List Int)):Int :=
 (bif (decide ((16:Int)<(l.length:Int))) then 150 else A2u l l 0)
def A4a (l:List (List Int)) (i:Nat) (k:Nat) (ag_ref05_Print_l3:List UInt8→Nat→(List UInt8×Int)) (s3:List UInt8):List UInt8×Int :=
 (bif (decide ((0:Int)≤((l.getD i []).getD k 0))) then ag_ref05_Print_l3 (s3++(G0 (((l.getD i []).getD k 0).toNat+1) ((l.getD i []).getD k 0))) (k+1) else ag_ref05_Print_l3 s3 (k+1))
def Z4 (l:List (List Int)) (i:Nat) (ag_ref05_Print_l2:List UInt8→Nat→(List UInt8×Int)):Nat→List UInt8→Nat→(List UInt8×Int)
 | 0,_,_=>([],0)
 | fu1+1,s2,k=>(bif (decide ((k:Int)<((l.getD i []).length:Int))) then (bif (decide ((0:Int)<(k:Int))) then A4a l i k (Z4 l i ag_ref05_Print_l2 fu1) (s2++([58]:List UInt8)) else A4a l i k (Z4 l i ag_ref05_Print_l2 fu1) s2) else ag_ref05_Print_l2 s2 (i+1))
def A5d (l:List (List Int)) (i:Nat) (ag_ref05_Print_l2:List UInt8→Nat→(List UInt8×Int)) (s1:List UInt8):List UInt8×Int :=
 Z4 l i ag_ref05_Print_l2 (((l.getD i []).length - 0)+1) s1 0
def W8 (l:List (List Int)):List (List Int)→List UInt8→Nat→(List UInt8×Int)
 | [],s,i=>(s,0)
 | hd_l2::tl_l2,s,i=>(bif (decide ((0:Int)<(i:Int))) then A5d l i (W8 l tl_l2) (s++([59]:List UInt8)) else A5d l i (W8 l tl_l2) s)
def A9q (l:List (List Int)):List UInt8×Int :=
 (bif (!decide ((B3b l)=0)) then (([]:List UInt8),150) else W8 l l ([]:List UInt8) 0)
def A6a (l:List Act):List UInt8 :=
 (C1 (B6w l) fun (y46:List (List Int)×Int)=>(C1 (A9q y46.1) fun (y34:List UInt8×Int)=>((([27,91]:List UInt8)++y34.1)++([109]:List UInt8))))
def Z8 (s:List UInt8) (n:Int):List UInt8 :=
 ((s.drop ((n).toNat)).take (((n).toNat+1) - ((n).toNat)))
def B2z (a:Act):List UInt8 :=
 (bif (decide (a.kind=2)) then ([7]:List UInt8) else (bif (decide (a.kind=3)) then ([8]:List UInt8) else (bif (decide (a.kind=4)) then ([9]:List UInt8) else (bif (decide (a.kind=5)) then ([10]:List UInt8) else (bif (decide (a.kind=6)) then ([13]:List UInt8) else (bif (decide (a.kind=7)) then (C1 (Z8 ([15,14]:List UInt8) a.n) fun (y8:List UInt8)=>y8) else (bif (decide (a.kind=8)) then ([27,68]:List UInt8) else (bif (decide (a.kind=9)) then ([27,69]:List UInt8) else (bif (decide (a.kind=10)) then ([27,72]:List UInt8) else (bif (decide (a.kind=11)) then ([27,77]:List UInt8) else (bif (decide (a.kind=12)) then ([27,55]:List UInt8) else (bif (decide (a.kind=13)) then ([27,56]:List UInt8) else (bif (decide (a.kind=15)) then ([27,99]:List UInt8) else (bif (decide (a.kind=14)) then (C1 (Z8 ([62,61]:List UInt8) a.n) fun (y23:List UInt8)=>(([27]:List UInt8)++y23)) else (bif (decide (a.kind=16)) then ([27,35,56]:List UInt8) else (bif (decide (a.kind=17)) then (C1 (Z8 ([40,41,42,43]:List UInt8) a.n) fun (y24:List UInt8)=>(C1 (Z8 ([66,48]:List UInt8) a.m) fun (y25:List UInt8)=>((([27]:List UInt8)++y24)++y25))) else (bif (decide (a.kind=18)) then (C1 (Z8 ([78,79]:List UInt8) (a.n - 2)) fun (y48:List UInt8)=>(([27]:List UInt8)++y48)) else ([]:List UInt8))))))))))))))))))
def P1 (n:Int) (none_:Int):List UInt8 :=
 (bif (decide (n=none_)) then ([]:List UInt8) else (G0 (n.toNat+1) n))
def A6c (n:Int) (m:Int) (none_:Int):List UInt8 :=
 (bif (decide (m=none_)) then (C1 (P1 n none_) fun (y7:List UInt8)=>y7) else (C1 (P1 n none_) fun (y28:List UInt8)=>(C1 (P1 m none_) fun (y27:List UInt8)=>((y28++([59]:List UInt8))++y27))))
def B1b (a:Act):Nat→Nat→List UInt8
 | 0,_=>[]
 | fu1+1,i=>(bif (decide ((i:Int)<10)) then (bif (decide (a.kind=(([22,23,24,25,28,29,30,31,32,34]:List Int).getD i 0))) then (C1 (P1 a.n 1) fun (y37:List UInt8)=>(C1 (Z8 ([71,100,73,90,64,80,88,76,77,98]:List UInt8) (i:Int)) fun (y25:List UInt8)=>(y37++y25))) else B1b a fu1 (i+1)) else ([]:List UInt8))
def C3w (a:Act):List UInt8 :=
 (bif (decide (a.kind=20)) then (C1 (P1 a.m 1) fun (y7:List UInt8)=>(C1 (Z8 ([65,66,67,68]:List UInt8) a.n) fun (y8:List UInt8)=>(y7++y8))) else (bif (decide (a.kind=21)) then (C1 (P1 a.m 1) fun (y28:List UInt8)=>(C1 (Z8 ([69,70]:List UInt8) a.n) fun (y23:List UInt8)=>(y28++y23))) else (bif (decide (a.kind=33)) then (C1 (P1 a.m 1) fun (y27:List UInt8)=>(C1 (Z8 ([83,84]:List UInt8) a.n) fun (y24:List UInt8)=>(y27++y24))) else (bif (decide (a.kind=26)) then (C1 (P1 a.n 0) fun (y43:List UInt8)=>(y43++([74]:List UInt8))) else (bif (decide (a.kind=27)) then (C1 (P1 a.n 0) fun (y39:List UInt8)=>(y39++([75]:List UInt8))) else (bif (decide (a.kind=35)) then (C1 (P1 a.n 0) fun (y36:List UInt8)=>(y36++([103]:List UInt8))) else (bif (decide (a.kind=40)) then (C1 (P1 a.n 0) fun (y45:List UInt8)=>(y45++([32,113]:List UInt8))) else B1b a ((10 - 0)+1) 0)))))))
def B3f (a:Act):List UInt8 :=
 (bif (decide (a.kind=19)) then (C1 (A6c a.n a.m 1) fun (y26:List UInt8)=>(y26++([72]:List UInt8))) else (bif (decide (a.kind=38)) then (C1 (A6c a.n a.m 0) fun (y47:List UInt8)=>(y47++([114]:List UInt8))) else (bif (decide (a.kind=36)) then (C1 (Z8 ([108,104]:List UInt8) a.m) fun (y8:List UInt8)=>((G0 (a.n.toNat+1) a.n)++y8)) else (bif (decide (a.kind=37)) then (C1 (Z8 ([108,104]:List UInt8) a.m) fun (y23:List UInt8)=>((([63]:List UInt8)++(G0 (a.n.toNat+1) a.n))++y23)) else (bif (decide (a.kind=41)) then ((G0 (a.n.toNat+1) a.n)++([110]:List UInt8)) else (bif (decide (a.kind=42)) then ((([([]:List UInt8),([62]:List UInt8)]:List (List UInt8)).getD ((a.n).toNat) [])++([99]:List UInt8)) else (bif (decide (a.kind=43)) then (((([([]:List UInt8),([63]:List UInt8)]:List (List UInt8)).getD ((a.m).toNat) [])++(G0 (a.n.toNat+1) a.n))++([36,112]:List UInt8)) else (C1 (C3w a) fun (y41:List UInt8)=>y41))))))))
def Q2 (a:Act):List UInt8 :=
 (bif (decide (a.kind=1)) then (C1 (A4o a.n) fun (y13:List UInt8)=>y13) else (bif (decide (a.kind=44)) then (bif (decide (a.kind=44)) then (C1 (I0 a) fun (y10:List UInt8×Int)=>(((([27,93]:List UInt8)++y10.1)++([27]:List UInt8))++([92]:List UInt8))) else (bif (decide (a.kind=39)) then (C1 (A6a ([a]:List Act)) fun (y22:List UInt8)=>y22) else (C1 (B2z a) fun (y17:List UInt8)=>(bif (!(decide (y17=([]:List UInt8)))) then y17 else (C1 (B3f a) fun (y21:List UInt8)=>(([27,91]:List UInt8)++y21)))))) else (bif (decide (a.kind=45)) then (bif (decide (a.kind=45)) then (C1 (I0 a) fun (y44:List UInt8×Int)=>(((([27,93]:List UInt8)++y44.1)++([27]:List UInt8))++([92]:List UInt8))) else (bif (decide (a.kind=39)) then (C1 (A6a ([a]:List Act)) fun (y38:List UInt8)=>y38) else (C1 (B2z a) fun (y31:List UInt8)=>(bif (!(decide (y31=([]:List UInt8)))) then y31 else (C1 (B3f a) fun (y33:List UInt8)=>(([27,91]:List UInt8)++y33)))))) else (bif (decide (a.kind=46)) then (C1 (I0 a) fun (y32:List UInt8×Int)=>(((([27,93]:List UInt8)++y32.1)++([27]:List UInt8))++([92]:List UInt8))) else (bif (decide (a.kind=39)) then (C1 (A6a ([a]:List Act)) fun (y35:List UInt8)=>y35) else (C1 (B2z a) fun (y30:List UInt8)=>(bif (!(decide (y30=([]:List UInt8)))) then y30 else (C1 (B3f a) fun (y42:List UInt8)=>(([27,91]:List UInt8)++y42)))))))))
end Go.Proofs.YtanighkpfmgnbaaGreatDoor
