import Derived.Test.YtanighkpfmgnbaaGreatDoorProg
import Derived.Test.YtanighkpfmgnbaaGreatDoorUA2
import Derived.Test.YtanighkpfmgnbaaGreatDoorUB1
import Derived.Test.YtanighkpfmgnbaaGreatDoorUA3
import Derived.Test.YtanighkpfmgnbaaGreatDoorUB2
import Derived.Test.YtanighkpfmgnbaaGreatDoorUB3
set_option linter.unusedVariables false
set_option linter.unusedSimpArgs false
set_option linter.unnecessarySimpa false
set_option maxRecDepth 100000
namespace Go.Proofs.YtanighkpfmgnbaaGreatDoor
open Go Go.Fen
def D1g:List UInt8:=[48,49,50,51,52,53,54,55,56,57,97,98,99,100,101,102]
theorem C7f:SlTy Tryz.prog 256 71 2:=⟨by kernel_rfl,by kernel_rfl⟩
theorem E6a:Zero Tryz.prog 5 [.int .u8 0]:=⟨by kernel_rfl⟩
def V7 (m:Int):Nat→Nat→Bool
 | 0,_=>false
 | fu1+1,k=>(bif (decide ((k:Int)<8)) then (bif (decide (m=(([1,2,4,8,16,32,64,128]:List Int).getD k 0))) then true else V7 m fu1 (k+1)) else false)
def J9 (m:Int):Bool :=
 V7 m ((8 - 0)+1) 0
theorem A9z (m:Int) (R:Bool) (hR:J9 m=R):I4 Tryz.prog 129 [iv m] [] (bv R):=by
 refine zco Tryz.func129 [(0,iv m)] fun X hX hr hD=>?_
 replace hR:=(J9.eq_1 ..).symm.trans hR
 refine sr 1 rfl (ip' 1 0 [] ?_)
 refine ie (A8 (sr 1 rfl (ip' 1 0 [(3,iv 0)] ?_)))
 refine ie (B3 (D2k (fun (fu:Nat) (k:Nat)=>((8 - k)<fu∧V7 m fu k=R,[(0,iv m),(3,iv (k:Int))],[],[],fu)) ((8 - 0)+1) 0 ⟨(Nat.lt_succ_self _),hR⟩ (mk [] rfl) fn0 ?_))
 rintro fu k ⟨hm1,hR⟩
 obtain ⟨fu1,rfl⟩:∃ m,fu=m+1:=⟨fu - 1,by omega⟩
 replace hR:=(V7.eq_2 ..).symm.trans hR
 refine A8 (sr 2 rfl (ip' 2 0 [(5,bv (decide ((k:Int)<8)))] ?_))
 refine ie ?_
 refine zjd rfl hR ?_ ?_<;>clear hR<;>intro hR h2 h2p
 ·refine A6 (nx (A8 (B3 (sr 5 rfl (zrl 3 2 [] [(8,iv m),(9,ag [iv 1,iv 2,iv 4,iv 8,iv 16,iv 32,iv 64,iv 128]),(10,iv (k:Int))] ?_)))))
  refine ix rfl (B6s (v:=iv (([1,2,4,8,16,32,64,128]:List Int).getD k 0)) (c:=F0) (xs:=([1,2,4,8,16,32,64,128]:List Int)) (d:=0) Tryz.underlying249 ty3 (fun _=>rfl) rfl rfl rfl rfl k rfl rfl (by omega) rfl rfl) ?_
  refine ip' 1 0 [(12,bv (decide (m=(([1,2,4,8,16,32,64,128]:List Int).getD k 0))))] ?_
  refine ie ?_
  refine zjd rfl hR ?_ ?_<;>clear hR<;>intro hR h3 h3p
  ·refine sr 1 rfl (ip' 1 0 [(2,bv true)] ?_)
   subst hR
   refine ie (A9 ?_)
   exact F2 hr hD
  refine A6 (nx (A2 3 rfl (ip' 1 2 [(6,iv (k:Int))] ?_)))
  refine ix rfl (B5 rfl rfl rfl rfl (by omega)) ?_
  refine ip' 1 0 [(3,iv ((k:Int)+1))] ?_
  refine A3 ?_
  exact D3r (z1:=(fu1+1)) (z2:=k) fu1 (k+1) ⟨(by omega),hR⟩ (Nat.lt_succ_self _) (mk [] rfl) fn0
 refine I3 (nx (sr 1 rfl (ip' 1 0 [(2,bv false)] ?_)))
 subst hR
 refine ie (A9 ?_)
 exact F2 hr hD
def I2 (c:Col):Int :=
 (bif (decide (c.kind=0)) then (bif (decide (c.n=0)) then 0 else 130) else (bif (decide (c.kind=1)) then (bif ((decide ((0:Int)≤c.n))&&(decide (c.n≤255))) then 0 else 130) else (bif (decide (c.kind=2)) then (bif ((decide ((0:Int)≤c.n))&&(decide (c.n≤16777215))) then 0 else 130) else 130)))
theorem B0w (c:Col) (R:Int) (hR:I2 c=R):I4 Tryz.prog 130 [ag (M8 c)] [] (iv R):=by
 refine zco Tryz.func130 [(0,ag (M8 c))] fun X hX hr hD=>?_
 replace hR:=(I2.eq_1 ..).symm.trans hR
 refine sr 2 rfl (Q2 2 0 [] (fun b1=>[(1,pt b1 0)]) (fun b1=>[bx b1 (M8 c) 24]) (fun b1=>?_))
 refine ie (A8 (sr 2 rfl (zrl 2 0 [0] [(4,iv c.kind)] ?_)))
 refine ie (B3 (sr 2 rfl (ip' 2 0 [(5,bv (decide (c.kind=0)))] ?_)))
 refine ie ?_
 refine zjd rfl hR ?_ ?_<;>clear hR<;>intro hR h2 h2p
 ·refine sr 3 rfl (zrl 3 0 [0] [(9,bv (decide (c.n=0)))] ?_)
  refine ie ?_
  refine zjd rfl hR ?_ ?_<;>clear hR<;>intro hR h3 h3p
  ·refine sr 1 rfl (ip' 1 0 [(2,iv 0)] ?_)
   subst hR
   refine ie (A9 ?_)
   exact F2 hr hD
  refine A6 (nx (sr 1 rfl (ip' 1 0 [(2,iv 130)] ?_)))
  subst hR
  refine ie (A9 ?_)
  exact F2 hr hD
 refine sr 2 rfl (ip' 2 0 [(10,bv (decide (c.kind=1)))] ?_)
 refine ie ?_
 refine zjd rfl hR ?_ ?_<;>clear hR<;>intro hR h4 h4p
 ·refine sr 8 rfl (zrl 4 4 [0] [(15,bv (decide ((0:Int)≤c.n)))] ?_)
  refine zid 4 0 15 19 (decide (c.n≤255)) (fun g5 g5p=>?_) ?_
  ·refine zrl 4 0 [0] [(19,bv (decide (c.n≤255)))] ?_
   exact A3 (L6 2 15 19 g5 fn0 (mk [true] rfl) rfl rfl rfl rfl rfl)
  refine ie ?_
  refine zja rfl hR ?_ ?_<;>clear hR<;>intro hR h6 h6p
  ·refine sr 1 rfl (ip' 1 0 [(2,iv 0)] ?_)
   subst hR
   refine ie (A9 ?_)
   exact F2 hr hD
  refine A6 (nx (sr 1 rfl (ip' 1 0 [(2,iv 130)] ?_)))
  subst hR
  refine ie (A9 ?_)
  exact F2 hr hD
 refine sr 2 rfl (ip' 2 0 [(20,bv (decide (c.kind=2)))] ?_)
 refine ie ?_
 refine zjd rfl hR ?_ ?_<;>clear hR<;>intro hR h7 h7p
 ·refine sr 8 rfl (zrl 4 4 [0] [(25,bv (decide ((0:Int)≤c.n)))] ?_)
  refine zid 4 0 25 29 (decide (c.n≤16777215)) (fun g8 g8p=>?_) ?_
  ·refine zrl 4 0 [0] [(29,bv (decide (c.n≤16777215)))] ?_
   exact A3 (L6 2 25 29 g8 fn0 (mk [true] rfl) rfl rfl rfl rfl rfl)
  refine ie ?_
  refine zja rfl hR ?_ ?_<;>clear hR<;>intro hR h9 h9p
  ·refine sr 1 rfl (ip' 1 0 [(2,iv 0)] ?_)
   subst hR
   refine ie (A9 ?_)
   exact F2 hr hD
  refine A6 (nx (sr 1 rfl (ip' 1 0 [(2,iv 130)] ?_)))
  subst hR
  refine ie (A9 ?_)
  exact F2 hr hD
 refine A6 (nx (sr 1 rfl (ip' 1 0 [(2,iv 130)] ?_)))
 subst hR
 refine ie (A9 ?_)
 exact F2 hr hD
def O9 (a:Act) (is:Bool):Int :=
 (bif (((!decide (a.kind=39))||(!(decide (a.text=([]:List UInt8)))))||(!is)) then 141 else 0)
def X5 (a:Act) (t72:Bool):Int :=
 (bif t72 then O9 a ((decide (a.m=0))&&(decide ((I2 a.color)=0))) else O9 a false)
def M3 (a:Act):Int :=
 (bif (decide (a.n=0)) then O9 a ((decide (a.m=0))&&(decide (a.color=Col.zero))) else (bif (decide (a.n=1)) then O9 a ((J9 a.m)&&(decide (a.color=Col.zero))) else (bif (decide (a.n=2)) then O9 a (((decide (a.m=3))||(((J9 a.m)&&(!decide (a.m=1)))&&(!decide (a.m=2))))&&(decide (a.color=Col.zero))) else (bif (decide (a.n=3)) then O9 a (((decide ((0:Int)≤a.m))&&(decide (a.m≤5)))&&(decide (a.color=Col.zero))) else (bif (decide (a.n=4)) then X5 a (decide (a.n=4)) else (bif (decide (a.n=5)) then X5 a (decide (a.n=5)) else X5 a (decide (a.n=6))))))))
theorem B8y (a:Act) (R:Int) (hR:M3 a=R):I4 Tryz.prog 90 [ag (A4 a)] [] (iv R):=by
 refine zco Tryz.func90 [(0,ag (A4 a))] fun X hX hr hD=>?_
 replace hR:=(M3.eq_1 ..).symm.trans hR
 refine sr 2 rfl (Q2 2 0 [] (fun b1=>[(1,pt b1 0)]) (fun b1=>[bx b1 (A4 a) 26]) (fun b1=>?_))
 refine ie (sr 3 rfl (Q2 3 0 [0] (fun b2=>[(3,pt b2 0)]) (fun b2=>[bx b2 (M8 Col.zero) 24,bx b1 (A4 a) 26]) (fun b2=>?_)))
 refine ie (sr 1 rfl (ip' 1 0 [(4,bv false)] ?_))
 refine ie (B8f (fun (is:Bool)=>(O9 a is=R,[(1,pt b1 0),(4,bv is)],[bx b2 (M8 Col.zero) 24,bx b1 (A4 a) 26],[])) ?_ ?_)
 ·refine sr 2 rfl (zrl 2 0 [1] [(7,iv a.n)] ?_)
  refine ie (B3 (sr 2 rfl (ip' 2 0 [(8,bv (decide (a.n=0)))] ?_)))
  refine ie ?_
  refine zjd rfl hR ?_ ?_<;>clear hR<;>intro hR h3 h3p
  ·refine A2 10 rfl (zrl 4 6 [1] [(13,bv (decide (a.m=0)))] ?_)
   refine zid 5 1 13 18 (decide (a.color=Col.zero)) (fun g4 g4p=>?_) ?_
   ·refine zrl 3 2 [1,0] [(15,ag (M8 a.color)),(16,ag (M8 Col.zero))] ?_
    refine ix rfl (A8e (a:=a.color) (b:=Col.zero) A7g rfl rfl rfl) ?_
    refine ip' 1 0 [(18,bv (decide (a.color=Col.zero)))] ?_
    exact A3 (L6 5 13 18 g4 fn0 (mk [true,true] rfl) rfl rfl rfl rfl rfl)
   refine ip' 1 0 [(4,bv ((decide (a.m=0))&&(decide (a.color=Col.zero))))] ?_
   refine A3 ?_
   exact V6 ((decide (a.m=0))&&(decide (a.color=Col.zero))) hR (mk [true,true] rfl) fn0
  refine sr 2 rfl (ip' 2 0 [(19,bv (decide (a.n=1)))] ?_)
  refine ie ?_
  refine zjd rfl hR ?_ ?_<;>clear hR<;>intro hR h5 h5p
  ·refine A2 10 rfl (zrl 2 8 [1] [(22,iv a.m)] ?_)
   refine zca (A9z a.m _ rfl) fn0 ?_
   refine ip' 1 6 [(24,bv (J9 a.m))] ?_
   refine zia 5 1 24 29 (decide (a.color=Col.zero)) (fun g6=>?_) ?_
   ·refine zrl 3 2 [1,0] [(26,ag (M8 a.color)),(27,ag (M8 Col.zero))] ?_
    refine ix rfl (A8e (a:=a.color) (b:=Col.zero) A7g rfl rfl rfl) ?_
    refine ip' 1 0 [(29,bv (decide (a.color=Col.zero)))] ?_
    exact A3 (L6 5 24 29 g6 fn0 (mk [true,true] rfl) rfl rfl rfl rfl rfl)
   refine ip' 1 0 [(4,bv ((J9 a.m)&&(decide (a.color=Col.zero))))] ?_
   refine A3 ?_
   exact V6 ((J9 a.m)&&(decide (a.color=Col.zero))) hR (mk [true,true] rfl) fn0
  refine sr 2 rfl (ip' 2 0 [(30,bv (decide (a.n=2)))] ?_)
  refine ie ?_
  refine zjd rfl hR ?_ ?_<;>clear hR<;>intro hR h7 h7p
  ·refine A2 25 rfl (zrl 4 21 [1] [(35,bv (decide (a.m=3)))] ?_)
   refine zir 14 7 35 49 (((J9 a.m)&&(!decide (a.m=1)))&&(!decide (a.m=2))) (fun g8 g8p=>?_) ?_
   ·refine zrl 2 12 [1] [(37,iv a.m)] ?_
    refine zca (A9z a.m _ rfl) fn0 ?_
    refine ip' 1 10 [(39,bv (J9 a.m))] ?_
    refine zia 4 6 39 43 (!decide (a.m=1)) (fun g9=>?_) ?_
    ·refine zrl 4 0 [1] [(43,bv (!decide (a.m=1)))] ?_
     exact A3 (L6 2 39 43 g9 fn0 (mk [true,true] rfl) rfl rfl rfl rfl rfl)
    refine ip' 1 5 [(44,bv ((J9 a.m)&&(!decide (a.m=1))))] ?_
    refine zia 4 1 44 48 (!decide (a.m=2)) (fun g10=>?_) ?_
    ·have g10p:=g10;try simp at g10p
     refine zrl 4 0 [1] [(48,bv (!decide (a.m=2)))] ?_
     exact A3 (L6 2 44 48 g10 fn0 (mk [true,true] rfl) rfl rfl rfl rfl rfl)
    refine ip' 1 0 [(49,bv (((J9 a.m)&&(!decide (a.m=1)))&&(!decide (a.m=2))))] ?_
    exact A3 (L6 8 35 49 g8 fn0 (mk [true,true] rfl) rfl rfl rfl rfl rfl)
   refine ip' 1 6 [(50,bv ((decide (a.m=3))||(((J9 a.m)&&(!decide (a.m=1)))&&(!decide (a.m=2)))))] ?_
   refine zia 5 1 50 55 (decide (a.color=Col.zero)) (fun g11=>?_) ?_
   ·have g11p:=g11;try simp at g11p
    refine zrl 3 2 [1,0] [(52,ag (M8 a.color)),(53,ag (M8 Col.zero))] ?_
    refine ix rfl (A8e (a:=a.color) (b:=Col.zero) A7g rfl rfl rfl) ?_
    refine ip' 1 0 [(55,bv (decide (a.color=Col.zero)))] ?_
    exact A3 (L6 5 50 55 g11 fn0 (mk [true,true] rfl) rfl rfl rfl rfl rfl)
   refine ip' 1 0 [(4,bv (((decide (a.m=3))||(((J9 a.m)&&(!decide (a.m=1)))&&(!decide (a.m=2))))&&(decide (a.color=Col.zero))))] ?_
   refine A3 ?_
   exact V6 (((decide (a.m=3))||(((J9 a.m)&&(!decide (a.m=1)))&&(!decide (a.m=2))))&&(decide (a.color=Col.zero))) hR (mk [true,true] rfl) fn0
  refine sr 2 rfl (ip' 2 0 [(56,bv (decide (a.n=3)))] ?_)
  refine ie ?_
  refine zjd rfl hR ?_ ?_<;>clear hR<;>intro hR h12 h12p
  ·refine A2 15 rfl (zrl 4 11 [1] [(61,bv (decide ((0:Int)≤a.m)))] ?_)
   refine zid 4 7 61 65 (decide (a.m≤5)) (fun g13 g13p=>?_) ?_
   ·refine zrl 4 0 [1] [(65,bv (decide (a.m≤5)))] ?_
    exact A3 (L6 2 61 65 g13 fn0 (mk [true,true] rfl) rfl rfl rfl rfl rfl)
   refine ip' 1 6 [(66,bv ((decide ((0:Int)≤a.m))&&(decide (a.m≤5))))] ?_
   refine zia 5 1 66 71 (decide (a.color=Col.zero)) (fun g14=>?_) ?_
   ·have g14p:((0:Int)≤a.m)∧(a.m≤5):=by simpa using g14
    refine zrl 3 2 [1,0] [(68,ag (M8 a.color)),(69,ag (M8 Col.zero))] ?_
    refine ix rfl (A8e (a:=a.color) (b:=Col.zero) A7g rfl rfl rfl) ?_
    refine ip' 1 0 [(71,bv (decide (a.color=Col.zero)))] ?_
    exact A3 (L6 5 66 71 g14 fn0 (mk [true,true] rfl) rfl rfl rfl rfl rfl)
   refine ip' 1 0 [(4,bv (((decide ((0:Int)≤a.m))&&(decide (a.m≤5)))&&(decide (a.color=Col.zero))))] ?_
   refine A3 ?_
   exact V6 (((decide ((0:Int)≤a.m))&&(decide (a.m≤5)))&&(decide (a.color=Col.zero))) hR (mk [true,true] rfl) fn0
  refine B8f (fun (t72:Bool)=>(X5 a t72=R,[(1,pt b1 0),(4,bv false),(72,bv t72)],[bx b2 (M8 Col.zero) 24,bx b1 (A4 a) 26],[])) ?_ ?_
  ·refine sr 2 rfl (ip' 2 0 [(72,bv (decide (a.n=4)))] ?_)
   refine ie ?_
   refine zjd rfl hR ?_ ?_<;>clear hR<;>intro hR h15 h15p
   ·refine A6 ?_
    exact V6 (decide (a.n=4)) hR (mk [true,true] rfl) fn0
   refine sr 2 rfl (ip' 2 0 [(72,bv (decide (a.n=5)))] ?_)
   refine ie ?_
   refine zjd rfl hR ?_ ?_<;>clear hR<;>intro hR h16 h16p
   ·refine A6 ?_
    exact V6 (decide (a.n=5)) hR (mk [true,true] rfl) fn0
   refine A2 2 rfl (ip' 2 0 [(72,bv (decide (a.n=6)))] ?_)
   refine A3 ?_
   exact V6 (decide (a.n=6)) hR (mk [true,true] rfl) fn0
  intro t72
  rintro hR
  replace hR:=(X5.eq_1 ..).symm.trans hR
  refine zjb rfl hR ?_ ?_<;>clear hR<;>intro hR h17
  ·refine A2 10 rfl (zrl 4 6 [1] [(79,bv (decide (a.m=0)))] ?_)
   refine zid 5 1 79 84 (decide ((I2 a.color)=0)) (fun g18 g18p=>?_) ?_
   ·refine zrl 2 3 [1] [(81,ag (M8 a.color))] ?_
    refine zca (B0w a.color _ rfl) fn0 ?_
    refine ip' 2 0 [(84,bv (decide ((I2 a.color)=0)))] ?_
    exact A3 (L6 4 79 84 g18 fn0 (mk [true,true] rfl) rfl rfl rfl rfl rfl)
   refine ip' 1 0 [(4,bv ((decide (a.m=0))&&(decide ((I2 a.color)=0))))] ?_
   refine A3 ?_
   exact V6 ((decide (a.m=0))&&(decide ((I2 a.color)=0))) hR (mk [true,true] rfl) fn0
  refine A6 ?_
  exact V6 false hR (mk [true,true] rfl) fn0
 intro is
 rintro hR
 replace hR:=(O9.eq_1 ..).symm.trans hR
 refine A8 (sr 12 rfl (zrl 4 8 [1] [(88,bv (!decide (a.kind=39)))] ?_))
 refine zio 4 4 88 92 (!(decide (a.text=([]:List UInt8)))) (fun g19=>?_) ?_
 ·have g19p:¬ (¬ a.kind=39):=by simpa using g19
  refine zrl 2 2 [1] [(90,sv a.text)] ?_
  refine ix rfl (A1m rfl rfl rfl) ?_
  refine ip' 1 0 [(92,bv (!(decide (a.text=([]:List UInt8)))))] ?_
  exact A3 (L6 4 88 92 g19 fn0 (mk [true,true] rfl) rfl rfl rfl rfl rfl)
 refine ip' 1 3 [(93,bv ((!decide (a.kind=39))||(!(decide (a.text=([]:List UInt8))))))] ?_
 refine zio 3 0 93 96 (!is) (fun g20=>?_) ?_
 ·have g20p:¬ ((¬ a.kind=39)∨(¬ a.text=([]:List UInt8))):=by simpa using g20
  refine ip' 3 0 [(96,bv (!is))] ?_
  exact A3 (L6 2 93 96 g20 fn0 (mk [true,true] rfl) rfl rfl rfl rfl rfl)
 refine ie ?_
 refine zjb rfl hR ?_ ?_<;>clear hR<;>intro hR h21
 ·have h21p:=h21;try simp at h21p
  refine sr 1 rfl (ip' 1 0 [(2,iv 141)] ?_)
  subst hR
  refine ie (A9 ?_)
  exact F2 hr hD
 have h21p:=h21;try simp at h21p
 refine A6 (nx (sr 1 rfl (ip' 1 0 [(2,iv 0)] ?_)))
 subst hR
 refine ie (A9 ?_)
 exact F2 hr hD
def A5z:Int×Int×Int :=
 (0,0,0)
theorem C5v:0≤(A5z).2.2∧(A5z).2.2≤4:=by unfold A5z;decide
theorem C9a (R:Int×Int×Int) (hR:A5z=R):I4 Tryz.prog 227 [.slice none 0 0] [] (.tuple #[iv R.1,iv R.2.1,iv R.2.2]):=by
 refine zco Tryz.func227 [(0,.slice none 0 0)] fun X hX hr hD=>?_
 replace hR:=(A5z.eq_1 ..).symm.trans hR
 refine sr 3 rfl (ip' 3 0 [] ?_)
 refine ie (A8 (sr 3 rfl (ip' 3 0 [(12,bv true)] ?_)))
 refine ie (N1 rfl (sr 3 rfl (ip' 3 0 [(2,iv 0),(3,iv 0),(4,iv 0)] ?_)))
 subst hR
 refine ie (A9 ?_)
 exact zer hr hD (D7n rfl (C1 rfl) (C1 rfl) (C1 rfl)) () (mk [] rfl) fn0
def B5z:Bool×Bool :=
 (B9 A5z fun (y0:Int×Int×Int)=>(bif (decide (y0.2.2=0)) then (false,false) else (((decide ((if (([0,0,128,2048,65536]:List Int).getD ((y0.2.2).toNat) 0) > y0.1 then (([0,0,128,2048,65536]:List Int).getD ((y0.2.2).toNat) 0) else y0.1)≤(if (([0,127,2047,65535,1114111]:List Int).getD ((y0.2.2).toNat) 0)<y0.2.1 then (([0,127,2047,65535,1114111]:List Int).getD ((y0.2.2).toNat) 0) else y0.2.1)))&&(!((decide ((55296:Int)≤(if (([0,0,128,2048,65536]:List Int).getD ((y0.2.2).toNat) 0) > y0.1 then (([0,0,128,2048,65536]:List Int).getD ((y0.2.2).toNat) 0) else y0.1)))&&(decide ((if (([0,127,2047,65535,1114111]:List Int).getD ((y0.2.2).toNat) 0)<y0.2.1 then (([0,127,2047,65535,1114111]:List Int).getD ((y0.2.2).toNat) 0) else y0.2.1)≤57343))))),(((decide ((if (([0,0,128,2048,65536]:List Int).getD ((y0.2.2).toNat) 0) > y0.1 then (([0,0,128,2048,65536]:List Int).getD ((y0.2.2).toNat) 0) else y0.1)≤(if (([0,127,2047,65535,1114111]:List Int).getD ((y0.2.2).toNat) 0)<y0.2.1 then (([0,127,2047,65535,1114111]:List Int).getD ((y0.2.2).toNat) 0) else y0.2.1)))&&(!((decide ((55296:Int)≤(if (([0,0,128,2048,65536]:List Int).getD ((y0.2.2).toNat) 0) > y0.1 then (([0,0,128,2048,65536]:List Int).getD ((y0.2.2).toNat) 0) else y0.1)))&&(decide ((if (([0,127,2047,65535,1114111]:List Int).getD ((y0.2.2).toNat) 0)<y0.2.1 then (([0,127,2047,65535,1114111]:List Int).getD ((y0.2.2).toNat) 0) else y0.2.1)≤57343)))))&&(decide ((0:Int)=y0.2.2))))))
theorem C7h (R:Bool×Bool) (hR:B5z=R):I4 Tryz.prog 226 [.slice none 0 0] [] (.tuple #[bv R.1,bv R.2]):=by
 refine zco Tryz.func226 [(0,.slice none 0 0)] fun X hX hr hD=>?_
 replace hR:=(B5z.eq_1 ..).symm.trans hR
 refine sr 2 rfl (ip' 2 0 [] ?_)
 refine ie (sr 9 rfl (ip' 1 8 [(11,.slice none 0 0)] ?_))
 have hQ:=D6 hR;clear hR;obtain ⟨y0,hy0,hR⟩:=hQ
 refine zca (C9a y0 hy0) fn0 ?_
 have:=C5v ;try rw [hy0] at this
 refine ip' 7 0 [(4,iv y0.1),(5,iv y0.2.1),(6,iv y0.2.2)] ?_
 refine ie (A8 (sr 2 rfl (ip' 2 0 [(17,bv (decide (y0.2.2=0)))] ?_)))
 refine ie ?_
 refine zjd rfl hR ?_ ?_<;>clear hR<;>intro hR h1 h1p
 ·refine sr 2 rfl (ip' 2 0 [(2,bv false),(3,bv false)] ?_)
  subst hR
  refine ie (A9 ?_)
  exact A0p hr hD
 refine A6 (nx (sr 3 rfl (Q2 3 0 [0] (fun b2=>[(7,pt b2 0)]) (fun b2=>[bx b2 [iv 0,iv 0,iv 128,iv 2048,iv 65536] 85]) (fun b2=>?_))))
 refine ie (sr 3 rfl (Q2 3 0 [0] (fun b3=>[(8,pt b3 0)]) (fun b3=>[bx b3 [iv 0,iv 127,iv 2047,iv 65535,iv 1114111] 85,bx b2 [iv 0,iv 0,iv 128,iv 2048,iv 65536] 85]) (fun b3=>?_)))
 refine ie (sd 12 rfl (by kernel_rfl) rfl ?_)
 refine dp' 2 10 [(20,iv y0.1),(21,iv y0.2.2)] ?_
 refine dd rfl (V0 Tryz.underlying85 ty3 rfl rfl rfl ((y0.2.2).toNat) (by omega) (by omega)) ?_
 refine dd rfl (N6 (u:=iv (([0,0,128,2048,65536]:List Int).getD ((y0.2.2).toNat) 0)) (c:=F0) (xs:=([0,0,128,2048,65536]:List Int)) (j:=[]) (sz:=1) ty3 (fun _=>rfl) rfl rfl 1 rfl ((y0.2.2).toNat) 0 rfl (gd 0 (by simp only [List.length_cons,List.length_nil];omega)) rfl) ?_
 refine dp' 3 5 [(24,iv (if (([0,0,128,2048,65536]:List Int).getD ((y0.2.2).toNat) 0) > y0.1 then (([0,0,128,2048,65536]:List Int).getD ((y0.2.2).toNat) 0) else y0.1)),(25,iv y0.2.1),(26,iv y0.2.2)] ?_
 have:=C8a y0.1 (([0,0,128,2048,65536]:List Int).getD ((y0.2.2).toNat) 0)
 refine dd rfl (V0 Tryz.underlying85 ty3 rfl rfl rfl ((y0.2.2).toNat) (by omega) (by omega)) ?_
 refine dd rfl (N6 (u:=iv (([0,127,2047,65535,1114111]:List Int).getD ((y0.2.2).toNat) 0)) (c:=F0) (xs:=([0,127,2047,65535,1114111]:List Int)) (j:=[]) (sz:=1) ty3 (fun _=>rfl) rfl rfl 0 rfl ((y0.2.2).toNat) 0 rfl (gd 0 (by simp only [List.length_cons,List.length_nil];omega)) rfl) ?_
 refine dp' 3 0 [(4,iv (if (([0,0,128,2048,65536]:List Int).getD ((y0.2.2).toNat) 0) > y0.1 then (([0,0,128,2048,65536]:List Int).getD ((y0.2.2).toNat) 0) else y0.1)),(5,iv (if (([0,127,2047,65535,1114111]:List Int).getD ((y0.2.2).toNat) 0)<y0.2.1 then (([0,127,2047,65535,1114111]:List Int).getD ((y0.2.2).toNat) 0) else y0.2.1))] ?_
 have:=C8a y0.1 (([0,0,128,2048,65536]:List Int).getD ((y0.2.2).toNat) 0)
 have:=D3e y0.2.1 (([0,127,2047,65535,1114111]:List Int).getD ((y0.2.2).toNat) 0)
 refine de (sr 13 rfl (ip' 4 9 [(33,bv (decide ((if (([0,0,128,2048,65536]:List Int).getD ((y0.2.2).toNat) 0) > y0.1 then (([0,0,128,2048,65536]:List Int).getD ((y0.2.2).toNat) 0) else y0.1)≤(if (([0,127,2047,65535,1114111]:List Int).getD ((y0.2.2).toNat) 0)<y0.2.1 then (([0,127,2047,65535,1114111]:List Int).getD ((y0.2.2).toNat) 0) else y0.2.1))))] ?_))
 refine zia 8 1 33 41 (!((decide ((55296:Int)≤(if (([0,0,128,2048,65536]:List Int).getD ((y0.2.2).toNat) 0) > y0.1 then (([0,0,128,2048,65536]:List Int).getD ((y0.2.2).toNat) 0) else y0.1)))&&(decide ((if (([0,127,2047,65535,1114111]:List Int).getD ((y0.2.2).toNat) 0)<y0.2.1 then (([0,127,2047,65535,1114111]:List Int).getD ((y0.2.2).toNat) 0) else y0.2.1)≤57343)))) (fun g4=>?_) ?_
 ·have g4p:(if (([0,0,128,2048,65536]:List Int).getD ((y0.2.2).toNat) 0) > y0.1 then (([0,0,128,2048,65536]:List Int).getD ((y0.2.2).toNat) 0) else y0.1)≤(if (([0,127,2047,65535,1114111]:List Int).getD ((y0.2.2).toNat) 0)<y0.2.1 then (([0,127,2047,65535,1114111]:List Int).getD ((y0.2.2).toNat) 0) else y0.2.1):=by first|exact of_decide_eq_true g4|simpa only [Bool.and_eq_true,Bool.not_eq_true',Bool.and_eq_false_imp,decide_eq_true_eq,decide_eq_false_iff_not,not_and] using g4|simpa using g4
  refine ip' 3 5 [(36,bv (decide ((55296:Int)≤(if (([0,0,128,2048,65536]:List Int).getD ((y0.2.2).toNat) 0) > y0.1 then (([0,0,128,2048,65536]:List Int).getD ((y0.2.2).toNat) 0) else y0.1))))] ?_
  refine zia 3 2 36 39 (decide ((if (([0,127,2047,65535,1114111]:List Int).getD ((y0.2.2).toNat) 0)<y0.2.1 then (([0,127,2047,65535,1114111]:List Int).getD ((y0.2.2).toNat) 0) else y0.2.1)≤57343)) (fun g5=>?_) ?_
  ·have g5p:(55296:Int)≤(if (([0,0,128,2048,65536]:List Int).getD ((y0.2.2).toNat) 0) > y0.1 then (([0,0,128,2048,65536]:List Int).getD ((y0.2.2).toNat) 0) else y0.1):=by first|exact of_decide_eq_true g5|simpa only [Bool.and_eq_true,Bool.not_eq_true',Bool.and_eq_false_imp,decide_eq_true_eq,decide_eq_false_iff_not,not_and] using g5|simpa using g5
   refine ip' 3 0 [(39,bv (decide ((if (([0,127,2047,65535,1114111]:List Int).getD ((y0.2.2).toNat) 0)<y0.2.1 then (([0,127,2047,65535,1114111]:List Int).getD ((y0.2.2).toNat) 0) else y0.2.1)≤57343)))] ?_
   exact A3 (L6 2 36 39 g5 fn0 (mk [true,true] rfl) rfl rfl rfl rfl rfl)
  refine ip' 2 0 [(41,bv (!((decide ((55296:Int)≤(if (([0,0,128,2048,65536]:List Int).getD ((y0.2.2).toNat) 0) > y0.1 then (([0,0,128,2048,65536]:List Int).getD ((y0.2.2).toNat) 0) else y0.1)))&&(decide ((if (([0,127,2047,65535,1114111]:List Int).getD ((y0.2.2).toNat) 0)<y0.2.1 then (([0,127,2047,65535,1114111]:List Int).getD ((y0.2.2).toNat) 0) else y0.2.1)≤57343)))))] ?_
  exact A3 (L6 4 33 41 g4 fn0 (mk [true,true] rfl) rfl rfl rfl rfl rfl)
 refine ip' 1 0 [(9,bv ((decide ((if (([0,0,128,2048,65536]:List Int).getD ((y0.2.2).toNat) 0) > y0.1 then (([0,0,128,2048,65536]:List Int).getD ((y0.2.2).toNat) 0) else y0.1)≤(if (([0,127,2047,65535,1114111]:List Int).getD ((y0.2.2).toNat) 0)<y0.2.1 then (([0,127,2047,65535,1114111]:List Int).getD ((y0.2.2).toNat) 0) else y0.2.1)))&&(!((decide ((55296:Int)≤(if (([0,0,128,2048,65536]:List Int).getD ((y0.2.2).toNat) 0) > y0.1 then (([0,0,128,2048,65536]:List Int).getD ((y0.2.2).toNat) 0) else y0.1)))&&(decide ((if (([0,127,2047,65535,1114111]:List Int).getD ((y0.2.2).toNat) 0)<y0.2.1 then (([0,127,2047,65535,1114111]:List Int).getD ((y0.2.2).toNat) 0) else y0.2.1)≤57343))))))] ?_
 refine ie (sr 10 rfl (ip' 3 7 [(42,bv ((decide ((if (([0,0,128,2048,65536]:List Int).getD ((y0.2.2).toNat) 0) > y0.1 then (([0,0,128,2048,65536]:List Int).getD ((y0.2.2).toNat) 0) else y0.1)≤(if (([0,127,2047,65535,1114111]:List Int).getD ((y0.2.2).toNat) 0)<y0.2.1 then (([0,127,2047,65535,1114111]:List Int).getD ((y0.2.2).toNat) 0) else y0.2.1)))&&(!((decide ((55296:Int)≤(if (([0,0,128,2048,65536]:List Int).getD ((y0.2.2).toNat) 0) > y0.1 then (([0,0,128,2048,65536]:List Int).getD ((y0.2.2).toNat) 0) else y0.1)))&&(decide ((if (([0,127,2047,65535,1114111]:List Int).getD ((y0.2.2).toNat) 0)<y0.2.1 then (([0,127,2047,65535,1114111]:List Int).getD ((y0.2.2).toNat) 0) else y0.2.1)≤57343)))))),(44,bv ((decide ((if (([0,0,128,2048,65536]:List Int).getD ((y0.2.2).toNat) 0) > y0.1 then (([0,0,128,2048,65536]:List Int).getD ((y0.2.2).toNat) 0) else y0.1)≤(if (([0,127,2047,65535,1114111]:List Int).getD ((y0.2.2).toNat) 0)<y0.2.1 then (([0,127,2047,65535,1114111]:List Int).getD ((y0.2.2).toNat) 0) else y0.2.1)))&&(!((decide ((55296:Int)≤(if (([0,0,128,2048,65536]:List Int).getD ((y0.2.2).toNat) 0) > y0.1 then (([0,0,128,2048,65536]:List Int).getD ((y0.2.2).toNat) 0) else y0.1)))&&(decide ((if (([0,127,2047,65535,1114111]:List Int).getD ((y0.2.2).toNat) 0)<y0.2.1 then (([0,127,2047,65535,1114111]:List Int).getD ((y0.2.2).toNat) 0) else y0.2.1)≤57343))))))] ?_))
 refine zia 5 2 44 49 (decide ((0:Int)=y0.2.2)) (fun g6=>?_) ?_
 ·have g6p:((if (([0,0,128,2048,65536]:List Int).getD ((y0.2.2).toNat) 0) > y0.1 then (([0,0,128,2048,65536]:List Int).getD ((y0.2.2).toNat) 0) else y0.1)≤(if (([0,127,2047,65535,1114111]:List Int).getD ((y0.2.2).toNat) 0)<y0.2.1 then (([0,127,2047,65535,1114111]:List Int).getD ((y0.2.2).toNat) 0) else y0.2.1))∧(¬ (((55296:Int)≤(if (([0,0,128,2048,65536]:List Int).getD ((y0.2.2).toNat) 0) > y0.1 then (([0,0,128,2048,65536]:List Int).getD ((y0.2.2).toNat) 0) else y0.1))∧((if (([0,127,2047,65535,1114111]:List Int).getD ((y0.2.2).toNat) 0)<y0.2.1 then (([0,127,2047,65535,1114111]:List Int).getD ((y0.2.2).toNat) 0) else y0.2.1)≤57343))):=by first|exact of_decide_eq_true g6|simpa only [Bool.and_eq_true,Bool.not_eq_true',Bool.and_eq_false_imp,decide_eq_true_eq,decide_eq_false_iff_not,not_and] using g6|simpa using g6
  refine ip' 5 0 [(49,bv (decide ((0:Int)=y0.2.2)))] ?_
  exact A3 (L6 2 44 49 g6 fn0 (mk [true,true] rfl) rfl rfl rfl rfl rfl)
 refine ip' 2 0 [(2,bv ((decide ((if (([0,0,128,2048,65536]:List Int).getD ((y0.2.2).toNat) 0) > y0.1 then (([0,0,128,2048,65536]:List Int).getD ((y0.2.2).toNat) 0) else y0.1)≤(if (([0,127,2047,65535,1114111]:List Int).getD ((y0.2.2).toNat) 0)<y0.2.1 then (([0,127,2047,65535,1114111]:List Int).getD ((y0.2.2).toNat) 0) else y0.2.1)))&&(!((decide ((55296:Int)≤(if (([0,0,128,2048,65536]:List Int).getD ((y0.2.2).toNat) 0) > y0.1 then (([0,0,128,2048,65536]:List Int).getD ((y0.2.2).toNat) 0) else y0.1)))&&(decide ((if (([0,127,2047,65535,1114111]:List Int).getD ((y0.2.2).toNat) 0)<y0.2.1 then (([0,127,2047,65535,1114111]:List Int).getD ((y0.2.2).toNat) 0) else y0.2.1)≤57343)))))),(3,bv (((decide ((if (([0,0,128,2048,65536]:List Int).getD ((y0.2.2).toNat) 0) > y0.1 then (([0,0,128,2048,65536]:List Int).getD ((y0.2.2).toNat) 0) else y0.1)≤(if (([0,127,2047,65535,1114111]:List Int).getD ((y0.2.2).toNat) 0)<y0.2.1 then (([0,127,2047,65535,1114111]:List Int).getD ((y0.2.2).toNat) 0) else y0.2.1)))&&(!((decide ((55296:Int)≤(if (([0,0,128,2048,65536]:List Int).getD ((y0.2.2).toNat) 0) > y0.1 then (([0,0,128,2048,65536]:List Int).getD ((y0.2.2).toNat) 0) else y0.1)))&&(decide ((if (([0,127,2047,65535,1114111]:List Int).getD ((y0.2.2).toNat) 0)<y0.2.1 then (([0,127,2047,65535,1114111]:List Int).getD ((y0.2.2).toNat) 0) else y0.2.1)≤57343)))))&&(decide ((0:Int)=y0.2.2))))] ?_
 subst hR
 refine ie (A9 ?_)
 exact A0p hr hD
def A7f:Bool :=
 (B9 B5z fun (y2:Bool×Bool)=>true)
theorem C5w (R:Bool) (hR:A7f=R):I4 Tryz.prog 225 [.slice none 0 0] [] (bv R):=by
 refine zco Tryz.func225 [(0,.slice none 0 0)] fun X hX hr hD=>?_
 replace hR:=(A7f.eq_1 ..).symm.trans hR
 refine sr 1 rfl (ip' 1 0 [] ?_)
 refine ie (sr 7 rfl (ip' 1 6 [(6,.slice none 0 0)] ?_))
 have hQ:=D6 hR;clear hR;obtain ⟨y2,hy2,hR⟩:=hQ
 refine zca (C7h y2 hy2) fn0 ?_
 refine ip' 5 0 [(3,bv y2.1),(4,bv y2.2)] ?_
 refine ie (sr 11 rfl (ip' 11 0 [(2,bv true)] ?_))
 subst hR
 refine ie (A9 ?_)
 exact F2 hr hD
def G6 (b:UInt8):Int×Int :=
 (bif (decide ((b.toNat:Int)<128)) then (1,(b.toNat:Int)) else (bif ((decide ((192:Int)≤(b.toNat:Int)))&&(decide ((b.toNat:Int)<224))) then (2,((b.toNat:Int) - 192)) else (bif ((decide ((224:Int)≤(b.toNat:Int)))&&(decide ((b.toNat:Int)<240))) then (3,((b.toNat:Int) - 224)) else (bif ((decide ((240:Int)≤(b.toNat:Int)))&&(decide ((b.toNat:Int)<248))) then (4,((b.toNat:Int) - 240)) else (0,0)))))
theorem B4k (b:UInt8):(0≤(G6 b).1∧(G6 b).1≤4)∧0≤(G6 b).2∧(G6 b).2≤127:=by
 have:=b.toNat_lt
 unfold G6
 by_cases h1:(b.toNat:Int)<128
 ·rw [decide_eq_true h1];simp only [cond_true];omega
 ·rw [decide_eq_false h1,cond_false]
  by_cases h2:(192:Int)≤(b.toNat:Int)∧(b.toNat:Int)<224
  ·rw [show ((decide ((192:Int)≤(b.toNat:Int)))&&(decide ((b.toNat:Int)<224)))=true by simp only [Bool.and_eq_true,decide_eq_true_eq];exact h2,cond_true];dsimp only;omega
  ·rw [show ((decide ((192:Int)≤(b.toNat:Int)))&&(decide ((b.toNat:Int)<224)))=false by simp only [Bool.and_eq_false_iff,decide_eq_false_iff_not];omega,cond_false]
   by_cases h3:(224:Int)≤(b.toNat:Int)∧(b.toNat:Int)<240
   ·rw [show ((decide ((224:Int)≤(b.toNat:Int)))&&(decide ((b.toNat:Int)<240)))=true by simp only [Bool.and_eq_true,decide_eq_true_eq];exact h3,cond_true];dsimp only;omega
   ·rw [show ((decide ((224:Int)≤(b.toNat:Int)))&&(decide ((b.toNat:Int)<240)))=false by simp only [Bool.and_eq_false_iff,decide_eq_false_iff_not];omega,cond_false]
    by_cases h4:(240:Int)≤(b.toNat:Int)∧(b.toNat:Int)<248
    ·rw [show ((decide ((240:Int)≤(b.toNat:Int)))&&(decide ((b.toNat:Int)<248)))=true by simp only [Bool.and_eq_true,decide_eq_true_eq];exact h4,cond_true];dsimp only;omega
    ·rw [show ((decide ((240:Int)≤(b.toNat:Int)))&&(decide ((b.toNat:Int)<248)))=false by simp only [Bool.and_eq_false_iff,decide_eq_false_iff_not];omega,cond_false];dsimp only;omega
theorem C5p (b:UInt8) (R:Int×Int) (hR:G6 b=R):I4 Tryz.prog 239 [.int .u8 (b.toNat:Int)] [] (.tuple #[iv R.1,iv R.2]):=by
 refine zco Tryz.func239 [(0,.int .u8 (b.toNat:Int))] fun X hX hr hD=>?_
 unfold G6 at hR
 refine sr 2 rfl (ip' 2 0 [] ?_)
 refine ie (A8 (sr 2 rfl (ip' 2 0 [(5,bv (decide ((b.toNat:Int)<128)))] ?_)))
 refine ie ?_
 refine zjd rfl hR ?_ ?_<;>clear hR<;>intro hR h1 h1p
 ·refine sr 4 rfl (ip' 1 3 [(6,.int .u8 (b.toNat:Int))] ?_)
  refine ix rfl (N8 (c:=(b.toNat:Int)) Tryz.underlying3 (by kernel_rfl) rfl rfl (X3 b)) ?_
  refine ip' 2 0 [(2,iv 1),(3,iv (b.toNat:Int))] ?_
  subst hR
  refine ie (A9 ?_)
  exact A0p hr hD
 refine A6 (nx (A8 (sr 6 rfl (ip' 3 3 [(10,bv (decide ((192:Int)≤(b.toNat:Int))))] ?_))))
 refine zid 3 0 10 13 (decide ((b.toNat:Int)<224)) (fun g2 g2p=>?_) ?_
 ·refine ip' 3 0 [(13,bv (decide ((b.toNat:Int)<224)))] ?_
  exact A3 (L6 2 10 13 g2 fn0 (mk [] rfl) rfl rfl rfl rfl rfl)
 refine ie ?_
 refine zja rfl hR ?_ ?_<;>clear hR<;>intro hR h3 h3p
 ·refine sr 5 rfl (ip' 1 4 [(14,.int .u8 (b.toNat:Int))] ?_)
  refine ix rfl (N8 (c:=(b.toNat:Int)) Tryz.underlying3 (by kernel_rfl) rfl rfl (X3 b)) ?_
  refine ix rfl (N7 rfl rfl rfl rfl (by omega)) ?_
  refine ip' 2 0 [(2,iv 2),(3,iv ((b.toNat:Int) - 192))] ?_
  subst hR
  refine ie (A9 ?_)
  exact A0p hr hD
 refine A6 (nx (A8 (sr 6 rfl (ip' 3 3 [(19,bv (decide ((224:Int)≤(b.toNat:Int))))] ?_))))
 refine zid 3 0 19 22 (decide ((b.toNat:Int)<240)) (fun g4 g4p=>?_) ?_
 ·refine ip' 3 0 [(22,bv (decide ((b.toNat:Int)<240)))] ?_
  exact A3 (L6 2 19 22 g4 fn0 (mk [] rfl) rfl rfl rfl rfl rfl)
 refine ie ?_
 refine zja rfl hR ?_ ?_<;>clear hR<;>intro hR h5 h5p
 ·refine sr 5 rfl (ip' 1 4 [(23,.int .u8 (b.toNat:Int))] ?_)
  refine ix rfl (N8 (c:=(b.toNat:Int)) Tryz.underlying3 (by kernel_rfl) rfl rfl (X3 b)) ?_
  refine ix rfl (N7 rfl rfl rfl rfl (by omega)) ?_
  refine ip' 2 0 [(2,iv 3),(3,iv ((b.toNat:Int) - 224))] ?_
  subst hR
  refine ie (A9 ?_)
  exact A0p hr hD
 refine A6 (nx (A8 (sr 6 rfl (ip' 3 3 [(28,bv (decide ((240:Int)≤(b.toNat:Int))))] ?_))))
 refine zid 3 0 28 31 (decide ((b.toNat:Int)<248)) (fun g6 g6p=>?_) ?_
 ·refine ip' 3 0 [(31,bv (decide ((b.toNat:Int)<248)))] ?_
  exact A3 (L6 2 28 31 g6 fn0 (mk [] rfl) rfl rfl rfl rfl rfl)
 refine ie ?_
 refine zja rfl hR ?_ ?_<;>clear hR<;>intro hR h7 h7p
 ·refine sr 5 rfl (ip' 1 4 [(32,.int .u8 (b.toNat:Int))] ?_)
  refine ix rfl (N8 (c:=(b.toNat:Int)) Tryz.underlying3 (by kernel_rfl) rfl rfl (X3 b)) ?_
  refine ix rfl (N7 rfl rfl rfl rfl (by omega)) ?_
  refine ip' 2 0 [(2,iv 4),(3,iv ((b.toNat:Int) - 240))] ?_
  subst hR
  refine ie (A9 ?_)
  exact A0p hr hD
 refine A6 (nx (sr 2 rfl (ip' 2 0 [(2,iv 0),(3,iv 0)] ?_)))
 subst hR
 refine ie (A9 ?_)
 exact A0p hr hD
def F4 (p:List UInt8) (y6:Int×Int):Nat→Int→Int→Nat→(Int×Int×Int)
 | 0,_,_,_=>(0,0,0)
 | fu1+1,low,high,i=>(bif (decide ((i:Int)<y6.1)) then (bif (decide ((i:Int)<(p.length:Int))) then (bif ((decide (((p.getD i 0).toNat:Int)<128))||(decide ((191:Int)<((p.getD i 0).toNat:Int)))) then (0,0,0) else F4 p y6 fu1 (IntKind.i64.wrap ((IntKind.i64.wrap (low * (64:Int)))+(((p.getD i 0).toNat:Int) - 128))) (IntKind.i64.wrap ((IntKind.i64.wrap ((IntKind.i64.wrap ((IntKind.i64.wrap (high * (64:Int)))+(63:Int))) - (63:Int)))+(((p.getD i 0).toNat:Int) - 128))) (i+1)) else F4 p y6 fu1 (IntKind.i64.wrap (low * (64:Int))) (IntKind.i64.wrap ((IntKind.i64.wrap (high * (64:Int)))+(63:Int))) (i+1)) else (bif (decide (y6.1<(p.length:Int))) then (0,0,0) else (low,high,y6.1)))
def K5 (p:List UInt8):Int×Int×Int :=
 (bif (decide ((p.length:Int)=0)) then (0,0,0) else (B9 (G6 (p.getD 0 0)) fun (y6:Int×Int)=>F4 p y6 ((y6.1 - (1:Int)).toNat+1) y6.2 y6.2 1))
theorem A5b (p:List UInt8) (f:Int×Int) (hf:0≤f.1∧f.1≤4):∀ (fu:Nat) (low high:Int) (i:Nat),0≤(F4 p f fu low high i).2.2∧(F4 p f fu low high i).2.2≤4∧((F4 p f fu low high i).2.2≠0→(p.length:Int)≤4)
 | 0,low,high,i=>by simp [F4]
 | fu+1,low,high,i=>by
  simp only [F4]
  cases (decide ((i:Int)<f.1)) with
  | true =>
   rw [cond_true]
   cases (decide ((i:Int)<(p.length:Int))) with
   | true =>
    rw [cond_true]
    generalize ((decide (((p.getD i 0).toNat:Int)<128))||(decide ((191:Int)<((p.getD i 0).toNat:Int))))=c
    cases c with
    | true=>simp
    | false=>rw [cond_false];exact A5b p f hf fu _ _ _
   | false=>rw [cond_false];exact A5b p f hf fu _ _ _
  | false =>
   rw [cond_false]
   by_cases h:f.1<(p.length:Int)
   ·rw [decide_eq_true h,cond_true];simp
   ·rw [decide_eq_false h,cond_false];dsimp only;omega
theorem A5e (p:List UInt8):0≤(K5 p).2.2∧(K5 p).2.2≤4∧((K5 p).2.2≠0→(p.length:Int)≤4):=by
 unfold K5
 cases (decide ((p.length:Int)=0)) with
 | true=>simp
 | false=>rw [cond_false];simp only [B9];exact A5b p _ (B4k _).1 _ _ _ _
theorem B0y (p:List UInt8) (pq:Option Addr) (pk:Nat) (hlp:p.length≤9223372036854775807) (hcp:p.length≤pk) (R:Int×Int×Int) (hR:K5 p=R):I4 Tryz.prog 227 [.slice pq p.length pk] [sl cU8 pq p] (.tuple #[iv R.1,iv R.2.1,iv R.2.2]):=by
 refine zco Tryz.func227 [(0,.slice pq p.length pk)] fun X hX hr hD=>?_
 replace hR:=(K5.eq_1 ..).symm.trans hR
 refine sr 3 rfl (ip' 3 0 [] ?_)
 refine ie (A8 (sr 3 rfl (ip' 3 0 [(12,bv (decide ((p.length:Int)=0)))] ?_)))
 refine ie ?_
 refine zjd rfl hR ?_ ?_<;>clear hR<;>intro hR h1 h1p
 ·refine sr 3 rfl (ip' 3 0 [(2,iv 0),(3,iv 0),(4,iv 0)] ?_)
  subst hR
  refine ie (A9 ?_)
  exact zer hr hD (D7n rfl (C1 rfl) (C1 rfl) (C1 rfl)) () (mk [] rfl) fn0
 refine A6 (nx (sr 9 rfl (ip' 1 8 [(14,.slice pq p.length pk)] ?_)))
 refine R8 0 rfl (by omega) fun a2 hq3=>?_
 refine ix rfl (M4 A0v rfl rfl hq3 rfl 0 rfl (by omega)) ?_
 refine ix rfl (F5 (v:=.int .u8 ((p.getD 0 0).toNat:Int)) (us:=[.int .u8 ((p.getD 0 0).toNat:Int)]) ty5 rfl rfl (O2 (c:=cU8) (sz:=1) hq3 (fun _=>rfl) 0 rfl (gd 0 (by omega))) rfl) ?_
 have hQ:=D6 hR;clear hR;obtain ⟨y6,hy6,hR⟩:=hQ
 refine zca (C5p (p.getD 0 0) y6 hy6) fn0 ?_
 have:=B4k (p.getD 0 0);try rw [hy6] at this
 refine ip' 5 0 [(5,iv y6.1),(6,iv y6.2)] ?_
 refine ie (sr 2 rfl (ip' 2 0 [(7,iv y6.2)] ?_))
 refine ie (A8 (sr 1 rfl (ip' 1 0 [(8,iv 1)] ?_)))
 refine ie (B3 (C1r (fun (fu:Nat) (low:Int) (high:Int) (i:Nat)=>((y6.1 - (i:Int)).toNat<fu∧F4 p y6 fu low high i=R,[(0,.slice pq p.length pk),(5,iv y6.1),(6,iv low),(7,iv high),(8,iv (i:Int))],[],[sl cU8 pq p],fu)) ((y6.1 - (1:Int)).toNat+1) y6.2 y6.2 1 ⟨(Nat.lt_succ_self _),hR⟩ (mk [] rfl) A1.refl ?_))
 rintro fu low high i ⟨hm4,hR⟩
 obtain ⟨fu1,rfl⟩:∃ m,fu=m+1:=⟨fu - 1,by omega⟩
 replace hR:=(F4.eq_2 ..).symm.trans hR
 refine A8 (sr 3 rfl (ip' 3 0 [(23,bv (decide ((i:Int)<y6.1)))] ?_))
 refine ie ?_
 refine zjd rfl hR ?_ ?_<;>clear hR<;>intro hR h5 h5p
 ·refine A6 (nx (A8 (B3 (sr 7 rfl (ip' 1 6 [(26,iv low)] ?_)))))
  refine ix rfl (G9.pure rfl) ?_
  refine ip' 1 4 [(28,iv high)] ?_
  refine ix rfl (G9.pure rfl) ?_
  refine ix rfl (G9.pure rfl) ?_
  refine ip' 2 0 [(6,iv (IntKind.i64.wrap (low * (64:Int)))),(7,iv (IntKind.i64.wrap ((IntKind.i64.wrap (high * (64:Int)))+(63:Int))))] ?_
  refine ie (sr 4 rfl (ip' 4 0 [(34,bv (decide ((i:Int)<(p.length:Int))))] ?_))
  refine ie ?_
  refine zjd rfl hR ?_ ?_<;>clear hR<;>intro hR h6 h6p
  ·refine A8 (sr 12 rfl (ip' 2 10 [(35,.slice pq p.length pk),(36,iv (i:Int))] ?_))
   refine ix rfl (M4 A0v rfl rfl hq3 rfl i rfl (by omega)) ?_
   refine ix rfl (F5 (v:=.int .u8 ((p.getD i 0).toNat:Int)) (us:=[.int .u8 ((p.getD i 0).toNat:Int)]) ty5 rfl rfl (O2 (c:=cU8) (sz:=1) hq3 (fun _=>rfl) 0 rfl (gd 0 (by omega))) rfl) ?_
   refine ip' 2 6 [(40,bv (decide (((p.getD i 0).toNat:Int)<128)))] ?_
   refine zir 6 0 40 46 (decide ((191:Int)<((p.getD i 0).toNat:Int))) (fun g7 g7p=>?_) ?_
   ·refine ip' 2 4 [(41,.slice pq p.length pk),(42,iv (i:Int))] ?_
    refine ix rfl (M4 A0v rfl rfl hq3 rfl i rfl (by omega)) ?_
    refine ix rfl (F5 (v:=.int .u8 ((p.getD i 0).toNat:Int)) (us:=[.int .u8 ((p.getD i 0).toNat:Int)]) ty5 rfl rfl (O2 (c:=cU8) (sz:=1) hq3 (fun _=>rfl) 0 rfl (gd 0 (by omega))) rfl) ?_
    refine ip' 2 0 [(46,bv (decide ((191:Int)<((p.getD i 0).toNat:Int))))] ?_
    exact zai 6 40 46 g7
   refine ie ?_
   refine zjo rfl hR ?_ ?_<;>clear hR<;>intro hR h8 h8p
   ·refine sr 3 rfl (ip' 3 0 [(2,iv 0),(3,iv 0),(4,iv 0)] ?_)
    subst hR
    refine ie (A9 ?_)
    exact zer hr hD (D7n rfl (C1 rfl) (C1 rfl) (C1 rfl)) () (mk [] rfl) fn0
   refine A6 (nx (sr 7 rfl (ip' 2 5 [(47,.slice pq p.length pk),(48,iv (i:Int))] ?_)))
   refine ix rfl (M4 A0v rfl rfl hq3 rfl i rfl (by omega)) ?_
   refine ix rfl (F5 (v:=.int .u8 ((p.getD i 0).toNat:Int)) (us:=[.int .u8 ((p.getD i 0).toNat:Int)]) ty5 rfl rfl (O2 (c:=cU8) (sz:=1) hq3 (fun _=>rfl) 0 rfl (gd 0 (by omega))) rfl) ?_
   refine ix rfl (N8 (c:=((p.getD i 0).toNat:Int)) Tryz.underlying3 (by kernel_rfl) rfl rfl (X3 (p.getD i 0))) ?_
   refine ix rfl (N7 rfl rfl rfl rfl (by omega)) ?_
   refine ip' 1 0 [(9,iv (((p.getD i 0).toNat:Int) - 128))] ?_
   refine ie (A2 9 rfl (ip' 2 7 [(53,iv (IntKind.i64.wrap (low * (64:Int)))),(54,iv (((p.getD i 0).toNat:Int) - 128))] ?_))
   refine ix rfl (G9.pure rfl) ?_
   refine ip' 1 5 [(56,iv (IntKind.i64.wrap ((IntKind.i64.wrap (high * (64:Int)))+(63:Int))))] ?_
   refine ix rfl (G9.pure rfl) ?_
   refine ip' 1 3 [(58,iv (((p.getD i 0).toNat:Int) - 128))] ?_
   refine ix rfl (G9.pure rfl) ?_
   refine ip' 2 0 [(6,iv (IntKind.i64.wrap ((IntKind.i64.wrap (low * (64:Int)))+(((p.getD i 0).toNat:Int) - 128)))),(7,iv (IntKind.i64.wrap ((IntKind.i64.wrap ((IntKind.i64.wrap ((IntKind.i64.wrap (high * (64:Int)))+(63:Int))) - (63:Int)))+(((p.getD i 0).toNat:Int) - 128))))] ?_
   refine A3 (nx (A2 3 rfl (ip' 1 2 [(24,iv (i:Int))] ?_)))
   refine ix rfl (B5 rfl rfl rfl rfl (by omega)) ?_
   refine ip' 1 0 [(8,iv ((i:Int)+1))] ?_
   refine A3 ?_
   exact B5q (z1:=(fu1+1)) (z2:=low) (z3:=high) (z4:=i) fu1 (IntKind.i64.wrap ((IntKind.i64.wrap (low * (64:Int)))+(((p.getD i 0).toNat:Int) - 128))) (IntKind.i64.wrap ((IntKind.i64.wrap ((IntKind.i64.wrap ((IntKind.i64.wrap (high * (64:Int)))+(63:Int))) - (63:Int)))+(((p.getD i 0).toNat:Int) - 128))) (i+1) ⟨(by omega),hR⟩ (Nat.lt_succ_self _) (mk [] rfl) A1.refl
  refine A6 (nx (A2 3 rfl (ip' 1 2 [(24,iv (i:Int))] ?_)))
  refine ix rfl (B5 rfl rfl rfl rfl (by omega)) ?_
  refine ip' 1 0 [(8,iv ((i:Int)+1))] ?_
  refine A3 ?_
  exact B5q (z1:=(fu1+1)) (z2:=low) (z3:=high) (z4:=i) fu1 (IntKind.i64.wrap (low * (64:Int))) (IntKind.i64.wrap ((IntKind.i64.wrap (high * (64:Int)))+(63:Int))) (i+1) ⟨(by omega),hR⟩ (Nat.lt_succ_self _) (mk [] rfl) A1.refl
 refine I3 (nx (A8 (sr 4 rfl (ip' 4 0 [(63,bv (decide (y6.1<(p.length:Int))))] ?_))))
 refine ie ?_
 refine zjd rfl hR ?_ ?_<;>clear hR<;>intro hR h9 h9p
 ·refine sr 3 rfl (ip' 3 0 [(2,iv 0),(3,iv 0),(4,iv 0)] ?_)
  subst hR
  refine ie (A9 ?_)
  exact zer hr hD (D7n rfl (C1 rfl) (C1 rfl) (C1 rfl)) () (mk [] rfl) fn0
 refine A6 (nx (sr 6 rfl (ip' 6 0 [(2,iv low),(3,iv high),(4,iv y6.1)] ?_)))
 subst hR
 refine ie (A9 ?_)
 exact zer hr hD (D7n rfl (C1 rfl) (C1 rfl) (C1 rfl)) () (mk [] rfl) fn0
def M7 (p:List UInt8):Bool×Bool :=
 (B9 (K5 p) fun (y1:Int×Int×Int)=>(bif (decide (y1.2.2=0)) then (false,false) else (((decide ((if (([0,0,128,2048,65536]:List Int).getD ((y1.2.2).toNat) 0) > y1.1 then (([0,0,128,2048,65536]:List Int).getD ((y1.2.2).toNat) 0) else y1.1)≤(if (([0,127,2047,65535,1114111]:List Int).getD ((y1.2.2).toNat) 0)<y1.2.1 then (([0,127,2047,65535,1114111]:List Int).getD ((y1.2.2).toNat) 0) else y1.2.1)))&&(!((decide ((55296:Int)≤(if (([0,0,128,2048,65536]:List Int).getD ((y1.2.2).toNat) 0) > y1.1 then (([0,0,128,2048,65536]:List Int).getD ((y1.2.2).toNat) 0) else y1.1)))&&(decide ((if (([0,127,2047,65535,1114111]:List Int).getD ((y1.2.2).toNat) 0)<y1.2.1 then (([0,127,2047,65535,1114111]:List Int).getD ((y1.2.2).toNat) 0) else y1.2.1)≤57343))))),(((decide ((if (([0,0,128,2048,65536]:List Int).getD ((y1.2.2).toNat) 0) > y1.1 then (([0,0,128,2048,65536]:List Int).getD ((y1.2.2).toNat) 0) else y1.1)≤(if (([0,127,2047,65535,1114111]:List Int).getD ((y1.2.2).toNat) 0)<y1.2.1 then (([0,127,2047,65535,1114111]:List Int).getD ((y1.2.2).toNat) 0) else y1.2.1)))&&(!((decide ((55296:Int)≤(if (([0,0,128,2048,65536]:List Int).getD ((y1.2.2).toNat) 0) > y1.1 then (([0,0,128,2048,65536]:List Int).getD ((y1.2.2).toNat) 0) else y1.1)))&&(decide ((if (([0,127,2047,65535,1114111]:List Int).getD ((y1.2.2).toNat) 0)<y1.2.1 then (([0,127,2047,65535,1114111]:List Int).getD ((y1.2.2).toNat) 0) else y1.2.1)≤57343)))))&&(decide ((p.length:Int)=y1.2.2))))))
theorem C4b (p:List UInt8) (h:(M7 p).1=true):(p.length:Int)≤4:=by
 unfold M7 at h
 simp only [B9] at h
 by_cases e:(K5 p).2.2=0
 ·rw [decide_eq_true e] at h;simp at h
 ·exact (A5e p).2.2 e
theorem B0t (p:List UInt8) (pq:Option Addr) (pk:Nat) (hlp:p.length≤9223372036854775807) (hcp:p.length≤pk) (R:Bool×Bool) (hR:M7 p=R):I4 Tryz.prog 226 [.slice pq p.length pk] [sl cU8 pq p] (.tuple #[bv R.1,bv R.2]):=by
 refine zco Tryz.func226 [(0,.slice pq p.length pk)] fun X hX hr hD=>?_
 replace hR:=(M7.eq_1 ..).symm.trans hR
 refine sr 2 rfl (ip' 2 0 [] ?_)
 refine ie (sr 9 rfl (ip' 1 8 [(11,.slice pq p.length pk)] ?_))
 have hQ:=D6 hR;clear hR;obtain ⟨y1,hy1,hR⟩:=hQ
 refine zca (B0y p pq pk (by first|omega|(simp<;>omega)|(dsimp only;omega)|decide) (by first|omega|(simp<;>omega)|(dsimp only;omega)|decide) y1 hy1) A1.refl ?_
 have:=A5e p;try rw [hy1] at this
 refine ip' 7 0 [(4,iv y1.1),(5,iv y1.2.1),(6,iv y1.2.2)] ?_
 refine ie (A8 (sr 2 rfl (ip' 2 0 [(17,bv (decide (y1.2.2=0)))] ?_)))
 refine ie ?_
 refine zjd rfl hR ?_ ?_<;>clear hR<;>intro hR h1 h1p
 ·refine sr 2 rfl (ip' 2 0 [(2,bv false),(3,bv false)] ?_)
  subst hR
  refine ie (A9 ?_)
  exact A0p hr hD
 refine A6 (nx (sr 3 rfl (Q2 3 0 [0] (fun b2=>[(7,pt b2 0)]) (fun b2=>[bx b2 [iv 0,iv 0,iv 128,iv 2048,iv 65536] 85]) (fun b2=>?_))))
 refine ie (sr 3 rfl (Q2 3 0 [0] (fun b3=>[(8,pt b3 0)]) (fun b3=>[bx b3 [iv 0,iv 127,iv 2047,iv 65535,iv 1114111] 85,bx b2 [iv 0,iv 0,iv 128,iv 2048,iv 65536] 85]) (fun b3=>?_)))
 refine ie (sd 12 rfl (by kernel_rfl) rfl ?_)
 refine dp' 2 10 [(20,iv y1.1),(21,iv y1.2.2)] ?_
 refine dd rfl (V0 Tryz.underlying85 ty3 rfl rfl rfl ((y1.2.2).toNat) (by omega) (by omega)) ?_
 refine dd rfl (N6 (u:=iv (([0,0,128,2048,65536]:List Int).getD ((y1.2.2).toNat) 0)) (c:=F0) (xs:=([0,0,128,2048,65536]:List Int)) (j:=[]) (sz:=1) ty3 (fun _=>rfl) rfl rfl 1 rfl ((y1.2.2).toNat) 0 rfl (gd 0 (by simp only [List.length_cons,List.length_nil];omega)) rfl) ?_
 refine dp' 3 5 [(24,iv (if (([0,0,128,2048,65536]:List Int).getD ((y1.2.2).toNat) 0) > y1.1 then (([0,0,128,2048,65536]:List Int).getD ((y1.2.2).toNat) 0) else y1.1)),(25,iv y1.2.1),(26,iv y1.2.2)] ?_
 have:=C8a y1.1 (([0,0,128,2048,65536]:List Int).getD ((y1.2.2).toNat) 0)
 refine dd rfl (V0 Tryz.underlying85 ty3 rfl rfl rfl ((y1.2.2).toNat) (by omega) (by omega)) ?_
 refine dd rfl (N6 (u:=iv (([0,127,2047,65535,1114111]:List Int).getD ((y1.2.2).toNat) 0)) (c:=F0) (xs:=([0,127,2047,65535,1114111]:List Int)) (j:=[]) (sz:=1) ty3 (fun _=>rfl) rfl rfl 0 rfl ((y1.2.2).toNat) 0 rfl (gd 0 (by simp only [List.length_cons,List.length_nil];omega)) rfl) ?_
 refine dp' 3 0 [(4,iv (if (([0,0,128,2048,65536]:List Int).getD ((y1.2.2).toNat) 0) > y1.1 then (([0,0,128,2048,65536]:List Int).getD ((y1.2.2).toNat) 0) else y1.1)),(5,iv (if (([0,127,2047,65535,1114111]:List Int).getD ((y1.2.2).toNat) 0)<y1.2.1 then (([0,127,2047,65535,1114111]:List Int).getD ((y1.2.2).toNat) 0) else y1.2.1))] ?_
 have:=C8a y1.1 (([0,0,128,2048,65536]:List Int).getD ((y1.2.2).toNat) 0)
 have:=D3e y1.2.1 (([0,127,2047,65535,1114111]:List Int).getD ((y1.2.2).toNat) 0)
 refine de (sr 13 rfl (ip' 4 9 [(33,bv (decide ((if (([0,0,128,2048,65536]:List Int).getD ((y1.2.2).toNat) 0) > y1.1 then (([0,0,128,2048,65536]:List Int).getD ((y1.2.2).toNat) 0) else y1.1)≤(if (([0,127,2047,65535,1114111]:List Int).getD ((y1.2.2).toNat) 0)<y1.2.1 then (([0,127,2047,65535,1114111]:List Int).getD ((y1.2.2).toNat) 0) else y1.2.1))))] ?_))
 refine zia 8 1 33 41 (!((decide ((55296:Int)≤(if (([0,0,128,2048,65536]:List Int).getD ((y1.2.2).toNat) 0) > y1.1 then (([0,0,128,2048,65536]:List Int).getD ((y1.2.2).toNat) 0) else y1.1)))&&(decide ((if (([0,127,2047,65535,1114111]:List Int).getD ((y1.2.2).toNat) 0)<y1.2.1 then (([0,127,2047,65535,1114111]:List Int).getD ((y1.2.2).toNat) 0) else y1.2.1)≤57343)))) (fun g4=>?_) ?_
 ·have g4p:(if (([0,0,128,2048,65536]:List Int).getD ((y1.2.2).toNat) 0) > y1.1 then (([0,0,128,2048,65536]:List Int).getD ((y1.2.2).toNat) 0) else y1.1)≤(if (([0,127,2047,65535,1114111]:List Int).getD ((y1.2.2).toNat) 0)<y1.2.1 then (([0,127,2047,65535,1114111]:List Int).getD ((y1.2.2).toNat) 0) else y1.2.1):=by first|exact of_decide_eq_true g4|simpa only [Bool.and_eq_true,Bool.not_eq_true',Bool.and_eq_false_imp,decide_eq_true_eq,decide_eq_false_iff_not,not_and] using g4|simpa using g4
  refine ip' 3 5 [(36,bv (decide ((55296:Int)≤(if (([0,0,128,2048,65536]:List Int).getD ((y1.2.2).toNat) 0) > y1.1 then (([0,0,128,2048,65536]:List Int).getD ((y1.2.2).toNat) 0) else y1.1))))] ?_
  refine zia 3 2 36 39 (decide ((if (([0,127,2047,65535,1114111]:List Int).getD ((y1.2.2).toNat) 0)<y1.2.1 then (([0,127,2047,65535,1114111]:List Int).getD ((y1.2.2).toNat) 0) else y1.2.1)≤57343)) (fun g5=>?_) ?_
  ·have g5p:(55296:Int)≤(if (([0,0,128,2048,65536]:List Int).getD ((y1.2.2).toNat) 0) > y1.1 then (([0,0,128,2048,65536]:List Int).getD ((y1.2.2).toNat) 0) else y1.1):=by first|exact of_decide_eq_true g5|simpa only [Bool.and_eq_true,Bool.not_eq_true',Bool.and_eq_false_imp,decide_eq_true_eq,decide_eq_false_iff_not,not_and] using g5|simpa using g5
   refine ip' 3 0 [(39,bv (decide ((if (([0,127,2047,65535,1114111]:List Int).getD ((y1.2.2).toNat) 0)<y1.2.1 then (([0,127,2047,65535,1114111]:List Int).getD ((y1.2.2).toNat) 0) else y1.2.1)≤57343)))] ?_
   exact zai 2 36 39 g5
  refine ip' 2 0 [(41,bv (!((decide ((55296:Int)≤(if (([0,0,128,2048,65536]:List Int).getD ((y1.2.2).toNat) 0) > y1.1 then (([0,0,128,2048,65536]:List Int).getD ((y1.2.2).toNat) 0) else y1.1)))&&(decide ((if (([0,127,2047,65535,1114111]:List Int).getD ((y1.2.2).toNat) 0)<y1.2.1 then (([0,127,2047,65535,1114111]:List Int).getD ((y1.2.2).toNat) 0) else y1.2.1)≤57343)))))] ?_
  exact zai 4 33 41 g4
 refine ip' 1 0 [(9,bv ((decide ((if (([0,0,128,2048,65536]:List Int).getD ((y1.2.2).toNat) 0) > y1.1 then (([0,0,128,2048,65536]:List Int).getD ((y1.2.2).toNat) 0) else y1.1)≤(if (([0,127,2047,65535,1114111]:List Int).getD ((y1.2.2).toNat) 0)<y1.2.1 then (([0,127,2047,65535,1114111]:List Int).getD ((y1.2.2).toNat) 0) else y1.2.1)))&&(!((decide ((55296:Int)≤(if (([0,0,128,2048,65536]:List Int).getD ((y1.2.2).toNat) 0) > y1.1 then (([0,0,128,2048,65536]:List Int).getD ((y1.2.2).toNat) 0) else y1.1)))&&(decide ((if (([0,127,2047,65535,1114111]:List Int).getD ((y1.2.2).toNat) 0)<y1.2.1 then (([0,127,2047,65535,1114111]:List Int).getD ((y1.2.2).toNat) 0) else y1.2.1)≤57343))))))] ?_
 refine ie (sr 10 rfl (ip' 3 7 [(42,bv ((decide ((if (([0,0,128,2048,65536]:List Int).getD ((y1.2.2).toNat) 0) > y1.1 then (([0,0,128,2048,65536]:List Int).getD ((y1.2.2).toNat) 0) else y1.1)≤(if (([0,127,2047,65535,1114111]:List Int).getD ((y1.2.2).toNat) 0)<y1.2.1 then (([0,127,2047,65535,1114111]:List Int).getD ((y1.2.2).toNat) 0) else y1.2.1)))&&(!((decide ((55296:Int)≤(if (([0,0,128,2048,65536]:List Int).getD ((y1.2.2).toNat) 0) > y1.1 then (([0,0,128,2048,65536]:List Int).getD ((y1.2.2).toNat) 0) else y1.1)))&&(decide ((if (([0,127,2047,65535,1114111]:List Int).getD ((y1.2.2).toNat) 0)<y1.2.1 then (([0,127,2047,65535,1114111]:List Int).getD ((y1.2.2).toNat) 0) else y1.2.1)≤57343)))))),(44,bv ((decide ((if (([0,0,128,2048,65536]:List Int).getD ((y1.2.2).toNat) 0) > y1.1 then (([0,0,128,2048,65536]:List Int).getD ((y1.2.2).toNat) 0) else y1.1)≤(if (([0,127,2047,65535,1114111]:List Int).getD ((y1.2.2).toNat) 0)<y1.2.1 then (([0,127,2047,65535,1114111]:List Int).getD ((y1.2.2).toNat) 0) else y1.2.1)))&&(!((decide ((55296:Int)≤(if (([0,0,128,2048,65536]:List Int).getD ((y1.2.2).toNat) 0) > y1.1 then (([0,0,128,2048,65536]:List Int).getD ((y1.2.2).toNat) 0) else y1.1)))&&(decide ((if (([0,127,2047,65535,1114111]:List Int).getD ((y1.2.2).toNat) 0)<y1.2.1 then (([0,127,2047,65535,1114111]:List Int).getD ((y1.2.2).toNat) 0) else y1.2.1)≤57343))))))] ?_))
 refine zia 5 2 44 49 (decide ((p.length:Int)=y1.2.2)) (fun g6=>?_) ?_
 ·have g6p:((if (([0,0,128,2048,65536]:List Int).getD ((y1.2.2).toNat) 0) > y1.1 then (([0,0,128,2048,65536]:List Int).getD ((y1.2.2).toNat) 0) else y1.1)≤(if (([0,127,2047,65535,1114111]:List Int).getD ((y1.2.2).toNat) 0)<y1.2.1 then (([0,127,2047,65535,1114111]:List Int).getD ((y1.2.2).toNat) 0) else y1.2.1))∧(¬ (((55296:Int)≤(if (([0,0,128,2048,65536]:List Int).getD ((y1.2.2).toNat) 0) > y1.1 then (([0,0,128,2048,65536]:List Int).getD ((y1.2.2).toNat) 0) else y1.1))∧((if (([0,127,2047,65535,1114111]:List Int).getD ((y1.2.2).toNat) 0)<y1.2.1 then (([0,127,2047,65535,1114111]:List Int).getD ((y1.2.2).toNat) 0) else y1.2.1)≤57343))):=by first|exact of_decide_eq_true g6|simpa only [Bool.and_eq_true,Bool.not_eq_true',Bool.and_eq_false_imp,decide_eq_true_eq,decide_eq_false_iff_not,not_and] using g6|simpa using g6
  refine ip' 5 0 [(49,bv (decide ((p.length:Int)=y1.2.2)))] ?_
  exact zai 2 44 49 g6
 refine ip' 2 0 [(2,bv ((decide ((if (([0,0,128,2048,65536]:List Int).getD ((y1.2.2).toNat) 0) > y1.1 then (([0,0,128,2048,65536]:List Int).getD ((y1.2.2).toNat) 0) else y1.1)≤(if (([0,127,2047,65535,1114111]:List Int).getD ((y1.2.2).toNat) 0)<y1.2.1 then (([0,127,2047,65535,1114111]:List Int).getD ((y1.2.2).toNat) 0) else y1.2.1)))&&(!((decide ((55296:Int)≤(if (([0,0,128,2048,65536]:List Int).getD ((y1.2.2).toNat) 0) > y1.1 then (([0,0,128,2048,65536]:List Int).getD ((y1.2.2).toNat) 0) else y1.1)))&&(decide ((if (([0,127,2047,65535,1114111]:List Int).getD ((y1.2.2).toNat) 0)<y1.2.1 then (([0,127,2047,65535,1114111]:List Int).getD ((y1.2.2).toNat) 0) else y1.2.1)≤57343)))))),(3,bv (((decide ((if (([0,0,128,2048,65536]:List Int).getD ((y1.2.2).toNat) 0) > y1.1 then (([0,0,128,2048,65536]:List Int).getD ((y1.2.2).toNat) 0) else y1.1)≤(if (([0,127,2047,65535,1114111]:List Int).getD ((y1.2.2).toNat) 0)<y1.2.1 then (([0,127,2047,65535,1114111]:List Int).getD ((y1.2.2).toNat) 0) else y1.2.1)))&&(!((decide ((55296:Int)≤(if (([0,0,128,2048,65536]:List Int).getD ((y1.2.2).toNat) 0) > y1.1 then (([0,0,128,2048,65536]:List Int).getD ((y1.2.2).toNat) 0) else y1.1)))&&(decide ((if (([0,127,2047,65535,1114111]:List Int).getD ((y1.2.2).toNat) 0)<y1.2.1 then (([0,127,2047,65535,1114111]:List Int).getD ((y1.2.2).toNat) 0) else y1.2.1)≤57343)))))&&(decide ((p.length:Int)=y1.2.2))))] ?_
 subst hR
 refine ie (A9 ?_)
 exact A0p hr hD
def W8 (b:UInt8):List UInt8×List Int :=
 (B9 (M7 (([]:List UInt8)++([b]:List UInt8))) fun (y3:Bool×Bool)=>(bif y3.2 then (B9 (K5 (([]:List UInt8)++([b]:List UInt8))) fun (y1:Int×Int×Int)=>(([]:List UInt8),([y1.1]:List Int))) else (bif y3.1 then ((([]:List UInt8)++([b]:List UInt8)),([]:List Int)) else (([]:List UInt8),([65533]:List Int)))))
def A3e (b:UInt8):List UInt8×List Int :=
 (bif (!A7f) then W8 b else W8 b)
theorem B7v (b:UInt8):(W8 b).1.length≤4∧(W8 b).2.length≤2:=by
 unfold W8
 simp only [B9]
 cases (M7 (([]:List UInt8)++([b]:List UInt8))).2<;>cases (M7 (([]:List UInt8)++([b]:List UInt8))).1<;>simp
theorem B3y (b:UInt8):(A3e b).1.length≤4∧(A3e b).2.length≤2:=by
 unfold A3e
 cases (!A7f)<;>simp only [cond_true,cond_false]<;>exact B7v b
theorem C8t (b:UInt8) (hp:([]:List UInt8).length≤4) (R:List UInt8×List Int) (hR:A3e b=R):Con Tryz.prog 212 [.slice none 0 0,.int .u8 (b.toNat:Int)] [] [] ({t:Option Addr×Nat // R.1.length≤t.2∧R.1.length≤9223372036854775807}×{t:Option Addr×Nat // R.2.length≤t.2∧R.2.length≤9223372036854775807}) (fun x=>.tuple #[.slice x.1.1.1 R.1.length x.1.1.2,.slice x.2.1.1 R.2.length x.2.1.2]) (fun x=>[]) (fun x=>[sl cU8 x.1.1.1 R.1,sl F0 x.2.1.1 R.2]):=by
 refine zco Tryz.func212 [(0,.slice none 0 0),(1,.int .u8 (b.toNat:Int))] fun X hX hr hD=>?_
 replace hR:=(A3e.eq_1 ..).symm.trans hR
 refine sr 2 rfl (ip' 2 0 [] ?_)
 refine ie (B8f (fun (_:Unit)=>(W8 b=R,[(0,.slice none 0 0),(1,.int .u8 (b.toNat:Int))],[],[])) ?_ ?_)
 ·refine sr 3 rfl (ip' 1 2 [(14,.slice none 0 0)] ?_)
  refine zca (C5w _ rfl) fn0 ?_
  refine ip' 1 0 [(16,bv (!A7f))] ?_
  refine ie ?_
  refine zjb rfl hR ?_ ?_<;>clear hR<;>intro hR h1
  ·refine A2 1 rfl (ip' 1 0 [(0,.slice none 0 0)] ?_)
   refine A3 ?_
   exact V6 () hR (mk [] rfl) fn0
  refine A6 ?_
  exact V6 () hR (mk [] rfl) fn0
 intro _
 rintro hR
 replace hR:=(W8.eq_1 ..).symm.trans hR
 refine sr 7 rfl (it rfl (B1z A0v rfl rfl) fun b2=>?_)
 have:([]:List UInt8).length=0:=rfl
 refine ip' 1 5 [(18,.slice none 0 0)] ?_
 refine ix rfl (D3d B2w rfl rfl rfl rfl rfl rfl (by first|omega|exact Nat.zero_le _|exact VOk.cap (show VOk 1 0 _ from ⟨rfl,Nat.zero_le _,Nat.zero_le _⟩))) ?_
 have:([]:List UInt8).length=0:=rfl
 refine ip' 1 3 [(20,.int .u8 (b.toNat:Int))] ?_
 refine it rfl (B6 (c:=cU8) (xs:=([b]:List UInt8)) A0v rfl rfl rfl (by kernel_rfl)) fun b3=>?_
 have:([b]:List UInt8).length=1:=rfl
 refine it rfl (A7d (f:=cU8) (r:=(⟨some b2,0,[]⟩:VR)) (xs:=([]:List UInt8)) (ys:=([b]:List UInt8)) (pre:=[]) (post:=[]) B2w (fun _=>rfl) (fun _=>rfl) rfl rfl rfl rfl rfl rfl rfl rfl rfl (B1 0 rfl) (show VOk 1 0 _ from ⟨rfl,Nat.zero_le _,Nat.zero_le _⟩) (by first|omega|(simp<;>omega)) (by first|omega|(simp<;>omega))) fun ⟨r4,hr5⟩=>?_
 have:=VOk.le hr5
 have:=VOk.cap hr5
 refine ip' 1 0 [(6,.slice (va r4.q) ((([]:List UInt8)++([b]:List UInt8)).length) r4.k)] ?_
 refine ie (sr 7 rfl (ip' 1 6 [(24,.slice (va r4.q) ((([]:List UInt8)++([b]:List UInt8)).length) r4.k)] ?_))
 have:=VOk.cap hr5
 have:=VOk.le hr5
 refine A3u [] [] (T:=5) (c:=cU8) (r:=r4) (xs:=(([]:List UInt8)++([b]:List UInt8))) hr5 (by first|rfl|simp only [List.cons_append,List.append_assoc,List.nil_append,List.append_nil]) ?_
 have hQ:=D6 hR;clear hR;obtain ⟨y3,hy3,hR⟩:=hQ
 refine zca (B0t (([]:List UInt8)++([b]:List UInt8)) (va r4.q) r4.k (by first|omega|(simp<;>omega)|(dsimp only;omega)|decide) (by first|omega|(simp<;>omega)|(dsimp only;omega)|decide) y3 hy3) (A1.pick [0] rfl) ?_
 refine ip' 5 0 [(7,bv y3.1),(8,bv y3.2)] ?_
 refine ie (A8 (sr 1 rfl (ip' 1 0 [(28,bv y3.2)] ?_)))
 refine ie ?_
 refine zjb rfl hR ?_ ?_<;>clear hR<;>intro hR h6
 ·refine sr 9 rfl (ip' 1 8 [(30,.slice (va r4.q) ((([]:List UInt8)++([b]:List UInt8)).length) r4.k)] ?_)
  have hQ:=D6 hR;clear hR;obtain ⟨y1,hy1,hR⟩:=hQ
  refine zca (B0y (([]:List UInt8)++([b]:List UInt8)) (va r4.q) r4.k (by first|omega|(simp<;>omega)|(dsimp only;omega)|decide) (by first|omega|(simp<;>omega)|(dsimp only;omega)|decide) y1 hy1) (A1.pick [0] rfl) ?_
  have:=A5e (([]:List UInt8)++([b]:List UInt8));try rw [hy1] at this
  refine ip' 7 0 [(9,iv y1.1)] ?_
  refine ie (sr 4 rfl (ip' 1 3 [(35,iv y1.1)] ?_))
  refine it rfl (B6 (c:=F0) (xs:=([y1.1]:List Int)) H6 rfl rfl rfl (by kernel_rfl)) fun b7=>?_
  have:([y1.1]:List Int).length=1:=rfl
  refine ip' 2 0 [(4,.slice none 0 0),(5,.slice (some ⟨b7,0,none⟩) 1 1)] ?_
  subst hR
  refine ie (A9 ?_)
  exact zer hr hD (A8h rfl (C1 rfl) (C1 rfl)) ((zq none 0),(zq (some ⟨b7,0,none⟩) 1)) (mk [] rfl) (A1.con1 A1v (A1.con1 (B1 0 rfl) fn0))
 refine A6 (nx (A8 (sr 1 rfl (ip' 1 0 [(37,bv y3.1)] ?_))))
 refine ie ?_
 refine zjb rfl hR ?_ ?_<;>clear hR<;>intro hR h8
 ·refine sr 3 rfl (ip' 3 0 [(4,.slice (va r4.q) ((([]:List UInt8)++([b]:List UInt8)).length) r4.k),(5,.slice none 0 0)] ?_)
  subst hR
  refine ie (A9 ?_)
  exact zer hr hD (A8h rfl (C1 rfl) (C1 rfl)) ((zq (va r4.q) r4.k),(zq none 0)) (mk [] rfl) (A1.con1 (B1 0 rfl) (A1.con1 A1v fn0))
 refine A6 (nx (A8 (sr 3 rfl (ip' 3 0 [(41,bv true)] ?_))))
 refine ie (N1 rfl (sr 3 rfl (it rfl (B6 (c:=F0) (xs:=([65533]:List Int)) H6 rfl rfl rfl (by kernel_rfl)) fun b9=>?_)))
 have:([65533]:List Int).length=1:=rfl
 refine ip' 2 0 [(4,.slice none 0 0),(5,.slice (some ⟨b9,0,none⟩) 1 1)] ?_
 subst hR
 refine ie (A9 ?_)
 exact zer hr hD (A8h rfl (C1 rfl) (C1 rfl)) ((zq none 0),(zq (some ⟨b9,0,none⟩) 1)) (mk [] rfl) (A1.con1 A1v (A1.con1 (B1 0 rfl) fn0))
def S0 (p:List UInt8):Bool :=
 (B9 (M7 p) fun (y3:Bool×Bool)=>((decide ((p.length:Int)=0))||(y3.1&&(!y3.2))))
theorem B3p (p:List UInt8) (pq:Option Addr) (pk:Nat) (hlp:p.length≤9223372036854775807) (hcp:p.length≤pk) (R:Bool) (hR:S0 p=R):I4 Tryz.prog 225 [.slice pq p.length pk] [sl cU8 pq p] (bv R):=by
 refine zco Tryz.func225 [(0,.slice pq p.length pk)] fun X hX hr hD=>?_
 replace hR:=(S0.eq_1 ..).symm.trans hR
 refine sr 1 rfl (ip' 1 0 [] ?_)
 refine ie (sr 7 rfl (ip' 1 6 [(6,.slice pq p.length pk)] ?_))
 have hQ:=D6 hR;clear hR;obtain ⟨y3,hy3,hR⟩:=hQ
 refine zca (B0t p pq pk (by first|omega|(simp<;>omega)|(dsimp only;omega)|decide) (by first|omega|(simp<;>omega)|(dsimp only;omega)|decide) y3 hy3) A1.refl ?_
 refine ip' 5 0 [(3,bv y3.1),(4,bv y3.2)] ?_
 refine ie (sr 11 rfl (ip' 4 7 [(13,bv (decide ((p.length:Int)=0)))] ?_))
 refine zir 6 1 13 19 (y3.1&&(!y3.2)) (fun g1 g1p=>?_) ?_
 ·refine ip' 2 4 [(15,bv y3.1)] ?_
  refine zia 3 1 15 18 (!y3.2) (fun g2=>?_) ?_
  ·refine ip' 3 0 [(18,bv (!y3.2))] ?_
   exact zai 2 15 18 g2
  refine ip' 1 0 [(19,bv (y3.1&&(!y3.2)))] ?_
  exact zai 4 13 19 g1
 refine ip' 1 0 [(2,bv ((decide ((p.length:Int)=0))||(y3.1&&(!y3.2))))] ?_
 subst hR
 refine ie (A9 ?_)
 exact F2 hr hD
def U3 (b:UInt8) (pending1:List UInt8):List UInt8×List Int :=
 (B9 (M7 ((([]:List UInt8)++pending1)++([b]:List UInt8))) fun (y3:Bool×Bool)=>(bif y3.2 then (B9 (K5 ((([]:List UInt8)++pending1)++([b]:List UInt8))) fun (y1:Int×Int×Int)=>(([]:List UInt8),([y1.1]:List Int))) else (bif y3.1 then (((([]:List UInt8)++pending1)++([b]:List UInt8)),([]:List Int)) else (bif (decide ((pending1.length:Int)=0)) then (([]:List UInt8),([65533]:List Int)) else (B9 (A3e b) fun (y4:List UInt8×List Int)=>(y4.1,(([65533]:List Int)++y4.2)))))))
def Y9 (pending:List UInt8) (b:UInt8):List UInt8×List Int :=
 (bif (!(S0 pending)) then U3 b ([]:List UInt8) else U3 b pending)
theorem B6j (b:UInt8) (p:List UInt8):(U3 b p).1.length≤4∧(U3 b p).2.length≤3:=by
 unfold U3
 simp only [B9]
 have hs:=B3y b
 cases h2:(M7 ((([]:List UInt8)++p)++([b]:List UInt8))).2 with
 | true=>simp
 | false =>
  rw [cond_false]
  cases h1:(M7 ((([]:List UInt8)++p)++([b]:List UInt8))).1 with
  | true =>
   have:=C4b _ h1
   simp only [cond_true,List.length_nil];omega
  | false =>
   rw [cond_false]
   cases (decide ((p.length:Int)=0)) with
   | true=>simp
   | false=>simp only [cond_false,List.length_append,List.length_cons,List.length_nil];omega
theorem B2y (p:List UInt8) (b:UInt8):(Y9 p b).1.length≤4∧(Y9 p b).2.length≤3:=by
 unfold Y9
 cases (!(S0 p))<;>simp only [cond_true,cond_false]<;>exact B6j b _
theorem C5r (pending:List UInt8) (b:UInt8) (pendingq:Option Addr) (pendingk:Nat) (hlpending:pending.length≤9223372036854775807) (hcpending:pending.length≤pendingk) (hp:pending.length≤4) (R:List UInt8×List Int) (hR:Y9 pending b=R):Con Tryz.prog 212 [.slice pendingq pending.length pendingk,.int .u8 (b.toNat:Int)] [] [sl cU8 pendingq pending] ({t:Option Addr×Nat // R.1.length≤t.2∧R.1.length≤9223372036854775807}×{t:Option Addr×Nat // R.2.length≤t.2∧R.2.length≤9223372036854775807}) (fun x=>.tuple #[.slice x.1.1.1 R.1.length x.1.1.2,.slice x.2.1.1 R.2.length x.2.1.2]) (fun x=>[]) (fun x=>[sl cU8 x.1.1.1 R.1,sl F0 x.2.1.1 R.2]):=by
 refine zco Tryz.func212 [(0,.slice pendingq pending.length pendingk),(1,.int .u8 (b.toNat:Int))] fun X hX hr hD=>?_
 replace hR:=(Y9.eq_1 ..).symm.trans hR
 refine sr 2 rfl (ip' 2 0 [] ?_)
 refine ie (E4v (fun (pending1:List UInt8) (pendingq1:Option Addr) (pendingk1:Nat)=>(U3 b pending1=R∧pending1.length≤pendingk1∧pending1.length≤9223372036854775807∧pending1.length≤4,[(0,.slice pendingq1 pending1.length pendingk1),(1,.int .u8 (b.toNat:Int))],[],[sl cU8 pendingq pending,sl cU8 pendingq1 pending1])) ?_ ?_)
 ·refine sr 3 rfl (ip' 1 2 [(14,.slice pendingq pending.length pendingk)] ?_)
  refine zca (B3p pending pendingq pendingk (by first|omega|(simp<;>omega)|(dsimp only;omega)|decide) (by first|omega|(simp<;>omega)|(dsimp only;omega)|decide) _ rfl) A1.refl ?_
  refine ip' 1 0 [(16,bv (!(S0 pending)))] ?_
  refine ie ?_
  refine zjb rfl hR ?_ ?_<;>clear hR<;>intro hR h1
  ·refine A2 1 rfl (ip' 1 0 [(0,.slice none 0 0)] ?_)
   refine A3 ?_
   exact D5t ([]:List UInt8) none 0 ⟨hR,(by first|omega|(simp<;>omega)|(dsimp only;omega)|decide),(by first|omega|(simp<;>omega)|(dsimp only;omega)|decide),(by first|omega|(simp<;>omega))⟩ (mk [] rfl) (A1.con1 (B1 0 rfl) (A1.con1 A1v fn0))
  refine A6 ?_
  exact D5t pending pendingq pendingk ⟨hR,(by first|omega|(simp<;>omega)|(dsimp only;omega)|decide),(by first|omega|(simp<;>omega)|(dsimp only;omega)|decide),(by first|omega|(simp<;>omega))⟩ (mk [] rfl) (A1.pick [0,0] rfl)
 intro pending1 pendingq1 pendingk1
 rintro ⟨hR,hcpending1,hlpending1,hj⟩
 replace hR:=(U3.eq_1 ..).symm.trans hR
 refine sr 7 rfl (it rfl (B1z A0v rfl rfl) fun b2=>?_)
 have:([]:List UInt8).length=0:=rfl
 refine ip' 1 5 [(18,.slice pendingq1 pending1.length pendingk1)] ?_
 refine it rfl (B1l (f:=cU8) (r:=(⟨some b2,0,[]⟩:VR)) (xs:=([]:List UInt8)) (ys:=pending1) (pre:=[]) (post:=[]) B2w (fun _=>rfl) (fun _=>rfl) rfl rfl rfl rfl rfl rfl rfl rfl (B1 1 rfl) (show VOk 1 0 _ from ⟨rfl,Nat.zero_le _,Nat.zero_le _⟩) (by first|omega|(simp<;>omega)) (by first|omega|(simp<;>omega))) fun ⟨r3,hr4⟩=>?_
 have:=VOk.le hr4
 have:=VOk.cap hr4
 refine ip' 1 3 [(20,.int .u8 (b.toNat:Int))] ?_
 refine it rfl (B6 (c:=cU8) (xs:=([b]:List UInt8)) A0v rfl rfl rfl (by kernel_rfl)) fun b5=>?_
 have:([b]:List UInt8).length=1:=rfl
 refine it rfl (A7d (f:=cU8) (r:=r3) (xs:=(([]:List UInt8)++pending1)) (ys:=([b]:List UInt8)) (pre:=[]) (post:=[]) B2w (fun _=>rfl) (fun _=>rfl) rfl rfl rfl rfl rfl rfl rfl rfl rfl (B1 0 rfl) hr4 (by first|omega|(simp<;>omega)) (by first|omega|(simp<;>omega))) fun ⟨r6,hr7⟩=>?_
 have:=VOk.le hr7
 have:=VOk.cap hr7
 refine ip' 1 0 [(6,.slice (va r6.q) (((([]:List UInt8)++pending1)++([b]:List UInt8)).length) r6.k)] ?_
 refine ie (sr 7 rfl (ip' 1 6 [(24,.slice (va r6.q) (((([]:List UInt8)++pending1)++([b]:List UInt8)).length) r6.k)] ?_))
 have:=VOk.cap hr7
 have:=VOk.le hr7
 refine A3u [] [] (T:=5) (c:=cU8) (r:=r6) (xs:=((([]:List UInt8)++pending1)++([b]:List UInt8))) hr7 (by first|rfl|simp only [List.cons_append,List.append_assoc,List.nil_append,List.append_nil]) ?_
 have hQ:=D6 hR;clear hR;obtain ⟨y3,hy3,hR⟩:=hQ
 refine zca (B0t ((([]:List UInt8)++pending1)++([b]:List UInt8)) (va r6.q) r6.k (by first|omega|(simp<;>omega)|(dsimp only;omega)|decide) (by first|omega|(simp<;>omega)|(dsimp only;omega)|decide) y3 hy3) (A1.pick [0] rfl) ?_
 refine ip' 5 0 [(7,bv y3.1),(8,bv y3.2)] ?_
 refine ie (A8 (sr 1 rfl (ip' 1 0 [(28,bv y3.2)] ?_)))
 refine ie ?_
 refine zjb rfl hR ?_ ?_<;>clear hR<;>intro hR h8
 ·refine sr 9 rfl (ip' 1 8 [(30,.slice (va r6.q) (((([]:List UInt8)++pending1)++([b]:List UInt8)).length) r6.k)] ?_)
  have hQ:=D6 hR;clear hR;obtain ⟨y1,hy1,hR⟩:=hQ
  refine zca (B0y ((([]:List UInt8)++pending1)++([b]:List UInt8)) (va r6.q) r6.k (by first|omega|(simp<;>omega)|(dsimp only;omega)|decide) (by first|omega|(simp<;>omega)|(dsimp only;omega)|decide) y1 hy1) (A1.pick [0] rfl) ?_
  have:=A5e ((([]:List UInt8)++pending1)++([b]:List UInt8));try rw [hy1] at this
  refine ip' 7 0 [(9,iv y1.1)] ?_
  refine ie (sr 4 rfl (ip' 1 3 [(35,iv y1.1)] ?_))
  refine it rfl (B6 (c:=F0) (xs:=([y1.1]:List Int)) H6 rfl rfl rfl (by kernel_rfl)) fun b9=>?_
  have:([y1.1]:List Int).length=1:=rfl
  refine ip' 2 0 [(4,.slice none 0 0),(5,.slice (some ⟨b9,0,none⟩) 1 1)] ?_
  subst hR
  refine ie (A9 ?_)
  exact zer hr hD (A8h rfl (C1 rfl) (C1 rfl)) ((zq none 0),(zq (some ⟨b9,0,none⟩) 1)) (mk [] rfl) (A1.con1 A1v (A1.con1 (B1 0 rfl) fn0))
 refine A6 (nx (A8 (sr 1 rfl (ip' 1 0 [(37,bv y3.1)] ?_))))
 refine ie ?_
 refine zjb rfl hR ?_ ?_<;>clear hR<;>intro hR h10
 ·refine sr 3 rfl (ip' 3 0 [(4,.slice (va r6.q) (((([]:List UInt8)++pending1)++([b]:List UInt8)).length) r6.k),(5,.slice none 0 0)] ?_)
  subst hR
  refine ie (A9 ?_)
  exact zer hr hD (A8h rfl (C1 rfl) (C1 rfl)) ((zq (va r6.q) r6.k),(zq none 0)) (mk [] rfl) (A1.con1 (B1 0 rfl) (A1.con1 A1v fn0))
 refine A6 (nx (A8 (sr 3 rfl (ip' 3 0 [(41,bv (decide ((pending1.length:Int)=0)))] ?_))))
 refine ie ?_
 refine zjd rfl hR ?_ ?_<;>clear hR<;>intro hR h11 h11p
 ·refine sr 3 rfl (it rfl (B6 (c:=F0) (xs:=([65533]:List Int)) H6 rfl rfl rfl (by kernel_rfl)) fun b12=>?_)
  have:([65533]:List Int).length=1:=rfl
  refine ip' 2 0 [(4,.slice none 0 0),(5,.slice (some ⟨b12,0,none⟩) 1 1)] ?_
  subst hR
  refine ie (A9 ?_)
  exact zer hr hD (A8h rfl (C1 rfl) (C1 rfl)) ((zq none 0),(zq (some ⟨b12,0,none⟩) 1)) (mk [] rfl) (A1.con1 A1v (A1.con1 (B1 0 rfl) fn0))
 refine A6 (nx (sr 7 rfl (ip' 1 6 [(44,.int .u8 (b.toNat:Int))] ?_)))
 have hQ:=D6 hR;clear hR;obtain ⟨y4,hy4,hR⟩:=hQ
 refine zcm (C8t b (by first|omega|(simp<;>omega)) y4 hy4) fn0 fun ⟨⟨⟨q13,k14⟩,hp15⟩,⟨⟨q18,k19⟩,hp20⟩⟩=>?_
 obtain ⟨hc16,hl17⟩:=hp15
 obtain ⟨hc21,hl22⟩:=hp20
 have:=B3y b;try rw [hy4] at this
 refine ip' 5 0 [(12,.slice q13 y4.1.length k14),(13,.slice q18 y4.2.length k19)] ?_
 refine ie (sr 6 rfl (ip' 1 5 [(48,.slice q13 y4.1.length k14)] ?_))
 refine it rfl (B6 (c:=F0) (xs:=([65533]:List Int)) H6 rfl rfl rfl (by kernel_rfl)) fun b23=>?_
 have:([65533]:List Int).length=1:=rfl
 refine ip' 1 3 [(50,.slice q18 y4.2.length k19)] ?_
 refine it rfl (C4r (f:=F0) (xs:=([65533]:List Int)) (ys:=y4.2) B6g (fun _=>rfl) (fun _=>rfl) rfl rfl rfl rfl rfl rfl (by omega) (by omega) (by rfl) (B1 0 rfl) (B1 2 rfl) (by first|omega|(simp<;>omega)) (by first|omega|(simp<;>omega))) fun ⟨⟨q24,k25⟩,hq26⟩=>?_
 refine ip' 2 0 [(4,.slice q13 y4.1.length k14),(5,.slice q24 ((([65533]:List Int)++y4.2).length) k25)] ?_
 subst hR
 refine ie (A9 ?_)
 exact zer hr hD (A8h rfl (C1 rfl) (C1 rfl)) ((zq q13 k14),(zq q24 k25)) (mk [] rfl) (A1.con1 (B1 2 rfl) (A1.con1 (B1 0 rfl) fn0))
def A4v (pending:List UInt8):List Int :=
 (bif ((decide ((0:Int)<(pending.length:Int)))&&(S0 pending)) then ([65533]:List Int) else ([]:List Int))
theorem B2z (p:List UInt8):(A4v p).length≤1:=by
 unfold A4v
 cases ((decide ((0:Int)<(p.length:Int)))&&(S0 p))<;>simp
theorem C4y (pending:List UInt8) (pendingq:Option Addr) (pendingk:Nat) (hlpending:pending.length≤9223372036854775807) (hcpending:pending.length≤pendingk) (R:List Int) (hR:A4v pending=R):Con Tryz.prog 213 [.slice pendingq pending.length pendingk] [] [sl cU8 pendingq pending] ({t:Option Addr×Nat // R.length≤t.2∧R.length≤9223372036854775807}) (fun x=>.slice x.1.1 R.length x.1.2) (fun x=>[]) (fun x=>[sl F0 x.1.1 R]):=by
 refine zco Tryz.func213 [(0,.slice pendingq pending.length pendingk)] fun X hX hr hD=>?_
 replace hR:=(A4v.eq_1 ..).symm.trans hR
 refine sr 1 rfl (ip' 1 0 [] ?_)
 refine ie (A8 (sr 7 rfl (ip' 4 3 [(6,bv (decide ((0:Int)<(pending.length:Int))))] ?_)))
 refine zid 3 0 6 9 (S0 pending) (fun g1 g1p=>?_) ?_
 ·refine ip' 1 2 [(7,.slice pendingq pending.length pendingk)] ?_
  refine zca (B3p pending pendingq pendingk (by first|omega|(simp<;>omega)|(dsimp only;omega)|decide) (by first|omega|(simp<;>omega)|(dsimp only;omega)|decide) _ rfl) A1.refl ?_
  refine ip' 1 0 [(9,bv (S0 pending))] ?_
  exact zai 4 6 9 g1
 refine ie ?_
 refine zjb rfl hR ?_ ?_<;>clear hR<;>intro hR h2
 ·have h2p:=h2;try simp at h2p
  refine sr 2 rfl (it rfl (B6 (c:=F0) (xs:=([65533]:List Int)) H6 rfl rfl rfl (by kernel_rfl)) fun b3=>?_)
  have:([65533]:List Int).length=1:=rfl
  refine ip' 1 0 [(2,.slice (some ⟨b3,0,none⟩) 1 1)] ?_
  subst hR
  refine ie (A9 ?_)
  exact zer hr hD (N4 rfl (C1 rfl)) (zq (some ⟨b3,0,none⟩) 1) (mk [] rfl) (A1.con1 (B1 0 rfl) fn0)
 have h2p:=h2;try simp at h2p
 refine A6 (nx (sr 1 rfl (ip' 1 0 [(2,.slice none 0 0)] ?_)))
 subst hR
 refine ie (A9 ?_)
 exact zer hr hD (N4 rfl (C1 rfl)) (zq none 0) (mk [] rfl) (A1.con1 A1v fn0)
def P7:List UInt8→List Int→List UInt8→Nat→List Int
 | [],out,pending,i=>(B9 (A4v pending) fun (y15:List Int)=>(out++y15))
 | hd_l0::tl_l0,out,pending,i=>(B9 (Y9 pending hd_l0) fun (y9:List UInt8×List Int)=>P7 tl_l0 (out++y9.2) y9.1 (i+1))
def Y7 (s:List UInt8):List Int :=
 P7 s ([]:List Int) ([]:List UInt8) 0
theorem A9q:∀ (xs:List UInt8) (out:List Int) (p:List UInt8) (i:Nat),(P7 xs out p i).length≤out.length+3 * xs.length+1
 | [],out,p,i=>by
  have:=B2z p
  simp only [P7,B9,List.length_append,List.length_nil];omega
 | x::xs,out,p,i=>by
  have:=B2y p x
  have:=A9q xs (out++(Y9 p x).2) (Y9 p x).1 (i+1)
  simp only [P7,B9,List.length_append,List.length_cons] at *;omega
theorem C1l (s:List UInt8):(Y7 s).length≤3 * s.length+1:=by
 have:=A9q s [] [] 0
 simp only [List.length_nil] at this
 unfold Y7;omega
theorem C5i (s:List UInt8) (hs:s.length≤1000000) (R:List Int) (hR:Y7 s=R):Con Tryz.prog 189 [sv s] [] [] ({r:VR // VOk 1 R.length r}) (fun x=>.slice (va x.1.q) R.length x.1.k) (fun x=>((vo F0 3 x.1 R)++([]))) (fun x=>[]):=by
 refine zco Tryz.func189 [(0,sv s)] fun X hX hr hD=>?_
 replace hR:=(Y7.eq_1 ..).symm.trans hR
 refine sr 1 rfl (ip' 1 0 [] ?_)
 refine ie (sr 1 rfl (ip' 1 0 [(3,.slice none 0 0)] ?_))
 refine ie (sr 1 rfl (ip' 1 0 [(4,.slice none 0 0)] ?_))
 refine ie (A8 (sr 1 rfl (ip' 1 0 [(5,iv 0)] ?_)))
 refine ie (B3 ?_)
 refine E7q (fun (out:List Int) (outr:VR) (pending:List UInt8) (pendingq:Option Addr) (pendingk:Nat) (i:Nat)=>(i≤s.length∧P7 (s.drop i) out pending i=R∧VOk 1 out.length outr∧pending.length≤pendingk∧pending.length≤9223372036854775807∧pending.length≤4∧out.length≤3 * i,[(0,sv s),(3,.slice (va outr.q) out.length outr.k),(4,.slice pendingq pending.length pendingk),(5,iv (i:Int))],((vo F0 3 outr out)++([])),[sl cU8 pendingq pending],s.length - i)) ([]:List Int) VR.nil ([]:List UInt8) none 0 0 ⟨(by omega),hR,VOk.nil,(by first|omega|(simp<;>omega)|(dsimp only;omega)|decide),(by first|omega|(simp<;>omega)|(dsimp only;omega)|decide),(by simp),(by simp)⟩ (mc [vo F0 3 VR.nil ([]:List Int)] [true] rfl (by first|rfl|(simp only [List.length_set]<;>rfl))) (A1.con1 A1v fn0) ?_
 rintro out outr pending pendingq pendingk i ⟨hm1,hR,hokoutr,hcpending,hlpending,hpl,hol⟩
 have:=VOk.le hokoutr
 refine A8 (sr 4 rfl (ip' 4 0 [(11,bv (decide ((i:Int)<(s.length:Int))))] ?_))
 refine ie (A1s rfl (fun h2=>?_) (fun h2=>?_))
 ·have h2p:(i:Int)<(s.length:Int):=by simpa using h2
  rw [A4t 0 (show i<s.length by omega)] at hR;replace hR:=(P7.eq_2 ..).symm.trans hR
  refine A6 (nx (A8 (B3 (sr 10 rfl (ip' 3 7 [(15,.slice pendingq pending.length pendingk),(16,sv s),(17,iv (i:Int))] ?_)))))
  refine ix rfl (A9e (T:=9) Tryz.underlying9 rfl rfl rfl i rfl (by omega)) ?_
  have hQ:=D6 hR;clear hR;obtain ⟨y9,hy9,hR⟩:=hQ
  refine zcm (C5r pending (s.getD i 0) pendingq pendingk (by first|omega|(simp<;>omega)|(dsimp only;omega)|decide) (by first|omega|(simp<;>omega)|(dsimp only;omega)|decide) (by first|omega|(simp<;>omega)) y9 hy9) A1.refl fun ⟨⟨⟨q3,k4⟩,hp5⟩,⟨⟨q8,k9⟩,hp10⟩⟩=>?_
  obtain ⟨hc6,hl7⟩:=hp5
  obtain ⟨hc11,hl12⟩:=hp10
  have:=B2y pending (s.getD i 0);try rw [hy9] at this
  refine ip' 5 0 [(6,.slice q3 y9.1.length k4),(7,.slice q8 y9.2.length k9)] ?_
  refine ie (sr 2 rfl (ip' 2 0 [(4,.slice q3 y9.1.length k4)] ?_))
  refine ie (A2 4 rfl (ip' 2 2 [(23,.slice (va outr.q) out.length outr.k),(24,.slice q8 y9.2.length k9)] ?_))
  refine it rfl (B1l (f:=F0) (r:=outr) (xs:=out) (ys:=y9.2) (pre:=[]) (post:=[]) B6g (fun _=>rfl) (fun _=>rfl) rfl rfl rfl rfl rfl rfl rfl rfl (B1 1 rfl) hokoutr (by first|omega|(simp<;>omega)) (by first|omega|(simp<;>omega))) fun ⟨r13,hr14⟩=>?_
  have:=@List.length_append _ out y9.2
  have:=VOk.le hr14
  have:=VOk.cap hr14
  refine ip' 1 0 [(3,.slice (va r13.q) ((out++y9.2).length) r13.k)] ?_
  refine A3 (nx (A2 3 rfl (ip' 1 2 [(12,iv (i:Int))] ?_)))
  refine ix rfl (B5 rfl rfl rfl rfl (by omega)) ?_
  refine ip' 1 0 [(5,iv ((i:Int)+1))] ?_
  refine A3 ?_
  exact E6v (z1:=out) (z2:=outr) (z3:=pending) (z4:=pendingq) (z5:=pendingk) (z6:=i) (out++y9.2) r13 y9.1 q3 k4 (i+1) ⟨(by omega),hR,hr14,(by first|omega|(simp<;>omega)|(dsimp only;omega)|decide),(by first|omega|(simp<;>omega)|(dsimp only;omega)|decide),(by omega),(by first|omega|(simp<;>omega))⟩ (by (try dsimp only);omega) (mc [vo F0 3 r13 (out++y9.2)] [true] rfl (by first|rfl|(simp only [List.length_set]<;>rfl))) (A1.pick [0] rfl)
 have h2p:¬ ((i:Int)<(s.length:Int)):=by simpa using h2
 rw [A4u h2p] at hR;replace hR:=(P7.eq_1 ..).symm.trans hR
 refine I3 (nx (sr 5 rfl (ip' 2 3 [(26,.slice (va outr.q) out.length outr.k),(27,.slice pendingq pending.length pendingk)] ?_)))
 have hQ:=D6 hR;clear hR;obtain ⟨y15,hy15,hR⟩:=hQ
 refine zcm (C4y pending pendingq pendingk (by first|omega|(simp<;>omega)|(dsimp only;omega)|decide) (by first|omega|(simp<;>omega)|(dsimp only;omega)|decide) y15 hy15) A1.refl fun ⟨⟨q15,k16⟩,hp17⟩=>?_
 obtain ⟨hc18,hl19⟩:=hp17
 have:=B2z pending;try rw [hy15] at this
 refine it rfl (B1l (f:=F0) (r:=outr) (xs:=out) (ys:=y15) (pre:=[]) (post:=[]) B6g (fun _=>rfl) (fun _=>rfl) rfl rfl rfl rfl rfl rfl rfl rfl (B1 0 rfl) hokoutr (by first|omega|(simp<;>omega)) (by first|omega|(simp<;>omega))) fun ⟨r20,hr21⟩=>?_
 have:=@List.length_append _ out y15
 have:=VOk.le hr21
 have:=VOk.cap hr21
 refine ip' 1 0 [(2,.slice (va r20.q) ((out++y15).length) r20.k)] ?_
 subst hR
 refine ie (A9 ?_)
 exact zer hr hD (N4 rfl (C1 rfl)) ⟨r20,hr21⟩ (mc [vo F0 3 r20 (out++y15)] [true] rfl (by first|rfl|(simp only [List.length_set]<;>rfl))) fn0
def J4 (cp:Int):Bool :=
 (((decide ((0:Int)≤cp))&&(decide (cp≤1114111)))&&((decide (cp<55296))||(decide ((57343:Int)<cp))))
theorem B5n (cp:Int) (R:Bool) (hR:J4 cp=R):I4 Tryz.prog 140 [iv cp] [] (bv R):=by
 refine zco Tryz.func140 [(0,iv cp)] fun X hX hr hD=>?_
 replace hR:=(J4.eq_1 ..).symm.trans hR
 refine sr 1 rfl (ip' 1 0 [] ?_)
 refine ie (sr 15 rfl (ip' 3 12 [(5,bv (decide ((0:Int)≤cp)))] ?_))
 refine zid 3 9 5 8 (decide (cp≤1114111)) (fun g1 g1p=>?_) ?_
 ·refine ip' 3 0 [(8,bv (decide (cp≤1114111)))] ?_
  exact A3 (L6 2 5 8 g1 fn0 (mk [] rfl) rfl rfl rfl rfl rfl)
 refine ip' 1 8 [(9,bv ((decide ((0:Int)≤cp))&&(decide (cp≤1114111))))] ?_
 refine zia 7 1 9 16 ((decide (cp<55296))||(decide ((57343:Int)<cp))) (fun g2=>?_) ?_
 ·have g2p:((0:Int)≤cp)∧(cp≤1114111):=by simpa using g2
  refine ip' 3 4 [(12,bv (decide (cp<55296)))] ?_
  refine zir 3 1 12 15 (decide ((57343:Int)<cp)) (fun g3 g3p=>?_) ?_
  ·refine ip' 3 0 [(15,bv (decide ((57343:Int)<cp)))] ?_
   exact A3 (L6 2 12 15 g3 fn0 (mk [] rfl) rfl rfl rfl rfl rfl)
  refine ip' 1 0 [(16,bv ((decide (cp<55296))||(decide ((57343:Int)<cp))))] ?_
  exact A3 (L6 4 9 16 g2 fn0 (mk [] rfl) rfl rfl rfl rfl rfl)
 refine ip' 1 0 [(2,bv (((decide ((0:Int)≤cp))&&(decide (cp≤1114111)))&&((decide (cp<55296))||(decide ((57343:Int)<cp)))))] ?_
 subst hR
 refine ie (A9 ?_)
 exact F2 hr hD
def C3 (cp:Int):Int :=
 (bif (decide (cp<128)) then 1 else (bif (decide (cp<2048)) then 2 else (bif (decide (cp<65536)) then 3 else 4)))
theorem B0q (cp:Int):1≤C3 cp∧C3 cp≤4:=by
 unfold C3
 cases decide (cp<128)<;>cases decide (cp<2048)<;>cases decide (cp<65536)<;>simp
theorem C7l (cp:Int) (R:Int) (hR:C3 cp=R):I4 Tryz.prog 141 [iv cp] [] (iv R):=by
 refine zco Tryz.func141 [(0,iv cp)] fun X hX hr hD=>?_
 replace hR:=(C3.eq_1 ..).symm.trans hR
 refine sr 1 rfl (ip' 1 0 [] ?_)
 refine ie (A8 (sr 2 rfl (ip' 2 0 [(4,bv (decide (cp<128)))] ?_)))
 refine ie ?_
 refine zjd rfl hR ?_ ?_<;>clear hR<;>intro hR h1 h1p
 ·refine sr 1 rfl (ip' 1 0 [(2,iv 1)] ?_)
  subst hR
  refine ie (A9 ?_)
  exact F2 hr hD
 refine A6 (nx (A8 (sr 2 rfl (ip' 2 0 [(6,bv (decide (cp<2048)))] ?_))))
 refine ie ?_
 refine zjd rfl hR ?_ ?_<;>clear hR<;>intro hR h2 h2p
 ·refine sr 1 rfl (ip' 1 0 [(2,iv 2)] ?_)
  subst hR
  refine ie (A9 ?_)
  exact F2 hr hD
 refine A6 (nx (A8 (sr 2 rfl (ip' 2 0 [(8,bv (decide (cp<65536)))] ?_))))
 refine ie ?_
 refine zjd rfl hR ?_ ?_<;>clear hR<;>intro hR h3 h3p
 ·refine sr 1 rfl (ip' 1 0 [(2,iv 3)] ?_)
  subst hR
  refine ie (A9 ?_)
  exact F2 hr hD
 refine A6 (nx (sr 1 rfl (ip' 1 0 [(2,iv 4)] ?_)))
 subst hR
 refine ie (A9 ?_)
 exact F2 hr hD
def N9 (cp1:Int):Nat→Int→List UInt8→Int→List UInt8
 | 0,_,_,_=>[]
 | fu1+1,cp2,b,i=>(bif (decide ((0:Int)<i)) then N9 cp1 fu1 (IntKind.i64.wrap (Int.tdiv cp2 64)) (b.set ((i).toNat) (by8 (IntKind.u8.wrap (128+(Int.tmod cp2 64))))) (i - 1) else (b.set 0 (by8 (IntKind.u8.wrap ((([0,0,192,224,240]:List Int).getD ((C3 cp1).toNat) 0)+cp2)))))
def M9 (cp1:Int):List UInt8 :=
 (bif (decide ((C3 cp1)=1)) then ([(by8 (IntKind.u8.wrap cp1))]:List UInt8) else N9 cp1 ((((C3 cp1) - 1) - (0:Int)).toNat+1) cp1 (List.replicate ((C3 cp1).toNat) (0:UInt8)) ((C3 cp1) - 1))
def U6 (cp:Int):List UInt8 :=
 (bif (!(J4 cp)) then M9 65533 else M9 cp)
theorem B1d (c:Int):∀ (fu:Nat) (x:Int) (b:List UInt8) (i:Int),b.length≤4→(N9 c fu x b i).length≤4
 | 0,x,b,i,h=>by simp [N9]
 | fu+1,x,b,i,h=>by
  simp only [N9]
  cases (decide ((0:Int)<i)) with
  | true=>rw [cond_true];exact B1d c fu _ _ _ (by rw [List.length_set];exact h)
  | false=>rw [cond_false,List.length_set];exact h
theorem B9h (c:Int):(M9 c).length≤4:=by
 have:=B0q c
 unfold M9
 cases (decide ((C3 c)=1)) with
 | true=>simp
 | false=>rw [cond_false];exact B1d c _ _ _ _ (by rw [List.length_replicate];omega)
theorem C5m (c:Int):(U6 c).length≤4:=by
 unfold U6
 cases (!(J4 c))<;>simp only [cond_true,cond_false]<;>exact B9h _
theorem D1u (cp:Int) (R:List UInt8) (hR:U6 cp=R):I4 Tryz.prog 95 [iv cp] [] (sv R):=by
 refine zco Tryz.func95 [(0,iv cp)] fun X hX hr hD=>?_
 replace hR:=(U6.eq_1 ..).symm.trans hR
 refine sr 1 rfl (ip' 1 0 [] ?_)
 refine ie (B8f (fun (cp1:Int)=>(M9 cp1=R∧cp1≤1114111∧0≤cp1,[(0,iv cp1)],[],[])) ?_ ?_)
 ·refine sr 3 rfl (ip' 1 2 [(7,iv cp)] ?_)
  refine zca (B5n cp _ rfl) fn0 ?_
  refine ip' 1 0 [(9,bv (!(J4 cp)))] ?_
  refine ie ?_
  refine zjb rfl hR ?_ ?_<;>clear hR<;>intro hR h1
  ·refine A2 1 rfl (ip' 1 0 [(0,iv 65533)] ?_)
   refine A3 ?_
   exact V6 65533 ⟨hR,(by omega)⟩ (mk [] rfl) fn0
  have hck:0≤cp∧cp≤1114111:=by have q:=h1;simp [J4] at q;omega
  refine A6 ?_
  exact V6 cp ⟨hR,(by omega)⟩ (mk [] rfl) fn0
 intro cp1
 rintro ⟨hR,hcp⟩
 replace hR:=(M9.eq_1 ..).symm.trans hR
 refine sr 3 rfl (ip' 1 2 [(10,iv cp1)] ?_)
 refine zca (C7l cp1 _ rfl) fn0 ?_
 have:=B0q cp1
 refine ip' 1 0 [(3,iv (C3 cp1))] ?_
 refine ie (A8 (sr 2 rfl (ip' 2 0 [(13,bv (decide ((C3 cp1)=1)))] ?_)))
 refine ie ?_
 refine zjd rfl hR ?_ ?_<;>clear hR<;>intro hR h2 h2p
 ·refine sr 5 rfl (ip' 1 4 [(14,iv cp1)] ?_)
  refine ix rfl (J2 (v:=.int .u8 (IntKind.u8.wrap cp1)) (G9.pure rfl) (A6o)) ?_
  refine it rfl (B6 (c:=cU8) (xs:=([(by8 (IntKind.u8.wrap cp1))]:List UInt8)) A0v rfl rfl rfl (by kernel_rfl)) fun b3=>?_
  have:([(by8 (IntKind.u8.wrap cp1))]:List UInt8).length=1:=rfl
  refine ix rfl (A4i Tryz.underlying9 Tryz.underlying30 rfl rfl (B1 0 rfl) rfl (by kernel_rfl)) ?_
  have:([(by8 (IntKind.u8.wrap cp1))]:List UInt8).length=1:=rfl
  refine ip' 1 0 [(2,sv ([(by8 (IntKind.u8.wrap cp1))]:List UInt8))] ?_
  subst hR
  refine ie (A9 ?_)
  exact F2 hr hD
 have hsz:=B0q cp1
 refine A6 (nx (sr 3 rfl (ip' 1 2 [(18,iv (C3 cp1))] ?_)))
 refine it rfl (D7l (f:=cU8) (l:=(C3 cp1).toNat) (c:=(C3 cp1).toNat) 0 B2w E6a.ok (fun _=>rfl) rfl (by exact congrArg (fun z=>some (Value.int .i64 z)) (show (C3 cp1)=(((C3 cp1).toNat:Nat):Int) by omega)) (by exact congrArg (fun z=>some (Value.int .i64 z)) (show (C3 cp1)=(((C3 cp1).toNat:Nat):Int) by omega)) (by omega) (by first|omega|(simp<;>omega)) (by omega)) fun ⟨r4,hr5⟩=>?_
 have:=VOk.le hr5
 have:=VOk.cap hr5
 refine ip' 1 0 [(4,.slice (va r4.q) ((List.replicate ((C3 cp1).toNat) (0:UInt8)).length) r4.k)] ?_
 refine ie (A8 (sr 3 rfl (ip' 1 2 [(20,iv (C3 cp1))] ?_)))
 refine ix rfl (N7 rfl rfl rfl rfl (by omega)) ?_
 refine ip' 1 0 [(5,iv ((C3 cp1) - 1))] ?_
 refine ie (B3 ?_)
 refine E6o (fun (fu:Nat) (cp2:Int) (b:List UInt8) (br:VR) (i:Int)=>((i - (0:Int)).toNat<fu∧N9 cp1 fu cp2 b i=R∧VOk 1 b.length br∧(0≤cp2∧cp2≤1114111)∧(b.length:Int)=C3 cp1∧0≤i∧i<C3 cp1,[(0,iv cp2),(3,iv (C3 cp1)),(4,.slice (va br.q) b.length br.k),(5,iv i)],((vo cU8 5 br b)++([])),[],fu)) ((((C3 cp1) - 1) - (0:Int)).toNat+1) cp1 (List.replicate ((C3 cp1).toNat) (0:UInt8)) r4 ((C3 cp1) - 1) ⟨(Nat.lt_succ_self _),hR,hr5,(by omega),(by first|omega|(simp<;>omega)),(by omega)⟩ (mc [vo cU8 5 r4 (List.replicate ((C3 cp1).toNat) (0:UInt8))] [true] rfl (by first|rfl|(simp only [List.length_set]<;>rfl))) fn0 ?_
 rintro fu cp2 b br i ⟨hm6,hR,hokbr,hcr,hbl,hi0⟩
 have:=VOk.le hokbr
 obtain ⟨fu1,rfl⟩:∃ m,fu=m+1:=⟨fu - 1,by omega⟩
 replace hR:=(N9.eq_2 ..).symm.trans hR
 have htd:=Int.tdiv_eq_ediv_of_nonneg (a:=cp2) (b:=64) hcr.1
 have htm:=Int.tmod_eq_emod_of_nonneg (a:=cp2) (b:=64) hcr.1
 have hmk:0≤([0,0,192,224,240]:List Int).getD ((C3 cp1).toNat) 0∧([0,0,192,224,240]:List Int).getD ((C3 cp1).toNat) 0≤240:=by generalize (C3 cp1).toNat=k;rcases k with _ | _ | _ | _ | _ | k<;>simp
 refine A8 (sr 2 rfl (ip' 2 0 [(23,bv (decide ((0:Int)<i)))] ?_))
 refine ie ?_
 refine zjd rfl hR ?_ ?_<;>clear hR<;>intro hR h7 h7p
 ·refine A6 (nx (A8 (B3 (sr 8 rfl (ip' 3 5 [(26,.slice (va br.q) b.length br.k),(27,iv i),(28,iv cp2)] ?_)))))
  refine ix rfl (B2b rfl rfl rfl (by decide) rfl) ?_
  refine ix rfl (B5 rfl rfl rfl rfl (by omega)) ?_
  refine ix rfl (J2 (v:=.int .u8 (IntKind.u8.wrap (128+(Int.tmod cp2 64)))) (G9.pure rfl) (A6o)) ?_
  obtain ⟨b8,hb9⟩:=VOk.some hokbr (by omega)
  obtain ⟨q10,k11,j12⟩:=br
  obtain rfl:q10=some b8:=hb9
  refine ix rfl (A6a A0v rfl rfl rfl ((i).toNat) (by omega) (by omega)) ?_
  refine it rfl (B0s (us:=[.int .u8 ((by8 (IntKind.u8.wrap (128+(Int.tmod cp2 64)))).toNat:Int)]) (u':=(by8 (IntKind.u8.wrap (128+(Int.tmod cp2 64))))) (c:=cU8) (sz:=1) ty5 (fun _=>rfl) rfl rfl rfl 0 rfl rfl rfl rfl ((i).toNat) 0 rfl (gd 0 (by omega)) rfl rfl) fun _=>?_
  refine ie (A2 3 rfl (ip' 1 2 [(33,iv cp2)] ?_))
  refine ix rfl (B8p rfl rfl rfl (by decide)) ?_
  refine ip' 1 0 [(0,iv (IntKind.i64.wrap (Int.tdiv cp2 64)))] ?_
  refine A3 (nx (A2 3 rfl (ip' 1 2 [(24,iv i)] ?_)))
  refine ix rfl (N7 rfl rfl rfl rfl (by omega)) ?_
  refine ip' 1 0 [(5,iv (i - 1))] ?_
  refine A3 ?_
  exact E6g (z1:=(fu1+1)) (z2:=cp2) (z3:=b) (z4:=(⟨some b8,k11,j12⟩:VR)) (z5:=i) fu1 (IntKind.i64.wrap (Int.tdiv cp2 64)) (b.set ((i).toNat) (by8 (IntKind.u8.wrap (128+(Int.tmod cp2 64))))) (⟨some b8,k11,j12⟩:VR) (i - 1) ⟨(by omega),hR,(VOk.cast hokbr (by simp)),(by rw [htd,show IntKind.i64.wrap (cp2 / 64)=cp2 / 64 from P1 (by simp [IntKind.min,IntKind.signed,IntKind.bits];omega) (by simp [IntKind.max,IntKind.signed,IntKind.bits];omega)];omega),(by first|omega|(simp<;>omega)),(by omega)⟩ (Nat.lt_succ_self _) (mc [vo cU8 5 (⟨some b8,k11,j12⟩:VR) (b.set ((i).toNat) (by8 (IntKind.u8.wrap (128+(Int.tmod cp2 64)))))] [true] rfl (by first|rfl|(simp only [List.length_set]<;>rfl))) fn0
 refine I3 (nx (sr 3 rfl (Q2 3 0 [0] (fun b13=>[(6,pt b13 0)]) (fun b13=>(bx b13 [iv 0,iv 0,iv 192,iv 224,iv 240] 85::(vo cU8 5 br b)++([]))) (fun b13=>?_))))
 refine ie (sr 9 rfl (ip' 2 7 [(36,.slice (va br.q) b.length br.k),(37,iv (C3 cp1))] ?_))
 refine ix rfl (V0 Tryz.underlying85 ty3 rfl rfl rfl ((C3 cp1).toNat) (by omega) (by omega)) ?_
 refine ix rfl (N6 (u:=iv (([0,0,192,224,240]:List Int).getD ((C3 cp1).toNat) 0)) (c:=F0) (xs:=([0,0,192,224,240]:List Int)) (j:=[]) (sz:=1) ty3 (fun _=>rfl) rfl rfl 0 rfl ((C3 cp1).toNat) 0 rfl (gd 0 (by simp only [List.length_cons,List.length_nil];omega)) rfl) ?_
 refine ip' 1 4 [(40,iv cp2)] ?_
 refine ix rfl (B5 rfl rfl rfl rfl (by omega)) ?_
 refine ix rfl (J2 (v:=.int .u8 (IntKind.u8.wrap ((([0,0,192,224,240]:List Int).getD ((C3 cp1).toNat) 0)+cp2))) (G9.pure rfl) (A6o)) ?_
 obtain ⟨b14,hb15⟩:=VOk.some hokbr (by omega)
 obtain ⟨q16,k17,j18⟩:=br
 obtain rfl:q16=some b14:=hb15
 refine ix rfl (A6a A0v rfl rfl rfl 0 rfl (by omega)) ?_
 refine it rfl (B0s (us:=[.int .u8 ((by8 (IntKind.u8.wrap ((([0,0,192,224,240]:List Int).getD ((C3 cp1).toNat) 0)+cp2))).toNat:Int)]) (u':=(by8 (IntKind.u8.wrap ((([0,0,192,224,240]:List Int).getD ((C3 cp1).toNat) 0)+cp2)))) (c:=cU8) (sz:=1) ty5 (fun _=>rfl) rfl rfl rfl 1 rfl rfl rfl rfl 0 0 rfl (gd 0 (by omega)) rfl rfl) fun _=>?_
 refine ie (sr 3 rfl (ip' 1 2 [(44,.slice (va (⟨some b14,k17,j18⟩:VR).q) b.length ((⟨some b14,k17,j18⟩:VR).k))] ?_))
 refine ix rfl (C0m (r:=(⟨some b14,k17,j18⟩:VR)) (pre:=[bx b13 [iv 0,iv 0,iv 192,iv 224,iv 240] 85]) (post:=[]) (s:=(b.set 0 (by8 (IntKind.u8.wrap ((([0,0,192,224,240]:List Int).getD ((C3 cp1).toNat) 0)+cp2))))) Tryz.underlying9 Tryz.underlying30 rfl (by first|rfl|(rw [List.length_set];rfl)) rfl (VOk.cast hokbr (by simp)) (by kernel_rfl)) ?_
 refine ip' 1 0 [(2,sv (b.set 0 (by8 (IntKind.u8.wrap ((([0,0,192,224,240]:List Int).getD ((C3 cp1).toNat) 0)+cp2)))))] ?_
 subst hR
 refine ie (A9 ?_)
 exact F2 hr hD
def X0:List Int→List UInt8→Nat→List UInt8
 | [],s,i=>s
 | hd_l0::tl_l0,s,i=>(B9 (U6 hd_l0) fun (y13:List UInt8)=>X0 tl_l0 (s++y13) (i+1))
def A6n (codes:List Int):List UInt8 :=
 X0 codes ([]:List UInt8) 0
theorem C7v (codes:List Int) (codesq:Option Addr) (codesk:Nat) (hlcodes:codes.length≤9223372036854775807) (hccodes:codes.length≤codesk) (hcl:codes.length≤1000000) (R:List UInt8) (hR:A6n codes=R):I4 Tryz.prog 190 [.slice codesq codes.length codesk] [sl F0 codesq codes] (sv R):=by
 refine zco Tryz.func190 [(0,.slice codesq codes.length codesk)] fun X hX hr hD=>?_
 replace hR:=(A6n.eq_1 ..).symm.trans hR
 refine sr 1 rfl (ip' 1 0 [] ?_)
 refine ie (sr 1 rfl (ip' 1 0 [(3,sv ([]:List UInt8))] ?_))
 refine ie (A8 (sr 1 rfl (ip' 1 0 [(4,iv 0)] ?_)))
 refine ie (B3 (D2k (fun (s:List UInt8) (i:Nat)=>(i≤codes.length∧X0 (codes.drop i) s i=R∧s.length≤4 * i,[(0,.slice codesq codes.length codesk),(3,sv s),(4,iv (i:Int))],[],[sl F0 codesq codes],codes.length - i)) ([]:List UInt8) 0 ⟨(by omega),hR,(by simp)⟩ (mk [] rfl) A1.refl ?_))
 rintro s i ⟨hm1,hR,hsl⟩
 refine A8 (sr 4 rfl (ip' 4 0 [(8,bv (decide ((i:Int)<(codes.length:Int))))] ?_))
 refine ie (A1s rfl (fun h2=>?_) (fun h2=>?_))
 ·have h2p:(i:Int)<(codes.length:Int):=by simpa using h2
  rw [A4t 0 (show i<codes.length by omega)] at hR;replace hR:=(X0.eq_2 ..).symm.trans hR
  refine A6 (nx (A8 (B3 (A2 8 rfl (ip' 3 5 [(11,sv s),(12,.slice codesq codes.length codesk),(13,iv (i:Int))] ?_)))))
  refine R8 0 rfl (by omega) fun a3 hq4=>?_
  refine ix rfl (M4 H6 rfl rfl hq4 rfl i rfl (by omega)) ?_
  refine ix rfl (F5 (v:=iv (codes.getD i 0)) (us:=[iv (codes.getD i 0)]) ty3 rfl rfl (O2 (c:=F0) (sz:=1) hq4 (fun _=>rfl) 0 rfl (gd 0 (by omega))) rfl) ?_
  have hQ:=D6 hR;clear hR;obtain ⟨y13,hy13,hR⟩:=hQ
  refine zca (D1u (codes.getD i 0) y13 hy13) fn0 ?_
  have:=C5m (codes.getD i 0);try rw [hy13] at this
  refine ix rfl (zst rfl rfl rfl) ?_
  have:=@List.length_append _ s y13
  refine ip' 1 0 [(3,sv (s++y13))] ?_
  refine A3 (nx (A2 3 rfl (ip' 1 2 [(9,iv (i:Int))] ?_)))
  refine ix rfl (B5 rfl rfl rfl rfl (by omega)) ?_
  refine ip' 1 0 [(4,iv ((i:Int)+1))] ?_
  refine A3 ?_
  exact D3r (z1:=s) (z2:=i) (s++y13) (i+1) ⟨(by omega),hR,(by first|omega|(simp<;>omega))⟩ (by (try dsimp only);omega) (mk [] rfl) A1.refl
 have h2p:¬ ((i:Int)<(codes.length:Int)):=by simpa using h2
 rw [A4u h2p] at hR;replace hR:=(X0.eq_1 ..).symm.trans hR
 refine I3 (nx (sr 2 rfl (ip' 2 0 [(2,sv s)] ?_)))
 subst hR
 refine ie (A9 ?_)
 exact F2 hr hD
def Z8 (s:List UInt8):Nat→List Int→Nat→Bool
 | 0,_,_=>false
 | fu1+1,l,i=>(bif (decide ((i:Int)<(l.length:Int))) then (bif ((decide ((l.getD i 0)<32))||((decide ((127:Int)≤(l.getD i 0)))&&(decide ((l.getD i 0)≤159)))) then false else Z8 s fu1 l (i+1)) else (B9 (A6n l) fun (y18:List UInt8)=>(decide (y18=s))))
def O7 (s:List UInt8):Bool :=
 (bif (decide ((510:Int)<(s.length:Int))) then false else (B9 (Y7 s) fun (y12:List Int)=>Z8 s ((y12.length - 0)+1) y12 0))
theorem C2d (s:List UInt8) (h:O7 s=true):s.length≤510:=by
 unfold O7 at h
 by_cases e:(510:Int)<(s.length:Int)
 ·rw [decide_eq_true e] at h;simp at h
 ·omega
theorem C5b (s:List UInt8) (R:Bool) (hR:O7 s=R):I4 Tryz.prog 131 [sv s] [] (bv R):=by
 refine zco Tryz.func131 [(0,sv s)] fun X hX hr hD=>?_
 replace hR:=(O7.eq_1 ..).symm.trans hR
 refine sr 1 rfl (ip' 1 0 [] ?_)
 refine ie (A8 (sr 3 rfl (ip' 3 0 [(7,bv (decide ((510:Int)<(s.length:Int))))] ?_)))
 refine ie ?_
 refine zjd rfl hR ?_ ?_<;>clear hR<;>intro hR h1 h1p
 ·refine sr 1 rfl (ip' 1 0 [(2,bv false)] ?_)
  subst hR
  refine ie (A9 ?_)
  exact F2 hr hD
 refine A6 (nx (sr 3 rfl (ip' 1 2 [(8,sv s)] ?_)))
 have hQ:=D6 hR;clear hR;obtain ⟨y12,hy12,hR⟩:=hQ
 refine it rfl (C2 (L2:=[]) (C5i s (by first|omega|(simp<;>omega)) y12 hy12) rfl rfl rfl rfl rfl fn0 (List.Perm.refl _) (fun ⟨r2,hk3⟩=>((vo F0 3 r2 y12)++([]))) (fun _=>by first|rfl|simp only [List.append_nil,List.cons_append,List.nil_append,List.append_assoc])) fun ⟨r2,hk3⟩=>?_
 have:=VOk.le hk3
 have:=VOk.cap hk3
 have:=C1l s;try rw [hy12] at this
 refine ip' 1 0 [(3,.slice (va r2.q) y12.length r2.k)] ?_
 refine ie (A8 (sr 1 rfl (ip' 1 0 [(4,iv 0)] ?_)))
 refine ie (B3 ?_)
 refine C1r (fun (fu:Nat) (l:List Int) (lr:VR) (i:Nat)=>((l.length - i)<fu∧Z8 s fu l i=R∧VOk 1 l.length lr∧l.length≤10000,[(0,sv s),(3,.slice (va lr.q) l.length lr.k),(4,iv (i:Int))],((vo F0 3 lr l)++([])),[],fu)) ((y12.length - 0)+1) y12 r2 0 ⟨(Nat.lt_succ_self _),hR,hk3,(by omega)⟩ (mc [vo F0 3 r2 y12] [true] rfl (by first|rfl|(simp only [List.length_set]<;>rfl))) fn0 ?_
 rintro fu l lr i ⟨hm4,hR,hoklr,hll⟩
 have:=VOk.le hoklr
 obtain ⟨fu1,rfl⟩:∃ m,fu=m+1:=⟨fu - 1,by omega⟩
 replace hR:=(Z8.eq_2 ..).symm.trans hR
 refine A8 (sr 4 rfl (ip' 4 0 [(13,bv (decide ((i:Int)<(l.length:Int))))] ?_))
 refine ie ?_
 refine zjd rfl hR ?_ ?_<;>clear hR<;>intro hR h5 h5p
 ·refine A6 (nx (A8 (B3 (sr 19 rfl (ip' 2 17 [(16,.slice (va lr.q) l.length lr.k),(17,iv (i:Int))] ?_)))))
  obtain ⟨b6,hb7⟩:=VOk.some hoklr (by omega)
  obtain ⟨q8,k9,j10⟩:=lr
  obtain rfl:q8=some b6:=hb7
  refine ix rfl (A6a H6 rfl rfl rfl i rfl (by omega)) ?_
  refine ix rfl (N6 (u:=iv (l.getD i 0)) (c:=F0) (sz:=1) ty3 (fun _=>rfl) rfl rfl 0 rfl i 0 rfl (gd 0 (by omega)) rfl) ?_
  refine ip' 2 13 [(21,bv (decide ((l.getD i 0)<32)))] ?_
  refine zir 13 0 21 34 ((decide ((127:Int)≤(l.getD i 0)))&&(decide ((l.getD i 0)≤159))) (fun g11 g11p=>?_) ?_
  ·refine ip' 2 11 [(22,.slice (va (⟨some b6,k9,j10⟩:VR).q) l.length ((⟨some b6,k9,j10⟩:VR).k)),(23,iv (i:Int))] ?_
   refine ix rfl (A6a H6 rfl rfl rfl i rfl (by omega)) ?_
   refine ix rfl (N6 (u:=iv (l.getD i 0)) (c:=F0) (sz:=1) ty3 (fun _=>rfl) rfl rfl 0 rfl i 0 rfl (gd 0 (by omega)) rfl) ?_
   refine ip' 2 7 [(27,bv (decide ((127:Int)≤(l.getD i 0))))] ?_
   refine zid 6 1 27 33 (decide ((l.getD i 0)≤159)) (fun g12 g12p=>?_) ?_
   ·refine ip' 2 4 [(28,.slice (va (⟨some b6,k9,j10⟩:VR).q) l.length ((⟨some b6,k9,j10⟩:VR).k)),(29,iv (i:Int))] ?_
    refine ix rfl (A6a H6 rfl rfl rfl i rfl (by omega)) ?_
    refine ix rfl (N6 (u:=iv (l.getD i 0)) (c:=F0) (sz:=1) ty3 (fun _=>rfl) rfl rfl 0 rfl i 0 rfl (gd 0 (by omega)) rfl) ?_
    refine ip' 2 0 [(33,bv (decide ((l.getD i 0)≤159)))] ?_
    exact A3 (L6 6 27 33 g12 fn0 (mc [vo F0 3 (⟨some b6,k9,j10⟩:VR) l] [true] rfl (by first|rfl|(simp only [List.length_set]<;>rfl))) rfl rfl rfl rfl rfl)
   refine ip' 1 0 [(34,bv ((decide ((127:Int)≤(l.getD i 0)))&&(decide ((l.getD i 0)≤159))))] ?_
   exact A3 (L6 8 21 34 g11 fn0 (mc [vo F0 3 (⟨some b6,k9,j10⟩:VR) l] [true] rfl (by first|rfl|(simp only [List.length_set]<;>rfl))) rfl rfl rfl rfl rfl)
  refine ie ?_
  refine zjb rfl hR ?_ ?_<;>clear hR<;>intro hR h13
  ·have h13p:((l.getD i 0)<32)∨(((127:Int)≤(l.getD i 0))∧((l.getD i 0)≤159)):=by simpa using h13
   refine sr 1 rfl (ip' 1 0 [(2,bv false)] ?_)
   subst hR
   refine ie (A9 ?_)
   exact F2 hr hD
  have h13p:¬ (((l.getD i 0)<32)∨(((127:Int)≤(l.getD i 0))∧((l.getD i 0)≤159))):=by simpa using h13
  refine A6 (nx (A2 3 rfl (ip' 1 2 [(14,iv (i:Int))] ?_)))
  refine ix rfl (B5 rfl rfl rfl rfl (by omega)) ?_
  refine ip' 1 0 [(4,iv ((i:Int)+1))] ?_
  refine A3 ?_
  exact B5q (z1:=(fu1+1)) (z2:=l) (z3:=(⟨some b6,k9,j10⟩:VR)) (z4:=i) fu1 l (⟨some b6,k9,j10⟩:VR) (i+1) ⟨(by omega),hR,hoklr,(by omega)⟩ (Nat.lt_succ_self _) (mc [vo F0 3 (⟨some b6,k9,j10⟩:VR) l] [true] rfl (by first|rfl|(simp only [List.length_set]<;>rfl))) fn0
 refine I3 (nx (sr 5 rfl (ip' 1 4 [(35,.slice (va lr.q) l.length lr.k)] ?_)))
 have:=VOk.cap hoklr
 have:=VOk.le hoklr
 refine A3u [] [] (T:=3) (c:=F0) (r:=lr) (xs:=l) hoklr (by first|rfl|simp only [List.cons_append,List.append_assoc,List.nil_append,List.append_nil]) ?_
 have hQ:=D6 hR;clear hR;obtain ⟨y18,hy18,hR⟩:=hQ
 refine zca (C7v l (va lr.q) lr.k (by first|omega|(simp<;>omega)|(dsimp only;omega)|decide) (by first|omega|(simp<;>omega)|(dsimp only;omega)|decide) (by first|omega|(simp<;>omega)) y18 hy18) A1.refl ?_
 refine ip' 1 2 [(37,sv s)] ?_
 refine ix rfl (B1h rfl rfl rfl) ?_
 refine ip' 1 0 [(2,bv (decide (y18=s)))] ?_
 subst hR
 refine ie (A9 ?_)
 exact F2 hr hD
theorem D3g:∀ k:Nat,0≤([0,95,135,175,215,255]:List Int).getD k 0∧([0,95,135,175,215,255]:List Int).getD k 0≤255
 | 0 | 1 | 2 | 3 | 4 | 5=>by decide
 | _+6=>by exact ⟨Int.le_refl _,by show (0:Int)≤255;decide⟩
theorem C2w (x:UInt8):((x.toNat:Nat):Int)≤9223372036854775807:=by have:=UInt8.toNat_lt x;omega
def A1r (n:Int):Int :=
 (bif (decide (n<16)) then (([0,13434880,52480,13487360,238,13435085,52685,15066597,8355711,16711680,65280,16776960,6053119,16711935,65535,16777215]:List Int).getD ((n).toNat) 0) else (bif (decide ((232:Int)≤n)) then ((8+(10 * (n - 232))) * 65793) else ((((([0,95,135,175,215,255]:List Int).getD (((n - 16) / 36).toNat) 0) * 65536)+((([0,95,135,175,215,255]:List Int).getD ((((n - 16) / 6) % 6).toNat) 0) * 256))+(([0,95,135,175,215,255]:List Int).getD (((n - 16) % 6).toNat) 0))))
theorem C5t (n:Int) (hn:0≤n∧n≤255) (R:Int) (hR:A1r n=R):I4 Tryz.prog 214 [iv n] [] (iv R):=by
 refine zco Tryz.func214 [(0,iv n)] fun X hX hr hD=>?_
 replace hR:=(A1r.eq_1 ..).symm.trans hR
 have q1:=D3g ((n - 16) / 36).toNat
 have q2:=D3g (((n - 16) / 6) % 6).toNat
 have q3:=D3g ((n - 16) % 6).toNat
 refine sr 1 rfl (ip' 1 0 [] ?_)
 refine ie (sr 3 rfl (Q2 3 0 [0] (fun b1=>[(3,pt b1 0)]) (fun b1=>[bx b1 [iv 0,iv 13434880,iv 52480,iv 13487360,iv 238,iv 13435085,iv 52685,iv 15066597,iv 8355711,iv 16711680,iv 65280,iv 16776960,iv 6053119,iv 16711935,iv 65535,iv 16777215] 288]) (fun b1=>?_)))
 refine ie (A8 (sr 2 rfl (ip' 2 0 [(8,bv (decide (n<16)))] ?_)))
 refine ie ?_
 refine zjd rfl hR ?_ ?_<;>clear hR<;>intro hR h2 h2p
 ·refine sr 4 rfl (ip' 1 3 [(9,iv n)] ?_)
  refine ix rfl (V0 Tryz.underlying288 ty3 rfl rfl rfl ((n).toNat) (by omega) (by omega)) ?_
  refine ix rfl (N6 (u:=iv (([0,13434880,52480,13487360,238,13435085,52685,15066597,8355711,16711680,65280,16776960,6053119,16711935,65535,16777215]:List Int).getD ((n).toNat) 0)) (c:=F0) (xs:=([0,13434880,52480,13487360,238,13435085,52685,15066597,8355711,16711680,65280,16776960,6053119,16711935,65535,16777215]:List Int)) (j:=[]) (sz:=1) ty3 (fun _=>rfl) rfl rfl 0 rfl ((n).toNat) 0 rfl (gd 0 (by simp only [List.length_cons,List.length_nil];omega)) rfl) ?_
  refine ip' 1 0 [(2,iv (([0,13434880,52480,13487360,238,13435085,52685,15066597,8355711,16711680,65280,16776960,6053119,16711935,65535,16777215]:List Int).getD ((n).toNat) 0))] ?_
  subst hR
  refine ie (A9 ?_)
  exact F2 hr hD
 refine A6 (nx (A8 (sr 2 rfl (ip' 2 0 [(13,bv (decide ((232:Int)≤n)))] ?_))))
 refine ie ?_
 refine zjd rfl hR ?_ ?_<;>clear hR<;>intro hR h3 h3p
 ·refine sr 6 rfl (ip' 1 5 [(14,iv n)] ?_)
  refine ix rfl (N7 rfl rfl rfl rfl (by omega)) ?_
  refine ix rfl (A6j rfl rfl rfl rfl (by omega)) ?_
  refine ix rfl (B5 rfl rfl rfl rfl (by omega)) ?_
  refine ix rfl (A6j rfl rfl rfl rfl (by omega)) ?_
  refine ip' 1 0 [(2,iv ((8+(10 * (n - 232))) * 65793))] ?_
  subst hR
  refine ie (A9 ?_)
  exact F2 hr hD
 refine A6 (nx (sr 3 rfl (Q2 3 0 [0] (fun b4=>[(4,pt b4 0)]) (fun b4=>[bx b4 [iv 0,iv 95,iv 135,iv 175,iv 215,iv 255] 147,bx b1 [iv 0,iv 13434880,iv 52480,iv 13487360,iv 238,iv 13435085,iv 52685,iv 15066597,iv 8355711,iv 16711680,iv 65280,iv 16776960,iv 6053119,iv 16711935,iv 65535,iv 16777215] 288]) (fun b4=>?_))))
 refine ie (sr 3 rfl (ip' 1 2 [(20,iv n)] ?_))
 refine ix rfl (N7 rfl rfl rfl rfl (by omega)) ?_
 refine ip' 1 0 [(5,iv (n - 16))] ?_
 refine ie (sd 18 rfl (by kernel_rfl) rfl ?_)
 refine dp' 1 17 [(22,iv (n - 16))] ?_
 refine dd rfl (A8z (c:=((n - 16) / 36)) rfl rfl rfl (by decide) (by first|exact ⟨⟨by omega,by show _≤(9223372036854775807:Int);omega⟩,rfl⟩|exact ⟨by omega,rfl⟩|exact ⟨⟨Int.natCast_nonneg _,C2w _⟩,rfl⟩|exact ⟨Int.ediv_nonneg (by first|omega|exact Int.natCast_nonneg _) (by omega),rfl⟩)) ?_
 refine dd rfl (V0 Tryz.underlying147 ty3 rfl rfl rfl (((n - 16) / 36).toNat) (by omega) (by omega)) ?_
 refine dd rfl (N6 (u:=iv (([0,95,135,175,215,255]:List Int).getD (((n - 16) / 36).toNat) 0)) (c:=F0) (xs:=([0,95,135,175,215,255]:List Int)) (j:=[]) (sz:=1) ty3 (fun _=>rfl) rfl rfl 0 rfl (((n - 16) / 36).toNat) 0 rfl (gd 0 (by simp only [List.length_cons,List.length_nil];omega)) rfl) ?_
 refine dd rfl (A6j rfl rfl rfl rfl (by omega)) ?_
 refine dp' 1 12 [(27,iv (n - 16))] ?_
 refine dd rfl (A8z (c:=((n - 16) / 6)) rfl rfl rfl (by decide) (by first|exact ⟨⟨by omega,by show _≤(9223372036854775807:Int);omega⟩,rfl⟩|exact ⟨by omega,rfl⟩|exact ⟨⟨Int.natCast_nonneg _,C2w _⟩,rfl⟩|exact ⟨Int.ediv_nonneg (by first|omega|exact Int.natCast_nonneg _) (by omega),rfl⟩)) ?_
 refine dd rfl (V3 (c:=(((n - 16) / 6) % 6)) rfl rfl rfl (by decide) (by first|exact ⟨⟨by omega,by show _≤(9223372036854775807:Int);omega⟩,rfl⟩|exact ⟨by omega,rfl⟩|exact ⟨⟨Int.natCast_nonneg _,C2w _⟩,rfl⟩|exact ⟨Int.ediv_nonneg (by first|omega|exact Int.natCast_nonneg _) (by omega),rfl⟩)) ?_
 refine dd rfl (V0 Tryz.underlying147 ty3 rfl rfl rfl ((((n - 16) / 6) % 6).toNat) (by omega) (by omega)) ?_
 refine dd rfl (N6 (u:=iv (([0,95,135,175,215,255]:List Int).getD ((((n - 16) / 6) % 6).toNat) 0)) (c:=F0) (xs:=([0,95,135,175,215,255]:List Int)) (j:=[]) (sz:=1) ty3 (fun _=>rfl) rfl rfl 0 rfl ((((n - 16) / 6) % 6).toNat) 0 rfl (gd 0 (by simp only [List.length_cons,List.length_nil];omega)) rfl) ?_
 refine dd rfl (A6j rfl rfl rfl rfl (by omega)) ?_
 refine dd rfl (B5 rfl rfl rfl rfl (by omega)) ?_
 refine dp' 1 5 [(34,iv (n - 16))] ?_
 refine dd rfl (V3 (c:=((n - 16) % 6)) rfl rfl rfl (by decide) (by first|exact ⟨⟨by omega,by show _≤(9223372036854775807:Int);omega⟩,rfl⟩|exact ⟨by omega,rfl⟩|exact ⟨⟨Int.natCast_nonneg _,C2w _⟩,rfl⟩|exact ⟨Int.ediv_nonneg (by first|omega|exact Int.natCast_nonneg _) (by omega),rfl⟩)) ?_
 refine dd rfl (V0 Tryz.underlying147 ty3 rfl rfl rfl (((n - 16) % 6).toNat) (by omega) (by omega)) ?_
 refine dd rfl (N6 (u:=iv (([0,95,135,175,215,255]:List Int).getD (((n - 16) % 6).toNat) 0)) (c:=F0) (xs:=([0,95,135,175,215,255]:List Int)) (j:=[]) (sz:=1) ty3 (fun _=>rfl) rfl rfl 0 rfl (((n - 16) % 6).toNat) 0 rfl (gd 0 (by simp only [List.length_cons,List.length_nil];omega)) rfl) ?_
 refine dd rfl (B5 rfl rfl rfl rfl (by omega)) ?_
 refine dp' 1 0 [(2,iv ((((([0,95,135,175,215,255]:List Int).getD (((n - 16) / 36).toNat) 0) * 65536)+((([0,95,135,175,215,255]:List Int).getD ((((n - 16) / 6) % 6).toNat) 0) * 256))+(([0,95,135,175,215,255]:List Int).getD (((n - 16) % 6).toNat) 0)))] ?_
 subst hR
 refine de (A9 ?_)
 exact F2 hr hD
theorem A9t {c:Col} (h:I2 c=0):0≤c.n∧c.n≤16777215∧(c.kind=1→c.n≤255):=by
 unfold I2 at h
 simp only [Bool.cond_eq_ite,decide_eq_true_eq,Bool.and_eq_true] at h
 repeat' split at h
 all_goals first|omega|exact absurd h (by decide)
def A1j (c:Col):Int×Bool :=
 (bif ((!decide ((I2 c)=0))||(decide (c.kind=0))) then (0,false) else (bif (decide (c.kind=1)) then ((A1r c.n),true) else (c.n,true)))
theorem C3t:∀ n<256,0≤A1r ((n:Nat):Int)∧A1r ((n:Nat):Int)≤16777215:=by decide +kernel
theorem C7p (c:Col):0≤(A1j c).1∧(A1j c).1≤16777215:=by
 unfold A1j
 simp only [Bool.cond_eq_ite,Bool.or_eq_true,Bool.not_eq_true',decide_eq_true_eq,decide_eq_false_iff_not]
 repeat' split
 ·exact ⟨Int.le_refl _,by show (0:Int)≤_;omega⟩
 ·rename_i h1 h2
  have hc:=A9t (c:=c) (by omega)
  obtain ⟨m,e⟩:∃ m:Nat,c.n=m:=⟨c.n.toNat,by omega⟩
  show 0≤A1r c.n∧A1r c.n≤16777215
  rw [e];exact C3t m (by have:=hc.2.2 h2;omega)
 ·have hc:=A9t (c:=c) (by omega)
  exact ⟨hc.1,hc.2.1⟩
theorem C9u (c:Col) (R:Int×Bool) (hR:A1j c=R):I4 Tryz.prog 191 [ag (M8 c)] [] (.tuple #[iv R.1,bv R.2]):=by
 refine zco Tryz.func191 [(0,ag (M8 c))] fun X hX hr hD=>?_
 replace hR:=(A1j.eq_1 ..).symm.trans hR
 refine sr 3 rfl (Q2 3 0 [] (fun b1=>[(1,pt b1 0)]) (fun b1=>[bx b1 (M8 c) 24]) (fun b1=>?_))
 refine ie (A8 (sr 8 rfl (zrl 1 7 [0] [(4,ag (M8 c))] ?_)))
 refine zca (B0w c _ rfl) fn0 ?_
 refine ip' 2 4 [(7,bv (!decide ((I2 c)=0)))] ?_
 refine zio 4 0 7 11 (decide (c.kind=0)) (fun g2=>?_) ?_
 ·have g2p:¬ (¬ (I2 c)=0):=by simpa using g2
  refine zrl 4 0 [0] [(11,bv (decide (c.kind=0)))] ?_
  exact A3 (L6 2 7 11 g2 fn0 (mk [true] rfl) rfl rfl rfl rfl rfl)
 refine ie ?_
 refine zjb rfl hR ?_ ?_<;>clear hR<;>intro hR h3
 ·have h3p:(¬ (I2 c)=0)∨(c.kind=0):=by simpa using h3
  refine sr 2 rfl (ip' 2 0 [(2,iv 0),(3,bv false)] ?_)
  subst hR
  refine ie (A9 ?_)
  exact A0p hr hD
 have h3p:¬ ((¬ (I2 c)=0)∨(c.kind=0)):=by simpa using h3
 refine A6 (nx (A8 (sr 3 rfl (zrl 3 0 [0] [(14,bv (decide (c.kind=1)))] ?_))))
 refine ie ?_
 refine zjd rfl hR ?_ ?_<;>clear hR<;>intro hR h4 h4p
 ·have hci:=A9t (c:=c) (by simp_all)
  refine sr 5 rfl (zrl 2 3 [0] [(16,iv c.n)] ?_)
  refine zca (C5t c.n (by omega) _ rfl) fn0 ?_
  refine ip' 2 0 [(2,iv (A1r c.n)),(3,bv true)] ?_
  subst hR
  refine ie (A9 ?_)
  exact A0p hr hD
 refine A6 (nx (sr 4 rfl (zrl 4 0 [0] [(2,iv c.n),(3,bv true)] ?_)))
 subst hR
 refine ie (A9 ?_)
 exact A0p hr hD
theorem dv6:∀ k:Nat,k<6→1≤([1048576,65536,4096,256,16,1]:List Int).getD k 0∧([1048576,65536,4096,256,16,1]:List Int).getD k 0≤1048576
 | 0,_ | 1,_ | 2,_ | 3,_ | 4,_ | 5,_=>by decide
 | _+6,h=>by omega
def b7I (j n:Int):Prop:=(j=0∧0≤n∧n<1)∨(j=1∧0≤n∧n<2)∨(j=2∧0≤n∧n<4)∨(j=3∧0≤n∧n<8)∨(j=4∧0≤n∧n<16)∨(j=5∧0≤n∧n<32)∨(j=6∧0≤n∧n<64)
theorem E1p {j:Int} (h:j=0):b7I j 0:=by unfold b7I;omega
theorem D4e {j n:Int} (h:b7I j n):0≤n∧n<64:=by unfold b7I at h;omega
theorem B7i {j n x:Int} (h:b7I j n) (hj:j<6) (hx:0≤x∧x≤1):b7I (j+1) (2 * n+x):=by unfold b7I at *;omega
theorem B6u {j j' n x:Int} (h:b7I j n) (hj:j<6) (hx:0≤x∧x≤1) (e:j'=j+1):b7I j' (2 * n+x):=e▸B7i h hj hx
theorem dv8:∀ k:Nat,k<8→1≤([128,64,32,16,8,4,2,1]:List Int).getD k 0∧([128,64,32,16,8,4,2,1]:List Int).getD k 0≤128
 | 0,_ | 1,_ | 2,_ | 3,_ | 4,_ | 5,_ | 6,_ | 7,_=>by decide
 | _+8,h=>by omega
def O6 (y5:Int×Bool):Nat→List UInt8→Nat→(List UInt8×Int)
 | 0,_,_=>([],0)
 | fu1+1,s,k=>(bif (decide ((k:Int)<6)) then O6 y5 fu1 (s++((D1g.drop (((y5.1 / (([1048576,65536,4096,256,16,1]:List Int).getD k 0)) % 16).toNat)).take ((((y5.1 / (([1048576,65536,4096,256,16,1]:List Int).getD k 0)) % 16).toNat+1) - (((y5.1 / (([1048576,65536,4096,256,16,1]:List Int).getD k 0)) % 16).toNat)))) (k+1) else ((((((([114,103,98,58]:List UInt8)++(s.take 2))++([47]:List UInt8))++((s.drop 2).take (4 - 2)))++([47]:List UInt8))++(s.drop 4)),0))
def K9 (c:Col):List UInt8×Int :=
 (bif (!decide ((I2 c)=0)) then (([]:List UInt8),130) else (B9 (A1j c) fun (y5:Int×Bool)=>(bif (!y5.2) then (([]:List UInt8),2) else O6 y5 ((6 - 0)+1) ([]:List UInt8) 0)))
theorem B0n (n:Int×Bool):∀ (fu:Nat) (s:List UInt8) (k:Nat),(O6 n fu s k).1.length≤3 * s.length+3 * fu+10
 | 0,s,k=>Nat.zero_le _
 | fu+1,s,k=>by
  have ih:=B0n n fu
  rw [O6]
  simp only [Bool.cond_eq_ite]
  split
  ·refine Nat.le_trans (ih _ _) ?_
   simp only [List.length_append,List.length_take,List.length_drop];omega
  ·simp only [List.length_append,List.length_take,List.length_drop,List.length_cons,List.length_nil];omega
theorem B3h (c:Col):(K9 c).1.length≤100:=by
 have h:=B0n (A1j c) ((6 - 0)+1) [] 0
 unfold K9 B9
 simp only [Bool.cond_eq_ite]
 repeat' split
 ·exact Nat.zero_le _
 ·exact Nat.zero_le _
 ·simp only [List.length_nil] at h;omega
theorem C7e (c:Col) (R:List UInt8×Int) (hR:K9 c=R):I4 Tryz.prog 132 [ag (M8 c)] [] (.tuple #[sv R.1,iv R.2]):=by
 refine zco Tryz.func132 [(0,ag (M8 c))] fun X hX hr hD=>?_
 replace hR:=(K9.eq_1 ..).symm.trans hR
 have hs16:D1g.length=16:=rfl
 refine sr 3 rfl (Q2 3 0 [] (fun b1=>[(1,pt b1 0)]) (fun b1=>[bx b1 (M8 c) 24]) (fun b1=>?_))
 refine ie (A8 (sr 3 rfl (zrl 1 2 [0] [(9,ag (M8 c))] ?_)))
 refine zca (B0w c _ rfl) fn0 ?_
 refine ip' 1 0 [(11,bv (!decide ((I2 c)=0)))] ?_
 refine ie ?_
 refine zjn rfl hR ?_ ?_<;>clear hR<;>intro hR h2 h2p
 ·refine sr 2 rfl (ip' 2 0 [(2,sv ([]:List UInt8)),(3,iv 130)] ?_)
  subst hR
  refine ie (A9 ?_)
  exact A0p hr hD
 refine A6 (nx (sr 7 rfl (zrl 1 6 [0] [(13,ag (M8 c))] ?_)))
 have hQ:=D6 hR;clear hR;obtain ⟨y5,hy5,hR⟩:=hQ
 refine zca (C9u c y5 hy5) fn0 ?_
 have:=C7p c;try rw [hy5] at this
 refine ip' 5 0 [(4,iv y5.1),(5,bv y5.2)] ?_
 refine ie (A8 (sr 2 rfl (ip' 2 0 [(18,bv (!y5.2))] ?_)))
 refine ie ?_
 refine zjb rfl hR ?_ ?_<;>clear hR<;>intro hR h3
 ·refine sr 2 rfl (ip' 2 0 [(2,sv ([]:List UInt8)),(3,iv 2)] ?_)
  subst hR
  refine ie (A9 ?_)
  exact A0p hr hD
 refine A6 (nx (sr 1 rfl (ip' 1 0 [(6,sv ([]:List UInt8))] ?_)))
 refine ie (A8 (sr 1 rfl (ip' 1 0 [(7,iv 0)] ?_)))
 refine ie (B3 (E3b (fun (fu:Nat) (s:List UInt8) (k:Nat)=>((6 - k)<fu∧O6 y5 fu s k=R∧s.length=k∧k≤6,[(4,iv y5.1),(6,sv s),(7,iv (k:Int))],[bx b1 (M8 c) 24],[],fu)) ((6 - 0)+1) ([]:List UInt8) 0 ⟨(Nat.lt_succ_self _),hR,(by rfl),(by omega)⟩ (mk [true] rfl) fn0 ?_))
 rintro fu s k ⟨hm4,hR,hs,hk⟩
 obtain ⟨fu1,rfl⟩:∃ m,fu=m+1:=⟨fu - 1,by omega⟩
 replace hR:=(O6.eq_2 ..).symm.trans hR
 have hdv:=dv6 k
 refine A8 (sr 2 rfl (ip' 2 0 [(20,bv (decide ((k:Int)<6)))] ?_))
 refine ie ?_
 refine zjd rfl hR ?_ ?_<;>clear hR<;>intro hR h5 h5p
 ·refine A6 (nx (A8 (B3 (sr 7 rfl (zrl 3 4 [] [(23,iv y5.1),(24,ag [iv 1048576,iv 65536,iv 4096,iv 256,iv 16,iv 1]),(25,iv (k:Int))] ?_)))))
  refine ix rfl (B6s (v:=iv (([1048576,65536,4096,256,16,1]:List Int).getD k 0)) (c:=F0) (xs:=([1048576,65536,4096,256,16,1]:List Int)) (d:=0) Tryz.underlying147 ty3 (fun _=>rfl) rfl rfl rfl rfl k rfl rfl (by first|omega|(refine Nat.le_trans (m:=16) (by omega) (by decide))) rfl rfl) ?_
  refine ix rfl (A8z (c:=(y5.1 / (([1048576,65536,4096,256,16,1]:List Int).getD k 0))) rfl rfl rfl (by omega) (by first|exact ⟨⟨by omega,by show _≤(9223372036854775807:Int);omega⟩,rfl⟩|exact ⟨by omega,rfl⟩|exact ⟨⟨Int.natCast_nonneg _,C2w _⟩,rfl⟩|exact ⟨Int.ediv_nonneg (by first|omega|exact Int.natCast_nonneg _) (by omega),rfl⟩)) ?_
  refine ix rfl (V3 (c:=((y5.1 / (([1048576,65536,4096,256,16,1]:List Int).getD k 0)) % 16)) rfl rfl rfl (by decide) (by first|exact ⟨⟨by omega,by show _≤(9223372036854775807:Int);omega⟩,rfl⟩|exact ⟨by omega,rfl⟩|exact ⟨⟨Int.natCast_nonneg _,C2w _⟩,rfl⟩|exact ⟨Int.ediv_nonneg (by first|omega|exact Int.natCast_nonneg _) (by omega),rfl⟩)) ?_
  refine ip' 1 0 [(8,iv ((y5.1 / (([1048576,65536,4096,256,16,1]:List Int).getD k 0)) % 16))] ?_
  refine ie (A2 7 rfl (ip' 3 4 [(29,sv s),(30,iv ((y5.1 / (([1048576,65536,4096,256,16,1]:List Int).getD k 0)) % 16)),(31,iv ((y5.1 / (([1048576,65536,4096,256,16,1]:List Int).getD k 0)) % 16))] ?_))
  refine ix rfl (B5 rfl rfl rfl rfl (by omega)) ?_
  refine ix rfl (B8d (T:=9) Tryz.underlying9 rfl rfl rfl rfl (((y5.1 / (([1048576,65536,4096,256,16,1]:List Int).getD k 0)) % 16).toNat) (by omega) (((y5.1 / (([1048576,65536,4096,256,16,1]:List Int).getD k 0)) % 16).toNat+1) (by omega) (by first|omega|(refine Nat.le_trans (m:=16) (by omega) (by decide))) (by first|omega|(refine Nat.le_trans (m:=16) (by omega) (by decide)))) ?_
  refine ix rfl (zst rfl rfl rfl) ?_
  refine ip' 1 0 [(6,sv (s++((D1g.drop (((y5.1 / (([1048576,65536,4096,256,16,1]:List Int).getD k 0)) % 16).toNat)).take ((((y5.1 / (([1048576,65536,4096,256,16,1]:List Int).getD k 0)) % 16).toNat+1) - (((y5.1 / (([1048576,65536,4096,256,16,1]:List Int).getD k 0)) % 16).toNat)))))] ?_
  refine A3 (nx (A2 3 rfl (ip' 1 2 [(21,iv (k:Int))] ?_)))
  refine ix rfl (B5 rfl rfl rfl rfl (by omega)) ?_
  refine ip' 1 0 [(7,iv ((k:Int)+1))] ?_
  refine A3 ?_
  exact E1l (z1:=(fu1+1)) (z2:=s) (z3:=k) fu1 (s++((D1g.drop (((y5.1 / (([1048576,65536,4096,256,16,1]:List Int).getD k 0)) % 16).toNat)).take ((((y5.1 / (([1048576,65536,4096,256,16,1]:List Int).getD k 0)) % 16).toNat+1) - (((y5.1 / (([1048576,65536,4096,256,16,1]:List Int).getD k 0)) % 16).toNat)))) (k+1) ⟨(by omega),hR,(by simp only [List.length_append,List.length_take,List.length_drop];omega),(by omega)⟩ (Nat.lt_succ_self _) (mk [true] rfl) fn0
 refine I3 (nx (sd 13 rfl (by kernel_rfl) rfl ?_))
 refine dp' 1 12 [(35,sv s)] ?_
 refine dd rfl (A7b (T:=9) Tryz.underlying9 rfl rfl rfl 2 rfl (by first|omega|(refine Nat.le_trans (m:=16) (by omega) (by decide)))) ?_
 have:=@List.length_take _ 2 s
 refine dd rfl (zst rfl rfl rfl) ?_
 refine dd rfl (zst rfl rfl rfl) ?_
 refine dp' 1 8 [(39,sv s)] ?_
 refine dd rfl (B8d (T:=9) Tryz.underlying9 rfl rfl rfl rfl 2 rfl 4 rfl (by first|omega|(refine Nat.le_trans (m:=16) (by omega) (by decide))) (by first|omega|(refine Nat.le_trans (m:=16) (by omega) (by decide)))) ?_
 have:=@List.length_drop _ 2 s
 have:=@List.length_take _ (4 - 2) (s.drop 2)
 refine dd rfl (zst rfl rfl rfl) ?_
 refine dd rfl (zst rfl rfl rfl) ?_
 refine dp' 1 4 [(43,sv s)] ?_
 refine dd rfl (B1c (T:=9) Tryz.underlying9 rfl rfl rfl 4 rfl (by first|omega|(refine Nat.le_trans (m:=16) (by omega) (by decide)))) ?_
 have:=@List.length_drop _ 4 s
 refine dd rfl (zst rfl rfl rfl) ?_
 refine dp' 2 0 [(2,sv (((((([114,103,98,58]:List UInt8)++(s.take 2))++([47]:List UInt8))++((s.drop 2).take (4 - 2)))++([47]:List UInt8))++(s.drop 4))),(3,iv 0)] ?_
 subst hR
 refine de (A9 ?_)
 exact A0p hr hD
def D5:Nat→Int→List UInt8
 | 0,_=>[]
 | fu+1,n=>(bif (decide (n<10)) then ([(by8 (IntKind.u8.wrap (IntKind.i64.wrap ((48:Int)+n))))]:List UInt8) else ((D5 fu (n / 10))++(D5 fu (n % 10))))
theorem Z2:∀ (fu:Nat) (n:Int),(D5 fu n).length≤n.toNat+1
 | 0,n=>by simp [D5]
 | fu+1,n=>by
  simp only [D5]
  cases h:decide (n<10) with
  | true=>simp
  | false =>
   have hn:¬ n<10:=of_decide_eq_false h
   have h1:=Z2 fu (n / 10)
   have h2:=Z2 fu (n % 10)
   simp only [cond_false,List.length_append]
   omega
theorem C3y:∀ (fu:Nat) (n:Int) (hn:n≤9223372036854775807) (hmu:n.toNat<fu) (R:List UInt8) (hR:D5 fu n=R),I4 Tryz.prog 133 [iv n] [] (sv R):=by
 intro fu
 induction fu with
 | zero=>intros;omega
 | succ fu ih =>
  intro n hn hmu R hR
  refine zco Tryz.func133 [(0,iv n)] fun X hX hr hD=>?_
  replace hR:=(D5.eq_2 ..).symm.trans hR
  refine sr 1 rfl (ip' 1 0 [] ?_)
  refine ie (A8 (sr 2 rfl (ip' 2 0 [(4,bv (decide (n<10)))] ?_)))
  refine ie ?_
  refine zjd rfl hR ?_ ?_<;>clear hR<;>intro hR h1 h1p
  ·refine sr 6 rfl (ip' 1 5 [(5,iv n)] ?_)
   refine ix rfl (G9.pure rfl) ?_
   refine ix rfl (J2 (v:=.int .u8 (IntKind.u8.wrap (IntKind.i64.wrap ((48:Int)+n)))) (G9.pure rfl) (A6o)) ?_
   refine it rfl (B6 (c:=cU8) (xs:=([(by8 (IntKind.u8.wrap (IntKind.i64.wrap ((48:Int)+n))))]:List UInt8)) A0v rfl rfl rfl (by kernel_rfl)) fun b2=>?_
   have:([(by8 (IntKind.u8.wrap (IntKind.i64.wrap ((48:Int)+n))))]:List UInt8).length=1:=rfl
   refine ix rfl (A4i Tryz.underlying9 Tryz.underlying30 rfl rfl (B1 0 rfl) rfl (by kernel_rfl)) ?_
   have:([(by8 (IntKind.u8.wrap (IntKind.i64.wrap ((48:Int)+n))))]:List UInt8).length=1:=rfl
   refine ip' 1 0 [(2,sv ([(by8 (IntKind.u8.wrap (IntKind.i64.wrap ((48:Int)+n))))]:List UInt8))] ?_
   subst hR
   refine ie (A9 ?_)
   exact F2 hr hD
  refine A6 (nx (sr 8 rfl (ip' 1 7 [(10,iv n)] ?_)))
  refine ix rfl (A8z (c:=(n / 10)) rfl rfl rfl (by decide) (by first|exact ⟨⟨by omega,by show _≤(9223372036854775807:Int);omega⟩,rfl⟩|exact ⟨by omega,rfl⟩)) ?_
  refine zca (ih (n / 10) (by first|omega|(simp<;>omega)) (by omega) _ rfl) fn0 ?_
  have:=Z2 fu (n / 10)
  refine ip' 1 4 [(13,iv n)] ?_
  refine ix rfl (V3 (c:=(n % 10)) rfl rfl rfl (by decide) (by first|exact ⟨⟨by omega,by show _≤(9223372036854775807:Int);omega⟩,rfl⟩|exact ⟨by omega,rfl⟩)) ?_
  refine zca (ih (n % 10) (by first|omega|(simp<;>omega)) (by omega) _ rfl) fn0 ?_
  have:=Z2 fu (n % 10)
  refine ix rfl (zst rfl rfl rfl) ?_
  have:=@List.length_append _ (D5 fu (n / 10)) (D5 fu (n % 10))
  refine ip' 1 0 [(2,sv ((D5 fu (n / 10))++(D5 fu (n % 10))))] ?_
  subst hR
  refine ie (A9 ?_)
  exact F2 hr hD
def Q0 (s:List UInt8) (out:List UInt8) (bit:Nat) (ag_ref07_Bare_l3:List UInt8→Nat→List UInt8):Nat→Int→Nat→List UInt8
 | 0,_,_=>[]
 | fu3+1,n,k=>(bif (decide ((k:Int)<((bit:Int)+6))) then (bif (decide (((k:Int) / 8)<(s.length:Int))) then Q0 s out bit ag_ref07_Bare_l3 fu3 ((2 * n)+((((s.getD (((k:Int) / 8).toNat) 0).toNat:Int) / (([128,64,32,16,8,4,2,1]:List Int).getD (((k:Int) % 8).toNat) 0)) % 2)) (k+1) else Q0 s out bit ag_ref07_Bare_l3 fu3 ((2 * n)+0) (k+1)) else ag_ref07_Bare_l3 (out++([(B0c.getD ((n).toNat) 0)]:List UInt8)) (bit+6))
def N2 (s:List UInt8):Nat→List UInt8→Nat→List UInt8
 | 0,_,_=>[]
 | fu1+1,out,bit=>(bif (decide ((bit:Int)<(8 * (s.length:Int)))) then Q0 s out bit (N2 s fu1) (((bit+6) - bit)+1) 0 bit else out)
def A1x (s:List UInt8):List UInt8 :=
 N2 s (((8 * (s.length:Int)) - (0:Int)).toNat+1) ([]:List UInt8) 0
theorem B0d (s out:List UInt8) (bit:Nat) (ag:List UInt8→Nat→List UInt8) (B:Nat) (hag:∀ o b,(ag o b).length≤o.length+B):∀ (fu:Nat) (n:Int) (k:Nat),(Q0 s out bit ag fu n k).length≤out.length+1+B
 | 0,n,k=>Nat.zero_le _
 | fu+1,n,k=>by
  have ih:=B0d s out bit ag B hag fu
  rw [Q0]
  simp only [Bool.cond_eq_ite]
  repeat' split
  ·exact ih _ _
  ·exact ih _ _
  ·refine Nat.le_trans (hag _ _) ?_
   simp only [List.length_append,List.length_cons,List.length_nil];omega
theorem B0g (s:List UInt8):∀ (fu:Nat) (out:List UInt8) (bit:Nat),(N2 s fu out bit).length≤out.length+fu
 | 0,out,bit=>Nat.zero_le _
 | fu+1,out,bit=>by
  rw [N2]
  simp only [Bool.cond_eq_ite]
  split
  ·have:=B0d s out bit (N2 s fu) fu (fun o b=>B0g s fu o b) (((bit+6) - bit)+1) 0 bit;omega
  ·omega
theorem B4j (s:List UInt8):(A1x s).length≤8 * s.length+1:=by
 have:=B0g s (((8 * (s.length:Int)) - (0:Int)).toNat+1) [] 0
 unfold A1x
 simp only [List.length_nil] at this
 omega
set_option maxHeartbeats 1000000 in
theorem C7r (s:List UInt8) (hs:s.length≤4096) (R:List UInt8) (hR:A1x s=R):I4 Tryz.prog 192 [sv s] [] (sv R):=by
 refine zco Tryz.func192 [(0,sv s)] fun X hX hr hD=>?_
 replace hR:=(A1x.eq_1 ..).symm.trans hR
 refine sr 1 rfl (ip' 1 0 [] ?_)
 refine ie (sr 1 rfl (ip' 1 0 [(3,.slice none 0 0)] ?_))
 refine ie (A8 (sr 1 rfl (ip' 1 0 [(4,iv 0)] ?_)))
 refine ie (B3 ?_)
 refine C1r (fun (fu:Nat) (out:List UInt8) (outr:VR) (bit:Nat)=>(((8 * (s.length:Int)) - (bit:Int)).toNat<fu∧N2 s fu out bit=R∧VOk 1 out.length outr∧out.length≤bit∧(bit:Int)≤8 * (s.length:Int)+5,[(0,sv s),(3,.slice (va outr.q) out.length outr.k),(4,iv (bit:Int))],((vo cU8 5 outr out)++([])),[],fu)) (((8 * (s.length:Int)) - (0:Int)).toNat+1) ([]:List UInt8) VR.nil 0 ⟨(Nat.lt_succ_self _),hR,VOk.nil,(by (simp<;>omega)),(by omega)⟩ (mc [vo cU8 5 VR.nil ([]:List UInt8)] [true] rfl (by first|rfl|(simp only [List.length_set]<;>rfl))) fn0 ?_
 rintro fu out outr bit ⟨hm1,hR,hokoutr,ho,hbit⟩
 have:=VOk.le hokoutr
 obtain ⟨fu1,rfl⟩:∃ m,fu=m+1:=⟨fu - 1,by omega⟩
 replace hR:=(N2.eq_2 ..).symm.trans hR
 refine A8 (sr 5 rfl (ip' 3 2 [(8,iv (bit:Int)),(10,iv (s.length:Int))] ?_))
 refine ix rfl (A6j rfl rfl rfl rfl (by omega)) ?_
 refine ip' 1 0 [(12,bv (decide ((bit:Int)<(8 * (s.length:Int)))))] ?_
 refine ie ?_
 refine zjd rfl hR ?_ ?_<;>clear hR<;>intro hR h2 h2p
 ·refine A6 (nx (A8 (B3 (sr 1 rfl (ip' 1 0 [(5,iv 0)] ?_)))))
  refine ie (A8 (sr 2 rfl (ip' 2 0 [(6,iv (bit:Int))] ?_)))
  refine ie (B3 ?_)
  refine E3b (fun (fu2:Nat) (n:Int) (k:Nat)=>(((bit+6) - k)<fu2∧Q0 s out bit (N2 s fu1) fu2 n k=R∧(bit≤k∧k≤bit+6)∧(0≤n∧n<64)∧b7I ((k:Int) - (bit:Int)) n,[(0,sv s),(3,.slice (va outr.q) out.length outr.k),(4,iv (bit:Int)),(5,iv n),(6,iv (k:Int))],((vo cU8 5 outr out)++([])),[],fu2)) (((bit+6) - bit)+1) 0 bit ⟨(Nat.lt_succ_self _),hR,(by omega),(by omega),(by exact E1p (by omega))⟩ (mc [vo cU8 5 outr out] [true] rfl (by first|rfl|(simp only [List.length_set]<;>rfl))) fn0 ?_
  rintro fu2 n k ⟨hm3,hR,hk,hn64,hb7⟩
  obtain ⟨fu3,rfl⟩:∃ m,fu2=m+1:=⟨fu2 - 1,by omega⟩
  replace hR:=(Q0.eq_2 ..).symm.trans hR
  have hdv:=dv8 ((k:Int) % 8).toNat (by omega)
  refine A8 (sr 4 rfl (ip' 2 2 [(16,iv (k:Int)),(17,iv (bit:Int))] ?_))
  refine ix rfl (B5 rfl rfl rfl rfl (by omega)) ?_
  refine ip' 1 0 [(19,bv (decide ((k:Int)<((bit:Int)+6))))] ?_
  refine ie ?_
  refine zjd rfl hR ?_ ?_<;>clear hR<;>intro hR h4 h4p
  ·refine A6 (nx (A8 (B3 (sr 1 rfl (ip' 1 0 [(7,iv 0)] ?_)))))
   refine ie (A8 (sr 5 rfl (ip' 1 4 [(22,iv (k:Int))] ?_)))
   refine ix rfl (A8z (c:=((k:Int) / 8)) rfl rfl rfl (by decide) (by first|exact ⟨⟨by omega,by show _≤(9223372036854775807:Int);omega⟩,rfl⟩|exact ⟨by omega,rfl⟩|exact ⟨⟨Int.natCast_nonneg _,C2w _⟩,rfl⟩|exact ⟨Int.ediv_nonneg (by first|omega|exact Int.natCast_nonneg _) (by omega),rfl⟩)) ?_
   refine ip' 3 0 [(26,bv (decide (((k:Int) / 8)<(s.length:Int))))] ?_
   refine ie ?_
   refine zjd rfl hR ?_ ?_<;>clear hR<;>intro hR h5 h5p
   ·refine D7r 12 rfl (by kernel_rfl) rfl ?_
    refine dp' 2 10 [(27,sv s),(28,iv (k:Int))] ?_
    refine dd rfl (A8z (c:=((k:Int) / 8)) rfl rfl rfl (by decide) (by first|exact ⟨⟨by omega,by show _≤(9223372036854775807:Int);omega⟩,rfl⟩|exact ⟨by omega,rfl⟩|exact ⟨⟨Int.natCast_nonneg _,C2w _⟩,rfl⟩|exact ⟨Int.ediv_nonneg (by first|omega|exact Int.natCast_nonneg _) (by omega),rfl⟩)) ?_
    refine dd rfl (A9e (T:=9) Tryz.underlying9 rfl rfl rfl (((k:Int) / 8).toNat) (by omega) (by first|omega|(refine Nat.lt_of_lt_of_le (m:=64) (by omega) (by decide)))) ?_
    refine dd rfl (N8 (c:=((s.getD (((k:Int) / 8).toNat) 0).toNat:Int)) Tryz.underlying3 (by kernel_rfl) rfl rfl (X3 (s.getD (((k:Int) / 8).toNat) 0))) ?_
    refine zdg 2 5 [] [(32,ag [iv 128,iv 64,iv 32,iv 16,iv 8,iv 4,iv 2,iv 1]),(33,iv (k:Int))] ?_
    refine dd rfl (V3 (c:=((k:Int) % 8)) rfl rfl rfl (by decide) (by first|exact ⟨⟨by omega,by show _≤(9223372036854775807:Int);omega⟩,rfl⟩|exact ⟨by omega,rfl⟩|exact ⟨⟨Int.natCast_nonneg _,C2w _⟩,rfl⟩|exact ⟨Int.ediv_nonneg (by first|omega|exact Int.natCast_nonneg _) (by omega),rfl⟩)) ?_
    refine dd rfl (B6s (v:=iv (([128,64,32,16,8,4,2,1]:List Int).getD (((k:Int) % 8).toNat) 0)) (c:=F0) (xs:=([128,64,32,16,8,4,2,1]:List Int)) (d:=0) Tryz.underlying249 ty3 (fun _=>rfl) rfl rfl rfl rfl (((k:Int) % 8).toNat) (by omega) rfl (by first|omega|(refine Nat.lt_of_lt_of_le (m:=64) (by omega) (by decide))) rfl rfl) ?_
    refine dd rfl (A8z (c:=(((s.getD (((k:Int) / 8).toNat) 0).toNat:Int) / (([128,64,32,16,8,4,2,1]:List Int).getD (((k:Int) % 8).toNat) 0))) rfl rfl rfl (by omega) (by first|exact ⟨⟨by omega,by show _≤(9223372036854775807:Int);omega⟩,rfl⟩|exact ⟨by omega,rfl⟩|exact ⟨⟨Int.natCast_nonneg _,C2w _⟩,rfl⟩|exact ⟨Int.ediv_nonneg (by first|omega|exact Int.natCast_nonneg _) (by omega),rfl⟩)) ?_
    refine dd rfl (V3 (c:=((((s.getD (((k:Int) / 8).toNat) 0).toNat:Int) / (([128,64,32,16,8,4,2,1]:List Int).getD (((k:Int) % 8).toNat) 0)) % 2)) rfl rfl rfl (by decide) (by first|exact ⟨⟨by omega,by show _≤(9223372036854775807:Int);omega⟩,rfl⟩|exact ⟨by omega,rfl⟩|exact ⟨⟨Int.natCast_nonneg _,C2w _⟩,rfl⟩|exact ⟨Int.ediv_nonneg (by first|omega|exact Int.natCast_nonneg _) (by omega),rfl⟩)) ?_
    refine dp' 1 0 [(7,iv ((((s.getD (((k:Int) / 8).toNat) 0).toNat:Int) / (([128,64,32,16,8,4,2,1]:List Int).getD (((k:Int) % 8).toNat) 0)) % 2))] ?_
    refine C2l (nx (A2 5 rfl (ip' 1 4 [(38,iv n)] ?_)))
    refine ix rfl (A6j rfl rfl rfl rfl (by omega)) ?_
    refine ip' 1 2 [(40,iv ((((s.getD (((k:Int) / 8).toNat) 0).toNat:Int) / (([128,64,32,16,8,4,2,1]:List Int).getD (((k:Int) % 8).toNat) 0)) % 2))] ?_
    refine ix rfl (B5 rfl rfl rfl rfl (by omega)) ?_
    refine ip' 1 0 [(5,iv ((2 * n)+((((s.getD (((k:Int) / 8).toNat) 0).toNat:Int) / (([128,64,32,16,8,4,2,1]:List Int).getD (((k:Int) % 8).toNat) 0)) % 2)))] ?_
    refine A3 (nx (A2 3 rfl (ip' 1 2 [(20,iv (k:Int))] ?_)))
    refine ix rfl (B5 rfl rfl rfl rfl (by omega)) ?_
    refine ip' 1 0 [(6,iv ((k:Int)+1))] ?_
    refine A3 ?_
    exact E1l (z1:=(fu3+1)) (z2:=n) (z3:=k) fu3 ((2 * n)+((((s.getD (((k:Int) / 8).toNat) 0).toNat:Int) / (([128,64,32,16,8,4,2,1]:List Int).getD (((k:Int) % 8).toNat) 0)) % 2)) (k+1) ⟨(by omega),hR,(by omega),(by first|exact D4e (B7i hb7 (by omega) ⟨by omega,by omega⟩)|(have q:=D4e (B7i hb7 (by omega) (x:=0) ⟨by omega,by omega⟩);exact q)),(by first|exact B6u hb7 (by omega) ⟨by omega,by omega⟩ (by omega)|exact B6u (x:=0) hb7 (by omega) ⟨by omega,by omega⟩ (by omega))⟩ (Nat.lt_succ_self _) (mc [vo cU8 5 outr out] [true] rfl (by first|rfl|(simp only [List.length_set]<;>rfl))) fn0
   refine A6 (nx (A2 5 rfl (ip' 1 4 [(38,iv n)] ?_)))
   refine ix rfl (A6j rfl rfl rfl rfl (by omega)) ?_
   refine ip' 1 2 [(40,iv 0)] ?_
   refine ix rfl (B5 rfl rfl rfl rfl (by omega)) ?_
   refine ip' 1 0 [(5,iv ((2 * n)+0))] ?_
   refine A3 (nx (A2 3 rfl (ip' 1 2 [(20,iv (k:Int))] ?_)))
   refine ix rfl (B5 rfl rfl rfl rfl (by omega)) ?_
   refine ip' 1 0 [(6,iv ((k:Int)+1))] ?_
   refine A3 ?_
   exact E1l (z1:=(fu3+1)) (z2:=n) (z3:=k) fu3 ((2 * n)+0) (k+1) ⟨(by omega),hR,(by omega),(by first|exact D4e (B7i hb7 (by omega) ⟨by omega,by omega⟩)|(have q:=D4e (B7i hb7 (by omega) (x:=0) ⟨by omega,by omega⟩);exact q)),(by first|exact B6u hb7 (by omega) ⟨by omega,by omega⟩ (by omega)|exact B6u (x:=0) hb7 (by omega) ⟨by omega,by omega⟩ (by omega))⟩ (Nat.lt_succ_self _) (mc [vo cU8 5 outr out] [true] rfl (by first|rfl|(simp only [List.length_set]<;>rfl))) fn0
  refine I3 (nx (A2 6 rfl (ip' 2 4 [(42,.slice (va outr.q) out.length outr.k),(43,iv n)] ?_)))
  refine ix rfl (A9e (T:=9) Tryz.underlying9 rfl rfl rfl ((n).toNat) (by omega) (by first|omega|(refine Nat.lt_of_lt_of_le (m:=64) (by omega) (by decide)))) ?_
  refine it rfl (B6 (c:=cU8) (xs:=([(B0c.getD ((n).toNat) 0)]:List UInt8)) A0v rfl rfl rfl (by kernel_rfl)) fun b6=>?_
  have:([(B0c.getD ((n).toNat) 0)]:List UInt8).length=1:=rfl
  refine it rfl (A7d (f:=cU8) (r:=outr) (xs:=out) (ys:=([(B0c.getD ((n).toNat) 0)]:List UInt8)) (pre:=[]) (post:=[]) B2w (fun _=>rfl) (fun _=>rfl) rfl rfl rfl rfl rfl rfl rfl rfl rfl (B1 0 rfl) hokoutr (by first|omega|(simp<;>omega)) (by first|omega|(simp<;>omega))) fun ⟨r7,hr8⟩=>?_
  have:=VOk.le hr8
  have:=VOk.cap hr8
  refine ip' 1 0 [(3,.slice (va r7.q) ((out++([(B0c.getD ((n).toNat) 0)]:List UInt8)).length) r7.k)] ?_
  refine A3 (nx (A2 3 rfl (ip' 1 2 [(13,iv (bit:Int))] ?_)))
  refine ix rfl (B5 rfl rfl rfl rfl (by omega)) ?_
  refine ip' 1 0 [(4,iv ((bit:Int)+6))] ?_
  refine A3 ?_
  exact B5q (z1:=(fu1+1)) (z2:=out) (z3:=outr) (z4:=bit) fu1 (out++([(B0c.getD ((n).toNat) 0)]:List UInt8)) r7 (bit+6) ⟨(by omega),hR,hr8,(by (simp<;>omega)),(by omega)⟩ (Nat.lt_succ_self _) (mc [vo cU8 5 r7 (out++([(B0c.getD ((n).toNat) 0)]:List UInt8))] [true] rfl (by first|rfl|(simp only [List.length_set]<;>rfl))) fn0
 refine I3 (nx (sr 3 rfl (ip' 1 2 [(47,.slice (va outr.q) out.length outr.k)] ?_)))
 refine ix rfl (C0m (r:=outr) (pre:=[]) (post:=[]) Tryz.underlying9 Tryz.underlying30 rfl rfl rfl hokoutr (by kernel_rfl)) ?_
 refine ip' 1 0 [(2,sv out)] ?_
 subst hR
 refine ie (A9 ?_)
 exact F2 hr hD
def O1:Nat→List UInt8→(List UInt8×Int)
 | 0,_=>([],0)
 | fu1+1,t=>(bif (!decide (((t.length:Int) % 4)=0)) then O1 fu1 (t++([61]:List UInt8)) else (t,0))
def A0t (s:List UInt8):List UInt8×Int :=
 (bif (decide ((4096:Int)<(s.length:Int))) then (([]:List UInt8),3) else (B9 (A1x s) fun (y14:List UInt8)=>O1 (((4 - y14.length % 4) % 4)+1) y14))
theorem A7u:∀ (fu:Nat) (t:List UInt8),(O1 fu t).1.length≤t.length+fu
 | 0,t=>Nat.zero_le _
 | fu+1,t=>by
  have ih:=A7u fu (t++[61])
  rw [O1]
  simp only [Bool.cond_eq_ite]
  split
  ·simp only [List.length_append,List.length_cons,List.length_nil] at ih;omega
  ·show t.length≤_;omega
theorem B1f (s:List UInt8):(A0t s).1.length≤33000:=by
 unfold A0t B9
 simp only [Bool.cond_eq_ite,decide_eq_true_eq]
 split
 ·exact Nat.zero_le _
 ·have h1:=B4j s
  have h2:=A7u (((4 - (A1x s).length % 4) % 4)+1) (A1x s)
  omega
theorem C3c (s:List UInt8) (R:List UInt8×Int) (hR:A0t s=R):I4 Tryz.prog 134 [sv s] [] (.tuple #[sv R.1,iv R.2]):=by
 refine zco Tryz.func134 [(0,sv s)] fun X hX hr hD=>?_
 replace hR:=(A0t.eq_1 ..).symm.trans hR
 refine sr 2 rfl (ip' 2 0 [] ?_)
 refine ie (A8 (sr 3 rfl (ip' 3 0 [(7,bv (decide ((4096:Int)<(s.length:Int))))] ?_)))
 refine ie ?_
 refine zjd rfl hR ?_ ?_<;>clear hR<;>intro hR h1 h1p
 ·refine sr 2 rfl (ip' 2 0 [(2,sv ([]:List UInt8)),(3,iv 3)] ?_)
  subst hR
  refine ie (A9 ?_)
  exact A0p hr hD
 refine A6 (nx (sr 3 rfl (ip' 1 2 [(8,sv s)] ?_)))
 have hQ:=D6 hR;clear hR;obtain ⟨y14,hy14,hR⟩:=hQ
 refine zca (C7r s (by omega) y14 hy14) fn0 ?_
 have:=B4j s;try rw [hy14] at this
 refine ip' 1 0 [(4,sv y14)] ?_
 refine ie (A8 (B3 (D2k (fun (fu:Nat) (t:List UInt8)=>(((4 - t.length % 4) % 4)<fu∧O1 fu t=R∧t.length+(4 - t.length % 4) % 4≤33000,[(4,sv t)],[],[],fu)) (((4 - y14.length % 4) % 4)+1) y14 ⟨(Nat.lt_succ_self _),hR,(by omega)⟩ (mk [] rfl) fn0 ?_)))
 rintro fu t ⟨hm2,hR,ht⟩
 obtain ⟨fu1,rfl⟩:∃ m,fu=m+1:=⟨fu - 1,by omega⟩
 replace hR:=(O1.eq_2 ..).symm.trans hR
 refine A8 (sr 4 rfl (ip' 2 2 [(11,iv (t.length:Int))] ?_))
 refine ix rfl (V3 (c:=((t.length:Int) % 4)) rfl rfl rfl (by decide) (by exact ⟨by omega,rfl⟩)) ?_
 refine ip' 1 0 [(13,bv (!decide (((t.length:Int) % 4)=0)))] ?_
 refine ie ?_
 refine zjn rfl hR ?_ ?_<;>clear hR<;>intro hR h3 h3p
 ·refine A6 (nx (B3 (A2 3 rfl (ip' 1 2 [(14,sv t)] ?_))))
  refine ix rfl (zst rfl rfl rfl) ?_
  refine ip' 1 0 [(4,sv (t++([61]:List UInt8)))] ?_
  refine A3 ?_
  have hal:(t++([61]:List UInt8)).length=t.length+1:=by simp
  exact D3r (z1:=(fu1+1)) (z2:=t) fu1 (t++([61]:List UInt8)) ⟨(by omega),hR,(by (simp<;>omega))⟩ (Nat.lt_succ_self _) (mk [] rfl) fn0
 refine I3 (nx (sr 3 rfl (ip' 3 0 [(2,sv t),(3,iv 0)] ?_)))
 subst hR
 refine ie (A9 ?_)
 exact A0p hr hD
def D8 (a:Act):List UInt8×Int :=
 (bif ((decide (a={Act.zero with kind:=44,text:=a.text}))&&(O7 a.text)) then ((([50,59]:List UInt8)++a.text),0) else (bif ((((decide (a={Act.zero with kind:=45,n:=a.n,color:=a.color}))&&(decide ((0:Int)≤a.n)))&&(decide (a.n≤255)))&&(decide (a.color.kind=2))) then (B9 (K9 a.color) fun (y11:List UInt8×Int)=>(bif (decide (y11.2=0)) then ((((([52,59]:List UInt8)++(D5 (a.n.toNat+1) a.n))++([59]:List UInt8))++y11.1),0) else (([]:List UInt8),2))) else (bif ((decide (a={Act.zero with kind:=46,text:=a.text}))&&(decide ((a.text.length:Int)≤378))) then (B9 (A0t a.text) fun (y16:List UInt8×Int)=>((([53,50,59,99,59]:List UInt8)++y16.1),0)) else (([]:List UInt8),2))))
theorem C0x (a:Act):(D8 a).1.length≤a.text.length+40000:=by
 have h1:=B3h a.color
 have h2:=B1f a.text
 have h3:=Z2 (a.n.toNat+1) a.n
 unfold D8 B9
 simp only [Bool.cond_eq_ite]
 repeat' split
 all_goals try simp only [Bool.and_eq_true,decide_eq_true_eq] at *
 all_goals first|omega|(simp<;>omega)
theorem C4z (a:Act) (R:List UInt8×Int) (hR:D8 a=R):I4 Tryz.prog 91 [ag (A4 a)] [] (.tuple #[sv R.1,iv R.2]):=by
 refine zco Tryz.func91 [(0,ag (A4 a))] fun X hX hr hD=>?_
 replace hR:=(D8.eq_1 ..).symm.trans hR
 refine sr 3 rfl (Q2 3 0 [] (fun b1=>[(1,pt b1 0)]) (fun b1=>[bx b1 (A4 a) 26]) (fun b1=>?_))
 refine ie (A8 (B3 (sr 11 rfl (zrl 4 7 [0,0] [(9,ag (A4 a)),(12,ag (A4 ({Act.zero with kind:=44,text:=a.text})))] ?_))))
 refine ix rfl (A8e (a:=a) (b:={Act.zero with kind:=44,text:=a.text}) C6w rfl rfl rfl) ?_
 refine ip' 1 5 [(14,bv (decide (a={Act.zero with kind:=44,text:=a.text})))] ?_
 refine zid 4 1 14 18 (O7 a.text) (fun g2 g2p=>?_) ?_
 ·refine zrl 2 2 [0] [(16,sv a.text)] ?_
  refine zca (C5b a.text _ rfl) fn0 ?_
  refine ip' 1 0 [(18,bv (O7 a.text))] ?_
  exact A3 (L6 4 14 18 g2 fn0 (mk [true] rfl) rfl rfl rfl rfl rfl)
 refine ip' 1 0 [(8,bv ((decide (a={Act.zero with kind:=44,text:=a.text}))&&(O7 a.text)))] ?_
 refine ie ?_
 refine zjb rfl hR ?_ ?_<;>clear hR<;>intro hR h3
 ·have h3p:=h3;try simp at h3p
  have hti:=C2d a.text (by have q:=h3;rw [Bool.and_eq_true] at q;exact q.2)
  refine sr 5 rfl (zrl 2 3 [0] [(20,sv a.text)] ?_)
  refine ix rfl (zst rfl rfl rfl) ?_
  refine ip' 2 0 [(2,sv (([50,59]:List UInt8)++a.text)),(3,iv 0)] ?_
  subst hR
  refine ie (A9 ?_)
  exact A0p hr hD
 have h3p:=h3;try simp at h3p
 refine sr 24 rfl (zrl 6 18 [0,0,0] [(23,ag (A4 a)),(28,ag (A4 ({Act.zero with kind:=45,n:=a.n,color:=a.color})))] ?_)
 refine ix rfl (A8e (a:=a) (b:={Act.zero with kind:=45,n:=a.n,color:=a.color}) C6w rfl rfl rfl) ?_
 refine ip' 1 16 [(30,bv (decide (a={Act.zero with kind:=45,n:=a.n,color:=a.color})))] ?_
 refine zid 4 12 30 34 (decide ((0:Int)≤a.n)) (fun g4 g4p=>?_) ?_
 ·refine zrl 4 0 [0] [(34,bv (decide ((0:Int)≤a.n)))] ?_
  exact A3 (L6 2 30 34 g4 fn0 (mk [true] rfl) rfl rfl rfl rfl rfl)
 refine ip' 1 11 [(35,bv ((decide (a={Act.zero with kind:=45,n:=a.n,color:=a.color}))&&(decide ((0:Int)≤a.n))))] ?_
 refine zia 4 7 35 39 (decide (a.n≤255)) (fun g5=>?_) ?_
 ·have g5p:(a={Act.zero with kind:=45,n:=a.n,color:=a.color})∧((0:Int)≤a.n):=by simpa using g5
  refine zrl 4 0 [0] [(39,bv (decide (a.n≤255)))] ?_
  exact A3 (L6 2 35 39 g5 fn0 (mk [true] rfl) rfl rfl rfl rfl rfl)
 refine ip' 1 6 [(40,bv (((decide (a={Act.zero with kind:=45,n:=a.n,color:=a.color}))&&(decide ((0:Int)≤a.n)))&&(decide (a.n≤255))))] ?_
 refine zia 5 1 40 45 (decide (a.color.kind=2)) (fun g6=>?_) ?_
 ·have g6p:((a={Act.zero with kind:=45,n:=a.n,color:=a.color})∧((0:Int)≤a.n))∧(a.n≤255):=by simpa using g6
  refine zrl 5 0 [0] [(45,bv (decide (a.color.kind=2)))] ?_
  exact A3 (L6 2 40 45 g6 fn0 (mk [true] rfl) rfl rfl rfl rfl rfl)
 refine ip' 1 0 [(22,bv ((((decide (a={Act.zero with kind:=45,n:=a.n,color:=a.color}))&&(decide ((0:Int)≤a.n)))&&(decide (a.n≤255)))&&(decide (a.color.kind=2))))] ?_
 refine ie ?_
 refine zjb rfl hR ?_ ?_<;>clear hR<;>intro hR h7
 ·have h7p:(((a={Act.zero with kind:=45,n:=a.n,color:=a.color})∧((0:Int)≤a.n))∧(a.n≤255))∧(a.color.kind=2):=by simpa using h7
  refine sr 8 rfl (zrl 2 6 [0] [(48,ag (M8 a.color))] ?_)
  have hQ:=D6 hR;clear hR;obtain ⟨y11,hy11,hR⟩:=hQ
  refine zca (C7e a.color y11 hy11) fn0 ?_
  have:=B3h a.color;try rw [hy11] at this
  refine ip' 5 0 [(4,sv y11.1),(5,iv y11.2)] ?_
  refine ie (sr 2 rfl (ip' 2 0 [(53,bv (decide (y11.2=0)))] ?_))
  refine ie ?_
  refine zjd rfl hR ?_ ?_<;>clear hR<;>intro hR h8 h8p
  ·refine sr 9 rfl (zrl 2 7 [0] [(55,iv a.n)] ?_)
   refine zca (C3y (a.n.toNat+1) a.n (by first|omega|(simp<;>omega)) (Nat.lt_succ_self _) _ rfl) fn0 ?_
   have:=Z2 (a.n.toNat+1) a.n
   refine ix rfl (zst rfl rfl rfl) ?_
   refine ix rfl (zst rfl rfl rfl) ?_
   refine ip' 1 3 [(59,sv y11.1)] ?_
   refine ix rfl (zst rfl rfl rfl) ?_
   refine ip' 2 0 [(2,sv (((([52,59]:List UInt8)++(D5 (a.n.toNat+1) a.n))++([59]:List UInt8))++y11.1)),(3,iv 0)] ?_
   subst hR
   refine ie (A9 ?_)
   exact A0p hr hD
  refine A6 (nx (sr 2 rfl (ip' 2 0 [(2,sv ([]:List UInt8)),(3,iv 2)] ?_)))
  subst hR
  refine ie (A9 ?_)
  exact A0p hr hD
 have h7p:¬ ((((a={Act.zero with kind:=45,n:=a.n,color:=a.color})∧((0:Int)≤a.n))∧(a.n≤255))∧(a.color.kind=2)):=by simpa using h7
 refine sr 12 rfl (zrl 4 8 [0,0] [(62,ag (A4 a)),(65,ag (A4 ({Act.zero with kind:=46,text:=a.text})))] ?_)
 refine ix rfl (A8e (a:=a) (b:={Act.zero with kind:=46,text:=a.text}) C6w rfl rfl rfl) ?_
 refine ip' 1 6 [(67,bv (decide (a={Act.zero with kind:=46,text:=a.text})))] ?_
 refine zid 5 1 67 72 (decide ((a.text.length:Int)≤378)) (fun g9 g9p=>?_) ?_
 ·refine zrl 5 0 [0] [(72,bv (decide ((a.text.length:Int)≤378)))] ?_
  exact A3 (L6 2 67 72 g9 fn0 (mk [true] rfl) rfl rfl rfl rfl rfl)
 refine ip' 1 0 [(61,bv ((decide (a={Act.zero with kind:=46,text:=a.text}))&&(decide ((a.text.length:Int)≤378))))] ?_
 refine ie ?_
 refine zja rfl hR ?_ ?_<;>clear hR<;>intro hR h10 h10p
 ·refine sr 8 rfl (zrl 2 6 [0] [(75,sv a.text)] ?_)
  have hQ:=D6 hR;clear hR;obtain ⟨y16,hy16,hR⟩:=hQ
  refine zca (C3c a.text y16 hy16) fn0 ?_
  have:=B1f a.text;try rw [hy16] at this
  refine ip' 5 0 [(6,sv y16.1)] ?_
  refine ie (sr 4 rfl (ip' 1 3 [(79,sv y16.1)] ?_))
  refine ix rfl (zst rfl rfl rfl) ?_
  refine ip' 2 0 [(2,sv (([53,50,59,99,59]:List UInt8)++y16.1)),(3,iv 0)] ?_
  subst hR
  refine ie (A9 ?_)
  exact A0p hr hD
 refine A6 (nx (sr 2 rfl (ip' 2 0 [(2,sv ([]:List UInt8)),(3,iv 2)] ?_)))
 subst hR
 refine ie (A9 ?_)
 exact A0p hr hD
def A6e:List Ar2 :=
 ([(⟨768,879⟩:Ar2),(⟨1155,1161⟩:Ar2),(⟨1425,1469⟩:Ar2),(⟨1552,1562⟩:Ar2),(⟨1611,1631⟩:Ar2),(⟨6832,6911⟩:Ar2),(⟨7616,7679⟩:Ar2),(⟨8203,8207⟩:Ar2),(⟨8400,8447⟩:Ar2),(⟨65024,65039⟩:Ar2),(⟨65056,65071⟩:Ar2)]:List Ar2)
theorem C8w (R:List Ar2) (hR:A6e=R):Con Tryz.prog 194 [] [] [] ({t:Option Addr×Nat // R.length≤t.2∧R.length≤9223372036854775807}) (fun x=>.slice x.1.1 R.length x.1.2) (fun x=>[]) (fun x=>[sl A1f x.1.1 R]):=by
 refine zco Tryz.func194 [] fun X hX hr hD=>?_
 replace hR:=(A6e.eq_1 ..).symm.trans hR
 refine sr 1 rfl (ip' 1 0 [] ?_)
 refine ie (sr 13 rfl (zrl 11 2 [] [(1,ag (A1f (⟨768,879⟩:Ar2))),(2,ag (A1f (⟨1155,1161⟩:Ar2))),(3,ag (A1f (⟨1425,1469⟩:Ar2))),(4,ag (A1f (⟨1552,1562⟩:Ar2))),(5,ag (A1f (⟨1611,1631⟩:Ar2))),(6,ag (A1f (⟨6832,6911⟩:Ar2))),(7,ag (A1f (⟨7616,7679⟩:Ar2))),(8,ag (A1f (⟨8203,8207⟩:Ar2))),(9,ag (A1f (⟨8400,8447⟩:Ar2))),(10,ag (A1f (⟨65024,65039⟩:Ar2))),(11,ag (A1f (⟨65056,65071⟩:Ar2)))] ?_))
 refine it rfl (B6 (c:=A1f) (xs:=([(⟨768,879⟩:Ar2),(⟨1155,1161⟩:Ar2),(⟨1425,1469⟩:Ar2),(⟨1552,1562⟩:Ar2),(⟨1611,1631⟩:Ar2),(⟨6832,6911⟩:Ar2),(⟨7616,7679⟩:Ar2),(⟨8203,8207⟩:Ar2),(⟨8400,8447⟩:Ar2),(⟨65024,65039⟩:Ar2),(⟨65056,65071⟩:Ar2)]:List Ar2)) C7f rfl rfl rfl (by kernel_rfl)) fun b1=>?_
 have:([(⟨768,879⟩:Ar2),(⟨1155,1161⟩:Ar2),(⟨1425,1469⟩:Ar2),(⟨1552,1562⟩:Ar2),(⟨1611,1631⟩:Ar2),(⟨6832,6911⟩:Ar2),(⟨7616,7679⟩:Ar2),(⟨8203,8207⟩:Ar2),(⟨8400,8447⟩:Ar2),(⟨65024,65039⟩:Ar2),(⟨65056,65071⟩:Ar2)]:List Ar2).length=11:=rfl
 refine ip' 1 0 [(0,.slice (some ⟨b1,0,none⟩) 11 11)] ?_
 subst hR
 refine ie (A9 ?_)
 exact zer hr hD (N4 rfl (C1 rfl)) (zq (some ⟨b1,0,none⟩) 11) (mk [] rfl) (A1.con1 (B1 0 rfl) fn0)
def A2u (cp:Int):List Ar2→Nat→Bool
 | [],i=>false
 | hd_l0::tl_l0,i=>(bif ((decide (hd_l0.a≤cp))&&(decide (cp≤hd_l0.b))) then true else A2u cp tl_l0 (i+1))
def A1z (l:List Ar2) (cp:Int):Bool :=
 A2u cp l 0
theorem C2h (l:List Ar2) (cp:Int) (lq:Option Addr) (lk:Nat) (hll:l.length≤9223372036854775807) (hcl:l.length≤lk) (R:Bool) (hR:A1z l cp=R):I4 Tryz.prog 193 [.slice lq l.length lk,iv cp] [sl A1f lq l] (bv R):=by
 refine zco Tryz.func193 [(0,.slice lq l.length lk),(1,iv cp)] fun X hX hr hD=>?_
 replace hR:=(A1z.eq_1 ..).symm.trans hR
 refine sr 1 rfl (ip' 1 0 [] ?_)
 refine ie (A8 (sr 1 rfl (ip' 1 0 [(5,iv 0)] ?_)))
 refine ie (B3 (C9p (fun (i:Nat)=>(i≤l.length∧A2u cp (l.drop i) i=R,[(0,.slice lq l.length lk),(1,iv cp),(5,iv (i:Int))],[],[sl A1f lq l],l.length - i)) 0 ⟨(by omega),hR⟩ (mk [] rfl) A1.refl ?_))
 rintro i ⟨hm1,hR⟩
 refine A8 (sr 4 rfl (ip' 4 0 [(9,bv (decide ((i:Int)<(l.length:Int))))] ?_))
 refine ie (A1s rfl (fun h2=>?_) (fun h2=>?_))
 ·have h2p:(i:Int)<(l.length:Int):=by simpa using h2
  rw [A4t Ar2.zero (show i<l.length by omega)] at hR;replace hR:=(A2u.eq_2 ..).symm.trans hR
  refine A6 (nx (A8 (B3 (sr 16 rfl (ip' 3 13 [(12,iv cp),(13,.slice lq l.length lk),(14,iv (i:Int))] ?_)))))
  refine R8 0 rfl (by omega) fun a3 hq4=>?_
  refine ix rfl (M4 C7f rfl rfl hq4 rfl i rfl (by omega)) ?_
  refine ix rfl (A9p Tryz.underlying71 ty3 rfl rfl rfl 0 rfl (by decide)) ?_
  refine ix rfl (F5 (v:=iv ((l.getD i Ar2.zero).a)) (us:=[iv ((l.getD i Ar2.zero).a)]) ty3 rfl rfl (C1x (O2 (c:=A1f) (sz:=2) hq4 (fun _=>rfl) 0 rfl (gd Ar2.zero (by omega))) (ws:=[iv ((l.getD i Ar2.zero).a)]) 0 1 rfl) rfl) ?_
  refine ip' 2 8 [(19,bv (decide ((l.getD i Ar2.zero).a≤cp)))] ?_
  refine zid 8 0 19 27 (decide (cp≤(l.getD i Ar2.zero).b)) (fun g5 g5p=>?_) ?_
  ·refine ip' 3 5 [(20,iv cp),(21,.slice lq l.length lk),(22,iv (i:Int))] ?_
   refine ix rfl (M4 C7f rfl rfl hq4 rfl i rfl (by omega)) ?_
   refine ix rfl (A9p Tryz.underlying71 ty3 rfl rfl rfl 1 rfl (by decide)) ?_
   refine ix rfl (F5 (v:=iv ((l.getD i Ar2.zero).b)) (us:=[iv ((l.getD i Ar2.zero).b)]) ty3 rfl rfl (C1x (O2 (c:=A1f) (sz:=2) hq4 (fun _=>rfl) 0 rfl (gd Ar2.zero (by omega))) (ws:=[iv ((l.getD i Ar2.zero).b)]) 1 1 rfl) rfl) ?_
   refine ip' 2 0 [(27,bv (decide (cp≤(l.getD i Ar2.zero).b)))] ?_
   exact zai 8 19 27 g5
  refine ie ?_
  refine zja rfl hR ?_ ?_<;>clear hR<;>intro hR h6 h6p
  ·refine sr 1 rfl (ip' 1 0 [(4,bv true)] ?_)
   subst hR
   refine ie (A9 ?_)
   exact F2 hr hD
  refine A6 (nx (A2 3 rfl (ip' 1 2 [(10,iv (i:Int))] ?_)))
  refine ix rfl (B5 rfl rfl rfl rfl (by omega)) ?_
  refine ip' 1 0 [(5,iv ((i:Int)+1))] ?_
  refine A3 ?_
  exact D0n (z1:=i) (i+1) ⟨(by omega),hR⟩ (by (try dsimp only);omega) (mk [] rfl) A1.refl
 have h2p:¬ ((i:Int)<(l.length:Int)):=by simpa using h2
 rw [A4u h2p] at hR;replace hR:=(A2u.eq_1 ..).symm.trans hR
 refine I3 (nx (sr 1 rfl (ip' 1 0 [(4,bv false)] ?_)))
 subst hR
 refine ie (A9 ?_)
 exact F2 hr hD
def A6l:List Ar2 :=
 ([(⟨4352,4447⟩:Ar2),(⟨11904,12350⟩:Ar2),(⟨12353,13311⟩:Ar2),(⟨13312,19903⟩:Ar2),(⟨19968,40959⟩:Ar2),(⟨40960,42191⟩:Ar2),(⟨44032,55203⟩:Ar2),(⟨63744,64255⟩:Ar2),(⟨65072,65135⟩:Ar2),(⟨65280,65376⟩:Ar2),(⟨65504,65510⟩:Ar2),(⟨127744,128591⟩:Ar2),(⟨128640,128767⟩:Ar2),(⟨129280,129535⟩:Ar2),(⟨131072,262141⟩:Ar2)]:List Ar2)
theorem D1j (R:List Ar2) (hR:A6l=R):Con Tryz.prog 195 [] [] [] ({t:Option Addr×Nat // R.length≤t.2∧R.length≤9223372036854775807}) (fun x=>.slice x.1.1 R.length x.1.2) (fun x=>[]) (fun x=>[sl A1f x.1.1 R]):=by
 refine zco Tryz.func195 [] fun X hX hr hD=>?_
 replace hR:=(A6l.eq_1 ..).symm.trans hR
 refine sr 1 rfl (ip' 1 0 [] ?_)
 refine ie (sr 17 rfl (zrl 15 2 [] [(1,ag (A1f (⟨4352,4447⟩:Ar2))),(2,ag (A1f (⟨11904,12350⟩:Ar2))),(3,ag (A1f (⟨12353,13311⟩:Ar2))),(4,ag (A1f (⟨13312,19903⟩:Ar2))),(5,ag (A1f (⟨19968,40959⟩:Ar2))),(6,ag (A1f (⟨40960,42191⟩:Ar2))),(7,ag (A1f (⟨44032,55203⟩:Ar2))),(8,ag (A1f (⟨63744,64255⟩:Ar2))),(9,ag (A1f (⟨65072,65135⟩:Ar2))),(10,ag (A1f (⟨65280,65376⟩:Ar2))),(11,ag (A1f (⟨65504,65510⟩:Ar2))),(12,ag (A1f (⟨127744,128591⟩:Ar2))),(13,ag (A1f (⟨128640,128767⟩:Ar2))),(14,ag (A1f (⟨129280,129535⟩:Ar2))),(15,ag (A1f (⟨131072,262141⟩:Ar2)))] ?_))
 refine it rfl (B6 (c:=A1f) (xs:=([(⟨4352,4447⟩:Ar2),(⟨11904,12350⟩:Ar2),(⟨12353,13311⟩:Ar2),(⟨13312,19903⟩:Ar2),(⟨19968,40959⟩:Ar2),(⟨40960,42191⟩:Ar2),(⟨44032,55203⟩:Ar2),(⟨63744,64255⟩:Ar2),(⟨65072,65135⟩:Ar2),(⟨65280,65376⟩:Ar2),(⟨65504,65510⟩:Ar2),(⟨127744,128591⟩:Ar2),(⟨128640,128767⟩:Ar2),(⟨129280,129535⟩:Ar2),(⟨131072,262141⟩:Ar2)]:List Ar2)) C7f rfl rfl rfl (by kernel_rfl)) fun b1=>?_
 have:([(⟨4352,4447⟩:Ar2),(⟨11904,12350⟩:Ar2),(⟨12353,13311⟩:Ar2),(⟨13312,19903⟩:Ar2),(⟨19968,40959⟩:Ar2),(⟨40960,42191⟩:Ar2),(⟨44032,55203⟩:Ar2),(⟨63744,64255⟩:Ar2),(⟨65072,65135⟩:Ar2),(⟨65280,65376⟩:Ar2),(⟨65504,65510⟩:Ar2),(⟨127744,128591⟩:Ar2),(⟨128640,128767⟩:Ar2),(⟨129280,129535⟩:Ar2),(⟨131072,262141⟩:Ar2)]:List Ar2).length=15:=rfl
 refine ip' 1 0 [(0,.slice (some ⟨b1,0,none⟩) 15 15)] ?_
 subst hR
 refine ie (A9 ?_)
 exact zer hr hD (N4 rfl (C1 rfl)) (zq (some ⟨b1,0,none⟩) 15) (mk [] rfl) (A1.con1 (B1 0 rfl) fn0)
def A3j (cp:Int):Int :=
 (bif (((!(J4 cp))||(decide (cp<32)))||((decide ((127:Int)≤cp))&&(decide (cp<160)))) then (-1) else (B9 A6e fun (y19:List Ar2)=>(bif (A1z y19 cp) then 0 else (B9 A6l fun (y20:List Ar2)=>(bif (A1z y20 cp) then 2 else 1)))))
theorem D2o (cp:Int) (R:Int) (hR:A3j cp=R):I4 Tryz.prog 135 [iv cp] [] (iv R):=by
 refine zco Tryz.func135 [(0,iv cp)] fun X hX hr hD=>?_
 replace hR:=(A3j.eq_1 ..).symm.trans hR
 refine sr 1 rfl (ip' 1 0 [] ?_)
 refine ie (A8 (sr 15 rfl (ip' 1 14 [(3,iv cp)] ?_)))
 refine zca (B5n cp _ rfl) fn0 ?_
 refine ip' 2 11 [(6,bv (!(J4 cp)))] ?_
 refine zio 3 8 6 9 (decide (cp<32)) (fun g1=>?_) ?_
 ·refine ip' 3 0 [(9,bv (decide (cp<32)))] ?_
  exact A3 (L6 2 6 9 g1 fn0 (mk [] rfl) rfl rfl rfl rfl rfl)
 refine ip' 1 7 [(10,bv ((!(J4 cp))||(decide (cp<32))))] ?_
 refine zio 7 0 10 17 ((decide ((127:Int)≤cp))&&(decide (cp<160))) (fun g2=>?_) ?_
 ·have g2p:=g2;try simp at g2p
  refine ip' 3 4 [(13,bv (decide ((127:Int)≤cp)))] ?_
  refine zid 3 1 13 16 (decide (cp<160)) (fun g3 g3p=>?_) ?_
  ·refine ip' 3 0 [(16,bv (decide (cp<160)))] ?_
   exact A3 (L6 2 13 16 g3 fn0 (mk [] rfl) rfl rfl rfl rfl rfl)
  refine ip' 1 0 [(17,bv ((decide ((127:Int)≤cp))&&(decide (cp<160))))] ?_
  exact A3 (L6 4 10 17 g2 fn0 (mk [] rfl) rfl rfl rfl rfl rfl)
 refine ie ?_
 refine zjb rfl hR ?_ ?_<;>clear hR<;>intro hR h4
 ·have h4p:=h4;try simp at h4p
  refine sr 1 rfl (ip' 1 0 [(2,iv (-1))] ?_)
  subst hR
  refine ie (A9 ?_)
  exact F2 hr hD
 have h4p:=h4;try simp at h4p
 refine A6 (nx (A8 (sr 3 rfl ?_)))
 have hQ:=D6 hR;clear hR;obtain ⟨y19,hy19,hR⟩:=hQ
 refine zcm (C8w y19 hy19) fn0 fun ⟨⟨q5,k6⟩,hp7⟩=>?_
 obtain ⟨hc8,hl9⟩:=hp7
 refine ip' 1 1 [(19,iv cp)] ?_
 refine zca (C2h y19 cp q5 k6 (by first|omega|(simp<;>omega)|(dsimp only;omega)|decide) (by first|omega|(simp<;>omega)|(dsimp only;omega)|decide) _ rfl) A1.refl ?_
 refine ie ?_
 refine zjb rfl hR ?_ ?_<;>clear hR<;>intro hR h10
 ·refine sr 1 rfl (ip' 1 0 [(2,iv 0)] ?_)
  subst hR
  refine ie (A9 ?_)
  exact F2 hr hD
 refine A6 (nx (A8 (sr 3 rfl ?_)))
 have hQ:=D6 hR;clear hR;obtain ⟨y20,hy20,hR⟩:=hQ
 refine zcm (D1j y20 hy20) fn0 fun ⟨⟨q11,k12⟩,hp13⟩=>?_
 obtain ⟨hc14,hl15⟩:=hp13
 refine ip' 1 1 [(22,iv cp)] ?_
 refine zca (C2h y20 cp q11 k12 (by first|omega|(simp<;>omega)|(dsimp only;omega)|decide) (by first|omega|(simp<;>omega)|(dsimp only;omega)|decide) _ rfl) (A1.pick [0] rfl) ?_
 refine ie ?_
 refine zjb rfl hR ?_ ?_<;>clear hR<;>intro hR h16
 ·refine sr 1 rfl (ip' 1 0 [(2,iv 2)] ?_)
  subst hR
  refine ie (A9 ?_)
  exact F2 hr hD
 refine A6 (nx (sr 1 rfl (ip' 1 0 [(2,iv 1)] ?_)))
 subst hR
 refine ie (A9 ?_)
 exact F2 hr hD
def F8 (n:Int) (from_:Int) (to_:Int):Bool :=
 ((decide (from_≤n))&&(decide (n≤to_)))
theorem S2 (n:Int) (from_:Int) (to_:Int) (R:Bool) (hR:F8 n from_ to_=R):I4 Tryz.prog 136 [iv n,iv from_,iv to_] [] (bv R):=by
 refine zco Tryz.func136 [(0,iv n),(1,iv from_),(2,iv to_)] fun X hX hr hD=>?_
 replace hR:=(F8.eq_1 ..).symm.trans hR
 refine sr 1 rfl (ip' 1 0 [] ?_)
 refine ie (sr 9 rfl (ip' 4 5 [(10,bv (decide (from_≤n)))] ?_))
 refine zid 4 1 10 14 (decide (n≤to_)) (fun g1 g1p=>?_) ?_
 ·refine ip' 4 0 [(14,bv (decide (n≤to_)))] ?_
  exact A3 (L6 2 10 14 g1 fn0 (mk [] rfl) rfl rfl rfl rfl rfl)
 refine ip' 1 0 [(6,bv ((decide (from_≤n))&&(decide (n≤to_))))] ?_
 subst hR
 refine ie (A9 ?_)
 exact F2 hr hD
def K1 (n:Int):Bool :=
 (F8 n 1 9999)
theorem A4d (n:Int) (R:Bool) (hR:K1 n=R):I4 Tryz.prog 137 [iv n] [] (bv R):=by
 refine zco Tryz.func137 [(0,iv n)] fun X hX hr hD=>?_
 replace hR:=(K1.eq_1 ..).symm.trans hR
 refine sr 1 rfl (ip' 1 0 [] ?_)
 refine ie (sr 3 rfl (ip' 1 2 [(3,iv n)] ?_))
 refine zca (S2 n 1 9999 _ rfl) fn0 ?_
 refine ip' 1 0 [(2,bv (F8 n 1 9999))] ?_
 subst hR
 refine ie (A9 ?_)
 exact F2 hr hD
def S5 (a:Act) (t155:Bool):Bool :=
 (bif t155 then ((F8 a.n 0 9999)&&(F8 a.m 0 1)) else (bif (decide (a.kind=38)) then ((F8 a.n 0 9999)&&(F8 a.m 0 9999)) else (bif (decide (a.kind=40)) then ((F8 a.n 0 6)&&(decide (a.m=0))) else (bif (decide (a.kind=41)) then ((F8 a.n 5 6)&&(decide (a.m=0))) else false))))
def I8 (a:Act) (t101:Bool):Bool :=
 (bif t101 then ((K1 a.n)&&(decide (a.m=0))) else (bif (decide (a.kind=26)) then ((F8 a.n 0 3)&&(decide (a.m=0))) else (bif (decide (a.kind=27)) then ((F8 a.n 0 2)&&(decide (a.m=0))) else (bif (decide (a.kind=35)) then (((decide (a.n=0))||(decide (a.n=3)))&&(decide (a.m=0))) else (bif (decide (a.kind=36)) then S5 a (decide (a.kind=36)) else (bif (decide (a.kind=37)) then S5 a (decide (a.kind=37)) else S5 a (decide (a.kind=43))))))))
def V9 (a:Act) (t90:Bool):Bool :=
 (bif t90 then ((F8 a.n 0 1)&&(K1 a.m)) else (bif (decide (a.kind=22)) then I8 a (decide (a.kind=22)) else (bif (decide (a.kind=23)) then I8 a (decide (a.kind=23)) else (bif (decide (a.kind=24)) then I8 a (decide (a.kind=24)) else (bif (decide (a.kind=25)) then I8 a (decide (a.kind=25)) else (bif (decide (a.kind=28)) then I8 a (decide (a.kind=28)) else (bif (decide (a.kind=29)) then I8 a (decide (a.kind=29)) else (bif (decide (a.kind=30)) then I8 a (decide (a.kind=30)) else (bif (decide (a.kind=31)) then I8 a (decide (a.kind=31)) else (bif (decide (a.kind=32)) then I8 a (decide (a.kind=32)) else I8 a (decide (a.kind=34))))))))))))
def S9 (a:Act) (t38:Bool):Bool :=
 (bif t38 then ((F8 a.n 0 1)&&(decide (a.m=0))) else (bif (decide (a.kind=17)) then ((F8 a.n 0 3)&&(F8 a.m 0 1)) else (bif (decide (a.kind=18)) then ((F8 a.n 2 3)&&(decide (a.m=0))) else (bif (decide (a.kind=19)) then ((K1 a.n)&&(K1 a.m)) else (bif (decide (a.kind=20)) then ((F8 a.n 0 3)&&(K1 a.m)) else (bif (decide (a.kind=21)) then V9 a (decide (a.kind=21)) else V9 a (decide (a.kind=33))))))))
def H2 (a:Act) (t16:Bool):Bool :=
 (bif t16 then ((decide (a.n=0))&&(decide (a.m=0))) else (bif (decide (a.kind=7)) then S9 a (decide (a.kind=7)) else (bif (decide (a.kind=14)) then S9 a (decide (a.kind=14)) else S9 a (decide (a.kind=42)))))
def L8 (a:Act):Bool :=
 (bif (decide (a.kind=1)) then ((decide ((0:Int)≤(A3j a.n)))&&(decide (a.m=0))) else (bif (decide (a.kind=2)) then H2 a (decide (a.kind=2)) else (bif (decide (a.kind=3)) then H2 a (decide (a.kind=3)) else (bif (decide (a.kind=4)) then H2 a (decide (a.kind=4)) else (bif (decide (a.kind=5)) then H2 a (decide (a.kind=5)) else (bif (decide (a.kind=6)) then H2 a (decide (a.kind=6)) else (bif (decide (a.kind=8)) then H2 a (decide (a.kind=8)) else (bif (decide (a.kind=9)) then H2 a (decide (a.kind=9)) else (bif (decide (a.kind=10)) then H2 a (decide (a.kind=10)) else (bif (decide (a.kind=11)) then H2 a (decide (a.kind=11)) else (bif (decide (a.kind=12)) then H2 a (decide (a.kind=12)) else (bif (decide (a.kind=13)) then H2 a (decide (a.kind=13)) else (bif (decide (a.kind=15)) then H2 a (decide (a.kind=15)) else H2 a (decide (a.kind=16)))))))))))))))
theorem C1q (a:Act) (R:Bool) (hR:L8 a=R):I4 Tryz.prog 92 [ag (A4 a)] [] (bv R):=by
 refine zco Tryz.func92 [(0,ag (A4 a))] fun X hX hr hD=>?_
 replace hR:=(L8.eq_1 ..).symm.trans hR
 refine sr 2 rfl (Q2 2 0 [] (fun b1=>[(1,pt b1 0)]) (fun b1=>[bx b1 (A4 a) 26]) (fun b1=>?_))
 refine ie (A8 (sr 2 rfl (zrl 2 0 [0] [(4,iv a.kind)] ?_)))
 refine ie (B3 (sr 2 rfl (ip' 2 0 [(5,bv (decide (a.kind=1)))] ?_)))
 refine ie ?_
 refine zjd rfl hR ?_ ?_<;>clear hR<;>intro hR h2 h2p
 ·refine sr 10 rfl (zrl 2 8 [0] [(8,iv a.n)] ?_)
  refine zca (D2o a.n _ rfl) fn0 ?_
  refine ip' 2 5 [(11,bv (decide ((0:Int)≤(A3j a.n))))] ?_
  refine zid 4 1 11 15 (decide (a.m=0)) (fun g3 g3p=>?_) ?_
  ·refine zrl 4 0 [0] [(15,bv (decide (a.m=0)))] ?_
   exact A3 (L6 2 11 15 g3 fn0 (mk [true] rfl) rfl rfl rfl rfl rfl)
  refine ip' 1 0 [(2,bv ((decide ((0:Int)≤(A3j a.n)))&&(decide (a.m=0))))] ?_
  subst hR
  refine ie (A9 ?_)
  exact F2 hr hD
 refine B8f (fun (t16:Bool)=>(H2 a t16=R,[(1,pt b1 0),(4,iv a.kind),(16,bv t16)],[bx b1 (A4 a) 26],[])) ?_ ?_
 ·refine sr 2 rfl (ip' 2 0 [(16,bv (decide (a.kind=2)))] ?_)
  refine ie ?_
  refine zjd rfl hR ?_ ?_<;>clear hR<;>intro hR h4 h4p
  ·refine A6 ?_
   exact V6 (decide (a.kind=2)) hR (mk [true] rfl) fn0
  refine sr 2 rfl (ip' 2 0 [(16,bv (decide (a.kind=3)))] ?_)
  refine ie ?_
  refine zjd rfl hR ?_ ?_<;>clear hR<;>intro hR h5 h5p
  ·refine A6 ?_
   exact V6 (decide (a.kind=3)) hR (mk [true] rfl) fn0
  refine sr 2 rfl (ip' 2 0 [(16,bv (decide (a.kind=4)))] ?_)
  refine ie ?_
  refine zjd rfl hR ?_ ?_<;>clear hR<;>intro hR h6 h6p
  ·refine A6 ?_
   exact V6 (decide (a.kind=4)) hR (mk [true] rfl) fn0
  refine sr 2 rfl (ip' 2 0 [(16,bv (decide (a.kind=5)))] ?_)
  refine ie ?_
  refine zjd rfl hR ?_ ?_<;>clear hR<;>intro hR h7 h7p
  ·refine A6 ?_
   exact V6 (decide (a.kind=5)) hR (mk [true] rfl) fn0
  refine sr 2 rfl (ip' 2 0 [(16,bv (decide (a.kind=6)))] ?_)
  refine ie ?_
  refine zjd rfl hR ?_ ?_<;>clear hR<;>intro hR h8 h8p
  ·refine A6 ?_
   exact V6 (decide (a.kind=6)) hR (mk [true] rfl) fn0
  refine sr 2 rfl (ip' 2 0 [(16,bv (decide (a.kind=8)))] ?_)
  refine ie ?_
  refine zjd rfl hR ?_ ?_<;>clear hR<;>intro hR h9 h9p
  ·refine A6 ?_
   exact V6 (decide (a.kind=8)) hR (mk [true] rfl) fn0
  refine sr 2 rfl (ip' 2 0 [(16,bv (decide (a.kind=9)))] ?_)
  refine ie ?_
  refine zjd rfl hR ?_ ?_<;>clear hR<;>intro hR h10 h10p
  ·refine A6 ?_
   exact V6 (decide (a.kind=9)) hR (mk [true] rfl) fn0
  refine sr 2 rfl (ip' 2 0 [(16,bv (decide (a.kind=10)))] ?_)
  refine ie ?_
  refine zjd rfl hR ?_ ?_<;>clear hR<;>intro hR h11 h11p
  ·refine A6 ?_
   exact V6 (decide (a.kind=10)) hR (mk [true] rfl) fn0
  refine sr 2 rfl (ip' 2 0 [(16,bv (decide (a.kind=11)))] ?_)
  refine ie ?_
  refine zjd rfl hR ?_ ?_<;>clear hR<;>intro hR h12 h12p
  ·refine A6 ?_
   exact V6 (decide (a.kind=11)) hR (mk [true] rfl) fn0
  refine sr 2 rfl (ip' 2 0 [(16,bv (decide (a.kind=12)))] ?_)
  refine ie ?_
  refine zjd rfl hR ?_ ?_<;>clear hR<;>intro hR h13 h13p
  ·refine A6 ?_
   exact V6 (decide (a.kind=12)) hR (mk [true] rfl) fn0
  refine sr 2 rfl (ip' 2 0 [(16,bv (decide (a.kind=13)))] ?_)
  refine ie ?_
  refine zjd rfl hR ?_ ?_<;>clear hR<;>intro hR h14 h14p
  ·refine A6 ?_
   exact V6 (decide (a.kind=13)) hR (mk [true] rfl) fn0
  refine sr 2 rfl (ip' 2 0 [(16,bv (decide (a.kind=15)))] ?_)
  refine ie ?_
  refine zjd rfl hR ?_ ?_<;>clear hR<;>intro hR h15 h15p
  ·refine A6 ?_
   exact V6 (decide (a.kind=15)) hR (mk [true] rfl) fn0
  refine A2 2 rfl (ip' 2 0 [(16,bv (decide (a.kind=16)))] ?_)
  refine A3 ?_
  exact V6 (decide (a.kind=16)) hR (mk [true] rfl) fn0
 intro t16
 rintro hR
 replace hR:=(H2.eq_1 ..).symm.trans hR
 refine zjb rfl hR ?_ ?_<;>clear hR<;>intro hR h16
 ·refine sr 9 rfl (zrl 4 5 [0] [(33,bv (decide (a.n=0)))] ?_)
  refine zid 4 1 33 37 (decide (a.m=0)) (fun g17 g17p=>?_) ?_
  ·refine zrl 4 0 [0] [(37,bv (decide (a.m=0)))] ?_
   exact A3 (L6 2 33 37 g17 fn0 (mk [true] rfl) rfl rfl rfl rfl rfl)
  refine ip' 1 0 [(2,bv ((decide (a.n=0))&&(decide (a.m=0))))] ?_
  subst hR
  refine ie (A9 ?_)
  exact F2 hr hD
 refine B8f (fun (t38:Bool)=>(S9 a t38=R,[(1,pt b1 0),(4,iv a.kind),(38,bv t38)],[bx b1 (A4 a) 26],[])) ?_ ?_
 ·refine sr 2 rfl (ip' 2 0 [(38,bv (decide (a.kind=7)))] ?_)
  refine ie ?_
  refine zjd rfl hR ?_ ?_<;>clear hR<;>intro hR h18 h18p
  ·refine A6 ?_
   exact V6 (decide (a.kind=7)) hR (mk [true] rfl) fn0
  refine sr 2 rfl (ip' 2 0 [(38,bv (decide (a.kind=14)))] ?_)
  refine ie ?_
  refine zjd rfl hR ?_ ?_<;>clear hR<;>intro hR h19 h19p
  ·refine A6 ?_
   exact V6 (decide (a.kind=14)) hR (mk [true] rfl) fn0
  refine A2 2 rfl (ip' 2 0 [(38,bv (decide (a.kind=42)))] ?_)
  refine A3 ?_
  exact V6 (decide (a.kind=42)) hR (mk [true] rfl) fn0
 intro t38
 rintro hR
 replace hR:=(S9.eq_1 ..).symm.trans hR
 refine zjb rfl hR ?_ ?_<;>clear hR<;>intro hR h20
 ·refine sr 9 rfl (zrl 2 7 [0] [(43,iv a.n)] ?_)
  refine zca (S2 a.n 0 1 _ rfl) fn0 ?_
  refine ip' 1 5 [(45,bv (F8 a.n 0 1))] ?_
  refine zia 4 1 45 49 (decide (a.m=0)) (fun g21=>?_) ?_
  ·refine zrl 4 0 [0] [(49,bv (decide (a.m=0)))] ?_
   exact A3 (L6 2 45 49 g21 fn0 (mk [true] rfl) rfl rfl rfl rfl rfl)
  refine ip' 1 0 [(2,bv ((F8 a.n 0 1)&&(decide (a.m=0))))] ?_
  subst hR
  refine ie (A9 ?_)
  exact F2 hr hD
 refine sr 2 rfl (ip' 2 0 [(50,bv (decide (a.kind=17)))] ?_)
 refine ie ?_
 refine zjd rfl hR ?_ ?_<;>clear hR<;>intro hR h22 h22p
 ·refine sr 9 rfl (zrl 2 7 [0] [(53,iv a.n)] ?_)
  refine zca (S2 a.n 0 3 _ rfl) fn0 ?_
  refine ip' 1 5 [(55,bv (F8 a.n 0 3))] ?_
  refine zia 4 1 55 59 (F8 a.m 0 1) (fun g23=>?_) ?_
  ·refine zrl 2 2 [0] [(57,iv a.m)] ?_
   refine zca (S2 a.m 0 1 _ rfl) fn0 ?_
   refine ip' 1 0 [(59,bv (F8 a.m 0 1))] ?_
   exact A3 (L6 4 55 59 g23 fn0 (mk [true] rfl) rfl rfl rfl rfl rfl)
  refine ip' 1 0 [(2,bv ((F8 a.n 0 3)&&(F8 a.m 0 1)))] ?_
  subst hR
  refine ie (A9 ?_)
  exact F2 hr hD
 refine sr 2 rfl (ip' 2 0 [(60,bv (decide (a.kind=18)))] ?_)
 refine ie ?_
 refine zjd rfl hR ?_ ?_<;>clear hR<;>intro hR h24 h24p
 ·refine sr 9 rfl (zrl 2 7 [0] [(63,iv a.n)] ?_)
  refine zca (S2 a.n 2 3 _ rfl) fn0 ?_
  refine ip' 1 5 [(65,bv (F8 a.n 2 3))] ?_
  refine zia 4 1 65 69 (decide (a.m=0)) (fun g25=>?_) ?_
  ·refine zrl 4 0 [0] [(69,bv (decide (a.m=0)))] ?_
   exact A3 (L6 2 65 69 g25 fn0 (mk [true] rfl) rfl rfl rfl rfl rfl)
  refine ip' 1 0 [(2,bv ((F8 a.n 2 3)&&(decide (a.m=0))))] ?_
  subst hR
  refine ie (A9 ?_)
  exact F2 hr hD
 refine sr 2 rfl (ip' 2 0 [(70,bv (decide (a.kind=19)))] ?_)
 refine ie ?_
 refine zjd rfl hR ?_ ?_<;>clear hR<;>intro hR h26 h26p
 ·refine sr 9 rfl (zrl 2 7 [0] [(73,iv a.n)] ?_)
  refine zca (A4d a.n _ rfl) fn0 ?_
  refine ip' 1 5 [(75,bv (K1 a.n))] ?_
  refine zia 4 1 75 79 (K1 a.m) (fun g27=>?_) ?_
  ·refine zrl 2 2 [0] [(77,iv a.m)] ?_
   refine zca (A4d a.m _ rfl) fn0 ?_
   refine ip' 1 0 [(79,bv (K1 a.m))] ?_
   exact A3 (L6 4 75 79 g27 fn0 (mk [true] rfl) rfl rfl rfl rfl rfl)
  refine ip' 1 0 [(2,bv ((K1 a.n)&&(K1 a.m)))] ?_
  subst hR
  refine ie (A9 ?_)
  exact F2 hr hD
 refine sr 2 rfl (ip' 2 0 [(80,bv (decide (a.kind=20)))] ?_)
 refine ie ?_
 refine zjd rfl hR ?_ ?_<;>clear hR<;>intro hR h28 h28p
 ·refine sr 9 rfl (zrl 2 7 [0] [(83,iv a.n)] ?_)
  refine zca (S2 a.n 0 3 _ rfl) fn0 ?_
  refine ip' 1 5 [(85,bv (F8 a.n 0 3))] ?_
  refine zia 4 1 85 89 (K1 a.m) (fun g29=>?_) ?_
  ·refine zrl 2 2 [0] [(87,iv a.m)] ?_
   refine zca (A4d a.m _ rfl) fn0 ?_
   refine ip' 1 0 [(89,bv (K1 a.m))] ?_
   exact A3 (L6 4 85 89 g29 fn0 (mk [true] rfl) rfl rfl rfl rfl rfl)
  refine ip' 1 0 [(2,bv ((F8 a.n 0 3)&&(K1 a.m)))] ?_
  subst hR
  refine ie (A9 ?_)
  exact F2 hr hD
 refine B8f (fun (t90:Bool)=>(V9 a t90=R,[(1,pt b1 0),(4,iv a.kind),(90,bv t90)],[bx b1 (A4 a) 26],[])) ?_ ?_
 ·refine sr 2 rfl (ip' 2 0 [(90,bv (decide (a.kind=21)))] ?_)
  refine ie ?_
  refine zjd rfl hR ?_ ?_<;>clear hR<;>intro hR h30 h30p
  ·refine A6 ?_
   exact V6 (decide (a.kind=21)) hR (mk [true] rfl) fn0
  refine A2 2 rfl (ip' 2 0 [(90,bv (decide (a.kind=33)))] ?_)
  refine A3 ?_
  exact V6 (decide (a.kind=33)) hR (mk [true] rfl) fn0
 intro t90
 rintro hR
 replace hR:=(V9.eq_1 ..).symm.trans hR
 refine zjb rfl hR ?_ ?_<;>clear hR<;>intro hR h31
 ·refine sr 9 rfl (zrl 2 7 [0] [(94,iv a.n)] ?_)
  refine zca (S2 a.n 0 1 _ rfl) fn0 ?_
  refine ip' 1 5 [(96,bv (F8 a.n 0 1))] ?_
  refine zia 4 1 96 100 (K1 a.m) (fun g32=>?_) ?_
  ·refine zrl 2 2 [0] [(98,iv a.m)] ?_
   refine zca (A4d a.m _ rfl) fn0 ?_
   refine ip' 1 0 [(100,bv (K1 a.m))] ?_
   exact A3 (L6 4 96 100 g32 fn0 (mk [true] rfl) rfl rfl rfl rfl rfl)
  refine ip' 1 0 [(2,bv ((F8 a.n 0 1)&&(K1 a.m)))] ?_
  subst hR
  refine ie (A9 ?_)
  exact F2 hr hD
 refine B8f (fun (t101:Bool)=>(I8 a t101=R,[(1,pt b1 0),(4,iv a.kind),(101,bv t101)],[bx b1 (A4 a) 26],[])) ?_ ?_
 ·refine sr 2 rfl (ip' 2 0 [(101,bv (decide (a.kind=22)))] ?_)
  refine ie ?_
  refine zjd rfl hR ?_ ?_<;>clear hR<;>intro hR h33 h33p
  ·refine A6 ?_
   exact V6 (decide (a.kind=22)) hR (mk [true] rfl) fn0
  refine sr 2 rfl (ip' 2 0 [(101,bv (decide (a.kind=23)))] ?_)
  refine ie ?_
  refine zjd rfl hR ?_ ?_<;>clear hR<;>intro hR h34 h34p
  ·refine A6 ?_
   exact V6 (decide (a.kind=23)) hR (mk [true] rfl) fn0
  refine sr 2 rfl (ip' 2 0 [(101,bv (decide (a.kind=24)))] ?_)
  refine ie ?_
  refine zjd rfl hR ?_ ?_<;>clear hR<;>intro hR h35 h35p
  ·refine A6 ?_
   exact V6 (decide (a.kind=24)) hR (mk [true] rfl) fn0
  refine sr 2 rfl (ip' 2 0 [(101,bv (decide (a.kind=25)))] ?_)
  refine ie ?_
  refine zjd rfl hR ?_ ?_<;>clear hR<;>intro hR h36 h36p
  ·refine A6 ?_
   exact V6 (decide (a.kind=25)) hR (mk [true] rfl) fn0
  refine sr 2 rfl (ip' 2 0 [(101,bv (decide (a.kind=28)))] ?_)
  refine ie ?_
  refine zjd rfl hR ?_ ?_<;>clear hR<;>intro hR h37 h37p
  ·refine A6 ?_
   exact V6 (decide (a.kind=28)) hR (mk [true] rfl) fn0
  refine sr 2 rfl (ip' 2 0 [(101,bv (decide (a.kind=29)))] ?_)
  refine ie ?_
  refine zjd rfl hR ?_ ?_<;>clear hR<;>intro hR h38 h38p
  ·refine A6 ?_
   exact V6 (decide (a.kind=29)) hR (mk [true] rfl) fn0
  refine sr 2 rfl (ip' 2 0 [(101,bv (decide (a.kind=30)))] ?_)
  refine ie ?_
  refine zjd rfl hR ?_ ?_<;>clear hR<;>intro hR h39 h39p
  ·refine A6 ?_
   exact V6 (decide (a.kind=30)) hR (mk [true] rfl) fn0
  refine sr 2 rfl (ip' 2 0 [(101,bv (decide (a.kind=31)))] ?_)
  refine ie ?_
  refine zjd rfl hR ?_ ?_<;>clear hR<;>intro hR h40 h40p
  ·refine A6 ?_
   exact V6 (decide (a.kind=31)) hR (mk [true] rfl) fn0
  refine sr 2 rfl (ip' 2 0 [(101,bv (decide (a.kind=32)))] ?_)
  refine ie ?_
  refine zjd rfl hR ?_ ?_<;>clear hR<;>intro hR h41 h41p
  ·refine A6 ?_
   exact V6 (decide (a.kind=32)) hR (mk [true] rfl) fn0
  refine A2 2 rfl (ip' 2 0 [(101,bv (decide (a.kind=34)))] ?_)
  refine A3 ?_
  exact V6 (decide (a.kind=34)) hR (mk [true] rfl) fn0
 intro t101
 rintro hR
 replace hR:=(I8.eq_1 ..).symm.trans hR
 refine zjb rfl hR ?_ ?_<;>clear hR<;>intro hR h42
 ·refine sr 9 rfl (zrl 2 7 [0] [(113,iv a.n)] ?_)
  refine zca (A4d a.n _ rfl) fn0 ?_
  refine ip' 1 5 [(115,bv (K1 a.n))] ?_
  refine zia 4 1 115 119 (decide (a.m=0)) (fun g43=>?_) ?_
  ·refine zrl 4 0 [0] [(119,bv (decide (a.m=0)))] ?_
   exact A3 (L6 2 115 119 g43 fn0 (mk [true] rfl) rfl rfl rfl rfl rfl)
  refine ip' 1 0 [(2,bv ((K1 a.n)&&(decide (a.m=0))))] ?_
  subst hR
  refine ie (A9 ?_)
  exact F2 hr hD
 refine sr 2 rfl (ip' 2 0 [(120,bv (decide (a.kind=26)))] ?_)
 refine ie ?_
 refine zjd rfl hR ?_ ?_<;>clear hR<;>intro hR h44 h44p
 ·refine sr 9 rfl (zrl 2 7 [0] [(123,iv a.n)] ?_)
  refine zca (S2 a.n 0 3 _ rfl) fn0 ?_
  refine ip' 1 5 [(125,bv (F8 a.n 0 3))] ?_
  refine zia 4 1 125 129 (decide (a.m=0)) (fun g45=>?_) ?_
  ·refine zrl 4 0 [0] [(129,bv (decide (a.m=0)))] ?_
   exact A3 (L6 2 125 129 g45 fn0 (mk [true] rfl) rfl rfl rfl rfl rfl)
  refine ip' 1 0 [(2,bv ((F8 a.n 0 3)&&(decide (a.m=0))))] ?_
  subst hR
  refine ie (A9 ?_)
  exact F2 hr hD
 refine sr 2 rfl (ip' 2 0 [(130,bv (decide (a.kind=27)))] ?_)
 refine ie ?_
 refine zjd rfl hR ?_ ?_<;>clear hR<;>intro hR h46 h46p
 ·refine sr 9 rfl (zrl 2 7 [0] [(133,iv a.n)] ?_)
  refine zca (S2 a.n 0 2 _ rfl) fn0 ?_
  refine ip' 1 5 [(135,bv (F8 a.n 0 2))] ?_
  refine zia 4 1 135 139 (decide (a.m=0)) (fun g47=>?_) ?_
  ·refine zrl 4 0 [0] [(139,bv (decide (a.m=0)))] ?_
   exact A3 (L6 2 135 139 g47 fn0 (mk [true] rfl) rfl rfl rfl rfl rfl)
  refine ip' 1 0 [(2,bv ((F8 a.n 0 2)&&(decide (a.m=0))))] ?_
  subst hR
  refine ie (A9 ?_)
  exact F2 hr hD
 refine sr 2 rfl (ip' 2 0 [(140,bv (decide (a.kind=35)))] ?_)
 refine ie ?_
 refine zjd rfl hR ?_ ?_<;>clear hR<;>intro hR h48 h48p
 ·refine sr 14 rfl (zrl 4 10 [0] [(145,bv (decide (a.n=0)))] ?_)
  refine zir 4 6 145 149 (decide (a.n=3)) (fun g49 g49p=>?_) ?_
  ·refine zrl 4 0 [0] [(149,bv (decide (a.n=3)))] ?_
   exact A3 (L6 2 145 149 g49 fn0 (mk [true] rfl) rfl rfl rfl rfl rfl)
  refine ip' 1 5 [(150,bv ((decide (a.n=0))||(decide (a.n=3))))] ?_
  refine zia 4 1 150 154 (decide (a.m=0)) (fun g50=>?_) ?_
  ·have g50p:(a.n=0)∨(a.n=3):=by simpa using g50
   refine zrl 4 0 [0] [(154,bv (decide (a.m=0)))] ?_
   exact A3 (L6 2 150 154 g50 fn0 (mk [true] rfl) rfl rfl rfl rfl rfl)
  refine ip' 1 0 [(2,bv (((decide (a.n=0))||(decide (a.n=3)))&&(decide (a.m=0))))] ?_
  subst hR
  refine ie (A9 ?_)
  exact F2 hr hD
 refine B8f (fun (t155:Bool)=>(S5 a t155=R,[(1,pt b1 0),(4,iv a.kind),(155,bv t155)],[bx b1 (A4 a) 26],[])) ?_ ?_
 ·refine sr 2 rfl (ip' 2 0 [(155,bv (decide (a.kind=36)))] ?_)
  refine ie ?_
  refine zjd rfl hR ?_ ?_<;>clear hR<;>intro hR h51 h51p
  ·refine A6 ?_
   exact V6 (decide (a.kind=36)) hR (mk [true] rfl) fn0
  refine sr 2 rfl (ip' 2 0 [(155,bv (decide (a.kind=37)))] ?_)
  refine ie ?_
  refine zjd rfl hR ?_ ?_<;>clear hR<;>intro hR h52 h52p
  ·refine A6 ?_
   exact V6 (decide (a.kind=37)) hR (mk [true] rfl) fn0
  refine A2 2 rfl (ip' 2 0 [(155,bv (decide (a.kind=43)))] ?_)
  refine A3 ?_
  exact V6 (decide (a.kind=43)) hR (mk [true] rfl) fn0
 intro t155
 rintro hR
 replace hR:=(S5.eq_1 ..).symm.trans hR
 refine zjb rfl hR ?_ ?_<;>clear hR<;>intro hR h53
 ·refine sr 9 rfl (zrl 2 7 [0] [(160,iv a.n)] ?_)
  refine zca (S2 a.n 0 9999 _ rfl) fn0 ?_
  refine ip' 1 5 [(162,bv (F8 a.n 0 9999))] ?_
  refine zia 4 1 162 166 (F8 a.m 0 1) (fun g54=>?_) ?_
  ·refine zrl 2 2 [0] [(164,iv a.m)] ?_
   refine zca (S2 a.m 0 1 _ rfl) fn0 ?_
   refine ip' 1 0 [(166,bv (F8 a.m 0 1))] ?_
   exact A3 (L6 4 162 166 g54 fn0 (mk [true] rfl) rfl rfl rfl rfl rfl)
  refine ip' 1 0 [(2,bv ((F8 a.n 0 9999)&&(F8 a.m 0 1)))] ?_
  subst hR
  refine ie (A9 ?_)
  exact F2 hr hD
 refine sr 2 rfl (ip' 2 0 [(167,bv (decide (a.kind=38)))] ?_)
 refine ie ?_
 refine zjd rfl hR ?_ ?_<;>clear hR<;>intro hR h55 h55p
 ·refine sr 9 rfl (zrl 2 7 [0] [(170,iv a.n)] ?_)
  refine zca (S2 a.n 0 9999 _ rfl) fn0 ?_
  refine ip' 1 5 [(172,bv (F8 a.n 0 9999))] ?_
  refine zia 4 1 172 176 (F8 a.m 0 9999) (fun g56=>?_) ?_
  ·refine zrl 2 2 [0] [(174,iv a.m)] ?_
   refine zca (S2 a.m 0 9999 _ rfl) fn0 ?_
   refine ip' 1 0 [(176,bv (F8 a.m 0 9999))] ?_
   exact A3 (L6 4 172 176 g56 fn0 (mk [true] rfl) rfl rfl rfl rfl rfl)
  refine ip' 1 0 [(2,bv ((F8 a.n 0 9999)&&(F8 a.m 0 9999)))] ?_
  subst hR
  refine ie (A9 ?_)
  exact F2 hr hD
 refine sr 2 rfl (ip' 2 0 [(177,bv (decide (a.kind=40)))] ?_)
 refine ie ?_
 refine zjd rfl hR ?_ ?_<;>clear hR<;>intro hR h57 h57p
 ·refine sr 9 rfl (zrl 2 7 [0] [(180,iv a.n)] ?_)
  refine zca (S2 a.n 0 6 _ rfl) fn0 ?_
  refine ip' 1 5 [(182,bv (F8 a.n 0 6))] ?_
  refine zia 4 1 182 186 (decide (a.m=0)) (fun g58=>?_) ?_
  ·refine zrl 4 0 [0] [(186,bv (decide (a.m=0)))] ?_
   exact A3 (L6 2 182 186 g58 fn0 (mk [true] rfl) rfl rfl rfl rfl rfl)
  refine ip' 1 0 [(2,bv ((F8 a.n 0 6)&&(decide (a.m=0))))] ?_
  subst hR
  refine ie (A9 ?_)
  exact F2 hr hD
 refine sr 2 rfl (ip' 2 0 [(187,bv (decide (a.kind=41)))] ?_)
 refine ie ?_
 refine zjd rfl hR ?_ ?_<;>clear hR<;>intro hR h59 h59p
 ·refine sr 9 rfl (zrl 2 7 [0] [(190,iv a.n)] ?_)
  refine zca (S2 a.n 5 6 _ rfl) fn0 ?_
  refine ip' 1 5 [(192,bv (F8 a.n 5 6))] ?_
  refine zia 4 1 192 196 (decide (a.m=0)) (fun g60=>?_) ?_
  ·refine zrl 4 0 [0] [(196,bv (decide (a.m=0)))] ?_
   exact A3 (L6 2 192 196 g60 fn0 (mk [true] rfl) rfl rfl rfl rfl rfl)
  refine ip' 1 0 [(2,bv ((F8 a.n 5 6)&&(decide (a.m=0))))] ?_
  subst hR
  refine ie (A9 ?_)
  exact F2 hr hD
 refine A6 (nx (sr 1 rfl (ip' 1 0 [(2,bv false)] ?_)))
 subst hR
 refine ie (A9 ?_)
 exact F2 hr hD
def D2c (a:Act):Prop:=1≤a.kind∧a.kind≤46∧(a.kind≠1→a.kind≠39→a.kind≠44→a.kind≠45→a.kind≠46→(0≤a.n∧a.n≤9999)∧0≤a.m∧a.m≤9999)∧(a.kind=7∨a.kind=14∨a.kind=21∨a.kind=33∨a.kind=42→0≤a.n∧a.n≤1)∧(a.kind=17∨a.kind=20→0≤a.n∧a.n≤3)∧(a.kind=18→2≤a.n∧a.n≤3)∧(a.kind=17∨a.kind=36∨a.kind=37∨a.kind=43→0≤a.m∧a.m≤1)
def N0 (a:Act) (t12:Bool):Bool :=
 (bif t12 then (B9 (D8 a) fun (y10:List UInt8×Int)=>(decide (y10.2=0))) else (((L8 a)&&(decide (a.color=Col.zero)))&&(decide (a.text=([]:List UInt8)))))
def C8 (a:Act):Bool :=
 (bif (decide (a.kind=39)) then (decide ((M3 a)=0)) else (bif (decide (a.kind=44)) then N0 a (decide (a.kind=44)) else (bif (decide (a.kind=45)) then N0 a (decide (a.kind=45)) else N0 a (decide (a.kind=46)))))
theorem B9u {a:Act} (h:C8 a=true):D2c a:=by
 unfold C8 N0 at h
 by_cases k39:a.kind=39
 ·unfold D2c;omega
 by_cases k44:a.kind=44
 ·unfold D2c;omega
 by_cases k45:a.kind=45
 ·unfold D2c;omega
 by_cases k46:a.kind=46
 ·unfold D2c;omega
 simp only [k39,k44,k45,k46,decide_false,cond_false,Bool.and_eq_true] at h
 have hn:=h.1.1
 clear h
 unfold L8 H2 S9 V9 I8 S5 K1 F8 at hn
 by_cases hr:1≤a.kind∧a.kind≤46
 ·have hk:a.kind=1∨a.kind=2∨a.kind=3∨a.kind=4∨a.kind=5∨a.kind=6∨a.kind=7∨a.kind=8∨a.kind=9∨a.kind=10∨a.kind=11∨a.kind=12∨a.kind=13∨a.kind=14∨a.kind=15∨a.kind=16∨a.kind=17∨a.kind=18∨a.kind=19∨a.kind=20∨a.kind=21∨a.kind=22∨a.kind=23∨a.kind=24∨a.kind=25∨a.kind=26∨a.kind=27∨a.kind=28∨a.kind=29∨a.kind=30∨a.kind=31∨a.kind=32∨a.kind=33∨a.kind=34∨a.kind=35∨a.kind=36∨a.kind=37∨a.kind=38∨a.kind=39∨a.kind=40∨a.kind=41∨a.kind=42∨a.kind=43∨a.kind=44∨a.kind=45∨a.kind=46:=by omega
  unfold D2c
  rcases hk with h | h | h | h | h | h | h | h | h | h | h | h | h | h | h | h | h | h | h | h | h | h | h | h | h | h | h | h | h | h | h | h | h | h | h | h | h | h | h | h | h | h | h | h | h | h<;>simp only [h,Int.reduceEq,decide_true,decide_false,cond_true,cond_false,Bool.and_eq_true,Bool.or_eq_true,decide_eq_true_eq] at hn k39 k44 k45 k46 hr<;>omega
 ·simp only [show ¬ a.kind=1 by omega,show ¬ a.kind=2 by omega,show ¬ a.kind=3 by omega,show ¬ a.kind=4 by omega,show ¬ a.kind=5 by omega,show ¬ a.kind=6 by omega,show ¬ a.kind=7 by omega,show ¬ a.kind=8 by omega,show ¬ a.kind=9 by omega,show ¬ a.kind=10 by omega,show ¬ a.kind=11 by omega,show ¬ a.kind=12 by omega,show ¬ a.kind=13 by omega,show ¬ a.kind=14 by omega,show ¬ a.kind=15 by omega,show ¬ a.kind=16 by omega,show ¬ a.kind=17 by omega,show ¬ a.kind=18 by omega,show ¬ a.kind=19 by omega,show ¬ a.kind=20 by omega,show ¬ a.kind=21 by omega,show ¬ a.kind=22 by omega,show ¬ a.kind=23 by omega,show ¬ a.kind=24 by omega,show ¬ a.kind=25 by omega,show ¬ a.kind=26 by omega,show ¬ a.kind=27 by omega,show ¬ a.kind=28 by omega,show ¬ a.kind=29 by omega,show ¬ a.kind=30 by omega,show ¬ a.kind=31 by omega,show ¬ a.kind=32 by omega,show ¬ a.kind=33 by omega,show ¬ a.kind=34 by omega,show ¬ a.kind=35 by omega,show ¬ a.kind=36 by omega,show ¬ a.kind=37 by omega,show ¬ a.kind=38 by omega,show ¬ a.kind=39 by omega,show ¬ a.kind=40 by omega,show ¬ a.kind=41 by omega,show ¬ a.kind=42 by omega,show ¬ a.kind=43 by omega,show ¬ a.kind=44 by omega,show ¬ a.kind=45 by omega,show ¬ a.kind=46 by omega,decide_false,cond_false] at hn
  exact absurd hn (by decide)
theorem A6s (a:Act) (R:Bool) (hR:C8 a=R):I4 Tryz.prog 41 [ag (A4 a)] [] (bv R):=by
 refine zco Tryz.func41 [(0,ag (A4 a))] fun X hX hr hD=>?_
 replace hR:=(C8.eq_1 ..).symm.trans hR
 refine sr 2 rfl (Q2 2 0 [] (fun b1=>[(1,pt b1 0)]) (fun b1=>[bx b1 (A4 a) 26]) (fun b1=>?_))
 refine ie (A8 (sr 2 rfl (zrl 2 0 [0] [(6,iv a.kind)] ?_)))
 refine ie (B3 (sr 2 rfl (ip' 2 0 [(7,bv (decide (a.kind=39)))] ?_)))
 refine ie ?_
 refine zjd rfl hR ?_ ?_<;>clear hR<;>intro hR h2 h2p
 ·refine sr 4 rfl (zrl 1 3 [0] [(9,ag (A4 a))] ?_)
  refine zca (B8y a _ rfl) fn0 ?_
  refine ip' 2 0 [(2,bv (decide ((M3 a)=0)))] ?_
  subst hR
  refine ie (A9 ?_)
  exact F2 hr hD
 refine B8f (fun (t12:Bool)=>(N0 a t12=R,[(1,pt b1 0),(12,bv t12)],[bx b1 (A4 a) 26],[])) ?_ ?_
 ·refine sr 2 rfl (ip' 2 0 [(12,bv (decide (a.kind=44)))] ?_)
  refine ie ?_
  refine zjd rfl hR ?_ ?_<;>clear hR<;>intro hR h3 h3p
  ·refine A6 ?_
   exact V6 (decide (a.kind=44)) hR (mk [true] rfl) fn0
  refine sr 2 rfl (ip' 2 0 [(12,bv (decide (a.kind=45)))] ?_)
  refine ie ?_
  refine zjd rfl hR ?_ ?_<;>clear hR<;>intro hR h4 h4p
  ·refine A6 ?_
   exact V6 (decide (a.kind=45)) hR (mk [true] rfl) fn0
  refine A2 2 rfl (ip' 2 0 [(12,bv (decide (a.kind=46)))] ?_)
  refine A3 ?_
  exact V6 (decide (a.kind=46)) hR (mk [true] rfl) fn0
 intro t12
 rintro hR
 replace hR:=(N0.eq_1 ..).symm.trans hR
 refine zjb rfl hR ?_ ?_<;>clear hR<;>intro hR h5
 ·refine sr 7 rfl (zrl 1 6 [0] [(17,ag (A4 a))] ?_)
  have hQ:=D6 hR;clear hR;obtain ⟨y10,hy10,hR⟩:=hQ
  refine zca (C4z a y10 hy10) fn0 ?_
  have:=C0x a;try rw [hy10] at this
  refine ip' 5 0 [(4,iv y10.2)] ?_
  refine ie (sr 3 rfl (ip' 3 0 [(2,bv (decide (y10.2=0)))] ?_))
  subst hR
  refine ie (A9 ?_)
  exact F2 hr hD
 refine A6 (nx (sr 14 rfl (zrl 1 13 [0] [(23,ag (A4 a))] ?_)))
 refine zca (C1q a _ rfl) fn0 ?_
 refine ip' 1 11 [(25,bv (L8 a))] ?_
 refine zia 5 6 25 30 (decide (a.color=Col.zero)) (fun g6=>?_) ?_
 ·refine zrl 3 2 [0] [(27,ag (M8 a.color)),(28,ag (M8 Col.zero))] ?_
  refine ix rfl (A8e (a:=a.color) (b:=Col.zero) A7g rfl rfl rfl) ?_
  refine ip' 1 0 [(30,bv (decide (a.color=Col.zero)))] ?_
  exact A3 (L6 5 25 30 g6 fn0 (mk [true] rfl) rfl rfl rfl rfl rfl)
 refine ip' 1 5 [(31,bv ((L8 a)&&(decide (a.color=Col.zero))))] ?_
 refine zia 4 1 31 35 (decide (a.text=([]:List UInt8))) (fun g7=>?_) ?_
 ·have g7p:=g7;try simp at g7p
  refine zrl 2 2 [0] [(33,sv a.text)] ?_
  refine ix rfl (B1h rfl rfl rfl) ?_
  refine ip' 1 0 [(35,bv (decide (a.text=([]:List UInt8))))] ?_
  exact A3 (L6 4 31 35 g7 fn0 (mk [true] rfl) rfl rfl rfl rfl rfl)
 refine ip' 1 0 [(2,bv (((L8 a)&&(decide (a.color=Col.zero)))&&(decide (a.text=([]:List UInt8)))))] ?_
 subst hR
 refine ie (A9 ?_)
 exact F2 hr hD
def C9n:List Ar3 :=
 ([(⟨1,1,22⟩:Ar3),(⟨2,2,22⟩:Ar3),(⟨3,4,23⟩:Ar3),(⟨5,8,25⟩:Ar3),(⟨7,16,27⟩:Ar3),(⟨8,32,28⟩:Ar3),(⟨9,64,29⟩:Ar3),(⟨53,128,55⟩:Ar3)]:List Ar3)
def B3s (a:Act):List Ar3→Nat→List Int
 | [],i=>(bif (decide (a.n=0)) then ([0]:List Int) else (bif ((decide (a.n=3))&&(decide (a.m=1))) then ([4]:List Int) else (bif ((decide (a.n=3))&&(decide (a.m=0))) then ([24]:List Int) else (bif (decide (a.n=3)) then ([4,a.m]:List Int) else (bif (decide (a.color.kind=0)) then ([(IntKind.i64.wrap ((IntKind.i64.wrap ((38:Int)+(IntKind.i64.wrap ((10:Int) * (IntKind.i64.wrap (a.n - (4:Int)))))))+(1:Int)))]:List Int) else (bif (decide (a.color.kind=2)) then ([(IntKind.i64.wrap ((38:Int)+(IntKind.i64.wrap ((10:Int) * (IntKind.i64.wrap (a.n - (4:Int))))))),2,(-1),(IntKind.i64.wrap (Int.tdiv a.color.n 65536)),(Int.tmod (IntKind.i64.wrap (Int.tdiv a.color.n 256)) 256),(Int.tmod a.color.n 256)]:List Int) else (bif ((!decide (a.n=6))&&(decide (a.color.n<8))) then ([(IntKind.i64.wrap ((IntKind.i64.wrap ((IntKind.i64.wrap ((38:Int)+(IntKind.i64.wrap ((10:Int) * (IntKind.i64.wrap (a.n - (4:Int))))))) - (8:Int)))+a.color.n))]:List Int) else (bif ((!decide (a.n=6))&&(decide (a.color.n<16))) then ([(IntKind.i64.wrap ((IntKind.i64.wrap ((IntKind.i64.wrap ((38:Int)+(IntKind.i64.wrap ((10:Int) * (IntKind.i64.wrap (a.n - (4:Int)))))))+(44:Int)))+a.color.n))]:List Int) else ([(IntKind.i64.wrap ((38:Int)+(IntKind.i64.wrap ((10:Int) * (IntKind.i64.wrap (a.n - (4:Int))))))),5,a.color.n]:List Int)))))))))
 | hd_l0::tl_l0,i=>(bif ((decide (a.n=1))&&(decide (a.m=hd_l0.b))) then ([hd_l0.a]:List Int) else (bif ((decide (a.n=2))&&((decide (a.m=hd_l0.b))||((decide (a.m=3))&&(decide ((i:Int)=0))))) then ([hd_l0.c]:List Int) else B3s a tl_l0 (i+1)))
def A2s (a:Act):List Int :=
 (B9 C9n fun (y37:List Ar3)=>B3s a y37 0)
def A0i (l:List Act):List Act→List (List Int)→Nat→(List (List Int)×Int)
 | [],out,i=>(bif (decide ((16:Int)<(l.length:Int))) then (([]:List (List Int)),3) else (out,0))
 | hd_l0::tl_l0,out,i=>(bif (!decide ((M3 hd_l0)=0)) then (([]:List (List Int)),141) else (B9 (A2s hd_l0) fun (y27:List Int)=>A0i l tl_l0 (out++([y27]:List (List Int))) (i+1)))
def B7t (l:List Act):List (List Int)×Int :=
 A0i l l ([]:List (List Int)) 0
def A5j (i:Nat) (ag_ref05_Check_l2:Nat→Int):List Int→Nat→Int
 | [],k=>ag_ref05_Check_l2 (i+1)
 | hd_l3::tl_l3,k=>(bif ((decide (hd_l3<(-1)))||(decide ((9999:Int)<hd_l3))) then 150 else A5j i ag_ref05_Check_l2 tl_l3 (k+1))
def A2y (l:List (List Int)):List (List Int)→Nat→Int
 | [],i=>(bif (((decide ((l.length:Int)=1))&&(decide (((l.getD 0 []).length:Int)=1)))&&(decide (((l.getD 0 []).getD 0 0)=(-1)))) then 150 else 0)
 | hd_l2::tl_l2,i=>(bif ((decide ((hd_l2.length:Int)<1))||(decide ((6:Int)<(hd_l2.length:Int)))) then 150 else A5j i (A2y l tl_l2) hd_l2 0)
def B3z (l:List (List Int)):Int :=
 (bif (decide ((16:Int)<(l.length:Int))) then 150 else A2y l l 0)
def A4h (l:List (List Int)) (i:Nat) (k:Nat) (ag_ref05_Print_l3:List UInt8→Nat→(List UInt8×Int)) (s3:List UInt8):List UInt8×Int :=
 (bif (decide ((0:Int)≤((l.getD i []).getD k 0))) then ag_ref05_Print_l3 (s3++(D5 (((l.getD i []).getD k 0).toNat+1) ((l.getD i []).getD k 0))) (k+1) else ag_ref05_Print_l3 s3 (k+1))
def Z9 (l:List (List Int)) (i:Nat) (ag_ref05_Print_l2:List UInt8→Nat→(List UInt8×Int)):Nat→List UInt8→Nat→(List UInt8×Int)
 | 0,_,_=>([],0)
 | fu1+1,s2,k=>(bif (decide ((k:Int)<((l.getD i []).length:Int))) then (bif (decide ((0:Int)<(k:Int))) then A4h l i k (Z9 l i ag_ref05_Print_l2 fu1) (s2++([58]:List UInt8)) else A4h l i k (Z9 l i ag_ref05_Print_l2 fu1) s2) else ag_ref05_Print_l2 s2 (i+1))
def A5r (l:List (List Int)) (i:Nat) (ag_ref05_Print_l2:List UInt8→Nat→(List UInt8×Int)) (s1:List UInt8):List UInt8×Int :=
 Z9 l i ag_ref05_Print_l2 (((l.getD i []).length - 0)+1) s1 0
def X1 (l:List (List Int)):List (List Int)→List UInt8→Nat→(List UInt8×Int)
 | [],s,i=>(s,0)
 | hd_l2::tl_l2,s,i=>(bif (decide ((0:Int)<(i:Int))) then A5r l i (X1 l tl_l2) (s++([59]:List UInt8)) else A5r l i (X1 l tl_l2) s)
def B0h (l:List (List Int)):List UInt8×Int :=
 (bif (!decide ((B3z l)=0)) then (([]:List UInt8),150) else X1 l l ([]:List UInt8) 0)
def A6c (l:List Act):List UInt8 :=
 (B9 (B7t l) fun (y47:List (List Int)×Int)=>(B9 (B0h y47.1) fun (y42:List UInt8×Int)=>((([27,91]:List UInt8)++y42.1)++([109]:List UInt8))))
def A0a (s:List UInt8) (n:Int):List UInt8 :=
 ((s.drop ((n).toNat)).take (((n).toNat+1) - ((n).toNat)))
def B4l (a:Act):List UInt8 :=
 (bif (decide (a.kind=2)) then ([7]:List UInt8) else (bif (decide (a.kind=3)) then ([8]:List UInt8) else (bif (decide (a.kind=4)) then ([9]:List UInt8) else (bif (decide (a.kind=5)) then ([10]:List UInt8) else (bif (decide (a.kind=6)) then ([13]:List UInt8) else (bif (decide (a.kind=7)) then (B9 (A0a ([15,14]:List UInt8) a.n) fun (y7:List UInt8)=>y7) else (bif (decide (a.kind=8)) then ([27,68]:List UInt8) else (bif (decide (a.kind=9)) then ([27,69]:List UInt8) else (bif (decide (a.kind=10)) then ([27,72]:List UInt8) else (bif (decide (a.kind=11)) then ([27,77]:List UInt8) else (bif (decide (a.kind=12)) then ([27,55]:List UInt8) else (bif (decide (a.kind=13)) then ([27,56]:List UInt8) else (bif (decide (a.kind=15)) then ([27,99]:List UInt8) else (bif (decide (a.kind=14)) then (B9 (A0a ([62,61]:List UInt8) a.n) fun (y21:List UInt8)=>(([27]:List UInt8)++y21)) else (bif (decide (a.kind=16)) then ([27,35,56]:List UInt8) else (bif (decide (a.kind=17)) then (B9 (A0a ([40,41,42,43]:List UInt8) a.n) fun (y25:List UInt8)=>(B9 (A0a ([66,48]:List UInt8) a.m) fun (y24:List UInt8)=>((([27]:List UInt8)++y25)++y24))) else (bif (decide (a.kind=18)) then (B9 (A0a ([78,79]:List UInt8) (a.n - 2)) fun (y46:List UInt8)=>(([27]:List UInt8)++y46)) else ([]:List UInt8))))))))))))))))))
def J3 (n:Int) (none_:Int):List UInt8 :=
 (bif (decide (n=none_)) then ([]:List UInt8) else (D5 (n.toNat+1) n))
def A0k (n:Int) (m:Int) (none_:Int):List UInt8 :=
 (bif (decide (m=none_)) then (B9 (J3 n none_) fun (y8:List UInt8)=>y8) else (B9 (J3 n none_) fun (y29:List UInt8)=>(B9 (J3 m none_) fun (y26:List UInt8)=>((y29++([59]:List UInt8))++y26))))
def B1n (a:Act):Nat→Nat→List UInt8
 | 0,_=>[]
 | fu1+1,i=>(bif (decide ((i:Int)<10)) then (bif (decide (a.kind=(([22,23,24,25,28,29,30,31,32,34]:List Int).getD i 0))) then (B9 (J3 a.n 1) fun (y41:List UInt8)=>(B9 (A0a ([71,100,73,90,64,80,88,76,77,98]:List UInt8) (i:Int)) fun (y24:List UInt8)=>(y41++y24))) else B1n a fu1 (i+1)) else ([]:List UInt8))
def C5s (a:Act):List UInt8 :=
 (bif (decide (a.kind=20)) then (B9 (J3 a.m 1) fun (y8:List UInt8)=>(B9 (A0a ([65,66,67,68]:List UInt8) a.n) fun (y7:List UInt8)=>(y8++y7))) else (bif (decide (a.kind=21)) then (B9 (J3 a.m 1) fun (y29:List UInt8)=>(B9 (A0a ([69,70]:List UInt8) a.n) fun (y21:List UInt8)=>(y29++y21))) else (bif (decide (a.kind=33)) then (B9 (J3 a.m 1) fun (y26:List UInt8)=>(B9 (A0a ([83,84]:List UInt8) a.n) fun (y25:List UInt8)=>(y26++y25))) else (bif (decide (a.kind=26)) then (B9 (J3 a.n 0) fun (y36:List UInt8)=>(y36++([74]:List UInt8))) else (bif (decide (a.kind=27)) then (B9 (J3 a.n 0) fun (y45:List UInt8)=>(y45++([75]:List UInt8))) else (bif (decide (a.kind=35)) then (B9 (J3 a.n 0) fun (y34:List UInt8)=>(y34++([103]:List UInt8))) else (bif (decide (a.kind=40)) then (B9 (J3 a.n 0) fun (y44:List UInt8)=>(y44++([32,113]:List UInt8))) else B1n a ((10 - 0)+1) 0)))))))
def B3n (a:Act):List UInt8 :=
 (bif (decide (a.kind=19)) then (B9 (A0k a.n a.m 1) fun (y28:List UInt8)=>(y28++([72]:List UInt8))) else (bif (decide (a.kind=38)) then (B9 (A0k a.n a.m 0) fun (y40:List UInt8)=>(y40++([114]:List UInt8))) else (bif (decide (a.kind=36)) then (B9 (A0a ([108,104]:List UInt8) a.m) fun (y7:List UInt8)=>((D5 (a.n.toNat+1) a.n)++y7)) else (bif (decide (a.kind=37)) then (B9 (A0a ([108,104]:List UInt8) a.m) fun (y21:List UInt8)=>((([63]:List UInt8)++(D5 (a.n.toNat+1) a.n))++y21)) else (bif (decide (a.kind=41)) then ((D5 (a.n.toNat+1) a.n)++([110]:List UInt8)) else (bif (decide (a.kind=42)) then ((([([]:List UInt8),([62]:List UInt8)]:List (List UInt8)).getD ((a.n).toNat) [])++([99]:List UInt8)) else (bif (decide (a.kind=43)) then (((([([]:List UInt8),([63]:List UInt8)]:List (List UInt8)).getD ((a.m).toNat) [])++(D5 (a.n.toNat+1) a.n))++([36,112]:List UInt8)) else (B9 (C5s a) fun (y35:List UInt8)=>y35))))))))
def A0m (a:Act):List UInt8 :=
 (bif (decide (a.kind=1)) then (B9 (U6 a.n) fun (y13:List UInt8)=>y13) else (bif (decide (a.kind=44)) then (bif (decide (a.kind=44)) then (B9 (D8 a) fun (y10:List UInt8×Int)=>(((([27,93]:List UInt8)++y10.1)++([27]:List UInt8))++([92]:List UInt8))) else (bif (decide (a.kind=39)) then (B9 (A6c ([a]:List Act)) fun (y23:List UInt8)=>y23) else (B9 (B4l a) fun (y17:List UInt8)=>(bif (!(decide (y17=([]:List UInt8)))) then y17 else (B9 (B3n a) fun (y22:List UInt8)=>(([27,91]:List UInt8)++y22)))))) else (bif (decide (a.kind=45)) then (bif (decide (a.kind=45)) then (B9 (D8 a) fun (y33:List UInt8×Int)=>(((([27,93]:List UInt8)++y33.1)++([27]:List UInt8))++([92]:List UInt8))) else (bif (decide (a.kind=39)) then (B9 (A6c ([a]:List Act)) fun (y48:List UInt8)=>y48) else (B9 (B4l a) fun (y30:List UInt8)=>(bif (!(decide (y30=([]:List UInt8)))) then y30 else (B9 (B3n a) fun (y43:List UInt8)=>(([27,91]:List UInt8)++y43)))))) else (bif (decide (a.kind=46)) then (B9 (D8 a) fun (y32:List UInt8×Int)=>(((([27,93]:List UInt8)++y32.1)++([27]:List UInt8))++([92]:List UInt8))) else (bif (decide (a.kind=39)) then (B9 (A6c ([a]:List Act)) fun (y38:List UInt8)=>y38) else (B9 (B4l a) fun (y31:List UInt8)=>(bif (!(decide (y31=([]:List UInt8)))) then y31 else (B9 (B3n a) fun (y39:List UInt8)=>(([27,91]:List UInt8)++y39)))))))))
end Go.Proofs.YtanighkpfmgnbaaGreatDoor
