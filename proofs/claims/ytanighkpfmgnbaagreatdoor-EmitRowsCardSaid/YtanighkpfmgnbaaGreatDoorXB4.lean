import Derived.Test.YtanighkpfmgnbaaGreatDoorProg
import Derived.Test.YtanighkpfmgnbaaGreatDoorXA2
import Derived.Test.YtanighkpfmgnbaaGreatDoorXB1
import Derived.Test.YtanighkpfmgnbaaGreatDoorXA3
import Derived.Test.YtanighkpfmgnbaaGreatDoorXB2
import Derived.Test.YtanighkpfmgnbaaGreatDoorXB3
set_option linter.unusedVariables false
set_option linter.unusedSimpArgs false
set_option linter.unnecessarySimpa false
set_option maxRecDepth 100000
namespace Go.Proofs.YtanighkpfmgnbaaGreatDoor
open Go Go.Fen
def D0e:List UInt8:=[48,49,50,51,52,53,54,55,56,57,97,98,99,100,101,102]
theorem C8v:SlTy Tryz.prog 256 71 2:=⟨by kernel_rfl,by kernel_rfl⟩
theorem C3j:SlTy Tryz.prog 258 205 3:=⟨by kernel_rfl,by kernel_rfl⟩
theorem E5h:Zero Tryz.prog 5 [.int .u8 0]:=⟨by kernel_rfl⟩
def X4 (m:Int):Nat→Nat→Bool
 | 0,_=>false
 | fu1+1,k=>(bif (decide ((k:Int)<8)) then (bif (decide (m=(([1,2,4,8,16,32,64,128]:List Int).getD k 0))) then true else X4 m fu1 (k+1)) else false)
def K2 (m:Int):Bool :=
 X4 m ((8 - 0)+1) 0
theorem B1w (m:Int) (R:Bool) (hR:K2 m=R):I5 Tryz.prog 129 [iv m] [] (bv R):=by
 refine zco Tryz.func129 [(0,iv m)] fun X hX hr hD=>?_
 replace hR:=(K2.eq_1 ..).symm.trans hR
 refine sr 1 rfl (ip' 1 0 [] (ie (A7 (sr 1 rfl (ip' 1 0 [(3,iv 0)] (ie (B1 (C5n (fun (fu:Nat) (k:Nat)=>((8 - k)<fu∧X4 m fu k=R,[(0,iv m),(3,iv (k:Int))],[],[],fu)) ((8 - 0)+1) 0 ⟨(Nat.lt_succ_self _),hR⟩ (mk [] rfl) fn0 ?_))))))))
 rintro fu k ⟨hm1,hR⟩
 obtain ⟨fu1,rfl⟩:∃ m,fu=m+1:=⟨fu - 1,by omega⟩
 replace hR:=(X4.eq_2 ..).symm.trans hR
 refine A7 (sr 2 rfl (ip' 2 0 [(5,bv (decide ((k:Int)<8)))] ?_))
 refine ie ?_
 refine zjd rfl hR ?_ ?_<;>clear hR<;>intro hR h2 h2p
 ·refine A4 (nx (A7 (B1 (sr 5 rfl (zrl 3 2 [] [(8,iv m),(9,ag [iv 1,iv 2,iv 4,iv 8,iv 16,iv 32,iv 64,iv 128]),(10,iv (k:Int))] (ix rfl (B0c (v:=iv (([1,2,4,8,16,32,64,128]:List Int).getD k 0)) (c:=D8) (xs:=([1,2,4,8,16,32,64,128]:List Int)) (d:=0) Tryz.underlying249 ty3 (fun _=>rfl) rfl rfl rfl rfl k rfl rfl (by omega) rfl rfl) (ip' 1 0 [(12,bv (decide (m=(([1,2,4,8,16,32,64,128]:List Int).getD k 0))))] (ie ?_))))))))
  refine zjd rfl hR ?_ ?_<;>clear hR<;>intro hR h3 h3p
  ·refine sr 1 rfl (ip' 1 0 [(2,bv true)] ?_)
   subst hR
   refine ie (A5 ?_)
   exact C8 hr hD
  refine A4 (nx (A2 3 rfl (ip' 1 2 [(6,iv (k:Int))] (ix rfl (B5 rfl rfl rfl rfl (by omega)) (ip' 1 0 [(3,iv ((k:Int)+1))] (A3 ?_))))))
  exact C6d (z1:=(fu1+1)) (z2:=k) fu1 (k+1) ⟨(by omega),hR⟩ (Nat.lt_succ_self _) (mk [] rfl) fn0
 refine G6 (nx (sr 1 rfl (ip' 1 0 [(2,bv false)] ?_)))
 subst hR
 refine ie (A5 ?_)
 exact C8 hr hD
def J0 (c:Col):Int :=
 (bif (decide (c.kind=0)) then (bif (decide (c.n=0)) then 0 else 130) else (bif (decide (c.kind=1)) then (bif ((decide ((0:Int)≤c.n))&&(decide (c.n≤255))) then 0 else 130) else (bif (decide (c.kind=2)) then (bif ((decide ((0:Int)≤c.n))&&(decide (c.n≤16777215))) then 0 else 130) else 130)))
theorem B2e (c:Col) (R:Int) (hR:J0 c=R):I5 Tryz.prog 130 [ag (M1 c)] [] (iv R):=by
 refine zco Tryz.func130 [(0,ag (M1 c))] fun X hX hr hD=>?_
 replace hR:=(J0.eq_1 ..).symm.trans hR
 refine sr 2 rfl (O5 2 0 [] (fun b1=>[(1,pt b1 0)]) (fun b1=>[bx b1 (M1 c) 24]) (fun b1=>(ie (A7 (sr 2 rfl (zrl 2 0 [0] [(4,iv c.kind)] (ie (B1 (sr 2 rfl (ip' 2 0 [(5,bv (decide (c.kind=0)))] (ie ?_)))))))))))
 refine zjd rfl hR ?_ ?_<;>clear hR<;>intro hR h2 h2p
 ·refine sr 3 rfl (zrl 3 0 [0] [(9,bv (decide (c.n=0)))] (ie ?_))
  refine zjd rfl hR ?_ ?_<;>clear hR<;>intro hR h3 h3p
  ·refine sr 1 rfl (ip' 1 0 [(2,iv 0)] ?_)
   subst hR
   refine ie (A5 ?_)
   exact C8 hr hD
  refine A4 (nx (sr 1 rfl (ip' 1 0 [(2,iv 130)] ?_)))
  subst hR
  refine ie (A5 ?_)
  exact C8 hr hD
 refine sr 2 rfl (ip' 2 0 [(10,bv (decide (c.kind=1)))] (ie ?_))
 refine zjd rfl hR ?_ ?_<;>clear hR<;>intro hR h4 h4p
 ·refine sr 8 rfl (zrl 4 4 [0] [(15,bv (decide ((0:Int)≤c.n)))] ?_)
  refine zid 4 0 15 19 (decide (c.n≤255)) (fun g5 g5p=>?_) ?_
  ·refine zrl 4 0 [0] [(19,bv (decide (c.n≤255)))] ?_
   exact A3 (K5 2 15 19 g5 fn0 (mk [true] rfl) rfl rfl rfl rfl rfl)
  refine ie ?_
  refine zja rfl hR ?_ ?_<;>clear hR<;>intro hR h6 h6p
  ·refine sr 1 rfl (ip' 1 0 [(2,iv 0)] ?_)
   subst hR
   refine ie (A5 ?_)
   exact C8 hr hD
  refine A4 (nx (sr 1 rfl (ip' 1 0 [(2,iv 130)] ?_)))
  subst hR
  refine ie (A5 ?_)
  exact C8 hr hD
 refine sr 2 rfl (ip' 2 0 [(20,bv (decide (c.kind=2)))] (ie ?_))
 refine zjd rfl hR ?_ ?_<;>clear hR<;>intro hR h7 h7p
 ·refine sr 8 rfl (zrl 4 4 [0] [(25,bv (decide ((0:Int)≤c.n)))] ?_)
  refine zid 4 0 25 29 (decide (c.n≤16777215)) (fun g8 g8p=>?_) ?_
  ·refine zrl 4 0 [0] [(29,bv (decide (c.n≤16777215)))] ?_
   exact A3 (K5 2 25 29 g8 fn0 (mk [true] rfl) rfl rfl rfl rfl rfl)
  refine ie ?_
  refine zja rfl hR ?_ ?_<;>clear hR<;>intro hR h9 h9p
  ·refine sr 1 rfl (ip' 1 0 [(2,iv 0)] ?_)
   subst hR
   refine ie (A5 ?_)
   exact C8 hr hD
  refine A4 (nx (sr 1 rfl (ip' 1 0 [(2,iv 130)] ?_)))
  subst hR
  refine ie (A5 ?_)
  exact C8 hr hD
 refine A4 (nx (sr 1 rfl (ip' 1 0 [(2,iv 130)] ?_)))
 subst hR
 refine ie (A5 ?_)
 exact C8 hr hD
def P5 (a:Act) (is:Bool):Int :=
 (bif (((!decide (a.kind=39))||(!(decide (a.text=([]:List UInt8)))))||(!is)) then 141 else 0)
def Z1 (a:Act) (t72:Bool):Int :=
 (bif t72 then P5 a ((decide (a.m=0))&&(decide ((J0 a.color)=0))) else P5 a false)
def L6 (a:Act):Int :=
 (bif (decide (a.n=0)) then P5 a ((decide (a.m=0))&&(decide (a.color=Col.zero))) else (bif (decide (a.n=1)) then P5 a ((K2 a.m)&&(decide (a.color=Col.zero))) else (bif (decide (a.n=2)) then P5 a (((decide (a.m=3))||(((K2 a.m)&&(!decide (a.m=1)))&&(!decide (a.m=2))))&&(decide (a.color=Col.zero))) else (bif (decide (a.n=3)) then P5 a (((decide ((0:Int)≤a.m))&&(decide (a.m≤5)))&&(decide (a.color=Col.zero))) else (bif (decide (a.n=4)) then Z1 a (decide (a.n=4)) else (bif (decide (a.n=5)) then Z1 a (decide (a.n=5)) else Z1 a (decide (a.n=6))))))))
theorem B3f (a:Act) (R:Int) (hR:L6 a=R):I5 Tryz.prog 90 [ag (A0 a)] [] (iv R):=by
 refine zco Tryz.func90 [(0,ag (A0 a))] fun X hX hr hD=>?_
 replace hR:=(L6.eq_1 ..).symm.trans hR
 refine sr 2 rfl (O5 2 0 [] (fun b1=>[(1,pt b1 0)]) (fun b1=>[bx b1 (A0 a) 26]) (fun b1=>(ie (sr 3 rfl (O5 3 0 [0] (fun b2=>[(3,pt b2 0)]) (fun b2=>[bx b2 (M1 Col.zero) 24,bx b1 (A0 a) 26]) (fun b2=>(ie (sr 1 rfl (ip' 1 0 [(4,bv false)] ?_)))))))))
 refine ie (B6l (fun (is:Bool)=>(P5 a is=R,[(1,pt b1 0),(4,bv is)],[bx b2 (M1 Col.zero) 24,bx b1 (A0 a) 26],[])) ?_ ?_)
 ·refine sr 2 rfl (zrl 2 0 [1] [(7,iv a.n)] (ie (B1 (sr 2 rfl (ip' 2 0 [(8,bv (decide (a.n=0)))] (ie ?_))))))
  refine zjd rfl hR ?_ ?_<;>clear hR<;>intro hR h3 h3p
  ·refine A2 10 rfl (zrl 4 6 [1] [(13,bv (decide (a.m=0)))] ?_)
   refine zid 5 1 13 18 (decide (a.color=Col.zero)) (fun g4 g4p=>?_) ?_
   ·refine zrl 3 2 [1,0] [(15,ag (M1 a.color)),(16,ag (M1 Col.zero))] (ix rfl (A9h (a:=a.color) (b:=Col.zero) A8a rfl rfl rfl) (ip' 1 0 [(18,bv (decide (a.color=Col.zero)))] ?_))
    exact A3 (K5 5 13 18 g4 fn0 (mk [true,true] rfl) rfl rfl rfl rfl rfl)
   refine ip' 1 0 [(4,bv ((decide (a.m=0))&&(decide (a.color=Col.zero))))] (A3 ?_)
   exact V8 ((decide (a.m=0))&&(decide (a.color=Col.zero))) hR (mk [true,true] rfl) fn0
  refine sr 2 rfl (ip' 2 0 [(19,bv (decide (a.n=1)))] (ie ?_))
  refine zjd rfl hR ?_ ?_<;>clear hR<;>intro hR h5 h5p
  ·refine A2 10 rfl (zrl 2 8 [1] [(22,iv a.m)] (zca (B1w a.m _ rfl) fn0 (ip' 1 6 [(24,bv (K2 a.m))] ?_)))
   refine zia 5 1 24 29 (decide (a.color=Col.zero)) (fun g6=>?_) ?_
   ·refine zrl 3 2 [1,0] [(26,ag (M1 a.color)),(27,ag (M1 Col.zero))] (ix rfl (A9h (a:=a.color) (b:=Col.zero) A8a rfl rfl rfl) (ip' 1 0 [(29,bv (decide (a.color=Col.zero)))] ?_))
    exact A3 (K5 5 24 29 g6 fn0 (mk [true,true] rfl) rfl rfl rfl rfl rfl)
   refine ip' 1 0 [(4,bv ((K2 a.m)&&(decide (a.color=Col.zero))))] (A3 ?_)
   exact V8 ((K2 a.m)&&(decide (a.color=Col.zero))) hR (mk [true,true] rfl) fn0
  refine sr 2 rfl (ip' 2 0 [(30,bv (decide (a.n=2)))] (ie ?_))
  refine zjd rfl hR ?_ ?_<;>clear hR<;>intro hR h7 h7p
  ·refine A2 25 rfl (zrl 4 21 [1] [(35,bv (decide (a.m=3)))] ?_)
   refine zir 14 7 35 49 (((K2 a.m)&&(!decide (a.m=1)))&&(!decide (a.m=2))) (fun g8 g8p=>?_) ?_
   ·refine zrl 2 12 [1] [(37,iv a.m)] (zca (B1w a.m _ rfl) fn0 (ip' 1 10 [(39,bv (K2 a.m))] ?_))
    refine zia 4 6 39 43 (!decide (a.m=1)) (fun g9=>?_) ?_
    ·refine zrl 4 0 [1] [(43,bv (!decide (a.m=1)))] ?_
     exact A3 (K5 2 39 43 g9 fn0 (mk [true,true] rfl) rfl rfl rfl rfl rfl)
    refine ip' 1 5 [(44,bv ((K2 a.m)&&(!decide (a.m=1))))] ?_
    refine zia 4 1 44 48 (!decide (a.m=2)) (fun g10=>?_) ?_
    ·have g10p:=g10;try simp at g10p
     refine zrl 4 0 [1] [(48,bv (!decide (a.m=2)))] ?_
     exact A3 (K5 2 44 48 g10 fn0 (mk [true,true] rfl) rfl rfl rfl rfl rfl)
    refine ip' 1 0 [(49,bv (((K2 a.m)&&(!decide (a.m=1)))&&(!decide (a.m=2))))] ?_
    exact A3 (K5 8 35 49 g8 fn0 (mk [true,true] rfl) rfl rfl rfl rfl rfl)
   refine ip' 1 6 [(50,bv ((decide (a.m=3))||(((K2 a.m)&&(!decide (a.m=1)))&&(!decide (a.m=2)))))] ?_
   refine zia 5 1 50 55 (decide (a.color=Col.zero)) (fun g11=>?_) ?_
   ·have g11p:=g11;try simp at g11p
    refine zrl 3 2 [1,0] [(52,ag (M1 a.color)),(53,ag (M1 Col.zero))] (ix rfl (A9h (a:=a.color) (b:=Col.zero) A8a rfl rfl rfl) (ip' 1 0 [(55,bv (decide (a.color=Col.zero)))] ?_))
    exact A3 (K5 5 50 55 g11 fn0 (mk [true,true] rfl) rfl rfl rfl rfl rfl)
   refine ip' 1 0 [(4,bv (((decide (a.m=3))||(((K2 a.m)&&(!decide (a.m=1)))&&(!decide (a.m=2))))&&(decide (a.color=Col.zero))))] (A3 ?_)
   exact V8 (((decide (a.m=3))||(((K2 a.m)&&(!decide (a.m=1)))&&(!decide (a.m=2))))&&(decide (a.color=Col.zero))) hR (mk [true,true] rfl) fn0
  refine sr 2 rfl (ip' 2 0 [(56,bv (decide (a.n=3)))] (ie ?_))
  refine zjd rfl hR ?_ ?_<;>clear hR<;>intro hR h12 h12p
  ·refine A2 15 rfl (zrl 4 11 [1] [(61,bv (decide ((0:Int)≤a.m)))] ?_)
   refine zid 4 7 61 65 (decide (a.m≤5)) (fun g13 g13p=>?_) ?_
   ·refine zrl 4 0 [1] [(65,bv (decide (a.m≤5)))] ?_
    exact A3 (K5 2 61 65 g13 fn0 (mk [true,true] rfl) rfl rfl rfl rfl rfl)
   refine ip' 1 6 [(66,bv ((decide ((0:Int)≤a.m))&&(decide (a.m≤5))))] ?_
   refine zia 5 1 66 71 (decide (a.color=Col.zero)) (fun g14=>?_) ?_
   ·have g14p:((0:Int)≤a.m)∧(a.m≤5):=by simpa using g14
    refine zrl 3 2 [1,0] [(68,ag (M1 a.color)),(69,ag (M1 Col.zero))] (ix rfl (A9h (a:=a.color) (b:=Col.zero) A8a rfl rfl rfl) (ip' 1 0 [(71,bv (decide (a.color=Col.zero)))] ?_))
    exact A3 (K5 5 66 71 g14 fn0 (mk [true,true] rfl) rfl rfl rfl rfl rfl)
   refine ip' 1 0 [(4,bv (((decide ((0:Int)≤a.m))&&(decide (a.m≤5)))&&(decide (a.color=Col.zero))))] (A3 ?_)
   exact V8 (((decide ((0:Int)≤a.m))&&(decide (a.m≤5)))&&(decide (a.color=Col.zero))) hR (mk [true,true] rfl) fn0
  refine B6l (fun (t72:Bool)=>(Z1 a t72=R,[(1,pt b1 0),(4,bv false),(72,bv t72)],[bx b2 (M1 Col.zero) 24,bx b1 (A0 a) 26],[])) ?_ ?_
  ·refine sr 2 rfl (ip' 2 0 [(72,bv (decide (a.n=4)))] (ie ?_))
   refine zjd rfl hR ?_ ?_<;>clear hR<;>intro hR h15 h15p
   ·refine A4 ?_
    exact V8 (decide (a.n=4)) hR (mk [true,true] rfl) fn0
   refine sr 2 rfl (ip' 2 0 [(72,bv (decide (a.n=5)))] (ie ?_))
   refine zjd rfl hR ?_ ?_<;>clear hR<;>intro hR h16 h16p
   ·refine A4 ?_
    exact V8 (decide (a.n=5)) hR (mk [true,true] rfl) fn0
   refine A2 2 rfl (ip' 2 0 [(72,bv (decide (a.n=6)))] (A3 ?_))
   exact V8 (decide (a.n=6)) hR (mk [true,true] rfl) fn0
  intro t72
  rintro hR
  replace hR:=(Z1.eq_1 ..).symm.trans hR
  refine zjb rfl hR ?_ ?_<;>clear hR<;>intro hR h17
  ·refine A2 10 rfl (zrl 4 6 [1] [(79,bv (decide (a.m=0)))] ?_)
   refine zid 5 1 79 84 (decide ((J0 a.color)=0)) (fun g18 g18p=>?_) ?_
   ·refine zrl 2 3 [1] [(81,ag (M1 a.color))] (zca (B2e a.color _ rfl) fn0 (ip' 2 0 [(84,bv (decide ((J0 a.color)=0)))] ?_))
    exact A3 (K5 4 79 84 g18 fn0 (mk [true,true] rfl) rfl rfl rfl rfl rfl)
   refine ip' 1 0 [(4,bv ((decide (a.m=0))&&(decide ((J0 a.color)=0))))] (A3 ?_)
   exact V8 ((decide (a.m=0))&&(decide ((J0 a.color)=0))) hR (mk [true,true] rfl) fn0
  refine A4 ?_
  exact V8 false hR (mk [true,true] rfl) fn0
 intro is
 rintro hR
 replace hR:=(P5.eq_1 ..).symm.trans hR
 refine A7 (sr 12 rfl (zrl 4 8 [1] [(88,bv (!decide (a.kind=39)))] ?_))
 refine zio 4 4 88 92 (!(decide (a.text=([]:List UInt8)))) (fun g19=>?_) ?_
 ·have g19p:¬ (¬ a.kind=39):=by simpa using g19
  refine zrl 2 2 [1] [(90,sv a.text)] (ix rfl (V0 rfl rfl rfl) (ip' 1 0 [(92,bv (!(decide (a.text=([]:List UInt8)))))] ?_))
  exact A3 (K5 4 88 92 g19 fn0 (mk [true,true] rfl) rfl rfl rfl rfl rfl)
 refine ip' 1 3 [(93,bv ((!decide (a.kind=39))||(!(decide (a.text=([]:List UInt8))))))] ?_
 refine zio 3 0 93 96 (!is) (fun g20=>?_) ?_
 ·have g20p:¬ ((¬ a.kind=39)∨(¬ a.text=([]:List UInt8))):=by simpa using g20
  refine ip' 3 0 [(96,bv (!is))] ?_
  exact A3 (K5 2 93 96 g20 fn0 (mk [true,true] rfl) rfl rfl rfl rfl rfl)
 refine ie ?_
 refine zjb rfl hR ?_ ?_<;>clear hR<;>intro hR h21
 ·have h21p:=h21;try simp at h21p
  refine sr 1 rfl (ip' 1 0 [(2,iv 141)] ?_)
  subst hR
  refine ie (A5 ?_)
  exact C8 hr hD
 have h21p:=h21;try simp at h21p
 refine A4 (nx (sr 1 rfl (ip' 1 0 [(2,iv 0)] ?_)))
 subst hR
 refine ie (A5 ?_)
 exact C8 hr hD
def A7a:Int×Int×Int :=
 (0,0,0)
theorem C6c:0≤(A7a).2.2∧(A7a).2.2≤4:=by unfold A7a;decide
theorem C7j (R:Int×Int×Int) (hR:A7a=R):I5 Tryz.prog 227 [.slice none 0 0] [] (.tuple #[iv R.1,iv R.2.1,iv R.2.2]):=by
 refine zco Tryz.func227 [(0,.slice none 0 0)] fun X hX hr hD=>?_
 replace hR:=(A7a.eq_1 ..).symm.trans hR
 refine sr 3 rfl (ip' 3 0 [] (ie (A7 (sr 3 rfl (ip' 3 0 [(12,bv true)] (ie (N1 rfl (sr 3 rfl (ip' 3 0 [(2,iv 0),(3,iv 0),(4,iv 0)] ?_)))))))))
 subst hR
 refine ie (A5 ?_)
 exact zer hr hD (D7b rfl (B7 rfl) (B7 rfl) (B7 rfl)) () (mk [] rfl) fn0
abbrev zlo:List Int:=([0,0,128,2048,65536]:List Int)
abbrev zhi:List Int:=([0,127,2047,65535,1114111]:List Int)
def B7j:Bool×Bool :=
 (B8 A7a fun (y0:Int×Int×Int)=>(bif (decide (y0.2.2=0)) then (false,false) else (((decide ((if (zlo.getD ((y0.2.2).toNat) 0) > y0.1 then (zlo.getD ((y0.2.2).toNat) 0) else y0.1)≤(if (zhi.getD ((y0.2.2).toNat) 0)<y0.2.1 then (zhi.getD ((y0.2.2).toNat) 0) else y0.2.1)))&&(!((decide ((55296:Int)≤(if (zlo.getD ((y0.2.2).toNat) 0) > y0.1 then (zlo.getD ((y0.2.2).toNat) 0) else y0.1)))&&(decide ((if (zhi.getD ((y0.2.2).toNat) 0)<y0.2.1 then (zhi.getD ((y0.2.2).toNat) 0) else y0.2.1)≤57343))))),(((decide ((if (zlo.getD ((y0.2.2).toNat) 0) > y0.1 then (zlo.getD ((y0.2.2).toNat) 0) else y0.1)≤(if (zhi.getD ((y0.2.2).toNat) 0)<y0.2.1 then (zhi.getD ((y0.2.2).toNat) 0) else y0.2.1)))&&(!((decide ((55296:Int)≤(if (zlo.getD ((y0.2.2).toNat) 0) > y0.1 then (zlo.getD ((y0.2.2).toNat) 0) else y0.1)))&&(decide ((if (zhi.getD ((y0.2.2).toNat) 0)<y0.2.1 then (zhi.getD ((y0.2.2).toNat) 0) else y0.2.1)≤57343)))))&&(decide ((0:Int)=y0.2.2))))))
theorem C8f (R:Bool×Bool) (hR:B7j=R):I5 Tryz.prog 226 [.slice none 0 0] [] (.tuple #[bv R.1,bv R.2]):=by
 refine zco Tryz.func226 [(0,.slice none 0 0)] fun X hX hr hD=>?_
 replace hR:=(B7j.eq_1 ..).symm.trans hR
 refine sr 2 rfl (ip' 2 0 [] (ie (sr 9 rfl (ip' 1 8 [(11,.slice none 0 0)] ?_))))
 have hQ:=C2 hR;clear hR;obtain ⟨y0,hy0,hR⟩:=hQ
 refine zca (C7j y0 hy0) fn0 ?_
 have:=C6c ;try rw [hy0] at this
 refine ip' 7 0 [(4,iv y0.1),(5,iv y0.2.1),(6,iv y0.2.2)] (ie (A7 (sr 2 rfl (ip' 2 0 [(17,bv (decide (y0.2.2=0)))] (ie ?_)))))
 refine zjd rfl hR ?_ ?_<;>clear hR<;>intro hR h1 h1p
 ·refine sr 2 rfl (ip' 2 0 [(2,bv false),(3,bv false)] ?_)
  subst hR
  refine ie (A5 ?_)
  exact A0v hr hD
 refine A4 (nx (sr 3 rfl (O5 3 0 [0] (fun b2=>[(7,pt b2 0)]) (fun b2=>[bx b2 [iv 0,iv 0,iv 128,iv 2048,iv 65536] 85]) (fun b2=>(ie (sr 3 rfl (O5 3 0 [0] (fun b3=>[(8,pt b3 0)]) (fun b3=>[bx b3 [iv 0,iv 127,iv 2047,iv 65535,iv 1114111] 85,bx b2 [iv 0,iv 0,iv 128,iv 2048,iv 65536] 85]) (fun b3=>(ie (sd 12 rfl (by kernel_rfl) rfl (dp' 2 10 [(20,iv y0.1),(21,iv y0.2.2)] (dd rfl (U9 Tryz.underlying85 ty3 rfl rfl rfl ((y0.2.2).toNat) (by omega) (by omega)) ?_))))))))))))
 refine dd rfl (N5 (u:=iv (zlo.getD ((y0.2.2).toNat) 0)) (c:=D8) (xs:=zlo) (j:=[]) (sz:=1) ty3 (fun _=>rfl) rfl rfl 1 rfl ((y0.2.2).toNat) 0 rfl (gd 0 (by simp only [List.length_cons,List.length_nil];omega)) rfl) (dp' 3 5 [(24,iv (if (zlo.getD ((y0.2.2).toNat) 0) > y0.1 then (zlo.getD ((y0.2.2).toNat) 0) else y0.1)),(25,iv y0.2.1),(26,iv y0.2.2)] ?_)
 have:=C8e y0.1 (zlo.getD ((y0.2.2).toNat) 0)
 refine dd rfl (U9 Tryz.underlying85 ty3 rfl rfl rfl ((y0.2.2).toNat) (by omega) (by omega)) ?_
 refine dd rfl (N5 (u:=iv (zhi.getD ((y0.2.2).toNat) 0)) (c:=D8) (xs:=zhi) (j:=[]) (sz:=1) ty3 (fun _=>rfl) rfl rfl 0 rfl ((y0.2.2).toNat) 0 rfl (gd 0 (by simp only [List.length_cons,List.length_nil];omega)) rfl) (dp' 3 0 [(4,iv (if (zlo.getD ((y0.2.2).toNat) 0) > y0.1 then (zlo.getD ((y0.2.2).toNat) 0) else y0.1)),(5,iv (if (zhi.getD ((y0.2.2).toNat) 0)<y0.2.1 then (zhi.getD ((y0.2.2).toNat) 0) else y0.2.1))] ?_)
 have:=C8e y0.1 (zlo.getD ((y0.2.2).toNat) 0)
 have:=C8p y0.2.1 (zhi.getD ((y0.2.2).toNat) 0)
 refine de (sr 13 rfl (ip' 4 9 [(33,bv (decide ((if (zlo.getD ((y0.2.2).toNat) 0) > y0.1 then (zlo.getD ((y0.2.2).toNat) 0) else y0.1)≤(if (zhi.getD ((y0.2.2).toNat) 0)<y0.2.1 then (zhi.getD ((y0.2.2).toNat) 0) else y0.2.1))))] ?_))
 refine zia 8 1 33 41 (!((decide ((55296:Int)≤(if (zlo.getD ((y0.2.2).toNat) 0) > y0.1 then (zlo.getD ((y0.2.2).toNat) 0) else y0.1)))&&(decide ((if (zhi.getD ((y0.2.2).toNat) 0)<y0.2.1 then (zhi.getD ((y0.2.2).toNat) 0) else y0.2.1)≤57343)))) (fun g4=>?_) ?_
 ·have g4p:(if (zlo.getD ((y0.2.2).toNat) 0) > y0.1 then (zlo.getD ((y0.2.2).toNat) 0) else y0.1)≤(if (zhi.getD ((y0.2.2).toNat) 0)<y0.2.1 then (zhi.getD ((y0.2.2).toNat) 0) else y0.2.1):=by first|exact of_decide_eq_true g4|simpa only [Bool.and_eq_true,Bool.not_eq_true',Bool.and_eq_false_imp,decide_eq_true_eq,decide_eq_false_iff_not,not_and] using g4|simpa using g4
  refine ip' 3 5 [(36,bv (decide ((55296:Int)≤(if (zlo.getD ((y0.2.2).toNat) 0) > y0.1 then (zlo.getD ((y0.2.2).toNat) 0) else y0.1))))] ?_
  refine zia 3 2 36 39 (decide ((if (zhi.getD ((y0.2.2).toNat) 0)<y0.2.1 then (zhi.getD ((y0.2.2).toNat) 0) else y0.2.1)≤57343)) (fun g5=>?_) ?_
  ·have g5p:(55296:Int)≤(if (zlo.getD ((y0.2.2).toNat) 0) > y0.1 then (zlo.getD ((y0.2.2).toNat) 0) else y0.1):=by first|exact of_decide_eq_true g5|simpa only [Bool.and_eq_true,Bool.not_eq_true',Bool.and_eq_false_imp,decide_eq_true_eq,decide_eq_false_iff_not,not_and] using g5|simpa using g5
   refine ip' 3 0 [(39,bv (decide ((if (zhi.getD ((y0.2.2).toNat) 0)<y0.2.1 then (zhi.getD ((y0.2.2).toNat) 0) else y0.2.1)≤57343)))] ?_
   exact A3 (K5 2 36 39 g5 fn0 (mk [true,true] rfl) rfl rfl rfl rfl rfl)
  refine ip' 2 0 [(41,bv (!((decide ((55296:Int)≤(if (zlo.getD ((y0.2.2).toNat) 0) > y0.1 then (zlo.getD ((y0.2.2).toNat) 0) else y0.1)))&&(decide ((if (zhi.getD ((y0.2.2).toNat) 0)<y0.2.1 then (zhi.getD ((y0.2.2).toNat) 0) else y0.2.1)≤57343)))))] ?_
  exact A3 (K5 4 33 41 g4 fn0 (mk [true,true] rfl) rfl rfl rfl rfl rfl)
 refine ip' 1 0 [(9,bv ((decide ((if (zlo.getD ((y0.2.2).toNat) 0) > y0.1 then (zlo.getD ((y0.2.2).toNat) 0) else y0.1)≤(if (zhi.getD ((y0.2.2).toNat) 0)<y0.2.1 then (zhi.getD ((y0.2.2).toNat) 0) else y0.2.1)))&&(!((decide ((55296:Int)≤(if (zlo.getD ((y0.2.2).toNat) 0) > y0.1 then (zlo.getD ((y0.2.2).toNat) 0) else y0.1)))&&(decide ((if (zhi.getD ((y0.2.2).toNat) 0)<y0.2.1 then (zhi.getD ((y0.2.2).toNat) 0) else y0.2.1)≤57343))))))] (ie (sr 10 rfl (ip' 3 7 [(42,bv ((decide ((if (zlo.getD ((y0.2.2).toNat) 0) > y0.1 then (zlo.getD ((y0.2.2).toNat) 0) else y0.1)≤(if (zhi.getD ((y0.2.2).toNat) 0)<y0.2.1 then (zhi.getD ((y0.2.2).toNat) 0) else y0.2.1)))&&(!((decide ((55296:Int)≤(if (zlo.getD ((y0.2.2).toNat) 0) > y0.1 then (zlo.getD ((y0.2.2).toNat) 0) else y0.1)))&&(decide ((if (zhi.getD ((y0.2.2).toNat) 0)<y0.2.1 then (zhi.getD ((y0.2.2).toNat) 0) else y0.2.1)≤57343)))))),(44,bv ((decide ((if (zlo.getD ((y0.2.2).toNat) 0) > y0.1 then (zlo.getD ((y0.2.2).toNat) 0) else y0.1)≤(if (zhi.getD ((y0.2.2).toNat) 0)<y0.2.1 then (zhi.getD ((y0.2.2).toNat) 0) else y0.2.1)))&&(!((decide ((55296:Int)≤(if (zlo.getD ((y0.2.2).toNat) 0) > y0.1 then (zlo.getD ((y0.2.2).toNat) 0) else y0.1)))&&(decide ((if (zhi.getD ((y0.2.2).toNat) 0)<y0.2.1 then (zhi.getD ((y0.2.2).toNat) 0) else y0.2.1)≤57343))))))] ?_)))
 refine zia 5 2 44 49 (decide ((0:Int)=y0.2.2)) (fun g6=>?_) ?_
 ·have g6p:((if (zlo.getD ((y0.2.2).toNat) 0) > y0.1 then (zlo.getD ((y0.2.2).toNat) 0) else y0.1)≤(if (zhi.getD ((y0.2.2).toNat) 0)<y0.2.1 then (zhi.getD ((y0.2.2).toNat) 0) else y0.2.1))∧(¬ (((55296:Int)≤(if (zlo.getD ((y0.2.2).toNat) 0) > y0.1 then (zlo.getD ((y0.2.2).toNat) 0) else y0.1))∧((if (zhi.getD ((y0.2.2).toNat) 0)<y0.2.1 then (zhi.getD ((y0.2.2).toNat) 0) else y0.2.1)≤57343))):=by first|exact of_decide_eq_true g6|simpa only [Bool.and_eq_true,Bool.not_eq_true',Bool.and_eq_false_imp,decide_eq_true_eq,decide_eq_false_iff_not,not_and] using g6|simpa using g6
  refine ip' 5 0 [(49,bv (decide ((0:Int)=y0.2.2)))] ?_
  exact A3 (K5 2 44 49 g6 fn0 (mk [true,true] rfl) rfl rfl rfl rfl rfl)
 refine ip' 2 0 [(2,bv ((decide ((if (zlo.getD ((y0.2.2).toNat) 0) > y0.1 then (zlo.getD ((y0.2.2).toNat) 0) else y0.1)≤(if (zhi.getD ((y0.2.2).toNat) 0)<y0.2.1 then (zhi.getD ((y0.2.2).toNat) 0) else y0.2.1)))&&(!((decide ((55296:Int)≤(if (zlo.getD ((y0.2.2).toNat) 0) > y0.1 then (zlo.getD ((y0.2.2).toNat) 0) else y0.1)))&&(decide ((if (zhi.getD ((y0.2.2).toNat) 0)<y0.2.1 then (zhi.getD ((y0.2.2).toNat) 0) else y0.2.1)≤57343)))))),(3,bv (((decide ((if (zlo.getD ((y0.2.2).toNat) 0) > y0.1 then (zlo.getD ((y0.2.2).toNat) 0) else y0.1)≤(if (zhi.getD ((y0.2.2).toNat) 0)<y0.2.1 then (zhi.getD ((y0.2.2).toNat) 0) else y0.2.1)))&&(!((decide ((55296:Int)≤(if (zlo.getD ((y0.2.2).toNat) 0) > y0.1 then (zlo.getD ((y0.2.2).toNat) 0) else y0.1)))&&(decide ((if (zhi.getD ((y0.2.2).toNat) 0)<y0.2.1 then (zhi.getD ((y0.2.2).toNat) 0) else y0.2.1)≤57343)))))&&(decide ((0:Int)=y0.2.2))))] ?_
 subst hR
 refine ie (A5 ?_)
 exact A0v hr hD
def A8q:Bool :=
 (B8 B7j fun (y4:Bool×Bool)=>true)
theorem C5k (R:Bool) (hR:A8q=R):I5 Tryz.prog 225 [.slice none 0 0] [] (bv R):=by
 refine zco Tryz.func225 [(0,.slice none 0 0)] fun X hX hr hD=>?_
 replace hR:=(A8q.eq_1 ..).symm.trans hR
 refine sr 1 rfl (ip' 1 0 [] (ie (sr 7 rfl (ip' 1 6 [(6,.slice none 0 0)] ?_))))
 have hQ:=C2 hR;clear hR;obtain ⟨y4,hy4,hR⟩:=hQ
 refine zca (C8f y4 hy4) fn0 (ip' 5 0 [(3,bv y4.1),(4,bv y4.2)] (ie (sr 11 rfl (ip' 11 0 [(2,bv true)] ?_))))
 subst hR
 refine ie (A5 ?_)
 exact C8 hr hD
def G9 (b:UInt8):Int×Int :=
 (bif (decide ((b.toNat:Int)<128)) then (1,(b.toNat:Int)) else (bif ((decide ((192:Int)≤(b.toNat:Int)))&&(decide ((b.toNat:Int)<224))) then (2,((b.toNat:Int) - 192)) else (bif ((decide ((224:Int)≤(b.toNat:Int)))&&(decide ((b.toNat:Int)<240))) then (3,((b.toNat:Int) - 224)) else (bif ((decide ((240:Int)≤(b.toNat:Int)))&&(decide ((b.toNat:Int)<248))) then (4,((b.toNat:Int) - 240)) else (0,0)))))
theorem B5l (b:UInt8):(0≤(G9 b).1∧(G9 b).1≤4)∧0≤(G9 b).2∧(G9 b).2≤127:=by
 have:=b.toNat_lt
 unfold G9
 by_cases h1:(b.toNat:Int)<128
 ·rw [decide_eq_true h1];simp only [cond_true];omega
 ·rw [decide_eq_false h1,cond_false]
  by_cases h2:(192:Int)≤(b.toNat:Int)∧(b.toNat:Int)<224
  ·rw [show ((decide ((192:Int)≤(b.toNat:Int)))&&(decide ((b.toNat:Int)<224)))=true by simp only [Bool.and_eq_true,decide_eq_true_eq];exact h2,cond_true];dsimp only;omega
  ·rw [show ((decide ((192:Int)≤(b.toNat:Int)))&&(decide ((b.toNat:Int)<224)))=false by simp only [Bool.and_eq_false_iff,decide_eq_false_iff_not];omega,cond_false]
   by_cases h3:(224:Int)≤(b.toNat:Int)∧(b.toNat:Int)<240
   ·rw [show ((decide ((224:Int)≤(b.toNat:Int)))&&(decide ((b.toNat:Int)<240)))=true by simp only [Bool.and_eq_true,decide_eq_true_eq];exact h3,cond_true];dsimp only;omega
   ·rw [show ((decide ((224:Int)≤(b.toNat:Int)))&&(decide ((b.toNat:Int)<240)))=false by simp only [Bool.and_eq_false_iff,decide_eq_false_iff_not];omega,cond_false]
    by_cases h4:(240:Int)≤(b.toNat:Int)∧(b.toNat:Int)<248
    ·rw [show ((decide ((240:Int)≤(b.toNat:Int)))&&(decide ((b.toNat:Int)<248)))=true by simp only [Bool.and_eq_true,decide_eq_true_eq];exact h4,cond_true];dsimp only;omega
    ·rw [show ((decide ((240:Int)≤(b.toNat:Int)))&&(decide ((b.toNat:Int)<248)))=false by simp only [Bool.and_eq_false_iff,decide_eq_false_iff_not];omega,cond_false];dsimp only;omega
theorem C5h (b:UInt8) (R:Int×Int) (hR:G9 b=R):I5 Tryz.prog 239 [.int .u8 (b.toNat:Int)] [] (.tuple #[iv R.1,iv R.2]):=by
 refine zco Tryz.func239 [(0,.int .u8 (b.toNat:Int))] fun X hX hr hD=>?_
 unfold G9 at hR
 refine sr 2 rfl (ip' 2 0 [] (ie (A7 (sr 2 rfl (ip' 2 0 [(5,bv (decide ((b.toNat:Int)<128)))] (ie ?_))))))
 refine zjd rfl hR ?_ ?_<;>clear hR<;>intro hR h1 h1p
 ·refine sr 4 rfl (ip' 1 3 [(6,.int .u8 (b.toNat:Int))] (ix rfl (N8 (c:=(b.toNat:Int)) Tryz.underlying3 (by kernel_rfl) rfl rfl (Y7 b)) (ip' 2 0 [(2,iv 1),(3,iv (b.toNat:Int))] ?_)))
  subst hR
  refine ie (A5 ?_)
  exact A0v hr hD
 refine A4 (nx (A7 (sr 6 rfl (ip' 3 3 [(10,bv (decide ((192:Int)≤(b.toNat:Int))))] ?_))))
 refine zid 3 0 10 13 (decide ((b.toNat:Int)<224)) (fun g2 g2p=>?_) ?_
 ·refine ip' 3 0 [(13,bv (decide ((b.toNat:Int)<224)))] ?_
  exact A3 (K5 2 10 13 g2 fn0 (mk [] rfl) rfl rfl rfl rfl rfl)
 refine ie ?_
 refine zja rfl hR ?_ ?_<;>clear hR<;>intro hR h3 h3p
 ·refine sr 5 rfl (ip' 1 4 [(14,.int .u8 (b.toNat:Int))] (ix rfl (N8 (c:=(b.toNat:Int)) Tryz.underlying3 (by kernel_rfl) rfl rfl (Y7 b)) (ix rfl (N9 rfl rfl rfl rfl (by omega)) (ip' 2 0 [(2,iv 2),(3,iv ((b.toNat:Int) - 192))] ?_))))
  subst hR
  refine ie (A5 ?_)
  exact A0v hr hD
 refine A4 (nx (A7 (sr 6 rfl (ip' 3 3 [(19,bv (decide ((224:Int)≤(b.toNat:Int))))] ?_))))
 refine zid 3 0 19 22 (decide ((b.toNat:Int)<240)) (fun g4 g4p=>?_) ?_
 ·refine ip' 3 0 [(22,bv (decide ((b.toNat:Int)<240)))] ?_
  exact A3 (K5 2 19 22 g4 fn0 (mk [] rfl) rfl rfl rfl rfl rfl)
 refine ie ?_
 refine zja rfl hR ?_ ?_<;>clear hR<;>intro hR h5 h5p
 ·refine sr 5 rfl (ip' 1 4 [(23,.int .u8 (b.toNat:Int))] (ix rfl (N8 (c:=(b.toNat:Int)) Tryz.underlying3 (by kernel_rfl) rfl rfl (Y7 b)) (ix rfl (N9 rfl rfl rfl rfl (by omega)) (ip' 2 0 [(2,iv 3),(3,iv ((b.toNat:Int) - 224))] ?_))))
  subst hR
  refine ie (A5 ?_)
  exact A0v hr hD
 refine A4 (nx (A7 (sr 6 rfl (ip' 3 3 [(28,bv (decide ((240:Int)≤(b.toNat:Int))))] ?_))))
 refine zid 3 0 28 31 (decide ((b.toNat:Int)<248)) (fun g6 g6p=>?_) ?_
 ·refine ip' 3 0 [(31,bv (decide ((b.toNat:Int)<248)))] ?_
  exact A3 (K5 2 28 31 g6 fn0 (mk [] rfl) rfl rfl rfl rfl rfl)
 refine ie ?_
 refine zja rfl hR ?_ ?_<;>clear hR<;>intro hR h7 h7p
 ·refine sr 5 rfl (ip' 1 4 [(32,.int .u8 (b.toNat:Int))] (ix rfl (N8 (c:=(b.toNat:Int)) Tryz.underlying3 (by kernel_rfl) rfl rfl (Y7 b)) (ix rfl (N9 rfl rfl rfl rfl (by omega)) (ip' 2 0 [(2,iv 4),(3,iv ((b.toNat:Int) - 240))] ?_))))
  subst hR
  refine ie (A5 ?_)
  exact A0v hr hD
 refine A4 (nx (sr 2 rfl (ip' 2 0 [(2,iv 0),(3,iv 0)] ?_)))
 subst hR
 refine ie (A5 ?_)
 exact A0v hr hD
def F4 (p:List UInt8) (y13:Int×Int):Nat→Int→Int→Nat→(Int×Int×Int)
 | 0,_,_,_=>(0,0,0)
 | fu1+1,low,high,i=>(bif (decide ((i:Int)<y13.1)) then (bif (decide ((i:Int)<(p.length:Int))) then (bif ((decide (((p.getD i 0).toNat:Int)<128))||(decide ((191:Int)<((p.getD i 0).toNat:Int)))) then (0,0,0) else F4 p y13 fu1 (IntKind.i64.wrap ((IntKind.i64.wrap (low * (64:Int)))+(((p.getD i 0).toNat:Int) - 128))) (IntKind.i64.wrap ((IntKind.i64.wrap ((IntKind.i64.wrap ((IntKind.i64.wrap (high * (64:Int)))+(63:Int))) - (63:Int)))+(((p.getD i 0).toNat:Int) - 128))) (i+1)) else F4 p y13 fu1 (IntKind.i64.wrap (low * (64:Int))) (IntKind.i64.wrap ((IntKind.i64.wrap (high * (64:Int)))+(63:Int))) (i+1)) else (bif (decide (y13.1<(p.length:Int))) then (0,0,0) else (low,high,y13.1)))
def L3 (p:List UInt8):Int×Int×Int :=
 (bif (decide ((p.length:Int)=0)) then (0,0,0) else (B8 (G9 (p.getD 0 0)) fun (y13:Int×Int)=>F4 p y13 ((y13.1 - (1:Int)).toNat+1) y13.2 y13.2 1))
theorem A6d (p:List UInt8) (f:Int×Int) (hf:0≤f.1∧f.1≤4):∀ (fu:Nat) (low high:Int) (i:Nat),0≤(F4 p f fu low high i).2.2∧(F4 p f fu low high i).2.2≤4∧((F4 p f fu low high i).2.2≠0→(p.length:Int)≤4)
 | 0,low,high,i=>by simp [F4]
 | fu+1,low,high,i=>by
  simp only [F4]
  cases (decide ((i:Int)<f.1)) with
  | true =>
   rw [cond_true]
   cases (decide ((i:Int)<(p.length:Int))) with
   | true =>
    rw [cond_true]
    generalize ((decide (((p.getD i 0).toNat:Int)<128))||(decide ((191:Int)<((p.getD i 0).toNat:Int))))=c
    cases c with
    | true=>simp
    | false=>rw [cond_false];exact A6d p f hf fu _ _ _
   | false=>rw [cond_false];exact A6d p f hf fu _ _ _
  | false =>
   rw [cond_false]
   by_cases h:f.1<(p.length:Int)
   ·rw [decide_eq_true h,cond_true];simp
   ·rw [decide_eq_false h,cond_false];dsimp only;omega
theorem A6l (p:List UInt8):0≤(L3 p).2.2∧(L3 p).2.2≤4∧((L3 p).2.2≠0→(p.length:Int)≤4):=by
 unfold L3
 cases (decide ((p.length:Int)=0)) with
 | true=>simp
 | false=>rw [cond_false];simp only [B8];exact A6d p _ (B5l _).1 _ _ _ _
theorem B2j (p:List UInt8) (pq:Option Addr) (pk:Nat) (hlp:p.length≤9223372036854775807) (hcp:p.length≤pk) (R:Int×Int×Int) (hR:L3 p=R):I5 Tryz.prog 227 [.slice pq p.length pk] [sl cU8 pq p] (.tuple #[iv R.1,iv R.2.1,iv R.2.2]):=by
 refine zco Tryz.func227 [(0,.slice pq p.length pk)] fun X hX hr hD=>?_
 replace hR:=(L3.eq_1 ..).symm.trans hR
 refine sr 3 rfl (ip' 3 0 [] (ie (A7 (sr 3 rfl (ip' 3 0 [(12,bv (decide ((p.length:Int)=0)))] (ie ?_))))))
 refine zjd rfl hR ?_ ?_<;>clear hR<;>intro hR h1 h1p
 ·refine sr 3 rfl (ip' 3 0 [(2,iv 0),(3,iv 0),(4,iv 0)] ?_)
  subst hR
  refine ie (A5 ?_)
  exact zer hr hD (D7b rfl (B7 rfl) (B7 rfl) (B7 rfl)) () (mk [] rfl) fn0
 refine A4 (nx (sr 9 rfl (ip' 1 8 [(14,.slice pq p.length pk)] (K9 0 rfl (by omega) fun a2 hq3=>(ix rfl (G3 A1j rfl rfl hq3 rfl 0 rfl (by omega)) (ix rfl (C4 (v:=.int .u8 ((p.getD 0 0).toNat:Int)) (us:=[.int .u8 ((p.getD 0 0).toNat:Int)]) ty5 rfl rfl (I4 (c:=cU8) (sz:=1) hq3 (fun _=>rfl) 0 rfl (gd 0 (by omega))) rfl) ?_))))))
 have hQ:=C2 hR;clear hR;obtain ⟨y13,hy13,hR⟩:=hQ
 refine zca (C5h (p.getD 0 0) y13 hy13) fn0 ?_
 have:=B5l (p.getD 0 0);try rw [hy13] at this
 refine ip' 5 0 [(5,iv y13.1),(6,iv y13.2)] (ie (sr 2 rfl (ip' 2 0 [(7,iv y13.2)] (ie (A7 (sr 1 rfl (ip' 1 0 [(8,iv 1)] (ie (B1 (B7z (fun (fu:Nat) (low:Int) (high:Int) (i:Nat)=>((y13.1 - (i:Int)).toNat<fu∧F4 p y13 fu low high i=R,[(0,.slice pq p.length pk),(5,iv y13.1),(6,iv low),(7,iv high),(8,iv (i:Int))],[],[sl cU8 pq p],fu)) ((y13.1 - (1:Int)).toNat+1) y13.2 y13.2 1 ⟨(Nat.lt_succ_self _),hR⟩ (mk [] rfl) A1.refl ?_))))))))))
 rintro fu low high i ⟨hm4,hR⟩
 obtain ⟨fu1,rfl⟩:∃ m,fu=m+1:=⟨fu - 1,by omega⟩
 replace hR:=(F4.eq_2 ..).symm.trans hR
 refine A7 (sr 3 rfl (ip' 3 0 [(23,bv (decide ((i:Int)<y13.1)))] ?_))
 refine ie ?_
 refine zjd rfl hR ?_ ?_<;>clear hR<;>intro hR h5 h5p
 ·refine A4 (nx (A7 (B1 (sr 7 rfl (ip' 1 6 [(26,iv low)] (ix rfl (G4.pure rfl) (ip' 1 4 [(28,iv high)] (ix rfl (G4.pure rfl) (ix rfl (G4.pure rfl) (ip' 2 0 [(6,iv (IntKind.i64.wrap (low * (64:Int)))),(7,iv (IntKind.i64.wrap ((IntKind.i64.wrap (high * (64:Int)))+(63:Int))))] (ie (sr 4 rfl (ip' 4 0 [(34,bv (decide ((i:Int)<(p.length:Int))))] ?_)))))))))))))
  refine ie ?_
  refine zjd rfl hR ?_ ?_<;>clear hR<;>intro hR h6 h6p
  ·refine A7 (sr 12 rfl (ip' 2 10 [(35,.slice pq p.length pk),(36,iv (i:Int))] ?_))
   refine ix rfl (G3 A1j rfl rfl hq3 rfl i rfl (by omega)) (ix rfl (C4 (v:=.int .u8 ((p.getD i 0).toNat:Int)) (us:=[.int .u8 ((p.getD i 0).toNat:Int)]) ty5 rfl rfl (I4 (c:=cU8) (sz:=1) hq3 (fun _=>rfl) 0 rfl (gd 0 (by omega))) rfl) (ip' 2 6 [(40,bv (decide (((p.getD i 0).toNat:Int)<128)))] ?_))
   refine zir 6 0 40 46 (decide ((191:Int)<((p.getD i 0).toNat:Int))) (fun g7 g7p=>?_) ?_
   ·refine ip' 2 4 [(41,.slice pq p.length pk),(42,iv (i:Int))] (ix rfl (G3 A1j rfl rfl hq3 rfl i rfl (by omega)) (ix rfl (C4 (v:=.int .u8 ((p.getD i 0).toNat:Int)) (us:=[.int .u8 ((p.getD i 0).toNat:Int)]) ty5 rfl rfl (I4 (c:=cU8) (sz:=1) hq3 (fun _=>rfl) 0 rfl (gd 0 (by omega))) rfl) (ip' 2 0 [(46,bv (decide ((191:Int)<((p.getD i 0).toNat:Int))))] ?_)))
    exact zai 6 40 46 g7
   refine ie ?_
   refine zjo rfl hR ?_ ?_<;>clear hR<;>intro hR h8 h8p
   ·refine sr 3 rfl (ip' 3 0 [(2,iv 0),(3,iv 0),(4,iv 0)] ?_)
    subst hR
    refine ie (A5 ?_)
    exact zer hr hD (D7b rfl (B7 rfl) (B7 rfl) (B7 rfl)) () (mk [] rfl) fn0
   refine A4 (nx (sr 7 rfl (ip' 2 5 [(47,.slice pq p.length pk),(48,iv (i:Int))] (ix rfl (G3 A1j rfl rfl hq3 rfl i rfl (by omega)) (ix rfl (C4 (v:=.int .u8 ((p.getD i 0).toNat:Int)) (us:=[.int .u8 ((p.getD i 0).toNat:Int)]) ty5 rfl rfl (I4 (c:=cU8) (sz:=1) hq3 (fun _=>rfl) 0 rfl (gd 0 (by omega))) rfl) (ix rfl (N8 (c:=((p.getD i 0).toNat:Int)) Tryz.underlying3 (by kernel_rfl) rfl rfl (Y7 (p.getD i 0))) (ix rfl (N9 rfl rfl rfl rfl (by omega)) (ip' 1 0 [(9,iv (((p.getD i 0).toNat:Int) - 128))] (ie (A2 9 rfl (ip' 2 7 [(53,iv (IntKind.i64.wrap (low * (64:Int)))),(54,iv (((p.getD i 0).toNat:Int) - 128))] ?_)))))))))))
   refine ix rfl (G4.pure rfl) (ip' 1 5 [(56,iv (IntKind.i64.wrap ((IntKind.i64.wrap (high * (64:Int)))+(63:Int))))] (ix rfl (G4.pure rfl) (ip' 1 3 [(58,iv (((p.getD i 0).toNat:Int) - 128))] (ix rfl (G4.pure rfl) (ip' 2 0 [(6,iv (IntKind.i64.wrap ((IntKind.i64.wrap (low * (64:Int)))+(((p.getD i 0).toNat:Int) - 128)))),(7,iv (IntKind.i64.wrap ((IntKind.i64.wrap ((IntKind.i64.wrap ((IntKind.i64.wrap (high * (64:Int)))+(63:Int))) - (63:Int)))+(((p.getD i 0).toNat:Int) - 128))))] (A3 (nx (A2 3 rfl (ip' 1 2 [(24,iv (i:Int))] ?_)))))))))
   refine ix rfl (B5 rfl rfl rfl rfl (by omega)) (ip' 1 0 [(8,iv ((i:Int)+1))] (A3 ?_))
   exact B4p (z1:=(fu1+1)) (z2:=low) (z3:=high) (z4:=i) fu1 (IntKind.i64.wrap ((IntKind.i64.wrap (low * (64:Int)))+(((p.getD i 0).toNat:Int) - 128))) (IntKind.i64.wrap ((IntKind.i64.wrap ((IntKind.i64.wrap ((IntKind.i64.wrap (high * (64:Int)))+(63:Int))) - (63:Int)))+(((p.getD i 0).toNat:Int) - 128))) (i+1) ⟨(by omega),hR⟩ (Nat.lt_succ_self _) (mk [] rfl) A1.refl
  refine A4 (nx (A2 3 rfl (ip' 1 2 [(24,iv (i:Int))] (ix rfl (B5 rfl rfl rfl rfl (by omega)) (ip' 1 0 [(8,iv ((i:Int)+1))] (A3 ?_))))))
  exact B4p (z1:=(fu1+1)) (z2:=low) (z3:=high) (z4:=i) fu1 (IntKind.i64.wrap (low * (64:Int))) (IntKind.i64.wrap ((IntKind.i64.wrap (high * (64:Int)))+(63:Int))) (i+1) ⟨(by omega),hR⟩ (Nat.lt_succ_self _) (mk [] rfl) A1.refl
 refine G6 (nx (A7 (sr 4 rfl (ip' 4 0 [(63,bv (decide (y13.1<(p.length:Int))))] ?_))))
 refine ie ?_
 refine zjd rfl hR ?_ ?_<;>clear hR<;>intro hR h9 h9p
 ·refine sr 3 rfl (ip' 3 0 [(2,iv 0),(3,iv 0),(4,iv 0)] ?_)
  subst hR
  refine ie (A5 ?_)
  exact zer hr hD (D7b rfl (B7 rfl) (B7 rfl) (B7 rfl)) () (mk [] rfl) fn0
 refine A4 (nx (sr 6 rfl (ip' 6 0 [(2,iv low),(3,iv high),(4,iv y13.1)] ?_)))
 subst hR
 refine ie (A5 ?_)
 exact zer hr hD (D7b rfl (B7 rfl) (B7 rfl) (B7 rfl)) () (mk [] rfl) fn0
def N6 (p:List UInt8):Bool×Bool :=
 (B8 (L3 p) fun (y1:Int×Int×Int)=>(bif (decide (y1.2.2=0)) then (false,false) else (((decide ((if (zlo.getD ((y1.2.2).toNat) 0) > y1.1 then (zlo.getD ((y1.2.2).toNat) 0) else y1.1)≤(if (zhi.getD ((y1.2.2).toNat) 0)<y1.2.1 then (zhi.getD ((y1.2.2).toNat) 0) else y1.2.1)))&&(!((decide ((55296:Int)≤(if (zlo.getD ((y1.2.2).toNat) 0) > y1.1 then (zlo.getD ((y1.2.2).toNat) 0) else y1.1)))&&(decide ((if (zhi.getD ((y1.2.2).toNat) 0)<y1.2.1 then (zhi.getD ((y1.2.2).toNat) 0) else y1.2.1)≤57343))))),(((decide ((if (zlo.getD ((y1.2.2).toNat) 0) > y1.1 then (zlo.getD ((y1.2.2).toNat) 0) else y1.1)≤(if (zhi.getD ((y1.2.2).toNat) 0)<y1.2.1 then (zhi.getD ((y1.2.2).toNat) 0) else y1.2.1)))&&(!((decide ((55296:Int)≤(if (zlo.getD ((y1.2.2).toNat) 0) > y1.1 then (zlo.getD ((y1.2.2).toNat) 0) else y1.1)))&&(decide ((if (zhi.getD ((y1.2.2).toNat) 0)<y1.2.1 then (zhi.getD ((y1.2.2).toNat) 0) else y1.2.1)≤57343)))))&&(decide ((p.length:Int)=y1.2.2))))))
theorem C3v (p:List UInt8) (h:(N6 p).1=true):(p.length:Int)≤4:=by
 unfold N6 at h
 simp only [B8] at h
 by_cases e:(L3 p).2.2=0
 ·rw [decide_eq_true e] at h;simp at h
 ·exact (A6l p).2.2 e
theorem B2o (p:List UInt8) (pq:Option Addr) (pk:Nat) (hlp:p.length≤9223372036854775807) (hcp:p.length≤pk) (R:Bool×Bool) (hR:N6 p=R):I5 Tryz.prog 226 [.slice pq p.length pk] [sl cU8 pq p] (.tuple #[bv R.1,bv R.2]):=by
 refine zco Tryz.func226 [(0,.slice pq p.length pk)] fun X hX hr hD=>?_
 replace hR:=(N6.eq_1 ..).symm.trans hR
 refine sr 2 rfl (ip' 2 0 [] (ie (sr 9 rfl (ip' 1 8 [(11,.slice pq p.length pk)] ?_))))
 have hQ:=C2 hR;clear hR;obtain ⟨y1,hy1,hR⟩:=hQ
 refine zca (B2j p pq pk (by first|omega|(simp<;>omega)|(dsimp only;omega)|decide) (by first|omega|(simp<;>omega)|(dsimp only;omega)|decide) y1 hy1) A1.refl ?_
 have:=A6l p;try rw [hy1] at this
 refine ip' 7 0 [(4,iv y1.1),(5,iv y1.2.1),(6,iv y1.2.2)] (ie (A7 (sr 2 rfl (ip' 2 0 [(17,bv (decide (y1.2.2=0)))] (ie ?_)))))
 refine zjd rfl hR ?_ ?_<;>clear hR<;>intro hR h1 h1p
 ·refine sr 2 rfl (ip' 2 0 [(2,bv false),(3,bv false)] ?_)
  subst hR
  refine ie (A5 ?_)
  exact A0v hr hD
 refine A4 (nx (sr 3 rfl (O5 3 0 [0] (fun b2=>[(7,pt b2 0)]) (fun b2=>[bx b2 [iv 0,iv 0,iv 128,iv 2048,iv 65536] 85]) (fun b2=>(ie (sr 3 rfl (O5 3 0 [0] (fun b3=>[(8,pt b3 0)]) (fun b3=>[bx b3 [iv 0,iv 127,iv 2047,iv 65535,iv 1114111] 85,bx b2 [iv 0,iv 0,iv 128,iv 2048,iv 65536] 85]) (fun b3=>(ie (sd 12 rfl (by kernel_rfl) rfl (dp' 2 10 [(20,iv y1.1),(21,iv y1.2.2)] (dd rfl (U9 Tryz.underlying85 ty3 rfl rfl rfl ((y1.2.2).toNat) (by omega) (by omega)) ?_))))))))))))
 refine dd rfl (N5 (u:=iv (zlo.getD ((y1.2.2).toNat) 0)) (c:=D8) (xs:=zlo) (j:=[]) (sz:=1) ty3 (fun _=>rfl) rfl rfl 1 rfl ((y1.2.2).toNat) 0 rfl (gd 0 (by simp only [List.length_cons,List.length_nil];omega)) rfl) (dp' 3 5 [(24,iv (if (zlo.getD ((y1.2.2).toNat) 0) > y1.1 then (zlo.getD ((y1.2.2).toNat) 0) else y1.1)),(25,iv y1.2.1),(26,iv y1.2.2)] ?_)
 have:=C8e y1.1 (zlo.getD ((y1.2.2).toNat) 0)
 refine dd rfl (U9 Tryz.underlying85 ty3 rfl rfl rfl ((y1.2.2).toNat) (by omega) (by omega)) ?_
 refine dd rfl (N5 (u:=iv (zhi.getD ((y1.2.2).toNat) 0)) (c:=D8) (xs:=zhi) (j:=[]) (sz:=1) ty3 (fun _=>rfl) rfl rfl 0 rfl ((y1.2.2).toNat) 0 rfl (gd 0 (by simp only [List.length_cons,List.length_nil];omega)) rfl) (dp' 3 0 [(4,iv (if (zlo.getD ((y1.2.2).toNat) 0) > y1.1 then (zlo.getD ((y1.2.2).toNat) 0) else y1.1)),(5,iv (if (zhi.getD ((y1.2.2).toNat) 0)<y1.2.1 then (zhi.getD ((y1.2.2).toNat) 0) else y1.2.1))] ?_)
 have:=C8e y1.1 (zlo.getD ((y1.2.2).toNat) 0)
 have:=C8p y1.2.1 (zhi.getD ((y1.2.2).toNat) 0)
 refine de (sr 13 rfl (ip' 4 9 [(33,bv (decide ((if (zlo.getD ((y1.2.2).toNat) 0) > y1.1 then (zlo.getD ((y1.2.2).toNat) 0) else y1.1)≤(if (zhi.getD ((y1.2.2).toNat) 0)<y1.2.1 then (zhi.getD ((y1.2.2).toNat) 0) else y1.2.1))))] ?_))
 refine zia 8 1 33 41 (!((decide ((55296:Int)≤(if (zlo.getD ((y1.2.2).toNat) 0) > y1.1 then (zlo.getD ((y1.2.2).toNat) 0) else y1.1)))&&(decide ((if (zhi.getD ((y1.2.2).toNat) 0)<y1.2.1 then (zhi.getD ((y1.2.2).toNat) 0) else y1.2.1)≤57343)))) (fun g4=>?_) ?_
 ·have g4p:(if (zlo.getD ((y1.2.2).toNat) 0) > y1.1 then (zlo.getD ((y1.2.2).toNat) 0) else y1.1)≤(if (zhi.getD ((y1.2.2).toNat) 0)<y1.2.1 then (zhi.getD ((y1.2.2).toNat) 0) else y1.2.1):=by first|exact of_decide_eq_true g4|simpa only [Bool.and_eq_true,Bool.not_eq_true',Bool.and_eq_false_imp,decide_eq_true_eq,decide_eq_false_iff_not,not_and] using g4|simpa using g4
  refine ip' 3 5 [(36,bv (decide ((55296:Int)≤(if (zlo.getD ((y1.2.2).toNat) 0) > y1.1 then (zlo.getD ((y1.2.2).toNat) 0) else y1.1))))] ?_
  refine zia 3 2 36 39 (decide ((if (zhi.getD ((y1.2.2).toNat) 0)<y1.2.1 then (zhi.getD ((y1.2.2).toNat) 0) else y1.2.1)≤57343)) (fun g5=>?_) ?_
  ·have g5p:(55296:Int)≤(if (zlo.getD ((y1.2.2).toNat) 0) > y1.1 then (zlo.getD ((y1.2.2).toNat) 0) else y1.1):=by first|exact of_decide_eq_true g5|simpa only [Bool.and_eq_true,Bool.not_eq_true',Bool.and_eq_false_imp,decide_eq_true_eq,decide_eq_false_iff_not,not_and] using g5|simpa using g5
   refine ip' 3 0 [(39,bv (decide ((if (zhi.getD ((y1.2.2).toNat) 0)<y1.2.1 then (zhi.getD ((y1.2.2).toNat) 0) else y1.2.1)≤57343)))] ?_
   exact zai 2 36 39 g5
  refine ip' 2 0 [(41,bv (!((decide ((55296:Int)≤(if (zlo.getD ((y1.2.2).toNat) 0) > y1.1 then (zlo.getD ((y1.2.2).toNat) 0) else y1.1)))&&(decide ((if (zhi.getD ((y1.2.2).toNat) 0)<y1.2.1 then (zhi.getD ((y1.2.2).toNat) 0) else y1.2.1)≤57343)))))] ?_
  exact zai 4 33 41 g4
 refine ip' 1 0 [(9,bv ((decide ((if (zlo.getD ((y1.2.2).toNat) 0) > y1.1 then (zlo.getD ((y1.2.2).toNat) 0) else y1.1)≤(if (zhi.getD ((y1.2.2).toNat) 0)<y1.2.1 then (zhi.getD ((y1.2.2).toNat) 0) else y1.2.1)))&&(!((decide ((55296:Int)≤(if (zlo.getD ((y1.2.2).toNat) 0) > y1.1 then (zlo.getD ((y1.2.2).toNat) 0) else y1.1)))&&(decide ((if (zhi.getD ((y1.2.2).toNat) 0)<y1.2.1 then (zhi.getD ((y1.2.2).toNat) 0) else y1.2.1)≤57343))))))] (ie (sr 10 rfl (ip' 3 7 [(42,bv ((decide ((if (zlo.getD ((y1.2.2).toNat) 0) > y1.1 then (zlo.getD ((y1.2.2).toNat) 0) else y1.1)≤(if (zhi.getD ((y1.2.2).toNat) 0)<y1.2.1 then (zhi.getD ((y1.2.2).toNat) 0) else y1.2.1)))&&(!((decide ((55296:Int)≤(if (zlo.getD ((y1.2.2).toNat) 0) > y1.1 then (zlo.getD ((y1.2.2).toNat) 0) else y1.1)))&&(decide ((if (zhi.getD ((y1.2.2).toNat) 0)<y1.2.1 then (zhi.getD ((y1.2.2).toNat) 0) else y1.2.1)≤57343)))))),(44,bv ((decide ((if (zlo.getD ((y1.2.2).toNat) 0) > y1.1 then (zlo.getD ((y1.2.2).toNat) 0) else y1.1)≤(if (zhi.getD ((y1.2.2).toNat) 0)<y1.2.1 then (zhi.getD ((y1.2.2).toNat) 0) else y1.2.1)))&&(!((decide ((55296:Int)≤(if (zlo.getD ((y1.2.2).toNat) 0) > y1.1 then (zlo.getD ((y1.2.2).toNat) 0) else y1.1)))&&(decide ((if (zhi.getD ((y1.2.2).toNat) 0)<y1.2.1 then (zhi.getD ((y1.2.2).toNat) 0) else y1.2.1)≤57343))))))] ?_)))
 refine zia 5 2 44 49 (decide ((p.length:Int)=y1.2.2)) (fun g6=>?_) ?_
 ·have g6p:((if (zlo.getD ((y1.2.2).toNat) 0) > y1.1 then (zlo.getD ((y1.2.2).toNat) 0) else y1.1)≤(if (zhi.getD ((y1.2.2).toNat) 0)<y1.2.1 then (zhi.getD ((y1.2.2).toNat) 0) else y1.2.1))∧(¬ (((55296:Int)≤(if (zlo.getD ((y1.2.2).toNat) 0) > y1.1 then (zlo.getD ((y1.2.2).toNat) 0) else y1.1))∧((if (zhi.getD ((y1.2.2).toNat) 0)<y1.2.1 then (zhi.getD ((y1.2.2).toNat) 0) else y1.2.1)≤57343))):=by first|exact of_decide_eq_true g6|simpa only [Bool.and_eq_true,Bool.not_eq_true',Bool.and_eq_false_imp,decide_eq_true_eq,decide_eq_false_iff_not,not_and] using g6|simpa using g6
  refine ip' 5 0 [(49,bv (decide ((p.length:Int)=y1.2.2)))] ?_
  exact zai 2 44 49 g6
 refine ip' 2 0 [(2,bv ((decide ((if (zlo.getD ((y1.2.2).toNat) 0) > y1.1 then (zlo.getD ((y1.2.2).toNat) 0) else y1.1)≤(if (zhi.getD ((y1.2.2).toNat) 0)<y1.2.1 then (zhi.getD ((y1.2.2).toNat) 0) else y1.2.1)))&&(!((decide ((55296:Int)≤(if (zlo.getD ((y1.2.2).toNat) 0) > y1.1 then (zlo.getD ((y1.2.2).toNat) 0) else y1.1)))&&(decide ((if (zhi.getD ((y1.2.2).toNat) 0)<y1.2.1 then (zhi.getD ((y1.2.2).toNat) 0) else y1.2.1)≤57343)))))),(3,bv (((decide ((if (zlo.getD ((y1.2.2).toNat) 0) > y1.1 then (zlo.getD ((y1.2.2).toNat) 0) else y1.1)≤(if (zhi.getD ((y1.2.2).toNat) 0)<y1.2.1 then (zhi.getD ((y1.2.2).toNat) 0) else y1.2.1)))&&(!((decide ((55296:Int)≤(if (zlo.getD ((y1.2.2).toNat) 0) > y1.1 then (zlo.getD ((y1.2.2).toNat) 0) else y1.1)))&&(decide ((if (zhi.getD ((y1.2.2).toNat) 0)<y1.2.1 then (zhi.getD ((y1.2.2).toNat) 0) else y1.2.1)≤57343)))))&&(decide ((p.length:Int)=y1.2.2))))] ?_
 subst hR
 refine ie (A5 ?_)
 exact A0v hr hD
def Y3 (b:UInt8):List UInt8×List Int :=
 (B8 (N6 (([]:List UInt8)++([b]:List UInt8))) fun (y6:Bool×Bool)=>(bif y6.2 then (B8 (L3 (([]:List UInt8)++([b]:List UInt8))) fun (y1:Int×Int×Int)=>(([]:List UInt8),([y1.1]:List Int))) else (bif y6.1 then ((([]:List UInt8)++([b]:List UInt8)),([]:List Int)) else (([]:List UInt8),([65533]:List Int)))))
def A3u (b:UInt8):List UInt8×List Int :=
 (bif (!A8q) then Y3 b else Y3 b)
theorem B8y (b:UInt8):(Y3 b).1.length≤4∧(Y3 b).2.length≤2:=by
 unfold Y3
 simp only [B8]
 cases (N6 (([]:List UInt8)++([b]:List UInt8))).2<;>cases (N6 (([]:List UInt8)++([b]:List UInt8))).1<;>simp
theorem B5v (b:UInt8):(A3u b).1.length≤4∧(A3u b).2.length≤2:=by
 unfold A3u
 cases (!A8q)<;>simp only [cond_true,cond_false]<;>exact B8y b
theorem C9e (b:UInt8) (hp:([]:List UInt8).length≤4) (R:List UInt8×List Int) (hR:A3u b=R):Con Tryz.prog 212 [.slice none 0 0,.int .u8 (b.toNat:Int)] [] [] ({t:Option Addr×Nat // R.1.length≤t.2∧R.1.length≤9223372036854775807}×{t:Option Addr×Nat // R.2.length≤t.2∧R.2.length≤9223372036854775807}) (fun x=>.tuple #[.slice x.1.1.1 R.1.length x.1.1.2,.slice x.2.1.1 R.2.length x.2.1.2]) (fun x=>[]) (fun x=>[sl cU8 x.1.1.1 R.1,sl D8 x.2.1.1 R.2]):=by
 refine zco Tryz.func212 [(0,.slice none 0 0),(1,.int .u8 (b.toNat:Int))] fun X hX hr hD=>?_
 replace hR:=(A3u.eq_1 ..).symm.trans hR
 refine sr 2 rfl (ip' 2 0 [] ?_)
 refine ie (B6l (fun (_:Unit)=>(Y3 b=R,[(0,.slice none 0 0),(1,.int .u8 (b.toNat:Int))],[],[])) ?_ ?_)
 ·refine sr 3 rfl (ip' 1 2 [(14,.slice none 0 0)] (zca (C5k _ rfl) fn0 (ip' 1 0 [(16,bv (!A8q))] (ie ?_))))
  refine zjb rfl hR ?_ ?_<;>clear hR<;>intro hR h1
  ·refine A2 1 rfl (ip' 1 0 [(0,.slice none 0 0)] (A3 ?_))
   exact V8 () hR (mk [] rfl) fn0
  refine A4 ?_
  exact V8 () hR (mk [] rfl) fn0
 intro _
 rintro hR
 replace hR:=(Y3.eq_1 ..).symm.trans hR
 refine sr 7 rfl (it rfl (A6i A1j rfl rfl) fun b2=>?_)
 have:([]:List UInt8).length=0:=rfl
 refine ip' 1 5 [(18,.slice none 0 0)] (ix rfl (D2r B1u rfl rfl rfl rfl rfl rfl (by first|omega|exact Nat.zero_le _|exact VOk.cap (show VOk 1 0 _ from ⟨rfl,Nat.zero_le _,Nat.zero_le _⟩))) ?_)
 have:([]:List UInt8).length=0:=rfl
 refine ip' 1 3 [(20,.int .u8 (b.toNat:Int))] (it rfl (B4 (c:=cU8) (xs:=([b]:List UInt8)) A1j rfl rfl rfl (by kernel_rfl)) fun b3=>?_)
 have:([b]:List UInt8).length=1:=rfl
 refine it rfl (A5c (f:=cU8) (r:=(⟨some b2,0,[]⟩:VR)) (xs:=([]:List UInt8)) (ys:=([b]:List UInt8)) (pre:=[]) (post:=[]) B1u (fun _=>rfl) (fun _=>rfl) rfl rfl rfl rfl rfl rfl rfl rfl rfl (A9 0 rfl) (show VOk 1 0 _ from ⟨rfl,Nat.zero_le _,Nat.zero_le _⟩) (by first|omega|(simp<;>omega)) (by first|omega|(simp<;>omega))) fun ⟨r4,hr5⟩=>?_
 have:=VOk.le hr5
 have:=VOk.cap hr5
 refine ip' 1 0 [(6,.slice (va r4.q) ((([]:List UInt8)++([b]:List UInt8)).length) r4.k)] (ie (sr 7 rfl (ip' 1 6 [(24,.slice (va r4.q) ((([]:List UInt8)++([b]:List UInt8)).length) r4.k)] ?_)))
 have:=VOk.cap hr5
 have:=VOk.le hr5
 refine Y5 [] [] (T:=5) (c:=cU8) (r:=r4) (xs:=(([]:List UInt8)++([b]:List UInt8))) hr5 (by first|rfl|simp) ?_
 have hQ:=C2 hR;clear hR;obtain ⟨y6,hy6,hR⟩:=hQ
 refine zca (B2o (([]:List UInt8)++([b]:List UInt8)) (va r4.q) r4.k (by first|omega|(simp<;>omega)|(dsimp only;omega)|decide) (by first|omega|(simp<;>omega)|(dsimp only;omega)|decide) y6 hy6) (A1.pick [0] rfl) (ip' 5 0 [(7,bv y6.1),(8,bv y6.2)] (ie (A7 (sr 1 rfl (ip' 1 0 [(28,bv y6.2)] (ie ?_))))))
 refine zjb rfl hR ?_ ?_<;>clear hR<;>intro hR h6
 ·refine sr 9 rfl (ip' 1 8 [(30,.slice (va r4.q) ((([]:List UInt8)++([b]:List UInt8)).length) r4.k)] ?_)
  have hQ:=C2 hR;clear hR;obtain ⟨y1,hy1,hR⟩:=hQ
  refine zca (B2j (([]:List UInt8)++([b]:List UInt8)) (va r4.q) r4.k (by first|omega|(simp<;>omega)|(dsimp only;omega)|decide) (by first|omega|(simp<;>omega)|(dsimp only;omega)|decide) y1 hy1) (A1.pick [0] rfl) ?_
  have:=A6l (([]:List UInt8)++([b]:List UInt8));try rw [hy1] at this
  refine ip' 7 0 [(9,iv y1.1)] (ie (sr 4 rfl (ip' 1 3 [(35,iv y1.1)] (it rfl (B4 (c:=D8) (xs:=([y1.1]:List Int)) F8 rfl rfl rfl (by kernel_rfl)) fun b7=>?_))))
  have:([y1.1]:List Int).length=1:=rfl
  refine ip' 2 0 [(4,.slice none 0 0),(5,.slice (some ⟨b7,0,none⟩) 1 1)] ?_
  subst hR
  refine ie (A5 ?_)
  exact zer hr hD (A6b rfl (B7 rfl) (B7 rfl)) ((zq none 0),(zq (some ⟨b7,0,none⟩) 1)) (mk [] rfl) (A1.con1 A2q (A1.con1 (A9 0 rfl) fn0))
 refine A4 (nx (A7 (sr 1 rfl (ip' 1 0 [(37,bv y6.1)] (ie ?_)))))
 refine zjb rfl hR ?_ ?_<;>clear hR<;>intro hR h8
 ·refine sr 3 rfl (ip' 3 0 [(4,.slice (va r4.q) ((([]:List UInt8)++([b]:List UInt8)).length) r4.k),(5,.slice none 0 0)] ?_)
  subst hR
  refine ie (A5 ?_)
  exact zer hr hD (A6b rfl (B7 rfl) (B7 rfl)) ((zq (va r4.q) r4.k),(zq none 0)) (mk [] rfl) (A1.con1 (A9 0 rfl) (A1.con1 A2q fn0))
 refine A4 (nx (A7 (sr 3 rfl (ip' 3 0 [(41,bv true)] (ie (N1 rfl (sr 3 rfl (it rfl (B4 (c:=D8) (xs:=([65533]:List Int)) F8 rfl rfl rfl (by kernel_rfl)) fun b9=>?_))))))))
 have:([65533]:List Int).length=1:=rfl
 refine ip' 2 0 [(4,.slice none 0 0),(5,.slice (some ⟨b9,0,none⟩) 1 1)] ?_
 subst hR
 refine ie (A5 ?_)
 exact zer hr hD (A6b rfl (B7 rfl) (B7 rfl)) ((zq none 0),(zq (some ⟨b9,0,none⟩) 1)) (mk [] rfl) (A1.con1 A2q (A1.con1 (A9 0 rfl) fn0))
def U6 (p:List UInt8):Bool :=
 (B8 (N6 p) fun (y6:Bool×Bool)=>((decide ((p.length:Int)=0))||(y6.1&&(!y6.2))))
theorem B4q (p:List UInt8) (pq:Option Addr) (pk:Nat) (hlp:p.length≤9223372036854775807) (hcp:p.length≤pk) (R:Bool) (hR:U6 p=R):I5 Tryz.prog 225 [.slice pq p.length pk] [sl cU8 pq p] (bv R):=by
 refine zco Tryz.func225 [(0,.slice pq p.length pk)] fun X hX hr hD=>?_
 replace hR:=(U6.eq_1 ..).symm.trans hR
 refine sr 1 rfl (ip' 1 0 [] (ie (sr 7 rfl (ip' 1 6 [(6,.slice pq p.length pk)] ?_))))
 have hQ:=C2 hR;clear hR;obtain ⟨y6,hy6,hR⟩:=hQ
 refine zca (B2o p pq pk (by first|omega|(simp<;>omega)|(dsimp only;omega)|decide) (by first|omega|(simp<;>omega)|(dsimp only;omega)|decide) y6 hy6) A1.refl (ip' 5 0 [(3,bv y6.1),(4,bv y6.2)] (ie (sr 11 rfl (ip' 4 7 [(13,bv (decide ((p.length:Int)=0)))] ?_))))
 refine zir 6 1 13 19 (y6.1&&(!y6.2)) (fun g1 g1p=>?_) ?_
 ·refine ip' 2 4 [(15,bv y6.1)] ?_
  refine zia 3 1 15 18 (!y6.2) (fun g2=>?_) ?_
  ·refine ip' 3 0 [(18,bv (!y6.2))] ?_
   exact zai 2 15 18 g2
  refine ip' 1 0 [(19,bv (y6.1&&(!y6.2)))] ?_
  exact zai 4 13 19 g1
 refine ip' 1 0 [(2,bv ((decide ((p.length:Int)=0))||(y6.1&&(!y6.2))))] ?_
 subst hR
 refine ie (A5 ?_)
 exact C8 hr hD
def W2 (b:UInt8) (pending1:List UInt8):List UInt8×List Int :=
 (B8 (N6 ((([]:List UInt8)++pending1)++([b]:List UInt8))) fun (y6:Bool×Bool)=>(bif y6.2 then (B8 (L3 ((([]:List UInt8)++pending1)++([b]:List UInt8))) fun (y1:Int×Int×Int)=>(([]:List UInt8),([y1.1]:List Int))) else (bif y6.1 then (((([]:List UInt8)++pending1)++([b]:List UInt8)),([]:List Int)) else (bif (decide ((pending1.length:Int)=0)) then (([]:List UInt8),([65533]:List Int)) else (B8 (A3u b) fun (y9:List UInt8×List Int)=>(y9.1,(([65533]:List Int)++y9.2)))))))
def A0h (pending:List UInt8) (b:UInt8):List UInt8×List Int :=
 (bif (!(U6 pending)) then W2 b ([]:List UInt8) else W2 b pending)
theorem B7t (b:UInt8) (p:List UInt8):(W2 b p).1.length≤4∧(W2 b p).2.length≤3:=by
 unfold W2
 simp only [B8]
 have hs:=B5v b
 cases h2:(N6 ((([]:List UInt8)++p)++([b]:List UInt8))).2 with
 | true=>simp
 | false =>
  rw [cond_false]
  cases h1:(N6 ((([]:List UInt8)++p)++([b]:List UInt8))).1 with
  | true =>
   have:=C3v _ h1
   simp only [cond_true,List.length_nil];omega
  | false =>
   rw [cond_false]
   cases (decide ((p.length:Int)=0)) with
   | true=>simp
   | false=>simp only [cond_false,List.length_append,List.length_cons,List.length_nil];omega
theorem B4i (p:List UInt8) (b:UInt8):(A0h p b).1.length≤4∧(A0h p b).2.length≤3:=by
 unfold A0h
 cases (!(U6 p))<;>simp only [cond_true,cond_false]<;>exact B7t b _
theorem C5g (pending:List UInt8) (b:UInt8) (pendingq:Option Addr) (pendingk:Nat) (hlpending:pending.length≤9223372036854775807) (hcpending:pending.length≤pendingk) (hp:pending.length≤4) (R:List UInt8×List Int) (hR:A0h pending b=R):Con Tryz.prog 212 [.slice pendingq pending.length pendingk,.int .u8 (b.toNat:Int)] [] [sl cU8 pendingq pending] ({t:Option Addr×Nat // R.1.length≤t.2∧R.1.length≤9223372036854775807}×{t:Option Addr×Nat // R.2.length≤t.2∧R.2.length≤9223372036854775807}) (fun x=>.tuple #[.slice x.1.1.1 R.1.length x.1.1.2,.slice x.2.1.1 R.2.length x.2.1.2]) (fun x=>[]) (fun x=>[sl cU8 x.1.1.1 R.1,sl D8 x.2.1.1 R.2]):=by
 refine zco Tryz.func212 [(0,.slice pendingq pending.length pendingk),(1,.int .u8 (b.toNat:Int))] fun X hX hr hD=>?_
 replace hR:=(A0h.eq_1 ..).symm.trans hR
 refine sr 2 rfl (ip' 2 0 [] ?_)
 refine ie (E4k (fun (pending1:List UInt8) (pendingq1:Option Addr) (pendingk1:Nat)=>(W2 b pending1=R∧pending1.length≤pendingk1∧pending1.length≤9223372036854775807∧pending1.length≤4,[(0,.slice pendingq1 pending1.length pendingk1),(1,.int .u8 (b.toNat:Int))],[],[sl cU8 pendingq pending,sl cU8 pendingq1 pending1])) ?_ ?_)
 ·refine sr 3 rfl (ip' 1 2 [(14,.slice pendingq pending.length pendingk)] (zca (B4q pending pendingq pendingk (by first|omega|(simp<;>omega)|(dsimp only;omega)|decide) (by first|omega|(simp<;>omega)|(dsimp only;omega)|decide) _ rfl) A1.refl (ip' 1 0 [(16,bv (!(U6 pending)))] (ie ?_))))
  refine zjb rfl hR ?_ ?_<;>clear hR<;>intro hR h1
  ·refine A2 1 rfl (ip' 1 0 [(0,.slice none 0 0)] (A3 ?_))
   exact D5w ([]:List UInt8) none 0 ⟨hR,(by first|omega|(simp<;>omega)|(dsimp only;omega)|decide),(by first|omega|(simp<;>omega)|(dsimp only;omega)|decide),(by first|omega|(simp<;>omega))⟩ (mk [] rfl) (A1.con1 (A9 0 rfl) (A1.con1 A2q fn0))
  refine A4 ?_
  exact D5w pending pendingq pendingk ⟨hR,(by first|omega|(simp<;>omega)|(dsimp only;omega)|decide),(by first|omega|(simp<;>omega)|(dsimp only;omega)|decide),(by first|omega|(simp<;>omega))⟩ (mk [] rfl) (A1.pick [0,0] rfl)
 intro pending1 pendingq1 pendingk1
 rintro ⟨hR,hcpending1,hlpending1,hj⟩
 replace hR:=(W2.eq_1 ..).symm.trans hR
 refine sr 7 rfl (it rfl (A6i A1j rfl rfl) fun b2=>?_)
 have:([]:List UInt8).length=0:=rfl
 refine ip' 1 5 [(18,.slice pendingq1 pending1.length pendingk1)] (it rfl (A5e (f:=cU8) (r:=(⟨some b2,0,[]⟩:VR)) (xs:=([]:List UInt8)) (ys:=pending1) (pre:=[]) (post:=[]) B1u (fun _=>rfl) (fun _=>rfl) rfl rfl rfl rfl rfl rfl rfl rfl (A9 1 rfl) (show VOk 1 0 _ from ⟨rfl,Nat.zero_le _,Nat.zero_le _⟩) (by first|omega|(simp<;>omega)) (by first|omega|(simp<;>omega))) fun ⟨r3,hr4⟩=>?_)
 have:=VOk.le hr4
 have:=VOk.cap hr4
 refine ip' 1 3 [(20,.int .u8 (b.toNat:Int))] (it rfl (B4 (c:=cU8) (xs:=([b]:List UInt8)) A1j rfl rfl rfl (by kernel_rfl)) fun b5=>?_)
 have:([b]:List UInt8).length=1:=rfl
 refine it rfl (A5c (f:=cU8) (r:=r3) (xs:=(([]:List UInt8)++pending1)) (ys:=([b]:List UInt8)) (pre:=[]) (post:=[]) B1u (fun _=>rfl) (fun _=>rfl) rfl rfl rfl rfl rfl rfl rfl rfl rfl (A9 0 rfl) hr4 (by first|omega|(simp<;>omega)) (by first|omega|(simp<;>omega))) fun ⟨r6,hr7⟩=>?_
 have:=VOk.le hr7
 have:=VOk.cap hr7
 refine ip' 1 0 [(6,.slice (va r6.q) (((([]:List UInt8)++pending1)++([b]:List UInt8)).length) r6.k)] (ie (sr 7 rfl (ip' 1 6 [(24,.slice (va r6.q) (((([]:List UInt8)++pending1)++([b]:List UInt8)).length) r6.k)] ?_)))
 have:=VOk.cap hr7
 have:=VOk.le hr7
 refine Y5 [] [] (T:=5) (c:=cU8) (r:=r6) (xs:=((([]:List UInt8)++pending1)++([b]:List UInt8))) hr7 (by first|rfl|simp) ?_
 have hQ:=C2 hR;clear hR;obtain ⟨y6,hy6,hR⟩:=hQ
 refine zca (B2o ((([]:List UInt8)++pending1)++([b]:List UInt8)) (va r6.q) r6.k (by first|omega|(simp<;>omega)|(dsimp only;omega)|decide) (by first|omega|(simp<;>omega)|(dsimp only;omega)|decide) y6 hy6) (A1.pick [0] rfl) (ip' 5 0 [(7,bv y6.1),(8,bv y6.2)] (ie (A7 (sr 1 rfl (ip' 1 0 [(28,bv y6.2)] (ie ?_))))))
 refine zjb rfl hR ?_ ?_<;>clear hR<;>intro hR h8
 ·refine sr 9 rfl (ip' 1 8 [(30,.slice (va r6.q) (((([]:List UInt8)++pending1)++([b]:List UInt8)).length) r6.k)] ?_)
  have hQ:=C2 hR;clear hR;obtain ⟨y1,hy1,hR⟩:=hQ
  refine zca (B2j ((([]:List UInt8)++pending1)++([b]:List UInt8)) (va r6.q) r6.k (by first|omega|(simp<;>omega)|(dsimp only;omega)|decide) (by first|omega|(simp<;>omega)|(dsimp only;omega)|decide) y1 hy1) (A1.pick [0] rfl) ?_
  have:=A6l ((([]:List UInt8)++pending1)++([b]:List UInt8));try rw [hy1] at this
  refine ip' 7 0 [(9,iv y1.1)] (ie (sr 4 rfl (ip' 1 3 [(35,iv y1.1)] (it rfl (B4 (c:=D8) (xs:=([y1.1]:List Int)) F8 rfl rfl rfl (by kernel_rfl)) fun b9=>?_))))
  have:([y1.1]:List Int).length=1:=rfl
  refine ip' 2 0 [(4,.slice none 0 0),(5,.slice (some ⟨b9,0,none⟩) 1 1)] ?_
  subst hR
  refine ie (A5 ?_)
  exact zer hr hD (A6b rfl (B7 rfl) (B7 rfl)) ((zq none 0),(zq (some ⟨b9,0,none⟩) 1)) (mk [] rfl) (A1.con1 A2q (A1.con1 (A9 0 rfl) fn0))
 refine A4 (nx (A7 (sr 1 rfl (ip' 1 0 [(37,bv y6.1)] (ie ?_)))))
 refine zjb rfl hR ?_ ?_<;>clear hR<;>intro hR h10
 ·refine sr 3 rfl (ip' 3 0 [(4,.slice (va r6.q) (((([]:List UInt8)++pending1)++([b]:List UInt8)).length) r6.k),(5,.slice none 0 0)] ?_)
  subst hR
  refine ie (A5 ?_)
  exact zer hr hD (A6b rfl (B7 rfl) (B7 rfl)) ((zq (va r6.q) r6.k),(zq none 0)) (mk [] rfl) (A1.con1 (A9 0 rfl) (A1.con1 A2q fn0))
 refine A4 (nx (A7 (sr 3 rfl (ip' 3 0 [(41,bv (decide ((pending1.length:Int)=0)))] (ie ?_)))))
 refine zjd rfl hR ?_ ?_<;>clear hR<;>intro hR h11 h11p
 ·refine sr 3 rfl (it rfl (B4 (c:=D8) (xs:=([65533]:List Int)) F8 rfl rfl rfl (by kernel_rfl)) fun b12=>?_)
  have:([65533]:List Int).length=1:=rfl
  refine ip' 2 0 [(4,.slice none 0 0),(5,.slice (some ⟨b12,0,none⟩) 1 1)] ?_
  subst hR
  refine ie (A5 ?_)
  exact zer hr hD (A6b rfl (B7 rfl) (B7 rfl)) ((zq none 0),(zq (some ⟨b12,0,none⟩) 1)) (mk [] rfl) (A1.con1 A2q (A1.con1 (A9 0 rfl) fn0))
 refine A4 (nx (sr 7 rfl (ip' 1 6 [(44,.int .u8 (b.toNat:Int))] ?_)))
 have hQ:=C2 hR;clear hR;obtain ⟨y9,hy9,hR⟩:=hQ
 refine zcm (C9e b (by first|omega|(simp<;>omega)) y9 hy9) fn0 fun ⟨⟨⟨q13,k14⟩,hp15⟩,⟨⟨q18,k19⟩,hp20⟩⟩=>?_
 obtain ⟨hc16,hl17⟩:=hp15
 obtain ⟨hc21,hl22⟩:=hp20
 have:=B5v b;try rw [hy9] at this
 refine ip' 5 0 [(12,.slice q13 y9.1.length k14),(13,.slice q18 y9.2.length k19)] (ie (sr 6 rfl (ip' 1 5 [(48,.slice q13 y9.1.length k14)] (it rfl (B4 (c:=D8) (xs:=([65533]:List Int)) F8 rfl rfl rfl (by kernel_rfl)) fun b23=>?_))))
 have:([65533]:List Int).length=1:=rfl
 refine ip' 1 3 [(50,.slice q18 y9.2.length k19)] (it rfl (C2m (f:=D8) (xs:=([65533]:List Int)) (ys:=y9.2) B7e (fun _=>rfl) (fun _=>rfl) rfl rfl rfl rfl rfl rfl (by omega) (by omega) (by rfl) (A9 0 rfl) (A9 2 rfl) (by first|omega|(simp<;>omega)) (by first|omega|(simp<;>omega))) fun ⟨⟨q24,k25⟩,hq26⟩=>?_)
 refine ip' 2 0 [(4,.slice q13 y9.1.length k14),(5,.slice q24 ((([65533]:List Int)++y9.2).length) k25)] ?_
 subst hR
 refine ie (A5 ?_)
 exact zer hr hD (A6b rfl (B7 rfl) (B7 rfl)) ((zq q13 k14),(zq q24 k25)) (mk [] rfl) (A1.con1 (A9 2 rfl) (A1.con1 (A9 0 rfl) fn0))
def A5x (pending:List UInt8):List Int :=
 (bif ((decide ((0:Int)<(pending.length:Int)))&&(U6 pending)) then ([65533]:List Int) else ([]:List Int))
theorem B4h (p:List UInt8):(A5x p).length≤1:=by
 unfold A5x
 cases ((decide ((0:Int)<(p.length:Int)))&&(U6 p))<;>simp
theorem C6a (pending:List UInt8) (pendingq:Option Addr) (pendingk:Nat) (hlpending:pending.length≤9223372036854775807) (hcpending:pending.length≤pendingk) (R:List Int) (hR:A5x pending=R):Con Tryz.prog 213 [.slice pendingq pending.length pendingk] [] [sl cU8 pendingq pending] ({t:Option Addr×Nat // R.length≤t.2∧R.length≤9223372036854775807}) (fun x=>.slice x.1.1 R.length x.1.2) (fun x=>[]) (fun x=>[sl D8 x.1.1 R]):=by
 refine zco Tryz.func213 [(0,.slice pendingq pending.length pendingk)] fun X hX hr hD=>?_
 replace hR:=(A5x.eq_1 ..).symm.trans hR
 refine sr 1 rfl (ip' 1 0 [] (ie (A7 (sr 7 rfl (ip' 4 3 [(6,bv (decide ((0:Int)<(pending.length:Int))))] ?_)))))
 refine zid 3 0 6 9 (U6 pending) (fun g1 g1p=>?_) ?_
 ·refine ip' 1 2 [(7,.slice pendingq pending.length pendingk)] (zca (B4q pending pendingq pendingk (by first|omega|(simp<;>omega)|(dsimp only;omega)|decide) (by first|omega|(simp<;>omega)|(dsimp only;omega)|decide) _ rfl) A1.refl (ip' 1 0 [(9,bv (U6 pending))] ?_))
  exact zai 4 6 9 g1
 refine ie ?_
 refine zjb rfl hR ?_ ?_<;>clear hR<;>intro hR h2
 ·have h2p:=h2;try simp at h2p
  refine sr 2 rfl (it rfl (B4 (c:=D8) (xs:=([65533]:List Int)) F8 rfl rfl rfl (by kernel_rfl)) fun b3=>?_)
  have:([65533]:List Int).length=1:=rfl
  refine ip' 1 0 [(2,.slice (some ⟨b3,0,none⟩) 1 1)] ?_
  subst hR
  refine ie (A5 ?_)
  exact zer hr hD (M3 rfl (B7 rfl)) (zq (some ⟨b3,0,none⟩) 1) (mk [] rfl) (A1.con1 (A9 0 rfl) fn0)
 have h2p:=h2;try simp at h2p
 refine A4 (nx (sr 1 rfl (ip' 1 0 [(2,.slice none 0 0)] ?_)))
 subst hR
 refine ie (A5 ?_)
 exact zer hr hD (M3 rfl (B7 rfl)) (zq none 0) (mk [] rfl) (A1.con1 A2q fn0)
def Q6:List UInt8→List Int→List UInt8→Nat→List Int
 | [],out,pending,i=>(B8 (A5x pending) fun (y26:List Int)=>(out++y26))
 | hd_l0::tl_l0,out,pending,i=>(B8 (A0h pending hd_l0) fun (y17:List UInt8×List Int)=>Q6 tl_l0 (out++y17.2) y17.1 (i+1))
def A2i (s:List UInt8):List Int :=
 Q6 s ([]:List Int) ([]:List UInt8) 0
theorem B0n:∀ (xs:List UInt8) (out:List Int) (p:List UInt8) (i:Nat),(Q6 xs out p i).length≤out.length+3 * xs.length+1
 | [],out,p,i=>by
  have:=B4h p
  simp only [Q6,B8,List.length_append,List.length_nil];omega
 | x::xs,out,p,i=>by
  have:=B4i p x
  have:=B0n xs (out++(A0h p x).2) (A0h p x).1 (i+1)
  simp only [Q6,B8,List.length_append,List.length_cons] at *;omega
theorem C1s (s:List UInt8):(A2i s).length≤3 * s.length+1:=by
 have:=B0n s [] [] 0
 simp only [List.length_nil] at this
 unfold A2i;omega
theorem C5f (s:List UInt8) (hs:s.length≤1000000) (R:List Int) (hR:A2i s=R):Con Tryz.prog 189 [sv s] [] [] ({r:VR // VOk 1 R.length r}) (fun x=>.slice (va x.1.q) R.length x.1.k) (fun x=>((vo D8 3 x.1 R)++([]))) (fun x=>[]):=by
 refine zco Tryz.func189 [(0,sv s)] fun X hX hr hD=>?_
 replace hR:=(A2i.eq_1 ..).symm.trans hR
 refine sr 1 rfl (ip' 1 0 [] (ie (sr 1 rfl (ip' 1 0 [(3,.slice none 0 0)] (ie (sr 1 rfl (ip' 1 0 [(4,.slice none 0 0)] (ie (A7 (sr 1 rfl (ip' 1 0 [(5,iv 0)] (ie (B1 ?_)))))))))))))
 refine E4q (fun (out:List Int) (outr:VR) (pending:List UInt8) (pendingq:Option Addr) (pendingk:Nat) (i:Nat)=>(i≤s.length∧Q6 (s.drop i) out pending i=R∧VOk 1 out.length outr∧pending.length≤pendingk∧pending.length≤9223372036854775807∧pending.length≤4∧out.length≤3 * i,[(0,sv s),(3,.slice (va outr.q) out.length outr.k),(4,.slice pendingq pending.length pendingk),(5,iv (i:Int))],((vo D8 3 outr out)++([])),[sl cU8 pendingq pending],s.length - i)) ([]:List Int) VR.nil ([]:List UInt8) none 0 0 ⟨(by omega),hR,VOk.nil,(by first|omega|(simp<;>omega)|(dsimp only;omega)|decide),(by first|omega|(simp<;>omega)|(dsimp only;omega)|decide),(by simp),(by simp)⟩ (mc [vo D8 3 VR.nil ([]:List Int)] [true] rfl (by first|rfl|(simp only [List.length_set]<;>rfl))) (A1.con1 A2q fn0) ?_
 rintro out outr pending pendingq pendingk i ⟨hm1,hR,hokoutr,hcpending,hlpending,hpl,hol⟩
 have:=VOk.le hokoutr
 refine A7 (sr 4 rfl (ip' 4 0 [(11,bv (decide ((i:Int)<(s.length:Int))))] ?_))
 refine ie (A1f rfl (fun h2=>?_) (fun h2=>?_))
 ·have h2p:(i:Int)<(s.length:Int):=by simpa using h2
  rw [A2t 0 (show i<s.length by omega)] at hR;replace hR:=(Q6.eq_2 ..).symm.trans hR
  refine A4 (nx (A7 (B1 (sr 10 rfl (ip' 3 7 [(15,.slice pendingq pending.length pendingk),(16,sv s),(17,iv (i:Int))] (ix rfl (B0f (T:=9) Tryz.underlying9 rfl rfl rfl i rfl (by omega)) ?_))))))
  have hQ:=C2 hR;clear hR;obtain ⟨y17,hy17,hR⟩:=hQ
  refine zcm (C5g pending (s.getD i 0) pendingq pendingk (by first|omega|(simp<;>omega)|(dsimp only;omega)|decide) (by first|omega|(simp<;>omega)|(dsimp only;omega)|decide) (by first|omega|(simp<;>omega)) y17 hy17) A1.refl fun ⟨⟨⟨q3,k4⟩,hp5⟩,⟨⟨q8,k9⟩,hp10⟩⟩=>?_
  obtain ⟨hc6,hl7⟩:=hp5
  obtain ⟨hc11,hl12⟩:=hp10
  have:=B4i pending (s.getD i 0);try rw [hy17] at this
  refine ip' 5 0 [(6,.slice q3 y17.1.length k4),(7,.slice q8 y17.2.length k9)] (ie (sr 2 rfl (ip' 2 0 [(4,.slice q3 y17.1.length k4)] (ie (A2 4 rfl (ip' 2 2 [(23,.slice (va outr.q) out.length outr.k),(24,.slice q8 y17.2.length k9)] (it rfl (A5e (f:=D8) (r:=outr) (xs:=out) (ys:=y17.2) (pre:=[]) (post:=[]) B7e (fun _=>rfl) (fun _=>rfl) rfl rfl rfl rfl rfl rfl rfl rfl (A9 1 rfl) hokoutr (by first|omega|(simp<;>omega)) (by first|omega|(simp<;>omega))) fun ⟨r13,hr14⟩=>?_)))))))
  have:=@List.length_append _ out y17.2
  have:=VOk.le hr14
  have:=VOk.cap hr14
  refine ip' 1 0 [(3,.slice (va r13.q) ((out++y17.2).length) r13.k)] (A3 (nx (A2 3 rfl (ip' 1 2 [(12,iv (i:Int))] (ix rfl (B5 rfl rfl rfl rfl (by omega)) (ip' 1 0 [(5,iv ((i:Int)+1))] (A3 ?_)))))))
  exact E1q (z1:=out) (z2:=outr) (z3:=pending) (z4:=pendingq) (z5:=pendingk) (z6:=i) (out++y17.2) r13 y17.1 q3 k4 (i+1) ⟨(by omega),hR,hr14,(by first|omega|(simp<;>omega)|(dsimp only;omega)|decide),(by first|omega|(simp<;>omega)|(dsimp only;omega)|decide),(by omega),(by first|omega|(simp<;>omega))⟩ (by (try dsimp only);omega) (mc [vo D8 3 r13 (out++y17.2)] [true] rfl (by first|rfl|(simp only [List.length_set]<;>rfl))) (A1.pick [0] rfl)
 have h2p:¬ ((i:Int)<(s.length:Int)):=by simpa using h2
 rw [A3e h2p] at hR;replace hR:=(Q6.eq_1 ..).symm.trans hR
 refine G6 (nx (sr 5 rfl (ip' 2 3 [(26,.slice (va outr.q) out.length outr.k),(27,.slice pendingq pending.length pendingk)] ?_)))
 have hQ:=C2 hR;clear hR;obtain ⟨y26,hy26,hR⟩:=hQ
 refine zcm (C6a pending pendingq pendingk (by first|omega|(simp<;>omega)|(dsimp only;omega)|decide) (by first|omega|(simp<;>omega)|(dsimp only;omega)|decide) y26 hy26) A1.refl fun ⟨⟨q15,k16⟩,hp17⟩=>?_
 obtain ⟨hc18,hl19⟩:=hp17
 have:=B4h pending;try rw [hy26] at this
 refine it rfl (A5e (f:=D8) (r:=outr) (xs:=out) (ys:=y26) (pre:=[]) (post:=[]) B7e (fun _=>rfl) (fun _=>rfl) rfl rfl rfl rfl rfl rfl rfl rfl (A9 0 rfl) hokoutr (by first|omega|(simp<;>omega)) (by first|omega|(simp<;>omega))) fun ⟨r20,hr21⟩=>?_
 have:=@List.length_append _ out y26
 have:=VOk.le hr21
 have:=VOk.cap hr21
 refine ip' 1 0 [(2,.slice (va r20.q) ((out++y26).length) r20.k)] ?_
 subst hR
 refine ie (A5 ?_)
 exact zer hr hD (M3 rfl (B7 rfl)) ⟨r20,hr21⟩ (mc [vo D8 3 r20 (out++y26)] [true] rfl (by first|rfl|(simp only [List.length_set]<;>rfl))) fn0
def Q0 (cp:Int):Bool :=
 (((decide ((0:Int)≤cp))&&(decide (cp≤1114111)))&&((decide (cp<55296))||(decide ((57343:Int)<cp))))
theorem B6w (cp:Int) (R:Bool) (hR:Q0 cp=R):I5 Tryz.prog 140 [iv cp] [] (bv R):=by
 refine zco Tryz.func140 [(0,iv cp)] fun X hX hr hD=>?_
 replace hR:=(Q0.eq_1 ..).symm.trans hR
 refine sr 1 rfl (ip' 1 0 [] (ie (sr 15 rfl (ip' 3 12 [(5,bv (decide ((0:Int)≤cp)))] ?_))))
 refine zid 3 9 5 8 (decide (cp≤1114111)) (fun g1 g1p=>?_) ?_
 ·refine ip' 3 0 [(8,bv (decide (cp≤1114111)))] ?_
  exact A3 (K5 2 5 8 g1 fn0 (mk [] rfl) rfl rfl rfl rfl rfl)
 refine ip' 1 8 [(9,bv ((decide ((0:Int)≤cp))&&(decide (cp≤1114111))))] ?_
 refine zia 7 1 9 16 ((decide (cp<55296))||(decide ((57343:Int)<cp))) (fun g2=>?_) ?_
 ·have g2p:((0:Int)≤cp)∧(cp≤1114111):=by simpa using g2
  refine ip' 3 4 [(12,bv (decide (cp<55296)))] ?_
  refine zir 3 1 12 15 (decide ((57343:Int)<cp)) (fun g3 g3p=>?_) ?_
  ·refine ip' 3 0 [(15,bv (decide ((57343:Int)<cp)))] ?_
   exact A3 (K5 2 12 15 g3 fn0 (mk [] rfl) rfl rfl rfl rfl rfl)
  refine ip' 1 0 [(16,bv ((decide (cp<55296))||(decide ((57343:Int)<cp))))] ?_
  exact A3 (K5 4 9 16 g2 fn0 (mk [] rfl) rfl rfl rfl rfl rfl)
 refine ip' 1 0 [(2,bv (((decide ((0:Int)≤cp))&&(decide (cp≤1114111)))&&((decide (cp<55296))||(decide ((57343:Int)<cp)))))] ?_
 subst hR
 refine ie (A5 ?_)
 exact C8 hr hD
def F0 (cp:Int):Int :=
 (bif (decide (cp<128)) then 1 else (bif (decide (cp<2048)) then 2 else (bif (decide (cp<65536)) then 3 else 4)))
theorem B2f (cp:Int):1≤F0 cp∧F0 cp≤4:=by
 unfold F0
 cases decide (cp<128)<;>cases decide (cp<2048)<;>cases decide (cp<65536)<;>simp
theorem C9h (cp:Int) (R:Int) (hR:F0 cp=R):I5 Tryz.prog 141 [iv cp] [] (iv R):=by
 refine zco Tryz.func141 [(0,iv cp)] fun X hX hr hD=>?_
 replace hR:=(F0.eq_1 ..).symm.trans hR
 refine sr 1 rfl (ip' 1 0 [] (ie (A7 (sr 2 rfl (ip' 2 0 [(4,bv (decide (cp<128)))] (ie ?_))))))
 refine zjd rfl hR ?_ ?_<;>clear hR<;>intro hR h1 h1p
 ·refine sr 1 rfl (ip' 1 0 [(2,iv 1)] ?_)
  subst hR
  refine ie (A5 ?_)
  exact C8 hr hD
 refine A4 (nx (A7 (sr 2 rfl (ip' 2 0 [(6,bv (decide (cp<2048)))] (ie ?_)))))
 refine zjd rfl hR ?_ ?_<;>clear hR<;>intro hR h2 h2p
 ·refine sr 1 rfl (ip' 1 0 [(2,iv 2)] ?_)
  subst hR
  refine ie (A5 ?_)
  exact C8 hr hD
 refine A4 (nx (A7 (sr 2 rfl (ip' 2 0 [(8,bv (decide (cp<65536)))] (ie ?_)))))
 refine zjd rfl hR ?_ ?_<;>clear hR<;>intro hR h3 h3p
 ·refine sr 1 rfl (ip' 1 0 [(2,iv 3)] ?_)
  subst hR
  refine ie (A5 ?_)
  exact C8 hr hD
 refine A4 (nx (sr 1 rfl (ip' 1 0 [(2,iv 4)] ?_)))
 subst hR
 refine ie (A5 ?_)
 exact C8 hr hD
def O3 (cp1:Int):Nat→Int→List UInt8→Int→List UInt8
 | 0,_,_,_=>[]
 | fu1+1,cp2,b,i=>(bif (decide ((0:Int)<i)) then O3 cp1 fu1 (IntKind.i64.wrap (Int.tdiv cp2 64)) (b.set ((i).toNat) (by8 (IntKind.u8.wrap (128+(Int.tmod cp2 64))))) (i - 1) else (b.set 0 (by8 (IntKind.u8.wrap ((([0,0,192,224,240]:List Int).getD ((F0 cp1).toNat) 0)+cp2)))))
def A1b (cp1:Int):List UInt8 :=
 (bif (decide ((F0 cp1)=1)) then ([(by8 (IntKind.u8.wrap cp1))]:List UInt8) else O3 cp1 ((((F0 cp1) - 1) - (0:Int)).toNat+1) cp1 (List.replicate ((F0 cp1).toNat) (0:UInt8)) ((F0 cp1) - 1))
def A5u (cp:Int):List UInt8 :=
 (bif (!(Q0 cp)) then A1b 65533 else A1b cp)
theorem B3d (c:Int):∀ (fu:Nat) (x:Int) (b:List UInt8) (i:Int),b.length≤4→(O3 c fu x b i).length≤4
 | 0,x,b,i,h=>by simp [O3]
 | fu+1,x,b,i,h=>by
  simp only [O3]
  cases (decide ((0:Int)<i)) with
  | true=>rw [cond_true];exact B3d c fu _ _ _ (by rw [List.length_set];exact h)
  | false=>rw [cond_false,List.length_set];exact h
theorem B9m (c:Int):(A1b c).length≤4:=by
 have:=B2f c
 unfold A1b
 cases (decide ((F0 c)=1)) with
 | true=>simp
 | false=>rw [cond_false];exact B3d c _ _ _ _ (by rw [List.length_replicate];omega)
theorem B2g (c:Int):(A5u c).length≤4:=by
 unfold A5u
 cases (!(Q0 c))<;>simp only [cond_true,cond_false]<;>exact B9m _
theorem C0o (cp:Int) (R:List UInt8) (hR:A5u cp=R):I5 Tryz.prog 95 [iv cp] [] (sv R):=by
 refine zco Tryz.func95 [(0,iv cp)] fun X hX hr hD=>?_
 replace hR:=(A5u.eq_1 ..).symm.trans hR
 refine sr 1 rfl (ip' 1 0 [] ?_)
 refine ie (B6l (fun (cp1:Int)=>(A1b cp1=R∧cp1≤1114111∧0≤cp1,[(0,iv cp1)],[],[])) ?_ ?_)
 ·refine sr 3 rfl (ip' 1 2 [(7,iv cp)] (zca (B6w cp _ rfl) fn0 (ip' 1 0 [(9,bv (!(Q0 cp)))] (ie ?_))))
  refine zjb rfl hR ?_ ?_<;>clear hR<;>intro hR h1
  ·refine A2 1 rfl (ip' 1 0 [(0,iv 65533)] (A3 ?_))
   exact V8 65533 ⟨hR,(by omega)⟩ (mk [] rfl) fn0
  have hck:0≤cp∧cp≤1114111:=by have q:=h1;simp [Q0] at q;omega
  refine A4 ?_
  exact V8 cp ⟨hR,(by omega)⟩ (mk [] rfl) fn0
 intro cp1
 rintro ⟨hR,hcp⟩
 replace hR:=(A1b.eq_1 ..).symm.trans hR
 refine sr 3 rfl (ip' 1 2 [(10,iv cp1)] (zca (C9h cp1 _ rfl) fn0 ?_))
 have:=B2f cp1
 refine ip' 1 0 [(3,iv (F0 cp1))] (ie (A7 (sr 2 rfl (ip' 2 0 [(13,bv (decide ((F0 cp1)=1)))] (ie ?_)))))
 refine zjd rfl hR ?_ ?_<;>clear hR<;>intro hR h2 h2p
 ·refine sr 5 rfl (ip' 1 4 [(14,iv cp1)] (ix rfl (G5 (v:=.int .u8 (IntKind.u8.wrap cp1)) (G4.pure rfl) (A7r)) (it rfl (B4 (c:=cU8) (xs:=([(by8 (IntKind.u8.wrap cp1))]:List UInt8)) A1j rfl rfl rfl (by kernel_rfl)) fun b3=>?_)))
  have:([(by8 (IntKind.u8.wrap cp1))]:List UInt8).length=1:=rfl
  refine ix rfl (A1s Tryz.underlying9 Tryz.underlying30 rfl rfl (A9 0 rfl) rfl (by kernel_rfl)) ?_
  have:([(by8 (IntKind.u8.wrap cp1))]:List UInt8).length=1:=rfl
  refine ip' 1 0 [(2,sv ([(by8 (IntKind.u8.wrap cp1))]:List UInt8))] ?_
  subst hR
  refine ie (A5 ?_)
  exact C8 hr hD
 have hsz:=B2f cp1
 refine A4 (nx (sr 3 rfl (ip' 1 2 [(18,iv (F0 cp1))] (it rfl (D8w (f:=cU8) (l:=(F0 cp1).toNat) (c:=(F0 cp1).toNat) 0 B1u E5h.ok (fun _=>rfl) rfl (by exact congrArg (fun z=>some (Value.int .i64 z)) (show (F0 cp1)=(((F0 cp1).toNat:Nat):Int) by omega)) (by exact congrArg (fun z=>some (Value.int .i64 z)) (show (F0 cp1)=(((F0 cp1).toNat:Nat):Int) by omega)) (by omega) (by first|omega|(simp<;>omega)) (by omega)) fun ⟨r4,hr5⟩=>?_))))
 have:=VOk.le hr5
 have:=VOk.cap hr5
 refine ip' 1 0 [(4,.slice (va r4.q) ((List.replicate ((F0 cp1).toNat) (0:UInt8)).length) r4.k)] (ie (A7 (sr 3 rfl (ip' 1 2 [(20,iv (F0 cp1))] (ix rfl (N9 rfl rfl rfl rfl (by omega)) (ip' 1 0 [(5,iv ((F0 cp1) - 1))] (ie (B1 ?_))))))))
 refine E6c (fun (fu:Nat) (cp2:Int) (b:List UInt8) (br:VR) (i:Int)=>((i - (0:Int)).toNat<fu∧O3 cp1 fu cp2 b i=R∧VOk 1 b.length br∧(0≤cp2∧cp2≤1114111)∧(b.length:Int)=F0 cp1∧0≤i∧i<F0 cp1,[(0,iv cp2),(3,iv (F0 cp1)),(4,.slice (va br.q) b.length br.k),(5,iv i)],((vo cU8 5 br b)++([])),[],fu)) ((((F0 cp1) - 1) - (0:Int)).toNat+1) cp1 (List.replicate ((F0 cp1).toNat) (0:UInt8)) r4 ((F0 cp1) - 1) ⟨(Nat.lt_succ_self _),hR,hr5,(by omega),(by first|omega|(simp<;>omega)),(by omega)⟩ (mc [vo cU8 5 r4 (List.replicate ((F0 cp1).toNat) (0:UInt8))] [true] rfl (by first|rfl|(simp only [List.length_set]<;>rfl))) fn0 ?_
 rintro fu cp2 b br i ⟨hm6,hR,hokbr,hcr,hbl,hi0⟩
 have:=VOk.le hokbr
 obtain ⟨fu1,rfl⟩:∃ m,fu=m+1:=⟨fu - 1,by omega⟩
 replace hR:=(O3.eq_2 ..).symm.trans hR
 have htd:=Int.tdiv_eq_ediv_of_nonneg (a:=cp2) (b:=64) hcr.1
 have htm:=Int.tmod_eq_emod_of_nonneg (a:=cp2) (b:=64) hcr.1
 have hmk:0≤([0,0,192,224,240]:List Int).getD ((F0 cp1).toNat) 0∧([0,0,192,224,240]:List Int).getD ((F0 cp1).toNat) 0≤240:=by generalize (F0 cp1).toNat=k;rcases k with _ | _ | _ | _ | _ | k<;>simp
 refine A7 (sr 2 rfl (ip' 2 0 [(23,bv (decide ((0:Int)<i)))] ?_))
 refine ie ?_
 refine zjd rfl hR ?_ ?_<;>clear hR<;>intro hR h7 h7p
 ·refine A4 (nx (A7 (B1 (sr 8 rfl (ip' 3 5 [(26,.slice (va br.q) b.length br.k),(27,iv i),(28,iv cp2)] (ix rfl (A7n rfl rfl rfl (by decide) rfl) (ix rfl (B5 rfl rfl rfl rfl (by omega)) (ix rfl (G5 (v:=.int .u8 (IntKind.u8.wrap (128+(Int.tmod cp2 64)))) (G4.pure rfl) (A7r)) ?_))))))))
  obtain ⟨b8,hb9⟩:=VOk.some hokbr (by omega)
  obtain ⟨q10,k11,j12⟩:=br
  obtain rfl:q10=some b8:=hb9
  refine ix rfl (A7f A1j rfl rfl rfl ((i).toNat) (by omega) (by omega)) (it rfl (B2c (us:=[.int .u8 ((by8 (IntKind.u8.wrap (128+(Int.tmod cp2 64)))).toNat:Int)]) (u':=(by8 (IntKind.u8.wrap (128+(Int.tmod cp2 64))))) (c:=cU8) (sz:=1) ty5 (fun _=>rfl) rfl rfl rfl 0 rfl rfl rfl rfl ((i).toNat) 0 rfl (gd 0 (by omega)) rfl rfl) fun _=>?_)
  refine ie (A2 3 rfl (ip' 1 2 [(33,iv cp2)] (ix rfl (B3m rfl rfl rfl (by decide)) (ip' 1 0 [(0,iv (IntKind.i64.wrap (Int.tdiv cp2 64)))] (A3 (nx (A2 3 rfl (ip' 1 2 [(24,iv i)] (ix rfl (N9 rfl rfl rfl rfl (by omega)) (ip' 1 0 [(5,iv (i - 1))] (A3 ?_)))))))))))
  exact E6e (z1:=(fu1+1)) (z2:=cp2) (z3:=b) (z4:=(⟨some b8,k11,j12⟩:VR)) (z5:=i) fu1 (IntKind.i64.wrap (Int.tdiv cp2 64)) (b.set ((i).toNat) (by8 (IntKind.u8.wrap (128+(Int.tmod cp2 64))))) (⟨some b8,k11,j12⟩:VR) (i - 1) ⟨(by omega),hR,(VOk.cast hokbr (by simp)),(by rw [htd,show IntKind.i64.wrap (cp2 / 64)=cp2 / 64 from O8 (by simp [IntKind.min,IntKind.signed,IntKind.bits];omega) (by simp [IntKind.max,IntKind.signed,IntKind.bits];omega)];omega),(by first|omega|(simp<;>omega)),(by omega)⟩ (Nat.lt_succ_self _) (mc [vo cU8 5 (⟨some b8,k11,j12⟩:VR) (b.set ((i).toNat) (by8 (IntKind.u8.wrap (128+(Int.tmod cp2 64)))))] [true] rfl (by first|rfl|(simp only [List.length_set]<;>rfl))) fn0
 refine G6 (nx (sr 3 rfl (O5 3 0 [0] (fun b13=>[(6,pt b13 0)]) (fun b13=>(bx b13 [iv 0,iv 0,iv 192,iv 224,iv 240] 85::(vo cU8 5 br b)++([]))) (fun b13=>?_))))
 refine ie (sr 9 rfl (ip' 2 7 [(36,.slice (va br.q) b.length br.k),(37,iv (F0 cp1))] (ix rfl (U9 Tryz.underlying85 ty3 rfl rfl rfl ((F0 cp1).toNat) (by omega) (by omega)) ?_)))
 refine ix rfl (N5 (u:=iv (([0,0,192,224,240]:List Int).getD ((F0 cp1).toNat) 0)) (c:=D8) (xs:=([0,0,192,224,240]:List Int)) (j:=[]) (sz:=1) ty3 (fun _=>rfl) rfl rfl 0 rfl ((F0 cp1).toNat) 0 rfl (gd 0 (by simp only [List.length_cons,List.length_nil];omega)) rfl) (ip' 1 4 [(40,iv cp2)] (ix rfl (B5 rfl rfl rfl rfl (by omega)) (ix rfl (G5 (v:=.int .u8 (IntKind.u8.wrap ((([0,0,192,224,240]:List Int).getD ((F0 cp1).toNat) 0)+cp2))) (G4.pure rfl) (A7r)) ?_)))
 obtain ⟨b14,hb15⟩:=VOk.some hokbr (by omega)
 obtain ⟨q16,k17,j18⟩:=br
 obtain rfl:q16=some b14:=hb15
 refine ix rfl (A7f A1j rfl rfl rfl 0 rfl (by omega)) (it rfl (B2c (us:=[.int .u8 ((by8 (IntKind.u8.wrap ((([0,0,192,224,240]:List Int).getD ((F0 cp1).toNat) 0)+cp2))).toNat:Int)]) (u':=(by8 (IntKind.u8.wrap ((([0,0,192,224,240]:List Int).getD ((F0 cp1).toNat) 0)+cp2)))) (c:=cU8) (sz:=1) ty5 (fun _=>rfl) rfl rfl rfl 1 rfl rfl rfl rfl 0 0 rfl (gd 0 (by omega)) rfl rfl) fun _=>?_)
 refine ie (sr 3 rfl (ip' 1 2 [(44,.slice (va (⟨some b14,k17,j18⟩:VR).q) b.length ((⟨some b14,k17,j18⟩:VR).k))] ?_))
 refine ix rfl (C1a (r:=(⟨some b14,k17,j18⟩:VR)) (pre:=[bx b13 [iv 0,iv 0,iv 192,iv 224,iv 240] 85]) (post:=[]) (s:=(b.set 0 (by8 (IntKind.u8.wrap ((([0,0,192,224,240]:List Int).getD ((F0 cp1).toNat) 0)+cp2))))) Tryz.underlying9 Tryz.underlying30 rfl (by first|rfl|(rw [List.length_set];rfl)) rfl (VOk.cast hokbr (by simp)) (by kernel_rfl)) (ip' 1 0 [(2,sv (b.set 0 (by8 (IntKind.u8.wrap ((([0,0,192,224,240]:List Int).getD ((F0 cp1).toNat) 0)+cp2)))))] ?_)
 subst hR
 refine ie (A5 ?_)
 exact C8 hr hD
def A1p:List Int→List UInt8→Nat→List UInt8
 | [],s,i=>s
 | hd_l0::tl_l0,s,i=>(B8 (A5u hd_l0) fun (y16:List UInt8)=>A1p tl_l0 (s++y16) (i+1))
def A7i (codes:List Int):List UInt8 :=
 A1p codes ([]:List UInt8) 0
theorem C8s (codes:List Int) (codesq:Option Addr) (codesk:Nat) (hlcodes:codes.length≤9223372036854775807) (hccodes:codes.length≤codesk) (hcl:codes.length≤1000000) (R:List UInt8) (hR:A7i codes=R):I5 Tryz.prog 190 [.slice codesq codes.length codesk] [sl D8 codesq codes] (sv R):=by
 refine zco Tryz.func190 [(0,.slice codesq codes.length codesk)] fun X hX hr hD=>?_
 replace hR:=(A7i.eq_1 ..).symm.trans hR
 refine sr 1 rfl (ip' 1 0 [] (ie (sr 1 rfl (ip' 1 0 [(3,sv ([]:List UInt8))] (ie (A7 (sr 1 rfl (ip' 1 0 [(4,iv 0)] ?_))))))))
 refine ie (B1 (C5n (fun (s:List UInt8) (i:Nat)=>(i≤codes.length∧A1p (codes.drop i) s i=R∧s.length≤4 * i,[(0,.slice codesq codes.length codesk),(3,sv s),(4,iv (i:Int))],[],[sl D8 codesq codes],codes.length - i)) ([]:List UInt8) 0 ⟨(by omega),hR,(by simp)⟩ (mk [] rfl) A1.refl ?_))
 rintro s i ⟨hm1,hR,hsl⟩
 refine A7 (sr 4 rfl (ip' 4 0 [(8,bv (decide ((i:Int)<(codes.length:Int))))] ?_))
 refine ie (A1f rfl (fun h2=>?_) (fun h2=>?_))
 ·have h2p:(i:Int)<(codes.length:Int):=by simpa using h2
  rw [A2t 0 (show i<codes.length by omega)] at hR;replace hR:=(A1p.eq_2 ..).symm.trans hR
  refine A4 (nx (A7 (B1 (A2 8 rfl (ip' 3 5 [(11,sv s),(12,.slice codesq codes.length codesk),(13,iv (i:Int))] (K9 0 rfl (by omega) fun a3 hq4=>(ix rfl (G3 F8 rfl rfl hq4 rfl i rfl (by omega)) (ix rfl (C4 (v:=iv (codes.getD i 0)) (us:=[iv (codes.getD i 0)]) ty3 rfl rfl (I4 (c:=D8) (sz:=1) hq4 (fun _=>rfl) 0 rfl (gd 0 (by omega))) rfl) ?_))))))))
  have hQ:=C2 hR;clear hR;obtain ⟨y16,hy16,hR⟩:=hQ
  refine zca (C0o (codes.getD i 0) y16 hy16) fn0 ?_
  have:=B2g (codes.getD i 0);try rw [hy16] at this
  refine ix rfl (zst rfl rfl rfl) ?_
  have:=@List.length_append _ s y16
  refine ip' 1 0 [(3,sv (s++y16))] (A3 (nx (A2 3 rfl (ip' 1 2 [(9,iv (i:Int))] (ix rfl (B5 rfl rfl rfl rfl (by omega)) (ip' 1 0 [(4,iv ((i:Int)+1))] (A3 ?_)))))))
  exact C6d (z1:=s) (z2:=i) (s++y16) (i+1) ⟨(by omega),hR,(by first|omega|(simp<;>omega))⟩ (by (try dsimp only);omega) (mk [] rfl) A1.refl
 have h2p:¬ ((i:Int)<(codes.length:Int)):=by simpa using h2
 rw [A3e h2p] at hR;replace hR:=(A1p.eq_1 ..).symm.trans hR
 refine G6 (nx (sr 2 rfl (ip' 2 0 [(2,sv s)] ?_)))
 subst hR
 refine ie (A5 ?_)
 exact C8 hr hD
def A2d (s:List UInt8):Nat→List Int→Nat→Bool
 | 0,_,_=>false
 | fu1+1,l,i=>(bif (decide ((i:Int)<(l.length:Int))) then (bif ((decide ((l.getD i 0)<32))||((decide ((127:Int)≤(l.getD i 0)))&&(decide ((l.getD i 0)≤159)))) then false else A2d s fu1 l (i+1)) else (B8 (A7i l) fun (y49:List UInt8)=>(decide (y49=s))))
def X0 (s:List UInt8):Bool :=
 (bif (decide ((510:Int)<(s.length:Int))) then false else (B8 (A2i s) fun (y24:List Int)=>A2d s ((y24.length - 0)+1) y24 0))
theorem C3x (s:List UInt8) (h:X0 s=true):s.length≤510:=by
 unfold X0 at h
 by_cases e:(510:Int)<(s.length:Int)
 ·rw [decide_eq_true e] at h;simp at h
 ·omega
theorem C5r (s:List UInt8) (R:Bool) (hR:X0 s=R):I5 Tryz.prog 131 [sv s] [] (bv R):=by
 refine zco Tryz.func131 [(0,sv s)] fun X hX hr hD=>?_
 replace hR:=(X0.eq_1 ..).symm.trans hR
 refine sr 1 rfl (ip' 1 0 [] (ie (A7 (sr 3 rfl (ip' 3 0 [(7,bv (decide ((510:Int)<(s.length:Int))))] (ie ?_))))))
 refine zjd rfl hR ?_ ?_<;>clear hR<;>intro hR h1 h1p
 ·refine sr 1 rfl (ip' 1 0 [(2,bv false)] ?_)
  subst hR
  refine ie (A5 ?_)
  exact C8 hr hD
 refine A4 (nx (sr 3 rfl (ip' 1 2 [(8,sv s)] ?_)))
 have hQ:=C2 hR;clear hR;obtain ⟨y24,hy24,hR⟩:=hQ
 refine it rfl (C3 (L2:=[]) (C5f s (by first|omega|(simp<;>omega)) y24 hy24) rfl rfl rfl rfl rfl fn0 (List.Perm.refl _) (fun ⟨r2,hk3⟩=>((vo D8 3 r2 y24)++([]))) (fun _=>by first|rfl|simp)) fun ⟨r2,hk3⟩=>?_
 have:=VOk.le hk3
 have:=VOk.cap hk3
 have:=C1s s;try rw [hy24] at this
 refine ip' 1 0 [(3,.slice (va r2.q) y24.length r2.k)] (ie (A7 (sr 1 rfl (ip' 1 0 [(4,iv 0)] (ie (B1 ?_))))))
 refine B7z (fun (fu:Nat) (l:List Int) (lr:VR) (i:Nat)=>((l.length - i)<fu∧A2d s fu l i=R∧VOk 1 l.length lr∧l.length≤10000,[(0,sv s),(3,.slice (va lr.q) l.length lr.k),(4,iv (i:Int))],((vo D8 3 lr l)++([])),[],fu)) ((y24.length - 0)+1) y24 r2 0 ⟨(Nat.lt_succ_self _),hR,hk3,(by omega)⟩ (mc [vo D8 3 r2 y24] [true] rfl (by first|rfl|(simp only [List.length_set]<;>rfl))) fn0 ?_
 rintro fu l lr i ⟨hm4,hR,hoklr,hll⟩
 have:=VOk.le hoklr
 obtain ⟨fu1,rfl⟩:∃ m,fu=m+1:=⟨fu - 1,by omega⟩
 replace hR:=(A2d.eq_2 ..).symm.trans hR
 refine A7 (sr 4 rfl (ip' 4 0 [(13,bv (decide ((i:Int)<(l.length:Int))))] ?_))
 refine ie ?_
 refine zjd rfl hR ?_ ?_<;>clear hR<;>intro hR h5 h5p
 ·refine A4 (nx (A7 (B1 (sr 19 rfl (ip' 2 17 [(16,.slice (va lr.q) l.length lr.k),(17,iv (i:Int))] ?_)))))
  obtain ⟨b6,hb7⟩:=VOk.some hoklr (by omega)
  obtain ⟨q8,k9,j10⟩:=lr
  obtain rfl:q8=some b6:=hb7
  refine ix rfl (A7f F8 rfl rfl rfl i rfl (by omega)) (ix rfl (N5 (u:=iv (l.getD i 0)) (c:=D8) (sz:=1) ty3 (fun _=>rfl) rfl rfl 0 rfl i 0 rfl (gd 0 (by omega)) rfl) (ip' 2 13 [(21,bv (decide ((l.getD i 0)<32)))] ?_))
  refine zir 13 0 21 34 ((decide ((127:Int)≤(l.getD i 0)))&&(decide ((l.getD i 0)≤159))) (fun g11 g11p=>?_) ?_
  ·refine ip' 2 11 [(22,.slice (va (⟨some b6,k9,j10⟩:VR).q) l.length ((⟨some b6,k9,j10⟩:VR).k)),(23,iv (i:Int))] (ix rfl (A7f F8 rfl rfl rfl i rfl (by omega)) (ix rfl (N5 (u:=iv (l.getD i 0)) (c:=D8) (sz:=1) ty3 (fun _=>rfl) rfl rfl 0 rfl i 0 rfl (gd 0 (by omega)) rfl) (ip' 2 7 [(27,bv (decide ((127:Int)≤(l.getD i 0))))] ?_)))
   refine zid 6 1 27 33 (decide ((l.getD i 0)≤159)) (fun g12 g12p=>?_) ?_
   ·refine ip' 2 4 [(28,.slice (va (⟨some b6,k9,j10⟩:VR).q) l.length ((⟨some b6,k9,j10⟩:VR).k)),(29,iv (i:Int))] (ix rfl (A7f F8 rfl rfl rfl i rfl (by omega)) (ix rfl (N5 (u:=iv (l.getD i 0)) (c:=D8) (sz:=1) ty3 (fun _=>rfl) rfl rfl 0 rfl i 0 rfl (gd 0 (by omega)) rfl) (ip' 2 0 [(33,bv (decide ((l.getD i 0)≤159)))] ?_)))
    exact A3 (K5 6 27 33 g12 fn0 (mc [vo D8 3 (⟨some b6,k9,j10⟩:VR) l] [true] rfl (by first|rfl|(simp only [List.length_set]<;>rfl))) rfl rfl rfl rfl rfl)
   refine ip' 1 0 [(34,bv ((decide ((127:Int)≤(l.getD i 0)))&&(decide ((l.getD i 0)≤159))))] ?_
   exact A3 (K5 8 21 34 g11 fn0 (mc [vo D8 3 (⟨some b6,k9,j10⟩:VR) l] [true] rfl (by first|rfl|(simp only [List.length_set]<;>rfl))) rfl rfl rfl rfl rfl)
  refine ie ?_
  refine zjb rfl hR ?_ ?_<;>clear hR<;>intro hR h13
  ·have h13p:((l.getD i 0)<32)∨(((127:Int)≤(l.getD i 0))∧((l.getD i 0)≤159)):=by simpa using h13
   refine sr 1 rfl (ip' 1 0 [(2,bv false)] ?_)
   subst hR
   refine ie (A5 ?_)
   exact C8 hr hD
  have h13p:¬ (((l.getD i 0)<32)∨(((127:Int)≤(l.getD i 0))∧((l.getD i 0)≤159))):=by simpa using h13
  refine A4 (nx (A2 3 rfl (ip' 1 2 [(14,iv (i:Int))] (ix rfl (B5 rfl rfl rfl rfl (by omega)) (ip' 1 0 [(4,iv ((i:Int)+1))] (A3 ?_))))))
  exact B4p (z1:=(fu1+1)) (z2:=l) (z3:=(⟨some b6,k9,j10⟩:VR)) (z4:=i) fu1 l (⟨some b6,k9,j10⟩:VR) (i+1) ⟨(by omega),hR,hoklr,(by omega)⟩ (Nat.lt_succ_self _) (mc [vo D8 3 (⟨some b6,k9,j10⟩:VR) l] [true] rfl (by first|rfl|(simp only [List.length_set]<;>rfl))) fn0
 refine G6 (nx (sr 5 rfl (ip' 1 4 [(35,.slice (va lr.q) l.length lr.k)] ?_)))
 have:=VOk.cap hoklr
 have:=VOk.le hoklr
 refine Y5 [] [] (T:=3) (c:=D8) (r:=lr) (xs:=l) hoklr (by first|rfl|simp) ?_
 have hQ:=C2 hR;clear hR;obtain ⟨y49,hy49,hR⟩:=hQ
 refine zca (C8s l (va lr.q) lr.k (by first|omega|(simp<;>omega)|(dsimp only;omega)|decide) (by first|omega|(simp<;>omega)|(dsimp only;omega)|decide) (by first|omega|(simp<;>omega)) y49 hy49) A1.refl (ip' 1 2 [(37,sv s)] (ix rfl (B8n rfl rfl rfl) (ip' 1 0 [(2,bv (decide (y49=s)))] ?_)))
 subst hR
 refine ie (A5 ?_)
 exact C8 hr hD
theorem D2y:∀ k:Nat,0≤([0,95,135,175,215,255]:List Int).getD k 0∧([0,95,135,175,215,255]:List Int).getD k 0≤255
 | 0 | 1 | 2 | 3 | 4 | 5=>by decide
 | _+6=>by exact ⟨Int.le_refl _,by show (0:Int)≤255;decide⟩
theorem C3r (x:UInt8):((x.toNat:Nat):Int)≤9223372036854775807:=by have:=UInt8.toNat_lt x;omega
def A2j (n:Int):Int :=
 (bif (decide (n<16)) then (([0,13434880,52480,13487360,238,13435085,52685,15066597,8355711,16711680,65280,16776960,6053119,16711935,65535,16777215]:List Int).getD ((n).toNat) 0) else (bif (decide ((232:Int)≤n)) then ((8+(10 * (n - 232))) * 65793) else ((((([0,95,135,175,215,255]:List Int).getD (((n - 16) / 36).toNat) 0) * 65536)+((([0,95,135,175,215,255]:List Int).getD ((((n - 16) / 6) % 6).toNat) 0) * 256))+(([0,95,135,175,215,255]:List Int).getD (((n - 16) % 6).toNat) 0))))
theorem C6b (n:Int) (hn:0≤n∧n≤255) (R:Int) (hR:A2j n=R):I5 Tryz.prog 214 [iv n] [] (iv R):=by
 refine zco Tryz.func214 [(0,iv n)] fun X hX hr hD=>?_
 replace hR:=(A2j.eq_1 ..).symm.trans hR
 have q1:=D2y ((n - 16) / 36).toNat
 have q2:=D2y (((n - 16) / 6) % 6).toNat
 have q3:=D2y ((n - 16) % 6).toNat
 refine sr 1 rfl (ip' 1 0 [] (ie (sr 3 rfl (O5 3 0 [0] (fun b1=>[(3,pt b1 0)]) (fun b1=>[bx b1 [iv 0,iv 13434880,iv 52480,iv 13487360,iv 238,iv 13435085,iv 52685,iv 15066597,iv 8355711,iv 16711680,iv 65280,iv 16776960,iv 6053119,iv 16711935,iv 65535,iv 16777215] 288]) (fun b1=>(ie (A7 (sr 2 rfl (ip' 2 0 [(8,bv (decide (n<16)))] (ie ?_))))))))))
 refine zjd rfl hR ?_ ?_<;>clear hR<;>intro hR h2 h2p
 ·refine sr 4 rfl (ip' 1 3 [(9,iv n)] (ix rfl (U9 Tryz.underlying288 ty3 rfl rfl rfl ((n).toNat) (by omega) (by omega)) ?_))
  refine ix rfl (N5 (u:=iv (([0,13434880,52480,13487360,238,13435085,52685,15066597,8355711,16711680,65280,16776960,6053119,16711935,65535,16777215]:List Int).getD ((n).toNat) 0)) (c:=D8) (xs:=([0,13434880,52480,13487360,238,13435085,52685,15066597,8355711,16711680,65280,16776960,6053119,16711935,65535,16777215]:List Int)) (j:=[]) (sz:=1) ty3 (fun _=>rfl) rfl rfl 0 rfl ((n).toNat) 0 rfl (gd 0 (by simp only [List.length_cons,List.length_nil];omega)) rfl) (ip' 1 0 [(2,iv (([0,13434880,52480,13487360,238,13435085,52685,15066597,8355711,16711680,65280,16776960,6053119,16711935,65535,16777215]:List Int).getD ((n).toNat) 0))] ?_)
  subst hR
  refine ie (A5 ?_)
  exact C8 hr hD
 refine A4 (nx (A7 (sr 2 rfl (ip' 2 0 [(13,bv (decide ((232:Int)≤n)))] (ie ?_)))))
 refine zjd rfl hR ?_ ?_<;>clear hR<;>intro hR h3 h3p
 ·refine sr 6 rfl (ip' 1 5 [(14,iv n)] (ix rfl (N9 rfl rfl rfl rfl (by omega)) (ix rfl (A7g rfl rfl rfl rfl (by omega)) (ix rfl (B5 rfl rfl rfl rfl (by omega)) (ix rfl (A7g rfl rfl rfl rfl (by omega)) (ip' 1 0 [(2,iv ((8+(10 * (n - 232))) * 65793))] ?_))))))
  subst hR
  refine ie (A5 ?_)
  exact C8 hr hD
 refine A4 (nx (sr 3 rfl (O5 3 0 [0] (fun b4=>[(4,pt b4 0)]) (fun b4=>[bx b4 [iv 0,iv 95,iv 135,iv 175,iv 215,iv 255] 147,bx b1 [iv 0,iv 13434880,iv 52480,iv 13487360,iv 238,iv 13435085,iv 52685,iv 15066597,iv 8355711,iv 16711680,iv 65280,iv 16776960,iv 6053119,iv 16711935,iv 65535,iv 16777215] 288]) (fun b4=>(ie (sr 3 rfl (ip' 1 2 [(20,iv n)] (ix rfl (N9 rfl rfl rfl rfl (by omega)) (ip' 1 0 [(5,iv (n - 16))] (ie (sd 18 rfl (by kernel_rfl) rfl (dp' 1 17 [(22,iv (n - 16))] (dd rfl (A9v (c:=((n - 16) / 36)) rfl rfl rfl (by decide) (by first|exact ⟨⟨by omega,by show _≤(9223372036854775807:Int);omega⟩,rfl⟩|exact ⟨by omega,rfl⟩|exact ⟨⟨Int.natCast_nonneg _,C3r _⟩,rfl⟩|exact ⟨Int.ediv_nonneg (by first|omega|exact Int.natCast_nonneg _) (by omega),rfl⟩)) ?_)))))))))))))
 refine dd rfl (U9 Tryz.underlying147 ty3 rfl rfl rfl (((n - 16) / 36).toNat) (by omega) (by omega)) ?_
 refine dd rfl (N5 (u:=iv (([0,95,135,175,215,255]:List Int).getD (((n - 16) / 36).toNat) 0)) (c:=D8) (xs:=([0,95,135,175,215,255]:List Int)) (j:=[]) (sz:=1) ty3 (fun _=>rfl) rfl rfl 0 rfl (((n - 16) / 36).toNat) 0 rfl (gd 0 (by simp only [List.length_cons,List.length_nil];omega)) rfl) (dd rfl (A7g rfl rfl rfl rfl (by omega)) (dp' 1 12 [(27,iv (n - 16))] (dd rfl (A9v (c:=((n - 16) / 6)) rfl rfl rfl (by decide) (by first|exact ⟨⟨by omega,by show _≤(9223372036854775807:Int);omega⟩,rfl⟩|exact ⟨by omega,rfl⟩|exact ⟨⟨Int.natCast_nonneg _,C3r _⟩,rfl⟩|exact ⟨Int.ediv_nonneg (by first|omega|exact Int.natCast_nonneg _) (by omega),rfl⟩)) (dd rfl (V6 (c:=(((n - 16) / 6) % 6)) rfl rfl rfl (by decide) (by first|exact ⟨⟨by omega,by show _≤(9223372036854775807:Int);omega⟩,rfl⟩|exact ⟨by omega,rfl⟩|exact ⟨⟨Int.natCast_nonneg _,C3r _⟩,rfl⟩|exact ⟨Int.ediv_nonneg (by first|omega|exact Int.natCast_nonneg _) (by omega),rfl⟩)) (dd rfl (U9 Tryz.underlying147 ty3 rfl rfl rfl ((((n - 16) / 6) % 6).toNat) (by omega) (by omega)) ?_)))))
 refine dd rfl (N5 (u:=iv (([0,95,135,175,215,255]:List Int).getD ((((n - 16) / 6) % 6).toNat) 0)) (c:=D8) (xs:=([0,95,135,175,215,255]:List Int)) (j:=[]) (sz:=1) ty3 (fun _=>rfl) rfl rfl 0 rfl ((((n - 16) / 6) % 6).toNat) 0 rfl (gd 0 (by simp only [List.length_cons,List.length_nil];omega)) rfl) (dd rfl (A7g rfl rfl rfl rfl (by omega)) (dd rfl (B5 rfl rfl rfl rfl (by omega)) (dp' 1 5 [(34,iv (n - 16))] (dd rfl (V6 (c:=((n - 16) % 6)) rfl rfl rfl (by decide) (by first|exact ⟨⟨by omega,by show _≤(9223372036854775807:Int);omega⟩,rfl⟩|exact ⟨by omega,rfl⟩|exact ⟨⟨Int.natCast_nonneg _,C3r _⟩,rfl⟩|exact ⟨Int.ediv_nonneg (by first|omega|exact Int.natCast_nonneg _) (by omega),rfl⟩)) (dd rfl (U9 Tryz.underlying147 ty3 rfl rfl rfl (((n - 16) % 6).toNat) (by omega) (by omega)) ?_)))))
 refine dd rfl (N5 (u:=iv (([0,95,135,175,215,255]:List Int).getD (((n - 16) % 6).toNat) 0)) (c:=D8) (xs:=([0,95,135,175,215,255]:List Int)) (j:=[]) (sz:=1) ty3 (fun _=>rfl) rfl rfl 0 rfl (((n - 16) % 6).toNat) 0 rfl (gd 0 (by simp only [List.length_cons,List.length_nil];omega)) rfl) (dd rfl (B5 rfl rfl rfl rfl (by omega)) (dp' 1 0 [(2,iv ((((([0,95,135,175,215,255]:List Int).getD (((n - 16) / 36).toNat) 0) * 65536)+((([0,95,135,175,215,255]:List Int).getD ((((n - 16) / 6) % 6).toNat) 0) * 256))+(([0,95,135,175,215,255]:List Int).getD (((n - 16) % 6).toNat) 0)))] ?_))
 subst hR
 refine de (A5 ?_)
 exact C8 hr hD
theorem B0m {c:Col} (h:J0 c=0):0≤c.n∧c.n≤16777215∧(c.kind=1→c.n≤255):=by
 unfold J0 at h
 simp only [Bool.cond_eq_ite,decide_eq_true_eq,Bool.and_eq_true] at h
 repeat' split at h
 all_goals first|omega|exact absurd h (by decide)
def A4l (c:Col):Int×Bool :=
 (bif ((!decide ((J0 c)=0))||(decide (c.kind=0))) then (0,false) else (bif (decide (c.kind=1)) then ((A2j c.n),true) else (c.n,true)))
theorem C4g:∀ n<256,0≤A2j ((n:Nat):Int)∧A2j ((n:Nat):Int)≤16777215:=by decide +kernel
theorem C7q (c:Col):0≤(A4l c).1∧(A4l c).1≤16777215:=by
 unfold A4l
 simp only [Bool.cond_eq_ite,Bool.or_eq_true,Bool.not_eq_true',decide_eq_true_eq,decide_eq_false_iff_not]
 repeat' split
 ·exact ⟨Int.le_refl _,by show (0:Int)≤_;omega⟩
 ·rename_i h1 h2
  have hc:=B0m (c:=c) (by omega)
  obtain ⟨m,e⟩:∃ m:Nat,c.n=m:=⟨c.n.toNat,by omega⟩
  show 0≤A2j c.n∧A2j c.n≤16777215
  rw [e];exact C4g m (by have:=hc.2.2 h2;omega)
 ·have hc:=B0m (c:=c) (by omega)
  exact ⟨hc.1,hc.2.1⟩
theorem C9z (c:Col) (R:Int×Bool) (hR:A4l c=R):I5 Tryz.prog 191 [ag (M1 c)] [] (.tuple #[iv R.1,bv R.2]):=by
 refine zco Tryz.func191 [(0,ag (M1 c))] fun X hX hr hD=>?_
 replace hR:=(A4l.eq_1 ..).symm.trans hR
 refine sr 3 rfl (O5 3 0 [] (fun b1=>[(1,pt b1 0)]) (fun b1=>[bx b1 (M1 c) 24]) (fun b1=>(ie (A7 (sr 8 rfl (zrl 1 7 [0] [(4,ag (M1 c))] (zca (B2e c _ rfl) fn0 (ip' 2 4 [(7,bv (!decide ((J0 c)=0)))] ?_))))))))
 refine zio 4 0 7 11 (decide (c.kind=0)) (fun g2=>?_) ?_
 ·have g2p:¬ (¬ (J0 c)=0):=by simpa using g2
  refine zrl 4 0 [0] [(11,bv (decide (c.kind=0)))] ?_
  exact A3 (K5 2 7 11 g2 fn0 (mk [true] rfl) rfl rfl rfl rfl rfl)
 refine ie ?_
 refine zjb rfl hR ?_ ?_<;>clear hR<;>intro hR h3
 ·have h3p:(¬ (J0 c)=0)∨(c.kind=0):=by simpa using h3
  refine sr 2 rfl (ip' 2 0 [(2,iv 0),(3,bv false)] ?_)
  subst hR
  refine ie (A5 ?_)
  exact A0v hr hD
 have h3p:¬ ((¬ (J0 c)=0)∨(c.kind=0)):=by simpa using h3
 refine A4 (nx (A7 (sr 3 rfl (zrl 3 0 [0] [(14,bv (decide (c.kind=1)))] (ie ?_)))))
 refine zjd rfl hR ?_ ?_<;>clear hR<;>intro hR h4 h4p
 ·have hci:=B0m (c:=c) (by simp_all)
  refine sr 5 rfl (zrl 2 3 [0] [(16,iv c.n)] (zca (C6b c.n (by omega) _ rfl) fn0 (ip' 2 0 [(2,iv (A2j c.n)),(3,bv true)] ?_)))
  subst hR
  refine ie (A5 ?_)
  exact A0v hr hD
 refine A4 (nx (sr 4 rfl (zrl 4 0 [0] [(2,iv c.n),(3,bv true)] ?_)))
 subst hR
 refine ie (A5 ?_)
 exact A0v hr hD
theorem dv6:∀ k:Nat,k<6→1≤([1048576,65536,4096,256,16,1]:List Int).getD k 0∧([1048576,65536,4096,256,16,1]:List Int).getD k 0≤1048576
 | 0,_ | 1,_ | 2,_ | 3,_ | 4,_ | 5,_=>by decide
 | _+6,h=>by omega
def b7I (j n:Int):Prop:=(j=0∧0≤n∧n<1)∨(j=1∧0≤n∧n<2)∨(j=2∧0≤n∧n<4)∨(j=3∧0≤n∧n<8)∨(j=4∧0≤n∧n<16)∨(j=5∧0≤n∧n<32)∨(j=6∧0≤n∧n<64)
theorem E0t {j:Int} (h:j=0):b7I j 0:=by unfold b7I;omega
theorem D5a {j n:Int} (h:b7I j n):0≤n∧n<64:=by unfold b7I at h;omega
theorem B7v {j n x:Int} (h:b7I j n) (hj:j<6) (hx:0≤x∧x≤1):b7I (j+1) (2 * n+x):=by unfold b7I at *;omega
theorem B7y {j j' n x:Int} (h:b7I j n) (hj:j<6) (hx:0≤x∧x≤1) (e:j'=j+1):b7I j' (2 * n+x):=e▸B7v h hj hx
theorem dv8:∀ k:Nat,k<8→1≤([128,64,32,16,8,4,2,1]:List Int).getD k 0∧([128,64,32,16,8,4,2,1]:List Int).getD k 0≤128
 | 0,_ | 1,_ | 2,_ | 3,_ | 4,_ | 5,_ | 6,_ | 7,_=>by decide
 | _+8,h=>by omega
def S1 (y11:Int×Bool):Nat→List UInt8→Nat→(List UInt8×Int)
 | 0,_,_=>([],0)
 | fu1+1,s,k=>(bif (decide ((k:Int)<6)) then S1 y11 fu1 (s++((D0e.drop (((y11.1 / (([1048576,65536,4096,256,16,1]:List Int).getD k 0)) % 16).toNat)).take ((((y11.1 / (([1048576,65536,4096,256,16,1]:List Int).getD k 0)) % 16).toNat+1) - (((y11.1 / (([1048576,65536,4096,256,16,1]:List Int).getD k 0)) % 16).toNat)))) (k+1) else ((((((([114,103,98,58]:List UInt8)++(s.take 2))++([47]:List UInt8))++((s.drop 2).take (4 - 2)))++([47]:List UInt8))++(s.drop 4)),0))
def A0q (c:Col):List UInt8×Int :=
 (bif (!decide ((J0 c)=0)) then (([]:List UInt8),130) else (B8 (A4l c) fun (y11:Int×Bool)=>(bif (!y11.2) then (([]:List UInt8),2) else S1 y11 ((6 - 0)+1) ([]:List UInt8) 0)))
theorem B1b (n:Int×Bool):∀ (fu:Nat) (s:List UInt8) (k:Nat),(S1 n fu s k).1.length≤3 * s.length+3 * fu+10
 | 0,s,k=>Nat.zero_le _
 | fu+1,s,k=>by
  have ih:=B1b n fu
  rw [S1]
  simp only [Bool.cond_eq_ite]
  split
  ·refine Nat.le_trans (ih _ _) ?_
   simp only [List.length_append,List.length_take,List.length_drop];omega
  ·simp only [List.length_append,List.length_take,List.length_drop,List.length_cons,List.length_nil];omega
theorem B4x (c:Col):(A0q c).1.length≤100:=by
 have h:=B1b (A4l c) ((6 - 0)+1) [] 0
 unfold A0q B8
 simp only [Bool.cond_eq_ite]
 repeat' split
 ·exact Nat.zero_le _
 ·exact Nat.zero_le _
 ·simp only [List.length_nil] at h;omega
theorem C7x (c:Col) (R:List UInt8×Int) (hR:A0q c=R):I5 Tryz.prog 132 [ag (M1 c)] [] (.tuple #[sv R.1,iv R.2]):=by
 refine zco Tryz.func132 [(0,ag (M1 c))] fun X hX hr hD=>?_
 replace hR:=(A0q.eq_1 ..).symm.trans hR
 have hs16:D0e.length=16:=rfl
 refine sr 3 rfl (O5 3 0 [] (fun b1=>[(1,pt b1 0)]) (fun b1=>[bx b1 (M1 c) 24]) (fun b1=>(ie (A7 (sr 3 rfl (zrl 1 2 [0] [(9,ag (M1 c))] (zca (B2e c _ rfl) fn0 (ip' 1 0 [(11,bv (!decide ((J0 c)=0)))] (ie ?_)))))))))
 refine zjn rfl hR ?_ ?_<;>clear hR<;>intro hR h2 h2p
 ·refine sr 2 rfl (ip' 2 0 [(2,sv ([]:List UInt8)),(3,iv 130)] ?_)
  subst hR
  refine ie (A5 ?_)
  exact A0v hr hD
 refine A4 (nx (sr 7 rfl (zrl 1 6 [0] [(13,ag (M1 c))] ?_)))
 have hQ:=C2 hR;clear hR;obtain ⟨y11,hy11,hR⟩:=hQ
 refine zca (C9z c y11 hy11) fn0 ?_
 have:=C7q c;try rw [hy11] at this
 refine ip' 5 0 [(4,iv y11.1),(5,bv y11.2)] (ie (A7 (sr 2 rfl (ip' 2 0 [(18,bv (!y11.2))] (ie ?_)))))
 refine zjb rfl hR ?_ ?_<;>clear hR<;>intro hR h3
 ·refine sr 2 rfl (ip' 2 0 [(2,sv ([]:List UInt8)),(3,iv 2)] ?_)
  subst hR
  refine ie (A5 ?_)
  exact A0v hr hD
 refine A4 (nx (sr 1 rfl (ip' 1 0 [(6,sv ([]:List UInt8))] (ie (A7 (sr 1 rfl (ip' 1 0 [(7,iv 0)] (ie (B1 (E1c (fun (fu:Nat) (s:List UInt8) (k:Nat)=>((6 - k)<fu∧S1 y11 fu s k=R∧s.length=k∧k≤6,[(4,iv y11.1),(6,sv s),(7,iv (k:Int))],[bx b1 (M1 c) 24],[],fu)) ((6 - 0)+1) ([]:List UInt8) 0 ⟨(Nat.lt_succ_self _),hR,(by rfl),(by omega)⟩ (mk [true] rfl) fn0 ?_))))))))))
 rintro fu s k ⟨hm4,hR,hs,hk⟩
 obtain ⟨fu1,rfl⟩:∃ m,fu=m+1:=⟨fu - 1,by omega⟩
 replace hR:=(S1.eq_2 ..).symm.trans hR
 have hdv:=dv6 k
 refine A7 (sr 2 rfl (ip' 2 0 [(20,bv (decide ((k:Int)<6)))] ?_))
 refine ie ?_
 refine zjd rfl hR ?_ ?_<;>clear hR<;>intro hR h5 h5p
 ·refine A4 (nx (A7 (B1 (sr 7 rfl (zrl 3 4 [] [(23,iv y11.1),(24,ag [iv 1048576,iv 65536,iv 4096,iv 256,iv 16,iv 1]),(25,iv (k:Int))] (ix rfl (B0c (v:=iv (([1048576,65536,4096,256,16,1]:List Int).getD k 0)) (c:=D8) (xs:=([1048576,65536,4096,256,16,1]:List Int)) (d:=0) Tryz.underlying147 ty3 (fun _=>rfl) rfl rfl rfl rfl k rfl rfl (by first|omega|(refine Nat.le_trans (m:=16) (by omega) (by decide))) rfl rfl) (ix rfl (A9v (c:=(y11.1 / (([1048576,65536,4096,256,16,1]:List Int).getD k 0))) rfl rfl rfl (by omega) (by first|exact ⟨⟨by omega,by show _≤(9223372036854775807:Int);omega⟩,rfl⟩|exact ⟨by omega,rfl⟩|exact ⟨⟨Int.natCast_nonneg _,C3r _⟩,rfl⟩|exact ⟨Int.ediv_nonneg (by first|omega|exact Int.natCast_nonneg _) (by omega),rfl⟩)) (ix rfl (V6 (c:=((y11.1 / (([1048576,65536,4096,256,16,1]:List Int).getD k 0)) % 16)) rfl rfl rfl (by decide) (by first|exact ⟨⟨by omega,by show _≤(9223372036854775807:Int);omega⟩,rfl⟩|exact ⟨by omega,rfl⟩|exact ⟨⟨Int.natCast_nonneg _,C3r _⟩,rfl⟩|exact ⟨Int.ediv_nonneg (by first|omega|exact Int.natCast_nonneg _) (by omega),rfl⟩)) (ip' 1 0 [(8,iv ((y11.1 / (([1048576,65536,4096,256,16,1]:List Int).getD k 0)) % 16))] (ie (A2 7 rfl (ip' 3 4 [(29,sv s),(30,iv ((y11.1 / (([1048576,65536,4096,256,16,1]:List Int).getD k 0)) % 16)),(31,iv ((y11.1 / (([1048576,65536,4096,256,16,1]:List Int).getD k 0)) % 16))] (ix rfl (B5 rfl rfl rfl rfl (by omega)) ?_)))))))))))))
  refine ix rfl (B5i (T:=9) Tryz.underlying9 rfl rfl rfl rfl (((y11.1 / (([1048576,65536,4096,256,16,1]:List Int).getD k 0)) % 16).toNat) (by omega) (((y11.1 / (([1048576,65536,4096,256,16,1]:List Int).getD k 0)) % 16).toNat+1) (by omega) (by first|omega|(refine Nat.le_trans (m:=16) (by omega) (by decide))) (by first|omega|(refine Nat.le_trans (m:=16) (by omega) (by decide)))) (ix rfl (zst rfl rfl rfl) (ip' 1 0 [(6,sv (s++((D0e.drop (((y11.1 / (([1048576,65536,4096,256,16,1]:List Int).getD k 0)) % 16).toNat)).take ((((y11.1 / (([1048576,65536,4096,256,16,1]:List Int).getD k 0)) % 16).toNat+1) - (((y11.1 / (([1048576,65536,4096,256,16,1]:List Int).getD k 0)) % 16).toNat)))))] (A3 (nx (A2 3 rfl (ip' 1 2 [(21,iv (k:Int))] (ix rfl (B5 rfl rfl rfl rfl (by omega)) (ip' 1 0 [(7,iv ((k:Int)+1))] (A3 ?_)))))))))
  exact D5v (z1:=(fu1+1)) (z2:=s) (z3:=k) fu1 (s++((D0e.drop (((y11.1 / (([1048576,65536,4096,256,16,1]:List Int).getD k 0)) % 16).toNat)).take ((((y11.1 / (([1048576,65536,4096,256,16,1]:List Int).getD k 0)) % 16).toNat+1) - (((y11.1 / (([1048576,65536,4096,256,16,1]:List Int).getD k 0)) % 16).toNat)))) (k+1) ⟨(by omega),hR,(by simp only [List.length_append,List.length_take,List.length_drop];omega),(by omega)⟩ (Nat.lt_succ_self _) (mk [true] rfl) fn0
 refine G6 (nx (sd 13 rfl (by kernel_rfl) rfl ?_))
 refine dp' 1 12 [(35,sv s)] (dd rfl (A5y (T:=9) Tryz.underlying9 rfl rfl rfl 2 rfl (by first|omega|(refine Nat.le_trans (m:=16) (by omega) (by decide)))) ?_)
 have:=@List.length_take _ 2 s
 refine dd rfl (zst rfl rfl rfl) (dd rfl (zst rfl rfl rfl) (dp' 1 8 [(39,sv s)] (dd rfl (B5i (T:=9) Tryz.underlying9 rfl rfl rfl rfl 2 rfl 4 rfl (by first|omega|(refine Nat.le_trans (m:=16) (by omega) (by decide))) (by first|omega|(refine Nat.le_trans (m:=16) (by omega) (by decide)))) ?_)))
 have:=@List.length_drop _ 2 s
 have:=@List.length_take _ (4 - 2) (s.drop 2)
 refine dd rfl (zst rfl rfl rfl) (dd rfl (zst rfl rfl rfl) (dp' 1 4 [(43,sv s)] (dd rfl (B2m (T:=9) Tryz.underlying9 rfl rfl rfl 4 rfl (by first|omega|(refine Nat.le_trans (m:=16) (by omega) (by decide)))) ?_)))
 have:=@List.length_drop _ 4 s
 refine dd rfl (zst rfl rfl rfl) (dp' 2 0 [(2,sv (((((([114,103,98,58]:List UInt8)++(s.take 2))++([47]:List UInt8))++((s.drop 2).take (4 - 2)))++([47]:List UInt8))++(s.drop 4))),(3,iv 0)] ?_)
 subst hR
 refine de (A5 ?_)
 exact A0v hr hD
def D9:Nat→Int→List UInt8
 | 0,_=>[]
 | fu+1,n=>(bif (decide (n<10)) then ([(by8 (IntKind.u8.wrap (IntKind.i64.wrap ((48:Int)+n))))]:List UInt8) else ((D9 fu (n / 10))++(D9 fu (n % 10))))
theorem M6:∀ (fu:Nat) (n:Int),(D9 fu n).length≤n.toNat+1
 | 0,n=>by simp [D9]
 | fu+1,n=>by
  simp only [D9]
  cases h:decide (n<10) with
  | true=>simp
  | false =>
   have hn:¬ n<10:=of_decide_eq_false h
   have h1:=M6 fu (n / 10)
   have h2:=M6 fu (n % 10)
   simp only [cond_false,List.length_append]
   omega
theorem A6s:∀ (fu:Nat) (n:Int) (hn:n≤9223372036854775807) (hmu:n.toNat<fu) (R:List UInt8) (hR:D9 fu n=R),I5 Tryz.prog 133 [iv n] [] (sv R):=by
 intro fu
 induction fu with
 | zero=>intros;omega
 | succ fu ih =>
  intro n hn hmu R hR
  refine zco Tryz.func133 [(0,iv n)] fun X hX hr hD=>?_
  replace hR:=(D9.eq_2 ..).symm.trans hR
  refine sr 1 rfl (ip' 1 0 [] (ie (A7 (sr 2 rfl (ip' 2 0 [(4,bv (decide (n<10)))] (ie ?_))))))
  refine zjd rfl hR ?_ ?_<;>clear hR<;>intro hR h1 h1p
  ·refine sr 6 rfl (ip' 1 5 [(5,iv n)] (ix rfl (G4.pure rfl) (ix rfl (G5 (v:=.int .u8 (IntKind.u8.wrap (IntKind.i64.wrap ((48:Int)+n)))) (G4.pure rfl) (A7r)) (it rfl (B4 (c:=cU8) (xs:=([(by8 (IntKind.u8.wrap (IntKind.i64.wrap ((48:Int)+n))))]:List UInt8)) A1j rfl rfl rfl (by kernel_rfl)) fun b2=>?_))))
   have:([(by8 (IntKind.u8.wrap (IntKind.i64.wrap ((48:Int)+n))))]:List UInt8).length=1:=rfl
   refine ix rfl (A1s Tryz.underlying9 Tryz.underlying30 rfl rfl (A9 0 rfl) rfl (by kernel_rfl)) ?_
   have:([(by8 (IntKind.u8.wrap (IntKind.i64.wrap ((48:Int)+n))))]:List UInt8).length=1:=rfl
   refine ip' 1 0 [(2,sv ([(by8 (IntKind.u8.wrap (IntKind.i64.wrap ((48:Int)+n))))]:List UInt8))] ?_
   subst hR
   refine ie (A5 ?_)
   exact C8 hr hD
  refine A4 (nx (sr 8 rfl (ip' 1 7 [(10,iv n)] (ix rfl (A9v (c:=(n / 10)) rfl rfl rfl (by decide) (by first|exact ⟨⟨by omega,by show _≤(9223372036854775807:Int);omega⟩,rfl⟩|exact ⟨by omega,rfl⟩)) (zca (ih (n / 10) (by first|omega|(simp<;>omega)) (by omega) _ rfl) fn0 ?_)))))
  have:=M6 fu (n / 10)
  refine ip' 1 4 [(13,iv n)] (ix rfl (V6 (c:=(n % 10)) rfl rfl rfl (by decide) (by first|exact ⟨⟨by omega,by show _≤(9223372036854775807:Int);omega⟩,rfl⟩|exact ⟨by omega,rfl⟩)) (zca (ih (n % 10) (by first|omega|(simp<;>omega)) (by omega) _ rfl) fn0 ?_))
  have:=M6 fu (n % 10)
  refine ix rfl (zst rfl rfl rfl) ?_
  have:=@List.length_append _ (D9 fu (n / 10)) (D9 fu (n % 10))
  refine ip' 1 0 [(2,sv ((D9 fu (n / 10))++(D9 fu (n % 10))))] ?_
  subst hR
  refine ie (A5 ?_)
  exact C8 hr hD
def R0 (s:List UInt8) (out:List UInt8) (bit:Nat) (ag_ref07_Bare_l3:List UInt8→Nat→List UInt8):Nat→Int→Nat→List UInt8
 | 0,_,_=>[]
 | fu3+1,n,k=>(bif (decide ((k:Int)<((bit:Int)+6))) then (bif (decide (((k:Int) / 8)<(s.length:Int))) then R0 s out bit ag_ref07_Bare_l3 fu3 ((2 * n)+((((s.getD (((k:Int) / 8).toNat) 0).toNat:Int) / (([128,64,32,16,8,4,2,1]:List Int).getD (((k:Int) % 8).toNat) 0)) % 2)) (k+1) else R0 s out bit ag_ref07_Bare_l3 fu3 ((2 * n)+0) (k+1)) else ag_ref07_Bare_l3 (out++([(B1i.getD ((n).toNat) 0)]:List UInt8)) (bit+6))
def O0 (s:List UInt8):Nat→List UInt8→Nat→List UInt8
 | 0,_,_=>[]
 | fu1+1,out,bit=>(bif (decide ((bit:Int)<(8 * (s.length:Int)))) then R0 s out bit (O0 s fu1) (((bit+6) - bit)+1) 0 bit else out)
def A2r (s:List UInt8):List UInt8 :=
 O0 s (((8 * (s.length:Int)) - (0:Int)).toNat+1) ([]:List UInt8) 0
theorem B1z (s out:List UInt8) (bit:Nat) (ag:List UInt8→Nat→List UInt8) (B:Nat) (hag:∀ o b,(ag o b).length≤o.length+B):∀ (fu:Nat) (n:Int) (k:Nat),(R0 s out bit ag fu n k).length≤out.length+1+B
 | 0,n,k=>Nat.zero_le _
 | fu+1,n,k=>by
  have ih:=B1z s out bit ag B hag fu
  rw [R0]
  simp only [Bool.cond_eq_ite]
  repeat' split
  ·exact ih _ _
  ·exact ih _ _
  ·refine Nat.le_trans (hag _ _) ?_
   simp only [List.length_append,List.length_cons,List.length_nil];omega
theorem B1e (s:List UInt8):∀ (fu:Nat) (out:List UInt8) (bit:Nat),(O0 s fu out bit).length≤out.length+fu
 | 0,out,bit=>Nat.zero_le _
 | fu+1,out,bit=>by
  rw [O0]
  simp only [Bool.cond_eq_ite]
  split
  ·have:=B1z s out bit (O0 s fu) fu (fun o b=>B1e s fu o b) (((bit+6) - bit)+1) 0 bit;omega
  ·omega
theorem B5h (s:List UInt8):(A2r s).length≤8 * s.length+1:=by
 have:=B1e s (((8 * (s.length:Int)) - (0:Int)).toNat+1) [] 0
 unfold A2r
 simp only [List.length_nil] at this
 omega
set_option maxHeartbeats 1000000 in
theorem C7u (s:List UInt8) (hs:s.length≤4096) (R:List UInt8) (hR:A2r s=R):I5 Tryz.prog 192 [sv s] [] (sv R):=by
 refine zco Tryz.func192 [(0,sv s)] fun X hX hr hD=>?_
 replace hR:=(A2r.eq_1 ..).symm.trans hR
 refine sr 1 rfl (ip' 1 0 [] (ie (sr 1 rfl (ip' 1 0 [(3,.slice none 0 0)] (ie (A7 (sr 1 rfl (ip' 1 0 [(4,iv 0)] (ie (B1 ?_))))))))))
 refine B7z (fun (fu:Nat) (out:List UInt8) (outr:VR) (bit:Nat)=>(((8 * (s.length:Int)) - (bit:Int)).toNat<fu∧O0 s fu out bit=R∧VOk 1 out.length outr∧out.length≤bit∧(bit:Int)≤8 * (s.length:Int)+5,[(0,sv s),(3,.slice (va outr.q) out.length outr.k),(4,iv (bit:Int))],((vo cU8 5 outr out)++([])),[],fu)) (((8 * (s.length:Int)) - (0:Int)).toNat+1) ([]:List UInt8) VR.nil 0 ⟨(Nat.lt_succ_self _),hR,VOk.nil,(by (simp<;>omega)),(by omega)⟩ (mc [vo cU8 5 VR.nil ([]:List UInt8)] [true] rfl (by first|rfl|(simp only [List.length_set]<;>rfl))) fn0 ?_
 rintro fu out outr bit ⟨hm1,hR,hokoutr,ho,hbit⟩
 have:=VOk.le hokoutr
 obtain ⟨fu1,rfl⟩:∃ m,fu=m+1:=⟨fu - 1,by omega⟩
 replace hR:=(O0.eq_2 ..).symm.trans hR
 refine A7 (sr 5 rfl (ip' 3 2 [(8,iv (bit:Int)),(10,iv (s.length:Int))] ?_))
 refine ix rfl (A7g rfl rfl rfl rfl (by omega)) (ip' 1 0 [(12,bv (decide ((bit:Int)<(8 * (s.length:Int)))))] (ie ?_))
 refine zjd rfl hR ?_ ?_<;>clear hR<;>intro hR h2 h2p
 ·refine A4 (nx (A7 (B1 (sr 1 rfl (ip' 1 0 [(5,iv 0)] (ie (A7 (sr 2 rfl (ip' 2 0 [(6,iv (bit:Int))] (ie (B1 ?_)))))))))))
  refine E1c (fun (fu2:Nat) (n:Int) (k:Nat)=>(((bit+6) - k)<fu2∧R0 s out bit (O0 s fu1) fu2 n k=R∧(bit≤k∧k≤bit+6)∧(0≤n∧n<64)∧b7I ((k:Int) - (bit:Int)) n,[(0,sv s),(3,.slice (va outr.q) out.length outr.k),(4,iv (bit:Int)),(5,iv n),(6,iv (k:Int))],((vo cU8 5 outr out)++([])),[],fu2)) (((bit+6) - bit)+1) 0 bit ⟨(Nat.lt_succ_self _),hR,(by omega),(by omega),(by exact E0t (by omega))⟩ (mc [vo cU8 5 outr out] [true] rfl (by first|rfl|(simp only [List.length_set]<;>rfl))) fn0 ?_
  rintro fu2 n k ⟨hm3,hR,hk,hn64,hb7⟩
  obtain ⟨fu3,rfl⟩:∃ m,fu2=m+1:=⟨fu2 - 1,by omega⟩
  replace hR:=(R0.eq_2 ..).symm.trans hR
  have hdv:=dv8 ((k:Int) % 8).toNat (by omega)
  refine A7 (sr 4 rfl (ip' 2 2 [(16,iv (k:Int)),(17,iv (bit:Int))] ?_))
  refine ix rfl (B5 rfl rfl rfl rfl (by omega)) (ip' 1 0 [(19,bv (decide ((k:Int)<((bit:Int)+6))))] (ie ?_))
  refine zjd rfl hR ?_ ?_<;>clear hR<;>intro hR h4 h4p
  ·refine A4 (nx (A7 (B1 (sr 1 rfl (ip' 1 0 [(7,iv 0)] (ie (A7 (sr 5 rfl (ip' 1 4 [(22,iv (k:Int))] (ix rfl (A9v (c:=((k:Int) / 8)) rfl rfl rfl (by decide) (by first|exact ⟨⟨by omega,by show _≤(9223372036854775807:Int);omega⟩,rfl⟩|exact ⟨by omega,rfl⟩|exact ⟨⟨Int.natCast_nonneg _,C3r _⟩,rfl⟩|exact ⟨Int.ediv_nonneg (by first|omega|exact Int.natCast_nonneg _) (by omega),rfl⟩)) (ip' 3 0 [(26,bv (decide (((k:Int) / 8)<(s.length:Int))))] (ie ?_))))))))))))
   refine zjd rfl hR ?_ ?_<;>clear hR<;>intro hR h5 h5p
   ·refine D7z 12 rfl (by kernel_rfl) rfl ?_
    refine dp' 2 10 [(27,sv s),(28,iv (k:Int))] (dd rfl (A9v (c:=((k:Int) / 8)) rfl rfl rfl (by decide) (by first|exact ⟨⟨by omega,by show _≤(9223372036854775807:Int);omega⟩,rfl⟩|exact ⟨by omega,rfl⟩|exact ⟨⟨Int.natCast_nonneg _,C3r _⟩,rfl⟩|exact ⟨Int.ediv_nonneg (by first|omega|exact Int.natCast_nonneg _) (by omega),rfl⟩)) (dd rfl (B0f (T:=9) Tryz.underlying9 rfl rfl rfl (((k:Int) / 8).toNat) (by omega) (by first|omega|(refine Nat.lt_of_lt_of_le (m:=64) (by omega) (by decide)))) (dd rfl (N8 (c:=((s.getD (((k:Int) / 8).toNat) 0).toNat:Int)) Tryz.underlying3 (by kernel_rfl) rfl rfl (Y7 (s.getD (((k:Int) / 8).toNat) 0))) ?_)))
    refine zdg 2 5 [] [(32,ag [iv 128,iv 64,iv 32,iv 16,iv 8,iv 4,iv 2,iv 1]),(33,iv (k:Int))] ?_
    refine dd rfl (V6 (c:=((k:Int) % 8)) rfl rfl rfl (by decide) (by first|exact ⟨⟨by omega,by show _≤(9223372036854775807:Int);omega⟩,rfl⟩|exact ⟨by omega,rfl⟩|exact ⟨⟨Int.natCast_nonneg _,C3r _⟩,rfl⟩|exact ⟨Int.ediv_nonneg (by first|omega|exact Int.natCast_nonneg _) (by omega),rfl⟩)) (dd rfl (B0c (v:=iv (([128,64,32,16,8,4,2,1]:List Int).getD (((k:Int) % 8).toNat) 0)) (c:=D8) (xs:=([128,64,32,16,8,4,2,1]:List Int)) (d:=0) Tryz.underlying249 ty3 (fun _=>rfl) rfl rfl rfl rfl (((k:Int) % 8).toNat) (by omega) rfl (by first|omega|(refine Nat.lt_of_lt_of_le (m:=64) (by omega) (by decide))) rfl rfl) (dd rfl (A9v (c:=(((s.getD (((k:Int) / 8).toNat) 0).toNat:Int) / (([128,64,32,16,8,4,2,1]:List Int).getD (((k:Int) % 8).toNat) 0))) rfl rfl rfl (by omega) (by first|exact ⟨⟨by omega,by show _≤(9223372036854775807:Int);omega⟩,rfl⟩|exact ⟨by omega,rfl⟩|exact ⟨⟨Int.natCast_nonneg _,C3r _⟩,rfl⟩|exact ⟨Int.ediv_nonneg (by first|omega|exact Int.natCast_nonneg _) (by omega),rfl⟩)) (dd rfl (V6 (c:=((((s.getD (((k:Int) / 8).toNat) 0).toNat:Int) / (([128,64,32,16,8,4,2,1]:List Int).getD (((k:Int) % 8).toNat) 0)) % 2)) rfl rfl rfl (by decide) (by first|exact ⟨⟨by omega,by show _≤(9223372036854775807:Int);omega⟩,rfl⟩|exact ⟨by omega,rfl⟩|exact ⟨⟨Int.natCast_nonneg _,C3r _⟩,rfl⟩|exact ⟨Int.ediv_nonneg (by first|omega|exact Int.natCast_nonneg _) (by omega),rfl⟩)) (dp' 1 0 [(7,iv ((((s.getD (((k:Int) / 8).toNat) 0).toNat:Int) / (([128,64,32,16,8,4,2,1]:List Int).getD (((k:Int) % 8).toNat) 0)) % 2))] ?_))))
    refine C4m (nx (A2 5 rfl (ip' 1 4 [(38,iv n)] ?_)))
    refine ix rfl (A7g rfl rfl rfl rfl (by omega)) (ip' 1 2 [(40,iv ((((s.getD (((k:Int) / 8).toNat) 0).toNat:Int) / (([128,64,32,16,8,4,2,1]:List Int).getD (((k:Int) % 8).toNat) 0)) % 2))] (ix rfl (B5 rfl rfl rfl rfl (by omega)) (ip' 1 0 [(5,iv ((2 * n)+((((s.getD (((k:Int) / 8).toNat) 0).toNat:Int) / (([128,64,32,16,8,4,2,1]:List Int).getD (((k:Int) % 8).toNat) 0)) % 2)))] (A3 (nx (A2 3 rfl (ip' 1 2 [(20,iv (k:Int))] (ix rfl (B5 rfl rfl rfl rfl (by omega)) (ip' 1 0 [(6,iv ((k:Int)+1))] ?_)))))))))
    refine A3 ?_
    exact D5v (z1:=(fu3+1)) (z2:=n) (z3:=k) fu3 ((2 * n)+((((s.getD (((k:Int) / 8).toNat) 0).toNat:Int) / (([128,64,32,16,8,4,2,1]:List Int).getD (((k:Int) % 8).toNat) 0)) % 2)) (k+1) ⟨(by omega),hR,(by omega),(by first|exact D5a (B7v hb7 (by omega) ⟨by omega,by omega⟩)|(have q:=D5a (B7v hb7 (by omega) (x:=0) ⟨by omega,by omega⟩);exact q)),(by first|exact B7y hb7 (by omega) ⟨by omega,by omega⟩ (by omega)|exact B7y (x:=0) hb7 (by omega) ⟨by omega,by omega⟩ (by omega))⟩ (Nat.lt_succ_self _) (mc [vo cU8 5 outr out] [true] rfl (by first|rfl|(simp only [List.length_set]<;>rfl))) fn0
   refine A4 (nx (A2 5 rfl (ip' 1 4 [(38,iv n)] (ix rfl (A7g rfl rfl rfl rfl (by omega)) (ip' 1 2 [(40,iv 0)] (ix rfl (B5 rfl rfl rfl rfl (by omega)) (ip' 1 0 [(5,iv ((2 * n)+0))] (A3 (nx (A2 3 rfl (ip' 1 2 [(20,iv (k:Int))] (ix rfl (B5 rfl rfl rfl rfl (by omega)) ?_))))))))))))
   refine ip' 1 0 [(6,iv ((k:Int)+1))] (A3 ?_)
   exact D5v (z1:=(fu3+1)) (z2:=n) (z3:=k) fu3 ((2 * n)+0) (k+1) ⟨(by omega),hR,(by omega),(by first|exact D5a (B7v hb7 (by omega) ⟨by omega,by omega⟩)|(have q:=D5a (B7v hb7 (by omega) (x:=0) ⟨by omega,by omega⟩);exact q)),(by first|exact B7y hb7 (by omega) ⟨by omega,by omega⟩ (by omega)|exact B7y (x:=0) hb7 (by omega) ⟨by omega,by omega⟩ (by omega))⟩ (Nat.lt_succ_self _) (mc [vo cU8 5 outr out] [true] rfl (by first|rfl|(simp only [List.length_set]<;>rfl))) fn0
  refine G6 (nx (A2 6 rfl (ip' 2 4 [(42,.slice (va outr.q) out.length outr.k),(43,iv n)] ?_)))
  refine ix rfl (B0f (T:=9) Tryz.underlying9 rfl rfl rfl ((n).toNat) (by omega) (by first|omega|(refine Nat.lt_of_lt_of_le (m:=64) (by omega) (by decide)))) (it rfl (B4 (c:=cU8) (xs:=([(B1i.getD ((n).toNat) 0)]:List UInt8)) A1j rfl rfl rfl (by kernel_rfl)) fun b6=>?_)
  have:([(B1i.getD ((n).toNat) 0)]:List UInt8).length=1:=rfl
  refine it rfl (A5c (f:=cU8) (r:=outr) (xs:=out) (ys:=([(B1i.getD ((n).toNat) 0)]:List UInt8)) (pre:=[]) (post:=[]) B1u (fun _=>rfl) (fun _=>rfl) rfl rfl rfl rfl rfl rfl rfl rfl rfl (A9 0 rfl) hokoutr (by first|omega|(simp<;>omega)) (by first|omega|(simp<;>omega))) fun ⟨r7,hr8⟩=>?_
  have:=VOk.le hr8
  have:=VOk.cap hr8
  refine ip' 1 0 [(3,.slice (va r7.q) ((out++([(B1i.getD ((n).toNat) 0)]:List UInt8)).length) r7.k)] (A3 (nx (A2 3 rfl (ip' 1 2 [(13,iv (bit:Int))] (ix rfl (B5 rfl rfl rfl rfl (by omega)) (ip' 1 0 [(4,iv ((bit:Int)+6))] (A3 ?_)))))))
  exact B4p (z1:=(fu1+1)) (z2:=out) (z3:=outr) (z4:=bit) fu1 (out++([(B1i.getD ((n).toNat) 0)]:List UInt8)) r7 (bit+6) ⟨(by omega),hR,hr8,(by (simp<;>omega)),(by omega)⟩ (Nat.lt_succ_self _) (mc [vo cU8 5 r7 (out++([(B1i.getD ((n).toNat) 0)]:List UInt8))] [true] rfl (by first|rfl|(simp only [List.length_set]<;>rfl))) fn0
 refine G6 (nx (sr 3 rfl (ip' 1 2 [(47,.slice (va outr.q) out.length outr.k)] ?_)))
 refine ix rfl (C1a (r:=outr) (pre:=[]) (post:=[]) Tryz.underlying9 Tryz.underlying30 rfl rfl rfl hokoutr (by kernel_rfl)) (ip' 1 0 [(2,sv out)] ?_)
 subst hR
 refine ie (A5 ?_)
 exact C8 hr hD
def O7:Nat→List UInt8→(List UInt8×Int)
 | 0,_=>([],0)
 | fu1+1,t=>(bif (!decide (((t.length:Int) % 4)=0)) then O7 fu1 (t++([61]:List UInt8)) else (t,0))
def A2s (s:List UInt8):List UInt8×Int :=
 (bif (decide ((4096:Int)<(s.length:Int))) then (([]:List UInt8),3) else (B8 (A2r s) fun (y29:List UInt8)=>O7 (((4 - y29.length % 4) % 4)+1) y29))
theorem A8z:∀ (fu:Nat) (t:List UInt8),(O7 fu t).1.length≤t.length+fu
 | 0,t=>Nat.zero_le _
 | fu+1,t=>by
  have ih:=A8z fu (t++[61])
  rw [O7]
  simp only [Bool.cond_eq_ite]
  split
  ·simp only [List.length_append,List.length_cons,List.length_nil] at ih;omega
  ·show t.length≤_;omega
theorem B3a (s:List UInt8):(A2s s).1.length≤33000:=by
 unfold A2s B8
 simp only [Bool.cond_eq_ite,decide_eq_true_eq]
 split
 ·exact Nat.zero_le _
 ·have h1:=B5h s
  have h2:=A8z (((4 - (A2r s).length % 4) % 4)+1) (A2r s)
  omega
theorem C3p (s:List UInt8) (R:List UInt8×Int) (hR:A2s s=R):I5 Tryz.prog 134 [sv s] [] (.tuple #[sv R.1,iv R.2]):=by
 refine zco Tryz.func134 [(0,sv s)] fun X hX hr hD=>?_
 replace hR:=(A2s.eq_1 ..).symm.trans hR
 refine sr 2 rfl (ip' 2 0 [] (ie (A7 (sr 3 rfl (ip' 3 0 [(7,bv (decide ((4096:Int)<(s.length:Int))))] (ie ?_))))))
 refine zjd rfl hR ?_ ?_<;>clear hR<;>intro hR h1 h1p
 ·refine sr 2 rfl (ip' 2 0 [(2,sv ([]:List UInt8)),(3,iv 3)] ?_)
  subst hR
  refine ie (A5 ?_)
  exact A0v hr hD
 refine A4 (nx (sr 3 rfl (ip' 1 2 [(8,sv s)] ?_)))
 have hQ:=C2 hR;clear hR;obtain ⟨y29,hy29,hR⟩:=hQ
 refine zca (C7u s (by omega) y29 hy29) fn0 ?_
 have:=B5h s;try rw [hy29] at this
 refine ip' 1 0 [(4,sv y29)] (ie (A7 (B1 (C5n (fun (fu:Nat) (t:List UInt8)=>(((4 - t.length % 4) % 4)<fu∧O7 fu t=R∧t.length+(4 - t.length % 4) % 4≤33000,[(4,sv t)],[],[],fu)) (((4 - y29.length % 4) % 4)+1) y29 ⟨(Nat.lt_succ_self _),hR,(by omega)⟩ (mk [] rfl) fn0 ?_))))
 rintro fu t ⟨hm2,hR,ht⟩
 obtain ⟨fu1,rfl⟩:∃ m,fu=m+1:=⟨fu - 1,by omega⟩
 replace hR:=(O7.eq_2 ..).symm.trans hR
 refine A7 (sr 4 rfl (ip' 2 2 [(11,iv (t.length:Int))] ?_))
 refine ix rfl (V6 (c:=((t.length:Int) % 4)) rfl rfl rfl (by decide) (by exact ⟨by omega,rfl⟩)) (ip' 1 0 [(13,bv (!decide (((t.length:Int) % 4)=0)))] (ie ?_))
 refine zjn rfl hR ?_ ?_<;>clear hR<;>intro hR h3 h3p
 ·refine A4 (nx (B1 (A2 3 rfl (ip' 1 2 [(14,sv t)] (ix rfl (zst rfl rfl rfl) (ip' 1 0 [(4,sv (t++([61]:List UInt8)))] (A3 ?_)))))))
  have hal:(t++([61]:List UInt8)).length=t.length+1:=by simp
  exact C6d (z1:=(fu1+1)) (z2:=t) fu1 (t++([61]:List UInt8)) ⟨(by omega),hR,(by (simp<;>omega))⟩ (Nat.lt_succ_self _) (mk [] rfl) fn0
 refine G6 (nx (sr 3 rfl (ip' 3 0 [(2,sv t),(3,iv 0)] ?_)))
 subst hR
 refine ie (A5 ?_)
 exact A0v hr hD
def I7 (a:Act):List UInt8×Int :=
 (bif ((decide (a={Act.zero with kind:=44,text:=a.text}))&&(X0 a.text)) then ((([50,59]:List UInt8)++a.text),0) else (bif ((((decide (a={Act.zero with kind:=45,n:=a.n,color:=a.color}))&&(decide ((0:Int)≤a.n)))&&(decide (a.n≤255)))&&(decide (a.color.kind=2))) then (B8 (A0q a.color) fun (y23:List UInt8×Int)=>(bif (decide (y23.2=0)) then ((((([52,59]:List UInt8)++(D9 (a.n.toNat+1) a.n))++([59]:List UInt8))++y23.1),0) else (([]:List UInt8),2))) else (bif ((decide (a={Act.zero with kind:=46,text:=a.text}))&&(decide ((a.text.length:Int)≤378))) then (B8 (A2s a.text) fun (y31:List UInt8×Int)=>((([53,50,59,99,59]:List UInt8)++y31.1),0)) else (([]:List UInt8),2))))
theorem A3f (a:Act):(I7 a).1.length≤a.text.length+40000:=by
 have h1:=B4x a.color
 have h2:=B3a a.text
 have h3:=M6 (a.n.toNat+1) a.n
 unfold I7 B8
 simp only [Bool.cond_eq_ite]
 repeat' split
 all_goals try simp only [Bool.and_eq_true,decide_eq_true_eq] at *
 all_goals first|omega|(simp<;>omega)
theorem A7q (a:Act) (R:List UInt8×Int) (hR:I7 a=R):I5 Tryz.prog 91 [ag (A0 a)] [] (.tuple #[sv R.1,iv R.2]):=by
 refine zco Tryz.func91 [(0,ag (A0 a))] fun X hX hr hD=>?_
 replace hR:=(I7.eq_1 ..).symm.trans hR
 refine sr 3 rfl (O5 3 0 [] (fun b1=>[(1,pt b1 0)]) (fun b1=>[bx b1 (A0 a) 26]) (fun b1=>(ie (A7 (B1 (sr 11 rfl (zrl 4 7 [0,0] [(9,ag (A0 a)),(12,ag (A0 ({Act.zero with kind:=44,text:=a.text})))] (ix rfl (A9h (a:=a) (b:={Act.zero with kind:=44,text:=a.text}) D0y rfl rfl rfl) (ip' 1 5 [(14,bv (decide (a={Act.zero with kind:=44,text:=a.text})))] ?_)))))))))
 refine zid 4 1 14 18 (X0 a.text) (fun g2 g2p=>?_) ?_
 ·refine zrl 2 2 [0] [(16,sv a.text)] (zca (C5r a.text _ rfl) fn0 (ip' 1 0 [(18,bv (X0 a.text))] ?_))
  exact A3 (K5 4 14 18 g2 fn0 (mk [true] rfl) rfl rfl rfl rfl rfl)
 refine ip' 1 0 [(8,bv ((decide (a={Act.zero with kind:=44,text:=a.text}))&&(X0 a.text)))] (ie ?_)
 refine zjb rfl hR ?_ ?_<;>clear hR<;>intro hR h3
 ·have h3p:=h3;try simp at h3p
  have hti:=C3x a.text (by have q:=h3;rw [Bool.and_eq_true] at q;exact q.2)
  refine sr 5 rfl (zrl 2 3 [0] [(20,sv a.text)] (ix rfl (zst rfl rfl rfl) (ip' 2 0 [(2,sv (([50,59]:List UInt8)++a.text)),(3,iv 0)] ?_)))
  subst hR
  refine ie (A5 ?_)
  exact A0v hr hD
 have h3p:=h3;try simp at h3p
 refine sr 24 rfl (zrl 6 18 [0,0,0] [(23,ag (A0 a)),(28,ag (A0 ({Act.zero with kind:=45,n:=a.n,color:=a.color})))] (ix rfl (A9h (a:=a) (b:={Act.zero with kind:=45,n:=a.n,color:=a.color}) D0y rfl rfl rfl) (ip' 1 16 [(30,bv (decide (a={Act.zero with kind:=45,n:=a.n,color:=a.color})))] ?_)))
 refine zid 4 12 30 34 (decide ((0:Int)≤a.n)) (fun g4 g4p=>?_) ?_
 ·refine zrl 4 0 [0] [(34,bv (decide ((0:Int)≤a.n)))] ?_
  exact A3 (K5 2 30 34 g4 fn0 (mk [true] rfl) rfl rfl rfl rfl rfl)
 refine ip' 1 11 [(35,bv ((decide (a={Act.zero with kind:=45,n:=a.n,color:=a.color}))&&(decide ((0:Int)≤a.n))))] ?_
 refine zia 4 7 35 39 (decide (a.n≤255)) (fun g5=>?_) ?_
 ·have g5p:(a={Act.zero with kind:=45,n:=a.n,color:=a.color})∧((0:Int)≤a.n):=by simpa using g5
  refine zrl 4 0 [0] [(39,bv (decide (a.n≤255)))] ?_
  exact A3 (K5 2 35 39 g5 fn0 (mk [true] rfl) rfl rfl rfl rfl rfl)
 refine ip' 1 6 [(40,bv (((decide (a={Act.zero with kind:=45,n:=a.n,color:=a.color}))&&(decide ((0:Int)≤a.n)))&&(decide (a.n≤255))))] ?_
 refine zia 5 1 40 45 (decide (a.color.kind=2)) (fun g6=>?_) ?_
 ·have g6p:((a={Act.zero with kind:=45,n:=a.n,color:=a.color})∧((0:Int)≤a.n))∧(a.n≤255):=by simpa using g6
  refine zrl 5 0 [0] [(45,bv (decide (a.color.kind=2)))] ?_
  exact A3 (K5 2 40 45 g6 fn0 (mk [true] rfl) rfl rfl rfl rfl rfl)
 refine ip' 1 0 [(22,bv ((((decide (a={Act.zero with kind:=45,n:=a.n,color:=a.color}))&&(decide ((0:Int)≤a.n)))&&(decide (a.n≤255)))&&(decide (a.color.kind=2))))] (ie ?_)
 refine zjb rfl hR ?_ ?_<;>clear hR<;>intro hR h7
 ·have h7p:(((a={Act.zero with kind:=45,n:=a.n,color:=a.color})∧((0:Int)≤a.n))∧(a.n≤255))∧(a.color.kind=2):=by simpa using h7
  refine sr 8 rfl (zrl 2 6 [0] [(48,ag (M1 a.color))] ?_)
  have hQ:=C2 hR;clear hR;obtain ⟨y23,hy23,hR⟩:=hQ
  refine zca (C7x a.color y23 hy23) fn0 ?_
  have:=B4x a.color;try rw [hy23] at this
  refine ip' 5 0 [(4,sv y23.1),(5,iv y23.2)] (ie (sr 2 rfl (ip' 2 0 [(53,bv (decide (y23.2=0)))] (ie ?_))))
  refine zjd rfl hR ?_ ?_<;>clear hR<;>intro hR h8 h8p
  ·refine sr 9 rfl (zrl 2 7 [0] [(55,iv a.n)] (zca (A6s (a.n.toNat+1) a.n (by first|omega|(simp<;>omega)) (Nat.lt_succ_self _) _ rfl) fn0 ?_))
   have:=M6 (a.n.toNat+1) a.n
   refine ix rfl (zst rfl rfl rfl) (ix rfl (zst rfl rfl rfl) (ip' 1 3 [(59,sv y23.1)] (ix rfl (zst rfl rfl rfl) (ip' 2 0 [(2,sv (((([52,59]:List UInt8)++(D9 (a.n.toNat+1) a.n))++([59]:List UInt8))++y23.1)),(3,iv 0)] ?_))))
   subst hR
   refine ie (A5 ?_)
   exact A0v hr hD
  refine A4 (nx (sr 2 rfl (ip' 2 0 [(2,sv ([]:List UInt8)),(3,iv 2)] ?_)))
  subst hR
  refine ie (A5 ?_)
  exact A0v hr hD
 have h7p:¬ ((((a={Act.zero with kind:=45,n:=a.n,color:=a.color})∧((0:Int)≤a.n))∧(a.n≤255))∧(a.color.kind=2)):=by simpa using h7
 refine sr 12 rfl (zrl 4 8 [0,0] [(62,ag (A0 a)),(65,ag (A0 ({Act.zero with kind:=46,text:=a.text})))] (ix rfl (A9h (a:=a) (b:={Act.zero with kind:=46,text:=a.text}) D0y rfl rfl rfl) (ip' 1 6 [(67,bv (decide (a={Act.zero with kind:=46,text:=a.text})))] ?_)))
 refine zid 5 1 67 72 (decide ((a.text.length:Int)≤378)) (fun g9 g9p=>?_) ?_
 ·refine zrl 5 0 [0] [(72,bv (decide ((a.text.length:Int)≤378)))] ?_
  exact A3 (K5 2 67 72 g9 fn0 (mk [true] rfl) rfl rfl rfl rfl rfl)
 refine ip' 1 0 [(61,bv ((decide (a={Act.zero with kind:=46,text:=a.text}))&&(decide ((a.text.length:Int)≤378))))] (ie ?_)
 refine zja rfl hR ?_ ?_<;>clear hR<;>intro hR h10 h10p
 ·refine sr 8 rfl (zrl 2 6 [0] [(75,sv a.text)] ?_)
  have hQ:=C2 hR;clear hR;obtain ⟨y31,hy31,hR⟩:=hQ
  refine zca (C3p a.text y31 hy31) fn0 ?_
  have:=B3a a.text;try rw [hy31] at this
  refine ip' 5 0 [(6,sv y31.1)] (ie (sr 4 rfl (ip' 1 3 [(79,sv y31.1)] (ix rfl (zst rfl rfl rfl) (ip' 2 0 [(2,sv (([53,50,59,99,59]:List UInt8)++y31.1)),(3,iv 0)] ?_)))))
  subst hR
  refine ie (A5 ?_)
  exact A0v hr hD
 refine A4 (nx (sr 2 rfl (ip' 2 0 [(2,sv ([]:List UInt8)),(3,iv 2)] ?_)))
 subst hR
 refine ie (A5 ?_)
 exact A0v hr hD
def A7k:List Ar2 :=
 ([(⟨768,879⟩:Ar2),(⟨1155,1161⟩:Ar2),(⟨1425,1469⟩:Ar2),(⟨1552,1562⟩:Ar2),(⟨1611,1631⟩:Ar2),(⟨6832,6911⟩:Ar2),(⟨7616,7679⟩:Ar2),(⟨8203,8207⟩:Ar2),(⟨8400,8447⟩:Ar2),(⟨65024,65039⟩:Ar2),(⟨65056,65071⟩:Ar2)]:List Ar2)
theorem C7t (R:List Ar2) (hR:A7k=R):Con Tryz.prog 194 [] [] [] ({t:Option Addr×Nat // R.length≤t.2∧R.length≤9223372036854775807}) (fun x=>.slice x.1.1 R.length x.1.2) (fun x=>[]) (fun x=>[sl A1u x.1.1 R]):=by
 refine zco Tryz.func194 [] fun X hX hr hD=>?_
 replace hR:=(A7k.eq_1 ..).symm.trans hR
 refine sr 1 rfl (ip' 1 0 [] (ie (sr 13 rfl (zrl 11 2 [] [(1,ag (A1u (⟨768,879⟩:Ar2))),(2,ag (A1u (⟨1155,1161⟩:Ar2))),(3,ag (A1u (⟨1425,1469⟩:Ar2))),(4,ag (A1u (⟨1552,1562⟩:Ar2))),(5,ag (A1u (⟨1611,1631⟩:Ar2))),(6,ag (A1u (⟨6832,6911⟩:Ar2))),(7,ag (A1u (⟨7616,7679⟩:Ar2))),(8,ag (A1u (⟨8203,8207⟩:Ar2))),(9,ag (A1u (⟨8400,8447⟩:Ar2))),(10,ag (A1u (⟨65024,65039⟩:Ar2))),(11,ag (A1u (⟨65056,65071⟩:Ar2)))] (it rfl (B4 (c:=A1u) (xs:=([(⟨768,879⟩:Ar2),(⟨1155,1161⟩:Ar2),(⟨1425,1469⟩:Ar2),(⟨1552,1562⟩:Ar2),(⟨1611,1631⟩:Ar2),(⟨6832,6911⟩:Ar2),(⟨7616,7679⟩:Ar2),(⟨8203,8207⟩:Ar2),(⟨8400,8447⟩:Ar2),(⟨65024,65039⟩:Ar2),(⟨65056,65071⟩:Ar2)]:List Ar2)) C8v rfl rfl rfl (by kernel_rfl)) fun b1=>?_)))))
 have:([(⟨768,879⟩:Ar2),(⟨1155,1161⟩:Ar2),(⟨1425,1469⟩:Ar2),(⟨1552,1562⟩:Ar2),(⟨1611,1631⟩:Ar2),(⟨6832,6911⟩:Ar2),(⟨7616,7679⟩:Ar2),(⟨8203,8207⟩:Ar2),(⟨8400,8447⟩:Ar2),(⟨65024,65039⟩:Ar2),(⟨65056,65071⟩:Ar2)]:List Ar2).length=11:=rfl
 refine ip' 1 0 [(0,.slice (some ⟨b1,0,none⟩) 11 11)] ?_
 subst hR
 refine ie (A5 ?_)
 exact zer hr hD (M3 rfl (B7 rfl)) (zq (some ⟨b1,0,none⟩) 11) (mk [] rfl) (A1.con1 (A9 0 rfl) fn0)
def A4a (cp:Int):List Ar2→Nat→Bool
 | [],i=>false
 | hd_l0::tl_l0,i=>(bif ((decide (hd_l0.a≤cp))&&(decide (cp≤hd_l0.b))) then true else A4a cp tl_l0 (i+1))
def A2w (l:List Ar2) (cp:Int):Bool :=
 A4a cp l 0
theorem C4q (l:List Ar2) (cp:Int) (lq:Option Addr) (lk:Nat) (hll:l.length≤9223372036854775807) (hcl:l.length≤lk) (R:Bool) (hR:A2w l cp=R):I5 Tryz.prog 193 [.slice lq l.length lk,iv cp] [sl A1u lq l] (bv R):=by
 refine zco Tryz.func193 [(0,.slice lq l.length lk),(1,iv cp)] fun X hX hr hD=>?_
 replace hR:=(A2w.eq_1 ..).symm.trans hR
 refine sr 1 rfl (ip' 1 0 [] (ie (A7 (sr 1 rfl (ip' 1 0 [(5,iv 0)] (ie (B1 (C4k (fun (i:Nat)=>(i≤l.length∧A4a cp (l.drop i) i=R,[(0,.slice lq l.length lk),(1,iv cp),(5,iv (i:Int))],[],[sl A1u lq l],l.length - i)) 0 ⟨(by omega),hR⟩ (mk [] rfl) A1.refl ?_))))))))
 rintro i ⟨hm1,hR⟩
 refine A7 (sr 4 rfl (ip' 4 0 [(9,bv (decide ((i:Int)<(l.length:Int))))] ?_))
 refine ie (A1f rfl (fun h2=>?_) (fun h2=>?_))
 ·have h2p:(i:Int)<(l.length:Int):=by simpa using h2
  rw [A2t Ar2.zero (show i<l.length by omega)] at hR;replace hR:=(A4a.eq_2 ..).symm.trans hR
  refine A4 (nx (A7 (B1 (sr 16 rfl (ip' 3 13 [(12,iv cp),(13,.slice lq l.length lk),(14,iv (i:Int))] (K9 0 rfl (by omega) fun a3 hq4=>(ix rfl (G3 C8v rfl rfl hq4 rfl i rfl (by omega)) (ix rfl (A2l Tryz.underlying71 ty3 rfl rfl rfl 0 rfl (by decide)) (ix rfl (C4 (v:=iv ((l.getD i Ar2.zero).a)) (us:=[iv ((l.getD i Ar2.zero).a)]) ty3 rfl rfl (B1h (I4 (c:=A1u) (sz:=2) hq4 (fun _=>rfl) 0 rfl (gd Ar2.zero (by omega))) (ws:=[iv ((l.getD i Ar2.zero).a)]) 0 1 rfl) rfl) (ip' 2 8 [(19,bv (decide ((l.getD i Ar2.zero).a≤cp)))] ?_))))))))))
  refine zid 8 0 19 27 (decide (cp≤(l.getD i Ar2.zero).b)) (fun g5 g5p=>?_) ?_
  ·refine ip' 3 5 [(20,iv cp),(21,.slice lq l.length lk),(22,iv (i:Int))] (ix rfl (G3 C8v rfl rfl hq4 rfl i rfl (by omega)) (ix rfl (A2l Tryz.underlying71 ty3 rfl rfl rfl 1 rfl (by decide)) (ix rfl (C4 (v:=iv ((l.getD i Ar2.zero).b)) (us:=[iv ((l.getD i Ar2.zero).b)]) ty3 rfl rfl (B1h (I4 (c:=A1u) (sz:=2) hq4 (fun _=>rfl) 0 rfl (gd Ar2.zero (by omega))) (ws:=[iv ((l.getD i Ar2.zero).b)]) 1 1 rfl) rfl) (ip' 2 0 [(27,bv (decide (cp≤(l.getD i Ar2.zero).b)))] ?_))))
   exact zai 8 19 27 g5
  refine ie ?_
  refine zja rfl hR ?_ ?_<;>clear hR<;>intro hR h6 h6p
  ·refine sr 1 rfl (ip' 1 0 [(4,bv true)] ?_)
   subst hR
   refine ie (A5 ?_)
   exact C8 hr hD
  refine A4 (nx (A2 3 rfl (ip' 1 2 [(10,iv (i:Int))] (ix rfl (B5 rfl rfl rfl rfl (by omega)) (ip' 1 0 [(5,iv ((i:Int)+1))] (A3 ?_))))))
  exact C4w (z1:=i) (i+1) ⟨(by omega),hR⟩ (by (try dsimp only);omega) (mk [] rfl) A1.refl
 have h2p:¬ ((i:Int)<(l.length:Int)):=by simpa using h2
 rw [A3e h2p] at hR;replace hR:=(A4a.eq_1 ..).symm.trans hR
 refine G6 (nx (sr 1 rfl (ip' 1 0 [(4,bv false)] ?_)))
 subst hR
 refine ie (A5 ?_)
 exact C8 hr hD
def A7e:List Ar2 :=
 ([(⟨4352,4447⟩:Ar2),(⟨11904,12350⟩:Ar2),(⟨12353,13311⟩:Ar2),(⟨13312,19903⟩:Ar2),(⟨19968,40959⟩:Ar2),(⟨40960,42191⟩:Ar2),(⟨44032,55203⟩:Ar2),(⟨63744,64255⟩:Ar2),(⟨65072,65135⟩:Ar2),(⟨65280,65376⟩:Ar2),(⟨65504,65510⟩:Ar2),(⟨127744,128591⟩:Ar2),(⟨128640,128767⟩:Ar2),(⟨129280,129535⟩:Ar2),(⟨131072,262141⟩:Ar2)]:List Ar2)
theorem D1c (R:List Ar2) (hR:A7e=R):Con Tryz.prog 195 [] [] [] ({t:Option Addr×Nat // R.length≤t.2∧R.length≤9223372036854775807}) (fun x=>.slice x.1.1 R.length x.1.2) (fun x=>[]) (fun x=>[sl A1u x.1.1 R]):=by
 refine zco Tryz.func195 [] fun X hX hr hD=>?_
 replace hR:=(A7e.eq_1 ..).symm.trans hR
 refine sr 1 rfl (ip' 1 0 [] (ie (sr 17 rfl (zrl 15 2 [] [(1,ag (A1u (⟨4352,4447⟩:Ar2))),(2,ag (A1u (⟨11904,12350⟩:Ar2))),(3,ag (A1u (⟨12353,13311⟩:Ar2))),(4,ag (A1u (⟨13312,19903⟩:Ar2))),(5,ag (A1u (⟨19968,40959⟩:Ar2))),(6,ag (A1u (⟨40960,42191⟩:Ar2))),(7,ag (A1u (⟨44032,55203⟩:Ar2))),(8,ag (A1u (⟨63744,64255⟩:Ar2))),(9,ag (A1u (⟨65072,65135⟩:Ar2))),(10,ag (A1u (⟨65280,65376⟩:Ar2))),(11,ag (A1u (⟨65504,65510⟩:Ar2))),(12,ag (A1u (⟨127744,128591⟩:Ar2))),(13,ag (A1u (⟨128640,128767⟩:Ar2))),(14,ag (A1u (⟨129280,129535⟩:Ar2))),(15,ag (A1u (⟨131072,262141⟩:Ar2)))] (it rfl (B4 (c:=A1u) (xs:=([(⟨4352,4447⟩:Ar2),(⟨11904,12350⟩:Ar2),(⟨12353,13311⟩:Ar2),(⟨13312,19903⟩:Ar2),(⟨19968,40959⟩:Ar2),(⟨40960,42191⟩:Ar2),(⟨44032,55203⟩:Ar2),(⟨63744,64255⟩:Ar2),(⟨65072,65135⟩:Ar2),(⟨65280,65376⟩:Ar2),(⟨65504,65510⟩:Ar2),(⟨127744,128591⟩:Ar2),(⟨128640,128767⟩:Ar2),(⟨129280,129535⟩:Ar2),(⟨131072,262141⟩:Ar2)]:List Ar2)) C8v rfl rfl rfl (by kernel_rfl)) fun b1=>?_)))))
 have:([(⟨4352,4447⟩:Ar2),(⟨11904,12350⟩:Ar2),(⟨12353,13311⟩:Ar2),(⟨13312,19903⟩:Ar2),(⟨19968,40959⟩:Ar2),(⟨40960,42191⟩:Ar2),(⟨44032,55203⟩:Ar2),(⟨63744,64255⟩:Ar2),(⟨65072,65135⟩:Ar2),(⟨65280,65376⟩:Ar2),(⟨65504,65510⟩:Ar2),(⟨127744,128591⟩:Ar2),(⟨128640,128767⟩:Ar2),(⟨129280,129535⟩:Ar2),(⟨131072,262141⟩:Ar2)]:List Ar2).length=15:=rfl
 refine ip' 1 0 [(0,.slice (some ⟨b1,0,none⟩) 15 15)] ?_
 subst hR
 refine ie (A5 ?_)
 exact zer hr hD (M3 rfl (B7 rfl)) (zq (some ⟨b1,0,none⟩) 15) (mk [] rfl) (A1.con1 (A9 0 rfl) fn0)
def A7t (cp:Int):Int :=
 (bif (((!(Q0 cp))||(decide (cp<32)))||((decide ((127:Int)≤cp))&&(decide (cp<160)))) then (-1) else (B8 A7k fun (y47:List Ar2)=>(bif (A2w y47 cp) then 0 else (B8 A7e fun (y48:List Ar2)=>(bif (A2w y48 cp) then 2 else 1)))))
theorem D2s (cp:Int) (R:Int) (hR:A7t cp=R):I5 Tryz.prog 135 [iv cp] [] (iv R):=by
 refine zco Tryz.func135 [(0,iv cp)] fun X hX hr hD=>?_
 replace hR:=(A7t.eq_1 ..).symm.trans hR
 refine sr 1 rfl (ip' 1 0 [] (ie (A7 (sr 15 rfl (ip' 1 14 [(3,iv cp)] (zca (B6w cp _ rfl) fn0 (ip' 2 11 [(6,bv (!(Q0 cp)))] ?_)))))))
 refine zio 3 8 6 9 (decide (cp<32)) (fun g1=>?_) ?_
 ·refine ip' 3 0 [(9,bv (decide (cp<32)))] ?_
  exact A3 (K5 2 6 9 g1 fn0 (mk [] rfl) rfl rfl rfl rfl rfl)
 refine ip' 1 7 [(10,bv ((!(Q0 cp))||(decide (cp<32))))] ?_
 refine zio 7 0 10 17 ((decide ((127:Int)≤cp))&&(decide (cp<160))) (fun g2=>?_) ?_
 ·have g2p:=g2;try simp at g2p
  refine ip' 3 4 [(13,bv (decide ((127:Int)≤cp)))] ?_
  refine zid 3 1 13 16 (decide (cp<160)) (fun g3 g3p=>?_) ?_
  ·refine ip' 3 0 [(16,bv (decide (cp<160)))] ?_
   exact A3 (K5 2 13 16 g3 fn0 (mk [] rfl) rfl rfl rfl rfl rfl)
  refine ip' 1 0 [(17,bv ((decide ((127:Int)≤cp))&&(decide (cp<160))))] ?_
  exact A3 (K5 4 10 17 g2 fn0 (mk [] rfl) rfl rfl rfl rfl rfl)
 refine ie ?_
 refine zjb rfl hR ?_ ?_<;>clear hR<;>intro hR h4
 ·have h4p:=h4;try simp at h4p
  refine sr 1 rfl (ip' 1 0 [(2,iv (-1))] ?_)
  subst hR
  refine ie (A5 ?_)
  exact C8 hr hD
 have h4p:=h4;try simp at h4p
 refine A4 (nx (A7 (sr 3 rfl ?_)))
 have hQ:=C2 hR;clear hR;obtain ⟨y47,hy47,hR⟩:=hQ
 refine zcm (C7t y47 hy47) fn0 fun ⟨⟨q5,k6⟩,hp7⟩=>?_
 obtain ⟨hc8,hl9⟩:=hp7
 refine ip' 1 1 [(19,iv cp)] (zca (C4q y47 cp q5 k6 (by first|omega|(simp<;>omega)|(dsimp only;omega)|decide) (by first|omega|(simp<;>omega)|(dsimp only;omega)|decide) _ rfl) A1.refl (ie ?_))
 refine zjb rfl hR ?_ ?_<;>clear hR<;>intro hR h10
 ·refine sr 1 rfl (ip' 1 0 [(2,iv 0)] ?_)
  subst hR
  refine ie (A5 ?_)
  exact C8 hr hD
 refine A4 (nx (A7 (sr 3 rfl ?_)))
 have hQ:=C2 hR;clear hR;obtain ⟨y48,hy48,hR⟩:=hQ
 refine zcm (D1c y48 hy48) fn0 fun ⟨⟨q11,k12⟩,hp13⟩=>?_
 obtain ⟨hc14,hl15⟩:=hp13
 refine ip' 1 1 [(22,iv cp)] (zca (C4q y48 cp q11 k12 (by first|omega|(simp<;>omega)|(dsimp only;omega)|decide) (by first|omega|(simp<;>omega)|(dsimp only;omega)|decide) _ rfl) (A1.pick [0] rfl) (ie ?_))
 refine zjb rfl hR ?_ ?_<;>clear hR<;>intro hR h16
 ·refine sr 1 rfl (ip' 1 0 [(2,iv 2)] ?_)
  subst hR
  refine ie (A5 ?_)
  exact C8 hr hD
 refine A4 (nx (sr 1 rfl (ip' 1 0 [(2,iv 1)] ?_)))
 subst hR
 refine ie (A5 ?_)
 exact C8 hr hD
def F7 (n:Int) (from_:Int) (to_:Int):Bool :=
 ((decide (from_≤n))&&(decide (n≤to_)))
theorem U7 (n:Int) (from_:Int) (to_:Int) (R:Bool) (hR:F7 n from_ to_=R):I5 Tryz.prog 136 [iv n,iv from_,iv to_] [] (bv R):=by
 refine zco Tryz.func136 [(0,iv n),(1,iv from_),(2,iv to_)] fun X hX hr hD=>?_
 replace hR:=(F7.eq_1 ..).symm.trans hR
 refine sr 1 rfl (ip' 1 0 [] (ie (sr 9 rfl (ip' 4 5 [(10,bv (decide (from_≤n)))] ?_))))
 refine zid 4 1 10 14 (decide (n≤to_)) (fun g1 g1p=>?_) ?_
 ·refine ip' 4 0 [(14,bv (decide (n≤to_)))] ?_
  exact A3 (K5 2 10 14 g1 fn0 (mk [] rfl) rfl rfl rfl rfl rfl)
 refine ip' 1 0 [(6,bv ((decide (from_≤n))&&(decide (n≤to_))))] ?_
 subst hR
 refine ie (A5 ?_)
 exact C8 hr hD
def K3 (n:Int):Bool :=
 (F7 n 1 9999)
theorem A4x (n:Int) (R:Bool) (hR:K3 n=R):I5 Tryz.prog 137 [iv n] [] (bv R):=by
 refine zco Tryz.func137 [(0,iv n)] fun X hX hr hD=>?_
 replace hR:=(K3.eq_1 ..).symm.trans hR
 refine sr 1 rfl (ip' 1 0 [] (ie (sr 3 rfl (ip' 1 2 [(3,iv n)] (zca (U7 n 1 9999 _ rfl) fn0 (ip' 1 0 [(2,bv (F7 n 1 9999))] ?_))))))
 subst hR
 refine ie (A5 ?_)
 exact C8 hr hD
def V3 (a:Act) (t155:Bool):Bool :=
 (bif t155 then ((F7 a.n 0 9999)&&(F7 a.m 0 1)) else (bif (decide (a.kind=38)) then ((F7 a.n 0 9999)&&(F7 a.m 0 9999)) else (bif (decide (a.kind=40)) then ((F7 a.n 0 6)&&(decide (a.m=0))) else (bif (decide (a.kind=41)) then ((F7 a.n 5 6)&&(decide (a.m=0))) else false))))
def J1 (a:Act) (t101:Bool):Bool :=
 (bif t101 then ((K3 a.n)&&(decide (a.m=0))) else (bif (decide (a.kind=26)) then ((F7 a.n 0 3)&&(decide (a.m=0))) else (bif (decide (a.kind=27)) then ((F7 a.n 0 2)&&(decide (a.m=0))) else (bif (decide (a.kind=35)) then (((decide (a.n=0))||(decide (a.n=3)))&&(decide (a.m=0))) else (bif (decide (a.kind=36)) then V3 a (decide (a.kind=36)) else (bif (decide (a.kind=37)) then V3 a (decide (a.kind=37)) else V3 a (decide (a.kind=43))))))))
def X8 (a:Act) (t90:Bool):Bool :=
 (bif t90 then ((F7 a.n 0 1)&&(K3 a.m)) else (bif (decide (a.kind=22)) then J1 a (decide (a.kind=22)) else (bif (decide (a.kind=23)) then J1 a (decide (a.kind=23)) else (bif (decide (a.kind=24)) then J1 a (decide (a.kind=24)) else (bif (decide (a.kind=25)) then J1 a (decide (a.kind=25)) else (bif (decide (a.kind=28)) then J1 a (decide (a.kind=28)) else (bif (decide (a.kind=29)) then J1 a (decide (a.kind=29)) else (bif (decide (a.kind=30)) then J1 a (decide (a.kind=30)) else (bif (decide (a.kind=31)) then J1 a (decide (a.kind=31)) else (bif (decide (a.kind=32)) then J1 a (decide (a.kind=32)) else J1 a (decide (a.kind=34))))))))))))
def U8 (a:Act) (t38:Bool):Bool :=
 (bif t38 then ((F7 a.n 0 1)&&(decide (a.m=0))) else (bif (decide (a.kind=17)) then ((F7 a.n 0 3)&&(F7 a.m 0 1)) else (bif (decide (a.kind=18)) then ((F7 a.n 2 3)&&(decide (a.m=0))) else (bif (decide (a.kind=19)) then ((K3 a.n)&&(K3 a.m)) else (bif (decide (a.kind=20)) then ((F7 a.n 0 3)&&(K3 a.m)) else (bif (decide (a.kind=21)) then X8 a (decide (a.kind=21)) else X8 a (decide (a.kind=33))))))))
def H5 (a:Act) (t16:Bool):Bool :=
 (bif t16 then ((decide (a.n=0))&&(decide (a.m=0))) else (bif (decide (a.kind=7)) then U8 a (decide (a.kind=7)) else (bif (decide (a.kind=14)) then U8 a (decide (a.kind=14)) else U8 a (decide (a.kind=42)))))
def N3 (a:Act):Bool :=
 (bif (decide (a.kind=1)) then ((decide ((0:Int)≤(A7t a.n)))&&(decide (a.m=0))) else (bif (decide (a.kind=2)) then H5 a (decide (a.kind=2)) else (bif (decide (a.kind=3)) then H5 a (decide (a.kind=3)) else (bif (decide (a.kind=4)) then H5 a (decide (a.kind=4)) else (bif (decide (a.kind=5)) then H5 a (decide (a.kind=5)) else (bif (decide (a.kind=6)) then H5 a (decide (a.kind=6)) else (bif (decide (a.kind=8)) then H5 a (decide (a.kind=8)) else (bif (decide (a.kind=9)) then H5 a (decide (a.kind=9)) else (bif (decide (a.kind=10)) then H5 a (decide (a.kind=10)) else (bif (decide (a.kind=11)) then H5 a (decide (a.kind=11)) else (bif (decide (a.kind=12)) then H5 a (decide (a.kind=12)) else (bif (decide (a.kind=13)) then H5 a (decide (a.kind=13)) else (bif (decide (a.kind=15)) then H5 a (decide (a.kind=15)) else H5 a (decide (a.kind=16)))))))))))))))
theorem C1v (a:Act) (R:Bool) (hR:N3 a=R):I5 Tryz.prog 92 [ag (A0 a)] [] (bv R):=by
 refine zco Tryz.func92 [(0,ag (A0 a))] fun X hX hr hD=>?_
 replace hR:=(N3.eq_1 ..).symm.trans hR
 refine sr 2 rfl (O5 2 0 [] (fun b1=>[(1,pt b1 0)]) (fun b1=>[bx b1 (A0 a) 26]) (fun b1=>(ie (A7 (sr 2 rfl (zrl 2 0 [0] [(4,iv a.kind)] (ie (B1 (sr 2 rfl (ip' 2 0 [(5,bv (decide (a.kind=1)))] (ie ?_)))))))))))
 refine zjd rfl hR ?_ ?_<;>clear hR<;>intro hR h2 h2p
 ·refine sr 10 rfl (zrl 2 8 [0] [(8,iv a.n)] (zca (D2s a.n _ rfl) fn0 (ip' 2 5 [(11,bv (decide ((0:Int)≤(A7t a.n))))] ?_)))
  refine zid 4 1 11 15 (decide (a.m=0)) (fun g3 g3p=>?_) ?_
  ·refine zrl 4 0 [0] [(15,bv (decide (a.m=0)))] ?_
   exact A3 (K5 2 11 15 g3 fn0 (mk [true] rfl) rfl rfl rfl rfl rfl)
  refine ip' 1 0 [(2,bv ((decide ((0:Int)≤(A7t a.n)))&&(decide (a.m=0))))] ?_
  subst hR
  refine ie (A5 ?_)
  exact C8 hr hD
 refine B6l (fun (t16:Bool)=>(H5 a t16=R,[(1,pt b1 0),(4,iv a.kind),(16,bv t16)],[bx b1 (A0 a) 26],[])) ?_ ?_
 ·refine sr 2 rfl (ip' 2 0 [(16,bv (decide (a.kind=2)))] (ie ?_))
  refine zjd rfl hR ?_ ?_<;>clear hR<;>intro hR h4 h4p
  ·refine A4 ?_
   exact V8 (decide (a.kind=2)) hR (mk [true] rfl) fn0
  refine sr 2 rfl (ip' 2 0 [(16,bv (decide (a.kind=3)))] (ie ?_))
  refine zjd rfl hR ?_ ?_<;>clear hR<;>intro hR h5 h5p
  ·refine A4 ?_
   exact V8 (decide (a.kind=3)) hR (mk [true] rfl) fn0
  refine sr 2 rfl (ip' 2 0 [(16,bv (decide (a.kind=4)))] (ie ?_))
  refine zjd rfl hR ?_ ?_<;>clear hR<;>intro hR h6 h6p
  ·refine A4 ?_
   exact V8 (decide (a.kind=4)) hR (mk [true] rfl) fn0
  refine sr 2 rfl (ip' 2 0 [(16,bv (decide (a.kind=5)))] (ie ?_))
  refine zjd rfl hR ?_ ?_<;>clear hR<;>intro hR h7 h7p
  ·refine A4 ?_
   exact V8 (decide (a.kind=5)) hR (mk [true] rfl) fn0
  refine sr 2 rfl (ip' 2 0 [(16,bv (decide (a.kind=6)))] (ie ?_))
  refine zjd rfl hR ?_ ?_<;>clear hR<;>intro hR h8 h8p
  ·refine A4 ?_
   exact V8 (decide (a.kind=6)) hR (mk [true] rfl) fn0
  refine sr 2 rfl (ip' 2 0 [(16,bv (decide (a.kind=8)))] (ie ?_))
  refine zjd rfl hR ?_ ?_<;>clear hR<;>intro hR h9 h9p
  ·refine A4 ?_
   exact V8 (decide (a.kind=8)) hR (mk [true] rfl) fn0
  refine sr 2 rfl (ip' 2 0 [(16,bv (decide (a.kind=9)))] (ie ?_))
  refine zjd rfl hR ?_ ?_<;>clear hR<;>intro hR h10 h10p
  ·refine A4 ?_
   exact V8 (decide (a.kind=9)) hR (mk [true] rfl) fn0
  refine sr 2 rfl (ip' 2 0 [(16,bv (decide (a.kind=10)))] (ie ?_))
  refine zjd rfl hR ?_ ?_<;>clear hR<;>intro hR h11 h11p
  ·refine A4 ?_
   exact V8 (decide (a.kind=10)) hR (mk [true] rfl) fn0
  refine sr 2 rfl (ip' 2 0 [(16,bv (decide (a.kind=11)))] (ie ?_))
  refine zjd rfl hR ?_ ?_<;>clear hR<;>intro hR h12 h12p
  ·refine A4 ?_
   exact V8 (decide (a.kind=11)) hR (mk [true] rfl) fn0
  refine sr 2 rfl (ip' 2 0 [(16,bv (decide (a.kind=12)))] (ie ?_))
  refine zjd rfl hR ?_ ?_<;>clear hR<;>intro hR h13 h13p
  ·refine A4 ?_
   exact V8 (decide (a.kind=12)) hR (mk [true] rfl) fn0
  refine sr 2 rfl (ip' 2 0 [(16,bv (decide (a.kind=13)))] (ie ?_))
  refine zjd rfl hR ?_ ?_<;>clear hR<;>intro hR h14 h14p
  ·refine A4 ?_
   exact V8 (decide (a.kind=13)) hR (mk [true] rfl) fn0
  refine sr 2 rfl (ip' 2 0 [(16,bv (decide (a.kind=15)))] (ie ?_))
  refine zjd rfl hR ?_ ?_<;>clear hR<;>intro hR h15 h15p
  ·refine A4 ?_
   exact V8 (decide (a.kind=15)) hR (mk [true] rfl) fn0
  refine A2 2 rfl (ip' 2 0 [(16,bv (decide (a.kind=16)))] (A3 ?_))
  exact V8 (decide (a.kind=16)) hR (mk [true] rfl) fn0
 intro t16
 rintro hR
 replace hR:=(H5.eq_1 ..).symm.trans hR
 refine zjb rfl hR ?_ ?_<;>clear hR<;>intro hR h16
 ·refine sr 9 rfl (zrl 4 5 [0] [(33,bv (decide (a.n=0)))] ?_)
  refine zid 4 1 33 37 (decide (a.m=0)) (fun g17 g17p=>?_) ?_
  ·refine zrl 4 0 [0] [(37,bv (decide (a.m=0)))] ?_
   exact A3 (K5 2 33 37 g17 fn0 (mk [true] rfl) rfl rfl rfl rfl rfl)
  refine ip' 1 0 [(2,bv ((decide (a.n=0))&&(decide (a.m=0))))] ?_
  subst hR
  refine ie (A5 ?_)
  exact C8 hr hD
 refine B6l (fun (t38:Bool)=>(U8 a t38=R,[(1,pt b1 0),(4,iv a.kind),(38,bv t38)],[bx b1 (A0 a) 26],[])) ?_ ?_
 ·refine sr 2 rfl (ip' 2 0 [(38,bv (decide (a.kind=7)))] (ie ?_))
  refine zjd rfl hR ?_ ?_<;>clear hR<;>intro hR h18 h18p
  ·refine A4 ?_
   exact V8 (decide (a.kind=7)) hR (mk [true] rfl) fn0
  refine sr 2 rfl (ip' 2 0 [(38,bv (decide (a.kind=14)))] (ie ?_))
  refine zjd rfl hR ?_ ?_<;>clear hR<;>intro hR h19 h19p
  ·refine A4 ?_
   exact V8 (decide (a.kind=14)) hR (mk [true] rfl) fn0
  refine A2 2 rfl (ip' 2 0 [(38,bv (decide (a.kind=42)))] (A3 ?_))
  exact V8 (decide (a.kind=42)) hR (mk [true] rfl) fn0
 intro t38
 rintro hR
 replace hR:=(U8.eq_1 ..).symm.trans hR
 refine zjb rfl hR ?_ ?_<;>clear hR<;>intro hR h20
 ·refine sr 9 rfl (zrl 2 7 [0] [(43,iv a.n)] (zca (U7 a.n 0 1 _ rfl) fn0 (ip' 1 5 [(45,bv (F7 a.n 0 1))] ?_)))
  refine zia 4 1 45 49 (decide (a.m=0)) (fun g21=>?_) ?_
  ·refine zrl 4 0 [0] [(49,bv (decide (a.m=0)))] ?_
   exact A3 (K5 2 45 49 g21 fn0 (mk [true] rfl) rfl rfl rfl rfl rfl)
  refine ip' 1 0 [(2,bv ((F7 a.n 0 1)&&(decide (a.m=0))))] ?_
  subst hR
  refine ie (A5 ?_)
  exact C8 hr hD
 refine sr 2 rfl (ip' 2 0 [(50,bv (decide (a.kind=17)))] (ie ?_))
 refine zjd rfl hR ?_ ?_<;>clear hR<;>intro hR h22 h22p
 ·refine sr 9 rfl (zrl 2 7 [0] [(53,iv a.n)] (zca (U7 a.n 0 3 _ rfl) fn0 (ip' 1 5 [(55,bv (F7 a.n 0 3))] ?_)))
  refine zia 4 1 55 59 (F7 a.m 0 1) (fun g23=>?_) ?_
  ·refine zrl 2 2 [0] [(57,iv a.m)] (zca (U7 a.m 0 1 _ rfl) fn0 (ip' 1 0 [(59,bv (F7 a.m 0 1))] ?_))
   exact A3 (K5 4 55 59 g23 fn0 (mk [true] rfl) rfl rfl rfl rfl rfl)
  refine ip' 1 0 [(2,bv ((F7 a.n 0 3)&&(F7 a.m 0 1)))] ?_
  subst hR
  refine ie (A5 ?_)
  exact C8 hr hD
 refine sr 2 rfl (ip' 2 0 [(60,bv (decide (a.kind=18)))] (ie ?_))
 refine zjd rfl hR ?_ ?_<;>clear hR<;>intro hR h24 h24p
 ·refine sr 9 rfl (zrl 2 7 [0] [(63,iv a.n)] (zca (U7 a.n 2 3 _ rfl) fn0 (ip' 1 5 [(65,bv (F7 a.n 2 3))] ?_)))
  refine zia 4 1 65 69 (decide (a.m=0)) (fun g25=>?_) ?_
  ·refine zrl 4 0 [0] [(69,bv (decide (a.m=0)))] ?_
   exact A3 (K5 2 65 69 g25 fn0 (mk [true] rfl) rfl rfl rfl rfl rfl)
  refine ip' 1 0 [(2,bv ((F7 a.n 2 3)&&(decide (a.m=0))))] ?_
  subst hR
  refine ie (A5 ?_)
  exact C8 hr hD
 refine sr 2 rfl (ip' 2 0 [(70,bv (decide (a.kind=19)))] (ie ?_))
 refine zjd rfl hR ?_ ?_<;>clear hR<;>intro hR h26 h26p
 ·refine sr 9 rfl (zrl 2 7 [0] [(73,iv a.n)] (zca (A4x a.n _ rfl) fn0 (ip' 1 5 [(75,bv (K3 a.n))] ?_)))
  refine zia 4 1 75 79 (K3 a.m) (fun g27=>?_) ?_
  ·refine zrl 2 2 [0] [(77,iv a.m)] (zca (A4x a.m _ rfl) fn0 (ip' 1 0 [(79,bv (K3 a.m))] ?_))
   exact A3 (K5 4 75 79 g27 fn0 (mk [true] rfl) rfl rfl rfl rfl rfl)
  refine ip' 1 0 [(2,bv ((K3 a.n)&&(K3 a.m)))] ?_
  subst hR
  refine ie (A5 ?_)
  exact C8 hr hD
 refine sr 2 rfl (ip' 2 0 [(80,bv (decide (a.kind=20)))] (ie ?_))
 refine zjd rfl hR ?_ ?_<;>clear hR<;>intro hR h28 h28p
 ·refine sr 9 rfl (zrl 2 7 [0] [(83,iv a.n)] (zca (U7 a.n 0 3 _ rfl) fn0 (ip' 1 5 [(85,bv (F7 a.n 0 3))] ?_)))
  refine zia 4 1 85 89 (K3 a.m) (fun g29=>?_) ?_
  ·refine zrl 2 2 [0] [(87,iv a.m)] (zca (A4x a.m _ rfl) fn0 (ip' 1 0 [(89,bv (K3 a.m))] ?_))
   exact A3 (K5 4 85 89 g29 fn0 (mk [true] rfl) rfl rfl rfl rfl rfl)
  refine ip' 1 0 [(2,bv ((F7 a.n 0 3)&&(K3 a.m)))] ?_
  subst hR
  refine ie (A5 ?_)
  exact C8 hr hD
 refine B6l (fun (t90:Bool)=>(X8 a t90=R,[(1,pt b1 0),(4,iv a.kind),(90,bv t90)],[bx b1 (A0 a) 26],[])) ?_ ?_
 ·refine sr 2 rfl (ip' 2 0 [(90,bv (decide (a.kind=21)))] (ie ?_))
  refine zjd rfl hR ?_ ?_<;>clear hR<;>intro hR h30 h30p
  ·refine A4 ?_
   exact V8 (decide (a.kind=21)) hR (mk [true] rfl) fn0
  refine A2 2 rfl (ip' 2 0 [(90,bv (decide (a.kind=33)))] (A3 ?_))
  exact V8 (decide (a.kind=33)) hR (mk [true] rfl) fn0
 intro t90
 rintro hR
 replace hR:=(X8.eq_1 ..).symm.trans hR
 refine zjb rfl hR ?_ ?_<;>clear hR<;>intro hR h31
 ·refine sr 9 rfl (zrl 2 7 [0] [(94,iv a.n)] (zca (U7 a.n 0 1 _ rfl) fn0 (ip' 1 5 [(96,bv (F7 a.n 0 1))] ?_)))
  refine zia 4 1 96 100 (K3 a.m) (fun g32=>?_) ?_
  ·refine zrl 2 2 [0] [(98,iv a.m)] (zca (A4x a.m _ rfl) fn0 (ip' 1 0 [(100,bv (K3 a.m))] ?_))
   exact A3 (K5 4 96 100 g32 fn0 (mk [true] rfl) rfl rfl rfl rfl rfl)
  refine ip' 1 0 [(2,bv ((F7 a.n 0 1)&&(K3 a.m)))] ?_
  subst hR
  refine ie (A5 ?_)
  exact C8 hr hD
 refine B6l (fun (t101:Bool)=>(J1 a t101=R,[(1,pt b1 0),(4,iv a.kind),(101,bv t101)],[bx b1 (A0 a) 26],[])) ?_ ?_
 ·refine sr 2 rfl (ip' 2 0 [(101,bv (decide (a.kind=22)))] (ie ?_))
  refine zjd rfl hR ?_ ?_<;>clear hR<;>intro hR h33 h33p
  ·refine A4 ?_
   exact V8 (decide (a.kind=22)) hR (mk [true] rfl) fn0
  refine sr 2 rfl (ip' 2 0 [(101,bv (decide (a.kind=23)))] (ie ?_))
  refine zjd rfl hR ?_ ?_<;>clear hR<;>intro hR h34 h34p
  ·refine A4 ?_
   exact V8 (decide (a.kind=23)) hR (mk [true] rfl) fn0
  refine sr 2 rfl (ip' 2 0 [(101,bv (decide (a.kind=24)))] (ie ?_))
  refine zjd rfl hR ?_ ?_<;>clear hR<;>intro hR h35 h35p
  ·refine A4 ?_
   exact V8 (decide (a.kind=24)) hR (mk [true] rfl) fn0
  refine sr 2 rfl (ip' 2 0 [(101,bv (decide (a.kind=25)))] (ie ?_))
  refine zjd rfl hR ?_ ?_<;>clear hR<;>intro hR h36 h36p
  ·refine A4 ?_
   exact V8 (decide (a.kind=25)) hR (mk [true] rfl) fn0
  refine sr 2 rfl (ip' 2 0 [(101,bv (decide (a.kind=28)))] (ie ?_))
  refine zjd rfl hR ?_ ?_<;>clear hR<;>intro hR h37 h37p
  ·refine A4 ?_
   exact V8 (decide (a.kind=28)) hR (mk [true] rfl) fn0
  refine sr 2 rfl (ip' 2 0 [(101,bv (decide (a.kind=29)))] (ie ?_))
  refine zjd rfl hR ?_ ?_<;>clear hR<;>intro hR h38 h38p
  ·refine A4 ?_
   exact V8 (decide (a.kind=29)) hR (mk [true] rfl) fn0
  refine sr 2 rfl (ip' 2 0 [(101,bv (decide (a.kind=30)))] (ie ?_))
  refine zjd rfl hR ?_ ?_<;>clear hR<;>intro hR h39 h39p
  ·refine A4 ?_
   exact V8 (decide (a.kind=30)) hR (mk [true] rfl) fn0
  refine sr 2 rfl (ip' 2 0 [(101,bv (decide (a.kind=31)))] (ie ?_))
  refine zjd rfl hR ?_ ?_<;>clear hR<;>intro hR h40 h40p
  ·refine A4 ?_
   exact V8 (decide (a.kind=31)) hR (mk [true] rfl) fn0
  refine sr 2 rfl (ip' 2 0 [(101,bv (decide (a.kind=32)))] (ie ?_))
  refine zjd rfl hR ?_ ?_<;>clear hR<;>intro hR h41 h41p
  ·refine A4 ?_
   exact V8 (decide (a.kind=32)) hR (mk [true] rfl) fn0
  refine A2 2 rfl (ip' 2 0 [(101,bv (decide (a.kind=34)))] (A3 ?_))
  exact V8 (decide (a.kind=34)) hR (mk [true] rfl) fn0
 intro t101
 rintro hR
 replace hR:=(J1.eq_1 ..).symm.trans hR
 refine zjb rfl hR ?_ ?_<;>clear hR<;>intro hR h42
 ·refine sr 9 rfl (zrl 2 7 [0] [(113,iv a.n)] (zca (A4x a.n _ rfl) fn0 (ip' 1 5 [(115,bv (K3 a.n))] ?_)))
  refine zia 4 1 115 119 (decide (a.m=0)) (fun g43=>?_) ?_
  ·refine zrl 4 0 [0] [(119,bv (decide (a.m=0)))] ?_
   exact A3 (K5 2 115 119 g43 fn0 (mk [true] rfl) rfl rfl rfl rfl rfl)
  refine ip' 1 0 [(2,bv ((K3 a.n)&&(decide (a.m=0))))] ?_
  subst hR
  refine ie (A5 ?_)
  exact C8 hr hD
 refine sr 2 rfl (ip' 2 0 [(120,bv (decide (a.kind=26)))] (ie ?_))
 refine zjd rfl hR ?_ ?_<;>clear hR<;>intro hR h44 h44p
 ·refine sr 9 rfl (zrl 2 7 [0] [(123,iv a.n)] (zca (U7 a.n 0 3 _ rfl) fn0 (ip' 1 5 [(125,bv (F7 a.n 0 3))] ?_)))
  refine zia 4 1 125 129 (decide (a.m=0)) (fun g45=>?_) ?_
  ·refine zrl 4 0 [0] [(129,bv (decide (a.m=0)))] ?_
   exact A3 (K5 2 125 129 g45 fn0 (mk [true] rfl) rfl rfl rfl rfl rfl)
  refine ip' 1 0 [(2,bv ((F7 a.n 0 3)&&(decide (a.m=0))))] ?_
  subst hR
  refine ie (A5 ?_)
  exact C8 hr hD
 refine sr 2 rfl (ip' 2 0 [(130,bv (decide (a.kind=27)))] (ie ?_))
 refine zjd rfl hR ?_ ?_<;>clear hR<;>intro hR h46 h46p
 ·refine sr 9 rfl (zrl 2 7 [0] [(133,iv a.n)] (zca (U7 a.n 0 2 _ rfl) fn0 (ip' 1 5 [(135,bv (F7 a.n 0 2))] ?_)))
  refine zia 4 1 135 139 (decide (a.m=0)) (fun g47=>?_) ?_
  ·refine zrl 4 0 [0] [(139,bv (decide (a.m=0)))] ?_
   exact A3 (K5 2 135 139 g47 fn0 (mk [true] rfl) rfl rfl rfl rfl rfl)
  refine ip' 1 0 [(2,bv ((F7 a.n 0 2)&&(decide (a.m=0))))] ?_
  subst hR
  refine ie (A5 ?_)
  exact C8 hr hD
 refine sr 2 rfl (ip' 2 0 [(140,bv (decide (a.kind=35)))] (ie ?_))
 refine zjd rfl hR ?_ ?_<;>clear hR<;>intro hR h48 h48p
 ·refine sr 14 rfl (zrl 4 10 [0] [(145,bv (decide (a.n=0)))] ?_)
  refine zir 4 6 145 149 (decide (a.n=3)) (fun g49 g49p=>?_) ?_
  ·refine zrl 4 0 [0] [(149,bv (decide (a.n=3)))] ?_
   exact A3 (K5 2 145 149 g49 fn0 (mk [true] rfl) rfl rfl rfl rfl rfl)
  refine ip' 1 5 [(150,bv ((decide (a.n=0))||(decide (a.n=3))))] ?_
  refine zia 4 1 150 154 (decide (a.m=0)) (fun g50=>?_) ?_
  ·have g50p:(a.n=0)∨(a.n=3):=by simpa using g50
   refine zrl 4 0 [0] [(154,bv (decide (a.m=0)))] ?_
   exact A3 (K5 2 150 154 g50 fn0 (mk [true] rfl) rfl rfl rfl rfl rfl)
  refine ip' 1 0 [(2,bv (((decide (a.n=0))||(decide (a.n=3)))&&(decide (a.m=0))))] ?_
  subst hR
  refine ie (A5 ?_)
  exact C8 hr hD
 refine B6l (fun (t155:Bool)=>(V3 a t155=R,[(1,pt b1 0),(4,iv a.kind),(155,bv t155)],[bx b1 (A0 a) 26],[])) ?_ ?_
 ·refine sr 2 rfl (ip' 2 0 [(155,bv (decide (a.kind=36)))] (ie ?_))
  refine zjd rfl hR ?_ ?_<;>clear hR<;>intro hR h51 h51p
  ·refine A4 ?_
   exact V8 (decide (a.kind=36)) hR (mk [true] rfl) fn0
  refine sr 2 rfl (ip' 2 0 [(155,bv (decide (a.kind=37)))] (ie ?_))
  refine zjd rfl hR ?_ ?_<;>clear hR<;>intro hR h52 h52p
  ·refine A4 ?_
   exact V8 (decide (a.kind=37)) hR (mk [true] rfl) fn0
  refine A2 2 rfl (ip' 2 0 [(155,bv (decide (a.kind=43)))] (A3 ?_))
  exact V8 (decide (a.kind=43)) hR (mk [true] rfl) fn0
 intro t155
 rintro hR
 replace hR:=(V3.eq_1 ..).symm.trans hR
 refine zjb rfl hR ?_ ?_<;>clear hR<;>intro hR h53
 ·refine sr 9 rfl (zrl 2 7 [0] [(160,iv a.n)] (zca (U7 a.n 0 9999 _ rfl) fn0 (ip' 1 5 [(162,bv (F7 a.n 0 9999))] ?_)))
  refine zia 4 1 162 166 (F7 a.m 0 1) (fun g54=>?_) ?_
  ·refine zrl 2 2 [0] [(164,iv a.m)] (zca (U7 a.m 0 1 _ rfl) fn0 (ip' 1 0 [(166,bv (F7 a.m 0 1))] ?_))
   exact A3 (K5 4 162 166 g54 fn0 (mk [true] rfl) rfl rfl rfl rfl rfl)
  refine ip' 1 0 [(2,bv ((F7 a.n 0 9999)&&(F7 a.m 0 1)))] ?_
  subst hR
  refine ie (A5 ?_)
  exact C8 hr hD
 refine sr 2 rfl (ip' 2 0 [(167,bv (decide (a.kind=38)))] (ie ?_))
 refine zjd rfl hR ?_ ?_<;>clear hR<;>intro hR h55 h55p
 ·refine sr 9 rfl (zrl 2 7 [0] [(170,iv a.n)] (zca (U7 a.n 0 9999 _ rfl) fn0 (ip' 1 5 [(172,bv (F7 a.n 0 9999))] ?_)))
  refine zia 4 1 172 176 (F7 a.m 0 9999) (fun g56=>?_) ?_
  ·refine zrl 2 2 [0] [(174,iv a.m)] (zca (U7 a.m 0 9999 _ rfl) fn0 (ip' 1 0 [(176,bv (F7 a.m 0 9999))] ?_))
   exact A3 (K5 4 172 176 g56 fn0 (mk [true] rfl) rfl rfl rfl rfl rfl)
  refine ip' 1 0 [(2,bv ((F7 a.n 0 9999)&&(F7 a.m 0 9999)))] ?_
  subst hR
  refine ie (A5 ?_)
  exact C8 hr hD
 refine sr 2 rfl (ip' 2 0 [(177,bv (decide (a.kind=40)))] (ie ?_))
 refine zjd rfl hR ?_ ?_<;>clear hR<;>intro hR h57 h57p
 ·refine sr 9 rfl (zrl 2 7 [0] [(180,iv a.n)] (zca (U7 a.n 0 6 _ rfl) fn0 (ip' 1 5 [(182,bv (F7 a.n 0 6))] ?_)))
  refine zia 4 1 182 186 (decide (a.m=0)) (fun g58=>?_) ?_
  ·refine zrl 4 0 [0] [(186,bv (decide (a.m=0)))] ?_
   exact A3 (K5 2 182 186 g58 fn0 (mk [true] rfl) rfl rfl rfl rfl rfl)
  refine ip' 1 0 [(2,bv ((F7 a.n 0 6)&&(decide (a.m=0))))] ?_
  subst hR
  refine ie (A5 ?_)
  exact C8 hr hD
 refine sr 2 rfl (ip' 2 0 [(187,bv (decide (a.kind=41)))] (ie ?_))
 refine zjd rfl hR ?_ ?_<;>clear hR<;>intro hR h59 h59p
 ·refine sr 9 rfl (zrl 2 7 [0] [(190,iv a.n)] (zca (U7 a.n 5 6 _ rfl) fn0 (ip' 1 5 [(192,bv (F7 a.n 5 6))] ?_)))
  refine zia 4 1 192 196 (decide (a.m=0)) (fun g60=>?_) ?_
  ·refine zrl 4 0 [0] [(196,bv (decide (a.m=0)))] ?_
   exact A3 (K5 2 192 196 g60 fn0 (mk [true] rfl) rfl rfl rfl rfl rfl)
  refine ip' 1 0 [(2,bv ((F7 a.n 5 6)&&(decide (a.m=0))))] ?_
  subst hR
  refine ie (A5 ?_)
  exact C8 hr hD
 refine A4 (nx (sr 1 rfl (ip' 1 0 [(2,bv false)] ?_)))
 subst hR
 refine ie (A5 ?_)
 exact C8 hr hD
def B4z (a:Act):Prop:=1≤a.kind∧a.kind≤46∧(a.kind≠1→a.kind≠39→a.kind≠44→a.kind≠45→a.kind≠46→(0≤a.n∧a.n≤9999)∧0≤a.m∧a.m≤9999)∧(a.kind=7∨a.kind=14∨a.kind=21∨a.kind=33∨a.kind=42→0≤a.n∧a.n≤1)∧(a.kind=17∨a.kind=20→0≤a.n∧a.n≤3)∧(a.kind=18→2≤a.n∧a.n≤3)∧(a.kind=17∨a.kind=36∨a.kind=37∨a.kind=43→0≤a.m∧a.m≤1)
def S4 (a:Act) (t12:Bool):Bool :=
 (bif t12 then (B8 (I7 a) fun (y7:List UInt8×Int)=>(decide (y7.2=0))) else (((N3 a)&&(decide (a.color=Col.zero)))&&(decide (a.text=([]:List UInt8)))))
def C9 (a:Act):Bool :=
 (bif (decide (a.kind=39)) then (decide ((L6 a)=0)) else (bif (decide (a.kind=44)) then S4 a (decide (a.kind=44)) else (bif (decide (a.kind=45)) then S4 a (decide (a.kind=45)) else S4 a (decide (a.kind=46)))))
theorem G7 {a:Act} (h:C9 a=true):B4z a:=by
 unfold C9 S4 at h
 by_cases k39:a.kind=39
 ·unfold B4z;omega
 by_cases k44:a.kind=44
 ·unfold B4z;omega
 by_cases k45:a.kind=45
 ·unfold B4z;omega
 by_cases k46:a.kind=46
 ·unfold B4z;omega
 simp only [k39,k44,k45,k46,decide_false,cond_false,Bool.and_eq_true] at h
 have hn:=h.1.1
 clear h
 unfold N3 H5 U8 X8 J1 V3 K3 F7 at hn
 by_cases hr:1≤a.kind∧a.kind≤46
 ·have hk:a.kind=1∨a.kind=2∨a.kind=3∨a.kind=4∨a.kind=5∨a.kind=6∨a.kind=7∨a.kind=8∨a.kind=9∨a.kind=10∨a.kind=11∨a.kind=12∨a.kind=13∨a.kind=14∨a.kind=15∨a.kind=16∨a.kind=17∨a.kind=18∨a.kind=19∨a.kind=20∨a.kind=21∨a.kind=22∨a.kind=23∨a.kind=24∨a.kind=25∨a.kind=26∨a.kind=27∨a.kind=28∨a.kind=29∨a.kind=30∨a.kind=31∨a.kind=32∨a.kind=33∨a.kind=34∨a.kind=35∨a.kind=36∨a.kind=37∨a.kind=38∨a.kind=39∨a.kind=40∨a.kind=41∨a.kind=42∨a.kind=43∨a.kind=44∨a.kind=45∨a.kind=46:=by omega
  unfold B4z
  rcases hk with h | h | h | h | h | h | h | h | h | h | h | h | h | h | h | h | h | h | h | h | h | h | h | h | h | h | h | h | h | h | h | h | h | h | h | h | h | h | h | h | h | h | h | h | h | h<;>simp only [h,Int.reduceEq,decide_true,decide_false,cond_true,cond_false,Bool.and_eq_true,Bool.or_eq_true,decide_eq_true_eq] at hn k39 k44 k45 k46 hr<;>omega
 ·simp only [show ¬ a.kind=1 by omega,show ¬ a.kind=2 by omega,show ¬ a.kind=3 by omega,show ¬ a.kind=4 by omega,show ¬ a.kind=5 by omega,show ¬ a.kind=6 by omega,show ¬ a.kind=7 by omega,show ¬ a.kind=8 by omega,show ¬ a.kind=9 by omega,show ¬ a.kind=10 by omega,show ¬ a.kind=11 by omega,show ¬ a.kind=12 by omega,show ¬ a.kind=13 by omega,show ¬ a.kind=14 by omega,show ¬ a.kind=15 by omega,show ¬ a.kind=16 by omega,show ¬ a.kind=17 by omega,show ¬ a.kind=18 by omega,show ¬ a.kind=19 by omega,show ¬ a.kind=20 by omega,show ¬ a.kind=21 by omega,show ¬ a.kind=22 by omega,show ¬ a.kind=23 by omega,show ¬ a.kind=24 by omega,show ¬ a.kind=25 by omega,show ¬ a.kind=26 by omega,show ¬ a.kind=27 by omega,show ¬ a.kind=28 by omega,show ¬ a.kind=29 by omega,show ¬ a.kind=30 by omega,show ¬ a.kind=31 by omega,show ¬ a.kind=32 by omega,show ¬ a.kind=33 by omega,show ¬ a.kind=34 by omega,show ¬ a.kind=35 by omega,show ¬ a.kind=36 by omega,show ¬ a.kind=37 by omega,show ¬ a.kind=38 by omega,show ¬ a.kind=39 by omega,show ¬ a.kind=40 by omega,show ¬ a.kind=41 by omega,show ¬ a.kind=42 by omega,show ¬ a.kind=43 by omega,show ¬ a.kind=44 by omega,show ¬ a.kind=45 by omega,show ¬ a.kind=46 by omega,decide_false,cond_false] at hn
  exact absurd hn (by decide)
theorem A5b (a:Act) (R:Bool) (hR:C9 a=R):I5 Tryz.prog 41 [ag (A0 a)] [] (bv R):=by
 refine zco Tryz.func41 [(0,ag (A0 a))] fun X hX hr hD=>?_
 replace hR:=(C9.eq_1 ..).symm.trans hR
 refine sr 2 rfl (O5 2 0 [] (fun b1=>[(1,pt b1 0)]) (fun b1=>[bx b1 (A0 a) 26]) (fun b1=>(ie (A7 (sr 2 rfl (zrl 2 0 [0] [(6,iv a.kind)] (ie (B1 (sr 2 rfl (ip' 2 0 [(7,bv (decide (a.kind=39)))] (ie ?_)))))))))))
 refine zjd rfl hR ?_ ?_<;>clear hR<;>intro hR h2 h2p
 ·refine sr 4 rfl (zrl 1 3 [0] [(9,ag (A0 a))] (zca (B3f a _ rfl) fn0 (ip' 2 0 [(2,bv (decide ((L6 a)=0)))] ?_)))
  subst hR
  refine ie (A5 ?_)
  exact C8 hr hD
 refine B6l (fun (t12:Bool)=>(S4 a t12=R,[(1,pt b1 0),(12,bv t12)],[bx b1 (A0 a) 26],[])) ?_ ?_
 ·refine sr 2 rfl (ip' 2 0 [(12,bv (decide (a.kind=44)))] (ie ?_))
  refine zjd rfl hR ?_ ?_<;>clear hR<;>intro hR h3 h3p
  ·refine A4 ?_
   exact V8 (decide (a.kind=44)) hR (mk [true] rfl) fn0
  refine sr 2 rfl (ip' 2 0 [(12,bv (decide (a.kind=45)))] (ie ?_))
  refine zjd rfl hR ?_ ?_<;>clear hR<;>intro hR h4 h4p
  ·refine A4 ?_
   exact V8 (decide (a.kind=45)) hR (mk [true] rfl) fn0
  refine A2 2 rfl (ip' 2 0 [(12,bv (decide (a.kind=46)))] (A3 ?_))
  exact V8 (decide (a.kind=46)) hR (mk [true] rfl) fn0
 intro t12
 rintro hR
 replace hR:=(S4.eq_1 ..).symm.trans hR
 refine zjb rfl hR ?_ ?_<;>clear hR<;>intro hR h5
 ·refine sr 7 rfl (zrl 1 6 [0] [(17,ag (A0 a))] ?_)
  have hQ:=C2 hR;clear hR;obtain ⟨y7,hy7,hR⟩:=hQ
  refine zca (A7q a y7 hy7) fn0 ?_
  have:=A3f a;try rw [hy7] at this
  refine ip' 5 0 [(4,iv y7.2)] (ie (sr 3 rfl (ip' 3 0 [(2,bv (decide (y7.2=0)))] ?_)))
  subst hR
  refine ie (A5 ?_)
  exact C8 hr hD
 refine A4 (nx (sr 14 rfl (zrl 1 13 [0] [(23,ag (A0 a))] (zca (C1v a _ rfl) fn0 (ip' 1 11 [(25,bv (N3 a))] ?_)))))
 refine zia 5 6 25 30 (decide (a.color=Col.zero)) (fun g6=>?_) ?_
 ·refine zrl 3 2 [0] [(27,ag (M1 a.color)),(28,ag (M1 Col.zero))] (ix rfl (A9h (a:=a.color) (b:=Col.zero) A8a rfl rfl rfl) (ip' 1 0 [(30,bv (decide (a.color=Col.zero)))] ?_))
  exact A3 (K5 5 25 30 g6 fn0 (mk [true] rfl) rfl rfl rfl rfl rfl)
 refine ip' 1 5 [(31,bv ((N3 a)&&(decide (a.color=Col.zero))))] ?_
 refine zia 4 1 31 35 (decide (a.text=([]:List UInt8))) (fun g7=>?_) ?_
 ·have g7p:=g7;try simp at g7p
  refine zrl 2 2 [0] [(33,sv a.text)] (ix rfl (B8n rfl rfl rfl) (ip' 1 0 [(35,bv (decide (a.text=([]:List UInt8))))] ?_))
  exact A3 (K5 4 31 35 g7 fn0 (mk [true] rfl) rfl rfl rfl rfl rfl)
 refine ip' 1 0 [(2,bv (((N3 a)&&(decide (a.color=Col.zero)))&&(decide (a.text=([]:List UInt8)))))] ?_
 subst hR
 refine ie (A5 ?_)
 exact C8 hr hD
def B4u:List Ar3 :=
 ([(⟨1,1,22⟩:Ar3),(⟨2,2,22⟩:Ar3),(⟨3,4,23⟩:Ar3),(⟨5,8,25⟩:Ar3),(⟨7,16,27⟩:Ar3),(⟨8,32,28⟩:Ar3),(⟨9,64,29⟩:Ar3),(⟨53,128,55⟩:Ar3)]:List Ar3)
theorem C5e (R:List Ar3) (hR:B4u=R):Con Tryz.prog 196 [] [] [] ({t:Option Addr×Nat // R.length≤t.2∧R.length≤9223372036854775807}) (fun x=>.slice x.1.1 R.length x.1.2) (fun x=>[]) (fun x=>[sl A8c x.1.1 R]):=by
 refine zco Tryz.func196 [] fun X hX hr hD=>?_
 replace hR:=(B4u.eq_1 ..).symm.trans hR
 refine sr 1 rfl (ip' 1 0 [] (ie (sr 10 rfl (zrl 8 2 [] [(1,ag (A8c (⟨1,1,22⟩:Ar3))),(2,ag (A8c (⟨2,2,22⟩:Ar3))),(3,ag (A8c (⟨3,4,23⟩:Ar3))),(4,ag (A8c (⟨5,8,25⟩:Ar3))),(5,ag (A8c (⟨7,16,27⟩:Ar3))),(6,ag (A8c (⟨8,32,28⟩:Ar3))),(7,ag (A8c (⟨9,64,29⟩:Ar3))),(8,ag (A8c (⟨53,128,55⟩:Ar3)))] (it rfl (B4 (c:=A8c) (xs:=([(⟨1,1,22⟩:Ar3),(⟨2,2,22⟩:Ar3),(⟨3,4,23⟩:Ar3),(⟨5,8,25⟩:Ar3),(⟨7,16,27⟩:Ar3),(⟨8,32,28⟩:Ar3),(⟨9,64,29⟩:Ar3),(⟨53,128,55⟩:Ar3)]:List Ar3)) C3j rfl rfl rfl (by kernel_rfl)) fun b1=>?_)))))
 have:([(⟨1,1,22⟩:Ar3),(⟨2,2,22⟩:Ar3),(⟨3,4,23⟩:Ar3),(⟨5,8,25⟩:Ar3),(⟨7,16,27⟩:Ar3),(⟨8,32,28⟩:Ar3),(⟨9,64,29⟩:Ar3),(⟨53,128,55⟩:Ar3)]:List Ar3).length=8:=rfl
 refine ip' 1 0 [(0,.slice (some ⟨b1,0,none⟩) 8 8)] ?_
 subst hR
 refine ie (A5 ?_)
 exact zer hr hD (M3 rfl (B7 rfl)) (zq (some ⟨b1,0,none⟩) 8) (mk [] rfl) (A1.con1 (A9 0 rfl) fn0)
def A3x (a:Act):List Ar3→Nat→List Int
 | [],i=>(bif (decide (a.n=0)) then ([0]:List Int) else (bif ((decide (a.n=3))&&(decide (a.m=1))) then ([4]:List Int) else (bif ((decide (a.n=3))&&(decide (a.m=0))) then ([24]:List Int) else (bif (decide (a.n=3)) then ([4,a.m]:List Int) else (bif (decide (a.color.kind=0)) then ([(IntKind.i64.wrap ((IntKind.i64.wrap ((38:Int)+(IntKind.i64.wrap ((10:Int) * (IntKind.i64.wrap (a.n - (4:Int)))))))+(1:Int)))]:List Int) else (bif (decide (a.color.kind=2)) then ([(IntKind.i64.wrap ((38:Int)+(IntKind.i64.wrap ((10:Int) * (IntKind.i64.wrap (a.n - (4:Int))))))),2,(-1),(IntKind.i64.wrap (Int.tdiv a.color.n 65536)),(Int.tmod (IntKind.i64.wrap (Int.tdiv a.color.n 256)) 256),(Int.tmod a.color.n 256)]:List Int) else (bif ((!decide (a.n=6))&&(decide (a.color.n<8))) then ([(IntKind.i64.wrap ((IntKind.i64.wrap ((IntKind.i64.wrap ((38:Int)+(IntKind.i64.wrap ((10:Int) * (IntKind.i64.wrap (a.n - (4:Int))))))) - (8:Int)))+a.color.n))]:List Int) else (bif ((!decide (a.n=6))&&(decide (a.color.n<16))) then ([(IntKind.i64.wrap ((IntKind.i64.wrap ((IntKind.i64.wrap ((38:Int)+(IntKind.i64.wrap ((10:Int) * (IntKind.i64.wrap (a.n - (4:Int)))))))+(44:Int)))+a.color.n))]:List Int) else ([(IntKind.i64.wrap ((38:Int)+(IntKind.i64.wrap ((10:Int) * (IntKind.i64.wrap (a.n - (4:Int))))))),5,a.color.n]:List Int)))))))))
 | hd_l0::tl_l0,i=>(bif ((decide (a.n=1))&&(decide (a.m=hd_l0.b))) then ([hd_l0.a]:List Int) else (bif ((decide (a.n=2))&&((decide (a.m=hd_l0.b))||((decide (a.m=3))&&(decide ((i:Int)=0))))) then ([hd_l0.c]:List Int) else A3x a tl_l0 (i+1)))
def A1i (a:Act):List Int :=
 (B8 B4u fun (y5:List Ar3)=>A3x a y5 0)
theorem C5x (a:Act) (R:List Int) (hR:A1i a=R):Con Tryz.prog 138 [ag (A0 a)] [] [] ({t:Option Addr×Nat // R.length≤t.2∧R.length≤9223372036854775807}) (fun x=>ag [.slice x.1.1 R.length x.1.2]) (fun x=>[]) (fun x=>[sl D8 x.1.1 R]):=by
 refine zco Tryz.func138 [(0,ag (A0 a))] fun X hX hr hD=>?_
 replace hR:=(A1i.eq_1 ..).symm.trans hR
 refine sr 2 rfl (C5o 2 0 [] (fun b1 b2=>[(1,pt b1 0),(2,pt b2 0)]) (fun b1 b2=>[bx b2 [.slice none 0 0] 208,bx b1 (A0 a) 26]) (fun b1 b2=>(ie (sr 2 rfl ?_))))
 have hQ:=C2 hR;clear hR;obtain ⟨y5,hy5,hR⟩:=hQ
 refine zcm (C5e y5 hy5) fn0 fun ⟨⟨q3,k4⟩,hp5⟩=>?_
 obtain ⟨hc6,hl7⟩:=hp5
 refine ip' 1 0 [(3,.slice q3 y5.length k4)] (ie (A7 (sr 1 rfl (ip' 1 0 [(4,iv 0)] (ie (B1 (C4k (fun (i:Nat)=>(i≤y5.length∧A3x a (y5.drop i) i=R,[(1,pt b1 0),(2,pt b2 0),(3,.slice q3 y5.length k4),(4,iv (i:Int))],[bx b2 [.slice none 0 0] 208,bx b1 (A0 a) 26],[sl A8c q3 y5],y5.length - i)) 0 ⟨(by omega),hR⟩ (mk [true,true] rfl) A1.refl ?_)))))))
 rintro i ⟨hm8,hR⟩
 refine A7 (sr 4 rfl (ip' 4 0 [(11,bv (decide ((i:Int)<(y5.length:Int))))] ?_))
 refine ie (A1f rfl (fun h9=>?_) (fun h9=>?_))
 ·have h9p:(i:Int)<(y5.length:Int):=by simpa using h9
  rw [A2t Ar3.zero (show i<y5.length by omega)] at hR;replace hR:=(A3x.eq_2 ..).symm.trans hR
  refine A4 (nx (A7 (B1 (A7 (sd 13 rfl (by kernel_rfl) rfl ?_)))))
  refine zdg 4 9 [1] [(17,bv (decide (a.n=1)))] ?_
  refine zdd 9 0 17 26 (decide (a.m=(y5.getD i Ar3.zero).b)) (fun g10 g10p=>?_) ?_
  ·refine zdg 4 5 [1] [(19,iv a.m),(20,.slice q3 y5.length k4),(21,iv (i:Int))] ?_
   refine D5e 0 rfl (by omega) fun a11 hq12=>?_
   refine dd rfl (G3 C3j rfl rfl hq12 rfl i rfl (by omega)) (dd rfl (A2l Tryz.underlying205 ty3 rfl rfl rfl 1 rfl (by decide)) (dd rfl (C4 (v:=iv ((y5.getD i Ar3.zero).b)) (us:=[iv ((y5.getD i Ar3.zero).b)]) ty3 rfl rfl (B1h (I4 (c:=A8c) (sz:=3) hq12 (fun _=>rfl) 0 rfl (gd Ar3.zero (by omega))) (ws:=[iv ((y5.getD i Ar3.zero).b)]) 1 1 rfl) rfl) (dp' 2 0 [(26,bv (decide (a.m=(y5.getD i Ar3.zero).b)))] ?_)))
   exact zad 8 17 26 g10
  refine de ?_
  refine zja rfl hR ?_ ?_<;>clear hR<;>intro hR h13 h13p
  ·refine sr 8 rfl (ip' 2 6 [(27,.slice q3 y5.length k4),(28,iv (i:Int))] (K9 0 rfl (by omega) fun a14 hq15=>(ix rfl (G3 C3j rfl rfl hq15 rfl i rfl (by omega)) (ix rfl (A2l Tryz.underlying205 ty3 rfl rfl rfl 0 rfl (by decide)) (ix rfl (C4 (v:=iv ((y5.getD i Ar3.zero).a)) (us:=[iv ((y5.getD i Ar3.zero).a)]) ty3 rfl rfl (B1h (I4 (c:=A8c) (sz:=3) hq15 (fun _=>rfl) 0 rfl (gd Ar3.zero (by omega))) (ws:=[iv ((y5.getD i Ar3.zero).a)]) 0 1 rfl) rfl) (it rfl (B4 (c:=D8) (xs:=([(y5.getD i Ar3.zero).a]:List Int)) F8 rfl rfl rfl (by kernel_rfl)) fun b16=>?_))))))
   have:([(y5.getD i Ar3.zero).a]:List Int).length=1:=rfl
   refine zrg 2 0 [0] [] [bx b2 [.slice (some ⟨b16,0,none⟩) 1 1] 208,bx b1 (A0 a) 26] ?_
   subst hR
   refine ie (A5 ?_)
   exact zer hr hD (M3 rfl (D4 (us:=[.slice (some ⟨b16,0,none⟩) 1 1]) V2 rfl 0 rfl rfl rfl)) (zq (some ⟨b16,0,none⟩) 1) (mk [false,false] rfl) (A1.con1 (A9 0 rfl) fn0)
  refine A4 (nx (sd 22 rfl (by kernel_rfl) rfl ?_))
  refine zdg 4 18 [1] [(37,bv (decide (a.n=2)))] ?_
  refine zdd 18 0 37 55 ((decide (a.m=(y5.getD i Ar3.zero).b))||((decide (a.m=3))&&(decide ((i:Int)=0)))) (fun g17 g17p=>?_) ?_
  ·refine zdg 4 14 [1] [(39,iv a.m),(40,.slice q3 y5.length k4),(41,iv (i:Int))] ?_
   refine D5e 0 rfl (by omega) fun a18 hq19=>?_
   refine dd rfl (G3 C3j rfl rfl hq19 rfl i rfl (by omega)) (dd rfl (A2l Tryz.underlying205 ty3 rfl rfl rfl 1 rfl (by decide)) (dd rfl (C4 (v:=iv ((y5.getD i Ar3.zero).b)) (us:=[iv ((y5.getD i Ar3.zero).b)]) ty3 rfl rfl (B1h (I4 (c:=A8c) (sz:=3) hq19 (fun _=>rfl) 0 rfl (gd Ar3.zero (by omega))) (ws:=[iv ((y5.getD i Ar3.zero).b)]) 1 1 rfl) rfl) (dp' 2 9 [(46,bv (decide (a.m=(y5.getD i Ar3.zero).b)))] ?_)))
   refine zdr 8 1 46 54 ((decide (a.m=3))&&(decide ((i:Int)=0))) (fun g20 g20p=>?_) ?_
   ·refine zdg 4 4 [1] [(50,bv (decide (a.m=3)))] ?_
    refine zdd 3 1 50 53 (decide ((i:Int)=0)) (fun g21 g21p=>?_) ?_
    ·refine dp' 3 0 [(53,bv (decide ((i:Int)=0)))] ?_
     exact zad 2 50 53 g21
    refine dp' 1 0 [(54,bv ((decide (a.m=3))&&(decide ((i:Int)=0))))] ?_
    exact zad 4 46 54 g20
   refine dp' 1 0 [(55,bv ((decide (a.m=(y5.getD i Ar3.zero).b))||((decide (a.m=3))&&(decide ((i:Int)=0)))))] ?_
   exact zad 10 37 55 g17
  refine de ?_
  refine zjb rfl hR ?_ ?_<;>clear hR<;>intro hR h22
  ·have h22p:(a.n=2)∧((a.m=(y5.getD i Ar3.zero).b)∨((a.m=3)∧((i:Int)=0))):=by simpa using h22
   refine sr 8 rfl (ip' 2 6 [(56,.slice q3 y5.length k4),(57,iv (i:Int))] (K9 0 rfl (by omega) fun a23 hq24=>(ix rfl (G3 C3j rfl rfl hq24 rfl i rfl (by omega)) (ix rfl (A2l Tryz.underlying205 ty3 rfl rfl rfl 2 rfl (by decide)) (ix rfl (C4 (v:=iv ((y5.getD i Ar3.zero).c)) (us:=[iv ((y5.getD i Ar3.zero).c)]) ty3 rfl rfl (B1h (I4 (c:=A8c) (sz:=3) hq24 (fun _=>rfl) 0 rfl (gd Ar3.zero (by omega))) (ws:=[iv ((y5.getD i Ar3.zero).c)]) 2 1 rfl) rfl) (it rfl (B4 (c:=D8) (xs:=([(y5.getD i Ar3.zero).c]:List Int)) F8 rfl rfl rfl (by kernel_rfl)) fun b25=>?_))))))
   have:([(y5.getD i Ar3.zero).c]:List Int).length=1:=rfl
   refine zrg 2 0 [0] [] [bx b2 [.slice (some ⟨b25,0,none⟩) 1 1] 208,bx b1 (A0 a) 26] ?_
   subst hR
   refine ie (A5 ?_)
   exact zer hr hD (M3 rfl (D4 (us:=[.slice (some ⟨b25,0,none⟩) 1 1]) V2 rfl 0 rfl rfl rfl)) (zq (some ⟨b25,0,none⟩) 1) (mk [false,false] rfl) (A1.con1 (A9 0 rfl) fn0)
  have h22p:¬ ((a.n=2)∧((a.m=(y5.getD i Ar3.zero).b)∨((a.m=3)∧((i:Int)=0)))):=by simpa using h22
  refine A4 (nx (A2 3 rfl (ip' 1 2 [(12,iv (i:Int))] (ix rfl (B5 rfl rfl rfl rfl (by omega)) (ip' 1 0 [(4,iv ((i:Int)+1))] (A3 ?_))))))
  exact C4w (z1:=i) (i+1) ⟨(by omega),hR⟩ (by (try dsimp only);omega) (mk [true,true] rfl) A1.refl
 have h9p:¬ ((i:Int)<(y5.length:Int)):=by simpa using h9
 rw [A3e h9p] at hR;replace hR:=(A3x.eq_1 ..).symm.trans hR
 refine G6 (nx (sr 4 rfl (O5 4 0 [1,0] (fun b26=>[(5,pt b26 0)]) (fun b26=>[bx b26 (M1 a.color) 24,bx b2 [.slice none 0 0] 208,bx b1 (A0 a) 26]) (fun b26=>?_))))
 refine ie (sr 6 rfl (zrl 2 4 [2] [(66,iv a.n)] (ix rfl (G4.pure rfl) (ix rfl (G4.pure rfl) (ix rfl (G4.pure rfl) (ip' 1 0 [(6,iv (IntKind.i64.wrap ((38:Int)+(IntKind.i64.wrap ((10:Int) * (IntKind.i64.wrap (a.n - (4:Int))))))))] (ie (A7 (B1 (sr 4 rfl (zrl 4 0 [2] [(70,bv (decide (a.n=0)))] (ie ?_))))))))))))
 refine zjd rfl hR ?_ ?_<;>clear hR<;>intro hR h27 h27p
 ·refine sr 3 rfl (it rfl (B4 (c:=D8) (xs:=([0]:List Int)) F8 rfl rfl rfl (by kernel_rfl)) fun b28=>?_)
  have:([0]:List Int).length=1:=rfl
  refine zrg 2 0 [1] [] [bx b26 (M1 a.color) 24,bx b2 [.slice (some ⟨b28,0,none⟩) 1 1] 208,bx b1 (A0 a) 26] ?_
  subst hR
  refine ie (A5 ?_)
  exact zer hr hD (M3 rfl (D4 (us:=[.slice (some ⟨b28,0,none⟩) 1 1]) V2 rfl 1 rfl rfl rfl)) (zq (some ⟨b28,0,none⟩) 1) (mk [false,false,false] rfl) (A1.con1 (A9 0 rfl) fn0)
 refine sr 9 rfl (zrl 4 5 [2] [(80,bv (decide (a.n=3)))] ?_)
 refine zid 4 1 80 84 (decide (a.m=1)) (fun g29 g29p=>?_) ?_
 ·refine zrl 4 0 [2] [(84,bv (decide (a.m=1)))] ?_
  exact zai 2 80 84 g29
 refine ip' 1 0 [(76,bv ((decide (a.n=3))&&(decide (a.m=1))))] (ie ?_)
 refine zja rfl hR ?_ ?_<;>clear hR<;>intro hR h30 h30p
 ·refine sr 3 rfl (it rfl (B4 (c:=D8) (xs:=([4]:List Int)) F8 rfl rfl rfl (by kernel_rfl)) fun b31=>?_)
  have:([4]:List Int).length=1:=rfl
  refine zrg 2 0 [1] [] [bx b26 (M1 a.color) 24,bx b2 [.slice (some ⟨b31,0,none⟩) 1 1] 208,bx b1 (A0 a) 26] ?_
  subst hR
  refine ie (A5 ?_)
  exact zer hr hD (M3 rfl (D4 (us:=[.slice (some ⟨b31,0,none⟩) 1 1]) V2 rfl 1 rfl rfl rfl)) (zq (some ⟨b31,0,none⟩) 1) (mk [false,false,false] rfl) (A1.con1 (A9 0 rfl) fn0)
 refine sr 9 rfl (zrl 4 5 [2] [(91,bv (decide (a.n=3)))] ?_)
 refine zid 4 1 91 95 (decide (a.m=0)) (fun g32 g32p=>?_) ?_
 ·refine zrl 4 0 [2] [(95,bv (decide (a.m=0)))] ?_
  exact zai 2 91 95 g32
 refine ip' 1 0 [(87,bv ((decide (a.n=3))&&(decide (a.m=0))))] (ie ?_)
 refine zja rfl hR ?_ ?_<;>clear hR<;>intro hR h33 h33p
 ·refine sr 3 rfl (it rfl (B4 (c:=D8) (xs:=([24]:List Int)) F8 rfl rfl rfl (by kernel_rfl)) fun b34=>?_)
  have:([24]:List Int).length=1:=rfl
  refine zrg 2 0 [1] [] [bx b26 (M1 a.color) 24,bx b2 [.slice (some ⟨b34,0,none⟩) 1 1] 208,bx b1 (A0 a) 26] ?_
  subst hR
  refine ie (A5 ?_)
  exact zer hr hD (M3 rfl (D4 (us:=[.slice (some ⟨b34,0,none⟩) 1 1]) V2 rfl 1 rfl rfl rfl)) (zq (some ⟨b34,0,none⟩) 1) (mk [false,false,false] rfl) (A1.con1 (A9 0 rfl) fn0)
 refine sr 4 rfl (zrl 4 0 [2] [(98,bv (decide (a.n=3)))] (ie ?_))
 refine zjd rfl hR ?_ ?_<;>clear hR<;>intro hR h35 h35p
 ·refine sr 5 rfl (zrl 2 3 [2] [(103,iv a.m)] (it rfl (B4 (c:=D8) (xs:=([4,a.m]:List Int)) F8 rfl rfl rfl (by kernel_rfl)) fun b36=>?_))
  have:([4,a.m]:List Int).length=2:=rfl
  refine zrg 2 0 [1] [] [bx b26 (M1 a.color) 24,bx b2 [.slice (some ⟨b36,0,none⟩) 2 2] 208,bx b1 (A0 a) 26] ?_
  subst hR
  refine ie (A5 ?_)
  exact zer hr hD (M3 rfl (D4 (us:=[.slice (some ⟨b36,0,none⟩) 2 2]) V2 rfl 1 rfl rfl rfl)) (zq (some ⟨b36,0,none⟩) 2) (mk [false,false,false] rfl) (A1.con1 (A9 0 rfl) fn0)
 refine sr 4 rfl (zrl 4 0 [0] [(106,bv (decide (a.color.kind=0)))] (ie ?_))
 refine zjd rfl hR ?_ ?_<;>clear hR<;>intro hR h37 h37p
 ·refine sr 5 rfl (ip' 1 4 [(110,iv (IntKind.i64.wrap ((38:Int)+(IntKind.i64.wrap ((10:Int) * (IntKind.i64.wrap (a.n - (4:Int))))))))] (ix rfl (G4.pure rfl) (it rfl (B4 (c:=D8) (xs:=([(IntKind.i64.wrap ((IntKind.i64.wrap ((38:Int)+(IntKind.i64.wrap ((10:Int) * (IntKind.i64.wrap (a.n - (4:Int)))))))+(1:Int)))]:List Int)) F8 rfl rfl rfl (by kernel_rfl)) fun b38=>?_)))
  have:([(IntKind.i64.wrap ((IntKind.i64.wrap ((38:Int)+(IntKind.i64.wrap ((10:Int) * (IntKind.i64.wrap (a.n - (4:Int)))))))+(1:Int)))]:List Int).length=1:=rfl
  refine zrg 2 0 [1] [] [bx b26 (M1 a.color) 24,bx b2 [.slice (some ⟨b38,0,none⟩) 1 1] 208,bx b1 (A0 a) 26] ?_
  subst hR
  refine ie (A5 ?_)
  exact zer hr hD (M3 rfl (D4 (us:=[.slice (some ⟨b38,0,none⟩) 1 1]) V2 rfl 1 rfl rfl rfl)) (zq (some ⟨b38,0,none⟩) 1) (mk [false,false,false] rfl) (A1.con1 (A9 0 rfl) fn0)
 refine sr 4 rfl (zrl 4 0 [0] [(114,bv (decide (a.color.kind=2)))] (ie ?_))
 refine zjd rfl hR ?_ ?_<;>clear hR<;>intro hR h39 h39p
 ·refine sr 14 rfl (zrl 3 11 [0] [(118,iv (IntKind.i64.wrap ((38:Int)+(IntKind.i64.wrap ((10:Int) * (IntKind.i64.wrap (a.n - (4:Int)))))))),(120,iv a.color.n)] (ix rfl (B3m rfl rfl rfl (by decide)) (zrl 2 8 [0] [(123,iv a.color.n)] (ix rfl (B3m rfl rfl rfl (by decide)) (ix rfl (A7n rfl rfl rfl (by decide) rfl) (zrl 2 4 [0] [(127,iv a.color.n)] (ix rfl (A7n rfl rfl rfl (by decide) rfl) ?_)))))))
  refine it rfl (B4 (c:=D8) (xs:=([(IntKind.i64.wrap ((38:Int)+(IntKind.i64.wrap ((10:Int) * (IntKind.i64.wrap (a.n - (4:Int))))))),2,(-1),(IntKind.i64.wrap (Int.tdiv a.color.n 65536)),(Int.tmod (IntKind.i64.wrap (Int.tdiv a.color.n 256)) 256),(Int.tmod a.color.n 256)]:List Int)) F8 rfl rfl rfl (by kernel_rfl)) fun b40=>?_
  have:([(IntKind.i64.wrap ((38:Int)+(IntKind.i64.wrap ((10:Int) * (IntKind.i64.wrap (a.n - (4:Int))))))),2,(-1),(IntKind.i64.wrap (Int.tdiv a.color.n 65536)),(Int.tmod (IntKind.i64.wrap (Int.tdiv a.color.n 256)) 256),(Int.tmod a.color.n 256)]:List Int).length=6:=rfl
  refine zrg 2 0 [1] [] [bx b26 (M1 a.color) 24,bx b2 [.slice (some ⟨b40,0,none⟩) 6 6] 208,bx b1 (A0 a) 26] ?_
  subst hR
  refine ie (A5 ?_)
  exact zer hr hD (M3 rfl (D4 (us:=[.slice (some ⟨b40,0,none⟩) 6 6]) V2 rfl 1 rfl rfl rfl)) (zq (some ⟨b40,0,none⟩) 6) (mk [false,false,false] rfl) (A1.con1 (A9 0 rfl) fn0)
 refine sr 9 rfl (zrl 4 5 [2] [(135,bv (!decide (a.n=6)))] ?_)
 refine zia 4 1 135 139 (decide (a.color.n<8)) (fun g41=>?_) ?_
 ·have g41p:¬ a.n=6:=by simpa using g41
  refine zrl 4 0 [0] [(139,bv (decide (a.color.n<8)))] ?_
  exact zai 2 135 139 g41
 refine ip' 1 0 [(131,bv ((!decide (a.n=6))&&(decide (a.color.n<8))))] (ie ?_)
 refine zjb rfl hR ?_ ?_<;>clear hR<;>intro hR h42
 ·have h42p:(¬ a.n=6)∧(a.color.n<8):=by simpa using h42
  refine sr 8 rfl (ip' 1 7 [(140,iv (IntKind.i64.wrap ((38:Int)+(IntKind.i64.wrap ((10:Int) * (IntKind.i64.wrap (a.n - (4:Int))))))))] (ix rfl (G4.pure rfl) (zrl 2 4 [0] [(143,iv a.color.n)] (ix rfl (G4.pure rfl) (it rfl (B4 (c:=D8) (xs:=([(IntKind.i64.wrap ((IntKind.i64.wrap ((IntKind.i64.wrap ((38:Int)+(IntKind.i64.wrap ((10:Int) * (IntKind.i64.wrap (a.n - (4:Int))))))) - (8:Int)))+a.color.n))]:List Int)) F8 rfl rfl rfl (by kernel_rfl)) fun b43=>?_)))))
  have:([(IntKind.i64.wrap ((IntKind.i64.wrap ((IntKind.i64.wrap ((38:Int)+(IntKind.i64.wrap ((10:Int) * (IntKind.i64.wrap (a.n - (4:Int))))))) - (8:Int)))+a.color.n))]:List Int).length=1:=rfl
  refine zrg 2 0 [1] [] [bx b26 (M1 a.color) 24,bx b2 [.slice (some ⟨b43,0,none⟩) 1 1] 208,bx b1 (A0 a) 26] ?_
  subst hR
  refine ie (A5 ?_)
  exact zer hr hD (M3 rfl (D4 (us:=[.slice (some ⟨b43,0,none⟩) 1 1]) V2 rfl 1 rfl rfl rfl)) (zq (some ⟨b43,0,none⟩) 1) (mk [false,false,false] rfl) (A1.con1 (A9 0 rfl) fn0)
 have h42p:¬ ((¬ a.n=6)∧(a.color.n<8)):=by simpa using h42
 refine sr 9 rfl (zrl 4 5 [2] [(151,bv (!decide (a.n=6)))] ?_)
 refine zia 4 1 151 155 (decide (a.color.n<16)) (fun g44=>?_) ?_
 ·have g44p:¬ a.n=6:=by simpa using g44
  refine zrl 4 0 [0] [(155,bv (decide (a.color.n<16)))] ?_
  exact zai 2 151 155 g44
 refine ip' 1 0 [(147,bv ((!decide (a.n=6))&&(decide (a.color.n<16))))] (ie ?_)
 refine zjb rfl hR ?_ ?_<;>clear hR<;>intro hR h45
 ·have h45p:(¬ a.n=6)∧(a.color.n<16):=by simpa using h45
  refine sr 8 rfl (ip' 1 7 [(156,iv (IntKind.i64.wrap ((38:Int)+(IntKind.i64.wrap ((10:Int) * (IntKind.i64.wrap (a.n - (4:Int))))))))] (ix rfl (G4.pure rfl) (zrl 2 4 [0] [(159,iv a.color.n)] (ix rfl (G4.pure rfl) (it rfl (B4 (c:=D8) (xs:=([(IntKind.i64.wrap ((IntKind.i64.wrap ((IntKind.i64.wrap ((38:Int)+(IntKind.i64.wrap ((10:Int) * (IntKind.i64.wrap (a.n - (4:Int)))))))+(44:Int)))+a.color.n))]:List Int)) F8 rfl rfl rfl (by kernel_rfl)) fun b46=>?_)))))
  have:([(IntKind.i64.wrap ((IntKind.i64.wrap ((IntKind.i64.wrap ((38:Int)+(IntKind.i64.wrap ((10:Int) * (IntKind.i64.wrap (a.n - (4:Int)))))))+(44:Int)))+a.color.n))]:List Int).length=1:=rfl
  refine zrg 2 0 [1] [] [bx b26 (M1 a.color) 24,bx b2 [.slice (some ⟨b46,0,none⟩) 1 1] 208,bx b1 (A0 a) 26] ?_
  subst hR
  refine ie (A5 ?_)
  exact zer hr hD (M3 rfl (D4 (us:=[.slice (some ⟨b46,0,none⟩) 1 1]) V2 rfl 1 rfl rfl rfl)) (zq (some ⟨b46,0,none⟩) 1) (mk [false,false,false] rfl) (A1.con1 (A9 0 rfl) fn0)
 have h45p:¬ ((¬ a.n=6)∧(a.color.n<16)):=by simpa using h45
 refine A4 (nx (sr 6 rfl (zrl 3 3 [0] [(163,iv (IntKind.i64.wrap ((38:Int)+(IntKind.i64.wrap ((10:Int) * (IntKind.i64.wrap (a.n - (4:Int)))))))),(165,iv a.color.n)] (it rfl (B4 (c:=D8) (xs:=([(IntKind.i64.wrap ((38:Int)+(IntKind.i64.wrap ((10:Int) * (IntKind.i64.wrap (a.n - (4:Int))))))),5,a.color.n]:List Int)) F8 rfl rfl rfl (by kernel_rfl)) fun b47=>?_))))
 have:([(IntKind.i64.wrap ((38:Int)+(IntKind.i64.wrap ((10:Int) * (IntKind.i64.wrap (a.n - (4:Int))))))),5,a.color.n]:List Int).length=3:=rfl
 refine zrg 2 0 [1] [] [bx b26 (M1 a.color) 24,bx b2 [.slice (some ⟨b47,0,none⟩) 3 3] 208,bx b1 (A0 a) 26] ?_
 subst hR
 refine ie (A5 ?_)
 exact zer hr hD (M3 rfl (D4 (us:=[.slice (some ⟨b47,0,none⟩) 3 3]) V2 rfl 1 rfl rfl rfl)) (zq (some ⟨b47,0,none⟩) 3) (mk [false,false,false] rfl) (A1.con1 (A9 0 rfl) fn0)
def U4 (l:List Act):List Act→List (List Int)→Nat→(List (List Int)×Int)
 | [],out,i=>(bif (decide ((16:Int)<(l.length:Int))) then (([]:List (List Int)),3) else (out,0))
 | hd_l0::tl_l0,out,i=>(bif (!decide ((L6 hd_l0)=0)) then (([]:List (List Int)),141) else (B8 (A1i hd_l0) fun (y12:List Int)=>U4 l tl_l0 (out++([y12]:List (List Int))) (i+1)))
def A6k (l:List Act):List (List Int)×Int :=
 U4 l l ([]:List (List Int)) 0
theorem C4j (l:List Act) (lq:Option Addr) (lk:Nat) (hll:l.length≤9223372036854775807) (hcl:l.length≤lk) (hlen:l.length≤2000) (R:List (List Int)×Int) (hR:A6k l=R):Con Tryz.prog 93 [.slice lq l.length lk] [] [sl A0 lq l] ({t:VR×List Slc // VOk 1 R.1.length t.1∧I3 t.2 R.1}) (fun x=>.tuple #[.slice (va x.1.1.q) R.1.length x.1.1.k,iv R.2]) (fun x=>((vo O6 208 x.1.1 x.1.2)++([]))) (fun x=>[P6 D8 x.1.2 R.1]):=by
 refine zco Tryz.func93 [(0,.slice lq l.length lk)] fun X hX hr hD=>?_
 replace hR:=(A6k.eq_1 ..).symm.trans hR
 refine sr 2 rfl (ip' 2 0 [] (ie (sr 1 rfl (ip' 1 0 [(4,.slice none 0 0)] (ie (A7 (sr 1 rfl (ip' 1 0 [(5,iv 0)] (ie (B1 ?_))))))))))
 refine B7z (fun (out:List (List Int)) (outr:VR) (outrs:List Slc) (i:Nat)=>(i≤l.length∧U4 l (l.drop i) out i=R∧VOk 1 out.length outr∧I3 outrs out∧out.length≤i,[(0,.slice lq l.length lk),(4,.slice (va outr.q) out.length outr.k),(5,iv (i:Int))],((vo O6 208 outr outrs)++([])),[sl A0 lq l,P6 D8 outrs out],l.length - i)) ([]:List (List Int)) VR.nil ([]:List Slc) 0 ⟨(by omega),hR,VOk.nil,I3.none,(by simp)⟩ (mc [vo O6 208 VR.nil ([]:List Slc)] [true] rfl (by first|rfl|(simp only [List.length_set]<;>rfl))) (A1.con1 (A9 0 rfl) (A1.con1 A1y fn0)) ?_
 rintro out outr outrs i ⟨hm1,hR,hokoutr,hrowsoutrs,ho⟩
 have:=VOk.le hokoutr
 have:=hrowsoutrs.1
 refine A7 (sr 4 rfl (ip' 4 0 [(9,bv (decide ((i:Int)<(l.length:Int))))] ?_))
 refine ie (A1f rfl (fun h2=>?_) (fun h2=>?_))
 ·have h2p:(i:Int)<(l.length:Int):=by simpa using h2
  rw [A2t Act.zero (show i<l.length by omega)] at hR;replace hR:=(U4.eq_2 ..).symm.trans hR
  refine A4 (nx (A7 (B1 (A7 (sr 6 rfl (ip' 2 4 [(12,.slice lq l.length lk),(13,iv (i:Int))] (K9 0 rfl (by omega) fun a3 hq4=>(ix rfl (G3 A0d rfl rfl hq4 rfl i rfl (by omega)) (ix rfl (Q3 (us:=A0 (l.getD i Act.zero)) A3a rfl rfl (I4 (c:=A0) (sz:=6) hq4 (fun _=>rfl) 0 rfl (gd Act.zero (by omega))) rfl) (zca (B3f (l.getD i Act.zero) _ rfl) fn0 (ip' 1 0 [(17,bv (!decide ((L6 (l.getD i Act.zero))=0)))] (ie ?_))))))))))))
  refine zjn rfl hR ?_ ?_<;>clear hR<;>intro hR h5 h5p
  ·refine sr 2 rfl (ip' 2 0 [(2,.slice none 0 0),(3,iv 141)] ?_)
   subst hR
   refine ie (A5 ?_)
   exact zer hr hD (A6b rfl (B7 rfl) (B7 rfl)) ⟨(VR.nil,([]:List Slc)),⟨VOk.nil,I3.none⟩⟩ (mc [vo O6 208 outr outrs,vo O6 208 VR.nil ([]:List Slc)] [false,true] rfl (by first|rfl|(simp only [List.length_set]<;>rfl))) (A1.con1 A1y fn0)
  refine A4 (nx (A2 9 rfl (ip' 3 6 [(18,.slice (va outr.q) out.length outr.k),(19,.slice lq l.length lk),(20,iv (i:Int))] (ix rfl (G3 A0d rfl rfl hq4 rfl i rfl (by omega)) (ix rfl (Q3 (us:=A0 (l.getD i Act.zero)) A3a rfl rfl (I4 (c:=A0) (sz:=6) hq4 (fun _=>rfl) 0 rfl (gd Act.zero (by omega))) rfl) ?_)))))
  have hQ:=C2 hR;clear hR;obtain ⟨y12,hy12,hR⟩:=hQ
  refine zcm (C5x (l.getD i Act.zero) y12 hy12) fn0 fun ⟨⟨q6,k7⟩,hp8⟩=>?_
  obtain ⟨hc9,hl10⟩:=hp8
  refine it rfl (B4 (c:=O6) (xs:=([⟨q6,y12.length,k7⟩]:List Slc)) A3l rfl rfl rfl (by kernel_rfl)) fun b11=>?_
  have hrows12:I3 ([⟨q6,y12.length,k7⟩]:List Slc) ([y12]:List (List Int)):=(I3.cons ⟨rfl,(by first|omega|(simp<;>omega)|(dsimp only;omega)|decide),(by first|omega|(simp<;>omega)|(dsimp only;omega)|decide)⟩ I3.none)
  refine F1 (q:=P6 D8 ([⟨q6,y12.length,k7⟩]:List Slc) ([y12]:List (List Int))) (B6d (A9 1 rfl) A1y) ?_
  have:([⟨q6,y12.length,k7⟩]:List Slc).length=1:=rfl
  have hw15:I3 (outrs++([⟨q6,y12.length,k7⟩]:List Slc)) (out++([y12]:List (List Int))):=I3.append hrowsoutrs hrows12
  refine it rfl (A9e (r:=outr) (rs:=outrs) (xss:=out) (pre:=[]) (post:=[]) C8y rfl rfl rfl rfl rfl rfl rfl rfl rfl (A9 1 rfl) (A9 4 rfl) (A9 0 rfl) hrowsoutrs hrows12 hokoutr (by first|omega|(simp<;>omega)) (by first|omega|(simp<;>omega))) fun ⟨r13,hr14⟩=>?_
  have:=VOk.le hr14
  have:=VOk.cap hr14
  have:([y12]:List (List Int)).length=1:=rfl
  have:(out++([y12]:List (List Int))).length=out.length+1:=List.length_append
  refine ip' 1 0 [(4,.slice (va r13.q) ((out++([y12]:List (List Int))).length) r13.k)] (A3 (nx (A2 3 rfl (ip' 1 2 [(10,iv (i:Int))] (ix rfl (B5 rfl rfl rfl rfl (by omega)) (ip' 1 0 [(5,iv ((i:Int)+1))] (A3 ?_)))))))
  exact B4p (z1:=out) (z2:=outr) (z3:=outrs) (z4:=i) (out++([y12]:List (List Int))) r13 (outrs++([⟨q6,y12.length,k7⟩]:List Slc)) (i+1) ⟨(by omega),hR,hr14,hw15,(by first|omega|(simp<;>omega))⟩ (by (try dsimp only);omega) (mc [vo O6 208 r13 (outrs++([⟨q6,y12.length,k7⟩]:List Slc))] [true] rfl (by first|rfl|(simp only [List.length_set]<;>rfl))) (A1.pick [4,0] rfl)
 have h2p:¬ ((i:Int)<(l.length:Int)):=by simpa using h2
 rw [A3e h2p] at hR;replace hR:=(U4.eq_1 ..).symm.trans hR
 refine G6 (nx (A7 (sr 3 rfl (ip' 3 0 [(28,bv (decide ((16:Int)<(l.length:Int))))] ?_))))
 refine ie ?_
 refine zjd rfl hR ?_ ?_<;>clear hR<;>intro hR h16 h16p
 ·refine sr 2 rfl (ip' 2 0 [(2,.slice none 0 0),(3,iv 3)] ?_)
  subst hR
  refine ie (A5 ?_)
  exact zer hr hD (A6b rfl (B7 rfl) (B7 rfl)) ⟨(VR.nil,([]:List Slc)),⟨VOk.nil,I3.none⟩⟩ (mc [vo O6 208 outr outrs,vo O6 208 VR.nil ([]:List Slc)] [false,true] rfl (by first|rfl|(simp only [List.length_set]<;>rfl))) (A1.con1 A1y fn0)
 refine A4 (nx (sr 3 rfl (ip' 3 0 [(2,.slice (va outr.q) out.length outr.k),(3,iv 0)] ?_)))
 subst hR
 refine ie (A5 ?_)
 exact zer hr hD (A6b rfl (B7 rfl) (B7 rfl)) ⟨(outr,outrs),⟨hokoutr,hrowsoutrs⟩⟩ (mc [vo O6 208 outr outrs] [true] rfl (by first|rfl|(simp only [List.length_set]<;>rfl))) (A1.con1 (A9 1 rfl) fn0)
def S3 (i:Nat) (ag_ref05_Check_l2:Nat→Int):List Int→Nat→Int
 | [],k=>ag_ref05_Check_l2 (i+1)
 | hd_l3::tl_l3,k=>(bif ((decide (hd_l3<(-1)))||(decide ((9999:Int)<hd_l3))) then 150 else S3 i ag_ref05_Check_l2 tl_l3 (k+1))
def Q1 (l:List (List Int)):List (List Int)→Nat→Int
 | [],i=>(bif (((decide ((l.length:Int)=1))&&(decide (((l.getD 0 []).length:Int)=1)))&&(decide (((l.getD 0 []).getD 0 0)=(-1)))) then 150 else 0)
 | hd_l2::tl_l2,i=>(bif ((decide ((hd_l2.length:Int)<1))||(decide ((6:Int)<(hd_l2.length:Int)))) then 150 else S3 i (Q1 l tl_l2) hd_l2 0)
def A1d (l:List (List Int)):Int :=
 (bif (decide ((16:Int)<(l.length:Int))) then 150 else Q1 l l 0)
theorem B1m (i:Nat) (ag:Nat→Int) (hag:ag (i+1)≠150→True):∀ (r:List Int) (k:Nat),S3 i ag r k≠150→(∀ n ∈ r,-1≤n∧n≤9999)∧S3 i ag r k=ag (i+1)
 | [],k,h=>⟨fun n hn=>(by cases hn),rfl⟩
 | x::r,k,h=>by
  simp only [S3] at h ⊢
  cases hc:(decide (x<(-1)))||(decide ((9999:Int)<x)) with
  | true=>rw [hc,cond_true] at h;exact absurd rfl h
  | false =>
   rw [hc,cond_false] at h
   have ih:=B1m i ag hag r (k+1) h
   simp only [Bool.or_eq_false_iff,decide_eq_false_iff_not] at hc
   refine ⟨fun n hn=>?_,by rw [cond_false];exact ih.2⟩
   rcases List.mem_cons.1 hn with rfl | hn
   ·omega
   ·exact ih.1 n hn
theorem B1q (l:List (List Int)):∀ (s:List (List Int)) (i:Nat),Q1 l s i≠150→∀ r ∈ s,1≤r.length∧r.length≤6∧∀ n ∈ r,-1≤n∧n≤9999
 | [],i,h,r,hr=>by cases hr
 | x::s,i,h,r,hr=>by
  simp only [Q1] at h
  cases hc:(decide ((x.length:Int)<1))||(decide ((6:Int)<(x.length:Int))) with
  | true=>rw [hc,cond_true] at h;exact absurd rfl h
  | false =>
   rw [hc,cond_false] at h
   have h3:=B1m i _ (fun _=>trivial) x 0 h
   rw [h3.2] at h
   simp only [Bool.or_eq_false_iff,decide_eq_false_iff_not] at hc
   rcases List.mem_cons.1 hr with rfl | hr
   ·exact ⟨by omega,by omega,h3.1⟩
   ·exact B1q l s (i+1) h r hr
theorem B5p {l:List (List Int)} (h:A1d l=0):B3c l:=by
 unfold A1d at h
 cases hc:decide ((16:Int)<(l.length:Int)) with
 | true=>rw [hc,cond_true] at h;omega
 | false =>
  rw [hc,cond_false] at h
  simp only [decide_eq_false_iff_not] at hc
  exact ⟨by omega,B1q l l 0 (by rw [h];omega)⟩
theorem C5w (l:List (List Int)) (lq:Option Addr) (lrs:List Slc) (lk:Nat) (hrowslrs:I3 lrs l) (hll:l.length≤9223372036854775807) (hcl:l.length≤lk) (R:Int) (hR:A1d l=R):I5 Tryz.prog 139 [.slice lq l.length lk] [sl O6 lq lrs,P6 D8 lrs l] (iv R):=by
 refine zco Tryz.func139 [(0,.slice lq l.length lk)] fun X hX hr hD=>?_
 replace hR:=(A1d.eq_1 ..).symm.trans hR
 have:=hrowslrs.1
 refine sr 1 rfl (ip' 1 0 [] (ie (A7 (sr 3 rfl (ip' 3 0 [(7,bv (decide ((16:Int)<(l.length:Int))))] (ie ?_))))))
 refine zjd rfl hR ?_ ?_<;>clear hR<;>intro hR h1 h1p
 ·refine sr 1 rfl (ip' 1 0 [(2,iv 150)] ?_)
  subst hR
  refine ie (A5 ?_)
  exact C8 hr hD
 refine A4 (nx (A7 (sr 1 rfl (ip' 1 0 [(3,iv 0)] (ie (B1 (C4k (fun (i:Nat)=>(i≤l.length∧Q1 l (l.drop i) i=R,[(0,.slice lq l.length lk),(3,iv (i:Int))],[],[sl O6 lq lrs,P6 D8 lrs l],l.length - i)) 0 ⟨(by omega),hR⟩ (mk [] rfl) A1.refl ?_)))))))
 rintro i ⟨hm2,hR⟩
 refine A7 (sr 4 rfl (ip' 4 0 [(11,bv (decide ((i:Int)<(l.length:Int))))] ?_))
 refine ie (A1f rfl (fun h3=>?_) (fun h3=>?_))
 ·have h3p:(i:Int)<(l.length:Int):=by simpa using h3
  rw [A2t [] (show i<l.length by omega)] at hR;replace hR:=(Q1.eq_2 ..).symm.trans hR
  refine A4 (nx (A7 (B1 (A7 (sr 16 rfl (ip' 2 14 [(14,.slice lq l.length lk),(15,iv (i:Int))] (K9 0 rfl (by omega) fun a4 hq5=>(F1 (A8f (k:=i) (d:=(⟨none,0,0⟩:Slc)) hrowslrs 1 rfl (by have:=hrowslrs.1;omega)) ?_))))))))
  have:=A8h hrowslrs (k:=i) (d:=(⟨none,0,0⟩:Slc)) (by have:=hrowslrs.1;omega)
  refine ix rfl (G3 A3l rfl rfl hq5 rfl i rfl (by omega)) (ip' 1 12 [(17,pa (Addr.add a4 (i * 1)))] (ix rfl (G5 (C4 (v:=.slice ((lrs.getD i (⟨none,0,0⟩:Slc)).q) ((lrs.getD i (⟨none,0,0⟩:Slc)).n) ((lrs.getD i (⟨none,0,0⟩:Slc)).k)) (us:=[.slice ((lrs.getD i (⟨none,0,0⟩:Slc)).q) ((lrs.getD i (⟨none,0,0⟩:Slc)).n) ((lrs.getD i (⟨none,0,0⟩:Slc)).k)]) B2y rfl rfl (W3 (I4 (c:=O6) (sz:=1) hq5 (fun _=>rfl) 1 rfl (gd (⟨none,0,0⟩:Slc) (by have:=hrowslrs.1;omega))) (ws:=[.slice ((lrs.getD i (⟨none,0,0⟩:Slc)).q) ((lrs.getD i (⟨none,0,0⟩:Slc)).n) ((lrs.getD i (⟨none,0,0⟩:Slc)).k)]) 1 rfl) rfl) (A1m hrowslrs (by have:=hrowslrs.1;omega))) (ip' 3 8 [(21,bv (decide (((l.getD i []).length:Int)<1)))] ?_)))
  refine zir 8 0 21 29 (decide ((6:Int)<((l.getD i []).length:Int))) (fun g6 g6p=>?_) ?_
  ·refine ip' 2 6 [(22,.slice lq l.length lk),(23,iv (i:Int))] (ix rfl (G3 A3l rfl rfl hq5 rfl i rfl (by omega)) (ip' 1 4 [(25,pa (Addr.add a4 (i * 1)))] (ix rfl (G5 (C4 (v:=.slice ((lrs.getD i (⟨none,0,0⟩:Slc)).q) ((lrs.getD i (⟨none,0,0⟩:Slc)).n) ((lrs.getD i (⟨none,0,0⟩:Slc)).k)) (us:=[.slice ((lrs.getD i (⟨none,0,0⟩:Slc)).q) ((lrs.getD i (⟨none,0,0⟩:Slc)).n) ((lrs.getD i (⟨none,0,0⟩:Slc)).k)]) B2y rfl rfl (W3 (I4 (c:=O6) (sz:=1) hq5 (fun _=>rfl) 1 rfl (gd (⟨none,0,0⟩:Slc) (by have:=hrowslrs.1;omega))) (ws:=[.slice ((lrs.getD i (⟨none,0,0⟩:Slc)).q) ((lrs.getD i (⟨none,0,0⟩:Slc)).n) ((lrs.getD i (⟨none,0,0⟩:Slc)).k)]) 1 rfl) rfl) (A1m hrowslrs (by have:=hrowslrs.1;omega))) (ip' 3 0 [(29,bv (decide ((6:Int)<((l.getD i []).length:Int))))] ?_))))
   exact zai 7 21 29 g6
  refine ie ?_
  refine zjo rfl hR ?_ ?_<;>clear hR<;>intro hR h7 h7p
  ·refine sr 1 rfl (ip' 1 0 [(2,iv 150)] ?_)
   subst hR
   refine ie (A5 ?_)
   exact C8 hr hD
  refine A4 (nx (sr 1 rfl (ip' 1 0 [(4,iv 0)] (ie (B1 (C4k (fun (k:Nat)=>(k≤(l.getD i []).length∧S3 i (Q1 l (l.drop (i+1))) ((l.getD i []).drop k) k=R,[(0,.slice lq l.length lk),(3,iv (i:Int)),(4,iv (k:Int))],[],[sl D8 ((lrs.getD i (⟨none,0,0⟩:Slc)).q) (l.getD i []),sl O6 lq lrs,P6 D8 lrs l],(l.getD i []).length - k)) 0 ⟨(by omega),hR⟩ (mk [] rfl) A1.refl ?_))))))
  rintro k ⟨hm8,hR⟩
  refine A7 (sr 8 rfl (ip' 3 5 [(30,iv (k:Int)),(31,.slice lq l.length lk),(32,iv (i:Int))] ?_))
  refine ix rfl (G3 A3l rfl rfl hq5 rfl i rfl (by omega)) (ip' 1 3 [(34,pa (Addr.add a4 (i * 1)))] (ix rfl (G5 (C4 (v:=.slice ((lrs.getD i (⟨none,0,0⟩:Slc)).q) ((lrs.getD i (⟨none,0,0⟩:Slc)).n) ((lrs.getD i (⟨none,0,0⟩:Slc)).k)) (us:=[.slice ((lrs.getD i (⟨none,0,0⟩:Slc)).q) ((lrs.getD i (⟨none,0,0⟩:Slc)).n) ((lrs.getD i (⟨none,0,0⟩:Slc)).k)]) B2y rfl rfl (W3 (I4 (c:=O6) (sz:=1) hq5 (fun _=>rfl) 1 rfl (gd (⟨none,0,0⟩:Slc) (by have:=hrowslrs.1;omega))) (ws:=[.slice ((lrs.getD i (⟨none,0,0⟩:Slc)).q) ((lrs.getD i (⟨none,0,0⟩:Slc)).n) ((lrs.getD i (⟨none,0,0⟩:Slc)).k)]) 1 rfl) rfl) (A1m hrowslrs (by have:=hrowslrs.1;omega))) (ip' 2 0 [(37,bv (decide ((k:Int)<((l.getD i []).length:Int))))] ?_)))
  refine ie (A1f rfl (fun h9=>?_) (fun h9=>?_))
  ·have h9p:(k:Int)<((l.getD i []).length:Int):=by simpa using h9
   rw [A2t 0 (show k<(l.getD i []).length by omega)] at hR;replace hR:=(S3.eq_2 ..).symm.trans hR
   refine A4 (nx (A7 (B1 (sr 20 rfl (ip' 2 18 [(40,.slice lq l.length lk),(41,iv (i:Int))] (ix rfl (G3 A3l rfl rfl hq5 rfl i rfl (by omega)) (ip' 1 16 [(43,pa (Addr.add a4 (i * 1)))] (ix rfl (G5 (C4 (v:=.slice ((lrs.getD i (⟨none,0,0⟩:Slc)).q) ((lrs.getD i (⟨none,0,0⟩:Slc)).n) ((lrs.getD i (⟨none,0,0⟩:Slc)).k)) (us:=[.slice ((lrs.getD i (⟨none,0,0⟩:Slc)).q) ((lrs.getD i (⟨none,0,0⟩:Slc)).n) ((lrs.getD i (⟨none,0,0⟩:Slc)).k)]) B2y rfl rfl (W3 (I4 (c:=O6) (sz:=1) hq5 (fun _=>rfl) 1 rfl (gd (⟨none,0,0⟩:Slc) (by have:=hrowslrs.1;omega))) (ws:=[.slice ((lrs.getD i (⟨none,0,0⟩:Slc)).q) ((lrs.getD i (⟨none,0,0⟩:Slc)).n) ((lrs.getD i (⟨none,0,0⟩:Slc)).k)]) 1 rfl) rfl) (A1m hrowslrs (by have:=hrowslrs.1;omega))) (ip' 1 14 [(45,iv (k:Int))] (K9 0 rfl (by omega) fun a10 hq11=>(ix rfl (G3 F8 rfl rfl hq11 rfl k rfl (by omega)) ?_)))))))))))
   refine ix rfl (C4 (v:=iv ((l.getD i []).getD k 0)) (us:=[iv ((l.getD i []).getD k 0)]) ty3 rfl rfl (I4 (c:=D8) (sz:=1) hq11 (fun _=>rfl) 0 rfl (gd 0 (by omega))) rfl) (ip' 2 10 [(49,bv (decide (((l.getD i []).getD k 0)<(-1))))] ?_)
   refine zir 10 0 49 59 (decide ((9999:Int)<((l.getD i []).getD k 0))) (fun g12 g12p=>?_) ?_
   ·refine ip' 2 8 [(50,.slice lq l.length lk),(51,iv (i:Int))] (ix rfl (G3 A3l rfl rfl hq5 rfl i rfl (by omega)) (ip' 1 6 [(53,pa (Addr.add a4 (i * 1)))] (ix rfl (G5 (C4 (v:=.slice ((lrs.getD i (⟨none,0,0⟩:Slc)).q) ((lrs.getD i (⟨none,0,0⟩:Slc)).n) ((lrs.getD i (⟨none,0,0⟩:Slc)).k)) (us:=[.slice ((lrs.getD i (⟨none,0,0⟩:Slc)).q) ((lrs.getD i (⟨none,0,0⟩:Slc)).n) ((lrs.getD i (⟨none,0,0⟩:Slc)).k)]) B2y rfl rfl (W3 (I4 (c:=O6) (sz:=1) hq5 (fun _=>rfl) 1 rfl (gd (⟨none,0,0⟩:Slc) (by have:=hrowslrs.1;omega))) (ws:=[.slice ((lrs.getD i (⟨none,0,0⟩:Slc)).q) ((lrs.getD i (⟨none,0,0⟩:Slc)).n) ((lrs.getD i (⟨none,0,0⟩:Slc)).k)]) 1 rfl) rfl) (A1m hrowslrs (by have:=hrowslrs.1;omega))) (ip' 1 4 [(55,iv (k:Int))] (ix rfl (G3 F8 rfl rfl hq11 rfl k rfl (by omega)) (ix rfl (C4 (v:=iv ((l.getD i []).getD k 0)) (us:=[iv ((l.getD i []).getD k 0)]) ty3 rfl rfl (I4 (c:=D8) (sz:=1) hq11 (fun _=>rfl) 0 rfl (gd 0 (by omega))) rfl) ?_))))))
    refine ip' 2 0 [(59,bv (decide ((9999:Int)<((l.getD i []).getD k 0))))] ?_
    exact zai 10 49 59 g12
   refine ie ?_
   refine zjo rfl hR ?_ ?_<;>clear hR<;>intro hR h13 h13p
   ·refine sr 1 rfl (ip' 1 0 [(2,iv 150)] ?_)
    subst hR
    refine ie (A5 ?_)
    exact C8 hr hD
   refine A4 (nx (A2 3 rfl (ip' 1 2 [(38,iv (k:Int))] (ix rfl (B5 rfl rfl rfl rfl (by omega)) (ip' 1 0 [(4,iv ((k:Int)+1))] (A3 ?_))))))
   exact C4w (z1:=k) (k+1) ⟨(by omega),hR⟩ (by (try dsimp only);omega) (mk [] rfl) A1.refl
  have h9p:¬ ((k:Int)<((l.getD i []).length:Int)):=by simpa using h9
  rw [A3e h9p] at hR;replace hR:=(S3.eq_1 ..).symm.trans hR
  refine G6 (nx (A2 3 rfl (ip' 1 2 [(12,iv (i:Int))] ?_)))
  refine ix rfl (B5 rfl rfl rfl rfl (by omega)) (ip' 1 0 [(3,iv ((i:Int)+1))] (A3 ?_))
  exact C4w (z1:=i) (i+1) ⟨(by omega),hR⟩ (by (try dsimp only);omega) (mk [] rfl) (A1.pick [1,2] rfl)
 have h3p:¬ ((i:Int)<(l.length:Int)):=by simpa using h3
 rw [A3e h3p] at hR;replace hR:=(Q1.eq_1 ..).symm.trans hR
 refine G6 (nx (A7 (sr 20 rfl (ip' 4 16 [(63,bv (decide ((l.length:Int)=1)))] ?_))))
 refine zid 7 9 63 70 (decide (((l.getD 0 []).length:Int)=1)) (fun g14 g14p=>?_) ?_
 ·refine ip' 1 6 [(64,.slice lq l.length lk)] (K9 0 rfl (by omega) fun a15 hq16=>(F1 (A8f (k:=0) (d:=(⟨none,0,0⟩:Slc)) hrowslrs 1 rfl (by have:=hrowslrs.1;omega)) ?_))
  have:=A8h hrowslrs (k:=0) (d:=(⟨none,0,0⟩:Slc)) (by have:=hrowslrs.1;omega)
  refine ix rfl (G3 A3l rfl rfl hq16 rfl 0 rfl (by omega)) (ip' 1 4 [(66,pa (Addr.add a15 (0 * 1)))] (ix rfl (G5 (C4 (v:=.slice ((lrs.getD 0 (⟨none,0,0⟩:Slc)).q) ((lrs.getD 0 (⟨none,0,0⟩:Slc)).n) ((lrs.getD 0 (⟨none,0,0⟩:Slc)).k)) (us:=[.slice ((lrs.getD 0 (⟨none,0,0⟩:Slc)).q) ((lrs.getD 0 (⟨none,0,0⟩:Slc)).n) ((lrs.getD 0 (⟨none,0,0⟩:Slc)).k)]) B2y rfl rfl (W3 (I4 (c:=O6) (sz:=1) hq16 (fun _=>rfl) 1 rfl (gd (⟨none,0,0⟩:Slc) (by have:=hrowslrs.1;omega))) (ws:=[.slice ((lrs.getD 0 (⟨none,0,0⟩:Slc)).q) ((lrs.getD 0 (⟨none,0,0⟩:Slc)).n) ((lrs.getD 0 (⟨none,0,0⟩:Slc)).k)]) 1 rfl) rfl) (A1m hrowslrs (by have:=hrowslrs.1;omega))) (ip' 3 0 [(70,bv (decide (((l.getD 0 []).length:Int)=1)))] ?_)))
  exact A3 (K5 6 63 70 g14 (A1.pick [1,2] rfl) (mk [] rfl) rfl rfl rfl rfl rfl)
 refine ip' 1 8 [(71,bv ((decide ((l.length:Int)=1))&&(decide (((l.getD 0 []).length:Int)=1))))] ?_
 refine zia 8 0 71 79 (decide (((l.getD 0 []).getD 0 0)=(-1))) (fun g17=>?_) ?_
 ·have g17p:((l.length:Int)=1)∧(((l.getD 0 []).length:Int)=1):=by simpa using g17
  refine ip' 1 7 [(72,.slice lq l.length lk)] (K9 0 rfl (by omega) fun a18 hq19=>(F1 (A8f (k:=0) (d:=(⟨none,0,0⟩:Slc)) hrowslrs 1 rfl (by have:=hrowslrs.1;omega)) ?_))
  have:=A8h hrowslrs (k:=0) (d:=(⟨none,0,0⟩:Slc)) (by have:=hrowslrs.1;omega)
  refine ix rfl (G3 A3l rfl rfl hq19 rfl 0 rfl (by omega)) (ip' 1 5 [(74,pa (Addr.add a18 (0 * 1)))] (ix rfl (G5 (C4 (v:=.slice ((lrs.getD 0 (⟨none,0,0⟩:Slc)).q) ((lrs.getD 0 (⟨none,0,0⟩:Slc)).n) ((lrs.getD 0 (⟨none,0,0⟩:Slc)).k)) (us:=[.slice ((lrs.getD 0 (⟨none,0,0⟩:Slc)).q) ((lrs.getD 0 (⟨none,0,0⟩:Slc)).n) ((lrs.getD 0 (⟨none,0,0⟩:Slc)).k)]) B2y rfl rfl (W3 (I4 (c:=O6) (sz:=1) hq19 (fun _=>rfl) 1 rfl (gd (⟨none,0,0⟩:Slc) (by have:=hrowslrs.1;omega))) (ws:=[.slice ((lrs.getD 0 (⟨none,0,0⟩:Slc)).q) ((lrs.getD 0 (⟨none,0,0⟩:Slc)).n) ((lrs.getD 0 (⟨none,0,0⟩:Slc)).k)]) 1 rfl) rfl) (A1m hrowslrs (by have:=hrowslrs.1;omega))) (K9 0 rfl (by omega) fun a20 hq21=>(ix rfl (G3 F8 rfl rfl hq21 rfl 0 rfl (by omega)) (ix rfl (C4 (v:=iv ((l.getD 0 []).getD 0 0)) (us:=[iv ((l.getD 0 []).getD 0 0)]) ty3 rfl rfl (I4 (c:=D8) (sz:=1) hq21 (fun _=>rfl) 0 rfl (gd 0 (by omega))) rfl) (ip' 2 0 [(79,bv (decide (((l.getD 0 []).getD 0 0)=(-1))))] ?_))))))
  exact A3 (K5 8 71 79 g17 (A1.pick [1,2] rfl) (mk [] rfl) rfl rfl rfl rfl rfl)
 refine ie ?_
 refine zjb rfl hR ?_ ?_<;>clear hR<;>intro hR h22
 ·have h22p:(((l.length:Int)=1)∧(((l.getD 0 []).length:Int)=1))∧(((l.getD 0 []).getD 0 0)=(-1)):=by simpa using h22
  refine sr 1 rfl (ip' 1 0 [(2,iv 150)] ?_)
  subst hR
  refine ie (A5 ?_)
  exact C8 hr hD
 have h22p:¬ ((((l.length:Int)=1)∧(((l.getD 0 []).length:Int)=1))∧(((l.getD 0 []).getD 0 0)=(-1))):=by simpa using h22
 refine A4 (nx (sr 1 rfl (ip' 1 0 [(2,iv 0)] ?_)))
 subst hR
 refine ie (A5 ?_)
 exact C8 hr hD
def Z2 (l:List (List Int)) (i:Nat) (k:Nat) (ag_ref05_Print_l3:List UInt8→Nat→(List UInt8×Int)) (s3:List UInt8):List UInt8×Int :=
 (bif (decide ((0:Int)≤((l.getD i []).getD k 0))) then ag_ref05_Print_l3 (s3++(D9 (((l.getD i []).getD k 0).toNat+1) ((l.getD i []).getD k 0))) (k+1) else ag_ref05_Print_l3 s3 (k+1))
def N7 (l:List (List Int)) (i:Nat) (ag_ref05_Print_l2:List UInt8→Nat→(List UInt8×Int)):Nat→List UInt8→Nat→(List UInt8×Int)
 | 0,_,_=>([],0)
 | fu1+1,s2,k=>(bif (decide ((k:Int)<((l.getD i []).length:Int))) then (bif (decide ((0:Int)<(k:Int))) then Z2 l i k (N7 l i ag_ref05_Print_l2 fu1) (s2++([58]:List UInt8)) else Z2 l i k (N7 l i ag_ref05_Print_l2 fu1) s2) else ag_ref05_Print_l2 s2 (i+1))
def A0r (l:List (List Int)) (i:Nat) (ag_ref05_Print_l2:List UInt8→Nat→(List UInt8×Int)) (s1:List UInt8):List UInt8×Int :=
 N7 l i ag_ref05_Print_l2 (((l.getD i []).length - 0)+1) s1 0
def I8 (l:List (List Int)):List (List Int)→List UInt8→Nat→(List UInt8×Int)
 | [],s,i=>(s,0)
 | hd_l2::tl_l2,s,i=>(bif (decide ((0:Int)<(i:Int))) then A0r l i (I8 l tl_l2) (s++([59]:List UInt8)) else A0r l i (I8 l tl_l2) s)
def A2g (l:List (List Int)):List UInt8×Int :=
 (bif (!decide ((A1d l)=0)) then (([]:List UInt8),150) else I8 l l ([]:List UInt8) 0)
theorem A9y (l:List (List Int)) (h:B3c l) (i:Nat) (ag:List UInt8→Nat→List UInt8×Int) (B:Nat) (hag:∀ s t,(ag s t).1.length≤s.length+B):∀ (fu:Nat) (s:List UInt8) (k:Nat),k≤6→(N7 l i ag fu s k).1.length≤s.length+10002 * (6 - k)+B
 | 0,s,k,hk=>by simp [N7]
 | fu+1,s,k,hk=>by
  have ih:=A9y l h i ag B hag fu
  have hb:=h.at i k
  have hd:=M6 (((l.getD i []).getD k 0).toNat+1) ((l.getD i []).getD k 0)
  have h6:(l.getD i []).length≤6:=by
   by_cases hi:i<l.length
   ·have hm:l.getD i [] ∈ l:=by rw [gdE hi];exact List.getElem_mem hi
    exact (h.2 _ hm).2.1
   ·rw [gdN hi];simp
  rw [N7]
  unfold Z2
  by_cases hc:(k:Int)<((l.getD i []).length:Int)
  ·rw [decide_eq_true hc,cond_true]
   have hk6:k<6:=by omega
   have e:10002 * (6 - k)=10002 * (6 - (k+1))+10002:=by omega
   simp only [Bool.cond_eq_ite]
   repeat' split
   all_goals refine Nat.le_trans (ih _ _ (by omega)) ?_
   all_goals try simp only [List.length_append,List.length_cons,List.length_nil]
   all_goals omega
  ·rw [decide_eq_false hc,cond_false]
   exact Nat.le_trans (hag _ _) (by omega)
theorem B0o (l:List (List Int)) (h:B3c l):∀ (x:List (List Int)) (s:List UInt8) (i:Nat),(I8 l x s i).1.length≤s.length+60100 * x.length
 | [],s,i=>by simp [I8]
 | r::x,s,i=>by
  have h3:=fun s'=>A9y l h i (I8 l x) (60100 * x.length) (fun s t=>B0o l h x s t) (((l.getD i []).length - 0)+1) s' 0 (by omega)
  simp only [I8,A0r,List.length_cons,Bool.cond_eq_ite]
  split
  all_goals refine Nat.le_trans (h3 _) ?_
  all_goals try simp only [List.length_append,List.length_cons,List.length_nil]
  all_goals omega
theorem B4g (l:List (List Int)):(A2g l).1.length≤961600:=by
 unfold A2g
 by_cases h:A1d l=0
 ·have hp:=B5p h
  have:=B0o l hp l [] 0
  have h1:=hp.1
  rw [h];simp only [decide_true,Bool.not_true,cond_false]
  rw [List.length_nil] at this;omega
 ·simp [h]
theorem C5q (l:List (List Int)) (lq:Option Addr) (lrs:List Slc) (lk:Nat) (hrowslrs:I3 lrs l) (hll:l.length≤9223372036854775807) (hcl:l.length≤lk) (R:List UInt8×Int) (hR:A2g l=R):I5 Tryz.prog 94 [.slice lq l.length lk] [sl O6 lq lrs,P6 D8 lrs l] (.tuple #[sv R.1,iv R.2]):=by
 refine zco Tryz.func94 [(0,.slice lq l.length lk)] fun X hX hr hD=>?_
 replace hR:=(A2g.eq_1 ..).symm.trans hR
 have:=hrowslrs.1
 refine sr 2 rfl (ip' 2 0 [] (ie (A7 (sr 3 rfl (ip' 1 2 [(7,.slice lq l.length lk)] (zca (C5w l lq lrs lk hrowslrs (by first|omega|(simp<;>omega)|(dsimp only;omega)|decide) (by first|omega|(simp<;>omega)|(dsimp only;omega)|decide) _ rfl) A1.refl (ip' 1 0 [(9,bv (!decide ((A1d l)=0)))] (ie ?_))))))))
 refine zjn rfl hR ?_ ?_<;>clear hR<;>intro hR h1 h1p
 ·refine sr 2 rfl (ip' 2 0 [(2,sv ([]:List UInt8)),(3,iv 150)] ?_)
  subst hR
  refine ie (A5 ?_)
  exact A0v hr hD
 have hpo:=B5p (Decidable.of_not_not (by assumption))
 have hpl:=hpo.1
 refine A4 (nx (sr 1 rfl (ip' 1 0 [(4,sv ([]:List UInt8))] (ie (A7 (sr 1 rfl (ip' 1 0 [(5,iv 0)] ?_)))))))
 refine ie (B1 (C5n (fun (s:List UInt8) (i:Nat)=>(i≤l.length∧I8 l (l.drop i) s i=R∧s.length≤60100 * i,[(0,.slice lq l.length lk),(4,sv s),(5,iv (i:Int))],[],[sl O6 lq lrs,P6 D8 lrs l],l.length - i)) ([]:List UInt8) 0 ⟨(by omega),hR,(by simp)⟩ (mk [] rfl) A1.refl ?_))
 rintro s i ⟨hm2,hR,hs⟩
 have h6:=(hpo.row i)
 refine A7 (sr 4 rfl (ip' 4 0 [(13,bv (decide ((i:Int)<(l.length:Int))))] ?_))
 refine ie (A1f rfl (fun h3=>?_) (fun h3=>?_))
 ·have h3p:(i:Int)<(l.length:Int):=by simpa using h3
  rw [A2t [] (show i<l.length by omega)] at hR;replace hR:=(I8.eq_2 ..).symm.trans hR
  refine A4 (nx (A7 (B1 (B6l (fun (s1:List UInt8)=>(A0r l i (I8 l (l.drop (i+1))) s1=R∧s1.length≤60100 * i+1,[(0,.slice lq l.length lk),(4,sv s1),(5,iv (i:Int))],[],[sl O6 lq lrs,P6 D8 lrs l])) ?_ ?_))))
  ·refine sr 2 rfl (ip' 2 0 [(17,bv (decide ((0:Int)<(i:Int))))] (ie ?_))
   refine zjd rfl hR ?_ ?_<;>clear hR<;>intro hR h4 h4p
   ·refine A2 3 rfl (ip' 1 2 [(18,sv s)] (ix rfl (zst rfl rfl rfl) (ip' 1 0 [(4,sv (s++([59]:List UInt8)))] (A3 ?_))))
    exact V8 (s++([59]:List UInt8)) ⟨hR,(by first|omega|(simp<;>omega))⟩ (mk [] rfl) A1.refl
   refine A4 ?_
   exact V8 s ⟨hR,(by first|omega|(simp<;>omega))⟩ (mk [] rfl) A1.refl
  intro s1
  rintro ⟨hR,hj8⟩
  replace hR:=(A0r.eq_1 ..).symm.trans hR
  refine sr 1 rfl (ip' 1 0 [(6,iv 0)] (ie (B1 (E1c (fun (fu:Nat) (s2:List UInt8) (k:Nat)=>(((l.getD i []).length - k)<fu∧N7 l i (I8 l (l.drop (i+1))) fu s2 k=R∧s2.length≤60100 * i+1+10003 * k∧k≤(l.getD i []).length,[(0,.slice lq l.length lk),(4,sv s2),(5,iv (i:Int)),(6,iv (k:Int))],[],[sl O6 lq lrs,P6 D8 lrs l],fu)) (((l.getD i []).length - 0)+1) s1 0 ⟨(Nat.lt_succ_self _),hR,(by first|omega|(simp<;>omega)),(by omega)⟩ (mk [] rfl) A1.refl ?_))))
  rintro fu s2 k ⟨hm5,hR,hs2,hk6⟩
  obtain ⟨fu1,rfl⟩:∃ m,fu=m+1:=⟨fu - 1,by omega⟩
  replace hR:=(N7.eq_2 ..).symm.trans hR
  have hq:=hpo.at i k
  refine A7 (sr 8 rfl (ip' 3 5 [(20,iv (k:Int)),(21,.slice lq l.length lk),(22,iv (i:Int))] ?_))
  refine K9 0 rfl (by omega) fun a6 hq7=>(F1 (A8f (k:=i) (d:=(⟨none,0,0⟩:Slc)) hrowslrs 1 rfl (by have:=hrowslrs.1;omega)) ?_)
  have:=A8h hrowslrs (k:=i) (d:=(⟨none,0,0⟩:Slc)) (by have:=hrowslrs.1;omega)
  refine ix rfl (G3 A3l rfl rfl hq7 rfl i rfl (by omega)) (ip' 1 3 [(24,pa (Addr.add a6 (i * 1)))] (ix rfl (G5 (C4 (v:=.slice ((lrs.getD i (⟨none,0,0⟩:Slc)).q) ((lrs.getD i (⟨none,0,0⟩:Slc)).n) ((lrs.getD i (⟨none,0,0⟩:Slc)).k)) (us:=[.slice ((lrs.getD i (⟨none,0,0⟩:Slc)).q) ((lrs.getD i (⟨none,0,0⟩:Slc)).n) ((lrs.getD i (⟨none,0,0⟩:Slc)).k)]) B2y rfl rfl (W3 (I4 (c:=O6) (sz:=1) hq7 (fun _=>rfl) 1 rfl (gd (⟨none,0,0⟩:Slc) (by have:=hrowslrs.1;omega))) (ws:=[.slice ((lrs.getD i (⟨none,0,0⟩:Slc)).q) ((lrs.getD i (⟨none,0,0⟩:Slc)).n) ((lrs.getD i (⟨none,0,0⟩:Slc)).k)]) 1 rfl) rfl) (A1m hrowslrs (by have:=hrowslrs.1;omega))) (ip' 2 0 [(27,bv (decide ((k:Int)<((l.getD i []).length:Int))))] (ie ?_))))
  refine zjd rfl hR ?_ ?_<;>clear hR<;>intro hR h8 h8p
  ·refine A4 (nx (A7 (B1 (B6l (fun (s3:List UInt8)=>(Z2 l i k (N7 l i (I8 l (l.drop (i+1))) fu1) s3=R∧s3.length≤60100 * i+2+10003 * k,[(0,.slice lq l.length lk),(4,sv s3),(5,iv (i:Int)),(6,iv (k:Int))],[],[sl D8 ((lrs.getD i (⟨none,0,0⟩:Slc)).q) (l.getD i []),sl O6 lq lrs,P6 D8 lrs l])) ?_ ?_))))
   ·refine sr 2 rfl (ip' 2 0 [(31,bv (decide ((0:Int)<(k:Int))))] (ie ?_))
    refine zjd rfl hR ?_ ?_<;>clear hR<;>intro hR h9 h9p
    ·refine A2 3 rfl (ip' 1 2 [(32,sv s2)] (ix rfl (zst rfl rfl rfl) (ip' 1 0 [(4,sv (s2++([58]:List UInt8)))] (A3 ?_))))
     exact V8 (s2++([58]:List UInt8)) ⟨hR,(by first|omega|(simp<;>omega))⟩ (mk [] rfl) A1.refl
    refine A4 ?_
    exact V8 s2 ⟨hR,(by first|omega|(simp<;>omega))⟩ (mk [] rfl) A1.refl
   intro s3
   rintro ⟨hR,hj11⟩
   replace hR:=(Z2.eq_1 ..).symm.trans hR
   refine sr 9 rfl (ip' 2 7 [(34,.slice lq l.length lk),(35,iv (i:Int))] (ix rfl (G3 A3l rfl rfl hq7 rfl i rfl (by omega)) (ip' 1 5 [(37,pa (Addr.add a6 (i * 1)))] (ix rfl (G5 (C4 (v:=.slice ((lrs.getD i (⟨none,0,0⟩:Slc)).q) ((lrs.getD i (⟨none,0,0⟩:Slc)).n) ((lrs.getD i (⟨none,0,0⟩:Slc)).k)) (us:=[.slice ((lrs.getD i (⟨none,0,0⟩:Slc)).q) ((lrs.getD i (⟨none,0,0⟩:Slc)).n) ((lrs.getD i (⟨none,0,0⟩:Slc)).k)]) B2y rfl rfl (W3 (I4 (c:=O6) (sz:=1) hq7 (fun _=>rfl) 1 rfl (gd (⟨none,0,0⟩:Slc) (by have:=hrowslrs.1;omega))) (ws:=[.slice ((lrs.getD i (⟨none,0,0⟩:Slc)).q) ((lrs.getD i (⟨none,0,0⟩:Slc)).n) ((lrs.getD i (⟨none,0,0⟩:Slc)).k)]) 1 rfl) rfl) (A1m hrowslrs (by have:=hrowslrs.1;omega))) (ip' 1 3 [(39,iv (k:Int))] (K9 0 rfl (by omega) fun a10 hq11=>(ix rfl (G3 F8 rfl rfl hq11 rfl k rfl (by omega)) ?_)))))))
   refine ix rfl (C4 (v:=iv ((l.getD i []).getD k 0)) (us:=[iv ((l.getD i []).getD k 0)]) ty3 rfl rfl (I4 (c:=D8) (sz:=1) hq11 (fun _=>rfl) 0 rfl (gd 0 (by omega))) rfl) (ip' 1 0 [(42,bv (decide ((0:Int)≤((l.getD i []).getD k 0))))] (ie ?_))
   refine zjd rfl hR ?_ ?_<;>clear hR<;>intro hR h12 h12p
   ·refine A2 12 rfl (ip' 3 9 [(43,sv s3),(44,.slice lq l.length lk),(45,iv (i:Int))] (ix rfl (G3 A3l rfl rfl hq7 rfl i rfl (by omega)) (ip' 1 7 [(47,pa (Addr.add a6 (i * 1)))] (ix rfl (G5 (C4 (v:=.slice ((lrs.getD i (⟨none,0,0⟩:Slc)).q) ((lrs.getD i (⟨none,0,0⟩:Slc)).n) ((lrs.getD i (⟨none,0,0⟩:Slc)).k)) (us:=[.slice ((lrs.getD i (⟨none,0,0⟩:Slc)).q) ((lrs.getD i (⟨none,0,0⟩:Slc)).n) ((lrs.getD i (⟨none,0,0⟩:Slc)).k)]) B2y rfl rfl (W3 (I4 (c:=O6) (sz:=1) hq7 (fun _=>rfl) 1 rfl (gd (⟨none,0,0⟩:Slc) (by have:=hrowslrs.1;omega))) (ws:=[.slice ((lrs.getD i (⟨none,0,0⟩:Slc)).q) ((lrs.getD i (⟨none,0,0⟩:Slc)).n) ((lrs.getD i (⟨none,0,0⟩:Slc)).k)]) 1 rfl) rfl) (A1m hrowslrs (by have:=hrowslrs.1;omega))) (ip' 1 5 [(49,iv (k:Int))] (ix rfl (G3 F8 rfl rfl hq11 rfl k rfl (by omega)) (ix rfl (C4 (v:=iv ((l.getD i []).getD k 0)) (us:=[iv ((l.getD i []).getD k 0)]) ty3 rfl rfl (I4 (c:=D8) (sz:=1) hq11 (fun _=>rfl) 0 rfl (gd 0 (by omega))) rfl) ?_)))))))
    refine zca (A6s (((l.getD i []).getD k 0).toNat+1) ((l.getD i []).getD k 0) (by first|omega|(simp<;>omega)) (Nat.lt_succ_self _) _ rfl) fn0 ?_
    have:=M6 (((l.getD i []).getD k 0).toNat+1) ((l.getD i []).getD k 0)
    refine ix rfl (zst rfl rfl rfl) ?_
    have:=@List.length_append _ s3 (D9 (((l.getD i []).getD k 0).toNat+1) ((l.getD i []).getD k 0))
    refine ip' 1 0 [(4,sv (s3++(D9 (((l.getD i []).getD k 0).toNat+1) ((l.getD i []).getD k 0))))] (A3 (nx (A2 3 rfl (ip' 1 2 [(28,iv (k:Int))] (ix rfl (B5 rfl rfl rfl rfl (by omega)) (ip' 1 0 [(6,iv ((k:Int)+1))] (A3 ?_)))))))
    exact D5v (z1:=(fu1+1)) (z2:=s2) (z3:=k) fu1 (s3++(D9 (((l.getD i []).getD k 0).toNat+1) ((l.getD i []).getD k 0))) (k+1) ⟨(by omega),hR,(by first|omega|(simp<;>omega)),(by omega)⟩ (Nat.lt_succ_self _) (mk [] rfl) (A1.pick [1,2] rfl)
   refine A4 (nx (A2 3 rfl (ip' 1 2 [(28,iv (k:Int))] (ix rfl (B5 rfl rfl rfl rfl (by omega)) (ip' 1 0 [(6,iv ((k:Int)+1))] (A3 ?_))))))
   exact D5v (z1:=(fu1+1)) (z2:=s2) (z3:=k) fu1 s3 (k+1) ⟨(by omega),hR,(by first|omega|(simp<;>omega)),(by omega)⟩ (Nat.lt_succ_self _) (mk [] rfl) (A1.pick [1,2] rfl)
  refine G6 (nx (A2 3 rfl (ip' 1 2 [(14,iv (i:Int))] ?_)))
  refine ix rfl (B5 rfl rfl rfl rfl (by omega)) (ip' 1 0 [(5,iv ((i:Int)+1))] (A3 ?_))
  exact C6d (z1:=s) (z2:=i) s2 (i+1) ⟨(by omega),hR,(by first|omega|(simp<;>omega))⟩ (by (try dsimp only);omega) (mk [] rfl) (A1.pick [1,2] rfl)
 have h3p:¬ ((i:Int)<(l.length:Int)):=by simpa using h3
 rw [A3e h3p] at hR;replace hR:=(I8.eq_1 ..).symm.trans hR
 refine G6 (nx (sr 3 rfl (ip' 3 0 [(2,sv s),(3,iv 0)] ?_)))
 subst hR
 refine ie (A5 ?_)
 exact A0v hr hD
def X9 (l:List Act):List UInt8 :=
 (B8 (A6k l) fun (y32:List (List Int)×Int)=>(B8 (A2g y32.1) fun (y34:List UInt8×Int)=>((([27,91]:List UInt8)++y34.1)++([109]:List UInt8))))
theorem A4g (l:List Act):(X9 l).length≤961603:=by
 have:=B4g (A6k l).1
 unfold X9;simp only [B8,List.length_append,List.length_cons,List.length_nil];omega
theorem A9k (l:List Act) (lq:Option Addr) (lk:Nat) (hll:l.length≤9223372036854775807) (hcl:l.length≤lk) (hlen:l.length≤2000) (R:List UInt8) (hR:X9 l=R):I5 Tryz.prog 42 [.slice lq l.length lk] [sl A0 lq l] (sv R):=by
 refine zco Tryz.func42 [(0,.slice lq l.length lk)] fun X hX hr hD=>?_
 replace hR:=(X9.eq_1 ..).symm.trans hR
 refine sr 1 rfl (ip' 1 0 [] (ie (sr 7 rfl (ip' 1 6 [(8,.slice lq l.length lk)] ?_))))
 have hQ:=C2 hR;clear hR;obtain ⟨y32,hy32,hR⟩:=hQ
 refine it rfl (C3 (L2:=[]) (C4j l lq lk (by first|omega|(simp<;>omega)|(dsimp only;omega)|decide) (by first|omega|(simp<;>omega)|(dsimp only;omega)|decide) (by first|omega|(simp<;>omega)) y32 hy32) rfl rfl rfl rfl rfl A1.refl (List.Perm.refl _) (fun ⟨⟨r1,rs2⟩,hp5⟩=>((vo O6 208 r1 rs2)++([]))) (fun _=>by first|rfl|simp)) fun ⟨⟨r1,rs2⟩,hp5⟩=>?_
 try dsimp only at hp5
 obtain ⟨hk3,hw4⟩:=hp5
 have:=VOk.le hk3
 have:=VOk.cap hk3
 have:=hw4.1
 refine ip' 5 0 [(3,.slice (va r1.q) y32.1.length r1.k)] (ie (sr 7 rfl (ip' 1 6 [(13,.slice (va r1.q) y32.1.length r1.k)] ?_)))
 have:=VOk.cap hk3
 have:=VOk.le hk3
 refine Y5 [] [] (T:=208) (c:=O6) (r:=r1) (xs:=rs2) (VOk.cast hk3 (by rw [hw4.1])) (by first|rfl|simp) ?_
 have hQ:=C2 hR;clear hR;obtain ⟨y34,hy34,hR⟩:=hQ
 refine zca (C5q y32.1 (va r1.q) rs2 r1.k hw4 (by first|omega|(simp<;>omega)|(dsimp only;omega)|decide) (by first|omega|(simp<;>omega)|(dsimp only;omega)|decide) y34 hy34) (A1.pick [0,1] rfl) ?_
 have:=B4g y32.1;try rw [hy34] at this
 refine ip' 5 0 [(5,sv y34.1)] (ie (sr 4 rfl (ip' 1 3 [(17,sv y34.1)] (ix rfl (zst rfl rfl rfl) (ix rfl (zst rfl rfl rfl) (ip' 1 0 [(2,sv ((([27,91]:List UInt8)++y34.1)++([109]:List UInt8)))] ?_))))))
 subst hR
 refine ie (A5 ?_)
 exact C8 hr hD
def P9 (s:List UInt8) (n:Int):List UInt8 :=
 ((s.drop ((n).toNat)).take (((n).toNat+1) - ((n).toNat)))
theorem Q8 (s:List UInt8) (n:Int) (h:0≤n):(P9 s n).length≤1:=by
 unfold P9;simp only [List.length_take,List.length_drop];omega
theorem W0 (s:List UInt8) (n:Int) (hn:0≤n∧n<(s.length:Int)) (hs:s.length≤1000) (R:List UInt8) (hR:P9 s n=R):I5 Tryz.prog 142 [sv s,iv n] [] (sv R):=by
 refine zco Tryz.func142 [(0,sv s),(1,iv n)] fun X hX hr hD=>?_
 replace hR:=(P9.eq_1 ..).symm.trans hR
 refine sr 1 rfl (ip' 1 0 [] (ie (sr 6 rfl (ip' 3 3 [(5,sv s),(6,iv n),(7,iv n)] (ix rfl (B5 rfl rfl rfl rfl (by omega)) (ix rfl (B5i (T:=9) Tryz.underlying9 rfl rfl rfl rfl ((n).toNat) (by omega) ((n).toNat+1) (by omega) (by omega) (by omega)) ?_))))))
 have:=@List.length_drop _ ((n).toNat) s
 have:=@List.length_take _ (((n).toNat+1) - ((n).toNat)) (s.drop ((n).toNat))
 refine ip' 1 0 [(4,sv ((s.drop ((n).toNat)).take (((n).toNat+1) - ((n).toNat))))] ?_
 subst hR
 refine ie (A5 ?_)
 exact C8 hr hD
def A4c (a:Act):List UInt8 :=
 (bif (decide (a.kind=2)) then ([7]:List UInt8) else (bif (decide (a.kind=3)) then ([8]:List UInt8) else (bif (decide (a.kind=4)) then ([9]:List UInt8) else (bif (decide (a.kind=5)) then ([10]:List UInt8) else (bif (decide (a.kind=6)) then ([13]:List UInt8) else (bif (decide (a.kind=7)) then (B8 (P9 ([15,14]:List UInt8) a.n) fun (y2:List UInt8)=>y2) else (bif (decide (a.kind=8)) then ([27,68]:List UInt8) else (bif (decide (a.kind=9)) then ([27,69]:List UInt8) else (bif (decide (a.kind=10)) then ([27,72]:List UInt8) else (bif (decide (a.kind=11)) then ([27,77]:List UInt8) else (bif (decide (a.kind=12)) then ([27,55]:List UInt8) else (bif (decide (a.kind=13)) then ([27,56]:List UInt8) else (bif (decide (a.kind=15)) then ([27,99]:List UInt8) else (bif (decide (a.kind=14)) then (B8 (P9 ([62,61]:List UInt8) a.n) fun (y14:List UInt8)=>(([27]:List UInt8)++y14)) else (bif (decide (a.kind=16)) then ([27,35,56]:List UInt8) else (bif (decide (a.kind=17)) then (B8 (P9 ([40,41,42,43]:List UInt8) a.n) fun (y19:List UInt8)=>(B8 (P9 ([66,48]:List UInt8) a.m) fun (y18:List UInt8)=>((([27]:List UInt8)++y19)++y18))) else (bif (decide (a.kind=18)) then (B8 (P9 ([78,79]:List UInt8) (a.n - 2)) fun (y39:List UInt8)=>(([27]:List UInt8)++y39)) else ([]:List UInt8))))))))))))))))))
theorem A0z (s:List UInt8) (n:Int):(P9 s n).length≤1:=by
 unfold P9;simp only [List.length_take,List.length_drop];omega
theorem A5l (a:Act):(A4c a).length≤3:=by
 have s1:=fun s n=>A0z s n
 have q1:=s1 [15,14] a.n
 have q2:=s1 [62,61] a.n
 have q3:=s1 [40,41,42,43] a.n
 have q4:=s1 [66,48] a.m
 have q5:=s1 [78,79] (a.n - 2)
 have q6:=s1 [78,79] (IntKind.i64.wrap (a.n - 2))
 unfold A4c B8
 repeat' (with_reducible refine D3r ?_ ?_)
 all_goals first|(simp<;>omega)|omega|decide
theorem B2r (a:Act) (ha:B4z a) (R:List UInt8) (hR:A4c a=R):I5 Tryz.prog 96 [ag (A0 a)] [] (sv R):=by
 refine zco Tryz.func96 [(0,ag (A0 a))] fun X hX hr hD=>?_
 replace hR:=(A4c.eq_1 ..).symm.trans hR
 have hrp:=ha;unfold B4z at hrp
 refine sr 2 rfl (O5 2 0 [] (fun b1=>[(1,pt b1 0)]) (fun b1=>[bx b1 (A0 a) 26]) (fun b1=>(ie (A7 (sr 2 rfl (zrl 2 0 [0] [(4,iv a.kind)] (ie (B1 (sr 2 rfl (ip' 2 0 [(5,bv (decide (a.kind=2)))] (ie ?_)))))))))))
 refine zjd rfl hR ?_ ?_<;>clear hR<;>intro hR h2 h2p
 ·refine sr 1 rfl (ip' 1 0 [(2,sv ([7]:List UInt8))] ?_)
  subst hR
  refine ie (A5 ?_)
  exact C8 hr hD
 refine sr 2 rfl (ip' 2 0 [(7,bv (decide (a.kind=3)))] (ie ?_))
 refine zjd rfl hR ?_ ?_<;>clear hR<;>intro hR h3 h3p
 ·refine sr 1 rfl (ip' 1 0 [(2,sv ([8]:List UInt8))] ?_)
  subst hR
  refine ie (A5 ?_)
  exact C8 hr hD
 refine sr 2 rfl (ip' 2 0 [(9,bv (decide (a.kind=4)))] (ie ?_))
 refine zjd rfl hR ?_ ?_<;>clear hR<;>intro hR h4 h4p
 ·refine sr 1 rfl (ip' 1 0 [(2,sv ([9]:List UInt8))] ?_)
  subst hR
  refine ie (A5 ?_)
  exact C8 hr hD
 refine sr 2 rfl (ip' 2 0 [(11,bv (decide (a.kind=5)))] (ie ?_))
 refine zjd rfl hR ?_ ?_<;>clear hR<;>intro hR h5 h5p
 ·refine sr 1 rfl (ip' 1 0 [(2,sv ([10]:List UInt8))] ?_)
  subst hR
  refine ie (A5 ?_)
  exact C8 hr hD
 refine sr 2 rfl (ip' 2 0 [(13,bv (decide (a.kind=6)))] (ie ?_))
 refine zjd rfl hR ?_ ?_<;>clear hR<;>intro hR h6 h6p
 ·refine sr 1 rfl (ip' 1 0 [(2,sv ([13]:List UInt8))] ?_)
  subst hR
  refine ie (A5 ?_)
  exact C8 hr hD
 refine sr 2 rfl (ip' 2 0 [(15,bv (decide (a.kind=7)))] (ie ?_))
 refine zjd rfl hR ?_ ?_<;>clear hR<;>intro hR h7 h7p
 ·refine sr 4 rfl (zrl 2 2 [0] [(18,iv a.n)] ?_)
  have hQ:=C2 hR;clear hR;obtain ⟨y2,hy2,hR⟩:=hQ
  refine zca (W0 ([15,14]:List UInt8) a.n (by first|omega|(simp<;>omega)) (by first|omega|(simp<;>omega)) y2 hy2) fn0 ?_
  have:=Q8 ([15,14]:List UInt8) a.n (by omega);try rw [hy2] at this
  refine ip' 1 0 [(2,sv y2)] ?_
  subst hR
  refine ie (A5 ?_)
  exact C8 hr hD
 refine sr 2 rfl (ip' 2 0 [(20,bv (decide (a.kind=8)))] (ie ?_))
 refine zjd rfl hR ?_ ?_<;>clear hR<;>intro hR h8 h8p
 ·refine sr 1 rfl (ip' 1 0 [(2,sv ([27,68]:List UInt8))] ?_)
  subst hR
  refine ie (A5 ?_)
  exact C8 hr hD
 refine sr 2 rfl (ip' 2 0 [(22,bv (decide (a.kind=9)))] (ie ?_))
 refine zjd rfl hR ?_ ?_<;>clear hR<;>intro hR h9 h9p
 ·refine sr 1 rfl (ip' 1 0 [(2,sv ([27,69]:List UInt8))] ?_)
  subst hR
  refine ie (A5 ?_)
  exact C8 hr hD
 refine sr 2 rfl (ip' 2 0 [(24,bv (decide (a.kind=10)))] (ie ?_))
 refine zjd rfl hR ?_ ?_<;>clear hR<;>intro hR h10 h10p
 ·refine sr 1 rfl (ip' 1 0 [(2,sv ([27,72]:List UInt8))] ?_)
  subst hR
  refine ie (A5 ?_)
  exact C8 hr hD
 refine sr 2 rfl (ip' 2 0 [(26,bv (decide (a.kind=11)))] (ie ?_))
 refine zjd rfl hR ?_ ?_<;>clear hR<;>intro hR h11 h11p
 ·refine sr 1 rfl (ip' 1 0 [(2,sv ([27,77]:List UInt8))] ?_)
  subst hR
  refine ie (A5 ?_)
  exact C8 hr hD
 refine sr 2 rfl (ip' 2 0 [(28,bv (decide (a.kind=12)))] (ie ?_))
 refine zjd rfl hR ?_ ?_<;>clear hR<;>intro hR h12 h12p
 ·refine sr 1 rfl (ip' 1 0 [(2,sv ([27,55]:List UInt8))] ?_)
  subst hR
  refine ie (A5 ?_)
  exact C8 hr hD
 refine sr 2 rfl (ip' 2 0 [(30,bv (decide (a.kind=13)))] (ie ?_))
 refine zjd rfl hR ?_ ?_<;>clear hR<;>intro hR h13 h13p
 ·refine sr 1 rfl (ip' 1 0 [(2,sv ([27,56]:List UInt8))] ?_)
  subst hR
  refine ie (A5 ?_)
  exact C8 hr hD
 refine sr 2 rfl (ip' 2 0 [(32,bv (decide (a.kind=15)))] (ie ?_))
 refine zjd rfl hR ?_ ?_<;>clear hR<;>intro hR h14 h14p
 ·refine sr 1 rfl (ip' 1 0 [(2,sv ([27,99]:List UInt8))] ?_)
  subst hR
  refine ie (A5 ?_)
  exact C8 hr hD
 refine sr 2 rfl (ip' 2 0 [(34,bv (decide (a.kind=14)))] (ie ?_))
 refine zjd rfl hR ?_ ?_<;>clear hR<;>intro hR h15 h15p
 ·refine sr 5 rfl (zrl 2 3 [0] [(37,iv a.n)] ?_)
  have hQ:=C2 hR;clear hR;obtain ⟨y14,hy14,hR⟩:=hQ
  refine zca (W0 ([62,61]:List UInt8) a.n (by first|omega|(simp<;>omega)) (by first|omega|(simp<;>omega)) y14 hy14) fn0 ?_
  have:=Q8 ([62,61]:List UInt8) a.n (by omega);try rw [hy14] at this
  refine ix rfl (zst rfl rfl rfl) (ip' 1 0 [(2,sv (([27]:List UInt8)++y14))] ?_)
  subst hR
  refine ie (A5 ?_)
  exact C8 hr hD
 refine sr 2 rfl (ip' 2 0 [(40,bv (decide (a.kind=16)))] (ie ?_))
 refine zjd rfl hR ?_ ?_<;>clear hR<;>intro hR h16 h16p
 ·refine sr 1 rfl (ip' 1 0 [(2,sv ([27,35,56]:List UInt8))] ?_)
  subst hR
  refine ie (A5 ?_)
  exact C8 hr hD
 refine sr 2 rfl (ip' 2 0 [(42,bv (decide (a.kind=17)))] (ie ?_))
 refine zjd rfl hR ?_ ?_<;>clear hR<;>intro hR h17 h17p
 ·refine sd 9 rfl (by kernel_rfl) rfl ?_
  refine zdg 2 7 [0] [(45,iv a.n)] ?_
  have hQ:=C2 hR;clear hR;obtain ⟨y19,hy19,hR⟩:=hQ
  refine zcd (W0 ([40,41,42,43]:List UInt8) a.n (by first|omega|(simp<;>omega)) (by first|omega|(simp<;>omega)) y19 hy19) fn0 ?_
  have:=Q8 ([40,41,42,43]:List UInt8) a.n (by omega);try rw [hy19] at this
  refine dd rfl (zst rfl rfl rfl) ?_
  refine zdg 2 3 [0] [(49,iv a.m)] ?_
  have hQ:=C2 hR;clear hR;obtain ⟨y18,hy18,hR⟩:=hQ
  refine zcd (W0 ([66,48]:List UInt8) a.m (by first|omega|(simp<;>omega)) (by first|omega|(simp<;>omega)) y18 hy18) fn0 ?_
  have:=Q8 ([66,48]:List UInt8) a.m (by omega);try rw [hy18] at this
  refine dd rfl (zst rfl rfl rfl) (dp' 1 0 [(2,sv ((([27]:List UInt8)++y19)++y18))] ?_)
  subst hR
  refine de (A5 ?_)
  exact C8 hr hD
 refine sr 2 rfl (ip' 2 0 [(52,bv (decide (a.kind=18)))] (ie ?_))
 refine zjd rfl hR ?_ ?_<;>clear hR<;>intro hR h18 h18p
 ·refine sr 6 rfl (zrl 2 4 [0] [(55,iv a.n)] (ix rfl (N9 rfl rfl rfl rfl (by omega)) ?_))
  have hQ:=C2 hR;clear hR;obtain ⟨y39,hy39,hR⟩:=hQ
  refine zca (W0 ([78,79]:List UInt8) (a.n - 2) (by first|omega|(simp<;>omega)) (by first|omega|(simp<;>omega)) y39 hy39) fn0 ?_
  have:=Q8 ([78,79]:List UInt8) (a.n - 2) (by omega);try rw [hy39] at this
  refine ix rfl (zst rfl rfl rfl) (ip' 1 0 [(2,sv (([27]:List UInt8)++y39))] ?_)
  subst hR
  refine ie (A5 ?_)
  exact C8 hr hD
 refine A4 (nx (sr 1 rfl (ip' 1 0 [(2,sv ([]:List UInt8))] ?_)))
 subst hR
 refine ie (A5 ?_)
 exact C8 hr hD
def N4 (n:Int) (none_:Int):List UInt8 :=
 (bif (decide (n=none_)) then ([]:List UInt8) else (D9 (n.toNat+1) n))
theorem K6 (n k:Int) (h:n≤9999):(N4 n k).length≤10000:=by
 have:=M6 (n.toNat+1) n
 unfold N4;simp only [Bool.cond_eq_ite];split
 ·exact Nat.zero_le _
 ·omega
theorem W1 (n:Int) (none_:Int) (hn:n≤9999) (R:List UInt8) (hR:N4 n none_=R):I5 Tryz.prog 197 [iv n,iv none_] [] (sv R):=by
 refine zco Tryz.func197 [(0,iv n),(1,iv none_)] fun X hX hr hD=>?_
 replace hR:=(N4.eq_1 ..).symm.trans hR
 refine sr 1 rfl (ip' 1 0 [] (ie (A7 (sr 3 rfl (ip' 3 0 [(7,bv (decide (n=none_)))] (ie ?_))))))
 refine zjd rfl hR ?_ ?_<;>clear hR<;>intro hR h1 h1p
 ·refine sr 1 rfl (ip' 1 0 [(4,sv ([]:List UInt8))] ?_)
  subst hR
  refine ie (A5 ?_)
  exact C8 hr hD
 refine A4 (nx (sr 3 rfl (ip' 1 2 [(8,iv n)] (zca (A6s (n.toNat+1) n (by first|omega|(simp<;>omega)) (Nat.lt_succ_self _) _ rfl) fn0 ?_))))
 have:=M6 (n.toNat+1) n
 refine ip' 1 0 [(4,sv (D9 (n.toNat+1) n))] ?_
 subst hR
 refine ie (A5 ?_)
 exact C8 hr hD
def A2c (n:Int) (m:Int) (none_:Int):List UInt8 :=
 (bif (decide (m=none_)) then (B8 (N4 n none_) fun (y3:List UInt8)=>y3) else (B8 (N4 n none_) fun (y21:List UInt8)=>(B8 (N4 m none_) fun (y20:List UInt8)=>((y21++([59]:List UInt8))++y20))))
theorem A7p (n m k:Int) (h:n≤9999∧m≤9999):(A2c n m k).length≤20001:=by
 have h1:=K6 n k h.1
 have h2:=K6 m k h.2
 unfold A2c B8;simp only [Bool.cond_eq_ite];split
 ·omega
 ·simp only [List.length_append,List.length_cons,List.length_nil];omega
theorem C0k (n:Int) (m:Int) (none_:Int) (hn:n≤9999∧m≤9999) (R:List UInt8) (hR:A2c n m none_=R):I5 Tryz.prog 143 [iv n,iv m,iv none_] [] (sv R):=by
 refine zco Tryz.func143 [(0,iv n),(1,iv m),(2,iv none_)] fun X hX hr hD=>?_
 replace hR:=(A2c.eq_1 ..).symm.trans hR
 refine sr 1 rfl (ip' 1 0 [] (ie (A7 (sr 3 rfl (ip' 3 0 [(9,bv (decide (m=none_)))] (ie ?_))))))
 refine zjd rfl hR ?_ ?_<;>clear hR<;>intro hR h1 h1p
 ·refine sr 4 rfl (ip' 2 2 [(10,iv n),(11,iv none_)] ?_)
  have hQ:=C2 hR;clear hR;obtain ⟨y3,hy3,hR⟩:=hQ
  refine zca (W1 n none_ (by omega) y3 hy3) fn0 ?_
  have:=K6 n none_ (by omega);try rw [hy3] at this
  refine ip' 1 0 [(6,sv y3)] ?_
  subst hR
  refine ie (A5 ?_)
  exact C8 hr hD
 refine A4 (nx (sr 9 rfl (ip' 2 7 [(13,iv n),(14,iv none_)] ?_)))
 have hQ:=C2 hR;clear hR;obtain ⟨y21,hy21,hR⟩:=hQ
 refine zca (W1 n none_ (by omega) y21 hy21) fn0 ?_
 have:=K6 n none_ (by omega);try rw [hy21] at this
 refine ix rfl (zst rfl rfl rfl) (ip' 2 3 [(17,iv m),(18,iv none_)] ?_)
 have hQ:=C2 hR;clear hR;obtain ⟨y20,hy20,hR⟩:=hQ
 refine zca (W1 m none_ (by omega) y20 hy20) fn0 ?_
 have:=K6 m none_ (by omega);try rw [hy20] at this
 refine ix rfl (zst rfl rfl rfl) (ip' 1 0 [(6,sv ((y21++([59]:List UInt8))++y20))] ?_)
 subst hR
 refine ie (A5 ?_)
 exact C8 hr hD
def A0i (a:Act):Nat→Nat→List UInt8
 | 0,_=>[]
 | fu1+1,i=>(bif (decide ((i:Int)<10)) then (bif (decide (a.kind=(([22,23,24,25,28,29,30,31,32,34]:List Int).getD i 0))) then (B8 (N4 a.n 1) fun (y35:List UInt8)=>(B8 (P9 ([71,100,73,90,64,80,88,76,77,98]:List UInt8) (i:Int)) fun (y18:List UInt8)=>(y35++y18))) else A0i a fu1 (i+1)) else ([]:List UInt8))
def A4w (a:Act):List UInt8 :=
 (bif (decide (a.kind=20)) then (B8 (N4 a.m 1) fun (y3:List UInt8)=>(B8 (P9 ([65,66,67,68]:List UInt8) a.n) fun (y2:List UInt8)=>(y3++y2))) else (bif (decide (a.kind=21)) then (B8 (N4 a.m 1) fun (y21:List UInt8)=>(B8 (P9 ([69,70]:List UInt8) a.n) fun (y14:List UInt8)=>(y21++y14))) else (bif (decide (a.kind=33)) then (B8 (N4 a.m 1) fun (y20:List UInt8)=>(B8 (P9 ([83,84]:List UInt8) a.n) fun (y19:List UInt8)=>(y20++y19))) else (bif (decide (a.kind=26)) then (B8 (N4 a.n 0) fun (y41:List UInt8)=>(y41++([74]:List UInt8))) else (bif (decide (a.kind=27)) then (B8 (N4 a.n 0) fun (y45:List UInt8)=>(y45++([75]:List UInt8))) else (bif (decide (a.kind=35)) then (B8 (N4 a.n 0) fun (y44:List UInt8)=>(y44++([103]:List UInt8))) else (bif (decide (a.kind=40)) then (B8 (N4 a.n 0) fun (y38:List UInt8)=>(y38++([32,113]:List UInt8))) else A0i a ((10 - 0)+1) 0)))))))
theorem A8p (a:Act) (hn:a.n≤9999):∀ (fu i:Nat),(A0i a fu i).length≤10010
 | 0,i=>Nat.zero_le _
 | fu+1,i=>by
  have ih:=A8p a hn fu (i+1)
  have h1:=K6 a.n 1 hn
  have h2:=A0z [71,100,73,90,64,80,88,76,77,98] i
  rw [A0i];unfold B8;simp only [Bool.cond_eq_ite]
  repeat' split
  all_goals first|omega|(simp<;>omega)
theorem B1d (a:Act) (hn:a.n≤9999∧a.m≤9999):(A4w a).length≤10010:=by
 have h0:=K6 a.n 0 hn.1
 have h2:=K6 a.m 1 hn.2
 have q1:=A0z [65,66,67,68] a.n
 have q2:=A0z [69,70] a.n
 have q3:=A0z [83,84] a.n
 have hl:=A8p a hn.1 ((10 - 0)+1) 0
 unfold A4w B8;simp only [Bool.cond_eq_ite]
 repeat' split
 all_goals first|omega|(simp<;>omega)
theorem C1t (a:Act) (ha:B4z a) (hk:a.n≤9999∧a.m≤9999) (R:List UInt8) (hR:A4w a=R):I5 Tryz.prog 144 [ag (A0 a)] [] (sv R):=by
 refine zco Tryz.func144 [(0,ag (A0 a))] fun X hX hr hD=>?_
 replace hR:=(A4w.eq_1 ..).symm.trans hR
 have hrp:=ha;unfold B4z at hrp
 refine sr 2 rfl (O5 2 0 [] (fun b1=>[(1,pt b1 0)]) (fun b1=>[bx b1 (A0 a) 26]) (fun b1=>(ie (A7 (sr 2 rfl (zrl 2 0 [0] [(6,iv a.kind)] (ie (B1 (sr 2 rfl (ip' 2 0 [(7,bv (decide (a.kind=20)))] (ie ?_)))))))))))
 refine zjd rfl hR ?_ ?_<;>clear hR<;>intro hR h2 h2p
 ·refine sd 8 rfl (by kernel_rfl) rfl ?_
  refine zdg 2 6 [0] [(10,iv a.m)] ?_
  have hQ:=C2 hR;clear hR;obtain ⟨y3,hy3,hR⟩:=hQ
  refine zcd (W1 a.m 1 (by omega) y3 hy3) fn0 ?_
  have:=K6 a.m 1 (by omega);try rw [hy3] at this
  refine zdg 2 3 [0] [(13,iv a.n)] ?_
  have hQ:=C2 hR;clear hR;obtain ⟨y2,hy2,hR⟩:=hQ
  refine zcd (W0 ([65,66,67,68]:List UInt8) a.n (by first|omega|(simp<;>omega)) (by first|omega|(simp<;>omega)) y2 hy2) fn0 ?_
  have:=Q8 ([65,66,67,68]:List UInt8) a.n (by omega);try rw [hy2] at this
  refine dd rfl (zst rfl rfl rfl) ?_
  have:=@List.length_append _ y3 y2
  refine dp' 1 0 [(2,sv (y3++y2))] ?_
  subst hR
  refine de (A5 ?_)
  exact C8 hr hD
 refine sr 2 rfl (ip' 2 0 [(16,bv (decide (a.kind=21)))] (ie ?_))
 refine zjd rfl hR ?_ ?_<;>clear hR<;>intro hR h3 h3p
 ·refine sd 8 rfl (by kernel_rfl) rfl ?_
  refine zdg 2 6 [0] [(19,iv a.m)] ?_
  have hQ:=C2 hR;clear hR;obtain ⟨y21,hy21,hR⟩:=hQ
  refine zcd (W1 a.m 1 (by omega) y21 hy21) fn0 ?_
  have:=K6 a.m 1 (by omega);try rw [hy21] at this
  refine zdg 2 3 [0] [(22,iv a.n)] ?_
  have hQ:=C2 hR;clear hR;obtain ⟨y14,hy14,hR⟩:=hQ
  refine zcd (W0 ([69,70]:List UInt8) a.n (by first|omega|(simp<;>omega)) (by first|omega|(simp<;>omega)) y14 hy14) fn0 ?_
  have:=Q8 ([69,70]:List UInt8) a.n (by omega);try rw [hy14] at this
  refine dd rfl (zst rfl rfl rfl) ?_
  have:=@List.length_append _ y21 y14
  refine dp' 1 0 [(2,sv (y21++y14))] ?_
  subst hR
  refine de (A5 ?_)
  exact C8 hr hD
 refine sr 2 rfl (ip' 2 0 [(25,bv (decide (a.kind=33)))] (ie ?_))
 refine zjd rfl hR ?_ ?_<;>clear hR<;>intro hR h4 h4p
 ·refine sd 8 rfl (by kernel_rfl) rfl ?_
  refine zdg 2 6 [0] [(28,iv a.m)] ?_
  have hQ:=C2 hR;clear hR;obtain ⟨y20,hy20,hR⟩:=hQ
  refine zcd (W1 a.m 1 (by omega) y20 hy20) fn0 ?_
  have:=K6 a.m 1 (by omega);try rw [hy20] at this
  refine zdg 2 3 [0] [(31,iv a.n)] ?_
  have hQ:=C2 hR;clear hR;obtain ⟨y19,hy19,hR⟩:=hQ
  refine zcd (W0 ([83,84]:List UInt8) a.n (by first|omega|(simp<;>omega)) (by first|omega|(simp<;>omega)) y19 hy19) fn0 ?_
  have:=Q8 ([83,84]:List UInt8) a.n (by omega);try rw [hy19] at this
  refine dd rfl (zst rfl rfl rfl) ?_
  have:=@List.length_append _ y20 y19
  refine dp' 1 0 [(2,sv (y20++y19))] ?_
  subst hR
  refine de (A5 ?_)
  exact C8 hr hD
 refine sr 2 rfl (ip' 2 0 [(34,bv (decide (a.kind=26)))] (ie ?_))
 refine zjd rfl hR ?_ ?_<;>clear hR<;>intro hR h5 h5p
 ·refine sr 5 rfl (zrl 2 3 [0] [(37,iv a.n)] ?_)
  have hQ:=C2 hR;clear hR;obtain ⟨y41,hy41,hR⟩:=hQ
  refine zca (W1 a.n 0 (by omega) y41 hy41) fn0 ?_
  have:=K6 a.n 0 (by omega);try rw [hy41] at this
  refine ix rfl (zst rfl rfl rfl) (ip' 1 0 [(2,sv (y41++([74]:List UInt8)))] ?_)
  subst hR
  refine ie (A5 ?_)
  exact C8 hr hD
 refine sr 2 rfl (ip' 2 0 [(40,bv (decide (a.kind=27)))] (ie ?_))
 refine zjd rfl hR ?_ ?_<;>clear hR<;>intro hR h6 h6p
 ·refine sr 5 rfl (zrl 2 3 [0] [(43,iv a.n)] ?_)
  have hQ:=C2 hR;clear hR;obtain ⟨y45,hy45,hR⟩:=hQ
  refine zca (W1 a.n 0 (by omega) y45 hy45) fn0 ?_
  have:=K6 a.n 0 (by omega);try rw [hy45] at this
  refine ix rfl (zst rfl rfl rfl) (ip' 1 0 [(2,sv (y45++([75]:List UInt8)))] ?_)
  subst hR
  refine ie (A5 ?_)
  exact C8 hr hD
 refine sr 2 rfl (ip' 2 0 [(46,bv (decide (a.kind=35)))] (ie ?_))
 refine zjd rfl hR ?_ ?_<;>clear hR<;>intro hR h7 h7p
 ·refine sr 5 rfl (zrl 2 3 [0] [(49,iv a.n)] ?_)
  have hQ:=C2 hR;clear hR;obtain ⟨y44,hy44,hR⟩:=hQ
  refine zca (W1 a.n 0 (by omega) y44 hy44) fn0 ?_
  have:=K6 a.n 0 (by omega);try rw [hy44] at this
  refine ix rfl (zst rfl rfl rfl) (ip' 1 0 [(2,sv (y44++([103]:List UInt8)))] ?_)
  subst hR
  refine ie (A5 ?_)
  exact C8 hr hD
 refine sr 2 rfl (ip' 2 0 [(52,bv (decide (a.kind=40)))] (ie ?_))
 refine zjd rfl hR ?_ ?_<;>clear hR<;>intro hR h8 h8p
 ·refine sr 5 rfl (zrl 2 3 [0] [(55,iv a.n)] ?_)
  have hQ:=C2 hR;clear hR;obtain ⟨y38,hy38,hR⟩:=hQ
  refine zca (W1 a.n 0 (by omega) y38 hy38) fn0 ?_
  have:=K6 a.n 0 (by omega);try rw [hy38] at this
  refine ix rfl (zst rfl rfl rfl) (ip' 1 0 [(2,sv (y38++([32,113]:List UInt8)))] ?_)
  subst hR
  refine ie (A5 ?_)
  exact C8 hr hD
 refine A4 (nx (sr 3 rfl (O5 3 0 [0] (fun b9=>[(3,pt b9 0)]) (fun b9=>[bx b9 [iv 22,iv 23,iv 24,iv 25,iv 28,iv 29,iv 30,iv 31,iv 32,iv 34] 206,bx b1 (A0 a) 26]) (fun b9=>(ie (A7 (sr 1 rfl (ip' 1 0 [(4,iv 0)] (ie (B1 (C5n (fun (fu:Nat) (i:Nat)=>((10 - i)<fu∧A0i a fu i=R,[(1,pt b1 0),(3,pt b9 0),(4,iv (i:Int))],[bx b9 [iv 22,iv 23,iv 24,iv 25,iv 28,iv 29,iv 30,iv 31,iv 32,iv 34] 206,bx b1 (A0 a) 26],[],fu)) ((10 - 0)+1) 0 ⟨(Nat.lt_succ_self _),hR⟩ (mk [true,true] rfl) fn0 ?_)))))))))))
 rintro fu i ⟨hm10,hR⟩
 obtain ⟨fu1,rfl⟩:∃ m,fu=m+1:=⟨fu - 1,by omega⟩
 replace hR:=(A0i.eq_2 ..).symm.trans hR
 refine A7 (sr 2 rfl (ip' 2 0 [(60,bv (decide ((i:Int)<10)))] ?_))
 refine ie ?_
 refine zjd rfl hR ?_ ?_<;>clear hR<;>intro hR h11 h11p
 ·refine A4 (nx (A7 (B1 (sd 6 rfl (by kernel_rfl) rfl ?_))))
  refine zdg 3 3 [1] [(64,iv a.kind),(65,iv (i:Int))] ?_
  refine dd rfl (U9 Tryz.underlying206 ty3 rfl rfl rfl i rfl (by omega)) ?_
  refine dd rfl (N5 (u:=iv (([22,23,24,25,28,29,30,31,32,34]:List Int).getD i 0)) (c:=D8) (xs:=([22,23,24,25,28,29,30,31,32,34]:List Int)) (j:=[]) (sz:=1) ty3 (fun _=>rfl) rfl rfl 0 rfl i 0 rfl (gd 0 (by simp only [List.length_cons,List.length_nil];omega)) rfl) (dp' 1 0 [(68,bv (decide (a.kind=(([22,23,24,25,28,29,30,31,32,34]:List Int).getD i 0))))] (de ?_))
  refine zjd rfl hR ?_ ?_<;>clear hR<;>intro hR h12 h12p
  ·refine sr 7 rfl (zrl 2 5 [1] [(70,iv a.n)] ?_)
   have hQ:=C2 hR;clear hR;obtain ⟨y35,hy35,hR⟩:=hQ
   refine zca (W1 a.n 1 (by omega) y35 hy35) fn0 ?_
   have:=K6 a.n 1 (by omega);try rw [hy35] at this
   refine ip' 1 3 [(72,iv (i:Int))] ?_
   have hQ:=C2 hR;clear hR;obtain ⟨y18,hy18,hR⟩:=hQ
   refine zca (W0 ([71,100,73,90,64,80,88,76,77,98]:List UInt8) (i:Int) (by first|omega|(simp<;>omega)) (by first|omega|(simp<;>omega)) y18 hy18) fn0 ?_
   have:=Q8 ([71,100,73,90,64,80,88,76,77,98]:List UInt8) (i:Int) (by omega);try rw [hy18] at this
   refine ix rfl (zst rfl rfl rfl) ?_
   have:=@List.length_append _ y35 y18
   refine ip' 1 0 [(2,sv (y35++y18))] ?_
   subst hR
   refine ie (A5 ?_)
   exact C8 hr hD
  refine A4 (nx (A2 3 rfl (ip' 1 2 [(61,iv (i:Int))] (ix rfl (B5 rfl rfl rfl rfl (by omega)) (ip' 1 0 [(4,iv ((i:Int)+1))] (A3 ?_))))))
  exact C6d (z1:=(fu1+1)) (z2:=i) fu1 (i+1) ⟨(by omega),hR⟩ (Nat.lt_succ_self _) (mk [true,true] rfl) fn0
 refine G6 (nx (sr 1 rfl (ip' 1 0 [(2,sv ([]:List UInt8))] ?_)))
 subst hR
 refine ie (A5 ?_)
 exact C8 hr hD
theorem D5l:∀ (k:Nat),((([([]:List UInt8),([62]:List UInt8)]:List (List UInt8)).getD k []).length)≤1:=fun k=>by match k with | 0=>exact Nat.zero_le _ | 1=>exact Nat.le_refl _ | k+2=>exact Nat.zero_le _
theorem D4r:∀ (k:Nat),((([([]:List UInt8),([63]:List UInt8)]:List (List UInt8)).getD k []).length)≤1:=fun k=>by match k with | 0=>exact Nat.zero_le _ | 1=>exact Nat.le_refl _ | k+2=>exact Nat.zero_le _
def A4f (a:Act):List UInt8 :=
 (bif (decide (a.kind=19)) then (B8 (A2c a.n a.m 1) fun (y22:List UInt8)=>(y22++([72]:List UInt8))) else (bif (decide (a.kind=38)) then (B8 (A2c a.n a.m 0) fun (y42:List UInt8)=>(y42++([114]:List UInt8))) else (bif (decide (a.kind=36)) then (B8 (P9 ([108,104]:List UInt8) a.m) fun (y2:List UInt8)=>((D9 (a.n.toNat+1) a.n)++y2)) else (bif (decide (a.kind=37)) then (B8 (P9 ([108,104]:List UInt8) a.m) fun (y14:List UInt8)=>((([63]:List UInt8)++(D9 (a.n.toNat+1) a.n))++y14)) else (bif (decide (a.kind=41)) then ((D9 (a.n.toNat+1) a.n)++([110]:List UInt8)) else (bif (decide (a.kind=42)) then ((([([]:List UInt8),([62]:List UInt8)]:List (List UInt8)).getD ((a.n).toNat) [])++([99]:List UInt8)) else (bif (decide (a.kind=43)) then (((([([]:List UInt8),([63]:List UInt8)]:List (List UInt8)).getD ((a.m).toNat) [])++(D9 (a.n.toNat+1) a.n))++([36,112]:List UInt8)) else (B8 (A4w a) fun (y40:List UInt8)=>y40))))))))
theorem A5g (a:Act) (hn:a.n≤9999∧a.m≤9999):(A4f a).length≤30000:=by
 have h0:=M6 (a.n.toNat+1) a.n
 have h1:=A7p a.n a.m 1 hn
 have h2:=A7p a.n a.m 0 hn
 have h3:=B1d a hn
 have q1:=A0z [108,104] a.m
 have g1:=D5l a.n.toNat
 have g2:=D4r a.m.toNat
 unfold A4f B8;simp only [Bool.cond_eq_ite]
 repeat' split
 all_goals first|omega|(simp only [List.length_append,List.length_cons,List.length_nil]<;>omega)
theorem B2b (a:Act) (ha:B4z a) (hk:a.n≤9999∧a.m≤9999) (R:List UInt8) (hR:A4f a=R):I5 Tryz.prog 97 [ag (A0 a)] [] (sv R):=by
 refine zco Tryz.func97 [(0,ag (A0 a))] fun X hX hr hD=>?_
 replace hR:=(A4f.eq_1 ..).symm.trans hR
 have hrp:=ha;unfold B4z at hrp
 have g1:=D5l a.n.toNat
 have g2:=D4r a.m.toNat
 refine sr 2 rfl (O5 2 0 [] (fun b1=>[(1,pt b1 0)]) (fun b1=>[bx b1 (A0 a) 26]) (fun b1=>(ie (sr 4 rfl (zrl 2 2 [0] [(5,iv a.n)] (zca (A6s (a.n.toNat+1) a.n (by first|omega|(simp<;>omega)) (Nat.lt_succ_self _) _ rfl) fn0 ?_))))))
 have:=M6 (a.n.toNat+1) a.n
 refine ip' 1 0 [(3,sv (D9 (a.n.toNat+1) a.n))] (ie (A7 (sr 2 rfl (zrl 2 0 [0] [(8,iv a.kind)] (ie (B1 (sr 2 rfl (ip' 2 0 [(9,bv (decide (a.kind=19)))] (ie ?_)))))))))
 refine zjd rfl hR ?_ ?_<;>clear hR<;>intro hR h2 h2p
 ·refine sr 7 rfl (zrl 4 3 [0,0] [(12,iv a.n),(14,iv a.m)] ?_)
  have hQ:=C2 hR;clear hR;obtain ⟨y22,hy22,hR⟩:=hQ
  refine zca (C0k a.n a.m 1 (by omega) y22 hy22) fn0 ?_
  have:=A7p a.n a.m 1 (by omega);try rw [hy22] at this
  refine ix rfl (zst rfl rfl rfl) (ip' 1 0 [(2,sv (y22++([72]:List UInt8)))] ?_)
  subst hR
  refine ie (A5 ?_)
  exact C8 hr hD
 refine sr 2 rfl (ip' 2 0 [(17,bv (decide (a.kind=38)))] (ie ?_))
 refine zjd rfl hR ?_ ?_<;>clear hR<;>intro hR h3 h3p
 ·refine sr 7 rfl (zrl 4 3 [0,0] [(20,iv a.n),(22,iv a.m)] ?_)
  have hQ:=C2 hR;clear hR;obtain ⟨y42,hy42,hR⟩:=hQ
  refine zca (C0k a.n a.m 0 (by omega) y42 hy42) fn0 ?_
  have:=A7p a.n a.m 0 (by omega);try rw [hy42] at this
  refine ix rfl (zst rfl rfl rfl) (ip' 1 0 [(2,sv (y42++([114]:List UInt8)))] ?_)
  subst hR
  refine ie (A5 ?_)
  exact C8 hr hD
 refine sr 2 rfl (ip' 2 0 [(25,bv (decide (a.kind=36)))] (ie ?_))
 refine zjd rfl hR ?_ ?_<;>clear hR<;>intro hR h4 h4p
 ·refine sr 6 rfl (zrl 3 3 [0] [(27,sv (D9 (a.n.toNat+1) a.n)),(29,iv a.m)] ?_)
  have hQ:=C2 hR;clear hR;obtain ⟨y2,hy2,hR⟩:=hQ
  refine zca (W0 ([108,104]:List UInt8) a.m (by first|omega|(simp<;>omega)) (by first|omega|(simp<;>omega)) y2 hy2) fn0 ?_
  have:=Q8 ([108,104]:List UInt8) a.m (by omega);try rw [hy2] at this
  refine ix rfl (zst rfl rfl rfl) ?_
  have:=@List.length_append _ (D9 (a.n.toNat+1) a.n) y2
  refine ip' 1 0 [(2,sv ((D9 (a.n.toNat+1) a.n)++y2))] ?_
  subst hR
  refine ie (A5 ?_)
  exact C8 hr hD
 refine sr 2 rfl (ip' 2 0 [(32,bv (decide (a.kind=37)))] (ie ?_))
 refine zjd rfl hR ?_ ?_<;>clear hR<;>intro hR h5 h5p
 ·refine sr 7 rfl (ip' 1 6 [(34,sv (D9 (a.n.toNat+1) a.n))] (ix rfl (zst rfl rfl rfl) (zrl 2 3 [0] [(37,iv a.m)] ?_)))
  have hQ:=C2 hR;clear hR;obtain ⟨y14,hy14,hR⟩:=hQ
  refine zca (W0 ([108,104]:List UInt8) a.m (by first|omega|(simp<;>omega)) (by first|omega|(simp<;>omega)) y14 hy14) fn0 ?_
  have:=Q8 ([108,104]:List UInt8) a.m (by omega);try rw [hy14] at this
  refine ix rfl (zst rfl rfl rfl) (ip' 1 0 [(2,sv ((([63]:List UInt8)++(D9 (a.n.toNat+1) a.n))++y14))] ?_)
  subst hR
  refine ie (A5 ?_)
  exact C8 hr hD
 refine sr 2 rfl (ip' 2 0 [(40,bv (decide (a.kind=41)))] (ie ?_))
 refine zjd rfl hR ?_ ?_<;>clear hR<;>intro hR h6 h6p
 ·refine sr 3 rfl (ip' 1 2 [(42,sv (D9 (a.n.toNat+1) a.n))] (ix rfl (zst rfl rfl rfl) (ip' 1 0 [(2,sv ((D9 (a.n.toNat+1) a.n)++([110]:List UInt8)))] ?_)))
  subst hR
  refine ie (A5 ?_)
  exact C8 hr hD
 refine sr 2 rfl (ip' 2 0 [(44,bv (decide (a.kind=42)))] (ie ?_))
 refine zjd rfl hR ?_ ?_<;>clear hR<;>intro hR h7 h7p
 ·refine sr 6 rfl (zrl 3 3 [0] [(46,ag [sv ([]:List UInt8),sv ([62]:List UInt8)]),(48,iv a.n)] (ix rfl (B0c (v:=sv (([([]:List UInt8),([62]:List UInt8)]:List (List UInt8)).getD ((a.n).toNat) [])) (c:=D6m) (xs:=([([]:List UInt8),([62]:List UInt8)]:List (List UInt8))) (d:=[]) Tryz.underlying220 ty9 (fun _=>rfl) rfl rfl rfl rfl ((a.n).toNat) (by omega) rfl (by omega) rfl rfl) (ix rfl (zst rfl rfl rfl) (ip' 1 0 [(2,sv ((([([]:List UInt8),([62]:List UInt8)]:List (List UInt8)).getD ((a.n).toNat) [])++([99]:List UInt8)))] ?_))))
  subst hR
  refine ie (A5 ?_)
  exact C8 hr hD
 refine sr 2 rfl (ip' 2 0 [(51,bv (decide (a.kind=43)))] (ie ?_))
 refine zjd rfl hR ?_ ?_<;>clear hR<;>intro hR h8 h8p
 ·refine sr 8 rfl (zrl 3 5 [0] [(53,ag [sv ([]:List UInt8),sv ([63]:List UInt8)]),(55,iv a.m)] (ix rfl (B0c (v:=sv (([([]:List UInt8),([63]:List UInt8)]:List (List UInt8)).getD ((a.m).toNat) [])) (c:=D6m) (xs:=([([]:List UInt8),([63]:List UInt8)]:List (List UInt8))) (d:=[]) Tryz.underlying220 ty9 (fun _=>rfl) rfl rfl rfl rfl ((a.m).toNat) (by omega) rfl (by omega) rfl rfl) (ip' 1 3 [(57,sv (D9 (a.n.toNat+1) a.n))] (ix rfl (zst rfl rfl rfl) (ix rfl (zst rfl rfl rfl) (ip' 1 0 [(2,sv (((([([]:List UInt8),([63]:List UInt8)]:List (List UInt8)).getD ((a.m).toNat) [])++(D9 (a.n.toNat+1) a.n))++([36,112]:List UInt8)))] ?_))))))
  subst hR
  refine ie (A5 ?_)
  exact C8 hr hD
 refine A4 (nx (sr 3 rfl (zrl 1 2 [0] [(60,ag (A0 a))] ?_)))
 have hQ:=C2 hR;clear hR;obtain ⟨y40,hy40,hR⟩:=hQ
 refine zca (C1t a (by first|assumption|exact G7 (by assumption)|exact G7 (h10 (by omega)).1) (by omega) y40 hy40) fn0 ?_
 have:=B1d a (by omega);try rw [hy40] at this
 refine ip' 1 0 [(2,sv y40)] ?_
 subst hR
 refine ie (A5 ?_)
 exact C8 hr hD
def Y9 (a:Act):List UInt8 :=
 (bif (decide (a.kind=1)) then (B8 (A5u a.n) fun (y16:List UInt8)=>y16) else (bif (decide (a.kind=44)) then (bif (decide (a.kind=44)) then (B8 (I7 a) fun (y7:List UInt8×Int)=>(((([27,93]:List UInt8)++y7.1)++([27]:List UInt8))++([92]:List UInt8))) else (bif (decide (a.kind=39)) then (B8 (X9 ([a]:List Act)) fun (y8:List UInt8)=>y8) else (B8 (A4c a) fun (y10:List UInt8)=>(bif (!(decide (y10=([]:List UInt8)))) then y10 else (B8 (A4f a) fun (y15:List UInt8)=>(([27,91]:List UInt8)++y15)))))) else (bif (decide (a.kind=45)) then (bif (decide (a.kind=45)) then (B8 (I7 a) fun (y30:List UInt8×Int)=>(((([27,93]:List UInt8)++y30.1)++([27]:List UInt8))++([92]:List UInt8))) else (bif (decide (a.kind=39)) then (B8 (X9 ([a]:List Act)) fun (y36:List UInt8)=>y36) else (B8 (A4c a) fun (y28:List UInt8)=>(bif (!(decide (y28=([]:List UInt8)))) then y28 else (B8 (A4f a) fun (y46:List UInt8)=>(([27,91]:List UInt8)++y46)))))) else (bif (decide (a.kind=46)) then (B8 (I7 a) fun (y33:List UInt8×Int)=>(((([27,93]:List UInt8)++y33.1)++([27]:List UInt8))++([92]:List UInt8))) else (bif (decide (a.kind=39)) then (B8 (X9 ([a]:List Act)) fun (y37:List UInt8)=>y37) else (B8 (A4c a) fun (y27:List UInt8)=>(bif (!(decide (y27=([]:List UInt8)))) then y27 else (B8 (A4f a) fun (y43:List UInt8)=>(([27,91]:List UInt8)++y43)))))))))
theorem C5j (a:Act) (h:B4z a):(Y9 a).length≤a.text.length+1000000:=by
 have p:=B2g a.n
 have q:=A3f a
 have r:=A4g [a]
 have s:=A5l a
 unfold B4z at h
 by_cases hk:a.kind≠1∧a.kind≠39∧a.kind≠44∧a.kind≠45∧a.kind≠46
 ·have o:=A5g a (by omega)
  unfold Y9 B8;simp only [Bool.cond_eq_ite]
  repeat' split
  all_goals first|omega|(simp<;>omega)
 ·have hk':a.kind=1∨a.kind=39∨a.kind=44∨a.kind=45∨a.kind=46:=by omega
  unfold Y9 B8
  rcases hk' with h | h | h | h | h<;>simp only [h,Int.reduceEq,decide_true,decide_false,cond_true,cond_false]
  all_goals first|omega|(simp<;>omega)
theorem D0a (a:Act) (ha:B4z a) (hs:a.text.length≤100000000) (R:List UInt8) (hR:Y9 a=R):I5 Tryz.prog 43 [ag (A0 a)] [] (sv R):=by
 refine zco Tryz.func43 [(0,ag (A0 a))] fun X hX hr hD=>?_
 replace hR:=(Y9.eq_1 ..).symm.trans hR
 have hrp:=ha;unfold B4z at hrp
 refine sr 2 rfl (O5 2 0 [] (fun b1=>[(1,pt b1 0)]) (fun b1=>[bx b1 (A0 a) 26]) (fun b1=>(ie (A7 (sr 2 rfl (zrl 2 0 [0] [(7,iv a.kind)] (ie (B1 (sr 2 rfl (ip' 2 0 [(8,bv (decide (a.kind=1)))] (ie ?_)))))))))))
 refine zjd rfl hR ?_ ?_<;>clear hR<;>intro hR h2 h2p
 ·refine sr 4 rfl (zrl 2 2 [0] [(11,iv a.n)] ?_)
  have hQ:=C2 hR;clear hR;obtain ⟨y16,hy16,hR⟩:=hQ
  refine zca (C0o a.n y16 hy16) fn0 ?_
  have:=B2g a.n;try rw [hy16] at this
  refine ip' 1 0 [(2,sv y16)] ?_
  subst hR
  refine ie (A5 ?_)
  exact C8 hr hD
 refine A7 (sr 2 rfl (ip' 2 0 [(13,bv (decide (a.kind=44)))] ?_))
 refine ie ?_
 refine zjd rfl hR ?_ ?_<;>clear hR<;>intro hR h3 h3p
 ·refine A4 (nx ?_)
  refine zjd rfl hR ?_ ?_<;>clear hR<;>intro hR h4 h4p
  ·refine sr 7 rfl (zrl 1 6 [0] [(18,ag (A0 a))] ?_)
   have hQ:=C2 hR;clear hR;obtain ⟨y7,hy7,hR⟩:=hQ
   refine zca (A7q a y7 hy7) fn0 ?_
   have:=A3f a;try rw [hy7] at this
   refine ip' 5 0 [(3,sv y7.1)] (ie (sr 5 rfl (ip' 1 4 [(22,sv y7.1)] (ix rfl (zst rfl rfl rfl) (ix rfl (zst rfl rfl rfl) (ix rfl (zst rfl rfl rfl) (ip' 1 0 [(2,sv (((([27,93]:List UInt8)++y7.1)++([27]:List UInt8))++([92]:List UInt8)))] ?_)))))))
   subst hR
   refine ie (A5 ?_)
   exact C8 hr hD
  refine sr 2 rfl (ip' 2 0 [(26,bv (decide (a.kind=39)))] (ie ?_))
  refine zjd rfl hR ?_ ?_<;>clear hR<;>intro hR h5 h5p
  ·refine sr 4 rfl (zrl 1 3 [0] [(28,ag (A0 a))] (it rfl (B4 (c:=A0) (xs:=([a]:List Act)) A0d rfl rfl rfl (by kernel_rfl)) fun b6=>?_))
   have:([a]:List Act).length=1:=rfl
   have hQ:=C2 hR;clear hR;obtain ⟨y8,hy8,hR⟩:=hQ
   refine zca (A9k ([a]:List Act) (some ⟨b6,0,none⟩) 1 (by first|omega|(simp<;>omega)|(dsimp only;omega)|decide) (by first|omega|(simp<;>omega)|(dsimp only;omega)|decide) (by first|omega|(simp<;>omega)) y8 hy8) A1.refl ?_
   have:=A4g ([a]:List Act);try rw [hy8] at this
   refine ip' 1 0 [(2,sv y8)] ?_
   subst hR
   refine ie (A5 ?_)
   exact C8 hr hD
  refine A4 (nx (sr 3 rfl (zrl 1 2 [0] [(31,ag (A0 a))] ?_)))
  have hQ:=C2 hR;clear hR;obtain ⟨y10,hy10,hR⟩:=hQ
  refine zca (B2r a (by first|assumption|exact G7 (by assumption)|exact G7 (h10 (by omega)).1) y10 hy10) fn0 ?_
  have:=A5l a;try rw [hy10] at this
  refine ip' 1 0 [(5,sv y10)] (ie (A7 (sr 2 rfl (ip' 1 1 [(33,sv y10)] (ix rfl (V0 rfl rfl rfl) (ie ?_))))))
  refine zjn rfl hR ?_ ?_<;>clear hR<;>intro hR h7 h7p
  ·refine sr 2 rfl (ip' 2 0 [(2,sv y10)] ?_)
   subst hR
   refine ie (A5 ?_)
   exact C8 hr hD
  refine A4 (nx (sr 4 rfl (zrl 1 3 [0] [(36,ag (A0 a))] ?_)))
  have hQ:=C2 hR;clear hR;obtain ⟨y15,hy15,hR⟩:=hQ
  refine zca (B2b a (by first|assumption|exact G7 (by assumption)|exact G7 (h10 (by omega)).1) (by omega) y15 hy15) fn0 ?_
  have:=A5g a (by omega);try rw [hy15] at this
  refine ix rfl (zst rfl rfl rfl) (ip' 1 0 [(2,sv (([27,91]:List UInt8)++y15))] ?_)
  subst hR
  refine ie (A5 ?_)
  exact C8 hr hD
 refine sr 2 rfl (ip' 2 0 [(13,bv (decide (a.kind=45)))] (ie ?_))
 refine zjd rfl hR ?_ ?_<;>clear hR<;>intro hR h8 h8p
 ·refine A4 (nx ?_)
  refine zjd rfl hR ?_ ?_<;>clear hR<;>intro hR h9 h9p
  ·refine sr 7 rfl (zrl 1 6 [0] [(18,ag (A0 a))] ?_)
   have hQ:=C2 hR;clear hR;obtain ⟨y30,hy30,hR⟩:=hQ
   refine zca (A7q a y30 hy30) fn0 ?_
   have:=A3f a;try rw [hy30] at this
   refine ip' 5 0 [(3,sv y30.1)] (ie (sr 5 rfl (ip' 1 4 [(22,sv y30.1)] (ix rfl (zst rfl rfl rfl) (ix rfl (zst rfl rfl rfl) (ix rfl (zst rfl rfl rfl) (ip' 1 0 [(2,sv (((([27,93]:List UInt8)++y30.1)++([27]:List UInt8))++([92]:List UInt8)))] ?_)))))))
   subst hR
   refine ie (A5 ?_)
   exact C8 hr hD
  refine sr 2 rfl (ip' 2 0 [(26,bv (decide (a.kind=39)))] (ie ?_))
  refine zjd rfl hR ?_ ?_<;>clear hR<;>intro hR h10 h10p
  ·refine sr 4 rfl (zrl 1 3 [0] [(28,ag (A0 a))] (it rfl (B4 (c:=A0) (xs:=([a]:List Act)) A0d rfl rfl rfl (by kernel_rfl)) fun b11=>?_))
   have:([a]:List Act).length=1:=rfl
   have hQ:=C2 hR;clear hR;obtain ⟨y36,hy36,hR⟩:=hQ
   refine zca (A9k ([a]:List Act) (some ⟨b11,0,none⟩) 1 (by first|omega|(simp<;>omega)|(dsimp only;omega)|decide) (by first|omega|(simp<;>omega)|(dsimp only;omega)|decide) (by first|omega|(simp<;>omega)) y36 hy36) A1.refl ?_
   have:=A4g ([a]:List Act);try rw [hy36] at this
   refine ip' 1 0 [(2,sv y36)] ?_
   subst hR
   refine ie (A5 ?_)
   exact C8 hr hD
  refine A4 (nx (sr 3 rfl (zrl 1 2 [0] [(31,ag (A0 a))] ?_)))
  have hQ:=C2 hR;clear hR;obtain ⟨y28,hy28,hR⟩:=hQ
  refine zca (B2r a (by first|assumption|exact G7 (by assumption)|exact G7 (h10 (by omega)).1) y28 hy28) fn0 ?_
  have:=A5l a;try rw [hy28] at this
  refine ip' 1 0 [(5,sv y28)] (ie (A7 (sr 2 rfl (ip' 1 1 [(33,sv y28)] (ix rfl (V0 rfl rfl rfl) (ie ?_))))))
  refine zjn rfl hR ?_ ?_<;>clear hR<;>intro hR h12 h12p
  ·refine sr 2 rfl (ip' 2 0 [(2,sv y28)] ?_)
   subst hR
   refine ie (A5 ?_)
   exact C8 hr hD
  refine A4 (nx (sr 4 rfl (zrl 1 3 [0] [(36,ag (A0 a))] ?_)))
  have hQ:=C2 hR;clear hR;obtain ⟨y46,hy46,hR⟩:=hQ
  refine zca (B2b a (by first|assumption|exact G7 (by assumption)|exact G7 (h10 (by omega)).1) (by omega) y46 hy46) fn0 ?_
  have:=A5g a (by omega);try rw [hy46] at this
  refine ix rfl (zst rfl rfl rfl) (ip' 1 0 [(2,sv (([27,91]:List UInt8)++y46))] ?_)
  subst hR
  refine ie (A5 ?_)
  exact C8 hr hD
 refine A2 2 rfl (ip' 2 0 [(13,bv (decide (a.kind=46)))] (A3 (nx ?_)))
 refine zjd rfl hR ?_ ?_<;>clear hR<;>intro hR h13 h13p
 ·refine sr 7 rfl (zrl 1 6 [0] [(18,ag (A0 a))] ?_)
  have hQ:=C2 hR;clear hR;obtain ⟨y33,hy33,hR⟩:=hQ
  refine zca (A7q a y33 hy33) fn0 ?_
  have:=A3f a;try rw [hy33] at this
  refine ip' 5 0 [(3,sv y33.1)] (ie (sr 5 rfl (ip' 1 4 [(22,sv y33.1)] (ix rfl (zst rfl rfl rfl) (ix rfl (zst rfl rfl rfl) (ix rfl (zst rfl rfl rfl) (ip' 1 0 [(2,sv (((([27,93]:List UInt8)++y33.1)++([27]:List UInt8))++([92]:List UInt8)))] ?_)))))))
  subst hR
  refine ie (A5 ?_)
  exact C8 hr hD
 refine sr 2 rfl (ip' 2 0 [(26,bv (decide (a.kind=39)))] (ie ?_))
 refine zjd rfl hR ?_ ?_<;>clear hR<;>intro hR h14 h14p
 ·refine sr 4 rfl (zrl 1 3 [0] [(28,ag (A0 a))] (it rfl (B4 (c:=A0) (xs:=([a]:List Act)) A0d rfl rfl rfl (by kernel_rfl)) fun b15=>?_))
  have:([a]:List Act).length=1:=rfl
  have hQ:=C2 hR;clear hR;obtain ⟨y37,hy37,hR⟩:=hQ
  refine zca (A9k ([a]:List Act) (some ⟨b15,0,none⟩) 1 (by first|omega|(simp<;>omega)|(dsimp only;omega)|decide) (by first|omega|(simp<;>omega)|(dsimp only;omega)|decide) (by first|omega|(simp<;>omega)) y37 hy37) A1.refl ?_
  have:=A4g ([a]:List Act);try rw [hy37] at this
  refine ip' 1 0 [(2,sv y37)] ?_
  subst hR
  refine ie (A5 ?_)
  exact C8 hr hD
 refine A4 (nx (sr 3 rfl (zrl 1 2 [0] [(31,ag (A0 a))] ?_)))
 have hQ:=C2 hR;clear hR;obtain ⟨y27,hy27,hR⟩:=hQ
 refine zca (B2r a (by first|assumption|exact G7 (by assumption)|exact G7 (h10 (by omega)).1) y27 hy27) fn0 ?_
 have:=A5l a;try rw [hy27] at this
 refine ip' 1 0 [(5,sv y27)] (ie (A7 (sr 2 rfl (ip' 1 1 [(33,sv y27)] (ix rfl (V0 rfl rfl rfl) (ie ?_))))))
 refine zjn rfl hR ?_ ?_<;>clear hR<;>intro hR h16 h16p
 ·refine sr 2 rfl (ip' 2 0 [(2,sv y27)] ?_)
  subst hR
  refine ie (A5 ?_)
  exact C8 hr hD
 refine A4 (nx (sr 4 rfl (zrl 1 3 [0] [(36,ag (A0 a))] ?_)))
 have hQ:=C2 hR;clear hR;obtain ⟨y43,hy43,hR⟩:=hQ
 refine zca (B2b a (by first|assumption|exact G7 (by assumption)|exact G7 (h10 (by omega)).1) (by omega) y43 hy43) fn0 ?_
 have:=A5g a (by omega);try rw [hy43] at this
 refine ix rfl (zst rfl rfl rfl) (ip' 1 0 [(2,sv (([27,91]:List UInt8)++y43))] ?_)
 subst hR
 refine ie (A5 ?_)
 exact C8 hr hD
def A4p (l1:List Act) (out:List UInt8) (ag_ref11_All_l4:List Act→List UInt8→(List UInt8×Int)):Nat→Nat→(List UInt8×Int)
 | 0,_=>([],0)
 | fu3+1,n=>(bif (((decide ((n:Int)<(l1.length:Int)))&&(decide ((n:Int)<16)))&&(decide ((l1.getD n Act.zero).kind=39))) then A4p l1 out ag_ref11_All_l4 fu3 (n+1) else (bif (decide ((0:Int)<(n:Int))) then (B8 (X9 (l1.take n)) fun (y8:List UInt8)=>ag_ref11_All_l4 (l1.drop n) (out++y8)) else (B8 (Y9 (l1.getD 0 Act.zero)) fun (y25:List UInt8)=>ag_ref11_All_l4 (l1.drop 1) (out++y25))))
def Z9:Nat→List Act→List UInt8→(List UInt8×Int)
 | 0,_,_=>([],0)
 | fu1+1,l1,out=>(bif (decide ((0:Int)<(l1.length:Int))) then A4p l1 out (Z9 fu1) ((l1.length - 0)+1) 0 else (out,0))
def Z8 (l:List Act):List Act→Nat→(List UInt8×Int)
 | [],i=>Z9 (l.length+1) l ([]:List UInt8)
 | hd_l0::tl_l0,i=>(bif (!(C9 hd_l0)) then (([]:List UInt8),200) else Z8 l tl_l0 (i+1))
def A3i (l:List Act):List UInt8×Int :=
 (bif (decide ((131072:Int)<(l.length:Int))) then (([]:List UInt8),3) else Z8 l l 0)
theorem B1a (l:List Act) (lq:Option Addr) (lk:Nat) (hll:l.length≤9223372036854775807) (hcl:l.length≤lk) (hkind:∀ a ∈ l,a.text.length≤100000000) (R:List UInt8×Int) (hR:A3i l=R):Con Tryz.prog 16 [.slice lq l.length lk] [] [sl A0 lq l] ({r:VR // VOk 1 R.1.length r}) (fun x=>.tuple #[.slice (va x.1.q) R.1.length x.1.k,iv R.2]) (fun x=>((vo cU8 5 x.1 R.1)++([]))) (fun x=>[]):=by
 refine zco Tryz.func16 [(0,.slice lq l.length lk)] fun X hX hr hD=>?_
 replace hR:=(A3i.eq_1 ..).symm.trans hR
 refine sr 2 rfl (ip' 2 0 [] (ie (A7 (sr 3 rfl (ip' 3 0 [(9,bv (decide ((131072:Int)<(l.length:Int))))] (ie ?_))))))
 refine zjd rfl hR ?_ ?_<;>clear hR<;>intro hR h1 h1p
 ·refine sr 2 rfl (ip' 2 0 [(2,.slice none 0 0),(3,iv 3)] ?_)
  subst hR
  refine ie (A5 ?_)
  exact zer hr hD (A6b rfl (B7 rfl) (B7 rfl)) ⟨VR.nil,VOk.nil⟩ (mc [vo cU8 5 VR.nil ([]:List UInt8)] [true] rfl (by first|rfl|(simp only [List.length_set]<;>rfl))) fn0
 refine A4 (nx (A7 (sr 1 rfl (ip' 1 0 [(4,iv 0)] (ie (B1 (C4k (fun (i:Nat)=>(i≤l.length∧Z8 l (l.drop i) i=R∧(∀ j<i,C9 (l.getD j Act.zero)=true),[(0,.slice lq l.length lk),(4,iv (i:Int))],[],[sl A0 lq l],l.length - i)) 0 ⟨(by omega),hR,(by intro i hi;omega)⟩ (mk [] rfl) A1.refl ?_)))))))
 rintro i ⟨hm2,hR,hchk⟩
 refine A7 (sr 4 rfl (ip' 4 0 [(13,bv (decide ((i:Int)<(l.length:Int))))] ?_))
 refine ie (A1f rfl (fun h3=>?_) (fun h3=>?_))
 ·have h3p:(i:Int)<(l.length:Int):=by simpa using h3
  rw [A2t Act.zero (show i<l.length by omega)] at hR;replace hR:=(Z8.eq_2 ..).symm.trans hR
  refine A4 (nx (A7 (B1 (sr 6 rfl (ip' 2 4 [(16,.slice lq l.length lk),(17,iv (i:Int))] (K9 0 rfl (by omega) fun a4 hq5=>(ix rfl (G3 A0d rfl rfl hq5 rfl i rfl (by omega)) (ix rfl (Q3 (us:=A0 (l.getD i Act.zero)) A3a rfl rfl (I4 (c:=A0) (sz:=6) hq5 (fun _=>rfl) 0 rfl (gd Act.zero (by omega))) rfl) (zca (A5b (l.getD i Act.zero) _ rfl) fn0 (ip' 1 0 [(21,bv (!(C9 (l.getD i Act.zero))))] (ie ?_)))))))))))
  refine zjb rfl hR ?_ ?_<;>clear hR<;>intro hR h6
  ·refine sr 2 rfl (ip' 2 0 [(2,.slice none 0 0),(3,iv 200)] ?_)
   subst hR
   refine ie (A5 ?_)
   exact zer hr hD (A6b rfl (B7 rfl) (B7 rfl)) ⟨VR.nil,VOk.nil⟩ (mc [vo cU8 5 VR.nil ([]:List UInt8)] [true] rfl (by first|rfl|(simp only [List.length_set]<;>rfl))) fn0
  have hra:C9 (l.getD i Act.zero)=true:=by simpa using h6
  refine A4 (nx (A2 3 rfl (ip' 1 2 [(14,iv (i:Int))] (ix rfl (B5 rfl rfl rfl rfl (by omega)) (ip' 1 0 [(4,iv ((i:Int)+1))] (A3 ?_))))))
  exact C4w (z1:=i) (i+1) ⟨(by omega),hR,(by intro j hj;rcases Nat.lt_succ_iff_lt_or_eq.1 hj with hj | rfl;exact hchk j hj;exact hra)⟩ (by (try dsimp only);omega) (mk [] rfl) A1.refl
 have h3p:¬ ((i:Int)<(l.length:Int)):=by simpa using h3
 rw [A3e h3p] at hR;replace hR:=(Z8.eq_1 ..).symm.trans hR
 refine G6 (nx (sr 1 rfl (ip' 1 0 [(5,.slice none 0 0)] ?_)))
 refine ie (A7 (B1 ?_))
 refine E4q (fun (fu:Nat) (l1:List Act) (lq1:Option Addr) (lk1:Nat) (out:List UInt8) (outr:VR)=>(l1.length<fu∧Z9 fu l1 out=R∧l1.length≤lk1∧l1.length≤9223372036854775807∧VOk 1 out.length outr∧(∀ a ∈ l1,C9 a=true∧a.text.length≤100000000)∧out.length+200000000 * l1.length≤200000000 * l.length,[(0,.slice lq1 l1.length lk1),(5,.slice (va outr.q) out.length outr.k)],((vo cU8 5 outr out)++([])),[sl A0 lq l,sl A0 lq1 l1],fu)) (l.length+1) l lq lk ([]:List UInt8) VR.nil ⟨(Nat.lt_succ_self _),hR,(by first|omega|(simp<;>omega)|(dsimp only;omega)|decide),(by first|omega|(simp<;>omega)|(dsimp only;omega)|decide),VOk.nil,(by exact fun a ha=>by obtain ⟨j,hj,e⟩:=List.getElem_of_mem ha;refine ⟨?_,hkind a ha⟩;have q:=hchk j (by omega);rw [gdE hj,e] at q;exact q),(by (simp<;>omega))⟩ (mc [vo cU8 5 VR.nil ([]:List UInt8)] [true] rfl (by first|rfl|(simp only [List.length_set]<;>rfl))) (A1.pick [0,0] rfl) ?_
 rintro fu l1 lq1 lk1 out outr ⟨hm7,hR,hcl1,hll1,hokoutr,hp1,hb⟩
 have:=VOk.le hokoutr
 obtain ⟨fu1,rfl⟩:∃ m,fu=m+1:=⟨fu - 1,by omega⟩
 replace hR:=(Z9.eq_2 ..).symm.trans hR
 have h10:0<l1.length→C9 (l1.getD 0 Act.zero)=true∧(l1.getD 0 Act.zero).text.length≤100000000:=fun h0=>by rw [gdE h0];exact hp1 _ (List.getElem_mem h0)
 refine A7 (sr 3 rfl (ip' 3 0 [(24,bv (decide ((0:Int)<(l1.length:Int))))] ?_))
 refine ie ?_
 refine zjd rfl hR ?_ ?_<;>clear hR<;>intro hR h8 h8p
 ·refine A4 (nx (B1 (sr 1 rfl (ip' 1 0 [(6,iv 0)] (ie (A7 (B1 ?_)))))))
  refine C5n (fun (fu2:Nat) (n:Nat)=>((l1.length - n)<fu2∧A4p l1 out (Z9 fu1) fu2 n=R∧n≤16∧n≤l1.length,[(0,.slice lq1 l1.length lk1),(5,.slice (va outr.q) out.length outr.k),(6,iv (n:Int))],((vo cU8 5 outr out)++([])),[sl A0 lq l,sl A0 lq1 l1],fu2)) ((l1.length - 0)+1) 0 ⟨(Nat.lt_succ_self _),hR,(by omega)⟩ (mc [vo cU8 5 outr out] [true] rfl (by first|rfl|(simp only [List.length_set]<;>rfl))) A1.refl ?_
  rintro fu2 n ⟨hm9,hR,hn⟩
  obtain ⟨fu3,rfl⟩:∃ m,fu2=m+1:=⟨fu2 - 1,by omega⟩
  replace hR:=(A4p.eq_2 ..).symm.trans hR
  refine A7 (sr 16 rfl (ip' 5 11 [(29,bv (decide ((n:Int)<(l1.length:Int))))] ?_))
  refine zid 3 8 29 32 (decide ((n:Int)<16)) (fun g10 g10p=>?_) ?_
  ·refine ip' 3 0 [(32,bv (decide ((n:Int)<16)))] ?_
   exact A3 (K5 2 29 32 g10 A1.refl (mc [vo cU8 5 outr out] [true] rfl (by first|rfl|(simp only [List.length_set]<;>rfl))) rfl rfl rfl rfl rfl)
  refine ip' 1 7 [(33,bv ((decide ((n:Int)<(l1.length:Int)))&&(decide ((n:Int)<16))))] ?_
  refine zia 7 0 33 40 (decide ((l1.getD n Act.zero).kind=39)) (fun g11=>?_) ?_
  ·have g11p:((n:Int)<(l1.length:Int))∧((n:Int)<16):=by simpa using g11
   refine ip' 2 5 [(34,.slice lq1 l1.length lk1),(35,iv (n:Int))] (K9 1 rfl (by omega) fun a12 hq13=>(ix rfl (G3 A0d rfl rfl hq13 rfl n rfl (by omega)) (ip' 1 3 [(37,pa (Addr.add a12 (n * 6)))] (ix rfl (C4 (v:=iv ((l1.getD n Act.zero).kind)) (us:=[iv ((l1.getD n Act.zero).kind)]) ty3 rfl rfl (W3 (I4 (c:=A0) (sz:=6) hq13 (fun _=>rfl) 1 rfl (gd Act.zero (by omega))) (ws:=[iv ((l1.getD n Act.zero).kind)]) 1 rfl) rfl) (ip' 2 0 [(40,bv (decide ((l1.getD n Act.zero).kind=39)))] ?_)))))
   exact A3 (K5 7 33 40 g11 A1.refl (mc [vo cU8 5 outr out] [true] rfl (by first|rfl|(simp only [List.length_set]<;>rfl))) rfl rfl rfl rfl rfl)
  refine ie ?_
  refine zjb rfl hR ?_ ?_<;>clear hR<;>intro hR h14
  ·have h14p:(((n:Int)<(l1.length:Int))∧((n:Int)<16))∧((l1.getD n Act.zero).kind=39):=by simpa using h14
   refine A4 (nx (B1 (A2 3 rfl (ip' 1 2 [(41,iv (n:Int))] (ix rfl (B5 rfl rfl rfl rfl (by omega)) (ip' 1 0 [(6,iv ((n:Int)+1))] (A3 ?_)))))))
   exact C6d (z1:=(fu3+1)) (z2:=n) fu3 (n+1) ⟨(by omega),hR,(by omega)⟩ (Nat.lt_succ_self _) (mc [vo cU8 5 outr out] [true] rfl (by first|rfl|(simp only [List.length_set]<;>rfl))) A1.refl
  have h14p:¬ ((((n:Int)<(l1.length:Int))∧((n:Int)<16))∧((l1.getD n Act.zero).kind=39)):=by simpa using h14
  refine G6 (nx (A7 (sr 2 rfl (ip' 2 0 [(44,bv (decide ((0:Int)<(n:Int))))] ?_))))
  refine ie ?_
  refine zjd rfl hR ?_ ?_<;>clear hR<;>intro hR h15 h15p
  ·refine sr 7 rfl (ip' 3 4 [(45,.slice (va outr.q) out.length outr.k),(46,.slice lq1 l1.length lk1),(47,iv (n:Int))] (F1 (E1b (A9 1 rfl) n) ?_))
   refine ix rfl (D1d (n':=(l1.take n).length) A0d rfl rfl n lk1 (A5j rfl rfl) A5n (by omega) (by omega) (by first|rfl|omega|(simp<;>omega)|(simp;done)) rfl) ?_
   have:=@List.length_take _ n l1
   have hQ:=C2 hR;clear hR;obtain ⟨y8,hy8,hR⟩:=hQ
   refine zca (A9k (l1.take n) lq1 lk1 (by first|omega|(simp<;>omega)|(dsimp only;omega)|decide) (by first|omega|(simp<;>omega)|(dsimp only;omega)|decide) (by first|omega|(simp<;>omega)) y8 hy8) (A1.pick [0] rfl) ?_
   have:=A4g (l1.take n);try rw [hy8] at this
   refine it rfl (A7w (r:=outr) (xs:=out) (s:=y8) (pre:=[]) (post:=[]) B1u (by kernel_rfl) Tryz.underlying9 rfl rfl rfl rfl rfl rfl rfl hokoutr (by first|omega|(simp<;>omega))) fun ⟨r16,hr17⟩=>?_
   have:=@List.length_append _ out y8
   have:=VOk.le hr17
   have:=VOk.cap hr17
   refine ip' 1 0 [(5,.slice (va r16.q) ((out++y8).length) r16.k)] (ie (sr 4 rfl (ip' 2 2 [(51,.slice lq1 l1.length lk1),(52,iv (n:Int))] (F1 (C2b (c:=A0) (sz:=6) (xs:=l1) (A9 2 rfl) n lk1 (fun _=>rfl) (by omega) (by omega)) ?_))))
   refine ix rfl (B3q (n':=(l1.drop n).length) A0d rfl rfl n l1.length lk1 (A5j rfl rfl) A5n A5n (by omega) (by omega) (by omega) (by first|rfl|omega|(simp<;>omega)|(simp;done)) rfl) ?_
   have:=@List.length_drop _ n l1
   refine ip' 1 0 [(0,.slice (B6m lq1 n 6 lk1) ((l1.drop n).length) (lk1 - n))] (ie (G6 ?_))
   exact E1q (z1:=(fu1+1)) (z2:=l1) (z3:=lq1) (z4:=lk1) (z5:=out) (z6:=outr) fu1 (l1.drop n) (B6m lq1 n 6 lk1) (lk1 - n) (out++y8) r16 ⟨(by omega),hR,(by first|omega|(simp<;>omega)|(dsimp only;omega)|decide),(by first|omega|(simp<;>omega)|(dsimp only;omega)|decide),hr17,(by exact fun a ha=>hp1 a (List.mem_of_mem_drop ha)),(by first|omega|(simp<;>omega))⟩ (Nat.lt_succ_self _) (mc [vo cU8 5 r16 (out++y8)] [true] rfl (by first|rfl|(simp only [List.length_set]<;>rfl))) (A1.pick [2,0] rfl)
  refine A4 (nx (sr 7 rfl (ip' 2 5 [(54,.slice (va outr.q) out.length outr.k),(55,.slice lq1 l1.length lk1)] (K9 1 rfl (by omega) fun a18 hq19=>(ix rfl (G3 A0d rfl rfl hq19 rfl 0 rfl (by omega)) (ix rfl (Q3 (us:=A0 (l1.getD 0 Act.zero)) A3a rfl rfl (I4 (c:=A0) (sz:=6) hq19 (fun _=>rfl) 1 rfl (gd Act.zero (by omega))) rfl) ?_))))))
  have hQ:=C2 hR;clear hR;obtain ⟨y25,hy25,hR⟩:=hQ
  refine zca (D0a (l1.getD 0 Act.zero) (by first|assumption|exact G7 (by assumption)|exact G7 (h10 (by omega)).1) (by first|omega|exact (h10 (by omega)).2) y25 hy25) fn0 ?_
  have:=C5j (l1.getD 0 Act.zero) (by first|assumption|exact G7 (by assumption)|exact G7 (h10 (by omega)).1);try rw [hy25] at this
  refine it rfl (A7w (r:=outr) (xs:=out) (s:=y25) (pre:=[]) (post:=[]) B1u (by kernel_rfl) Tryz.underlying9 rfl rfl rfl rfl rfl rfl rfl hokoutr (by first|omega|(simp<;>omega))) fun ⟨r20,hr21⟩=>?_
  have:=@List.length_append _ out y25
  have:=VOk.le hr21
  have:=VOk.cap hr21
  refine ip' 1 0 [(5,.slice (va r20.q) ((out++y25).length) r20.k)] (ie (A2 3 rfl (ip' 1 2 [(60,.slice lq1 l1.length lk1)] (F1 (C2b (c:=A0) (sz:=6) (xs:=l1) (A9 1 rfl) 1 lk1 (fun _=>rfl) (by omega) (by omega)) ?_))))
  refine ix rfl (B3q (n':=(l1.drop 1).length) A0d rfl rfl 1 l1.length lk1 (A5j rfl rfl) A5n A5n (by omega) (by omega) (by omega) (by first|rfl|omega|(simp<;>omega)|(simp;done)) rfl) ?_
  have:=@List.length_drop _ 1 l1
  refine ip' 1 0 [(0,.slice (B6m lq1 1 6 lk1) ((l1.drop 1).length) (lk1 - 1))] (A3 ?_)
  exact E1q (z1:=(fu1+1)) (z2:=l1) (z3:=lq1) (z4:=lk1) (z5:=out) (z6:=outr) fu1 (l1.drop 1) (B6m lq1 1 6 lk1) (lk1 - 1) (out++y25) r20 ⟨(by omega),hR,(by first|omega|(simp<;>omega)|(dsimp only;omega)|decide),(by first|omega|(simp<;>omega)|(dsimp only;omega)|decide),hr21,(by exact fun a ha=>hp1 a (List.mem_of_mem_drop ha)),(by first|omega|(simp<;>omega))⟩ (Nat.lt_succ_self _) (mc [vo cU8 5 r20 (out++y25)] [true] rfl (by first|rfl|(simp only [List.length_set]<;>rfl))) (A1.pick [1,0] rfl)
 refine G6 (nx (sr 3 rfl (ip' 3 0 [(2,.slice (va outr.q) out.length outr.k),(3,iv 0)] ?_)))
 subst hR
 refine ie (A5 ?_)
 exact zer hr hD (A6b rfl (B7 rfl) (B7 rfl)) ⟨outr,hokoutr⟩ (mc [vo cU8 5 outr out] [true] rfl (by first|rfl|(simp only [List.length_set]<;>rfl))) fn0
end Go.Proofs.YtanighkpfmgnbaaGreatDoor
