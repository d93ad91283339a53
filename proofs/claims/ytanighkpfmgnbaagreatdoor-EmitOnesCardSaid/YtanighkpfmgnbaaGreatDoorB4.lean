import Derived.Test.YtanighkpfmgnbaaGreatDoorProg
import Derived.Test.YtanighkpfmgnbaaGreatDoorA2
import Derived.Test.YtanighkpfmgnbaaGreatDoorB1
import Derived.Test.YtanighkpfmgnbaaGreatDoorA3
import Derived.Test.YtanighkpfmgnbaaGreatDoorB2
import Derived.Test.YtanighkpfmgnbaaGreatDoorB3
set_option linter.unusedVariables false
set_option linter.unusedSimpArgs false
set_option linter.unnecessarySimpa false
set_option maxRecDepth 100000
namespace Go.Proofs.YtanighkpfmgnbaaGreatDoor
open Go Go.Fen
def D0v:List UInt8:=[48,49,50,51,52,53,54,55,56,57,97,98,99,100,101,102]
theorem C7y:SlTy Tryz.prog 256 71 2:=⟨by kernel_rfl,by kernel_rfl⟩
theorem C2a:SlTy Tryz.prog 258 205 3:=⟨by kernel_rfl,by kernel_rfl⟩
theorem E3z:Zero Tryz.prog 5 [.int .u8 0]:=⟨by kernel_rfl⟩
def X7 (m:Int):Nat→Nat→Bool
 | 0,_=>false
 | fu1+1,k=>(bif (decide ((k:Int)<8)) then (bif (decide (m=(([1,2,4,8,16,32,64,128]:List Int).getD k 0))) then true else X7 m fu1 (k+1)) else false)
def K2 (m:Int):Bool :=
 X7 m ((8 - 0)+1) 0
theorem B0x (m:Int) (R:Bool) (hR:K2 m=R):I4 Tryz.prog 129 [iv m] [] (bv R):=by
 refine zco Tryz.func129 [(0,iv m)] fun X hX hr hD=>?_
 replace hR:=(K2.eq_1 ..).symm.trans hR
 refine sr 1 rfl (ip' 1 0 [] ?_)
 refine ie (A9 (sr 1 rfl (ip' 1 0 [(3,iv 0)] ?_)))
 refine ie (B3 (C4d (fun (fu:Nat) (k:Nat)=>((8 - k)<fu∧X7 m fu k=R,[(0,iv m),(3,iv (k:Int))],[],[],fu)) ((8 - 0)+1) 0 ⟨(Nat.lt_succ_self _),hR⟩ (mk [] rfl) A1.nil ?_))
 rintro fu k ⟨hm1,hR⟩
 obtain ⟨fu1,rfl⟩:∃ m,fu=m+1:=⟨fu - 1,by omega⟩
 replace hR:=(X7.eq_2 ..).symm.trans hR
 refine A9 (sr 2 rfl (ip' 2 0 [(5,bv (decide ((k:Int)<8)))] ?_))
 refine ie ?_
 refine zjd rfl hR ?_ ?_<;>clear hR<;>intro hR h2 h2p
 ·refine A6 (nx (A9 (B3 (sr 5 rfl (zrl 3 2 [] [(8,iv m),(9,ag [iv 1,iv 2,iv 4,iv 8,iv 16,iv 32,iv 64,iv 128]),(10,iv (k:Int))] ?_)))))
  refine ix rfl (A4z (v:=iv (([1,2,4,8,16,32,64,128]:List Int).getD k 0)) (c:=D8) (xs:=([1,2,4,8,16,32,64,128]:List Int)) (d:=0) Tryz.underlying249 ty3 (fun _=>rfl) rfl rfl rfl rfl k rfl rfl (by omega) rfl rfl) ?_
  refine ip' 1 0 [(12,bv (decide (m=(([1,2,4,8,16,32,64,128]:List Int).getD k 0))))] ?_
  refine ie ?_
  refine zjd rfl hR ?_ ?_<;>clear hR<;>intro hR h3 h3p
  ·refine sr 1 rfl (ip' 1 0 [(2,bv true)] ?_)
   subst hR
   refine ie (A5 ?_)
   exact C9 hr hD
  refine A6 (nx (A3 3 rfl (ip' 1 2 [(6,iv (k:Int))] ?_)))
  refine ix rfl (B7 rfl rfl rfl rfl (by omega)) ?_
  refine ip' 1 0 [(3,iv ((k:Int)+1))] ?_
  refine A7 ?_
  exact C3t (z1:=(fu1+1)) (z2:=k) fu1 (k+1) ⟨(by omega),hR⟩ (Nat.lt_succ_self _) (mk [] rfl) A1.nil
 refine H7 (nx (sr 1 rfl (ip' 1 0 [(2,bv false)] ?_)))
 subst hR
 refine ie (A5 ?_)
 exact C9 hr hD
def J1 (c:Col):Int :=
 (bif (decide (c.kind=0)) then (bif (decide (c.n=0)) then 0 else 130) else (bif (decide (c.kind=1)) then (bif ((decide ((0:Int)≤c.n))&&(decide (c.n≤255))) then 0 else 130) else (bif (decide (c.kind=2)) then (bif ((decide ((0:Int)≤c.n))&&(decide (c.n≤16777215))) then 0 else 130) else 130)))
theorem B1m (c:Col) (R:Int) (hR:J1 c=R):I4 Tryz.prog 130 [ag (L9 c)] [] (iv R):=by
 refine zco Tryz.func130 [(0,ag (L9 c))] fun X hX hr hD=>?_
 replace hR:=(J1.eq_1 ..).symm.trans hR
 refine sr 2 rfl (O2 2 0 [] (fun b1=>[(1,pt b1 0)]) (fun b1=>[bx b1 (L9 c) 24]) (fun b1=>?_))
 refine ie (A9 (sr 2 rfl (zrl 2 0 [0] [(4,iv c.kind)] ?_)))
 refine ie (B3 (sr 2 rfl (ip' 2 0 [(5,bv (decide (c.kind=0)))] ?_)))
 refine ie ?_
 refine zjd rfl hR ?_ ?_<;>clear hR<;>intro hR h2 h2p
 ·refine sr 3 rfl (zrl 3 0 [0] [(9,bv (decide (c.n=0)))] ?_)
  refine ie ?_
  refine zjd rfl hR ?_ ?_<;>clear hR<;>intro hR h3 h3p
  ·refine sr 1 rfl (ip' 1 0 [(2,iv 0)] ?_)
   subst hR
   refine ie (A5 ?_)
   exact C9 hr hD
  refine A6 (nx (sr 1 rfl (ip' 1 0 [(2,iv 130)] ?_)))
  subst hR
  refine ie (A5 ?_)
  exact C9 hr hD
 refine sr 2 rfl (ip' 2 0 [(10,bv (decide (c.kind=1)))] ?_)
 refine ie ?_
 refine zjd rfl hR ?_ ?_<;>clear hR<;>intro hR h4 h4p
 ·refine sr 8 rfl (zrl 4 4 [0] [(15,bv (decide ((0:Int)≤c.n)))] ?_)
  refine zid 4 0 15 19 (decide (c.n≤255)) (fun g5 g5p=>?_) ?_
  ·refine zrl 4 0 [0] [(19,bv (decide (c.n≤255)))] ?_
   exact A7 (M2 2 15 19 g5 A1.nil (mk [true] rfl) rfl rfl rfl rfl rfl)
  refine ie ?_
  refine zja rfl hR ?_ ?_<;>clear hR<;>intro hR h6 h6p
  ·refine sr 1 rfl (ip' 1 0 [(2,iv 0)] ?_)
   subst hR
   refine ie (A5 ?_)
   exact C9 hr hD
  refine A6 (nx (sr 1 rfl (ip' 1 0 [(2,iv 130)] ?_)))
  subst hR
  refine ie (A5 ?_)
  exact C9 hr hD
 refine sr 2 rfl (ip' 2 0 [(20,bv (decide (c.kind=2)))] ?_)
 refine ie ?_
 refine zjd rfl hR ?_ ?_<;>clear hR<;>intro hR h7 h7p
 ·refine sr 8 rfl (zrl 4 4 [0] [(25,bv (decide ((0:Int)≤c.n)))] ?_)
  refine zid 4 0 25 29 (decide (c.n≤16777215)) (fun g8 g8p=>?_) ?_
  ·refine zrl 4 0 [0] [(29,bv (decide (c.n≤16777215)))] ?_
   exact A7 (M2 2 25 29 g8 A1.nil (mk [true] rfl) rfl rfl rfl rfl rfl)
  refine ie ?_
  refine zja rfl hR ?_ ?_<;>clear hR<;>intro hR h9 h9p
  ·refine sr 1 rfl (ip' 1 0 [(2,iv 0)] ?_)
   subst hR
   refine ie (A5 ?_)
   exact C9 hr hD
  refine A6 (nx (sr 1 rfl (ip' 1 0 [(2,iv 130)] ?_)))
  subst hR
  refine ie (A5 ?_)
  exact C9 hr hD
 refine A6 (nx (sr 1 rfl (ip' 1 0 [(2,iv 130)] ?_)))
 subst hR
 refine ie (A5 ?_)
 exact C9 hr hD
def P3 (a:Act) (is:Bool):Int :=
 (bif (((!decide (a.kind=39))||(!(decide (a.text=([]:List UInt8)))))||(!is)) then 141 else 0)
def Y4 (a:Act) (t72:Bool):Int :=
 (bif t72 then P3 a ((decide (a.m=0))&&(decide ((J1 a.color)=0))) else P3 a false)
def L6 (a:Act):Int :=
 (bif (decide (a.n=0)) then P3 a ((decide (a.m=0))&&(decide (a.color=Col.zero))) else (bif (decide (a.n=1)) then P3 a ((K2 a.m)&&(decide (a.color=Col.zero))) else (bif (decide (a.n=2)) then P3 a (((decide (a.m=3))||(((K2 a.m)&&(!decide (a.m=1)))&&(!decide (a.m=2))))&&(decide (a.color=Col.zero))) else (bif (decide (a.n=3)) then P3 a (((decide ((0:Int)≤a.m))&&(decide (a.m≤5)))&&(decide (a.color=Col.zero))) else (bif (decide (a.n=4)) then Y4 a (decide (a.n=4)) else (bif (decide (a.n=5)) then Y4 a (decide (a.n=5)) else Y4 a (decide (a.n=6))))))))
theorem B2p (a:Act) (R:Int) (hR:L6 a=R):I4 Tryz.prog 90 [ag (A2 a)] [] (iv R):=by
 refine zco Tryz.func90 [(0,ag (A2 a))] fun X hX hr hD=>?_
 replace hR:=(L6.eq_1 ..).symm.trans hR
 refine sr 2 rfl (O2 2 0 [] (fun b1=>[(1,pt b1 0)]) (fun b1=>[bx b1 (A2 a) 26]) (fun b1=>?_))
 refine ie (sr 3 rfl (O2 3 0 [0] (fun b2=>[(3,pt b2 0)]) (fun b2=>[bx b2 (L9 Col.zero) 24,bx b1 (A2 a) 26]) (fun b2=>?_)))
 refine ie (sr 1 rfl (ip' 1 0 [(4,bv false)] ?_))
 refine ie (B5y (fun (is:Bool)=>(P3 a is=R,[(1,pt b1 0),(4,bv is)],[bx b2 (L9 Col.zero) 24,bx b1 (A2 a) 26],[])) ?_ ?_)
 ·refine sr 2 rfl (zrl 2 0 [1] [(7,iv a.n)] ?_)
  refine ie (B3 (sr 2 rfl (ip' 2 0 [(8,bv (decide (a.n=0)))] ?_)))
  refine ie ?_
  refine zjd rfl hR ?_ ?_<;>clear hR<;>intro hR h3 h3p
  ·refine A3 10 rfl (zrl 4 6 [1] [(13,bv (decide (a.m=0)))] ?_)
   refine zid 5 1 13 18 (decide (a.color=Col.zero)) (fun g4 g4p=>?_) ?_
   ·refine zrl 3 2 [1,0] [(15,ag (L9 a.color)),(16,ag (L9 Col.zero))] ?_
    refine ix rfl (A8q (a:=a.color) (b:=Col.zero) A7q rfl rfl rfl) ?_
    refine ip' 1 0 [(18,bv (decide (a.color=Col.zero)))] ?_
    exact A7 (M2 5 13 18 g4 A1.nil (mk [true,true] rfl) rfl rfl rfl rfl rfl)
   refine ip' 1 0 [(4,bv ((decide (a.m=0))&&(decide (a.color=Col.zero))))] ?_
   refine A7 ?_
   exact V4 ((decide (a.m=0))&&(decide (a.color=Col.zero))) hR (mk [true,true] rfl) A1.nil
  refine sr 2 rfl (ip' 2 0 [(19,bv (decide (a.n=1)))] ?_)
  refine ie ?_
  refine zjd rfl hR ?_ ?_<;>clear hR<;>intro hR h5 h5p
  ·refine A3 10 rfl (zrl 2 8 [1] [(22,iv a.m)] ?_)
   refine zca (B0x a.m _ rfl) A1.nil ?_
   refine ip' 1 6 [(24,bv (K2 a.m))] ?_
   refine zia 5 1 24 29 (decide (a.color=Col.zero)) (fun g6=>?_) ?_
   ·refine zrl 3 2 [1,0] [(26,ag (L9 a.color)),(27,ag (L9 Col.zero))] ?_
    refine ix rfl (A8q (a:=a.color) (b:=Col.zero) A7q rfl rfl rfl) ?_
    refine ip' 1 0 [(29,bv (decide (a.color=Col.zero)))] ?_
    exact A7 (M2 5 24 29 g6 A1.nil (mk [true,true] rfl) rfl rfl rfl rfl rfl)
   refine ip' 1 0 [(4,bv ((K2 a.m)&&(decide (a.color=Col.zero))))] ?_
   refine A7 ?_
   exact V4 ((K2 a.m)&&(decide (a.color=Col.zero))) hR (mk [true,true] rfl) A1.nil
  refine sr 2 rfl (ip' 2 0 [(30,bv (decide (a.n=2)))] ?_)
  refine ie ?_
  refine zjd rfl hR ?_ ?_<;>clear hR<;>intro hR h7 h7p
  ·refine A3 25 rfl (zrl 4 21 [1] [(35,bv (decide (a.m=3)))] ?_)
   refine zir 14 7 35 49 (((K2 a.m)&&(!decide (a.m=1)))&&(!decide (a.m=2))) (fun g8 g8p=>?_) ?_
   ·refine zrl 2 12 [1] [(37,iv a.m)] ?_
    refine zca (B0x a.m _ rfl) A1.nil ?_
    refine ip' 1 10 [(39,bv (K2 a.m))] ?_
    refine zia 4 6 39 43 (!decide (a.m=1)) (fun g9=>?_) ?_
    ·refine zrl 4 0 [1] [(43,bv (!decide (a.m=1)))] ?_
     exact A7 (M2 2 39 43 g9 A1.nil (mk [true,true] rfl) rfl rfl rfl rfl rfl)
    refine ip' 1 5 [(44,bv ((K2 a.m)&&(!decide (a.m=1))))] ?_
    refine zia 4 1 44 48 (!decide (a.m=2)) (fun g10=>?_) ?_
    ·have g10p:=g10;try simp at g10p
     refine zrl 4 0 [1] [(48,bv (!decide (a.m=2)))] ?_
     exact A7 (M2 2 44 48 g10 A1.nil (mk [true,true] rfl) rfl rfl rfl rfl rfl)
    refine ip' 1 0 [(49,bv (((K2 a.m)&&(!decide (a.m=1)))&&(!decide (a.m=2))))] ?_
    exact A7 (M2 8 35 49 g8 A1.nil (mk [true,true] rfl) rfl rfl rfl rfl rfl)
   refine ip' 1 6 [(50,bv ((decide (a.m=3))||(((K2 a.m)&&(!decide (a.m=1)))&&(!decide (a.m=2)))))] ?_
   refine zia 5 1 50 55 (decide (a.color=Col.zero)) (fun g11=>?_) ?_
   ·have g11p:=g11;try simp at g11p
    refine zrl 3 2 [1,0] [(52,ag (L9 a.color)),(53,ag (L9 Col.zero))] ?_
    refine ix rfl (A8q (a:=a.color) (b:=Col.zero) A7q rfl rfl rfl) ?_
    refine ip' 1 0 [(55,bv (decide (a.color=Col.zero)))] ?_
    exact A7 (M2 5 50 55 g11 A1.nil (mk [true,true] rfl) rfl rfl rfl rfl rfl)
   refine ip' 1 0 [(4,bv (((decide (a.m=3))||(((K2 a.m)&&(!decide (a.m=1)))&&(!decide (a.m=2))))&&(decide (a.color=Col.zero))))] ?_
   refine A7 ?_
   exact V4 (((decide (a.m=3))||(((K2 a.m)&&(!decide (a.m=1)))&&(!decide (a.m=2))))&&(decide (a.color=Col.zero))) hR (mk [true,true] rfl) A1.nil
  refine sr 2 rfl (ip' 2 0 [(56,bv (decide (a.n=3)))] ?_)
  refine ie ?_
  refine zjd rfl hR ?_ ?_<;>clear hR<;>intro hR h12 h12p
  ·refine A3 15 rfl (zrl 4 11 [1] [(61,bv (decide ((0:Int)≤a.m)))] ?_)
   refine zid 4 7 61 65 (decide (a.m≤5)) (fun g13 g13p=>?_) ?_
   ·refine zrl 4 0 [1] [(65,bv (decide (a.m≤5)))] ?_
    exact A7 (M2 2 61 65 g13 A1.nil (mk [true,true] rfl) rfl rfl rfl rfl rfl)
   refine ip' 1 6 [(66,bv ((decide ((0:Int)≤a.m))&&(decide (a.m≤5))))] ?_
   refine zia 5 1 66 71 (decide (a.color=Col.zero)) (fun g14=>?_) ?_
   ·have g14p:((0:Int)≤a.m)∧(a.m≤5):=by simpa using g14
    refine zrl 3 2 [1,0] [(68,ag (L9 a.color)),(69,ag (L9 Col.zero))] ?_
    refine ix rfl (A8q (a:=a.color) (b:=Col.zero) A7q rfl rfl rfl) ?_
    refine ip' 1 0 [(71,bv (decide (a.color=Col.zero)))] ?_
    exact A7 (M2 5 66 71 g14 A1.nil (mk [true,true] rfl) rfl rfl rfl rfl rfl)
   refine ip' 1 0 [(4,bv (((decide ((0:Int)≤a.m))&&(decide (a.m≤5)))&&(decide (a.color=Col.zero))))] ?_
   refine A7 ?_
   exact V4 (((decide ((0:Int)≤a.m))&&(decide (a.m≤5)))&&(decide (a.color=Col.zero))) hR (mk [true,true] rfl) A1.nil
  refine B5y (fun (t72:Bool)=>(Y4 a t72=R,[(1,pt b1 0),(4,bv false),(72,bv t72)],[bx b2 (L9 Col.zero) 24,bx b1 (A2 a) 26],[])) ?_ ?_
  ·refine sr 2 rfl (ip' 2 0 [(72,bv (decide (a.n=4)))] ?_)
   refine ie ?_
   refine zjd rfl hR ?_ ?_<;>clear hR<;>intro hR h15 h15p
   ·refine A6 ?_
    exact V4 (decide (a.n=4)) hR (mk [true,true] rfl) A1.nil
   refine sr 2 rfl (ip' 2 0 [(72,bv (decide (a.n=5)))] ?_)
   refine ie ?_
   refine zjd rfl hR ?_ ?_<;>clear hR<;>intro hR h16 h16p
   ·refine A6 ?_
    exact V4 (decide (a.n=5)) hR (mk [true,true] rfl) A1.nil
   refine A3 2 rfl (ip' 2 0 [(72,bv (decide (a.n=6)))] ?_)
   refine A7 ?_
   exact V4 (decide (a.n=6)) hR (mk [true,true] rfl) A1.nil
  intro t72
  rintro hR
  replace hR:=(Y4.eq_1 ..).symm.trans hR
  refine zjb rfl hR ?_ ?_<;>clear hR<;>intro hR h17
  ·refine A3 10 rfl (zrl 4 6 [1] [(79,bv (decide (a.m=0)))] ?_)
   refine zid 5 1 79 84 (decide ((J1 a.color)=0)) (fun g18 g18p=>?_) ?_
   ·refine zrl 2 3 [1] [(81,ag (L9 a.color))] ?_
    refine zca (B1m a.color _ rfl) A1.nil ?_
    refine ip' 2 0 [(84,bv (decide ((J1 a.color)=0)))] ?_
    exact A7 (M2 4 79 84 g18 A1.nil (mk [true,true] rfl) rfl rfl rfl rfl rfl)
   refine ip' 1 0 [(4,bv ((decide (a.m=0))&&(decide ((J1 a.color)=0))))] ?_
   refine A7 ?_
   exact V4 ((decide (a.m=0))&&(decide ((J1 a.color)=0))) hR (mk [true,true] rfl) A1.nil
  refine A6 ?_
  exact V4 false hR (mk [true,true] rfl) A1.nil
 intro is
 rintro hR
 replace hR:=(P3.eq_1 ..).symm.trans hR
 refine A9 (sr 12 rfl (zrl 4 8 [1] [(88,bv (!decide (a.kind=39)))] ?_))
 refine zio 4 4 88 92 (!(decide (a.text=([]:List UInt8)))) (fun g19=>?_) ?_
 ·have g19p:¬ (¬ a.kind=39):=by simpa using g19
  refine zrl 2 2 [1] [(90,sv a.text)] ?_
  refine ix rfl (X0 rfl rfl rfl) ?_
  refine ip' 1 0 [(92,bv (!(decide (a.text=([]:List UInt8)))))] ?_
  exact A7 (M2 4 88 92 g19 A1.nil (mk [true,true] rfl) rfl rfl rfl rfl rfl)
 refine ip' 1 3 [(93,bv ((!decide (a.kind=39))||(!(decide (a.text=([]:List UInt8))))))] ?_
 refine zio 3 0 93 96 (!is) (fun g20=>?_) ?_
 ·have g20p:¬ ((¬ a.kind=39)∨(¬ a.text=([]:List UInt8))):=by simpa using g20
  refine ip' 3 0 [(96,bv (!is))] ?_
  exact A7 (M2 2 93 96 g20 A1.nil (mk [true,true] rfl) rfl rfl rfl rfl rfl)
 refine ie ?_
 refine zjb rfl hR ?_ ?_<;>clear hR<;>intro hR h21
 ·have h21p:=h21;try simp at h21p
  refine sr 1 rfl (ip' 1 0 [(2,iv 141)] ?_)
  subst hR
  refine ie (A5 ?_)
  exact C9 hr hD
 have h21p:=h21;try simp at h21p
 refine A6 (nx (sr 1 rfl (ip' 1 0 [(2,iv 0)] ?_)))
 subst hR
 refine ie (A5 ?_)
 exact C9 hr hD
def A6w:Int×Int×Int :=
 (0,0,0)
theorem C5h:0≤(A6w).2.2∧(A6w).2.2≤4:=by unfold A6w;decide
theorem C7l (R:Int×Int×Int) (hR:A6w=R):I4 Tryz.prog 227 [.slice none 0 0] [] (.tuple #[iv R.1,iv R.2.1,iv R.2.2]):=by
 refine zco Tryz.func227 [(0,.slice none 0 0)] fun X hX hr hD=>?_
 replace hR:=(A6w.eq_1 ..).symm.trans hR
 refine sr 3 rfl (ip' 3 0 [] ?_)
 refine ie (A9 (sr 3 rfl (ip' 3 0 [(12,bv true)] ?_)))
 refine ie (O0 rfl (sr 3 rfl (ip' 3 0 [(2,iv 0),(3,iv 0),(4,iv 0)] ?_)))
 subst hR
 refine ie (A5 ?_)
 exact zer hr hD (D8k rfl (B8 rfl) (B8 rfl) (B8 rfl)) () (mk [] rfl) A1.nil
def B6m:Bool×Bool :=
 (C0 A6w fun (y0:Int×Int×Int)=>(bif (decide (y0.2.2=0)) then (false,false) else (((decide ((if (([0,0,128,2048,65536]:List Int).getD ((y0.2.2).toNat) 0) > y0.1 then (([0,0,128,2048,65536]:List Int).getD ((y0.2.2).toNat) 0) else y0.1)≤(if (([0,127,2047,65535,1114111]:List Int).getD ((y0.2.2).toNat) 0)<y0.2.1 then (([0,127,2047,65535,1114111]:List Int).getD ((y0.2.2).toNat) 0) else y0.2.1)))&&(!((decide ((55296:Int)≤(if (([0,0,128,2048,65536]:List Int).getD ((y0.2.2).toNat) 0) > y0.1 then (([0,0,128,2048,65536]:List Int).getD ((y0.2.2).toNat) 0) else y0.1)))&&(decide ((if (([0,127,2047,65535,1114111]:List Int).getD ((y0.2.2).toNat) 0)<y0.2.1 then (([0,127,2047,65535,1114111]:List Int).getD ((y0.2.2).toNat) 0) else y0.2.1)≤57343))))),(((decide ((if (([0,0,128,2048,65536]:List Int).getD ((y0.2.2).toNat) 0) > y0.1 then (([0,0,128,2048,65536]:List Int).getD ((y0.2.2).toNat) 0) else y0.1)≤(if (([0,127,2047,65535,1114111]:List Int).getD ((y0.2.2).toNat) 0)<y0.2.1 then (([0,127,2047,65535,1114111]:List Int).getD ((y0.2.2).toNat) 0) else y0.2.1)))&&(!((decide ((55296:Int)≤(if (([0,0,128,2048,65536]:List Int).getD ((y0.2.2).toNat) 0) > y0.1 then (([0,0,128,2048,65536]:List Int).getD ((y0.2.2).toNat) 0) else y0.1)))&&(decide ((if (([0,127,2047,65535,1114111]:List Int).getD ((y0.2.2).toNat) 0)<y0.2.1 then (([0,127,2047,65535,1114111]:List Int).getD ((y0.2.2).toNat) 0) else y0.2.1)≤57343)))))&&(decide ((0:Int)=y0.2.2))))))
theorem C7m (R:Bool×Bool) (hR:B6m=R):I4 Tryz.prog 226 [.slice none 0 0] [] (.tuple #[bv R.1,bv R.2]):=by
 refine zco Tryz.func226 [(0,.slice none 0 0)] fun X hX hr hD=>?_
 replace hR:=(B6m.eq_1 ..).symm.trans hR
 refine sr 2 rfl (ip' 2 0 [] ?_)
 refine ie (sr 9 rfl (ip' 1 8 [(11,.slice none 0 0)] ?_))
 have hQ:=C3 hR;clear hR;obtain ⟨y0,hy0,hR⟩:=hQ
 refine zca (C7l y0 hy0) A1.nil ?_
 have:=C5h ;try rw [hy0] at this
 refine ip' 7 0 [(4,iv y0.1),(5,iv y0.2.1),(6,iv y0.2.2)] ?_
 refine ie (A9 (sr 2 rfl (ip' 2 0 [(17,bv (decide (y0.2.2=0)))] ?_)))
 refine ie ?_
 refine zjd rfl hR ?_ ?_<;>clear hR<;>intro hR h1 h1p
 ·refine sr 2 rfl (ip' 2 0 [(2,bv false),(3,bv false)] ?_)
  subst hR
  refine ie (A5 ?_)
  exact A0o hr hD
 refine A6 (nx (sr 3 rfl (O2 3 0 [0] (fun b2=>[(7,pt b2 0)]) (fun b2=>[bx b2 [iv 0,iv 0,iv 128,iv 2048,iv 65536] 85]) (fun b2=>?_))))
 refine ie (sr 3 rfl (O2 3 0 [0] (fun b3=>[(8,pt b3 0)]) (fun b3=>[bx b3 [iv 0,iv 127,iv 2047,iv 65535,iv 1114111] 85,bx b2 [iv 0,iv 0,iv 128,iv 2048,iv 65536] 85]) (fun b3=>?_)))
 refine ie (sd 12 rfl (by kernel_rfl) rfl ?_)
 refine dp' 2 10 [(20,iv y0.1),(21,iv y0.2.2)] ?_
 refine dd rfl (U5 Tryz.underlying85 ty3 rfl rfl rfl ((y0.2.2).toNat) (by omega) (by omega)) ?_
 refine dd rfl (N6 (u:=iv (([0,0,128,2048,65536]:List Int).getD ((y0.2.2).toNat) 0)) (c:=D8) (xs:=([0,0,128,2048,65536]:List Int)) (j:=[]) (sz:=1) ty3 (fun _=>rfl) rfl rfl 1 rfl ((y0.2.2).toNat) 0 rfl (gd 0 (by simp only [List.length_cons,List.length_nil];omega)) rfl) ?_
 refine dp' 3 5 [(24,iv (if (([0,0,128,2048,65536]:List Int).getD ((y0.2.2).toNat) 0) > y0.1 then (([0,0,128,2048,65536]:List Int).getD ((y0.2.2).toNat) 0) else y0.1)),(25,iv y0.2.1),(26,iv y0.2.2)] ?_
 have:=C7e y0.1 (([0,0,128,2048,65536]:List Int).getD ((y0.2.2).toNat) 0)
 refine dd rfl (U5 Tryz.underlying85 ty3 rfl rfl rfl ((y0.2.2).toNat) (by omega) (by omega)) ?_
 refine dd rfl (N6 (u:=iv (([0,127,2047,65535,1114111]:List Int).getD ((y0.2.2).toNat) 0)) (c:=D8) (xs:=([0,127,2047,65535,1114111]:List Int)) (j:=[]) (sz:=1) ty3 (fun _=>rfl) rfl rfl 0 rfl ((y0.2.2).toNat) 0 rfl (gd 0 (by simp only [List.length_cons,List.length_nil];omega)) rfl) ?_
 refine dp' 3 0 [(4,iv (if (([0,0,128,2048,65536]:List Int).getD ((y0.2.2).toNat) 0) > y0.1 then (([0,0,128,2048,65536]:List Int).getD ((y0.2.2).toNat) 0) else y0.1)),(5,iv (if (([0,127,2047,65535,1114111]:List Int).getD ((y0.2.2).toNat) 0)<y0.2.1 then (([0,127,2047,65535,1114111]:List Int).getD ((y0.2.2).toNat) 0) else y0.2.1))] ?_
 have:=C7e y0.1 (([0,0,128,2048,65536]:List Int).getD ((y0.2.2).toNat) 0)
 have:=C6w y0.2.1 (([0,127,2047,65535,1114111]:List Int).getD ((y0.2.2).toNat) 0)
 refine de (sr 13 rfl (ip' 4 9 [(33,bv (decide ((if (([0,0,128,2048,65536]:List Int).getD ((y0.2.2).toNat) 0) > y0.1 then (([0,0,128,2048,65536]:List Int).getD ((y0.2.2).toNat) 0) else y0.1)≤(if (([0,127,2047,65535,1114111]:List Int).getD ((y0.2.2).toNat) 0)<y0.2.1 then (([0,127,2047,65535,1114111]:List Int).getD ((y0.2.2).toNat) 0) else y0.2.1))))] ?_))
 refine zia 8 1 33 41 (!((decide ((55296:Int)≤(if (([0,0,128,2048,65536]:List Int).getD ((y0.2.2).toNat) 0) > y0.1 then (([0,0,128,2048,65536]:List Int).getD ((y0.2.2).toNat) 0) else y0.1)))&&(decide ((if (([0,127,2047,65535,1114111]:List Int).getD ((y0.2.2).toNat) 0)<y0.2.1 then (([0,127,2047,65535,1114111]:List Int).getD ((y0.2.2).toNat) 0) else y0.2.1)≤57343)))) (fun g4=>?_) ?_
 ·have g4p:(if (([0,0,128,2048,65536]:List Int).getD ((y0.2.2).toNat) 0) > y0.1 then (([0,0,128,2048,65536]:List Int).getD ((y0.2.2).toNat) 0) else y0.1)≤(if (([0,127,2047,65535,1114111]:List Int).getD ((y0.2.2).toNat) 0)<y0.2.1 then (([0,127,2047,65535,1114111]:List Int).getD ((y0.2.2).toNat) 0) else y0.2.1):=by first|exact of_decide_eq_true g4|simpa only [Bool.and_eq_true,Bool.not_eq_true',Bool.and_eq_false_imp,decide_eq_true_eq,decide_eq_false_iff_not,not_and] using g4|simpa using g4
  refine ip' 3 5 [(36,bv (decide ((55296:Int)≤(if (([0,0,128,2048,65536]:List Int).getD ((y0.2.2).toNat) 0) > y0.1 then (([0,0,128,2048,65536]:List Int).getD ((y0.2.2).toNat) 0) else y0.1))))] ?_
  refine zia 3 2 36 39 (decide ((if (([0,127,2047,65535,1114111]:List Int).getD ((y0.2.2).toNat) 0)<y0.2.1 then (([0,127,2047,65535,1114111]:List Int).getD ((y0.2.2).toNat) 0) else y0.2.1)≤57343)) (fun g5=>?_) ?_
  ·have g5p:(55296:Int)≤(if (([0,0,128,2048,65536]:List Int).getD ((y0.2.2).toNat) 0) > y0.1 then (([0,0,128,2048,65536]:List Int).getD ((y0.2.2).toNat) 0) else y0.1):=by first|exact of_decide_eq_true g5|simpa only [Bool.and_eq_true,Bool.not_eq_true',Bool.and_eq_false_imp,decide_eq_true_eq,decide_eq_false_iff_not,not_and] using g5|simpa using g5
   refine ip' 3 0 [(39,bv (decide ((if (([0,127,2047,65535,1114111]:List Int).getD ((y0.2.2).toNat) 0)<y0.2.1 then (([0,127,2047,65535,1114111]:List Int).getD ((y0.2.2).toNat) 0) else y0.2.1)≤57343)))] ?_
   exact A7 (M2 2 36 39 g5 A1.nil (mk [true,true] rfl) rfl rfl rfl rfl rfl)
  refine ip' 2 0 [(41,bv (!((decide ((55296:Int)≤(if (([0,0,128,2048,65536]:List Int).getD ((y0.2.2).toNat) 0) > y0.1 then (([0,0,128,2048,65536]:List Int).getD ((y0.2.2).toNat) 0) else y0.1)))&&(decide ((if (([0,127,2047,65535,1114111]:List Int).getD ((y0.2.2).toNat) 0)<y0.2.1 then (([0,127,2047,65535,1114111]:List Int).getD ((y0.2.2).toNat) 0) else y0.2.1)≤57343)))))] ?_
  exact A7 (M2 4 33 41 g4 A1.nil (mk [true,true] rfl) rfl rfl rfl rfl rfl)
 refine ip' 1 0 [(9,bv ((decide ((if (([0,0,128,2048,65536]:List Int).getD ((y0.2.2).toNat) 0) > y0.1 then (([0,0,128,2048,65536]:List Int).getD ((y0.2.2).toNat) 0) else y0.1)≤(if (([0,127,2047,65535,1114111]:List Int).getD ((y0.2.2).toNat) 0)<y0.2.1 then (([0,127,2047,65535,1114111]:List Int).getD ((y0.2.2).toNat) 0) else y0.2.1)))&&(!((decide ((55296:Int)≤(if (([0,0,128,2048,65536]:List Int).getD ((y0.2.2).toNat) 0) > y0.1 then (([0,0,128,2048,65536]:List Int).getD ((y0.2.2).toNat) 0) else y0.1)))&&(decide ((if (([0,127,2047,65535,1114111]:List Int).getD ((y0.2.2).toNat) 0)<y0.2.1 then (([0,127,2047,65535,1114111]:List Int).getD ((y0.2.2).toNat) 0) else y0.2.1)≤57343))))))] ?_
 refine ie (sr 10 rfl (ip' 3 7 [(42,bv ((decide ((if (([0,0,128,2048,65536]:List Int).getD ((y0.2.2).toNat) 0) > y0.1 then (([0,0,128,2048,65536]:List Int).getD ((y0.2.2).toNat) 0) else y0.1)≤(if (([0,127,2047,65535,1114111]:List Int).getD ((y0.2.2).toNat) 0)<y0.2.1 then (([0,127,2047,65535,1114111]:List Int).getD ((y0.2.2).toNat) 0) else y0.2.1)))&&(!((decide ((55296:Int)≤(if (([0,0,128,2048,65536]:List Int).getD ((y0.2.2).toNat) 0) > y0.1 then (([0,0,128,2048,65536]:List Int).getD ((y0.2.2).toNat) 0) else y0.1)))&&(decide ((if (([0,127,2047,65535,1114111]:List Int).getD ((y0.2.2).toNat) 0)<y0.2.1 then (([0,127,2047,65535,1114111]:List Int).getD ((y0.2.2).toNat) 0) else y0.2.1)≤57343)))))),(44,bv ((decide ((if (([0,0,128,2048,65536]:List Int).getD ((y0.2.2).toNat) 0) > y0.1 then (([0,0,128,2048,65536]:List Int).getD ((y0.2.2).toNat) 0) else y0.1)≤(if (([0,127,2047,65535,1114111]:List Int).getD ((y0.2.2).toNat) 0)<y0.2.1 then (([0,127,2047,65535,1114111]:List Int).getD ((y0.2.2).toNat) 0) else y0.2.1)))&&(!((decide ((55296:Int)≤(if (([0,0,128,2048,65536]:List Int).getD ((y0.2.2).toNat) 0) > y0.1 then (([0,0,128,2048,65536]:List Int).getD ((y0.2.2).toNat) 0) else y0.1)))&&(decide ((if (([0,127,2047,65535,1114111]:List Int).getD ((y0.2.2).toNat) 0)<y0.2.1 then (([0,127,2047,65535,1114111]:List Int).getD ((y0.2.2).toNat) 0) else y0.2.1)≤57343))))))] ?_))
 refine zia 5 2 44 49 (decide ((0:Int)=y0.2.2)) (fun g6=>?_) ?_
 ·have g6p:((if (([0,0,128,2048,65536]:List Int).getD ((y0.2.2).toNat) 0) > y0.1 then (([0,0,128,2048,65536]:List Int).getD ((y0.2.2).toNat) 0) else y0.1)≤(if (([0,127,2047,65535,1114111]:List Int).getD ((y0.2.2).toNat) 0)<y0.2.1 then (([0,127,2047,65535,1114111]:List Int).getD ((y0.2.2).toNat) 0) else y0.2.1))∧(¬ (((55296:Int)≤(if (([0,0,128,2048,65536]:List Int).getD ((y0.2.2).toNat) 0) > y0.1 then (([0,0,128,2048,65536]:List Int).getD ((y0.2.2).toNat) 0) else y0.1))∧((if (([0,127,2047,65535,1114111]:List Int).getD ((y0.2.2).toNat) 0)<y0.2.1 then (([0,127,2047,65535,1114111]:List Int).getD ((y0.2.2).toNat) 0) else y0.2.1)≤57343))):=by first|exact of_decide_eq_true g6|simpa only [Bool.and_eq_true,Bool.not_eq_true',Bool.and_eq_false_imp,decide_eq_true_eq,decide_eq_false_iff_not,not_and] using g6|simpa using g6
  refine ip' 5 0 [(49,bv (decide ((0:Int)=y0.2.2)))] ?_
  exact A7 (M2 2 44 49 g6 A1.nil (mk [true,true] rfl) rfl rfl rfl rfl rfl)
 refine ip' 2 0 [(2,bv ((decide ((if (([0,0,128,2048,65536]:List Int).getD ((y0.2.2).toNat) 0) > y0.1 then (([0,0,128,2048,65536]:List Int).getD ((y0.2.2).toNat) 0) else y0.1)≤(if (([0,127,2047,65535,1114111]:List Int).getD ((y0.2.2).toNat) 0)<y0.2.1 then (([0,127,2047,65535,1114111]:List Int).getD ((y0.2.2).toNat) 0) else y0.2.1)))&&(!((decide ((55296:Int)≤(if (([0,0,128,2048,65536]:List Int).getD ((y0.2.2).toNat) 0) > y0.1 then (([0,0,128,2048,65536]:List Int).getD ((y0.2.2).toNat) 0) else y0.1)))&&(decide ((if (([0,127,2047,65535,1114111]:List Int).getD ((y0.2.2).toNat) 0)<y0.2.1 then (([0,127,2047,65535,1114111]:List Int).getD ((y0.2.2).toNat) 0) else y0.2.1)≤57343)))))),(3,bv (((decide ((if (([0,0,128,2048,65536]:List Int).getD ((y0.2.2).toNat) 0) > y0.1 then (([0,0,128,2048,65536]:List Int).getD ((y0.2.2).toNat) 0) else y0.1)≤(if (([0,127,2047,65535,1114111]:List Int).getD ((y0.2.2).toNat) 0)<y0.2.1 then (([0,127,2047,65535,1114111]:List Int).getD ((y0.2.2).toNat) 0) else y0.2.1)))&&(!((decide ((55296:Int)≤(if (([0,0,128,2048,65536]:List Int).getD ((y0.2.2).toNat) 0) > y0.1 then (([0,0,128,2048,65536]:List Int).getD ((y0.2.2).toNat) 0) else y0.1)))&&(decide ((if (([0,127,2047,65535,1114111]:List Int).getD ((y0.2.2).toNat) 0)<y0.2.1 then (([0,127,2047,65535,1114111]:List Int).getD ((y0.2.2).toNat) 0) else y0.2.1)≤57343)))))&&(decide ((0:Int)=y0.2.2))))] ?_
 subst hR
 refine ie (A5 ?_)
 exact A0o hr hD
def A7o:Bool :=
 (C0 B6m fun (y4:Bool×Bool)=>true)
theorem C5n (R:Bool) (hR:A7o=R):I4 Tryz.prog 225 [.slice none 0 0] [] (bv R):=by
 refine zco Tryz.func225 [(0,.slice none 0 0)] fun X hX hr hD=>?_
 replace hR:=(A7o.eq_1 ..).symm.trans hR
 refine sr 1 rfl (ip' 1 0 [] ?_)
 refine ie (sr 7 rfl (ip' 1 6 [(6,.slice none 0 0)] ?_))
 have hQ:=C3 hR;clear hR;obtain ⟨y4,hy4,hR⟩:=hQ
 refine zca (C7m y4 hy4) A1.nil ?_
 refine ip' 5 0 [(3,bv y4.1),(4,bv y4.2)] ?_
 refine ie (sr 11 rfl (ip' 11 0 [(2,bv true)] ?_))
 subst hR
 refine ie (A5 ?_)
 exact C9 hr hD
def G8 (b:UInt8):Int×Int :=
 (bif (decide ((b.toNat:Int)<128)) then (1,(b.toNat:Int)) else (bif ((decide ((192:Int)≤(b.toNat:Int)))&&(decide ((b.toNat:Int)<224))) then (2,((b.toNat:Int) - 192)) else (bif ((decide ((224:Int)≤(b.toNat:Int)))&&(decide ((b.toNat:Int)<240))) then (3,((b.toNat:Int) - 224)) else (bif ((decide ((240:Int)≤(b.toNat:Int)))&&(decide ((b.toNat:Int)<248))) then (4,((b.toNat:Int) - 240)) else (0,0)))))
theorem B5g (b:UInt8):(0≤(G8 b).1∧(G8 b).1≤4)∧0≤(G8 b).2∧(G8 b).2≤127:=by
 have:=b.toNat_lt
 unfold G8
 by_cases h1:(b.toNat:Int)<128
 ·rw [decide_eq_true h1];simp only [cond_true];omega
 ·rw [decide_eq_false h1,cond_false]
  by_cases h2:(192:Int)≤(b.toNat:Int)∧(b.toNat:Int)<224
  ·rw [show ((decide ((192:Int)≤(b.toNat:Int)))&&(decide ((b.toNat:Int)<224)))=true by simp only [Bool.and_eq_true,decide_eq_true_eq];exact h2,cond_true];dsimp only;omega
  ·rw [show ((decide ((192:Int)≤(b.toNat:Int)))&&(decide ((b.toNat:Int)<224)))=false by simp only [Bool.and_eq_false_iff,decide_eq_false_iff_not];omega,cond_false]
   by_cases h3:(224:Int)≤(b.toNat:Int)∧(b.toNat:Int)<240
   ·rw [show ((decide ((224:Int)≤(b.toNat:Int)))&&(decide ((b.toNat:Int)<240)))=true by simp only [Bool.and_eq_true,decide_eq_true_eq];exact h3,cond_true];dsimp only;omega
   ·rw [show ((decide ((224:Int)≤(b.toNat:Int)))&&(decide ((b.toNat:Int)<240)))=false by simp only [Bool.and_eq_false_iff,decide_eq_false_iff_not];omega,cond_false]
    by_cases h4:(240:Int)≤(b.toNat:Int)∧(b.toNat:Int)<248
    ·rw [show ((decide ((240:Int)≤(b.toNat:Int)))&&(decide ((b.toNat:Int)<248)))=true by simp only [Bool.and_eq_true,decide_eq_true_eq];exact h4,cond_true];dsimp only;omega
    ·rw [show ((decide ((240:Int)≤(b.toNat:Int)))&&(decide ((b.toNat:Int)<248)))=false by simp only [Bool.and_eq_false_iff,decide_eq_false_iff_not];omega,cond_false];dsimp only;omega
theorem C5a (b:UInt8) (R:Int×Int) (hR:G8 b=R):I4 Tryz.prog 239 [.int .u8 (b.toNat:Int)] [] (.tuple #[iv R.1,iv R.2]):=by
 refine zco Tryz.func239 [(0,.int .u8 (b.toNat:Int))] fun X hX hr hD=>?_
 unfold G8 at hR
 refine sr 2 rfl (ip' 2 0 [] ?_)
 refine ie (A9 (sr 2 rfl (ip' 2 0 [(5,bv (decide ((b.toNat:Int)<128)))] ?_)))
 refine ie ?_
 refine zjd rfl hR ?_ ?_<;>clear hR<;>intro hR h1 h1p
 ·refine sr 4 rfl (ip' 1 3 [(6,.int .u8 (b.toNat:Int))] ?_)
  refine ix rfl (N7 (c:=(b.toNat:Int)) Tryz.underlying3 (by kernel_rfl) rfl rfl (Z7 b)) ?_
  refine ip' 2 0 [(2,iv 1),(3,iv (b.toNat:Int))] ?_
  subst hR
  refine ie (A5 ?_)
  exact A0o hr hD
 refine A6 (nx (A9 (sr 6 rfl (ip' 3 3 [(10,bv (decide ((192:Int)≤(b.toNat:Int))))] ?_))))
 refine zid 3 0 10 13 (decide ((b.toNat:Int)<224)) (fun g2 g2p=>?_) ?_
 ·refine ip' 3 0 [(13,bv (decide ((b.toNat:Int)<224)))] ?_
  exact A7 (M2 2 10 13 g2 A1.nil (mk [] rfl) rfl rfl rfl rfl rfl)
 refine ie ?_
 refine zja rfl hR ?_ ?_<;>clear hR<;>intro hR h3 h3p
 ·refine sr 5 rfl (ip' 1 4 [(14,.int .u8 (b.toNat:Int))] ?_)
  refine ix rfl (N7 (c:=(b.toNat:Int)) Tryz.underlying3 (by kernel_rfl) rfl rfl (Z7 b)) ?_
  refine ix rfl (N9 rfl rfl rfl rfl (by omega)) ?_
  refine ip' 2 0 [(2,iv 2),(3,iv ((b.toNat:Int) - 192))] ?_
  subst hR
  refine ie (A5 ?_)
  exact A0o hr hD
 refine A6 (nx (A9 (sr 6 rfl (ip' 3 3 [(19,bv (decide ((224:Int)≤(b.toNat:Int))))] ?_))))
 refine zid 3 0 19 22 (decide ((b.toNat:Int)<240)) (fun g4 g4p=>?_) ?_
 ·refine ip' 3 0 [(22,bv (decide ((b.toNat:Int)<240)))] ?_
  exact A7 (M2 2 19 22 g4 A1.nil (mk [] rfl) rfl rfl rfl rfl rfl)
 refine ie ?_
 refine zja rfl hR ?_ ?_<;>clear hR<;>intro hR h5 h5p
 ·refine sr 5 rfl (ip' 1 4 [(23,.int .u8 (b.toNat:Int))] ?_)
  refine ix rfl (N7 (c:=(b.toNat:Int)) Tryz.underlying3 (by kernel_rfl) rfl rfl (Z7 b)) ?_
  refine ix rfl (N9 rfl rfl rfl rfl (by omega)) ?_
  refine ip' 2 0 [(2,iv 3),(3,iv ((b.toNat:Int) - 224))] ?_
  subst hR
  refine ie (A5 ?_)
  exact A0o hr hD
 refine A6 (nx (A9 (sr 6 rfl (ip' 3 3 [(28,bv (decide ((240:Int)≤(b.toNat:Int))))] ?_))))
 refine zid 3 0 28 31 (decide ((b.toNat:Int)<248)) (fun g6 g6p=>?_) ?_
 ·refine ip' 3 0 [(31,bv (decide ((b.toNat:Int)<248)))] ?_
  exact A7 (M2 2 28 31 g6 A1.nil (mk [] rfl) rfl rfl rfl rfl rfl)
 refine ie ?_
 refine zja rfl hR ?_ ?_<;>clear hR<;>intro hR h7 h7p
 ·refine sr 5 rfl (ip' 1 4 [(32,.int .u8 (b.toNat:Int))] ?_)
  refine ix rfl (N7 (c:=(b.toNat:Int)) Tryz.underlying3 (by kernel_rfl) rfl rfl (Z7 b)) ?_
  refine ix rfl (N9 rfl rfl rfl rfl (by omega)) ?_
  refine ip' 2 0 [(2,iv 4),(3,iv ((b.toNat:Int) - 240))] ?_
  subst hR
  refine ie (A5 ?_)
  exact A0o hr hD
 refine A6 (nx (sr 2 rfl (ip' 2 0 [(2,iv 0),(3,iv 0)] ?_)))
 subst hR
 refine ie (A5 ?_)
 exact A0o hr hD
def F5 (p:List UInt8) (y12:Int×Int):Nat→Int→Int→Nat→(Int×Int×Int)
 | 0,_,_,_=>(0,0,0)
 | fu1+1,low,high,i=>(bif (decide ((i:Int)<y12.1)) then (bif (decide ((i:Int)<(p.length:Int))) then (bif ((decide (((p.getD i 0).toNat:Int)<128))||(decide ((191:Int)<((p.getD i 0).toNat:Int)))) then (0,0,0) else F5 p y12 fu1 (IntKind.i64.wrap ((IntKind.i64.wrap (low * (64:Int)))+(((p.getD i 0).toNat:Int) - 128))) (IntKind.i64.wrap ((IntKind.i64.wrap ((IntKind.i64.wrap ((IntKind.i64.wrap (high * (64:Int)))+(63:Int))) - (63:Int)))+(((p.getD i 0).toNat:Int) - 128))) (i+1)) else F5 p y12 fu1 (IntKind.i64.wrap (low * (64:Int))) (IntKind.i64.wrap ((IntKind.i64.wrap (high * (64:Int)))+(63:Int))) (i+1)) else (bif (decide (y12.1<(p.length:Int))) then (0,0,0) else (low,high,y12.1)))
def K9 (p:List UInt8):Int×Int×Int :=
 (bif (decide ((p.length:Int)=0)) then (0,0,0) else (C0 (G8 (p.getD 0 0)) fun (y12:Int×Int)=>F5 p y12 ((y12.1 - (1:Int)).toNat+1) y12.2 y12.2 1))
theorem A5y (p:List UInt8) (f:Int×Int) (hf:0≤f.1∧f.1≤4):∀ (fu:Nat) (low high:Int) (i:Nat),0≤(F5 p f fu low high i).2.2∧(F5 p f fu low high i).2.2≤4∧((F5 p f fu low high i).2.2≠0→(p.length:Int)≤4)
 | 0,low,high,i=>by simp [F5]
 | fu+1,low,high,i=>by
  simp only [F5]
  cases (decide ((i:Int)<f.1)) with
  | true =>
   rw [cond_true]
   cases (decide ((i:Int)<(p.length:Int))) with
   | true =>
    rw [cond_true]
    generalize ((decide (((p.getD i 0).toNat:Int)<128))||(decide ((191:Int)<((p.getD i 0).toNat:Int))))=c
    cases c with
    | true=>simp
    | false=>rw [cond_false];exact A5y p f hf fu _ _ _
   | false=>rw [cond_false];exact A5y p f hf fu _ _ _
  | false =>
   rw [cond_false]
   by_cases h:f.1<(p.length:Int)
   ·rw [decide_eq_true h,cond_true];simp
   ·rw [decide_eq_false h,cond_false];dsimp only;omega
theorem A6e (p:List UInt8):0≤(K9 p).2.2∧(K9 p).2.2≤4∧((K9 p).2.2≠0→(p.length:Int)≤4):=by
 unfold K9
 cases (decide ((p.length:Int)=0)) with
 | true=>simp
 | false=>rw [cond_false];simp only [C0];exact A5y p _ (B5g _).1 _ _ _ _
theorem B1k (p:List UInt8) (pq:Option Addr) (pk:Nat) (hlp:p.length≤9223372036854775807) (hcp:p.length≤pk) (R:Int×Int×Int) (hR:K9 p=R):I4 Tryz.prog 227 [.slice pq p.length pk] [sl cU8 pq p] (.tuple #[iv R.1,iv R.2.1,iv R.2.2]):=by
 refine zco Tryz.func227 [(0,.slice pq p.length pk)] fun X hX hr hD=>?_
 replace hR:=(K9.eq_1 ..).symm.trans hR
 refine sr 3 rfl (ip' 3 0 [] ?_)
 refine ie (A9 (sr 3 rfl (ip' 3 0 [(12,bv (decide ((p.length:Int)=0)))] ?_)))
 refine ie ?_
 refine zjd rfl hR ?_ ?_<;>clear hR<;>intro hR h1 h1p
 ·refine sr 3 rfl (ip' 3 0 [(2,iv 0),(3,iv 0),(4,iv 0)] ?_)
  subst hR
  refine ie (A5 ?_)
  exact zer hr hD (D8k rfl (B8 rfl) (B8 rfl) (B8 rfl)) () (mk [] rfl) A1.nil
 refine A6 (nx (sr 9 rfl (ip' 1 8 [(14,.slice pq p.length pk)] ?_)))
 refine N4 0 rfl (by omega) fun a2 hq3=>?_
 refine ix rfl (H4 A1d rfl rfl hq3 rfl 0 rfl (by omega)) ?_
 refine ix rfl (C8 (v:=.int .u8 ((p.getD 0 0).toNat:Int)) (us:=[.int .u8 ((p.getD 0 0).toNat:Int)]) ty5 rfl rfl (J4 (c:=cU8) (sz:=1) hq3 (fun _=>rfl) 0 rfl (gd 0 (by omega))) rfl) ?_
 have hQ:=C3 hR;clear hR;obtain ⟨y12,hy12,hR⟩:=hQ
 refine zca (C5a (p.getD 0 0) y12 hy12) A1.nil ?_
 have:=B5g (p.getD 0 0);try rw [hy12] at this
 refine ip' 5 0 [(5,iv y12.1),(6,iv y12.2)] ?_
 refine ie (sr 2 rfl (ip' 2 0 [(7,iv y12.2)] ?_))
 refine ie (A9 (sr 1 rfl (ip' 1 0 [(8,iv 1)] ?_)))
 refine ie (B3 (C1d (fun (fu:Nat) (low:Int) (high:Int) (i:Nat)=>((y12.1 - (i:Int)).toNat<fu∧F5 p y12 fu low high i=R,[(0,.slice pq p.length pk),(5,iv y12.1),(6,iv low),(7,iv high),(8,iv (i:Int))],[],[sl cU8 pq p],fu)) ((y12.1 - (1:Int)).toNat+1) y12.2 y12.2 1 ⟨(Nat.lt_succ_self _),hR⟩ (mk [] rfl) A1.refl ?_))
 rintro fu low high i ⟨hm4,hR⟩
 obtain ⟨fu1,rfl⟩:∃ m,fu=m+1:=⟨fu - 1,by omega⟩
 replace hR:=(F5.eq_2 ..).symm.trans hR
 refine A9 (sr 3 rfl (ip' 3 0 [(23,bv (decide ((i:Int)<y12.1)))] ?_))
 refine ie ?_
 refine zjd rfl hR ?_ ?_<;>clear hR<;>intro hR h5 h5p
 ·refine A6 (nx (A9 (B3 (sr 7 rfl (ip' 1 6 [(26,iv low)] ?_)))))
  refine ix rfl (G4.pure rfl) ?_
  refine ip' 1 4 [(28,iv high)] ?_
  refine ix rfl (G4.pure rfl) ?_
  refine ix rfl (G4.pure rfl) ?_
  refine ip' 2 0 [(6,iv (IntKind.i64.wrap (low * (64:Int)))),(7,iv (IntKind.i64.wrap ((IntKind.i64.wrap (high * (64:Int)))+(63:Int))))] ?_
  refine ie (sr 4 rfl (ip' 4 0 [(34,bv (decide ((i:Int)<(p.length:Int))))] ?_))
  refine ie ?_
  refine zjd rfl hR ?_ ?_<;>clear hR<;>intro hR h6 h6p
  ·refine A9 (sr 12 rfl (ip' 2 10 [(35,.slice pq p.length pk),(36,iv (i:Int))] ?_))
   refine ix rfl (H4 A1d rfl rfl hq3 rfl i rfl (by omega)) ?_
   refine ix rfl (C8 (v:=.int .u8 ((p.getD i 0).toNat:Int)) (us:=[.int .u8 ((p.getD i 0).toNat:Int)]) ty5 rfl rfl (J4 (c:=cU8) (sz:=1) hq3 (fun _=>rfl) 0 rfl (gd 0 (by omega))) rfl) ?_
   refine ip' 2 6 [(40,bv (decide (((p.getD i 0).toNat:Int)<128)))] ?_
   refine zir 6 0 40 46 (decide ((191:Int)<((p.getD i 0).toNat:Int))) (fun g7 g7p=>?_) ?_
   ·refine ip' 2 4 [(41,.slice pq p.length pk),(42,iv (i:Int))] ?_
    refine ix rfl (H4 A1d rfl rfl hq3 rfl i rfl (by omega)) ?_
    refine ix rfl (C8 (v:=.int .u8 ((p.getD i 0).toNat:Int)) (us:=[.int .u8 ((p.getD i 0).toNat:Int)]) ty5 rfl rfl (J4 (c:=cU8) (sz:=1) hq3 (fun _=>rfl) 0 rfl (gd 0 (by omega))) rfl) ?_
    refine ip' 2 0 [(46,bv (decide ((191:Int)<((p.getD i 0).toNat:Int))))] ?_
    exact zai 6 40 46 g7
   refine ie ?_
   refine zjo rfl hR ?_ ?_<;>clear hR<;>intro hR h8 h8p
   ·refine sr 3 rfl (ip' 3 0 [(2,iv 0),(3,iv 0),(4,iv 0)] ?_)
    subst hR
    refine ie (A5 ?_)
    exact zer hr hD (D8k rfl (B8 rfl) (B8 rfl) (B8 rfl)) () (mk [] rfl) A1.nil
   refine A6 (nx (sr 7 rfl (ip' 2 5 [(47,.slice pq p.length pk),(48,iv (i:Int))] ?_)))
   refine ix rfl (H4 A1d rfl rfl hq3 rfl i rfl (by omega)) ?_
   refine ix rfl (C8 (v:=.int .u8 ((p.getD i 0).toNat:Int)) (us:=[.int .u8 ((p.getD i 0).toNat:Int)]) ty5 rfl rfl (J4 (c:=cU8) (sz:=1) hq3 (fun _=>rfl) 0 rfl (gd 0 (by omega))) rfl) ?_
   refine ix rfl (N7 (c:=((p.getD i 0).toNat:Int)) Tryz.underlying3 (by kernel_rfl) rfl rfl (Z7 (p.getD i 0))) ?_
   refine ix rfl (N9 rfl rfl rfl rfl (by omega)) ?_
   refine ip' 1 0 [(9,iv (((p.getD i 0).toNat:Int) - 128))] ?_
   refine ie (A3 9 rfl (ip' 2 7 [(53,iv (IntKind.i64.wrap (low * (64:Int)))),(54,iv (((p.getD i 0).toNat:Int) - 128))] ?_))
   refine ix rfl (G4.pure rfl) ?_
   refine ip' 1 5 [(56,iv (IntKind.i64.wrap ((IntKind.i64.wrap (high * (64:Int)))+(63:Int))))] ?_
   refine ix rfl (G4.pure rfl) ?_
   refine ip' 1 3 [(58,iv (((p.getD i 0).toNat:Int) - 128))] ?_
   refine ix rfl (G4.pure rfl) ?_
   refine ip' 2 0 [(6,iv (IntKind.i64.wrap ((IntKind.i64.wrap (low * (64:Int)))+(((p.getD i 0).toNat:Int) - 128)))),(7,iv (IntKind.i64.wrap ((IntKind.i64.wrap ((IntKind.i64.wrap ((IntKind.i64.wrap (high * (64:Int)))+(63:Int))) - (63:Int)))+(((p.getD i 0).toNat:Int) - 128))))] ?_
   refine A7 (nx (A3 3 rfl (ip' 1 2 [(24,iv (i:Int))] ?_)))
   refine ix rfl (B7 rfl rfl rfl rfl (by omega)) ?_
   refine ip' 1 0 [(8,iv ((i:Int)+1))] ?_
   refine A7 ?_
   exact B6z (z1:=(fu1+1)) (z2:=low) (z3:=high) (z4:=i) fu1 (IntKind.i64.wrap ((IntKind.i64.wrap (low * (64:Int)))+(((p.getD i 0).toNat:Int) - 128))) (IntKind.i64.wrap ((IntKind.i64.wrap ((IntKind.i64.wrap ((IntKind.i64.wrap (high * (64:Int)))+(63:Int))) - (63:Int)))+(((p.getD i 0).toNat:Int) - 128))) (i+1) ⟨(by omega),hR⟩ (Nat.lt_succ_self _) (mk [] rfl) A1.refl
  refine A6 (nx (A3 3 rfl (ip' 1 2 [(24,iv (i:Int))] ?_)))
  refine ix rfl (B7 rfl rfl rfl rfl (by omega)) ?_
  refine ip' 1 0 [(8,iv ((i:Int)+1))] ?_
  refine A7 ?_
  exact B6z (z1:=(fu1+1)) (z2:=low) (z3:=high) (z4:=i) fu1 (IntKind.i64.wrap (low * (64:Int))) (IntKind.i64.wrap ((IntKind.i64.wrap (high * (64:Int)))+(63:Int))) (i+1) ⟨(by omega),hR⟩ (Nat.lt_succ_self _) (mk [] rfl) A1.refl
 refine H7 (nx (A9 (sr 4 rfl (ip' 4 0 [(63,bv (decide (y12.1<(p.length:Int))))] ?_))))
 refine ie ?_
 refine zjd rfl hR ?_ ?_<;>clear hR<;>intro hR h9 h9p
 ·refine sr 3 rfl (ip' 3 0 [(2,iv 0),(3,iv 0),(4,iv 0)] ?_)
  subst hR
  refine ie (A5 ?_)
  exact zer hr hD (D8k rfl (B8 rfl) (B8 rfl) (B8 rfl)) () (mk [] rfl) A1.nil
 refine A6 (nx (sr 6 rfl (ip' 6 0 [(2,iv low),(3,iv high),(4,iv y12.1)] ?_)))
 subst hR
 refine ie (A5 ?_)
 exact zer hr hD (D8k rfl (B8 rfl) (B8 rfl) (B8 rfl)) () (mk [] rfl) A1.nil
def N5 (p:List UInt8):Bool×Bool :=
 (C0 (K9 p) fun (y1:Int×Int×Int)=>(bif (decide (y1.2.2=0)) then (false,false) else (((decide ((if (([0,0,128,2048,65536]:List Int).getD ((y1.2.2).toNat) 0) > y1.1 then (([0,0,128,2048,65536]:List Int).getD ((y1.2.2).toNat) 0) else y1.1)≤(if (([0,127,2047,65535,1114111]:List Int).getD ((y1.2.2).toNat) 0)<y1.2.1 then (([0,127,2047,65535,1114111]:List Int).getD ((y1.2.2).toNat) 0) else y1.2.1)))&&(!((decide ((55296:Int)≤(if (([0,0,128,2048,65536]:List Int).getD ((y1.2.2).toNat) 0) > y1.1 then (([0,0,128,2048,65536]:List Int).getD ((y1.2.2).toNat) 0) else y1.1)))&&(decide ((if (([0,127,2047,65535,1114111]:List Int).getD ((y1.2.2).toNat) 0)<y1.2.1 then (([0,127,2047,65535,1114111]:List Int).getD ((y1.2.2).toNat) 0) else y1.2.1)≤57343))))),(((decide ((if (([0,0,128,2048,65536]:List Int).getD ((y1.2.2).toNat) 0) > y1.1 then (([0,0,128,2048,65536]:List Int).getD ((y1.2.2).toNat) 0) else y1.1)≤(if (([0,127,2047,65535,1114111]:List Int).getD ((y1.2.2).toNat) 0)<y1.2.1 then (([0,127,2047,65535,1114111]:List Int).getD ((y1.2.2).toNat) 0) else y1.2.1)))&&(!((decide ((55296:Int)≤(if (([0,0,128,2048,65536]:List Int).getD ((y1.2.2).toNat) 0) > y1.1 then (([0,0,128,2048,65536]:List Int).getD ((y1.2.2).toNat) 0) else y1.1)))&&(decide ((if (([0,127,2047,65535,1114111]:List Int).getD ((y1.2.2).toNat) 0)<y1.2.1 then (([0,127,2047,65535,1114111]:List Int).getD ((y1.2.2).toNat) 0) else y1.2.1)≤57343)))))&&(decide ((p.length:Int)=y1.2.2))))))
theorem C2q (p:List UInt8) (h:(N5 p).1=true):(p.length:Int)≤4:=by
 unfold N5 at h
 simp only [C0] at h
 by_cases e:(K9 p).2.2=0
 ·rw [decide_eq_true e] at h;simp at h
 ·exact (A6e p).2.2 e
theorem B1p (p:List UInt8) (pq:Option Addr) (pk:Nat) (hlp:p.length≤9223372036854775807) (hcp:p.length≤pk) (R:Bool×Bool) (hR:N5 p=R):I4 Tryz.prog 226 [.slice pq p.length pk] [sl cU8 pq p] (.tuple #[bv R.1,bv R.2]):=by
 refine zco Tryz.func226 [(0,.slice pq p.length pk)] fun X hX hr hD=>?_
 replace hR:=(N5.eq_1 ..).symm.trans hR
 refine sr 2 rfl (ip' 2 0 [] ?_)
 refine ie (sr 9 rfl (ip' 1 8 [(11,.slice pq p.length pk)] ?_))
 have hQ:=C3 hR;clear hR;obtain ⟨y1,hy1,hR⟩:=hQ
 refine zca (B1k p pq pk (by first|omega|(simp<;>omega)|(dsimp only;omega)|decide) (by first|omega|(simp<;>omega)|(dsimp only;omega)|decide) y1 hy1) A1.refl ?_
 have:=A6e p;try rw [hy1] at this
 refine ip' 7 0 [(4,iv y1.1),(5,iv y1.2.1),(6,iv y1.2.2)] ?_
 refine ie (A9 (sr 2 rfl (ip' 2 0 [(17,bv (decide (y1.2.2=0)))] ?_)))
 refine ie ?_
 refine zjd rfl hR ?_ ?_<;>clear hR<;>intro hR h1 h1p
 ·refine sr 2 rfl (ip' 2 0 [(2,bv false),(3,bv false)] ?_)
  subst hR
  refine ie (A5 ?_)
  exact A0o hr hD
 refine A6 (nx (sr 3 rfl (O2 3 0 [0] (fun b2=>[(7,pt b2 0)]) (fun b2=>[bx b2 [iv 0,iv 0,iv 128,iv 2048,iv 65536] 85]) (fun b2=>?_))))
 refine ie (sr 3 rfl (O2 3 0 [0] (fun b3=>[(8,pt b3 0)]) (fun b3=>[bx b3 [iv 0,iv 127,iv 2047,iv 65535,iv 1114111] 85,bx b2 [iv 0,iv 0,iv 128,iv 2048,iv 65536] 85]) (fun b3=>?_)))
 refine ie (sd 12 rfl (by kernel_rfl) rfl ?_)
 refine dp' 2 10 [(20,iv y1.1),(21,iv y1.2.2)] ?_
 refine dd rfl (U5 Tryz.underlying85 ty3 rfl rfl rfl ((y1.2.2).toNat) (by omega) (by omega)) ?_
 refine dd rfl (N6 (u:=iv (([0,0,128,2048,65536]:List Int).getD ((y1.2.2).toNat) 0)) (c:=D8) (xs:=([0,0,128,2048,65536]:List Int)) (j:=[]) (sz:=1) ty3 (fun _=>rfl) rfl rfl 1 rfl ((y1.2.2).toNat) 0 rfl (gd 0 (by simp only [List.length_cons,List.length_nil];omega)) rfl) ?_
 refine dp' 3 5 [(24,iv (if (([0,0,128,2048,65536]:List Int).getD ((y1.2.2).toNat) 0) > y1.1 then (([0,0,128,2048,65536]:List Int).getD ((y1.2.2).toNat) 0) else y1.1)),(25,iv y1.2.1),(26,iv y1.2.2)] ?_
 have:=C7e y1.1 (([0,0,128,2048,65536]:List Int).getD ((y1.2.2).toNat) 0)
 refine dd rfl (U5 Tryz.underlying85 ty3 rfl rfl rfl ((y1.2.2).toNat) (by omega) (by omega)) ?_
 refine dd rfl (N6 (u:=iv (([0,127,2047,65535,1114111]:List Int).getD ((y1.2.2).toNat) 0)) (c:=D8) (xs:=([0,127,2047,65535,1114111]:List Int)) (j:=[]) (sz:=1) ty3 (fun _=>rfl) rfl rfl 0 rfl ((y1.2.2).toNat) 0 rfl (gd 0 (by simp only [List.length_cons,List.length_nil];omega)) rfl) ?_
 refine dp' 3 0 [(4,iv (if (([0,0,128,2048,65536]:List Int).getD ((y1.2.2).toNat) 0) > y1.1 then (([0,0,128,2048,65536]:List Int).getD ((y1.2.2).toNat) 0) else y1.1)),(5,iv (if (([0,127,2047,65535,1114111]:List Int).getD ((y1.2.2).toNat) 0)<y1.2.1 then (([0,127,2047,65535,1114111]:List Int).getD ((y1.2.2).toNat) 0) else y1.2.1))] ?_
 have:=C7e y1.1 (([0,0,128,2048,65536]:List Int).getD ((y1.2.2).toNat) 0)
 have:=C6w y1.2.1 (([0,127,2047,65535,1114111]:List Int).getD ((y1.2.2).toNat) 0)
 refine de (sr 13 rfl (ip' 4 9 [(33,bv (decide ((if (([0,0,128,2048,65536]:List Int).getD ((y1.2.2).toNat) 0) > y1.1 then (([0,0,128,2048,65536]:List Int).getD ((y1.2.2).toNat) 0) else y1.1)≤(if (([0,127,2047,65535,1114111]:List Int).getD ((y1.2.2).toNat) 0)<y1.2.1 then (([0,127,2047,65535,1114111]:List Int).getD ((y1.2.2).toNat) 0) else y1.2.1))))] ?_))
 refine zia 8 1 33 41 (!((decide ((55296:Int)≤(if (([0,0,128,2048,65536]:List Int).getD ((y1.2.2).toNat) 0) > y1.1 then (([0,0,128,2048,65536]:List Int).getD ((y1.2.2).toNat) 0) else y1.1)))&&(decide ((if (([0,127,2047,65535,1114111]:List Int).getD ((y1.2.2).toNat) 0)<y1.2.1 then (([0,127,2047,65535,1114111]:List Int).getD ((y1.2.2).toNat) 0) else y1.2.1)≤57343)))) (fun g4=>?_) ?_
 ·have g4p:(if (([0,0,128,2048,65536]:List Int).getD ((y1.2.2).toNat) 0) > y1.1 then (([0,0,128,2048,65536]:List Int).getD ((y1.2.2).toNat) 0) else y1.1)≤(if (([0,127,2047,65535,1114111]:List Int).getD ((y1.2.2).toNat) 0)<y1.2.1 then (([0,127,2047,65535,1114111]:List Int).getD ((y1.2.2).toNat) 0) else y1.2.1):=by first|exact of_decide_eq_true g4|simpa only [Bool.and_eq_true,Bool.not_eq_true',Bool.and_eq_false_imp,decide_eq_true_eq,decide_eq_false_iff_not,not_and] using g4|simpa using g4
  refine ip' 3 5 [(36,bv (decide ((55296:Int)≤(if (([0,0,128,2048,65536]:List Int).getD ((y1.2.2).toNat) 0) > y1.1 then (([0,0,128,2048,65536]:List Int).getD ((y1.2.2).toNat) 0) else y1.1))))] ?_
  refine zia 3 2 36 39 (decide ((if (([0,127,2047,65535,1114111]:List Int).getD ((y1.2.2).toNat) 0)<y1.2.1 then (([0,127,2047,65535,1114111]:List Int).getD ((y1.2.2).toNat) 0) else y1.2.1)≤57343)) (fun g5=>?_) ?_
  ·have g5p:(55296:Int)≤(if (([0,0,128,2048,65536]:List Int).getD ((y1.2.2).toNat) 0) > y1.1 then (([0,0,128,2048,65536]:List Int).getD ((y1.2.2).toNat) 0) else y1.1):=by first|exact of_decide_eq_true g5|simpa only [Bool.and_eq_true,Bool.not_eq_true',Bool.and_eq_false_imp,decide_eq_true_eq,decide_eq_false_iff_not,not_and] using g5|simpa using g5
   refine ip' 3 0 [(39,bv (decide ((if (([0,127,2047,65535,1114111]:List Int).getD ((y1.2.2).toNat) 0)<y1.2.1 then (([0,127,2047,65535,1114111]:List Int).getD ((y1.2.2).toNat) 0) else y1.2.1)≤57343)))] ?_
   exact zai 2 36 39 g5
  refine ip' 2 0 [(41,bv (!((decide ((55296:Int)≤(if (([0,0,128,2048,65536]:List Int).getD ((y1.2.2).toNat) 0) > y1.1 then (([0,0,128,2048,65536]:List Int).getD ((y1.2.2).toNat) 0) else y1.1)))&&(decide ((if (([0,127,2047,65535,1114111]:List Int).getD ((y1.2.2).toNat) 0)<y1.2.1 then (([0,127,2047,65535,1114111]:List Int).getD ((y1.2.2).toNat) 0) else y1.2.1)≤57343)))))] ?_
  exact zai 4 33 41 g4
 refine ip' 1 0 [(9,bv ((decide ((if (([0,0,128,2048,65536]:List Int).getD ((y1.2.2).toNat) 0) > y1.1 then (([0,0,128,2048,65536]:List Int).getD ((y1.2.2).toNat) 0) else y1.1)≤(if (([0,127,2047,65535,1114111]:List Int).getD ((y1.2.2).toNat) 0)<y1.2.1 then (([0,127,2047,65535,1114111]:List Int).getD ((y1.2.2).toNat) 0) else y1.2.1)))&&(!((decide ((55296:Int)≤(if (([0,0,128,2048,65536]:List Int).getD ((y1.2.2).toNat) 0) > y1.1 then (([0,0,128,2048,65536]:List Int).getD ((y1.2.2).toNat) 0) else y1.1)))&&(decide ((if (([0,127,2047,65535,1114111]:List Int).getD ((y1.2.2).toNat) 0)<y1.2.1 then (([0,127,2047,65535,1114111]:List Int).getD ((y1.2.2).toNat) 0) else y1.2.1)≤57343))))))] ?_
 refine ie (sr 10 rfl (ip' 3 7 [(42,bv ((decide ((if (([0,0,128,2048,65536]:List Int).getD ((y1.2.2).toNat) 0) > y1.1 then (([0,0,128,2048,65536]:List Int).getD ((y1.2.2).toNat) 0) else y1.1)≤(if (([0,127,2047,65535,1114111]:List Int).getD ((y1.2.2).toNat) 0)<y1.2.1 then (([0,127,2047,65535,1114111]:List Int).getD ((y1.2.2).toNat) 0) else y1.2.1)))&&(!((decide ((55296:Int)≤(if (([0,0,128,2048,65536]:List Int).getD ((y1.2.2).toNat) 0) > y1.1 then (([0,0,128,2048,65536]:List Int).getD ((y1.2.2).toNat) 0) else y1.1)))&&(decide ((if (([0,127,2047,65535,1114111]:List Int).getD ((y1.2.2).toNat) 0)<y1.2.1 then (([0,127,2047,65535,1114111]:List Int).getD ((y1.2.2).toNat) 0) else y1.2.1)≤57343)))))),(44,bv ((decide ((if (([0,0,128,2048,65536]:List Int).getD ((y1.2.2).toNat) 0) > y1.1 then (([0,0,128,2048,65536]:List Int).getD ((y1.2.2).toNat) 0) else y1.1)≤(if (([0,127,2047,65535,1114111]:List Int).getD ((y1.2.2).toNat) 0)<y1.2.1 then (([0,127,2047,65535,1114111]:List Int).getD ((y1.2.2).toNat) 0) else y1.2.1)))&&(!((decide ((55296:Int)≤(if (([0,0,128,2048,65536]:List Int).getD ((y1.2.2).toNat) 0) > y1.1 then (([0,0,128,2048,65536]:List Int).getD ((y1.2.2).toNat) 0) else y1.1)))&&(decide ((if (([0,127,2047,65535,1114111]:List Int).getD ((y1.2.2).toNat) 0)<y1.2.1 then (([0,127,2047,65535,1114111]:List Int).getD ((y1.2.2).toNat) 0) else y1.2.1)≤57343))))))] ?_))
 refine zia 5 2 44 49 (decide ((p.length:Int)=y1.2.2)) (fun g6=>?_) ?_
 ·have g6p:((if (([0,0,128,2048,65536]:List Int).getD ((y1.2.2).toNat) 0) > y1.1 then (([0,0,128,2048,65536]:List Int).getD ((y1.2.2).toNat) 0) else y1.1)≤(if (([0,127,2047,65535,1114111]:List Int).getD ((y1.2.2).toNat) 0)<y1.2.1 then (([0,127,2047,65535,1114111]:List Int).getD ((y1.2.2).toNat) 0) else y1.2.1))∧(¬ (((55296:Int)≤(if (([0,0,128,2048,65536]:List Int).getD ((y1.2.2).toNat) 0) > y1.1 then (([0,0,128,2048,65536]:List Int).getD ((y1.2.2).toNat) 0) else y1.1))∧((if (([0,127,2047,65535,1114111]:List Int).getD ((y1.2.2).toNat) 0)<y1.2.1 then (([0,127,2047,65535,1114111]:List Int).getD ((y1.2.2).toNat) 0) else y1.2.1)≤57343))):=by first|exact of_decide_eq_true g6|simpa only [Bool.and_eq_true,Bool.not_eq_true',Bool.and_eq_false_imp,decide_eq_true_eq,decide_eq_false_iff_not,not_and] using g6|simpa using g6
  refine ip' 5 0 [(49,bv (decide ((p.length:Int)=y1.2.2)))] ?_
  exact zai 2 44 49 g6
 refine ip' 2 0 [(2,bv ((decide ((if (([0,0,128,2048,65536]:List Int).getD ((y1.2.2).toNat) 0) > y1.1 then (([0,0,128,2048,65536]:List Int).getD ((y1.2.2).toNat) 0) else y1.1)≤(if (([0,127,2047,65535,1114111]:List Int).getD ((y1.2.2).toNat) 0)<y1.2.1 then (([0,127,2047,65535,1114111]:List Int).getD ((y1.2.2).toNat) 0) else y1.2.1)))&&(!((decide ((55296:Int)≤(if (([0,0,128,2048,65536]:List Int).getD ((y1.2.2).toNat) 0) > y1.1 then (([0,0,128,2048,65536]:List Int).getD ((y1.2.2).toNat) 0) else y1.1)))&&(decide ((if (([0,127,2047,65535,1114111]:List Int).getD ((y1.2.2).toNat) 0)<y1.2.1 then (([0,127,2047,65535,1114111]:List Int).getD ((y1.2.2).toNat) 0) else y1.2.1)≤57343)))))),(3,bv (((decide ((if (([0,0,128,2048,65536]:List Int).getD ((y1.2.2).toNat) 0) > y1.1 then (([0,0,128,2048,65536]:List Int).getD ((y1.2.2).toNat) 0) else y1.1)≤(if (([0,127,2047,65535,1114111]:List Int).getD ((y1.2.2).toNat) 0)<y1.2.1 then (([0,127,2047,65535,1114111]:List Int).getD ((y1.2.2).toNat) 0) else y1.2.1)))&&(!((decide ((55296:Int)≤(if (([0,0,128,2048,65536]:List Int).getD ((y1.2.2).toNat) 0) > y1.1 then (([0,0,128,2048,65536]:List Int).getD ((y1.2.2).toNat) 0) else y1.1)))&&(decide ((if (([0,127,2047,65535,1114111]:List Int).getD ((y1.2.2).toNat) 0)<y1.2.1 then (([0,127,2047,65535,1114111]:List Int).getD ((y1.2.2).toNat) 0) else y1.2.1)≤57343)))))&&(decide ((p.length:Int)=y1.2.2))))] ?_
 subst hR
 refine ie (A5 ?_)
 exact A0o hr hD
def Y0 (b:UInt8):List UInt8×List Int :=
 (C0 (N5 (([]:List UInt8)++([b]:List UInt8))) fun (y6:Bool×Bool)=>(bif y6.2 then (C0 (K9 (([]:List UInt8)++([b]:List UInt8))) fun (y1:Int×Int×Int)=>(([]:List UInt8),([y1.1]:List Int))) else (bif y6.1 then ((([]:List UInt8)++([b]:List UInt8)),([]:List Int)) else (([]:List UInt8),([65533]:List Int)))))
def A3m (b:UInt8):List UInt8×List Int :=
 (bif (!A7o) then Y0 b else Y0 b)
theorem B7w (b:UInt8):(Y0 b).1.length≤4∧(Y0 b).2.length≤2:=by
 unfold Y0
 simp only [C0]
 cases (N5 (([]:List UInt8)++([b]:List UInt8))).2<;>cases (N5 (([]:List UInt8)++([b]:List UInt8))).1<;>simp
theorem B4u (b:UInt8):(A3m b).1.length≤4∧(A3m b).2.length≤2:=by
 unfold A3m
 cases (!A7o)<;>simp only [cond_true,cond_false]<;>exact B7w b
theorem C6x (b:UInt8) (hp:([]:List Unit).length≤4) (R:List UInt8×List Int) (hR:A3m b=R):Con Tryz.prog 212 [.slice none 0 0,.int .u8 (b.toNat:Int)] [] [] ({t:Option Addr×Nat // R.1.length≤t.2∧R.1.length≤9223372036854775807}×{t:Option Addr×Nat // R.2.length≤t.2∧R.2.length≤9223372036854775807}) (fun x=>.tuple #[.slice x.1.1.1 R.1.length x.1.1.2,.slice x.2.1.1 R.2.length x.2.1.2]) (fun x=>[]) (fun x=>[sl cU8 x.1.1.1 R.1,sl D8 x.2.1.1 R.2]):=by
 refine zco Tryz.func212 [(0,.slice none 0 0),(1,.int .u8 (b.toNat:Int))] fun X hX hr hD=>?_
 replace hR:=(A3m.eq_1 ..).symm.trans hR
 refine sr 2 rfl (ip' 2 0 [] ?_)
 refine ie (B5y (fun (_:Unit)=>(Y0 b=R,[(0,.slice none 0 0),(1,.int .u8 (b.toNat:Int))],[],[])) ?_ ?_)
 ·refine sr 3 rfl (ip' 1 2 [(14,.slice none 0 0)] ?_)
  refine zca (C5n _ rfl) A1.nil ?_
  refine ip' 1 0 [(16,bv (!A7o))] ?_
  refine ie ?_
  refine zjb rfl hR ?_ ?_<;>clear hR<;>intro hR h1
  ·refine A3 1 rfl (ip' 1 0 [(0,.slice none 0 0)] ?_)
   refine A7 ?_
   exact V4 () hR (mk [] rfl) A1.nil
  refine A6 ?_
  exact V4 () hR (mk [] rfl) A1.nil
 intro _
 rintro hR
 replace hR:=(Y0.eq_1 ..).symm.trans hR
 refine sr 7 rfl (it rfl (B8d A1d rfl rfl) fun b2=>?_)
 have:([]:List UInt8).length=0:=rfl
 refine ip' 1 5 [(18,.slice none 0 0)] ?_
 refine ix rfl (D1z B3o rfl rfl rfl rfl rfl rfl (by first|omega|exact Nat.zero_le _|exact VOk.cap (show VOk 1 0 _ from ⟨rfl,Nat.zero_le _,Nat.zero_le _⟩))) ?_
 have:([]:List UInt8).length=0:=rfl
 refine ip' 1 3 [(20,.int .u8 (b.toNat:Int))] ?_
 refine it rfl (B5 (c:=cU8) (xs:=([b]:List UInt8)) A1d rfl rfl rfl (by kernel_rfl)) fun b3=>?_
 have:([b]:List UInt8).length=1:=rfl
 refine it rfl (A9n (f:=cU8) (r:=(⟨some b2,0,[]⟩:VR)) (xs:=([]:List UInt8)) (ys:=([b]:List UInt8)) (pre:=[]) (post:=[]) B3o (fun _=>rfl) (fun _=>rfl) rfl rfl rfl rfl rfl rfl rfl rfl rfl (B1 0 rfl) (show VOk 1 0 _ from ⟨rfl,Nat.zero_le _,Nat.zero_le _⟩) (by first|omega|(simp<;>omega)) (by first|omega|(simp<;>omega))) fun ⟨r4,hr5⟩=>?_
 have:=VOk.le hr5
 have:=VOk.cap hr5
 refine ip' 1 0 [(6,.slice (va r4.q) ((([]:List UInt8)++([b]:List UInt8)).length) r4.k)] ?_
 refine ie (sr 7 rfl (ip' 1 6 [(24,.slice (va r4.q) ((([]:List UInt8)++([b]:List UInt8)).length) r4.k)] ?_))
 have:=VOk.cap hr5
 have:=VOk.le hr5
 refine A7f [] [] (T:=5) (c:=cU8) (r:=r4) (xs:=(([]:List UInt8)++([b]:List UInt8))) hr5 (by first|rfl|simp only [List.cons_append,List.append_assoc,List.nil_append,List.append_nil]) ?_
 have hQ:=C3 hR;clear hR;obtain ⟨y6,hy6,hR⟩:=hQ
 refine zca (B1p (([]:List UInt8)++([b]:List UInt8)) (va r4.q) r4.k (by first|omega|(simp<;>omega)|(dsimp only;omega)|decide) (by first|omega|(simp<;>omega)|(dsimp only;omega)|decide) y6 hy6) (A1.pick [0] rfl) ?_
 refine ip' 5 0 [(7,bv y6.1),(8,bv y6.2)] ?_
 refine ie (A9 (sr 1 rfl (ip' 1 0 [(28,bv y6.2)] ?_)))
 refine ie ?_
 refine zjb rfl hR ?_ ?_<;>clear hR<;>intro hR h6
 ·refine sr 9 rfl (ip' 1 8 [(30,.slice (va r4.q) ((([]:List UInt8)++([b]:List UInt8)).length) r4.k)] ?_)
  have hQ:=C3 hR;clear hR;obtain ⟨y1,hy1,hR⟩:=hQ
  refine zca (B1k (([]:List UInt8)++([b]:List UInt8)) (va r4.q) r4.k (by first|omega|(simp<;>omega)|(dsimp only;omega)|decide) (by first|omega|(simp<;>omega)|(dsimp only;omega)|decide) y1 hy1) (A1.pick [0] rfl) ?_
  have:=A6e (([]:List UInt8)++([b]:List UInt8));try rw [hy1] at this
  refine ip' 7 0 [(9,iv y1.1)] ?_
  refine ie (sr 4 rfl (ip' 1 3 [(35,iv y1.1)] ?_))
  refine it rfl (B5 (c:=D8) (xs:=([y1.1]:List Int)) F9 rfl rfl rfl (by kernel_rfl)) fun b7=>?_
  have:([y1.1]:List Int).length=1:=rfl
  refine ip' 2 0 [(4,.slice none 0 0),(5,.slice (some ⟨b7,0,none⟩) 1 1)] ?_
  subst hR
  refine ie (A5 ?_)
  exact zer hr hD (A5m rfl (B8 rfl) (B8 rfl)) ((zq none 0),(zq (some ⟨b7,0,none⟩) 1)) (mk [] rfl) (A1.con1 A1q (A1.con1 (B1 0 rfl) A1.nil))
 refine A6 (nx (A9 (sr 1 rfl (ip' 1 0 [(37,bv y6.1)] ?_))))
 refine ie ?_
 refine zjb rfl hR ?_ ?_<;>clear hR<;>intro hR h8
 ·refine sr 3 rfl (ip' 3 0 [(4,.slice (va r4.q) ((([]:List UInt8)++([b]:List UInt8)).length) r4.k),(5,.slice none 0 0)] ?_)
  subst hR
  refine ie (A5 ?_)
  exact zer hr hD (A5m rfl (B8 rfl) (B8 rfl)) ((zq (va r4.q) r4.k),(zq none 0)) (mk [] rfl) (A1.con1 (B1 0 rfl) (A1.con1 A1q A1.nil))
 refine A6 (nx (A9 (sr 3 rfl (ip' 3 0 [(41,bv true)] ?_))))
 refine ie (O0 rfl (sr 3 rfl (it rfl (B5 (c:=D8) (xs:=([65533]:List Int)) F9 rfl rfl rfl (by kernel_rfl)) fun b9=>?_)))
 have:([65533]:List Int).length=1:=rfl
 refine ip' 2 0 [(4,.slice none 0 0),(5,.slice (some ⟨b9,0,none⟩) 1 1)] ?_
 subst hR
 refine ie (A5 ?_)
 exact zer hr hD (A5m rfl (B8 rfl) (B8 rfl)) ((zq none 0),(zq (some ⟨b9,0,none⟩) 1)) (mk [] rfl) (A1.con1 A1q (A1.con1 (B1 0 rfl) A1.nil))
def S9 (p:List UInt8):Bool :=
 (C0 (N5 p) fun (y6:Bool×Bool)=>((decide ((p.length:Int)=0))||(y6.1&&(!y6.2))))
theorem B5e (p:List UInt8) (pq:Option Addr) (pk:Nat) (hlp:p.length≤9223372036854775807) (hcp:p.length≤pk) (R:Bool) (hR:S9 p=R):I4 Tryz.prog 225 [.slice pq p.length pk] [sl cU8 pq p] (bv R):=by
 refine zco Tryz.func225 [(0,.slice pq p.length pk)] fun X hX hr hD=>?_
 replace hR:=(S9.eq_1 ..).symm.trans hR
 refine sr 1 rfl (ip' 1 0 [] ?_)
 refine ie (sr 7 rfl (ip' 1 6 [(6,.slice pq p.length pk)] ?_))
 have hQ:=C3 hR;clear hR;obtain ⟨y6,hy6,hR⟩:=hQ
 refine zca (B1p p pq pk (by first|omega|(simp<;>omega)|(dsimp only;omega)|decide) (by first|omega|(simp<;>omega)|(dsimp only;omega)|decide) y6 hy6) A1.refl ?_
 refine ip' 5 0 [(3,bv y6.1),(4,bv y6.2)] ?_
 refine ie (sr 11 rfl (ip' 4 7 [(13,bv (decide ((p.length:Int)=0)))] ?_))
 refine zir 6 1 13 19 (y6.1&&(!y6.2)) (fun g1 g1p=>?_) ?_
 ·refine ip' 2 4 [(15,bv y6.1)] ?_
  refine zia 3 1 15 18 (!y6.2) (fun g2=>?_) ?_
  ·refine ip' 3 0 [(18,bv (!y6.2))] ?_
   exact zai 2 15 18 g2
  refine ip' 1 0 [(19,bv (y6.1&&(!y6.2)))] ?_
  exact zai 4 13 19 g1
 refine ip' 1 0 [(2,bv ((decide ((p.length:Int)=0))||(y6.1&&(!y6.2))))] ?_
 subst hR
 refine ie (A5 ?_)
 exact C9 hr hD
def V5 (b:UInt8) (pending1:List UInt8):List UInt8×List Int :=
 (C0 (N5 ((([]:List UInt8)++pending1)++([b]:List UInt8))) fun (y6:Bool×Bool)=>(bif y6.2 then (C0 (K9 ((([]:List UInt8)++pending1)++([b]:List UInt8))) fun (y1:Int×Int×Int)=>(([]:List UInt8),([y1.1]:List Int))) else (bif y6.1 then (((([]:List UInt8)++pending1)++([b]:List UInt8)),([]:List Int)) else (bif (decide ((pending1.length:Int)=0)) then (([]:List UInt8),([65533]:List Int)) else (C0 (A3m b) fun (y8:List UInt8×List Int)=>(y8.1,(([65533]:List Int)++y8.2)))))))
def Z8 (pending:List UInt8) (b:UInt8):List UInt8×List Int :=
 (bif (!(S9 pending)) then V5 b ([]:List UInt8) else V5 b pending)
theorem B6v (b:UInt8) (p:List UInt8):(V5 b p).1.length≤4∧(V5 b p).2.length≤3:=by
 unfold V5
 simp only [C0]
 have hs:=B4u b
 cases h2:(N5 ((([]:List UInt8)++p)++([b]:List UInt8))).2 with
 | true=>simp
 | false =>
  rw [cond_false]
  cases h1:(N5 ((([]:List UInt8)++p)++([b]:List UInt8))).1 with
  | true =>
   have:=C2q _ h1
   simp only [cond_true,List.length_nil];omega
  | false =>
   rw [cond_false]
   cases (decide ((p.length:Int)=0)) with
   | true=>simp
   | false=>simp only [cond_false,List.length_append,List.length_cons,List.length_nil];omega
theorem B3t (p:List UInt8) (b:UInt8):(Z8 p b).1.length≤4∧(Z8 p b).2.length≤3:=by
 unfold Z8
 cases (!(S9 p))<;>simp only [cond_true,cond_false]<;>exact B6v b _
theorem C5g (pending:List UInt8) (b:UInt8) (pendingq:Option Addr) (pendingk:Nat) (hlpending:pending.length≤9223372036854775807) (hcpending:pending.length≤pendingk) (hp:pending.length≤4) (R:List UInt8×List Int) (hR:Z8 pending b=R):Con Tryz.prog 212 [.slice pendingq pending.length pendingk,.int .u8 (b.toNat:Int)] [] [sl cU8 pendingq pending] ({t:Option Addr×Nat // R.1.length≤t.2∧R.1.length≤9223372036854775807}×{t:Option Addr×Nat // R.2.length≤t.2∧R.2.length≤9223372036854775807}) (fun x=>.tuple #[.slice x.1.1.1 R.1.length x.1.1.2,.slice x.2.1.1 R.2.length x.2.1.2]) (fun x=>[]) (fun x=>[sl cU8 x.1.1.1 R.1,sl D8 x.2.1.1 R.2]):=by
 refine zco Tryz.func212 [(0,.slice pendingq pending.length pendingk),(1,.int .u8 (b.toNat:Int))] fun X hX hr hD=>?_
 replace hR:=(Z8.eq_1 ..).symm.trans hR
 refine sr 2 rfl (ip' 2 0 [] ?_)
 refine ie (E3p (fun (pending1:List UInt8) (pendingq1:Option Addr) (pendingk1:Nat)=>(V5 b pending1=R∧pending1.length≤pendingk1∧pending1.length≤9223372036854775807∧pending1.length≤4,[(0,.slice pendingq1 pending1.length pendingk1),(1,.int .u8 (b.toNat:Int))],[],[sl cU8 pendingq pending,sl cU8 pendingq1 pending1])) ?_ ?_)
 ·refine sr 3 rfl (ip' 1 2 [(14,.slice pendingq pending.length pendingk)] ?_)
  refine zca (B5e pending pendingq pendingk (by first|omega|(simp<;>omega)|(dsimp only;omega)|decide) (by first|omega|(simp<;>omega)|(dsimp only;omega)|decide) _ rfl) A1.refl ?_
  refine ip' 1 0 [(16,bv (!(S9 pending)))] ?_
  refine ie ?_
  refine zjb rfl hR ?_ ?_<;>clear hR<;>intro hR h1
  ·refine A3 1 rfl (ip' 1 0 [(0,.slice none 0 0)] ?_)
   refine A7 ?_
   exact D4t ([]:List UInt8) none 0 ⟨hR,(by first|omega|(simp<;>omega)|(dsimp only;omega)|decide),(by first|omega|(simp<;>omega)|(dsimp only;omega)|decide),(by first|omega|(simp<;>omega))⟩ (mk [] rfl) (A1.con1 (B1 0 rfl) (A1.con1 A1q A1.nil))
  refine A6 ?_
  exact D4t pending pendingq pendingk ⟨hR,(by first|omega|(simp<;>omega)|(dsimp only;omega)|decide),(by first|omega|(simp<;>omega)|(dsimp only;omega)|decide),(by first|omega|(simp<;>omega))⟩ (mk [] rfl) (A1.pick [0,0] rfl)
 intro pending1 pendingq1 pendingk1
 rintro ⟨hR,hcpending1,hlpending1,hj⟩
 replace hR:=(V5.eq_1 ..).symm.trans hR
 refine sr 7 rfl (it rfl (B8d A1d rfl rfl) fun b2=>?_)
 have:([]:List UInt8).length=0:=rfl
 refine ip' 1 5 [(18,.slice pendingq1 pending1.length pendingk1)] ?_
 refine it rfl (B4q (f:=cU8) (r:=(⟨some b2,0,[]⟩:VR)) (xs:=([]:List UInt8)) (ys:=pending1) (pre:=[]) (post:=[]) B3o (fun _=>rfl) (fun _=>rfl) rfl rfl rfl rfl rfl rfl rfl rfl (B1 1 rfl) (show VOk 1 0 _ from ⟨rfl,Nat.zero_le _,Nat.zero_le _⟩) (by first|omega|(simp<;>omega)) (by first|omega|(simp<;>omega))) fun ⟨r3,hr4⟩=>?_
 have:=VOk.le hr4
 have:=VOk.cap hr4
 refine ip' 1 3 [(20,.int .u8 (b.toNat:Int))] ?_
 refine it rfl (B5 (c:=cU8) (xs:=([b]:List UInt8)) A1d rfl rfl rfl (by kernel_rfl)) fun b5=>?_
 have:([b]:List UInt8).length=1:=rfl
 refine it rfl (A9n (f:=cU8) (r:=r3) (xs:=(([]:List UInt8)++pending1)) (ys:=([b]:List UInt8)) (pre:=[]) (post:=[]) B3o (fun _=>rfl) (fun _=>rfl) rfl rfl rfl rfl rfl rfl rfl rfl rfl (B1 0 rfl) hr4 (by first|omega|(simp<;>omega)) (by first|omega|(simp<;>omega))) fun ⟨r6,hr7⟩=>?_
 have:=VOk.le hr7
 have:=VOk.cap hr7
 refine ip' 1 0 [(6,.slice (va r6.q) (((([]:List UInt8)++pending1)++([b]:List UInt8)).length) r6.k)] ?_
 refine ie (sr 7 rfl (ip' 1 6 [(24,.slice (va r6.q) (((([]:List UInt8)++pending1)++([b]:List UInt8)).length) r6.k)] ?_))
 have:=VOk.cap hr7
 have:=VOk.le hr7
 refine A7f [] [] (T:=5) (c:=cU8) (r:=r6) (xs:=((([]:List UInt8)++pending1)++([b]:List UInt8))) hr7 (by first|rfl|simp only [List.cons_append,List.append_assoc,List.nil_append,List.append_nil]) ?_
 have hQ:=C3 hR;clear hR;obtain ⟨y6,hy6,hR⟩:=hQ
 refine zca (B1p ((([]:List UInt8)++pending1)++([b]:List UInt8)) (va r6.q) r6.k (by first|omega|(simp<;>omega)|(dsimp only;omega)|decide) (by first|omega|(simp<;>omega)|(dsimp only;omega)|decide) y6 hy6) (A1.pick [0] rfl) ?_
 refine ip' 5 0 [(7,bv y6.1),(8,bv y6.2)] ?_
 refine ie (A9 (sr 1 rfl (ip' 1 0 [(28,bv y6.2)] ?_)))
 refine ie ?_
 refine zjb rfl hR ?_ ?_<;>clear hR<;>intro hR h8
 ·refine sr 9 rfl (ip' 1 8 [(30,.slice (va r6.q) (((([]:List UInt8)++pending1)++([b]:List UInt8)).length) r6.k)] ?_)
  have hQ:=C3 hR;clear hR;obtain ⟨y1,hy1,hR⟩:=hQ
  refine zca (B1k ((([]:List UInt8)++pending1)++([b]:List UInt8)) (va r6.q) r6.k (by first|omega|(simp<;>omega)|(dsimp only;omega)|decide) (by first|omega|(simp<;>omega)|(dsimp only;omega)|decide) y1 hy1) (A1.pick [0] rfl) ?_
  have:=A6e ((([]:List UInt8)++pending1)++([b]:List UInt8));try rw [hy1] at this
  refine ip' 7 0 [(9,iv y1.1)] ?_
  refine ie (sr 4 rfl (ip' 1 3 [(35,iv y1.1)] ?_))
  refine it rfl (B5 (c:=D8) (xs:=([y1.1]:List Int)) F9 rfl rfl rfl (by kernel_rfl)) fun b9=>?_
  have:([y1.1]:List Int).length=1:=rfl
  refine ip' 2 0 [(4,.slice none 0 0),(5,.slice (some ⟨b9,0,none⟩) 1 1)] ?_
  subst hR
  refine ie (A5 ?_)
  exact zer hr hD (A5m rfl (B8 rfl) (B8 rfl)) ((zq none 0),(zq (some ⟨b9,0,none⟩) 1)) (mk [] rfl) (A1.con1 A1q (A1.con1 (B1 0 rfl) A1.nil))
 refine A6 (nx (A9 (sr 1 rfl (ip' 1 0 [(37,bv y6.1)] ?_))))
 refine ie ?_
 refine zjb rfl hR ?_ ?_<;>clear hR<;>intro hR h10
 ·refine sr 3 rfl (ip' 3 0 [(4,.slice (va r6.q) (((([]:List UInt8)++pending1)++([b]:List UInt8)).length) r6.k),(5,.slice none 0 0)] ?_)
  subst hR
  refine ie (A5 ?_)
  exact zer hr hD (A5m rfl (B8 rfl) (B8 rfl)) ((zq (va r6.q) r6.k),(zq none 0)) (mk [] rfl) (A1.con1 (B1 0 rfl) (A1.con1 A1q A1.nil))
 refine A6 (nx (A9 (sr 3 rfl (ip' 3 0 [(41,bv (decide ((pending1.length:Int)=0)))] ?_))))
 refine ie ?_
 refine zjd rfl hR ?_ ?_<;>clear hR<;>intro hR h11 h11p
 ·refine sr 3 rfl (it rfl (B5 (c:=D8) (xs:=([65533]:List Int)) F9 rfl rfl rfl (by kernel_rfl)) fun b12=>?_)
  have:([65533]:List Int).length=1:=rfl
  refine ip' 2 0 [(4,.slice none 0 0),(5,.slice (some ⟨b12,0,none⟩) 1 1)] ?_
  subst hR
  refine ie (A5 ?_)
  exact zer hr hD (A5m rfl (B8 rfl) (B8 rfl)) ((zq none 0),(zq (some ⟨b12,0,none⟩) 1)) (mk [] rfl) (A1.con1 A1q (A1.con1 (B1 0 rfl) A1.nil))
 refine A6 (nx (sr 7 rfl (ip' 1 6 [(44,.int .u8 (b.toNat:Int))] ?_)))
 have hQ:=C3 hR;clear hR;obtain ⟨y8,hy8,hR⟩:=hQ
 refine zcm (C6x b (by first|omega|(simp<;>omega)) y8 hy8) A1.nil fun ⟨⟨⟨q13,k14⟩,hp15⟩,⟨⟨q18,k19⟩,hp20⟩⟩=>?_
 obtain ⟨hc16,hl17⟩:=hp15
 obtain ⟨hc21,hl22⟩:=hp20
 have:=B4u b;try rw [hy8] at this
 refine ip' 5 0 [(12,.slice q13 y8.1.length k14),(13,.slice q18 y8.2.length k19)] ?_
 refine ie (sr 6 rfl (ip' 1 5 [(48,.slice q13 y8.1.length k14)] ?_))
 refine it rfl (B5 (c:=D8) (xs:=([65533]:List Int)) F9 rfl rfl rfl (by kernel_rfl)) fun b23=>?_
 have:([65533]:List Int).length=1:=rfl
 refine ip' 1 3 [(50,.slice q18 y8.2.length k19)] ?_
 refine it rfl (C2g (f:=D8) (xs:=([65533]:List Int)) (ys:=y8.2) B7f (fun _=>rfl) (fun _=>rfl) rfl rfl rfl rfl rfl rfl (by omega) (by omega) (by rfl) (B1 0 rfl) (B1 2 rfl) (by first|omega|(simp<;>omega)) (by first|omega|(simp<;>omega))) fun ⟨⟨q24,k25⟩,hq26⟩=>?_
 refine ip' 2 0 [(4,.slice q13 y8.1.length k14),(5,.slice q24 ((([65533]:List Int)++y8.2).length) k25)] ?_
 subst hR
 refine ie (A5 ?_)
 exact zer hr hD (A5m rfl (B8 rfl) (B8 rfl)) ((zq q13 k14),(zq q24 k25)) (mk [] rfl) (A1.con1 (B1 2 rfl) (A1.con1 (B1 0 rfl) A1.nil))
def A5j (pending:List UInt8):List Int :=
 (bif ((decide ((0:Int)<(pending.length:Int)))&&(S9 pending)) then ([65533]:List Int) else ([]:List Int))
theorem B3q (p:List UInt8):(A5j p).length≤1:=by
 unfold A5j
 cases ((decide ((0:Int)<(p.length:Int)))&&(S9 p))<;>simp
theorem C5m (pending:List UInt8) (pendingq:Option Addr) (pendingk:Nat) (hlpending:pending.length≤9223372036854775807) (hcpending:pending.length≤pendingk) (R:List Int) (hR:A5j pending=R):Con Tryz.prog 213 [.slice pendingq pending.length pendingk] [] [sl cU8 pendingq pending] ({t:Option Addr×Nat // R.length≤t.2∧R.length≤9223372036854775807}) (fun x=>.slice x.1.1 R.length x.1.2) (fun x=>[]) (fun x=>[sl D8 x.1.1 R]):=by
 refine zco Tryz.func213 [(0,.slice pendingq pending.length pendingk)] fun X hX hr hD=>?_
 replace hR:=(A5j.eq_1 ..).symm.trans hR
 refine sr 1 rfl (ip' 1 0 [] ?_)
 refine ie (A9 (sr 7 rfl (ip' 4 3 [(6,bv (decide ((0:Int)<(pending.length:Int))))] ?_)))
 refine zid 3 0 6 9 (S9 pending) (fun g1 g1p=>?_) ?_
 ·refine ip' 1 2 [(7,.slice pendingq pending.length pendingk)] ?_
  refine zca (B5e pending pendingq pendingk (by first|omega|(simp<;>omega)|(dsimp only;omega)|decide) (by first|omega|(simp<;>omega)|(dsimp only;omega)|decide) _ rfl) A1.refl ?_
  refine ip' 1 0 [(9,bv (S9 pending))] ?_
  exact zai 4 6 9 g1
 refine ie ?_
 refine zjb rfl hR ?_ ?_<;>clear hR<;>intro hR h2
 ·have h2p:=h2;try simp at h2p
  refine sr 2 rfl (it rfl (B5 (c:=D8) (xs:=([65533]:List Int)) F9 rfl rfl rfl (by kernel_rfl)) fun b3=>?_)
  have:([65533]:List Int).length=1:=rfl
  refine ip' 1 0 [(2,.slice (some ⟨b3,0,none⟩) 1 1)] ?_
  subst hR
  refine ie (A5 ?_)
  exact zer hr hD (M4 rfl (B8 rfl)) (zq (some ⟨b3,0,none⟩) 1) (mk [] rfl) (A1.con1 (B1 0 rfl) A1.nil)
 have h2p:=h2;try simp at h2p
 refine A6 (nx (sr 1 rfl (ip' 1 0 [(2,.slice none 0 0)] ?_)))
 subst hR
 refine ie (A5 ?_)
 exact zer hr hD (M4 rfl (B8 rfl)) (zq none 0) (mk [] rfl) (A1.con1 A1q A1.nil)
def Q0:List UInt8→List Int→List UInt8→Nat→List Int
 | [],out,pending,i=>(C0 (A5j pending) fun (y28:List Int)=>(out++y28))
 | hd_l0::tl_l0,out,pending,i=>(C0 (Z8 pending hd_l0) fun (y16:List UInt8×List Int)=>Q0 tl_l0 (out++y16.2) y16.1 (i+1))
def A2b (s:List UInt8):List Int :=
 Q0 s ([]:List Int) ([]:List UInt8) 0
theorem A9j:∀ (xs:List UInt8) (out:List Int) (p:List UInt8) (i:Nat),(Q0 xs out p i).length≤out.length+3 * xs.length+1
 | [],out,p,i=>by
  have:=B3q p
  simp only [Q0,C0,List.length_append,List.length_nil];omega
 | x::xs,out,p,i=>by
  have:=B3t p x
  have:=A9j xs (out++(Z8 p x).2) (Z8 p x).1 (i+1)
  simp only [Q0,C0,List.length_append,List.length_cons] at *;omega
theorem C1e (s:List UInt8):(A2b s).length≤3 * s.length+1:=by
 have:=A9j s [] [] 0
 simp only [List.length_nil] at this
 unfold A2b;omega
theorem C4t (s:List UInt8) (hs:s.length≤1000000) (R:List Int) (hR:A2b s=R):Con Tryz.prog 189 [sv s] [] [] ({r:VR // VOk 1 R.length r}) (fun x=>.slice (va x.1.q) R.length x.1.k) (fun x=>((vo D8 3 x.1 R)++([]))) (fun x=>[]):=by
 refine zco Tryz.func189 [(0,sv s)] fun X hX hr hD=>?_
 replace hR:=(A2b.eq_1 ..).symm.trans hR
 refine sr 1 rfl (ip' 1 0 [] ?_)
 refine ie (sr 1 rfl (ip' 1 0 [(3,.slice none 0 0)] ?_))
 refine ie (sr 1 rfl (ip' 1 0 [(4,.slice none 0 0)] ?_))
 refine ie (A9 (sr 1 rfl (ip' 1 0 [(5,iv 0)] ?_)))
 refine ie (B3 ?_)
 refine E4v (fun (out:List Int) (outr:VR) (pending:List UInt8) (pendingq:Option Addr) (pendingk:Nat) (i:Nat)=>(i≤s.length∧Q0 (s.drop i) out pending i=R∧VOk 1 out.length outr∧pending.length≤pendingk∧pending.length≤9223372036854775807∧pending.length≤4∧out.length≤3 * i,[(0,sv s),(3,.slice (va outr.q) out.length outr.k),(4,.slice pendingq pending.length pendingk),(5,iv (i:Int))],((vo D8 3 outr out)++([])),[sl cU8 pendingq pending],s.length - i)) ([]:List Int) VR.nil ([]:List UInt8) none 0 0 ⟨(by omega),hR,VOk.nil,(by first|omega|(simp<;>omega)|(dsimp only;omega)|decide),(by first|omega|(simp<;>omega)|(dsimp only;omega)|decide),(by simp),(by simp)⟩ (mc [vo D8 3 VR.nil ([]:List Int)] [true] rfl (by first|rfl|(simp only [List.length_set]<;>rfl))) (A1.con1 A1q A1.nil) ?_
 rintro out outr pending pendingq pendingk i ⟨hm1,hR,hokoutr,hcpending,hlpending,hpl,hol⟩
 have:=VOk.le hokoutr
 refine A9 (sr 4 rfl (ip' 4 0 [(11,bv (decide ((i:Int)<(s.length:Int))))] ?_))
 refine ie (A1i rfl (fun h2=>?_) (fun h2=>?_))
 ·have h2p:(i:Int)<(s.length:Int):=by simpa using h2
  rw [A3b 0 (show i<s.length by omega)] at hR;replace hR:=(Q0.eq_2 ..).symm.trans hR
  refine A6 (nx (A9 (B3 (sr 10 rfl (ip' 3 7 [(15,.slice pendingq pending.length pendingk),(16,sv s),(17,iv (i:Int))] ?_)))))
  refine ix rfl (A9c (T:=9) Tryz.underlying9 rfl rfl rfl i rfl (by omega)) ?_
  have hQ:=C3 hR;clear hR;obtain ⟨y16,hy16,hR⟩:=hQ
  refine zcm (C5g pending (s.getD i 0) pendingq pendingk (by first|omega|(simp<;>omega)|(dsimp only;omega)|decide) (by first|omega|(simp<;>omega)|(dsimp only;omega)|decide) (by first|omega|(simp<;>omega)) y16 hy16) A1.refl fun ⟨⟨⟨q3,k4⟩,hp5⟩,⟨⟨q8,k9⟩,hp10⟩⟩=>?_
  obtain ⟨hc6,hl7⟩:=hp5
  obtain ⟨hc11,hl12⟩:=hp10
  have:=B3t pending (s.getD i 0);try rw [hy16] at this
  refine ip' 5 0 [(6,.slice q3 y16.1.length k4),(7,.slice q8 y16.2.length k9)] ?_
  refine ie (sr 2 rfl (ip' 2 0 [(4,.slice q3 y16.1.length k4)] ?_))
  refine ie (A3 4 rfl (ip' 2 2 [(23,.slice (va outr.q) out.length outr.k),(24,.slice q8 y16.2.length k9)] ?_))
  refine it rfl (B4q (f:=D8) (r:=outr) (xs:=out) (ys:=y16.2) (pre:=[]) (post:=[]) B7f (fun _=>rfl) (fun _=>rfl) rfl rfl rfl rfl rfl rfl rfl rfl (B1 1 rfl) hokoutr (by first|omega|(simp<;>omega)) (by first|omega|(simp<;>omega))) fun ⟨r13,hr14⟩=>?_
  have:=@List.length_append _ out y16.2
  have:=VOk.le hr14
  have:=VOk.cap hr14
  refine ip' 1 0 [(3,.slice (va r13.q) ((out++y16.2).length) r13.k)] ?_
  refine A7 (nx (A3 3 rfl (ip' 1 2 [(12,iv (i:Int))] ?_)))
  refine ix rfl (B7 rfl rfl rfl rfl (by omega)) ?_
  refine ip' 1 0 [(5,iv ((i:Int)+1))] ?_
  refine A7 ?_
  exact E3x (z1:=out) (z2:=outr) (z3:=pending) (z4:=pendingq) (z5:=pendingk) (z6:=i) (out++y16.2) r13 y16.1 q3 k4 (i+1) ⟨(by omega),hR,hr14,(by first|omega|(simp<;>omega)|(dsimp only;omega)|decide),(by first|omega|(simp<;>omega)|(dsimp only;omega)|decide),(by omega),(by first|omega|(simp<;>omega))⟩ (by (try dsimp only);omega) (mc [vo D8 3 r13 (out++y16.2)] [true] rfl (by first|rfl|(simp only [List.length_set]<;>rfl))) (A1.pick [0] rfl)
 have h2p:¬ ((i:Int)<(s.length:Int)):=by simpa using h2
 rw [A3d h2p] at hR;replace hR:=(Q0.eq_1 ..).symm.trans hR
 refine H7 (nx (sr 5 rfl (ip' 2 3 [(26,.slice (va outr.q) out.length outr.k),(27,.slice pendingq pending.length pendingk)] ?_)))
 have hQ:=C3 hR;clear hR;obtain ⟨y28,hy28,hR⟩:=hQ
 refine zcm (C5m pending pendingq pendingk (by first|omega|(simp<;>omega)|(dsimp only;omega)|decide) (by first|omega|(simp<;>omega)|(dsimp only;omega)|decide) y28 hy28) A1.refl fun ⟨⟨q15,k16⟩,hp17⟩=>?_
 obtain ⟨hc18,hl19⟩:=hp17
 have:=B3q pending;try rw [hy28] at this
 refine it rfl (B4q (f:=D8) (r:=outr) (xs:=out) (ys:=y28) (pre:=[]) (post:=[]) B7f (fun _=>rfl) (fun _=>rfl) rfl rfl rfl rfl rfl rfl rfl rfl (B1 0 rfl) hokoutr (by first|omega|(simp<;>omega)) (by first|omega|(simp<;>omega))) fun ⟨r20,hr21⟩=>?_
 have:=@List.length_append _ out y28
 have:=VOk.le hr21
 have:=VOk.cap hr21
 refine ip' 1 0 [(2,.slice (va r20.q) ((out++y28).length) r20.k)] ?_
 subst hR
 refine ie (A5 ?_)
 exact zer hr hD (M4 rfl (B8 rfl)) ⟨r20,hr21⟩ (mc [vo D8 3 r20 (out++y28)] [true] rfl (by first|rfl|(simp only [List.length_set]<;>rfl))) A1.nil
def Q5 (cp:Int):Bool :=
 (((decide ((0:Int)≤cp))&&(decide (cp≤1114111)))&&((decide (cp<55296))||(decide ((57343:Int)<cp))))
theorem B6i (cp:Int) (R:Bool) (hR:Q5 cp=R):I4 Tryz.prog 140 [iv cp] [] (bv R):=by
 refine zco Tryz.func140 [(0,iv cp)] fun X hX hr hD=>?_
 replace hR:=(Q5.eq_1 ..).symm.trans hR
 refine sr 1 rfl (ip' 1 0 [] ?_)
 refine ie (sr 15 rfl (ip' 3 12 [(5,bv (decide ((0:Int)≤cp)))] ?_))
 refine zid 3 9 5 8 (decide (cp≤1114111)) (fun g1 g1p=>?_) ?_
 ·refine ip' 3 0 [(8,bv (decide (cp≤1114111)))] ?_
  exact A7 (M2 2 5 8 g1 A1.nil (mk [] rfl) rfl rfl rfl rfl rfl)
 refine ip' 1 8 [(9,bv ((decide ((0:Int)≤cp))&&(decide (cp≤1114111))))] ?_
 refine zia 7 1 9 16 ((decide (cp<55296))||(decide ((57343:Int)<cp))) (fun g2=>?_) ?_
 ·have g2p:((0:Int)≤cp)∧(cp≤1114111):=by simpa using g2
  refine ip' 3 4 [(12,bv (decide (cp<55296)))] ?_
  refine zir 3 1 12 15 (decide ((57343:Int)<cp)) (fun g3 g3p=>?_) ?_
  ·refine ip' 3 0 [(15,bv (decide ((57343:Int)<cp)))] ?_
   exact A7 (M2 2 12 15 g3 A1.nil (mk [] rfl) rfl rfl rfl rfl rfl)
  refine ip' 1 0 [(16,bv ((decide (cp<55296))||(decide ((57343:Int)<cp))))] ?_
  exact A7 (M2 4 9 16 g2 A1.nil (mk [] rfl) rfl rfl rfl rfl rfl)
 refine ip' 1 0 [(2,bv (((decide ((0:Int)≤cp))&&(decide (cp≤1114111)))&&((decide (cp<55296))||(decide ((57343:Int)<cp)))))] ?_
 subst hR
 refine ie (A5 ?_)
 exact C9 hr hD
def F0 (cp:Int):Int :=
 (bif (decide (cp<128)) then 1 else (bif (decide (cp<2048)) then 2 else (bif (decide (cp<65536)) then 3 else 4)))
theorem B1u (cp:Int):1≤F0 cp∧F0 cp≤4:=by
 unfold F0
 cases decide (cp<128)<;>cases decide (cp<2048)<;>cases decide (cp<65536)<;>simp
theorem C8d (cp:Int) (R:Int) (hR:F0 cp=R):I4 Tryz.prog 141 [iv cp] [] (iv R):=by
 refine zco Tryz.func141 [(0,iv cp)] fun X hX hr hD=>?_
 replace hR:=(F0.eq_1 ..).symm.trans hR
 refine sr 1 rfl (ip' 1 0 [] ?_)
 refine ie (A9 (sr 2 rfl (ip' 2 0 [(4,bv (decide (cp<128)))] ?_)))
 refine ie ?_
 refine zjd rfl hR ?_ ?_<;>clear hR<;>intro hR h1 h1p
 ·refine sr 1 rfl (ip' 1 0 [(2,iv 1)] ?_)
  subst hR
  refine ie (A5 ?_)
  exact C9 hr hD
 refine A6 (nx (A9 (sr 2 rfl (ip' 2 0 [(6,bv (decide (cp<2048)))] ?_))))
 refine ie ?_
 refine zjd rfl hR ?_ ?_<;>clear hR<;>intro hR h2 h2p
 ·refine sr 1 rfl (ip' 1 0 [(2,iv 2)] ?_)
  subst hR
  refine ie (A5 ?_)
  exact C9 hr hD
 refine A6 (nx (A9 (sr 2 rfl (ip' 2 0 [(8,bv (decide (cp<65536)))] ?_))))
 refine ie ?_
 refine zjd rfl hR ?_ ?_<;>clear hR<;>intro hR h3 h3p
 ·refine sr 1 rfl (ip' 1 0 [(2,iv 3)] ?_)
  subst hR
  refine ie (A5 ?_)
  exact C9 hr hD
 refine A6 (nx (sr 1 rfl (ip' 1 0 [(2,iv 4)] ?_)))
 subst hR
 refine ie (A5 ?_)
 exact C9 hr hD
def O6 (cp1:Int):Nat→Int→List UInt8→Int→List UInt8
 | 0,_,_,_=>[]
 | fu1+1,cp2,b,i=>(bif (decide ((0:Int)<i)) then O6 cp1 fu1 (IntKind.i64.wrap (Int.tdiv cp2 64)) (b.set ((i).toNat) (by8 (IntKind.u8.wrap (128+(Int.tmod cp2 64))))) (i - 1) else (b.set 0 (by8 (IntKind.u8.wrap ((([0,0,192,224,240]:List Int).getD ((F0 cp1).toNat) 0)+cp2)))))
def A0x (cp1:Int):List UInt8 :=
 (bif (decide ((F0 cp1)=1)) then ([(by8 (IntKind.u8.wrap cp1))]:List UInt8) else O6 cp1 ((((F0 cp1) - 1) - (0:Int)).toNat+1) cp1 (List.replicate ((F0 cp1).toNat) (0:UInt8)) ((F0 cp1) - 1))
def A5i (cp:Int):List UInt8 :=
 (bif (!(Q5 cp)) then A0x 65533 else A0x cp)
theorem B2e (c:Int):∀ (fu:Nat) (x:Int) (b:List UInt8) (i:Int),b.length≤4→(O6 c fu x b i).length≤4
 | 0,x,b,i,h=>by simp [O6]
 | fu+1,x,b,i,h=>by
  simp only [O6]
  cases (decide ((0:Int)<i)) with
  | true=>rw [cond_true];exact B2e c fu _ _ _ (by rw [List.length_set];exact h)
  | false=>rw [cond_false,List.length_set];exact h
theorem B9j (c:Int):(A0x c).length≤4:=by
 have:=B1u c
 unfold A0x
 cases (decide ((F0 c)=1)) with
 | true=>simp
 | false=>rw [cond_false];exact B2e c _ _ _ _ (by rw [List.length_replicate];omega)
theorem B1x (c:Int):(A5i c).length≤4:=by
 unfold A5i
 cases (!(Q5 c))<;>simp only [cond_true,cond_false]<;>exact B9j _
theorem B9u (cp:Int) (R:List UInt8) (hR:A5i cp=R):I4 Tryz.prog 95 [iv cp] [] (sv R):=by
 refine zco Tryz.func95 [(0,iv cp)] fun X hX hr hD=>?_
 replace hR:=(A5i.eq_1 ..).symm.trans hR
 refine sr 1 rfl (ip' 1 0 [] ?_)
 refine ie (B5y (fun (cp1:Int)=>(A0x cp1=R∧cp1≤1114111∧0≤cp1,[(0,iv cp1)],[],[])) ?_ ?_)
 ·refine sr 3 rfl (ip' 1 2 [(7,iv cp)] ?_)
  refine zca (B6i cp _ rfl) A1.nil ?_
  refine ip' 1 0 [(9,bv (!(Q5 cp)))] ?_
  refine ie ?_
  refine zjb rfl hR ?_ ?_<;>clear hR<;>intro hR h1
  ·refine A3 1 rfl (ip' 1 0 [(0,iv 65533)] ?_)
   refine A7 ?_
   exact V4 65533 ⟨hR,(by omega)⟩ (mk [] rfl) A1.nil
  have hck:0≤cp∧cp≤1114111:=by have q:=h1;simp [Q5] at q;omega
  refine A6 ?_
  exact V4 cp ⟨hR,(by omega)⟩ (mk [] rfl) A1.nil
 intro cp1
 rintro ⟨hR,hcp⟩
 replace hR:=(A0x.eq_1 ..).symm.trans hR
 refine sr 3 rfl (ip' 1 2 [(10,iv cp1)] ?_)
 refine zca (C8d cp1 _ rfl) A1.nil ?_
 have:=B1u cp1
 refine ip' 1 0 [(3,iv (F0 cp1))] ?_
 refine ie (A9 (sr 2 rfl (ip' 2 0 [(13,bv (decide ((F0 cp1)=1)))] ?_)))
 refine ie ?_
 refine zjd rfl hR ?_ ?_<;>clear hR<;>intro hR h2 h2p
 ·refine sr 5 rfl (ip' 1 4 [(14,iv cp1)] ?_)
  refine ix rfl (G3 (v:=.int .u8 (IntKind.u8.wrap cp1)) (G4.pure rfl) (A7d)) ?_
  refine it rfl (B5 (c:=cU8) (xs:=([(by8 (IntKind.u8.wrap cp1))]:List UInt8)) A1d rfl rfl rfl (by kernel_rfl)) fun b3=>?_
  have:([(by8 (IntKind.u8.wrap cp1))]:List UInt8).length=1:=rfl
  refine ix rfl (A4y Tryz.underlying9 Tryz.underlying30 rfl rfl (B1 0 rfl) rfl (by kernel_rfl)) ?_
  have:([(by8 (IntKind.u8.wrap cp1))]:List UInt8).length=1:=rfl
  refine ip' 1 0 [(2,sv ([(by8 (IntKind.u8.wrap cp1))]:List UInt8))] ?_
  subst hR
  refine ie (A5 ?_)
  exact C9 hr hD
 have hsz:=B1u cp1
 refine A6 (nx (sr 3 rfl (ip' 1 2 [(18,iv (F0 cp1))] ?_)))
 refine it rfl (D6y (f:=cU8) (l:=(F0 cp1).toNat) (c:=(F0 cp1).toNat) 0 B3o E3z.ok (fun _=>rfl) rfl (by exact congrArg (fun z=>some (Value.int .i64 z)) (show (F0 cp1)=(((F0 cp1).toNat:Nat):Int) by omega)) (by exact congrArg (fun z=>some (Value.int .i64 z)) (show (F0 cp1)=(((F0 cp1).toNat:Nat):Int) by omega)) (by omega) (by first|omega|(simp<;>omega)) (by omega)) fun ⟨r4,hr5⟩=>?_
 have:=VOk.le hr5
 have:=VOk.cap hr5
 refine ip' 1 0 [(4,.slice (va r4.q) ((List.replicate ((F0 cp1).toNat) (0:UInt8)).length) r4.k)] ?_
 refine ie (A9 (sr 3 rfl (ip' 1 2 [(20,iv (F0 cp1))] ?_)))
 refine ix rfl (N9 rfl rfl rfl rfl (by omega)) ?_
 refine ip' 1 0 [(5,iv ((F0 cp1) - 1))] ?_
 refine ie (B3 ?_)
 refine E4h (fun (fu:Nat) (cp2:Int) (b:List UInt8) (br:VR) (i:Int)=>((i - (0:Int)).toNat<fu∧O6 cp1 fu cp2 b i=R∧VOk 1 b.length br∧(0≤cp2∧cp2≤1114111)∧(b.length:Int)=F0 cp1∧0≤i∧i<F0 cp1,[(0,iv cp2),(3,iv (F0 cp1)),(4,.slice (va br.q) b.length br.k),(5,iv i)],((vo cU8 5 br b)++([])),[],fu)) ((((F0 cp1) - 1) - (0:Int)).toNat+1) cp1 (List.replicate ((F0 cp1).toNat) (0:UInt8)) r4 ((F0 cp1) - 1) ⟨(Nat.lt_succ_self _),hR,hr5,(by omega),(by first|omega|(simp<;>omega)),(by omega)⟩ (mc [vo cU8 5 r4 (List.replicate ((F0 cp1).toNat) (0:UInt8))] [true] rfl (by first|rfl|(simp only [List.length_set]<;>rfl))) A1.nil ?_
 rintro fu cp2 b br i ⟨hm6,hR,hokbr,hcr,hbl,hi0⟩
 have:=VOk.le hokbr
 obtain ⟨fu1,rfl⟩:∃ m,fu=m+1:=⟨fu - 1,by omega⟩
 replace hR:=(O6.eq_2 ..).symm.trans hR
 have htd:=Int.tdiv_eq_ediv_of_nonneg (a:=cp2) (b:=64) hcr.1
 have htm:=Int.tmod_eq_emod_of_nonneg (a:=cp2) (b:=64) hcr.1
 have hmk:0≤([0,0,192,224,240]:List Int).getD ((F0 cp1).toNat) 0∧([0,0,192,224,240]:List Int).getD ((F0 cp1).toNat) 0≤240:=by generalize (F0 cp1).toNat=k;rcases k with _ | _ | _ | _ | _ | k<;>simp
 refine A9 (sr 2 rfl (ip' 2 0 [(23,bv (decide ((0:Int)<i)))] ?_))
 refine ie ?_
 refine zjd rfl hR ?_ ?_<;>clear hR<;>intro hR h7 h7p
 ·refine A6 (nx (A9 (B3 (sr 8 rfl (ip' 3 5 [(26,.slice (va br.q) b.length br.k),(27,iv i),(28,iv cp2)] ?_)))))
  refine ix rfl (B0m rfl rfl rfl (by decide) rfl) ?_
  refine ix rfl (B7 rfl rfl rfl rfl (by omega)) ?_
  refine ix rfl (G3 (v:=.int .u8 (IntKind.u8.wrap (128+(Int.tmod cp2 64)))) (G4.pure rfl) (A7d)) ?_
  obtain ⟨b8,hb9⟩:=VOk.some hokbr (by omega)
  obtain ⟨q10,k11,j12⟩:=br
  obtain rfl:q10=some b8:=hb9
  refine ix rfl (A9k A1d rfl rfl rfl ((i).toNat) (by omega) (by omega)) ?_
  refine it rfl (B6j (us:=[.int .u8 ((by8 (IntKind.u8.wrap (128+(Int.tmod cp2 64)))).toNat:Int)]) (u':=(by8 (IntKind.u8.wrap (128+(Int.tmod cp2 64))))) (c:=cU8) (sz:=1) ty5 (fun _=>rfl) rfl rfl rfl 0 rfl rfl rfl rfl ((i).toNat) 0 rfl (gd 0 (by omega)) rfl rfl) fun _=>?_
  refine ie (A3 3 rfl (ip' 1 2 [(33,iv cp2)] ?_))
  refine ix rfl (B2u rfl rfl rfl (by decide)) ?_
  refine ip' 1 0 [(0,iv (IntKind.i64.wrap (Int.tdiv cp2 64)))] ?_
  refine A7 (nx (A3 3 rfl (ip' 1 2 [(24,iv i)] ?_)))
  refine ix rfl (N9 rfl rfl rfl rfl (by omega)) ?_
  refine ip' 1 0 [(5,iv (i - 1))] ?_
  refine A7 ?_
  exact E3t (z1:=(fu1+1)) (z2:=cp2) (z3:=b) (z4:=(⟨some b8,k11,j12⟩:VR)) (z5:=i) fu1 (IntKind.i64.wrap (Int.tdiv cp2 64)) (b.set ((i).toNat) (by8 (IntKind.u8.wrap (128+(Int.tmod cp2 64))))) (⟨some b8,k11,j12⟩:VR) (i - 1) ⟨(by omega),hR,(VOk.cast hokbr (by simp)),(by rw [htd,show IntKind.i64.wrap (cp2 / 64)=cp2 / 64 from O7 (by simp [IntKind.min,IntKind.signed,IntKind.bits];omega) (by simp [IntKind.max,IntKind.signed,IntKind.bits];omega)];omega),(by first|omega|(simp<;>omega)),(by omega)⟩ (Nat.lt_succ_self _) (mc [vo cU8 5 (⟨some b8,k11,j12⟩:VR) (b.set ((i).toNat) (by8 (IntKind.u8.wrap (128+(Int.tmod cp2 64)))))] [true] rfl (by first|rfl|(simp only [List.length_set]<;>rfl))) A1.nil
 refine H7 (nx (sr 3 rfl (O2 3 0 [0] (fun b13=>[(6,pt b13 0)]) (fun b13=>(bx b13 [iv 0,iv 0,iv 192,iv 224,iv 240] 85::(vo cU8 5 br b)++([]))) (fun b13=>?_))))
 refine ie (sr 9 rfl (ip' 2 7 [(36,.slice (va br.q) b.length br.k),(37,iv (F0 cp1))] ?_))
 refine ix rfl (U5 Tryz.underlying85 ty3 rfl rfl rfl ((F0 cp1).toNat) (by omega) (by omega)) ?_
 refine ix rfl (N6 (u:=iv (([0,0,192,224,240]:List Int).getD ((F0 cp1).toNat) 0)) (c:=D8) (xs:=([0,0,192,224,240]:List Int)) (j:=[]) (sz:=1) ty3 (fun _=>rfl) rfl rfl 0 rfl ((F0 cp1).toNat) 0 rfl (gd 0 (by simp only [List.length_cons,List.length_nil];omega)) rfl) ?_
 refine ip' 1 4 [(40,iv cp2)] ?_
 refine ix rfl (B7 rfl rfl rfl rfl (by omega)) ?_
 refine ix rfl (G3 (v:=.int .u8 (IntKind.u8.wrap ((([0,0,192,224,240]:List Int).getD ((F0 cp1).toNat) 0)+cp2))) (G4.pure rfl) (A7d)) ?_
 obtain ⟨b14,hb15⟩:=VOk.some hokbr (by omega)
 obtain ⟨q16,k17,j18⟩:=br
 obtain rfl:q16=some b14:=hb15
 refine ix rfl (A9k A1d rfl rfl rfl 0 rfl (by omega)) ?_
 refine it rfl (B6j (us:=[.int .u8 ((by8 (IntKind.u8.wrap ((([0,0,192,224,240]:List Int).getD ((F0 cp1).toNat) 0)+cp2))).toNat:Int)]) (u':=(by8 (IntKind.u8.wrap ((([0,0,192,224,240]:List Int).getD ((F0 cp1).toNat) 0)+cp2)))) (c:=cU8) (sz:=1) ty5 (fun _=>rfl) rfl rfl rfl 1 rfl rfl rfl rfl 0 0 rfl (gd 0 (by omega)) rfl rfl) fun _=>?_
 refine ie (sr 3 rfl (ip' 1 2 [(44,.slice (va (⟨some b14,k17,j18⟩:VR).q) b.length ((⟨some b14,k17,j18⟩:VR).k))] ?_))
 refine ix rfl (C0n (r:=(⟨some b14,k17,j18⟩:VR)) (pre:=[bx b13 [iv 0,iv 0,iv 192,iv 224,iv 240] 85]) (post:=[]) (s:=(b.set 0 (by8 (IntKind.u8.wrap ((([0,0,192,224,240]:List Int).getD ((F0 cp1).toNat) 0)+cp2))))) Tryz.underlying9 Tryz.underlying30 rfl (by first|rfl|(rw [List.length_set];rfl)) rfl (VOk.cast hokbr (by simp)) (by kernel_rfl)) ?_
 refine ip' 1 0 [(2,sv (b.set 0 (by8 (IntKind.u8.wrap ((([0,0,192,224,240]:List Int).getD ((F0 cp1).toNat) 0)+cp2)))))] ?_
 subst hR
 refine ie (A5 ?_)
 exact C9 hr hD
def A1g:List Int→List UInt8→Nat→List UInt8
 | [],s,i=>s
 | hd_l0::tl_l0,s,i=>(C0 (A5i hd_l0) fun (y17:List UInt8)=>A1g tl_l0 (s++y17) (i+1))
def A6m (codes:List Int):List UInt8 :=
 A1g codes ([]:List UInt8) 0
theorem C8a (codes:List Int) (codesq:Option Addr) (codesk:Nat) (hlcodes:codes.length≤9223372036854775807) (hccodes:codes.length≤codesk) (hcl:codes.length≤1000000) (R:List UInt8) (hR:A6m codes=R):I4 Tryz.prog 190 [.slice codesq codes.length codesk] [sl D8 codesq codes] (sv R):=by
 refine zco Tryz.func190 [(0,.slice codesq codes.length codesk)] fun X hX hr hD=>?_
 replace hR:=(A6m.eq_1 ..).symm.trans hR
 refine sr 1 rfl (ip' 1 0 [] ?_)
 refine ie (sr 1 rfl (ip' 1 0 [(3,sv ([]:List UInt8))] ?_))
 refine ie (A9 (sr 1 rfl (ip' 1 0 [(4,iv 0)] ?_)))
 refine ie (B3 (C4d (fun (s:List UInt8) (i:Nat)=>(i≤codes.length∧A1g (codes.drop i) s i=R∧s.length≤4 * i,[(0,.slice codesq codes.length codesk),(3,sv s),(4,iv (i:Int))],[],[sl D8 codesq codes],codes.length - i)) ([]:List UInt8) 0 ⟨(by omega),hR,(by simp)⟩ (mk [] rfl) A1.refl ?_))
 rintro s i ⟨hm1,hR,hsl⟩
 refine A9 (sr 4 rfl (ip' 4 0 [(8,bv (decide ((i:Int)<(codes.length:Int))))] ?_))
 refine ie (A1i rfl (fun h2=>?_) (fun h2=>?_))
 ·have h2p:(i:Int)<(codes.length:Int):=by simpa using h2
  rw [A3b 0 (show i<codes.length by omega)] at hR;replace hR:=(A1g.eq_2 ..).symm.trans hR
  refine A6 (nx (A9 (B3 (A3 8 rfl (ip' 3 5 [(11,sv s),(12,.slice codesq codes.length codesk),(13,iv (i:Int))] ?_)))))
  refine N4 0 rfl (by omega) fun a3 hq4=>?_
  refine ix rfl (H4 F9 rfl rfl hq4 rfl i rfl (by omega)) ?_
  refine ix rfl (C8 (v:=iv (codes.getD i 0)) (us:=[iv (codes.getD i 0)]) ty3 rfl rfl (J4 (c:=D8) (sz:=1) hq4 (fun _=>rfl) 0 rfl (gd 0 (by omega))) rfl) ?_
  have hQ:=C3 hR;clear hR;obtain ⟨y17,hy17,hR⟩:=hQ
  refine zca (B9u (codes.getD i 0) y17 hy17) A1.nil ?_
  have:=B1x (codes.getD i 0);try rw [hy17] at this
  refine ix rfl (zst rfl rfl rfl) ?_
  have:=@List.length_append _ s y17
  refine ip' 1 0 [(3,sv (s++y17))] ?_
  refine A7 (nx (A3 3 rfl (ip' 1 2 [(9,iv (i:Int))] ?_)))
  refine ix rfl (B7 rfl rfl rfl rfl (by omega)) ?_
  refine ip' 1 0 [(4,iv ((i:Int)+1))] ?_
  refine A7 ?_
  exact C3t (z1:=s) (z2:=i) (s++y17) (i+1) ⟨(by omega),hR,(by first|omega|(simp<;>omega))⟩ (by (try dsimp only);omega) (mk [] rfl) A1.refl
 have h2p:¬ ((i:Int)<(codes.length:Int)):=by simpa using h2
 rw [A3d h2p] at hR;replace hR:=(A1g.eq_1 ..).symm.trans hR
 refine H7 (nx (sr 2 rfl (ip' 2 0 [(2,sv s)] ?_)))
 subst hR
 refine ie (A5 ?_)
 exact C9 hr hD
def A1t (s:List UInt8):Nat→List Int→Nat→Bool
 | 0,_,_=>false
 | fu1+1,l,i=>(bif (decide ((i:Int)<(l.length:Int))) then (bif ((decide ((l.getD i 0)<32))||((decide ((127:Int)≤(l.getD i 0)))&&(decide ((l.getD i 0)≤159)))) then false else A1t s fu1 l (i+1)) else (C0 (A6m l) fun (y47:List UInt8)=>(decide (y47=s))))
def W3 (s:List UInt8):Bool :=
 (bif (decide ((510:Int)<(s.length:Int))) then false else (C0 (A2b s) fun (y24:List Int)=>A1t s ((y24.length - 0)+1) y24 0))
theorem C1t (s:List UInt8) (h:W3 s=true):s.length≤510:=by
 unfold W3 at h
 by_cases e:(510:Int)<(s.length:Int)
 ·rw [decide_eq_true e] at h;simp at h
 ·omega
theorem C4y (s:List UInt8) (R:Bool) (hR:W3 s=R):I4 Tryz.prog 131 [sv s] [] (bv R):=by
 refine zco Tryz.func131 [(0,sv s)] fun X hX hr hD=>?_
 replace hR:=(W3.eq_1 ..).symm.trans hR
 refine sr 1 rfl (ip' 1 0 [] ?_)
 refine ie (A9 (sr 3 rfl (ip' 3 0 [(7,bv (decide ((510:Int)<(s.length:Int))))] ?_)))
 refine ie ?_
 refine zjd rfl hR ?_ ?_<;>clear hR<;>intro hR h1 h1p
 ·refine sr 1 rfl (ip' 1 0 [(2,bv false)] ?_)
  subst hR
  refine ie (A5 ?_)
  exact C9 hr hD
 refine A6 (nx (sr 3 rfl (ip' 1 2 [(8,sv s)] ?_)))
 have hQ:=C3 hR;clear hR;obtain ⟨y24,hy24,hR⟩:=hQ
 refine it rfl (C4 (L2:=[]) (C4t s (by first|omega|(simp<;>omega)) y24 hy24) rfl rfl rfl rfl rfl A1.nil (List.Perm.refl _) (fun ⟨r2,hk3⟩=>((vo D8 3 r2 y24)++([]))) (fun _=>by first|rfl|simp only [List.append_nil,List.cons_append,List.nil_append,List.append_assoc])) fun ⟨r2,hk3⟩=>?_
 have:=VOk.le hk3
 have:=VOk.cap hk3
 have:=C1e s;try rw [hy24] at this
 refine ip' 1 0 [(3,.slice (va r2.q) y24.length r2.k)] ?_
 refine ie (A9 (sr 1 rfl (ip' 1 0 [(4,iv 0)] ?_)))
 refine ie (B3 ?_)
 refine C1d (fun (fu:Nat) (l:List Int) (lr:VR) (i:Nat)=>((l.length - i)<fu∧A1t s fu l i=R∧VOk 1 l.length lr∧l.length≤10000,[(0,sv s),(3,.slice (va lr.q) l.length lr.k),(4,iv (i:Int))],((vo D8 3 lr l)++([])),[],fu)) ((y24.length - 0)+1) y24 r2 0 ⟨(Nat.lt_succ_self _),hR,hk3,(by omega)⟩ (mc [vo D8 3 r2 y24] [true] rfl (by first|rfl|(simp only [List.length_set]<;>rfl))) A1.nil ?_
 rintro fu l lr i ⟨hm4,hR,hoklr,hll⟩
 have:=VOk.le hoklr
 obtain ⟨fu1,rfl⟩:∃ m,fu=m+1:=⟨fu - 1,by omega⟩
 replace hR:=(A1t.eq_2 ..).symm.trans hR
 refine A9 (sr 4 rfl (ip' 4 0 [(13,bv (decide ((i:Int)<(l.length:Int))))] ?_))
 refine ie ?_
 refine zjd rfl hR ?_ ?_<;>clear hR<;>intro hR h5 h5p
 ·refine A6 (nx (A9 (B3 (sr 19 rfl (ip' 2 17 [(16,.slice (va lr.q) l.length lr.k),(17,iv (i:Int))] ?_)))))
  obtain ⟨b6,hb7⟩:=VOk.some hoklr (by omega)
  obtain ⟨q8,k9,j10⟩:=lr
  obtain rfl:q8=some b6:=hb7
  refine ix rfl (A9k F9 rfl rfl rfl i rfl (by omega)) ?_
  refine ix rfl (N6 (u:=iv (l.getD i 0)) (c:=D8) (sz:=1) ty3 (fun _=>rfl) rfl rfl 0 rfl i 0 rfl (gd 0 (by omega)) rfl) ?_
  refine ip' 2 13 [(21,bv (decide ((l.getD i 0)<32)))] ?_
  refine zir 13 0 21 34 ((decide ((127:Int)≤(l.getD i 0)))&&(decide ((l.getD i 0)≤159))) (fun g11 g11p=>?_) ?_
  ·refine ip' 2 11 [(22,.slice (va (⟨some b6,k9,j10⟩:VR).q) l.length ((⟨some b6,k9,j10⟩:VR).k)),(23,iv (i:Int))] ?_
   refine ix rfl (A9k F9 rfl rfl rfl i rfl (by omega)) ?_
   refine ix rfl (N6 (u:=iv (l.getD i 0)) (c:=D8) (sz:=1) ty3 (fun _=>rfl) rfl rfl 0 rfl i 0 rfl (gd 0 (by omega)) rfl) ?_
   refine ip' 2 7 [(27,bv (decide ((127:Int)≤(l.getD i 0))))] ?_
   refine zid 6 1 27 33 (decide ((l.getD i 0)≤159)) (fun g12 g12p=>?_) ?_
   ·refine ip' 2 4 [(28,.slice (va (⟨some b6,k9,j10⟩:VR).q) l.length ((⟨some b6,k9,j10⟩:VR).k)),(29,iv (i:Int))] ?_
    refine ix rfl (A9k F9 rfl rfl rfl i rfl (by omega)) ?_
    refine ix rfl (N6 (u:=iv (l.getD i 0)) (c:=D8) (sz:=1) ty3 (fun _=>rfl) rfl rfl 0 rfl i 0 rfl (gd 0 (by omega)) rfl) ?_
    refine ip' 2 0 [(33,bv (decide ((l.getD i 0)≤159)))] ?_
    exact A7 (M2 6 27 33 g12 A1.nil (mc [vo D8 3 (⟨some b6,k9,j10⟩:VR) l] [true] rfl (by first|rfl|(simp only [List.length_set]<;>rfl))) rfl rfl rfl rfl rfl)
   refine ip' 1 0 [(34,bv ((decide ((127:Int)≤(l.getD i 0)))&&(decide ((l.getD i 0)≤159))))] ?_
   exact A7 (M2 8 21 34 g11 A1.nil (mc [vo D8 3 (⟨some b6,k9,j10⟩:VR) l] [true] rfl (by first|rfl|(simp only [List.length_set]<;>rfl))) rfl rfl rfl rfl rfl)
  refine ie ?_
  refine zjb rfl hR ?_ ?_<;>clear hR<;>intro hR h13
  ·have h13p:((l.getD i 0)<32)∨(((127:Int)≤(l.getD i 0))∧((l.getD i 0)≤159)):=by simpa using h13
   refine sr 1 rfl (ip' 1 0 [(2,bv false)] ?_)
   subst hR
   refine ie (A5 ?_)
   exact C9 hr hD
  have h13p:¬ (((l.getD i 0)<32)∨(((127:Int)≤(l.getD i 0))∧((l.getD i 0)≤159))):=by simpa using h13
  refine A6 (nx (A3 3 rfl (ip' 1 2 [(14,iv (i:Int))] ?_)))
  refine ix rfl (B7 rfl rfl rfl rfl (by omega)) ?_
  refine ip' 1 0 [(4,iv ((i:Int)+1))] ?_
  refine A7 ?_
  exact B6z (z1:=(fu1+1)) (z2:=l) (z3:=(⟨some b6,k9,j10⟩:VR)) (z4:=i) fu1 l (⟨some b6,k9,j10⟩:VR) (i+1) ⟨(by omega),hR,hoklr,(by omega)⟩ (Nat.lt_succ_self _) (mc [vo D8 3 (⟨some b6,k9,j10⟩:VR) l] [true] rfl (by first|rfl|(simp only [List.length_set]<;>rfl))) A1.nil
 refine H7 (nx (sr 5 rfl (ip' 1 4 [(35,.slice (va lr.q) l.length lr.k)] ?_)))
 have:=VOk.cap hoklr
 have:=VOk.le hoklr
 refine A7f [] [] (T:=3) (c:=D8) (r:=lr) (xs:=l) hoklr (by first|rfl|simp only [List.cons_append,List.append_assoc,List.nil_append,List.append_nil]) ?_
 have hQ:=C3 hR;clear hR;obtain ⟨y47,hy47,hR⟩:=hQ
 refine zca (C8a l (va lr.q) lr.k (by first|omega|(simp<;>omega)|(dsimp only;omega)|decide) (by first|omega|(simp<;>omega)|(dsimp only;omega)|decide) (by first|omega|(simp<;>omega)) y47 hy47) A1.refl ?_
 refine ip' 1 2 [(37,sv s)] ?_
 refine ix rfl (B7t rfl rfl rfl) ?_
 refine ip' 1 0 [(2,bv (decide (y47=s)))] ?_
 subst hR
 refine ie (A5 ?_)
 exact C9 hr hD
theorem D2b:∀ k:Nat,0≤([0,95,135,175,215,255]:List Int).getD k 0∧([0,95,135,175,215,255]:List Int).getD k 0≤255
 | 0 | 1 | 2 | 3 | 4 | 5=>by decide
 | _+6=>by exact ⟨Int.le_refl _,by show (0:Int)≤255;decide⟩
theorem C2w (x:UInt8):((x.toNat:Nat):Int)≤9223372036854775807:=by have:=UInt8.toNat_lt x;omega
def A2a (n:Int):Int :=
 (bif (decide (n<16)) then (([0,13434880,52480,13487360,238,13435085,52685,15066597,8355711,16711680,65280,16776960,6053119,16711935,65535,16777215]:List Int).getD ((n).toNat) 0) else (bif (decide ((232:Int)≤n)) then ((8+(10 * (n - 232))) * 65793) else ((((([0,95,135,175,215,255]:List Int).getD (((n - 16) / 36).toNat) 0) * 65536)+((([0,95,135,175,215,255]:List Int).getD ((((n - 16) / 6) % 6).toNat) 0) * 256))+(([0,95,135,175,215,255]:List Int).getD (((n - 16) % 6).toNat) 0))))
theorem C4v (n:Int) (hn:0≤n∧n≤255) (R:Int) (hR:A2a n=R):I4 Tryz.prog 214 [iv n] [] (iv R):=by
 refine zco Tryz.func214 [(0,iv n)] fun X hX hr hD=>?_
 replace hR:=(A2a.eq_1 ..).symm.trans hR
 have q1:=D2b ((n - 16) / 36).toNat
 have q2:=D2b (((n - 16) / 6) % 6).toNat
 have q3:=D2b ((n - 16) % 6).toNat
 refine sr 1 rfl (ip' 1 0 [] ?_)
 refine ie (sr 3 rfl (O2 3 0 [0] (fun b1=>[(3,pt b1 0)]) (fun b1=>[bx b1 [iv 0,iv 13434880,iv 52480,iv 13487360,iv 238,iv 13435085,iv 52685,iv 15066597,iv 8355711,iv 16711680,iv 65280,iv 16776960,iv 6053119,iv 16711935,iv 65535,iv 16777215] 288]) (fun b1=>?_)))
 refine ie (A9 (sr 2 rfl (ip' 2 0 [(8,bv (decide (n<16)))] ?_)))
 refine ie ?_
 refine zjd rfl hR ?_ ?_<;>clear hR<;>intro hR h2 h2p
 ·refine sr 4 rfl (ip' 1 3 [(9,iv n)] ?_)
  refine ix rfl (U5 Tryz.underlying288 ty3 rfl rfl rfl ((n).toNat) (by omega) (by omega)) ?_
  refine ix rfl (N6 (u:=iv (([0,13434880,52480,13487360,238,13435085,52685,15066597,8355711,16711680,65280,16776960,6053119,16711935,65535,16777215]:List Int).getD ((n).toNat) 0)) (c:=D8) (xs:=([0,13434880,52480,13487360,238,13435085,52685,15066597,8355711,16711680,65280,16776960,6053119,16711935,65535,16777215]:List Int)) (j:=[]) (sz:=1) ty3 (fun _=>rfl) rfl rfl 0 rfl ((n).toNat) 0 rfl (gd 0 (by simp only [List.length_cons,List.length_nil];omega)) rfl) ?_
  refine ip' 1 0 [(2,iv (([0,13434880,52480,13487360,238,13435085,52685,15066597,8355711,16711680,65280,16776960,6053119,16711935,65535,16777215]:List Int).getD ((n).toNat) 0))] ?_
  subst hR
  refine ie (A5 ?_)
  exact C9 hr hD
 refine A6 (nx (A9 (sr 2 rfl (ip' 2 0 [(13,bv (decide ((232:Int)≤n)))] ?_))))
 refine ie ?_
 refine zjd rfl hR ?_ ?_<;>clear hR<;>intro hR h3 h3p
 ·refine sr 6 rfl (ip' 1 5 [(14,iv n)] ?_)
  refine ix rfl (N9 rfl rfl rfl rfl (by omega)) ?_
  refine ix rfl (A6u rfl rfl rfl rfl (by omega)) ?_
  refine ix rfl (B7 rfl rfl rfl rfl (by omega)) ?_
  refine ix rfl (A6u rfl rfl rfl rfl (by omega)) ?_
  refine ip' 1 0 [(2,iv ((8+(10 * (n - 232))) * 65793))] ?_
  subst hR
  refine ie (A5 ?_)
  exact C9 hr hD
 refine A6 (nx (sr 3 rfl (O2 3 0 [0] (fun b4=>[(4,pt b4 0)]) (fun b4=>[bx b4 [iv 0,iv 95,iv 135,iv 175,iv 215,iv 255] 147,bx b1 [iv 0,iv 13434880,iv 52480,iv 13487360,iv 238,iv 13435085,iv 52685,iv 15066597,iv 8355711,iv 16711680,iv 65280,iv 16776960,iv 6053119,iv 16711935,iv 65535,iv 16777215] 288]) (fun b4=>?_))))
 refine ie (sr 3 rfl (ip' 1 2 [(20,iv n)] ?_))
 refine ix rfl (N9 rfl rfl rfl rfl (by omega)) ?_
 refine ip' 1 0 [(5,iv (n - 16))] ?_
 refine ie (sd 18 rfl (by kernel_rfl) rfl ?_)
 refine dp' 1 17 [(22,iv (n - 16))] ?_
 refine dd rfl (A9q (c:=((n - 16) / 36)) rfl rfl rfl (by decide) (by first|exact ⟨⟨by omega,by show _≤(9223372036854775807:Int);omega⟩,rfl⟩|exact ⟨by omega,rfl⟩|exact ⟨⟨Int.natCast_nonneg _,C2w _⟩,rfl⟩|exact ⟨Int.ediv_nonneg (by first|omega|exact Int.natCast_nonneg _) (by omega),rfl⟩)) ?_
 refine dd rfl (U5 Tryz.underlying147 ty3 rfl rfl rfl (((n - 16) / 36).toNat) (by omega) (by omega)) ?_
 refine dd rfl (N6 (u:=iv (([0,95,135,175,215,255]:List Int).getD (((n - 16) / 36).toNat) 0)) (c:=D8) (xs:=([0,95,135,175,215,255]:List Int)) (j:=[]) (sz:=1) ty3 (fun _=>rfl) rfl rfl 0 rfl (((n - 16) / 36).toNat) 0 rfl (gd 0 (by simp only [List.length_cons,List.length_nil];omega)) rfl) ?_
 refine dd rfl (A6u rfl rfl rfl rfl (by omega)) ?_
 refine dp' 1 12 [(27,iv (n - 16))] ?_
 refine dd rfl (A9q (c:=((n - 16) / 6)) rfl rfl rfl (by decide) (by first|exact ⟨⟨by omega,by show _≤(9223372036854775807:Int);omega⟩,rfl⟩|exact ⟨by omega,rfl⟩|exact ⟨⟨Int.natCast_nonneg _,C2w _⟩,rfl⟩|exact ⟨Int.ediv_nonneg (by first|omega|exact Int.natCast_nonneg _) (by omega),rfl⟩)) ?_
 refine dd rfl (U9 (c:=(((n - 16) / 6) % 6)) rfl rfl rfl (by decide) (by first|exact ⟨⟨by omega,by show _≤(9223372036854775807:Int);omega⟩,rfl⟩|exact ⟨by omega,rfl⟩|exact ⟨⟨Int.natCast_nonneg _,C2w _⟩,rfl⟩|exact ⟨Int.ediv_nonneg (by first|omega|exact Int.natCast_nonneg _) (by omega),rfl⟩)) ?_
 refine dd rfl (U5 Tryz.underlying147 ty3 rfl rfl rfl ((((n - 16) / 6) % 6).toNat) (by omega) (by omega)) ?_
 refine dd rfl (N6 (u:=iv (([0,95,135,175,215,255]:List Int).getD ((((n - 16) / 6) % 6).toNat) 0)) (c:=D8) (xs:=([0,95,135,175,215,255]:List Int)) (j:=[]) (sz:=1) ty3 (fun _=>rfl) rfl rfl 0 rfl ((((n - 16) / 6) % 6).toNat) 0 rfl (gd 0 (by simp only [List.length_cons,List.length_nil];omega)) rfl) ?_
 refine dd rfl (A6u rfl rfl rfl rfl (by omega)) ?_
 refine dd rfl (B7 rfl rfl rfl rfl (by omega)) ?_
 refine dp' 1 5 [(34,iv (n - 16))] ?_
 refine dd rfl (U9 (c:=((n - 16) % 6)) rfl rfl rfl (by decide) (by first|exact ⟨⟨by omega,by show _≤(9223372036854775807:Int);omega⟩,rfl⟩|exact ⟨by omega,rfl⟩|exact ⟨⟨Int.natCast_nonneg _,C2w _⟩,rfl⟩|exact ⟨Int.ediv_nonneg (by first|omega|exact Int.natCast_nonneg _) (by omega),rfl⟩)) ?_
 refine dd rfl (U5 Tryz.underlying147 ty3 rfl rfl rfl (((n - 16) % 6).toNat) (by omega) (by omega)) ?_
 refine dd rfl (N6 (u:=iv (([0,95,135,175,215,255]:List Int).getD (((n - 16) % 6).toNat) 0)) (c:=D8) (xs:=([0,95,135,175,215,255]:List Int)) (j:=[]) (sz:=1) ty3 (fun _=>rfl) rfl rfl 0 rfl (((n - 16) % 6).toNat) 0 rfl (gd 0 (by simp only [List.length_cons,List.length_nil];omega)) rfl) ?_
 refine dd rfl (B7 rfl rfl rfl rfl (by omega)) ?_
 refine dp' 1 0 [(2,iv ((((([0,95,135,175,215,255]:List Int).getD (((n - 16) / 36).toNat) 0) * 65536)+((([0,95,135,175,215,255]:List Int).getD ((((n - 16) / 6) % 6).toNat) 0) * 256))+(([0,95,135,175,215,255]:List Int).getD (((n - 16) % 6).toNat) 0)))] ?_
 subst hR
 refine de (A5 ?_)
 exact C9 hr hD
theorem A9z {c:Col} (h:J1 c=0):0≤c.n∧c.n≤16777215∧(c.kind=1→c.n≤255):=by
 unfold J1 at h
 simp only [Bool.cond_eq_ite,decide_eq_true_eq,Bool.and_eq_true] at h
 repeat' split at h
 all_goals first|omega|exact absurd h (by decide)
def A4c (c:Col):Int×Bool :=
 (bif ((!decide ((J1 c)=0))||(decide (c.kind=0))) then (0,false) else (bif (decide (c.kind=1)) then ((A2a c.n),true) else (c.n,true)))
theorem C3o:∀ n<256,0≤A2a ((n:Nat):Int)∧A2a ((n:Nat):Int)≤16777215:=by decide +kernel
theorem C7s (c:Col):0≤(A4c c).1∧(A4c c).1≤16777215:=by
 unfold A4c
 simp only [Bool.cond_eq_ite,Bool.or_eq_true,Bool.not_eq_true',decide_eq_true_eq,decide_eq_false_iff_not]
 repeat' split
 ·exact ⟨Int.le_refl _,by show (0:Int)≤_;omega⟩
 ·rename_i h1 h2
  have hc:=A9z (c:=c) (by omega)
  obtain ⟨m,e⟩:∃ m:Nat,c.n=m:=⟨c.n.toNat,by omega⟩
  show 0≤A2a c.n∧A2a c.n≤16777215
  rw [e];exact C3o m (by have:=hc.2.2 h2;omega)
 ·have hc:=A9z (c:=c) (by omega)
  exact ⟨hc.1,hc.2.1⟩
theorem C9i (c:Col) (R:Int×Bool) (hR:A4c c=R):I4 Tryz.prog 191 [ag (L9 c)] [] (.tuple #[iv R.1,bv R.2]):=by
 refine zco Tryz.func191 [(0,ag (L9 c))] fun X hX hr hD=>?_
 replace hR:=(A4c.eq_1 ..).symm.trans hR
 refine sr 3 rfl (O2 3 0 [] (fun b1=>[(1,pt b1 0)]) (fun b1=>[bx b1 (L9 c) 24]) (fun b1=>?_))
 refine ie (A9 (sr 8 rfl (zrl 1 7 [0] [(4,ag (L9 c))] ?_)))
 refine zca (B1m c _ rfl) A1.nil ?_
 refine ip' 2 4 [(7,bv (!decide ((J1 c)=0)))] ?_
 refine zio 4 0 7 11 (decide (c.kind=0)) (fun g2=>?_) ?_
 ·have g2p:¬ (¬ (J1 c)=0):=by simpa using g2
  refine zrl 4 0 [0] [(11,bv (decide (c.kind=0)))] ?_
  exact A7 (M2 2 7 11 g2 A1.nil (mk [true] rfl) rfl rfl rfl rfl rfl)
 refine ie ?_
 refine zjb rfl hR ?_ ?_<;>clear hR<;>intro hR h3
 ·have h3p:(¬ (J1 c)=0)∨(c.kind=0):=by simpa using h3
  refine sr 2 rfl (ip' 2 0 [(2,iv 0),(3,bv false)] ?_)
  subst hR
  refine ie (A5 ?_)
  exact A0o hr hD
 have h3p:¬ ((¬ (J1 c)=0)∨(c.kind=0)):=by simpa using h3
 refine A6 (nx (A9 (sr 3 rfl (zrl 3 0 [0] [(14,bv (decide (c.kind=1)))] ?_))))
 refine ie ?_
 refine zjd rfl hR ?_ ?_<;>clear hR<;>intro hR h4 h4p
 ·have hci:=A9z (c:=c) (by simp_all)
  refine sr 5 rfl (zrl 2 3 [0] [(16,iv c.n)] ?_)
  refine zca (C4v c.n (by omega) _ rfl) A1.nil ?_
  refine ip' 2 0 [(2,iv (A2a c.n)),(3,bv true)] ?_
  subst hR
  refine ie (A5 ?_)
  exact A0o hr hD
 refine A6 (nx (sr 4 rfl (zrl 4 0 [0] [(2,iv c.n),(3,bv true)] ?_)))
 subst hR
 refine ie (A5 ?_)
 exact A0o hr hD
theorem dv6:∀ k:Nat,k<6→1≤([1048576,65536,4096,256,16,1]:List Int).getD k 0∧([1048576,65536,4096,256,16,1]:List Int).getD k 0≤1048576
 | 0,_ | 1,_ | 2,_ | 3,_ | 4,_ | 5,_=>by decide
 | _+6,h=>by omega
def b7I (j n:Int):Prop:=(j=0∧0≤n∧n<1)∨(j=1∧0≤n∧n<2)∨(j=2∧0≤n∧n<4)∨(j=3∧0≤n∧n<8)∨(j=4∧0≤n∧n<16)∨(j=5∧0≤n∧n<32)∨(j=6∧0≤n∧n<64)
theorem E0m {j:Int} (h:j=0):b7I j 0:=by unfold b7I;omega
theorem D3h {j n:Int} (h:b7I j n):0≤n∧n<64:=by unfold b7I at h;omega
theorem B7n {j n x:Int} (h:b7I j n) (hj:j<6) (hx:0≤x∧x≤1):b7I (j+1) (2 * n+x):=by unfold b7I at *;omega
theorem B7j {j j' n x:Int} (h:b7I j n) (hj:j<6) (hx:0≤x∧x≤1) (e:j'=j+1):b7I j' (2 * n+x):=e▸B7n h hj hx
theorem dv8:∀ k:Nat,k<8→1≤([128,64,32,16,8,4,2,1]:List Int).getD k 0∧([128,64,32,16,8,4,2,1]:List Int).getD k 0≤128
 | 0,_ | 1,_ | 2,_ | 3,_ | 4,_ | 5,_ | 6,_ | 7,_=>by decide
 | _+8,h=>by omega
def S5 (y10:Int×Bool):Nat→List UInt8→Nat→(List UInt8×Int)
 | 0,_,_=>([],0)
 | fu1+1,s,k=>(bif (decide ((k:Int)<6)) then S5 y10 fu1 (s++((D0v.drop (((y10.1 / (([1048576,65536,4096,256,16,1]:List Int).getD k 0)) % 16).toNat)).take ((((y10.1 / (([1048576,65536,4096,256,16,1]:List Int).getD k 0)) % 16).toNat+1) - (((y10.1 / (([1048576,65536,4096,256,16,1]:List Int).getD k 0)) % 16).toNat)))) (k+1) else ((((((([114,103,98,58]:List UInt8)++(s.take 2))++([47]:List UInt8))++((s.drop 2).take (4 - 2)))++([47]:List UInt8))++(s.drop 4)),0))
def A0l (c:Col):List UInt8×Int :=
 (bif (!decide ((J1 c)=0)) then (([]:List UInt8),130) else (C0 (A4c c) fun (y10:Int×Bool)=>(bif (!y10.2) then (([]:List UInt8),2) else S5 y10 ((6 - 0)+1) ([]:List UInt8) 0)))
theorem B0r (n:Int×Bool):∀ (fu:Nat) (s:List UInt8) (k:Nat),(S5 n fu s k).1.length≤3 * s.length+3 * fu+10
 | 0,s,k=>Nat.zero_le _
 | fu+1,s,k=>by
  have ih:=B0r n fu
  rw [S5]
  simp only [Bool.cond_eq_ite]
  split
  ·refine Nat.le_trans (ih _ _) ?_
   simp only [List.length_append,List.length_take,List.length_drop];omega
  ·simp only [List.length_append,List.length_take,List.length_drop,List.length_cons,List.length_nil];omega
theorem B4c (c:Col):(A0l c).1.length≤100:=by
 have h:=B0r (A4c c) ((6 - 0)+1) [] 0
 unfold A0l C0
 simp only [Bool.cond_eq_ite]
 repeat' split
 ·exact Nat.zero_le _
 ·exact Nat.zero_le _
 ·simp only [List.length_nil] at h;omega
theorem C8e (c:Col) (R:List UInt8×Int) (hR:A0l c=R):I4 Tryz.prog 132 [ag (L9 c)] [] (.tuple #[sv R.1,iv R.2]):=by
 refine zco Tryz.func132 [(0,ag (L9 c))] fun X hX hr hD=>?_
 replace hR:=(A0l.eq_1 ..).symm.trans hR
 have hs16:D0v.length=16:=rfl
 refine sr 3 rfl (O2 3 0 [] (fun b1=>[(1,pt b1 0)]) (fun b1=>[bx b1 (L9 c) 24]) (fun b1=>?_))
 refine ie (A9 (sr 3 rfl (zrl 1 2 [0] [(9,ag (L9 c))] ?_)))
 refine zca (B1m c _ rfl) A1.nil ?_
 refine ip' 1 0 [(11,bv (!decide ((J1 c)=0)))] ?_
 refine ie ?_
 refine zjn rfl hR ?_ ?_<;>clear hR<;>intro hR h2 h2p
 ·refine sr 2 rfl (ip' 2 0 [(2,sv ([]:List UInt8)),(3,iv 130)] ?_)
  subst hR
  refine ie (A5 ?_)
  exact A0o hr hD
 refine A6 (nx (sr 7 rfl (zrl 1 6 [0] [(13,ag (L9 c))] ?_)))
 have hQ:=C3 hR;clear hR;obtain ⟨y10,hy10,hR⟩:=hQ
 refine zca (C9i c y10 hy10) A1.nil ?_
 have:=C7s c;try rw [hy10] at this
 refine ip' 5 0 [(4,iv y10.1),(5,bv y10.2)] ?_
 refine ie (A9 (sr 2 rfl (ip' 2 0 [(18,bv (!y10.2))] ?_)))
 refine ie ?_
 refine zjb rfl hR ?_ ?_<;>clear hR<;>intro hR h3
 ·refine sr 2 rfl (ip' 2 0 [(2,sv ([]:List UInt8)),(3,iv 2)] ?_)
  subst hR
  refine ie (A5 ?_)
  exact A0o hr hD
 refine A6 (nx (sr 1 rfl (ip' 1 0 [(6,sv ([]:List UInt8))] ?_)))
 refine ie (A9 (sr 1 rfl (ip' 1 0 [(7,iv 0)] ?_)))
 refine ie (B3 (E0j (fun (fu:Nat) (s:List UInt8) (k:Nat)=>((6 - k)<fu∧S5 y10 fu s k=R∧s.length=k∧k≤6,[(4,iv y10.1),(6,sv s),(7,iv (k:Int))],[bx b1 (L9 c) 24],[],fu)) ((6 - 0)+1) ([]:List UInt8) 0 ⟨(Nat.lt_succ_self _),hR,(by rfl),(by omega)⟩ (mk [true] rfl) A1.nil ?_))
 rintro fu s k ⟨hm4,hR,hs,hk⟩
 obtain ⟨fu1,rfl⟩:∃ m,fu=m+1:=⟨fu - 1,by omega⟩
 replace hR:=(S5.eq_2 ..).symm.trans hR
 have hdv:=dv6 k
 refine A9 (sr 2 rfl (ip' 2 0 [(20,bv (decide ((k:Int)<6)))] ?_))
 refine ie ?_
 refine zjd rfl hR ?_ ?_<;>clear hR<;>intro hR h5 h5p
 ·refine A6 (nx (A9 (B3 (sr 7 rfl (zrl 3 4 [] [(23,iv y10.1),(24,ag [iv 1048576,iv 65536,iv 4096,iv 256,iv 16,iv 1]),(25,iv (k:Int))] ?_)))))
  refine ix rfl (A4z (v:=iv (([1048576,65536,4096,256,16,1]:List Int).getD k 0)) (c:=D8) (xs:=([1048576,65536,4096,256,16,1]:List Int)) (d:=0) Tryz.underlying147 ty3 (fun _=>rfl) rfl rfl rfl rfl k rfl rfl (by first|omega|(refine Nat.le_trans (m:=16) (by omega) (by decide))) rfl rfl) ?_
  refine ix rfl (A9q (c:=(y10.1 / (([1048576,65536,4096,256,16,1]:List Int).getD k 0))) rfl rfl rfl (by omega) (by first|exact ⟨⟨by omega,by show _≤(9223372036854775807:Int);omega⟩,rfl⟩|exact ⟨by omega,rfl⟩|exact ⟨⟨Int.natCast_nonneg _,C2w _⟩,rfl⟩|exact ⟨Int.ediv_nonneg (by first|omega|exact Int.natCast_nonneg _) (by omega),rfl⟩)) ?_
  refine ix rfl (U9 (c:=((y10.1 / (([1048576,65536,4096,256,16,1]:List Int).getD k 0)) % 16)) rfl rfl rfl (by decide) (by first|exact ⟨⟨by omega,by show _≤(9223372036854775807:Int);omega⟩,rfl⟩|exact ⟨by omega,rfl⟩|exact ⟨⟨Int.natCast_nonneg _,C2w _⟩,rfl⟩|exact ⟨Int.ediv_nonneg (by first|omega|exact Int.natCast_nonneg _) (by omega),rfl⟩)) ?_
  refine ip' 1 0 [(8,iv ((y10.1 / (([1048576,65536,4096,256,16,1]:List Int).getD k 0)) % 16))] ?_
  refine ie (A3 7 rfl (ip' 3 4 [(29,sv s),(30,iv ((y10.1 / (([1048576,65536,4096,256,16,1]:List Int).getD k 0)) % 16)),(31,iv ((y10.1 / (([1048576,65536,4096,256,16,1]:List Int).getD k 0)) % 16))] ?_))
  refine ix rfl (B7 rfl rfl rfl rfl (by omega)) ?_
  refine ix rfl (B4e (T:=9) Tryz.underlying9 rfl rfl rfl rfl (((y10.1 / (([1048576,65536,4096,256,16,1]:List Int).getD k 0)) % 16).toNat) (by omega) (((y10.1 / (([1048576,65536,4096,256,16,1]:List Int).getD k 0)) % 16).toNat+1) (by omega) (by first|omega|(refine Nat.le_trans (m:=16) (by omega) (by decide))) (by first|omega|(refine Nat.le_trans (m:=16) (by omega) (by decide)))) ?_
  refine ix rfl (zst rfl rfl rfl) ?_
  refine ip' 1 0 [(6,sv (s++((D0v.drop (((y10.1 / (([1048576,65536,4096,256,16,1]:List Int).getD k 0)) % 16).toNat)).take ((((y10.1 / (([1048576,65536,4096,256,16,1]:List Int).getD k 0)) % 16).toNat+1) - (((y10.1 / (([1048576,65536,4096,256,16,1]:List Int).getD k 0)) % 16).toNat)))))] ?_
  refine A7 (nx (A3 3 rfl (ip' 1 2 [(21,iv (k:Int))] ?_)))
  refine ix rfl (B7 rfl rfl rfl rfl (by omega)) ?_
  refine ip' 1 0 [(7,iv ((k:Int)+1))] ?_
  refine A7 ?_
  exact D5n (z1:=(fu1+1)) (z2:=s) (z3:=k) fu1 (s++((D0v.drop (((y10.1 / (([1048576,65536,4096,256,16,1]:List Int).getD k 0)) % 16).toNat)).take ((((y10.1 / (([1048576,65536,4096,256,16,1]:List Int).getD k 0)) % 16).toNat+1) - (((y10.1 / (([1048576,65536,4096,256,16,1]:List Int).getD k 0)) % 16).toNat)))) (k+1) ⟨(by omega),hR,(by simp only [List.length_append,List.length_take,List.length_drop];omega),(by omega)⟩ (Nat.lt_succ_self _) (mk [true] rfl) A1.nil
 refine H7 (nx (sd 13 rfl (by kernel_rfl) rfl ?_))
 refine dp' 1 12 [(35,sv s)] ?_
 refine dd rfl (A5h (T:=9) Tryz.underlying9 rfl rfl rfl 2 rfl (by first|omega|(refine Nat.le_trans (m:=16) (by omega) (by decide)))) ?_
 have:=@List.length_take _ 2 s
 refine dd rfl (zst rfl rfl rfl) ?_
 refine dd rfl (zst rfl rfl rfl) ?_
 refine dp' 1 8 [(39,sv s)] ?_
 refine dd rfl (B4e (T:=9) Tryz.underlying9 rfl rfl rfl rfl 2 rfl 4 rfl (by first|omega|(refine Nat.le_trans (m:=16) (by omega) (by decide))) (by first|omega|(refine Nat.le_trans (m:=16) (by omega) (by decide)))) ?_
 have:=@List.length_drop _ 2 s
 have:=@List.length_take _ (4 - 2) (s.drop 2)
 refine dd rfl (zst rfl rfl rfl) ?_
 refine dd rfl (zst rfl rfl rfl) ?_
 refine dp' 1 4 [(43,sv s)] ?_
 refine dd rfl (B1q (T:=9) Tryz.underlying9 rfl rfl rfl 4 rfl (by first|omega|(refine Nat.le_trans (m:=16) (by omega) (by decide)))) ?_
 have:=@List.length_drop _ 4 s
 refine dd rfl (zst rfl rfl rfl) ?_
 refine dp' 2 0 [(2,sv (((((([114,103,98,58]:List UInt8)++(s.take 2))++([47]:List UInt8))++((s.drop 2).take (4 - 2)))++([47]:List UInt8))++(s.drop 4))),(3,iv 0)] ?_
 subst hR
 refine de (A5 ?_)
 exact A0o hr hD
def D9:Nat→Int→List UInt8
 | 0,_=>[]
 | fu+1,n=>(bif (decide (n<10)) then ([(by8 (IntKind.u8.wrap (IntKind.i64.wrap ((48:Int)+n))))]:List UInt8) else ((D9 fu (n / 10))++(D9 fu (n % 10))))
theorem M5:∀ (fu:Nat) (n:Int),(D9 fu n).length≤n.toNat+1
 | 0,n=>by simp [D9]
 | fu+1,n=>by
  simp only [D9]
  cases h:decide (n<10) with
  | true=>simp
  | false =>
   have hn:¬ n<10:=of_decide_eq_false h
   have h1:=M5 fu (n / 10)
   have h2:=M5 fu (n % 10)
   simp only [cond_false,List.length_append]
   omega
theorem A6d:∀ (fu:Nat) (n:Int) (hn:n≤9223372036854775807) (hmu:n.toNat<fu) (R:List UInt8) (hR:D9 fu n=R),I4 Tryz.prog 133 [iv n] [] (sv R):=by
 intro fu
 induction fu with
 | zero=>intros;omega
 | succ fu ih =>
  intro n hn hmu R hR
  refine zco Tryz.func133 [(0,iv n)] fun X hX hr hD=>?_
  replace hR:=(D9.eq_2 ..).symm.trans hR
  refine sr 1 rfl (ip' 1 0 [] ?_)
  refine ie (A9 (sr 2 rfl (ip' 2 0 [(4,bv (decide (n<10)))] ?_)))
  refine ie ?_
  refine zjd rfl hR ?_ ?_<;>clear hR<;>intro hR h1 h1p
  ·refine sr 6 rfl (ip' 1 5 [(5,iv n)] ?_)
   refine ix rfl (G4.pure rfl) ?_
   refine ix rfl (G3 (v:=.int .u8 (IntKind.u8.wrap (IntKind.i64.wrap ((48:Int)+n)))) (G4.pure rfl) (A7d)) ?_
   refine it rfl (B5 (c:=cU8) (xs:=([(by8 (IntKind.u8.wrap (IntKind.i64.wrap ((48:Int)+n))))]:List UInt8)) A1d rfl rfl rfl (by kernel_rfl)) fun b2=>?_
   have:([(by8 (IntKind.u8.wrap (IntKind.i64.wrap ((48:Int)+n))))]:List UInt8).length=1:=rfl
   refine ix rfl (A4y Tryz.underlying9 Tryz.underlying30 rfl rfl (B1 0 rfl) rfl (by kernel_rfl)) ?_
   have:([(by8 (IntKind.u8.wrap (IntKind.i64.wrap ((48:Int)+n))))]:List UInt8).length=1:=rfl
   refine ip' 1 0 [(2,sv ([(by8 (IntKind.u8.wrap (IntKind.i64.wrap ((48:Int)+n))))]:List UInt8))] ?_
   subst hR
   refine ie (A5 ?_)
   exact C9 hr hD
  refine A6 (nx (sr 8 rfl (ip' 1 7 [(10,iv n)] ?_)))
  refine ix rfl (A9q (c:=(n / 10)) rfl rfl rfl (by decide) (by first|exact ⟨⟨by omega,by show _≤(9223372036854775807:Int);omega⟩,rfl⟩|exact ⟨by omega,rfl⟩)) ?_
  refine zca (ih (n / 10) (by first|omega|(simp<;>omega)) (by omega) _ rfl) A1.nil ?_
  have:=M5 fu (n / 10)
  refine ip' 1 4 [(13,iv n)] ?_
  refine ix rfl (U9 (c:=(n % 10)) rfl rfl rfl (by decide) (by first|exact ⟨⟨by omega,by show _≤(9223372036854775807:Int);omega⟩,rfl⟩|exact ⟨by omega,rfl⟩)) ?_
  refine zca (ih (n % 10) (by first|omega|(simp<;>omega)) (by omega) _ rfl) A1.nil ?_
  have:=M5 fu (n % 10)
  refine ix rfl (zst rfl rfl rfl) ?_
  have:=@List.length_append _ (D9 fu (n / 10)) (D9 fu (n % 10))
  refine ip' 1 0 [(2,sv ((D9 fu (n / 10))++(D9 fu (n % 10))))] ?_
  subst hR
  refine ie (A5 ?_)
  exact C9 hr hD
def Q9 (s:List UInt8) (out:List UInt8) (bit:Nat) (ag_ref07_Bare_l3:List UInt8→Nat→List UInt8):Nat→Int→Nat→List UInt8
 | 0,_,_=>[]
 | fu3+1,n,k=>(bif (decide ((k:Int)<((bit:Int)+6))) then (bif (decide (((k:Int) / 8)<(s.length:Int))) then Q9 s out bit ag_ref07_Bare_l3 fu3 ((2 * n)+((((s.getD (((k:Int) / 8).toNat) 0).toNat:Int) / (([128,64,32,16,8,4,2,1]:List Int).getD (((k:Int) % 8).toNat) 0)) % 2)) (k+1) else Q9 s out bit ag_ref07_Bare_l3 fu3 ((2 * n)+0) (k+1)) else ag_ref07_Bare_l3 (out++([(B0w.getD ((n).toNat) 0)]:List UInt8)) (bit+6))
def O1 (s:List UInt8):Nat→List UInt8→Nat→List UInt8
 | 0,_,_=>[]
 | fu1+1,out,bit=>(bif (decide ((bit:Int)<(8 * (s.length:Int)))) then Q9 s out bit (O1 s fu1) (((bit+6) - bit)+1) 0 bit else out)
def A2k (s:List UInt8):List UInt8 :=
 O1 s (((8 * (s.length:Int)) - (0:Int)).toNat+1) ([]:List UInt8) 0
theorem B1h (s out:List UInt8) (bit:Nat) (ag:List UInt8→Nat→List UInt8) (B:Nat) (hag:∀ o b,(ag o b).length≤o.length+B):∀ (fu:Nat) (n:Int) (k:Nat),(Q9 s out bit ag fu n k).length≤out.length+1+B
 | 0,n,k=>Nat.zero_le _
 | fu+1,n,k=>by
  have ih:=B1h s out bit ag B hag fu
  rw [Q9]
  simp only [Bool.cond_eq_ite]
  repeat' split
  ·exact ih _ _
  ·exact ih _ _
  ·refine Nat.le_trans (hag _ _) ?_
   simp only [List.length_append,List.length_cons,List.length_nil];omega
theorem B0n (s:List UInt8):∀ (fu:Nat) (out:List UInt8) (bit:Nat),(O1 s fu out bit).length≤out.length+fu
 | 0,out,bit=>Nat.zero_le _
 | fu+1,out,bit=>by
  rw [O1]
  simp only [Bool.cond_eq_ite]
  split
  ·have:=B1h s out bit (O1 s fu) fu (fun o b=>B0n s fu o b) (((bit+6) - bit)+1) 0 bit;omega
  ·omega
theorem B4l (s:List UInt8):(A2k s).length≤8 * s.length+1:=by
 have:=B0n s (((8 * (s.length:Int)) - (0:Int)).toNat+1) [] 0
 unfold A2k
 simp only [List.length_nil] at this
 omega
set_option maxHeartbeats 1000000 in
theorem C7r (s:List UInt8) (hs:s.length≤4096) (R:List UInt8) (hR:A2k s=R):I4 Tryz.prog 192 [sv s] [] (sv R):=by
 refine zco Tryz.func192 [(0,sv s)] fun X hX hr hD=>?_
 replace hR:=(A2k.eq_1 ..).symm.trans hR
 refine sr 1 rfl (ip' 1 0 [] ?_)
 refine ie (sr 1 rfl (ip' 1 0 [(3,.slice none 0 0)] ?_))
 refine ie (A9 (sr 1 rfl (ip' 1 0 [(4,iv 0)] ?_)))
 refine ie (B3 ?_)
 refine C1d (fun (fu:Nat) (out:List UInt8) (outr:VR) (bit:Nat)=>(((8 * (s.length:Int)) - (bit:Int)).toNat<fu∧O1 s fu out bit=R∧VOk 1 out.length outr∧out.length≤bit∧(bit:Int)≤8 * (s.length:Int)+5,[(0,sv s),(3,.slice (va outr.q) out.length outr.k),(4,iv (bit:Int))],((vo cU8 5 outr out)++([])),[],fu)) (((8 * (s.length:Int)) - (0:Int)).toNat+1) ([]:List UInt8) VR.nil 0 ⟨(Nat.lt_succ_self _),hR,VOk.nil,(by (simp<;>omega)),(by omega)⟩ (mc [vo cU8 5 VR.nil ([]:List UInt8)] [true] rfl (by first|rfl|(simp only [List.length_set]<;>rfl))) A1.nil ?_
 rintro fu out outr bit ⟨hm1,hR,hokoutr,ho,hbit⟩
 have:=VOk.le hokoutr
 obtain ⟨fu1,rfl⟩:∃ m,fu=m+1:=⟨fu - 1,by omega⟩
 replace hR:=(O1.eq_2 ..).symm.trans hR
 refine A9 (sr 5 rfl (ip' 3 2 [(8,iv (bit:Int)),(10,iv (s.length:Int))] ?_))
 refine ix rfl (A6u rfl rfl rfl rfl (by omega)) ?_
 refine ip' 1 0 [(12,bv (decide ((bit:Int)<(8 * (s.length:Int)))))] ?_
 refine ie ?_
 refine zjd rfl hR ?_ ?_<;>clear hR<;>intro hR h2 h2p
 ·refine A6 (nx (A9 (B3 (sr 1 rfl (ip' 1 0 [(5,iv 0)] ?_)))))
  refine ie (A9 (sr 2 rfl (ip' 2 0 [(6,iv (bit:Int))] ?_)))
  refine ie (B3 ?_)
  refine E0j (fun (fu2:Nat) (n:Int) (k:Nat)=>(((bit+6) - k)<fu2∧Q9 s out bit (O1 s fu1) fu2 n k=R∧(bit≤k∧k≤bit+6)∧(0≤n∧n<64)∧b7I ((k:Int) - (bit:Int)) n,[(0,sv s),(3,.slice (va outr.q) out.length outr.k),(4,iv (bit:Int)),(5,iv n),(6,iv (k:Int))],((vo cU8 5 outr out)++([])),[],fu2)) (((bit+6) - bit)+1) 0 bit ⟨(Nat.lt_succ_self _),hR,(by omega),(by omega),(by exact E0m (by omega))⟩ (mc [vo cU8 5 outr out] [true] rfl (by first|rfl|(simp only [List.length_set]<;>rfl))) A1.nil ?_
  rintro fu2 n k ⟨hm3,hR,hk,hn64,hb7⟩
  obtain ⟨fu3,rfl⟩:∃ m,fu2=m+1:=⟨fu2 - 1,by omega⟩
  replace hR:=(Q9.eq_2 ..).symm.trans hR
  have hdv:=dv8 ((k:Int) % 8).toNat (by omega)
  refine A9 (sr 4 rfl (ip' 2 2 [(16,iv (k:Int)),(17,iv (bit:Int))] ?_))
  refine ix rfl (B7 rfl rfl rfl rfl (by omega)) ?_
  refine ip' 1 0 [(19,bv (decide ((k:Int)<((bit:Int)+6))))] ?_
  refine ie ?_
  refine zjd rfl hR ?_ ?_<;>clear hR<;>intro hR h4 h4p
  ·refine A6 (nx (A9 (B3 (sr 1 rfl (ip' 1 0 [(7,iv 0)] ?_)))))
   refine ie (A9 (sr 5 rfl (ip' 1 4 [(22,iv (k:Int))] ?_)))
   refine ix rfl (A9q (c:=((k:Int) / 8)) rfl rfl rfl (by decide) (by first|exact ⟨⟨by omega,by show _≤(9223372036854775807:Int);omega⟩,rfl⟩|exact ⟨by omega,rfl⟩|exact ⟨⟨Int.natCast_nonneg _,C2w _⟩,rfl⟩|exact ⟨Int.ediv_nonneg (by first|omega|exact Int.natCast_nonneg _) (by omega),rfl⟩)) ?_
   refine ip' 3 0 [(26,bv (decide (((k:Int) / 8)<(s.length:Int))))] ?_
   refine ie ?_
   refine zjd rfl hR ?_ ?_<;>clear hR<;>intro hR h5 h5p
   ·refine D8b 12 rfl (by kernel_rfl) rfl ?_
    refine dp' 2 10 [(27,sv s),(28,iv (k:Int))] ?_
    refine dd rfl (A9q (c:=((k:Int) / 8)) rfl rfl rfl (by decide) (by first|exact ⟨⟨by omega,by show _≤(9223372036854775807:Int);omega⟩,rfl⟩|exact ⟨by omega,rfl⟩|exact ⟨⟨Int.natCast_nonneg _,C2w _⟩,rfl⟩|exact ⟨Int.ediv_nonneg (by first|omega|exact Int.natCast_nonneg _) (by omega),rfl⟩)) ?_
    refine dd rfl (A9c (T:=9) Tryz.underlying9 rfl rfl rfl (((k:Int) / 8).toNat) (by omega) (by first|omega|(refine Nat.lt_of_lt_of_le (m:=64) (by omega) (by decide)))) ?_
    refine dd rfl (N7 (c:=((s.getD (((k:Int) / 8).toNat) 0).toNat:Int)) Tryz.underlying3 (by kernel_rfl) rfl rfl (Z7 (s.getD (((k:Int) / 8).toNat) 0))) ?_
    refine zdg 2 5 [] [(32,ag [iv 128,iv 64,iv 32,iv 16,iv 8,iv 4,iv 2,iv 1]),(33,iv (k:Int))] ?_
    refine dd rfl (U9 (c:=((k:Int) % 8)) rfl rfl rfl (by decide) (by first|exact ⟨⟨by omega,by show _≤(9223372036854775807:Int);omega⟩,rfl⟩|exact ⟨by omega,rfl⟩|exact ⟨⟨Int.natCast_nonneg _,C2w _⟩,rfl⟩|exact ⟨Int.ediv_nonneg (by first|omega|exact Int.natCast_nonneg _) (by omega),rfl⟩)) ?_
    refine dd rfl (A4z (v:=iv (([128,64,32,16,8,4,2,1]:List Int).getD (((k:Int) % 8).toNat) 0)) (c:=D8) (xs:=([128,64,32,16,8,4,2,1]:List Int)) (d:=0) Tryz.underlying249 ty3 (fun _=>rfl) rfl rfl rfl rfl (((k:Int) % 8).toNat) (by omega) rfl (by first|omega|(refine Nat.lt_of_lt_of_le (m:=64) (by omega) (by decide))) rfl rfl) ?_
    refine dd rfl (A9q (c:=(((s.getD (((k:Int) / 8).toNat) 0).toNat:Int) / (([128,64,32,16,8,4,2,1]:List Int).getD (((k:Int) % 8).toNat) 0))) rfl rfl rfl (by omega) (by first|exact ⟨⟨by omega,by show _≤(9223372036854775807:Int);omega⟩,rfl⟩|exact ⟨by omega,rfl⟩|exact ⟨⟨Int.natCast_nonneg _,C2w _⟩,rfl⟩|exact ⟨Int.ediv_nonneg (by first|omega|exact Int.natCast_nonneg _) (by omega),rfl⟩)) ?_
    refine dd rfl (U9 (c:=((((s.getD (((k:Int) / 8).toNat) 0).toNat:Int) / (([128,64,32,16,8,4,2,1]:List Int).getD (((k:Int) % 8).toNat) 0)) % 2)) rfl rfl rfl (by decide) (by first|exact ⟨⟨by omega,by show _≤(9223372036854775807:Int);omega⟩,rfl⟩|exact ⟨by omega,rfl⟩|exact ⟨⟨Int.natCast_nonneg _,C2w _⟩,rfl⟩|exact ⟨Int.ediv_nonneg (by first|omega|exact Int.natCast_nonneg _) (by omega),rfl⟩)) ?_
    refine dp' 1 0 [(7,iv ((((s.getD (((k:Int) / 8).toNat) 0).toNat:Int) / (([128,64,32,16,8,4,2,1]:List Int).getD (((k:Int) % 8).toNat) 0)) % 2))] ?_
    refine C2h (nx (A3 5 rfl (ip' 1 4 [(38,iv n)] ?_)))
    refine ix rfl (A6u rfl rfl rfl rfl (by omega)) ?_
    refine ip' 1 2 [(40,iv ((((s.getD (((k:Int) / 8).toNat) 0).toNat:Int) / (([128,64,32,16,8,4,2,1]:List Int).getD (((k:Int) % 8).toNat) 0)) % 2))] ?_
    refine ix rfl (B7 rfl rfl rfl rfl (by omega)) ?_
    refine ip' 1 0 [(5,iv ((2 * n)+((((s.getD (((k:Int) / 8).toNat) 0).toNat:Int) / (([128,64,32,16,8,4,2,1]:List Int).getD (((k:Int) % 8).toNat) 0)) % 2)))] ?_
    refine A7 (nx (A3 3 rfl (ip' 1 2 [(20,iv (k:Int))] ?_)))
    refine ix rfl (B7 rfl rfl rfl rfl (by omega)) ?_
    refine ip' 1 0 [(6,iv ((k:Int)+1))] ?_
    refine A7 ?_
    exact D5n (z1:=(fu3+1)) (z2:=n) (z3:=k) fu3 ((2 * n)+((((s.getD (((k:Int) / 8).toNat) 0).toNat:Int) / (([128,64,32,16,8,4,2,1]:List Int).getD (((k:Int) % 8).toNat) 0)) % 2)) (k+1) ⟨(by omega),hR,(by omega),(by first|exact D3h (B7n hb7 (by omega) ⟨by omega,by omega⟩)|(have q:=D3h (B7n hb7 (by omega) (x:=0) ⟨by omega,by omega⟩);exact q)),(by first|exact B7j hb7 (by omega) ⟨by omega,by omega⟩ (by omega)|exact B7j (x:=0) hb7 (by omega) ⟨by omega,by omega⟩ (by omega))⟩ (Nat.lt_succ_self _) (mc [vo cU8 5 outr out] [true] rfl (by first|rfl|(simp only [List.length_set]<;>rfl))) A1.nil
   refine A6 (nx (A3 5 rfl (ip' 1 4 [(38,iv n)] ?_)))
   refine ix rfl (A6u rfl rfl rfl rfl (by omega)) ?_
   refine ip' 1 2 [(40,iv 0)] ?_
   refine ix rfl (B7 rfl rfl rfl rfl (by omega)) ?_
   refine ip' 1 0 [(5,iv ((2 * n)+0))] ?_
   refine A7 (nx (A3 3 rfl (ip' 1 2 [(20,iv (k:Int))] ?_)))
   refine ix rfl (B7 rfl rfl rfl rfl (by omega)) ?_
   refine ip' 1 0 [(6,iv ((k:Int)+1))] ?_
   refine A7 ?_
   exact D5n (z1:=(fu3+1)) (z2:=n) (z3:=k) fu3 ((2 * n)+0) (k+1) ⟨(by omega),hR,(by omega),(by first|exact D3h (B7n hb7 (by omega) ⟨by omega,by omega⟩)|(have q:=D3h (B7n hb7 (by omega) (x:=0) ⟨by omega,by omega⟩);exact q)),(by first|exact B7j hb7 (by omega) ⟨by omega,by omega⟩ (by omega)|exact B7j (x:=0) hb7 (by omega) ⟨by omega,by omega⟩ (by omega))⟩ (Nat.lt_succ_self _) (mc [vo cU8 5 outr out] [true] rfl (by first|rfl|(simp only [List.length_set]<;>rfl))) A1.nil
  refine H7 (nx (A3 6 rfl (ip' 2 4 [(42,.slice (va outr.q) out.length outr.k),(43,iv n)] ?_)))
  refine ix rfl (A9c (T:=9) Tryz.underlying9 rfl rfl rfl ((n).toNat) (by omega) (by first|omega|(refine Nat.lt_of_lt_of_le (m:=64) (by omega) (by decide)))) ?_
  refine it rfl (B5 (c:=cU8) (xs:=([(B0w.getD ((n).toNat) 0)]:List UInt8)) A1d rfl rfl rfl (by kernel_rfl)) fun b6=>?_
  have:([(B0w.getD ((n).toNat) 0)]:List UInt8).length=1:=rfl
  refine it rfl (A9n (f:=cU8) (r:=outr) (xs:=out) (ys:=([(B0w.getD ((n).toNat) 0)]:List UInt8)) (pre:=[]) (post:=[]) B3o (fun _=>rfl) (fun _=>rfl) rfl rfl rfl rfl rfl rfl rfl rfl rfl (B1 0 rfl) hokoutr (by first|omega|(simp<;>omega)) (by first|omega|(simp<;>omega))) fun ⟨r7,hr8⟩=>?_
  have:=VOk.le hr8
  have:=VOk.cap hr8
  refine ip' 1 0 [(3,.slice (va r7.q) ((out++([(B0w.getD ((n).toNat) 0)]:List UInt8)).length) r7.k)] ?_
  refine A7 (nx (A3 3 rfl (ip' 1 2 [(13,iv (bit:Int))] ?_)))
  refine ix rfl (B7 rfl rfl rfl rfl (by omega)) ?_
  refine ip' 1 0 [(4,iv ((bit:Int)+6))] ?_
  refine A7 ?_
  exact B6z (z1:=(fu1+1)) (z2:=out) (z3:=outr) (z4:=bit) fu1 (out++([(B0w.getD ((n).toNat) 0)]:List UInt8)) r7 (bit+6) ⟨(by omega),hR,hr8,(by (simp<;>omega)),(by omega)⟩ (Nat.lt_succ_self _) (mc [vo cU8 5 r7 (out++([(B0w.getD ((n).toNat) 0)]:List UInt8))] [true] rfl (by first|rfl|(simp only [List.length_set]<;>rfl))) A1.nil
 refine H7 (nx (sr 3 rfl (ip' 1 2 [(47,.slice (va outr.q) out.length outr.k)] ?_)))
 refine ix rfl (C0n (r:=outr) (pre:=[]) (post:=[]) Tryz.underlying9 Tryz.underlying30 rfl rfl rfl hokoutr (by kernel_rfl)) ?_
 refine ip' 1 0 [(2,sv out)] ?_
 subst hR
 refine ie (A5 ?_)
 exact C9 hr hD
def O9:Nat→List UInt8→(List UInt8×Int)
 | 0,_=>([],0)
 | fu1+1,t=>(bif (!decide (((t.length:Int) % 4)=0)) then O9 fu1 (t++([61]:List UInt8)) else (t,0))
def A2j (s:List UInt8):List UInt8×Int :=
 (bif (decide ((4096:Int)<(s.length:Int))) then (([]:List UInt8),3) else (C0 (A2k s) fun (y25:List UInt8)=>O9 (((4 - y25.length % 4) % 4)+1) y25))
theorem A8j:∀ (fu:Nat) (t:List UInt8),(O9 fu t).1.length≤t.length+fu
 | 0,t=>Nat.zero_le _
 | fu+1,t=>by
  have ih:=A8j fu (t++[61])
  rw [O9]
  simp only [Bool.cond_eq_ite]
  split
  ·simp only [List.length_append,List.length_cons,List.length_nil] at ih;omega
  ·show t.length≤_;omega
theorem B2o (s:List UInt8):(A2j s).1.length≤33000:=by
 unfold A2j C0
 simp only [Bool.cond_eq_ite,decide_eq_true_eq]
 split
 ·exact Nat.zero_le _
 ·have h1:=B4l s
  have h2:=A8j (((4 - (A2k s).length % 4) % 4)+1) (A2k s)
  omega
theorem C2u (s:List UInt8) (R:List UInt8×Int) (hR:A2j s=R):I4 Tryz.prog 134 [sv s] [] (.tuple #[sv R.1,iv R.2]):=by
 refine zco Tryz.func134 [(0,sv s)] fun X hX hr hD=>?_
 replace hR:=(A2j.eq_1 ..).symm.trans hR
 refine sr 2 rfl (ip' 2 0 [] ?_)
 refine ie (A9 (sr 3 rfl (ip' 3 0 [(7,bv (decide ((4096:Int)<(s.length:Int))))] ?_)))
 refine ie ?_
 refine zjd rfl hR ?_ ?_<;>clear hR<;>intro hR h1 h1p
 ·refine sr 2 rfl (ip' 2 0 [(2,sv ([]:List UInt8)),(3,iv 3)] ?_)
  subst hR
  refine ie (A5 ?_)
  exact A0o hr hD
 refine A6 (nx (sr 3 rfl (ip' 1 2 [(8,sv s)] ?_)))
 have hQ:=C3 hR;clear hR;obtain ⟨y25,hy25,hR⟩:=hQ
 refine zca (C7r s (by omega) y25 hy25) A1.nil ?_
 have:=B4l s;try rw [hy25] at this
 refine ip' 1 0 [(4,sv y25)] ?_
 refine ie (A9 (B3 (C4d (fun (fu:Nat) (t:List UInt8)=>(((4 - t.length % 4) % 4)<fu∧O9 fu t=R∧t.length+(4 - t.length % 4) % 4≤33000,[(4,sv t)],[],[],fu)) (((4 - y25.length % 4) % 4)+1) y25 ⟨(Nat.lt_succ_self _),hR,(by omega)⟩ (mk [] rfl) A1.nil ?_)))
 rintro fu t ⟨hm2,hR,ht⟩
 obtain ⟨fu1,rfl⟩:∃ m,fu=m+1:=⟨fu - 1,by omega⟩
 replace hR:=(O9.eq_2 ..).symm.trans hR
 refine A9 (sr 4 rfl (ip' 2 2 [(11,iv (t.length:Int))] ?_))
 refine ix rfl (U9 (c:=((t.length:Int) % 4)) rfl rfl rfl (by decide) (by exact ⟨by omega,rfl⟩)) ?_
 refine ip' 1 0 [(13,bv (!decide (((t.length:Int) % 4)=0)))] ?_
 refine ie ?_
 refine zjn rfl hR ?_ ?_<;>clear hR<;>intro hR h3 h3p
 ·refine A6 (nx (B3 (A3 3 rfl (ip' 1 2 [(14,sv t)] ?_))))
  refine ix rfl (zst rfl rfl rfl) ?_
  refine ip' 1 0 [(4,sv (t++([61]:List UInt8)))] ?_
  refine A7 ?_
  have hal:(t++([61]:List UInt8)).length=t.length+1:=by simp
  exact C3t (z1:=(fu1+1)) (z2:=t) fu1 (t++([61]:List UInt8)) ⟨(by omega),hR,(by (simp<;>omega))⟩ (Nat.lt_succ_self _) (mk [] rfl) A1.nil
 refine H7 (nx (sr 3 rfl (ip' 3 0 [(2,sv t),(3,iv 0)] ?_)))
 subst hR
 refine ie (A5 ?_)
 exact A0o hr hD
def I8 (a:Act):List UInt8×Int :=
 (bif ((decide (a={Act.zero with kind:=44,text:=a.text}))&&(W3 a.text)) then ((([50,59]:List UInt8)++a.text),0) else (bif ((((decide (a={Act.zero with kind:=45,n:=a.n,color:=a.color}))&&(decide ((0:Int)≤a.n)))&&(decide (a.n≤255)))&&(decide (a.color.kind=2))) then (C0 (A0l a.color) fun (y23:List UInt8×Int)=>(bif (decide (y23.2=0)) then ((((([52,59]:List UInt8)++(D9 (a.n.toNat+1) a.n))++([59]:List UInt8))++y23.1),0) else (([]:List UInt8),2))) else (bif ((decide (a={Act.zero with kind:=46,text:=a.text}))&&(decide ((a.text.length:Int)≤378))) then (C0 (A2j a.text) fun (y32:List UInt8×Int)=>((([53,50,59,99,59]:List UInt8)++y32.1),0)) else (([]:List UInt8),2))))
theorem A2o (a:Act):(I8 a).1.length≤a.text.length+40000:=by
 have h1:=B4c a.color
 have h2:=B2o a.text
 have h3:=M5 (a.n.toNat+1) a.n
 unfold I8 C0
 simp only [Bool.cond_eq_ite]
 repeat' split
 all_goals try simp only [Bool.and_eq_true,decide_eq_true_eq] at *
 all_goals first|omega|(simp<;>omega)
theorem A7c (a:Act) (R:List UInt8×Int) (hR:I8 a=R):I4 Tryz.prog 91 [ag (A2 a)] [] (.tuple #[sv R.1,iv R.2]):=by
 refine zco Tryz.func91 [(0,ag (A2 a))] fun X hX hr hD=>?_
 replace hR:=(I8.eq_1 ..).symm.trans hR
 refine sr 3 rfl (O2 3 0 [] (fun b1=>[(1,pt b1 0)]) (fun b1=>[bx b1 (A2 a) 26]) (fun b1=>?_))
 refine ie (A9 (B3 (sr 11 rfl (zrl 4 7 [0,0] [(9,ag (A2 a)),(12,ag (A2 ({Act.zero with kind:=44,text:=a.text})))] ?_))))
 refine ix rfl (A8q (a:=a) (b:={Act.zero with kind:=44,text:=a.text}) D0u rfl rfl rfl) ?_
 refine ip' 1 5 [(14,bv (decide (a={Act.zero with kind:=44,text:=a.text})))] ?_
 refine zid 4 1 14 18 (W3 a.text) (fun g2 g2p=>?_) ?_
 ·refine zrl 2 2 [0] [(16,sv a.text)] ?_
  refine zca (C4y a.text _ rfl) A1.nil ?_
  refine ip' 1 0 [(18,bv (W3 a.text))] ?_
  exact A7 (M2 4 14 18 g2 A1.nil (mk [true] rfl) rfl rfl rfl rfl rfl)
 refine ip' 1 0 [(8,bv ((decide (a={Act.zero with kind:=44,text:=a.text}))&&(W3 a.text)))] ?_
 refine ie ?_
 refine zjb rfl hR ?_ ?_<;>clear hR<;>intro hR h3
 ·have h3p:=h3;try simp at h3p
  have hti:=C1t a.text (by have q:=h3;rw [Bool.and_eq_true] at q;exact q.2)
  refine sr 5 rfl (zrl 2 3 [0] [(20,sv a.text)] ?_)
  refine ix rfl (zst rfl rfl rfl) ?_
  refine ip' 2 0 [(2,sv (([50,59]:List UInt8)++a.text)),(3,iv 0)] ?_
  subst hR
  refine ie (A5 ?_)
  exact A0o hr hD
 have h3p:=h3;try simp at h3p
 refine sr 24 rfl (zrl 6 18 [0,0,0] [(23,ag (A2 a)),(28,ag (A2 ({Act.zero with kind:=45,n:=a.n,color:=a.color})))] ?_)
 refine ix rfl (A8q (a:=a) (b:={Act.zero with kind:=45,n:=a.n,color:=a.color}) D0u rfl rfl rfl) ?_
 refine ip' 1 16 [(30,bv (decide (a={Act.zero with kind:=45,n:=a.n,color:=a.color})))] ?_
 refine zid 4 12 30 34 (decide ((0:Int)≤a.n)) (fun g4 g4p=>?_) ?_
 ·refine zrl 4 0 [0] [(34,bv (decide ((0:Int)≤a.n)))] ?_
  exact A7 (M2 2 30 34 g4 A1.nil (mk [true] rfl) rfl rfl rfl rfl rfl)
 refine ip' 1 11 [(35,bv ((decide (a={Act.zero with kind:=45,n:=a.n,color:=a.color}))&&(decide ((0:Int)≤a.n))))] ?_
 refine zia 4 7 35 39 (decide (a.n≤255)) (fun g5=>?_) ?_
 ·have g5p:(a={Act.zero with kind:=45,n:=a.n,color:=a.color})∧((0:Int)≤a.n):=by simpa using g5
  refine zrl 4 0 [0] [(39,bv (decide (a.n≤255)))] ?_
  exact A7 (M2 2 35 39 g5 A1.nil (mk [true] rfl) rfl rfl rfl rfl rfl)
 refine ip' 1 6 [(40,bv (((decide (a={Act.zero with kind:=45,n:=a.n,color:=a.color}))&&(decide ((0:Int)≤a.n)))&&(decide (a.n≤255))))] ?_
 refine zia 5 1 40 45 (decide (a.color.kind=2)) (fun g6=>?_) ?_
 ·have g6p:((a={Act.zero with kind:=45,n:=a.n,color:=a.color})∧((0:Int)≤a.n))∧(a.n≤255):=by simpa using g6
  refine zrl 5 0 [0] [(45,bv (decide (a.color.kind=2)))] ?_
  exact A7 (M2 2 40 45 g6 A1.nil (mk [true] rfl) rfl rfl rfl rfl rfl)
 refine ip' 1 0 [(22,bv ((((decide (a={Act.zero with kind:=45,n:=a.n,color:=a.color}))&&(decide ((0:Int)≤a.n)))&&(decide (a.n≤255)))&&(decide (a.color.kind=2))))] ?_
 refine ie ?_
 refine zjb rfl hR ?_ ?_<;>clear hR<;>intro hR h7
 ·have h7p:(((a={Act.zero with kind:=45,n:=a.n,color:=a.color})∧((0:Int)≤a.n))∧(a.n≤255))∧(a.color.kind=2):=by simpa using h7
  refine sr 8 rfl (zrl 2 6 [0] [(48,ag (L9 a.color))] ?_)
  have hQ:=C3 hR;clear hR;obtain ⟨y23,hy23,hR⟩:=hQ
  refine zca (C8e a.color y23 hy23) A1.nil ?_
  have:=B4c a.color;try rw [hy23] at this
  refine ip' 5 0 [(4,sv y23.1),(5,iv y23.2)] ?_
  refine ie (sr 2 rfl (ip' 2 0 [(53,bv (decide (y23.2=0)))] ?_))
  refine ie ?_
  refine zjd rfl hR ?_ ?_<;>clear hR<;>intro hR h8 h8p
  ·refine sr 9 rfl (zrl 2 7 [0] [(55,iv a.n)] ?_)
   refine zca (A6d (a.n.toNat+1) a.n (by first|omega|(simp<;>omega)) (Nat.lt_succ_self _) _ rfl) A1.nil ?_
   have:=M5 (a.n.toNat+1) a.n
   refine ix rfl (zst rfl rfl rfl) ?_
   refine ix rfl (zst rfl rfl rfl) ?_
   refine ip' 1 3 [(59,sv y23.1)] ?_
   refine ix rfl (zst rfl rfl rfl) ?_
   refine ip' 2 0 [(2,sv (((([52,59]:List UInt8)++(D9 (a.n.toNat+1) a.n))++([59]:List UInt8))++y23.1)),(3,iv 0)] ?_
   subst hR
   refine ie (A5 ?_)
   exact A0o hr hD
  refine A6 (nx (sr 2 rfl (ip' 2 0 [(2,sv ([]:List UInt8)),(3,iv 2)] ?_)))
  subst hR
  refine ie (A5 ?_)
  exact A0o hr hD
 have h7p:¬ ((((a={Act.zero with kind:=45,n:=a.n,color:=a.color})∧((0:Int)≤a.n))∧(a.n≤255))∧(a.color.kind=2)):=by simpa using h7
 refine sr 12 rfl (zrl 4 8 [0,0] [(62,ag (A2 a)),(65,ag (A2 ({Act.zero with kind:=46,text:=a.text})))] ?_)
 refine ix rfl (A8q (a:=a) (b:={Act.zero with kind:=46,text:=a.text}) D0u rfl rfl rfl) ?_
 refine ip' 1 6 [(67,bv (decide (a={Act.zero with kind:=46,text:=a.text})))] ?_
 refine zid 5 1 67 72 (decide ((a.text.length:Int)≤378)) (fun g9 g9p=>?_) ?_
 ·refine zrl 5 0 [0] [(72,bv (decide ((a.text.length:Int)≤378)))] ?_
  exact A7 (M2 2 67 72 g9 A1.nil (mk [true] rfl) rfl rfl rfl rfl rfl)
 refine ip' 1 0 [(61,bv ((decide (a={Act.zero with kind:=46,text:=a.text}))&&(decide ((a.text.length:Int)≤378))))] ?_
 refine ie ?_
 refine zja rfl hR ?_ ?_<;>clear hR<;>intro hR h10 h10p
 ·refine sr 8 rfl (zrl 2 6 [0] [(75,sv a.text)] ?_)
  have hQ:=C3 hR;clear hR;obtain ⟨y32,hy32,hR⟩:=hQ
  refine zca (C2u a.text y32 hy32) A1.nil ?_
  have:=B2o a.text;try rw [hy32] at this
  refine ip' 5 0 [(6,sv y32.1)] ?_
  refine ie (sr 4 rfl (ip' 1 3 [(79,sv y32.1)] ?_))
  refine ix rfl (zst rfl rfl rfl) ?_
  refine ip' 2 0 [(2,sv (([53,50,59,99,59]:List UInt8)++y32.1)),(3,iv 0)] ?_
  subst hR
  refine ie (A5 ?_)
  exact A0o hr hD
 refine A6 (nx (sr 2 rfl (ip' 2 0 [(2,sv ([]:List UInt8)),(3,iv 2)] ?_)))
 subst hR
 refine ie (A5 ?_)
 exact A0o hr hD
def A6s:List Ar2 :=
 ([(⟨768,879⟩:Ar2),(⟨1155,1161⟩:Ar2),(⟨1425,1469⟩:Ar2),(⟨1552,1562⟩:Ar2),(⟨1611,1631⟩:Ar2),(⟨6832,6911⟩:Ar2),(⟨7616,7679⟩:Ar2),(⟨8203,8207⟩:Ar2),(⟨8400,8447⟩:Ar2),(⟨65024,65039⟩:Ar2),(⟨65056,65071⟩:Ar2)]:List Ar2)
theorem C7p (R:List Ar2) (hR:A6s=R):Con Tryz.prog 194 [] [] [] ({t:Option Addr×Nat // R.length≤t.2∧R.length≤9223372036854775807}) (fun x=>.slice x.1.1 R.length x.1.2) (fun x=>[]) (fun x=>[sl A1m x.1.1 R]):=by
 refine zco Tryz.func194 [] fun X hX hr hD=>?_
 replace hR:=(A6s.eq_1 ..).symm.trans hR
 refine sr 1 rfl (ip' 1 0 [] ?_)
 refine ie (sr 13 rfl (zrl 11 2 [] [(1,ag (A1m (⟨768,879⟩:Ar2))),(2,ag (A1m (⟨1155,1161⟩:Ar2))),(3,ag (A1m (⟨1425,1469⟩:Ar2))),(4,ag (A1m (⟨1552,1562⟩:Ar2))),(5,ag (A1m (⟨1611,1631⟩:Ar2))),(6,ag (A1m (⟨6832,6911⟩:Ar2))),(7,ag (A1m (⟨7616,7679⟩:Ar2))),(8,ag (A1m (⟨8203,8207⟩:Ar2))),(9,ag (A1m (⟨8400,8447⟩:Ar2))),(10,ag (A1m (⟨65024,65039⟩:Ar2))),(11,ag (A1m (⟨65056,65071⟩:Ar2)))] ?_))
 refine it rfl (B5 (c:=A1m) (xs:=([(⟨768,879⟩:Ar2),(⟨1155,1161⟩:Ar2),(⟨1425,1469⟩:Ar2),(⟨1552,1562⟩:Ar2),(⟨1611,1631⟩:Ar2),(⟨6832,6911⟩:Ar2),(⟨7616,7679⟩:Ar2),(⟨8203,8207⟩:Ar2),(⟨8400,8447⟩:Ar2),(⟨65024,65039⟩:Ar2),(⟨65056,65071⟩:Ar2)]:List Ar2)) C7y rfl rfl rfl (by kernel_rfl)) fun b1=>?_
 have:([(⟨768,879⟩:Ar2),(⟨1155,1161⟩:Ar2),(⟨1425,1469⟩:Ar2),(⟨1552,1562⟩:Ar2),(⟨1611,1631⟩:Ar2),(⟨6832,6911⟩:Ar2),(⟨7616,7679⟩:Ar2),(⟨8203,8207⟩:Ar2),(⟨8400,8447⟩:Ar2),(⟨65024,65039⟩:Ar2),(⟨65056,65071⟩:Ar2)]:List Ar2).length=11:=rfl
 refine ip' 1 0 [(0,.slice (some ⟨b1,0,none⟩) 11 11)] ?_
 subst hR
 refine ie (A5 ?_)
 exact zer hr hD (M4 rfl (B8 rfl)) (zq (some ⟨b1,0,none⟩) 11) (mk [] rfl) (A1.con1 (B1 0 rfl) A1.nil)
def A3k (cp:Int):List Ar2→Nat→Bool
 | [],i=>false
 | hd_l0::tl_l0,i=>(bif ((decide (hd_l0.a≤cp))&&(decide (cp≤hd_l0.b))) then true else A3k cp tl_l0 (i+1))
def A2n (l:List Ar2) (cp:Int):Bool :=
 A3k cp l 0
theorem C3z (l:List Ar2) (cp:Int) (lq:Option Addr) (lk:Nat) (hll:l.length≤9223372036854775807) (hcl:l.length≤lk) (R:Bool) (hR:A2n l cp=R):I4 Tryz.prog 193 [.slice lq l.length lk,iv cp] [sl A1m lq l] (bv R):=by
 refine zco Tryz.func193 [(0,.slice lq l.length lk),(1,iv cp)] fun X hX hr hD=>?_
 replace hR:=(A2n.eq_1 ..).symm.trans hR
 refine sr 1 rfl (ip' 1 0 [] ?_)
 refine ie (A9 (sr 1 rfl (ip' 1 0 [(5,iv 0)] ?_)))
 refine ie (B3 (C5j (fun (i:Nat)=>(i≤l.length∧A3k cp (l.drop i) i=R,[(0,.slice lq l.length lk),(1,iv cp),(5,iv (i:Int))],[],[sl A1m lq l],l.length - i)) 0 ⟨(by omega),hR⟩ (mk [] rfl) A1.refl ?_))
 rintro i ⟨hm1,hR⟩
 refine A9 (sr 4 rfl (ip' 4 0 [(9,bv (decide ((i:Int)<(l.length:Int))))] ?_))
 refine ie (A1i rfl (fun h2=>?_) (fun h2=>?_))
 ·have h2p:(i:Int)<(l.length:Int):=by simpa using h2
  rw [A3b Ar2.zero (show i<l.length by omega)] at hR;replace hR:=(A3k.eq_2 ..).symm.trans hR
  refine A6 (nx (A9 (B3 (sr 16 rfl (ip' 3 13 [(12,iv cp),(13,.slice lq l.length lk),(14,iv (i:Int))] ?_)))))
  refine N4 0 rfl (by omega) fun a3 hq4=>?_
  refine ix rfl (H4 C7y rfl rfl hq4 rfl i rfl (by omega)) ?_
  refine ix rfl (A2e Tryz.underlying71 ty3 rfl rfl rfl 0 rfl (by decide)) ?_
  refine ix rfl (C8 (v:=iv ((l.getD i Ar2.zero).a)) (us:=[iv ((l.getD i Ar2.zero).a)]) ty3 rfl rfl (B0v (J4 (c:=A1m) (sz:=2) hq4 (fun _=>rfl) 0 rfl (gd Ar2.zero (by omega))) (ws:=[iv ((l.getD i Ar2.zero).a)]) 0 1 rfl) rfl) ?_
  refine ip' 2 8 [(19,bv (decide ((l.getD i Ar2.zero).a≤cp)))] ?_
  refine zid 8 0 19 27 (decide (cp≤(l.getD i Ar2.zero).b)) (fun g5 g5p=>?_) ?_
  ·refine ip' 3 5 [(20,iv cp),(21,.slice lq l.length lk),(22,iv (i:Int))] ?_
   refine ix rfl (H4 C7y rfl rfl hq4 rfl i rfl (by omega)) ?_
   refine ix rfl (A2e Tryz.underlying71 ty3 rfl rfl rfl 1 rfl (by decide)) ?_
   refine ix rfl (C8 (v:=iv ((l.getD i Ar2.zero).b)) (us:=[iv ((l.getD i Ar2.zero).b)]) ty3 rfl rfl (B0v (J4 (c:=A1m) (sz:=2) hq4 (fun _=>rfl) 0 rfl (gd Ar2.zero (by omega))) (ws:=[iv ((l.getD i Ar2.zero).b)]) 1 1 rfl) rfl) ?_
   refine ip' 2 0 [(27,bv (decide (cp≤(l.getD i Ar2.zero).b)))] ?_
   exact zai 8 19 27 g5
  refine ie ?_
  refine zja rfl hR ?_ ?_<;>clear hR<;>intro hR h6 h6p
  ·refine sr 1 rfl (ip' 1 0 [(4,bv true)] ?_)
   subst hR
   refine ie (A5 ?_)
   exact C9 hr hD
  refine A6 (nx (A3 3 rfl (ip' 1 2 [(10,iv (i:Int))] ?_)))
  refine ix rfl (B7 rfl rfl rfl rfl (by omega)) ?_
  refine ip' 1 0 [(5,iv ((i:Int)+1))] ?_
  refine A7 ?_
  exact C5c (z1:=i) (i+1) ⟨(by omega),hR⟩ (by (try dsimp only);omega) (mk [] rfl) A1.refl
 have h2p:¬ ((i:Int)<(l.length:Int)):=by simpa using h2
 rw [A3d h2p] at hR;replace hR:=(A3k.eq_1 ..).symm.trans hR
 refine H7 (nx (sr 1 rfl (ip' 1 0 [(4,bv false)] ?_)))
 subst hR
 refine ie (A5 ?_)
 exact C9 hr hD
def A6t:List Ar2 :=
 ([(⟨4352,4447⟩:Ar2),(⟨11904,12350⟩:Ar2),(⟨12353,13311⟩:Ar2),(⟨13312,19903⟩:Ar2),(⟨19968,40959⟩:Ar2),(⟨40960,42191⟩:Ar2),(⟨44032,55203⟩:Ar2),(⟨63744,64255⟩:Ar2),(⟨65072,65135⟩:Ar2),(⟨65280,65376⟩:Ar2),(⟨65504,65510⟩:Ar2),(⟨127744,128591⟩:Ar2),(⟨128640,128767⟩:Ar2),(⟨129280,129535⟩:Ar2),(⟨131072,262141⟩:Ar2)]:List Ar2)
theorem C9d (R:List Ar2) (hR:A6t=R):Con Tryz.prog 195 [] [] [] ({t:Option Addr×Nat // R.length≤t.2∧R.length≤9223372036854775807}) (fun x=>.slice x.1.1 R.length x.1.2) (fun x=>[]) (fun x=>[sl A1m x.1.1 R]):=by
 refine zco Tryz.func195 [] fun X hX hr hD=>?_
 replace hR:=(A6t.eq_1 ..).symm.trans hR
 refine sr 1 rfl (ip' 1 0 [] ?_)
 refine ie (sr 17 rfl (zrl 15 2 [] [(1,ag (A1m (⟨4352,4447⟩:Ar2))),(2,ag (A1m (⟨11904,12350⟩:Ar2))),(3,ag (A1m (⟨12353,13311⟩:Ar2))),(4,ag (A1m (⟨13312,19903⟩:Ar2))),(5,ag (A1m (⟨19968,40959⟩:Ar2))),(6,ag (A1m (⟨40960,42191⟩:Ar2))),(7,ag (A1m (⟨44032,55203⟩:Ar2))),(8,ag (A1m (⟨63744,64255⟩:Ar2))),(9,ag (A1m (⟨65072,65135⟩:Ar2))),(10,ag (A1m (⟨65280,65376⟩:Ar2))),(11,ag (A1m (⟨65504,65510⟩:Ar2))),(12,ag (A1m (⟨127744,128591⟩:Ar2))),(13,ag (A1m (⟨128640,128767⟩:Ar2))),(14,ag (A1m (⟨129280,129535⟩:Ar2))),(15,ag (A1m (⟨131072,262141⟩:Ar2)))] ?_))
 refine it rfl (B5 (c:=A1m) (xs:=([(⟨4352,4447⟩:Ar2),(⟨11904,12350⟩:Ar2),(⟨12353,13311⟩:Ar2),(⟨13312,19903⟩:Ar2),(⟨19968,40959⟩:Ar2),(⟨40960,42191⟩:Ar2),(⟨44032,55203⟩:Ar2),(⟨63744,64255⟩:Ar2),(⟨65072,65135⟩:Ar2),(⟨65280,65376⟩:Ar2),(⟨65504,65510⟩:Ar2),(⟨127744,128591⟩:Ar2),(⟨128640,128767⟩:Ar2),(⟨129280,129535⟩:Ar2),(⟨131072,262141⟩:Ar2)]:List Ar2)) C7y rfl rfl rfl (by kernel_rfl)) fun b1=>?_
 have:([(⟨4352,4447⟩:Ar2),(⟨11904,12350⟩:Ar2),(⟨12353,13311⟩:Ar2),(⟨13312,19903⟩:Ar2),(⟨19968,40959⟩:Ar2),(⟨40960,42191⟩:Ar2),(⟨44032,55203⟩:Ar2),(⟨63744,64255⟩:Ar2),(⟨65072,65135⟩:Ar2),(⟨65280,65376⟩:Ar2),(⟨65504,65510⟩:Ar2),(⟨127744,128591⟩:Ar2),(⟨128640,128767⟩:Ar2),(⟨129280,129535⟩:Ar2),(⟨131072,262141⟩:Ar2)]:List Ar2).length=15:=rfl
 refine ip' 1 0 [(0,.slice (some ⟨b1,0,none⟩) 15 15)] ?_
 subst hR
 refine ie (A5 ?_)
 exact zer hr hD (M4 rfl (B8 rfl)) (zq (some ⟨b1,0,none⟩) 15) (mk [] rfl) (A1.con1 (B1 0 rfl) A1.nil)
def A7w (cp:Int):Int :=
 (bif (((!(Q5 cp))||(decide (cp<32)))||((decide ((127:Int)≤cp))&&(decide (cp<160)))) then (-1) else (C0 A6s fun (y48:List Ar2)=>(bif (A2n y48 cp) then 0 else (C0 A6t fun (y49:List Ar2)=>(bif (A2n y49 cp) then 2 else 1)))))
theorem D1j (cp:Int) (R:Int) (hR:A7w cp=R):I4 Tryz.prog 135 [iv cp] [] (iv R):=by
 refine zco Tryz.func135 [(0,iv cp)] fun X hX hr hD=>?_
 replace hR:=(A7w.eq_1 ..).symm.trans hR
 refine sr 1 rfl (ip' 1 0 [] ?_)
 refine ie (A9 (sr 15 rfl (ip' 1 14 [(3,iv cp)] ?_)))
 refine zca (B6i cp _ rfl) A1.nil ?_
 refine ip' 2 11 [(6,bv (!(Q5 cp)))] ?_
 refine zio 3 8 6 9 (decide (cp<32)) (fun g1=>?_) ?_
 ·refine ip' 3 0 [(9,bv (decide (cp<32)))] ?_
  exact A7 (M2 2 6 9 g1 A1.nil (mk [] rfl) rfl rfl rfl rfl rfl)
 refine ip' 1 7 [(10,bv ((!(Q5 cp))||(decide (cp<32))))] ?_
 refine zio 7 0 10 17 ((decide ((127:Int)≤cp))&&(decide (cp<160))) (fun g2=>?_) ?_
 ·have g2p:=g2;try simp at g2p
  refine ip' 3 4 [(13,bv (decide ((127:Int)≤cp)))] ?_
  refine zid 3 1 13 16 (decide (cp<160)) (fun g3 g3p=>?_) ?_
  ·refine ip' 3 0 [(16,bv (decide (cp<160)))] ?_
   exact A7 (M2 2 13 16 g3 A1.nil (mk [] rfl) rfl rfl rfl rfl rfl)
  refine ip' 1 0 [(17,bv ((decide ((127:Int)≤cp))&&(decide (cp<160))))] ?_
  exact A7 (M2 4 10 17 g2 A1.nil (mk [] rfl) rfl rfl rfl rfl rfl)
 refine ie ?_
 refine zjb rfl hR ?_ ?_<;>clear hR<;>intro hR h4
 ·have h4p:=h4;try simp at h4p
  refine sr 1 rfl (ip' 1 0 [(2,iv (-1))] ?_)
  subst hR
  refine ie (A5 ?_)
  exact C9 hr hD
 have h4p:=h4;try simp at h4p
 refine A6 (nx (A9 (sr 3 rfl ?_)))
 have hQ:=C3 hR;clear hR;obtain ⟨y48,hy48,hR⟩:=hQ
 refine zcm (C7p y48 hy48) A1.nil fun ⟨⟨q5,k6⟩,hp7⟩=>?_
 obtain ⟨hc8,hl9⟩:=hp7
 refine ip' 1 1 [(19,iv cp)] ?_
 refine zca (C3z y48 cp q5 k6 (by first|omega|(simp<;>omega)|(dsimp only;omega)|decide) (by first|omega|(simp<;>omega)|(dsimp only;omega)|decide) _ rfl) A1.refl ?_
 refine ie ?_
 refine zjb rfl hR ?_ ?_<;>clear hR<;>intro hR h10
 ·refine sr 1 rfl (ip' 1 0 [(2,iv 0)] ?_)
  subst hR
  refine ie (A5 ?_)
  exact C9 hr hD
 refine A6 (nx (A9 (sr 3 rfl ?_)))
 have hQ:=C3 hR;clear hR;obtain ⟨y49,hy49,hR⟩:=hQ
 refine zcm (C9d y49 hy49) A1.nil fun ⟨⟨q11,k12⟩,hp13⟩=>?_
 obtain ⟨hc14,hl15⟩:=hp13
 refine ip' 1 1 [(22,iv cp)] ?_
 refine zca (C3z y49 cp q11 k12 (by first|omega|(simp<;>omega)|(dsimp only;omega)|decide) (by first|omega|(simp<;>omega)|(dsimp only;omega)|decide) _ rfl) (A1.pick [0] rfl) ?_
 refine ie ?_
 refine zjb rfl hR ?_ ?_<;>clear hR<;>intro hR h16
 ·refine sr 1 rfl (ip' 1 0 [(2,iv 2)] ?_)
  subst hR
  refine ie (A5 ?_)
  exact C9 hr hD
 refine A6 (nx (sr 1 rfl (ip' 1 0 [(2,iv 1)] ?_)))
 subst hR
 refine ie (A5 ?_)
 exact C9 hr hD
def F8 (n:Int) (from_:Int) (to_:Int):Bool :=
 ((decide (from_≤n))&&(decide (n≤to_)))
theorem U3 (n:Int) (from_:Int) (to_:Int) (R:Bool) (hR:F8 n from_ to_=R):I4 Tryz.prog 136 [iv n,iv from_,iv to_] [] (bv R):=by
 refine zco Tryz.func136 [(0,iv n),(1,iv from_),(2,iv to_)] fun X hX hr hD=>?_
 replace hR:=(F8.eq_1 ..).symm.trans hR
 refine sr 1 rfl (ip' 1 0 [] ?_)
 refine ie (sr 9 rfl (ip' 4 5 [(10,bv (decide (from_≤n)))] ?_))
 refine zid 4 1 10 14 (decide (n≤to_)) (fun g1 g1p=>?_) ?_
 ·refine ip' 4 0 [(14,bv (decide (n≤to_)))] ?_
  exact A7 (M2 2 10 14 g1 A1.nil (mk [] rfl) rfl rfl rfl rfl rfl)
 refine ip' 1 0 [(6,bv ((decide (from_≤n))&&(decide (n≤to_))))] ?_
 subst hR
 refine ie (A5 ?_)
 exact C9 hr hD
def K3 (n:Int):Bool :=
 (F8 n 1 9999)
theorem A4o (n:Int) (R:Bool) (hR:K3 n=R):I4 Tryz.prog 137 [iv n] [] (bv R):=by
 refine zco Tryz.func137 [(0,iv n)] fun X hX hr hD=>?_
 replace hR:=(K3.eq_1 ..).symm.trans hR
 refine sr 1 rfl (ip' 1 0 [] ?_)
 refine ie (sr 3 rfl (ip' 1 2 [(3,iv n)] ?_))
 refine zca (U3 n 1 9999 _ rfl) A1.nil ?_
 refine ip' 1 0 [(2,bv (F8 n 1 9999))] ?_
 subst hR
 refine ie (A5 ?_)
 exact C9 hr hD
def U6 (a:Act) (t155:Bool):Bool :=
 (bif t155 then ((F8 a.n 0 9999)&&(F8 a.m 0 1)) else (bif (decide (a.kind=38)) then ((F8 a.n 0 9999)&&(F8 a.m 0 9999)) else (bif (decide (a.kind=40)) then ((F8 a.n 0 6)&&(decide (a.m=0))) else (bif (decide (a.kind=41)) then ((F8 a.n 5 6)&&(decide (a.m=0))) else false))))
def J3 (a:Act) (t101:Bool):Bool :=
 (bif t101 then ((K3 a.n)&&(decide (a.m=0))) else (bif (decide (a.kind=26)) then ((F8 a.n 0 3)&&(decide (a.m=0))) else (bif (decide (a.kind=27)) then ((F8 a.n 0 2)&&(decide (a.m=0))) else (bif (decide (a.kind=35)) then (((decide (a.n=0))||(decide (a.n=3)))&&(decide (a.m=0))) else (bif (decide (a.kind=36)) then U6 a (decide (a.kind=36)) else (bif (decide (a.kind=37)) then U6 a (decide (a.kind=37)) else U6 a (decide (a.kind=43))))))))
def X4 (a:Act) (t90:Bool):Bool :=
 (bif t90 then ((F8 a.n 0 1)&&(K3 a.m)) else (bif (decide (a.kind=22)) then J3 a (decide (a.kind=22)) else (bif (decide (a.kind=23)) then J3 a (decide (a.kind=23)) else (bif (decide (a.kind=24)) then J3 a (decide (a.kind=24)) else (bif (decide (a.kind=25)) then J3 a (decide (a.kind=25)) else (bif (decide (a.kind=28)) then J3 a (decide (a.kind=28)) else (bif (decide (a.kind=29)) then J3 a (decide (a.kind=29)) else (bif (decide (a.kind=30)) then J3 a (decide (a.kind=30)) else (bif (decide (a.kind=31)) then J3 a (decide (a.kind=31)) else (bif (decide (a.kind=32)) then J3 a (decide (a.kind=32)) else J3 a (decide (a.kind=34))))))))))))
def V1 (a:Act) (t38:Bool):Bool :=
 (bif t38 then ((F8 a.n 0 1)&&(decide (a.m=0))) else (bif (decide (a.kind=17)) then ((F8 a.n 0 3)&&(F8 a.m 0 1)) else (bif (decide (a.kind=18)) then ((F8 a.n 2 3)&&(decide (a.m=0))) else (bif (decide (a.kind=19)) then ((K3 a.n)&&(K3 a.m)) else (bif (decide (a.kind=20)) then ((F8 a.n 0 3)&&(K3 a.m)) else (bif (decide (a.kind=21)) then X4 a (decide (a.kind=21)) else X4 a (decide (a.kind=33))))))))
def H2 (a:Act) (t16:Bool):Bool :=
 (bif t16 then ((decide (a.n=0))&&(decide (a.m=0))) else (bif (decide (a.kind=7)) then V1 a (decide (a.kind=7)) else (bif (decide (a.kind=14)) then V1 a (decide (a.kind=14)) else V1 a (decide (a.kind=42)))))
def N2 (a:Act):Bool :=
 (bif (decide (a.kind=1)) then ((decide ((0:Int)≤(A7w a.n)))&&(decide (a.m=0))) else (bif (decide (a.kind=2)) then H2 a (decide (a.kind=2)) else (bif (decide (a.kind=3)) then H2 a (decide (a.kind=3)) else (bif (decide (a.kind=4)) then H2 a (decide (a.kind=4)) else (bif (decide (a.kind=5)) then H2 a (decide (a.kind=5)) else (bif (decide (a.kind=6)) then H2 a (decide (a.kind=6)) else (bif (decide (a.kind=8)) then H2 a (decide (a.kind=8)) else (bif (decide (a.kind=9)) then H2 a (decide (a.kind=9)) else (bif (decide (a.kind=10)) then H2 a (decide (a.kind=10)) else (bif (decide (a.kind=11)) then H2 a (decide (a.kind=11)) else (bif (decide (a.kind=12)) then H2 a (decide (a.kind=12)) else (bif (decide (a.kind=13)) then H2 a (decide (a.kind=13)) else (bif (decide (a.kind=15)) then H2 a (decide (a.kind=15)) else H2 a (decide (a.kind=16)))))))))))))))
theorem C1g (a:Act) (R:Bool) (hR:N2 a=R):I4 Tryz.prog 92 [ag (A2 a)] [] (bv R):=by
 refine zco Tryz.func92 [(0,ag (A2 a))] fun X hX hr hD=>?_
 replace hR:=(N2.eq_1 ..).symm.trans hR
 refine sr 2 rfl (O2 2 0 [] (fun b1=>[(1,pt b1 0)]) (fun b1=>[bx b1 (A2 a) 26]) (fun b1=>?_))
 refine ie (A9 (sr 2 rfl (zrl 2 0 [0] [(4,iv a.kind)] ?_)))
 refine ie (B3 (sr 2 rfl (ip' 2 0 [(5,bv (decide (a.kind=1)))] ?_)))
 refine ie ?_
 refine zjd rfl hR ?_ ?_<;>clear hR<;>intro hR h2 h2p
 ·refine sr 10 rfl (zrl 2 8 [0] [(8,iv a.n)] ?_)
  refine zca (D1j a.n _ rfl) A1.nil ?_
  refine ip' 2 5 [(11,bv (decide ((0:Int)≤(A7w a.n))))] ?_
  refine zid 4 1 11 15 (decide (a.m=0)) (fun g3 g3p=>?_) ?_
  ·refine zrl 4 0 [0] [(15,bv (decide (a.m=0)))] ?_
   exact A7 (M2 2 11 15 g3 A1.nil (mk [true] rfl) rfl rfl rfl rfl rfl)
  refine ip' 1 0 [(2,bv ((decide ((0:Int)≤(A7w a.n)))&&(decide (a.m=0))))] ?_
  subst hR
  refine ie (A5 ?_)
  exact C9 hr hD
 refine B5y (fun (t16:Bool)=>(H2 a t16=R,[(1,pt b1 0),(4,iv a.kind),(16,bv t16)],[bx b1 (A2 a) 26],[])) ?_ ?_
 ·refine sr 2 rfl (ip' 2 0 [(16,bv (decide (a.kind=2)))] ?_)
  refine ie ?_
  refine zjd rfl hR ?_ ?_<;>clear hR<;>intro hR h4 h4p
  ·refine A6 ?_
   exact V4 (decide (a.kind=2)) hR (mk [true] rfl) A1.nil
  refine sr 2 rfl (ip' 2 0 [(16,bv (decide (a.kind=3)))] ?_)
  refine ie ?_
  refine zjd rfl hR ?_ ?_<;>clear hR<;>intro hR h5 h5p
  ·refine A6 ?_
   exact V4 (decide (a.kind=3)) hR (mk [true] rfl) A1.nil
  refine sr 2 rfl (ip' 2 0 [(16,bv (decide (a.kind=4)))] ?_)
  refine ie ?_
  refine zjd rfl hR ?_ ?_<;>clear hR<;>intro hR h6 h6p
  ·refine A6 ?_
   exact V4 (decide (a.kind=4)) hR (mk [true] rfl) A1.nil
  refine sr 2 rfl (ip' 2 0 [(16,bv (decide (a.kind=5)))] ?_)
  refine ie ?_
  refine zjd rfl hR ?_ ?_<;>clear hR<;>intro hR h7 h7p
  ·refine A6 ?_
   exact V4 (decide (a.kind=5)) hR (mk [true] rfl) A1.nil
  refine sr 2 rfl (ip' 2 0 [(16,bv (decide (a.kind=6)))] ?_)
  refine ie ?_
  refine zjd rfl hR ?_ ?_<;>clear hR<;>intro hR h8 h8p
  ·refine A6 ?_
   exact V4 (decide (a.kind=6)) hR (mk [true] rfl) A1.nil
  refine sr 2 rfl (ip' 2 0 [(16,bv (decide (a.kind=8)))] ?_)
  refine ie ?_
  refine zjd rfl hR ?_ ?_<;>clear hR<;>intro hR h9 h9p
  ·refine A6 ?_
   exact V4 (decide (a.kind=8)) hR (mk [true] rfl) A1.nil
  refine sr 2 rfl (ip' 2 0 [(16,bv (decide (a.kind=9)))] ?_)
  refine ie ?_
  refine zjd rfl hR ?_ ?_<;>clear hR<;>intro hR h10 h10p
  ·refine A6 ?_
   exact V4 (decide (a.kind=9)) hR (mk [true] rfl) A1.nil
  refine sr 2 rfl (ip' 2 0 [(16,bv (decide (a.kind=10)))] ?_)
  refine ie ?_
  refine zjd rfl hR ?_ ?_<;>clear hR<;>intro hR h11 h11p
  ·refine A6 ?_
   exact V4 (decide (a.kind=10)) hR (mk [true] rfl) A1.nil
  refine sr 2 rfl (ip' 2 0 [(16,bv (decide (a.kind=11)))] ?_)
  refine ie ?_
  refine zjd rfl hR ?_ ?_<;>clear hR<;>intro hR h12 h12p
  ·refine A6 ?_
   exact V4 (decide (a.kind=11)) hR (mk [true] rfl) A1.nil
  refine sr 2 rfl (ip' 2 0 [(16,bv (decide (a.kind=12)))] ?_)
  refine ie ?_
  refine zjd rfl hR ?_ ?_<;>clear hR<;>intro hR h13 h13p
  ·refine A6 ?_
   exact V4 (decide (a.kind=12)) hR (mk [true] rfl) A1.nil
  refine sr 2 rfl (ip' 2 0 [(16,bv (decide (a.kind=13)))] ?_)
  refine ie ?_
  refine zjd rfl hR ?_ ?_<;>clear hR<;>intro hR h14 h14p
  ·refine A6 ?_
   exact V4 (decide (a.kind=13)) hR (mk [true] rfl) A1.nil
  refine sr 2 rfl (ip' 2 0 [(16,bv (decide (a.kind=15)))] ?_)
  refine ie ?_
  refine zjd rfl hR ?_ ?_<;>clear hR<;>intro hR h15 h15p
  ·refine A6 ?_
   exact V4 (decide (a.kind=15)) hR (mk [true] rfl) A1.nil
  refine A3 2 rfl (ip' 2 0 [(16,bv (decide (a.kind=16)))] ?_)
  refine A7 ?_
  exact V4 (decide (a.kind=16)) hR (mk [true] rfl) A1.nil
 intro t16
 rintro hR
 replace hR:=(H2.eq_1 ..).symm.trans hR
 refine zjb rfl hR ?_ ?_<;>clear hR<;>intro hR h16
 ·refine sr 9 rfl (zrl 4 5 [0] [(33,bv (decide (a.n=0)))] ?_)
  refine zid 4 1 33 37 (decide (a.m=0)) (fun g17 g17p=>?_) ?_
  ·refine zrl 4 0 [0] [(37,bv (decide (a.m=0)))] ?_
   exact A7 (M2 2 33 37 g17 A1.nil (mk [true] rfl) rfl rfl rfl rfl rfl)
  refine ip' 1 0 [(2,bv ((decide (a.n=0))&&(decide (a.m=0))))] ?_
  subst hR
  refine ie (A5 ?_)
  exact C9 hr hD
 refine B5y (fun (t38:Bool)=>(V1 a t38=R,[(1,pt b1 0),(4,iv a.kind),(38,bv t38)],[bx b1 (A2 a) 26],[])) ?_ ?_
 ·refine sr 2 rfl (ip' 2 0 [(38,bv (decide (a.kind=7)))] ?_)
  refine ie ?_
  refine zjd rfl hR ?_ ?_<;>clear hR<;>intro hR h18 h18p
  ·refine A6 ?_
   exact V4 (decide (a.kind=7)) hR (mk [true] rfl) A1.nil
  refine sr 2 rfl (ip' 2 0 [(38,bv (decide (a.kind=14)))] ?_)
  refine ie ?_
  refine zjd rfl hR ?_ ?_<;>clear hR<;>intro hR h19 h19p
  ·refine A6 ?_
   exact V4 (decide (a.kind=14)) hR (mk [true] rfl) A1.nil
  refine A3 2 rfl (ip' 2 0 [(38,bv (decide (a.kind=42)))] ?_)
  refine A7 ?_
  exact V4 (decide (a.kind=42)) hR (mk [true] rfl) A1.nil
 intro t38
 rintro hR
 replace hR:=(V1.eq_1 ..).symm.trans hR
 refine zjb rfl hR ?_ ?_<;>clear hR<;>intro hR h20
 ·refine sr 9 rfl (zrl 2 7 [0] [(43,iv a.n)] ?_)
  refine zca (U3 a.n 0 1 _ rfl) A1.nil ?_
  refine ip' 1 5 [(45,bv (F8 a.n 0 1))] ?_
  refine zia 4 1 45 49 (decide (a.m=0)) (fun g21=>?_) ?_
  ·refine zrl 4 0 [0] [(49,bv (decide (a.m=0)))] ?_
   exact A7 (M2 2 45 49 g21 A1.nil (mk [true] rfl) rfl rfl rfl rfl rfl)
  refine ip' 1 0 [(2,bv ((F8 a.n 0 1)&&(decide (a.m=0))))] ?_
  subst hR
  refine ie (A5 ?_)
  exact C9 hr hD
 refine sr 2 rfl (ip' 2 0 [(50,bv (decide (a.kind=17)))] ?_)
 refine ie ?_
 refine zjd rfl hR ?_ ?_<;>clear hR<;>intro hR h22 h22p
 ·refine sr 9 rfl (zrl 2 7 [0] [(53,iv a.n)] ?_)
  refine zca (U3 a.n 0 3 _ rfl) A1.nil ?_
  refine ip' 1 5 [(55,bv (F8 a.n 0 3))] ?_
  refine zia 4 1 55 59 (F8 a.m 0 1) (fun g23=>?_) ?_
  ·refine zrl 2 2 [0] [(57,iv a.m)] ?_
   refine zca (U3 a.m 0 1 _ rfl) A1.nil ?_
   refine ip' 1 0 [(59,bv (F8 a.m 0 1))] ?_
   exact A7 (M2 4 55 59 g23 A1.nil (mk [true] rfl) rfl rfl rfl rfl rfl)
  refine ip' 1 0 [(2,bv ((F8 a.n 0 3)&&(F8 a.m 0 1)))] ?_
  subst hR
  refine ie (A5 ?_)
  exact C9 hr hD
 refine sr 2 rfl (ip' 2 0 [(60,bv (decide (a.kind=18)))] ?_)
 refine ie ?_
 refine zjd rfl hR ?_ ?_<;>clear hR<;>intro hR h24 h24p
 ·refine sr 9 rfl (zrl 2 7 [0] [(63,iv a.n)] ?_)
  refine zca (U3 a.n 2 3 _ rfl) A1.nil ?_
  refine ip' 1 5 [(65,bv (F8 a.n 2 3))] ?_
  refine zia 4 1 65 69 (decide (a.m=0)) (fun g25=>?_) ?_
  ·refine zrl 4 0 [0] [(69,bv (decide (a.m=0)))] ?_
   exact A7 (M2 2 65 69 g25 A1.nil (mk [true] rfl) rfl rfl rfl rfl rfl)
  refine ip' 1 0 [(2,bv ((F8 a.n 2 3)&&(decide (a.m=0))))] ?_
  subst hR
  refine ie (A5 ?_)
  exact C9 hr hD
 refine sr 2 rfl (ip' 2 0 [(70,bv (decide (a.kind=19)))] ?_)
 refine ie ?_
 refine zjd rfl hR ?_ ?_<;>clear hR<;>intro hR h26 h26p
 ·refine sr 9 rfl (zrl 2 7 [0] [(73,iv a.n)] ?_)
  refine zca (A4o a.n _ rfl) A1.nil ?_
  refine ip' 1 5 [(75,bv (K3 a.n))] ?_
  refine zia 4 1 75 79 (K3 a.m) (fun g27=>?_) ?_
  ·refine zrl 2 2 [0] [(77,iv a.m)] ?_
   refine zca (A4o a.m _ rfl) A1.nil ?_
   refine ip' 1 0 [(79,bv (K3 a.m))] ?_
   exact A7 (M2 4 75 79 g27 A1.nil (mk [true] rfl) rfl rfl rfl rfl rfl)
  refine ip' 1 0 [(2,bv ((K3 a.n)&&(K3 a.m)))] ?_
  subst hR
  refine ie (A5 ?_)
  exact C9 hr hD
 refine sr 2 rfl (ip' 2 0 [(80,bv (decide (a.kind=20)))] ?_)
 refine ie ?_
 refine zjd rfl hR ?_ ?_<;>clear hR<;>intro hR h28 h28p
 ·refine sr 9 rfl (zrl 2 7 [0] [(83,iv a.n)] ?_)
  refine zca (U3 a.n 0 3 _ rfl) A1.nil ?_
  refine ip' 1 5 [(85,bv (F8 a.n 0 3))] ?_
  refine zia 4 1 85 89 (K3 a.m) (fun g29=>?_) ?_
  ·refine zrl 2 2 [0] [(87,iv a.m)] ?_
   refine zca (A4o a.m _ rfl) A1.nil ?_
   refine ip' 1 0 [(89,bv (K3 a.m))] ?_
   exact A7 (M2 4 85 89 g29 A1.nil (mk [true] rfl) rfl rfl rfl rfl rfl)
  refine ip' 1 0 [(2,bv ((F8 a.n 0 3)&&(K3 a.m)))] ?_
  subst hR
  refine ie (A5 ?_)
  exact C9 hr hD
 refine B5y (fun (t90:Bool)=>(X4 a t90=R,[(1,pt b1 0),(4,iv a.kind),(90,bv t90)],[bx b1 (A2 a) 26],[])) ?_ ?_
 ·refine sr 2 rfl (ip' 2 0 [(90,bv (decide (a.kind=21)))] ?_)
  refine ie ?_
  refine zjd rfl hR ?_ ?_<;>clear hR<;>intro hR h30 h30p
  ·refine A6 ?_
   exact V4 (decide (a.kind=21)) hR (mk [true] rfl) A1.nil
  refine A3 2 rfl (ip' 2 0 [(90,bv (decide (a.kind=33)))] ?_)
  refine A7 ?_
  exact V4 (decide (a.kind=33)) hR (mk [true] rfl) A1.nil
 intro t90
 rintro hR
 replace hR:=(X4.eq_1 ..).symm.trans hR
 refine zjb rfl hR ?_ ?_<;>clear hR<;>intro hR h31
 ·refine sr 9 rfl (zrl 2 7 [0] [(94,iv a.n)] ?_)
  refine zca (U3 a.n 0 1 _ rfl) A1.nil ?_
  refine ip' 1 5 [(96,bv (F8 a.n 0 1))] ?_
  refine zia 4 1 96 100 (K3 a.m) (fun g32=>?_) ?_
  ·refine zrl 2 2 [0] [(98,iv a.m)] ?_
   refine zca (A4o a.m _ rfl) A1.nil ?_
   refine ip' 1 0 [(100,bv (K3 a.m))] ?_
   exact A7 (M2 4 96 100 g32 A1.nil (mk [true] rfl) rfl rfl rfl rfl rfl)
  refine ip' 1 0 [(2,bv ((F8 a.n 0 1)&&(K3 a.m)))] ?_
  subst hR
  refine ie (A5 ?_)
  exact C9 hr hD
 refine B5y (fun (t101:Bool)=>(J3 a t101=R,[(1,pt b1 0),(4,iv a.kind),(101,bv t101)],[bx b1 (A2 a) 26],[])) ?_ ?_
 ·refine sr 2 rfl (ip' 2 0 [(101,bv (decide (a.kind=22)))] ?_)
  refine ie ?_
  refine zjd rfl hR ?_ ?_<;>clear hR<;>intro hR h33 h33p
  ·refine A6 ?_
   exact V4 (decide (a.kind=22)) hR (mk [true] rfl) A1.nil
  refine sr 2 rfl (ip' 2 0 [(101,bv (decide (a.kind=23)))] ?_)
  refine ie ?_
  refine zjd rfl hR ?_ ?_<;>clear hR<;>intro hR h34 h34p
  ·refine A6 ?_
   exact V4 (decide (a.kind=23)) hR (mk [true] rfl) A1.nil
  refine sr 2 rfl (ip' 2 0 [(101,bv (decide (a.kind=24)))] ?_)
  refine ie ?_
  refine zjd rfl hR ?_ ?_<;>clear hR<;>intro hR h35 h35p
  ·refine A6 ?_
   exact V4 (decide (a.kind=24)) hR (mk [true] rfl) A1.nil
  refine sr 2 rfl (ip' 2 0 [(101,bv (decide (a.kind=25)))] ?_)
  refine ie ?_
  refine zjd rfl hR ?_ ?_<;>clear hR<;>intro hR h36 h36p
  ·refine A6 ?_
   exact V4 (decide (a.kind=25)) hR (mk [true] rfl) A1.nil
  refine sr 2 rfl (ip' 2 0 [(101,bv (decide (a.kind=28)))] ?_)
  refine ie ?_
  refine zjd rfl hR ?_ ?_<;>clear hR<;>intro hR h37 h37p
  ·refine A6 ?_
   exact V4 (decide (a.kind=28)) hR (mk [true] rfl) A1.nil
  refine sr 2 rfl (ip' 2 0 [(101,bv (decide (a.kind=29)))] ?_)
  refine ie ?_
  refine zjd rfl hR ?_ ?_<;>clear hR<;>intro hR h38 h38p
  ·refine A6 ?_
   exact V4 (decide (a.kind=29)) hR (mk [true] rfl) A1.nil
  refine sr 2 rfl (ip' 2 0 [(101,bv (decide (a.kind=30)))] ?_)
  refine ie ?_
  refine zjd rfl hR ?_ ?_<;>clear hR<;>intro hR h39 h39p
  ·refine A6 ?_
   exact V4 (decide (a.kind=30)) hR (mk [true] rfl) A1.nil
  refine sr 2 rfl (ip' 2 0 [(101,bv (decide (a.kind=31)))] ?_)
  refine ie ?_
  refine zjd rfl hR ?_ ?_<;>clear hR<;>intro hR h40 h40p
  ·refine A6 ?_
   exact V4 (decide (a.kind=31)) hR (mk [true] rfl) A1.nil
  refine sr 2 rfl (ip' 2 0 [(101,bv (decide (a.kind=32)))] ?_)
  refine ie ?_
  refine zjd rfl hR ?_ ?_<;>clear hR<;>intro hR h41 h41p
  ·refine A6 ?_
   exact V4 (decide (a.kind=32)) hR (mk [true] rfl) A1.nil
  refine A3 2 rfl (ip' 2 0 [(101,bv (decide (a.kind=34)))] ?_)
  refine A7 ?_
  exact V4 (decide (a.kind=34)) hR (mk [true] rfl) A1.nil
 intro t101
 rintro hR
 replace hR:=(J3.eq_1 ..).symm.trans hR
 refine zjb rfl hR ?_ ?_<;>clear hR<;>intro hR h42
 ·refine sr 9 rfl (zrl 2 7 [0] [(113,iv a.n)] ?_)
  refine zca (A4o a.n _ rfl) A1.nil ?_
  refine ip' 1 5 [(115,bv (K3 a.n))] ?_
  refine zia 4 1 115 119 (decide (a.m=0)) (fun g43=>?_) ?_
  ·refine zrl 4 0 [0] [(119,bv (decide (a.m=0)))] ?_
   exact A7 (M2 2 115 119 g43 A1.nil (mk [true] rfl) rfl rfl rfl rfl rfl)
  refine ip' 1 0 [(2,bv ((K3 a.n)&&(decide (a.m=0))))] ?_
  subst hR
  refine ie (A5 ?_)
  exact C9 hr hD
 refine sr 2 rfl (ip' 2 0 [(120,bv (decide (a.kind=26)))] ?_)
 refine ie ?_
 refine zjd rfl hR ?_ ?_<;>clear hR<;>intro hR h44 h44p
 ·refine sr 9 rfl (zrl 2 7 [0] [(123,iv a.n)] ?_)
  refine zca (U3 a.n 0 3 _ rfl) A1.nil ?_
  refine ip' 1 5 [(125,bv (F8 a.n 0 3))] ?_
  refine zia 4 1 125 129 (decide (a.m=0)) (fun g45=>?_) ?_
  ·refine zrl 4 0 [0] [(129,bv (decide (a.m=0)))] ?_
   exact A7 (M2 2 125 129 g45 A1.nil (mk [true] rfl) rfl rfl rfl rfl rfl)
  refine ip' 1 0 [(2,bv ((F8 a.n 0 3)&&(decide (a.m=0))))] ?_
  subst hR
  refine ie (A5 ?_)
  exact C9 hr hD
 refine sr 2 rfl (ip' 2 0 [(130,bv (decide (a.kind=27)))] ?_)
 refine ie ?_
 refine zjd rfl hR ?_ ?_<;>clear hR<;>intro hR h46 h46p
 ·refine sr 9 rfl (zrl 2 7 [0] [(133,iv a.n)] ?_)
  refine zca (U3 a.n 0 2 _ rfl) A1.nil ?_
  refine ip' 1 5 [(135,bv (F8 a.n 0 2))] ?_
  refine zia 4 1 135 139 (decide (a.m=0)) (fun g47=>?_) ?_
  ·refine zrl 4 0 [0] [(139,bv (decide (a.m=0)))] ?_
   exact A7 (M2 2 135 139 g47 A1.nil (mk [true] rfl) rfl rfl rfl rfl rfl)
  refine ip' 1 0 [(2,bv ((F8 a.n 0 2)&&(decide (a.m=0))))] ?_
  subst hR
  refine ie (A5 ?_)
  exact C9 hr hD
 refine sr 2 rfl (ip' 2 0 [(140,bv (decide (a.kind=35)))] ?_)
 refine ie ?_
 refine zjd rfl hR ?_ ?_<;>clear hR<;>intro hR h48 h48p
 ·refine sr 14 rfl (zrl 4 10 [0] [(145,bv (decide (a.n=0)))] ?_)
  refine zir 4 6 145 149 (decide (a.n=3)) (fun g49 g49p=>?_) ?_
  ·refine zrl 4 0 [0] [(149,bv (decide (a.n=3)))] ?_
   exact A7 (M2 2 145 149 g49 A1.nil (mk [true] rfl) rfl rfl rfl rfl rfl)
  refine ip' 1 5 [(150,bv ((decide (a.n=0))||(decide (a.n=3))))] ?_
  refine zia 4 1 150 154 (decide (a.m=0)) (fun g50=>?_) ?_
  ·have g50p:(a.n=0)∨(a.n=3):=by simpa using g50
   refine zrl 4 0 [0] [(154,bv (decide (a.m=0)))] ?_
   exact A7 (M2 2 150 154 g50 A1.nil (mk [true] rfl) rfl rfl rfl rfl rfl)
  refine ip' 1 0 [(2,bv (((decide (a.n=0))||(decide (a.n=3)))&&(decide (a.m=0))))] ?_
  subst hR
  refine ie (A5 ?_)
  exact C9 hr hD
 refine B5y (fun (t155:Bool)=>(U6 a t155=R,[(1,pt b1 0),(4,iv a.kind),(155,bv t155)],[bx b1 (A2 a) 26],[])) ?_ ?_
 ·refine sr 2 rfl (ip' 2 0 [(155,bv (decide (a.kind=36)))] ?_)
  refine ie ?_
  refine zjd rfl hR ?_ ?_<;>clear hR<;>intro hR h51 h51p
  ·refine A6 ?_
   exact V4 (decide (a.kind=36)) hR (mk [true] rfl) A1.nil
  refine sr 2 rfl (ip' 2 0 [(155,bv (decide (a.kind=37)))] ?_)
  refine ie ?_
  refine zjd rfl hR ?_ ?_<;>clear hR<;>intro hR h52 h52p
  ·refine A6 ?_
   exact V4 (decide (a.kind=37)) hR (mk [true] rfl) A1.nil
  refine A3 2 rfl (ip' 2 0 [(155,bv (decide (a.kind=43)))] ?_)
  refine A7 ?_
  exact V4 (decide (a.kind=43)) hR (mk [true] rfl) A1.nil
 intro t155
 rintro hR
 replace hR:=(U6.eq_1 ..).symm.trans hR
 refine zjb rfl hR ?_ ?_<;>clear hR<;>intro hR h53
 ·refine sr 9 rfl (zrl 2 7 [0] [(160,iv a.n)] ?_)
  refine zca (U3 a.n 0 9999 _ rfl) A1.nil ?_
  refine ip' 1 5 [(162,bv (F8 a.n 0 9999))] ?_
  refine zia 4 1 162 166 (F8 a.m 0 1) (fun g54=>?_) ?_
  ·refine zrl 2 2 [0] [(164,iv a.m)] ?_
   refine zca (U3 a.m 0 1 _ rfl) A1.nil ?_
   refine ip' 1 0 [(166,bv (F8 a.m 0 1))] ?_
   exact A7 (M2 4 162 166 g54 A1.nil (mk [true] rfl) rfl rfl rfl rfl rfl)
  refine ip' 1 0 [(2,bv ((F8 a.n 0 9999)&&(F8 a.m 0 1)))] ?_
  subst hR
  refine ie (A5 ?_)
  exact C9 hr hD
 refine sr 2 rfl (ip' 2 0 [(167,bv (decide (a.kind=38)))] ?_)
 refine ie ?_
 refine zjd rfl hR ?_ ?_<;>clear hR<;>intro hR h55 h55p
 ·refine sr 9 rfl (zrl 2 7 [0] [(170,iv a.n)] ?_)
  refine zca (U3 a.n 0 9999 _ rfl) A1.nil ?_
  refine ip' 1 5 [(172,bv (F8 a.n 0 9999))] ?_
  refine zia 4 1 172 176 (F8 a.m 0 9999) (fun g56=>?_) ?_
  ·refine zrl 2 2 [0] [(174,iv a.m)] ?_
   refine zca (U3 a.m 0 9999 _ rfl) A1.nil ?_
   refine ip' 1 0 [(176,bv (F8 a.m 0 9999))] ?_
   exact A7 (M2 4 172 176 g56 A1.nil (mk [true] rfl) rfl rfl rfl rfl rfl)
  refine ip' 1 0 [(2,bv ((F8 a.n 0 9999)&&(F8 a.m 0 9999)))] ?_
  subst hR
  refine ie (A5 ?_)
  exact C9 hr hD
 refine sr 2 rfl (ip' 2 0 [(177,bv (decide (a.kind=40)))] ?_)
 refine ie ?_
 refine zjd rfl hR ?_ ?_<;>clear hR<;>intro hR h57 h57p
 ·refine sr 9 rfl (zrl 2 7 [0] [(180,iv a.n)] ?_)
  refine zca (U3 a.n 0 6 _ rfl) A1.nil ?_
  refine ip' 1 5 [(182,bv (F8 a.n 0 6))] ?_
  refine zia 4 1 182 186 (decide (a.m=0)) (fun g58=>?_) ?_
  ·refine zrl 4 0 [0] [(186,bv (decide (a.m=0)))] ?_
   exact A7 (M2 2 182 186 g58 A1.nil (mk [true] rfl) rfl rfl rfl rfl rfl)
  refine ip' 1 0 [(2,bv ((F8 a.n 0 6)&&(decide (a.m=0))))] ?_
  subst hR
  refine ie (A5 ?_)
  exact C9 hr hD
 refine sr 2 rfl (ip' 2 0 [(187,bv (decide (a.kind=41)))] ?_)
 refine ie ?_
 refine zjd rfl hR ?_ ?_<;>clear hR<;>intro hR h59 h59p
 ·refine sr 9 rfl (zrl 2 7 [0] [(190,iv a.n)] ?_)
  refine zca (U3 a.n 5 6 _ rfl) A1.nil ?_
  refine ip' 1 5 [(192,bv (F8 a.n 5 6))] ?_
  refine zia 4 1 192 196 (decide (a.m=0)) (fun g60=>?_) ?_
  ·refine zrl 4 0 [0] [(196,bv (decide (a.m=0)))] ?_
   exact A7 (M2 2 192 196 g60 A1.nil (mk [true] rfl) rfl rfl rfl rfl rfl)
  refine ip' 1 0 [(2,bv ((F8 a.n 5 6)&&(decide (a.m=0))))] ?_
  subst hR
  refine ie (A5 ?_)
  exact C9 hr hD
 refine A6 (nx (sr 1 rfl (ip' 1 0 [(2,bv false)] ?_)))
 subst hR
 refine ie (A5 ?_)
 exact C9 hr hD
def B4p (a:Act):Prop:=1≤a.kind∧a.kind≤46∧(a.kind≠1→a.kind≠39→a.kind≠44→a.kind≠45→a.kind≠46→(0≤a.n∧a.n≤9999)∧0≤a.m∧a.m≤9999)∧(a.kind=7∨a.kind=14∨a.kind=21∨a.kind=33∨a.kind=42→0≤a.n∧a.n≤1)∧(a.kind=17∨a.kind=20→0≤a.n∧a.n≤3)∧(a.kind=18→2≤a.n∧a.n≤3)∧(a.kind=17∨a.kind=36∨a.kind=37∨a.kind=43→0≤a.m∧a.m≤1)
def R8 (a:Act) (t12:Bool):Bool :=
 (bif t12 then (C0 (I8 a) fun (y7:List UInt8×Int)=>(decide (y7.2=0))) else (((N2 a)&&(decide (a.color=Col.zero)))&&(decide (a.text=([]:List UInt8)))))
def F1 (a:Act):Bool :=
 (bif (decide (a.kind=39)) then (decide ((L6 a)=0)) else (bif (decide (a.kind=44)) then R8 a (decide (a.kind=44)) else (bif (decide (a.kind=45)) then R8 a (decide (a.kind=45)) else R8 a (decide (a.kind=46)))))
theorem G7 {a:Act} (h:F1 a=true):B4p a:=by
 unfold F1 R8 at h
 by_cases k39:a.kind=39
 ·unfold B4p;omega
 by_cases k44:a.kind=44
 ·unfold B4p;omega
 by_cases k45:a.kind=45
 ·unfold B4p;omega
 by_cases k46:a.kind=46
 ·unfold B4p;omega
 simp only [k39,k44,k45,k46,decide_false,cond_false,Bool.and_eq_true] at h
 have hn:=h.1.1
 clear h
 unfold N2 H2 V1 X4 J3 U6 K3 F8 at hn
 by_cases hr:1≤a.kind∧a.kind≤46
 ·have hk:a.kind=1∨a.kind=2∨a.kind=3∨a.kind=4∨a.kind=5∨a.kind=6∨a.kind=7∨a.kind=8∨a.kind=9∨a.kind=10∨a.kind=11∨a.kind=12∨a.kind=13∨a.kind=14∨a.kind=15∨a.kind=16∨a.kind=17∨a.kind=18∨a.kind=19∨a.kind=20∨a.kind=21∨a.kind=22∨a.kind=23∨a.kind=24∨a.kind=25∨a.kind=26∨a.kind=27∨a.kind=28∨a.kind=29∨a.kind=30∨a.kind=31∨a.kind=32∨a.kind=33∨a.kind=34∨a.kind=35∨a.kind=36∨a.kind=37∨a.kind=38∨a.kind=39∨a.kind=40∨a.kind=41∨a.kind=42∨a.kind=43∨a.kind=44∨a.kind=45∨a.kind=46:=by omega
  unfold B4p
  rcases hk with h | h | h | h | h | h | h | h | h | h | h | h | h | h | h | h | h | h | h | h | h | h | h | h | h | h | h | h | h | h | h | h | h | h | h | h | h | h | h | h | h | h | h | h | h | h<;>simp only [h,Int.reduceEq,decide_true,decide_false,cond_true,cond_false,Bool.and_eq_true,Bool.or_eq_true,decide_eq_true_eq] at hn k39 k44 k45 k46 hr<;>omega
 ·simp only [show ¬ a.kind=1 by omega,show ¬ a.kind=2 by omega,show ¬ a.kind=3 by omega,show ¬ a.kind=4 by omega,show ¬ a.kind=5 by omega,show ¬ a.kind=6 by omega,show ¬ a.kind=7 by omega,show ¬ a.kind=8 by omega,show ¬ a.kind=9 by omega,show ¬ a.kind=10 by omega,show ¬ a.kind=11 by omega,show ¬ a.kind=12 by omega,show ¬ a.kind=13 by omega,show ¬ a.kind=14 by omega,show ¬ a.kind=15 by omega,show ¬ a.kind=16 by omega,show ¬ a.kind=17 by omega,show ¬ a.kind=18 by omega,show ¬ a.kind=19 by omega,show ¬ a.kind=20 by omega,show ¬ a.kind=21 by omega,show ¬ a.kind=22 by omega,show ¬ a.kind=23 by omega,show ¬ a.kind=24 by omega,show ¬ a.kind=25 by omega,show ¬ a.kind=26 by omega,show ¬ a.kind=27 by omega,show ¬ a.kind=28 by omega,show ¬ a.kind=29 by omega,show ¬ a.kind=30 by omega,show ¬ a.kind=31 by omega,show ¬ a.kind=32 by omega,show ¬ a.kind=33 by omega,show ¬ a.kind=34 by omega,show ¬ a.kind=35 by omega,show ¬ a.kind=36 by omega,show ¬ a.kind=37 by omega,show ¬ a.kind=38 by omega,show ¬ a.kind=39 by omega,show ¬ a.kind=40 by omega,show ¬ a.kind=41 by omega,show ¬ a.kind=42 by omega,show ¬ a.kind=43 by omega,show ¬ a.kind=44 by omega,show ¬ a.kind=45 by omega,show ¬ a.kind=46 by omega,decide_false,cond_false] at hn
  exact absurd hn (by decide)
theorem A4n (a:Act) (R:Bool) (hR:F1 a=R):I4 Tryz.prog 41 [ag (A2 a)] [] (bv R):=by
 refine zco Tryz.func41 [(0,ag (A2 a))] fun X hX hr hD=>?_
 replace hR:=(F1.eq_1 ..).symm.trans hR
 refine sr 2 rfl (O2 2 0 [] (fun b1=>[(1,pt b1 0)]) (fun b1=>[bx b1 (A2 a) 26]) (fun b1=>?_))
 refine ie (A9 (sr 2 rfl (zrl 2 0 [0] [(6,iv a.kind)] ?_)))
 refine ie (B3 (sr 2 rfl (ip' 2 0 [(7,bv (decide (a.kind=39)))] ?_)))
 refine ie ?_
 refine zjd rfl hR ?_ ?_<;>clear hR<;>intro hR h2 h2p
 ·refine sr 4 rfl (zrl 1 3 [0] [(9,ag (A2 a))] ?_)
  refine zca (B2p a _ rfl) A1.nil ?_
  refine ip' 2 0 [(2,bv (decide ((L6 a)=0)))] ?_
  subst hR
  refine ie (A5 ?_)
  exact C9 hr hD
 refine B5y (fun (t12:Bool)=>(R8 a t12=R,[(1,pt b1 0),(12,bv t12)],[bx b1 (A2 a) 26],[])) ?_ ?_
 ·refine sr 2 rfl (ip' 2 0 [(12,bv (decide (a.kind=44)))] ?_)
  refine ie ?_
  refine zjd rfl hR ?_ ?_<;>clear hR<;>intro hR h3 h3p
  ·refine A6 ?_
   exact V4 (decide (a.kind=44)) hR (mk [true] rfl) A1.nil
  refine sr 2 rfl (ip' 2 0 [(12,bv (decide (a.kind=45)))] ?_)
  refine ie ?_
  refine zjd rfl hR ?_ ?_<;>clear hR<;>intro hR h4 h4p
  ·refine A6 ?_
   exact V4 (decide (a.kind=45)) hR (mk [true] rfl) A1.nil
  refine A3 2 rfl (ip' 2 0 [(12,bv (decide (a.kind=46)))] ?_)
  refine A7 ?_
  exact V4 (decide (a.kind=46)) hR (mk [true] rfl) A1.nil
 intro t12
 rintro hR
 replace hR:=(R8.eq_1 ..).symm.trans hR
 refine zjb rfl hR ?_ ?_<;>clear hR<;>intro hR h5
 ·refine sr 7 rfl (zrl 1 6 [0] [(17,ag (A2 a))] ?_)
  have hQ:=C3 hR;clear hR;obtain ⟨y7,hy7,hR⟩:=hQ
  refine zca (A7c a y7 hy7) A1.nil ?_
  have:=A2o a;try rw [hy7] at this
  refine ip' 5 0 [(4,iv y7.2)] ?_
  refine ie (sr 3 rfl (ip' 3 0 [(2,bv (decide (y7.2=0)))] ?_))
  subst hR
  refine ie (A5 ?_)
  exact C9 hr hD
 refine A6 (nx (sr 14 rfl (zrl 1 13 [0] [(23,ag (A2 a))] ?_)))
 refine zca (C1g a _ rfl) A1.nil ?_
 refine ip' 1 11 [(25,bv (N2 a))] ?_
 refine zia 5 6 25 30 (decide (a.color=Col.zero)) (fun g6=>?_) ?_
 ·refine zrl 3 2 [0] [(27,ag (L9 a.color)),(28,ag (L9 Col.zero))] ?_
  refine ix rfl (A8q (a:=a.color) (b:=Col.zero) A7q rfl rfl rfl) ?_
  refine ip' 1 0 [(30,bv (decide (a.color=Col.zero)))] ?_
  exact A7 (M2 5 25 30 g6 A1.nil (mk [true] rfl) rfl rfl rfl rfl rfl)
 refine ip' 1 5 [(31,bv ((N2 a)&&(decide (a.color=Col.zero))))] ?_
 refine zia 4 1 31 35 (decide (a.text=([]:List UInt8))) (fun g7=>?_) ?_
 ·have g7p:=g7;try simp at g7p
  refine zrl 2 2 [0] [(33,sv a.text)] ?_
  refine ix rfl (B7t rfl rfl rfl) ?_
  refine ip' 1 0 [(35,bv (decide (a.text=([]:List UInt8))))] ?_
  exact A7 (M2 4 31 35 g7 A1.nil (mk [true] rfl) rfl rfl rfl rfl rfl)
 refine ip' 1 0 [(2,bv (((N2 a)&&(decide (a.color=Col.zero)))&&(decide (a.text=([]:List UInt8)))))] ?_
 subst hR
 refine ie (A5 ?_)
 exact C9 hr hD
def B4g:List Ar3 :=
 ([(⟨1,1,22⟩:Ar3),(⟨2,2,22⟩:Ar3),(⟨3,4,23⟩:Ar3),(⟨5,8,25⟩:Ar3),(⟨7,16,27⟩:Ar3),(⟨8,32,28⟩:Ar3),(⟨9,64,29⟩:Ar3),(⟨53,128,55⟩:Ar3)]:List Ar3)
theorem C4q (R:List Ar3) (hR:B4g=R):Con Tryz.prog 196 [] [] [] ({t:Option Addr×Nat // R.length≤t.2∧R.length≤9223372036854775807}) (fun x=>.slice x.1.1 R.length x.1.2) (fun x=>[]) (fun x=>[sl A7k x.1.1 R]):=by
 refine zco Tryz.func196 [] fun X hX hr hD=>?_
 replace hR:=(B4g.eq_1 ..).symm.trans hR
 refine sr 1 rfl (ip' 1 0 [] ?_)
 refine ie (sr 10 rfl (zrl 8 2 [] [(1,ag (A7k (⟨1,1,22⟩:Ar3))),(2,ag (A7k (⟨2,2,22⟩:Ar3))),(3,ag (A7k (⟨3,4,23⟩:Ar3))),(4,ag (A7k (⟨5,8,25⟩:Ar3))),(5,ag (A7k (⟨7,16,27⟩:Ar3))),(6,ag (A7k (⟨8,32,28⟩:Ar3))),(7,ag (A7k (⟨9,64,29⟩:Ar3))),(8,ag (A7k (⟨53,128,55⟩:Ar3)))] ?_))
 refine it rfl (B5 (c:=A7k) (xs:=([(⟨1,1,22⟩:Ar3),(⟨2,2,22⟩:Ar3),(⟨3,4,23⟩:Ar3),(⟨5,8,25⟩:Ar3),(⟨7,16,27⟩:Ar3),(⟨8,32,28⟩:Ar3),(⟨9,64,29⟩:Ar3),(⟨53,128,55⟩:Ar3)]:List Ar3)) C2a rfl rfl rfl (by kernel_rfl)) fun b1=>?_
 have:([(⟨1,1,22⟩:Ar3),(⟨2,2,22⟩:Ar3),(⟨3,4,23⟩:Ar3),(⟨5,8,25⟩:Ar3),(⟨7,16,27⟩:Ar3),(⟨8,32,28⟩:Ar3),(⟨9,64,29⟩:Ar3),(⟨53,128,55⟩:Ar3)]:List Ar3).length=8:=rfl
 refine ip' 1 0 [(0,.slice (some ⟨b1,0,none⟩) 8 8)] ?_
 subst hR
 refine ie (A5 ?_)
 exact zer hr hD (M4 rfl (B8 rfl)) (zq (some ⟨b1,0,none⟩) 8) (mk [] rfl) (A1.con1 (B1 0 rfl) A1.nil)
def A3w (a:Act):List Ar3→Nat→List Int
 | [],i=>(bif (decide (a.n=0)) then ([0]:List Int) else (bif ((decide (a.n=3))&&(decide (a.m=1))) then ([4]:List Int) else (bif ((decide (a.n=3))&&(decide (a.m=0))) then ([24]:List Int) else (bif (decide (a.n=3)) then ([4,a.m]:List Int) else (bif (decide (a.color.kind=0)) then ([(IntKind.i64.wrap ((IntKind.i64.wrap ((38:Int)+(IntKind.i64.wrap ((10:Int) * (IntKind.i64.wrap (a.n - (4:Int)))))))+(1:Int)))]:List Int) else (bif (decide (a.color.kind=2)) then ([(IntKind.i64.wrap ((38:Int)+(IntKind.i64.wrap ((10:Int) * (IntKind.i64.wrap (a.n - (4:Int))))))),2,(-1),(IntKind.i64.wrap (Int.tdiv a.color.n 65536)),(Int.tmod (IntKind.i64.wrap (Int.tdiv a.color.n 256)) 256),(Int.tmod a.color.n 256)]:List Int) else (bif ((!decide (a.n=6))&&(decide (a.color.n<8))) then ([(IntKind.i64.wrap ((IntKind.i64.wrap ((IntKind.i64.wrap ((38:Int)+(IntKind.i64.wrap ((10:Int) * (IntKind.i64.wrap (a.n - (4:Int))))))) - (8:Int)))+a.color.n))]:List Int) else (bif ((!decide (a.n=6))&&(decide (a.color.n<16))) then ([(IntKind.i64.wrap ((IntKind.i64.wrap ((IntKind.i64.wrap ((38:Int)+(IntKind.i64.wrap ((10:Int) * (IntKind.i64.wrap (a.n - (4:Int)))))))+(44:Int)))+a.color.n))]:List Int) else ([(IntKind.i64.wrap ((38:Int)+(IntKind.i64.wrap ((10:Int) * (IntKind.i64.wrap (a.n - (4:Int))))))),5,a.color.n]:List Int)))))))))
 | hd_l0::tl_l0,i=>(bif ((decide (a.n=1))&&(decide (a.m=hd_l0.b))) then ([hd_l0.a]:List Int) else (bif ((decide (a.n=2))&&((decide (a.m=hd_l0.b))||((decide (a.m=3))&&(decide ((i:Int)=0))))) then ([hd_l0.c]:List Int) else A3w a tl_l0 (i+1)))
def A0y (a:Act):List Int :=
 (C0 B4g fun (y5:List Ar3)=>A3w a y5 0)
theorem C4w (a:Act) (R:List Int) (hR:A0y a=R):Con Tryz.prog 138 [ag (A2 a)] [] [] ({t:Option Addr×Nat // R.length≤t.2∧R.length≤9223372036854775807}) (fun x=>ag [.slice x.1.1 R.length x.1.2]) (fun x=>[]) (fun x=>[sl D8 x.1.1 R]):=by
 refine zco Tryz.func138 [(0,ag (A2 a))] fun X hX hr hD=>?_
 replace hR:=(A0y.eq_1 ..).symm.trans hR
 refine sr 2 rfl (C2e 2 0 [] (fun b1 b2=>[(1,pt b1 0),(2,pt b2 0)]) (fun b1 b2=>[bx b2 [.slice none 0 0] 208,bx b1 (A2 a) 26]) (fun b1 b2=>?_))
 refine ie (sr 2 rfl ?_)
 have hQ:=C3 hR;clear hR;obtain ⟨y5,hy5,hR⟩:=hQ
 refine zcm (C4q y5 hy5) A1.nil fun ⟨⟨q3,k4⟩,hp5⟩=>?_
 obtain ⟨hc6,hl7⟩:=hp5
 refine ip' 1 0 [(3,.slice q3 y5.length k4)] ?_
 refine ie (A9 (sr 1 rfl (ip' 1 0 [(4,iv 0)] ?_)))
 refine ie (B3 (C5j (fun (i:Nat)=>(i≤y5.length∧A3w a (y5.drop i) i=R,[(1,pt b1 0),(2,pt b2 0),(3,.slice q3 y5.length k4),(4,iv (i:Int))],[bx b2 [.slice none 0 0] 208,bx b1 (A2 a) 26],[sl A7k q3 y5],y5.length - i)) 0 ⟨(by omega),hR⟩ (mk [true,true] rfl) A1.refl ?_))
 rintro i ⟨hm8,hR⟩
 refine A9 (sr 4 rfl (ip' 4 0 [(11,bv (decide ((i:Int)<(y5.length:Int))))] ?_))
 refine ie (A1i rfl (fun h9=>?_) (fun h9=>?_))
 ·have h9p:(i:Int)<(y5.length:Int):=by simpa using h9
  rw [A3b Ar3.zero (show i<y5.length by omega)] at hR;replace hR:=(A3w.eq_2 ..).symm.trans hR
  refine A6 (nx (A9 (B3 (A9 (sd 13 rfl (by kernel_rfl) rfl ?_)))))
  refine zdg 4 9 [1] [(17,bv (decide (a.n=1)))] ?_
  refine zdd 9 0 17 26 (decide (a.m=(y5.getD i Ar3.zero).b)) (fun g10 g10p=>?_) ?_
  ·refine zdg 4 5 [1] [(19,iv a.m),(20,.slice q3 y5.length k4),(21,iv (i:Int))] ?_
   refine D3x 0 rfl (by omega) fun a11 hq12=>?_
   refine dd rfl (H4 C2a rfl rfl hq12 rfl i rfl (by omega)) ?_
   refine dd rfl (A2e Tryz.underlying205 ty3 rfl rfl rfl 1 rfl (by decide)) ?_
   refine dd rfl (C8 (v:=iv ((y5.getD i Ar3.zero).b)) (us:=[iv ((y5.getD i Ar3.zero).b)]) ty3 rfl rfl (B0v (J4 (c:=A7k) (sz:=3) hq12 (fun _=>rfl) 0 rfl (gd Ar3.zero (by omega))) (ws:=[iv ((y5.getD i Ar3.zero).b)]) 1 1 rfl) rfl) ?_
   refine dp' 2 0 [(26,bv (decide (a.m=(y5.getD i Ar3.zero).b)))] ?_
   exact zad 8 17 26 g10
  refine de ?_
  refine zja rfl hR ?_ ?_<;>clear hR<;>intro hR h13 h13p
  ·refine sr 8 rfl (ip' 2 6 [(27,.slice q3 y5.length k4),(28,iv (i:Int))] ?_)
   refine N4 0 rfl (by omega) fun a14 hq15=>?_
   refine ix rfl (H4 C2a rfl rfl hq15 rfl i rfl (by omega)) ?_
   refine ix rfl (A2e Tryz.underlying205 ty3 rfl rfl rfl 0 rfl (by decide)) ?_
   refine ix rfl (C8 (v:=iv ((y5.getD i Ar3.zero).a)) (us:=[iv ((y5.getD i Ar3.zero).a)]) ty3 rfl rfl (B0v (J4 (c:=A7k) (sz:=3) hq15 (fun _=>rfl) 0 rfl (gd Ar3.zero (by omega))) (ws:=[iv ((y5.getD i Ar3.zero).a)]) 0 1 rfl) rfl) ?_
   refine it rfl (B5 (c:=D8) (xs:=([(y5.getD i Ar3.zero).a]:List Int)) F9 rfl rfl rfl (by kernel_rfl)) fun b16=>?_
   have:([(y5.getD i Ar3.zero).a]:List Int).length=1:=rfl
   refine zrg 2 0 [0] [] [bx b2 [.slice (some ⟨b16,0,none⟩) 1 1] 208,bx b1 (A2 a) 26] ?_
   subst hR
   refine ie (A5 ?_)
   exact zer hr hD (M4 rfl (D4 (us:=[.slice (some ⟨b16,0,none⟩) 1 1]) V0 rfl 0 rfl rfl rfl)) (zq (some ⟨b16,0,none⟩) 1) (mk [false,false] rfl) (A1.con1 (B1 0 rfl) A1.nil)
  refine A6 (nx (sd 22 rfl (by kernel_rfl) rfl ?_))
  refine zdg 4 18 [1] [(37,bv (decide (a.n=2)))] ?_
  refine zdd 18 0 37 55 ((decide (a.m=(y5.getD i Ar3.zero).b))||((decide (a.m=3))&&(decide ((i:Int)=0)))) (fun g17 g17p=>?_) ?_
  ·refine zdg 4 14 [1] [(39,iv a.m),(40,.slice q3 y5.length k4),(41,iv (i:Int))] ?_
   refine D3x 0 rfl (by omega) fun a18 hq19=>?_
   refine dd rfl (H4 C2a rfl rfl hq19 rfl i rfl (by omega)) ?_
   refine dd rfl (A2e Tryz.underlying205 ty3 rfl rfl rfl 1 rfl (by decide)) ?_
   refine dd rfl (C8 (v:=iv ((y5.getD i Ar3.zero).b)) (us:=[iv ((y5.getD i Ar3.zero).b)]) ty3 rfl rfl (B0v (J4 (c:=A7k) (sz:=3) hq19 (fun _=>rfl) 0 rfl (gd Ar3.zero (by omega))) (ws:=[iv ((y5.getD i Ar3.zero).b)]) 1 1 rfl) rfl) ?_
   refine dp' 2 9 [(46,bv (decide (a.m=(y5.getD i Ar3.zero).b)))] ?_
   refine zdr 8 1 46 54 ((decide (a.m=3))&&(decide ((i:Int)=0))) (fun g20 g20p=>?_) ?_
   ·refine zdg 4 4 [1] [(50,bv (decide (a.m=3)))] ?_
    refine zdd 3 1 50 53 (decide ((i:Int)=0)) (fun g21 g21p=>?_) ?_
    ·refine dp' 3 0 [(53,bv (decide ((i:Int)=0)))] ?_
     exact zad 2 50 53 g21
    refine dp' 1 0 [(54,bv ((decide (a.m=3))&&(decide ((i:Int)=0))))] ?_
    exact zad 4 46 54 g20
   refine dp' 1 0 [(55,bv ((decide (a.m=(y5.getD i Ar3.zero).b))||((decide (a.m=3))&&(decide ((i:Int)=0)))))] ?_
   exact zad 10 37 55 g17
  refine de ?_
  refine zjb rfl hR ?_ ?_<;>clear hR<;>intro hR h22
  ·have h22p:(a.n=2)∧((a.m=(y5.getD i Ar3.zero).b)∨((a.m=3)∧((i:Int)=0))):=by simpa using h22
   refine sr 8 rfl (ip' 2 6 [(56,.slice q3 y5.length k4),(57,iv (i:Int))] ?_)
   refine N4 0 rfl (by omega) fun a23 hq24=>?_
   refine ix rfl (H4 C2a rfl rfl hq24 rfl i rfl (by omega)) ?_
   refine ix rfl (A2e Tryz.underlying205 ty3 rfl rfl rfl 2 rfl (by decide)) ?_
   refine ix rfl (C8 (v:=iv ((y5.getD i Ar3.zero).c)) (us:=[iv ((y5.getD i Ar3.zero).c)]) ty3 rfl rfl (B0v (J4 (c:=A7k) (sz:=3) hq24 (fun _=>rfl) 0 rfl (gd Ar3.zero (by omega))) (ws:=[iv ((y5.getD i Ar3.zero).c)]) 2 1 rfl) rfl) ?_
   refine it rfl (B5 (c:=D8) (xs:=([(y5.getD i Ar3.zero).c]:List Int)) F9 rfl rfl rfl (by kernel_rfl)) fun b25=>?_
   have:([(y5.getD i Ar3.zero).c]:List Int).length=1:=rfl
   refine zrg 2 0 [0] [] [bx b2 [.slice (some ⟨b25,0,none⟩) 1 1] 208,bx b1 (A2 a) 26] ?_
   subst hR
   refine ie (A5 ?_)
   exact zer hr hD (M4 rfl (D4 (us:=[.slice (some ⟨b25,0,none⟩) 1 1]) V0 rfl 0 rfl rfl rfl)) (zq (some ⟨b25,0,none⟩) 1) (mk [false,false] rfl) (A1.con1 (B1 0 rfl) A1.nil)
  have h22p:¬ ((a.n=2)∧((a.m=(y5.getD i Ar3.zero).b)∨((a.m=3)∧((i:Int)=0)))):=by simpa using h22
  refine A6 (nx (A3 3 rfl (ip' 1 2 [(12,iv (i:Int))] ?_)))
  refine ix rfl (B7 rfl rfl rfl rfl (by omega)) ?_
  refine ip' 1 0 [(4,iv ((i:Int)+1))] ?_
  refine A7 ?_
  exact C5c (z1:=i) (i+1) ⟨(by omega),hR⟩ (by (try dsimp only);omega) (mk [true,true] rfl) A1.refl
 have h9p:¬ ((i:Int)<(y5.length:Int)):=by simpa using h9
 rw [A3d h9p] at hR;replace hR:=(A3w.eq_1 ..).symm.trans hR
 refine H7 (nx (sr 4 rfl (O2 4 0 [1,0] (fun b26=>[(5,pt b26 0)]) (fun b26=>[bx b26 (L9 a.color) 24,bx b2 [.slice none 0 0] 208,bx b1 (A2 a) 26]) (fun b26=>?_))))
 refine ie (sr 6 rfl (zrl 2 4 [2] [(66,iv a.n)] ?_))
 refine ix rfl (G4.pure rfl) ?_
 refine ix rfl (G4.pure rfl) ?_
 refine ix rfl (G4.pure rfl) ?_
 refine ip' 1 0 [(6,iv (IntKind.i64.wrap ((38:Int)+(IntKind.i64.wrap ((10:Int) * (IntKind.i64.wrap (a.n - (4:Int))))))))] ?_
 refine ie (A9 (B3 (sr 4 rfl (zrl 4 0 [2] [(70,bv (decide (a.n=0)))] ?_))))
 refine ie ?_
 refine zjd rfl hR ?_ ?_<;>clear hR<;>intro hR h27 h27p
 ·refine sr 3 rfl (it rfl (B5 (c:=D8) (xs:=([0]:List Int)) F9 rfl rfl rfl (by kernel_rfl)) fun b28=>?_)
  have:([0]:List Int).length=1:=rfl
  refine zrg 2 0 [1] [] [bx b26 (L9 a.color) 24,bx b2 [.slice (some ⟨b28,0,none⟩) 1 1] 208,bx b1 (A2 a) 26] ?_
  subst hR
  refine ie (A5 ?_)
  exact zer hr hD (M4 rfl (D4 (us:=[.slice (some ⟨b28,0,none⟩) 1 1]) V0 rfl 1 rfl rfl rfl)) (zq (some ⟨b28,0,none⟩) 1) (mk [false,false,false] rfl) (A1.con1 (B1 0 rfl) A1.nil)
 refine sr 9 rfl (zrl 4 5 [2] [(80,bv (decide (a.n=3)))] ?_)
 refine zid 4 1 80 84 (decide (a.m=1)) (fun g29 g29p=>?_) ?_
 ·refine zrl 4 0 [2] [(84,bv (decide (a.m=1)))] ?_
  exact zai 2 80 84 g29
 refine ip' 1 0 [(76,bv ((decide (a.n=3))&&(decide (a.m=1))))] ?_
 refine ie ?_
 refine zja rfl hR ?_ ?_<;>clear hR<;>intro hR h30 h30p
 ·refine sr 3 rfl (it rfl (B5 (c:=D8) (xs:=([4]:List Int)) F9 rfl rfl rfl (by kernel_rfl)) fun b31=>?_)
  have:([4]:List Int).length=1:=rfl
  refine zrg 2 0 [1] [] [bx b26 (L9 a.color) 24,bx b2 [.slice (some ⟨b31,0,none⟩) 1 1] 208,bx b1 (A2 a) 26] ?_
  subst hR
  refine ie (A5 ?_)
  exact zer hr hD (M4 rfl (D4 (us:=[.slice (some ⟨b31,0,none⟩) 1 1]) V0 rfl 1 rfl rfl rfl)) (zq (some ⟨b31,0,none⟩) 1) (mk [false,false,false] rfl) (A1.con1 (B1 0 rfl) A1.nil)
 refine sr 9 rfl (zrl 4 5 [2] [(91,bv (decide (a.n=3)))] ?_)
 refine zid 4 1 91 95 (decide (a.m=0)) (fun g32 g32p=>?_) ?_
 ·refine zrl 4 0 [2] [(95,bv (decide (a.m=0)))] ?_
  exact zai 2 91 95 g32
 refine ip' 1 0 [(87,bv ((decide (a.n=3))&&(decide (a.m=0))))] ?_
 refine ie ?_
 refine zja rfl hR ?_ ?_<;>clear hR<;>intro hR h33 h33p
 ·refine sr 3 rfl (it rfl (B5 (c:=D8) (xs:=([24]:List Int)) F9 rfl rfl rfl (by kernel_rfl)) fun b34=>?_)
  have:([24]:List Int).length=1:=rfl
  refine zrg 2 0 [1] [] [bx b26 (L9 a.color) 24,bx b2 [.slice (some ⟨b34,0,none⟩) 1 1] 208,bx b1 (A2 a) 26] ?_
  subst hR
  refine ie (A5 ?_)
  exact zer hr hD (M4 rfl (D4 (us:=[.slice (some ⟨b34,0,none⟩) 1 1]) V0 rfl 1 rfl rfl rfl)) (zq (some ⟨b34,0,none⟩) 1) (mk [false,false,false] rfl) (A1.con1 (B1 0 rfl) A1.nil)
 refine sr 4 rfl (zrl 4 0 [2] [(98,bv (decide (a.n=3)))] ?_)
 refine ie ?_
 refine zjd rfl hR ?_ ?_<;>clear hR<;>intro hR h35 h35p
 ·refine sr 5 rfl (zrl 2 3 [2] [(103,iv a.m)] ?_)
  refine it rfl (B5 (c:=D8) (xs:=([4,a.m]:List Int)) F9 rfl rfl rfl (by kernel_rfl)) fun b36=>?_
  have:([4,a.m]:List Int).length=2:=rfl
  refine zrg 2 0 [1] [] [bx b26 (L9 a.color) 24,bx b2 [.slice (some ⟨b36,0,none⟩) 2 2] 208,bx b1 (A2 a) 26] ?_
  subst hR
  refine ie (A5 ?_)
  exact zer hr hD (M4 rfl (D4 (us:=[.slice (some ⟨b36,0,none⟩) 2 2]) V0 rfl 1 rfl rfl rfl)) (zq (some ⟨b36,0,none⟩) 2) (mk [false,false,false] rfl) (A1.con1 (B1 0 rfl) A1.nil)
 refine sr 4 rfl (zrl 4 0 [0] [(106,bv (decide (a.color.kind=0)))] ?_)
 refine ie ?_
 refine zjd rfl hR ?_ ?_<;>clear hR<;>intro hR h37 h37p
 ·refine sr 5 rfl (ip' 1 4 [(110,iv (IntKind.i64.wrap ((38:Int)+(IntKind.i64.wrap ((10:Int) * (IntKind.i64.wrap (a.n - (4:Int))))))))] ?_)
  refine ix rfl (G4.pure rfl) ?_
  refine it rfl (B5 (c:=D8) (xs:=([(IntKind.i64.wrap ((IntKind.i64.wrap ((38:Int)+(IntKind.i64.wrap ((10:Int) * (IntKind.i64.wrap (a.n - (4:Int)))))))+(1:Int)))]:List Int)) F9 rfl rfl rfl (by kernel_rfl)) fun b38=>?_
  have:([(IntKind.i64.wrap ((IntKind.i64.wrap ((38:Int)+(IntKind.i64.wrap ((10:Int) * (IntKind.i64.wrap (a.n - (4:Int)))))))+(1:Int)))]:List Int).length=1:=rfl
  refine zrg 2 0 [1] [] [bx b26 (L9 a.color) 24,bx b2 [.slice (some ⟨b38,0,none⟩) 1 1] 208,bx b1 (A2 a) 26] ?_
  subst hR
  refine ie (A5 ?_)
  exact zer hr hD (M4 rfl (D4 (us:=[.slice (some ⟨b38,0,none⟩) 1 1]) V0 rfl 1 rfl rfl rfl)) (zq (some ⟨b38,0,none⟩) 1) (mk [false,false,false] rfl) (A1.con1 (B1 0 rfl) A1.nil)
 refine sr 4 rfl (zrl 4 0 [0] [(114,bv (decide (a.color.kind=2)))] ?_)
 refine ie ?_
 refine zjd rfl hR ?_ ?_<;>clear hR<;>intro hR h39 h39p
 ·refine sr 14 rfl (zrl 3 11 [0] [(118,iv (IntKind.i64.wrap ((38:Int)+(IntKind.i64.wrap ((10:Int) * (IntKind.i64.wrap (a.n - (4:Int)))))))),(120,iv a.color.n)] ?_)
  refine ix rfl (B2u rfl rfl rfl (by decide)) ?_
  refine zrl 2 8 [0] [(123,iv a.color.n)] ?_
  refine ix rfl (B2u rfl rfl rfl (by decide)) ?_
  refine ix rfl (B0m rfl rfl rfl (by decide) rfl) ?_
  refine zrl 2 4 [0] [(127,iv a.color.n)] ?_
  refine ix rfl (B0m rfl rfl rfl (by decide) rfl) ?_
  refine it rfl (B5 (c:=D8) (xs:=([(IntKind.i64.wrap ((38:Int)+(IntKind.i64.wrap ((10:Int) * (IntKind.i64.wrap (a.n - (4:Int))))))),2,(-1),(IntKind.i64.wrap (Int.tdiv a.color.n 65536)),(Int.tmod (IntKind.i64.wrap (Int.tdiv a.color.n 256)) 256),(Int.tmod a.color.n 256)]:List Int)) F9 rfl rfl rfl (by kernel_rfl)) fun b40=>?_
  have:([(IntKind.i64.wrap ((38:Int)+(IntKind.i64.wrap ((10:Int) * (IntKind.i64.wrap (a.n - (4:Int))))))),2,(-1),(IntKind.i64.wrap (Int.tdiv a.color.n 65536)),(Int.tmod (IntKind.i64.wrap (Int.tdiv a.color.n 256)) 256),(Int.tmod a.color.n 256)]:List Int).length=6:=rfl
  refine zrg 2 0 [1] [] [bx b26 (L9 a.color) 24,bx b2 [.slice (some ⟨b40,0,none⟩) 6 6] 208,bx b1 (A2 a) 26] ?_
  subst hR
  refine ie (A5 ?_)
  exact zer hr hD (M4 rfl (D4 (us:=[.slice (some ⟨b40,0,none⟩) 6 6]) V0 rfl 1 rfl rfl rfl)) (zq (some ⟨b40,0,none⟩) 6) (mk [false,false,false] rfl) (A1.con1 (B1 0 rfl) A1.nil)
 refine sr 9 rfl (zrl 4 5 [2] [(135,bv (!decide (a.n=6)))] ?_)
 refine zia 4 1 135 139 (decide (a.color.n<8)) (fun g41=>?_) ?_
 ·have g41p:¬ a.n=6:=by simpa using g41
  refine zrl 4 0 [0] [(139,bv (decide (a.color.n<8)))] ?_
  exact zai 2 135 139 g41
 refine ip' 1 0 [(131,bv ((!decide (a.n=6))&&(decide (a.color.n<8))))] ?_
 refine ie ?_
 refine zjb rfl hR ?_ ?_<;>clear hR<;>intro hR h42
 ·have h42p:(¬ a.n=6)∧(a.color.n<8):=by simpa using h42
  refine sr 8 rfl (ip' 1 7 [(140,iv (IntKind.i64.wrap ((38:Int)+(IntKind.i64.wrap ((10:Int) * (IntKind.i64.wrap (a.n - (4:Int))))))))] ?_)
  refine ix rfl (G4.pure rfl) ?_
  refine zrl 2 4 [0] [(143,iv a.color.n)] ?_
  refine ix rfl (G4.pure rfl) ?_
  refine it rfl (B5 (c:=D8) (xs:=([(IntKind.i64.wrap ((IntKind.i64.wrap ((IntKind.i64.wrap ((38:Int)+(IntKind.i64.wrap ((10:Int) * (IntKind.i64.wrap (a.n - (4:Int))))))) - (8:Int)))+a.color.n))]:List Int)) F9 rfl rfl rfl (by kernel_rfl)) fun b43=>?_
  have:([(IntKind.i64.wrap ((IntKind.i64.wrap ((IntKind.i64.wrap ((38:Int)+(IntKind.i64.wrap ((10:Int) * (IntKind.i64.wrap (a.n - (4:Int))))))) - (8:Int)))+a.color.n))]:List Int).length=1:=rfl
  refine zrg 2 0 [1] [] [bx b26 (L9 a.color) 24,bx b2 [.slice (some ⟨b43,0,none⟩) 1 1] 208,bx b1 (A2 a) 26] ?_
  subst hR
  refine ie (A5 ?_)
  exact zer hr hD (M4 rfl (D4 (us:=[.slice (some ⟨b43,0,none⟩) 1 1]) V0 rfl 1 rfl rfl rfl)) (zq (some ⟨b43,0,none⟩) 1) (mk [false,false,false] rfl) (A1.con1 (B1 0 rfl) A1.nil)
 have h42p:¬ ((¬ a.n=6)∧(a.color.n<8)):=by simpa using h42
 refine sr 9 rfl (zrl 4 5 [2] [(151,bv (!decide (a.n=6)))] ?_)
 refine zia 4 1 151 155 (decide (a.color.n<16)) (fun g44=>?_) ?_
 ·have g44p:¬ a.n=6:=by simpa using g44
  refine zrl 4 0 [0] [(155,bv (decide (a.color.n<16)))] ?_
  exact zai 2 151 155 g44
 refine ip' 1 0 [(147,bv ((!decide (a.n=6))&&(decide (a.color.n<16))))] ?_
 refine ie ?_
 refine zjb rfl hR ?_ ?_<;>clear hR<;>intro hR h45
 ·have h45p:(¬ a.n=6)∧(a.color.n<16):=by simpa using h45
  refine sr 8 rfl (ip' 1 7 [(156,iv (IntKind.i64.wrap ((38:Int)+(IntKind.i64.wrap ((10:Int) * (IntKind.i64.wrap (a.n - (4:Int))))))))] ?_)
  refine ix rfl (G4.pure rfl) ?_
  refine zrl 2 4 [0] [(159,iv a.color.n)] ?_
  refine ix rfl (G4.pure rfl) ?_
  refine it rfl (B5 (c:=D8) (xs:=([(IntKind.i64.wrap ((IntKind.i64.wrap ((IntKind.i64.wrap ((38:Int)+(IntKind.i64.wrap ((10:Int) * (IntKind.i64.wrap (a.n - (4:Int)))))))+(44:Int)))+a.color.n))]:List Int)) F9 rfl rfl rfl (by kernel_rfl)) fun b46=>?_
  have:([(IntKind.i64.wrap ((IntKind.i64.wrap ((IntKind.i64.wrap ((38:Int)+(IntKind.i64.wrap ((10:Int) * (IntKind.i64.wrap (a.n - (4:Int)))))))+(44:Int)))+a.color.n))]:List Int).length=1:=rfl
  refine zrg 2 0 [1] [] [bx b26 (L9 a.color) 24,bx b2 [.slice (some ⟨b46,0,none⟩) 1 1] 208,bx b1 (A2 a) 26] ?_
  subst hR
  refine ie (A5 ?_)
  exact zer hr hD (M4 rfl (D4 (us:=[.slice (some ⟨b46,0,none⟩) 1 1]) V0 rfl 1 rfl rfl rfl)) (zq (some ⟨b46,0,none⟩) 1) (mk [false,false,false] rfl) (A1.con1 (B1 0 rfl) A1.nil)
 have h45p:¬ ((¬ a.n=6)∧(a.color.n<16)):=by simpa using h45
 refine A6 (nx (sr 6 rfl (zrl 3 3 [0] [(163,iv (IntKind.i64.wrap ((38:Int)+(IntKind.i64.wrap ((10:Int) * (IntKind.i64.wrap (a.n - (4:Int)))))))),(165,iv a.color.n)] ?_)))
 refine it rfl (B5 (c:=D8) (xs:=([(IntKind.i64.wrap ((38:Int)+(IntKind.i64.wrap ((10:Int) * (IntKind.i64.wrap (a.n - (4:Int))))))),5,a.color.n]:List Int)) F9 rfl rfl rfl (by kernel_rfl)) fun b47=>?_
 have:([(IntKind.i64.wrap ((38:Int)+(IntKind.i64.wrap ((10:Int) * (IntKind.i64.wrap (a.n - (4:Int))))))),5,a.color.n]:List Int).length=3:=rfl
 refine zrg 2 0 [1] [] [bx b26 (L9 a.color) 24,bx b2 [.slice (some ⟨b47,0,none⟩) 3 3] 208,bx b1 (A2 a) 26] ?_
 subst hR
 refine ie (A5 ?_)
 exact zer hr hD (M4 rfl (D4 (us:=[.slice (some ⟨b47,0,none⟩) 3 3]) V0 rfl 1 rfl rfl rfl)) (zq (some ⟨b47,0,none⟩) 3) (mk [false,false,false] rfl) (A1.con1 (B1 0 rfl) A1.nil)
def U1 (l:List Act):List Act→List (List Int)→Nat→(List (List Int)×Int)
 | [],out,i=>(bif (decide ((16:Int)<(l.length:Int))) then (([]:List (List Int)),3) else (out,0))
 | hd_l0::tl_l0,out,i=>(bif (!decide ((L6 hd_l0)=0)) then (([]:List (List Int)),141) else (C0 (A0y hd_l0) fun (y11:List Int)=>U1 l tl_l0 (out++([y11]:List (List Int))) (i+1)))
def A6b (l:List Act):List (List Int)×Int :=
 U1 l l ([]:List (List Int)) 0
theorem C2l (l:List Act) (lq:Option Addr) (lk:Nat) (hll:l.length≤9223372036854775807) (hcl:l.length≤lk) (hlen:l.length≤2000) (R:List (List Int)×Int) (hR:A6b l=R):Con Tryz.prog 93 [.slice lq l.length lk] [] [sl A2 lq l] ({t:VR×List Slc // VOk 1 R.1.length t.1∧I5 t.2 R.1}) (fun x=>.tuple #[.slice (va x.1.1.q) R.1.length x.1.1.k,iv R.2]) (fun x=>((vo O8 208 x.1.1 x.1.2)++([]))) (fun x=>[P5 D8 x.1.2 R.1]):=by
 refine zco Tryz.func93 [(0,.slice lq l.length lk)] fun X hX hr hD=>?_
 replace hR:=(A6b.eq_1 ..).symm.trans hR
 refine sr 2 rfl (ip' 2 0 [] ?_)
 refine ie (sr 1 rfl (ip' 1 0 [(4,.slice none 0 0)] ?_))
 refine ie (A9 (sr 1 rfl (ip' 1 0 [(5,iv 0)] ?_)))
 refine ie (B3 ?_)
 refine C1d (fun (out:List (List Int)) (outr:VR) (outrs:List Slc) (i:Nat)=>(i≤l.length∧U1 l (l.drop i) out i=R∧VOk 1 out.length outr∧I5 outrs out∧out.length≤i,[(0,.slice lq l.length lk),(4,.slice (va outr.q) out.length outr.k),(5,iv (i:Int))],((vo O8 208 outr outrs)++([])),[sl A2 lq l,P5 D8 outrs out],l.length - i)) ([]:List (List Int)) VR.nil ([]:List Slc) 0 ⟨(by omega),hR,VOk.nil,I5.none,(by simp)⟩ (mc [vo O8 208 VR.nil ([]:List Slc)] [true] rfl (by first|rfl|(simp only [List.length_set]<;>rfl))) (A1.con1 (B1 0 rfl) (A1.con1 A1n A1.nil)) ?_
 rintro out outr outrs i ⟨hm1,hR,hokoutr,hrowsoutrs,ho⟩
 have:=VOk.le hokoutr
 have:=hrowsoutrs.1
 refine A9 (sr 4 rfl (ip' 4 0 [(9,bv (decide ((i:Int)<(l.length:Int))))] ?_))
 refine ie (A1i rfl (fun h2=>?_) (fun h2=>?_))
 ·have h2p:(i:Int)<(l.length:Int):=by simpa using h2
  rw [A3b Act.zero (show i<l.length by omega)] at hR;replace hR:=(U1.eq_2 ..).symm.trans hR
  refine A6 (nx (A9 (B3 (A9 (sr 6 rfl (ip' 2 4 [(12,.slice lq l.length lk),(13,iv (i:Int))] ?_))))))
  refine N4 0 rfl (by omega) fun a3 hq4=>?_
  refine ix rfl (H4 A5u rfl rfl hq4 rfl i rfl (by omega)) ?_
  refine ix rfl (X3 (us:=A2 (l.getD i Act.zero)) A1u rfl rfl (J4 (c:=A2) (sz:=6) hq4 (fun _=>rfl) 0 rfl (gd Act.zero (by omega))) rfl) ?_
  refine zca (B2p (l.getD i Act.zero) _ rfl) A1.nil ?_
  refine ip' 1 0 [(17,bv (!decide ((L6 (l.getD i Act.zero))=0)))] ?_
  refine ie ?_
  refine zjn rfl hR ?_ ?_<;>clear hR<;>intro hR h5 h5p
  ·refine sr 2 rfl (ip' 2 0 [(2,.slice none 0 0),(3,iv 141)] ?_)
   subst hR
   refine ie (A5 ?_)
   exact zer hr hD (A5m rfl (B8 rfl) (B8 rfl)) ⟨(VR.nil,([]:List Slc)),⟨VOk.nil,I5.none⟩⟩ (mc [vo O8 208 outr outrs,vo O8 208 VR.nil ([]:List Slc)] [false,true] rfl (by first|rfl|(simp only [List.length_set]<;>rfl))) (A1.con1 A1n A1.nil)
  refine A6 (nx (A3 9 rfl (ip' 3 6 [(18,.slice (va outr.q) out.length outr.k),(19,.slice lq l.length lk),(20,iv (i:Int))] ?_)))
  refine ix rfl (H4 A5u rfl rfl hq4 rfl i rfl (by omega)) ?_
  refine ix rfl (X3 (us:=A2 (l.getD i Act.zero)) A1u rfl rfl (J4 (c:=A2) (sz:=6) hq4 (fun _=>rfl) 0 rfl (gd Act.zero (by omega))) rfl) ?_
  have hQ:=C3 hR;clear hR;obtain ⟨y11,hy11,hR⟩:=hQ
  refine zcm (C4w (l.getD i Act.zero) y11 hy11) A1.nil fun ⟨⟨q6,k7⟩,hp8⟩=>?_
  obtain ⟨hc9,hl10⟩:=hp8
  refine it rfl (B5 (c:=O8) (xs:=([⟨q6,y11.length,k7⟩]:List Slc)) A2z rfl rfl rfl (by kernel_rfl)) fun b11=>?_
  have hrows12:I5 ([⟨q6,y11.length,k7⟩]:List Slc) ([y11]:List (List Int)):=(I5.cons ⟨rfl,(by first|omega|(simp<;>omega)|(dsimp only;omega)|decide),(by first|omega|(simp<;>omega)|(dsimp only;omega)|decide)⟩ I5.none)
  refine F3 (q:=P5 D8 ([⟨q6,y11.length,k7⟩]:List Slc) ([y11]:List (List Int))) (B5j (B1 1 rfl) A1n) ?_
  have:([⟨q6,y11.length,k7⟩]:List Slc).length=1:=rfl
  have hw15:I5 (outrs++([⟨q6,y11.length,k7⟩]:List Slc)) (out++([y11]:List (List Int))):=I5.append hrowsoutrs hrows12
  refine it rfl (A8s (r:=outr) (rs:=outrs) (xss:=out) (pre:=[]) (post:=[]) C7q rfl rfl rfl rfl rfl rfl rfl rfl rfl (B1 1 rfl) (B1 4 rfl) (B1 0 rfl) hrowsoutrs hrows12 hokoutr (by first|omega|(simp<;>omega)) (by first|omega|(simp<;>omega))) fun ⟨r13,hr14⟩=>?_
  have:=VOk.le hr14
  have:=VOk.cap hr14
  have:([y11]:List (List Int)).length=1:=rfl
  have:(out++([y11]:List (List Int))).length=out.length+1:=List.length_append
  refine ip' 1 0 [(4,.slice (va r13.q) ((out++([y11]:List (List Int))).length) r13.k)] ?_
  refine A7 (nx (A3 3 rfl (ip' 1 2 [(10,iv (i:Int))] ?_)))
  refine ix rfl (B7 rfl rfl rfl rfl (by omega)) ?_
  refine ip' 1 0 [(5,iv ((i:Int)+1))] ?_
  refine A7 ?_
  exact B6z (z1:=out) (z2:=outr) (z3:=outrs) (z4:=i) (out++([y11]:List (List Int))) r13 (outrs++([⟨q6,y11.length,k7⟩]:List Slc)) (i+1) ⟨(by omega),hR,hr14,hw15,(by first|omega|(simp<;>omega))⟩ (by (try dsimp only);omega) (mc [vo O8 208 r13 (outrs++([⟨q6,y11.length,k7⟩]:List Slc))] [true] rfl (by first|rfl|(simp only [List.length_set]<;>rfl))) (A1.pick [4,0] rfl)
 have h2p:¬ ((i:Int)<(l.length:Int)):=by simpa using h2
 rw [A3d h2p] at hR;replace hR:=(U1.eq_1 ..).symm.trans hR
 refine H7 (nx (A9 (sr 3 rfl (ip' 3 0 [(28,bv (decide ((16:Int)<(l.length:Int))))] ?_))))
 refine ie ?_
 refine zjd rfl hR ?_ ?_<;>clear hR<;>intro hR h16 h16p
 ·refine sr 2 rfl (ip' 2 0 [(2,.slice none 0 0),(3,iv 3)] ?_)
  subst hR
  refine ie (A5 ?_)
  exact zer hr hD (A5m rfl (B8 rfl) (B8 rfl)) ⟨(VR.nil,([]:List Slc)),⟨VOk.nil,I5.none⟩⟩ (mc [vo O8 208 outr outrs,vo O8 208 VR.nil ([]:List Slc)] [false,true] rfl (by first|rfl|(simp only [List.length_set]<;>rfl))) (A1.con1 A1n A1.nil)
 refine A6 (nx (sr 3 rfl (ip' 3 0 [(2,.slice (va outr.q) out.length outr.k),(3,iv 0)] ?_)))
 subst hR
 refine ie (A5 ?_)
 exact zer hr hD (A5m rfl (B8 rfl) (B8 rfl)) ⟨(outr,outrs),⟨hokoutr,hrowsoutrs⟩⟩ (mc [vo O8 208 outr outrs] [true] rfl (by first|rfl|(simp only [List.length_set]<;>rfl))) (A1.con1 (B1 1 rfl) A1.nil)
def S4 (i:Nat) (ag_ref05_Check_l2:Nat→Int):List Int→Nat→Int
 | [],k=>ag_ref05_Check_l2 (i+1)
 | hd_l3::tl_l3,k=>(bif ((decide (hd_l3<(-1)))||(decide ((9999:Int)<hd_l3))) then 150 else S4 i ag_ref05_Check_l2 tl_l3 (k+1))
def Q6 (l:List (List Int)):List (List Int)→Nat→Int
 | [],i=>(bif (((decide ((l.length:Int)=1))&&(decide (((l.getD 0 []).length:Int)=1)))&&(decide (((l.getD 0 []).getD 0 0)=(-1)))) then 150 else 0)
 | hd_l2::tl_l2,i=>(bif ((decide ((hd_l2.length:Int)<1))||(decide ((6:Int)<(hd_l2.length:Int)))) then 150 else S4 i (Q6 l tl_l2) hd_l2 0)
def A1e (l:List (List Int)):Int :=
 (bif (decide ((16:Int)<(l.length:Int))) then 150 else Q6 l l 0)
theorem B0t (i:Nat) (ag:Nat→Int) (hag:ag (i+1)≠150→True):∀ (r:List Int) (k:Nat),S4 i ag r k≠150→(∀ n ∈ r,-1≤n∧n≤9999)∧S4 i ag r k=ag (i+1)
 | [],k,h=>⟨fun n hn=>(by cases hn),rfl⟩
 | x::r,k,h=>by
  simp only [S4] at h ⊢
  cases hc:(decide (x<(-1)))||(decide ((9999:Int)<x)) with
  | true=>rw [hc,cond_true] at h;exact absurd rfl h
  | false =>
   rw [hc,cond_false] at h
   have ih:=B0t i ag hag r (k+1) h
   simp only [Bool.or_eq_false_iff,decide_eq_false_iff_not] at hc
   refine ⟨fun n hn=>?_,by rw [cond_false];exact ih.2⟩
   rcases List.mem_cons.1 hn with rfl | hn
   ·omega
   ·exact ih.1 n hn
theorem B1d (l:List (List Int)):∀ (s:List (List Int)) (i:Nat),Q6 l s i≠150→∀ r ∈ s,1≤r.length∧r.length≤6∧∀ n ∈ r,-1≤n∧n≤9999
 | [],i,h,r,hr=>by cases hr
 | x::s,i,h,r,hr=>by
  simp only [Q6] at h
  cases hc:(decide ((x.length:Int)<1))||(decide ((6:Int)<(x.length:Int))) with
  | true=>rw [hc,cond_true] at h;exact absurd rfl h
  | false =>
   rw [hc,cond_false] at h
   have h3:=B0t i _ (fun _=>trivial) x 0 h
   rw [h3.2] at h
   simp only [Bool.or_eq_false_iff,decide_eq_false_iff_not] at hc
   rcases List.mem_cons.1 hr with rfl | hr
   ·exact ⟨by omega,by omega,h3.1⟩
   ·exact B1d l s (i+1) h r hr
theorem B5c {l:List (List Int)} (h:A1e l=0):B2h l:=by
 unfold A1e at h
 cases hc:decide ((16:Int)<(l.length:Int)) with
 | true=>rw [hc,cond_true] at h;omega
 | false =>
  rw [hc,cond_false] at h
  simp only [decide_eq_false_iff_not] at hc
  exact ⟨by omega,B1d l l 0 (by rw [h];omega)⟩
theorem C4o (l:List (List Int)) (lq:Option Addr) (lrs:List Slc) (lk:Nat) (hrowslrs:I5 lrs l) (hll:l.length≤9223372036854775807) (hcl:l.length≤lk) (R:Int) (hR:A1e l=R):I4 Tryz.prog 139 [.slice lq l.length lk] [sl O8 lq lrs,P5 D8 lrs l] (iv R):=by
 refine zco Tryz.func139 [(0,.slice lq l.length lk)] fun X hX hr hD=>?_
 replace hR:=(A1e.eq_1 ..).symm.trans hR
 have:=hrowslrs.1
 refine sr 1 rfl (ip' 1 0 [] ?_)
 refine ie (A9 (sr 3 rfl (ip' 3 0 [(7,bv (decide ((16:Int)<(l.length:Int))))] ?_)))
 refine ie ?_
 refine zjd rfl hR ?_ ?_<;>clear hR<;>intro hR h1 h1p
 ·refine sr 1 rfl (ip' 1 0 [(2,iv 150)] ?_)
  subst hR
  refine ie (A5 ?_)
  exact C9 hr hD
 refine A6 (nx (A9 (sr 1 rfl (ip' 1 0 [(3,iv 0)] ?_))))
 refine ie (B3 (C5j (fun (i:Nat)=>(i≤l.length∧Q6 l (l.drop i) i=R,[(0,.slice lq l.length lk),(3,iv (i:Int))],[],[sl O8 lq lrs,P5 D8 lrs l],l.length - i)) 0 ⟨(by omega),hR⟩ (mk [] rfl) A1.refl ?_))
 rintro i ⟨hm2,hR⟩
 refine A9 (sr 4 rfl (ip' 4 0 [(11,bv (decide ((i:Int)<(l.length:Int))))] ?_))
 refine ie (A1i rfl (fun h3=>?_) (fun h3=>?_))
 ·have h3p:(i:Int)<(l.length:Int):=by simpa using h3
  rw [A3b [] (show i<l.length by omega)] at hR;replace hR:=(Q6.eq_2 ..).symm.trans hR
  refine A6 (nx (A9 (B3 (A9 (sr 16 rfl (ip' 2 14 [(14,.slice lq l.length lk),(15,iv (i:Int))] ?_))))))
  refine N4 0 rfl (by omega) fun a4 hq5=>?_
  refine F3 (A7i (k:=i) (d:=(⟨none,0,0⟩:Slc)) hrowslrs 1 rfl (by have:=hrowslrs.1;omega)) ?_
  have:=A7p hrowslrs (k:=i) (d:=(⟨none,0,0⟩:Slc)) (by have:=hrowslrs.1;omega)
  refine ix rfl (H4 A2z rfl rfl hq5 rfl i rfl (by omega)) ?_
  refine ip' 1 12 [(17,pa (Addr.add a4 (i * 1)))] ?_
  refine ix rfl (G3 (C8 (v:=.slice ((lrs.getD i (⟨none,0,0⟩:Slc)).q) ((lrs.getD i (⟨none,0,0⟩:Slc)).n) ((lrs.getD i (⟨none,0,0⟩:Slc)).k)) (us:=[.slice ((lrs.getD i (⟨none,0,0⟩:Slc)).q) ((lrs.getD i (⟨none,0,0⟩:Slc)).n) ((lrs.getD i (⟨none,0,0⟩:Slc)).k)]) B2f rfl rfl (W8 (J4 (c:=O8) (sz:=1) hq5 (fun _=>rfl) 1 rfl (gd (⟨none,0,0⟩:Slc) (by have:=hrowslrs.1;omega))) (ws:=[.slice ((lrs.getD i (⟨none,0,0⟩:Slc)).q) ((lrs.getD i (⟨none,0,0⟩:Slc)).n) ((lrs.getD i (⟨none,0,0⟩:Slc)).k)]) 1 rfl) rfl) (A1b hrowslrs (by have:=hrowslrs.1;omega))) ?_
  refine ip' 3 8 [(21,bv (decide (((l.getD i []).length:Int)<1)))] ?_
  refine zir 8 0 21 29 (decide ((6:Int)<((l.getD i []).length:Int))) (fun g6 g6p=>?_) ?_
  ·refine ip' 2 6 [(22,.slice lq l.length lk),(23,iv (i:Int))] ?_
   refine ix rfl (H4 A2z rfl rfl hq5 rfl i rfl (by omega)) ?_
   refine ip' 1 4 [(25,pa (Addr.add a4 (i * 1)))] ?_
   refine ix rfl (G3 (C8 (v:=.slice ((lrs.getD i (⟨none,0,0⟩:Slc)).q) ((lrs.getD i (⟨none,0,0⟩:Slc)).n) ((lrs.getD i (⟨none,0,0⟩:Slc)).k)) (us:=[.slice ((lrs.getD i (⟨none,0,0⟩:Slc)).q) ((lrs.getD i (⟨none,0,0⟩:Slc)).n) ((lrs.getD i (⟨none,0,0⟩:Slc)).k)]) B2f rfl rfl (W8 (J4 (c:=O8) (sz:=1) hq5 (fun _=>rfl) 1 rfl (gd (⟨none,0,0⟩:Slc) (by have:=hrowslrs.1;omega))) (ws:=[.slice ((lrs.getD i (⟨none,0,0⟩:Slc)).q) ((lrs.getD i (⟨none,0,0⟩:Slc)).n) ((lrs.getD i (⟨none,0,0⟩:Slc)).k)]) 1 rfl) rfl) (A1b hrowslrs (by have:=hrowslrs.1;omega))) ?_
   refine ip' 3 0 [(29,bv (decide ((6:Int)<((l.getD i []).length:Int))))] ?_
   exact zai 7 21 29 g6
  refine ie ?_
  refine zjo rfl hR ?_ ?_<;>clear hR<;>intro hR h7 h7p
  ·refine sr 1 rfl (ip' 1 0 [(2,iv 150)] ?_)
   subst hR
   refine ie (A5 ?_)
   exact C9 hr hD
  refine A6 (nx (sr 1 rfl (ip' 1 0 [(4,iv 0)] ?_)))
  refine ie (B3 (C5j (fun (k:Nat)=>(k≤(l.getD i []).length∧S4 i (Q6 l (l.drop (i+1))) ((l.getD i []).drop k) k=R,[(0,.slice lq l.length lk),(3,iv (i:Int)),(4,iv (k:Int))],[],[sl D8 ((lrs.getD i (⟨none,0,0⟩:Slc)).q) (l.getD i []),sl O8 lq lrs,P5 D8 lrs l],(l.getD i []).length - k)) 0 ⟨(by omega),hR⟩ (mk [] rfl) A1.refl ?_))
  rintro k ⟨hm8,hR⟩
  refine A9 (sr 8 rfl (ip' 3 5 [(30,iv (k:Int)),(31,.slice lq l.length lk),(32,iv (i:Int))] ?_))
  refine ix rfl (H4 A2z rfl rfl hq5 rfl i rfl (by omega)) ?_
  refine ip' 1 3 [(34,pa (Addr.add a4 (i * 1)))] ?_
  refine ix rfl (G3 (C8 (v:=.slice ((lrs.getD i (⟨none,0,0⟩:Slc)).q) ((lrs.getD i (⟨none,0,0⟩:Slc)).n) ((lrs.getD i (⟨none,0,0⟩:Slc)).k)) (us:=[.slice ((lrs.getD i (⟨none,0,0⟩:Slc)).q) ((lrs.getD i (⟨none,0,0⟩:Slc)).n) ((lrs.getD i (⟨none,0,0⟩:Slc)).k)]) B2f rfl rfl (W8 (J4 (c:=O8) (sz:=1) hq5 (fun _=>rfl) 1 rfl (gd (⟨none,0,0⟩:Slc) (by have:=hrowslrs.1;omega))) (ws:=[.slice ((lrs.getD i (⟨none,0,0⟩:Slc)).q) ((lrs.getD i (⟨none,0,0⟩:Slc)).n) ((lrs.getD i (⟨none,0,0⟩:Slc)).k)]) 1 rfl) rfl) (A1b hrowslrs (by have:=hrowslrs.1;omega))) ?_
  refine ip' 2 0 [(37,bv (decide ((k:Int)<((l.getD i []).length:Int))))] ?_
  refine ie (A1i rfl (fun h9=>?_) (fun h9=>?_))
  ·have h9p:(k:Int)<((l.getD i []).length:Int):=by simpa using h9
   rw [A3b 0 (show k<(l.getD i []).length by omega)] at hR;replace hR:=(S4.eq_2 ..).symm.trans hR
   refine A6 (nx (A9 (B3 (sr 20 rfl (ip' 2 18 [(40,.slice lq l.length lk),(41,iv (i:Int))] ?_)))))
   refine ix rfl (H4 A2z rfl rfl hq5 rfl i rfl (by omega)) ?_
   refine ip' 1 16 [(43,pa (Addr.add a4 (i * 1)))] ?_
   refine ix rfl (G3 (C8 (v:=.slice ((lrs.getD i (⟨none,0,0⟩:Slc)).q) ((lrs.getD i (⟨none,0,0⟩:Slc)).n) ((lrs.getD i (⟨none,0,0⟩:Slc)).k)) (us:=[.slice ((lrs.getD i (⟨none,0,0⟩:Slc)).q) ((lrs.getD i (⟨none,0,0⟩:Slc)).n) ((lrs.getD i (⟨none,0,0⟩:Slc)).k)]) B2f rfl rfl (W8 (J4 (c:=O8) (sz:=1) hq5 (fun _=>rfl) 1 rfl (gd (⟨none,0,0⟩:Slc) (by have:=hrowslrs.1;omega))) (ws:=[.slice ((lrs.getD i (⟨none,0,0⟩:Slc)).q) ((lrs.getD i (⟨none,0,0⟩:Slc)).n) ((lrs.getD i (⟨none,0,0⟩:Slc)).k)]) 1 rfl) rfl) (A1b hrowslrs (by have:=hrowslrs.1;omega))) ?_
   refine ip' 1 14 [(45,iv (k:Int))] ?_
   refine N4 0 rfl (by omega) fun a10 hq11=>?_
   refine ix rfl (H4 F9 rfl rfl hq11 rfl k rfl (by omega)) ?_
   refine ix rfl (C8 (v:=iv ((l.getD i []).getD k 0)) (us:=[iv ((l.getD i []).getD k 0)]) ty3 rfl rfl (J4 (c:=D8) (sz:=1) hq11 (fun _=>rfl) 0 rfl (gd 0 (by omega))) rfl) ?_
   refine ip' 2 10 [(49,bv (decide (((l.getD i []).getD k 0)<(-1))))] ?_
   refine zir 10 0 49 59 (decide ((9999:Int)<((l.getD i []).getD k 0))) (fun g12 g12p=>?_) ?_
   ·refine ip' 2 8 [(50,.slice lq l.length lk),(51,iv (i:Int))] ?_
    refine ix rfl (H4 A2z rfl rfl hq5 rfl i rfl (by omega)) ?_
    refine ip' 1 6 [(53,pa (Addr.add a4 (i * 1)))] ?_
    refine ix rfl (G3 (C8 (v:=.slice ((lrs.getD i (⟨none,0,0⟩:Slc)).q) ((lrs.getD i (⟨none,0,0⟩:Slc)).n) ((lrs.getD i (⟨none,0,0⟩:Slc)).k)) (us:=[.slice ((lrs.getD i (⟨none,0,0⟩:Slc)).q) ((lrs.getD i (⟨none,0,0⟩:Slc)).n) ((lrs.getD i (⟨none,0,0⟩:Slc)).k)]) B2f rfl rfl (W8 (J4 (c:=O8) (sz:=1) hq5 (fun _=>rfl) 1 rfl (gd (⟨none,0,0⟩:Slc) (by have:=hrowslrs.1;omega))) (ws:=[.slice ((lrs.getD i (⟨none,0,0⟩:Slc)).q) ((lrs.getD i (⟨none,0,0⟩:Slc)).n) ((lrs.getD i (⟨none,0,0⟩:Slc)).k)]) 1 rfl) rfl) (A1b hrowslrs (by have:=hrowslrs.1;omega))) ?_
    refine ip' 1 4 [(55,iv (k:Int))] ?_
    refine ix rfl (H4 F9 rfl rfl hq11 rfl k rfl (by omega)) ?_
    refine ix rfl (C8 (v:=iv ((l.getD i []).getD k 0)) (us:=[iv ((l.getD i []).getD k 0)]) ty3 rfl rfl (J4 (c:=D8) (sz:=1) hq11 (fun _=>rfl) 0 rfl (gd 0 (by omega))) rfl) ?_
    refine ip' 2 0 [(59,bv (decide ((9999:Int)<((l.getD i []).getD k 0))))] ?_
    exact zai 10 49 59 g12
   refine ie ?_
   refine zjo rfl hR ?_ ?_<;>clear hR<;>intro hR h13 h13p
   ·refine sr 1 rfl (ip' 1 0 [(2,iv 150)] ?_)
    subst hR
    refine ie (A5 ?_)
    exact C9 hr hD
   refine A6 (nx (A3 3 rfl (ip' 1 2 [(38,iv (k:Int))] ?_)))
   refine ix rfl (B7 rfl rfl rfl rfl (by omega)) ?_
   refine ip' 1 0 [(4,iv ((k:Int)+1))] ?_
   refine A7 ?_
   exact C5c (z1:=k) (k+1) ⟨(by omega),hR⟩ (by (try dsimp only);omega) (mk [] rfl) A1.refl
  have h9p:¬ ((k:Int)<((l.getD i []).length:Int)):=by simpa using h9
  rw [A3d h9p] at hR;replace hR:=(S4.eq_1 ..).symm.trans hR
  refine H7 (nx (A3 3 rfl (ip' 1 2 [(12,iv (i:Int))] ?_)))
  refine ix rfl (B7 rfl rfl rfl rfl (by omega)) ?_
  refine ip' 1 0 [(3,iv ((i:Int)+1))] ?_
  refine A7 ?_
  exact C5c (z1:=i) (i+1) ⟨(by omega),hR⟩ (by (try dsimp only);omega) (mk [] rfl) (A1.pick [1,2] rfl)
 have h3p:¬ ((i:Int)<(l.length:Int)):=by simpa using h3
 rw [A3d h3p] at hR;replace hR:=(Q6.eq_1 ..).symm.trans hR
 refine H7 (nx (A9 (sr 20 rfl (ip' 4 16 [(63,bv (decide ((l.length:Int)=1)))] ?_))))
 refine zid 7 9 63 70 (decide (((l.getD 0 []).length:Int)=1)) (fun g14 g14p=>?_) ?_
 ·refine ip' 1 6 [(64,.slice lq l.length lk)] ?_
  refine N4 0 rfl (by omega) fun a15 hq16=>?_
  refine F3 (A7i (k:=0) (d:=(⟨none,0,0⟩:Slc)) hrowslrs 1 rfl (by have:=hrowslrs.1;omega)) ?_
  have:=A7p hrowslrs (k:=0) (d:=(⟨none,0,0⟩:Slc)) (by have:=hrowslrs.1;omega)
  refine ix rfl (H4 A2z rfl rfl hq16 rfl 0 rfl (by omega)) ?_
  refine ip' 1 4 [(66,pa (Addr.add a15 (0 * 1)))] ?_
  refine ix rfl (G3 (C8 (v:=.slice ((lrs.getD 0 (⟨none,0,0⟩:Slc)).q) ((lrs.getD 0 (⟨none,0,0⟩:Slc)).n) ((lrs.getD 0 (⟨none,0,0⟩:Slc)).k)) (us:=[.slice ((lrs.getD 0 (⟨none,0,0⟩:Slc)).q) ((lrs.getD 0 (⟨none,0,0⟩:Slc)).n) ((lrs.getD 0 (⟨none,0,0⟩:Slc)).k)]) B2f rfl rfl (W8 (J4 (c:=O8) (sz:=1) hq16 (fun _=>rfl) 1 rfl (gd (⟨none,0,0⟩:Slc) (by have:=hrowslrs.1;omega))) (ws:=[.slice ((lrs.getD 0 (⟨none,0,0⟩:Slc)).q) ((lrs.getD 0 (⟨none,0,0⟩:Slc)).n) ((lrs.getD 0 (⟨none,0,0⟩:Slc)).k)]) 1 rfl) rfl) (A1b hrowslrs (by have:=hrowslrs.1;omega))) ?_
  refine ip' 3 0 [(70,bv (decide (((l.getD 0 []).length:Int)=1)))] ?_
  exact A7 (M2 6 63 70 g14 (A1.pick [1,2] rfl) (mk [] rfl) rfl rfl rfl rfl rfl)
 refine ip' 1 8 [(71,bv ((decide ((l.length:Int)=1))&&(decide (((l.getD 0 []).length:Int)=1))))] ?_
 refine zia 8 0 71 79 (decide (((l.getD 0 []).getD 0 0)=(-1))) (fun g17=>?_) ?_
 ·have g17p:((l.length:Int)=1)∧(((l.getD 0 []).length:Int)=1):=by simpa using g17
  refine ip' 1 7 [(72,.slice lq l.length lk)] ?_
  refine N4 0 rfl (by omega) fun a18 hq19=>?_
  refine F3 (A7i (k:=0) (d:=(⟨none,0,0⟩:Slc)) hrowslrs 1 rfl (by have:=hrowslrs.1;omega)) ?_
  have:=A7p hrowslrs (k:=0) (d:=(⟨none,0,0⟩:Slc)) (by have:=hrowslrs.1;omega)
  refine ix rfl (H4 A2z rfl rfl hq19 rfl 0 rfl (by omega)) ?_
  refine ip' 1 5 [(74,pa (Addr.add a18 (0 * 1)))] ?_
  refine ix rfl (G3 (C8 (v:=.slice ((lrs.getD 0 (⟨none,0,0⟩:Slc)).q) ((lrs.getD 0 (⟨none,0,0⟩:Slc)).n) ((lrs.getD 0 (⟨none,0,0⟩:Slc)).k)) (us:=[.slice ((lrs.getD 0 (⟨none,0,0⟩:Slc)).q) ((lrs.getD 0 (⟨none,0,0⟩:Slc)).n) ((lrs.getD 0 (⟨none,0,0⟩:Slc)).k)]) B2f rfl rfl (W8 (J4 (c:=O8) (sz:=1) hq19 (fun _=>rfl) 1 rfl (gd (⟨none,0,0⟩:Slc) (by have:=hrowslrs.1;omega))) (ws:=[.slice ((lrs.getD 0 (⟨none,0,0⟩:Slc)).q) ((lrs.getD 0 (⟨none,0,0⟩:Slc)).n) ((lrs.getD 0 (⟨none,0,0⟩:Slc)).k)]) 1 rfl) rfl) (A1b hrowslrs (by have:=hrowslrs.1;omega))) ?_
  refine N4 0 rfl (by omega) fun a20 hq21=>?_
  refine ix rfl (H4 F9 rfl rfl hq21 rfl 0 rfl (by omega)) ?_
  refine ix rfl (C8 (v:=iv ((l.getD 0 []).getD 0 0)) (us:=[iv ((l.getD 0 []).getD 0 0)]) ty3 rfl rfl (J4 (c:=D8) (sz:=1) hq21 (fun _=>rfl) 0 rfl (gd 0 (by omega))) rfl) ?_
  refine ip' 2 0 [(79,bv (decide (((l.getD 0 []).getD 0 0)=(-1))))] ?_
  exact A7 (M2 8 71 79 g17 (A1.pick [1,2] rfl) (mk [] rfl) rfl rfl rfl rfl rfl)
 refine ie ?_
 refine zjb rfl hR ?_ ?_<;>clear hR<;>intro hR h22
 ·have h22p:(((l.length:Int)=1)∧(((l.getD 0 []).length:Int)=1))∧(((l.getD 0 []).getD 0 0)=(-1)):=by simpa using h22
  refine sr 1 rfl (ip' 1 0 [(2,iv 150)] ?_)
  subst hR
  refine ie (A5 ?_)
  exact C9 hr hD
 have h22p:¬ ((((l.length:Int)=1)∧(((l.getD 0 []).length:Int)=1))∧(((l.getD 0 []).getD 0 0)=(-1))):=by simpa using h22
 refine A6 (nx (sr 1 rfl (ip' 1 0 [(2,iv 0)] ?_)))
 subst hR
 refine ie (A5 ?_)
 exact C9 hr hD
def Y6 (l:List (List Int)) (i:Nat) (k:Nat) (ag_ref05_Print_l3:List UInt8→Nat→(List UInt8×Int)) (s3:List UInt8):List UInt8×Int :=
 (bif (decide ((0:Int)≤((l.getD i []).getD k 0))) then ag_ref05_Print_l3 (s3++(D9 (((l.getD i []).getD k 0).toNat+1) ((l.getD i []).getD k 0))) (k+1) else ag_ref05_Print_l3 s3 (k+1))
def N8 (l:List (List Int)) (i:Nat) (ag_ref05_Print_l2:List UInt8→Nat→(List UInt8×Int)):Nat→List UInt8→Nat→(List UInt8×Int)
 | 0,_,_=>([],0)
 | fu1+1,s2,k=>(bif (decide ((k:Int)<((l.getD i []).length:Int))) then (bif (decide ((0:Int)<(k:Int))) then Y6 l i k (N8 l i ag_ref05_Print_l2 fu1) (s2++([58]:List UInt8)) else Y6 l i k (N8 l i ag_ref05_Print_l2 fu1) s2) else ag_ref05_Print_l2 s2 (i+1))
def A0k (l:List (List Int)) (i:Nat) (ag_ref05_Print_l2:List UInt8→Nat→(List UInt8×Int)) (s1:List UInt8):List UInt8×Int :=
 N8 l i ag_ref05_Print_l2 (((l.getD i []).length - 0)+1) s1 0
def I9 (l:List (List Int)):List (List Int)→List UInt8→Nat→(List UInt8×Int)
 | [],s,i=>(s,0)
 | hd_l2::tl_l2,s,i=>(bif (decide ((0:Int)<(i:Int))) then A0k l i (I9 l tl_l2) (s++([59]:List UInt8)) else A0k l i (I9 l tl_l2) s)
def A1y (l:List (List Int)):List UInt8×Int :=
 (bif (!decide ((A1e l)=0)) then (([]:List UInt8),150) else I9 l l ([]:List UInt8) 0)
theorem A9w (l:List (List Int)) (h:B2h l) (i:Nat) (ag:List UInt8→Nat→List UInt8×Int) (B:Nat) (hag:∀ s t,(ag s t).1.length≤s.length+B):∀ (fu:Nat) (s:List UInt8) (k:Nat),k≤6→(N8 l i ag fu s k).1.length≤s.length+10002 * (6 - k)+B
 | 0,s,k,hk=>by simp [N8]
 | fu+1,s,k,hk=>by
  have ih:=A9w l h i ag B hag fu
  have hb:=h.at i k
  have hd:=M5 (((l.getD i []).getD k 0).toNat+1) ((l.getD i []).getD k 0)
  have h6:(l.getD i []).length≤6:=by
   by_cases hi:i<l.length
   ·have hm:l.getD i [] ∈ l:=by rw [gdE hi];exact List.getElem_mem hi
    exact (h.2 _ hm).2.1
   ·rw [gdN hi];simp
  rw [N8]
  unfold Y6
  by_cases hc:(k:Int)<((l.getD i []).length:Int)
  ·rw [decide_eq_true hc,cond_true]
   have hk6:k<6:=by omega
   have e:10002 * (6 - k)=10002 * (6 - (k+1))+10002:=by omega
   simp only [Bool.cond_eq_ite]
   repeat' split
   all_goals refine Nat.le_trans (ih _ _ (by omega)) ?_
   all_goals try simp only [List.length_append,List.length_cons,List.length_nil]
   all_goals omega
  ·rw [decide_eq_false hc,cond_false]
   exact Nat.le_trans (hag _ _) (by omega)
theorem A9r (l:List (List Int)) (h:B2h l):∀ (x:List (List Int)) (s:List UInt8) (i:Nat),(I9 l x s i).1.length≤s.length+60100 * x.length
 | [],s,i=>by simp [I9]
 | r::x,s,i=>by
  have h3:=fun s'=>A9w l h i (I9 l x) (60100 * x.length) (fun s t=>A9r l h x s t) (((l.getD i []).length - 0)+1) s' 0 (by omega)
  simp only [I9,A0k,List.length_cons,Bool.cond_eq_ite]
  split
  all_goals refine Nat.le_trans (h3 _) ?_
  all_goals try simp only [List.length_append,List.length_cons,List.length_nil]
  all_goals omega
theorem B3p (l:List (List Int)):(A1y l).1.length≤961600:=by
 unfold A1y
 by_cases h:A1e l=0
 ·have hp:=B5c h
  have:=A9r l hp l [] 0
  have h1:=hp.1
  rw [h];simp only [decide_true,Bool.not_true,cond_false]
  rw [List.length_nil] at this;omega
 ·simp [h]
theorem C5k (l:List (List Int)) (lq:Option Addr) (lrs:List Slc) (lk:Nat) (hrowslrs:I5 lrs l) (hll:l.length≤9223372036854775807) (hcl:l.length≤lk) (R:List UInt8×Int) (hR:A1y l=R):I4 Tryz.prog 94 [.slice lq l.length lk] [sl O8 lq lrs,P5 D8 lrs l] (.tuple #[sv R.1,iv R.2]):=by
 refine zco Tryz.func94 [(0,.slice lq l.length lk)] fun X hX hr hD=>?_
 replace hR:=(A1y.eq_1 ..).symm.trans hR
 have:=hrowslrs.1
 refine sr 2 rfl (ip' 2 0 [] ?_)
 refine ie (A9 (sr 3 rfl (ip' 1 2 [(7,.slice lq l.length lk)] ?_)))
 refine zca (C4o l lq lrs lk hrowslrs (by first|omega|(simp<;>omega)|(dsimp only;omega)|decide) (by first|omega|(simp<;>omega)|(dsimp only;omega)|decide) _ rfl) A1.refl ?_
 refine ip' 1 0 [(9,bv (!decide ((A1e l)=0)))] ?_
 refine ie ?_
 refine zjn rfl hR ?_ ?_<;>clear hR<;>intro hR h1 h1p
 ·refine sr 2 rfl (ip' 2 0 [(2,sv ([]:List UInt8)),(3,iv 150)] ?_)
  subst hR
  refine ie (A5 ?_)
  exact A0o hr hD
 have hpo:=B5c (Decidable.of_not_not (by assumption))
 have hpl:=hpo.1
 refine A6 (nx (sr 1 rfl (ip' 1 0 [(4,sv ([]:List UInt8))] ?_)))
 refine ie (A9 (sr 1 rfl (ip' 1 0 [(5,iv 0)] ?_)))
 refine ie (B3 (C4d (fun (s:List UInt8) (i:Nat)=>(i≤l.length∧I9 l (l.drop i) s i=R∧s.length≤60100 * i,[(0,.slice lq l.length lk),(4,sv s),(5,iv (i:Int))],[],[sl O8 lq lrs,P5 D8 lrs l],l.length - i)) ([]:List UInt8) 0 ⟨(by omega),hR,(by simp)⟩ (mk [] rfl) A1.refl ?_))
 rintro s i ⟨hm2,hR,hs⟩
 have h6:=(hpo.row i)
 refine A9 (sr 4 rfl (ip' 4 0 [(13,bv (decide ((i:Int)<(l.length:Int))))] ?_))
 refine ie (A1i rfl (fun h3=>?_) (fun h3=>?_))
 ·have h3p:(i:Int)<(l.length:Int):=by simpa using h3
  rw [A3b [] (show i<l.length by omega)] at hR;replace hR:=(I9.eq_2 ..).symm.trans hR
  refine A6 (nx (A9 (B3 (B5y (fun (s1:List UInt8)=>(A0k l i (I9 l (l.drop (i+1))) s1=R∧s1.length≤60100 * i+1,[(0,.slice lq l.length lk),(4,sv s1),(5,iv (i:Int))],[],[sl O8 lq lrs,P5 D8 lrs l])) ?_ ?_))))
  ·refine sr 2 rfl (ip' 2 0 [(17,bv (decide ((0:Int)<(i:Int))))] ?_)
   refine ie ?_
   refine zjd rfl hR ?_ ?_<;>clear hR<;>intro hR h4 h4p
   ·refine A3 3 rfl (ip' 1 2 [(18,sv s)] ?_)
    refine ix rfl (zst rfl rfl rfl) ?_
    refine ip' 1 0 [(4,sv (s++([59]:List UInt8)))] ?_
    refine A7 ?_
    exact V4 (s++([59]:List UInt8)) ⟨hR,(by first|omega|(simp<;>omega))⟩ (mk [] rfl) A1.refl
   refine A6 ?_
   exact V4 s ⟨hR,(by first|omega|(simp<;>omega))⟩ (mk [] rfl) A1.refl
  intro s1
  rintro ⟨hR,hj8⟩
  replace hR:=(A0k.eq_1 ..).symm.trans hR
  refine sr 1 rfl (ip' 1 0 [(6,iv 0)] ?_)
  refine ie (B3 (E0j (fun (fu:Nat) (s2:List UInt8) (k:Nat)=>(((l.getD i []).length - k)<fu∧N8 l i (I9 l (l.drop (i+1))) fu s2 k=R∧s2.length≤60100 * i+1+10003 * k∧k≤(l.getD i []).length,[(0,.slice lq l.length lk),(4,sv s2),(5,iv (i:Int)),(6,iv (k:Int))],[],[sl O8 lq lrs,P5 D8 lrs l],fu)) (((l.getD i []).length - 0)+1) s1 0 ⟨(Nat.lt_succ_self _),hR,(by first|omega|(simp<;>omega)),(by omega)⟩ (mk [] rfl) A1.refl ?_))
  rintro fu s2 k ⟨hm5,hR,hs2,hk6⟩
  obtain ⟨fu1,rfl⟩:∃ m,fu=m+1:=⟨fu - 1,by omega⟩
  replace hR:=(N8.eq_2 ..).symm.trans hR
  have hq:=hpo.at i k
  refine A9 (sr 8 rfl (ip' 3 5 [(20,iv (k:Int)),(21,.slice lq l.length lk),(22,iv (i:Int))] ?_))
  refine N4 0 rfl (by omega) fun a6 hq7=>?_
  refine F3 (A7i (k:=i) (d:=(⟨none,0,0⟩:Slc)) hrowslrs 1 rfl (by have:=hrowslrs.1;omega)) ?_
  have:=A7p hrowslrs (k:=i) (d:=(⟨none,0,0⟩:Slc)) (by have:=hrowslrs.1;omega)
  refine ix rfl (H4 A2z rfl rfl hq7 rfl i rfl (by omega)) ?_
  refine ip' 1 3 [(24,pa (Addr.add a6 (i * 1)))] ?_
  refine ix rfl (G3 (C8 (v:=.slice ((lrs.getD i (⟨none,0,0⟩:Slc)).q) ((lrs.getD i (⟨none,0,0⟩:Slc)).n) ((lrs.getD i (⟨none,0,0⟩:Slc)).k)) (us:=[.slice ((lrs.getD i (⟨none,0,0⟩:Slc)).q) ((lrs.getD i (⟨none,0,0⟩:Slc)).n) ((lrs.getD i (⟨none,0,0⟩:Slc)).k)]) B2f rfl rfl (W8 (J4 (c:=O8) (sz:=1) hq7 (fun _=>rfl) 1 rfl (gd (⟨none,0,0⟩:Slc) (by have:=hrowslrs.1;omega))) (ws:=[.slice ((lrs.getD i (⟨none,0,0⟩:Slc)).q) ((lrs.getD i (⟨none,0,0⟩:Slc)).n) ((lrs.getD i (⟨none,0,0⟩:Slc)).k)]) 1 rfl) rfl) (A1b hrowslrs (by have:=hrowslrs.1;omega))) ?_
  refine ip' 2 0 [(27,bv (decide ((k:Int)<((l.getD i []).length:Int))))] ?_
  refine ie ?_
  refine zjd rfl hR ?_ ?_<;>clear hR<;>intro hR h8 h8p
  ·refine A6 (nx (A9 (B3 (B5y (fun (s3:List UInt8)=>(Y6 l i k (N8 l i (I9 l (l.drop (i+1))) fu1) s3=R∧s3.length≤60100 * i+2+10003 * k,[(0,.slice lq l.length lk),(4,sv s3),(5,iv (i:Int)),(6,iv (k:Int))],[],[sl D8 ((lrs.getD i (⟨none,0,0⟩:Slc)).q) (l.getD i []),sl O8 lq lrs,P5 D8 lrs l])) ?_ ?_))))
   ·refine sr 2 rfl (ip' 2 0 [(31,bv (decide ((0:Int)<(k:Int))))] ?_)
    refine ie ?_
    refine zjd rfl hR ?_ ?_<;>clear hR<;>intro hR h9 h9p
    ·refine A3 3 rfl (ip' 1 2 [(32,sv s2)] ?_)
     refine ix rfl (zst rfl rfl rfl) ?_
     refine ip' 1 0 [(4,sv (s2++([58]:List UInt8)))] ?_
     refine A7 ?_
     exact V4 (s2++([58]:List UInt8)) ⟨hR,(by first|omega|(simp<;>omega))⟩ (mk [] rfl) A1.refl
    refine A6 ?_
    exact V4 s2 ⟨hR,(by first|omega|(simp<;>omega))⟩ (mk [] rfl) A1.refl
   intro s3
   rintro ⟨hR,hj11⟩
   replace hR:=(Y6.eq_1 ..).symm.trans hR
   refine sr 9 rfl (ip' 2 7 [(34,.slice lq l.length lk),(35,iv (i:Int))] ?_)
   refine ix rfl (H4 A2z rfl rfl hq7 rfl i rfl (by omega)) ?_
   refine ip' 1 5 [(37,pa (Addr.add a6 (i * 1)))] ?_
   refine ix rfl (G3 (C8 (v:=.slice ((lrs.getD i (⟨none,0,0⟩:Slc)).q) ((lrs.getD i (⟨none,0,0⟩:Slc)).n) ((lrs.getD i (⟨none,0,0⟩:Slc)).k)) (us:=[.slice ((lrs.getD i (⟨none,0,0⟩:Slc)).q) ((lrs.getD i (⟨none,0,0⟩:Slc)).n) ((lrs.getD i (⟨none,0,0⟩:Slc)).k)]) B2f rfl rfl (W8 (J4 (c:=O8) (sz:=1) hq7 (fun _=>rfl) 1 rfl (gd (⟨none,0,0⟩:Slc) (by have:=hrowslrs.1;omega))) (ws:=[.slice ((lrs.getD i (⟨none,0,0⟩:Slc)).q) ((lrs.getD i (⟨none,0,0⟩:Slc)).n) ((lrs.getD i (⟨none,0,0⟩:Slc)).k)]) 1 rfl) rfl) (A1b hrowslrs (by have:=hrowslrs.1;omega))) ?_
   refine ip' 1 3 [(39,iv (k:Int))] ?_
   refine N4 0 rfl (by omega) fun a10 hq11=>?_
   refine ix rfl (H4 F9 rfl rfl hq11 rfl k rfl (by omega)) ?_
   refine ix rfl (C8 (v:=iv ((l.getD i []).getD k 0)) (us:=[iv ((l.getD i []).getD k 0)]) ty3 rfl rfl (J4 (c:=D8) (sz:=1) hq11 (fun _=>rfl) 0 rfl (gd 0 (by omega))) rfl) ?_
   refine ip' 1 0 [(42,bv (decide ((0:Int)≤((l.getD i []).getD k 0))))] ?_
   refine ie ?_
   refine zjd rfl hR ?_ ?_<;>clear hR<;>intro hR h12 h12p
   ·refine A3 12 rfl (ip' 3 9 [(43,sv s3),(44,.slice lq l.length lk),(45,iv (i:Int))] ?_)
    refine ix rfl (H4 A2z rfl rfl hq7 rfl i rfl (by omega)) ?_
    refine ip' 1 7 [(47,pa (Addr.add a6 (i * 1)))] ?_
    refine ix rfl (G3 (C8 (v:=.slice ((lrs.getD i (⟨none,0,0⟩:Slc)).q) ((lrs.getD i (⟨none,0,0⟩:Slc)).n) ((lrs.getD i (⟨none,0,0⟩:Slc)).k)) (us:=[.slice ((lrs.getD i (⟨none,0,0⟩:Slc)).q) ((lrs.getD i (⟨none,0,0⟩:Slc)).n) ((lrs.getD i (⟨none,0,0⟩:Slc)).k)]) B2f rfl rfl (W8 (J4 (c:=O8) (sz:=1) hq7 (fun _=>rfl) 1 rfl (gd (⟨none,0,0⟩:Slc) (by have:=hrowslrs.1;omega))) (ws:=[.slice ((lrs.getD i (⟨none,0,0⟩:Slc)).q) ((lrs.getD i (⟨none,0,0⟩:Slc)).n) ((lrs.getD i (⟨none,0,0⟩:Slc)).k)]) 1 rfl) rfl) (A1b hrowslrs (by have:=hrowslrs.1;omega))) ?_
    refine ip' 1 5 [(49,iv (k:Int))] ?_
    refine ix rfl (H4 F9 rfl rfl hq11 rfl k rfl (by omega)) ?_
    refine ix rfl (C8 (v:=iv ((l.getD i []).getD k 0)) (us:=[iv ((l.getD i []).getD k 0)]) ty3 rfl rfl (J4 (c:=D8) (sz:=1) hq11 (fun _=>rfl) 0 rfl (gd 0 (by omega))) rfl) ?_
    refine zca (A6d (((l.getD i []).getD k 0).toNat+1) ((l.getD i []).getD k 0) (by first|omega|(simp<;>omega)) (Nat.lt_succ_self _) _ rfl) A1.nil ?_
    have:=M5 (((l.getD i []).getD k 0).toNat+1) ((l.getD i []).getD k 0)
    refine ix rfl (zst rfl rfl rfl) ?_
    have:=@List.length_append _ s3 (D9 (((l.getD i []).getD k 0).toNat+1) ((l.getD i []).getD k 0))
    refine ip' 1 0 [(4,sv (s3++(D9 (((l.getD i []).getD k 0).toNat+1) ((l.getD i []).getD k 0))))] ?_
    refine A7 (nx (A3 3 rfl (ip' 1 2 [(28,iv (k:Int))] ?_)))
    refine ix rfl (B7 rfl rfl rfl rfl (by omega)) ?_
    refine ip' 1 0 [(6,iv ((k:Int)+1))] ?_
    refine A7 ?_
    exact D5n (z1:=(fu1+1)) (z2:=s2) (z3:=k) fu1 (s3++(D9 (((l.getD i []).getD k 0).toNat+1) ((l.getD i []).getD k 0))) (k+1) ⟨(by omega),hR,(by first|omega|(simp<;>omega)),(by omega)⟩ (Nat.lt_succ_self _) (mk [] rfl) (A1.pick [1,2] rfl)
   refine A6 (nx (A3 3 rfl (ip' 1 2 [(28,iv (k:Int))] ?_)))
   refine ix rfl (B7 rfl rfl rfl rfl (by omega)) ?_
   refine ip' 1 0 [(6,iv ((k:Int)+1))] ?_
   refine A7 ?_
   exact D5n (z1:=(fu1+1)) (z2:=s2) (z3:=k) fu1 s3 (k+1) ⟨(by omega),hR,(by first|omega|(simp<;>omega)),(by omega)⟩ (Nat.lt_succ_self _) (mk [] rfl) (A1.pick [1,2] rfl)
  refine H7 (nx (A3 3 rfl (ip' 1 2 [(14,iv (i:Int))] ?_)))
  refine ix rfl (B7 rfl rfl rfl rfl (by omega)) ?_
  refine ip' 1 0 [(5,iv ((i:Int)+1))] ?_
  refine A7 ?_
  exact C3t (z1:=s) (z2:=i) s2 (i+1) ⟨(by omega),hR,(by first|omega|(simp<;>omega))⟩ (by (try dsimp only);omega) (mk [] rfl) (A1.pick [1,2] rfl)
 have h3p:¬ ((i:Int)<(l.length:Int)):=by simpa using h3
 rw [A3d h3p] at hR;replace hR:=(I9.eq_1 ..).symm.trans hR
 refine H7 (nx (sr 3 rfl (ip' 3 0 [(2,sv s),(3,iv 0)] ?_)))
 subst hR
 refine ie (A5 ?_)
 exact A0o hr hD
def A1h (l:List Act):List UInt8 :=
 (C0 (A6b l) fun (y33:List (List Int)×Int)=>(C0 (A1y y33.1) fun (y31:List UInt8×Int)=>((([27,91]:List UInt8)++y31.1)++([109]:List UInt8))))
theorem A5x (l:List Act):(A1h l).length≤961603:=by
 have:=B3p (A6b l).1
 unfold A1h;simp only [C0,List.length_append,List.length_cons,List.length_nil];omega
theorem B3g (l:List Act) (lq:Option Addr) (lk:Nat) (hll:l.length≤9223372036854775807) (hcl:l.length≤lk) (hlen:l.length≤2000) (R:List UInt8) (hR:A1h l=R):I4 Tryz.prog 42 [.slice lq l.length lk] [sl A2 lq l] (sv R):=by
 refine zco Tryz.func42 [(0,.slice lq l.length lk)] fun X hX hr hD=>?_
 replace hR:=(A1h.eq_1 ..).symm.trans hR
 refine sr 1 rfl (ip' 1 0 [] ?_)
 refine ie (sr 7 rfl (ip' 1 6 [(8,.slice lq l.length lk)] ?_))
 have hQ:=C3 hR;clear hR;obtain ⟨y33,hy33,hR⟩:=hQ
 refine it rfl (C4 (L2:=[]) (C2l l lq lk (by first|omega|(simp<;>omega)|(dsimp only;omega)|decide) (by first|omega|(simp<;>omega)|(dsimp only;omega)|decide) (by first|omega|(simp<;>omega)) y33 hy33) rfl rfl rfl rfl rfl A1.refl (List.Perm.refl _) (fun ⟨⟨r1,rs2⟩,hp5⟩=>((vo O8 208 r1 rs2)++([]))) (fun _=>by first|rfl|simp only [List.append_nil,List.cons_append,List.nil_append,List.append_assoc])) fun ⟨⟨r1,rs2⟩,hp5⟩=>?_
 try dsimp only at hp5
 obtain ⟨hk3,hw4⟩:=hp5
 have:=VOk.le hk3
 have:=VOk.cap hk3
 have:=hw4.1
 refine ip' 5 0 [(3,.slice (va r1.q) y33.1.length r1.k)] ?_
 refine ie (sr 7 rfl (ip' 1 6 [(13,.slice (va r1.q) y33.1.length r1.k)] ?_))
 have:=VOk.cap hk3
 have:=VOk.le hk3
 refine A7f [] [] (T:=208) (c:=O8) (r:=r1) (xs:=rs2) (VOk.cast hk3 (by rw [hw4.1])) (by first|rfl|simp only [List.cons_append,List.append_assoc,List.nil_append,List.append_nil]) ?_
 have hQ:=C3 hR;clear hR;obtain ⟨y31,hy31,hR⟩:=hQ
 refine zca (C5k y33.1 (va r1.q) rs2 r1.k hw4 (by first|omega|(simp<;>omega)|(dsimp only;omega)|decide) (by first|omega|(simp<;>omega)|(dsimp only;omega)|decide) y31 hy31) (A1.pick [0,1] rfl) ?_
 have:=B3p y33.1;try rw [hy31] at this
 refine ip' 5 0 [(5,sv y31.1)] ?_
 refine ie (sr 4 rfl (ip' 1 3 [(17,sv y31.1)] ?_))
 refine ix rfl (zst rfl rfl rfl) ?_
 refine ix rfl (zst rfl rfl rfl) ?_
 refine ip' 1 0 [(2,sv ((([27,91]:List UInt8)++y31.1)++([109]:List UInt8)))] ?_
 subst hR
 refine ie (A5 ?_)
 exact C9 hr hD
def P9 (s:List UInt8) (n:Int):List UInt8 :=
 ((s.drop ((n).toNat)).take (((n).toNat+1) - ((n).toNat)))
theorem Q2 (s:List UInt8) (n:Int) (h:0≤n):(P9 s n).length≤1:=by
 unfold P9;simp only [List.length_take,List.length_drop];omega
theorem V8 (s:List UInt8) (n:Int) (hn:0≤n∧n<(s.length:Int)) (hs:s.length≤1000) (R:List UInt8) (hR:P9 s n=R):I4 Tryz.prog 142 [sv s,iv n] [] (sv R):=by
 refine zco Tryz.func142 [(0,sv s),(1,iv n)] fun X hX hr hD=>?_
 replace hR:=(P9.eq_1 ..).symm.trans hR
 refine sr 1 rfl (ip' 1 0 [] ?_)
 refine ie (sr 6 rfl (ip' 3 3 [(5,sv s),(6,iv n),(7,iv n)] ?_))
 refine ix rfl (B7 rfl rfl rfl rfl (by omega)) ?_
 refine ix rfl (B4e (T:=9) Tryz.underlying9 rfl rfl rfl rfl ((n).toNat) (by omega) ((n).toNat+1) (by omega) (by omega) (by omega)) ?_
 have:=@List.length_drop _ ((n).toNat) s
 have:=@List.length_take _ (((n).toNat+1) - ((n).toNat)) (s.drop ((n).toNat))
 refine ip' 1 0 [(4,sv ((s.drop ((n).toNat)).take (((n).toNat+1) - ((n).toNat))))] ?_
 subst hR
 refine ie (A5 ?_)
 exact C9 hr hD
def A3n (a:Act):List UInt8 :=
 (bif (decide (a.kind=2)) then ([7]:List UInt8) else (bif (decide (a.kind=3)) then ([8]:List UInt8) else (bif (decide (a.kind=4)) then ([9]:List UInt8) else (bif (decide (a.kind=5)) then ([10]:List UInt8) else (bif (decide (a.kind=6)) then ([13]:List UInt8) else (bif (decide (a.kind=7)) then (C0 (P9 ([15,14]:List UInt8) a.n) fun (y2:List UInt8)=>y2) else (bif (decide (a.kind=8)) then ([27,68]:List UInt8) else (bif (decide (a.kind=9)) then ([27,69]:List UInt8) else (bif (decide (a.kind=10)) then ([27,72]:List UInt8) else (bif (decide (a.kind=11)) then ([27,77]:List UInt8) else (bif (decide (a.kind=12)) then ([27,55]:List UInt8) else (bif (decide (a.kind=13)) then ([27,56]:List UInt8) else (bif (decide (a.kind=15)) then ([27,99]:List UInt8) else (bif (decide (a.kind=14)) then (C0 (P9 ([62,61]:List UInt8) a.n) fun (y13:List UInt8)=>(([27]:List UInt8)++y13)) else (bif (decide (a.kind=16)) then ([27,35,56]:List UInt8) else (bif (decide (a.kind=17)) then (C0 (P9 ([40,41,42,43]:List UInt8) a.n) fun (y20:List UInt8)=>(C0 (P9 ([66,48]:List UInt8) a.m) fun (y19:List UInt8)=>((([27]:List UInt8)++y20)++y19))) else (bif (decide (a.kind=18)) then (C0 (P9 ([78,79]:List UInt8) (a.n - 2)) fun (y38:List UInt8)=>(([27]:List UInt8)++y38)) else ([]:List UInt8))))))))))))))))))
theorem A0r (s:List UInt8) (n:Int):(P9 s n).length≤1:=by
 unfold P9;simp only [List.length_take,List.length_drop];omega
theorem A4t (a:Act):(A3n a).length≤3:=by
 have s1:=fun s n=>A0r s n
 have q1:=s1 [15,14] a.n
 have q2:=s1 [62,61] a.n
 have q3:=s1 [40,41,42,43] a.n
 have q4:=s1 [66,48] a.m
 have q5:=s1 [78,79] (a.n - 2)
 have q6:=s1 [78,79] (IntKind.i64.wrap (a.n - 2))
 unfold A3n C0
 repeat' (with_reducible refine D3m ?_ ?_)
 all_goals first|(simp<;>omega)|omega|decide
theorem B1w (a:Act) (ha:B4p a) (R:List UInt8) (hR:A3n a=R):I4 Tryz.prog 96 [ag (A2 a)] [] (sv R):=by
 refine zco Tryz.func96 [(0,ag (A2 a))] fun X hX hr hD=>?_
 replace hR:=(A3n.eq_1 ..).symm.trans hR
 have hrp:=ha;unfold B4p at hrp
 refine sr 2 rfl (O2 2 0 [] (fun b1=>[(1,pt b1 0)]) (fun b1=>[bx b1 (A2 a) 26]) (fun b1=>?_))
 refine ie (A9 (sr 2 rfl (zrl 2 0 [0] [(4,iv a.kind)] ?_)))
 refine ie (B3 (sr 2 rfl (ip' 2 0 [(5,bv (decide (a.kind=2)))] ?_)))
 refine ie ?_
 refine zjd rfl hR ?_ ?_<;>clear hR<;>intro hR h2 h2p
 ·refine sr 1 rfl (ip' 1 0 [(2,sv ([7]:List UInt8))] ?_)
  subst hR
  refine ie (A5 ?_)
  exact C9 hr hD
 refine sr 2 rfl (ip' 2 0 [(7,bv (decide (a.kind=3)))] ?_)
 refine ie ?_
 refine zjd rfl hR ?_ ?_<;>clear hR<;>intro hR h3 h3p
 ·refine sr 1 rfl (ip' 1 0 [(2,sv ([8]:List UInt8))] ?_)
  subst hR
  refine ie (A5 ?_)
  exact C9 hr hD
 refine sr 2 rfl (ip' 2 0 [(9,bv (decide (a.kind=4)))] ?_)
 refine ie ?_
 refine zjd rfl hR ?_ ?_<;>clear hR<;>intro hR h4 h4p
 ·refine sr 1 rfl (ip' 1 0 [(2,sv ([9]:List UInt8))] ?_)
  subst hR
  refine ie (A5 ?_)
  exact C9 hr hD
 refine sr 2 rfl (ip' 2 0 [(11,bv (decide (a.kind=5)))] ?_)
 refine ie ?_
 refine zjd rfl hR ?_ ?_<;>clear hR<;>intro hR h5 h5p
 ·refine sr 1 rfl (ip' 1 0 [(2,sv ([10]:List UInt8))] ?_)
  subst hR
  refine ie (A5 ?_)
  exact C9 hr hD
 refine sr 2 rfl (ip' 2 0 [(13,bv (decide (a.kind=6)))] ?_)
 refine ie ?_
 refine zjd rfl hR ?_ ?_<;>clear hR<;>intro hR h6 h6p
 ·refine sr 1 rfl (ip' 1 0 [(2,sv ([13]:List UInt8))] ?_)
  subst hR
  refine ie (A5 ?_)
  exact C9 hr hD
 refine sr 2 rfl (ip' 2 0 [(15,bv (decide (a.kind=7)))] ?_)
 refine ie ?_
 refine zjd rfl hR ?_ ?_<;>clear hR<;>intro hR h7 h7p
 ·refine sr 4 rfl (zrl 2 2 [0] [(18,iv a.n)] ?_)
  have hQ:=C3 hR;clear hR;obtain ⟨y2,hy2,hR⟩:=hQ
  refine zca (V8 ([15,14]:List UInt8) a.n (by first|omega|(simp<;>omega)) (by first|omega|(simp<;>omega)) y2 hy2) A1.nil ?_
  have:=Q2 ([15,14]:List UInt8) a.n (by omega);try rw [hy2] at this
  refine ip' 1 0 [(2,sv y2)] ?_
  subst hR
  refine ie (A5 ?_)
  exact C9 hr hD
 refine sr 2 rfl (ip' 2 0 [(20,bv (decide (a.kind=8)))] ?_)
 refine ie ?_
 refine zjd rfl hR ?_ ?_<;>clear hR<;>intro hR h8 h8p
 ·refine sr 1 rfl (ip' 1 0 [(2,sv ([27,68]:List UInt8))] ?_)
  subst hR
  refine ie (A5 ?_)
  exact C9 hr hD
 refine sr 2 rfl (ip' 2 0 [(22,bv (decide (a.kind=9)))] ?_)
 refine ie ?_
 refine zjd rfl hR ?_ ?_<;>clear hR<;>intro hR h9 h9p
 ·refine sr 1 rfl (ip' 1 0 [(2,sv ([27,69]:List UInt8))] ?_)
  subst hR
  refine ie (A5 ?_)
  exact C9 hr hD
 refine sr 2 rfl (ip' 2 0 [(24,bv (decide (a.kind=10)))] ?_)
 refine ie ?_
 refine zjd rfl hR ?_ ?_<;>clear hR<;>intro hR h10 h10p
 ·refine sr 1 rfl (ip' 1 0 [(2,sv ([27,72]:List UInt8))] ?_)
  subst hR
  refine ie (A5 ?_)
  exact C9 hr hD
 refine sr 2 rfl (ip' 2 0 [(26,bv (decide (a.kind=11)))] ?_)
 refine ie ?_
 refine zjd rfl hR ?_ ?_<;>clear hR<;>intro hR h11 h11p
 ·refine sr 1 rfl (ip' 1 0 [(2,sv ([27,77]:List UInt8))] ?_)
  subst hR
  refine ie (A5 ?_)
  exact C9 hr hD
 refine sr 2 rfl (ip' 2 0 [(28,bv (decide (a.kind=12)))] ?_)
 refine ie ?_
 refine zjd rfl hR ?_ ?_<;>clear hR<;>intro hR h12 h12p
 ·refine sr 1 rfl (ip' 1 0 [(2,sv ([27,55]:List UInt8))] ?_)
  subst hR
  refine ie (A5 ?_)
  exact C9 hr hD
 refine sr 2 rfl (ip' 2 0 [(30,bv (decide (a.kind=13)))] ?_)
 refine ie ?_
 refine zjd rfl hR ?_ ?_<;>clear hR<;>intro hR h13 h13p
 ·refine sr 1 rfl (ip' 1 0 [(2,sv ([27,56]:List UInt8))] ?_)
  subst hR
  refine ie (A5 ?_)
  exact C9 hr hD
 refine sr 2 rfl (ip' 2 0 [(32,bv (decide (a.kind=15)))] ?_)
 refine ie ?_
 refine zjd rfl hR ?_ ?_<;>clear hR<;>intro hR h14 h14p
 ·refine sr 1 rfl (ip' 1 0 [(2,sv ([27,99]:List UInt8))] ?_)
  subst hR
  refine ie (A5 ?_)
  exact C9 hr hD
 refine sr 2 rfl (ip' 2 0 [(34,bv (decide (a.kind=14)))] ?_)
 refine ie ?_
 refine zjd rfl hR ?_ ?_<;>clear hR<;>intro hR h15 h15p
 ·refine sr 5 rfl (zrl 2 3 [0] [(37,iv a.n)] ?_)
  have hQ:=C3 hR;clear hR;obtain ⟨y13,hy13,hR⟩:=hQ
  refine zca (V8 ([62,61]:List UInt8) a.n (by first|omega|(simp<;>omega)) (by first|omega|(simp<;>omega)) y13 hy13) A1.nil ?_
  have:=Q2 ([62,61]:List UInt8) a.n (by omega);try rw [hy13] at this
  refine ix rfl (zst rfl rfl rfl) ?_
  refine ip' 1 0 [(2,sv (([27]:List UInt8)++y13))] ?_
  subst hR
  refine ie (A5 ?_)
  exact C9 hr hD
 refine sr 2 rfl (ip' 2 0 [(40,bv (decide (a.kind=16)))] ?_)
 refine ie ?_
 refine zjd rfl hR ?_ ?_<;>clear hR<;>intro hR h16 h16p
 ·refine sr 1 rfl (ip' 1 0 [(2,sv ([27,35,56]:List UInt8))] ?_)
  subst hR
  refine ie (A5 ?_)
  exact C9 hr hD
 refine sr 2 rfl (ip' 2 0 [(42,bv (decide (a.kind=17)))] ?_)
 refine ie ?_
 refine zjd rfl hR ?_ ?_<;>clear hR<;>intro hR h17 h17p
 ·refine sd 9 rfl (by kernel_rfl) rfl ?_
  refine zdg 2 7 [0] [(45,iv a.n)] ?_
  have hQ:=C3 hR;clear hR;obtain ⟨y20,hy20,hR⟩:=hQ
  refine zcd (V8 ([40,41,42,43]:List UInt8) a.n (by first|omega|(simp<;>omega)) (by first|omega|(simp<;>omega)) y20 hy20) A1.nil ?_
  have:=Q2 ([40,41,42,43]:List UInt8) a.n (by omega);try rw [hy20] at this
  refine dd rfl (zst rfl rfl rfl) ?_
  refine zdg 2 3 [0] [(49,iv a.m)] ?_
  have hQ:=C3 hR;clear hR;obtain ⟨y19,hy19,hR⟩:=hQ
  refine zcd (V8 ([66,48]:List UInt8) a.m (by first|omega|(simp<;>omega)) (by first|omega|(simp<;>omega)) y19 hy19) A1.nil ?_
  have:=Q2 ([66,48]:List UInt8) a.m (by omega);try rw [hy19] at this
  refine dd rfl (zst rfl rfl rfl) ?_
  refine dp' 1 0 [(2,sv ((([27]:List UInt8)++y20)++y19))] ?_
  subst hR
  refine de (A5 ?_)
  exact C9 hr hD
 refine sr 2 rfl (ip' 2 0 [(52,bv (decide (a.kind=18)))] ?_)
 refine ie ?_
 refine zjd rfl hR ?_ ?_<;>clear hR<;>intro hR h18 h18p
 ·refine sr 6 rfl (zrl 2 4 [0] [(55,iv a.n)] ?_)
  refine ix rfl (N9 rfl rfl rfl rfl (by omega)) ?_
  have hQ:=C3 hR;clear hR;obtain ⟨y38,hy38,hR⟩:=hQ
  refine zca (V8 ([78,79]:List UInt8) (a.n - 2) (by first|omega|(simp<;>omega)) (by first|omega|(simp<;>omega)) y38 hy38) A1.nil ?_
  have:=Q2 ([78,79]:List UInt8) (a.n - 2) (by omega);try rw [hy38] at this
  refine ix rfl (zst rfl rfl rfl) ?_
  refine ip' 1 0 [(2,sv (([27]:List UInt8)++y38))] ?_
  subst hR
  refine ie (A5 ?_)
  exact C9 hr hD
 refine A6 (nx (sr 1 rfl (ip' 1 0 [(2,sv ([]:List UInt8))] ?_)))
 subst hR
 refine ie (A5 ?_)
 exact C9 hr hD
def N1 (n:Int) (none_:Int):List UInt8 :=
 (bif (decide (n=none_)) then ([]:List UInt8) else (D9 (n.toNat+1) n))
theorem K5 (n k:Int) (h:n≤9999):(N1 n k).length≤10000:=by
 have:=M5 (n.toNat+1) n
 unfold N1;simp only [Bool.cond_eq_ite];split
 ·exact Nat.zero_le _
 ·omega
theorem V7 (n:Int) (none_:Int) (hn:n≤9999) (R:List UInt8) (hR:N1 n none_=R):I4 Tryz.prog 197 [iv n,iv none_] [] (sv R):=by
 refine zco Tryz.func197 [(0,iv n),(1,iv none_)] fun X hX hr hD=>?_
 replace hR:=(N1.eq_1 ..).symm.trans hR
 refine sr 1 rfl (ip' 1 0 [] ?_)
 refine ie (A9 (sr 3 rfl (ip' 3 0 [(7,bv (decide (n=none_)))] ?_)))
 refine ie ?_
 refine zjd rfl hR ?_ ?_<;>clear hR<;>intro hR h1 h1p
 ·refine sr 1 rfl (ip' 1 0 [(4,sv ([]:List UInt8))] ?_)
  subst hR
  refine ie (A5 ?_)
  exact C9 hr hD
 refine A6 (nx (sr 3 rfl (ip' 1 2 [(8,iv n)] ?_)))
 refine zca (A6d (n.toNat+1) n (by first|omega|(simp<;>omega)) (Nat.lt_succ_self _) _ rfl) A1.nil ?_
 have:=M5 (n.toNat+1) n
 refine ip' 1 0 [(4,sv (D9 (n.toNat+1) n))] ?_
 subst hR
 refine ie (A5 ?_)
 exact C9 hr hD
def A1o (n:Int) (m:Int) (none_:Int):List UInt8 :=
 (bif (decide (m=none_)) then (C0 (N1 n none_) fun (y3:List UInt8)=>y3) else (C0 (N1 n none_) fun (y21:List UInt8)=>(C0 (N1 m none_) fun (y18:List UInt8)=>((y21++([59]:List UInt8))++y18))))
theorem A7e (n m k:Int) (h:n≤9999∧m≤9999):(A1o n m k).length≤20001:=by
 have h1:=K5 n k h.1
 have h2:=K5 m k h.2
 unfold A1o C0;simp only [Bool.cond_eq_ite];split
 ·omega
 ·simp only [List.length_append,List.length_cons,List.length_nil];omega
theorem C0q (n:Int) (m:Int) (none_:Int) (hn:n≤9999∧m≤9999) (R:List UInt8) (hR:A1o n m none_=R):I4 Tryz.prog 143 [iv n,iv m,iv none_] [] (sv R):=by
 refine zco Tryz.func143 [(0,iv n),(1,iv m),(2,iv none_)] fun X hX hr hD=>?_
 replace hR:=(A1o.eq_1 ..).symm.trans hR
 refine sr 1 rfl (ip' 1 0 [] ?_)
 refine ie (A9 (sr 3 rfl (ip' 3 0 [(9,bv (decide (m=none_)))] ?_)))
 refine ie ?_
 refine zjd rfl hR ?_ ?_<;>clear hR<;>intro hR h1 h1p
 ·refine sr 4 rfl (ip' 2 2 [(10,iv n),(11,iv none_)] ?_)
  have hQ:=C3 hR;clear hR;obtain ⟨y3,hy3,hR⟩:=hQ
  refine zca (V7 n none_ (by omega) y3 hy3) A1.nil ?_
  have:=K5 n none_ (by omega);try rw [hy3] at this
  refine ip' 1 0 [(6,sv y3)] ?_
  subst hR
  refine ie (A5 ?_)
  exact C9 hr hD
 refine A6 (nx (sr 9 rfl (ip' 2 7 [(13,iv n),(14,iv none_)] ?_)))
 have hQ:=C3 hR;clear hR;obtain ⟨y21,hy21,hR⟩:=hQ
 refine zca (V7 n none_ (by omega) y21 hy21) A1.nil ?_
 have:=K5 n none_ (by omega);try rw [hy21] at this
 refine ix rfl (zst rfl rfl rfl) ?_
 refine ip' 2 3 [(17,iv m),(18,iv none_)] ?_
 have hQ:=C3 hR;clear hR;obtain ⟨y18,hy18,hR⟩:=hQ
 refine zca (V7 m none_ (by omega) y18 hy18) A1.nil ?_
 have:=K5 m none_ (by omega);try rw [hy18] at this
 refine ix rfl (zst rfl rfl rfl) ?_
 refine ip' 1 0 [(6,sv ((y21++([59]:List UInt8))++y18))] ?_
 subst hR
 refine ie (A5 ?_)
 exact C9 hr hD
def A0e (a:Act):Nat→Nat→List UInt8
 | 0,_=>[]
 | fu1+1,i=>(bif (decide ((i:Int)<10)) then (bif (decide (a.kind=(([22,23,24,25,28,29,30,31,32,34]:List Int).getD i 0))) then (C0 (N1 a.n 1) fun (y35:List UInt8)=>(C0 (P9 ([71,100,73,90,64,80,88,76,77,98]:List UInt8) (i:Int)) fun (y19:List UInt8)=>(y35++y19))) else A0e a fu1 (i+1)) else ([]:List UInt8))
def A4m (a:Act):List UInt8 :=
 (bif (decide (a.kind=20)) then (C0 (N1 a.m 1) fun (y3:List UInt8)=>(C0 (P9 ([65,66,67,68]:List UInt8) a.n) fun (y2:List UInt8)=>(y3++y2))) else (bif (decide (a.kind=21)) then (C0 (N1 a.m 1) fun (y21:List UInt8)=>(C0 (P9 ([69,70]:List UInt8) a.n) fun (y13:List UInt8)=>(y21++y13))) else (bif (decide (a.kind=33)) then (C0 (N1 a.m 1) fun (y18:List UInt8)=>(C0 (P9 ([83,84]:List UInt8) a.n) fun (y20:List UInt8)=>(y18++y20))) else (bif (decide (a.kind=26)) then (C0 (N1 a.n 0) fun (y46:List UInt8)=>(y46++([74]:List UInt8))) else (bif (decide (a.kind=27)) then (C0 (N1 a.n 0) fun (y36:List UInt8)=>(y36++([75]:List UInt8))) else (bif (decide (a.kind=35)) then (C0 (N1 a.n 0) fun (y39:List UInt8)=>(y39++([103]:List UInt8))) else (bif (decide (a.kind=40)) then (C0 (N1 a.n 0) fun (y37:List UInt8)=>(y37++([32,113]:List UInt8))) else A0e a ((10 - 0)+1) 0)))))))
theorem A7y (a:Act) (hn:a.n≤9999):∀ (fu i:Nat),(A0e a fu i).length≤10010
 | 0,i=>Nat.zero_le _
 | fu+1,i=>by
  have ih:=A7y a hn fu (i+1)
  have h1:=K5 a.n 1 hn
  have h2:=A0r [71,100,73,90,64,80,88,76,77,98] i
  rw [A0e];unfold C0;simp only [Bool.cond_eq_ite]
  repeat' split
  all_goals first|omega|(simp<;>omega)
theorem B1a (a:Act) (hn:a.n≤9999∧a.m≤9999):(A4m a).length≤10010:=by
 have h0:=K5 a.n 0 hn.1
 have h2:=K5 a.m 1 hn.2
 have q1:=A0r [65,66,67,68] a.n
 have q2:=A0r [69,70] a.n
 have q3:=A0r [83,84] a.n
 have hl:=A7y a hn.1 ((10 - 0)+1) 0
 unfold A4m C0;simp only [Bool.cond_eq_ite]
 repeat' split
 all_goals first|omega|(simp<;>omega)
theorem C1i (a:Act) (ha:B4p a) (hk:a.n≤9999∧a.m≤9999) (R:List UInt8) (hR:A4m a=R):I4 Tryz.prog 144 [ag (A2 a)] [] (sv R):=by
 refine zco Tryz.func144 [(0,ag (A2 a))] fun X hX hr hD=>?_
 replace hR:=(A4m.eq_1 ..).symm.trans hR
 have hrp:=ha;unfold B4p at hrp
 refine sr 2 rfl (O2 2 0 [] (fun b1=>[(1,pt b1 0)]) (fun b1=>[bx b1 (A2 a) 26]) (fun b1=>?_))
 refine ie (A9 (sr 2 rfl (zrl 2 0 [0] [(6,iv a.kind)] ?_)))
 refine ie (B3 (sr 2 rfl (ip' 2 0 [(7,bv (decide (a.kind=20)))] ?_)))
 refine ie ?_
 refine zjd rfl hR ?_ ?_<;>clear hR<;>intro hR h2 h2p
 ·refine sd 8 rfl (by kernel_rfl) rfl ?_
  refine zdg 2 6 [0] [(10,iv a.m)] ?_
  have hQ:=C3 hR;clear hR;obtain ⟨y3,hy3,hR⟩:=hQ
  refine zcd (V7 a.m 1 (by omega) y3 hy3) A1.nil ?_
  have:=K5 a.m 1 (by omega);try rw [hy3] at this
  refine zdg 2 3 [0] [(13,iv a.n)] ?_
  have hQ:=C3 hR;clear hR;obtain ⟨y2,hy2,hR⟩:=hQ
  refine zcd (V8 ([65,66,67,68]:List UInt8) a.n (by first|omega|(simp<;>omega)) (by first|omega|(simp<;>omega)) y2 hy2) A1.nil ?_
  have:=Q2 ([65,66,67,68]:List UInt8) a.n (by omega);try rw [hy2] at this
  refine dd rfl (zst rfl rfl rfl) ?_
  have:=@List.length_append _ y3 y2
  refine dp' 1 0 [(2,sv (y3++y2))] ?_
  subst hR
  refine de (A5 ?_)
  exact C9 hr hD
 refine sr 2 rfl (ip' 2 0 [(16,bv (decide (a.kind=21)))] ?_)
 refine ie ?_
 refine zjd rfl hR ?_ ?_<;>clear hR<;>intro hR h3 h3p
 ·refine sd 8 rfl (by kernel_rfl) rfl ?_
  refine zdg 2 6 [0] [(19,iv a.m)] ?_
  have hQ:=C3 hR;clear hR;obtain ⟨y21,hy21,hR⟩:=hQ
  refine zcd (V7 a.m 1 (by omega) y21 hy21) A1.nil ?_
  have:=K5 a.m 1 (by omega);try rw [hy21] at this
  refine zdg 2 3 [0] [(22,iv a.n)] ?_
  have hQ:=C3 hR;clear hR;obtain ⟨y13,hy13,hR⟩:=hQ
  refine zcd (V8 ([69,70]:List UInt8) a.n (by first|omega|(simp<;>omega)) (by first|omega|(simp<;>omega)) y13 hy13) A1.nil ?_
  have:=Q2 ([69,70]:List UInt8) a.n (by omega);try rw [hy13] at this
  refine dd rfl (zst rfl rfl rfl) ?_
  have:=@List.length_append _ y21 y13
  refine dp' 1 0 [(2,sv (y21++y13))] ?_
  subst hR
  refine de (A5 ?_)
  exact C9 hr hD
 refine sr 2 rfl (ip' 2 0 [(25,bv (decide (a.kind=33)))] ?_)
 refine ie ?_
 refine zjd rfl hR ?_ ?_<;>clear hR<;>intro hR h4 h4p
 ·refine sd 8 rfl (by kernel_rfl) rfl ?_
  refine zdg 2 6 [0] [(28,iv a.m)] ?_
  have hQ:=C3 hR;clear hR;obtain ⟨y18,hy18,hR⟩:=hQ
  refine zcd (V7 a.m 1 (by omega) y18 hy18) A1.nil ?_
  have:=K5 a.m 1 (by omega);try rw [hy18] at this
  refine zdg 2 3 [0] [(31,iv a.n)] ?_
  have hQ:=C3 hR;clear hR;obtain ⟨y20,hy20,hR⟩:=hQ
  refine zcd (V8 ([83,84]:List UInt8) a.n (by first|omega|(simp<;>omega)) (by first|omega|(simp<;>omega)) y20 hy20) A1.nil ?_
  have:=Q2 ([83,84]:List UInt8) a.n (by omega);try rw [hy20] at this
  refine dd rfl (zst rfl rfl rfl) ?_
  have:=@List.length_append _ y18 y20
  refine dp' 1 0 [(2,sv (y18++y20))] ?_
  subst hR
  refine de (A5 ?_)
  exact C9 hr hD
 refine sr 2 rfl (ip' 2 0 [(34,bv (decide (a.kind=26)))] ?_)
 refine ie ?_
 refine zjd rfl hR ?_ ?_<;>clear hR<;>intro hR h5 h5p
 ·refine sr 5 rfl (zrl 2 3 [0] [(37,iv a.n)] ?_)
  have hQ:=C3 hR;clear hR;obtain ⟨y46,hy46,hR⟩:=hQ
  refine zca (V7 a.n 0 (by omega) y46 hy46) A1.nil ?_
  have:=K5 a.n 0 (by omega);try rw [hy46] at this
  refine ix rfl (zst rfl rfl rfl) ?_
  refine ip' 1 0 [(2,sv (y46++([74]:List UInt8)))] ?_
  subst hR
  refine ie (A5 ?_)
  exact C9 hr hD
 refine sr 2 rfl (ip' 2 0 [(40,bv (decide (a.kind=27)))] ?_)
 refine ie ?_
 refine zjd rfl hR ?_ ?_<;>clear hR<;>intro hR h6 h6p
 ·refine sr 5 rfl (zrl 2 3 [0] [(43,iv a.n)] ?_)
  have hQ:=C3 hR;clear hR;obtain ⟨y36,hy36,hR⟩:=hQ
  refine zca (V7 a.n 0 (by omega) y36 hy36) A1.nil ?_
  have:=K5 a.n 0 (by omega);try rw [hy36] at this
  refine ix rfl (zst rfl rfl rfl) ?_
  refine ip' 1 0 [(2,sv (y36++([75]:List UInt8)))] ?_
  subst hR
  refine ie (A5 ?_)
  exact C9 hr hD
 refine sr 2 rfl (ip' 2 0 [(46,bv (decide (a.kind=35)))] ?_)
 refine ie ?_
 refine zjd rfl hR ?_ ?_<;>clear hR<;>intro hR h7 h7p
 ·refine sr 5 rfl (zrl 2 3 [0] [(49,iv a.n)] ?_)
  have hQ:=C3 hR;clear hR;obtain ⟨y39,hy39,hR⟩:=hQ
  refine zca (V7 a.n 0 (by omega) y39 hy39) A1.nil ?_
  have:=K5 a.n 0 (by omega);try rw [hy39] at this
  refine ix rfl (zst rfl rfl rfl) ?_
  refine ip' 1 0 [(2,sv (y39++([103]:List UInt8)))] ?_
  subst hR
  refine ie (A5 ?_)
  exact C9 hr hD
 refine sr 2 rfl (ip' 2 0 [(52,bv (decide (a.kind=40)))] ?_)
 refine ie ?_
 refine zjd rfl hR ?_ ?_<;>clear hR<;>intro hR h8 h8p
 ·refine sr 5 rfl (zrl 2 3 [0] [(55,iv a.n)] ?_)
  have hQ:=C3 hR;clear hR;obtain ⟨y37,hy37,hR⟩:=hQ
  refine zca (V7 a.n 0 (by omega) y37 hy37) A1.nil ?_
  have:=K5 a.n 0 (by omega);try rw [hy37] at this
  refine ix rfl (zst rfl rfl rfl) ?_
  refine ip' 1 0 [(2,sv (y37++([32,113]:List UInt8)))] ?_
  subst hR
  refine ie (A5 ?_)
  exact C9 hr hD
 refine A6 (nx (sr 3 rfl (O2 3 0 [0] (fun b9=>[(3,pt b9 0)]) (fun b9=>[bx b9 [iv 22,iv 23,iv 24,iv 25,iv 28,iv 29,iv 30,iv 31,iv 32,iv 34] 206,bx b1 (A2 a) 26]) (fun b9=>?_))))
 refine ie (A9 (sr 1 rfl (ip' 1 0 [(4,iv 0)] ?_)))
 refine ie (B3 (C4d (fun (fu:Nat) (i:Nat)=>((10 - i)<fu∧A0e a fu i=R,[(1,pt b1 0),(3,pt b9 0),(4,iv (i:Int))],[bx b9 [iv 22,iv 23,iv 24,iv 25,iv 28,iv 29,iv 30,iv 31,iv 32,iv 34] 206,bx b1 (A2 a) 26],[],fu)) ((10 - 0)+1) 0 ⟨(Nat.lt_succ_self _),hR⟩ (mk [true,true] rfl) A1.nil ?_))
 rintro fu i ⟨hm10,hR⟩
 obtain ⟨fu1,rfl⟩:∃ m,fu=m+1:=⟨fu - 1,by omega⟩
 replace hR:=(A0e.eq_2 ..).symm.trans hR
 refine A9 (sr 2 rfl (ip' 2 0 [(60,bv (decide ((i:Int)<10)))] ?_))
 refine ie ?_
 refine zjd rfl hR ?_ ?_<;>clear hR<;>intro hR h11 h11p
 ·refine A6 (nx (A9 (B3 (sd 6 rfl (by kernel_rfl) rfl ?_))))
  refine zdg 3 3 [1] [(64,iv a.kind),(65,iv (i:Int))] ?_
  refine dd rfl (U5 Tryz.underlying206 ty3 rfl rfl rfl i rfl (by omega)) ?_
  refine dd rfl (N6 (u:=iv (([22,23,24,25,28,29,30,31,32,34]:List Int).getD i 0)) (c:=D8) (xs:=([22,23,24,25,28,29,30,31,32,34]:List Int)) (j:=[]) (sz:=1) ty3 (fun _=>rfl) rfl rfl 0 rfl i 0 rfl (gd 0 (by simp only [List.length_cons,List.length_nil];omega)) rfl) ?_
  refine dp' 1 0 [(68,bv (decide (a.kind=(([22,23,24,25,28,29,30,31,32,34]:List Int).getD i 0))))] ?_
  refine de ?_
  refine zjd rfl hR ?_ ?_<;>clear hR<;>intro hR h12 h12p
  ·refine sr 7 rfl (zrl 2 5 [1] [(70,iv a.n)] ?_)
   have hQ:=C3 hR;clear hR;obtain ⟨y35,hy35,hR⟩:=hQ
   refine zca (V7 a.n 1 (by omega) y35 hy35) A1.nil ?_
   have:=K5 a.n 1 (by omega);try rw [hy35] at this
   refine ip' 1 3 [(72,iv (i:Int))] ?_
   have hQ:=C3 hR;clear hR;obtain ⟨y19,hy19,hR⟩:=hQ
   refine zca (V8 ([71,100,73,90,64,80,88,76,77,98]:List UInt8) (i:Int) (by first|omega|(simp<;>omega)) (by first|omega|(simp<;>omega)) y19 hy19) A1.nil ?_
   have:=Q2 ([71,100,73,90,64,80,88,76,77,98]:List UInt8) (i:Int) (by omega);try rw [hy19] at this
   refine ix rfl (zst rfl rfl rfl) ?_
   have:=@List.length_append _ y35 y19
   refine ip' 1 0 [(2,sv (y35++y19))] ?_
   subst hR
   refine ie (A5 ?_)
   exact C9 hr hD
  refine A6 (nx (A3 3 rfl (ip' 1 2 [(61,iv (i:Int))] ?_)))
  refine ix rfl (B7 rfl rfl rfl rfl (by omega)) ?_
  refine ip' 1 0 [(4,iv ((i:Int)+1))] ?_
  refine A7 ?_
  exact C3t (z1:=(fu1+1)) (z2:=i) fu1 (i+1) ⟨(by omega),hR⟩ (Nat.lt_succ_self _) (mk [true,true] rfl) A1.nil
 refine H7 (nx (sr 1 rfl (ip' 1 0 [(2,sv ([]:List UInt8))] ?_)))
 subst hR
 refine ie (A5 ?_)
 exact C9 hr hD
theorem D3v:∀ (k:Nat),((([([]:List UInt8),([62]:List UInt8)]:List (List UInt8)).getD k []).length)≤1:=fun k=>by match k with | 0=>exact Nat.zero_le _ | 1=>exact Nat.le_refl _ | k+2=>exact Nat.zero_le _
theorem D3e:∀ (k:Nat),((([([]:List UInt8),([63]:List UInt8)]:List (List UInt8)).getD k []).length)≤1:=fun k=>by match k with | 0=>exact Nat.zero_le _ | 1=>exact Nat.le_refl _ | k+2=>exact Nat.zero_le _
def A3o (a:Act):List UInt8 :=
 (bif (decide (a.kind=19)) then (C0 (A1o a.n a.m 1) fun (y22:List UInt8)=>(y22++([72]:List UInt8))) else (bif (decide (a.kind=38)) then (C0 (A1o a.n a.m 0) fun (y43:List UInt8)=>(y43++([114]:List UInt8))) else (bif (decide (a.kind=36)) then (C0 (P9 ([108,104]:List UInt8) a.m) fun (y2:List UInt8)=>((D9 (a.n.toNat+1) a.n)++y2)) else (bif (decide (a.kind=37)) then (C0 (P9 ([108,104]:List UInt8) a.m) fun (y13:List UInt8)=>((([63]:List UInt8)++(D9 (a.n.toNat+1) a.n))++y13)) else (bif (decide (a.kind=41)) then ((D9 (a.n.toNat+1) a.n)++([110]:List UInt8)) else (bif (decide (a.kind=42)) then ((([([]:List UInt8),([62]:List UInt8)]:List (List UInt8)).getD ((a.n).toNat) [])++([99]:List UInt8)) else (bif (decide (a.kind=43)) then (((([([]:List UInt8),([63]:List UInt8)]:List (List UInt8)).getD ((a.m).toNat) [])++(D9 (a.n.toNat+1) a.n))++([36,112]:List UInt8)) else (C0 (A4m a) fun (y45:List UInt8)=>y45))))))))
theorem A4s (a:Act) (hn:a.n≤9999∧a.m≤9999):(A3o a).length≤30000:=by
 have h0:=M5 (a.n.toNat+1) a.n
 have h1:=A7e a.n a.m 1 hn
 have h2:=A7e a.n a.m 0 hn
 have h3:=B1a a hn
 have q1:=A0r [108,104] a.m
 have g1:=D3v a.n.toNat
 have g2:=D3e a.m.toNat
 unfold A3o C0;simp only [Bool.cond_eq_ite]
 repeat' split
 all_goals first|omega|(simp only [List.length_append,List.length_cons,List.length_nil]<;>omega)
theorem B1v (a:Act) (ha:B4p a) (hk:a.n≤9999∧a.m≤9999) (R:List UInt8) (hR:A3o a=R):I4 Tryz.prog 97 [ag (A2 a)] [] (sv R):=by
 refine zco Tryz.func97 [(0,ag (A2 a))] fun X hX hr hD=>?_
 replace hR:=(A3o.eq_1 ..).symm.trans hR
 have hrp:=ha;unfold B4p at hrp
 have g1:=D3v a.n.toNat
 have g2:=D3e a.m.toNat
 refine sr 2 rfl (O2 2 0 [] (fun b1=>[(1,pt b1 0)]) (fun b1=>[bx b1 (A2 a) 26]) (fun b1=>?_))
 refine ie (sr 4 rfl (zrl 2 2 [0] [(5,iv a.n)] ?_))
 refine zca (A6d (a.n.toNat+1) a.n (by first|omega|(simp<;>omega)) (Nat.lt_succ_self _) _ rfl) A1.nil ?_
 have:=M5 (a.n.toNat+1) a.n
 refine ip' 1 0 [(3,sv (D9 (a.n.toNat+1) a.n))] ?_
 refine ie (A9 (sr 2 rfl (zrl 2 0 [0] [(8,iv a.kind)] ?_)))
 refine ie (B3 (sr 2 rfl (ip' 2 0 [(9,bv (decide (a.kind=19)))] ?_)))
 refine ie ?_
 refine zjd rfl hR ?_ ?_<;>clear hR<;>intro hR h2 h2p
 ·refine sr 7 rfl (zrl 4 3 [0,0] [(12,iv a.n),(14,iv a.m)] ?_)
  have hQ:=C3 hR;clear hR;obtain ⟨y22,hy22,hR⟩:=hQ
  refine zca (C0q a.n a.m 1 (by omega) y22 hy22) A1.nil ?_
  have:=A7e a.n a.m 1 (by omega);try rw [hy22] at this
  refine ix rfl (zst rfl rfl rfl) ?_
  refine ip' 1 0 [(2,sv (y22++([72]:List UInt8)))] ?_
  subst hR
  refine ie (A5 ?_)
  exact C9 hr hD
 refine sr 2 rfl (ip' 2 0 [(17,bv (decide (a.kind=38)))] ?_)
 refine ie ?_
 refine zjd rfl hR ?_ ?_<;>clear hR<;>intro hR h3 h3p
 ·refine sr 7 rfl (zrl 4 3 [0,0] [(20,iv a.n),(22,iv a.m)] ?_)
  have hQ:=C3 hR;clear hR;obtain ⟨y43,hy43,hR⟩:=hQ
  refine zca (C0q a.n a.m 0 (by omega) y43 hy43) A1.nil ?_
  have:=A7e a.n a.m 0 (by omega);try rw [hy43] at this
  refine ix rfl (zst rfl rfl rfl) ?_
  refine ip' 1 0 [(2,sv (y43++([114]:List UInt8)))] ?_
  subst hR
  refine ie (A5 ?_)
  exact C9 hr hD
 refine sr 2 rfl (ip' 2 0 [(25,bv (decide (a.kind=36)))] ?_)
 refine ie ?_
 refine zjd rfl hR ?_ ?_<;>clear hR<;>intro hR h4 h4p
 ·refine sr 6 rfl (zrl 3 3 [0] [(27,sv (D9 (a.n.toNat+1) a.n)),(29,iv a.m)] ?_)
  have hQ:=C3 hR;clear hR;obtain ⟨y2,hy2,hR⟩:=hQ
  refine zca (V8 ([108,104]:List UInt8) a.m (by first|omega|(simp<;>omega)) (by first|omega|(simp<;>omega)) y2 hy2) A1.nil ?_
  have:=Q2 ([108,104]:List UInt8) a.m (by omega);try rw [hy2] at this
  refine ix rfl (zst rfl rfl rfl) ?_
  have:=@List.length_append _ (D9 (a.n.toNat+1) a.n) y2
  refine ip' 1 0 [(2,sv ((D9 (a.n.toNat+1) a.n)++y2))] ?_
  subst hR
  refine ie (A5 ?_)
  exact C9 hr hD
 refine sr 2 rfl (ip' 2 0 [(32,bv (decide (a.kind=37)))] ?_)
 refine ie ?_
 refine zjd rfl hR ?_ ?_<;>clear hR<;>intro hR h5 h5p
 ·refine sr 7 rfl (ip' 1 6 [(34,sv (D9 (a.n.toNat+1) a.n))] ?_)
  refine ix rfl (zst rfl rfl rfl) ?_
  refine zrl 2 3 [0] [(37,iv a.m)] ?_
  have hQ:=C3 hR;clear hR;obtain ⟨y13,hy13,hR⟩:=hQ
  refine zca (V8 ([108,104]:List UInt8) a.m (by first|omega|(simp<;>omega)) (by first|omega|(simp<;>omega)) y13 hy13) A1.nil ?_
  have:=Q2 ([108,104]:List UInt8) a.m (by omega);try rw [hy13] at this
  refine ix rfl (zst rfl rfl rfl) ?_
  refine ip' 1 0 [(2,sv ((([63]:List UInt8)++(D9 (a.n.toNat+1) a.n))++y13))] ?_
  subst hR
  refine ie (A5 ?_)
  exact C9 hr hD
 refine sr 2 rfl (ip' 2 0 [(40,bv (decide (a.kind=41)))] ?_)
 refine ie ?_
 refine zjd rfl hR ?_ ?_<;>clear hR<;>intro hR h6 h6p
 ·refine sr 3 rfl (ip' 1 2 [(42,sv (D9 (a.n.toNat+1) a.n))] ?_)
  refine ix rfl (zst rfl rfl rfl) ?_
  refine ip' 1 0 [(2,sv ((D9 (a.n.toNat+1) a.n)++([110]:List UInt8)))] ?_
  subst hR
  refine ie (A5 ?_)
  exact C9 hr hD
 refine sr 2 rfl (ip' 2 0 [(44,bv (decide (a.kind=42)))] ?_)
 refine ie ?_
 refine zjd rfl hR ?_ ?_<;>clear hR<;>intro hR h7 h7p
 ·refine sr 6 rfl (zrl 3 3 [0] [(46,ag [sv ([]:List UInt8),sv ([62]:List UInt8)]),(48,iv a.n)] ?_)
  refine ix rfl (A4z (v:=sv (([([]:List UInt8),([62]:List UInt8)]:List (List UInt8)).getD ((a.n).toNat) [])) (c:=D5y) (xs:=([([]:List UInt8),([62]:List UInt8)]:List (List UInt8))) (d:=[]) Tryz.underlying220 ty9 (fun _=>rfl) rfl rfl rfl rfl ((a.n).toNat) (by omega) rfl (by omega) rfl rfl) ?_
  refine ix rfl (zst rfl rfl rfl) ?_
  refine ip' 1 0 [(2,sv ((([([]:List UInt8),([62]:List UInt8)]:List (List UInt8)).getD ((a.n).toNat) [])++([99]:List UInt8)))] ?_
  subst hR
  refine ie (A5 ?_)
  exact C9 hr hD
 refine sr 2 rfl (ip' 2 0 [(51,bv (decide (a.kind=43)))] ?_)
 refine ie ?_
 refine zjd rfl hR ?_ ?_<;>clear hR<;>intro hR h8 h8p
 ·refine sr 8 rfl (zrl 3 5 [0] [(53,ag [sv ([]:List UInt8),sv ([63]:List UInt8)]),(55,iv a.m)] ?_)
  refine ix rfl (A4z (v:=sv (([([]:List UInt8),([63]:List UInt8)]:List (List UInt8)).getD ((a.m).toNat) [])) (c:=D5y) (xs:=([([]:List UInt8),([63]:List UInt8)]:List (List UInt8))) (d:=[]) Tryz.underlying220 ty9 (fun _=>rfl) rfl rfl rfl rfl ((a.m).toNat) (by omega) rfl (by omega) rfl rfl) ?_
  refine ip' 1 3 [(57,sv (D9 (a.n.toNat+1) a.n))] ?_
  refine ix rfl (zst rfl rfl rfl) ?_
  refine ix rfl (zst rfl rfl rfl) ?_
  refine ip' 1 0 [(2,sv (((([([]:List UInt8),([63]:List UInt8)]:List (List UInt8)).getD ((a.m).toNat) [])++(D9 (a.n.toNat+1) a.n))++([36,112]:List UInt8)))] ?_
  subst hR
  refine ie (A5 ?_)
  exact C9 hr hD
 refine A6 (nx (sr 3 rfl (zrl 1 2 [0] [(60,ag (A2 a))] ?_)))
 have hQ:=C3 hR;clear hR;obtain ⟨y45,hy45,hR⟩:=hQ
 refine zca (C1i a (by first|assumption|exact G7 (by assumption)|exact G7 (h10 (by omega)).1) (by omega) y45 hy45) A1.nil ?_
 have:=B1a a (by omega);try rw [hy45] at this
 refine ip' 1 0 [(2,sv y45)] ?_
 subst hR
 refine ie (A5 ?_)
 exact C9 hr hD
def A0d (a:Act):List UInt8 :=
 (bif (decide (a.kind=1)) then (C0 (A5i a.n) fun (y17:List UInt8)=>y17) else (bif (decide (a.kind=44)) then (bif (decide (a.kind=44)) then (C0 (I8 a) fun (y7:List UInt8×Int)=>(((([27,93]:List UInt8)++y7.1)++([27]:List UInt8))++([92]:List UInt8))) else (bif (decide (a.kind=39)) then (C0 (A1h ([a]:List Act)) fun (y15:List UInt8)=>y15) else (C0 (A3n a) fun (y9:List UInt8)=>(bif (!(decide (y9=([]:List UInt8)))) then y9 else (C0 (A3o a) fun (y14:List UInt8)=>(([27,91]:List UInt8)++y14)))))) else (bif (decide (a.kind=45)) then (bif (decide (a.kind=45)) then (C0 (I8 a) fun (y30:List UInt8×Int)=>(((([27,93]:List UInt8)++y30.1)++([27]:List UInt8))++([92]:List UInt8))) else (bif (decide (a.kind=39)) then (C0 (A1h ([a]:List Act)) fun (y40:List UInt8)=>y40) else (C0 (A3n a) fun (y27:List UInt8)=>(bif (!(decide (y27=([]:List UInt8)))) then y27 else (C0 (A3o a) fun (y42:List UInt8)=>(([27,91]:List UInt8)++y42)))))) else (bif (decide (a.kind=46)) then (C0 (I8 a) fun (y29:List UInt8×Int)=>(((([27,93]:List UInt8)++y29.1)++([27]:List UInt8))++([92]:List UInt8))) else (bif (decide (a.kind=39)) then (C0 (A1h ([a]:List Act)) fun (y44:List UInt8)=>y44) else (C0 (A3n a) fun (y26:List UInt8)=>(bif (!(decide (y26=([]:List UInt8)))) then y26 else (C0 (A3o a) fun (y41:List UInt8)=>(([27,91]:List UInt8)++y41)))))))))
theorem C5l (a:Act) (h:B4p a):(A0d a).length≤a.text.length+1000000:=by
 have p:=B1x a.n
 have q:=A2o a
 have r:=A5x [a]
 have s:=A4t a
 unfold B4p at h
 by_cases hk:a.kind≠1∧a.kind≠39∧a.kind≠44∧a.kind≠45∧a.kind≠46
 ·have o:=A4s a (by omega)
  unfold A0d C0;simp only [Bool.cond_eq_ite]
  repeat' split
  all_goals first|omega|(simp<;>omega)
 ·have hk':a.kind=1∨a.kind=39∨a.kind=44∨a.kind=45∨a.kind=46:=by omega
  unfold A0d C0
  rcases hk' with h | h | h | h | h<;>simp only [h,Int.reduceEq,decide_true,decide_false,cond_true,cond_false]
  all_goals first|omega|(simp<;>omega)
theorem C9p (a:Act) (ha:B4p a) (hs:a.text.length≤100000000) (R:List UInt8) (hR:A0d a=R):I4 Tryz.prog 43 [ag (A2 a)] [] (sv R):=by
 refine zco Tryz.func43 [(0,ag (A2 a))] fun X hX hr hD=>?_
 replace hR:=(A0d.eq_1 ..).symm.trans hR
 have hrp:=ha;unfold B4p at hrp
 refine sr 2 rfl (O2 2 0 [] (fun b1=>[(1,pt b1 0)]) (fun b1=>[bx b1 (A2 a) 26]) (fun b1=>?_))
 refine ie (A9 (sr 2 rfl (zrl 2 0 [0] [(7,iv a.kind)] ?_)))
 refine ie (B3 (sr 2 rfl (ip' 2 0 [(8,bv (decide (a.kind=1)))] ?_)))
 refine ie ?_
 refine zjd rfl hR ?_ ?_<;>clear hR<;>intro hR h2 h2p
 ·refine sr 4 rfl (zrl 2 2 [0] [(11,iv a.n)] ?_)
  have hQ:=C3 hR;clear hR;obtain ⟨y17,hy17,hR⟩:=hQ
  refine zca (B9u a.n y17 hy17) A1.nil ?_
  have:=B1x a.n;try rw [hy17] at this
  refine ip' 1 0 [(2,sv y17)] ?_
  subst hR
  refine ie (A5 ?_)
  exact C9 hr hD
 refine A9 (sr 2 rfl (ip' 2 0 [(13,bv (decide (a.kind=44)))] ?_))
 refine ie ?_
 refine zjd rfl hR ?_ ?_<;>clear hR<;>intro hR h3 h3p
 ·refine A6 (nx ?_)
  refine zjd rfl hR ?_ ?_<;>clear hR<;>intro hR h4 h4p
  ·refine sr 7 rfl (zrl 1 6 [0] [(18,ag (A2 a))] ?_)
   have hQ:=C3 hR;clear hR;obtain ⟨y7,hy7,hR⟩:=hQ
   refine zca (A7c a y7 hy7) A1.nil ?_
   have:=A2o a;try rw [hy7] at this
   refine ip' 5 0 [(3,sv y7.1)] ?_
   refine ie (sr 5 rfl (ip' 1 4 [(22,sv y7.1)] ?_))
   refine ix rfl (zst rfl rfl rfl) ?_
   refine ix rfl (zst rfl rfl rfl) ?_
   refine ix rfl (zst rfl rfl rfl) ?_
   refine ip' 1 0 [(2,sv (((([27,93]:List UInt8)++y7.1)++([27]:List UInt8))++([92]:List UInt8)))] ?_
   subst hR
   refine ie (A5 ?_)
   exact C9 hr hD
  refine sr 2 rfl (ip' 2 0 [(26,bv (decide (a.kind=39)))] ?_)
  refine ie ?_
  refine zjd rfl hR ?_ ?_<;>clear hR<;>intro hR h5 h5p
  ·refine sr 4 rfl (zrl 1 3 [0] [(28,ag (A2 a))] ?_)
   refine it rfl (B5 (c:=A2) (xs:=([a]:List Act)) A5u rfl rfl rfl (by kernel_rfl)) fun b6=>?_
   have:([a]:List Act).length=1:=rfl
   have hQ:=C3 hR;clear hR;obtain ⟨y15,hy15,hR⟩:=hQ
   refine zca (B3g ([a]:List Act) (some ⟨b6,0,none⟩) 1 (by first|omega|(simp<;>omega)|(dsimp only;omega)|decide) (by first|omega|(simp<;>omega)|(dsimp only;omega)|decide) (by first|omega|(simp<;>omega)) y15 hy15) A1.refl ?_
   have:=A5x ([a]:List Act);try rw [hy15] at this
   refine ip' 1 0 [(2,sv y15)] ?_
   subst hR
   refine ie (A5 ?_)
   exact C9 hr hD
  refine A6 (nx (sr 3 rfl (zrl 1 2 [0] [(31,ag (A2 a))] ?_)))
  have hQ:=C3 hR;clear hR;obtain ⟨y9,hy9,hR⟩:=hQ
  refine zca (B1w a (by first|assumption|exact G7 (by assumption)|exact G7 (h10 (by omega)).1) y9 hy9) A1.nil ?_
  have:=A4t a;try rw [hy9] at this
  refine ip' 1 0 [(5,sv y9)] ?_
  refine ie (A9 (sr 2 rfl (ip' 1 1 [(33,sv y9)] ?_)))
  refine ix rfl (X0 rfl rfl rfl) ?_
  refine ie ?_
  refine zjn rfl hR ?_ ?_<;>clear hR<;>intro hR h7 h7p
  ·refine sr 2 rfl (ip' 2 0 [(2,sv y9)] ?_)
   subst hR
   refine ie (A5 ?_)
   exact C9 hr hD
  refine A6 (nx (sr 4 rfl (zrl 1 3 [0] [(36,ag (A2 a))] ?_)))
  have hQ:=C3 hR;clear hR;obtain ⟨y14,hy14,hR⟩:=hQ
  refine zca (B1v a (by first|assumption|exact G7 (by assumption)|exact G7 (h10 (by omega)).1) (by omega) y14 hy14) A1.nil ?_
  have:=A4s a (by omega);try rw [hy14] at this
  refine ix rfl (zst rfl rfl rfl) ?_
  refine ip' 1 0 [(2,sv (([27,91]:List UInt8)++y14))] ?_
  subst hR
  refine ie (A5 ?_)
  exact C9 hr hD
 refine sr 2 rfl (ip' 2 0 [(13,bv (decide (a.kind=45)))] ?_)
 refine ie ?_
 refine zjd rfl hR ?_ ?_<;>clear hR<;>intro hR h8 h8p
 ·refine A6 (nx ?_)
  refine zjd rfl hR ?_ ?_<;>clear hR<;>intro hR h9 h9p
  ·refine sr 7 rfl (zrl 1 6 [0] [(18,ag (A2 a))] ?_)
   have hQ:=C3 hR;clear hR;obtain ⟨y30,hy30,hR⟩:=hQ
   refine zca (A7c a y30 hy30) A1.nil ?_
   have:=A2o a;try rw [hy30] at this
   refine ip' 5 0 [(3,sv y30.1)] ?_
   refine ie (sr 5 rfl (ip' 1 4 [(22,sv y30.1)] ?_))
   refine ix rfl (zst rfl rfl rfl) ?_
   refine ix rfl (zst rfl rfl rfl) ?_
   refine ix rfl (zst rfl rfl rfl) ?_
   refine ip' 1 0 [(2,sv (((([27,93]:List UInt8)++y30.1)++([27]:List UInt8))++([92]:List UInt8)))] ?_
   subst hR
   refine ie (A5 ?_)
   exact C9 hr hD
  refine sr 2 rfl (ip' 2 0 [(26,bv (decide (a.kind=39)))] ?_)
  refine ie ?_
  refine zjd rfl hR ?_ ?_<;>clear hR<;>intro hR h10 h10p
  ·refine sr 4 rfl (zrl 1 3 [0] [(28,ag (A2 a))] ?_)
   refine it rfl (B5 (c:=A2) (xs:=([a]:List Act)) A5u rfl rfl rfl (by kernel_rfl)) fun b11=>?_
   have:([a]:List Act).length=1:=rfl
   have hQ:=C3 hR;clear hR;obtain ⟨y40,hy40,hR⟩:=hQ
   refine zca (B3g ([a]:List Act) (some ⟨b11,0,none⟩) 1 (by first|omega|(simp<;>omega)|(dsimp only;omega)|decide) (by first|omega|(simp<;>omega)|(dsimp only;omega)|decide) (by first|omega|(simp<;>omega)) y40 hy40) A1.refl ?_
   have:=A5x ([a]:List Act);try rw [hy40] at this
   refine ip' 1 0 [(2,sv y40)] ?_
   subst hR
   refine ie (A5 ?_)
   exact C9 hr hD
  refine A6 (nx (sr 3 rfl (zrl 1 2 [0] [(31,ag (A2 a))] ?_)))
  have hQ:=C3 hR;clear hR;obtain ⟨y27,hy27,hR⟩:=hQ
  refine zca (B1w a (by first|assumption|exact G7 (by assumption)|exact G7 (h10 (by omega)).1) y27 hy27) A1.nil ?_
  have:=A4t a;try rw [hy27] at this
  refine ip' 1 0 [(5,sv y27)] ?_
  refine ie (A9 (sr 2 rfl (ip' 1 1 [(33,sv y27)] ?_)))
  refine ix rfl (X0 rfl rfl rfl) ?_
  refine ie ?_
  refine zjn rfl hR ?_ ?_<;>clear hR<;>intro hR h12 h12p
  ·refine sr 2 rfl (ip' 2 0 [(2,sv y27)] ?_)
   subst hR
   refine ie (A5 ?_)
   exact C9 hr hD
  refine A6 (nx (sr 4 rfl (zrl 1 3 [0] [(36,ag (A2 a))] ?_)))
  have hQ:=C3 hR;clear hR;obtain ⟨y42,hy42,hR⟩:=hQ
  refine zca (B1v a (by first|assumption|exact G7 (by assumption)|exact G7 (h10 (by omega)).1) (by omega) y42 hy42) A1.nil ?_
  have:=A4s a (by omega);try rw [hy42] at this
  refine ix rfl (zst rfl rfl rfl) ?_
  refine ip' 1 0 [(2,sv (([27,91]:List UInt8)++y42))] ?_
  subst hR
  refine ie (A5 ?_)
  exact C9 hr hD
 refine A3 2 rfl (ip' 2 0 [(13,bv (decide (a.kind=46)))] ?_)
 refine A7 (nx ?_)
 refine zjd rfl hR ?_ ?_<;>clear hR<;>intro hR h13 h13p
 ·refine sr 7 rfl (zrl 1 6 [0] [(18,ag (A2 a))] ?_)
  have hQ:=C3 hR;clear hR;obtain ⟨y29,hy29,hR⟩:=hQ
  refine zca (A7c a y29 hy29) A1.nil ?_
  have:=A2o a;try rw [hy29] at this
  refine ip' 5 0 [(3,sv y29.1)] ?_
  refine ie (sr 5 rfl (ip' 1 4 [(22,sv y29.1)] ?_))
  refine ix rfl (zst rfl rfl rfl) ?_
  refine ix rfl (zst rfl rfl rfl) ?_
  refine ix rfl (zst rfl rfl rfl) ?_
  refine ip' 1 0 [(2,sv (((([27,93]:List UInt8)++y29.1)++([27]:List UInt8))++([92]:List UInt8)))] ?_
  subst hR
  refine ie (A5 ?_)
  exact C9 hr hD
 refine sr 2 rfl (ip' 2 0 [(26,bv (decide (a.kind=39)))] ?_)
 refine ie ?_
 refine zjd rfl hR ?_ ?_<;>clear hR<;>intro hR h14 h14p
 ·refine sr 4 rfl (zrl 1 3 [0] [(28,ag (A2 a))] ?_)
  refine it rfl (B5 (c:=A2) (xs:=([a]:List Act)) A5u rfl rfl rfl (by kernel_rfl)) fun b15=>?_
  have:([a]:List Act).length=1:=rfl
  have hQ:=C3 hR;clear hR;obtain ⟨y44,hy44,hR⟩:=hQ
  refine zca (B3g ([a]:List Act) (some ⟨b15,0,none⟩) 1 (by first|omega|(simp<;>omega)|(dsimp only;omega)|decide) (by first|omega|(simp<;>omega)|(dsimp only;omega)|decide) (by first|omega|(simp<;>omega)) y44 hy44) A1.refl ?_
  have:=A5x ([a]:List Act);try rw [hy44] at this
  refine ip' 1 0 [(2,sv y44)] ?_
  subst hR
  refine ie (A5 ?_)
  exact C9 hr hD
 refine A6 (nx (sr 3 rfl (zrl 1 2 [0] [(31,ag (A2 a))] ?_)))
 have hQ:=C3 hR;clear hR;obtain ⟨y26,hy26,hR⟩:=hQ
 refine zca (B1w a (by first|assumption|exact G7 (by assumption)|exact G7 (h10 (by omega)).1) y26 hy26) A1.nil ?_
 have:=A4t a;try rw [hy26] at this
 refine ip' 1 0 [(5,sv y26)] ?_
 refine ie (A9 (sr 2 rfl (ip' 1 1 [(33,sv y26)] ?_)))
 refine ix rfl (X0 rfl rfl rfl) ?_
 refine ie ?_
 refine zjn rfl hR ?_ ?_<;>clear hR<;>intro hR h16 h16p
 ·refine sr 2 rfl (ip' 2 0 [(2,sv y26)] ?_)
  subst hR
  refine ie (A5 ?_)
  exact C9 hr hD
 refine A6 (nx (sr 4 rfl (zrl 1 3 [0] [(36,ag (A2 a))] ?_)))
 have hQ:=C3 hR;clear hR;obtain ⟨y41,hy41,hR⟩:=hQ
 refine zca (B1v a (by first|assumption|exact G7 (by assumption)|exact G7 (h10 (by omega)).1) (by omega) y41 hy41) A1.nil ?_
 have:=A4s a (by omega);try rw [hy41] at this
 refine ix rfl (zst rfl rfl rfl) ?_
 refine ip' 1 0 [(2,sv (([27,91]:List UInt8)++y41))] ?_
 subst hR
 refine ie (A5 ?_)
 exact C9 hr hD
def A6p (a:Act):List UInt8×Int :=
 (bif (!(F1 a)) then (([]:List UInt8),200) else (C0 (A0d a) fun (y34:List UInt8)=>(y34,0)))
theorem C0e (a:Act) (hs:a.text.length≤100000000) (R:List UInt8×Int) (hR:A6p a=R):Con Tryz.prog 21 [ag (A2 a)] [] [] ({t:Option Addr×Nat // R.1.length≤t.2∧R.1.length≤9223372036854775807}) (fun x=>.tuple #[.slice x.1.1 R.1.length x.1.2,iv R.2]) (fun x=>[]) (fun x=>[sl cU8 x.1.1 R.1]):=by
 refine zco Tryz.func21 [(0,ag (A2 a))] fun X hX hr hD=>?_
 replace hR:=(A6p.eq_1 ..).symm.trans hR
 refine sr 3 rfl (O2 3 0 [] (fun b1=>[(1,pt b1 0)]) (fun b1=>[bx b1 (A2 a) 26]) (fun b1=>?_))
 refine ie (A9 (sr 3 rfl (zrl 1 2 [0] [(4,ag (A2 a))] ?_)))
 refine zca (A4n a _ rfl) A1.nil ?_
 refine ip' 1 0 [(6,bv (!(F1 a)))] ?_
 refine ie ?_
 refine zjb rfl hR ?_ ?_<;>clear hR<;>intro hR h2
 ·refine sr 2 rfl (ip' 2 0 [(2,.slice none 0 0),(3,iv 200)] ?_)
  subst hR
  refine ie (A5 ?_)
  exact zer hr hD (A5m rfl (B8 rfl) (B8 rfl)) (zq none 0) (mk [false] rfl) (A1.con1 A1q A1.nil)
 have hra:F1 a=true:=by simpa using h2
 refine A6 (nx (sr 5 rfl (zrl 1 4 [0] [(7,ag (A2 a))] ?_)))
 have hQ:=C3 hR;clear hR;obtain ⟨y34,hy34,hR⟩:=hQ
 refine zca (C9p a (by first|assumption|exact G7 (by assumption)|exact G7 (h10 (by omega)).1) (by first|omega|exact (h10 (by omega)).2) y34 hy34) A1.nil ?_
 have:=C5l a (by first|assumption|exact G7 (by assumption)|exact G7 (h10 (by omega)).1);try rw [hy34] at this
 refine it rfl (D9t (s:=y34) Tryz.underlying9 Tryz.underlying30 Tryz.underlying5 rfl rfl) fun ⟨⟨b3,k4⟩,hk5⟩=>?_
 refine ip' 2 0 [(2,.slice (some ⟨b3,0,none⟩) y34.length k4),(3,iv 0)] ?_
 subst hR
 refine ie (A5 ?_)
 exact zer hr hD (A5m rfl (B8 rfl) (B8 rfl)) (zq (some ⟨b3,0,none⟩) k4) (mk [false] rfl) (A1.con1 (B1 0 rfl) A1.nil)
end Go.Proofs.YtanighkpfmgnbaaGreatDoor
