import Derived.Test.YtanighkpfmgnbaaGreatDoorProg
import Derived.Test.YtanighkpfmgnbaaGreatDoorMA2
import Derived.Test.YtanighkpfmgnbaaGreatDoorMB1
import Derived.Test.YtanighkpfmgnbaaGreatDoorMA3
import Derived.Test.YtanighkpfmgnbaaGreatDoorMB2
import Derived.Test.YtanighkpfmgnbaaGreatDoorMB3
import Derived.Test.YtanighkpfmgnbaaGreatDoorMQ1
import Derived.Test.YtanighkpfmgnbaaGreatDoorMQ2
import Derived.Test.YtanighkpfmgnbaaGreatDoorMNQ
set_option linter.unusedVariables false
set_option linter.unusedSimpArgs false
set_option linter.unnecessarySimpa false
namespace Go.Proofs.YtanighkpfmgnbaaGreatDoor
open Go Go.Fen
def k6 (a:Act):Prop:=(a.kind=3∨a.kind=5∨a.kind=6∨a.kind=19∨a.kind=20∨a.kind=22)∧(0≤a.n∧a.n≤1000)∧(0≤a.m∧a.m≤1000)∧(a.kind=20→a.n≤3)
theorem A7v {l:List Act} (h:∀ a ∈ l,k6 a) {i:Nat} (hi:i<l.length):k6 (l.getD i Act.zero):=by
 rw [List.getD_eq_getElem?_getD,List.getElem?_eq_getElem hi];exact h _ (List.getElem_mem hi)
theorem D9m {L:List (List Act)} (h:∀ e ∈ L,∀ a ∈ e,k6 a) (i:Nat):∀ a ∈ L.getD i [],k6 a:=by
 rw [List.getD_eq_getElem?_getD]
 cases h3:L[i]? with
 | none=>exact fun a ha=>by cases ha
 | some y=>exact h y (List.mem_of_getElem? h3)
def A6f (n:Int) (from_:Int) (to_:Int):Bool :=
 ((decide (from_≤n))&&(decide (n≤to_)))
set_option maxRecDepth 100000 in
theorem C1m (n:Int) (from_:Int) (to_:Int) (R:Bool) (hR:A6f n from_ to_=R):K5 Tryz.prog 136 [iv n,iv from_,iv to_] [] (bv R):=by
 refine zco Tryz.func136 [(0,iv n),(1,iv from_),(2,iv to_)] fun X hX hr hD=>?_
 replace hR:=(A6f.eq_1 ..).symm.trans hR
 refine sr 1 rfl (ip' 1 0 [] ?_)
 refine ie (sr 9 rfl (ip' 4 5 [(10,bv (decide (from_≤n)))] ?_))
 refine zid 4 1 10 14 (decide (n≤to_)) (fun g1 g1p=>?_) ?_
 ·refine ip' 4 0 [(14,bv (decide (n≤to_)))] ?_
  exact A6 (Q2 2 10 14 g1 A0.nil (mk [] rfl) rfl rfl rfl rfl rfl)
 refine ip' 1 0 [(6,bv ((decide (from_≤n))&&(decide (n≤to_))))] ?_
 subst hR
 refine ie (B0 ?_)
 exact F8 hr hD
def M8 (n:Int):Bool :=
 (A6f n 1 9999)
set_option maxRecDepth 100000 in
theorem A6w (n:Int) (R:Bool) (hR:M8 n=R):K5 Tryz.prog 137 [iv n] [] (bv R):=by
 refine zco Tryz.func137 [(0,iv n)] fun X hX hr hD=>?_
 replace hR:=(M8.eq_1 ..).symm.trans hR
 refine sr 1 rfl (ip' 1 0 [] ?_)
 refine ie (sr 3 rfl (ip' 1 2 [(3,iv n)] ?_))
 refine zca (C1m n 1 9999 _ rfl) A0.nil ?_
 refine ip' 1 0 [(2,bv (A6f n 1 9999))] ?_
 subst hR
 refine ie (B0 ?_)
 exact F8 hr hD
def A0p (a:Act):Bool :=
 (bif (decide (a.kind=3)) then ((decide (a.n=0))&&(decide (a.m=0))) else (bif (decide (a.kind=5)) then ((decide (a.n=0))&&(decide (a.m=0))) else (bif (decide (a.kind=6)) then ((decide (a.n=0))&&(decide (a.m=0))) else (bif (decide (a.kind=19)) then ((M8 a.n)&&(M8 a.m)) else (bif (decide (a.kind=20)) then ((A6f a.n 0 3)&&(M8 a.m)) else ((M8 a.n)&&(decide (a.m=0))))))))
set_option maxRecDepth 100000 in
theorem C0u (a:Act) (ha:(a.kind=3∨a.kind=5∨a.kind=6∨a.kind=19∨a.kind=20∨a.kind=22)∧(0≤a.n∧a.n≤1000)∧(0≤a.m∧a.m≤1000)∧(a.kind=20→a.n≤3)) (R:Bool) (hR:A0p a=R):K5 Tryz.prog 92 [ag (A5 a)] [] (bv R):=by
 refine zco Tryz.func92 [(0,ag (A5 a))] fun X hX hr hD=>?_
 replace hR:=(A0p.eq_1 ..).symm.trans hR
 refine sr 2 rfl (P1 2 0 [] (fun b1=>[(1,pt b1 0)]) (fun b1=>[bx b1 (A5 a) 26]) (fun b1=>?_))
 refine ie (A7 (sr 2 rfl (zrl 2 0 [0] [(4,iv a.kind)] ?_)))
 refine ie (B2 (sr 2 rfl (ip' 2 0 [(5,bv (decide (a.kind=1)))] ?_)))
 refine ie (I9 rfl (fun h2=>?_) (fun h2=>?_))
 ·have h2p:a.kind=1:=by simpa using h2
  exfalso;omega
 have h2p:¬ (a.kind=1):=by simpa using h2
 refine A7 (sr 2 rfl (ip' 2 0 [(16,bv (decide (a.kind=2)))] ?_))
 refine ie (I9 rfl (fun h3=>?_) (fun h3=>?_))
 ·have h3p:a.kind=2:=by simpa using h3
  exfalso;omega
 have h3p:¬ (a.kind=2):=by simpa using h3
 refine sr 2 rfl (ip' 2 0 [(16,bv (decide (a.kind=3)))] ?_)
 refine ie (I9 rfl (fun h4=>?_) (fun h4=>?_))
 ·have h4p:a.kind=3:=by simpa using h4
  replace hR:=bt hR h4
  refine A9 (nx (I9 rfl (fun h5=>?_) (fun h5=>?_)))
  ·have h5p:a.kind=3:=by simpa using h5
   refine sr 9 rfl (zrl 4 5 [0] [(33,bv (decide (a.n=0)))] ?_)
   refine zid 4 1 33 37 (decide (a.m=0)) (fun g6 g6p=>?_) ?_
   ·refine zrl 4 0 [0] [(37,bv (decide (a.m=0)))] ?_
    exact A6 (Q2 2 33 37 g6 A0.nil (mk [true] rfl) rfl rfl rfl rfl rfl)
   refine ip' 1 0 [(2,bv ((decide (a.n=0))&&(decide (a.m=0))))] ?_
   subst hR
   refine ie (B0 ?_)
   exact F8 hr hD
  have h5p:¬ (a.kind=3):=by simpa using h5
  exfalso;omega
 have h4p:¬ (a.kind=3):=by simpa using h4
 replace hR:=bf hR h4
 refine sr 2 rfl (ip' 2 0 [(16,bv (decide (a.kind=4)))] ?_)
 refine ie (I9 rfl (fun h7=>?_) (fun h7=>?_))
 ·have h7p:a.kind=4:=by simpa using h7
  exfalso;omega
 have h7p:¬ (a.kind=4):=by simpa using h7
 refine sr 2 rfl (ip' 2 0 [(16,bv (decide (a.kind=5)))] ?_)
 refine ie (I9 rfl (fun h8=>?_) (fun h8=>?_))
 ·have h8p:a.kind=5:=by simpa using h8
  replace hR:=bt hR h8
  refine A9 (nx (I9 rfl (fun h9=>?_) (fun h9=>?_)))
  ·have h9p:a.kind=5:=by simpa using h9
   refine sr 9 rfl (zrl 4 5 [0] [(33,bv (decide (a.n=0)))] ?_)
   refine zid 4 1 33 37 (decide (a.m=0)) (fun g10 g10p=>?_) ?_
   ·refine zrl 4 0 [0] [(37,bv (decide (a.m=0)))] ?_
    exact A6 (Q2 2 33 37 g10 A0.nil (mk [true] rfl) rfl rfl rfl rfl rfl)
   refine ip' 1 0 [(2,bv ((decide (a.n=0))&&(decide (a.m=0))))] ?_
   subst hR
   refine ie (B0 ?_)
   exact F8 hr hD
  have h9p:¬ (a.kind=5):=by simpa using h9
  exfalso;omega
 have h8p:¬ (a.kind=5):=by simpa using h8
 replace hR:=bf hR h8
 refine sr 2 rfl (ip' 2 0 [(16,bv (decide (a.kind=6)))] ?_)
 refine ie (I9 rfl (fun h11=>?_) (fun h11=>?_))
 ·have h11p:a.kind=6:=by simpa using h11
  replace hR:=bt hR h11
  refine A9 (nx (I9 rfl (fun h12=>?_) (fun h12=>?_)))
  ·have h12p:a.kind=6:=by simpa using h12
   refine sr 9 rfl (zrl 4 5 [0] [(33,bv (decide (a.n=0)))] ?_)
   refine zid 4 1 33 37 (decide (a.m=0)) (fun g13 g13p=>?_) ?_
   ·refine zrl 4 0 [0] [(37,bv (decide (a.m=0)))] ?_
    exact A6 (Q2 2 33 37 g13 A0.nil (mk [true] rfl) rfl rfl rfl rfl rfl)
   refine ip' 1 0 [(2,bv ((decide (a.n=0))&&(decide (a.m=0))))] ?_
   subst hR
   refine ie (B0 ?_)
   exact F8 hr hD
  have h12p:¬ (a.kind=6):=by simpa using h12
  exfalso;omega
 have h11p:¬ (a.kind=6):=by simpa using h11
 replace hR:=bf hR h11
 refine sr 2 rfl (ip' 2 0 [(16,bv (decide (a.kind=8)))] ?_)
 refine ie (I9 rfl (fun h14=>?_) (fun h14=>?_))
 ·have h14p:a.kind=8:=by simpa using h14
  exfalso;omega
 have h14p:¬ (a.kind=8):=by simpa using h14
 refine sr 2 rfl (ip' 2 0 [(16,bv (decide (a.kind=9)))] ?_)
 refine ie (I9 rfl (fun h15=>?_) (fun h15=>?_))
 ·have h15p:a.kind=9:=by simpa using h15
  exfalso;omega
 have h15p:¬ (a.kind=9):=by simpa using h15
 refine sr 2 rfl (ip' 2 0 [(16,bv (decide (a.kind=10)))] ?_)
 refine ie (I9 rfl (fun h16=>?_) (fun h16=>?_))
 ·have h16p:a.kind=10:=by simpa using h16
  exfalso;omega
 have h16p:¬ (a.kind=10):=by simpa using h16
 refine sr 2 rfl (ip' 2 0 [(16,bv (decide (a.kind=11)))] ?_)
 refine ie (I9 rfl (fun h17=>?_) (fun h17=>?_))
 ·have h17p:a.kind=11:=by simpa using h17
  exfalso;omega
 have h17p:¬ (a.kind=11):=by simpa using h17
 refine sr 2 rfl (ip' 2 0 [(16,bv (decide (a.kind=12)))] ?_)
 refine ie (I9 rfl (fun h18=>?_) (fun h18=>?_))
 ·have h18p:a.kind=12:=by simpa using h18
  exfalso;omega
 have h18p:¬ (a.kind=12):=by simpa using h18
 refine sr 2 rfl (ip' 2 0 [(16,bv (decide (a.kind=13)))] ?_)
 refine ie (I9 rfl (fun h19=>?_) (fun h19=>?_))
 ·have h19p:a.kind=13:=by simpa using h19
  exfalso;omega
 have h19p:¬ (a.kind=13):=by simpa using h19
 refine sr 2 rfl (ip' 2 0 [(16,bv (decide (a.kind=15)))] ?_)
 refine ie (I9 rfl (fun h20=>?_) (fun h20=>?_))
 ·have h20p:a.kind=15:=by simpa using h20
  exfalso;omega
 have h20p:¬ (a.kind=15):=by simpa using h20
 refine A3 2 rfl (ip' 2 0 [(16,bv (decide (a.kind=16)))] ?_)
 refine A6 (nx (I9 rfl (fun h21=>?_) (fun h21=>?_)))
 ·have h21p:a.kind=16:=by simpa using h21
  exfalso;omega
 have h21p:¬ (a.kind=16):=by simpa using h21
 refine A7 (sr 2 rfl (ip' 2 0 [(38,bv (decide (a.kind=7)))] ?_))
 refine ie (I9 rfl (fun h22=>?_) (fun h22=>?_))
 ·have h22p:a.kind=7:=by simpa using h22
  exfalso;omega
 have h22p:¬ (a.kind=7):=by simpa using h22
 refine sr 2 rfl (ip' 2 0 [(38,bv (decide (a.kind=14)))] ?_)
 refine ie (I9 rfl (fun h23=>?_) (fun h23=>?_))
 ·have h23p:a.kind=14:=by simpa using h23
  exfalso;omega
 have h23p:¬ (a.kind=14):=by simpa using h23
 refine A3 2 rfl (ip' 2 0 [(38,bv (decide (a.kind=42)))] ?_)
 refine A6 (nx (I9 rfl (fun h24=>?_) (fun h24=>?_)))
 ·have h24p:a.kind=42:=by simpa using h24
  exfalso;omega
 have h24p:¬ (a.kind=42):=by simpa using h24
 refine sr 2 rfl (ip' 2 0 [(50,bv (decide (a.kind=17)))] ?_)
 refine ie (I9 rfl (fun h25=>?_) (fun h25=>?_))
 ·have h25p:a.kind=17:=by simpa using h25
  exfalso;omega
 have h25p:¬ (a.kind=17):=by simpa using h25
 refine sr 2 rfl (ip' 2 0 [(60,bv (decide (a.kind=18)))] ?_)
 refine ie (I9 rfl (fun h26=>?_) (fun h26=>?_))
 ·have h26p:a.kind=18:=by simpa using h26
  exfalso;omega
 have h26p:¬ (a.kind=18):=by simpa using h26
 refine sr 2 rfl (ip' 2 0 [(70,bv (decide (a.kind=19)))] ?_)
 refine ie (I9 rfl (fun h27=>?_) (fun h27=>?_))
 ·have h27p:a.kind=19:=by simpa using h27
  replace hR:=bt hR h27
  refine sr 9 rfl (zrl 2 7 [0] [(73,iv a.n)] ?_)
  refine zca (A6w a.n _ rfl) A0.nil ?_
  refine ip' 1 5 [(75,bv (M8 a.n))] ?_
  refine zia 4 1 75 79 (M8 a.m) (fun g28=>?_) ?_
  ·refine zrl 2 2 [0] [(77,iv a.m)] ?_
   refine zca (A6w a.m _ rfl) A0.nil ?_
   refine ip' 1 0 [(79,bv (M8 a.m))] ?_
   exact A6 (Q2 4 75 79 g28 A0.nil (mk [true] rfl) rfl rfl rfl rfl rfl)
  refine ip' 1 0 [(2,bv ((M8 a.n)&&(M8 a.m)))] ?_
  subst hR
  refine ie (B0 ?_)
  exact F8 hr hD
 have h27p:¬ (a.kind=19):=by simpa using h27
 replace hR:=bf hR h27
 refine sr 2 rfl (ip' 2 0 [(80,bv (decide (a.kind=20)))] ?_)
 refine ie (I9 rfl (fun h29=>?_) (fun h29=>?_))
 ·have h29p:a.kind=20:=by simpa using h29
  replace hR:=bt hR h29
  refine sr 9 rfl (zrl 2 7 [0] [(83,iv a.n)] ?_)
  refine zca (C1m a.n 0 3 _ rfl) A0.nil ?_
  refine ip' 1 5 [(85,bv (A6f a.n 0 3))] ?_
  refine zia 4 1 85 89 (M8 a.m) (fun g30=>?_) ?_
  ·refine zrl 2 2 [0] [(87,iv a.m)] ?_
   refine zca (A6w a.m _ rfl) A0.nil ?_
   refine ip' 1 0 [(89,bv (M8 a.m))] ?_
   exact A6 (Q2 4 85 89 g30 A0.nil (mk [true] rfl) rfl rfl rfl rfl rfl)
  refine ip' 1 0 [(2,bv ((A6f a.n 0 3)&&(M8 a.m)))] ?_
  subst hR
  refine ie (B0 ?_)
  exact F8 hr hD
 have h29p:¬ (a.kind=20):=by simpa using h29
 replace hR:=bf hR h29
 refine A7 (sr 2 rfl (ip' 2 0 [(90,bv (decide (a.kind=21)))] ?_))
 refine ie (I9 rfl (fun h31=>?_) (fun h31=>?_))
 ·have h31p:a.kind=21:=by simpa using h31
  exfalso;omega
 have h31p:¬ (a.kind=21):=by simpa using h31
 refine A3 2 rfl (ip' 2 0 [(90,bv (decide (a.kind=33)))] ?_)
 refine A6 (nx (I9 rfl (fun h32=>?_) (fun h32=>?_)))
 ·have h32p:a.kind=33:=by simpa using h32
  exfalso;omega
 have h32p:¬ (a.kind=33):=by simpa using h32
 refine A7 (sr 2 rfl (ip' 2 0 [(101,bv (decide (a.kind=22)))] ?_))
 refine ie (I9 rfl (fun h33=>?_) (fun h33=>?_))
 ·have h33p:a.kind=22:=by simpa using h33
  refine A9 (nx (I9 rfl (fun h34=>?_) (fun h34=>?_)))
  ·have h34p:a.kind=22:=by simpa using h34
   refine sr 9 rfl (zrl 2 7 [0] [(113,iv a.n)] ?_)
   refine zca (A6w a.n _ rfl) A0.nil ?_
   refine ip' 1 5 [(115,bv (M8 a.n))] ?_
   refine zia 4 1 115 119 (decide (a.m=0)) (fun g35=>?_) ?_
   ·refine zrl 4 0 [0] [(119,bv (decide (a.m=0)))] ?_
    exact A6 (Q2 2 115 119 g35 A0.nil (mk [true] rfl) rfl rfl rfl rfl rfl)
   refine ip' 1 0 [(2,bv ((M8 a.n)&&(decide (a.m=0))))] ?_
   subst hR
   refine ie (B0 ?_)
   exact F8 hr hD
  have h34p:¬ (a.kind=22):=by simpa using h34
  exfalso;omega
 have h33p:¬ (a.kind=22):=by simpa using h33
 exfalso;omega
def A2n (a:Act):Bool :=
 (((A0p a)&&(decide (a.color=Col.zero)))&&(decide (a.text=([]:List UInt8))))
set_option maxRecDepth 100000 in
theorem C5h (a:Act) (ha:(a.kind=3∨a.kind=5∨a.kind=6∨a.kind=19∨a.kind=20∨a.kind=22)∧(0≤a.n∧a.n≤1000)∧(0≤a.m∧a.m≤1000)∧(a.kind=20→a.n≤3)) (R:Bool) (hR:A2n a=R):K5 Tryz.prog 41 [ag (A5 a)] [] (bv R):=by
 refine zco Tryz.func41 [(0,ag (A5 a))] fun X hX hr hD=>?_
 replace hR:=(A2n.eq_1 ..).symm.trans hR
 refine sr 2 rfl (P1 2 0 [] (fun b1=>[(1,pt b1 0)]) (fun b1=>[bx b1 (A5 a) 26]) (fun b1=>?_))
 refine ie (A7 (sr 2 rfl (zrl 2 0 [0] [(6,iv a.kind)] ?_)))
 refine ie (B2 (sr 2 rfl (ip' 2 0 [(7,bv (decide (a.kind=39)))] ?_)))
 refine ie (I9 rfl (fun h2=>?_) (fun h2=>?_))
 ·have h2p:a.kind=39:=by simpa using h2
  exfalso;omega
 have h2p:¬ (a.kind=39):=by simpa using h2
 refine A7 (sr 2 rfl (ip' 2 0 [(12,bv (decide (a.kind=44)))] ?_))
 refine ie (I9 rfl (fun h3=>?_) (fun h3=>?_))
 ·have h3p:a.kind=44:=by simpa using h3
  exfalso;omega
 have h3p:¬ (a.kind=44):=by simpa using h3
 refine sr 2 rfl (ip' 2 0 [(12,bv (decide (a.kind=45)))] ?_)
 refine ie (I9 rfl (fun h4=>?_) (fun h4=>?_))
 ·have h4p:a.kind=45:=by simpa using h4
  exfalso;omega
 have h4p:¬ (a.kind=45):=by simpa using h4
 refine A3 2 rfl (ip' 2 0 [(12,bv (decide (a.kind=46)))] ?_)
 refine A6 (nx (I9 rfl (fun h5=>?_) (fun h5=>?_)))
 ·have h5p:a.kind=46:=by simpa using h5
  exfalso;omega
 have h5p:¬ (a.kind=46):=by simpa using h5
 refine A9 (nx (sr 14 rfl (zrl 1 13 [0] [(23,ag (A5 a))] ?_)))
 refine zca (C0u a (by first|exact A7v (by assumption) (by omega)|(have q6:=A7v (by assumption) (show 0<_ by omega);exact q6)|omega) _ rfl) A0.nil ?_
 refine ip' 1 11 [(25,bv (A0p a))] ?_
 refine zia 5 6 25 30 (decide (a.color=Col.zero)) (fun g6=>?_) ?_
 ·refine zrl 3 2 [0] [(27,ag (R8 a.color)),(28,ag (R8 Col.zero))] ?_
  refine ix rfl (D6j (a:=a.color) (b:=Col.zero) B2w rfl rfl rfl) ?_
  refine ip' 1 0 [(30,bv (decide (a.color=Col.zero)))] ?_
  exact A6 (Q2 5 25 30 g6 A0.nil (mk [true] rfl) rfl rfl rfl rfl rfl)
 refine ip' 1 5 [(31,bv ((A0p a)&&(decide (a.color=Col.zero))))] ?_
 refine zia 4 1 31 35 (decide (a.text=([]:List UInt8))) (fun g7=>?_) ?_
 ·have g7p:=g7;try simp only [Bool.and_eq_true,Bool.or_eq_true,Bool.and_eq_false_iff,Bool.or_eq_false_iff,Bool.not_eq_true',Bool.not_eq_false',decide_eq_true_eq,decide_eq_false_iff_not] at g7p
  refine zrl 2 2 [0] [(33,sv a.text)] ?_
  refine ix rfl (D0i rfl rfl rfl) ?_
  refine ip' 1 0 [(35,bv (decide (a.text=([]:List UInt8))))] ?_
  exact A6 (Q2 4 31 35 g7 A0.nil (mk [true] rfl) rfl rfl rfl rfl rfl)
 refine ip' 1 0 [(2,bv (((A0p a)&&(decide (a.color=Col.zero)))&&(decide (a.text=([]:List UInt8)))))] ?_
 subst hR
 refine ie (B0 ?_)
 exact F8 hr hD
def A2p (a:Act):List UInt8 :=
 (bif (decide (a.kind=3)) then ([8]:List UInt8) else (bif (decide (a.kind=5)) then ([10]:List UInt8) else (bif (decide (a.kind=6)) then ([13]:List UInt8) else ([]:List UInt8))))
theorem B5k {a:Act} {R:List UInt8} (hR:A2p a=R) (h:(a.kind=3∨a.kind=5∨a.kind=6∨a.kind=19∨a.kind=20∨a.kind=22)∧(0≤a.n∧a.n≤1000)∧(0≤a.m∧a.m≤1000)∧(a.kind=20→a.n≤3)):R.length≤3∧(R=[]→a.kind=19∨a.kind=20∨a.kind=22):=by
 subst hR;unfold A2p
 obtain ⟨hk,-⟩:=h
 rcases hk with hk | hk | hk | hk | hk | hk<;>simp only [hk,Int.reduceEq,decide_true,decide_false,cond_true,cond_false,List.length_cons,List.length_nil,reduceCtorEq,false_implies,true_or,or_true,implies_true,and_true]<;>omega
set_option maxRecDepth 100000 in
theorem C4w (a:Act) (ha:(a.kind=3∨a.kind=5∨a.kind=6∨a.kind=19∨a.kind=20∨a.kind=22)∧(0≤a.n∧a.n≤1000)∧(0≤a.m∧a.m≤1000)∧(a.kind=20→a.n≤3)) (R:List UInt8) (hR:A2p a=R):K5 Tryz.prog 96 [ag (A5 a)] [] (sv R):=by
 refine zco Tryz.func96 [(0,ag (A5 a))] fun X hX hr hD=>?_
 replace hR:=(A2p.eq_1 ..).symm.trans hR
 refine sr 2 rfl (P1 2 0 [] (fun b1=>[(1,pt b1 0)]) (fun b1=>[bx b1 (A5 a) 26]) (fun b1=>?_))
 refine ie (A7 (sr 2 rfl (zrl 2 0 [0] [(4,iv a.kind)] ?_)))
 refine ie (B2 (sr 2 rfl (ip' 2 0 [(5,bv (decide (a.kind=2)))] ?_)))
 refine ie (I9 rfl (fun h2=>?_) (fun h2=>?_))
 ·have h2p:a.kind=2:=by simpa using h2
  exfalso;omega
 have h2p:¬ (a.kind=2):=by simpa using h2
 refine sr 2 rfl (ip' 2 0 [(7,bv (decide (a.kind=3)))] ?_)
 refine ie (I9 rfl (fun h3=>?_) (fun h3=>?_))
 ·have h3p:a.kind=3:=by simpa using h3
  replace hR:=bt hR h3
  refine sr 1 rfl (ip' 1 0 [(2,sv ([8]:List UInt8))] ?_)
  subst hR
  refine ie (B0 ?_)
  exact F8 hr hD
 have h3p:¬ (a.kind=3):=by simpa using h3
 replace hR:=bf hR h3
 refine sr 2 rfl (ip' 2 0 [(9,bv (decide (a.kind=4)))] ?_)
 refine ie (I9 rfl (fun h4=>?_) (fun h4=>?_))
 ·have h4p:a.kind=4:=by simpa using h4
  exfalso;omega
 have h4p:¬ (a.kind=4):=by simpa using h4
 refine sr 2 rfl (ip' 2 0 [(11,bv (decide (a.kind=5)))] ?_)
 refine ie (I9 rfl (fun h5=>?_) (fun h5=>?_))
 ·have h5p:a.kind=5:=by simpa using h5
  replace hR:=bt hR h5
  refine sr 1 rfl (ip' 1 0 [(2,sv ([10]:List UInt8))] ?_)
  subst hR
  refine ie (B0 ?_)
  exact F8 hr hD
 have h5p:¬ (a.kind=5):=by simpa using h5
 replace hR:=bf hR h5
 refine sr 2 rfl (ip' 2 0 [(13,bv (decide (a.kind=6)))] ?_)
 refine ie (I9 rfl (fun h6=>?_) (fun h6=>?_))
 ·have h6p:a.kind=6:=by simpa using h6
  replace hR:=bt hR h6
  refine sr 1 rfl (ip' 1 0 [(2,sv ([13]:List UInt8))] ?_)
  subst hR
  refine ie (B0 ?_)
  exact F8 hr hD
 have h6p:¬ (a.kind=6):=by simpa using h6
 replace hR:=bf hR h6
 refine sr 2 rfl (ip' 2 0 [(15,bv (decide (a.kind=7)))] ?_)
 refine ie (I9 rfl (fun h7=>?_) (fun h7=>?_))
 ·have h7p:a.kind=7:=by simpa using h7
  exfalso;omega
 have h7p:¬ (a.kind=7):=by simpa using h7
 refine sr 2 rfl (ip' 2 0 [(20,bv (decide (a.kind=8)))] ?_)
 refine ie (I9 rfl (fun h8=>?_) (fun h8=>?_))
 ·have h8p:a.kind=8:=by simpa using h8
  exfalso;omega
 have h8p:¬ (a.kind=8):=by simpa using h8
 refine sr 2 rfl (ip' 2 0 [(22,bv (decide (a.kind=9)))] ?_)
 refine ie (I9 rfl (fun h9=>?_) (fun h9=>?_))
 ·have h9p:a.kind=9:=by simpa using h9
  exfalso;omega
 have h9p:¬ (a.kind=9):=by simpa using h9
 refine sr 2 rfl (ip' 2 0 [(24,bv (decide (a.kind=10)))] ?_)
 refine ie (I9 rfl (fun h10=>?_) (fun h10=>?_))
 ·have h10p:a.kind=10:=by simpa using h10
  exfalso;omega
 have h10p:¬ (a.kind=10):=by simpa using h10
 refine sr 2 rfl (ip' 2 0 [(26,bv (decide (a.kind=11)))] ?_)
 refine ie (I9 rfl (fun h11=>?_) (fun h11=>?_))
 ·have h11p:a.kind=11:=by simpa using h11
  exfalso;omega
 have h11p:¬ (a.kind=11):=by simpa using h11
 refine sr 2 rfl (ip' 2 0 [(28,bv (decide (a.kind=12)))] ?_)
 refine ie (I9 rfl (fun h12=>?_) (fun h12=>?_))
 ·have h12p:a.kind=12:=by simpa using h12
  exfalso;omega
 have h12p:¬ (a.kind=12):=by simpa using h12
 refine sr 2 rfl (ip' 2 0 [(30,bv (decide (a.kind=13)))] ?_)
 refine ie (I9 rfl (fun h13=>?_) (fun h13=>?_))
 ·have h13p:a.kind=13:=by simpa using h13
  exfalso;omega
 have h13p:¬ (a.kind=13):=by simpa using h13
 refine sr 2 rfl (ip' 2 0 [(32,bv (decide (a.kind=15)))] ?_)
 refine ie (I9 rfl (fun h14=>?_) (fun h14=>?_))
 ·have h14p:a.kind=15:=by simpa using h14
  exfalso;omega
 have h14p:¬ (a.kind=15):=by simpa using h14
 refine sr 2 rfl (ip' 2 0 [(34,bv (decide (a.kind=14)))] ?_)
 refine ie (I9 rfl (fun h15=>?_) (fun h15=>?_))
 ·have h15p:a.kind=14:=by simpa using h15
  exfalso;omega
 have h15p:¬ (a.kind=14):=by simpa using h15
 refine sr 2 rfl (ip' 2 0 [(40,bv (decide (a.kind=16)))] ?_)
 refine ie (I9 rfl (fun h16=>?_) (fun h16=>?_))
 ·have h16p:a.kind=16:=by simpa using h16
  exfalso;omega
 have h16p:¬ (a.kind=16):=by simpa using h16
 refine sr 2 rfl (ip' 2 0 [(42,bv (decide (a.kind=17)))] ?_)
 refine ie (I9 rfl (fun h17=>?_) (fun h17=>?_))
 ·have h17p:a.kind=17:=by simpa using h17
  exfalso;omega
 have h17p:¬ (a.kind=17):=by simpa using h17
 refine sr 2 rfl (ip' 2 0 [(52,bv (decide (a.kind=18)))] ?_)
 refine ie (I9 rfl (fun h18=>?_) (fun h18=>?_))
 ·have h18p:a.kind=18:=by simpa using h18
  exfalso;omega
 have h18p:¬ (a.kind=18):=by simpa using h18
 refine A9 (nx (sr 1 rfl (ip' 1 0 [(2,sv ([]:List UInt8))] ?_)))
 subst hR
 refine ie (B0 ?_)
 exact F8 hr hD
def M4:Nat→Int→List UInt8
 | 0,_=>[]
 | fu+1,n=>(bif (decide (n<10)) then ([(by8 (IntKind.u8.wrap (IntKind.i64.wrap ((48:Int)+n))))]:List UInt8) else ((M4 fu (n / 10))++(M4 fu (n % 10))))
theorem V3:∀ (fu:Nat) (n:Int),(M4 fu n).length≤n.toNat+1
 | 0,n=>by simp [M4]
 | fu+1,n=>by
  simp only [M4]
  cases h:decide (n<10) with
  | true=>simp
  | false =>
   have hn:¬ n<10:=of_decide_eq_false h
   have h1:=V3 fu (n / 10)
   have h2:=V3 fu (n % 10)
   simp only [cond_false,List.length_append]
   omega
set_option maxRecDepth 100000 in
theorem B4e:∀ (fu:Nat) (n:Int) (hn:n≤9223372036854775807) (hmu:n.toNat<fu) (R:List UInt8) (hR:M4 fu n=R),K5 Tryz.prog 133 [iv n] [] (sv R):=by
 intro fu
 induction fu with
 | zero=>intros;omega
 | succ fu ih =>
  intro n hn hmu R hR
  refine zco Tryz.func133 [(0,iv n)] fun X hX hr hD=>?_
  replace hR:=(M4.eq_2 ..).symm.trans hR
  refine sr 1 rfl (ip' 1 0 [] ?_)
  refine ie (A7 (sr 2 rfl (ip' 2 0 [(4,bv (decide (n<10)))] ?_)))
  refine ie ?_
  refine zjd rfl hR ?_ ?_<;>clear hR<;>intro hR h1 h1p
  ·refine sr 6 rfl (ip' 1 5 [(5,iv n)] ?_)
   refine ix rfl (J0.pure rfl) ?_
   refine ix rfl (I5 (v:=.int .u8 (IntKind.u8.wrap (IntKind.i64.wrap ((48:Int)+n)))) (J0.pure rfl) (B3z)) ?_
   refine it rfl (B3 (c:=cU8) (xs:=([(by8 (IntKind.u8.wrap (IntKind.i64.wrap ((48:Int)+n))))]:List UInt8)) A8f rfl rfl rfl (by kernel_rfl)) fun b2=>?_
   have:([(by8 (IntKind.u8.wrap (IntKind.i64.wrap ((48:Int)+n))))]:List UInt8).length=1:=rfl
   refine ix rfl (B6b Tryz.underlying9 Tryz.underlying30 rfl rfl (A1 0 rfl) rfl (by kernel_rfl)) ?_
   have:([(by8 (IntKind.u8.wrap (IntKind.i64.wrap ((48:Int)+n))))]:List UInt8).length=1:=rfl
   refine ip' 1 0 [(2,sv ([(by8 (IntKind.u8.wrap (IntKind.i64.wrap ((48:Int)+n))))]:List UInt8))] ?_
   subst hR
   refine ie (B0 ?_)
   exact F8 hr hD
  refine A9 (nx (sr 8 rfl (ip' 1 7 [(10,iv n)] ?_)))
  refine ix rfl (D9i (c:=(n / 10)) rfl rfl rfl (by decide) (by first|exact ⟨⟨by omega,by show _≤(9223372036854775807:Int);omega⟩,rfl⟩|exact ⟨by omega,rfl⟩)) ?_
  refine zca (ih (n / 10) (by first|omega|(simp only [List.length_append,List.length_cons,List.length_nil,List.length_take,List.length_drop,List.length_set];omega)) (by omega) _ rfl) A0.nil ?_
  have:=V3 fu (n / 10)
  refine ip' 1 4 [(13,iv n)] ?_
  refine ix rfl (D8w (c:=(n % 10)) rfl rfl rfl (by decide) (by first|exact ⟨⟨by omega,by show _≤(9223372036854775807:Int);omega⟩,rfl⟩|exact ⟨by omega,rfl⟩)) ?_
  refine zca (ih (n % 10) (by first|omega|(simp only [List.length_append,List.length_cons,List.length_nil,List.length_take,List.length_drop,List.length_set];omega)) (by omega) _ rfl) A0.nil ?_
  have:=V3 fu (n % 10)
  refine ix rfl (zst rfl rfl rfl) ?_
  have:=@List.length_append _ (M4 fu (n / 10)) (M4 fu (n % 10))
  refine ip' 1 0 [(2,sv ((M4 fu (n / 10))++(M4 fu (n % 10))))] ?_
  subst hR
  refine ie (B0 ?_)
  exact F8 hr hD
def X6 (n:Int) (none_:Int):List UInt8 :=
 (bif (decide (n=none_)) then ([]:List UInt8) else (M4 (n.toNat+1) n))
theorem S9 (n k:Int) (h:n≤9999):(X6 n k).length≤10000:=by
 have:=V3 (n.toNat+1) n
 unfold X6;simp only [Bool.cond_eq_ite];split
 ·exact Nat.zero_le _
 ·omega
set_option maxRecDepth 100000 in
theorem A5h (n:Int) (none_:Int) (hn:n≤9999) (R:List UInt8) (hR:X6 n none_=R):K5 Tryz.prog 197 [iv n,iv none_] [] (sv R):=by
 refine zco Tryz.func197 [(0,iv n),(1,iv none_)] fun X hX hr hD=>?_
 replace hR:=(X6.eq_1 ..).symm.trans hR
 refine sr 1 rfl (ip' 1 0 [] ?_)
 refine ie (A7 (sr 3 rfl (ip' 3 0 [(7,bv (decide (n=none_)))] ?_)))
 refine ie ?_
 refine zjd rfl hR ?_ ?_<;>clear hR<;>intro hR h1 h1p
 ·refine sr 1 rfl (ip' 1 0 [(4,sv ([]:List UInt8))] ?_)
  subst hR
  refine ie (B0 ?_)
  exact F8 hr hD
 refine A9 (nx (sr 3 rfl (ip' 1 2 [(8,iv n)] ?_)))
 refine zca (B4e (n.toNat+1) n (by first|omega|(simp only [List.length_append,List.length_cons,List.length_nil,List.length_take,List.length_drop,List.length_set];omega)) (Nat.lt_succ_self _) _ rfl) A0.nil ?_
 have:=V3 (n.toNat+1) n
 refine ip' 1 0 [(4,sv (M4 (n.toNat+1) n))] ?_
 subst hR
 refine ie (B0 ?_)
 exact F8 hr hD
def A5t (n:Int) (m:Int) (none_:Int):List UInt8 :=
 (bif (decide (m=none_)) then (B5 (X6 n none_) fun (rref11said:List UInt8)=>rref11said) else (B5 (X6 n none_) fun (rref11said1:List UInt8)=>(B5 (X6 m none_) fun (rref11said2:List UInt8)=>((rref11said1++([59]:List UInt8))++rref11said2))))
theorem B4u (n m k:Int) (h:n≤9999∧m≤9999):(A5t n m k).length≤20001:=by
 have h1:=S9 n k h.1
 have h2:=S9 m k h.2
 unfold A5t B5;simp only [Bool.cond_eq_ite];split
 ·omega
 ·simp only [List.length_append,List.length_cons,List.length_nil];omega
set_option maxRecDepth 100000 in
theorem C8p (n:Int) (m:Int) (none_:Int) (hn:n≤9999∧m≤9999) (R:List UInt8) (hR:A5t n m none_=R):K5 Tryz.prog 143 [iv n,iv m,iv none_] [] (sv R):=by
 refine zco Tryz.func143 [(0,iv n),(1,iv m),(2,iv none_)] fun X hX hr hD=>?_
 replace hR:=(A5t.eq_1 ..).symm.trans hR
 refine sr 1 rfl (ip' 1 0 [] ?_)
 refine ie (A7 (sr 3 rfl (ip' 3 0 [(9,bv (decide (m=none_)))] ?_)))
 refine ie ?_
 refine zjd rfl hR ?_ ?_<;>clear hR<;>intro hR h1 h1p
 ·refine sr 4 rfl (ip' 2 2 [(10,iv n),(11,iv none_)] ?_)
  have hQ:=C9 hR;clear hR;obtain ⟨rref11said,hrref11said,hR⟩:=hQ
  refine zca (A5h n none_ (by omega) rref11said hrref11said) A0.nil ?_
  have:=S9 n none_ (by omega);try rw [hrref11said] at this
  refine ip' 1 0 [(6,sv rref11said)] ?_
  subst hR
  refine ie (B0 ?_)
  exact F8 hr hD
 refine A9 (nx (sr 9 rfl (ip' 2 7 [(13,iv n),(14,iv none_)] ?_)))
 have hQ:=C9 hR;clear hR;obtain ⟨rref11said1,hrref11said1,hR⟩:=hQ
 refine zca (A5h n none_ (by omega) rref11said1 hrref11said1) A0.nil ?_
 have:=S9 n none_ (by omega);try rw [hrref11said1] at this
 refine ix rfl (zst rfl rfl rfl) ?_
 refine ip' 2 3 [(17,iv m),(18,iv none_)] ?_
 have hQ:=C9 hR;clear hR;obtain ⟨rref11said2,hrref11said2,hR⟩:=hQ
 refine zca (A5h m none_ (by omega) rref11said2 hrref11said2) A0.nil ?_
 have:=S9 m none_ (by omega);try rw [hrref11said2] at this
 refine ix rfl (zst rfl rfl rfl) ?_
 refine ip' 1 0 [(6,sv ((rref11said1++([59]:List UInt8))++rref11said2))] ?_
 subst hR
 refine ie (B0 ?_)
 exact F8 hr hD
def A3v (s:List UInt8) (n:Int):List UInt8 :=
 ((s.drop ((n).toNat)).take (((n).toNat+1) - ((n).toNat)))
theorem A5o (s:List UInt8) (n:Int) (h:0≤n):(A3v s n).length≤1:=by
 unfold A3v;simp only [List.length_take,List.length_drop];omega
set_option maxRecDepth 100000 in
theorem B7c (s:List UInt8) (n:Int) (hn:0≤n∧n<(s.length:Int)) (hs:s.length≤1000) (R:List UInt8) (hR:A3v s n=R):K5 Tryz.prog 142 [sv s,iv n] [] (sv R):=by
 refine zco Tryz.func142 [(0,sv s),(1,iv n)] fun X hX hr hD=>?_
 replace hR:=(A3v.eq_1 ..).symm.trans hR
 refine sr 1 rfl (ip' 1 0 [] ?_)
 refine ie (sr 6 rfl (ip' 3 3 [(5,sv s),(6,iv n),(7,iv n)] ?_))
 refine ix rfl (B6 rfl rfl rfl rfl (by omega)) ?_
 refine ix rfl (C5a (T:=9) Tryz.underlying9 rfl rfl rfl rfl ((n).toNat) (by omega) ((n).toNat+1) (by omega) (by omega) (by omega)) ?_
 have:=@List.length_drop _ ((n).toNat) s
 have:=@List.length_take _ (((n).toNat+1) - ((n).toNat)) (s.drop ((n).toNat))
 refine ip' 1 0 [(4,sv ((s.drop ((n).toNat)).take (((n).toNat+1) - ((n).toNat))))] ?_
 subst hR
 refine ie (B0 ?_)
 exact F8 hr hD
def R1 (a:Act):Nat→Nat→List UInt8
 | 0,_=>[]
 | fu1+1,i=>(bif (decide ((i:Int)<10)) then (bif (decide (a.kind=(([22,23,24,25,28,29,30,31,32,34]:List Int).getD i 0))) then (B5 (X6 a.n 1) fun (rref11said1:List UInt8)=>(B5 (A3v ([71,100,73,90,64,80,88,76,77,98]:List UInt8) (i:Int)) fun (rref11sign1:List UInt8)=>(rref11said1++rref11sign1))) else R1 a fu1 (i+1)) else ([]:List UInt8))
def A1y (a:Act):List UInt8 :=
 (bif (decide (a.kind=20)) then (B5 (X6 a.m 1) fun (rref11said:List UInt8)=>(B5 (A3v ([65,66,67,68]:List UInt8) a.n) fun (rref11sign:List UInt8)=>(rref11said++rref11sign))) else R1 a ((10 - 0)+1) 0)
theorem A7d (a:Act) (hn:a.n≤1000):∀ (fu i:Nat),(R1 a fu i).length≤10010
 | 0,i=>Nat.zero_le _
 | fu+1,i=>by
  have ih:=A7d a hn fu (i+1)
  have h1:=S9 a.n 1 (by omega)
  have h2:=A5o [71,100,73,90,64,80,88,76,77,98] i (by omega)
  rw [R1];simp only [B5,Bool.cond_eq_ite]
  repeat' split
  all_goals first|omega|(simp only [List.length_append,List.length_cons,List.length_nil];omega)
theorem A9w {a:Act} (h:(a.kind=19∨a.kind=20∨a.kind=22)∧(0≤a.n∧a.n≤1000)∧(0≤a.m∧a.m≤1000)∧(a.kind=20→a.n≤3)):(A1y a).length≤10010:=by
 have h2:=S9 a.m 1 (by omega)
 have q1:=A5o [65,66,67,68] a.n (by omega)
 have hl:=A7d a (by omega) ((10 - 0)+1) 0
 unfold A1y;simp only [B5,Bool.cond_eq_ite]
 repeat' split
 all_goals first|omega|(simp only [List.length_append,List.length_cons,List.length_nil];omega)
set_option maxRecDepth 100000 in
theorem C0i (a:Act) (ha:(a.kind=19∨a.kind=20∨a.kind=22)∧(0≤a.n∧a.n≤1000)∧(0≤a.m∧a.m≤1000)∧(a.kind=20→a.n≤3)) (R:List UInt8) (hR:A1y a=R):K5 Tryz.prog 144 [ag (A5 a)] [] (sv R):=by
 refine zco Tryz.func144 [(0,ag (A5 a))] fun X hX hr hD=>?_
 replace hR:=(A1y.eq_1 ..).symm.trans hR
 refine sr 2 rfl (P1 2 0 [] (fun b1=>[(1,pt b1 0)]) (fun b1=>[bx b1 (A5 a) 26]) (fun b1=>?_))
 refine ie (A7 (sr 2 rfl (zrl 2 0 [0] [(6,iv a.kind)] ?_)))
 refine ie (B2 (sr 2 rfl (ip' 2 0 [(7,bv (decide (a.kind=20)))] ?_)))
 refine ie (I9 rfl (fun h2=>?_) (fun h2=>?_))
 ·have h2p:a.kind=20:=by simpa using h2
  replace hR:=bt hR h2
  refine sd 8 rfl (by kernel_rfl) rfl ?_
  refine zdg 2 6 [0] [(10,iv a.m)] ?_
  have hQ:=C9 hR;clear hR;obtain ⟨rref11said,hrref11said,hR⟩:=hQ
  refine zcd (A5h a.m 1 (by omega) rref11said hrref11said) A0.nil ?_
  have:=S9 a.m 1 (by omega);try rw [hrref11said] at this
  refine zdg 2 3 [0] [(13,iv a.n)] ?_
  have hQ:=C9 hR;clear hR;obtain ⟨rref11sign,hrref11sign,hR⟩:=hQ
  refine zcd (B7c ([65,66,67,68]:List UInt8) a.n (by first|omega|(simp only [List.length_cons,List.length_nil];omega)) (by first|omega|(simp only [List.length_cons,List.length_nil];omega)) rref11sign hrref11sign) A0.nil ?_
  have:=A5o ([65,66,67,68]:List UInt8) a.n (by omega);try rw [hrref11sign] at this
  refine dd rfl (zst rfl rfl rfl) ?_
  have:=@List.length_append _ rref11said rref11sign
  refine dp' 1 0 [(2,sv (rref11said++rref11sign))] ?_
  subst hR
  refine de (B0 ?_)
  exact F8 hr hD
 have h2p:¬ (a.kind=20):=by simpa using h2
 replace hR:=bf hR h2
 refine sr 2 rfl (ip' 2 0 [(16,bv (decide (a.kind=21)))] ?_)
 refine ie (I9 rfl (fun h3=>?_) (fun h3=>?_))
 ·have h3p:a.kind=21:=by simpa using h3
  exfalso;omega
 have h3p:¬ (a.kind=21):=by simpa using h3
 refine sr 2 rfl (ip' 2 0 [(25,bv (decide (a.kind=33)))] ?_)
 refine ie (I9 rfl (fun h4=>?_) (fun h4=>?_))
 ·have h4p:a.kind=33:=by simpa using h4
  exfalso;omega
 have h4p:¬ (a.kind=33):=by simpa using h4
 refine sr 2 rfl (ip' 2 0 [(34,bv (decide (a.kind=26)))] ?_)
 refine ie (I9 rfl (fun h5=>?_) (fun h5=>?_))
 ·have h5p:a.kind=26:=by simpa using h5
  exfalso;omega
 have h5p:¬ (a.kind=26):=by simpa using h5
 refine sr 2 rfl (ip' 2 0 [(40,bv (decide (a.kind=27)))] ?_)
 refine ie (I9 rfl (fun h6=>?_) (fun h6=>?_))
 ·have h6p:a.kind=27:=by simpa using h6
  exfalso;omega
 have h6p:¬ (a.kind=27):=by simpa using h6
 refine sr 2 rfl (ip' 2 0 [(46,bv (decide (a.kind=35)))] ?_)
 refine ie (I9 rfl (fun h7=>?_) (fun h7=>?_))
 ·have h7p:a.kind=35:=by simpa using h7
  exfalso;omega
 have h7p:¬ (a.kind=35):=by simpa using h7
 refine sr 2 rfl (ip' 2 0 [(52,bv (decide (a.kind=40)))] ?_)
 refine ie (I9 rfl (fun h8=>?_) (fun h8=>?_))
 ·have h8p:a.kind=40:=by simpa using h8
  exfalso;omega
 have h8p:¬ (a.kind=40):=by simpa using h8
 refine A9 (nx (sr 3 rfl (P1 3 0 [0] (fun b9=>[(3,pt b9 0)]) (fun b9=>[bx b9 [iv 22,iv 23,iv 24,iv 25,iv 28,iv 29,iv 30,iv 31,iv 32,iv 34] 206,bx b1 (A5 a) 26]) (fun b9=>?_))))
 refine ie (A7 (sr 1 rfl (ip' 1 0 [(4,iv 0)] ?_)))
 refine ie (B2 (E1j (fun (fu:Nat) (i:Nat)=>((10 - i)<fu∧R1 a fu i=R,[(1,pt b1 0),(3,pt b9 0),(4,iv (i:Int))],[bx b9 [iv 22,iv 23,iv 24,iv 25,iv 28,iv 29,iv 30,iv 31,iv 32,iv 34] 206,bx b1 (A5 a) 26],[],fu)) ((10 - 0)+1) 0 ⟨(Nat.lt_succ_self _),hR⟩ (mk [true,true] rfl) A0.nil ?_))
 rintro fu i ⟨hm10,hR⟩
 obtain ⟨fu1,rfl⟩:∃ m,fu=m+1:=⟨fu - 1,by omega⟩
 replace hR:=(R1.eq_2 ..).symm.trans hR
 refine A7 (sr 2 rfl (ip' 2 0 [(60,bv (decide ((i:Int)<10)))] ?_))
 refine ie (I9 rfl (fun h11=>?_) (fun h11=>?_))
 ·have h11p:(i:Int)<10:=by simpa using h11
  replace hR:=bt hR h11
  refine A9 (nx (A7 (B2 (sd 6 rfl (by kernel_rfl) rfl ?_))))
  refine zdg 3 3 [1] [(64,iv a.kind),(65,iv (i:Int))] ?_
  refine dd rfl (C1w Tryz.underlying206 ty3 rfl rfl rfl i rfl (by omega)) ?_
  refine dd rfl (C1k (u:=iv (([22,23,24,25,28,29,30,31,32,34]:List Int).getD i 0)) (c:=I8) (xs:=([22,23,24,25,28,29,30,31,32,34]:List Int)) (j:=[]) (sz:=1) ty3 (fun _=>rfl) rfl rfl 0 rfl i 0 rfl (gd 0 (by simp only [List.length_cons,List.length_nil];omega)) rfl) ?_
  refine dp' 1 0 [(68,bv (decide (a.kind=(([22,23,24,25,28,29,30,31,32,34]:List Int).getD i 0))))] ?_
  refine de (I9 rfl (fun h12=>?_) (fun h12=>?_))
  ·have h12p:a.kind=(([22,23,24,25,28,29,30,31,32,34]:List Int).getD i 0):=by simpa using h12
   replace hR:=bt hR h12
   refine sr 7 rfl (zrl 2 5 [1] [(70,iv a.n)] ?_)
   have hQ:=C9 hR;clear hR;obtain ⟨rref11said1,hrref11said1,hR⟩:=hQ
   refine zca (A5h a.n 1 (by omega) rref11said1 hrref11said1) A0.nil ?_
   have:=S9 a.n 1 (by omega);try rw [hrref11said1] at this
   refine ip' 1 3 [(72,iv (i:Int))] ?_
   have hQ:=C9 hR;clear hR;obtain ⟨rref11sign1,hrref11sign1,hR⟩:=hQ
   refine zca (B7c ([71,100,73,90,64,80,88,76,77,98]:List UInt8) (i:Int) (by first|omega|(simp only [List.length_cons,List.length_nil];omega)) (by first|omega|(simp only [List.length_cons,List.length_nil];omega)) rref11sign1 hrref11sign1) A0.nil ?_
   have:=A5o ([71,100,73,90,64,80,88,76,77,98]:List UInt8) (i:Int) (by omega);try rw [hrref11sign1] at this
   refine ix rfl (zst rfl rfl rfl) ?_
   have:=@List.length_append _ rref11said1 rref11sign1
   refine ip' 1 0 [(2,sv (rref11said1++rref11sign1))] ?_
   subst hR
   refine ie (B0 ?_)
   exact F8 hr hD
  have h12p:¬ (a.kind=(([22,23,24,25,28,29,30,31,32,34]:List Int).getD i 0)):=by simpa using h12
  replace hR:=bf hR h12
  refine A9 (nx (A3 3 rfl (ip' 1 2 [(61,iv (i:Int))] ?_)))
  refine ix rfl (B6 rfl rfl rfl rfl (by omega)) ?_
  refine ip' 1 0 [(4,iv ((i:Int)+1))] ?_
  refine A6 ?_
  exact E2r (z1:=(fu1+1)) (z2:=i) fu1 (i+1) ⟨(by omega),hR⟩ (Nat.lt_succ_self _) (mk [true,true] rfl) A0.nil
 have h11p:¬ ((i:Int)<10):=by simpa using h11
 replace hR:=bf hR h11
 refine J1 (nx (sr 1 rfl (ip' 1 0 [(2,sv ([]:List UInt8))] ?_)))
 subst hR
 refine ie (B0 ?_)
 exact F8 hr hD
def A4j (a:Act):List UInt8 :=
 (bif (decide (a.kind=19)) then (B5 (A5t a.n a.m 1) fun (rref11two:List UInt8)=>(rref11two++([72]:List UInt8))) else (B5 (A1y a) fun (rref11counted:List UInt8)=>rref11counted))
theorem B2j {a:Act} (h:(a.kind=19∨a.kind=20∨a.kind=22)∧(0≤a.n∧a.n≤1000)∧(0≤a.m∧a.m≤1000)∧(a.kind=20→a.n≤3)):(A4j a).length≤30000 - 10:=by
 have h1:=B4u a.n a.m 1 (by omega)
 have h3:=A9w h
 unfold A4j;simp only [B5,Bool.cond_eq_ite]
 repeat' split
 all_goals first|omega|(simp only [List.length_append,List.length_cons,List.length_nil]<;>omega)
set_option maxRecDepth 100000 in
theorem C4m (a:Act) (ha:(a.kind=19∨a.kind=20∨a.kind=22)∧(0≤a.n∧a.n≤1000)∧(0≤a.m∧a.m≤1000)∧(a.kind=20→a.n≤3)) (R:List UInt8) (hR:A4j a=R):K5 Tryz.prog 97 [ag (A5 a)] [] (sv R):=by
 refine zco Tryz.func97 [(0,ag (A5 a))] fun X hX hr hD=>?_
 replace hR:=(A4j.eq_1 ..).symm.trans hR
 refine sr 2 rfl (P1 2 0 [] (fun b1=>[(1,pt b1 0)]) (fun b1=>[bx b1 (A5 a) 26]) (fun b1=>?_))
 refine ie (sr 4 rfl (zrl 2 2 [0] [(5,iv a.n)] ?_))
 refine zca (B4e (a.n.toNat+1) a.n (by first|omega|(simp only [List.length_append,List.length_cons,List.length_nil,List.length_take,List.length_drop,List.length_set];omega)) (Nat.lt_succ_self _) _ rfl) A0.nil ?_
 have:=V3 (a.n.toNat+1) a.n
 refine ip' 1 0 [(3,sv (M4 (a.n.toNat+1) a.n))] ?_
 refine ie (A7 (sr 2 rfl (zrl 2 0 [0] [(8,iv a.kind)] ?_)))
 refine ie (B2 (sr 2 rfl (ip' 2 0 [(9,bv (decide (a.kind=19)))] ?_)))
 refine ie (I9 rfl (fun h2=>?_) (fun h2=>?_))
 ·have h2p:a.kind=19:=by simpa using h2
  replace hR:=bt hR h2
  refine sr 7 rfl (zrl 4 3 [0,0] [(12,iv a.n),(14,iv a.m)] ?_)
  have hQ:=C9 hR;clear hR;obtain ⟨rref11two,hrref11two,hR⟩:=hQ
  refine zca (C8p a.n a.m 1 (by omega) rref11two hrref11two) A0.nil ?_
  have:=B4u a.n a.m 1 (by omega);try rw [hrref11two] at this
  refine ix rfl (zst rfl rfl rfl) ?_
  refine ip' 1 0 [(2,sv (rref11two++([72]:List UInt8)))] ?_
  subst hR
  refine ie (B0 ?_)
  exact F8 hr hD
 have h2p:¬ (a.kind=19):=by simpa using h2
 replace hR:=bf hR h2
 refine sr 2 rfl (ip' 2 0 [(17,bv (decide (a.kind=38)))] ?_)
 refine ie (I9 rfl (fun h3=>?_) (fun h3=>?_))
 ·have h3p:a.kind=38:=by simpa using h3
  exfalso;omega
 have h3p:¬ (a.kind=38):=by simpa using h3
 refine sr 2 rfl (ip' 2 0 [(25,bv (decide (a.kind=36)))] ?_)
 refine ie (I9 rfl (fun h4=>?_) (fun h4=>?_))
 ·have h4p:a.kind=36:=by simpa using h4
  exfalso;omega
 have h4p:¬ (a.kind=36):=by simpa using h4
 refine sr 2 rfl (ip' 2 0 [(32,bv (decide (a.kind=37)))] ?_)
 refine ie (I9 rfl (fun h5=>?_) (fun h5=>?_))
 ·have h5p:a.kind=37:=by simpa using h5
  exfalso;omega
 have h5p:¬ (a.kind=37):=by simpa using h5
 refine sr 2 rfl (ip' 2 0 [(40,bv (decide (a.kind=41)))] ?_)
 refine ie (I9 rfl (fun h6=>?_) (fun h6=>?_))
 ·have h6p:a.kind=41:=by simpa using h6
  exfalso;omega
 have h6p:¬ (a.kind=41):=by simpa using h6
 refine sr 2 rfl (ip' 2 0 [(44,bv (decide (a.kind=42)))] ?_)
 refine ie (I9 rfl (fun h7=>?_) (fun h7=>?_))
 ·have h7p:a.kind=42:=by simpa using h7
  exfalso;omega
 have h7p:¬ (a.kind=42):=by simpa using h7
 refine sr 2 rfl (ip' 2 0 [(51,bv (decide (a.kind=43)))] ?_)
 refine ie (I9 rfl (fun h8=>?_) (fun h8=>?_))
 ·have h8p:a.kind=43:=by simpa using h8
  exfalso;omega
 have h8p:¬ (a.kind=43):=by simpa using h8
 refine A9 (nx (sr 3 rfl (zrl 1 2 [0] [(60,ag (A5 a))] ?_)))
 have hQ:=C9 hR;clear hR;obtain ⟨rref11counted,hrref11counted,hR⟩:=hQ
 refine zca (C0i a (by omega) rref11counted hrref11counted) A0.nil ?_
 have:=A9w (a:=a) (by omega);try rw [hrref11counted] at this
 refine ip' 1 0 [(2,sv rref11counted)] ?_
 subst hR
 refine ie (B0 ?_)
 exact F8 hr hD
def A3r (a:Act):List UInt8 :=
 (B5 (A2p a) fun (rref11short:List UInt8)=>(bif (!(decide (rref11short=([]:List UInt8)))) then rref11short else (B5 (A4j a) fun (rref11other:List UInt8)=>(([27,91]:List UInt8)++rref11other))))
theorem C5p {a:Act} (h:(a.kind=3∨a.kind=5∨a.kind=6∨a.kind=19∨a.kind=20∨a.kind=22)∧(0≤a.n∧a.n≤1000)∧(0≤a.m∧a.m≤1000)∧(a.kind=20→a.n≤3)):(A3r a).length≤30000:=by
 have s:=B5k rfl h
 unfold A3r;simp only [B5]
 by_cases hs:A2p a=[]
 ·have o:=B2j (a:=a) (by have:=s.2 hs;omega)
  rw [decide_eq_true hs];simp only [Bool.not_true,cond_false,List.length_append,List.length_cons,List.length_nil];omega
 ·rw [decide_eq_false hs];simp only [Bool.not_false,cond_true];omega
set_option maxRecDepth 100000 in
theorem C9r (a:Act) (ha:(a.kind=3∨a.kind=5∨a.kind=6∨a.kind=19∨a.kind=20∨a.kind=22)∧(0≤a.n∧a.n≤1000)∧(0≤a.m∧a.m≤1000)∧(a.kind=20→a.n≤3)) (R:List UInt8) (hR:A3r a=R):K5 Tryz.prog 43 [ag (A5 a)] [] (sv R):=by
 refine zco Tryz.func43 [(0,ag (A5 a))] fun X hX hr hD=>?_
 replace hR:=(A3r.eq_1 ..).symm.trans hR
 refine sr 2 rfl (P1 2 0 [] (fun b1=>[(1,pt b1 0)]) (fun b1=>[bx b1 (A5 a) 26]) (fun b1=>?_))
 refine ie (A7 (sr 2 rfl (zrl 2 0 [0] [(7,iv a.kind)] ?_)))
 refine ie (B2 (sr 2 rfl (ip' 2 0 [(8,bv (decide (a.kind=1)))] ?_)))
 refine ie (I9 rfl (fun h2=>?_) (fun h2=>?_))
 ·have h2p:a.kind=1:=by simpa using h2
  exfalso;omega
 have h2p:¬ (a.kind=1):=by simpa using h2
 refine A7 (sr 2 rfl (ip' 2 0 [(13,bv (decide (a.kind=44)))] ?_))
 refine ie (I9 rfl (fun h3=>?_) (fun h3=>?_))
 ·have h3p:a.kind=44:=by simpa using h3
  exfalso;omega
 have h3p:¬ (a.kind=44):=by simpa using h3
 refine sr 2 rfl (ip' 2 0 [(13,bv (decide (a.kind=45)))] ?_)
 refine ie (I9 rfl (fun h4=>?_) (fun h4=>?_))
 ·have h4p:a.kind=45:=by simpa using h4
  exfalso;omega
 have h4p:¬ (a.kind=45):=by simpa using h4
 refine A3 2 rfl (ip' 2 0 [(13,bv (decide (a.kind=46)))] ?_)
 refine A6 (nx (I9 rfl (fun h5=>?_) (fun h5=>?_)))
 ·have h5p:a.kind=46:=by simpa using h5
  exfalso;omega
 have h5p:¬ (a.kind=46):=by simpa using h5
 try (have hk3:=hso.2 (by first|exact Decidable.not_not.1 h5p|simpa using h5))
 refine sr 2 rfl (ip' 2 0 [(26,bv (decide (a.kind=39)))] ?_)
 refine ie (I9 rfl (fun h6=>?_) (fun h6=>?_))
 ·have h6p:a.kind=39:=by simpa using h6
  exfalso;omega
 have h6p:¬ (a.kind=39):=by simpa using h6
 try (have hk3:=hso.2 (by first|exact Decidable.not_not.1 h6p|simpa using h6))
 refine A9 (nx (sr 3 rfl (zrl 1 2 [0] [(31,ag (A5 a))] ?_)))
 have hQ:=C9 hR;clear hR;obtain ⟨rref11short,hrref11short,hR⟩:=hQ
 refine zca (C4w a (by first|exact A7v (by assumption) (by omega)|(have q6:=A7v (by assumption) (show 0<_ by omega);exact q6)|omega) rref11short hrref11short) A0.nil ?_
 have hso:=B5k hrref11short (by first|assumption|omega)
 have:=hso.1;try rw [hrref11short] at this
 refine ip' 1 0 [(5,sv rref11short)] ?_
 refine ie (A7 (sr 2 rfl (ip' 1 1 [(33,sv rref11short)] ?_)))
 refine ix rfl (A2f rfl rfl rfl) ?_
 refine ie (I9 rfl (fun h7=>?_) (fun h7=>?_))
 ·have h7p:¬ rref11short=([]:List UInt8):=by simpa using h7
  replace hR:=bt hR h7
  refine sr 2 rfl (ip' 2 0 [(2,sv rref11short)] ?_)
  subst hR
  refine ie (B0 ?_)
  exact F8 hr hD
 have h7p:¬ (¬ rref11short=([]:List UInt8)):=by simpa using h7
 replace hR:=bf hR h7
 try (have hk3:=hso.2 (by first|exact Decidable.not_not.1 h7p|simpa using h7))
 refine A9 (nx (sr 4 rfl (zrl 1 3 [0] [(36,ag (A5 a))] ?_)))
 have hQ:=C9 hR;clear hR;obtain ⟨rref11other,hrref11other,hR⟩:=hQ
 refine zca (C4m a (by omega) rref11other hrref11other) A0.nil ?_
 have:=B2j (a:=a) (by omega);try rw [hrref11other] at this
 refine ix rfl (zst rfl rfl rfl) ?_
 refine ip' 1 0 [(2,sv (([27,91]:List UInt8)++rref11other))] ?_
 subst hR
 refine ie (B0 ?_)
 exact F8 hr hD
def A5i (l1:List Act) (out:List UInt8) (ag_ref11_All_l4:List Act→List UInt8→(List UInt8×Int)):Nat→Nat→(List UInt8×Int)
 | 0,_=>([],0)
 | fu3+1,n=>(B5 (A3r (l1.getD 0 Act.zero)) fun (rref11one:List UInt8)=>ag_ref11_All_l4 (l1.drop 1) (out++rref11one))
def S1:Nat→List Act→List UInt8→(List UInt8×Int)
 | 0,_,_=>([],0)
 | fu1+1,l1,out=>(bif (decide ((0:Int)<(l1.length:Int))) then A5i l1 out (S1 fu1) ((16 - 0)+1) 0 else (out,0))
def A1r (l:List Act):List Act→Nat→(List UInt8×Int)
 | [],i=>S1 (l.length+1) l ([]:List UInt8)
 | hd_l0::tl_l0,i=>(bif (!(A2n hd_l0)) then (([]:List UInt8),200) else A1r l tl_l0 (i+1))
def B3d (l:List Act):List UInt8×Int :=
 (bif (decide ((131072:Int)<(l.length:Int))) then (([]:List UInt8),3) else A1r l l 0)
set_option maxRecDepth 100000 in
theorem C7u (l:List Act) (lq:Option Addr) (lk:Nat) (hll:l.length≤9223372036854775807) (hcl:l.length≤lk) (hkind:∀ a ∈ l,k6 a) (R:List UInt8×Int) (hR:B3d l=R):Con Tryz.prog 16 [.slice lq l.length lk] [] [sl A5 lq l] ({r:VR // VOk 1 R.1.length r}) (fun x=>.tuple #[.slice (va x.1.q) R.1.length x.1.k,iv R.2]) (fun x=>((vo cU8 5 x.1 R.1)++([]))) (fun x=>[]):=by
 refine zco Tryz.func16 [(0,.slice lq l.length lk)] fun X hX hr hD=>?_
 replace hR:=(B3d.eq_1 ..).symm.trans hR
 refine sr 2 rfl (ip' 2 0 [] ?_)
 refine ie (A7 (sr 3 rfl (ip' 3 0 [(9,bv (decide ((131072:Int)<(l.length:Int))))] ?_)))
 refine ie ?_
 refine zjd rfl hR ?_ ?_<;>clear hR<;>intro hR h1 h1p
 ·refine sr 2 rfl (ip' 2 0 [(2,.slice none 0 0),(3,iv 3)] ?_)
  subst hR
  refine ie (B0 ?_)
  exact zer hr hD (A4c rfl (B8 rfl) (B8 rfl)) ⟨VR.nil,VOk.nil⟩ (mc [vo cU8 5 VR.nil ([]:List UInt8)] [true] rfl (by first|rfl|(simp only [List.length_set]<;>rfl))) A0.nil
 refine A9 (nx (A7 (sr 1 rfl (ip' 1 0 [(4,iv 0)] ?_))))
 refine ie (B2 (D1m (fun (i:Nat)=>(i≤l.length∧A1r l (l.drop i) i=R,[(0,.slice lq l.length lk),(4,iv (i:Int))],[],[sl A5 lq l],l.length - i)) 0 ⟨(by omega),hR⟩ (mk [] rfl) A0.refl ?_))
 rintro i ⟨hm2,hR⟩
 refine A7 (sr 4 rfl (ip' 4 0 [(13,bv (decide ((i:Int)<(l.length:Int))))] ?_))
 refine ie (I9 rfl (fun h3=>?_) (fun h3=>?_))
 ·have h3p:(i:Int)<(l.length:Int):=by simpa using h3
  rw [A4r Act.zero (show i<l.length by omega)] at hR;replace hR:=(A1r.eq_2 ..).symm.trans hR
  refine A9 (nx (A7 (B2 (sr 6 rfl (ip' 2 4 [(16,.slice lq l.length lk),(17,iv (i:Int))] ?_)))))
  refine P3 0 rfl (by omega) fun a4 hq5=>?_
  refine ix rfl (N0 A0v rfl rfl hq5 rfl i rfl (by omega)) ?_
  refine ix rfl (P5 (us:=A5 (l.getD i Act.zero)) B4z rfl rfl (O4 (c:=A5) (sz:=6) hq5 (fun _=>rfl) 0 rfl (gd Act.zero (by omega))) rfl) ?_
  refine zca (C5h (l.getD i Act.zero) (by first|exact A7v (by assumption) (by omega)|(have q6:=A7v (by assumption) (show 0<_ by omega);exact q6)|omega) _ rfl) A0.nil ?_
  refine ip' 1 0 [(21,bv (!(A2n (l.getD i Act.zero))))] ?_
  refine ie ?_
  refine zjb rfl hR ?_ ?_<;>clear hR<;>intro hR h6
  ·refine sr 2 rfl (ip' 2 0 [(2,.slice none 0 0),(3,iv 200)] ?_)
   subst hR
   refine ie (B0 ?_)
   exact zer hr hD (A4c rfl (B8 rfl) (B8 rfl)) ⟨VR.nil,VOk.nil⟩ (mc [vo cU8 5 VR.nil ([]:List UInt8)] [true] rfl (by first|rfl|(simp only [List.length_set]<;>rfl))) A0.nil
  refine A9 (nx (A3 3 rfl (ip' 1 2 [(14,iv (i:Int))] ?_)))
  refine ix rfl (B6 rfl rfl rfl rfl (by omega)) ?_
  refine ip' 1 0 [(4,iv ((i:Int)+1))] ?_
  refine A6 ?_
  exact D0x (z1:=i) (i+1) ⟨(by omega),hR⟩ (by (try dsimp only);omega) (mk [] rfl) A0.refl
 have h3p:¬ ((i:Int)<(l.length:Int)):=by simpa using h3
 rw [A4s h3p] at hR;replace hR:=(A1r.eq_1 ..).symm.trans hR
 refine J1 (nx (sr 1 rfl (ip' 1 0 [(5,.slice none 0 0)] ?_)))
 refine ie (A7 (B2 ?_))
 refine E7o (fun (fu:Nat) (l1:List Act) (lq1:Option Addr) (lk1:Nat) (out:List UInt8) (outr:VR)=>(l1.length<fu∧S1 fu l1 out=R∧l1.length≤lk1∧l1.length≤9223372036854775807∧VOk 1 out.length outr∧(∀ a ∈ l1,k6 a)∧out.length+30000 * l1.length≤4000000000,[(0,.slice lq1 l1.length lk1),(5,.slice (va outr.q) out.length outr.k)],((vo cU8 5 outr out)++([])),[sl A5 lq l,sl A5 lq1 l1],fu)) (l.length+1) l lq lk ([]:List UInt8) VR.nil ⟨(Nat.lt_succ_self _),hR,(by first|omega|(simp only [List.length_take,List.length_drop,List.length_append,List.length_cons,List.length_nil,List.length_set,List.length_map];omega)|decide),(by first|omega|(simp only [List.length_take,List.length_drop,List.length_append,List.length_cons,List.length_nil,List.length_set,List.length_map];omega)|decide),VOk.nil,(by exact hkind),(by (simp only [List.length_nil];omega))⟩ (mc [vo cU8 5 VR.nil ([]:List UInt8)] [true] rfl (by first|rfl|(simp only [List.length_set]<;>rfl))) (A0.pick [0,0] rfl) ?_
 rintro fu l1 lq1 lk1 out outr ⟨hm7,hR,hcl1,hll1,hokoutr,hp1,hb⟩
 have:=VOk.le hokoutr
 obtain ⟨fu1,rfl⟩:∃ m,fu=m+1:=⟨fu - 1,by omega⟩
 replace hR:=(S1.eq_2 ..).symm.trans hR
 refine A7 (sr 3 rfl (ip' 3 0 [(24,bv (decide ((0:Int)<(l1.length:Int))))] ?_))
 refine ie ?_
 refine zjd rfl hR ?_ ?_<;>clear hR<;>intro hR h8 h8p
 ·refine A9 (nx (B2 (sr 1 rfl (ip' 1 0 [(6,iv 0)] ?_))))
  refine ie (A7 (B2 ?_))
  refine E1j (fun (fu2:Nat) (n:Nat)=>((16 - n)<fu2∧A5i l1 out (S1 fu1) fu2 n=R∧n=0,[(0,.slice lq1 l1.length lk1),(5,.slice (va outr.q) out.length outr.k),(6,iv (n:Int))],((vo cU8 5 outr out)++([])),[sl A5 lq l,sl A5 lq1 l1],fu2)) ((16 - 0)+1) 0 ⟨(Nat.lt_succ_self _),hR,(by rfl)⟩ (mc [vo cU8 5 outr out] [true] rfl (by first|rfl|(simp only [List.length_set]<;>rfl))) A0.refl ?_
  rintro fu2 n ⟨hm9,hR,hn0⟩
  obtain ⟨fu3,rfl⟩:∃ m,fu2=m+1:=⟨fu2 - 1,by omega⟩
  replace hR:=(A5i.eq_2 ..).symm.trans hR
  refine A7 (sr 16 rfl (ip' 5 11 [(29,bv (decide ((n:Int)<(l1.length:Int))))] ?_))
  refine zid 3 8 29 32 (decide ((n:Int)<16)) (fun g10 g10p=>?_) ?_
  ·refine ip' 3 0 [(32,bv (decide ((n:Int)<16)))] ?_
   exact A6 (Q2 2 29 32 g10 A0.refl (mc [vo cU8 5 outr out] [true] rfl (by first|rfl|(simp only [List.length_set]<;>rfl))) rfl rfl rfl rfl rfl)
  refine ip' 1 7 [(33,bv ((decide ((n:Int)<(l1.length:Int)))&&(decide ((n:Int)<16))))] ?_
  refine zia 7 0 33 40 (decide ((l1.getD n Act.zero).kind=39)) (fun g11=>?_) ?_
  ·have g11p:((n:Int)<(l1.length:Int))∧((n:Int)<16):=by simpa using g11
   refine ip' 2 5 [(34,.slice lq1 l1.length lk1),(35,iv (n:Int))] ?_
   refine P3 1 rfl (by omega) fun a12 hq13=>?_
   refine ix rfl (N0 A0v rfl rfl hq13 rfl n rfl (by omega)) ?_
   refine ip' 1 3 [(37,pa (Addr.add a12 (n * 6)))] ?_
   refine ix rfl (C4 (v:=iv ((l1.getD n Act.zero).kind)) (us:=[iv ((l1.getD n Act.zero).kind)]) ty3 rfl rfl (U3 (O4 (c:=A5) (sz:=6) hq13 (fun _=>rfl) 1 rfl (gd Act.zero (by omega))) (ws:=[iv ((l1.getD n Act.zero).kind)]) 1 rfl) rfl) ?_
   refine ip' 2 0 [(40,bv (decide ((l1.getD n Act.zero).kind=39)))] ?_
   exact A6 (Q2 7 33 40 g11 A0.refl (mc [vo cU8 5 outr out] [true] rfl (by first|rfl|(simp only [List.length_set]<;>rfl))) rfl rfl rfl rfl rfl)
  refine ie (I9 rfl (fun h14=>?_) (fun h14=>?_))
  ·have h14p:(((n:Int)<(l1.length:Int))∧((n:Int)<16))∧((l1.getD n Act.zero).kind=39):=by simpa using h14
   exfalso;simp only [Bool.and_eq_true,decide_eq_true_eq] at h14;have q6:=A7v hp1 (show n<l1.length by omega);unfold k6 at q6;omega
  have h14p:¬ ((((n:Int)<(l1.length:Int))∧((n:Int)<16))∧((l1.getD n Act.zero).kind=39)):=by simpa using h14
  refine J1 (nx (A7 (sr 2 rfl (ip' 2 0 [(44,bv (decide ((0:Int)<(n:Int))))] ?_))))
  refine ie (I9 rfl (fun h15=>?_) (fun h15=>?_))
  ·have h15p:(0:Int)<(n:Int):=by simpa using h15
   exfalso;omega
  have h15p:¬ ((0:Int)<(n:Int)):=by simpa using h15
  refine A9 (nx (sr 7 rfl (ip' 2 5 [(54,.slice (va outr.q) out.length outr.k),(55,.slice lq1 l1.length lk1)] ?_)))
  refine P3 1 rfl (by omega) fun a16 hq17=>?_
  refine ix rfl (N0 A0v rfl rfl hq17 rfl 0 rfl (by omega)) ?_
  refine ix rfl (P5 (us:=A5 (l1.getD 0 Act.zero)) B4z rfl rfl (O4 (c:=A5) (sz:=6) hq17 (fun _=>rfl) 1 rfl (gd Act.zero (by omega))) rfl) ?_
  have hQ:=C9 hR;clear hR;obtain ⟨rref11one,hrref11one,hR⟩:=hQ
  refine zca (C9r (l1.getD 0 Act.zero) (by first|exact A7v (by assumption) (by omega)|(have q6:=A7v (by assumption) (show 0<_ by omega);exact q6)|omega) rref11one hrref11one) A0.nil ?_
  have:=C5p (a:=(l1.getD 0 Act.zero)) (by first|exact A7v (by assumption) (by omega)|omega);try rw [hrref11one] at this
  refine it rfl (B1s (r:=outr) (xs:=out) (s:=rref11one) (pre:=[]) (post:=[]) C5z (by kernel_rfl) Tryz.underlying9 rfl rfl rfl rfl rfl rfl rfl hokoutr (by first|omega|(simp only [List.length_cons,List.length_nil,List.length_append,List.length_take,List.length_drop];omega))) fun ⟨r18,hr19⟩=>?_
  have:=@List.length_append _ out rref11one
  have:=VOk.le hr19
  have:=VOk.cap hr19
  refine ip' 1 0 [(5,.slice (va r18.q) ((out++rref11one).length) r18.k)] ?_
  refine ie (A3 3 rfl (ip' 1 2 [(60,.slice lq1 l1.length lk1)] ?_))
  refine C3 (C8s (c:=A5) (sz:=6) (xs:=l1) (A1 1 rfl) 1 lk1 (fun _=>rfl) (by omega) (by omega)) ?_
  refine ix rfl (B2z (n':=(l1.drop 1).length) A0v rfl rfl 1 l1.length lk1 (A3k rfl rfl) A5n A5n (by omega) (by omega) (by omega) (by first|rfl|omega|(simp only [List.length_take,List.length_drop];omega)|(simp;done)) rfl) ?_
  have:=@List.length_drop _ 1 l1
  refine ip' 1 0 [(0,.slice (B4i lq1 1 6 lk1) ((l1.drop 1).length) (lk1 - 1))] ?_
  refine A6 ?_
  exact E6u (z1:=(fu1+1)) (z2:=l1) (z3:=lq1) (z4:=lk1) (z5:=out) (z6:=outr) fu1 (l1.drop 1) (B4i lq1 1 6 lk1) (lk1 - 1) (out++rref11one) r18 ⟨(by omega),hR,(by first|omega|(simp only [List.length_take,List.length_drop,List.length_append,List.length_cons,List.length_nil,List.length_set,List.length_map];omega)|decide),(by first|omega|(simp only [List.length_take,List.length_drop,List.length_append,List.length_cons,List.length_nil,List.length_set,List.length_map];omega)|decide),hr19,(by exact fun a ha=>hp1 a (List.mem_of_mem_drop ha)),(by first|omega|(simp only [List.length_append,List.length_drop];omega))⟩ (Nat.lt_succ_self _) (mc [vo cU8 5 r18 (out++rref11one)] [true] rfl (by first|rfl|(simp only [List.length_set]<;>rfl))) (A0.pick [1,0] rfl)
 refine J1 (nx (sr 3 rfl (ip' 3 0 [(2,.slice (va outr.q) out.length outr.k),(3,iv 0)] ?_)))
 subst hR
 refine ie (B0 ?_)
 exact zer hr hD (A4c rfl (B8 rfl) (B8 rfl)) ⟨outr,hokoutr⟩ (mc [vo cU8 5 outr out] [true] rfl (by first|rfl|(simp only [List.length_set]<;>rfl))) A0.nil
def A0c (l:List Act):List UInt8 :=
 (B5 (B3d l) fun (rref11All:List UInt8×Int)=>rref11All.1)
set_option maxRecDepth 100000 in
theorem B7i (l:List Act) (lq:Option Addr) (lk:Nat) (hll:l.length≤9223372036854775807) (hcl:l.length≤lk) (hkind:∀ a ∈ l,k6 a) (R:List UInt8) (hR:A0c l=R):Con Tryz.prog 55 [.slice lq l.length lk] [] [sl A5 lq l] ({r:VR // VOk 1 R.length r}) (fun x=>.slice (va x.1.q) R.length x.1.k) (fun x=>((vo cU8 5 x.1 R)++([]))) (fun x=>[]):=by
 refine zco Tryz.func55 [(0,.slice lq l.length lk)] fun X hX hr hD=>?_
 replace hR:=(A0c.eq_1 ..).symm.trans hR
 refine sr 1 rfl (ip' 1 0 [] ?_)
 refine ie (sr 7 rfl (ip' 1 6 [(6,.slice lq l.length lk)] ?_))
 have hQ:=C9 hR;clear hR;obtain ⟨rref11All,hrref11All,hR⟩:=hQ
 refine it rfl (C2 (L2:=[]) (C7u l lq lk (by first|omega|(simp only [List.length_take,List.length_drop,List.length_append,List.length_cons,List.length_nil,List.length_set,List.length_map];omega)|decide) (by first|omega|(simp only [List.length_take,List.length_drop,List.length_append,List.length_cons,List.length_nil,List.length_set,List.length_map];omega)|decide) (by assumption) rref11All hrref11All) rfl rfl rfl rfl rfl A0.refl (List.Perm.refl _) (fun ⟨r1,hk2⟩=>((vo cU8 5 r1 rref11All.1)++([]))) (fun _=>by first|rfl|simp only [List.append_nil,List.cons_append,List.nil_append,List.append_assoc])) fun ⟨r1,hk2⟩=>?_
 have:=VOk.le hk2
 have:=VOk.cap hk2
 refine ip' 5 0 [(3,.slice (va r1.q) rref11All.1.length r1.k)] ?_
 refine ie (sr 2 rfl (ip' 2 0 [(2,.slice (va r1.q) rref11All.1.length r1.k)] ?_))
 subst hR
 refine ie (B0 ?_)
 exact zer hr hD (O3 rfl (B8 rfl)) ⟨r1,hk2⟩ (mc [vo cU8 5 r1 rref11All.1] [true] rfl (by first|rfl|(simp only [List.length_set]<;>rfl))) A0.nil
theorem C3m {k n m:Int} (h:(k=3∨k=5∨k=6∨k=19∨k=20∨k=22)∧(0≤n∧n≤1000)∧(0≤m∧m≤1000)∧(k=20→n≤3)):k6 {Act.zero with kind:=k,n:=n,m:=m}:=h
theorem D2e {n m:Int} (h:0≤n∧n≤3∧0≤m∧m≤100):k6 {Act.zero with kind:=20,n:=n,m:=m}:=C3m (by omega)
theorem E3h {c0:Pth} (hb:0≤c0.frm.row∧c0.frm.row≤40∧0≤c0.to_.row∧c0.to_.row≤40) {e:List Act} (he:e ∈ F7 c0):∀ a ∈ e,k6 a:=by
 rcases C3o he with ⟨rfl,h⟩ | ⟨rfl,h⟩ | ⟨rfl,h⟩ | ⟨rfl,h⟩
 ·exact fun a ha=>by cases ha
 ·exact fun a ha=>by rw [List.mem_singleton.1 ha];exact D2e (by omega)
 ·exact fun a ha=>by rw [List.mem_singleton.1 ha];exact D2e (by omega)
 ·rw [A4f];exact fun a ha=>by rw [List.eq_of_mem_replicate ha];exact C3m (n:=0) (m:=0) (by omega)
theorem D8e {p:Pth} (hb:0≤p.frm.col∧p.frm.col≤80∧0≤p.to_.col∧p.to_.col≤80) {e:List Act} (he:e ∈ H5 p):∀ a ∈ e,k6 a:=by
 rcases D6n e he with ⟨rfl,h⟩ | rfl | ⟨rfl,h⟩ | ⟨rfl,h⟩ | ⟨rfl,h⟩ | ⟨rfl,h⟩ | ⟨rfl,h⟩
 ·exact fun a ha=>by cases ha
 ·exact fun a ha=>by rw [List.mem_singleton.1 ha];exact C3m (k:=22) (n:=p.to_.col+1) (m:=0) (by omega)
 ·exact fun a ha=>by rw [List.mem_singleton.1 ha];exact D2e (by omega)
 ·exact fun a ha=>by rw [List.mem_singleton.1 ha];exact D2e (by omega)
 ·rw [A4f];exact fun a ha=>by rw [List.eq_of_mem_replicate ha];exact C3m (n:=0) (m:=0) (by omega)
 ·rw [A4f];exact fun a ha=>by rw [List.eq_of_mem_replicate ha];exact C3m (n:=0) (m:=0) (by omega)
 ·rw [A4f];exact fun a ha=>by
   rcases List.mem_append.1 ha with ha | ha
   ·rw [List.eq_of_mem_replicate ha];exact C3m (n:=0) (m:=0) (by omega)
   ·rw [List.mem_singleton.1 ha];exact D2e (by omega)
theorem C4t {f:Cur} {t:Plc} {r:List (List Act)} (hr:A5v f t=r) (hb:(0≤f.row∧f.row≤40∧0≤t.row∧t.row≤40)∧(0≤f.col∧f.col≤80∧0≤t.col∧t.col≤80)):∀ e ∈ r,∀ a ∈ e,k6 a:=by
 subst hr;rw [B3e hb]
 refine C8n ⟨f,t⟩ (fun e=>∀ a ∈ e,k6 a) (fun a ha=>?_) _ (fun d hd a ha _ x hx=>?_)
 ·rw [List.mem_singleton.1 ha];exact C3m (k:=19) (n:=t.row+1) (m:=t.col+1) (by omega)
 ·rcases List.mem_append.1 hx with hx | hx
  ·exact E3h hb.1 hd x hx
  ·exact D8e hb.2 ha x hx
def A0f (rref25Ways:List (List Act)):List (List Act)→Nat→Nat→List Act
 | [],best,i=>(rref25Ways.getD best [])
 | hd_l0::tl_l0,best,i=>(B5 (A0c hd_l0) fun (rref11Bytes:List UInt8)=>(B5 (A0c (rref25Ways.getD best [])) fun (rref11Bytes1:List UInt8)=>(bif (decide ((rref11Bytes.length:Int)<(rref11Bytes1.length:Int))) then A0f rref25Ways tl_l0 i (i+1) else A0f rref25Ways tl_l0 best (i+1))))
def A1m (from_:Cur) (to_:Plc):List Act :=
 (B5 (A5v from_ to_) fun (rref25Ways:List (List Act))=>A0f rref25Ways (rref25Ways.drop 1) 0 1)
set_option maxRecDepth 100000 in
theorem C8l (from_:Cur) (to_:Plc) (hb:(0≤from_.row∧from_.row≤40∧0≤to_.row∧to_.row≤40)∧(0≤from_.col∧from_.col≤80∧0≤to_.col∧to_.col≤80)) (R:List Act) (hR:A1m from_ to_=R):Con Tryz.prog 31 [ag (H2 from_),ag (I0 to_)] [] [] ({t:Option Addr×Nat // R.length≤t.2∧R.length≤9223372036854775807}) (fun x=>.slice x.1.1 R.length x.1.2) (fun x=>[]) (fun x=>[sl A5 x.1.1 R]):=by
 refine zco Tryz.func31 [(0,ag (H2 from_)),(1,ag (I0 to_))] fun X hX hr hD=>?_
 replace hR:=(A1m.eq_1 ..).symm.trans hR
 refine sr 3 rfl (B9z 3 0 [] (fun b1 b2=>[(2,pt b1 0),(3,pt b2 0)]) (fun b1 b2=>[bx b2 (I0 to_) 54,bx b1 (H2 from_) 52]) (fun b1 b2=>?_))
 refine ie (sr 4 rfl (zrl 2 2 [1,0] [(8,ag (H2 from_)),(9,ag (I0 to_))] ?_))
 have hQ:=C9 hR;clear hR;obtain ⟨rref25Ways,hrref25Ways,hR⟩:=hQ
 refine it rfl (Q6 (L2:=[bx b2 (I0 to_) 54,bx b1 (H2 from_) 52]) (C9u from_ to_ (by omega) rref25Ways hrref25Ways) rfl rfl rfl rfl rfl A0.nil (List.Perm.refl _) (fun ⟨⟨r3,rs4⟩,hp7⟩=>(bx b2 (I0 to_) 54::bx b1 (H2 from_) 52::(vo D0 27 r3 rs4)++([]))) (fun ⟨⟨r3,rs4⟩,hp7⟩=>L9 [vo D0 27 r3 rs4,[bx b2 (I0 to_) 54],[bx b1 (H2 from_) 52]] [1,2,0] 3 rfl (by decide) (by first|rfl|simp only [List.flatten_cons,List.flatten_nil,List.append_nil,List.cons_append,List.nil_append,List.append_assoc]) [[bx b2 (I0 to_) 54],[bx b1 (H2 from_) 52],vo D0 27 r3 rs4] rfl (by first|rfl|simp only [List.flatten_cons,List.flatten_nil,List.append_nil,List.cons_append,List.nil_append,List.append_assoc]))) fun ⟨⟨r3,rs4⟩,hp7⟩=>?_
 try dsimp only at hp7
 obtain ⟨hk5,hw6⟩:=hp7
 have:=VOk.le hk5
 have:=VOk.cap hk5
 have:=hw6.1
 have hrw:=D2y hrref25Ways (by omega)
 have:=hrw.2;try rw [hrref25Ways] at this
 have hr6:=C4t hrref25Ways (by omega)
 refine ip' 1 0 [(5,.slice (va r3.q) rref25Ways.length r3.k)] ?_
 refine ie (sr 1 rfl (ip' 1 0 [(6,iv 0)] ?_))
 refine ie (A7 (sr 1 rfl (ip' 1 0 [(7,iv 1)] ?_)))
 refine ie (B2 ?_)
 have:=VOk.cap hk5
 have:=VOk.le hk5
 refine D3d [bx b2 (I0 to_) 54,bx b1 (H2 from_) 52] [] (T:=27) (c:=D0) (r:=r3) (xs:=rs4) (VOk.cast hk5 (by rw [hw6.1])) (by first|rfl|simp only [List.flatten_cons,List.flatten_nil,List.cons_append,List.append_assoc,List.nil_append,List.append_nil]) ?_
 refine E1j (fun (best:Nat) (i:Nat)=>(i≤rref25Ways.length∧A0f rref25Ways (rref25Ways.drop i) best i=R∧(best<rref25Ways.length∧best<i),[(5,.slice (va r3.q) rref25Ways.length r3.k),(6,iv (best:Int)),(7,iv (i:Int))],[bx b2 (I0 to_) 54,bx b1 (H2 from_) 52],[sl D0 (va r3.q) rs4,F3 A5 rs4 rref25Ways],rref25Ways.length - i)) 0 1 ⟨(by omega),hR,(by omega)⟩ (mk [true,true] rfl) A0.refl ?_
 rintro best i ⟨hm8,hR,hbi⟩
 refine A7 (sr 4 rfl (ip' 4 0 [(14,bv (decide ((i:Int)<(rref25Ways.length:Int))))] ?_))
 refine ie (I9 rfl (fun h9=>?_) (fun h9=>?_))
 ·have h9p:(i:Int)<(rref25Ways.length:Int):=by simpa using h9
  rw [A4r [] (show i<rref25Ways.length by omega)] at hR;replace hR:=(A0f.eq_2 ..).symm.trans hR
  refine A9 (nx (A7 (B2 (B3w (A5c (k:=i) (d:=(⟨none,0,0⟩:Slc)) hw6 1 rfl (by have:=hw6.1;omega)) ?_))))
  have:=A5e hw6 (k:=i) (d:=(⟨none,0,0⟩:Slc)) (by have:=hw6.1;omega)
  refine B3w (A5c (k:=best) (d:=(⟨none,0,0⟩:Slc)) hw6 2 rfl (by have:=hw6.1;omega)) ?_
  have:=A5e hw6 (k:=best) (d:=(⟨none,0,0⟩:Slc)) (by have:=hw6.1;omega)
  refine sh 13 [(13,[bx b2 (I0 to_) 54]),(13,[bx b1 (H2 from_) 52])] [sl A5 ((rs4.getD best (⟨none,0,0⟩:Slc)).q) (rref25Ways.getD best []),sl A5 ((rs4.getD i (⟨none,0,0⟩:Slc)).q) (rref25Ways.getD i []),sl D0 (va r3.q) rs4,F3 A5 rs4 rref25Ways] [bx b2 (I0 to_) 54,bx b1 (H2 from_) 52] (zml 13 0) (by kernel_rfl) rfl (by kernel_rfl) (by kernel_rfl) (by kernel_rfl) (mk [true,true] rfl) A0.refl ?_
  refine zhp [0,1,6,7] 9 (zml 13 195) [(17,.slice (va r3.q) rref25Ways.length r3.k),(18,iv (i:Int)),(23,.slice (va r3.q) rref25Ways.length r3.k),(24,iv (best:Int))] ?_
  refine D6d 2 rfl (by omega) fun a10 hq11=>?_
  refine zhk 2 (zml 13 199) rfl (N0 A2d rfl rfl hq11 rfl i rfl (by omega)) ?_
  refine zhk 3 (zml 13 207) rfl (I5 (C4 (v:=.slice ((rs4.getD i (⟨none,0,0⟩:Slc)).q) ((rs4.getD i (⟨none,0,0⟩:Slc)).n) ((rs4.getD i (⟨none,0,0⟩:Slc)).k)) (us:=[.slice ((rs4.getD i (⟨none,0,0⟩:Slc)).q) ((rs4.getD i (⟨none,0,0⟩:Slc)).n) ((rs4.getD i (⟨none,0,0⟩:Slc)).k)]) D7r rfl rfl (O4 (c:=D0) (sz:=1) hq11 (fun _=>rfl) 2 rfl (gd (⟨none,0,0⟩:Slc) (by have:=hw6.1;omega))) rfl) (A5f hw6 (by have:=hw6.1;omega))) ?_
  refine zhk 8 (zml 13 463) rfl (N0 A2d rfl rfl hq11 rfl best rfl (by omega)) ?_
  refine zhk 9 (zml 13 975) rfl (I5 (C4 (v:=.slice ((rs4.getD best (⟨none,0,0⟩:Slc)).q) ((rs4.getD best (⟨none,0,0⟩:Slc)).n) ((rs4.getD best (⟨none,0,0⟩:Slc)).k)) (us:=[.slice ((rs4.getD best (⟨none,0,0⟩:Slc)).q) ((rs4.getD best (⟨none,0,0⟩:Slc)).n) ((rs4.getD best (⟨none,0,0⟩:Slc)).k)]) D7r rfl rfl (O4 (c:=D0) (sz:=1) hq11 (fun _=>rfl) 2 rfl (gd (⟨none,0,0⟩:Slc) (by have:=hw6.1;omega))) rfl) (A5f hw6 (by have:=hw6.1;omega))) ?_
  have hQ:=C9 hR;clear hR;obtain ⟨rref11Bytes,hrref11Bytes,hR⟩:=hQ
  refine zho 4 [bx b2 (I0 to_) 54,bx b1 (H2 from_) 52] (zml 13 991) rfl (Q6 (L2:=[bx b2 (I0 to_) 54,bx b1 (H2 from_) 52]) (B7i (rref25Ways.getD i []) ((rs4.getD i (⟨none,0,0⟩:Slc)).q) ((rs4.getD i (⟨none,0,0⟩:Slc)).k) (by first|omega|(simp only [List.length_take,List.length_drop,List.length_append,List.length_cons,List.length_nil,List.length_set,List.length_map];omega)|decide) (by first|omega|(simp only [List.length_take,List.length_drop,List.length_append,List.length_cons,List.length_nil,List.length_set,List.length_map];omega)|decide) (by first|exact D9m hr6 _|assumption) rref11Bytes hrref11Bytes) rfl rfl rfl rfl rfl (A0.pick [1] rfl) (List.Perm.refl _) (fun ⟨r12,hk13⟩=>(bx b2 (I0 to_) 54::bx b1 (H2 from_) 52::(vo cU8 5 r12 rref11Bytes)++([]))) (fun ⟨r12,hk13⟩=>L9 [vo cU8 5 r12 rref11Bytes,[bx b2 (I0 to_) 54],[bx b1 (H2 from_) 52]] [1,2,0] 3 rfl (by decide) (by first|rfl|simp only [List.flatten_cons,List.flatten_nil,List.append_nil,List.cons_append,List.nil_append,List.append_assoc]) [[bx b2 (I0 to_) 54],[bx b1 (H2 from_) 52],vo cU8 5 r12 rref11Bytes] rfl (by first|rfl|simp only [List.flatten_cons,List.flatten_nil,List.append_nil,List.cons_append,List.nil_append,List.append_assoc]))) (fun ⟨r12,hk13⟩=>(mc [[bx b2 (I0 to_) 54],[bx b1 (H2 from_) 52],vo cU8 5 r12 rref11Bytes] [true,true,false] rfl (by first|rfl|(simp only [List.length_set]<;>rfl)))) (fun ⟨r12,hk13⟩=>A0.refl) fun ⟨r12,hk13⟩=>?_
  have:=VOk.le hk13
  have:=VOk.cap hk13
  refine zhp [5] 3 (zml 13 1023) [(22,iv (rref11Bytes.length:Int))] ?_
  have hQ:=C9 hR;clear hR;obtain ⟨rref11Bytes1,hrref11Bytes1,hR⟩:=hQ
  refine zho 10 [bx b2 (I0 to_) 54,bx b1 (H2 from_) 52] (zml 13 2047) rfl (Q6 (L2:=(bx b2 (I0 to_) 54::bx b1 (H2 from_) 52::(vo cU8 5 r12 rref11Bytes)++([]))) (B7i (rref25Ways.getD best []) ((rs4.getD best (⟨none,0,0⟩:Slc)).q) ((rs4.getD best (⟨none,0,0⟩:Slc)).k) (by first|omega|(simp only [List.length_take,List.length_drop,List.length_append,List.length_cons,List.length_nil,List.length_set,List.length_map];omega)|decide) (by first|omega|(simp only [List.length_take,List.length_drop,List.length_append,List.length_cons,List.length_nil,List.length_set,List.length_map];omega)|decide) (by first|exact D9m hr6 _|assumption) rref11Bytes1 hrref11Bytes1) rfl rfl rfl rfl rfl (A0.pick [0] rfl) (List.Perm.refl _) (fun ⟨r14,hk15⟩=>(bx b2 (I0 to_) 54::bx b1 (H2 from_) 52::(vo cU8 5 r14 rref11Bytes1)++((vo cU8 5 r12 rref11Bytes)++([])))) (fun ⟨r14,hk15⟩=>L9 [vo cU8 5 r14 rref11Bytes1,[bx b2 (I0 to_) 54],[bx b1 (H2 from_) 52],vo cU8 5 r12 rref11Bytes] [1,2,0,3] 4 rfl (by decide) (by first|rfl|simp only [List.flatten_cons,List.flatten_nil,List.append_nil,List.cons_append,List.nil_append,List.append_assoc]) [[bx b2 (I0 to_) 54],[bx b1 (H2 from_) 52],vo cU8 5 r14 rref11Bytes1,vo cU8 5 r12 rref11Bytes] rfl (by first|rfl|simp only [List.flatten_cons,List.flatten_nil,List.append_nil,List.cons_append,List.nil_append,List.append_assoc]))) (fun ⟨r14,hk15⟩=>(mc [[bx b2 (I0 to_) 54],[bx b1 (H2 from_) 52],vo cU8 5 r14 rref11Bytes1,vo cU8 5 r12 rref11Bytes] [true,true,false,false] rfl (by first|rfl|(simp only [List.length_set]<;>rfl)))) (fun ⟨r14,hk15⟩=>A0.refl) fun ⟨r14,hk15⟩=>?_
  have:=VOk.le hk15
  have:=VOk.cap hk15
  refine zhp [11,12] 0 (zml 13 8191) [(29,bv (decide ((rref11Bytes.length:Int)<(rref11Bytes1.length:Int))))] ?_
  refine A8j (by kernel_rfl) ?_
  refine zjd rfl hR ?_ ?_<;>clear hR<;>intro hR h16 h16p
  ·refine A3 2 rfl (ip' 2 0 [(6,iv (i:Int))] ?_)
   refine A6 (nx (A3 3 rfl (ip' 1 2 [(15,iv (i:Int))] ?_)))
   refine ix rfl (B6 rfl rfl rfl rfl (by omega)) ?_
   refine ip' 1 0 [(7,iv ((i:Int)+1))] ?_
   refine A6 ?_
   exact E2r (z1:=best) (z2:=i) i (i+1) ⟨(by omega),hR,(by omega)⟩ (by (try dsimp only);omega) (mc [[bx b2 (I0 to_) 54],[bx b1 (H2 from_) 52],vo cU8 5 r14 rref11Bytes1,vo cU8 5 r12 rref11Bytes] [true,true,false,false] rfl (by first|rfl|(simp only [List.length_set]<;>rfl))) (A0.pick [2,3] rfl)
  refine A9 (nx (A3 3 rfl (ip' 1 2 [(15,iv (i:Int))] ?_)))
  refine ix rfl (B6 rfl rfl rfl rfl (by omega)) ?_
  refine ip' 1 0 [(7,iv ((i:Int)+1))] ?_
  refine A6 ?_
  exact E2r (z1:=best) (z2:=i) best (i+1) ⟨(by omega),hR,(by omega)⟩ (by (try dsimp only);omega) (mc [[bx b2 (I0 to_) 54],[bx b1 (H2 from_) 52],vo cU8 5 r14 rref11Bytes1,vo cU8 5 r12 rref11Bytes] [true,true,false,false] rfl (by first|rfl|(simp only [List.length_set]<;>rfl))) (A0.pick [2,3] rfl)
 have h9p:¬ ((i:Int)<(rref25Ways.length:Int)):=by simpa using h9
 rw [A4s h9p] at hR;replace hR:=(A0f.eq_1 ..).symm.trans hR
 refine J1 (nx (sr 5 rfl (ip' 2 3 [(31,.slice (va r3.q) rref25Ways.length r3.k),(32,iv (best:Int))] ?_)))
 refine P3 0 rfl (by omega) fun a17 hq18=>?_
 refine C3 (A5c (k:=best) (d:=(⟨none,0,0⟩:Slc)) hw6 1 rfl (by have:=hw6.1;omega)) ?_
 have:=A5e hw6 (k:=best) (d:=(⟨none,0,0⟩:Slc)) (by have:=hw6.1;omega)
 refine ix rfl (N0 A2d rfl rfl hq18 rfl best rfl (by omega)) ?_
 refine ix rfl (I5 (C4 (v:=.slice ((rs4.getD best (⟨none,0,0⟩:Slc)).q) ((rs4.getD best (⟨none,0,0⟩:Slc)).n) ((rs4.getD best (⟨none,0,0⟩:Slc)).k)) (us:=[.slice ((rs4.getD best (⟨none,0,0⟩:Slc)).q) ((rs4.getD best (⟨none,0,0⟩:Slc)).n) ((rs4.getD best (⟨none,0,0⟩:Slc)).k)]) D7r rfl rfl (O4 (c:=D0) (sz:=1) hq18 (fun _=>rfl) 1 rfl (gd (⟨none,0,0⟩:Slc) (by have:=hw6.1;omega))) rfl) (A5f hw6 (by have:=hw6.1;omega))) ?_
 refine ip' 1 0 [(4,.slice ((rs4.getD best (⟨none,0,0⟩:Slc)).q) ((rref25Ways.getD best []).length) ((rs4.getD best (⟨none,0,0⟩:Slc)).k))] ?_
 subst hR
 refine ie (B0 ?_)
 exact zer hr hD (O3 rfl (B8 rfl)) (zq ((rs4.getD best (⟨none,0,0⟩:Slc)).q) ((rs4.getD best (⟨none,0,0⟩:Slc)).k)) (mk [false,false] rfl) (A0.con1 (A1 0 rfl) A0.nil)
def A4h (cols:Int) (rows:Int) (from_:Cur) (to_:Plc):Bool :=
 (bif (!A8l) then false else (B5 (A2h cols rows from_ to_) fun (rmotionBest:List Act×Int)=>(bif ((!(V1 cols rows from_))||(!(V1 cols rows ({Cur.zero with row:=to_.row,col:=to_.col})))) then ((decide (rmotionBest.2=2))&&(decide ((rmotionBest.1.length:Int)=0))) else ((decide (rmotionBest.2=0))&&(K2 rmotionBest.1 (A1m from_ to_))))))
set_option maxRecDepth 100000 in
theorem B7q (cols:Int) (rows:Int) (from_:Cur) (to_:Plc) (R:Bool) (hR:A4h cols rows from_ to_=R):K5 Tryz.prog 9 [iv cols,iv rows,ag (H2 from_),ag (I0 to_)] [B6s,B6r,Q3,P0,M3,S7] (bv R):=by
 refine zco Tryz.func9 [(0,iv cols),(1,iv rows),(2,ag (H2 from_)),(3,ag (I0 to_))] fun X hX hr hD=>?_
 replace hR:=(A4h.eq_1 ..).symm.trans hR
 refine sr 3 rfl (B9z 3 0 [] (fun b1 b2=>[(6,pt b1 0),(7,pt b2 0)]) (fun b1 b2=>[bx b2 (I0 to_) 54,bx b1 (H2 from_) 52]) (fun b1 b2=>?_))
 refine ie (A7 (sr 2 rfl (zca (C6q _ rfl) A0.refl ?_)))
 refine ip' 1 0 [(12,bv (!A8l))] ?_
 refine ie ?_
 refine zjb rfl hR ?_ ?_<;>clear hR<;>intro hR h3
 ·refine sr 1 rfl (ip' 1 0 [(8,bv false)] ?_)
  subst hR
  refine ie (B0 ?_)
  exact F8 hr hD
 refine A9 (nx (sr 10 rfl (zrl 4 6 [1,0] [(14,iv cols),(15,iv rows),(16,ag (H2 from_)),(17,ag (I0 to_))] ?_)))
 have hQ:=C9 hR;clear hR;obtain ⟨rmotionBest,hrmotionBest,hR⟩:=hQ
 refine zcm (A7s cols rows from_ to_ rmotionBest hrmotionBest) A0.refl fun ⟨⟨q4,k5⟩,hp6⟩=>?_
 obtain ⟨hc7,hl8⟩:=hp6
 have hbm:=C2u hrmotionBest
 have:=hbm.1;try rw [hrmotionBest] at this
 refine ip' 5 0 [(9,.slice q4 rmotionBest.1.length k5),(10,iv rmotionBest.2)] ?_
 refine ie (A7 (sr 16 rfl (zrl 3 13 [1] [(21,iv cols),(22,iv rows),(23,ag (H2 from_))] ?_)))
 refine zca (C4i cols rows from_ _ rfl) A0.nil ?_
 refine ip' 2 10 [(26,bv (!(V1 cols rows from_)))] ?_
 refine zio 10 0 26 36 (!(V1 cols rows ({Cur.zero with row:=to_.row,col:=to_.col}))) (fun g9=>?_) ?_
 ·refine zrl 7 3 [0,0] [(27,iv cols),(28,iv rows),(33,ag (H2 ({Cur.zero with row:=to_.row,col:=to_.col})))] ?_
  refine zca (C4i cols rows ({Cur.zero with row:=to_.row,col:=to_.col}) _ rfl) A0.nil ?_
  refine ip' 2 0 [(36,bv (!(V1 cols rows ({Cur.zero with row:=to_.row,col:=to_.col}))))] ?_
  exact zai 6 26 36 g9
 refine ie ?_
 refine zjb rfl hR ?_ ?_<;>clear hR<;>intro hR h10
 ·have h10p:=h10;try simp only [Bool.and_eq_true,Bool.or_eq_true,Bool.and_eq_false_iff,Bool.or_eq_false_iff,Bool.not_eq_true',Bool.not_eq_false',decide_eq_true_eq,decide_eq_false_iff_not] at h10p
  refine sr 8 rfl (ip' 3 5 [(39,bv (decide (rmotionBest.2=2)))] ?_)
  refine zid 4 1 39 43 (decide ((rmotionBest.1.length:Int)=0)) (fun g11 g11p=>?_) ?_
  ·refine ip' 4 0 [(43,bv (decide ((rmotionBest.1.length:Int)=0)))] ?_
   exact zai 2 39 43 g11
  refine ip' 1 0 [(8,bv ((decide (rmotionBest.2=2))&&(decide ((rmotionBest.1.length:Int)=0))))] ?_
  subst hR
  refine ie (B0 ?_)
  exact F8 hr hD
 have h10p:=h10;try simp only [Bool.and_eq_true,Bool.or_eq_true,Bool.and_eq_false_iff,Bool.or_eq_false_iff,Bool.not_eq_true',Bool.not_eq_false',decide_eq_true_eq,decide_eq_false_iff_not] at h10p
 have hib:=(D5c (E0o h10).1)
 have hib2:(2≤cols∧cols≤80∧1≤rows∧rows≤40)∧(0≤to_.row∧to_.row<rows∧0≤to_.col∧to_.col<cols)∧(false=true→to_.col=cols - 1):=D5c (E0o h10).2
 refine A9 (nx (sr 10 rfl (ip' 3 7 [(46,bv (decide (rmotionBest.2=0)))] ?_)))
 refine zid 6 1 46 52 (K2 rmotionBest.1 (A1m from_ to_)) (fun g12 g12p=>?_) ?_
 ·refine zrl 3 3 [1,0] [(47,.slice q4 rmotionBest.1.length k5),(48,ag (H2 from_)),(49,ag (I0 to_))] ?_
  refine zcm (C8l from_ to_ (by omega) _ rfl) A0.nil fun ⟨⟨q13,k14⟩,hp15⟩=>?_
  obtain ⟨hc16,hl17⟩:=hp15
  refine zca (B3l rmotionBest.1 (A1m from_ to_) q4 k5 q13 k14 (by first|omega|(simp only [List.length_take,List.length_drop,List.length_append,List.length_cons,List.length_nil,List.length_set,List.length_map];omega)|decide) (by first|omega|(simp only [List.length_take,List.length_drop,List.length_append,List.length_cons,List.length_nil,List.length_set,List.length_map];omega)|decide) (by first|omega|(simp only [List.length_take,List.length_drop,List.length_append,List.length_cons,List.length_nil,List.length_set,List.length_map];omega)|decide) (by first|omega|(simp only [List.length_take,List.length_drop,List.length_append,List.length_cons,List.length_nil,List.length_set,List.length_map];omega)|decide) _ rfl) (A0.pick [1,0] rfl) ?_
  refine ip' 1 0 [(52,bv (K2 rmotionBest.1 (A1m from_ to_)))] ?_
  exact A6 (Q2 7 46 52 g12 (A0.pick [1,2,3,4,5,6,7] rfl) (mk [true,true] rfl) rfl rfl rfl rfl rfl)
 refine ip' 1 0 [(8,bv ((decide (rmotionBest.2=0))&&(K2 rmotionBest.1 (A1m from_ to_))))] ?_
 subst hR
 refine ie (B0 ?_)
 exact F8 hr hD
end Go.Proofs.YtanighkpfmgnbaaGreatDoor
set_option linter.unusedVariables false
set_option linter.unusedSimpArgs false
set_option linter.unnecessarySimpa false
set_option maxRecDepth 10000
namespace Go.Proofs.YtanighkpfmgnbaaGreatDoor
open Go Go.Fen
theorem E2w:M4=K6:=by
 funext fu
 induction fu with
 | zero=>rfl
 | succ fu ih=>funext n;rw [M4,K6,ih]
theorem C4k:X6=O0:=by funext n k;unfold X6 O0;rw [E2w]
theorem E2x:A5t=A4k:=by funext n m k;unfold A5t A4k;rw [C4k]
theorem D0g:A3v=Y4:=rfl
theorem E2b:R1=A4d:=by
 funext a fu
 induction fu with
 | zero=>rfl
 | succ fu ih=>funext i;rw [R1,A4d,ih,C4k,D0g]
theorem E2h {a:Act} (h:k6 a):A3r a=A6a a:=by
 obtain ⟨hk,hn,hm,-⟩:=h
 unfold A3r A6a A2p B1l A4j B1g A1y B7a
 rw [C4k,E2x,D0g,E2b]
 rcases hk with hk | hk | hk | hk | hk | hk<;>simp only [hk,Int.reduceEq,decide_true,decide_false,cond_true,cond_false,B5]<;>rfl
theorem D8b {a:Act} (h:k6 a) (hr:P9 a=true):A2n a=true:=by
 obtain ⟨hk,hn,hm,-⟩:=h
 revert hr
 unfold A2n P9 A2b A0p X2 I7 A0m A1w L6 M8 R5 A6f Q7
 rcases hk with hk | hk | hk | hk | hk | hk<;>simp only [hk,Int.reduceEq,decide_true,decide_false,cond_true,cond_false]<;>exact fun h=>h
theorem D6a (L:List Act):∀ (l:List Act) (t:Nat),(∀ a ∈ l,A2n a=true)→A1r L l t=S1 (L.length+1) L []
 | [],_,_=>rfl
 | a::l,t,h=>by
  rw [A1r,h a (List.mem_cons_self ..)]
  exact D6a L l (t+1) (fun x hx=>h x (List.mem_cons_of_mem _ hx))
theorem D5o:∀ (l:List Act) (fu:Nat) (out:List UInt8),(∀ a ∈ l,k6 a)→l.length<fu→S1 fu l out=(out++enc l,0)
 | [],fu+1,out,_,_=>by rw [S1];show (out,(0:Int))=_;rw [D6m,List.append_nil]
 | a::l,fu+1,out,h,hf=>by
  have ha:=h a (List.mem_cons_self ..)
  have hl:A4t 16 (a::l)=0:=by unfold A4t;rw [if_neg (by have:=ha.1;omega)]
  rw [S1,decide_eq_true (show (0:Int)<((a::l).length:Int) by rw [List.length_cons];omega),D4z hl,← E2h ha]
  show A5i (a::l) out (S1 fu) (16+1) 0=_
  rw [A5i];simp only [B5]
  show S1 fu l (out++A3r a)=_
  rw [D5o l fu _ (fun x hx=>h x (List.mem_cons_of_mem _ hx)) (by rw [List.length_cons] at hf;omega),List.append_assoc]
theorem D8y {e:List Act} (hk:∀ a ∈ e,k6 a) (hg:A5d e) (hl:e.length≤100) (he:P7 e=(enc e,0)):((A0c e).length:Int)=B9l e:=by
 unfold A0c B9l;simp only [B5]
 rw [he]
 unfold B3d
 rw [decide_eq_false (show ¬ (131072:Int)<(e.length:Int) by omega),cond_false,D6a e e 0 (fun a ha=>D8b (hk a ha) (hg a ha)),D5o e _ [] hk (Nat.lt_succ_self _)];rfl
theorem B7s (W:List (List Act)) (hW:∀ e ∈ W,((A0c e).length:Int)=B9l e) (hB:((A0c []).length:Int)=B9l []) (h0:∀ e ∈ W,(P7 e).2=0):∀ (l:List (List Act)) (best i:Nat),l=W.drop i→A0f W l best i=(H3 l (W.getD best []) (B9l (W.getD best []))).1
 | [],best,i,_=>rfl
 | el::l,best,i,h=>by
  obtain ⟨h1,h2⟩:=D6k h []
  have hm:el ∈ W:=List.drop_subset i W (h▸List.mem_cons_self ..)
  rw [A0f];simp only [B5]
  have hb:((A0c (W.getD best [])).length:Int)=B9l (W.getD best []):=by
   rw [List.getD_eq_getElem?_getD]
   cases h3:W[best]? with
   | none=>exact hB
   | some y=>exact hW y (List.mem_of_getElem? h3)
  rw [hW _ hm,hb,C6y (h0 _ hm)]
  have hk:0≤B9l (W.getD best []):=by unfold B9l;omega
  by_cases hc:B9l el<B9l (W.getD best [])
  ·rw [decide_eq_true hc,if_neg (by omega)]
   have h3:=B7s W hW hB h0 l i (i+1) h2
   rw [h1] at h3;exact h3
  ·rw [decide_eq_false hc,if_pos ⟨hk,by omega⟩]
   exact B7s W hW hB h0 l best (i+1) h2
theorem C5j (c r:Int) (f:Cur) (t:Plc):A4h c r f t=true:=by
 unfold A4h
 rw [E2k];simp only [B5]
 rw [D4x]
 by_cases h0:F1 c r ⟨f,t⟩=0
 ·obtain ⟨h1,h2⟩:=D4f h0
  have hb:=A7n (c:=c) (r:=r) (c0:=⟨f,t⟩) (by rw [h0];rfl)
  have hg:=D7t hb
  have he:∀ e ∈ F0 ⟨f,t⟩,(P7 e).2=0:=fun e he=>by rw [hg e he]
  have hw:=(A9i (c0:=⟨f,t⟩) hb).1
  have h5:(H3 (F0 ⟨f,t⟩) [] (-1)).2=0:=(B3b _ _ _ hw ⟨Nat.zero_le _,fun a ha=>by cases ha⟩).2
  have hlen:∀ e ∈ F0 ⟨f,t⟩,((A0c e).length:Int)=B9l e:=fun e hm =>
   D8y (C4t rfl hb e (by rw [B3e hb];exact hm)) (D5k hb e hm) (hw e hm).1 (hg e hm)
  have h6:A1m f t=(H3 (F0 ⟨f,t⟩) [] (-1)).1:=by
   unfold A1m;simp only [B5]
   rw [B3e hb]
   obtain ⟨x,tl,hx⟩:∃ x tl,F0 ⟨f,t⟩=x::tl:=by
    have:=E0j ⟨f,t⟩ (F7 ⟨f,t⟩)
    have h7:C8 ⟨f,t⟩ (F7 ⟨f,t⟩)=F0 ⟨f,t⟩:=rfl
    rw [h7] at this
    cases hq:F0 ⟨f,t⟩ with
    | nil=>rw [hq] at this;exact absurd this (Nat.lt_irrefl 0)
    | cons x tl=>exact ⟨x,tl,rfl⟩
   rw [B7s _ hlen (by decide +kernel) he _ 0 1 rfl]
   rw [hx] at he ⊢
   rw [C6y (he x (List.mem_cons_self ..)),if_neg (by omega)];rfl
  rw [h1,h2,h0]
  show ((decide ((H3 (F0 ⟨f,t⟩) [] (-1)).2=0))&&(K2 (H3 (F0 ⟨f,t⟩) [] (-1)).1 (A1m f t)))=true
  rw [h5,h6,D7k];rfl
 ·have e:((!(V1 c r f))||(!(V1 c r ({Cur.zero with row:=t.row,col:=t.col}))))=true:=by
   cases h1:V1 c r f with
   | false=>rfl
   | true =>
    cases h2:V1 c r ({Cur.zero with row:=t.row,col:=t.col}) with
    | false=>rfl
    | true=>exact absurd (C9t h1 h2) h0
  rw [e,D2p h0];rfl
end Go.Proofs.YtanighkpfmgnbaaGreatDoor
