import Derived.Test.YtanighkpfmgnbaaGreatDoorProg
import Derived.Test.YtanighkpfmgnbaaGreatDoorMA2
import Derived.Test.YtanighkpfmgnbaaGreatDoorMB1
import Derived.Test.YtanighkpfmgnbaaGreatDoorMA3
import Derived.Test.YtanighkpfmgnbaaGreatDoorMB2
import Derived.Test.YtanighkpfmgnbaaGreatDoorMB3
import Derived.Test.YtanighkpfmgnbaaGreatDoorMQ1
set_option linter.unusedVariables false
set_option linter.unusedSimpArgs false
set_option linter.unnecessarySimpa false
set_option maxRecDepth 100000
namespace Go.Proofs.YtanighkpfmgnbaaGreatDoor
open Go Go.Fen
end Go.Proofs.YtanighkpfmgnbaaGreatDoor
set_option linter.unusedVariables false
set_option linter.unusedSimpArgs false
set_option linter.unnecessarySimpa false
set_option maxRecDepth 100000
namespace Go.Proofs.YtanighkpfmgnbaaGreatDoor
open Go Go.Fen
def A3q (b:List Act):List Act→Nat→Bool
 | [],i=>true
 | hd_l0::tl_l0,i=>(bif (!(decide (hd_l0=(b.getD i Act.zero)))) then false else A3q b tl_l0 (i+1))
def N6 (a:List Act) (b:List Act):Bool :=
 (bif (!decide ((a.length:Int)=(b.length:Int))) then false else A3q b a 0)
theorem B7i (a:List Act) (b:List Act) (aq:Option Addr) (ak:Nat) (bq:Option Addr) (bk:Nat) (hla:a.length≤9223372036854775807) (hca:a.length≤ak) (hlb:b.length≤9223372036854775807) (hcb:b.length≤bk) (R:Bool) (hR:N6 a b=R):M6 Tryz.prog 29 [.slice aq a.length ak,.slice bq b.length bk] [sl B0 aq a,sl B0 bq b] (bv R):=by
 refine zco Tryz.func29 [(0,.slice aq a.length ak),(1,.slice bq b.length bk)] fun X hX hr hD=>?_
 replace hR:=(N6.eq_1 ..).symm.trans hR
 refine sr 1 rfl (ip' 1 0 [] (ie (A7 (sr 5 rfl (ip' 5 0 [(10,bv (!decide ((a.length:Int)=(b.length:Int))))] (ie ?_))))))
 refine zjn rfl hR ?_ ?_<;>clear hR<;>intro hR h1 h1p
 ·refine sr 1 rfl (ip' 1 0 [(4,bv false)] ?_)
  subst hR
  refine ie (B1 ?_)
  exact H1 hr hD
 refine A9 (nx (A7 (sr 1 rfl (ip' 1 0 [(5,iv 0)] (ie (B2 (C9e (fun (i:Nat)=>(i≤a.length∧A3q b (a.drop i) i=R,[(0,.slice aq a.length ak),(1,.slice bq b.length bk),(5,iv (i:Int))],[],[sl B0 aq a,sl B0 bq b],a.length - i)) 0 ⟨(by omega),hR⟩ (mk [] rfl) A0.refl ?_)))))))
 rintro i ⟨hm2,hR⟩
 refine A7 (sr 4 rfl (ip' 4 0 [(14,bv (decide ((i:Int)<(a.length:Int))))] ?_))
 refine ie (A0w rfl (fun h3=>?_) (fun h3=>?_))
 ·have h3p:(i:Int)<(a.length:Int):=by simpa using h3
  rw [A4w Act.zero (show i<a.length by omega)] at hR;replace hR:=(A3q.eq_2 ..).symm.trans hR
  refine A9 (nx (A7 (B2 (sd 9 rfl (by kernel_rfl) rfl (dp' 2 7 [(17,.slice aq a.length ak),(18,iv (i:Int))] ?_)))))
  refine D2q 0 rfl (by omega) fun a4 hq5=>?_
  refine dd rfl (O2 A6u rfl rfl hq5 rfl i rfl (by omega)) (dd rfl (R5 (us:=B0 (a.getD i Act.zero)) B5y rfl rfl (R7 (c:=B0) (sz:=6) hq5 (fun _=>rfl) 0 rfl (gd Act.zero (by omega))) rfl) (dp' 2 3 [(21,.slice bq b.length bk),(22,iv (i:Int))] ?_))
  refine D2q 1 rfl (by omega) fun a6 hq7=>?_
  refine dd rfl (O2 A6u rfl rfl hq7 rfl i rfl (by omega)) (dd rfl (R5 (us:=B0 (b.getD i Act.zero)) B5y rfl rfl (R7 (c:=B0) (sz:=6) hq7 (fun _=>rfl) 1 rfl (gd Act.zero (by omega))) rfl) (dd rfl (A2e (a:=(a.getD i Act.zero)) (b:=(b.getD i Act.zero)) D6m rfl rfl rfl) (de ?_)))
  refine zjn rfl hR ?_ ?_<;>clear hR<;>intro hR h8 h8p
  ·refine sr 1 rfl (ip' 1 0 [(4,bv false)] ?_)
   subst hR
   refine ie (B1 ?_)
   exact H1 hr hD
  refine A9 (nx (A4 3 rfl (ip' 1 2 [(15,iv (i:Int))] (ix rfl (B6 rfl rfl rfl rfl (by omega)) (ip' 1 0 [(5,iv ((i:Int)+1))] (A6 ?_))))))
  exact C6s (z1:=i) (i+1) ⟨(by omega),hR⟩ (by (try dsimp only);omega) (mk [] rfl) A0.refl
 have h3p:¬ ((i:Int)<(a.length:Int)):=by simpa using h3
 rw [A4t h3p] at hR;replace hR:=(A3q.eq_1 ..).symm.trans hR
 refine J5 (nx (sr 1 rfl (ip' 1 0 [(4,bv true)] ?_)))
 subst hR
 refine ie (B1 ?_)
 exact H1 hr hD
def A6w:Bool :=
 (B4 (A1k 20 9 ({Cur.zero with row:=3,col:=4}) ({Plc.zero with row:=3})) fun (y0:List Act×Int)=>(B4 (A1k 20 9 ({Cur.zero with row:=8,col:=19}) Plc.zero) fun (y1:List Act×Int)=>(B4 (A1k 20 9 ({Cur.zero with row:=9}) Plc.zero) fun (y3:List Act×Int)=>(B4 (A2u 20 9 Cur.zero Plc.zero) fun (y2:List (List Act)×Int)=>(((((((decide (y0.2=0))&&(N6 y0.1 ([{Act.zero with kind:=6}]:List Act)))&&(decide (y1.2=0)))&&(N6 y1.1 ([{Act.zero with kind:=19,n:=1,m:=1}]:List Act)))&&(decide (y3.2=2)))&&(decide (y2.2=0)))&&(decide ((y2.1.length:Int)=4)))))))
theorem C3w (R:Bool) (hR:A6w=R):M6 Tryz.prog 25 [] [B3p,B2n,O6,N7,K6,Q7] (bv R):=by
 refine zco Tryz.func25 [] fun X hX hr hD=>?_
 replace hR:=(A6w.eq_1 ..).symm.trans hR
 refine sr 1 rfl (ip' 1 0 [] (ie (sr 8 rfl (zrl 2 6 [] [(10,ag (O0 ({Cur.zero with row:=3,col:=4}))),(11,ag (P3 ({Plc.zero with row:=3})))] ?_))))
 have hQ:=E9 hR;clear hR;obtain ⟨y0,hy0,hR⟩:=hQ
 refine zcm (A6f 20 9 ({Cur.zero with row:=3,col:=4}) ({Plc.zero with row:=3}) y0 hy0) A0.refl fun ⟨⟨q1,k2⟩,hp3⟩=>?_
 obtain ⟨hc4,hl5⟩:=hp3
 have hbm:=C0s hy0
 have:=hbm.1;try rw [hy0] at this
 refine ip' 5 0 [(1,.slice q1 y0.1.length k2),(2,iv y0.2)] (ie (sr 8 rfl (zrl 2 6 [] [(16,ag (O0 ({Cur.zero with row:=8,col:=19}))),(17,ag (P3 Plc.zero))] ?_)))
 have hQ:=E9 hR;clear hR;obtain ⟨y1,hy1,hR⟩:=hQ
 refine zcm (A6f 20 9 ({Cur.zero with row:=8,col:=19}) Plc.zero y1 hy1) (A0.pick [1,2,3,4,5,6] rfl) fun ⟨⟨q6,k7⟩,hp8⟩=>?_
 obtain ⟨hc9,hl10⟩:=hp8
 have hbm:=C0s hy1
 have:=hbm.1;try rw [hy1] at this
 refine ip' 5 0 [(3,.slice q6 y1.1.length k7),(4,iv y1.2)] (ie (sr 8 rfl (zrl 2 6 [] [(22,ag (O0 ({Cur.zero with row:=9}))),(23,ag (P3 Plc.zero))] ?_)))
 have hQ:=E9 hR;clear hR;obtain ⟨y3,hy3,hR⟩:=hQ
 refine zcm (A6f 20 9 ({Cur.zero with row:=9}) Plc.zero y3 hy3) (A0.pick [2,3,4,5,6,7] rfl) fun ⟨⟨q11,k12⟩,hp13⟩=>?_
 obtain ⟨hc14,hl15⟩:=hp13
 have hbm:=C0s hy3
 have:=hbm.1;try rw [hy3] at this
 refine ip' 5 0 [(6,iv y3.2)] (ie (sr 8 rfl (zrl 2 6 [] [(28,ag (O0 Cur.zero)),(29,ag (P3 Plc.zero))] ?_)))
 have hQ:=E9 hR;clear hR;obtain ⟨y2,hy2,hR⟩:=hQ
 refine it rfl (C1 (L2:=[]) (B5g 20 9 Cur.zero Plc.zero y2 hy2) rfl rfl rfl rfl rfl fn0 (List.Perm.refl _) (fun ⟨⟨r16,rs17⟩,hp20⟩=>((vo G4 27 r16 rs17)++([]))) (fun _=>by first|rfl|simp)) fun ⟨⟨r16,rs17⟩,hp20⟩=>?_
 try dsimp only at hp20
 obtain ⟨hk18,hw19⟩:=hp20
 have:=VOk.le hk18
 have:=VOk.cap hk18
 have:=hw19.1
 have hwq:=D2b hy2
 have:=hwq.2;try rw [hy2] at this
 refine A3w [] [] (T:=27) (c:=G4) (r:=r16) (xs:=rs17) (VOk.cast hk18 (by rw [hw19.1])) (by first|rfl|simp only [List.flatten_cons,List.flatten_nil,List.cons_append,List.append_assoc,List.nil_append,List.append_nil]) ?_
 refine ip' 5 0 [(7,.slice (va r16.q) y2.1.length r16.k),(8,iv y2.2)] (ie (sr 32 rfl (ip' 3 29 [(35,bv (decide (y0.2=0)))] ?_)))
 refine zid 5 24 35 40 (N6 y0.1 ([{Act.zero with kind:=6}]:List Act)) (fun g21 g21p=>?_) ?_
 ·refine zrl 2 3 [] [(36,.slice q1 y0.1.length k2),(37,ag (B0 ({Act.zero with kind:=6})))] (it rfl (B7 (c:=B0) (xs:=([{Act.zero with kind:=6}]:List Act)) A6u rfl rfl rfl (by kernel_rfl)) fun b22=>?_)
  have:([{Act.zero with kind:=6}]:List Act).length=1:=rfl
  refine zca (B7i y0.1 ([{Act.zero with kind:=6}]:List Act) q1 k2 (some ⟨b22,0,none⟩) 1 (by first|omega|(simp<;>omega)|(dsimp only;omega)|decide) (by first|omega|(simp<;>omega)|(dsimp only;omega)|decide) (by first|omega|(simp<;>omega)|(dsimp only;omega)|decide) (by first|omega|(simp<;>omega)|(dsimp only;omega)|decide) _ rfl) (A0.pick [5,0] rfl) (ip' 1 0 [(40,bv (N6 y0.1 ([{Act.zero with kind:=6}]:List Act)))] ?_)
  exact A6 (X8 6 35 40 g21 (A0.pick [1,2,3,4,5,6,7,8,9,10,11] rfl) (mk [] rfl) rfl rfl rfl rfl rfl)
 refine ip' 1 23 [(41,bv ((decide (y0.2=0))&&(N6 y0.1 ([{Act.zero with kind:=6}]:List Act))))] ?_
 refine zia 3 20 41 44 (decide (y1.2=0)) (fun g23=>?_) ?_
 ·have g23p:=g23;try simp at g23p
  refine ip' 3 0 [(44,bv (decide (y1.2=0)))] ?_
  exact zai 2 41 44 g23
 refine ip' 1 19 [(45,bv (((decide (y0.2=0))&&(N6 y0.1 ([{Act.zero with kind:=6}]:List Act)))&&(decide (y1.2=0))))] ?_
 refine zia 5 14 45 50 (N6 y1.1 ([{Act.zero with kind:=19,n:=1,m:=1}]:List Act)) (fun g24=>?_) ?_
 ·have g24p:=g24;try simp at g24p
  refine zrl 2 3 [] [(46,.slice q6 y1.1.length k7),(47,ag (B0 ({Act.zero with kind:=19,n:=1,m:=1})))] (it rfl (B7 (c:=B0) (xs:=([{Act.zero with kind:=19,n:=1,m:=1}]:List Act)) A6u rfl rfl rfl (by kernel_rfl)) fun b25=>?_)
  have:([{Act.zero with kind:=19,n:=1,m:=1}]:List Act).length=1:=rfl
  refine zca (B7i y1.1 ([{Act.zero with kind:=19,n:=1,m:=1}]:List Act) q6 k7 (some ⟨b25,0,none⟩) 1 (by first|omega|(simp<;>omega)|(dsimp only;omega)|decide) (by first|omega|(simp<;>omega)|(dsimp only;omega)|decide) (by first|omega|(simp<;>omega)|(dsimp only;omega)|decide) (by first|omega|(simp<;>omega)|(dsimp only;omega)|decide) _ rfl) (A0.pick [4,0] rfl) (ip' 1 0 [(50,bv (N6 y1.1 ([{Act.zero with kind:=19,n:=1,m:=1}]:List Act)))] ?_)
  exact A6 (X8 6 45 50 g24 (A0.pick [1,2,3,4,5,6,7,8,9,10,11] rfl) (mk [] rfl) rfl rfl rfl rfl rfl)
 refine ip' 1 13 [(51,bv ((((decide (y0.2=0))&&(N6 y0.1 ([{Act.zero with kind:=6}]:List Act)))&&(decide (y1.2=0)))&&(N6 y1.1 ([{Act.zero with kind:=19,n:=1,m:=1}]:List Act))))] ?_
 refine zia 3 10 51 54 (decide (y3.2=2)) (fun g26=>?_) ?_
 ·have g26p:=g26;try simp at g26p
  refine ip' 3 0 [(54,bv (decide (y3.2=2)))] ?_
  exact zai 2 51 54 g26
 refine ip' 1 9 [(55,bv (((((decide (y0.2=0))&&(N6 y0.1 ([{Act.zero with kind:=6}]:List Act)))&&(decide (y1.2=0)))&&(N6 y1.1 ([{Act.zero with kind:=19,n:=1,m:=1}]:List Act)))&&(decide (y3.2=2))))] ?_
 refine zia 3 6 55 58 (decide (y2.2=0)) (fun g27=>?_) ?_
 ·have g27p:=g27;try simp at g27p
  refine ip' 3 0 [(58,bv (decide (y2.2=0)))] ?_
  exact zai 2 55 58 g27
 refine ip' 1 5 [(59,bv ((((((decide (y0.2=0))&&(N6 y0.1 ([{Act.zero with kind:=6}]:List Act)))&&(decide (y1.2=0)))&&(N6 y1.1 ([{Act.zero with kind:=19,n:=1,m:=1}]:List Act)))&&(decide (y3.2=2)))&&(decide (y2.2=0))))] ?_
 refine zia 4 1 59 63 (decide ((y2.1.length:Int)=4)) (fun g28=>?_) ?_
 ·have g28p:=g28;try simp at g28p
  refine ip' 4 0 [(63,bv (decide ((y2.1.length:Int)=4)))] ?_
  exact zai 2 59 63 g28
 refine ip' 1 0 [(0,bv (((((((decide (y0.2=0))&&(N6 y0.1 ([{Act.zero with kind:=6}]:List Act)))&&(decide (y1.2=0)))&&(N6 y1.1 ([{Act.zero with kind:=19,n:=1,m:=1}]:List Act)))&&(decide (y3.2=2)))&&(decide (y2.2=0)))&&(decide ((y2.1.length:Int)=4))))] ?_
 subst hR
 refine ie (B1 ?_)
 exact H1 hr hD
end Go.Proofs.YtanighkpfmgnbaaGreatDoor
set_option linter.unusedVariables false
set_option linter.unusedSimpArgs false
set_option linter.unnecessarySimpa false
set_option maxRecDepth 100000
namespace Go.Proofs.YtanighkpfmgnbaaGreatDoor
open Go Go.Fen
theorem E3v:EqT Tryz.prog 52 O0:=EqT.of 20 rfl (by kernel_rfl) (by kernel_rfl) (fun _ _=>by kernel_rfl) O0.inj
def M3 (from_:Cur) (to_:Plc) (y1:List Act×Int) (y0:List UInt8×Int):List (List Act)→Nat→Bool
 | [],t60=>((decide ((y1.1.length:Int)=0)) == (decide (from_={Cur.zero with row:=to_.row,col:=to_.col})))
 | hd_l0::tl_l0,t60=>(B4 (J6 hd_l0) fun (y3:List UInt8×Int)=>(bif ((!decide (y3.2=0))||(decide ((y3.1.length:Int)<(y0.1.length:Int)))) then false else M3 from_ to_ y1 y0 tl_l0 (t60+1)))
def A2h (cols:Int) (rows:Int) (from_:Cur) (to_:Plc):Bool :=
 (bif (!A6w) then false else (B4 (A2u cols rows from_ to_) fun (y2:List (List Act)×Int)=>(B4 (A1k cols rows from_ to_) fun (y1:List Act×Int)=>(bif ((!decide (y2.2=0))||(!decide (y1.2=0))) then ((decide (y2.2=y1.2))&&(decide ((y1.1.length:Int)=0))) else (B4 (J6 y1.1) fun (y0:List UInt8×Int)=>(bif (!decide (y0.2=0)) then false else M3 from_ to_ y1 y0 y2.1 0))))))
theorem B4x (cols:Int) (rows:Int) (from_:Cur) (to_:Plc) (R:Bool) (hR:A2h cols rows from_ to_=R):M6 Tryz.prog 11 [iv cols,iv rows,ag (O0 from_),ag (P3 to_)] [B3p,B2n,O6,N7,K6,Q7] (bv R):=by
 refine zco Tryz.func11 [(0,iv cols),(1,iv rows),(2,ag (O0 from_)),(3,ag (P3 to_))] fun X hX hr hD=>?_
 replace hR:=(A2h.eq_1 ..).symm.trans hR
 refine sr 3 rfl (C0k 3 0 [] (fun b1 b2=>[(6,pt b1 0),(7,pt b2 0)]) (fun b1 b2=>[bx b2 (P3 to_) 54,bx b1 (O0 from_) 52]) (fun b1 b2=>(ie (A7 (sr 2 rfl (zca (C3w _ rfl) A0.refl (ip' 1 0 [(20,bv (!A6w))] (ie ?_))))))))
 refine zjb rfl hR ?_ ?_<;>clear hR<;>intro hR h3
 ·refine sr 1 rfl (ip' 1 0 [(8,bv false)] ?_)
  subst hR
  refine ie (B1 ?_)
  exact H1 hr hD
 refine A9 (nx (sr 10 rfl (zrl 4 6 [1,0] [(22,iv cols),(23,iv rows),(24,ag (O0 from_)),(25,ag (P3 to_))] ?_)))
 have hQ:=E9 hR;clear hR;obtain ⟨y2,hy2,hR⟩:=hQ
 refine it rfl (R9 (L2:=[bx b2 (P3 to_) 54,bx b1 (O0 from_) 52]) (B5g cols rows from_ to_ y2 hy2) rfl rfl rfl rfl rfl fn0 (List.Perm.refl _) (fun ⟨⟨r4,rs5⟩,hp8⟩=>(bx b2 (P3 to_) 54::bx b1 (O0 from_) 52::(vo G4 27 r4 rs5)++([]))) (fun ⟨⟨r4,rs5⟩,hp8⟩=>M1 [vo G4 27 r4 rs5,[bx b2 (P3 to_) 54],[bx b1 (O0 from_) 52]] [1,2,0] 3 rfl (by decide) (by first|rfl|simp) [[bx b2 (P3 to_) 54],[bx b1 (O0 from_) 52],vo G4 27 r4 rs5] rfl (by first|rfl|simp))) fun ⟨⟨r4,rs5⟩,hp8⟩=>?_
 try dsimp only at hp8
 obtain ⟨hk6,hw7⟩:=hp8
 have:=VOk.le hk6
 have:=VOk.cap hk6
 have:=hw7.1
 have hwq:=D2b hy2
 have:=hwq.2;try rw [hy2] at this
 refine A3w [bx b2 (P3 to_) 54,bx b1 (O0 from_) 52] [] (T:=27) (c:=G4) (r:=r4) (xs:=rs5) (VOk.cast hk6 (by rw [hw7.1])) (by first|rfl|simp only [List.flatten_cons,List.flatten_nil,List.cons_append,List.append_assoc,List.nil_append,List.append_nil]) ?_
 refine ip' 5 0 [(9,.slice (va r4.q) y2.1.length r4.k),(10,iv y2.2)] (ie (sr 10 rfl (zrl 4 6 [1,0] [(30,iv cols),(31,iv rows),(32,ag (O0 from_)),(33,ag (P3 to_))] ?_)))
 have hQ:=E9 hR;clear hR;obtain ⟨y1,hy1,hR⟩:=hQ
 refine zcm (A6f cols rows from_ to_ y1 hy1) (A0.pick [2,3,4,5,6,7] rfl) fun ⟨⟨q9,k10⟩,hp11⟩=>?_
 obtain ⟨hc12,hl13⟩:=hp11
 have hbm:=C0s hy1
 have:=hbm.1;try rw [hy1] at this
 refine ip' 5 0 [(11,.slice q9 y1.1.length k10),(12,iv y1.2)] (ie (A7 (sr 6 rfl (ip' 3 3 [(39,bv (!decide (y2.2=0)))] ?_))))
 refine zio 3 0 39 42 (!decide (y1.2=0)) (fun g14=>?_) ?_
 ·have g14p:¬ (¬ y2.2=0):=by simpa using g14
  refine ip' 3 0 [(42,bv (!decide (y1.2=0)))] ?_
  exact zai 2 39 42 g14
 refine ie ?_
 refine zjb rfl hR ?_ ?_<;>clear hR<;>intro hR h15
 ·have h15p:(¬ y2.2=0)∨(¬ y1.2=0):=by simpa using h15
  refine sr 9 rfl (ip' 4 5 [(46,bv (decide (y2.2=y1.2)))] ?_)
  refine zid 4 1 46 50 (decide ((y1.1.length:Int)=0)) (fun g16 g16p=>?_) ?_
  ·refine ip' 4 0 [(50,bv (decide ((y1.1.length:Int)=0)))] ?_
   exact zai 2 46 50 g16
  refine ip' 1 0 [(8,bv ((decide (y2.2=y1.2))&&(decide ((y1.1.length:Int)=0))))] ?_
  subst hR
  refine ie (B1 ?_)
  exact H1 hr hD
 have h15p:¬ ((¬ y2.2=0)∨(¬ y1.2=0)):=by simpa using h15
 refine A9 (nx (sr 7 rfl (ip' 1 6 [(52,.slice q9 y1.1.length k10)] ?_)))
 have hQ:=E9 hR;clear hR;obtain ⟨y0,hy0,hR⟩:=hQ
 refine it rfl (R9 (L2:=[bx b2 (P3 to_) 54,bx b1 (O0 from_) 52]) (B1p y1.1 q9 k10 (by first|omega|(simp<;>omega)|(dsimp only;omega)|decide) (by first|omega|(simp<;>omega)|(dsimp only;omega)|decide) (by first|exact B8l hel|exact A4d hbm|exact A4d (B8d hwq.1 _)|exact fun x hx=>by rw [(hpen x hx).2];exact Nat.zero_le _|exact fun x hx=>hnt x hx|assumption|decide|exact fun x hx=>Nat.le_trans (hrow x hx) (by decide)|exact fun x hx=>Nat.le_trans (of_decide_eq_true (List.all_eq_true.1 hbt x hx)) (by decide)|(intro x hx;simp only [List.nil_append,List.mem_append] at hx;rcases hx with hx|hx<;>first|exact Nat.le_trans (hrow x hx) (by decide)|exact Nat.le_trans (hpt x hx) (by decide))|(intro x hx;rw [List.mem_singleton.1 hx];omega)|exact fun x hx=>Nat.le_trans (hrow x (List.mem_of_mem_take hx)) (by decide)|exact fun x hx=>Nat.le_trans (hrow x (List.mem_of_mem_drop hx)) (by decide)|exact fun x hx=>Nat.le_trans (hrow x (List.mem_of_mem_drop (List.mem_of_mem_take hx))) (by decide)|omega) y0 hy0) rfl rfl rfl rfl rfl (A0.pick [0,3,4,5,6,7,8] rfl) (List.Perm.refl _) (fun ⟨r17,hk18⟩=>(bx b2 (P3 to_) 54::bx b1 (O0 from_) 52::(vo cU8 5 r17 y0.1)++([]))) (fun ⟨r17,hk18⟩=>M1 [vo cU8 5 r17 y0.1,[bx b2 (P3 to_) 54],[bx b1 (O0 from_) 52]] [1,2,0] 3 rfl (by decide) (by first|rfl|simp) [[bx b2 (P3 to_) 54],[bx b1 (O0 from_) 52],vo cU8 5 r17 y0.1] rfl (by first|rfl|simp))) fun ⟨r17,hk18⟩=>?_
 have:=VOk.le hk18
 have:=VOk.cap hk18
 try have:=A8g y1.1 (fun x hx=>Nat.le_trans (hrow x (by first|exact hx|exact List.mem_of_mem_take hx|exact List.mem_of_mem_drop hx)) (by decide));try rw [hy0] at this
 refine A3w [bx b2 (P3 to_) 54,bx b1 (O0 from_) 52] [] (T:=5) (c:=cU8) (r:=r17) (xs:=y0.1) hk18 (by first|rfl|simp only [List.flatten_cons,List.flatten_nil,List.cons_append,List.append_assoc,List.nil_append,List.append_nil]) ?_
 refine ip' 5 0 [(13,.slice (va r17.q) y0.1.length r17.k),(10,iv y0.2)] (ie (A7 (sr 2 rfl (ip' 2 0 [(57,bv (!decide (y0.2=0)))] (ie ?_)))))
 refine zjn rfl hR ?_ ?_<;>clear hR<;>intro hR h19 h19p
 ·refine sr 1 rfl (ip' 1 0 [(8,bv false)] ?_)
  subst hR
  refine ie (B1 ?_)
  exact H1 hr hD
 refine A9 (nx (A7 (sr 3 rfl (ip' 3 0 [(58,.slice (va r4.q) y2.1.length r4.k),(59,iv (y2.1.length:Int)),(60,iv 0)] (ie (B2 (C9e (fun (t60:Nat)=>(t60≤y2.1.length∧M3 from_ to_ y1 y0 (y2.1.drop t60) t60=R,[(6,pt b1 0),(7,pt b2 0),(11,.slice q9 y1.1.length k10),(13,.slice (va r17.q) y0.1.length r17.k),(58,.slice (va r4.q) y2.1.length r4.k),(59,iv (y2.1.length:Int)),(60,iv (t60:Int))],[bx b2 (P3 to_) 54,bx b1 (O0 from_) 52],[sl cU8 (va r17.q) y0.1,sl B0 q9 y1.1,sl G4 (va r4.q) rs5,I4 B0 rs5 y2.1,B3p,B2n,O6,N7,K6,Q7],y2.1.length - t60)) 0 ⟨(by omega),hR⟩ (mk [true,true] rfl) A0.refl ?_)))))))
 rintro t60 ⟨hm20,hR⟩
 refine sr 1 rfl (ip' 1 0 [(61,bv (decide ((t60:Int)<(y2.1.length:Int))))] ?_)
 refine ie (A7 (A0w rfl (fun h21=>?_) (fun h21=>?_)))
 ·have h21p:(t60:Int)<(y2.1.length:Int):=by simpa using h21
  rw [A4w [] (show t60<y2.1.length by omega)] at hR;replace hR:=(M3.eq_2 ..).symm.trans hR
  refine A9 (nx (A7 (B2 (sr 3 rfl (S6 2 rfl (by omega) fun a22 hq23=>(D5 (B1e (k:=t60) (d:=(⟨none,0,0⟩:Slc)) hw7 3 rfl (by have:=hw7.1;omega)) ?_))))))
  have:=B0x hw7 (k:=t60) (d:=(⟨none,0,0⟩:Slc)) (by have:=hw7.1;omega)
  refine ix rfl (O2 B5f rfl rfl hq23 rfl t60 rfl (by omega)) (ix rfl (J3 (C9 (v:=.slice ((rs5.getD t60 (⟨none,0,0⟩:Slc)).q) ((rs5.getD t60 (⟨none,0,0⟩:Slc)).n) ((rs5.getD t60 (⟨none,0,0⟩:Slc)).k)) (us:=[.slice ((rs5.getD t60 (⟨none,0,0⟩:Slc)).q) ((rs5.getD t60 (⟨none,0,0⟩:Slc)).n) ((rs5.getD t60 (⟨none,0,0⟩:Slc)).k)]) E2z rfl rfl (R7 (c:=G4) (sz:=1) hq23 (fun _=>rfl) 3 rfl (gd (⟨none,0,0⟩:Slc) (by have:=hw7.1;omega))) rfl) (B0s hw7 (by have:=hw7.1;omega))) (ip' 1 0 [(15,.slice ((rs5.getD t60 (⟨none,0,0⟩:Slc)).q) ((y2.1.getD t60 []).length) ((rs5.getD t60 (⟨none,0,0⟩:Slc)).k))] (ie (sr 7 rfl (ip' 1 6 [(65,.slice ((rs5.getD t60 (⟨none,0,0⟩:Slc)).q) ((y2.1.getD t60 []).length) ((rs5.getD t60 (⟨none,0,0⟩:Slc)).k))] ?_)))))
  have hQ:=E9 hR;clear hR;obtain ⟨y3,hy3,hR⟩:=hQ
  refine it rfl (R9 (L2:=[bx b2 (P3 to_) 54,bx b1 (O0 from_) 52]) (B1p (y2.1.getD t60 []) ((rs5.getD t60 (⟨none,0,0⟩:Slc)).q) ((rs5.getD t60 (⟨none,0,0⟩:Slc)).k) (by first|omega|(simp<;>omega)|(dsimp only;omega)|decide) (by first|omega|(simp<;>omega)|(dsimp only;omega)|decide) (by first|exact B8l hel|exact A4d hbm|exact A4d (B8d hwq.1 _)|exact fun x hx=>by rw [(hpen x hx).2];exact Nat.zero_le _|exact fun x hx=>hnt x hx|assumption|decide|exact fun x hx=>Nat.le_trans (hrow x hx) (by decide)|exact fun x hx=>Nat.le_trans (of_decide_eq_true (List.all_eq_true.1 hbt x hx)) (by decide)|(intro x hx;simp only [List.nil_append,List.mem_append] at hx;rcases hx with hx|hx<;>first|exact Nat.le_trans (hrow x hx) (by decide)|exact Nat.le_trans (hpt x hx) (by decide))|(intro x hx;rw [List.mem_singleton.1 hx];omega)|exact fun x hx=>Nat.le_trans (hrow x (List.mem_of_mem_take hx)) (by decide)|exact fun x hx=>Nat.le_trans (hrow x (List.mem_of_mem_drop hx)) (by decide)|exact fun x hx=>Nat.le_trans (hrow x (List.mem_of_mem_drop (List.mem_of_mem_take hx))) (by decide)|omega) y3 hy3) rfl rfl rfl rfl rfl (A0.pick [0,5,6,7,8,9,10] rfl) (List.Perm.refl _) (fun ⟨r24,hk25⟩=>(bx b2 (P3 to_) 54::bx b1 (O0 from_) 52::(vo cU8 5 r24 y3.1)++([]))) (fun ⟨r24,hk25⟩=>M1 [vo cU8 5 r24 y3.1,[bx b2 (P3 to_) 54],[bx b1 (O0 from_) 52]] [1,2,0] 3 rfl (by decide) (by first|rfl|simp) [[bx b2 (P3 to_) 54],[bx b1 (O0 from_) 52],vo cU8 5 r24 y3.1] rfl (by first|rfl|simp))) fun ⟨r24,hk25⟩=>?_
  have:=VOk.le hk25
  have:=VOk.cap hk25
  try have:=A8g (y2.1.getD t60 []) (fun x hx=>Nat.le_trans (hrow x (by first|exact hx|exact List.mem_of_mem_take hx|exact List.mem_of_mem_drop hx)) (by decide));try rw [hy3] at this
  refine A3w [bx b2 (P3 to_) 54,bx b1 (O0 from_) 52] [] (T:=5) (c:=cU8) (r:=r24) (xs:=y3.1) hk25 (by first|rfl|simp only [List.flatten_cons,List.flatten_nil,List.cons_append,List.append_assoc,List.nil_append,List.append_nil]) ?_
  refine ip' 5 0 [(16,.slice (va r24.q) y3.1.length r24.k),(17,iv y3.2)] (ie (sr 9 rfl (ip' 3 6 [(71,bv (!decide (y3.2=0)))] ?_)))
  refine zio 6 0 71 77 (decide ((y3.1.length:Int)<(y0.1.length:Int))) (fun g26=>?_) ?_
  ·have g26p:¬ (¬ y3.2=0):=by simpa using g26
   refine ip' 6 0 [(77,bv (decide ((y3.1.length:Int)<(y0.1.length:Int))))] ?_
   exact zai 2 71 77 g26
  refine ie ?_
  refine zjb rfl hR ?_ ?_<;>clear hR<;>intro hR h27
  ·have h27p:(¬ y3.2=0)∨((y3.1.length:Int)<(y0.1.length:Int)):=by simpa using h27
   refine sr 1 rfl (ip' 1 0 [(8,bv false)] ?_)
   subst hR
   refine ie (B1 ?_)
   exact H1 hr hD
  have h27p:¬ ((¬ y3.2=0)∨((y3.1.length:Int)<(y0.1.length:Int))):=by simpa using h27
  refine A9 (nx (A4 2 rfl (ix rfl (B6 rfl rfl rfl rfl (by omega)) (ip' 1 0 [(60,iv ((t60:Int)+1))] (A6 ?_)))))
  exact C6s (z1:=t60) (t60+1) ⟨(by omega),hR⟩ (by (try dsimp only);omega) (mk [true,true] rfl) (A0.pick [2,3,4,5,6,7,8,9,10,11] rfl)
 have h21p:¬ ((t60:Int)<(y2.1.length:Int)):=by simpa using h21
 rw [A4t h21p] at hR;replace hR:=(M3.eq_1 ..).symm.trans hR
 refine J5 (nx (sr 8 rfl (zrl 6 2 [1,0,0] [(79,ag (O0 from_)),(84,ag (O0 ({Cur.zero with row:=to_.row,col:=to_.col})))] ?_)))
 refine ix rfl (D1x (a:=from_) (b:={Cur.zero with row:=to_.row,col:=to_.col}) E3v rfl rfl rfl) (ip' 1 0 [(18,bv (decide (from_={Cur.zero with row:=to_.row,col:=to_.col})))] (ie (sr 6 rfl (ip' 4 2 [(88,bv (decide ((y1.1.length:Int)=0))),(89,bv (decide (from_={Cur.zero with row:=to_.row,col:=to_.col})))] (ix rfl (D8u Tryz.underlying4 rfl rfl rfl) (ip' 1 0 [(8,bv ((decide ((y1.1.length:Int)=0)) == (decide (from_={Cur.zero with row:=to_.row,col:=to_.col}))))] ?_))))))
 subst hR
 refine ie (B1 ?_)
 exact H1 hr hD
end Go.Proofs.YtanighkpfmgnbaaGreatDoor
