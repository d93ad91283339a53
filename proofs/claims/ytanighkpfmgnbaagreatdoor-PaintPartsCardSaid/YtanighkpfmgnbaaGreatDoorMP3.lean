import Derived.Test.YtanighkpfmgnbaaGreatDoorProg
import Derived.Test.YtanighkpfmgnbaaGreatDoorMA2
import Derived.Test.YtanighkpfmgnbaaGreatDoorMB1
import Derived.Test.YtanighkpfmgnbaaGreatDoorMA3
import Derived.Test.YtanighkpfmgnbaaGreatDoorMB2
import Derived.Test.YtanighkpfmgnbaaGreatDoorMB3
import Derived.Test.YtanighkpfmgnbaaGreatDoorMP1
import Derived.Test.YtanighkpfmgnbaaGreatDoorMP2
set_option linter.unusedVariables false
set_option linter.unusedSimpArgs false
set_option linter.unnecessarySimpa false
set_option maxRecDepth 100000
namespace Go.Proofs.YtanighkpfmgnbaaGreatDoor
open Go Go.Fen
theorem E7c:ApTy Tryz.prog 65 73 12 96:=⟨by kernel_rfl,by kernel_rfl,rfl⟩
def A3h:List UInt8→List Cel→Nat→List Cel
 | [],out,t7=>out
 | hd_l0::tl_l0,out,t7=>A3h tl_l0 (out++([{Cel.zero with base:=(hd_l0.toNat:Int)}]:List Cel)) (t7+1)
def A7t (s:List UInt8):List Cel :=
 A3h s ([]:List Cel) 0
theorem B1t (s:List UInt8) (hs:s.length≤1000000) (R:List Cel) (hR:A7t s=R):Con Tryz.prog 56 [sv s] [] [] ({r:VR // VOk 12 R.length r}) (fun x=>.slice (va x.1.q) R.length x.1.k) (fun x=>((vo L9 73 x.1 R)++([]))) (fun x=>[]):=by
 refine zco Tryz.func56 [(0,sv s)] fun X hX hr hD=>?_
 replace hR:=(A7t.eq_1 ..).symm.trans hR
 refine sr 1 rfl (ip' 1 0 [] (ie (sr 1 rfl (ip' 1 0 [(3,.slice none 0 0)] (ie (A8 (sr 3 rfl (ip' 3 0 [(6,iv (s.length:Int)),(7,iv 0)] (ie (B4 ?_))))))))))
 refine E6d (fun (out:List Cel) (outr:VR) (t7:Nat)=>(t7≤s.length∧A3h (s.drop t7) out t7=R∧VOk 12 out.length outr∧(out.length≤t7∧t7≤s.length),[(0,sv s),(3,.slice (va outr.q) out.length outr.k),(6,iv (s.length:Int)),(7,iv (t7:Int))],((vo L9 73 outr out)++([])),[],s.length - t7)) ([]:List Cel) VR.nil 0 ⟨(by omega),hR,VOk.nil,(by exact ⟨Nat.le_refl _,Nat.zero_le _⟩)⟩ (mc [vo L9 73 VR.nil ([]:List Cel)] [true] rfl (by first|rfl|(simp only [List.length_set]<;>rfl))) fn0 ?_
 rintro out outr t7 ⟨hm1,hR,hokoutr,ho⟩
 have:=VOk.le hokoutr
 refine sr 1 rfl (ip' 1 0 [(8,bv (decide ((t7:Int)<(s.length:Int))))] ?_)
 refine ie (A8 (A1q rfl (fun h2=>?_) (fun h2=>?_)))
 ·have h2p:(t7:Int)<(s.length:Int):=by simpa using h2
  rw [A5r 0 (show t7<s.length by omega)] at hR;replace hR:=(A3h.eq_2 ..).symm.trans hR
  refine B1 (nx (A8 (B4 (sr 2 rfl (ip' 2 0 [(4,iv (t7:Int))] (ie (A5 9 rfl (ip' 3 6 [(10,.slice (va outr.q) out.length outr.k),(11,sv s),(12,iv (t7:Int))] (ix rfl (B4c (T:=9) Tryz.underlying9 rfl rfl rfl t7 rfl (by omega)) (ix rfl (A9h (c:=((s.getD t7 0).toNat:Int)) Tryz.underlying3 (by kernel_rfl) rfl rfl (A7n (s.getD t7 0))) (zrl 1 3 [] [(15,ag (L9 ({Cel.zero with base:=((s.getD t7 0).toNat:Int)})))] (it rfl (C0 (c:=L9) (xs:=([{Cel.zero with base:=((s.getD t7 0).toNat:Int)}]:List Cel)) B7r rfl rfl rfl (by kernel_rfl)) fun b3=>?_))))))))))))
  have:([{Cel.zero with base:=((s.getD t7 0).toNat:Int)}]:List Cel).length=1:=rfl
  refine it rfl (X9 (f:=L9) (r:=outr) (xs:=out) (ys:=([{Cel.zero with base:=((s.getD t7 0).toNat:Int)}]:List Cel)) (pre:=[]) (post:=[]) E7c (fun _=>rfl) (fun _=>rfl) rfl rfl rfl rfl rfl rfl rfl rfl rfl (B0 0 rfl) hokoutr (by first|omega|(simp<;>omega)) (by first|omega|(simp<;>omega))) fun ⟨r4,hr5⟩=>?_
  have:=VOk.le hr5
  have:=VOk.cap hr5
  refine ip' 1 0 [(3,.slice (va r4.q) ((out++([{Cel.zero with base:=((s.getD t7 0).toNat:Int)}]:List Cel)).length) r4.k)] (A7 (nx (A5 2 rfl (ix rfl (B7 rfl rfl rfl rfl (by omega)) (ip' 1 0 [(7,iv ((t7:Int)+1))] (A7 ?_))))))
  exact E5r (z1:=out) (z2:=outr) (z3:=t7) (out++([{Cel.zero with base:=((s.getD t7 0).toNat:Int)}]:List Cel)) r4 (t7+1) ⟨(by omega),hR,hr5,(by first|omega|(simp<;>omega))⟩ (by (try dsimp only);omega) (mc [vo L9 73 r4 (out++([{Cel.zero with base:=((s.getD t7 0).toNat:Int)}]:List Cel))] [true] rfl (by first|rfl|(simp only [List.length_set]<;>rfl))) fn0
 have h2p:¬ ((t7:Int)<(s.length:Int)):=by simpa using h2
 rw [A5s h2p] at hR;replace hR:=(A3h.eq_1 ..).symm.trans hR
 refine H7 (nx (sr 2 rfl (ip' 2 0 [(2,.slice (va outr.q) out.length outr.k)] ?_)))
 subst hR
 refine ie (B5 ?_)
 exact zer hr hD (Q9 rfl (C1 rfl)) ⟨outr,hokoutr⟩ (mc [vo L9 73 outr out] [true] rfl (by first|rfl|(simp only [List.length_set]<;>rfl))) fn0
def A4u (b:List Act):List Act→Nat→Bool
 | [],i=>true
 | hd_l0::tl_l0,i=>(bif (!(decide (hd_l0=(b.getD i Act.zero)))) then false else A4u b tl_l0 (i+1))
def S4 (a:List Act) (b:List Act):Bool :=
 (bif (!decide ((a.length:Int)=(b.length:Int))) then false else A4u b a 0)
theorem B8s (a:List Act) (b:List Act) (aq:Option Addr) (ak:Nat) (bq:Option Addr) (bk:Nat) (hla:a.length≤9223372036854775807) (hca:a.length≤ak) (hlb:b.length≤9223372036854775807) (hcb:b.length≤bk) (R:Bool) (hR:S4 a b=R):N1 Tryz.prog 29 [.slice aq a.length ak,.slice bq b.length bk] [sl A0 aq a,sl A0 bq b] (bv R):=by
 refine zco Tryz.func29 [(0,.slice aq a.length ak),(1,.slice bq b.length bk)] fun X hX hr hD=>?_
 replace hR:=(S4.eq_1 ..).symm.trans hR
 refine sr 1 rfl (ip' 1 0 [] (ie (A8 (sr 5 rfl (ip' 5 0 [(10,bv (!decide ((a.length:Int)=(b.length:Int))))] (ie ?_))))))
 refine zjn rfl hR ?_ ?_<;>clear hR<;>intro hR h1 h1p
 ·refine sr 1 rfl (ip' 1 0 [(4,bv false)] ?_)
  subst hR
  refine ie (B5 ?_)
  exact G1 hr hD
 refine B1 (nx (A8 (sr 1 rfl (ip' 1 0 [(5,iv 0)] (ie (B4 (D0s (fun (i:Nat)=>(i≤a.length∧A4u b (a.drop i) i=R,[(0,.slice aq a.length ak),(1,.slice bq b.length bk),(5,iv (i:Int))],[],[sl A0 aq a,sl A0 bq b],a.length - i)) 0 ⟨(by omega),hR⟩ (mk [] rfl) A2.refl ?_)))))))
 rintro i ⟨hm2,hR⟩
 refine A8 (sr 4 rfl (ip' 4 0 [(14,bv (decide ((i:Int)<(a.length:Int))))] ?_))
 refine ie (A1q rfl (fun h3=>?_) (fun h3=>?_))
 ·have h3p:(i:Int)<(a.length:Int):=by simpa using h3
  rw [A5r Act.zero (show i<a.length by omega)] at hR;replace hR:=(A4u.eq_2 ..).symm.trans hR
  refine B1 (nx (A8 (B4 (sd 9 rfl (by kernel_rfl) rfl (dp' 2 7 [(17,.slice aq a.length ak),(18,iv (i:Int))] ?_)))))
  refine B5x 0 rfl (by omega) fun a4 hq5=>?_
  refine dd rfl (M2 A1n rfl rfl hq5 rfl i rfl (by omega)) (dd rfl (N8 (us:=A0 (a.getD i Act.zero)) B4h rfl rfl (O2 (c:=A0) (sz:=6) hq5 (fun _=>rfl) 0 rfl (gd Act.zero (by omega))) rfl) (dp' 2 3 [(21,.slice bq b.length bk),(22,iv (i:Int))] ?_))
  refine B5x 1 rfl (by omega) fun a6 hq7=>?_
  refine dd rfl (M2 A1n rfl rfl hq7 rfl i rfl (by omega)) (dd rfl (N8 (us:=A0 (b.getD i Act.zero)) B4h rfl rfl (O2 (c:=A0) (sz:=6) hq7 (fun _=>rfl) 1 rfl (gd Act.zero (by omega))) rfl) (dd rfl (V8 (a:=(a.getD i Act.zero)) (b:=(b.getD i Act.zero)) D4i rfl rfl rfl) (de ?_)))
  refine zjn rfl hR ?_ ?_<;>clear hR<;>intro hR h8 h8p
  ·refine sr 1 rfl (ip' 1 0 [(4,bv false)] ?_)
   subst hR
   refine ie (B5 ?_)
   exact G1 hr hD
  refine B1 (nx (A5 3 rfl (ip' 1 2 [(15,iv (i:Int))] (ix rfl (B7 rfl rfl rfl rfl (by omega)) (ip' 1 0 [(5,iv ((i:Int)+1))] (A7 ?_))))))
  exact D0o (z1:=i) (i+1) ⟨(by omega),hR⟩ (by (try dsimp only);omega) (mk [] rfl) A2.refl
 have h3p:¬ ((i:Int)<(a.length:Int)):=by simpa using h3
 rw [A5s h3p] at hR;replace hR:=(A4u.eq_1 ..).symm.trans hR
 refine H7 (nx (sr 1 rfl (ip' 1 0 [(4,bv true)] ?_)))
 subst hR
 refine ie (B5 ?_)
 exact G1 hr hD
def A7z:Bool :=
 (B6 (A7t ([97,98]:List UInt8)) fun (y2:List Cel)=>(B6 (G7 y2 0 2 Sty.zero) fun (y0:List Act×Sty×Int×Int)=>(B6 (A7t ([120,32,32,32,32,32,32,32,32,32]:List UInt8)) fun (y4:List Cel)=>(B6 (G7 y4 0 10 Sty.zero) fun (y1:List Act×Sty×Int×Int)=>(B6 (A7t ([97,98]:List UInt8)) fun (y5:List Cel)=>(B6 (G7 y5 0 3 Sty.zero) fun (y3:List Act×Sty×Int×Int)=>(((((((decide (y0.2.2.2=0))&&(decide (y0.2.2.1=2)))&&(S4 y0.1 ([{Act.zero with kind:=1,n:=97},{Act.zero with kind:=1,n:=98}]:List Act)))&&(decide (y1.2.2.2=0)))&&(decide (y1.2.2.1=1)))&&(S4 y1.1 ([{Act.zero with kind:=1,n:=120},{Act.zero with kind:=30,n:=9}]:List Act)))&&(decide (y3.2.2.2=2)))))))))
theorem C5l (R:Bool) (hR:A7z=R):N1 Tryz.prog 33 [] [A1y,A1z,M9,M1,I6,N9] (bv R):=by
 refine zco Tryz.func33 [] fun X hX hr hD=>?_
 replace hR:=(A7z.eq_1 ..).symm.trans hR
 refine sr 1 rfl (ip' 1 0 [] (ie (sr 13 rfl ?_)))
 have hQ:=D0 hR;clear hR;obtain ⟨y2,hy2,hR⟩:=hQ
 refine it rfl (C4 (L2:=[]) (B1t ([97,98]:List UInt8) (by first|omega|decide) y2 hy2) rfl rfl rfl rfl rfl fn0 (List.Perm.refl _) (fun ⟨r1,hk2⟩=>((vo L9 73 r1 y2)++([]))) (fun _=>by first|rfl|simp)) fun ⟨r1,hk2⟩=>?_
 have:=VOk.le hk2
 have:=VOk.cap hk2
 refine A3f [] [] (T:=73) (c:=L9) (r:=r1) (xs:=y2) hk2 (by first|rfl|simp) ?_
 refine zrl 1 11 [] [(15,ag (A4 Sty.zero))] ?_
 have hQ:=D0 hR;clear hR;obtain ⟨y0,hy0,hR⟩:=hQ
 refine it rfl (C4 (L2:=[]) (A2d y2 0 2 Sty.zero (va r1.q) r1.k (by first|omega|(simp<;>omega)|(dsimp only;omega)|decide) (by first|omega|(simp<;>omega)|(dsimp only;omega)|decide) y0 hy0) rfl rfl rfl rfl rfl A2.refl (List.Perm.refl _) (fun ⟨r3,hk4⟩=>((vo A0 26 r3 y0.1)++([]))) (fun _=>by first|rfl|simp)) fun ⟨r3,hk4⟩=>?_
 have:=VOk.le hk4
 have:=VOk.cap hk4
 have:=A0z y2 0 2 Sty.zero;try rw [hy0] at this
 obtain ⟨_,_,_⟩:=this
 refine A3f [] [] (T:=26) (c:=A0) (r:=r3) (xs:=y0.1) hk4 (by first|rfl|simp) ?_
 refine M8 10 0 [0] (fun b5=>[(1,.slice (va r3.q) y0.1.length r3.k),(3,iv y0.2.2.1),(4,iv y0.2.2.2)]) (fun b5=>[bx b5 (A4 y0.2.1) 67]) (fun b5=>?_)
 refine ie (sr 13 rfl ?_)
 have hQ:=D0 hR;clear hR;obtain ⟨y4,hy4,hR⟩:=hQ
 refine it rfl (G8 (L2:=[bx b5 (A4 y0.2.1) 67]) (B1t ([120,32,32,32,32,32,32,32,32,32]:List UInt8) (by first|omega|decide) y4 hy4) rfl rfl rfl rfl rfl fn0 (List.Perm.refl _) (fun ⟨r6,hk7⟩=>(bx b5 (A4 y0.2.1) 67::(vo L9 73 r6 y4)++([]))) (fun ⟨r6,hk7⟩=>F8 [vo L9 73 r6 y4,[bx b5 (A4 y0.2.1) 67]] [1,0] 2 rfl (by decide) (by first|rfl|simp) [[bx b5 (A4 y0.2.1) 67],vo L9 73 r6 y4] rfl (by first|rfl|simp))) fun ⟨r6,hk7⟩=>?_
 have:=VOk.le hk7
 have:=VOk.cap hk7
 refine A3f [bx b5 (A4 y0.2.1) 67] [] (T:=73) (c:=L9) (r:=r6) (xs:=y4) hk7 (by first|rfl|simp) ?_
 refine zrl 1 11 [] [(23,ag (A4 Sty.zero))] ?_
 have hQ:=D0 hR;clear hR;obtain ⟨y1,hy1,hR⟩:=hQ
 refine it rfl (G8 (L2:=[bx b5 (A4 y0.2.1) 67]) (A2d y4 0 10 Sty.zero (va r6.q) r6.k (by first|omega|(simp<;>omega)|(dsimp only;omega)|decide) (by first|omega|(simp<;>omega)|(dsimp only;omega)|decide) y1 hy1) rfl rfl rfl rfl rfl (A2.pick [0,3,4,5,6,7,8] rfl) (List.Perm.refl _) (fun ⟨r8,hk9⟩=>(bx b5 (A4 y0.2.1) 67::(vo A0 26 r8 y1.1)++([]))) (fun ⟨r8,hk9⟩=>F8 [vo A0 26 r8 y1.1,[bx b5 (A4 y0.2.1) 67]] [1,0] 2 rfl (by decide) (by first|rfl|simp) [[bx b5 (A4 y0.2.1) 67],vo A0 26 r8 y1.1] rfl (by first|rfl|simp))) fun ⟨r8,hk9⟩=>?_
 have:=VOk.le hk9
 have:=VOk.cap hk9
 have:=A0z y4 0 10 Sty.zero;try rw [hy1] at this
 obtain ⟨_,_,_⟩:=this
 refine A3f [bx b5 (A4 y0.2.1) 67] [] (T:=26) (c:=A0) (r:=r8) (xs:=y1.1) hk9 (by first|rfl|simp) ?_
 refine M8 10 0 [0] (fun b10=>[(5,.slice (va r8.q) y1.1.length r8.k),(7,iv y1.2.2.1),(8,iv y1.2.2.2)]) (fun b10=>[bx b10 (A4 y1.2.1) 67,bx b5 (A4 y0.2.1) 67]) (fun b10=>?_)
 refine ie (sr 13 rfl ?_)
 have hQ:=D0 hR;clear hR;obtain ⟨y5,hy5,hR⟩:=hQ
 refine it rfl (G8 (L2:=[bx b10 (A4 y1.2.1) 67,bx b5 (A4 y0.2.1) 67]) (B1t ([97,98]:List UInt8) (by first|omega|decide) y5 hy5) rfl rfl rfl rfl rfl fn0 (List.Perm.refl _) (fun ⟨r11,hk12⟩=>(bx b10 (A4 y1.2.1) 67::bx b5 (A4 y0.2.1) 67::(vo L9 73 r11 y5)++([]))) (fun ⟨r11,hk12⟩=>F8 [vo L9 73 r11 y5,[bx b10 (A4 y1.2.1) 67],[bx b5 (A4 y0.2.1) 67]] [1,2,0] 3 rfl (by decide) (by first|rfl|simp) [[bx b10 (A4 y1.2.1) 67],[bx b5 (A4 y0.2.1) 67],vo L9 73 r11 y5] rfl (by first|rfl|simp))) fun ⟨r11,hk12⟩=>?_
 have:=VOk.le hk12
 have:=VOk.cap hk12
 refine A3f [bx b10 (A4 y1.2.1) 67,bx b5 (A4 y0.2.1) 67] [] (T:=73) (c:=L9) (r:=r11) (xs:=y5) hk12 (by first|rfl|simp) ?_
 refine zrl 1 11 [] [(31,ag (A4 Sty.zero))] ?_
 have hQ:=D0 hR;clear hR;obtain ⟨y3,hy3,hR⟩:=hQ
 refine it rfl (G8 (L2:=[bx b10 (A4 y1.2.1) 67,bx b5 (A4 y0.2.1) 67]) (A2d y5 0 3 Sty.zero (va r11.q) r11.k (by first|omega|(simp<;>omega)|(dsimp only;omega)|decide) (by first|omega|(simp<;>omega)|(dsimp only;omega)|decide) y3 hy3) rfl rfl rfl rfl rfl (A2.pick [0,5,6,7,8,9,10] rfl) (List.Perm.refl _) (fun ⟨r13,hk14⟩=>(bx b10 (A4 y1.2.1) 67::bx b5 (A4 y0.2.1) 67::(vo A0 26 r13 y3.1)++([]))) (fun ⟨r13,hk14⟩=>F8 [vo A0 26 r13 y3.1,[bx b10 (A4 y1.2.1) 67],[bx b5 (A4 y0.2.1) 67]] [1,2,0] 3 rfl (by decide) (by first|rfl|simp) [[bx b10 (A4 y1.2.1) 67],[bx b5 (A4 y0.2.1) 67],vo A0 26 r13 y3.1] rfl (by first|rfl|simp))) fun ⟨r13,hk14⟩=>?_
 have:=VOk.le hk14
 have:=VOk.cap hk14
 have:=A0z y5 0 3 Sty.zero;try rw [hy3] at this
 obtain ⟨_,_,_⟩:=this
 refine A3f [bx b10 (A4 y1.2.1) 67,bx b5 (A4 y0.2.1) 67] [] (T:=26) (c:=A0) (r:=r13) (xs:=y3.1) hk14 (by first|rfl|simp) ?_
 refine M8 10 0 [0] (fun b15=>[(12,iv y3.2.2.2)]) (fun b15=>[bx b15 (A4 y3.2.1) 67,bx b10 (A4 y1.2.1) 67,bx b5 (A4 y0.2.1) 67]) (fun b15=>?_)
 refine ie (sr 33 rfl (ip' 3 30 [(39,bv (decide (y0.2.2.2=0)))] ?_))
 refine zid 3 27 39 42 (decide (y0.2.2.1=2)) (fun g16 g16p=>?_) ?_
 ·refine ip' 3 0 [(42,bv (decide (y0.2.2.1=2)))] ?_
  exact zai 2 39 42 g16
 refine ip' 1 26 [(43,bv ((decide (y0.2.2.2=0))&&(decide (y0.2.2.1=2))))] ?_
 refine zia 6 20 43 49 (S4 y0.1 ([{Act.zero with kind:=1,n:=97},{Act.zero with kind:=1,n:=98}]:List Act)) (fun g17=>?_) ?_
 ·have g17p:(y0.2.2.2=0)∧(y0.2.2.1=2):=by simpa using g17
  refine zrl 3 3 [] [(44,.slice (va r3.q) y0.1.length r3.k),(45,ag (A0 ({Act.zero with kind:=1,n:=97}))),(46,ag (A0 ({Act.zero with kind:=1,n:=98})))] (it rfl (C0 (c:=A0) (xs:=([{Act.zero with kind:=1,n:=97},{Act.zero with kind:=1,n:=98}]:List Act)) A1n rfl rfl rfl (by kernel_rfl)) fun b18=>?_)
  have:([{Act.zero with kind:=1,n:=97},{Act.zero with kind:=1,n:=98}]:List Act).length=2:=rfl
  refine zca (B8s y0.1 ([{Act.zero with kind:=1,n:=97},{Act.zero with kind:=1,n:=98}]:List Act) (va r3.q) r3.k (some ⟨b18,0,none⟩) 2 (by first|omega|(simp<;>omega)|(dsimp only;omega)|decide) (by first|omega|(simp<;>omega)|(dsimp only;omega)|decide) (by first|omega|(simp<;>omega)|(dsimp only;omega)|decide) (by first|omega|(simp<;>omega)|(dsimp only;omega)|decide) _ rfl) (A2.pick [5,0] rfl) (ip' 1 0 [(49,bv (S4 y0.1 ([{Act.zero with kind:=1,n:=97},{Act.zero with kind:=1,n:=98}]:List Act)))] ?_)
  exact A7 (U9 7 43 49 g17 (A2.pick [1,2,3,4,5,6,7,8,9,10,11,12] rfl) (mk [true,true,true] rfl) rfl rfl rfl rfl rfl)
 refine ip' 1 19 [(50,bv (((decide (y0.2.2.2=0))&&(decide (y0.2.2.1=2)))&&(S4 y0.1 ([{Act.zero with kind:=1,n:=97},{Act.zero with kind:=1,n:=98}]:List Act))))] ?_
 refine zia 3 16 50 53 (decide (y1.2.2.2=0)) (fun g19=>?_) ?_
 ·have g19p:=g19;try simp at g19p
  refine ip' 3 0 [(53,bv (decide (y1.2.2.2=0)))] ?_
  exact zai 2 50 53 g19
 refine ip' 1 15 [(54,bv ((((decide (y0.2.2.2=0))&&(decide (y0.2.2.1=2)))&&(S4 y0.1 ([{Act.zero with kind:=1,n:=97},{Act.zero with kind:=1,n:=98}]:List Act)))&&(decide (y1.2.2.2=0))))] ?_
 refine zia 3 12 54 57 (decide (y1.2.2.1=1)) (fun g20=>?_) ?_
 ·have g20p:=g20;try simp at g20p
  refine ip' 3 0 [(57,bv (decide (y1.2.2.1=1)))] ?_
  exact zai 2 54 57 g20
 refine ip' 1 11 [(58,bv (((((decide (y0.2.2.2=0))&&(decide (y0.2.2.1=2)))&&(S4 y0.1 ([{Act.zero with kind:=1,n:=97},{Act.zero with kind:=1,n:=98}]:List Act)))&&(decide (y1.2.2.2=0)))&&(decide (y1.2.2.1=1))))] ?_
 refine zia 6 5 58 64 (S4 y1.1 ([{Act.zero with kind:=1,n:=120},{Act.zero with kind:=30,n:=9}]:List Act)) (fun g21=>?_) ?_
 ·have g21p:=g21;try simp at g21p
  refine zrl 3 3 [] [(59,.slice (va r8.q) y1.1.length r8.k),(60,ag (A0 ({Act.zero with kind:=1,n:=120}))),(61,ag (A0 ({Act.zero with kind:=30,n:=9})))] (it rfl (C0 (c:=A0) (xs:=([{Act.zero with kind:=1,n:=120},{Act.zero with kind:=30,n:=9}]:List Act)) A1n rfl rfl rfl (by kernel_rfl)) fun b22=>?_)
  have:([{Act.zero with kind:=1,n:=120},{Act.zero with kind:=30,n:=9}]:List Act).length=2:=rfl
  refine zca (B8s y1.1 ([{Act.zero with kind:=1,n:=120},{Act.zero with kind:=30,n:=9}]:List Act) (va r8.q) r8.k (some ⟨b22,0,none⟩) 2 (by first|omega|(simp<;>omega)|(dsimp only;omega)|decide) (by first|omega|(simp<;>omega)|(dsimp only;omega)|decide) (by first|omega|(simp<;>omega)|(dsimp only;omega)|decide) (by first|omega|(simp<;>omega)|(dsimp only;omega)|decide) _ rfl) (A2.pick [3,0] rfl) (ip' 1 0 [(64,bv (S4 y1.1 ([{Act.zero with kind:=1,n:=120},{Act.zero with kind:=30,n:=9}]:List Act)))] ?_)
  exact A7 (U9 7 58 64 g21 (A2.pick [1,2,3,4,5,6,7,8,9,10,11,12] rfl) (mk [true,true,true] rfl) rfl rfl rfl rfl rfl)
 refine ip' 1 4 [(65,bv ((((((decide (y0.2.2.2=0))&&(decide (y0.2.2.1=2)))&&(S4 y0.1 ([{Act.zero with kind:=1,n:=97},{Act.zero with kind:=1,n:=98}]:List Act)))&&(decide (y1.2.2.2=0)))&&(decide (y1.2.2.1=1)))&&(S4 y1.1 ([{Act.zero with kind:=1,n:=120},{Act.zero with kind:=30,n:=9}]:List Act))))] ?_
 refine zia 3 1 65 68 (decide (y3.2.2.2=2)) (fun g23=>?_) ?_
 ·have g23p:=g23;try simp at g23p
  refine ip' 3 0 [(68,bv (decide (y3.2.2.2=2)))] ?_
  exact zai 2 65 68 g23
 refine ip' 1 0 [(0,bv (((((((decide (y0.2.2.2=0))&&(decide (y0.2.2.1=2)))&&(S4 y0.1 ([{Act.zero with kind:=1,n:=97},{Act.zero with kind:=1,n:=98}]:List Act)))&&(decide (y1.2.2.2=0)))&&(decide (y1.2.2.1=1)))&&(S4 y1.1 ([{Act.zero with kind:=1,n:=120},{Act.zero with kind:=30,n:=9}]:List Act)))&&(decide (y3.2.2.2=2))))] ?_
 subst hR
 refine ie (B5 ?_)
 exact G1 hr hD
end Go.Proofs.YtanighkpfmgnbaaGreatDoor
set_option linter.unusedVariables false
set_option linter.unusedSimpArgs false
set_option linter.unnecessarySimpa false
set_option maxRecDepth 100000
namespace Go.Proofs.YtanighkpfmgnbaaGreatDoor
open Go Go.Fen
end Go.Proofs.YtanighkpfmgnbaaGreatDoor
set_option linter.unusedVariables false
set_option linter.unusedSimpArgs false
set_option linter.unnecessarySimpa false
set_option maxRecDepth 100000
namespace Go.Proofs.YtanighkpfmgnbaaGreatDoor
open Go Go.Fen
def G2 (s2:List Act):List Act→Nat→Bool
 | [],t13=>true
 | hd_l0::tl_l0,t13=>(bif (!(decide (hd_l0=(s2.getD t13 Act.zero)))) then false else G2 s2 tl_l0 (t13+1))
def G0 (s1:List Act) (s2:List Act):Bool :=
 (bif (!decide ((s1.length:Int)=(s2.length:Int))) then false else G2 s2 s1 0)
theorem A4q (s1:List Act) (s2:List Act) (s1q:Option Addr) (s1k:Nat) (s2q:Option Addr) (s2k:Nat) (hls1:s1.length≤9223372036854775807) (hcs1:s1.length≤s1k) (hls2:s2.length≤9223372036854775807) (hcs2:s2.length≤s2k) (R:Bool) (hR:G0 s1 s2=R):N1 Tryz.prog 37 [.slice s1q s1.length s1k,.slice s2q s2.length s2k] [sl A0 s1q s1,sl A0 s2q s2] (bv R):=by
 refine zco Tryz.func37 [(0,.slice s1q s1.length s1k),(1,.slice s2q s2.length s2k)] fun X hX hr hD=>?_
 replace hR:=(G0.eq_1 ..).symm.trans hR
 refine sr 1 rfl (ip' 1 0 [] (ie (A8 (sr 5 rfl (ip' 5 0 [(10,bv (!decide ((s1.length:Int)=(s2.length:Int))))] (ie ?_))))))
 refine zjn rfl hR ?_ ?_<;>clear hR<;>intro hR h1 h1p
 ·refine sr 1 rfl (ip' 1 0 [(4,bv false)] ?_)
  subst hR
  refine ie (B5 ?_)
  exact G1 hr hD
 refine B1 (nx (A8 (sr 3 rfl (ip' 3 0 [(12,iv (s1.length:Int)),(13,iv 0)] (ie (B4 (D0s (fun (t13:Nat)=>(t13≤s1.length∧G2 s2 (s1.drop t13) t13=R,[(0,.slice s1q s1.length s1k),(1,.slice s2q s2.length s2k),(12,iv (s1.length:Int)),(13,iv (t13:Int))],[],[sl A0 s1q s1,sl A0 s2q s2],s1.length - t13)) 0 ⟨(by omega),hR⟩ (mk [] rfl) A2.refl ?_)))))))
 rintro t13 ⟨hm2,hR⟩
 refine sr 1 rfl (ip' 1 0 [(14,bv (decide ((t13:Int)<(s1.length:Int))))] ?_)
 refine ie (A8 (A1q rfl (fun h3=>?_) (fun h3=>?_)))
 ·have h3p:(t13:Int)<(s1.length:Int):=by simpa using h3
  rw [A5r Act.zero (show t13<s1.length by omega)] at hR;replace hR:=(G2.eq_2 ..).symm.trans hR
  refine B1 (nx (A8 (B4 (sr 2 rfl (ip' 2 0 [(5,iv (t13:Int))] (ie (sd 9 rfl (by kernel_rfl) rfl (dp' 2 7 [(16,.slice s1q s1.length s1k),(17,iv (t13:Int))] ?_))))))))
  refine B5x 0 rfl (by omega) fun a4 hq5=>?_
  refine dd rfl (M2 A1n rfl rfl hq5 rfl t13 rfl (by omega)) (dd rfl (N8 (us:=A0 (s1.getD t13 Act.zero)) B4h rfl rfl (O2 (c:=A0) (sz:=6) hq5 (fun _=>rfl) 0 rfl (gd Act.zero (by omega))) rfl) (dp' 2 3 [(20,.slice s2q s2.length s2k),(21,iv (t13:Int))] ?_))
  refine B5x 1 rfl (by omega) fun a6 hq7=>?_
  refine dd rfl (M2 A1n rfl rfl hq7 rfl t13 rfl (by omega)) (dd rfl (N8 (us:=A0 (s2.getD t13 Act.zero)) B4h rfl rfl (O2 (c:=A0) (sz:=6) hq7 (fun _=>rfl) 1 rfl (gd Act.zero (by omega))) rfl) (dd rfl (V8 (a:=(s1.getD t13 Act.zero)) (b:=(s2.getD t13 Act.zero)) D4i rfl rfl rfl) (de ?_)))
  refine zjn rfl hR ?_ ?_<;>clear hR<;>intro hR h8 h8p
  ·refine sr 1 rfl (ip' 1 0 [(4,bv false)] ?_)
   subst hR
   refine ie (B5 ?_)
   exact G1 hr hD
  refine B1 (nx (A5 2 rfl (ix rfl (B7 rfl rfl rfl rfl (by omega)) (ip' 1 0 [(13,iv ((t13:Int)+1))] (A7 ?_)))))
  exact D0o (z1:=t13) (t13+1) ⟨(by omega),hR⟩ (by (try dsimp only);omega) (mk [] rfl) A2.refl
 have h3p:¬ ((t13:Int)<(s1.length:Int)):=by simpa using h3
 rw [A5s h3p] at hR;replace hR:=(G2.eq_1 ..).symm.trans hR
 refine H7 (nx (sr 1 rfl (ip' 1 0 [(4,bv true)] ?_)))
 subst hR
 refine ie (B5 ?_)
 exact G1 hr hD
def A4l (x:List Cel) (from_:Int) (mid:Int) (to_:Int) (pen:Sty):Bool :=
 (bif (!A7z) then false else (B6 (G7 x from_ from_ pen) fun (y0:List Act×Sty×Int×Int)=>(bif ((decide (y0.2.2.2=0))&&(((decide ((0:Int)<(y0.1.length:Int)))||(!(decide (y0.2.1=pen))))||(!decide (y0.2.2.1=from_)))) then false else (B6 (G7 x from_ mid pen) fun (y1:List Act×Sty×Int×Int)=>(B6 (G7 x mid to_ y1.2.1) fun (y2:List Act×Sty×Int×Int)=>(B6 (G7 x from_ to_ pen) fun (y3:List Act×Sty×Int×Int)=>(bif (((!decide (y1.2.2.2=0))||(!decide (y2.2.2.2=0)))||(!decide (y3.2.2.2=0))) then true else (bif (((((decide (mid=from_))||(decide (mid=to_)))||(decide ((x.getD ((mid).toNat) Cel.zero)=(x.getD ((IntKind.i64.wrap (mid - (1:Int))).toNat) Cel.zero))))||(decide ((x.getD ((IntKind.i64.wrap (mid - (1:Int))).toNat) Cel.zero).wide=2)))||(!decide (y1.2.2.1=mid))) then true else (((G0 y3.1 (y1.1++y2.1))&&(decide (y3.2.1=y2.2.1)))&&(decide (y3.2.2.1=y2.2.2.1)))))))))))
theorem B7f (x:List Cel) (from_:Int) (mid:Int) (to_:Int) (pen:Sty) (xq:Option Addr) (xk:Nat) (hlx:x.length≤9223372036854775807) (hcx:x.length≤xk) (R:Bool) (hR:A4l x from_ mid to_ pen=R):N1 Tryz.prog 13 [.slice xq x.length xk,iv from_,iv mid,iv to_,ag (A4 pen)] [sl L9 xq x,A1y,A1z,M9,M1,I6,N9] (bv R):=by
 refine zco Tryz.func13 [(0,.slice xq x.length xk),(1,iv from_),(2,iv mid),(3,iv to_),(4,ag (A4 pen))] fun X hX hr hD=>?_
 replace hR:=(A4l.eq_1 ..).symm.trans hR
 refine sr 2 rfl (M8 2 0 [] (fun b1=>[(9,pt b1 0)]) (fun b1=>[bx b1 (A4 pen) 67]) (fun b1=>(ie (A8 (sr 2 rfl (zca (C5l _ rfl) (A2.pick [1,2,3,4,5,6] rfl) (ip' 1 0 [(28,bv (!A7z))] (ie ?_))))))))
 refine zjb rfl hR ?_ ?_<;>clear hR<;>intro hR h2
 ·refine sr 1 rfl (ip' 1 0 [(10,bv false)] ?_)
  subst hR
  refine ie (B5 ?_)
  exact G1 hr hD
 refine B1 (nx (A8 (sr 15 rfl (zrl 4 11 [0] [(30,.slice xq x.length xk),(31,iv from_),(32,iv from_),(33,ag (A4 pen))] ?_))))
 have hQ:=D0 hR;clear hR;obtain ⟨y0,hy0,hR⟩:=hQ
 refine it rfl (G8 (L2:=[bx b1 (A4 pen) 67]) (A2d x from_ from_ pen xq xk (by first|omega|(simp<;>omega)|(dsimp only;omega)|decide) (by first|omega|(simp<;>omega)|(dsimp only;omega)|decide) y0 hy0) rfl rfl rfl rfl rfl A2.refl (List.Perm.refl _) (fun ⟨r3,hk4⟩=>(bx b1 (A4 pen) 67::(vo A0 26 r3 y0.1)++([]))) (fun ⟨r3,hk4⟩=>F8 [vo A0 26 r3 y0.1,[bx b1 (A4 pen) 67]] [1,0] 2 rfl (by decide) (by first|rfl|simp) [[bx b1 (A4 pen) 67],vo A0 26 r3 y0.1] rfl (by first|rfl|simp))) fun ⟨r3,hk4⟩=>?_
 have:=VOk.le hk4
 have:=VOk.cap hk4
 have:=A0z x from_ from_ pen;try rw [hy0] at this
 obtain ⟨_,_,_⟩:=this
 refine A3f [bx b1 (A4 pen) 67] [] (T:=26) (c:=A0) (r:=r3) (xs:=y0.1) hk4 (by first|rfl|simp) ?_
 refine M8 10 0 [0] (fun b5=>[(12,pt b5 0),(11,.slice (va r3.q) y0.1.length r3.k),(13,iv y0.2.2.1),(14,iv y0.2.2.2)]) (fun b5=>[bx b5 (A4 y0.2.1) 67,bx b1 (A4 pen) 67]) (fun b5=>?_)
 refine ie (sr 17 rfl (ip' 3 14 [(41,bv (decide (y0.2.2.2=0)))] ?_))
 refine zid 14 0 41 55 (((decide ((0:Int)<(y0.1.length:Int)))||(!(decide (y0.2.1=pen))))||(!decide (y0.2.2.1=from_))) (fun g6 g6p=>?_) ?_
 ·refine ip' 4 10 [(45,bv (decide ((0:Int)<(y0.1.length:Int))))] ?_
  refine zir 4 6 45 49 (!(decide (y0.2.1=pen))) (fun g7 g7p=>?_) ?_
  ·refine zrl 2 2 [0,1] [(46,ag (A4 y0.2.1)),(47,ag (A4 pen))] (ix rfl (V8 (a:=y0.2.1) (b:=pen) D0r rfl rfl rfl) (ip' 1 0 [(49,bv (!(decide (y0.2.1=pen))))] ?_))
   exact zai 5 45 49 g7
  refine ip' 1 5 [(50,bv ((decide ((0:Int)<(y0.1.length:Int)))||(!(decide (y0.2.1=pen)))))] ?_
  refine zio 4 1 50 54 (!decide (y0.2.2.1=from_)) (fun g8=>?_) ?_
  ·have g8p:¬ (((0:Int)<(y0.1.length:Int))∨(¬ y0.2.1=pen)):=by simpa using g8
   refine ip' 4 0 [(54,bv (!decide (y0.2.2.1=from_)))] ?_
   exact zai 2 50 54 g8
  refine ip' 1 0 [(55,bv (((decide ((0:Int)<(y0.1.length:Int)))||(!(decide (y0.2.1=pen))))||(!decide (y0.2.2.1=from_))))] ?_
  exact zai 6 41 55 g6
 refine ie ?_
 refine zjb rfl hR ?_ ?_<;>clear hR<;>intro hR h9
 ·have h9p:(y0.2.2.2=0)∧((((0:Int)<(y0.1.length:Int))∨(¬ y0.2.1=pen))∨(¬ y0.2.2.1=from_)):=by simpa using h9
  refine sr 1 rfl (ip' 1 0 [(10,bv false)] ?_)
  subst hR
  refine ie (B5 ?_)
  exact G1 hr hD
 have h9p:¬ ((y0.2.2.2=0)∧((((0:Int)<(y0.1.length:Int))∨(¬ y0.2.1=pen))∨(¬ y0.2.2.1=from_))):=by simpa using h9
 refine B1 (nx (sr 15 rfl (zrl 4 11 [1] [(57,.slice xq x.length xk),(58,iv from_),(59,iv mid),(60,ag (A4 pen))] ?_)))
 have hQ:=D0 hR;clear hR;obtain ⟨y1,hy1,hR⟩:=hQ
 refine it rfl (G8 (L2:=[bx b5 (A4 y0.2.1) 67,bx b1 (A4 pen) 67]) (A2d x from_ mid pen xq xk (by first|omega|(simp<;>omega)|(dsimp only;omega)|decide) (by first|omega|(simp<;>omega)|(dsimp only;omega)|decide) y1 hy1) rfl rfl rfl rfl rfl (A2.pick [1,2,3,4,5,6,7] rfl) (List.Perm.refl _) (fun ⟨r10,hk11⟩=>(bx b5 (A4 y0.2.1) 67::bx b1 (A4 pen) 67::(vo A0 26 r10 y1.1)++([]))) (fun ⟨r10,hk11⟩=>F8 [vo A0 26 r10 y1.1,[bx b5 (A4 y0.2.1) 67],[bx b1 (A4 pen) 67]] [1,2,0] 3 rfl (by decide) (by first|rfl|simp) [[bx b5 (A4 y0.2.1) 67],[bx b1 (A4 pen) 67],vo A0 26 r10 y1.1] rfl (by first|rfl|simp))) fun ⟨r10,hk11⟩=>?_
 have:=VOk.le hk11
 have:=VOk.cap hk11
 have:=A0z x from_ mid pen;try rw [hy1] at this
 obtain ⟨_,_,_⟩:=this
 refine A3f [bx b5 (A4 y0.2.1) 67,bx b1 (A4 pen) 67] [] (T:=26) (c:=A0) (r:=r10) (xs:=y1.1) hk11 (by first|rfl|simp) ?_
 refine M8 10 0 [0] (fun b12=>[(16,pt b12 0),(15,.slice (va r10.q) y1.1.length r10.k),(17,iv y1.2.2.1),(18,iv y1.2.2.2)]) (fun b12=>[bx b12 (A4 y1.2.1) 67,bx b5 (A4 y0.2.1) 67,bx b1 (A4 pen) 67]) (fun b12=>?_)
 refine ie (sr 15 rfl (zrl 4 11 [0] [(67,.slice xq x.length xk),(68,iv mid),(69,iv to_),(70,ag (A4 y1.2.1))] ?_))
 have hQ:=D0 hR;clear hR;obtain ⟨y2,hy2,hR⟩:=hQ
 refine it rfl (G8 (L2:=[bx b12 (A4 y1.2.1) 67,bx b5 (A4 y0.2.1) 67,bx b1 (A4 pen) 67]) (A2d x mid to_ y1.2.1 xq xk (by first|omega|(simp<;>omega)|(dsimp only;omega)|decide) (by first|omega|(simp<;>omega)|(dsimp only;omega)|decide) y2 hy2) rfl rfl rfl rfl rfl (A2.pick [2,3,4,5,6,7,8] rfl) (List.Perm.refl _) (fun ⟨r13,hk14⟩=>(bx b12 (A4 y1.2.1) 67::bx b5 (A4 y0.2.1) 67::bx b1 (A4 pen) 67::(vo A0 26 r13 y2.1)++([]))) (fun ⟨r13,hk14⟩=>F8 [vo A0 26 r13 y2.1,[bx b12 (A4 y1.2.1) 67],[bx b5 (A4 y0.2.1) 67],[bx b1 (A4 pen) 67]] [1,2,3,0] 4 rfl (by decide) (by first|rfl|simp) [[bx b12 (A4 y1.2.1) 67],[bx b5 (A4 y0.2.1) 67],[bx b1 (A4 pen) 67],vo A0 26 r13 y2.1] rfl (by first|rfl|simp))) fun ⟨r13,hk14⟩=>?_
 have:=VOk.le hk14
 have:=VOk.cap hk14
 have:=A0z x mid to_ y1.2.1;try rw [hy2] at this
 obtain ⟨_,_,_⟩:=this
 refine A3f [bx b12 (A4 y1.2.1) 67,bx b5 (A4 y0.2.1) 67,bx b1 (A4 pen) 67] [] (T:=26) (c:=A0) (r:=r13) (xs:=y2.1) hk14 (by first|rfl|simp) ?_
 refine M8 10 0 [0] (fun b15=>[(20,pt b15 0),(19,.slice (va r13.q) y2.1.length r13.k),(21,iv y2.2.2.1),(22,iv y2.2.2.2)]) (fun b15=>[bx b15 (A4 y2.2.1) 67,bx b12 (A4 y1.2.1) 67,bx b5 (A4 y0.2.1) 67,bx b1 (A4 pen) 67]) (fun b15=>?_)
 refine ie (sr 15 rfl (zrl 4 11 [3] [(77,.slice xq x.length xk),(78,iv from_),(79,iv to_),(80,ag (A4 pen))] ?_))
 have hQ:=D0 hR;clear hR;obtain ⟨y3,hy3,hR⟩:=hQ
 refine it rfl (G8 (L2:=[bx b15 (A4 y2.2.1) 67,bx b12 (A4 y1.2.1) 67,bx b5 (A4 y0.2.1) 67,bx b1 (A4 pen) 67]) (A2d x from_ to_ pen xq xk (by first|omega|(simp<;>omega)|(dsimp only;omega)|decide) (by first|omega|(simp<;>omega)|(dsimp only;omega)|decide) y3 hy3) rfl rfl rfl rfl rfl (A2.pick [3,4,5,6,7,8,9] rfl) (List.Perm.refl _) (fun ⟨r16,hk17⟩=>(bx b15 (A4 y2.2.1) 67::bx b12 (A4 y1.2.1) 67::bx b5 (A4 y0.2.1) 67::bx b1 (A4 pen) 67::(vo A0 26 r16 y3.1)++([]))) (fun ⟨r16,hk17⟩=>F8 [vo A0 26 r16 y3.1,[bx b15 (A4 y2.2.1) 67],[bx b12 (A4 y1.2.1) 67],[bx b5 (A4 y0.2.1) 67],[bx b1 (A4 pen) 67]] [1,2,3,4,0] 5 rfl (by decide) (by first|rfl|simp) [[bx b15 (A4 y2.2.1) 67],[bx b12 (A4 y1.2.1) 67],[bx b5 (A4 y0.2.1) 67],[bx b1 (A4 pen) 67],vo A0 26 r16 y3.1] rfl (by first|rfl|simp))) fun ⟨r16,hk17⟩=>?_
 have:=VOk.le hk17
 have:=VOk.cap hk17
 have:=A0z x from_ to_ pen;try rw [hy3] at this
 obtain ⟨_,_,_⟩:=this
 refine A3f [bx b15 (A4 y2.2.1) 67,bx b12 (A4 y1.2.1) 67,bx b5 (A4 y0.2.1) 67,bx b1 (A4 pen) 67] [] (T:=26) (c:=A0) (r:=r16) (xs:=y3.1) hk17 (by first|rfl|simp) ?_
 refine M8 10 0 [0] (fun b18=>[(24,pt b18 0),(23,.slice (va r16.q) y3.1.length r16.k),(25,iv y3.2.2.1),(26,iv y3.2.2.2)]) (fun b18=>[bx b18 (A4 y3.2.1) 67,bx b15 (A4 y2.2.1) 67,bx b12 (A4 y1.2.1) 67,bx b5 (A4 y0.2.1) 67,bx b1 (A4 pen) 67]) (fun b18=>?_)
 refine ie (A8 (sr 10 rfl (ip' 3 7 [(88,bv (!decide (y1.2.2.2=0)))] ?_)))
 refine zio 3 4 88 91 (!decide (y2.2.2.2=0)) (fun g19=>?_) ?_
 ·have g19p:¬ (¬ y1.2.2.2=0):=by simpa using g19
  refine ip' 3 0 [(91,bv (!decide (y2.2.2.2=0)))] ?_
  exact zai 2 88 91 g19
 refine ip' 1 3 [(92,bv ((!decide (y1.2.2.2=0))||(!decide (y2.2.2.2=0))))] ?_
 refine zio 3 0 92 95 (!decide (y3.2.2.2=0)) (fun g20=>?_) ?_
 ·have g20p:¬ ((¬ y1.2.2.2=0)∨(¬ y2.2.2.2=0)):=by simpa using g20
  refine ip' 3 0 [(95,bv (!decide (y3.2.2.2=0)))] ?_
  exact zai 2 92 95 g20
 refine ie ?_
 refine zjb rfl hR ?_ ?_<;>clear hR<;>intro hR h21
 ·have h21p:((¬ y1.2.2.2=0)∨(¬ y2.2.2.2=0))∨(¬ y3.2.2.2=0):=by simpa using h21
  refine sr 1 rfl (ip' 1 0 [(10,bv true)] ?_)
  subst hR
  refine ie (B5 ?_)
  exact G1 hr hD
 have h21p:¬ (((¬ y1.2.2.2=0)∨(¬ y2.2.2.2=0))∨(¬ y3.2.2.2=0)):=by simpa using h21
 have hwm:IntKind.i64.wrap (mid - 1)=mid - 1:=wr6 (by omega)
 refine B1 (nx (A8 (sd 34 rfl (by kernel_rfl) rfl (dp' 4 30 [(99,bv (decide (mid=from_)))] ?_))))
 refine zdr 4 26 99 103 (decide (mid=to_)) (fun g22 g22p=>?_) ?_
 ·refine dp' 4 0 [(103,bv (decide (mid=to_)))] ?_
  exact zad 2 99 103 g22
 refine dp' 1 25 [(104,bv ((decide (mid=from_))||(decide (mid=to_))))] ?_
 refine zdO 11 14 104 115 (decide ((x.getD ((mid).toNat) Cel.zero)=(x.getD ((IntKind.i64.wrap (mid - (1:Int))).toNat) Cel.zero))) (fun g23=>?_) ?_
 ·have g23p:¬ ((mid=from_)∨(mid=to_)):=by simpa using g23
  refine dp' 2 9 [(105,.slice xq x.length xk),(106,iv mid)] ?_
  refine B5x 4 rfl (by omega) fun a24 hq25=>?_
  refine dd rfl (M2 B7r rfl rfl hq25 rfl ((mid).toNat) (by omega) (by omega)) (dd rfl (N8 (us:=L9 (x.getD ((mid).toNat) Cel.zero)) D6b rfl rfl (O2 (c:=L9) (sz:=12) hq25 (fun _=>rfl) 4 rfl (gd Cel.zero (by omega))) rfl) (dp' 2 5 [(109,.slice xq x.length xk),(110,iv mid)] (dd rfl (I5.pure rfl) (dd rfl (M2 B7r rfl rfl hq25 rfl ((IntKind.i64.wrap (mid - (1:Int))).toNat) (by omega) (by omega)) (dd rfl (N8 (us:=L9 (x.getD ((IntKind.i64.wrap (mid - (1:Int))).toNat) Cel.zero)) D6b rfl rfl (O2 (c:=L9) (sz:=12) hq25 (fun _=>rfl) 4 rfl (gd Cel.zero (by omega))) rfl) (dd rfl (B2s (a:=(x.getD ((mid).toNat) Cel.zero)) (b:=(x.getD ((IntKind.i64.wrap (mid - (1:Int))).toNat) Cel.zero)) D9n rfl rfl rfl) ?_))))))
  refine dp' 1 0 [(115,bv (decide ((x.getD ((mid).toNat) Cel.zero)=(x.getD ((IntKind.i64.wrap (mid - (1:Int))).toNat) Cel.zero))))] ?_
  exact zad 12 104 115 g23
 refine dp' 1 13 [(116,bv (((decide (mid=from_))||(decide (mid=to_)))||(decide ((x.getD ((mid).toNat) Cel.zero)=(x.getD ((IntKind.i64.wrap (mid - (1:Int))).toNat) Cel.zero)))))] ?_
 refine zdO 8 5 116 124 (decide ((x.getD ((IntKind.i64.wrap (mid - (1:Int))).toNat) Cel.zero).wide=2)) (fun g26=>?_) ?_
 ·have g26p:¬ (((mid=from_)∨(mid=to_))∨((x.getD ((mid).toNat) Cel.zero)=(x.getD ((IntKind.i64.wrap (mid - (1:Int))).toNat) Cel.zero))):=by simpa using g26
  refine dp' 2 6 [(117,.slice xq x.length xk),(118,iv mid)] (dd rfl (I5.pure rfl) ?_)
  refine B5x 4 rfl (by omega) fun a27 hq28=>?_
  refine dd rfl (M2 B7r rfl rfl hq28 rfl ((IntKind.i64.wrap (mid - (1:Int))).toNat) (by omega) (by omega)) (dp' 1 3 [(121,pa ((Addr.add a27 (((IntKind.i64.wrap (mid - (1:Int))).toNat) * 12)).add 3))] (dd rfl (F3 (v:=iv ((x.getD ((IntKind.i64.wrap (mid - (1:Int))).toNat) Cel.zero).wide)) (us:=[iv ((x.getD ((IntKind.i64.wrap (mid - (1:Int))).toNat) Cel.zero).wide)]) ty3 rfl rfl (B8z (O2 (c:=L9) (sz:=12) hq28 (fun _=>rfl) 4 rfl (gd Cel.zero (by omega))) (ws:=[iv ((x.getD ((IntKind.i64.wrap (mid - (1:Int))).toNat) Cel.zero).wide)]) 3 1 rfl) rfl) (dp' 2 0 [(124,bv (decide ((x.getD ((IntKind.i64.wrap (mid - (1:Int))).toNat) Cel.zero).wide=2)))] ?_)))
  exact zad 8 116 124 g26
 refine dp' 1 4 [(125,bv ((((decide (mid=from_))||(decide (mid=to_)))||(decide ((x.getD ((mid).toNat) Cel.zero)=(x.getD ((IntKind.i64.wrap (mid - (1:Int))).toNat) Cel.zero))))||(decide ((x.getD ((IntKind.i64.wrap (mid - (1:Int))).toNat) Cel.zero).wide=2))))] ?_
 refine zdO 4 0 125 129 (!decide (y1.2.2.1=mid)) (fun g29=>?_) ?_
 ·have g29p:¬ ((((mid=from_)∨(mid=to_))∨((x.getD ((mid).toNat) Cel.zero)=(x.getD ((IntKind.i64.wrap (mid - (1:Int))).toNat) Cel.zero)))∨((x.getD ((IntKind.i64.wrap (mid - (1:Int))).toNat) Cel.zero).wide=2)):=by simpa using g29
  refine dp' 4 0 [(129,bv (!decide (y1.2.2.1=mid)))] ?_
  exact zad 2 125 129 g29
 refine de ?_
 refine zjb rfl hR ?_ ?_<;>clear hR<;>intro hR h30
 ·have h30p:((((mid=from_)∨(mid=to_))∨((x.getD ((mid).toNat) Cel.zero)=(x.getD ((IntKind.i64.wrap (mid - (1:Int))).toNat) Cel.zero)))∨((x.getD ((IntKind.i64.wrap (mid - (1:Int))).toNat) Cel.zero).wide=2))∨(¬ y1.2.2.1=mid):=by simpa using h30
  refine sr 1 rfl (ip' 1 0 [(10,bv true)] ?_)
  subst hR
  refine ie (B5 ?_)
  exact G1 hr hD
 have h30p:¬ (((((mid=from_)∨(mid=to_))∨((x.getD ((mid).toNat) Cel.zero)=(x.getD ((IntKind.i64.wrap (mid - (1:Int))).toNat) Cel.zero)))∨((x.getD ((IntKind.i64.wrap (mid - (1:Int))).toNat) Cel.zero).wide=2))∨(¬ y1.2.2.1=mid)):=by simpa using h30
 refine B1 (nx (sr 21 rfl (ip' 6 15 [(130,.slice (va r16.q) y3.1.length r16.k),(131,.slice (va r10.q) y1.1.length r10.k),(133,iv (y1.1.length:Int)),(135,iv (y1.1.length:Int))] (ix rfl (D0z (n':=y1.1.length) A1n rfl rfl y1.1.length y1.1.length (A6o rfl rfl) (A6o rfl rfl) (by omega) (by omega) (by first|rfl|omega) rfl) (ip' 1 13 [(137,.slice (va r13.q) y2.1.length r13.k)] (it rfl (C4u (f:=A0) (xs:=y1.1) (ys:=y2.1) B0y (fun _=>rfl) (fun _=>rfl) rfl rfl rfl rfl rfl rfl (by omega) (by omega) (by rfl) (B0 2 rfl) (B0 1 rfl) (by first|omega|(simp<;>omega)) (by first|omega|(simp<;>omega))) fun ⟨⟨q31,k32⟩,hq33⟩=>?_))))))
 have:=@List.length_append _ y1.1 y2.1
 refine zca (A4q y3.1 (y1.1++y2.1) (va r16.q) r16.k q31 k32 (by first|omega|(simp<;>omega)|(dsimp only;omega)|decide) (by first|omega|(simp<;>omega)|(dsimp only;omega)|decide) (by first|omega|(simp<;>omega)|(dsimp only;omega)|decide) (by first|omega|(simp<;>omega)|(dsimp only;omega)|decide) _ rfl) (A2.pick [1,0] rfl) (ip' 1 10 [(140,bv (G0 y3.1 (y1.1++y2.1)))] ?_)
 refine zia 4 6 140 144 (decide (y3.2.1=y2.2.1)) (fun g34=>?_) ?_
 ·refine zrl 2 2 [0,1] [(141,ag (A4 y3.2.1)),(142,ag (A4 y2.2.1))] (ix rfl (B2s (a:=y3.2.1) (b:=y2.2.1) D0r rfl rfl rfl) (ip' 1 0 [(144,bv (decide (y3.2.1=y2.2.1)))] ?_))
  exact zai 5 140 144 g34
 refine ip' 1 5 [(145,bv ((G0 y3.1 (y1.1++y2.1))&&(decide (y3.2.1=y2.2.1))))] ?_
 refine zia 4 1 145 149 (decide (y3.2.2.1=y2.2.2.1)) (fun g35=>?_) ?_
 ·have g35p:=g35;try simp at g35p
  refine ip' 4 0 [(149,bv (decide (y3.2.2.1=y2.2.2.1)))] ?_
  exact zai 2 145 149 g35
 refine ip' 1 0 [(10,bv (((G0 y3.1 (y1.1++y2.1))&&(decide (y3.2.1=y2.2.1)))&&(decide (y3.2.2.1=y2.2.2.1))))] ?_
 subst hR
 refine ie (B5 ?_)
 exact G1 hr hD
end Go.Proofs.YtanighkpfmgnbaaGreatDoor
