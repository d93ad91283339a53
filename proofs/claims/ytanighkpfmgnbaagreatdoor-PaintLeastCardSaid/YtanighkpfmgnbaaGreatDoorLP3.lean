import Derived.Test.YtanighkpfmgnbaaGreatDoorProg
import Derived.Test.YtanighkpfmgnbaaGreatDoorLA2
import Derived.Test.YtanighkpfmgnbaaGreatDoorLB1
import Derived.Test.YtanighkpfmgnbaaGreatDoorLA3
import Derived.Test.YtanighkpfmgnbaaGreatDoorLB2
import Derived.Test.YtanighkpfmgnbaaGreatDoorLB3
import Derived.Test.YtanighkpfmgnbaaGreatDoorLP1
import Derived.Test.YtanighkpfmgnbaaGreatDoorLP2
set_option linter.unusedVariables false
set_option linter.unusedSimpArgs false
set_option linter.unnecessarySimpa false
set_option maxRecDepth 100000
namespace Go.Proofs.YtanighkpfmgnbaaGreatDoor
open Go Go.Fen
theorem E9t:ApTy Tryz.prog 65 73 12 96:=⟨by kernel_rfl,by kernel_rfl,rfl⟩
def A4a:List UInt8→List Cel→Nat→List Cel
 | [],out,t7=>out
 | hd_l0::tl_l0,out,t7=>A4a tl_l0 (out++([{Cel.zero with base:=(hd_l0.toNat:Int)}]:List Cel)) (t7+1)
def A8a (s:List UInt8):List Cel :=
 A4a s ([]:List Cel) 0
theorem B1y (s:List UInt8) (hs:s.length≤1000000) (R:List Cel) (hR:A8a s=R):Con Tryz.prog 56 [sv s] [] [] ({r:VR // VOk 12 R.length r}) (fun x=>.slice (va x.1.q) R.length x.1.k) (fun x=>((vo I1 73 x.1 R)++([]))) (fun x=>[]):=by
 refine zco Tryz.func56 [(0,sv s)] fun X hX hr hD=>?_
 replace hR:=(A8a.eq_1 ..).symm.trans hR
 refine sr 1 rfl (ip' 1 0 [] (ie (sr 1 rfl (ip' 1 0 [(3,.slice none 0 0)] (ie (A8 (sr 3 rfl (ip' 3 0 [(6,iv (s.length:Int)),(7,iv 0)] (ie (B4 ?_))))))))))
 refine E7f (fun (out:List Cel) (outr:VR) (t7:Nat)=>(t7≤s.length∧A4a (s.drop t7) out t7=R∧VOk 12 out.length outr∧(out.length≤t7∧t7≤s.length),[(0,sv s),(3,.slice (va outr.q) out.length outr.k),(6,iv (s.length:Int)),(7,iv (t7:Int))],((vo I1 73 outr out)++([])),[],s.length - t7)) ([]:List Cel) VR.nil 0 ⟨(by omega),hR,VOk.nil,(by exact ⟨Nat.le_refl _,Nat.zero_le _⟩)⟩ (mc [vo I1 73 VR.nil ([]:List Cel)] [true] rfl (by first|rfl|(simp only [List.length_set]<;>rfl))) fn0 ?_
 rintro out outr t7 ⟨hm1,hR,hokoutr,ho⟩
 have:=VOk.le hokoutr
 refine sr 1 rfl (ip' 1 0 [(8,bv (decide ((t7:Int)<(s.length:Int))))] ?_)
 refine ie (A8 (A1z rfl (fun h2=>?_) (fun h2=>?_)))
 ·have h2p:(t7:Int)<(s.length:Int):=by simpa using h2
  rw [A5h 0 (show t7<s.length by omega)] at hR;replace hR:=(A4a.eq_2 ..).symm.trans hR
  refine B1 (nx (A8 (B4 (sr 2 rfl (ip' 2 0 [(4,iv (t7:Int))] (ie (A3 9 rfl (ip' 3 6 [(10,.slice (va outr.q) out.length outr.k),(11,sv s),(12,iv (t7:Int))] (ix rfl (B5k (T:=9) Tryz.underlying9 rfl rfl rfl t7 rfl (by omega)) (ix rfl (A9o (c:=((s.getD t7 0).toNat:Int)) Tryz.underlying3 (by kernel_rfl) rfl rfl (A8b (s.getD t7 0))) (zrl 1 3 [] [(15,ag (I1 ({Cel.zero with base:=((s.getD t7 0).toNat:Int)})))] (it rfl (B8 (c:=I1) (xs:=([{Cel.zero with base:=((s.getD t7 0).toNat:Int)}]:List Cel)) B6r rfl rfl rfl (by kernel_rfl)) fun b3=>?_))))))))))))
  have:([{Cel.zero with base:=((s.getD t7 0).toNat:Int)}]:List Cel).length=1:=rfl
  refine it rfl (U4 (f:=I1) (r:=outr) (xs:=out) (ys:=([{Cel.zero with base:=((s.getD t7 0).toNat:Int)}]:List Cel)) (pre:=[]) (post:=[]) E9t (fun _=>rfl) (fun _=>rfl) rfl rfl rfl rfl rfl rfl rfl rfl rfl (A9 0 rfl) hokoutr (by first|omega|(simp<;>omega)) (by first|omega|(simp<;>omega))) fun ⟨r4,hr5⟩=>?_
  have:=VOk.le hr5
  have:=VOk.cap hr5
  refine ip' 1 0 [(3,.slice (va r4.q) ((out++([{Cel.zero with base:=((s.getD t7 0).toNat:Int)}]:List Cel)).length) r4.k)] (A7 (nx (A3 2 rfl (ix rfl (B6 rfl rfl rfl rfl (by omega)) (ip' 1 0 [(7,iv ((t7:Int)+1))] (A7 ?_))))))
  exact D7g (z1:=out) (z2:=outr) (z3:=t7) (out++([{Cel.zero with base:=((s.getD t7 0).toNat:Int)}]:List Cel)) r4 (t7+1) ⟨(by omega),hR,hr5,(by first|omega|(simp<;>omega))⟩ (by (try dsimp only);omega) (mc [vo I1 73 r4 (out++([{Cel.zero with base:=((s.getD t7 0).toNat:Int)}]:List Cel))] [true] rfl (by first|rfl|(simp only [List.length_set]<;>rfl))) fn0
 have h2p:¬ ((t7:Int)<(s.length:Int)):=by simpa using h2
 rw [A5f h2p] at hR;replace hR:=(A4a.eq_1 ..).symm.trans hR
 refine G4 (nx (sr 2 rfl (ip' 2 0 [(2,.slice (va outr.q) out.length outr.k)] ?_)))
 subst hR
 refine ie (B5 ?_)
 exact zer hr hD (Q5 rfl (C0 rfl)) ⟨outr,hokoutr⟩ (mc [vo I1 73 outr out] [true] rfl (by first|rfl|(simp only [List.length_set]<;>rfl))) fn0
def A5i (b:List Act):List Act→Nat→Bool
 | [],i=>true
 | hd_l0::tl_l0,i=>(bif (!(decide (hd_l0=(b.getD i Act.zero)))) then false else A5i b tl_l0 (i+1))
def S9 (a:List Act) (b:List Act):Bool :=
 (bif (!decide ((a.length:Int)=(b.length:Int))) then false else A5i b a 0)
theorem B9t (a:List Act) (b:List Act) (aq:Option Addr) (ak:Nat) (bq:Option Addr) (bk:Nat) (hla:a.length≤9223372036854775807) (hca:a.length≤ak) (hlb:b.length≤9223372036854775807) (hcb:b.length≤bk) (R:Bool) (hR:S9 a b=R):N6 Tryz.prog 29 [.slice aq a.length ak,.slice bq b.length bk] [sl A0 aq a,sl A0 bq b] (bv R):=by
 refine zco Tryz.func29 [(0,.slice aq a.length ak),(1,.slice bq b.length bk)] fun X hX hr hD=>?_
 replace hR:=(S9.eq_1 ..).symm.trans hR
 refine sr 1 rfl (ip' 1 0 [] (ie (A8 (sr 5 rfl (ip' 5 0 [(10,bv (!decide ((a.length:Int)=(b.length:Int))))] (ie ?_))))))
 refine zjn rfl hR ?_ ?_<;>clear hR<;>intro hR h1 h1p
 ·refine sr 1 rfl (ip' 1 0 [(4,bv false)] ?_)
  subst hR
  refine ie (B5 ?_)
  exact G2 hr hD
 refine B1 (nx (A8 (sr 1 rfl (ip' 1 0 [(5,iv 0)] (ie (B4 (D2s (fun (i:Nat)=>(i≤a.length∧A5i b (a.drop i) i=R,[(0,.slice aq a.length ak),(1,.slice bq b.length bk),(5,iv (i:Int))],[],[sl A0 aq a,sl A0 bq b],a.length - i)) 0 ⟨(by omega),hR⟩ (mk [] rfl) A2.refl ?_)))))))
 rintro i ⟨hm2,hR⟩
 refine A8 (sr 4 rfl (ip' 4 0 [(14,bv (decide ((i:Int)<(a.length:Int))))] ?_))
 refine ie (A1z rfl (fun h3=>?_) (fun h3=>?_))
 ·have h3p:(i:Int)<(a.length:Int):=by simpa using h3
  rw [A5h Act.zero (show i<a.length by omega)] at hR;replace hR:=(A5i.eq_2 ..).symm.trans hR
  refine B1 (nx (A8 (B4 (sd 9 rfl (by kernel_rfl) rfl (dp' 2 7 [(17,.slice aq a.length ak),(18,iv (i:Int))] ?_)))))
  refine C8v 0 rfl (by omega) fun a4 hq5=>?_
  refine dd rfl (N3 A1p rfl rfl hq5 rfl i rfl (by omega)) (dd rfl (O2 (us:=A0 (a.getD i Act.zero)) B6y rfl rfl (O7 (c:=A0) (sz:=6) hq5 (fun _=>rfl) 0 rfl (gd Act.zero (by omega))) rfl) (dp' 2 3 [(21,.slice bq b.length bk),(22,iv (i:Int))] ?_))
  refine C8v 1 rfl (by omega) fun a6 hq7=>?_
  refine dd rfl (N3 A1p rfl rfl hq7 rfl i rfl (by omega)) (dd rfl (O2 (us:=A0 (b.getD i Act.zero)) B6y rfl rfl (O7 (c:=A0) (sz:=6) hq7 (fun _=>rfl) 1 rfl (gd Act.zero (by omega))) rfl) (dd rfl (X5 (a:=(a.getD i Act.zero)) (b:=(b.getD i Act.zero)) E2a rfl rfl rfl) (de ?_)))
  refine zjn rfl hR ?_ ?_<;>clear hR<;>intro hR h8 h8p
  ·refine sr 1 rfl (ip' 1 0 [(4,bv false)] ?_)
   subst hR
   refine ie (B5 ?_)
   exact G2 hr hD
  refine B1 (nx (A3 3 rfl (ip' 1 2 [(15,iv (i:Int))] (ix rfl (B6 rfl rfl rfl rfl (by omega)) (ip' 1 0 [(5,iv ((i:Int)+1))] (A7 ?_))))))
  exact D2t (z1:=i) (i+1) ⟨(by omega),hR⟩ (by (try dsimp only);omega) (mk [] rfl) A2.refl
 have h3p:¬ ((i:Int)<(a.length:Int)):=by simpa using h3
 rw [A5f h3p] at hR;replace hR:=(A5i.eq_1 ..).symm.trans hR
 refine G4 (nx (sr 1 rfl (ip' 1 0 [(4,bv true)] ?_)))
 subst hR
 refine ie (B5 ?_)
 exact G2 hr hD
def A8e:Bool :=
 (B7 (A8a ([97,98]:List UInt8)) fun (y2:List Cel)=>(B7 (N7 y2 0 2 Sty.zero) fun (y0:List Act×Sty×Int×Int)=>(B7 (A8a ([120,32,32,32,32,32,32,32,32,32]:List UInt8)) fun (y5:List Cel)=>(B7 (N7 y5 0 10 Sty.zero) fun (y1:List Act×Sty×Int×Int)=>(B7 (A8a ([97,98]:List UInt8)) fun (y4:List Cel)=>(B7 (N7 y4 0 3 Sty.zero) fun (y3:List Act×Sty×Int×Int)=>(((((((decide (y0.2.2.2=0))&&(decide (y0.2.2.1=2)))&&(S9 y0.1 ([{Act.zero with kind:=1,n:=97},{Act.zero with kind:=1,n:=98}]:List Act)))&&(decide (y1.2.2.2=0)))&&(decide (y1.2.2.1=1)))&&(S9 y1.1 ([{Act.zero with kind:=1,n:=120},{Act.zero with kind:=30,n:=9}]:List Act)))&&(decide (y3.2.2.2=2)))))))))
theorem C6e (R:Bool) (hR:A8e=R):N6 Tryz.prog 33 [] [A1r,A1q,M7,M5,I5,N9] (bv R):=by
 refine zco Tryz.func33 [] fun X hX hr hD=>?_
 replace hR:=(A8e.eq_1 ..).symm.trans hR
 refine sr 1 rfl (ip' 1 0 [] (ie (sr 13 rfl ?_)))
 have hQ:=D5 hR;clear hR;obtain ⟨y2,hy2,hR⟩:=hQ
 refine it rfl (C3 (L2:=[]) (B1y ([97,98]:List UInt8) (by first|omega|decide) y2 hy2) rfl rfl rfl rfl rfl fn0 (List.Perm.refl _) (fun ⟨r1,hk2⟩=>((vo I1 73 r1 y2)++([]))) (fun _=>by first|rfl|simp)) fun ⟨r1,hk2⟩=>?_
 have:=VOk.le hk2
 have:=VOk.cap hk2
 refine A3n [] [] (T:=73) (c:=I1) (r:=r1) (xs:=y2) hk2 (by first|rfl|simp) ?_
 refine zrl 1 11 [] [(15,ag (A5 Sty.zero))] ?_
 have hQ:=D5 hR;clear hR;obtain ⟨y0,hy0,hR⟩:=hQ
 refine it rfl (C3 (L2:=[]) (A9d y2 0 2 Sty.zero (va r1.q) r1.k (by first|omega|(simp<;>omega)|(dsimp only;omega)|decide) (by first|omega|(simp<;>omega)|(dsimp only;omega)|decide) y0 hy0) rfl rfl rfl rfl rfl A2.refl (List.Perm.refl _) (fun ⟨r3,hk4⟩=>((vo A0 26 r3 y0.1)++([]))) (fun _=>by first|rfl|simp)) fun ⟨r3,hk4⟩=>?_
 have:=VOk.le hk4
 have:=VOk.cap hk4
 have:=A5d y2 0 2 Sty.zero;try rw [hy0] at this
 obtain ⟨_,_,_⟩:=this
 refine A3n [] [] (T:=26) (c:=A0) (r:=r3) (xs:=y0.1) hk4 (by first|rfl|simp) ?_
 refine N5 10 0 [0] (fun b5=>[(1,.slice (va r3.q) y0.1.length r3.k),(3,iv y0.2.2.1),(4,iv y0.2.2.2)]) (fun b5=>[bx b5 (A5 y0.2.1) 67]) (fun b5=>?_)
 refine ie (sr 13 rfl ?_)
 have hQ:=D5 hR;clear hR;obtain ⟨y5,hy5,hR⟩:=hQ
 refine it rfl (G8 (L2:=[bx b5 (A5 y0.2.1) 67]) (B1y ([120,32,32,32,32,32,32,32,32,32]:List UInt8) (by first|omega|decide) y5 hy5) rfl rfl rfl rfl rfl fn0 (List.Perm.refl _) (fun ⟨r6,hk7⟩=>(bx b5 (A5 y0.2.1) 67::(vo I1 73 r6 y5)++([]))) (fun ⟨r6,hk7⟩=>F7 [vo I1 73 r6 y5,[bx b5 (A5 y0.2.1) 67]] [1,0] 2 rfl (by decide) (by first|rfl|simp) [[bx b5 (A5 y0.2.1) 67],vo I1 73 r6 y5] rfl (by first|rfl|simp))) fun ⟨r6,hk7⟩=>?_
 have:=VOk.le hk7
 have:=VOk.cap hk7
 refine A3n [bx b5 (A5 y0.2.1) 67] [] (T:=73) (c:=I1) (r:=r6) (xs:=y5) hk7 (by first|rfl|simp) ?_
 refine zrl 1 11 [] [(23,ag (A5 Sty.zero))] ?_
 have hQ:=D5 hR;clear hR;obtain ⟨y1,hy1,hR⟩:=hQ
 refine it rfl (G8 (L2:=[bx b5 (A5 y0.2.1) 67]) (A9d y5 0 10 Sty.zero (va r6.q) r6.k (by first|omega|(simp<;>omega)|(dsimp only;omega)|decide) (by first|omega|(simp<;>omega)|(dsimp only;omega)|decide) y1 hy1) rfl rfl rfl rfl rfl (A2.pick [0,3,4,5,6,7,8] rfl) (List.Perm.refl _) (fun ⟨r8,hk9⟩=>(bx b5 (A5 y0.2.1) 67::(vo A0 26 r8 y1.1)++([]))) (fun ⟨r8,hk9⟩=>F7 [vo A0 26 r8 y1.1,[bx b5 (A5 y0.2.1) 67]] [1,0] 2 rfl (by decide) (by first|rfl|simp) [[bx b5 (A5 y0.2.1) 67],vo A0 26 r8 y1.1] rfl (by first|rfl|simp))) fun ⟨r8,hk9⟩=>?_
 have:=VOk.le hk9
 have:=VOk.cap hk9
 have:=A5d y5 0 10 Sty.zero;try rw [hy1] at this
 obtain ⟨_,_,_⟩:=this
 refine A3n [bx b5 (A5 y0.2.1) 67] [] (T:=26) (c:=A0) (r:=r8) (xs:=y1.1) hk9 (by first|rfl|simp) ?_
 refine N5 10 0 [0] (fun b10=>[(5,.slice (va r8.q) y1.1.length r8.k),(7,iv y1.2.2.1),(8,iv y1.2.2.2)]) (fun b10=>[bx b10 (A5 y1.2.1) 67,bx b5 (A5 y0.2.1) 67]) (fun b10=>?_)
 refine ie (sr 13 rfl ?_)
 have hQ:=D5 hR;clear hR;obtain ⟨y4,hy4,hR⟩:=hQ
 refine it rfl (G8 (L2:=[bx b10 (A5 y1.2.1) 67,bx b5 (A5 y0.2.1) 67]) (B1y ([97,98]:List UInt8) (by first|omega|decide) y4 hy4) rfl rfl rfl rfl rfl fn0 (List.Perm.refl _) (fun ⟨r11,hk12⟩=>(bx b10 (A5 y1.2.1) 67::bx b5 (A5 y0.2.1) 67::(vo I1 73 r11 y4)++([]))) (fun ⟨r11,hk12⟩=>F7 [vo I1 73 r11 y4,[bx b10 (A5 y1.2.1) 67],[bx b5 (A5 y0.2.1) 67]] [1,2,0] 3 rfl (by decide) (by first|rfl|simp) [[bx b10 (A5 y1.2.1) 67],[bx b5 (A5 y0.2.1) 67],vo I1 73 r11 y4] rfl (by first|rfl|simp))) fun ⟨r11,hk12⟩=>?_
 have:=VOk.le hk12
 have:=VOk.cap hk12
 refine A3n [bx b10 (A5 y1.2.1) 67,bx b5 (A5 y0.2.1) 67] [] (T:=73) (c:=I1) (r:=r11) (xs:=y4) hk12 (by first|rfl|simp) ?_
 refine zrl 1 11 [] [(31,ag (A5 Sty.zero))] ?_
 have hQ:=D5 hR;clear hR;obtain ⟨y3,hy3,hR⟩:=hQ
 refine it rfl (G8 (L2:=[bx b10 (A5 y1.2.1) 67,bx b5 (A5 y0.2.1) 67]) (A9d y4 0 3 Sty.zero (va r11.q) r11.k (by first|omega|(simp<;>omega)|(dsimp only;omega)|decide) (by first|omega|(simp<;>omega)|(dsimp only;omega)|decide) y3 hy3) rfl rfl rfl rfl rfl (A2.pick [0,5,6,7,8,9,10] rfl) (List.Perm.refl _) (fun ⟨r13,hk14⟩=>(bx b10 (A5 y1.2.1) 67::bx b5 (A5 y0.2.1) 67::(vo A0 26 r13 y3.1)++([]))) (fun ⟨r13,hk14⟩=>F7 [vo A0 26 r13 y3.1,[bx b10 (A5 y1.2.1) 67],[bx b5 (A5 y0.2.1) 67]] [1,2,0] 3 rfl (by decide) (by first|rfl|simp) [[bx b10 (A5 y1.2.1) 67],[bx b5 (A5 y0.2.1) 67],vo A0 26 r13 y3.1] rfl (by first|rfl|simp))) fun ⟨r13,hk14⟩=>?_
 have:=VOk.le hk14
 have:=VOk.cap hk14
 have:=A5d y4 0 3 Sty.zero;try rw [hy3] at this
 obtain ⟨_,_,_⟩:=this
 refine A3n [bx b10 (A5 y1.2.1) 67,bx b5 (A5 y0.2.1) 67] [] (T:=26) (c:=A0) (r:=r13) (xs:=y3.1) hk14 (by first|rfl|simp) ?_
 refine N5 10 0 [0] (fun b15=>[(12,iv y3.2.2.2)]) (fun b15=>[bx b15 (A5 y3.2.1) 67,bx b10 (A5 y1.2.1) 67,bx b5 (A5 y0.2.1) 67]) (fun b15=>?_)
 refine ie (sr 33 rfl (ip' 3 30 [(39,bv (decide (y0.2.2.2=0)))] ?_))
 refine zid 3 27 39 42 (decide (y0.2.2.1=2)) (fun g16 g16p=>?_) ?_
 ·refine ip' 3 0 [(42,bv (decide (y0.2.2.1=2)))] ?_
  exact zai 2 39 42 g16
 refine ip' 1 26 [(43,bv ((decide (y0.2.2.2=0))&&(decide (y0.2.2.1=2))))] ?_
 refine zia 6 20 43 49 (S9 y0.1 ([{Act.zero with kind:=1,n:=97},{Act.zero with kind:=1,n:=98}]:List Act)) (fun g17=>?_) ?_
 ·have g17p:(y0.2.2.2=0)∧(y0.2.2.1=2):=by simpa using g17
  refine zrl 3 3 [] [(44,.slice (va r3.q) y0.1.length r3.k),(45,ag (A0 ({Act.zero with kind:=1,n:=97}))),(46,ag (A0 ({Act.zero with kind:=1,n:=98})))] (it rfl (B8 (c:=A0) (xs:=([{Act.zero with kind:=1,n:=97},{Act.zero with kind:=1,n:=98}]:List Act)) A1p rfl rfl rfl (by kernel_rfl)) fun b18=>?_)
  have:([{Act.zero with kind:=1,n:=97},{Act.zero with kind:=1,n:=98}]:List Act).length=2:=rfl
  refine zca (B9t y0.1 ([{Act.zero with kind:=1,n:=97},{Act.zero with kind:=1,n:=98}]:List Act) (va r3.q) r3.k (some ⟨b18,0,none⟩) 2 (by first|omega|(simp<;>omega)|(dsimp only;omega)|decide) (by first|omega|(simp<;>omega)|(dsimp only;omega)|decide) (by first|omega|(simp<;>omega)|(dsimp only;omega)|decide) (by first|omega|(simp<;>omega)|(dsimp only;omega)|decide) _ rfl) (A2.pick [5,0] rfl) (ip' 1 0 [(49,bv (S9 y0.1 ([{Act.zero with kind:=1,n:=97},{Act.zero with kind:=1,n:=98}]:List Act)))] ?_)
  exact A7 (W0 7 43 49 g17 (A2.pick [1,2,3,4,5,6,7,8,9,10,11,12] rfl) (mk [true,true,true] rfl) rfl rfl rfl rfl rfl)
 refine ip' 1 19 [(50,bv (((decide (y0.2.2.2=0))&&(decide (y0.2.2.1=2)))&&(S9 y0.1 ([{Act.zero with kind:=1,n:=97},{Act.zero with kind:=1,n:=98}]:List Act))))] ?_
 refine zia 3 16 50 53 (decide (y1.2.2.2=0)) (fun g19=>?_) ?_
 ·have g19p:=g19;try simp at g19p
  refine ip' 3 0 [(53,bv (decide (y1.2.2.2=0)))] ?_
  exact zai 2 50 53 g19
 refine ip' 1 15 [(54,bv ((((decide (y0.2.2.2=0))&&(decide (y0.2.2.1=2)))&&(S9 y0.1 ([{Act.zero with kind:=1,n:=97},{Act.zero with kind:=1,n:=98}]:List Act)))&&(decide (y1.2.2.2=0))))] ?_
 refine zia 3 12 54 57 (decide (y1.2.2.1=1)) (fun g20=>?_) ?_
 ·have g20p:=g20;try simp at g20p
  refine ip' 3 0 [(57,bv (decide (y1.2.2.1=1)))] ?_
  exact zai 2 54 57 g20
 refine ip' 1 11 [(58,bv (((((decide (y0.2.2.2=0))&&(decide (y0.2.2.1=2)))&&(S9 y0.1 ([{Act.zero with kind:=1,n:=97},{Act.zero with kind:=1,n:=98}]:List Act)))&&(decide (y1.2.2.2=0)))&&(decide (y1.2.2.1=1))))] ?_
 refine zia 6 5 58 64 (S9 y1.1 ([{Act.zero with kind:=1,n:=120},{Act.zero with kind:=30,n:=9}]:List Act)) (fun g21=>?_) ?_
 ·have g21p:=g21;try simp at g21p
  refine zrl 3 3 [] [(59,.slice (va r8.q) y1.1.length r8.k),(60,ag (A0 ({Act.zero with kind:=1,n:=120}))),(61,ag (A0 ({Act.zero with kind:=30,n:=9})))] (it rfl (B8 (c:=A0) (xs:=([{Act.zero with kind:=1,n:=120},{Act.zero with kind:=30,n:=9}]:List Act)) A1p rfl rfl rfl (by kernel_rfl)) fun b22=>?_)
  have:([{Act.zero with kind:=1,n:=120},{Act.zero with kind:=30,n:=9}]:List Act).length=2:=rfl
  refine zca (B9t y1.1 ([{Act.zero with kind:=1,n:=120},{Act.zero with kind:=30,n:=9}]:List Act) (va r8.q) r8.k (some ⟨b22,0,none⟩) 2 (by first|omega|(simp<;>omega)|(dsimp only;omega)|decide) (by first|omega|(simp<;>omega)|(dsimp only;omega)|decide) (by first|omega|(simp<;>omega)|(dsimp only;omega)|decide) (by first|omega|(simp<;>omega)|(dsimp only;omega)|decide) _ rfl) (A2.pick [3,0] rfl) (ip' 1 0 [(64,bv (S9 y1.1 ([{Act.zero with kind:=1,n:=120},{Act.zero with kind:=30,n:=9}]:List Act)))] ?_)
  exact A7 (W0 7 58 64 g21 (A2.pick [1,2,3,4,5,6,7,8,9,10,11,12] rfl) (mk [true,true,true] rfl) rfl rfl rfl rfl rfl)
 refine ip' 1 4 [(65,bv ((((((decide (y0.2.2.2=0))&&(decide (y0.2.2.1=2)))&&(S9 y0.1 ([{Act.zero with kind:=1,n:=97},{Act.zero with kind:=1,n:=98}]:List Act)))&&(decide (y1.2.2.2=0)))&&(decide (y1.2.2.1=1)))&&(S9 y1.1 ([{Act.zero with kind:=1,n:=120},{Act.zero with kind:=30,n:=9}]:List Act))))] ?_
 refine zia 3 1 65 68 (decide (y3.2.2.2=2)) (fun g23=>?_) ?_
 ·have g23p:=g23;try simp at g23p
  refine ip' 3 0 [(68,bv (decide (y3.2.2.2=2)))] ?_
  exact zai 2 65 68 g23
 refine ip' 1 0 [(0,bv (((((((decide (y0.2.2.2=0))&&(decide (y0.2.2.1=2)))&&(S9 y0.1 ([{Act.zero with kind:=1,n:=97},{Act.zero with kind:=1,n:=98}]:List Act)))&&(decide (y1.2.2.2=0)))&&(decide (y1.2.2.1=1)))&&(S9 y1.1 ([{Act.zero with kind:=1,n:=120},{Act.zero with kind:=30,n:=9}]:List Act)))&&(decide (y3.2.2.2=2))))] ?_
 subst hR
 refine ie (B5 ?_)
 exact G2 hr hD
end Go.Proofs.YtanighkpfmgnbaaGreatDoor
set_option linter.unusedVariables false
set_option linter.unusedSimpArgs false
set_option linter.unnecessarySimpa false
set_option maxRecDepth 100000
namespace Go.Proofs.YtanighkpfmgnbaaGreatDoor
open Go Go.Fen
def A0n (c:Cel) (p1:List Cel):Bool :=
 (!(decide (c.sty=(p1.getD 0 Cel.zero).sty)))
theorem B4l (c:Cel) (p1:List Cel) (p1b:Nat) (p1q:Option Addr) (p1k:Nat) (hlp1:p1.length≤9223372036854775807) (hcp1:p1.length≤p1k) (h0:0<p1.length) (R:Bool) (hR:A0n c p1=R):Con Tryz.prog 36 [ag (I1 c),pt p1b 0] [bx p1b [.slice p1q p1.length p1k] 65] [sl I1 p1q p1] (Unit) (fun x=>bv R) (fun x=>[bx p1b [.slice p1q p1.length p1k] 65]) (fun x=>[]):=by
 refine zco Tryz.func36 [(0,ag (I1 c)),(1,pt p1b 0)] fun X hX hr hD=>?_
 replace hR:=(A0n.eq_1 ..).symm.trans hR
 refine sr 2 rfl (N5 2 0 [] (fun b1=>[(2,pt b1 0)]) (fun b1=>[bx b1 (I1 c) 73,bx p1b [.slice p1q p1.length p1k] 65]) (fun b1=>(ie (sd 8 rfl (by kernel_rfl) rfl ?_))))
 refine zdg 3 5 [0,1] [(5,ag (A5 c.sty)),(6,.slice p1q p1.length p1k)] ?_
 refine C8v 0 rfl (by omega) fun a2 hq3=>?_
 refine dd rfl (N3 B6r rfl rfl hq3 rfl 0 rfl (by omega)) (dp' 1 3 [(8,pa ((Addr.add a2 (0 * 12)).add 4))] (dd rfl (O2 (us:=A5 ((p1.getD 0 Cel.zero).sty)) B2v rfl rfl (B5q (O7 (c:=I1) (sz:=12) hq3 (fun _=>rfl) 0 rfl (gd Cel.zero (by omega))) (ws:=A5 ((p1.getD 0 Cel.zero).sty)) 4 8 rfl) rfl) (dd rfl (X5 (a:=c.sty) (b:=(p1.getD 0 Cel.zero).sty) D2u rfl rfl rfl) (dp' 1 0 [(3,bv (!(decide (c.sty=(p1.getD 0 Cel.zero).sty))))] ?_))))
 subst hR
 refine de (B5 ?_)
 exact zer hr hD (Q5 rfl (C0 rfl)) () (mk [false,true] rfl) fn0
def G0 (fc:List Cel):List Cel→Nat→Int
 | [],t8=>(-1)
 | hd_l0::tl_l0,t8=>(bif (A0n hd_l0 fc) then (t8:Int) else G0 fc tl_l0 (t8+1))
def M4 (s:List Cel) (fc:List Cel):Int :=
 G0 fc s 0
theorem A5b (s:List Cel) (fc:List Cel) (sq:Option Addr) (sk:Nat) (fcb:Nat) (fcq:Option Addr) (fck:Nat) (hls:s.length≤9223372036854775807) (hcs:s.length≤sk) (hlfc:fc.length≤9223372036854775807) (hcfc:fc.length≤fck) (hne:s.length≤fc.length) (R:Int) (hR:M4 s fc=R):Con Tryz.prog 61 [.slice sq s.length sk,.func (.func 36) #[] #[pt fcb 0]] [bx fcb [.slice fcq fc.length fck] 65] [sl I1 sq s,sl I1 fcq fc] (Unit) (fun x=>iv R) (fun x=>[bx fcb [.slice fcq fc.length fck] 65]) (fun x=>[]):=by
 refine zco Tryz.func61 [(0,.slice sq s.length sk),(1,.func (.func 36) #[] #[pt fcb 0])] fun X hX hr hD=>?_
 replace hR:=(M4.eq_1 ..).symm.trans hR
 refine sr 1 rfl (ip' 1 0 [] (ie (A8 (sr 3 rfl (ip' 3 0 [(7,iv (s.length:Int)),(8,iv 0)] (ie (B4 (D2s (fun (t8:Nat)=>(t8≤s.length∧G0 fc (s.drop t8) t8=R,[(0,.slice sq s.length sk),(1,.func (.func 36) #[] #[pt fcb 0]),(7,iv (s.length:Int)),(8,iv (t8:Int))],[bx fcb [.slice fcq fc.length fck] 65],[sl I1 sq s,sl I1 fcq fc],s.length - t8)) 0 ⟨(by omega),hR⟩ (mk [true] rfl) A2.refl ?_))))))))
 rintro t8 ⟨hm1,hR⟩
 refine sr 1 rfl (ip' 1 0 [(9,bv (decide ((t8:Int)<(s.length:Int))))] ?_)
 refine ie (A8 (A1z rfl (fun h2=>?_) (fun h2=>?_)))
 ·have h2p:(t8:Int)<(s.length:Int):=by simpa using h2
  rw [A5h Cel.zero (show t8<s.length by omega)] at hR;replace hR:=(G0.eq_2 ..).symm.trans hR
  refine B1 (nx (A8 (B4 (sr 2 rfl (ip' 2 0 [(5,iv (t8:Int))] (ie (sr 6 rfl (ip' 3 3 [(11,.func (.func 36) #[] #[pt fcb 0]),(12,.slice sq s.length sk),(13,iv (t8:Int))] (S8 0 rfl (by omega) fun a3 hq4=>(ix rfl (N3 B6r rfl rfl hq4 rfl t8 rfl (by omega)) (ix rfl (O2 (us:=I1 (s.getD t8 Cel.zero)) D7r rfl rfl (O7 (c:=I1) (sz:=12) hq4 (fun _=>rfl) 0 rfl (gd Cel.zero (by omega))) rfl) (it rfl (C3 (L2:=[]) (B4l (s.getD t8 Cel.zero) fc fcb fcq fck (by first|omega|(simp<;>omega)|(dsimp only;omega)|decide) (by first|omega|(simp<;>omega)|(dsimp only;omega)|decide) (by omega) _ rfl) rfl rfl rfl rfl rfl (A2.pick [1] rfl) (F7 [[bx fcb [.slice fcq fc.length fck] 65]] [0] 1 rfl (by decide) rfl [[bx fcb [.slice fcq fc.length fck] 65]] rfl (by first|rfl|simp)) (fun _=>[bx fcb [.slice fcq fc.length fck] 65]) (fun _=>rfl)) fun _=>?_))))))))))))
  refine ie ?_
  refine zjb rfl hR ?_ ?_<;>clear hR<;>intro hR h5
  ·refine sr 2 rfl (ip' 2 0 [(4,iv (t8:Int))] ?_)
   subst hR
   refine ie (B5 ?_)
   exact zer hr hD (Q5 rfl (C0 rfl)) () (mk [true] rfl) fn0
  refine B1 (nx (A3 2 rfl (ix rfl (B6 rfl rfl rfl rfl (by omega)) (ip' 1 0 [(8,iv ((t8:Int)+1))] (A7 ?_)))))
  exact D2t (z1:=t8) (t8+1) ⟨(by omega),hR⟩ (by (try dsimp only);omega) (mk [true] rfl) A2.refl
 have h2p:¬ ((t8:Int)<(s.length:Int)):=by simpa using h2
 rw [A5f h2p] at hR;replace hR:=(G0.eq_1 ..).symm.trans hR
 refine G4 (nx (sr 1 rfl (ip' 1 0 [(4,iv (-1))] ?_)))
 subst hR
 refine ie (B5 ?_)
 exact zer hr hD (Q5 rfl (C0 rfl)) () (mk [true] rfl) fn0
def I0 (s:List Cel) (fc:List Cel):Bool :=
 (decide ((0:Int)≤(M4 s fc)))
theorem A3q (s:List Cel) (fc:List Cel) (sq:Option Addr) (sk:Nat) (fcb:Nat) (fcq:Option Addr) (fck:Nat) (hls:s.length≤9223372036854775807) (hcs:s.length≤sk) (hlfc:fc.length≤9223372036854775807) (hcfc:fc.length≤fck) (hne:s.length≤fc.length) (R:Bool) (hR:I0 s fc=R):Con Tryz.prog 35 [.slice sq s.length sk,.func (.func 36) #[] #[pt fcb 0]] [bx fcb [.slice fcq fc.length fck] 65] [sl I1 sq s,sl I1 fcq fc] (Unit) (fun x=>bv R) (fun x=>[bx fcb [.slice fcq fc.length fck] 65]) (fun x=>[]):=by
 refine zco Tryz.func35 [(0,.slice sq s.length sk),(1,.func (.func 36) #[] #[pt fcb 0])] fun X hX hr hD=>?_
 replace hR:=(I0.eq_1 ..).symm.trans hR
 refine sr 1 rfl (ip' 1 0 [] (ie (sr 5 rfl (ip' 2 3 [(5,.slice sq s.length sk),(6,.func (.func 36) #[] #[pt fcb 0])] (it rfl (C3 (L2:=[]) (A5b s fc sq sk fcb fcq fck (by first|omega|(simp<;>omega)|(dsimp only;omega)|decide) (by first|omega|(simp<;>omega)|(dsimp only;omega)|decide) (by first|omega|(simp<;>omega)|(dsimp only;omega)|decide) (by first|omega|(simp<;>omega)|(dsimp only;omega)|decide) (by first|assumption|exact Nat.le_refl _) _ rfl) rfl rfl rfl rfl rfl A2.refl (F7 [[bx fcb [.slice fcq fc.length fck] 65]] [0] 1 rfl (by decide) rfl [[bx fcb [.slice fcq fc.length fck] 65]] rfl (by first|rfl|simp)) (fun _=>[bx fcb [.slice fcq fc.length fck] 65]) (fun _=>rfl)) fun _=>?_)))))
 refine ip' 2 0 [(4,bv (decide ((0:Int)≤(M4 s fc))))] ?_
 subst hR
 refine ie (B5 ?_)
 exact zer hr hD (Q5 rfl (C0 rfl)) () (mk [true] rfl) fn0
def V3 (x:List Cel) (t53:Nat) (ag_law27_PaintLeast_l0:List Act→Nat→Bool) (plain1:List Act):Bool :=
 (bif (!decide (((x.getD t53 Cel.zero).marks).a=0)) then (bif (!decide (((x.getD t53 Cel.zero).marks).b=0)) then ag_law27_PaintLeast_l0 ((plain1++([{Act.zero with kind:=1,n:=((x.getD t53 Cel.zero).marks).a}]:List Act))++([{Act.zero with kind:=1,n:=((x.getD t53 Cel.zero).marks).b}]:List Act)) (t53+1) else ag_law27_PaintLeast_l0 (plain1++([{Act.zero with kind:=1,n:=((x.getD t53 Cel.zero).marks).a}]:List Act)) (t53+1)) else (bif (!decide (((x.getD t53 Cel.zero).marks).b=0)) then ag_law27_PaintLeast_l0 (plain1++([{Act.zero with kind:=1,n:=((x.getD t53 Cel.zero).marks).b}]:List Act)) (t53+1) else ag_law27_PaintLeast_l0 plain1 (t53+1)))
def K9 (x:List Cel) (y1:List UInt8×Int):List Cel→List Act→Nat→Bool
 | [],plain,t53=>(B7 (L5 plain) fun (y2:List UInt8×Int)=>((decide (y2.2=0))&&(decide ((y1.1.length:Int)≤(y2.1.length:Int)))))
 | hd_l0::tl_l0,plain,t53=>(bif (!decide (hd_l0.wide=2)) then V3 x t53 (K9 x y1 tl_l0) (plain++([{Act.zero with kind:=1,n:=hd_l0.base}]:List Act)) else V3 x t53 (K9 x y1 tl_l0) plain)
def A4s (x:List Cel) (pen:Sty):Bool :=
 (bif (!A8e) then false else (B7 (N7 x 0 (x.length:Int) pen) fun (y0:List Act×Sty×Int×Int)=>(bif (!decide (y0.2.2.2=0)) then (decide ((y0.1.length:Int)=0)) else (B7 (L5 y0.1) fun (y1:List UInt8×Int)=>(bif (!decide (y1.2=0)) then false else (bif (I0 x x) then true else (bif (!(decide (pen=(x.getD 0 Cel.zero).sty))) then true else K9 x y1 x ([]:List Act) 0)))))))
theorem B7i (x:List Cel) (pen:Sty) (xq:Option Addr) (xk:Nat) (hlx:x.length≤9223372036854775807) (hcx:x.length≤xk) (R:Bool) (hR:A4s x pen=R):N6 Tryz.prog 12 [.slice xq x.length xk,ag (A5 pen)] [sl I1 xq x,A1r,A1q,M7,M5,I5,N9] (bv R):=by
 refine zco Tryz.func12 [(0,.slice xq x.length xk),(1,ag (A5 pen))] fun X hX hr hD=>?_
 replace hR:=(A4s.eq_1 ..).symm.trans hR
 refine sr 3 rfl (B7h 3 0 [] (fun b1 b2=>[(2,pt b1 0),(3,pt b2 0)]) (fun b1 b2=>[bx b2 (A5 pen) 67,bx b1 [.slice xq x.length xk] 65]) (fun b1 b2=>(ie (A8 (sr 2 rfl (zca (C6e _ rfl) (A2.pick [1,2,3,4,5,6] rfl) (ip' 1 0 [(17,bv (!A8e))] (ie ?_))))))))
 refine zjb rfl hR ?_ ?_<;>clear hR<;>intro hR h3
 ·refine sr 1 rfl (ip' 1 0 [(4,bv false)] ?_)
  subst hR
  refine ie (B5 ?_)
  exact G2 hr hD
 refine B1 (nx (sr 15 rfl (zrl 4 11 [1,1,0] [(19,.slice xq x.length xk),(21,iv (x.length:Int)),(22,ag (A5 pen))] ?_)))
 have hQ:=D5 hR;clear hR;obtain ⟨y0,hy0,hR⟩:=hQ
 refine it rfl (G8 (L2:=[bx b2 (A5 pen) 67,bx b1 [.slice xq x.length xk] 65]) (A9d x 0 (x.length:Int) pen xq xk (by first|omega|(simp<;>omega)|(dsimp only;omega)|decide) (by first|omega|(simp<;>omega)|(dsimp only;omega)|decide) y0 hy0) rfl rfl rfl rfl rfl A2.refl (List.Perm.refl _) (fun ⟨r4,hk5⟩=>(bx b2 (A5 pen) 67::bx b1 [.slice xq x.length xk] 65::(vo A0 26 r4 y0.1)++([]))) (fun ⟨r4,hk5⟩=>F7 [vo A0 26 r4 y0.1,[bx b2 (A5 pen) 67],[bx b1 [.slice xq x.length xk] 65]] [1,2,0] 3 rfl (by decide) (by first|rfl|simp) [[bx b2 (A5 pen) 67],[bx b1 [.slice xq x.length xk] 65],vo A0 26 r4 y0.1] rfl (by first|rfl|simp))) fun ⟨r4,hk5⟩=>?_
 have:=VOk.le hk5
 have:=VOk.cap hk5
 have:=A5d x 0 (x.length:Int) pen;try rw [hy0] at this
 obtain ⟨_,_,_⟩:=this
 refine A3n [bx b2 (A5 pen) 67,bx b1 [.slice xq x.length xk] 65] [] (T:=26) (c:=A0) (r:=r4) (xs:=y0.1) hk5 (by first|rfl|simp) ?_
 refine N5 10 0 [0] (fun b6=>[(5,.slice (va r4.q) y0.1.length r4.k),(8,iv y0.2.2.2)]) (fun b6=>[bx b6 (A5 y0.2.1) 67,bx b2 (A5 pen) 67,bx b1 [.slice xq x.length xk] 65]) (fun b6=>?_)
 refine ie (A8 (sr 2 rfl (ip' 2 0 [(29,bv (!decide (y0.2.2.2=0)))] (ie ?_))))
 refine zjn rfl hR ?_ ?_<;>clear hR<;>intro hR h7 h7p
 ·refine sr 4 rfl (ip' 4 0 [(4,bv (decide ((y0.1.length:Int)=0)))] ?_)
  subst hR
  refine ie (B5 ?_)
  exact G2 hr hD
 refine B1 (nx (sr 7 rfl (ip' 1 6 [(34,.slice (va r4.q) y0.1.length r4.k)] ?_)))
 have hQ:=D5 hR;clear hR;obtain ⟨y1,hy1,hR⟩:=hQ
 refine it rfl (G8 (L2:=[bx b6 (A5 y0.2.1) 67,bx b2 (A5 pen) 67,bx b1 [.slice xq x.length xk] 65]) (A4p y0.1 (va r4.q) r4.k (by first|omega|(simp<;>omega)|(dsimp only;omega)|decide) (by first|omega|(simp<;>omega)|(dsimp only;omega)|decide) (by first|exact fun x hx=>by rw [(hpen x hx).2];exact Nat.zero_le _|exact fun x hx=>hnt x hx|assumption|decide|exact fun x hx=>Nat.le_trans (hrow x hx) (by decide)|exact fun x hx=>Nat.le_trans (of_decide_eq_true (List.all_eq_true.1 hbt x hx)) (by decide)|(intro x hx;simp only [List.nil_append,List.mem_append] at hx;rcases hx with hx|hx<;>first|exact Nat.le_trans (hrow x hx) (by decide)|exact Nat.le_trans (hpt x hx) (by decide))|(intro x hx;rw [List.mem_singleton.1 hx];omega)|exact fun x hx=>Nat.le_trans (hrow x (List.mem_of_mem_take hx)) (by decide)|exact fun x hx=>Nat.le_trans (hrow x (List.mem_of_mem_drop hx)) (by decide)|exact fun x hx=>Nat.le_trans (hrow x (List.mem_of_mem_drop (List.mem_of_mem_take hx))) (by decide)|omega) y1 hy1) rfl rfl rfl rfl rfl (A2.pick [0,2,3,4,5,6,7] rfl) (List.Perm.refl _) (fun ⟨r8,hk9⟩=>(bx b6 (A5 y0.2.1) 67::bx b2 (A5 pen) 67::bx b1 [.slice xq x.length xk] 65::(vo cU8 5 r8 y1.1)++([]))) (fun ⟨r8,hk9⟩=>F7 [vo cU8 5 r8 y1.1,[bx b6 (A5 y0.2.1) 67],[bx b2 (A5 pen) 67],[bx b1 [.slice xq x.length xk] 65]] [1,2,3,0] 4 rfl (by decide) (by first|rfl|simp) [[bx b6 (A5 y0.2.1) 67],[bx b2 (A5 pen) 67],[bx b1 [.slice xq x.length xk] 65],vo cU8 5 r8 y1.1] rfl (by first|rfl|simp))) fun ⟨r8,hk9⟩=>?_
 have:=VOk.le hk9
 have:=VOk.cap hk9
 try have:=A2c y0.1 (fun x hx=>Nat.le_trans (hrow x (by first|exact hx|exact List.mem_of_mem_take hx|exact List.mem_of_mem_drop hx)) (by decide));try rw [hy1] at this
 refine A3n [bx b6 (A5 y0.2.1) 67,bx b2 (A5 pen) 67,bx b1 [.slice xq x.length xk] 65] [] (T:=5) (c:=cU8) (r:=r8) (xs:=y1.1) hk9 (by first|rfl|simp) ?_
 refine ip' 5 0 [(9,.slice (va r8.q) y1.1.length r8.k),(8,iv y1.2)] (ie (A8 (sr 2 rfl (ip' 2 0 [(39,bv (!decide (y1.2=0)))] (ie ?_)))))
 refine zjn rfl hR ?_ ?_<;>clear hR<;>intro hR h10 h10p
 ·refine sr 1 rfl (ip' 1 0 [(4,bv false)] ?_)
  subst hR
  refine ie (B5 ?_)
  exact G2 hr hD
 refine B1 (nx (A8 (sh 11 [(11,[bx b6 (A5 y0.2.1) 67]),(11,[bx b2 (A5 pen) 67]),(11,[bx b1 [.slice xq x.length xk] 65])] [sl cU8 (va r8.q) y1.1,sl A0 (va r4.q) y0.1,sl I1 xq x,A1r,A1q,M7,M5,I5,N9] [bx b6 (A5 y0.2.1) 67,bx b2 (A5 pen) 67,bx b1 [.slice xq x.length xk] 65] (zml 11 0) (by kernel_rfl) rfl (by kernel_rfl) (by kernel_rfl) (by kernel_rfl) (mk [true,true,true] rfl) A2.refl ?_)))
 refine zhp [1] 10 (zml 11 2) [(41,.func (.func 36) #[] #[pt b1 0])] ?_
 refine zhl 0 [bx b6 (A5 y0.2.1) 67,bx b2 (A5 pen) 67,bx b1 [.slice xq x.length xk] 65] (zml 11 3) rfl (B2 (v:=.slice xq x.length xk) E2q rfl rfl 2 rfl rfl) ?_
 refine zho 2 [bx b6 (A5 y0.2.1) 67,bx b2 (A5 pen) 67,bx b1 [.slice xq x.length xk] 65] (zml 11 7) rfl (G8 (L2:=[bx b6 (A5 y0.2.1) 67,bx b2 (A5 pen) 67]) (A3q x x xq xk b1 xq xk (by first|omega|(simp<;>omega)|(dsimp only;omega)|decide) (by first|omega|(simp<;>omega)|(dsimp only;omega)|decide) (by first|omega|(simp<;>omega)|(dsimp only;omega)|decide) (by first|omega|(simp<;>omega)|(dsimp only;omega)|decide) (by first|assumption|exact Nat.le_refl _) _ rfl) rfl rfl rfl rfl rfl (A2.pick [2,2] rfl) (F7 [[bx b6 (A5 y0.2.1) 67],[bx b2 (A5 pen) 67],[bx b1 [.slice xq x.length xk] 65]] [2,0,1] 3 rfl (by decide) rfl [[bx b1 [.slice xq x.length xk] 65],[bx b6 (A5 y0.2.1) 67],[bx b2 (A5 pen) 67]] rfl (by first|rfl|simp)) (fun _=>[bx b6 (A5 y0.2.1) 67,bx b2 (A5 pen) 67,bx b1 [.slice xq x.length xk] 65]) (fun _=>F7 [[bx b1 [.slice xq x.length xk] 65],[bx b6 (A5 y0.2.1) 67],[bx b2 (A5 pen) 67]] [1,2,0] 3 rfl (by decide) (by first|rfl|simp) [[bx b6 (A5 y0.2.1) 67],[bx b2 (A5 pen) 67],[bx b1 [.slice xq x.length xk] 65]] rfl (by first|rfl|simp))) (fun _=>(mk [true,true,true] rfl)) (fun _=>A2.refl) fun _=>?_
 refine zhp [3] 7 (zml 11 15) [(43,bv (I0 x x))] ?_
 refine E2b 43 _ rfl (fun g11=>?_) (fun g11=>?_)
 ·replace hR:=bt hR g11
  refine zhp [4,5,6,7,8,9,10] 0 (zml 11 2047) [(50,bv true)] ?_
  refine A4n (by kernel_rfl) ?_
  refine K0 rfl (sr 1 rfl (ip' 1 0 [(4,bv true)] ?_))
  subst hR
  refine ie (B5 ?_)
  exact G2 hr hD
 ·replace hR:=bf hR g11
  refine zhl 4 [bx b6 (A5 y0.2.1) 67,bx b2 (A5 pen) 67,bx b1 [.slice xq x.length xk] 65] (zml 11 31) rfl (F4 (us:=A5 pen) B2v rfl rfl 1 rfl rfl rfl) ?_
  refine zhl 5 [bx b6 (A5 y0.2.1) 67,bx b2 (A5 pen) 67,bx b1 [.slice xq x.length xk] 65] (zml 11 63) rfl (B2 (v:=.slice xq x.length xk) E2q rfl rfl 2 rfl rfl) ?_
  refine C8r 2 rfl (by omega) fun a12 hq13=>?_
  refine zhk 6 (zml 11 127) rfl (N3 B6r rfl rfl hq13 rfl 0 rfl (by omega)) ?_
  refine zhp [7] 3 (zml 11 255) [(47,pa ((Addr.add a12 (0 * 12)).add 4))] ?_
  refine zhk 8 (zml 11 511) rfl (O2 (us:=A5 ((x.getD 0 Cel.zero).sty)) B2v rfl rfl (B5q (O7 (c:=I1) (sz:=12) hq13 (fun _=>rfl) 2 rfl (gd Cel.zero (by omega))) (ws:=A5 ((x.getD 0 Cel.zero).sty)) 4 8 rfl) rfl) (zhk 9 (zml 11 1023) rfl (X5 (a:=pen) (b:=(x.getD 0 Cel.zero).sty) D2u rfl rfl rfl) ?_)
  refine zhp [10] 0 (zml 11 2047) [(50,bv (!(decide (pen=(x.getD 0 Cel.zero).sty))))] ?_
  refine A4n (by kernel_rfl) ?_
  refine zjn rfl hR ?_ ?_<;>clear hR<;>intro hR h14 h14p
  ·refine sr 1 rfl (ip' 1 0 [(4,bv true)] ?_)
   subst hR
   refine ie (B5 ?_)
   exact G2 hr hD
  refine B1 (nx (sr 1 rfl (ip' 1 0 [(10,.slice none 0 0)] (ie (A8 (sr 3 rfl (zrl 3 0 [2] [(51,.slice xq x.length xk),(52,iv (x.length:Int)),(53,iv 0)] (ie (B4 (A2n (F7 [vo A0 26 VR.nil ([]:List Act),[bx b6 (A5 y0.2.1) 67],[bx b2 (A5 pen) 67],[bx b1 [.slice xq x.length xk] 65]] [1,2,3,0] 4 rfl (by decide) rfl [[bx b6 (A5 y0.2.1) 67],[bx b2 (A5 pen) 67],[bx b1 [.slice xq x.length xk] 65],vo A0 26 VR.nil ([]:List Act)] rfl (by first|rfl|simp)) ?_))))))))))
  refine E7f (fun (plain:List Act) (plainr:VR) (t53:Nat)=>(t53≤x.length∧K9 x y1 (x.drop t53) plain t53=R∧VOk 6 plain.length plainr∧(plain.length≤3 * t53∧t53≤x.length)∧(∀ a ∈ plain,a.text.length≤100000000),[(9,.slice (va r8.q) y1.1.length r8.k),(10,.slice (va plainr.q) plain.length plainr.k),(51,.slice xq x.length xk),(52,iv (x.length:Int)),(53,iv (t53:Int))],(bx b6 (A5 y0.2.1) 67::bx b2 (A5 pen) 67::bx b1 [.slice xq x.length xk] 65::(vo A0 26 plainr plain)++([])),[sl cU8 (va r8.q) y1.1,sl A0 (va r4.q) y0.1,sl I1 xq x,A1r,A1q,M7,M5,I5,N9],x.length - t53)) ([]:List Act) VR.nil 0 ⟨(by omega),hR,VOk.nil,(by exact ⟨Nat.zero_le _,Nat.zero_le _⟩),(by first|assumption|exact A3j (by first|assumption|exact A3j (by assumption) rfl) rfl|(intro a ha;cases ha))⟩ (mc [[bx b6 (A5 y0.2.1) 67],[bx b2 (A5 pen) 67],[bx b1 [.slice xq x.length xk] 65],vo A0 26 VR.nil ([]:List Act)] [true,true,true,true] (by first|rfl|simp) (by first|rfl|(simp only [List.length_set]<;>rfl))) A2.refl ?_
  rintro plain plainr t53 ⟨hm15,hR,hokplainr,hp,hpt⟩
  have:=VOk.le hokplainr
  refine sr 1 rfl (ip' 1 0 [(54,bv (decide ((t53:Int)<(x.length:Int))))] ?_)
  refine ie (A8 (A1z rfl (fun h16=>?_) (fun h16=>?_)))
  ·have h16p:(t53:Int)<(x.length:Int):=by simpa using h16
   rw [A5h Cel.zero (show t53<x.length by omega)] at hR;replace hR:=(K9.eq_2 ..).symm.trans hR
   refine B1 (nx (A8 (B4 (sr 4 rfl (ix rfl (N3 B6r rfl rfl hq13 rfl t53 rfl (by omega)) (ix rfl (O2 (us:=I1 (x.getD t53 Cel.zero)) D7r rfl rfl (O7 (c:=I1) (sz:=12) hq13 (fun _=>rfl) 2 rfl (gd Cel.zero (by omega))) rfl) ?_))))))
   refine N5 2 0 [0] (fun b17=>[(12,pt b17 0)]) (fun b17=>(bx b17 (I1 (x.getD t53 Cel.zero)) 73::bx b6 (A5 y0.2.1) 67::bx b2 (A5 pen) 67::bx b1 [.slice xq x.length xk] 65::(vo A0 26 plainr plain)++([]))) (fun b17=>?_)
   refine ie (D3h (fun (plain1:List Act) (plainr1:VR)=>(V3 x t53 (K9 x y1 (x.drop (t53+1))) plain1=R∧VOk 6 plain1.length plainr1∧plain1.length≤3 * t53+1∧plain1=plain1∧(∀ a ∈ plain1,a.text.length≤100000000),[(9,.slice (va r8.q) y1.1.length r8.k),(10,.slice (va plainr1.q) plain1.length plainr1.k),(12,pt b17 0),(51,.slice xq x.length xk),(52,iv (x.length:Int)),(53,iv (t53:Int))],(bx b17 (I1 (x.getD t53 Cel.zero)) 73::bx b6 (A5 y0.2.1) 67::bx b2 (A5 pen) 67::bx b1 [.slice xq x.length xk] 65::(vo A0 26 plainr1 plain1)++([])),[sl cU8 (va r8.q) y1.1,sl A0 (va r4.q) y0.1,sl I1 xq x,A1r,A1q,M7,M5,I5,N9])) ?_ ?_)
   ·refine sr 3 rfl (zrl 3 0 [0] [(59,bv (!decide ((x.getD t53 Cel.zero).wide=2)))] (ie ?_))
    refine zjn rfl hR ?_ ?_<;>clear hR<;>intro hR h18 h18p
    ·refine A3 7 rfl (zrl 4 3 [0] [(60,.slice (va plainr.q) plain.length plainr.k),(63,ag (A0 ({Act.zero with kind:=1,n:=(x.getD t53 Cel.zero).base})))] (it rfl (B8 (c:=A0) (xs:=([{Act.zero with kind:=1,n:=(x.getD t53 Cel.zero).base}]:List Act)) A1p rfl rfl rfl (by kernel_rfl)) fun b19=>?_))
     have:([{Act.zero with kind:=1,n:=(x.getD t53 Cel.zero).base}]:List Act).length=1:=rfl
     refine it rfl (U4 (f:=A0) (r:=plainr) (xs:=plain) (ys:=([{Act.zero with kind:=1,n:=(x.getD t53 Cel.zero).base}]:List Act)) (pre:=[bx b17 (I1 (x.getD t53 Cel.zero)) 73,bx b6 (A5 y0.2.1) 67,bx b2 (A5 pen) 67,bx b1 [.slice xq x.length xk] 65]) (post:=[]) A7u (fun _=>rfl) (fun _=>rfl) rfl rfl rfl rfl rfl rfl rfl rfl rfl (A9 0 rfl) hokplainr (by first|omega|(simp<;>omega)) (by first|omega|(simp<;>omega))) fun ⟨r20,hr21⟩=>?_
     have:=VOk.le hr21
     have:=VOk.cap hr21
     refine ip' 1 0 [(10,.slice (va r20.q) ((plain++([{Act.zero with kind:=1,n:=(x.getD t53 Cel.zero).base}]:List Act)).length) r20.k)] (A7 ?_)
     exact C0a (plain++([{Act.zero with kind:=1,n:=(x.getD t53 Cel.zero).base}]:List Act)) r20 ⟨hR,hr21,(by first|omega|(simp<;>omega)),(by rfl),(by first|assumption|exact A3j (by first|assumption|exact A3j (by assumption) rfl) rfl|(intro a ha;cases ha))⟩ (mc [[bx b17 (I1 (x.getD t53 Cel.zero)) 73],[bx b6 (A5 y0.2.1) 67],[bx b2 (A5 pen) 67],[bx b1 [.slice xq x.length xk] 65],vo A0 26 r20 (plain++([{Act.zero with kind:=1,n:=(x.getD t53 Cel.zero).base}]:List Act))] [true,true,true,true,true] (by first|rfl|simp) (by first|rfl|(simp only [List.length_set]<;>rfl))) (A2.pick [1,2,3,4,5,6,7,8,9] rfl)
    refine B1 ?_
    exact C0a plain plainr ⟨hR,hokplainr,(by first|omega|(simp<;>omega)),(by rfl),(by first|assumption|exact A3j (by first|assumption|exact A3j (by assumption) rfl) rfl|(intro a ha;cases ha))⟩ (mc [[bx b17 (I1 (x.getD t53 Cel.zero)) 73],[bx b6 (A5 y0.2.1) 67],[bx b2 (A5 pen) 67],[bx b1 [.slice xq x.length xk] 65],vo A0 26 plainr plain] [true,true,true,true,true] (by first|rfl|simp) (by first|rfl|(simp only [List.length_set]<;>rfl))) A2.refl
   intro plain1 plainr1
   rintro ⟨hR,hokplainr1,hp1,hz1,hpt1⟩
   replace hR:=(V3.eq_1 ..).symm.trans hR
   refine sr 3 rfl (zrl 3 0 [0] [(67,ag (B2p ((x.getD t53 Cel.zero).marks))),(68,iv 0)] (ie (B4 (Y9 4 ?_))))
   refine D0 (sr 1 rfl (ip' 1 0 [(69,bv true)] ?_))
   refine ie (A8 (K0 rfl (B1 (nx (A8 (B4 (sr 2 rfl (ix rfl (D8 (v:=iv (((x.getD t53 Cel.zero).marks).a)) (us:=[iv (((x.getD t53 Cel.zero).marks).a)]) Tryz.underlying71 ty3 rfl rfl rfl 0 rfl (by decide) rfl rfl rfl) (ip' 1 0 [(14,iv (((x.getD t53 Cel.zero).marks).a))] (ie (sr 2 rfl (ip' 2 0 [(72,bv (!decide (((x.getD t53 Cel.zero).marks).a=0)))] (ie ?_)))))))))))))
   refine zjn rfl hR ?_ ?_<;>clear hR<;>intro hR h22 h22p
   ·refine A3 6 rfl (zrl 3 3 [] [(73,.slice (va plainr1.q) plain1.length plainr1.k),(75,ag (A0 ({Act.zero with kind:=1,n:=((x.getD t53 Cel.zero).marks).a})))] (it rfl (B8 (c:=A0) (xs:=([{Act.zero with kind:=1,n:=((x.getD t53 Cel.zero).marks).a}]:List Act)) A1p rfl rfl rfl (by kernel_rfl)) fun b23=>?_))
    have:([{Act.zero with kind:=1,n:=((x.getD t53 Cel.zero).marks).a}]:List Act).length=1:=rfl
    refine it rfl (U4 (f:=A0) (r:=plainr1) (xs:=plain1) (ys:=([{Act.zero with kind:=1,n:=((x.getD t53 Cel.zero).marks).a}]:List Act)) (pre:=[bx b17 (I1 (x.getD t53 Cel.zero)) 73,bx b6 (A5 y0.2.1) 67,bx b2 (A5 pen) 67,bx b1 [.slice xq x.length xk] 65]) (post:=[]) A7u (fun _=>rfl) (fun _=>rfl) rfl rfl rfl rfl rfl rfl rfl rfl rfl (A9 0 rfl) hokplainr1 (by first|omega|(simp<;>omega)) (by first|omega|(simp<;>omega))) fun ⟨r24,hr25⟩=>?_
    have:=VOk.le hr25
    have:=VOk.cap hr25
    refine ip' 1 0 [(10,.slice (va r24.q) ((plain1++([{Act.zero with kind:=1,n:=((x.getD t53 Cel.zero).marks).a}]:List Act)).length) r24.k)] (A7 (nx (A3 2 rfl (ix rfl (B6 (c:=1) rfl rfl rfl rfl (by decide)) (ip' 1 0 [(68,iv 1)] (A7 (D0 (sr 1 rfl (ip' 1 0 [(69,bv true)] (ie (A8 (K0 rfl (B1 (nx (A8 (B4 (sr 2 rfl (ix rfl (D8 (v:=iv (((x.getD t53 Cel.zero).marks).b)) (us:=[iv (((x.getD t53 Cel.zero).marks).b)]) Tryz.underlying71 ty3 rfl rfl rfl 1 rfl (by decide) rfl rfl rfl) (ip' 1 0 [(14,iv (((x.getD t53 Cel.zero).marks).b))] (ie (sr 2 rfl (ip' 2 0 [(72,bv (!decide (((x.getD t53 Cel.zero).marks).b=0)))] ?_))))))))))))))))))))))
    refine ie ?_
    refine zjn rfl hR ?_ ?_<;>clear hR<;>intro hR h26 h26p
    ·refine A3 6 rfl (zrl 3 3 [] [(73,.slice (va r24.q) ((plain1++([{Act.zero with kind:=1,n:=((x.getD t53 Cel.zero).marks).a}]:List Act)).length) r24.k),(75,ag (A0 ({Act.zero with kind:=1,n:=((x.getD t53 Cel.zero).marks).b})))] (it rfl (B8 (c:=A0) (xs:=([{Act.zero with kind:=1,n:=((x.getD t53 Cel.zero).marks).b}]:List Act)) A1p rfl rfl rfl (by kernel_rfl)) fun b27=>?_))
     have:([{Act.zero with kind:=1,n:=((x.getD t53 Cel.zero).marks).b}]:List Act).length=1:=rfl
     refine it rfl (U4 (f:=A0) (r:=r24) (xs:=(plain1++([{Act.zero with kind:=1,n:=((x.getD t53 Cel.zero).marks).a}]:List Act))) (ys:=([{Act.zero with kind:=1,n:=((x.getD t53 Cel.zero).marks).b}]:List Act)) (pre:=[bx b17 (I1 (x.getD t53 Cel.zero)) 73,bx b6 (A5 y0.2.1) 67,bx b2 (A5 pen) 67,bx b1 [.slice xq x.length xk] 65]) (post:=[]) A7u (fun _=>rfl) (fun _=>rfl) rfl rfl rfl rfl rfl rfl rfl rfl rfl (A9 0 rfl) hr25 (by first|omega|(simp<;>omega)) (by first|omega|(simp<;>omega))) fun ⟨r28,hr29⟩=>?_
     have:=VOk.le hr29
     have:=VOk.cap hr29
     refine ip' 1 0 [(10,.slice (va r28.q) (((plain1++([{Act.zero with kind:=1,n:=((x.getD t53 Cel.zero).marks).a}]:List Act))++([{Act.zero with kind:=1,n:=((x.getD t53 Cel.zero).marks).b}]:List Act)).length) r28.k)] (A7 (nx (A3 2 rfl (ix rfl (B6 (c:=2) rfl rfl rfl rfl (by decide)) (ip' 1 0 [(68,iv 2)] (A7 (D0 (sr 1 rfl (ip' 1 0 [(69,bv false)] (ie (A8 (A3p rfl (G4 (nx (A3 2 rfl (ix rfl (B6 rfl rfl rfl rfl (by omega)) (ip' 1 0 [(53,iv ((t53:Int)+1))] (A7 ?_))))))))))))))))))
     exact D7g (z1:=plain) (z2:=plainr) (z3:=t53) ((plain1++([{Act.zero with kind:=1,n:=((x.getD t53 Cel.zero).marks).a}]:List Act))++([{Act.zero with kind:=1,n:=((x.getD t53 Cel.zero).marks).b}]:List Act)) r28 (t53+1) ⟨(by omega),hR,hr29,(by first|omega|(simp<;>omega)),(by first|assumption|exact A3j (by first|assumption|exact A3j (by assumption) rfl) rfl|(intro a ha;cases ha))⟩ (by (try dsimp only);omega) (mc [[bx b17 (I1 (x.getD t53 Cel.zero)) 73],[bx b6 (A5 y0.2.1) 67],[bx b2 (A5 pen) 67],[bx b1 [.slice xq x.length xk] 65],vo A0 26 r28 ((plain1++([{Act.zero with kind:=1,n:=((x.getD t53 Cel.zero).marks).a}]:List Act))++([{Act.zero with kind:=1,n:=((x.getD t53 Cel.zero).marks).b}]:List Act))] [false,true,true,true,true] (by first|rfl|simp) (by first|rfl|(simp only [List.length_set]<;>rfl))) (A2.pick [2,3,4,5,6,7,8,9,10] rfl)
    refine B1 (nx (A3 2 rfl (ix rfl (B6 (c:=2) rfl rfl rfl rfl (by decide)) (ip' 1 0 [(68,iv 2)] (A7 (D0 (sr 1 rfl (ip' 1 0 [(69,bv false)] (ie (A8 (A3p rfl (G4 (nx (A3 2 rfl (ix rfl (B6 rfl rfl rfl rfl (by omega)) (ip' 1 0 [(53,iv ((t53:Int)+1))] (A7 ?_)))))))))))))))))
    exact D7g (z1:=plain) (z2:=plainr) (z3:=t53) (plain1++([{Act.zero with kind:=1,n:=((x.getD t53 Cel.zero).marks).a}]:List Act)) r24 (t53+1) ⟨(by omega),hR,hr25,(by first|omega|(simp<;>omega)),(by first|assumption|exact A3j (by first|assumption|exact A3j (by assumption) rfl) rfl|(intro a ha;cases ha))⟩ (by (try dsimp only);omega) (mc [[bx b17 (I1 (x.getD t53 Cel.zero)) 73],[bx b6 (A5 y0.2.1) 67],[bx b2 (A5 pen) 67],[bx b1 [.slice xq x.length xk] 65],vo A0 26 r24 (plain1++([{Act.zero with kind:=1,n:=((x.getD t53 Cel.zero).marks).a}]:List Act))] [false,true,true,true,true] (by first|rfl|simp) (by first|rfl|(simp only [List.length_set]<;>rfl))) (A2.pick [1,2,3,4,5,6,7,8,9] rfl)
   refine B1 (nx (A3 2 rfl (ix rfl (B6 (c:=1) rfl rfl rfl rfl (by decide)) (ip' 1 0 [(68,iv 1)] (A7 (D0 (sr 1 rfl (ip' 1 0 [(69,bv true)] (ie (A8 (K0 rfl (B1 (nx (A8 (B4 (sr 2 rfl (ix rfl (D8 (v:=iv (((x.getD t53 Cel.zero).marks).b)) (us:=[iv (((x.getD t53 Cel.zero).marks).b)]) Tryz.underlying71 ty3 rfl rfl rfl 1 rfl (by decide) rfl rfl rfl) (ip' 1 0 [(14,iv (((x.getD t53 Cel.zero).marks).b))] (ie (sr 2 rfl (ip' 2 0 [(72,bv (!decide (((x.getD t53 Cel.zero).marks).b=0)))] (ie ?_))))))))))))))))))))))
   refine zjn rfl hR ?_ ?_<;>clear hR<;>intro hR h30 h30p
   ·refine A3 6 rfl (zrl 3 3 [] [(73,.slice (va plainr1.q) plain1.length plainr1.k),(75,ag (A0 ({Act.zero with kind:=1,n:=((x.getD t53 Cel.zero).marks).b})))] (it rfl (B8 (c:=A0) (xs:=([{Act.zero with kind:=1,n:=((x.getD t53 Cel.zero).marks).b}]:List Act)) A1p rfl rfl rfl (by kernel_rfl)) fun b31=>?_))
    have:([{Act.zero with kind:=1,n:=((x.getD t53 Cel.zero).marks).b}]:List Act).length=1:=rfl
    refine it rfl (U4 (f:=A0) (r:=plainr1) (xs:=plain1) (ys:=([{Act.zero with kind:=1,n:=((x.getD t53 Cel.zero).marks).b}]:List Act)) (pre:=[bx b17 (I1 (x.getD t53 Cel.zero)) 73,bx b6 (A5 y0.2.1) 67,bx b2 (A5 pen) 67,bx b1 [.slice xq x.length xk] 65]) (post:=[]) A7u (fun _=>rfl) (fun _=>rfl) rfl rfl rfl rfl rfl rfl rfl rfl rfl (A9 0 rfl) hokplainr1 (by first|omega|(simp<;>omega)) (by first|omega|(simp<;>omega))) fun ⟨r32,hr33⟩=>?_
    have:=VOk.le hr33
    have:=VOk.cap hr33
    refine ip' 1 0 [(10,.slice (va r32.q) ((plain1++([{Act.zero with kind:=1,n:=((x.getD t53 Cel.zero).marks).b}]:List Act)).length) r32.k)] (A7 (nx (A3 2 rfl (ix rfl (B6 (c:=2) rfl rfl rfl rfl (by decide)) (ip' 1 0 [(68,iv 2)] (A7 (D0 (sr 1 rfl (ip' 1 0 [(69,bv false)] (ie (A8 (A3p rfl (G4 (nx (A3 2 rfl (ix rfl (B6 rfl rfl rfl rfl (by omega)) (ip' 1 0 [(53,iv ((t53:Int)+1))] (A7 ?_))))))))))))))))))
    exact D7g (z1:=plain) (z2:=plainr) (z3:=t53) (plain1++([{Act.zero with kind:=1,n:=((x.getD t53 Cel.zero).marks).b}]:List Act)) r32 (t53+1) ⟨(by omega),hR,hr33,(by first|omega|(simp<;>omega)),(by first|assumption|exact A3j (by first|assumption|exact A3j (by assumption) rfl) rfl|(intro a ha;cases ha))⟩ (by (try dsimp only);omega) (mc [[bx b17 (I1 (x.getD t53 Cel.zero)) 73],[bx b6 (A5 y0.2.1) 67],[bx b2 (A5 pen) 67],[bx b1 [.slice xq x.length xk] 65],vo A0 26 r32 (plain1++([{Act.zero with kind:=1,n:=((x.getD t53 Cel.zero).marks).b}]:List Act))] [false,true,true,true,true] (by first|rfl|simp) (by first|rfl|(simp only [List.length_set]<;>rfl))) (A2.pick [1,2,3,4,5,6,7,8,9] rfl)
   refine B1 (nx (A3 2 rfl (ix rfl (B6 (c:=2) rfl rfl rfl rfl (by decide)) (ip' 1 0 [(68,iv 2)] (A7 (D0 (sr 1 rfl (ip' 1 0 [(69,bv false)] (ie (A8 (A3p rfl (G4 (nx (A3 2 rfl (ix rfl (B6 rfl rfl rfl rfl (by omega)) (ip' 1 0 [(53,iv ((t53:Int)+1))] (A7 ?_)))))))))))))))))
   exact D7g (z1:=plain) (z2:=plainr) (z3:=t53) plain1 plainr1 (t53+1) ⟨(by omega),hR,hokplainr1,(by first|omega|(simp<;>omega)),(by first|assumption|exact A3j (by first|assumption|exact A3j (by assumption) rfl) rfl|(intro a ha;cases ha))⟩ (by (try dsimp only);omega) (mc [[bx b17 (I1 (x.getD t53 Cel.zero)) 73],[bx b6 (A5 y0.2.1) 67],[bx b2 (A5 pen) 67],[bx b1 [.slice xq x.length xk] 65],vo A0 26 plainr1 plain1] [false,true,true,true,true] (by first|rfl|simp) (by first|rfl|(simp only [List.length_set]<;>rfl))) A2.refl
  have h16p:¬ ((t53:Int)<(x.length:Int)):=by simpa using h16
  rw [A5f h16p] at hR;replace hR:=(K9.eq_1 ..).symm.trans hR
  refine G4 (nx (sr 7 rfl (ip' 1 6 [(81,.slice (va plainr.q) plain.length plainr.k)] ?_)))
  have:=VOk.cap hokplainr
  have:=VOk.le hokplainr
  refine A3n [bx b6 (A5 y0.2.1) 67,bx b2 (A5 pen) 67,bx b1 [.slice xq x.length xk] 65] [] (T:=26) (c:=A0) (r:=plainr) (xs:=plain) hokplainr (by first|rfl|simp) ?_
  have hQ:=D5 hR;clear hR;obtain ⟨y2,hy2,hR⟩:=hQ
  refine it rfl (G8 (L2:=[bx b6 (A5 y0.2.1) 67,bx b2 (A5 pen) 67,bx b1 [.slice xq x.length xk] 65]) (A4p plain (va plainr.q) plainr.k (by first|omega|(simp<;>omega)|(dsimp only;omega)|decide) (by first|omega|(simp<;>omega)|(dsimp only;omega)|decide) (by first|exact fun x hx=>by rw [(hpen x hx).2];exact Nat.zero_le _|exact fun x hx=>hnt x hx|assumption|decide|exact fun x hx=>Nat.le_trans (hrow x hx) (by decide)|exact fun x hx=>Nat.le_trans (of_decide_eq_true (List.all_eq_true.1 hbt x hx)) (by decide)|(intro x hx;simp only [List.nil_append,List.mem_append] at hx;rcases hx with hx|hx<;>first|exact Nat.le_trans (hrow x hx) (by decide)|exact Nat.le_trans (hpt x hx) (by decide))|(intro x hx;rw [List.mem_singleton.1 hx];omega)|exact fun x hx=>Nat.le_trans (hrow x (List.mem_of_mem_take hx)) (by decide)|exact fun x hx=>Nat.le_trans (hrow x (List.mem_of_mem_drop hx)) (by decide)|exact fun x hx=>Nat.le_trans (hrow x (List.mem_of_mem_drop (List.mem_of_mem_take hx))) (by decide)|omega) y2 hy2) rfl rfl rfl rfl rfl (A2.pick [0,4,5,6,7,8,9] rfl) (List.Perm.refl _) (fun ⟨r34,hk35⟩=>(bx b6 (A5 y0.2.1) 67::bx b2 (A5 pen) 67::bx b1 [.slice xq x.length xk] 65::(vo cU8 5 r34 y2.1)++([]))) (fun ⟨r34,hk35⟩=>F7 [vo cU8 5 r34 y2.1,[bx b6 (A5 y0.2.1) 67],[bx b2 (A5 pen) 67],[bx b1 [.slice xq x.length xk] 65]] [1,2,3,0] 4 rfl (by decide) (by first|rfl|simp) [[bx b6 (A5 y0.2.1) 67],[bx b2 (A5 pen) 67],[bx b1 [.slice xq x.length xk] 65],vo cU8 5 r34 y2.1] rfl (by first|rfl|simp))) fun ⟨r34,hk35⟩=>?_
  have:=VOk.le hk35
  have:=VOk.cap hk35
  try have:=A2c plain (fun x hx=>Nat.le_trans (hrow x (by first|exact hx|exact List.mem_of_mem_take hx|exact List.mem_of_mem_drop hx)) (by decide));try rw [hy2] at this
  refine A3n [bx b6 (A5 y0.2.1) 67,bx b2 (A5 pen) 67,bx b1 [.slice xq x.length xk] 65] [] (T:=5) (c:=cU8) (r:=r34) (xs:=y2.1) hk35 (by first|rfl|simp) ?_
  refine ip' 5 0 [(15,.slice (va r34.q) y2.1.length r34.k),(8,iv y2.2)] (ie (sr 10 rfl (ip' 3 7 [(87,bv (decide (y2.2=0)))] ?_)))
  refine zid 6 1 87 93 (decide ((y1.1.length:Int)≤(y2.1.length:Int))) (fun g36 g36p=>?_) ?_
  ·refine ip' 6 0 [(93,bv (decide ((y1.1.length:Int)≤(y2.1.length:Int))))] ?_
   exact zai 2 87 93 g36
  refine ip' 1 0 [(4,bv ((decide (y2.2=0))&&(decide ((y1.1.length:Int)≤(y2.1.length:Int)))))] ?_
  subst hR
  refine ie (B5 ?_)
  exact G2 hr hD
end Go.Proofs.YtanighkpfmgnbaaGreatDoor
set_option linter.unusedVariables false
set_option linter.unusedSimpArgs false
set_option linter.unnecessarySimpa false
set_option maxRecDepth 100000
namespace Go.Proofs.YtanighkpfmgnbaaGreatDoor
open Go Go.Fen
end Go.Proofs.YtanighkpfmgnbaaGreatDoor
