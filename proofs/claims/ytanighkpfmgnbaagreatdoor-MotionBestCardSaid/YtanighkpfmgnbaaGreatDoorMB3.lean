import Derived.Test.YtanighkpfmgnbaaGreatDoorProg
import Derived.Test.YtanighkpfmgnbaaGreatDoorMA2
import Derived.Test.YtanighkpfmgnbaaGreatDoorMB1
import Derived.Test.YtanighkpfmgnbaaGreatDoorMA3
import Derived.Test.YtanighkpfmgnbaaGreatDoorMB2
set_option linter.unusedVariables false
set_option linter.unusedSimpArgs false
set_option linter.unnecessarySimpa false
set_option maxRecDepth 100000
namespace Go.Proofs.YtanighkpfmgnbaaGreatDoor
open Go Go.Fen
theorem K4:MapTy Tryz.prog 136 3 134 (.int .i64):=⟨by kernel_rfl,by kernel_rfl,rfl⟩
theorem D8p:SlTy Tryz.prog 186 184 2:=⟨by kernel_rfl,by kernel_rfl⟩
theorem B9w:Ty Tryz.prog 134 2 true:=⟨by kernel_rfl⟩
theorem D6p:Ty Tryz.prog 184 2 true:=⟨by kernel_rfl⟩
theorem A9n:Zero Tryz.prog 134 [.nilFunc,.nilFunc]:=⟨by kernel_rfl⟩
def A3w (cp:Int):List Spn→Nat→Bool
 | [],t9=>false
 | hd_l0::tl_l0,t9=>(bif ((decide (hd_l0.lo≤cp))&&(decide (cp≤hd_l0.hi))) then true else A3w cp tl_l0 (t9+1))
def Z0 (cp:Int) (l:List Spn):Bool :=
 A3w cp l 0
theorem B7p (cp:Int) (l:List Spn) (lq:Option Addr) (lk:Nat) (hll:l.length≤9223372036854775807) (hcl:l.length≤lk) (R:Bool) (hR:Z0 cp l=R):K5 Tryz.prog 116 [iv cp,.slice lq l.length lk] [sl B1 lq l] (bv R):=by
 refine zco Tryz.func116 [(0,iv cp),(1,.slice lq l.length lk)] fun X hX hr hD=>?_
 replace hR:=(Z0.eq_1 ..).symm.trans hR
 refine sr 1 rfl (ip' 1 0 [] (ie (A7 (sr 3 rfl (ip' 3 0 [(7,.slice lq l.length lk),(8,iv (l.length:Int)),(9,iv 0)] (ie (B2 (D1m (fun (t9:Nat)=>(t9≤l.length∧A3w cp (l.drop t9) t9=R,[(0,iv cp),(7,.slice lq l.length lk),(8,iv (l.length:Int)),(9,iv (t9:Int))],[],[sl B1 lq l],l.length - t9)) 0 ⟨(by omega),hR⟩ (mk [] rfl) A0.refl ?_))))))))
 rintro t9 ⟨hm1,hR⟩
 refine sr 1 rfl (ip' 1 0 [(10,bv (decide ((t9:Int)<(l.length:Int))))] ?_)
 refine ie (A7 (I9 rfl (fun h2=>?_) (fun h2=>?_)))
 ·have h2p:(t9:Int)<(l.length:Int):=by simpa using h2
  rw [A4r Spn.zero (show t9<l.length by omega)] at hR;replace hR:=(A3w.eq_2 ..).symm.trans hR
  refine A9 (nx (A7 (B2 (sr 4 rfl (P3 0 rfl (by omega) fun a3 hq4=>(ix rfl (N0 D8p rfl rfl hq4 rfl t9 rfl (by omega)) (ix rfl (P5 (us:=B1 (l.getD t9 Spn.zero)) D6p rfl rfl (O4 (c:=B1) (sz:=2) hq4 (fun _=>rfl) 0 rfl (gd Spn.zero (by omega))) rfl) ?_)))))))
  refine P1 2 0 [0] (fun b5=>[(6,pt b5 0)]) (fun b5=>[bx b5 (B1 (l.getD t9 Spn.zero)) 184]) (fun b5=>?_)
  refine ie (sr 10 rfl (zrl 5 5 [0] [(17,bv (decide ((l.getD t9 Spn.zero).lo≤cp)))] ?_))
  refine zid 5 0 17 22 (decide (cp≤(l.getD t9 Spn.zero).hi)) (fun g6 g6p=>?_) ?_
  ·refine zrl 5 0 [0] [(22,bv (decide (cp≤(l.getD t9 Spn.zero).hi)))] ?_
   exact zai 2 17 22 g6
  refine ie ?_
  refine zja rfl hR ?_ ?_<;>clear hR<;>intro hR h7 h7p
  ·refine sr 1 rfl (ip' 1 0 [(4,bv true)] ?_)
   subst hR
   refine ie (B0 ?_)
   exact F8 hr hD
  refine A9 (nx (A3 2 rfl (ix rfl (B6 rfl rfl rfl rfl (by omega)) (ip' 1 0 [(9,iv ((t9:Int)+1))] (A6 ?_)))))
  exact D0x (z1:=t9) (t9+1) ⟨(by omega),hR⟩ (by (try dsimp only);omega) (mk [false] rfl) A0.refl
 have h2p:¬ ((t9:Int)<(l.length:Int)):=by simpa using h2
 rw [A4s h2p] at hR;replace hR:=(A3w.eq_1 ..).symm.trans hR
 refine J1 (nx (sr 1 rfl (ip' 1 0 [(4,bv false)] ?_)))
 subst hR
 refine ie (B0 ?_)
 exact F8 hr hD
def A8a (cp:Int):Int :=
 (bif ((!(A4g cp))||(Z0 cp ([(⟨0,31⟩:Spn),(⟨127,159⟩:Spn)]:List Spn))) then (-1) else (bif (decide (cp<(C0f.getD 0 Spn.zero).lo)) then 1 else (bif (Z0 cp C0f) then 0 else (bif (Z0 cp D3h) then 2 else 1))))
theorem D4p (cp:Int) (R:Int) (hR:A8a cp=R):K5 Tryz.prog 62 [iv cp] [B6s,B6r] (iv R):=by
 refine zco Tryz.func62 [(0,iv cp)] fun X hX hr hD=>?_
 replace hR:=(A8a.eq_1 ..).symm.trans hR
 refine sr 1 rfl (ip' 1 0 [] (ie (A7 (B2 (sr 11 rfl (ip' 1 10 [(4,iv cp)] (zca (C1x cp _ rfl) fn0 (ip' 2 7 [(7,bv (!(A4g cp)))] ?_))))))))
 refine zio 6 1 7 13 (Z0 cp ([(⟨0,31⟩:Spn),(⟨127,159⟩:Spn)]:List Spn)) (fun g1=>?_) ?_
 ·refine zrl 3 3 [] [(8,iv cp),(9,ag (B1 (⟨0,31⟩:Spn))),(10,ag (B1 (⟨127,159⟩:Spn)))] (it rfl (B3 (c:=B1) (xs:=([(⟨0,31⟩:Spn),(⟨127,159⟩:Spn)]:List Spn)) D8p rfl rfl rfl (by kernel_rfl)) fun b2=>?_)
  have:([(⟨0,31⟩:Spn),(⟨127,159⟩:Spn)]:List Spn).length=2:=rfl
  refine zca (B7p cp ([(⟨0,31⟩:Spn),(⟨127,159⟩:Spn)]:List Spn) (some ⟨b2,0,none⟩) 2 (by first|omega|(simp<;>omega)|(dsimp only;omega)|decide) (by first|omega|(simp<;>omega)|(dsimp only;omega)|decide) _ rfl) (A0.pick [0] rfl) (ip' 1 0 [(13,bv (Z0 cp ([(⟨0,31⟩:Spn),(⟨127,159⟩:Spn)]:List Spn)))] ?_)
  exact A6 (Q2 7 7 13 g1 (A0.pick [1,2] rfl) (mk [] rfl) rfl rfl rfl rfl rfl)
 refine ip' 1 0 [(3,bv ((!(A4g cp))||(Z0 cp ([(⟨0,31⟩:Spn),(⟨127,159⟩:Spn)]:List Spn))))] (ie ?_)
 refine zjb rfl hR ?_ ?_<;>clear hR<;>intro hR h3
 ·have h3p:=h3;try simp at h3p
  refine sr 1 rfl (ip' 1 0 [(2,iv (-1))] ?_)
  subst hR
  refine ie (B0 ?_)
  exact F8 hr hD
 have h3p:=h3;try simp at h3p
 refine sr 6 rfl (ip' 1 5 [(15,iv cp)] (ix rfl (B8l Tryz.underlying185 D6p rfl rfl rfl 0 rfl (by first|decide|omega)) (ip' 1 3 [(17,pa (Addr.add ⟨0,0,none⟩ (0 * 2)))] (ix rfl (C4 (v:=iv ((C0f.getD 0 Spn.zero).lo)) (us:=[iv ((C0f.getD 0 Spn.zero).lo)]) ty3 rfl rfl (U3 (O4 (c:=B1) (sz:=2) rfl (fun _=>rfl) 0 rfl (gd Spn.zero (by first|decide|(simp only [C0f,List.length_cons,List.length_nil];omega)))) (ws:=[iv ((C0f.getD 0 Spn.zero).lo)]) 1 rfl) rfl) (ip' 2 0 [(14,bv (decide (cp<(C0f.getD 0 Spn.zero).lo)))] (ie ?_))))))
 refine zjd rfl hR ?_ ?_<;>clear hR<;>intro hR h4 h4p
 ·refine sr 1 rfl (ip' 1 0 [(2,iv 1)] ?_)
  subst hR
  refine ie (B0 ?_)
  exact F8 hr hD
 refine sr 4 rfl (ip' 1 3 [(21,iv cp)] (ix rfl (C3y Tryz.underlying185 D6p rfl rfl) (zca (B7p cp C0f (some ⟨0,0,none⟩) 11 (by first|omega|(simp<;>omega)|(dsimp only;omega)|decide) (by first|omega|(simp<;>omega)|(dsimp only;omega)|decide) _ rfl) (A0.pick [0] rfl) (ip' 1 0 [(20,bv (Z0 cp C0f))] (ie ?_)))))
 refine zjb rfl hR ?_ ?_<;>clear hR<;>intro hR h5
 ·refine sr 1 rfl (ip' 1 0 [(2,iv 0)] ?_)
  subst hR
  refine ie (B0 ?_)
  exact F8 hr hD
 refine sr 4 rfl (ip' 1 3 [(25,iv cp)] (ix rfl (C3y Tryz.underlying187 D6p rfl rfl) (zca (B7p cp D3h (some ⟨1,0,none⟩) 13 (by first|omega|(simp<;>omega)|(dsimp only;omega)|decide) (by first|omega|(simp<;>omega)|(dsimp only;omega)|decide) _ rfl) (A0.pick [1] rfl) (ip' 1 0 [(24,bv (Z0 cp D3h))] (ie ?_)))))
 refine zjb rfl hR ?_ ?_<;>clear hR<;>intro hR h6
 ·refine sr 1 rfl (ip' 1 0 [(2,iv 2)] ?_)
  subst hR
  refine ie (B0 ?_)
  exact F8 hr hD
 refine A9 (nx (sr 1 rfl (ip' 1 0 [(2,iv 1)] ?_)))
 subst hR
 refine ie (B0 ?_)
 exact F8 hr hD
def A3e (kind:Int) (n:Int) (m:Int):Act :=
 {Act.zero with kind:=kind,n:=n,m:=m}
theorem D0v (kind:Int) (n:Int) (m:Int) (R:Act) (hR:A3e kind n m=R):K5 Tryz.prog 63 [iv kind,iv n,iv m] [] (ag (A5 R)):=by
 refine zco Tryz.func63 [(0,iv kind),(1,iv n),(2,iv m)] fun X hX hr hD=>?_
 replace hR:=(A3e.eq_1 ..).symm.trans hR
 refine sr 1 rfl (P1 1 0 [] (fun b1=>[(6,pt b1 0)]) (fun b1=>[bx b1 (A5 Act.zero) 26]) (fun b1=>(ie (sr 5 rfl (zrg 5 0 [0] [] [bx b1 (A5 ({Act.zero with kind:=kind,n:=n,m:=m})) 26] ?_)))))
 subst hR
 refine ie (B0 ?_)
 exact zer hr hD (O3 rfl (G3 (us:=A5 ({Act.zero with kind:=kind,n:=n,m:=m})) B4z rfl 0 rfl rfl rfl)) () (mk [false] rfl) fn0
def B7d:Unit :=
 ()
theorem C2g (R:Unit) (hR:B7d=R):K5 Tryz.prog 122 [] [] (.tuple #[.func (.func 123) #[ag (B1 (⟨0,0⟩:Spn))] #[],.func (.func 123) #[ag (B1 (⟨0,1⟩:Spn))] #[],.func (.func 123) #[ag (B1 (⟨1,9999⟩:Spn))] #[],.func (.func 123) #[ag (B1 (⟨0,9999⟩:Spn))] #[]]):=by
 refine zco Tryz.func122 [] fun X hX hr hD=>?_
 replace hR:=(B7d.eq_1 ..).symm.trans hR
 refine sr 4 rfl (ip' 4 0 [] (ie (sr 12 rfl (zrl 12 0 [] [(0,.func (.func 123) #[ag (B1 (⟨0,0⟩:Spn))] #[]),(1,.func (.func 123) #[ag (B1 (⟨0,1⟩:Spn))] #[]),(2,.func (.func 123) #[ag (B1 (⟨1,9999⟩:Spn))] #[]),(3,.func (.func 123) #[ag (B1 (⟨0,9999⟩:Spn))] #[])] ?_))))
 subst hR
 refine ie (B0 ?_)
 exact zer hr hD (E8s rfl (B8 rfl) (B8 rfl) (B8 rfl) (B8 rfl)) () (mk [] rfl) fn0
def me0:Value:=ag [.func (.func 123) #[ag (B1 (⟨0,3⟩:Spn))] #[],.func (.func 123) #[ag (B1 (⟨0,1⟩:Spn))] #[]]
def mt0:List (Int×Value):=[(17,me0)]
def me1:Value:=ag [.func (.func 123) #[ag (B1 (⟨2,3⟩:Spn))] #[],.func (.func 123) #[ag (B1 (⟨0,0⟩:Spn))] #[]]
def mt1:List (Int×Value):=[(17,me0),(18,me1)]
def me2:Value:=ag [.func (.func 123) #[ag (B1 (⟨1,9999⟩:Spn))] #[],.func (.func 123) #[ag (B1 (⟨1,9999⟩:Spn))] #[]]
def mt2:List (Int×Value):=[(17,me0),(18,me1),(19,me2)]
def me3:Value:=ag [.func (.func 123) #[ag (B1 (⟨0,3⟩:Spn))] #[],.func (.func 123) #[ag (B1 (⟨1,9999⟩:Spn))] #[]]
def mt3:List (Int×Value):=[(17,me0),(18,me1),(19,me2),(20,me3)]
def me4:Value:=ag [.func (.func 123) #[ag (B1 (⟨0,3⟩:Spn))] #[],.func (.func 123) #[ag (B1 (⟨0,0⟩:Spn))] #[]]
def mt4:List (Int×Value):=[(17,me0),(18,me1),(19,me2),(20,me3),(26,me4)]
def me5:Value:=ag [.func (.func 123) #[ag (B1 (⟨0,2⟩:Spn))] #[],.func (.func 123) #[ag (B1 (⟨0,0⟩:Spn))] #[]]
def mt5:List (Int×Value):=[(17,me0),(18,me1),(19,me2),(20,me3),(26,me4),(27,me5)]
def me6:Value:=ag [.func (.func 124) #[] #[],.func (.func 123) #[ag (B1 (⟨0,0⟩:Spn))] #[]]
def mt6:List (Int×Value):=[(17,me0),(18,me1),(19,me2),(20,me3),(26,me4),(27,me5),(35,me6)]
def me7:Value:=ag [.func (.func 123) #[ag (B1 (⟨0,9999⟩:Spn))] #[],.func (.func 123) #[ag (B1 (⟨0,9999⟩:Spn))] #[]]
def mt7:List (Int×Value):=[(17,me0),(18,me1),(19,me2),(20,me3),(26,me4),(27,me5),(35,me6),(38,me7)]
def me8:Value:=ag [.func (.func 123) #[ag (B1 (⟨0,6⟩:Spn))] #[],.func (.func 123) #[ag (B1 (⟨0,0⟩:Spn))] #[]]
def mt8:List (Int×Value):=[(17,me0),(18,me1),(19,me2),(20,me3),(26,me4),(27,me5),(35,me6),(38,me7),(40,me8)]
def me9:Value:=ag [.func (.func 123) #[ag (B1 (⟨5,6⟩:Spn))] #[],.func (.func 123) #[ag (B1 (⟨0,0⟩:Spn))] #[]]
def mt9:List (Int×Value):=[(17,me0),(18,me1),(19,me2),(20,me3),(26,me4),(27,me5),(35,me6),(38,me7),(40,me8),(41,me9)]
def A5s:Value:=ag [.func (.func 123) #[ag (B1 (⟨0,0⟩:Spn))] #[],.func (.func 123) #[ag (B1 (⟨0,0⟩:Spn))] #[]]
def E5p:List (Int×Value):=[(17,me0),(18,me1),(19,me2),(20,me3),(26,me4),(27,me5),(35,me6),(38,me7),(40,me8),(41,me9),(2,A5s)]
def A6h:Value:=ag [.func (.func 123) #[ag (B1 (⟨0,0⟩:Spn))] #[],.func (.func 123) #[ag (B1 (⟨0,0⟩:Spn))] #[]]
def E5k:List (Int×Value):=[(17,me0),(18,me1),(19,me2),(20,me3),(26,me4),(27,me5),(35,me6),(38,me7),(40,me8),(41,me9),(2,A5s),(3,A6h)]
def A6i:Value:=ag [.func (.func 123) #[ag (B1 (⟨0,0⟩:Spn))] #[],.func (.func 123) #[ag (B1 (⟨0,0⟩:Spn))] #[]]
def E5e:List (Int×Value):=[(17,me0),(18,me1),(19,me2),(20,me3),(26,me4),(27,me5),(35,me6),(38,me7),(40,me8),(41,me9),(2,A5s),(3,A6h),(4,A6i)]
def A7b:Value:=ag [.func (.func 123) #[ag (B1 (⟨0,0⟩:Spn))] #[],.func (.func 123) #[ag (B1 (⟨0,0⟩:Spn))] #[]]
def E4i:List (Int×Value):=[(17,me0),(18,me1),(19,me2),(20,me3),(26,me4),(27,me5),(35,me6),(38,me7),(40,me8),(41,me9),(2,A5s),(3,A6h),(4,A6i),(5,A7b)]
def A7m:Value:=ag [.func (.func 123) #[ag (B1 (⟨0,0⟩:Spn))] #[],.func (.func 123) #[ag (B1 (⟨0,0⟩:Spn))] #[]]
def E5t:List (Int×Value):=[(17,me0),(18,me1),(19,me2),(20,me3),(26,me4),(27,me5),(35,me6),(38,me7),(40,me8),(41,me9),(2,A5s),(3,A6h),(4,A6i),(5,A7b),(6,A7m)]
def A8n:Value:=ag [.func (.func 123) #[ag (B1 (⟨0,0⟩:Spn))] #[],.func (.func 123) #[ag (B1 (⟨0,0⟩:Spn))] #[]]
def E6s:List (Int×Value):=[(17,me0),(18,me1),(19,me2),(20,me3),(26,me4),(27,me5),(35,me6),(38,me7),(40,me8),(41,me9),(2,A5s),(3,A6h),(4,A6i),(5,A7b),(6,A7m),(8,A8n)]
def A8x:Value:=ag [.func (.func 123) #[ag (B1 (⟨0,0⟩:Spn))] #[],.func (.func 123) #[ag (B1 (⟨0,0⟩:Spn))] #[]]
def E4y:List (Int×Value):=[(17,me0),(18,me1),(19,me2),(20,me3),(26,me4),(27,me5),(35,me6),(38,me7),(40,me8),(41,me9),(2,A5s),(3,A6h),(4,A6i),(5,A7b),(6,A7m),(8,A8n),(9,A8x)]
def A9e:Value:=ag [.func (.func 123) #[ag (B1 (⟨0,0⟩:Spn))] #[],.func (.func 123) #[ag (B1 (⟨0,0⟩:Spn))] #[]]
def E5v:List (Int×Value):=[(17,me0),(18,me1),(19,me2),(20,me3),(26,me4),(27,me5),(35,me6),(38,me7),(40,me8),(41,me9),(2,A5s),(3,A6h),(4,A6i),(5,A7b),(6,A7m),(8,A8n),(9,A8x),(10,A9e)]
def B0d:Value:=ag [.func (.func 123) #[ag (B1 (⟨0,0⟩:Spn))] #[],.func (.func 123) #[ag (B1 (⟨0,0⟩:Spn))] #[]]
def E5l:List (Int×Value):=[(17,me0),(18,me1),(19,me2),(20,me3),(26,me4),(27,me5),(35,me6),(38,me7),(40,me8),(41,me9),(2,A5s),(3,A6h),(4,A6i),(5,A7b),(6,A7m),(8,A8n),(9,A8x),(10,A9e),(11,B0d)]
def B0w:Value:=ag [.func (.func 123) #[ag (B1 (⟨0,0⟩:Spn))] #[],.func (.func 123) #[ag (B1 (⟨0,0⟩:Spn))] #[]]
def E4w:List (Int×Value):=[(17,me0),(18,me1),(19,me2),(20,me3),(26,me4),(27,me5),(35,me6),(38,me7),(40,me8),(41,me9),(2,A5s),(3,A6h),(4,A6i),(5,A7b),(6,A7m),(8,A8n),(9,A8x),(10,A9e),(11,B0d),(12,B0w)]
def B2b:Value:=ag [.func (.func 123) #[ag (B1 (⟨0,0⟩:Spn))] #[],.func (.func 123) #[ag (B1 (⟨0,0⟩:Spn))] #[]]
def E5q:List (Int×Value):=[(17,me0),(18,me1),(19,me2),(20,me3),(26,me4),(27,me5),(35,me6),(38,me7),(40,me8),(41,me9),(2,A5s),(3,A6h),(4,A6i),(5,A7b),(6,A7m),(8,A8n),(9,A8x),(10,A9e),(11,B0d),(12,B0w),(13,B2b)]
def B2c:Value:=ag [.func (.func 123) #[ag (B1 (⟨0,0⟩:Spn))] #[],.func (.func 123) #[ag (B1 (⟨0,0⟩:Spn))] #[]]
def E5d:List (Int×Value):=[(17,me0),(18,me1),(19,me2),(20,me3),(26,me4),(27,me5),(35,me6),(38,me7),(40,me8),(41,me9),(2,A5s),(3,A6h),(4,A6i),(5,A7b),(6,A7m),(8,A8n),(9,A8x),(10,A9e),(11,B0d),(12,B0w),(13,B2b),(15,B2c)]
def B3i:Value:=ag [.func (.func 123) #[ag (B1 (⟨0,0⟩:Spn))] #[],.func (.func 123) #[ag (B1 (⟨0,0⟩:Spn))] #[]]
def E5c:List (Int×Value):=[(17,me0),(18,me1),(19,me2),(20,me3),(26,me4),(27,me5),(35,me6),(38,me7),(40,me8),(41,me9),(2,A5s),(3,A6h),(4,A6i),(5,A7b),(6,A7m),(8,A8n),(9,A8x),(10,A9e),(11,B0d),(12,B0w),(13,B2b),(15,B2c),(16,B3i)]
def B4k:Value:=ag [.func (.func 123) #[ag (B1 (⟨0,1⟩:Spn))] #[],.func (.func 123) #[ag (B1 (⟨0,0⟩:Spn))] #[]]
def E4d:List (Int×Value):=[(17,me0),(18,me1),(19,me2),(20,me3),(26,me4),(27,me5),(35,me6),(38,me7),(40,me8),(41,me9),(2,A5s),(3,A6h),(4,A6i),(5,A7b),(6,A7m),(8,A8n),(9,A8x),(10,A9e),(11,B0d),(12,B0w),(13,B2b),(15,B2c),(16,B3i),(7,B4k)]
def B5j:Value:=ag [.func (.func 123) #[ag (B1 (⟨0,1⟩:Spn))] #[],.func (.func 123) #[ag (B1 (⟨0,0⟩:Spn))] #[]]
def E6r:List (Int×Value):=[(17,me0),(18,me1),(19,me2),(20,me3),(26,me4),(27,me5),(35,me6),(38,me7),(40,me8),(41,me9),(2,A5s),(3,A6h),(4,A6i),(5,A7b),(6,A7m),(8,A8n),(9,A8x),(10,A9e),(11,B0d),(12,B0w),(13,B2b),(15,B2c),(16,B3i),(7,B4k),(14,B5j)]
def B6m:Value:=ag [.func (.func 123) #[ag (B1 (⟨0,1⟩:Spn))] #[],.func (.func 123) #[ag (B1 (⟨0,0⟩:Spn))] #[]]
def E5u:List (Int×Value):=[(17,me0),(18,me1),(19,me2),(20,me3),(26,me4),(27,me5),(35,me6),(38,me7),(40,me8),(41,me9),(2,A5s),(3,A6h),(4,A6i),(5,A7b),(6,A7m),(8,A8n),(9,A8x),(10,A9e),(11,B0d),(12,B0w),(13,B2b),(15,B2c),(16,B3i),(7,B4k),(14,B5j),(42,B6m)]
def B8k:Value:=ag [.func (.func 123) #[ag (B1 (⟨0,1⟩:Spn))] #[],.func (.func 123) #[ag (B1 (⟨1,9999⟩:Spn))] #[]]
def E4r:List (Int×Value):=[(17,me0),(18,me1),(19,me2),(20,me3),(26,me4),(27,me5),(35,me6),(38,me7),(40,me8),(41,me9),(2,A5s),(3,A6h),(4,A6i),(5,A7b),(6,A7m),(8,A8n),(9,A8x),(10,A9e),(11,B0d),(12,B0w),(13,B2b),(15,B2c),(16,B3i),(7,B4k),(14,B5j),(42,B6m),(21,B8k)]
def B9t:Value:=ag [.func (.func 123) #[ag (B1 (⟨0,1⟩:Spn))] #[],.func (.func 123) #[ag (B1 (⟨1,9999⟩:Spn))] #[]]
def E5o:List (Int×Value):=[(17,me0),(18,me1),(19,me2),(20,me3),(26,me4),(27,me5),(35,me6),(38,me7),(40,me8),(41,me9),(2,A5s),(3,A6h),(4,A6i),(5,A7b),(6,A7m),(8,A8n),(9,A8x),(10,A9e),(11,B0d),(12,B0w),(13,B2b),(15,B2c),(16,B3i),(7,B4k),(14,B5j),(42,B6m),(21,B8k),(33,B9t)]
def C0p:Value:=ag [.func (.func 123) #[ag (B1 (⟨1,9999⟩:Spn))] #[],.func (.func 123) #[ag (B1 (⟨0,0⟩:Spn))] #[]]
def E4c:List (Int×Value):=[(17,me0),(18,me1),(19,me2),(20,me3),(26,me4),(27,me5),(35,me6),(38,me7),(40,me8),(41,me9),(2,A5s),(3,A6h),(4,A6i),(5,A7b),(6,A7m),(8,A8n),(9,A8x),(10,A9e),(11,B0d),(12,B0w),(13,B2b),(15,B2c),(16,B3i),(7,B4k),(14,B5j),(42,B6m),(21,B8k),(33,B9t),(22,C0p)]
def C2l:Value:=ag [.func (.func 123) #[ag (B1 (⟨1,9999⟩:Spn))] #[],.func (.func 123) #[ag (B1 (⟨0,0⟩:Spn))] #[]]
def E6d:List (Int×Value):=[(17,me0),(18,me1),(19,me2),(20,me3),(26,me4),(27,me5),(35,me6),(38,me7),(40,me8),(41,me9),(2,A5s),(3,A6h),(4,A6i),(5,A7b),(6,A7m),(8,A8n),(9,A8x),(10,A9e),(11,B0d),(12,B0w),(13,B2b),(15,B2c),(16,B3i),(7,B4k),(14,B5j),(42,B6m),(21,B8k),(33,B9t),(22,C0p),(23,C2l)]
def C5l:Value:=ag [.func (.func 123) #[ag (B1 (⟨1,9999⟩:Spn))] #[],.func (.func 123) #[ag (B1 (⟨0,0⟩:Spn))] #[]]
def E6b:List (Int×Value):=[(17,me0),(18,me1),(19,me2),(20,me3),(26,me4),(27,me5),(35,me6),(38,me7),(40,me8),(41,me9),(2,A5s),(3,A6h),(4,A6i),(5,A7b),(6,A7m),(8,A8n),(9,A8x),(10,A9e),(11,B0d),(12,B0w),(13,B2b),(15,B2c),(16,B3i),(7,B4k),(14,B5j),(42,B6m),(21,B8k),(33,B9t),(22,C0p),(23,C2l),(24,C5l)]
def C6t:Value:=ag [.func (.func 123) #[ag (B1 (⟨1,9999⟩:Spn))] #[],.func (.func 123) #[ag (B1 (⟨0,0⟩:Spn))] #[]]
def E4p:List (Int×Value):=[(17,me0),(18,me1),(19,me2),(20,me3),(26,me4),(27,me5),(35,me6),(38,me7),(40,me8),(41,me9),(2,A5s),(3,A6h),(4,A6i),(5,A7b),(6,A7m),(8,A8n),(9,A8x),(10,A9e),(11,B0d),(12,B0w),(13,B2b),(15,B2c),(16,B3i),(7,B4k),(14,B5j),(42,B6m),(21,B8k),(33,B9t),(22,C0p),(23,C2l),(24,C5l),(25,C6t)]
def C9j:Value:=ag [.func (.func 123) #[ag (B1 (⟨1,9999⟩:Spn))] #[],.func (.func 123) #[ag (B1 (⟨0,0⟩:Spn))] #[]]
def E5w:List (Int×Value):=[(17,me0),(18,me1),(19,me2),(20,me3),(26,me4),(27,me5),(35,me6),(38,me7),(40,me8),(41,me9),(2,A5s),(3,A6h),(4,A6i),(5,A7b),(6,A7m),(8,A8n),(9,A8x),(10,A9e),(11,B0d),(12,B0w),(13,B2b),(15,B2c),(16,B3i),(7,B4k),(14,B5j),(42,B6m),(21,B8k),(33,B9t),(22,C0p),(23,C2l),(24,C5l),(25,C6t),(28,C9j)]
def D2l:Value:=ag [.func (.func 123) #[ag (B1 (⟨1,9999⟩:Spn))] #[],.func (.func 123) #[ag (B1 (⟨0,0⟩:Spn))] #[]]
def E4m:List (Int×Value):=[(17,me0),(18,me1),(19,me2),(20,me3),(26,me4),(27,me5),(35,me6),(38,me7),(40,me8),(41,me9),(2,A5s),(3,A6h),(4,A6i),(5,A7b),(6,A7m),(8,A8n),(9,A8x),(10,A9e),(11,B0d),(12,B0w),(13,B2b),(15,B2c),(16,B3i),(7,B4k),(14,B5j),(42,B6m),(21,B8k),(33,B9t),(22,C0p),(23,C2l),(24,C5l),(25,C6t),(28,C9j),(29,D2l)]
def D3y:Value:=ag [.func (.func 123) #[ag (B1 (⟨1,9999⟩:Spn))] #[],.func (.func 123) #[ag (B1 (⟨0,0⟩:Spn))] #[]]
def E6n:List (Int×Value):=[(17,me0),(18,me1),(19,me2),(20,me3),(26,me4),(27,me5),(35,me6),(38,me7),(40,me8),(41,me9),(2,A5s),(3,A6h),(4,A6i),(5,A7b),(6,A7m),(8,A8n),(9,A8x),(10,A9e),(11,B0d),(12,B0w),(13,B2b),(15,B2c),(16,B3i),(7,B4k),(14,B5j),(42,B6m),(21,B8k),(33,B9t),(22,C0p),(23,C2l),(24,C5l),(25,C6t),(28,C9j),(29,D2l),(30,D3y)]
def D7e:Value:=ag [.func (.func 123) #[ag (B1 (⟨1,9999⟩:Spn))] #[],.func (.func 123) #[ag (B1 (⟨0,0⟩:Spn))] #[]]
def E4e:List (Int×Value):=[(17,me0),(18,me1),(19,me2),(20,me3),(26,me4),(27,me5),(35,me6),(38,me7),(40,me8),(41,me9),(2,A5s),(3,A6h),(4,A6i),(5,A7b),(6,A7m),(8,A8n),(9,A8x),(10,A9e),(11,B0d),(12,B0w),(13,B2b),(15,B2c),(16,B3i),(7,B4k),(14,B5j),(42,B6m),(21,B8k),(33,B9t),(22,C0p),(23,C2l),(24,C5l),(25,C6t),(28,C9j),(29,D2l),(30,D3y),(31,D7e)]
def E0a:Value:=ag [.func (.func 123) #[ag (B1 (⟨1,9999⟩:Spn))] #[],.func (.func 123) #[ag (B1 (⟨0,0⟩:Spn))] #[]]
def E6e:List (Int×Value):=[(17,me0),(18,me1),(19,me2),(20,me3),(26,me4),(27,me5),(35,me6),(38,me7),(40,me8),(41,me9),(2,A5s),(3,A6h),(4,A6i),(5,A7b),(6,A7m),(8,A8n),(9,A8x),(10,A9e),(11,B0d),(12,B0w),(13,B2b),(15,B2c),(16,B3i),(7,B4k),(14,B5j),(42,B6m),(21,B8k),(33,B9t),(22,C0p),(23,C2l),(24,C5l),(25,C6t),(28,C9j),(29,D2l),(30,D3y),(31,D7e),(32,E0a)]
def E1s:Value:=ag [.func (.func 123) #[ag (B1 (⟨1,9999⟩:Spn))] #[],.func (.func 123) #[ag (B1 (⟨0,0⟩:Spn))] #[]]
def E4u:List (Int×Value):=[(17,me0),(18,me1),(19,me2),(20,me3),(26,me4),(27,me5),(35,me6),(38,me7),(40,me8),(41,me9),(2,A5s),(3,A6h),(4,A6i),(5,A7b),(6,A7m),(8,A8n),(9,A8x),(10,A9e),(11,B0d),(12,B0w),(13,B2b),(15,B2c),(16,B3i),(7,B4k),(14,B5j),(42,B6m),(21,B8k),(33,B9t),(22,C0p),(23,C2l),(24,C5l),(25,C6t),(28,C9j),(29,D2l),(30,D3y),(31,D7e),(32,E0a),(34,E1s)]
def E5z:Value:=ag [.func (.func 123) #[ag (B1 (⟨0,9999⟩:Spn))] #[],.func (.func 123) #[ag (B1 (⟨0,1⟩:Spn))] #[]]
def E6p:List (Int×Value):=[(17,me0),(18,me1),(19,me2),(20,me3),(26,me4),(27,me5),(35,me6),(38,me7),(40,me8),(41,me9),(2,A5s),(3,A6h),(4,A6i),(5,A7b),(6,A7m),(8,A8n),(9,A8x),(10,A9e),(11,B0d),(12,B0w),(13,B2b),(15,B2c),(16,B3i),(7,B4k),(14,B5j),(42,B6m),(21,B8k),(33,B9t),(22,C0p),(23,C2l),(24,C5l),(25,C6t),(28,C9j),(29,D2l),(30,D3y),(31,D7e),(32,E0a),(34,E1s),(36,E5z)]
def E7q:Value:=ag [.func (.func 123) #[ag (B1 (⟨0,9999⟩:Spn))] #[],.func (.func 123) #[ag (B1 (⟨0,1⟩:Spn))] #[]]
def E4b:List (Int×Value):=[(17,me0),(18,me1),(19,me2),(20,me3),(26,me4),(27,me5),(35,me6),(38,me7),(40,me8),(41,me9),(2,A5s),(3,A6h),(4,A6i),(5,A7b),(6,A7m),(8,A8n),(9,A8x),(10,A9e),(11,B0d),(12,B0w),(13,B2b),(15,B2c),(16,B3i),(7,B4k),(14,B5j),(42,B6m),(21,B8k),(33,B9t),(22,C0p),(23,C2l),(24,C5l),(25,C6t),(28,C9j),(29,D2l),(30,D3y),(31,D7e),(32,E0a),(34,E1s),(36,E5z),(37,E7q)]
def E9g:Value:=ag [.func (.func 123) #[ag (B1 (⟨0,9999⟩:Spn))] #[],.func (.func 123) #[ag (B1 (⟨0,1⟩:Spn))] #[]]
def C9s:List (Int×Value):=[(17,me0),(18,me1),(19,me2),(20,me3),(26,me4),(27,me5),(35,me6),(38,me7),(40,me8),(41,me9),(2,A5s),(3,A6h),(4,A6i),(5,A7b),(6,A7m),(8,A8n),(9,A8x),(10,A9e),(11,B0d),(12,B0w),(13,B2b),(15,B2c),(16,B3i),(7,B4k),(14,B5j),(42,B6m),(21,B8k),(33,B9t),(22,C0p),(23,C2l),(24,C5l),(25,C6t),(28,C9j),(29,D2l),(30,D3y),(31,D7e),(32,E0a),(34,E1s),(36,E5z),(37,E7q),(43,E9g)]
def B5q:Unit :=
 ()
set_option maxHeartbeats 2000000 in
theorem A0j (R:Unit) (hR:B5q=R):Con Tryz.prog 66 [] [] [] (Nat) (fun x=>.map (some x)) (fun x=>[(x,.map (A8 C9s 0).toArray 41)]) (fun x=>[]):=by
 refine zco Tryz.func66 [] fun X hX hr hD=>?_
 replace hR:=(B5q.eq_1 ..).symm.trans hR
 refine sr 1 rfl (ip' 1 0 [] (ie (sr 10 rfl (zca (C2g _ rfl) fn0 (ip' 9 0 [(1,.func (.func 123) #[ag (B1 (⟨0,0⟩:Spn))] #[]),(2,.func (.func 123) #[ag (B1 (⟨0,1⟩:Spn))] #[]),(3,.func (.func 123) #[ag (B1 (⟨1,9999⟩:Spn))] #[]),(4,.func (.func 123) #[ag (B1 (⟨0,9999⟩:Spn))] #[])] (ie (sr 49 rfl (it rfl (B1o rfl) fun b1=>(zrl 4 44 [] [(26,ag [.func (.func 123) #[ag (B1 (⟨0,3⟩:Spn))] #[],.func (.func 123) #[ag (B1 (⟨0,1⟩:Spn))] #[]])] (it rfl (D6 (es:=#[]) (es':=(A8 mt0 0).toArray) K4 (.inl rfl) rfl rfl rfl 0 rfl (by kernel_rfl) (by kernel_rfl)) fun _=>?_))))))))))
 refine znl [(b1,.map (A8 mt0 0).toArray 1)] (zrl 4 39 [] [(30,ag [.func (.func 123) #[ag (B1 (⟨2,3⟩:Spn))] #[],.func (.func 123) #[ag (B1 (⟨0,0⟩:Spn))] #[]])] (it rfl (D6 (es:=(A8 mt0 0).toArray) (es':=(A8 mt1 0).toArray) K4 (.inl rfl) rfl rfl rfl 0 rfl (by kernel_rfl) (by kernel_rfl)) fun _=>?_))
 refine znl [(b1,.map (A8 mt1 0).toArray 2)] (zrl 3 35 [] [(33,ag [.func (.func 123) #[ag (B1 (⟨1,9999⟩:Spn))] #[],.func (.func 123) #[ag (B1 (⟨1,9999⟩:Spn))] #[]])] (it rfl (D6 (es:=(A8 mt1 0).toArray) (es':=(A8 mt2 0).toArray) K4 (.inl rfl) rfl rfl rfl 0 rfl (by kernel_rfl) (by kernel_rfl)) fun _=>?_))
 refine znl [(b1,.map (A8 mt2 0).toArray 3)] (zrl 4 30 [] [(37,ag [.func (.func 123) #[ag (B1 (⟨0,3⟩:Spn))] #[],.func (.func 123) #[ag (B1 (⟨1,9999⟩:Spn))] #[]])] (it rfl (D6 (es:=(A8 mt2 0).toArray) (es':=(A8 mt3 0).toArray) K4 (.inl rfl) rfl rfl rfl 0 rfl (by kernel_rfl) (by kernel_rfl)) fun _=>?_))
 refine znl [(b1,.map (A8 mt3 0).toArray 4)] (zrl 4 25 [] [(41,ag [.func (.func 123) #[ag (B1 (⟨0,3⟩:Spn))] #[],.func (.func 123) #[ag (B1 (⟨0,0⟩:Spn))] #[]])] (it rfl (D6 (es:=(A8 mt3 0).toArray) (es':=(A8 mt4 0).toArray) K4 (.inl rfl) rfl rfl rfl 0 rfl (by kernel_rfl) (by kernel_rfl)) fun _=>?_))
 refine znl [(b1,.map (A8 mt4 0).toArray 5)] (zrl 4 20 [] [(45,ag [.func (.func 123) #[ag (B1 (⟨0,2⟩:Spn))] #[],.func (.func 123) #[ag (B1 (⟨0,0⟩:Spn))] #[]])] (it rfl (D6 (es:=(A8 mt4 0).toArray) (es':=(A8 mt5 0).toArray) K4 (.inl rfl) rfl rfl rfl 0 rfl (by kernel_rfl) (by kernel_rfl)) fun _=>?_))
 refine znl [(b1,.map (A8 mt5 0).toArray 6)] (zrl 2 17 [] [(47,ag [.func (.func 124) #[] #[],.func (.func 123) #[ag (B1 (⟨0,0⟩:Spn))] #[]])] (it rfl (D6 (es:=(A8 mt5 0).toArray) (es':=(A8 mt6 0).toArray) K4 (.inl rfl) rfl rfl rfl 0 rfl (by kernel_rfl) (by kernel_rfl)) fun _=>?_))
 refine znl [(b1,.map (A8 mt6 0).toArray 7)] (zrl 3 13 [] [(50,ag [.func (.func 123) #[ag (B1 (⟨0,9999⟩:Spn))] #[],.func (.func 123) #[ag (B1 (⟨0,9999⟩:Spn))] #[]])] (it rfl (D6 (es:=(A8 mt6 0).toArray) (es':=(A8 mt7 0).toArray) K4 (.inl rfl) rfl rfl rfl 0 rfl (by kernel_rfl) (by kernel_rfl)) fun _=>?_))
 refine znl [(b1,.map (A8 mt7 0).toArray 8)] (zrl 4 8 [] [(54,ag [.func (.func 123) #[ag (B1 (⟨0,6⟩:Spn))] #[],.func (.func 123) #[ag (B1 (⟨0,0⟩:Spn))] #[]])] (it rfl (D6 (es:=(A8 mt7 0).toArray) (es':=(A8 mt8 0).toArray) K4 (.inl rfl) rfl rfl rfl 0 rfl (by kernel_rfl) (by kernel_rfl)) fun _=>?_))
 refine znl [(b1,.map (A8 mt8 0).toArray 9)] (zrl 4 3 [] [(58,ag [.func (.func 123) #[ag (B1 (⟨5,6⟩:Spn))] #[],.func (.func 123) #[ag (B1 (⟨0,0⟩:Spn))] #[]])] (it rfl (D6 (es:=(A8 mt8 0).toArray) (es':=(A8 mt9 0).toArray) K4 (.inl rfl) rfl rfl rfl 0 rfl (by kernel_rfl) (by kernel_rfl)) fun _=>?_))
 refine znl [(b1,.map (A8 mt9 0).toArray 10)] (ip' 2 0 [(5,.map (some b1))] (ie (A7 (sr 2 rfl (zrl 2 0 [] [(60,ag [iv 2,iv 3,iv 4,iv 5,iv 6,iv 8,iv 9,iv 10,iv 11,iv 12,iv 13,iv 15,iv 16]),(61,iv 0)] (ie (B2 (A4z 15 ?_))))))))
 refine G0 (sr 1 rfl (ip' 1 0 [(62,bv true)] ?_))
 refine ie (A7 (N5 rfl (A9 (nx (A7 (B2 (sr 2 rfl (ix rfl (F9 (v:=iv 2) (us:=[iv 2]) Tryz.underlying204 ty3 rfl rfl rfl 0 rfl (by decide) rfl rfl rfl) (ip' 1 0 [(7,iv 2)] (ie (A3 6 rfl (zrl 5 1 [] [(64,.map (some b1)),(65,iv 2),(68,ag [.func (.func 123) #[ag (B1 (⟨0,0⟩:Spn))] #[],.func (.func 123) #[ag (B1 (⟨0,0⟩:Spn))] #[]])] (it rfl (D6 (es:=(A8 mt9 0).toArray) (es':=(A8 E5p 0).toArray) K4 (.inr rfl) rfl rfl rfl 0 rfl (by kernel_rfl) (by kernel_rfl)) fun _=>?_)))))))))))))
 refine znl [(b1,.map (A8 E5p 0).toArray 11)] (A6 (nx (A3 2 rfl (ix rfl (B6 (c:=1) rfl rfl rfl rfl (by decide)) (ip' 1 0 [(61,iv 1)] (A6 (G0 (sr 1 rfl (ip' 1 0 [(62,bv true)] (ie (A7 (N5 rfl (A9 (nx (A7 (B2 (sr 2 rfl (ix rfl (F9 (v:=iv 3) (us:=[iv 3]) Tryz.underlying204 ty3 rfl rfl rfl 1 rfl (by decide) rfl rfl rfl) (ip' 1 0 [(7,iv 3)] (ie (A3 6 rfl (zrl 5 1 [] [(64,.map (some b1)),(65,iv 3),(68,ag [.func (.func 123) #[ag (B1 (⟨0,0⟩:Spn))] #[],.func (.func 123) #[ag (B1 (⟨0,0⟩:Spn))] #[]])] ?_))))))))))))))))))))))
 refine it rfl (D6 (es:=(A8 E5p 0).toArray) (es':=(A8 E5k 0).toArray) K4 (.inr rfl) rfl rfl rfl 0 rfl (by kernel_rfl) (by kernel_rfl)) fun _=>?_
 refine znl [(b1,.map (A8 E5k 0).toArray 12)] (A6 (nx (A3 2 rfl (ix rfl (B6 (c:=2) rfl rfl rfl rfl (by decide)) (ip' 1 0 [(61,iv 2)] (A6 (G0 (sr 1 rfl (ip' 1 0 [(62,bv true)] (ie (A7 (N5 rfl (A9 (nx (A7 (B2 (sr 2 rfl (ix rfl (F9 (v:=iv 4) (us:=[iv 4]) Tryz.underlying204 ty3 rfl rfl rfl 2 rfl (by decide) rfl rfl rfl) (ip' 1 0 [(7,iv 4)] (ie (A3 6 rfl (zrl 5 1 [] [(64,.map (some b1)),(65,iv 4),(68,ag [.func (.func 123) #[ag (B1 (⟨0,0⟩:Spn))] #[],.func (.func 123) #[ag (B1 (⟨0,0⟩:Spn))] #[]])] ?_))))))))))))))))))))))
 refine it rfl (D6 (es:=(A8 E5k 0).toArray) (es':=(A8 E5e 0).toArray) K4 (.inr rfl) rfl rfl rfl 0 rfl (by kernel_rfl) (by kernel_rfl)) fun _=>?_
 refine znl [(b1,.map (A8 E5e 0).toArray 13)] (A6 (nx (A3 2 rfl (ix rfl (B6 (c:=3) rfl rfl rfl rfl (by decide)) (ip' 1 0 [(61,iv 3)] (A6 (G0 (sr 1 rfl (ip' 1 0 [(62,bv true)] (ie (A7 (N5 rfl (A9 (nx (A7 (B2 (sr 2 rfl (ix rfl (F9 (v:=iv 5) (us:=[iv 5]) Tryz.underlying204 ty3 rfl rfl rfl 3 rfl (by decide) rfl rfl rfl) (ip' 1 0 [(7,iv 5)] (ie (A3 6 rfl (zrl 5 1 [] [(64,.map (some b1)),(65,iv 5),(68,ag [.func (.func 123) #[ag (B1 (⟨0,0⟩:Spn))] #[],.func (.func 123) #[ag (B1 (⟨0,0⟩:Spn))] #[]])] ?_))))))))))))))))))))))
 refine it rfl (D6 (es:=(A8 E5e 0).toArray) (es':=(A8 E4i 0).toArray) K4 (.inr rfl) rfl rfl rfl 0 rfl (by kernel_rfl) (by kernel_rfl)) fun _=>?_
 refine znl [(b1,.map (A8 E4i 0).toArray 14)] (A6 (nx (A3 2 rfl (ix rfl (B6 (c:=4) rfl rfl rfl rfl (by decide)) (ip' 1 0 [(61,iv 4)] (A6 (G0 (sr 1 rfl (ip' 1 0 [(62,bv true)] (ie (A7 (N5 rfl (A9 (nx (A7 (B2 (sr 2 rfl (ix rfl (F9 (v:=iv 6) (us:=[iv 6]) Tryz.underlying204 ty3 rfl rfl rfl 4 rfl (by decide) rfl rfl rfl) (ip' 1 0 [(7,iv 6)] (ie (A3 6 rfl (zrl 5 1 [] [(64,.map (some b1)),(65,iv 6),(68,ag [.func (.func 123) #[ag (B1 (⟨0,0⟩:Spn))] #[],.func (.func 123) #[ag (B1 (⟨0,0⟩:Spn))] #[]])] ?_))))))))))))))))))))))
 refine it rfl (D6 (es:=(A8 E4i 0).toArray) (es':=(A8 E5t 0).toArray) K4 (.inr rfl) rfl rfl rfl 0 rfl (by kernel_rfl) (by kernel_rfl)) fun _=>?_
 refine znl [(b1,.map (A8 E5t 0).toArray 15)] (A6 (nx (A3 2 rfl (ix rfl (B6 (c:=5) rfl rfl rfl rfl (by decide)) (ip' 1 0 [(61,iv 5)] (A6 (G0 (sr 1 rfl (ip' 1 0 [(62,bv true)] (ie (A7 (N5 rfl (A9 (nx (A7 (B2 (sr 2 rfl (ix rfl (F9 (v:=iv 8) (us:=[iv 8]) Tryz.underlying204 ty3 rfl rfl rfl 5 rfl (by decide) rfl rfl rfl) (ip' 1 0 [(7,iv 8)] (ie (A3 6 rfl (zrl 5 1 [] [(64,.map (some b1)),(65,iv 8),(68,ag [.func (.func 123) #[ag (B1 (⟨0,0⟩:Spn))] #[],.func (.func 123) #[ag (B1 (⟨0,0⟩:Spn))] #[]])] ?_))))))))))))))))))))))
 refine it rfl (D6 (es:=(A8 E5t 0).toArray) (es':=(A8 E6s 0).toArray) K4 (.inr rfl) rfl rfl rfl 0 rfl (by kernel_rfl) (by kernel_rfl)) fun _=>?_
 refine znl [(b1,.map (A8 E6s 0).toArray 16)] (A6 (nx (A3 2 rfl (ix rfl (B6 (c:=6) rfl rfl rfl rfl (by decide)) (ip' 1 0 [(61,iv 6)] (A6 (G0 (sr 1 rfl (ip' 1 0 [(62,bv true)] (ie (A7 (N5 rfl (A9 (nx (A7 (B2 (sr 2 rfl (ix rfl (F9 (v:=iv 9) (us:=[iv 9]) Tryz.underlying204 ty3 rfl rfl rfl 6 rfl (by decide) rfl rfl rfl) (ip' 1 0 [(7,iv 9)] (ie (A3 6 rfl (zrl 5 1 [] [(64,.map (some b1)),(65,iv 9),(68,ag [.func (.func 123) #[ag (B1 (⟨0,0⟩:Spn))] #[],.func (.func 123) #[ag (B1 (⟨0,0⟩:Spn))] #[]])] ?_))))))))))))))))))))))
 refine it rfl (D6 (es:=(A8 E6s 0).toArray) (es':=(A8 E4y 0).toArray) K4 (.inr rfl) rfl rfl rfl 0 rfl (by kernel_rfl) (by kernel_rfl)) fun _=>?_
 refine znl [(b1,.map (A8 E4y 0).toArray 17)] (A6 (nx (A3 2 rfl (ix rfl (B6 (c:=7) rfl rfl rfl rfl (by decide)) (ip' 1 0 [(61,iv 7)] (A6 (G0 (sr 1 rfl (ip' 1 0 [(62,bv true)] (ie (A7 (N5 rfl (A9 (nx (A7 (B2 (sr 2 rfl (ix rfl (F9 (v:=iv 10) (us:=[iv 10]) Tryz.underlying204 ty3 rfl rfl rfl 7 rfl (by decide) rfl rfl rfl) (ip' 1 0 [(7,iv 10)] (ie (A3 6 rfl (zrl 5 1 [] [(64,.map (some b1)),(65,iv 10),(68,ag [.func (.func 123) #[ag (B1 (⟨0,0⟩:Spn))] #[],.func (.func 123) #[ag (B1 (⟨0,0⟩:Spn))] #[]])] ?_))))))))))))))))))))))
 refine it rfl (D6 (es:=(A8 E4y 0).toArray) (es':=(A8 E5v 0).toArray) K4 (.inr rfl) rfl rfl rfl 0 rfl (by kernel_rfl) (by kernel_rfl)) fun _=>?_
 refine znl [(b1,.map (A8 E5v 0).toArray 18)] (A6 (nx (A3 2 rfl (ix rfl (B6 (c:=8) rfl rfl rfl rfl (by decide)) (ip' 1 0 [(61,iv 8)] (A6 (G0 (sr 1 rfl (ip' 1 0 [(62,bv true)] (ie (A7 (N5 rfl (A9 (nx (A7 (B2 (sr 2 rfl (ix rfl (F9 (v:=iv 11) (us:=[iv 11]) Tryz.underlying204 ty3 rfl rfl rfl 8 rfl (by decide) rfl rfl rfl) (ip' 1 0 [(7,iv 11)] (ie (A3 6 rfl (zrl 5 1 [] [(64,.map (some b1)),(65,iv 11),(68,ag [.func (.func 123) #[ag (B1 (⟨0,0⟩:Spn))] #[],.func (.func 123) #[ag (B1 (⟨0,0⟩:Spn))] #[]])] ?_))))))))))))))))))))))
 refine it rfl (D6 (es:=(A8 E5v 0).toArray) (es':=(A8 E5l 0).toArray) K4 (.inr rfl) rfl rfl rfl 0 rfl (by kernel_rfl) (by kernel_rfl)) fun _=>?_
 refine znl [(b1,.map (A8 E5l 0).toArray 19)] (A6 (nx (A3 2 rfl (ix rfl (B6 (c:=9) rfl rfl rfl rfl (by decide)) (ip' 1 0 [(61,iv 9)] (A6 (G0 (sr 1 rfl (ip' 1 0 [(62,bv true)] (ie (A7 (N5 rfl (A9 (nx (A7 (B2 (sr 2 rfl (ix rfl (F9 (v:=iv 12) (us:=[iv 12]) Tryz.underlying204 ty3 rfl rfl rfl 9 rfl (by decide) rfl rfl rfl) (ip' 1 0 [(7,iv 12)] (ie (A3 6 rfl (zrl 5 1 [] [(64,.map (some b1)),(65,iv 12),(68,ag [.func (.func 123) #[ag (B1 (⟨0,0⟩:Spn))] #[],.func (.func 123) #[ag (B1 (⟨0,0⟩:Spn))] #[]])] ?_))))))))))))))))))))))
 refine it rfl (D6 (es:=(A8 E5l 0).toArray) (es':=(A8 E4w 0).toArray) K4 (.inr rfl) rfl rfl rfl 0 rfl (by kernel_rfl) (by kernel_rfl)) fun _=>?_
 refine znl [(b1,.map (A8 E4w 0).toArray 20)] (A6 (nx (A3 2 rfl (ix rfl (B6 (c:=10) rfl rfl rfl rfl (by decide)) (ip' 1 0 [(61,iv 10)] (A6 (G0 (sr 1 rfl (ip' 1 0 [(62,bv true)] (ie (A7 (N5 rfl (A9 (nx (A7 (B2 (sr 2 rfl (ix rfl (F9 (v:=iv 13) (us:=[iv 13]) Tryz.underlying204 ty3 rfl rfl rfl 10 rfl (by decide) rfl rfl rfl) (ip' 1 0 [(7,iv 13)] (ie (A3 6 rfl (zrl 5 1 [] [(64,.map (some b1)),(65,iv 13),(68,ag [.func (.func 123) #[ag (B1 (⟨0,0⟩:Spn))] #[],.func (.func 123) #[ag (B1 (⟨0,0⟩:Spn))] #[]])] ?_))))))))))))))))))))))
 refine it rfl (D6 (es:=(A8 E4w 0).toArray) (es':=(A8 E5q 0).toArray) K4 (.inr rfl) rfl rfl rfl 0 rfl (by kernel_rfl) (by kernel_rfl)) fun _=>?_
 refine znl [(b1,.map (A8 E5q 0).toArray 21)] (A6 (nx (A3 2 rfl (ix rfl (B6 (c:=11) rfl rfl rfl rfl (by decide)) (ip' 1 0 [(61,iv 11)] (A6 (G0 (sr 1 rfl (ip' 1 0 [(62,bv true)] (ie (A7 (N5 rfl (A9 (nx (A7 (B2 (sr 2 rfl (ix rfl (F9 (v:=iv 15) (us:=[iv 15]) Tryz.underlying204 ty3 rfl rfl rfl 11 rfl (by decide) rfl rfl rfl) (ip' 1 0 [(7,iv 15)] (ie (A3 6 rfl (zrl 5 1 [] [(64,.map (some b1)),(65,iv 15),(68,ag [.func (.func 123) #[ag (B1 (⟨0,0⟩:Spn))] #[],.func (.func 123) #[ag (B1 (⟨0,0⟩:Spn))] #[]])] ?_))))))))))))))))))))))
 refine it rfl (D6 (es:=(A8 E5q 0).toArray) (es':=(A8 E5d 0).toArray) K4 (.inr rfl) rfl rfl rfl 0 rfl (by kernel_rfl) (by kernel_rfl)) fun _=>?_
 refine znl [(b1,.map (A8 E5d 0).toArray 22)] (A6 (nx (A3 2 rfl (ix rfl (B6 (c:=12) rfl rfl rfl rfl (by decide)) (ip' 1 0 [(61,iv 12)] (A6 (G0 (sr 1 rfl (ip' 1 0 [(62,bv true)] (ie (A7 (N5 rfl (A9 (nx (A7 (B2 (sr 2 rfl (ix rfl (F9 (v:=iv 16) (us:=[iv 16]) Tryz.underlying204 ty3 rfl rfl rfl 12 rfl (by decide) rfl rfl rfl) (ip' 1 0 [(7,iv 16)] (ie (A3 6 rfl (zrl 5 1 [] [(64,.map (some b1)),(65,iv 16),(68,ag [.func (.func 123) #[ag (B1 (⟨0,0⟩:Spn))] #[],.func (.func 123) #[ag (B1 (⟨0,0⟩:Spn))] #[]])] ?_))))))))))))))))))))))
 refine it rfl (D6 (es:=(A8 E5d 0).toArray) (es':=(A8 E5c 0).toArray) K4 (.inr rfl) rfl rfl rfl 0 rfl (by kernel_rfl) (by kernel_rfl)) fun _=>?_
 refine znl [(b1,.map (A8 E5c 0).toArray 23)] (A6 (nx (A3 2 rfl (ix rfl (B6 (c:=13) rfl rfl rfl rfl (by decide)) (ip' 1 0 [(61,iv 13)] (A6 (G0 (sr 1 rfl (ip' 1 0 [(62,bv false)] (ie (A7 (A7y rfl (J1 (nx (A7 (sr 2 rfl (zrl 2 0 [] [(70,ag (C5m (⟨7,14,42⟩:Ar3))),(71,iv 0)] (ie (B2 (A4z 5 ?_))))))))))))))))))))
 refine G0 (sr 1 rfl (ip' 1 0 [(72,bv true)] ?_))
 refine ie (A7 (N5 rfl (A9 (nx (A7 (B2 (sr 2 rfl (ix rfl (F9 (v:=iv 7) (us:=[iv 7]) Tryz.underlying205 ty3 rfl rfl rfl 0 rfl (by decide) rfl rfl rfl) (ip' 1 0 [(9,iv 7)] (ie (A3 6 rfl (zrl 5 1 [] [(74,.map (some b1)),(75,iv 7),(78,ag [.func (.func 123) #[ag (B1 (⟨0,1⟩:Spn))] #[],.func (.func 123) #[ag (B1 (⟨0,0⟩:Spn))] #[]])] (it rfl (D6 (es:=(A8 E5c 0).toArray) (es':=(A8 E4d 0).toArray) K4 (.inr rfl) rfl rfl rfl 0 rfl (by kernel_rfl) (by kernel_rfl)) fun _=>?_)))))))))))))
 refine znl [(b1,.map (A8 E4d 0).toArray 24)] (A6 (nx (A3 2 rfl (ix rfl (B6 (c:=1) rfl rfl rfl rfl (by decide)) (ip' 1 0 [(71,iv 1)] (A6 (G0 (sr 1 rfl (ip' 1 0 [(72,bv true)] (ie (A7 (N5 rfl (A9 (nx (A7 (B2 (sr 2 rfl (ix rfl (F9 (v:=iv 14) (us:=[iv 14]) Tryz.underlying205 ty3 rfl rfl rfl 1 rfl (by decide) rfl rfl rfl) (ip' 1 0 [(9,iv 14)] (ie (A3 6 rfl (zrl 5 1 [] [(74,.map (some b1)),(75,iv 14),(78,ag [.func (.func 123) #[ag (B1 (⟨0,1⟩:Spn))] #[],.func (.func 123) #[ag (B1 (⟨0,0⟩:Spn))] #[]])] ?_))))))))))))))))))))))
 refine it rfl (D6 (es:=(A8 E4d 0).toArray) (es':=(A8 E6r 0).toArray) K4 (.inr rfl) rfl rfl rfl 0 rfl (by kernel_rfl) (by kernel_rfl)) fun _=>?_
 refine znl [(b1,.map (A8 E6r 0).toArray 25)] (A6 (nx (A3 2 rfl (ix rfl (B6 (c:=2) rfl rfl rfl rfl (by decide)) (ip' 1 0 [(71,iv 2)] (A6 (G0 (sr 1 rfl (ip' 1 0 [(72,bv true)] (ie (A7 (N5 rfl (A9 (nx (A7 (B2 (sr 2 rfl (ix rfl (F9 (v:=iv 42) (us:=[iv 42]) Tryz.underlying205 ty3 rfl rfl rfl 2 rfl (by decide) rfl rfl rfl) (ip' 1 0 [(9,iv 42)] (ie (A3 6 rfl (zrl 5 1 [] [(74,.map (some b1)),(75,iv 42),(78,ag [.func (.func 123) #[ag (B1 (⟨0,1⟩:Spn))] #[],.func (.func 123) #[ag (B1 (⟨0,0⟩:Spn))] #[]])] ?_))))))))))))))))))))))
 refine it rfl (D6 (es:=(A8 E6r 0).toArray) (es':=(A8 E5u 0).toArray) K4 (.inr rfl) rfl rfl rfl 0 rfl (by kernel_rfl) (by kernel_rfl)) fun _=>?_
 refine znl [(b1,.map (A8 E5u 0).toArray 26)] (A6 (nx (A3 2 rfl (ix rfl (B6 (c:=3) rfl rfl rfl rfl (by decide)) (ip' 1 0 [(71,iv 3)] (A6 (G0 (sr 1 rfl (ip' 1 0 [(72,bv false)] (ie (A7 (A7y rfl (J1 (nx (A7 (sr 2 rfl (zrl 2 0 [] [(80,ag (D4d (⟨21,33⟩:Ar2))),(81,iv 0)] (ie (B2 (A4z 4 ?_))))))))))))))))))))
 refine G0 (sr 1 rfl (ip' 1 0 [(82,bv true)] ?_))
 refine ie (A7 (N5 rfl (A9 (nx (A7 (B2 (sr 2 rfl (ix rfl (F9 (v:=iv 21) (us:=[iv 21]) Tryz.underlying71 ty3 rfl rfl rfl 0 rfl (by decide) rfl rfl rfl) (ip' 1 0 [(11,iv 21)] (ie (A3 6 rfl (zrl 5 1 [] [(84,.map (some b1)),(85,iv 21),(88,ag [.func (.func 123) #[ag (B1 (⟨0,1⟩:Spn))] #[],.func (.func 123) #[ag (B1 (⟨1,9999⟩:Spn))] #[]])] (it rfl (D6 (es:=(A8 E5u 0).toArray) (es':=(A8 E4r 0).toArray) K4 (.inr rfl) rfl rfl rfl 0 rfl (by kernel_rfl) (by kernel_rfl)) fun _=>?_)))))))))))))
 refine znl [(b1,.map (A8 E4r 0).toArray 27)] (A6 (nx (A3 2 rfl (ix rfl (B6 (c:=1) rfl rfl rfl rfl (by decide)) (ip' 1 0 [(81,iv 1)] (A6 (G0 (sr 1 rfl (ip' 1 0 [(82,bv true)] (ie (A7 (N5 rfl (A9 (nx (A7 (B2 (sr 2 rfl (ix rfl (F9 (v:=iv 33) (us:=[iv 33]) Tryz.underlying71 ty3 rfl rfl rfl 1 rfl (by decide) rfl rfl rfl) (ip' 1 0 [(11,iv 33)] (ie (A3 6 rfl (zrl 5 1 [] [(84,.map (some b1)),(85,iv 33),(88,ag [.func (.func 123) #[ag (B1 (⟨0,1⟩:Spn))] #[],.func (.func 123) #[ag (B1 (⟨1,9999⟩:Spn))] #[]])] ?_))))))))))))))))))))))
 refine it rfl (D6 (es:=(A8 E4r 0).toArray) (es':=(A8 E5o 0).toArray) K4 (.inr rfl) rfl rfl rfl 0 rfl (by kernel_rfl) (by kernel_rfl)) fun _=>?_
 refine znl [(b1,.map (A8 E5o 0).toArray 28)] (A6 (nx (A3 2 rfl (ix rfl (B6 (c:=2) rfl rfl rfl rfl (by decide)) (ip' 1 0 [(81,iv 2)] (A6 (G0 (sr 1 rfl (ip' 1 0 [(82,bv false)] (ie (A7 (A7y rfl (J1 (nx (A7 (sr 2 rfl (zrl 2 0 [] [(90,ag [iv 22,iv 23,iv 24,iv 25,iv 28,iv 29,iv 30,iv 31,iv 32,iv 34]),(91,iv 0)] (ie (B2 (A4z 12 ?_))))))))))))))))))))
 refine G0 (sr 1 rfl (ip' 1 0 [(92,bv true)] ?_))
 refine ie (A7 (N5 rfl (A9 (nx (A7 (B2 (sr 2 rfl (ix rfl (F9 (v:=iv 22) (us:=[iv 22]) Tryz.underlying206 ty3 rfl rfl rfl 0 rfl (by decide) rfl rfl rfl) (ip' 1 0 [(13,iv 22)] (ie (A3 6 rfl (zrl 5 1 [] [(94,.map (some b1)),(95,iv 22),(98,ag [.func (.func 123) #[ag (B1 (⟨1,9999⟩:Spn))] #[],.func (.func 123) #[ag (B1 (⟨0,0⟩:Spn))] #[]])] (it rfl (D6 (es:=(A8 E5o 0).toArray) (es':=(A8 E4c 0).toArray) K4 (.inr rfl) rfl rfl rfl 0 rfl (by kernel_rfl) (by kernel_rfl)) fun _=>?_)))))))))))))
 refine znl [(b1,.map (A8 E4c 0).toArray 29)] (A6 (nx (A3 2 rfl (ix rfl (B6 (c:=1) rfl rfl rfl rfl (by decide)) (ip' 1 0 [(91,iv 1)] (A6 (G0 (sr 1 rfl (ip' 1 0 [(92,bv true)] (ie (A7 (N5 rfl (A9 (nx (A7 (B2 (sr 2 rfl (ix rfl (F9 (v:=iv 23) (us:=[iv 23]) Tryz.underlying206 ty3 rfl rfl rfl 1 rfl (by decide) rfl rfl rfl) (ip' 1 0 [(13,iv 23)] (ie (A3 6 rfl (zrl 5 1 [] [(94,.map (some b1)),(95,iv 23),(98,ag [.func (.func 123) #[ag (B1 (⟨1,9999⟩:Spn))] #[],.func (.func 123) #[ag (B1 (⟨0,0⟩:Spn))] #[]])] ?_))))))))))))))))))))))
 refine it rfl (D6 (es:=(A8 E4c 0).toArray) (es':=(A8 E6d 0).toArray) K4 (.inr rfl) rfl rfl rfl 0 rfl (by kernel_rfl) (by kernel_rfl)) fun _=>?_
 refine znl [(b1,.map (A8 E6d 0).toArray 30)] (A6 (nx (A3 2 rfl (ix rfl (B6 (c:=2) rfl rfl rfl rfl (by decide)) (ip' 1 0 [(91,iv 2)] (A6 (G0 (sr 1 rfl (ip' 1 0 [(92,bv true)] (ie (A7 (N5 rfl (A9 (nx (A7 (B2 (sr 2 rfl (ix rfl (F9 (v:=iv 24) (us:=[iv 24]) Tryz.underlying206 ty3 rfl rfl rfl 2 rfl (by decide) rfl rfl rfl) (ip' 1 0 [(13,iv 24)] (ie (A3 6 rfl (zrl 5 1 [] [(94,.map (some b1)),(95,iv 24),(98,ag [.func (.func 123) #[ag (B1 (⟨1,9999⟩:Spn))] #[],.func (.func 123) #[ag (B1 (⟨0,0⟩:Spn))] #[]])] ?_))))))))))))))))))))))
 refine it rfl (D6 (es:=(A8 E6d 0).toArray) (es':=(A8 E6b 0).toArray) K4 (.inr rfl) rfl rfl rfl 0 rfl (by kernel_rfl) (by kernel_rfl)) fun _=>?_
 refine znl [(b1,.map (A8 E6b 0).toArray 31)] (A6 (nx (A3 2 rfl (ix rfl (B6 (c:=3) rfl rfl rfl rfl (by decide)) (ip' 1 0 [(91,iv 3)] (A6 (G0 (sr 1 rfl (ip' 1 0 [(92,bv true)] (ie (A7 (N5 rfl (A9 (nx (A7 (B2 (sr 2 rfl (ix rfl (F9 (v:=iv 25) (us:=[iv 25]) Tryz.underlying206 ty3 rfl rfl rfl 3 rfl (by decide) rfl rfl rfl) (ip' 1 0 [(13,iv 25)] (ie (A3 6 rfl (zrl 5 1 [] [(94,.map (some b1)),(95,iv 25),(98,ag [.func (.func 123) #[ag (B1 (⟨1,9999⟩:Spn))] #[],.func (.func 123) #[ag (B1 (⟨0,0⟩:Spn))] #[]])] ?_))))))))))))))))))))))
 refine it rfl (D6 (es:=(A8 E6b 0).toArray) (es':=(A8 E4p 0).toArray) K4 (.inr rfl) rfl rfl rfl 0 rfl (by kernel_rfl) (by kernel_rfl)) fun _=>?_
 refine znl [(b1,.map (A8 E4p 0).toArray 32)] (A6 (nx (A3 2 rfl (ix rfl (B6 (c:=4) rfl rfl rfl rfl (by decide)) (ip' 1 0 [(91,iv 4)] (A6 (G0 (sr 1 rfl (ip' 1 0 [(92,bv true)] (ie (A7 (N5 rfl (A9 (nx (A7 (B2 (sr 2 rfl (ix rfl (F9 (v:=iv 28) (us:=[iv 28]) Tryz.underlying206 ty3 rfl rfl rfl 4 rfl (by decide) rfl rfl rfl) (ip' 1 0 [(13,iv 28)] (ie (A3 6 rfl (zrl 5 1 [] [(94,.map (some b1)),(95,iv 28),(98,ag [.func (.func 123) #[ag (B1 (⟨1,9999⟩:Spn))] #[],.func (.func 123) #[ag (B1 (⟨0,0⟩:Spn))] #[]])] ?_))))))))))))))))))))))
 refine it rfl (D6 (es:=(A8 E4p 0).toArray) (es':=(A8 E5w 0).toArray) K4 (.inr rfl) rfl rfl rfl 0 rfl (by kernel_rfl) (by kernel_rfl)) fun _=>?_
 refine znl [(b1,.map (A8 E5w 0).toArray 33)] (A6 (nx (A3 2 rfl (ix rfl (B6 (c:=5) rfl rfl rfl rfl (by decide)) (ip' 1 0 [(91,iv 5)] (A6 (G0 (sr 1 rfl (ip' 1 0 [(92,bv true)] (ie (A7 (N5 rfl (A9 (nx (A7 (B2 (sr 2 rfl (ix rfl (F9 (v:=iv 29) (us:=[iv 29]) Tryz.underlying206 ty3 rfl rfl rfl 5 rfl (by decide) rfl rfl rfl) (ip' 1 0 [(13,iv 29)] (ie (A3 6 rfl (zrl 5 1 [] [(94,.map (some b1)),(95,iv 29),(98,ag [.func (.func 123) #[ag (B1 (⟨1,9999⟩:Spn))] #[],.func (.func 123) #[ag (B1 (⟨0,0⟩:Spn))] #[]])] ?_))))))))))))))))))))))
 refine it rfl (D6 (es:=(A8 E5w 0).toArray) (es':=(A8 E4m 0).toArray) K4 (.inr rfl) rfl rfl rfl 0 rfl (by kernel_rfl) (by kernel_rfl)) fun _=>?_
 refine znl [(b1,.map (A8 E4m 0).toArray 34)] (A6 (nx (A3 2 rfl (ix rfl (B6 (c:=6) rfl rfl rfl rfl (by decide)) (ip' 1 0 [(91,iv 6)] (A6 (G0 (sr 1 rfl (ip' 1 0 [(92,bv true)] (ie (A7 (N5 rfl (A9 (nx (A7 (B2 (sr 2 rfl (ix rfl (F9 (v:=iv 30) (us:=[iv 30]) Tryz.underlying206 ty3 rfl rfl rfl 6 rfl (by decide) rfl rfl rfl) (ip' 1 0 [(13,iv 30)] (ie (A3 6 rfl (zrl 5 1 [] [(94,.map (some b1)),(95,iv 30),(98,ag [.func (.func 123) #[ag (B1 (⟨1,9999⟩:Spn))] #[],.func (.func 123) #[ag (B1 (⟨0,0⟩:Spn))] #[]])] ?_))))))))))))))))))))))
 refine it rfl (D6 (es:=(A8 E4m 0).toArray) (es':=(A8 E6n 0).toArray) K4 (.inr rfl) rfl rfl rfl 0 rfl (by kernel_rfl) (by kernel_rfl)) fun _=>?_
 refine znl [(b1,.map (A8 E6n 0).toArray 35)] (A6 (nx (A3 2 rfl (ix rfl (B6 (c:=7) rfl rfl rfl rfl (by decide)) (ip' 1 0 [(91,iv 7)] (A6 (G0 (sr 1 rfl (ip' 1 0 [(92,bv true)] (ie (A7 (N5 rfl (A9 (nx (A7 (B2 (sr 2 rfl (ix rfl (F9 (v:=iv 31) (us:=[iv 31]) Tryz.underlying206 ty3 rfl rfl rfl 7 rfl (by decide) rfl rfl rfl) (ip' 1 0 [(13,iv 31)] (ie (A3 6 rfl (zrl 5 1 [] [(94,.map (some b1)),(95,iv 31),(98,ag [.func (.func 123) #[ag (B1 (⟨1,9999⟩:Spn))] #[],.func (.func 123) #[ag (B1 (⟨0,0⟩:Spn))] #[]])] ?_))))))))))))))))))))))
 refine it rfl (D6 (es:=(A8 E6n 0).toArray) (es':=(A8 E4e 0).toArray) K4 (.inr rfl) rfl rfl rfl 0 rfl (by kernel_rfl) (by kernel_rfl)) fun _=>?_
 refine znl [(b1,.map (A8 E4e 0).toArray 36)] (A6 (nx (A3 2 rfl (ix rfl (B6 (c:=8) rfl rfl rfl rfl (by decide)) (ip' 1 0 [(91,iv 8)] (A6 (G0 (sr 1 rfl (ip' 1 0 [(92,bv true)] (ie (A7 (N5 rfl (A9 (nx (A7 (B2 (sr 2 rfl (ix rfl (F9 (v:=iv 32) (us:=[iv 32]) Tryz.underlying206 ty3 rfl rfl rfl 8 rfl (by decide) rfl rfl rfl) (ip' 1 0 [(13,iv 32)] (ie (A3 6 rfl (zrl 5 1 [] [(94,.map (some b1)),(95,iv 32),(98,ag [.func (.func 123) #[ag (B1 (⟨1,9999⟩:Spn))] #[],.func (.func 123) #[ag (B1 (⟨0,0⟩:Spn))] #[]])] ?_))))))))))))))))))))))
 refine it rfl (D6 (es:=(A8 E4e 0).toArray) (es':=(A8 E6e 0).toArray) K4 (.inr rfl) rfl rfl rfl 0 rfl (by kernel_rfl) (by kernel_rfl)) fun _=>?_
 refine znl [(b1,.map (A8 E6e 0).toArray 37)] (A6 (nx (A3 2 rfl (ix rfl (B6 (c:=9) rfl rfl rfl rfl (by decide)) (ip' 1 0 [(91,iv 9)] (A6 (G0 (sr 1 rfl (ip' 1 0 [(92,bv true)] (ie (A7 (N5 rfl (A9 (nx (A7 (B2 (sr 2 rfl (ix rfl (F9 (v:=iv 34) (us:=[iv 34]) Tryz.underlying206 ty3 rfl rfl rfl 9 rfl (by decide) rfl rfl rfl) (ip' 1 0 [(13,iv 34)] (ie (A3 6 rfl (zrl 5 1 [] [(94,.map (some b1)),(95,iv 34),(98,ag [.func (.func 123) #[ag (B1 (⟨1,9999⟩:Spn))] #[],.func (.func 123) #[ag (B1 (⟨0,0⟩:Spn))] #[]])] ?_))))))))))))))))))))))
 refine it rfl (D6 (es:=(A8 E6e 0).toArray) (es':=(A8 E4u 0).toArray) K4 (.inr rfl) rfl rfl rfl 0 rfl (by kernel_rfl) (by kernel_rfl)) fun _=>?_
 refine znl [(b1,.map (A8 E4u 0).toArray 38)] (A6 (nx (A3 2 rfl (ix rfl (B6 (c:=10) rfl rfl rfl rfl (by decide)) (ip' 1 0 [(91,iv 10)] (A6 (G0 (sr 1 rfl (ip' 1 0 [(92,bv false)] (ie (A7 (A7y rfl (J1 (nx (A7 (sr 2 rfl (zrl 2 0 [] [(100,ag (C5m (⟨36,37,43⟩:Ar3))),(101,iv 0)] (ie (B2 (A4z 5 ?_))))))))))))))))))))
 refine G0 (sr 1 rfl (ip' 1 0 [(102,bv true)] ?_))
 refine ie (A7 (N5 rfl (A9 (nx (A7 (B2 (sr 2 rfl (ix rfl (F9 (v:=iv 36) (us:=[iv 36]) Tryz.underlying205 ty3 rfl rfl rfl 0 rfl (by decide) rfl rfl rfl) (ip' 1 0 [(15,iv 36)] (ie (A3 6 rfl (zrl 5 1 [] [(104,.map (some b1)),(105,iv 36),(108,ag [.func (.func 123) #[ag (B1 (⟨0,9999⟩:Spn))] #[],.func (.func 123) #[ag (B1 (⟨0,1⟩:Spn))] #[]])] (it rfl (D6 (es:=(A8 E4u 0).toArray) (es':=(A8 E6p 0).toArray) K4 (.inr rfl) rfl rfl rfl 0 rfl (by kernel_rfl) (by kernel_rfl)) fun _=>?_)))))))))))))
 refine znl [(b1,.map (A8 E6p 0).toArray 39)] (A6 (nx (A3 2 rfl (ix rfl (B6 (c:=1) rfl rfl rfl rfl (by decide)) (ip' 1 0 [(101,iv 1)] (A6 (G0 (sr 1 rfl (ip' 1 0 [(102,bv true)] (ie (A7 (N5 rfl (A9 (nx (A7 (B2 (sr 2 rfl (ix rfl (F9 (v:=iv 37) (us:=[iv 37]) Tryz.underlying205 ty3 rfl rfl rfl 1 rfl (by decide) rfl rfl rfl) (ip' 1 0 [(15,iv 37)] (ie (A3 6 rfl (zrl 5 1 [] [(104,.map (some b1)),(105,iv 37),(108,ag [.func (.func 123) #[ag (B1 (⟨0,9999⟩:Spn))] #[],.func (.func 123) #[ag (B1 (⟨0,1⟩:Spn))] #[]])] ?_))))))))))))))))))))))
 refine it rfl (D6 (es:=(A8 E6p 0).toArray) (es':=(A8 E4b 0).toArray) K4 (.inr rfl) rfl rfl rfl 0 rfl (by kernel_rfl) (by kernel_rfl)) fun _=>?_
 refine znl [(b1,.map (A8 E4b 0).toArray 40)] (A6 (nx (A3 2 rfl (ix rfl (B6 (c:=2) rfl rfl rfl rfl (by decide)) (ip' 1 0 [(101,iv 2)] (A6 (G0 (sr 1 rfl (ip' 1 0 [(102,bv true)] (ie (A7 (N5 rfl (A9 (nx (A7 (B2 (sr 2 rfl (ix rfl (F9 (v:=iv 43) (us:=[iv 43]) Tryz.underlying205 ty3 rfl rfl rfl 2 rfl (by decide) rfl rfl rfl) (ip' 1 0 [(15,iv 43)] (ie (A3 6 rfl (zrl 5 1 [] [(104,.map (some b1)),(105,iv 43),(108,ag [.func (.func 123) #[ag (B1 (⟨0,9999⟩:Spn))] #[],.func (.func 123) #[ag (B1 (⟨0,1⟩:Spn))] #[]])] ?_))))))))))))))))))))))
 refine it rfl (D6 (es:=(A8 E4b 0).toArray) (es':=(A8 C9s 0).toArray) K4 (.inr rfl) rfl rfl rfl 0 rfl (by kernel_rfl) (by kernel_rfl)) fun _=>?_
 refine znl [(b1,.map (A8 C9s 0).toArray 41)] (A6 (nx (A3 2 rfl (ix rfl (B6 (c:=3) rfl rfl rfl rfl (by decide)) (ip' 1 0 [(101,iv 3)] (A6 (G0 (sr 1 rfl (ip' 1 0 [(102,bv false)] (ie (A7 (A7y rfl (J1 (nx (sr 2 rfl (ip' 2 0 [(0,.map (some b1))] ?_))))))))))))))))
 subst hR
 refine ie (B0 ?_)
 exact zer hr hD (O3 rfl (B8 rfl)) b1 (mk [true] rfl) fn0
def B4c:List (Int×Value):=[(17,ag [.func (.func 123) #[ag (B1 (⟨0,3⟩:Spn))] #[],.func (.func 123) #[ag (B1 (⟨0,1⟩:Spn))] #[]]),(18,ag [.func (.func 123) #[ag (B1 (⟨2,3⟩:Spn))] #[],.func (.func 123) #[ag (B1 (⟨0,0⟩:Spn))] #[]]),(19,ag [.func (.func 123) #[ag (B1 (⟨1,9999⟩:Spn))] #[],.func (.func 123) #[ag (B1 (⟨1,9999⟩:Spn))] #[]]),(20,ag [.func (.func 123) #[ag (B1 (⟨0,3⟩:Spn))] #[],.func (.func 123) #[ag (B1 (⟨1,9999⟩:Spn))] #[]]),(26,ag [.func (.func 123) #[ag (B1 (⟨0,3⟩:Spn))] #[],.func (.func 123) #[ag (B1 (⟨0,0⟩:Spn))] #[]]),(27,ag [.func (.func 123) #[ag (B1 (⟨0,2⟩:Spn))] #[],.func (.func 123) #[ag (B1 (⟨0,0⟩:Spn))] #[]]),(35,ag [.func (.func 124) #[] #[],.func (.func 123) #[ag (B1 (⟨0,0⟩:Spn))] #[]]),(38,ag [.func (.func 123) #[ag (B1 (⟨0,9999⟩:Spn))] #[],.func (.func 123) #[ag (B1 (⟨0,9999⟩:Spn))] #[]]),(40,ag [.func (.func 123) #[ag (B1 (⟨0,6⟩:Spn))] #[],.func (.func 123) #[ag (B1 (⟨0,0⟩:Spn))] #[]]),(41,ag [.func (.func 123) #[ag (B1 (⟨5,6⟩:Spn))] #[],.func (.func 123) #[ag (B1 (⟨0,0⟩:Spn))] #[]]),(2,ag [.func (.func 123) #[ag (B1 (⟨0,0⟩:Spn))] #[],.func (.func 123) #[ag (B1 (⟨0,0⟩:Spn))] #[]]),(3,ag [.func (.func 123) #[ag (B1 (⟨0,0⟩:Spn))] #[],.func (.func 123) #[ag (B1 (⟨0,0⟩:Spn))] #[]]),(4,ag [.func (.func 123) #[ag (B1 (⟨0,0⟩:Spn))] #[],.func (.func 123) #[ag (B1 (⟨0,0⟩:Spn))] #[]]),(5,ag [.func (.func 123) #[ag (B1 (⟨0,0⟩:Spn))] #[],.func (.func 123) #[ag (B1 (⟨0,0⟩:Spn))] #[]]),(6,ag [.func (.func 123) #[ag (B1 (⟨0,0⟩:Spn))] #[],.func (.func 123) #[ag (B1 (⟨0,0⟩:Spn))] #[]]),(8,ag [.func (.func 123) #[ag (B1 (⟨0,0⟩:Spn))] #[],.func (.func 123) #[ag (B1 (⟨0,0⟩:Spn))] #[]]),(9,ag [.func (.func 123) #[ag (B1 (⟨0,0⟩:Spn))] #[],.func (.func 123) #[ag (B1 (⟨0,0⟩:Spn))] #[]]),(10,ag [.func (.func 123) #[ag (B1 (⟨0,0⟩:Spn))] #[],.func (.func 123) #[ag (B1 (⟨0,0⟩:Spn))] #[]]),(11,ag [.func (.func 123) #[ag (B1 (⟨0,0⟩:Spn))] #[],.func (.func 123) #[ag (B1 (⟨0,0⟩:Spn))] #[]]),(12,ag [.func (.func 123) #[ag (B1 (⟨0,0⟩:Spn))] #[],.func (.func 123) #[ag (B1 (⟨0,0⟩:Spn))] #[]]),(13,ag [.func (.func 123) #[ag (B1 (⟨0,0⟩:Spn))] #[],.func (.func 123) #[ag (B1 (⟨0,0⟩:Spn))] #[]]),(15,ag [.func (.func 123) #[ag (B1 (⟨0,0⟩:Spn))] #[],.func (.func 123) #[ag (B1 (⟨0,0⟩:Spn))] #[]]),(16,ag [.func (.func 123) #[ag (B1 (⟨0,0⟩:Spn))] #[],.func (.func 123) #[ag (B1 (⟨0,0⟩:Spn))] #[]]),(7,ag [.func (.func 123) #[ag (B1 (⟨0,1⟩:Spn))] #[],.func (.func 123) #[ag (B1 (⟨0,0⟩:Spn))] #[]]),(14,ag [.func (.func 123) #[ag (B1 (⟨0,1⟩:Spn))] #[],.func (.func 123) #[ag (B1 (⟨0,0⟩:Spn))] #[]]),(42,ag [.func (.func 123) #[ag (B1 (⟨0,1⟩:Spn))] #[],.func (.func 123) #[ag (B1 (⟨0,0⟩:Spn))] #[]]),(21,ag [.func (.func 123) #[ag (B1 (⟨0,1⟩:Spn))] #[],.func (.func 123) #[ag (B1 (⟨1,9999⟩:Spn))] #[]]),(33,ag [.func (.func 123) #[ag (B1 (⟨0,1⟩:Spn))] #[],.func (.func 123) #[ag (B1 (⟨1,9999⟩:Spn))] #[]]),(22,ag [.func (.func 123) #[ag (B1 (⟨1,9999⟩:Spn))] #[],.func (.func 123) #[ag (B1 (⟨0,0⟩:Spn))] #[]]),(23,ag [.func (.func 123) #[ag (B1 (⟨1,9999⟩:Spn))] #[],.func (.func 123) #[ag (B1 (⟨0,0⟩:Spn))] #[]]),(24,ag [.func (.func 123) #[ag (B1 (⟨1,9999⟩:Spn))] #[],.func (.func 123) #[ag (B1 (⟨0,0⟩:Spn))] #[]]),(25,ag [.func (.func 123) #[ag (B1 (⟨1,9999⟩:Spn))] #[],.func (.func 123) #[ag (B1 (⟨0,0⟩:Spn))] #[]]),(28,ag [.func (.func 123) #[ag (B1 (⟨1,9999⟩:Spn))] #[],.func (.func 123) #[ag (B1 (⟨0,0⟩:Spn))] #[]]),(29,ag [.func (.func 123) #[ag (B1 (⟨1,9999⟩:Spn))] #[],.func (.func 123) #[ag (B1 (⟨0,0⟩:Spn))] #[]]),(30,ag [.func (.func 123) #[ag (B1 (⟨1,9999⟩:Spn))] #[],.func (.func 123) #[ag (B1 (⟨0,0⟩:Spn))] #[]]),(31,ag [.func (.func 123) #[ag (B1 (⟨1,9999⟩:Spn))] #[],.func (.func 123) #[ag (B1 (⟨0,0⟩:Spn))] #[]]),(32,ag [.func (.func 123) #[ag (B1 (⟨1,9999⟩:Spn))] #[],.func (.func 123) #[ag (B1 (⟨0,0⟩:Spn))] #[]]),(34,ag [.func (.func 123) #[ag (B1 (⟨1,9999⟩:Spn))] #[],.func (.func 123) #[ag (B1 (⟨0,0⟩:Spn))] #[]]),(36,ag [.func (.func 123) #[ag (B1 (⟨0,9999⟩:Spn))] #[],.func (.func 123) #[ag (B1 (⟨0,1⟩:Spn))] #[]]),(37,ag [.func (.func 123) #[ag (B1 (⟨0,9999⟩:Spn))] #[],.func (.func 123) #[ag (B1 (⟨0,1⟩:Spn))] #[]]),(43,ag [.func (.func 123) #[ag (B1 (⟨0,9999⟩:Spn))] #[],.func (.func 123) #[ag (B1 (⟨0,1⟩:Spn))] #[]])]
def C0:List (Int×Value):=[(17,.func (.func 123) #[ag (B1 (⟨0,3⟩:Spn))] #[]),(18,.func (.func 123) #[ag (B1 (⟨2,3⟩:Spn))] #[]),(19,.func (.func 123) #[ag (B1 (⟨1,9999⟩:Spn))] #[]),(20,.func (.func 123) #[ag (B1 (⟨0,3⟩:Spn))] #[]),(26,.func (.func 123) #[ag (B1 (⟨0,3⟩:Spn))] #[]),(27,.func (.func 123) #[ag (B1 (⟨0,2⟩:Spn))] #[]),(35,.func (.func 124) #[] #[]),(38,.func (.func 123) #[ag (B1 (⟨0,9999⟩:Spn))] #[]),(40,.func (.func 123) #[ag (B1 (⟨0,6⟩:Spn))] #[]),(41,.func (.func 123) #[ag (B1 (⟨5,6⟩:Spn))] #[]),(2,.func (.func 123) #[ag (B1 (⟨0,0⟩:Spn))] #[]),(3,.func (.func 123) #[ag (B1 (⟨0,0⟩:Spn))] #[]),(4,.func (.func 123) #[ag (B1 (⟨0,0⟩:Spn))] #[]),(5,.func (.func 123) #[ag (B1 (⟨0,0⟩:Spn))] #[]),(6,.func (.func 123) #[ag (B1 (⟨0,0⟩:Spn))] #[]),(8,.func (.func 123) #[ag (B1 (⟨0,0⟩:Spn))] #[]),(9,.func (.func 123) #[ag (B1 (⟨0,0⟩:Spn))] #[]),(10,.func (.func 123) #[ag (B1 (⟨0,0⟩:Spn))] #[]),(11,.func (.func 123) #[ag (B1 (⟨0,0⟩:Spn))] #[]),(12,.func (.func 123) #[ag (B1 (⟨0,0⟩:Spn))] #[]),(13,.func (.func 123) #[ag (B1 (⟨0,0⟩:Spn))] #[]),(15,.func (.func 123) #[ag (B1 (⟨0,0⟩:Spn))] #[]),(16,.func (.func 123) #[ag (B1 (⟨0,0⟩:Spn))] #[]),(7,.func (.func 123) #[ag (B1 (⟨0,1⟩:Spn))] #[]),(14,.func (.func 123) #[ag (B1 (⟨0,1⟩:Spn))] #[]),(42,.func (.func 123) #[ag (B1 (⟨0,1⟩:Spn))] #[]),(21,.func (.func 123) #[ag (B1 (⟨0,1⟩:Spn))] #[]),(33,.func (.func 123) #[ag (B1 (⟨0,1⟩:Spn))] #[]),(22,.func (.func 123) #[ag (B1 (⟨1,9999⟩:Spn))] #[]),(23,.func (.func 123) #[ag (B1 (⟨1,9999⟩:Spn))] #[]),(24,.func (.func 123) #[ag (B1 (⟨1,9999⟩:Spn))] #[]),(25,.func (.func 123) #[ag (B1 (⟨1,9999⟩:Spn))] #[]),(28,.func (.func 123) #[ag (B1 (⟨1,9999⟩:Spn))] #[]),(29,.func (.func 123) #[ag (B1 (⟨1,9999⟩:Spn))] #[]),(30,.func (.func 123) #[ag (B1 (⟨1,9999⟩:Spn))] #[]),(31,.func (.func 123) #[ag (B1 (⟨1,9999⟩:Spn))] #[]),(32,.func (.func 123) #[ag (B1 (⟨1,9999⟩:Spn))] #[]),(34,.func (.func 123) #[ag (B1 (⟨1,9999⟩:Spn))] #[]),(36,.func (.func 123) #[ag (B1 (⟨0,9999⟩:Spn))] #[]),(37,.func (.func 123) #[ag (B1 (⟨0,9999⟩:Spn))] #[]),(43,.func (.func 123) #[ag (B1 (⟨0,9999⟩:Spn))] #[])]
def K1:List (Int×Value):=[(17,.func (.func 123) #[ag (B1 (⟨0,1⟩:Spn))] #[]),(18,.func (.func 123) #[ag (B1 (⟨0,0⟩:Spn))] #[]),(19,.func (.func 123) #[ag (B1 (⟨1,9999⟩:Spn))] #[]),(20,.func (.func 123) #[ag (B1 (⟨1,9999⟩:Spn))] #[]),(26,.func (.func 123) #[ag (B1 (⟨0,0⟩:Spn))] #[]),(27,.func (.func 123) #[ag (B1 (⟨0,0⟩:Spn))] #[]),(35,.func (.func 123) #[ag (B1 (⟨0,0⟩:Spn))] #[]),(38,.func (.func 123) #[ag (B1 (⟨0,9999⟩:Spn))] #[]),(40,.func (.func 123) #[ag (B1 (⟨0,0⟩:Spn))] #[]),(41,.func (.func 123) #[ag (B1 (⟨0,0⟩:Spn))] #[]),(2,.func (.func 123) #[ag (B1 (⟨0,0⟩:Spn))] #[]),(3,.func (.func 123) #[ag (B1 (⟨0,0⟩:Spn))] #[]),(4,.func (.func 123) #[ag (B1 (⟨0,0⟩:Spn))] #[]),(5,.func (.func 123) #[ag (B1 (⟨0,0⟩:Spn))] #[]),(6,.func (.func 123) #[ag (B1 (⟨0,0⟩:Spn))] #[]),(8,.func (.func 123) #[ag (B1 (⟨0,0⟩:Spn))] #[]),(9,.func (.func 123) #[ag (B1 (⟨0,0⟩:Spn))] #[]),(10,.func (.func 123) #[ag (B1 (⟨0,0⟩:Spn))] #[]),(11,.func (.func 123) #[ag (B1 (⟨0,0⟩:Spn))] #[]),(12,.func (.func 123) #[ag (B1 (⟨0,0⟩:Spn))] #[]),(13,.func (.func 123) #[ag (B1 (⟨0,0⟩:Spn))] #[]),(15,.func (.func 123) #[ag (B1 (⟨0,0⟩:Spn))] #[]),(16,.func (.func 123) #[ag (B1 (⟨0,0⟩:Spn))] #[]),(7,.func (.func 123) #[ag (B1 (⟨0,0⟩:Spn))] #[]),(14,.func (.func 123) #[ag (B1 (⟨0,0⟩:Spn))] #[]),(42,.func (.func 123) #[ag (B1 (⟨0,0⟩:Spn))] #[]),(21,.func (.func 123) #[ag (B1 (⟨1,9999⟩:Spn))] #[]),(33,.func (.func 123) #[ag (B1 (⟨1,9999⟩:Spn))] #[]),(22,.func (.func 123) #[ag (B1 (⟨0,0⟩:Spn))] #[]),(23,.func (.func 123) #[ag (B1 (⟨0,0⟩:Spn))] #[]),(24,.func (.func 123) #[ag (B1 (⟨0,0⟩:Spn))] #[]),(25,.func (.func 123) #[ag (B1 (⟨0,0⟩:Spn))] #[]),(28,.func (.func 123) #[ag (B1 (⟨0,0⟩:Spn))] #[]),(29,.func (.func 123) #[ag (B1 (⟨0,0⟩:Spn))] #[]),(30,.func (.func 123) #[ag (B1 (⟨0,0⟩:Spn))] #[]),(31,.func (.func 123) #[ag (B1 (⟨0,0⟩:Spn))] #[]),(32,.func (.func 123) #[ag (B1 (⟨0,0⟩:Spn))] #[]),(34,.func (.func 123) #[ag (B1 (⟨0,0⟩:Spn))] #[]),(36,.func (.func 123) #[ag (B1 (⟨0,1⟩:Spn))] #[]),(37,.func (.func 123) #[ag (B1 (⟨0,1⟩:Spn))] #[]),(43,.func (.func 123) #[ag (B1 (⟨0,1⟩:Spn))] #[])]
theorem D8i (k:Int):lkV k (.agg #[.nilFunc,.nilFunc]) B4c=.agg #[lkV k .nilFunc C0,lkV k .nilFunc K1]:=by
 refine (D5n (fun a b=>.agg #[a,b]) k (.nilFunc) (.nilFunc) [((17:Int),(.func (.func 123) #[ag (B1 (⟨0,3⟩:Spn))] #[]:Value),(.func (.func 123) #[ag (B1 (⟨0,1⟩:Spn))] #[]:Value)),((18:Int),(.func (.func 123) #[ag (B1 (⟨2,3⟩:Spn))] #[]:Value),(.func (.func 123) #[ag (B1 (⟨0,0⟩:Spn))] #[]:Value)),((19:Int),(.func (.func 123) #[ag (B1 (⟨1,9999⟩:Spn))] #[]:Value),(.func (.func 123) #[ag (B1 (⟨1,9999⟩:Spn))] #[]:Value)),((20:Int),(.func (.func 123) #[ag (B1 (⟨0,3⟩:Spn))] #[]:Value),(.func (.func 123) #[ag (B1 (⟨1,9999⟩:Spn))] #[]:Value)),((26:Int),(.func (.func 123) #[ag (B1 (⟨0,3⟩:Spn))] #[]:Value),(.func (.func 123) #[ag (B1 (⟨0,0⟩:Spn))] #[]:Value)),((27:Int),(.func (.func 123) #[ag (B1 (⟨0,2⟩:Spn))] #[]:Value),(.func (.func 123) #[ag (B1 (⟨0,0⟩:Spn))] #[]:Value)),((35:Int),(.func (.func 124) #[] #[]:Value),(.func (.func 123) #[ag (B1 (⟨0,0⟩:Spn))] #[]:Value)),((38:Int),(.func (.func 123) #[ag (B1 (⟨0,9999⟩:Spn))] #[]:Value),(.func (.func 123) #[ag (B1 (⟨0,9999⟩:Spn))] #[]:Value)),((40:Int),(.func (.func 123) #[ag (B1 (⟨0,6⟩:Spn))] #[]:Value),(.func (.func 123) #[ag (B1 (⟨0,0⟩:Spn))] #[]:Value)),((41:Int),(.func (.func 123) #[ag (B1 (⟨5,6⟩:Spn))] #[]:Value),(.func (.func 123) #[ag (B1 (⟨0,0⟩:Spn))] #[]:Value)),((2:Int),(.func (.func 123) #[ag (B1 (⟨0,0⟩:Spn))] #[]:Value),(.func (.func 123) #[ag (B1 (⟨0,0⟩:Spn))] #[]:Value)),((3:Int),(.func (.func 123) #[ag (B1 (⟨0,0⟩:Spn))] #[]:Value),(.func (.func 123) #[ag (B1 (⟨0,0⟩:Spn))] #[]:Value)),((4:Int),(.func (.func 123) #[ag (B1 (⟨0,0⟩:Spn))] #[]:Value),(.func (.func 123) #[ag (B1 (⟨0,0⟩:Spn))] #[]:Value)),((5:Int),(.func (.func 123) #[ag (B1 (⟨0,0⟩:Spn))] #[]:Value),(.func (.func 123) #[ag (B1 (⟨0,0⟩:Spn))] #[]:Value)),((6:Int),(.func (.func 123) #[ag (B1 (⟨0,0⟩:Spn))] #[]:Value),(.func (.func 123) #[ag (B1 (⟨0,0⟩:Spn))] #[]:Value)),((8:Int),(.func (.func 123) #[ag (B1 (⟨0,0⟩:Spn))] #[]:Value),(.func (.func 123) #[ag (B1 (⟨0,0⟩:Spn))] #[]:Value)),((9:Int),(.func (.func 123) #[ag (B1 (⟨0,0⟩:Spn))] #[]:Value),(.func (.func 123) #[ag (B1 (⟨0,0⟩:Spn))] #[]:Value)),((10:Int),(.func (.func 123) #[ag (B1 (⟨0,0⟩:Spn))] #[]:Value),(.func (.func 123) #[ag (B1 (⟨0,0⟩:Spn))] #[]:Value)),((11:Int),(.func (.func 123) #[ag (B1 (⟨0,0⟩:Spn))] #[]:Value),(.func (.func 123) #[ag (B1 (⟨0,0⟩:Spn))] #[]:Value)),((12:Int),(.func (.func 123) #[ag (B1 (⟨0,0⟩:Spn))] #[]:Value),(.func (.func 123) #[ag (B1 (⟨0,0⟩:Spn))] #[]:Value)),((13:Int),(.func (.func 123) #[ag (B1 (⟨0,0⟩:Spn))] #[]:Value),(.func (.func 123) #[ag (B1 (⟨0,0⟩:Spn))] #[]:Value)),((15:Int),(.func (.func 123) #[ag (B1 (⟨0,0⟩:Spn))] #[]:Value),(.func (.func 123) #[ag (B1 (⟨0,0⟩:Spn))] #[]:Value)),((16:Int),(.func (.func 123) #[ag (B1 (⟨0,0⟩:Spn))] #[]:Value),(.func (.func 123) #[ag (B1 (⟨0,0⟩:Spn))] #[]:Value)),((7:Int),(.func (.func 123) #[ag (B1 (⟨0,1⟩:Spn))] #[]:Value),(.func (.func 123) #[ag (B1 (⟨0,0⟩:Spn))] #[]:Value)),((14:Int),(.func (.func 123) #[ag (B1 (⟨0,1⟩:Spn))] #[]:Value),(.func (.func 123) #[ag (B1 (⟨0,0⟩:Spn))] #[]:Value)),((42:Int),(.func (.func 123) #[ag (B1 (⟨0,1⟩:Spn))] #[]:Value),(.func (.func 123) #[ag (B1 (⟨0,0⟩:Spn))] #[]:Value)),((21:Int),(.func (.func 123) #[ag (B1 (⟨0,1⟩:Spn))] #[]:Value),(.func (.func 123) #[ag (B1 (⟨1,9999⟩:Spn))] #[]:Value)),((33:Int),(.func (.func 123) #[ag (B1 (⟨0,1⟩:Spn))] #[]:Value),(.func (.func 123) #[ag (B1 (⟨1,9999⟩:Spn))] #[]:Value)),((22:Int),(.func (.func 123) #[ag (B1 (⟨1,9999⟩:Spn))] #[]:Value),(.func (.func 123) #[ag (B1 (⟨0,0⟩:Spn))] #[]:Value)),((23:Int),(.func (.func 123) #[ag (B1 (⟨1,9999⟩:Spn))] #[]:Value),(.func (.func 123) #[ag (B1 (⟨0,0⟩:Spn))] #[]:Value)),((24:Int),(.func (.func 123) #[ag (B1 (⟨1,9999⟩:Spn))] #[]:Value),(.func (.func 123) #[ag (B1 (⟨0,0⟩:Spn))] #[]:Value)),((25:Int),(.func (.func 123) #[ag (B1 (⟨1,9999⟩:Spn))] #[]:Value),(.func (.func 123) #[ag (B1 (⟨0,0⟩:Spn))] #[]:Value)),((28:Int),(.func (.func 123) #[ag (B1 (⟨1,9999⟩:Spn))] #[]:Value),(.func (.func 123) #[ag (B1 (⟨0,0⟩:Spn))] #[]:Value)),((29:Int),(.func (.func 123) #[ag (B1 (⟨1,9999⟩:Spn))] #[]:Value),(.func (.func 123) #[ag (B1 (⟨0,0⟩:Spn))] #[]:Value)),((30:Int),(.func (.func 123) #[ag (B1 (⟨1,9999⟩:Spn))] #[]:Value),(.func (.func 123) #[ag (B1 (⟨0,0⟩:Spn))] #[]:Value)),((31:Int),(.func (.func 123) #[ag (B1 (⟨1,9999⟩:Spn))] #[]:Value),(.func (.func 123) #[ag (B1 (⟨0,0⟩:Spn))] #[]:Value)),((32:Int),(.func (.func 123) #[ag (B1 (⟨1,9999⟩:Spn))] #[]:Value),(.func (.func 123) #[ag (B1 (⟨0,0⟩:Spn))] #[]:Value)),((34:Int),(.func (.func 123) #[ag (B1 (⟨1,9999⟩:Spn))] #[]:Value),(.func (.func 123) #[ag (B1 (⟨0,0⟩:Spn))] #[]:Value)),((36:Int),(.func (.func 123) #[ag (B1 (⟨0,9999⟩:Spn))] #[]:Value),(.func (.func 123) #[ag (B1 (⟨0,1⟩:Spn))] #[]:Value)),((37:Int),(.func (.func 123) #[ag (B1 (⟨0,9999⟩:Spn))] #[]:Value),(.func (.func 123) #[ag (B1 (⟨0,1⟩:Spn))] #[]:Value)),((43:Int),(.func (.func 123) #[ag (B1 (⟨0,9999⟩:Spn))] #[]:Value),(.func (.func 123) #[ag (B1 (⟨0,1⟩:Spn))] #[]:Value))]).trans ?_
 rfl
theorem A2s (k:Int):Value.tuple #[lkV k (.agg #[.nilFunc,.nilFunc]) B4c,.bool (H6 k B4c)]=Value.tuple #[.agg #[lkV k .nilFunc C0,lkV k .nilFunc K1],.bool (H6 k C0)]:=by rw [D8i];rfl
def A4 (s:Spn) (n:Int):Bool :=
 ((decide (s.lo≤n))&&(decide (n≤s.hi)))
theorem A2 (s:Spn) (n:Int) (R:Bool) (hR:A4 s n=R):K5 Tryz.prog 123 [ag (B1 s),iv n] [] (bv R):=by
 refine zco Tryz.func123 [(0,ag (B1 s)),(1,iv n)] fun X hX hr hD=>?_
 replace hR:=(A4.eq_1 ..).symm.trans hR
 refine sr 2 rfl (P1 2 0 [] (fun b1=>[(2,pt b1 0)]) (fun b1=>[bx b1 (B1 s) 203]) (fun b1=>(ie (sr 11 rfl (zrl 5 6 [0] [(9,bv (decide (s.lo≤n)))] ?_)))))
 refine zid 5 1 9 14 (decide (n≤s.hi)) (fun g2 g2p=>?_) ?_
 ·refine zrl 5 0 [0] [(14,bv (decide (n≤s.hi)))] ?_
  exact A6 (Q2 2 9 14 g2 fn0 (mk [true] rfl) rfl rfl rfl rfl rfl)
 refine ip' 1 0 [(4,bv ((decide (s.lo≤n))&&(decide (n≤s.hi))))] ?_
 subst hR
 refine ie (B0 ?_)
 exact F8 hr hD
def A0l (n:Int):Bool :=
 ((decide (n=0))||(decide (n=3)))
theorem B7t (n:Int) (R:Bool) (hR:A0l n=R):K5 Tryz.prog 124 [iv n] [] (bv R):=by
 refine zco Tryz.func124 [(0,iv n)] fun X hX hr hD=>?_
 replace hR:=(A0l.eq_1 ..).symm.trans hR
 refine sr 1 rfl (ip' 1 0 [] (ie (sr 7 rfl (ip' 3 4 [(5,bv (decide (n=0)))] ?_))))
 refine zir 3 1 5 8 (decide (n=3)) (fun g1 g1p=>?_) ?_
 ·refine ip' 3 0 [(8,bv (decide (n=3)))] ?_
  exact A6 (Q2 2 5 8 g1 fn0 (mk [] rfl) rfl rfl rfl rfl rfl)
 refine ip' 1 0 [(2,bv ((decide (n=0))||(decide (n=3))))] ?_
 subst hR
 refine ie (B0 ?_)
 exact F8 hr hD
def D9 (k:Int) (x0:Int):Bool :=
 (bif (decide (k=17)) then (A4 (⟨0,3⟩:Spn) x0) else (bif (decide (k=18)) then (A4 (⟨2,3⟩:Spn) x0) else (bif (decide (k=19)) then (A4 (⟨1,9999⟩:Spn) x0) else (bif (decide (k=20)) then (A4 (⟨0,3⟩:Spn) x0) else (bif (decide (k=26)) then (A4 (⟨0,3⟩:Spn) x0) else (bif (decide (k=27)) then (A4 (⟨0,2⟩:Spn) x0) else (bif (decide (k=35)) then (A0l x0) else (bif (decide (k=38)) then (A4 (⟨0,9999⟩:Spn) x0) else (bif (decide (k=40)) then (A4 (⟨0,6⟩:Spn) x0) else (bif (decide (k=41)) then (A4 (⟨5,6⟩:Spn) x0) else (bif (decide (k=2)) then (A4 (⟨0,0⟩:Spn) x0) else (bif (decide (k=3)) then (A4 (⟨0,0⟩:Spn) x0) else (bif (decide (k=4)) then (A4 (⟨0,0⟩:Spn) x0) else (bif (decide (k=5)) then (A4 (⟨0,0⟩:Spn) x0) else (bif (decide (k=6)) then (A4 (⟨0,0⟩:Spn) x0) else (bif (decide (k=8)) then (A4 (⟨0,0⟩:Spn) x0) else (bif (decide (k=9)) then (A4 (⟨0,0⟩:Spn) x0) else (bif (decide (k=10)) then (A4 (⟨0,0⟩:Spn) x0) else (bif (decide (k=11)) then (A4 (⟨0,0⟩:Spn) x0) else (bif (decide (k=12)) then (A4 (⟨0,0⟩:Spn) x0) else (bif (decide (k=13)) then (A4 (⟨0,0⟩:Spn) x0) else (bif (decide (k=15)) then (A4 (⟨0,0⟩:Spn) x0) else (bif (decide (k=16)) then (A4 (⟨0,0⟩:Spn) x0) else (bif (decide (k=7)) then (A4 (⟨0,1⟩:Spn) x0) else (bif (decide (k=14)) then (A4 (⟨0,1⟩:Spn) x0) else (bif (decide (k=42)) then (A4 (⟨0,1⟩:Spn) x0) else (bif (decide (k=21)) then (A4 (⟨0,1⟩:Spn) x0) else (bif (decide (k=33)) then (A4 (⟨0,1⟩:Spn) x0) else (bif (decide (k=22)) then (A4 (⟨1,9999⟩:Spn) x0) else (bif (decide (k=23)) then (A4 (⟨1,9999⟩:Spn) x0) else (bif (decide (k=24)) then (A4 (⟨1,9999⟩:Spn) x0) else (bif (decide (k=25)) then (A4 (⟨1,9999⟩:Spn) x0) else (bif (decide (k=28)) then (A4 (⟨1,9999⟩:Spn) x0) else (bif (decide (k=29)) then (A4 (⟨1,9999⟩:Spn) x0) else (bif (decide (k=30)) then (A4 (⟨1,9999⟩:Spn) x0) else (bif (decide (k=31)) then (A4 (⟨1,9999⟩:Spn) x0) else (bif (decide (k=32)) then (A4 (⟨1,9999⟩:Spn) x0) else (bif (decide (k=34)) then (A4 (⟨1,9999⟩:Spn) x0) else (bif (decide (k=36)) then (A4 (⟨0,9999⟩:Spn) x0) else (bif (decide (k=37)) then (A4 (⟨0,9999⟩:Spn) x0) else (bif (decide (k=43)) then (A4 (⟨0,9999⟩:Spn) x0) else false)))))))))))))))))))))))))))))))))))))))))
theorem A1g (k:Int) (x0:Int) (hk:H6 k C0=true) (R:Bool) (hR:D9 k x0=R):B9 Tryz.prog (lkV k .nilFunc C0) [iv x0] [] (bv R):=by
 subst hR
 unfold D9
 unfold C0 at *
 refine B9.cons (fun r=>bv r) hk (fun e=>?_) (fun hk e=>?_)
 ·exact B9.of (A2 (⟨0,3⟩:Spn) x0 _ rfl) rfl fn0
 refine B9.cons (fun r=>bv r) hk (fun e=>?_) (fun hk e=>?_)
 ·exact B9.of (A2 (⟨2,3⟩:Spn) x0 _ rfl) rfl fn0
 refine B9.cons (fun r=>bv r) hk (fun e=>?_) (fun hk e=>?_)
 ·exact B9.of (A2 (⟨1,9999⟩:Spn) x0 _ rfl) rfl fn0
 refine B9.cons (fun r=>bv r) hk (fun e=>?_) (fun hk e=>?_)
 ·exact B9.of (A2 (⟨0,3⟩:Spn) x0 _ rfl) rfl fn0
 refine B9.cons (fun r=>bv r) hk (fun e=>?_) (fun hk e=>?_)
 ·exact B9.of (A2 (⟨0,3⟩:Spn) x0 _ rfl) rfl fn0
 refine B9.cons (fun r=>bv r) hk (fun e=>?_) (fun hk e=>?_)
 ·exact B9.of (A2 (⟨0,2⟩:Spn) x0 _ rfl) rfl fn0
 refine B9.cons (fun r=>bv r) hk (fun e=>?_) (fun hk e=>?_)
 ·exact B9.of (B7t x0 _ rfl) rfl fn0
 refine B9.cons (fun r=>bv r) hk (fun e=>?_) (fun hk e=>?_)
 ·exact B9.of (A2 (⟨0,9999⟩:Spn) x0 _ rfl) rfl fn0
 refine B9.cons (fun r=>bv r) hk (fun e=>?_) (fun hk e=>?_)
 ·exact B9.of (A2 (⟨0,6⟩:Spn) x0 _ rfl) rfl fn0
 refine B9.cons (fun r=>bv r) hk (fun e=>?_) (fun hk e=>?_)
 ·exact B9.of (A2 (⟨5,6⟩:Spn) x0 _ rfl) rfl fn0
 refine B9.cons (fun r=>bv r) hk (fun e=>?_) (fun hk e=>?_)
 ·exact B9.of (A2 (⟨0,0⟩:Spn) x0 _ rfl) rfl fn0
 refine B9.cons (fun r=>bv r) hk (fun e=>?_) (fun hk e=>?_)
 ·exact B9.of (A2 (⟨0,0⟩:Spn) x0 _ rfl) rfl fn0
 refine B9.cons (fun r=>bv r) hk (fun e=>?_) (fun hk e=>?_)
 ·exact B9.of (A2 (⟨0,0⟩:Spn) x0 _ rfl) rfl fn0
 refine B9.cons (fun r=>bv r) hk (fun e=>?_) (fun hk e=>?_)
 ·exact B9.of (A2 (⟨0,0⟩:Spn) x0 _ rfl) rfl fn0
 refine B9.cons (fun r=>bv r) hk (fun e=>?_) (fun hk e=>?_)
 ·exact B9.of (A2 (⟨0,0⟩:Spn) x0 _ rfl) rfl fn0
 refine B9.cons (fun r=>bv r) hk (fun e=>?_) (fun hk e=>?_)
 ·exact B9.of (A2 (⟨0,0⟩:Spn) x0 _ rfl) rfl fn0
 refine B9.cons (fun r=>bv r) hk (fun e=>?_) (fun hk e=>?_)
 ·exact B9.of (A2 (⟨0,0⟩:Spn) x0 _ rfl) rfl fn0
 refine B9.cons (fun r=>bv r) hk (fun e=>?_) (fun hk e=>?_)
 ·exact B9.of (A2 (⟨0,0⟩:Spn) x0 _ rfl) rfl fn0
 refine B9.cons (fun r=>bv r) hk (fun e=>?_) (fun hk e=>?_)
 ·exact B9.of (A2 (⟨0,0⟩:Spn) x0 _ rfl) rfl fn0
 refine B9.cons (fun r=>bv r) hk (fun e=>?_) (fun hk e=>?_)
 ·exact B9.of (A2 (⟨0,0⟩:Spn) x0 _ rfl) rfl fn0
 refine B9.cons (fun r=>bv r) hk (fun e=>?_) (fun hk e=>?_)
 ·exact B9.of (A2 (⟨0,0⟩:Spn) x0 _ rfl) rfl fn0
 refine B9.cons (fun r=>bv r) hk (fun e=>?_) (fun hk e=>?_)
 ·exact B9.of (A2 (⟨0,0⟩:Spn) x0 _ rfl) rfl fn0
 refine B9.cons (fun r=>bv r) hk (fun e=>?_) (fun hk e=>?_)
 ·exact B9.of (A2 (⟨0,0⟩:Spn) x0 _ rfl) rfl fn0
 refine B9.cons (fun r=>bv r) hk (fun e=>?_) (fun hk e=>?_)
 ·exact B9.of (A2 (⟨0,1⟩:Spn) x0 _ rfl) rfl fn0
 refine B9.cons (fun r=>bv r) hk (fun e=>?_) (fun hk e=>?_)
 ·exact B9.of (A2 (⟨0,1⟩:Spn) x0 _ rfl) rfl fn0
 refine B9.cons (fun r=>bv r) hk (fun e=>?_) (fun hk e=>?_)
 ·exact B9.of (A2 (⟨0,1⟩:Spn) x0 _ rfl) rfl fn0
 refine B9.cons (fun r=>bv r) hk (fun e=>?_) (fun hk e=>?_)
 ·exact B9.of (A2 (⟨0,1⟩:Spn) x0 _ rfl) rfl fn0
 refine B9.cons (fun r=>bv r) hk (fun e=>?_) (fun hk e=>?_)
 ·exact B9.of (A2 (⟨0,1⟩:Spn) x0 _ rfl) rfl fn0
 refine B9.cons (fun r=>bv r) hk (fun e=>?_) (fun hk e=>?_)
 ·exact B9.of (A2 (⟨1,9999⟩:Spn) x0 _ rfl) rfl fn0
 refine B9.cons (fun r=>bv r) hk (fun e=>?_) (fun hk e=>?_)
 ·exact B9.of (A2 (⟨1,9999⟩:Spn) x0 _ rfl) rfl fn0
 refine B9.cons (fun r=>bv r) hk (fun e=>?_) (fun hk e=>?_)
 ·exact B9.of (A2 (⟨1,9999⟩:Spn) x0 _ rfl) rfl fn0
 refine B9.cons (fun r=>bv r) hk (fun e=>?_) (fun hk e=>?_)
 ·exact B9.of (A2 (⟨1,9999⟩:Spn) x0 _ rfl) rfl fn0
 refine B9.cons (fun r=>bv r) hk (fun e=>?_) (fun hk e=>?_)
 ·exact B9.of (A2 (⟨1,9999⟩:Spn) x0 _ rfl) rfl fn0
 refine B9.cons (fun r=>bv r) hk (fun e=>?_) (fun hk e=>?_)
 ·exact B9.of (A2 (⟨1,9999⟩:Spn) x0 _ rfl) rfl fn0
 refine B9.cons (fun r=>bv r) hk (fun e=>?_) (fun hk e=>?_)
 ·exact B9.of (A2 (⟨1,9999⟩:Spn) x0 _ rfl) rfl fn0
 refine B9.cons (fun r=>bv r) hk (fun e=>?_) (fun hk e=>?_)
 ·exact B9.of (A2 (⟨1,9999⟩:Spn) x0 _ rfl) rfl fn0
 refine B9.cons (fun r=>bv r) hk (fun e=>?_) (fun hk e=>?_)
 ·exact B9.of (A2 (⟨1,9999⟩:Spn) x0 _ rfl) rfl fn0
 refine B9.cons (fun r=>bv r) hk (fun e=>?_) (fun hk e=>?_)
 ·exact B9.of (A2 (⟨1,9999⟩:Spn) x0 _ rfl) rfl fn0
 refine B9.cons (fun r=>bv r) hk (fun e=>?_) (fun hk e=>?_)
 ·exact B9.of (A2 (⟨0,9999⟩:Spn) x0 _ rfl) rfl fn0
 refine B9.cons (fun r=>bv r) hk (fun e=>?_) (fun hk e=>?_)
 ·exact B9.of (A2 (⟨0,9999⟩:Spn) x0 _ rfl) rfl fn0
 refine B9.cons (fun r=>bv r) hk (fun e=>?_) (fun hk e=>?_)
 ·exact B9.of (A2 (⟨0,9999⟩:Spn) x0 _ rfl) rfl fn0
 exact B9.nil hk
def F6 (k:Int) (x0:Int):Bool :=
 (bif (decide (k=17)) then (A4 (⟨0,1⟩:Spn) x0) else (bif (decide (k=18)) then (A4 (⟨0,0⟩:Spn) x0) else (bif (decide (k=19)) then (A4 (⟨1,9999⟩:Spn) x0) else (bif (decide (k=20)) then (A4 (⟨1,9999⟩:Spn) x0) else (bif (decide (k=26)) then (A4 (⟨0,0⟩:Spn) x0) else (bif (decide (k=27)) then (A4 (⟨0,0⟩:Spn) x0) else (bif (decide (k=35)) then (A4 (⟨0,0⟩:Spn) x0) else (bif (decide (k=38)) then (A4 (⟨0,9999⟩:Spn) x0) else (bif (decide (k=40)) then (A4 (⟨0,0⟩:Spn) x0) else (bif (decide (k=41)) then (A4 (⟨0,0⟩:Spn) x0) else (bif (decide (k=2)) then (A4 (⟨0,0⟩:Spn) x0) else (bif (decide (k=3)) then (A4 (⟨0,0⟩:Spn) x0) else (bif (decide (k=4)) then (A4 (⟨0,0⟩:Spn) x0) else (bif (decide (k=5)) then (A4 (⟨0,0⟩:Spn) x0) else (bif (decide (k=6)) then (A4 (⟨0,0⟩:Spn) x0) else (bif (decide (k=8)) then (A4 (⟨0,0⟩:Spn) x0) else (bif (decide (k=9)) then (A4 (⟨0,0⟩:Spn) x0) else (bif (decide (k=10)) then (A4 (⟨0,0⟩:Spn) x0) else (bif (decide (k=11)) then (A4 (⟨0,0⟩:Spn) x0) else (bif (decide (k=12)) then (A4 (⟨0,0⟩:Spn) x0) else (bif (decide (k=13)) then (A4 (⟨0,0⟩:Spn) x0) else (bif (decide (k=15)) then (A4 (⟨0,0⟩:Spn) x0) else (bif (decide (k=16)) then (A4 (⟨0,0⟩:Spn) x0) else (bif (decide (k=7)) then (A4 (⟨0,0⟩:Spn) x0) else (bif (decide (k=14)) then (A4 (⟨0,0⟩:Spn) x0) else (bif (decide (k=42)) then (A4 (⟨0,0⟩:Spn) x0) else (bif (decide (k=21)) then (A4 (⟨1,9999⟩:Spn) x0) else (bif (decide (k=33)) then (A4 (⟨1,9999⟩:Spn) x0) else (bif (decide (k=22)) then (A4 (⟨0,0⟩:Spn) x0) else (bif (decide (k=23)) then (A4 (⟨0,0⟩:Spn) x0) else (bif (decide (k=24)) then (A4 (⟨0,0⟩:Spn) x0) else (bif (decide (k=25)) then (A4 (⟨0,0⟩:Spn) x0) else (bif (decide (k=28)) then (A4 (⟨0,0⟩:Spn) x0) else (bif (decide (k=29)) then (A4 (⟨0,0⟩:Spn) x0) else (bif (decide (k=30)) then (A4 (⟨0,0⟩:Spn) x0) else (bif (decide (k=31)) then (A4 (⟨0,0⟩:Spn) x0) else (bif (decide (k=32)) then (A4 (⟨0,0⟩:Spn) x0) else (bif (decide (k=34)) then (A4 (⟨0,0⟩:Spn) x0) else (bif (decide (k=36)) then (A4 (⟨0,1⟩:Spn) x0) else (bif (decide (k=37)) then (A4 (⟨0,1⟩:Spn) x0) else (bif (decide (k=43)) then (A4 (⟨0,1⟩:Spn) x0) else false)))))))))))))))))))))))))))))))))))))))))
theorem A1i (k:Int) (x0:Int) (hk:H6 k K1=true) (R:Bool) (hR:F6 k x0=R):B9 Tryz.prog (lkV k .nilFunc K1) [iv x0] [] (bv R):=by
 subst hR
 unfold F6
 unfold K1 at *
 refine B9.cons (fun r=>bv r) hk (fun e=>?_) (fun hk e=>?_)
 ·exact B9.of (A2 (⟨0,1⟩:Spn) x0 _ rfl) rfl fn0
 refine B9.cons (fun r=>bv r) hk (fun e=>?_) (fun hk e=>?_)
 ·exact B9.of (A2 (⟨0,0⟩:Spn) x0 _ rfl) rfl fn0
 refine B9.cons (fun r=>bv r) hk (fun e=>?_) (fun hk e=>?_)
 ·exact B9.of (A2 (⟨1,9999⟩:Spn) x0 _ rfl) rfl fn0
 refine B9.cons (fun r=>bv r) hk (fun e=>?_) (fun hk e=>?_)
 ·exact B9.of (A2 (⟨1,9999⟩:Spn) x0 _ rfl) rfl fn0
 refine B9.cons (fun r=>bv r) hk (fun e=>?_) (fun hk e=>?_)
 ·exact B9.of (A2 (⟨0,0⟩:Spn) x0 _ rfl) rfl fn0
 refine B9.cons (fun r=>bv r) hk (fun e=>?_) (fun hk e=>?_)
 ·exact B9.of (A2 (⟨0,0⟩:Spn) x0 _ rfl) rfl fn0
 refine B9.cons (fun r=>bv r) hk (fun e=>?_) (fun hk e=>?_)
 ·exact B9.of (A2 (⟨0,0⟩:Spn) x0 _ rfl) rfl fn0
 refine B9.cons (fun r=>bv r) hk (fun e=>?_) (fun hk e=>?_)
 ·exact B9.of (A2 (⟨0,9999⟩:Spn) x0 _ rfl) rfl fn0
 refine B9.cons (fun r=>bv r) hk (fun e=>?_) (fun hk e=>?_)
 ·exact B9.of (A2 (⟨0,0⟩:Spn) x0 _ rfl) rfl fn0
 refine B9.cons (fun r=>bv r) hk (fun e=>?_) (fun hk e=>?_)
 ·exact B9.of (A2 (⟨0,0⟩:Spn) x0 _ rfl) rfl fn0
 refine B9.cons (fun r=>bv r) hk (fun e=>?_) (fun hk e=>?_)
 ·exact B9.of (A2 (⟨0,0⟩:Spn) x0 _ rfl) rfl fn0
 refine B9.cons (fun r=>bv r) hk (fun e=>?_) (fun hk e=>?_)
 ·exact B9.of (A2 (⟨0,0⟩:Spn) x0 _ rfl) rfl fn0
 refine B9.cons (fun r=>bv r) hk (fun e=>?_) (fun hk e=>?_)
 ·exact B9.of (A2 (⟨0,0⟩:Spn) x0 _ rfl) rfl fn0
 refine B9.cons (fun r=>bv r) hk (fun e=>?_) (fun hk e=>?_)
 ·exact B9.of (A2 (⟨0,0⟩:Spn) x0 _ rfl) rfl fn0
 refine B9.cons (fun r=>bv r) hk (fun e=>?_) (fun hk e=>?_)
 ·exact B9.of (A2 (⟨0,0⟩:Spn) x0 _ rfl) rfl fn0
 refine B9.cons (fun r=>bv r) hk (fun e=>?_) (fun hk e=>?_)
 ·exact B9.of (A2 (⟨0,0⟩:Spn) x0 _ rfl) rfl fn0
 refine B9.cons (fun r=>bv r) hk (fun e=>?_) (fun hk e=>?_)
 ·exact B9.of (A2 (⟨0,0⟩:Spn) x0 _ rfl) rfl fn0
 refine B9.cons (fun r=>bv r) hk (fun e=>?_) (fun hk e=>?_)
 ·exact B9.of (A2 (⟨0,0⟩:Spn) x0 _ rfl) rfl fn0
 refine B9.cons (fun r=>bv r) hk (fun e=>?_) (fun hk e=>?_)
 ·exact B9.of (A2 (⟨0,0⟩:Spn) x0 _ rfl) rfl fn0
 refine B9.cons (fun r=>bv r) hk (fun e=>?_) (fun hk e=>?_)
 ·exact B9.of (A2 (⟨0,0⟩:Spn) x0 _ rfl) rfl fn0
 refine B9.cons (fun r=>bv r) hk (fun e=>?_) (fun hk e=>?_)
 ·exact B9.of (A2 (⟨0,0⟩:Spn) x0 _ rfl) rfl fn0
 refine B9.cons (fun r=>bv r) hk (fun e=>?_) (fun hk e=>?_)
 ·exact B9.of (A2 (⟨0,0⟩:Spn) x0 _ rfl) rfl fn0
 refine B9.cons (fun r=>bv r) hk (fun e=>?_) (fun hk e=>?_)
 ·exact B9.of (A2 (⟨0,0⟩:Spn) x0 _ rfl) rfl fn0
 refine B9.cons (fun r=>bv r) hk (fun e=>?_) (fun hk e=>?_)
 ·exact B9.of (A2 (⟨0,0⟩:Spn) x0 _ rfl) rfl fn0
 refine B9.cons (fun r=>bv r) hk (fun e=>?_) (fun hk e=>?_)
 ·exact B9.of (A2 (⟨0,0⟩:Spn) x0 _ rfl) rfl fn0
 refine B9.cons (fun r=>bv r) hk (fun e=>?_) (fun hk e=>?_)
 ·exact B9.of (A2 (⟨0,0⟩:Spn) x0 _ rfl) rfl fn0
 refine B9.cons (fun r=>bv r) hk (fun e=>?_) (fun hk e=>?_)
 ·exact B9.of (A2 (⟨1,9999⟩:Spn) x0 _ rfl) rfl fn0
 refine B9.cons (fun r=>bv r) hk (fun e=>?_) (fun hk e=>?_)
 ·exact B9.of (A2 (⟨1,9999⟩:Spn) x0 _ rfl) rfl fn0
 refine B9.cons (fun r=>bv r) hk (fun e=>?_) (fun hk e=>?_)
 ·exact B9.of (A2 (⟨0,0⟩:Spn) x0 _ rfl) rfl fn0
 refine B9.cons (fun r=>bv r) hk (fun e=>?_) (fun hk e=>?_)
 ·exact B9.of (A2 (⟨0,0⟩:Spn) x0 _ rfl) rfl fn0
 refine B9.cons (fun r=>bv r) hk (fun e=>?_) (fun hk e=>?_)
 ·exact B9.of (A2 (⟨0,0⟩:Spn) x0 _ rfl) rfl fn0
 refine B9.cons (fun r=>bv r) hk (fun e=>?_) (fun hk e=>?_)
 ·exact B9.of (A2 (⟨0,0⟩:Spn) x0 _ rfl) rfl fn0
 refine B9.cons (fun r=>bv r) hk (fun e=>?_) (fun hk e=>?_)
 ·exact B9.of (A2 (⟨0,0⟩:Spn) x0 _ rfl) rfl fn0
 refine B9.cons (fun r=>bv r) hk (fun e=>?_) (fun hk e=>?_)
 ·exact B9.of (A2 (⟨0,0⟩:Spn) x0 _ rfl) rfl fn0
 refine B9.cons (fun r=>bv r) hk (fun e=>?_) (fun hk e=>?_)
 ·exact B9.of (A2 (⟨0,0⟩:Spn) x0 _ rfl) rfl fn0
 refine B9.cons (fun r=>bv r) hk (fun e=>?_) (fun hk e=>?_)
 ·exact B9.of (A2 (⟨0,0⟩:Spn) x0 _ rfl) rfl fn0
 refine B9.cons (fun r=>bv r) hk (fun e=>?_) (fun hk e=>?_)
 ·exact B9.of (A2 (⟨0,0⟩:Spn) x0 _ rfl) rfl fn0
 refine B9.cons (fun r=>bv r) hk (fun e=>?_) (fun hk e=>?_)
 ·exact B9.of (A2 (⟨0,0⟩:Spn) x0 _ rfl) rfl fn0
 refine B9.cons (fun r=>bv r) hk (fun e=>?_) (fun hk e=>?_)
 ·exact B9.of (A2 (⟨0,1⟩:Spn) x0 _ rfl) rfl fn0
 refine B9.cons (fun r=>bv r) hk (fun e=>?_) (fun hk e=>?_)
 ·exact B9.of (A2 (⟨0,1⟩:Spn) x0 _ rfl) rfl fn0
 refine B9.cons (fun r=>bv r) hk (fun e=>?_) (fun hk e=>?_)
 ·exact B9.of (A2 (⟨0,1⟩:Spn) x0 _ rfl) rfl fn0
 exact B9.nil hk
theorem B5c {a:Act} {k:Int} (h:a.kind=k):a=⟨k,a.n,a.m,a.color,a.text⟩:=by subst h;rfl
def O9 (a:Act):Int :=
 (bif (decide (a.kind=1)) then (bif ((decide ((A8a a.n)<0))||(!(decide ((⟨1,a.n,a.m,a.color,a.text⟩:Act)=(A3e a.kind a.n 0))))) then 200 else 0) else (bif (decide (a.kind=39)) then (bif (!decide ((I6 (⟨39,a.n,a.m,a.color,a.text⟩:Act))=0)) then 200 else 0) else (bif (decide (a.kind=44)) then (bif (decide (a.kind=44)) then (B5 (A0x a.n a.m a.color a.text) fun (y0:List UInt8×Int)=>(bif (!decide (y0.2=0)) then 200 else 0)) else (bif (((((!(H6 a.kind C0))||(!(D9 a.kind a.n)))||(!(F6 a.kind a.m)))||(!(decide (a.color=Col.zero))))||(!(decide (a.text=([]:List UInt8))))) then 200 else 0)) else (bif (decide (a.kind=45)) then (bif (decide (a.kind=45)) then (B5 (Y5 a.n a.m a.color a.text) fun (y2:List UInt8×Int)=>(bif (!decide (y2.2=0)) then 200 else 0)) else (bif (((((!(H6 a.kind C0))||(!(D9 a.kind a.n)))||(!(F6 a.kind a.m)))||(!(decide (a.color=Col.zero))))||(!(decide (a.text=([]:List UInt8))))) then 200 else 0)) else (bif (decide (a.kind=46)) then (B5 (Y7 a.n a.m a.color a.text) fun (y1:List UInt8×Int)=>(bif (!decide (y1.2=0)) then 200 else 0)) else (bif (((((!(H6 a.kind C0))||(!(D9 a.kind a.n)))||(!(F6 a.kind a.m)))||(!(decide (a.color=Col.zero))))||(!(decide (a.text=([]:List UInt8))))) then 200 else 0))))))
set_option maxHeartbeats 2000000 in
theorem C4e (a:Act) (hs:a.text.length≤100000000) (R:Int) (hR:O9 a=R):K5 Tryz.prog 38 [ag (A5 a)] [B6s,B6r,Q3,P0,M3] (iv R):=by
 refine zco Tryz.func38 [(0,ag (A5 a))] fun X hX hr hD=>?_
 replace hR:=(O9.eq_1 ..).symm.trans hR
 refine sr 2 rfl (P1 2 0 [] (fun b1=>[(1,pt b1 0)]) (fun b1=>[bx b1 (A5 a) 26]) (fun b1=>(ie (sr 1 rfl (ip' 1 0 [(3,iv 0)] (ie (A7 (sr 2 rfl (zrl 2 0 [0] [(7,iv a.kind)] (ie (B2 (sr 2 rfl (ip' 2 0 [(44,bv (decide (a.kind=1)))] (ie ?_))))))))))))))
 refine zjd rfl hR ?_ ?_<;>clear hR<;>intro hR h2 h2p
 ·refine sd 13 rfl (by kernel_rfl) rfl ?_
  refine zdg 2 11 [0] [(47,iv a.n)] ?_
  refine zcd (D4p a.n _ rfl) (A0.pick [0,1] rfl) ?_
  refine dp' 2 8 [(50,bv (decide ((A8a a.n)<0)))] ?_
  refine zdr 8 0 50 58 (!(decide ((⟨1,a.n,a.m,a.color,a.text⟩:Act)=(A3e a.kind a.n 0)))) (fun g3 g3p=>?_) ?_
  ·refine dd rfl (by exact I5 (K9 (us:=A5 a) B4z rfl rfl 0 rfl rfl rfl) (congrArg (fun z=>ag (A5 z)) (B5c h2p))) ?_
   refine zdg 4 3 [0,0] [(53,iv a.kind),(55,iv a.n)] ?_
   refine zcd (D0v a.kind a.n 0 _ rfl) fn0 ?_
   refine dd rfl (A3h (a:=(⟨1,a.n,a.m,a.color,a.text⟩:Act)) (b:=(A3e a.kind a.n 0)) D9a rfl rfl rfl) (dp' 1 0 [(58,bv (!(decide ((⟨1,a.n,a.m,a.color,a.text⟩:Act)=(A3e a.kind a.n 0)))))] ?_)
   exact zad 7 50 58 g3
  refine de ?_
  refine zjb rfl hR ?_ ?_<;>clear hR<;>intro hR h4
  ·have h4p:((A8a a.n)<0)∨(¬ (⟨1,a.n,a.m,a.color,a.text⟩:Act)=(A3e a.kind a.n 0)):=by simpa using h4
   refine A3 1 rfl (ip' 1 0 [(3,iv 200)] (A6 (nx (A7 (sr 2 rfl (ip' 2 0 [(73,bv true)] (ie (N5 rfl (sr 1 rfl (ip' 1 0 [(2,iv 200)] ?_))))))))))
   subst hR
   refine ie (B0 ?_)
   exact F8 hr hD
  have h4p:¬ (((A8a a.n)<0)∨(¬ (⟨1,a.n,a.m,a.color,a.text⟩:Act)=(A3e a.kind a.n 0))):=by simpa using h4
  refine A9 (nx (A7 (sr 2 rfl (ip' 2 0 [(73,bv false)] (ie (A7y rfl (A9 (nx (sr 1 rfl (ip' 1 0 [(2,iv 0)] ?_))))))))))
  subst hR
  refine ie (B0 ?_)
  exact F8 hr hD
 refine sr 2 rfl (ip' 2 0 [(59,bv (decide (a.kind=39)))] (ie ?_))
 refine zjd rfl hR ?_ ?_<;>clear hR<;>intro hR h5 h5p
 ·refine A3 3 rfl (ix rfl (by exact I5 (K9 (us:=A5 a) B4z rfl rfl 0 rfl rfl rfl) (congrArg (fun z=>ag (A5 z)) (B5c h5p))) (zca (B2d (⟨39,a.n,a.m,a.color,a.text⟩:Act) _ rfl) fn0 (ip' 1 0 [(3,iv (I6 (⟨39,a.n,a.m,a.color,a.text⟩:Act)))] (A6 (nx (A7 (sr 2 rfl (ip' 2 0 [(73,bv (!decide ((I6 (⟨39,a.n,a.m,a.color,a.text⟩:Act))=0)))] (ie ?_)))))))))
  refine zjn rfl hR ?_ ?_<;>clear hR<;>intro hR h6 h6p
  ·refine sr 1 rfl (ip' 1 0 [(2,iv 200)] ?_)
   subst hR
   refine ie (B0 ?_)
   exact F8 hr hD
  refine A9 (nx (sr 1 rfl (ip' 1 0 [(2,iv 0)] ?_)))
  subst hR
  refine ie (B0 ?_)
  exact F8 hr hD
 refine A7 (sr 2 rfl (ip' 2 0 [(63,bv (decide (a.kind=44)))] ?_))
 refine ie ?_
 refine zjd rfl hR ?_ ?_<;>clear hR<;>intro hR h7 h7p
 ·refine A9 (nx ?_)
  refine zjd rfl hR ?_ ?_<;>clear hR<;>intro hR h8 h8p
  ·refine A3 6 rfl (ix rfl (by exact I5 (K9 (us:=A5 a) B4z rfl rfl 0 rfl rfl rfl) (congrArg (fun z=>ag (A5 z)) (B5c h8p))) ?_)
   have hQ:=C9 hR;clear hR;obtain ⟨y0,hy0,hR⟩:=hQ
   refine zca (C2d a.n a.m a.color a.text (by first|omega|(simp<;>omega)) y0 hy0) fn0 ?_
   have:=B1x a.n a.m a.color a.text;try rw [hy0] at this
   refine ip' 4 0 [(3,iv y0.2)] (A6 (nx (A7 (sr 2 rfl (ip' 2 0 [(73,bv (!decide (y0.2=0)))] (ie ?_))))))
   refine zjn rfl hR ?_ ?_<;>clear hR<;>intro hR h9 h9p
   ·refine sr 1 rfl (ip' 1 0 [(2,iv 200)] ?_)
    subst hR
    refine ie (B0 ?_)
    exact F8 hr hD
   refine A9 (nx (sr 1 rfl (ip' 1 0 [(2,iv 0)] ?_)))
   subst hR
   refine ie (B0 ?_)
   exact F8 hr hD
  refine sh 10 [(10,[bx b1 (A5 a) 26])] [B6s,B6r,Q3,P0,M3] [bx b1 (A5 a) 26] (zml 10 0) (by kernel_rfl) rfl (by kernel_rfl) (by kernel_rfl) (by kernel_rfl) (mk [true] rfl) A0.refl ?_
  refine zhp [1] 9 (zml 10 2) [(10,pt b1 0)] ?_
  refine zhl 2 [bx b1 (A5 a) 26] (zml 10 6) rfl (B4 (v:=iv a.kind) ty3 rfl rfl 0 rfl rfl) ?_
  refine B1j 0 7 (by kernel_rfl) ?_ ?_
  ·refine B6o 0 [bx b1 (A5 a) 26] (zml 10 7) rfl rfl rfl (by kernel_rfl) (by kernel_rfl) (by kernel_rfl) (C2 (L2:=[bx b1 (A5 a) 26]) (A0j _ rfl) rfl rfl rfl rfl rfl fn0 (List.Perm.refl _) (fun b10=>[(b10,.map (A8 C9s 0).toArray 41),bx b1 (A5 a) 26]) (fun _=>rfl)) (fun b10=>(mk [false,true] rfl)) (fun b10=>A0.refl) fun b10=>?_
   refine B1j 3 7 (by kernel_rfl) ?_ ?_
   ·refine B6o 3 [bx b1 (A5 a) 26] (zml 10 15) rfl rfl rfl (by kernel_rfl) (by kernel_rfl) (by kernel_rfl) (Det.tri (J0.det (by exact I5 (U0 B4c K4 rfl rfl rfl 0 rfl (by kernel_rfl) (by kernel_rfl)) (A2s a.kind)))) (fun _=>(mk [false,true] rfl)) (fun _=>A0.refl) fun _=>?_
    refine zhp [4,5,6] 3 (zml 10 127) [(13,ag [(lkV a.kind .nilFunc C0),(lkV a.kind .nilFunc K1)]),(14,bv (H6 a.kind C0))] ?_
    refine zho 7 [bx b1 (A5 a) 26] (zml 10 255) rfl (A0n (cs:=[.nilFunc,.nilFunc]) A9n rfl) (fun b11=>(mk [false,false,true] rfl)) (fun b11=>A0.refl) fun b11=>?_
    refine zho 8 [bx b1 (A5 a) 26] (zml 10 511) rfl (W0 (us:=[(lkV a.kind .nilFunc C0),(lkV a.kind .nilFunc K1)]) (cs':=[(lkV a.kind .nilFunc C0),(lkV a.kind .nilFunc K1)]) B9w rfl rfl rfl 0 rfl rfl rfl (by simp only [List.all_cons,List.all_nil,Bool.and_true,Bool.and_eq_true];exact ⟨S8 rfl rfl,S8 rfl rfl⟩) rfl rfl) (fun _=>(mk [false,false,true] rfl)) (fun _=>A0.refl) fun _=>?_
    refine zhp [9] 0 (zml 10 1023) [(5,bv (H6 a.kind C0))] ?_
    refine A8j (by kernel_rfl) ?_
    refine sr 29 rfl (ip' 3 26 [(17,bv (!(H6 a.kind C0)))] ?_)
    refine zio 7 19 17 24 (!(D9 a.kind a.n)) (fun g12=>?_) ?_
    ·refine ip' 1 6 [(18,pt b11 0)] (ix rfl (B4 (v:=(lkV a.kind .nilFunc C0)) A4y rfl rfl 0 rfl rfl) (ip' 1 4 [(20,pt b1 1)] (ix rfl (B4 (v:=iv a.n) ty3 rfl rfl 2 rfl rfl) (ixc rfl (O6 (A1g a.kind a.n (by first|assumption|(have hh:H6 a.kind C0=true:=(by first|assumption|simp_all);exact hh)) _ rfl) rfl rfl rfl rfl fn0) (ip' 2 0 [(24,bv (!(D9 a.kind a.n)))] ?_)))))
     exact zai 7 17 24 g12
    refine ip' 1 18 [(25,bv ((!(H6 a.kind C0))||(!(D9 a.kind a.n))))] ?_
    refine zio 7 11 25 32 (!(F6 a.kind a.m)) (fun g13=>?_) ?_
    ·have g13p:=g13;try simp at g13p
     refine ip' 1 6 [(26,pt b11 1)] (ix rfl (B4 (v:=(lkV a.kind .nilFunc K1)) A4y rfl rfl 0 rfl rfl) (ip' 1 4 [(28,pt b1 2)] (ix rfl (B4 (v:=iv a.m) ty3 rfl rfl 2 rfl rfl) (ixc rfl (O6 (A1i a.kind a.m (by first|assumption|(have hh:H6 a.kind C0=true:=(by first|assumption|simp_all);exact hh)) _ rfl) rfl rfl rfl rfl fn0) (ip' 2 0 [(32,bv (!(F6 a.kind a.m)))] ?_)))))
     exact zai 7 25 32 g13
    refine ip' 1 10 [(33,bv (((!(H6 a.kind C0))||(!(D9 a.kind a.n)))||(!(F6 a.kind a.m))))] ?_
    refine zio 5 5 33 38 (!(decide (a.color=Col.zero))) (fun g14=>?_) ?_
    ·have g14p:=g14;try simp at g14p
     refine ip' 1 4 [(34,pt b1 3)] (ix rfl (K9 (us:=R8 a.color) B4g rfl rfl 2 rfl rfl rfl) (zrl 1 2 [] [(36,ag (R8 Col.zero))] (ix rfl (A3h (a:=a.color) (b:=Col.zero) B2w rfl rfl rfl) (ip' 1 0 [(38,bv (!(decide (a.color=Col.zero))))] ?_))))
     exact zai 6 33 38 g14
    refine ip' 1 4 [(39,bv ((((!(H6 a.kind C0))||(!(D9 a.kind a.n)))||(!(F6 a.kind a.m)))||(!(decide (a.color=Col.zero)))))] ?_
    refine zio 4 0 39 43 (!(decide (a.text=([]:List UInt8)))) (fun g15=>?_) ?_
    ·have g15p:=g15;try simp at g15p
     refine ip' 1 3 [(40,pt b1 5)] (ix rfl (B4 (v:=sv a.text) ty9 rfl rfl 2 rfl rfl) (ix rfl (A2f rfl rfl rfl) (ip' 1 0 [(43,bv (!(decide (a.text=([]:List UInt8)))))] ?_)))
     exact zai 5 39 43 g15
    refine ie ?_
    refine zjb rfl hR ?_ ?_<;>clear hR<;>intro hR h16
    ·have h16p:=h16;try simp at h16p
     refine A3 1 rfl (ip' 1 0 [(3,iv 200)] (A6 (nx (A7 (sr 2 rfl (ip' 2 0 [(73,bv true)] (ie (N5 rfl (sr 1 rfl (ip' 1 0 [(2,iv 200)] ?_))))))))))
     subst hR
     refine ie (B0 ?_)
     exact F8 hr hD
    have h16p:=h16;try simp at h16p
    refine A9 (nx (A7 (sr 2 rfl (ip' 2 0 [(73,bv false)] (ie (A7y rfl (A9 (nx (sr 1 rfl (ip' 1 0 [(2,iv 0)] ?_))))))))))
    subst hR
    refine ie (B0 ?_)
    exact F8 hr hD
   ·refine B6o 7 [bx b1 (A5 a) 26] (zml 10 135) rfl rfl rfl (by kernel_rfl) (by kernel_rfl) (by kernel_rfl) (A0n (cs:=[.nilFunc,.nilFunc]) A9n rfl) (fun b17=>(mk [false,false,true] rfl)) (fun b17=>A0.refl) fun b17=>?_
    refine zho 3 [bx b1 (A5 a) 26] (zml 10 143) rfl (Det.tri (J0.det (by exact I5 (U0 B4c K4 rfl rfl rfl 1 rfl (by kernel_rfl) (by kernel_rfl)) (A2s a.kind)))) (fun _=>(mk [false,false,true] rfl)) (fun _=>A0.refl) fun _=>?_
    refine zhp [4,5,6] 2 (zml 10 255) [(13,ag [(lkV a.kind .nilFunc C0),(lkV a.kind .nilFunc K1)]),(14,bv (H6 a.kind C0))] ?_
    refine zho 8 [bx b1 (A5 a) 26] (zml 10 511) rfl (W0 (us:=[(lkV a.kind .nilFunc C0),(lkV a.kind .nilFunc K1)]) (cs':=[(lkV a.kind .nilFunc C0),(lkV a.kind .nilFunc K1)]) B9w rfl rfl rfl 0 rfl rfl rfl (by simp only [List.all_cons,List.all_nil,Bool.and_true,Bool.and_eq_true];exact ⟨S8 rfl rfl,S8 rfl rfl⟩) rfl rfl) (fun _=>(mk [false,false,true] rfl)) (fun _=>A0.refl) fun _=>?_
    refine zhp [9] 0 (zml 10 1023) [(5,bv (H6 a.kind C0))] ?_
    refine A8j (by kernel_rfl) ?_
    refine sr 29 rfl (ip' 3 26 [(17,bv (!(H6 a.kind C0)))] ?_)
    refine zio 7 19 17 24 (!(D9 a.kind a.n)) (fun g18=>?_) ?_
    ·refine ip' 1 6 [(18,pt b17 0)] (ix rfl (B4 (v:=(lkV a.kind .nilFunc C0)) A4y rfl rfl 0 rfl rfl) (ip' 1 4 [(20,pt b1 1)] (ix rfl (B4 (v:=iv a.n) ty3 rfl rfl 2 rfl rfl) (ixc rfl (O6 (A1g a.kind a.n (by first|assumption|(have hh:H6 a.kind C0=true:=(by first|assumption|simp_all);exact hh)) _ rfl) rfl rfl rfl rfl fn0) (ip' 2 0 [(24,bv (!(D9 a.kind a.n)))] ?_)))))
     exact zai 7 17 24 g18
    refine ip' 1 18 [(25,bv ((!(H6 a.kind C0))||(!(D9 a.kind a.n))))] ?_
    refine zio 7 11 25 32 (!(F6 a.kind a.m)) (fun g19=>?_) ?_
    ·have g19p:=g19;try simp at g19p
     refine ip' 1 6 [(26,pt b17 1)] (ix rfl (B4 (v:=(lkV a.kind .nilFunc K1)) A4y rfl rfl 0 rfl rfl) (ip' 1 4 [(28,pt b1 2)] (ix rfl (B4 (v:=iv a.m) ty3 rfl rfl 2 rfl rfl) (ixc rfl (O6 (A1i a.kind a.m (by first|assumption|(have hh:H6 a.kind C0=true:=(by first|assumption|simp_all);exact hh)) _ rfl) rfl rfl rfl rfl fn0) (ip' 2 0 [(32,bv (!(F6 a.kind a.m)))] ?_)))))
     exact zai 7 25 32 g19
    refine ip' 1 10 [(33,bv (((!(H6 a.kind C0))||(!(D9 a.kind a.n)))||(!(F6 a.kind a.m))))] ?_
    refine zio 5 5 33 38 (!(decide (a.color=Col.zero))) (fun g20=>?_) ?_
    ·have g20p:=g20;try simp at g20p
     refine ip' 1 4 [(34,pt b1 3)] (ix rfl (K9 (us:=R8 a.color) B4g rfl rfl 2 rfl rfl rfl) (zrl 1 2 [] [(36,ag (R8 Col.zero))] (ix rfl (A3h (a:=a.color) (b:=Col.zero) B2w rfl rfl rfl) (ip' 1 0 [(38,bv (!(decide (a.color=Col.zero))))] ?_))))
     exact zai 6 33 38 g20
    refine ip' 1 4 [(39,bv ((((!(H6 a.kind C0))||(!(D9 a.kind a.n)))||(!(F6 a.kind a.m)))||(!(decide (a.color=Col.zero)))))] ?_
    refine zio 4 0 39 43 (!(decide (a.text=([]:List UInt8)))) (fun g21=>?_) ?_
    ·have g21p:=g21;try simp at g21p
     refine ip' 1 3 [(40,pt b1 5)] (ix rfl (B4 (v:=sv a.text) ty9 rfl rfl 2 rfl rfl) (ix rfl (A2f rfl rfl rfl) (ip' 1 0 [(43,bv (!(decide (a.text=([]:List UInt8)))))] ?_)))
     exact zai 5 39 43 g21
    refine ie ?_
    refine zjb rfl hR ?_ ?_<;>clear hR<;>intro hR h22
    ·have h22p:=h22;try simp at h22p
     refine A3 1 rfl (ip' 1 0 [(3,iv 200)] (A6 (nx (A7 (sr 2 rfl (ip' 2 0 [(73,bv true)] (ie (N5 rfl (sr 1 rfl (ip' 1 0 [(2,iv 200)] ?_))))))))))
     subst hR
     refine ie (B0 ?_)
     exact F8 hr hD
    have h22p:=h22;try simp at h22p
    refine A9 (nx (A7 (sr 2 rfl (ip' 2 0 [(73,bv false)] (ie (A7y rfl (A9 (nx (sr 1 rfl (ip' 1 0 [(2,iv 0)] ?_))))))))))
    subst hR
    refine ie (B0 ?_)
    exact F8 hr hD
  ·refine B6o 7 [bx b1 (A5 a) 26] (zml 10 134) rfl rfl rfl (by kernel_rfl) (by kernel_rfl) (by kernel_rfl) (A0n (cs:=[.nilFunc,.nilFunc]) A9n rfl) (fun b23=>(mk [false,true] rfl)) (fun b23=>A0.refl) fun b23=>?_
   refine zho 0 [bx b1 (A5 a) 26] (zml 10 135) rfl (C2 (L2:=[bx b23 [.nilFunc,.nilFunc] 134,bx b1 (A5 a) 26]) (A0j _ rfl) rfl rfl rfl rfl rfl fn0 (List.Perm.refl _) (fun b24=>[(b24,.map (A8 C9s 0).toArray 41),bx b23 [.nilFunc,.nilFunc] 134,bx b1 (A5 a) 26]) (fun _=>rfl)) (fun b24=>(mk [false,false,true] rfl)) (fun b24=>A0.refl) fun b24=>?_
   refine zho 3 [bx b1 (A5 a) 26] (zml 10 143) rfl (Det.tri (J0.det (by exact I5 (U0 B4c K4 rfl rfl rfl 0 rfl (by kernel_rfl) (by kernel_rfl)) (A2s a.kind)))) (fun _=>(mk [false,false,true] rfl)) (fun _=>A0.refl) fun _=>?_
   refine zhp [4,5,6] 2 (zml 10 255) [(13,ag [(lkV a.kind .nilFunc C0),(lkV a.kind .nilFunc K1)]),(14,bv (H6 a.kind C0))] ?_
   refine zho 8 [bx b1 (A5 a) 26] (zml 10 511) rfl (W0 (us:=[(lkV a.kind .nilFunc C0),(lkV a.kind .nilFunc K1)]) (cs':=[(lkV a.kind .nilFunc C0),(lkV a.kind .nilFunc K1)]) B9w rfl rfl rfl 1 rfl rfl rfl (by simp only [List.all_cons,List.all_nil,Bool.and_true,Bool.and_eq_true];exact ⟨S8 rfl rfl,S8 rfl rfl⟩) rfl rfl) (fun _=>(mk [false,false,true] rfl)) (fun _=>A0.refl) fun _=>?_
   refine zhp [9] 0 (zml 10 1023) [(5,bv (H6 a.kind C0))] ?_
   refine A8j (by kernel_rfl) ?_
   refine sr 29 rfl (ip' 3 26 [(17,bv (!(H6 a.kind C0)))] ?_)
   refine zio 7 19 17 24 (!(D9 a.kind a.n)) (fun g25=>?_) ?_
   ·refine ip' 1 6 [(18,pt b23 0)] (ix rfl (B4 (v:=(lkV a.kind .nilFunc C0)) A4y rfl rfl 1 rfl rfl) (ip' 1 4 [(20,pt b1 1)] (ix rfl (B4 (v:=iv a.n) ty3 rfl rfl 2 rfl rfl) (ixc rfl (O6 (A1g a.kind a.n (by first|assumption|(have hh:H6 a.kind C0=true:=(by first|assumption|simp_all);exact hh)) _ rfl) rfl rfl rfl rfl fn0) (ip' 2 0 [(24,bv (!(D9 a.kind a.n)))] ?_)))))
    exact zai 7 17 24 g25
   refine ip' 1 18 [(25,bv ((!(H6 a.kind C0))||(!(D9 a.kind a.n))))] ?_
   refine zio 7 11 25 32 (!(F6 a.kind a.m)) (fun g26=>?_) ?_
   ·have g26p:=g26;try simp at g26p
    refine ip' 1 6 [(26,pt b23 1)] (ix rfl (B4 (v:=(lkV a.kind .nilFunc K1)) A4y rfl rfl 1 rfl rfl) (ip' 1 4 [(28,pt b1 2)] (ix rfl (B4 (v:=iv a.m) ty3 rfl rfl 2 rfl rfl) (ixc rfl (O6 (A1i a.kind a.m (by first|assumption|(have hh:H6 a.kind C0=true:=(by first|assumption|simp_all);exact hh)) _ rfl) rfl rfl rfl rfl fn0) (ip' 2 0 [(32,bv (!(F6 a.kind a.m)))] ?_)))))
    exact zai 7 25 32 g26
   refine ip' 1 10 [(33,bv (((!(H6 a.kind C0))||(!(D9 a.kind a.n)))||(!(F6 a.kind a.m))))] ?_
   refine zio 5 5 33 38 (!(decide (a.color=Col.zero))) (fun g27=>?_) ?_
   ·have g27p:=g27;try simp at g27p
    refine ip' 1 4 [(34,pt b1 3)] (ix rfl (K9 (us:=R8 a.color) B4g rfl rfl 2 rfl rfl rfl) (zrl 1 2 [] [(36,ag (R8 Col.zero))] (ix rfl (A3h (a:=a.color) (b:=Col.zero) B2w rfl rfl rfl) (ip' 1 0 [(38,bv (!(decide (a.color=Col.zero))))] ?_))))
    exact zai 6 33 38 g27
   refine ip' 1 4 [(39,bv ((((!(H6 a.kind C0))||(!(D9 a.kind a.n)))||(!(F6 a.kind a.m)))||(!(decide (a.color=Col.zero)))))] ?_
   refine zio 4 0 39 43 (!(decide (a.text=([]:List UInt8)))) (fun g28=>?_) ?_
   ·have g28p:=g28;try simp at g28p
    refine ip' 1 3 [(40,pt b1 5)] (ix rfl (B4 (v:=sv a.text) ty9 rfl rfl 2 rfl rfl) (ix rfl (A2f rfl rfl rfl) (ip' 1 0 [(43,bv (!(decide (a.text=([]:List UInt8)))))] ?_)))
    exact zai 5 39 43 g28
   refine ie ?_
   refine zjb rfl hR ?_ ?_<;>clear hR<;>intro hR h29
   ·have h29p:=h29;try simp at h29p
    refine A3 1 rfl (ip' 1 0 [(3,iv 200)] (A6 (nx (A7 (sr 2 rfl (ip' 2 0 [(73,bv true)] (ie (N5 rfl (sr 1 rfl (ip' 1 0 [(2,iv 200)] ?_))))))))))
    subst hR
    refine ie (B0 ?_)
    exact F8 hr hD
   have h29p:=h29;try simp at h29p
   refine A9 (nx (A7 (sr 2 rfl (ip' 2 0 [(73,bv false)] (ie (A7y rfl (A9 (nx (sr 1 rfl (ip' 1 0 [(2,iv 0)] ?_))))))))))
   subst hR
   refine ie (B0 ?_)
   exact F8 hr hD
 refine sr 2 rfl (ip' 2 0 [(63,bv (decide (a.kind=45)))] (ie ?_))
 refine zjd rfl hR ?_ ?_<;>clear hR<;>intro hR h30 h30p
 ·refine A9 (nx ?_)
  refine zjd rfl hR ?_ ?_<;>clear hR<;>intro hR h31 h31p
  ·refine A3 6 rfl (ix rfl (by exact I5 (K9 (us:=A5 a) B4z rfl rfl 0 rfl rfl rfl) (congrArg (fun z=>ag (A5 z)) (B5c h31p))) ?_)
   have hQ:=C9 hR;clear hR;obtain ⟨y2,hy2,hR⟩:=hQ
   refine zca (B9i a.n a.m a.color a.text (by first|omega|(simp<;>omega)) y2 hy2) (A0.pick [2,3,4] rfl) ?_
   have:=A9u a.n a.m a.color a.text;try rw [hy2] at this
   refine ip' 4 0 [(3,iv y2.2)] (A6 (nx (A7 (sr 2 rfl (ip' 2 0 [(73,bv (!decide (y2.2=0)))] (ie ?_))))))
   refine zjn rfl hR ?_ ?_<;>clear hR<;>intro hR h32 h32p
   ·refine sr 1 rfl (ip' 1 0 [(2,iv 200)] ?_)
    subst hR
    refine ie (B0 ?_)
    exact F8 hr hD
   refine A9 (nx (sr 1 rfl (ip' 1 0 [(2,iv 0)] ?_)))
   subst hR
   refine ie (B0 ?_)
   exact F8 hr hD
  refine sh 10 [(10,[bx b1 (A5 a) 26])] [B6s,B6r,Q3,P0,M3] [bx b1 (A5 a) 26] (zml 10 0) (by kernel_rfl) rfl (by kernel_rfl) (by kernel_rfl) (by kernel_rfl) (mk [true] rfl) A0.refl ?_
  refine zhp [1] 9 (zml 10 2) [(10,pt b1 0)] ?_
  refine zhl 2 [bx b1 (A5 a) 26] (zml 10 6) rfl (B4 (v:=iv a.kind) ty3 rfl rfl 0 rfl rfl) ?_
  refine B1j 0 7 (by kernel_rfl) ?_ ?_
  ·refine B6o 0 [bx b1 (A5 a) 26] (zml 10 7) rfl rfl rfl (by kernel_rfl) (by kernel_rfl) (by kernel_rfl) (C2 (L2:=[bx b1 (A5 a) 26]) (A0j _ rfl) rfl rfl rfl rfl rfl fn0 (List.Perm.refl _) (fun b33=>[(b33,.map (A8 C9s 0).toArray 41),bx b1 (A5 a) 26]) (fun _=>rfl)) (fun b33=>(mk [false,true] rfl)) (fun b33=>A0.refl) fun b33=>?_
   refine B1j 3 7 (by kernel_rfl) ?_ ?_
   ·refine B6o 3 [bx b1 (A5 a) 26] (zml 10 15) rfl rfl rfl (by kernel_rfl) (by kernel_rfl) (by kernel_rfl) (Det.tri (J0.det (by exact I5 (U0 B4c K4 rfl rfl rfl 0 rfl (by kernel_rfl) (by kernel_rfl)) (A2s a.kind)))) (fun _=>(mk [false,true] rfl)) (fun _=>A0.refl) fun _=>?_
    refine zhp [4,5,6] 3 (zml 10 127) [(13,ag [(lkV a.kind .nilFunc C0),(lkV a.kind .nilFunc K1)]),(14,bv (H6 a.kind C0))] ?_
    refine zho 7 [bx b1 (A5 a) 26] (zml 10 255) rfl (A0n (cs:=[.nilFunc,.nilFunc]) A9n rfl) (fun b34=>(mk [false,false,true] rfl)) (fun b34=>A0.refl) fun b34=>?_
    refine zho 8 [bx b1 (A5 a) 26] (zml 10 511) rfl (W0 (us:=[(lkV a.kind .nilFunc C0),(lkV a.kind .nilFunc K1)]) (cs':=[(lkV a.kind .nilFunc C0),(lkV a.kind .nilFunc K1)]) B9w rfl rfl rfl 0 rfl rfl rfl (by simp only [List.all_cons,List.all_nil,Bool.and_true,Bool.and_eq_true];exact ⟨S8 rfl rfl,S8 rfl rfl⟩) rfl rfl) (fun _=>(mk [false,false,true] rfl)) (fun _=>A0.refl) fun _=>?_
    refine zhp [9] 0 (zml 10 1023) [(5,bv (H6 a.kind C0))] ?_
    refine A8j (by kernel_rfl) ?_
    refine sr 29 rfl (ip' 3 26 [(17,bv (!(H6 a.kind C0)))] ?_)
    refine zio 7 19 17 24 (!(D9 a.kind a.n)) (fun g35=>?_) ?_
    ·refine ip' 1 6 [(18,pt b34 0)] (ix rfl (B4 (v:=(lkV a.kind .nilFunc C0)) A4y rfl rfl 0 rfl rfl) (ip' 1 4 [(20,pt b1 1)] (ix rfl (B4 (v:=iv a.n) ty3 rfl rfl 2 rfl rfl) (ixc rfl (O6 (A1g a.kind a.n (by first|assumption|(have hh:H6 a.kind C0=true:=(by first|assumption|simp_all);exact hh)) _ rfl) rfl rfl rfl rfl fn0) (ip' 2 0 [(24,bv (!(D9 a.kind a.n)))] ?_)))))
     exact zai 7 17 24 g35
    refine ip' 1 18 [(25,bv ((!(H6 a.kind C0))||(!(D9 a.kind a.n))))] ?_
    refine zio 7 11 25 32 (!(F6 a.kind a.m)) (fun g36=>?_) ?_
    ·have g36p:=g36;try simp at g36p
     refine ip' 1 6 [(26,pt b34 1)] (ix rfl (B4 (v:=(lkV a.kind .nilFunc K1)) A4y rfl rfl 0 rfl rfl) (ip' 1 4 [(28,pt b1 2)] (ix rfl (B4 (v:=iv a.m) ty3 rfl rfl 2 rfl rfl) (ixc rfl (O6 (A1i a.kind a.m (by first|assumption|(have hh:H6 a.kind C0=true:=(by first|assumption|simp_all);exact hh)) _ rfl) rfl rfl rfl rfl fn0) (ip' 2 0 [(32,bv (!(F6 a.kind a.m)))] ?_)))))
     exact zai 7 25 32 g36
    refine ip' 1 10 [(33,bv (((!(H6 a.kind C0))||(!(D9 a.kind a.n)))||(!(F6 a.kind a.m))))] ?_
    refine zio 5 5 33 38 (!(decide (a.color=Col.zero))) (fun g37=>?_) ?_
    ·have g37p:=g37;try simp at g37p
     refine ip' 1 4 [(34,pt b1 3)] (ix rfl (K9 (us:=R8 a.color) B4g rfl rfl 2 rfl rfl rfl) (zrl 1 2 [] [(36,ag (R8 Col.zero))] (ix rfl (A3h (a:=a.color) (b:=Col.zero) B2w rfl rfl rfl) (ip' 1 0 [(38,bv (!(decide (a.color=Col.zero))))] ?_))))
     exact zai 6 33 38 g37
    refine ip' 1 4 [(39,bv ((((!(H6 a.kind C0))||(!(D9 a.kind a.n)))||(!(F6 a.kind a.m)))||(!(decide (a.color=Col.zero)))))] ?_
    refine zio 4 0 39 43 (!(decide (a.text=([]:List UInt8)))) (fun g38=>?_) ?_
    ·have g38p:=g38;try simp at g38p
     refine ip' 1 3 [(40,pt b1 5)] (ix rfl (B4 (v:=sv a.text) ty9 rfl rfl 2 rfl rfl) (ix rfl (A2f rfl rfl rfl) (ip' 1 0 [(43,bv (!(decide (a.text=([]:List UInt8)))))] ?_)))
     exact zai 5 39 43 g38
    refine ie ?_
    refine zjb rfl hR ?_ ?_<;>clear hR<;>intro hR h39
    ·have h39p:=h39;try simp at h39p
     refine A3 1 rfl (ip' 1 0 [(3,iv 200)] (A6 (nx (A7 (sr 2 rfl (ip' 2 0 [(73,bv true)] (ie (N5 rfl (sr 1 rfl (ip' 1 0 [(2,iv 200)] ?_))))))))))
     subst hR
     refine ie (B0 ?_)
     exact F8 hr hD
    have h39p:=h39;try simp at h39p
    refine A9 (nx (A7 (sr 2 rfl (ip' 2 0 [(73,bv false)] (ie (A7y rfl (A9 (nx (sr 1 rfl (ip' 1 0 [(2,iv 0)] ?_))))))))))
    subst hR
    refine ie (B0 ?_)
    exact F8 hr hD
   ·refine B6o 7 [bx b1 (A5 a) 26] (zml 10 135) rfl rfl rfl (by kernel_rfl) (by kernel_rfl) (by kernel_rfl) (A0n (cs:=[.nilFunc,.nilFunc]) A9n rfl) (fun b40=>(mk [false,false,true] rfl)) (fun b40=>A0.refl) fun b40=>?_
    refine zho 3 [bx b1 (A5 a) 26] (zml 10 143) rfl (Det.tri (J0.det (by exact I5 (U0 B4c K4 rfl rfl rfl 1 rfl (by kernel_rfl) (by kernel_rfl)) (A2s a.kind)))) (fun _=>(mk [false,false,true] rfl)) (fun _=>A0.refl) fun _=>?_
    refine zhp [4,5,6] 2 (zml 10 255) [(13,ag [(lkV a.kind .nilFunc C0),(lkV a.kind .nilFunc K1)]),(14,bv (H6 a.kind C0))] ?_
    refine zho 8 [bx b1 (A5 a) 26] (zml 10 511) rfl (W0 (us:=[(lkV a.kind .nilFunc C0),(lkV a.kind .nilFunc K1)]) (cs':=[(lkV a.kind .nilFunc C0),(lkV a.kind .nilFunc K1)]) B9w rfl rfl rfl 0 rfl rfl rfl (by simp only [List.all_cons,List.all_nil,Bool.and_true,Bool.and_eq_true];exact ⟨S8 rfl rfl,S8 rfl rfl⟩) rfl rfl) (fun _=>(mk [false,false,true] rfl)) (fun _=>A0.refl) fun _=>?_
    refine zhp [9] 0 (zml 10 1023) [(5,bv (H6 a.kind C0))] ?_
    refine A8j (by kernel_rfl) ?_
    refine sr 29 rfl (ip' 3 26 [(17,bv (!(H6 a.kind C0)))] ?_)
    refine zio 7 19 17 24 (!(D9 a.kind a.n)) (fun g41=>?_) ?_
    ·refine ip' 1 6 [(18,pt b40 0)] (ix rfl (B4 (v:=(lkV a.kind .nilFunc C0)) A4y rfl rfl 0 rfl rfl) (ip' 1 4 [(20,pt b1 1)] (ix rfl (B4 (v:=iv a.n) ty3 rfl rfl 2 rfl rfl) (ixc rfl (O6 (A1g a.kind a.n (by first|assumption|(have hh:H6 a.kind C0=true:=(by first|assumption|simp_all);exact hh)) _ rfl) rfl rfl rfl rfl fn0) (ip' 2 0 [(24,bv (!(D9 a.kind a.n)))] ?_)))))
     exact zai 7 17 24 g41
    refine ip' 1 18 [(25,bv ((!(H6 a.kind C0))||(!(D9 a.kind a.n))))] ?_
    refine zio 7 11 25 32 (!(F6 a.kind a.m)) (fun g42=>?_) ?_
    ·have g42p:=g42;try simp at g42p
     refine ip' 1 6 [(26,pt b40 1)] (ix rfl (B4 (v:=(lkV a.kind .nilFunc K1)) A4y rfl rfl 0 rfl rfl) (ip' 1 4 [(28,pt b1 2)] (ix rfl (B4 (v:=iv a.m) ty3 rfl rfl 2 rfl rfl) (ixc rfl (O6 (A1i a.kind a.m (by first|assumption|(have hh:H6 a.kind C0=true:=(by first|assumption|simp_all);exact hh)) _ rfl) rfl rfl rfl rfl fn0) (ip' 2 0 [(32,bv (!(F6 a.kind a.m)))] ?_)))))
     exact zai 7 25 32 g42
    refine ip' 1 10 [(33,bv (((!(H6 a.kind C0))||(!(D9 a.kind a.n)))||(!(F6 a.kind a.m))))] ?_
    refine zio 5 5 33 38 (!(decide (a.color=Col.zero))) (fun g43=>?_) ?_
    ·have g43p:=g43;try simp at g43p
     refine ip' 1 4 [(34,pt b1 3)] (ix rfl (K9 (us:=R8 a.color) B4g rfl rfl 2 rfl rfl rfl) (zrl 1 2 [] [(36,ag (R8 Col.zero))] (ix rfl (A3h (a:=a.color) (b:=Col.zero) B2w rfl rfl rfl) (ip' 1 0 [(38,bv (!(decide (a.color=Col.zero))))] ?_))))
     exact zai 6 33 38 g43
    refine ip' 1 4 [(39,bv ((((!(H6 a.kind C0))||(!(D9 a.kind a.n)))||(!(F6 a.kind a.m)))||(!(decide (a.color=Col.zero)))))] ?_
    refine zio 4 0 39 43 (!(decide (a.text=([]:List UInt8)))) (fun g44=>?_) ?_
    ·have g44p:=g44;try simp at g44p
     refine ip' 1 3 [(40,pt b1 5)] (ix rfl (B4 (v:=sv a.text) ty9 rfl rfl 2 rfl rfl) (ix rfl (A2f rfl rfl rfl) (ip' 1 0 [(43,bv (!(decide (a.text=([]:List UInt8)))))] ?_)))
     exact zai 5 39 43 g44
    refine ie ?_
    refine zjb rfl hR ?_ ?_<;>clear hR<;>intro hR h45
    ·have h45p:=h45;try simp at h45p
     refine A3 1 rfl (ip' 1 0 [(3,iv 200)] (A6 (nx (A7 (sr 2 rfl (ip' 2 0 [(73,bv true)] (ie (N5 rfl (sr 1 rfl (ip' 1 0 [(2,iv 200)] ?_))))))))))
     subst hR
     refine ie (B0 ?_)
     exact F8 hr hD
    have h45p:=h45;try simp at h45p
    refine A9 (nx (A7 (sr 2 rfl (ip' 2 0 [(73,bv false)] (ie (A7y rfl (A9 (nx (sr 1 rfl (ip' 1 0 [(2,iv 0)] ?_))))))))))
    subst hR
    refine ie (B0 ?_)
    exact F8 hr hD
  ·refine B6o 7 [bx b1 (A5 a) 26] (zml 10 134) rfl rfl rfl (by kernel_rfl) (by kernel_rfl) (by kernel_rfl) (A0n (cs:=[.nilFunc,.nilFunc]) A9n rfl) (fun b46=>(mk [false,true] rfl)) (fun b46=>A0.refl) fun b46=>?_
   refine zho 0 [bx b1 (A5 a) 26] (zml 10 135) rfl (C2 (L2:=[bx b46 [.nilFunc,.nilFunc] 134,bx b1 (A5 a) 26]) (A0j _ rfl) rfl rfl rfl rfl rfl fn0 (List.Perm.refl _) (fun b47=>[(b47,.map (A8 C9s 0).toArray 41),bx b46 [.nilFunc,.nilFunc] 134,bx b1 (A5 a) 26]) (fun _=>rfl)) (fun b47=>(mk [false,false,true] rfl)) (fun b47=>A0.refl) fun b47=>?_
   refine zho 3 [bx b1 (A5 a) 26] (zml 10 143) rfl (Det.tri (J0.det (by exact I5 (U0 B4c K4 rfl rfl rfl 0 rfl (by kernel_rfl) (by kernel_rfl)) (A2s a.kind)))) (fun _=>(mk [false,false,true] rfl)) (fun _=>A0.refl) fun _=>?_
   refine zhp [4,5,6] 2 (zml 10 255) [(13,ag [(lkV a.kind .nilFunc C0),(lkV a.kind .nilFunc K1)]),(14,bv (H6 a.kind C0))] ?_
   refine zho 8 [bx b1 (A5 a) 26] (zml 10 511) rfl (W0 (us:=[(lkV a.kind .nilFunc C0),(lkV a.kind .nilFunc K1)]) (cs':=[(lkV a.kind .nilFunc C0),(lkV a.kind .nilFunc K1)]) B9w rfl rfl rfl 1 rfl rfl rfl (by simp only [List.all_cons,List.all_nil,Bool.and_true,Bool.and_eq_true];exact ⟨S8 rfl rfl,S8 rfl rfl⟩) rfl rfl) (fun _=>(mk [false,false,true] rfl)) (fun _=>A0.refl) fun _=>?_
   refine zhp [9] 0 (zml 10 1023) [(5,bv (H6 a.kind C0))] ?_
   refine A8j (by kernel_rfl) ?_
   refine sr 29 rfl (ip' 3 26 [(17,bv (!(H6 a.kind C0)))] ?_)
   refine zio 7 19 17 24 (!(D9 a.kind a.n)) (fun g48=>?_) ?_
   ·refine ip' 1 6 [(18,pt b46 0)] (ix rfl (B4 (v:=(lkV a.kind .nilFunc C0)) A4y rfl rfl 1 rfl rfl) (ip' 1 4 [(20,pt b1 1)] (ix rfl (B4 (v:=iv a.n) ty3 rfl rfl 2 rfl rfl) (ixc rfl (O6 (A1g a.kind a.n (by first|assumption|(have hh:H6 a.kind C0=true:=(by first|assumption|simp_all);exact hh)) _ rfl) rfl rfl rfl rfl fn0) (ip' 2 0 [(24,bv (!(D9 a.kind a.n)))] ?_)))))
    exact zai 7 17 24 g48
   refine ip' 1 18 [(25,bv ((!(H6 a.kind C0))||(!(D9 a.kind a.n))))] ?_
   refine zio 7 11 25 32 (!(F6 a.kind a.m)) (fun g49=>?_) ?_
   ·have g49p:=g49;try simp at g49p
    refine ip' 1 6 [(26,pt b46 1)] (ix rfl (B4 (v:=(lkV a.kind .nilFunc K1)) A4y rfl rfl 1 rfl rfl) (ip' 1 4 [(28,pt b1 2)] (ix rfl (B4 (v:=iv a.m) ty3 rfl rfl 2 rfl rfl) (ixc rfl (O6 (A1i a.kind a.m (by first|assumption|(have hh:H6 a.kind C0=true:=(by first|assumption|simp_all);exact hh)) _ rfl) rfl rfl rfl rfl fn0) (ip' 2 0 [(32,bv (!(F6 a.kind a.m)))] ?_)))))
    exact zai 7 25 32 g49
   refine ip' 1 10 [(33,bv (((!(H6 a.kind C0))||(!(D9 a.kind a.n)))||(!(F6 a.kind a.m))))] ?_
   refine zio 5 5 33 38 (!(decide (a.color=Col.zero))) (fun g50=>?_) ?_
   ·have g50p:=g50;try simp at g50p
    refine ip' 1 4 [(34,pt b1 3)] (ix rfl (K9 (us:=R8 a.color) B4g rfl rfl 2 rfl rfl rfl) (zrl 1 2 [] [(36,ag (R8 Col.zero))] (ix rfl (A3h (a:=a.color) (b:=Col.zero) B2w rfl rfl rfl) (ip' 1 0 [(38,bv (!(decide (a.color=Col.zero))))] ?_))))
    exact zai 6 33 38 g50
   refine ip' 1 4 [(39,bv ((((!(H6 a.kind C0))||(!(D9 a.kind a.n)))||(!(F6 a.kind a.m)))||(!(decide (a.color=Col.zero)))))] ?_
   refine zio 4 0 39 43 (!(decide (a.text=([]:List UInt8)))) (fun g51=>?_) ?_
   ·have g51p:=g51;try simp at g51p
    refine ip' 1 3 [(40,pt b1 5)] (ix rfl (B4 (v:=sv a.text) ty9 rfl rfl 2 rfl rfl) (ix rfl (A2f rfl rfl rfl) (ip' 1 0 [(43,bv (!(decide (a.text=([]:List UInt8)))))] ?_)))
    exact zai 5 39 43 g51
   refine ie ?_
   refine zjb rfl hR ?_ ?_<;>clear hR<;>intro hR h52
   ·have h52p:=h52;try simp at h52p
    refine A3 1 rfl (ip' 1 0 [(3,iv 200)] (A6 (nx (A7 (sr 2 rfl (ip' 2 0 [(73,bv true)] (ie (N5 rfl (sr 1 rfl (ip' 1 0 [(2,iv 200)] ?_))))))))))
    subst hR
    refine ie (B0 ?_)
    exact F8 hr hD
   have h52p:=h52;try simp at h52p
   refine A9 (nx (A7 (sr 2 rfl (ip' 2 0 [(73,bv false)] (ie (A7y rfl (A9 (nx (sr 1 rfl (ip' 1 0 [(2,iv 0)] ?_))))))))))
   subst hR
   refine ie (B0 ?_)
   exact F8 hr hD
 refine A3 2 rfl (ip' 2 0 [(63,bv (decide (a.kind=46)))] (A6 (nx ?_)))
 refine zjd rfl hR ?_ ?_<;>clear hR<;>intro hR h53 h53p
 ·refine A3 6 rfl (ix rfl (by exact I5 (K9 (us:=A5 a) B4z rfl rfl 0 rfl rfl rfl) (congrArg (fun z=>ag (A5 z)) (B5c h53p))) ?_)
  have hQ:=C9 hR;clear hR;obtain ⟨y1,hy1,hR⟩:=hQ
  refine zca (B9k a.n a.m a.color a.text (by first|omega|(simp<;>omega)) y1 hy1) fn0 ?_
  have:=B0g a.n a.m a.color a.text;try rw [hy1] at this
  refine ip' 4 0 [(3,iv y1.2)] (A6 (nx (A7 (sr 2 rfl (ip' 2 0 [(73,bv (!decide (y1.2=0)))] (ie ?_))))))
  refine zjn rfl hR ?_ ?_<;>clear hR<;>intro hR h54 h54p
  ·refine sr 1 rfl (ip' 1 0 [(2,iv 200)] ?_)
   subst hR
   refine ie (B0 ?_)
   exact F8 hr hD
  refine A9 (nx (sr 1 rfl (ip' 1 0 [(2,iv 0)] ?_)))
  subst hR
  refine ie (B0 ?_)
  exact F8 hr hD
 refine sh 10 [(10,[bx b1 (A5 a) 26])] [B6s,B6r,Q3,P0,M3] [bx b1 (A5 a) 26] (zml 10 0) (by kernel_rfl) rfl (by kernel_rfl) (by kernel_rfl) (by kernel_rfl) (mk [true] rfl) A0.refl ?_
 refine zhp [1] 9 (zml 10 2) [(10,pt b1 0)] ?_
 refine zhl 2 [bx b1 (A5 a) 26] (zml 10 6) rfl (B4 (v:=iv a.kind) ty3 rfl rfl 0 rfl rfl) ?_
 refine B1j 0 7 (by kernel_rfl) ?_ ?_
 ·refine B6o 0 [bx b1 (A5 a) 26] (zml 10 7) rfl rfl rfl (by kernel_rfl) (by kernel_rfl) (by kernel_rfl) (C2 (L2:=[bx b1 (A5 a) 26]) (A0j _ rfl) rfl rfl rfl rfl rfl fn0 (List.Perm.refl _) (fun b55=>[(b55,.map (A8 C9s 0).toArray 41),bx b1 (A5 a) 26]) (fun _=>rfl)) (fun b55=>(mk [false,true] rfl)) (fun b55=>A0.refl) fun b55=>?_
  refine B1j 3 7 (by kernel_rfl) ?_ ?_
  ·refine B6o 3 [bx b1 (A5 a) 26] (zml 10 15) rfl rfl rfl (by kernel_rfl) (by kernel_rfl) (by kernel_rfl) (Det.tri (J0.det (by exact I5 (U0 B4c K4 rfl rfl rfl 0 rfl (by kernel_rfl) (by kernel_rfl)) (A2s a.kind)))) (fun _=>(mk [false,true] rfl)) (fun _=>A0.refl) fun _=>?_
   refine zhp [4,5,6] 3 (zml 10 127) [(13,ag [(lkV a.kind .nilFunc C0),(lkV a.kind .nilFunc K1)]),(14,bv (H6 a.kind C0))] ?_
   refine zho 7 [bx b1 (A5 a) 26] (zml 10 255) rfl (A0n (cs:=[.nilFunc,.nilFunc]) A9n rfl) (fun b56=>(mk [false,false,true] rfl)) (fun b56=>A0.refl) fun b56=>?_
   refine zho 8 [bx b1 (A5 a) 26] (zml 10 511) rfl (W0 (us:=[(lkV a.kind .nilFunc C0),(lkV a.kind .nilFunc K1)]) (cs':=[(lkV a.kind .nilFunc C0),(lkV a.kind .nilFunc K1)]) B9w rfl rfl rfl 0 rfl rfl rfl (by simp only [List.all_cons,List.all_nil,Bool.and_true,Bool.and_eq_true];exact ⟨S8 rfl rfl,S8 rfl rfl⟩) rfl rfl) (fun _=>(mk [false,false,true] rfl)) (fun _=>A0.refl) fun _=>?_
   refine zhp [9] 0 (zml 10 1023) [(5,bv (H6 a.kind C0))] ?_
   refine A8j (by kernel_rfl) ?_
   refine sr 29 rfl (ip' 3 26 [(17,bv (!(H6 a.kind C0)))] ?_)
   refine zio 7 19 17 24 (!(D9 a.kind a.n)) (fun g57=>?_) ?_
   ·refine ip' 1 6 [(18,pt b56 0)] (ix rfl (B4 (v:=(lkV a.kind .nilFunc C0)) A4y rfl rfl 0 rfl rfl) (ip' 1 4 [(20,pt b1 1)] (ix rfl (B4 (v:=iv a.n) ty3 rfl rfl 2 rfl rfl) (ixc rfl (O6 (A1g a.kind a.n (by first|assumption|(have hh:H6 a.kind C0=true:=(by first|assumption|simp_all);exact hh)) _ rfl) rfl rfl rfl rfl fn0) (ip' 2 0 [(24,bv (!(D9 a.kind a.n)))] ?_)))))
    exact zai 7 17 24 g57
   refine ip' 1 18 [(25,bv ((!(H6 a.kind C0))||(!(D9 a.kind a.n))))] ?_
   refine zio 7 11 25 32 (!(F6 a.kind a.m)) (fun g58=>?_) ?_
   ·have g58p:=g58;try simp at g58p
    refine ip' 1 6 [(26,pt b56 1)] (ix rfl (B4 (v:=(lkV a.kind .nilFunc K1)) A4y rfl rfl 0 rfl rfl) (ip' 1 4 [(28,pt b1 2)] (ix rfl (B4 (v:=iv a.m) ty3 rfl rfl 2 rfl rfl) (ixc rfl (O6 (A1i a.kind a.m (by first|assumption|(have hh:H6 a.kind C0=true:=(by first|assumption|simp_all);exact hh)) _ rfl) rfl rfl rfl rfl fn0) (ip' 2 0 [(32,bv (!(F6 a.kind a.m)))] ?_)))))
    exact zai 7 25 32 g58
   refine ip' 1 10 [(33,bv (((!(H6 a.kind C0))||(!(D9 a.kind a.n)))||(!(F6 a.kind a.m))))] ?_
   refine zio 5 5 33 38 (!(decide (a.color=Col.zero))) (fun g59=>?_) ?_
   ·have g59p:=g59;try simp at g59p
    refine ip' 1 4 [(34,pt b1 3)] (ix rfl (K9 (us:=R8 a.color) B4g rfl rfl 2 rfl rfl rfl) (zrl 1 2 [] [(36,ag (R8 Col.zero))] (ix rfl (A3h (a:=a.color) (b:=Col.zero) B2w rfl rfl rfl) (ip' 1 0 [(38,bv (!(decide (a.color=Col.zero))))] ?_))))
    exact zai 6 33 38 g59
   refine ip' 1 4 [(39,bv ((((!(H6 a.kind C0))||(!(D9 a.kind a.n)))||(!(F6 a.kind a.m)))||(!(decide (a.color=Col.zero)))))] ?_
   refine zio 4 0 39 43 (!(decide (a.text=([]:List UInt8)))) (fun g60=>?_) ?_
   ·have g60p:=g60;try simp at g60p
    refine ip' 1 3 [(40,pt b1 5)] (ix rfl (B4 (v:=sv a.text) ty9 rfl rfl 2 rfl rfl) (ix rfl (A2f rfl rfl rfl) (ip' 1 0 [(43,bv (!(decide (a.text=([]:List UInt8)))))] ?_)))
    exact zai 5 39 43 g60
   refine ie ?_
   refine zjb rfl hR ?_ ?_<;>clear hR<;>intro hR h61
   ·have h61p:=h61;try simp at h61p
    refine A3 1 rfl (ip' 1 0 [(3,iv 200)] (A6 (nx (A7 (sr 2 rfl (ip' 2 0 [(73,bv true)] (ie (N5 rfl (sr 1 rfl (ip' 1 0 [(2,iv 200)] ?_))))))))))
    subst hR
    refine ie (B0 ?_)
    exact F8 hr hD
   have h61p:=h61;try simp at h61p
   refine A9 (nx (A7 (sr 2 rfl (ip' 2 0 [(73,bv false)] (ie (A7y rfl (A9 (nx (sr 1 rfl (ip' 1 0 [(2,iv 0)] ?_))))))))))
   subst hR
   refine ie (B0 ?_)
   exact F8 hr hD
  ·refine B6o 7 [bx b1 (A5 a) 26] (zml 10 135) rfl rfl rfl (by kernel_rfl) (by kernel_rfl) (by kernel_rfl) (A0n (cs:=[.nilFunc,.nilFunc]) A9n rfl) (fun b62=>(mk [false,false,true] rfl)) (fun b62=>A0.refl) fun b62=>?_
   refine zho 3 [bx b1 (A5 a) 26] (zml 10 143) rfl (Det.tri (J0.det (by exact I5 (U0 B4c K4 rfl rfl rfl 1 rfl (by kernel_rfl) (by kernel_rfl)) (A2s a.kind)))) (fun _=>(mk [false,false,true] rfl)) (fun _=>A0.refl) fun _=>?_
   refine zhp [4,5,6] 2 (zml 10 255) [(13,ag [(lkV a.kind .nilFunc C0),(lkV a.kind .nilFunc K1)]),(14,bv (H6 a.kind C0))] ?_
   refine zho 8 [bx b1 (A5 a) 26] (zml 10 511) rfl (W0 (us:=[(lkV a.kind .nilFunc C0),(lkV a.kind .nilFunc K1)]) (cs':=[(lkV a.kind .nilFunc C0),(lkV a.kind .nilFunc K1)]) B9w rfl rfl rfl 0 rfl rfl rfl (by simp only [List.all_cons,List.all_nil,Bool.and_true,Bool.and_eq_true];exact ⟨S8 rfl rfl,S8 rfl rfl⟩) rfl rfl) (fun _=>(mk [false,false,true] rfl)) (fun _=>A0.refl) fun _=>?_
   refine zhp [9] 0 (zml 10 1023) [(5,bv (H6 a.kind C0))] ?_
   refine A8j (by kernel_rfl) ?_
   refine sr 29 rfl (ip' 3 26 [(17,bv (!(H6 a.kind C0)))] ?_)
   refine zio 7 19 17 24 (!(D9 a.kind a.n)) (fun g63=>?_) ?_
   ·refine ip' 1 6 [(18,pt b62 0)] (ix rfl (B4 (v:=(lkV a.kind .nilFunc C0)) A4y rfl rfl 0 rfl rfl) (ip' 1 4 [(20,pt b1 1)] (ix rfl (B4 (v:=iv a.n) ty3 rfl rfl 2 rfl rfl) (ixc rfl (O6 (A1g a.kind a.n (by first|assumption|(have hh:H6 a.kind C0=true:=(by first|assumption|simp_all);exact hh)) _ rfl) rfl rfl rfl rfl fn0) (ip' 2 0 [(24,bv (!(D9 a.kind a.n)))] ?_)))))
    exact zai 7 17 24 g63
   refine ip' 1 18 [(25,bv ((!(H6 a.kind C0))||(!(D9 a.kind a.n))))] ?_
   refine zio 7 11 25 32 (!(F6 a.kind a.m)) (fun g64=>?_) ?_
   ·have g64p:=g64;try simp at g64p
    refine ip' 1 6 [(26,pt b62 1)] (ix rfl (B4 (v:=(lkV a.kind .nilFunc K1)) A4y rfl rfl 0 rfl rfl) (ip' 1 4 [(28,pt b1 2)] (ix rfl (B4 (v:=iv a.m) ty3 rfl rfl 2 rfl rfl) (ixc rfl (O6 (A1i a.kind a.m (by first|assumption|(have hh:H6 a.kind C0=true:=(by first|assumption|simp_all);exact hh)) _ rfl) rfl rfl rfl rfl fn0) (ip' 2 0 [(32,bv (!(F6 a.kind a.m)))] ?_)))))
    exact zai 7 25 32 g64
   refine ip' 1 10 [(33,bv (((!(H6 a.kind C0))||(!(D9 a.kind a.n)))||(!(F6 a.kind a.m))))] ?_
   refine zio 5 5 33 38 (!(decide (a.color=Col.zero))) (fun g65=>?_) ?_
   ·have g65p:=g65;try simp at g65p
    refine ip' 1 4 [(34,pt b1 3)] (ix rfl (K9 (us:=R8 a.color) B4g rfl rfl 2 rfl rfl rfl) (zrl 1 2 [] [(36,ag (R8 Col.zero))] (ix rfl (A3h (a:=a.color) (b:=Col.zero) B2w rfl rfl rfl) (ip' 1 0 [(38,bv (!(decide (a.color=Col.zero))))] ?_))))
    exact zai 6 33 38 g65
   refine ip' 1 4 [(39,bv ((((!(H6 a.kind C0))||(!(D9 a.kind a.n)))||(!(F6 a.kind a.m)))||(!(decide (a.color=Col.zero)))))] ?_
   refine zio 4 0 39 43 (!(decide (a.text=([]:List UInt8)))) (fun g66=>?_) ?_
   ·have g66p:=g66;try simp at g66p
    refine ip' 1 3 [(40,pt b1 5)] (ix rfl (B4 (v:=sv a.text) ty9 rfl rfl 2 rfl rfl) (ix rfl (A2f rfl rfl rfl) (ip' 1 0 [(43,bv (!(decide (a.text=([]:List UInt8)))))] ?_)))
    exact zai 5 39 43 g66
   refine ie ?_
   refine zjb rfl hR ?_ ?_<;>clear hR<;>intro hR h67
   ·have h67p:=h67;try simp at h67p
    refine A3 1 rfl (ip' 1 0 [(3,iv 200)] (A6 (nx (A7 (sr 2 rfl (ip' 2 0 [(73,bv true)] (ie (N5 rfl (sr 1 rfl (ip' 1 0 [(2,iv 200)] ?_))))))))))
    subst hR
    refine ie (B0 ?_)
    exact F8 hr hD
   have h67p:=h67;try simp at h67p
   refine A9 (nx (A7 (sr 2 rfl (ip' 2 0 [(73,bv false)] (ie (A7y rfl (A9 (nx (sr 1 rfl (ip' 1 0 [(2,iv 0)] ?_))))))))))
   subst hR
   refine ie (B0 ?_)
   exact F8 hr hD
 ·refine B6o 7 [bx b1 (A5 a) 26] (zml 10 134) rfl rfl rfl (by kernel_rfl) (by kernel_rfl) (by kernel_rfl) (A0n (cs:=[.nilFunc,.nilFunc]) A9n rfl) (fun b68=>(mk [false,true] rfl)) (fun b68=>A0.refl) fun b68=>?_
  refine zho 0 [bx b1 (A5 a) 26] (zml 10 135) rfl (C2 (L2:=[bx b68 [.nilFunc,.nilFunc] 134,bx b1 (A5 a) 26]) (A0j _ rfl) rfl rfl rfl rfl rfl fn0 (List.Perm.refl _) (fun b69=>[(b69,.map (A8 C9s 0).toArray 41),bx b68 [.nilFunc,.nilFunc] 134,bx b1 (A5 a) 26]) (fun _=>rfl)) (fun b69=>(mk [false,false,true] rfl)) (fun b69=>A0.refl) fun b69=>?_
  refine zho 3 [bx b1 (A5 a) 26] (zml 10 143) rfl (Det.tri (J0.det (by exact I5 (U0 B4c K4 rfl rfl rfl 0 rfl (by kernel_rfl) (by kernel_rfl)) (A2s a.kind)))) (fun _=>(mk [false,false,true] rfl)) (fun _=>A0.refl) fun _=>?_
  refine zhp [4,5,6] 2 (zml 10 255) [(13,ag [(lkV a.kind .nilFunc C0),(lkV a.kind .nilFunc K1)]),(14,bv (H6 a.kind C0))] ?_
  refine zho 8 [bx b1 (A5 a) 26] (zml 10 511) rfl (W0 (us:=[(lkV a.kind .nilFunc C0),(lkV a.kind .nilFunc K1)]) (cs':=[(lkV a.kind .nilFunc C0),(lkV a.kind .nilFunc K1)]) B9w rfl rfl rfl 1 rfl rfl rfl (by simp only [List.all_cons,List.all_nil,Bool.and_true,Bool.and_eq_true];exact ⟨S8 rfl rfl,S8 rfl rfl⟩) rfl rfl) (fun _=>(mk [false,false,true] rfl)) (fun _=>A0.refl) fun _=>?_
  refine zhp [9] 0 (zml 10 1023) [(5,bv (H6 a.kind C0))] ?_
  refine A8j (by kernel_rfl) ?_
  refine sr 29 rfl (ip' 3 26 [(17,bv (!(H6 a.kind C0)))] ?_)
  refine zio 7 19 17 24 (!(D9 a.kind a.n)) (fun g70=>?_) ?_
  ·refine ip' 1 6 [(18,pt b68 0)] (ix rfl (B4 (v:=(lkV a.kind .nilFunc C0)) A4y rfl rfl 1 rfl rfl) (ip' 1 4 [(20,pt b1 1)] (ix rfl (B4 (v:=iv a.n) ty3 rfl rfl 2 rfl rfl) (ixc rfl (O6 (A1g a.kind a.n (by first|assumption|(have hh:H6 a.kind C0=true:=(by first|assumption|simp_all);exact hh)) _ rfl) rfl rfl rfl rfl fn0) (ip' 2 0 [(24,bv (!(D9 a.kind a.n)))] ?_)))))
   exact zai 7 17 24 g70
  refine ip' 1 18 [(25,bv ((!(H6 a.kind C0))||(!(D9 a.kind a.n))))] ?_
  refine zio 7 11 25 32 (!(F6 a.kind a.m)) (fun g71=>?_) ?_
  ·have g71p:=g71;try simp at g71p
   refine ip' 1 6 [(26,pt b68 1)] (ix rfl (B4 (v:=(lkV a.kind .nilFunc K1)) A4y rfl rfl 1 rfl rfl) (ip' 1 4 [(28,pt b1 2)] (ix rfl (B4 (v:=iv a.m) ty3 rfl rfl 2 rfl rfl) (ixc rfl (O6 (A1i a.kind a.m (by first|assumption|(have hh:H6 a.kind C0=true:=(by first|assumption|simp_all);exact hh)) _ rfl) rfl rfl rfl rfl fn0) (ip' 2 0 [(32,bv (!(F6 a.kind a.m)))] ?_)))))
   exact zai 7 25 32 g71
  refine ip' 1 10 [(33,bv (((!(H6 a.kind C0))||(!(D9 a.kind a.n)))||(!(F6 a.kind a.m))))] ?_
  refine zio 5 5 33 38 (!(decide (a.color=Col.zero))) (fun g72=>?_) ?_
  ·have g72p:=g72;try simp at g72p
   refine ip' 1 4 [(34,pt b1 3)] (ix rfl (K9 (us:=R8 a.color) B4g rfl rfl 2 rfl rfl rfl) (zrl 1 2 [] [(36,ag (R8 Col.zero))] (ix rfl (A3h (a:=a.color) (b:=Col.zero) B2w rfl rfl rfl) (ip' 1 0 [(38,bv (!(decide (a.color=Col.zero))))] ?_))))
   exact zai 6 33 38 g72
  refine ip' 1 4 [(39,bv ((((!(H6 a.kind C0))||(!(D9 a.kind a.n)))||(!(F6 a.kind a.m)))||(!(decide (a.color=Col.zero)))))] ?_
  refine zio 4 0 39 43 (!(decide (a.text=([]:List UInt8)))) (fun g73=>?_) ?_
  ·have g73p:=g73;try simp at g73p
   refine ip' 1 3 [(40,pt b1 5)] (ix rfl (B4 (v:=sv a.text) ty9 rfl rfl 2 rfl rfl) (ix rfl (A2f rfl rfl rfl) (ip' 1 0 [(43,bv (!(decide (a.text=([]:List UInt8)))))] ?_)))
   exact zai 5 39 43 g73
  refine ie ?_
  refine zjb rfl hR ?_ ?_<;>clear hR<;>intro hR h74
  ·have h74p:=h74;try simp at h74p
   refine A3 1 rfl (ip' 1 0 [(3,iv 200)] (A6 (nx (A7 (sr 2 rfl (ip' 2 0 [(73,bv true)] (ie (N5 rfl (sr 1 rfl (ip' 1 0 [(2,iv 200)] ?_))))))))))
   subst hR
   refine ie (B0 ?_)
   exact F8 hr hD
  have h74p:=h74;try simp at h74p
  refine A9 (nx (A7 (sr 2 rfl (ip' 2 0 [(73,bv false)] (ie (A7y rfl (A9 (nx (sr 1 rfl (ip' 1 0 [(2,iv 0)] ?_))))))))))
  subst hR
  refine ie (B0 ?_)
  exact F8 hr hD
end Go.Proofs.YtanighkpfmgnbaaGreatDoor
set_option linter.unusedVariables false
set_option linter.unusedSimpArgs false
set_option linter.unnecessarySimpa false
set_option maxRecDepth 100000
namespace Go.Proofs.YtanighkpfmgnbaaGreatDoor
open Go Go.Fen
theorem D7q {k:Int} (h:1≤k∧k≤46):([1,2,3,4,5,6,7,8,9,10,11,12,13,15,16,14,17,18,20,21,33,19,22,23,24,25,28,29,30,31,32,34,26,27,35,40,36,37,38,41,42,43,39,44,45,46]:List Int).contains k=true:=by
 simp only [List.contains_cons,List.contains_nil,Bool.or_false,Bool.or_eq_true,beq_iff_eq];omega
theorem C3a {l:List Act} {p:Act→Prop} (h:∀ a ∈ l,p a) (hz:p Act.zero) (i:Nat):p (l.getD i Act.zero):=by
 by_cases hi:i<l.length
 ·rw [gdE hi];exact h _ (List.getElem_mem hi)
 ·rw [gdN hi];exact hz
theorem C4n (s:List UInt8) (n:Int):(A1u s n).length≤1:=by
 unfold A1u;simp only [List.length_take,List.length_drop];omega
theorem E2m {c:Bool} {x y:List UInt8} {B:Nat} (hx:x.length≤B) (hy:y.length≤B):(bif c then x else y).length≤B:=by cases c<;>assumption
set_option maxHeartbeats 4000000 in
theorem C7q (a:Act) (h:a.text.length≤100000000):(A2v a).length≤100010000:=by
 unfold A2v
 have p:=B4x a.n
 have s1:=fun s n=>C4n s n
 have r1:=A2o
 have e:=A7x
 have o:=B1x a.n a.m a.color a.text
 have oa:=A9u a.n a.m a.color a.text
 have ob:=B0g a.n a.m a.color a.text
 repeat' (with_reducible refine E2m ?_ ?_)
 all_goals simp only [A3t,G9,U7,A3o,U6,A3z,G2,W9,A3c,A2z,A3b,A3d,A3m,A2x,A2w,B5,List.length_append,List.length_cons,List.length_nil,List.length_take]
 all_goals first|omega|exact Nat.le_trans (e _) (by omega)|(refine Nat.le_trans (Nat.add_le_add_right (Nat.add_le_add_left (r1 _ _) _) _) ?_;omega)|(have q1:=r1 1 [a.m];have q2:=fun s=>s1 s a.n;have q3:=q2 [65,66,67,68];have q4:=q2 [69,70];have q5:=q2 [83,84];omega)|(have q1:=s1 [15,14] (a.n - 0);have q2:=s1 [62,61] (a.n - 0);have q3:=s1 [78,79] (a.n - 2);omega)|(have q1:=s1 [40,41,42,43] a.n;have q2:=s1 [66,48] a.m;omega)|(have q1:=r1 (-2) [a.n];have q2:=s1 [108,104] a.m;omega)
theorem E1u {c:Bool} (h:(bif c then (200:Int) else 0)=0):c=false:=by cases c<;>simp at h ⊢
theorem E0g {a:Act} (h:H6 a.kind C0=true):a.kind=17∨a.kind=18∨a.kind=19∨a.kind=20∨a.kind=26∨a.kind=27∨a.kind=35∨a.kind=38∨a.kind=40∨a.kind=41∨a.kind=2∨a.kind=3∨a.kind=4∨a.kind=5∨a.kind=6∨a.kind=8∨a.kind=9∨a.kind=10∨a.kind=11∨a.kind=12∨a.kind=13∨a.kind=15∨a.kind=16∨a.kind=7∨a.kind=14∨a.kind=42∨a.kind=21∨a.kind=33∨a.kind=22∨a.kind=23∨a.kind=24∨a.kind=25∨a.kind=28∨a.kind=29∨a.kind=30∨a.kind=31∨a.kind=32∨a.kind=34∨a.kind=36∨a.kind=37∨a.kind=43:=by
 rw [B2p] at h
 simp only [C0,List.map_cons,List.map_nil,List.contains_cons,List.contains_nil,Bool.or_false,Bool.or_eq_true,beq_iff_eq] at h
 omega
theorem D4i {a:Act} (h:O9 a=0) (hk3:a.text.length≤100000000):B2o a:=by
 unfold O9 at h
 by_cases e1:a.kind=1
 ·unfold B2o;omega
 ·rw [decide_eq_false e1,cond_false] at h
  by_cases e2:a.kind=39
  ·unfold B2o;omega
  ·rw [decide_eq_false e2,cond_false] at h
   by_cases e3:a.kind=44
   ·unfold B2o;omega
   ·rw [decide_eq_false e3,cond_false] at h
    by_cases e4:a.kind=45
    ·unfold B2o;omega
    rw [decide_eq_false e4,cond_false] at h
    by_cases e5:a.kind=46
    ·unfold B2o;omega
    rw [decide_eq_false e5,cond_false] at h
    have h:=E1u h
    simp only [Bool.or_eq_false_iff,Bool.not_eq_false'] at h
    obtain ⟨⟨⟨⟨hh,h1⟩,h2⟩,_⟩,_⟩:=h
    clear e1 e2 e3 e4 e5
    rcases E0g hh with h | h | h | h | h | h | h | h | h | h | h | h | h | h | h | h | h | h | h | h | h | h | h | h | h | h | h | h | h | h | h | h | h | h | h | h | h | h | h | h | h
    all_goals
     rw [h] at h1 h2
     simp only [D9,F6,A4,A0l,Int.reduceEq,decide_true,decide_false,cond_true,cond_false,Bool.and_eq_true,Bool.or_eq_true,decide_eq_true_eq] at h1 h2
     unfold B2o
     omega
def A0a (l:List Act) (ag_emit_Bytes_l4:List UInt8→Int→(List UInt8×Int)):Nat→List UInt8→Int→Int→(List UInt8×Int)
 | 0,_,_,_=>([],0)
 | fu3+1,b1,at_1,n=>(bif (((decide (n<(l.length:Int)))&&(decide (n<(at_1+16))))&&(decide ((l.getD ((n).toNat) Act.zero).kind=39))) then A0a l ag_emit_Bytes_l4 fu3 b1 at_1 (n+1) else (bif (decide (n=at_1)) then ag_emit_Bytes_l4 (b1++(A2v (l.getD ((at_1).toNat) Act.zero))) (at_1+1) else (B5 (A3f ((l.drop ((at_1).toNat)).take (((n).toNat) - ((at_1).toNat)))) fun (y0:List UInt8)=>ag_emit_Bytes_l4 (b1++y0) ((n - 1)+1))))
def S3 (l:List Act):Nat→List UInt8→Int→(List UInt8×Int)
 | 0,_,_=>([],0)
 | fu1+1,b,at_=>(bif (decide (at_<(l.length:Int))) then A0a l (S3 l fu1) (((l.length:Int) - at_).toNat+1) b at_ at_ else (b,0))
def U9 (l:List Act):List Act→Nat→(List UInt8×Int)
 | [],t15=>S3 l (((l.length:Int) - 0).toNat+1) ([]:List UInt8) 0
 | hd_l0::tl_l0,t15=>(bif (!decide ((O9 hd_l0)=0)) then (([]:List UInt8),(O9 hd_l0)) else U9 l tl_l0 (t15+1))
def P7 (l:List Act):List UInt8×Int :=
 (bif (decide ((131072:Int)<(l.length:Int))) then (([]:List UInt8),3) else U9 l l 0)
theorem B1t (l:List Act) (h:∀ a ∈ l,a.text.length≤100000000) (ag:List UInt8→Int→List UInt8×Int) (B:Nat) (hag:∀ b t,(ag b t).1.length≤b.length+B):∀ (fu:Nat) (b:List UInt8) (t n:Int),(A0a l ag fu b t n).1.length≤b.length+100010000+B
 | 0,b,t,n=>Nat.zero_le _
 | fu+1,b,t,n=>by
  rw [A0a];unfold B5;simp only [Bool.cond_eq_ite];repeat' split
  ·exact B1t l h ag B hag fu b t (n+1)
  ·refine Nat.le_trans (hag _ _) ?_
   have:=C7q (l.getD t.toNat Act.zero) (C3a h (by decide) _)
   rw [List.length_append];omega
  ·refine Nat.le_trans (hag _ _) ?_
   have:=A7x ((l.drop t.toNat).take (n.toNat - t.toNat))
   rw [List.length_append];omega
theorem B0x (l:List Act) (h:∀ a ∈ l,a.text.length≤100000000):∀ (fu:Nat) (b:List UInt8) (t:Int),(S3 l fu b t).1.length≤b.length+fu * 100010000
 | 0,b,t=>Nat.zero_le _
 | fu+1,b,t=>by
  rw [S3]
  cases decide (t<(l.length:Int)) with
  | true=>exact Nat.le_trans (B1t l h _ (fu * 100010000) (B0x l h fu) _ _ _ _) (by omega)
  | false=>exact Nat.le_add_right _ _
theorem B1e (L:List Act) (h:∀ a ∈ L,a.text.length≤100000000) (hL:L.length≤131072):∀ (l:List Act) (t:Nat),(U9 L l t).1.length≤13200000000000
 | [],t=>by
  have:=B0x L h (((L.length:Int) - 0).toNat+1) [] 0
  rw [U9];simp only [List.length_nil] at this;omega
 | a::l,t=>by
  rw [U9]
  cases (!decide ((O9 a)=0)) with
  | true=>exact Nat.zero_le _
  | false=>exact B1e L h hL l (t+1)
theorem C4h (l:List Act) (h:∀ a ∈ l,a.text.length≤100000000):(P7 l).1.length≤13200000000000:=by
 unfold P7
 by_cases hl:(131072:Int)<(l.length:Int)
 ·rw [decide_eq_true hl];exact Nat.zero_le _
 ·rw [decide_eq_false hl];exact B1e l h (by omega) l 0
theorem C8t (l:List Act) (lq:Option Addr) (lk:Nat) (hll:l.length≤9223372036854775807) (hcl:l.length≤lk) (hkind:∀ a ∈ l,a.text.length≤100000000) (R:List UInt8×Int) (hR:P7 l=R):Con Tryz.prog 15 [.slice lq l.length lk] [] [sl A5 lq l,B6s,B6r,Q3,P0,M3,S7] ({r:VR // VOk 1 R.1.length r}) (fun x=>.tuple #[.slice (va x.1.q) R.1.length x.1.k,iv R.2]) (fun x=>((vo cU8 5 x.1 R.1)++([]))) (fun x=>[]):=by
 refine zco Tryz.func15 [(0,.slice lq l.length lk)] fun X hX hr hD=>?_
 replace hR:=(P7.eq_1 ..).symm.trans hR
 refine sr 2 rfl (ip' 2 0 [(2,.slice none 0 0)] (ie (D4t (A7 (sr 3 rfl (ip' 3 0 [(12,bv (decide ((131072:Int)<(l.length:Int))))] (ie ?_)))))))
 refine zjd rfl hR ?_ ?_<;>clear hR<;>intro hR h1 h1p
 ·refine sr 2 rfl (ip' 2 0 [(2,.slice none 0 0),(3,iv 3)] ?_)
  subst hR
  refine ie (B0 ?_)
  exact zer hr hD (A4c rfl (B8 rfl) (B8 rfl)) ⟨VR.nil,VOk.nil⟩ (mc [vo cU8 5 VR.nil ([]:List UInt8)] [true] rfl (by first|rfl|(simp only [List.length_set]<;>rfl))) fn0
 refine A9 (nx (A7 (sr 3 rfl (ip' 3 0 [(13,.slice lq l.length lk),(14,iv (l.length:Int)),(15,iv 0)] (ie (B2 (D1m (fun (t15:Nat)=>(t15≤l.length∧U9 l (l.drop t15) t15=R∧(∀ i<t15,O9 (l.getD i Act.zero)=0),[(0,.slice lq l.length lk),(2,.slice none 0 0),(13,.slice lq l.length lk),(14,iv (l.length:Int)),(15,iv (t15:Int))],[],[sl A5 lq l,B6s,B6r,Q3,P0,M3,S7],l.length - t15)) 0 ⟨(by omega),hR,(by intro i hi;omega)⟩ (mk [] rfl) A0.refl ?_)))))))
 rintro t15 ⟨hm2,hR,hchk⟩
 have hkt:=C3a hkind (by decide) t15
 refine sr 1 rfl (ip' 1 0 [(16,bv (decide ((t15:Int)<(l.length:Int))))] ?_)
 refine ie (A7 (I9 rfl (fun h3=>?_) (fun h3=>?_)))
 ·have h3p:(t15:Int)<(l.length:Int):=by simpa using h3
  rw [A4r Act.zero (show t15<l.length by omega)] at hR;replace hR:=(U9.eq_2 ..).symm.trans hR
  refine A9 (nx (A7 (B2 (sr 4 rfl (P3 0 rfl (by omega) fun a4 hq5=>(ix rfl (N0 A0v rfl rfl hq5 rfl t15 rfl (by omega)) (ix rfl (P5 (us:=A5 (l.getD t15 Act.zero)) B4z rfl rfl (O4 (c:=A5) (sz:=6) hq5 (fun _=>rfl) 0 rfl (gd Act.zero (by omega))) rfl) ?_)))))))
  refine P1 2 0 [0] (fun b6=>[(5,pt b6 0)]) (fun b6=>[bx b6 (A5 (l.getD t15 Act.zero)) 26]) (fun b6=>?_)
  refine ie (sr 3 rfl (zrl 1 2 [0] [(19,ag (A5 (l.getD t15 Act.zero)))] (zca (C4e (l.getD t15 Act.zero) (by first|omega|exact hkt) _ rfl) (A0.pick [1,2,3,4,5] rfl) (ip' 1 0 [(6,iv (O9 (l.getD t15 Act.zero)))] (ie (sr 2 rfl (ip' 2 0 [(22,bv (!decide ((O9 (l.getD t15 Act.zero))=0)))] (ie ?_))))))))
  refine zjn rfl hR ?_ ?_<;>clear hR<;>intro hR h7 h7p
  ·refine sr 3 rfl (ip' 3 0 [(2,.slice none 0 0),(3,iv (O9 (l.getD t15 Act.zero)))] ?_)
   subst hR
   refine ie (B0 ?_)
   exact zer hr hD (A4c rfl (B8 rfl) (B8 rfl)) ⟨VR.nil,VOk.nil⟩ (mc [[bx b6 (A5 (l.getD t15 Act.zero)) 26],vo cU8 5 VR.nil ([]:List UInt8)] [false,true] rfl (by first|rfl|(simp only [List.length_set]<;>rfl))) fn0
  refine A9 (nx (A3 2 rfl (ix rfl (B6 rfl rfl rfl rfl (by omega)) (ip' 1 0 [(15,iv ((t15:Int)+1))] (A6 ?_)))))
  exact D0x (z1:=t15) (t15+1) ⟨(by omega),hR,(by intro i hi;rcases Nat.lt_succ_iff_lt_or_eq.1 hi with hi | rfl;exact hchk i hi;exact Decidable.of_not_not (by assumption))⟩ (by (try dsimp only);omega) (mk [false] rfl) A0.refl
 have h3p:¬ ((t15:Int)<(l.length:Int)):=by simpa using h3
 rw [A4s h3p] at hR;replace hR:=(U9.eq_1 ..).symm.trans hR
 refine J1 (nx (sr 2 rfl (it rfl (C2 (L2:=[]) (C5y _ rfl) rfl rfl rfl rfl rfl (A0.pick [5,6,3,4] rfl) (List.Perm.refl _) (fun ⟨⟨b8,ml9⟩,hk10⟩=>[(b8,.map (A8 ml9 0).toArray ml9.length)]) (fun _=>rfl)) fun ⟨⟨b8,ml9⟩,hk10⟩=>?_)))
 refine ip' 1 0 [(7,.map (some b8))] (ie (A7 (D5d (nx (A7 (sr 1 rfl (ip' 1 0 [(8,iv 0)] (ie (B2 (A2r (L9 [vo cU8 5 VR.nil ([]:List UInt8),[(b8,.map (A8 ml9 0).toArray ml9.length)]] [1,0] 2 rfl (by decide) rfl [[(b8,.map (A8 ml9 0).toArray ml9.length)],vo cU8 5 VR.nil ([]:List UInt8)] rfl (by first|rfl|simp)) ?_))))))))))
 refine B7z (fun (fu:Nat) (b:List UInt8) (br:VR) (at_:Int)=>(((l.length:Int) - at_).toNat<fu∧S3 l fu b at_=R∧VOk 1 b.length br∧0≤at_∧at_≤(l.length:Int)∧(b.length:Int)≤100010000 * at_,[(0,.slice lq l.length lk),(2,.slice (va br.q) b.length br.k),(7,.map (some b8)),(8,iv at_)],((b8,.map (A8 ml9 0).toArray ml9.length)::(vo cU8 5 br b)++([])),[C0g Tryz.prog ml9 tC,sl A5 lq l,B6s,B6r,Q3,P0,M3,S7],fu)) (((l.length:Int) - 0).toNat+1) ([]:List UInt8) VR.nil 0 ⟨(Nat.lt_succ_self _),hR,VOk.nil,(by omega),(by simp)⟩ (mc [[(b8,.map (A8 ml9 0).toArray ml9.length)],vo cU8 5 VR.nil ([]:List UInt8)] [true,true] rfl (by first|rfl|(simp only [List.length_set]<;>rfl))) A0.refl ?_
 rintro fu b br at_ ⟨hm11,hR,hokbr,ha,hb⟩
 have:=VOk.le hokbr
 obtain ⟨fu1,rfl⟩:∃ m,fu=m+1:=⟨fu - 1,by omega⟩
 replace hR:=(S3.eq_2 ..).symm.trans hR
 refine A7 (sr 4 rfl (ip' 4 0 [(29,bv (decide (at_<(l.length:Int))))] ?_))
 refine ie ?_
 refine zjd rfl hR ?_ ?_<;>clear hR<;>intro hR h12 h12p
 ·refine A9 (nx (A7 (B2 (A7 (sr 2 rfl (ip' 2 0 [(9,iv at_)] (ie (B2 ?_))))))))
  refine E8r (fun (fu2:Nat) (b1:List UInt8) (br1:VR) (at_1:Int) (n:Int)=>(((l.length:Int) - n).toNat<fu2∧A0a l (S3 l fu1) fu2 b1 at_1 n=R∧VOk 1 b1.length br1∧at_1=at_∧0≤at_1∧at_1<(l.length:Int)∧at_1≤n∧n≤(l.length:Int)∧n≤at_1+16∧(b1.length:Int)≤100010000 * at_1,[(0,.slice lq l.length lk),(2,.slice (va br1.q) b1.length br1.k),(7,.map (some b8)),(8,iv at_1),(9,iv n)],((b8,.map (A8 ml9 0).toArray ml9.length)::(vo cU8 5 br1 b1)++([])),[C0g Tryz.prog ml9 tC,sl A5 lq l,B6s,B6r,Q3,P0,M3,S7],fu2)) (((l.length:Int) - at_).toNat+1) b br at_ at_ ⟨(Nat.lt_succ_self _),hR,hokbr,(by omega),(by omega)⟩ (mc [[(b8,.map (A8 ml9 0).toArray ml9.length)],vo cU8 5 br b] [true,true] rfl (by first|rfl|(simp only [List.length_set]<;>rfl))) A0.refl ?_
  rintro fu2 b1 br1 at_1 n ⟨hm13,hR,hokbr1,hn,hb1⟩
  have:=VOk.le hokbr1
  obtain ⟨fu3,rfl⟩:∃ m,fu2=m+1:=⟨fu2 - 1,by omega⟩
  replace hR:=(A0a.eq_2 ..).symm.trans hR
  refine A7 (B2 (A7 (sr 18 rfl (ip' 5 13 [(39,bv (decide (n<(l.length:Int))))] ?_))))
  refine zid 5 8 39 44 (decide (n<(at_1+16))) (fun g14 g14p=>?_) ?_
  ·refine ip' 2 3 [(40,iv n),(41,iv at_1)] (ix rfl (B6 rfl rfl rfl rfl (by omega)) (ip' 2 0 [(44,bv (decide (n<(at_1+16))))] ?_))
   exact A6 (Q2 5 39 44 g14 A0.refl (mc [[(b8,.map (A8 ml9 0).toArray ml9.length)],vo cU8 5 br1 b1] [true,true] rfl (by first|rfl|(simp only [List.length_set]<;>rfl))) rfl rfl rfl rfl rfl)
  refine ip' 1 7 [(45,bv ((decide (n<(l.length:Int)))&&(decide (n<(at_1+16)))))] ?_
  refine zia 7 0 45 52 (decide ((l.getD ((n).toNat) Act.zero).kind=39)) (fun g15=>?_) ?_
  ·have g15p:(n<(l.length:Int))∧(n<(at_1+16)):=by simpa using g15
   refine ip' 2 5 [(46,.slice lq l.length lk),(47,iv n)] (P3 1 rfl (by omega) fun a16 hq17=>(ix rfl (N0 A0v rfl rfl hq17 rfl ((n).toNat) (by omega) (by omega)) (ip' 1 3 [(49,pa (Addr.add a16 (((n).toNat) * 6)))] (ix rfl (C4 (v:=iv ((l.getD ((n).toNat) Act.zero).kind)) (us:=[iv ((l.getD ((n).toNat) Act.zero).kind)]) ty3 rfl rfl (U3 (O4 (c:=A5) (sz:=6) hq17 (fun _=>rfl) 1 rfl (gd Act.zero (by omega))) (ws:=[iv ((l.getD ((n).toNat) Act.zero).kind)]) 1 rfl) rfl) (ip' 2 0 [(52,bv (decide ((l.getD ((n).toNat) Act.zero).kind=39)))] ?_)))))
   exact A6 (Q2 7 45 52 g15 A0.refl (mc [[(b8,.map (A8 ml9 0).toArray ml9.length)],vo cU8 5 br1 b1] [true,true] rfl (by first|rfl|(simp only [List.length_set]<;>rfl))) rfl rfl rfl rfl rfl)
  refine ie ?_
  refine zjb rfl hR ?_ ?_<;>clear hR<;>intro hR h18
  ·have h18p:((n<(l.length:Int))∧(n<(at_1+16)))∧((l.getD ((n).toNat) Act.zero).kind=39):=by simpa using h18
   refine J1 (nx (A3 3 rfl (ip' 1 2 [(33,iv n)] ?_)))
   refine ix rfl (B6 rfl rfl rfl rfl (by omega)) (ip' 1 0 [(9,iv (n+1))] (A6 ?_))
   exact E9i (z1:=(fu3+1)) (z2:=b1) (z3:=br1) (z4:=at_1) (z5:=n) fu3 b1 br1 at_1 (n+1) ⟨(by omega),hR,hokbr1,(by omega),(by omega)⟩ (Nat.lt_succ_self _) (mc [[(b8,.map (A8 ml9 0).toArray ml9.length)],vo cU8 5 br1 b1] [true,true] rfl (by first|rfl|(simp only [List.length_set]<;>rfl))) A0.refl
  have h18p:¬ (((n<(l.length:Int))∧(n<(at_1+16)))∧((l.getD ((n).toNat) Act.zero).kind=39)):=by simpa using h18
  refine A9 (nx (A7 (sr 3 rfl (ip' 3 0 [(55,bv (decide (n=at_1)))] (ie ?_)))))
  refine zjd rfl hR ?_ ?_<;>clear hR<;>intro hR h19 h19p
  ·refine J1 (nx ?_)
   refine sh' 15 [(15,[(b8,.map (A8 ml9 0).toArray ml9.length)]),(13,vo cU8 5 br1 b1)] [C0g Tryz.prog ml9 tC,sl A5 lq l,B6s,B6r,Q3,P0,M3,S7] ((b8,.map (A8 ml9 0).toArray ml9.length)::(vo cU8 5 br1 b1)++([])) (zml 15 0) (by kernel_rfl) rfl (by kernel_rfl) (by kernel_rfl) (by kernel_rfl) (mc [[(b8,.map (A8 ml9 0).toArray ml9.length)],vo cU8 5 br1 b1] [true,true] rfl (by first|rfl|(simp only [List.length_set]<;>rfl))) A0.refl ?_
   refine zhp [0,1,2,3,8,9] 9 (zml 15 783) [(65,.slice (va br1.q) b1.length br1.k),(66,.map (some b8)),(67,.slice lq l.length lk),(68,iv at_1),(73,.slice lq l.length lk),(74,iv at_1)] ?_
   refine D6d 1 rfl (by omega) fun a20 hq21=>?_
   refine zhk 4 (zml 15 799) rfl (N0 A0v rfl rfl hq21 rfl ((at_1).toNat) (by omega) (by omega)) ?_
   refine zhp [5] 7 (zml 15 831) [(70,pa (Addr.add a20 (((at_1).toNat) * 6)))] ?_
   refine zhk 6 (zml 15 895) rfl (C4 (v:=iv ((l.getD ((at_1).toNat) Act.zero).kind)) (us:=[iv ((l.getD ((at_1).toNat) Act.zero).kind)]) ty3 rfl rfl (U3 (O4 (c:=A5) (sz:=6) hq21 (fun _=>rfl) 1 rfl (gd Act.zero (by omega))) (ws:=[iv ((l.getD ((at_1).toNat) Act.zero).kind)]) 1 rfl) rfl) (zhl 7 [(b8,.map (A8 ml9 0).toArray ml9.length)] (zml 15 1023) rfl (by exact D1y (z:=.nilFunc) ml9 P4 rfl rfl rfl 0 rfl (by rw [List.toList_toArray]) (by kernel_rfl)) ?_)
   refine zhk 10 (zml 15 2047) rfl (N0 A0v rfl rfl hq21 rfl ((at_1).toNat) (by omega) (by omega)) (zhk 11 (zml 15 4095) rfl (P5 (us:=A5 (l.getD ((at_1).toNat) Act.zero)) B4z rfl rfl (O4 (c:=A5) (sz:=6) hq21 (fun _=>rfl) 1 rfl (gd Act.zero (by omega))) rfl) ?_)
   have htp:=D4i (hchk ((at_1).toNat) (by omega)) (C3a hkind (by decide) ((at_1).toNat))
   refine zho 12 ((b8,.map (A8 ml9 0).toArray ml9.length)::(vo cU8 5 br1 b1)++([])) (zml 15 8191) rfl (Det.tri (by exact D7u (C:=tC) (A1 0 rfl) (by rw [B2p,hk10];exact D7q ⟨htp.2.1,htp.2.2.1⟩) ⟨(l.getD ((at_1).toNat) Act.zero),⟨rfl,by exact htp⟩,rfl,rfl⟩ rfl rfl rfl rfl)) (fun _=>(mc [[(b8,.map (A8 ml9 0).toArray ml9.length)],vo cU8 5 br1 b1] [true,true] rfl (by first|rfl|(simp only [List.length_set]<;>rfl)))) (fun _=>A0.refl) fun _=>?_
   have:=C7q _ htp.1
   refine zho 13 [(b8,.map (A8 ml9 0).toArray ml9.length)] (zml 15 16383) rfl (B1s (r:=br1) (xs:=b1) (s:=(A2v (l.getD ((at_1).toNat) Act.zero))) (pre:=[(b8,.map (A8 ml9 0).toArray ml9.length)]) (post:=[]) C5z (by kernel_rfl) Tryz.underlying9 rfl rfl rfl rfl rfl rfl rfl hokbr1 (by first|omega|(simp<;>omega))) (fun ⟨r22,hr23⟩=>(mc [[(b8,.map (A8 ml9 0).toArray ml9.length)],vo cU8 5 r22 (b1++(A2v (l.getD ((at_1).toNat) Act.zero)))] [true,false] rfl (by first|rfl|(simp only [List.length_set]<;>rfl)))) (fun ⟨r22,hr23⟩=>A0.refl) fun ⟨r22,hr23⟩=>?_
   have:=@List.length_append _ b1 (A2v (l.getD ((at_1).toNat) Act.zero))
   have:=VOk.le hr23
   have:=VOk.cap hr23
   refine zhp [14] 0 (zml 15 32767) [(2,.slice (va r22.q) ((b1++(A2v (l.getD ((at_1).toNat) Act.zero))).length) r22.k)] ?_
   refine C2y (by kernel_rfl) ?_
   refine nx (A3 3 rfl (ip' 1 2 [(30,iv at_1)] (ix rfl (B6 rfl rfl rfl rfl (by omega)) (ip' 1 0 [(8,iv (at_1+1))] (A6 ?_)))))
   exact B3p (z1:=(fu1+1)) (z2:=b) (z3:=br) (z4:=at_) fu1 (b1++(A2v (l.getD ((at_1).toNat) Act.zero))) r22 (at_1+1) ⟨(by omega),hR,hr23,(by omega),(by first|omega|(simp<;>omega))⟩ (Nat.lt_succ_self _) (mc [[(b8,.map (A8 ml9 0).toArray ml9.length)],vo cU8 5 r22 (b1++(A2v (l.getD ((at_1).toNat) Act.zero)))] [true,true] rfl (by first|rfl|(simp only [List.length_set]<;>rfl))) A0.refl
  refine A9 (nx (sr 8 rfl (ip' 4 4 [(56,.slice (va br1.q) b1.length br1.k),(57,.slice lq l.length lk),(58,iv at_1),(59,iv n)] (C3 (D8g (c:=A5) (sz:=6) (xs:=l) (A1 1 rfl) ((at_1).toNat) ((n).toNat) lk (fun _=>rfl) rfl (by omega) (by omega)) ?_))))
  refine ix rfl (B2z (n':=((l.drop ((at_1).toNat)).take (((n).toNat) - ((at_1).toNat))).length) A0v rfl rfl ((at_1).toNat) ((n).toNat) lk (A3k rfl (by omega)) (A3k rfl (by omega)) A5n (by omega) (by omega) (by omega) (by first|rfl|omega|(simp<;>omega)|(simp;done)) rfl) ?_
  have:=@List.length_drop _ ((at_1).toNat) l
  have:=@List.length_take _ (((n).toNat) - ((at_1).toNat)) (l.drop ((at_1).toNat))
  have hQ:=C9 hR;clear hR;obtain ⟨y0,hy0,hR⟩:=hQ
  refine zca (C1t ((l.drop ((at_1).toNat)).take (((n).toNat) - ((at_1).toNat))) (B4i lq ((at_1).toNat) 6 lk) (lk - ((at_1).toNat)) (by first|omega|(simp<;>omega)|(dsimp only;omega)|decide) (by first|omega|(simp<;>omega)|(dsimp only;omega)|decide) y0 hy0) (A0.pick [0,8,7] rfl) ?_
  have:=A7x ((l.drop ((at_1).toNat)).take (((n).toNat) - ((at_1).toNat)));try rw [hy0] at this
  refine it rfl (B1s (r:=br1) (xs:=b1) (s:=y0) (pre:=[(b8,.map (A8 ml9 0).toArray ml9.length)]) (post:=[]) C5z (by kernel_rfl) Tryz.underlying9 rfl rfl rfl rfl rfl rfl rfl hokbr1 (by first|omega|(simp<;>omega))) fun ⟨r24,hr25⟩=>?_
  have:=@List.length_append _ b1 y0
  have:=VOk.le hr25
  have:=VOk.cap hr25
  refine ip' 1 0 [(2,.slice (va r24.q) ((b1++y0).length) r24.k)] (ie (sr 3 rfl (ip' 1 2 [(63,iv n)] (ix rfl (M6 rfl rfl rfl rfl (by omega)) (ip' 1 0 [(8,iv (n - 1))] (ie (J1 (nx (A3 3 rfl (ip' 1 2 [(30,iv (n - 1))] (ix rfl (B6 rfl rfl rfl rfl (by omega)) (ip' 1 0 [(8,iv ((n - 1)+1))] ?_))))))))))))
  refine A6 ?_
  exact B3p (z1:=(fu1+1)) (z2:=b) (z3:=br) (z4:=at_) fu1 (b1++y0) r24 ((n - 1)+1) ⟨(by omega),hR,hr25,(by omega),(by first|omega|(simp<;>omega))⟩ (Nat.lt_succ_self _) (mc [[(b8,.map (A8 ml9 0).toArray ml9.length)],vo cU8 5 r24 (b1++y0)] [true,true] rfl (by first|rfl|(simp only [List.length_set]<;>rfl))) (A0.pick [1,2,3,4,5,6,7,8] rfl)
 refine J1 (nx (sr 3 rfl (ip' 3 0 [(2,.slice (va br.q) b.length br.k),(3,iv 0)] ?_)))
 subst hR
 refine ie (B0 ?_)
 exact zer hr hD (A4c rfl (B8 rfl) (B8 rfl)) ⟨br,hokbr⟩ (mc [[(b8,.map (A8 ml9 0).toArray ml9.length)],vo cU8 5 br b] [false,true] rfl (by first|rfl|(simp only [List.length_set]<;>rfl))) fn0
end Go.Proofs.YtanighkpfmgnbaaGreatDoor
set_option linter.unusedVariables false
set_option linter.unusedSimpArgs false
set_option linter.unnecessarySimpa false
set_option maxRecDepth 100000
namespace Go.Proofs.YtanighkpfmgnbaaGreatDoor
open Go Go.Fen
end Go.Proofs.YtanighkpfmgnbaaGreatDoor
