import Derived.Test.YtanighkpfmgnbaaGreatDoorProg
import Derived.Test.YtanighkpfmgnbaaGreatDoorUA2
import Derived.Test.YtanighkpfmgnbaaGreatDoorUB1
import Derived.Test.YtanighkpfmgnbaaGreatDoorUA3
import Derived.Test.YtanighkpfmgnbaaGreatDoorUB2
set_option linter.unusedVariables false
set_option linter.unusedSimpArgs false
set_option linter.unnecessarySimpa false
set_option maxRecDepth 100000
namespace Go.Proofs.YtanighkpfmgnbaaGreatDoor
open Go Go.Fen
theorem K3:MapTy Tryz.prog 136 3 134 (.int .i64):=⟨by kernel_rfl,by kernel_rfl,rfl⟩
theorem D8x:SlTy Tryz.prog 186 184 2:=⟨by kernel_rfl,by kernel_rfl⟩
theorem B7o:Ty Tryz.prog 134 2 true:=⟨by kernel_rfl⟩
theorem D3v:Ty Tryz.prog 184 2 true:=⟨by kernel_rfl⟩
theorem A8b:Zero Tryz.prog 134 [.nilFunc,.nilFunc]:=⟨by kernel_rfl⟩
def A3f (cp:Int):List Spn→Nat→Bool
 | [],t9=>false
 | hd_l0::tl_l0,t9=>(bif ((decide (hd_l0.lo≤cp))&&(decide (cp≤hd_l0.hi))) then true else A3f cp tl_l0 (t9+1))
def Y2 (cp:Int) (l:List Spn):Bool :=
 A3f cp l 0
theorem B6o (cp:Int) (l:List Spn) (lq:Option Addr) (lk:Nat) (hll:l.length≤9223372036854775807) (hcl:l.length≤lk) (R:Bool) (hR:Y2 cp l=R):I4 Tryz.prog 116 [iv cp,.slice lq l.length lk] [sl B2 lq l] (bv R):=by
 refine zco Tryz.func116 [(0,iv cp),(1,.slice lq l.length lk)] fun X hX hr hD=>?_
 replace hR:=(Y2.eq_1 ..).symm.trans hR
 refine sr 1 rfl (ip' 1 0 [] ?_)
 refine ie (A8 (sr 3 rfl (ip' 3 0 [(7,.slice lq l.length lk),(8,iv (l.length:Int)),(9,iv 0)] ?_)))
 refine ie (B3 (C9p (fun (t9:Nat)=>(t9≤l.length∧A3f cp (l.drop t9) t9=R,[(0,iv cp),(7,.slice lq l.length lk),(8,iv (l.length:Int)),(9,iv (t9:Int))],[],[sl B2 lq l],l.length - t9)) 0 ⟨(by omega),hR⟩ (mk [] rfl) A1.refl ?_))
 rintro t9 ⟨hm1,hR⟩
 refine sr 1 rfl (ip' 1 0 [(10,bv (decide ((t9:Int)<(l.length:Int))))] ?_)
 refine ie (A8 (A1s rfl (fun h2=>?_) (fun h2=>?_)))
 ·have h2p:(t9:Int)<(l.length:Int):=by simpa using h2
  rw [A4t Spn.zero (show t9<l.length by omega)] at hR;replace hR:=(A3f.eq_2 ..).symm.trans hR
  refine A6 (nx (A8 (B3 (sr 4 rfl (R8 0 rfl (by omega) fun a3 hq4=>?_)))))
  refine ix rfl (M4 D8x rfl rfl hq4 rfl t9 rfl (by omega)) ?_
  refine ix rfl (S3 (us:=B2 (l.getD t9 Spn.zero)) D3v rfl rfl (O2 (c:=B2) (sz:=2) hq4 (fun _=>rfl) 0 rfl (gd Spn.zero (by omega))) rfl) ?_
  refine Q2 2 0 [0] (fun b5=>[(6,pt b5 0)]) (fun b5=>[bx b5 (B2 (l.getD t9 Spn.zero)) 184]) (fun b5=>?_)
  refine ie (sr 10 rfl (zrl 5 5 [0] [(17,bv (decide ((l.getD t9 Spn.zero).lo≤cp)))] ?_))
  refine zid 5 0 17 22 (decide (cp≤(l.getD t9 Spn.zero).hi)) (fun g6 g6p=>?_) ?_
  ·refine zrl 5 0 [0] [(22,bv (decide (cp≤(l.getD t9 Spn.zero).hi)))] ?_
   exact zai 2 17 22 g6
  refine ie ?_
  refine zja rfl hR ?_ ?_<;>clear hR<;>intro hR h7 h7p
  ·refine sr 1 rfl (ip' 1 0 [(4,bv true)] ?_)
   subst hR
   refine ie (A9 ?_)
   exact F2 hr hD
  refine A6 (nx (A2 2 rfl (ix rfl (B5 rfl rfl rfl rfl (by omega)) ?_)))
  refine ip' 1 0 [(9,iv ((t9:Int)+1))] ?_
  refine A3 ?_
  exact D0n (z1:=t9) (t9+1) ⟨(by omega),hR⟩ (by (try dsimp only);omega) (mk [false] rfl) A1.refl
 have h2p:¬ ((t9:Int)<(l.length:Int)):=by simpa using h2
 rw [A4u h2p] at hR;replace hR:=(A3f.eq_1 ..).symm.trans hR
 refine I3 (nx (sr 1 rfl (ip' 1 0 [(4,bv false)] ?_)))
 subst hR
 refine ie (A9 ?_)
 exact F2 hr hD
def A7c (cp:Int):Int :=
 (bif ((!(A3s cp))||(Y2 cp ([(⟨0,31⟩:Spn),(⟨127,159⟩:Spn)]:List Spn))) then (-1) else (bif (decide (cp<(B9b.getD 0 Spn.zero).lo)) then 1 else (bif (Y2 cp B9b) then 0 else (bif (Y2 cp D2f) then 2 else 1))))
theorem D3b (cp:Int) (R:Int) (hR:A7c cp=R):I4 Tryz.prog 62 [iv cp] [B5f,B5e] (iv R):=by
 refine zco Tryz.func62 [(0,iv cp)] fun X hX hr hD=>?_
 replace hR:=(A7c.eq_1 ..).symm.trans hR
 refine sr 1 rfl (ip' 1 0 [] ?_)
 refine ie (A8 (B3 (sr 11 rfl (ip' 1 10 [(4,iv cp)] ?_))))
 refine zca (B9z cp _ rfl) fn0 ?_
 refine ip' 2 7 [(7,bv (!(A3s cp)))] ?_
 refine zio 6 1 7 13 (Y2 cp ([(⟨0,31⟩:Spn),(⟨127,159⟩:Spn)]:List Spn)) (fun g1=>?_) ?_
 ·refine zrl 3 3 [] [(8,iv cp),(9,ag (B2 (⟨0,31⟩:Spn))),(10,ag (B2 (⟨127,159⟩:Spn)))] ?_
  refine it rfl (B6 (c:=B2) (xs:=([(⟨0,31⟩:Spn),(⟨127,159⟩:Spn)]:List Spn)) D8x rfl rfl rfl (by kernel_rfl)) fun b2=>?_
  have:([(⟨0,31⟩:Spn),(⟨127,159⟩:Spn)]:List Spn).length=2:=rfl
  refine zca (B6o cp ([(⟨0,31⟩:Spn),(⟨127,159⟩:Spn)]:List Spn) (some ⟨b2,0,none⟩) 2 (by first|omega|(simp<;>omega)|(dsimp only;omega)|decide) (by first|omega|(simp<;>omega)|(dsimp only;omega)|decide) _ rfl) (A1.pick [0] rfl) ?_
  refine ip' 1 0 [(13,bv (Y2 cp ([(⟨0,31⟩:Spn),(⟨127,159⟩:Spn)]:List Spn)))] ?_
  exact A3 (L6 7 7 13 g1 (A1.pick [1,2] rfl) (mk [] rfl) rfl rfl rfl rfl rfl)
 refine ip' 1 0 [(3,bv ((!(A3s cp))||(Y2 cp ([(⟨0,31⟩:Spn),(⟨127,159⟩:Spn)]:List Spn))))] ?_
 refine ie ?_
 refine zjb rfl hR ?_ ?_<;>clear hR<;>intro hR h3
 ·have h3p:=h3;try simp at h3p
  refine sr 1 rfl (ip' 1 0 [(2,iv (-1))] ?_)
  subst hR
  refine ie (A9 ?_)
  exact F2 hr hD
 have h3p:=h3;try simp at h3p
 refine sr 6 rfl (ip' 1 5 [(15,iv cp)] ?_)
 refine ix rfl (A9p Tryz.underlying185 D3v rfl rfl rfl 0 rfl (by first|decide|omega)) ?_
 refine ip' 1 3 [(17,pa (Addr.add ⟨0,0,none⟩ (0 * 2)))] ?_
 refine ix rfl (F5 (v:=iv ((B9b.getD 0 Spn.zero).lo)) (us:=[iv ((B9b.getD 0 Spn.zero).lo)]) ty3 rfl rfl (A7l (O2 (c:=B2) (sz:=2) rfl (fun _=>rfl) 0 rfl (gd Spn.zero (by first|decide|(simp only [B9b,List.length_cons,List.length_nil];omega)))) (ws:=[iv ((B9b.getD 0 Spn.zero).lo)]) 1 rfl) rfl) ?_
 refine ip' 2 0 [(14,bv (decide (cp<(B9b.getD 0 Spn.zero).lo)))] ?_
 refine ie ?_
 refine zjd rfl hR ?_ ?_<;>clear hR<;>intro hR h4 h4p
 ·refine sr 1 rfl (ip' 1 0 [(2,iv 1)] ?_)
  subst hR
  refine ie (A9 ?_)
  exact F2 hr hD
 refine sr 4 rfl (ip' 1 3 [(21,iv cp)] ?_)
 refine ix rfl (B2q Tryz.underlying185 D3v rfl rfl) ?_
 refine zca (B6o cp B9b (some ⟨0,0,none⟩) 11 (by first|omega|(simp<;>omega)|(dsimp only;omega)|decide) (by first|omega|(simp<;>omega)|(dsimp only;omega)|decide) _ rfl) (A1.pick [0] rfl) ?_
 refine ip' 1 0 [(20,bv (Y2 cp B9b))] ?_
 refine ie ?_
 refine zjb rfl hR ?_ ?_<;>clear hR<;>intro hR h5
 ·refine sr 1 rfl (ip' 1 0 [(2,iv 0)] ?_)
  subst hR
  refine ie (A9 ?_)
  exact F2 hr hD
 refine sr 4 rfl (ip' 1 3 [(25,iv cp)] ?_)
 refine ix rfl (B2q Tryz.underlying187 D3v rfl rfl) ?_
 refine zca (B6o cp D2f (some ⟨1,0,none⟩) 13 (by first|omega|(simp<;>omega)|(dsimp only;omega)|decide) (by first|omega|(simp<;>omega)|(dsimp only;omega)|decide) _ rfl) (A1.pick [1] rfl) ?_
 refine ip' 1 0 [(24,bv (Y2 cp D2f))] ?_
 refine ie ?_
 refine zjb rfl hR ?_ ?_<;>clear hR<;>intro hR h6
 ·refine sr 1 rfl (ip' 1 0 [(2,iv 2)] ?_)
  subst hR
  refine ie (A9 ?_)
  exact F2 hr hD
 refine A6 (nx (sr 1 rfl (ip' 1 0 [(2,iv 1)] ?_)))
 subst hR
 refine ie (A9 ?_)
 exact F2 hr hD
def A2j (kind:Int) (n:Int) (m:Int):Act :=
 {Act.zero with kind:=kind,n:=n,m:=m}
theorem D1s (kind:Int) (n:Int) (m:Int) (R:Act) (hR:A2j kind n m=R):I4 Tryz.prog 63 [iv kind,iv n,iv m] [] (ag (A4 R)):=by
 refine zco Tryz.func63 [(0,iv kind),(1,iv n),(2,iv m)] fun X hX hr hD=>?_
 replace hR:=(A2j.eq_1 ..).symm.trans hR
 refine sr 1 rfl (Q2 1 0 [] (fun b1=>[(6,pt b1 0)]) (fun b1=>[bx b1 (A4 Act.zero) 26]) (fun b1=>?_))
 refine ie (sr 5 rfl (zrg 5 0 [0] [] [bx b1 (A4 ({Act.zero with kind:=kind,n:=n,m:=m})) 26] ?_))
 subst hR
 refine ie (A9 ?_)
 exact zer hr hD (N4 rfl (F1 (us:=A4 ({Act.zero with kind:=kind,n:=n,m:=m})) A3l rfl 0 rfl rfl rfl)) () (mk [false] rfl) fn0
def B5j:Unit :=
 ()
theorem C0z (R:Unit) (hR:B5j=R):I4 Tryz.prog 122 [] [] (.tuple #[.func (.func 123) #[ag (B2 (⟨0,0⟩:Spn))] #[],.func (.func 123) #[ag (B2 (⟨0,1⟩:Spn))] #[],.func (.func 123) #[ag (B2 (⟨1,9999⟩:Spn))] #[],.func (.func 123) #[ag (B2 (⟨0,9999⟩:Spn))] #[]]):=by
 refine zco Tryz.func122 [] fun X hX hr hD=>?_
 replace hR:=(B5j.eq_1 ..).symm.trans hR
 refine sr 4 rfl (ip' 4 0 [] ?_)
 refine ie (sr 12 rfl (zrl 12 0 [] [(0,.func (.func 123) #[ag (B2 (⟨0,0⟩:Spn))] #[]),(1,.func (.func 123) #[ag (B2 (⟨0,1⟩:Spn))] #[]),(2,.func (.func 123) #[ag (B2 (⟨1,9999⟩:Spn))] #[]),(3,.func (.func 123) #[ag (B2 (⟨0,9999⟩:Spn))] #[])] ?_))
 subst hR
 refine ie (A9 ?_)
 exact zer hr hD (E8d rfl (C1 rfl) (C1 rfl) (C1 rfl) (C1 rfl)) () (mk [] rfl) fn0
def me0:Value:=ag [.func (.func 123) #[ag (B2 (⟨0,3⟩:Spn))] #[],.func (.func 123) #[ag (B2 (⟨0,1⟩:Spn))] #[]]
def mt0:List (Int×Value):=[(17,me0)]
def me1:Value:=ag [.func (.func 123) #[ag (B2 (⟨2,3⟩:Spn))] #[],.func (.func 123) #[ag (B2 (⟨0,0⟩:Spn))] #[]]
def mt1:List (Int×Value):=[(17,me0),(18,me1)]
def me2:Value:=ag [.func (.func 123) #[ag (B2 (⟨1,9999⟩:Spn))] #[],.func (.func 123) #[ag (B2 (⟨1,9999⟩:Spn))] #[]]
def mt2:List (Int×Value):=[(17,me0),(18,me1),(19,me2)]
def me3:Value:=ag [.func (.func 123) #[ag (B2 (⟨0,3⟩:Spn))] #[],.func (.func 123) #[ag (B2 (⟨1,9999⟩:Spn))] #[]]
def mt3:List (Int×Value):=[(17,me0),(18,me1),(19,me2),(20,me3)]
def me4:Value:=ag [.func (.func 123) #[ag (B2 (⟨0,3⟩:Spn))] #[],.func (.func 123) #[ag (B2 (⟨0,0⟩:Spn))] #[]]
def mt4:List (Int×Value):=[(17,me0),(18,me1),(19,me2),(20,me3),(26,me4)]
def me5:Value:=ag [.func (.func 123) #[ag (B2 (⟨0,2⟩:Spn))] #[],.func (.func 123) #[ag (B2 (⟨0,0⟩:Spn))] #[]]
def mt5:List (Int×Value):=[(17,me0),(18,me1),(19,me2),(20,me3),(26,me4),(27,me5)]
def me6:Value:=ag [.func (.func 124) #[] #[],.func (.func 123) #[ag (B2 (⟨0,0⟩:Spn))] #[]]
def mt6:List (Int×Value):=[(17,me0),(18,me1),(19,me2),(20,me3),(26,me4),(27,me5),(35,me6)]
def me7:Value:=ag [.func (.func 123) #[ag (B2 (⟨0,9999⟩:Spn))] #[],.func (.func 123) #[ag (B2 (⟨0,9999⟩:Spn))] #[]]
def mt7:List (Int×Value):=[(17,me0),(18,me1),(19,me2),(20,me3),(26,me4),(27,me5),(35,me6),(38,me7)]
def me8:Value:=ag [.func (.func 123) #[ag (B2 (⟨0,6⟩:Spn))] #[],.func (.func 123) #[ag (B2 (⟨0,0⟩:Spn))] #[]]
def mt8:List (Int×Value):=[(17,me0),(18,me1),(19,me2),(20,me3),(26,me4),(27,me5),(35,me6),(38,me7),(40,me8)]
def me9:Value:=ag [.func (.func 123) #[ag (B2 (⟨5,6⟩:Spn))] #[],.func (.func 123) #[ag (B2 (⟨0,0⟩:Spn))] #[]]
def mt9:List (Int×Value):=[(17,me0),(18,me1),(19,me2),(20,me3),(26,me4),(27,me5),(35,me6),(38,me7),(40,me8),(41,me9)]
def A4l:Value:=ag [.func (.func 123) #[ag (B2 (⟨0,0⟩:Spn))] #[],.func (.func 123) #[ag (B2 (⟨0,0⟩:Spn))] #[]]
def E3l:List (Int×Value):=[(17,me0),(18,me1),(19,me2),(20,me3),(26,me4),(27,me5),(35,me6),(38,me7),(40,me8),(41,me9),(2,A4l)]
def A4w:Value:=ag [.func (.func 123) #[ag (B2 (⟨0,0⟩:Spn))] #[],.func (.func 123) #[ag (B2 (⟨0,0⟩:Spn))] #[]]
def E4w:List (Int×Value):=[(17,me0),(18,me1),(19,me2),(20,me3),(26,me4),(27,me5),(35,me6),(38,me7),(40,me8),(41,me9),(2,A4l),(3,A4w)]
def A5a:Value:=ag [.func (.func 123) #[ag (B2 (⟨0,0⟩:Spn))] #[],.func (.func 123) #[ag (B2 (⟨0,0⟩:Spn))] #[]]
def E4n:List (Int×Value):=[(17,me0),(18,me1),(19,me2),(20,me3),(26,me4),(27,me5),(35,me6),(38,me7),(40,me8),(41,me9),(2,A4l),(3,A4w),(4,A5a)]
def A5s:Value:=ag [.func (.func 123) #[ag (B2 (⟨0,0⟩:Spn))] #[],.func (.func 123) #[ag (B2 (⟨0,0⟩:Spn))] #[]]
def E5h:List (Int×Value):=[(17,me0),(18,me1),(19,me2),(20,me3),(26,me4),(27,me5),(35,me6),(38,me7),(40,me8),(41,me9),(2,A4l),(3,A4w),(4,A5a),(5,A5s)]
def A6d:Value:=ag [.func (.func 123) #[ag (B2 (⟨0,0⟩:Spn))] #[],.func (.func 123) #[ag (B2 (⟨0,0⟩:Spn))] #[]]
def E4c:List (Int×Value):=[(17,me0),(18,me1),(19,me2),(20,me3),(26,me4),(27,me5),(35,me6),(38,me7),(40,me8),(41,me9),(2,A4l),(3,A4w),(4,A5a),(5,A5s),(6,A6d)]
def A6x:Value:=ag [.func (.func 123) #[ag (B2 (⟨0,0⟩:Spn))] #[],.func (.func 123) #[ag (B2 (⟨0,0⟩:Spn))] #[]]
def E5n:List (Int×Value):=[(17,me0),(18,me1),(19,me2),(20,me3),(26,me4),(27,me5),(35,me6),(38,me7),(40,me8),(41,me9),(2,A4l),(3,A4w),(4,A5a),(5,A5s),(6,A6d),(8,A6x)]
def A7p:Value:=ag [.func (.func 123) #[ag (B2 (⟨0,0⟩:Spn))] #[],.func (.func 123) #[ag (B2 (⟨0,0⟩:Spn))] #[]]
def E3q:List (Int×Value):=[(17,me0),(18,me1),(19,me2),(20,me3),(26,me4),(27,me5),(35,me6),(38,me7),(40,me8),(41,me9),(2,A4l),(3,A4w),(4,A5a),(5,A5s),(6,A6d),(8,A6x),(9,A7p)]
def A8a:Value:=ag [.func (.func 123) #[ag (B2 (⟨0,0⟩:Spn))] #[],.func (.func 123) #[ag (B2 (⟨0,0⟩:Spn))] #[]]
def E4d:List (Int×Value):=[(17,me0),(18,me1),(19,me2),(20,me3),(26,me4),(27,me5),(35,me6),(38,me7),(40,me8),(41,me9),(2,A4l),(3,A4w),(4,A5a),(5,A5s),(6,A6d),(8,A6x),(9,A7p),(10,A8a)]
def A8o:Value:=ag [.func (.func 123) #[ag (B2 (⟨0,0⟩:Spn))] #[],.func (.func 123) #[ag (B2 (⟨0,0⟩:Spn))] #[]]
def E4p:List (Int×Value):=[(17,me0),(18,me1),(19,me2),(20,me3),(26,me4),(27,me5),(35,me6),(38,me7),(40,me8),(41,me9),(2,A4l),(3,A4w),(4,A5a),(5,A5s),(6,A6d),(8,A6x),(9,A7p),(10,A8a),(11,A8o)]
def A9w:Value:=ag [.func (.func 123) #[ag (B2 (⟨0,0⟩:Spn))] #[],.func (.func 123) #[ag (B2 (⟨0,0⟩:Spn))] #[]]
def E3d:List (Int×Value):=[(17,me0),(18,me1),(19,me2),(20,me3),(26,me4),(27,me5),(35,me6),(38,me7),(40,me8),(41,me9),(2,A4l),(3,A4w),(4,A5a),(5,A5s),(6,A6d),(8,A6x),(9,A7p),(10,A8a),(11,A8o),(12,A9w)]
def B1b:Value:=ag [.func (.func 123) #[ag (B2 (⟨0,0⟩:Spn))] #[],.func (.func 123) #[ag (B2 (⟨0,0⟩:Spn))] #[]]
def E4h:List (Int×Value):=[(17,me0),(18,me1),(19,me2),(20,me3),(26,me4),(27,me5),(35,me6),(38,me7),(40,me8),(41,me9),(2,A4l),(3,A4w),(4,A5a),(5,A5s),(6,A6d),(8,A6x),(9,A7p),(10,A8a),(11,A8o),(12,A9w),(13,B1b)]
def B1e:Value:=ag [.func (.func 123) #[ag (B2 (⟨0,0⟩:Spn))] #[],.func (.func 123) #[ag (B2 (⟨0,0⟩:Spn))] #[]]
def E5k:List (Int×Value):=[(17,me0),(18,me1),(19,me2),(20,me3),(26,me4),(27,me5),(35,me6),(38,me7),(40,me8),(41,me9),(2,A4l),(3,A4w),(4,A5a),(5,A5s),(6,A6d),(8,A6x),(9,A7p),(10,A8a),(11,A8o),(12,A9w),(13,B1b),(15,B1e)]
def B2e:Value:=ag [.func (.func 123) #[ag (B2 (⟨0,0⟩:Spn))] #[],.func (.func 123) #[ag (B2 (⟨0,0⟩:Spn))] #[]]
def E4o:List (Int×Value):=[(17,me0),(18,me1),(19,me2),(20,me3),(26,me4),(27,me5),(35,me6),(38,me7),(40,me8),(41,me9),(2,A4l),(3,A4w),(4,A5a),(5,A5s),(6,A6d),(8,A6x),(9,A7p),(10,A8a),(11,A8o),(12,A9w),(13,B1b),(15,B1e),(16,B2e)]
def B3c:Value:=ag [.func (.func 123) #[ag (B2 (⟨0,1⟩:Spn))] #[],.func (.func 123) #[ag (B2 (⟨0,0⟩:Spn))] #[]]
def E3u:List (Int×Value):=[(17,me0),(18,me1),(19,me2),(20,me3),(26,me4),(27,me5),(35,me6),(38,me7),(40,me8),(41,me9),(2,A4l),(3,A4w),(4,A5a),(5,A5s),(6,A6d),(8,A6x),(9,A7p),(10,A8a),(11,A8o),(12,A9w),(13,B1b),(15,B1e),(16,B2e),(7,B3c)]
def B3v:Value:=ag [.func (.func 123) #[ag (B2 (⟨0,1⟩:Spn))] #[],.func (.func 123) #[ag (B2 (⟨0,0⟩:Spn))] #[]]
def E5s:List (Int×Value):=[(17,me0),(18,me1),(19,me2),(20,me3),(26,me4),(27,me5),(35,me6),(38,me7),(40,me8),(41,me9),(2,A4l),(3,A4w),(4,A5a),(5,A5s),(6,A6d),(8,A6x),(9,A7p),(10,A8a),(11,A8o),(12,A9w),(13,B1b),(15,B1e),(16,B2e),(7,B3c),(14,B3v)]
def B5c:Value:=ag [.func (.func 123) #[ag (B2 (⟨0,1⟩:Spn))] #[],.func (.func 123) #[ag (B2 (⟨0,0⟩:Spn))] #[]]
def E5e:List (Int×Value):=[(17,me0),(18,me1),(19,me2),(20,me3),(26,me4),(27,me5),(35,me6),(38,me7),(40,me8),(41,me9),(2,A4l),(3,A4w),(4,A5a),(5,A5s),(6,A6d),(8,A6x),(9,A7p),(10,A8a),(11,A8o),(12,A9w),(13,B1b),(15,B1e),(16,B2e),(7,B3c),(14,B3v),(42,B5c)]
def B6e:Value:=ag [.func (.func 123) #[ag (B2 (⟨0,1⟩:Spn))] #[],.func (.func 123) #[ag (B2 (⟨1,9999⟩:Spn))] #[]]
def E5m:List (Int×Value):=[(17,me0),(18,me1),(19,me2),(20,me3),(26,me4),(27,me5),(35,me6),(38,me7),(40,me8),(41,me9),(2,A4l),(3,A4w),(4,A5a),(5,A5s),(6,A6d),(8,A6x),(9,A7p),(10,A8a),(11,A8o),(12,A9w),(13,B1b),(15,B1e),(16,B2e),(7,B3c),(14,B3v),(42,B5c),(21,B6e)]
def B8b:Value:=ag [.func (.func 123) #[ag (B2 (⟨0,1⟩:Spn))] #[],.func (.func 123) #[ag (B2 (⟨1,9999⟩:Spn))] #[]]
def E4l:List (Int×Value):=[(17,me0),(18,me1),(19,me2),(20,me3),(26,me4),(27,me5),(35,me6),(38,me7),(40,me8),(41,me9),(2,A4l),(3,A4w),(4,A5a),(5,A5s),(6,A6d),(8,A6x),(9,A7p),(10,A8a),(11,A8o),(12,A9w),(13,B1b),(15,B1e),(16,B2e),(7,B3c),(14,B3v),(42,B5c),(21,B6e),(33,B8b)]
def B8q:Value:=ag [.func (.func 123) #[ag (B2 (⟨1,9999⟩:Spn))] #[],.func (.func 123) #[ag (B2 (⟨0,0⟩:Spn))] #[]]
def E3a:List (Int×Value):=[(17,me0),(18,me1),(19,me2),(20,me3),(26,me4),(27,me5),(35,me6),(38,me7),(40,me8),(41,me9),(2,A4l),(3,A4w),(4,A5a),(5,A5s),(6,A6d),(8,A6x),(9,A7p),(10,A8a),(11,A8o),(12,A9w),(13,B1b),(15,B1e),(16,B2e),(7,B3c),(14,B3v),(42,B5c),(21,B6e),(33,B8b),(22,B8q)]
def C1k:Value:=ag [.func (.func 123) #[ag (B2 (⟨1,9999⟩:Spn))] #[],.func (.func 123) #[ag (B2 (⟨0,0⟩:Spn))] #[]]
def E5q:List (Int×Value):=[(17,me0),(18,me1),(19,me2),(20,me3),(26,me4),(27,me5),(35,me6),(38,me7),(40,me8),(41,me9),(2,A4l),(3,A4w),(4,A5a),(5,A5s),(6,A6d),(8,A6x),(9,A7p),(10,A8a),(11,A8o),(12,A9w),(13,B1b),(15,B1e),(16,B2e),(7,B3c),(14,B3v),(42,B5c),(21,B6e),(33,B8b),(22,B8q),(23,C1k)]
def C4m:Value:=ag [.func (.func 123) #[ag (B2 (⟨1,9999⟩:Spn))] #[],.func (.func 123) #[ag (B2 (⟨0,0⟩:Spn))] #[]]
def E3s:List (Int×Value):=[(17,me0),(18,me1),(19,me2),(20,me3),(26,me4),(27,me5),(35,me6),(38,me7),(40,me8),(41,me9),(2,A4l),(3,A4w),(4,A5a),(5,A5s),(6,A6d),(8,A6x),(9,A7p),(10,A8a),(11,A8o),(12,A9w),(13,B1b),(15,B1e),(16,B2e),(7,B3c),(14,B3v),(42,B5c),(21,B6e),(33,B8b),(22,B8q),(23,C1k),(24,C4m)]
def C5k:Value:=ag [.func (.func 123) #[ag (B2 (⟨1,9999⟩:Spn))] #[],.func (.func 123) #[ag (B2 (⟨0,0⟩:Spn))] #[]]
def E5p:List (Int×Value):=[(17,me0),(18,me1),(19,me2),(20,me3),(26,me4),(27,me5),(35,me6),(38,me7),(40,me8),(41,me9),(2,A4l),(3,A4w),(4,A5a),(5,A5s),(6,A6d),(8,A6x),(9,A7p),(10,A8a),(11,A8o),(12,A9w),(13,B1b),(15,B1e),(16,B2e),(7,B3c),(14,B3v),(42,B5c),(21,B6e),(33,B8b),(22,B8q),(23,C1k),(24,C4m),(25,C5k)]
def C8m:Value:=ag [.func (.func 123) #[ag (B2 (⟨1,9999⟩:Spn))] #[],.func (.func 123) #[ag (B2 (⟨0,0⟩:Spn))] #[]]
def E3p:List (Int×Value):=[(17,me0),(18,me1),(19,me2),(20,me3),(26,me4),(27,me5),(35,me6),(38,me7),(40,me8),(41,me9),(2,A4l),(3,A4w),(4,A5a),(5,A5s),(6,A6d),(8,A6x),(9,A7p),(10,A8a),(11,A8o),(12,A9w),(13,B1b),(15,B1e),(16,B2e),(7,B3c),(14,B3v),(42,B5c),(21,B6e),(33,B8b),(22,B8q),(23,C1k),(24,C4m),(25,C5k),(28,C8m)]
def C9o:Value:=ag [.func (.func 123) #[ag (B2 (⟨1,9999⟩:Spn))] #[],.func (.func 123) #[ag (B2 (⟨0,0⟩:Spn))] #[]]
def E4t:List (Int×Value):=[(17,me0),(18,me1),(19,me2),(20,me3),(26,me4),(27,me5),(35,me6),(38,me7),(40,me8),(41,me9),(2,A4l),(3,A4w),(4,A5a),(5,A5s),(6,A6d),(8,A6x),(9,A7p),(10,A8a),(11,A8o),(12,A9w),(13,B1b),(15,B1e),(16,B2e),(7,B3c),(14,B3v),(42,B5c),(21,B6e),(33,B8b),(22,B8q),(23,C1k),(24,C4m),(25,C5k),(28,C8m),(29,C9o)]
def D2m:Value:=ag [.func (.func 123) #[ag (B2 (⟨1,9999⟩:Spn))] #[],.func (.func 123) #[ag (B2 (⟨0,0⟩:Spn))] #[]]
def E3z:List (Int×Value):=[(17,me0),(18,me1),(19,me2),(20,me3),(26,me4),(27,me5),(35,me6),(38,me7),(40,me8),(41,me9),(2,A4l),(3,A4w),(4,A5a),(5,A5s),(6,A6d),(8,A6x),(9,A7p),(10,A8a),(11,A8o),(12,A9w),(13,B1b),(15,B1e),(16,B2e),(7,B3c),(14,B3v),(42,B5c),(21,B6e),(33,B8b),(22,B8q),(23,C1k),(24,C4m),(25,C5k),(28,C8m),(29,C9o),(30,D2m)]
def D6u:Value:=ag [.func (.func 123) #[ag (B2 (⟨1,9999⟩:Spn))] #[],.func (.func 123) #[ag (B2 (⟨0,0⟩:Spn))] #[]]
def E5a:List (Int×Value):=[(17,me0),(18,me1),(19,me2),(20,me3),(26,me4),(27,me5),(35,me6),(38,me7),(40,me8),(41,me9),(2,A4l),(3,A4w),(4,A5a),(5,A5s),(6,A6d),(8,A6x),(9,A7p),(10,A8a),(11,A8o),(12,A9w),(13,B1b),(15,B1e),(16,B2e),(7,B3c),(14,B3v),(42,B5c),(21,B6e),(33,B8b),(22,B8q),(23,C1k),(24,C4m),(25,C5k),(28,C8m),(29,C9o),(30,D2m),(31,D6u)]
def D8p:Value:=ag [.func (.func 123) #[ag (B2 (⟨1,9999⟩:Spn))] #[],.func (.func 123) #[ag (B2 (⟨0,0⟩:Spn))] #[]]
def E4g:List (Int×Value):=[(17,me0),(18,me1),(19,me2),(20,me3),(26,me4),(27,me5),(35,me6),(38,me7),(40,me8),(41,me9),(2,A4l),(3,A4w),(4,A5a),(5,A5s),(6,A6d),(8,A6x),(9,A7p),(10,A8a),(11,A8o),(12,A9w),(13,B1b),(15,B1e),(16,B2e),(7,B3c),(14,B3v),(42,B5c),(21,B6e),(33,B8b),(22,B8q),(23,C1k),(24,C4m),(25,C5k),(28,C8m),(29,C9o),(30,D2m),(31,D6u),(32,D8p)]
def E2e:Value:=ag [.func (.func 123) #[ag (B2 (⟨1,9999⟩:Spn))] #[],.func (.func 123) #[ag (B2 (⟨0,0⟩:Spn))] #[]]
def E4q:List (Int×Value):=[(17,me0),(18,me1),(19,me2),(20,me3),(26,me4),(27,me5),(35,me6),(38,me7),(40,me8),(41,me9),(2,A4l),(3,A4w),(4,A5a),(5,A5s),(6,A6d),(8,A6x),(9,A7p),(10,A8a),(11,A8o),(12,A9w),(13,B1b),(15,B1e),(16,B2e),(7,B3c),(14,B3v),(42,B5c),(21,B6e),(33,B8b),(22,B8q),(23,C1k),(24,C4m),(25,C5k),(28,C8m),(29,C9o),(30,D2m),(31,D6u),(32,D8p),(34,E2e)]
def E3j:Value:=ag [.func (.func 123) #[ag (B2 (⟨0,9999⟩:Spn))] #[],.func (.func 123) #[ag (B2 (⟨0,1⟩:Spn))] #[]]
def E4m:List (Int×Value):=[(17,me0),(18,me1),(19,me2),(20,me3),(26,me4),(27,me5),(35,me6),(38,me7),(40,me8),(41,me9),(2,A4l),(3,A4w),(4,A5a),(5,A5s),(6,A6d),(8,A6x),(9,A7p),(10,A8a),(11,A8o),(12,A9w),(13,B1b),(15,B1e),(16,B2e),(7,B3c),(14,B3v),(42,B5c),(21,B6e),(33,B8b),(22,B8q),(23,C1k),(24,C4m),(25,C5k),(28,C8m),(29,C9o),(30,D2m),(31,D6u),(32,D8p),(34,E2e),(36,E3j)]
def E6f:Value:=ag [.func (.func 123) #[ag (B2 (⟨0,9999⟩:Spn))] #[],.func (.func 123) #[ag (B2 (⟨0,1⟩:Spn))] #[]]
def E3h:List (Int×Value):=[(17,me0),(18,me1),(19,me2),(20,me3),(26,me4),(27,me5),(35,me6),(38,me7),(40,me8),(41,me9),(2,A4l),(3,A4w),(4,A5a),(5,A5s),(6,A6d),(8,A6x),(9,A7p),(10,A8a),(11,A8o),(12,A9w),(13,B1b),(15,B1e),(16,B2e),(7,B3c),(14,B3v),(42,B5c),(21,B6e),(33,B8b),(22,B8q),(23,C1k),(24,C4m),(25,C5k),(28,C8m),(29,C9o),(30,D2m),(31,D6u),(32,D8p),(34,E2e),(36,E3j),(37,E6f)]
def E8f:Value:=ag [.func (.func 123) #[ag (B2 (⟨0,9999⟩:Spn))] #[],.func (.func 123) #[ag (B2 (⟨0,1⟩:Spn))] #[]]
def C7d:List (Int×Value):=[(17,me0),(18,me1),(19,me2),(20,me3),(26,me4),(27,me5),(35,me6),(38,me7),(40,me8),(41,me9),(2,A4l),(3,A4w),(4,A5a),(5,A5s),(6,A6d),(8,A6x),(9,A7p),(10,A8a),(11,A8o),(12,A9w),(13,B1b),(15,B1e),(16,B2e),(7,B3c),(14,B3v),(42,B5c),(21,B6e),(33,B8b),(22,B8q),(23,C1k),(24,C4m),(25,C5k),(28,C8m),(29,C9o),(30,D2m),(31,D6u),(32,D8p),(34,E2e),(36,E3j),(37,E6f),(43,E8f)]
def B4f:Unit :=
 ()
set_option maxHeartbeats 2000000 in
theorem Z5 (R:Unit) (hR:B4f=R):Con Tryz.prog 66 [] [] [] (Nat) (fun x=>.map (some x)) (fun x=>[(x,.map (B0 C7d 0).toArray 41)]) (fun x=>[]):=by
 refine zco Tryz.func66 [] fun X hX hr hD=>?_
 replace hR:=(B4f.eq_1 ..).symm.trans hR
 refine sr 1 rfl (ip' 1 0 [] ?_)
 refine ie (sr 10 rfl (zca (C0z _ rfl) fn0 ?_))
 refine ip' 9 0 [(1,.func (.func 123) #[ag (B2 (⟨0,0⟩:Spn))] #[]),(2,.func (.func 123) #[ag (B2 (⟨0,1⟩:Spn))] #[]),(3,.func (.func 123) #[ag (B2 (⟨1,9999⟩:Spn))] #[]),(4,.func (.func 123) #[ag (B2 (⟨0,9999⟩:Spn))] #[])] ?_
 refine ie (sr 49 rfl (it rfl (A9y rfl) fun b1=>?_))
 refine zrl 4 44 [] [(26,ag [.func (.func 123) #[ag (B2 (⟨0,3⟩:Spn))] #[],.func (.func 123) #[ag (B2 (⟨0,1⟩:Spn))] #[]])] ?_
 refine it rfl (D0 (es:=#[]) (es':=(B0 mt0 0).toArray) K3 (.inl rfl) rfl rfl rfl 0 rfl (by kernel_rfl) (by kernel_rfl)) fun _=>?_
 refine znl [(b1,.map (B0 mt0 0).toArray 1)] ?_
 refine zrl 4 39 [] [(30,ag [.func (.func 123) #[ag (B2 (⟨2,3⟩:Spn))] #[],.func (.func 123) #[ag (B2 (⟨0,0⟩:Spn))] #[]])] ?_
 refine it rfl (D0 (es:=(B0 mt0 0).toArray) (es':=(B0 mt1 0).toArray) K3 (.inl rfl) rfl rfl rfl 0 rfl (by kernel_rfl) (by kernel_rfl)) fun _=>?_
 refine znl [(b1,.map (B0 mt1 0).toArray 2)] ?_
 refine zrl 3 35 [] [(33,ag [.func (.func 123) #[ag (B2 (⟨1,9999⟩:Spn))] #[],.func (.func 123) #[ag (B2 (⟨1,9999⟩:Spn))] #[]])] ?_
 refine it rfl (D0 (es:=(B0 mt1 0).toArray) (es':=(B0 mt2 0).toArray) K3 (.inl rfl) rfl rfl rfl 0 rfl (by kernel_rfl) (by kernel_rfl)) fun _=>?_
 refine znl [(b1,.map (B0 mt2 0).toArray 3)] ?_
 refine zrl 4 30 [] [(37,ag [.func (.func 123) #[ag (B2 (⟨0,3⟩:Spn))] #[],.func (.func 123) #[ag (B2 (⟨1,9999⟩:Spn))] #[]])] ?_
 refine it rfl (D0 (es:=(B0 mt2 0).toArray) (es':=(B0 mt3 0).toArray) K3 (.inl rfl) rfl rfl rfl 0 rfl (by kernel_rfl) (by kernel_rfl)) fun _=>?_
 refine znl [(b1,.map (B0 mt3 0).toArray 4)] ?_
 refine zrl 4 25 [] [(41,ag [.func (.func 123) #[ag (B2 (⟨0,3⟩:Spn))] #[],.func (.func 123) #[ag (B2 (⟨0,0⟩:Spn))] #[]])] ?_
 refine it rfl (D0 (es:=(B0 mt3 0).toArray) (es':=(B0 mt4 0).toArray) K3 (.inl rfl) rfl rfl rfl 0 rfl (by kernel_rfl) (by kernel_rfl)) fun _=>?_
 refine znl [(b1,.map (B0 mt4 0).toArray 5)] ?_
 refine zrl 4 20 [] [(45,ag [.func (.func 123) #[ag (B2 (⟨0,2⟩:Spn))] #[],.func (.func 123) #[ag (B2 (⟨0,0⟩:Spn))] #[]])] ?_
 refine it rfl (D0 (es:=(B0 mt4 0).toArray) (es':=(B0 mt5 0).toArray) K3 (.inl rfl) rfl rfl rfl 0 rfl (by kernel_rfl) (by kernel_rfl)) fun _=>?_
 refine znl [(b1,.map (B0 mt5 0).toArray 6)] ?_
 refine zrl 2 17 [] [(47,ag [.func (.func 124) #[] #[],.func (.func 123) #[ag (B2 (⟨0,0⟩:Spn))] #[]])] ?_
 refine it rfl (D0 (es:=(B0 mt5 0).toArray) (es':=(B0 mt6 0).toArray) K3 (.inl rfl) rfl rfl rfl 0 rfl (by kernel_rfl) (by kernel_rfl)) fun _=>?_
 refine znl [(b1,.map (B0 mt6 0).toArray 7)] ?_
 refine zrl 3 13 [] [(50,ag [.func (.func 123) #[ag (B2 (⟨0,9999⟩:Spn))] #[],.func (.func 123) #[ag (B2 (⟨0,9999⟩:Spn))] #[]])] ?_
 refine it rfl (D0 (es:=(B0 mt6 0).toArray) (es':=(B0 mt7 0).toArray) K3 (.inl rfl) rfl rfl rfl 0 rfl (by kernel_rfl) (by kernel_rfl)) fun _=>?_
 refine znl [(b1,.map (B0 mt7 0).toArray 8)] ?_
 refine zrl 4 8 [] [(54,ag [.func (.func 123) #[ag (B2 (⟨0,6⟩:Spn))] #[],.func (.func 123) #[ag (B2 (⟨0,0⟩:Spn))] #[]])] ?_
 refine it rfl (D0 (es:=(B0 mt7 0).toArray) (es':=(B0 mt8 0).toArray) K3 (.inl rfl) rfl rfl rfl 0 rfl (by kernel_rfl) (by kernel_rfl)) fun _=>?_
 refine znl [(b1,.map (B0 mt8 0).toArray 9)] ?_
 refine zrl 4 3 [] [(58,ag [.func (.func 123) #[ag (B2 (⟨5,6⟩:Spn))] #[],.func (.func 123) #[ag (B2 (⟨0,0⟩:Spn))] #[]])] ?_
 refine it rfl (D0 (es:=(B0 mt8 0).toArray) (es':=(B0 mt9 0).toArray) K3 (.inl rfl) rfl rfl rfl 0 rfl (by kernel_rfl) (by kernel_rfl)) fun _=>?_
 refine znl [(b1,.map (B0 mt9 0).toArray 10)] ?_
 refine ip' 2 0 [(5,.map (some b1))] ?_
 refine ie (A8 (sr 2 rfl (zrl 2 0 [] [(60,ag [iv 2,iv 3,iv 4,iv 5,iv 6,iv 8,iv 9,iv 10,iv 11,iv 12,iv 13,iv 15,iv 16]),(61,iv 0)] ?_)))
 refine ie (B3 (A5q 15 ?_))
 refine G5 (sr 1 rfl (ip' 1 0 [(62,bv true)] ?_))
 refine ie (A8 (N1 rfl (A6 (nx (A8 (B3 (sr 2 rfl (ix rfl (G2 (v:=iv 2) (us:=[iv 2]) Tryz.underlying204 ty3 rfl rfl rfl 0 rfl (by decide) rfl rfl rfl) ?_))))))))
 refine ip' 1 0 [(7,iv 2)] ?_
 refine ie (A2 6 rfl (zrl 5 1 [] [(64,.map (some b1)),(65,iv 2),(68,ag [.func (.func 123) #[ag (B2 (⟨0,0⟩:Spn))] #[],.func (.func 123) #[ag (B2 (⟨0,0⟩:Spn))] #[]])] ?_))
 refine it rfl (D0 (es:=(B0 mt9 0).toArray) (es':=(B0 E3l 0).toArray) K3 (.inr rfl) rfl rfl rfl 0 rfl (by kernel_rfl) (by kernel_rfl)) fun _=>?_
 refine znl [(b1,.map (B0 E3l 0).toArray 11)] ?_
 refine A3 (nx (A2 2 rfl (ix rfl (B5 (c:=1) rfl rfl rfl rfl (by decide)) ?_)))
 refine ip' 1 0 [(61,iv 1)] ?_
 refine A3 (G5 (sr 1 rfl (ip' 1 0 [(62,bv true)] ?_)))
 refine ie (A8 (N1 rfl (A6 (nx (A8 (B3 (sr 2 rfl (ix rfl (G2 (v:=iv 3) (us:=[iv 3]) Tryz.underlying204 ty3 rfl rfl rfl 1 rfl (by decide) rfl rfl rfl) ?_))))))))
 refine ip' 1 0 [(7,iv 3)] ?_
 refine ie (A2 6 rfl (zrl 5 1 [] [(64,.map (some b1)),(65,iv 3),(68,ag [.func (.func 123) #[ag (B2 (⟨0,0⟩:Spn))] #[],.func (.func 123) #[ag (B2 (⟨0,0⟩:Spn))] #[]])] ?_))
 refine it rfl (D0 (es:=(B0 E3l 0).toArray) (es':=(B0 E4w 0).toArray) K3 (.inr rfl) rfl rfl rfl 0 rfl (by kernel_rfl) (by kernel_rfl)) fun _=>?_
 refine znl [(b1,.map (B0 E4w 0).toArray 12)] ?_
 refine A3 (nx (A2 2 rfl (ix rfl (B5 (c:=2) rfl rfl rfl rfl (by decide)) ?_)))
 refine ip' 1 0 [(61,iv 2)] ?_
 refine A3 (G5 (sr 1 rfl (ip' 1 0 [(62,bv true)] ?_)))
 refine ie (A8 (N1 rfl (A6 (nx (A8 (B3 (sr 2 rfl (ix rfl (G2 (v:=iv 4) (us:=[iv 4]) Tryz.underlying204 ty3 rfl rfl rfl 2 rfl (by decide) rfl rfl rfl) ?_))))))))
 refine ip' 1 0 [(7,iv 4)] ?_
 refine ie (A2 6 rfl (zrl 5 1 [] [(64,.map (some b1)),(65,iv 4),(68,ag [.func (.func 123) #[ag (B2 (⟨0,0⟩:Spn))] #[],.func (.func 123) #[ag (B2 (⟨0,0⟩:Spn))] #[]])] ?_))
 refine it rfl (D0 (es:=(B0 E4w 0).toArray) (es':=(B0 E4n 0).toArray) K3 (.inr rfl) rfl rfl rfl 0 rfl (by kernel_rfl) (by kernel_rfl)) fun _=>?_
 refine znl [(b1,.map (B0 E4n 0).toArray 13)] ?_
 refine A3 (nx (A2 2 rfl (ix rfl (B5 (c:=3) rfl rfl rfl rfl (by decide)) ?_)))
 refine ip' 1 0 [(61,iv 3)] ?_
 refine A3 (G5 (sr 1 rfl (ip' 1 0 [(62,bv true)] ?_)))
 refine ie (A8 (N1 rfl (A6 (nx (A8 (B3 (sr 2 rfl (ix rfl (G2 (v:=iv 5) (us:=[iv 5]) Tryz.underlying204 ty3 rfl rfl rfl 3 rfl (by decide) rfl rfl rfl) ?_))))))))
 refine ip' 1 0 [(7,iv 5)] ?_
 refine ie (A2 6 rfl (zrl 5 1 [] [(64,.map (some b1)),(65,iv 5),(68,ag [.func (.func 123) #[ag (B2 (⟨0,0⟩:Spn))] #[],.func (.func 123) #[ag (B2 (⟨0,0⟩:Spn))] #[]])] ?_))
 refine it rfl (D0 (es:=(B0 E4n 0).toArray) (es':=(B0 E5h 0).toArray) K3 (.inr rfl) rfl rfl rfl 0 rfl (by kernel_rfl) (by kernel_rfl)) fun _=>?_
 refine znl [(b1,.map (B0 E5h 0).toArray 14)] ?_
 refine A3 (nx (A2 2 rfl (ix rfl (B5 (c:=4) rfl rfl rfl rfl (by decide)) ?_)))
 refine ip' 1 0 [(61,iv 4)] ?_
 refine A3 (G5 (sr 1 rfl (ip' 1 0 [(62,bv true)] ?_)))
 refine ie (A8 (N1 rfl (A6 (nx (A8 (B3 (sr 2 rfl (ix rfl (G2 (v:=iv 6) (us:=[iv 6]) Tryz.underlying204 ty3 rfl rfl rfl 4 rfl (by decide) rfl rfl rfl) ?_))))))))
 refine ip' 1 0 [(7,iv 6)] ?_
 refine ie (A2 6 rfl (zrl 5 1 [] [(64,.map (some b1)),(65,iv 6),(68,ag [.func (.func 123) #[ag (B2 (⟨0,0⟩:Spn))] #[],.func (.func 123) #[ag (B2 (⟨0,0⟩:Spn))] #[]])] ?_))
 refine it rfl (D0 (es:=(B0 E5h 0).toArray) (es':=(B0 E4c 0).toArray) K3 (.inr rfl) rfl rfl rfl 0 rfl (by kernel_rfl) (by kernel_rfl)) fun _=>?_
 refine znl [(b1,.map (B0 E4c 0).toArray 15)] ?_
 refine A3 (nx (A2 2 rfl (ix rfl (B5 (c:=5) rfl rfl rfl rfl (by decide)) ?_)))
 refine ip' 1 0 [(61,iv 5)] ?_
 refine A3 (G5 (sr 1 rfl (ip' 1 0 [(62,bv true)] ?_)))
 refine ie (A8 (N1 rfl (A6 (nx (A8 (B3 (sr 2 rfl (ix rfl (G2 (v:=iv 8) (us:=[iv 8]) Tryz.underlying204 ty3 rfl rfl rfl 5 rfl (by decide) rfl rfl rfl) ?_))))))))
 refine ip' 1 0 [(7,iv 8)] ?_
 refine ie (A2 6 rfl (zrl 5 1 [] [(64,.map (some b1)),(65,iv 8),(68,ag [.func (.func 123) #[ag (B2 (⟨0,0⟩:Spn))] #[],.func (.func 123) #[ag (B2 (⟨0,0⟩:Spn))] #[]])] ?_))
 refine it rfl (D0 (es:=(B0 E4c 0).toArray) (es':=(B0 E5n 0).toArray) K3 (.inr rfl) rfl rfl rfl 0 rfl (by kernel_rfl) (by kernel_rfl)) fun _=>?_
 refine znl [(b1,.map (B0 E5n 0).toArray 16)] ?_
 refine A3 (nx (A2 2 rfl (ix rfl (B5 (c:=6) rfl rfl rfl rfl (by decide)) ?_)))
 refine ip' 1 0 [(61,iv 6)] ?_
 refine A3 (G5 (sr 1 rfl (ip' 1 0 [(62,bv true)] ?_)))
 refine ie (A8 (N1 rfl (A6 (nx (A8 (B3 (sr 2 rfl (ix rfl (G2 (v:=iv 9) (us:=[iv 9]) Tryz.underlying204 ty3 rfl rfl rfl 6 rfl (by decide) rfl rfl rfl) ?_))))))))
 refine ip' 1 0 [(7,iv 9)] ?_
 refine ie (A2 6 rfl (zrl 5 1 [] [(64,.map (some b1)),(65,iv 9),(68,ag [.func (.func 123) #[ag (B2 (⟨0,0⟩:Spn))] #[],.func (.func 123) #[ag (B2 (⟨0,0⟩:Spn))] #[]])] ?_))
 refine it rfl (D0 (es:=(B0 E5n 0).toArray) (es':=(B0 E3q 0).toArray) K3 (.inr rfl) rfl rfl rfl 0 rfl (by kernel_rfl) (by kernel_rfl)) fun _=>?_
 refine znl [(b1,.map (B0 E3q 0).toArray 17)] ?_
 refine A3 (nx (A2 2 rfl (ix rfl (B5 (c:=7) rfl rfl rfl rfl (by decide)) ?_)))
 refine ip' 1 0 [(61,iv 7)] ?_
 refine A3 (G5 (sr 1 rfl (ip' 1 0 [(62,bv true)] ?_)))
 refine ie (A8 (N1 rfl (A6 (nx (A8 (B3 (sr 2 rfl (ix rfl (G2 (v:=iv 10) (us:=[iv 10]) Tryz.underlying204 ty3 rfl rfl rfl 7 rfl (by decide) rfl rfl rfl) ?_))))))))
 refine ip' 1 0 [(7,iv 10)] ?_
 refine ie (A2 6 rfl (zrl 5 1 [] [(64,.map (some b1)),(65,iv 10),(68,ag [.func (.func 123) #[ag (B2 (⟨0,0⟩:Spn))] #[],.func (.func 123) #[ag (B2 (⟨0,0⟩:Spn))] #[]])] ?_))
 refine it rfl (D0 (es:=(B0 E3q 0).toArray) (es':=(B0 E4d 0).toArray) K3 (.inr rfl) rfl rfl rfl 0 rfl (by kernel_rfl) (by kernel_rfl)) fun _=>?_
 refine znl [(b1,.map (B0 E4d 0).toArray 18)] ?_
 refine A3 (nx (A2 2 rfl (ix rfl (B5 (c:=8) rfl rfl rfl rfl (by decide)) ?_)))
 refine ip' 1 0 [(61,iv 8)] ?_
 refine A3 (G5 (sr 1 rfl (ip' 1 0 [(62,bv true)] ?_)))
 refine ie (A8 (N1 rfl (A6 (nx (A8 (B3 (sr 2 rfl (ix rfl (G2 (v:=iv 11) (us:=[iv 11]) Tryz.underlying204 ty3 rfl rfl rfl 8 rfl (by decide) rfl rfl rfl) ?_))))))))
 refine ip' 1 0 [(7,iv 11)] ?_
 refine ie (A2 6 rfl (zrl 5 1 [] [(64,.map (some b1)),(65,iv 11),(68,ag [.func (.func 123) #[ag (B2 (⟨0,0⟩:Spn))] #[],.func (.func 123) #[ag (B2 (⟨0,0⟩:Spn))] #[]])] ?_))
 refine it rfl (D0 (es:=(B0 E4d 0).toArray) (es':=(B0 E4p 0).toArray) K3 (.inr rfl) rfl rfl rfl 0 rfl (by kernel_rfl) (by kernel_rfl)) fun _=>?_
 refine znl [(b1,.map (B0 E4p 0).toArray 19)] ?_
 refine A3 (nx (A2 2 rfl (ix rfl (B5 (c:=9) rfl rfl rfl rfl (by decide)) ?_)))
 refine ip' 1 0 [(61,iv 9)] ?_
 refine A3 (G5 (sr 1 rfl (ip' 1 0 [(62,bv true)] ?_)))
 refine ie (A8 (N1 rfl (A6 (nx (A8 (B3 (sr 2 rfl (ix rfl (G2 (v:=iv 12) (us:=[iv 12]) Tryz.underlying204 ty3 rfl rfl rfl 9 rfl (by decide) rfl rfl rfl) ?_))))))))
 refine ip' 1 0 [(7,iv 12)] ?_
 refine ie (A2 6 rfl (zrl 5 1 [] [(64,.map (some b1)),(65,iv 12),(68,ag [.func (.func 123) #[ag (B2 (⟨0,0⟩:Spn))] #[],.func (.func 123) #[ag (B2 (⟨0,0⟩:Spn))] #[]])] ?_))
 refine it rfl (D0 (es:=(B0 E4p 0).toArray) (es':=(B0 E3d 0).toArray) K3 (.inr rfl) rfl rfl rfl 0 rfl (by kernel_rfl) (by kernel_rfl)) fun _=>?_
 refine znl [(b1,.map (B0 E3d 0).toArray 20)] ?_
 refine A3 (nx (A2 2 rfl (ix rfl (B5 (c:=10) rfl rfl rfl rfl (by decide)) ?_)))
 refine ip' 1 0 [(61,iv 10)] ?_
 refine A3 (G5 (sr 1 rfl (ip' 1 0 [(62,bv true)] ?_)))
 refine ie (A8 (N1 rfl (A6 (nx (A8 (B3 (sr 2 rfl (ix rfl (G2 (v:=iv 13) (us:=[iv 13]) Tryz.underlying204 ty3 rfl rfl rfl 10 rfl (by decide) rfl rfl rfl) ?_))))))))
 refine ip' 1 0 [(7,iv 13)] ?_
 refine ie (A2 6 rfl (zrl 5 1 [] [(64,.map (some b1)),(65,iv 13),(68,ag [.func (.func 123) #[ag (B2 (⟨0,0⟩:Spn))] #[],.func (.func 123) #[ag (B2 (⟨0,0⟩:Spn))] #[]])] ?_))
 refine it rfl (D0 (es:=(B0 E3d 0).toArray) (es':=(B0 E4h 0).toArray) K3 (.inr rfl) rfl rfl rfl 0 rfl (by kernel_rfl) (by kernel_rfl)) fun _=>?_
 refine znl [(b1,.map (B0 E4h 0).toArray 21)] ?_
 refine A3 (nx (A2 2 rfl (ix rfl (B5 (c:=11) rfl rfl rfl rfl (by decide)) ?_)))
 refine ip' 1 0 [(61,iv 11)] ?_
 refine A3 (G5 (sr 1 rfl (ip' 1 0 [(62,bv true)] ?_)))
 refine ie (A8 (N1 rfl (A6 (nx (A8 (B3 (sr 2 rfl (ix rfl (G2 (v:=iv 15) (us:=[iv 15]) Tryz.underlying204 ty3 rfl rfl rfl 11 rfl (by decide) rfl rfl rfl) ?_))))))))
 refine ip' 1 0 [(7,iv 15)] ?_
 refine ie (A2 6 rfl (zrl 5 1 [] [(64,.map (some b1)),(65,iv 15),(68,ag [.func (.func 123) #[ag (B2 (⟨0,0⟩:Spn))] #[],.func (.func 123) #[ag (B2 (⟨0,0⟩:Spn))] #[]])] ?_))
 refine it rfl (D0 (es:=(B0 E4h 0).toArray) (es':=(B0 E5k 0).toArray) K3 (.inr rfl) rfl rfl rfl 0 rfl (by kernel_rfl) (by kernel_rfl)) fun _=>?_
 refine znl [(b1,.map (B0 E5k 0).toArray 22)] ?_
 refine A3 (nx (A2 2 rfl (ix rfl (B5 (c:=12) rfl rfl rfl rfl (by decide)) ?_)))
 refine ip' 1 0 [(61,iv 12)] ?_
 refine A3 (G5 (sr 1 rfl (ip' 1 0 [(62,bv true)] ?_)))
 refine ie (A8 (N1 rfl (A6 (nx (A8 (B3 (sr 2 rfl (ix rfl (G2 (v:=iv 16) (us:=[iv 16]) Tryz.underlying204 ty3 rfl rfl rfl 12 rfl (by decide) rfl rfl rfl) ?_))))))))
 refine ip' 1 0 [(7,iv 16)] ?_
 refine ie (A2 6 rfl (zrl 5 1 [] [(64,.map (some b1)),(65,iv 16),(68,ag [.func (.func 123) #[ag (B2 (⟨0,0⟩:Spn))] #[],.func (.func 123) #[ag (B2 (⟨0,0⟩:Spn))] #[]])] ?_))
 refine it rfl (D0 (es:=(B0 E5k 0).toArray) (es':=(B0 E4o 0).toArray) K3 (.inr rfl) rfl rfl rfl 0 rfl (by kernel_rfl) (by kernel_rfl)) fun _=>?_
 refine znl [(b1,.map (B0 E4o 0).toArray 23)] ?_
 refine A3 (nx (A2 2 rfl (ix rfl (B5 (c:=13) rfl rfl rfl rfl (by decide)) ?_)))
 refine ip' 1 0 [(61,iv 13)] ?_
 refine A3 (G5 (sr 1 rfl (ip' 1 0 [(62,bv false)] ?_)))
 refine ie (A8 (A9u rfl (I3 (nx (A8 (sr 2 rfl (zrl 2 0 [] [(70,ag (C4l (⟨7,14,42⟩:Ar3))),(71,iv 0)] ?_)))))))
 refine ie (B3 (A5q 5 ?_))
 refine G5 (sr 1 rfl (ip' 1 0 [(72,bv true)] ?_))
 refine ie (A8 (N1 rfl (A6 (nx (A8 (B3 (sr 2 rfl (ix rfl (G2 (v:=iv 7) (us:=[iv 7]) Tryz.underlying205 ty3 rfl rfl rfl 0 rfl (by decide) rfl rfl rfl) ?_))))))))
 refine ip' 1 0 [(9,iv 7)] ?_
 refine ie (A2 6 rfl (zrl 5 1 [] [(74,.map (some b1)),(75,iv 7),(78,ag [.func (.func 123) #[ag (B2 (⟨0,1⟩:Spn))] #[],.func (.func 123) #[ag (B2 (⟨0,0⟩:Spn))] #[]])] ?_))
 refine it rfl (D0 (es:=(B0 E4o 0).toArray) (es':=(B0 E3u 0).toArray) K3 (.inr rfl) rfl rfl rfl 0 rfl (by kernel_rfl) (by kernel_rfl)) fun _=>?_
 refine znl [(b1,.map (B0 E3u 0).toArray 24)] ?_
 refine A3 (nx (A2 2 rfl (ix rfl (B5 (c:=1) rfl rfl rfl rfl (by decide)) ?_)))
 refine ip' 1 0 [(71,iv 1)] ?_
 refine A3 (G5 (sr 1 rfl (ip' 1 0 [(72,bv true)] ?_)))
 refine ie (A8 (N1 rfl (A6 (nx (A8 (B3 (sr 2 rfl (ix rfl (G2 (v:=iv 14) (us:=[iv 14]) Tryz.underlying205 ty3 rfl rfl rfl 1 rfl (by decide) rfl rfl rfl) ?_))))))))
 refine ip' 1 0 [(9,iv 14)] ?_
 refine ie (A2 6 rfl (zrl 5 1 [] [(74,.map (some b1)),(75,iv 14),(78,ag [.func (.func 123) #[ag (B2 (⟨0,1⟩:Spn))] #[],.func (.func 123) #[ag (B2 (⟨0,0⟩:Spn))] #[]])] ?_))
 refine it rfl (D0 (es:=(B0 E3u 0).toArray) (es':=(B0 E5s 0).toArray) K3 (.inr rfl) rfl rfl rfl 0 rfl (by kernel_rfl) (by kernel_rfl)) fun _=>?_
 refine znl [(b1,.map (B0 E5s 0).toArray 25)] ?_
 refine A3 (nx (A2 2 rfl (ix rfl (B5 (c:=2) rfl rfl rfl rfl (by decide)) ?_)))
 refine ip' 1 0 [(71,iv 2)] ?_
 refine A3 (G5 (sr 1 rfl (ip' 1 0 [(72,bv true)] ?_)))
 refine ie (A8 (N1 rfl (A6 (nx (A8 (B3 (sr 2 rfl (ix rfl (G2 (v:=iv 42) (us:=[iv 42]) Tryz.underlying205 ty3 rfl rfl rfl 2 rfl (by decide) rfl rfl rfl) ?_))))))))
 refine ip' 1 0 [(9,iv 42)] ?_
 refine ie (A2 6 rfl (zrl 5 1 [] [(74,.map (some b1)),(75,iv 42),(78,ag [.func (.func 123) #[ag (B2 (⟨0,1⟩:Spn))] #[],.func (.func 123) #[ag (B2 (⟨0,0⟩:Spn))] #[]])] ?_))
 refine it rfl (D0 (es:=(B0 E5s 0).toArray) (es':=(B0 E5e 0).toArray) K3 (.inr rfl) rfl rfl rfl 0 rfl (by kernel_rfl) (by kernel_rfl)) fun _=>?_
 refine znl [(b1,.map (B0 E5e 0).toArray 26)] ?_
 refine A3 (nx (A2 2 rfl (ix rfl (B5 (c:=3) rfl rfl rfl rfl (by decide)) ?_)))
 refine ip' 1 0 [(71,iv 3)] ?_
 refine A3 (G5 (sr 1 rfl (ip' 1 0 [(72,bv false)] ?_)))
 refine ie (A8 (A9u rfl (I3 (nx (A8 (sr 2 rfl (zrl 2 0 [] [(80,ag (A1f (⟨21,33⟩:Ar2))),(81,iv 0)] ?_)))))))
 refine ie (B3 (A5q 4 ?_))
 refine G5 (sr 1 rfl (ip' 1 0 [(82,bv true)] ?_))
 refine ie (A8 (N1 rfl (A6 (nx (A8 (B3 (sr 2 rfl (ix rfl (G2 (v:=iv 21) (us:=[iv 21]) Tryz.underlying71 ty3 rfl rfl rfl 0 rfl (by decide) rfl rfl rfl) ?_))))))))
 refine ip' 1 0 [(11,iv 21)] ?_
 refine ie (A2 6 rfl (zrl 5 1 [] [(84,.map (some b1)),(85,iv 21),(88,ag [.func (.func 123) #[ag (B2 (⟨0,1⟩:Spn))] #[],.func (.func 123) #[ag (B2 (⟨1,9999⟩:Spn))] #[]])] ?_))
 refine it rfl (D0 (es:=(B0 E5e 0).toArray) (es':=(B0 E5m 0).toArray) K3 (.inr rfl) rfl rfl rfl 0 rfl (by kernel_rfl) (by kernel_rfl)) fun _=>?_
 refine znl [(b1,.map (B0 E5m 0).toArray 27)] ?_
 refine A3 (nx (A2 2 rfl (ix rfl (B5 (c:=1) rfl rfl rfl rfl (by decide)) ?_)))
 refine ip' 1 0 [(81,iv 1)] ?_
 refine A3 (G5 (sr 1 rfl (ip' 1 0 [(82,bv true)] ?_)))
 refine ie (A8 (N1 rfl (A6 (nx (A8 (B3 (sr 2 rfl (ix rfl (G2 (v:=iv 33) (us:=[iv 33]) Tryz.underlying71 ty3 rfl rfl rfl 1 rfl (by decide) rfl rfl rfl) ?_))))))))
 refine ip' 1 0 [(11,iv 33)] ?_
 refine ie (A2 6 rfl (zrl 5 1 [] [(84,.map (some b1)),(85,iv 33),(88,ag [.func (.func 123) #[ag (B2 (⟨0,1⟩:Spn))] #[],.func (.func 123) #[ag (B2 (⟨1,9999⟩:Spn))] #[]])] ?_))
 refine it rfl (D0 (es:=(B0 E5m 0).toArray) (es':=(B0 E4l 0).toArray) K3 (.inr rfl) rfl rfl rfl 0 rfl (by kernel_rfl) (by kernel_rfl)) fun _=>?_
 refine znl [(b1,.map (B0 E4l 0).toArray 28)] ?_
 refine A3 (nx (A2 2 rfl (ix rfl (B5 (c:=2) rfl rfl rfl rfl (by decide)) ?_)))
 refine ip' 1 0 [(81,iv 2)] ?_
 refine A3 (G5 (sr 1 rfl (ip' 1 0 [(82,bv false)] ?_)))
 refine ie (A8 (A9u rfl (I3 (nx (A8 (sr 2 rfl (zrl 2 0 [] [(90,ag [iv 22,iv 23,iv 24,iv 25,iv 28,iv 29,iv 30,iv 31,iv 32,iv 34]),(91,iv 0)] ?_)))))))
 refine ie (B3 (A5q 12 ?_))
 refine G5 (sr 1 rfl (ip' 1 0 [(92,bv true)] ?_))
 refine ie (A8 (N1 rfl (A6 (nx (A8 (B3 (sr 2 rfl (ix rfl (G2 (v:=iv 22) (us:=[iv 22]) Tryz.underlying206 ty3 rfl rfl rfl 0 rfl (by decide) rfl rfl rfl) ?_))))))))
 refine ip' 1 0 [(13,iv 22)] ?_
 refine ie (A2 6 rfl (zrl 5 1 [] [(94,.map (some b1)),(95,iv 22),(98,ag [.func (.func 123) #[ag (B2 (⟨1,9999⟩:Spn))] #[],.func (.func 123) #[ag (B2 (⟨0,0⟩:Spn))] #[]])] ?_))
 refine it rfl (D0 (es:=(B0 E4l 0).toArray) (es':=(B0 E3a 0).toArray) K3 (.inr rfl) rfl rfl rfl 0 rfl (by kernel_rfl) (by kernel_rfl)) fun _=>?_
 refine znl [(b1,.map (B0 E3a 0).toArray 29)] ?_
 refine A3 (nx (A2 2 rfl (ix rfl (B5 (c:=1) rfl rfl rfl rfl (by decide)) ?_)))
 refine ip' 1 0 [(91,iv 1)] ?_
 refine A3 (G5 (sr 1 rfl (ip' 1 0 [(92,bv true)] ?_)))
 refine ie (A8 (N1 rfl (A6 (nx (A8 (B3 (sr 2 rfl (ix rfl (G2 (v:=iv 23) (us:=[iv 23]) Tryz.underlying206 ty3 rfl rfl rfl 1 rfl (by decide) rfl rfl rfl) ?_))))))))
 refine ip' 1 0 [(13,iv 23)] ?_
 refine ie (A2 6 rfl (zrl 5 1 [] [(94,.map (some b1)),(95,iv 23),(98,ag [.func (.func 123) #[ag (B2 (⟨1,9999⟩:Spn))] #[],.func (.func 123) #[ag (B2 (⟨0,0⟩:Spn))] #[]])] ?_))
 refine it rfl (D0 (es:=(B0 E3a 0).toArray) (es':=(B0 E5q 0).toArray) K3 (.inr rfl) rfl rfl rfl 0 rfl (by kernel_rfl) (by kernel_rfl)) fun _=>?_
 refine znl [(b1,.map (B0 E5q 0).toArray 30)] ?_
 refine A3 (nx (A2 2 rfl (ix rfl (B5 (c:=2) rfl rfl rfl rfl (by decide)) ?_)))
 refine ip' 1 0 [(91,iv 2)] ?_
 refine A3 (G5 (sr 1 rfl (ip' 1 0 [(92,bv true)] ?_)))
 refine ie (A8 (N1 rfl (A6 (nx (A8 (B3 (sr 2 rfl (ix rfl (G2 (v:=iv 24) (us:=[iv 24]) Tryz.underlying206 ty3 rfl rfl rfl 2 rfl (by decide) rfl rfl rfl) ?_))))))))
 refine ip' 1 0 [(13,iv 24)] ?_
 refine ie (A2 6 rfl (zrl 5 1 [] [(94,.map (some b1)),(95,iv 24),(98,ag [.func (.func 123) #[ag (B2 (⟨1,9999⟩:Spn))] #[],.func (.func 123) #[ag (B2 (⟨0,0⟩:Spn))] #[]])] ?_))
 refine it rfl (D0 (es:=(B0 E5q 0).toArray) (es':=(B0 E3s 0).toArray) K3 (.inr rfl) rfl rfl rfl 0 rfl (by kernel_rfl) (by kernel_rfl)) fun _=>?_
 refine znl [(b1,.map (B0 E3s 0).toArray 31)] ?_
 refine A3 (nx (A2 2 rfl (ix rfl (B5 (c:=3) rfl rfl rfl rfl (by decide)) ?_)))
 refine ip' 1 0 [(91,iv 3)] ?_
 refine A3 (G5 (sr 1 rfl (ip' 1 0 [(92,bv true)] ?_)))
 refine ie (A8 (N1 rfl (A6 (nx (A8 (B3 (sr 2 rfl (ix rfl (G2 (v:=iv 25) (us:=[iv 25]) Tryz.underlying206 ty3 rfl rfl rfl 3 rfl (by decide) rfl rfl rfl) ?_))))))))
 refine ip' 1 0 [(13,iv 25)] ?_
 refine ie (A2 6 rfl (zrl 5 1 [] [(94,.map (some b1)),(95,iv 25),(98,ag [.func (.func 123) #[ag (B2 (⟨1,9999⟩:Spn))] #[],.func (.func 123) #[ag (B2 (⟨0,0⟩:Spn))] #[]])] ?_))
 refine it rfl (D0 (es:=(B0 E3s 0).toArray) (es':=(B0 E5p 0).toArray) K3 (.inr rfl) rfl rfl rfl 0 rfl (by kernel_rfl) (by kernel_rfl)) fun _=>?_
 refine znl [(b1,.map (B0 E5p 0).toArray 32)] ?_
 refine A3 (nx (A2 2 rfl (ix rfl (B5 (c:=4) rfl rfl rfl rfl (by decide)) ?_)))
 refine ip' 1 0 [(91,iv 4)] ?_
 refine A3 (G5 (sr 1 rfl (ip' 1 0 [(92,bv true)] ?_)))
 refine ie (A8 (N1 rfl (A6 (nx (A8 (B3 (sr 2 rfl (ix rfl (G2 (v:=iv 28) (us:=[iv 28]) Tryz.underlying206 ty3 rfl rfl rfl 4 rfl (by decide) rfl rfl rfl) ?_))))))))
 refine ip' 1 0 [(13,iv 28)] ?_
 refine ie (A2 6 rfl (zrl 5 1 [] [(94,.map (some b1)),(95,iv 28),(98,ag [.func (.func 123) #[ag (B2 (⟨1,9999⟩:Spn))] #[],.func (.func 123) #[ag (B2 (⟨0,0⟩:Spn))] #[]])] ?_))
 refine it rfl (D0 (es:=(B0 E5p 0).toArray) (es':=(B0 E3p 0).toArray) K3 (.inr rfl) rfl rfl rfl 0 rfl (by kernel_rfl) (by kernel_rfl)) fun _=>?_
 refine znl [(b1,.map (B0 E3p 0).toArray 33)] ?_
 refine A3 (nx (A2 2 rfl (ix rfl (B5 (c:=5) rfl rfl rfl rfl (by decide)) ?_)))
 refine ip' 1 0 [(91,iv 5)] ?_
 refine A3 (G5 (sr 1 rfl (ip' 1 0 [(92,bv true)] ?_)))
 refine ie (A8 (N1 rfl (A6 (nx (A8 (B3 (sr 2 rfl (ix rfl (G2 (v:=iv 29) (us:=[iv 29]) Tryz.underlying206 ty3 rfl rfl rfl 5 rfl (by decide) rfl rfl rfl) ?_))))))))
 refine ip' 1 0 [(13,iv 29)] ?_
 refine ie (A2 6 rfl (zrl 5 1 [] [(94,.map (some b1)),(95,iv 29),(98,ag [.func (.func 123) #[ag (B2 (⟨1,9999⟩:Spn))] #[],.func (.func 123) #[ag (B2 (⟨0,0⟩:Spn))] #[]])] ?_))
 refine it rfl (D0 (es:=(B0 E3p 0).toArray) (es':=(B0 E4t 0).toArray) K3 (.inr rfl) rfl rfl rfl 0 rfl (by kernel_rfl) (by kernel_rfl)) fun _=>?_
 refine znl [(b1,.map (B0 E4t 0).toArray 34)] ?_
 refine A3 (nx (A2 2 rfl (ix rfl (B5 (c:=6) rfl rfl rfl rfl (by decide)) ?_)))
 refine ip' 1 0 [(91,iv 6)] ?_
 refine A3 (G5 (sr 1 rfl (ip' 1 0 [(92,bv true)] ?_)))
 refine ie (A8 (N1 rfl (A6 (nx (A8 (B3 (sr 2 rfl (ix rfl (G2 (v:=iv 30) (us:=[iv 30]) Tryz.underlying206 ty3 rfl rfl rfl 6 rfl (by decide) rfl rfl rfl) ?_))))))))
 refine ip' 1 0 [(13,iv 30)] ?_
 refine ie (A2 6 rfl (zrl 5 1 [] [(94,.map (some b1)),(95,iv 30),(98,ag [.func (.func 123) #[ag (B2 (⟨1,9999⟩:Spn))] #[],.func (.func 123) #[ag (B2 (⟨0,0⟩:Spn))] #[]])] ?_))
 refine it rfl (D0 (es:=(B0 E4t 0).toArray) (es':=(B0 E3z 0).toArray) K3 (.inr rfl) rfl rfl rfl 0 rfl (by kernel_rfl) (by kernel_rfl)) fun _=>?_
 refine znl [(b1,.map (B0 E3z 0).toArray 35)] ?_
 refine A3 (nx (A2 2 rfl (ix rfl (B5 (c:=7) rfl rfl rfl rfl (by decide)) ?_)))
 refine ip' 1 0 [(91,iv 7)] ?_
 refine A3 (G5 (sr 1 rfl (ip' 1 0 [(92,bv true)] ?_)))
 refine ie (A8 (N1 rfl (A6 (nx (A8 (B3 (sr 2 rfl (ix rfl (G2 (v:=iv 31) (us:=[iv 31]) Tryz.underlying206 ty3 rfl rfl rfl 7 rfl (by decide) rfl rfl rfl) ?_))))))))
 refine ip' 1 0 [(13,iv 31)] ?_
 refine ie (A2 6 rfl (zrl 5 1 [] [(94,.map (some b1)),(95,iv 31),(98,ag [.func (.func 123) #[ag (B2 (⟨1,9999⟩:Spn))] #[],.func (.func 123) #[ag (B2 (⟨0,0⟩:Spn))] #[]])] ?_))
 refine it rfl (D0 (es:=(B0 E3z 0).toArray) (es':=(B0 E5a 0).toArray) K3 (.inr rfl) rfl rfl rfl 0 rfl (by kernel_rfl) (by kernel_rfl)) fun _=>?_
 refine znl [(b1,.map (B0 E5a 0).toArray 36)] ?_
 refine A3 (nx (A2 2 rfl (ix rfl (B5 (c:=8) rfl rfl rfl rfl (by decide)) ?_)))
 refine ip' 1 0 [(91,iv 8)] ?_
 refine A3 (G5 (sr 1 rfl (ip' 1 0 [(92,bv true)] ?_)))
 refine ie (A8 (N1 rfl (A6 (nx (A8 (B3 (sr 2 rfl (ix rfl (G2 (v:=iv 32) (us:=[iv 32]) Tryz.underlying206 ty3 rfl rfl rfl 8 rfl (by decide) rfl rfl rfl) ?_))))))))
 refine ip' 1 0 [(13,iv 32)] ?_
 refine ie (A2 6 rfl (zrl 5 1 [] [(94,.map (some b1)),(95,iv 32),(98,ag [.func (.func 123) #[ag (B2 (⟨1,9999⟩:Spn))] #[],.func (.func 123) #[ag (B2 (⟨0,0⟩:Spn))] #[]])] ?_))
 refine it rfl (D0 (es:=(B0 E5a 0).toArray) (es':=(B0 E4g 0).toArray) K3 (.inr rfl) rfl rfl rfl 0 rfl (by kernel_rfl) (by kernel_rfl)) fun _=>?_
 refine znl [(b1,.map (B0 E4g 0).toArray 37)] ?_
 refine A3 (nx (A2 2 rfl (ix rfl (B5 (c:=9) rfl rfl rfl rfl (by decide)) ?_)))
 refine ip' 1 0 [(91,iv 9)] ?_
 refine A3 (G5 (sr 1 rfl (ip' 1 0 [(92,bv true)] ?_)))
 refine ie (A8 (N1 rfl (A6 (nx (A8 (B3 (sr 2 rfl (ix rfl (G2 (v:=iv 34) (us:=[iv 34]) Tryz.underlying206 ty3 rfl rfl rfl 9 rfl (by decide) rfl rfl rfl) ?_))))))))
 refine ip' 1 0 [(13,iv 34)] ?_
 refine ie (A2 6 rfl (zrl 5 1 [] [(94,.map (some b1)),(95,iv 34),(98,ag [.func (.func 123) #[ag (B2 (⟨1,9999⟩:Spn))] #[],.func (.func 123) #[ag (B2 (⟨0,0⟩:Spn))] #[]])] ?_))
 refine it rfl (D0 (es:=(B0 E4g 0).toArray) (es':=(B0 E4q 0).toArray) K3 (.inr rfl) rfl rfl rfl 0 rfl (by kernel_rfl) (by kernel_rfl)) fun _=>?_
 refine znl [(b1,.map (B0 E4q 0).toArray 38)] ?_
 refine A3 (nx (A2 2 rfl (ix rfl (B5 (c:=10) rfl rfl rfl rfl (by decide)) ?_)))
 refine ip' 1 0 [(91,iv 10)] ?_
 refine A3 (G5 (sr 1 rfl (ip' 1 0 [(92,bv false)] ?_)))
 refine ie (A8 (A9u rfl (I3 (nx (A8 (sr 2 rfl (zrl 2 0 [] [(100,ag (C4l (⟨36,37,43⟩:Ar3))),(101,iv 0)] ?_)))))))
 refine ie (B3 (A5q 5 ?_))
 refine G5 (sr 1 rfl (ip' 1 0 [(102,bv true)] ?_))
 refine ie (A8 (N1 rfl (A6 (nx (A8 (B3 (sr 2 rfl (ix rfl (G2 (v:=iv 36) (us:=[iv 36]) Tryz.underlying205 ty3 rfl rfl rfl 0 rfl (by decide) rfl rfl rfl) ?_))))))))
 refine ip' 1 0 [(15,iv 36)] ?_
 refine ie (A2 6 rfl (zrl 5 1 [] [(104,.map (some b1)),(105,iv 36),(108,ag [.func (.func 123) #[ag (B2 (⟨0,9999⟩:Spn))] #[],.func (.func 123) #[ag (B2 (⟨0,1⟩:Spn))] #[]])] ?_))
 refine it rfl (D0 (es:=(B0 E4q 0).toArray) (es':=(B0 E4m 0).toArray) K3 (.inr rfl) rfl rfl rfl 0 rfl (by kernel_rfl) (by kernel_rfl)) fun _=>?_
 refine znl [(b1,.map (B0 E4m 0).toArray 39)] ?_
 refine A3 (nx (A2 2 rfl (ix rfl (B5 (c:=1) rfl rfl rfl rfl (by decide)) ?_)))
 refine ip' 1 0 [(101,iv 1)] ?_
 refine A3 (G5 (sr 1 rfl (ip' 1 0 [(102,bv true)] ?_)))
 refine ie (A8 (N1 rfl (A6 (nx (A8 (B3 (sr 2 rfl (ix rfl (G2 (v:=iv 37) (us:=[iv 37]) Tryz.underlying205 ty3 rfl rfl rfl 1 rfl (by decide) rfl rfl rfl) ?_))))))))
 refine ip' 1 0 [(15,iv 37)] ?_
 refine ie (A2 6 rfl (zrl 5 1 [] [(104,.map (some b1)),(105,iv 37),(108,ag [.func (.func 123) #[ag (B2 (⟨0,9999⟩:Spn))] #[],.func (.func 123) #[ag (B2 (⟨0,1⟩:Spn))] #[]])] ?_))
 refine it rfl (D0 (es:=(B0 E4m 0).toArray) (es':=(B0 E3h 0).toArray) K3 (.inr rfl) rfl rfl rfl 0 rfl (by kernel_rfl) (by kernel_rfl)) fun _=>?_
 refine znl [(b1,.map (B0 E3h 0).toArray 40)] ?_
 refine A3 (nx (A2 2 rfl (ix rfl (B5 (c:=2) rfl rfl rfl rfl (by decide)) ?_)))
 refine ip' 1 0 [(101,iv 2)] ?_
 refine A3 (G5 (sr 1 rfl (ip' 1 0 [(102,bv true)] ?_)))
 refine ie (A8 (N1 rfl (A6 (nx (A8 (B3 (sr 2 rfl (ix rfl (G2 (v:=iv 43) (us:=[iv 43]) Tryz.underlying205 ty3 rfl rfl rfl 2 rfl (by decide) rfl rfl rfl) ?_))))))))
 refine ip' 1 0 [(15,iv 43)] ?_
 refine ie (A2 6 rfl (zrl 5 1 [] [(104,.map (some b1)),(105,iv 43),(108,ag [.func (.func 123) #[ag (B2 (⟨0,9999⟩:Spn))] #[],.func (.func 123) #[ag (B2 (⟨0,1⟩:Spn))] #[]])] ?_))
 refine it rfl (D0 (es:=(B0 E3h 0).toArray) (es':=(B0 C7d 0).toArray) K3 (.inr rfl) rfl rfl rfl 0 rfl (by kernel_rfl) (by kernel_rfl)) fun _=>?_
 refine znl [(b1,.map (B0 C7d 0).toArray 41)] ?_
 refine A3 (nx (A2 2 rfl (ix rfl (B5 (c:=3) rfl rfl rfl rfl (by decide)) ?_)))
 refine ip' 1 0 [(101,iv 3)] ?_
 refine A3 (G5 (sr 1 rfl (ip' 1 0 [(102,bv false)] ?_)))
 refine ie (A8 (A9u rfl (I3 (nx (sr 2 rfl (ip' 2 0 [(0,.map (some b1))] ?_))))))
 subst hR
 refine ie (A9 ?_)
 exact zer hr hD (N4 rfl (C1 rfl)) b1 (mk [true] rfl) fn0
def B2v:List (Int×Value):=[(17,ag [.func (.func 123) #[ag (B2 (⟨0,3⟩:Spn))] #[],.func (.func 123) #[ag (B2 (⟨0,1⟩:Spn))] #[]]),(18,ag [.func (.func 123) #[ag (B2 (⟨2,3⟩:Spn))] #[],.func (.func 123) #[ag (B2 (⟨0,0⟩:Spn))] #[]]),(19,ag [.func (.func 123) #[ag (B2 (⟨1,9999⟩:Spn))] #[],.func (.func 123) #[ag (B2 (⟨1,9999⟩:Spn))] #[]]),(20,ag [.func (.func 123) #[ag (B2 (⟨0,3⟩:Spn))] #[],.func (.func 123) #[ag (B2 (⟨1,9999⟩:Spn))] #[]]),(26,ag [.func (.func 123) #[ag (B2 (⟨0,3⟩:Spn))] #[],.func (.func 123) #[ag (B2 (⟨0,0⟩:Spn))] #[]]),(27,ag [.func (.func 123) #[ag (B2 (⟨0,2⟩:Spn))] #[],.func (.func 123) #[ag (B2 (⟨0,0⟩:Spn))] #[]]),(35,ag [.func (.func 124) #[] #[],.func (.func 123) #[ag (B2 (⟨0,0⟩:Spn))] #[]]),(38,ag [.func (.func 123) #[ag (B2 (⟨0,9999⟩:Spn))] #[],.func (.func 123) #[ag (B2 (⟨0,9999⟩:Spn))] #[]]),(40,ag [.func (.func 123) #[ag (B2 (⟨0,6⟩:Spn))] #[],.func (.func 123) #[ag (B2 (⟨0,0⟩:Spn))] #[]]),(41,ag [.func (.func 123) #[ag (B2 (⟨5,6⟩:Spn))] #[],.func (.func 123) #[ag (B2 (⟨0,0⟩:Spn))] #[]]),(2,ag [.func (.func 123) #[ag (B2 (⟨0,0⟩:Spn))] #[],.func (.func 123) #[ag (B2 (⟨0,0⟩:Spn))] #[]]),(3,ag [.func (.func 123) #[ag (B2 (⟨0,0⟩:Spn))] #[],.func (.func 123) #[ag (B2 (⟨0,0⟩:Spn))] #[]]),(4,ag [.func (.func 123) #[ag (B2 (⟨0,0⟩:Spn))] #[],.func (.func 123) #[ag (B2 (⟨0,0⟩:Spn))] #[]]),(5,ag [.func (.func 123) #[ag (B2 (⟨0,0⟩:Spn))] #[],.func (.func 123) #[ag (B2 (⟨0,0⟩:Spn))] #[]]),(6,ag [.func (.func 123) #[ag (B2 (⟨0,0⟩:Spn))] #[],.func (.func 123) #[ag (B2 (⟨0,0⟩:Spn))] #[]]),(8,ag [.func (.func 123) #[ag (B2 (⟨0,0⟩:Spn))] #[],.func (.func 123) #[ag (B2 (⟨0,0⟩:Spn))] #[]]),(9,ag [.func (.func 123) #[ag (B2 (⟨0,0⟩:Spn))] #[],.func (.func 123) #[ag (B2 (⟨0,0⟩:Spn))] #[]]),(10,ag [.func (.func 123) #[ag (B2 (⟨0,0⟩:Spn))] #[],.func (.func 123) #[ag (B2 (⟨0,0⟩:Spn))] #[]]),(11,ag [.func (.func 123) #[ag (B2 (⟨0,0⟩:Spn))] #[],.func (.func 123) #[ag (B2 (⟨0,0⟩:Spn))] #[]]),(12,ag [.func (.func 123) #[ag (B2 (⟨0,0⟩:Spn))] #[],.func (.func 123) #[ag (B2 (⟨0,0⟩:Spn))] #[]]),(13,ag [.func (.func 123) #[ag (B2 (⟨0,0⟩:Spn))] #[],.func (.func 123) #[ag (B2 (⟨0,0⟩:Spn))] #[]]),(15,ag [.func (.func 123) #[ag (B2 (⟨0,0⟩:Spn))] #[],.func (.func 123) #[ag (B2 (⟨0,0⟩:Spn))] #[]]),(16,ag [.func (.func 123) #[ag (B2 (⟨0,0⟩:Spn))] #[],.func (.func 123) #[ag (B2 (⟨0,0⟩:Spn))] #[]]),(7,ag [.func (.func 123) #[ag (B2 (⟨0,1⟩:Spn))] #[],.func (.func 123) #[ag (B2 (⟨0,0⟩:Spn))] #[]]),(14,ag [.func (.func 123) #[ag (B2 (⟨0,1⟩:Spn))] #[],.func (.func 123) #[ag (B2 (⟨0,0⟩:Spn))] #[]]),(42,ag [.func (.func 123) #[ag (B2 (⟨0,1⟩:Spn))] #[],.func (.func 123) #[ag (B2 (⟨0,0⟩:Spn))] #[]]),(21,ag [.func (.func 123) #[ag (B2 (⟨0,1⟩:Spn))] #[],.func (.func 123) #[ag (B2 (⟨1,9999⟩:Spn))] #[]]),(33,ag [.func (.func 123) #[ag (B2 (⟨0,1⟩:Spn))] #[],.func (.func 123) #[ag (B2 (⟨1,9999⟩:Spn))] #[]]),(22,ag [.func (.func 123) #[ag (B2 (⟨1,9999⟩:Spn))] #[],.func (.func 123) #[ag (B2 (⟨0,0⟩:Spn))] #[]]),(23,ag [.func (.func 123) #[ag (B2 (⟨1,9999⟩:Spn))] #[],.func (.func 123) #[ag (B2 (⟨0,0⟩:Spn))] #[]]),(24,ag [.func (.func 123) #[ag (B2 (⟨1,9999⟩:Spn))] #[],.func (.func 123) #[ag (B2 (⟨0,0⟩:Spn))] #[]]),(25,ag [.func (.func 123) #[ag (B2 (⟨1,9999⟩:Spn))] #[],.func (.func 123) #[ag (B2 (⟨0,0⟩:Spn))] #[]]),(28,ag [.func (.func 123) #[ag (B2 (⟨1,9999⟩:Spn))] #[],.func (.func 123) #[ag (B2 (⟨0,0⟩:Spn))] #[]]),(29,ag [.func (.func 123) #[ag (B2 (⟨1,9999⟩:Spn))] #[],.func (.func 123) #[ag (B2 (⟨0,0⟩:Spn))] #[]]),(30,ag [.func (.func 123) #[ag (B2 (⟨1,9999⟩:Spn))] #[],.func (.func 123) #[ag (B2 (⟨0,0⟩:Spn))] #[]]),(31,ag [.func (.func 123) #[ag (B2 (⟨1,9999⟩:Spn))] #[],.func (.func 123) #[ag (B2 (⟨0,0⟩:Spn))] #[]]),(32,ag [.func (.func 123) #[ag (B2 (⟨1,9999⟩:Spn))] #[],.func (.func 123) #[ag (B2 (⟨0,0⟩:Spn))] #[]]),(34,ag [.func (.func 123) #[ag (B2 (⟨1,9999⟩:Spn))] #[],.func (.func 123) #[ag (B2 (⟨0,0⟩:Spn))] #[]]),(36,ag [.func (.func 123) #[ag (B2 (⟨0,9999⟩:Spn))] #[],.func (.func 123) #[ag (B2 (⟨0,1⟩:Spn))] #[]]),(37,ag [.func (.func 123) #[ag (B2 (⟨0,9999⟩:Spn))] #[],.func (.func 123) #[ag (B2 (⟨0,1⟩:Spn))] #[]]),(43,ag [.func (.func 123) #[ag (B2 (⟨0,9999⟩:Spn))] #[],.func (.func 123) #[ag (B2 (⟨0,1⟩:Spn))] #[]])]
def C0:List (Int×Value):=[(17,.func (.func 123) #[ag (B2 (⟨0,3⟩:Spn))] #[]),(18,.func (.func 123) #[ag (B2 (⟨2,3⟩:Spn))] #[]),(19,.func (.func 123) #[ag (B2 (⟨1,9999⟩:Spn))] #[]),(20,.func (.func 123) #[ag (B2 (⟨0,3⟩:Spn))] #[]),(26,.func (.func 123) #[ag (B2 (⟨0,3⟩:Spn))] #[]),(27,.func (.func 123) #[ag (B2 (⟨0,2⟩:Spn))] #[]),(35,.func (.func 124) #[] #[]),(38,.func (.func 123) #[ag (B2 (⟨0,9999⟩:Spn))] #[]),(40,.func (.func 123) #[ag (B2 (⟨0,6⟩:Spn))] #[]),(41,.func (.func 123) #[ag (B2 (⟨5,6⟩:Spn))] #[]),(2,.func (.func 123) #[ag (B2 (⟨0,0⟩:Spn))] #[]),(3,.func (.func 123) #[ag (B2 (⟨0,0⟩:Spn))] #[]),(4,.func (.func 123) #[ag (B2 (⟨0,0⟩:Spn))] #[]),(5,.func (.func 123) #[ag (B2 (⟨0,0⟩:Spn))] #[]),(6,.func (.func 123) #[ag (B2 (⟨0,0⟩:Spn))] #[]),(8,.func (.func 123) #[ag (B2 (⟨0,0⟩:Spn))] #[]),(9,.func (.func 123) #[ag (B2 (⟨0,0⟩:Spn))] #[]),(10,.func (.func 123) #[ag (B2 (⟨0,0⟩:Spn))] #[]),(11,.func (.func 123) #[ag (B2 (⟨0,0⟩:Spn))] #[]),(12,.func (.func 123) #[ag (B2 (⟨0,0⟩:Spn))] #[]),(13,.func (.func 123) #[ag (B2 (⟨0,0⟩:Spn))] #[]),(15,.func (.func 123) #[ag (B2 (⟨0,0⟩:Spn))] #[]),(16,.func (.func 123) #[ag (B2 (⟨0,0⟩:Spn))] #[]),(7,.func (.func 123) #[ag (B2 (⟨0,1⟩:Spn))] #[]),(14,.func (.func 123) #[ag (B2 (⟨0,1⟩:Spn))] #[]),(42,.func (.func 123) #[ag (B2 (⟨0,1⟩:Spn))] #[]),(21,.func (.func 123) #[ag (B2 (⟨0,1⟩:Spn))] #[]),(33,.func (.func 123) #[ag (B2 (⟨0,1⟩:Spn))] #[]),(22,.func (.func 123) #[ag (B2 (⟨1,9999⟩:Spn))] #[]),(23,.func (.func 123) #[ag (B2 (⟨1,9999⟩:Spn))] #[]),(24,.func (.func 123) #[ag (B2 (⟨1,9999⟩:Spn))] #[]),(25,.func (.func 123) #[ag (B2 (⟨1,9999⟩:Spn))] #[]),(28,.func (.func 123) #[ag (B2 (⟨1,9999⟩:Spn))] #[]),(29,.func (.func 123) #[ag (B2 (⟨1,9999⟩:Spn))] #[]),(30,.func (.func 123) #[ag (B2 (⟨1,9999⟩:Spn))] #[]),(31,.func (.func 123) #[ag (B2 (⟨1,9999⟩:Spn))] #[]),(32,.func (.func 123) #[ag (B2 (⟨1,9999⟩:Spn))] #[]),(34,.func (.func 123) #[ag (B2 (⟨1,9999⟩:Spn))] #[]),(36,.func (.func 123) #[ag (B2 (⟨0,9999⟩:Spn))] #[]),(37,.func (.func 123) #[ag (B2 (⟨0,9999⟩:Spn))] #[]),(43,.func (.func 123) #[ag (B2 (⟨0,9999⟩:Spn))] #[])]
def J7:List (Int×Value):=[(17,.func (.func 123) #[ag (B2 (⟨0,1⟩:Spn))] #[]),(18,.func (.func 123) #[ag (B2 (⟨0,0⟩:Spn))] #[]),(19,.func (.func 123) #[ag (B2 (⟨1,9999⟩:Spn))] #[]),(20,.func (.func 123) #[ag (B2 (⟨1,9999⟩:Spn))] #[]),(26,.func (.func 123) #[ag (B2 (⟨0,0⟩:Spn))] #[]),(27,.func (.func 123) #[ag (B2 (⟨0,0⟩:Spn))] #[]),(35,.func (.func 123) #[ag (B2 (⟨0,0⟩:Spn))] #[]),(38,.func (.func 123) #[ag (B2 (⟨0,9999⟩:Spn))] #[]),(40,.func (.func 123) #[ag (B2 (⟨0,0⟩:Spn))] #[]),(41,.func (.func 123) #[ag (B2 (⟨0,0⟩:Spn))] #[]),(2,.func (.func 123) #[ag (B2 (⟨0,0⟩:Spn))] #[]),(3,.func (.func 123) #[ag (B2 (⟨0,0⟩:Spn))] #[]),(4,.func (.func 123) #[ag (B2 (⟨0,0⟩:Spn))] #[]),(5,.func (.func 123) #[ag (B2 (⟨0,0⟩:Spn))] #[]),(6,.func (.func 123) #[ag (B2 (⟨0,0⟩:Spn))] #[]),(8,.func (.func 123) #[ag (B2 (⟨0,0⟩:Spn))] #[]),(9,.func (.func 123) #[ag (B2 (⟨0,0⟩:Spn))] #[]),(10,.func (.func 123) #[ag (B2 (⟨0,0⟩:Spn))] #[]),(11,.func (.func 123) #[ag (B2 (⟨0,0⟩:Spn))] #[]),(12,.func (.func 123) #[ag (B2 (⟨0,0⟩:Spn))] #[]),(13,.func (.func 123) #[ag (B2 (⟨0,0⟩:Spn))] #[]),(15,.func (.func 123) #[ag (B2 (⟨0,0⟩:Spn))] #[]),(16,.func (.func 123) #[ag (B2 (⟨0,0⟩:Spn))] #[]),(7,.func (.func 123) #[ag (B2 (⟨0,0⟩:Spn))] #[]),(14,.func (.func 123) #[ag (B2 (⟨0,0⟩:Spn))] #[]),(42,.func (.func 123) #[ag (B2 (⟨0,0⟩:Spn))] #[]),(21,.func (.func 123) #[ag (B2 (⟨1,9999⟩:Spn))] #[]),(33,.func (.func 123) #[ag (B2 (⟨1,9999⟩:Spn))] #[]),(22,.func (.func 123) #[ag (B2 (⟨0,0⟩:Spn))] #[]),(23,.func (.func 123) #[ag (B2 (⟨0,0⟩:Spn))] #[]),(24,.func (.func 123) #[ag (B2 (⟨0,0⟩:Spn))] #[]),(25,.func (.func 123) #[ag (B2 (⟨0,0⟩:Spn))] #[]),(28,.func (.func 123) #[ag (B2 (⟨0,0⟩:Spn))] #[]),(29,.func (.func 123) #[ag (B2 (⟨0,0⟩:Spn))] #[]),(30,.func (.func 123) #[ag (B2 (⟨0,0⟩:Spn))] #[]),(31,.func (.func 123) #[ag (B2 (⟨0,0⟩:Spn))] #[]),(32,.func (.func 123) #[ag (B2 (⟨0,0⟩:Spn))] #[]),(34,.func (.func 123) #[ag (B2 (⟨0,0⟩:Spn))] #[]),(36,.func (.func 123) #[ag (B2 (⟨0,1⟩:Spn))] #[]),(37,.func (.func 123) #[ag (B2 (⟨0,1⟩:Spn))] #[]),(43,.func (.func 123) #[ag (B2 (⟨0,1⟩:Spn))] #[])]
theorem D8h (k:Int):lkV k (.agg #[.nilFunc,.nilFunc]) B2v=.agg #[lkV k .nilFunc C0,lkV k .nilFunc J7]:=by
 refine (D5e (fun a b=>.agg #[a,b]) k (.nilFunc) (.nilFunc) [((17:Int),(.func (.func 123) #[ag (B2 (⟨0,3⟩:Spn))] #[]:Value),(.func (.func 123) #[ag (B2 (⟨0,1⟩:Spn))] #[]:Value)),((18:Int),(.func (.func 123) #[ag (B2 (⟨2,3⟩:Spn))] #[]:Value),(.func (.func 123) #[ag (B2 (⟨0,0⟩:Spn))] #[]:Value)),((19:Int),(.func (.func 123) #[ag (B2 (⟨1,9999⟩:Spn))] #[]:Value),(.func (.func 123) #[ag (B2 (⟨1,9999⟩:Spn))] #[]:Value)),((20:Int),(.func (.func 123) #[ag (B2 (⟨0,3⟩:Spn))] #[]:Value),(.func (.func 123) #[ag (B2 (⟨1,9999⟩:Spn))] #[]:Value)),((26:Int),(.func (.func 123) #[ag (B2 (⟨0,3⟩:Spn))] #[]:Value),(.func (.func 123) #[ag (B2 (⟨0,0⟩:Spn))] #[]:Value)),((27:Int),(.func (.func 123) #[ag (B2 (⟨0,2⟩:Spn))] #[]:Value),(.func (.func 123) #[ag (B2 (⟨0,0⟩:Spn))] #[]:Value)),((35:Int),(.func (.func 124) #[] #[]:Value),(.func (.func 123) #[ag (B2 (⟨0,0⟩:Spn))] #[]:Value)),((38:Int),(.func (.func 123) #[ag (B2 (⟨0,9999⟩:Spn))] #[]:Value),(.func (.func 123) #[ag (B2 (⟨0,9999⟩:Spn))] #[]:Value)),((40:Int),(.func (.func 123) #[ag (B2 (⟨0,6⟩:Spn))] #[]:Value),(.func (.func 123) #[ag (B2 (⟨0,0⟩:Spn))] #[]:Value)),((41:Int),(.func (.func 123) #[ag (B2 (⟨5,6⟩:Spn))] #[]:Value),(.func (.func 123) #[ag (B2 (⟨0,0⟩:Spn))] #[]:Value)),((2:Int),(.func (.func 123) #[ag (B2 (⟨0,0⟩:Spn))] #[]:Value),(.func (.func 123) #[ag (B2 (⟨0,0⟩:Spn))] #[]:Value)),((3:Int),(.func (.func 123) #[ag (B2 (⟨0,0⟩:Spn))] #[]:Value),(.func (.func 123) #[ag (B2 (⟨0,0⟩:Spn))] #[]:Value)),((4:Int),(.func (.func 123) #[ag (B2 (⟨0,0⟩:Spn))] #[]:Value),(.func (.func 123) #[ag (B2 (⟨0,0⟩:Spn))] #[]:Value)),((5:Int),(.func (.func 123) #[ag (B2 (⟨0,0⟩:Spn))] #[]:Value),(.func (.func 123) #[ag (B2 (⟨0,0⟩:Spn))] #[]:Value)),((6:Int),(.func (.func 123) #[ag (B2 (⟨0,0⟩:Spn))] #[]:Value),(.func (.func 123) #[ag (B2 (⟨0,0⟩:Spn))] #[]:Value)),((8:Int),(.func (.func 123) #[ag (B2 (⟨0,0⟩:Spn))] #[]:Value),(.func (.func 123) #[ag (B2 (⟨0,0⟩:Spn))] #[]:Value)),((9:Int),(.func (.func 123) #[ag (B2 (⟨0,0⟩:Spn))] #[]:Value),(.func (.func 123) #[ag (B2 (⟨0,0⟩:Spn))] #[]:Value)),((10:Int),(.func (.func 123) #[ag (B2 (⟨0,0⟩:Spn))] #[]:Value),(.func (.func 123) #[ag (B2 (⟨0,0⟩:Spn))] #[]:Value)),((11:Int),(.func (.func 123) #[ag (B2 (⟨0,0⟩:Spn))] #[]:Value),(.func (.func 123) #[ag (B2 (⟨0,0⟩:Spn))] #[]:Value)),((12:Int),(.func (.func 123) #[ag (B2 (⟨0,0⟩:Spn))] #[]:Value),(.func (.func 123) #[ag (B2 (⟨0,0⟩:Spn))] #[]:Value)),((13:Int),(.func (.func 123) #[ag (B2 (⟨0,0⟩:Spn))] #[]:Value),(.func (.func 123) #[ag (B2 (⟨0,0⟩:Spn))] #[]:Value)),((15:Int),(.func (.func 123) #[ag (B2 (⟨0,0⟩:Spn))] #[]:Value),(.func (.func 123) #[ag (B2 (⟨0,0⟩:Spn))] #[]:Value)),((16:Int),(.func (.func 123) #[ag (B2 (⟨0,0⟩:Spn))] #[]:Value),(.func (.func 123) #[ag (B2 (⟨0,0⟩:Spn))] #[]:Value)),((7:Int),(.func (.func 123) #[ag (B2 (⟨0,1⟩:Spn))] #[]:Value),(.func (.func 123) #[ag (B2 (⟨0,0⟩:Spn))] #[]:Value)),((14:Int),(.func (.func 123) #[ag (B2 (⟨0,1⟩:Spn))] #[]:Value),(.func (.func 123) #[ag (B2 (⟨0,0⟩:Spn))] #[]:Value)),((42:Int),(.func (.func 123) #[ag (B2 (⟨0,1⟩:Spn))] #[]:Value),(.func (.func 123) #[ag (B2 (⟨0,0⟩:Spn))] #[]:Value)),((21:Int),(.func (.func 123) #[ag (B2 (⟨0,1⟩:Spn))] #[]:Value),(.func (.func 123) #[ag (B2 (⟨1,9999⟩:Spn))] #[]:Value)),((33:Int),(.func (.func 123) #[ag (B2 (⟨0,1⟩:Spn))] #[]:Value),(.func (.func 123) #[ag (B2 (⟨1,9999⟩:Spn))] #[]:Value)),((22:Int),(.func (.func 123) #[ag (B2 (⟨1,9999⟩:Spn))] #[]:Value),(.func (.func 123) #[ag (B2 (⟨0,0⟩:Spn))] #[]:Value)),((23:Int),(.func (.func 123) #[ag (B2 (⟨1,9999⟩:Spn))] #[]:Value),(.func (.func 123) #[ag (B2 (⟨0,0⟩:Spn))] #[]:Value)),((24:Int),(.func (.func 123) #[ag (B2 (⟨1,9999⟩:Spn))] #[]:Value),(.func (.func 123) #[ag (B2 (⟨0,0⟩:Spn))] #[]:Value)),((25:Int),(.func (.func 123) #[ag (B2 (⟨1,9999⟩:Spn))] #[]:Value),(.func (.func 123) #[ag (B2 (⟨0,0⟩:Spn))] #[]:Value)),((28:Int),(.func (.func 123) #[ag (B2 (⟨1,9999⟩:Spn))] #[]:Value),(.func (.func 123) #[ag (B2 (⟨0,0⟩:Spn))] #[]:Value)),((29:Int),(.func (.func 123) #[ag (B2 (⟨1,9999⟩:Spn))] #[]:Value),(.func (.func 123) #[ag (B2 (⟨0,0⟩:Spn))] #[]:Value)),((30:Int),(.func (.func 123) #[ag (B2 (⟨1,9999⟩:Spn))] #[]:Value),(.func (.func 123) #[ag (B2 (⟨0,0⟩:Spn))] #[]:Value)),((31:Int),(.func (.func 123) #[ag (B2 (⟨1,9999⟩:Spn))] #[]:Value),(.func (.func 123) #[ag (B2 (⟨0,0⟩:Spn))] #[]:Value)),((32:Int),(.func (.func 123) #[ag (B2 (⟨1,9999⟩:Spn))] #[]:Value),(.func (.func 123) #[ag (B2 (⟨0,0⟩:Spn))] #[]:Value)),((34:Int),(.func (.func 123) #[ag (B2 (⟨1,9999⟩:Spn))] #[]:Value),(.func (.func 123) #[ag (B2 (⟨0,0⟩:Spn))] #[]:Value)),((36:Int),(.func (.func 123) #[ag (B2 (⟨0,9999⟩:Spn))] #[]:Value),(.func (.func 123) #[ag (B2 (⟨0,1⟩:Spn))] #[]:Value)),((37:Int),(.func (.func 123) #[ag (B2 (⟨0,9999⟩:Spn))] #[]:Value),(.func (.func 123) #[ag (B2 (⟨0,1⟩:Spn))] #[]:Value)),((43:Int),(.func (.func 123) #[ag (B2 (⟨0,9999⟩:Spn))] #[]:Value),(.func (.func 123) #[ag (B2 (⟨0,1⟩:Spn))] #[]:Value))]).trans ?_
 rfl
theorem A1t (k:Int):Value.tuple #[lkV k (.agg #[.nilFunc,.nilFunc]) B2v,.bool (H5 k B2v)]=Value.tuple #[.agg #[lkV k .nilFunc C0,lkV k .nilFunc J7],.bool (H5 k C0)]:=by rw [D8h];rfl
def A5 (s:Spn) (n:Int):Bool :=
 ((decide (s.lo≤n))&&(decide (n≤s.hi)))
theorem A0 (s:Spn) (n:Int) (R:Bool) (hR:A5 s n=R):I4 Tryz.prog 123 [ag (B2 s),iv n] [] (bv R):=by
 refine zco Tryz.func123 [(0,ag (B2 s)),(1,iv n)] fun X hX hr hD=>?_
 replace hR:=(A5.eq_1 ..).symm.trans hR
 refine sr 2 rfl (Q2 2 0 [] (fun b1=>[(2,pt b1 0)]) (fun b1=>[bx b1 (B2 s) 203]) (fun b1=>?_))
 refine ie (sr 11 rfl (zrl 5 6 [0] [(9,bv (decide (s.lo≤n)))] ?_))
 refine zid 5 1 9 14 (decide (n≤s.hi)) (fun g2 g2p=>?_) ?_
 ·refine zrl 5 0 [0] [(14,bv (decide (n≤s.hi)))] ?_
  exact A3 (L6 2 9 14 g2 fn0 (mk [true] rfl) rfl rfl rfl rfl rfl)
 refine ip' 1 0 [(4,bv ((decide (s.lo≤n))&&(decide (n≤s.hi))))] ?_
 subst hR
 refine ie (A9 ?_)
 exact F2 hr hD
def W4 (n:Int):Bool :=
 ((decide (n=0))||(decide (n=3)))
theorem B5v (n:Int) (R:Bool) (hR:W4 n=R):I4 Tryz.prog 124 [iv n] [] (bv R):=by
 refine zco Tryz.func124 [(0,iv n)] fun X hX hr hD=>?_
 replace hR:=(W4.eq_1 ..).symm.trans hR
 refine sr 1 rfl (ip' 1 0 [] ?_)
 refine ie (sr 7 rfl (ip' 3 4 [(5,bv (decide (n=0)))] ?_))
 refine zir 3 1 5 8 (decide (n=3)) (fun g1 g1p=>?_) ?_
 ·refine ip' 3 0 [(8,bv (decide (n=3)))] ?_
  exact A3 (L6 2 5 8 g1 fn0 (mk [] rfl) rfl rfl rfl rfl rfl)
 refine ip' 1 0 [(2,bv ((decide (n=0))||(decide (n=3))))] ?_
 subst hR
 refine ie (A9 ?_)
 exact F2 hr hD
def D7 (k:Int) (x0:Int):Bool :=
 (bif (decide (k=17)) then (A5 (⟨0,3⟩:Spn) x0) else (bif (decide (k=18)) then (A5 (⟨2,3⟩:Spn) x0) else (bif (decide (k=19)) then (A5 (⟨1,9999⟩:Spn) x0) else (bif (decide (k=20)) then (A5 (⟨0,3⟩:Spn) x0) else (bif (decide (k=26)) then (A5 (⟨0,3⟩:Spn) x0) else (bif (decide (k=27)) then (A5 (⟨0,2⟩:Spn) x0) else (bif (decide (k=35)) then (W4 x0) else (bif (decide (k=38)) then (A5 (⟨0,9999⟩:Spn) x0) else (bif (decide (k=40)) then (A5 (⟨0,6⟩:Spn) x0) else (bif (decide (k=41)) then (A5 (⟨5,6⟩:Spn) x0) else (bif (decide (k=2)) then (A5 (⟨0,0⟩:Spn) x0) else (bif (decide (k=3)) then (A5 (⟨0,0⟩:Spn) x0) else (bif (decide (k=4)) then (A5 (⟨0,0⟩:Spn) x0) else (bif (decide (k=5)) then (A5 (⟨0,0⟩:Spn) x0) else (bif (decide (k=6)) then (A5 (⟨0,0⟩:Spn) x0) else (bif (decide (k=8)) then (A5 (⟨0,0⟩:Spn) x0) else (bif (decide (k=9)) then (A5 (⟨0,0⟩:Spn) x0) else (bif (decide (k=10)) then (A5 (⟨0,0⟩:Spn) x0) else (bif (decide (k=11)) then (A5 (⟨0,0⟩:Spn) x0) else (bif (decide (k=12)) then (A5 (⟨0,0⟩:Spn) x0) else (bif (decide (k=13)) then (A5 (⟨0,0⟩:Spn) x0) else (bif (decide (k=15)) then (A5 (⟨0,0⟩:Spn) x0) else (bif (decide (k=16)) then (A5 (⟨0,0⟩:Spn) x0) else (bif (decide (k=7)) then (A5 (⟨0,1⟩:Spn) x0) else (bif (decide (k=14)) then (A5 (⟨0,1⟩:Spn) x0) else (bif (decide (k=42)) then (A5 (⟨0,1⟩:Spn) x0) else (bif (decide (k=21)) then (A5 (⟨0,1⟩:Spn) x0) else (bif (decide (k=33)) then (A5 (⟨0,1⟩:Spn) x0) else (bif (decide (k=22)) then (A5 (⟨1,9999⟩:Spn) x0) else (bif (decide (k=23)) then (A5 (⟨1,9999⟩:Spn) x0) else (bif (decide (k=24)) then (A5 (⟨1,9999⟩:Spn) x0) else (bif (decide (k=25)) then (A5 (⟨1,9999⟩:Spn) x0) else (bif (decide (k=28)) then (A5 (⟨1,9999⟩:Spn) x0) else (bif (decide (k=29)) then (A5 (⟨1,9999⟩:Spn) x0) else (bif (decide (k=30)) then (A5 (⟨1,9999⟩:Spn) x0) else (bif (decide (k=31)) then (A5 (⟨1,9999⟩:Spn) x0) else (bif (decide (k=32)) then (A5 (⟨1,9999⟩:Spn) x0) else (bif (decide (k=34)) then (A5 (⟨1,9999⟩:Spn) x0) else (bif (decide (k=36)) then (A5 (⟨0,9999⟩:Spn) x0) else (bif (decide (k=37)) then (A5 (⟨0,9999⟩:Spn) x0) else (bif (decide (k=43)) then (A5 (⟨0,9999⟩:Spn) x0) else false)))))))))))))))))))))))))))))))))))))))))
theorem A0o (k:Int) (x0:Int) (hk:H5 k C0=true) (R:Bool) (hR:D7 k x0=R):B7 Tryz.prog (lkV k .nilFunc C0) [iv x0] [] (bv R):=by
 subst hR
 unfold D7
 unfold C0 at *
 refine B7.cons (fun r=>bv r) hk (fun e=>?_) (fun hk e=>?_)
 ·exact B7.of (A0 (⟨0,3⟩:Spn) x0 _ rfl) rfl fn0
 refine B7.cons (fun r=>bv r) hk (fun e=>?_) (fun hk e=>?_)
 ·exact B7.of (A0 (⟨2,3⟩:Spn) x0 _ rfl) rfl fn0
 refine B7.cons (fun r=>bv r) hk (fun e=>?_) (fun hk e=>?_)
 ·exact B7.of (A0 (⟨1,9999⟩:Spn) x0 _ rfl) rfl fn0
 refine B7.cons (fun r=>bv r) hk (fun e=>?_) (fun hk e=>?_)
 ·exact B7.of (A0 (⟨0,3⟩:Spn) x0 _ rfl) rfl fn0
 refine B7.cons (fun r=>bv r) hk (fun e=>?_) (fun hk e=>?_)
 ·exact B7.of (A0 (⟨0,3⟩:Spn) x0 _ rfl) rfl fn0
 refine B7.cons (fun r=>bv r) hk (fun e=>?_) (fun hk e=>?_)
 ·exact B7.of (A0 (⟨0,2⟩:Spn) x0 _ rfl) rfl fn0
 refine B7.cons (fun r=>bv r) hk (fun e=>?_) (fun hk e=>?_)
 ·exact B7.of (B5v x0 _ rfl) rfl fn0
 refine B7.cons (fun r=>bv r) hk (fun e=>?_) (fun hk e=>?_)
 ·exact B7.of (A0 (⟨0,9999⟩:Spn) x0 _ rfl) rfl fn0
 refine B7.cons (fun r=>bv r) hk (fun e=>?_) (fun hk e=>?_)
 ·exact B7.of (A0 (⟨0,6⟩:Spn) x0 _ rfl) rfl fn0
 refine B7.cons (fun r=>bv r) hk (fun e=>?_) (fun hk e=>?_)
 ·exact B7.of (A0 (⟨5,6⟩:Spn) x0 _ rfl) rfl fn0
 refine B7.cons (fun r=>bv r) hk (fun e=>?_) (fun hk e=>?_)
 ·exact B7.of (A0 (⟨0,0⟩:Spn) x0 _ rfl) rfl fn0
 refine B7.cons (fun r=>bv r) hk (fun e=>?_) (fun hk e=>?_)
 ·exact B7.of (A0 (⟨0,0⟩:Spn) x0 _ rfl) rfl fn0
 refine B7.cons (fun r=>bv r) hk (fun e=>?_) (fun hk e=>?_)
 ·exact B7.of (A0 (⟨0,0⟩:Spn) x0 _ rfl) rfl fn0
 refine B7.cons (fun r=>bv r) hk (fun e=>?_) (fun hk e=>?_)
 ·exact B7.of (A0 (⟨0,0⟩:Spn) x0 _ rfl) rfl fn0
 refine B7.cons (fun r=>bv r) hk (fun e=>?_) (fun hk e=>?_)
 ·exact B7.of (A0 (⟨0,0⟩:Spn) x0 _ rfl) rfl fn0
 refine B7.cons (fun r=>bv r) hk (fun e=>?_) (fun hk e=>?_)
 ·exact B7.of (A0 (⟨0,0⟩:Spn) x0 _ rfl) rfl fn0
 refine B7.cons (fun r=>bv r) hk (fun e=>?_) (fun hk e=>?_)
 ·exact B7.of (A0 (⟨0,0⟩:Spn) x0 _ rfl) rfl fn0
 refine B7.cons (fun r=>bv r) hk (fun e=>?_) (fun hk e=>?_)
 ·exact B7.of (A0 (⟨0,0⟩:Spn) x0 _ rfl) rfl fn0
 refine B7.cons (fun r=>bv r) hk (fun e=>?_) (fun hk e=>?_)
 ·exact B7.of (A0 (⟨0,0⟩:Spn) x0 _ rfl) rfl fn0
 refine B7.cons (fun r=>bv r) hk (fun e=>?_) (fun hk e=>?_)
 ·exact B7.of (A0 (⟨0,0⟩:Spn) x0 _ rfl) rfl fn0
 refine B7.cons (fun r=>bv r) hk (fun e=>?_) (fun hk e=>?_)
 ·exact B7.of (A0 (⟨0,0⟩:Spn) x0 _ rfl) rfl fn0
 refine B7.cons (fun r=>bv r) hk (fun e=>?_) (fun hk e=>?_)
 ·exact B7.of (A0 (⟨0,0⟩:Spn) x0 _ rfl) rfl fn0
 refine B7.cons (fun r=>bv r) hk (fun e=>?_) (fun hk e=>?_)
 ·exact B7.of (A0 (⟨0,0⟩:Spn) x0 _ rfl) rfl fn0
 refine B7.cons (fun r=>bv r) hk (fun e=>?_) (fun hk e=>?_)
 ·exact B7.of (A0 (⟨0,1⟩:Spn) x0 _ rfl) rfl fn0
 refine B7.cons (fun r=>bv r) hk (fun e=>?_) (fun hk e=>?_)
 ·exact B7.of (A0 (⟨0,1⟩:Spn) x0 _ rfl) rfl fn0
 refine B7.cons (fun r=>bv r) hk (fun e=>?_) (fun hk e=>?_)
 ·exact B7.of (A0 (⟨0,1⟩:Spn) x0 _ rfl) rfl fn0
 refine B7.cons (fun r=>bv r) hk (fun e=>?_) (fun hk e=>?_)
 ·exact B7.of (A0 (⟨0,1⟩:Spn) x0 _ rfl) rfl fn0
 refine B7.cons (fun r=>bv r) hk (fun e=>?_) (fun hk e=>?_)
 ·exact B7.of (A0 (⟨0,1⟩:Spn) x0 _ rfl) rfl fn0
 refine B7.cons (fun r=>bv r) hk (fun e=>?_) (fun hk e=>?_)
 ·exact B7.of (A0 (⟨1,9999⟩:Spn) x0 _ rfl) rfl fn0
 refine B7.cons (fun r=>bv r) hk (fun e=>?_) (fun hk e=>?_)
 ·exact B7.of (A0 (⟨1,9999⟩:Spn) x0 _ rfl) rfl fn0
 refine B7.cons (fun r=>bv r) hk (fun e=>?_) (fun hk e=>?_)
 ·exact B7.of (A0 (⟨1,9999⟩:Spn) x0 _ rfl) rfl fn0
 refine B7.cons (fun r=>bv r) hk (fun e=>?_) (fun hk e=>?_)
 ·exact B7.of (A0 (⟨1,9999⟩:Spn) x0 _ rfl) rfl fn0
 refine B7.cons (fun r=>bv r) hk (fun e=>?_) (fun hk e=>?_)
 ·exact B7.of (A0 (⟨1,9999⟩:Spn) x0 _ rfl) rfl fn0
 refine B7.cons (fun r=>bv r) hk (fun e=>?_) (fun hk e=>?_)
 ·exact B7.of (A0 (⟨1,9999⟩:Spn) x0 _ rfl) rfl fn0
 refine B7.cons (fun r=>bv r) hk (fun e=>?_) (fun hk e=>?_)
 ·exact B7.of (A0 (⟨1,9999⟩:Spn) x0 _ rfl) rfl fn0
 refine B7.cons (fun r=>bv r) hk (fun e=>?_) (fun hk e=>?_)
 ·exact B7.of (A0 (⟨1,9999⟩:Spn) x0 _ rfl) rfl fn0
 refine B7.cons (fun r=>bv r) hk (fun e=>?_) (fun hk e=>?_)
 ·exact B7.of (A0 (⟨1,9999⟩:Spn) x0 _ rfl) rfl fn0
 refine B7.cons (fun r=>bv r) hk (fun e=>?_) (fun hk e=>?_)
 ·exact B7.of (A0 (⟨1,9999⟩:Spn) x0 _ rfl) rfl fn0
 refine B7.cons (fun r=>bv r) hk (fun e=>?_) (fun hk e=>?_)
 ·exact B7.of (A0 (⟨0,9999⟩:Spn) x0 _ rfl) rfl fn0
 refine B7.cons (fun r=>bv r) hk (fun e=>?_) (fun hk e=>?_)
 ·exact B7.of (A0 (⟨0,9999⟩:Spn) x0 _ rfl) rfl fn0
 refine B7.cons (fun r=>bv r) hk (fun e=>?_) (fun hk e=>?_)
 ·exact B7.of (A0 (⟨0,9999⟩:Spn) x0 _ rfl) rfl fn0
 exact B7.nil hk
def F7 (k:Int) (x0:Int):Bool :=
 (bif (decide (k=17)) then (A5 (⟨0,1⟩:Spn) x0) else (bif (decide (k=18)) then (A5 (⟨0,0⟩:Spn) x0) else (bif (decide (k=19)) then (A5 (⟨1,9999⟩:Spn) x0) else (bif (decide (k=20)) then (A5 (⟨1,9999⟩:Spn) x0) else (bif (decide (k=26)) then (A5 (⟨0,0⟩:Spn) x0) else (bif (decide (k=27)) then (A5 (⟨0,0⟩:Spn) x0) else (bif (decide (k=35)) then (A5 (⟨0,0⟩:Spn) x0) else (bif (decide (k=38)) then (A5 (⟨0,9999⟩:Spn) x0) else (bif (decide (k=40)) then (A5 (⟨0,0⟩:Spn) x0) else (bif (decide (k=41)) then (A5 (⟨0,0⟩:Spn) x0) else (bif (decide (k=2)) then (A5 (⟨0,0⟩:Spn) x0) else (bif (decide (k=3)) then (A5 (⟨0,0⟩:Spn) x0) else (bif (decide (k=4)) then (A5 (⟨0,0⟩:Spn) x0) else (bif (decide (k=5)) then (A5 (⟨0,0⟩:Spn) x0) else (bif (decide (k=6)) then (A5 (⟨0,0⟩:Spn) x0) else (bif (decide (k=8)) then (A5 (⟨0,0⟩:Spn) x0) else (bif (decide (k=9)) then (A5 (⟨0,0⟩:Spn) x0) else (bif (decide (k=10)) then (A5 (⟨0,0⟩:Spn) x0) else (bif (decide (k=11)) then (A5 (⟨0,0⟩:Spn) x0) else (bif (decide (k=12)) then (A5 (⟨0,0⟩:Spn) x0) else (bif (decide (k=13)) then (A5 (⟨0,0⟩:Spn) x0) else (bif (decide (k=15)) then (A5 (⟨0,0⟩:Spn) x0) else (bif (decide (k=16)) then (A5 (⟨0,0⟩:Spn) x0) else (bif (decide (k=7)) then (A5 (⟨0,0⟩:Spn) x0) else (bif (decide (k=14)) then (A5 (⟨0,0⟩:Spn) x0) else (bif (decide (k=42)) then (A5 (⟨0,0⟩:Spn) x0) else (bif (decide (k=21)) then (A5 (⟨1,9999⟩:Spn) x0) else (bif (decide (k=33)) then (A5 (⟨1,9999⟩:Spn) x0) else (bif (decide (k=22)) then (A5 (⟨0,0⟩:Spn) x0) else (bif (decide (k=23)) then (A5 (⟨0,0⟩:Spn) x0) else (bif (decide (k=24)) then (A5 (⟨0,0⟩:Spn) x0) else (bif (decide (k=25)) then (A5 (⟨0,0⟩:Spn) x0) else (bif (decide (k=28)) then (A5 (⟨0,0⟩:Spn) x0) else (bif (decide (k=29)) then (A5 (⟨0,0⟩:Spn) x0) else (bif (decide (k=30)) then (A5 (⟨0,0⟩:Spn) x0) else (bif (decide (k=31)) then (A5 (⟨0,0⟩:Spn) x0) else (bif (decide (k=32)) then (A5 (⟨0,0⟩:Spn) x0) else (bif (decide (k=34)) then (A5 (⟨0,0⟩:Spn) x0) else (bif (decide (k=36)) then (A5 (⟨0,1⟩:Spn) x0) else (bif (decide (k=37)) then (A5 (⟨0,1⟩:Spn) x0) else (bif (decide (k=43)) then (A5 (⟨0,1⟩:Spn) x0) else false)))))))))))))))))))))))))))))))))))))))))
theorem A0u (k:Int) (x0:Int) (hk:H5 k J7=true) (R:Bool) (hR:F7 k x0=R):B7 Tryz.prog (lkV k .nilFunc J7) [iv x0] [] (bv R):=by
 subst hR
 unfold F7
 unfold J7 at *
 refine B7.cons (fun r=>bv r) hk (fun e=>?_) (fun hk e=>?_)
 ·exact B7.of (A0 (⟨0,1⟩:Spn) x0 _ rfl) rfl fn0
 refine B7.cons (fun r=>bv r) hk (fun e=>?_) (fun hk e=>?_)
 ·exact B7.of (A0 (⟨0,0⟩:Spn) x0 _ rfl) rfl fn0
 refine B7.cons (fun r=>bv r) hk (fun e=>?_) (fun hk e=>?_)
 ·exact B7.of (A0 (⟨1,9999⟩:Spn) x0 _ rfl) rfl fn0
 refine B7.cons (fun r=>bv r) hk (fun e=>?_) (fun hk e=>?_)
 ·exact B7.of (A0 (⟨1,9999⟩:Spn) x0 _ rfl) rfl fn0
 refine B7.cons (fun r=>bv r) hk (fun e=>?_) (fun hk e=>?_)
 ·exact B7.of (A0 (⟨0,0⟩:Spn) x0 _ rfl) rfl fn0
 refine B7.cons (fun r=>bv r) hk (fun e=>?_) (fun hk e=>?_)
 ·exact B7.of (A0 (⟨0,0⟩:Spn) x0 _ rfl) rfl fn0
 refine B7.cons (fun r=>bv r) hk (fun e=>?_) (fun hk e=>?_)
 ·exact B7.of (A0 (⟨0,0⟩:Spn) x0 _ rfl) rfl fn0
 refine B7.cons (fun r=>bv r) hk (fun e=>?_) (fun hk e=>?_)
 ·exact B7.of (A0 (⟨0,9999⟩:Spn) x0 _ rfl) rfl fn0
 refine B7.cons (fun r=>bv r) hk (fun e=>?_) (fun hk e=>?_)
 ·exact B7.of (A0 (⟨0,0⟩:Spn) x0 _ rfl) rfl fn0
 refine B7.cons (fun r=>bv r) hk (fun e=>?_) (fun hk e=>?_)
 ·exact B7.of (A0 (⟨0,0⟩:Spn) x0 _ rfl) rfl fn0
 refine B7.cons (fun r=>bv r) hk (fun e=>?_) (fun hk e=>?_)
 ·exact B7.of (A0 (⟨0,0⟩:Spn) x0 _ rfl) rfl fn0
 refine B7.cons (fun r=>bv r) hk (fun e=>?_) (fun hk e=>?_)
 ·exact B7.of (A0 (⟨0,0⟩:Spn) x0 _ rfl) rfl fn0
 refine B7.cons (fun r=>bv r) hk (fun e=>?_) (fun hk e=>?_)
 ·exact B7.of (A0 (⟨0,0⟩:Spn) x0 _ rfl) rfl fn0
 refine B7.cons (fun r=>bv r) hk (fun e=>?_) (fun hk e=>?_)
 ·exact B7.of (A0 (⟨0,0⟩:Spn) x0 _ rfl) rfl fn0
 refine B7.cons (fun r=>bv r) hk (fun e=>?_) (fun hk e=>?_)
 ·exact B7.of (A0 (⟨0,0⟩:Spn) x0 _ rfl) rfl fn0
 refine B7.cons (fun r=>bv r) hk (fun e=>?_) (fun hk e=>?_)
 ·exact B7.of (A0 (⟨0,0⟩:Spn) x0 _ rfl) rfl fn0
 refine B7.cons (fun r=>bv r) hk (fun e=>?_) (fun hk e=>?_)
 ·exact B7.of (A0 (⟨0,0⟩:Spn) x0 _ rfl) rfl fn0
 refine B7.cons (fun r=>bv r) hk (fun e=>?_) (fun hk e=>?_)
 ·exact B7.of (A0 (⟨0,0⟩:Spn) x0 _ rfl) rfl fn0
 refine B7.cons (fun r=>bv r) hk (fun e=>?_) (fun hk e=>?_)
 ·exact B7.of (A0 (⟨0,0⟩:Spn) x0 _ rfl) rfl fn0
 refine B7.cons (fun r=>bv r) hk (fun e=>?_) (fun hk e=>?_)
 ·exact B7.of (A0 (⟨0,0⟩:Spn) x0 _ rfl) rfl fn0
 refine B7.cons (fun r=>bv r) hk (fun e=>?_) (fun hk e=>?_)
 ·exact B7.of (A0 (⟨0,0⟩:Spn) x0 _ rfl) rfl fn0
 refine B7.cons (fun r=>bv r) hk (fun e=>?_) (fun hk e=>?_)
 ·exact B7.of (A0 (⟨0,0⟩:Spn) x0 _ rfl) rfl fn0
 refine B7.cons (fun r=>bv r) hk (fun e=>?_) (fun hk e=>?_)
 ·exact B7.of (A0 (⟨0,0⟩:Spn) x0 _ rfl) rfl fn0
 refine B7.cons (fun r=>bv r) hk (fun e=>?_) (fun hk e=>?_)
 ·exact B7.of (A0 (⟨0,0⟩:Spn) x0 _ rfl) rfl fn0
 refine B7.cons (fun r=>bv r) hk (fun e=>?_) (fun hk e=>?_)
 ·exact B7.of (A0 (⟨0,0⟩:Spn) x0 _ rfl) rfl fn0
 refine B7.cons (fun r=>bv r) hk (fun e=>?_) (fun hk e=>?_)
 ·exact B7.of (A0 (⟨0,0⟩:Spn) x0 _ rfl) rfl fn0
 refine B7.cons (fun r=>bv r) hk (fun e=>?_) (fun hk e=>?_)
 ·exact B7.of (A0 (⟨1,9999⟩:Spn) x0 _ rfl) rfl fn0
 refine B7.cons (fun r=>bv r) hk (fun e=>?_) (fun hk e=>?_)
 ·exact B7.of (A0 (⟨1,9999⟩:Spn) x0 _ rfl) rfl fn0
 refine B7.cons (fun r=>bv r) hk (fun e=>?_) (fun hk e=>?_)
 ·exact B7.of (A0 (⟨0,0⟩:Spn) x0 _ rfl) rfl fn0
 refine B7.cons (fun r=>bv r) hk (fun e=>?_) (fun hk e=>?_)
 ·exact B7.of (A0 (⟨0,0⟩:Spn) x0 _ rfl) rfl fn0
 refine B7.cons (fun r=>bv r) hk (fun e=>?_) (fun hk e=>?_)
 ·exact B7.of (A0 (⟨0,0⟩:Spn) x0 _ rfl) rfl fn0
 refine B7.cons (fun r=>bv r) hk (fun e=>?_) (fun hk e=>?_)
 ·exact B7.of (A0 (⟨0,0⟩:Spn) x0 _ rfl) rfl fn0
 refine B7.cons (fun r=>bv r) hk (fun e=>?_) (fun hk e=>?_)
 ·exact B7.of (A0 (⟨0,0⟩:Spn) x0 _ rfl) rfl fn0
 refine B7.cons (fun r=>bv r) hk (fun e=>?_) (fun hk e=>?_)
 ·exact B7.of (A0 (⟨0,0⟩:Spn) x0 _ rfl) rfl fn0
 refine B7.cons (fun r=>bv r) hk (fun e=>?_) (fun hk e=>?_)
 ·exact B7.of (A0 (⟨0,0⟩:Spn) x0 _ rfl) rfl fn0
 refine B7.cons (fun r=>bv r) hk (fun e=>?_) (fun hk e=>?_)
 ·exact B7.of (A0 (⟨0,0⟩:Spn) x0 _ rfl) rfl fn0
 refine B7.cons (fun r=>bv r) hk (fun e=>?_) (fun hk e=>?_)
 ·exact B7.of (A0 (⟨0,0⟩:Spn) x0 _ rfl) rfl fn0
 refine B7.cons (fun r=>bv r) hk (fun e=>?_) (fun hk e=>?_)
 ·exact B7.of (A0 (⟨0,0⟩:Spn) x0 _ rfl) rfl fn0
 refine B7.cons (fun r=>bv r) hk (fun e=>?_) (fun hk e=>?_)
 ·exact B7.of (A0 (⟨0,1⟩:Spn) x0 _ rfl) rfl fn0
 refine B7.cons (fun r=>bv r) hk (fun e=>?_) (fun hk e=>?_)
 ·exact B7.of (A0 (⟨0,1⟩:Spn) x0 _ rfl) rfl fn0
 refine B7.cons (fun r=>bv r) hk (fun e=>?_) (fun hk e=>?_)
 ·exact B7.of (A0 (⟨0,1⟩:Spn) x0 _ rfl) rfl fn0
 exact B7.nil hk
theorem B4d {a:Act} {k:Int} (h:a.kind=k):a=⟨k,a.n,a.m,a.color,a.text⟩:=by subst h;rfl
def O8 (a:Act):Int :=
 (bif (decide (a.kind=1)) then (bif ((decide ((A7c a.n)<0))||(!(decide ((⟨1,a.n,a.m,a.color,a.text⟩:Act)=(A2j a.kind a.n 0))))) then 200 else 0) else (bif (decide (a.kind=39)) then (bif (!decide ((I1 (⟨39,a.n,a.m,a.color,a.text⟩:Act))=0)) then 200 else 0) else (bif (decide (a.kind=44)) then (bif (decide (a.kind=44)) then (B9 (A0h a.n a.m a.color a.text) fun (y0:List UInt8×Int)=>(bif (!decide (y0.2=0)) then 200 else 0)) else (bif (((((!(H5 a.kind C0))||(!(D7 a.kind a.n)))||(!(F7 a.kind a.m)))||(!(decide (a.color=Col.zero))))||(!(decide (a.text=([]:List UInt8))))) then 200 else 0)) else (bif (decide (a.kind=45)) then (bif (decide (a.kind=45)) then (B9 (X8 a.n a.m a.color a.text) fun (y2:List UInt8×Int)=>(bif (!decide (y2.2=0)) then 200 else 0)) else (bif (((((!(H5 a.kind C0))||(!(D7 a.kind a.n)))||(!(F7 a.kind a.m)))||(!(decide (a.color=Col.zero))))||(!(decide (a.text=([]:List UInt8))))) then 200 else 0)) else (bif (decide (a.kind=46)) then (B9 (X9 a.n a.m a.color a.text) fun (y1:List UInt8×Int)=>(bif (!decide (y1.2=0)) then 200 else 0)) else (bif (((((!(H5 a.kind C0))||(!(D7 a.kind a.n)))||(!(F7 a.kind a.m)))||(!(decide (a.color=Col.zero))))||(!(decide (a.text=([]:List UInt8))))) then 200 else 0))))))
set_option maxHeartbeats 2000000 in
theorem C2n (a:Act) (hs:a.text.length≤100000000) (R:Int) (hR:O8 a=R):I4 Tryz.prog 38 [ag (A4 a)] [B5f,B5e,Q1,P2,L7] (iv R):=by
 refine zco Tryz.func38 [(0,ag (A4 a))] fun X hX hr hD=>?_
 replace hR:=(O8.eq_1 ..).symm.trans hR
 refine sr 2 rfl (Q2 2 0 [] (fun b1=>[(1,pt b1 0)]) (fun b1=>[bx b1 (A4 a) 26]) (fun b1=>?_))
 refine ie (sr 1 rfl (ip' 1 0 [(3,iv 0)] ?_))
 refine ie (A8 (sr 2 rfl (zrl 2 0 [0] [(7,iv a.kind)] ?_)))
 refine ie (B3 (sr 2 rfl (ip' 2 0 [(44,bv (decide (a.kind=1)))] ?_)))
 refine ie ?_
 refine zjd rfl hR ?_ ?_<;>clear hR<;>intro hR h2 h2p
 ·refine sd 13 rfl (by kernel_rfl) rfl ?_
  refine zdg 2 11 [0] [(47,iv a.n)] ?_
  refine zcd (D3b a.n _ rfl) (A1.pick [0,1] rfl) ?_
  refine dp' 2 8 [(50,bv (decide ((A7c a.n)<0)))] ?_
  refine zdr 8 0 50 58 (!(decide ((⟨1,a.n,a.m,a.color,a.text⟩:Act)=(A2j a.kind a.n 0)))) (fun g3 g3p=>?_) ?_
  ·refine dd rfl (by exact J2 (K0 (us:=A4 a) A3l rfl rfl 0 rfl rfl rfl) (congrArg (fun z=>ag (A4 z)) (B4d h2p))) ?_
   refine zdg 4 3 [0,0] [(53,iv a.kind),(55,iv a.n)] ?_
   refine zcd (D1s a.kind a.n 0 _ rfl) fn0 ?_
   refine dd rfl (A2m (a:=(⟨1,a.n,a.m,a.color,a.text⟩:Act)) (b:=(A2j a.kind a.n 0)) C6w rfl rfl rfl) ?_
   refine dp' 1 0 [(58,bv (!(decide ((⟨1,a.n,a.m,a.color,a.text⟩:Act)=(A2j a.kind a.n 0)))))] ?_
   exact zad 7 50 58 g3
  refine de ?_
  refine zjb rfl hR ?_ ?_<;>clear hR<;>intro hR h4
  ·have h4p:((A7c a.n)<0)∨(¬ (⟨1,a.n,a.m,a.color,a.text⟩:Act)=(A2j a.kind a.n 0)):=by simpa using h4
   refine A2 1 rfl (ip' 1 0 [(3,iv 200)] ?_)
   refine A3 (nx (A8 (sr 2 rfl (ip' 2 0 [(73,bv true)] ?_))))
   refine ie (N1 rfl (sr 1 rfl (ip' 1 0 [(2,iv 200)] ?_)))
   subst hR
   refine ie (A9 ?_)
   exact F2 hr hD
  have h4p:¬ (((A7c a.n)<0)∨(¬ (⟨1,a.n,a.m,a.color,a.text⟩:Act)=(A2j a.kind a.n 0))):=by simpa using h4
  refine A6 (nx (A8 (sr 2 rfl (ip' 2 0 [(73,bv false)] ?_))))
  refine ie (A9u rfl (A6 (nx (sr 1 rfl (ip' 1 0 [(2,iv 0)] ?_)))))
  subst hR
  refine ie (A9 ?_)
  exact F2 hr hD
 refine sr 2 rfl (ip' 2 0 [(59,bv (decide (a.kind=39)))] ?_)
 refine ie ?_
 refine zjd rfl hR ?_ ?_<;>clear hR<;>intro hR h5 h5p
 ·refine A2 3 rfl (ix rfl (by exact J2 (K0 (us:=A4 a) A3l rfl rfl 0 rfl rfl rfl) (congrArg (fun z=>ag (A4 z)) (B4d h5p))) ?_)
  refine zca (B1g (⟨39,a.n,a.m,a.color,a.text⟩:Act) _ rfl) fn0 ?_
  refine ip' 1 0 [(3,iv (I1 (⟨39,a.n,a.m,a.color,a.text⟩:Act)))] ?_
  refine A3 (nx (A8 (sr 2 rfl (ip' 2 0 [(73,bv (!decide ((I1 (⟨39,a.n,a.m,a.color,a.text⟩:Act))=0)))] ?_))))
  refine ie ?_
  refine zjn rfl hR ?_ ?_<;>clear hR<;>intro hR h6 h6p
  ·refine sr 1 rfl (ip' 1 0 [(2,iv 200)] ?_)
   subst hR
   refine ie (A9 ?_)
   exact F2 hr hD
  refine A6 (nx (sr 1 rfl (ip' 1 0 [(2,iv 0)] ?_)))
  subst hR
  refine ie (A9 ?_)
  exact F2 hr hD
 refine A8 (sr 2 rfl (ip' 2 0 [(63,bv (decide (a.kind=44)))] ?_))
 refine ie ?_
 refine zjd rfl hR ?_ ?_<;>clear hR<;>intro hR h7 h7p
 ·refine A6 (nx ?_)
  refine zjd rfl hR ?_ ?_<;>clear hR<;>intro hR h8 h8p
  ·refine A2 6 rfl (ix rfl (by exact J2 (K0 (us:=A4 a) A3l rfl rfl 0 rfl rfl rfl) (congrArg (fun z=>ag (A4 z)) (B4d h8p))) ?_)
   have hQ:=D6 hR;clear hR;obtain ⟨y0,hy0,hR⟩:=hQ
   refine zca (C0l a.n a.m a.color a.text (by first|omega|(simp<;>omega)) y0 hy0) fn0 ?_
   have:=B0r a.n a.m a.color a.text;try rw [hy0] at this
   refine ip' 4 0 [(3,iv y0.2)] ?_
   refine A3 (nx (A8 (sr 2 rfl (ip' 2 0 [(73,bv (!decide (y0.2=0)))] ?_))))
   refine ie ?_
   refine zjn rfl hR ?_ ?_<;>clear hR<;>intro hR h9 h9p
   ·refine sr 1 rfl (ip' 1 0 [(2,iv 200)] ?_)
    subst hR
    refine ie (A9 ?_)
    exact F2 hr hD
   refine A6 (nx (sr 1 rfl (ip' 1 0 [(2,iv 0)] ?_)))
   subst hR
   refine ie (A9 ?_)
   exact F2 hr hD
  refine sh 10 [(10,[bx b1 (A4 a) 26])] [B5f,B5e,Q1,P2,L7] [bx b1 (A4 a) 26] (zml 10 0) (by kernel_rfl) rfl (by kernel_rfl) (by kernel_rfl) (by kernel_rfl) (mk [true] rfl) A1.refl ?_
  refine zhp [1] 9 (zml 10 2) [(10,pt b1 0)] ?_
  refine zhl 2 [bx b1 (A4 a) 26] (zml 10 6) rfl (B4 (v:=iv a.kind) ty3 rfl rfl 0 rfl rfl) ?_
  refine B0b 0 7 (by kernel_rfl) ?_ ?_
  ·refine B5g 0 [bx b1 (A4 a) 26] (zml 10 7) rfl rfl rfl (by kernel_rfl) (by kernel_rfl) (by kernel_rfl) (C2 (L2:=[bx b1 (A4 a) 26]) (Z5 _ rfl) rfl rfl rfl rfl rfl fn0 (List.Perm.refl _) (fun b10=>[(b10,.map (B0 C7d 0).toArray 41),bx b1 (A4 a) 26]) (fun _=>rfl)) (fun b10=>(mk [false,true] rfl)) (fun b10=>A1.refl) fun b10=>?_
   refine B0b 3 7 (by kernel_rfl) ?_ ?_
   ·refine B5g 3 [bx b1 (A4 a) 26] (zml 10 15) rfl rfl rfl (by kernel_rfl) (by kernel_rfl) (by kernel_rfl) (Det.tri (G9.det (by exact J2 (R6 B2v K3 rfl rfl rfl 0 rfl (by kernel_rfl) (by kernel_rfl)) (A1t a.kind)))) (fun _=>(mk [false,true] rfl)) (fun _=>A1.refl) fun _=>?_
    refine zhp [4,5,6] 3 (zml 10 127) [(13,ag [(lkV a.kind .nilFunc C0),(lkV a.kind .nilFunc J7)]),(14,bv (H5 a.kind C0))] ?_
    refine zho 7 [bx b1 (A4 a) 26] (zml 10 255) rfl (Z4 (cs:=[.nilFunc,.nilFunc]) A8b rfl) (fun b11=>(mk [false,false,true] rfl)) (fun b11=>A1.refl) fun b11=>?_
    refine zho 8 [bx b1 (A4 a) 26] (zml 10 511) rfl (O4 (us:=[(lkV a.kind .nilFunc C0),(lkV a.kind .nilFunc J7)]) (cs':=[(lkV a.kind .nilFunc C0),(lkV a.kind .nilFunc J7)]) B7o rfl rfl rfl 0 rfl rfl rfl (by simp only [List.all_cons,List.all_nil,Bool.and_true,Bool.and_eq_true];exact ⟨R9 rfl rfl,R9 rfl rfl⟩) rfl rfl) (fun _=>(mk [false,false,true] rfl)) (fun _=>A1.refl) fun _=>?_
    refine zhp [9] 0 (zml 10 1023) [(5,bv (H5 a.kind C0))] ?_
    refine A6u (by kernel_rfl) ?_
    refine sr 29 rfl (ip' 3 26 [(17,bv (!(H5 a.kind C0)))] ?_)
    refine zio 7 19 17 24 (!(D7 a.kind a.n)) (fun g12=>?_) ?_
    ·refine ip' 1 6 [(18,pt b11 0)] ?_
     refine ix rfl (B4 (v:=(lkV a.kind .nilFunc C0)) A4c rfl rfl 0 rfl rfl) ?_
     refine ip' 1 4 [(20,pt b1 1)] ?_
     refine ix rfl (B4 (v:=iv a.n) ty3 rfl rfl 2 rfl rfl) ?_
     refine ixc rfl (O3 (A0o a.kind a.n (by first|assumption|(have hh:H5 a.kind C0=true:=(by first|assumption|simp_all);exact hh)) _ rfl) rfl rfl rfl rfl fn0) ?_
     refine ip' 2 0 [(24,bv (!(D7 a.kind a.n)))] ?_
     exact zai 7 17 24 g12
    refine ip' 1 18 [(25,bv ((!(H5 a.kind C0))||(!(D7 a.kind a.n))))] ?_
    refine zio 7 11 25 32 (!(F7 a.kind a.m)) (fun g13=>?_) ?_
    ·have g13p:=g13;try simp at g13p
     refine ip' 1 6 [(26,pt b11 1)] ?_
     refine ix rfl (B4 (v:=(lkV a.kind .nilFunc J7)) A4c rfl rfl 0 rfl rfl) ?_
     refine ip' 1 4 [(28,pt b1 2)] ?_
     refine ix rfl (B4 (v:=iv a.m) ty3 rfl rfl 2 rfl rfl) ?_
     refine ixc rfl (O3 (A0u a.kind a.m (by first|assumption|(have hh:H5 a.kind C0=true:=(by first|assumption|simp_all);exact hh)) _ rfl) rfl rfl rfl rfl fn0) ?_
     refine ip' 2 0 [(32,bv (!(F7 a.kind a.m)))] ?_
     exact zai 7 25 32 g13
    refine ip' 1 10 [(33,bv (((!(H5 a.kind C0))||(!(D7 a.kind a.n)))||(!(F7 a.kind a.m))))] ?_
    refine zio 5 5 33 38 (!(decide (a.color=Col.zero))) (fun g14=>?_) ?_
    ·have g14p:=g14;try simp at g14p
     refine ip' 1 4 [(34,pt b1 3)] ?_
     refine ix rfl (K0 (us:=M8 a.color) B5d rfl rfl 2 rfl rfl rfl) ?_
     refine zrl 1 2 [] [(36,ag (M8 Col.zero))] ?_
     refine ix rfl (A2m (a:=a.color) (b:=Col.zero) A7g rfl rfl rfl) ?_
     refine ip' 1 0 [(38,bv (!(decide (a.color=Col.zero))))] ?_
     exact zai 6 33 38 g14
    refine ip' 1 4 [(39,bv ((((!(H5 a.kind C0))||(!(D7 a.kind a.n)))||(!(F7 a.kind a.m)))||(!(decide (a.color=Col.zero)))))] ?_
    refine zio 4 0 39 43 (!(decide (a.text=([]:List UInt8)))) (fun g15=>?_) ?_
    ·have g15p:=g15;try simp at g15p
     refine ip' 1 3 [(40,pt b1 5)] ?_
     refine ix rfl (B4 (v:=sv a.text) ty9 rfl rfl 2 rfl rfl) ?_
     refine ix rfl (A1m rfl rfl rfl) ?_
     refine ip' 1 0 [(43,bv (!(decide (a.text=([]:List UInt8)))))] ?_
     exact zai 5 39 43 g15
    refine ie ?_
    refine zjb rfl hR ?_ ?_<;>clear hR<;>intro hR h16
    ·have h16p:=h16;try simp at h16p
     refine A2 1 rfl (ip' 1 0 [(3,iv 200)] ?_)
     refine A3 (nx (A8 (sr 2 rfl (ip' 2 0 [(73,bv true)] ?_))))
     refine ie (N1 rfl (sr 1 rfl (ip' 1 0 [(2,iv 200)] ?_)))
     subst hR
     refine ie (A9 ?_)
     exact F2 hr hD
    have h16p:=h16;try simp at h16p
    refine A6 (nx (A8 (sr 2 rfl (ip' 2 0 [(73,bv false)] ?_))))
    refine ie (A9u rfl (A6 (nx (sr 1 rfl (ip' 1 0 [(2,iv 0)] ?_)))))
    subst hR
    refine ie (A9 ?_)
    exact F2 hr hD
   ·refine B5g 7 [bx b1 (A4 a) 26] (zml 10 135) rfl rfl rfl (by kernel_rfl) (by kernel_rfl) (by kernel_rfl) (Z4 (cs:=[.nilFunc,.nilFunc]) A8b rfl) (fun b17=>(mk [false,false,true] rfl)) (fun b17=>A1.refl) fun b17=>?_
    refine zho 3 [bx b1 (A4 a) 26] (zml 10 143) rfl (Det.tri (G9.det (by exact J2 (R6 B2v K3 rfl rfl rfl 1 rfl (by kernel_rfl) (by kernel_rfl)) (A1t a.kind)))) (fun _=>(mk [false,false,true] rfl)) (fun _=>A1.refl) fun _=>?_
    refine zhp [4,5,6] 2 (zml 10 255) [(13,ag [(lkV a.kind .nilFunc C0),(lkV a.kind .nilFunc J7)]),(14,bv (H5 a.kind C0))] ?_
    refine zho 8 [bx b1 (A4 a) 26] (zml 10 511) rfl (O4 (us:=[(lkV a.kind .nilFunc C0),(lkV a.kind .nilFunc J7)]) (cs':=[(lkV a.kind .nilFunc C0),(lkV a.kind .nilFunc J7)]) B7o rfl rfl rfl 0 rfl rfl rfl (by simp only [List.all_cons,List.all_nil,Bool.and_true,Bool.and_eq_true];exact ⟨R9 rfl rfl,R9 rfl rfl⟩) rfl rfl) (fun _=>(mk [false,false,true] rfl)) (fun _=>A1.refl) fun _=>?_
    refine zhp [9] 0 (zml 10 1023) [(5,bv (H5 a.kind C0))] ?_
    refine A6u (by kernel_rfl) ?_
    refine sr 29 rfl (ip' 3 26 [(17,bv (!(H5 a.kind C0)))] ?_)
    refine zio 7 19 17 24 (!(D7 a.kind a.n)) (fun g18=>?_) ?_
    ·refine ip' 1 6 [(18,pt b17 0)] ?_
     refine ix rfl (B4 (v:=(lkV a.kind .nilFunc C0)) A4c rfl rfl 0 rfl rfl) ?_
     refine ip' 1 4 [(20,pt b1 1)] ?_
     refine ix rfl (B4 (v:=iv a.n) ty3 rfl rfl 2 rfl rfl) ?_
     refine ixc rfl (O3 (A0o a.kind a.n (by first|assumption|(have hh:H5 a.kind C0=true:=(by first|assumption|simp_all);exact hh)) _ rfl) rfl rfl rfl rfl fn0) ?_
     refine ip' 2 0 [(24,bv (!(D7 a.kind a.n)))] ?_
     exact zai 7 17 24 g18
    refine ip' 1 18 [(25,bv ((!(H5 a.kind C0))||(!(D7 a.kind a.n))))] ?_
    refine zio 7 11 25 32 (!(F7 a.kind a.m)) (fun g19=>?_) ?_
    ·have g19p:=g19;try simp at g19p
     refine ip' 1 6 [(26,pt b17 1)] ?_
     refine ix rfl (B4 (v:=(lkV a.kind .nilFunc J7)) A4c rfl rfl 0 rfl rfl) ?_
     refine ip' 1 4 [(28,pt b1 2)] ?_
     refine ix rfl (B4 (v:=iv a.m) ty3 rfl rfl 2 rfl rfl) ?_
     refine ixc rfl (O3 (A0u a.kind a.m (by first|assumption|(have hh:H5 a.kind C0=true:=(by first|assumption|simp_all);exact hh)) _ rfl) rfl rfl rfl rfl fn0) ?_
     refine ip' 2 0 [(32,bv (!(F7 a.kind a.m)))] ?_
     exact zai 7 25 32 g19
    refine ip' 1 10 [(33,bv (((!(H5 a.kind C0))||(!(D7 a.kind a.n)))||(!(F7 a.kind a.m))))] ?_
    refine zio 5 5 33 38 (!(decide (a.color=Col.zero))) (fun g20=>?_) ?_
    ·have g20p:=g20;try simp at g20p
     refine ip' 1 4 [(34,pt b1 3)] ?_
     refine ix rfl (K0 (us:=M8 a.color) B5d rfl rfl 2 rfl rfl rfl) ?_
     refine zrl 1 2 [] [(36,ag (M8 Col.zero))] ?_
     refine ix rfl (A2m (a:=a.color) (b:=Col.zero) A7g rfl rfl rfl) ?_
     refine ip' 1 0 [(38,bv (!(decide (a.color=Col.zero))))] ?_
     exact zai 6 33 38 g20
    refine ip' 1 4 [(39,bv ((((!(H5 a.kind C0))||(!(D7 a.kind a.n)))||(!(F7 a.kind a.m)))||(!(decide (a.color=Col.zero)))))] ?_
    refine zio 4 0 39 43 (!(decide (a.text=([]:List UInt8)))) (fun g21=>?_) ?_
    ·have g21p:=g21;try simp at g21p
     refine ip' 1 3 [(40,pt b1 5)] ?_
     refine ix rfl (B4 (v:=sv a.text) ty9 rfl rfl 2 rfl rfl) ?_
     refine ix rfl (A1m rfl rfl rfl) ?_
     refine ip' 1 0 [(43,bv (!(decide (a.text=([]:List UInt8)))))] ?_
     exact zai 5 39 43 g21
    refine ie ?_
    refine zjb rfl hR ?_ ?_<;>clear hR<;>intro hR h22
    ·have h22p:=h22;try simp at h22p
     refine A2 1 rfl (ip' 1 0 [(3,iv 200)] ?_)
     refine A3 (nx (A8 (sr 2 rfl (ip' 2 0 [(73,bv true)] ?_))))
     refine ie (N1 rfl (sr 1 rfl (ip' 1 0 [(2,iv 200)] ?_)))
     subst hR
     refine ie (A9 ?_)
     exact F2 hr hD
    have h22p:=h22;try simp at h22p
    refine A6 (nx (A8 (sr 2 rfl (ip' 2 0 [(73,bv false)] ?_))))
    refine ie (A9u rfl (A6 (nx (sr 1 rfl (ip' 1 0 [(2,iv 0)] ?_)))))
    subst hR
    refine ie (A9 ?_)
    exact F2 hr hD
  ·refine B5g 7 [bx b1 (A4 a) 26] (zml 10 134) rfl rfl rfl (by kernel_rfl) (by kernel_rfl) (by kernel_rfl) (Z4 (cs:=[.nilFunc,.nilFunc]) A8b rfl) (fun b23=>(mk [false,true] rfl)) (fun b23=>A1.refl) fun b23=>?_
   refine zho 0 [bx b1 (A4 a) 26] (zml 10 135) rfl (C2 (L2:=[bx b23 [.nilFunc,.nilFunc] 134,bx b1 (A4 a) 26]) (Z5 _ rfl) rfl rfl rfl rfl rfl fn0 (List.Perm.refl _) (fun b24=>[(b24,.map (B0 C7d 0).toArray 41),bx b23 [.nilFunc,.nilFunc] 134,bx b1 (A4 a) 26]) (fun _=>rfl)) (fun b24=>(mk [false,false,true] rfl)) (fun b24=>A1.refl) fun b24=>?_
   refine zho 3 [bx b1 (A4 a) 26] (zml 10 143) rfl (Det.tri (G9.det (by exact J2 (R6 B2v K3 rfl rfl rfl 0 rfl (by kernel_rfl) (by kernel_rfl)) (A1t a.kind)))) (fun _=>(mk [false,false,true] rfl)) (fun _=>A1.refl) fun _=>?_
   refine zhp [4,5,6] 2 (zml 10 255) [(13,ag [(lkV a.kind .nilFunc C0),(lkV a.kind .nilFunc J7)]),(14,bv (H5 a.kind C0))] ?_
   refine zho 8 [bx b1 (A4 a) 26] (zml 10 511) rfl (O4 (us:=[(lkV a.kind .nilFunc C0),(lkV a.kind .nilFunc J7)]) (cs':=[(lkV a.kind .nilFunc C0),(lkV a.kind .nilFunc J7)]) B7o rfl rfl rfl 1 rfl rfl rfl (by simp only [List.all_cons,List.all_nil,Bool.and_true,Bool.and_eq_true];exact ⟨R9 rfl rfl,R9 rfl rfl⟩) rfl rfl) (fun _=>(mk [false,false,true] rfl)) (fun _=>A1.refl) fun _=>?_
   refine zhp [9] 0 (zml 10 1023) [(5,bv (H5 a.kind C0))] ?_
   refine A6u (by kernel_rfl) ?_
   refine sr 29 rfl (ip' 3 26 [(17,bv (!(H5 a.kind C0)))] ?_)
   refine zio 7 19 17 24 (!(D7 a.kind a.n)) (fun g25=>?_) ?_
   ·refine ip' 1 6 [(18,pt b23 0)] ?_
    refine ix rfl (B4 (v:=(lkV a.kind .nilFunc C0)) A4c rfl rfl 1 rfl rfl) ?_
    refine ip' 1 4 [(20,pt b1 1)] ?_
    refine ix rfl (B4 (v:=iv a.n) ty3 rfl rfl 2 rfl rfl) ?_
    refine ixc rfl (O3 (A0o a.kind a.n (by first|assumption|(have hh:H5 a.kind C0=true:=(by first|assumption|simp_all);exact hh)) _ rfl) rfl rfl rfl rfl fn0) ?_
    refine ip' 2 0 [(24,bv (!(D7 a.kind a.n)))] ?_
    exact zai 7 17 24 g25
   refine ip' 1 18 [(25,bv ((!(H5 a.kind C0))||(!(D7 a.kind a.n))))] ?_
   refine zio 7 11 25 32 (!(F7 a.kind a.m)) (fun g26=>?_) ?_
   ·have g26p:=g26;try simp at g26p
    refine ip' 1 6 [(26,pt b23 1)] ?_
    refine ix rfl (B4 (v:=(lkV a.kind .nilFunc J7)) A4c rfl rfl 1 rfl rfl) ?_
    refine ip' 1 4 [(28,pt b1 2)] ?_
    refine ix rfl (B4 (v:=iv a.m) ty3 rfl rfl 2 rfl rfl) ?_
    refine ixc rfl (O3 (A0u a.kind a.m (by first|assumption|(have hh:H5 a.kind C0=true:=(by first|assumption|simp_all);exact hh)) _ rfl) rfl rfl rfl rfl fn0) ?_
    refine ip' 2 0 [(32,bv (!(F7 a.kind a.m)))] ?_
    exact zai 7 25 32 g26
   refine ip' 1 10 [(33,bv (((!(H5 a.kind C0))||(!(D7 a.kind a.n)))||(!(F7 a.kind a.m))))] ?_
   refine zio 5 5 33 38 (!(decide (a.color=Col.zero))) (fun g27=>?_) ?_
   ·have g27p:=g27;try simp at g27p
    refine ip' 1 4 [(34,pt b1 3)] ?_
    refine ix rfl (K0 (us:=M8 a.color) B5d rfl rfl 2 rfl rfl rfl) ?_
    refine zrl 1 2 [] [(36,ag (M8 Col.zero))] ?_
    refine ix rfl (A2m (a:=a.color) (b:=Col.zero) A7g rfl rfl rfl) ?_
    refine ip' 1 0 [(38,bv (!(decide (a.color=Col.zero))))] ?_
    exact zai 6 33 38 g27
   refine ip' 1 4 [(39,bv ((((!(H5 a.kind C0))||(!(D7 a.kind a.n)))||(!(F7 a.kind a.m)))||(!(decide (a.color=Col.zero)))))] ?_
   refine zio 4 0 39 43 (!(decide (a.text=([]:List UInt8)))) (fun g28=>?_) ?_
   ·have g28p:=g28;try simp at g28p
    refine ip' 1 3 [(40,pt b1 5)] ?_
    refine ix rfl (B4 (v:=sv a.text) ty9 rfl rfl 2 rfl rfl) ?_
    refine ix rfl (A1m rfl rfl rfl) ?_
    refine ip' 1 0 [(43,bv (!(decide (a.text=([]:List UInt8)))))] ?_
    exact zai 5 39 43 g28
   refine ie ?_
   refine zjb rfl hR ?_ ?_<;>clear hR<;>intro hR h29
   ·have h29p:=h29;try simp at h29p
    refine A2 1 rfl (ip' 1 0 [(3,iv 200)] ?_)
    refine A3 (nx (A8 (sr 2 rfl (ip' 2 0 [(73,bv true)] ?_))))
    refine ie (N1 rfl (sr 1 rfl (ip' 1 0 [(2,iv 200)] ?_)))
    subst hR
    refine ie (A9 ?_)
    exact F2 hr hD
   have h29p:=h29;try simp at h29p
   refine A6 (nx (A8 (sr 2 rfl (ip' 2 0 [(73,bv false)] ?_))))
   refine ie (A9u rfl (A6 (nx (sr 1 rfl (ip' 1 0 [(2,iv 0)] ?_)))))
   subst hR
   refine ie (A9 ?_)
   exact F2 hr hD
 refine sr 2 rfl (ip' 2 0 [(63,bv (decide (a.kind=45)))] ?_)
 refine ie ?_
 refine zjd rfl hR ?_ ?_<;>clear hR<;>intro hR h30 h30p
 ·refine A6 (nx ?_)
  refine zjd rfl hR ?_ ?_<;>clear hR<;>intro hR h31 h31p
  ·refine A2 6 rfl (ix rfl (by exact J2 (K0 (us:=A4 a) A3l rfl rfl 0 rfl rfl rfl) (congrArg (fun z=>ag (A4 z)) (B4d h31p))) ?_)
   have hQ:=D6 hR;clear hR;obtain ⟨y2,hy2,hR⟩:=hQ
   refine zca (B7r a.n a.m a.color a.text (by first|omega|(simp<;>omega)) y2 hy2) (A1.pick [2,3,4] rfl) ?_
   have:=A9f a.n a.m a.color a.text;try rw [hy2] at this
   refine ip' 4 0 [(3,iv y2.2)] ?_
   refine A3 (nx (A8 (sr 2 rfl (ip' 2 0 [(73,bv (!decide (y2.2=0)))] ?_))))
   refine ie ?_
   refine zjn rfl hR ?_ ?_<;>clear hR<;>intro hR h32 h32p
   ·refine sr 1 rfl (ip' 1 0 [(2,iv 200)] ?_)
    subst hR
    refine ie (A9 ?_)
    exact F2 hr hD
   refine A6 (nx (sr 1 rfl (ip' 1 0 [(2,iv 0)] ?_)))
   subst hR
   refine ie (A9 ?_)
   exact F2 hr hD
  refine sh 10 [(10,[bx b1 (A4 a) 26])] [B5f,B5e,Q1,P2,L7] [bx b1 (A4 a) 26] (zml 10 0) (by kernel_rfl) rfl (by kernel_rfl) (by kernel_rfl) (by kernel_rfl) (mk [true] rfl) A1.refl ?_
  refine zhp [1] 9 (zml 10 2) [(10,pt b1 0)] ?_
  refine zhl 2 [bx b1 (A4 a) 26] (zml 10 6) rfl (B4 (v:=iv a.kind) ty3 rfl rfl 0 rfl rfl) ?_
  refine B0b 0 7 (by kernel_rfl) ?_ ?_
  ·refine B5g 0 [bx b1 (A4 a) 26] (zml 10 7) rfl rfl rfl (by kernel_rfl) (by kernel_rfl) (by kernel_rfl) (C2 (L2:=[bx b1 (A4 a) 26]) (Z5 _ rfl) rfl rfl rfl rfl rfl fn0 (List.Perm.refl _) (fun b33=>[(b33,.map (B0 C7d 0).toArray 41),bx b1 (A4 a) 26]) (fun _=>rfl)) (fun b33=>(mk [false,true] rfl)) (fun b33=>A1.refl) fun b33=>?_
   refine B0b 3 7 (by kernel_rfl) ?_ ?_
   ·refine B5g 3 [bx b1 (A4 a) 26] (zml 10 15) rfl rfl rfl (by kernel_rfl) (by kernel_rfl) (by kernel_rfl) (Det.tri (G9.det (by exact J2 (R6 B2v K3 rfl rfl rfl 0 rfl (by kernel_rfl) (by kernel_rfl)) (A1t a.kind)))) (fun _=>(mk [false,true] rfl)) (fun _=>A1.refl) fun _=>?_
    refine zhp [4,5,6] 3 (zml 10 127) [(13,ag [(lkV a.kind .nilFunc C0),(lkV a.kind .nilFunc J7)]),(14,bv (H5 a.kind C0))] ?_
    refine zho 7 [bx b1 (A4 a) 26] (zml 10 255) rfl (Z4 (cs:=[.nilFunc,.nilFunc]) A8b rfl) (fun b34=>(mk [false,false,true] rfl)) (fun b34=>A1.refl) fun b34=>?_
    refine zho 8 [bx b1 (A4 a) 26] (zml 10 511) rfl (O4 (us:=[(lkV a.kind .nilFunc C0),(lkV a.kind .nilFunc J7)]) (cs':=[(lkV a.kind .nilFunc C0),(lkV a.kind .nilFunc J7)]) B7o rfl rfl rfl 0 rfl rfl rfl (by simp only [List.all_cons,List.all_nil,Bool.and_true,Bool.and_eq_true];exact ⟨R9 rfl rfl,R9 rfl rfl⟩) rfl rfl) (fun _=>(mk [false,false,true] rfl)) (fun _=>A1.refl) fun _=>?_
    refine zhp [9] 0 (zml 10 1023) [(5,bv (H5 a.kind C0))] ?_
    refine A6u (by kernel_rfl) ?_
    refine sr 29 rfl (ip' 3 26 [(17,bv (!(H5 a.kind C0)))] ?_)
    refine zio 7 19 17 24 (!(D7 a.kind a.n)) (fun g35=>?_) ?_
    ·refine ip' 1 6 [(18,pt b34 0)] ?_
     refine ix rfl (B4 (v:=(lkV a.kind .nilFunc C0)) A4c rfl rfl 0 rfl rfl) ?_
     refine ip' 1 4 [(20,pt b1 1)] ?_
     refine ix rfl (B4 (v:=iv a.n) ty3 rfl rfl 2 rfl rfl) ?_
     refine ixc rfl (O3 (A0o a.kind a.n (by first|assumption|(have hh:H5 a.kind C0=true:=(by first|assumption|simp_all);exact hh)) _ rfl) rfl rfl rfl rfl fn0) ?_
     refine ip' 2 0 [(24,bv (!(D7 a.kind a.n)))] ?_
     exact zai 7 17 24 g35
    refine ip' 1 18 [(25,bv ((!(H5 a.kind C0))||(!(D7 a.kind a.n))))] ?_
    refine zio 7 11 25 32 (!(F7 a.kind a.m)) (fun g36=>?_) ?_
    ·have g36p:=g36;try simp at g36p
     refine ip' 1 6 [(26,pt b34 1)] ?_
     refine ix rfl (B4 (v:=(lkV a.kind .nilFunc J7)) A4c rfl rfl 0 rfl rfl) ?_
     refine ip' 1 4 [(28,pt b1 2)] ?_
     refine ix rfl (B4 (v:=iv a.m) ty3 rfl rfl 2 rfl rfl) ?_
     refine ixc rfl (O3 (A0u a.kind a.m (by first|assumption|(have hh:H5 a.kind C0=true:=(by first|assumption|simp_all);exact hh)) _ rfl) rfl rfl rfl rfl fn0) ?_
     refine ip' 2 0 [(32,bv (!(F7 a.kind a.m)))] ?_
     exact zai 7 25 32 g36
    refine ip' 1 10 [(33,bv (((!(H5 a.kind C0))||(!(D7 a.kind a.n)))||(!(F7 a.kind a.m))))] ?_
    refine zio 5 5 33 38 (!(decide (a.color=Col.zero))) (fun g37=>?_) ?_
    ·have g37p:=g37;try simp at g37p
     refine ip' 1 4 [(34,pt b1 3)] ?_
     refine ix rfl (K0 (us:=M8 a.color) B5d rfl rfl 2 rfl rfl rfl) ?_
     refine zrl 1 2 [] [(36,ag (M8 Col.zero))] ?_
     refine ix rfl (A2m (a:=a.color) (b:=Col.zero) A7g rfl rfl rfl) ?_
     refine ip' 1 0 [(38,bv (!(decide (a.color=Col.zero))))] ?_
     exact zai 6 33 38 g37
    refine ip' 1 4 [(39,bv ((((!(H5 a.kind C0))||(!(D7 a.kind a.n)))||(!(F7 a.kind a.m)))||(!(decide (a.color=Col.zero)))))] ?_
    refine zio 4 0 39 43 (!(decide (a.text=([]:List UInt8)))) (fun g38=>?_) ?_
    ·have g38p:=g38;try simp at g38p
     refine ip' 1 3 [(40,pt b1 5)] ?_
     refine ix rfl (B4 (v:=sv a.text) ty9 rfl rfl 2 rfl rfl) ?_
     refine ix rfl (A1m rfl rfl rfl) ?_
     refine ip' 1 0 [(43,bv (!(decide (a.text=([]:List UInt8)))))] ?_
     exact zai 5 39 43 g38
    refine ie ?_
    refine zjb rfl hR ?_ ?_<;>clear hR<;>intro hR h39
    ·have h39p:=h39;try simp at h39p
     refine A2 1 rfl (ip' 1 0 [(3,iv 200)] ?_)
     refine A3 (nx (A8 (sr 2 rfl (ip' 2 0 [(73,bv true)] ?_))))
     refine ie (N1 rfl (sr 1 rfl (ip' 1 0 [(2,iv 200)] ?_)))
     subst hR
     refine ie (A9 ?_)
     exact F2 hr hD
    have h39p:=h39;try simp at h39p
    refine A6 (nx (A8 (sr 2 rfl (ip' 2 0 [(73,bv false)] ?_))))
    refine ie (A9u rfl (A6 (nx (sr 1 rfl (ip' 1 0 [(2,iv 0)] ?_)))))
    subst hR
    refine ie (A9 ?_)
    exact F2 hr hD
   ·refine B5g 7 [bx b1 (A4 a) 26] (zml 10 135) rfl rfl rfl (by kernel_rfl) (by kernel_rfl) (by kernel_rfl) (Z4 (cs:=[.nilFunc,.nilFunc]) A8b rfl) (fun b40=>(mk [false,false,true] rfl)) (fun b40=>A1.refl) fun b40=>?_
    refine zho 3 [bx b1 (A4 a) 26] (zml 10 143) rfl (Det.tri (G9.det (by exact J2 (R6 B2v K3 rfl rfl rfl 1 rfl (by kernel_rfl) (by kernel_rfl)) (A1t a.kind)))) (fun _=>(mk [false,false,true] rfl)) (fun _=>A1.refl) fun _=>?_
    refine zhp [4,5,6] 2 (zml 10 255) [(13,ag [(lkV a.kind .nilFunc C0),(lkV a.kind .nilFunc J7)]),(14,bv (H5 a.kind C0))] ?_
    refine zho 8 [bx b1 (A4 a) 26] (zml 10 511) rfl (O4 (us:=[(lkV a.kind .nilFunc C0),(lkV a.kind .nilFunc J7)]) (cs':=[(lkV a.kind .nilFunc C0),(lkV a.kind .nilFunc J7)]) B7o rfl rfl rfl 0 rfl rfl rfl (by simp only [List.all_cons,List.all_nil,Bool.and_true,Bool.and_eq_true];exact ⟨R9 rfl rfl,R9 rfl rfl⟩) rfl rfl) (fun _=>(mk [false,false,true] rfl)) (fun _=>A1.refl) fun _=>?_
    refine zhp [9] 0 (zml 10 1023) [(5,bv (H5 a.kind C0))] ?_
    refine A6u (by kernel_rfl) ?_
    refine sr 29 rfl (ip' 3 26 [(17,bv (!(H5 a.kind C0)))] ?_)
    refine zio 7 19 17 24 (!(D7 a.kind a.n)) (fun g41=>?_) ?_
    ·refine ip' 1 6 [(18,pt b40 0)] ?_
     refine ix rfl (B4 (v:=(lkV a.kind .nilFunc C0)) A4c rfl rfl 0 rfl rfl) ?_
     refine ip' 1 4 [(20,pt b1 1)] ?_
     refine ix rfl (B4 (v:=iv a.n) ty3 rfl rfl 2 rfl rfl) ?_
     refine ixc rfl (O3 (A0o a.kind a.n (by first|assumption|(have hh:H5 a.kind C0=true:=(by first|assumption|simp_all);exact hh)) _ rfl) rfl rfl rfl rfl fn0) ?_
     refine ip' 2 0 [(24,bv (!(D7 a.kind a.n)))] ?_
     exact zai 7 17 24 g41
    refine ip' 1 18 [(25,bv ((!(H5 a.kind C0))||(!(D7 a.kind a.n))))] ?_
    refine zio 7 11 25 32 (!(F7 a.kind a.m)) (fun g42=>?_) ?_
    ·have g42p:=g42;try simp at g42p
     refine ip' 1 6 [(26,pt b40 1)] ?_
     refine ix rfl (B4 (v:=(lkV a.kind .nilFunc J7)) A4c rfl rfl 0 rfl rfl) ?_
     refine ip' 1 4 [(28,pt b1 2)] ?_
     refine ix rfl (B4 (v:=iv a.m) ty3 rfl rfl 2 rfl rfl) ?_
     refine ixc rfl (O3 (A0u a.kind a.m (by first|assumption|(have hh:H5 a.kind C0=true:=(by first|assumption|simp_all);exact hh)) _ rfl) rfl rfl rfl rfl fn0) ?_
     refine ip' 2 0 [(32,bv (!(F7 a.kind a.m)))] ?_
     exact zai 7 25 32 g42
    refine ip' 1 10 [(33,bv (((!(H5 a.kind C0))||(!(D7 a.kind a.n)))||(!(F7 a.kind a.m))))] ?_
    refine zio 5 5 33 38 (!(decide (a.color=Col.zero))) (fun g43=>?_) ?_
    ·have g43p:=g43;try simp at g43p
     refine ip' 1 4 [(34,pt b1 3)] ?_
     refine ix rfl (K0 (us:=M8 a.color) B5d rfl rfl 2 rfl rfl rfl) ?_
     refine zrl 1 2 [] [(36,ag (M8 Col.zero))] ?_
     refine ix rfl (A2m (a:=a.color) (b:=Col.zero) A7g rfl rfl rfl) ?_
     refine ip' 1 0 [(38,bv (!(decide (a.color=Col.zero))))] ?_
     exact zai 6 33 38 g43
    refine ip' 1 4 [(39,bv ((((!(H5 a.kind C0))||(!(D7 a.kind a.n)))||(!(F7 a.kind a.m)))||(!(decide (a.color=Col.zero)))))] ?_
    refine zio 4 0 39 43 (!(decide (a.text=([]:List UInt8)))) (fun g44=>?_) ?_
    ·have g44p:=g44;try simp at g44p
     refine ip' 1 3 [(40,pt b1 5)] ?_
     refine ix rfl (B4 (v:=sv a.text) ty9 rfl rfl 2 rfl rfl) ?_
     refine ix rfl (A1m rfl rfl rfl) ?_
     refine ip' 1 0 [(43,bv (!(decide (a.text=([]:List UInt8)))))] ?_
     exact zai 5 39 43 g44
    refine ie ?_
    refine zjb rfl hR ?_ ?_<;>clear hR<;>intro hR h45
    ·have h45p:=h45;try simp at h45p
     refine A2 1 rfl (ip' 1 0 [(3,iv 200)] ?_)
     refine A3 (nx (A8 (sr 2 rfl (ip' 2 0 [(73,bv true)] ?_))))
     refine ie (N1 rfl (sr 1 rfl (ip' 1 0 [(2,iv 200)] ?_)))
     subst hR
     refine ie (A9 ?_)
     exact F2 hr hD
    have h45p:=h45;try simp at h45p
    refine A6 (nx (A8 (sr 2 rfl (ip' 2 0 [(73,bv false)] ?_))))
    refine ie (A9u rfl (A6 (nx (sr 1 rfl (ip' 1 0 [(2,iv 0)] ?_)))))
    subst hR
    refine ie (A9 ?_)
    exact F2 hr hD
  ·refine B5g 7 [bx b1 (A4 a) 26] (zml 10 134) rfl rfl rfl (by kernel_rfl) (by kernel_rfl) (by kernel_rfl) (Z4 (cs:=[.nilFunc,.nilFunc]) A8b rfl) (fun b46=>(mk [false,true] rfl)) (fun b46=>A1.refl) fun b46=>?_
   refine zho 0 [bx b1 (A4 a) 26] (zml 10 135) rfl (C2 (L2:=[bx b46 [.nilFunc,.nilFunc] 134,bx b1 (A4 a) 26]) (Z5 _ rfl) rfl rfl rfl rfl rfl fn0 (List.Perm.refl _) (fun b47=>[(b47,.map (B0 C7d 0).toArray 41),bx b46 [.nilFunc,.nilFunc] 134,bx b1 (A4 a) 26]) (fun _=>rfl)) (fun b47=>(mk [false,false,true] rfl)) (fun b47=>A1.refl) fun b47=>?_
   refine zho 3 [bx b1 (A4 a) 26] (zml 10 143) rfl (Det.tri (G9.det (by exact J2 (R6 B2v K3 rfl rfl rfl 0 rfl (by kernel_rfl) (by kernel_rfl)) (A1t a.kind)))) (fun _=>(mk [false,false,true] rfl)) (fun _=>A1.refl) fun _=>?_
   refine zhp [4,5,6] 2 (zml 10 255) [(13,ag [(lkV a.kind .nilFunc C0),(lkV a.kind .nilFunc J7)]),(14,bv (H5 a.kind C0))] ?_
   refine zho 8 [bx b1 (A4 a) 26] (zml 10 511) rfl (O4 (us:=[(lkV a.kind .nilFunc C0),(lkV a.kind .nilFunc J7)]) (cs':=[(lkV a.kind .nilFunc C0),(lkV a.kind .nilFunc J7)]) B7o rfl rfl rfl 1 rfl rfl rfl (by simp only [List.all_cons,List.all_nil,Bool.and_true,Bool.and_eq_true];exact ⟨R9 rfl rfl,R9 rfl rfl⟩) rfl rfl) (fun _=>(mk [false,false,true] rfl)) (fun _=>A1.refl) fun _=>?_
   refine zhp [9] 0 (zml 10 1023) [(5,bv (H5 a.kind C0))] ?_
   refine A6u (by kernel_rfl) ?_
   refine sr 29 rfl (ip' 3 26 [(17,bv (!(H5 a.kind C0)))] ?_)
   refine zio 7 19 17 24 (!(D7 a.kind a.n)) (fun g48=>?_) ?_
   ·refine ip' 1 6 [(18,pt b46 0)] ?_
    refine ix rfl (B4 (v:=(lkV a.kind .nilFunc C0)) A4c rfl rfl 1 rfl rfl) ?_
    refine ip' 1 4 [(20,pt b1 1)] ?_
    refine ix rfl (B4 (v:=iv a.n) ty3 rfl rfl 2 rfl rfl) ?_
    refine ixc rfl (O3 (A0o a.kind a.n (by first|assumption|(have hh:H5 a.kind C0=true:=(by first|assumption|simp_all);exact hh)) _ rfl) rfl rfl rfl rfl fn0) ?_
    refine ip' 2 0 [(24,bv (!(D7 a.kind a.n)))] ?_
    exact zai 7 17 24 g48
   refine ip' 1 18 [(25,bv ((!(H5 a.kind C0))||(!(D7 a.kind a.n))))] ?_
   refine zio 7 11 25 32 (!(F7 a.kind a.m)) (fun g49=>?_) ?_
   ·have g49p:=g49;try simp at g49p
    refine ip' 1 6 [(26,pt b46 1)] ?_
    refine ix rfl (B4 (v:=(lkV a.kind .nilFunc J7)) A4c rfl rfl 1 rfl rfl) ?_
    refine ip' 1 4 [(28,pt b1 2)] ?_
    refine ix rfl (B4 (v:=iv a.m) ty3 rfl rfl 2 rfl rfl) ?_
    refine ixc rfl (O3 (A0u a.kind a.m (by first|assumption|(have hh:H5 a.kind C0=true:=(by first|assumption|simp_all);exact hh)) _ rfl) rfl rfl rfl rfl fn0) ?_
    refine ip' 2 0 [(32,bv (!(F7 a.kind a.m)))] ?_
    exact zai 7 25 32 g49
   refine ip' 1 10 [(33,bv (((!(H5 a.kind C0))||(!(D7 a.kind a.n)))||(!(F7 a.kind a.m))))] ?_
   refine zio 5 5 33 38 (!(decide (a.color=Col.zero))) (fun g50=>?_) ?_
   ·have g50p:=g50;try simp at g50p
    refine ip' 1 4 [(34,pt b1 3)] ?_
    refine ix rfl (K0 (us:=M8 a.color) B5d rfl rfl 2 rfl rfl rfl) ?_
    refine zrl 1 2 [] [(36,ag (M8 Col.zero))] ?_
    refine ix rfl (A2m (a:=a.color) (b:=Col.zero) A7g rfl rfl rfl) ?_
    refine ip' 1 0 [(38,bv (!(decide (a.color=Col.zero))))] ?_
    exact zai 6 33 38 g50
   refine ip' 1 4 [(39,bv ((((!(H5 a.kind C0))||(!(D7 a.kind a.n)))||(!(F7 a.kind a.m)))||(!(decide (a.color=Col.zero)))))] ?_
   refine zio 4 0 39 43 (!(decide (a.text=([]:List UInt8)))) (fun g51=>?_) ?_
   ·have g51p:=g51;try simp at g51p
    refine ip' 1 3 [(40,pt b1 5)] ?_
    refine ix rfl (B4 (v:=sv a.text) ty9 rfl rfl 2 rfl rfl) ?_
    refine ix rfl (A1m rfl rfl rfl) ?_
    refine ip' 1 0 [(43,bv (!(decide (a.text=([]:List UInt8)))))] ?_
    exact zai 5 39 43 g51
   refine ie ?_
   refine zjb rfl hR ?_ ?_<;>clear hR<;>intro hR h52
   ·have h52p:=h52;try simp at h52p
    refine A2 1 rfl (ip' 1 0 [(3,iv 200)] ?_)
    refine A3 (nx (A8 (sr 2 rfl (ip' 2 0 [(73,bv true)] ?_))))
    refine ie (N1 rfl (sr 1 rfl (ip' 1 0 [(2,iv 200)] ?_)))
    subst hR
    refine ie (A9 ?_)
    exact F2 hr hD
   have h52p:=h52;try simp at h52p
   refine A6 (nx (A8 (sr 2 rfl (ip' 2 0 [(73,bv false)] ?_))))
   refine ie (A9u rfl (A6 (nx (sr 1 rfl (ip' 1 0 [(2,iv 0)] ?_)))))
   subst hR
   refine ie (A9 ?_)
   exact F2 hr hD
 refine A2 2 rfl (ip' 2 0 [(63,bv (decide (a.kind=46)))] ?_)
 refine A3 (nx ?_)
 refine zjd rfl hR ?_ ?_<;>clear hR<;>intro hR h53 h53p
 ·refine A2 6 rfl (ix rfl (by exact J2 (K0 (us:=A4 a) A3l rfl rfl 0 rfl rfl rfl) (congrArg (fun z=>ag (A4 z)) (B4d h53p))) ?_)
  have hQ:=D6 hR;clear hR;obtain ⟨y1,hy1,hR⟩:=hQ
  refine zca (B7s a.n a.m a.color a.text (by first|omega|(simp<;>omega)) y1 hy1) fn0 ?_
  have:=A8s a.n a.m a.color a.text;try rw [hy1] at this
  refine ip' 4 0 [(3,iv y1.2)] ?_
  refine A3 (nx (A8 (sr 2 rfl (ip' 2 0 [(73,bv (!decide (y1.2=0)))] ?_))))
  refine ie ?_
  refine zjn rfl hR ?_ ?_<;>clear hR<;>intro hR h54 h54p
  ·refine sr 1 rfl (ip' 1 0 [(2,iv 200)] ?_)
   subst hR
   refine ie (A9 ?_)
   exact F2 hr hD
  refine A6 (nx (sr 1 rfl (ip' 1 0 [(2,iv 0)] ?_)))
  subst hR
  refine ie (A9 ?_)
  exact F2 hr hD
 refine sh 10 [(10,[bx b1 (A4 a) 26])] [B5f,B5e,Q1,P2,L7] [bx b1 (A4 a) 26] (zml 10 0) (by kernel_rfl) rfl (by kernel_rfl) (by kernel_rfl) (by kernel_rfl) (mk [true] rfl) A1.refl ?_
 refine zhp [1] 9 (zml 10 2) [(10,pt b1 0)] ?_
 refine zhl 2 [bx b1 (A4 a) 26] (zml 10 6) rfl (B4 (v:=iv a.kind) ty3 rfl rfl 0 rfl rfl) ?_
 refine B0b 0 7 (by kernel_rfl) ?_ ?_
 ·refine B5g 0 [bx b1 (A4 a) 26] (zml 10 7) rfl rfl rfl (by kernel_rfl) (by kernel_rfl) (by kernel_rfl) (C2 (L2:=[bx b1 (A4 a) 26]) (Z5 _ rfl) rfl rfl rfl rfl rfl fn0 (List.Perm.refl _) (fun b55=>[(b55,.map (B0 C7d 0).toArray 41),bx b1 (A4 a) 26]) (fun _=>rfl)) (fun b55=>(mk [false,true] rfl)) (fun b55=>A1.refl) fun b55=>?_
  refine B0b 3 7 (by kernel_rfl) ?_ ?_
  ·refine B5g 3 [bx b1 (A4 a) 26] (zml 10 15) rfl rfl rfl (by kernel_rfl) (by kernel_rfl) (by kernel_rfl) (Det.tri (G9.det (by exact J2 (R6 B2v K3 rfl rfl rfl 0 rfl (by kernel_rfl) (by kernel_rfl)) (A1t a.kind)))) (fun _=>(mk [false,true] rfl)) (fun _=>A1.refl) fun _=>?_
   refine zhp [4,5,6] 3 (zml 10 127) [(13,ag [(lkV a.kind .nilFunc C0),(lkV a.kind .nilFunc J7)]),(14,bv (H5 a.kind C0))] ?_
   refine zho 7 [bx b1 (A4 a) 26] (zml 10 255) rfl (Z4 (cs:=[.nilFunc,.nilFunc]) A8b rfl) (fun b56=>(mk [false,false,true] rfl)) (fun b56=>A1.refl) fun b56=>?_
   refine zho 8 [bx b1 (A4 a) 26] (zml 10 511) rfl (O4 (us:=[(lkV a.kind .nilFunc C0),(lkV a.kind .nilFunc J7)]) (cs':=[(lkV a.kind .nilFunc C0),(lkV a.kind .nilFunc J7)]) B7o rfl rfl rfl 0 rfl rfl rfl (by simp only [List.all_cons,List.all_nil,Bool.and_true,Bool.and_eq_true];exact ⟨R9 rfl rfl,R9 rfl rfl⟩) rfl rfl) (fun _=>(mk [false,false,true] rfl)) (fun _=>A1.refl) fun _=>?_
   refine zhp [9] 0 (zml 10 1023) [(5,bv (H5 a.kind C0))] ?_
   refine A6u (by kernel_rfl) ?_
   refine sr 29 rfl (ip' 3 26 [(17,bv (!(H5 a.kind C0)))] ?_)
   refine zio 7 19 17 24 (!(D7 a.kind a.n)) (fun g57=>?_) ?_
   ·refine ip' 1 6 [(18,pt b56 0)] ?_
    refine ix rfl (B4 (v:=(lkV a.kind .nilFunc C0)) A4c rfl rfl 0 rfl rfl) ?_
    refine ip' 1 4 [(20,pt b1 1)] ?_
    refine ix rfl (B4 (v:=iv a.n) ty3 rfl rfl 2 rfl rfl) ?_
    refine ixc rfl (O3 (A0o a.kind a.n (by first|assumption|(have hh:H5 a.kind C0=true:=(by first|assumption|simp_all);exact hh)) _ rfl) rfl rfl rfl rfl fn0) ?_
    refine ip' 2 0 [(24,bv (!(D7 a.kind a.n)))] ?_
    exact zai 7 17 24 g57
   refine ip' 1 18 [(25,bv ((!(H5 a.kind C0))||(!(D7 a.kind a.n))))] ?_
   refine zio 7 11 25 32 (!(F7 a.kind a.m)) (fun g58=>?_) ?_
   ·have g58p:=g58;try simp at g58p
    refine ip' 1 6 [(26,pt b56 1)] ?_
    refine ix rfl (B4 (v:=(lkV a.kind .nilFunc J7)) A4c rfl rfl 0 rfl rfl) ?_
    refine ip' 1 4 [(28,pt b1 2)] ?_
    refine ix rfl (B4 (v:=iv a.m) ty3 rfl rfl 2 rfl rfl) ?_
    refine ixc rfl (O3 (A0u a.kind a.m (by first|assumption|(have hh:H5 a.kind C0=true:=(by first|assumption|simp_all);exact hh)) _ rfl) rfl rfl rfl rfl fn0) ?_
    refine ip' 2 0 [(32,bv (!(F7 a.kind a.m)))] ?_
    exact zai 7 25 32 g58
   refine ip' 1 10 [(33,bv (((!(H5 a.kind C0))||(!(D7 a.kind a.n)))||(!(F7 a.kind a.m))))] ?_
   refine zio 5 5 33 38 (!(decide (a.color=Col.zero))) (fun g59=>?_) ?_
   ·have g59p:=g59;try simp at g59p
    refine ip' 1 4 [(34,pt b1 3)] ?_
    refine ix rfl (K0 (us:=M8 a.color) B5d rfl rfl 2 rfl rfl rfl) ?_
    refine zrl 1 2 [] [(36,ag (M8 Col.zero))] ?_
    refine ix rfl (A2m (a:=a.color) (b:=Col.zero) A7g rfl rfl rfl) ?_
    refine ip' 1 0 [(38,bv (!(decide (a.color=Col.zero))))] ?_
    exact zai 6 33 38 g59
   refine ip' 1 4 [(39,bv ((((!(H5 a.kind C0))||(!(D7 a.kind a.n)))||(!(F7 a.kind a.m)))||(!(decide (a.color=Col.zero)))))] ?_
   refine zio 4 0 39 43 (!(decide (a.text=([]:List UInt8)))) (fun g60=>?_) ?_
   ·have g60p:=g60;try simp at g60p
    refine ip' 1 3 [(40,pt b1 5)] ?_
    refine ix rfl (B4 (v:=sv a.text) ty9 rfl rfl 2 rfl rfl) ?_
    refine ix rfl (A1m rfl rfl rfl) ?_
    refine ip' 1 0 [(43,bv (!(decide (a.text=([]:List UInt8)))))] ?_
    exact zai 5 39 43 g60
   refine ie ?_
   refine zjb rfl hR ?_ ?_<;>clear hR<;>intro hR h61
   ·have h61p:=h61;try simp at h61p
    refine A2 1 rfl (ip' 1 0 [(3,iv 200)] ?_)
    refine A3 (nx (A8 (sr 2 rfl (ip' 2 0 [(73,bv true)] ?_))))
    refine ie (N1 rfl (sr 1 rfl (ip' 1 0 [(2,iv 200)] ?_)))
    subst hR
    refine ie (A9 ?_)
    exact F2 hr hD
   have h61p:=h61;try simp at h61p
   refine A6 (nx (A8 (sr 2 rfl (ip' 2 0 [(73,bv false)] ?_))))
   refine ie (A9u rfl (A6 (nx (sr 1 rfl (ip' 1 0 [(2,iv 0)] ?_)))))
   subst hR
   refine ie (A9 ?_)
   exact F2 hr hD
  ·refine B5g 7 [bx b1 (A4 a) 26] (zml 10 135) rfl rfl rfl (by kernel_rfl) (by kernel_rfl) (by kernel_rfl) (Z4 (cs:=[.nilFunc,.nilFunc]) A8b rfl) (fun b62=>(mk [false,false,true] rfl)) (fun b62=>A1.refl) fun b62=>?_
   refine zho 3 [bx b1 (A4 a) 26] (zml 10 143) rfl (Det.tri (G9.det (by exact J2 (R6 B2v K3 rfl rfl rfl 1 rfl (by kernel_rfl) (by kernel_rfl)) (A1t a.kind)))) (fun _=>(mk [false,false,true] rfl)) (fun _=>A1.refl) fun _=>?_
   refine zhp [4,5,6] 2 (zml 10 255) [(13,ag [(lkV a.kind .nilFunc C0),(lkV a.kind .nilFunc J7)]),(14,bv (H5 a.kind C0))] ?_
   refine zho 8 [bx b1 (A4 a) 26] (zml 10 511) rfl (O4 (us:=[(lkV a.kind .nilFunc C0),(lkV a.kind .nilFunc J7)]) (cs':=[(lkV a.kind .nilFunc C0),(lkV a.kind .nilFunc J7)]) B7o rfl rfl rfl 0 rfl rfl rfl (by simp only [List.all_cons,List.all_nil,Bool.and_true,Bool.and_eq_true];exact ⟨R9 rfl rfl,R9 rfl rfl⟩) rfl rfl) (fun _=>(mk [false,false,true] rfl)) (fun _=>A1.refl) fun _=>?_
   refine zhp [9] 0 (zml 10 1023) [(5,bv (H5 a.kind C0))] ?_
   refine A6u (by kernel_rfl) ?_
   refine sr 29 rfl (ip' 3 26 [(17,bv (!(H5 a.kind C0)))] ?_)
   refine zio 7 19 17 24 (!(D7 a.kind a.n)) (fun g63=>?_) ?_
   ·refine ip' 1 6 [(18,pt b62 0)] ?_
    refine ix rfl (B4 (v:=(lkV a.kind .nilFunc C0)) A4c rfl rfl 0 rfl rfl) ?_
    refine ip' 1 4 [(20,pt b1 1)] ?_
    refine ix rfl (B4 (v:=iv a.n) ty3 rfl rfl 2 rfl rfl) ?_
    refine ixc rfl (O3 (A0o a.kind a.n (by first|assumption|(have hh:H5 a.kind C0=true:=(by first|assumption|simp_all);exact hh)) _ rfl) rfl rfl rfl rfl fn0) ?_
    refine ip' 2 0 [(24,bv (!(D7 a.kind a.n)))] ?_
    exact zai 7 17 24 g63
   refine ip' 1 18 [(25,bv ((!(H5 a.kind C0))||(!(D7 a.kind a.n))))] ?_
   refine zio 7 11 25 32 (!(F7 a.kind a.m)) (fun g64=>?_) ?_
   ·have g64p:=g64;try simp at g64p
    refine ip' 1 6 [(26,pt b62 1)] ?_
    refine ix rfl (B4 (v:=(lkV a.kind .nilFunc J7)) A4c rfl rfl 0 rfl rfl) ?_
    refine ip' 1 4 [(28,pt b1 2)] ?_
    refine ix rfl (B4 (v:=iv a.m) ty3 rfl rfl 2 rfl rfl) ?_
    refine ixc rfl (O3 (A0u a.kind a.m (by first|assumption|(have hh:H5 a.kind C0=true:=(by first|assumption|simp_all);exact hh)) _ rfl) rfl rfl rfl rfl fn0) ?_
    refine ip' 2 0 [(32,bv (!(F7 a.kind a.m)))] ?_
    exact zai 7 25 32 g64
   refine ip' 1 10 [(33,bv (((!(H5 a.kind C0))||(!(D7 a.kind a.n)))||(!(F7 a.kind a.m))))] ?_
   refine zio 5 5 33 38 (!(decide (a.color=Col.zero))) (fun g65=>?_) ?_
   ·have g65p:=g65;try simp at g65p
    refine ip' 1 4 [(34,pt b1 3)] ?_
    refine ix rfl (K0 (us:=M8 a.color) B5d rfl rfl 2 rfl rfl rfl) ?_
    refine zrl 1 2 [] [(36,ag (M8 Col.zero))] ?_
    refine ix rfl (A2m (a:=a.color) (b:=Col.zero) A7g rfl rfl rfl) ?_
    refine ip' 1 0 [(38,bv (!(decide (a.color=Col.zero))))] ?_
    exact zai 6 33 38 g65
   refine ip' 1 4 [(39,bv ((((!(H5 a.kind C0))||(!(D7 a.kind a.n)))||(!(F7 a.kind a.m)))||(!(decide (a.color=Col.zero)))))] ?_
   refine zio 4 0 39 43 (!(decide (a.text=([]:List UInt8)))) (fun g66=>?_) ?_
   ·have g66p:=g66;try simp at g66p
    refine ip' 1 3 [(40,pt b1 5)] ?_
    refine ix rfl (B4 (v:=sv a.text) ty9 rfl rfl 2 rfl rfl) ?_
    refine ix rfl (A1m rfl rfl rfl) ?_
    refine ip' 1 0 [(43,bv (!(decide (a.text=([]:List UInt8)))))] ?_
    exact zai 5 39 43 g66
   refine ie ?_
   refine zjb rfl hR ?_ ?_<;>clear hR<;>intro hR h67
   ·have h67p:=h67;try simp at h67p
    refine A2 1 rfl (ip' 1 0 [(3,iv 200)] ?_)
    refine A3 (nx (A8 (sr 2 rfl (ip' 2 0 [(73,bv true)] ?_))))
    refine ie (N1 rfl (sr 1 rfl (ip' 1 0 [(2,iv 200)] ?_)))
    subst hR
    refine ie (A9 ?_)
    exact F2 hr hD
   have h67p:=h67;try simp at h67p
   refine A6 (nx (A8 (sr 2 rfl (ip' 2 0 [(73,bv false)] ?_))))
   refine ie (A9u rfl (A6 (nx (sr 1 rfl (ip' 1 0 [(2,iv 0)] ?_)))))
   subst hR
   refine ie (A9 ?_)
   exact F2 hr hD
 ·refine B5g 7 [bx b1 (A4 a) 26] (zml 10 134) rfl rfl rfl (by kernel_rfl) (by kernel_rfl) (by kernel_rfl) (Z4 (cs:=[.nilFunc,.nilFunc]) A8b rfl) (fun b68=>(mk [false,true] rfl)) (fun b68=>A1.refl) fun b68=>?_
  refine zho 0 [bx b1 (A4 a) 26] (zml 10 135) rfl (C2 (L2:=[bx b68 [.nilFunc,.nilFunc] 134,bx b1 (A4 a) 26]) (Z5 _ rfl) rfl rfl rfl rfl rfl fn0 (List.Perm.refl _) (fun b69=>[(b69,.map (B0 C7d 0).toArray 41),bx b68 [.nilFunc,.nilFunc] 134,bx b1 (A4 a) 26]) (fun _=>rfl)) (fun b69=>(mk [false,false,true] rfl)) (fun b69=>A1.refl) fun b69=>?_
  refine zho 3 [bx b1 (A4 a) 26] (zml 10 143) rfl (Det.tri (G9.det (by exact J2 (R6 B2v K3 rfl rfl rfl 0 rfl (by kernel_rfl) (by kernel_rfl)) (A1t a.kind)))) (fun _=>(mk [false,false,true] rfl)) (fun _=>A1.refl) fun _=>?_
  refine zhp [4,5,6] 2 (zml 10 255) [(13,ag [(lkV a.kind .nilFunc C0),(lkV a.kind .nilFunc J7)]),(14,bv (H5 a.kind C0))] ?_
  refine zho 8 [bx b1 (A4 a) 26] (zml 10 511) rfl (O4 (us:=[(lkV a.kind .nilFunc C0),(lkV a.kind .nilFunc J7)]) (cs':=[(lkV a.kind .nilFunc C0),(lkV a.kind .nilFunc J7)]) B7o rfl rfl rfl 1 rfl rfl rfl (by simp only [List.all_cons,List.all_nil,Bool.and_true,Bool.and_eq_true];exact ⟨R9 rfl rfl,R9 rfl rfl⟩) rfl rfl) (fun _=>(mk [false,false,true] rfl)) (fun _=>A1.refl) fun _=>?_
  refine zhp [9] 0 (zml 10 1023) [(5,bv (H5 a.kind C0))] ?_
  refine A6u (by kernel_rfl) ?_
  refine sr 29 rfl (ip' 3 26 [(17,bv (!(H5 a.kind C0)))] ?_)
  refine zio 7 19 17 24 (!(D7 a.kind a.n)) (fun g70=>?_) ?_
  ·refine ip' 1 6 [(18,pt b68 0)] ?_
   refine ix rfl (B4 (v:=(lkV a.kind .nilFunc C0)) A4c rfl rfl 1 rfl rfl) ?_
   refine ip' 1 4 [(20,pt b1 1)] ?_
   refine ix rfl (B4 (v:=iv a.n) ty3 rfl rfl 2 rfl rfl) ?_
   refine ixc rfl (O3 (A0o a.kind a.n (by first|assumption|(have hh:H5 a.kind C0=true:=(by first|assumption|simp_all);exact hh)) _ rfl) rfl rfl rfl rfl fn0) ?_
   refine ip' 2 0 [(24,bv (!(D7 a.kind a.n)))] ?_
   exact zai 7 17 24 g70
  refine ip' 1 18 [(25,bv ((!(H5 a.kind C0))||(!(D7 a.kind a.n))))] ?_
  refine zio 7 11 25 32 (!(F7 a.kind a.m)) (fun g71=>?_) ?_
  ·have g71p:=g71;try simp at g71p
   refine ip' 1 6 [(26,pt b68 1)] ?_
   refine ix rfl (B4 (v:=(lkV a.kind .nilFunc J7)) A4c rfl rfl 1 rfl rfl) ?_
   refine ip' 1 4 [(28,pt b1 2)] ?_
   refine ix rfl (B4 (v:=iv a.m) ty3 rfl rfl 2 rfl rfl) ?_
   refine ixc rfl (O3 (A0u a.kind a.m (by first|assumption|(have hh:H5 a.kind C0=true:=(by first|assumption|simp_all);exact hh)) _ rfl) rfl rfl rfl rfl fn0) ?_
   refine ip' 2 0 [(32,bv (!(F7 a.kind a.m)))] ?_
   exact zai 7 25 32 g71
  refine ip' 1 10 [(33,bv (((!(H5 a.kind C0))||(!(D7 a.kind a.n)))||(!(F7 a.kind a.m))))] ?_
  refine zio 5 5 33 38 (!(decide (a.color=Col.zero))) (fun g72=>?_) ?_
  ·have g72p:=g72;try simp at g72p
   refine ip' 1 4 [(34,pt b1 3)] ?_
   refine ix rfl (K0 (us:=M8 a.color) B5d rfl rfl 2 rfl rfl rfl) ?_
   refine zrl 1 2 [] [(36,ag (M8 Col.zero))] ?_
   refine ix rfl (A2m (a:=a.color) (b:=Col.zero) A7g rfl rfl rfl) ?_
   refine ip' 1 0 [(38,bv (!(decide (a.color=Col.zero))))] ?_
   exact zai 6 33 38 g72
  refine ip' 1 4 [(39,bv ((((!(H5 a.kind C0))||(!(D7 a.kind a.n)))||(!(F7 a.kind a.m)))||(!(decide (a.color=Col.zero)))))] ?_
  refine zio 4 0 39 43 (!(decide (a.text=([]:List UInt8)))) (fun g73=>?_) ?_
  ·have g73p:=g73;try simp at g73p
   refine ip' 1 3 [(40,pt b1 5)] ?_
   refine ix rfl (B4 (v:=sv a.text) ty9 rfl rfl 2 rfl rfl) ?_
   refine ix rfl (A1m rfl rfl rfl) ?_
   refine ip' 1 0 [(43,bv (!(decide (a.text=([]:List UInt8)))))] ?_
   exact zai 5 39 43 g73
  refine ie ?_
  refine zjb rfl hR ?_ ?_<;>clear hR<;>intro hR h74
  ·have h74p:=h74;try simp at h74p
   refine A2 1 rfl (ip' 1 0 [(3,iv 200)] ?_)
   refine A3 (nx (A8 (sr 2 rfl (ip' 2 0 [(73,bv true)] ?_))))
   refine ie (N1 rfl (sr 1 rfl (ip' 1 0 [(2,iv 200)] ?_)))
   subst hR
   refine ie (A9 ?_)
   exact F2 hr hD
  have h74p:=h74;try simp at h74p
  refine A6 (nx (A8 (sr 2 rfl (ip' 2 0 [(73,bv false)] ?_))))
  refine ie (A9u rfl (A6 (nx (sr 1 rfl (ip' 1 0 [(2,iv 0)] ?_)))))
  subst hR
  refine ie (A9 ?_)
  exact F2 hr hD
end Go.Proofs.YtanighkpfmgnbaaGreatDoor
set_option linter.unusedVariables false
set_option linter.unusedSimpArgs false
set_option linter.unnecessarySimpa false
set_option maxRecDepth 100000
namespace Go.Proofs.YtanighkpfmgnbaaGreatDoor
open Go Go.Fen
theorem D6e {k:Int} (h:1≤k∧k≤46):([1,2,3,4,5,6,7,8,9,10,11,12,13,15,16,14,17,18,20,21,33,19,22,23,24,25,28,29,30,31,32,34,26,27,35,40,36,37,38,41,42,43,39,44,45,46]:List Int).contains k=true:=by
 simp only [List.contains_cons,List.contains_nil,Bool.or_false,Bool.or_eq_true,beq_iff_eq];omega
theorem C4w {l:List Act} {p:Act→Prop} (h:∀ a ∈ l,p a) (hz:p Act.zero) (i:Nat):p (l.getD i Act.zero):=by
 by_cases hi:i<l.length
 ·rw [gdE hi];exact h _ (List.getElem_mem hi)
 ·rw [gdN hi];exact hz
theorem C3f (s:List UInt8) (n:Int):(A1l s n).length≤1:=by
 unfold A1l;simp only [List.length_take,List.length_drop];omega
theorem E0s {c:Bool} {x y:List UInt8} {B:Nat} (hx:x.length≤B) (hy:y.length≤B):(bif c then x else y).length≤B:=by cases c<;>assumption
set_option maxHeartbeats 4000000 in
theorem C6c (a:Act) (h:a.text.length≤100000000):(A2a a).length≤100010000:=by
 unfold A2a
 have p:=B4g a.n
 have s1:=fun s n=>C3f s n
 have r1:=A1u
 have e:=A6r
 have o:=B0r a.n a.m a.color a.text
 have oa:=A9f a.n a.m a.color a.text
 have ob:=A8s a.n a.m a.color a.text
 repeat' (with_reducible refine E0s ?_ ?_)
 all_goals simp only [A3k,H0,S7,A3a,S8,A2z,G0,W2,A2h,A2e,A2g,A2b,A2t,A2i,A2f,B9,List.length_append,List.length_cons,List.length_nil,List.length_take]
 all_goals first|omega|exact Nat.le_trans (e _) (by omega)|(refine Nat.le_trans (Nat.add_le_add_right (Nat.add_le_add_left (r1 _ _) _) _) ?_;omega)|(have q1:=r1 1 [a.m];have q2:=fun s=>s1 s a.n;have q3:=q2 [65,66,67,68];have q4:=q2 [69,70];have q5:=q2 [83,84];omega)|(have q1:=s1 [15,14] (a.n - 0);have q2:=s1 [62,61] (a.n - 0);have q3:=s1 [78,79] (a.n - 2);omega)|(have q1:=s1 [40,41,42,43] a.n;have q2:=s1 [66,48] a.m;omega)|(have q1:=r1 (-2) [a.n];have q2:=s1 [108,104] a.m;omega)
theorem E0n {c:Bool} (h:(bif c then (200:Int) else 0)=0):c=false:=by cases c<;>simp at h ⊢
theorem D6y {a:Act} (h:H5 a.kind C0=true):a.kind=17∨a.kind=18∨a.kind=19∨a.kind=20∨a.kind=26∨a.kind=27∨a.kind=35∨a.kind=38∨a.kind=40∨a.kind=41∨a.kind=2∨a.kind=3∨a.kind=4∨a.kind=5∨a.kind=6∨a.kind=8∨a.kind=9∨a.kind=10∨a.kind=11∨a.kind=12∨a.kind=13∨a.kind=15∨a.kind=16∨a.kind=7∨a.kind=14∨a.kind=42∨a.kind=21∨a.kind=33∨a.kind=22∨a.kind=23∨a.kind=24∨a.kind=25∨a.kind=28∨a.kind=29∨a.kind=30∨a.kind=31∨a.kind=32∨a.kind=34∨a.kind=36∨a.kind=37∨a.kind=43:=by
 rw [B1o] at h
 simp only [C0,List.map_cons,List.map_nil,List.contains_cons,List.contains_nil,Bool.or_false,Bool.or_eq_true,beq_iff_eq] at h
 omega
theorem D1w {a:Act} (h:O8 a=0) (hk3:a.text.length≤100000000):B1s a:=by
 unfold O8 at h
 by_cases e1:a.kind=1
 ·unfold B1s;omega
 ·rw [decide_eq_false e1,cond_false] at h
  by_cases e2:a.kind=39
  ·unfold B1s;omega
  ·rw [decide_eq_false e2,cond_false] at h
   by_cases e3:a.kind=44
   ·unfold B1s;omega
   ·rw [decide_eq_false e3,cond_false] at h
    by_cases e4:a.kind=45
    ·unfold B1s;omega
    rw [decide_eq_false e4,cond_false] at h
    by_cases e5:a.kind=46
    ·unfold B1s;omega
    rw [decide_eq_false e5,cond_false] at h
    have h:=E0n h
    simp only [Bool.or_eq_false_iff,Bool.not_eq_false'] at h
    obtain ⟨⟨⟨⟨hh,h1⟩,h2⟩,_⟩,_⟩:=h
    clear e1 e2 e3 e4 e5
    rcases D6y hh with h | h | h | h | h | h | h | h | h | h | h | h | h | h | h | h | h | h | h | h | h | h | h | h | h | h | h | h | h | h | h | h | h | h | h | h | h | h | h | h | h
    all_goals
     rw [h] at h1 h2
     simp only [D7,F7,A5,W4,Int.reduceEq,decide_true,decide_false,cond_true,cond_false,Bool.and_eq_true,Bool.or_eq_true,decide_eq_true_eq] at h1 h2
     unfold B1s
     omega
def Z0 (l:List Act) (ag_emit_Bytes_l4:List UInt8→Int→(List UInt8×Int)):Nat→List UInt8→Int→Int→(List UInt8×Int)
 | 0,_,_,_=>([],0)
 | fu3+1,b1,at_1,n=>(bif (((decide (n<(l.length:Int)))&&(decide (n<(at_1+16))))&&(decide ((l.getD ((n).toNat) Act.zero).kind=39))) then Z0 l ag_emit_Bytes_l4 fu3 b1 at_1 (n+1) else (bif (decide (n=at_1)) then ag_emit_Bytes_l4 (b1++(A2a (l.getD ((at_1).toNat) Act.zero))) (at_1+1) else (B9 (A2l ((l.drop ((at_1).toNat)).take (((n).toNat) - ((at_1).toNat)))) fun (y0:List UInt8)=>ag_emit_Bytes_l4 (b1++y0) ((n - 1)+1))))
def R3 (l:List Act):Nat→List UInt8→Int→(List UInt8×Int)
 | 0,_,_=>([],0)
 | fu1+1,b,at_=>(bif (decide (at_<(l.length:Int))) then Z0 l (R3 l fu1) (((l.length:Int) - at_).toNat+1) b at_ at_ else (b,0))
def U0 (l:List Act):List Act→Nat→(List UInt8×Int)
 | [],t15=>R3 l (((l.length:Int) - 0).toNat+1) ([]:List UInt8) 0
 | hd_l0::tl_l0,t15=>(bif (!decide ((O8 hd_l0)=0)) then (([]:List UInt8),(O8 hd_l0)) else U0 l tl_l0 (t15+1))
def A1b (l:List Act):List UInt8×Int :=
 (bif (decide ((131072:Int)<(l.length:Int))) then (([]:List UInt8),3) else U0 l l 0)
theorem B0o (l:List Act) (h:∀ a ∈ l,a.text.length≤100000000) (ag:List UInt8→Int→List UInt8×Int) (B:Nat) (hag:∀ b t,(ag b t).1.length≤b.length+B):∀ (fu:Nat) (b:List UInt8) (t n:Int),(Z0 l ag fu b t n).1.length≤b.length+100010000+B
 | 0,b,t,n=>Nat.zero_le _
 | fu+1,b,t,n=>by
  rw [Z0];unfold B9;simp only [Bool.cond_eq_ite];repeat' split
  ·exact B0o l h ag B hag fu b t (n+1)
  ·refine Nat.le_trans (hag _ _) ?_
   have:=C6c (l.getD t.toNat Act.zero) (C4w h (by decide) _)
   rw [List.length_append];omega
  ·refine Nat.le_trans (hag _ _) ?_
   have:=A6r ((l.drop t.toNat).take (n.toNat - t.toNat))
   rw [List.length_append];omega
theorem B0k (l:List Act) (h:∀ a ∈ l,a.text.length≤100000000):∀ (fu:Nat) (b:List UInt8) (t:Int),(R3 l fu b t).1.length≤b.length+fu * 100010000
 | 0,b,t=>Nat.zero_le _
 | fu+1,b,t=>by
  rw [R3]
  cases decide (t<(l.length:Int)) with
  | true=>exact Nat.le_trans (B0o l h _ (fu * 100010000) (B0k l h fu) _ _ _ _) (by omega)
  | false=>exact Nat.le_add_right _ _
theorem B0f (L:List Act) (h:∀ a ∈ L,a.text.length≤100000000) (hL:L.length≤131072):∀ (l:List Act) (t:Nat),(U0 L l t).1.length≤13200000000000
 | [],t=>by
  have:=B0k L h (((L.length:Int) - 0).toNat+1) [] 0
  rw [U0];simp only [List.length_nil] at this;omega
 | a::l,t=>by
  rw [U0]
  cases (!decide ((O8 a)=0)) with
  | true=>exact Nat.zero_le _
  | false=>exact B0f L h hL l (t+1)
theorem A5m (l:List Act) (h:∀ a ∈ l,a.text.length≤100000000):(A1b l).1.length≤13200000000000:=by
 unfold A1b
 by_cases hl:(131072:Int)<(l.length:Int)
 ·rw [decide_eq_true hl];exact Nat.zero_le _
 ·rw [decide_eq_false hl];exact B0f l h (by omega) l 0
theorem A8k (l:List Act) (lq:Option Addr) (lk:Nat) (hll:l.length≤9223372036854775807) (hcl:l.length≤lk) (hkind:∀ a ∈ l,a.text.length≤100000000) (R:List UInt8×Int) (hR:A1b l=R):Con Tryz.prog 15 [.slice lq l.length lk] [] [sl A4 lq l,B5f,B5e,Q1,P2,L7,S1] ({r:VR // VOk 1 R.1.length r}) (fun x=>.tuple #[.slice (va x.1.q) R.1.length x.1.k,iv R.2]) (fun x=>((vo cU8 5 x.1 R.1)++([]))) (fun x=>[]):=by
 refine zco Tryz.func15 [(0,.slice lq l.length lk)] fun X hX hr hD=>?_
 replace hR:=(A1b.eq_1 ..).symm.trans hR
 refine sr 2 rfl (ip' 2 0 [(2,.slice none 0 0)] ?_)
 refine ie (E1d (A8 (sr 3 rfl (ip' 3 0 [(12,bv (decide ((131072:Int)<(l.length:Int))))] ?_))))
 refine ie ?_
 refine zjd rfl hR ?_ ?_<;>clear hR<;>intro hR h1 h1p
 ·refine sr 2 rfl (ip' 2 0 [(2,.slice none 0 0),(3,iv 3)] ?_)
  subst hR
  refine ie (A9 ?_)
  exact zer hr hD (A8h rfl (C1 rfl) (C1 rfl)) ⟨VR.nil,VOk.nil⟩ (mc [vo cU8 5 VR.nil ([]:List UInt8)] [true] rfl (by first|rfl|(simp only [List.length_set]<;>rfl))) fn0
 refine A6 (nx (A8 (sr 3 rfl (ip' 3 0 [(13,.slice lq l.length lk),(14,iv (l.length:Int)),(15,iv 0)] ?_))))
 refine ie (B3 (C9p (fun (t15:Nat)=>(t15≤l.length∧U0 l (l.drop t15) t15=R∧(∀ i<t15,O8 (l.getD i Act.zero)=0),[(0,.slice lq l.length lk),(2,.slice none 0 0),(13,.slice lq l.length lk),(14,iv (l.length:Int)),(15,iv (t15:Int))],[],[sl A4 lq l,B5f,B5e,Q1,P2,L7,S1],l.length - t15)) 0 ⟨(by omega),hR,(by intro i hi;omega)⟩ (mk [] rfl) A1.refl ?_))
 rintro t15 ⟨hm2,hR,hchk⟩
 have hkt:=C4w hkind (by decide) t15
 refine sr 1 rfl (ip' 1 0 [(16,bv (decide ((t15:Int)<(l.length:Int))))] ?_)
 refine ie (A8 (A1s rfl (fun h3=>?_) (fun h3=>?_)))
 ·have h3p:(t15:Int)<(l.length:Int):=by simpa using h3
  rw [A4t Act.zero (show t15<l.length by omega)] at hR;replace hR:=(U0.eq_2 ..).symm.trans hR
  refine A6 (nx (A8 (B3 (sr 4 rfl (R8 0 rfl (by omega) fun a4 hq5=>?_)))))
  refine ix rfl (M4 A4y rfl rfl hq5 rfl t15 rfl (by omega)) ?_
  refine ix rfl (S3 (us:=A4 (l.getD t15 Act.zero)) A3l rfl rfl (O2 (c:=A4) (sz:=6) hq5 (fun _=>rfl) 0 rfl (gd Act.zero (by omega))) rfl) ?_
  refine Q2 2 0 [0] (fun b6=>[(5,pt b6 0)]) (fun b6=>[bx b6 (A4 (l.getD t15 Act.zero)) 26]) (fun b6=>?_)
  refine ie (sr 3 rfl (zrl 1 2 [0] [(19,ag (A4 (l.getD t15 Act.zero)))] ?_))
  refine zca (C2n (l.getD t15 Act.zero) (by first|omega|exact hkt) _ rfl) (A1.pick [1,2,3,4,5] rfl) ?_
  refine ip' 1 0 [(6,iv (O8 (l.getD t15 Act.zero)))] ?_
  refine ie (sr 2 rfl (ip' 2 0 [(22,bv (!decide ((O8 (l.getD t15 Act.zero))=0)))] ?_))
  refine ie ?_
  refine zjn rfl hR ?_ ?_<;>clear hR<;>intro hR h7 h7p
  ·refine sr 3 rfl (ip' 3 0 [(2,.slice none 0 0),(3,iv (O8 (l.getD t15 Act.zero)))] ?_)
   subst hR
   refine ie (A9 ?_)
   exact zer hr hD (A8h rfl (C1 rfl) (C1 rfl)) ⟨VR.nil,VOk.nil⟩ (mc [[bx b6 (A4 (l.getD t15 Act.zero)) 26],vo cU8 5 VR.nil ([]:List UInt8)] [false,true] rfl (by first|rfl|(simp only [List.length_set]<;>rfl))) fn0
  refine A6 (nx (A2 2 rfl (ix rfl (B5 rfl rfl rfl rfl (by omega)) ?_)))
  refine ip' 1 0 [(15,iv ((t15:Int)+1))] ?_
  refine A3 ?_
  exact D0n (z1:=t15) (t15+1) ⟨(by omega),hR,(by intro i hi;rcases Nat.lt_succ_iff_lt_or_eq.1 hi with hi | rfl;exact hchk i hi;exact Decidable.of_not_not (by assumption))⟩ (by (try dsimp only);omega) (mk [false] rfl) A1.refl
 have h3p:¬ ((t15:Int)<(l.length:Int)):=by simpa using h3
 rw [A4u h3p] at hR;replace hR:=(U0.eq_1 ..).symm.trans hR
 refine I3 (nx (sr 2 rfl (it rfl (C2 (L2:=[]) (C2f _ rfl) rfl rfl rfl rfl rfl (A1.pick [5,6,3,4] rfl) (List.Perm.refl _) (fun ⟨⟨b8,ml9⟩,hk10⟩=>[(b8,.map (B0 ml9 0).toArray ml9.length)]) (fun _=>rfl)) fun ⟨⟨b8,ml9⟩,hk10⟩=>?_)))
 refine ip' 1 0 [(7,.map (some b8))] ?_
 refine ie (A8 (E0y (nx (A8 (sr 1 rfl (ip' 1 0 [(8,iv 0)] ?_))))))
 refine ie (B3 (A6t (X7 [vo cU8 5 VR.nil ([]:List UInt8),[(b8,.map (B0 ml9 0).toArray ml9.length)]] [1,0] 2 rfl (by decide) rfl [[(b8,.map (B0 ml9 0).toArray ml9.length)],vo cU8 5 VR.nil ([]:List UInt8)] rfl (by first|rfl|simp)) ?_))
 refine C1r (fun (fu:Nat) (b:List UInt8) (br:VR) (at_:Int)=>(((l.length:Int) - at_).toNat<fu∧R3 l fu b at_=R∧VOk 1 b.length br∧0≤at_∧at_≤(l.length:Int)∧(b.length:Int)≤100010000 * at_,[(0,.slice lq l.length lk),(2,.slice (va br.q) b.length br.k),(7,.map (some b8)),(8,iv at_)],((b8,.map (B0 ml9 0).toArray ml9.length)::(vo cU8 5 br b)++([])),[B8w Tryz.prog ml9 tC,sl A4 lq l,B5f,B5e,Q1,P2,L7,S1],fu)) (((l.length:Int) - 0).toNat+1) ([]:List UInt8) VR.nil 0 ⟨(Nat.lt_succ_self _),hR,VOk.nil,(by omega),(by simp)⟩ (mc [[(b8,.map (B0 ml9 0).toArray ml9.length)],vo cU8 5 VR.nil ([]:List UInt8)] [true,true] rfl (by first|rfl|(simp only [List.length_set]<;>rfl))) A1.refl ?_
 rintro fu b br at_ ⟨hm11,hR,hokbr,ha,hb⟩
 have:=VOk.le hokbr
 obtain ⟨fu1,rfl⟩:∃ m,fu=m+1:=⟨fu - 1,by omega⟩
 replace hR:=(R3.eq_2 ..).symm.trans hR
 refine A8 (sr 4 rfl (ip' 4 0 [(29,bv (decide (at_<(l.length:Int))))] ?_))
 refine ie ?_
 refine zjd rfl hR ?_ ?_<;>clear hR<;>intro hR h12 h12p
 ·refine A6 (nx (A8 (B3 (A8 (sr 2 rfl (ip' 2 0 [(9,iv at_)] ?_))))))
  refine ie (B3 ?_)
  refine E6o (fun (fu2:Nat) (b1:List UInt8) (br1:VR) (at_1:Int) (n:Int)=>(((l.length:Int) - n).toNat<fu2∧Z0 l (R3 l fu1) fu2 b1 at_1 n=R∧VOk 1 b1.length br1∧at_1=at_∧0≤at_1∧at_1<(l.length:Int)∧at_1≤n∧n≤(l.length:Int)∧n≤at_1+16∧(b1.length:Int)≤100010000 * at_1,[(0,.slice lq l.length lk),(2,.slice (va br1.q) b1.length br1.k),(7,.map (some b8)),(8,iv at_1),(9,iv n)],((b8,.map (B0 ml9 0).toArray ml9.length)::(vo cU8 5 br1 b1)++([])),[B8w Tryz.prog ml9 tC,sl A4 lq l,B5f,B5e,Q1,P2,L7,S1],fu2)) (((l.length:Int) - at_).toNat+1) b br at_ at_ ⟨(Nat.lt_succ_self _),hR,hokbr,(by omega),(by omega)⟩ (mc [[(b8,.map (B0 ml9 0).toArray ml9.length)],vo cU8 5 br b] [true,true] rfl (by first|rfl|(simp only [List.length_set]<;>rfl))) A1.refl ?_
  rintro fu2 b1 br1 at_1 n ⟨hm13,hR,hokbr1,hn,hb1⟩
  have:=VOk.le hokbr1
  obtain ⟨fu3,rfl⟩:∃ m,fu2=m+1:=⟨fu2 - 1,by omega⟩
  replace hR:=(Z0.eq_2 ..).symm.trans hR
  refine A8 (B3 (A8 (sr 18 rfl (ip' 5 13 [(39,bv (decide (n<(l.length:Int))))] ?_))))
  refine zid 5 8 39 44 (decide (n<(at_1+16))) (fun g14 g14p=>?_) ?_
  ·refine ip' 2 3 [(40,iv n),(41,iv at_1)] ?_
   refine ix rfl (B5 rfl rfl rfl rfl (by omega)) ?_
   refine ip' 2 0 [(44,bv (decide (n<(at_1+16))))] ?_
   exact A3 (L6 5 39 44 g14 A1.refl (mc [[(b8,.map (B0 ml9 0).toArray ml9.length)],vo cU8 5 br1 b1] [true,true] rfl (by first|rfl|(simp only [List.length_set]<;>rfl))) rfl rfl rfl rfl rfl)
  refine ip' 1 7 [(45,bv ((decide (n<(l.length:Int)))&&(decide (n<(at_1+16)))))] ?_
  refine zia 7 0 45 52 (decide ((l.getD ((n).toNat) Act.zero).kind=39)) (fun g15=>?_) ?_
  ·have g15p:(n<(l.length:Int))∧(n<(at_1+16)):=by simpa using g15
   refine ip' 2 5 [(46,.slice lq l.length lk),(47,iv n)] ?_
   refine R8 1 rfl (by omega) fun a16 hq17=>?_
   refine ix rfl (M4 A4y rfl rfl hq17 rfl ((n).toNat) (by omega) (by omega)) ?_
   refine ip' 1 3 [(49,pa (Addr.add a16 (((n).toNat) * 6)))] ?_
   refine ix rfl (F5 (v:=iv ((l.getD ((n).toNat) Act.zero).kind)) (us:=[iv ((l.getD ((n).toNat) Act.zero).kind)]) ty3 rfl rfl (A7l (O2 (c:=A4) (sz:=6) hq17 (fun _=>rfl) 1 rfl (gd Act.zero (by omega))) (ws:=[iv ((l.getD ((n).toNat) Act.zero).kind)]) 1 rfl) rfl) ?_
   refine ip' 2 0 [(52,bv (decide ((l.getD ((n).toNat) Act.zero).kind=39)))] ?_
   exact A3 (L6 7 45 52 g15 A1.refl (mc [[(b8,.map (B0 ml9 0).toArray ml9.length)],vo cU8 5 br1 b1] [true,true] rfl (by first|rfl|(simp only [List.length_set]<;>rfl))) rfl rfl rfl rfl rfl)
  refine ie ?_
  refine zjb rfl hR ?_ ?_<;>clear hR<;>intro hR h18
  ·have h18p:((n<(l.length:Int))∧(n<(at_1+16)))∧((l.getD ((n).toNat) Act.zero).kind=39):=by simpa using h18
   refine I3 (nx (A2 3 rfl (ip' 1 2 [(33,iv n)] ?_)))
   refine ix rfl (B5 rfl rfl rfl rfl (by omega)) ?_
   refine ip' 1 0 [(9,iv (n+1))] ?_
   refine A3 ?_
   exact E6g (z1:=(fu3+1)) (z2:=b1) (z3:=br1) (z4:=at_1) (z5:=n) fu3 b1 br1 at_1 (n+1) ⟨(by omega),hR,hokbr1,(by omega),(by omega)⟩ (Nat.lt_succ_self _) (mc [[(b8,.map (B0 ml9 0).toArray ml9.length)],vo cU8 5 br1 b1] [true,true] rfl (by first|rfl|(simp only [List.length_set]<;>rfl))) A1.refl
  have h18p:¬ (((n<(l.length:Int))∧(n<(at_1+16)))∧((l.getD ((n).toNat) Act.zero).kind=39)):=by simpa using h18
  refine A6 (nx (A8 (sr 3 rfl (ip' 3 0 [(55,bv (decide (n=at_1)))] ?_))))
  refine ie ?_
  refine zjd rfl hR ?_ ?_<;>clear hR<;>intro hR h19 h19p
  ·refine I3 (nx ?_)
   refine sh' 15 [(15,[(b8,.map (B0 ml9 0).toArray ml9.length)]),(13,vo cU8 5 br1 b1)] [B8w Tryz.prog ml9 tC,sl A4 lq l,B5f,B5e,Q1,P2,L7,S1] ((b8,.map (B0 ml9 0).toArray ml9.length)::(vo cU8 5 br1 b1)++([])) (zml 15 0) (by kernel_rfl) rfl (by kernel_rfl) (by kernel_rfl) (by kernel_rfl) (mc [[(b8,.map (B0 ml9 0).toArray ml9.length)],vo cU8 5 br1 b1] [true,true] rfl (by first|rfl|(simp only [List.length_set]<;>rfl))) A1.refl ?_
   refine zhp [0,1,2,3,8,9] 9 (zml 15 783) [(65,.slice (va br1.q) b1.length br1.k),(66,.map (some b8)),(67,.slice lq l.length lk),(68,iv at_1),(73,.slice lq l.length lk),(74,iv at_1)] ?_
   refine D5c 1 rfl (by omega) fun a20 hq21=>?_
   refine zhk 4 (zml 15 799) rfl (M4 A4y rfl rfl hq21 rfl ((at_1).toNat) (by omega) (by omega)) ?_
   refine zhp [5] 7 (zml 15 831) [(70,pa (Addr.add a20 (((at_1).toNat) * 6)))] ?_
   refine zhk 6 (zml 15 895) rfl (F5 (v:=iv ((l.getD ((at_1).toNat) Act.zero).kind)) (us:=[iv ((l.getD ((at_1).toNat) Act.zero).kind)]) ty3 rfl rfl (A7l (O2 (c:=A4) (sz:=6) hq21 (fun _=>rfl) 1 rfl (gd Act.zero (by omega))) (ws:=[iv ((l.getD ((at_1).toNat) Act.zero).kind)]) 1 rfl) rfl) ?_
   refine zhl 7 [(b8,.map (B0 ml9 0).toArray ml9.length)] (zml 15 1023) rfl (by exact D0h (z:=.nilFunc) ml9 P4 rfl rfl rfl 0 rfl (by rw [List.toList_toArray]) (by kernel_rfl)) ?_
   refine zhk 10 (zml 15 2047) rfl (M4 A4y rfl rfl hq21 rfl ((at_1).toNat) (by omega) (by omega)) ?_
   refine zhk 11 (zml 15 4095) rfl (S3 (us:=A4 (l.getD ((at_1).toNat) Act.zero)) A3l rfl rfl (O2 (c:=A4) (sz:=6) hq21 (fun _=>rfl) 1 rfl (gd Act.zero (by omega))) rfl) ?_
   have htp:=D1w (hchk ((at_1).toNat) (by omega)) (C4w hkind (by decide) ((at_1).toNat))
   refine zho 12 ((b8,.map (B0 ml9 0).toArray ml9.length)::(vo cU8 5 br1 b1)++([])) (zml 15 8191) rfl (Det.tri (by exact D6d (C:=tC) (B1 0 rfl) (by rw [B1o,hk10];exact D6e ⟨htp.2.1,htp.2.2.1⟩) ⟨(l.getD ((at_1).toNat) Act.zero),⟨rfl,by exact htp⟩,rfl,rfl⟩ rfl rfl rfl rfl)) (fun _=>(mc [[(b8,.map (B0 ml9 0).toArray ml9.length)],vo cU8 5 br1 b1] [true,true] rfl (by first|rfl|(simp only [List.length_set]<;>rfl)))) (fun _=>A1.refl) fun _=>?_
   have:=C6c _ htp.1
   refine zho 13 [(b8,.map (B0 ml9 0).toArray ml9.length)] (zml 15 16383) rfl (B3x (r:=br1) (xs:=b1) (s:=(A2a (l.getD ((at_1).toNat) Act.zero))) (pre:=[(b8,.map (B0 ml9 0).toArray ml9.length)]) (post:=[]) B2w (by kernel_rfl) Tryz.underlying9 rfl rfl rfl rfl rfl rfl rfl hokbr1 (by first|omega|(simp<;>omega))) (fun ⟨r22,hr23⟩=>(mc [[(b8,.map (B0 ml9 0).toArray ml9.length)],vo cU8 5 r22 (b1++(A2a (l.getD ((at_1).toNat) Act.zero)))] [true,false] rfl (by first|rfl|(simp only [List.length_set]<;>rfl)))) (fun ⟨r22,hr23⟩=>A1.refl) fun ⟨r22,hr23⟩=>?_
   have:=@List.length_append _ b1 (A2a (l.getD ((at_1).toNat) Act.zero))
   have:=VOk.le hr23
   have:=VOk.cap hr23
   refine zhp [14] 0 (zml 15 32767) [(2,.slice (va r22.q) ((b1++(A2a (l.getD ((at_1).toNat) Act.zero))).length) r22.k)] ?_
   refine B4w (by kernel_rfl) ?_
   refine nx (A2 3 rfl (ip' 1 2 [(30,iv at_1)] ?_))
   refine ix rfl (B5 rfl rfl rfl rfl (by omega)) ?_
   refine ip' 1 0 [(8,iv (at_1+1))] ?_
   refine A3 ?_
   exact B5q (z1:=(fu1+1)) (z2:=b) (z3:=br) (z4:=at_) fu1 (b1++(A2a (l.getD ((at_1).toNat) Act.zero))) r22 (at_1+1) ⟨(by omega),hR,hr23,(by omega),(by first|omega|(simp<;>omega))⟩ (Nat.lt_succ_self _) (mc [[(b8,.map (B0 ml9 0).toArray ml9.length)],vo cU8 5 r22 (b1++(A2a (l.getD ((at_1).toNat) Act.zero)))] [true,true] rfl (by first|rfl|(simp only [List.length_set]<;>rfl))) A1.refl
  refine A6 (nx (sr 8 rfl (ip' 4 4 [(56,.slice (va br1.q) b1.length br1.k),(57,.slice lq l.length lk),(58,iv at_1),(59,iv n)] ?_)))
  refine F3 (D7m (c:=A4) (sz:=6) (xs:=l) (B1 1 rfl) ((at_1).toNat) ((n).toNat) lk (fun _=>rfl) rfl (by omega) (by omega)) ?_
  refine ix rfl (B8a (n':=((l.drop ((at_1).toNat)).take (((n).toNat) - ((at_1).toNat))).length) A4y rfl rfl ((at_1).toNat) ((n).toNat) lk (A8j rfl (by omega)) (A8j rfl (by omega)) B2l (by omega) (by omega) (by omega) (by first|rfl|omega|(simp<;>omega)|(simp;done)) rfl) ?_
  have:=@List.length_drop _ ((at_1).toNat) l
  have:=@List.length_take _ (((n).toNat) - ((at_1).toNat)) (l.drop ((at_1).toNat))
  have hQ:=D6 hR;clear hR;obtain ⟨y0,hy0,hR⟩:=hQ
  refine zca (C0i ((l.drop ((at_1).toNat)).take (((n).toNat) - ((at_1).toNat))) (C1d lq ((at_1).toNat) 6 lk) (lk - ((at_1).toNat)) (by first|omega|(simp<;>omega)|(dsimp only;omega)|decide) (by first|omega|(simp<;>omega)|(dsimp only;omega)|decide) y0 hy0) (A1.pick [0,8,7] rfl) ?_
  have:=A6r ((l.drop ((at_1).toNat)).take (((n).toNat) - ((at_1).toNat)));try rw [hy0] at this
  refine it rfl (B3x (r:=br1) (xs:=b1) (s:=y0) (pre:=[(b8,.map (B0 ml9 0).toArray ml9.length)]) (post:=[]) B2w (by kernel_rfl) Tryz.underlying9 rfl rfl rfl rfl rfl rfl rfl hokbr1 (by first|omega|(simp<;>omega))) fun ⟨r24,hr25⟩=>?_
  have:=@List.length_append _ b1 y0
  have:=VOk.le hr25
  have:=VOk.cap hr25
  refine ip' 1 0 [(2,.slice (va r24.q) ((b1++y0).length) r24.k)] ?_
  refine ie (sr 3 rfl (ip' 1 2 [(63,iv n)] ?_))
  refine ix rfl (N7 rfl rfl rfl rfl (by omega)) ?_
  refine ip' 1 0 [(8,iv (n - 1))] ?_
  refine ie (I3 (nx (A2 3 rfl (ip' 1 2 [(30,iv (n - 1))] ?_))))
  refine ix rfl (B5 rfl rfl rfl rfl (by omega)) ?_
  refine ip' 1 0 [(8,iv ((n - 1)+1))] ?_
  refine A3 ?_
  exact B5q (z1:=(fu1+1)) (z2:=b) (z3:=br) (z4:=at_) fu1 (b1++y0) r24 ((n - 1)+1) ⟨(by omega),hR,hr25,(by omega),(by first|omega|(simp<;>omega))⟩ (Nat.lt_succ_self _) (mc [[(b8,.map (B0 ml9 0).toArray ml9.length)],vo cU8 5 r24 (b1++y0)] [true,true] rfl (by first|rfl|(simp only [List.length_set]<;>rfl))) (A1.pick [1,2,3,4,5,6,7,8] rfl)
 refine I3 (nx (sr 3 rfl (ip' 3 0 [(2,.slice (va br.q) b.length br.k),(3,iv 0)] ?_)))
 subst hR
 refine ie (A9 ?_)
 exact zer hr hD (A8h rfl (C1 rfl) (C1 rfl)) ⟨br,hokbr⟩ (mc [[(b8,.map (B0 ml9 0).toArray ml9.length)],vo cU8 5 br b] [false,true] rfl (by first|rfl|(simp only [List.length_set]<;>rfl))) fn0
end Go.Proofs.YtanighkpfmgnbaaGreatDoor
set_option linter.unusedVariables false
set_option linter.unusedSimpArgs false
set_option linter.unnecessarySimpa false
set_option maxRecDepth 100000
namespace Go.Proofs.YtanighkpfmgnbaaGreatDoor
open Go Go.Fen
end Go.Proofs.YtanighkpfmgnbaaGreatDoor
