import Derived.Test.YtanighkpfmgnbaaGreatDoorProg
import Derived.Test.YtanighkpfmgnbaaGreatDoorMA2
import Derived.Test.YtanighkpfmgnbaaGreatDoorMB1
import Derived.Test.YtanighkpfmgnbaaGreatDoorMA3
import Derived.Test.YtanighkpfmgnbaaGreatDoorMB2
set_option linter.unusedVariables false
set_option linter.unusedSimpArgs false
set_option linter.unnecessarySimpa false
set_option maxRecDepth 100000
namespace Go.Proofs.YtanighkpfmgnbaaGreatDoor
open Go Go.Fen
theorem K2:MapTy Tryz.prog 136 3 134 (.int .i64):=⟨by kernel_rfl,by kernel_rfl,rfl⟩
theorem D7p:SlTy Tryz.prog 186 184 2:=⟨by kernel_rfl,by kernel_rfl⟩
theorem B7z:Ty Tryz.prog 134 2 true:=⟨by kernel_rfl⟩
theorem D4f:Ty Tryz.prog 184 2 true:=⟨by kernel_rfl⟩
theorem A8x:Zero Tryz.prog 134 [.nilFunc,.nilFunc]:=⟨by kernel_rfl⟩
def A3v (cp:Int):List Spn→Nat→Bool
 | [],t9=>false
 | hd_l0::tl_l0,t9=>(bif ((decide (hd_l0.lo≤cp))&&(decide (cp≤hd_l0.hi))) then true else A3v cp tl_l0 (t9+1))
def Y0 (cp:Int) (l:List Spn):Bool :=
 A3v cp l 0
theorem B7i (cp:Int) (l:List Spn) (lq:Option Addr) (lk:Nat) (hll:l.length≤9223372036854775807) (hcl:l.length≤lk) (R:Bool) (hR:Y0 cp l=R):N1 Tryz.prog 116 [iv cp,.slice lq l.length lk] [sl B3 lq l] (bv R):=by
 refine zco Tryz.func116 [(0,iv cp),(1,.slice lq l.length lk)] fun X hX hr hD=>?_
 replace hR:=(Y0.eq_1 ..).symm.trans hR
 refine sr 1 rfl (ip' 1 0 [] (ie (A8 (sr 3 rfl (ip' 3 0 [(7,.slice lq l.length lk),(8,iv (l.length:Int)),(9,iv 0)] (ie (B4 (D0s (fun (t9:Nat)=>(t9≤l.length∧A3v cp (l.drop t9) t9=R,[(0,iv cp),(7,.slice lq l.length lk),(8,iv (l.length:Int)),(9,iv (t9:Int))],[],[sl B3 lq l],l.length - t9)) 0 ⟨(by omega),hR⟩ (mk [] rfl) A2.refl ?_))))))))
 rintro t9 ⟨hm1,hR⟩
 refine sr 1 rfl (ip' 1 0 [(10,bv (decide ((t9:Int)<(l.length:Int))))] ?_)
 refine ie (A8 (A1q rfl (fun h2=>?_) (fun h2=>?_)))
 ·have h2p:(t9:Int)<(l.length:Int):=by simpa using h2
  rw [A5r Spn.zero (show t9<l.length by omega)] at hR;replace hR:=(A3v.eq_2 ..).symm.trans hR
  refine B1 (nx (A8 (B4 (sr 4 rfl (S9 0 rfl (by omega) fun a3 hq4=>(ix rfl (M2 D7p rfl rfl hq4 rfl t9 rfl (by omega)) (ix rfl (N8 (us:=B3 (l.getD t9 Spn.zero)) D4f rfl rfl (O2 (c:=B3) (sz:=2) hq4 (fun _=>rfl) 0 rfl (gd Spn.zero (by omega))) rfl) ?_)))))))
  refine M8 2 0 [0] (fun b5=>[(6,pt b5 0)]) (fun b5=>[bx b5 (B3 (l.getD t9 Spn.zero)) 184]) (fun b5=>?_)
  refine ie (sr 10 rfl (zrl 5 5 [0] [(17,bv (decide ((l.getD t9 Spn.zero).lo≤cp)))] ?_))
  refine zid 5 0 17 22 (decide (cp≤(l.getD t9 Spn.zero).hi)) (fun g6 g6p=>?_) ?_
  ·refine zrl 5 0 [0] [(22,bv (decide (cp≤(l.getD t9 Spn.zero).hi)))] ?_
   exact zai 2 17 22 g6
  refine ie ?_
  refine zja rfl hR ?_ ?_<;>clear hR<;>intro hR h7 h7p
  ·refine sr 1 rfl (ip' 1 0 [(4,bv true)] ?_)
   subst hR
   refine ie (B5 ?_)
   exact G1 hr hD
  refine B1 (nx (A5 2 rfl (ix rfl (B7 rfl rfl rfl rfl (by omega)) (ip' 1 0 [(9,iv ((t9:Int)+1))] (A7 ?_)))))
  exact D0o (z1:=t9) (t9+1) ⟨(by omega),hR⟩ (by (try dsimp only);omega) (mk [false] rfl) A2.refl
 have h2p:¬ ((t9:Int)<(l.length:Int)):=by simpa using h2
 rw [A5s h2p] at hR;replace hR:=(A3v.eq_1 ..).symm.trans hR
 refine H7 (nx (sr 1 rfl (ip' 1 0 [(4,bv false)] ?_)))
 subst hR
 refine ie (B5 ?_)
 exact G1 hr hD
def M7 (cp:Int):Int :=
 (bif ((!(A4i cp))||(Y0 cp ([(⟨0,31⟩:Spn),(⟨127,159⟩:Spn)]:List Spn))) then (-1) else (bif (decide (cp<(B9x.getD 0 Spn.zero).lo)) then 1 else (bif (Y0 cp B9x) then 0 else (bif (Y0 cp D1m) then 2 else 1))))
theorem B3i (cp:Int) (R:Int) (hR:M7 cp=R):N1 Tryz.prog 62 [iv cp] [A1y,A1z] (iv R):=by
 refine zco Tryz.func62 [(0,iv cp)] fun X hX hr hD=>?_
 replace hR:=(M7.eq_1 ..).symm.trans hR
 refine sr 1 rfl (ip' 1 0 [] (ie (A8 (B4 (sr 11 rfl (ip' 1 10 [(4,iv cp)] (zca (C1m cp _ rfl) fn0 (ip' 2 7 [(7,bv (!(A4i cp)))] ?_))))))))
 refine zio 6 1 7 13 (Y0 cp ([(⟨0,31⟩:Spn),(⟨127,159⟩:Spn)]:List Spn)) (fun g1=>?_) ?_
 ·refine zrl 3 3 [] [(8,iv cp),(9,ag (B3 (⟨0,31⟩:Spn))),(10,ag (B3 (⟨127,159⟩:Spn)))] (it rfl (C0 (c:=B3) (xs:=([(⟨0,31⟩:Spn),(⟨127,159⟩:Spn)]:List Spn)) D7p rfl rfl rfl (by kernel_rfl)) fun b2=>?_)
  have:([(⟨0,31⟩:Spn),(⟨127,159⟩:Spn)]:List Spn).length=2:=rfl
  refine zca (B7i cp ([(⟨0,31⟩:Spn),(⟨127,159⟩:Spn)]:List Spn) (some ⟨b2,0,none⟩) 2 (by first|omega|(simp<;>omega)|(dsimp only;omega)|decide) (by first|omega|(simp<;>omega)|(dsimp only;omega)|decide) _ rfl) (A2.pick [0] rfl) (ip' 1 0 [(13,bv (Y0 cp ([(⟨0,31⟩:Spn),(⟨127,159⟩:Spn)]:List Spn)))] ?_)
  exact A7 (U9 7 7 13 g1 (A2.pick [1,2] rfl) (mk [] rfl) rfl rfl rfl rfl rfl)
 refine ip' 1 0 [(3,bv ((!(A4i cp))||(Y0 cp ([(⟨0,31⟩:Spn),(⟨127,159⟩:Spn)]:List Spn))))] (ie ?_)
 refine zjb rfl hR ?_ ?_<;>clear hR<;>intro hR h3
 ·have h3p:=h3;try simp at h3p
  refine sr 1 rfl (ip' 1 0 [(2,iv (-1))] ?_)
  subst hR
  refine ie (B5 ?_)
  exact G1 hr hD
 have h3p:=h3;try simp at h3p
 refine sr 6 rfl (ip' 1 5 [(15,iv cp)] (ix rfl (B7g Tryz.underlying185 D4f rfl rfl rfl 0 rfl (by first|decide|omega)) (ip' 1 3 [(17,pa (Addr.add ⟨0,0,none⟩ (0 * 2)))] (ix rfl (F3 (v:=iv ((B9x.getD 0 Spn.zero).lo)) (us:=[iv ((B9x.getD 0 Spn.zero).lo)]) ty3 rfl rfl (A8b (O2 (c:=B3) (sz:=2) rfl (fun _=>rfl) 0 rfl (gd Spn.zero (by first|decide|(simp only [B9x,List.length_cons,List.length_nil];omega)))) (ws:=[iv ((B9x.getD 0 Spn.zero).lo)]) 1 rfl) rfl) (ip' 2 0 [(14,bv (decide (cp<(B9x.getD 0 Spn.zero).lo)))] (ie ?_))))))
 refine zjd rfl hR ?_ ?_<;>clear hR<;>intro hR h4 h4p
 ·refine sr 1 rfl (ip' 1 0 [(2,iv 1)] ?_)
  subst hR
  refine ie (B5 ?_)
  exact G1 hr hD
 refine sr 4 rfl (ip' 1 3 [(21,iv cp)] (ix rfl (C4g Tryz.underlying185 D4f rfl rfl) (zca (B7i cp B9x (some ⟨0,0,none⟩) 11 (by first|omega|(simp<;>omega)|(dsimp only;omega)|decide) (by first|omega|(simp<;>omega)|(dsimp only;omega)|decide) _ rfl) (A2.pick [0] rfl) (ip' 1 0 [(20,bv (Y0 cp B9x))] (ie ?_)))))
 refine zjb rfl hR ?_ ?_<;>clear hR<;>intro hR h5
 ·refine sr 1 rfl (ip' 1 0 [(2,iv 0)] ?_)
  subst hR
  refine ie (B5 ?_)
  exact G1 hr hD
 refine sr 4 rfl (ip' 1 3 [(25,iv cp)] (ix rfl (C4g Tryz.underlying187 D4f rfl rfl) (zca (B7i cp D1m (some ⟨1,0,none⟩) 13 (by first|omega|(simp<;>omega)|(dsimp only;omega)|decide) (by first|omega|(simp<;>omega)|(dsimp only;omega)|decide) _ rfl) (A2.pick [1] rfl) (ip' 1 0 [(24,bv (Y0 cp D1m))] (ie ?_)))))
 refine zjb rfl hR ?_ ?_<;>clear hR<;>intro hR h6
 ·refine sr 1 rfl (ip' 1 0 [(2,iv 2)] ?_)
  subst hR
  refine ie (B5 ?_)
  exact G1 hr hD
 refine B1 (nx (sr 1 rfl (ip' 1 0 [(2,iv 1)] ?_)))
 subst hR
 refine ie (B5 ?_)
 exact G1 hr hD
def A2x (kind:Int) (n:Int) (m:Int):Act :=
 {Act.zero with kind:=kind,n:=n,m:=m}
theorem C9d (kind:Int) (n:Int) (m:Int) (R:Act) (hR:A2x kind n m=R):N1 Tryz.prog 63 [iv kind,iv n,iv m] [] (ag (A0 R)):=by
 refine zco Tryz.func63 [(0,iv kind),(1,iv n),(2,iv m)] fun X hX hr hD=>?_
 replace hR:=(A2x.eq_1 ..).symm.trans hR
 refine sr 1 rfl (M8 1 0 [] (fun b1=>[(6,pt b1 0)]) (fun b1=>[bx b1 (A0 Act.zero) 26]) (fun b1=>(ie (sr 5 rfl (zrg 5 0 [0] [] [bx b1 (A0 ({Act.zero with kind:=kind,n:=n,m:=m})) 26] ?_)))))
 subst hR
 refine ie (B5 ?_)
 exact zer hr hD (Q9 rfl (F5 (us:=A0 ({Act.zero with kind:=kind,n:=n,m:=m})) B4h rfl 0 rfl rfl rfl)) () (mk [false] rfl) fn0
def B6h:Unit :=
 ()
theorem C1z (R:Unit) (hR:B6h=R):N1 Tryz.prog 122 [] [] (.tuple #[.func (.func 123) #[ag (B3 (⟨0,0⟩:Spn))] #[],.func (.func 123) #[ag (B3 (⟨0,1⟩:Spn))] #[],.func (.func 123) #[ag (B3 (⟨1,9999⟩:Spn))] #[],.func (.func 123) #[ag (B3 (⟨0,9999⟩:Spn))] #[]]):=by
 refine zco Tryz.func122 [] fun X hX hr hD=>?_
 replace hR:=(B6h.eq_1 ..).symm.trans hR
 refine sr 4 rfl (ip' 4 0 [] (ie (sr 12 rfl (zrl 12 0 [] [(0,.func (.func 123) #[ag (B3 (⟨0,0⟩:Spn))] #[]),(1,.func (.func 123) #[ag (B3 (⟨0,1⟩:Spn))] #[]),(2,.func (.func 123) #[ag (B3 (⟨1,9999⟩:Spn))] #[]),(3,.func (.func 123) #[ag (B3 (⟨0,9999⟩:Spn))] #[])] ?_))))
 subst hR
 refine ie (B5 ?_)
 exact zer hr hD (E0b rfl (C1 rfl) (C1 rfl) (C1 rfl) (C1 rfl)) () (mk [] rfl) fn0
def me0:Value:=ag [.func (.func 123) #[ag (B3 (⟨0,3⟩:Spn))] #[],.func (.func 123) #[ag (B3 (⟨0,1⟩:Spn))] #[]]
def mt0:List (Int×Value):=[(17,me0)]
def me1:Value:=ag [.func (.func 123) #[ag (B3 (⟨2,3⟩:Spn))] #[],.func (.func 123) #[ag (B3 (⟨0,0⟩:Spn))] #[]]
def mt1:List (Int×Value):=[(17,me0),(18,me1)]
def me2:Value:=ag [.func (.func 123) #[ag (B3 (⟨1,9999⟩:Spn))] #[],.func (.func 123) #[ag (B3 (⟨1,9999⟩:Spn))] #[]]
def mt2:List (Int×Value):=[(17,me0),(18,me1),(19,me2)]
def me3:Value:=ag [.func (.func 123) #[ag (B3 (⟨0,3⟩:Spn))] #[],.func (.func 123) #[ag (B3 (⟨1,9999⟩:Spn))] #[]]
def mt3:List (Int×Value):=[(17,me0),(18,me1),(19,me2),(20,me3)]
def me4:Value:=ag [.func (.func 123) #[ag (B3 (⟨0,3⟩:Spn))] #[],.func (.func 123) #[ag (B3 (⟨0,0⟩:Spn))] #[]]
def mt4:List (Int×Value):=[(17,me0),(18,me1),(19,me2),(20,me3),(26,me4)]
def me5:Value:=ag [.func (.func 123) #[ag (B3 (⟨0,2⟩:Spn))] #[],.func (.func 123) #[ag (B3 (⟨0,0⟩:Spn))] #[]]
def mt5:List (Int×Value):=[(17,me0),(18,me1),(19,me2),(20,me3),(26,me4),(27,me5)]
def me6:Value:=ag [.func (.func 124) #[] #[],.func (.func 123) #[ag (B3 (⟨0,0⟩:Spn))] #[]]
def mt6:List (Int×Value):=[(17,me0),(18,me1),(19,me2),(20,me3),(26,me4),(27,me5),(35,me6)]
def me7:Value:=ag [.func (.func 123) #[ag (B3 (⟨0,9999⟩:Spn))] #[],.func (.func 123) #[ag (B3 (⟨0,9999⟩:Spn))] #[]]
def mt7:List (Int×Value):=[(17,me0),(18,me1),(19,me2),(20,me3),(26,me4),(27,me5),(35,me6),(38,me7)]
def me8:Value:=ag [.func (.func 123) #[ag (B3 (⟨0,6⟩:Spn))] #[],.func (.func 123) #[ag (B3 (⟨0,0⟩:Spn))] #[]]
def mt8:List (Int×Value):=[(17,me0),(18,me1),(19,me2),(20,me3),(26,me4),(27,me5),(35,me6),(38,me7),(40,me8)]
def me9:Value:=ag [.func (.func 123) #[ag (B3 (⟨5,6⟩:Spn))] #[],.func (.func 123) #[ag (B3 (⟨0,0⟩:Spn))] #[]]
def mt9:List (Int×Value):=[(17,me0),(18,me1),(19,me2),(20,me3),(26,me4),(27,me5),(35,me6),(38,me7),(40,me8),(41,me9)]
def A5i:Value:=ag [.func (.func 123) #[ag (B3 (⟨0,0⟩:Spn))] #[],.func (.func 123) #[ag (B3 (⟨0,0⟩:Spn))] #[]]
def E3s:List (Int×Value):=[(17,me0),(18,me1),(19,me2),(20,me3),(26,me4),(27,me5),(35,me6),(38,me7),(40,me8),(41,me9),(2,A5i)]
def A5t:Value:=ag [.func (.func 123) #[ag (B3 (⟨0,0⟩:Spn))] #[],.func (.func 123) #[ag (B3 (⟨0,0⟩:Spn))] #[]]
def E4b:List (Int×Value):=[(17,me0),(18,me1),(19,me2),(20,me3),(26,me4),(27,me5),(35,me6),(38,me7),(40,me8),(41,me9),(2,A5i),(3,A5t)]
def A6k:Value:=ag [.func (.func 123) #[ag (B3 (⟨0,0⟩:Spn))] #[],.func (.func 123) #[ag (B3 (⟨0,0⟩:Spn))] #[]]
def E4a:List (Int×Value):=[(17,me0),(18,me1),(19,me2),(20,me3),(26,me4),(27,me5),(35,me6),(38,me7),(40,me8),(41,me9),(2,A5i),(3,A5t),(4,A6k)]
def A6q:Value:=ag [.func (.func 123) #[ag (B3 (⟨0,0⟩:Spn))] #[],.func (.func 123) #[ag (B3 (⟨0,0⟩:Spn))] #[]]
def E3x:List (Int×Value):=[(17,me0),(18,me1),(19,me2),(20,me3),(26,me4),(27,me5),(35,me6),(38,me7),(40,me8),(41,me9),(2,A5i),(3,A5t),(4,A6k),(5,A6q)]
def A6u:Value:=ag [.func (.func 123) #[ag (B3 (⟨0,0⟩:Spn))] #[],.func (.func 123) #[ag (B3 (⟨0,0⟩:Spn))] #[]]
def E3a:List (Int×Value):=[(17,me0),(18,me1),(19,me2),(20,me3),(26,me4),(27,me5),(35,me6),(38,me7),(40,me8),(41,me9),(2,A5i),(3,A5t),(4,A6k),(5,A6q),(6,A6u)]
def A8g:Value:=ag [.func (.func 123) #[ag (B3 (⟨0,0⟩:Spn))] #[],.func (.func 123) #[ag (B3 (⟨0,0⟩:Spn))] #[]]
def E2t:List (Int×Value):=[(17,me0),(18,me1),(19,me2),(20,me3),(26,me4),(27,me5),(35,me6),(38,me7),(40,me8),(41,me9),(2,A5i),(3,A5t),(4,A6k),(5,A6q),(6,A6u),(8,A8g)]
def A8o:Value:=ag [.func (.func 123) #[ag (B3 (⟨0,0⟩:Spn))] #[],.func (.func 123) #[ag (B3 (⟨0,0⟩:Spn))] #[]]
def E4x:List (Int×Value):=[(17,me0),(18,me1),(19,me2),(20,me3),(26,me4),(27,me5),(35,me6),(38,me7),(40,me8),(41,me9),(2,A5i),(3,A5t),(4,A6k),(5,A6q),(6,A6u),(8,A8g),(9,A8o)]
def A9f:Value:=ag [.func (.func 123) #[ag (B3 (⟨0,0⟩:Spn))] #[],.func (.func 123) #[ag (B3 (⟨0,0⟩:Spn))] #[]]
def E3t:List (Int×Value):=[(17,me0),(18,me1),(19,me2),(20,me3),(26,me4),(27,me5),(35,me6),(38,me7),(40,me8),(41,me9),(2,A5i),(3,A5t),(4,A6k),(5,A6q),(6,A6u),(8,A8g),(9,A8o),(10,A9f)]
def B0a:Value:=ag [.func (.func 123) #[ag (B3 (⟨0,0⟩:Spn))] #[],.func (.func 123) #[ag (B3 (⟨0,0⟩:Spn))] #[]]
def E3z:List (Int×Value):=[(17,me0),(18,me1),(19,me2),(20,me3),(26,me4),(27,me5),(35,me6),(38,me7),(40,me8),(41,me9),(2,A5i),(3,A5t),(4,A6k),(5,A6q),(6,A6u),(8,A8g),(9,A8o),(10,A9f),(11,B0a)]
def B0j:Value:=ag [.func (.func 123) #[ag (B3 (⟨0,0⟩:Spn))] #[],.func (.func 123) #[ag (B3 (⟨0,0⟩:Spn))] #[]]
def E3d:List (Int×Value):=[(17,me0),(18,me1),(19,me2),(20,me3),(26,me4),(27,me5),(35,me6),(38,me7),(40,me8),(41,me9),(2,A5i),(3,A5t),(4,A6k),(5,A6q),(6,A6u),(8,A8g),(9,A8o),(10,A9f),(11,B0a),(12,B0j)]
def B1o:Value:=ag [.func (.func 123) #[ag (B3 (⟨0,0⟩:Spn))] #[],.func (.func 123) #[ag (B3 (⟨0,0⟩:Spn))] #[]]
def E4w:List (Int×Value):=[(17,me0),(18,me1),(19,me2),(20,me3),(26,me4),(27,me5),(35,me6),(38,me7),(40,me8),(41,me9),(2,A5i),(3,A5t),(4,A6k),(5,A6q),(6,A6u),(8,A8g),(9,A8o),(10,A9f),(11,B0a),(12,B0j),(13,B1o)]
def B2m:Value:=ag [.func (.func 123) #[ag (B3 (⟨0,0⟩:Spn))] #[],.func (.func 123) #[ag (B3 (⟨0,0⟩:Spn))] #[]]
def E2m:List (Int×Value):=[(17,me0),(18,me1),(19,me2),(20,me3),(26,me4),(27,me5),(35,me6),(38,me7),(40,me8),(41,me9),(2,A5i),(3,A5t),(4,A6k),(5,A6q),(6,A6u),(8,A8g),(9,A8o),(10,A9f),(11,B0a),(12,B0j),(13,B1o),(15,B2m)]
def B2v:Value:=ag [.func (.func 123) #[ag (B3 (⟨0,0⟩:Spn))] #[],.func (.func 123) #[ag (B3 (⟨0,0⟩:Spn))] #[]]
def E4i:List (Int×Value):=[(17,me0),(18,me1),(19,me2),(20,me3),(26,me4),(27,me5),(35,me6),(38,me7),(40,me8),(41,me9),(2,A5i),(3,A5t),(4,A6k),(5,A6q),(6,A6u),(8,A8g),(9,A8o),(10,A9f),(11,B0a),(12,B0j),(13,B1o),(15,B2m),(16,B2v)]
def B3t:Value:=ag [.func (.func 123) #[ag (B3 (⟨0,1⟩:Spn))] #[],.func (.func 123) #[ag (B3 (⟨0,0⟩:Spn))] #[]]
def E2i:List (Int×Value):=[(17,me0),(18,me1),(19,me2),(20,me3),(26,me4),(27,me5),(35,me6),(38,me7),(40,me8),(41,me9),(2,A5i),(3,A5t),(4,A6k),(5,A6q),(6,A6u),(8,A8g),(9,A8o),(10,A9f),(11,B0a),(12,B0j),(13,B1o),(15,B2m),(16,B2v),(7,B3t)]
def B4o:Value:=ag [.func (.func 123) #[ag (B3 (⟨0,1⟩:Spn))] #[],.func (.func 123) #[ag (B3 (⟨0,0⟩:Spn))] #[]]
def E4z:List (Int×Value):=[(17,me0),(18,me1),(19,me2),(20,me3),(26,me4),(27,me5),(35,me6),(38,me7),(40,me8),(41,me9),(2,A5i),(3,A5t),(4,A6k),(5,A6q),(6,A6u),(8,A8g),(9,A8o),(10,A9f),(11,B0a),(12,B0j),(13,B1o),(15,B2m),(16,B2v),(7,B3t),(14,B4o)]
def B6b:Value:=ag [.func (.func 123) #[ag (B3 (⟨0,1⟩:Spn))] #[],.func (.func 123) #[ag (B3 (⟨0,0⟩:Spn))] #[]]
def E3r:List (Int×Value):=[(17,me0),(18,me1),(19,me2),(20,me3),(26,me4),(27,me5),(35,me6),(38,me7),(40,me8),(41,me9),(2,A5i),(3,A5t),(4,A6k),(5,A6q),(6,A6u),(8,A8g),(9,A8o),(10,A9f),(11,B0a),(12,B0j),(13,B1o),(15,B2m),(16,B2v),(7,B3t),(14,B4o),(42,B6b)]
def B7l:Value:=ag [.func (.func 123) #[ag (B3 (⟨0,1⟩:Spn))] #[],.func (.func 123) #[ag (B3 (⟨1,9999⟩:Spn))] #[]]
def E4h:List (Int×Value):=[(17,me0),(18,me1),(19,me2),(20,me3),(26,me4),(27,me5),(35,me6),(38,me7),(40,me8),(41,me9),(2,A5i),(3,A5t),(4,A6k),(5,A6q),(6,A6u),(8,A8g),(9,A8o),(10,A9f),(11,B0a),(12,B0j),(13,B1o),(15,B2m),(16,B2v),(7,B3t),(14,B4o),(42,B6b),(21,B7l)]
def B7w:Value:=ag [.func (.func 123) #[ag (B3 (⟨0,1⟩:Spn))] #[],.func (.func 123) #[ag (B3 (⟨1,9999⟩:Spn))] #[]]
def E4e:List (Int×Value):=[(17,me0),(18,me1),(19,me2),(20,me3),(26,me4),(27,me5),(35,me6),(38,me7),(40,me8),(41,me9),(2,A5i),(3,A5t),(4,A6k),(5,A6q),(6,A6u),(8,A8g),(9,A8o),(10,A9f),(11,B0a),(12,B0j),(13,B1o),(15,B2m),(16,B2v),(7,B3t),(14,B4o),(42,B6b),(21,B7l),(33,B7w)]
def C0o:Value:=ag [.func (.func 123) #[ag (B3 (⟨1,9999⟩:Spn))] #[],.func (.func 123) #[ag (B3 (⟨0,0⟩:Spn))] #[]]
def E3o:List (Int×Value):=[(17,me0),(18,me1),(19,me2),(20,me3),(26,me4),(27,me5),(35,me6),(38,me7),(40,me8),(41,me9),(2,A5i),(3,A5t),(4,A6k),(5,A6q),(6,A6u),(8,A8g),(9,A8o),(10,A9f),(11,B0a),(12,B0j),(13,B1o),(15,B2m),(16,B2v),(7,B3t),(14,B4o),(42,B6b),(21,B7l),(33,B7w),(22,C0o)]
def C2f:Value:=ag [.func (.func 123) #[ag (B3 (⟨1,9999⟩:Spn))] #[],.func (.func 123) #[ag (B3 (⟨0,0⟩:Spn))] #[]]
def E3y:List (Int×Value):=[(17,me0),(18,me1),(19,me2),(20,me3),(26,me4),(27,me5),(35,me6),(38,me7),(40,me8),(41,me9),(2,A5i),(3,A5t),(4,A6k),(5,A6q),(6,A6u),(8,A8g),(9,A8o),(10,A9f),(11,B0a),(12,B0j),(13,B1o),(15,B2m),(16,B2v),(7,B3t),(14,B4o),(42,B6b),(21,B7l),(33,B7w),(22,C0o),(23,C2f)]
def C2t:Value:=ag [.func (.func 123) #[ag (B3 (⟨1,9999⟩:Spn))] #[],.func (.func 123) #[ag (B3 (⟨0,0⟩:Spn))] #[]]
def E2o:List (Int×Value):=[(17,me0),(18,me1),(19,me2),(20,me3),(26,me4),(27,me5),(35,me6),(38,me7),(40,me8),(41,me9),(2,A5i),(3,A5t),(4,A6k),(5,A6q),(6,A6u),(8,A8g),(9,A8o),(10,A9f),(11,B0a),(12,B0j),(13,B1o),(15,B2m),(16,B2v),(7,B3t),(14,B4o),(42,B6b),(21,B7l),(33,B7w),(22,C0o),(23,C2f),(24,C2t)]
def C5q:Value:=ag [.func (.func 123) #[ag (B3 (⟨1,9999⟩:Spn))] #[],.func (.func 123) #[ag (B3 (⟨0,0⟩:Spn))] #[]]
def E4m:List (Int×Value):=[(17,me0),(18,me1),(19,me2),(20,me3),(26,me4),(27,me5),(35,me6),(38,me7),(40,me8),(41,me9),(2,A5i),(3,A5t),(4,A6k),(5,A6q),(6,A6u),(8,A8g),(9,A8o),(10,A9f),(11,B0a),(12,B0j),(13,B1o),(15,B2m),(16,B2v),(7,B3t),(14,B4o),(42,B6b),(21,B7l),(33,B7w),(22,C0o),(23,C2f),(24,C2t),(25,C5q)]
def C7k:Value:=ag [.func (.func 123) #[ag (B3 (⟨1,9999⟩:Spn))] #[],.func (.func 123) #[ag (B3 (⟨0,0⟩:Spn))] #[]]
def E2n:List (Int×Value):=[(17,me0),(18,me1),(19,me2),(20,me3),(26,me4),(27,me5),(35,me6),(38,me7),(40,me8),(41,me9),(2,A5i),(3,A5t),(4,A6k),(5,A6q),(6,A6u),(8,A8g),(9,A8o),(10,A9f),(11,B0a),(12,B0j),(13,B1o),(15,B2m),(16,B2v),(7,B3t),(14,B4o),(42,B6b),(21,B7l),(33,B7w),(22,C0o),(23,C2f),(24,C2t),(25,C5q),(28,C7k)]
def C9u:Value:=ag [.func (.func 123) #[ag (B3 (⟨1,9999⟩:Spn))] #[],.func (.func 123) #[ag (B3 (⟨0,0⟩:Spn))] #[]]
def E3l:List (Int×Value):=[(17,me0),(18,me1),(19,me2),(20,me3),(26,me4),(27,me5),(35,me6),(38,me7),(40,me8),(41,me9),(2,A5i),(3,A5t),(4,A6k),(5,A6q),(6,A6u),(8,A8g),(9,A8o),(10,A9f),(11,B0a),(12,B0j),(13,B1o),(15,B2m),(16,B2v),(7,B3t),(14,B4o),(42,B6b),(21,B7l),(33,B7w),(22,C0o),(23,C2f),(24,C2t),(25,C5q),(28,C7k),(29,C9u)]
def D2s:Value:=ag [.func (.func 123) #[ag (B3 (⟨1,9999⟩:Spn))] #[],.func (.func 123) #[ag (B3 (⟨0,0⟩:Spn))] #[]]
def E2q:List (Int×Value):=[(17,me0),(18,me1),(19,me2),(20,me3),(26,me4),(27,me5),(35,me6),(38,me7),(40,me8),(41,me9),(2,A5i),(3,A5t),(4,A6k),(5,A6q),(6,A6u),(8,A8g),(9,A8o),(10,A9f),(11,B0a),(12,B0j),(13,B1o),(15,B2m),(16,B2v),(7,B3t),(14,B4o),(42,B6b),(21,B7l),(33,B7w),(22,C0o),(23,C2f),(24,C2t),(25,C5q),(28,C7k),(29,C9u),(30,D2s)]
def D4z:Value:=ag [.func (.func 123) #[ag (B3 (⟨1,9999⟩:Spn))] #[],.func (.func 123) #[ag (B3 (⟨0,0⟩:Spn))] #[]]
def E3g:List (Int×Value):=[(17,me0),(18,me1),(19,me2),(20,me3),(26,me4),(27,me5),(35,me6),(38,me7),(40,me8),(41,me9),(2,A5i),(3,A5t),(4,A6k),(5,A6q),(6,A6u),(8,A8g),(9,A8o),(10,A9f),(11,B0a),(12,B0j),(13,B1o),(15,B2m),(16,B2v),(7,B3t),(14,B4o),(42,B6b),(21,B7l),(33,B7w),(22,C0o),(23,C2f),(24,C2t),(25,C5q),(28,C7k),(29,C9u),(30,D2s),(31,D4z)]
def D8b:Value:=ag [.func (.func 123) #[ag (B3 (⟨1,9999⟩:Spn))] #[],.func (.func 123) #[ag (B3 (⟨0,0⟩:Spn))] #[]]
def E4q:List (Int×Value):=[(17,me0),(18,me1),(19,me2),(20,me3),(26,me4),(27,me5),(35,me6),(38,me7),(40,me8),(41,me9),(2,A5i),(3,A5t),(4,A6k),(5,A6q),(6,A6u),(8,A8g),(9,A8o),(10,A9f),(11,B0a),(12,B0j),(13,B1o),(15,B2m),(16,B2v),(7,B3t),(14,B4o),(42,B6b),(21,B7l),(33,B7w),(22,C0o),(23,C2f),(24,C2t),(25,C5q),(28,C7k),(29,C9u),(30,D2s),(31,D4z),(32,D8b)]
def E1h:Value:=ag [.func (.func 123) #[ag (B3 (⟨1,9999⟩:Spn))] #[],.func (.func 123) #[ag (B3 (⟨0,0⟩:Spn))] #[]]
def E4o:List (Int×Value):=[(17,me0),(18,me1),(19,me2),(20,me3),(26,me4),(27,me5),(35,me6),(38,me7),(40,me8),(41,me9),(2,A5i),(3,A5t),(4,A6k),(5,A6q),(6,A6u),(8,A8g),(9,A8o),(10,A9f),(11,B0a),(12,B0j),(13,B1o),(15,B2m),(16,B2v),(7,B3t),(14,B4o),(42,B6b),(21,B7l),(33,B7w),(22,C0o),(23,C2f),(24,C2t),(25,C5q),(28,C7k),(29,C9u),(30,D2s),(31,D4z),(32,D8b),(34,E1h)]
def E4g:Value:=ag [.func (.func 123) #[ag (B3 (⟨0,9999⟩:Spn))] #[],.func (.func 123) #[ag (B3 (⟨0,1⟩:Spn))] #[]]
def E3e:List (Int×Value):=[(17,me0),(18,me1),(19,me2),(20,me3),(26,me4),(27,me5),(35,me6),(38,me7),(40,me8),(41,me9),(2,A5i),(3,A5t),(4,A6k),(5,A6q),(6,A6u),(8,A8g),(9,A8o),(10,A9f),(11,B0a),(12,B0j),(13,B1o),(15,B2m),(16,B2v),(7,B3t),(14,B4o),(42,B6b),(21,B7l),(33,B7w),(22,C0o),(23,C2f),(24,C2t),(25,C5q),(28,C7k),(29,C9u),(30,D2s),(31,D4z),(32,D8b),(34,E1h),(36,E4g)]
def E5n:Value:=ag [.func (.func 123) #[ag (B3 (⟨0,9999⟩:Spn))] #[],.func (.func 123) #[ag (B3 (⟨0,1⟩:Spn))] #[]]
def E3n:List (Int×Value):=[(17,me0),(18,me1),(19,me2),(20,me3),(26,me4),(27,me5),(35,me6),(38,me7),(40,me8),(41,me9),(2,A5i),(3,A5t),(4,A6k),(5,A6q),(6,A6u),(8,A8g),(9,A8o),(10,A9f),(11,B0a),(12,B0j),(13,B1o),(15,B2m),(16,B2v),(7,B3t),(14,B4o),(42,B6b),(21,B7l),(33,B7w),(22,C0o),(23,C2f),(24,C2t),(25,C5q),(28,C7k),(29,C9u),(30,D2s),(31,D4z),(32,D8b),(34,E1h),(36,E4g),(37,E5n)]
def E7m:Value:=ag [.func (.func 123) #[ag (B3 (⟨0,9999⟩:Spn))] #[],.func (.func 123) #[ag (B3 (⟨0,1⟩:Spn))] #[]]
def C7z:List (Int×Value):=[(17,me0),(18,me1),(19,me2),(20,me3),(26,me4),(27,me5),(35,me6),(38,me7),(40,me8),(41,me9),(2,A5i),(3,A5t),(4,A6k),(5,A6q),(6,A6u),(8,A8g),(9,A8o),(10,A9f),(11,B0a),(12,B0j),(13,B1o),(15,B2m),(16,B2v),(7,B3t),(14,B4o),(42,B6b),(21,B7l),(33,B7w),(22,C0o),(23,C2f),(24,C2t),(25,C5q),(28,C7k),(29,C9u),(30,D2s),(31,D4z),(32,D8b),(34,E1h),(36,E4g),(37,E5n),(43,E7m)]
def B4j:Unit :=
 ()
set_option maxHeartbeats 2000000 in
theorem Z3 (R:Unit) (hR:B4j=R):Con Tryz.prog 66 [] [] [] (Nat) (fun x=>.map (some x)) (fun x=>[(x,.map (A9 C7z 0).toArray 41)]) (fun x=>[]):=by
 refine zco Tryz.func66 [] fun X hX hr hD=>?_
 replace hR:=(B4j.eq_1 ..).symm.trans hR
 refine sr 1 rfl (ip' 1 0 [] (ie (sr 10 rfl (zca (C1z _ rfl) fn0 (ip' 9 0 [(1,.func (.func 123) #[ag (B3 (⟨0,0⟩:Spn))] #[]),(2,.func (.func 123) #[ag (B3 (⟨0,1⟩:Spn))] #[]),(3,.func (.func 123) #[ag (B3 (⟨1,9999⟩:Spn))] #[]),(4,.func (.func 123) #[ag (B3 (⟨0,9999⟩:Spn))] #[])] (ie (sr 49 rfl (it rfl (B0q rfl) fun b1=>(zrl 4 44 [] [(26,ag [.func (.func 123) #[ag (B3 (⟨0,3⟩:Spn))] #[],.func (.func 123) #[ag (B3 (⟨0,1⟩:Spn))] #[]])] (it rfl (D5 (es:=#[]) (es':=(A9 mt0 0).toArray) K2 (.inl rfl) rfl rfl rfl 0 rfl (by kernel_rfl) (by kernel_rfl)) fun _=>?_))))))))))
 refine znl [(b1,.map (A9 mt0 0).toArray 1)] (zrl 4 39 [] [(30,ag [.func (.func 123) #[ag (B3 (⟨2,3⟩:Spn))] #[],.func (.func 123) #[ag (B3 (⟨0,0⟩:Spn))] #[]])] (it rfl (D5 (es:=(A9 mt0 0).toArray) (es':=(A9 mt1 0).toArray) K2 (.inl rfl) rfl rfl rfl 0 rfl (by kernel_rfl) (by kernel_rfl)) fun _=>?_))
 refine znl [(b1,.map (A9 mt1 0).toArray 2)] (zrl 3 35 [] [(33,ag [.func (.func 123) #[ag (B3 (⟨1,9999⟩:Spn))] #[],.func (.func 123) #[ag (B3 (⟨1,9999⟩:Spn))] #[]])] (it rfl (D5 (es:=(A9 mt1 0).toArray) (es':=(A9 mt2 0).toArray) K2 (.inl rfl) rfl rfl rfl 0 rfl (by kernel_rfl) (by kernel_rfl)) fun _=>?_))
 refine znl [(b1,.map (A9 mt2 0).toArray 3)] (zrl 4 30 [] [(37,ag [.func (.func 123) #[ag (B3 (⟨0,3⟩:Spn))] #[],.func (.func 123) #[ag (B3 (⟨1,9999⟩:Spn))] #[]])] (it rfl (D5 (es:=(A9 mt2 0).toArray) (es':=(A9 mt3 0).toArray) K2 (.inl rfl) rfl rfl rfl 0 rfl (by kernel_rfl) (by kernel_rfl)) fun _=>?_))
 refine znl [(b1,.map (A9 mt3 0).toArray 4)] (zrl 4 25 [] [(41,ag [.func (.func 123) #[ag (B3 (⟨0,3⟩:Spn))] #[],.func (.func 123) #[ag (B3 (⟨0,0⟩:Spn))] #[]])] (it rfl (D5 (es:=(A9 mt3 0).toArray) (es':=(A9 mt4 0).toArray) K2 (.inl rfl) rfl rfl rfl 0 rfl (by kernel_rfl) (by kernel_rfl)) fun _=>?_))
 refine znl [(b1,.map (A9 mt4 0).toArray 5)] (zrl 4 20 [] [(45,ag [.func (.func 123) #[ag (B3 (⟨0,2⟩:Spn))] #[],.func (.func 123) #[ag (B3 (⟨0,0⟩:Spn))] #[]])] (it rfl (D5 (es:=(A9 mt4 0).toArray) (es':=(A9 mt5 0).toArray) K2 (.inl rfl) rfl rfl rfl 0 rfl (by kernel_rfl) (by kernel_rfl)) fun _=>?_))
 refine znl [(b1,.map (A9 mt5 0).toArray 6)] (zrl 2 17 [] [(47,ag [.func (.func 124) #[] #[],.func (.func 123) #[ag (B3 (⟨0,0⟩:Spn))] #[]])] (it rfl (D5 (es:=(A9 mt5 0).toArray) (es':=(A9 mt6 0).toArray) K2 (.inl rfl) rfl rfl rfl 0 rfl (by kernel_rfl) (by kernel_rfl)) fun _=>?_))
 refine znl [(b1,.map (A9 mt6 0).toArray 7)] (zrl 3 13 [] [(50,ag [.func (.func 123) #[ag (B3 (⟨0,9999⟩:Spn))] #[],.func (.func 123) #[ag (B3 (⟨0,9999⟩:Spn))] #[]])] (it rfl (D5 (es:=(A9 mt6 0).toArray) (es':=(A9 mt7 0).toArray) K2 (.inl rfl) rfl rfl rfl 0 rfl (by kernel_rfl) (by kernel_rfl)) fun _=>?_))
 refine znl [(b1,.map (A9 mt7 0).toArray 8)] (zrl 4 8 [] [(54,ag [.func (.func 123) #[ag (B3 (⟨0,6⟩:Spn))] #[],.func (.func 123) #[ag (B3 (⟨0,0⟩:Spn))] #[]])] (it rfl (D5 (es:=(A9 mt7 0).toArray) (es':=(A9 mt8 0).toArray) K2 (.inl rfl) rfl rfl rfl 0 rfl (by kernel_rfl) (by kernel_rfl)) fun _=>?_))
 refine znl [(b1,.map (A9 mt8 0).toArray 9)] (zrl 4 3 [] [(58,ag [.func (.func 123) #[ag (B3 (⟨5,6⟩:Spn))] #[],.func (.func 123) #[ag (B3 (⟨0,0⟩:Spn))] #[]])] (it rfl (D5 (es:=(A9 mt8 0).toArray) (es':=(A9 mt9 0).toArray) K2 (.inl rfl) rfl rfl rfl 0 rfl (by kernel_rfl) (by kernel_rfl)) fun _=>?_))
 refine znl [(b1,.map (A9 mt9 0).toArray 10)] (ip' 2 0 [(5,.map (some b1))] (ie (A8 (sr 2 rfl (zrl 2 0 [] [(60,ag [iv 2,iv 3,iv 4,iv 5,iv 6,iv 8,iv 9,iv 10,iv 11,iv 12,iv 13,iv 15,iv 16]),(61,iv 0)] (ie (B4 (Z8 15 ?_))))))))
 refine D7 (sr 1 rfl (ip' 1 0 [(62,bv true)] ?_))
 refine ie (A8 (K1 rfl (B1 (nx (A8 (B4 (sr 2 rfl (ix rfl (D8 (v:=iv 2) (us:=[iv 2]) Tryz.underlying204 ty3 rfl rfl rfl 0 rfl (by decide) rfl rfl rfl) (ip' 1 0 [(7,iv 2)] (ie (A5 6 rfl (zrl 5 1 [] [(64,.map (some b1)),(65,iv 2),(68,ag [.func (.func 123) #[ag (B3 (⟨0,0⟩:Spn))] #[],.func (.func 123) #[ag (B3 (⟨0,0⟩:Spn))] #[]])] (it rfl (D5 (es:=(A9 mt9 0).toArray) (es':=(A9 E3s 0).toArray) K2 (.inr rfl) rfl rfl rfl 0 rfl (by kernel_rfl) (by kernel_rfl)) fun _=>?_)))))))))))))
 refine znl [(b1,.map (A9 E3s 0).toArray 11)] (A7 (nx (A5 2 rfl (ix rfl (B7 (c:=1) rfl rfl rfl rfl (by decide)) (ip' 1 0 [(61,iv 1)] (A7 (D7 (sr 1 rfl (ip' 1 0 [(62,bv true)] (ie (A8 (K1 rfl (B1 (nx (A8 (B4 (sr 2 rfl (ix rfl (D8 (v:=iv 3) (us:=[iv 3]) Tryz.underlying204 ty3 rfl rfl rfl 1 rfl (by decide) rfl rfl rfl) (ip' 1 0 [(7,iv 3)] (ie (A5 6 rfl (zrl 5 1 [] [(64,.map (some b1)),(65,iv 3),(68,ag [.func (.func 123) #[ag (B3 (⟨0,0⟩:Spn))] #[],.func (.func 123) #[ag (B3 (⟨0,0⟩:Spn))] #[]])] ?_))))))))))))))))))))))
 refine it rfl (D5 (es:=(A9 E3s 0).toArray) (es':=(A9 E4b 0).toArray) K2 (.inr rfl) rfl rfl rfl 0 rfl (by kernel_rfl) (by kernel_rfl)) fun _=>?_
 refine znl [(b1,.map (A9 E4b 0).toArray 12)] (A7 (nx (A5 2 rfl (ix rfl (B7 (c:=2) rfl rfl rfl rfl (by decide)) (ip' 1 0 [(61,iv 2)] (A7 (D7 (sr 1 rfl (ip' 1 0 [(62,bv true)] (ie (A8 (K1 rfl (B1 (nx (A8 (B4 (sr 2 rfl (ix rfl (D8 (v:=iv 4) (us:=[iv 4]) Tryz.underlying204 ty3 rfl rfl rfl 2 rfl (by decide) rfl rfl rfl) (ip' 1 0 [(7,iv 4)] (ie (A5 6 rfl (zrl 5 1 [] [(64,.map (some b1)),(65,iv 4),(68,ag [.func (.func 123) #[ag (B3 (⟨0,0⟩:Spn))] #[],.func (.func 123) #[ag (B3 (⟨0,0⟩:Spn))] #[]])] ?_))))))))))))))))))))))
 refine it rfl (D5 (es:=(A9 E4b 0).toArray) (es':=(A9 E4a 0).toArray) K2 (.inr rfl) rfl rfl rfl 0 rfl (by kernel_rfl) (by kernel_rfl)) fun _=>?_
 refine znl [(b1,.map (A9 E4a 0).toArray 13)] (A7 (nx (A5 2 rfl (ix rfl (B7 (c:=3) rfl rfl rfl rfl (by decide)) (ip' 1 0 [(61,iv 3)] (A7 (D7 (sr 1 rfl (ip' 1 0 [(62,bv true)] (ie (A8 (K1 rfl (B1 (nx (A8 (B4 (sr 2 rfl (ix rfl (D8 (v:=iv 5) (us:=[iv 5]) Tryz.underlying204 ty3 rfl rfl rfl 3 rfl (by decide) rfl rfl rfl) (ip' 1 0 [(7,iv 5)] (ie (A5 6 rfl (zrl 5 1 [] [(64,.map (some b1)),(65,iv 5),(68,ag [.func (.func 123) #[ag (B3 (⟨0,0⟩:Spn))] #[],.func (.func 123) #[ag (B3 (⟨0,0⟩:Spn))] #[]])] ?_))))))))))))))))))))))
 refine it rfl (D5 (es:=(A9 E4a 0).toArray) (es':=(A9 E3x 0).toArray) K2 (.inr rfl) rfl rfl rfl 0 rfl (by kernel_rfl) (by kernel_rfl)) fun _=>?_
 refine znl [(b1,.map (A9 E3x 0).toArray 14)] (A7 (nx (A5 2 rfl (ix rfl (B7 (c:=4) rfl rfl rfl rfl (by decide)) (ip' 1 0 [(61,iv 4)] (A7 (D7 (sr 1 rfl (ip' 1 0 [(62,bv true)] (ie (A8 (K1 rfl (B1 (nx (A8 (B4 (sr 2 rfl (ix rfl (D8 (v:=iv 6) (us:=[iv 6]) Tryz.underlying204 ty3 rfl rfl rfl 4 rfl (by decide) rfl rfl rfl) (ip' 1 0 [(7,iv 6)] (ie (A5 6 rfl (zrl 5 1 [] [(64,.map (some b1)),(65,iv 6),(68,ag [.func (.func 123) #[ag (B3 (⟨0,0⟩:Spn))] #[],.func (.func 123) #[ag (B3 (⟨0,0⟩:Spn))] #[]])] ?_))))))))))))))))))))))
 refine it rfl (D5 (es:=(A9 E3x 0).toArray) (es':=(A9 E3a 0).toArray) K2 (.inr rfl) rfl rfl rfl 0 rfl (by kernel_rfl) (by kernel_rfl)) fun _=>?_
 refine znl [(b1,.map (A9 E3a 0).toArray 15)] (A7 (nx (A5 2 rfl (ix rfl (B7 (c:=5) rfl rfl rfl rfl (by decide)) (ip' 1 0 [(61,iv 5)] (A7 (D7 (sr 1 rfl (ip' 1 0 [(62,bv true)] (ie (A8 (K1 rfl (B1 (nx (A8 (B4 (sr 2 rfl (ix rfl (D8 (v:=iv 8) (us:=[iv 8]) Tryz.underlying204 ty3 rfl rfl rfl 5 rfl (by decide) rfl rfl rfl) (ip' 1 0 [(7,iv 8)] (ie (A5 6 rfl (zrl 5 1 [] [(64,.map (some b1)),(65,iv 8),(68,ag [.func (.func 123) #[ag (B3 (⟨0,0⟩:Spn))] #[],.func (.func 123) #[ag (B3 (⟨0,0⟩:Spn))] #[]])] ?_))))))))))))))))))))))
 refine it rfl (D5 (es:=(A9 E3a 0).toArray) (es':=(A9 E2t 0).toArray) K2 (.inr rfl) rfl rfl rfl 0 rfl (by kernel_rfl) (by kernel_rfl)) fun _=>?_
 refine znl [(b1,.map (A9 E2t 0).toArray 16)] (A7 (nx (A5 2 rfl (ix rfl (B7 (c:=6) rfl rfl rfl rfl (by decide)) (ip' 1 0 [(61,iv 6)] (A7 (D7 (sr 1 rfl (ip' 1 0 [(62,bv true)] (ie (A8 (K1 rfl (B1 (nx (A8 (B4 (sr 2 rfl (ix rfl (D8 (v:=iv 9) (us:=[iv 9]) Tryz.underlying204 ty3 rfl rfl rfl 6 rfl (by decide) rfl rfl rfl) (ip' 1 0 [(7,iv 9)] (ie (A5 6 rfl (zrl 5 1 [] [(64,.map (some b1)),(65,iv 9),(68,ag [.func (.func 123) #[ag (B3 (⟨0,0⟩:Spn))] #[],.func (.func 123) #[ag (B3 (⟨0,0⟩:Spn))] #[]])] ?_))))))))))))))))))))))
 refine it rfl (D5 (es:=(A9 E2t 0).toArray) (es':=(A9 E4x 0).toArray) K2 (.inr rfl) rfl rfl rfl 0 rfl (by kernel_rfl) (by kernel_rfl)) fun _=>?_
 refine znl [(b1,.map (A9 E4x 0).toArray 17)] (A7 (nx (A5 2 rfl (ix rfl (B7 (c:=7) rfl rfl rfl rfl (by decide)) (ip' 1 0 [(61,iv 7)] (A7 (D7 (sr 1 rfl (ip' 1 0 [(62,bv true)] (ie (A8 (K1 rfl (B1 (nx (A8 (B4 (sr 2 rfl (ix rfl (D8 (v:=iv 10) (us:=[iv 10]) Tryz.underlying204 ty3 rfl rfl rfl 7 rfl (by decide) rfl rfl rfl) (ip' 1 0 [(7,iv 10)] (ie (A5 6 rfl (zrl 5 1 [] [(64,.map (some b1)),(65,iv 10),(68,ag [.func (.func 123) #[ag (B3 (⟨0,0⟩:Spn))] #[],.func (.func 123) #[ag (B3 (⟨0,0⟩:Spn))] #[]])] ?_))))))))))))))))))))))
 refine it rfl (D5 (es:=(A9 E4x 0).toArray) (es':=(A9 E3t 0).toArray) K2 (.inr rfl) rfl rfl rfl 0 rfl (by kernel_rfl) (by kernel_rfl)) fun _=>?_
 refine znl [(b1,.map (A9 E3t 0).toArray 18)] (A7 (nx (A5 2 rfl (ix rfl (B7 (c:=8) rfl rfl rfl rfl (by decide)) (ip' 1 0 [(61,iv 8)] (A7 (D7 (sr 1 rfl (ip' 1 0 [(62,bv true)] (ie (A8 (K1 rfl (B1 (nx (A8 (B4 (sr 2 rfl (ix rfl (D8 (v:=iv 11) (us:=[iv 11]) Tryz.underlying204 ty3 rfl rfl rfl 8 rfl (by decide) rfl rfl rfl) (ip' 1 0 [(7,iv 11)] (ie (A5 6 rfl (zrl 5 1 [] [(64,.map (some b1)),(65,iv 11),(68,ag [.func (.func 123) #[ag (B3 (⟨0,0⟩:Spn))] #[],.func (.func 123) #[ag (B3 (⟨0,0⟩:Spn))] #[]])] ?_))))))))))))))))))))))
 refine it rfl (D5 (es:=(A9 E3t 0).toArray) (es':=(A9 E3z 0).toArray) K2 (.inr rfl) rfl rfl rfl 0 rfl (by kernel_rfl) (by kernel_rfl)) fun _=>?_
 refine znl [(b1,.map (A9 E3z 0).toArray 19)] (A7 (nx (A5 2 rfl (ix rfl (B7 (c:=9) rfl rfl rfl rfl (by decide)) (ip' 1 0 [(61,iv 9)] (A7 (D7 (sr 1 rfl (ip' 1 0 [(62,bv true)] (ie (A8 (K1 rfl (B1 (nx (A8 (B4 (sr 2 rfl (ix rfl (D8 (v:=iv 12) (us:=[iv 12]) Tryz.underlying204 ty3 rfl rfl rfl 9 rfl (by decide) rfl rfl rfl) (ip' 1 0 [(7,iv 12)] (ie (A5 6 rfl (zrl 5 1 [] [(64,.map (some b1)),(65,iv 12),(68,ag [.func (.func 123) #[ag (B3 (⟨0,0⟩:Spn))] #[],.func (.func 123) #[ag (B3 (⟨0,0⟩:Spn))] #[]])] ?_))))))))))))))))))))))
 refine it rfl (D5 (es:=(A9 E3z 0).toArray) (es':=(A9 E3d 0).toArray) K2 (.inr rfl) rfl rfl rfl 0 rfl (by kernel_rfl) (by kernel_rfl)) fun _=>?_
 refine znl [(b1,.map (A9 E3d 0).toArray 20)] (A7 (nx (A5 2 rfl (ix rfl (B7 (c:=10) rfl rfl rfl rfl (by decide)) (ip' 1 0 [(61,iv 10)] (A7 (D7 (sr 1 rfl (ip' 1 0 [(62,bv true)] (ie (A8 (K1 rfl (B1 (nx (A8 (B4 (sr 2 rfl (ix rfl (D8 (v:=iv 13) (us:=[iv 13]) Tryz.underlying204 ty3 rfl rfl rfl 10 rfl (by decide) rfl rfl rfl) (ip' 1 0 [(7,iv 13)] (ie (A5 6 rfl (zrl 5 1 [] [(64,.map (some b1)),(65,iv 13),(68,ag [.func (.func 123) #[ag (B3 (⟨0,0⟩:Spn))] #[],.func (.func 123) #[ag (B3 (⟨0,0⟩:Spn))] #[]])] ?_))))))))))))))))))))))
 refine it rfl (D5 (es:=(A9 E3d 0).toArray) (es':=(A9 E4w 0).toArray) K2 (.inr rfl) rfl rfl rfl 0 rfl (by kernel_rfl) (by kernel_rfl)) fun _=>?_
 refine znl [(b1,.map (A9 E4w 0).toArray 21)] (A7 (nx (A5 2 rfl (ix rfl (B7 (c:=11) rfl rfl rfl rfl (by decide)) (ip' 1 0 [(61,iv 11)] (A7 (D7 (sr 1 rfl (ip' 1 0 [(62,bv true)] (ie (A8 (K1 rfl (B1 (nx (A8 (B4 (sr 2 rfl (ix rfl (D8 (v:=iv 15) (us:=[iv 15]) Tryz.underlying204 ty3 rfl rfl rfl 11 rfl (by decide) rfl rfl rfl) (ip' 1 0 [(7,iv 15)] (ie (A5 6 rfl (zrl 5 1 [] [(64,.map (some b1)),(65,iv 15),(68,ag [.func (.func 123) #[ag (B3 (⟨0,0⟩:Spn))] #[],.func (.func 123) #[ag (B3 (⟨0,0⟩:Spn))] #[]])] ?_))))))))))))))))))))))
 refine it rfl (D5 (es:=(A9 E4w 0).toArray) (es':=(A9 E2m 0).toArray) K2 (.inr rfl) rfl rfl rfl 0 rfl (by kernel_rfl) (by kernel_rfl)) fun _=>?_
 refine znl [(b1,.map (A9 E2m 0).toArray 22)] (A7 (nx (A5 2 rfl (ix rfl (B7 (c:=12) rfl rfl rfl rfl (by decide)) (ip' 1 0 [(61,iv 12)] (A7 (D7 (sr 1 rfl (ip' 1 0 [(62,bv true)] (ie (A8 (K1 rfl (B1 (nx (A8 (B4 (sr 2 rfl (ix rfl (D8 (v:=iv 16) (us:=[iv 16]) Tryz.underlying204 ty3 rfl rfl rfl 12 rfl (by decide) rfl rfl rfl) (ip' 1 0 [(7,iv 16)] (ie (A5 6 rfl (zrl 5 1 [] [(64,.map (some b1)),(65,iv 16),(68,ag [.func (.func 123) #[ag (B3 (⟨0,0⟩:Spn))] #[],.func (.func 123) #[ag (B3 (⟨0,0⟩:Spn))] #[]])] ?_))))))))))))))))))))))
 refine it rfl (D5 (es:=(A9 E2m 0).toArray) (es':=(A9 E4i 0).toArray) K2 (.inr rfl) rfl rfl rfl 0 rfl (by kernel_rfl) (by kernel_rfl)) fun _=>?_
 refine znl [(b1,.map (A9 E4i 0).toArray 23)] (A7 (nx (A5 2 rfl (ix rfl (B7 (c:=13) rfl rfl rfl rfl (by decide)) (ip' 1 0 [(61,iv 13)] (A7 (D7 (sr 1 rfl (ip' 1 0 [(62,bv false)] (ie (A8 (A4y rfl (H7 (nx (A8 (sr 2 rfl (zrl 2 0 [] [(70,ag (C4y (⟨7,14,42⟩:Ar3))),(71,iv 0)] (ie (B4 (Z8 5 ?_))))))))))))))))))))
 refine D7 (sr 1 rfl (ip' 1 0 [(72,bv true)] ?_))
 refine ie (A8 (K1 rfl (B1 (nx (A8 (B4 (sr 2 rfl (ix rfl (D8 (v:=iv 7) (us:=[iv 7]) Tryz.underlying205 ty3 rfl rfl rfl 0 rfl (by decide) rfl rfl rfl) (ip' 1 0 [(9,iv 7)] (ie (A5 6 rfl (zrl 5 1 [] [(74,.map (some b1)),(75,iv 7),(78,ag [.func (.func 123) #[ag (B3 (⟨0,1⟩:Spn))] #[],.func (.func 123) #[ag (B3 (⟨0,0⟩:Spn))] #[]])] (it rfl (D5 (es:=(A9 E4i 0).toArray) (es':=(A9 E2i 0).toArray) K2 (.inr rfl) rfl rfl rfl 0 rfl (by kernel_rfl) (by kernel_rfl)) fun _=>?_)))))))))))))
 refine znl [(b1,.map (A9 E2i 0).toArray 24)] (A7 (nx (A5 2 rfl (ix rfl (B7 (c:=1) rfl rfl rfl rfl (by decide)) (ip' 1 0 [(71,iv 1)] (A7 (D7 (sr 1 rfl (ip' 1 0 [(72,bv true)] (ie (A8 (K1 rfl (B1 (nx (A8 (B4 (sr 2 rfl (ix rfl (D8 (v:=iv 14) (us:=[iv 14]) Tryz.underlying205 ty3 rfl rfl rfl 1 rfl (by decide) rfl rfl rfl) (ip' 1 0 [(9,iv 14)] (ie (A5 6 rfl (zrl 5 1 [] [(74,.map (some b1)),(75,iv 14),(78,ag [.func (.func 123) #[ag (B3 (⟨0,1⟩:Spn))] #[],.func (.func 123) #[ag (B3 (⟨0,0⟩:Spn))] #[]])] ?_))))))))))))))))))))))
 refine it rfl (D5 (es:=(A9 E2i 0).toArray) (es':=(A9 E4z 0).toArray) K2 (.inr rfl) rfl rfl rfl 0 rfl (by kernel_rfl) (by kernel_rfl)) fun _=>?_
 refine znl [(b1,.map (A9 E4z 0).toArray 25)] (A7 (nx (A5 2 rfl (ix rfl (B7 (c:=2) rfl rfl rfl rfl (by decide)) (ip' 1 0 [(71,iv 2)] (A7 (D7 (sr 1 rfl (ip' 1 0 [(72,bv true)] (ie (A8 (K1 rfl (B1 (nx (A8 (B4 (sr 2 rfl (ix rfl (D8 (v:=iv 42) (us:=[iv 42]) Tryz.underlying205 ty3 rfl rfl rfl 2 rfl (by decide) rfl rfl rfl) (ip' 1 0 [(9,iv 42)] (ie (A5 6 rfl (zrl 5 1 [] [(74,.map (some b1)),(75,iv 42),(78,ag [.func (.func 123) #[ag (B3 (⟨0,1⟩:Spn))] #[],.func (.func 123) #[ag (B3 (⟨0,0⟩:Spn))] #[]])] ?_))))))))))))))))))))))
 refine it rfl (D5 (es:=(A9 E4z 0).toArray) (es':=(A9 E3r 0).toArray) K2 (.inr rfl) rfl rfl rfl 0 rfl (by kernel_rfl) (by kernel_rfl)) fun _=>?_
 refine znl [(b1,.map (A9 E3r 0).toArray 26)] (A7 (nx (A5 2 rfl (ix rfl (B7 (c:=3) rfl rfl rfl rfl (by decide)) (ip' 1 0 [(71,iv 3)] (A7 (D7 (sr 1 rfl (ip' 1 0 [(72,bv false)] (ie (A8 (A4y rfl (H7 (nx (A8 (sr 2 rfl (zrl 2 0 [] [(80,ag (B2r (⟨21,33⟩:Ar2))),(81,iv 0)] (ie (B4 (Z8 4 ?_))))))))))))))))))))
 refine D7 (sr 1 rfl (ip' 1 0 [(82,bv true)] ?_))
 refine ie (A8 (K1 rfl (B1 (nx (A8 (B4 (sr 2 rfl (ix rfl (D8 (v:=iv 21) (us:=[iv 21]) Tryz.underlying71 ty3 rfl rfl rfl 0 rfl (by decide) rfl rfl rfl) (ip' 1 0 [(11,iv 21)] (ie (A5 6 rfl (zrl 5 1 [] [(84,.map (some b1)),(85,iv 21),(88,ag [.func (.func 123) #[ag (B3 (⟨0,1⟩:Spn))] #[],.func (.func 123) #[ag (B3 (⟨1,9999⟩:Spn))] #[]])] (it rfl (D5 (es:=(A9 E3r 0).toArray) (es':=(A9 E4h 0).toArray) K2 (.inr rfl) rfl rfl rfl 0 rfl (by kernel_rfl) (by kernel_rfl)) fun _=>?_)))))))))))))
 refine znl [(b1,.map (A9 E4h 0).toArray 27)] (A7 (nx (A5 2 rfl (ix rfl (B7 (c:=1) rfl rfl rfl rfl (by decide)) (ip' 1 0 [(81,iv 1)] (A7 (D7 (sr 1 rfl (ip' 1 0 [(82,bv true)] (ie (A8 (K1 rfl (B1 (nx (A8 (B4 (sr 2 rfl (ix rfl (D8 (v:=iv 33) (us:=[iv 33]) Tryz.underlying71 ty3 rfl rfl rfl 1 rfl (by decide) rfl rfl rfl) (ip' 1 0 [(11,iv 33)] (ie (A5 6 rfl (zrl 5 1 [] [(84,.map (some b1)),(85,iv 33),(88,ag [.func (.func 123) #[ag (B3 (⟨0,1⟩:Spn))] #[],.func (.func 123) #[ag (B3 (⟨1,9999⟩:Spn))] #[]])] ?_))))))))))))))))))))))
 refine it rfl (D5 (es:=(A9 E4h 0).toArray) (es':=(A9 E4e 0).toArray) K2 (.inr rfl) rfl rfl rfl 0 rfl (by kernel_rfl) (by kernel_rfl)) fun _=>?_
 refine znl [(b1,.map (A9 E4e 0).toArray 28)] (A7 (nx (A5 2 rfl (ix rfl (B7 (c:=2) rfl rfl rfl rfl (by decide)) (ip' 1 0 [(81,iv 2)] (A7 (D7 (sr 1 rfl (ip' 1 0 [(82,bv false)] (ie (A8 (A4y rfl (H7 (nx (A8 (sr 2 rfl (zrl 2 0 [] [(90,ag [iv 22,iv 23,iv 24,iv 25,iv 28,iv 29,iv 30,iv 31,iv 32,iv 34]),(91,iv 0)] (ie (B4 (Z8 12 ?_))))))))))))))))))))
 refine D7 (sr 1 rfl (ip' 1 0 [(92,bv true)] ?_))
 refine ie (A8 (K1 rfl (B1 (nx (A8 (B4 (sr 2 rfl (ix rfl (D8 (v:=iv 22) (us:=[iv 22]) Tryz.underlying206 ty3 rfl rfl rfl 0 rfl (by decide) rfl rfl rfl) (ip' 1 0 [(13,iv 22)] (ie (A5 6 rfl (zrl 5 1 [] [(94,.map (some b1)),(95,iv 22),(98,ag [.func (.func 123) #[ag (B3 (⟨1,9999⟩:Spn))] #[],.func (.func 123) #[ag (B3 (⟨0,0⟩:Spn))] #[]])] (it rfl (D5 (es:=(A9 E4e 0).toArray) (es':=(A9 E3o 0).toArray) K2 (.inr rfl) rfl rfl rfl 0 rfl (by kernel_rfl) (by kernel_rfl)) fun _=>?_)))))))))))))
 refine znl [(b1,.map (A9 E3o 0).toArray 29)] (A7 (nx (A5 2 rfl (ix rfl (B7 (c:=1) rfl rfl rfl rfl (by decide)) (ip' 1 0 [(91,iv 1)] (A7 (D7 (sr 1 rfl (ip' 1 0 [(92,bv true)] (ie (A8 (K1 rfl (B1 (nx (A8 (B4 (sr 2 rfl (ix rfl (D8 (v:=iv 23) (us:=[iv 23]) Tryz.underlying206 ty3 rfl rfl rfl 1 rfl (by decide) rfl rfl rfl) (ip' 1 0 [(13,iv 23)] (ie (A5 6 rfl (zrl 5 1 [] [(94,.map (some b1)),(95,iv 23),(98,ag [.func (.func 123) #[ag (B3 (⟨1,9999⟩:Spn))] #[],.func (.func 123) #[ag (B3 (⟨0,0⟩:Spn))] #[]])] ?_))))))))))))))))))))))
 refine it rfl (D5 (es:=(A9 E3o 0).toArray) (es':=(A9 E3y 0).toArray) K2 (.inr rfl) rfl rfl rfl 0 rfl (by kernel_rfl) (by kernel_rfl)) fun _=>?_
 refine znl [(b1,.map (A9 E3y 0).toArray 30)] (A7 (nx (A5 2 rfl (ix rfl (B7 (c:=2) rfl rfl rfl rfl (by decide)) (ip' 1 0 [(91,iv 2)] (A7 (D7 (sr 1 rfl (ip' 1 0 [(92,bv true)] (ie (A8 (K1 rfl (B1 (nx (A8 (B4 (sr 2 rfl (ix rfl (D8 (v:=iv 24) (us:=[iv 24]) Tryz.underlying206 ty3 rfl rfl rfl 2 rfl (by decide) rfl rfl rfl) (ip' 1 0 [(13,iv 24)] (ie (A5 6 rfl (zrl 5 1 [] [(94,.map (some b1)),(95,iv 24),(98,ag [.func (.func 123) #[ag (B3 (⟨1,9999⟩:Spn))] #[],.func (.func 123) #[ag (B3 (⟨0,0⟩:Spn))] #[]])] ?_))))))))))))))))))))))
 refine it rfl (D5 (es:=(A9 E3y 0).toArray) (es':=(A9 E2o 0).toArray) K2 (.inr rfl) rfl rfl rfl 0 rfl (by kernel_rfl) (by kernel_rfl)) fun _=>?_
 refine znl [(b1,.map (A9 E2o 0).toArray 31)] (A7 (nx (A5 2 rfl (ix rfl (B7 (c:=3) rfl rfl rfl rfl (by decide)) (ip' 1 0 [(91,iv 3)] (A7 (D7 (sr 1 rfl (ip' 1 0 [(92,bv true)] (ie (A8 (K1 rfl (B1 (nx (A8 (B4 (sr 2 rfl (ix rfl (D8 (v:=iv 25) (us:=[iv 25]) Tryz.underlying206 ty3 rfl rfl rfl 3 rfl (by decide) rfl rfl rfl) (ip' 1 0 [(13,iv 25)] (ie (A5 6 rfl (zrl 5 1 [] [(94,.map (some b1)),(95,iv 25),(98,ag [.func (.func 123) #[ag (B3 (⟨1,9999⟩:Spn))] #[],.func (.func 123) #[ag (B3 (⟨0,0⟩:Spn))] #[]])] ?_))))))))))))))))))))))
 refine it rfl (D5 (es:=(A9 E2o 0).toArray) (es':=(A9 E4m 0).toArray) K2 (.inr rfl) rfl rfl rfl 0 rfl (by kernel_rfl) (by kernel_rfl)) fun _=>?_
 refine znl [(b1,.map (A9 E4m 0).toArray 32)] (A7 (nx (A5 2 rfl (ix rfl (B7 (c:=4) rfl rfl rfl rfl (by decide)) (ip' 1 0 [(91,iv 4)] (A7 (D7 (sr 1 rfl (ip' 1 0 [(92,bv true)] (ie (A8 (K1 rfl (B1 (nx (A8 (B4 (sr 2 rfl (ix rfl (D8 (v:=iv 28) (us:=[iv 28]) Tryz.underlying206 ty3 rfl rfl rfl 4 rfl (by decide) rfl rfl rfl) (ip' 1 0 [(13,iv 28)] (ie (A5 6 rfl (zrl 5 1 [] [(94,.map (some b1)),(95,iv 28),(98,ag [.func (.func 123) #[ag (B3 (⟨1,9999⟩:Spn))] #[],.func (.func 123) #[ag (B3 (⟨0,0⟩:Spn))] #[]])] ?_))))))))))))))))))))))
 refine it rfl (D5 (es:=(A9 E4m 0).toArray) (es':=(A9 E2n 0).toArray) K2 (.inr rfl) rfl rfl rfl 0 rfl (by kernel_rfl) (by kernel_rfl)) fun _=>?_
 refine znl [(b1,.map (A9 E2n 0).toArray 33)] (A7 (nx (A5 2 rfl (ix rfl (B7 (c:=5) rfl rfl rfl rfl (by decide)) (ip' 1 0 [(91,iv 5)] (A7 (D7 (sr 1 rfl (ip' 1 0 [(92,bv true)] (ie (A8 (K1 rfl (B1 (nx (A8 (B4 (sr 2 rfl (ix rfl (D8 (v:=iv 29) (us:=[iv 29]) Tryz.underlying206 ty3 rfl rfl rfl 5 rfl (by decide) rfl rfl rfl) (ip' 1 0 [(13,iv 29)] (ie (A5 6 rfl (zrl 5 1 [] [(94,.map (some b1)),(95,iv 29),(98,ag [.func (.func 123) #[ag (B3 (⟨1,9999⟩:Spn))] #[],.func (.func 123) #[ag (B3 (⟨0,0⟩:Spn))] #[]])] ?_))))))))))))))))))))))
 refine it rfl (D5 (es:=(A9 E2n 0).toArray) (es':=(A9 E3l 0).toArray) K2 (.inr rfl) rfl rfl rfl 0 rfl (by kernel_rfl) (by kernel_rfl)) fun _=>?_
 refine znl [(b1,.map (A9 E3l 0).toArray 34)] (A7 (nx (A5 2 rfl (ix rfl (B7 (c:=6) rfl rfl rfl rfl (by decide)) (ip' 1 0 [(91,iv 6)] (A7 (D7 (sr 1 rfl (ip' 1 0 [(92,bv true)] (ie (A8 (K1 rfl (B1 (nx (A8 (B4 (sr 2 rfl (ix rfl (D8 (v:=iv 30) (us:=[iv 30]) Tryz.underlying206 ty3 rfl rfl rfl 6 rfl (by decide) rfl rfl rfl) (ip' 1 0 [(13,iv 30)] (ie (A5 6 rfl (zrl 5 1 [] [(94,.map (some b1)),(95,iv 30),(98,ag [.func (.func 123) #[ag (B3 (⟨1,9999⟩:Spn))] #[],.func (.func 123) #[ag (B3 (⟨0,0⟩:Spn))] #[]])] ?_))))))))))))))))))))))
 refine it rfl (D5 (es:=(A9 E3l 0).toArray) (es':=(A9 E2q 0).toArray) K2 (.inr rfl) rfl rfl rfl 0 rfl (by kernel_rfl) (by kernel_rfl)) fun _=>?_
 refine znl [(b1,.map (A9 E2q 0).toArray 35)] (A7 (nx (A5 2 rfl (ix rfl (B7 (c:=7) rfl rfl rfl rfl (by decide)) (ip' 1 0 [(91,iv 7)] (A7 (D7 (sr 1 rfl (ip' 1 0 [(92,bv true)] (ie (A8 (K1 rfl (B1 (nx (A8 (B4 (sr 2 rfl (ix rfl (D8 (v:=iv 31) (us:=[iv 31]) Tryz.underlying206 ty3 rfl rfl rfl 7 rfl (by decide) rfl rfl rfl) (ip' 1 0 [(13,iv 31)] (ie (A5 6 rfl (zrl 5 1 [] [(94,.map (some b1)),(95,iv 31),(98,ag [.func (.func 123) #[ag (B3 (⟨1,9999⟩:Spn))] #[],.func (.func 123) #[ag (B3 (⟨0,0⟩:Spn))] #[]])] ?_))))))))))))))))))))))
 refine it rfl (D5 (es:=(A9 E2q 0).toArray) (es':=(A9 E3g 0).toArray) K2 (.inr rfl) rfl rfl rfl 0 rfl (by kernel_rfl) (by kernel_rfl)) fun _=>?_
 refine znl [(b1,.map (A9 E3g 0).toArray 36)] (A7 (nx (A5 2 rfl (ix rfl (B7 (c:=8) rfl rfl rfl rfl (by decide)) (ip' 1 0 [(91,iv 8)] (A7 (D7 (sr 1 rfl (ip' 1 0 [(92,bv true)] (ie (A8 (K1 rfl (B1 (nx (A8 (B4 (sr 2 rfl (ix rfl (D8 (v:=iv 32) (us:=[iv 32]) Tryz.underlying206 ty3 rfl rfl rfl 8 rfl (by decide) rfl rfl rfl) (ip' 1 0 [(13,iv 32)] (ie (A5 6 rfl (zrl 5 1 [] [(94,.map (some b1)),(95,iv 32),(98,ag [.func (.func 123) #[ag (B3 (⟨1,9999⟩:Spn))] #[],.func (.func 123) #[ag (B3 (⟨0,0⟩:Spn))] #[]])] ?_))))))))))))))))))))))
 refine it rfl (D5 (es:=(A9 E3g 0).toArray) (es':=(A9 E4q 0).toArray) K2 (.inr rfl) rfl rfl rfl 0 rfl (by kernel_rfl) (by kernel_rfl)) fun _=>?_
 refine znl [(b1,.map (A9 E4q 0).toArray 37)] (A7 (nx (A5 2 rfl (ix rfl (B7 (c:=9) rfl rfl rfl rfl (by decide)) (ip' 1 0 [(91,iv 9)] (A7 (D7 (sr 1 rfl (ip' 1 0 [(92,bv true)] (ie (A8 (K1 rfl (B1 (nx (A8 (B4 (sr 2 rfl (ix rfl (D8 (v:=iv 34) (us:=[iv 34]) Tryz.underlying206 ty3 rfl rfl rfl 9 rfl (by decide) rfl rfl rfl) (ip' 1 0 [(13,iv 34)] (ie (A5 6 rfl (zrl 5 1 [] [(94,.map (some b1)),(95,iv 34),(98,ag [.func (.func 123) #[ag (B3 (⟨1,9999⟩:Spn))] #[],.func (.func 123) #[ag (B3 (⟨0,0⟩:Spn))] #[]])] ?_))))))))))))))))))))))
 refine it rfl (D5 (es:=(A9 E4q 0).toArray) (es':=(A9 E4o 0).toArray) K2 (.inr rfl) rfl rfl rfl 0 rfl (by kernel_rfl) (by kernel_rfl)) fun _=>?_
 refine znl [(b1,.map (A9 E4o 0).toArray 38)] (A7 (nx (A5 2 rfl (ix rfl (B7 (c:=10) rfl rfl rfl rfl (by decide)) (ip' 1 0 [(91,iv 10)] (A7 (D7 (sr 1 rfl (ip' 1 0 [(92,bv false)] (ie (A8 (A4y rfl (H7 (nx (A8 (sr 2 rfl (zrl 2 0 [] [(100,ag (C4y (⟨36,37,43⟩:Ar3))),(101,iv 0)] (ie (B4 (Z8 5 ?_))))))))))))))))))))
 refine D7 (sr 1 rfl (ip' 1 0 [(102,bv true)] ?_))
 refine ie (A8 (K1 rfl (B1 (nx (A8 (B4 (sr 2 rfl (ix rfl (D8 (v:=iv 36) (us:=[iv 36]) Tryz.underlying205 ty3 rfl rfl rfl 0 rfl (by decide) rfl rfl rfl) (ip' 1 0 [(15,iv 36)] (ie (A5 6 rfl (zrl 5 1 [] [(104,.map (some b1)),(105,iv 36),(108,ag [.func (.func 123) #[ag (B3 (⟨0,9999⟩:Spn))] #[],.func (.func 123) #[ag (B3 (⟨0,1⟩:Spn))] #[]])] (it rfl (D5 (es:=(A9 E4o 0).toArray) (es':=(A9 E3e 0).toArray) K2 (.inr rfl) rfl rfl rfl 0 rfl (by kernel_rfl) (by kernel_rfl)) fun _=>?_)))))))))))))
 refine znl [(b1,.map (A9 E3e 0).toArray 39)] (A7 (nx (A5 2 rfl (ix rfl (B7 (c:=1) rfl rfl rfl rfl (by decide)) (ip' 1 0 [(101,iv 1)] (A7 (D7 (sr 1 rfl (ip' 1 0 [(102,bv true)] (ie (A8 (K1 rfl (B1 (nx (A8 (B4 (sr 2 rfl (ix rfl (D8 (v:=iv 37) (us:=[iv 37]) Tryz.underlying205 ty3 rfl rfl rfl 1 rfl (by decide) rfl rfl rfl) (ip' 1 0 [(15,iv 37)] (ie (A5 6 rfl (zrl 5 1 [] [(104,.map (some b1)),(105,iv 37),(108,ag [.func (.func 123) #[ag (B3 (⟨0,9999⟩:Spn))] #[],.func (.func 123) #[ag (B3 (⟨0,1⟩:Spn))] #[]])] ?_))))))))))))))))))))))
 refine it rfl (D5 (es:=(A9 E3e 0).toArray) (es':=(A9 E3n 0).toArray) K2 (.inr rfl) rfl rfl rfl 0 rfl (by kernel_rfl) (by kernel_rfl)) fun _=>?_
 refine znl [(b1,.map (A9 E3n 0).toArray 40)] (A7 (nx (A5 2 rfl (ix rfl (B7 (c:=2) rfl rfl rfl rfl (by decide)) (ip' 1 0 [(101,iv 2)] (A7 (D7 (sr 1 rfl (ip' 1 0 [(102,bv true)] (ie (A8 (K1 rfl (B1 (nx (A8 (B4 (sr 2 rfl (ix rfl (D8 (v:=iv 43) (us:=[iv 43]) Tryz.underlying205 ty3 rfl rfl rfl 2 rfl (by decide) rfl rfl rfl) (ip' 1 0 [(15,iv 43)] (ie (A5 6 rfl (zrl 5 1 [] [(104,.map (some b1)),(105,iv 43),(108,ag [.func (.func 123) #[ag (B3 (⟨0,9999⟩:Spn))] #[],.func (.func 123) #[ag (B3 (⟨0,1⟩:Spn))] #[]])] ?_))))))))))))))))))))))
 refine it rfl (D5 (es:=(A9 E3n 0).toArray) (es':=(A9 C7z 0).toArray) K2 (.inr rfl) rfl rfl rfl 0 rfl (by kernel_rfl) (by kernel_rfl)) fun _=>?_
 refine znl [(b1,.map (A9 C7z 0).toArray 41)] (A7 (nx (A5 2 rfl (ix rfl (B7 (c:=3) rfl rfl rfl rfl (by decide)) (ip' 1 0 [(101,iv 3)] (A7 (D7 (sr 1 rfl (ip' 1 0 [(102,bv false)] (ie (A8 (A4y rfl (H7 (nx (sr 2 rfl (ip' 2 0 [(0,.map (some b1))] ?_))))))))))))))))
 subst hR
 refine ie (B5 ?_)
 exact zer hr hD (Q9 rfl (C1 rfl)) b1 (mk [true] rfl) fn0
def B3p:List (Int×Value):=[(17,ag [.func (.func 123) #[ag (B3 (⟨0,3⟩:Spn))] #[],.func (.func 123) #[ag (B3 (⟨0,1⟩:Spn))] #[]]),(18,ag [.func (.func 123) #[ag (B3 (⟨2,3⟩:Spn))] #[],.func (.func 123) #[ag (B3 (⟨0,0⟩:Spn))] #[]]),(19,ag [.func (.func 123) #[ag (B3 (⟨1,9999⟩:Spn))] #[],.func (.func 123) #[ag (B3 (⟨1,9999⟩:Spn))] #[]]),(20,ag [.func (.func 123) #[ag (B3 (⟨0,3⟩:Spn))] #[],.func (.func 123) #[ag (B3 (⟨1,9999⟩:Spn))] #[]]),(26,ag [.func (.func 123) #[ag (B3 (⟨0,3⟩:Spn))] #[],.func (.func 123) #[ag (B3 (⟨0,0⟩:Spn))] #[]]),(27,ag [.func (.func 123) #[ag (B3 (⟨0,2⟩:Spn))] #[],.func (.func 123) #[ag (B3 (⟨0,0⟩:Spn))] #[]]),(35,ag [.func (.func 124) #[] #[],.func (.func 123) #[ag (B3 (⟨0,0⟩:Spn))] #[]]),(38,ag [.func (.func 123) #[ag (B3 (⟨0,9999⟩:Spn))] #[],.func (.func 123) #[ag (B3 (⟨0,9999⟩:Spn))] #[]]),(40,ag [.func (.func 123) #[ag (B3 (⟨0,6⟩:Spn))] #[],.func (.func 123) #[ag (B3 (⟨0,0⟩:Spn))] #[]]),(41,ag [.func (.func 123) #[ag (B3 (⟨5,6⟩:Spn))] #[],.func (.func 123) #[ag (B3 (⟨0,0⟩:Spn))] #[]]),(2,ag [.func (.func 123) #[ag (B3 (⟨0,0⟩:Spn))] #[],.func (.func 123) #[ag (B3 (⟨0,0⟩:Spn))] #[]]),(3,ag [.func (.func 123) #[ag (B3 (⟨0,0⟩:Spn))] #[],.func (.func 123) #[ag (B3 (⟨0,0⟩:Spn))] #[]]),(4,ag [.func (.func 123) #[ag (B3 (⟨0,0⟩:Spn))] #[],.func (.func 123) #[ag (B3 (⟨0,0⟩:Spn))] #[]]),(5,ag [.func (.func 123) #[ag (B3 (⟨0,0⟩:Spn))] #[],.func (.func 123) #[ag (B3 (⟨0,0⟩:Spn))] #[]]),(6,ag [.func (.func 123) #[ag (B3 (⟨0,0⟩:Spn))] #[],.func (.func 123) #[ag (B3 (⟨0,0⟩:Spn))] #[]]),(8,ag [.func (.func 123) #[ag (B3 (⟨0,0⟩:Spn))] #[],.func (.func 123) #[ag (B3 (⟨0,0⟩:Spn))] #[]]),(9,ag [.func (.func 123) #[ag (B3 (⟨0,0⟩:Spn))] #[],.func (.func 123) #[ag (B3 (⟨0,0⟩:Spn))] #[]]),(10,ag [.func (.func 123) #[ag (B3 (⟨0,0⟩:Spn))] #[],.func (.func 123) #[ag (B3 (⟨0,0⟩:Spn))] #[]]),(11,ag [.func (.func 123) #[ag (B3 (⟨0,0⟩:Spn))] #[],.func (.func 123) #[ag (B3 (⟨0,0⟩:Spn))] #[]]),(12,ag [.func (.func 123) #[ag (B3 (⟨0,0⟩:Spn))] #[],.func (.func 123) #[ag (B3 (⟨0,0⟩:Spn))] #[]]),(13,ag [.func (.func 123) #[ag (B3 (⟨0,0⟩:Spn))] #[],.func (.func 123) #[ag (B3 (⟨0,0⟩:Spn))] #[]]),(15,ag [.func (.func 123) #[ag (B3 (⟨0,0⟩:Spn))] #[],.func (.func 123) #[ag (B3 (⟨0,0⟩:Spn))] #[]]),(16,ag [.func (.func 123) #[ag (B3 (⟨0,0⟩:Spn))] #[],.func (.func 123) #[ag (B3 (⟨0,0⟩:Spn))] #[]]),(7,ag [.func (.func 123) #[ag (B3 (⟨0,1⟩:Spn))] #[],.func (.func 123) #[ag (B3 (⟨0,0⟩:Spn))] #[]]),(14,ag [.func (.func 123) #[ag (B3 (⟨0,1⟩:Spn))] #[],.func (.func 123) #[ag (B3 (⟨0,0⟩:Spn))] #[]]),(42,ag [.func (.func 123) #[ag (B3 (⟨0,1⟩:Spn))] #[],.func (.func 123) #[ag (B3 (⟨0,0⟩:Spn))] #[]]),(21,ag [.func (.func 123) #[ag (B3 (⟨0,1⟩:Spn))] #[],.func (.func 123) #[ag (B3 (⟨1,9999⟩:Spn))] #[]]),(33,ag [.func (.func 123) #[ag (B3 (⟨0,1⟩:Spn))] #[],.func (.func 123) #[ag (B3 (⟨1,9999⟩:Spn))] #[]]),(22,ag [.func (.func 123) #[ag (B3 (⟨1,9999⟩:Spn))] #[],.func (.func 123) #[ag (B3 (⟨0,0⟩:Spn))] #[]]),(23,ag [.func (.func 123) #[ag (B3 (⟨1,9999⟩:Spn))] #[],.func (.func 123) #[ag (B3 (⟨0,0⟩:Spn))] #[]]),(24,ag [.func (.func 123) #[ag (B3 (⟨1,9999⟩:Spn))] #[],.func (.func 123) #[ag (B3 (⟨0,0⟩:Spn))] #[]]),(25,ag [.func (.func 123) #[ag (B3 (⟨1,9999⟩:Spn))] #[],.func (.func 123) #[ag (B3 (⟨0,0⟩:Spn))] #[]]),(28,ag [.func (.func 123) #[ag (B3 (⟨1,9999⟩:Spn))] #[],.func (.func 123) #[ag (B3 (⟨0,0⟩:Spn))] #[]]),(29,ag [.func (.func 123) #[ag (B3 (⟨1,9999⟩:Spn))] #[],.func (.func 123) #[ag (B3 (⟨0,0⟩:Spn))] #[]]),(30,ag [.func (.func 123) #[ag (B3 (⟨1,9999⟩:Spn))] #[],.func (.func 123) #[ag (B3 (⟨0,0⟩:Spn))] #[]]),(31,ag [.func (.func 123) #[ag (B3 (⟨1,9999⟩:Spn))] #[],.func (.func 123) #[ag (B3 (⟨0,0⟩:Spn))] #[]]),(32,ag [.func (.func 123) #[ag (B3 (⟨1,9999⟩:Spn))] #[],.func (.func 123) #[ag (B3 (⟨0,0⟩:Spn))] #[]]),(34,ag [.func (.func 123) #[ag (B3 (⟨1,9999⟩:Spn))] #[],.func (.func 123) #[ag (B3 (⟨0,0⟩:Spn))] #[]]),(36,ag [.func (.func 123) #[ag (B3 (⟨0,9999⟩:Spn))] #[],.func (.func 123) #[ag (B3 (⟨0,1⟩:Spn))] #[]]),(37,ag [.func (.func 123) #[ag (B3 (⟨0,9999⟩:Spn))] #[],.func (.func 123) #[ag (B3 (⟨0,1⟩:Spn))] #[]]),(43,ag [.func (.func 123) #[ag (B3 (⟨0,9999⟩:Spn))] #[],.func (.func 123) #[ag (B3 (⟨0,1⟩:Spn))] #[]])]
def B9:List (Int×Value):=[(17,.func (.func 123) #[ag (B3 (⟨0,3⟩:Spn))] #[]),(18,.func (.func 123) #[ag (B3 (⟨2,3⟩:Spn))] #[]),(19,.func (.func 123) #[ag (B3 (⟨1,9999⟩:Spn))] #[]),(20,.func (.func 123) #[ag (B3 (⟨0,3⟩:Spn))] #[]),(26,.func (.func 123) #[ag (B3 (⟨0,3⟩:Spn))] #[]),(27,.func (.func 123) #[ag (B3 (⟨0,2⟩:Spn))] #[]),(35,.func (.func 124) #[] #[]),(38,.func (.func 123) #[ag (B3 (⟨0,9999⟩:Spn))] #[]),(40,.func (.func 123) #[ag (B3 (⟨0,6⟩:Spn))] #[]),(41,.func (.func 123) #[ag (B3 (⟨5,6⟩:Spn))] #[]),(2,.func (.func 123) #[ag (B3 (⟨0,0⟩:Spn))] #[]),(3,.func (.func 123) #[ag (B3 (⟨0,0⟩:Spn))] #[]),(4,.func (.func 123) #[ag (B3 (⟨0,0⟩:Spn))] #[]),(5,.func (.func 123) #[ag (B3 (⟨0,0⟩:Spn))] #[]),(6,.func (.func 123) #[ag (B3 (⟨0,0⟩:Spn))] #[]),(8,.func (.func 123) #[ag (B3 (⟨0,0⟩:Spn))] #[]),(9,.func (.func 123) #[ag (B3 (⟨0,0⟩:Spn))] #[]),(10,.func (.func 123) #[ag (B3 (⟨0,0⟩:Spn))] #[]),(11,.func (.func 123) #[ag (B3 (⟨0,0⟩:Spn))] #[]),(12,.func (.func 123) #[ag (B3 (⟨0,0⟩:Spn))] #[]),(13,.func (.func 123) #[ag (B3 (⟨0,0⟩:Spn))] #[]),(15,.func (.func 123) #[ag (B3 (⟨0,0⟩:Spn))] #[]),(16,.func (.func 123) #[ag (B3 (⟨0,0⟩:Spn))] #[]),(7,.func (.func 123) #[ag (B3 (⟨0,1⟩:Spn))] #[]),(14,.func (.func 123) #[ag (B3 (⟨0,1⟩:Spn))] #[]),(42,.func (.func 123) #[ag (B3 (⟨0,1⟩:Spn))] #[]),(21,.func (.func 123) #[ag (B3 (⟨0,1⟩:Spn))] #[]),(33,.func (.func 123) #[ag (B3 (⟨0,1⟩:Spn))] #[]),(22,.func (.func 123) #[ag (B3 (⟨1,9999⟩:Spn))] #[]),(23,.func (.func 123) #[ag (B3 (⟨1,9999⟩:Spn))] #[]),(24,.func (.func 123) #[ag (B3 (⟨1,9999⟩:Spn))] #[]),(25,.func (.func 123) #[ag (B3 (⟨1,9999⟩:Spn))] #[]),(28,.func (.func 123) #[ag (B3 (⟨1,9999⟩:Spn))] #[]),(29,.func (.func 123) #[ag (B3 (⟨1,9999⟩:Spn))] #[]),(30,.func (.func 123) #[ag (B3 (⟨1,9999⟩:Spn))] #[]),(31,.func (.func 123) #[ag (B3 (⟨1,9999⟩:Spn))] #[]),(32,.func (.func 123) #[ag (B3 (⟨1,9999⟩:Spn))] #[]),(34,.func (.func 123) #[ag (B3 (⟨1,9999⟩:Spn))] #[]),(36,.func (.func 123) #[ag (B3 (⟨0,9999⟩:Spn))] #[]),(37,.func (.func 123) #[ag (B3 (⟨0,9999⟩:Spn))] #[]),(43,.func (.func 123) #[ag (B3 (⟨0,9999⟩:Spn))] #[])]
def J9:List (Int×Value):=[(17,.func (.func 123) #[ag (B3 (⟨0,1⟩:Spn))] #[]),(18,.func (.func 123) #[ag (B3 (⟨0,0⟩:Spn))] #[]),(19,.func (.func 123) #[ag (B3 (⟨1,9999⟩:Spn))] #[]),(20,.func (.func 123) #[ag (B3 (⟨1,9999⟩:Spn))] #[]),(26,.func (.func 123) #[ag (B3 (⟨0,0⟩:Spn))] #[]),(27,.func (.func 123) #[ag (B3 (⟨0,0⟩:Spn))] #[]),(35,.func (.func 123) #[ag (B3 (⟨0,0⟩:Spn))] #[]),(38,.func (.func 123) #[ag (B3 (⟨0,9999⟩:Spn))] #[]),(40,.func (.func 123) #[ag (B3 (⟨0,0⟩:Spn))] #[]),(41,.func (.func 123) #[ag (B3 (⟨0,0⟩:Spn))] #[]),(2,.func (.func 123) #[ag (B3 (⟨0,0⟩:Spn))] #[]),(3,.func (.func 123) #[ag (B3 (⟨0,0⟩:Spn))] #[]),(4,.func (.func 123) #[ag (B3 (⟨0,0⟩:Spn))] #[]),(5,.func (.func 123) #[ag (B3 (⟨0,0⟩:Spn))] #[]),(6,.func (.func 123) #[ag (B3 (⟨0,0⟩:Spn))] #[]),(8,.func (.func 123) #[ag (B3 (⟨0,0⟩:Spn))] #[]),(9,.func (.func 123) #[ag (B3 (⟨0,0⟩:Spn))] #[]),(10,.func (.func 123) #[ag (B3 (⟨0,0⟩:Spn))] #[]),(11,.func (.func 123) #[ag (B3 (⟨0,0⟩:Spn))] #[]),(12,.func (.func 123) #[ag (B3 (⟨0,0⟩:Spn))] #[]),(13,.func (.func 123) #[ag (B3 (⟨0,0⟩:Spn))] #[]),(15,.func (.func 123) #[ag (B3 (⟨0,0⟩:Spn))] #[]),(16,.func (.func 123) #[ag (B3 (⟨0,0⟩:Spn))] #[]),(7,.func (.func 123) #[ag (B3 (⟨0,0⟩:Spn))] #[]),(14,.func (.func 123) #[ag (B3 (⟨0,0⟩:Spn))] #[]),(42,.func (.func 123) #[ag (B3 (⟨0,0⟩:Spn))] #[]),(21,.func (.func 123) #[ag (B3 (⟨1,9999⟩:Spn))] #[]),(33,.func (.func 123) #[ag (B3 (⟨1,9999⟩:Spn))] #[]),(22,.func (.func 123) #[ag (B3 (⟨0,0⟩:Spn))] #[]),(23,.func (.func 123) #[ag (B3 (⟨0,0⟩:Spn))] #[]),(24,.func (.func 123) #[ag (B3 (⟨0,0⟩:Spn))] #[]),(25,.func (.func 123) #[ag (B3 (⟨0,0⟩:Spn))] #[]),(28,.func (.func 123) #[ag (B3 (⟨0,0⟩:Spn))] #[]),(29,.func (.func 123) #[ag (B3 (⟨0,0⟩:Spn))] #[]),(30,.func (.func 123) #[ag (B3 (⟨0,0⟩:Spn))] #[]),(31,.func (.func 123) #[ag (B3 (⟨0,0⟩:Spn))] #[]),(32,.func (.func 123) #[ag (B3 (⟨0,0⟩:Spn))] #[]),(34,.func (.func 123) #[ag (B3 (⟨0,0⟩:Spn))] #[]),(36,.func (.func 123) #[ag (B3 (⟨0,1⟩:Spn))] #[]),(37,.func (.func 123) #[ag (B3 (⟨0,1⟩:Spn))] #[]),(43,.func (.func 123) #[ag (B3 (⟨0,1⟩:Spn))] #[])]
theorem D6w (k:Int):lkV k (.agg #[.nilFunc,.nilFunc]) B3p=.agg #[lkV k .nilFunc B9,lkV k .nilFunc J9]:=by
 refine (D4d (fun a b=>.agg #[a,b]) k (.nilFunc) (.nilFunc) [((17:Int),(.func (.func 123) #[ag (B3 (⟨0,3⟩:Spn))] #[]:Value),(.func (.func 123) #[ag (B3 (⟨0,1⟩:Spn))] #[]:Value)),((18:Int),(.func (.func 123) #[ag (B3 (⟨2,3⟩:Spn))] #[]:Value),(.func (.func 123) #[ag (B3 (⟨0,0⟩:Spn))] #[]:Value)),((19:Int),(.func (.func 123) #[ag (B3 (⟨1,9999⟩:Spn))] #[]:Value),(.func (.func 123) #[ag (B3 (⟨1,9999⟩:Spn))] #[]:Value)),((20:Int),(.func (.func 123) #[ag (B3 (⟨0,3⟩:Spn))] #[]:Value),(.func (.func 123) #[ag (B3 (⟨1,9999⟩:Spn))] #[]:Value)),((26:Int),(.func (.func 123) #[ag (B3 (⟨0,3⟩:Spn))] #[]:Value),(.func (.func 123) #[ag (B3 (⟨0,0⟩:Spn))] #[]:Value)),((27:Int),(.func (.func 123) #[ag (B3 (⟨0,2⟩:Spn))] #[]:Value),(.func (.func 123) #[ag (B3 (⟨0,0⟩:Spn))] #[]:Value)),((35:Int),(.func (.func 124) #[] #[]:Value),(.func (.func 123) #[ag (B3 (⟨0,0⟩:Spn))] #[]:Value)),((38:Int),(.func (.func 123) #[ag (B3 (⟨0,9999⟩:Spn))] #[]:Value),(.func (.func 123) #[ag (B3 (⟨0,9999⟩:Spn))] #[]:Value)),((40:Int),(.func (.func 123) #[ag (B3 (⟨0,6⟩:Spn))] #[]:Value),(.func (.func 123) #[ag (B3 (⟨0,0⟩:Spn))] #[]:Value)),((41:Int),(.func (.func 123) #[ag (B3 (⟨5,6⟩:Spn))] #[]:Value),(.func (.func 123) #[ag (B3 (⟨0,0⟩:Spn))] #[]:Value)),((2:Int),(.func (.func 123) #[ag (B3 (⟨0,0⟩:Spn))] #[]:Value),(.func (.func 123) #[ag (B3 (⟨0,0⟩:Spn))] #[]:Value)),((3:Int),(.func (.func 123) #[ag (B3 (⟨0,0⟩:Spn))] #[]:Value),(.func (.func 123) #[ag (B3 (⟨0,0⟩:Spn))] #[]:Value)),((4:Int),(.func (.func 123) #[ag (B3 (⟨0,0⟩:Spn))] #[]:Value),(.func (.func 123) #[ag (B3 (⟨0,0⟩:Spn))] #[]:Value)),((5:Int),(.func (.func 123) #[ag (B3 (⟨0,0⟩:Spn))] #[]:Value),(.func (.func 123) #[ag (B3 (⟨0,0⟩:Spn))] #[]:Value)),((6:Int),(.func (.func 123) #[ag (B3 (⟨0,0⟩:Spn))] #[]:Value),(.func (.func 123) #[ag (B3 (⟨0,0⟩:Spn))] #[]:Value)),((8:Int),(.func (.func 123) #[ag (B3 (⟨0,0⟩:Spn))] #[]:Value),(.func (.func 123) #[ag (B3 (⟨0,0⟩:Spn))] #[]:Value)),((9:Int),(.func (.func 123) #[ag (B3 (⟨0,0⟩:Spn))] #[]:Value),(.func (.func 123) #[ag (B3 (⟨0,0⟩:Spn))] #[]:Value)),((10:Int),(.func (.func 123) #[ag (B3 (⟨0,0⟩:Spn))] #[]:Value),(.func (.func 123) #[ag (B3 (⟨0,0⟩:Spn))] #[]:Value)),((11:Int),(.func (.func 123) #[ag (B3 (⟨0,0⟩:Spn))] #[]:Value),(.func (.func 123) #[ag (B3 (⟨0,0⟩:Spn))] #[]:Value)),((12:Int),(.func (.func 123) #[ag (B3 (⟨0,0⟩:Spn))] #[]:Value),(.func (.func 123) #[ag (B3 (⟨0,0⟩:Spn))] #[]:Value)),((13:Int),(.func (.func 123) #[ag (B3 (⟨0,0⟩:Spn))] #[]:Value),(.func (.func 123) #[ag (B3 (⟨0,0⟩:Spn))] #[]:Value)),((15:Int),(.func (.func 123) #[ag (B3 (⟨0,0⟩:Spn))] #[]:Value),(.func (.func 123) #[ag (B3 (⟨0,0⟩:Spn))] #[]:Value)),((16:Int),(.func (.func 123) #[ag (B3 (⟨0,0⟩:Spn))] #[]:Value),(.func (.func 123) #[ag (B3 (⟨0,0⟩:Spn))] #[]:Value)),((7:Int),(.func (.func 123) #[ag (B3 (⟨0,1⟩:Spn))] #[]:Value),(.func (.func 123) #[ag (B3 (⟨0,0⟩:Spn))] #[]:Value)),((14:Int),(.func (.func 123) #[ag (B3 (⟨0,1⟩:Spn))] #[]:Value),(.func (.func 123) #[ag (B3 (⟨0,0⟩:Spn))] #[]:Value)),((42:Int),(.func (.func 123) #[ag (B3 (⟨0,1⟩:Spn))] #[]:Value),(.func (.func 123) #[ag (B3 (⟨0,0⟩:Spn))] #[]:Value)),((21:Int),(.func (.func 123) #[ag (B3 (⟨0,1⟩:Spn))] #[]:Value),(.func (.func 123) #[ag (B3 (⟨1,9999⟩:Spn))] #[]:Value)),((33:Int),(.func (.func 123) #[ag (B3 (⟨0,1⟩:Spn))] #[]:Value),(.func (.func 123) #[ag (B3 (⟨1,9999⟩:Spn))] #[]:Value)),((22:Int),(.func (.func 123) #[ag (B3 (⟨1,9999⟩:Spn))] #[]:Value),(.func (.func 123) #[ag (B3 (⟨0,0⟩:Spn))] #[]:Value)),((23:Int),(.func (.func 123) #[ag (B3 (⟨1,9999⟩:Spn))] #[]:Value),(.func (.func 123) #[ag (B3 (⟨0,0⟩:Spn))] #[]:Value)),((24:Int),(.func (.func 123) #[ag (B3 (⟨1,9999⟩:Spn))] #[]:Value),(.func (.func 123) #[ag (B3 (⟨0,0⟩:Spn))] #[]:Value)),((25:Int),(.func (.func 123) #[ag (B3 (⟨1,9999⟩:Spn))] #[]:Value),(.func (.func 123) #[ag (B3 (⟨0,0⟩:Spn))] #[]:Value)),((28:Int),(.func (.func 123) #[ag (B3 (⟨1,9999⟩:Spn))] #[]:Value),(.func (.func 123) #[ag (B3 (⟨0,0⟩:Spn))] #[]:Value)),((29:Int),(.func (.func 123) #[ag (B3 (⟨1,9999⟩:Spn))] #[]:Value),(.func (.func 123) #[ag (B3 (⟨0,0⟩:Spn))] #[]:Value)),((30:Int),(.func (.func 123) #[ag (B3 (⟨1,9999⟩:Spn))] #[]:Value),(.func (.func 123) #[ag (B3 (⟨0,0⟩:Spn))] #[]:Value)),((31:Int),(.func (.func 123) #[ag (B3 (⟨1,9999⟩:Spn))] #[]:Value),(.func (.func 123) #[ag (B3 (⟨0,0⟩:Spn))] #[]:Value)),((32:Int),(.func (.func 123) #[ag (B3 (⟨1,9999⟩:Spn))] #[]:Value),(.func (.func 123) #[ag (B3 (⟨0,0⟩:Spn))] #[]:Value)),((34:Int),(.func (.func 123) #[ag (B3 (⟨1,9999⟩:Spn))] #[]:Value),(.func (.func 123) #[ag (B3 (⟨0,0⟩:Spn))] #[]:Value)),((36:Int),(.func (.func 123) #[ag (B3 (⟨0,9999⟩:Spn))] #[]:Value),(.func (.func 123) #[ag (B3 (⟨0,1⟩:Spn))] #[]:Value)),((37:Int),(.func (.func 123) #[ag (B3 (⟨0,9999⟩:Spn))] #[]:Value),(.func (.func 123) #[ag (B3 (⟨0,1⟩:Spn))] #[]:Value)),((43:Int),(.func (.func 123) #[ag (B3 (⟨0,9999⟩:Spn))] #[]:Value),(.func (.func 123) #[ag (B3 (⟨0,1⟩:Spn))] #[]:Value))]).trans ?_
 rfl
theorem A2h (k:Int):Value.tuple #[lkV k (.agg #[.nilFunc,.nilFunc]) B3p,.bool (H5 k B3p)]=Value.tuple #[.agg #[lkV k .nilFunc B9,lkV k .nilFunc J9],.bool (H5 k B9)]:=by rw [D6w];rfl
def A6 (s:Spn) (n:Int):Bool :=
 ((decide (s.lo≤n))&&(decide (n≤s.hi)))
theorem A3 (s:Spn) (n:Int) (R:Bool) (hR:A6 s n=R):N1 Tryz.prog 123 [ag (B3 s),iv n] [] (bv R):=by
 refine zco Tryz.func123 [(0,ag (B3 s)),(1,iv n)] fun X hX hr hD=>?_
 replace hR:=(A6.eq_1 ..).symm.trans hR
 refine sr 2 rfl (M8 2 0 [] (fun b1=>[(2,pt b1 0)]) (fun b1=>[bx b1 (B3 s) 203]) (fun b1=>(ie (sr 11 rfl (zrl 5 6 [0] [(9,bv (decide (s.lo≤n)))] ?_)))))
 refine zid 5 1 9 14 (decide (n≤s.hi)) (fun g2 g2p=>?_) ?_
 ·refine zrl 5 0 [0] [(14,bv (decide (n≤s.hi)))] ?_
  exact A7 (U9 2 9 14 g2 fn0 (mk [true] rfl) rfl rfl rfl rfl rfl)
 refine ip' 1 0 [(4,bv ((decide (s.lo≤n))&&(decide (n≤s.hi))))] ?_
 subst hR
 refine ie (B5 ?_)
 exact G1 hr hD
def Z5 (n:Int):Bool :=
 ((decide (n=0))||(decide (n=3)))
theorem B6v (n:Int) (R:Bool) (hR:Z5 n=R):N1 Tryz.prog 124 [iv n] [] (bv R):=by
 refine zco Tryz.func124 [(0,iv n)] fun X hX hr hD=>?_
 replace hR:=(Z5.eq_1 ..).symm.trans hR
 refine sr 1 rfl (ip' 1 0 [] (ie (sr 7 rfl (ip' 3 4 [(5,bv (decide (n=0)))] ?_))))
 refine zir 3 1 5 8 (decide (n=3)) (fun g1 g1p=>?_) ?_
 ·refine ip' 3 0 [(8,bv (decide (n=3)))] ?_
  exact A7 (U9 2 5 8 g1 fn0 (mk [] rfl) rfl rfl rfl rfl rfl)
 refine ip' 1 0 [(2,bv ((decide (n=0))||(decide (n=3))))] ?_
 subst hR
 refine ie (B5 ?_)
 exact G1 hr hD
def E9 (k:Int) (x0:Int):Bool :=
 (bif (decide (k=17)) then (A6 (⟨0,3⟩:Spn) x0) else (bif (decide (k=18)) then (A6 (⟨2,3⟩:Spn) x0) else (bif (decide (k=19)) then (A6 (⟨1,9999⟩:Spn) x0) else (bif (decide (k=20)) then (A6 (⟨0,3⟩:Spn) x0) else (bif (decide (k=26)) then (A6 (⟨0,3⟩:Spn) x0) else (bif (decide (k=27)) then (A6 (⟨0,2⟩:Spn) x0) else (bif (decide (k=35)) then (Z5 x0) else (bif (decide (k=38)) then (A6 (⟨0,9999⟩:Spn) x0) else (bif (decide (k=40)) then (A6 (⟨0,6⟩:Spn) x0) else (bif (decide (k=41)) then (A6 (⟨5,6⟩:Spn) x0) else (bif (decide (k=2)) then (A6 (⟨0,0⟩:Spn) x0) else (bif (decide (k=3)) then (A6 (⟨0,0⟩:Spn) x0) else (bif (decide (k=4)) then (A6 (⟨0,0⟩:Spn) x0) else (bif (decide (k=5)) then (A6 (⟨0,0⟩:Spn) x0) else (bif (decide (k=6)) then (A6 (⟨0,0⟩:Spn) x0) else (bif (decide (k=8)) then (A6 (⟨0,0⟩:Spn) x0) else (bif (decide (k=9)) then (A6 (⟨0,0⟩:Spn) x0) else (bif (decide (k=10)) then (A6 (⟨0,0⟩:Spn) x0) else (bif (decide (k=11)) then (A6 (⟨0,0⟩:Spn) x0) else (bif (decide (k=12)) then (A6 (⟨0,0⟩:Spn) x0) else (bif (decide (k=13)) then (A6 (⟨0,0⟩:Spn) x0) else (bif (decide (k=15)) then (A6 (⟨0,0⟩:Spn) x0) else (bif (decide (k=16)) then (A6 (⟨0,0⟩:Spn) x0) else (bif (decide (k=7)) then (A6 (⟨0,1⟩:Spn) x0) else (bif (decide (k=14)) then (A6 (⟨0,1⟩:Spn) x0) else (bif (decide (k=42)) then (A6 (⟨0,1⟩:Spn) x0) else (bif (decide (k=21)) then (A6 (⟨0,1⟩:Spn) x0) else (bif (decide (k=33)) then (A6 (⟨0,1⟩:Spn) x0) else (bif (decide (k=22)) then (A6 (⟨1,9999⟩:Spn) x0) else (bif (decide (k=23)) then (A6 (⟨1,9999⟩:Spn) x0) else (bif (decide (k=24)) then (A6 (⟨1,9999⟩:Spn) x0) else (bif (decide (k=25)) then (A6 (⟨1,9999⟩:Spn) x0) else (bif (decide (k=28)) then (A6 (⟨1,9999⟩:Spn) x0) else (bif (decide (k=29)) then (A6 (⟨1,9999⟩:Spn) x0) else (bif (decide (k=30)) then (A6 (⟨1,9999⟩:Spn) x0) else (bif (decide (k=31)) then (A6 (⟨1,9999⟩:Spn) x0) else (bif (decide (k=32)) then (A6 (⟨1,9999⟩:Spn) x0) else (bif (decide (k=34)) then (A6 (⟨1,9999⟩:Spn) x0) else (bif (decide (k=36)) then (A6 (⟨0,9999⟩:Spn) x0) else (bif (decide (k=37)) then (A6 (⟨0,9999⟩:Spn) x0) else (bif (decide (k=43)) then (A6 (⟨0,9999⟩:Spn) x0) else false)))))))))))))))))))))))))))))))))))))))))
theorem A0x (k:Int) (x0:Int) (hk:H5 k B9=true) (R:Bool) (hR:E9 k x0=R):B8 Tryz.prog (lkV k .nilFunc B9) [iv x0] [] (bv R):=by
 subst hR
 unfold E9
 unfold B9 at *
 refine B8.cons (fun r=>bv r) hk (fun e=>?_) (fun hk e=>?_)
 ·exact B8.of (A3 (⟨0,3⟩:Spn) x0 _ rfl) rfl fn0
 refine B8.cons (fun r=>bv r) hk (fun e=>?_) (fun hk e=>?_)
 ·exact B8.of (A3 (⟨2,3⟩:Spn) x0 _ rfl) rfl fn0
 refine B8.cons (fun r=>bv r) hk (fun e=>?_) (fun hk e=>?_)
 ·exact B8.of (A3 (⟨1,9999⟩:Spn) x0 _ rfl) rfl fn0
 refine B8.cons (fun r=>bv r) hk (fun e=>?_) (fun hk e=>?_)
 ·exact B8.of (A3 (⟨0,3⟩:Spn) x0 _ rfl) rfl fn0
 refine B8.cons (fun r=>bv r) hk (fun e=>?_) (fun hk e=>?_)
 ·exact B8.of (A3 (⟨0,3⟩:Spn) x0 _ rfl) rfl fn0
 refine B8.cons (fun r=>bv r) hk (fun e=>?_) (fun hk e=>?_)
 ·exact B8.of (A3 (⟨0,2⟩:Spn) x0 _ rfl) rfl fn0
 refine B8.cons (fun r=>bv r) hk (fun e=>?_) (fun hk e=>?_)
 ·exact B8.of (B6v x0 _ rfl) rfl fn0
 refine B8.cons (fun r=>bv r) hk (fun e=>?_) (fun hk e=>?_)
 ·exact B8.of (A3 (⟨0,9999⟩:Spn) x0 _ rfl) rfl fn0
 refine B8.cons (fun r=>bv r) hk (fun e=>?_) (fun hk e=>?_)
 ·exact B8.of (A3 (⟨0,6⟩:Spn) x0 _ rfl) rfl fn0
 refine B8.cons (fun r=>bv r) hk (fun e=>?_) (fun hk e=>?_)
 ·exact B8.of (A3 (⟨5,6⟩:Spn) x0 _ rfl) rfl fn0
 refine B8.cons (fun r=>bv r) hk (fun e=>?_) (fun hk e=>?_)
 ·exact B8.of (A3 (⟨0,0⟩:Spn) x0 _ rfl) rfl fn0
 refine B8.cons (fun r=>bv r) hk (fun e=>?_) (fun hk e=>?_)
 ·exact B8.of (A3 (⟨0,0⟩:Spn) x0 _ rfl) rfl fn0
 refine B8.cons (fun r=>bv r) hk (fun e=>?_) (fun hk e=>?_)
 ·exact B8.of (A3 (⟨0,0⟩:Spn) x0 _ rfl) rfl fn0
 refine B8.cons (fun r=>bv r) hk (fun e=>?_) (fun hk e=>?_)
 ·exact B8.of (A3 (⟨0,0⟩:Spn) x0 _ rfl) rfl fn0
 refine B8.cons (fun r=>bv r) hk (fun e=>?_) (fun hk e=>?_)
 ·exact B8.of (A3 (⟨0,0⟩:Spn) x0 _ rfl) rfl fn0
 refine B8.cons (fun r=>bv r) hk (fun e=>?_) (fun hk e=>?_)
 ·exact B8.of (A3 (⟨0,0⟩:Spn) x0 _ rfl) rfl fn0
 refine B8.cons (fun r=>bv r) hk (fun e=>?_) (fun hk e=>?_)
 ·exact B8.of (A3 (⟨0,0⟩:Spn) x0 _ rfl) rfl fn0
 refine B8.cons (fun r=>bv r) hk (fun e=>?_) (fun hk e=>?_)
 ·exact B8.of (A3 (⟨0,0⟩:Spn) x0 _ rfl) rfl fn0
 refine B8.cons (fun r=>bv r) hk (fun e=>?_) (fun hk e=>?_)
 ·exact B8.of (A3 (⟨0,0⟩:Spn) x0 _ rfl) rfl fn0
 refine B8.cons (fun r=>bv r) hk (fun e=>?_) (fun hk e=>?_)
 ·exact B8.of (A3 (⟨0,0⟩:Spn) x0 _ rfl) rfl fn0
 refine B8.cons (fun r=>bv r) hk (fun e=>?_) (fun hk e=>?_)
 ·exact B8.of (A3 (⟨0,0⟩:Spn) x0 _ rfl) rfl fn0
 refine B8.cons (fun r=>bv r) hk (fun e=>?_) (fun hk e=>?_)
 ·exact B8.of (A3 (⟨0,0⟩:Spn) x0 _ rfl) rfl fn0
 refine B8.cons (fun r=>bv r) hk (fun e=>?_) (fun hk e=>?_)
 ·exact B8.of (A3 (⟨0,0⟩:Spn) x0 _ rfl) rfl fn0
 refine B8.cons (fun r=>bv r) hk (fun e=>?_) (fun hk e=>?_)
 ·exact B8.of (A3 (⟨0,1⟩:Spn) x0 _ rfl) rfl fn0
 refine B8.cons (fun r=>bv r) hk (fun e=>?_) (fun hk e=>?_)
 ·exact B8.of (A3 (⟨0,1⟩:Spn) x0 _ rfl) rfl fn0
 refine B8.cons (fun r=>bv r) hk (fun e=>?_) (fun hk e=>?_)
 ·exact B8.of (A3 (⟨0,1⟩:Spn) x0 _ rfl) rfl fn0
 refine B8.cons (fun r=>bv r) hk (fun e=>?_) (fun hk e=>?_)
 ·exact B8.of (A3 (⟨0,1⟩:Spn) x0 _ rfl) rfl fn0
 refine B8.cons (fun r=>bv r) hk (fun e=>?_) (fun hk e=>?_)
 ·exact B8.of (A3 (⟨0,1⟩:Spn) x0 _ rfl) rfl fn0
 refine B8.cons (fun r=>bv r) hk (fun e=>?_) (fun hk e=>?_)
 ·exact B8.of (A3 (⟨1,9999⟩:Spn) x0 _ rfl) rfl fn0
 refine B8.cons (fun r=>bv r) hk (fun e=>?_) (fun hk e=>?_)
 ·exact B8.of (A3 (⟨1,9999⟩:Spn) x0 _ rfl) rfl fn0
 refine B8.cons (fun r=>bv r) hk (fun e=>?_) (fun hk e=>?_)
 ·exact B8.of (A3 (⟨1,9999⟩:Spn) x0 _ rfl) rfl fn0
 refine B8.cons (fun r=>bv r) hk (fun e=>?_) (fun hk e=>?_)
 ·exact B8.of (A3 (⟨1,9999⟩:Spn) x0 _ rfl) rfl fn0
 refine B8.cons (fun r=>bv r) hk (fun e=>?_) (fun hk e=>?_)
 ·exact B8.of (A3 (⟨1,9999⟩:Spn) x0 _ rfl) rfl fn0
 refine B8.cons (fun r=>bv r) hk (fun e=>?_) (fun hk e=>?_)
 ·exact B8.of (A3 (⟨1,9999⟩:Spn) x0 _ rfl) rfl fn0
 refine B8.cons (fun r=>bv r) hk (fun e=>?_) (fun hk e=>?_)
 ·exact B8.of (A3 (⟨1,9999⟩:Spn) x0 _ rfl) rfl fn0
 refine B8.cons (fun r=>bv r) hk (fun e=>?_) (fun hk e=>?_)
 ·exact B8.of (A3 (⟨1,9999⟩:Spn) x0 _ rfl) rfl fn0
 refine B8.cons (fun r=>bv r) hk (fun e=>?_) (fun hk e=>?_)
 ·exact B8.of (A3 (⟨1,9999⟩:Spn) x0 _ rfl) rfl fn0
 refine B8.cons (fun r=>bv r) hk (fun e=>?_) (fun hk e=>?_)
 ·exact B8.of (A3 (⟨1,9999⟩:Spn) x0 _ rfl) rfl fn0
 refine B8.cons (fun r=>bv r) hk (fun e=>?_) (fun hk e=>?_)
 ·exact B8.of (A3 (⟨0,9999⟩:Spn) x0 _ rfl) rfl fn0
 refine B8.cons (fun r=>bv r) hk (fun e=>?_) (fun hk e=>?_)
 ·exact B8.of (A3 (⟨0,9999⟩:Spn) x0 _ rfl) rfl fn0
 refine B8.cons (fun r=>bv r) hk (fun e=>?_) (fun hk e=>?_)
 ·exact B8.of (A3 (⟨0,9999⟩:Spn) x0 _ rfl) rfl fn0
 exact B8.nil hk
def F4 (k:Int) (x0:Int):Bool :=
 (bif (decide (k=17)) then (A6 (⟨0,1⟩:Spn) x0) else (bif (decide (k=18)) then (A6 (⟨0,0⟩:Spn) x0) else (bif (decide (k=19)) then (A6 (⟨1,9999⟩:Spn) x0) else (bif (decide (k=20)) then (A6 (⟨1,9999⟩:Spn) x0) else (bif (decide (k=26)) then (A6 (⟨0,0⟩:Spn) x0) else (bif (decide (k=27)) then (A6 (⟨0,0⟩:Spn) x0) else (bif (decide (k=35)) then (A6 (⟨0,0⟩:Spn) x0) else (bif (decide (k=38)) then (A6 (⟨0,9999⟩:Spn) x0) else (bif (decide (k=40)) then (A6 (⟨0,0⟩:Spn) x0) else (bif (decide (k=41)) then (A6 (⟨0,0⟩:Spn) x0) else (bif (decide (k=2)) then (A6 (⟨0,0⟩:Spn) x0) else (bif (decide (k=3)) then (A6 (⟨0,0⟩:Spn) x0) else (bif (decide (k=4)) then (A6 (⟨0,0⟩:Spn) x0) else (bif (decide (k=5)) then (A6 (⟨0,0⟩:Spn) x0) else (bif (decide (k=6)) then (A6 (⟨0,0⟩:Spn) x0) else (bif (decide (k=8)) then (A6 (⟨0,0⟩:Spn) x0) else (bif (decide (k=9)) then (A6 (⟨0,0⟩:Spn) x0) else (bif (decide (k=10)) then (A6 (⟨0,0⟩:Spn) x0) else (bif (decide (k=11)) then (A6 (⟨0,0⟩:Spn) x0) else (bif (decide (k=12)) then (A6 (⟨0,0⟩:Spn) x0) else (bif (decide (k=13)) then (A6 (⟨0,0⟩:Spn) x0) else (bif (decide (k=15)) then (A6 (⟨0,0⟩:Spn) x0) else (bif (decide (k=16)) then (A6 (⟨0,0⟩:Spn) x0) else (bif (decide (k=7)) then (A6 (⟨0,0⟩:Spn) x0) else (bif (decide (k=14)) then (A6 (⟨0,0⟩:Spn) x0) else (bif (decide (k=42)) then (A6 (⟨0,0⟩:Spn) x0) else (bif (decide (k=21)) then (A6 (⟨1,9999⟩:Spn) x0) else (bif (decide (k=33)) then (A6 (⟨1,9999⟩:Spn) x0) else (bif (decide (k=22)) then (A6 (⟨0,0⟩:Spn) x0) else (bif (decide (k=23)) then (A6 (⟨0,0⟩:Spn) x0) else (bif (decide (k=24)) then (A6 (⟨0,0⟩:Spn) x0) else (bif (decide (k=25)) then (A6 (⟨0,0⟩:Spn) x0) else (bif (decide (k=28)) then (A6 (⟨0,0⟩:Spn) x0) else (bif (decide (k=29)) then (A6 (⟨0,0⟩:Spn) x0) else (bif (decide (k=30)) then (A6 (⟨0,0⟩:Spn) x0) else (bif (decide (k=31)) then (A6 (⟨0,0⟩:Spn) x0) else (bif (decide (k=32)) then (A6 (⟨0,0⟩:Spn) x0) else (bif (decide (k=34)) then (A6 (⟨0,0⟩:Spn) x0) else (bif (decide (k=36)) then (A6 (⟨0,1⟩:Spn) x0) else (bif (decide (k=37)) then (A6 (⟨0,1⟩:Spn) x0) else (bif (decide (k=43)) then (A6 (⟨0,1⟩:Spn) x0) else false)))))))))))))))))))))))))))))))))))))))))
theorem A0u (k:Int) (x0:Int) (hk:H5 k J9=true) (R:Bool) (hR:F4 k x0=R):B8 Tryz.prog (lkV k .nilFunc J9) [iv x0] [] (bv R):=by
 subst hR
 unfold F4
 unfold J9 at *
 refine B8.cons (fun r=>bv r) hk (fun e=>?_) (fun hk e=>?_)
 ·exact B8.of (A3 (⟨0,1⟩:Spn) x0 _ rfl) rfl fn0
 refine B8.cons (fun r=>bv r) hk (fun e=>?_) (fun hk e=>?_)
 ·exact B8.of (A3 (⟨0,0⟩:Spn) x0 _ rfl) rfl fn0
 refine B8.cons (fun r=>bv r) hk (fun e=>?_) (fun hk e=>?_)
 ·exact B8.of (A3 (⟨1,9999⟩:Spn) x0 _ rfl) rfl fn0
 refine B8.cons (fun r=>bv r) hk (fun e=>?_) (fun hk e=>?_)
 ·exact B8.of (A3 (⟨1,9999⟩:Spn) x0 _ rfl) rfl fn0
 refine B8.cons (fun r=>bv r) hk (fun e=>?_) (fun hk e=>?_)
 ·exact B8.of (A3 (⟨0,0⟩:Spn) x0 _ rfl) rfl fn0
 refine B8.cons (fun r=>bv r) hk (fun e=>?_) (fun hk e=>?_)
 ·exact B8.of (A3 (⟨0,0⟩:Spn) x0 _ rfl) rfl fn0
 refine B8.cons (fun r=>bv r) hk (fun e=>?_) (fun hk e=>?_)
 ·exact B8.of (A3 (⟨0,0⟩:Spn) x0 _ rfl) rfl fn0
 refine B8.cons (fun r=>bv r) hk (fun e=>?_) (fun hk e=>?_)
 ·exact B8.of (A3 (⟨0,9999⟩:Spn) x0 _ rfl) rfl fn0
 refine B8.cons (fun r=>bv r) hk (fun e=>?_) (fun hk e=>?_)
 ·exact B8.of (A3 (⟨0,0⟩:Spn) x0 _ rfl) rfl fn0
 refine B8.cons (fun r=>bv r) hk (fun e=>?_) (fun hk e=>?_)
 ·exact B8.of (A3 (⟨0,0⟩:Spn) x0 _ rfl) rfl fn0
 refine B8.cons (fun r=>bv r) hk (fun e=>?_) (fun hk e=>?_)
 ·exact B8.of (A3 (⟨0,0⟩:Spn) x0 _ rfl) rfl fn0
 refine B8.cons (fun r=>bv r) hk (fun e=>?_) (fun hk e=>?_)
 ·exact B8.of (A3 (⟨0,0⟩:Spn) x0 _ rfl) rfl fn0
 refine B8.cons (fun r=>bv r) hk (fun e=>?_) (fun hk e=>?_)
 ·exact B8.of (A3 (⟨0,0⟩:Spn) x0 _ rfl) rfl fn0
 refine B8.cons (fun r=>bv r) hk (fun e=>?_) (fun hk e=>?_)
 ·exact B8.of (A3 (⟨0,0⟩:Spn) x0 _ rfl) rfl fn0
 refine B8.cons (fun r=>bv r) hk (fun e=>?_) (fun hk e=>?_)
 ·exact B8.of (A3 (⟨0,0⟩:Spn) x0 _ rfl) rfl fn0
 refine B8.cons (fun r=>bv r) hk (fun e=>?_) (fun hk e=>?_)
 ·exact B8.of (A3 (⟨0,0⟩:Spn) x0 _ rfl) rfl fn0
 refine B8.cons (fun r=>bv r) hk (fun e=>?_) (fun hk e=>?_)
 ·exact B8.of (A3 (⟨0,0⟩:Spn) x0 _ rfl) rfl fn0
 refine B8.cons (fun r=>bv r) hk (fun e=>?_) (fun hk e=>?_)
 ·exact B8.of (A3 (⟨0,0⟩:Spn) x0 _ rfl) rfl fn0
 refine B8.cons (fun r=>bv r) hk (fun e=>?_) (fun hk e=>?_)
 ·exact B8.of (A3 (⟨0,0⟩:Spn) x0 _ rfl) rfl fn0
 refine B8.cons (fun r=>bv r) hk (fun e=>?_) (fun hk e=>?_)
 ·exact B8.of (A3 (⟨0,0⟩:Spn) x0 _ rfl) rfl fn0
 refine B8.cons (fun r=>bv r) hk (fun e=>?_) (fun hk e=>?_)
 ·exact B8.of (A3 (⟨0,0⟩:Spn) x0 _ rfl) rfl fn0
 refine B8.cons (fun r=>bv r) hk (fun e=>?_) (fun hk e=>?_)
 ·exact B8.of (A3 (⟨0,0⟩:Spn) x0 _ rfl) rfl fn0
 refine B8.cons (fun r=>bv r) hk (fun e=>?_) (fun hk e=>?_)
 ·exact B8.of (A3 (⟨0,0⟩:Spn) x0 _ rfl) rfl fn0
 refine B8.cons (fun r=>bv r) hk (fun e=>?_) (fun hk e=>?_)
 ·exact B8.of (A3 (⟨0,0⟩:Spn) x0 _ rfl) rfl fn0
 refine B8.cons (fun r=>bv r) hk (fun e=>?_) (fun hk e=>?_)
 ·exact B8.of (A3 (⟨0,0⟩:Spn) x0 _ rfl) rfl fn0
 refine B8.cons (fun r=>bv r) hk (fun e=>?_) (fun hk e=>?_)
 ·exact B8.of (A3 (⟨0,0⟩:Spn) x0 _ rfl) rfl fn0
 refine B8.cons (fun r=>bv r) hk (fun e=>?_) (fun hk e=>?_)
 ·exact B8.of (A3 (⟨1,9999⟩:Spn) x0 _ rfl) rfl fn0
 refine B8.cons (fun r=>bv r) hk (fun e=>?_) (fun hk e=>?_)
 ·exact B8.of (A3 (⟨1,9999⟩:Spn) x0 _ rfl) rfl fn0
 refine B8.cons (fun r=>bv r) hk (fun e=>?_) (fun hk e=>?_)
 ·exact B8.of (A3 (⟨0,0⟩:Spn) x0 _ rfl) rfl fn0
 refine B8.cons (fun r=>bv r) hk (fun e=>?_) (fun hk e=>?_)
 ·exact B8.of (A3 (⟨0,0⟩:Spn) x0 _ rfl) rfl fn0
 refine B8.cons (fun r=>bv r) hk (fun e=>?_) (fun hk e=>?_)
 ·exact B8.of (A3 (⟨0,0⟩:Spn) x0 _ rfl) rfl fn0
 refine B8.cons (fun r=>bv r) hk (fun e=>?_) (fun hk e=>?_)
 ·exact B8.of (A3 (⟨0,0⟩:Spn) x0 _ rfl) rfl fn0
 refine B8.cons (fun r=>bv r) hk (fun e=>?_) (fun hk e=>?_)
 ·exact B8.of (A3 (⟨0,0⟩:Spn) x0 _ rfl) rfl fn0
 refine B8.cons (fun r=>bv r) hk (fun e=>?_) (fun hk e=>?_)
 ·exact B8.of (A3 (⟨0,0⟩:Spn) x0 _ rfl) rfl fn0
 refine B8.cons (fun r=>bv r) hk (fun e=>?_) (fun hk e=>?_)
 ·exact B8.of (A3 (⟨0,0⟩:Spn) x0 _ rfl) rfl fn0
 refine B8.cons (fun r=>bv r) hk (fun e=>?_) (fun hk e=>?_)
 ·exact B8.of (A3 (⟨0,0⟩:Spn) x0 _ rfl) rfl fn0
 refine B8.cons (fun r=>bv r) hk (fun e=>?_) (fun hk e=>?_)
 ·exact B8.of (A3 (⟨0,0⟩:Spn) x0 _ rfl) rfl fn0
 refine B8.cons (fun r=>bv r) hk (fun e=>?_) (fun hk e=>?_)
 ·exact B8.of (A3 (⟨0,0⟩:Spn) x0 _ rfl) rfl fn0
 refine B8.cons (fun r=>bv r) hk (fun e=>?_) (fun hk e=>?_)
 ·exact B8.of (A3 (⟨0,1⟩:Spn) x0 _ rfl) rfl fn0
 refine B8.cons (fun r=>bv r) hk (fun e=>?_) (fun hk e=>?_)
 ·exact B8.of (A3 (⟨0,1⟩:Spn) x0 _ rfl) rfl fn0
 refine B8.cons (fun r=>bv r) hk (fun e=>?_) (fun hk e=>?_)
 ·exact B8.of (A3 (⟨0,1⟩:Spn) x0 _ rfl) rfl fn0
 exact B8.nil hk
theorem B4n {a:Act} {k:Int} (h:a.kind=k):a=⟨k,a.n,a.m,a.color,a.text⟩:=by subst h;rfl
def L8 (a:Act):Int :=
 (bif (decide (a.kind=1)) then (bif ((decide ((M7 a.n)<0))||(!(decide ((⟨1,a.n,a.m,a.color,a.text⟩:Act)=(A2x a.kind a.n 0))))) then 200 else 0) else (bif (decide (a.kind=39)) then (bif (!decide ((I2 (⟨39,a.n,a.m,a.color,a.text⟩:Act))=0)) then 200 else 0) else (bif (decide (a.kind=44)) then (bif (decide (a.kind=44)) then (B6 (A0m a.n a.m a.color a.text) fun (y0:List UInt8×Int)=>(bif (!decide (y0.2=0)) then 200 else 0)) else (bif (((((!(H5 a.kind B9))||(!(E9 a.kind a.n)))||(!(F4 a.kind a.m)))||(!(decide (a.color=Col.zero))))||(!(decide (a.text=([]:List UInt8))))) then 200 else 0)) else (bif (decide (a.kind=45)) then (bif (decide (a.kind=45)) then (B6 (X2 a.n a.m a.color a.text) fun (y1:List UInt8×Int)=>(bif (!decide (y1.2=0)) then 200 else 0)) else (bif (((((!(H5 a.kind B9))||(!(E9 a.kind a.n)))||(!(F4 a.kind a.m)))||(!(decide (a.color=Col.zero))))||(!(decide (a.text=([]:List UInt8))))) then 200 else 0)) else (bif (decide (a.kind=46)) then (B6 (X4 a.n a.m a.color a.text) fun (y2:List UInt8×Int)=>(bif (!decide (y2.2=0)) then 200 else 0)) else (bif (((((!(H5 a.kind B9))||(!(E9 a.kind a.n)))||(!(F4 a.kind a.m)))||(!(decide (a.color=Col.zero))))||(!(decide (a.text=([]:List UInt8))))) then 200 else 0))))))
set_option maxHeartbeats 2000000 in
theorem C4a (a:Act) (hs:a.text.length≤100000000) (R:Int) (hR:L8 a=R):N1 Tryz.prog 38 [ag (A0 a)] [A1y,A1z,M9,M1,I6] (iv R):=by
 refine zco Tryz.func38 [(0,ag (A0 a))] fun X hX hr hD=>?_
 replace hR:=(L8.eq_1 ..).symm.trans hR
 refine sr 2 rfl (M8 2 0 [] (fun b1=>[(1,pt b1 0)]) (fun b1=>[bx b1 (A0 a) 26]) (fun b1=>(ie (sr 1 rfl (ip' 1 0 [(3,iv 0)] (ie (A8 (sr 2 rfl (zrl 2 0 [0] [(7,iv a.kind)] (ie (B4 (sr 2 rfl (ip' 2 0 [(44,bv (decide (a.kind=1)))] (ie ?_))))))))))))))
 refine zjd rfl hR ?_ ?_<;>clear hR<;>intro hR h2 h2p
 ·refine sd 13 rfl (by kernel_rfl) rfl ?_
  refine zdg 2 11 [0] [(47,iv a.n)] ?_
  refine zcd (B3i a.n _ rfl) (A2.pick [0,1] rfl) ?_
  refine dp' 2 8 [(50,bv (decide ((M7 a.n)<0)))] ?_
  refine zdr 8 0 50 58 (!(decide ((⟨1,a.n,a.m,a.color,a.text⟩:Act)=(A2x a.kind a.n 0)))) (fun g3 g3p=>?_) ?_
  ·refine dd rfl (by exact K7 (F6 (us:=A0 a) B4h rfl rfl 0 rfl rfl rfl) (congrArg (fun z=>ag (A0 z)) (B4n h2p))) ?_
   refine zdg 4 3 [0,0] [(53,iv a.kind),(55,iv a.n)] ?_
   refine zcd (C9d a.kind a.n 0 _ rfl) fn0 ?_
   refine dd rfl (V8 (a:=(⟨1,a.n,a.m,a.color,a.text⟩:Act)) (b:=(A2x a.kind a.n 0)) D4i rfl rfl rfl) (dp' 1 0 [(58,bv (!(decide ((⟨1,a.n,a.m,a.color,a.text⟩:Act)=(A2x a.kind a.n 0)))))] ?_)
   exact zad 7 50 58 g3
  refine de ?_
  refine zjb rfl hR ?_ ?_<;>clear hR<;>intro hR h4
  ·have h4p:((M7 a.n)<0)∨(¬ (⟨1,a.n,a.m,a.color,a.text⟩:Act)=(A2x a.kind a.n 0)):=by simpa using h4
   refine A5 1 rfl (ip' 1 0 [(3,iv 200)] (A7 (nx (A8 (sr 2 rfl (ip' 2 0 [(73,bv true)] (ie (K1 rfl (sr 1 rfl (ip' 1 0 [(2,iv 200)] ?_))))))))))
   subst hR
   refine ie (B5 ?_)
   exact G1 hr hD
  have h4p:¬ (((M7 a.n)<0)∨(¬ (⟨1,a.n,a.m,a.color,a.text⟩:Act)=(A2x a.kind a.n 0))):=by simpa using h4
  refine B1 (nx (A8 (sr 2 rfl (ip' 2 0 [(73,bv false)] (ie (A4y rfl (B1 (nx (sr 1 rfl (ip' 1 0 [(2,iv 0)] ?_))))))))))
  subst hR
  refine ie (B5 ?_)
  exact G1 hr hD
 refine sr 2 rfl (ip' 2 0 [(59,bv (decide (a.kind=39)))] (ie ?_))
 refine zjd rfl hR ?_ ?_<;>clear hR<;>intro hR h5 h5p
 ·refine A5 3 rfl (ix rfl (by exact K7 (F6 (us:=A0 a) B4h rfl rfl 0 rfl rfl rfl) (congrArg (fun z=>ag (A0 z)) (B4n h5p))) (zca (B2n (⟨39,a.n,a.m,a.color,a.text⟩:Act) _ rfl) fn0 (ip' 1 0 [(3,iv (I2 (⟨39,a.n,a.m,a.color,a.text⟩:Act)))] (A7 (nx (A8 (sr 2 rfl (ip' 2 0 [(73,bv (!decide ((I2 (⟨39,a.n,a.m,a.color,a.text⟩:Act))=0)))] (ie ?_)))))))))
  refine zjn rfl hR ?_ ?_<;>clear hR<;>intro hR h6 h6p
  ·refine sr 1 rfl (ip' 1 0 [(2,iv 200)] ?_)
   subst hR
   refine ie (B5 ?_)
   exact G1 hr hD
  refine B1 (nx (sr 1 rfl (ip' 1 0 [(2,iv 0)] ?_)))
  subst hR
  refine ie (B5 ?_)
  exact G1 hr hD
 refine A8 (sr 2 rfl (ip' 2 0 [(63,bv (decide (a.kind=44)))] ?_))
 refine ie ?_
 refine zjd rfl hR ?_ ?_<;>clear hR<;>intro hR h7 h7p
 ·refine B1 (nx ?_)
  refine zjd rfl hR ?_ ?_<;>clear hR<;>intro hR h8 h8p
  ·refine A5 6 rfl (ix rfl (by exact K7 (F6 (us:=A0 a) B4h rfl rfl 0 rfl rfl rfl) (congrArg (fun z=>ag (A0 z)) (B4n h8p))) ?_)
   have hQ:=D0 hR;clear hR;obtain ⟨y0,hy0,hR⟩:=hQ
   refine zca (C1h a.n a.m a.color a.text (by first|omega|(simp<;>omega)) y0 hy0) fn0 ?_
   have:=B1l a.n a.m a.color a.text;try rw [hy0] at this
   refine ip' 4 0 [(3,iv y0.2)] (A7 (nx (A8 (sr 2 rfl (ip' 2 0 [(73,bv (!decide (y0.2=0)))] (ie ?_))))))
   refine zjn rfl hR ?_ ?_<;>clear hR<;>intro hR h9 h9p
   ·refine sr 1 rfl (ip' 1 0 [(2,iv 200)] ?_)
    subst hR
    refine ie (B5 ?_)
    exact G1 hr hD
   refine B1 (nx (sr 1 rfl (ip' 1 0 [(2,iv 0)] ?_)))
   subst hR
   refine ie (B5 ?_)
   exact G1 hr hD
  refine sh 10 [(10,[bx b1 (A0 a) 26])] [A1y,A1z,M9,M1,I6] [bx b1 (A0 a) 26] (zml 10 0) (by kernel_rfl) rfl (by kernel_rfl) (by kernel_rfl) (by kernel_rfl) (mk [true] rfl) A2.refl ?_
  refine zhp [1] 9 (zml 10 2) [(10,pt b1 0)] ?_
  refine zhl 2 [bx b1 (A0 a) 26] (zml 10 6) rfl (B2 (v:=iv a.kind) ty3 rfl rfl 0 rfl rfl) ?_
  refine A8z 0 7 (by kernel_rfl) ?_ ?_
  ·refine B3s 0 [bx b1 (A0 a) 26] (zml 10 7) rfl rfl rfl (by kernel_rfl) (by kernel_rfl) (by kernel_rfl) (C4 (L2:=[bx b1 (A0 a) 26]) (Z3 _ rfl) rfl rfl rfl rfl rfl fn0 (List.Perm.refl _) (fun b10=>[(b10,.map (A9 C7z 0).toArray 41),bx b1 (A0 a) 26]) (fun _=>rfl)) (fun b10=>(mk [false,true] rfl)) (fun b10=>A2.refl) fun b10=>?_
   refine A8z 3 7 (by kernel_rfl) ?_ ?_
   ·refine B3s 3 [bx b1 (A0 a) 26] (zml 10 15) rfl rfl rfl (by kernel_rfl) (by kernel_rfl) (by kernel_rfl) (Det.tri (I5.det (by exact K7 (S0 B3p K2 rfl rfl rfl 0 rfl (by kernel_rfl) (by kernel_rfl)) (A2h a.kind)))) (fun _=>(mk [false,true] rfl)) (fun _=>A2.refl) fun _=>?_
    refine zhp [4,5,6] 3 (zml 10 127) [(13,ag [(lkV a.kind .nilFunc B9),(lkV a.kind .nilFunc J9)]),(14,bv (H5 a.kind B9))] ?_
    refine zho 7 [bx b1 (A0 a) 26] (zml 10 255) rfl (X0 (cs:=[.nilFunc,.nilFunc]) A8x rfl) (fun b11=>(mk [false,false,true] rfl)) (fun b11=>A2.refl) fun b11=>?_
    refine zho 8 [bx b1 (A0 a) 26] (zml 10 511) rfl (N4 (us:=[(lkV a.kind .nilFunc B9),(lkV a.kind .nilFunc J9)]) (cs':=[(lkV a.kind .nilFunc B9),(lkV a.kind .nilFunc J9)]) B7z rfl rfl rfl 0 rfl rfl rfl (by simp only [List.all_cons,List.all_nil,Bool.and_true,Bool.and_eq_true];exact ⟨S3 rfl rfl,S3 rfl rfl⟩) rfl rfl) (fun _=>(mk [false,false,true] rfl)) (fun _=>A2.refl) fun _=>?_
    refine zhp [9] 0 (zml 10 1023) [(5,bv (H5 a.kind B9))] ?_
    refine A4z (by kernel_rfl) ?_
    refine sr 29 rfl (ip' 3 26 [(17,bv (!(H5 a.kind B9)))] ?_)
    refine zio 7 19 17 24 (!(E9 a.kind a.n)) (fun g12=>?_) ?_
    ·refine ip' 1 6 [(18,pt b11 0)] (ix rfl (B2 (v:=(lkV a.kind .nilFunc B9)) A4w rfl rfl 0 rfl rfl) (ip' 1 4 [(20,pt b1 1)] (ix rfl (B2 (v:=iv a.n) ty3 rfl rfl 2 rfl rfl) (ixc rfl (O6 (A0x a.kind a.n (by first|assumption|(have hh:H5 a.kind B9=true:=(by first|assumption|simp_all);exact hh)) _ rfl) rfl rfl rfl rfl fn0) (ip' 2 0 [(24,bv (!(E9 a.kind a.n)))] ?_)))))
     exact zai 7 17 24 g12
    refine ip' 1 18 [(25,bv ((!(H5 a.kind B9))||(!(E9 a.kind a.n))))] ?_
    refine zio 7 11 25 32 (!(F4 a.kind a.m)) (fun g13=>?_) ?_
    ·have g13p:=g13;try simp at g13p
     refine ip' 1 6 [(26,pt b11 1)] (ix rfl (B2 (v:=(lkV a.kind .nilFunc J9)) A4w rfl rfl 0 rfl rfl) (ip' 1 4 [(28,pt b1 2)] (ix rfl (B2 (v:=iv a.m) ty3 rfl rfl 2 rfl rfl) (ixc rfl (O6 (A0u a.kind a.m (by first|assumption|(have hh:H5 a.kind B9=true:=(by first|assumption|simp_all);exact hh)) _ rfl) rfl rfl rfl rfl fn0) (ip' 2 0 [(32,bv (!(F4 a.kind a.m)))] ?_)))))
     exact zai 7 25 32 g13
    refine ip' 1 10 [(33,bv (((!(H5 a.kind B9))||(!(E9 a.kind a.n)))||(!(F4 a.kind a.m))))] ?_
    refine zio 5 5 33 38 (!(decide (a.color=Col.zero))) (fun g14=>?_) ?_
    ·have g14p:=g14;try simp at g14p
     refine ip' 1 4 [(34,pt b1 3)] (ix rfl (F6 (us:=K3 a.color) B2d rfl rfl 2 rfl rfl rfl) (zrl 1 2 [] [(36,ag (K3 Col.zero))] (ix rfl (V8 (a:=a.color) (b:=Col.zero) B0d rfl rfl rfl) (ip' 1 0 [(38,bv (!(decide (a.color=Col.zero))))] ?_))))
     exact zai 6 33 38 g14
    refine ip' 1 4 [(39,bv ((((!(H5 a.kind B9))||(!(E9 a.kind a.n)))||(!(F4 a.kind a.m)))||(!(decide (a.color=Col.zero)))))] ?_
    refine zio 4 0 39 43 (!(decide (a.text=([]:List UInt8)))) (fun g15=>?_) ?_
    ·have g15p:=g15;try simp at g15p
     refine ip' 1 3 [(40,pt b1 5)] (ix rfl (B2 (v:=sv a.text) ty9 rfl rfl 2 rfl rfl) (ix rfl (A2l rfl rfl rfl) (ip' 1 0 [(43,bv (!(decide (a.text=([]:List UInt8)))))] ?_)))
     exact zai 5 39 43 g15
    refine ie ?_
    refine zjb rfl hR ?_ ?_<;>clear hR<;>intro hR h16
    ·have h16p:=h16;try simp at h16p
     refine A5 1 rfl (ip' 1 0 [(3,iv 200)] (A7 (nx (A8 (sr 2 rfl (ip' 2 0 [(73,bv true)] (ie (K1 rfl (sr 1 rfl (ip' 1 0 [(2,iv 200)] ?_))))))))))
     subst hR
     refine ie (B5 ?_)
     exact G1 hr hD
    have h16p:=h16;try simp at h16p
    refine B1 (nx (A8 (sr 2 rfl (ip' 2 0 [(73,bv false)] (ie (A4y rfl (B1 (nx (sr 1 rfl (ip' 1 0 [(2,iv 0)] ?_))))))))))
    subst hR
    refine ie (B5 ?_)
    exact G1 hr hD
   ·refine B3s 7 [bx b1 (A0 a) 26] (zml 10 135) rfl rfl rfl (by kernel_rfl) (by kernel_rfl) (by kernel_rfl) (X0 (cs:=[.nilFunc,.nilFunc]) A8x rfl) (fun b17=>(mk [false,false,true] rfl)) (fun b17=>A2.refl) fun b17=>?_
    refine zho 3 [bx b1 (A0 a) 26] (zml 10 143) rfl (Det.tri (I5.det (by exact K7 (S0 B3p K2 rfl rfl rfl 1 rfl (by kernel_rfl) (by kernel_rfl)) (A2h a.kind)))) (fun _=>(mk [false,false,true] rfl)) (fun _=>A2.refl) fun _=>?_
    refine zhp [4,5,6] 2 (zml 10 255) [(13,ag [(lkV a.kind .nilFunc B9),(lkV a.kind .nilFunc J9)]),(14,bv (H5 a.kind B9))] ?_
    refine zho 8 [bx b1 (A0 a) 26] (zml 10 511) rfl (N4 (us:=[(lkV a.kind .nilFunc B9),(lkV a.kind .nilFunc J9)]) (cs':=[(lkV a.kind .nilFunc B9),(lkV a.kind .nilFunc J9)]) B7z rfl rfl rfl 0 rfl rfl rfl (by simp only [List.all_cons,List.all_nil,Bool.and_true,Bool.and_eq_true];exact ⟨S3 rfl rfl,S3 rfl rfl⟩) rfl rfl) (fun _=>(mk [false,false,true] rfl)) (fun _=>A2.refl) fun _=>?_
    refine zhp [9] 0 (zml 10 1023) [(5,bv (H5 a.kind B9))] ?_
    refine A4z (by kernel_rfl) ?_
    refine sr 29 rfl (ip' 3 26 [(17,bv (!(H5 a.kind B9)))] ?_)
    refine zio 7 19 17 24 (!(E9 a.kind a.n)) (fun g18=>?_) ?_
    ·refine ip' 1 6 [(18,pt b17 0)] (ix rfl (B2 (v:=(lkV a.kind .nilFunc B9)) A4w rfl rfl 0 rfl rfl) (ip' 1 4 [(20,pt b1 1)] (ix rfl (B2 (v:=iv a.n) ty3 rfl rfl 2 rfl rfl) (ixc rfl (O6 (A0x a.kind a.n (by first|assumption|(have hh:H5 a.kind B9=true:=(by first|assumption|simp_all);exact hh)) _ rfl) rfl rfl rfl rfl fn0) (ip' 2 0 [(24,bv (!(E9 a.kind a.n)))] ?_)))))
     exact zai 7 17 24 g18
    refine ip' 1 18 [(25,bv ((!(H5 a.kind B9))||(!(E9 a.kind a.n))))] ?_
    refine zio 7 11 25 32 (!(F4 a.kind a.m)) (fun g19=>?_) ?_
    ·have g19p:=g19;try simp at g19p
     refine ip' 1 6 [(26,pt b17 1)] (ix rfl (B2 (v:=(lkV a.kind .nilFunc J9)) A4w rfl rfl 0 rfl rfl) (ip' 1 4 [(28,pt b1 2)] (ix rfl (B2 (v:=iv a.m) ty3 rfl rfl 2 rfl rfl) (ixc rfl (O6 (A0u a.kind a.m (by first|assumption|(have hh:H5 a.kind B9=true:=(by first|assumption|simp_all);exact hh)) _ rfl) rfl rfl rfl rfl fn0) (ip' 2 0 [(32,bv (!(F4 a.kind a.m)))] ?_)))))
     exact zai 7 25 32 g19
    refine ip' 1 10 [(33,bv (((!(H5 a.kind B9))||(!(E9 a.kind a.n)))||(!(F4 a.kind a.m))))] ?_
    refine zio 5 5 33 38 (!(decide (a.color=Col.zero))) (fun g20=>?_) ?_
    ·have g20p:=g20;try simp at g20p
     refine ip' 1 4 [(34,pt b1 3)] (ix rfl (F6 (us:=K3 a.color) B2d rfl rfl 2 rfl rfl rfl) (zrl 1 2 [] [(36,ag (K3 Col.zero))] (ix rfl (V8 (a:=a.color) (b:=Col.zero) B0d rfl rfl rfl) (ip' 1 0 [(38,bv (!(decide (a.color=Col.zero))))] ?_))))
     exact zai 6 33 38 g20
    refine ip' 1 4 [(39,bv ((((!(H5 a.kind B9))||(!(E9 a.kind a.n)))||(!(F4 a.kind a.m)))||(!(decide (a.color=Col.zero)))))] ?_
    refine zio 4 0 39 43 (!(decide (a.text=([]:List UInt8)))) (fun g21=>?_) ?_
    ·have g21p:=g21;try simp at g21p
     refine ip' 1 3 [(40,pt b1 5)] (ix rfl (B2 (v:=sv a.text) ty9 rfl rfl 2 rfl rfl) (ix rfl (A2l rfl rfl rfl) (ip' 1 0 [(43,bv (!(decide (a.text=([]:List UInt8)))))] ?_)))
     exact zai 5 39 43 g21
    refine ie ?_
    refine zjb rfl hR ?_ ?_<;>clear hR<;>intro hR h22
    ·have h22p:=h22;try simp at h22p
     refine A5 1 rfl (ip' 1 0 [(3,iv 200)] (A7 (nx (A8 (sr 2 rfl (ip' 2 0 [(73,bv true)] (ie (K1 rfl (sr 1 rfl (ip' 1 0 [(2,iv 200)] ?_))))))))))
     subst hR
     refine ie (B5 ?_)
     exact G1 hr hD
    have h22p:=h22;try simp at h22p
    refine B1 (nx (A8 (sr 2 rfl (ip' 2 0 [(73,bv false)] (ie (A4y rfl (B1 (nx (sr 1 rfl (ip' 1 0 [(2,iv 0)] ?_))))))))))
    subst hR
    refine ie (B5 ?_)
    exact G1 hr hD
  ·refine B3s 7 [bx b1 (A0 a) 26] (zml 10 134) rfl rfl rfl (by kernel_rfl) (by kernel_rfl) (by kernel_rfl) (X0 (cs:=[.nilFunc,.nilFunc]) A8x rfl) (fun b23=>(mk [false,true] rfl)) (fun b23=>A2.refl) fun b23=>?_
   refine zho 0 [bx b1 (A0 a) 26] (zml 10 135) rfl (C4 (L2:=[bx b23 [.nilFunc,.nilFunc] 134,bx b1 (A0 a) 26]) (Z3 _ rfl) rfl rfl rfl rfl rfl fn0 (List.Perm.refl _) (fun b24=>[(b24,.map (A9 C7z 0).toArray 41),bx b23 [.nilFunc,.nilFunc] 134,bx b1 (A0 a) 26]) (fun _=>rfl)) (fun b24=>(mk [false,false,true] rfl)) (fun b24=>A2.refl) fun b24=>?_
   refine zho 3 [bx b1 (A0 a) 26] (zml 10 143) rfl (Det.tri (I5.det (by exact K7 (S0 B3p K2 rfl rfl rfl 0 rfl (by kernel_rfl) (by kernel_rfl)) (A2h a.kind)))) (fun _=>(mk [false,false,true] rfl)) (fun _=>A2.refl) fun _=>?_
   refine zhp [4,5,6] 2 (zml 10 255) [(13,ag [(lkV a.kind .nilFunc B9),(lkV a.kind .nilFunc J9)]),(14,bv (H5 a.kind B9))] ?_
   refine zho 8 [bx b1 (A0 a) 26] (zml 10 511) rfl (N4 (us:=[(lkV a.kind .nilFunc B9),(lkV a.kind .nilFunc J9)]) (cs':=[(lkV a.kind .nilFunc B9),(lkV a.kind .nilFunc J9)]) B7z rfl rfl rfl 1 rfl rfl rfl (by simp only [List.all_cons,List.all_nil,Bool.and_true,Bool.and_eq_true];exact ⟨S3 rfl rfl,S3 rfl rfl⟩) rfl rfl) (fun _=>(mk [false,false,true] rfl)) (fun _=>A2.refl) fun _=>?_
   refine zhp [9] 0 (zml 10 1023) [(5,bv (H5 a.kind B9))] ?_
   refine A4z (by kernel_rfl) ?_
   refine sr 29 rfl (ip' 3 26 [(17,bv (!(H5 a.kind B9)))] ?_)
   refine zio 7 19 17 24 (!(E9 a.kind a.n)) (fun g25=>?_) ?_
   ·refine ip' 1 6 [(18,pt b23 0)] (ix rfl (B2 (v:=(lkV a.kind .nilFunc B9)) A4w rfl rfl 1 rfl rfl) (ip' 1 4 [(20,pt b1 1)] (ix rfl (B2 (v:=iv a.n) ty3 rfl rfl 2 rfl rfl) (ixc rfl (O6 (A0x a.kind a.n (by first|assumption|(have hh:H5 a.kind B9=true:=(by first|assumption|simp_all);exact hh)) _ rfl) rfl rfl rfl rfl fn0) (ip' 2 0 [(24,bv (!(E9 a.kind a.n)))] ?_)))))
    exact zai 7 17 24 g25
   refine ip' 1 18 [(25,bv ((!(H5 a.kind B9))||(!(E9 a.kind a.n))))] ?_
   refine zio 7 11 25 32 (!(F4 a.kind a.m)) (fun g26=>?_) ?_
   ·have g26p:=g26;try simp at g26p
    refine ip' 1 6 [(26,pt b23 1)] (ix rfl (B2 (v:=(lkV a.kind .nilFunc J9)) A4w rfl rfl 1 rfl rfl) (ip' 1 4 [(28,pt b1 2)] (ix rfl (B2 (v:=iv a.m) ty3 rfl rfl 2 rfl rfl) (ixc rfl (O6 (A0u a.kind a.m (by first|assumption|(have hh:H5 a.kind B9=true:=(by first|assumption|simp_all);exact hh)) _ rfl) rfl rfl rfl rfl fn0) (ip' 2 0 [(32,bv (!(F4 a.kind a.m)))] ?_)))))
    exact zai 7 25 32 g26
   refine ip' 1 10 [(33,bv (((!(H5 a.kind B9))||(!(E9 a.kind a.n)))||(!(F4 a.kind a.m))))] ?_
   refine zio 5 5 33 38 (!(decide (a.color=Col.zero))) (fun g27=>?_) ?_
   ·have g27p:=g27;try simp at g27p
    refine ip' 1 4 [(34,pt b1 3)] (ix rfl (F6 (us:=K3 a.color) B2d rfl rfl 2 rfl rfl rfl) (zrl 1 2 [] [(36,ag (K3 Col.zero))] (ix rfl (V8 (a:=a.color) (b:=Col.zero) B0d rfl rfl rfl) (ip' 1 0 [(38,bv (!(decide (a.color=Col.zero))))] ?_))))
    exact zai 6 33 38 g27
   refine ip' 1 4 [(39,bv ((((!(H5 a.kind B9))||(!(E9 a.kind a.n)))||(!(F4 a.kind a.m)))||(!(decide (a.color=Col.zero)))))] ?_
   refine zio 4 0 39 43 (!(decide (a.text=([]:List UInt8)))) (fun g28=>?_) ?_
   ·have g28p:=g28;try simp at g28p
    refine ip' 1 3 [(40,pt b1 5)] (ix rfl (B2 (v:=sv a.text) ty9 rfl rfl 2 rfl rfl) (ix rfl (A2l rfl rfl rfl) (ip' 1 0 [(43,bv (!(decide (a.text=([]:List UInt8)))))] ?_)))
    exact zai 5 39 43 g28
   refine ie ?_
   refine zjb rfl hR ?_ ?_<;>clear hR<;>intro hR h29
   ·have h29p:=h29;try simp at h29p
    refine A5 1 rfl (ip' 1 0 [(3,iv 200)] (A7 (nx (A8 (sr 2 rfl (ip' 2 0 [(73,bv true)] (ie (K1 rfl (sr 1 rfl (ip' 1 0 [(2,iv 200)] ?_))))))))))
    subst hR
    refine ie (B5 ?_)
    exact G1 hr hD
   have h29p:=h29;try simp at h29p
   refine B1 (nx (A8 (sr 2 rfl (ip' 2 0 [(73,bv false)] (ie (A4y rfl (B1 (nx (sr 1 rfl (ip' 1 0 [(2,iv 0)] ?_))))))))))
   subst hR
   refine ie (B5 ?_)
   exact G1 hr hD
 refine sr 2 rfl (ip' 2 0 [(63,bv (decide (a.kind=45)))] (ie ?_))
 refine zjd rfl hR ?_ ?_<;>clear hR<;>intro hR h30 h30p
 ·refine B1 (nx ?_)
  refine zjd rfl hR ?_ ?_<;>clear hR<;>intro hR h31 h31p
  ·refine A5 6 rfl (ix rfl (by exact K7 (F6 (us:=A0 a) B4h rfl rfl 0 rfl rfl rfl) (congrArg (fun z=>ag (A0 z)) (B4n h31p))) ?_)
   have hQ:=D0 hR;clear hR;obtain ⟨y1,hy1,hR⟩:=hQ
   refine zca (B9j a.n a.m a.color a.text (by first|omega|(simp<;>omega)) y1 hy1) (A2.pick [2,3,4] rfl) ?_
   have:=B0c a.n a.m a.color a.text;try rw [hy1] at this
   refine ip' 4 0 [(3,iv y1.2)] (A7 (nx (A8 (sr 2 rfl (ip' 2 0 [(73,bv (!decide (y1.2=0)))] (ie ?_))))))
   refine zjn rfl hR ?_ ?_<;>clear hR<;>intro hR h32 h32p
   ·refine sr 1 rfl (ip' 1 0 [(2,iv 200)] ?_)
    subst hR
    refine ie (B5 ?_)
    exact G1 hr hD
   refine B1 (nx (sr 1 rfl (ip' 1 0 [(2,iv 0)] ?_)))
   subst hR
   refine ie (B5 ?_)
   exact G1 hr hD
  refine sh 10 [(10,[bx b1 (A0 a) 26])] [A1y,A1z,M9,M1,I6] [bx b1 (A0 a) 26] (zml 10 0) (by kernel_rfl) rfl (by kernel_rfl) (by kernel_rfl) (by kernel_rfl) (mk [true] rfl) A2.refl ?_
  refine zhp [1] 9 (zml 10 2) [(10,pt b1 0)] ?_
  refine zhl 2 [bx b1 (A0 a) 26] (zml 10 6) rfl (B2 (v:=iv a.kind) ty3 rfl rfl 0 rfl rfl) ?_
  refine A8z 0 7 (by kernel_rfl) ?_ ?_
  ·refine B3s 0 [bx b1 (A0 a) 26] (zml 10 7) rfl rfl rfl (by kernel_rfl) (by kernel_rfl) (by kernel_rfl) (C4 (L2:=[bx b1 (A0 a) 26]) (Z3 _ rfl) rfl rfl rfl rfl rfl fn0 (List.Perm.refl _) (fun b33=>[(b33,.map (A9 C7z 0).toArray 41),bx b1 (A0 a) 26]) (fun _=>rfl)) (fun b33=>(mk [false,true] rfl)) (fun b33=>A2.refl) fun b33=>?_
   refine A8z 3 7 (by kernel_rfl) ?_ ?_
   ·refine B3s 3 [bx b1 (A0 a) 26] (zml 10 15) rfl rfl rfl (by kernel_rfl) (by kernel_rfl) (by kernel_rfl) (Det.tri (I5.det (by exact K7 (S0 B3p K2 rfl rfl rfl 0 rfl (by kernel_rfl) (by kernel_rfl)) (A2h a.kind)))) (fun _=>(mk [false,true] rfl)) (fun _=>A2.refl) fun _=>?_
    refine zhp [4,5,6] 3 (zml 10 127) [(13,ag [(lkV a.kind .nilFunc B9),(lkV a.kind .nilFunc J9)]),(14,bv (H5 a.kind B9))] ?_
    refine zho 7 [bx b1 (A0 a) 26] (zml 10 255) rfl (X0 (cs:=[.nilFunc,.nilFunc]) A8x rfl) (fun b34=>(mk [false,false,true] rfl)) (fun b34=>A2.refl) fun b34=>?_
    refine zho 8 [bx b1 (A0 a) 26] (zml 10 511) rfl (N4 (us:=[(lkV a.kind .nilFunc B9),(lkV a.kind .nilFunc J9)]) (cs':=[(lkV a.kind .nilFunc B9),(lkV a.kind .nilFunc J9)]) B7z rfl rfl rfl 0 rfl rfl rfl (by simp only [List.all_cons,List.all_nil,Bool.and_true,Bool.and_eq_true];exact ⟨S3 rfl rfl,S3 rfl rfl⟩) rfl rfl) (fun _=>(mk [false,false,true] rfl)) (fun _=>A2.refl) fun _=>?_
    refine zhp [9] 0 (zml 10 1023) [(5,bv (H5 a.kind B9))] ?_
    refine A4z (by kernel_rfl) ?_
    refine sr 29 rfl (ip' 3 26 [(17,bv (!(H5 a.kind B9)))] ?_)
    refine zio 7 19 17 24 (!(E9 a.kind a.n)) (fun g35=>?_) ?_
    ·refine ip' 1 6 [(18,pt b34 0)] (ix rfl (B2 (v:=(lkV a.kind .nilFunc B9)) A4w rfl rfl 0 rfl rfl) (ip' 1 4 [(20,pt b1 1)] (ix rfl (B2 (v:=iv a.n) ty3 rfl rfl 2 rfl rfl) (ixc rfl (O6 (A0x a.kind a.n (by first|assumption|(have hh:H5 a.kind B9=true:=(by first|assumption|simp_all);exact hh)) _ rfl) rfl rfl rfl rfl fn0) (ip' 2 0 [(24,bv (!(E9 a.kind a.n)))] ?_)))))
     exact zai 7 17 24 g35
    refine ip' 1 18 [(25,bv ((!(H5 a.kind B9))||(!(E9 a.kind a.n))))] ?_
    refine zio 7 11 25 32 (!(F4 a.kind a.m)) (fun g36=>?_) ?_
    ·have g36p:=g36;try simp at g36p
     refine ip' 1 6 [(26,pt b34 1)] (ix rfl (B2 (v:=(lkV a.kind .nilFunc J9)) A4w rfl rfl 0 rfl rfl) (ip' 1 4 [(28,pt b1 2)] (ix rfl (B2 (v:=iv a.m) ty3 rfl rfl 2 rfl rfl) (ixc rfl (O6 (A0u a.kind a.m (by first|assumption|(have hh:H5 a.kind B9=true:=(by first|assumption|simp_all);exact hh)) _ rfl) rfl rfl rfl rfl fn0) (ip' 2 0 [(32,bv (!(F4 a.kind a.m)))] ?_)))))
     exact zai 7 25 32 g36
    refine ip' 1 10 [(33,bv (((!(H5 a.kind B9))||(!(E9 a.kind a.n)))||(!(F4 a.kind a.m))))] ?_
    refine zio 5 5 33 38 (!(decide (a.color=Col.zero))) (fun g37=>?_) ?_
    ·have g37p:=g37;try simp at g37p
     refine ip' 1 4 [(34,pt b1 3)] (ix rfl (F6 (us:=K3 a.color) B2d rfl rfl 2 rfl rfl rfl) (zrl 1 2 [] [(36,ag (K3 Col.zero))] (ix rfl (V8 (a:=a.color) (b:=Col.zero) B0d rfl rfl rfl) (ip' 1 0 [(38,bv (!(decide (a.color=Col.zero))))] ?_))))
     exact zai 6 33 38 g37
    refine ip' 1 4 [(39,bv ((((!(H5 a.kind B9))||(!(E9 a.kind a.n)))||(!(F4 a.kind a.m)))||(!(decide (a.color=Col.zero)))))] ?_
    refine zio 4 0 39 43 (!(decide (a.text=([]:List UInt8)))) (fun g38=>?_) ?_
    ·have g38p:=g38;try simp at g38p
     refine ip' 1 3 [(40,pt b1 5)] (ix rfl (B2 (v:=sv a.text) ty9 rfl rfl 2 rfl rfl) (ix rfl (A2l rfl rfl rfl) (ip' 1 0 [(43,bv (!(decide (a.text=([]:List UInt8)))))] ?_)))
     exact zai 5 39 43 g38
    refine ie ?_
    refine zjb rfl hR ?_ ?_<;>clear hR<;>intro hR h39
    ·have h39p:=h39;try simp at h39p
     refine A5 1 rfl (ip' 1 0 [(3,iv 200)] (A7 (nx (A8 (sr 2 rfl (ip' 2 0 [(73,bv true)] (ie (K1 rfl (sr 1 rfl (ip' 1 0 [(2,iv 200)] ?_))))))))))
     subst hR
     refine ie (B5 ?_)
     exact G1 hr hD
    have h39p:=h39;try simp at h39p
    refine B1 (nx (A8 (sr 2 rfl (ip' 2 0 [(73,bv false)] (ie (A4y rfl (B1 (nx (sr 1 rfl (ip' 1 0 [(2,iv 0)] ?_))))))))))
    subst hR
    refine ie (B5 ?_)
    exact G1 hr hD
   ·refine B3s 7 [bx b1 (A0 a) 26] (zml 10 135) rfl rfl rfl (by kernel_rfl) (by kernel_rfl) (by kernel_rfl) (X0 (cs:=[.nilFunc,.nilFunc]) A8x rfl) (fun b40=>(mk [false,false,true] rfl)) (fun b40=>A2.refl) fun b40=>?_
    refine zho 3 [bx b1 (A0 a) 26] (zml 10 143) rfl (Det.tri (I5.det (by exact K7 (S0 B3p K2 rfl rfl rfl 1 rfl (by kernel_rfl) (by kernel_rfl)) (A2h a.kind)))) (fun _=>(mk [false,false,true] rfl)) (fun _=>A2.refl) fun _=>?_
    refine zhp [4,5,6] 2 (zml 10 255) [(13,ag [(lkV a.kind .nilFunc B9),(lkV a.kind .nilFunc J9)]),(14,bv (H5 a.kind B9))] ?_
    refine zho 8 [bx b1 (A0 a) 26] (zml 10 511) rfl (N4 (us:=[(lkV a.kind .nilFunc B9),(lkV a.kind .nilFunc J9)]) (cs':=[(lkV a.kind .nilFunc B9),(lkV a.kind .nilFunc J9)]) B7z rfl rfl rfl 0 rfl rfl rfl (by simp only [List.all_cons,List.all_nil,Bool.and_true,Bool.and_eq_true];exact ⟨S3 rfl rfl,S3 rfl rfl⟩) rfl rfl) (fun _=>(mk [false,false,true] rfl)) (fun _=>A2.refl) fun _=>?_
    refine zhp [9] 0 (zml 10 1023) [(5,bv (H5 a.kind B9))] ?_
    refine A4z (by kernel_rfl) ?_
    refine sr 29 rfl (ip' 3 26 [(17,bv (!(H5 a.kind B9)))] ?_)
    refine zio 7 19 17 24 (!(E9 a.kind a.n)) (fun g41=>?_) ?_
    ·refine ip' 1 6 [(18,pt b40 0)] (ix rfl (B2 (v:=(lkV a.kind .nilFunc B9)) A4w rfl rfl 0 rfl rfl) (ip' 1 4 [(20,pt b1 1)] (ix rfl (B2 (v:=iv a.n) ty3 rfl rfl 2 rfl rfl) (ixc rfl (O6 (A0x a.kind a.n (by first|assumption|(have hh:H5 a.kind B9=true:=(by first|assumption|simp_all);exact hh)) _ rfl) rfl rfl rfl rfl fn0) (ip' 2 0 [(24,bv (!(E9 a.kind a.n)))] ?_)))))
     exact zai 7 17 24 g41
    refine ip' 1 18 [(25,bv ((!(H5 a.kind B9))||(!(E9 a.kind a.n))))] ?_
    refine zio 7 11 25 32 (!(F4 a.kind a.m)) (fun g42=>?_) ?_
    ·have g42p:=g42;try simp at g42p
     refine ip' 1 6 [(26,pt b40 1)] (ix rfl (B2 (v:=(lkV a.kind .nilFunc J9)) A4w rfl rfl 0 rfl rfl) (ip' 1 4 [(28,pt b1 2)] (ix rfl (B2 (v:=iv a.m) ty3 rfl rfl 2 rfl rfl) (ixc rfl (O6 (A0u a.kind a.m (by first|assumption|(have hh:H5 a.kind B9=true:=(by first|assumption|simp_all);exact hh)) _ rfl) rfl rfl rfl rfl fn0) (ip' 2 0 [(32,bv (!(F4 a.kind a.m)))] ?_)))))
     exact zai 7 25 32 g42
    refine ip' 1 10 [(33,bv (((!(H5 a.kind B9))||(!(E9 a.kind a.n)))||(!(F4 a.kind a.m))))] ?_
    refine zio 5 5 33 38 (!(decide (a.color=Col.zero))) (fun g43=>?_) ?_
    ·have g43p:=g43;try simp at g43p
     refine ip' 1 4 [(34,pt b1 3)] (ix rfl (F6 (us:=K3 a.color) B2d rfl rfl 2 rfl rfl rfl) (zrl 1 2 [] [(36,ag (K3 Col.zero))] (ix rfl (V8 (a:=a.color) (b:=Col.zero) B0d rfl rfl rfl) (ip' 1 0 [(38,bv (!(decide (a.color=Col.zero))))] ?_))))
     exact zai 6 33 38 g43
    refine ip' 1 4 [(39,bv ((((!(H5 a.kind B9))||(!(E9 a.kind a.n)))||(!(F4 a.kind a.m)))||(!(decide (a.color=Col.zero)))))] ?_
    refine zio 4 0 39 43 (!(decide (a.text=([]:List UInt8)))) (fun g44=>?_) ?_
    ·have g44p:=g44;try simp at g44p
     refine ip' 1 3 [(40,pt b1 5)] (ix rfl (B2 (v:=sv a.text) ty9 rfl rfl 2 rfl rfl) (ix rfl (A2l rfl rfl rfl) (ip' 1 0 [(43,bv (!(decide (a.text=([]:List UInt8)))))] ?_)))
     exact zai 5 39 43 g44
    refine ie ?_
    refine zjb rfl hR ?_ ?_<;>clear hR<;>intro hR h45
    ·have h45p:=h45;try simp at h45p
     refine A5 1 rfl (ip' 1 0 [(3,iv 200)] (A7 (nx (A8 (sr 2 rfl (ip' 2 0 [(73,bv true)] (ie (K1 rfl (sr 1 rfl (ip' 1 0 [(2,iv 200)] ?_))))))))))
     subst hR
     refine ie (B5 ?_)
     exact G1 hr hD
    have h45p:=h45;try simp at h45p
    refine B1 (nx (A8 (sr 2 rfl (ip' 2 0 [(73,bv false)] (ie (A4y rfl (B1 (nx (sr 1 rfl (ip' 1 0 [(2,iv 0)] ?_))))))))))
    subst hR
    refine ie (B5 ?_)
    exact G1 hr hD
  ·refine B3s 7 [bx b1 (A0 a) 26] (zml 10 134) rfl rfl rfl (by kernel_rfl) (by kernel_rfl) (by kernel_rfl) (X0 (cs:=[.nilFunc,.nilFunc]) A8x rfl) (fun b46=>(mk [false,true] rfl)) (fun b46=>A2.refl) fun b46=>?_
   refine zho 0 [bx b1 (A0 a) 26] (zml 10 135) rfl (C4 (L2:=[bx b46 [.nilFunc,.nilFunc] 134,bx b1 (A0 a) 26]) (Z3 _ rfl) rfl rfl rfl rfl rfl fn0 (List.Perm.refl _) (fun b47=>[(b47,.map (A9 C7z 0).toArray 41),bx b46 [.nilFunc,.nilFunc] 134,bx b1 (A0 a) 26]) (fun _=>rfl)) (fun b47=>(mk [false,false,true] rfl)) (fun b47=>A2.refl) fun b47=>?_
   refine zho 3 [bx b1 (A0 a) 26] (zml 10 143) rfl (Det.tri (I5.det (by exact K7 (S0 B3p K2 rfl rfl rfl 0 rfl (by kernel_rfl) (by kernel_rfl)) (A2h a.kind)))) (fun _=>(mk [false,false,true] rfl)) (fun _=>A2.refl) fun _=>?_
   refine zhp [4,5,6] 2 (zml 10 255) [(13,ag [(lkV a.kind .nilFunc B9),(lkV a.kind .nilFunc J9)]),(14,bv (H5 a.kind B9))] ?_
   refine zho 8 [bx b1 (A0 a) 26] (zml 10 511) rfl (N4 (us:=[(lkV a.kind .nilFunc B9),(lkV a.kind .nilFunc J9)]) (cs':=[(lkV a.kind .nilFunc B9),(lkV a.kind .nilFunc J9)]) B7z rfl rfl rfl 1 rfl rfl rfl (by simp only [List.all_cons,List.all_nil,Bool.and_true,Bool.and_eq_true];exact ⟨S3 rfl rfl,S3 rfl rfl⟩) rfl rfl) (fun _=>(mk [false,false,true] rfl)) (fun _=>A2.refl) fun _=>?_
   refine zhp [9] 0 (zml 10 1023) [(5,bv (H5 a.kind B9))] ?_
   refine A4z (by kernel_rfl) ?_
   refine sr 29 rfl (ip' 3 26 [(17,bv (!(H5 a.kind B9)))] ?_)
   refine zio 7 19 17 24 (!(E9 a.kind a.n)) (fun g48=>?_) ?_
   ·refine ip' 1 6 [(18,pt b46 0)] (ix rfl (B2 (v:=(lkV a.kind .nilFunc B9)) A4w rfl rfl 1 rfl rfl) (ip' 1 4 [(20,pt b1 1)] (ix rfl (B2 (v:=iv a.n) ty3 rfl rfl 2 rfl rfl) (ixc rfl (O6 (A0x a.kind a.n (by first|assumption|(have hh:H5 a.kind B9=true:=(by first|assumption|simp_all);exact hh)) _ rfl) rfl rfl rfl rfl fn0) (ip' 2 0 [(24,bv (!(E9 a.kind a.n)))] ?_)))))
    exact zai 7 17 24 g48
   refine ip' 1 18 [(25,bv ((!(H5 a.kind B9))||(!(E9 a.kind a.n))))] ?_
   refine zio 7 11 25 32 (!(F4 a.kind a.m)) (fun g49=>?_) ?_
   ·have g49p:=g49;try simp at g49p
    refine ip' 1 6 [(26,pt b46 1)] (ix rfl (B2 (v:=(lkV a.kind .nilFunc J9)) A4w rfl rfl 1 rfl rfl) (ip' 1 4 [(28,pt b1 2)] (ix rfl (B2 (v:=iv a.m) ty3 rfl rfl 2 rfl rfl) (ixc rfl (O6 (A0u a.kind a.m (by first|assumption|(have hh:H5 a.kind B9=true:=(by first|assumption|simp_all);exact hh)) _ rfl) rfl rfl rfl rfl fn0) (ip' 2 0 [(32,bv (!(F4 a.kind a.m)))] ?_)))))
    exact zai 7 25 32 g49
   refine ip' 1 10 [(33,bv (((!(H5 a.kind B9))||(!(E9 a.kind a.n)))||(!(F4 a.kind a.m))))] ?_
   refine zio 5 5 33 38 (!(decide (a.color=Col.zero))) (fun g50=>?_) ?_
   ·have g50p:=g50;try simp at g50p
    refine ip' 1 4 [(34,pt b1 3)] (ix rfl (F6 (us:=K3 a.color) B2d rfl rfl 2 rfl rfl rfl) (zrl 1 2 [] [(36,ag (K3 Col.zero))] (ix rfl (V8 (a:=a.color) (b:=Col.zero) B0d rfl rfl rfl) (ip' 1 0 [(38,bv (!(decide (a.color=Col.zero))))] ?_))))
    exact zai 6 33 38 g50
   refine ip' 1 4 [(39,bv ((((!(H5 a.kind B9))||(!(E9 a.kind a.n)))||(!(F4 a.kind a.m)))||(!(decide (a.color=Col.zero)))))] ?_
   refine zio 4 0 39 43 (!(decide (a.text=([]:List UInt8)))) (fun g51=>?_) ?_
   ·have g51p:=g51;try simp at g51p
    refine ip' 1 3 [(40,pt b1 5)] (ix rfl (B2 (v:=sv a.text) ty9 rfl rfl 2 rfl rfl) (ix rfl (A2l rfl rfl rfl) (ip' 1 0 [(43,bv (!(decide (a.text=([]:List UInt8)))))] ?_)))
    exact zai 5 39 43 g51
   refine ie ?_
   refine zjb rfl hR ?_ ?_<;>clear hR<;>intro hR h52
   ·have h52p:=h52;try simp at h52p
    refine A5 1 rfl (ip' 1 0 [(3,iv 200)] (A7 (nx (A8 (sr 2 rfl (ip' 2 0 [(73,bv true)] (ie (K1 rfl (sr 1 rfl (ip' 1 0 [(2,iv 200)] ?_))))))))))
    subst hR
    refine ie (B5 ?_)
    exact G1 hr hD
   have h52p:=h52;try simp at h52p
   refine B1 (nx (A8 (sr 2 rfl (ip' 2 0 [(73,bv false)] (ie (A4y rfl (B1 (nx (sr 1 rfl (ip' 1 0 [(2,iv 0)] ?_))))))))))
   subst hR
   refine ie (B5 ?_)
   exact G1 hr hD
 refine A5 2 rfl (ip' 2 0 [(63,bv (decide (a.kind=46)))] (A7 (nx ?_)))
 refine zjd rfl hR ?_ ?_<;>clear hR<;>intro hR h53 h53p
 ·refine A5 6 rfl (ix rfl (by exact K7 (F6 (us:=A0 a) B4h rfl rfl 0 rfl rfl rfl) (congrArg (fun z=>ag (A0 z)) (B4n h53p))) ?_)
  have hQ:=D0 hR;clear hR;obtain ⟨y2,hy2,hR⟩:=hQ
  refine zca (B8e a.n a.m a.color a.text (by first|omega|(simp<;>omega)) y2 hy2) fn0 ?_
  have:=A9p a.n a.m a.color a.text;try rw [hy2] at this
  refine ip' 4 0 [(3,iv y2.2)] (A7 (nx (A8 (sr 2 rfl (ip' 2 0 [(73,bv (!decide (y2.2=0)))] (ie ?_))))))
  refine zjn rfl hR ?_ ?_<;>clear hR<;>intro hR h54 h54p
  ·refine sr 1 rfl (ip' 1 0 [(2,iv 200)] ?_)
   subst hR
   refine ie (B5 ?_)
   exact G1 hr hD
  refine B1 (nx (sr 1 rfl (ip' 1 0 [(2,iv 0)] ?_)))
  subst hR
  refine ie (B5 ?_)
  exact G1 hr hD
 refine sh 10 [(10,[bx b1 (A0 a) 26])] [A1y,A1z,M9,M1,I6] [bx b1 (A0 a) 26] (zml 10 0) (by kernel_rfl) rfl (by kernel_rfl) (by kernel_rfl) (by kernel_rfl) (mk [true] rfl) A2.refl ?_
 refine zhp [1] 9 (zml 10 2) [(10,pt b1 0)] ?_
 refine zhl 2 [bx b1 (A0 a) 26] (zml 10 6) rfl (B2 (v:=iv a.kind) ty3 rfl rfl 0 rfl rfl) ?_
 refine A8z 0 7 (by kernel_rfl) ?_ ?_
 ·refine B3s 0 [bx b1 (A0 a) 26] (zml 10 7) rfl rfl rfl (by kernel_rfl) (by kernel_rfl) (by kernel_rfl) (C4 (L2:=[bx b1 (A0 a) 26]) (Z3 _ rfl) rfl rfl rfl rfl rfl fn0 (List.Perm.refl _) (fun b55=>[(b55,.map (A9 C7z 0).toArray 41),bx b1 (A0 a) 26]) (fun _=>rfl)) (fun b55=>(mk [false,true] rfl)) (fun b55=>A2.refl) fun b55=>?_
  refine A8z 3 7 (by kernel_rfl) ?_ ?_
  ·refine B3s 3 [bx b1 (A0 a) 26] (zml 10 15) rfl rfl rfl (by kernel_rfl) (by kernel_rfl) (by kernel_rfl) (Det.tri (I5.det (by exact K7 (S0 B3p K2 rfl rfl rfl 0 rfl (by kernel_rfl) (by kernel_rfl)) (A2h a.kind)))) (fun _=>(mk [false,true] rfl)) (fun _=>A2.refl) fun _=>?_
   refine zhp [4,5,6] 3 (zml 10 127) [(13,ag [(lkV a.kind .nilFunc B9),(lkV a.kind .nilFunc J9)]),(14,bv (H5 a.kind B9))] ?_
   refine zho 7 [bx b1 (A0 a) 26] (zml 10 255) rfl (X0 (cs:=[.nilFunc,.nilFunc]) A8x rfl) (fun b56=>(mk [false,false,true] rfl)) (fun b56=>A2.refl) fun b56=>?_
   refine zho 8 [bx b1 (A0 a) 26] (zml 10 511) rfl (N4 (us:=[(lkV a.kind .nilFunc B9),(lkV a.kind .nilFunc J9)]) (cs':=[(lkV a.kind .nilFunc B9),(lkV a.kind .nilFunc J9)]) B7z rfl rfl rfl 0 rfl rfl rfl (by simp only [List.all_cons,List.all_nil,Bool.and_true,Bool.and_eq_true];exact ⟨S3 rfl rfl,S3 rfl rfl⟩) rfl rfl) (fun _=>(mk [false,false,true] rfl)) (fun _=>A2.refl) fun _=>?_
   refine zhp [9] 0 (zml 10 1023) [(5,bv (H5 a.kind B9))] ?_
   refine A4z (by kernel_rfl) ?_
   refine sr 29 rfl (ip' 3 26 [(17,bv (!(H5 a.kind B9)))] ?_)
   refine zio 7 19 17 24 (!(E9 a.kind a.n)) (fun g57=>?_) ?_
   ·refine ip' 1 6 [(18,pt b56 0)] (ix rfl (B2 (v:=(lkV a.kind .nilFunc B9)) A4w rfl rfl 0 rfl rfl) (ip' 1 4 [(20,pt b1 1)] (ix rfl (B2 (v:=iv a.n) ty3 rfl rfl 2 rfl rfl) (ixc rfl (O6 (A0x a.kind a.n (by first|assumption|(have hh:H5 a.kind B9=true:=(by first|assumption|simp_all);exact hh)) _ rfl) rfl rfl rfl rfl fn0) (ip' 2 0 [(24,bv (!(E9 a.kind a.n)))] ?_)))))
    exact zai 7 17 24 g57
   refine ip' 1 18 [(25,bv ((!(H5 a.kind B9))||(!(E9 a.kind a.n))))] ?_
   refine zio 7 11 25 32 (!(F4 a.kind a.m)) (fun g58=>?_) ?_
   ·have g58p:=g58;try simp at g58p
    refine ip' 1 6 [(26,pt b56 1)] (ix rfl (B2 (v:=(lkV a.kind .nilFunc J9)) A4w rfl rfl 0 rfl rfl) (ip' 1 4 [(28,pt b1 2)] (ix rfl (B2 (v:=iv a.m) ty3 rfl rfl 2 rfl rfl) (ixc rfl (O6 (A0u a.kind a.m (by first|assumption|(have hh:H5 a.kind B9=true:=(by first|assumption|simp_all);exact hh)) _ rfl) rfl rfl rfl rfl fn0) (ip' 2 0 [(32,bv (!(F4 a.kind a.m)))] ?_)))))
    exact zai 7 25 32 g58
   refine ip' 1 10 [(33,bv (((!(H5 a.kind B9))||(!(E9 a.kind a.n)))||(!(F4 a.kind a.m))))] ?_
   refine zio 5 5 33 38 (!(decide (a.color=Col.zero))) (fun g59=>?_) ?_
   ·have g59p:=g59;try simp at g59p
    refine ip' 1 4 [(34,pt b1 3)] (ix rfl (F6 (us:=K3 a.color) B2d rfl rfl 2 rfl rfl rfl) (zrl 1 2 [] [(36,ag (K3 Col.zero))] (ix rfl (V8 (a:=a.color) (b:=Col.zero) B0d rfl rfl rfl) (ip' 1 0 [(38,bv (!(decide (a.color=Col.zero))))] ?_))))
    exact zai 6 33 38 g59
   refine ip' 1 4 [(39,bv ((((!(H5 a.kind B9))||(!(E9 a.kind a.n)))||(!(F4 a.kind a.m)))||(!(decide (a.color=Col.zero)))))] ?_
   refine zio 4 0 39 43 (!(decide (a.text=([]:List UInt8)))) (fun g60=>?_) ?_
   ·have g60p:=g60;try simp at g60p
    refine ip' 1 3 [(40,pt b1 5)] (ix rfl (B2 (v:=sv a.text) ty9 rfl rfl 2 rfl rfl) (ix rfl (A2l rfl rfl rfl) (ip' 1 0 [(43,bv (!(decide (a.text=([]:List UInt8)))))] ?_)))
    exact zai 5 39 43 g60
   refine ie ?_
   refine zjb rfl hR ?_ ?_<;>clear hR<;>intro hR h61
   ·have h61p:=h61;try simp at h61p
    refine A5 1 rfl (ip' 1 0 [(3,iv 200)] (A7 (nx (A8 (sr 2 rfl (ip' 2 0 [(73,bv true)] (ie (K1 rfl (sr 1 rfl (ip' 1 0 [(2,iv 200)] ?_))))))))))
    subst hR
    refine ie (B5 ?_)
    exact G1 hr hD
   have h61p:=h61;try simp at h61p
   refine B1 (nx (A8 (sr 2 rfl (ip' 2 0 [(73,bv false)] (ie (A4y rfl (B1 (nx (sr 1 rfl (ip' 1 0 [(2,iv 0)] ?_))))))))))
   subst hR
   refine ie (B5 ?_)
   exact G1 hr hD
  ·refine B3s 7 [bx b1 (A0 a) 26] (zml 10 135) rfl rfl rfl (by kernel_rfl) (by kernel_rfl) (by kernel_rfl) (X0 (cs:=[.nilFunc,.nilFunc]) A8x rfl) (fun b62=>(mk [false,false,true] rfl)) (fun b62=>A2.refl) fun b62=>?_
   refine zho 3 [bx b1 (A0 a) 26] (zml 10 143) rfl (Det.tri (I5.det (by exact K7 (S0 B3p K2 rfl rfl rfl 1 rfl (by kernel_rfl) (by kernel_rfl)) (A2h a.kind)))) (fun _=>(mk [false,false,true] rfl)) (fun _=>A2.refl) fun _=>?_
   refine zhp [4,5,6] 2 (zml 10 255) [(13,ag [(lkV a.kind .nilFunc B9),(lkV a.kind .nilFunc J9)]),(14,bv (H5 a.kind B9))] ?_
   refine zho 8 [bx b1 (A0 a) 26] (zml 10 511) rfl (N4 (us:=[(lkV a.kind .nilFunc B9),(lkV a.kind .nilFunc J9)]) (cs':=[(lkV a.kind .nilFunc B9),(lkV a.kind .nilFunc J9)]) B7z rfl rfl rfl 0 rfl rfl rfl (by simp only [List.all_cons,List.all_nil,Bool.and_true,Bool.and_eq_true];exact ⟨S3 rfl rfl,S3 rfl rfl⟩) rfl rfl) (fun _=>(mk [false,false,true] rfl)) (fun _=>A2.refl) fun _=>?_
   refine zhp [9] 0 (zml 10 1023) [(5,bv (H5 a.kind B9))] ?_
   refine A4z (by kernel_rfl) ?_
   refine sr 29 rfl (ip' 3 26 [(17,bv (!(H5 a.kind B9)))] ?_)
   refine zio 7 19 17 24 (!(E9 a.kind a.n)) (fun g63=>?_) ?_
   ·refine ip' 1 6 [(18,pt b62 0)] (ix rfl (B2 (v:=(lkV a.kind .nilFunc B9)) A4w rfl rfl 0 rfl rfl) (ip' 1 4 [(20,pt b1 1)] (ix rfl (B2 (v:=iv a.n) ty3 rfl rfl 2 rfl rfl) (ixc rfl (O6 (A0x a.kind a.n (by first|assumption|(have hh:H5 a.kind B9=true:=(by first|assumption|simp_all);exact hh)) _ rfl) rfl rfl rfl rfl fn0) (ip' 2 0 [(24,bv (!(E9 a.kind a.n)))] ?_)))))
    exact zai 7 17 24 g63
   refine ip' 1 18 [(25,bv ((!(H5 a.kind B9))||(!(E9 a.kind a.n))))] ?_
   refine zio 7 11 25 32 (!(F4 a.kind a.m)) (fun g64=>?_) ?_
   ·have g64p:=g64;try simp at g64p
    refine ip' 1 6 [(26,pt b62 1)] (ix rfl (B2 (v:=(lkV a.kind .nilFunc J9)) A4w rfl rfl 0 rfl rfl) (ip' 1 4 [(28,pt b1 2)] (ix rfl (B2 (v:=iv a.m) ty3 rfl rfl 2 rfl rfl) (ixc rfl (O6 (A0u a.kind a.m (by first|assumption|(have hh:H5 a.kind B9=true:=(by first|assumption|simp_all);exact hh)) _ rfl) rfl rfl rfl rfl fn0) (ip' 2 0 [(32,bv (!(F4 a.kind a.m)))] ?_)))))
    exact zai 7 25 32 g64
   refine ip' 1 10 [(33,bv (((!(H5 a.kind B9))||(!(E9 a.kind a.n)))||(!(F4 a.kind a.m))))] ?_
   refine zio 5 5 33 38 (!(decide (a.color=Col.zero))) (fun g65=>?_) ?_
   ·have g65p:=g65;try simp at g65p
    refine ip' 1 4 [(34,pt b1 3)] (ix rfl (F6 (us:=K3 a.color) B2d rfl rfl 2 rfl rfl rfl) (zrl 1 2 [] [(36,ag (K3 Col.zero))] (ix rfl (V8 (a:=a.color) (b:=Col.zero) B0d rfl rfl rfl) (ip' 1 0 [(38,bv (!(decide (a.color=Col.zero))))] ?_))))
    exact zai 6 33 38 g65
   refine ip' 1 4 [(39,bv ((((!(H5 a.kind B9))||(!(E9 a.kind a.n)))||(!(F4 a.kind a.m)))||(!(decide (a.color=Col.zero)))))] ?_
   refine zio 4 0 39 43 (!(decide (a.text=([]:List UInt8)))) (fun g66=>?_) ?_
   ·have g66p:=g66;try simp at g66p
    refine ip' 1 3 [(40,pt b1 5)] (ix rfl (B2 (v:=sv a.text) ty9 rfl rfl 2 rfl rfl) (ix rfl (A2l rfl rfl rfl) (ip' 1 0 [(43,bv (!(decide (a.text=([]:List UInt8)))))] ?_)))
    exact zai 5 39 43 g66
   refine ie ?_
   refine zjb rfl hR ?_ ?_<;>clear hR<;>intro hR h67
   ·have h67p:=h67;try simp at h67p
    refine A5 1 rfl (ip' 1 0 [(3,iv 200)] (A7 (nx (A8 (sr 2 rfl (ip' 2 0 [(73,bv true)] (ie (K1 rfl (sr 1 rfl (ip' 1 0 [(2,iv 200)] ?_))))))))))
    subst hR
    refine ie (B5 ?_)
    exact G1 hr hD
   have h67p:=h67;try simp at h67p
   refine B1 (nx (A8 (sr 2 rfl (ip' 2 0 [(73,bv false)] (ie (A4y rfl (B1 (nx (sr 1 rfl (ip' 1 0 [(2,iv 0)] ?_))))))))))
   subst hR
   refine ie (B5 ?_)
   exact G1 hr hD
 ·refine B3s 7 [bx b1 (A0 a) 26] (zml 10 134) rfl rfl rfl (by kernel_rfl) (by kernel_rfl) (by kernel_rfl) (X0 (cs:=[.nilFunc,.nilFunc]) A8x rfl) (fun b68=>(mk [false,true] rfl)) (fun b68=>A2.refl) fun b68=>?_
  refine zho 0 [bx b1 (A0 a) 26] (zml 10 135) rfl (C4 (L2:=[bx b68 [.nilFunc,.nilFunc] 134,bx b1 (A0 a) 26]) (Z3 _ rfl) rfl rfl rfl rfl rfl fn0 (List.Perm.refl _) (fun b69=>[(b69,.map (A9 C7z 0).toArray 41),bx b68 [.nilFunc,.nilFunc] 134,bx b1 (A0 a) 26]) (fun _=>rfl)) (fun b69=>(mk [false,false,true] rfl)) (fun b69=>A2.refl) fun b69=>?_
  refine zho 3 [bx b1 (A0 a) 26] (zml 10 143) rfl (Det.tri (I5.det (by exact K7 (S0 B3p K2 rfl rfl rfl 0 rfl (by kernel_rfl) (by kernel_rfl)) (A2h a.kind)))) (fun _=>(mk [false,false,true] rfl)) (fun _=>A2.refl) fun _=>?_
  refine zhp [4,5,6] 2 (zml 10 255) [(13,ag [(lkV a.kind .nilFunc B9),(lkV a.kind .nilFunc J9)]),(14,bv (H5 a.kind B9))] ?_
  refine zho 8 [bx b1 (A0 a) 26] (zml 10 511) rfl (N4 (us:=[(lkV a.kind .nilFunc B9),(lkV a.kind .nilFunc J9)]) (cs':=[(lkV a.kind .nilFunc B9),(lkV a.kind .nilFunc J9)]) B7z rfl rfl rfl 1 rfl rfl rfl (by simp only [List.all_cons,List.all_nil,Bool.and_true,Bool.and_eq_true];exact ⟨S3 rfl rfl,S3 rfl rfl⟩) rfl rfl) (fun _=>(mk [false,false,true] rfl)) (fun _=>A2.refl) fun _=>?_
  refine zhp [9] 0 (zml 10 1023) [(5,bv (H5 a.kind B9))] ?_
  refine A4z (by kernel_rfl) ?_
  refine sr 29 rfl (ip' 3 26 [(17,bv (!(H5 a.kind B9)))] ?_)
  refine zio 7 19 17 24 (!(E9 a.kind a.n)) (fun g70=>?_) ?_
  ·refine ip' 1 6 [(18,pt b68 0)] (ix rfl (B2 (v:=(lkV a.kind .nilFunc B9)) A4w rfl rfl 1 rfl rfl) (ip' 1 4 [(20,pt b1 1)] (ix rfl (B2 (v:=iv a.n) ty3 rfl rfl 2 rfl rfl) (ixc rfl (O6 (A0x a.kind a.n (by first|assumption|(have hh:H5 a.kind B9=true:=(by first|assumption|simp_all);exact hh)) _ rfl) rfl rfl rfl rfl fn0) (ip' 2 0 [(24,bv (!(E9 a.kind a.n)))] ?_)))))
   exact zai 7 17 24 g70
  refine ip' 1 18 [(25,bv ((!(H5 a.kind B9))||(!(E9 a.kind a.n))))] ?_
  refine zio 7 11 25 32 (!(F4 a.kind a.m)) (fun g71=>?_) ?_
  ·have g71p:=g71;try simp at g71p
   refine ip' 1 6 [(26,pt b68 1)] (ix rfl (B2 (v:=(lkV a.kind .nilFunc J9)) A4w rfl rfl 1 rfl rfl) (ip' 1 4 [(28,pt b1 2)] (ix rfl (B2 (v:=iv a.m) ty3 rfl rfl 2 rfl rfl) (ixc rfl (O6 (A0u a.kind a.m (by first|assumption|(have hh:H5 a.kind B9=true:=(by first|assumption|simp_all);exact hh)) _ rfl) rfl rfl rfl rfl fn0) (ip' 2 0 [(32,bv (!(F4 a.kind a.m)))] ?_)))))
   exact zai 7 25 32 g71
  refine ip' 1 10 [(33,bv (((!(H5 a.kind B9))||(!(E9 a.kind a.n)))||(!(F4 a.kind a.m))))] ?_
  refine zio 5 5 33 38 (!(decide (a.color=Col.zero))) (fun g72=>?_) ?_
  ·have g72p:=g72;try simp at g72p
   refine ip' 1 4 [(34,pt b1 3)] (ix rfl (F6 (us:=K3 a.color) B2d rfl rfl 2 rfl rfl rfl) (zrl 1 2 [] [(36,ag (K3 Col.zero))] (ix rfl (V8 (a:=a.color) (b:=Col.zero) B0d rfl rfl rfl) (ip' 1 0 [(38,bv (!(decide (a.color=Col.zero))))] ?_))))
   exact zai 6 33 38 g72
  refine ip' 1 4 [(39,bv ((((!(H5 a.kind B9))||(!(E9 a.kind a.n)))||(!(F4 a.kind a.m)))||(!(decide (a.color=Col.zero)))))] ?_
  refine zio 4 0 39 43 (!(decide (a.text=([]:List UInt8)))) (fun g73=>?_) ?_
  ·have g73p:=g73;try simp at g73p
   refine ip' 1 3 [(40,pt b1 5)] (ix rfl (B2 (v:=sv a.text) ty9 rfl rfl 2 rfl rfl) (ix rfl (A2l rfl rfl rfl) (ip' 1 0 [(43,bv (!(decide (a.text=([]:List UInt8)))))] ?_)))
   exact zai 5 39 43 g73
  refine ie ?_
  refine zjb rfl hR ?_ ?_<;>clear hR<;>intro hR h74
  ·have h74p:=h74;try simp at h74p
   refine A5 1 rfl (ip' 1 0 [(3,iv 200)] (A7 (nx (A8 (sr 2 rfl (ip' 2 0 [(73,bv true)] (ie (K1 rfl (sr 1 rfl (ip' 1 0 [(2,iv 200)] ?_))))))))))
   subst hR
   refine ie (B5 ?_)
   exact G1 hr hD
  have h74p:=h74;try simp at h74p
  refine B1 (nx (A8 (sr 2 rfl (ip' 2 0 [(73,bv false)] (ie (A4y rfl (B1 (nx (sr 1 rfl (ip' 1 0 [(2,iv 0)] ?_))))))))))
  subst hR
  refine ie (B5 ?_)
  exact G1 hr hD
end Go.Proofs.YtanighkpfmgnbaaGreatDoor
set_option linter.unusedVariables false
set_option linter.unusedSimpArgs false
set_option linter.unnecessarySimpa false
set_option maxRecDepth 100000
namespace Go.Proofs.YtanighkpfmgnbaaGreatDoor
open Go Go.Fen
theorem D5d {k:Int} (h:1≤k∧k≤46):([1,2,3,4,5,6,7,8,9,10,11,12,13,15,16,14,17,18,20,21,33,19,22,23,24,25,28,29,30,31,32,34,26,27,35,40,36,37,38,41,42,43,39,44,45,46]:List Int).contains k=true:=by
 simp only [List.contains_cons,List.contains_nil,Bool.or_false,Bool.or_eq_true,beq_iff_eq];omega
theorem C4x {l:List Act} {p:Act→Prop} (h:∀ a ∈ l,p a) (hz:p Act.zero) (i:Nat):p (l.getD i Act.zero):=by
 by_cases hi:i<l.length
 ·rw [gdE hi];exact h _ (List.getElem_mem hi)
 ·rw [gdN hi];exact hz
theorem C3c (s:List UInt8) (n:Int):(A1j s n).length≤1:=by
 unfold A1j;simp only [List.length_take,List.length_drop];omega
theorem E0d {c:Bool} {x y:List UInt8} {B:Nat} (hx:x.length≤B) (hy:y.length≤B):(bif c then x else y).length≤B:=by cases c<;>assumption
set_option maxHeartbeats 4000000 in
theorem C6h (a:Act) (h:a.text.length≤100000000):(A2u a).length≤100010000:=by
 unfold A2u
 have p:=B4w a.n
 have s1:=fun s n=>C3c s n
 have r1:=A2g
 have e:=A7m
 have o:=B1l a.n a.m a.color a.text
 have oa:=B0c a.n a.m a.color a.text
 have ob:=A9p a.n a.m a.color a.text
 repeat' (with_reducible refine E0d ?_ ?_)
 all_goals simp only [A3j,G9,S5,A3o,S7,A3p,F9,V7,A2v,A2m,A2j,A2n,A3m,A2p,A2q,B6,List.length_append,List.length_cons,List.length_nil,List.length_take]
 all_goals first|omega|exact Nat.le_trans (e _) (by omega)|(refine Nat.le_trans (Nat.add_le_add_right (Nat.add_le_add_left (r1 _ _) _) _) ?_;omega)|(have q1:=r1 1 [a.m];have q2:=fun s=>s1 s a.n;have q3:=q2 [65,66,67,68];have q4:=q2 [69,70];have q5:=q2 [83,84];omega)|(have q1:=s1 [15,14] (a.n - 0);have q2:=s1 [62,61] (a.n - 0);have q3:=s1 [78,79] (a.n - 2);omega)|(have q1:=s1 [40,41,42,43] a.n;have q2:=s1 [66,48] a.m;omega)|(have q1:=r1 (-2) [a.n];have q2:=s1 [108,104] a.m;omega)
theorem E0q {c:Bool} (h:(bif c then (200:Int) else 0)=0):c=false:=by cases c<;>simp at h ⊢
theorem D6m {a:Act} (h:H5 a.kind B9=true):a.kind=17∨a.kind=18∨a.kind=19∨a.kind=20∨a.kind=26∨a.kind=27∨a.kind=35∨a.kind=38∨a.kind=40∨a.kind=41∨a.kind=2∨a.kind=3∨a.kind=4∨a.kind=5∨a.kind=6∨a.kind=8∨a.kind=9∨a.kind=10∨a.kind=11∨a.kind=12∨a.kind=13∨a.kind=15∨a.kind=16∨a.kind=7∨a.kind=14∨a.kind=42∨a.kind=21∨a.kind=33∨a.kind=22∨a.kind=23∨a.kind=24∨a.kind=25∨a.kind=28∨a.kind=29∨a.kind=30∨a.kind=31∨a.kind=32∨a.kind=34∨a.kind=36∨a.kind=37∨a.kind=43:=by
 rw [B1x] at h
 simp only [B9,List.map_cons,List.map_nil,List.contains_cons,List.contains_nil,Bool.or_false,Bool.or_eq_true,beq_iff_eq] at h
 omega
theorem D1w {a:Act} (h:L8 a=0) (hk3:a.text.length≤100000000):B2f a:=by
 unfold L8 at h
 by_cases e1:a.kind=1
 ·unfold B2f;omega
 ·rw [decide_eq_false e1,cond_false] at h
  by_cases e2:a.kind=39
  ·unfold B2f;omega
  ·rw [decide_eq_false e2,cond_false] at h
   by_cases e3:a.kind=44
   ·unfold B2f;omega
   ·rw [decide_eq_false e3,cond_false] at h
    by_cases e4:a.kind=45
    ·unfold B2f;omega
    rw [decide_eq_false e4,cond_false] at h
    by_cases e5:a.kind=46
    ·unfold B2f;omega
    rw [decide_eq_false e5,cond_false] at h
    have h:=E0q h
    simp only [Bool.or_eq_false_iff,Bool.not_eq_false'] at h
    obtain ⟨⟨⟨⟨hh,h1⟩,h2⟩,_⟩,_⟩:=h
    clear e1 e2 e3 e4 e5
    rcases D6m hh with h | h | h | h | h | h | h | h | h | h | h | h | h | h | h | h | h | h | h | h | h | h | h | h | h | h | h | h | h | h | h | h | h | h | h | h | h | h | h | h | h
    all_goals
     rw [h] at h1 h2
     simp only [E9,F4,A6,Z5,Int.reduceEq,decide_true,decide_false,cond_true,cond_false,Bool.and_eq_true,Bool.or_eq_true,decide_eq_true_eq] at h1 h2
     unfold B2f
     omega
def Z2 (l:List Act) (ag_emit_Bytes_l4:List UInt8→Int→(List UInt8×Int)):Nat→List UInt8→Int→Int→(List UInt8×Int)
 | 0,_,_,_=>([],0)
 | fu3+1,b1,at_1,n=>(bif (((decide (n<(l.length:Int)))&&(decide (n<(at_1+16))))&&(decide ((l.getD ((n).toNat) Act.zero).kind=39))) then Z2 l ag_emit_Bytes_l4 fu3 b1 at_1 (n+1) else (bif (decide (n=at_1)) then ag_emit_Bytes_l4 (b1++(A2u (l.getD ((at_1).toNat) Act.zero))) (at_1+1) else (B6 (A2z ((l.drop ((at_1).toNat)).take (((n).toNat) - ((at_1).toNat)))) fun (y0:List UInt8)=>ag_emit_Bytes_l4 (b1++y0) ((n - 1)+1))))
def R2 (l:List Act):Nat→List UInt8→Int→(List UInt8×Int)
 | 0,_,_=>([],0)
 | fu1+1,b,at_=>(bif (decide (at_<(l.length:Int))) then Z2 l (R2 l fu1) (((l.length:Int) - at_).toNat+1) b at_ at_ else (b,0))
def Q1 (l:List Act):List Act→Nat→(List UInt8×Int)
 | [],t15=>R2 l (((l.length:Int) - 0).toNat+1) ([]:List UInt8) 0
 | hd_l0::tl_l0,t15=>(bif (!decide ((L8 hd_l0)=0)) then (([]:List UInt8),(L8 hd_l0)) else Q1 l tl_l0 (t15+1))
def N7 (l:List Act):List UInt8×Int :=
 (bif (decide ((131072:Int)<(l.length:Int))) then (([]:List UInt8),3) else Q1 l l 0)
theorem B1f (l:List Act) (h:∀ a ∈ l,a.text.length≤100000000) (ag:List UInt8→Int→List UInt8×Int) (B:Nat) (hag:∀ b t,(ag b t).1.length≤b.length+B):∀ (fu:Nat) (b:List UInt8) (t n:Int),(Z2 l ag fu b t n).1.length≤b.length+100010000+B
 | 0,b,t,n=>Nat.zero_le _
 | fu+1,b,t,n=>by
  rw [Z2];unfold B6;simp only [Bool.cond_eq_ite];repeat' split
  ·exact B1f l h ag B hag fu b t (n+1)
  ·refine Nat.le_trans (hag _ _) ?_
   have:=C6h (l.getD t.toNat Act.zero) (C4x h (by decide) _)
   rw [List.length_append];omega
  ·refine Nat.le_trans (hag _ _) ?_
   have:=A7m ((l.drop t.toNat).take (n.toNat - t.toNat))
   rw [List.length_append];omega
theorem B1i (l:List Act) (h:∀ a ∈ l,a.text.length≤100000000):∀ (fu:Nat) (b:List UInt8) (t:Int),(R2 l fu b t).1.length≤b.length+fu * 100010000
 | 0,b,t=>Nat.zero_le _
 | fu+1,b,t=>by
  rw [R2]
  cases decide (t<(l.length:Int)) with
  | true=>exact Nat.le_trans (B1f l h _ (fu * 100010000) (B1i l h fu) _ _ _ _) (by omega)
  | false=>exact Nat.le_add_right _ _
theorem B0x (L:List Act) (h:∀ a ∈ L,a.text.length≤100000000) (hL:L.length≤131072):∀ (l:List Act) (t:Nat),(Q1 L l t).1.length≤13200000000000
 | [],t=>by
  have:=B1i L h (((L.length:Int) - 0).toNat+1) [] 0
  rw [Q1];simp only [List.length_nil] at this;omega
 | a::l,t=>by
  rw [Q1]
  cases (!decide ((L8 a)=0)) with
  | true=>exact Nat.zero_le _
  | false=>exact B0x L h hL l (t+1)
theorem A6b (l:List Act) (h:∀ a ∈ l,a.text.length≤100000000):(N7 l).1.length≤13200000000000:=by
 unfold N7
 by_cases hl:(131072:Int)<(l.length:Int)
 ·rw [decide_eq_true hl];exact Nat.zero_le _
 ·rw [decide_eq_false hl];exact B0x l h (by omega) l 0
theorem A9c (l:List Act) (lq:Option Addr) (lk:Nat) (hll:l.length≤9223372036854775807) (hcl:l.length≤lk) (hkind:∀ a ∈ l,a.text.length≤100000000) (R:List UInt8×Int) (hR:N7 l=R):Con Tryz.prog 15 [.slice lq l.length lk] [] [sl A0 lq l,A1y,A1z,M9,M1,I6,N9] ({r:VR // VOk 1 R.1.length r}) (fun x=>.tuple #[.slice (va x.1.q) R.1.length x.1.k,iv R.2]) (fun x=>((vo cU8 5 x.1 R.1)++([]))) (fun x=>[]):=by
 refine zco Tryz.func15 [(0,.slice lq l.length lk)] fun X hX hr hD=>?_
 replace hR:=(N7.eq_1 ..).symm.trans hR
 refine sr 2 rfl (ip' 2 0 [(2,.slice none 0 0)] (ie (C7x (A8 (sr 3 rfl (ip' 3 0 [(12,bv (decide ((131072:Int)<(l.length:Int))))] (ie ?_)))))))
 refine zjd rfl hR ?_ ?_<;>clear hR<;>intro hR h1 h1p
 ·refine sr 2 rfl (ip' 2 0 [(2,.slice none 0 0),(3,iv 3)] ?_)
  subst hR
  refine ie (B5 ?_)
  exact zer hr hD (A5j rfl (C1 rfl) (C1 rfl)) ⟨VR.nil,VOk.nil⟩ (mc [vo cU8 5 VR.nil ([]:List UInt8)] [true] rfl (by first|rfl|(simp only [List.length_set]<;>rfl))) fn0
 refine B1 (nx (A8 (sr 3 rfl (ip' 3 0 [(13,.slice lq l.length lk),(14,iv (l.length:Int)),(15,iv 0)] (ie (B4 (D0s (fun (t15:Nat)=>(t15≤l.length∧Q1 l (l.drop t15) t15=R∧(∀ i<t15,L8 (l.getD i Act.zero)=0),[(0,.slice lq l.length lk),(2,.slice none 0 0),(13,.slice lq l.length lk),(14,iv (l.length:Int)),(15,iv (t15:Int))],[],[sl A0 lq l,A1y,A1z,M9,M1,I6,N9],l.length - t15)) 0 ⟨(by omega),hR,(by intro i hi;omega)⟩ (mk [] rfl) A2.refl ?_)))))))
 rintro t15 ⟨hm2,hR,hchk⟩
 have hkt:=C4x hkind (by decide) t15
 refine sr 1 rfl (ip' 1 0 [(16,bv (decide ((t15:Int)<(l.length:Int))))] ?_)
 refine ie (A8 (A1q rfl (fun h3=>?_) (fun h3=>?_)))
 ·have h3p:(t15:Int)<(l.length:Int):=by simpa using h3
  rw [A5r Act.zero (show t15<l.length by omega)] at hR;replace hR:=(Q1.eq_2 ..).symm.trans hR
  refine B1 (nx (A8 (B4 (sr 4 rfl (S9 0 rfl (by omega) fun a4 hq5=>(ix rfl (M2 A1n rfl rfl hq5 rfl t15 rfl (by omega)) (ix rfl (N8 (us:=A0 (l.getD t15 Act.zero)) B4h rfl rfl (O2 (c:=A0) (sz:=6) hq5 (fun _=>rfl) 0 rfl (gd Act.zero (by omega))) rfl) ?_)))))))
  refine M8 2 0 [0] (fun b6=>[(5,pt b6 0)]) (fun b6=>[bx b6 (A0 (l.getD t15 Act.zero)) 26]) (fun b6=>?_)
  refine ie (sr 3 rfl (zrl 1 2 [0] [(19,ag (A0 (l.getD t15 Act.zero)))] (zca (C4a (l.getD t15 Act.zero) (by first|omega|exact hkt) _ rfl) (A2.pick [1,2,3,4,5] rfl) (ip' 1 0 [(6,iv (L8 (l.getD t15 Act.zero)))] (ie (sr 2 rfl (ip' 2 0 [(22,bv (!decide ((L8 (l.getD t15 Act.zero))=0)))] (ie ?_))))))))
  refine zjn rfl hR ?_ ?_<;>clear hR<;>intro hR h7 h7p
  ·refine sr 3 rfl (ip' 3 0 [(2,.slice none 0 0),(3,iv (L8 (l.getD t15 Act.zero)))] ?_)
   subst hR
   refine ie (B5 ?_)
   exact zer hr hD (A5j rfl (C1 rfl) (C1 rfl)) ⟨VR.nil,VOk.nil⟩ (mc [[bx b6 (A0 (l.getD t15 Act.zero)) 26],vo cU8 5 VR.nil ([]:List UInt8)] [false,true] rfl (by first|rfl|(simp only [List.length_set]<;>rfl))) fn0
  refine B1 (nx (A5 2 rfl (ix rfl (B7 rfl rfl rfl rfl (by omega)) (ip' 1 0 [(15,iv ((t15:Int)+1))] (A7 ?_)))))
  exact D0o (z1:=t15) (t15+1) ⟨(by omega),hR,(by intro i hi;rcases Nat.lt_succ_iff_lt_or_eq.1 hi with hi | rfl;exact hchk i hi;exact Decidable.of_not_not (by assumption))⟩ (by (try dsimp only);omega) (mk [false] rfl) A2.refl
 have h3p:¬ ((t15:Int)<(l.length:Int)):=by simpa using h3
 rw [A5s h3p] at hR;replace hR:=(Q1.eq_1 ..).symm.trans hR
 refine H7 (nx (sr 2 rfl (it rfl (C4 (L2:=[]) (C3x _ rfl) rfl rfl rfl rfl rfl (A2.pick [5,6,3,4] rfl) (List.Perm.refl _) (fun ⟨⟨b8,ml9⟩,hk10⟩=>[(b8,.map (A9 ml9 0).toArray ml9.length)]) (fun _=>rfl)) fun ⟨⟨b8,ml9⟩,hk10⟩=>?_)))
 refine ip' 1 0 [(7,.map (some b8))] (ie (A8 (C7t (nx (A8 (sr 1 rfl (ip' 1 0 [(8,iv 0)] (ie (B4 (A3e (F8 [vo cU8 5 VR.nil ([]:List UInt8),[(b8,.map (A9 ml9 0).toArray ml9.length)]] [1,0] 2 rfl (by decide) rfl [[(b8,.map (A9 ml9 0).toArray ml9.length)],vo cU8 5 VR.nil ([]:List UInt8)] rfl (by first|rfl|simp)) ?_))))))))))
 refine C3e (fun (fu:Nat) (b:List UInt8) (br:VR) (at_:Int)=>(((l.length:Int) - at_).toNat<fu∧R2 l fu b at_=R∧VOk 1 b.length br∧0≤at_∧at_≤(l.length:Int)∧(b.length:Int)≤100010000 * at_,[(0,.slice lq l.length lk),(2,.slice (va br.q) b.length br.k),(7,.map (some b8)),(8,iv at_)],((b8,.map (A9 ml9 0).toArray ml9.length)::(vo cU8 5 br b)++([])),[C0h Tryz.prog ml9 tC,sl A0 lq l,A1y,A1z,M9,M1,I6,N9],fu)) (((l.length:Int) - 0).toNat+1) ([]:List UInt8) VR.nil 0 ⟨(Nat.lt_succ_self _),hR,VOk.nil,(by omega),(by simp)⟩ (mc [[(b8,.map (A9 ml9 0).toArray ml9.length)],vo cU8 5 VR.nil ([]:List UInt8)] [true,true] rfl (by first|rfl|(simp only [List.length_set]<;>rfl))) A2.refl ?_
 rintro fu b br at_ ⟨hm11,hR,hokbr,ha,hb⟩
 have:=VOk.le hokbr
 obtain ⟨fu1,rfl⟩:∃ m,fu=m+1:=⟨fu - 1,by omega⟩
 replace hR:=(R2.eq_2 ..).symm.trans hR
 refine A8 (sr 4 rfl (ip' 4 0 [(29,bv (decide (at_<(l.length:Int))))] ?_))
 refine ie ?_
 refine zjd rfl hR ?_ ?_<;>clear hR<;>intro hR h12 h12p
 ·refine B1 (nx (A8 (B4 (A8 (sr 2 rfl (ip' 2 0 [(9,iv at_)] (ie (B4 ?_))))))))
  refine E3i (fun (fu2:Nat) (b1:List UInt8) (br1:VR) (at_1:Int) (n:Int)=>(((l.length:Int) - n).toNat<fu2∧Z2 l (R2 l fu1) fu2 b1 at_1 n=R∧VOk 1 b1.length br1∧at_1=at_∧0≤at_1∧at_1<(l.length:Int)∧at_1≤n∧n≤(l.length:Int)∧n≤at_1+16∧(b1.length:Int)≤100010000 * at_1,[(0,.slice lq l.length lk),(2,.slice (va br1.q) b1.length br1.k),(7,.map (some b8)),(8,iv at_1),(9,iv n)],((b8,.map (A9 ml9 0).toArray ml9.length)::(vo cU8 5 br1 b1)++([])),[C0h Tryz.prog ml9 tC,sl A0 lq l,A1y,A1z,M9,M1,I6,N9],fu2)) (((l.length:Int) - at_).toNat+1) b br at_ at_ ⟨(Nat.lt_succ_self _),hR,hokbr,(by omega),(by omega)⟩ (mc [[(b8,.map (A9 ml9 0).toArray ml9.length)],vo cU8 5 br b] [true,true] rfl (by first|rfl|(simp only [List.length_set]<;>rfl))) A2.refl ?_
  rintro fu2 b1 br1 at_1 n ⟨hm13,hR,hokbr1,hn,hb1⟩
  have:=VOk.le hokbr1
  obtain ⟨fu3,rfl⟩:∃ m,fu2=m+1:=⟨fu2 - 1,by omega⟩
  replace hR:=(Z2.eq_2 ..).symm.trans hR
  refine A8 (B4 (A8 (sr 18 rfl (ip' 5 13 [(39,bv (decide (n<(l.length:Int))))] ?_))))
  refine zid 5 8 39 44 (decide (n<(at_1+16))) (fun g14 g14p=>?_) ?_
  ·refine ip' 2 3 [(40,iv n),(41,iv at_1)] (ix rfl (B7 rfl rfl rfl rfl (by omega)) (ip' 2 0 [(44,bv (decide (n<(at_1+16))))] ?_))
   exact A7 (U9 5 39 44 g14 A2.refl (mc [[(b8,.map (A9 ml9 0).toArray ml9.length)],vo cU8 5 br1 b1] [true,true] rfl (by first|rfl|(simp only [List.length_set]<;>rfl))) rfl rfl rfl rfl rfl)
  refine ip' 1 7 [(45,bv ((decide (n<(l.length:Int)))&&(decide (n<(at_1+16)))))] ?_
  refine zia 7 0 45 52 (decide ((l.getD ((n).toNat) Act.zero).kind=39)) (fun g15=>?_) ?_
  ·have g15p:(n<(l.length:Int))∧(n<(at_1+16)):=by simpa using g15
   refine ip' 2 5 [(46,.slice lq l.length lk),(47,iv n)] (S9 1 rfl (by omega) fun a16 hq17=>(ix rfl (M2 A1n rfl rfl hq17 rfl ((n).toNat) (by omega) (by omega)) (ip' 1 3 [(49,pa (Addr.add a16 (((n).toNat) * 6)))] (ix rfl (F3 (v:=iv ((l.getD ((n).toNat) Act.zero).kind)) (us:=[iv ((l.getD ((n).toNat) Act.zero).kind)]) ty3 rfl rfl (A8b (O2 (c:=A0) (sz:=6) hq17 (fun _=>rfl) 1 rfl (gd Act.zero (by omega))) (ws:=[iv ((l.getD ((n).toNat) Act.zero).kind)]) 1 rfl) rfl) (ip' 2 0 [(52,bv (decide ((l.getD ((n).toNat) Act.zero).kind=39)))] ?_)))))
   exact A7 (U9 7 45 52 g15 A2.refl (mc [[(b8,.map (A9 ml9 0).toArray ml9.length)],vo cU8 5 br1 b1] [true,true] rfl (by first|rfl|(simp only [List.length_set]<;>rfl))) rfl rfl rfl rfl rfl)
  refine ie ?_
  refine zjb rfl hR ?_ ?_<;>clear hR<;>intro hR h18
  ·have h18p:((n<(l.length:Int))∧(n<(at_1+16)))∧((l.getD ((n).toNat) Act.zero).kind=39):=by simpa using h18
   refine H7 (nx (A5 3 rfl (ip' 1 2 [(33,iv n)] ?_)))
   refine ix rfl (B7 rfl rfl rfl rfl (by omega)) (ip' 1 0 [(9,iv (n+1))] (A7 ?_))
   exact E3k (z1:=(fu3+1)) (z2:=b1) (z3:=br1) (z4:=at_1) (z5:=n) fu3 b1 br1 at_1 (n+1) ⟨(by omega),hR,hokbr1,(by omega),(by omega)⟩ (Nat.lt_succ_self _) (mc [[(b8,.map (A9 ml9 0).toArray ml9.length)],vo cU8 5 br1 b1] [true,true] rfl (by first|rfl|(simp only [List.length_set]<;>rfl))) A2.refl
  have h18p:¬ (((n<(l.length:Int))∧(n<(at_1+16)))∧((l.getD ((n).toNat) Act.zero).kind=39)):=by simpa using h18
  refine B1 (nx (A8 (sr 3 rfl (ip' 3 0 [(55,bv (decide (n=at_1)))] (ie ?_)))))
  refine zjd rfl hR ?_ ?_<;>clear hR<;>intro hR h19 h19p
  ·refine H7 (nx ?_)
   refine sh' 15 [(15,[(b8,.map (A9 ml9 0).toArray ml9.length)]),(13,vo cU8 5 br1 b1)] [C0h Tryz.prog ml9 tC,sl A0 lq l,A1y,A1z,M9,M1,I6,N9] ((b8,.map (A9 ml9 0).toArray ml9.length)::(vo cU8 5 br1 b1)++([])) (zml 15 0) (by kernel_rfl) rfl (by kernel_rfl) (by kernel_rfl) (by kernel_rfl) (mc [[(b8,.map (A9 ml9 0).toArray ml9.length)],vo cU8 5 br1 b1] [true,true] rfl (by first|rfl|(simp only [List.length_set]<;>rfl))) A2.refl ?_
   refine zhp [0,1,2,3,8,9] 9 (zml 15 783) [(65,.slice (va br1.q) b1.length br1.k),(66,.map (some b8)),(67,.slice lq l.length lk),(68,iv at_1),(73,.slice lq l.length lk),(74,iv at_1)] ?_
   refine D3x 1 rfl (by omega) fun a20 hq21=>?_
   refine zhk 4 (zml 15 799) rfl (M2 A1n rfl rfl hq21 rfl ((at_1).toNat) (by omega) (by omega)) ?_
   refine zhp [5] 7 (zml 15 831) [(70,pa (Addr.add a20 (((at_1).toNat) * 6)))] ?_
   refine zhk 6 (zml 15 895) rfl (F3 (v:=iv ((l.getD ((at_1).toNat) Act.zero).kind)) (us:=[iv ((l.getD ((at_1).toNat) Act.zero).kind)]) ty3 rfl rfl (A8b (O2 (c:=A0) (sz:=6) hq21 (fun _=>rfl) 1 rfl (gd Act.zero (by omega))) (ws:=[iv ((l.getD ((at_1).toNat) Act.zero).kind)]) 1 rfl) rfl) (zhl 7 [(b8,.map (A9 ml9 0).toArray ml9.length)] (zml 15 1023) rfl (by exact D0x (z:=.nilFunc) ml9 P7 rfl rfl rfl 0 rfl (by rw [List.toList_toArray]) (by kernel_rfl)) ?_)
   refine zhk 10 (zml 15 2047) rfl (M2 A1n rfl rfl hq21 rfl ((at_1).toNat) (by omega) (by omega)) (zhk 11 (zml 15 4095) rfl (N8 (us:=A0 (l.getD ((at_1).toNat) Act.zero)) B4h rfl rfl (O2 (c:=A0) (sz:=6) hq21 (fun _=>rfl) 1 rfl (gd Act.zero (by omega))) rfl) ?_)
   have htp:=D1w (hchk ((at_1).toNat) (by omega)) (C4x hkind (by decide) ((at_1).toNat))
   refine zho 12 ((b8,.map (A9 ml9 0).toArray ml9.length)::(vo cU8 5 br1 b1)++([])) (zml 15 8191) rfl (Det.tri (by exact D5f (C:=tC) (B0 0 rfl) (by rw [B1x,hk10];exact D5d ⟨htp.2.1,htp.2.2.1⟩) ⟨(l.getD ((at_1).toNat) Act.zero),⟨rfl,by exact htp⟩,rfl,rfl⟩ rfl rfl rfl rfl)) (fun _=>(mc [[(b8,.map (A9 ml9 0).toArray ml9.length)],vo cU8 5 br1 b1] [true,true] rfl (by first|rfl|(simp only [List.length_set]<;>rfl)))) (fun _=>A2.refl) fun _=>?_
   have:=C6h _ htp.1
   refine zho 13 [(b8,.map (A9 ml9 0).toArray ml9.length)] (zml 15 16383) rfl (B4m (r:=br1) (xs:=b1) (s:=(A2u (l.getD ((at_1).toNat) Act.zero))) (pre:=[(b8,.map (A9 ml9 0).toArray ml9.length)]) (post:=[]) C6u (by kernel_rfl) Tryz.underlying9 rfl rfl rfl rfl rfl rfl rfl hokbr1 (by first|omega|(simp<;>omega))) (fun ⟨r22,hr23⟩=>(mc [[(b8,.map (A9 ml9 0).toArray ml9.length)],vo cU8 5 r22 (b1++(A2u (l.getD ((at_1).toNat) Act.zero)))] [true,false] rfl (by first|rfl|(simp only [List.length_set]<;>rfl)))) (fun ⟨r22,hr23⟩=>A2.refl) fun ⟨r22,hr23⟩=>?_
   have:=@List.length_append _ b1 (A2u (l.getD ((at_1).toNat) Act.zero))
   have:=VOk.le hr23
   have:=VOk.cap hr23
   refine zhp [14] 0 (zml 15 32767) [(2,.slice (va r22.q) ((b1++(A2u (l.getD ((at_1).toNat) Act.zero))).length) r22.k)] ?_
   refine B5r (by kernel_rfl) ?_
   refine nx (A5 3 rfl (ip' 1 2 [(30,iv at_1)] (ix rfl (B7 rfl rfl rfl rfl (by omega)) (ip' 1 0 [(8,iv (at_1+1))] (A7 ?_)))))
   exact B9v (z1:=(fu1+1)) (z2:=b) (z3:=br) (z4:=at_) fu1 (b1++(A2u (l.getD ((at_1).toNat) Act.zero))) r22 (at_1+1) ⟨(by omega),hR,hr23,(by omega),(by first|omega|(simp<;>omega))⟩ (Nat.lt_succ_self _) (mc [[(b8,.map (A9 ml9 0).toArray ml9.length)],vo cU8 5 r22 (b1++(A2u (l.getD ((at_1).toNat) Act.zero)))] [true,true] rfl (by first|rfl|(simp only [List.length_set]<;>rfl))) A2.refl
  refine B1 (nx (sr 8 rfl (ip' 4 4 [(56,.slice (va br1.q) b1.length br1.k),(57,.slice lq l.length lk),(58,iv at_1),(59,iv n)] (F2 (D8x (c:=A0) (sz:=6) (xs:=l) (B0 1 rfl) ((at_1).toNat) ((n).toNat) lk (fun _=>rfl) rfl (by omega) (by omega)) ?_))))
  refine ix rfl (B7u (n':=((l.drop ((at_1).toNat)).take (((n).toNat) - ((at_1).toNat))).length) A1n rfl rfl ((at_1).toNat) ((n).toNat) lk (A6o rfl (by omega)) (A6o rfl (by omega)) B3g (by omega) (by omega) (by omega) (by first|rfl|omega|(simp<;>omega)|(simp;done)) rfl) ?_
  have:=@List.length_drop _ ((at_1).toNat) l
  have:=@List.length_take _ (((n).toNat) - ((at_1).toNat)) (l.drop ((at_1).toNat))
  have hQ:=D0 hR;clear hR;obtain ⟨y0,hy0,hR⟩:=hQ
  refine zca (C1c ((l.drop ((at_1).toNat)).take (((n).toNat) - ((at_1).toNat))) (C2i lq ((at_1).toNat) 6 lk) (lk - ((at_1).toNat)) (by first|omega|(simp<;>omega)|(dsimp only;omega)|decide) (by first|omega|(simp<;>omega)|(dsimp only;omega)|decide) y0 hy0) (A2.pick [0,8,7] rfl) ?_
  have:=A7m ((l.drop ((at_1).toNat)).take (((n).toNat) - ((at_1).toNat)));try rw [hy0] at this
  refine it rfl (B4m (r:=br1) (xs:=b1) (s:=y0) (pre:=[(b8,.map (A9 ml9 0).toArray ml9.length)]) (post:=[]) C6u (by kernel_rfl) Tryz.underlying9 rfl rfl rfl rfl rfl rfl rfl hokbr1 (by first|omega|(simp<;>omega))) fun ⟨r24,hr25⟩=>?_
  have:=@List.length_append _ b1 y0
  have:=VOk.le hr25
  have:=VOk.cap hr25
  refine ip' 1 0 [(2,.slice (va r24.q) ((b1++y0).length) r24.k)] (ie (sr 3 rfl (ip' 1 2 [(63,iv n)] (ix rfl (W9 rfl rfl rfl rfl (by omega)) (ip' 1 0 [(8,iv (n - 1))] (ie (H7 (nx (A5 3 rfl (ip' 1 2 [(30,iv (n - 1))] (ix rfl (B7 rfl rfl rfl rfl (by omega)) (ip' 1 0 [(8,iv ((n - 1)+1))] ?_))))))))))))
  refine A7 ?_
  exact B9v (z1:=(fu1+1)) (z2:=b) (z3:=br) (z4:=at_) fu1 (b1++y0) r24 ((n - 1)+1) ⟨(by omega),hR,hr25,(by omega),(by first|omega|(simp<;>omega))⟩ (Nat.lt_succ_self _) (mc [[(b8,.map (A9 ml9 0).toArray ml9.length)],vo cU8 5 r24 (b1++y0)] [true,true] rfl (by first|rfl|(simp only [List.length_set]<;>rfl))) (A2.pick [1,2,3,4,5,6,7,8] rfl)
 refine H7 (nx (sr 3 rfl (ip' 3 0 [(2,.slice (va br.q) b.length br.k),(3,iv 0)] ?_)))
 subst hR
 refine ie (B5 ?_)
 exact zer hr hD (A5j rfl (C1 rfl) (C1 rfl)) ⟨br,hokbr⟩ (mc [[(b8,.map (A9 ml9 0).toArray ml9.length)],vo cU8 5 br b] [false,true] rfl (by first|rfl|(simp only [List.length_set]<;>rfl))) fn0
end Go.Proofs.YtanighkpfmgnbaaGreatDoor
set_option linter.unusedVariables false
set_option linter.unusedSimpArgs false
set_option linter.unnecessarySimpa false
set_option maxRecDepth 100000
namespace Go.Proofs.YtanighkpfmgnbaaGreatDoor
open Go Go.Fen
end Go.Proofs.YtanighkpfmgnbaaGreatDoor
