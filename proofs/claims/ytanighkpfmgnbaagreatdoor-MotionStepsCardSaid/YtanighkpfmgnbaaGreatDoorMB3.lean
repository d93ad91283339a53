import Derived.Test.YtanighkpfmgnbaaGreatDoorProg
import Derived.Test.YtanighkpfmgnbaaGreatDoorMA2
import Derived.Test.YtanighkpfmgnbaaGreatDoorMB1
import Derived.Test.YtanighkpfmgnbaaGreatDoorMA3
import Derived.Test.YtanighkpfmgnbaaGreatDoorMB2
set_option linter.unusedVariables false
set_option linter.unusedSimpArgs false
set_option linter.unnecessarySimpa false
set_option maxRecDepth 100000
namespace Go.Proofs.YtanighkpfmgnbaaGreatDoor
open Go Go.Fen
theorem I0:MapTy Tryz.prog 136 3 134 (.int .i64):=⟨by kernel_rfl,by kernel_rfl,rfl⟩
theorem C8n:SlTy Tryz.prog 186 184 2:=⟨by kernel_rfl,by kernel_rfl⟩
theorem B3g:Ty Tryz.prog 134 2 true:=⟨by kernel_rfl⟩
theorem C4o:Ty Tryz.prog 184 2 true:=⟨by kernel_rfl⟩
theorem A4n:Zero Tryz.prog 134 [.nilFunc,.nilFunc]:=⟨by kernel_rfl⟩
def A3t (cp:Int):List Spn→Nat→Bool
 | [],t9=>false
 | hd_l0::tl_l0,t9=>(bif ((decide (hd_l0.lo≤cp))&&(decide (cp≤hd_l0.hi))) then true else A3t cp tl_l0 (t9+1))
def A0z (cp:Int) (l:List Spn):Bool :=
 A3t cp l 0
theorem B1g (cp:Int) (l:List Spn) (lq:Option Addr) (lk:Nat) (hll:l.length≤9223372036854775807) (hcl:l.length≤lk) (R:Bool) (hR:A0z cp l=R):K0 Tryz.prog 116 [iv cp,.slice lq l.length lk] [sl A9 lq l] (bv R):=by
 refine zco Tryz.func116 [(0,iv cp),(1,.slice lq l.length lk)] fun X hX hr hD=>?_
 replace hR:=(A0z.eq_1 ..).symm.trans hR
 refine sr 1 rfl (ip' 1 0 [] (ie (A8 (sr 3 rfl (ip' 3 0 [(7,.slice lq l.length lk),(8,iv (l.length:Int)),(9,iv 0)] (ie (B3 (C2d (fun (t9:Nat)=>(t9≤l.length∧A3t cp (l.drop t9) t9=R,[(0,iv cp),(7,.slice lq l.length lk),(8,iv (l.length:Int)),(9,iv (t9:Int))],[],[sl A9 lq l],l.length - t9)) 0 ⟨(by omega),hR⟩ (mk [] rfl) A0.refl ?_))))))))
 rintro t9 ⟨hm1,hR⟩
 refine sr 1 rfl (ip' 1 0 [(10,bv (decide ((t9:Int)<(l.length:Int))))] ?_)
 refine ie (A8 (W4 rfl (fun h2=>?_) (fun h2=>?_)))
 ·have h2p:(t9:Int)<(l.length:Int):=by simpa using h2
  rw [A1s Spn.zero (show t9<l.length by omega)] at hR;replace hR:=(A3t.eq_2 ..).symm.trans hR
  refine B0 (nx (A8 (B3 (sr 4 rfl (O8 0 rfl (by omega) fun a3 hq4=>(ix rfl (L6 C8n rfl rfl hq4 rfl t9 rfl (by omega)) (ix rfl (N2 (us:=A9 (l.getD t9 Spn.zero)) C4o rfl rfl (N1 (c:=A9) (sz:=2) hq4 (fun _=>rfl) 0 rfl (gd Spn.zero (by omega))) rfl) ?_)))))))
  refine N3 2 0 [0] (fun b5=>[(6,pt b5 0)]) (fun b5=>[bx b5 (A9 (l.getD t9 Spn.zero)) 184]) (fun b5=>?_)
  refine ie (sr 10 rfl (zrl 5 5 [0] [(17,bv (decide ((l.getD t9 Spn.zero).lo≤cp)))] ?_))
  refine zid 5 0 17 22 (decide (cp≤(l.getD t9 Spn.zero).hi)) (fun g6 g6p=>?_) ?_
  ·refine zrl 5 0 [0] [(22,bv (decide (cp≤(l.getD t9 Spn.zero).hi)))] ?_
   exact zai 2 17 22 g6
  refine ie ?_
  refine zja rfl hR ?_ ?_<;>clear hR<;>intro hR h7 h7p
  ·refine sr 1 rfl (ip' 1 0 [(4,bv true)] ?_)
   subst hR
   refine ie (B2 ?_)
   exact G0 hr hD
  refine B0 (nx (A4 2 rfl (ix rfl (B4 rfl rfl rfl rfl (by omega)) (ip' 1 0 [(9,iv ((t9:Int)+1))] (A6 ?_)))))
  exact C2t (z1:=t9) (t9+1) ⟨(by omega),hR⟩ (by (try dsimp only);omega) (mk [false] rfl) A0.refl
 have h2p:¬ ((t9:Int)<(l.length:Int)):=by simpa using h2
 rw [A1p h2p] at hR;replace hR:=(A3t.eq_1 ..).symm.trans hR
 refine H3 (nx (sr 1 rfl (ip' 1 0 [(4,bv false)] ?_)))
 subst hR
 refine ie (B2 ?_)
 exact G0 hr hD
def A7b (cp:Int):Int :=
 (bif ((!(A2s cp))||(A0z cp ([(⟨0,31⟩:Spn),(⟨127,159⟩:Spn)]:List Spn))) then (-1) else (bif (decide (cp<(B6m.getD 0 Spn.zero).lo)) then 1 else (bif (A0z cp B6m) then 0 else (bif (A0z cp C6s) then 2 else 1))))
theorem C3c (cp:Int) (R:Int) (hR:A7b cp=R):K0 Tryz.prog 62 [iv cp] [A8n,A8m] (iv R):=by
 refine zco Tryz.func62 [(0,iv cp)] fun X hX hr hD=>?_
 replace hR:=(A7b.eq_1 ..).symm.trans hR
 refine sr 1 rfl (ip' 1 0 [] (ie (A8 (B3 (sr 11 rfl (ip' 1 10 [(4,iv cp)] (zca (B4w cp _ rfl) fn0 (ip' 2 7 [(7,bv (!(A2s cp)))] ?_))))))))
 refine zio 6 1 7 13 (A0z cp ([(⟨0,31⟩:Spn),(⟨127,159⟩:Spn)]:List Spn)) (fun g1=>?_) ?_
 ·refine zrl 3 3 [] [(8,iv cp),(9,ag (A9 (⟨0,31⟩:Spn))),(10,ag (A9 (⟨127,159⟩:Spn)))] (it rfl (B5 (c:=A9) (xs:=([(⟨0,31⟩:Spn),(⟨127,159⟩:Spn)]:List Spn)) C8n rfl rfl rfl (by kernel_rfl)) fun b2=>?_)
  have:([(⟨0,31⟩:Spn),(⟨127,159⟩:Spn)]:List Spn).length=2:=rfl
  refine zca (B1g cp ([(⟨0,31⟩:Spn),(⟨127,159⟩:Spn)]:List Spn) (some ⟨b2,0,none⟩) 2 (by first|omega|(simp<;>omega)|(dsimp only;omega)|decide) (by first|omega|(simp<;>omega)|(dsimp only;omega)|decide) _ rfl) (A0.pick [0] rfl) (ip' 1 0 [(13,bv (A0z cp ([(⟨0,31⟩:Spn),(⟨127,159⟩:Spn)]:List Spn)))] ?_)
  exact A6 (Q5 7 7 13 g1 (A0.pick [1,2] rfl) (mk [] rfl) rfl rfl rfl rfl rfl)
 refine ip' 1 0 [(3,bv ((!(A2s cp))||(A0z cp ([(⟨0,31⟩:Spn),(⟨127,159⟩:Spn)]:List Spn))))] (ie ?_)
 refine zjb rfl hR ?_ ?_<;>clear hR<;>intro hR h3
 ·have h3p:=h3;try simp at h3p
  refine sr 1 rfl (ip' 1 0 [(2,iv (-1))] ?_)
  subst hR
  refine ie (B2 ?_)
  exact G0 hr hD
 have h3p:=h3;try simp at h3p
 refine sr 6 rfl (ip' 1 5 [(15,iv cp)] (ix rfl (B1r Tryz.underlying185 C4o rfl rfl rfl 0 rfl (by first|decide|omega)) (ip' 1 3 [(17,pa (Addr.add ⟨0,0,none⟩ (0 * 2)))] (ix rfl (C1 (v:=iv ((B6m.getD 0 Spn.zero).lo)) (us:=[iv ((B6m.getD 0 Spn.zero).lo)]) ty3 rfl rfl (P1 (N1 (c:=A9) (sz:=2) rfl (fun _=>rfl) 0 rfl (gd Spn.zero (by first|decide|(simp only [B6m,List.length_cons,List.length_nil];omega)))) (ws:=[iv ((B6m.getD 0 Spn.zero).lo)]) 1 rfl) rfl) (ip' 2 0 [(14,bv (decide (cp<(B6m.getD 0 Spn.zero).lo)))] (ie ?_))))))
 refine zjd rfl hR ?_ ?_<;>clear hR<;>intro hR h4 h4p
 ·refine sr 1 rfl (ip' 1 0 [(2,iv 1)] ?_)
  subst hR
  refine ie (B2 ?_)
  exact G0 hr hD
 refine sr 4 rfl (ip' 1 3 [(21,iv cp)] (ix rfl (B8c Tryz.underlying185 C4o rfl rfl) (zca (B1g cp B6m (some ⟨0,0,none⟩) 11 (by first|omega|(simp<;>omega)|(dsimp only;omega)|decide) (by first|omega|(simp<;>omega)|(dsimp only;omega)|decide) _ rfl) (A0.pick [0] rfl) (ip' 1 0 [(20,bv (A0z cp B6m))] (ie ?_)))))
 refine zjb rfl hR ?_ ?_<;>clear hR<;>intro hR h5
 ·refine sr 1 rfl (ip' 1 0 [(2,iv 0)] ?_)
  subst hR
  refine ie (B2 ?_)
  exact G0 hr hD
 refine sr 4 rfl (ip' 1 3 [(25,iv cp)] (ix rfl (B8c Tryz.underlying187 C4o rfl rfl) (zca (B1g cp C6s (some ⟨1,0,none⟩) 13 (by first|omega|(simp<;>omega)|(dsimp only;omega)|decide) (by first|omega|(simp<;>omega)|(dsimp only;omega)|decide) _ rfl) (A0.pick [1] rfl) (ip' 1 0 [(24,bv (A0z cp C6s))] (ie ?_)))))
 refine zjb rfl hR ?_ ?_<;>clear hR<;>intro hR h6
 ·refine sr 1 rfl (ip' 1 0 [(2,iv 2)] ?_)
  subst hR
  refine ie (B2 ?_)
  exact G0 hr hD
 refine B0 (nx (sr 1 rfl (ip' 1 0 [(2,iv 1)] ?_)))
 subst hR
 refine ie (B2 ?_)
 exact G0 hr hD
def A1o (kind:Int) (n:Int) (m:Int):Act :=
 {Act.zero with kind:=kind,n:=n,m:=m}
theorem C1s (kind:Int) (n:Int) (m:Int) (R:Act) (hR:A1o kind n m=R):K0 Tryz.prog 63 [iv kind,iv n,iv m] [] (ag (A7 R)):=by
 refine zco Tryz.func63 [(0,iv kind),(1,iv n),(2,iv m)] fun X hX hr hD=>?_
 replace hR:=(A1o.eq_1 ..).symm.trans hR
 refine sr 1 rfl (N3 1 0 [] (fun b1=>[(6,pt b1 0)]) (fun b1=>[bx b1 (A7 Act.zero) 26]) (fun b1=>(ie (sr 5 rfl (zrg 5 0 [0] [] [bx b1 (A7 ({Act.zero with kind:=kind,n:=n,m:=m})) 26] ?_)))))
 subst hR
 refine ie (B2 ?_)
 exact zer hr hD (M3 rfl (D8 (us:=A7 ({Act.zero with kind:=kind,n:=n,m:=m})) B0l rfl 0 rfl rfl rfl)) () (mk [false] rfl) fn0
def B0v:Unit :=
 ()
theorem B5j (R:Unit) (hR:B0v=R):K0 Tryz.prog 122 [] [] (.tuple #[.func (.func 123) #[ag (A9 (⟨0,0⟩:Spn))] #[],.func (.func 123) #[ag (A9 (⟨0,1⟩:Spn))] #[],.func (.func 123) #[ag (A9 (⟨1,9999⟩:Spn))] #[],.func (.func 123) #[ag (A9 (⟨0,9999⟩:Spn))] #[]]):=by
 refine zco Tryz.func122 [] fun X hX hr hD=>?_
 replace hR:=(B0v.eq_1 ..).symm.trans hR
 refine sr 4 rfl (ip' 4 0 [] (ie (sr 12 rfl (zrl 12 0 [] [(0,.func (.func 123) #[ag (A9 (⟨0,0⟩:Spn))] #[]),(1,.func (.func 123) #[ag (A9 (⟨0,1⟩:Spn))] #[]),(2,.func (.func 123) #[ag (A9 (⟨1,9999⟩:Spn))] #[]),(3,.func (.func 123) #[ag (A9 (⟨0,9999⟩:Spn))] #[])] ?_))))
 subst hR
 refine ie (B2 ?_)
 exact zer hr hD (D3r rfl (B9 rfl) (B9 rfl) (B9 rfl) (B9 rfl)) () (mk [] rfl) fn0
def me0:Value:=ag [.func (.func 123) #[ag (A9 (⟨0,3⟩:Spn))] #[],.func (.func 123) #[ag (A9 (⟨0,1⟩:Spn))] #[]]
def mt0:List (Int×Value):=[(17,me0)]
def me1:Value:=ag [.func (.func 123) #[ag (A9 (⟨2,3⟩:Spn))] #[],.func (.func 123) #[ag (A9 (⟨0,0⟩:Spn))] #[]]
def mt1:List (Int×Value):=[(17,me0),(18,me1)]
def me2:Value:=ag [.func (.func 123) #[ag (A9 (⟨1,9999⟩:Spn))] #[],.func (.func 123) #[ag (A9 (⟨1,9999⟩:Spn))] #[]]
def mt2:List (Int×Value):=[(17,me0),(18,me1),(19,me2)]
def me3:Value:=ag [.func (.func 123) #[ag (A9 (⟨0,3⟩:Spn))] #[],.func (.func 123) #[ag (A9 (⟨1,9999⟩:Spn))] #[]]
def mt3:List (Int×Value):=[(17,me0),(18,me1),(19,me2),(20,me3)]
def me4:Value:=ag [.func (.func 123) #[ag (A9 (⟨0,3⟩:Spn))] #[],.func (.func 123) #[ag (A9 (⟨0,0⟩:Spn))] #[]]
def mt4:List (Int×Value):=[(17,me0),(18,me1),(19,me2),(20,me3),(26,me4)]
def me5:Value:=ag [.func (.func 123) #[ag (A9 (⟨0,2⟩:Spn))] #[],.func (.func 123) #[ag (A9 (⟨0,0⟩:Spn))] #[]]
def mt5:List (Int×Value):=[(17,me0),(18,me1),(19,me2),(20,me3),(26,me4),(27,me5)]
def me6:Value:=ag [.func (.func 124) #[] #[],.func (.func 123) #[ag (A9 (⟨0,0⟩:Spn))] #[]]
def mt6:List (Int×Value):=[(17,me0),(18,me1),(19,me2),(20,me3),(26,me4),(27,me5),(35,me6)]
def me7:Value:=ag [.func (.func 123) #[ag (A9 (⟨0,9999⟩:Spn))] #[],.func (.func 123) #[ag (A9 (⟨0,9999⟩:Spn))] #[]]
def mt7:List (Int×Value):=[(17,me0),(18,me1),(19,me2),(20,me3),(26,me4),(27,me5),(35,me6),(38,me7)]
def me8:Value:=ag [.func (.func 123) #[ag (A9 (⟨0,6⟩:Spn))] #[],.func (.func 123) #[ag (A9 (⟨0,0⟩:Spn))] #[]]
def mt8:List (Int×Value):=[(17,me0),(18,me1),(19,me2),(20,me3),(26,me4),(27,me5),(35,me6),(38,me7),(40,me8)]
def me9:Value:=ag [.func (.func 123) #[ag (A9 (⟨5,6⟩:Spn))] #[],.func (.func 123) #[ag (A9 (⟨0,0⟩:Spn))] #[]]
def mt9:List (Int×Value):=[(17,me0),(18,me1),(19,me2),(20,me3),(26,me4),(27,me5),(35,me6),(38,me7),(40,me8),(41,me9)]
def A1j:Value:=ag [.func (.func 123) #[ag (A9 (⟨0,0⟩:Spn))] #[],.func (.func 123) #[ag (A9 (⟨0,0⟩:Spn))] #[]]
def D2m:List (Int×Value):=[(17,me0),(18,me1),(19,me2),(20,me3),(26,me4),(27,me5),(35,me6),(38,me7),(40,me8),(41,me9),(2,A1j)]
def A1x:Value:=ag [.func (.func 123) #[ag (A9 (⟨0,0⟩:Spn))] #[],.func (.func 123) #[ag (A9 (⟨0,0⟩:Spn))] #[]]
def D1u:List (Int×Value):=[(17,me0),(18,me1),(19,me2),(20,me3),(26,me4),(27,me5),(35,me6),(38,me7),(40,me8),(41,me9),(2,A1j),(3,A1x)]
def A2f:Value:=ag [.func (.func 123) #[ag (A9 (⟨0,0⟩:Spn))] #[],.func (.func 123) #[ag (A9 (⟨0,0⟩:Spn))] #[]]
def D1h:List (Int×Value):=[(17,me0),(18,me1),(19,me2),(20,me3),(26,me4),(27,me5),(35,me6),(38,me7),(40,me8),(41,me9),(2,A1j),(3,A1x),(4,A2f)]
def A2l:Value:=ag [.func (.func 123) #[ag (A9 (⟨0,0⟩:Spn))] #[],.func (.func 123) #[ag (A9 (⟨0,0⟩:Spn))] #[]]
def D1x:List (Int×Value):=[(17,me0),(18,me1),(19,me2),(20,me3),(26,me4),(27,me5),(35,me6),(38,me7),(40,me8),(41,me9),(2,A1j),(3,A1x),(4,A2f),(5,A2l)]
def A2q:Value:=ag [.func (.func 123) #[ag (A9 (⟨0,0⟩:Spn))] #[],.func (.func 123) #[ag (A9 (⟨0,0⟩:Spn))] #[]]
def D0r:List (Int×Value):=[(17,me0),(18,me1),(19,me2),(20,me3),(26,me4),(27,me5),(35,me6),(38,me7),(40,me8),(41,me9),(2,A1j),(3,A1x),(4,A2f),(5,A2l),(6,A2q)]
def A3u:Value:=ag [.func (.func 123) #[ag (A9 (⟨0,0⟩:Spn))] #[],.func (.func 123) #[ag (A9 (⟨0,0⟩:Spn))] #[]]
def D1j:List (Int×Value):=[(17,me0),(18,me1),(19,me2),(20,me3),(26,me4),(27,me5),(35,me6),(38,me7),(40,me8),(41,me9),(2,A1j),(3,A1x),(4,A2f),(5,A2l),(6,A2q),(8,A3u)]
def A3w:Value:=ag [.func (.func 123) #[ag (A9 (⟨0,0⟩:Spn))] #[],.func (.func 123) #[ag (A9 (⟨0,0⟩:Spn))] #[]]
def D1t:List (Int×Value):=[(17,me0),(18,me1),(19,me2),(20,me3),(26,me4),(27,me5),(35,me6),(38,me7),(40,me8),(41,me9),(2,A1j),(3,A1x),(4,A2f),(5,A2l),(6,A2q),(8,A3u),(9,A3w)]
def A4l:Value:=ag [.func (.func 123) #[ag (A9 (⟨0,0⟩:Spn))] #[],.func (.func 123) #[ag (A9 (⟨0,0⟩:Spn))] #[]]
def D0m:List (Int×Value):=[(17,me0),(18,me1),(19,me2),(20,me3),(26,me4),(27,me5),(35,me6),(38,me7),(40,me8),(41,me9),(2,A1j),(3,A1x),(4,A2f),(5,A2l),(6,A2q),(8,A3u),(9,A3w),(10,A4l)]
def A5a:Value:=ag [.func (.func 123) #[ag (A9 (⟨0,0⟩:Spn))] #[],.func (.func 123) #[ag (A9 (⟨0,0⟩:Spn))] #[]]
def D1e:List (Int×Value):=[(17,me0),(18,me1),(19,me2),(20,me3),(26,me4),(27,me5),(35,me6),(38,me7),(40,me8),(41,me9),(2,A1j),(3,A1x),(4,A2f),(5,A2l),(6,A2q),(8,A3u),(9,A3w),(10,A4l),(11,A5a)]
def A5s:Value:=ag [.func (.func 123) #[ag (A9 (⟨0,0⟩:Spn))] #[],.func (.func 123) #[ag (A9 (⟨0,0⟩:Spn))] #[]]
def D2i:List (Int×Value):=[(17,me0),(18,me1),(19,me2),(20,me3),(26,me4),(27,me5),(35,me6),(38,me7),(40,me8),(41,me9),(2,A1j),(3,A1x),(4,A2f),(5,A2l),(6,A2q),(8,A3u),(9,A3w),(10,A4l),(11,A5a),(12,A5s)]
def A6o:Value:=ag [.func (.func 123) #[ag (A9 (⟨0,0⟩:Spn))] #[],.func (.func 123) #[ag (A9 (⟨0,0⟩:Spn))] #[]]
def D1g:List (Int×Value):=[(17,me0),(18,me1),(19,me2),(20,me3),(26,me4),(27,me5),(35,me6),(38,me7),(40,me8),(41,me9),(2,A1j),(3,A1x),(4,A2f),(5,A2l),(6,A2q),(8,A3u),(9,A3w),(10,A4l),(11,A5a),(12,A5s),(13,A6o)]
def A6t:Value:=ag [.func (.func 123) #[ag (A9 (⟨0,0⟩:Spn))] #[],.func (.func 123) #[ag (A9 (⟨0,0⟩:Spn))] #[]]
def D1w:List (Int×Value):=[(17,me0),(18,me1),(19,me2),(20,me3),(26,me4),(27,me5),(35,me6),(38,me7),(40,me8),(41,me9),(2,A1j),(3,A1x),(4,A2f),(5,A2l),(6,A2q),(8,A3u),(9,A3w),(10,A4l),(11,A5a),(12,A5s),(13,A6o),(15,A6t)]
def A8b:Value:=ag [.func (.func 123) #[ag (A9 (⟨0,0⟩:Spn))] #[],.func (.func 123) #[ag (A9 (⟨0,0⟩:Spn))] #[]]
def D1o:List (Int×Value):=[(17,me0),(18,me1),(19,me2),(20,me3),(26,me4),(27,me5),(35,me6),(38,me7),(40,me8),(41,me9),(2,A1j),(3,A1x),(4,A2f),(5,A2l),(6,A2q),(8,A3u),(9,A3w),(10,A4l),(11,A5a),(12,A5s),(13,A6o),(15,A6t),(16,A8b)]
def A8p:Value:=ag [.func (.func 123) #[ag (A9 (⟨0,1⟩:Spn))] #[],.func (.func 123) #[ag (A9 (⟨0,0⟩:Spn))] #[]]
def D0s:List (Int×Value):=[(17,me0),(18,me1),(19,me2),(20,me3),(26,me4),(27,me5),(35,me6),(38,me7),(40,me8),(41,me9),(2,A1j),(3,A1x),(4,A2f),(5,A2l),(6,A2q),(8,A3u),(9,A3w),(10,A4l),(11,A5a),(12,A5s),(13,A6o),(15,A6t),(16,A8b),(7,A8p)]
def A9e:Value:=ag [.func (.func 123) #[ag (A9 (⟨0,1⟩:Spn))] #[],.func (.func 123) #[ag (A9 (⟨0,0⟩:Spn))] #[]]
def D2c:List (Int×Value):=[(17,me0),(18,me1),(19,me2),(20,me3),(26,me4),(27,me5),(35,me6),(38,me7),(40,me8),(41,me9),(2,A1j),(3,A1x),(4,A2f),(5,A2l),(6,A2q),(8,A3u),(9,A3w),(10,A4l),(11,A5a),(12,A5s),(13,A6o),(15,A6t),(16,A8b),(7,A8p),(14,A9e)]
def B0r:Value:=ag [.func (.func 123) #[ag (A9 (⟨0,1⟩:Spn))] #[],.func (.func 123) #[ag (A9 (⟨0,0⟩:Spn))] #[]]
def D0q:List (Int×Value):=[(17,me0),(18,me1),(19,me2),(20,me3),(26,me4),(27,me5),(35,me6),(38,me7),(40,me8),(41,me9),(2,A1j),(3,A1x),(4,A2f),(5,A2l),(6,A2q),(8,A3u),(9,A3w),(10,A4l),(11,A5a),(12,A5s),(13,A6o),(15,A6t),(16,A8b),(7,A8p),(14,A9e),(42,B0r)]
def B2d:Value:=ag [.func (.func 123) #[ag (A9 (⟨0,1⟩:Spn))] #[],.func (.func 123) #[ag (A9 (⟨1,9999⟩:Spn))] #[]]
def D0k:List (Int×Value):=[(17,me0),(18,me1),(19,me2),(20,me3),(26,me4),(27,me5),(35,me6),(38,me7),(40,me8),(41,me9),(2,A1j),(3,A1x),(4,A2f),(5,A2l),(6,A2q),(8,A3u),(9,A3w),(10,A4l),(11,A5a),(12,A5s),(13,A6o),(15,A6t),(16,A8b),(7,A8p),(14,A9e),(42,B0r),(21,B2d)]
def B3b:Value:=ag [.func (.func 123) #[ag (A9 (⟨0,1⟩:Spn))] #[],.func (.func 123) #[ag (A9 (⟨1,9999⟩:Spn))] #[]]
def D0v:List (Int×Value):=[(17,me0),(18,me1),(19,me2),(20,me3),(26,me4),(27,me5),(35,me6),(38,me7),(40,me8),(41,me9),(2,A1j),(3,A1x),(4,A2f),(5,A2l),(6,A2q),(8,A3u),(9,A3w),(10,A4l),(11,A5a),(12,A5s),(13,A6o),(15,A6t),(16,A8b),(7,A8p),(14,A9e),(42,B0r),(21,B2d),(33,B3b)]
def B3w:Value:=ag [.func (.func 123) #[ag (A9 (⟨1,9999⟩:Spn))] #[],.func (.func 123) #[ag (A9 (⟨0,0⟩:Spn))] #[]]
def D1r:List (Int×Value):=[(17,me0),(18,me1),(19,me2),(20,me3),(26,me4),(27,me5),(35,me6),(38,me7),(40,me8),(41,me9),(2,A1j),(3,A1x),(4,A2f),(5,A2l),(6,A2q),(8,A3u),(9,A3w),(10,A4l),(11,A5a),(12,A5s),(13,A6o),(15,A6t),(16,A8b),(7,A8p),(14,A9e),(42,B0r),(21,B2d),(33,B3b),(22,B3w)]
def B5d:Value:=ag [.func (.func 123) #[ag (A9 (⟨1,9999⟩:Spn))] #[],.func (.func 123) #[ag (A9 (⟨0,0⟩:Spn))] #[]]
def D0l:List (Int×Value):=[(17,me0),(18,me1),(19,me2),(20,me3),(26,me4),(27,me5),(35,me6),(38,me7),(40,me8),(41,me9),(2,A1j),(3,A1x),(4,A2f),(5,A2l),(6,A2q),(8,A3u),(9,A3w),(10,A4l),(11,A5a),(12,A5s),(13,A6o),(15,A6t),(16,A8b),(7,A8p),(14,A9e),(42,B0r),(21,B2d),(33,B3b),(22,B3w),(23,B5d)]
def B7t:Value:=ag [.func (.func 123) #[ag (A9 (⟨1,9999⟩:Spn))] #[],.func (.func 123) #[ag (A9 (⟨0,0⟩:Spn))] #[]]
def D1f:List (Int×Value):=[(17,me0),(18,me1),(19,me2),(20,me3),(26,me4),(27,me5),(35,me6),(38,me7),(40,me8),(41,me9),(2,A1j),(3,A1x),(4,A2f),(5,A2l),(6,A2q),(8,A3u),(9,A3w),(10,A4l),(11,A5a),(12,A5s),(13,A6o),(15,A6t),(16,A8b),(7,A8p),(14,A9e),(42,B0r),(21,B2d),(33,B3b),(22,B3w),(23,B5d),(24,B7t)]
def B8k:Value:=ag [.func (.func 123) #[ag (A9 (⟨1,9999⟩:Spn))] #[],.func (.func 123) #[ag (A9 (⟨0,0⟩:Spn))] #[]]
def D0y:List (Int×Value):=[(17,me0),(18,me1),(19,me2),(20,me3),(26,me4),(27,me5),(35,me6),(38,me7),(40,me8),(41,me9),(2,A1j),(3,A1x),(4,A2f),(5,A2l),(6,A2q),(8,A3u),(9,A3w),(10,A4l),(11,A5a),(12,A5s),(13,A6o),(15,A6t),(16,A8b),(7,A8p),(14,A9e),(42,B0r),(21,B2d),(33,B3b),(22,B3w),(23,B5d),(24,B7t),(25,B8k)]
def B9p:Value:=ag [.func (.func 123) #[ag (A9 (⟨1,9999⟩:Spn))] #[],.func (.func 123) #[ag (A9 (⟨0,0⟩:Spn))] #[]]
def D2a:List (Int×Value):=[(17,me0),(18,me1),(19,me2),(20,me3),(26,me4),(27,me5),(35,me6),(38,me7),(40,me8),(41,me9),(2,A1j),(3,A1x),(4,A2f),(5,A2l),(6,A2q),(8,A3u),(9,A3w),(10,A4l),(11,A5a),(12,A5s),(13,A6o),(15,A6t),(16,A8b),(7,A8p),(14,A9e),(42,B0r),(21,B2d),(33,B3b),(22,B3w),(23,B5d),(24,B7t),(25,B8k),(28,B9p)]
def C1n:Value:=ag [.func (.func 123) #[ag (A9 (⟨1,9999⟩:Spn))] #[],.func (.func 123) #[ag (A9 (⟨0,0⟩:Spn))] #[]]
def D2h:List (Int×Value):=[(17,me0),(18,me1),(19,me2),(20,me3),(26,me4),(27,me5),(35,me6),(38,me7),(40,me8),(41,me9),(2,A1j),(3,A1x),(4,A2f),(5,A2l),(6,A2q),(8,A3u),(9,A3w),(10,A4l),(11,A5a),(12,A5s),(13,A6o),(15,A6t),(16,A8b),(7,A8p),(14,A9e),(42,B0r),(21,B2d),(33,B3b),(22,B3w),(23,B5d),(24,B7t),(25,B8k),(28,B9p),(29,C1n)]
def C3l:Value:=ag [.func (.func 123) #[ag (A9 (⟨1,9999⟩:Spn))] #[],.func (.func 123) #[ag (A9 (⟨0,0⟩:Spn))] #[]]
def D1n:List (Int×Value):=[(17,me0),(18,me1),(19,me2),(20,me3),(26,me4),(27,me5),(35,me6),(38,me7),(40,me8),(41,me9),(2,A1j),(3,A1x),(4,A2f),(5,A2l),(6,A2q),(8,A3u),(9,A3w),(10,A4l),(11,A5a),(12,A5s),(13,A6o),(15,A6t),(16,A8b),(7,A8p),(14,A9e),(42,B0r),(21,B2d),(33,B3b),(22,B3w),(23,B5d),(24,B7t),(25,B8k),(28,B9p),(29,C1n),(30,C3l)]
def C6p:Value:=ag [.func (.func 123) #[ag (A9 (⟨1,9999⟩:Spn))] #[],.func (.func 123) #[ag (A9 (⟨0,0⟩:Spn))] #[]]
def D1q:List (Int×Value):=[(17,me0),(18,me1),(19,me2),(20,me3),(26,me4),(27,me5),(35,me6),(38,me7),(40,me8),(41,me9),(2,A1j),(3,A1x),(4,A2f),(5,A2l),(6,A2q),(8,A3u),(9,A3w),(10,A4l),(11,A5a),(12,A5s),(13,A6o),(15,A6t),(16,A8b),(7,A8p),(14,A9e),(42,B0r),(21,B2d),(33,B3b),(22,B3w),(23,B5d),(24,B7t),(25,B8k),(28,B9p),(29,C1n),(30,C3l),(31,C6p)]
def C7n:Value:=ag [.func (.func 123) #[ag (A9 (⟨1,9999⟩:Spn))] #[],.func (.func 123) #[ag (A9 (⟨0,0⟩:Spn))] #[]]
def D1m:List (Int×Value):=[(17,me0),(18,me1),(19,me2),(20,me3),(26,me4),(27,me5),(35,me6),(38,me7),(40,me8),(41,me9),(2,A1j),(3,A1x),(4,A2f),(5,A2l),(6,A2q),(8,A3u),(9,A3w),(10,A4l),(11,A5a),(12,A5s),(13,A6o),(15,A6t),(16,A8b),(7,A8p),(14,A9e),(42,B0r),(21,B2d),(33,B3b),(22,B3w),(23,B5d),(24,B7t),(25,B8k),(28,B9p),(29,C1n),(30,C3l),(31,C6p),(32,C7n)]
def C9y:Value:=ag [.func (.func 123) #[ag (A9 (⟨1,9999⟩:Spn))] #[],.func (.func 123) #[ag (A9 (⟨0,0⟩:Spn))] #[]]
def D0p:List (Int×Value):=[(17,me0),(18,me1),(19,me2),(20,me3),(26,me4),(27,me5),(35,me6),(38,me7),(40,me8),(41,me9),(2,A1j),(3,A1x),(4,A2f),(5,A2l),(6,A2q),(8,A3u),(9,A3w),(10,A4l),(11,A5a),(12,A5s),(13,A6o),(15,A6t),(16,A8b),(7,A8p),(14,A9e),(42,B0r),(21,B2d),(33,B3b),(22,B3w),(23,B5d),(24,B7t),(25,B8k),(28,B9p),(29,C1n),(30,C3l),(31,C6p),(32,C7n),(34,C9y)]
def D1a:Value:=ag [.func (.func 123) #[ag (A9 (⟨0,9999⟩:Spn))] #[],.func (.func 123) #[ag (A9 (⟨0,1⟩:Spn))] #[]]
def D2j:List (Int×Value):=[(17,me0),(18,me1),(19,me2),(20,me3),(26,me4),(27,me5),(35,me6),(38,me7),(40,me8),(41,me9),(2,A1j),(3,A1x),(4,A2f),(5,A2l),(6,A2q),(8,A3u),(9,A3w),(10,A4l),(11,A5a),(12,A5s),(13,A6o),(15,A6t),(16,A8b),(7,A8p),(14,A9e),(42,B0r),(21,B2d),(33,B3b),(22,B3w),(23,B5d),(24,B7t),(25,B8k),(28,B9p),(29,C1n),(30,C3l),(31,C6p),(32,C7n),(34,C9y),(36,D1a)]
def D2z:Value:=ag [.func (.func 123) #[ag (A9 (⟨0,9999⟩:Spn))] #[],.func (.func 123) #[ag (A9 (⟨0,1⟩:Spn))] #[]]
def D1k:List (Int×Value):=[(17,me0),(18,me1),(19,me2),(20,me3),(26,me4),(27,me5),(35,me6),(38,me7),(40,me8),(41,me9),(2,A1j),(3,A1x),(4,A2f),(5,A2l),(6,A2q),(8,A3u),(9,A3w),(10,A4l),(11,A5a),(12,A5s),(13,A6o),(15,A6t),(16,A8b),(7,A8p),(14,A9e),(42,B0r),(21,B2d),(33,B3b),(22,B3w),(23,B5d),(24,B7t),(25,B8k),(28,B9p),(29,C1n),(30,C3l),(31,C6p),(32,C7n),(34,C9y),(36,D1a),(37,D2z)]
def D4d:Value:=ag [.func (.func 123) #[ag (A9 (⟨0,9999⟩:Spn))] #[],.func (.func 123) #[ag (A9 (⟨0,1⟩:Spn))] #[]]
def B9s:List (Int×Value):=[(17,me0),(18,me1),(19,me2),(20,me3),(26,me4),(27,me5),(35,me6),(38,me7),(40,me8),(41,me9),(2,A1j),(3,A1x),(4,A2f),(5,A2l),(6,A2q),(8,A3u),(9,A3w),(10,A4l),(11,A5a),(12,A5s),(13,A6o),(15,A6t),(16,A8b),(7,A8p),(14,A9e),(42,B0r),(21,B2d),(33,B3b),(22,B3w),(23,B5d),(24,B7t),(25,B8k),(28,B9p),(29,C1n),(30,C3l),(31,C6p),(32,C7n),(34,C9y),(36,D1a),(37,D2z),(43,D4d)]
def A9o:Unit :=
 ()
set_option maxHeartbeats 2000000 in
theorem U3 (R:Unit) (hR:A9o=R):Con Tryz.prog 66 [] [] [] (Nat) (fun x=>.map (some x)) (fun x=>[(x,.map (A5 B9s 0).toArray 41)]) (fun x=>[]):=by
 refine zco Tryz.func66 [] fun X hX hr hD=>?_
 replace hR:=(A9o.eq_1 ..).symm.trans hR
 refine sr 1 rfl (ip' 1 0 [] (ie (sr 10 rfl (zca (B5j _ rfl) fn0 (ip' 9 0 [(1,.func (.func 123) #[ag (A9 (⟨0,0⟩:Spn))] #[]),(2,.func (.func 123) #[ag (A9 (⟨0,1⟩:Spn))] #[]),(3,.func (.func 123) #[ag (A9 (⟨1,9999⟩:Spn))] #[]),(4,.func (.func 123) #[ag (A9 (⟨0,9999⟩:Spn))] #[])] (ie (sr 49 rfl (it rfl (A6c rfl) fun b1=>(zrl 4 44 [] [(26,ag [.func (.func 123) #[ag (A9 (⟨0,3⟩:Spn))] #[],.func (.func 123) #[ag (A9 (⟨0,1⟩:Spn))] #[]])] (it rfl (C2 (es:=#[]) (es':=(A5 mt0 0).toArray) I0 (.inl rfl) rfl rfl rfl 0 rfl (by kernel_rfl) (by kernel_rfl)) fun _=>?_))))))))))
 refine znl [(b1,.map (A5 mt0 0).toArray 1)] (zrl 4 39 [] [(30,ag [.func (.func 123) #[ag (A9 (⟨2,3⟩:Spn))] #[],.func (.func 123) #[ag (A9 (⟨0,0⟩:Spn))] #[]])] (it rfl (C2 (es:=(A5 mt0 0).toArray) (es':=(A5 mt1 0).toArray) I0 (.inl rfl) rfl rfl rfl 0 rfl (by kernel_rfl) (by kernel_rfl)) fun _=>?_))
 refine znl [(b1,.map (A5 mt1 0).toArray 2)] (zrl 3 35 [] [(33,ag [.func (.func 123) #[ag (A9 (⟨1,9999⟩:Spn))] #[],.func (.func 123) #[ag (A9 (⟨1,9999⟩:Spn))] #[]])] (it rfl (C2 (es:=(A5 mt1 0).toArray) (es':=(A5 mt2 0).toArray) I0 (.inl rfl) rfl rfl rfl 0 rfl (by kernel_rfl) (by kernel_rfl)) fun _=>?_))
 refine znl [(b1,.map (A5 mt2 0).toArray 3)] (zrl 4 30 [] [(37,ag [.func (.func 123) #[ag (A9 (⟨0,3⟩:Spn))] #[],.func (.func 123) #[ag (A9 (⟨1,9999⟩:Spn))] #[]])] (it rfl (C2 (es:=(A5 mt2 0).toArray) (es':=(A5 mt3 0).toArray) I0 (.inl rfl) rfl rfl rfl 0 rfl (by kernel_rfl) (by kernel_rfl)) fun _=>?_))
 refine znl [(b1,.map (A5 mt3 0).toArray 4)] (zrl 4 25 [] [(41,ag [.func (.func 123) #[ag (A9 (⟨0,3⟩:Spn))] #[],.func (.func 123) #[ag (A9 (⟨0,0⟩:Spn))] #[]])] (it rfl (C2 (es:=(A5 mt3 0).toArray) (es':=(A5 mt4 0).toArray) I0 (.inl rfl) rfl rfl rfl 0 rfl (by kernel_rfl) (by kernel_rfl)) fun _=>?_))
 refine znl [(b1,.map (A5 mt4 0).toArray 5)] (zrl 4 20 [] [(45,ag [.func (.func 123) #[ag (A9 (⟨0,2⟩:Spn))] #[],.func (.func 123) #[ag (A9 (⟨0,0⟩:Spn))] #[]])] (it rfl (C2 (es:=(A5 mt4 0).toArray) (es':=(A5 mt5 0).toArray) I0 (.inl rfl) rfl rfl rfl 0 rfl (by kernel_rfl) (by kernel_rfl)) fun _=>?_))
 refine znl [(b1,.map (A5 mt5 0).toArray 6)] (zrl 2 17 [] [(47,ag [.func (.func 124) #[] #[],.func (.func 123) #[ag (A9 (⟨0,0⟩:Spn))] #[]])] (it rfl (C2 (es:=(A5 mt5 0).toArray) (es':=(A5 mt6 0).toArray) I0 (.inl rfl) rfl rfl rfl 0 rfl (by kernel_rfl) (by kernel_rfl)) fun _=>?_))
 refine znl [(b1,.map (A5 mt6 0).toArray 7)] (zrl 3 13 [] [(50,ag [.func (.func 123) #[ag (A9 (⟨0,9999⟩:Spn))] #[],.func (.func 123) #[ag (A9 (⟨0,9999⟩:Spn))] #[]])] (it rfl (C2 (es:=(A5 mt6 0).toArray) (es':=(A5 mt7 0).toArray) I0 (.inl rfl) rfl rfl rfl 0 rfl (by kernel_rfl) (by kernel_rfl)) fun _=>?_))
 refine znl [(b1,.map (A5 mt7 0).toArray 8)] (zrl 4 8 [] [(54,ag [.func (.func 123) #[ag (A9 (⟨0,6⟩:Spn))] #[],.func (.func 123) #[ag (A9 (⟨0,0⟩:Spn))] #[]])] (it rfl (C2 (es:=(A5 mt7 0).toArray) (es':=(A5 mt8 0).toArray) I0 (.inl rfl) rfl rfl rfl 0 rfl (by kernel_rfl) (by kernel_rfl)) fun _=>?_))
 refine znl [(b1,.map (A5 mt8 0).toArray 9)] (zrl 4 3 [] [(58,ag [.func (.func 123) #[ag (A9 (⟨5,6⟩:Spn))] #[],.func (.func 123) #[ag (A9 (⟨0,0⟩:Spn))] #[]])] (it rfl (C2 (es:=(A5 mt8 0).toArray) (es':=(A5 mt9 0).toArray) I0 (.inl rfl) rfl rfl rfl 0 rfl (by kernel_rfl) (by kernel_rfl)) fun _=>?_))
 refine znl [(b1,.map (A5 mt9 0).toArray 10)] (ip' 2 0 [(5,.map (some b1))] (ie (A8 (sr 2 rfl (zrl 2 0 [] [(60,ag [iv 2,iv 3,iv 4,iv 5,iv 6,iv 8,iv 9,iv 10,iv 11,iv 12,iv 13,iv 15,iv 16]),(61,iv 0)] (ie (B3 (A0x 15 ?_))))))))
 refine F1 (sr 1 rfl (ip' 1 0 [(62,bv true)] ?_))
 refine ie (A8 (K5 rfl (B0 (nx (A8 (B3 (sr 2 rfl (ix rfl (E9 (v:=iv 2) (us:=[iv 2]) Tryz.underlying204 ty3 rfl rfl rfl 0 rfl (by decide) rfl rfl rfl) (ip' 1 0 [(7,iv 2)] (ie (A4 6 rfl (zrl 5 1 [] [(64,.map (some b1)),(65,iv 2),(68,ag [.func (.func 123) #[ag (A9 (⟨0,0⟩:Spn))] #[],.func (.func 123) #[ag (A9 (⟨0,0⟩:Spn))] #[]])] (it rfl (C2 (es:=(A5 mt9 0).toArray) (es':=(A5 D2m 0).toArray) I0 (.inr rfl) rfl rfl rfl 0 rfl (by kernel_rfl) (by kernel_rfl)) fun _=>?_)))))))))))))
 refine znl [(b1,.map (A5 D2m 0).toArray 11)] (A6 (nx (A4 2 rfl (ix rfl (B4 (c:=1) rfl rfl rfl rfl (by decide)) (ip' 1 0 [(61,iv 1)] (A6 (F1 (sr 1 rfl (ip' 1 0 [(62,bv true)] (ie (A8 (K5 rfl (B0 (nx (A8 (B3 (sr 2 rfl (ix rfl (E9 (v:=iv 3) (us:=[iv 3]) Tryz.underlying204 ty3 rfl rfl rfl 1 rfl (by decide) rfl rfl rfl) (ip' 1 0 [(7,iv 3)] (ie (A4 6 rfl (zrl 5 1 [] [(64,.map (some b1)),(65,iv 3),(68,ag [.func (.func 123) #[ag (A9 (⟨0,0⟩:Spn))] #[],.func (.func 123) #[ag (A9 (⟨0,0⟩:Spn))] #[]])] ?_))))))))))))))))))))))
 refine it rfl (C2 (es:=(A5 D2m 0).toArray) (es':=(A5 D1u 0).toArray) I0 (.inr rfl) rfl rfl rfl 0 rfl (by kernel_rfl) (by kernel_rfl)) fun _=>?_
 refine znl [(b1,.map (A5 D1u 0).toArray 12)] (A6 (nx (A4 2 rfl (ix rfl (B4 (c:=2) rfl rfl rfl rfl (by decide)) (ip' 1 0 [(61,iv 2)] (A6 (F1 (sr 1 rfl (ip' 1 0 [(62,bv true)] (ie (A8 (K5 rfl (B0 (nx (A8 (B3 (sr 2 rfl (ix rfl (E9 (v:=iv 4) (us:=[iv 4]) Tryz.underlying204 ty3 rfl rfl rfl 2 rfl (by decide) rfl rfl rfl) (ip' 1 0 [(7,iv 4)] (ie (A4 6 rfl (zrl 5 1 [] [(64,.map (some b1)),(65,iv 4),(68,ag [.func (.func 123) #[ag (A9 (⟨0,0⟩:Spn))] #[],.func (.func 123) #[ag (A9 (⟨0,0⟩:Spn))] #[]])] ?_))))))))))))))))))))))
 refine it rfl (C2 (es:=(A5 D1u 0).toArray) (es':=(A5 D1h 0).toArray) I0 (.inr rfl) rfl rfl rfl 0 rfl (by kernel_rfl) (by kernel_rfl)) fun _=>?_
 refine znl [(b1,.map (A5 D1h 0).toArray 13)] (A6 (nx (A4 2 rfl (ix rfl (B4 (c:=3) rfl rfl rfl rfl (by decide)) (ip' 1 0 [(61,iv 3)] (A6 (F1 (sr 1 rfl (ip' 1 0 [(62,bv true)] (ie (A8 (K5 rfl (B0 (nx (A8 (B3 (sr 2 rfl (ix rfl (E9 (v:=iv 5) (us:=[iv 5]) Tryz.underlying204 ty3 rfl rfl rfl 3 rfl (by decide) rfl rfl rfl) (ip' 1 0 [(7,iv 5)] (ie (A4 6 rfl (zrl 5 1 [] [(64,.map (some b1)),(65,iv 5),(68,ag [.func (.func 123) #[ag (A9 (⟨0,0⟩:Spn))] #[],.func (.func 123) #[ag (A9 (⟨0,0⟩:Spn))] #[]])] ?_))))))))))))))))))))))
 refine it rfl (C2 (es:=(A5 D1h 0).toArray) (es':=(A5 D1x 0).toArray) I0 (.inr rfl) rfl rfl rfl 0 rfl (by kernel_rfl) (by kernel_rfl)) fun _=>?_
 refine znl [(b1,.map (A5 D1x 0).toArray 14)] (A6 (nx (A4 2 rfl (ix rfl (B4 (c:=4) rfl rfl rfl rfl (by decide)) (ip' 1 0 [(61,iv 4)] (A6 (F1 (sr 1 rfl (ip' 1 0 [(62,bv true)] (ie (A8 (K5 rfl (B0 (nx (A8 (B3 (sr 2 rfl (ix rfl (E9 (v:=iv 6) (us:=[iv 6]) Tryz.underlying204 ty3 rfl rfl rfl 4 rfl (by decide) rfl rfl rfl) (ip' 1 0 [(7,iv 6)] (ie (A4 6 rfl (zrl 5 1 [] [(64,.map (some b1)),(65,iv 6),(68,ag [.func (.func 123) #[ag (A9 (⟨0,0⟩:Spn))] #[],.func (.func 123) #[ag (A9 (⟨0,0⟩:Spn))] #[]])] ?_))))))))))))))))))))))
 refine it rfl (C2 (es:=(A5 D1x 0).toArray) (es':=(A5 D0r 0).toArray) I0 (.inr rfl) rfl rfl rfl 0 rfl (by kernel_rfl) (by kernel_rfl)) fun _=>?_
 refine znl [(b1,.map (A5 D0r 0).toArray 15)] (A6 (nx (A4 2 rfl (ix rfl (B4 (c:=5) rfl rfl rfl rfl (by decide)) (ip' 1 0 [(61,iv 5)] (A6 (F1 (sr 1 rfl (ip' 1 0 [(62,bv true)] (ie (A8 (K5 rfl (B0 (nx (A8 (B3 (sr 2 rfl (ix rfl (E9 (v:=iv 8) (us:=[iv 8]) Tryz.underlying204 ty3 rfl rfl rfl 5 rfl (by decide) rfl rfl rfl) (ip' 1 0 [(7,iv 8)] (ie (A4 6 rfl (zrl 5 1 [] [(64,.map (some b1)),(65,iv 8),(68,ag [.func (.func 123) #[ag (A9 (⟨0,0⟩:Spn))] #[],.func (.func 123) #[ag (A9 (⟨0,0⟩:Spn))] #[]])] ?_))))))))))))))))))))))
 refine it rfl (C2 (es:=(A5 D0r 0).toArray) (es':=(A5 D1j 0).toArray) I0 (.inr rfl) rfl rfl rfl 0 rfl (by kernel_rfl) (by kernel_rfl)) fun _=>?_
 refine znl [(b1,.map (A5 D1j 0).toArray 16)] (A6 (nx (A4 2 rfl (ix rfl (B4 (c:=6) rfl rfl rfl rfl (by decide)) (ip' 1 0 [(61,iv 6)] (A6 (F1 (sr 1 rfl (ip' 1 0 [(62,bv true)] (ie (A8 (K5 rfl (B0 (nx (A8 (B3 (sr 2 rfl (ix rfl (E9 (v:=iv 9) (us:=[iv 9]) Tryz.underlying204 ty3 rfl rfl rfl 6 rfl (by decide) rfl rfl rfl) (ip' 1 0 [(7,iv 9)] (ie (A4 6 rfl (zrl 5 1 [] [(64,.map (some b1)),(65,iv 9),(68,ag [.func (.func 123) #[ag (A9 (⟨0,0⟩:Spn))] #[],.func (.func 123) #[ag (A9 (⟨0,0⟩:Spn))] #[]])] ?_))))))))))))))))))))))
 refine it rfl (C2 (es:=(A5 D1j 0).toArray) (es':=(A5 D1t 0).toArray) I0 (.inr rfl) rfl rfl rfl 0 rfl (by kernel_rfl) (by kernel_rfl)) fun _=>?_
 refine znl [(b1,.map (A5 D1t 0).toArray 17)] (A6 (nx (A4 2 rfl (ix rfl (B4 (c:=7) rfl rfl rfl rfl (by decide)) (ip' 1 0 [(61,iv 7)] (A6 (F1 (sr 1 rfl (ip' 1 0 [(62,bv true)] (ie (A8 (K5 rfl (B0 (nx (A8 (B3 (sr 2 rfl (ix rfl (E9 (v:=iv 10) (us:=[iv 10]) Tryz.underlying204 ty3 rfl rfl rfl 7 rfl (by decide) rfl rfl rfl) (ip' 1 0 [(7,iv 10)] (ie (A4 6 rfl (zrl 5 1 [] [(64,.map (some b1)),(65,iv 10),(68,ag [.func (.func 123) #[ag (A9 (⟨0,0⟩:Spn))] #[],.func (.func 123) #[ag (A9 (⟨0,0⟩:Spn))] #[]])] ?_))))))))))))))))))))))
 refine it rfl (C2 (es:=(A5 D1t 0).toArray) (es':=(A5 D0m 0).toArray) I0 (.inr rfl) rfl rfl rfl 0 rfl (by kernel_rfl) (by kernel_rfl)) fun _=>?_
 refine znl [(b1,.map (A5 D0m 0).toArray 18)] (A6 (nx (A4 2 rfl (ix rfl (B4 (c:=8) rfl rfl rfl rfl (by decide)) (ip' 1 0 [(61,iv 8)] (A6 (F1 (sr 1 rfl (ip' 1 0 [(62,bv true)] (ie (A8 (K5 rfl (B0 (nx (A8 (B3 (sr 2 rfl (ix rfl (E9 (v:=iv 11) (us:=[iv 11]) Tryz.underlying204 ty3 rfl rfl rfl 8 rfl (by decide) rfl rfl rfl) (ip' 1 0 [(7,iv 11)] (ie (A4 6 rfl (zrl 5 1 [] [(64,.map (some b1)),(65,iv 11),(68,ag [.func (.func 123) #[ag (A9 (⟨0,0⟩:Spn))] #[],.func (.func 123) #[ag (A9 (⟨0,0⟩:Spn))] #[]])] ?_))))))))))))))))))))))
 refine it rfl (C2 (es:=(A5 D0m 0).toArray) (es':=(A5 D1e 0).toArray) I0 (.inr rfl) rfl rfl rfl 0 rfl (by kernel_rfl) (by kernel_rfl)) fun _=>?_
 refine znl [(b1,.map (A5 D1e 0).toArray 19)] (A6 (nx (A4 2 rfl (ix rfl (B4 (c:=9) rfl rfl rfl rfl (by decide)) (ip' 1 0 [(61,iv 9)] (A6 (F1 (sr 1 rfl (ip' 1 0 [(62,bv true)] (ie (A8 (K5 rfl (B0 (nx (A8 (B3 (sr 2 rfl (ix rfl (E9 (v:=iv 12) (us:=[iv 12]) Tryz.underlying204 ty3 rfl rfl rfl 9 rfl (by decide) rfl rfl rfl) (ip' 1 0 [(7,iv 12)] (ie (A4 6 rfl (zrl 5 1 [] [(64,.map (some b1)),(65,iv 12),(68,ag [.func (.func 123) #[ag (A9 (⟨0,0⟩:Spn))] #[],.func (.func 123) #[ag (A9 (⟨0,0⟩:Spn))] #[]])] ?_))))))))))))))))))))))
 refine it rfl (C2 (es:=(A5 D1e 0).toArray) (es':=(A5 D2i 0).toArray) I0 (.inr rfl) rfl rfl rfl 0 rfl (by kernel_rfl) (by kernel_rfl)) fun _=>?_
 refine znl [(b1,.map (A5 D2i 0).toArray 20)] (A6 (nx (A4 2 rfl (ix rfl (B4 (c:=10) rfl rfl rfl rfl (by decide)) (ip' 1 0 [(61,iv 10)] (A6 (F1 (sr 1 rfl (ip' 1 0 [(62,bv true)] (ie (A8 (K5 rfl (B0 (nx (A8 (B3 (sr 2 rfl (ix rfl (E9 (v:=iv 13) (us:=[iv 13]) Tryz.underlying204 ty3 rfl rfl rfl 10 rfl (by decide) rfl rfl rfl) (ip' 1 0 [(7,iv 13)] (ie (A4 6 rfl (zrl 5 1 [] [(64,.map (some b1)),(65,iv 13),(68,ag [.func (.func 123) #[ag (A9 (⟨0,0⟩:Spn))] #[],.func (.func 123) #[ag (A9 (⟨0,0⟩:Spn))] #[]])] ?_))))))))))))))))))))))
 refine it rfl (C2 (es:=(A5 D2i 0).toArray) (es':=(A5 D1g 0).toArray) I0 (.inr rfl) rfl rfl rfl 0 rfl (by kernel_rfl) (by kernel_rfl)) fun _=>?_
 refine znl [(b1,.map (A5 D1g 0).toArray 21)] (A6 (nx (A4 2 rfl (ix rfl (B4 (c:=11) rfl rfl rfl rfl (by decide)) (ip' 1 0 [(61,iv 11)] (A6 (F1 (sr 1 rfl (ip' 1 0 [(62,bv true)] (ie (A8 (K5 rfl (B0 (nx (A8 (B3 (sr 2 rfl (ix rfl (E9 (v:=iv 15) (us:=[iv 15]) Tryz.underlying204 ty3 rfl rfl rfl 11 rfl (by decide) rfl rfl rfl) (ip' 1 0 [(7,iv 15)] (ie (A4 6 rfl (zrl 5 1 [] [(64,.map (some b1)),(65,iv 15),(68,ag [.func (.func 123) #[ag (A9 (⟨0,0⟩:Spn))] #[],.func (.func 123) #[ag (A9 (⟨0,0⟩:Spn))] #[]])] ?_))))))))))))))))))))))
 refine it rfl (C2 (es:=(A5 D1g 0).toArray) (es':=(A5 D1w 0).toArray) I0 (.inr rfl) rfl rfl rfl 0 rfl (by kernel_rfl) (by kernel_rfl)) fun _=>?_
 refine znl [(b1,.map (A5 D1w 0).toArray 22)] (A6 (nx (A4 2 rfl (ix rfl (B4 (c:=12) rfl rfl rfl rfl (by decide)) (ip' 1 0 [(61,iv 12)] (A6 (F1 (sr 1 rfl (ip' 1 0 [(62,bv true)] (ie (A8 (K5 rfl (B0 (nx (A8 (B3 (sr 2 rfl (ix rfl (E9 (v:=iv 16) (us:=[iv 16]) Tryz.underlying204 ty3 rfl rfl rfl 12 rfl (by decide) rfl rfl rfl) (ip' 1 0 [(7,iv 16)] (ie (A4 6 rfl (zrl 5 1 [] [(64,.map (some b1)),(65,iv 16),(68,ag [.func (.func 123) #[ag (A9 (⟨0,0⟩:Spn))] #[],.func (.func 123) #[ag (A9 (⟨0,0⟩:Spn))] #[]])] ?_))))))))))))))))))))))
 refine it rfl (C2 (es:=(A5 D1w 0).toArray) (es':=(A5 D1o 0).toArray) I0 (.inr rfl) rfl rfl rfl 0 rfl (by kernel_rfl) (by kernel_rfl)) fun _=>?_
 refine znl [(b1,.map (A5 D1o 0).toArray 23)] (A6 (nx (A4 2 rfl (ix rfl (B4 (c:=13) rfl rfl rfl rfl (by decide)) (ip' 1 0 [(61,iv 13)] (A6 (F1 (sr 1 rfl (ip' 1 0 [(62,bv false)] (ie (A8 (A3q rfl (H3 (nx (A8 (sr 2 rfl (zrl 2 0 [] [(70,ag (B6j (⟨7,14,42⟩:Ar3))),(71,iv 0)] (ie (B3 (A0x 5 ?_))))))))))))))))))))
 refine F1 (sr 1 rfl (ip' 1 0 [(72,bv true)] ?_))
 refine ie (A8 (K5 rfl (B0 (nx (A8 (B3 (sr 2 rfl (ix rfl (E9 (v:=iv 7) (us:=[iv 7]) Tryz.underlying205 ty3 rfl rfl rfl 0 rfl (by decide) rfl rfl rfl) (ip' 1 0 [(9,iv 7)] (ie (A4 6 rfl (zrl 5 1 [] [(74,.map (some b1)),(75,iv 7),(78,ag [.func (.func 123) #[ag (A9 (⟨0,1⟩:Spn))] #[],.func (.func 123) #[ag (A9 (⟨0,0⟩:Spn))] #[]])] (it rfl (C2 (es:=(A5 D1o 0).toArray) (es':=(A5 D0s 0).toArray) I0 (.inr rfl) rfl rfl rfl 0 rfl (by kernel_rfl) (by kernel_rfl)) fun _=>?_)))))))))))))
 refine znl [(b1,.map (A5 D0s 0).toArray 24)] (A6 (nx (A4 2 rfl (ix rfl (B4 (c:=1) rfl rfl rfl rfl (by decide)) (ip' 1 0 [(71,iv 1)] (A6 (F1 (sr 1 rfl (ip' 1 0 [(72,bv true)] (ie (A8 (K5 rfl (B0 (nx (A8 (B3 (sr 2 rfl (ix rfl (E9 (v:=iv 14) (us:=[iv 14]) Tryz.underlying205 ty3 rfl rfl rfl 1 rfl (by decide) rfl rfl rfl) (ip' 1 0 [(9,iv 14)] (ie (A4 6 rfl (zrl 5 1 [] [(74,.map (some b1)),(75,iv 14),(78,ag [.func (.func 123) #[ag (A9 (⟨0,1⟩:Spn))] #[],.func (.func 123) #[ag (A9 (⟨0,0⟩:Spn))] #[]])] ?_))))))))))))))))))))))
 refine it rfl (C2 (es:=(A5 D0s 0).toArray) (es':=(A5 D2c 0).toArray) I0 (.inr rfl) rfl rfl rfl 0 rfl (by kernel_rfl) (by kernel_rfl)) fun _=>?_
 refine znl [(b1,.map (A5 D2c 0).toArray 25)] (A6 (nx (A4 2 rfl (ix rfl (B4 (c:=2) rfl rfl rfl rfl (by decide)) (ip' 1 0 [(71,iv 2)] (A6 (F1 (sr 1 rfl (ip' 1 0 [(72,bv true)] (ie (A8 (K5 rfl (B0 (nx (A8 (B3 (sr 2 rfl (ix rfl (E9 (v:=iv 42) (us:=[iv 42]) Tryz.underlying205 ty3 rfl rfl rfl 2 rfl (by decide) rfl rfl rfl) (ip' 1 0 [(9,iv 42)] (ie (A4 6 rfl (zrl 5 1 [] [(74,.map (some b1)),(75,iv 42),(78,ag [.func (.func 123) #[ag (A9 (⟨0,1⟩:Spn))] #[],.func (.func 123) #[ag (A9 (⟨0,0⟩:Spn))] #[]])] ?_))))))))))))))))))))))
 refine it rfl (C2 (es:=(A5 D2c 0).toArray) (es':=(A5 D0q 0).toArray) I0 (.inr rfl) rfl rfl rfl 0 rfl (by kernel_rfl) (by kernel_rfl)) fun _=>?_
 refine znl [(b1,.map (A5 D0q 0).toArray 26)] (A6 (nx (A4 2 rfl (ix rfl (B4 (c:=3) rfl rfl rfl rfl (by decide)) (ip' 1 0 [(71,iv 3)] (A6 (F1 (sr 1 rfl (ip' 1 0 [(72,bv false)] (ie (A8 (A3q rfl (H3 (nx (A8 (sr 2 rfl (zrl 2 0 [] [(80,ag (C4g (⟨21,33⟩:Ar2))),(81,iv 0)] (ie (B3 (A0x 4 ?_))))))))))))))))))))
 refine F1 (sr 1 rfl (ip' 1 0 [(82,bv true)] ?_))
 refine ie (A8 (K5 rfl (B0 (nx (A8 (B3 (sr 2 rfl (ix rfl (E9 (v:=iv 21) (us:=[iv 21]) Tryz.underlying71 ty3 rfl rfl rfl 0 rfl (by decide) rfl rfl rfl) (ip' 1 0 [(11,iv 21)] (ie (A4 6 rfl (zrl 5 1 [] [(84,.map (some b1)),(85,iv 21),(88,ag [.func (.func 123) #[ag (A9 (⟨0,1⟩:Spn))] #[],.func (.func 123) #[ag (A9 (⟨1,9999⟩:Spn))] #[]])] (it rfl (C2 (es:=(A5 D0q 0).toArray) (es':=(A5 D0k 0).toArray) I0 (.inr rfl) rfl rfl rfl 0 rfl (by kernel_rfl) (by kernel_rfl)) fun _=>?_)))))))))))))
 refine znl [(b1,.map (A5 D0k 0).toArray 27)] (A6 (nx (A4 2 rfl (ix rfl (B4 (c:=1) rfl rfl rfl rfl (by decide)) (ip' 1 0 [(81,iv 1)] (A6 (F1 (sr 1 rfl (ip' 1 0 [(82,bv true)] (ie (A8 (K5 rfl (B0 (nx (A8 (B3 (sr 2 rfl (ix rfl (E9 (v:=iv 33) (us:=[iv 33]) Tryz.underlying71 ty3 rfl rfl rfl 1 rfl (by decide) rfl rfl rfl) (ip' 1 0 [(11,iv 33)] (ie (A4 6 rfl (zrl 5 1 [] [(84,.map (some b1)),(85,iv 33),(88,ag [.func (.func 123) #[ag (A9 (⟨0,1⟩:Spn))] #[],.func (.func 123) #[ag (A9 (⟨1,9999⟩:Spn))] #[]])] ?_))))))))))))))))))))))
 refine it rfl (C2 (es:=(A5 D0k 0).toArray) (es':=(A5 D0v 0).toArray) I0 (.inr rfl) rfl rfl rfl 0 rfl (by kernel_rfl) (by kernel_rfl)) fun _=>?_
 refine znl [(b1,.map (A5 D0v 0).toArray 28)] (A6 (nx (A4 2 rfl (ix rfl (B4 (c:=2) rfl rfl rfl rfl (by decide)) (ip' 1 0 [(81,iv 2)] (A6 (F1 (sr 1 rfl (ip' 1 0 [(82,bv false)] (ie (A8 (A3q rfl (H3 (nx (A8 (sr 2 rfl (zrl 2 0 [] [(90,ag [iv 22,iv 23,iv 24,iv 25,iv 28,iv 29,iv 30,iv 31,iv 32,iv 34]),(91,iv 0)] (ie (B3 (A0x 12 ?_))))))))))))))))))))
 refine F1 (sr 1 rfl (ip' 1 0 [(92,bv true)] ?_))
 refine ie (A8 (K5 rfl (B0 (nx (A8 (B3 (sr 2 rfl (ix rfl (E9 (v:=iv 22) (us:=[iv 22]) Tryz.underlying206 ty3 rfl rfl rfl 0 rfl (by decide) rfl rfl rfl) (ip' 1 0 [(13,iv 22)] (ie (A4 6 rfl (zrl 5 1 [] [(94,.map (some b1)),(95,iv 22),(98,ag [.func (.func 123) #[ag (A9 (⟨1,9999⟩:Spn))] #[],.func (.func 123) #[ag (A9 (⟨0,0⟩:Spn))] #[]])] (it rfl (C2 (es:=(A5 D0v 0).toArray) (es':=(A5 D1r 0).toArray) I0 (.inr rfl) rfl rfl rfl 0 rfl (by kernel_rfl) (by kernel_rfl)) fun _=>?_)))))))))))))
 refine znl [(b1,.map (A5 D1r 0).toArray 29)] (A6 (nx (A4 2 rfl (ix rfl (B4 (c:=1) rfl rfl rfl rfl (by decide)) (ip' 1 0 [(91,iv 1)] (A6 (F1 (sr 1 rfl (ip' 1 0 [(92,bv true)] (ie (A8 (K5 rfl (B0 (nx (A8 (B3 (sr 2 rfl (ix rfl (E9 (v:=iv 23) (us:=[iv 23]) Tryz.underlying206 ty3 rfl rfl rfl 1 rfl (by decide) rfl rfl rfl) (ip' 1 0 [(13,iv 23)] (ie (A4 6 rfl (zrl 5 1 [] [(94,.map (some b1)),(95,iv 23),(98,ag [.func (.func 123) #[ag (A9 (⟨1,9999⟩:Spn))] #[],.func (.func 123) #[ag (A9 (⟨0,0⟩:Spn))] #[]])] ?_))))))))))))))))))))))
 refine it rfl (C2 (es:=(A5 D1r 0).toArray) (es':=(A5 D0l 0).toArray) I0 (.inr rfl) rfl rfl rfl 0 rfl (by kernel_rfl) (by kernel_rfl)) fun _=>?_
 refine znl [(b1,.map (A5 D0l 0).toArray 30)] (A6 (nx (A4 2 rfl (ix rfl (B4 (c:=2) rfl rfl rfl rfl (by decide)) (ip' 1 0 [(91,iv 2)] (A6 (F1 (sr 1 rfl (ip' 1 0 [(92,bv true)] (ie (A8 (K5 rfl (B0 (nx (A8 (B3 (sr 2 rfl (ix rfl (E9 (v:=iv 24) (us:=[iv 24]) Tryz.underlying206 ty3 rfl rfl rfl 2 rfl (by decide) rfl rfl rfl) (ip' 1 0 [(13,iv 24)] (ie (A4 6 rfl (zrl 5 1 [] [(94,.map (some b1)),(95,iv 24),(98,ag [.func (.func 123) #[ag (A9 (⟨1,9999⟩:Spn))] #[],.func (.func 123) #[ag (A9 (⟨0,0⟩:Spn))] #[]])] ?_))))))))))))))))))))))
 refine it rfl (C2 (es:=(A5 D0l 0).toArray) (es':=(A5 D1f 0).toArray) I0 (.inr rfl) rfl rfl rfl 0 rfl (by kernel_rfl) (by kernel_rfl)) fun _=>?_
 refine znl [(b1,.map (A5 D1f 0).toArray 31)] (A6 (nx (A4 2 rfl (ix rfl (B4 (c:=3) rfl rfl rfl rfl (by decide)) (ip' 1 0 [(91,iv 3)] (A6 (F1 (sr 1 rfl (ip' 1 0 [(92,bv true)] (ie (A8 (K5 rfl (B0 (nx (A8 (B3 (sr 2 rfl (ix rfl (E9 (v:=iv 25) (us:=[iv 25]) Tryz.underlying206 ty3 rfl rfl rfl 3 rfl (by decide) rfl rfl rfl) (ip' 1 0 [(13,iv 25)] (ie (A4 6 rfl (zrl 5 1 [] [(94,.map (some b1)),(95,iv 25),(98,ag [.func (.func 123) #[ag (A9 (⟨1,9999⟩:Spn))] #[],.func (.func 123) #[ag (A9 (⟨0,0⟩:Spn))] #[]])] ?_))))))))))))))))))))))
 refine it rfl (C2 (es:=(A5 D1f 0).toArray) (es':=(A5 D0y 0).toArray) I0 (.inr rfl) rfl rfl rfl 0 rfl (by kernel_rfl) (by kernel_rfl)) fun _=>?_
 refine znl [(b1,.map (A5 D0y 0).toArray 32)] (A6 (nx (A4 2 rfl (ix rfl (B4 (c:=4) rfl rfl rfl rfl (by decide)) (ip' 1 0 [(91,iv 4)] (A6 (F1 (sr 1 rfl (ip' 1 0 [(92,bv true)] (ie (A8 (K5 rfl (B0 (nx (A8 (B3 (sr 2 rfl (ix rfl (E9 (v:=iv 28) (us:=[iv 28]) Tryz.underlying206 ty3 rfl rfl rfl 4 rfl (by decide) rfl rfl rfl) (ip' 1 0 [(13,iv 28)] (ie (A4 6 rfl (zrl 5 1 [] [(94,.map (some b1)),(95,iv 28),(98,ag [.func (.func 123) #[ag (A9 (⟨1,9999⟩:Spn))] #[],.func (.func 123) #[ag (A9 (⟨0,0⟩:Spn))] #[]])] ?_))))))))))))))))))))))
 refine it rfl (C2 (es:=(A5 D0y 0).toArray) (es':=(A5 D2a 0).toArray) I0 (.inr rfl) rfl rfl rfl 0 rfl (by kernel_rfl) (by kernel_rfl)) fun _=>?_
 refine znl [(b1,.map (A5 D2a 0).toArray 33)] (A6 (nx (A4 2 rfl (ix rfl (B4 (c:=5) rfl rfl rfl rfl (by decide)) (ip' 1 0 [(91,iv 5)] (A6 (F1 (sr 1 rfl (ip' 1 0 [(92,bv true)] (ie (A8 (K5 rfl (B0 (nx (A8 (B3 (sr 2 rfl (ix rfl (E9 (v:=iv 29) (us:=[iv 29]) Tryz.underlying206 ty3 rfl rfl rfl 5 rfl (by decide) rfl rfl rfl) (ip' 1 0 [(13,iv 29)] (ie (A4 6 rfl (zrl 5 1 [] [(94,.map (some b1)),(95,iv 29),(98,ag [.func (.func 123) #[ag (A9 (⟨1,9999⟩:Spn))] #[],.func (.func 123) #[ag (A9 (⟨0,0⟩:Spn))] #[]])] ?_))))))))))))))))))))))
 refine it rfl (C2 (es:=(A5 D2a 0).toArray) (es':=(A5 D2h 0).toArray) I0 (.inr rfl) rfl rfl rfl 0 rfl (by kernel_rfl) (by kernel_rfl)) fun _=>?_
 refine znl [(b1,.map (A5 D2h 0).toArray 34)] (A6 (nx (A4 2 rfl (ix rfl (B4 (c:=6) rfl rfl rfl rfl (by decide)) (ip' 1 0 [(91,iv 6)] (A6 (F1 (sr 1 rfl (ip' 1 0 [(92,bv true)] (ie (A8 (K5 rfl (B0 (nx (A8 (B3 (sr 2 rfl (ix rfl (E9 (v:=iv 30) (us:=[iv 30]) Tryz.underlying206 ty3 rfl rfl rfl 6 rfl (by decide) rfl rfl rfl) (ip' 1 0 [(13,iv 30)] (ie (A4 6 rfl (zrl 5 1 [] [(94,.map (some b1)),(95,iv 30),(98,ag [.func (.func 123) #[ag (A9 (⟨1,9999⟩:Spn))] #[],.func (.func 123) #[ag (A9 (⟨0,0⟩:Spn))] #[]])] ?_))))))))))))))))))))))
 refine it rfl (C2 (es:=(A5 D2h 0).toArray) (es':=(A5 D1n 0).toArray) I0 (.inr rfl) rfl rfl rfl 0 rfl (by kernel_rfl) (by kernel_rfl)) fun _=>?_
 refine znl [(b1,.map (A5 D1n 0).toArray 35)] (A6 (nx (A4 2 rfl (ix rfl (B4 (c:=7) rfl rfl rfl rfl (by decide)) (ip' 1 0 [(91,iv 7)] (A6 (F1 (sr 1 rfl (ip' 1 0 [(92,bv true)] (ie (A8 (K5 rfl (B0 (nx (A8 (B3 (sr 2 rfl (ix rfl (E9 (v:=iv 31) (us:=[iv 31]) Tryz.underlying206 ty3 rfl rfl rfl 7 rfl (by decide) rfl rfl rfl) (ip' 1 0 [(13,iv 31)] (ie (A4 6 rfl (zrl 5 1 [] [(94,.map (some b1)),(95,iv 31),(98,ag [.func (.func 123) #[ag (A9 (⟨1,9999⟩:Spn))] #[],.func (.func 123) #[ag (A9 (⟨0,0⟩:Spn))] #[]])] ?_))))))))))))))))))))))
 refine it rfl (C2 (es:=(A5 D1n 0).toArray) (es':=(A5 D1q 0).toArray) I0 (.inr rfl) rfl rfl rfl 0 rfl (by kernel_rfl) (by kernel_rfl)) fun _=>?_
 refine znl [(b1,.map (A5 D1q 0).toArray 36)] (A6 (nx (A4 2 rfl (ix rfl (B4 (c:=8) rfl rfl rfl rfl (by decide)) (ip' 1 0 [(91,iv 8)] (A6 (F1 (sr 1 rfl (ip' 1 0 [(92,bv true)] (ie (A8 (K5 rfl (B0 (nx (A8 (B3 (sr 2 rfl (ix rfl (E9 (v:=iv 32) (us:=[iv 32]) Tryz.underlying206 ty3 rfl rfl rfl 8 rfl (by decide) rfl rfl rfl) (ip' 1 0 [(13,iv 32)] (ie (A4 6 rfl (zrl 5 1 [] [(94,.map (some b1)),(95,iv 32),(98,ag [.func (.func 123) #[ag (A9 (⟨1,9999⟩:Spn))] #[],.func (.func 123) #[ag (A9 (⟨0,0⟩:Spn))] #[]])] ?_))))))))))))))))))))))
 refine it rfl (C2 (es:=(A5 D1q 0).toArray) (es':=(A5 D1m 0).toArray) I0 (.inr rfl) rfl rfl rfl 0 rfl (by kernel_rfl) (by kernel_rfl)) fun _=>?_
 refine znl [(b1,.map (A5 D1m 0).toArray 37)] (A6 (nx (A4 2 rfl (ix rfl (B4 (c:=9) rfl rfl rfl rfl (by decide)) (ip' 1 0 [(91,iv 9)] (A6 (F1 (sr 1 rfl (ip' 1 0 [(92,bv true)] (ie (A8 (K5 rfl (B0 (nx (A8 (B3 (sr 2 rfl (ix rfl (E9 (v:=iv 34) (us:=[iv 34]) Tryz.underlying206 ty3 rfl rfl rfl 9 rfl (by decide) rfl rfl rfl) (ip' 1 0 [(13,iv 34)] (ie (A4 6 rfl (zrl 5 1 [] [(94,.map (some b1)),(95,iv 34),(98,ag [.func (.func 123) #[ag (A9 (⟨1,9999⟩:Spn))] #[],.func (.func 123) #[ag (A9 (⟨0,0⟩:Spn))] #[]])] ?_))))))))))))))))))))))
 refine it rfl (C2 (es:=(A5 D1m 0).toArray) (es':=(A5 D0p 0).toArray) I0 (.inr rfl) rfl rfl rfl 0 rfl (by kernel_rfl) (by kernel_rfl)) fun _=>?_
 refine znl [(b1,.map (A5 D0p 0).toArray 38)] (A6 (nx (A4 2 rfl (ix rfl (B4 (c:=10) rfl rfl rfl rfl (by decide)) (ip' 1 0 [(91,iv 10)] (A6 (F1 (sr 1 rfl (ip' 1 0 [(92,bv false)] (ie (A8 (A3q rfl (H3 (nx (A8 (sr 2 rfl (zrl 2 0 [] [(100,ag (B6j (⟨36,37,43⟩:Ar3))),(101,iv 0)] (ie (B3 (A0x 5 ?_))))))))))))))))))))
 refine F1 (sr 1 rfl (ip' 1 0 [(102,bv true)] ?_))
 refine ie (A8 (K5 rfl (B0 (nx (A8 (B3 (sr 2 rfl (ix rfl (E9 (v:=iv 36) (us:=[iv 36]) Tryz.underlying205 ty3 rfl rfl rfl 0 rfl (by decide) rfl rfl rfl) (ip' 1 0 [(15,iv 36)] (ie (A4 6 rfl (zrl 5 1 [] [(104,.map (some b1)),(105,iv 36),(108,ag [.func (.func 123) #[ag (A9 (⟨0,9999⟩:Spn))] #[],.func (.func 123) #[ag (A9 (⟨0,1⟩:Spn))] #[]])] (it rfl (C2 (es:=(A5 D0p 0).toArray) (es':=(A5 D2j 0).toArray) I0 (.inr rfl) rfl rfl rfl 0 rfl (by kernel_rfl) (by kernel_rfl)) fun _=>?_)))))))))))))
 refine znl [(b1,.map (A5 D2j 0).toArray 39)] (A6 (nx (A4 2 rfl (ix rfl (B4 (c:=1) rfl rfl rfl rfl (by decide)) (ip' 1 0 [(101,iv 1)] (A6 (F1 (sr 1 rfl (ip' 1 0 [(102,bv true)] (ie (A8 (K5 rfl (B0 (nx (A8 (B3 (sr 2 rfl (ix rfl (E9 (v:=iv 37) (us:=[iv 37]) Tryz.underlying205 ty3 rfl rfl rfl 1 rfl (by decide) rfl rfl rfl) (ip' 1 0 [(15,iv 37)] (ie (A4 6 rfl (zrl 5 1 [] [(104,.map (some b1)),(105,iv 37),(108,ag [.func (.func 123) #[ag (A9 (⟨0,9999⟩:Spn))] #[],.func (.func 123) #[ag (A9 (⟨0,1⟩:Spn))] #[]])] ?_))))))))))))))))))))))
 refine it rfl (C2 (es:=(A5 D2j 0).toArray) (es':=(A5 D1k 0).toArray) I0 (.inr rfl) rfl rfl rfl 0 rfl (by kernel_rfl) (by kernel_rfl)) fun _=>?_
 refine znl [(b1,.map (A5 D1k 0).toArray 40)] (A6 (nx (A4 2 rfl (ix rfl (B4 (c:=2) rfl rfl rfl rfl (by decide)) (ip' 1 0 [(101,iv 2)] (A6 (F1 (sr 1 rfl (ip' 1 0 [(102,bv true)] (ie (A8 (K5 rfl (B0 (nx (A8 (B3 (sr 2 rfl (ix rfl (E9 (v:=iv 43) (us:=[iv 43]) Tryz.underlying205 ty3 rfl rfl rfl 2 rfl (by decide) rfl rfl rfl) (ip' 1 0 [(15,iv 43)] (ie (A4 6 rfl (zrl 5 1 [] [(104,.map (some b1)),(105,iv 43),(108,ag [.func (.func 123) #[ag (A9 (⟨0,9999⟩:Spn))] #[],.func (.func 123) #[ag (A9 (⟨0,1⟩:Spn))] #[]])] ?_))))))))))))))))))))))
 refine it rfl (C2 (es:=(A5 D1k 0).toArray) (es':=(A5 B9s 0).toArray) I0 (.inr rfl) rfl rfl rfl 0 rfl (by kernel_rfl) (by kernel_rfl)) fun _=>?_
 refine znl [(b1,.map (A5 B9s 0).toArray 41)] (A6 (nx (A4 2 rfl (ix rfl (B4 (c:=3) rfl rfl rfl rfl (by decide)) (ip' 1 0 [(101,iv 3)] (A6 (F1 (sr 1 rfl (ip' 1 0 [(102,bv false)] (ie (A8 (A3q rfl (H3 (nx (sr 2 rfl (ip' 2 0 [(0,.map (some b1))] ?_))))))))))))))))
 subst hR
 refine ie (B2 ?_)
 exact zer hr hD (M3 rfl (B9 rfl)) b1 (mk [true] rfl) fn0
def A8l:List (Int×Value):=[(17,ag [.func (.func 123) #[ag (A9 (⟨0,3⟩:Spn))] #[],.func (.func 123) #[ag (A9 (⟨0,1⟩:Spn))] #[]]),(18,ag [.func (.func 123) #[ag (A9 (⟨2,3⟩:Spn))] #[],.func (.func 123) #[ag (A9 (⟨0,0⟩:Spn))] #[]]),(19,ag [.func (.func 123) #[ag (A9 (⟨1,9999⟩:Spn))] #[],.func (.func 123) #[ag (A9 (⟨1,9999⟩:Spn))] #[]]),(20,ag [.func (.func 123) #[ag (A9 (⟨0,3⟩:Spn))] #[],.func (.func 123) #[ag (A9 (⟨1,9999⟩:Spn))] #[]]),(26,ag [.func (.func 123) #[ag (A9 (⟨0,3⟩:Spn))] #[],.func (.func 123) #[ag (A9 (⟨0,0⟩:Spn))] #[]]),(27,ag [.func (.func 123) #[ag (A9 (⟨0,2⟩:Spn))] #[],.func (.func 123) #[ag (A9 (⟨0,0⟩:Spn))] #[]]),(35,ag [.func (.func 124) #[] #[],.func (.func 123) #[ag (A9 (⟨0,0⟩:Spn))] #[]]),(38,ag [.func (.func 123) #[ag (A9 (⟨0,9999⟩:Spn))] #[],.func (.func 123) #[ag (A9 (⟨0,9999⟩:Spn))] #[]]),(40,ag [.func (.func 123) #[ag (A9 (⟨0,6⟩:Spn))] #[],.func (.func 123) #[ag (A9 (⟨0,0⟩:Spn))] #[]]),(41,ag [.func (.func 123) #[ag (A9 (⟨5,6⟩:Spn))] #[],.func (.func 123) #[ag (A9 (⟨0,0⟩:Spn))] #[]]),(2,ag [.func (.func 123) #[ag (A9 (⟨0,0⟩:Spn))] #[],.func (.func 123) #[ag (A9 (⟨0,0⟩:Spn))] #[]]),(3,ag [.func (.func 123) #[ag (A9 (⟨0,0⟩:Spn))] #[],.func (.func 123) #[ag (A9 (⟨0,0⟩:Spn))] #[]]),(4,ag [.func (.func 123) #[ag (A9 (⟨0,0⟩:Spn))] #[],.func (.func 123) #[ag (A9 (⟨0,0⟩:Spn))] #[]]),(5,ag [.func (.func 123) #[ag (A9 (⟨0,0⟩:Spn))] #[],.func (.func 123) #[ag (A9 (⟨0,0⟩:Spn))] #[]]),(6,ag [.func (.func 123) #[ag (A9 (⟨0,0⟩:Spn))] #[],.func (.func 123) #[ag (A9 (⟨0,0⟩:Spn))] #[]]),(8,ag [.func (.func 123) #[ag (A9 (⟨0,0⟩:Spn))] #[],.func (.func 123) #[ag (A9 (⟨0,0⟩:Spn))] #[]]),(9,ag [.func (.func 123) #[ag (A9 (⟨0,0⟩:Spn))] #[],.func (.func 123) #[ag (A9 (⟨0,0⟩:Spn))] #[]]),(10,ag [.func (.func 123) #[ag (A9 (⟨0,0⟩:Spn))] #[],.func (.func 123) #[ag (A9 (⟨0,0⟩:Spn))] #[]]),(11,ag [.func (.func 123) #[ag (A9 (⟨0,0⟩:Spn))] #[],.func (.func 123) #[ag (A9 (⟨0,0⟩:Spn))] #[]]),(12,ag [.func (.func 123) #[ag (A9 (⟨0,0⟩:Spn))] #[],.func (.func 123) #[ag (A9 (⟨0,0⟩:Spn))] #[]]),(13,ag [.func (.func 123) #[ag (A9 (⟨0,0⟩:Spn))] #[],.func (.func 123) #[ag (A9 (⟨0,0⟩:Spn))] #[]]),(15,ag [.func (.func 123) #[ag (A9 (⟨0,0⟩:Spn))] #[],.func (.func 123) #[ag (A9 (⟨0,0⟩:Spn))] #[]]),(16,ag [.func (.func 123) #[ag (A9 (⟨0,0⟩:Spn))] #[],.func (.func 123) #[ag (A9 (⟨0,0⟩:Spn))] #[]]),(7,ag [.func (.func 123) #[ag (A9 (⟨0,1⟩:Spn))] #[],.func (.func 123) #[ag (A9 (⟨0,0⟩:Spn))] #[]]),(14,ag [.func (.func 123) #[ag (A9 (⟨0,1⟩:Spn))] #[],.func (.func 123) #[ag (A9 (⟨0,0⟩:Spn))] #[]]),(42,ag [.func (.func 123) #[ag (A9 (⟨0,1⟩:Spn))] #[],.func (.func 123) #[ag (A9 (⟨0,0⟩:Spn))] #[]]),(21,ag [.func (.func 123) #[ag (A9 (⟨0,1⟩:Spn))] #[],.func (.func 123) #[ag (A9 (⟨1,9999⟩:Spn))] #[]]),(33,ag [.func (.func 123) #[ag (A9 (⟨0,1⟩:Spn))] #[],.func (.func 123) #[ag (A9 (⟨1,9999⟩:Spn))] #[]]),(22,ag [.func (.func 123) #[ag (A9 (⟨1,9999⟩:Spn))] #[],.func (.func 123) #[ag (A9 (⟨0,0⟩:Spn))] #[]]),(23,ag [.func (.func 123) #[ag (A9 (⟨1,9999⟩:Spn))] #[],.func (.func 123) #[ag (A9 (⟨0,0⟩:Spn))] #[]]),(24,ag [.func (.func 123) #[ag (A9 (⟨1,9999⟩:Spn))] #[],.func (.func 123) #[ag (A9 (⟨0,0⟩:Spn))] #[]]),(25,ag [.func (.func 123) #[ag (A9 (⟨1,9999⟩:Spn))] #[],.func (.func 123) #[ag (A9 (⟨0,0⟩:Spn))] #[]]),(28,ag [.func (.func 123) #[ag (A9 (⟨1,9999⟩:Spn))] #[],.func (.func 123) #[ag (A9 (⟨0,0⟩:Spn))] #[]]),(29,ag [.func (.func 123) #[ag (A9 (⟨1,9999⟩:Spn))] #[],.func (.func 123) #[ag (A9 (⟨0,0⟩:Spn))] #[]]),(30,ag [.func (.func 123) #[ag (A9 (⟨1,9999⟩:Spn))] #[],.func (.func 123) #[ag (A9 (⟨0,0⟩:Spn))] #[]]),(31,ag [.func (.func 123) #[ag (A9 (⟨1,9999⟩:Spn))] #[],.func (.func 123) #[ag (A9 (⟨0,0⟩:Spn))] #[]]),(32,ag [.func (.func 123) #[ag (A9 (⟨1,9999⟩:Spn))] #[],.func (.func 123) #[ag (A9 (⟨0,0⟩:Spn))] #[]]),(34,ag [.func (.func 123) #[ag (A9 (⟨1,9999⟩:Spn))] #[],.func (.func 123) #[ag (A9 (⟨0,0⟩:Spn))] #[]]),(36,ag [.func (.func 123) #[ag (A9 (⟨0,9999⟩:Spn))] #[],.func (.func 123) #[ag (A9 (⟨0,1⟩:Spn))] #[]]),(37,ag [.func (.func 123) #[ag (A9 (⟨0,9999⟩:Spn))] #[],.func (.func 123) #[ag (A9 (⟨0,1⟩:Spn))] #[]]),(43,ag [.func (.func 123) #[ag (A9 (⟨0,9999⟩:Spn))] #[],.func (.func 123) #[ag (A9 (⟨0,1⟩:Spn))] #[]])]
def B7:List (Int×Value):=[(17,.func (.func 123) #[ag (A9 (⟨0,3⟩:Spn))] #[]),(18,.func (.func 123) #[ag (A9 (⟨2,3⟩:Spn))] #[]),(19,.func (.func 123) #[ag (A9 (⟨1,9999⟩:Spn))] #[]),(20,.func (.func 123) #[ag (A9 (⟨0,3⟩:Spn))] #[]),(26,.func (.func 123) #[ag (A9 (⟨0,3⟩:Spn))] #[]),(27,.func (.func 123) #[ag (A9 (⟨0,2⟩:Spn))] #[]),(35,.func (.func 124) #[] #[]),(38,.func (.func 123) #[ag (A9 (⟨0,9999⟩:Spn))] #[]),(40,.func (.func 123) #[ag (A9 (⟨0,6⟩:Spn))] #[]),(41,.func (.func 123) #[ag (A9 (⟨5,6⟩:Spn))] #[]),(2,.func (.func 123) #[ag (A9 (⟨0,0⟩:Spn))] #[]),(3,.func (.func 123) #[ag (A9 (⟨0,0⟩:Spn))] #[]),(4,.func (.func 123) #[ag (A9 (⟨0,0⟩:Spn))] #[]),(5,.func (.func 123) #[ag (A9 (⟨0,0⟩:Spn))] #[]),(6,.func (.func 123) #[ag (A9 (⟨0,0⟩:Spn))] #[]),(8,.func (.func 123) #[ag (A9 (⟨0,0⟩:Spn))] #[]),(9,.func (.func 123) #[ag (A9 (⟨0,0⟩:Spn))] #[]),(10,.func (.func 123) #[ag (A9 (⟨0,0⟩:Spn))] #[]),(11,.func (.func 123) #[ag (A9 (⟨0,0⟩:Spn))] #[]),(12,.func (.func 123) #[ag (A9 (⟨0,0⟩:Spn))] #[]),(13,.func (.func 123) #[ag (A9 (⟨0,0⟩:Spn))] #[]),(15,.func (.func 123) #[ag (A9 (⟨0,0⟩:Spn))] #[]),(16,.func (.func 123) #[ag (A9 (⟨0,0⟩:Spn))] #[]),(7,.func (.func 123) #[ag (A9 (⟨0,1⟩:Spn))] #[]),(14,.func (.func 123) #[ag (A9 (⟨0,1⟩:Spn))] #[]),(42,.func (.func 123) #[ag (A9 (⟨0,1⟩:Spn))] #[]),(21,.func (.func 123) #[ag (A9 (⟨0,1⟩:Spn))] #[]),(33,.func (.func 123) #[ag (A9 (⟨0,1⟩:Spn))] #[]),(22,.func (.func 123) #[ag (A9 (⟨1,9999⟩:Spn))] #[]),(23,.func (.func 123) #[ag (A9 (⟨1,9999⟩:Spn))] #[]),(24,.func (.func 123) #[ag (A9 (⟨1,9999⟩:Spn))] #[]),(25,.func (.func 123) #[ag (A9 (⟨1,9999⟩:Spn))] #[]),(28,.func (.func 123) #[ag (A9 (⟨1,9999⟩:Spn))] #[]),(29,.func (.func 123) #[ag (A9 (⟨1,9999⟩:Spn))] #[]),(30,.func (.func 123) #[ag (A9 (⟨1,9999⟩:Spn))] #[]),(31,.func (.func 123) #[ag (A9 (⟨1,9999⟩:Spn))] #[]),(32,.func (.func 123) #[ag (A9 (⟨1,9999⟩:Spn))] #[]),(34,.func (.func 123) #[ag (A9 (⟨1,9999⟩:Spn))] #[]),(36,.func (.func 123) #[ag (A9 (⟨0,9999⟩:Spn))] #[]),(37,.func (.func 123) #[ag (A9 (⟨0,9999⟩:Spn))] #[]),(43,.func (.func 123) #[ag (A9 (⟨0,9999⟩:Spn))] #[])]
def H4:List (Int×Value):=[(17,.func (.func 123) #[ag (A9 (⟨0,1⟩:Spn))] #[]),(18,.func (.func 123) #[ag (A9 (⟨0,0⟩:Spn))] #[]),(19,.func (.func 123) #[ag (A9 (⟨1,9999⟩:Spn))] #[]),(20,.func (.func 123) #[ag (A9 (⟨1,9999⟩:Spn))] #[]),(26,.func (.func 123) #[ag (A9 (⟨0,0⟩:Spn))] #[]),(27,.func (.func 123) #[ag (A9 (⟨0,0⟩:Spn))] #[]),(35,.func (.func 123) #[ag (A9 (⟨0,0⟩:Spn))] #[]),(38,.func (.func 123) #[ag (A9 (⟨0,9999⟩:Spn))] #[]),(40,.func (.func 123) #[ag (A9 (⟨0,0⟩:Spn))] #[]),(41,.func (.func 123) #[ag (A9 (⟨0,0⟩:Spn))] #[]),(2,.func (.func 123) #[ag (A9 (⟨0,0⟩:Spn))] #[]),(3,.func (.func 123) #[ag (A9 (⟨0,0⟩:Spn))] #[]),(4,.func (.func 123) #[ag (A9 (⟨0,0⟩:Spn))] #[]),(5,.func (.func 123) #[ag (A9 (⟨0,0⟩:Spn))] #[]),(6,.func (.func 123) #[ag (A9 (⟨0,0⟩:Spn))] #[]),(8,.func (.func 123) #[ag (A9 (⟨0,0⟩:Spn))] #[]),(9,.func (.func 123) #[ag (A9 (⟨0,0⟩:Spn))] #[]),(10,.func (.func 123) #[ag (A9 (⟨0,0⟩:Spn))] #[]),(11,.func (.func 123) #[ag (A9 (⟨0,0⟩:Spn))] #[]),(12,.func (.func 123) #[ag (A9 (⟨0,0⟩:Spn))] #[]),(13,.func (.func 123) #[ag (A9 (⟨0,0⟩:Spn))] #[]),(15,.func (.func 123) #[ag (A9 (⟨0,0⟩:Spn))] #[]),(16,.func (.func 123) #[ag (A9 (⟨0,0⟩:Spn))] #[]),(7,.func (.func 123) #[ag (A9 (⟨0,0⟩:Spn))] #[]),(14,.func (.func 123) #[ag (A9 (⟨0,0⟩:Spn))] #[]),(42,.func (.func 123) #[ag (A9 (⟨0,0⟩:Spn))] #[]),(21,.func (.func 123) #[ag (A9 (⟨1,9999⟩:Spn))] #[]),(33,.func (.func 123) #[ag (A9 (⟨1,9999⟩:Spn))] #[]),(22,.func (.func 123) #[ag (A9 (⟨0,0⟩:Spn))] #[]),(23,.func (.func 123) #[ag (A9 (⟨0,0⟩:Spn))] #[]),(24,.func (.func 123) #[ag (A9 (⟨0,0⟩:Spn))] #[]),(25,.func (.func 123) #[ag (A9 (⟨0,0⟩:Spn))] #[]),(28,.func (.func 123) #[ag (A9 (⟨0,0⟩:Spn))] #[]),(29,.func (.func 123) #[ag (A9 (⟨0,0⟩:Spn))] #[]),(30,.func (.func 123) #[ag (A9 (⟨0,0⟩:Spn))] #[]),(31,.func (.func 123) #[ag (A9 (⟨0,0⟩:Spn))] #[]),(32,.func (.func 123) #[ag (A9 (⟨0,0⟩:Spn))] #[]),(34,.func (.func 123) #[ag (A9 (⟨0,0⟩:Spn))] #[]),(36,.func (.func 123) #[ag (A9 (⟨0,1⟩:Spn))] #[]),(37,.func (.func 123) #[ag (A9 (⟨0,1⟩:Spn))] #[]),(43,.func (.func 123) #[ag (A9 (⟨0,1⟩:Spn))] #[])]
theorem C8l (k:Int):lkV k (.agg #[.nilFunc,.nilFunc]) A8l=.agg #[lkV k .nilFunc B7,lkV k .nilFunc H4]:=by
 refine (C4n (fun a b=>.agg #[a,b]) k (.nilFunc) (.nilFunc) [((17:Int),(.func (.func 123) #[ag (A9 (⟨0,3⟩:Spn))] #[]:Value),(.func (.func 123) #[ag (A9 (⟨0,1⟩:Spn))] #[]:Value)),((18:Int),(.func (.func 123) #[ag (A9 (⟨2,3⟩:Spn))] #[]:Value),(.func (.func 123) #[ag (A9 (⟨0,0⟩:Spn))] #[]:Value)),((19:Int),(.func (.func 123) #[ag (A9 (⟨1,9999⟩:Spn))] #[]:Value),(.func (.func 123) #[ag (A9 (⟨1,9999⟩:Spn))] #[]:Value)),((20:Int),(.func (.func 123) #[ag (A9 (⟨0,3⟩:Spn))] #[]:Value),(.func (.func 123) #[ag (A9 (⟨1,9999⟩:Spn))] #[]:Value)),((26:Int),(.func (.func 123) #[ag (A9 (⟨0,3⟩:Spn))] #[]:Value),(.func (.func 123) #[ag (A9 (⟨0,0⟩:Spn))] #[]:Value)),((27:Int),(.func (.func 123) #[ag (A9 (⟨0,2⟩:Spn))] #[]:Value),(.func (.func 123) #[ag (A9 (⟨0,0⟩:Spn))] #[]:Value)),((35:Int),(.func (.func 124) #[] #[]:Value),(.func (.func 123) #[ag (A9 (⟨0,0⟩:Spn))] #[]:Value)),((38:Int),(.func (.func 123) #[ag (A9 (⟨0,9999⟩:Spn))] #[]:Value),(.func (.func 123) #[ag (A9 (⟨0,9999⟩:Spn))] #[]:Value)),((40:Int),(.func (.func 123) #[ag (A9 (⟨0,6⟩:Spn))] #[]:Value),(.func (.func 123) #[ag (A9 (⟨0,0⟩:Spn))] #[]:Value)),((41:Int),(.func (.func 123) #[ag (A9 (⟨5,6⟩:Spn))] #[]:Value),(.func (.func 123) #[ag (A9 (⟨0,0⟩:Spn))] #[]:Value)),((2:Int),(.func (.func 123) #[ag (A9 (⟨0,0⟩:Spn))] #[]:Value),(.func (.func 123) #[ag (A9 (⟨0,0⟩:Spn))] #[]:Value)),((3:Int),(.func (.func 123) #[ag (A9 (⟨0,0⟩:Spn))] #[]:Value),(.func (.func 123) #[ag (A9 (⟨0,0⟩:Spn))] #[]:Value)),((4:Int),(.func (.func 123) #[ag (A9 (⟨0,0⟩:Spn))] #[]:Value),(.func (.func 123) #[ag (A9 (⟨0,0⟩:Spn))] #[]:Value)),((5:Int),(.func (.func 123) #[ag (A9 (⟨0,0⟩:Spn))] #[]:Value),(.func (.func 123) #[ag (A9 (⟨0,0⟩:Spn))] #[]:Value)),((6:Int),(.func (.func 123) #[ag (A9 (⟨0,0⟩:Spn))] #[]:Value),(.func (.func 123) #[ag (A9 (⟨0,0⟩:Spn))] #[]:Value)),((8:Int),(.func (.func 123) #[ag (A9 (⟨0,0⟩:Spn))] #[]:Value),(.func (.func 123) #[ag (A9 (⟨0,0⟩:Spn))] #[]:Value)),((9:Int),(.func (.func 123) #[ag (A9 (⟨0,0⟩:Spn))] #[]:Value),(.func (.func 123) #[ag (A9 (⟨0,0⟩:Spn))] #[]:Value)),((10:Int),(.func (.func 123) #[ag (A9 (⟨0,0⟩:Spn))] #[]:Value),(.func (.func 123) #[ag (A9 (⟨0,0⟩:Spn))] #[]:Value)),((11:Int),(.func (.func 123) #[ag (A9 (⟨0,0⟩:Spn))] #[]:Value),(.func (.func 123) #[ag (A9 (⟨0,0⟩:Spn))] #[]:Value)),((12:Int),(.func (.func 123) #[ag (A9 (⟨0,0⟩:Spn))] #[]:Value),(.func (.func 123) #[ag (A9 (⟨0,0⟩:Spn))] #[]:Value)),((13:Int),(.func (.func 123) #[ag (A9 (⟨0,0⟩:Spn))] #[]:Value),(.func (.func 123) #[ag (A9 (⟨0,0⟩:Spn))] #[]:Value)),((15:Int),(.func (.func 123) #[ag (A9 (⟨0,0⟩:Spn))] #[]:Value),(.func (.func 123) #[ag (A9 (⟨0,0⟩:Spn))] #[]:Value)),((16:Int),(.func (.func 123) #[ag (A9 (⟨0,0⟩:Spn))] #[]:Value),(.func (.func 123) #[ag (A9 (⟨0,0⟩:Spn))] #[]:Value)),((7:Int),(.func (.func 123) #[ag (A9 (⟨0,1⟩:Spn))] #[]:Value),(.func (.func 123) #[ag (A9 (⟨0,0⟩:Spn))] #[]:Value)),((14:Int),(.func (.func 123) #[ag (A9 (⟨0,1⟩:Spn))] #[]:Value),(.func (.func 123) #[ag (A9 (⟨0,0⟩:Spn))] #[]:Value)),((42:Int),(.func (.func 123) #[ag (A9 (⟨0,1⟩:Spn))] #[]:Value),(.func (.func 123) #[ag (A9 (⟨0,0⟩:Spn))] #[]:Value)),((21:Int),(.func (.func 123) #[ag (A9 (⟨0,1⟩:Spn))] #[]:Value),(.func (.func 123) #[ag (A9 (⟨1,9999⟩:Spn))] #[]:Value)),((33:Int),(.func (.func 123) #[ag (A9 (⟨0,1⟩:Spn))] #[]:Value),(.func (.func 123) #[ag (A9 (⟨1,9999⟩:Spn))] #[]:Value)),((22:Int),(.func (.func 123) #[ag (A9 (⟨1,9999⟩:Spn))] #[]:Value),(.func (.func 123) #[ag (A9 (⟨0,0⟩:Spn))] #[]:Value)),((23:Int),(.func (.func 123) #[ag (A9 (⟨1,9999⟩:Spn))] #[]:Value),(.func (.func 123) #[ag (A9 (⟨0,0⟩:Spn))] #[]:Value)),((24:Int),(.func (.func 123) #[ag (A9 (⟨1,9999⟩:Spn))] #[]:Value),(.func (.func 123) #[ag (A9 (⟨0,0⟩:Spn))] #[]:Value)),((25:Int),(.func (.func 123) #[ag (A9 (⟨1,9999⟩:Spn))] #[]:Value),(.func (.func 123) #[ag (A9 (⟨0,0⟩:Spn))] #[]:Value)),((28:Int),(.func (.func 123) #[ag (A9 (⟨1,9999⟩:Spn))] #[]:Value),(.func (.func 123) #[ag (A9 (⟨0,0⟩:Spn))] #[]:Value)),((29:Int),(.func (.func 123) #[ag (A9 (⟨1,9999⟩:Spn))] #[]:Value),(.func (.func 123) #[ag (A9 (⟨0,0⟩:Spn))] #[]:Value)),((30:Int),(.func (.func 123) #[ag (A9 (⟨1,9999⟩:Spn))] #[]:Value),(.func (.func 123) #[ag (A9 (⟨0,0⟩:Spn))] #[]:Value)),((31:Int),(.func (.func 123) #[ag (A9 (⟨1,9999⟩:Spn))] #[]:Value),(.func (.func 123) #[ag (A9 (⟨0,0⟩:Spn))] #[]:Value)),((32:Int),(.func (.func 123) #[ag (A9 (⟨1,9999⟩:Spn))] #[]:Value),(.func (.func 123) #[ag (A9 (⟨0,0⟩:Spn))] #[]:Value)),((34:Int),(.func (.func 123) #[ag (A9 (⟨1,9999⟩:Spn))] #[]:Value),(.func (.func 123) #[ag (A9 (⟨0,0⟩:Spn))] #[]:Value)),((36:Int),(.func (.func 123) #[ag (A9 (⟨0,9999⟩:Spn))] #[]:Value),(.func (.func 123) #[ag (A9 (⟨0,1⟩:Spn))] #[]:Value)),((37:Int),(.func (.func 123) #[ag (A9 (⟨0,9999⟩:Spn))] #[]:Value),(.func (.func 123) #[ag (A9 (⟨0,1⟩:Spn))] #[]:Value)),((43:Int),(.func (.func 123) #[ag (A9 (⟨0,9999⟩:Spn))] #[]:Value),(.func (.func 123) #[ag (A9 (⟨0,1⟩:Spn))] #[]:Value))]).trans ?_
 rfl
theorem X6 (k:Int):Value.tuple #[lkV k (.agg #[.nilFunc,.nilFunc]) A8l,.bool (G1 k A8l)]=Value.tuple #[.agg #[lkV k .nilFunc B7,lkV k .nilFunc H4],.bool (G1 k B7)]:=by rw [C8l];rfl
def A3 (s:Spn) (n:Int):Bool :=
 ((decide (s.lo≤n))&&(decide (n≤s.hi)))
theorem A1 (s:Spn) (n:Int) (R:Bool) (hR:A3 s n=R):K0 Tryz.prog 123 [ag (A9 s),iv n] [] (bv R):=by
 refine zco Tryz.func123 [(0,ag (A9 s)),(1,iv n)] fun X hX hr hD=>?_
 replace hR:=(A3.eq_1 ..).symm.trans hR
 refine sr 2 rfl (N3 2 0 [] (fun b1=>[(2,pt b1 0)]) (fun b1=>[bx b1 (A9 s) 203]) (fun b1=>(ie (sr 11 rfl (zrl 5 6 [0] [(9,bv (decide (s.lo≤n)))] ?_)))))
 refine zid 5 1 9 14 (decide (n≤s.hi)) (fun g2 g2p=>?_) ?_
 ·refine zrl 5 0 [0] [(14,bv (decide (n≤s.hi)))] ?_
  exact A6 (Q5 2 9 14 g2 fn0 (mk [true] rfl) rfl rfl rfl rfl rfl)
 refine ip' 1 0 [(4,bv ((decide (s.lo≤n))&&(decide (n≤s.hi))))] ?_
 subst hR
 refine ie (B2 ?_)
 exact G0 hr hD
def A0j (n:Int):Bool :=
 ((decide (n=0))||(decide (n=3)))
theorem B1l (n:Int) (R:Bool) (hR:A0j n=R):K0 Tryz.prog 124 [iv n] [] (bv R):=by
 refine zco Tryz.func124 [(0,iv n)] fun X hX hr hD=>?_
 replace hR:=(A0j.eq_1 ..).symm.trans hR
 refine sr 1 rfl (ip' 1 0 [] (ie (sr 7 rfl (ip' 3 4 [(5,bv (decide (n=0)))] ?_))))
 refine zir 3 1 5 8 (decide (n=3)) (fun g1 g1p=>?_) ?_
 ·refine ip' 3 0 [(8,bv (decide (n=3)))] ?_
  exact A6 (Q5 2 5 8 g1 fn0 (mk [] rfl) rfl rfl rfl rfl rfl)
 refine ip' 1 0 [(2,bv ((decide (n=0))||(decide (n=3))))] ?_
 subst hR
 refine ie (B2 ?_)
 exact G0 hr hD
def D4 (k:Int) (x0:Int):Bool :=
 (bif (decide (k=17)) then (A3 (⟨0,3⟩:Spn) x0) else (bif (decide (k=18)) then (A3 (⟨2,3⟩:Spn) x0) else (bif (decide (k=19)) then (A3 (⟨1,9999⟩:Spn) x0) else (bif (decide (k=20)) then (A3 (⟨0,3⟩:Spn) x0) else (bif (decide (k=26)) then (A3 (⟨0,3⟩:Spn) x0) else (bif (decide (k=27)) then (A3 (⟨0,2⟩:Spn) x0) else (bif (decide (k=35)) then (A0j x0) else (bif (decide (k=38)) then (A3 (⟨0,9999⟩:Spn) x0) else (bif (decide (k=40)) then (A3 (⟨0,6⟩:Spn) x0) else (bif (decide (k=41)) then (A3 (⟨5,6⟩:Spn) x0) else (bif (decide (k=2)) then (A3 (⟨0,0⟩:Spn) x0) else (bif (decide (k=3)) then (A3 (⟨0,0⟩:Spn) x0) else (bif (decide (k=4)) then (A3 (⟨0,0⟩:Spn) x0) else (bif (decide (k=5)) then (A3 (⟨0,0⟩:Spn) x0) else (bif (decide (k=6)) then (A3 (⟨0,0⟩:Spn) x0) else (bif (decide (k=8)) then (A3 (⟨0,0⟩:Spn) x0) else (bif (decide (k=9)) then (A3 (⟨0,0⟩:Spn) x0) else (bif (decide (k=10)) then (A3 (⟨0,0⟩:Spn) x0) else (bif (decide (k=11)) then (A3 (⟨0,0⟩:Spn) x0) else (bif (decide (k=12)) then (A3 (⟨0,0⟩:Spn) x0) else (bif (decide (k=13)) then (A3 (⟨0,0⟩:Spn) x0) else (bif (decide (k=15)) then (A3 (⟨0,0⟩:Spn) x0) else (bif (decide (k=16)) then (A3 (⟨0,0⟩:Spn) x0) else (bif (decide (k=7)) then (A3 (⟨0,1⟩:Spn) x0) else (bif (decide (k=14)) then (A3 (⟨0,1⟩:Spn) x0) else (bif (decide (k=42)) then (A3 (⟨0,1⟩:Spn) x0) else (bif (decide (k=21)) then (A3 (⟨0,1⟩:Spn) x0) else (bif (decide (k=33)) then (A3 (⟨0,1⟩:Spn) x0) else (bif (decide (k=22)) then (A3 (⟨1,9999⟩:Spn) x0) else (bif (decide (k=23)) then (A3 (⟨1,9999⟩:Spn) x0) else (bif (decide (k=24)) then (A3 (⟨1,9999⟩:Spn) x0) else (bif (decide (k=25)) then (A3 (⟨1,9999⟩:Spn) x0) else (bif (decide (k=28)) then (A3 (⟨1,9999⟩:Spn) x0) else (bif (decide (k=29)) then (A3 (⟨1,9999⟩:Spn) x0) else (bif (decide (k=30)) then (A3 (⟨1,9999⟩:Spn) x0) else (bif (decide (k=31)) then (A3 (⟨1,9999⟩:Spn) x0) else (bif (decide (k=32)) then (A3 (⟨1,9999⟩:Spn) x0) else (bif (decide (k=34)) then (A3 (⟨1,9999⟩:Spn) x0) else (bif (decide (k=36)) then (A3 (⟨0,9999⟩:Spn) x0) else (bif (decide (k=37)) then (A3 (⟨0,9999⟩:Spn) x0) else (bif (decide (k=43)) then (A3 (⟨0,9999⟩:Spn) x0) else false)))))))))))))))))))))))))))))))))))))))))
theorem V5 (k:Int) (x0:Int) (hk:G1 k B7=true) (R:Bool) (hR:D4 k x0=R):B6 Tryz.prog (lkV k .nilFunc B7) [iv x0] [] (bv R):=by
 subst hR
 unfold D4
 unfold B7 at *
 refine B6.cons (fun r=>bv r) hk (fun e=>?_) (fun hk e=>?_)
 ·exact B6.of (A1 (⟨0,3⟩:Spn) x0 _ rfl) rfl fn0
 refine B6.cons (fun r=>bv r) hk (fun e=>?_) (fun hk e=>?_)
 ·exact B6.of (A1 (⟨2,3⟩:Spn) x0 _ rfl) rfl fn0
 refine B6.cons (fun r=>bv r) hk (fun e=>?_) (fun hk e=>?_)
 ·exact B6.of (A1 (⟨1,9999⟩:Spn) x0 _ rfl) rfl fn0
 refine B6.cons (fun r=>bv r) hk (fun e=>?_) (fun hk e=>?_)
 ·exact B6.of (A1 (⟨0,3⟩:Spn) x0 _ rfl) rfl fn0
 refine B6.cons (fun r=>bv r) hk (fun e=>?_) (fun hk e=>?_)
 ·exact B6.of (A1 (⟨0,3⟩:Spn) x0 _ rfl) rfl fn0
 refine B6.cons (fun r=>bv r) hk (fun e=>?_) (fun hk e=>?_)
 ·exact B6.of (A1 (⟨0,2⟩:Spn) x0 _ rfl) rfl fn0
 refine B6.cons (fun r=>bv r) hk (fun e=>?_) (fun hk e=>?_)
 ·exact B6.of (B1l x0 _ rfl) rfl fn0
 refine B6.cons (fun r=>bv r) hk (fun e=>?_) (fun hk e=>?_)
 ·exact B6.of (A1 (⟨0,9999⟩:Spn) x0 _ rfl) rfl fn0
 refine B6.cons (fun r=>bv r) hk (fun e=>?_) (fun hk e=>?_)
 ·exact B6.of (A1 (⟨0,6⟩:Spn) x0 _ rfl) rfl fn0
 refine B6.cons (fun r=>bv r) hk (fun e=>?_) (fun hk e=>?_)
 ·exact B6.of (A1 (⟨5,6⟩:Spn) x0 _ rfl) rfl fn0
 refine B6.cons (fun r=>bv r) hk (fun e=>?_) (fun hk e=>?_)
 ·exact B6.of (A1 (⟨0,0⟩:Spn) x0 _ rfl) rfl fn0
 refine B6.cons (fun r=>bv r) hk (fun e=>?_) (fun hk e=>?_)
 ·exact B6.of (A1 (⟨0,0⟩:Spn) x0 _ rfl) rfl fn0
 refine B6.cons (fun r=>bv r) hk (fun e=>?_) (fun hk e=>?_)
 ·exact B6.of (A1 (⟨0,0⟩:Spn) x0 _ rfl) rfl fn0
 refine B6.cons (fun r=>bv r) hk (fun e=>?_) (fun hk e=>?_)
 ·exact B6.of (A1 (⟨0,0⟩:Spn) x0 _ rfl) rfl fn0
 refine B6.cons (fun r=>bv r) hk (fun e=>?_) (fun hk e=>?_)
 ·exact B6.of (A1 (⟨0,0⟩:Spn) x0 _ rfl) rfl fn0
 refine B6.cons (fun r=>bv r) hk (fun e=>?_) (fun hk e=>?_)
 ·exact B6.of (A1 (⟨0,0⟩:Spn) x0 _ rfl) rfl fn0
 refine B6.cons (fun r=>bv r) hk (fun e=>?_) (fun hk e=>?_)
 ·exact B6.of (A1 (⟨0,0⟩:Spn) x0 _ rfl) rfl fn0
 refine B6.cons (fun r=>bv r) hk (fun e=>?_) (fun hk e=>?_)
 ·exact B6.of (A1 (⟨0,0⟩:Spn) x0 _ rfl) rfl fn0
 refine B6.cons (fun r=>bv r) hk (fun e=>?_) (fun hk e=>?_)
 ·exact B6.of (A1 (⟨0,0⟩:Spn) x0 _ rfl) rfl fn0
 refine B6.cons (fun r=>bv r) hk (fun e=>?_) (fun hk e=>?_)
 ·exact B6.of (A1 (⟨0,0⟩:Spn) x0 _ rfl) rfl fn0
 refine B6.cons (fun r=>bv r) hk (fun e=>?_) (fun hk e=>?_)
 ·exact B6.of (A1 (⟨0,0⟩:Spn) x0 _ rfl) rfl fn0
 refine B6.cons (fun r=>bv r) hk (fun e=>?_) (fun hk e=>?_)
 ·exact B6.of (A1 (⟨0,0⟩:Spn) x0 _ rfl) rfl fn0
 refine B6.cons (fun r=>bv r) hk (fun e=>?_) (fun hk e=>?_)
 ·exact B6.of (A1 (⟨0,0⟩:Spn) x0 _ rfl) rfl fn0
 refine B6.cons (fun r=>bv r) hk (fun e=>?_) (fun hk e=>?_)
 ·exact B6.of (A1 (⟨0,1⟩:Spn) x0 _ rfl) rfl fn0
 refine B6.cons (fun r=>bv r) hk (fun e=>?_) (fun hk e=>?_)
 ·exact B6.of (A1 (⟨0,1⟩:Spn) x0 _ rfl) rfl fn0
 refine B6.cons (fun r=>bv r) hk (fun e=>?_) (fun hk e=>?_)
 ·exact B6.of (A1 (⟨0,1⟩:Spn) x0 _ rfl) rfl fn0
 refine B6.cons (fun r=>bv r) hk (fun e=>?_) (fun hk e=>?_)
 ·exact B6.of (A1 (⟨0,1⟩:Spn) x0 _ rfl) rfl fn0
 refine B6.cons (fun r=>bv r) hk (fun e=>?_) (fun hk e=>?_)
 ·exact B6.of (A1 (⟨0,1⟩:Spn) x0 _ rfl) rfl fn0
 refine B6.cons (fun r=>bv r) hk (fun e=>?_) (fun hk e=>?_)
 ·exact B6.of (A1 (⟨1,9999⟩:Spn) x0 _ rfl) rfl fn0
 refine B6.cons (fun r=>bv r) hk (fun e=>?_) (fun hk e=>?_)
 ·exact B6.of (A1 (⟨1,9999⟩:Spn) x0 _ rfl) rfl fn0
 refine B6.cons (fun r=>bv r) hk (fun e=>?_) (fun hk e=>?_)
 ·exact B6.of (A1 (⟨1,9999⟩:Spn) x0 _ rfl) rfl fn0
 refine B6.cons (fun r=>bv r) hk (fun e=>?_) (fun hk e=>?_)
 ·exact B6.of (A1 (⟨1,9999⟩:Spn) x0 _ rfl) rfl fn0
 refine B6.cons (fun r=>bv r) hk (fun e=>?_) (fun hk e=>?_)
 ·exact B6.of (A1 (⟨1,9999⟩:Spn) x0 _ rfl) rfl fn0
 refine B6.cons (fun r=>bv r) hk (fun e=>?_) (fun hk e=>?_)
 ·exact B6.of (A1 (⟨1,9999⟩:Spn) x0 _ rfl) rfl fn0
 refine B6.cons (fun r=>bv r) hk (fun e=>?_) (fun hk e=>?_)
 ·exact B6.of (A1 (⟨1,9999⟩:Spn) x0 _ rfl) rfl fn0
 refine B6.cons (fun r=>bv r) hk (fun e=>?_) (fun hk e=>?_)
 ·exact B6.of (A1 (⟨1,9999⟩:Spn) x0 _ rfl) rfl fn0
 refine B6.cons (fun r=>bv r) hk (fun e=>?_) (fun hk e=>?_)
 ·exact B6.of (A1 (⟨1,9999⟩:Spn) x0 _ rfl) rfl fn0
 refine B6.cons (fun r=>bv r) hk (fun e=>?_) (fun hk e=>?_)
 ·exact B6.of (A1 (⟨1,9999⟩:Spn) x0 _ rfl) rfl fn0
 refine B6.cons (fun r=>bv r) hk (fun e=>?_) (fun hk e=>?_)
 ·exact B6.of (A1 (⟨0,9999⟩:Spn) x0 _ rfl) rfl fn0
 refine B6.cons (fun r=>bv r) hk (fun e=>?_) (fun hk e=>?_)
 ·exact B6.of (A1 (⟨0,9999⟩:Spn) x0 _ rfl) rfl fn0
 refine B6.cons (fun r=>bv r) hk (fun e=>?_) (fun hk e=>?_)
 ·exact B6.of (A1 (⟨0,9999⟩:Spn) x0 _ rfl) rfl fn0
 exact B6.nil hk
def F0 (k:Int) (x0:Int):Bool :=
 (bif (decide (k=17)) then (A3 (⟨0,1⟩:Spn) x0) else (bif (decide (k=18)) then (A3 (⟨0,0⟩:Spn) x0) else (bif (decide (k=19)) then (A3 (⟨1,9999⟩:Spn) x0) else (bif (decide (k=20)) then (A3 (⟨1,9999⟩:Spn) x0) else (bif (decide (k=26)) then (A3 (⟨0,0⟩:Spn) x0) else (bif (decide (k=27)) then (A3 (⟨0,0⟩:Spn) x0) else (bif (decide (k=35)) then (A3 (⟨0,0⟩:Spn) x0) else (bif (decide (k=38)) then (A3 (⟨0,9999⟩:Spn) x0) else (bif (decide (k=40)) then (A3 (⟨0,0⟩:Spn) x0) else (bif (decide (k=41)) then (A3 (⟨0,0⟩:Spn) x0) else (bif (decide (k=2)) then (A3 (⟨0,0⟩:Spn) x0) else (bif (decide (k=3)) then (A3 (⟨0,0⟩:Spn) x0) else (bif (decide (k=4)) then (A3 (⟨0,0⟩:Spn) x0) else (bif (decide (k=5)) then (A3 (⟨0,0⟩:Spn) x0) else (bif (decide (k=6)) then (A3 (⟨0,0⟩:Spn) x0) else (bif (decide (k=8)) then (A3 (⟨0,0⟩:Spn) x0) else (bif (decide (k=9)) then (A3 (⟨0,0⟩:Spn) x0) else (bif (decide (k=10)) then (A3 (⟨0,0⟩:Spn) x0) else (bif (decide (k=11)) then (A3 (⟨0,0⟩:Spn) x0) else (bif (decide (k=12)) then (A3 (⟨0,0⟩:Spn) x0) else (bif (decide (k=13)) then (A3 (⟨0,0⟩:Spn) x0) else (bif (decide (k=15)) then (A3 (⟨0,0⟩:Spn) x0) else (bif (decide (k=16)) then (A3 (⟨0,0⟩:Spn) x0) else (bif (decide (k=7)) then (A3 (⟨0,0⟩:Spn) x0) else (bif (decide (k=14)) then (A3 (⟨0,0⟩:Spn) x0) else (bif (decide (k=42)) then (A3 (⟨0,0⟩:Spn) x0) else (bif (decide (k=21)) then (A3 (⟨1,9999⟩:Spn) x0) else (bif (decide (k=33)) then (A3 (⟨1,9999⟩:Spn) x0) else (bif (decide (k=22)) then (A3 (⟨0,0⟩:Spn) x0) else (bif (decide (k=23)) then (A3 (⟨0,0⟩:Spn) x0) else (bif (decide (k=24)) then (A3 (⟨0,0⟩:Spn) x0) else (bif (decide (k=25)) then (A3 (⟨0,0⟩:Spn) x0) else (bif (decide (k=28)) then (A3 (⟨0,0⟩:Spn) x0) else (bif (decide (k=29)) then (A3 (⟨0,0⟩:Spn) x0) else (bif (decide (k=30)) then (A3 (⟨0,0⟩:Spn) x0) else (bif (decide (k=31)) then (A3 (⟨0,0⟩:Spn) x0) else (bif (decide (k=32)) then (A3 (⟨0,0⟩:Spn) x0) else (bif (decide (k=34)) then (A3 (⟨0,0⟩:Spn) x0) else (bif (decide (k=36)) then (A3 (⟨0,1⟩:Spn) x0) else (bif (decide (k=37)) then (A3 (⟨0,1⟩:Spn) x0) else (bif (decide (k=43)) then (A3 (⟨0,1⟩:Spn) x0) else false)))))))))))))))))))))))))))))))))))))))))
theorem V3 (k:Int) (x0:Int) (hk:G1 k H4=true) (R:Bool) (hR:F0 k x0=R):B6 Tryz.prog (lkV k .nilFunc H4) [iv x0] [] (bv R):=by
 subst hR
 unfold F0
 unfold H4 at *
 refine B6.cons (fun r=>bv r) hk (fun e=>?_) (fun hk e=>?_)
 ·exact B6.of (A1 (⟨0,1⟩:Spn) x0 _ rfl) rfl fn0
 refine B6.cons (fun r=>bv r) hk (fun e=>?_) (fun hk e=>?_)
 ·exact B6.of (A1 (⟨0,0⟩:Spn) x0 _ rfl) rfl fn0
 refine B6.cons (fun r=>bv r) hk (fun e=>?_) (fun hk e=>?_)
 ·exact B6.of (A1 (⟨1,9999⟩:Spn) x0 _ rfl) rfl fn0
 refine B6.cons (fun r=>bv r) hk (fun e=>?_) (fun hk e=>?_)
 ·exact B6.of (A1 (⟨1,9999⟩:Spn) x0 _ rfl) rfl fn0
 refine B6.cons (fun r=>bv r) hk (fun e=>?_) (fun hk e=>?_)
 ·exact B6.of (A1 (⟨0,0⟩:Spn) x0 _ rfl) rfl fn0
 refine B6.cons (fun r=>bv r) hk (fun e=>?_) (fun hk e=>?_)
 ·exact B6.of (A1 (⟨0,0⟩:Spn) x0 _ rfl) rfl fn0
 refine B6.cons (fun r=>bv r) hk (fun e=>?_) (fun hk e=>?_)
 ·exact B6.of (A1 (⟨0,0⟩:Spn) x0 _ rfl) rfl fn0
 refine B6.cons (fun r=>bv r) hk (fun e=>?_) (fun hk e=>?_)
 ·exact B6.of (A1 (⟨0,9999⟩:Spn) x0 _ rfl) rfl fn0
 refine B6.cons (fun r=>bv r) hk (fun e=>?_) (fun hk e=>?_)
 ·exact B6.of (A1 (⟨0,0⟩:Spn) x0 _ rfl) rfl fn0
 refine B6.cons (fun r=>bv r) hk (fun e=>?_) (fun hk e=>?_)
 ·exact B6.of (A1 (⟨0,0⟩:Spn) x0 _ rfl) rfl fn0
 refine B6.cons (fun r=>bv r) hk (fun e=>?_) (fun hk e=>?_)
 ·exact B6.of (A1 (⟨0,0⟩:Spn) x0 _ rfl) rfl fn0
 refine B6.cons (fun r=>bv r) hk (fun e=>?_) (fun hk e=>?_)
 ·exact B6.of (A1 (⟨0,0⟩:Spn) x0 _ rfl) rfl fn0
 refine B6.cons (fun r=>bv r) hk (fun e=>?_) (fun hk e=>?_)
 ·exact B6.of (A1 (⟨0,0⟩:Spn) x0 _ rfl) rfl fn0
 refine B6.cons (fun r=>bv r) hk (fun e=>?_) (fun hk e=>?_)
 ·exact B6.of (A1 (⟨0,0⟩:Spn) x0 _ rfl) rfl fn0
 refine B6.cons (fun r=>bv r) hk (fun e=>?_) (fun hk e=>?_)
 ·exact B6.of (A1 (⟨0,0⟩:Spn) x0 _ rfl) rfl fn0
 refine B6.cons (fun r=>bv r) hk (fun e=>?_) (fun hk e=>?_)
 ·exact B6.of (A1 (⟨0,0⟩:Spn) x0 _ rfl) rfl fn0
 refine B6.cons (fun r=>bv r) hk (fun e=>?_) (fun hk e=>?_)
 ·exact B6.of (A1 (⟨0,0⟩:Spn) x0 _ rfl) rfl fn0
 refine B6.cons (fun r=>bv r) hk (fun e=>?_) (fun hk e=>?_)
 ·exact B6.of (A1 (⟨0,0⟩:Spn) x0 _ rfl) rfl fn0
 refine B6.cons (fun r=>bv r) hk (fun e=>?_) (fun hk e=>?_)
 ·exact B6.of (A1 (⟨0,0⟩:Spn) x0 _ rfl) rfl fn0
 refine B6.cons (fun r=>bv r) hk (fun e=>?_) (fun hk e=>?_)
 ·exact B6.of (A1 (⟨0,0⟩:Spn) x0 _ rfl) rfl fn0
 refine B6.cons (fun r=>bv r) hk (fun e=>?_) (fun hk e=>?_)
 ·exact B6.of (A1 (⟨0,0⟩:Spn) x0 _ rfl) rfl fn0
 refine B6.cons (fun r=>bv r) hk (fun e=>?_) (fun hk e=>?_)
 ·exact B6.of (A1 (⟨0,0⟩:Spn) x0 _ rfl) rfl fn0
 refine B6.cons (fun r=>bv r) hk (fun e=>?_) (fun hk e=>?_)
 ·exact B6.of (A1 (⟨0,0⟩:Spn) x0 _ rfl) rfl fn0
 refine B6.cons (fun r=>bv r) hk (fun e=>?_) (fun hk e=>?_)
 ·exact B6.of (A1 (⟨0,0⟩:Spn) x0 _ rfl) rfl fn0
 refine B6.cons (fun r=>bv r) hk (fun e=>?_) (fun hk e=>?_)
 ·exact B6.of (A1 (⟨0,0⟩:Spn) x0 _ rfl) rfl fn0
 refine B6.cons (fun r=>bv r) hk (fun e=>?_) (fun hk e=>?_)
 ·exact B6.of (A1 (⟨0,0⟩:Spn) x0 _ rfl) rfl fn0
 refine B6.cons (fun r=>bv r) hk (fun e=>?_) (fun hk e=>?_)
 ·exact B6.of (A1 (⟨1,9999⟩:Spn) x0 _ rfl) rfl fn0
 refine B6.cons (fun r=>bv r) hk (fun e=>?_) (fun hk e=>?_)
 ·exact B6.of (A1 (⟨1,9999⟩:Spn) x0 _ rfl) rfl fn0
 refine B6.cons (fun r=>bv r) hk (fun e=>?_) (fun hk e=>?_)
 ·exact B6.of (A1 (⟨0,0⟩:Spn) x0 _ rfl) rfl fn0
 refine B6.cons (fun r=>bv r) hk (fun e=>?_) (fun hk e=>?_)
 ·exact B6.of (A1 (⟨0,0⟩:Spn) x0 _ rfl) rfl fn0
 refine B6.cons (fun r=>bv r) hk (fun e=>?_) (fun hk e=>?_)
 ·exact B6.of (A1 (⟨0,0⟩:Spn) x0 _ rfl) rfl fn0
 refine B6.cons (fun r=>bv r) hk (fun e=>?_) (fun hk e=>?_)
 ·exact B6.of (A1 (⟨0,0⟩:Spn) x0 _ rfl) rfl fn0
 refine B6.cons (fun r=>bv r) hk (fun e=>?_) (fun hk e=>?_)
 ·exact B6.of (A1 (⟨0,0⟩:Spn) x0 _ rfl) rfl fn0
 refine B6.cons (fun r=>bv r) hk (fun e=>?_) (fun hk e=>?_)
 ·exact B6.of (A1 (⟨0,0⟩:Spn) x0 _ rfl) rfl fn0
 refine B6.cons (fun r=>bv r) hk (fun e=>?_) (fun hk e=>?_)
 ·exact B6.of (A1 (⟨0,0⟩:Spn) x0 _ rfl) rfl fn0
 refine B6.cons (fun r=>bv r) hk (fun e=>?_) (fun hk e=>?_)
 ·exact B6.of (A1 (⟨0,0⟩:Spn) x0 _ rfl) rfl fn0
 refine B6.cons (fun r=>bv r) hk (fun e=>?_) (fun hk e=>?_)
 ·exact B6.of (A1 (⟨0,0⟩:Spn) x0 _ rfl) rfl fn0
 refine B6.cons (fun r=>bv r) hk (fun e=>?_) (fun hk e=>?_)
 ·exact B6.of (A1 (⟨0,0⟩:Spn) x0 _ rfl) rfl fn0
 refine B6.cons (fun r=>bv r) hk (fun e=>?_) (fun hk e=>?_)
 ·exact B6.of (A1 (⟨0,1⟩:Spn) x0 _ rfl) rfl fn0
 refine B6.cons (fun r=>bv r) hk (fun e=>?_) (fun hk e=>?_)
 ·exact B6.of (A1 (⟨0,1⟩:Spn) x0 _ rfl) rfl fn0
 refine B6.cons (fun r=>bv r) hk (fun e=>?_) (fun hk e=>?_)
 ·exact B6.of (A1 (⟨0,1⟩:Spn) x0 _ rfl) rfl fn0
 exact B6.nil hk
theorem A9y {a:Act} {k:Int} (h:a.kind=k):a=⟨k,a.n,a.m,a.color,a.text⟩:=by subst h;rfl
def P4 (a:Act):Int :=
 (bif (decide (a.kind=1)) then (bif ((decide ((A7b a.n)<0))||(!(decide ((⟨1,a.n,a.m,a.color,a.text⟩:Act)=(A1o a.kind a.n 0))))) then 200 else 0) else (bif (decide (a.kind=39)) then (bif (!decide ((N8 (⟨39,a.n,a.m,a.color,a.text⟩:Act))=0)) then 200 else 0) else (bif (decide (a.kind=44)) then (bif (decide (a.kind=44)) then (D5 (A4r a.n a.m a.color a.text) fun (y0:List UInt8×Int)=>(bif (!decide (y0.2=0)) then 200 else 0)) else (bif (((((!(G1 a.kind B7))||(!(D4 a.kind a.n)))||(!(F0 a.kind a.m)))||(!(decide (a.color=Col.zero))))||(!(decide (a.text=([]:List UInt8))))) then 200 else 0)) else (bif (decide (a.kind=45)) then (bif (decide (a.kind=45)) then (D5 (A2r a.n a.m a.color a.text) fun (y2:List UInt8×Int)=>(bif (!decide (y2.2=0)) then 200 else 0)) else (bif (((((!(G1 a.kind B7))||(!(D4 a.kind a.n)))||(!(F0 a.kind a.m)))||(!(decide (a.color=Col.zero))))||(!(decide (a.text=([]:List UInt8))))) then 200 else 0)) else (bif (decide (a.kind=46)) then (D5 (A2y a.n a.m a.color a.text) fun (y1:List UInt8×Int)=>(bif (!decide (y1.2=0)) then 200 else 0)) else (bif (((((!(G1 a.kind B7))||(!(D4 a.kind a.n)))||(!(F0 a.kind a.m)))||(!(decide (a.color=Col.zero))))||(!(decide (a.text=([]:List UInt8))))) then 200 else 0))))))
set_option maxHeartbeats 2000000 in
theorem B8a (a:Act) (hs:a.text.length≤100000000) (R:Int) (hR:P4 a=R):K0 Tryz.prog 38 [ag (A7 a)] [A8n,A8m,M5,M2,J3] (iv R):=by
 refine zco Tryz.func38 [(0,ag (A7 a))] fun X hX hr hD=>?_
 replace hR:=(P4.eq_1 ..).symm.trans hR
 refine sr 2 rfl (N3 2 0 [] (fun b1=>[(1,pt b1 0)]) (fun b1=>[bx b1 (A7 a) 26]) (fun b1=>(ie (sr 1 rfl (ip' 1 0 [(3,iv 0)] (ie (A8 (sr 2 rfl (zrl 2 0 [0] [(7,iv a.kind)] (ie (B3 (sr 2 rfl (ip' 2 0 [(44,bv (decide (a.kind=1)))] (ie ?_))))))))))))))
 refine zjd rfl hR ?_ ?_<;>clear hR<;>intro hR h2 h2p
 ·refine sd 13 rfl (by kernel_rfl) rfl ?_
  refine zdg 2 11 [0] [(47,iv a.n)] ?_
  refine zcd (C3c a.n _ rfl) (A0.pick [0,1] rfl) ?_
  refine dp' 2 8 [(50,bv (decide ((A7b a.n)<0)))] ?_
  refine zdr 8 0 50 58 (!(decide ((⟨1,a.n,a.m,a.color,a.text⟩:Act)=(A1o a.kind a.n 0)))) (fun g3 g3p=>?_) ?_
  ·refine dd rfl (by exact H5 (I6 (us:=A7 a) B0l rfl rfl 0 rfl rfl rfl) (congrArg (fun z=>ag (A7 z)) (A9y h2p))) ?_
   refine zdg 4 3 [0,0] [(53,iv a.kind),(55,iv a.n)] ?_
   refine zcd (C1s a.kind a.n 0 _ rfl) fn0 ?_
   refine dd rfl (X8 (a:=(⟨1,a.n,a.m,a.color,a.text⟩:Act)) (b:=(A1o a.kind a.n 0)) C7k rfl rfl rfl) (dp' 1 0 [(58,bv (!(decide ((⟨1,a.n,a.m,a.color,a.text⟩:Act)=(A1o a.kind a.n 0)))))] ?_)
   exact zad 7 50 58 g3
  refine de ?_
  refine zjb rfl hR ?_ ?_<;>clear hR<;>intro hR h4
  ·have h4p:((A7b a.n)<0)∨(¬ (⟨1,a.n,a.m,a.color,a.text⟩:Act)=(A1o a.kind a.n 0)):=by simpa using h4
   refine A4 1 rfl (ip' 1 0 [(3,iv 200)] (A6 (nx (A8 (sr 2 rfl (ip' 2 0 [(73,bv true)] (ie (K5 rfl (sr 1 rfl (ip' 1 0 [(2,iv 200)] ?_))))))))))
   subst hR
   refine ie (B2 ?_)
   exact G0 hr hD
  have h4p:¬ (((A7b a.n)<0)∨(¬ (⟨1,a.n,a.m,a.color,a.text⟩:Act)=(A1o a.kind a.n 0))):=by simpa using h4
  refine B0 (nx (A8 (sr 2 rfl (ip' 2 0 [(73,bv false)] (ie (A3q rfl (B0 (nx (sr 1 rfl (ip' 1 0 [(2,iv 0)] ?_))))))))))
  subst hR
  refine ie (B2 ?_)
  exact G0 hr hD
 refine sr 2 rfl (ip' 2 0 [(59,bv (decide (a.kind=39)))] (ie ?_))
 refine zjd rfl hR ?_ ?_<;>clear hR<;>intro hR h5 h5p
 ·refine A4 3 rfl (ix rfl (by exact H5 (I6 (us:=A7 a) B0l rfl rfl 0 rfl rfl rfl) (congrArg (fun z=>ag (A7 z)) (A9y h5p))) (zca (A7i (⟨39,a.n,a.m,a.color,a.text⟩:Act) _ rfl) fn0 (ip' 1 0 [(3,iv (N8 (⟨39,a.n,a.m,a.color,a.text⟩:Act)))] (A6 (nx (A8 (sr 2 rfl (ip' 2 0 [(73,bv (!decide ((N8 (⟨39,a.n,a.m,a.color,a.text⟩:Act))=0)))] (ie ?_)))))))))
  refine zjn rfl hR ?_ ?_<;>clear hR<;>intro hR h6 h6p
  ·refine sr 1 rfl (ip' 1 0 [(2,iv 200)] ?_)
   subst hR
   refine ie (B2 ?_)
   exact G0 hr hD
  refine B0 (nx (sr 1 rfl (ip' 1 0 [(2,iv 0)] ?_)))
  subst hR
  refine ie (B2 ?_)
  exact G0 hr hD
 refine A8 (sr 2 rfl (ip' 2 0 [(63,bv (decide (a.kind=44)))] ?_))
 refine ie ?_
 refine zjd rfl hR ?_ ?_<;>clear hR<;>intro hR h7 h7p
 ·refine B0 (nx ?_)
  refine zjd rfl hR ?_ ?_<;>clear hR<;>intro hR h8 h8p
  ·refine A4 6 rfl (ix rfl (by exact H5 (I6 (us:=A7 a) B0l rfl rfl 0 rfl rfl rfl) (congrArg (fun z=>ag (A7 z)) (A9y h8p))) ?_)
   have hQ:=D0 hR;clear hR;obtain ⟨y0,hy0,hR⟩:=hQ
   refine zca (B5b a.n a.m a.color a.text (by first|omega|(simp<;>omega)) y0 hy0) fn0 ?_
   have:=A6q a.n a.m a.color a.text;try rw [hy0] at this
   refine ip' 4 0 [(3,iv y0.2)] (A6 (nx (A8 (sr 2 rfl (ip' 2 0 [(73,bv (!decide (y0.2=0)))] (ie ?_))))))
   refine zjn rfl hR ?_ ?_<;>clear hR<;>intro hR h9 h9p
   ·refine sr 1 rfl (ip' 1 0 [(2,iv 200)] ?_)
    subst hR
    refine ie (B2 ?_)
    exact G0 hr hD
   refine B0 (nx (sr 1 rfl (ip' 1 0 [(2,iv 0)] ?_)))
   subst hR
   refine ie (B2 ?_)
   exact G0 hr hD
  refine sh 10 [(10,[bx b1 (A7 a) 26])] [A8n,A8m,M5,M2,J3] [bx b1 (A7 a) 26] (zml 10 0) (by kernel_rfl) rfl (by kernel_rfl) (by kernel_rfl) (by kernel_rfl) (mk [true] rfl) A0.refl ?_
  refine zhp [1] 9 (zml 10 2) [(10,pt b1 0)] ?_
  refine zhl 2 [bx b1 (A7 a) 26] (zml 10 6) rfl (B1 (v:=iv a.kind) ty3 rfl rfl 0 rfl rfl) ?_
  refine A6i 0 7 (by kernel_rfl) ?_ ?_
  ·refine B0o 0 [bx b1 (A7 a) 26] (zml 10 7) rfl rfl rfl (by kernel_rfl) (by kernel_rfl) (by kernel_rfl) (C0 (L2:=[bx b1 (A7 a) 26]) (U3 _ rfl) rfl rfl rfl rfl rfl fn0 (List.Perm.refl _) (fun b10=>[(b10,.map (A5 B9s 0).toArray 41),bx b1 (A7 a) 26]) (fun _=>rfl)) (fun b10=>(mk [false,true] rfl)) (fun b10=>A0.refl) fun b10=>?_
   refine A6i 3 7 (by kernel_rfl) ?_ ?_
   ·refine B0o 3 [bx b1 (A7 a) 26] (zml 10 15) rfl rfl rfl (by kernel_rfl) (by kernel_rfl) (by kernel_rfl) (Det.tri (G7.det (by exact H5 (O0 A8l I0 rfl rfl rfl 0 rfl (by kernel_rfl) (by kernel_rfl)) (X6 a.kind)))) (fun _=>(mk [false,true] rfl)) (fun _=>A0.refl) fun _=>?_
    refine zhp [4,5,6] 3 (zml 10 127) [(13,ag [(lkV a.kind .nilFunc B7),(lkV a.kind .nilFunc H4)]),(14,bv (G1 a.kind B7))] ?_
    refine zho 7 [bx b1 (A7 a) 26] (zml 10 255) rfl (U6 (cs:=[.nilFunc,.nilFunc]) A4n rfl) (fun b11=>(mk [false,false,true] rfl)) (fun b11=>A0.refl) fun b11=>?_
    refine zho 8 [bx b1 (A7 a) 26] (zml 10 511) rfl (N5 (us:=[(lkV a.kind .nilFunc B7),(lkV a.kind .nilFunc H4)]) (cs':=[(lkV a.kind .nilFunc B7),(lkV a.kind .nilFunc H4)]) B3g rfl rfl rfl 0 rfl rfl rfl (by simp only [List.all_cons,List.all_nil,Bool.and_true,Bool.and_eq_true];exact ⟨O1 rfl rfl,O1 rfl rfl⟩) rfl rfl) (fun _=>(mk [false,false,true] rfl)) (fun _=>A0.refl) fun _=>?_
    refine zhp [9] 0 (zml 10 1023) [(5,bv (G1 a.kind B7))] ?_
    refine A3z (by kernel_rfl) ?_
    refine sr 29 rfl (ip' 3 26 [(17,bv (!(G1 a.kind B7)))] ?_)
    refine zio 7 19 17 24 (!(D4 a.kind a.n)) (fun g12=>?_) ?_
    ·refine ip' 1 6 [(18,pt b11 0)] (ix rfl (B1 (v:=(lkV a.kind .nilFunc B7)) A0s rfl rfl 0 rfl rfl) (ip' 1 4 [(20,pt b1 1)] (ix rfl (B1 (v:=iv a.n) ty3 rfl rfl 2 rfl rfl) (ixc rfl (L9 (V5 a.kind a.n (by first|assumption|(have hh:G1 a.kind B7=true:=(by first|assumption|simp_all);exact hh)) _ rfl) rfl rfl rfl rfl fn0) (ip' 2 0 [(24,bv (!(D4 a.kind a.n)))] ?_)))))
     exact zai 7 17 24 g12
    refine ip' 1 18 [(25,bv ((!(G1 a.kind B7))||(!(D4 a.kind a.n))))] ?_
    refine zio 7 11 25 32 (!(F0 a.kind a.m)) (fun g13=>?_) ?_
    ·have g13p:=g13;try simp at g13p
     refine ip' 1 6 [(26,pt b11 1)] (ix rfl (B1 (v:=(lkV a.kind .nilFunc H4)) A0s rfl rfl 0 rfl rfl) (ip' 1 4 [(28,pt b1 2)] (ix rfl (B1 (v:=iv a.m) ty3 rfl rfl 2 rfl rfl) (ixc rfl (L9 (V3 a.kind a.m (by first|assumption|(have hh:G1 a.kind B7=true:=(by first|assumption|simp_all);exact hh)) _ rfl) rfl rfl rfl rfl fn0) (ip' 2 0 [(32,bv (!(F0 a.kind a.m)))] ?_)))))
     exact zai 7 25 32 g13
    refine ip' 1 10 [(33,bv (((!(G1 a.kind B7))||(!(D4 a.kind a.n)))||(!(F0 a.kind a.m))))] ?_
    refine zio 5 5 33 38 (!(decide (a.color=Col.zero))) (fun g14=>?_) ?_
    ·have g14p:=g14;try simp at g14p
     refine ip' 1 4 [(34,pt b1 3)] (ix rfl (I6 (us:=O2 a.color) A8q rfl rfl 2 rfl rfl rfl) (zrl 1 2 [] [(36,ag (O2 Col.zero))] (ix rfl (X8 (a:=a.color) (b:=Col.zero) A8j rfl rfl rfl) (ip' 1 0 [(38,bv (!(decide (a.color=Col.zero))))] ?_))))
     exact zai 6 33 38 g14
    refine ip' 1 4 [(39,bv ((((!(G1 a.kind B7))||(!(D4 a.kind a.n)))||(!(F0 a.kind a.m)))||(!(decide (a.color=Col.zero)))))] ?_
    refine zio 4 0 39 43 (!(decide (a.text=([]:List UInt8)))) (fun g15=>?_) ?_
    ·have g15p:=g15;try simp at g15p
     refine ip' 1 3 [(40,pt b1 5)] (ix rfl (B1 (v:=sv a.text) ty9 rfl rfl 2 rfl rfl) (ix rfl (Z0 rfl rfl rfl) (ip' 1 0 [(43,bv (!(decide (a.text=([]:List UInt8)))))] ?_)))
     exact zai 5 39 43 g15
    refine ie ?_
    refine zjb rfl hR ?_ ?_<;>clear hR<;>intro hR h16
    ·have h16p:=h16;try simp at h16p
     refine A4 1 rfl (ip' 1 0 [(3,iv 200)] (A6 (nx (A8 (sr 2 rfl (ip' 2 0 [(73,bv true)] (ie (K5 rfl (sr 1 rfl (ip' 1 0 [(2,iv 200)] ?_))))))))))
     subst hR
     refine ie (B2 ?_)
     exact G0 hr hD
    have h16p:=h16;try simp at h16p
    refine B0 (nx (A8 (sr 2 rfl (ip' 2 0 [(73,bv false)] (ie (A3q rfl (B0 (nx (sr 1 rfl (ip' 1 0 [(2,iv 0)] ?_))))))))))
    subst hR
    refine ie (B2 ?_)
    exact G0 hr hD
   ·refine B0o 7 [bx b1 (A7 a) 26] (zml 10 135) rfl rfl rfl (by kernel_rfl) (by kernel_rfl) (by kernel_rfl) (U6 (cs:=[.nilFunc,.nilFunc]) A4n rfl) (fun b17=>(mk [false,false,true] rfl)) (fun b17=>A0.refl) fun b17=>?_
    refine zho 3 [bx b1 (A7 a) 26] (zml 10 143) rfl (Det.tri (G7.det (by exact H5 (O0 A8l I0 rfl rfl rfl 1 rfl (by kernel_rfl) (by kernel_rfl)) (X6 a.kind)))) (fun _=>(mk [false,false,true] rfl)) (fun _=>A0.refl) fun _=>?_
    refine zhp [4,5,6] 2 (zml 10 255) [(13,ag [(lkV a.kind .nilFunc B7),(lkV a.kind .nilFunc H4)]),(14,bv (G1 a.kind B7))] ?_
    refine zho 8 [bx b1 (A7 a) 26] (zml 10 511) rfl (N5 (us:=[(lkV a.kind .nilFunc B7),(lkV a.kind .nilFunc H4)]) (cs':=[(lkV a.kind .nilFunc B7),(lkV a.kind .nilFunc H4)]) B3g rfl rfl rfl 0 rfl rfl rfl (by simp only [List.all_cons,List.all_nil,Bool.and_true,Bool.and_eq_true];exact ⟨O1 rfl rfl,O1 rfl rfl⟩) rfl rfl) (fun _=>(mk [false,false,true] rfl)) (fun _=>A0.refl) fun _=>?_
    refine zhp [9] 0 (zml 10 1023) [(5,bv (G1 a.kind B7))] ?_
    refine A3z (by kernel_rfl) ?_
    refine sr 29 rfl (ip' 3 26 [(17,bv (!(G1 a.kind B7)))] ?_)
    refine zio 7 19 17 24 (!(D4 a.kind a.n)) (fun g18=>?_) ?_
    ·refine ip' 1 6 [(18,pt b17 0)] (ix rfl (B1 (v:=(lkV a.kind .nilFunc B7)) A0s rfl rfl 0 rfl rfl) (ip' 1 4 [(20,pt b1 1)] (ix rfl (B1 (v:=iv a.n) ty3 rfl rfl 2 rfl rfl) (ixc rfl (L9 (V5 a.kind a.n (by first|assumption|(have hh:G1 a.kind B7=true:=(by first|assumption|simp_all);exact hh)) _ rfl) rfl rfl rfl rfl fn0) (ip' 2 0 [(24,bv (!(D4 a.kind a.n)))] ?_)))))
     exact zai 7 17 24 g18
    refine ip' 1 18 [(25,bv ((!(G1 a.kind B7))||(!(D4 a.kind a.n))))] ?_
    refine zio 7 11 25 32 (!(F0 a.kind a.m)) (fun g19=>?_) ?_
    ·have g19p:=g19;try simp at g19p
     refine ip' 1 6 [(26,pt b17 1)] (ix rfl (B1 (v:=(lkV a.kind .nilFunc H4)) A0s rfl rfl 0 rfl rfl) (ip' 1 4 [(28,pt b1 2)] (ix rfl (B1 (v:=iv a.m) ty3 rfl rfl 2 rfl rfl) (ixc rfl (L9 (V3 a.kind a.m (by first|assumption|(have hh:G1 a.kind B7=true:=(by first|assumption|simp_all);exact hh)) _ rfl) rfl rfl rfl rfl fn0) (ip' 2 0 [(32,bv (!(F0 a.kind a.m)))] ?_)))))
     exact zai 7 25 32 g19
    refine ip' 1 10 [(33,bv (((!(G1 a.kind B7))||(!(D4 a.kind a.n)))||(!(F0 a.kind a.m))))] ?_
    refine zio 5 5 33 38 (!(decide (a.color=Col.zero))) (fun g20=>?_) ?_
    ·have g20p:=g20;try simp at g20p
     refine ip' 1 4 [(34,pt b1 3)] (ix rfl (I6 (us:=O2 a.color) A8q rfl rfl 2 rfl rfl rfl) (zrl 1 2 [] [(36,ag (O2 Col.zero))] (ix rfl (X8 (a:=a.color) (b:=Col.zero) A8j rfl rfl rfl) (ip' 1 0 [(38,bv (!(decide (a.color=Col.zero))))] ?_))))
     exact zai 6 33 38 g20
    refine ip' 1 4 [(39,bv ((((!(G1 a.kind B7))||(!(D4 a.kind a.n)))||(!(F0 a.kind a.m)))||(!(decide (a.color=Col.zero)))))] ?_
    refine zio 4 0 39 43 (!(decide (a.text=([]:List UInt8)))) (fun g21=>?_) ?_
    ·have g21p:=g21;try simp at g21p
     refine ip' 1 3 [(40,pt b1 5)] (ix rfl (B1 (v:=sv a.text) ty9 rfl rfl 2 rfl rfl) (ix rfl (Z0 rfl rfl rfl) (ip' 1 0 [(43,bv (!(decide (a.text=([]:List UInt8)))))] ?_)))
     exact zai 5 39 43 g21
    refine ie ?_
    refine zjb rfl hR ?_ ?_<;>clear hR<;>intro hR h22
    ·have h22p:=h22;try simp at h22p
     refine A4 1 rfl (ip' 1 0 [(3,iv 200)] (A6 (nx (A8 (sr 2 rfl (ip' 2 0 [(73,bv true)] (ie (K5 rfl (sr 1 rfl (ip' 1 0 [(2,iv 200)] ?_))))))))))
     subst hR
     refine ie (B2 ?_)
     exact G0 hr hD
    have h22p:=h22;try simp at h22p
    refine B0 (nx (A8 (sr 2 rfl (ip' 2 0 [(73,bv false)] (ie (A3q rfl (B0 (nx (sr 1 rfl (ip' 1 0 [(2,iv 0)] ?_))))))))))
    subst hR
    refine ie (B2 ?_)
    exact G0 hr hD
  ·refine B0o 7 [bx b1 (A7 a) 26] (zml 10 134) rfl rfl rfl (by kernel_rfl) (by kernel_rfl) (by kernel_rfl) (U6 (cs:=[.nilFunc,.nilFunc]) A4n rfl) (fun b23=>(mk [false,true] rfl)) (fun b23=>A0.refl) fun b23=>?_
   refine zho 0 [bx b1 (A7 a) 26] (zml 10 135) rfl (C0 (L2:=[bx b23 [.nilFunc,.nilFunc] 134,bx b1 (A7 a) 26]) (U3 _ rfl) rfl rfl rfl rfl rfl fn0 (List.Perm.refl _) (fun b24=>[(b24,.map (A5 B9s 0).toArray 41),bx b23 [.nilFunc,.nilFunc] 134,bx b1 (A7 a) 26]) (fun _=>rfl)) (fun b24=>(mk [false,false,true] rfl)) (fun b24=>A0.refl) fun b24=>?_
   refine zho 3 [bx b1 (A7 a) 26] (zml 10 143) rfl (Det.tri (G7.det (by exact H5 (O0 A8l I0 rfl rfl rfl 0 rfl (by kernel_rfl) (by kernel_rfl)) (X6 a.kind)))) (fun _=>(mk [false,false,true] rfl)) (fun _=>A0.refl) fun _=>?_
   refine zhp [4,5,6] 2 (zml 10 255) [(13,ag [(lkV a.kind .nilFunc B7),(lkV a.kind .nilFunc H4)]),(14,bv (G1 a.kind B7))] ?_
   refine zho 8 [bx b1 (A7 a) 26] (zml 10 511) rfl (N5 (us:=[(lkV a.kind .nilFunc B7),(lkV a.kind .nilFunc H4)]) (cs':=[(lkV a.kind .nilFunc B7),(lkV a.kind .nilFunc H4)]) B3g rfl rfl rfl 1 rfl rfl rfl (by simp only [List.all_cons,List.all_nil,Bool.and_true,Bool.and_eq_true];exact ⟨O1 rfl rfl,O1 rfl rfl⟩) rfl rfl) (fun _=>(mk [false,false,true] rfl)) (fun _=>A0.refl) fun _=>?_
   refine zhp [9] 0 (zml 10 1023) [(5,bv (G1 a.kind B7))] ?_
   refine A3z (by kernel_rfl) ?_
   refine sr 29 rfl (ip' 3 26 [(17,bv (!(G1 a.kind B7)))] ?_)
   refine zio 7 19 17 24 (!(D4 a.kind a.n)) (fun g25=>?_) ?_
   ·refine ip' 1 6 [(18,pt b23 0)] (ix rfl (B1 (v:=(lkV a.kind .nilFunc B7)) A0s rfl rfl 1 rfl rfl) (ip' 1 4 [(20,pt b1 1)] (ix rfl (B1 (v:=iv a.n) ty3 rfl rfl 2 rfl rfl) (ixc rfl (L9 (V5 a.kind a.n (by first|assumption|(have hh:G1 a.kind B7=true:=(by first|assumption|simp_all);exact hh)) _ rfl) rfl rfl rfl rfl fn0) (ip' 2 0 [(24,bv (!(D4 a.kind a.n)))] ?_)))))
    exact zai 7 17 24 g25
   refine ip' 1 18 [(25,bv ((!(G1 a.kind B7))||(!(D4 a.kind a.n))))] ?_
   refine zio 7 11 25 32 (!(F0 a.kind a.m)) (fun g26=>?_) ?_
   ·have g26p:=g26;try simp at g26p
    refine ip' 1 6 [(26,pt b23 1)] (ix rfl (B1 (v:=(lkV a.kind .nilFunc H4)) A0s rfl rfl 1 rfl rfl) (ip' 1 4 [(28,pt b1 2)] (ix rfl (B1 (v:=iv a.m) ty3 rfl rfl 2 rfl rfl) (ixc rfl (L9 (V3 a.kind a.m (by first|assumption|(have hh:G1 a.kind B7=true:=(by first|assumption|simp_all);exact hh)) _ rfl) rfl rfl rfl rfl fn0) (ip' 2 0 [(32,bv (!(F0 a.kind a.m)))] ?_)))))
    exact zai 7 25 32 g26
   refine ip' 1 10 [(33,bv (((!(G1 a.kind B7))||(!(D4 a.kind a.n)))||(!(F0 a.kind a.m))))] ?_
   refine zio 5 5 33 38 (!(decide (a.color=Col.zero))) (fun g27=>?_) ?_
   ·have g27p:=g27;try simp at g27p
    refine ip' 1 4 [(34,pt b1 3)] (ix rfl (I6 (us:=O2 a.color) A8q rfl rfl 2 rfl rfl rfl) (zrl 1 2 [] [(36,ag (O2 Col.zero))] (ix rfl (X8 (a:=a.color) (b:=Col.zero) A8j rfl rfl rfl) (ip' 1 0 [(38,bv (!(decide (a.color=Col.zero))))] ?_))))
    exact zai 6 33 38 g27
   refine ip' 1 4 [(39,bv ((((!(G1 a.kind B7))||(!(D4 a.kind a.n)))||(!(F0 a.kind a.m)))||(!(decide (a.color=Col.zero)))))] ?_
   refine zio 4 0 39 43 (!(decide (a.text=([]:List UInt8)))) (fun g28=>?_) ?_
   ·have g28p:=g28;try simp at g28p
    refine ip' 1 3 [(40,pt b1 5)] (ix rfl (B1 (v:=sv a.text) ty9 rfl rfl 2 rfl rfl) (ix rfl (Z0 rfl rfl rfl) (ip' 1 0 [(43,bv (!(decide (a.text=([]:List UInt8)))))] ?_)))
    exact zai 5 39 43 g28
   refine ie ?_
   refine zjb rfl hR ?_ ?_<;>clear hR<;>intro hR h29
   ·have h29p:=h29;try simp at h29p
    refine A4 1 rfl (ip' 1 0 [(3,iv 200)] (A6 (nx (A8 (sr 2 rfl (ip' 2 0 [(73,bv true)] (ie (K5 rfl (sr 1 rfl (ip' 1 0 [(2,iv 200)] ?_))))))))))
    subst hR
    refine ie (B2 ?_)
    exact G0 hr hD
   have h29p:=h29;try simp at h29p
   refine B0 (nx (A8 (sr 2 rfl (ip' 2 0 [(73,bv false)] (ie (A3q rfl (B0 (nx (sr 1 rfl (ip' 1 0 [(2,iv 0)] ?_))))))))))
   subst hR
   refine ie (B2 ?_)
   exact G0 hr hD
 refine sr 2 rfl (ip' 2 0 [(63,bv (decide (a.kind=45)))] (ie ?_))
 refine zjd rfl hR ?_ ?_<;>clear hR<;>intro hR h30 h30p
 ·refine B0 (nx ?_)
  refine zjd rfl hR ?_ ?_<;>clear hR<;>intro hR h31 h31p
  ·refine A4 6 rfl (ix rfl (by exact H5 (I6 (us:=A7 a) B0l rfl rfl 0 rfl rfl rfl) (congrArg (fun z=>ag (A7 z)) (A9y h31p))) ?_)
   have hQ:=D0 hR;clear hR;obtain ⟨y2,hy2,hR⟩:=hQ
   refine zca (B2r a.n a.m a.color a.text (by first|omega|(simp<;>omega)) y2 hy2) (A0.pick [2,3,4] rfl) ?_
   have:=A5h a.n a.m a.color a.text;try rw [hy2] at this
   refine ip' 4 0 [(3,iv y2.2)] (A6 (nx (A8 (sr 2 rfl (ip' 2 0 [(73,bv (!decide (y2.2=0)))] (ie ?_))))))
   refine zjn rfl hR ?_ ?_<;>clear hR<;>intro hR h32 h32p
   ·refine sr 1 rfl (ip' 1 0 [(2,iv 200)] ?_)
    subst hR
    refine ie (B2 ?_)
    exact G0 hr hD
   refine B0 (nx (sr 1 rfl (ip' 1 0 [(2,iv 0)] ?_)))
   subst hR
   refine ie (B2 ?_)
   exact G0 hr hD
  refine sh 10 [(10,[bx b1 (A7 a) 26])] [A8n,A8m,M5,M2,J3] [bx b1 (A7 a) 26] (zml 10 0) (by kernel_rfl) rfl (by kernel_rfl) (by kernel_rfl) (by kernel_rfl) (mk [true] rfl) A0.refl ?_
  refine zhp [1] 9 (zml 10 2) [(10,pt b1 0)] ?_
  refine zhl 2 [bx b1 (A7 a) 26] (zml 10 6) rfl (B1 (v:=iv a.kind) ty3 rfl rfl 0 rfl rfl) ?_
  refine A6i 0 7 (by kernel_rfl) ?_ ?_
  ·refine B0o 0 [bx b1 (A7 a) 26] (zml 10 7) rfl rfl rfl (by kernel_rfl) (by kernel_rfl) (by kernel_rfl) (C0 (L2:=[bx b1 (A7 a) 26]) (U3 _ rfl) rfl rfl rfl rfl rfl fn0 (List.Perm.refl _) (fun b33=>[(b33,.map (A5 B9s 0).toArray 41),bx b1 (A7 a) 26]) (fun _=>rfl)) (fun b33=>(mk [false,true] rfl)) (fun b33=>A0.refl) fun b33=>?_
   refine A6i 3 7 (by kernel_rfl) ?_ ?_
   ·refine B0o 3 [bx b1 (A7 a) 26] (zml 10 15) rfl rfl rfl (by kernel_rfl) (by kernel_rfl) (by kernel_rfl) (Det.tri (G7.det (by exact H5 (O0 A8l I0 rfl rfl rfl 0 rfl (by kernel_rfl) (by kernel_rfl)) (X6 a.kind)))) (fun _=>(mk [false,true] rfl)) (fun _=>A0.refl) fun _=>?_
    refine zhp [4,5,6] 3 (zml 10 127) [(13,ag [(lkV a.kind .nilFunc B7),(lkV a.kind .nilFunc H4)]),(14,bv (G1 a.kind B7))] ?_
    refine zho 7 [bx b1 (A7 a) 26] (zml 10 255) rfl (U6 (cs:=[.nilFunc,.nilFunc]) A4n rfl) (fun b34=>(mk [false,false,true] rfl)) (fun b34=>A0.refl) fun b34=>?_
    refine zho 8 [bx b1 (A7 a) 26] (zml 10 511) rfl (N5 (us:=[(lkV a.kind .nilFunc B7),(lkV a.kind .nilFunc H4)]) (cs':=[(lkV a.kind .nilFunc B7),(lkV a.kind .nilFunc H4)]) B3g rfl rfl rfl 0 rfl rfl rfl (by simp only [List.all_cons,List.all_nil,Bool.and_true,Bool.and_eq_true];exact ⟨O1 rfl rfl,O1 rfl rfl⟩) rfl rfl) (fun _=>(mk [false,false,true] rfl)) (fun _=>A0.refl) fun _=>?_
    refine zhp [9] 0 (zml 10 1023) [(5,bv (G1 a.kind B7))] ?_
    refine A3z (by kernel_rfl) ?_
    refine sr 29 rfl (ip' 3 26 [(17,bv (!(G1 a.kind B7)))] ?_)
    refine zio 7 19 17 24 (!(D4 a.kind a.n)) (fun g35=>?_) ?_
    ·refine ip' 1 6 [(18,pt b34 0)] (ix rfl (B1 (v:=(lkV a.kind .nilFunc B7)) A0s rfl rfl 0 rfl rfl) (ip' 1 4 [(20,pt b1 1)] (ix rfl (B1 (v:=iv a.n) ty3 rfl rfl 2 rfl rfl) (ixc rfl (L9 (V5 a.kind a.n (by first|assumption|(have hh:G1 a.kind B7=true:=(by first|assumption|simp_all);exact hh)) _ rfl) rfl rfl rfl rfl fn0) (ip' 2 0 [(24,bv (!(D4 a.kind a.n)))] ?_)))))
     exact zai 7 17 24 g35
    refine ip' 1 18 [(25,bv ((!(G1 a.kind B7))||(!(D4 a.kind a.n))))] ?_
    refine zio 7 11 25 32 (!(F0 a.kind a.m)) (fun g36=>?_) ?_
    ·have g36p:=g36;try simp at g36p
     refine ip' 1 6 [(26,pt b34 1)] (ix rfl (B1 (v:=(lkV a.kind .nilFunc H4)) A0s rfl rfl 0 rfl rfl) (ip' 1 4 [(28,pt b1 2)] (ix rfl (B1 (v:=iv a.m) ty3 rfl rfl 2 rfl rfl) (ixc rfl (L9 (V3 a.kind a.m (by first|assumption|(have hh:G1 a.kind B7=true:=(by first|assumption|simp_all);exact hh)) _ rfl) rfl rfl rfl rfl fn0) (ip' 2 0 [(32,bv (!(F0 a.kind a.m)))] ?_)))))
     exact zai 7 25 32 g36
    refine ip' 1 10 [(33,bv (((!(G1 a.kind B7))||(!(D4 a.kind a.n)))||(!(F0 a.kind a.m))))] ?_
    refine zio 5 5 33 38 (!(decide (a.color=Col.zero))) (fun g37=>?_) ?_
    ·have g37p:=g37;try simp at g37p
     refine ip' 1 4 [(34,pt b1 3)] (ix rfl (I6 (us:=O2 a.color) A8q rfl rfl 2 rfl rfl rfl) (zrl 1 2 [] [(36,ag (O2 Col.zero))] (ix rfl (X8 (a:=a.color) (b:=Col.zero) A8j rfl rfl rfl) (ip' 1 0 [(38,bv (!(decide (a.color=Col.zero))))] ?_))))
     exact zai 6 33 38 g37
    refine ip' 1 4 [(39,bv ((((!(G1 a.kind B7))||(!(D4 a.kind a.n)))||(!(F0 a.kind a.m)))||(!(decide (a.color=Col.zero)))))] ?_
    refine zio 4 0 39 43 (!(decide (a.text=([]:List UInt8)))) (fun g38=>?_) ?_
    ·have g38p:=g38;try simp at g38p
     refine ip' 1 3 [(40,pt b1 5)] (ix rfl (B1 (v:=sv a.text) ty9 rfl rfl 2 rfl rfl) (ix rfl (Z0 rfl rfl rfl) (ip' 1 0 [(43,bv (!(decide (a.text=([]:List UInt8)))))] ?_)))
     exact zai 5 39 43 g38
    refine ie ?_
    refine zjb rfl hR ?_ ?_<;>clear hR<;>intro hR h39
    ·have h39p:=h39;try simp at h39p
     refine A4 1 rfl (ip' 1 0 [(3,iv 200)] (A6 (nx (A8 (sr 2 rfl (ip' 2 0 [(73,bv true)] (ie (K5 rfl (sr 1 rfl (ip' 1 0 [(2,iv 200)] ?_))))))))))
     subst hR
     refine ie (B2 ?_)
     exact G0 hr hD
    have h39p:=h39;try simp at h39p
    refine B0 (nx (A8 (sr 2 rfl (ip' 2 0 [(73,bv false)] (ie (A3q rfl (B0 (nx (sr 1 rfl (ip' 1 0 [(2,iv 0)] ?_))))))))))
    subst hR
    refine ie (B2 ?_)
    exact G0 hr hD
   ·refine B0o 7 [bx b1 (A7 a) 26] (zml 10 135) rfl rfl rfl (by kernel_rfl) (by kernel_rfl) (by kernel_rfl) (U6 (cs:=[.nilFunc,.nilFunc]) A4n rfl) (fun b40=>(mk [false,false,true] rfl)) (fun b40=>A0.refl) fun b40=>?_
    refine zho 3 [bx b1 (A7 a) 26] (zml 10 143) rfl (Det.tri (G7.det (by exact H5 (O0 A8l I0 rfl rfl rfl 1 rfl (by kernel_rfl) (by kernel_rfl)) (X6 a.kind)))) (fun _=>(mk [false,false,true] rfl)) (fun _=>A0.refl) fun _=>?_
    refine zhp [4,5,6] 2 (zml 10 255) [(13,ag [(lkV a.kind .nilFunc B7),(lkV a.kind .nilFunc H4)]),(14,bv (G1 a.kind B7))] ?_
    refine zho 8 [bx b1 (A7 a) 26] (zml 10 511) rfl (N5 (us:=[(lkV a.kind .nilFunc B7),(lkV a.kind .nilFunc H4)]) (cs':=[(lkV a.kind .nilFunc B7),(lkV a.kind .nilFunc H4)]) B3g rfl rfl rfl 0 rfl rfl rfl (by simp only [List.all_cons,List.all_nil,Bool.and_true,Bool.and_eq_true];exact ⟨O1 rfl rfl,O1 rfl rfl⟩) rfl rfl) (fun _=>(mk [false,false,true] rfl)) (fun _=>A0.refl) fun _=>?_
    refine zhp [9] 0 (zml 10 1023) [(5,bv (G1 a.kind B7))] ?_
    refine A3z (by kernel_rfl) ?_
    refine sr 29 rfl (ip' 3 26 [(17,bv (!(G1 a.kind B7)))] ?_)
    refine zio 7 19 17 24 (!(D4 a.kind a.n)) (fun g41=>?_) ?_
    ·refine ip' 1 6 [(18,pt b40 0)] (ix rfl (B1 (v:=(lkV a.kind .nilFunc B7)) A0s rfl rfl 0 rfl rfl) (ip' 1 4 [(20,pt b1 1)] (ix rfl (B1 (v:=iv a.n) ty3 rfl rfl 2 rfl rfl) (ixc rfl (L9 (V5 a.kind a.n (by first|assumption|(have hh:G1 a.kind B7=true:=(by first|assumption|simp_all);exact hh)) _ rfl) rfl rfl rfl rfl fn0) (ip' 2 0 [(24,bv (!(D4 a.kind a.n)))] ?_)))))
     exact zai 7 17 24 g41
    refine ip' 1 18 [(25,bv ((!(G1 a.kind B7))||(!(D4 a.kind a.n))))] ?_
    refine zio 7 11 25 32 (!(F0 a.kind a.m)) (fun g42=>?_) ?_
    ·have g42p:=g42;try simp at g42p
     refine ip' 1 6 [(26,pt b40 1)] (ix rfl (B1 (v:=(lkV a.kind .nilFunc H4)) A0s rfl rfl 0 rfl rfl) (ip' 1 4 [(28,pt b1 2)] (ix rfl (B1 (v:=iv a.m) ty3 rfl rfl 2 rfl rfl) (ixc rfl (L9 (V3 a.kind a.m (by first|assumption|(have hh:G1 a.kind B7=true:=(by first|assumption|simp_all);exact hh)) _ rfl) rfl rfl rfl rfl fn0) (ip' 2 0 [(32,bv (!(F0 a.kind a.m)))] ?_)))))
     exact zai 7 25 32 g42
    refine ip' 1 10 [(33,bv (((!(G1 a.kind B7))||(!(D4 a.kind a.n)))||(!(F0 a.kind a.m))))] ?_
    refine zio 5 5 33 38 (!(decide (a.color=Col.zero))) (fun g43=>?_) ?_
    ·have g43p:=g43;try simp at g43p
     refine ip' 1 4 [(34,pt b1 3)] (ix rfl (I6 (us:=O2 a.color) A8q rfl rfl 2 rfl rfl rfl) (zrl 1 2 [] [(36,ag (O2 Col.zero))] (ix rfl (X8 (a:=a.color) (b:=Col.zero) A8j rfl rfl rfl) (ip' 1 0 [(38,bv (!(decide (a.color=Col.zero))))] ?_))))
     exact zai 6 33 38 g43
    refine ip' 1 4 [(39,bv ((((!(G1 a.kind B7))||(!(D4 a.kind a.n)))||(!(F0 a.kind a.m)))||(!(decide (a.color=Col.zero)))))] ?_
    refine zio 4 0 39 43 (!(decide (a.text=([]:List UInt8)))) (fun g44=>?_) ?_
    ·have g44p:=g44;try simp at g44p
     refine ip' 1 3 [(40,pt b1 5)] (ix rfl (B1 (v:=sv a.text) ty9 rfl rfl 2 rfl rfl) (ix rfl (Z0 rfl rfl rfl) (ip' 1 0 [(43,bv (!(decide (a.text=([]:List UInt8)))))] ?_)))
     exact zai 5 39 43 g44
    refine ie ?_
    refine zjb rfl hR ?_ ?_<;>clear hR<;>intro hR h45
    ·have h45p:=h45;try simp at h45p
     refine A4 1 rfl (ip' 1 0 [(3,iv 200)] (A6 (nx (A8 (sr 2 rfl (ip' 2 0 [(73,bv true)] (ie (K5 rfl (sr 1 rfl (ip' 1 0 [(2,iv 200)] ?_))))))))))
     subst hR
     refine ie (B2 ?_)
     exact G0 hr hD
    have h45p:=h45;try simp at h45p
    refine B0 (nx (A8 (sr 2 rfl (ip' 2 0 [(73,bv false)] (ie (A3q rfl (B0 (nx (sr 1 rfl (ip' 1 0 [(2,iv 0)] ?_))))))))))
    subst hR
    refine ie (B2 ?_)
    exact G0 hr hD
  ·refine B0o 7 [bx b1 (A7 a) 26] (zml 10 134) rfl rfl rfl (by kernel_rfl) (by kernel_rfl) (by kernel_rfl) (U6 (cs:=[.nilFunc,.nilFunc]) A4n rfl) (fun b46=>(mk [false,true] rfl)) (fun b46=>A0.refl) fun b46=>?_
   refine zho 0 [bx b1 (A7 a) 26] (zml 10 135) rfl (C0 (L2:=[bx b46 [.nilFunc,.nilFunc] 134,bx b1 (A7 a) 26]) (U3 _ rfl) rfl rfl rfl rfl rfl fn0 (List.Perm.refl _) (fun b47=>[(b47,.map (A5 B9s 0).toArray 41),bx b46 [.nilFunc,.nilFunc] 134,bx b1 (A7 a) 26]) (fun _=>rfl)) (fun b47=>(mk [false,false,true] rfl)) (fun b47=>A0.refl) fun b47=>?_
   refine zho 3 [bx b1 (A7 a) 26] (zml 10 143) rfl (Det.tri (G7.det (by exact H5 (O0 A8l I0 rfl rfl rfl 0 rfl (by kernel_rfl) (by kernel_rfl)) (X6 a.kind)))) (fun _=>(mk [false,false,true] rfl)) (fun _=>A0.refl) fun _=>?_
   refine zhp [4,5,6] 2 (zml 10 255) [(13,ag [(lkV a.kind .nilFunc B7),(lkV a.kind .nilFunc H4)]),(14,bv (G1 a.kind B7))] ?_
   refine zho 8 [bx b1 (A7 a) 26] (zml 10 511) rfl (N5 (us:=[(lkV a.kind .nilFunc B7),(lkV a.kind .nilFunc H4)]) (cs':=[(lkV a.kind .nilFunc B7),(lkV a.kind .nilFunc H4)]) B3g rfl rfl rfl 1 rfl rfl rfl (by simp only [List.all_cons,List.all_nil,Bool.and_true,Bool.and_eq_true];exact ⟨O1 rfl rfl,O1 rfl rfl⟩) rfl rfl) (fun _=>(mk [false,false,true] rfl)) (fun _=>A0.refl) fun _=>?_
   refine zhp [9] 0 (zml 10 1023) [(5,bv (G1 a.kind B7))] ?_
   refine A3z (by kernel_rfl) ?_
   refine sr 29 rfl (ip' 3 26 [(17,bv (!(G1 a.kind B7)))] ?_)
   refine zio 7 19 17 24 (!(D4 a.kind a.n)) (fun g48=>?_) ?_
   ·refine ip' 1 6 [(18,pt b46 0)] (ix rfl (B1 (v:=(lkV a.kind .nilFunc B7)) A0s rfl rfl 1 rfl rfl) (ip' 1 4 [(20,pt b1 1)] (ix rfl (B1 (v:=iv a.n) ty3 rfl rfl 2 rfl rfl) (ixc rfl (L9 (V5 a.kind a.n (by first|assumption|(have hh:G1 a.kind B7=true:=(by first|assumption|simp_all);exact hh)) _ rfl) rfl rfl rfl rfl fn0) (ip' 2 0 [(24,bv (!(D4 a.kind a.n)))] ?_)))))
    exact zai 7 17 24 g48
   refine ip' 1 18 [(25,bv ((!(G1 a.kind B7))||(!(D4 a.kind a.n))))] ?_
   refine zio 7 11 25 32 (!(F0 a.kind a.m)) (fun g49=>?_) ?_
   ·have g49p:=g49;try simp at g49p
    refine ip' 1 6 [(26,pt b46 1)] (ix rfl (B1 (v:=(lkV a.kind .nilFunc H4)) A0s rfl rfl 1 rfl rfl) (ip' 1 4 [(28,pt b1 2)] (ix rfl (B1 (v:=iv a.m) ty3 rfl rfl 2 rfl rfl) (ixc rfl (L9 (V3 a.kind a.m (by first|assumption|(have hh:G1 a.kind B7=true:=(by first|assumption|simp_all);exact hh)) _ rfl) rfl rfl rfl rfl fn0) (ip' 2 0 [(32,bv (!(F0 a.kind a.m)))] ?_)))))
    exact zai 7 25 32 g49
   refine ip' 1 10 [(33,bv (((!(G1 a.kind B7))||(!(D4 a.kind a.n)))||(!(F0 a.kind a.m))))] ?_
   refine zio 5 5 33 38 (!(decide (a.color=Col.zero))) (fun g50=>?_) ?_
   ·have g50p:=g50;try simp at g50p
    refine ip' 1 4 [(34,pt b1 3)] (ix rfl (I6 (us:=O2 a.color) A8q rfl rfl 2 rfl rfl rfl) (zrl 1 2 [] [(36,ag (O2 Col.zero))] (ix rfl (X8 (a:=a.color) (b:=Col.zero) A8j rfl rfl rfl) (ip' 1 0 [(38,bv (!(decide (a.color=Col.zero))))] ?_))))
    exact zai 6 33 38 g50
   refine ip' 1 4 [(39,bv ((((!(G1 a.kind B7))||(!(D4 a.kind a.n)))||(!(F0 a.kind a.m)))||(!(decide (a.color=Col.zero)))))] ?_
   refine zio 4 0 39 43 (!(decide (a.text=([]:List UInt8)))) (fun g51=>?_) ?_
   ·have g51p:=g51;try simp at g51p
    refine ip' 1 3 [(40,pt b1 5)] (ix rfl (B1 (v:=sv a.text) ty9 rfl rfl 2 rfl rfl) (ix rfl (Z0 rfl rfl rfl) (ip' 1 0 [(43,bv (!(decide (a.text=([]:List UInt8)))))] ?_)))
    exact zai 5 39 43 g51
   refine ie ?_
   refine zjb rfl hR ?_ ?_<;>clear hR<;>intro hR h52
   ·have h52p:=h52;try simp at h52p
    refine A4 1 rfl (ip' 1 0 [(3,iv 200)] (A6 (nx (A8 (sr 2 rfl (ip' 2 0 [(73,bv true)] (ie (K5 rfl (sr 1 rfl (ip' 1 0 [(2,iv 200)] ?_))))))))))
    subst hR
    refine ie (B2 ?_)
    exact G0 hr hD
   have h52p:=h52;try simp at h52p
   refine B0 (nx (A8 (sr 2 rfl (ip' 2 0 [(73,bv false)] (ie (A3q rfl (B0 (nx (sr 1 rfl (ip' 1 0 [(2,iv 0)] ?_))))))))))
   subst hR
   refine ie (B2 ?_)
   exact G0 hr hD
 refine A4 2 rfl (ip' 2 0 [(63,bv (decide (a.kind=46)))] (A6 (nx ?_)))
 refine zjd rfl hR ?_ ?_<;>clear hR<;>intro hR h53 h53p
 ·refine A4 6 rfl (ix rfl (by exact H5 (I6 (us:=A7 a) B0l rfl rfl 0 rfl rfl rfl) (congrArg (fun z=>ag (A7 z)) (A9y h53p))) ?_)
  have hQ:=D0 hR;clear hR;obtain ⟨y1,hy1,hR⟩:=hQ
  refine zca (B3o a.n a.m a.color a.text (by first|omega|(simp<;>omega)) y1 hy1) fn0 ?_
  have:=A5n a.n a.m a.color a.text;try rw [hy1] at this
  refine ip' 4 0 [(3,iv y1.2)] (A6 (nx (A8 (sr 2 rfl (ip' 2 0 [(73,bv (!decide (y1.2=0)))] (ie ?_))))))
  refine zjn rfl hR ?_ ?_<;>clear hR<;>intro hR h54 h54p
  ·refine sr 1 rfl (ip' 1 0 [(2,iv 200)] ?_)
   subst hR
   refine ie (B2 ?_)
   exact G0 hr hD
  refine B0 (nx (sr 1 rfl (ip' 1 0 [(2,iv 0)] ?_)))
  subst hR
  refine ie (B2 ?_)
  exact G0 hr hD
 refine sh 10 [(10,[bx b1 (A7 a) 26])] [A8n,A8m,M5,M2,J3] [bx b1 (A7 a) 26] (zml 10 0) (by kernel_rfl) rfl (by kernel_rfl) (by kernel_rfl) (by kernel_rfl) (mk [true] rfl) A0.refl ?_
 refine zhp [1] 9 (zml 10 2) [(10,pt b1 0)] ?_
 refine zhl 2 [bx b1 (A7 a) 26] (zml 10 6) rfl (B1 (v:=iv a.kind) ty3 rfl rfl 0 rfl rfl) ?_
 refine A6i 0 7 (by kernel_rfl) ?_ ?_
 ·refine B0o 0 [bx b1 (A7 a) 26] (zml 10 7) rfl rfl rfl (by kernel_rfl) (by kernel_rfl) (by kernel_rfl) (C0 (L2:=[bx b1 (A7 a) 26]) (U3 _ rfl) rfl rfl rfl rfl rfl fn0 (List.Perm.refl _) (fun b55=>[(b55,.map (A5 B9s 0).toArray 41),bx b1 (A7 a) 26]) (fun _=>rfl)) (fun b55=>(mk [false,true] rfl)) (fun b55=>A0.refl) fun b55=>?_
  refine A6i 3 7 (by kernel_rfl) ?_ ?_
  ·refine B0o 3 [bx b1 (A7 a) 26] (zml 10 15) rfl rfl rfl (by kernel_rfl) (by kernel_rfl) (by kernel_rfl) (Det.tri (G7.det (by exact H5 (O0 A8l I0 rfl rfl rfl 0 rfl (by kernel_rfl) (by kernel_rfl)) (X6 a.kind)))) (fun _=>(mk [false,true] rfl)) (fun _=>A0.refl) fun _=>?_
   refine zhp [4,5,6] 3 (zml 10 127) [(13,ag [(lkV a.kind .nilFunc B7),(lkV a.kind .nilFunc H4)]),(14,bv (G1 a.kind B7))] ?_
   refine zho 7 [bx b1 (A7 a) 26] (zml 10 255) rfl (U6 (cs:=[.nilFunc,.nilFunc]) A4n rfl) (fun b56=>(mk [false,false,true] rfl)) (fun b56=>A0.refl) fun b56=>?_
   refine zho 8 [bx b1 (A7 a) 26] (zml 10 511) rfl (N5 (us:=[(lkV a.kind .nilFunc B7),(lkV a.kind .nilFunc H4)]) (cs':=[(lkV a.kind .nilFunc B7),(lkV a.kind .nilFunc H4)]) B3g rfl rfl rfl 0 rfl rfl rfl (by simp only [List.all_cons,List.all_nil,Bool.and_true,Bool.and_eq_true];exact ⟨O1 rfl rfl,O1 rfl rfl⟩) rfl rfl) (fun _=>(mk [false,false,true] rfl)) (fun _=>A0.refl) fun _=>?_
   refine zhp [9] 0 (zml 10 1023) [(5,bv (G1 a.kind B7))] ?_
   refine A3z (by kernel_rfl) ?_
   refine sr 29 rfl (ip' 3 26 [(17,bv (!(G1 a.kind B7)))] ?_)
   refine zio 7 19 17 24 (!(D4 a.kind a.n)) (fun g57=>?_) ?_
   ·refine ip' 1 6 [(18,pt b56 0)] (ix rfl (B1 (v:=(lkV a.kind .nilFunc B7)) A0s rfl rfl 0 rfl rfl) (ip' 1 4 [(20,pt b1 1)] (ix rfl (B1 (v:=iv a.n) ty3 rfl rfl 2 rfl rfl) (ixc rfl (L9 (V5 a.kind a.n (by first|assumption|(have hh:G1 a.kind B7=true:=(by first|assumption|simp_all);exact hh)) _ rfl) rfl rfl rfl rfl fn0) (ip' 2 0 [(24,bv (!(D4 a.kind a.n)))] ?_)))))
    exact zai 7 17 24 g57
   refine ip' 1 18 [(25,bv ((!(G1 a.kind B7))||(!(D4 a.kind a.n))))] ?_
   refine zio 7 11 25 32 (!(F0 a.kind a.m)) (fun g58=>?_) ?_
   ·have g58p:=g58;try simp at g58p
    refine ip' 1 6 [(26,pt b56 1)] (ix rfl (B1 (v:=(lkV a.kind .nilFunc H4)) A0s rfl rfl 0 rfl rfl) (ip' 1 4 [(28,pt b1 2)] (ix rfl (B1 (v:=iv a.m) ty3 rfl rfl 2 rfl rfl) (ixc rfl (L9 (V3 a.kind a.m (by first|assumption|(have hh:G1 a.kind B7=true:=(by first|assumption|simp_all);exact hh)) _ rfl) rfl rfl rfl rfl fn0) (ip' 2 0 [(32,bv (!(F0 a.kind a.m)))] ?_)))))
    exact zai 7 25 32 g58
   refine ip' 1 10 [(33,bv (((!(G1 a.kind B7))||(!(D4 a.kind a.n)))||(!(F0 a.kind a.m))))] ?_
   refine zio 5 5 33 38 (!(decide (a.color=Col.zero))) (fun g59=>?_) ?_
   ·have g59p:=g59;try simp at g59p
    refine ip' 1 4 [(34,pt b1 3)] (ix rfl (I6 (us:=O2 a.color) A8q rfl rfl 2 rfl rfl rfl) (zrl 1 2 [] [(36,ag (O2 Col.zero))] (ix rfl (X8 (a:=a.color) (b:=Col.zero) A8j rfl rfl rfl) (ip' 1 0 [(38,bv (!(decide (a.color=Col.zero))))] ?_))))
    exact zai 6 33 38 g59
   refine ip' 1 4 [(39,bv ((((!(G1 a.kind B7))||(!(D4 a.kind a.n)))||(!(F0 a.kind a.m)))||(!(decide (a.color=Col.zero)))))] ?_
   refine zio 4 0 39 43 (!(decide (a.text=([]:List UInt8)))) (fun g60=>?_) ?_
   ·have g60p:=g60;try simp at g60p
    refine ip' 1 3 [(40,pt b1 5)] (ix rfl (B1 (v:=sv a.text) ty9 rfl rfl 2 rfl rfl) (ix rfl (Z0 rfl rfl rfl) (ip' 1 0 [(43,bv (!(decide (a.text=([]:List UInt8)))))] ?_)))
    exact zai 5 39 43 g60
   refine ie ?_
   refine zjb rfl hR ?_ ?_<;>clear hR<;>intro hR h61
   ·have h61p:=h61;try simp at h61p
    refine A4 1 rfl (ip' 1 0 [(3,iv 200)] (A6 (nx (A8 (sr 2 rfl (ip' 2 0 [(73,bv true)] (ie (K5 rfl (sr 1 rfl (ip' 1 0 [(2,iv 200)] ?_))))))))))
    subst hR
    refine ie (B2 ?_)
    exact G0 hr hD
   have h61p:=h61;try simp at h61p
   refine B0 (nx (A8 (sr 2 rfl (ip' 2 0 [(73,bv false)] (ie (A3q rfl (B0 (nx (sr 1 rfl (ip' 1 0 [(2,iv 0)] ?_))))))))))
   subst hR
   refine ie (B2 ?_)
   exact G0 hr hD
  ·refine B0o 7 [bx b1 (A7 a) 26] (zml 10 135) rfl rfl rfl (by kernel_rfl) (by kernel_rfl) (by kernel_rfl) (U6 (cs:=[.nilFunc,.nilFunc]) A4n rfl) (fun b62=>(mk [false,false,true] rfl)) (fun b62=>A0.refl) fun b62=>?_
   refine zho 3 [bx b1 (A7 a) 26] (zml 10 143) rfl (Det.tri (G7.det (by exact H5 (O0 A8l I0 rfl rfl rfl 1 rfl (by kernel_rfl) (by kernel_rfl)) (X6 a.kind)))) (fun _=>(mk [false,false,true] rfl)) (fun _=>A0.refl) fun _=>?_
   refine zhp [4,5,6] 2 (zml 10 255) [(13,ag [(lkV a.kind .nilFunc B7),(lkV a.kind .nilFunc H4)]),(14,bv (G1 a.kind B7))] ?_
   refine zho 8 [bx b1 (A7 a) 26] (zml 10 511) rfl (N5 (us:=[(lkV a.kind .nilFunc B7),(lkV a.kind .nilFunc H4)]) (cs':=[(lkV a.kind .nilFunc B7),(lkV a.kind .nilFunc H4)]) B3g rfl rfl rfl 0 rfl rfl rfl (by simp only [List.all_cons,List.all_nil,Bool.and_true,Bool.and_eq_true];exact ⟨O1 rfl rfl,O1 rfl rfl⟩) rfl rfl) (fun _=>(mk [false,false,true] rfl)) (fun _=>A0.refl) fun _=>?_
   refine zhp [9] 0 (zml 10 1023) [(5,bv (G1 a.kind B7))] ?_
   refine A3z (by kernel_rfl) ?_
   refine sr 29 rfl (ip' 3 26 [(17,bv (!(G1 a.kind B7)))] ?_)
   refine zio 7 19 17 24 (!(D4 a.kind a.n)) (fun g63=>?_) ?_
   ·refine ip' 1 6 [(18,pt b62 0)] (ix rfl (B1 (v:=(lkV a.kind .nilFunc B7)) A0s rfl rfl 0 rfl rfl) (ip' 1 4 [(20,pt b1 1)] (ix rfl (B1 (v:=iv a.n) ty3 rfl rfl 2 rfl rfl) (ixc rfl (L9 (V5 a.kind a.n (by first|assumption|(have hh:G1 a.kind B7=true:=(by first|assumption|simp_all);exact hh)) _ rfl) rfl rfl rfl rfl fn0) (ip' 2 0 [(24,bv (!(D4 a.kind a.n)))] ?_)))))
    exact zai 7 17 24 g63
   refine ip' 1 18 [(25,bv ((!(G1 a.kind B7))||(!(D4 a.kind a.n))))] ?_
   refine zio 7 11 25 32 (!(F0 a.kind a.m)) (fun g64=>?_) ?_
   ·have g64p:=g64;try simp at g64p
    refine ip' 1 6 [(26,pt b62 1)] (ix rfl (B1 (v:=(lkV a.kind .nilFunc H4)) A0s rfl rfl 0 rfl rfl) (ip' 1 4 [(28,pt b1 2)] (ix rfl (B1 (v:=iv a.m) ty3 rfl rfl 2 rfl rfl) (ixc rfl (L9 (V3 a.kind a.m (by first|assumption|(have hh:G1 a.kind B7=true:=(by first|assumption|simp_all);exact hh)) _ rfl) rfl rfl rfl rfl fn0) (ip' 2 0 [(32,bv (!(F0 a.kind a.m)))] ?_)))))
    exact zai 7 25 32 g64
   refine ip' 1 10 [(33,bv (((!(G1 a.kind B7))||(!(D4 a.kind a.n)))||(!(F0 a.kind a.m))))] ?_
   refine zio 5 5 33 38 (!(decide (a.color=Col.zero))) (fun g65=>?_) ?_
   ·have g65p:=g65;try simp at g65p
    refine ip' 1 4 [(34,pt b1 3)] (ix rfl (I6 (us:=O2 a.color) A8q rfl rfl 2 rfl rfl rfl) (zrl 1 2 [] [(36,ag (O2 Col.zero))] (ix rfl (X8 (a:=a.color) (b:=Col.zero) A8j rfl rfl rfl) (ip' 1 0 [(38,bv (!(decide (a.color=Col.zero))))] ?_))))
    exact zai 6 33 38 g65
   refine ip' 1 4 [(39,bv ((((!(G1 a.kind B7))||(!(D4 a.kind a.n)))||(!(F0 a.kind a.m)))||(!(decide (a.color=Col.zero)))))] ?_
   refine zio 4 0 39 43 (!(decide (a.text=([]:List UInt8)))) (fun g66=>?_) ?_
   ·have g66p:=g66;try simp at g66p
    refine ip' 1 3 [(40,pt b1 5)] (ix rfl (B1 (v:=sv a.text) ty9 rfl rfl 2 rfl rfl) (ix rfl (Z0 rfl rfl rfl) (ip' 1 0 [(43,bv (!(decide (a.text=([]:List UInt8)))))] ?_)))
    exact zai 5 39 43 g66
   refine ie ?_
   refine zjb rfl hR ?_ ?_<;>clear hR<;>intro hR h67
   ·have h67p:=h67;try simp at h67p
    refine A4 1 rfl (ip' 1 0 [(3,iv 200)] (A6 (nx (A8 (sr 2 rfl (ip' 2 0 [(73,bv true)] (ie (K5 rfl (sr 1 rfl (ip' 1 0 [(2,iv 200)] ?_))))))))))
    subst hR
    refine ie (B2 ?_)
    exact G0 hr hD
   have h67p:=h67;try simp at h67p
   refine B0 (nx (A8 (sr 2 rfl (ip' 2 0 [(73,bv false)] (ie (A3q rfl (B0 (nx (sr 1 rfl (ip' 1 0 [(2,iv 0)] ?_))))))))))
   subst hR
   refine ie (B2 ?_)
   exact G0 hr hD
 ·refine B0o 7 [bx b1 (A7 a) 26] (zml 10 134) rfl rfl rfl (by kernel_rfl) (by kernel_rfl) (by kernel_rfl) (U6 (cs:=[.nilFunc,.nilFunc]) A4n rfl) (fun b68=>(mk [false,true] rfl)) (fun b68=>A0.refl) fun b68=>?_
  refine zho 0 [bx b1 (A7 a) 26] (zml 10 135) rfl (C0 (L2:=[bx b68 [.nilFunc,.nilFunc] 134,bx b1 (A7 a) 26]) (U3 _ rfl) rfl rfl rfl rfl rfl fn0 (List.Perm.refl _) (fun b69=>[(b69,.map (A5 B9s 0).toArray 41),bx b68 [.nilFunc,.nilFunc] 134,bx b1 (A7 a) 26]) (fun _=>rfl)) (fun b69=>(mk [false,false,true] rfl)) (fun b69=>A0.refl) fun b69=>?_
  refine zho 3 [bx b1 (A7 a) 26] (zml 10 143) rfl (Det.tri (G7.det (by exact H5 (O0 A8l I0 rfl rfl rfl 0 rfl (by kernel_rfl) (by kernel_rfl)) (X6 a.kind)))) (fun _=>(mk [false,false,true] rfl)) (fun _=>A0.refl) fun _=>?_
  refine zhp [4,5,6] 2 (zml 10 255) [(13,ag [(lkV a.kind .nilFunc B7),(lkV a.kind .nilFunc H4)]),(14,bv (G1 a.kind B7))] ?_
  refine zho 8 [bx b1 (A7 a) 26] (zml 10 511) rfl (N5 (us:=[(lkV a.kind .nilFunc B7),(lkV a.kind .nilFunc H4)]) (cs':=[(lkV a.kind .nilFunc B7),(lkV a.kind .nilFunc H4)]) B3g rfl rfl rfl 1 rfl rfl rfl (by simp only [List.all_cons,List.all_nil,Bool.and_true,Bool.and_eq_true];exact ⟨O1 rfl rfl,O1 rfl rfl⟩) rfl rfl) (fun _=>(mk [false,false,true] rfl)) (fun _=>A0.refl) fun _=>?_
  refine zhp [9] 0 (zml 10 1023) [(5,bv (G1 a.kind B7))] ?_
  refine A3z (by kernel_rfl) ?_
  refine sr 29 rfl (ip' 3 26 [(17,bv (!(G1 a.kind B7)))] ?_)
  refine zio 7 19 17 24 (!(D4 a.kind a.n)) (fun g70=>?_) ?_
  ·refine ip' 1 6 [(18,pt b68 0)] (ix rfl (B1 (v:=(lkV a.kind .nilFunc B7)) A0s rfl rfl 1 rfl rfl) (ip' 1 4 [(20,pt b1 1)] (ix rfl (B1 (v:=iv a.n) ty3 rfl rfl 2 rfl rfl) (ixc rfl (L9 (V5 a.kind a.n (by first|assumption|(have hh:G1 a.kind B7=true:=(by first|assumption|simp_all);exact hh)) _ rfl) rfl rfl rfl rfl fn0) (ip' 2 0 [(24,bv (!(D4 a.kind a.n)))] ?_)))))
   exact zai 7 17 24 g70
  refine ip' 1 18 [(25,bv ((!(G1 a.kind B7))||(!(D4 a.kind a.n))))] ?_
  refine zio 7 11 25 32 (!(F0 a.kind a.m)) (fun g71=>?_) ?_
  ·have g71p:=g71;try simp at g71p
   refine ip' 1 6 [(26,pt b68 1)] (ix rfl (B1 (v:=(lkV a.kind .nilFunc H4)) A0s rfl rfl 1 rfl rfl) (ip' 1 4 [(28,pt b1 2)] (ix rfl (B1 (v:=iv a.m) ty3 rfl rfl 2 rfl rfl) (ixc rfl (L9 (V3 a.kind a.m (by first|assumption|(have hh:G1 a.kind B7=true:=(by first|assumption|simp_all);exact hh)) _ rfl) rfl rfl rfl rfl fn0) (ip' 2 0 [(32,bv (!(F0 a.kind a.m)))] ?_)))))
   exact zai 7 25 32 g71
  refine ip' 1 10 [(33,bv (((!(G1 a.kind B7))||(!(D4 a.kind a.n)))||(!(F0 a.kind a.m))))] ?_
  refine zio 5 5 33 38 (!(decide (a.color=Col.zero))) (fun g72=>?_) ?_
  ·have g72p:=g72;try simp at g72p
   refine ip' 1 4 [(34,pt b1 3)] (ix rfl (I6 (us:=O2 a.color) A8q rfl rfl 2 rfl rfl rfl) (zrl 1 2 [] [(36,ag (O2 Col.zero))] (ix rfl (X8 (a:=a.color) (b:=Col.zero) A8j rfl rfl rfl) (ip' 1 0 [(38,bv (!(decide (a.color=Col.zero))))] ?_))))
   exact zai 6 33 38 g72
  refine ip' 1 4 [(39,bv ((((!(G1 a.kind B7))||(!(D4 a.kind a.n)))||(!(F0 a.kind a.m)))||(!(decide (a.color=Col.zero)))))] ?_
  refine zio 4 0 39 43 (!(decide (a.text=([]:List UInt8)))) (fun g73=>?_) ?_
  ·have g73p:=g73;try simp at g73p
   refine ip' 1 3 [(40,pt b1 5)] (ix rfl (B1 (v:=sv a.text) ty9 rfl rfl 2 rfl rfl) (ix rfl (Z0 rfl rfl rfl) (ip' 1 0 [(43,bv (!(decide (a.text=([]:List UInt8)))))] ?_)))
   exact zai 5 39 43 g73
  refine ie ?_
  refine zjb rfl hR ?_ ?_<;>clear hR<;>intro hR h74
  ·have h74p:=h74;try simp at h74p
   refine A4 1 rfl (ip' 1 0 [(3,iv 200)] (A6 (nx (A8 (sr 2 rfl (ip' 2 0 [(73,bv true)] (ie (K5 rfl (sr 1 rfl (ip' 1 0 [(2,iv 200)] ?_))))))))))
   subst hR
   refine ie (B2 ?_)
   exact G0 hr hD
  have h74p:=h74;try simp at h74p
  refine B0 (nx (A8 (sr 2 rfl (ip' 2 0 [(73,bv false)] (ie (A3q rfl (B0 (nx (sr 1 rfl (ip' 1 0 [(2,iv 0)] ?_))))))))))
  subst hR
  refine ie (B2 ?_)
  exact G0 hr hD
end Go.Proofs.YtanighkpfmgnbaaGreatDoor
set_option linter.unusedVariables false
set_option linter.unusedSimpArgs false
set_option linter.unnecessarySimpa false
set_option maxRecDepth 100000
namespace Go.Proofs.YtanighkpfmgnbaaGreatDoor
open Go Go.Fen
theorem C5w {k:Int} (h:1≤k∧k≤46):([1,2,3,4,5,6,7,8,9,10,11,12,13,15,16,14,17,18,20,21,33,19,22,23,24,25,28,29,30,31,32,34,26,27,35,40,36,37,38,41,42,43,39,44,45,46]:List Int).contains k=true:=by
 simp only [List.contains_cons,List.contains_nil,Bool.or_false,Bool.or_eq_true,beq_iff_eq];omega
theorem B6p {l:List Act} {p:Act→Prop} (h:∀ a ∈ l,p a) (hz:p Act.zero) (i:Nat):p (l.getD i Act.zero):=by
 by_cases hi:i<l.length
 ·rw [gdE hi];exact h _ (List.getElem_mem hi)
 ·rw [gdN hi];exact hz
theorem B8d (s:List UInt8) (n:Int):(W8 s n).length≤1:=by
 unfold W8;simp only [List.length_take,List.length_drop];omega
theorem C9s {c:Bool} {x y:List UInt8} {B:Nat} (hx:x.length≤B) (hy:y.length≤B):(bif c then x else y).length≤B:=by cases c<;>assumption
set_option maxHeartbeats 4000000 in
theorem B9d (a:Act) (h:a.text.length≤100000000):(A0r a).length≤100010000:=by
 unfold A0r
 have p:=A9k a.n
 have s1:=fun s n=>B8d s n
 have r1:=X4
 have e:=A3a
 have o:=A6q a.n a.m a.color a.text
 have oa:=A5h a.n a.m a.color a.text
 have ob:=A5n a.n a.m a.color a.text
 repeat' (with_reducible refine C9s ?_ ?_)
 all_goals simp only [A0c,F9,O5,A0d,O4,A0a,F4,Q8,Y6,Y9,Y8,Y3,A0i,Y7,Y2,D5,List.length_append,List.length_cons,List.length_nil,List.length_take]
 all_goals first|omega|exact Nat.le_trans (e _) (by omega)|(refine Nat.le_trans (Nat.add_le_add_right (Nat.add_le_add_left (r1 _ _) _) _) ?_;omega)|(have q1:=r1 1 [a.m];have q2:=fun s=>s1 s a.n;have q3:=q2 [65,66,67,68];have q4:=q2 [69,70];have q5:=q2 [83,84];omega)|(have q1:=s1 [15,14] (a.n - 0);have q2:=s1 [62,61] (a.n - 0);have q3:=s1 [78,79] (a.n - 2);omega)|(have q1:=s1 [40,41,42,43] a.n;have q2:=s1 [66,48] a.m;omega)|(have q1:=r1 (-2) [a.n];have q2:=s1 [108,104] a.m;omega)
theorem C9a {c:Bool} (h:(bif c then (200:Int) else 0)=0):c=false:=by cases c<;>simp at h ⊢
theorem C8h {a:Act} (h:G1 a.kind B7=true):a.kind=17∨a.kind=18∨a.kind=19∨a.kind=20∨a.kind=26∨a.kind=27∨a.kind=35∨a.kind=38∨a.kind=40∨a.kind=41∨a.kind=2∨a.kind=3∨a.kind=4∨a.kind=5∨a.kind=6∨a.kind=8∨a.kind=9∨a.kind=10∨a.kind=11∨a.kind=12∨a.kind=13∨a.kind=15∨a.kind=16∨a.kind=7∨a.kind=14∨a.kind=42∨a.kind=21∨a.kind=33∨a.kind=22∨a.kind=23∨a.kind=24∨a.kind=25∨a.kind=28∨a.kind=29∨a.kind=30∨a.kind=31∨a.kind=32∨a.kind=34∨a.kind=36∨a.kind=37∨a.kind=43:=by
 rw [B4h] at h
 simp only [B7,List.map_cons,List.map_nil,List.contains_cons,List.contains_nil,Bool.or_false,Bool.or_eq_true,beq_iff_eq] at h
 omega
theorem C3v {a:Act} (h:P4 a=0) (hk3:a.text.length≤100000000):A6z a:=by
 unfold P4 at h
 by_cases e1:a.kind=1
 ·unfold A6z;omega
 ·rw [decide_eq_false e1,cond_false] at h
  by_cases e2:a.kind=39
  ·unfold A6z;omega
  ·rw [decide_eq_false e2,cond_false] at h
   by_cases e3:a.kind=44
   ·unfold A6z;omega
   ·rw [decide_eq_false e3,cond_false] at h
    by_cases e4:a.kind=45
    ·unfold A6z;omega
    rw [decide_eq_false e4,cond_false] at h
    by_cases e5:a.kind=46
    ·unfold A6z;omega
    rw [decide_eq_false e5,cond_false] at h
    have h:=C9a h
    simp only [Bool.or_eq_false_iff,Bool.not_eq_false'] at h
    obtain ⟨⟨⟨⟨hh,h1⟩,h2⟩,_⟩,_⟩:=h
    clear e1 e2 e3 e4 e5
    rcases C8h hh with h | h | h | h | h | h | h | h | h | h | h | h | h | h | h | h | h | h | h | h | h | h | h | h | h | h | h | h | h | h | h | h | h | h | h | h | h | h | h | h | h
    all_goals
     rw [h] at h1 h2
     simp only [D4,F0,A3,A0j,Int.reduceEq,decide_true,decide_false,cond_true,cond_false,Bool.and_eq_true,Bool.or_eq_true,decide_eq_true_eq] at h1 h2
     unfold A6z
     omega
def Z2 (l:List Act) (ag_emit_Bytes_l4:List UInt8→Int→(List UInt8×Int)):Nat→List UInt8→Int→Int→(List UInt8×Int)
 | 0,_,_,_=>([],0)
 | fu3+1,b1,at_1,n=>(bif (((decide (n<(l.length:Int)))&&(decide (n<(at_1+16))))&&(decide ((l.getD ((n).toNat) Act.zero).kind=39))) then Z2 l ag_emit_Bytes_l4 fu3 b1 at_1 (n+1) else (bif (decide (n=at_1)) then ag_emit_Bytes_l4 (b1++(A0r (l.getD ((at_1).toNat) Act.zero))) (at_1+1) else (D5 (A4x ((l.drop ((at_1).toNat)).take (((n).toNat) - ((at_1).toNat)))) fun (y0:List UInt8)=>ag_emit_Bytes_l4 (b1++y0) ((n - 1)+1))))
def W2 (l:List Act):Nat→List UInt8→Int→(List UInt8×Int)
 | 0,_,_=>([],0)
 | fu1+1,b,at_=>(bif (decide (at_<(l.length:Int))) then Z2 l (W2 l fu1) (((l.length:Int) - at_).toNat+1) b at_ at_ else (b,0))
def S9 (l:List Act):List Act→Nat→(List UInt8×Int)
 | [],t15=>W2 l (((l.length:Int) - 0).toNat+1) ([]:List UInt8) 0
 | hd_l0::tl_l0,t15=>(bif (!decide ((P4 hd_l0)=0)) then (([]:List UInt8),(P4 hd_l0)) else S9 l tl_l0 (t15+1))
def A1k (l:List Act):List UInt8×Int :=
 (bif (decide ((131072:Int)<(l.length:Int))) then (([]:List UInt8),3) else S9 l l 0)
theorem A5v (l:List Act) (h:∀ a ∈ l,a.text.length≤100000000) (ag:List UInt8→Int→List UInt8×Int) (B:Nat) (hag:∀ b t,(ag b t).1.length≤b.length+B):∀ (fu:Nat) (b:List UInt8) (t n:Int),(Z2 l ag fu b t n).1.length≤b.length+100010000+B
 | 0,b,t,n=>Nat.zero_le _
 | fu+1,b,t,n=>by
  rw [Z2];unfold D5;simp only [Bool.cond_eq_ite];repeat' split
  ·exact A5v l h ag B hag fu b t (n+1)
  ·refine Nat.le_trans (hag _ _) ?_
   have:=B9d (l.getD t.toNat Act.zero) (B6p h (by decide) _)
   rw [List.length_append];omega
  ·refine Nat.le_trans (hag _ _) ?_
   have:=A3a ((l.drop t.toNat).take (n.toNat - t.toNat))
   rw [List.length_append];omega
theorem A6g (l:List Act) (h:∀ a ∈ l,a.text.length≤100000000):∀ (fu:Nat) (b:List UInt8) (t:Int),(W2 l fu b t).1.length≤b.length+fu * 100010000
 | 0,b,t=>Nat.zero_le _
 | fu+1,b,t=>by
  rw [W2]
  cases decide (t<(l.length:Int)) with
  | true=>exact Nat.le_trans (A5v l h _ (fu * 100010000) (A6g l h fu) _ _ _ _) (by omega)
  | false=>exact Nat.le_add_right _ _
theorem A5y (L:List Act) (h:∀ a ∈ L,a.text.length≤100000000) (hL:L.length≤131072):∀ (l:List Act) (t:Nat),(S9 L l t).1.length≤13200000000000
 | [],t=>by
  have:=A6g L h (((L.length:Int) - 0).toNat+1) [] 0
  rw [S9];simp only [List.length_nil] at this;omega
 | a::l,t=>by
  rw [S9]
  cases (!decide ((P4 a)=0)) with
  | true=>exact Nat.zero_le _
  | false=>exact A5y L h hL l (t+1)
theorem B7d (l:List Act) (h:∀ a ∈ l,a.text.length≤100000000):(A1k l).1.length≤13200000000000:=by
 unfold A1k
 by_cases hl:(131072:Int)<(l.length:Int)
 ·rw [decide_eq_true hl];exact Nat.zero_le _
 ·rw [decide_eq_false hl];exact A5y l h (by omega) l 0
theorem C0u (l:List Act) (lq:Option Addr) (lk:Nat) (hll:l.length≤9223372036854775807) (hcl:l.length≤lk) (hkind:∀ a ∈ l,a.text.length≤100000000) (R:List UInt8×Int) (hR:A1k l=R):Con Tryz.prog 15 [.slice lq l.length lk] [] [sl A7 lq l,A8n,A8m,M5,M2,J3,N4] ({r:VR // VOk 1 R.1.length r}) (fun x=>.tuple #[.slice (va x.1.q) R.1.length x.1.k,iv R.2]) (fun x=>((vo cU8 5 x.1 R.1)++([]))) (fun x=>[]):=by
 refine zco Tryz.func15 [(0,.slice lq l.length lk)] fun X hX hr hD=>?_
 replace hR:=(A1k.eq_1 ..).symm.trans hR
 refine sr 2 rfl (ip' 2 0 [(2,.slice none 0 0)] (ie (C5e (A8 (sr 3 rfl (ip' 3 0 [(12,bv (decide ((131072:Int)<(l.length:Int))))] (ie ?_)))))))
 refine zjd rfl hR ?_ ?_<;>clear hR<;>intro hR h1 h1p
 ·refine sr 2 rfl (ip' 2 0 [(2,.slice none 0 0),(3,iv 3)] ?_)
  subst hR
  refine ie (B2 ?_)
  exact zer hr hD (A1i rfl (B9 rfl) (B9 rfl)) ⟨VR.nil,VOk.nil⟩ (mc [vo cU8 5 VR.nil ([]:List UInt8)] [true] rfl (by first|rfl|(simp only [List.length_set]<;>rfl))) fn0
 refine B0 (nx (A8 (sr 3 rfl (ip' 3 0 [(13,.slice lq l.length lk),(14,iv (l.length:Int)),(15,iv 0)] (ie (B3 (C2d (fun (t15:Nat)=>(t15≤l.length∧S9 l (l.drop t15) t15=R∧(∀ i<t15,P4 (l.getD i Act.zero)=0),[(0,.slice lq l.length lk),(2,.slice none 0 0),(13,.slice lq l.length lk),(14,iv (l.length:Int)),(15,iv (t15:Int))],[],[sl A7 lq l,A8n,A8m,M5,M2,J3,N4],l.length - t15)) 0 ⟨(by omega),hR,(by intro i hi;omega)⟩ (mk [] rfl) A0.refl ?_)))))))
 rintro t15 ⟨hm2,hR,hchk⟩
 have hkt:=B6p hkind (by decide) t15
 refine sr 1 rfl (ip' 1 0 [(16,bv (decide ((t15:Int)<(l.length:Int))))] ?_)
 refine ie (A8 (W4 rfl (fun h3=>?_) (fun h3=>?_)))
 ·have h3p:(t15:Int)<(l.length:Int):=by simpa using h3
  rw [A1s Act.zero (show t15<l.length by omega)] at hR;replace hR:=(S9.eq_2 ..).symm.trans hR
  refine B0 (nx (A8 (B3 (sr 4 rfl (O8 0 rfl (by omega) fun a4 hq5=>(ix rfl (L6 A2m rfl rfl hq5 rfl t15 rfl (by omega)) (ix rfl (N2 (us:=A7 (l.getD t15 Act.zero)) B0l rfl rfl (N1 (c:=A7) (sz:=6) hq5 (fun _=>rfl) 0 rfl (gd Act.zero (by omega))) rfl) ?_)))))))
  refine N3 2 0 [0] (fun b6=>[(5,pt b6 0)]) (fun b6=>[bx b6 (A7 (l.getD t15 Act.zero)) 26]) (fun b6=>?_)
  refine ie (sr 3 rfl (zrl 1 2 [0] [(19,ag (A7 (l.getD t15 Act.zero)))] (zca (B8a (l.getD t15 Act.zero) (by first|omega|exact hkt) _ rfl) (A0.pick [1,2,3,4,5] rfl) (ip' 1 0 [(6,iv (P4 (l.getD t15 Act.zero)))] (ie (sr 2 rfl (ip' 2 0 [(22,bv (!decide ((P4 (l.getD t15 Act.zero))=0)))] (ie ?_))))))))
  refine zjn rfl hR ?_ ?_<;>clear hR<;>intro hR h7 h7p
  ·refine sr 3 rfl (ip' 3 0 [(2,.slice none 0 0),(3,iv (P4 (l.getD t15 Act.zero)))] ?_)
   subst hR
   refine ie (B2 ?_)
   exact zer hr hD (A1i rfl (B9 rfl) (B9 rfl)) ⟨VR.nil,VOk.nil⟩ (mc [[bx b6 (A7 (l.getD t15 Act.zero)) 26],vo cU8 5 VR.nil ([]:List UInt8)] [false,true] rfl (by first|rfl|(simp only [List.length_set]<;>rfl))) fn0
  refine B0 (nx (A4 2 rfl (ix rfl (B4 rfl rfl rfl rfl (by omega)) (ip' 1 0 [(15,iv ((t15:Int)+1))] (A6 ?_)))))
  exact C2t (z1:=t15) (t15+1) ⟨(by omega),hR,(by intro i hi;rcases Nat.lt_succ_iff_lt_or_eq.1 hi with hi | rfl;exact hchk i hi;exact Decidable.of_not_not (by assumption))⟩ (by (try dsimp only);omega) (mk [false] rfl) A0.refl
 have h3p:¬ ((t15:Int)<(l.length:Int)):=by simpa using h3
 rw [A1p h3p] at hR;replace hR:=(S9.eq_1 ..).symm.trans hR
 refine H3 (nx (sr 2 rfl (it rfl (C0 (L2:=[]) (B6q _ rfl) rfl rfl rfl rfl rfl (A0.pick [5,6,3,4] rfl) (List.Perm.refl _) (fun ⟨⟨b8,ml9⟩,hk10⟩=>[(b8,.map (A5 ml9 0).toArray ml9.length)]) (fun _=>rfl)) fun ⟨⟨b8,ml9⟩,hk10⟩=>?_)))
 refine ip' 1 0 [(7,.map (some b8))] (ie (A8 (C5p (nx (A8 (sr 1 rfl (ip' 1 0 [(8,iv 0)] (ie (B3 (Z3 (K4 [vo cU8 5 VR.nil ([]:List UInt8),[(b8,.map (A5 ml9 0).toArray ml9.length)]] [1,0] 2 rfl (by decide) rfl [[(b8,.map (A5 ml9 0).toArray ml9.length)],vo cU8 5 VR.nil ([]:List UInt8)] rfl (by first|rfl|simp)) ?_))))))))))
 refine B3t (fun (fu:Nat) (b:List UInt8) (br:VR) (at_:Int)=>(((l.length:Int) - at_).toNat<fu∧W2 l fu b at_=R∧VOk 1 b.length br∧0≤at_∧at_≤(l.length:Int)∧(b.length:Int)≤100010000 * at_,[(0,.slice lq l.length lk),(2,.slice (va br.q) b.length br.k),(7,.map (some b8)),(8,iv at_)],((b8,.map (A5 ml9 0).toArray ml9.length)::(vo cU8 5 br b)++([])),[B4f Tryz.prog ml9 tC,sl A7 lq l,A8n,A8m,M5,M2,J3,N4],fu)) (((l.length:Int) - 0).toNat+1) ([]:List UInt8) VR.nil 0 ⟨(Nat.lt_succ_self _),hR,VOk.nil,(by omega),(by simp)⟩ (mc [[(b8,.map (A5 ml9 0).toArray ml9.length)],vo cU8 5 VR.nil ([]:List UInt8)] [true,true] rfl (by first|rfl|(simp only [List.length_set]<;>rfl))) A0.refl ?_
 rintro fu b br at_ ⟨hm11,hR,hokbr,ha,hb⟩
 have:=VOk.le hokbr
 obtain ⟨fu1,rfl⟩:∃ m,fu=m+1:=⟨fu - 1,by omega⟩
 replace hR:=(W2.eq_2 ..).symm.trans hR
 refine A8 (sr 4 rfl (ip' 4 0 [(29,bv (decide (at_<(l.length:Int))))] ?_))
 refine ie ?_
 refine zjd rfl hR ?_ ?_<;>clear hR<;>intro hR h12 h12p
 ·refine B0 (nx (A8 (B3 (A8 (sr 2 rfl (ip' 2 0 [(9,iv at_)] (ie (B3 ?_))))))))
  refine D4c (fun (fu2:Nat) (b1:List UInt8) (br1:VR) (at_1:Int) (n:Int)=>(((l.length:Int) - n).toNat<fu2∧Z2 l (W2 l fu1) fu2 b1 at_1 n=R∧VOk 1 b1.length br1∧at_1=at_∧0≤at_1∧at_1<(l.length:Int)∧at_1≤n∧n≤(l.length:Int)∧n≤at_1+16∧(b1.length:Int)≤100010000 * at_1,[(0,.slice lq l.length lk),(2,.slice (va br1.q) b1.length br1.k),(7,.map (some b8)),(8,iv at_1),(9,iv n)],((b8,.map (A5 ml9 0).toArray ml9.length)::(vo cU8 5 br1 b1)++([])),[B4f Tryz.prog ml9 tC,sl A7 lq l,A8n,A8m,M5,M2,J3,N4],fu2)) (((l.length:Int) - at_).toNat+1) b br at_ at_ ⟨(Nat.lt_succ_self _),hR,hokbr,(by omega),(by omega)⟩ (mc [[(b8,.map (A5 ml9 0).toArray ml9.length)],vo cU8 5 br b] [true,true] rfl (by first|rfl|(simp only [List.length_set]<;>rfl))) A0.refl ?_
  rintro fu2 b1 br1 at_1 n ⟨hm13,hR,hokbr1,hn,hb1⟩
  have:=VOk.le hokbr1
  obtain ⟨fu3,rfl⟩:∃ m,fu2=m+1:=⟨fu2 - 1,by omega⟩
  replace hR:=(Z2.eq_2 ..).symm.trans hR
  refine A8 (B3 (A8 (sr 18 rfl (ip' 5 13 [(39,bv (decide (n<(l.length:Int))))] ?_))))
  refine zid 5 8 39 44 (decide (n<(at_1+16))) (fun g14 g14p=>?_) ?_
  ·refine ip' 2 3 [(40,iv n),(41,iv at_1)] (ix rfl (B4 rfl rfl rfl rfl (by omega)) (ip' 2 0 [(44,bv (decide (n<(at_1+16))))] ?_))
   exact A6 (Q5 5 39 44 g14 A0.refl (mc [[(b8,.map (A5 ml9 0).toArray ml9.length)],vo cU8 5 br1 b1] [true,true] rfl (by first|rfl|(simp only [List.length_set]<;>rfl))) rfl rfl rfl rfl rfl)
  refine ip' 1 7 [(45,bv ((decide (n<(l.length:Int)))&&(decide (n<(at_1+16)))))] ?_
  refine zia 7 0 45 52 (decide ((l.getD ((n).toNat) Act.zero).kind=39)) (fun g15=>?_) ?_
  ·have g15p:(n<(l.length:Int))∧(n<(at_1+16)):=by simpa using g15
   refine ip' 2 5 [(46,.slice lq l.length lk),(47,iv n)] (O8 1 rfl (by omega) fun a16 hq17=>(ix rfl (L6 A2m rfl rfl hq17 rfl ((n).toNat) (by omega) (by omega)) (ip' 1 3 [(49,pa (Addr.add a16 (((n).toNat) * 6)))] (ix rfl (C1 (v:=iv ((l.getD ((n).toNat) Act.zero).kind)) (us:=[iv ((l.getD ((n).toNat) Act.zero).kind)]) ty3 rfl rfl (P1 (N1 (c:=A7) (sz:=6) hq17 (fun _=>rfl) 1 rfl (gd Act.zero (by omega))) (ws:=[iv ((l.getD ((n).toNat) Act.zero).kind)]) 1 rfl) rfl) (ip' 2 0 [(52,bv (decide ((l.getD ((n).toNat) Act.zero).kind=39)))] ?_)))))
   exact A6 (Q5 7 45 52 g15 A0.refl (mc [[(b8,.map (A5 ml9 0).toArray ml9.length)],vo cU8 5 br1 b1] [true,true] rfl (by first|rfl|(simp only [List.length_set]<;>rfl))) rfl rfl rfl rfl rfl)
  refine ie ?_
  refine zjb rfl hR ?_ ?_<;>clear hR<;>intro hR h18
  ·have h18p:((n<(l.length:Int))∧(n<(at_1+16)))∧((l.getD ((n).toNat) Act.zero).kind=39):=by simpa using h18
   refine H3 (nx (A4 3 rfl (ip' 1 2 [(33,iv n)] ?_)))
   refine ix rfl (B4 rfl rfl rfl rfl (by omega)) (ip' 1 0 [(9,iv (n+1))] (A6 ?_))
   exact D3u (z1:=(fu3+1)) (z2:=b1) (z3:=br1) (z4:=at_1) (z5:=n) fu3 b1 br1 at_1 (n+1) ⟨(by omega),hR,hokbr1,(by omega),(by omega)⟩ (Nat.lt_succ_self _) (mc [[(b8,.map (A5 ml9 0).toArray ml9.length)],vo cU8 5 br1 b1] [true,true] rfl (by first|rfl|(simp only [List.length_set]<;>rfl))) A0.refl
  have h18p:¬ (((n<(l.length:Int))∧(n<(at_1+16)))∧((l.getD ((n).toNat) Act.zero).kind=39)):=by simpa using h18
  refine B0 (nx (A8 (sr 3 rfl (ip' 3 0 [(55,bv (decide (n=at_1)))] (ie ?_)))))
  refine zjd rfl hR ?_ ?_<;>clear hR<;>intro hR h19 h19p
  ·refine H3 (nx ?_)
   refine sh' 15 [(15,[(b8,.map (A5 ml9 0).toArray ml9.length)]),(13,vo cU8 5 br1 b1)] [B4f Tryz.prog ml9 tC,sl A7 lq l,A8n,A8m,M5,M2,J3,N4] ((b8,.map (A5 ml9 0).toArray ml9.length)::(vo cU8 5 br1 b1)++([])) (zml 15 0) (by kernel_rfl) rfl (by kernel_rfl) (by kernel_rfl) (by kernel_rfl) (mc [[(b8,.map (A5 ml9 0).toArray ml9.length)],vo cU8 5 br1 b1] [true,true] rfl (by first|rfl|(simp only [List.length_set]<;>rfl))) A0.refl ?_
   refine zhp [0,1,2,3,8,9] 9 (zml 15 783) [(65,.slice (va br1.q) b1.length br1.k),(66,.map (some b8)),(67,.slice lq l.length lk),(68,iv at_1),(73,.slice lq l.length lk),(74,iv at_1)] ?_
   refine C9v 1 rfl (by omega) fun a20 hq21=>?_
   refine zhk 4 (zml 15 799) rfl (L6 A2m rfl rfl hq21 rfl ((at_1).toNat) (by omega) (by omega)) ?_
   refine zhp [5] 7 (zml 15 831) [(70,pa (Addr.add a20 (((at_1).toNat) * 6)))] ?_
   refine zhk 6 (zml 15 895) rfl (C1 (v:=iv ((l.getD ((at_1).toNat) Act.zero).kind)) (us:=[iv ((l.getD ((at_1).toNat) Act.zero).kind)]) ty3 rfl rfl (P1 (N1 (c:=A7) (sz:=6) hq21 (fun _=>rfl) 1 rfl (gd Act.zero (by omega))) (ws:=[iv ((l.getD ((at_1).toNat) Act.zero).kind)]) 1 rfl) rfl) (zhl 7 [(b8,.map (A5 ml9 0).toArray ml9.length)] (zml 15 1023) rfl (by exact C2k (z:=.nilFunc) ml9 M7 rfl rfl rfl 0 rfl (by rw [List.toList_toArray]) (by kernel_rfl)) ?_)
   refine zhk 10 (zml 15 2047) rfl (L6 A2m rfl rfl hq21 rfl ((at_1).toNat) (by omega) (by omega)) (zhk 11 (zml 15 4095) rfl (N2 (us:=A7 (l.getD ((at_1).toNat) Act.zero)) B0l rfl rfl (N1 (c:=A7) (sz:=6) hq21 (fun _=>rfl) 1 rfl (gd Act.zero (by omega))) rfl) ?_)
   have htp:=C3v (hchk ((at_1).toNat) (by omega)) (B6p hkind (by decide) ((at_1).toNat))
   refine zho 12 ((b8,.map (A5 ml9 0).toArray ml9.length)::(vo cU8 5 br1 b1)++([])) (zml 15 8191) rfl (Det.tri (by exact C6j (C:=tC) (A2 0 rfl) (by rw [B4h,hk10];exact C5w ⟨htp.2.1,htp.2.2.1⟩) ⟨(l.getD ((at_1).toNat) Act.zero),⟨rfl,by exact htp⟩,rfl,rfl⟩ rfl rfl rfl rfl)) (fun _=>(mc [[(b8,.map (A5 ml9 0).toArray ml9.length)],vo cU8 5 br1 b1] [true,true] rfl (by first|rfl|(simp only [List.length_set]<;>rfl)))) (fun _=>A0.refl) fun _=>?_
   have:=B9d _ htp.1
   refine zho 13 [(b8,.map (A5 ml9 0).toArray ml9.length)] (zml 15 16383) rfl (A9r (r:=br1) (xs:=b1) (s:=(A0r (l.getD ((at_1).toNat) Act.zero))) (pre:=[(b8,.map (A5 ml9 0).toArray ml9.length)]) (post:=[]) B9g (by kernel_rfl) Tryz.underlying9 rfl rfl rfl rfl rfl rfl rfl hokbr1 (by first|omega|(simp<;>omega))) (fun ⟨r22,hr23⟩=>(mc [[(b8,.map (A5 ml9 0).toArray ml9.length)],vo cU8 5 r22 (b1++(A0r (l.getD ((at_1).toNat) Act.zero)))] [true,false] rfl (by first|rfl|(simp only [List.length_set]<;>rfl)))) (fun ⟨r22,hr23⟩=>A0.refl) fun ⟨r22,hr23⟩=>?_
   have:=@List.length_append _ b1 (A0r (l.getD ((at_1).toNat) Act.zero))
   have:=VOk.le hr23
   have:=VOk.cap hr23
   refine zhp [14] 0 (zml 15 32767) [(2,.slice (va r22.q) ((b1++(A0r (l.getD ((at_1).toNat) Act.zero))).length) r22.k)] ?_
   refine B2t (by kernel_rfl) ?_
   refine nx (A4 3 rfl (ip' 1 2 [(30,iv at_1)] (ix rfl (B4 rfl rfl rfl rfl (by omega)) (ip' 1 0 [(8,iv (at_1+1))] (A6 ?_)))))
   exact B0q (z1:=(fu1+1)) (z2:=b) (z3:=br) (z4:=at_) fu1 (b1++(A0r (l.getD ((at_1).toNat) Act.zero))) r22 (at_1+1) ⟨(by omega),hR,hr23,(by omega),(by first|omega|(simp<;>omega))⟩ (Nat.lt_succ_self _) (mc [[(b8,.map (A5 ml9 0).toArray ml9.length)],vo cU8 5 r22 (b1++(A0r (l.getD ((at_1).toNat) Act.zero)))] [true,true] rfl (by first|rfl|(simp only [List.length_set]<;>rfl))) A0.refl
  refine B0 (nx (sr 8 rfl (ip' 4 4 [(56,.slice (va br1.q) b1.length br1.k),(57,.slice lq l.length lk),(58,iv at_1),(59,iv n)] (C8 (C7i (c:=A7) (sz:=6) (xs:=l) (A2 1 rfl) ((at_1).toNat) ((n).toNat) lk (fun _=>rfl) rfl (by omega) (by omega)) ?_))))
  refine ix rfl (B0h (n':=((l.drop ((at_1).toNat)).take (((n).toNat) - ((at_1).toNat))).length) A2m rfl rfl ((at_1).toNat) ((n).toNat) lk (A0k rfl (by omega)) (A0k rfl (by omega)) A3c (by omega) (by omega) (by omega) (by first|rfl|omega|(simp<;>omega)|(simp;done)) rfl) ?_
  have:=@List.length_drop _ ((at_1).toNat) l
  have:=@List.length_take _ (((n).toNat) - ((at_1).toNat)) (l.drop ((at_1).toNat))
  have hQ:=D0 hR;clear hR;obtain ⟨y0,hy0,hR⟩:=hQ
  refine zca (B5a ((l.drop ((at_1).toNat)).take (((n).toNat) - ((at_1).toNat))) (B0s lq ((at_1).toNat) 6 lk) (lk - ((at_1).toNat)) (by first|omega|(simp<;>omega)|(dsimp only;omega)|decide) (by first|omega|(simp<;>omega)|(dsimp only;omega)|decide) y0 hy0) (A0.pick [0,8,7] rfl) ?_
  have:=A3a ((l.drop ((at_1).toNat)).take (((n).toNat) - ((at_1).toNat)));try rw [hy0] at this
  refine it rfl (A9r (r:=br1) (xs:=b1) (s:=y0) (pre:=[(b8,.map (A5 ml9 0).toArray ml9.length)]) (post:=[]) B9g (by kernel_rfl) Tryz.underlying9 rfl rfl rfl rfl rfl rfl rfl hokbr1 (by first|omega|(simp<;>omega))) fun ⟨r24,hr25⟩=>?_
  have:=@List.length_append _ b1 y0
  have:=VOk.le hr25
  have:=VOk.cap hr25
  refine ip' 1 0 [(2,.slice (va r24.q) ((b1++y0).length) r24.k)] (ie (sr 3 rfl (ip' 1 2 [(63,iv n)] (ix rfl (M4 rfl rfl rfl rfl (by omega)) (ip' 1 0 [(8,iv (n - 1))] (ie (H3 (nx (A4 3 rfl (ip' 1 2 [(30,iv (n - 1))] (ix rfl (B4 rfl rfl rfl rfl (by omega)) (ip' 1 0 [(8,iv ((n - 1)+1))] ?_))))))))))))
  refine A6 ?_
  exact B0q (z1:=(fu1+1)) (z2:=b) (z3:=br) (z4:=at_) fu1 (b1++y0) r24 ((n - 1)+1) ⟨(by omega),hR,hr25,(by omega),(by first|omega|(simp<;>omega))⟩ (Nat.lt_succ_self _) (mc [[(b8,.map (A5 ml9 0).toArray ml9.length)],vo cU8 5 r24 (b1++y0)] [true,true] rfl (by first|rfl|(simp only [List.length_set]<;>rfl))) (A0.pick [1,2,3,4,5,6,7,8] rfl)
 refine H3 (nx (sr 3 rfl (ip' 3 0 [(2,.slice (va br.q) b.length br.k),(3,iv 0)] ?_)))
 subst hR
 refine ie (B2 ?_)
 exact zer hr hD (A1i rfl (B9 rfl) (B9 rfl)) ⟨br,hokbr⟩ (mc [[(b8,.map (A5 ml9 0).toArray ml9.length)],vo cU8 5 br b] [false,true] rfl (by first|rfl|(simp only [List.length_set]<;>rfl))) fn0
end Go.Proofs.YtanighkpfmgnbaaGreatDoor
