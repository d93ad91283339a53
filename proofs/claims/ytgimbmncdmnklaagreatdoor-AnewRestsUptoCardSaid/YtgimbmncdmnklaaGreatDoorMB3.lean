import Derived.Test.YtgimbmncdmnklaaGreatDoorProg
import Derived.Test.YtgimbmncdmnklaaGreatDoorMA2
import Derived.Test.YtgimbmncdmnklaaGreatDoorMB1
import Derived.Test.YtgimbmncdmnklaaGreatDoorMA3
import Derived.Test.YtgimbmncdmnklaaGreatDoorMB2
set_option linter.unusedVariables false
set_option linter.unusedSimpArgs false
set_option linter.unnecessarySimpa false
set_option maxRecDepth 100000
namespace Go.Proofs.YtgimbmncdmnklaaGreatDoor
open Go Go.Fen
@[reducible] def aH (a b:Int):Value := .func (.func 120) #[ag (C0 ⟨a,b⟩)] #[]
theorem O7:MapTy Tryz.prog 165 3 163 (.int .i64):=⟨by kernel_rfl,by kernel_rfl,rfl⟩
theorem E8p:SlTy Tryz.prog 210 208 2:=⟨by kernel_rfl,by kernel_rfl⟩
theorem E5m:Ty Tryz.prog 163 2 true:=⟨by kernel_rfl⟩
theorem E3a:Ty Tryz.prog 208 2 true:=⟨by kernel_rfl⟩
theorem D5x:Zero Tryz.prog 163 [.nilFunc,.nilFunc]:=⟨by kernel_rfl⟩
def A6q (cp:Int):List Spn→Nat→Bool
 | [],t9=>false
 | hd_l0::tl_l0,t9=>(bif ((decide (hd_l0.lo≤cp))&&(decide (cp≤hd_l0.hi))) then true else A6q cp tl_l0 (t9+1))
def A3n (cp:Int) (l:List Spn):Bool :=
 A6q cp l 0
theorem C1s {cp:Int} {l:List Spn} {lq:Option Addr} {lk:Nat} {R:Bool} (hR:A3n cp l=R) (h:l.length≤9223372036854775807:=by exact bW) (k:l.length≤lk:=by exact bW):J5 Tryz.prog 112 [iv cp,.slice lq l.length lk] [sl C0 lq l] (bv R):=by
 refine cC Tryz.func112 fun X hX hr hD=>?_
 replace hR:=(A3n.eq_1 ..).symm.trans hR
 refine bS rfl (pp0 1 rfl (ie (A3 (bS rfl (pp3 3 7 8 9 rfl (ie (A9 (A3q (fun a=>(a≤l.length∧A6q _ (l.drop a) a=R,[(0,_),(7,_),(8,iv _),(9,iv a)],_,_,l.length - a)) 0 ⟨opx,hR⟩ bU A7.refl ?_))))))))
 rintro a ⟨m,hR⟩
 refine bS rfl (bP 1 10 rfl ?_)
 refine ie (A3 (G4 rfl (fun e=>?_) (fun e=>?_)))
 ·have d:=bV e
  rw [A1b Spn.zero (show a<l.length by omega)] at hR;replace hR:=(A6q.eq_2 ..).symm.trans hR
  refine A4 (nx (A3 (A9 (bS rfl (K8 0 rfl opx fun o b=>(ix rfl (F8 E8p rfl rfl b rfl a rfl opx) (ix rfl (K3 E3a rfl rfl (H2 (sz:=2) b (fun _=>rfl) 0 rfl (gd Spn.zero opx)) rfl) ?_)))))))
  refine zra 2 [0] (fun f=>[(6,pt f 0)]) (fun _=>(C0 (l.getD a Spn.zero))) 208 fun f=>?_
  refine ie (bS rfl (cF 5 [0] 17 rfl ?_))
  refine zid 5 0 17 22 (decide (cp≤(l.getD a Spn.zero).hi)) (fun g i=>?_) ?_
  ·refine cF 5 [0] 22 rfl ?_
   exact zai 2 17 _ g
  refine ie ?_
  refine zja rfl hR ?_ ?_<;>clear hR<;>intro hR n j
  ·refine bS rfl (bP 1 4 rfl ?_)
   subst hR
   refine ie (A8 ?_)
   exact F7 hr hD
  refine A4 (nx (A1 2 rfl (ix rfl (B3 rfl rfl rfl rfl opx) (bP 1 9 rfl (A2 ?_)))))
  exact A2g _ ⟨opx,hR⟩ olr bU A7.refl
 have d:=bV e
 rw [A1d d] at hR;replace hR:=(A6q.eq_1 ..).symm.trans hR
 refine F4 (nx (bS rfl (bP 1 4 rfl ?_)))
 subst hR
 refine ie (A8 ?_)
 exact F7 hr hD
def A4e (cp:Int):Int :=
 (bif ((!(B0y cp))||(A3n cp ([(⟨0,31⟩:Spn),(⟨127,159⟩:Spn)]:List Spn))) then (-1) else (bif (decide (cp<(D7c.getD 0 Spn.zero).lo)) then 1 else (bif (A3n cp D7c) then 0 else (bif (A3n cp E4x) then 2 else 1))))
theorem B7t {cp R:Int} (hR:A4e cp=R):J5 Tryz.prog 75 [iv cp] [U5,U8] (iv R):=by
 refine cC Tryz.func75 fun X hX hr hD=>?_
 replace hR:=(A4e.eq_1 ..).symm.trans hR
 refine bS rfl (pp0 1 rfl (ie (A3 (A9 (bS rfl (bP 1 4 rfl (zv rfl (C6g rfl) (bP 2 7 rfl ?_))))))))
 refine zio 6 1 7 13 (A3n cp [(⟨0,31⟩:Spn),(⟨127,159⟩:Spn)]) (fun d=>?_) ?_
 ·refine c9 3 3 [] [(8,iv cp),(9,ag (C0 ⟨0,31⟩)),(10,ag (C0 ⟨127,159⟩))] (it rfl (B1 (c:=C0) (xs:=[(⟨0,31⟩:Spn),(⟨127,159⟩:Spn)]) E8p rfl rfl rfl oki) fun f=>?_)
  have:([(⟨0,31⟩:Spn),(⟨127,159⟩:Spn)]:List Spn).length=2:=rfl
  refine zv rfl (C1s (l:=[(⟨0,31⟩:Spn),(⟨127,159⟩:Spn)]) rfl) (ip' 1 0 [(13,bv (A3n cp [(⟨0,31⟩:Spn),(⟨127,159⟩:Spn)]))] ?_)
  exact A2 (J0 7 7 _ d cB bU rfl rfl rfl rfl rfl)
 refine ip' 1 0 [(3,bv ((!(B0y cp))||(A3n cp [(⟨0,31⟩:Spn),(⟨127,159⟩:Spn)])))] (ie ?_)
 refine zjb rfl hR ?_ ?_<;>clear hR<;>intro hR b
 ·have a:=bV b
  refine bS rfl (bP 1 2 rfl ?_)
  subst hR
  refine ie (A8 ?_)
  exact F7 hr hD
 refine bS rfl (ip' 1 5 [(15,iv cp)] (ix rfl (B8f Tryz.underlying209 E3a rfl rfl rfl 0 rfl (by first|decide|omega)) (ip' 1 3 [(17,pa _)] (ix rfl (C9 cH rfl rfl (A0i (H2 (sz:=2) rfl (fun _=>rfl) 0 rfl (gd _ (by first|decide|(simp only [D7c,List.length_cons,List.length_nil];omega)))) (ws:=[iv ((D7c.getD 0 Spn.zero).lo)]) 1 rfl) rfl) (bP 2 14 rfl (ie ?_))))))
 refine zjd rfl hR ?_ ?_<;>clear hR<;>intro hR h e
 ·refine bS rfl (bP 1 2 rfl ?_)
  subst hR
  refine ie (A8 ?_)
  exact F7 hr hD
 refine bS rfl (bP 1 21 rfl (ix rfl (C8x Tryz.underlying209 E3a rfl rfl) (zv rfl (C1s (l:=D7c) rfl) (bP 1 20 rfl (ie ?_)))))
 refine zjb rfl hR ?_ ?_<;>clear hR<;>intro hR i
 ·refine bS rfl (bP 1 2 rfl ?_)
  subst hR
  refine ie (A8 ?_)
  exact F7 hr hD
 refine bS rfl (bP 1 25 rfl (ix rfl (C8x Tryz.underlying211 E3a rfl rfl) (zv rfl (C1s (l:=E4x) rfl) (bP 1 24 rfl (ie ?_)))))
 refine zjb rfl hR ?_ ?_<;>clear hR<;>intro hR g
 ·refine bS rfl (bP 1 2 rfl ?_)
  subst hR
  refine ie (A8 ?_)
  exact F7 hr hD
 refine A4 (nx (bS rfl (bP 1 2 rfl ?_)))
 subst hR
 refine ie (A8 ?_)
 exact F7 hr hD
def B7a (kind:Int) (n:Int) (m:Int):Act :=
 {Act.zero with kind:=kind,n:=n,m:=m}
theorem D8j {kind n m:Int} {R:Act} (hR:B7a kind n m=R):J5 Tryz.prog 76 [iv kind,iv n,iv m] [] (ag (A0 R)):=by
 refine cC Tryz.func76 fun X hX hr hD=>?_
 replace hR:=(B7a.eq_1 ..).symm.trans hR
 refine bS rfl (zra 1 [] (fun a=>[(6,pt a 0)]) (fun _=>(A0 Act.zero)) 54 fun a=>(ie (bS rfl (zru 5 [0] [] 0 (bx a (A0 ({Act.zero with kind:=kind,n:=n,m:=m})) 54) ?_))))
 subst hR
 refine ie (A8 ?_)
 exact cD hr hD (K7 rfl (F0 C8e rfl 0 rfl rfl rfl)) () bU bX
def C1p:Unit :=
 ()
theorem C7n {R:Unit} (hR:C1p=R):J5 Tryz.prog 119 [] [] (.tuple #[aH 0 0,aH 0 1,aH 1 9999,aH 0 9999]):=by
 refine cC Tryz.func119 fun X hX hr hD=>?_
 replace hR:=(C1p.eq_1 ..).symm.trans hR
 refine bS rfl (pp0 4 rfl (ie (bS rfl (c9 12 0 [] [(0,aH 0 0),(1,aH 0 1),(2,aH 1 9999),(3,aH 0 9999)] ?_))))
 subst hR
 refine ie (A8 ?_)
 exact cD hr hD (F0m rfl (A6 rfl) (A6 rfl) (A6 rfl) (A6 rfl)) () bU bX
def me0:Value:=ag [aH 0 3,aH 0 1]
def mt0:List (Int×Value):=[(17,me0)]
def me1:Value:=ag [aH 2 3,aH 0 0]
def mt1:List (Int×Value):=[(17,me0),(18,me1)]
def me2:Value:=ag [aH 1 9999,aH 1 9999]
def mt2:List (Int×Value):=[(17,me0),(18,me1),(19,me2)]
def me3:Value:=ag [aH 0 3,aH 1 9999]
def mt3:List (Int×Value):=[(17,me0),(18,me1),(19,me2),(20,me3)]
def me4:Value:=ag [aH 0 3,aH 0 0]
def mt4:List (Int×Value):=[(17,me0),(18,me1),(19,me2),(20,me3),(26,me4)]
def me5:Value:=ag [aH 0 2,aH 0 0]
def mt5:List (Int×Value):=[(17,me0),(18,me1),(19,me2),(20,me3),(26,me4),(27,me5)]
def me6:Value:=ag [aC 121,aH 0 0]
def mt6:List (Int×Value):=[(17,me0),(18,me1),(19,me2),(20,me3),(26,me4),(27,me5),(35,me6)]
def me7:Value:=ag [aH 0 9999,aH 0 9999]
def mt7:List (Int×Value):=[(17,me0),(18,me1),(19,me2),(20,me3),(26,me4),(27,me5),(35,me6),(38,me7)]
def me8:Value:=ag [aH 0 6,aH 0 0]
def mt8:List (Int×Value):=[(17,me0),(18,me1),(19,me2),(20,me3),(26,me4),(27,me5),(35,me6),(38,me7),(40,me8)]
def me9:Value:=ag [aH 5 6,aH 0 0]
def mt9:List (Int×Value):=[(17,me0),(18,me1),(19,me2),(20,me3),(26,me4),(27,me5),(35,me6),(38,me7),(40,me8),(41,me9)]
def A8n:Value:=ag [aH 0 0,aH 0 0]
def F1w:List (Int×Value):=[(17,me0),(18,me1),(19,me2),(20,me3),(26,me4),(27,me5),(35,me6),(38,me7),(40,me8),(41,me9),(2,A8n)]
def A9l:Value:=ag [aH 0 0,aH 0 0]
def F2n:List (Int×Value):=[(17,me0),(18,me1),(19,me2),(20,me3),(26,me4),(27,me5),(35,me6),(38,me7),(40,me8),(41,me9),(2,A8n),(3,A9l)]
def A9s:Value:=ag [aH 0 0,aH 0 0]
def F3r:List (Int×Value):=[(17,me0),(18,me1),(19,me2),(20,me3),(26,me4),(27,me5),(35,me6),(38,me7),(40,me8),(41,me9),(2,A8n),(3,A9l),(4,A9s)]
def B0l:Value:=ag [aH 0 0,aH 0 0]
def F3n:List (Int×Value):=[(17,me0),(18,me1),(19,me2),(20,me3),(26,me4),(27,me5),(35,me6),(38,me7),(40,me8),(41,me9),(2,A8n),(3,A9l),(4,A9s),(5,B0l)]
def B1b:Value:=ag [aH 0 0,aH 0 0]
def F1r:List (Int×Value):=[(17,me0),(18,me1),(19,me2),(20,me3),(26,me4),(27,me5),(35,me6),(38,me7),(40,me8),(41,me9),(2,A8n),(3,A9l),(4,A9s),(5,B0l),(6,B1b)]
def B1w:Value:=ag [aH 0 0,aH 0 0]
def F3a:List (Int×Value):=[(17,me0),(18,me1),(19,me2),(20,me3),(26,me4),(27,me5),(35,me6),(38,me7),(40,me8),(41,me9),(2,A8n),(3,A9l),(4,A9s),(5,B0l),(6,B1b),(8,B1w)]
def B2j:Value:=ag [aH 0 0,aH 0 0]
def F2g:List (Int×Value):=[(17,me0),(18,me1),(19,me2),(20,me3),(26,me4),(27,me5),(35,me6),(38,me7),(40,me8),(41,me9),(2,A8n),(3,A9l),(4,A9s),(5,B0l),(6,B1b),(8,B1w),(9,B2j)]
def B3a:Value:=ag [aH 0 0,aH 0 0]
def F1o:List (Int×Value):=[(17,me0),(18,me1),(19,me2),(20,me3),(26,me4),(27,me5),(35,me6),(38,me7),(40,me8),(41,me9),(2,A8n),(3,A9l),(4,A9s),(5,B0l),(6,B1b),(8,B1w),(9,B2j),(10,B3a)]
def B4b:Value:=ag [aH 0 0,aH 0 0]
def F2q:List (Int×Value):=[(17,me0),(18,me1),(19,me2),(20,me3),(26,me4),(27,me5),(35,me6),(38,me7),(40,me8),(41,me9),(2,A8n),(3,A9l),(4,A9s),(5,B0l),(6,B1b),(8,B1w),(9,B2j),(10,B3a),(11,B4b)]
def B4s:Value:=ag [aH 0 0,aH 0 0]
def F3t:List (Int×Value):=[(17,me0),(18,me1),(19,me2),(20,me3),(26,me4),(27,me5),(35,me6),(38,me7),(40,me8),(41,me9),(2,A8n),(3,A9l),(4,A9s),(5,B0l),(6,B1b),(8,B1w),(9,B2j),(10,B3a),(11,B4b),(12,B4s)]
def B5t:Value:=ag [aH 0 0,aH 0 0]
def F2r:List (Int×Value):=[(17,me0),(18,me1),(19,me2),(20,me3),(26,me4),(27,me5),(35,me6),(38,me7),(40,me8),(41,me9),(2,A8n),(3,A9l),(4,A9s),(5,B0l),(6,B1b),(8,B1w),(9,B2j),(10,B3a),(11,B4b),(12,B4s),(13,B5t)]
def B6v:Value:=ag [aH 0 0,aH 0 0]
def F3e:List (Int×Value):=[(17,me0),(18,me1),(19,me2),(20,me3),(26,me4),(27,me5),(35,me6),(38,me7),(40,me8),(41,me9),(2,A8n),(3,A9l),(4,A9s),(5,B0l),(6,B1b),(8,B1w),(9,B2j),(10,B3a),(11,B4b),(12,B4s),(13,B5t),(15,B6v)]
def B7o:Value:=ag [aH 0 0,aH 0 0]
def F3q:List (Int×Value):=[(17,me0),(18,me1),(19,me2),(20,me3),(26,me4),(27,me5),(35,me6),(38,me7),(40,me8),(41,me9),(2,A8n),(3,A9l),(4,A9s),(5,B0l),(6,B1b),(8,B1w),(9,B2j),(10,B3a),(11,B4b),(12,B4s),(13,B5t),(15,B6v),(16,B7o)]
def B8u:Value:=ag [aH 0 1,aH 0 0]
def F2m:List (Int×Value):=[(17,me0),(18,me1),(19,me2),(20,me3),(26,me4),(27,me5),(35,me6),(38,me7),(40,me8),(41,me9),(2,A8n),(3,A9l),(4,A9s),(5,B0l),(6,B1b),(8,B1w),(9,B2j),(10,B3a),(11,B4b),(12,B4s),(13,B5t),(15,B6v),(16,B7o),(7,B8u)]
def B9v:Value:=ag [aH 0 1,aH 0 0]
def F3c:List (Int×Value):=[(17,me0),(18,me1),(19,me2),(20,me3),(26,me4),(27,me5),(35,me6),(38,me7),(40,me8),(41,me9),(2,A8n),(3,A9l),(4,A9s),(5,B0l),(6,B1b),(8,B1w),(9,B2j),(10,B3a),(11,B4b),(12,B4s),(13,B5t),(15,B6v),(16,B7o),(7,B8u),(14,B9v)]
def C0u:Value:=ag [aH 0 1,aH 0 0]
def F1p:List (Int×Value):=[(17,me0),(18,me1),(19,me2),(20,me3),(26,me4),(27,me5),(35,me6),(38,me7),(40,me8),(41,me9),(2,A8n),(3,A9l),(4,A9s),(5,B0l),(6,B1b),(8,B1w),(9,B2j),(10,B3a),(11,B4b),(12,B4s),(13,B5t),(15,B6v),(16,B7o),(7,B8u),(14,B9v),(42,C0u)]
def C2s:Value:=ag [aH 0 1,aH 1 9999]
def F2y:List (Int×Value):=[(17,me0),(18,me1),(19,me2),(20,me3),(26,me4),(27,me5),(35,me6),(38,me7),(40,me8),(41,me9),(2,A8n),(3,A9l),(4,A9s),(5,B0l),(6,B1b),(8,B1w),(9,B2j),(10,B3a),(11,B4b),(12,B4s),(13,B5t),(15,B6v),(16,B7o),(7,B8u),(14,B9v),(42,C0u),(21,C2s)]
def C3j:Value:=ag [aH 0 1,aH 1 9999]
def F2j:List (Int×Value):=[(17,me0),(18,me1),(19,me2),(20,me3),(26,me4),(27,me5),(35,me6),(38,me7),(40,me8),(41,me9),(2,A8n),(3,A9l),(4,A9s),(5,B0l),(6,B1b),(8,B1w),(9,B2j),(10,B3a),(11,B4b),(12,B4s),(13,B5t),(15,B6v),(16,B7o),(7,B8u),(14,B9v),(42,C0u),(21,C2s),(33,C3j)]
def C5x:Value:=ag [aH 1 9999,aH 0 0]
def F1x:List (Int×Value):=[(17,me0),(18,me1),(19,me2),(20,me3),(26,me4),(27,me5),(35,me6),(38,me7),(40,me8),(41,me9),(2,A8n),(3,A9l),(4,A9s),(5,B0l),(6,B1b),(8,B1w),(9,B2j),(10,B3a),(11,B4b),(12,B4s),(13,B5t),(15,B6v),(16,B7o),(7,B8u),(14,B9v),(42,C0u),(21,C2s),(33,C3j),(22,C5x)]
def C8g:Value:=ag [aH 1 9999,aH 0 0]
def F3b:List (Int×Value):=[(17,me0),(18,me1),(19,me2),(20,me3),(26,me4),(27,me5),(35,me6),(38,me7),(40,me8),(41,me9),(2,A8n),(3,A9l),(4,A9s),(5,B0l),(6,B1b),(8,B1w),(9,B2j),(10,B3a),(11,B4b),(12,B4s),(13,B5t),(15,B6v),(16,B7o),(7,B8u),(14,B9v),(42,C0u),(21,C2s),(33,C3j),(22,C5x),(23,C8g)]
def D0u:Value:=ag [aH 1 9999,aH 0 0]
def F3u:List (Int×Value):=[(17,me0),(18,me1),(19,me2),(20,me3),(26,me4),(27,me5),(35,me6),(38,me7),(40,me8),(41,me9),(2,A8n),(3,A9l),(4,A9s),(5,B0l),(6,B1b),(8,B1w),(9,B2j),(10,B3a),(11,B4b),(12,B4s),(13,B5t),(15,B6v),(16,B7o),(7,B8u),(14,B9v),(42,C0u),(21,C2s),(33,C3j),(22,C5x),(23,C8g),(24,D0u)]
def D3g:Value:=ag [aH 1 9999,aH 0 0]
def F3g:List (Int×Value):=[(17,me0),(18,me1),(19,me2),(20,me3),(26,me4),(27,me5),(35,me6),(38,me7),(40,me8),(41,me9),(2,A8n),(3,A9l),(4,A9s),(5,B0l),(6,B1b),(8,B1w),(9,B2j),(10,B3a),(11,B4b),(12,B4s),(13,B5t),(15,B6v),(16,B7o),(7,B8u),(14,B9v),(42,C0u),(21,C2s),(33,C3j),(22,C5x),(23,C8g),(24,D0u),(25,D3g)]
def D7l:Value:=ag [aH 1 9999,aH 0 0]
def F1t:List (Int×Value):=[(17,me0),(18,me1),(19,me2),(20,me3),(26,me4),(27,me5),(35,me6),(38,me7),(40,me8),(41,me9),(2,A8n),(3,A9l),(4,A9s),(5,B0l),(6,B1b),(8,B1w),(9,B2j),(10,B3a),(11,B4b),(12,B4s),(13,B5t),(15,B6v),(16,B7o),(7,B8u),(14,B9v),(42,C0u),(21,C2s),(33,C3j),(22,C5x),(23,C8g),(24,D0u),(25,D3g),(28,D7l)]
def D7v:Value:=ag [aH 1 9999,aH 0 0]
def F2f:List (Int×Value):=[(17,me0),(18,me1),(19,me2),(20,me3),(26,me4),(27,me5),(35,me6),(38,me7),(40,me8),(41,me9),(2,A8n),(3,A9l),(4,A9s),(5,B0l),(6,B1b),(8,B1w),(9,B2j),(10,B3a),(11,B4b),(12,B4s),(13,B5t),(15,B6v),(16,B7o),(7,B8u),(14,B9v),(42,C0u),(21,C2s),(33,C3j),(22,C5x),(23,C8g),(24,D0u),(25,D3g),(28,D7l),(29,D7v)]
def E0x:Value:=ag [aH 1 9999,aH 0 0]
def F3j:List (Int×Value):=[(17,me0),(18,me1),(19,me2),(20,me3),(26,me4),(27,me5),(35,me6),(38,me7),(40,me8),(41,me9),(2,A8n),(3,A9l),(4,A9s),(5,B0l),(6,B1b),(8,B1w),(9,B2j),(10,B3a),(11,B4b),(12,B4s),(13,B5t),(15,B6v),(16,B7o),(7,B8u),(14,B9v),(42,C0u),(21,C2s),(33,C3j),(22,C5x),(23,C8g),(24,D0u),(25,D3g),(28,D7l),(29,D7v),(30,E0x)]
def E4u:Value:=ag [aH 1 9999,aH 0 0]
def F2u:List (Int×Value):=[(17,me0),(18,me1),(19,me2),(20,me3),(26,me4),(27,me5),(35,me6),(38,me7),(40,me8),(41,me9),(2,A8n),(3,A9l),(4,A9s),(5,B0l),(6,B1b),(8,B1w),(9,B2j),(10,B3a),(11,B4b),(12,B4s),(13,B5t),(15,B6v),(16,B7o),(7,B8u),(14,B9v),(42,C0u),(21,C2s),(33,C3j),(22,C5x),(23,C8g),(24,D0u),(25,D3g),(28,D7l),(29,D7v),(30,E0x),(31,E4u)]
def E8n:Value:=ag [aH 1 9999,aH 0 0]
def F2h:List (Int×Value):=[(17,me0),(18,me1),(19,me2),(20,me3),(26,me4),(27,me5),(35,me6),(38,me7),(40,me8),(41,me9),(2,A8n),(3,A9l),(4,A9s),(5,B0l),(6,B1b),(8,B1w),(9,B2j),(10,B3a),(11,B4b),(12,B4s),(13,B5t),(15,B6v),(16,B7o),(7,B8u),(14,B9v),(42,C0u),(21,C2s),(33,C3j),(22,C5x),(23,C8g),(24,D0u),(25,D3g),(28,D7l),(29,D7v),(30,E0x),(31,E4u),(32,E8n)]
def E8x:Value:=ag [aH 1 9999,aH 0 0]
def F1q:List (Int×Value):=[(17,me0),(18,me1),(19,me2),(20,me3),(26,me4),(27,me5),(35,me6),(38,me7),(40,me8),(41,me9),(2,A8n),(3,A9l),(4,A9s),(5,B0l),(6,B1b),(8,B1w),(9,B2j),(10,B3a),(11,B4b),(12,B4s),(13,B5t),(15,B6v),(16,B7o),(7,B8u),(14,B9v),(42,C0u),(21,C2s),(33,C3j),(22,C5x),(23,C8g),(24,D0u),(25,D3g),(28,D7l),(29,D7v),(30,E0x),(31,E4u),(32,E8n),(34,E8x)]
def F2i:Value:=ag [aH 0 9999,aH 0 1]
def F3h:List (Int×Value):=[(17,me0),(18,me1),(19,me2),(20,me3),(26,me4),(27,me5),(35,me6),(38,me7),(40,me8),(41,me9),(2,A8n),(3,A9l),(4,A9s),(5,B0l),(6,B1b),(8,B1w),(9,B2j),(10,B3a),(11,B4b),(12,B4s),(13,B5t),(15,B6v),(16,B7o),(7,B8u),(14,B9v),(42,C0u),(21,C2s),(33,C3j),(22,C5x),(23,C8g),(24,D0u),(25,D3g),(28,D7l),(29,D7v),(30,E0x),(31,E4u),(32,E8n),(34,E8x),(36,F2i)]
def F5a:Value:=ag [aH 0 9999,aH 0 1]
def F2k:List (Int×Value):=[(17,me0),(18,me1),(19,me2),(20,me3),(26,me4),(27,me5),(35,me6),(38,me7),(40,me8),(41,me9),(2,A8n),(3,A9l),(4,A9s),(5,B0l),(6,B1b),(8,B1w),(9,B2j),(10,B3a),(11,B4b),(12,B4s),(13,B5t),(15,B6v),(16,B7o),(7,B8u),(14,B9v),(42,C0u),(21,C2s),(33,C3j),(22,C5x),(23,C8g),(24,D0u),(25,D3g),(28,D7l),(29,D7v),(30,E0x),(31,E4u),(32,E8n),(34,E8x),(36,F2i),(37,F5a)]
def F6j:Value:=ag [aH 0 9999,aH 0 1]
def F2o:List (Int×Value):=[(17,me0),(18,me1),(19,me2),(20,me3),(26,me4),(27,me5),(35,me6),(38,me7),(40,me8),(41,me9),(2,A8n),(3,A9l),(4,A9s),(5,B0l),(6,B1b),(8,B1w),(9,B2j),(10,B3a),(11,B4b),(12,B4s),(13,B5t),(15,B6v),(16,B7o),(7,B8u),(14,B9v),(42,C0u),(21,C2s),(33,C3j),(22,C5x),(23,C8g),(24,D0u),(25,D3g),(28,D7l),(29,D7v),(30,E0x),(31,E4u),(32,E8n),(34,E8x),(36,F2i),(37,F5a),(43,F6j)]
def B9h:Unit :=
 ()
set_option maxHeartbeats 2000000 in
theorem B6u {R:Unit} (hR:B9h=R):Con Tryz.prog 79 [] [] [] (Nat) (fun x=>.map (some x)) (fun x=>[(x,.map (B9 F2o 0).toArray 41)]) (fun x=>[]):=by
 refine cC Tryz.func79 fun X hX hr hD=>?_
 replace hR:=(B9h.eq_1 ..).symm.trans hR
 refine bS rfl (pp0 1 rfl (ie (bS rfl (zv rfl (C7n rfl) (ip' 9 0 [(1,aH 0 0),(2,aH 0 1),(3,aH 1 9999),(4,aH 0 9999)] (ie (bS rfl (it rfl (B5f rfl) fun a=>(c9 4 44 [] [(26,ag [aH 0 3,aH 0 1])] (it rfl (F6 (es:=#[]) (es':=(B9 mt0 0).toArray) O7 (.inl rfl) rfl rfl rfl 0 rfl oki oki) fun _=>?_))))))))))
 refine znl [(a,.map (B9 mt0 0).toArray 1)] (c9 4 39 [] [(30,ag [aH 2 3,aH 0 0])] (it rfl (F6 (es:=(B9 mt0 0).toArray) (es':=(B9 mt1 0).toArray) O7 (.inl rfl) rfl rfl rfl 0 rfl oki oki) fun _=>?_))
 refine znl [(a,.map (B9 mt1 0).toArray 2)] (c9 3 35 [] [(33,ag [aH 1 9999,aH 1 9999])] (it rfl (F6 (es:=(B9 mt1 0).toArray) (es':=(B9 mt2 0).toArray) O7 (.inl rfl) rfl rfl rfl 0 rfl oki oki) fun _=>?_))
 refine znl [(a,.map (B9 mt2 0).toArray 3)] (c9 4 30 [] [(37,ag [aH 0 3,aH 1 9999])] (it rfl (F6 (es:=(B9 mt2 0).toArray) (es':=(B9 mt3 0).toArray) O7 (.inl rfl) rfl rfl rfl 0 rfl oki oki) fun _=>?_))
 refine znl [(a,.map (B9 mt3 0).toArray 4)] (c9 4 25 [] [(41,ag [aH 0 3,aH 0 0])] (it rfl (F6 (es:=(B9 mt3 0).toArray) (es':=(B9 mt4 0).toArray) O7 (.inl rfl) rfl rfl rfl 0 rfl oki oki) fun _=>?_))
 refine znl [(a,.map (B9 mt4 0).toArray 5)] (c9 4 20 [] [(45,ag [aH 0 2,aH 0 0])] (it rfl (F6 (es:=(B9 mt4 0).toArray) (es':=(B9 mt5 0).toArray) O7 (.inl rfl) rfl rfl rfl 0 rfl oki oki) fun _=>?_))
 refine znl [(a,.map (B9 mt5 0).toArray 6)] (c9 2 17 [] [(47,ag [aC 121,aH 0 0])] (it rfl (F6 (es:=(B9 mt5 0).toArray) (es':=(B9 mt6 0).toArray) O7 (.inl rfl) rfl rfl rfl 0 rfl oki oki) fun _=>?_))
 refine znl [(a,.map (B9 mt6 0).toArray 7)] (c9 3 13 [] [(50,ag [aH 0 9999,aH 0 9999])] (it rfl (F6 (es:=(B9 mt6 0).toArray) (es':=(B9 mt7 0).toArray) O7 (.inl rfl) rfl rfl rfl 0 rfl oki oki) fun _=>?_))
 refine znl [(a,.map (B9 mt7 0).toArray 8)] (c9 4 8 [] [(54,ag [aH 0 6,aH 0 0])] (it rfl (F6 (es:=(B9 mt7 0).toArray) (es':=(B9 mt8 0).toArray) O7 (.inl rfl) rfl rfl rfl 0 rfl oki oki) fun _=>?_))
 refine znl [(a,.map (B9 mt8 0).toArray 9)] (c9 4 3 [] [(58,ag [aH 5 6,aH 0 0])] (it rfl (F6 (es:=(B9 mt8 0).toArray) (es':=(B9 mt9 0).toArray) O7 (.inl rfl) rfl rfl rfl 0 rfl oki oki) fun _=>?_))
 refine znl [(a,.map _ 10)] (bP 2 5 rfl (ie (A3 (bS rfl (c9 2 0 [] [(60,ag [iv 2,iv 3,iv 4,iv 5,iv 6,iv 8,iv 9,iv 10,iv 11,iv 12,iv 13,iv 15,iv 16]),(61,iv 0)] (ie (A9 (Y9 15 ?_))))))))
 refine E7 (bS rfl (bP 1 62 rfl ?_))
 refine ie (A3 (J4 rfl (A4 (nx (A3 (A9 (bS rfl (ix rfl (E8 Tryz.underlying229 cH rfl rfl rfl 0 rfl ozw rfl rfl rfl) (bP 1 7 rfl (ie (A1 6 rfl (c9 5 1 [] [(64,.map (some a)),(65,iv 2),(68,ag [aH 0 0,aH 0 0])] (it rfl (F6 (es:=(B9 mt9 0).toArray) (es':=(B9 F1w 0).toArray) O7 (.inr rfl) rfl rfl rfl 0 rfl oki oki) fun _=>?_)))))))))))))
 refine znl [(a,.map _ 11)] (A2 (nx (A1 2 rfl (ix rfl (B3 (c:=1) rfl rfl rfl rfl ozw) (bP 1 61 rfl (A2 (E7 (bS rfl (bP 1 62 rfl (ie (A3 (J4 rfl (A4 (nx (A3 (A9 (bS rfl (ix rfl (E8 Tryz.underlying229 cH rfl rfl rfl 1 rfl ozw rfl rfl rfl) (bP 1 7 rfl (ie (A1 6 rfl (c9 5 1 [] [(64,.map (some a)),(65,iv 3),(68,ag [aH 0 0,aH 0 0])] ?_))))))))))))))))))))))
 refine it rfl (F6 (es:=(B9 F1w 0).toArray) (es':=(B9 F2n 0).toArray) O7 (.inr rfl) rfl rfl rfl 0 rfl oki oki) fun _=>?_
 refine znl [(a,.map _ 12)] (A2 (nx (A1 2 rfl (ix rfl (B3 (c:=2) rfl rfl rfl rfl ozw) (bP 1 61 rfl (A2 (E7 (bS rfl (bP 1 62 rfl (ie (A3 (J4 rfl (A4 (nx (A3 (A9 (bS rfl (ix rfl (E8 Tryz.underlying229 cH rfl rfl rfl 2 rfl ozw rfl rfl rfl) (bP 1 7 rfl (ie (A1 6 rfl (c9 5 1 [] [(64,.map (some a)),(65,iv 4),(68,ag [aH 0 0,aH 0 0])] ?_))))))))))))))))))))))
 refine it rfl (F6 (es:=(B9 F2n 0).toArray) (es':=(B9 F3r 0).toArray) O7 (.inr rfl) rfl rfl rfl 0 rfl oki oki) fun _=>?_
 refine znl [(a,.map _ 13)] (A2 (nx (A1 2 rfl (ix rfl (B3 (c:=3) rfl rfl rfl rfl ozw) (bP 1 61 rfl (A2 (E7 (bS rfl (bP 1 62 rfl (ie (A3 (J4 rfl (A4 (nx (A3 (A9 (bS rfl (ix rfl (E8 Tryz.underlying229 cH rfl rfl rfl 3 rfl ozw rfl rfl rfl) (bP 1 7 rfl (ie (A1 6 rfl (c9 5 1 [] [(64,.map (some a)),(65,iv 5),(68,ag [aH 0 0,aH 0 0])] ?_))))))))))))))))))))))
 refine it rfl (F6 (es:=(B9 F3r 0).toArray) (es':=(B9 F3n 0).toArray) O7 (.inr rfl) rfl rfl rfl 0 rfl oki oki) fun _=>?_
 refine znl [(a,.map _ 14)] (A2 (nx (A1 2 rfl (ix rfl (B3 (c:=4) rfl rfl rfl rfl ozw) (bP 1 61 rfl (A2 (E7 (bS rfl (bP 1 62 rfl (ie (A3 (J4 rfl (A4 (nx (A3 (A9 (bS rfl (ix rfl (E8 Tryz.underlying229 cH rfl rfl rfl 4 rfl ozw rfl rfl rfl) (bP 1 7 rfl (ie (A1 6 rfl (c9 5 1 [] [(64,.map (some a)),(65,iv 6),(68,ag [aH 0 0,aH 0 0])] ?_))))))))))))))))))))))
 refine it rfl (F6 (es:=(B9 F3n 0).toArray) (es':=(B9 F1r 0).toArray) O7 (.inr rfl) rfl rfl rfl 0 rfl oki oki) fun _=>?_
 refine znl [(a,.map _ 15)] (A2 (nx (A1 2 rfl (ix rfl (B3 (c:=5) rfl rfl rfl rfl ozw) (bP 1 61 rfl (A2 (E7 (bS rfl (bP 1 62 rfl (ie (A3 (J4 rfl (A4 (nx (A3 (A9 (bS rfl (ix rfl (E8 Tryz.underlying229 cH rfl rfl rfl 5 rfl ozw rfl rfl rfl) (bP 1 7 rfl (ie (A1 6 rfl (c9 5 1 [] [(64,.map (some a)),(65,iv 8),(68,ag [aH 0 0,aH 0 0])] ?_))))))))))))))))))))))
 refine it rfl (F6 (es:=(B9 F1r 0).toArray) (es':=(B9 F3a 0).toArray) O7 (.inr rfl) rfl rfl rfl 0 rfl oki oki) fun _=>?_
 refine znl [(a,.map _ 16)] (A2 (nx (A1 2 rfl (ix rfl (B3 (c:=6) rfl rfl rfl rfl ozw) (bP 1 61 rfl (A2 (E7 (bS rfl (bP 1 62 rfl (ie (A3 (J4 rfl (A4 (nx (A3 (A9 (bS rfl (ix rfl (E8 Tryz.underlying229 cH rfl rfl rfl 6 rfl ozw rfl rfl rfl) (bP 1 7 rfl (ie (A1 6 rfl (c9 5 1 [] [(64,.map (some a)),(65,iv 9),(68,ag [aH 0 0,aH 0 0])] ?_))))))))))))))))))))))
 refine it rfl (F6 (es:=(B9 F3a 0).toArray) (es':=(B9 F2g 0).toArray) O7 (.inr rfl) rfl rfl rfl 0 rfl oki oki) fun _=>?_
 refine znl [(a,.map _ 17)] (A2 (nx (A1 2 rfl (ix rfl (B3 (c:=7) rfl rfl rfl rfl ozw) (bP 1 61 rfl (A2 (E7 (bS rfl (bP 1 62 rfl (ie (A3 (J4 rfl (A4 (nx (A3 (A9 (bS rfl (ix rfl (E8 Tryz.underlying229 cH rfl rfl rfl 7 rfl ozw rfl rfl rfl) (bP 1 7 rfl (ie (A1 6 rfl (c9 5 1 [] [(64,.map (some a)),(65,iv 10),(68,ag [aH 0 0,aH 0 0])] ?_))))))))))))))))))))))
 refine it rfl (F6 (es:=(B9 F2g 0).toArray) (es':=(B9 F1o 0).toArray) O7 (.inr rfl) rfl rfl rfl 0 rfl oki oki) fun _=>?_
 refine znl [(a,.map _ 18)] (A2 (nx (A1 2 rfl (ix rfl (B3 (c:=8) rfl rfl rfl rfl ozw) (bP 1 61 rfl (A2 (E7 (bS rfl (bP 1 62 rfl (ie (A3 (J4 rfl (A4 (nx (A3 (A9 (bS rfl (ix rfl (E8 Tryz.underlying229 cH rfl rfl rfl 8 rfl ozw rfl rfl rfl) (bP 1 7 rfl (ie (A1 6 rfl (c9 5 1 [] [(64,.map (some a)),(65,iv 11),(68,ag [aH 0 0,aH 0 0])] ?_))))))))))))))))))))))
 refine it rfl (F6 (es:=(B9 F1o 0).toArray) (es':=(B9 F2q 0).toArray) O7 (.inr rfl) rfl rfl rfl 0 rfl oki oki) fun _=>?_
 refine znl [(a,.map _ 19)] (A2 (nx (A1 2 rfl (ix rfl (B3 (c:=9) rfl rfl rfl rfl ozw) (bP 1 61 rfl (A2 (E7 (bS rfl (bP 1 62 rfl (ie (A3 (J4 rfl (A4 (nx (A3 (A9 (bS rfl (ix rfl (E8 Tryz.underlying229 cH rfl rfl rfl 9 rfl ozw rfl rfl rfl) (bP 1 7 rfl (ie (A1 6 rfl (c9 5 1 [] [(64,.map (some a)),(65,iv 12),(68,ag [aH 0 0,aH 0 0])] ?_))))))))))))))))))))))
 refine it rfl (F6 (es:=(B9 F2q 0).toArray) (es':=(B9 F3t 0).toArray) O7 (.inr rfl) rfl rfl rfl 0 rfl oki oki) fun _=>?_
 refine znl [(a,.map _ 20)] (A2 (nx (A1 2 rfl (ix rfl (B3 (c:=10) rfl rfl rfl rfl ozw) (bP 1 61 rfl (A2 (E7 (bS rfl (bP 1 62 rfl (ie (A3 (J4 rfl (A4 (nx (A3 (A9 (bS rfl (ix rfl (E8 Tryz.underlying229 cH rfl rfl rfl _ rfl ozw rfl rfl rfl) (bP 1 7 rfl (ie (A1 6 rfl (c9 5 1 [] [(64,.map (some a)),(65,iv 13),(68,ag [aH 0 0,aH 0 0])] ?_))))))))))))))))))))))
 refine it rfl (F6 (es:=(B9 F3t 0).toArray) (es':=(B9 F2r 0).toArray) O7 (.inr rfl) rfl rfl rfl 0 rfl oki oki) fun _=>?_
 refine znl [(a,.map _ 21)] (A2 (nx (A1 2 rfl (ix rfl (B3 (c:=11) rfl rfl rfl rfl ozw) (bP 1 61 rfl (A2 (E7 (bS rfl (bP 1 62 rfl (ie (A3 (J4 rfl (A4 (nx (A3 (A9 (bS rfl (ix rfl (E8 Tryz.underlying229 cH rfl rfl rfl _ rfl ozw rfl rfl rfl) (bP 1 7 rfl (ie (A1 6 rfl (c9 5 1 [] [(64,.map (some a)),(65,iv 15),(68,ag [aH 0 0,aH 0 0])] ?_))))))))))))))))))))))
 refine it rfl (F6 (es:=(B9 F2r 0).toArray) (es':=(B9 F3e 0).toArray) O7 (.inr rfl) rfl rfl rfl 0 rfl oki oki) fun _=>?_
 refine znl [(a,.map _ 22)] (A2 (nx (A1 2 rfl (ix rfl (B3 (c:=12) rfl rfl rfl rfl ozw) (bP 1 61 rfl (A2 (E7 (bS rfl (bP 1 62 rfl (ie (A3 (J4 rfl (A4 (nx (A3 (A9 (bS rfl (ix rfl (E8 Tryz.underlying229 cH rfl rfl rfl _ rfl ozw rfl rfl rfl) (bP 1 7 rfl (ie (A1 6 rfl (c9 5 1 [] [(64,.map (some a)),(65,iv 16),(68,ag [aH 0 0,aH 0 0])] ?_))))))))))))))))))))))
 refine it rfl (F6 (es:=(B9 F3e 0).toArray) (es':=(B9 F3q 0).toArray) O7 (.inr rfl) rfl rfl rfl 0 rfl oki oki) fun _=>?_
 refine znl [(a,.map _ 23)] (A2 (nx (A1 2 rfl (ix rfl (B3 (c:=13) rfl rfl rfl rfl ozw) (bP 1 61 rfl (A2 (E7 (bS rfl (bP 1 62 rfl (ie (A3 (A4r rfl (F4 (nx (A3 (bS rfl (c9 2 0 [] [(70,ag (D0k ⟨7,14,42⟩)),(71,iv 0)] (ie (A9 (Y9 5 ?_))))))))))))))))))))
 refine E7 (bS rfl (bP 1 72 rfl ?_))
 refine ie (A3 (J4 rfl (A4 (nx (A3 (A9 (bS rfl (ix rfl (E8 Tryz.underlying230 cH rfl rfl rfl 0 rfl ozw rfl rfl rfl) (bP 1 9 rfl (ie (A1 6 rfl (c9 5 1 [] [(74,.map (some a)),(75,iv 7),(78,ag [aH 0 1,aH 0 0])] (it rfl (F6 (es:=(B9 F3q 0).toArray) (es':=(B9 F2m 0).toArray) O7 (.inr rfl) rfl rfl rfl 0 rfl oki oki) fun _=>?_)))))))))))))
 refine znl [(a,.map _ 24)] (A2 (nx (A1 2 rfl (ix rfl (B3 (c:=1) rfl rfl rfl rfl ozw) (bP 1 71 rfl (A2 (E7 (bS rfl (bP 1 72 rfl (ie (A3 (J4 rfl (A4 (nx (A3 (A9 (bS rfl (ix rfl (E8 Tryz.underlying230 cH rfl rfl rfl 1 rfl ozw rfl rfl rfl) (bP 1 9 rfl (ie (A1 6 rfl (c9 5 1 [] [(74,.map (some a)),(75,iv 14),(78,ag [aH 0 1,aH 0 0])] ?_))))))))))))))))))))))
 refine it rfl (F6 (es:=(B9 F2m 0).toArray) (es':=(B9 F3c 0).toArray) O7 (.inr rfl) rfl rfl rfl 0 rfl oki oki) fun _=>?_
 refine znl [(a,.map _ 25)] (A2 (nx (A1 2 rfl (ix rfl (B3 (c:=2) rfl rfl rfl rfl ozw) (bP 1 71 rfl (A2 (E7 (bS rfl (bP 1 72 rfl (ie (A3 (J4 rfl (A4 (nx (A3 (A9 (bS rfl (ix rfl (E8 Tryz.underlying230 cH rfl rfl rfl 2 rfl ozw rfl rfl rfl) (bP 1 9 rfl (ie (A1 6 rfl (c9 5 1 [] [(74,.map (some a)),(75,iv 42),(78,ag [aH 0 1,aH 0 0])] ?_))))))))))))))))))))))
 refine it rfl (F6 (es:=(B9 F3c 0).toArray) (es':=(B9 F1p 0).toArray) O7 (.inr rfl) rfl rfl rfl 0 rfl oki oki) fun _=>?_
 refine znl [(a,.map _ 26)] (A2 (nx (A1 2 rfl (ix rfl (B3 (c:=3) rfl rfl rfl rfl ozw) (bP 1 71 rfl (A2 (E7 (bS rfl (bP 1 72 rfl (ie (A3 (A4r rfl (F4 (nx (A3 (bS rfl (c9 2 0 [] [(80,ag (A0r ⟨21,33⟩)),(81,iv 0)] (ie (A9 (Y9 4 ?_))))))))))))))))))))
 refine E7 (bS rfl (bP 1 82 rfl ?_))
 refine ie (A3 (J4 rfl (A4 (nx (A3 (A9 (bS rfl (ix rfl (E8 Tryz.underlying71 cH rfl rfl rfl 0 rfl ozw rfl rfl rfl) (bP 1 11 rfl (ie (A1 6 rfl (c9 5 1 [] [(84,.map (some a)),(85,iv 21),(88,ag [aH 0 1,aH 1 9999])] (it rfl (F6 (es:=(B9 F1p 0).toArray) (es':=(B9 F2y 0).toArray) O7 (.inr rfl) rfl rfl rfl 0 rfl oki oki) fun _=>?_)))))))))))))
 refine znl [(a,.map _ 27)] (A2 (nx (A1 2 rfl (ix rfl (B3 (c:=1) rfl rfl rfl rfl ozw) (bP 1 81 rfl (A2 (E7 (bS rfl (bP 1 82 rfl (ie (A3 (J4 rfl (A4 (nx (A3 (A9 (bS rfl (ix rfl (E8 Tryz.underlying71 cH rfl rfl rfl 1 rfl ozw rfl rfl rfl) (bP 1 11 rfl (ie (A1 6 rfl (c9 5 1 [] [(84,.map (some a)),(85,iv 33),(88,ag [aH 0 1,aH 1 9999])] ?_))))))))))))))))))))))
 refine it rfl (F6 (es:=(B9 F2y 0).toArray) (es':=(B9 F2j 0).toArray) O7 (.inr rfl) rfl rfl rfl 0 rfl oki oki) fun _=>?_
 refine znl [(a,.map _ 28)] (A2 (nx (A1 2 rfl (ix rfl (B3 (c:=2) rfl rfl rfl rfl ozw) (bP 1 81 rfl (A2 (E7 (bS rfl (bP 1 82 rfl (ie (A3 (A4r rfl (F4 (nx (A3 (bS rfl (c9 2 0 [] [(90,ag [iv 22,iv 23,iv 24,iv 25,iv 28,iv 29,iv 30,iv 31,iv 32,iv 34]),(91,iv 0)] (ie (A9 (Y9 12 ?_))))))))))))))))))))
 refine E7 (bS rfl (bP 1 92 rfl ?_))
 refine ie (A3 (J4 rfl (A4 (nx (A3 (A9 (bS rfl (ix rfl (E8 Tryz.underlying231 cH rfl rfl rfl 0 rfl ozw rfl rfl rfl) (bP 1 13 rfl (ie (A1 6 rfl (c9 5 1 [] [(94,.map (some a)),(95,iv 22),(98,ag [aH 1 9999,aH 0 0])] (it rfl (F6 (es:=(B9 F2j 0).toArray) (es':=(B9 F1x 0).toArray) O7 (.inr rfl) rfl rfl rfl 0 rfl oki oki) fun _=>?_)))))))))))))
 refine znl [(a,.map _ 29)] (A2 (nx (A1 2 rfl (ix rfl (B3 (c:=1) rfl rfl rfl rfl ozw) (bP 1 91 rfl (A2 (E7 (bS rfl (bP 1 92 rfl (ie (A3 (J4 rfl (A4 (nx (A3 (A9 (bS rfl (ix rfl (E8 Tryz.underlying231 cH rfl rfl rfl 1 rfl ozw rfl rfl rfl) (bP 1 13 rfl (ie (A1 6 rfl (c9 5 1 [] [(94,.map (some a)),(95,iv 23),(98,ag [aH 1 9999,aH 0 0])] ?_))))))))))))))))))))))
 refine it rfl (F6 (es:=(B9 F1x 0).toArray) (es':=(B9 F3b 0).toArray) O7 (.inr rfl) rfl rfl rfl 0 rfl oki oki) fun _=>?_
 refine znl [(a,.map _ 30)] (A2 (nx (A1 2 rfl (ix rfl (B3 (c:=2) rfl rfl rfl rfl ozw) (bP 1 91 rfl (A2 (E7 (bS rfl (bP 1 92 rfl (ie (A3 (J4 rfl (A4 (nx (A3 (A9 (bS rfl (ix rfl (E8 Tryz.underlying231 cH rfl rfl rfl 2 rfl ozw rfl rfl rfl) (bP 1 13 rfl (ie (A1 6 rfl (c9 5 1 [] [(94,.map (some a)),(95,iv 24),(98,ag [aH 1 9999,aH 0 0])] ?_))))))))))))))))))))))
 refine it rfl (F6 (es:=(B9 F3b 0).toArray) (es':=(B9 F3u 0).toArray) O7 (.inr rfl) rfl rfl rfl 0 rfl oki oki) fun _=>?_
 refine znl [(a,.map _ 31)] (A2 (nx (A1 2 rfl (ix rfl (B3 (c:=3) rfl rfl rfl rfl ozw) (bP 1 91 rfl (A2 (E7 (bS rfl (bP 1 92 rfl (ie (A3 (J4 rfl (A4 (nx (A3 (A9 (bS rfl (ix rfl (E8 Tryz.underlying231 cH rfl rfl rfl 3 rfl ozw rfl rfl rfl) (bP 1 13 rfl (ie (A1 6 rfl (c9 5 1 [] [(94,.map (some a)),(95,iv 25),(98,ag [aH 1 9999,aH 0 0])] ?_))))))))))))))))))))))
 refine it rfl (F6 (es:=(B9 F3u 0).toArray) (es':=(B9 F3g 0).toArray) O7 (.inr rfl) rfl rfl rfl 0 rfl oki oki) fun _=>?_
 refine znl [(a,.map _ 32)] (A2 (nx (A1 2 rfl (ix rfl (B3 (c:=4) rfl rfl rfl rfl ozw) (bP 1 91 rfl (A2 (E7 (bS rfl (bP 1 92 rfl (ie (A3 (J4 rfl (A4 (nx (A3 (A9 (bS rfl (ix rfl (E8 Tryz.underlying231 cH rfl rfl rfl 4 rfl ozw rfl rfl rfl) (bP 1 13 rfl (ie (A1 6 rfl (c9 5 1 [] [(94,.map (some a)),(95,iv 28),(98,ag [aH 1 9999,aH 0 0])] ?_))))))))))))))))))))))
 refine it rfl (F6 (es:=(B9 F3g 0).toArray) (es':=(B9 F1t 0).toArray) O7 (.inr rfl) rfl rfl rfl 0 rfl oki oki) fun _=>?_
 refine znl [(a,.map _ 33)] (A2 (nx (A1 2 rfl (ix rfl (B3 (c:=5) rfl rfl rfl rfl ozw) (bP 1 91 rfl (A2 (E7 (bS rfl (bP 1 92 rfl (ie (A3 (J4 rfl (A4 (nx (A3 (A9 (bS rfl (ix rfl (E8 Tryz.underlying231 cH rfl rfl rfl 5 rfl ozw rfl rfl rfl) (bP 1 13 rfl (ie (A1 6 rfl (c9 5 1 [] [(94,.map (some a)),(95,iv 29),(98,ag [aH 1 9999,aH 0 0])] ?_))))))))))))))))))))))
 refine it rfl (F6 (es:=(B9 F1t 0).toArray) (es':=(B9 F2f 0).toArray) O7 (.inr rfl) rfl rfl rfl 0 rfl oki oki) fun _=>?_
 refine znl [(a,.map _ 34)] (A2 (nx (A1 2 rfl (ix rfl (B3 (c:=6) rfl rfl rfl rfl ozw) (bP 1 91 rfl (A2 (E7 (bS rfl (bP 1 92 rfl (ie (A3 (J4 rfl (A4 (nx (A3 (A9 (bS rfl (ix rfl (E8 Tryz.underlying231 cH rfl rfl rfl 6 rfl ozw rfl rfl rfl) (bP 1 13 rfl (ie (A1 6 rfl (c9 5 1 [] [(94,.map (some a)),(95,iv 30),(98,ag [aH 1 9999,aH 0 0])] ?_))))))))))))))))))))))
 refine it rfl (F6 (es:=(B9 F2f 0).toArray) (es':=(B9 F3j 0).toArray) O7 (.inr rfl) rfl rfl rfl 0 rfl oki oki) fun _=>?_
 refine znl [(a,.map _ 35)] (A2 (nx (A1 2 rfl (ix rfl (B3 (c:=7) rfl rfl rfl rfl ozw) (bP 1 91 rfl (A2 (E7 (bS rfl (bP 1 92 rfl (ie (A3 (J4 rfl (A4 (nx (A3 (A9 (bS rfl (ix rfl (E8 Tryz.underlying231 cH rfl rfl rfl 7 rfl ozw rfl rfl rfl) (bP 1 13 rfl (ie (A1 6 rfl (c9 5 1 [] [(94,.map (some a)),(95,iv 31),(98,ag [aH 1 9999,aH 0 0])] ?_))))))))))))))))))))))
 refine it rfl (F6 (es:=(B9 F3j 0).toArray) (es':=(B9 F2u 0).toArray) O7 (.inr rfl) rfl rfl rfl 0 rfl oki oki) fun _=>?_
 refine znl [(a,.map _ 36)] (A2 (nx (A1 2 rfl (ix rfl (B3 (c:=8) rfl rfl rfl rfl ozw) (bP 1 91 rfl (A2 (E7 (bS rfl (bP 1 92 rfl (ie (A3 (J4 rfl (A4 (nx (A3 (A9 (bS rfl (ix rfl (E8 Tryz.underlying231 cH rfl rfl rfl 8 rfl ozw rfl rfl rfl) (bP 1 13 rfl (ie (A1 6 rfl (c9 5 1 [] [(94,.map (some a)),(95,iv 32),(98,ag [aH 1 9999,aH 0 0])] ?_))))))))))))))))))))))
 refine it rfl (F6 (es:=(B9 F2u 0).toArray) (es':=(B9 F2h 0).toArray) O7 (.inr rfl) rfl rfl rfl 0 rfl oki oki) fun _=>?_
 refine znl [(a,.map _ 37)] (A2 (nx (A1 2 rfl (ix rfl (B3 (c:=9) rfl rfl rfl rfl ozw) (bP 1 91 rfl (A2 (E7 (bS rfl (bP 1 92 rfl (ie (A3 (J4 rfl (A4 (nx (A3 (A9 (bS rfl (ix rfl (E8 Tryz.underlying231 cH rfl rfl rfl 9 rfl ozw rfl rfl rfl) (bP 1 13 rfl (ie (A1 6 rfl (c9 5 1 [] [(94,.map (some a)),(95,iv 34),(98,ag [aH 1 9999,aH 0 0])] ?_))))))))))))))))))))))
 refine it rfl (F6 (es:=(B9 F2h 0).toArray) (es':=(B9 F1q 0).toArray) O7 (.inr rfl) rfl rfl rfl 0 rfl oki oki) fun _=>?_
 refine znl [(a,.map _ 38)] (A2 (nx (A1 2 rfl (ix rfl (B3 (c:=10) rfl rfl rfl rfl ozw) (bP 1 91 rfl (A2 (E7 (bS rfl (bP 1 92 rfl (ie (A3 (A4r rfl (F4 (nx (A3 (bS rfl (c9 2 0 [] [(100,ag (D0k ⟨36,37,43⟩)),(101,iv 0)] (ie (A9 (Y9 5 ?_))))))))))))))))))))
 refine E7 (bS rfl (bP 1 102 rfl ?_))
 refine ie (A3 (J4 rfl (A4 (nx (A3 (A9 (bS rfl (ix rfl (E8 Tryz.underlying230 cH rfl rfl rfl 0 rfl ozw rfl rfl rfl) (bP 1 15 rfl (ie (A1 6 rfl (c9 5 1 [] [(104,.map (some a)),(105,iv 36),(108,ag [aH 0 9999,aH 0 1])] (it rfl (F6 (es:=(B9 F1q 0).toArray) (es':=(B9 F3h 0).toArray) O7 (.inr rfl) rfl rfl rfl 0 rfl oki oki) fun _=>?_)))))))))))))
 refine znl [(a,.map _ 39)] (A2 (nx (A1 2 rfl (ix rfl (B3 (c:=1) rfl rfl rfl rfl ozw) (bP 1 101 rfl (A2 (E7 (bS rfl (bP 1 102 rfl (ie (A3 (J4 rfl (A4 (nx (A3 (A9 (bS rfl (ix rfl (E8 Tryz.underlying230 cH rfl rfl rfl 1 rfl ozw rfl rfl rfl) (bP 1 15 rfl (ie (A1 6 rfl (c9 5 1 [] [(104,.map (some a)),(105,iv 37),(108,ag [aH 0 9999,aH 0 1])] ?_))))))))))))))))))))))
 refine it rfl (F6 (es:=(B9 F3h 0).toArray) (es':=(B9 F2k 0).toArray) O7 (.inr rfl) rfl rfl rfl 0 rfl oki oki) fun _=>?_
 refine znl [(a,.map _ 40)] (A2 (nx (A1 2 rfl (ix rfl (B3 (c:=2) rfl rfl rfl rfl ozw) (bP 1 101 rfl (A2 (E7 (bS rfl (bP 1 102 rfl (ie (A3 (J4 rfl (A4 (nx (A3 (A9 (bS rfl (ix rfl (E8 Tryz.underlying230 cH rfl rfl rfl 2 rfl ozw rfl rfl rfl) (bP 1 15 rfl (ie (A1 6 rfl (c9 5 1 [] [(104,.map (some a)),(105,iv 43),(108,ag [aH 0 9999,aH 0 1])] ?_))))))))))))))))))))))
 refine it rfl (F6 (es:=(B9 F2k 0).toArray) (es':=(B9 F2o 0).toArray) O7 (.inr rfl) rfl rfl rfl 0 rfl oki oki) fun _=>?_
 refine znl [(a,.map _ 41)] (A2 (nx (A1 2 rfl (ix rfl (B3 (c:=3) rfl rfl rfl rfl ozw) (bP 1 101 rfl (A2 (E7 (bS rfl (bP 1 102 rfl (ie (A3 (A4r rfl (F4 (nx (bS rfl (bP 2 0 rfl ?_))))))))))))))))
 subst hR
 refine ie (A8 ?_)
 exact cD hr hD (K7 rfl (A6 rfl)) a bU bX
def D4h:List (Int×Value):=[(17,ag [aH 0 3,aH 0 1]),(18,ag [aH 2 3,aH 0 0]),(19,ag [aH 1 9999,aH 1 9999]),(20,ag [aH 0 3,aH 1 9999]),(26,ag [aH 0 3,aH 0 0]),(27,ag [aH 0 2,aH 0 0]),(35,ag [aC 121,aH 0 0]),(38,ag [aH 0 9999,aH 0 9999]),(40,ag [aH 0 6,aH 0 0]),(41,ag [aH 5 6,aH 0 0]),(2,ag [aH 0 0,aH 0 0]),(3,ag [aH 0 0,aH 0 0]),(4,ag [aH 0 0,aH 0 0]),(5,ag [aH 0 0,aH 0 0]),(6,ag [aH 0 0,aH 0 0]),(8,ag [aH 0 0,aH 0 0]),(9,ag [aH 0 0,aH 0 0]),(10,ag [aH 0 0,aH 0 0]),(11,ag [aH 0 0,aH 0 0]),(12,ag [aH 0 0,aH 0 0]),(13,ag [aH 0 0,aH 0 0]),(15,ag [aH 0 0,aH 0 0]),(16,ag [aH 0 0,aH 0 0]),(7,ag [aH 0 1,aH 0 0]),(14,ag [aH 0 1,aH 0 0]),(42,ag [aH 0 1,aH 0 0]),(21,ag [aH 0 1,aH 1 9999]),(33,ag [aH 0 1,aH 1 9999]),(22,ag [aH 1 9999,aH 0 0]),(23,ag [aH 1 9999,aH 0 0]),(24,ag [aH 1 9999,aH 0 0]),(25,ag [aH 1 9999,aH 0 0]),(28,ag [aH 1 9999,aH 0 0]),(29,ag [aH 1 9999,aH 0 0]),(30,ag [aH 1 9999,aH 0 0]),(31,ag [aH 1 9999,aH 0 0]),(32,ag [aH 1 9999,aH 0 0]),(34,ag [aH 1 9999,aH 0 0]),(36,ag [aH 0 9999,aH 0 1]),(37,ag [aH 0 9999,aH 0 1]),(43,ag [aH 0 9999,aH 0 1])]
def R6:List (Int×Value):=[(17,aH 0 3),(18,aH 2 3),(19,aH 1 9999),(20,aH 0 3),(26,aH 0 3),(27,aH 0 2),(35,aC 121),(38,aH 0 9999),(40,aH 0 6),(41,aH 5 6),(2,aH 0 0),(3,aH 0 0),(4,aH 0 0),(5,aH 0 0),(6,aH 0 0),(8,aH 0 0),(9,aH 0 0),(10,aH 0 0),(11,aH 0 0),(12,aH 0 0),(13,aH 0 0),(15,aH 0 0),(16,aH 0 0),(7,aH 0 1),(14,aH 0 1),(42,aH 0 1),(21,aH 0 1),(33,aH 0 1),(22,aH 1 9999),(23,aH 1 9999),(24,aH 1 9999),(25,aH 1 9999),(28,aH 1 9999),(29,aH 1 9999),(30,aH 1 9999),(31,aH 1 9999),(32,aH 1 9999),(34,aH 1 9999),(36,aH 0 9999),(37,aH 0 9999),(43,aH 0 9999)]
def A3m:List (Int×Value):=[(17,aH 0 1),(18,aH 0 0),(19,aH 1 9999),(20,aH 1 9999),(26,aH 0 0),(27,aH 0 0),(35,aH 0 0),(38,aH 0 9999),(40,aH 0 0),(41,aH 0 0),(2,aH 0 0),(3,aH 0 0),(4,aH 0 0),(5,aH 0 0),(6,aH 0 0),(8,aH 0 0),(9,aH 0 0),(10,aH 0 0),(11,aH 0 0),(12,aH 0 0),(13,aH 0 0),(15,aH 0 0),(16,aH 0 0),(7,aH 0 0),(14,aH 0 0),(42,aH 0 0),(21,aH 1 9999),(33,aH 1 9999),(22,aH 0 0),(23,aH 0 0),(24,aH 0 0),(25,aH 0 0),(28,aH 0 0),(29,aH 0 0),(30,aH 0 0),(31,aH 0 0),(32,aH 0 0),(34,aH 0 0),(36,aH 0 1),(37,aH 0 1),(43,aH 0 1)]
theorem E7l (k:Int):lkV k (.agg #[.nilFunc,.nilFunc]) D4h=.agg #[lkV k .nilFunc R6,lkV k .nilFunc A3m]:=by
 refine (E3p (fun a b=>.agg #[a,b]) k (.nilFunc) (.nilFunc) [((17:Int),(aH 0 3:Value),(aH 0 1:Value)),((18:Int),(aH 2 3:Value),(aH 0 0:Value)),((19:Int),(aH 1 9999:Value),(aH 1 9999:Value)),((20:Int),(aH 0 3:Value),(aH 1 9999:Value)),((26:Int),(aH 0 3:Value),(aH 0 0:Value)),((27:Int),(aH 0 2:Value),(aH 0 0:Value)),((35:Int),(aC 121:Value),(aH 0 0:Value)),((38:Int),(aH 0 9999:Value),(aH 0 9999:Value)),((40:Int),(aH 0 6:Value),(aH 0 0:Value)),((41:Int),(aH 5 6:Value),(aH 0 0:Value)),((2:Int),(aH 0 0:Value),(aH 0 0:Value)),((3:Int),(aH 0 0:Value),(aH 0 0:Value)),((4:Int),(aH 0 0:Value),(aH 0 0:Value)),((5:Int),(aH 0 0:Value),(aH 0 0:Value)),((6:Int),(aH 0 0:Value),(aH 0 0:Value)),((8:Int),(aH 0 0:Value),(aH 0 0:Value)),((9:Int),(aH 0 0:Value),(aH 0 0:Value)),((10:Int),(aH 0 0:Value),(aH 0 0:Value)),((11:Int),(aH 0 0:Value),(aH 0 0:Value)),((12:Int),(aH 0 0:Value),(aH 0 0:Value)),((13:Int),(aH 0 0:Value),(aH 0 0:Value)),((15:Int),(aH 0 0:Value),(aH 0 0:Value)),((16:Int),(aH 0 0:Value),(aH 0 0:Value)),((7:Int),(aH 0 1:Value),(aH 0 0:Value)),((14:Int),(aH 0 1:Value),(aH 0 0:Value)),((42:Int),(aH 0 1:Value),(aH 0 0:Value)),((21:Int),(aH 0 1:Value),(aH 1 9999:Value)),((33:Int),(aH 0 1:Value),(aH 1 9999:Value)),((22:Int),(aH 1 9999:Value),(aH 0 0:Value)),((23:Int),(aH 1 9999:Value),(aH 0 0:Value)),((24:Int),(aH 1 9999:Value),(aH 0 0:Value)),((25:Int),(aH 1 9999:Value),(aH 0 0:Value)),((28:Int),(aH 1 9999:Value),(aH 0 0:Value)),((29:Int),(aH 1 9999:Value),(aH 0 0:Value)),((30:Int),(aH 1 9999:Value),(aH 0 0:Value)),((31:Int),(aH 1 9999:Value),(aH 0 0:Value)),((32:Int),(aH 1 9999:Value),(aH 0 0:Value)),((34:Int),(aH 1 9999:Value),(aH 0 0:Value)),((36:Int),(aH 0 9999:Value),(aH 0 1:Value)),((37:Int),(aH 0 9999:Value),(aH 0 1:Value)),((43:Int),(aH 0 9999:Value),(aH 0 1:Value))]).trans ?_
 rfl
theorem C2n (k:Int):Value.tuple #[lkV k (.agg #[.nilFunc,.nilFunc]) D4h,.bool (A1r k D4h)]=Value.tuple #[.agg #[lkV k .nilFunc R6,lkV k .nilFunc A3m],.bool (A1r k R6)]:=by rw [E7l];rfl
def B2 (s:Spn) (n:Int):Bool :=
 ((decide (s.lo≤n))&&(decide (n≤s.hi)))
theorem B0 {s:Spn} {n:Int} {R:Bool} (hR:B2 s n=R):J5 Tryz.prog 120 [ag (C0 s),iv n] [] (bv R):=by
 refine cC Tryz.func120 fun X hX hr hD=>?_
 replace hR:=(B2.eq_1 ..).symm.trans hR
 refine bS rfl (zra 2 [] (fun a=>[(2,pt a 0)]) (fun _=>(C0 s)) 228 fun a=>(ie (bS rfl (cF 5 [0] 9 rfl ?_))))
 refine zid 5 1 9 14 (decide (n≤s.hi)) (fun b c=>?_) ?_
 ·refine cF 5 [0] 14 rfl ?_
  exact A2 (J0 2 9 _ b bX bU rfl rfl rfl rfl rfl)
 refine bP 1 4 rfl ?_
 subst hR
 refine ie (A8 ?_)
 exact F7 hr hD
def A7h (n:Int):Bool :=
 ((decide (n=0))||(decide (n=3)))
theorem C1r {n:Int} {R:Bool} (hR:A7h n=R):J5 Tryz.prog 121 [iv n] [] (bv R):=by
 refine cC Tryz.func121 fun X hX hr hD=>?_
 replace hR:=(A7h.eq_1 ..).symm.trans hR
 refine bS rfl (pp0 1 rfl (ie (bS rfl (bP 3 5 rfl ?_))))
 refine zir 3 1 5 8 (decide (n=3)) (fun b a=>?_) ?_
 ·refine bP 3 8 rfl ?_
  exact A2 (J0 2 5 8 b bX bU rfl rfl rfl rfl rfl)
 refine bP 1 2 rfl ?_
 subst hR
 refine ie (A8 ?_)
 exact F7 hr hD
def A8w (k:Int) (a:Int):Bool :=
 (bif (decide (k=17)) then (B2 (⟨0,3⟩:Spn) a) else (bif (decide (k=18)) then (B2 (⟨2,3⟩:Spn) a) else (bif (decide (k=19)) then (B2 (⟨1,9999⟩:Spn) a) else (bif (decide (k=20)) then (B2 (⟨0,3⟩:Spn) a) else (bif (decide (k=26)) then (B2 (⟨0,3⟩:Spn) a) else (bif (decide (k=27)) then (B2 (⟨0,2⟩:Spn) a) else (bif (decide (k=35)) then (A7h a) else (bif (decide (k=38)) then (B2 (⟨0,9999⟩:Spn) a) else (bif (decide (k=40)) then (B2 (⟨0,6⟩:Spn) a) else (bif (decide (k=41)) then (B2 (⟨5,6⟩:Spn) a) else (bif (decide (k=2)) then (B2 (⟨0,0⟩:Spn) a) else (bif (decide (k=3)) then (B2 (⟨0,0⟩:Spn) a) else (bif (decide (k=4)) then (B2 (⟨0,0⟩:Spn) a) else (bif (decide (k=5)) then (B2 (⟨0,0⟩:Spn) a) else (bif (decide (k=6)) then (B2 (⟨0,0⟩:Spn) a) else (bif (decide (k=8)) then (B2 (⟨0,0⟩:Spn) a) else (bif (decide (k=9)) then (B2 (⟨0,0⟩:Spn) a) else (bif (decide (k=10)) then (B2 (⟨0,0⟩:Spn) a) else (bif (decide (k=11)) then (B2 (⟨0,0⟩:Spn) a) else (bif (decide (k=12)) then (B2 (⟨0,0⟩:Spn) a) else (bif (decide (k=13)) then (B2 (⟨0,0⟩:Spn) a) else (bif (decide (k=15)) then (B2 (⟨0,0⟩:Spn) a) else (bif (decide (k=16)) then (B2 (⟨0,0⟩:Spn) a) else (bif (decide (k=7)) then (B2 (⟨0,1⟩:Spn) a) else (bif (decide (k=14)) then (B2 (⟨0,1⟩:Spn) a) else (bif (decide (k=42)) then (B2 (⟨0,1⟩:Spn) a) else (bif (decide (k=21)) then (B2 (⟨0,1⟩:Spn) a) else (bif (decide (k=33)) then (B2 (⟨0,1⟩:Spn) a) else (bif (decide (k=22)) then (B2 (⟨1,9999⟩:Spn) a) else (bif (decide (k=23)) then (B2 (⟨1,9999⟩:Spn) a) else (bif (decide (k=24)) then (B2 (⟨1,9999⟩:Spn) a) else (bif (decide (k=25)) then (B2 (⟨1,9999⟩:Spn) a) else (bif (decide (k=28)) then (B2 (⟨1,9999⟩:Spn) a) else (bif (decide (k=29)) then (B2 (⟨1,9999⟩:Spn) a) else (bif (decide (k=30)) then (B2 (⟨1,9999⟩:Spn) a) else (bif (decide (k=31)) then (B2 (⟨1,9999⟩:Spn) a) else (bif (decide (k=32)) then (B2 (⟨1,9999⟩:Spn) a) else (bif (decide (k=34)) then (B2 (⟨1,9999⟩:Spn) a) else (bif (decide (k=36)) then (B2 (⟨0,9999⟩:Spn) a) else (bif (decide (k=37)) then (B2 (⟨0,9999⟩:Spn) a) else (bif (decide (k=43)) then (B2 (⟨0,9999⟩:Spn) a) else false)))))))))))))))))))))))))))))))))))))))))
theorem B9r (k:Int) (b:Int) (a:A1r k R6=true) (R:Bool) (hR:A8w k b=R):D4 Tryz.prog (lkV k .nilFunc R6) [iv b] [] (bv R):=by
 subst hR
 unfold A8w
 unfold R6 at *
 refine D4.cons _ a (fun e=>?_) (fun a e=>?_)
 ·exact D4.of (B0 rfl) rfl bX
 refine D4.cons _ a (fun e=>?_) (fun a e=>?_)
 ·exact D4.of (B0 rfl) rfl bX
 refine D4.cons _ a (fun e=>?_) (fun a e=>?_)
 ·exact D4.of (B0 rfl) rfl bX
 refine D4.cons _ a (fun e=>?_) (fun a e=>?_)
 ·exact D4.of (B0 rfl) rfl bX
 refine D4.cons _ a (fun e=>?_) (fun a e=>?_)
 ·exact D4.of (B0 rfl) rfl bX
 refine D4.cons _ a (fun e=>?_) (fun a e=>?_)
 ·exact D4.of (B0 rfl) rfl bX
 refine D4.cons _ a (fun e=>?_) (fun a e=>?_)
 ·exact D4.of (C1r rfl) rfl bX
 refine D4.cons _ a (fun e=>?_) (fun a e=>?_)
 ·exact D4.of (B0 rfl) rfl bX
 refine D4.cons _ a (fun e=>?_) (fun a e=>?_)
 ·exact D4.of (B0 rfl) rfl bX
 refine D4.cons _ a (fun e=>?_) (fun a e=>?_)
 ·exact D4.of (B0 rfl) rfl bX
 refine D4.cons _ a (fun e=>?_) (fun a e=>?_)
 ·exact D4.of (B0 rfl) rfl bX
 refine D4.cons _ a (fun e=>?_) (fun a e=>?_)
 ·exact D4.of (B0 rfl) rfl bX
 refine D4.cons _ a (fun e=>?_) (fun a e=>?_)
 ·exact D4.of (B0 rfl) rfl bX
 refine D4.cons _ a (fun e=>?_) (fun a e=>?_)
 ·exact D4.of (B0 rfl) rfl bX
 refine D4.cons _ a (fun e=>?_) (fun a e=>?_)
 ·exact D4.of (B0 rfl) rfl bX
 refine D4.cons _ a (fun e=>?_) (fun a e=>?_)
 ·exact D4.of (B0 rfl) rfl bX
 refine D4.cons _ a (fun e=>?_) (fun a e=>?_)
 ·exact D4.of (B0 rfl) rfl bX
 refine D4.cons _ a (fun e=>?_) (fun a e=>?_)
 ·exact D4.of (B0 rfl) rfl bX
 refine D4.cons _ a (fun e=>?_) (fun a e=>?_)
 ·exact D4.of (B0 rfl) rfl bX
 refine D4.cons _ a (fun e=>?_) (fun a e=>?_)
 ·exact D4.of (B0 rfl) rfl bX
 refine D4.cons _ a (fun e=>?_) (fun a e=>?_)
 ·exact D4.of (B0 rfl) rfl bX
 refine D4.cons _ a (fun e=>?_) (fun a e=>?_)
 ·exact D4.of (B0 rfl) rfl bX
 refine D4.cons _ a (fun e=>?_) (fun a e=>?_)
 ·exact D4.of (B0 rfl) rfl bX
 refine D4.cons _ a (fun e=>?_) (fun a e=>?_)
 ·exact D4.of (B0 rfl) rfl bX
 refine D4.cons _ a (fun e=>?_) (fun a e=>?_)
 ·exact D4.of (B0 rfl) rfl bX
 refine D4.cons _ a (fun e=>?_) (fun a e=>?_)
 ·exact D4.of (B0 rfl) rfl bX
 refine D4.cons _ a (fun e=>?_) (fun a e=>?_)
 ·exact D4.of (B0 rfl) rfl bX
 refine D4.cons _ a (fun e=>?_) (fun a e=>?_)
 ·exact D4.of (B0 rfl) rfl bX
 refine D4.cons _ a (fun e=>?_) (fun a e=>?_)
 ·exact D4.of (B0 rfl) rfl bX
 refine D4.cons _ a (fun e=>?_) (fun a e=>?_)
 ·exact D4.of (B0 rfl) rfl bX
 refine D4.cons _ a (fun e=>?_) (fun a e=>?_)
 ·exact D4.of (B0 rfl) rfl bX
 refine D4.cons _ a (fun e=>?_) (fun a e=>?_)
 ·exact D4.of (B0 rfl) rfl bX
 refine D4.cons _ a (fun e=>?_) (fun a e=>?_)
 ·exact D4.of (B0 rfl) rfl bX
 refine D4.cons _ a (fun e=>?_) (fun a e=>?_)
 ·exact D4.of (B0 rfl) rfl bX
 refine D4.cons _ a (fun e=>?_) (fun a e=>?_)
 ·exact D4.of (B0 rfl) rfl bX
 refine D4.cons _ a (fun e=>?_) (fun a e=>?_)
 ·exact D4.of (B0 rfl) rfl bX
 refine D4.cons _ a (fun e=>?_) (fun a e=>?_)
 ·exact D4.of (B0 rfl) rfl bX
 refine D4.cons _ a (fun e=>?_) (fun a e=>?_)
 ·exact D4.of (B0 rfl) rfl bX
 refine D4.cons _ a (fun e=>?_) (fun a e=>?_)
 ·exact D4.of (B0 rfl) rfl bX
 refine D4.cons _ a (fun e=>?_) (fun a e=>?_)
 ·exact D4.of (B0 rfl) rfl bX
 refine D4.cons _ a (fun e=>?_) (fun a e=>?_)
 ·exact D4.of (B0 rfl) rfl bX
 exact D4.nil a
def A9e (k:Int) (a:Int):Bool :=
 (bif (decide (k=17)) then (B2 (⟨0,1⟩:Spn) a) else (bif (decide (k=18)) then (B2 (⟨0,0⟩:Spn) a) else (bif (decide (k=19)) then (B2 (⟨1,9999⟩:Spn) a) else (bif (decide (k=20)) then (B2 (⟨1,9999⟩:Spn) a) else (bif (decide (k=26)) then (B2 (⟨0,0⟩:Spn) a) else (bif (decide (k=27)) then (B2 (⟨0,0⟩:Spn) a) else (bif (decide (k=35)) then (B2 (⟨0,0⟩:Spn) a) else (bif (decide (k=38)) then (B2 (⟨0,9999⟩:Spn) a) else (bif (decide (k=40)) then (B2 (⟨0,0⟩:Spn) a) else (bif (decide (k=41)) then (B2 (⟨0,0⟩:Spn) a) else (bif (decide (k=2)) then (B2 (⟨0,0⟩:Spn) a) else (bif (decide (k=3)) then (B2 (⟨0,0⟩:Spn) a) else (bif (decide (k=4)) then (B2 (⟨0,0⟩:Spn) a) else (bif (decide (k=5)) then (B2 (⟨0,0⟩:Spn) a) else (bif (decide (k=6)) then (B2 (⟨0,0⟩:Spn) a) else (bif (decide (k=8)) then (B2 (⟨0,0⟩:Spn) a) else (bif (decide (k=9)) then (B2 (⟨0,0⟩:Spn) a) else (bif (decide (k=10)) then (B2 (⟨0,0⟩:Spn) a) else (bif (decide (k=11)) then (B2 (⟨0,0⟩:Spn) a) else (bif (decide (k=12)) then (B2 (⟨0,0⟩:Spn) a) else (bif (decide (k=13)) then (B2 (⟨0,0⟩:Spn) a) else (bif (decide (k=15)) then (B2 (⟨0,0⟩:Spn) a) else (bif (decide (k=16)) then (B2 (⟨0,0⟩:Spn) a) else (bif (decide (k=7)) then (B2 (⟨0,0⟩:Spn) a) else (bif (decide (k=14)) then (B2 (⟨0,0⟩:Spn) a) else (bif (decide (k=42)) then (B2 (⟨0,0⟩:Spn) a) else (bif (decide (k=21)) then (B2 (⟨1,9999⟩:Spn) a) else (bif (decide (k=33)) then (B2 (⟨1,9999⟩:Spn) a) else (bif (decide (k=22)) then (B2 (⟨0,0⟩:Spn) a) else (bif (decide (k=23)) then (B2 (⟨0,0⟩:Spn) a) else (bif (decide (k=24)) then (B2 (⟨0,0⟩:Spn) a) else (bif (decide (k=25)) then (B2 (⟨0,0⟩:Spn) a) else (bif (decide (k=28)) then (B2 (⟨0,0⟩:Spn) a) else (bif (decide (k=29)) then (B2 (⟨0,0⟩:Spn) a) else (bif (decide (k=30)) then (B2 (⟨0,0⟩:Spn) a) else (bif (decide (k=31)) then (B2 (⟨0,0⟩:Spn) a) else (bif (decide (k=32)) then (B2 (⟨0,0⟩:Spn) a) else (bif (decide (k=34)) then (B2 (⟨0,0⟩:Spn) a) else (bif (decide (k=36)) then (B2 (⟨0,1⟩:Spn) a) else (bif (decide (k=37)) then (B2 (⟨0,1⟩:Spn) a) else (bif (decide (k=43)) then (B2 (⟨0,1⟩:Spn) a) else false)))))))))))))))))))))))))))))))))))))))))
theorem B9d (k:Int) (b:Int) (a:A1r k A3m=true) (R:Bool) (hR:A9e k b=R):D4 Tryz.prog (lkV k .nilFunc A3m) [iv b] [] (bv R):=by
 subst hR
 unfold A9e
 unfold A3m at *
 refine D4.cons _ a (fun e=>?_) (fun a e=>?_)
 ·exact D4.of (B0 rfl) rfl bX
 refine D4.cons _ a (fun e=>?_) (fun a e=>?_)
 ·exact D4.of (B0 rfl) rfl bX
 refine D4.cons _ a (fun e=>?_) (fun a e=>?_)
 ·exact D4.of (B0 rfl) rfl bX
 refine D4.cons _ a (fun e=>?_) (fun a e=>?_)
 ·exact D4.of (B0 rfl) rfl bX
 refine D4.cons _ a (fun e=>?_) (fun a e=>?_)
 ·exact D4.of (B0 rfl) rfl bX
 refine D4.cons _ a (fun e=>?_) (fun a e=>?_)
 ·exact D4.of (B0 rfl) rfl bX
 refine D4.cons _ a (fun e=>?_) (fun a e=>?_)
 ·exact D4.of (B0 rfl) rfl bX
 refine D4.cons _ a (fun e=>?_) (fun a e=>?_)
 ·exact D4.of (B0 rfl) rfl bX
 refine D4.cons _ a (fun e=>?_) (fun a e=>?_)
 ·exact D4.of (B0 rfl) rfl bX
 refine D4.cons _ a (fun e=>?_) (fun a e=>?_)
 ·exact D4.of (B0 rfl) rfl bX
 refine D4.cons _ a (fun e=>?_) (fun a e=>?_)
 ·exact D4.of (B0 rfl) rfl bX
 refine D4.cons _ a (fun e=>?_) (fun a e=>?_)
 ·exact D4.of (B0 rfl) rfl bX
 refine D4.cons _ a (fun e=>?_) (fun a e=>?_)
 ·exact D4.of (B0 rfl) rfl bX
 refine D4.cons _ a (fun e=>?_) (fun a e=>?_)
 ·exact D4.of (B0 rfl) rfl bX
 refine D4.cons _ a (fun e=>?_) (fun a e=>?_)
 ·exact D4.of (B0 rfl) rfl bX
 refine D4.cons _ a (fun e=>?_) (fun a e=>?_)
 ·exact D4.of (B0 rfl) rfl bX
 refine D4.cons _ a (fun e=>?_) (fun a e=>?_)
 ·exact D4.of (B0 rfl) rfl bX
 refine D4.cons _ a (fun e=>?_) (fun a e=>?_)
 ·exact D4.of (B0 rfl) rfl bX
 refine D4.cons _ a (fun e=>?_) (fun a e=>?_)
 ·exact D4.of (B0 rfl) rfl bX
 refine D4.cons _ a (fun e=>?_) (fun a e=>?_)
 ·exact D4.of (B0 rfl) rfl bX
 refine D4.cons _ a (fun e=>?_) (fun a e=>?_)
 ·exact D4.of (B0 rfl) rfl bX
 refine D4.cons _ a (fun e=>?_) (fun a e=>?_)
 ·exact D4.of (B0 rfl) rfl bX
 refine D4.cons _ a (fun e=>?_) (fun a e=>?_)
 ·exact D4.of (B0 rfl) rfl bX
 refine D4.cons _ a (fun e=>?_) (fun a e=>?_)
 ·exact D4.of (B0 rfl) rfl bX
 refine D4.cons _ a (fun e=>?_) (fun a e=>?_)
 ·exact D4.of (B0 rfl) rfl bX
 refine D4.cons _ a (fun e=>?_) (fun a e=>?_)
 ·exact D4.of (B0 rfl) rfl bX
 refine D4.cons _ a (fun e=>?_) (fun a e=>?_)
 ·exact D4.of (B0 rfl) rfl bX
 refine D4.cons _ a (fun e=>?_) (fun a e=>?_)
 ·exact D4.of (B0 rfl) rfl bX
 refine D4.cons _ a (fun e=>?_) (fun a e=>?_)
 ·exact D4.of (B0 rfl) rfl bX
 refine D4.cons _ a (fun e=>?_) (fun a e=>?_)
 ·exact D4.of (B0 rfl) rfl bX
 refine D4.cons _ a (fun e=>?_) (fun a e=>?_)
 ·exact D4.of (B0 rfl) rfl bX
 refine D4.cons _ a (fun e=>?_) (fun a e=>?_)
 ·exact D4.of (B0 rfl) rfl bX
 refine D4.cons _ a (fun e=>?_) (fun a e=>?_)
 ·exact D4.of (B0 rfl) rfl bX
 refine D4.cons _ a (fun e=>?_) (fun a e=>?_)
 ·exact D4.of (B0 rfl) rfl bX
 refine D4.cons _ a (fun e=>?_) (fun a e=>?_)
 ·exact D4.of (B0 rfl) rfl bX
 refine D4.cons _ a (fun e=>?_) (fun a e=>?_)
 ·exact D4.of (B0 rfl) rfl bX
 refine D4.cons _ a (fun e=>?_) (fun a e=>?_)
 ·exact D4.of (B0 rfl) rfl bX
 refine D4.cons _ a (fun e=>?_) (fun a e=>?_)
 ·exact D4.of (B0 rfl) rfl bX
 refine D4.cons _ a (fun e=>?_) (fun a e=>?_)
 ·exact D4.of (B0 rfl) rfl bX
 refine D4.cons _ a (fun e=>?_) (fun a e=>?_)
 ·exact D4.of (B0 rfl) rfl bX
 refine D4.cons _ a (fun e=>?_) (fun a e=>?_)
 ·exact D4.of (B0 rfl) rfl bX
 exact D4.nil a
theorem D8s {a:Act} {k:Int} (h:a.kind=k):a=⟨k,a.n,a.m,a.color,a.text⟩:=by subst h;rfl
def A0t (a:Act):Int :=
 (bif (decide (a.kind=1)) then (bif ((decide ((A4e a.n)<0))||(!(decide ((⟨1,a.n,a.m,a.color,a.text⟩:Act)=(B7a a.kind a.n 0))))) then 200 else 0) else (bif (decide (a.kind=39)) then (bif (!decide ((A6w (⟨39,a.n,a.m,a.color,a.text⟩:Act))=0)) then 200 else 0) else (bif (((((!(A1r a.kind R6))||(!(A8w a.kind a.n)))||(!(A9e a.kind a.m)))||(!(decide (a.color=Col.zero))))||(!(decide (a.text=([]:List UInt8))))) then 200 else 0)))
set_option maxHeartbeats 2000000 in
theorem D0o {a:Act} {R:Int} (hR:A0t a=R) (hs:a.text.length≤100000000:=by exact bW) (ak:a.kind≤43:=by exact bW):J5 Tryz.prog 49 [ag (A0 a)] [U5,U8] (iv R):=by
 refine cC Tryz.func49 fun X hX hr hD=>?_
 replace hR:=(A0t.eq_1 ..).symm.trans hR
 refine bS rfl (zra 2 [] (fun b1=>[(1,pt _ 0)]) (fun _=>(A0 a)) 54 fun b1=>(ie (bS rfl (bP 1 3 rfl (ie (A3 (bS rfl (cF 2 [0] 7 rfl (ie (A9 (bS rfl (bP 2 44 rfl ?_))))))))))))
 refine ie (G4 rfl (fun i=>?_) (fun i=>?_))
 ·have k:=bV i
  replace hR:=bt hR i
  refine sd 13 rfl oki rfl (pg1 2 [0] 47 rfl (zvd rfl (B7t rfl) (pd1 2 50 rfl ?_)))
  refine zdr 8 0 50 58 (!(decide (⟨1,a.n,a.m,a.color,a.text⟩=(B7a a.kind a.n 0)))) (fun g3 au=>?_) ?_
  ·refine dd rfl (by exact H8 (G7 (us:=A0 a) C8e rfl rfl 0 rfl rfl rfl) (congrArg (fun z=>ag (A0 z)) (D8s k))) (pg2 4 [0,0] 53 55 rfl (zvd rfl (D8j rfl) (dd rfl (Z3 D4r rfl rfl rfl) (pd1 1 58 rfl ?_))))
   exact zad 7 50 _ g3
  refine de (G4 rfl (fun r=>?_) (fun r=>?_))
  ·have a5:=bV r
   replace hR:=bt hR r
   refine A1 1 rfl (bP 1 3 rfl (A2 (nx (A3 (bS rfl (bP 2 73 rfl (ie (J4 rfl (bS rfl (bP 1 2 rfl ?_))))))))))
   subst hR
   refine ie (A8 ?_)
   exact F7 hr hD
  replace hR:=bf hR r
  refine A4 (nx (A3 (bS rfl (bP 2 73 rfl (ie (A4r rfl (A4 (nx (bS rfl (bP 1 2 rfl ?_))))))))))
  subst hR
  refine ie (A8 ?_)
  exact F7 hr hD
 replace hR:=bf hR i
 refine bS rfl (bP 2 59 rfl ?_)
 refine ie (G4 rfl (fun s=>?_) (fun s=>?_))
 ·have p:=bV s
  replace hR:=bt hR s
  refine A1 3 rfl (ix rfl (by exact H8 (G7 (us:=A0 a) C8e rfl rfl 0 rfl rfl rfl) (congrArg (fun z=>ag (A0 z)) (D8s p))) (zv rfl (B6g rfl) (bP 1 3 rfl (A2 (nx (A3 (bS rfl (bP 2 73 rfl ?_))))))))
  refine ie (G4 rfl (fun x=>?_) (fun x=>?_))
  ·have a2:=bV x
   replace hR:=bt hR x
   refine bS rfl (bP 1 2 rfl ?_)
   subst hR
   refine ie (A8 ?_)
   exact F7 hr hD
  replace hR:=bf hR x
  refine A4 (nx (bS rfl (bP 1 2 rfl ?_)))
  subst hR
  refine ie (A8 ?_)
  exact F7 hr hD
 replace hR:=bf hR s
 refine A3 (bS rfl (bP 2 63 rfl ?_))
 refine ie (G4 rfl (fun h7=>?_) (fun h7=>?_))
 ·have a9:=bV h7
  exfalso;omega
 refine bS rfl (bP 2 63 rfl ?_)
 refine ie (G4 rfl (fun h8=>?_) (fun h8=>?_))
 ·have a3:=bV h8
  exfalso;omega
 refine A1 2 rfl (bP 2 63 rfl ?_)
 refine A2 (nx (G4 rfl (fun h9=>?_) (fun h9=>?_)))
 ·have ab:=bV h9
  exfalso;omega
 refine zS [(10,[0])] ?_
 refine hq1 [1] 10 rfl ?_
 refine gl 2 [0] rfl (C1 (v:=iv _) cH rfl rfl 0 rfl rfl) ?_
 refine gf 0 7 ?_ ?_
 ·refine ghc 0 [0] rfl (B6u rfl) fun ar=>?_
  refine gf 3 7 ?_ ?_
  ·refine gh 3 [0] rfl (Det.tri (J9.det (by exact H8 (A7l D4h O7 rfl rfl rfl 0 rfl oki oki) (C2n a.kind)))) fun _=>?_
   refine hqV [4,5,6] [(13,ag [(lkV a.kind .nilFunc R6),(lkV a.kind .nilFunc A3m)]),(14,bv (A1r a.kind R6))] ?_
   refine go 7 [0] rfl (A5z D5x rfl) fun aq=>?_
   refine go 8 [0] rfl (P4 (us:=[(lkV a.kind .nilFunc R6),(lkV a.kind .nilFunc A3m)]) (cs':=[(lkV a.kind .nilFunc R6),(lkV a.kind .nilFunc A3m)]) E5m rfl rfl rfl 0 rfl rfl rfl (by simp only [List.all_cons,List.all_nil,Bool.and_true,Bool.and_eq_true];exact ⟨A7j rfl rfl,A7j rfl rfl⟩) rfl rfl) fun _=>?_
   refine hq1 [9] 5 rfl ?_
   refine ge ?_
   refine bS rfl (bP 3 17 rfl ?_)
   refine zio 7 19 17 24 (!(A8w a.kind a.n)) (fun aa=>?_) ?_
   ·refine bP 1 18 rfl (ix rfl (C1 C4r rfl rfl 0 rfl rfl) (bP 1 20 rfl (ix rfl (C1 (v:=iv _) cH rfl rfl 2 rfl rfl) (ixc rfl (A7k (B9r _ _ (by first|assumption|(have f:A1r a.kind R6=true:=och;exact f)) _ rfl) rfl rfl rfl rfl bX) (bP 2 24 rfl ?_)))))
    exact zai 7 17 _ aa
   refine bP 1 25 rfl ?_
   refine zio 7 11 25 32 (!(A9e a.kind a.m)) (fun t=>?_) ?_
   ·have ah:=bV t
    refine bP 1 26 rfl (ix rfl (C1 C4r rfl rfl 0 rfl rfl) (bP 1 28 rfl (ix rfl (C1 (v:=iv _) cH rfl rfl 2 rfl rfl) (ixc rfl (A7k (B9d a.kind a.m (by first|assumption|(have f:A1r a.kind R6=true:=och;exact f)) _ rfl) rfl rfl rfl rfl bX) (bP 2 32 rfl ?_)))))
    exact zai 7 25 _ t
   refine bP 1 33 rfl ?_
   refine zio 5 5 33 38 (!(decide (a.color=Col.zero))) (fun y=>?_) ?_
   ·have am:=bV y
    refine bP 1 34 rfl (ix rfl (G7 (us:=U2 _) B9a rfl rfl 2 rfl rfl rfl) (c9 1 2 [] [(36,ag _)] (ix rfl (Z3 (b:=Col.zero) C0w rfl rfl rfl) (bP 1 38 rfl ?_))))
    exact zai 6 33 _ y
   refine bP 1 39 rfl ?_
   refine zio 4 0 39 43 (!(decide (a.text=[]))) (fun o=>?_) ?_
   ·have ad:=bV o
    refine bP 1 40 rfl (ix rfl (C1 (v:=sv _) ty9 rfl rfl 2 rfl rfl) (ix rfl (A9v rfl rfl rfl) (bP 1 43 rfl ?_)))
    exact zai 5 39 _ o
   refine ie (G4 rfl (fun d=>?_) (fun d=>?_))
   ·have g:=bV d
    replace hR:=bt hR d
    refine A1 1 rfl (bP 1 3 rfl (A2 (nx (A3 (bS rfl (bP 2 73 rfl (ie (J4 rfl (bS rfl (bP 1 2 rfl ?_))))))))))
    subst hR
    refine ie (A8 ?_)
    exact F7 hr hD
   replace hR:=bf hR d
   refine A4 (nx (A3 (bS rfl (bP 2 73 rfl (ie (A4r rfl (A4 (nx (bS rfl (bP 1 2 rfl ?_))))))))))
   subst hR
   refine ie (A8 ?_)
   exact F7 hr hD
  ·refine gh 7 [0] rfl (A5z D5x rfl) fun aw=>?_
   refine go 3 [0] rfl (Det.tri (J9.det (by exact H8 (A7l D4h O7 rfl rfl rfl 1 rfl oki oki) (C2n a.kind)))) fun _=>?_
   refine hqV [4,5,6] [(13,ag [(lkV a.kind .nilFunc R6),(lkV a.kind .nilFunc A3m)]),(14,bv (A1r a.kind R6))] ?_
   refine go 8 [0] rfl (P4 (us:=[(lkV a.kind .nilFunc R6),(lkV a.kind .nilFunc A3m)]) (cs':=[(lkV a.kind .nilFunc R6),(lkV a.kind .nilFunc A3m)]) E5m rfl rfl rfl 0 rfl rfl rfl (by simp only [List.all_cons,List.all_nil,Bool.and_true,Bool.and_eq_true];exact ⟨A7j rfl rfl,A7j rfl rfl⟩) rfl rfl) fun _=>?_
   refine hq1 [9] 5 rfl ?_
   refine ge ?_
   refine bS rfl (bP 3 17 rfl ?_)
   refine zio 7 19 17 24 (!(A8w a.kind a.n)) (fun a4=>?_) ?_
   ·refine bP 1 18 rfl (ix rfl (C1 C4r rfl rfl 0 rfl rfl) (bP 1 20 rfl (ix rfl (C1 (v:=iv _) cH rfl rfl 2 rfl rfl) (ixc rfl (A7k (B9r _ _ (by first|assumption|(have f:A1r a.kind R6=true:=och;exact f)) _ rfl) rfl rfl rfl rfl bX) (bP 2 24 rfl ?_)))))
    exact zai 7 17 _ a4
   refine bP 1 25 rfl ?_
   refine zio 7 11 25 32 (!(A9e a.kind a.m)) (fun u=>?_) ?_
   ·have aj:=bV u
    refine bP 1 26 rfl (ix rfl (C1 C4r rfl rfl 0 rfl rfl) (bP 1 28 rfl (ix rfl (C1 (v:=iv _) cH rfl rfl 2 rfl rfl) (ixc rfl (A7k (B9d _ _ (by first|assumption|(have f:A1r a.kind R6=true:=och;exact f)) _ rfl) rfl rfl rfl rfl bX) (bP 2 32 rfl ?_)))))
    exact zai 7 25 _ u
   refine bP 1 33 rfl ?_
   refine zio 5 5 33 38 (!(decide (a.color=Col.zero))) (fun q=>?_) ?_
   ·have af:=bV q
    refine bP 1 34 rfl (ix rfl (G7 (us:=U2 _) B9a rfl rfl 2 rfl rfl rfl) (c9 1 2 [] [(36,ag _)] (ix rfl (Z3 (b:=Col.zero) C0w rfl rfl rfl) (bP 1 38 rfl ?_))))
    exact zai 6 33 _ q
   refine bP 1 39 rfl ?_
   refine zio 4 0 39 43 (!(decide (a.text=[]))) (fun w=>?_) ?_
   ·have al:=bV w
    refine bP 1 40 rfl (ix rfl (C1 (v:=sv _) ty9 rfl rfl 2 rfl rfl) (ix rfl (A9v rfl rfl rfl) (bP 1 43 rfl ?_)))
    exact zai 5 39 _ w
   refine ie (G4 rfl (fun c=>?_) (fun c=>?_))
   ·have j:=bV c
    replace hR:=bt hR c
    refine A1 1 rfl (bP 1 3 rfl (A2 (nx (A3 (bS rfl (bP 2 73 rfl (ie (J4 rfl (bS rfl (bP 1 2 rfl ?_))))))))))
    subst hR
    refine ie (A8 ?_)
    exact F7 hr hD
   replace hR:=bf hR c
   refine A4 (nx (A3 (bS rfl (bP 2 73 rfl (ie (A4r rfl (A4 (nx (bS rfl (bP 1 2 rfl ?_))))))))))
   subst hR
   refine ie (A8 ?_)
   exact F7 hr hD
 ·refine gh 7 [0] rfl (A5z D5x rfl) fun av=>?_
  refine gc 0 [0] rfl (B6u rfl) fun ap=>?_
  refine go 3 [0] rfl (Det.tri (J9.det (by exact H8 (A7l D4h O7 rfl rfl rfl 0 rfl oki oki) (C2n a.kind)))) fun _=>?_
  refine hqV [4,5,6] [(13,ag [(lkV a.kind .nilFunc R6),(lkV a.kind .nilFunc A3m)]),(14,bv (A1r a.kind R6))] ?_
  refine go 8 [0] rfl (P4 (us:=[(lkV a.kind .nilFunc R6),(lkV a.kind .nilFunc A3m)]) (cs':=[(lkV a.kind .nilFunc R6),(lkV a.kind .nilFunc A3m)]) E5m rfl rfl rfl 1 rfl rfl rfl (by simp only [List.all_cons,List.all_nil,Bool.and_true,Bool.and_eq_true];exact ⟨A7j rfl rfl,A7j rfl rfl⟩) rfl rfl) fun _=>?_
  refine hq1 [9] 5 rfl ?_
  refine ge ?_
  refine bS rfl (bP 3 17 rfl ?_)
  refine zio 7 19 17 24 (!(A8w a.kind a.n)) (fun a8=>?_) ?_
  ·refine bP 1 18 rfl (ix rfl (C1 C4r rfl rfl 1 rfl rfl) (bP 1 20 rfl (ix rfl (C1 (v:=iv _) cH rfl rfl 2 rfl rfl) (ixc rfl (A7k (B9r _ _ (by first|assumption|(have f:A1r a.kind R6=true:=och;exact f)) _ rfl) rfl rfl rfl rfl bX) (bP 2 24 rfl ?_)))))
   exact zai 7 17 _ a8
  refine bP 1 25 rfl ?_
  refine zio 7 11 25 32 (!(A9e a.kind a.m)) (fun a0=>?_) ?_
  ·have ao:=bV a0
   refine bP 1 26 rfl (ix rfl (C1 C4r rfl rfl 1 rfl rfl) (bP 1 28 rfl (ix rfl (C1 (v:=iv _) cH rfl rfl 2 rfl rfl) (ixc rfl (A7k (B9d _ _ (by first|assumption|(have f:A1r a.kind R6=true:=och;exact f)) _ rfl) rfl rfl rfl rfl bX) (bP 2 32 rfl ?_)))))
   exact zai 7 25 _ a0
  refine bP 1 33 rfl ?_
  refine zio 5 5 33 38 (!(decide (a.color=Col.zero))) (fun l=>?_) ?_
  ·have ai:=bV l
   refine bP 1 34 rfl (ix rfl (G7 (us:=U2 _) B9a rfl rfl 2 rfl rfl rfl) (c9 1 2 [] [(36,ag _)] (ix rfl (Z3 (b:=Col.zero) C0w rfl rfl rfl) (bP 1 38 rfl ?_))))
   exact zai 6 33 _ l
  refine bP 1 39 rfl ?_
  refine zio 4 0 39 43 (!(decide (a.text=[]))) (fun a1=>?_) ?_
  ·have an:=bV a1
   refine bP 1 40 rfl (ix rfl (C1 (v:=sv _) ty9 rfl rfl 2 rfl rfl) (ix rfl (A9v rfl rfl rfl) (bP 1 43 rfl ?_)))
   exact zai 5 39 _ a1
  refine ie (G4 rfl (fun e=>?_) (fun e=>?_))
  ·have h:=bV e
   replace hR:=bt hR e
   refine A1 1 rfl (bP 1 3 rfl (A2 (nx (A3 (bS rfl (bP 2 73 rfl (ie (J4 rfl (bS rfl (bP 1 2 rfl ?_))))))))))
   subst hR
   refine ie (A8 ?_)
   exact F7 hr hD
  replace hR:=bf hR e
  refine A4 (nx (A3 (bS rfl (bP 2 73 rfl (ie (A4r rfl (A4 (nx (bS rfl (bP 1 2 rfl ?_))))))))))
  subst hR
  refine ie (A8 ?_)
  exact F7 hr hD
theorem E5h {k:Int} (h:1≤k∧k≤43):([1,2,3,4,5,6,7,8,9,10,11,12,13,15,16,14,17,18,20,21,33,19,22,23,24,25,28,29,30,31,32,34,26,27,35,40,36,37,38,41,42,43,39,44,45,46]:List Int).contains k=true:=by
 simp only [List.contains_cons,List.contains_nil,Bool.or_false,Bool.or_eq_true,beq_iff_eq];omega
theorem D0e {l:List Act} {p:Act→Prop} (h:∀ a ∈ l,p a) (b:p Act.zero) (i:Nat):p (l.getD i Act.zero):=by
 by_cases hi:i<l.length
 ·rw [gdE hi];exact h _ (List.getElem_mem hi)
 ·rw [gdN hi];exact b
theorem D0m (s:List UInt8) (n:Int):(A4n s n).length≤1:=by
 unfold A4n;simp only [List.length_take,List.length_drop];omega
theorem E9g {c:Bool} {x y:List UInt8} {B:Nat} (b:x.length≤B) (a:y.length≤B):(bif c then x else y).length≤B:=by cases c<;>assumption
set_option maxHeartbeats 4000000 in
theorem D4a (a:Act) (h:a.text.length≤100000000):(B0p a).length≤100010000:=by
 unfold B0p
 have p:=B9g a.n
 have b:=fun s n=>D0m s n
 have d:=A5h
 have e:=B1j
 repeat' (with_reducible refine E9g ?_ ?_)
 all_goals simp only [A7d,F9,Y3,A6h,S0,A2r,G9,A0n,A5u,A5s,A5i,A5r,B6,List.length_append,List.length_cons,List.length_nil,List.length_take]
 all_goals first|omega|exact Nat.le_trans (e _) opx|(refine Nat.le_trans (Nat.add_le_add_right (Nat.add_le_add_left (d _ _) _) _) ?_;omega)|(have f:=d 1 [a.m];have c:=fun s=>b s a.n;have g:=c [65,66,67,68];have i:=c [69,70];have j:=c [83,84];omega)|(have f:=b [15,14] (a.n - 0);have c:=b [62,61] (a.n - 0);have g:=b [78,79] (a.n - 2);omega)|(have f:=b [40,41,42,43] a.n;have c:=b [66,48] a.m;omega)|(have f:=d (-2) [a.n];have c:=b [108,104] a.m;omega)
theorem E9n {c:Bool} (h:(bif c then (200:Int) else 0)=0):c=false:=by cases c<;>simp at h ⊢
theorem E8g {a:Act} (h:A1r a.kind R6=true):a.kind=17∨a.kind=18∨a.kind=19∨a.kind=20∨a.kind=26∨a.kind=27∨a.kind=35∨a.kind=38∨a.kind=40∨a.kind=41∨a.kind=2∨a.kind=3∨a.kind=4∨a.kind=5∨a.kind=6∨a.kind=8∨a.kind=9∨a.kind=10∨a.kind=11∨a.kind=12∨a.kind=13∨a.kind=15∨a.kind=16∨a.kind=7∨a.kind=14∨a.kind=42∨a.kind=21∨a.kind=33∨a.kind=22∨a.kind=23∨a.kind=24∨a.kind=25∨a.kind=28∨a.kind=29∨a.kind=30∨a.kind=31∨a.kind=32∨a.kind=34∨a.kind=36∨a.kind=37∨a.kind=43:=by
 rw [C5q] at h
 simp only [R6,List.map_cons,List.map_nil,List.contains_cons,List.contains_nil,Bool.or_false,Bool.or_eq_true,beq_iff_eq] at h
 omega
theorem E0n {a:Act} (h:A0t a=0) (b:tk a):B8z a:=by
 obtain ⟨b,f⟩:=b
 unfold A0t at h
 by_cases e1:a.kind=1
 ·unfold B8z;omega
 ·rw [decide_eq_false e1,cond_false] at h
  by_cases e2:a.kind=39
  ·unfold B8z;omega
  ·rw [decide_eq_false e2,cond_false] at h
   have h:=E9n h
   simp only [Bool.or_eq_false_iff,Bool.not_eq_false'] at h
   obtain ⟨⟨⟨⟨e,c⟩,d⟩,_⟩,_⟩:=h
   clear e1 e2
   rcases E8g e with h | h | h | h | h | h | h | h | h | h | h | h | h | h | h | h | h | h | h | h | h | h | h | h | h | h | h | h | h | h | h | h | h | h | h | h | h | h | h | h | h
   all_goals
    rw [h] at c d
    simp only [A8w,A9e,B2,A7h,Int.reduceEq,decide_true,decide_false,cond_true,cond_false,Bool.and_eq_true,Bool.or_eq_true,decide_eq_true_eq] at c d
    unfold B8z
    omega
def A3z (l:List Act) (a:List UInt8→Int→(List UInt8×Int)):Nat→List UInt8→Int→Int→(List UInt8×Int)
 | 0,_,_,_=>([],0)
 | fu3+1,b1,at_1,n=>(bif (((decide (n<(l.length:Int)))&&(decide (n<(at_1+16))))&&(decide ((l.getD ((n).toNat) Act.zero).kind=39))) then A3z l a fu3 b1 at_1 (n+1) else (bif (decide (n=at_1)) then a (b1++(B0p (l.getD ((at_1).toNat) Act.zero))) (at_1+1) else (B6 (B3f ((l.drop ((at_1).toNat)).take (((n).toNat) - ((at_1).toNat)))) fun (b:List UInt8)=>a (b1++b) ((n - 1)+1))))
def W4 (l:List Act):Nat→List UInt8→Int→(List UInt8×Int)
 | 0,_,_=>([],0)
 | fu1+1,b,at_=>(bif (decide (at_<(l.length:Int))) then A3z l (W4 l fu1) (((l.length:Int) - at_).toNat+1) b at_ at_ else (b,0))
def Y7 (l:List Act):List Act→Nat→(List UInt8×Int)
 | [],t15=>W4 l (((l.length:Int) - 0).toNat+1) ([]:List UInt8) 0
 | hd_l0::tl_l0,t15=>(bif (!decide ((A0t hd_l0)=0)) then (([]:List UInt8),(A0t hd_l0)) else Y7 l tl_l0 (t15+1))
def R1 (l:List Act):List UInt8×Int :=
 (bif (decide ((131072:Int)<(l.length:Int))) then (([]:List UInt8),3) else Y7 l l 0)
theorem B5m (l:List Act) (h:∀ a ∈ l,tk a) (ag:List UInt8→Int→List UInt8×Int) (B:Nat) (c:∀ b t,(ag b t).1.length≤b.length+B):∀ (fu:Nat) (b:List UInt8) (t n:Int),(A3z l ag fu b t n).1.length≤b.length+100010000+B
 | 0,b,t,n=>Nat.zero_le _
 | fu+1,b,t,n=>by
  rw [A3z];unfold B6;simp only [Bool.cond_eq_ite];repeat' split
  ·exact B5m l h ag B c fu b t (n+1)
  ·refine Nat.le_trans (c _ _) ?_
   have:=D4a (l.getD t.toNat Act.zero) (D0e h ozw _).1
   rw [List.length_append];omega
  ·refine Nat.le_trans (c _ _) ?_
   have:=B1j ((l.drop t.toNat).take (n.toNat - t.toNat))
   rw [List.length_append];omega
theorem B5k (l:List Act) (h:∀ a ∈ l,tk a):∀ (fu:Nat) (b:List UInt8) (t:Int),(W4 l fu b t).1.length≤b.length+fu * 100010000
 | 0,b,t=>Nat.zero_le _
 | fu+1,b,t=>by
  rw [W4]
  cases decide (t<(l.length:Int)) with
  | true=>exact Nat.le_trans (B5m l h _ (fu * 100010000) (B5k l h fu) _ _ _ _) opx
  | false=>exact Nat.le_add_right _ _
theorem B5e (L:List Act) (h:∀ a ∈ L,tk a) (hL:L.length≤131072):∀ (l:List Act) (t:Nat),(Y7 L l t).1.length≤13200000000000
 | [],t=>by
  have:=B5k L h (((L.length:Int) - 0).toNat+1) [] 0
  rw [Y7];simp only [List.length_nil] at this;omega
 | a::l,t=>by
  rw [Y7]
  cases (!decide ((A0t a)=0)) with
  | true=>exact Nat.zero_le _
  | false=>exact B5e L h hL l (t+1)
theorem A6n (l:List Act) (h:∀ a ∈ l,tk a):(R1 l).1.length≤13200000000000:=by
 unfold R1
 by_cases hl:(131072:Int)<(l.length:Int)
 ·rw [decide_eq_true hl];exact Nat.zero_le _
 ·rw [decide_eq_false hl];exact B5e l h opx l 0
theorem B0k {l:List Act} {lq:Option Addr} {lk:Nat} {R:List UInt8×Int} (hR:R1 l=R) (au:l.length≤9223372036854775807:=by exact bW) (b3:l.length≤lk:=by exact bW) (w:∀ a ∈ l,tk a:=by exact bW):Con Tryz.prog 63 [.slice lq l.length lk] [] [sl A0 lq l,U5,U8,J2,M2] ({r:VR // bT 1 R.1.length r}) (fun x=>.tuple #[.slice (va x.1.q) R.1.length x.1.k,iv R.2]) (fun x=>((vo cI 5 x.1 R.1)++([]))) (fun x=>[]):=by
 refine cC Tryz.func63 fun X hX hr hD=>?_
 replace hR:=(R1.eq_1 ..).symm.trans hR
 refine bS rfl (bP 2 2 rfl (ie (C0j (A3 (bS rfl (bP 3 12 rfl (ie ?_)))))))
 refine zjd rfl hR ?_ ?_<;>clear hR<;>intro hR h1 az
 ·refine bS rfl (cG 2 2 3 rfl ?_)
  subst hR
  refine ie (A8 ?_)
  exact cD hr hD (U0 rfl (A6 rfl) (A6 rfl)) ⟨VR.nil,bT.nil⟩ bU bX
 refine A4 (nx (A3 (bS rfl (pp3 3 13 14 15 rfl (ie (A9 (A3q (fun (f:Nat)=>(f≤l.length∧Y7 l (l.drop f) f=R∧(∀ i<f,A0t (l.getD i Act.zero)=0),[(0,.slice lq l.length lk),(2,.slice none 0 0),(13,.slice lq l.length lk),(14,iv (l.length:Int)),(15,iv (f:Int))],[],[sl A0 lq l,U5,U8,J2,M2],l.length - f)) 0 ⟨opx,hR,(by intro i hi;omega)⟩ bU A7.refl ?_)))))))
 rintro f ⟨b0,hR,a5⟩
 have a9:=D0e w ozw f
 refine bS rfl (bP 1 16 rfl ?_)
 refine ie (A3 (G4 rfl (fun h3=>?_) (fun h3=>?_)))
 ·have a8:=bV h3
  rw [A1b Act.zero (show f<l.length by omega)] at hR;replace hR:=(Y7.eq_2 ..).symm.trans hR
  refine A4 (nx (A3 (A9 (bS rfl (K8 0 rfl opx fun a4 a6=>(ix rfl (F8 Q1 rfl rfl a6 rfl f rfl opx) (ix rfl (K3 (us:=A0 (l.getD f Act.zero)) C8e rfl rfl (H2 (c:=A0) (sz:=6) a6 (fun _=>rfl) 0 rfl (gd Act.zero opx)) rfl) ?_)))))))
  refine B0j 2 0 [0] (fun b6=>[(5,pt b6 0)]) (fun b6=>[bx b6 (A0 (l.getD f Act.zero)) 54]) (fun b6=>?_)
  refine ie (bS rfl (c9 1 2 [0] [(19,ag (A0 (l.getD f Act.zero)))] (zv rfl (D0o rfl (by first|omega|exact a9.1|(dsimp only;omega)) (by first|omega|exact a9.2|(dsimp only;omega))) (bP 1 6 rfl (ie (bS rfl (bP 2 22 rfl (ie ?_))))))))
  refine zjn rfl hR ?_ ?_<;>clear hR<;>intro hR h7 b2
  ·refine bS rfl (cG 3 2 3 rfl ?_)
   subst hR
   refine ie (A8 ?_)
   exact cD hr hD (U0 rfl (A6 rfl) (A6 rfl)) ⟨VR.nil,bT.nil⟩ bU bX
  refine A4 (nx (A1 2 rfl (ix rfl (B3 rfl rfl rfl rfl opx) (bP 1 15 rfl (A2 ?_)))))
  exact A2g (z1:=f) (f+1) ⟨opx,hR,(by intro i hi;rcases Nat.lt_succ_iff_lt_or_eq.1 hi with hi | rfl;exact a5 i hi;exact Decidable.of_not_not oiu)⟩ olr bU A7.refl
 have a8:=bV h3
 rw [A1d a8] at hR;replace hR:=(Y7.eq_1 ..).symm.trans hR
 refine F4 (nx (bS rfl (zc rfl (D1h _ rfl) fun ⟨⟨u,e⟩,ad⟩=>?_)))
 refine bP 1 7 rfl (ie (A3 (C0m (nx (A3 (bS rfl (bP 1 8 rfl (ie (A9 (Y0 (I1 [vo cI 5 VR.nil ([]:List UInt8),[(u,.map (B9 e 0).toArray e.length)]] [1,0] 2 rfl ozw rfl [[(u,.map (B9 e 0).toArray e.length)],vo cI 5 VR.nil ([]:List UInt8)] rfl opv) ?_))))))))))
 refine A3q (un fun (fu:Nat)=>un fun (b:List UInt8)=>un fun (br:VR) (at_:Int)=>(((l.length:Int) - at_).toNat<fu∧W4 l fu b at_=R∧bT 1 b.length br∧0≤at_∧at_≤(l.length:Int)∧(b.length:Int)≤100010000 * at_,[(0,.slice lq l.length lk),(2,.slice (va br.q) b.length br.k),(7,.map (some u)),(8,iv at_)],((u,.map (B9 e 0).toArray e.length)::((vo cI 5 br b)++([]))),[C5k Tryz.prog e tC,sl A0 lq l,U5,U8,J2,M2],fu)) ((((l.length:Int) - 0).toNat+1),([]:List UInt8),VR.nil,0) ⟨(Nat.lt_succ_self _),hR,bT.nil,opx,oom⟩ bU A7.refl ?_
 rintro ⟨fu,b,br,at_⟩ ⟨aq,hR,t,ha,hb⟩
 have:=bT.le t
 obtain ⟨fu1,rfl⟩:∃ m,fu=m+1:=⟨fu - 1,by omega⟩
 replace hR:=(W4.eq_2 ..).symm.trans hR
 refine A3 (bS rfl (bP 4 29 rfl ?_))
 refine ie ?_
 refine zjd rfl hR ?_ ?_<;>clear hR<;>intro hR ay ao
 ·refine A4 (nx (A3 (A9 (A3 (bS rfl (bP 2 9 rfl (ie (A9 ?_))))))))
  refine A3q (un fun (v:Nat)=>un fun (j:List UInt8)=>un fun (g:VR)=>un fun (d:Int) (n:Int)=>(((l.length:Int) - n).toNat<v∧A3z l (W4 l fu1) v j d n=R∧bT 1 j.length g∧d=at_∧0≤d∧d<(l.length:Int)∧d≤n∧n≤(l.length:Int)∧n≤d+16∧(j.length:Int)≤100010000 * d,[(0,.slice lq l.length lk),(2,.slice (va g.q) j.length g.k),(7,.map (some u)),(8,iv d),(9,iv n)],((u,.map (B9 e 0).toArray e.length)::((vo cI 5 g j)++([]))),[C5k Tryz.prog e tC,sl A0 lq l,U5,U8,J2,M2],v)) ((((l.length:Int) - at_).toNat+1),b,br,at_,at_) ⟨(Nat.lt_succ_self _),hR,t,opx,opx⟩ bU A7.refl ?_
  rintro ⟨v,j,g,d,n⟩ ⟨ap,hR,h,hn,b4⟩
  have:=bT.le h
  obtain ⟨fu3,rfl⟩:∃ m,v=m+1:=⟨v - 1,by omega⟩
  replace hR:=(A3z.eq_2 ..).symm.trans hR
  refine A3 (A9 (A3 (bS rfl (bP 5 39 rfl ?_))))
  refine zid 5 8 39 44 (decide (n<(d+16))) (fun al an=>?_) ?_
  ·refine cG 2 40 41 rfl (ix rfl (B3 rfl rfl rfl rfl opx) (bP 2 44 rfl ?_))
   exact A2 (J0 5 39 44 al A7.refl bU rfl rfl rfl rfl rfl)
  refine bP 1 45 rfl ?_
  refine zia 7 0 45 52 (decide ((l.getD ((n).toNat) Act.zero).kind=39)) (fun a7=>?_) ?_
  ·have am:=bV a7
   refine cG 2 46 47 rfl (K8 1 rfl opx fun ax a1=>(ix rfl (F8 Q1 rfl rfl a1 rfl ((n).toNat) opx opx) (bP 1 49 rfl (ix rfl (C9 cH rfl rfl (A0i (H2 (c:=A0) (sz:=6) a1 (fun _=>rfl) 1 rfl (gd Act.zero opx)) (ws:=[iv ((l.getD ((n).toNat) Act.zero).kind)]) 1 rfl) rfl) (bP 2 52 rfl ?_)))))
   exact A2 (J0 7 45 52 a7 A7.refl bU rfl rfl rfl rfl rfl)
  refine ie ?_
  refine zjb rfl hR ?_ ?_<;>clear hR<;>intro hR ab
  ·have aa:=bV ab
   refine F4 (nx (A1 3 rfl (bP 1 33 rfl ?_)))
   refine ix rfl (B3 rfl rfl rfl rfl opx) (bP 1 9 rfl (A2 ?_))
   exact A2g (z1:=(fu3+1,j,g,d,n)) (fu3,j,g,d,n+1) ⟨opx,hR,h,opx,opx⟩ (Nat.lt_succ_self _) bU A7.refl
  have aa:=bV ab
  refine A4 (nx (A3 (bS rfl (bP 3 55 rfl (ie ?_)))))
  refine zjd rfl hR ?_ ?_<;>clear hR<;>intro hR av ar
  ·refine F4 (nx ?_)
   refine sh' 15 [(15,[(u,.map (B9 e 0).toArray e.length)]),(13,vo cI 5 g j)] [C5k Tryz.prog e tC,sl A0 lq l,U5,U8,J2,M2] ((u,.map (B9 e 0).toArray e.length)::((vo cI 5 g j)++([]))) (cA 15 0) oki rfl oki oki oki bU A7.refl ?_
   refine zhp [0,1,2,3,8,9] 9 (cA 15 783) [(65,.slice (va g.q) j.length g.k),(66,.map (some u)),(67,.slice lq l.length lk),(68,iv d),(73,.slice lq l.length lk),(74,iv d)] ?_
   refine B7w 1 rfl opx fun ak o=>?_
   refine zhk 4 (cA 15 799) rfl (F8 Q1 rfl rfl o rfl ((d).toNat) opx opx) ?_
   refine zhp [5] 7 (cA 15 831) [(70,pa (Addr.add ak (((d).toNat) * 6)))] ?_
   refine zhk 6 (cA 15 895) rfl (C9 cH rfl rfl (A0i (H2 (c:=A0) (sz:=6) o (fun _=>rfl) 1 rfl (gd Act.zero opx)) (ws:=[iv ((l.getD ((d).toNat) Act.zero).kind)]) 1 rfl) rfl) (zhl 7 [(u,.map (B9 e 0).toArray e.length)] (cA 15 1023) rfl (by exact D8a (z:=.nilFunc) e N6 rfl rfl rfl 0 rfl (by rw [List.toList_toArray]) oki) ?_)
   refine zhk 10 (cA 15 2047) rfl (F8 Q1 rfl rfl o rfl ((d).toNat) opx opx) (zhk 11 (cA 15 4095) rfl (K3 (us:=A0 (l.getD ((d).toNat) Act.zero)) C8e rfl rfl (H2 (c:=A0) (sz:=6) o (fun _=>rfl) 1 rfl (gd Act.zero opx)) rfl) ?_)
   have a3:=E0n (a5 ((d).toNat) opx) (D0e w ozw ((d).toNat))
   refine zho 12 ((u,.map (B9 e 0).toArray e.length)::((vo cI 5 g j)++([]))) (cA 15 8191) rfl (Det.tri (by exact E4t (C:=tC) (A5 0 rfl) (by rw [C5q,ad];exact E5h ⟨a3.2.1,a3.2.2.1⟩) ⟨(l.getD ((d).toNat) Act.zero),⟨rfl,by exact a3⟩,rfl,rfl⟩ rfl rfl rfl rfl)) (fun _=>bU) (fun _=>A7.refl) fun _=>?_
   have:=D4a _ a3.1
   refine zho 13 [(u,.map (B9 e 0).toArray e.length)] (cA 15 16383) rfl (B5b (r:=g) (xs:=j) (s:=(B0p (l.getD ((d).toNat) Act.zero))) (pre:=[(u,.map (B9 e 0).toArray e.length)]) (post:=[]) B8x oki Tryz.underlying9 rfl rfl rfl rfl rfl rfl rfl h ofv) (fun ⟨y,p⟩=>bU) (fun ⟨y,p⟩=>A7.refl) fun ⟨y,p⟩=>?_
   have:=@List.length_append _ j (B0p (l.getD ((d).toNat) Act.zero))
   have:=bT.le p
   have:=bT.cap p
   refine zhp [14] 0 (cA 15 32767) [(2,.slice (va y.q) ((j++(B0p (l.getD ((d).toNat) Act.zero))).length) y.k)] ?_
   refine C0k oki ?_
   refine nx (A1 3 rfl (bP 1 30 rfl (ix rfl (B3 rfl rfl rfl rfl opx) (bP 1 8 rfl (A2 ?_)))))
   exact A2g (z1:=(fu1+1,b,br,at_)) (fu1,j++(B0p (l.getD ((d).toNat) Act.zero)),y,d+1) ⟨opx,hR,p,opx,odi⟩ (Nat.lt_succ_self _) bU A7.refl
  refine A4 (nx (bS rfl (pp4 4 56 57 58 59 rfl (D7 (E0q (c:=A0) (sz:=6) (xs:=l) (A5 1 rfl) ((d).toNat) ((n).toNat) lk (fun _=>rfl) rfl opx opx) ?_))))
  refine ix rfl (B1k (n':=((l.drop ((d).toNat)).take (((n).toNat) - ((d).toNat))).length) Q1 rfl rfl ((d).toNat) ((n).toNat) lk (A0w rfl opx) (A0w rfl opx) A1u opx opx opx ofx rfl) ?_
  have:=@List.length_drop _ ((d).toNat) l
  have:=@List.length_take _ (((n).toNat) - ((d).toNat)) (l.drop ((d).toNat))
  have hQ:=C4 hR;clear hR;obtain ⟨y0,ac,hR⟩:=hQ
  refine zv rfl (C6s ac) ?_
  have:=B1j ((l.drop ((d).toNat)).take (((n).toNat) - ((d).toNat)));try rw [ac] at this
  refine it rfl (B5b (r:=g) (xs:=j) (s:=y0) (pre:=[(u,.map (B9 e 0).toArray e.length)]) (post:=[]) B8x oki Tryz.underlying9 rfl rfl rfl rfl rfl rfl rfl h ofv) fun ⟨ah,a0⟩=>?_
  have:=@List.length_append _ j y0
  have:=bT.le a0
  have:=bT.cap a0
  refine bP 1 2 rfl (ie (bS rfl (bP 1 63 rfl (ix rfl (M4 rfl rfl rfl rfl opx) (bP 1 8 rfl (ie (F4 (nx (A1 3 rfl (bP 1 30 rfl (ix rfl (B3 rfl rfl rfl rfl opx) (bP 1 8 rfl ?_))))))))))))
  refine A2 ?_
  exact A2g (z1:=(fu1+1,b,br,at_)) (fu1,j++y0,ah,(n - 1)+1) ⟨opx,hR,a0,opx,odi⟩ (Nat.lt_succ_self _) bU cB
 refine F4 (nx (bS rfl (cG 3 2 3 rfl ?_)))
 subst hR
 refine ie (A8 ?_)
 exact cD hr hD (U0 rfl (A6 rfl) (A6 rfl)) ⟨br,t⟩ bU bX
end Go.Proofs.YtgimbmncdmnklaaGreatDoor
