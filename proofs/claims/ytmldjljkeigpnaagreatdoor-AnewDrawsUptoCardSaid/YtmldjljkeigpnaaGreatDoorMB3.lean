import Derived.Test.YtmldjljkeigpnaaGreatDoorProg
import Derived.Test.YtmldjljkeigpnaaGreatDoorMA2
import Derived.Test.YtmldjljkeigpnaaGreatDoorMB1
import Derived.Test.YtmldjljkeigpnaaGreatDoorMA3
import Derived.Test.YtmldjljkeigpnaaGreatDoorMB2
set_option linter.unusedVariables false
set_option linter.unusedSimpArgs false
set_option linter.unnecessarySimpa false
set_option maxRecDepth 100000
namespace Go.Proofs.YtmldjljkeigpnaaGreatDoor
section
open Go Go.Fen open Tryz (prog)
variable {R:Bool} {a:Act} {cp n:Int}
@[reducible] def aH (a b:Int):Value := .func (.func 119) #[ag (C0 ⟨a,b⟩)] #[]
theorem S1:MapTy prog 164 3 162 (.int .i64):=⟨by rfl,by rfl,rfl⟩
theorem F5k:SlTy prog 209 207 2:=⟨by rfl,by rfl⟩
theorem F7c:Ty prog 162 2 true:=⟨by rfl⟩
theorem F0r:Ty prog 207 2 true:=⟨by rfl⟩
theorem E4d:Zero prog 162 [.nilFunc,.nilFunc]:=⟨by rfl⟩
def A9o (cp:Int):List Spn→Nat→Bool
 | [],t9=>false
 | hd_l0::tl_l0,t9=>(bif ((decide (hd_l0.lo≤cp))&&(decide (cp≤hd_l0.hi))) then true else A9o cp tl_l0 (t9+1))
def A6c (cp:Int) (l:List Spn):Bool :=
 A9o cp l 0
theorem C6o {l:List Spn} {lq:kQ} {lk:Nat} (hR:A6c cp l=R) (h:l.length≤9223372036854775807:=by exact bW) (k:l.length≤lk:=by exact bW):J7 prog 111 [iv cp,.slice lq l.length lk] [sl C0 lq l] (bv R):=by
 refine cD Tryz.func111 fun X hX hr hD=>?_
 rw[A6c]at hR
 refine bS Z (pp0 1 Z (ie (A3 (bS Z (pp3 3 7 8 9 Z (ie (A9 (A1y (fun a=>(a≤l.length∧A9o _ (l.drop a) a=R,[(0,_),(7,_),(8,iv _),(9,iv a)],_,_,l.length - a)) 0 ⟨opx,hR⟩ bU A7.refl ?_))))))))
 rintro a ⟨m,hR⟩
 refine bS Z (bP 1 10 Z (ie (A3 (G3 Z (fun e=>?_) (fun e=>?_)))))
 ·have d:=bV e
  rw [A1a Spn.zero (show a<l.length by omega)] at hR;rw[A9o]at hR
  refine A4 (nx (A3 (A9 (bS Z (H8 0 Z opx fun o b=>(ix Z (E7 F5k Z Z b Z a) (ix Z (J0 F0r Z Z (F8 (sz:=2) b jJ 0 Z (gd Spn.zero opx)) Z) ?_)))))))
  refine cI 2 [0] (fun f=>[(6,pt f 0)]) (fun _=>(C0 (l.getD a Spn.zero))) 207 fun f=>?_
  refine ie (bS Z (cB 5 [0] 17 Z ?_))
  refine zid 5 0 17 22 (decide (cp≤(l.getD a Spn.zero).hi)) (fun g i=>?_) ?_
  ·refine cB 5 [0] 22 Z ?_
   exact zai 2 17 _ g
  refine ie ?_
  refine zja Z hR ?_ ?_<;>intro hR n j
  ·refine bS Z (bP 1 4 Z ?_)
   subst hR
   exact q8
  refine A4 (nx (A0 2 Z (ix Z B1 (bP 1 9 Z (A1 ?_)))))
  exact z0 _ ⟨opx,hR⟩
 have d:=bV e
 rw [A1b d] at hR;rw[A9o]at hR
 refine F1 (nx (bS Z (bP 1 4 Z ?_)))
 subst hR
 exact q8
def A6b (cp:Int):Int :=
 (bif ((!(B4b cp))||(A6c cp ([(⟨0,31⟩:Spn),(⟨127,159⟩:Spn)]:List Spn))) then (-1) else (bif (decide (cp<(E3y.getD 0 Spn.zero).lo)) then 1 else (bif (A6c cp E3y) then 0 else (bif (A6c cp F2z) then 2 else 1))))
theorem C1x {R:Int} (hR:A6b cp=R):J7 prog 74 [iv cp] [A1o,A1p] (iv R):=by
 refine cD Tryz.func74 fun X hX hr hD=>?_
 rw[A6b]at hR
 refine bS Z (pp0 1 Z (ie (A3 (A9 (bS Z (bP 1 4 Z (zv Z (D1q Z) (bP 2 7 Z ?_))))))))
 refine zio 6 1 7 13 (A6c cp [(⟨0,31⟩:Spn),(⟨127,159⟩:Spn)]) (fun d=>?_) ?_
 ·refine bY 3 3 [] [(8,iv cp),(9,ag (C0 ⟨0,31⟩)),(10,ag (C0 ⟨127,159⟩))] (it Z (B0 (c:=C0) (xs:=[(⟨0,31⟩:Spn),(⟨127,159⟩:Spn)]) F5k Z Z Z oki) fun f=>?_)
  have:([(⟨0,31⟩:Spn),(⟨127,159⟩:Spn)]:List Spn).length=2:=rfl
  refine zv Z (C6o (l:=[(⟨0,31⟩:Spn),(⟨127,159⟩:Spn)]) Z) (ip' 1 0 [(13,bv (A6c cp [(⟨0,31⟩:Spn),(⟨127,159⟩:Spn)]))] ?_)
  exact A1 (I1 7 7 _ d c9 bU Z Z Z Z Z)
 refine ip' 1 0 [(3,bv ((!(B4b cp))||(A6c cp [(⟨0,31⟩:Spn),(⟨127,159⟩:Spn)])))] (ie ?_)
 refine zjb Z hR ?_ ?_<;>intro hR b
 ·have a:=bV b
  refine bS Z (bP 1 2 Z ?_)
  subst hR
  exact q8
 refine bS Z (ip' 1 5 [(15,iv cp)] (ix Z (B0b Tryz.underlying208 F0r Z Z Z 0 Z (by first|decide|omega)) (ip' 1 3 [(17,pa _)] (ix Z (B6 cE Z Z (U0 (F8 (sz:=2) Z jJ 0 Z (gd _ (by first|decide|(simp only [E3y,List.length_cons,List.length_nil];omega)))) (ws:=[iv ((E3y.getD 0 Spn.zero).lo)]) 1 Z) Z) (bP 2 14 Z (ie ?_))))))
 refine cK Z hR ?_ ?_<;>intro hR h e
 ·refine bS Z (bP 1 2 Z ?_)
  subst hR
  exact q8
 refine bS Z (bP 1 21 Z (ix Z (D4s Tryz.underlying208 F0r Z Z) (zv Z (C6o (l:=E3y) Z) (bP 1 20 Z (ie ?_)))))
 refine zjb Z hR ?_ ?_<;>intro hR i
 ·refine bS Z (bP 1 2 Z ?_)
  subst hR
  exact q8
 refine bS Z (bP 1 25 Z (ix Z (D4s Tryz.underlying210 F0r Z Z) (zv Z (C6o (l:=F2z) Z) (bP 1 24 Z (ie ?_)))))
 refine zjb Z hR ?_ ?_<;>intro hR g
 ·refine bS Z (bP 1 2 Z ?_)
  subst hR
  exact q8
 refine A4 (nx (bS Z (bP 1 2 Z ?_)))
 subst hR
 exact q8
def B4l (kind:Int) (n:Int) (m:Int):Act :=
 {ZZ with kind:=kind,n:=n,m:=m}
theorem E5n {kind m:Int} {R:Act} (hR:B4l kind n m=R):J7 prog 75 [iv kind,iv n,iv m] [] (ag (A2 R)):=by
 refine cD Tryz.func75 fun X hX hr hD=>?_
 rw[B4l]at hR
 refine bS Z (cI 1 [] (fun a=>[(6,pt a 0)]) (fun _=>(A2 ZZ)) 51 fun a=>(ie (bS Z (zru 5 [0] [] 0 (bx a (A2 ({ZZ with kind:=kind,n:=n,m:=m})) 51) ?_))))
 subst hR
 exact ie (A8 (cc (I9 Z (E8 C5s Z 0)) ()))
def C6k:Unit :=
 ()
theorem D2y {R:Unit} (hR:C6k=R):J7 prog 118 [] [] (.tuple #[aH 0 0,aH 0 1,aH 1 9999,aH 0 9999]):=by
 refine cD Tryz.func118 fun X hX hr hD=>?_
 rw[C6k]at hR
 refine bS Z (pp0 4 Z (ie (bS Z (bY 12 0 [] [(0,aH 0 0),(1,aH 0 1),(2,aH 1 9999),(3,aH 0 9999)] ?_))))
 subst hR
 exact ie (A8 (cc (F9q Z A6 A6 A6 A6) ()))
def me0:Value:=ag [aH 0 3,aH 0 1]
def mt0:List (Int×Value):=[(17,me0)]
def me1:Value:=ag [aH 2 3,aH 0 0]
def mt1:List (Int×Value):=[(17,me0),(18,me1)]
def me2:Value:=ag [aH 1 9999,aH 1 9999]
def mt2:List (Int×Value):=[(17,me0),(18,me1),(19,me2)]
def me3:Value:=ag [aH 0 3,aH 1 9999]
def mt3:List (Int×Value):=[(17,me0),(18,me1),(19,me2),(20,me3)]
def me4:Value:=ag [aH 0 3,aH 0 0]
def mt4:List (Int×Value):=[(17,me0),(18,me1),(19,me2),(20,me3),(26,me4)]
def me5:Value:=ag [aH 0 2,aH 0 0]
def mt5:List (Int×Value):=[(17,me0),(18,me1),(19,me2),(20,me3),(26,me4),(27,me5)]
def me6:Value:=ag [aC 120,aH 0 0]
def mt6:List (Int×Value):=[(17,me0),(18,me1),(19,me2),(20,me3),(26,me4),(27,me5),(35,me6)]
def me7:Value:=ag [aH 0 9999,aH 0 9999]
def mt7:List (Int×Value):=[(17,me0),(18,me1),(19,me2),(20,me3),(26,me4),(27,me5),(35,me6),(38,me7)]
def me8:Value:=ag [aH 0 6,aH 0 0]
def mt8:List (Int×Value):=[(17,me0),(18,me1),(19,me2),(20,me3),(26,me4),(27,me5),(35,me6),(38,me7),(40,me8)]
def me9:Value:=ag [aH 5 6,aH 0 0]
def mt9:List (Int×Value):=[(17,me0),(18,me1),(19,me2),(20,me3),(26,me4),(27,me5),(35,me6),(38,me7),(40,me8),(41,me9)]
def B1l:Value:=ag [aH 0 0,aH 0 0]
def G1a:List (Int×Value):=[(17,me0),(18,me1),(19,me2),(20,me3),(26,me4),(27,me5),(35,me6),(38,me7),(40,me8),(41,me9),(2,B1l)]
def B2h:Value:=ag [aH 0 0,aH 0 0]
def G1v:List (Int×Value):=[(17,me0),(18,me1),(19,me2),(20,me3),(26,me4),(27,me5),(35,me6),(38,me7),(40,me8),(41,me9),(2,B1l),(3,B2h)]
def B2q:Value:=ag [aH 0 0,aH 0 0]
def G3d:List (Int×Value):=[(17,me0),(18,me1),(19,me2),(20,me3),(26,me4),(27,me5),(35,me6),(38,me7),(40,me8),(41,me9),(2,B1l),(3,B2h),(4,B2q)]
def B3o:Value:=ag [aH 0 0,aH 0 0]
def G2z:List (Int×Value):=[(17,me0),(18,me1),(19,me2),(20,me3),(26,me4),(27,me5),(35,me6),(38,me7),(40,me8),(41,me9),(2,B1l),(3,B2h),(4,B2q),(5,B3o)]
def B4e:Value:=ag [aH 0 0,aH 0 0]
def G0v:List (Int×Value):=[(17,me0),(18,me1),(19,me2),(20,me3),(26,me4),(27,me5),(35,me6),(38,me7),(40,me8),(41,me9),(2,B1l),(3,B2h),(4,B2q),(5,B3o),(6,B4e)]
def B5f:Value:=ag [aH 0 0,aH 0 0]
def G2l:List (Int×Value):=[(17,me0),(18,me1),(19,me2),(20,me3),(26,me4),(27,me5),(35,me6),(38,me7),(40,me8),(41,me9),(2,B1l),(3,B2h),(4,B2q),(5,B3o),(6,B4e),(8,B5f)]
def B5v:Value:=ag [aH 0 0,aH 0 0]
def G1k:List (Int×Value):=[(17,me0),(18,me1),(19,me2),(20,me3),(26,me4),(27,me5),(35,me6),(38,me7),(40,me8),(41,me9),(2,B1l),(3,B2h),(4,B2q),(5,B3o),(6,B4e),(8,B5f),(9,B5v)]
def B6o:Value:=ag [aH 0 0,aH 0 0]
def G0r:List (Int×Value):=[(17,me0),(18,me1),(19,me2),(20,me3),(26,me4),(27,me5),(35,me6),(38,me7),(40,me8),(41,me9),(2,B1l),(3,B2h),(4,B2q),(5,B3o),(6,B4e),(8,B5f),(9,B5v),(10,B6o)]
def B7v:Value:=ag [aH 0 0,aH 0 0]
def G1z:List (Int×Value):=[(17,me0),(18,me1),(19,me2),(20,me3),(26,me4),(27,me5),(35,me6),(38,me7),(40,me8),(41,me9),(2,B1l),(3,B2h),(4,B2q),(5,B3o),(6,B4e),(8,B5f),(9,B5v),(10,B6o),(11,B7v)]
def B8n:Value:=ag [aH 0 0,aH 0 0]
def G3e:List (Int×Value):=[(17,me0),(18,me1),(19,me2),(20,me3),(26,me4),(27,me5),(35,me6),(38,me7),(40,me8),(41,me9),(2,B1l),(3,B2h),(4,B2q),(5,B3o),(6,B4e),(8,B5f),(9,B5v),(10,B6o),(11,B7v),(12,B8n)]
def B9q:Value:=ag [aH 0 0,aH 0 0]
def G2a:List (Int×Value):=[(17,me0),(18,me1),(19,me2),(20,me3),(26,me4),(27,me5),(35,me6),(38,me7),(40,me8),(41,me9),(2,B1l),(3,B2h),(4,B2q),(5,B3o),(6,B4e),(8,B5f),(9,B5v),(10,B6o),(11,B7v),(12,B8n),(13,B9q)]
def C1a:Value:=ag [aH 0 0,aH 0 0]
def G2p:List (Int×Value):=[(17,me0),(18,me1),(19,me2),(20,me3),(26,me4),(27,me5),(35,me6),(38,me7),(40,me8),(41,me9),(2,B1l),(3,B2h),(4,B2q),(5,B3o),(6,B4e),(8,B5f),(9,B5v),(10,B6o),(11,B7v),(12,B8n),(13,B9q),(15,C1a)]
def C1r:Value:=ag [aH 0 0,aH 0 0]
def G3c:List (Int×Value):=[(17,me0),(18,me1),(19,me2),(20,me3),(26,me4),(27,me5),(35,me6),(38,me7),(40,me8),(41,me9),(2,B1l),(3,B2h),(4,B2q),(5,B3o),(6,B4e),(8,B5f),(9,B5v),(10,B6o),(11,B7v),(12,B8n),(13,B9q),(15,C1a),(16,C1r)]
def C3d:Value:=ag [aH 0 1,aH 0 0]
def G1u:List (Int×Value):=[(17,me0),(18,me1),(19,me2),(20,me3),(26,me4),(27,me5),(35,me6),(38,me7),(40,me8),(41,me9),(2,B1l),(3,B2h),(4,B2q),(5,B3o),(6,B4e),(8,B5f),(9,B5v),(10,B6o),(11,B7v),(12,B8n),(13,B9q),(15,C1a),(16,C1r),(7,C3d)]
def C4k:Value:=ag [aH 0 1,aH 0 0]
def G2o:List (Int×Value):=[(17,me0),(18,me1),(19,me2),(20,me3),(26,me4),(27,me5),(35,me6),(38,me7),(40,me8),(41,me9),(2,B1l),(3,B2h),(4,B2q),(5,B3o),(6,B4e),(8,B5f),(9,B5v),(10,B6o),(11,B7v),(12,B8n),(13,B9q),(15,C1a),(16,C1r),(7,C3d),(14,C4k)]
def C5q:Value:=ag [aH 0 1,aH 0 0]
def G0t:List (Int×Value):=[(17,me0),(18,me1),(19,me2),(20,me3),(26,me4),(27,me5),(35,me6),(38,me7),(40,me8),(41,me9),(2,B1l),(3,B2h),(4,B2q),(5,B3o),(6,B4e),(8,B5f),(9,B5v),(10,B6o),(11,B7v),(12,B8n),(13,B9q),(15,C1a),(16,C1r),(7,C3d),(14,C4k),(42,C5q)]
def C7m:Value:=ag [aH 0 1,aH 1 9999]
def G2j:List (Int×Value):=[(17,me0),(18,me1),(19,me2),(20,me3),(26,me4),(27,me5),(35,me6),(38,me7),(40,me8),(41,me9),(2,B1l),(3,B2h),(4,B2q),(5,B3o),(6,B4e),(8,B5f),(9,B5v),(10,B6o),(11,B7v),(12,B8n),(13,B9q),(15,C1a),(16,C1r),(7,C3d),(14,C4k),(42,C5q),(21,C7m)]
def C8d:Value:=ag [aH 0 1,aH 1 9999]
def G1r:List (Int×Value):=[(17,me0),(18,me1),(19,me2),(20,me3),(26,me4),(27,me5),(35,me6),(38,me7),(40,me8),(41,me9),(2,B1l),(3,B2h),(4,B2q),(5,B3o),(6,B4e),(8,B5f),(9,B5v),(10,B6o),(11,B7v),(12,B8n),(13,B9q),(15,C1a),(16,C1r),(7,C3d),(14,C4k),(42,C5q),(21,C7m),(33,C8d)]
def D1f:Value:=ag [aH 1 9999,aH 0 0]
def G1b:List (Int×Value):=[(17,me0),(18,me1),(19,me2),(20,me3),(26,me4),(27,me5),(35,me6),(38,me7),(40,me8),(41,me9),(2,B1l),(3,B2h),(4,B2q),(5,B3o),(6,B4e),(8,B5f),(9,B5v),(10,B6o),(11,B7v),(12,B8n),(13,B9q),(15,C1a),(16,C1r),(7,C3d),(14,C4k),(42,C5q),(21,C7m),(33,C8d),(22,D1f)]
def D3u:Value:=ag [aH 1 9999,aH 0 0]
def G2n:List (Int×Value):=[(17,me0),(18,me1),(19,me2),(20,me3),(26,me4),(27,me5),(35,me6),(38,me7),(40,me8),(41,me9),(2,B1l),(3,B2h),(4,B2q),(5,B3o),(6,B4e),(8,B5f),(9,B5v),(10,B6o),(11,B7v),(12,B8n),(13,B9q),(15,C1a),(16,C1r),(7,C3d),(14,C4k),(42,C5q),(21,C7m),(33,C8d),(22,D1f),(23,D3u)]
def D6o:Value:=ag [aH 1 9999,aH 0 0]
def G3f:List (Int×Value):=[(17,me0),(18,me1),(19,me2),(20,me3),(26,me4),(27,me5),(35,me6),(38,me7),(40,me8),(41,me9),(2,B1l),(3,B2h),(4,B2q),(5,B3o),(6,B4e),(8,B5f),(9,B5v),(10,B6o),(11,B7v),(12,B8n),(13,B9q),(15,C1a),(16,C1r),(7,C3d),(14,C4k),(42,C5q),(21,C7m),(33,C8d),(22,D1f),(23,D3u),(24,D6o)]
def D9j:Value:=ag [aH 1 9999,aH 0 0]
def G2s:List (Int×Value):=[(17,me0),(18,me1),(19,me2),(20,me3),(26,me4),(27,me5),(35,me6),(38,me7),(40,me8),(41,me9),(2,B1l),(3,B2h),(4,B2q),(5,B3o),(6,B4e),(8,B5f),(9,B5v),(10,B6o),(11,B7v),(12,B8n),(13,B9q),(15,C1a),(16,C1r),(7,C3d),(14,C4k),(42,C5q),(21,C7m),(33,C8d),(22,D1f),(23,D3u),(24,D6o),(25,D9j)]
def E4m:Value:=ag [aH 1 9999,aH 0 0]
def G0x:List (Int×Value):=[(17,me0),(18,me1),(19,me2),(20,me3),(26,me4),(27,me5),(35,me6),(38,me7),(40,me8),(41,me9),(2,B1l),(3,B2h),(4,B2q),(5,B3o),(6,B4e),(8,B5f),(9,B5v),(10,B6o),(11,B7v),(12,B8n),(13,B9q),(15,C1a),(16,C1r),(7,C3d),(14,C4k),(42,C5q),(21,C7m),(33,C8d),(22,D1f),(23,D3u),(24,D6o),(25,D9j),(28,E4m)]
def E4v:Value:=ag [aH 1 9999,aH 0 0]
def G1j:List (Int×Value):=[(17,me0),(18,me1),(19,me2),(20,me3),(26,me4),(27,me5),(35,me6),(38,me7),(40,me8),(41,me9),(2,B1l),(3,B2h),(4,B2q),(5,B3o),(6,B4e),(8,B5f),(9,B5v),(10,B6o),(11,B7v),(12,B8n),(13,B9q),(15,C1a),(16,C1r),(7,C3d),(14,C4k),(42,C5q),(21,C7m),(33,C8d),(22,D1f),(23,D3u),(24,D6o),(25,D9j),(28,E4m),(29,E4v)]
def E8i:Value:=ag [aH 1 9999,aH 0 0]
def G2v:List (Int×Value):=[(17,me0),(18,me1),(19,me2),(20,me3),(26,me4),(27,me5),(35,me6),(38,me7),(40,me8),(41,me9),(2,B1l),(3,B2h),(4,B2q),(5,B3o),(6,B4e),(8,B5f),(9,B5v),(10,B6o),(11,B7v),(12,B8n),(13,B9q),(15,C1a),(16,C1r),(7,C3d),(14,C4k),(42,C5q),(21,C7m),(33,C8d),(22,D1f),(23,D3u),(24,D6o),(25,D9j),(28,E4m),(29,E4v),(30,E8i)]
def F2w:Value:=ag [aH 1 9999,aH 0 0]
def G2d:List (Int×Value):=[(17,me0),(18,me1),(19,me2),(20,me3),(26,me4),(27,me5),(35,me6),(38,me7),(40,me8),(41,me9),(2,B1l),(3,B2h),(4,B2q),(5,B3o),(6,B4e),(8,B5f),(9,B5v),(10,B6o),(11,B7v),(12,B8n),(13,B9q),(15,C1a),(16,C1r),(7,C3d),(14,C4k),(42,C5q),(21,C7m),(33,C8d),(22,D1f),(23,D3u),(24,D6o),(25,D9j),(28,E4m),(29,E4v),(30,E8i),(31,F2w)]
def F7g:Value:=ag [aH 1 9999,aH 0 0]
def G1n:List (Int×Value):=[(17,me0),(18,me1),(19,me2),(20,me3),(26,me4),(27,me5),(35,me6),(38,me7),(40,me8),(41,me9),(2,B1l),(3,B2h),(4,B2q),(5,B3o),(6,B4e),(8,B5f),(9,B5v),(10,B6o),(11,B7v),(12,B8n),(13,B9q),(15,C1a),(16,C1r),(7,C3d),(14,C4k),(42,C5q),(21,C7m),(33,C8d),(22,D1f),(23,D3u),(24,D6o),(25,D9j),(28,E4m),(29,E4v),(30,E8i),(31,F2w),(32,F7g)]
def F7p:Value:=ag [aH 1 9999,aH 0 0]
def G0u:List (Int×Value):=[(17,me0),(18,me1),(19,me2),(20,me3),(26,me4),(27,me5),(35,me6),(38,me7),(40,me8),(41,me9),(2,B1l),(3,B2h),(4,B2q),(5,B3o),(6,B4e),(8,B5f),(9,B5v),(10,B6o),(11,B7v),(12,B8n),(13,B9q),(15,C1a),(16,C1r),(7,C3d),(14,C4k),(42,C5q),(21,C7m),(33,C8d),(22,D1f),(23,D3u),(24,D6o),(25,D9j),(28,E4m),(29,E4v),(30,E8i),(31,F2w),(32,F7g),(34,F7p)]
def G1q:Value:=ag [aH 0 9999,aH 0 1]
def G2t:List (Int×Value):=[(17,me0),(18,me1),(19,me2),(20,me3),(26,me4),(27,me5),(35,me6),(38,me7),(40,me8),(41,me9),(2,B1l),(3,B2h),(4,B2q),(5,B3o),(6,B4e),(8,B5f),(9,B5v),(10,B6o),(11,B7v),(12,B8n),(13,B9q),(15,C1a),(16,C1r),(7,C3d),(14,C4k),(42,C5q),(21,C7m),(33,C8d),(22,D1f),(23,D3u),(24,D6o),(25,D9j),(28,E4m),(29,E4v),(30,E8i),(31,F2w),(32,F7g),(34,F7p),(36,G1q)]
def G4l:Value:=ag [aH 0 9999,aH 0 1]
def G1s:List (Int×Value):=[(17,me0),(18,me1),(19,me2),(20,me3),(26,me4),(27,me5),(35,me6),(38,me7),(40,me8),(41,me9),(2,B1l),(3,B2h),(4,B2q),(5,B3o),(6,B4e),(8,B5f),(9,B5v),(10,B6o),(11,B7v),(12,B8n),(13,B9q),(15,C1a),(16,C1r),(7,C3d),(14,C4k),(42,C5q),(21,C7m),(33,C8d),(22,D1f),(23,D3u),(24,D6o),(25,D9j),(28,E4m),(29,E4v),(30,E8i),(31,F2w),(32,F7g),(34,F7p),(36,G1q),(37,G4l)]
def G6c:Value:=ag [aH 0 9999,aH 0 1]
def G1x:List (Int×Value):=[(17,me0),(18,me1),(19,me2),(20,me3),(26,me4),(27,me5),(35,me6),(38,me7),(40,me8),(41,me9),(2,B1l),(3,B2h),(4,B2q),(5,B3o),(6,B4e),(8,B5f),(9,B5v),(10,B6o),(11,B7v),(12,B8n),(13,B9q),(15,C1a),(16,C1r),(7,C3d),(14,C4k),(42,C5q),(21,C7m),(33,C8d),(22,D1f),(23,D3u),(24,D6o),(25,D9j),(28,E4m),(29,E4v),(30,E8i),(31,F2w),(32,F7g),(34,F7p),(36,G1q),(37,G4l),(43,G6c)]
def C3u:Unit :=
 ()
set_option maxHeartbeats 2000000 in
theorem C0y {R:Unit} (hR:C3u=R):cM prog 78 [] [] [] (Nat) (fun x=>.map (some x)) (fun x=>[(x,.map (C1 G1x 0).toArray 41)]) (fun x=>[]):=by
 refine cD Tryz.func78 fun X hX hr hD=>?_
 rw[C3u]at hR
 refine bS Z (pp0 1 Z (ie (bS Z (zv Z (D2y Z) (ip' 9 0 [(1,aH 0 0),(2,aH 0 1),(3,aH 1 9999),(4,aH 0 9999)] (ie (bS Z (it Z (B8x Z) fun a=>(bY 4 44 [] [(26,ag [aH 0 3,aH 0 1])] (it Z (G0 (es:=#[]) (es':=(C1 mt0 0).toArray) S1 (.inl Z) Z Z Z 0) fun _=>?_))))))))))
 refine znl [(a,.map (C1 mt0 0).toArray 1)] (bY 4 39 [] [(30,ag [aH 2 3,aH 0 0])] (it Z (G0 (es:=(C1 mt0 0).toArray) (es':=(C1 mt1 0).toArray) S1 (.inl Z) Z Z Z 0) fun _=>?_))
 refine znl [(a,.map (C1 mt1 0).toArray 2)] (bY 3 35 [] [(33,ag [aH 1 9999,aH 1 9999])] (it Z (G0 (es:=(C1 mt1 0).toArray) (es':=(C1 mt2 0).toArray) S1 (.inl Z) Z Z Z 0) fun _=>?_))
 refine znl [(a,.map (C1 mt2 0).toArray 3)] (bY 4 30 [] [(37,ag [aH 0 3,aH 1 9999])] (it Z (G0 (es:=(C1 mt2 0).toArray) (es':=(C1 mt3 0).toArray) S1 (.inl Z) Z Z Z 0) fun _=>?_))
 refine znl [(a,.map (C1 mt3 0).toArray 4)] (bY 4 25 [] [(41,ag [aH 0 3,aH 0 0])] (it Z (G0 (es:=(C1 mt3 0).toArray) (es':=(C1 mt4 0).toArray) S1 (.inl Z) Z Z Z 0) fun _=>?_))
 refine znl [(a,.map (C1 mt4 0).toArray 5)] (bY 4 20 [] [(45,ag [aH 0 2,aH 0 0])] (it Z (G0 (es:=(C1 mt4 0).toArray) (es':=(C1 mt5 0).toArray) S1 (.inl Z) Z Z Z 0) fun _=>?_))
 refine znl [(a,.map (C1 mt5 0).toArray 6)] (bY 2 17 [] [(47,ag [aC 120,aH 0 0])] (it Z (G0 (es:=(C1 mt5 0).toArray) (es':=(C1 mt6 0).toArray) S1 (.inl Z) Z Z Z 0) fun _=>?_))
 refine znl [(a,.map (C1 mt6 0).toArray 7)] (bY 3 13 [] [(50,ag [aH 0 9999,aH 0 9999])] (it Z (G0 (es:=(C1 mt6 0).toArray) (es':=(C1 mt7 0).toArray) S1 (.inl Z) Z Z Z 0) fun _=>?_))
 refine znl [(a,.map (C1 mt7 0).toArray 8)] (bY 4 8 [] [(54,ag [aH 0 6,aH 0 0])] (it Z (G0 (es:=(C1 mt7 0).toArray) (es':=(C1 mt8 0).toArray) S1 (.inl Z) Z Z Z 0) fun _=>?_))
 refine znl [(a,.map (C1 mt8 0).toArray 9)] (bY 4 3 [] [(58,ag [aH 5 6,aH 0 0])] (it Z (G0 (es:=(C1 mt8 0).toArray) (es':=(C1 mt9 0).toArray) S1 (.inl Z) Z Z Z 0) fun _=>?_))
 refine znl [(a,.map _ 10)] (bP 2 5 Z (ie (A3 (bS Z (bY 2 0 [] [(60,ag [iv 2,iv 3,iv 4,iv 5,iv 6,iv 8,iv 9,iv 10,iv 11,iv 12,iv 13,iv 15,iv 16]),(61,iv 0)] (ie (A9 (A1g 15 ?_))))))))
 refine E9 (bS Z (bP 1 62 Z (ie (A3 (K1 Z (A4 (nx (A3 (A9 (bS Z (ix Z (F3 Tryz.underlying228 cE Z Z Z 0) (bP 1 7 Z (ie (A0 6 Z (bY 5 1 [] [(64,.map (some a)),(65,iv 2),(68,ag [aH 0 0,aH 0 0])] (it Z (G0 (es:=(C1 mt9 0).toArray) (es':=(C1 G1a 0).toArray) S1 (.inr Z) Z Z Z 0) fun _=>?_))))))))))))))))
 refine znl [(a,.map _ 11)] (A1 (nx (A0 2 Z (ix Z (B1 (c:=1)) (bP 1 61 Z (A1 (E9 (bS Z (bP 1 62 Z (ie (A3 (K1 Z (A4 (nx (A3 (A9 (bS Z (ix Z (F3 Tryz.underlying228 cE Z Z Z 1) (bP 1 7 Z (ie (A0 6 Z (bY 5 1 [] [(64,.map (some a)),(65,iv 3),(68,ag [aH 0 0,aH 0 0])] ?_))))))))))))))))))))))
 refine it Z (G0 (es:=(C1 G1a 0).toArray) (es':=(C1 G1v 0).toArray) S1 (.inr Z) Z Z Z 0) fun _=>(znl [(a,.map _ 12)] (A1 (nx (A0 2 Z (ix Z (B1 (c:=2)) (bP 1 61 Z (A1 (E9 (bS Z (bP 1 62 Z (ie (A3 (K1 Z (A4 (nx (A3 (A9 (bS Z (ix Z (F3 Tryz.underlying228 cE Z Z Z 2) (bP 1 7 Z (ie (A0 6 Z (bY 5 1 [] [(64,.map (some a)),(65,iv 4),(68,ag [aH 0 0,aH 0 0])] ?_)))))))))))))))))))))))
 refine it Z (G0 (es:=(C1 G1v 0).toArray) (es':=(C1 G3d 0).toArray) S1 (.inr Z) Z Z Z 0) fun _=>(znl [(a,.map _ 13)] (A1 (nx (A0 2 Z (ix Z (B1 (c:=3)) (bP 1 61 Z (A1 (E9 (bS Z (bP 1 62 Z (ie (A3 (K1 Z (A4 (nx (A3 (A9 (bS Z (ix Z (F3 Tryz.underlying228 cE Z Z Z 3) (bP 1 7 Z (ie (A0 6 Z (bY 5 1 [] [(64,.map (some a)),(65,iv 5),(68,ag [aH 0 0,aH 0 0])] ?_)))))))))))))))))))))))
 refine it Z (G0 (es:=(C1 G3d 0).toArray) (es':=(C1 G2z 0).toArray) S1 (.inr Z) Z Z Z 0) fun _=>(znl [(a,.map _ 14)] (A1 (nx (A0 2 Z (ix Z (B1 (c:=4)) (bP 1 61 Z (A1 (E9 (bS Z (bP 1 62 Z (ie (A3 (K1 Z (A4 (nx (A3 (A9 (bS Z (ix Z (F3 Tryz.underlying228 cE Z Z Z 4) (bP 1 7 Z (ie (A0 6 Z (bY 5 1 [] [(64,.map (some a)),(65,iv 6),(68,ag [aH 0 0,aH 0 0])] ?_)))))))))))))))))))))))
 refine it Z (G0 (es:=(C1 G2z 0).toArray) (es':=(C1 G0v 0).toArray) S1 (.inr Z) Z Z Z 0) fun _=>(znl [(a,.map _ 15)] (A1 (nx (A0 2 Z (ix Z (B1 (c:=5)) (bP 1 61 Z (A1 (E9 (bS Z (bP 1 62 Z (ie (A3 (K1 Z (A4 (nx (A3 (A9 (bS Z (ix Z (F3 Tryz.underlying228 cE Z Z Z 5) (bP 1 7 Z (ie (A0 6 Z (bY 5 1 [] [(64,.map (some a)),(65,iv 8),(68,ag [aH 0 0,aH 0 0])] ?_)))))))))))))))))))))))
 refine it Z (G0 (es:=(C1 G0v 0).toArray) (es':=(C1 G2l 0).toArray) S1 (.inr Z) Z Z Z 0) fun _=>(znl [(a,.map _ 16)] (A1 (nx (A0 2 Z (ix Z (B1 (c:=6)) (bP 1 61 Z (A1 (E9 (bS Z (bP 1 62 Z (ie (A3 (K1 Z (A4 (nx (A3 (A9 (bS Z (ix Z (F3 Tryz.underlying228 cE Z Z Z 6) (bP 1 7 Z (ie (A0 6 Z (bY 5 1 [] [(64,.map (some a)),(65,iv 9),(68,ag [aH 0 0,aH 0 0])] ?_)))))))))))))))))))))))
 refine it Z (G0 (es:=(C1 G2l 0).toArray) (es':=(C1 G1k 0).toArray) S1 (.inr Z) Z Z Z 0) fun _=>(znl [(a,.map _ 17)] (A1 (nx (A0 2 Z (ix Z (B1 (c:=7)) (bP 1 61 Z (A1 (E9 (bS Z (bP 1 62 Z (ie (A3 (K1 Z (A4 (nx (A3 (A9 (bS Z (ix Z (F3 Tryz.underlying228 cE Z Z Z 7) (bP 1 7 Z (ie (A0 6 Z (bY 5 1 [] [(64,.map (some a)),(65,iv 10),(68,ag [aH 0 0,aH 0 0])] ?_)))))))))))))))))))))))
 refine it Z (G0 (es:=(C1 G1k 0).toArray) (es':=(C1 G0r 0).toArray) S1 (.inr Z) Z Z Z 0) fun _=>(znl [(a,.map _ 18)] (A1 (nx (A0 2 Z (ix Z (B1 (c:=8)) (bP 1 61 Z (A1 (E9 (bS Z (bP 1 62 Z (ie (A3 (K1 Z (A4 (nx (A3 (A9 (bS Z (ix Z (F3 Tryz.underlying228 cE Z Z Z 8) (bP 1 7 Z (ie (A0 6 Z (bY 5 1 [] [(64,.map (some a)),(65,iv 11),(68,ag [aH 0 0,aH 0 0])] ?_)))))))))))))))))))))))
 refine it Z (G0 (es:=(C1 G0r 0).toArray) (es':=(C1 G1z 0).toArray) S1 (.inr Z) Z Z Z 0) fun _=>(znl [(a,.map _ 19)] (A1 (nx (A0 2 Z (ix Z (B1 (c:=9)) (bP 1 61 Z (A1 (E9 (bS Z (bP 1 62 Z (ie (A3 (K1 Z (A4 (nx (A3 (A9 (bS Z (ix Z (F3 Tryz.underlying228 cE Z Z Z 9) (bP 1 7 Z (ie (A0 6 Z (bY 5 1 [] [(64,.map (some a)),(65,iv 12),(68,ag [aH 0 0,aH 0 0])] ?_)))))))))))))))))))))))
 refine it Z (G0 (es:=(C1 G1z 0).toArray) (es':=(C1 G3e 0).toArray) S1 (.inr Z) Z Z Z 0) fun _=>(znl [(a,.map _ 20)] (A1 (nx (A0 2 Z (ix Z (B1 (c:=10)) (bP 1 61 Z (A1 (E9 (bS Z (bP 1 62 Z (ie (A3 (K1 Z (A4 (nx (A3 (A9 (bS Z (ix Z (F3 Tryz.underlying228 cE Z Z Z _) (bP 1 7 Z (ie (A0 6 Z (bY 5 1 [] [(64,.map (some a)),(65,iv 13),(68,ag [aH 0 0,aH 0 0])] ?_)))))))))))))))))))))))
 refine it Z (G0 (es:=(C1 G3e 0).toArray) (es':=(C1 G2a 0).toArray) S1 (.inr Z) Z Z Z 0) fun _=>(znl [(a,.map _ 21)] (A1 (nx (A0 2 Z (ix Z (B1 (c:=11)) (bP 1 61 Z (A1 (E9 (bS Z (bP 1 62 Z (ie (A3 (K1 Z (A4 (nx (A3 (A9 (bS Z (ix Z (F3 Tryz.underlying228 cE Z Z Z _) (bP 1 7 Z (ie (A0 6 Z (bY 5 1 [] [(64,.map (some a)),(65,iv 15),(68,ag [aH 0 0,aH 0 0])] ?_)))))))))))))))))))))))
 refine it Z (G0 (es:=(C1 G2a 0).toArray) (es':=(C1 G2p 0).toArray) S1 (.inr Z) Z Z Z 0) fun _=>(znl [(a,.map _ 22)] (A1 (nx (A0 2 Z (ix Z (B1 (c:=12)) (bP 1 61 Z (A1 (E9 (bS Z (bP 1 62 Z (ie (A3 (K1 Z (A4 (nx (A3 (A9 (bS Z (ix Z (F3 Tryz.underlying228 cE Z Z Z _) (bP 1 7 Z (ie (A0 6 Z (bY 5 1 [] [(64,.map (some a)),(65,iv 16),(68,ag [aH 0 0,aH 0 0])] ?_)))))))))))))))))))))))
 refine it Z (G0 (es:=(C1 G2p 0).toArray) (es':=(C1 G3c 0).toArray) S1 (.inr Z) Z Z Z 0) fun _=>(znl [(a,.map _ 23)] (A1 (nx (A0 2 Z (ix Z (B1 (c:=13)) (bP 1 61 Z (A1 (E9 (bS Z (bP 1 62 Z (ie (A3 (A5t Z (F1 (nx (A3 (bS Z (bY 2 0 [] [(70,ag (B5d ⟨7,14,42⟩)),(71,iv 0)] (ie (A9 (A1g 5 ?_)))))))))))))))))))))
 refine E9 (bS Z (bP 1 72 Z (ie (A3 (K1 Z (A4 (nx (A3 (A9 (bS Z (ix Z (F3 Tryz.underlying229 cE Z Z Z 0) (bP 1 9 Z (ie (A0 6 Z (bY 5 1 [] [(74,.map (some a)),(75,iv 7),(78,ag [aH 0 1,aH 0 0])] (it Z (G0 (es:=(C1 G3c 0).toArray) (es':=(C1 G1u 0).toArray) S1 (.inr Z) Z Z Z 0) fun _=>?_))))))))))))))))
 refine znl [(a,.map _ 24)] (A1 (nx (A0 2 Z (ix Z (B1 (c:=1)) (bP 1 71 Z (A1 (E9 (bS Z (bP 1 72 Z (ie (A3 (K1 Z (A4 (nx (A3 (A9 (bS Z (ix Z (F3 Tryz.underlying229 cE Z Z Z 1) (bP 1 9 Z (ie (A0 6 Z (bY 5 1 [] [(74,.map (some a)),(75,iv 14),(78,ag [aH 0 1,aH 0 0])] ?_))))))))))))))))))))))
 refine it Z (G0 (es:=(C1 G1u 0).toArray) (es':=(C1 G2o 0).toArray) S1 (.inr Z) Z Z Z 0) fun _=>(znl [(a,.map _ 25)] (A1 (nx (A0 2 Z (ix Z (B1 (c:=2)) (bP 1 71 Z (A1 (E9 (bS Z (bP 1 72 Z (ie (A3 (K1 Z (A4 (nx (A3 (A9 (bS Z (ix Z (F3 Tryz.underlying229 cE Z Z Z 2) (bP 1 9 Z (ie (A0 6 Z (bY 5 1 [] [(74,.map (some a)),(75,iv 42),(78,ag [aH 0 1,aH 0 0])] ?_)))))))))))))))))))))))
 refine it Z (G0 (es:=(C1 G2o 0).toArray) (es':=(C1 G0t 0).toArray) S1 (.inr Z) Z Z Z 0) fun _=>(znl [(a,.map _ 26)] (A1 (nx (A0 2 Z (ix Z (B1 (c:=3)) (bP 1 71 Z (A1 (E9 (bS Z (bP 1 72 Z (ie (A3 (A5t Z (F1 (nx (A3 (bS Z (bY 2 0 [] [(80,ag (A3a ⟨21,33⟩)),(81,iv 0)] (ie (A9 (A1g 4 ?_)))))))))))))))))))))
 refine E9 (bS Z (bP 1 82 Z (ie (A3 (K1 Z (A4 (nx (A3 (A9 (bS Z (ix Z (F3 Tryz.underlying69 cE Z Z Z 0) (bP 1 11 Z (ie (A0 6 Z (bY 5 1 [] [(84,.map (some a)),(85,iv 21),(88,ag [aH 0 1,aH 1 9999])] (it Z (G0 (es:=(C1 G0t 0).toArray) (es':=(C1 G2j 0).toArray) S1 (.inr Z) Z Z Z 0) fun _=>?_))))))))))))))))
 refine znl [(a,.map _ 27)] (A1 (nx (A0 2 Z (ix Z (B1 (c:=1)) (bP 1 81 Z (A1 (E9 (bS Z (bP 1 82 Z (ie (A3 (K1 Z (A4 (nx (A3 (A9 (bS Z (ix Z (F3 Tryz.underlying69 cE Z Z Z 1) (bP 1 11 Z (ie (A0 6 Z (bY 5 1 [] [(84,.map (some a)),(85,iv 33),(88,ag [aH 0 1,aH 1 9999])] ?_))))))))))))))))))))))
 refine it Z (G0 (es:=(C1 G2j 0).toArray) (es':=(C1 G1r 0).toArray) S1 (.inr Z) Z Z Z 0) fun _=>(znl [(a,.map _ 28)] (A1 (nx (A0 2 Z (ix Z (B1 (c:=2)) (bP 1 81 Z (A1 (E9 (bS Z (bP 1 82 Z (ie (A3 (A5t Z (F1 (nx (A3 (bS Z (bY 2 0 [] [(90,ag [iv 22,iv 23,iv 24,iv 25,iv 28,iv 29,iv 30,iv 31,iv 32,iv 34]),(91,iv 0)] (ie (A9 (A1g 12 ?_)))))))))))))))))))))
 refine E9 (bS Z (bP 1 92 Z (ie (A3 (K1 Z (A4 (nx (A3 (A9 (bS Z (ix Z (F3 Tryz.underlying230 cE Z Z Z 0) (bP 1 13 Z (ie (A0 6 Z (bY 5 1 [] [(94,.map (some a)),(95,iv 22),(98,ag [aH 1 9999,aH 0 0])] (it Z (G0 (es:=(C1 G1r 0).toArray) (es':=(C1 G1b 0).toArray) S1 (.inr Z) Z Z Z 0) fun _=>?_))))))))))))))))
 refine znl [(a,.map _ 29)] (A1 (nx (A0 2 Z (ix Z (B1 (c:=1)) (bP 1 91 Z (A1 (E9 (bS Z (bP 1 92 Z (ie (A3 (K1 Z (A4 (nx (A3 (A9 (bS Z (ix Z (F3 Tryz.underlying230 cE Z Z Z 1) (bP 1 13 Z (ie (A0 6 Z (bY 5 1 [] [(94,.map (some a)),(95,iv 23),(98,ag [aH 1 9999,aH 0 0])] ?_))))))))))))))))))))))
 refine it Z (G0 (es:=(C1 G1b 0).toArray) (es':=(C1 G2n 0).toArray) S1 (.inr Z) Z Z Z 0) fun _=>(znl [(a,.map _ 30)] (A1 (nx (A0 2 Z (ix Z (B1 (c:=2)) (bP 1 91 Z (A1 (E9 (bS Z (bP 1 92 Z (ie (A3 (K1 Z (A4 (nx (A3 (A9 (bS Z (ix Z (F3 Tryz.underlying230 cE Z Z Z 2) (bP 1 13 Z (ie (A0 6 Z (bY 5 1 [] [(94,.map (some a)),(95,iv 24),(98,ag [aH 1 9999,aH 0 0])] ?_)))))))))))))))))))))))
 refine it Z (G0 (es:=(C1 G2n 0).toArray) (es':=(C1 G3f 0).toArray) S1 (.inr Z) Z Z Z 0) fun _=>(znl [(a,.map _ 31)] (A1 (nx (A0 2 Z (ix Z (B1 (c:=3)) (bP 1 91 Z (A1 (E9 (bS Z (bP 1 92 Z (ie (A3 (K1 Z (A4 (nx (A3 (A9 (bS Z (ix Z (F3 Tryz.underlying230 cE Z Z Z 3) (bP 1 13 Z (ie (A0 6 Z (bY 5 1 [] [(94,.map (some a)),(95,iv 25),(98,ag [aH 1 9999,aH 0 0])] ?_)))))))))))))))))))))))
 refine it Z (G0 (es:=(C1 G3f 0).toArray) (es':=(C1 G2s 0).toArray) S1 (.inr Z) Z Z Z 0) fun _=>(znl [(a,.map _ 32)] (A1 (nx (A0 2 Z (ix Z (B1 (c:=4)) (bP 1 91 Z (A1 (E9 (bS Z (bP 1 92 Z (ie (A3 (K1 Z (A4 (nx (A3 (A9 (bS Z (ix Z (F3 Tryz.underlying230 cE Z Z Z 4) (bP 1 13 Z (ie (A0 6 Z (bY 5 1 [] [(94,.map (some a)),(95,iv 28),(98,ag [aH 1 9999,aH 0 0])] ?_)))))))))))))))))))))))
 refine it Z (G0 (es:=(C1 G2s 0).toArray) (es':=(C1 G0x 0).toArray) S1 (.inr Z) Z Z Z 0) fun _=>(znl [(a,.map _ 33)] (A1 (nx (A0 2 Z (ix Z (B1 (c:=5)) (bP 1 91 Z (A1 (E9 (bS Z (bP 1 92 Z (ie (A3 (K1 Z (A4 (nx (A3 (A9 (bS Z (ix Z (F3 Tryz.underlying230 cE Z Z Z 5) (bP 1 13 Z (ie (A0 6 Z (bY 5 1 [] [(94,.map (some a)),(95,iv 29),(98,ag [aH 1 9999,aH 0 0])] ?_)))))))))))))))))))))))
 refine it Z (G0 (es:=(C1 G0x 0).toArray) (es':=(C1 G1j 0).toArray) S1 (.inr Z) Z Z Z 0) fun _=>(znl [(a,.map _ 34)] (A1 (nx (A0 2 Z (ix Z (B1 (c:=6)) (bP 1 91 Z (A1 (E9 (bS Z (bP 1 92 Z (ie (A3 (K1 Z (A4 (nx (A3 (A9 (bS Z (ix Z (F3 Tryz.underlying230 cE Z Z Z 6) (bP 1 13 Z (ie (A0 6 Z (bY 5 1 [] [(94,.map (some a)),(95,iv 30),(98,ag [aH 1 9999,aH 0 0])] ?_)))))))))))))))))))))))
 refine it Z (G0 (es:=(C1 G1j 0).toArray) (es':=(C1 G2v 0).toArray) S1 (.inr Z) Z Z Z 0) fun _=>(znl [(a,.map _ 35)] (A1 (nx (A0 2 Z (ix Z (B1 (c:=7)) (bP 1 91 Z (A1 (E9 (bS Z (bP 1 92 Z (ie (A3 (K1 Z (A4 (nx (A3 (A9 (bS Z (ix Z (F3 Tryz.underlying230 cE Z Z Z 7) (bP 1 13 Z (ie (A0 6 Z (bY 5 1 [] [(94,.map (some a)),(95,iv 31),(98,ag [aH 1 9999,aH 0 0])] ?_)))))))))))))))))))))))
 refine it Z (G0 (es:=(C1 G2v 0).toArray) (es':=(C1 G2d 0).toArray) S1 (.inr Z) Z Z Z 0) fun _=>(znl [(a,.map _ 36)] (A1 (nx (A0 2 Z (ix Z (B1 (c:=8)) (bP 1 91 Z (A1 (E9 (bS Z (bP 1 92 Z (ie (A3 (K1 Z (A4 (nx (A3 (A9 (bS Z (ix Z (F3 Tryz.underlying230 cE Z Z Z 8) (bP 1 13 Z (ie (A0 6 Z (bY 5 1 [] [(94,.map (some a)),(95,iv 32),(98,ag [aH 1 9999,aH 0 0])] ?_)))))))))))))))))))))))
 refine it Z (G0 (es:=(C1 G2d 0).toArray) (es':=(C1 G1n 0).toArray) S1 (.inr Z) Z Z Z 0) fun _=>(znl [(a,.map _ 37)] (A1 (nx (A0 2 Z (ix Z (B1 (c:=9)) (bP 1 91 Z (A1 (E9 (bS Z (bP 1 92 Z (ie (A3 (K1 Z (A4 (nx (A3 (A9 (bS Z (ix Z (F3 Tryz.underlying230 cE Z Z Z 9) (bP 1 13 Z (ie (A0 6 Z (bY 5 1 [] [(94,.map (some a)),(95,iv 34),(98,ag [aH 1 9999,aH 0 0])] ?_)))))))))))))))))))))))
 refine it Z (G0 (es:=(C1 G1n 0).toArray) (es':=(C1 G0u 0).toArray) S1 (.inr Z) Z Z Z 0) fun _=>(znl [(a,.map _ 38)] (A1 (nx (A0 2 Z (ix Z (B1 (c:=10)) (bP 1 91 Z (A1 (E9 (bS Z (bP 1 92 Z (ie (A3 (A5t Z (F1 (nx (A3 (bS Z (bY 2 0 [] [(100,ag (B5d ⟨36,37,43⟩)),(101,iv 0)] (ie (A9 (A1g 5 ?_)))))))))))))))))))))
 refine E9 (bS Z (bP 1 102 Z (ie (A3 (K1 Z (A4 (nx (A3 (A9 (bS Z (ix Z (F3 Tryz.underlying229 cE Z Z Z 0) (bP 1 15 Z (ie (A0 6 Z (bY 5 1 [] [(104,.map (some a)),(105,iv 36),(108,ag [aH 0 9999,aH 0 1])] (it Z (G0 (es:=(C1 G0u 0).toArray) (es':=(C1 G2t 0).toArray) S1 (.inr Z) Z Z Z 0) fun _=>?_))))))))))))))))
 refine znl [(a,.map _ 39)] (A1 (nx (A0 2 Z (ix Z (B1 (c:=1)) (bP 1 101 Z (A1 (E9 (bS Z (bP 1 102 Z (ie (A3 (K1 Z (A4 (nx (A3 (A9 (bS Z (ix Z (F3 Tryz.underlying229 cE Z Z Z 1) (bP 1 15 Z (ie (A0 6 Z (bY 5 1 [] [(104,.map (some a)),(105,iv 37),(108,ag [aH 0 9999,aH 0 1])] ?_))))))))))))))))))))))
 refine it Z (G0 (es:=(C1 G2t 0).toArray) (es':=(C1 G1s 0).toArray) S1 (.inr Z) Z Z Z 0) fun _=>(znl [(a,.map _ 40)] (A1 (nx (A0 2 Z (ix Z (B1 (c:=2)) (bP 1 101 Z (A1 (E9 (bS Z (bP 1 102 Z (ie (A3 (K1 Z (A4 (nx (A3 (A9 (bS Z (ix Z (F3 Tryz.underlying229 cE Z Z Z 2) (bP 1 15 Z (ie (A0 6 Z (bY 5 1 [] [(104,.map (some a)),(105,iv 43),(108,ag [aH 0 9999,aH 0 1])] ?_)))))))))))))))))))))))
 refine it Z (G0 (es:=(C1 G1s 0).toArray) (es':=(C1 G1x 0).toArray) S1 (.inr Z) Z Z Z 0) fun _=>(znl [(a,.map _ 41)] (A1 (nx (A0 2 Z (ix Z (B1 (c:=3)) (bP 1 101 Z (A1 (E9 (bS Z (bP 1 102 Z (ie (A3 (A5t Z (F1 (nx (bS Z (bP 2 0 Z ?_)))))))))))))))))
 subst hR
 exact ie (A8 (ci a))
def E0r:List (Int×Value):=[(17,ag [aH 0 3,aH 0 1]),(18,ag [aH 2 3,aH 0 0]),(19,ag [aH 1 9999,aH 1 9999]),(20,ag [aH 0 3,aH 1 9999]),(26,ag [aH 0 3,aH 0 0]),(27,ag [aH 0 2,aH 0 0]),(35,ag [aC 120,aH 0 0]),(38,ag [aH 0 9999,aH 0 9999]),(40,ag [aH 0 6,aH 0 0]),(41,ag [aH 5 6,aH 0 0]),(2,ag [aH 0 0,aH 0 0]),(3,ag [aH 0 0,aH 0 0]),(4,ag [aH 0 0,aH 0 0]),(5,ag [aH 0 0,aH 0 0]),(6,ag [aH 0 0,aH 0 0]),(8,ag [aH 0 0,aH 0 0]),(9,ag [aH 0 0,aH 0 0]),(10,ag [aH 0 0,aH 0 0]),(11,ag [aH 0 0,aH 0 0]),(12,ag [aH 0 0,aH 0 0]),(13,ag [aH 0 0,aH 0 0]),(15,ag [aH 0 0,aH 0 0]),(16,ag [aH 0 0,aH 0 0]),(7,ag [aH 0 1,aH 0 0]),(14,ag [aH 0 1,aH 0 0]),(42,ag [aH 0 1,aH 0 0]),(21,ag [aH 0 1,aH 1 9999]),(33,ag [aH 0 1,aH 1 9999]),(22,ag [aH 1 9999,aH 0 0]),(23,ag [aH 1 9999,aH 0 0]),(24,ag [aH 1 9999,aH 0 0]),(25,ag [aH 1 9999,aH 0 0]),(28,ag [aH 1 9999,aH 0 0]),(29,ag [aH 1 9999,aH 0 0]),(30,ag [aH 1 9999,aH 0 0]),(31,ag [aH 1 9999,aH 0 0]),(32,ag [aH 1 9999,aH 0 0]),(34,ag [aH 1 9999,aH 0 0]),(36,ag [aH 0 9999,aH 0 1]),(37,ag [aH 0 9999,aH 0 1]),(43,ag [aH 0 9999,aH 0 1])]
def X8:List (Int×Value):=[(17,aH 0 3),(18,aH 2 3),(19,aH 1 9999),(20,aH 0 3),(26,aH 0 3),(27,aH 0 2),(35,aC 120),(38,aH 0 9999),(40,aH 0 6),(41,aH 5 6),(2,aH 0 0),(3,aH 0 0),(4,aH 0 0),(5,aH 0 0),(6,aH 0 0),(8,aH 0 0),(9,aH 0 0),(10,aH 0 0),(11,aH 0 0),(12,aH 0 0),(13,aH 0 0),(15,aH 0 0),(16,aH 0 0),(7,aH 0 1),(14,aH 0 1),(42,aH 0 1),(21,aH 0 1),(33,aH 0 1),(22,aH 1 9999),(23,aH 1 9999),(24,aH 1 9999),(25,aH 1 9999),(28,aH 1 9999),(29,aH 1 9999),(30,aH 1 9999),(31,aH 1 9999),(32,aH 1 9999),(34,aH 1 9999),(36,aH 0 9999),(37,aH 0 9999),(43,aH 0 9999)]
def A6a:List (Int×Value):=[(17,aH 0 1),(18,aH 0 0),(19,aH 1 9999),(20,aH 1 9999),(26,aH 0 0),(27,aH 0 0),(35,aH 0 0),(38,aH 0 9999),(40,aH 0 0),(41,aH 0 0),(2,aH 0 0),(3,aH 0 0),(4,aH 0 0),(5,aH 0 0),(6,aH 0 0),(8,aH 0 0),(9,aH 0 0),(10,aH 0 0),(11,aH 0 0),(12,aH 0 0),(13,aH 0 0),(15,aH 0 0),(16,aH 0 0),(7,aH 0 0),(14,aH 0 0),(42,aH 0 0),(21,aH 1 9999),(33,aH 1 9999),(22,aH 0 0),(23,aH 0 0),(24,aH 0 0),(25,aH 0 0),(28,aH 0 0),(29,aH 0 0),(30,aH 0 0),(31,aH 0 0),(32,aH 0 0),(34,aH 0 0),(36,aH 0 1),(37,aH 0 1),(43,aH 0 1)]
theorem F5s (k:Int):lkV k (.agg #[.nilFunc,.nilFunc]) E0r=.agg #[lkV k .nilFunc X8,lkV k .nilFunc A6a]:=by
 refine (F1m (fun a b=>.agg #[a,b]) k (.nilFunc) (.nilFunc) [((17:Int),(aH 0 3:Value),(aH 0 1:Value)),((18:Int),(aH 2 3:Value),(aH 0 0:Value)),((19:Int),(aH 1 9999:Value),(aH 1 9999:Value)),((20:Int),(aH 0 3:Value),(aH 1 9999:Value)),((26:Int),(aH 0 3:Value),(aH 0 0:Value)),((27:Int),(aH 0 2:Value),(aH 0 0:Value)),((35:Int),(aC 120:Value),(aH 0 0:Value)),((38:Int),(aH 0 9999:Value),(aH 0 9999:Value)),((40:Int),(aH 0 6:Value),(aH 0 0:Value)),((41:Int),(aH 5 6:Value),(aH 0 0:Value)),((2:Int),(aH 0 0:Value),(aH 0 0:Value)),((3:Int),(aH 0 0:Value),(aH 0 0:Value)),((4:Int),(aH 0 0:Value),(aH 0 0:Value)),((5:Int),(aH 0 0:Value),(aH 0 0:Value)),((6:Int),(aH 0 0:Value),(aH 0 0:Value)),((8:Int),(aH 0 0:Value),(aH 0 0:Value)),((9:Int),(aH 0 0:Value),(aH 0 0:Value)),((10:Int),(aH 0 0:Value),(aH 0 0:Value)),((11:Int),(aH 0 0:Value),(aH 0 0:Value)),((12:Int),(aH 0 0:Value),(aH 0 0:Value)),((13:Int),(aH 0 0:Value),(aH 0 0:Value)),((15:Int),(aH 0 0:Value),(aH 0 0:Value)),((16:Int),(aH 0 0:Value),(aH 0 0:Value)),((7:Int),(aH 0 1:Value),(aH 0 0:Value)),((14:Int),(aH 0 1:Value),(aH 0 0:Value)),((42:Int),(aH 0 1:Value),(aH 0 0:Value)),((21:Int),(aH 0 1:Value),(aH 1 9999:Value)),((33:Int),(aH 0 1:Value),(aH 1 9999:Value)),((22:Int),(aH 1 9999:Value),(aH 0 0:Value)),((23:Int),(aH 1 9999:Value),(aH 0 0:Value)),((24:Int),(aH 1 9999:Value),(aH 0 0:Value)),((25:Int),(aH 1 9999:Value),(aH 0 0:Value)),((28:Int),(aH 1 9999:Value),(aH 0 0:Value)),((29:Int),(aH 1 9999:Value),(aH 0 0:Value)),((30:Int),(aH 1 9999:Value),(aH 0 0:Value)),((31:Int),(aH 1 9999:Value),(aH 0 0:Value)),((32:Int),(aH 1 9999:Value),(aH 0 0:Value)),((34:Int),(aH 1 9999:Value),(aH 0 0:Value)),((36:Int),(aH 0 9999:Value),(aH 0 1:Value)),((37:Int),(aH 0 9999:Value),(aH 0 1:Value)),((43:Int),(aH 0 9999:Value),(aH 0 1:Value))]).trans ?_
 rfl
theorem C7h (k:Int):Value.tuple #[lkV k (.agg #[.nilFunc,.nilFunc]) E0r,.bool (A4b k E0r)]=Value.tuple #[.agg #[lkV k .nilFunc X8,lkV k .nilFunc A6a],.bool (A4b k X8)]:=by rw [F5s];rfl
def B3 (s:Spn) (n:Int):Bool :=
 ((decide (s.lo≤n))&&(decide (n≤s.hi)))
theorem B2 {s:Spn} (hR:B3 s n=R):J7 prog 119 [ag (C0 s),iv n] [] (bv R):=by
 refine cD Tryz.func119 fun X hX hr hD=>?_
 rw[B3]at hR
 refine bS Z (cI 2 [] (fun a=>[(2,pt a 0)]) (fun _=>(C0 s)) 227 fun a=>(ie (bS Z (cB 5 [0] 9 Z ?_))))
 refine zid 5 1 9 14 (decide (n≤s.hi)) (fun b c=>?_) ?_
 ·exact cB 5 [0] 14 Z (A1 (I1 2 9 _ b bX bU Z Z Z Z Z))
 refine bP 1 4 Z ?_
 subst hR
 exact q8
def B0e (n:Int):Bool :=
 ((decide (n=0))||(decide (n=3)))
theorem C6n (hR:B0e n=R):J7 prog 120 [iv n] [] (bv R):=by
 refine cD Tryz.func120 fun X hX hr hD=>?_
 rw[B0e]at hR
 refine bS Z (pp0 1 Z (ie (bS Z (bP 3 5 Z (zir 3 1 5 8 (decide (n=3)) (fun b a=>?_) ?_)))))
 ·exact bP 3 8 Z (A1 (I1 2 5 8 b bX bU Z Z Z Z Z))
 refine bP 1 2 Z ?_
 subst hR
 exact q8
def B1u (k:Int) (a:Int):Bool :=
 (bif (decide (k=17)) then (B3 (⟨0,3⟩:Spn) a) else (bif (decide (k=18)) then (B3 (⟨2,3⟩:Spn) a) else (bif (decide (k=19)) then (B3 (⟨1,9999⟩:Spn) a) else (bif (decide (k=20)) then (B3 (⟨0,3⟩:Spn) a) else (bif (decide (k=26)) then (B3 (⟨0,3⟩:Spn) a) else (bif (decide (k=27)) then (B3 (⟨0,2⟩:Spn) a) else (bif (decide (k=35)) then (B0e a) else (bif (decide (k=38)) then (B3 (⟨0,9999⟩:Spn) a) else (bif (decide (k=40)) then (B3 (⟨0,6⟩:Spn) a) else (bif (decide (k=41)) then (B3 (⟨5,6⟩:Spn) a) else (bif (decide (k=2)) then (B3 (⟨0,0⟩:Spn) a) else (bif (decide (k=3)) then (B3 (⟨0,0⟩:Spn) a) else (bif (decide (k=4)) then (B3 (⟨0,0⟩:Spn) a) else (bif (decide (k=5)) then (B3 (⟨0,0⟩:Spn) a) else (bif (decide (k=6)) then (B3 (⟨0,0⟩:Spn) a) else (bif (decide (k=8)) then (B3 (⟨0,0⟩:Spn) a) else (bif (decide (k=9)) then (B3 (⟨0,0⟩:Spn) a) else (bif (decide (k=10)) then (B3 (⟨0,0⟩:Spn) a) else (bif (decide (k=11)) then (B3 (⟨0,0⟩:Spn) a) else (bif (decide (k=12)) then (B3 (⟨0,0⟩:Spn) a) else (bif (decide (k=13)) then (B3 (⟨0,0⟩:Spn) a) else (bif (decide (k=15)) then (B3 (⟨0,0⟩:Spn) a) else (bif (decide (k=16)) then (B3 (⟨0,0⟩:Spn) a) else (bif (decide (k=7)) then (B3 (⟨0,1⟩:Spn) a) else (bif (decide (k=14)) then (B3 (⟨0,1⟩:Spn) a) else (bif (decide (k=42)) then (B3 (⟨0,1⟩:Spn) a) else (bif (decide (k=21)) then (B3 (⟨0,1⟩:Spn) a) else (bif (decide (k=33)) then (B3 (⟨0,1⟩:Spn) a) else (bif (decide (k=22)) then (B3 (⟨1,9999⟩:Spn) a) else (bif (decide (k=23)) then (B3 (⟨1,9999⟩:Spn) a) else (bif (decide (k=24)) then (B3 (⟨1,9999⟩:Spn) a) else (bif (decide (k=25)) then (B3 (⟨1,9999⟩:Spn) a) else (bif (decide (k=28)) then (B3 (⟨1,9999⟩:Spn) a) else (bif (decide (k=29)) then (B3 (⟨1,9999⟩:Spn) a) else (bif (decide (k=30)) then (B3 (⟨1,9999⟩:Spn) a) else (bif (decide (k=31)) then (B3 (⟨1,9999⟩:Spn) a) else (bif (decide (k=32)) then (B3 (⟨1,9999⟩:Spn) a) else (bif (decide (k=34)) then (B3 (⟨1,9999⟩:Spn) a) else (bif (decide (k=36)) then (B3 (⟨0,9999⟩:Spn) a) else (bif (decide (k=37)) then (B3 (⟨0,9999⟩:Spn) a) else (bif (decide (k=43)) then (B3 (⟨0,9999⟩:Spn) a) else false)))))))))))))))))))))))))))))))))))))))))
theorem C4g (k:Int) (b:Int) (a:A4b k X8=true) (R:Bool) (hR:B1u k b=R):D7 prog (lkV k .nilFunc X8) [iv b] [] (bv R):=by
 subst hR
 unfold B1u
 unfold X8 at *
 iterate 6 (refine D7.cons _ a (fun e=>?_) (fun a e=>?_);·exact d7 (B2 Z))
 refine D7.cons _ a (fun e=>?_) (fun a e=>?_)
 ·exact d7 (C6n Z)
 iterate 34 (refine D7.cons _ a (fun e=>?_) (fun a e=>?_);·exact d7 (B2 Z))
 exact D7.nil a
def B2b (k:Int) (a:Int):Bool :=
 (bif (decide (k=17)) then (B3 (⟨0,1⟩:Spn) a) else (bif (decide (k=18)) then (B3 (⟨0,0⟩:Spn) a) else (bif (decide (k=19)) then (B3 (⟨1,9999⟩:Spn) a) else (bif (decide (k=20)) then (B3 (⟨1,9999⟩:Spn) a) else (bif (decide (k=26)) then (B3 (⟨0,0⟩:Spn) a) else (bif (decide (k=27)) then (B3 (⟨0,0⟩:Spn) a) else (bif (decide (k=35)) then (B3 (⟨0,0⟩:Spn) a) else (bif (decide (k=38)) then (B3 (⟨0,9999⟩:Spn) a) else (bif (decide (k=40)) then (B3 (⟨0,0⟩:Spn) a) else (bif (decide (k=41)) then (B3 (⟨0,0⟩:Spn) a) else (bif (decide (k=2)) then (B3 (⟨0,0⟩:Spn) a) else (bif (decide (k=3)) then (B3 (⟨0,0⟩:Spn) a) else (bif (decide (k=4)) then (B3 (⟨0,0⟩:Spn) a) else (bif (decide (k=5)) then (B3 (⟨0,0⟩:Spn) a) else (bif (decide (k=6)) then (B3 (⟨0,0⟩:Spn) a) else (bif (decide (k=8)) then (B3 (⟨0,0⟩:Spn) a) else (bif (decide (k=9)) then (B3 (⟨0,0⟩:Spn) a) else (bif (decide (k=10)) then (B3 (⟨0,0⟩:Spn) a) else (bif (decide (k=11)) then (B3 (⟨0,0⟩:Spn) a) else (bif (decide (k=12)) then (B3 (⟨0,0⟩:Spn) a) else (bif (decide (k=13)) then (B3 (⟨0,0⟩:Spn) a) else (bif (decide (k=15)) then (B3 (⟨0,0⟩:Spn) a) else (bif (decide (k=16)) then (B3 (⟨0,0⟩:Spn) a) else (bif (decide (k=7)) then (B3 (⟨0,0⟩:Spn) a) else (bif (decide (k=14)) then (B3 (⟨0,0⟩:Spn) a) else (bif (decide (k=42)) then (B3 (⟨0,0⟩:Spn) a) else (bif (decide (k=21)) then (B3 (⟨1,9999⟩:Spn) a) else (bif (decide (k=33)) then (B3 (⟨1,9999⟩:Spn) a) else (bif (decide (k=22)) then (B3 (⟨0,0⟩:Spn) a) else (bif (decide (k=23)) then (B3 (⟨0,0⟩:Spn) a) else (bif (decide (k=24)) then (B3 (⟨0,0⟩:Spn) a) else (bif (decide (k=25)) then (B3 (⟨0,0⟩:Spn) a) else (bif (decide (k=28)) then (B3 (⟨0,0⟩:Spn) a) else (bif (decide (k=29)) then (B3 (⟨0,0⟩:Spn) a) else (bif (decide (k=30)) then (B3 (⟨0,0⟩:Spn) a) else (bif (decide (k=31)) then (B3 (⟨0,0⟩:Spn) a) else (bif (decide (k=32)) then (B3 (⟨0,0⟩:Spn) a) else (bif (decide (k=34)) then (B3 (⟨0,0⟩:Spn) a) else (bif (decide (k=36)) then (B3 (⟨0,1⟩:Spn) a) else (bif (decide (k=37)) then (B3 (⟨0,1⟩:Spn) a) else (bif (decide (k=43)) then (B3 (⟨0,1⟩:Spn) a) else false)))))))))))))))))))))))))))))))))))))))))
theorem C3p (k:Int) (b:Int) (a:A4b k A6a=true) (R:Bool) (hR:B2b k b=R):D7 prog (lkV k .nilFunc A6a) [iv b] [] (bv R):=by
 subst hR
 unfold B2b
 unfold A6a at *
 iterate 41 (refine D7.cons _ a (fun e=>?_) (fun a e=>?_);·exact d7 (B2 Z))
 exact D7.nil a
theorem E5y {k:Int} (h:a.kind=k):a=⟨k,a.n,a.m,a.color,a.text⟩:=by subst h;rfl
def Y8 (a:Act):Int :=
 (bif (decide (a.kind=1)) then (bif ((decide ((A6b a.n)<0))||(!(decide ((⟨1,a.n,a.m,a.color,a.text⟩:Act)=(B4l a.kind a.n 0))))) then 200 else 0) else (bif (decide (a.kind=39)) then (bif (!decide ((A0q (⟨39,a.n,a.m,a.color,a.text⟩:Act))=0)) then 200 else 0) else (bif (((((!(A4b a.kind X8))||(!(B1u a.kind a.n)))||(!(B2b a.kind a.m)))||(!(decide (a.color=ZU))))||(!(decide (a.text=([]:List UInt8))))) then 200 else 0)))
set_option maxHeartbeats 2000000 in
theorem D6g {R:Int} (hR:Y8 a=R) (hs:a.text.length≤100000000:=by exact bW) (ak:a.kind≤43:=by exact bW):J7 prog 47 [ag (A2 a)] [A1o,A1p] (iv R):=by
 refine cD Tryz.func47 fun X hX hr hD=>?_
 rw[Y8]at hR
 refine bS Z (cI 2 [] (fun b1=>[(1,pt _ 0)]) (fun _=>(A2 a)) 51 fun b1=>(ie (bS Z (bP 1 3 Z (ie (A3 (bS Z (cB 2 [0] 7 Z (ie (A9 (bS Z (bP 2 44 Z ?_))))))))))))
 refine ie (G3 Z (fun i=>?_) (fun i=>?_))
 ·have k:=bV i
  replace hR:=bt hR i
  refine sd 13 Z oki Z (pg1 2 [0] 47 Z (zvd Z (C1x Z) (pd1 2 50 Z ?_)))
  refine zdr 8 0 50 58 (!(decide (⟨1,a.n,a.m,a.color,a.text⟩=(B4l a.kind a.n 0)))) (fun g3 au=>?_) ?_
  ·refine dd Z (by exact G1 (G6 (us:=A2 a) C5s Z Z 0) (congrArg (fun z=>ag (A2 z)) (E5y k))) (pg2 4 [0,0] 53 55 Z (zvd Z (E5n Z) (dd Z (A0f D9w Z Z Z) (pd1 1 58 Z ?_))))
   exact zad 7 50 _ g3
  refine de (G3 Z (fun r=>?_) (fun r=>?_))
  ·have a5:=bV r
   replace hR:=bt hR r
   refine A0 1 Z (bP 1 3 Z (A1 (nx (A3 (bS Z (bP 2 73 Z (ie (K1 Z (bS Z (bP 1 2 Z ?_))))))))))
   subst hR
   exact q8
  replace hR:=bf hR r
  refine A4 (nx (A3 (bS Z (bP 2 73 Z (ie (A5t Z (A4 (nx (bS Z (bP 1 2 Z ?_))))))))))
  subst hR
  exact q8
 replace hR:=bf hR i
 refine bS Z (bP 2 59 Z (ie (G3 Z (fun s=>?_) (fun s=>?_))))
 ·have p:=bV s
  replace hR:=bt hR s
  refine A0 3 Z (ix Z (by exact G1 (G6 (us:=A2 a) C5s Z Z 0) (congrArg (fun z=>ag (A2 z)) (E5y p))) (zv Z (C0k Z) (bP 1 3 Z (A1 (nx (A3 (bS Z (bP 2 73 Z ?_))))))))
  refine ie (G3 Z (fun x=>?_) (fun x=>?_))
  ·have a2:=bV x
   replace hR:=bt hR x
   refine bS Z (bP 1 2 Z ?_)
   subst hR
   exact q8
  replace hR:=bf hR x
  refine A4 (nx (bS Z (bP 1 2 Z ?_)))
  subst hR
  exact q8
 replace hR:=bf hR s
 refine A3 (bS Z (bP 2 63 Z (ie (G3 Z (fun h7=>?_) (fun h7=>?_)))))
 ·have a9:=bV h7
  exfalso;omega
 refine bS Z (bP 2 63 Z (ie (G3 Z (fun h8=>?_) (fun h8=>?_))))
 ·have a3:=bV h8
  exfalso;omega
 refine A0 2 Z (bP 2 63 Z (A1 (nx (G3 Z (fun h9=>?_) (fun h9=>?_)))))
 ·have ab:=bV h9
  exfalso;omega
 refine zS [(10,[0])] ?_
 refine hq1 [1] 10 Z ?_
 refine gl 2 [0] Z (B8 (v:=iv _) cE Z Z 0) ?_
 refine gf 0 7 ?_ ?_
 ·refine ghc 0 [0] Z (C0y Z) fun ar=>?_
  refine gf 3 7 ?_ ?_
  ·refine gh 3 [0] Z (Det.tri (J8.det (by exact G1 (B0i E0r S1 Z Z Z 0 Z oki oki) (C7h a.kind)))) fun _=>?_
   refine hqV [4,5,6] [(13,ag [(lkV a.kind .nilFunc X8),(lkV a.kind .nilFunc A6a)]),(14,bv (A4b a.kind X8))] ?_
   refine go 7 [0] Z (A5p E4d Z) fun aq=>?_
   refine go 8 [0] Z (O9 (us:=[(lkV a.kind .nilFunc X8),(lkV a.kind .nilFunc A6a)]) (cs':=[(lkV a.kind .nilFunc X8),(lkV a.kind .nilFunc A6a)]) F7c Z Z Z 0 Z Z Z (by simp only [List.all_cons,List.all_nil,Bool.and_true,Bool.and_eq_true];exact ⟨B0g Z Z,B0g Z Z⟩)) fun _=>?_
   refine hq1 [9] 5 Z ?_
   refine ge ?_
   refine bS Z (bP 3 17 Z ?_)
   refine zio 7 19 17 24 (!(B1u a.kind a.n)) (fun aa=>?_) ?_
   ·refine bP 1 18 Z (ix Z (B8 C7w Z Z 0) (bP 1 20 Z (ix Z (B8 (v:=iv _) cE Z Z 2) (ixc Z (B0h (C4g _ _ (by first|assumption|(have f:A4b a.kind X8=true:=och;exact f)) _ Z) Z Z Z Z bX) (bP 2 24 Z ?_)))))
    exact zai 7 17 _ aa
   refine bP 1 25 Z ?_
   refine zio 7 11 25 32 (!(B2b a.kind a.m)) (fun t=>?_) ?_
   ·have ah:=bV t
    refine bP 1 26 Z (ix Z (B8 C7w Z Z 0) (bP 1 28 Z (ix Z (B8 (v:=iv _) cE Z Z 2) (ixc Z (B0h (C3p a.kind a.m (by first|assumption|(have f:A4b a.kind X8=true:=och;exact f)) _ Z) Z Z Z Z bX) (bP 2 32 Z ?_)))))
    exact zai 7 25 _ t
   refine bP 1 33 Z ?_
   refine zio 5 5 33 38 (!(decide (a.color=ZU))) (fun y=>?_) ?_
   ·have am:=bV y
    refine bP 1 34 Z (ix Z (G6 (us:=R1 _) C4m Z Z 2) (bY 1 2 [] [(36,ag _)] (ix Z (A0f (b:=ZU) B5g Z Z Z) (bP 1 38 Z ?_))))
    exact zai 6 33 _ y
   refine bP 1 39 Z ?_
   refine zio 4 0 39 43 (!(decide (a.text=[]))) (fun o=>?_) ?_
   ·have ad:=bV o
    refine bP 1 40 Z (ix Z (B8 (v:=sv _) ty9 Z Z 2) (ix Z (B2u Z Z Z) (bP 1 43 Z ?_)))
    exact zai 5 39 _ o
   refine ie (G3 Z (fun d=>?_) (fun d=>?_))
   ·have g:=bV d
    replace hR:=bt hR d
    refine A0 1 Z (bP 1 3 Z (A1 (nx (A3 (bS Z (bP 2 73 Z (ie (K1 Z (bS Z (bP 1 2 Z ?_))))))))))
    subst hR
    exact q8
   replace hR:=bf hR d
   refine A4 (nx (A3 (bS Z (bP 2 73 Z (ie (A5t Z (A4 (nx (bS Z (bP 1 2 Z ?_))))))))))
   subst hR
   exact q8
  ·refine gh 7 [0] Z (A5p E4d Z) fun aw=>?_
   refine go 3 [0] Z (Det.tri (J8.det (by exact G1 (B0i E0r S1 Z Z Z 1 Z oki oki) (C7h a.kind)))) fun _=>?_
   refine hqV [4,5,6] [(13,ag [(lkV a.kind .nilFunc X8),(lkV a.kind .nilFunc A6a)]),(14,bv (A4b a.kind X8))] ?_
   refine go 8 [0] Z (O9 (us:=[(lkV a.kind .nilFunc X8),(lkV a.kind .nilFunc A6a)]) (cs':=[(lkV a.kind .nilFunc X8),(lkV a.kind .nilFunc A6a)]) F7c Z Z Z 0 Z Z Z (by simp only [List.all_cons,List.all_nil,Bool.and_true,Bool.and_eq_true];exact ⟨B0g Z Z,B0g Z Z⟩)) fun _=>?_
   refine hq1 [9] 5 Z ?_
   refine ge ?_
   refine bS Z (bP 3 17 Z ?_)
   refine zio 7 19 17 24 (!(B1u a.kind a.n)) (fun a4=>?_) ?_
   ·refine bP 1 18 Z (ix Z (B8 C7w Z Z 0) (bP 1 20 Z (ix Z (B8 (v:=iv _) cE Z Z 2) (ixc Z (B0h (C4g _ _ (by first|assumption|(have f:A4b a.kind X8=true:=och;exact f)) _ Z) Z Z Z Z bX) (bP 2 24 Z ?_)))))
    exact zai 7 17 _ a4
   refine bP 1 25 Z ?_
   refine zio 7 11 25 32 (!(B2b a.kind a.m)) (fun u=>?_) ?_
   ·have aj:=bV u
    refine bP 1 26 Z (ix Z (B8 C7w Z Z 0) (bP 1 28 Z (ix Z (B8 (v:=iv _) cE Z Z 2) (ixc Z (B0h (C3p _ _ (by first|assumption|(have f:A4b a.kind X8=true:=och;exact f)) _ Z) Z Z Z Z bX) (bP 2 32 Z ?_)))))
    exact zai 7 25 _ u
   refine bP 1 33 Z ?_
   refine zio 5 5 33 38 (!(decide (a.color=ZU))) (fun q=>?_) ?_
   ·have af:=bV q
    refine bP 1 34 Z (ix Z (G6 (us:=R1 _) C4m Z Z 2) (bY 1 2 [] [(36,ag _)] (ix Z (A0f (b:=ZU) B5g Z Z Z) (bP 1 38 Z ?_))))
    exact zai 6 33 _ q
   refine bP 1 39 Z ?_
   refine zio 4 0 39 43 (!(decide (a.text=[]))) (fun w=>?_) ?_
   ·have al:=bV w
    refine bP 1 40 Z (ix Z (B8 (v:=sv _) ty9 Z Z 2) (ix Z (B2u Z Z Z) (bP 1 43 Z ?_)))
    exact zai 5 39 _ w
   refine ie (G3 Z (fun c=>?_) (fun c=>?_))
   ·have j:=bV c
    replace hR:=bt hR c
    refine A0 1 Z (bP 1 3 Z (A1 (nx (A3 (bS Z (bP 2 73 Z (ie (K1 Z (bS Z (bP 1 2 Z ?_))))))))))
    subst hR
    exact q8
   replace hR:=bf hR c
   refine A4 (nx (A3 (bS Z (bP 2 73 Z (ie (A5t Z (A4 (nx (bS Z (bP 1 2 Z ?_))))))))))
   subst hR
   exact q8
 ·refine gh 7 [0] Z (A5p E4d Z) fun av=>?_
  refine gc 0 [0] Z (C0y Z) fun ap=>?_
  refine go 3 [0] Z (Det.tri (J8.det (by exact G1 (B0i E0r S1 Z Z Z 0 Z oki oki) (C7h a.kind)))) fun _=>?_
  refine hqV [4,5,6] [(13,ag [(lkV a.kind .nilFunc X8),(lkV a.kind .nilFunc A6a)]),(14,bv (A4b a.kind X8))] ?_
  refine go 8 [0] Z (O9 (us:=[(lkV a.kind .nilFunc X8),(lkV a.kind .nilFunc A6a)]) (cs':=[(lkV a.kind .nilFunc X8),(lkV a.kind .nilFunc A6a)]) F7c Z Z Z 1 Z Z Z (by simp only [List.all_cons,List.all_nil,Bool.and_true,Bool.and_eq_true];exact ⟨B0g Z Z,B0g Z Z⟩)) fun _=>?_
  refine hq1 [9] 5 Z ?_
  refine ge ?_
  refine bS Z (bP 3 17 Z ?_)
  refine zio 7 19 17 24 (!(B1u a.kind a.n)) (fun a8=>?_) ?_
  ·refine bP 1 18 Z (ix Z (B8 C7w Z Z 1) (bP 1 20 Z (ix Z (B8 (v:=iv _) cE Z Z 2) (ixc Z (B0h (C4g _ _ (by first|assumption|(have f:A4b a.kind X8=true:=och;exact f)) _ Z) Z Z Z Z bX) (bP 2 24 Z ?_)))))
   exact zai 7 17 _ a8
  refine bP 1 25 Z ?_
  refine zio 7 11 25 32 (!(B2b a.kind a.m)) (fun a0=>?_) ?_
  ·have ao:=bV a0
   refine bP 1 26 Z (ix Z (B8 C7w Z Z 1) (bP 1 28 Z (ix Z (B8 (v:=iv _) cE Z Z 2) (ixc Z (B0h (C3p _ _ (by first|assumption|(have f:A4b a.kind X8=true:=och;exact f)) _ Z) Z Z Z Z bX) (bP 2 32 Z ?_)))))
   exact zai 7 25 _ a0
  refine bP 1 33 Z ?_
  refine zio 5 5 33 38 (!(decide (a.color=ZU))) (fun l=>?_) ?_
  ·have ai:=bV l
   refine bP 1 34 Z (ix Z (G6 (us:=R1 _) C4m Z Z 2) (bY 1 2 [] [(36,ag _)] (ix Z (A0f (b:=ZU) B5g Z Z Z) (bP 1 38 Z ?_))))
   exact zai 6 33 _ l
  refine bP 1 39 Z ?_
  refine zio 4 0 39 43 (!(decide (a.text=[]))) (fun a1=>?_) ?_
  ·have an:=bV a1
   refine bP 1 40 Z (ix Z (B8 (v:=sv _) ty9 Z Z 2) (ix Z (B2u Z Z Z) (bP 1 43 Z ?_)))
   exact zai 5 39 _ a1
  refine ie (G3 Z (fun e=>?_) (fun e=>?_))
  ·have h:=bV e
   replace hR:=bt hR e
   refine A0 1 Z (bP 1 3 Z (A1 (nx (A3 (bS Z (bP 2 73 Z (ie (K1 Z (bS Z (bP 1 2 Z ?_))))))))))
   subst hR
   exact q8
  replace hR:=bf hR e
  refine A4 (nx (A3 (bS Z (bP 2 73 Z (ie (A5t Z (A4 (nx (bS Z (bP 1 2 Z ?_))))))))))
  subst hR
  exact q8
end
end Go.Proofs.YtmldjljkeigpnaaGreatDoor
namespace Go.Proofs.YtmldjljkeigpnaaGreatDoor
open Go Go.Fen
section
variable {a:Act} {c:Bool} {l:jz}
theorem F3m {k:Int} (h:1≤k∧k≤43):([1,2,3,4,5,6,7,8,9,10,11,12,13,15,16,14,17,18,20,21,33,19,22,23,24,25,28,29,30,31,32,34,26,27,35,40,36,37,38,41,42,43,39,44,45,46]:List Int).contains k=true:=by
 simp only [List.contains_cons,List.contains_nil,Bool.or_false,Bool.or_eq_true,beq_iff_eq];omega
theorem D6a {p:Act→Prop} (h:∀ a ∈ l,p a) (b:p ZZ) (i:Nat):p (l.getD i ZZ):=by grind
theorem D6f (s:List UInt8) (n:Int):(A7g s n).length≤1:=by grind[A7g]
theorem F7x {x y:List UInt8} {B:Nat} (b:x.length≤B) (a:y.length≤B):(bif c then x else y).length≤B:=by grind
set_option maxHeartbeats 4000000 in
theorem E0i (a:Act) (h:a.text.length≤100000000):(B2a a).length≤100010000:=by
 unfold B2a
 have p:=C3t a.n
 have b:=fun s n=>D6f s n
 have d:=A8a
 have e:=B4o
 repeat' (with_reducible refine F7x ?_ ?_)
 all_goals simp only [B0a,G4,A1h,A9e,Y0,A5e,G5,A2x,A8n,A8l,A8b,A8k,B5,List.length_append,List.length_cons,List.length_nil,List.length_take]
 all_goals first|omega|exact Nat.le_trans (e _) opx|(refine Nat.le_trans (Nat.add_le_add_right (Nat.add_le_add_left (d _ _) _) _) ?_;omega)|(have f:=d 1 [a.m];have c:=fun s=>b s a.n;have g:=c [65,66,67,68];have i:=c [69,70];have j:=c [83,84];omega)|(have f:=b [15,14] (a.n - 0);have c:=b [62,61] (a.n - 0);have g:=b [78,79] (a.n - 2);omega)|(have f:=b [40,41,42,43] a.n;have c:=b [66,48] a.m;omega)|(have f:=d (-2) [a.n];have c:=b [108,104] a.m;omega)
theorem F8g (h:(bif c then (200:Int) else 0)=0):c=false:=by grind
theorem F6q (h:A4b a.kind X8=true):a.kind=17∨a.kind=18∨a.kind=19∨a.kind=20∨a.kind=26∨a.kind=27∨a.kind=35∨a.kind=38∨a.kind=40∨a.kind=41∨a.kind=2∨a.kind=3∨a.kind=4∨a.kind=5∨a.kind=6∨a.kind=8∨a.kind=9∨a.kind=10∨a.kind=11∨a.kind=12∨a.kind=13∨a.kind=15∨a.kind=16∨a.kind=7∨a.kind=14∨a.kind=42∨a.kind=21∨a.kind=33∨a.kind=22∨a.kind=23∨a.kind=24∨a.kind=25∨a.kind=28∨a.kind=29∨a.kind=30∨a.kind=31∨a.kind=32∨a.kind=34∨a.kind=36∨a.kind=37∨a.kind=43:=by simp_all[D0v,X8]
theorem E7y (h:Y8 a=0) (b:tk a):C3j a:=by
 obtain ⟨b,f⟩:=b
 unfold Y8 at h
 by_cases e1:a.kind=1
 ·simp_all[C3j]
 ·rw [jX e1,cond_false] at h
  by_cases e2:a.kind=39
  ·simp_all[C3j]
  ·rw [jX e2,cond_false] at h
   have h:=F8g h
   simp only [Bool.or_eq_false_iff,Bool.not_eq_false'] at h
   obtain ⟨⟨⟨⟨e,c⟩,d⟩,_⟩,_⟩:=h
   clear e1 e2
   rcases F6q e with h | h | h | h | h | h | h | h | h | h | h | h | h | h | h | h | h | h | h | h | h | h | h | h | h | h | h | h | h | h | h | h | h | h | h | h | h | h | h | h | h
   all_goals
    rw [h] at c d
    simp only [B1u,B2b,B3,B0e,Int.reduceEq,decide_true,decide_false,cond_true,cond_false,Bool.and_eq_true,Bool.or_eq_true,decide_eq_true_eq] at c d
    unfold C3j
    omega
def A4p (l:jz) (a:List UInt8→Int→(List UInt8×Int)):Nat→List UInt8→Int→Int→(List UInt8×Int)
 | 0,_,_,_=>([],0)
 | fu3+1,b1,at_1,n=>(bif (((decide (n<(l.length:Int)))&&(decide (n<(at_1+16))))&&(decide ((l.getD ((n).toNat) ZZ).kind=39))) then A4p l a fu3 b1 at_1 (n+1) else (bif (decide (n=at_1)) then a (b1++(B2a (l.getD ((at_1).toNat) ZZ))) (at_1+1) else (B5 (A8p ((l.drop ((at_1).toNat)).take (((n).toNat) - ((at_1).toNat)))) fun (b:List UInt8)=>a (b1++b) ((n - 1)+1))))
def A0j (l:jz):Nat→List UInt8→Int→(List UInt8×Int)
 | 0,_,_=>([],0)
 | fu1+1,b,at_=>(bif (decide (at_<(l.length:Int))) then A4p l (A0j l fu1) (((l.length:Int) - at_).toNat+1) b at_ at_ else (b,0))
def A1r (l:jz):jz→Nat→(List UInt8×Int)
 | [],t15=>A0j l (((l.length:Int) - 0).toNat+1) ([]:List UInt8) 0
 | hd_l0::tl_l0,t15=>(bif (!decide ((Y8 hd_l0)=0)) then (([]:List UInt8),(Y8 hd_l0)) else A1r l tl_l0 (t15+1))
def X2 (l:jz):List UInt8×Int :=
 (bif (decide ((131072:Int)<(l.length:Int))) then (([]:List UInt8),3) else A1r l l 0)
theorem B9g (l:jz) (h:∀ a ∈ l,tk a) (ag:List UInt8→Int→List UInt8×Int) (B:Nat) (c:∀ b t,(ag b t).1.length≤b.length+B):∀ (fu:Nat) (b:List UInt8) (t n:Int),(A4p l ag fu b t n).1.length≤b.length+100010000+B
 | 0,b,t,n=>Nat.zero_le _
 | fu+1,b,t,n=>by
  rw [A4p];unfold B5;simp only [Bool.cond_eq_ite];repeat' split
  ·exact B9g l h ag B c fu b t (n+1)
  ·refine Nat.le_trans (c _ _) ?_
   have:=E0i (l.getD t.toNat ZZ) (D6a h ozw _).1
   rw [List.length_append];omega
  ·refine Nat.le_trans (c _ _) ?_
   have:=B4o ((l.drop t.toNat).take (n.toNat - t.toNat))
   rw [List.length_append];omega
theorem B9c (l:jz) (h:∀ a ∈ l,tk a):∀ (fu:Nat) (b:List UInt8) (t:Int),(A0j l fu b t).1.length≤b.length+fu * 100010000
 | 0,b,t=>Nat.zero_le _
 | fu+1,b,t=>by
  rw [A0j]
  cases decide (t<(l.length:Int)) with
  | true=>exact Nat.le_trans (B9g l h _ (fu * 100010000) (B9c l h fu) _ _ _ _) opx
  | false=>exact Nat.le_add_right _ _
theorem B8w (L:jz) (h:∀ a ∈ L,tk a) (hL:L.length≤131072):∀ (l:jz) (t:Nat),(A1r L l t).1.length≤13200000000000
 | [],t=>by
  have:=B9c L h (((L.length:Int) - 0).toNat+1) [] 0
  rw [A1r];simp only [List.length_nil] at this;omega
 | a::l,t=>by
  rw [A1r]
  cases (!decide ((Y8 a)=0)) with
  | true=>exact Nat.zero_le _
  | false=>exact B8w L h hL l (t+1)
theorem A9l (l:jz) (h:∀ a ∈ l,tk a):(X2 l).1.length≤13200000000000:=by
 unfold X2
 by_cases hl:(131072:Int)<(l.length:Int)
 ·rw [jQ hl];exact Nat.zero_le _
 ·rw [jX hl];exact B8w l h opx l 0
theorem B3m {lq:kQ} {lk:Nat} {R:List UInt8×Int} (hR:X2 l=R) (ar:l.length≤9223372036854775807:=by exact bW) (b2:l.length≤lk:=by exact bW) (u:∀ a ∈ l,tk a:=by exact bW):cM Tryz.prog 62 [.slice lq l.length lk] [] [sl A2 lq l,A1o,A1p,M1,P0] ({r:VR // bT 1 R.1.length r}) (fun x=>.tuple #[.slice (va x.1.q) R.1.length x.1.k,iv R.2]) (fun x=>((vo cJ 5 x.1 R.1)++([]))) (fun x=>[]):=by
 refine cD Tryz.func62 fun X hX hr hD=>?_
 rw[X2]at hR
 refine bS Z (bP 2 2 Z (ie (C5d (A3 (bS Z (bP 3 12 Z (ie ?_)))))))
 refine cK Z hR ?_ ?_<;>intro hR h1 ay
 ·refine bS Z (cF 2 2 3 Z ?_)
  subst hR
  refine ie (A8 ?_)
  exact cy ⟨_,bT.nil⟩
 refine A4 (nx (A3 (bS Z (pp3 3 13 14 15 Z (ie (A9 (A1y (fun e=>(e≤l.length∧A1r l (l.drop e) e=R∧(∀ i<e,Y8 (l.getD i ZZ)=0),[(0,_),(2,.slice _ 0 0),(13,_),(14,iv _),(15,iv e)],_,_,l.length - e)) 0 ⟨opx,hR,(by intro i hi;omega)⟩ bU A7.refl ?_)))))))
 rintro e ⟨az,hR,a3⟩
 have a8:=D6a u ozw e
 refine bS Z (bP 1 16 Z ?_)
 refine ie (A3 (G3 Z (fun h3=>?_) (fun h3=>?_)))
 ·have a7:=bV h3
  rw [A1a ZZ (show e<l.length by omega)] at hR;rw[A1r]at hR
  refine A4 (nx (A3 (A9 (bS Z (H8 0 Z opx fun a4 a5=>(ix Z (E7 N3 Z Z a5 Z e) (ix Z (J0 C5s Z Z (F8 (sz:=6) a5 jJ 0 Z (gd ZZ opx)) Z) ?_)))))))
  refine cI 2 [0] (fun b6=>[(5,pt b6 0)]) (fun _=>(A2 (l.getD e ZZ))) 51 fun b6=>?_
  refine ie (bS Z (bY 1 2 [0] [(19,ag _)] (zv Z (D6g Z (by first|omega|exact a8.1|(dsimp only;omega)) (by omega)) (bP 1 6 Z (ie (bS Z (bP 2 22 Z (ie ?_))))))))
  refine zjn Z hR ?_ ?_<;>intro hR h7 b0
  ·refine bS Z (cF 3 2 3 Z ?_)
   subst hR
   refine ie (A8 ?_)
   exact cy ⟨_,bT.nil⟩
  refine A4 (nx (A0 2 Z (ix Z B1 (bP 1 15 Z (A1 ?_)))))
  exact z0 _ ⟨opx,hR,(by intro i hi;rcases Nat.lt_succ_iff_lt_or_eq.1 hi with hi | rfl;exact a3 i hi;exact Decidable.of_not_not oiu)⟩
 have a7:=bV h3
 rw [A1b a7] at hR;rw[A1r]at hR
 refine F1 (nx (bS Z (zc Z (D7d _ Z) fun ⟨⟨b8,f⟩,ac⟩=>?_)))
 refine bP 1 7 Z (ie (A3 (C5g (nx (A3 (bS Z (bP 1 8 Z (ie (A9 (Y9 (I8 [_,_] [1,0] 2 Z ozw Z [[(b8,.map (C1 f 0).toArray f.length)],vo cJ 5 VR.nil []] Z opv) ?_))))))))))
 refine A1y (un fun fu=>un fun b=>un fun br at_=>(((l.length:Int) - at_).toNat<fu∧A0j l fu b at_=R∧bT 1 b.length br∧0≤at_∧at_≤l.length∧b.length≤100010000 * at_,[(0,_),(2,.slice (va br.q) b.length br.k),(7,.map (some b8)),(8,iv at_)],((_,_)::((vo cJ 5 br b)++([]))),[D3a _ f _,_,_,_,_,_],fu)) (_,_,_,0) ⟨(Nat.lt_succ_self _),hR,bT.nil,opx,oom⟩ bU A7.refl ?_
 rintro ⟨fu,b,br,at_⟩ ⟨ap,hR,o,ha,hb⟩
 obtain ⟨fu1,rfl⟩:∃ m,fu=m+1:=⟨fu - 1,by omega⟩
 rw[A0j]at hR
 refine A3 (bS Z (bP 4 29 Z ?_))
 refine ie ?_
 refine cK Z hR ?_ ?_<;>intro hR ax an
 ·refine A4 (nx (A3 (A9 (A3 (bS Z (bP 2 9 Z (ie (A9 ?_))))))))
  refine A1y (un fun t=>un fun p=>un fun h=>un fun d n=>(((l.length:Int) - n).toNat<t∧A4p l _ t p d n=R∧bT 1 p.length h∧d=at_∧0≤d∧d<l.length∧d≤n∧n≤l.length∧n≤d+16∧p.length≤100010000 * d,[(0,_),(2,.slice (va h.q) p.length h.k),(7,_),(8,iv d),(9,iv n)],((_,_)::((vo _ 5 h p)++([]))),_,t)) (_,b,_,_,_) ⟨(Nat.lt_succ_self _),hR,o,opx,opx⟩ bU A7.refl ?_
  rintro ⟨t,p,h,d,n⟩ ⟨ao,hR,g,hn,b3⟩
  have:=bT.le g
  obtain ⟨fu3,rfl⟩:∃ m,t=m+1:=⟨t - 1,by omega⟩
  rw[A4p]at hR
  refine A3 (A9 (A3 (bS Z (bP 5 39 Z ?_))))
  refine zid 5 8 39 44 (decide (n<(d+16))) (fun aj am=>?_) ?_
  ·refine cF 2 40 41 Z (ix Z B1 (bP 2 44 Z ?_))
   exact A1 (I1 5 39 _ aj A7.refl bU Z Z Z Z Z)
  refine bP 1 45 Z ?_
  refine zia 7 0 45 52 (decide ((l.getD ((n).toNat) ZZ).kind=39)) (fun a6=>?_) ?_
  ·have ak:=bV a6
   refine cF 2 46 47 Z (H8 1 Z opx fun aw w=>(ix Z (E7 N3 Z Z w Z _ opx opx) (bP 1 49 Z (ix Z (B6 cE Z Z (U0 (F8 (sz:=6) w (fun _=>Z) 1 Z (gd _ opx)) (ws:=[iv ((l.getD ((n).toNat) ZZ).kind)]) 1 Z) Z) (bP 2 52 Z ?_)))))
   exact A1 (I1 7 45 _ a6 A7.refl bU Z Z Z Z Z)
  refine ie ?_
  refine zjb Z hR ?_ ?_<;>intro hR aa
  ·have a9:=bV aa
   refine F1 (nx (A0 3 Z (bP 1 33 Z ?_)))
   refine ix Z B1 (bP 1 9 Z (A1 ?_))
   exact z0 (_,p,h,d,_) ⟨opx,hR,g,opx,opx⟩
  have a9:=bV aa
  refine A4 (nx (A3 (bS Z (bP 3 55 Z (ie ?_)))))
  refine cK Z hR ?_ ?_<;>intro hR au aq
  ·refine F1 (nx ?_)
   refine zSn [(15,[0]),(13,[1])] ?_
   refine hq6 [0,1,2,3,8,9] 65 66 67 68 73 74 Z ?_
   refine B9j 1 Z opx fun b4 j=>?_
   refine gk 4 Z (E7 N3 Z Z j Z ((d).toNat) opx opx) ?_
   refine hq1 [5] 70 Z ?_
   refine gk 6 Z (B6 cE Z Z (U0 (F8 (sz:=6) j jJ 1 Z (gd _ opx)) (ws:=[iv ((l.getD _ ZZ).kind)]) 1 Z) Z) ?_
   refine gl 7 [0] Z (by exact E5c (z:=.nilFunc) f P9 Z Z Z 0 Z (by rw [List.toList_toArray]) oki) ?_
   refine gk 10 Z (E7 N3 Z Z j Z ((d).toNat) opx opx) ?_
   refine gk 11 Z (J0 C5s Z Z (F8 (sz:=6) j jJ 1 Z (gd ZZ opx)) Z) ?_
   have a1:=E7y (a3 ((d).toNat) opx) (D6a u ozw ((d).toNat))
   refine go 12 [0,1] Z (Det.tri (by exact F2v (C:=tC) (A5 0 Z) (by rw [D0v,ac];exact F3m ⟨a1.2.1,a1.2.2.1⟩) ⟨(l.getD ((d).toNat) ZZ),⟨rfl,by exact a1⟩,rfl,rfl⟩ Z Z Z Z)) fun _=>?_
   have:=E0i _ a1.1
   refine go 13 [0] Z (B4z (r:=h) (xs:=p) (s:=(B2a (l.getD ((d).toNat) ZZ))) (pre:=[(b8,.map (C1 f 0).toArray f.length)]) (post:=[]) C2m oki Tryz.underlying9 Z Z Z Z Z Z Z g ofv) fun ⟨ah,y⟩=>?_
   have:=@List.length_append _ p (B2a (l.getD ((d).toNat) ZZ))
   refine hq1 [14] 2 Z ?_
   refine gdn ?_
   refine nx (A0 3 Z (bP 1 30 Z (ix Z B1 (bP 1 8 Z (A1 ?_)))))
   exact z0 (_,_,_,_) ⟨opx,hR,y,opx,odi⟩
  refine A4 (nx (bS Z (pp4 4 56 57 58 59 Z (D4 (E8b (sz:=6) (A5 1 Z) ((d).toNat) ((n).toNat) lk jJ Z opx opx) ?_))))
  refine ix Z (B2m (n':=((l.drop ((d).toNat)).take (((n).toNat) - ((d).toNat))).length) N3 Z Z ((d).toNat) ((n).toNat) _ (A1l Z opx) (A1l Z opx) A2b opx opx opx ofx Z) ?_
  have:=@List.length_drop _ ((d).toNat) l
  have:=@List.length_take _ (((n).toNat) - ((d).toNat)) (l.drop ((d).toNat))
  obtain ⟨y0,ab,hR⟩:=C3 hR
  refine zv Z (D2c ab) ?_
  have:=B4o ((l.drop ((d).toNat)).take (((n).toNat) - ((d).toNat)));try rw [ab] at this
  refine it Z (B4z (r:=h) (xs:=p) (s:=y0) (pre:=[(b8,.map (C1 f 0).toArray f.length)]) (post:=[]) C2m oki Tryz.underlying9 Z Z Z Z Z Z Z g ofv) fun ⟨ae,v⟩=>?_
  have:=@List.length_append _ p y0
  refine bP 1 2 Z (ie (bS Z (bP 1 63 Z (ix Z L8 (bP 1 8 Z (ie (F1 (nx (A0 3 Z (bP 1 30 Z (ix Z B1 (bP 1 8 Z ?_))))))))))))
  refine A1 ?_
  exact z0 (_,p++y0,ae,(n - 1)+1) ⟨opx,hR,v,opx,odi⟩
 refine F1 (nx (bS Z (cF 3 2 3 Z ?_)))
 subst hR
 refine ie (A8 ?_)
 exact cy ⟨_,o⟩
end
end Go.Proofs.YtmldjljkeigpnaaGreatDoor
