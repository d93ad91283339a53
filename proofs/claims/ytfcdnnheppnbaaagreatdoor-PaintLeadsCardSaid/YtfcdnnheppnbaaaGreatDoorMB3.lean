import Derived.Test.YtfcdnnheppnbaaaGreatDoorProg
import Derived.Test.YtfcdnnheppnbaaaGreatDoorMA2
import Derived.Test.YtfcdnnheppnbaaaGreatDoorMB1
import Derived.Test.YtfcdnnheppnbaaaGreatDoorMA3
import Derived.Test.YtfcdnnheppnbaaaGreatDoorMB2
set_option linter.unusedVariables false
set_option linter.unusedSimpArgs false
set_option linter.unnecessarySimpa false
set_option maxRecDepth 100000
namespace Go.Proofs.YtfcdnnheppnbaaaGreatDoor
open Go Go.Fen
@[reducible] def aJ (a b:Int):Value := .func (.func 102) #[ag (B7 ⟨a,b⟩)] #[]
theorem M1:MapTy Tryz.prog 116 3 114 (.int .i64):=⟨by kernel_rfl,by kernel_rfl,rfl⟩
theorem E7a:SlTy Tryz.prog 133 131 2:=⟨by kernel_rfl,by kernel_rfl⟩
theorem C3q:Ty Tryz.prog 114 2 true:=⟨by kernel_rfl⟩
theorem E1p:Ty Tryz.prog 131 2 true:=⟨by kernel_rfl⟩
theorem B1x:Zero Tryz.prog 114 [.nilFunc,.nilFunc]:=⟨by kernel_rfl⟩
def B0v (cp:Int):List Spn→Nat→Bool
 | [],t9=>false
 | hd_l0::tl_l0,t9=>(bif ((decide (hd_l0.lo≤cp))&&(decide (cp≤hd_l0.hi))) then true else B0v cp tl_l0 (t9+1))
def B0o (cp:Int) (l:List Spn):Bool :=
 B0v cp l 0
theorem C2m {cp:Int} {l:List Spn} {lq:Option Addr} {lk:Nat} {R:Bool} (hR:B0o cp l=R) (i:l.length≤9223372036854775807:=by exact bP) (m:l.length≤lk:=by exact bP):J5 Tryz.prog 87 [iv cp,.slice lq l.length lk] [sl B7 lq l] (bv R):=by
 refine bZ Tryz.func87 fun X hX hr hD=>?_
 replace hR:=(B0o.eq_1 ..).symm.trans hR
 refine bN rfl (pp0 1 rfl (ie (A5 (bN rfl (pp3 3 7 8 9 rfl (ie (B2 (A4v (fun (a:Nat)=>(a≤l.length∧B0v cp (l.drop a) a=R,[(0,iv cp),(7,.slice lq l.length lk),(8,iv (l.length:Int)),(9,iv (a:Int))],[],[sl B7 lq l],l.length - a)) 0 ⟨opx,hR⟩ bQ A9.refl ?_))))))))
 rintro a ⟨k,hR⟩
 refine bN rfl (bO 1 10 rfl ?_)
 refine ie (A5 (X7 rfl (fun e=>?_) (fun e=>?_)))
 ·have d:=bU e
  rw [A1f Spn.zero (show a<l.length by omega)] at hR;replace hR:=(B0v.eq_2 ..).symm.trans hR
  refine A4 (nx (A5 (B2 (bN rfl (L9 0 rfl opx fun n b=>(ix rfl (H9 E7a rfl rfl b rfl a rfl opx) (ix rfl (K5 (us:=B7 (l.getD a Spn.zero)) E1p rfl rfl (K2 (c:=B7) (sz:=2) b (fun _=>rfl) 0 rfl (gd Spn.zero opx)) rfl) ?_)))))))
  refine zra 2 [0] (fun f=>[(6,pt f 0)]) (fun _=>(B7 (l.getD a Spn.zero))) 131 fun f=>?_
  refine ie (bN rfl (cE 5 [0] 17 rfl ?_))
  refine zid 5 0 17 22 (decide (cp≤(l.getD a Spn.zero).hi)) (fun h g=>?_) ?_
  ·refine cE 5 [0] 22 rfl ?_
   exact zai 2 17 22 h
  refine ie ?_
  refine zja rfl hR ?_ ?_<;>clear hR<;>intro hR o j
  ·refine bN rfl (bO 1 4 rfl ?_)
   subst hR
   refine ie (A8 ?_)
   exact G0 hr hD
  refine A4 (nx (A0 2 rfl (ix rfl (B4 rfl rfl rfl rfl opx) (bO 1 9 rfl (A3 ?_)))))
  exact A0d (z1:=a) (a+1) ⟨opx,hR⟩ olr bQ A9.refl
 have d:=bU e
 rw [A2g d] at hR;replace hR:=(B0v.eq_1 ..).symm.trans hR
 refine G6 (nx (bN rfl (bO 1 4 rfl ?_)))
 subst hR
 refine ie (A8 ?_)
 exact G0 hr hD
def F6 (cp:Int):Int :=
 (bif ((!(B5x cp))||(B0o cp ([(⟨0,31⟩:Spn),(⟨127,159⟩:Spn)]:List Spn))) then (-1) else (bif (decide (cp<(E0e.getD 0 Spn.zero).lo)) then 1 else (bif (B0o cp E0e) then 0 else (bif (B0o cp E9o) then 2 else 1))))
theorem A3p {cp R:Int} (hR:F6 cp=R):J5 Tryz.prog 33 [iv cp] [P6,P7] (iv R):=by
 refine bZ Tryz.func33 fun X hX hr hD=>?_
 replace hR:=(F6.eq_1 ..).symm.trans hR
 refine bN rfl (pp0 1 rfl (ie (A5 (B2 (bN rfl (bO 1 4 rfl (zv rfl (C6x rfl) (bO 2 7 rfl ?_))))))))
 refine zio 6 1 7 13 (B0o cp ([(⟨0,31⟩:Spn),(⟨127,159⟩:Spn)]:List Spn)) (fun f=>?_) ?_
 ·refine bY 3 3 [] [(8,iv cp),(9,ag (B7 (⟨0,31⟩:Spn))),(10,ag (B7 (⟨127,159⟩:Spn)))] (it rfl (C1 (c:=B7) (xs:=([(⟨0,31⟩:Spn),(⟨127,159⟩:Spn)]:List Spn)) E7a rfl rfl rfl oki) fun e=>?_)
  have:([(⟨0,31⟩:Spn),(⟨127,159⟩:Spn)]:List Spn).length=2:=rfl
  refine zv rfl (C2m (cp:=cp) (l:=([(⟨0,31⟩:Spn),(⟨127,159⟩:Spn)]:List Spn)) (lq:=(some ⟨e,0,none⟩)) (lk:=2) rfl) (ip' 1 0 [(13,bv (B0o cp ([(⟨0,31⟩:Spn),(⟨127,159⟩:Spn)]:List Spn)))] ?_)
  exact A3 (O6 7 7 13 f c9 bQ rfl rfl rfl rfl rfl)
 refine ip' 1 0 [(3,bv ((!(B5x cp))||(B0o cp ([(⟨0,31⟩:Spn),(⟨127,159⟩:Spn)]:List Spn))))] (ie ?_)
 refine zjb rfl hR ?_ ?_<;>clear hR<;>intro hR b
 ·have a:=bU b
  refine bN rfl (bO 1 2 rfl ?_)
  subst hR
  refine ie (A8 ?_)
  exact G0 hr hD
 have a:=bU b
 refine bN rfl (ip' 1 5 [(15,iv cp)] (ix rfl (C1v Tryz.underlying132 E1p rfl rfl rfl 0 rfl (by first|decide|omega)) (ip' 1 3 [(17,pa (Addr.add ⟨0,0,none⟩ (0 * 2)))] (ix rfl (F2 cA rfl rfl (A2w (K2 (c:=B7) (sz:=2) rfl (fun _=>rfl) 0 rfl (gd Spn.zero (by first|decide|(simp only [E0e,List.length_cons,List.length_nil];omega)))) (ws:=[iv ((E0e.getD 0 Spn.zero).lo)]) 1 rfl) rfl) (bO 2 14 rfl (ie ?_))))))
 refine zjd rfl hR ?_ ?_<;>clear hR<;>intro hR i d
 ·refine bN rfl (bO 1 2 rfl ?_)
  subst hR
  refine ie (A8 ?_)
  exact G0 hr hD
 refine bN rfl (bO 1 21 rfl (ix rfl (C2o Tryz.underlying132 E1p rfl rfl) (zv rfl (C2m (cp:=cp) (l:=E0e) (lq:=(some ⟨0,0,none⟩)) (lk:=11) rfl) (bO 1 20 rfl (ie ?_)))))
 refine zjb rfl hR ?_ ?_<;>clear hR<;>intro hR g
 ·refine bN rfl (bO 1 2 rfl ?_)
  subst hR
  refine ie (A8 ?_)
  exact G0 hr hD
 refine bN rfl (bO 1 25 rfl (ix rfl (C2o Tryz.underlying134 E1p rfl rfl) (zv rfl (C2m (cp:=cp) (l:=E9o) (lq:=(some ⟨1,0,none⟩)) (lk:=13) rfl) (bO 1 24 rfl (ie ?_)))))
 refine zjb rfl hR ?_ ?_<;>clear hR<;>intro hR h
 ·refine bN rfl (bO 1 2 rfl ?_)
  subst hR
  refine ie (A8 ?_)
  exact G0 hr hD
 refine A4 (nx (bN rfl (bO 1 2 rfl ?_)))
 subst hR
 refine ie (A8 ?_)
 exact G0 hr hD
def B2i (kind:Int) (n:Int) (m:Int):Act :=
 {Act.zero with kind:=kind,n:=n,m:=m}
theorem D8y {kind n m:Int} {R:Act} (hR:B2i kind n m=R):J5 Tryz.prog 37 [iv kind,iv n,iv m] [] (ag (A1 R)):=by
 refine bZ Tryz.func37 fun X hX hr hD=>?_
 replace hR:=(B2i.eq_1 ..).symm.trans hR
 refine bN rfl (zra 1 [] (fun a=>[(6,pt a 0)]) (fun _=>(A1 Act.zero)) 60 fun a=>(ie (bN rfl (zru 5 [0] [] 0 (bx a (A1 ({Act.zero with kind:=kind,n:=n,m:=m})) 60) ?_))))
 subst hR
 refine ie (A8 ?_)
 exact cD hr hD (N4 rfl (D4 (us:=A1 ({Act.zero with kind:=kind,n:=n,m:=m})) B7m rfl 0 rfl rfl rfl)) () bQ bT
def C1m:Unit :=
 ()
theorem C8e {R:Unit} (hR:C1m=R):J5 Tryz.prog 101 [] [] (.tuple #[aJ 0 0,aJ 0 1,aJ 1 9999,aJ 0 9999]):=by
 refine bZ Tryz.func101 fun X hX hr hD=>?_
 replace hR:=(C1m.eq_1 ..).symm.trans hR
 refine bN rfl (pp0 4 rfl (ie (bN rfl (bY 12 0 [] [(0,aJ 0 0),(1,aJ 0 1),(2,aJ 1 9999),(3,aJ 0 9999)] ?_))))
 subst hR
 refine ie (A8 ?_)
 exact cD hr hD (E8d rfl (B0 rfl) (B0 rfl) (B0 rfl) (B0 rfl)) () bQ bT
def me0:Value:=ag [aJ 0 3,aJ 0 1]
def mt0:List (Int×Value):=[(17,me0)]
def me1:Value:=ag [aJ 2 3,aJ 0 0]
def mt1:List (Int×Value):=[(17,me0),(18,me1)]
def me2:Value:=ag [aJ 1 9999,aJ 1 9999]
def mt2:List (Int×Value):=[(17,me0),(18,me1),(19,me2)]
def me3:Value:=ag [aJ 0 3,aJ 1 9999]
def mt3:List (Int×Value):=[(17,me0),(18,me1),(19,me2),(20,me3)]
def me4:Value:=ag [aJ 0 3,aJ 0 0]
def mt4:List (Int×Value):=[(17,me0),(18,me1),(19,me2),(20,me3),(26,me4)]
def me5:Value:=ag [aJ 0 2,aJ 0 0]
def mt5:List (Int×Value):=[(17,me0),(18,me1),(19,me2),(20,me3),(26,me4),(27,me5)]
def me6:Value:=ag [aE 103,aJ 0 0]
def mt6:List (Int×Value):=[(17,me0),(18,me1),(19,me2),(20,me3),(26,me4),(27,me5),(35,me6)]
def me7:Value:=ag [aJ 0 9999,aJ 0 9999]
def mt7:List (Int×Value):=[(17,me0),(18,me1),(19,me2),(20,me3),(26,me4),(27,me5),(35,me6),(38,me7)]
def me8:Value:=ag [aJ 0 6,aJ 0 0]
def mt8:List (Int×Value):=[(17,me0),(18,me1),(19,me2),(20,me3),(26,me4),(27,me5),(35,me6),(38,me7),(40,me8)]
def me9:Value:=ag [aJ 5 6,aJ 0 0]
def mt9:List (Int×Value):=[(17,me0),(18,me1),(19,me2),(20,me3),(26,me4),(27,me5),(35,me6),(38,me7),(40,me8),(41,me9)]
def A7g:Value:=ag [aJ 0 0,aJ 0 0]
def F1s:List (Int×Value):=[(17,me0),(18,me1),(19,me2),(20,me3),(26,me4),(27,me5),(35,me6),(38,me7),(40,me8),(41,me9),(2,A7g)]
def A7u:Value:=ag [aJ 0 0,aJ 0 0]
def F2b:List (Int×Value):=[(17,me0),(18,me1),(19,me2),(20,me3),(26,me4),(27,me5),(35,me6),(38,me7),(40,me8),(41,me9),(2,A7g),(3,A7u)]
def A8e:Value:=ag [aJ 0 0,aJ 0 0]
def F1z:List (Int×Value):=[(17,me0),(18,me1),(19,me2),(20,me3),(26,me4),(27,me5),(35,me6),(38,me7),(40,me8),(41,me9),(2,A7g),(3,A7u),(4,A8e)]
def A8w:Value:=ag [aJ 0 0,aJ 0 0]
def F2v:List (Int×Value):=[(17,me0),(18,me1),(19,me2),(20,me3),(26,me4),(27,me5),(35,me6),(38,me7),(40,me8),(41,me9),(2,A7g),(3,A7u),(4,A8e),(5,A8w)]
def A9n:Value:=ag [aJ 0 0,aJ 0 0]
def F2z:List (Int×Value):=[(17,me0),(18,me1),(19,me2),(20,me3),(26,me4),(27,me5),(35,me6),(38,me7),(40,me8),(41,me9),(2,A7g),(3,A7u),(4,A8e),(5,A8w),(6,A9n)]
def B0s:Value:=ag [aJ 0 0,aJ 0 0]
def F0o:List (Int×Value):=[(17,me0),(18,me1),(19,me2),(20,me3),(26,me4),(27,me5),(35,me6),(38,me7),(40,me8),(41,me9),(2,A7g),(3,A7u),(4,A8e),(5,A8w),(6,A9n),(8,B0s)]
def B0y:Value:=ag [aJ 0 0,aJ 0 0]
def F1g:List (Int×Value):=[(17,me0),(18,me1),(19,me2),(20,me3),(26,me4),(27,me5),(35,me6),(38,me7),(40,me8),(41,me9),(2,A7g),(3,A7u),(4,A8e),(5,A8w),(6,A9n),(8,B0s),(9,B0y)]
def B1u:Value:=ag [aJ 0 0,aJ 0 0]
def F2h:List (Int×Value):=[(17,me0),(18,me1),(19,me2),(20,me3),(26,me4),(27,me5),(35,me6),(38,me7),(40,me8),(41,me9),(2,A7g),(3,A7u),(4,A8e),(5,A8w),(6,A9n),(8,B0s),(9,B0y),(10,B1u)]
def B3g:Value:=ag [aJ 0 0,aJ 0 0]
def F2l:List (Int×Value):=[(17,me0),(18,me1),(19,me2),(20,me3),(26,me4),(27,me5),(35,me6),(38,me7),(40,me8),(41,me9),(2,A7g),(3,A7u),(4,A8e),(5,A8w),(6,A9n),(8,B0s),(9,B0y),(10,B1u),(11,B3g)]
def B3s:Value:=ag [aJ 0 0,aJ 0 0]
def F2n:List (Int×Value):=[(17,me0),(18,me1),(19,me2),(20,me3),(26,me4),(27,me5),(35,me6),(38,me7),(40,me8),(41,me9),(2,A7g),(3,A7u),(4,A8e),(5,A8w),(6,A9n),(8,B0s),(9,B0y),(10,B1u),(11,B3g),(12,B3s)]
def B5g:Value:=ag [aJ 0 0,aJ 0 0]
def F1k:List (Int×Value):=[(17,me0),(18,me1),(19,me2),(20,me3),(26,me4),(27,me5),(35,me6),(38,me7),(40,me8),(41,me9),(2,A7g),(3,A7u),(4,A8e),(5,A8w),(6,A9n),(8,B0s),(9,B0y),(10,B1u),(11,B3g),(12,B3s),(13,B5g)]
def B6f:Value:=ag [aJ 0 0,aJ 0 0]
def F1w:List (Int×Value):=[(17,me0),(18,me1),(19,me2),(20,me3),(26,me4),(27,me5),(35,me6),(38,me7),(40,me8),(41,me9),(2,A7g),(3,A7u),(4,A8e),(5,A8w),(6,A9n),(8,B0s),(9,B0y),(10,B1u),(11,B3g),(12,B3s),(13,B5g),(15,B6f)]
def B6i:Value:=ag [aJ 0 0,aJ 0 0]
def F2d:List (Int×Value):=[(17,me0),(18,me1),(19,me2),(20,me3),(26,me4),(27,me5),(35,me6),(38,me7),(40,me8),(41,me9),(2,A7g),(3,A7u),(4,A8e),(5,A8w),(6,A9n),(8,B0s),(9,B0y),(10,B1u),(11,B3g),(12,B3s),(13,B5g),(15,B6f),(16,B6i)]
def B8m:Value:=ag [aJ 0 1,aJ 0 0]
def F2q:List (Int×Value):=[(17,me0),(18,me1),(19,me2),(20,me3),(26,me4),(27,me5),(35,me6),(38,me7),(40,me8),(41,me9),(2,A7g),(3,A7u),(4,A8e),(5,A8w),(6,A9n),(8,B0s),(9,B0y),(10,B1u),(11,B3g),(12,B3s),(13,B5g),(15,B6f),(16,B6i),(7,B8m)]
def B9b:Value:=ag [aJ 0 1,aJ 0 0]
def F1c:List (Int×Value):=[(17,me0),(18,me1),(19,me2),(20,me3),(26,me4),(27,me5),(35,me6),(38,me7),(40,me8),(41,me9),(2,A7g),(3,A7u),(4,A8e),(5,A8w),(6,A9n),(8,B0s),(9,B0y),(10,B1u),(11,B3g),(12,B3s),(13,B5g),(15,B6f),(16,B6i),(7,B8m),(14,B9b)]
def C0o:Value:=ag [aJ 0 1,aJ 0 0]
def F0j:List (Int×Value):=[(17,me0),(18,me1),(19,me2),(20,me3),(26,me4),(27,me5),(35,me6),(38,me7),(40,me8),(41,me9),(2,A7g),(3,A7u),(4,A8e),(5,A8w),(6,A9n),(8,B0s),(9,B0y),(10,B1u),(11,B3g),(12,B3s),(13,B5g),(15,B6f),(16,B6i),(7,B8m),(14,B9b),(42,C0o)]
def C2r:Value:=ag [aJ 0 1,aJ 1 9999]
def F0x:List (Int×Value):=[(17,me0),(18,me1),(19,me2),(20,me3),(26,me4),(27,me5),(35,me6),(38,me7),(40,me8),(41,me9),(2,A7g),(3,A7u),(4,A8e),(5,A8w),(6,A9n),(8,B0s),(9,B0y),(10,B1u),(11,B3g),(12,B3s),(13,B5g),(15,B6f),(16,B6i),(7,B8m),(14,B9b),(42,C0o),(21,C2r)]
def C3a:Value:=ag [aJ 0 1,aJ 1 9999]
def F0z:List (Int×Value):=[(17,me0),(18,me1),(19,me2),(20,me3),(26,me4),(27,me5),(35,me6),(38,me7),(40,me8),(41,me9),(2,A7g),(3,A7u),(4,A8e),(5,A8w),(6,A9n),(8,B0s),(9,B0y),(10,B1u),(11,B3g),(12,B3s),(13,B5g),(15,B6f),(16,B6i),(7,B8m),(14,B9b),(42,C0o),(21,C2r),(33,C3a)]
def C6e:Value:=ag [aJ 1 9999,aJ 0 0]
def F1t:List (Int×Value):=[(17,me0),(18,me1),(19,me2),(20,me3),(26,me4),(27,me5),(35,me6),(38,me7),(40,me8),(41,me9),(2,A7g),(3,A7u),(4,A8e),(5,A8w),(6,A9n),(8,B0s),(9,B0y),(10,B1u),(11,B3g),(12,B3s),(13,B5g),(15,B6f),(16,B6i),(7,B8m),(14,B9b),(42,C0o),(21,C2r),(33,C3a),(22,C6e)]
def C7w:Value:=ag [aJ 1 9999,aJ 0 0]
def F2p:List (Int×Value):=[(17,me0),(18,me1),(19,me2),(20,me3),(26,me4),(27,me5),(35,me6),(38,me7),(40,me8),(41,me9),(2,A7g),(3,A7u),(4,A8e),(5,A8w),(6,A9n),(8,B0s),(9,B0y),(10,B1u),(11,B3g),(12,B3s),(13,B5g),(15,B6f),(16,B6i),(7,B8m),(14,B9b),(42,C0o),(21,C2r),(33,C3a),(22,C6e),(23,C7w)]
def C8v:Value:=ag [aJ 1 9999,aJ 0 0]
def F2s:List (Int×Value):=[(17,me0),(18,me1),(19,me2),(20,me3),(26,me4),(27,me5),(35,me6),(38,me7),(40,me8),(41,me9),(2,A7g),(3,A7u),(4,A8e),(5,A8w),(6,A9n),(8,B0s),(9,B0y),(10,B1u),(11,B3g),(12,B3s),(13,B5g),(15,B6f),(16,B6i),(7,B8m),(14,B9b),(42,C0o),(21,C2r),(33,C3a),(22,C6e),(23,C7w),(24,C8v)]
def D1v:Value:=ag [aJ 1 9999,aJ 0 0]
def F1p:List (Int×Value):=[(17,me0),(18,me1),(19,me2),(20,me3),(26,me4),(27,me5),(35,me6),(38,me7),(40,me8),(41,me9),(2,A7g),(3,A7u),(4,A8e),(5,A8w),(6,A9n),(8,B0s),(9,B0y),(10,B1u),(11,B3g),(12,B3s),(13,B5g),(15,B6f),(16,B6i),(7,B8m),(14,B9b),(42,C0o),(21,C2r),(33,C3a),(22,C6e),(23,C7w),(24,C8v),(25,D1v)]
def D3q:Value:=ag [aJ 1 9999,aJ 0 0]
def F1d:List (Int×Value):=[(17,me0),(18,me1),(19,me2),(20,me3),(26,me4),(27,me5),(35,me6),(38,me7),(40,me8),(41,me9),(2,A7g),(3,A7u),(4,A8e),(5,A8w),(6,A9n),(8,B0s),(9,B0y),(10,B1u),(11,B3g),(12,B3s),(13,B5g),(15,B6f),(16,B6i),(7,B8m),(14,B9b),(42,C0o),(21,C2r),(33,C3a),(22,C6e),(23,C7w),(24,C8v),(25,D1v),(28,D3q)]
def D7a:Value:=ag [aJ 1 9999,aJ 0 0]
def F2j:List (Int×Value):=[(17,me0),(18,me1),(19,me2),(20,me3),(26,me4),(27,me5),(35,me6),(38,me7),(40,me8),(41,me9),(2,A7g),(3,A7u),(4,A8e),(5,A8w),(6,A9n),(8,B0s),(9,B0y),(10,B1u),(11,B3g),(12,B3s),(13,B5g),(15,B6f),(16,B6i),(7,B8m),(14,B9b),(42,C0o),(21,C2r),(33,C3a),(22,C6e),(23,C7w),(24,C8v),(25,D1v),(28,D3q),(29,D7a)]
def E0b:Value:=ag [aJ 1 9999,aJ 0 0]
def F1l:List (Int×Value):=[(17,me0),(18,me1),(19,me2),(20,me3),(26,me4),(27,me5),(35,me6),(38,me7),(40,me8),(41,me9),(2,A7g),(3,A7u),(4,A8e),(5,A8w),(6,A9n),(8,B0s),(9,B0y),(10,B1u),(11,B3g),(12,B3s),(13,B5g),(15,B6f),(16,B6i),(7,B8m),(14,B9b),(42,C0o),(21,C2r),(33,C3a),(22,C6e),(23,C7w),(24,C8v),(25,D1v),(28,D3q),(29,D7a),(30,E0b)]
def E3u:Value:=ag [aJ 1 9999,aJ 0 0]
def F0r:List (Int×Value):=[(17,me0),(18,me1),(19,me2),(20,me3),(26,me4),(27,me5),(35,me6),(38,me7),(40,me8),(41,me9),(2,A7g),(3,A7u),(4,A8e),(5,A8w),(6,A9n),(8,B0s),(9,B0y),(10,B1u),(11,B3g),(12,B3s),(13,B5g),(15,B6f),(16,B6i),(7,B8m),(14,B9b),(42,C0o),(21,C2r),(33,C3a),(22,C6e),(23,C7w),(24,C8v),(25,D1v),(28,D3q),(29,D7a),(30,E0b),(31,E3u)]
def E6c:Value:=ag [aJ 1 9999,aJ 0 0]
def F2g:List (Int×Value):=[(17,me0),(18,me1),(19,me2),(20,me3),(26,me4),(27,me5),(35,me6),(38,me7),(40,me8),(41,me9),(2,A7g),(3,A7u),(4,A8e),(5,A8w),(6,A9n),(8,B0s),(9,B0y),(10,B1u),(11,B3g),(12,B3s),(13,B5g),(15,B6f),(16,B6i),(7,B8m),(14,B9b),(42,C0o),(21,C2r),(33,C3a),(22,C6e),(23,C7w),(24,C8v),(25,D1v),(28,D3q),(29,D7a),(30,E0b),(31,E3u),(32,E6c)]
def E9q:Value:=ag [aJ 1 9999,aJ 0 0]
def F0u:List (Int×Value):=[(17,me0),(18,me1),(19,me2),(20,me3),(26,me4),(27,me5),(35,me6),(38,me7),(40,me8),(41,me9),(2,A7g),(3,A7u),(4,A8e),(5,A8w),(6,A9n),(8,B0s),(9,B0y),(10,B1u),(11,B3g),(12,B3s),(13,B5g),(15,B6f),(16,B6i),(7,B8m),(14,B9b),(42,C0o),(21,C2r),(33,C3a),(22,C6e),(23,C7w),(24,C8v),(25,D1v),(28,D3q),(29,D7a),(30,E0b),(31,E3u),(32,E6c),(34,E9q)]
def F2o:Value:=ag [aJ 0 9999,aJ 0 1]
def F0t:List (Int×Value):=[(17,me0),(18,me1),(19,me2),(20,me3),(26,me4),(27,me5),(35,me6),(38,me7),(40,me8),(41,me9),(2,A7g),(3,A7u),(4,A8e),(5,A8w),(6,A9n),(8,B0s),(9,B0y),(10,B1u),(11,B3g),(12,B3s),(13,B5g),(15,B6f),(16,B6i),(7,B8m),(14,B9b),(42,C0o),(21,C2r),(33,C3a),(22,C6e),(23,C7w),(24,C8v),(25,D1v),(28,D3q),(29,D7a),(30,E0b),(31,E3u),(32,E6c),(34,E9q),(36,F2o)]
def F4a:Value:=ag [aJ 0 9999,aJ 0 1]
def F3a:List (Int×Value):=[(17,me0),(18,me1),(19,me2),(20,me3),(26,me4),(27,me5),(35,me6),(38,me7),(40,me8),(41,me9),(2,A7g),(3,A7u),(4,A8e),(5,A8w),(6,A9n),(8,B0s),(9,B0y),(10,B1u),(11,B3g),(12,B3s),(13,B5g),(15,B6f),(16,B6i),(7,B8m),(14,B9b),(42,C0o),(21,C2r),(33,C3a),(22,C6e),(23,C7w),(24,C8v),(25,D1v),(28,D3q),(29,D7a),(30,E0b),(31,E3u),(32,E6c),(34,E9q),(36,F2o),(37,F4a)]
def F5b:Value:=ag [aJ 0 9999,aJ 0 1]
def F1f:List (Int×Value):=[(17,me0),(18,me1),(19,me2),(20,me3),(26,me4),(27,me5),(35,me6),(38,me7),(40,me8),(41,me9),(2,A7g),(3,A7u),(4,A8e),(5,A8w),(6,A9n),(8,B0s),(9,B0y),(10,B1u),(11,B3g),(12,B3s),(13,B5g),(15,B6f),(16,B6i),(7,B8m),(14,B9b),(42,C0o),(21,C2r),(33,C3a),(22,C6e),(23,C7w),(24,C8v),(25,D1v),(28,D3q),(29,D7a),(30,E0b),(31,E3u),(32,E6c),(34,E9q),(36,F2o),(37,F4a),(43,F5b)]
def B9q:Unit :=
 ()
set_option maxHeartbeats 2000000 in
theorem A0z {R:Unit} (hR:B9q=R):cI Tryz.prog 40 [] [] [] (Nat) (fun x=>.map (some x)) (fun x=>[(x,.map (B6 F1f 0).toArray 41)]) (fun x=>[]):=by
 refine bZ Tryz.func40 fun X hX hr hD=>?_
 replace hR:=(B9q.eq_1 ..).symm.trans hR
 refine bN rfl (pp0 1 rfl (ie (bN rfl (zv rfl (C8e rfl) (ip' 9 0 [(1,aJ 0 0),(2,aJ 0 1),(3,aJ 1 9999),(4,aJ 0 9999)] (ie (bN rfl (it rfl (A0w rfl) fun a=>(bY 4 44 [] [(26,ag [aJ 0 3,aJ 0 1])] (it rfl (F3 (es:=#[]) (es':=(B6 mt0 0).toArray) M1 (.inl rfl) rfl rfl rfl 0 rfl oki oki) fun _=>?_))))))))))
 refine znl [(a,.map (B6 mt0 0).toArray 1)] (bY 4 39 [] [(30,ag [aJ 2 3,aJ 0 0])] (it rfl (F3 (es:=(B6 mt0 0).toArray) (es':=(B6 mt1 0).toArray) M1 (.inl rfl) rfl rfl rfl 0 rfl oki oki) fun _=>?_))
 refine znl [(a,.map (B6 mt1 0).toArray 2)] (bY 3 35 [] [(33,ag [aJ 1 9999,aJ 1 9999])] (it rfl (F3 (es:=(B6 mt1 0).toArray) (es':=(B6 mt2 0).toArray) M1 (.inl rfl) rfl rfl rfl 0 rfl oki oki) fun _=>?_))
 refine znl [(a,.map (B6 mt2 0).toArray 3)] (bY 4 30 [] [(37,ag [aJ 0 3,aJ 1 9999])] (it rfl (F3 (es:=(B6 mt2 0).toArray) (es':=(B6 mt3 0).toArray) M1 (.inl rfl) rfl rfl rfl 0 rfl oki oki) fun _=>?_))
 refine znl [(a,.map (B6 mt3 0).toArray 4)] (bY 4 25 [] [(41,ag [aJ 0 3,aJ 0 0])] (it rfl (F3 (es:=(B6 mt3 0).toArray) (es':=(B6 mt4 0).toArray) M1 (.inl rfl) rfl rfl rfl 0 rfl oki oki) fun _=>?_))
 refine znl [(a,.map (B6 mt4 0).toArray 5)] (bY 4 20 [] [(45,ag [aJ 0 2,aJ 0 0])] (it rfl (F3 (es:=(B6 mt4 0).toArray) (es':=(B6 mt5 0).toArray) M1 (.inl rfl) rfl rfl rfl 0 rfl oki oki) fun _=>?_))
 refine znl [(a,.map (B6 mt5 0).toArray 6)] (bY 2 17 [] [(47,ag [aE 103,aJ 0 0])] (it rfl (F3 (es:=(B6 mt5 0).toArray) (es':=(B6 mt6 0).toArray) M1 (.inl rfl) rfl rfl rfl 0 rfl oki oki) fun _=>?_))
 refine znl [(a,.map (B6 mt6 0).toArray 7)] (bY 3 13 [] [(50,ag [aJ 0 9999,aJ 0 9999])] (it rfl (F3 (es:=(B6 mt6 0).toArray) (es':=(B6 mt7 0).toArray) M1 (.inl rfl) rfl rfl rfl 0 rfl oki oki) fun _=>?_))
 refine znl [(a,.map (B6 mt7 0).toArray 8)] (bY 4 8 [] [(54,ag [aJ 0 6,aJ 0 0])] (it rfl (F3 (es:=(B6 mt7 0).toArray) (es':=(B6 mt8 0).toArray) M1 (.inl rfl) rfl rfl rfl 0 rfl oki oki) fun _=>?_))
 refine znl [(a,.map (B6 mt8 0).toArray 9)] (bY 4 3 [] [(58,ag [aJ 5 6,aJ 0 0])] (it rfl (F3 (es:=(B6 mt8 0).toArray) (es':=(B6 mt9 0).toArray) M1 (.inl rfl) rfl rfl rfl 0 rfl oki oki) fun _=>?_))
 refine znl [(a,.map (B6 mt9 0).toArray 10)] (bO 2 5 rfl (ie (A5 (bN rfl (bY 2 0 [] [(60,ag [iv 2,iv 3,iv 4,iv 5,iv 6,iv 8,iv 9,iv 10,iv 11,iv 12,iv 13,iv 15,iv 16]),(61,iv 0)] (ie (B2 (Z6 15 ?_))))))))
 refine D9 (bN rfl (bO 1 62 rfl ?_))
 refine ie (A5 (J9 rfl (A4 (nx (A5 (B2 (bN rfl (ix rfl (E9 Tryz.underlying163 cA rfl rfl rfl 0 rfl ozw rfl rfl rfl) (bO 1 7 rfl (ie (A0 6 rfl (bY 5 1 [] [(64,.map (some a)),(65,iv 2),(68,ag [aJ 0 0,aJ 0 0])] (it rfl (F3 (es:=(B6 mt9 0).toArray) (es':=(B6 F1s 0).toArray) M1 (.inr rfl) rfl rfl rfl 0 rfl oki oki) fun _=>?_)))))))))))))
 refine znl [(a,.map (B6 F1s 0).toArray 11)] (A3 (nx (A0 2 rfl (ix rfl (B4 (c:=1) rfl rfl rfl rfl ozw) (bO 1 61 rfl (A3 (D9 (bN rfl (bO 1 62 rfl (ie (A5 (J9 rfl (A4 (nx (A5 (B2 (bN rfl (ix rfl (E9 Tryz.underlying163 cA rfl rfl rfl 1 rfl ozw rfl rfl rfl) (bO 1 7 rfl (ie (A0 6 rfl (bY 5 1 [] [(64,.map (some a)),(65,iv 3),(68,ag [aJ 0 0,aJ 0 0])] ?_))))))))))))))))))))))
 refine it rfl (F3 (es:=(B6 F1s 0).toArray) (es':=(B6 F2b 0).toArray) M1 (.inr rfl) rfl rfl rfl 0 rfl oki oki) fun _=>?_
 refine znl [(a,.map (B6 F2b 0).toArray 12)] (A3 (nx (A0 2 rfl (ix rfl (B4 (c:=2) rfl rfl rfl rfl ozw) (bO 1 61 rfl (A3 (D9 (bN rfl (bO 1 62 rfl (ie (A5 (J9 rfl (A4 (nx (A5 (B2 (bN rfl (ix rfl (E9 Tryz.underlying163 cA rfl rfl rfl 2 rfl ozw rfl rfl rfl) (bO 1 7 rfl (ie (A0 6 rfl (bY 5 1 [] [(64,.map (some a)),(65,iv 4),(68,ag [aJ 0 0,aJ 0 0])] ?_))))))))))))))))))))))
 refine it rfl (F3 (es:=(B6 F2b 0).toArray) (es':=(B6 F1z 0).toArray) M1 (.inr rfl) rfl rfl rfl 0 rfl oki oki) fun _=>?_
 refine znl [(a,.map (B6 F1z 0).toArray 13)] (A3 (nx (A0 2 rfl (ix rfl (B4 (c:=3) rfl rfl rfl rfl ozw) (bO 1 61 rfl (A3 (D9 (bN rfl (bO 1 62 rfl (ie (A5 (J9 rfl (A4 (nx (A5 (B2 (bN rfl (ix rfl (E9 Tryz.underlying163 cA rfl rfl rfl 3 rfl ozw rfl rfl rfl) (bO 1 7 rfl (ie (A0 6 rfl (bY 5 1 [] [(64,.map (some a)),(65,iv 5),(68,ag [aJ 0 0,aJ 0 0])] ?_))))))))))))))))))))))
 refine it rfl (F3 (es:=(B6 F1z 0).toArray) (es':=(B6 F2v 0).toArray) M1 (.inr rfl) rfl rfl rfl 0 rfl oki oki) fun _=>?_
 refine znl [(a,.map (B6 F2v 0).toArray 14)] (A3 (nx (A0 2 rfl (ix rfl (B4 (c:=4) rfl rfl rfl rfl ozw) (bO 1 61 rfl (A3 (D9 (bN rfl (bO 1 62 rfl (ie (A5 (J9 rfl (A4 (nx (A5 (B2 (bN rfl (ix rfl (E9 Tryz.underlying163 cA rfl rfl rfl 4 rfl ozw rfl rfl rfl) (bO 1 7 rfl (ie (A0 6 rfl (bY 5 1 [] [(64,.map (some a)),(65,iv 6),(68,ag [aJ 0 0,aJ 0 0])] ?_))))))))))))))))))))))
 refine it rfl (F3 (es:=(B6 F2v 0).toArray) (es':=(B6 F2z 0).toArray) M1 (.inr rfl) rfl rfl rfl 0 rfl oki oki) fun _=>?_
 refine znl [(a,.map (B6 F2z 0).toArray 15)] (A3 (nx (A0 2 rfl (ix rfl (B4 (c:=5) rfl rfl rfl rfl ozw) (bO 1 61 rfl (A3 (D9 (bN rfl (bO 1 62 rfl (ie (A5 (J9 rfl (A4 (nx (A5 (B2 (bN rfl (ix rfl (E9 Tryz.underlying163 cA rfl rfl rfl 5 rfl ozw rfl rfl rfl) (bO 1 7 rfl (ie (A0 6 rfl (bY 5 1 [] [(64,.map (some a)),(65,iv 8),(68,ag [aJ 0 0,aJ 0 0])] ?_))))))))))))))))))))))
 refine it rfl (F3 (es:=(B6 F2z 0).toArray) (es':=(B6 F0o 0).toArray) M1 (.inr rfl) rfl rfl rfl 0 rfl oki oki) fun _=>?_
 refine znl [(a,.map (B6 F0o 0).toArray 16)] (A3 (nx (A0 2 rfl (ix rfl (B4 (c:=6) rfl rfl rfl rfl ozw) (bO 1 61 rfl (A3 (D9 (bN rfl (bO 1 62 rfl (ie (A5 (J9 rfl (A4 (nx (A5 (B2 (bN rfl (ix rfl (E9 Tryz.underlying163 cA rfl rfl rfl 6 rfl ozw rfl rfl rfl) (bO 1 7 rfl (ie (A0 6 rfl (bY 5 1 [] [(64,.map (some a)),(65,iv 9),(68,ag [aJ 0 0,aJ 0 0])] ?_))))))))))))))))))))))
 refine it rfl (F3 (es:=(B6 F0o 0).toArray) (es':=(B6 F1g 0).toArray) M1 (.inr rfl) rfl rfl rfl 0 rfl oki oki) fun _=>?_
 refine znl [(a,.map (B6 F1g 0).toArray 17)] (A3 (nx (A0 2 rfl (ix rfl (B4 (c:=7) rfl rfl rfl rfl ozw) (bO 1 61 rfl (A3 (D9 (bN rfl (bO 1 62 rfl (ie (A5 (J9 rfl (A4 (nx (A5 (B2 (bN rfl (ix rfl (E9 Tryz.underlying163 cA rfl rfl rfl 7 rfl ozw rfl rfl rfl) (bO 1 7 rfl (ie (A0 6 rfl (bY 5 1 [] [(64,.map (some a)),(65,iv 10),(68,ag [aJ 0 0,aJ 0 0])] ?_))))))))))))))))))))))
 refine it rfl (F3 (es:=(B6 F1g 0).toArray) (es':=(B6 F2h 0).toArray) M1 (.inr rfl) rfl rfl rfl 0 rfl oki oki) fun _=>?_
 refine znl [(a,.map (B6 F2h 0).toArray 18)] (A3 (nx (A0 2 rfl (ix rfl (B4 (c:=8) rfl rfl rfl rfl ozw) (bO 1 61 rfl (A3 (D9 (bN rfl (bO 1 62 rfl (ie (A5 (J9 rfl (A4 (nx (A5 (B2 (bN rfl (ix rfl (E9 Tryz.underlying163 cA rfl rfl rfl 8 rfl ozw rfl rfl rfl) (bO 1 7 rfl (ie (A0 6 rfl (bY 5 1 [] [(64,.map (some a)),(65,iv 11),(68,ag [aJ 0 0,aJ 0 0])] ?_))))))))))))))))))))))
 refine it rfl (F3 (es:=(B6 F2h 0).toArray) (es':=(B6 F2l 0).toArray) M1 (.inr rfl) rfl rfl rfl 0 rfl oki oki) fun _=>?_
 refine znl [(a,.map (B6 F2l 0).toArray 19)] (A3 (nx (A0 2 rfl (ix rfl (B4 (c:=9) rfl rfl rfl rfl ozw) (bO 1 61 rfl (A3 (D9 (bN rfl (bO 1 62 rfl (ie (A5 (J9 rfl (A4 (nx (A5 (B2 (bN rfl (ix rfl (E9 Tryz.underlying163 cA rfl rfl rfl 9 rfl ozw rfl rfl rfl) (bO 1 7 rfl (ie (A0 6 rfl (bY 5 1 [] [(64,.map (some a)),(65,iv 12),(68,ag [aJ 0 0,aJ 0 0])] ?_))))))))))))))))))))))
 refine it rfl (F3 (es:=(B6 F2l 0).toArray) (es':=(B6 F2n 0).toArray) M1 (.inr rfl) rfl rfl rfl 0 rfl oki oki) fun _=>?_
 refine znl [(a,.map (B6 F2n 0).toArray 20)] (A3 (nx (A0 2 rfl (ix rfl (B4 (c:=10) rfl rfl rfl rfl ozw) (bO 1 61 rfl (A3 (D9 (bN rfl (bO 1 62 rfl (ie (A5 (J9 rfl (A4 (nx (A5 (B2 (bN rfl (ix rfl (E9 Tryz.underlying163 cA rfl rfl rfl 10 rfl ozw rfl rfl rfl) (bO 1 7 rfl (ie (A0 6 rfl (bY 5 1 [] [(64,.map (some a)),(65,iv 13),(68,ag [aJ 0 0,aJ 0 0])] ?_))))))))))))))))))))))
 refine it rfl (F3 (es:=(B6 F2n 0).toArray) (es':=(B6 F1k 0).toArray) M1 (.inr rfl) rfl rfl rfl 0 rfl oki oki) fun _=>?_
 refine znl [(a,.map (B6 F1k 0).toArray 21)] (A3 (nx (A0 2 rfl (ix rfl (B4 (c:=11) rfl rfl rfl rfl ozw) (bO 1 61 rfl (A3 (D9 (bN rfl (bO 1 62 rfl (ie (A5 (J9 rfl (A4 (nx (A5 (B2 (bN rfl (ix rfl (E9 Tryz.underlying163 cA rfl rfl rfl 11 rfl ozw rfl rfl rfl) (bO 1 7 rfl (ie (A0 6 rfl (bY 5 1 [] [(64,.map (some a)),(65,iv 15),(68,ag [aJ 0 0,aJ 0 0])] ?_))))))))))))))))))))))
 refine it rfl (F3 (es:=(B6 F1k 0).toArray) (es':=(B6 F1w 0).toArray) M1 (.inr rfl) rfl rfl rfl 0 rfl oki oki) fun _=>?_
 refine znl [(a,.map (B6 F1w 0).toArray 22)] (A3 (nx (A0 2 rfl (ix rfl (B4 (c:=12) rfl rfl rfl rfl ozw) (bO 1 61 rfl (A3 (D9 (bN rfl (bO 1 62 rfl (ie (A5 (J9 rfl (A4 (nx (A5 (B2 (bN rfl (ix rfl (E9 Tryz.underlying163 cA rfl rfl rfl 12 rfl ozw rfl rfl rfl) (bO 1 7 rfl (ie (A0 6 rfl (bY 5 1 [] [(64,.map (some a)),(65,iv 16),(68,ag [aJ 0 0,aJ 0 0])] ?_))))))))))))))))))))))
 refine it rfl (F3 (es:=(B6 F1w 0).toArray) (es':=(B6 F2d 0).toArray) M1 (.inr rfl) rfl rfl rfl 0 rfl oki oki) fun _=>?_
 refine znl [(a,.map (B6 F2d 0).toArray 23)] (A3 (nx (A0 2 rfl (ix rfl (B4 (c:=13) rfl rfl rfl rfl ozw) (bO 1 61 rfl (A3 (D9 (bN rfl (bO 1 62 rfl (ie (A5 (Z1 rfl (G6 (nx (A5 (bN rfl (bY 2 0 [] [(70,ag (C8s (⟨7,14,42⟩:Ar3))),(71,iv 0)] (ie (B2 (Z6 5 ?_))))))))))))))))))))
 refine D9 (bN rfl (bO 1 72 rfl ?_))
 refine ie (A5 (J9 rfl (A4 (nx (A5 (B2 (bN rfl (ix rfl (E9 Tryz.underlying120 cA rfl rfl rfl 0 rfl ozw rfl rfl rfl) (bO 1 9 rfl (ie (A0 6 rfl (bY 5 1 [] [(74,.map (some a)),(75,iv 7),(78,ag [aJ 0 1,aJ 0 0])] (it rfl (F3 (es:=(B6 F2d 0).toArray) (es':=(B6 F2q 0).toArray) M1 (.inr rfl) rfl rfl rfl 0 rfl oki oki) fun _=>?_)))))))))))))
 refine znl [(a,.map (B6 F2q 0).toArray 24)] (A3 (nx (A0 2 rfl (ix rfl (B4 (c:=1) rfl rfl rfl rfl ozw) (bO 1 71 rfl (A3 (D9 (bN rfl (bO 1 72 rfl (ie (A5 (J9 rfl (A4 (nx (A5 (B2 (bN rfl (ix rfl (E9 Tryz.underlying120 cA rfl rfl rfl 1 rfl ozw rfl rfl rfl) (bO 1 9 rfl (ie (A0 6 rfl (bY 5 1 [] [(74,.map (some a)),(75,iv 14),(78,ag [aJ 0 1,aJ 0 0])] ?_))))))))))))))))))))))
 refine it rfl (F3 (es:=(B6 F2q 0).toArray) (es':=(B6 F1c 0).toArray) M1 (.inr rfl) rfl rfl rfl 0 rfl oki oki) fun _=>?_
 refine znl [(a,.map (B6 F1c 0).toArray 25)] (A3 (nx (A0 2 rfl (ix rfl (B4 (c:=2) rfl rfl rfl rfl ozw) (bO 1 71 rfl (A3 (D9 (bN rfl (bO 1 72 rfl (ie (A5 (J9 rfl (A4 (nx (A5 (B2 (bN rfl (ix rfl (E9 Tryz.underlying120 cA rfl rfl rfl 2 rfl ozw rfl rfl rfl) (bO 1 9 rfl (ie (A0 6 rfl (bY 5 1 [] [(74,.map (some a)),(75,iv 42),(78,ag [aJ 0 1,aJ 0 0])] ?_))))))))))))))))))))))
 refine it rfl (F3 (es:=(B6 F1c 0).toArray) (es':=(B6 F0j 0).toArray) M1 (.inr rfl) rfl rfl rfl 0 rfl oki oki) fun _=>?_
 refine znl [(a,.map (B6 F0j 0).toArray 26)] (A3 (nx (A0 2 rfl (ix rfl (B4 (c:=3) rfl rfl rfl rfl ozw) (bO 1 71 rfl (A3 (D9 (bN rfl (bO 1 72 rfl (ie (A5 (Z1 rfl (G6 (nx (A5 (bN rfl (bY 2 0 [] [(80,ag (B6n (⟨21,33⟩:Ar2))),(81,iv 0)] (ie (B2 (Z6 4 ?_))))))))))))))))))))
 refine D9 (bN rfl (bO 1 82 rfl ?_))
 refine ie (A5 (J9 rfl (A4 (nx (A5 (B2 (bN rfl (ix rfl (E9 Tryz.underlying35 cA rfl rfl rfl 0 rfl ozw rfl rfl rfl) (bO 1 11 rfl (ie (A0 6 rfl (bY 5 1 [] [(84,.map (some a)),(85,iv 21),(88,ag [aJ 0 1,aJ 1 9999])] (it rfl (F3 (es:=(B6 F0j 0).toArray) (es':=(B6 F0x 0).toArray) M1 (.inr rfl) rfl rfl rfl 0 rfl oki oki) fun _=>?_)))))))))))))
 refine znl [(a,.map (B6 F0x 0).toArray 27)] (A3 (nx (A0 2 rfl (ix rfl (B4 (c:=1) rfl rfl rfl rfl ozw) (bO 1 81 rfl (A3 (D9 (bN rfl (bO 1 82 rfl (ie (A5 (J9 rfl (A4 (nx (A5 (B2 (bN rfl (ix rfl (E9 Tryz.underlying35 cA rfl rfl rfl 1 rfl ozw rfl rfl rfl) (bO 1 11 rfl (ie (A0 6 rfl (bY 5 1 [] [(84,.map (some a)),(85,iv 33),(88,ag [aJ 0 1,aJ 1 9999])] ?_))))))))))))))))))))))
 refine it rfl (F3 (es:=(B6 F0x 0).toArray) (es':=(B6 F0z 0).toArray) M1 (.inr rfl) rfl rfl rfl 0 rfl oki oki) fun _=>?_
 refine znl [(a,.map (B6 F0z 0).toArray 28)] (A3 (nx (A0 2 rfl (ix rfl (B4 (c:=2) rfl rfl rfl rfl ozw) (bO 1 81 rfl (A3 (D9 (bN rfl (bO 1 82 rfl (ie (A5 (Z1 rfl (G6 (nx (A5 (bN rfl (bY 2 0 [] [(90,ag [iv 22,iv 23,iv 24,iv 25,iv 28,iv 29,iv 30,iv 31,iv 32,iv 34]),(91,iv 0)] (ie (B2 (Z6 12 ?_))))))))))))))))))))
 refine D9 (bN rfl (bO 1 92 rfl ?_))
 refine ie (A5 (J9 rfl (A4 (nx (A5 (B2 (bN rfl (ix rfl (E9 Tryz.underlying164 cA rfl rfl rfl 0 rfl ozw rfl rfl rfl) (bO 1 13 rfl (ie (A0 6 rfl (bY 5 1 [] [(94,.map (some a)),(95,iv 22),(98,ag [aJ 1 9999,aJ 0 0])] (it rfl (F3 (es:=(B6 F0z 0).toArray) (es':=(B6 F1t 0).toArray) M1 (.inr rfl) rfl rfl rfl 0 rfl oki oki) fun _=>?_)))))))))))))
 refine znl [(a,.map (B6 F1t 0).toArray 29)] (A3 (nx (A0 2 rfl (ix rfl (B4 (c:=1) rfl rfl rfl rfl ozw) (bO 1 91 rfl (A3 (D9 (bN rfl (bO 1 92 rfl (ie (A5 (J9 rfl (A4 (nx (A5 (B2 (bN rfl (ix rfl (E9 Tryz.underlying164 cA rfl rfl rfl 1 rfl ozw rfl rfl rfl) (bO 1 13 rfl (ie (A0 6 rfl (bY 5 1 [] [(94,.map (some a)),(95,iv 23),(98,ag [aJ 1 9999,aJ 0 0])] ?_))))))))))))))))))))))
 refine it rfl (F3 (es:=(B6 F1t 0).toArray) (es':=(B6 F2p 0).toArray) M1 (.inr rfl) rfl rfl rfl 0 rfl oki oki) fun _=>?_
 refine znl [(a,.map (B6 F2p 0).toArray 30)] (A3 (nx (A0 2 rfl (ix rfl (B4 (c:=2) rfl rfl rfl rfl ozw) (bO 1 91 rfl (A3 (D9 (bN rfl (bO 1 92 rfl (ie (A5 (J9 rfl (A4 (nx (A5 (B2 (bN rfl (ix rfl (E9 Tryz.underlying164 cA rfl rfl rfl 2 rfl ozw rfl rfl rfl) (bO 1 13 rfl (ie (A0 6 rfl (bY 5 1 [] [(94,.map (some a)),(95,iv 24),(98,ag [aJ 1 9999,aJ 0 0])] ?_))))))))))))))))))))))
 refine it rfl (F3 (es:=(B6 F2p 0).toArray) (es':=(B6 F2s 0).toArray) M1 (.inr rfl) rfl rfl rfl 0 rfl oki oki) fun _=>?_
 refine znl [(a,.map (B6 F2s 0).toArray 31)] (A3 (nx (A0 2 rfl (ix rfl (B4 (c:=3) rfl rfl rfl rfl ozw) (bO 1 91 rfl (A3 (D9 (bN rfl (bO 1 92 rfl (ie (A5 (J9 rfl (A4 (nx (A5 (B2 (bN rfl (ix rfl (E9 Tryz.underlying164 cA rfl rfl rfl 3 rfl ozw rfl rfl rfl) (bO 1 13 rfl (ie (A0 6 rfl (bY 5 1 [] [(94,.map (some a)),(95,iv 25),(98,ag [aJ 1 9999,aJ 0 0])] ?_))))))))))))))))))))))
 refine it rfl (F3 (es:=(B6 F2s 0).toArray) (es':=(B6 F1p 0).toArray) M1 (.inr rfl) rfl rfl rfl 0 rfl oki oki) fun _=>?_
 refine znl [(a,.map (B6 F1p 0).toArray 32)] (A3 (nx (A0 2 rfl (ix rfl (B4 (c:=4) rfl rfl rfl rfl ozw) (bO 1 91 rfl (A3 (D9 (bN rfl (bO 1 92 rfl (ie (A5 (J9 rfl (A4 (nx (A5 (B2 (bN rfl (ix rfl (E9 Tryz.underlying164 cA rfl rfl rfl 4 rfl ozw rfl rfl rfl) (bO 1 13 rfl (ie (A0 6 rfl (bY 5 1 [] [(94,.map (some a)),(95,iv 28),(98,ag [aJ 1 9999,aJ 0 0])] ?_))))))))))))))))))))))
 refine it rfl (F3 (es:=(B6 F1p 0).toArray) (es':=(B6 F1d 0).toArray) M1 (.inr rfl) rfl rfl rfl 0 rfl oki oki) fun _=>?_
 refine znl [(a,.map (B6 F1d 0).toArray 33)] (A3 (nx (A0 2 rfl (ix rfl (B4 (c:=5) rfl rfl rfl rfl ozw) (bO 1 91 rfl (A3 (D9 (bN rfl (bO 1 92 rfl (ie (A5 (J9 rfl (A4 (nx (A5 (B2 (bN rfl (ix rfl (E9 Tryz.underlying164 cA rfl rfl rfl 5 rfl ozw rfl rfl rfl) (bO 1 13 rfl (ie (A0 6 rfl (bY 5 1 [] [(94,.map (some a)),(95,iv 29),(98,ag [aJ 1 9999,aJ 0 0])] ?_))))))))))))))))))))))
 refine it rfl (F3 (es:=(B6 F1d 0).toArray) (es':=(B6 F2j 0).toArray) M1 (.inr rfl) rfl rfl rfl 0 rfl oki oki) fun _=>?_
 refine znl [(a,.map (B6 F2j 0).toArray 34)] (A3 (nx (A0 2 rfl (ix rfl (B4 (c:=6) rfl rfl rfl rfl ozw) (bO 1 91 rfl (A3 (D9 (bN rfl (bO 1 92 rfl (ie (A5 (J9 rfl (A4 (nx (A5 (B2 (bN rfl (ix rfl (E9 Tryz.underlying164 cA rfl rfl rfl 6 rfl ozw rfl rfl rfl) (bO 1 13 rfl (ie (A0 6 rfl (bY 5 1 [] [(94,.map (some a)),(95,iv 30),(98,ag [aJ 1 9999,aJ 0 0])] ?_))))))))))))))))))))))
 refine it rfl (F3 (es:=(B6 F2j 0).toArray) (es':=(B6 F1l 0).toArray) M1 (.inr rfl) rfl rfl rfl 0 rfl oki oki) fun _=>?_
 refine znl [(a,.map (B6 F1l 0).toArray 35)] (A3 (nx (A0 2 rfl (ix rfl (B4 (c:=7) rfl rfl rfl rfl ozw) (bO 1 91 rfl (A3 (D9 (bN rfl (bO 1 92 rfl (ie (A5 (J9 rfl (A4 (nx (A5 (B2 (bN rfl (ix rfl (E9 Tryz.underlying164 cA rfl rfl rfl 7 rfl ozw rfl rfl rfl) (bO 1 13 rfl (ie (A0 6 rfl (bY 5 1 [] [(94,.map (some a)),(95,iv 31),(98,ag [aJ 1 9999,aJ 0 0])] ?_))))))))))))))))))))))
 refine it rfl (F3 (es:=(B6 F1l 0).toArray) (es':=(B6 F0r 0).toArray) M1 (.inr rfl) rfl rfl rfl 0 rfl oki oki) fun _=>?_
 refine znl [(a,.map (B6 F0r 0).toArray 36)] (A3 (nx (A0 2 rfl (ix rfl (B4 (c:=8) rfl rfl rfl rfl ozw) (bO 1 91 rfl (A3 (D9 (bN rfl (bO 1 92 rfl (ie (A5 (J9 rfl (A4 (nx (A5 (B2 (bN rfl (ix rfl (E9 Tryz.underlying164 cA rfl rfl rfl 8 rfl ozw rfl rfl rfl) (bO 1 13 rfl (ie (A0 6 rfl (bY 5 1 [] [(94,.map (some a)),(95,iv 32),(98,ag [aJ 1 9999,aJ 0 0])] ?_))))))))))))))))))))))
 refine it rfl (F3 (es:=(B6 F0r 0).toArray) (es':=(B6 F2g 0).toArray) M1 (.inr rfl) rfl rfl rfl 0 rfl oki oki) fun _=>?_
 refine znl [(a,.map (B6 F2g 0).toArray 37)] (A3 (nx (A0 2 rfl (ix rfl (B4 (c:=9) rfl rfl rfl rfl ozw) (bO 1 91 rfl (A3 (D9 (bN rfl (bO 1 92 rfl (ie (A5 (J9 rfl (A4 (nx (A5 (B2 (bN rfl (ix rfl (E9 Tryz.underlying164 cA rfl rfl rfl 9 rfl ozw rfl rfl rfl) (bO 1 13 rfl (ie (A0 6 rfl (bY 5 1 [] [(94,.map (some a)),(95,iv 34),(98,ag [aJ 1 9999,aJ 0 0])] ?_))))))))))))))))))))))
 refine it rfl (F3 (es:=(B6 F2g 0).toArray) (es':=(B6 F0u 0).toArray) M1 (.inr rfl) rfl rfl rfl 0 rfl oki oki) fun _=>?_
 refine znl [(a,.map (B6 F0u 0).toArray 38)] (A3 (nx (A0 2 rfl (ix rfl (B4 (c:=10) rfl rfl rfl rfl ozw) (bO 1 91 rfl (A3 (D9 (bN rfl (bO 1 92 rfl (ie (A5 (Z1 rfl (G6 (nx (A5 (bN rfl (bY 2 0 [] [(100,ag (C8s (⟨36,37,43⟩:Ar3))),(101,iv 0)] (ie (B2 (Z6 5 ?_))))))))))))))))))))
 refine D9 (bN rfl (bO 1 102 rfl ?_))
 refine ie (A5 (J9 rfl (A4 (nx (A5 (B2 (bN rfl (ix rfl (E9 Tryz.underlying120 cA rfl rfl rfl 0 rfl ozw rfl rfl rfl) (bO 1 15 rfl (ie (A0 6 rfl (bY 5 1 [] [(104,.map (some a)),(105,iv 36),(108,ag [aJ 0 9999,aJ 0 1])] (it rfl (F3 (es:=(B6 F0u 0).toArray) (es':=(B6 F0t 0).toArray) M1 (.inr rfl) rfl rfl rfl 0 rfl oki oki) fun _=>?_)))))))))))))
 refine znl [(a,.map (B6 F0t 0).toArray 39)] (A3 (nx (A0 2 rfl (ix rfl (B4 (c:=1) rfl rfl rfl rfl ozw) (bO 1 101 rfl (A3 (D9 (bN rfl (bO 1 102 rfl (ie (A5 (J9 rfl (A4 (nx (A5 (B2 (bN rfl (ix rfl (E9 Tryz.underlying120 cA rfl rfl rfl 1 rfl ozw rfl rfl rfl) (bO 1 15 rfl (ie (A0 6 rfl (bY 5 1 [] [(104,.map (some a)),(105,iv 37),(108,ag [aJ 0 9999,aJ 0 1])] ?_))))))))))))))))))))))
 refine it rfl (F3 (es:=(B6 F0t 0).toArray) (es':=(B6 F3a 0).toArray) M1 (.inr rfl) rfl rfl rfl 0 rfl oki oki) fun _=>?_
 refine znl [(a,.map (B6 F3a 0).toArray 40)] (A3 (nx (A0 2 rfl (ix rfl (B4 (c:=2) rfl rfl rfl rfl ozw) (bO 1 101 rfl (A3 (D9 (bN rfl (bO 1 102 rfl (ie (A5 (J9 rfl (A4 (nx (A5 (B2 (bN rfl (ix rfl (E9 Tryz.underlying120 cA rfl rfl rfl 2 rfl ozw rfl rfl rfl) (bO 1 15 rfl (ie (A0 6 rfl (bY 5 1 [] [(104,.map (some a)),(105,iv 43),(108,ag [aJ 0 9999,aJ 0 1])] ?_))))))))))))))))))))))
 refine it rfl (F3 (es:=(B6 F3a 0).toArray) (es':=(B6 F1f 0).toArray) M1 (.inr rfl) rfl rfl rfl 0 rfl oki oki) fun _=>?_
 refine znl [(a,.map (B6 F1f 0).toArray 41)] (A3 (nx (A0 2 rfl (ix rfl (B4 (c:=3) rfl rfl rfl rfl ozw) (bO 1 101 rfl (A3 (D9 (bN rfl (bO 1 102 rfl (ie (A5 (Z1 rfl (G6 (nx (bN rfl (bO 2 0 rfl ?_))))))))))))))))
 subst hR
 refine ie (A8 ?_)
 exact cD hr hD (N4 rfl (B0 rfl)) a bQ bT
def B8g:List (Int×Value):=[(17,ag [aJ 0 3,aJ 0 1]),(18,ag [aJ 2 3,aJ 0 0]),(19,ag [aJ 1 9999,aJ 1 9999]),(20,ag [aJ 0 3,aJ 1 9999]),(26,ag [aJ 0 3,aJ 0 0]),(27,ag [aJ 0 2,aJ 0 0]),(35,ag [aE 103,aJ 0 0]),(38,ag [aJ 0 9999,aJ 0 9999]),(40,ag [aJ 0 6,aJ 0 0]),(41,ag [aJ 5 6,aJ 0 0]),(2,ag [aJ 0 0,aJ 0 0]),(3,ag [aJ 0 0,aJ 0 0]),(4,ag [aJ 0 0,aJ 0 0]),(5,ag [aJ 0 0,aJ 0 0]),(6,ag [aJ 0 0,aJ 0 0]),(8,ag [aJ 0 0,aJ 0 0]),(9,ag [aJ 0 0,aJ 0 0]),(10,ag [aJ 0 0,aJ 0 0]),(11,ag [aJ 0 0,aJ 0 0]),(12,ag [aJ 0 0,aJ 0 0]),(13,ag [aJ 0 0,aJ 0 0]),(15,ag [aJ 0 0,aJ 0 0]),(16,ag [aJ 0 0,aJ 0 0]),(7,ag [aJ 0 1,aJ 0 0]),(14,ag [aJ 0 1,aJ 0 0]),(42,ag [aJ 0 1,aJ 0 0]),(21,ag [aJ 0 1,aJ 1 9999]),(33,ag [aJ 0 1,aJ 1 9999]),(22,ag [aJ 1 9999,aJ 0 0]),(23,ag [aJ 1 9999,aJ 0 0]),(24,ag [aJ 1 9999,aJ 0 0]),(25,ag [aJ 1 9999,aJ 0 0]),(28,ag [aJ 1 9999,aJ 0 0]),(29,ag [aJ 1 9999,aJ 0 0]),(30,ag [aJ 1 9999,aJ 0 0]),(31,ag [aJ 1 9999,aJ 0 0]),(32,ag [aJ 1 9999,aJ 0 0]),(34,ag [aJ 1 9999,aJ 0 0]),(36,ag [aJ 0 9999,aJ 0 1]),(37,ag [aJ 0 9999,aJ 0 1]),(43,ag [aJ 0 9999,aJ 0 1])]
def F8:List (Int×Value):=[(17,aJ 0 3),(18,aJ 2 3),(19,aJ 1 9999),(20,aJ 0 3),(26,aJ 0 3),(27,aJ 0 2),(35,aE 103),(38,aJ 0 9999),(40,aJ 0 6),(41,aJ 5 6),(2,aJ 0 0),(3,aJ 0 0),(4,aJ 0 0),(5,aJ 0 0),(6,aJ 0 0),(8,aJ 0 0),(9,aJ 0 0),(10,aJ 0 0),(11,aJ 0 0),(12,aJ 0 0),(13,aJ 0 0),(15,aJ 0 0),(16,aJ 0 0),(7,aJ 0 1),(14,aJ 0 1),(42,aJ 0 1),(21,aJ 0 1),(33,aJ 0 1),(22,aJ 1 9999),(23,aJ 1 9999),(24,aJ 1 9999),(25,aJ 1 9999),(28,aJ 1 9999),(29,aJ 1 9999),(30,aJ 1 9999),(31,aJ 1 9999),(32,aJ 1 9999),(34,aJ 1 9999),(36,aJ 0 9999),(37,aJ 0 9999),(43,aJ 0 9999)]
def L7:List (Int×Value):=[(17,aJ 0 1),(18,aJ 0 0),(19,aJ 1 9999),(20,aJ 1 9999),(26,aJ 0 0),(27,aJ 0 0),(35,aJ 0 0),(38,aJ 0 9999),(40,aJ 0 0),(41,aJ 0 0),(2,aJ 0 0),(3,aJ 0 0),(4,aJ 0 0),(5,aJ 0 0),(6,aJ 0 0),(8,aJ 0 0),(9,aJ 0 0),(10,aJ 0 0),(11,aJ 0 0),(12,aJ 0 0),(13,aJ 0 0),(15,aJ 0 0),(16,aJ 0 0),(7,aJ 0 0),(14,aJ 0 0),(42,aJ 0 0),(21,aJ 1 9999),(33,aJ 1 9999),(22,aJ 0 0),(23,aJ 0 0),(24,aJ 0 0),(25,aJ 0 0),(28,aJ 0 0),(29,aJ 0 0),(30,aJ 0 0),(31,aJ 0 0),(32,aJ 0 0),(34,aJ 0 0),(36,aJ 0 1),(37,aJ 0 1),(43,aJ 0 1)]
theorem E6v (k:Int):cH k (.agg #[.nilFunc,.nilFunc]) B8g=.agg #[cH k .nilFunc F8,cH k .nilFunc L7]:=by
 refine (E2h (fun a b=>.agg #[a,b]) k (.nilFunc) (.nilFunc) [((17:Int),(aJ 0 3:Value),(aJ 0 1:Value)),((18:Int),(aJ 2 3:Value),(aJ 0 0:Value)),((19:Int),(aJ 1 9999:Value),(aJ 1 9999:Value)),((20:Int),(aJ 0 3:Value),(aJ 1 9999:Value)),((26:Int),(aJ 0 3:Value),(aJ 0 0:Value)),((27:Int),(aJ 0 2:Value),(aJ 0 0:Value)),((35:Int),(aE 103:Value),(aJ 0 0:Value)),((38:Int),(aJ 0 9999:Value),(aJ 0 9999:Value)),((40:Int),(aJ 0 6:Value),(aJ 0 0:Value)),((41:Int),(aJ 5 6:Value),(aJ 0 0:Value)),((2:Int),(aJ 0 0:Value),(aJ 0 0:Value)),((3:Int),(aJ 0 0:Value),(aJ 0 0:Value)),((4:Int),(aJ 0 0:Value),(aJ 0 0:Value)),((5:Int),(aJ 0 0:Value),(aJ 0 0:Value)),((6:Int),(aJ 0 0:Value),(aJ 0 0:Value)),((8:Int),(aJ 0 0:Value),(aJ 0 0:Value)),((9:Int),(aJ 0 0:Value),(aJ 0 0:Value)),((10:Int),(aJ 0 0:Value),(aJ 0 0:Value)),((11:Int),(aJ 0 0:Value),(aJ 0 0:Value)),((12:Int),(aJ 0 0:Value),(aJ 0 0:Value)),((13:Int),(aJ 0 0:Value),(aJ 0 0:Value)),((15:Int),(aJ 0 0:Value),(aJ 0 0:Value)),((16:Int),(aJ 0 0:Value),(aJ 0 0:Value)),((7:Int),(aJ 0 1:Value),(aJ 0 0:Value)),((14:Int),(aJ 0 1:Value),(aJ 0 0:Value)),((42:Int),(aJ 0 1:Value),(aJ 0 0:Value)),((21:Int),(aJ 0 1:Value),(aJ 1 9999:Value)),((33:Int),(aJ 0 1:Value),(aJ 1 9999:Value)),((22:Int),(aJ 1 9999:Value),(aJ 0 0:Value)),((23:Int),(aJ 1 9999:Value),(aJ 0 0:Value)),((24:Int),(aJ 1 9999:Value),(aJ 0 0:Value)),((25:Int),(aJ 1 9999:Value),(aJ 0 0:Value)),((28:Int),(aJ 1 9999:Value),(aJ 0 0:Value)),((29:Int),(aJ 1 9999:Value),(aJ 0 0:Value)),((30:Int),(aJ 1 9999:Value),(aJ 0 0:Value)),((31:Int),(aJ 1 9999:Value),(aJ 0 0:Value)),((32:Int),(aJ 1 9999:Value),(aJ 0 0:Value)),((34:Int),(aJ 1 9999:Value),(aJ 0 0:Value)),((36:Int),(aJ 0 9999:Value),(aJ 0 1:Value)),((37:Int),(aJ 0 9999:Value),(aJ 0 1:Value)),((43:Int),(aJ 0 9999:Value),(aJ 0 1:Value))]).trans ?_
 rfl
theorem A3m (k:Int):Value.tuple #[cH k (.agg #[.nilFunc,.nilFunc]) B8g,.bool (S9 k B8g)]=Value.tuple #[.agg #[cH k .nilFunc F8,cH k .nilFunc L7],.bool (S9 k F8)]:=by rw [E6v];rfl
def B1 (s:Spn) (n:Int):Bool :=
 ((decide (s.lo≤n))&&(decide (n≤s.hi)))
theorem A7 {s:Spn} {n:Int} {R:Bool} (hR:B1 s n=R):J5 Tryz.prog 102 [ag (B7 s),iv n] [] (bv R):=by
 refine bZ Tryz.func102 fun X hX hr hD=>?_
 replace hR:=(B1.eq_1 ..).symm.trans hR
 refine bN rfl (zra 2 [] (fun a=>[(2,pt a 0)]) (fun _=>(B7 s)) 162 fun a=>(ie (bN rfl (cE 5 [0] 9 rfl ?_))))
 refine zid 5 1 9 14 (decide (n≤s.hi)) (fun b c=>?_) ?_
 ·refine cE 5 [0] 14 rfl ?_
  exact A3 (O6 2 9 14 b bT bQ rfl rfl rfl rfl rfl)
 refine bO 1 4 rfl ?_
 subst hR
 refine ie (A8 ?_)
 exact G0 hr hD
def A6d (n:Int):Bool :=
 ((decide (n=0))||(decide (n=3)))
theorem C2e {n:Int} {R:Bool} (hR:A6d n=R):J5 Tryz.prog 103 [iv n] [] (bv R):=by
 refine bZ Tryz.func103 fun X hX hr hD=>?_
 replace hR:=(A6d.eq_1 ..).symm.trans hR
 refine bN rfl (pp0 1 rfl (ie (bN rfl (bO 3 5 rfl ?_))))
 refine zir 3 1 5 8 (decide (n=3)) (fun b a=>?_) ?_
 ·refine bO 3 8 rfl ?_
  exact A3 (O6 2 5 8 b bT bQ rfl rfl rfl rfl rfl)
 refine bO 1 2 rfl ?_
 subst hR
 refine ie (A8 ?_)
 exact G0 hr hD
def Y6 (k:Int) (a:Int):Bool :=
 (bif (decide (k=17)) then (B1 (⟨0,3⟩:Spn) a) else (bif (decide (k=18)) then (B1 (⟨2,3⟩:Spn) a) else (bif (decide (k=19)) then (B1 (⟨1,9999⟩:Spn) a) else (bif (decide (k=20)) then (B1 (⟨0,3⟩:Spn) a) else (bif (decide (k=26)) then (B1 (⟨0,3⟩:Spn) a) else (bif (decide (k=27)) then (B1 (⟨0,2⟩:Spn) a) else (bif (decide (k=35)) then (A6d a) else (bif (decide (k=38)) then (B1 (⟨0,9999⟩:Spn) a) else (bif (decide (k=40)) then (B1 (⟨0,6⟩:Spn) a) else (bif (decide (k=41)) then (B1 (⟨5,6⟩:Spn) a) else (bif (decide (k=2)) then (B1 (⟨0,0⟩:Spn) a) else (bif (decide (k=3)) then (B1 (⟨0,0⟩:Spn) a) else (bif (decide (k=4)) then (B1 (⟨0,0⟩:Spn) a) else (bif (decide (k=5)) then (B1 (⟨0,0⟩:Spn) a) else (bif (decide (k=6)) then (B1 (⟨0,0⟩:Spn) a) else (bif (decide (k=8)) then (B1 (⟨0,0⟩:Spn) a) else (bif (decide (k=9)) then (B1 (⟨0,0⟩:Spn) a) else (bif (decide (k=10)) then (B1 (⟨0,0⟩:Spn) a) else (bif (decide (k=11)) then (B1 (⟨0,0⟩:Spn) a) else (bif (decide (k=12)) then (B1 (⟨0,0⟩:Spn) a) else (bif (decide (k=13)) then (B1 (⟨0,0⟩:Spn) a) else (bif (decide (k=15)) then (B1 (⟨0,0⟩:Spn) a) else (bif (decide (k=16)) then (B1 (⟨0,0⟩:Spn) a) else (bif (decide (k=7)) then (B1 (⟨0,1⟩:Spn) a) else (bif (decide (k=14)) then (B1 (⟨0,1⟩:Spn) a) else (bif (decide (k=42)) then (B1 (⟨0,1⟩:Spn) a) else (bif (decide (k=21)) then (B1 (⟨0,1⟩:Spn) a) else (bif (decide (k=33)) then (B1 (⟨0,1⟩:Spn) a) else (bif (decide (k=22)) then (B1 (⟨1,9999⟩:Spn) a) else (bif (decide (k=23)) then (B1 (⟨1,9999⟩:Spn) a) else (bif (decide (k=24)) then (B1 (⟨1,9999⟩:Spn) a) else (bif (decide (k=25)) then (B1 (⟨1,9999⟩:Spn) a) else (bif (decide (k=28)) then (B1 (⟨1,9999⟩:Spn) a) else (bif (decide (k=29)) then (B1 (⟨1,9999⟩:Spn) a) else (bif (decide (k=30)) then (B1 (⟨1,9999⟩:Spn) a) else (bif (decide (k=31)) then (B1 (⟨1,9999⟩:Spn) a) else (bif (decide (k=32)) then (B1 (⟨1,9999⟩:Spn) a) else (bif (decide (k=34)) then (B1 (⟨1,9999⟩:Spn) a) else (bif (decide (k=36)) then (B1 (⟨0,9999⟩:Spn) a) else (bif (decide (k=37)) then (B1 (⟨0,9999⟩:Spn) a) else (bif (decide (k=43)) then (B1 (⟨0,9999⟩:Spn) a) else false)))))))))))))))))))))))))))))))))))))))))
theorem A2c (k:Int) (b:Int) (a:S9 k F8=true) (R:Bool) (hR:Y6 k b=R):C4 Tryz.prog (cH k .nilFunc F8) [iv b] [] (bv R):=by
 subst hR
 unfold Y6
 unfold F8 at *
 refine C4.cons (fun r=>bv r) a (fun e=>?_) (fun a e=>?_)
 ·exact C4.of (A7 (s:=(⟨0,3⟩:Spn)) (n:=b) rfl) rfl bT
 refine C4.cons (fun r=>bv r) a (fun e=>?_) (fun a e=>?_)
 ·exact C4.of (A7 (s:=(⟨2,3⟩:Spn)) (n:=b) rfl) rfl bT
 refine C4.cons (fun r=>bv r) a (fun e=>?_) (fun a e=>?_)
 ·exact C4.of (A7 (s:=(⟨1,9999⟩:Spn)) (n:=b) rfl) rfl bT
 refine C4.cons (fun r=>bv r) a (fun e=>?_) (fun a e=>?_)
 ·exact C4.of (A7 (s:=(⟨0,3⟩:Spn)) (n:=b) rfl) rfl bT
 refine C4.cons (fun r=>bv r) a (fun e=>?_) (fun a e=>?_)
 ·exact C4.of (A7 (s:=(⟨0,3⟩:Spn)) (n:=b) rfl) rfl bT
 refine C4.cons (fun r=>bv r) a (fun e=>?_) (fun a e=>?_)
 ·exact C4.of (A7 (s:=(⟨0,2⟩:Spn)) (n:=b) rfl) rfl bT
 refine C4.cons (fun r=>bv r) a (fun e=>?_) (fun a e=>?_)
 ·exact C4.of (C2e (n:=b) rfl) rfl bT
 refine C4.cons (fun r=>bv r) a (fun e=>?_) (fun a e=>?_)
 ·exact C4.of (A7 (s:=(⟨0,9999⟩:Spn)) (n:=b) rfl) rfl bT
 refine C4.cons (fun r=>bv r) a (fun e=>?_) (fun a e=>?_)
 ·exact C4.of (A7 (s:=(⟨0,6⟩:Spn)) (n:=b) rfl) rfl bT
 refine C4.cons (fun r=>bv r) a (fun e=>?_) (fun a e=>?_)
 ·exact C4.of (A7 (s:=(⟨5,6⟩:Spn)) (n:=b) rfl) rfl bT
 refine C4.cons (fun r=>bv r) a (fun e=>?_) (fun a e=>?_)
 ·exact C4.of (A7 (s:=(⟨0,0⟩:Spn)) (n:=b) rfl) rfl bT
 refine C4.cons (fun r=>bv r) a (fun e=>?_) (fun a e=>?_)
 ·exact C4.of (A7 (s:=(⟨0,0⟩:Spn)) (n:=b) rfl) rfl bT
 refine C4.cons (fun r=>bv r) a (fun e=>?_) (fun a e=>?_)
 ·exact C4.of (A7 (s:=(⟨0,0⟩:Spn)) (n:=b) rfl) rfl bT
 refine C4.cons (fun r=>bv r) a (fun e=>?_) (fun a e=>?_)
 ·exact C4.of (A7 (s:=(⟨0,0⟩:Spn)) (n:=b) rfl) rfl bT
 refine C4.cons (fun r=>bv r) a (fun e=>?_) (fun a e=>?_)
 ·exact C4.of (A7 (s:=(⟨0,0⟩:Spn)) (n:=b) rfl) rfl bT
 refine C4.cons (fun r=>bv r) a (fun e=>?_) (fun a e=>?_)
 ·exact C4.of (A7 (s:=(⟨0,0⟩:Spn)) (n:=b) rfl) rfl bT
 refine C4.cons (fun r=>bv r) a (fun e=>?_) (fun a e=>?_)
 ·exact C4.of (A7 (s:=(⟨0,0⟩:Spn)) (n:=b) rfl) rfl bT
 refine C4.cons (fun r=>bv r) a (fun e=>?_) (fun a e=>?_)
 ·exact C4.of (A7 (s:=(⟨0,0⟩:Spn)) (n:=b) rfl) rfl bT
 refine C4.cons (fun r=>bv r) a (fun e=>?_) (fun a e=>?_)
 ·exact C4.of (A7 (s:=(⟨0,0⟩:Spn)) (n:=b) rfl) rfl bT
 refine C4.cons (fun r=>bv r) a (fun e=>?_) (fun a e=>?_)
 ·exact C4.of (A7 (s:=(⟨0,0⟩:Spn)) (n:=b) rfl) rfl bT
 refine C4.cons (fun r=>bv r) a (fun e=>?_) (fun a e=>?_)
 ·exact C4.of (A7 (s:=(⟨0,0⟩:Spn)) (n:=b) rfl) rfl bT
 refine C4.cons (fun r=>bv r) a (fun e=>?_) (fun a e=>?_)
 ·exact C4.of (A7 (s:=(⟨0,0⟩:Spn)) (n:=b) rfl) rfl bT
 refine C4.cons (fun r=>bv r) a (fun e=>?_) (fun a e=>?_)
 ·exact C4.of (A7 (s:=(⟨0,0⟩:Spn)) (n:=b) rfl) rfl bT
 refine C4.cons (fun r=>bv r) a (fun e=>?_) (fun a e=>?_)
 ·exact C4.of (A7 (s:=(⟨0,1⟩:Spn)) (n:=b) rfl) rfl bT
 refine C4.cons (fun r=>bv r) a (fun e=>?_) (fun a e=>?_)
 ·exact C4.of (A7 (s:=(⟨0,1⟩:Spn)) (n:=b) rfl) rfl bT
 refine C4.cons (fun r=>bv r) a (fun e=>?_) (fun a e=>?_)
 ·exact C4.of (A7 (s:=(⟨0,1⟩:Spn)) (n:=b) rfl) rfl bT
 refine C4.cons (fun r=>bv r) a (fun e=>?_) (fun a e=>?_)
 ·exact C4.of (A7 (s:=(⟨0,1⟩:Spn)) (n:=b) rfl) rfl bT
 refine C4.cons (fun r=>bv r) a (fun e=>?_) (fun a e=>?_)
 ·exact C4.of (A7 (s:=(⟨0,1⟩:Spn)) (n:=b) rfl) rfl bT
 refine C4.cons (fun r=>bv r) a (fun e=>?_) (fun a e=>?_)
 ·exact C4.of (A7 (s:=(⟨1,9999⟩:Spn)) (n:=b) rfl) rfl bT
 refine C4.cons (fun r=>bv r) a (fun e=>?_) (fun a e=>?_)
 ·exact C4.of (A7 (s:=(⟨1,9999⟩:Spn)) (n:=b) rfl) rfl bT
 refine C4.cons (fun r=>bv r) a (fun e=>?_) (fun a e=>?_)
 ·exact C4.of (A7 (s:=(⟨1,9999⟩:Spn)) (n:=b) rfl) rfl bT
 refine C4.cons (fun r=>bv r) a (fun e=>?_) (fun a e=>?_)
 ·exact C4.of (A7 (s:=(⟨1,9999⟩:Spn)) (n:=b) rfl) rfl bT
 refine C4.cons (fun r=>bv r) a (fun e=>?_) (fun a e=>?_)
 ·exact C4.of (A7 (s:=(⟨1,9999⟩:Spn)) (n:=b) rfl) rfl bT
 refine C4.cons (fun r=>bv r) a (fun e=>?_) (fun a e=>?_)
 ·exact C4.of (A7 (s:=(⟨1,9999⟩:Spn)) (n:=b) rfl) rfl bT
 refine C4.cons (fun r=>bv r) a (fun e=>?_) (fun a e=>?_)
 ·exact C4.of (A7 (s:=(⟨1,9999⟩:Spn)) (n:=b) rfl) rfl bT
 refine C4.cons (fun r=>bv r) a (fun e=>?_) (fun a e=>?_)
 ·exact C4.of (A7 (s:=(⟨1,9999⟩:Spn)) (n:=b) rfl) rfl bT
 refine C4.cons (fun r=>bv r) a (fun e=>?_) (fun a e=>?_)
 ·exact C4.of (A7 (s:=(⟨1,9999⟩:Spn)) (n:=b) rfl) rfl bT
 refine C4.cons (fun r=>bv r) a (fun e=>?_) (fun a e=>?_)
 ·exact C4.of (A7 (s:=(⟨1,9999⟩:Spn)) (n:=b) rfl) rfl bT
 refine C4.cons (fun r=>bv r) a (fun e=>?_) (fun a e=>?_)
 ·exact C4.of (A7 (s:=(⟨0,9999⟩:Spn)) (n:=b) rfl) rfl bT
 refine C4.cons (fun r=>bv r) a (fun e=>?_) (fun a e=>?_)
 ·exact C4.of (A7 (s:=(⟨0,9999⟩:Spn)) (n:=b) rfl) rfl bT
 refine C4.cons (fun r=>bv r) a (fun e=>?_) (fun a e=>?_)
 ·exact C4.of (A7 (s:=(⟨0,9999⟩:Spn)) (n:=b) rfl) rfl bT
 exact C4.nil a
def Y0 (k:Int) (a:Int):Bool :=
 (bif (decide (k=17)) then (B1 (⟨0,1⟩:Spn) a) else (bif (decide (k=18)) then (B1 (⟨0,0⟩:Spn) a) else (bif (decide (k=19)) then (B1 (⟨1,9999⟩:Spn) a) else (bif (decide (k=20)) then (B1 (⟨1,9999⟩:Spn) a) else (bif (decide (k=26)) then (B1 (⟨0,0⟩:Spn) a) else (bif (decide (k=27)) then (B1 (⟨0,0⟩:Spn) a) else (bif (decide (k=35)) then (B1 (⟨0,0⟩:Spn) a) else (bif (decide (k=38)) then (B1 (⟨0,9999⟩:Spn) a) else (bif (decide (k=40)) then (B1 (⟨0,0⟩:Spn) a) else (bif (decide (k=41)) then (B1 (⟨0,0⟩:Spn) a) else (bif (decide (k=2)) then (B1 (⟨0,0⟩:Spn) a) else (bif (decide (k=3)) then (B1 (⟨0,0⟩:Spn) a) else (bif (decide (k=4)) then (B1 (⟨0,0⟩:Spn) a) else (bif (decide (k=5)) then (B1 (⟨0,0⟩:Spn) a) else (bif (decide (k=6)) then (B1 (⟨0,0⟩:Spn) a) else (bif (decide (k=8)) then (B1 (⟨0,0⟩:Spn) a) else (bif (decide (k=9)) then (B1 (⟨0,0⟩:Spn) a) else (bif (decide (k=10)) then (B1 (⟨0,0⟩:Spn) a) else (bif (decide (k=11)) then (B1 (⟨0,0⟩:Spn) a) else (bif (decide (k=12)) then (B1 (⟨0,0⟩:Spn) a) else (bif (decide (k=13)) then (B1 (⟨0,0⟩:Spn) a) else (bif (decide (k=15)) then (B1 (⟨0,0⟩:Spn) a) else (bif (decide (k=16)) then (B1 (⟨0,0⟩:Spn) a) else (bif (decide (k=7)) then (B1 (⟨0,0⟩:Spn) a) else (bif (decide (k=14)) then (B1 (⟨0,0⟩:Spn) a) else (bif (decide (k=42)) then (B1 (⟨0,0⟩:Spn) a) else (bif (decide (k=21)) then (B1 (⟨1,9999⟩:Spn) a) else (bif (decide (k=33)) then (B1 (⟨1,9999⟩:Spn) a) else (bif (decide (k=22)) then (B1 (⟨0,0⟩:Spn) a) else (bif (decide (k=23)) then (B1 (⟨0,0⟩:Spn) a) else (bif (decide (k=24)) then (B1 (⟨0,0⟩:Spn) a) else (bif (decide (k=25)) then (B1 (⟨0,0⟩:Spn) a) else (bif (decide (k=28)) then (B1 (⟨0,0⟩:Spn) a) else (bif (decide (k=29)) then (B1 (⟨0,0⟩:Spn) a) else (bif (decide (k=30)) then (B1 (⟨0,0⟩:Spn) a) else (bif (decide (k=31)) then (B1 (⟨0,0⟩:Spn) a) else (bif (decide (k=32)) then (B1 (⟨0,0⟩:Spn) a) else (bif (decide (k=34)) then (B1 (⟨0,0⟩:Spn) a) else (bif (decide (k=36)) then (B1 (⟨0,1⟩:Spn) a) else (bif (decide (k=37)) then (B1 (⟨0,1⟩:Spn) a) else (bif (decide (k=43)) then (B1 (⟨0,1⟩:Spn) a) else false)))))))))))))))))))))))))))))))))))))))))
theorem A2j (k:Int) (b:Int) (a:S9 k L7=true) (R:Bool) (hR:Y0 k b=R):C4 Tryz.prog (cH k .nilFunc L7) [iv b] [] (bv R):=by
 subst hR
 unfold Y0
 unfold L7 at *
 refine C4.cons (fun r=>bv r) a (fun e=>?_) (fun a e=>?_)
 ·exact C4.of (A7 (s:=(⟨0,1⟩:Spn)) (n:=b) rfl) rfl bT
 refine C4.cons (fun r=>bv r) a (fun e=>?_) (fun a e=>?_)
 ·exact C4.of (A7 (s:=(⟨0,0⟩:Spn)) (n:=b) rfl) rfl bT
 refine C4.cons (fun r=>bv r) a (fun e=>?_) (fun a e=>?_)
 ·exact C4.of (A7 (s:=(⟨1,9999⟩:Spn)) (n:=b) rfl) rfl bT
 refine C4.cons (fun r=>bv r) a (fun e=>?_) (fun a e=>?_)
 ·exact C4.of (A7 (s:=(⟨1,9999⟩:Spn)) (n:=b) rfl) rfl bT
 refine C4.cons (fun r=>bv r) a (fun e=>?_) (fun a e=>?_)
 ·exact C4.of (A7 (s:=(⟨0,0⟩:Spn)) (n:=b) rfl) rfl bT
 refine C4.cons (fun r=>bv r) a (fun e=>?_) (fun a e=>?_)
 ·exact C4.of (A7 (s:=(⟨0,0⟩:Spn)) (n:=b) rfl) rfl bT
 refine C4.cons (fun r=>bv r) a (fun e=>?_) (fun a e=>?_)
 ·exact C4.of (A7 (s:=(⟨0,0⟩:Spn)) (n:=b) rfl) rfl bT
 refine C4.cons (fun r=>bv r) a (fun e=>?_) (fun a e=>?_)
 ·exact C4.of (A7 (s:=(⟨0,9999⟩:Spn)) (n:=b) rfl) rfl bT
 refine C4.cons (fun r=>bv r) a (fun e=>?_) (fun a e=>?_)
 ·exact C4.of (A7 (s:=(⟨0,0⟩:Spn)) (n:=b) rfl) rfl bT
 refine C4.cons (fun r=>bv r) a (fun e=>?_) (fun a e=>?_)
 ·exact C4.of (A7 (s:=(⟨0,0⟩:Spn)) (n:=b) rfl) rfl bT
 refine C4.cons (fun r=>bv r) a (fun e=>?_) (fun a e=>?_)
 ·exact C4.of (A7 (s:=(⟨0,0⟩:Spn)) (n:=b) rfl) rfl bT
 refine C4.cons (fun r=>bv r) a (fun e=>?_) (fun a e=>?_)
 ·exact C4.of (A7 (s:=(⟨0,0⟩:Spn)) (n:=b) rfl) rfl bT
 refine C4.cons (fun r=>bv r) a (fun e=>?_) (fun a e=>?_)
 ·exact C4.of (A7 (s:=(⟨0,0⟩:Spn)) (n:=b) rfl) rfl bT
 refine C4.cons (fun r=>bv r) a (fun e=>?_) (fun a e=>?_)
 ·exact C4.of (A7 (s:=(⟨0,0⟩:Spn)) (n:=b) rfl) rfl bT
 refine C4.cons (fun r=>bv r) a (fun e=>?_) (fun a e=>?_)
 ·exact C4.of (A7 (s:=(⟨0,0⟩:Spn)) (n:=b) rfl) rfl bT
 refine C4.cons (fun r=>bv r) a (fun e=>?_) (fun a e=>?_)
 ·exact C4.of (A7 (s:=(⟨0,0⟩:Spn)) (n:=b) rfl) rfl bT
 refine C4.cons (fun r=>bv r) a (fun e=>?_) (fun a e=>?_)
 ·exact C4.of (A7 (s:=(⟨0,0⟩:Spn)) (n:=b) rfl) rfl bT
 refine C4.cons (fun r=>bv r) a (fun e=>?_) (fun a e=>?_)
 ·exact C4.of (A7 (s:=(⟨0,0⟩:Spn)) (n:=b) rfl) rfl bT
 refine C4.cons (fun r=>bv r) a (fun e=>?_) (fun a e=>?_)
 ·exact C4.of (A7 (s:=(⟨0,0⟩:Spn)) (n:=b) rfl) rfl bT
 refine C4.cons (fun r=>bv r) a (fun e=>?_) (fun a e=>?_)
 ·exact C4.of (A7 (s:=(⟨0,0⟩:Spn)) (n:=b) rfl) rfl bT
 refine C4.cons (fun r=>bv r) a (fun e=>?_) (fun a e=>?_)
 ·exact C4.of (A7 (s:=(⟨0,0⟩:Spn)) (n:=b) rfl) rfl bT
 refine C4.cons (fun r=>bv r) a (fun e=>?_) (fun a e=>?_)
 ·exact C4.of (A7 (s:=(⟨0,0⟩:Spn)) (n:=b) rfl) rfl bT
 refine C4.cons (fun r=>bv r) a (fun e=>?_) (fun a e=>?_)
 ·exact C4.of (A7 (s:=(⟨0,0⟩:Spn)) (n:=b) rfl) rfl bT
 refine C4.cons (fun r=>bv r) a (fun e=>?_) (fun a e=>?_)
 ·exact C4.of (A7 (s:=(⟨0,0⟩:Spn)) (n:=b) rfl) rfl bT
 refine C4.cons (fun r=>bv r) a (fun e=>?_) (fun a e=>?_)
 ·exact C4.of (A7 (s:=(⟨0,0⟩:Spn)) (n:=b) rfl) rfl bT
 refine C4.cons (fun r=>bv r) a (fun e=>?_) (fun a e=>?_)
 ·exact C4.of (A7 (s:=(⟨0,0⟩:Spn)) (n:=b) rfl) rfl bT
 refine C4.cons (fun r=>bv r) a (fun e=>?_) (fun a e=>?_)
 ·exact C4.of (A7 (s:=(⟨1,9999⟩:Spn)) (n:=b) rfl) rfl bT
 refine C4.cons (fun r=>bv r) a (fun e=>?_) (fun a e=>?_)
 ·exact C4.of (A7 (s:=(⟨1,9999⟩:Spn)) (n:=b) rfl) rfl bT
 refine C4.cons (fun r=>bv r) a (fun e=>?_) (fun a e=>?_)
 ·exact C4.of (A7 (s:=(⟨0,0⟩:Spn)) (n:=b) rfl) rfl bT
 refine C4.cons (fun r=>bv r) a (fun e=>?_) (fun a e=>?_)
 ·exact C4.of (A7 (s:=(⟨0,0⟩:Spn)) (n:=b) rfl) rfl bT
 refine C4.cons (fun r=>bv r) a (fun e=>?_) (fun a e=>?_)
 ·exact C4.of (A7 (s:=(⟨0,0⟩:Spn)) (n:=b) rfl) rfl bT
 refine C4.cons (fun r=>bv r) a (fun e=>?_) (fun a e=>?_)
 ·exact C4.of (A7 (s:=(⟨0,0⟩:Spn)) (n:=b) rfl) rfl bT
 refine C4.cons (fun r=>bv r) a (fun e=>?_) (fun a e=>?_)
 ·exact C4.of (A7 (s:=(⟨0,0⟩:Spn)) (n:=b) rfl) rfl bT
 refine C4.cons (fun r=>bv r) a (fun e=>?_) (fun a e=>?_)
 ·exact C4.of (A7 (s:=(⟨0,0⟩:Spn)) (n:=b) rfl) rfl bT
 refine C4.cons (fun r=>bv r) a (fun e=>?_) (fun a e=>?_)
 ·exact C4.of (A7 (s:=(⟨0,0⟩:Spn)) (n:=b) rfl) rfl bT
 refine C4.cons (fun r=>bv r) a (fun e=>?_) (fun a e=>?_)
 ·exact C4.of (A7 (s:=(⟨0,0⟩:Spn)) (n:=b) rfl) rfl bT
 refine C4.cons (fun r=>bv r) a (fun e=>?_) (fun a e=>?_)
 ·exact C4.of (A7 (s:=(⟨0,0⟩:Spn)) (n:=b) rfl) rfl bT
 refine C4.cons (fun r=>bv r) a (fun e=>?_) (fun a e=>?_)
 ·exact C4.of (A7 (s:=(⟨0,0⟩:Spn)) (n:=b) rfl) rfl bT
 refine C4.cons (fun r=>bv r) a (fun e=>?_) (fun a e=>?_)
 ·exact C4.of (A7 (s:=(⟨0,1⟩:Spn)) (n:=b) rfl) rfl bT
 refine C4.cons (fun r=>bv r) a (fun e=>?_) (fun a e=>?_)
 ·exact C4.of (A7 (s:=(⟨0,1⟩:Spn)) (n:=b) rfl) rfl bT
 refine C4.cons (fun r=>bv r) a (fun e=>?_) (fun a e=>?_)
 ·exact C4.of (A7 (s:=(⟨0,1⟩:Spn)) (n:=b) rfl) rfl bT
 exact C4.nil a
theorem A7w {a:Act} {k:Int} (h:a.kind=k):a=⟨k,a.n,a.m,a.color,a.text⟩:=by subst h;rfl
def H0 (a:Act):Int :=
 (bif (decide (a.kind=1)) then (bif ((decide ((F6 a.n)<0))||(!(decide ((⟨1,a.n,a.m,a.color,a.text⟩:Act)=(B2i a.kind a.n 0))))) then 200 else 0) else (bif (decide (a.kind=39)) then (bif (!decide ((J6 (⟨39,a.n,a.m,a.color,a.text⟩:Act))=0)) then 200 else 0) else (bif (decide (a.kind=44)) then (bif (decide (a.kind=44)) then (C2 (B2q a.n a.m a.color a.text) fun (d:List UInt8×Int)=>(bif (!decide (d.2=0)) then 200 else 0)) else (bif (((((!(S9 a.kind F8))||(!(Y6 a.kind a.n)))||(!(Y0 a.kind a.m)))||(!(decide (a.color=Col.zero))))||(!(decide (a.text=([]:List UInt8))))) then 200 else 0)) else (bif (decide (a.kind=45)) then (bif (decide (a.kind=45)) then (C2 (A9j a.n a.m a.color a.text) fun (b:List UInt8×Int)=>(bif (!decide (b.2=0)) then 200 else 0)) else (bif (((((!(S9 a.kind F8))||(!(Y6 a.kind a.n)))||(!(Y0 a.kind a.m)))||(!(decide (a.color=Col.zero))))||(!(decide (a.text=([]:List UInt8))))) then 200 else 0)) else (bif (decide (a.kind=46)) then (C2 (A9l a.n a.m a.color a.text) fun (c:List UInt8×Int)=>(bif (!decide (c.2=0)) then 200 else 0)) else (bif (((((!(S9 a.kind F8))||(!(Y6 a.kind a.n)))||(!(Y0 a.kind a.m)))||(!(decide (a.color=Col.zero))))||(!(decide (a.text=([]:List UInt8))))) then 200 else 0))))))
set_option maxHeartbeats 2000000 in
theorem B2v {a:Act} {R:Int} (hR:H0 a=R) (hs:a.text.length≤100000000:=by exact bP):J5 Tryz.prog 21 [ag (A1 a)] [P6,P7,O0,M9,K6] (iv R):=by
 refine bZ Tryz.func21 fun X hX hr hD=>?_
 replace hR:=(H0.eq_1 ..).symm.trans hR
 refine bN rfl (zra 2 [] (fun b1=>[(1,pt b1 0)]) (fun _=>(A1 a)) 60 fun b1=>(ie (bN rfl (bO 1 3 rfl (ie (A5 (bN rfl (cE 2 [0] 7 rfl (ie (B2 (bN rfl (bO 2 44 rfl (ie ?_)))))))))))))
 refine zjd rfl hR ?_ ?_<;>clear hR<;>intro hR h2 b7
 ·refine sd 13 rfl oki rfl (pg1 2 [0] 47 rfl (zvd rfl (A3p rfl) (pd1 2 50 rfl ?_)))
  refine zdr 8 0 50 58 (!(decide ((⟨1,a.n,a.m,a.color,a.text⟩:Act)=(B2i a.kind a.n 0)))) (fun g3 d2=>?_) ?_
  ·refine dd rfl (by exact G9 (D6 (us:=A1 a) B7m rfl rfl 0 rfl rfl rfl) (congrArg (fun z=>ag (A1 z)) (A7w b7))) (pg2 4 [0,0] 53 55 rfl (zvd rfl (D8y rfl) (dd rfl (X1 (a:=(⟨1,a.n,a.m,a.color,a.text⟩:Act)) (b:=(B2i a.kind a.n 0)) E8a rfl rfl rfl) (pd1 1 58 rfl ?_))))
   exact zad 7 50 58 g3
  refine de ?_
  refine zjb rfl hR ?_ ?_<;>clear hR<;>intro hR h4
  ·have bb:=bU h4
   refine A0 1 rfl (bO 1 3 rfl (A3 (nx (A5 (bN rfl (bO 2 73 rfl (ie (J9 rfl (bN rfl (bO 1 2 rfl ?_))))))))))
   subst hR
   refine ie (A8 ?_)
   exact G0 hr hD
  have bb:=bU h4
  refine A4 (nx (A5 (bN rfl (bO 2 73 rfl (ie (Z1 rfl (A4 (nx (bN rfl (bO 1 2 rfl ?_))))))))))
  subst hR
  refine ie (A8 ?_)
  exact G0 hr hD
 refine bN rfl (bO 2 59 rfl (ie ?_))
 refine zjd rfl hR ?_ ?_<;>clear hR<;>intro hR h5 be
 ·refine A0 3 rfl (ix rfl (by exact G9 (D6 (us:=A1 a) B7m rfl rfl 0 rfl rfl rfl) (congrArg (fun z=>ag (A1 z)) (A7w be))) (zv rfl (A9g rfl) (bO 1 3 rfl (A3 (nx (A5 (bN rfl (bO 2 73 rfl (ie ?_)))))))))
  refine zjn rfl hR ?_ ?_<;>clear hR<;>intro hR h6 cy
  ·refine bN rfl (bO 1 2 rfl ?_)
   subst hR
   refine ie (A8 ?_)
   exact G0 hr hD
  refine A4 (nx (bN rfl (bO 1 2 rfl ?_)))
  subst hR
  refine ie (A8 ?_)
  exact G0 hr hD
 refine A5 (bN rfl (bO 2 63 rfl ?_))
 refine ie ?_
 refine zjd rfl hR ?_ ?_<;>clear hR<;>intro hR h7 cq
 ·refine A4 (nx ?_)
  refine zjd rfl hR ?_ ?_<;>clear hR<;>intro hR h8 b8
  ·refine A0 6 rfl (ix rfl (by exact G9 (D6 (us:=A1 a) B7m rfl rfl 0 rfl rfl rfl) (congrArg (fun z=>ag (A1 z)) (A7w b8))) ?_)
   have u:=C9 hR;clear hR;obtain ⟨y0,aa,hR⟩:=u
   refine zv rfl (C7d aa) ?_
   have:=B4y a.n a.m a.color a.text;try rw [aa] at this
   refine bO 4 3 rfl (A3 (nx (A5 (bN rfl (bO 2 73 rfl (ie ?_))))))
   refine zjn rfl hR ?_ ?_<;>clear hR<;>intro hR h9 d7
   ·refine bN rfl (bO 1 2 rfl ?_)
    subst hR
    refine ie (A8 ?_)
    exact G0 hr hD
   refine A4 (nx (bN rfl (bO 1 2 rfl ?_)))
   subst hR
   refine ie (A8 ?_)
   exact G0 hr hD
  refine zS [(10,[0])] ?_
  refine hq1 [1] 10 rfl ?_
  refine gl 2 [0] rfl (A2 (v:=iv a.kind) cA rfl rfl 0 rfl rfl) ?_
  refine gf 0 7 ?_ ?_
  ·refine ghc 0 [0] rfl (A0z rfl) fun d5=>?_
   refine gf 3 7 ?_ ?_
   ·refine gh 3 [0] rfl (Det.tri (I6.det (by exact G9 (V8 B8g M1 rfl rfl rfl 0 rfl oki oki) (A3m a.kind)))) fun _=>?_
    refine hqV [4,5,6] [(13,ag [(cH a.kind .nilFunc F8),(cH a.kind .nilFunc L7)]),(14,bv (S9 a.kind F8))] ?_
    refine go 7 [0] rfl (S4 (cs:=[.nilFunc,.nilFunc]) B1x rfl) fun d1=>?_
    refine go 8 [0] rfl (D8 (us:=[(cH a.kind .nilFunc F8),(cH a.kind .nilFunc L7)]) (cs':=[(cH a.kind .nilFunc F8),(cH a.kind .nilFunc L7)]) C3q rfl rfl rfl 0 rfl rfl rfl (by simp only [List.all_cons,List.all_nil,Bool.and_true,Bool.and_eq_true];exact ⟨V6 rfl rfl,V6 rfl rfl⟩) rfl rfl) fun _=>?_
    refine hq1 [9] 5 rfl ?_
    refine ge ?_
    refine bN rfl (bO 3 17 rfl ?_)
    refine zio 7 19 17 24 (!(Y6 a.kind a.n)) (fun ba=>?_) ?_
    ·refine bO 1 18 rfl (ix rfl (A2 (v:=(cH a.kind .nilFunc F8)) B5j rfl rfl 0 rfl rfl) (bO 1 20 rfl (ix rfl (A2 (v:=iv a.n) cA rfl rfl 2 rfl rfl) (ixc rfl (R4 (A2c a.kind a.n (by first|assumption|(have c:S9 a.kind F8=true:=och;exact c)) _ rfl) rfl rfl rfl rfl bT) (bO 2 24 rfl ?_)))))
     exact zai 7 17 24 ba
    refine bO 1 25 rfl ?_
    refine zio 7 11 25 32 (!(Y0 a.kind a.m)) (fun p=>?_) ?_
    ·have bg:=bU p
     refine bO 1 26 rfl (ix rfl (A2 (v:=(cH a.kind .nilFunc L7)) B5j rfl rfl 0 rfl rfl) (bO 1 28 rfl (ix rfl (A2 (v:=iv a.m) cA rfl rfl 2 rfl rfl) (ixc rfl (R4 (A2j a.kind a.m (by first|assumption|(have c:S9 a.kind F8=true:=och;exact c)) _ rfl) rfl rfl rfl rfl bT) (bO 2 32 rfl ?_)))))
     exact zai 7 25 32 p
    refine bO 1 33 rfl ?_
    refine zio 5 5 33 38 (!(decide (a.color=Col.zero))) (fun a6=>?_) ?_
    ·have bm:=bU a6
     refine bO 1 34 rfl (ix rfl (D6 (us:=P0 a.color) A8u rfl rfl 2 rfl rfl rfl) (bY 1 2 [] [(36,ag (P0 Col.zero))] (ix rfl (X1 (a:=a.color) (b:=Col.zero) B2t rfl rfl rfl) (bO 1 38 rfl ?_))))
     exact zai 6 33 38 a6
    refine bO 1 39 rfl ?_
    refine zio 4 0 39 43 (!(decide (a.text=([]:List UInt8)))) (fun d=>?_) ?_
    ·have bh:=bU d
     refine bO 1 40 rfl (ix rfl (A2 (v:=sv a.text) ty9 rfl rfl 2 rfl rfl) (ix rfl (A4i rfl rfl rfl) (bO 1 43 rfl ?_)))
     exact zai 5 39 43 d
    refine ie ?_
    refine zjb rfl hR ?_ ?_<;>clear hR<;>intro hR a4
    ·have a9:=bU a4
     refine A0 1 rfl (bO 1 3 rfl (A3 (nx (A5 (bN rfl (bO 2 73 rfl (ie (J9 rfl (bN rfl (bO 1 2 rfl ?_))))))))))
     subst hR
     refine ie (A8 ?_)
     exact G0 hr hD
    have a9:=bU a4
    refine A4 (nx (A5 (bN rfl (bO 2 73 rfl (ie (Z1 rfl (A4 (nx (bN rfl (bO 1 2 rfl ?_))))))))))
    subst hR
    refine ie (A8 ?_)
    exact G0 hr hD
   ·refine gh 7 [0] rfl (S4 (cs:=[.nilFunc,.nilFunc]) B1x rfl) fun cn=>?_
    refine go 3 [0] rfl (Det.tri (I6.det (by exact G9 (V8 B8g M1 rfl rfl rfl 1 rfl oki oki) (A3m a.kind)))) fun _=>?_
    refine hqV [4,5,6] [(13,ag [(cH a.kind .nilFunc F8),(cH a.kind .nilFunc L7)]),(14,bv (S9 a.kind F8))] ?_
    refine go 8 [0] rfl (D8 (us:=[(cH a.kind .nilFunc F8),(cH a.kind .nilFunc L7)]) (cs':=[(cH a.kind .nilFunc F8),(cH a.kind .nilFunc L7)]) C3q rfl rfl rfl 0 rfl rfl rfl (by simp only [List.all_cons,List.all_nil,Bool.and_true,Bool.and_eq_true];exact ⟨V6 rfl rfl,V6 rfl rfl⟩) rfl rfl) fun _=>?_
    refine hq1 [9] 5 rfl ?_
    refine ge ?_
    refine bN rfl (bO 3 17 rfl ?_)
    refine zio 7 19 17 24 (!(Y6 a.kind a.n)) (fun b6=>?_) ?_
    ·refine bO 1 18 rfl (ix rfl (A2 (v:=(cH a.kind .nilFunc F8)) B5j rfl rfl 0 rfl rfl) (bO 1 20 rfl (ix rfl (A2 (v:=iv a.n) cA rfl rfl 2 rfl rfl) (ixc rfl (R4 (A2c a.kind a.n (by first|assumption|(have c:S9 a.kind F8=true:=och;exact c)) _ rfl) rfl rfl rfl rfl bT) (bO 2 24 rfl ?_)))))
     exact zai 7 17 24 b6
    refine bO 1 25 rfl ?_
    refine zio 7 11 25 32 (!(Y0 a.kind a.m)) (fun a1=>?_) ?_
    ·have ce:=bU a1
     refine bO 1 26 rfl (ix rfl (A2 (v:=(cH a.kind .nilFunc L7)) B5j rfl rfl 0 rfl rfl) (bO 1 28 rfl (ix rfl (A2 (v:=iv a.m) cA rfl rfl 2 rfl rfl) (ixc rfl (R4 (A2j a.kind a.m (by first|assumption|(have c:S9 a.kind F8=true:=och;exact c)) _ rfl) rfl rfl rfl rfl bT) (bO 2 32 rfl ?_)))))
     exact zai 7 25 32 a1
    refine bO 1 33 rfl ?_
    refine zio 5 5 33 38 (!(decide (a.color=Col.zero))) (fun e=>?_) ?_
    ·have bz:=bU e
     refine bO 1 34 rfl (ix rfl (D6 (us:=P0 a.color) A8u rfl rfl 2 rfl rfl rfl) (bY 1 2 [] [(36,ag (P0 Col.zero))] (ix rfl (X1 (a:=a.color) (b:=Col.zero) B2t rfl rfl rfl) (bO 1 38 rfl ?_))))
     exact zai 6 33 38 e
    refine bO 1 39 rfl ?_
    refine zio 4 0 39 43 (!(decide (a.text=([]:List UInt8)))) (fun a3=>?_) ?_
    ·have bw:=bU a3
     refine bO 1 40 rfl (ix rfl (A2 (v:=sv a.text) ty9 rfl rfl 2 rfl rfl) (ix rfl (A4i rfl rfl rfl) (bO 1 43 rfl ?_)))
     exact zai 5 39 43 a3
    refine ie ?_
    refine zjb rfl hR ?_ ?_<;>clear hR<;>intro hR ab
    ·have ah:=bU ab
     refine A0 1 rfl (bO 1 3 rfl (A3 (nx (A5 (bN rfl (bO 2 73 rfl (ie (J9 rfl (bN rfl (bO 1 2 rfl ?_))))))))))
     subst hR
     refine ie (A8 ?_)
     exact G0 hr hD
    have ah:=bU ab
    refine A4 (nx (A5 (bN rfl (bO 2 73 rfl (ie (Z1 rfl (A4 (nx (bN rfl (bO 1 2 rfl ?_))))))))))
    subst hR
    refine ie (A8 ?_)
    exact G0 hr hD
  ·refine gh 7 [0] rfl (S4 (cs:=[.nilFunc,.nilFunc]) B1x rfl) fun cu=>?_
   refine gc 0 [0] rfl (A0z rfl) fun d8=>?_
   refine go 3 [0] rfl (Det.tri (I6.det (by exact G9 (V8 B8g M1 rfl rfl rfl 0 rfl oki oki) (A3m a.kind)))) fun _=>?_
   refine hqV [4,5,6] [(13,ag [(cH a.kind .nilFunc F8),(cH a.kind .nilFunc L7)]),(14,bv (S9 a.kind F8))] ?_
   refine go 8 [0] rfl (D8 (us:=[(cH a.kind .nilFunc F8),(cH a.kind .nilFunc L7)]) (cs':=[(cH a.kind .nilFunc F8),(cH a.kind .nilFunc L7)]) C3q rfl rfl rfl 1 rfl rfl rfl (by simp only [List.all_cons,List.all_nil,Bool.and_true,Bool.and_eq_true];exact ⟨V6 rfl rfl,V6 rfl rfl⟩) rfl rfl) fun _=>?_
   refine hq1 [9] 5 rfl ?_
   refine ge ?_
   refine bN rfl (bO 3 17 rfl ?_)
   refine zio 7 19 17 24 (!(Y6 a.kind a.n)) (fun bd=>?_) ?_
   ·refine bO 1 18 rfl (ix rfl (A2 (v:=(cH a.kind .nilFunc F8)) B5j rfl rfl 1 rfl rfl) (bO 1 20 rfl (ix rfl (A2 (v:=iv a.n) cA rfl rfl 2 rfl rfl) (ixc rfl (R4 (A2c a.kind a.n (by first|assumption|(have c:S9 a.kind F8=true:=och;exact c)) _ rfl) rfl rfl rfl rfl bT) (bO 2 24 rfl ?_)))))
    exact zai 7 17 24 bd
   refine bO 1 25 rfl ?_
   refine zio 7 11 25 32 (!(Y0 a.kind a.m)) (fun am=>?_) ?_
   ·have c8:=bU am
    refine bO 1 26 rfl (ix rfl (A2 (v:=(cH a.kind .nilFunc L7)) B5j rfl rfl 1 rfl rfl) (bO 1 28 rfl (ix rfl (A2 (v:=iv a.m) cA rfl rfl 2 rfl rfl) (ixc rfl (R4 (A2j a.kind a.m (by first|assumption|(have c:S9 a.kind F8=true:=och;exact c)) _ rfl) rfl rfl rfl rfl bT) (bO 2 32 rfl ?_)))))
    exact zai 7 25 32 am
   refine bO 1 33 rfl ?_
   refine zio 5 5 33 38 (!(decide (a.color=Col.zero))) (fun az=>?_) ?_
   ·have c6:=bU az
    refine bO 1 34 rfl (ix rfl (D6 (us:=P0 a.color) A8u rfl rfl 2 rfl rfl rfl) (bY 1 2 [] [(36,ag (P0 Col.zero))] (ix rfl (X1 (a:=a.color) (b:=Col.zero) B2t rfl rfl rfl) (bO 1 38 rfl ?_))))
    exact zai 6 33 38 az
   refine bO 1 39 rfl ?_
   refine zio 4 0 39 43 (!(decide (a.text=([]:List UInt8)))) (fun an=>?_) ?_
   ·have cj:=bU an
    refine bO 1 40 rfl (ix rfl (A2 (v:=sv a.text) ty9 rfl rfl 2 rfl rfl) (ix rfl (A4i rfl rfl rfl) (bO 1 43 rfl ?_)))
    exact zai 5 39 43 an
   refine ie ?_
   refine zjb rfl hR ?_ ?_<;>clear hR<;>intro hR av
   ·have i:=bU av
    refine A0 1 rfl (bO 1 3 rfl (A3 (nx (A5 (bN rfl (bO 2 73 rfl (ie (J9 rfl (bN rfl (bO 1 2 rfl ?_))))))))))
    subst hR
    refine ie (A8 ?_)
    exact G0 hr hD
   have i:=bU av
   refine A4 (nx (A5 (bN rfl (bO 2 73 rfl (ie (Z1 rfl (A4 (nx (bN rfl (bO 1 2 rfl ?_))))))))))
   subst hR
   refine ie (A8 ?_)
   exact G0 hr hD
 refine bN rfl (bO 2 63 rfl (ie ?_))
 refine zjd rfl hR ?_ ?_<;>clear hR<;>intro hR cr ca
 ·refine A4 (nx ?_)
  refine zjd rfl hR ?_ ?_<;>clear hR<;>intro hR cz ar
  ·refine A0 6 rfl (ix rfl (by exact G9 (D6 (us:=A1 a) B7m rfl rfl 0 rfl rfl rfl) (congrArg (fun z=>ag (A1 z)) (A7w ar))) ?_)
   have u:=C9 hR;clear hR;obtain ⟨y2,l,hR⟩:=u
   refine zv rfl (C4b l) ?_
   have:=B3e a.n a.m a.color a.text;try rw [l] at this
   refine bO 4 3 rfl (A3 (nx (A5 (bN rfl (bO 2 73 rfl (ie ?_))))))
   refine zjn rfl hR ?_ ?_<;>clear hR<;>intro hR d9 br
   ·refine bN rfl (bO 1 2 rfl ?_)
    subst hR
    refine ie (A8 ?_)
    exact G0 hr hD
   refine A4 (nx (bN rfl (bO 1 2 rfl ?_)))
   subst hR
   refine ie (A8 ?_)
   exact G0 hr hD
  refine zS [(10,[0])] ?_
  refine hq1 [1] 10 rfl ?_
  refine gl 2 [0] rfl (A2 (v:=iv a.kind) cA rfl rfl 0 rfl rfl) ?_
  refine gf 0 7 ?_ ?_
  ·refine ghc 0 [0] rfl (A0z rfl) fun da=>?_
   refine gf 3 7 ?_ ?_
   ·refine gh 3 [0] rfl (Det.tri (I6.det (by exact G9 (V8 B8g M1 rfl rfl rfl 0 rfl oki oki) (A3m a.kind)))) fun _=>?_
    refine hqV [4,5,6] [(13,ag [(cH a.kind .nilFunc F8),(cH a.kind .nilFunc L7)]),(14,bv (S9 a.kind F8))] ?_
    refine go 7 [0] rfl (S4 (cs:=[.nilFunc,.nilFunc]) B1x rfl) fun cw=>?_
    refine go 8 [0] rfl (D8 (us:=[(cH a.kind .nilFunc F8),(cH a.kind .nilFunc L7)]) (cs':=[(cH a.kind .nilFunc F8),(cH a.kind .nilFunc L7)]) C3q rfl rfl rfl 0 rfl rfl rfl (by simp only [List.all_cons,List.all_nil,Bool.and_true,Bool.and_eq_true];exact ⟨V6 rfl rfl,V6 rfl rfl⟩) rfl rfl) fun _=>?_
    refine hq1 [9] 5 rfl ?_
    refine ge ?_
    refine bN rfl (bO 3 17 rfl ?_)
    refine zio 7 19 17 24 (!(Y6 a.kind a.n)) (fun b4=>?_) ?_
    ·refine bO 1 18 rfl (ix rfl (A2 (v:=(cH a.kind .nilFunc F8)) B5j rfl rfl 0 rfl rfl) (bO 1 20 rfl (ix rfl (A2 (v:=iv a.n) cA rfl rfl 2 rfl rfl) (ixc rfl (R4 (A2c a.kind a.n (by first|assumption|(have c:S9 a.kind F8=true:=och;exact c)) _ rfl) rfl rfl rfl rfl bT) (bO 2 24 rfl ?_)))))
     exact zai 7 17 24 b4
    refine bO 1 25 rfl ?_
    refine zio 7 11 25 32 (!(Y0 a.kind a.m)) (fun k=>?_) ?_
    ·have cd:=bU k
     refine bO 1 26 rfl (ix rfl (A2 (v:=(cH a.kind .nilFunc L7)) B5j rfl rfl 0 rfl rfl) (bO 1 28 rfl (ix rfl (A2 (v:=iv a.m) cA rfl rfl 2 rfl rfl) (ixc rfl (R4 (A2j a.kind a.m (by first|assumption|(have c:S9 a.kind F8=true:=och;exact c)) _ rfl) rfl rfl rfl rfl bT) (bO 2 32 rfl ?_)))))
     exact zai 7 25 32 k
    refine bO 1 33 rfl ?_
    refine zio 5 5 33 38 (!(decide (a.color=Col.zero))) (fun h=>?_) ?_
    ·have c4:=bU h
     refine bO 1 34 rfl (ix rfl (D6 (us:=P0 a.color) A8u rfl rfl 2 rfl rfl rfl) (bY 1 2 [] [(36,ag (P0 Col.zero))] (ix rfl (X1 (a:=a.color) (b:=Col.zero) B2t rfl rfl rfl) (bO 1 38 rfl ?_))))
     exact zai 6 33 38 h
    refine bO 1 39 rfl ?_
    refine zio 4 0 39 43 (!(decide (a.text=([]:List UInt8)))) (fun ai=>?_) ?_
    ·have c0:=bU ai
     refine bO 1 40 rfl (ix rfl (A2 (v:=sv a.text) ty9 rfl rfl 2 rfl rfl) (ix rfl (A4i rfl rfl rfl) (bO 1 43 rfl ?_)))
     exact zai 5 39 43 ai
    refine ie ?_
    refine zjb rfl hR ?_ ?_<;>clear hR<;>intro hR o
    ·have a0:=bU o
     refine A0 1 rfl (bO 1 3 rfl (A3 (nx (A5 (bN rfl (bO 2 73 rfl (ie (J9 rfl (bN rfl (bO 1 2 rfl ?_))))))))))
     subst hR
     refine ie (A8 ?_)
     exact G0 hr hD
    have a0:=bU o
    refine A4 (nx (A5 (bN rfl (bO 2 73 rfl (ie (Z1 rfl (A4 (nx (bN rfl (bO 1 2 rfl ?_))))))))))
    subst hR
    refine ie (A8 ?_)
    exact G0 hr hD
   ·refine gh 7 [0] rfl (S4 (cs:=[.nilFunc,.nilFunc]) B1x rfl) fun d4=>?_
    refine go 3 [0] rfl (Det.tri (I6.det (by exact G9 (V8 B8g M1 rfl rfl rfl 1 rfl oki oki) (A3m a.kind)))) fun _=>?_
    refine hqV [4,5,6] [(13,ag [(cH a.kind .nilFunc F8),(cH a.kind .nilFunc L7)]),(14,bv (S9 a.kind F8))] ?_
    refine go 8 [0] rfl (D8 (us:=[(cH a.kind .nilFunc F8),(cH a.kind .nilFunc L7)]) (cs':=[(cH a.kind .nilFunc F8),(cH a.kind .nilFunc L7)]) C3q rfl rfl rfl 0 rfl rfl rfl (by simp only [List.all_cons,List.all_nil,Bool.and_true,Bool.and_eq_true];exact ⟨V6 rfl rfl,V6 rfl rfl⟩) rfl rfl) fun _=>?_
    refine hq1 [9] 5 rfl ?_
    refine ge ?_
    refine bN rfl (bO 3 17 rfl ?_)
    refine zio 7 19 17 24 (!(Y6 a.kind a.n)) (fun b3=>?_) ?_
    ·refine bO 1 18 rfl (ix rfl (A2 (v:=(cH a.kind .nilFunc F8)) B5j rfl rfl 0 rfl rfl) (bO 1 20 rfl (ix rfl (A2 (v:=iv a.n) cA rfl rfl 2 rfl rfl) (ixc rfl (R4 (A2c a.kind a.n (by first|assumption|(have c:S9 a.kind F8=true:=och;exact c)) _ rfl) rfl rfl rfl rfl bT) (bO 2 24 rfl ?_)))))
     exact zai 7 17 24 b3
    refine bO 1 25 rfl ?_
    refine zio 7 11 25 32 (!(Y0 a.kind a.m)) (fun a2=>?_) ?_
    ·have bl:=bU a2
     refine bO 1 26 rfl (ix rfl (A2 (v:=(cH a.kind .nilFunc L7)) B5j rfl rfl 0 rfl rfl) (bO 1 28 rfl (ix rfl (A2 (v:=iv a.m) cA rfl rfl 2 rfl rfl) (ixc rfl (R4 (A2j a.kind a.m (by first|assumption|(have c:S9 a.kind F8=true:=och;exact c)) _ rfl) rfl rfl rfl rfl bT) (bO 2 32 rfl ?_)))))
     exact zai 7 25 32 a2
    refine bO 1 33 rfl ?_
    refine zio 5 5 33 38 (!(decide (a.color=Col.zero))) (fun f=>?_) ?_
    ·have cb:=bU f
     refine bO 1 34 rfl (ix rfl (D6 (us:=P0 a.color) A8u rfl rfl 2 rfl rfl rfl) (bY 1 2 [] [(36,ag (P0 Col.zero))] (ix rfl (X1 (a:=a.color) (b:=Col.zero) B2t rfl rfl rfl) (bO 1 38 rfl ?_))))
     exact zai 6 33 38 f
    refine bO 1 39 rfl ?_
    refine zio 4 0 39 43 (!(decide (a.text=([]:List UInt8)))) (fun ao=>?_) ?_
    ·have bu:=bU ao
     refine bO 1 40 rfl (ix rfl (A2 (v:=sv a.text) ty9 rfl rfl 2 rfl rfl) (ix rfl (A4i rfl rfl rfl) (bO 1 43 rfl ?_)))
     exact zai 5 39 43 ao
    refine ie ?_
    refine zjb rfl hR ?_ ?_<;>clear hR<;>intro hR ak
    ·have aq:=bU ak
     refine A0 1 rfl (bO 1 3 rfl (A3 (nx (A5 (bN rfl (bO 2 73 rfl (ie (J9 rfl (bN rfl (bO 1 2 rfl ?_))))))))))
     subst hR
     refine ie (A8 ?_)
     exact G0 hr hD
    have aq:=bU ak
    refine A4 (nx (A5 (bN rfl (bO 2 73 rfl (ie (Z1 rfl (A4 (nx (bN rfl (bO 1 2 rfl ?_))))))))))
    subst hR
    refine ie (A8 ?_)
    exact G0 hr hD
  ·refine gh 7 [0] rfl (S4 (cs:=[.nilFunc,.nilFunc]) B1x rfl) fun d0=>?_
   refine gc 0 [0] rfl (A0z rfl) fun d6=>?_
   refine go 3 [0] rfl (Det.tri (I6.det (by exact G9 (V8 B8g M1 rfl rfl rfl 0 rfl oki oki) (A3m a.kind)))) fun _=>?_
   refine hqV [4,5,6] [(13,ag [(cH a.kind .nilFunc F8),(cH a.kind .nilFunc L7)]),(14,bv (S9 a.kind F8))] ?_
   refine go 8 [0] rfl (D8 (us:=[(cH a.kind .nilFunc F8),(cH a.kind .nilFunc L7)]) (cs':=[(cH a.kind .nilFunc F8),(cH a.kind .nilFunc L7)]) C3q rfl rfl rfl 1 rfl rfl rfl (by simp only [List.all_cons,List.all_nil,Bool.and_true,Bool.and_eq_true];exact ⟨V6 rfl rfl,V6 rfl rfl⟩) rfl rfl) fun _=>?_
   refine hq1 [9] 5 rfl ?_
   refine ge ?_
   refine bN rfl (bO 3 17 rfl ?_)
   refine zio 7 19 17 24 (!(Y6 a.kind a.n)) (fun b5=>?_) ?_
   ·refine bO 1 18 rfl (ix rfl (A2 (v:=(cH a.kind .nilFunc F8)) B5j rfl rfl 1 rfl rfl) (bO 1 20 rfl (ix rfl (A2 (v:=iv a.n) cA rfl rfl 2 rfl rfl) (ixc rfl (R4 (A2c a.kind a.n (by first|assumption|(have c:S9 a.kind F8=true:=och;exact c)) _ rfl) rfl rfl rfl rfl bT) (bO 2 24 rfl ?_)))))
    exact zai 7 17 24 b5
   refine bO 1 25 rfl ?_
   refine zio 7 11 25 32 (!(Y0 a.kind a.m)) (fun ac=>?_) ?_
   ·have cc:=bU ac
    refine bO 1 26 rfl (ix rfl (A2 (v:=(cH a.kind .nilFunc L7)) B5j rfl rfl 1 rfl rfl) (bO 1 28 rfl (ix rfl (A2 (v:=iv a.m) cA rfl rfl 2 rfl rfl) (ixc rfl (R4 (A2j a.kind a.m (by first|assumption|(have c:S9 a.kind F8=true:=och;exact c)) _ rfl) rfl rfl rfl rfl bT) (bO 2 32 rfl ?_)))))
    exact zai 7 25 32 ac
   refine bO 1 33 rfl ?_
   refine zio 5 5 33 38 (!(decide (a.color=Col.zero))) (fun a7=>?_) ?_
   ·have bo:=bU a7
    refine bO 1 34 rfl (ix rfl (D6 (us:=P0 a.color) A8u rfl rfl 2 rfl rfl rfl) (bY 1 2 [] [(36,ag (P0 Col.zero))] (ix rfl (X1 (a:=a.color) (b:=Col.zero) B2t rfl rfl rfl) (bO 1 38 rfl ?_))))
    exact zai 6 33 38 a7
   refine bO 1 39 rfl ?_
   refine zio 4 0 39 43 (!(decide (a.text=([]:List UInt8)))) (fun af=>?_) ?_
   ·have bn:=bU af
    refine bO 1 40 rfl (ix rfl (A2 (v:=sv a.text) ty9 rfl rfl 2 rfl rfl) (ix rfl (A4i rfl rfl rfl) (bO 1 43 rfl ?_)))
    exact zai 5 39 43 af
   refine ie ?_
   refine zjb rfl hR ?_ ?_<;>clear hR<;>intro hR a5
   ·have aj:=bU a5
    refine A0 1 rfl (bO 1 3 rfl (A3 (nx (A5 (bN rfl (bO 2 73 rfl (ie (J9 rfl (bN rfl (bO 1 2 rfl ?_))))))))))
    subst hR
    refine ie (A8 ?_)
    exact G0 hr hD
   have aj:=bU a5
   refine A4 (nx (A5 (bN rfl (bO 2 73 rfl (ie (Z1 rfl (A4 (nx (bN rfl (bO 1 2 rfl ?_))))))))))
   subst hR
   refine ie (A8 ?_)
   exact G0 hr hD
 refine A0 2 rfl (bO 2 63 rfl (A3 (nx ?_)))
 refine zjd rfl hR ?_ ?_<;>clear hR<;>intro hR co ay
 ·refine A0 6 rfl (ix rfl (by exact G9 (D6 (us:=A1 a) B7m rfl rfl 0 rfl rfl rfl) (congrArg (fun z=>ag (A1 z)) (A7w ay))) ?_)
  have u:=C9 hR;clear hR;obtain ⟨y1,ax,hR⟩:=u
  refine zv rfl (C4n ax) ?_
  have:=B3b a.n a.m a.color a.text;try rw [ax] at this
  refine bO 4 3 rfl (A3 (nx (A5 (bN rfl (bO 2 73 rfl (ie ?_))))))
  refine zjn rfl hR ?_ ?_<;>clear hR<;>intro hR d3 bk
  ·refine bN rfl (bO 1 2 rfl ?_)
   subst hR
   refine ie (A8 ?_)
   exact G0 hr hD
  refine A4 (nx (bN rfl (bO 1 2 rfl ?_)))
  subst hR
  refine ie (A8 ?_)
  exact G0 hr hD
 refine zS [(10,[0])] ?_
 refine hq1 [1] 10 rfl ?_
 refine gl 2 [0] rfl (A2 (v:=iv a.kind) cA rfl rfl 0 rfl rfl) ?_
 refine gf 0 7 ?_ ?_
 ·refine ghc 0 [0] rfl (A0z rfl) fun ck=>?_
  refine gf 3 7 ?_ ?_
  ·refine gh 3 [0] rfl (Det.tri (I6.det (by exact G9 (V8 B8g M1 rfl rfl rfl 0 rfl oki oki) (A3m a.kind)))) fun _=>?_
   refine hqV [4,5,6] [(13,ag [(cH a.kind .nilFunc F8),(cH a.kind .nilFunc L7)]),(14,bv (S9 a.kind F8))] ?_
   refine go 7 [0] rfl (S4 (cs:=[.nilFunc,.nilFunc]) B1x rfl) fun cp=>?_
   refine go 8 [0] rfl (D8 (us:=[(cH a.kind .nilFunc F8),(cH a.kind .nilFunc L7)]) (cs':=[(cH a.kind .nilFunc F8),(cH a.kind .nilFunc L7)]) C3q rfl rfl rfl 0 rfl rfl rfl (by simp only [List.all_cons,List.all_nil,Bool.and_true,Bool.and_eq_true];exact ⟨V6 rfl rfl,V6 rfl rfl⟩) rfl rfl) fun _=>?_
   refine hq1 [9] 5 rfl ?_
   refine ge ?_
   refine bN rfl (bO 3 17 rfl ?_)
   refine zio 7 19 17 24 (!(Y6 a.kind a.n)) (fun b9=>?_) ?_
   ·refine bO 1 18 rfl (ix rfl (A2 (v:=(cH a.kind .nilFunc F8)) B5j rfl rfl 0 rfl rfl) (bO 1 20 rfl (ix rfl (A2 (v:=iv a.n) cA rfl rfl 2 rfl rfl) (ixc rfl (R4 (A2c a.kind a.n (by first|assumption|(have c:S9 a.kind F8=true:=och;exact c)) _ rfl) rfl rfl rfl rfl bT) (bO 2 24 rfl ?_)))))
    exact zai 7 17 24 b9
   refine bO 1 25 rfl ?_
   refine zio 7 11 25 32 (!(Y0 a.kind a.m)) (fun x=>?_) ?_
   ·have bj:=bU x
    refine bO 1 26 rfl (ix rfl (A2 (v:=(cH a.kind .nilFunc L7)) B5j rfl rfl 0 rfl rfl) (bO 1 28 rfl (ix rfl (A2 (v:=iv a.m) cA rfl rfl 2 rfl rfl) (ixc rfl (R4 (A2j a.kind a.m (by first|assumption|(have c:S9 a.kind F8=true:=och;exact c)) _ rfl) rfl rfl rfl rfl bT) (bO 2 32 rfl ?_)))))
    exact zai 7 25 32 x
   refine bO 1 33 rfl ?_
   refine zio 5 5 33 38 (!(decide (a.color=Col.zero))) (fun j=>?_) ?_
   ·have c5:=bU j
    refine bO 1 34 rfl (ix rfl (D6 (us:=P0 a.color) A8u rfl rfl 2 rfl rfl rfl) (bY 1 2 [] [(36,ag (P0 Col.zero))] (ix rfl (X1 (a:=a.color) (b:=Col.zero) B2t rfl rfl rfl) (bO 1 38 rfl ?_))))
    exact zai 6 33 38 j
   refine bO 1 39 rfl ?_
   refine zio 4 0 39 43 (!(decide (a.text=([]:List UInt8)))) (fun r=>?_) ?_
   ·have bp:=bU r
    refine bO 1 40 rfl (ix rfl (A2 (v:=sv a.text) ty9 rfl rfl 2 rfl rfl) (ix rfl (A4i rfl rfl rfl) (bO 1 43 rfl ?_)))
    exact zai 5 39 43 r
   refine ie ?_
   refine zjb rfl hR ?_ ?_<;>clear hR<;>intro hR ae
   ·have al:=bU ae
    refine A0 1 rfl (bO 1 3 rfl (A3 (nx (A5 (bN rfl (bO 2 73 rfl (ie (J9 rfl (bN rfl (bO 1 2 rfl ?_))))))))))
    subst hR
    refine ie (A8 ?_)
    exact G0 hr hD
   have al:=bU ae
   refine A4 (nx (A5 (bN rfl (bO 2 73 rfl (ie (Z1 rfl (A4 (nx (bN rfl (bO 1 2 rfl ?_))))))))))
   subst hR
   refine ie (A8 ?_)
   exact G0 hr hD
  ·refine gh 7 [0] rfl (S4 (cs:=[.nilFunc,.nilFunc]) B1x rfl) fun ct=>?_
   refine go 3 [0] rfl (Det.tri (I6.det (by exact G9 (V8 B8g M1 rfl rfl rfl 1 rfl oki oki) (A3m a.kind)))) fun _=>?_
   refine hqV [4,5,6] [(13,ag [(cH a.kind .nilFunc F8),(cH a.kind .nilFunc L7)]),(14,bv (S9 a.kind F8))] ?_
   refine go 8 [0] rfl (D8 (us:=[(cH a.kind .nilFunc F8),(cH a.kind .nilFunc L7)]) (cs':=[(cH a.kind .nilFunc F8),(cH a.kind .nilFunc L7)]) C3q rfl rfl rfl 0 rfl rfl rfl (by simp only [List.all_cons,List.all_nil,Bool.and_true,Bool.and_eq_true];exact ⟨V6 rfl rfl,V6 rfl rfl⟩) rfl rfl) fun _=>?_
   refine hq1 [9] 5 rfl ?_
   refine ge ?_
   refine bN rfl (bO 3 17 rfl ?_)
   refine zio 7 19 17 24 (!(Y6 a.kind a.n)) (fun bc=>?_) ?_
   ·refine bO 1 18 rfl (ix rfl (A2 (v:=(cH a.kind .nilFunc F8)) B5j rfl rfl 0 rfl rfl) (bO 1 20 rfl (ix rfl (A2 (v:=iv a.n) cA rfl rfl 2 rfl rfl) (ixc rfl (R4 (A2c a.kind a.n (by first|assumption|(have c:S9 a.kind F8=true:=och;exact c)) _ rfl) rfl rfl rfl rfl bT) (bO 2 24 rfl ?_)))))
    exact zai 7 17 24 bc
   refine bO 1 25 rfl ?_
   refine zio 7 11 25 32 (!(Y0 a.kind a.m)) (fun au=>?_) ?_
   ·have bi:=bU au
    refine bO 1 26 rfl (ix rfl (A2 (v:=(cH a.kind .nilFunc L7)) B5j rfl rfl 0 rfl rfl) (bO 1 28 rfl (ix rfl (A2 (v:=iv a.m) cA rfl rfl 2 rfl rfl) (ixc rfl (R4 (A2j a.kind a.m (by first|assumption|(have c:S9 a.kind F8=true:=och;exact c)) _ rfl) rfl rfl rfl rfl bT) (bO 2 32 rfl ?_)))))
    exact zai 7 25 32 au
   refine bO 1 33 rfl ?_
   refine zio 5 5 33 38 (!(decide (a.color=Col.zero))) (fun y=>?_) ?_
   ·have c2:=bU y
    refine bO 1 34 rfl (ix rfl (D6 (us:=P0 a.color) A8u rfl rfl 2 rfl rfl rfl) (bY 1 2 [] [(36,ag (P0 Col.zero))] (ix rfl (X1 (a:=a.color) (b:=Col.zero) B2t rfl rfl rfl) (bO 1 38 rfl ?_))))
    exact zai 6 33 38 y
   refine bO 1 39 rfl ?_
   refine zio 4 0 39 43 (!(decide (a.text=([]:List UInt8)))) (fun g=>?_) ?_
   ·have c1:=bU g
    refine bO 1 40 rfl (ix rfl (A2 (v:=sv a.text) ty9 rfl rfl 2 rfl rfl) (ix rfl (A4i rfl rfl rfl) (bO 1 43 rfl ?_)))
    exact zai 5 39 43 g
   refine ie ?_
   refine zjb rfl hR ?_ ?_<;>clear hR<;>intro hR w
   ·have ad:=bU w
    refine A0 1 rfl (bO 1 3 rfl (A3 (nx (A5 (bN rfl (bO 2 73 rfl (ie (J9 rfl (bN rfl (bO 1 2 rfl ?_))))))))))
    subst hR
    refine ie (A8 ?_)
    exact G0 hr hD
   have ad:=bU w
   refine A4 (nx (A5 (bN rfl (bO 2 73 rfl (ie (Z1 rfl (A4 (nx (bN rfl (bO 1 2 rfl ?_))))))))))
   subst hR
   refine ie (A8 ?_)
   exact G0 hr hD
 ·refine gh 7 [0] rfl (S4 (cs:=[.nilFunc,.nilFunc]) B1x rfl) fun cv=>?_
  refine gc 0 [0] rfl (A0z rfl) fun cl=>?_
  refine go 3 [0] rfl (Det.tri (I6.det (by exact G9 (V8 B8g M1 rfl rfl rfl 0 rfl oki oki) (A3m a.kind)))) fun _=>?_
  refine hqV [4,5,6] [(13,ag [(cH a.kind .nilFunc F8),(cH a.kind .nilFunc L7)]),(14,bv (S9 a.kind F8))] ?_
  refine go 8 [0] rfl (D8 (us:=[(cH a.kind .nilFunc F8),(cH a.kind .nilFunc L7)]) (cs':=[(cH a.kind .nilFunc F8),(cH a.kind .nilFunc L7)]) C3q rfl rfl rfl 1 rfl rfl rfl (by simp only [List.all_cons,List.all_nil,Bool.and_true,Bool.and_eq_true];exact ⟨V6 rfl rfl,V6 rfl rfl⟩) rfl rfl) fun _=>?_
  refine hq1 [9] 5 rfl ?_
  refine ge ?_
  refine bN rfl (bO 3 17 rfl ?_)
  refine zio 7 19 17 24 (!(Y6 a.kind a.n)) (fun b2=>?_) ?_
  ·refine bO 1 18 rfl (ix rfl (A2 (v:=(cH a.kind .nilFunc F8)) B5j rfl rfl 1 rfl rfl) (bO 1 20 rfl (ix rfl (A2 (v:=iv a.n) cA rfl rfl 2 rfl rfl) (ixc rfl (R4 (A2c a.kind a.n (by first|assumption|(have c:S9 a.kind F8=true:=och;exact c)) _ rfl) rfl rfl rfl rfl bT) (bO 2 24 rfl ?_)))))
   exact zai 7 17 24 b2
  refine bO 1 25 rfl ?_
  refine zio 7 11 25 32 (!(Y0 a.kind a.m)) (fun t=>?_) ?_
  ·have cf:=bU t
   refine bO 1 26 rfl (ix rfl (A2 (v:=(cH a.kind .nilFunc L7)) B5j rfl rfl 1 rfl rfl) (bO 1 28 rfl (ix rfl (A2 (v:=iv a.m) cA rfl rfl 2 rfl rfl) (ixc rfl (R4 (A2j a.kind a.m (by first|assumption|(have c:S9 a.kind F8=true:=och;exact c)) _ rfl) rfl rfl rfl rfl bT) (bO 2 32 rfl ?_)))))
   exact zai 7 25 32 t
  refine bO 1 33 rfl ?_
  refine zio 5 5 33 38 (!(decide (a.color=Col.zero))) (fun a8=>?_) ?_
  ·have c7:=bU a8
   refine bO 1 34 rfl (ix rfl (D6 (us:=P0 a.color) A8u rfl rfl 2 rfl rfl rfl) (bY 1 2 [] [(36,ag (P0 Col.zero))] (ix rfl (X1 (a:=a.color) (b:=Col.zero) B2t rfl rfl rfl) (bO 1 38 rfl ?_))))
   exact zai 6 33 38 a8
  refine bO 1 39 rfl ?_
  refine zio 4 0 39 43 (!(decide (a.text=([]:List UInt8)))) (fun q=>?_) ?_
  ·have c3:=bU q
   refine bO 1 40 rfl (ix rfl (A2 (v:=sv a.text) ty9 rfl rfl 2 rfl rfl) (ix rfl (A4i rfl rfl rfl) (bO 1 43 rfl ?_)))
   exact zai 5 39 43 q
  refine ie ?_
  refine zjb rfl hR ?_ ?_<;>clear hR<;>intro hR s
  ·have aw:=bU s
   refine A0 1 rfl (bO 1 3 rfl (A3 (nx (A5 (bN rfl (bO 2 73 rfl (ie (J9 rfl (bN rfl (bO 1 2 rfl ?_))))))))))
   subst hR
   refine ie (A8 ?_)
   exact G0 hr hD
  have aw:=bU s
  refine A4 (nx (A5 (bN rfl (bO 2 73 rfl (ie (Z1 rfl (A4 (nx (bN rfl (bO 1 2 rfl ?_))))))))))
  subst hR
  refine ie (A8 ?_)
  exact G0 hr hD
theorem E4b {k:Int} (h:1≤k∧k≤46):([1,2,3,4,5,6,7,8,9,10,11,12,13,15,16,14,17,18,20,21,33,19,22,23,24,25,28,29,30,31,32,34,26,27,35,40,36,37,38,41,42,43,39,44,45,46]:List Int).contains k=true:=by
 simp only [List.contains_cons,List.contains_nil,Bool.or_false,Bool.or_eq_true,beq_iff_eq];omega
theorem D1e {l:List Act} {p:Act→Prop} (h:∀ a ∈ l,p a) (b:p Act.zero) (i:Nat):p (l.getD i Act.zero):=by
 by_cases hi:i<l.length
 ·rw [gdE hi];exact h _ (List.getElem_mem hi)
 ·rw [gdN hi];exact b
theorem C9h (s:List UInt8) (n:Int):(A3b s n).length≤1:=by
 unfold A3b;simp only [List.length_take,List.length_drop];omega
theorem E9l {c:Bool} {x y:List UInt8} {B:Nat} (b:x.length≤B) (a:y.length≤B):(bif c then x else y).length≤B:=by cases c<;>assumption
set_option maxHeartbeats 4000000 in
theorem D2z (a:Act) (h:a.text.length≤100000000):(A7r a).length≤100010000:=by
 unfold A7r
 have p:=B9u a.n
 have b:=fun s n=>C9h s n
 have f:=A3j
 have e:=A9v
 have o:=B4y a.n a.m a.color a.text
 have i:=B3e a.n a.m a.color a.text
 have j:=B3b a.n a.m a.color a.text
 repeat' (with_reducible refine E9l ?_ ?_)
 all_goals simp only [A5b,F4,W0,A5u,W1,A5p,H4,Y3,A4j,A4a,A4k,A3y,A5l,A4p,A4n,C2,List.length_append,List.length_cons,List.length_nil,List.length_take]
 all_goals first|omega|exact Nat.le_trans (e _) opx|(refine Nat.le_trans (Nat.add_le_add_right (Nat.add_le_add_left (f _ _) _) _) ?_;omega)|(have d:=f 1 [a.m];have c:=fun s=>b s a.n;have g:=c [65,66,67,68];have k:=c [69,70];have l:=c [83,84];omega)|(have d:=b [15,14] (a.n - 0);have c:=b [62,61] (a.n - 0);have g:=b [78,79] (a.n - 2);omega)|(have d:=b [40,41,42,43] a.n;have c:=b [66,48] a.m;omega)|(have d:=f (-2) [a.n];have c:=b [108,104] a.m;omega)
theorem E9i {c:Bool} (h:(bif c then (200:Int) else 0)=0):c=false:=by cases c<;>simp at h ⊢
theorem E5u {a:Act} (h:S9 a.kind F8=true):a.kind=17∨a.kind=18∨a.kind=19∨a.kind=20∨a.kind=26∨a.kind=27∨a.kind=35∨a.kind=38∨a.kind=40∨a.kind=41∨a.kind=2∨a.kind=3∨a.kind=4∨a.kind=5∨a.kind=6∨a.kind=8∨a.kind=9∨a.kind=10∨a.kind=11∨a.kind=12∨a.kind=13∨a.kind=15∨a.kind=16∨a.kind=7∨a.kind=14∨a.kind=42∨a.kind=21∨a.kind=33∨a.kind=22∨a.kind=23∨a.kind=24∨a.kind=25∨a.kind=28∨a.kind=29∨a.kind=30∨a.kind=31∨a.kind=32∨a.kind=34∨a.kind=36∨a.kind=37∨a.kind=43:=by
 rw [C6b] at h
 simp only [F8,List.map_cons,List.map_nil,List.contains_cons,List.contains_nil,Bool.or_false,Bool.or_eq_true,beq_iff_eq] at h
 omega
theorem E0p {a:Act} (h:H0 a=0) (d:a.text.length≤100000000):B6a a:=by
 unfold H0 at h
 by_cases e1:a.kind=1
 ·unfold B6a;omega
 ·rw [decide_eq_false e1,cond_false] at h
  by_cases e2:a.kind=39
  ·unfold B6a;omega
  ·rw [decide_eq_false e2,cond_false] at h
   by_cases e3:a.kind=44
   ·unfold B6a;omega
   ·rw [decide_eq_false e3,cond_false] at h
    by_cases e4:a.kind=45
    ·unfold B6a;omega
    rw [decide_eq_false e4,cond_false] at h
    by_cases e5:a.kind=46
    ·unfold B6a;omega
    rw [decide_eq_false e5,cond_false] at h
    have h:=E9i h
    simp only [Bool.or_eq_false_iff,Bool.not_eq_false'] at h
    obtain ⟨⟨⟨⟨e,c⟩,b⟩,_⟩,_⟩:=h
    clear e1 e2 e3 e4 e5
    rcases E5u e with h | h | h | h | h | h | h | h | h | h | h | h | h | h | h | h | h | h | h | h | h | h | h | h | h | h | h | h | h | h | h | h | h | h | h | h | h | h | h | h | h
    all_goals
     rw [h] at c b
     simp only [Y6,Y0,B1,A6d,Int.reduceEq,decide_true,decide_false,cond_true,cond_false,Bool.and_eq_true,Bool.or_eq_true,decide_eq_true_eq] at c b
     unfold B6a
     omega
def A0r (l:List Act) (a:List UInt8→Int→(List UInt8×Int)):Nat→List UInt8→Int→Int→(List UInt8×Int)
 | 0,_,_,_=>([],0)
 | fu3+1,b1,at_1,n=>(bif (((decide (n<(l.length:Int)))&&(decide (n<(at_1+16))))&&(decide ((l.getD ((n).toNat) Act.zero).kind=39))) then A0r l a fu3 b1 at_1 (n+1) else (bif (decide (n=at_1)) then a (b1++(A7r (l.getD ((at_1).toNat) Act.zero))) (at_1+1) else (C2 (B2o ((l.drop ((at_1).toNat)).take (((n).toNat) - ((at_1).toNat)))) fun (b:List UInt8)=>a (b1++b) ((n - 1)+1))))
def Y8 (l:List Act):Nat→List UInt8→Int→(List UInt8×Int)
 | 0,_,_=>([],0)
 | fu1+1,b,at_=>(bif (decide (at_<(l.length:Int))) then A0r l (Y8 l fu1) (((l.length:Int) - at_).toNat+1) b at_ at_ else (b,0))
def W6 (l:List Act):List Act→Nat→(List UInt8×Int)
 | [],t15=>Y8 l (((l.length:Int) - 0).toNat+1) ([]:List UInt8) 0
 | hd_l0::tl_l0,t15=>(bif (!decide ((H0 hd_l0)=0)) then (([]:List UInt8),(H0 hd_l0)) else W6 l tl_l0 (t15+1))
def N8 (l:List Act):List UInt8×Int :=
 (bif (decide ((131072:Int)<(l.length:Int))) then (([]:List UInt8),3) else W6 l l 0)
theorem B4v (l:List Act) (h:∀ a ∈ l,a.text.length≤100000000) (ag:List UInt8→Int→List UInt8×Int) (B:Nat) (c:∀ b t,(ag b t).1.length≤b.length+B):∀ (d:Nat) (b:List UInt8) (t n:Int),(A0r l ag d b t n).1.length≤b.length+100010000+B
 | 0,b,t,n=>Nat.zero_le _
 | d+1,b,t,n=>by
  rw [A0r];unfold C2;simp only [Bool.cond_eq_ite];repeat' split
  ·exact B4v l h ag B c d b t (n+1)
  ·refine Nat.le_trans (c _ _) ?_
   have:=D2z (l.getD t.toNat Act.zero) (D1e h ozw _)
   rw [List.length_append];omega
  ·refine Nat.le_trans (c _ _) ?_
   have:=A9v ((l.drop t.toNat).take (n.toNat - t.toNat))
   rw [List.length_append];omega
theorem B4p (l:List Act) (h:∀ a ∈ l,a.text.length≤100000000):∀ (c:Nat) (b:List UInt8) (t:Int),(Y8 l c b t).1.length≤b.length+c * 100010000
 | 0,b,t=>Nat.zero_le _
 | c+1,b,t=>by
  rw [Y8]
  cases decide (t<(l.length:Int)) with
  | true=>exact Nat.le_trans (B4v l h _ (c * 100010000) (B4p l h c) _ _ _ _) opx
  | false=>exact Nat.le_add_right _ _
theorem B4g (L:List Act) (h:∀ a ∈ L,a.text.length≤100000000) (b:L.length≤131072):∀ (l:List Act) (t:Nat),(W6 L l t).1.length≤13200000000000
 | [],t=>by
  have:=B4p L h (((L.length:Int) - 0).toNat+1) [] 0
  rw [W6];simp only [List.length_nil] at this;omega
 | a::l,t=>by
  rw [W6]
  cases (!decide ((H0 a)=0)) with
  | true=>exact Nat.zero_le _
  | false=>exact B4g L h b l (t+1)
theorem A8a (l:List Act) (h:∀ a ∈ l,a.text.length≤100000000):(N8 l).1.length≤13200000000000:=by
 unfold N8
 by_cases hl:(131072:Int)<(l.length:Int)
 ·rw [decide_eq_true hl];exact Nat.zero_le _
 ·rw [decide_eq_false hl];exact B4g l h opx l 0
theorem B2c {l:List Act} {lq:Option Addr} {lk:Nat} {R:List UInt8×Int} (hR:N8 l=R) (ay:l.length≤9223372036854775807:=by exact bP) (b2:l.length≤lk:=by exact bP) (w:∀ a ∈ l,a.text.length≤100000000:=by exact bP):cI Tryz.prog 31 [.slice lq l.length lk] [] [sl A1 lq l,P6,P7,O0,M9,K6,P4] ({r:VR // bR 1 R.1.length r}) (fun x=>.tuple #[.slice (va x.1.q) R.1.length x.1.k,iv R.2]) (fun x=>((vo cG 5 x.1 R.1)++([]))) (fun x=>[]):=by
 refine bZ Tryz.func31 fun X hX hr hD=>?_
 replace hR:=(N8.eq_1 ..).symm.trans hR
 refine bN rfl (bO 2 2 rfl (ie (D4t (A5 (bN rfl (bO 3 12 rfl (ie ?_)))))))
 refine zjd rfl hR ?_ ?_<;>clear hR<;>intro hR h1 b3
 ·refine bN rfl (cJ 2 2 3 rfl ?_)
  subst hR
  refine ie (A8 ?_)
  exact cD hr hD (Q9 rfl (B0 rfl) (B0 rfl)) ⟨VR.nil,bR.nil⟩ bQ bT
 refine A4 (nx (A5 (bN rfl (pp3 3 13 14 15 rfl (ie (B2 (A4v (fun (f:Nat)=>(f≤l.length∧W6 l (l.drop f) f=R∧(∀ i<f,H0 (l.getD i Act.zero)=0),[(0,.slice lq l.length lk),(2,.slice none 0 0),(13,.slice lq l.length lk),(14,iv (l.length:Int)),(15,iv (f:Int))],[],[sl A1 lq l,P6,P7,O0,M9,K6,P4],l.length - f)) 0 ⟨opx,hR,(by intro i hi;omega)⟩ bQ A9.refl ?_)))))))
 rintro f ⟨aw,hR,a5⟩
 have ai:=D1e w ozw f
 refine bN rfl (bO 1 16 rfl ?_)
 refine ie (A5 (X7 rfl (fun h3=>?_) (fun h3=>?_)))
 ·have ac:=bU h3
  rw [A1f Act.zero (show f<l.length by omega)] at hR;replace hR:=(W6.eq_2 ..).symm.trans hR
  refine A4 (nx (A5 (B2 (bN rfl (L9 0 rfl opx fun a4 a6=>(ix rfl (H9 A2p rfl rfl a6 rfl f rfl opx) (ix rfl (K5 (us:=A1 (l.getD f Act.zero)) B7m rfl rfl (K2 (c:=A1) (sz:=6) a6 (fun _=>rfl) 0 rfl (gd Act.zero opx)) rfl) ?_)))))))
  refine B2b 2 0 [0] (fun b6=>[(5,pt b6 0)]) (fun b6=>[bx b6 (A1 (l.getD f Act.zero)) 60]) (fun b6=>?_)
  refine ie (bN rfl (bY 1 2 [0] [(19,ag (A1 (l.getD f Act.zero)))] (zv rfl (B2v rfl (by first|omega|exact ai|exact hkt0 opx|(dsimp only;omega))) (bO 1 6 rfl (ie (bN rfl (bO 2 22 rfl (ie ?_))))))))
  refine zjn rfl hR ?_ ?_<;>clear hR<;>intro hR h7 b5
  ·refine bN rfl (cJ 3 2 3 rfl ?_)
   subst hR
   refine ie (A8 ?_)
   exact cD hr hD (Q9 rfl (B0 rfl) (B0 rfl)) ⟨VR.nil,bR.nil⟩ bQ bT
  refine A4 (nx (A0 2 rfl (ix rfl (B4 rfl rfl rfl rfl opx) (bO 1 15 rfl (A3 ?_)))))
  exact A0d (z1:=f) (f+1) ⟨opx,hR,(by intro i hi;rcases Nat.lt_succ_iff_lt_or_eq.1 hi with hi | rfl;exact a5 i hi;exact Decidable.of_not_not oiu)⟩ olr bQ A9.refl
 have ac:=bU h3
 rw [A2g ac] at hR;replace hR:=(W6.eq_1 ..).symm.trans hR
 refine G6 (nx (bN rfl (zc rfl (C9i _ rfl) fun ⟨⟨u,e⟩,ab⟩=>?_)))
 refine bO 1 7 rfl (ie (A5 (D5j (nx (A5 (bN rfl (bO 1 8 rfl (ie (B2 (Q3 (H2 [vo cG 5 VR.nil ([]:List UInt8),[(u,.map (B6 e 0).toArray e.length)]] [1,0] 2 rfl ozw rfl [[(u,.map (B6 e 0).toArray e.length)],vo cG 5 VR.nil ([]:List UInt8)] rfl opv) ?_))))))))))
 refine A4v (un fun (fu:Nat)=>un fun (b:List UInt8)=>un fun (br:VR) (at_:Int)=>(((l.length:Int) - at_).toNat<fu∧Y8 l fu b at_=R∧bR 1 b.length br∧0≤at_∧at_≤(l.length:Int)∧(b.length:Int)≤100010000 * at_,[(0,.slice lq l.length lk),(2,.slice (va br.q) b.length br.k),(7,.map (some u)),(8,iv at_)],((u,.map (B6 e 0).toArray e.length)::((vo cG 5 br b)++([]))),[C5m Tryz.prog e tC,sl A1 lq l,P6,P7,O0,M9,K6,P4],fu)) ((((l.length:Int) - 0).toNat+1),([]:List UInt8),VR.nil,0) ⟨(Nat.lt_succ_self _),hR,bR.nil,opx,oom⟩ bQ A9.refl ?_
 rintro ⟨fu,b,br,at_⟩ ⟨an,hR,t,ha,hb⟩
 have:=bR.le t
 obtain ⟨fu1,rfl⟩:∃ m,fu=m+1:=⟨fu - 1,by omega⟩
 replace hR:=(Y8.eq_2 ..).symm.trans hR
 refine A5 (bN rfl (bO 4 29 rfl ?_))
 refine ie ?_
 refine zjd rfl hR ?_ ?_<;>clear hR<;>intro hR b4 au
 ·refine A4 (nx (A5 (B2 (A5 (bN rfl (bO 2 9 rfl (ie (B2 ?_))))))))
  refine A4v (un fun (v:Nat)=>un fun (o:List UInt8)=>un fun (g:VR)=>un fun (d:Int) (n:Int)=>(((l.length:Int) - n).toNat<v∧A0r l (Y8 l fu1) v o d n=R∧bR 1 o.length g∧d=at_∧0≤d∧d<(l.length:Int)∧d≤n∧n≤(l.length:Int)∧n≤d+16∧(o.length:Int)≤100010000 * d,[(0,.slice lq l.length lk),(2,.slice (va g.q) o.length g.k),(7,.map (some u)),(8,iv d),(9,iv n)],((u,.map (B6 e 0).toArray e.length)::((vo cG 5 g o)++([]))),[C5m Tryz.prog e tC,sl A1 lq l,P6,P7,O0,M9,K6,P4],v)) ((((l.length:Int) - at_).toNat+1),b,br,at_,at_) ⟨(Nat.lt_succ_self _),hR,t,opx,opx⟩ bQ A9.refl ?_
  rintro ⟨v,o,g,d,n⟩ ⟨aq,hR,h,hn,b9⟩
  have:=bR.le h
  obtain ⟨fu3,rfl⟩:∃ m,v=m+1:=⟨v - 1,by omega⟩
  replace hR:=(A0r.eq_2 ..).symm.trans hR
  refine A5 (B2 (A5 (bN rfl (bO 5 39 rfl ?_))))
  refine zid 5 8 39 44 (decide (n<(d+16))) (fun aj ar=>?_) ?_
  ·refine cJ 2 40 41 rfl (ix rfl (B4 rfl rfl rfl rfl opx) (bO 2 44 rfl ?_))
   exact A3 (O6 5 39 44 aj A9.refl bQ rfl rfl rfl rfl rfl)
  refine bO 1 45 rfl ?_
  refine zia 7 0 45 52 (decide ((l.getD ((n).toNat) Act.zero).kind=39)) (fun a8=>?_) ?_
  ·have ao:=bU a8
   refine cJ 2 46 47 rfl (L9 1 rfl opx fun ax a1=>(ix rfl (H9 A2p rfl rfl a1 rfl ((n).toNat) opx opx) (bO 1 49 rfl (ix rfl (F2 cA rfl rfl (A2w (K2 (c:=A1) (sz:=6) a1 (fun _=>rfl) 1 rfl (gd Act.zero opx)) (ws:=[iv ((l.getD ((n).toNat) Act.zero).kind)]) 1 rfl) rfl) (bO 2 52 rfl ?_)))))
   exact A3 (O6 7 45 52 a8 A9.refl bQ rfl rfl rfl rfl rfl)
  refine ie ?_
  refine zjb rfl hR ?_ ?_<;>clear hR<;>intro hR ad
  ·have aa:=bU ad
   refine G6 (nx (A0 3 rfl (bO 1 33 rfl ?_)))
   refine ix rfl (B4 rfl rfl rfl rfl opx) (bO 1 9 rfl (A3 ?_))
   exact A0d (z1:=(fu3+1,o,g,d,n)) (fu3,o,g,d,n+1) ⟨opx,hR,h,opx,opx⟩ (Nat.lt_succ_self _) bQ A9.refl
  have aa:=bU ad
  refine A4 (nx (A5 (bN rfl (bO 3 55 rfl (ie ?_)))))
  refine zjd rfl hR ?_ ?_<;>clear hR<;>intro hR az av
  ·refine G6 (nx ?_)
   refine sh' 15 [(15,[(u,.map (B6 e 0).toArray e.length)]),(13,vo cG 5 g o)] [C5m Tryz.prog e tC,sl A1 lq l,P6,P7,O0,M9,K6,P4] ((u,.map (B6 e 0).toArray e.length)::((vo cG 5 g o)++([]))) (bV 15 0) oki rfl oki oki oki bQ A9.refl ?_
   refine zhp [0,1,2,3,8,9] 9 (bV 15 783) [(65,.slice (va g.q) o.length g.k),(66,.map (some u)),(67,.slice lq l.length lk),(68,iv d),(73,.slice lq l.length lk),(74,iv d)] ?_
   refine C8i 1 rfl opx fun am j=>?_
   refine zhk 4 (bV 15 799) rfl (H9 A2p rfl rfl j rfl ((d).toNat) opx opx) ?_
   refine zhp [5] 7 (bV 15 831) [(70,pa (Addr.add am (((d).toNat) * 6)))] ?_
   refine zhk 6 (bV 15 895) rfl (F2 cA rfl rfl (A2w (K2 (c:=A1) (sz:=6) j (fun _=>rfl) 1 rfl (gd Act.zero opx)) (ws:=[iv ((l.getD ((d).toNat) Act.zero).kind)]) 1 rfl) rfl) (zhl 7 [(u,.map (B6 e 0).toArray e.length)] (bV 15 1023) rfl (by exact A3g (z:=.nilFunc) e N5 rfl rfl rfl 0 rfl (by rw [List.toList_toArray]) oki) ?_)
   refine zhk 10 (bV 15 2047) rfl (H9 A2p rfl rfl j rfl ((d).toNat) opx opx) (zhk 11 (bV 15 4095) rfl (K5 (us:=A1 (l.getD ((d).toNat) Act.zero)) B7m rfl rfl (K2 (c:=A1) (sz:=6) j (fun _=>rfl) 1 rfl (gd Act.zero opx)) rfl) ?_)
   have a3:=E0p (a5 ((d).toNat) opx) (D1e w ozw ((d).toNat))
   refine zho 12 ((u,.map (B6 e 0).toArray e.length)::((vo cG 5 g o)++([]))) (bV 15 8191) rfl (Det.tri (by exact E4d (C:=tC) (B8 0 rfl) (by rw [C6b,ab];exact E4b ⟨a3.2.1,a3.2.2.1⟩) ⟨(l.getD ((d).toNat) Act.zero),⟨rfl,by exact a3⟩,rfl,rfl⟩ rfl rfl rfl rfl)) (fun _=>bQ) (fun _=>A9.refl) fun _=>?_
   have:=D2z _ a3.1
   refine zho 13 [(u,.map (B6 e 0).toArray e.length)] (bV 15 16383) rfl (B9m (r:=g) (xs:=o) (s:=(A7r (l.getD ((d).toNat) Act.zero))) (pre:=[(u,.map (B6 e 0).toArray e.length)]) (post:=[]) C5q oki Tryz.underlying9 rfl rfl rfl rfl rfl rfl rfl h ofv) (fun ⟨y,p⟩=>bQ) (fun ⟨y,p⟩=>A9.refl) fun ⟨y,p⟩=>?_
   have:=@List.length_append _ o (A7r (l.getD ((d).toNat) Act.zero))
   have:=bR.le p
   have:=bR.cap p
   refine zhp [14] 0 (bV 15 32767) [(2,.slice (va y.q) ((o++(A7r (l.getD ((d).toNat) Act.zero))).length) y.k)] ?_
   refine A2a oki ?_
   refine nx (A0 3 rfl (bO 1 30 rfl (ix rfl (B4 rfl rfl rfl rfl opx) (bO 1 8 rfl (A3 ?_)))))
   exact A0d (z1:=(fu1+1,b,br,at_)) (fu1,o++(A7r (l.getD ((d).toNat) Act.zero)),y,d+1) ⟨opx,hR,p,opx,odi⟩ (Nat.lt_succ_self _) bQ A9.refl
  refine A4 (nx (bN rfl (pp4 4 56 57 58 59 rfl (D7 (E0x (c:=A1) (sz:=6) (xs:=l) (B8 1 rfl) ((d).toNat) ((n).toNat) lk (fun _=>rfl) rfl opx opx) ?_))))
  refine ix rfl (A9y (n':=((l.drop ((d).toNat)).take (((n).toNat) - ((d).toNat))).length) A2p rfl rfl ((d).toNat) ((n).toNat) lk (A0i rfl opx) (A0i rfl opx) A1n opx opx opx ofx rfl) ?_
  have:=@List.length_drop _ ((d).toNat) l
  have:=@List.length_take _ (((n).toNat) - ((d).toNat)) (l.drop ((d).toNat))
  have hQ:=C9 hR;clear hR;obtain ⟨y0,a9,hR⟩:=hQ
  refine zv rfl (C7i a9) ?_
  have:=A9v ((l.drop ((d).toNat)).take (((n).toNat) - ((d).toNat)));try rw [a9] at this
  refine it rfl (B9m (r:=g) (xs:=o) (s:=y0) (pre:=[(u,.map (B6 e 0).toArray e.length)]) (post:=[]) C5q oki Tryz.underlying9 rfl rfl rfl rfl rfl rfl rfl h ofv) fun ⟨ah,a0⟩=>?_
  have:=@List.length_append _ o y0
  have:=bR.le a0
  have:=bR.cap a0
  refine bO 1 2 rfl (ie (bN rfl (bO 1 63 rfl (ix rfl (Q6 rfl rfl rfl rfl opx) (bO 1 8 rfl (ie (G6 (nx (A0 3 rfl (bO 1 30 rfl (ix rfl (B4 rfl rfl rfl rfl opx) (bO 1 8 rfl ?_))))))))))))
  refine A3 ?_
  exact A0d (z1:=(fu1+1,b,br,at_)) (fu1,o++y0,ah,(n - 1)+1) ⟨opx,hR,a0,opx,odi⟩ (Nat.lt_succ_self _) bQ c9
 refine G6 (nx (bN rfl (cJ 3 2 3 rfl ?_)))
 subst hR
 refine ie (A8 ?_)
 exact cD hr hD (Q9 rfl (B0 rfl) (B0 rfl)) ⟨br,t⟩ bQ bT
end Go.Proofs.YtfcdnnheppnbaaaGreatDoor
