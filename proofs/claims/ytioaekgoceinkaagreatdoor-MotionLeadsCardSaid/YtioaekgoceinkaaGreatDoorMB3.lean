import Derived.Test.YtioaekgoceinkaaGreatDoorProg
import Derived.Test.YtioaekgoceinkaaGreatDoorMA2
import Derived.Test.YtioaekgoceinkaaGreatDoorMB1
import Derived.Test.YtioaekgoceinkaaGreatDoorMA3
import Derived.Test.YtioaekgoceinkaaGreatDoorMB2
set_option linter.unusedVariables false
set_option linter.unusedSimpArgs false
set_option linter.unnecessarySimpa false
set_option maxRecDepth 100000
namespace Go.Proofs.YtioaekgoceinkaaGreatDoor
open Go Go.Fen
theorem K3:MapTy Tryz.prog 109 3 107 (.int .i64):=⟨by kernel_rfl,by kernel_rfl,rfl⟩
theorem D6m:SlTy Tryz.prog 146 144 2:=⟨by kernel_rfl,by kernel_rfl⟩
theorem C0d:Ty Tryz.prog 107 2 true:=⟨by kernel_rfl⟩
theorem D3o:Ty Tryz.prog 144 2 true:=⟨by kernel_rfl⟩
theorem A8k:Zero Tryz.prog 107 [.nilFunc,.nilFunc]:=⟨by kernel_rfl⟩
def A7a (cp:Int):List Spn→Nat→Bool
 | [],t9=>false
 | hd_l0::tl_l0,t9=>(bif ((decide (hd_l0.lo≤cp))&&(decide (cp≤hd_l0.hi))) then true else A7a cp tl_l0 (t9+1))
def A7h (cp:Int) (l:List Spn):Bool :=
 A7a cp l 0
theorem B8c {cp:Int} {l:List Spn} {lq:Option Addr} {lk:Nat} {R:Bool} (hR:A7h cp l=R) (j:l.length≤9223372036854775807:=by exact om_) (i:l.length≤lk:=by exact om_):G3 Tryz.prog 117 [iv cp,.slice lq l.length lk] [sl B7 lq l] (bv R):=by
 refine zce Tryz.func117 fun X hX hr hD=>?_
 replace hR:=(A7h.eq_1 ..).symm.trans hR
 refine sR_ rfl (pp0 1 rfl (ie (A5 (sR_ rfl (pp3 3 7 8 9 rfl (ie (B4 (A5o (fun (a:Nat)=>(a≤l.length∧A7a cp (l.drop a) a=R,[(0,iv cp),(7,.slice lq l.length lk),(8,iv (l.length:Int)),(9,iv (a:Int))],[],[sl B7 lq l],l.length - a)) 0 ⟨opx,hR⟩ sb_ B0.refl ?_))))))))
 rintro a ⟨k,hR⟩
 refine sR_ rfl (pp1 1 10 rfl ?_)
 refine ie (A5 (W8 rfl (fun f=>?_) (fun f=>?_)))
 ·have b:=bq_ f
  rw [A0r Spn.zero (show a<l.length by omega)] at hR;replace hR:=(A7a.eq_2 ..).symm.trans hR
  refine A6 (nx (A5 (B4 (sR_ rfl (P3 0 rfl opx fun o d=>(ix rfl (K2 D6m rfl rfl d rfl a rfl opx) (ix rfl (L8 (us:=B7 (l.getD a Spn.zero)) D3o rfl rfl (N0 (c:=B7) (sz:=2) d (fun _=>rfl) 0 rfl (gd Spn.zero opx)) rfl) ?_)))))))
  refine H9 2 0 [0] (fun e=>[(6,pt e 0)]) (fun e=>[bx e (B7 (l.getD a Spn.zero)) 144]) (fun e=>?_)
  refine ie (sR_ rfl (pl1 5 [0] 17 rfl ?_))
  refine zid 5 0 17 22 (decide (cp≤(l.getD a Spn.zero).hi)) (fun h g=>?_) ?_
  ·refine pl1 5 [0] 22 rfl ?_
   exact zai 2 17 22 h
  refine ie ?_
  refine zja rfl hR ?_ ?_<;>clear hR<;>intro hR n m
  ·refine sR_ rfl (pp1 1 4 rfl ?_)
   subst hR
   refine ie (A8 ?_)
   exact E9 hr hD
  refine A6 (nx (A1 2 rfl (ix rfl (C0 rfl rfl rfl rfl opx) (pp1 1 9 rfl (A3 ?_)))))
  exact A1r (z1:=a) (a+1) ⟨opx,hR⟩ olr sb_ B0.refl
 have b:=bq_ f
 rw [A1i b] at hR;replace hR:=(A7a.eq_1 ..).symm.trans hR
 refine H3 (nx (sR_ rfl (pp1 1 4 rfl ?_)))
 subst hR
 refine ie (A8 ?_)
 exact E9 hr hD
def W5 (cp:Int):Int :=
 (bif ((!(B2c cp))||(A7h cp ([(⟨0,31⟩:Spn),(⟨127,159⟩:Spn)]:List Spn))) then (-1) else (bif (decide (cp<(D2q.getD 0 Spn.zero).lo)) then 1 else (bif (A7h cp D2q) then 0 else (bif (A7h cp E0a) then 2 else 1))))
theorem A4o {cp R:Int} (hR:W5 cp=R):G3 Tryz.prog 34 [iv cp] [A4n,A4q] (iv R):=by
 refine zce Tryz.func34 fun X hX hr hD=>?_
 replace hR:=(W5.eq_1 ..).symm.trans hR
 refine sR_ rfl (pp0 1 rfl (ie (A5 (B4 (sR_ rfl (pp1 1 4 rfl (zv rfl (C1q rfl) (pp1 2 7 rfl ?_))))))))
 refine zio 6 1 7 13 (A7h cp ([(⟨0,31⟩:Spn),(⟨127,159⟩:Spn)]:List Spn)) (fun e=>?_) ?_
 ·refine zrl 3 3 [] [(8,iv cp),(9,ag (B7 (⟨0,31⟩:Spn))),(10,ag (B7 (⟨127,159⟩:Spn)))] (it rfl (C3 (c:=B7) (xs:=([(⟨0,31⟩:Spn),(⟨127,159⟩:Spn)]:List Spn)) D6m rfl rfl rfl okl) fun f=>?_)
  have:([(⟨0,31⟩:Spn),(⟨127,159⟩:Spn)]:List Spn).length=2:=rfl
  refine zv rfl (B8c (cp:=cp) (l:=([(⟨0,31⟩:Spn),(⟨127,159⟩:Spn)]:List Spn)) (lq:=(some ⟨f,0,none⟩)) (lk:=2) rfl) (ip' 1 0 [(13,bv (A7h cp ([(⟨0,31⟩:Spn),(⟨127,159⟩:Spn)]:List Spn)))] ?_)
  exact A3 (P7 7 7 13 e fo_ sb_ rfl rfl rfl rfl rfl)
 refine ip' 1 0 [(3,bv ((!(B2c cp))||(A7h cp ([(⟨0,31⟩:Spn),(⟨127,159⟩:Spn)]:List Spn))))] (ie ?_)
 refine zjb rfl hR ?_ ?_<;>clear hR<;>intro hR b
 ·have a:=bq_ b
  refine sR_ rfl (pp1 1 2 rfl ?_)
  subst hR
  refine ie (A8 ?_)
  exact E9 hr hD
 have a:=bq_ b
 refine sR_ rfl (ip' 1 5 [(15,iv cp)] (ix rfl (B8a Tryz.underlying145 D3o rfl rfl rfl 0 rfl (by first|decide|omega)) (ip' 1 3 [(17,pa (Addr.add ⟨0,0,none⟩ (0 * 2)))] (ix rfl (D6 ty3 rfl rfl (S3 (N0 (c:=B7) (sz:=2) rfl (fun _=>rfl) 0 rfl (gd Spn.zero (by first|decide|(simp only [D2q,List.length_cons,List.length_nil];omega)))) (ws:=[iv ((D2q.getD 0 Spn.zero).lo)]) 1 rfl) rfl) (pp1 2 14 rfl (ie ?_))))))
 refine zjd rfl hR ?_ ?_<;>clear hR<;>intro hR h d
 ·refine sR_ rfl (pp1 1 2 rfl ?_)
  subst hR
  refine ie (A8 ?_)
  exact E9 hr hD
 refine sR_ rfl (pp1 1 21 rfl (ix rfl (C5g Tryz.underlying145 D3o rfl rfl) (zv rfl (B8c (cp:=cp) (l:=D2q) (lq:=(some ⟨0,0,none⟩)) (lk:=11) rfl) (pp1 1 20 rfl (ie ?_)))))
 refine zjb rfl hR ?_ ?_<;>clear hR<;>intro hR i
 ·refine sR_ rfl (pp1 1 2 rfl ?_)
  subst hR
  refine ie (A8 ?_)
  exact E9 hr hD
 refine sR_ rfl (pp1 1 25 rfl (ix rfl (C5g Tryz.underlying147 D3o rfl rfl) (zv rfl (B8c (cp:=cp) (l:=E0a) (lq:=(some ⟨1,0,none⟩)) (lk:=13) rfl) (pp1 1 24 rfl (ie ?_)))))
 refine zjb rfl hR ?_ ?_<;>clear hR<;>intro hR g
 ·refine sR_ rfl (pp1 1 2 rfl ?_)
  subst hR
  refine ie (A8 ?_)
  exact E9 hr hD
 refine A6 (nx (sR_ rfl (pp1 1 2 rfl ?_)))
 subst hR
 refine ie (A8 ?_)
 exact E9 hr hD
def B1x (kind:Int) (n:Int) (m:Int):Act :=
 {Act.zero with kind:=kind,n:=n,m:=m}
theorem C9x {kind n m:Int} {R:Act} (hR:B1x kind n m=R):G3 Tryz.prog 35 [iv kind,iv n,iv m] [] (ag (A2 R)):=by
 refine zce Tryz.func35 fun X hX hr hD=>?_
 replace hR:=(B1x.eq_1 ..).symm.trans hR
 refine sR_ rfl (H9 1 0 [] (fun a=>[(6,pt a 0)]) (fun a=>[bx a (A2 Act.zero) 56]) (fun a=>(ie (sR_ rfl (zrg 5 0 [0] [] [bx a (A2 ({Act.zero with kind:=kind,n:=n,m:=m})) 56] ?_)))))
 subst hR
 refine ie (A8 ?_)
 exact zer hr hD (O3 rfl (D4 (us:=A2 ({Act.zero with kind:=kind,n:=n,m:=m})) B5a rfl 0 rfl rfl rfl)) () sb_ fn0
def B7a:Unit :=
 ()
theorem C3d {R:Unit} (hR:B7a=R):G3 Tryz.prog 123 [] [] (.tuple #[.func (.func 124) #[ag (B7 (⟨0,0⟩:Spn))] #[],.func (.func 124) #[ag (B7 (⟨0,1⟩:Spn))] #[],.func (.func 124) #[ag (B7 (⟨1,9999⟩:Spn))] #[],.func (.func 124) #[ag (B7 (⟨0,9999⟩:Spn))] #[]]):=by
 refine zce Tryz.func123 fun X hX hr hD=>?_
 replace hR:=(B7a.eq_1 ..).symm.trans hR
 refine sR_ rfl (pp0 4 rfl (ie (sR_ rfl (zrl 12 0 [] [(0,.func (.func 124) #[ag (B7 (⟨0,0⟩:Spn))] #[]),(1,.func (.func 124) #[ag (B7 (⟨0,1⟩:Spn))] #[]),(2,.func (.func 124) #[ag (B7 (⟨1,9999⟩:Spn))] #[]),(3,.func (.func 124) #[ag (B7 (⟨0,9999⟩:Spn))] #[])] ?_))))
 subst hR
 refine ie (A8 ?_)
 exact zer hr hD (E4h rfl (B9 rfl) (B9 rfl) (B9 rfl) (B9 rfl)) () sb_ fn0
def me0:Value:=ag [.func (.func 124) #[ag (B7 (⟨0,3⟩:Spn))] #[],.func (.func 124) #[ag (B7 (⟨0,1⟩:Spn))] #[]]
def mt0:List (Int×Value):=[(17,me0)]
def me1:Value:=ag [.func (.func 124) #[ag (B7 (⟨2,3⟩:Spn))] #[],.func (.func 124) #[ag (B7 (⟨0,0⟩:Spn))] #[]]
def mt1:List (Int×Value):=[(17,me0),(18,me1)]
def me2:Value:=ag [.func (.func 124) #[ag (B7 (⟨1,9999⟩:Spn))] #[],.func (.func 124) #[ag (B7 (⟨1,9999⟩:Spn))] #[]]
def mt2:List (Int×Value):=[(17,me0),(18,me1),(19,me2)]
def me3:Value:=ag [.func (.func 124) #[ag (B7 (⟨0,3⟩:Spn))] #[],.func (.func 124) #[ag (B7 (⟨1,9999⟩:Spn))] #[]]
def mt3:List (Int×Value):=[(17,me0),(18,me1),(19,me2),(20,me3)]
def me4:Value:=ag [.func (.func 124) #[ag (B7 (⟨0,3⟩:Spn))] #[],.func (.func 124) #[ag (B7 (⟨0,0⟩:Spn))] #[]]
def mt4:List (Int×Value):=[(17,me0),(18,me1),(19,me2),(20,me3),(26,me4)]
def me5:Value:=ag [.func (.func 124) #[ag (B7 (⟨0,2⟩:Spn))] #[],.func (.func 124) #[ag (B7 (⟨0,0⟩:Spn))] #[]]
def mt5:List (Int×Value):=[(17,me0),(18,me1),(19,me2),(20,me3),(26,me4),(27,me5)]
def me6:Value:=ag [.func (.func 125) #[] #[],.func (.func 124) #[ag (B7 (⟨0,0⟩:Spn))] #[]]
def mt6:List (Int×Value):=[(17,me0),(18,me1),(19,me2),(20,me3),(26,me4),(27,me5),(35,me6)]
def me7:Value:=ag [.func (.func 124) #[ag (B7 (⟨0,9999⟩:Spn))] #[],.func (.func 124) #[ag (B7 (⟨0,9999⟩:Spn))] #[]]
def mt7:List (Int×Value):=[(17,me0),(18,me1),(19,me2),(20,me3),(26,me4),(27,me5),(35,me6),(38,me7)]
def me8:Value:=ag [.func (.func 124) #[ag (B7 (⟨0,6⟩:Spn))] #[],.func (.func 124) #[ag (B7 (⟨0,0⟩:Spn))] #[]]
def mt8:List (Int×Value):=[(17,me0),(18,me1),(19,me2),(20,me3),(26,me4),(27,me5),(35,me6),(38,me7),(40,me8)]
def me9:Value:=ag [.func (.func 124) #[ag (B7 (⟨5,6⟩:Spn))] #[],.func (.func 124) #[ag (B7 (⟨0,0⟩:Spn))] #[]]
def mt9:List (Int×Value):=[(17,me0),(18,me1),(19,me2),(20,me3),(26,me4),(27,me5),(35,me6),(38,me7),(40,me8),(41,me9)]
def A4p:Value:=ag [.func (.func 124) #[ag (B7 (⟨0,0⟩:Spn))] #[],.func (.func 124) #[ag (B7 (⟨0,0⟩:Spn))] #[]]
def E2a:List (Int×Value):=[(17,me0),(18,me1),(19,me2),(20,me3),(26,me4),(27,me5),(35,me6),(38,me7),(40,me8),(41,me9),(2,A4p)]
def A5g:Value:=ag [.func (.func 124) #[ag (B7 (⟨0,0⟩:Spn))] #[],.func (.func 124) #[ag (B7 (⟨0,0⟩:Spn))] #[]]
def E1z:List (Int×Value):=[(17,me0),(18,me1),(19,me2),(20,me3),(26,me4),(27,me5),(35,me6),(38,me7),(40,me8),(41,me9),(2,A4p),(3,A5g)]
def A5n:Value:=ag [.func (.func 124) #[ag (B7 (⟨0,0⟩:Spn))] #[],.func (.func 124) #[ag (B7 (⟨0,0⟩:Spn))] #[]]
def E0q:List (Int×Value):=[(17,me0),(18,me1),(19,me2),(20,me3),(26,me4),(27,me5),(35,me6),(38,me7),(40,me8),(41,me9),(2,A4p),(3,A5g),(4,A5n)]
def A6c:Value:=ag [.func (.func 124) #[ag (B7 (⟨0,0⟩:Spn))] #[],.func (.func 124) #[ag (B7 (⟨0,0⟩:Spn))] #[]]
def E1m:List (Int×Value):=[(17,me0),(18,me1),(19,me2),(20,me3),(26,me4),(27,me5),(35,me6),(38,me7),(40,me8),(41,me9),(2,A4p),(3,A5g),(4,A5n),(5,A6c)]
def A6l:Value:=ag [.func (.func 124) #[ag (B7 (⟨0,0⟩:Spn))] #[],.func (.func 124) #[ag (B7 (⟨0,0⟩:Spn))] #[]]
def E1q:List (Int×Value):=[(17,me0),(18,me1),(19,me2),(20,me3),(26,me4),(27,me5),(35,me6),(38,me7),(40,me8),(41,me9),(2,A4p),(3,A5g),(4,A5n),(5,A6c),(6,A6l)]
def A7g:Value:=ag [.func (.func 124) #[ag (B7 (⟨0,0⟩:Spn))] #[],.func (.func 124) #[ag (B7 (⟨0,0⟩:Spn))] #[]]
def E1b:List (Int×Value):=[(17,me0),(18,me1),(19,me2),(20,me3),(26,me4),(27,me5),(35,me6),(38,me7),(40,me8),(41,me9),(2,A4p),(3,A5g),(4,A5n),(5,A6c),(6,A6l),(8,A7g)]
def A7x:Value:=ag [.func (.func 124) #[ag (B7 (⟨0,0⟩:Spn))] #[],.func (.func 124) #[ag (B7 (⟨0,0⟩:Spn))] #[]]
def E2f:List (Int×Value):=[(17,me0),(18,me1),(19,me2),(20,me3),(26,me4),(27,me5),(35,me6),(38,me7),(40,me8),(41,me9),(2,A4p),(3,A5g),(4,A5n),(5,A6c),(6,A6l),(8,A7g),(9,A7x)]
def A9a:Value:=ag [.func (.func 124) #[ag (B7 (⟨0,0⟩:Spn))] #[],.func (.func 124) #[ag (B7 (⟨0,0⟩:Spn))] #[]]
def E1j:List (Int×Value):=[(17,me0),(18,me1),(19,me2),(20,me3),(26,me4),(27,me5),(35,me6),(38,me7),(40,me8),(41,me9),(2,A4p),(3,A5g),(4,A5n),(5,A6c),(6,A6l),(8,A7g),(9,A7x),(10,A9a)]
def A9o:Value:=ag [.func (.func 124) #[ag (B7 (⟨0,0⟩:Spn))] #[],.func (.func 124) #[ag (B7 (⟨0,0⟩:Spn))] #[]]
def E2g:List (Int×Value):=[(17,me0),(18,me1),(19,me2),(20,me3),(26,me4),(27,me5),(35,me6),(38,me7),(40,me8),(41,me9),(2,A4p),(3,A5g),(4,A5n),(5,A6c),(6,A6l),(8,A7g),(9,A7x),(10,A9a),(11,A9o)]
def B0j:Value:=ag [.func (.func 124) #[ag (B7 (⟨0,0⟩:Spn))] #[],.func (.func 124) #[ag (B7 (⟨0,0⟩:Spn))] #[]]
def E1x:List (Int×Value):=[(17,me0),(18,me1),(19,me2),(20,me3),(26,me4),(27,me5),(35,me6),(38,me7),(40,me8),(41,me9),(2,A4p),(3,A5g),(4,A5n),(5,A6c),(6,A6l),(8,A7g),(9,A7x),(10,A9a),(11,A9o),(12,B0j)]
def B1m:Value:=ag [.func (.func 124) #[ag (B7 (⟨0,0⟩:Spn))] #[],.func (.func 124) #[ag (B7 (⟨0,0⟩:Spn))] #[]]
def E1c:List (Int×Value):=[(17,me0),(18,me1),(19,me2),(20,me3),(26,me4),(27,me5),(35,me6),(38,me7),(40,me8),(41,me9),(2,A4p),(3,A5g),(4,A5n),(5,A6c),(6,A6l),(8,A7g),(9,A7x),(10,A9a),(11,A9o),(12,B0j),(13,B1m)]
def B2k:Value:=ag [.func (.func 124) #[ag (B7 (⟨0,0⟩:Spn))] #[],.func (.func 124) #[ag (B7 (⟨0,0⟩:Spn))] #[]]
def E1d:List (Int×Value):=[(17,me0),(18,me1),(19,me2),(20,me3),(26,me4),(27,me5),(35,me6),(38,me7),(40,me8),(41,me9),(2,A4p),(3,A5g),(4,A5n),(5,A6c),(6,A6l),(8,A7g),(9,A7x),(10,A9a),(11,A9o),(12,B0j),(13,B1m),(15,B2k)]
def B3l:Value:=ag [.func (.func 124) #[ag (B7 (⟨0,0⟩:Spn))] #[],.func (.func 124) #[ag (B7 (⟨0,0⟩:Spn))] #[]]
def E0t:List (Int×Value):=[(17,me0),(18,me1),(19,me2),(20,me3),(26,me4),(27,me5),(35,me6),(38,me7),(40,me8),(41,me9),(2,A4p),(3,A5g),(4,A5n),(5,A6c),(6,A6l),(8,A7g),(9,A7x),(10,A9a),(11,A9o),(12,B0j),(13,B1m),(15,B2k),(16,B3l)]
def B4h:Value:=ag [.func (.func 124) #[ag (B7 (⟨0,1⟩:Spn))] #[],.func (.func 124) #[ag (B7 (⟨0,0⟩:Spn))] #[]]
def E0y:List (Int×Value):=[(17,me0),(18,me1),(19,me2),(20,me3),(26,me4),(27,me5),(35,me6),(38,me7),(40,me8),(41,me9),(2,A4p),(3,A5g),(4,A5n),(5,A6c),(6,A6l),(8,A7g),(9,A7x),(10,A9a),(11,A9o),(12,B0j),(13,B1m),(15,B2k),(16,B3l),(7,B4h)]
def B4i:Value:=ag [.func (.func 124) #[ag (B7 (⟨0,1⟩:Spn))] #[],.func (.func 124) #[ag (B7 (⟨0,0⟩:Spn))] #[]]
def E1e:List (Int×Value):=[(17,me0),(18,me1),(19,me2),(20,me3),(26,me4),(27,me5),(35,me6),(38,me7),(40,me8),(41,me9),(2,A4p),(3,A5g),(4,A5n),(5,A6c),(6,A6l),(8,A7g),(9,A7x),(10,A9a),(11,A9o),(12,B0j),(13,B1m),(15,B2k),(16,B3l),(7,B4h),(14,B4i)]
def B6h:Value:=ag [.func (.func 124) #[ag (B7 (⟨0,1⟩:Spn))] #[],.func (.func 124) #[ag (B7 (⟨0,0⟩:Spn))] #[]]
def E2k:List (Int×Value):=[(17,me0),(18,me1),(19,me2),(20,me3),(26,me4),(27,me5),(35,me6),(38,me7),(40,me8),(41,me9),(2,A4p),(3,A5g),(4,A5n),(5,A6c),(6,A6l),(8,A7g),(9,A7x),(10,A9a),(11,A9o),(12,B0j),(13,B1m),(15,B2k),(16,B3l),(7,B4h),(14,B4i),(42,B6h)]
def B7x:Value:=ag [.func (.func 124) #[ag (B7 (⟨0,1⟩:Spn))] #[],.func (.func 124) #[ag (B7 (⟨1,9999⟩:Spn))] #[]]
def E1w:List (Int×Value):=[(17,me0),(18,me1),(19,me2),(20,me3),(26,me4),(27,me5),(35,me6),(38,me7),(40,me8),(41,me9),(2,A4p),(3,A5g),(4,A5n),(5,A6c),(6,A6l),(8,A7g),(9,A7x),(10,A9a),(11,A9o),(12,B0j),(13,B1m),(15,B2k),(16,B3l),(7,B4h),(14,B4i),(42,B6h),(21,B7x)]
def C0j:Value:=ag [.func (.func 124) #[ag (B7 (⟨0,1⟩:Spn))] #[],.func (.func 124) #[ag (B7 (⟨1,9999⟩:Spn))] #[]]
def E0u:List (Int×Value):=[(17,me0),(18,me1),(19,me2),(20,me3),(26,me4),(27,me5),(35,me6),(38,me7),(40,me8),(41,me9),(2,A4p),(3,A5g),(4,A5n),(5,A6c),(6,A6l),(8,A7g),(9,A7x),(10,A9a),(11,A9o),(12,B0j),(13,B1m),(15,B2k),(16,B3l),(7,B4h),(14,B4i),(42,B6h),(21,B7x),(33,C0j)]
def C1n:Value:=ag [.func (.func 124) #[ag (B7 (⟨1,9999⟩:Spn))] #[],.func (.func 124) #[ag (B7 (⟨0,0⟩:Spn))] #[]]
def E0x:List (Int×Value):=[(17,me0),(18,me1),(19,me2),(20,me3),(26,me4),(27,me5),(35,me6),(38,me7),(40,me8),(41,me9),(2,A4p),(3,A5g),(4,A5n),(5,A6c),(6,A6l),(8,A7g),(9,A7x),(10,A9a),(11,A9o),(12,B0j),(13,B1m),(15,B2k),(16,B3l),(7,B4h),(14,B4i),(42,B6h),(21,B7x),(33,C0j),(22,C1n)]
def C3b:Value:=ag [.func (.func 124) #[ag (B7 (⟨1,9999⟩:Spn))] #[],.func (.func 124) #[ag (B7 (⟨0,0⟩:Spn))] #[]]
def E1p:List (Int×Value):=[(17,me0),(18,me1),(19,me2),(20,me3),(26,me4),(27,me5),(35,me6),(38,me7),(40,me8),(41,me9),(2,A4p),(3,A5g),(4,A5n),(5,A6c),(6,A6l),(8,A7g),(9,A7x),(10,A9a),(11,A9o),(12,B0j),(13,B1m),(15,B2k),(16,B3l),(7,B4h),(14,B4i),(42,B6h),(21,B7x),(33,C0j),(22,C1n),(23,C3b)]
def C4a:Value:=ag [.func (.func 124) #[ag (B7 (⟨1,9999⟩:Spn))] #[],.func (.func 124) #[ag (B7 (⟨0,0⟩:Spn))] #[]]
def E0r:List (Int×Value):=[(17,me0),(18,me1),(19,me2),(20,me3),(26,me4),(27,me5),(35,me6),(38,me7),(40,me8),(41,me9),(2,A4p),(3,A5g),(4,A5n),(5,A6c),(6,A6l),(8,A7g),(9,A7x),(10,A9a),(11,A9o),(12,B0j),(13,B1m),(15,B2k),(16,B3l),(7,B4h),(14,B4i),(42,B6h),(21,B7x),(33,C0j),(22,C1n),(23,C3b),(24,C4a)]
def C6u:Value:=ag [.func (.func 124) #[ag (B7 (⟨1,9999⟩:Spn))] #[],.func (.func 124) #[ag (B7 (⟨0,0⟩:Spn))] #[]]
def E1h:List (Int×Value):=[(17,me0),(18,me1),(19,me2),(20,me3),(26,me4),(27,me5),(35,me6),(38,me7),(40,me8),(41,me9),(2,A4p),(3,A5g),(4,A5n),(5,A6c),(6,A6l),(8,A7g),(9,A7x),(10,A9a),(11,A9o),(12,B0j),(13,B1m),(15,B2k),(16,B3l),(7,B4h),(14,B4i),(42,B6h),(21,B7x),(33,C0j),(22,C1n),(23,C3b),(24,C4a),(25,C6u)]
def C8o:Value:=ag [.func (.func 124) #[ag (B7 (⟨1,9999⟩:Spn))] #[],.func (.func 124) #[ag (B7 (⟨0,0⟩:Spn))] #[]]
def E2q:List (Int×Value):=[(17,me0),(18,me1),(19,me2),(20,me3),(26,me4),(27,me5),(35,me6),(38,me7),(40,me8),(41,me9),(2,A4p),(3,A5g),(4,A5n),(5,A6c),(6,A6l),(8,A7g),(9,A7x),(10,A9a),(11,A9o),(12,B0j),(13,B1m),(15,B2k),(16,B3l),(7,B4h),(14,B4i),(42,B6h),(21,B7x),(33,C0j),(22,C1n),(23,C3b),(24,C4a),(25,C6u),(28,C8o)]
def C9z:Value:=ag [.func (.func 124) #[ag (B7 (⟨1,9999⟩:Spn))] #[],.func (.func 124) #[ag (B7 (⟨0,0⟩:Spn))] #[]]
def E2p:List (Int×Value):=[(17,me0),(18,me1),(19,me2),(20,me3),(26,me4),(27,me5),(35,me6),(38,me7),(40,me8),(41,me9),(2,A4p),(3,A5g),(4,A5n),(5,A6c),(6,A6l),(8,A7g),(9,A7x),(10,A9a),(11,A9o),(12,B0j),(13,B1m),(15,B2k),(16,B3l),(7,B4h),(14,B4i),(42,B6h),(21,B7x),(33,C0j),(22,C1n),(23,C3b),(24,C4a),(25,C6u),(28,C8o),(29,C9z)]
def D2x:Value:=ag [.func (.func 124) #[ag (B7 (⟨1,9999⟩:Spn))] #[],.func (.func 124) #[ag (B7 (⟨0,0⟩:Spn))] #[]]
def E0v:List (Int×Value):=[(17,me0),(18,me1),(19,me2),(20,me3),(26,me4),(27,me5),(35,me6),(38,me7),(40,me8),(41,me9),(2,A4p),(3,A5g),(4,A5n),(5,A6c),(6,A6l),(8,A7g),(9,A7x),(10,A9a),(11,A9o),(12,B0j),(13,B1m),(15,B2k),(16,B3l),(7,B4h),(14,B4i),(42,B6h),(21,B7x),(33,C0j),(22,C1n),(23,C3b),(24,C4a),(25,C6u),(28,C8o),(29,C9z),(30,D2x)]
def D5a:Value:=ag [.func (.func 124) #[ag (B7 (⟨1,9999⟩:Spn))] #[],.func (.func 124) #[ag (B7 (⟨0,0⟩:Spn))] #[]]
def E0s:List (Int×Value):=[(17,me0),(18,me1),(19,me2),(20,me3),(26,me4),(27,me5),(35,me6),(38,me7),(40,me8),(41,me9),(2,A4p),(3,A5g),(4,A5n),(5,A6c),(6,A6l),(8,A7g),(9,A7x),(10,A9a),(11,A9o),(12,B0j),(13,B1m),(15,B2k),(16,B3l),(7,B4h),(14,B4i),(42,B6h),(21,B7x),(33,C0j),(22,C1n),(23,C3b),(24,C4a),(25,C6u),(28,C8o),(29,C9z),(30,D2x),(31,D5a)]
def D7y:Value:=ag [.func (.func 124) #[ag (B7 (⟨1,9999⟩:Spn))] #[],.func (.func 124) #[ag (B7 (⟨0,0⟩:Spn))] #[]]
def E2c:List (Int×Value):=[(17,me0),(18,me1),(19,me2),(20,me3),(26,me4),(27,me5),(35,me6),(38,me7),(40,me8),(41,me9),(2,A4p),(3,A5g),(4,A5n),(5,A6c),(6,A6l),(8,A7g),(9,A7x),(10,A9a),(11,A9o),(12,B0j),(13,B1m),(15,B2k),(16,B3l),(7,B4h),(14,B4i),(42,B6h),(21,B7x),(33,C0j),(22,C1n),(23,C3b),(24,C4a),(25,C6u),(28,C8o),(29,C9z),(30,D2x),(31,D5a),(32,D7y)]
def E0b:Value:=ag [.func (.func 124) #[ag (B7 (⟨1,9999⟩:Spn))] #[],.func (.func 124) #[ag (B7 (⟨0,0⟩:Spn))] #[]]
def E0p:List (Int×Value):=[(17,me0),(18,me1),(19,me2),(20,me3),(26,me4),(27,me5),(35,me6),(38,me7),(40,me8),(41,me9),(2,A4p),(3,A5g),(4,A5n),(5,A6c),(6,A6l),(8,A7g),(9,A7x),(10,A9a),(11,A9o),(12,B0j),(13,B1m),(15,B2k),(16,B3l),(7,B4h),(14,B4i),(42,B6h),(21,B7x),(33,C0j),(22,C1n),(23,C3b),(24,C4a),(25,C6u),(28,C8o),(29,C9z),(30,D2x),(31,D5a),(32,D7y),(34,E0b)]
def E2b:Value:=ag [.func (.func 124) #[ag (B7 (⟨0,9999⟩:Spn))] #[],.func (.func 124) #[ag (B7 (⟨0,1⟩:Spn))] #[]]
def E1k:List (Int×Value):=[(17,me0),(18,me1),(19,me2),(20,me3),(26,me4),(27,me5),(35,me6),(38,me7),(40,me8),(41,me9),(2,A4p),(3,A5g),(4,A5n),(5,A6c),(6,A6l),(8,A7g),(9,A7x),(10,A9a),(11,A9o),(12,B0j),(13,B1m),(15,B2k),(16,B3l),(7,B4h),(14,B4i),(42,B6h),(21,B7x),(33,C0j),(22,C1n),(23,C3b),(24,C4a),(25,C6u),(28,C8o),(29,C9z),(30,D2x),(31,D5a),(32,D7y),(34,E0b),(36,E2b)]
def E4b:Value:=ag [.func (.func 124) #[ag (B7 (⟨0,9999⟩:Spn))] #[],.func (.func 124) #[ag (B7 (⟨0,1⟩:Spn))] #[]]
def E1y:List (Int×Value):=[(17,me0),(18,me1),(19,me2),(20,me3),(26,me4),(27,me5),(35,me6),(38,me7),(40,me8),(41,me9),(2,A4p),(3,A5g),(4,A5n),(5,A6c),(6,A6l),(8,A7g),(9,A7x),(10,A9a),(11,A9o),(12,B0j),(13,B1m),(15,B2k),(16,B3l),(7,B4h),(14,B4i),(42,B6h),(21,B7x),(33,C0j),(22,C1n),(23,C3b),(24,C4a),(25,C6u),(28,C8o),(29,C9z),(30,D2x),(31,D5a),(32,D7y),(34,E0b),(36,E2b),(37,E4b)]
def E4r:Value:=ag [.func (.func 124) #[ag (B7 (⟨0,9999⟩:Spn))] #[],.func (.func 124) #[ag (B7 (⟨0,1⟩:Spn))] #[]]
def C9c:List (Int×Value):=[(17,me0),(18,me1),(19,me2),(20,me3),(26,me4),(27,me5),(35,me6),(38,me7),(40,me8),(41,me9),(2,A4p),(3,A5g),(4,A5n),(5,A6c),(6,A6l),(8,A7g),(9,A7x),(10,A9a),(11,A9o),(12,B0j),(13,B1m),(15,B2k),(16,B3l),(7,B4h),(14,B4i),(42,B6h),(21,B7x),(33,C0j),(22,C1n),(23,C3b),(24,C4a),(25,C6u),(28,C8o),(29,C9z),(30,D2x),(31,D5a),(32,D7y),(34,E0b),(36,E2b),(37,E4b),(43,E4r)]
def B5m:Unit :=
 ()
set_option maxHeartbeats 2000000 in
theorem Z0 {R:Unit} (hR:B5m=R):Con Tryz.prog 38 [] [] [] (Nat) (fun x=>.map (some x)) (fun x=>[(x,.map (B3 C9c 0).toArray 41)]) (fun x=>[]):=by
 refine zce Tryz.func38 fun X hX hr hD=>?_
 replace hR:=(B5m.eq_1 ..).symm.trans hR
 refine sR_ rfl (pp0 1 rfl (ie (sR_ rfl (zv rfl (C3d rfl) (ip' 9 0 [(1,.func (.func 124) #[ag (B7 (⟨0,0⟩:Spn))] #[]),(2,.func (.func 124) #[ag (B7 (⟨0,1⟩:Spn))] #[]),(3,.func (.func 124) #[ag (B7 (⟨1,9999⟩:Spn))] #[]),(4,.func (.func 124) #[ag (B7 (⟨0,9999⟩:Spn))] #[])] (ie (sR_ rfl (it rfl (W7 rfl) fun a=>(zrl 4 44 [] [(26,ag [.func (.func 124) #[ag (B7 (⟨0,3⟩:Spn))] #[],.func (.func 124) #[ag (B7 (⟨0,1⟩:Spn))] #[]])] (it rfl (E7 (es:=#[]) (es':=(B3 mt0 0).toArray) K3 (.inl rfl) rfl rfl rfl 0 rfl okl okl) fun _=>?_))))))))))
 refine znl [(a,.map (B3 mt0 0).toArray 1)] (zrl 4 39 [] [(30,ag [.func (.func 124) #[ag (B7 (⟨2,3⟩:Spn))] #[],.func (.func 124) #[ag (B7 (⟨0,0⟩:Spn))] #[]])] (it rfl (E7 (es:=(B3 mt0 0).toArray) (es':=(B3 mt1 0).toArray) K3 (.inl rfl) rfl rfl rfl 0 rfl okl okl) fun _=>?_))
 refine znl [(a,.map (B3 mt1 0).toArray 2)] (zrl 3 35 [] [(33,ag [.func (.func 124) #[ag (B7 (⟨1,9999⟩:Spn))] #[],.func (.func 124) #[ag (B7 (⟨1,9999⟩:Spn))] #[]])] (it rfl (E7 (es:=(B3 mt1 0).toArray) (es':=(B3 mt2 0).toArray) K3 (.inl rfl) rfl rfl rfl 0 rfl okl okl) fun _=>?_))
 refine znl [(a,.map (B3 mt2 0).toArray 3)] (zrl 4 30 [] [(37,ag [.func (.func 124) #[ag (B7 (⟨0,3⟩:Spn))] #[],.func (.func 124) #[ag (B7 (⟨1,9999⟩:Spn))] #[]])] (it rfl (E7 (es:=(B3 mt2 0).toArray) (es':=(B3 mt3 0).toArray) K3 (.inl rfl) rfl rfl rfl 0 rfl okl okl) fun _=>?_))
 refine znl [(a,.map (B3 mt3 0).toArray 4)] (zrl 4 25 [] [(41,ag [.func (.func 124) #[ag (B7 (⟨0,3⟩:Spn))] #[],.func (.func 124) #[ag (B7 (⟨0,0⟩:Spn))] #[]])] (it rfl (E7 (es:=(B3 mt3 0).toArray) (es':=(B3 mt4 0).toArray) K3 (.inl rfl) rfl rfl rfl 0 rfl okl okl) fun _=>?_))
 refine znl [(a,.map (B3 mt4 0).toArray 5)] (zrl 4 20 [] [(45,ag [.func (.func 124) #[ag (B7 (⟨0,2⟩:Spn))] #[],.func (.func 124) #[ag (B7 (⟨0,0⟩:Spn))] #[]])] (it rfl (E7 (es:=(B3 mt4 0).toArray) (es':=(B3 mt5 0).toArray) K3 (.inl rfl) rfl rfl rfl 0 rfl okl okl) fun _=>?_))
 refine znl [(a,.map (B3 mt5 0).toArray 6)] (zrl 2 17 [] [(47,ag [.func (.func 125) #[] #[],.func (.func 124) #[ag (B7 (⟨0,0⟩:Spn))] #[]])] (it rfl (E7 (es:=(B3 mt5 0).toArray) (es':=(B3 mt6 0).toArray) K3 (.inl rfl) rfl rfl rfl 0 rfl okl okl) fun _=>?_))
 refine znl [(a,.map (B3 mt6 0).toArray 7)] (zrl 3 13 [] [(50,ag [.func (.func 124) #[ag (B7 (⟨0,9999⟩:Spn))] #[],.func (.func 124) #[ag (B7 (⟨0,9999⟩:Spn))] #[]])] (it rfl (E7 (es:=(B3 mt6 0).toArray) (es':=(B3 mt7 0).toArray) K3 (.inl rfl) rfl rfl rfl 0 rfl okl okl) fun _=>?_))
 refine znl [(a,.map (B3 mt7 0).toArray 8)] (zrl 4 8 [] [(54,ag [.func (.func 124) #[ag (B7 (⟨0,6⟩:Spn))] #[],.func (.func 124) #[ag (B7 (⟨0,0⟩:Spn))] #[]])] (it rfl (E7 (es:=(B3 mt7 0).toArray) (es':=(B3 mt8 0).toArray) K3 (.inl rfl) rfl rfl rfl 0 rfl okl okl) fun _=>?_))
 refine znl [(a,.map (B3 mt8 0).toArray 9)] (zrl 4 3 [] [(58,ag [.func (.func 124) #[ag (B7 (⟨5,6⟩:Spn))] #[],.func (.func 124) #[ag (B7 (⟨0,0⟩:Spn))] #[]])] (it rfl (E7 (es:=(B3 mt8 0).toArray) (es':=(B3 mt9 0).toArray) K3 (.inl rfl) rfl rfl rfl 0 rfl okl okl) fun _=>?_))
 refine znl [(a,.map (B3 mt9 0).toArray 10)] (pp1 2 5 rfl (ie (A5 (sR_ rfl (zrl 2 0 [] [(60,ag [iv 2,iv 3,iv 4,iv 5,iv 6,iv 8,iv 9,iv 10,iv 11,iv 12,iv 13,iv 15,iv 16]),(61,iv 0)] (ie (B4 (A0s 15 ?_))))))))
 refine F3 (sR_ rfl (pp1 1 62 rfl ?_))
 refine ie (A5 (G8 rfl (A6 (nx (A5 (B4 (sR_ rfl (ix rfl (F4 Tryz.underlying165 ty3 rfl rfl rfl 0 rfl ozw rfl rfl rfl) (pp1 1 7 rfl (ie (A1 6 rfl (zrl 5 1 [] [(64,.map (some a)),(65,iv 2),(68,ag [.func (.func 124) #[ag (B7 (⟨0,0⟩:Spn))] #[],.func (.func 124) #[ag (B7 (⟨0,0⟩:Spn))] #[]])] (it rfl (E7 (es:=(B3 mt9 0).toArray) (es':=(B3 E2a 0).toArray) K3 (.inr rfl) rfl rfl rfl 0 rfl okl okl) fun _=>?_)))))))))))))
 refine znl [(a,.map (B3 E2a 0).toArray 11)] (A3 (nx (A1 2 rfl (ix rfl (C0 (c:=1) rfl rfl rfl rfl ozw) (pp1 1 61 rfl (A3 (F3 (sR_ rfl (pp1 1 62 rfl (ie (A5 (G8 rfl (A6 (nx (A5 (B4 (sR_ rfl (ix rfl (F4 Tryz.underlying165 ty3 rfl rfl rfl 1 rfl ozw rfl rfl rfl) (pp1 1 7 rfl (ie (A1 6 rfl (zrl 5 1 [] [(64,.map (some a)),(65,iv 3),(68,ag [.func (.func 124) #[ag (B7 (⟨0,0⟩:Spn))] #[],.func (.func 124) #[ag (B7 (⟨0,0⟩:Spn))] #[]])] ?_))))))))))))))))))))))
 refine it rfl (E7 (es:=(B3 E2a 0).toArray) (es':=(B3 E1z 0).toArray) K3 (.inr rfl) rfl rfl rfl 0 rfl okl okl) fun _=>?_
 refine znl [(a,.map (B3 E1z 0).toArray 12)] (A3 (nx (A1 2 rfl (ix rfl (C0 (c:=2) rfl rfl rfl rfl ozw) (pp1 1 61 rfl (A3 (F3 (sR_ rfl (pp1 1 62 rfl (ie (A5 (G8 rfl (A6 (nx (A5 (B4 (sR_ rfl (ix rfl (F4 Tryz.underlying165 ty3 rfl rfl rfl 2 rfl ozw rfl rfl rfl) (pp1 1 7 rfl (ie (A1 6 rfl (zrl 5 1 [] [(64,.map (some a)),(65,iv 4),(68,ag [.func (.func 124) #[ag (B7 (⟨0,0⟩:Spn))] #[],.func (.func 124) #[ag (B7 (⟨0,0⟩:Spn))] #[]])] ?_))))))))))))))))))))))
 refine it rfl (E7 (es:=(B3 E1z 0).toArray) (es':=(B3 E0q 0).toArray) K3 (.inr rfl) rfl rfl rfl 0 rfl okl okl) fun _=>?_
 refine znl [(a,.map (B3 E0q 0).toArray 13)] (A3 (nx (A1 2 rfl (ix rfl (C0 (c:=3) rfl rfl rfl rfl ozw) (pp1 1 61 rfl (A3 (F3 (sR_ rfl (pp1 1 62 rfl (ie (A5 (G8 rfl (A6 (nx (A5 (B4 (sR_ rfl (ix rfl (F4 Tryz.underlying165 ty3 rfl rfl rfl 3 rfl ozw rfl rfl rfl) (pp1 1 7 rfl (ie (A1 6 rfl (zrl 5 1 [] [(64,.map (some a)),(65,iv 5),(68,ag [.func (.func 124) #[ag (B7 (⟨0,0⟩:Spn))] #[],.func (.func 124) #[ag (B7 (⟨0,0⟩:Spn))] #[]])] ?_))))))))))))))))))))))
 refine it rfl (E7 (es:=(B3 E0q 0).toArray) (es':=(B3 E1m 0).toArray) K3 (.inr rfl) rfl rfl rfl 0 rfl okl okl) fun _=>?_
 refine znl [(a,.map (B3 E1m 0).toArray 14)] (A3 (nx (A1 2 rfl (ix rfl (C0 (c:=4) rfl rfl rfl rfl ozw) (pp1 1 61 rfl (A3 (F3 (sR_ rfl (pp1 1 62 rfl (ie (A5 (G8 rfl (A6 (nx (A5 (B4 (sR_ rfl (ix rfl (F4 Tryz.underlying165 ty3 rfl rfl rfl 4 rfl ozw rfl rfl rfl) (pp1 1 7 rfl (ie (A1 6 rfl (zrl 5 1 [] [(64,.map (some a)),(65,iv 6),(68,ag [.func (.func 124) #[ag (B7 (⟨0,0⟩:Spn))] #[],.func (.func 124) #[ag (B7 (⟨0,0⟩:Spn))] #[]])] ?_))))))))))))))))))))))
 refine it rfl (E7 (es:=(B3 E1m 0).toArray) (es':=(B3 E1q 0).toArray) K3 (.inr rfl) rfl rfl rfl 0 rfl okl okl) fun _=>?_
 refine znl [(a,.map (B3 E1q 0).toArray 15)] (A3 (nx (A1 2 rfl (ix rfl (C0 (c:=5) rfl rfl rfl rfl ozw) (pp1 1 61 rfl (A3 (F3 (sR_ rfl (pp1 1 62 rfl (ie (A5 (G8 rfl (A6 (nx (A5 (B4 (sR_ rfl (ix rfl (F4 Tryz.underlying165 ty3 rfl rfl rfl 5 rfl ozw rfl rfl rfl) (pp1 1 7 rfl (ie (A1 6 rfl (zrl 5 1 [] [(64,.map (some a)),(65,iv 8),(68,ag [.func (.func 124) #[ag (B7 (⟨0,0⟩:Spn))] #[],.func (.func 124) #[ag (B7 (⟨0,0⟩:Spn))] #[]])] ?_))))))))))))))))))))))
 refine it rfl (E7 (es:=(B3 E1q 0).toArray) (es':=(B3 E1b 0).toArray) K3 (.inr rfl) rfl rfl rfl 0 rfl okl okl) fun _=>?_
 refine znl [(a,.map (B3 E1b 0).toArray 16)] (A3 (nx (A1 2 rfl (ix rfl (C0 (c:=6) rfl rfl rfl rfl ozw) (pp1 1 61 rfl (A3 (F3 (sR_ rfl (pp1 1 62 rfl (ie (A5 (G8 rfl (A6 (nx (A5 (B4 (sR_ rfl (ix rfl (F4 Tryz.underlying165 ty3 rfl rfl rfl 6 rfl ozw rfl rfl rfl) (pp1 1 7 rfl (ie (A1 6 rfl (zrl 5 1 [] [(64,.map (some a)),(65,iv 9),(68,ag [.func (.func 124) #[ag (B7 (⟨0,0⟩:Spn))] #[],.func (.func 124) #[ag (B7 (⟨0,0⟩:Spn))] #[]])] ?_))))))))))))))))))))))
 refine it rfl (E7 (es:=(B3 E1b 0).toArray) (es':=(B3 E2f 0).toArray) K3 (.inr rfl) rfl rfl rfl 0 rfl okl okl) fun _=>?_
 refine znl [(a,.map (B3 E2f 0).toArray 17)] (A3 (nx (A1 2 rfl (ix rfl (C0 (c:=7) rfl rfl rfl rfl ozw) (pp1 1 61 rfl (A3 (F3 (sR_ rfl (pp1 1 62 rfl (ie (A5 (G8 rfl (A6 (nx (A5 (B4 (sR_ rfl (ix rfl (F4 Tryz.underlying165 ty3 rfl rfl rfl 7 rfl ozw rfl rfl rfl) (pp1 1 7 rfl (ie (A1 6 rfl (zrl 5 1 [] [(64,.map (some a)),(65,iv 10),(68,ag [.func (.func 124) #[ag (B7 (⟨0,0⟩:Spn))] #[],.func (.func 124) #[ag (B7 (⟨0,0⟩:Spn))] #[]])] ?_))))))))))))))))))))))
 refine it rfl (E7 (es:=(B3 E2f 0).toArray) (es':=(B3 E1j 0).toArray) K3 (.inr rfl) rfl rfl rfl 0 rfl okl okl) fun _=>?_
 refine znl [(a,.map (B3 E1j 0).toArray 18)] (A3 (nx (A1 2 rfl (ix rfl (C0 (c:=8) rfl rfl rfl rfl ozw) (pp1 1 61 rfl (A3 (F3 (sR_ rfl (pp1 1 62 rfl (ie (A5 (G8 rfl (A6 (nx (A5 (B4 (sR_ rfl (ix rfl (F4 Tryz.underlying165 ty3 rfl rfl rfl 8 rfl ozw rfl rfl rfl) (pp1 1 7 rfl (ie (A1 6 rfl (zrl 5 1 [] [(64,.map (some a)),(65,iv 11),(68,ag [.func (.func 124) #[ag (B7 (⟨0,0⟩:Spn))] #[],.func (.func 124) #[ag (B7 (⟨0,0⟩:Spn))] #[]])] ?_))))))))))))))))))))))
 refine it rfl (E7 (es:=(B3 E1j 0).toArray) (es':=(B3 E2g 0).toArray) K3 (.inr rfl) rfl rfl rfl 0 rfl okl okl) fun _=>?_
 refine znl [(a,.map (B3 E2g 0).toArray 19)] (A3 (nx (A1 2 rfl (ix rfl (C0 (c:=9) rfl rfl rfl rfl ozw) (pp1 1 61 rfl (A3 (F3 (sR_ rfl (pp1 1 62 rfl (ie (A5 (G8 rfl (A6 (nx (A5 (B4 (sR_ rfl (ix rfl (F4 Tryz.underlying165 ty3 rfl rfl rfl 9 rfl ozw rfl rfl rfl) (pp1 1 7 rfl (ie (A1 6 rfl (zrl 5 1 [] [(64,.map (some a)),(65,iv 12),(68,ag [.func (.func 124) #[ag (B7 (⟨0,0⟩:Spn))] #[],.func (.func 124) #[ag (B7 (⟨0,0⟩:Spn))] #[]])] ?_))))))))))))))))))))))
 refine it rfl (E7 (es:=(B3 E2g 0).toArray) (es':=(B3 E1x 0).toArray) K3 (.inr rfl) rfl rfl rfl 0 rfl okl okl) fun _=>?_
 refine znl [(a,.map (B3 E1x 0).toArray 20)] (A3 (nx (A1 2 rfl (ix rfl (C0 (c:=10) rfl rfl rfl rfl ozw) (pp1 1 61 rfl (A3 (F3 (sR_ rfl (pp1 1 62 rfl (ie (A5 (G8 rfl (A6 (nx (A5 (B4 (sR_ rfl (ix rfl (F4 Tryz.underlying165 ty3 rfl rfl rfl 10 rfl ozw rfl rfl rfl) (pp1 1 7 rfl (ie (A1 6 rfl (zrl 5 1 [] [(64,.map (some a)),(65,iv 13),(68,ag [.func (.func 124) #[ag (B7 (⟨0,0⟩:Spn))] #[],.func (.func 124) #[ag (B7 (⟨0,0⟩:Spn))] #[]])] ?_))))))))))))))))))))))
 refine it rfl (E7 (es:=(B3 E1x 0).toArray) (es':=(B3 E1c 0).toArray) K3 (.inr rfl) rfl rfl rfl 0 rfl okl okl) fun _=>?_
 refine znl [(a,.map (B3 E1c 0).toArray 21)] (A3 (nx (A1 2 rfl (ix rfl (C0 (c:=11) rfl rfl rfl rfl ozw) (pp1 1 61 rfl (A3 (F3 (sR_ rfl (pp1 1 62 rfl (ie (A5 (G8 rfl (A6 (nx (A5 (B4 (sR_ rfl (ix rfl (F4 Tryz.underlying165 ty3 rfl rfl rfl 11 rfl ozw rfl rfl rfl) (pp1 1 7 rfl (ie (A1 6 rfl (zrl 5 1 [] [(64,.map (some a)),(65,iv 15),(68,ag [.func (.func 124) #[ag (B7 (⟨0,0⟩:Spn))] #[],.func (.func 124) #[ag (B7 (⟨0,0⟩:Spn))] #[]])] ?_))))))))))))))))))))))
 refine it rfl (E7 (es:=(B3 E1c 0).toArray) (es':=(B3 E1d 0).toArray) K3 (.inr rfl) rfl rfl rfl 0 rfl okl okl) fun _=>?_
 refine znl [(a,.map (B3 E1d 0).toArray 22)] (A3 (nx (A1 2 rfl (ix rfl (C0 (c:=12) rfl rfl rfl rfl ozw) (pp1 1 61 rfl (A3 (F3 (sR_ rfl (pp1 1 62 rfl (ie (A5 (G8 rfl (A6 (nx (A5 (B4 (sR_ rfl (ix rfl (F4 Tryz.underlying165 ty3 rfl rfl rfl 12 rfl ozw rfl rfl rfl) (pp1 1 7 rfl (ie (A1 6 rfl (zrl 5 1 [] [(64,.map (some a)),(65,iv 16),(68,ag [.func (.func 124) #[ag (B7 (⟨0,0⟩:Spn))] #[],.func (.func 124) #[ag (B7 (⟨0,0⟩:Spn))] #[]])] ?_))))))))))))))))))))))
 refine it rfl (E7 (es:=(B3 E1d 0).toArray) (es':=(B3 E0t 0).toArray) K3 (.inr rfl) rfl rfl rfl 0 rfl okl okl) fun _=>?_
 refine znl [(a,.map (B3 E0t 0).toArray 23)] (A3 (nx (A1 2 rfl (ix rfl (C0 (c:=13) rfl rfl rfl rfl ozw) (pp1 1 61 rfl (A3 (F3 (sR_ rfl (pp1 1 62 rfl (ie (A5 (A0f rfl (H3 (nx (A5 (sR_ rfl (zrl 2 0 [] [(70,ag (C4t (⟨7,14,42⟩:Ar3))),(71,iv 0)] (ie (B4 (A0s 5 ?_))))))))))))))))))))
 refine F3 (sR_ rfl (pp1 1 72 rfl ?_))
 refine ie (A5 (G8 rfl (A6 (nx (A5 (B4 (sR_ rfl (ix rfl (F4 Tryz.underlying166 ty3 rfl rfl rfl 0 rfl ozw rfl rfl rfl) (pp1 1 9 rfl (ie (A1 6 rfl (zrl 5 1 [] [(74,.map (some a)),(75,iv 7),(78,ag [.func (.func 124) #[ag (B7 (⟨0,1⟩:Spn))] #[],.func (.func 124) #[ag (B7 (⟨0,0⟩:Spn))] #[]])] (it rfl (E7 (es:=(B3 E0t 0).toArray) (es':=(B3 E0y 0).toArray) K3 (.inr rfl) rfl rfl rfl 0 rfl okl okl) fun _=>?_)))))))))))))
 refine znl [(a,.map (B3 E0y 0).toArray 24)] (A3 (nx (A1 2 rfl (ix rfl (C0 (c:=1) rfl rfl rfl rfl ozw) (pp1 1 71 rfl (A3 (F3 (sR_ rfl (pp1 1 72 rfl (ie (A5 (G8 rfl (A6 (nx (A5 (B4 (sR_ rfl (ix rfl (F4 Tryz.underlying166 ty3 rfl rfl rfl 1 rfl ozw rfl rfl rfl) (pp1 1 9 rfl (ie (A1 6 rfl (zrl 5 1 [] [(74,.map (some a)),(75,iv 14),(78,ag [.func (.func 124) #[ag (B7 (⟨0,1⟩:Spn))] #[],.func (.func 124) #[ag (B7 (⟨0,0⟩:Spn))] #[]])] ?_))))))))))))))))))))))
 refine it rfl (E7 (es:=(B3 E0y 0).toArray) (es':=(B3 E1e 0).toArray) K3 (.inr rfl) rfl rfl rfl 0 rfl okl okl) fun _=>?_
 refine znl [(a,.map (B3 E1e 0).toArray 25)] (A3 (nx (A1 2 rfl (ix rfl (C0 (c:=2) rfl rfl rfl rfl ozw) (pp1 1 71 rfl (A3 (F3 (sR_ rfl (pp1 1 72 rfl (ie (A5 (G8 rfl (A6 (nx (A5 (B4 (sR_ rfl (ix rfl (F4 Tryz.underlying166 ty3 rfl rfl rfl 2 rfl ozw rfl rfl rfl) (pp1 1 9 rfl (ie (A1 6 rfl (zrl 5 1 [] [(74,.map (some a)),(75,iv 42),(78,ag [.func (.func 124) #[ag (B7 (⟨0,1⟩:Spn))] #[],.func (.func 124) #[ag (B7 (⟨0,0⟩:Spn))] #[]])] ?_))))))))))))))))))))))
 refine it rfl (E7 (es:=(B3 E1e 0).toArray) (es':=(B3 E2k 0).toArray) K3 (.inr rfl) rfl rfl rfl 0 rfl okl okl) fun _=>?_
 refine znl [(a,.map (B3 E2k 0).toArray 26)] (A3 (nx (A1 2 rfl (ix rfl (C0 (c:=3) rfl rfl rfl rfl ozw) (pp1 1 71 rfl (A3 (F3 (sR_ rfl (pp1 1 72 rfl (ie (A5 (A0f rfl (H3 (nx (A5 (sR_ rfl (zrl 2 0 [] [(80,ag (C5u (⟨21,33⟩:Ar2))),(81,iv 0)] (ie (B4 (A0s 4 ?_))))))))))))))))))))
 refine F3 (sR_ rfl (pp1 1 82 rfl ?_))
 refine ie (A5 (G8 rfl (A6 (nx (A5 (B4 (sR_ rfl (ix rfl (F4 Tryz.underlying167 ty3 rfl rfl rfl 0 rfl ozw rfl rfl rfl) (pp1 1 11 rfl (ie (A1 6 rfl (zrl 5 1 [] [(84,.map (some a)),(85,iv 21),(88,ag [.func (.func 124) #[ag (B7 (⟨0,1⟩:Spn))] #[],.func (.func 124) #[ag (B7 (⟨1,9999⟩:Spn))] #[]])] (it rfl (E7 (es:=(B3 E2k 0).toArray) (es':=(B3 E1w 0).toArray) K3 (.inr rfl) rfl rfl rfl 0 rfl okl okl) fun _=>?_)))))))))))))
 refine znl [(a,.map (B3 E1w 0).toArray 27)] (A3 (nx (A1 2 rfl (ix rfl (C0 (c:=1) rfl rfl rfl rfl ozw) (pp1 1 81 rfl (A3 (F3 (sR_ rfl (pp1 1 82 rfl (ie (A5 (G8 rfl (A6 (nx (A5 (B4 (sR_ rfl (ix rfl (F4 Tryz.underlying167 ty3 rfl rfl rfl 1 rfl ozw rfl rfl rfl) (pp1 1 11 rfl (ie (A1 6 rfl (zrl 5 1 [] [(84,.map (some a)),(85,iv 33),(88,ag [.func (.func 124) #[ag (B7 (⟨0,1⟩:Spn))] #[],.func (.func 124) #[ag (B7 (⟨1,9999⟩:Spn))] #[]])] ?_))))))))))))))))))))))
 refine it rfl (E7 (es:=(B3 E1w 0).toArray) (es':=(B3 E0u 0).toArray) K3 (.inr rfl) rfl rfl rfl 0 rfl okl okl) fun _=>?_
 refine znl [(a,.map (B3 E0u 0).toArray 28)] (A3 (nx (A1 2 rfl (ix rfl (C0 (c:=2) rfl rfl rfl rfl ozw) (pp1 1 81 rfl (A3 (F3 (sR_ rfl (pp1 1 82 rfl (ie (A5 (A0f rfl (H3 (nx (A5 (sR_ rfl (zrl 2 0 [] [(90,ag [iv 22,iv 23,iv 24,iv 25,iv 28,iv 29,iv 30,iv 31,iv 32,iv 34]),(91,iv 0)] (ie (B4 (A0s 12 ?_))))))))))))))))))))
 refine F3 (sR_ rfl (pp1 1 92 rfl ?_))
 refine ie (A5 (G8 rfl (A6 (nx (A5 (B4 (sR_ rfl (ix rfl (F4 Tryz.underlying168 ty3 rfl rfl rfl 0 rfl ozw rfl rfl rfl) (pp1 1 13 rfl (ie (A1 6 rfl (zrl 5 1 [] [(94,.map (some a)),(95,iv 22),(98,ag [.func (.func 124) #[ag (B7 (⟨1,9999⟩:Spn))] #[],.func (.func 124) #[ag (B7 (⟨0,0⟩:Spn))] #[]])] (it rfl (E7 (es:=(B3 E0u 0).toArray) (es':=(B3 E0x 0).toArray) K3 (.inr rfl) rfl rfl rfl 0 rfl okl okl) fun _=>?_)))))))))))))
 refine znl [(a,.map (B3 E0x 0).toArray 29)] (A3 (nx (A1 2 rfl (ix rfl (C0 (c:=1) rfl rfl rfl rfl ozw) (pp1 1 91 rfl (A3 (F3 (sR_ rfl (pp1 1 92 rfl (ie (A5 (G8 rfl (A6 (nx (A5 (B4 (sR_ rfl (ix rfl (F4 Tryz.underlying168 ty3 rfl rfl rfl 1 rfl ozw rfl rfl rfl) (pp1 1 13 rfl (ie (A1 6 rfl (zrl 5 1 [] [(94,.map (some a)),(95,iv 23),(98,ag [.func (.func 124) #[ag (B7 (⟨1,9999⟩:Spn))] #[],.func (.func 124) #[ag (B7 (⟨0,0⟩:Spn))] #[]])] ?_))))))))))))))))))))))
 refine it rfl (E7 (es:=(B3 E0x 0).toArray) (es':=(B3 E1p 0).toArray) K3 (.inr rfl) rfl rfl rfl 0 rfl okl okl) fun _=>?_
 refine znl [(a,.map (B3 E1p 0).toArray 30)] (A3 (nx (A1 2 rfl (ix rfl (C0 (c:=2) rfl rfl rfl rfl ozw) (pp1 1 91 rfl (A3 (F3 (sR_ rfl (pp1 1 92 rfl (ie (A5 (G8 rfl (A6 (nx (A5 (B4 (sR_ rfl (ix rfl (F4 Tryz.underlying168 ty3 rfl rfl rfl 2 rfl ozw rfl rfl rfl) (pp1 1 13 rfl (ie (A1 6 rfl (zrl 5 1 [] [(94,.map (some a)),(95,iv 24),(98,ag [.func (.func 124) #[ag (B7 (⟨1,9999⟩:Spn))] #[],.func (.func 124) #[ag (B7 (⟨0,0⟩:Spn))] #[]])] ?_))))))))))))))))))))))
 refine it rfl (E7 (es:=(B3 E1p 0).toArray) (es':=(B3 E0r 0).toArray) K3 (.inr rfl) rfl rfl rfl 0 rfl okl okl) fun _=>?_
 refine znl [(a,.map (B3 E0r 0).toArray 31)] (A3 (nx (A1 2 rfl (ix rfl (C0 (c:=3) rfl rfl rfl rfl ozw) (pp1 1 91 rfl (A3 (F3 (sR_ rfl (pp1 1 92 rfl (ie (A5 (G8 rfl (A6 (nx (A5 (B4 (sR_ rfl (ix rfl (F4 Tryz.underlying168 ty3 rfl rfl rfl 3 rfl ozw rfl rfl rfl) (pp1 1 13 rfl (ie (A1 6 rfl (zrl 5 1 [] [(94,.map (some a)),(95,iv 25),(98,ag [.func (.func 124) #[ag (B7 (⟨1,9999⟩:Spn))] #[],.func (.func 124) #[ag (B7 (⟨0,0⟩:Spn))] #[]])] ?_))))))))))))))))))))))
 refine it rfl (E7 (es:=(B3 E0r 0).toArray) (es':=(B3 E1h 0).toArray) K3 (.inr rfl) rfl rfl rfl 0 rfl okl okl) fun _=>?_
 refine znl [(a,.map (B3 E1h 0).toArray 32)] (A3 (nx (A1 2 rfl (ix rfl (C0 (c:=4) rfl rfl rfl rfl ozw) (pp1 1 91 rfl (A3 (F3 (sR_ rfl (pp1 1 92 rfl (ie (A5 (G8 rfl (A6 (nx (A5 (B4 (sR_ rfl (ix rfl (F4 Tryz.underlying168 ty3 rfl rfl rfl 4 rfl ozw rfl rfl rfl) (pp1 1 13 rfl (ie (A1 6 rfl (zrl 5 1 [] [(94,.map (some a)),(95,iv 28),(98,ag [.func (.func 124) #[ag (B7 (⟨1,9999⟩:Spn))] #[],.func (.func 124) #[ag (B7 (⟨0,0⟩:Spn))] #[]])] ?_))))))))))))))))))))))
 refine it rfl (E7 (es:=(B3 E1h 0).toArray) (es':=(B3 E2q 0).toArray) K3 (.inr rfl) rfl rfl rfl 0 rfl okl okl) fun _=>?_
 refine znl [(a,.map (B3 E2q 0).toArray 33)] (A3 (nx (A1 2 rfl (ix rfl (C0 (c:=5) rfl rfl rfl rfl ozw) (pp1 1 91 rfl (A3 (F3 (sR_ rfl (pp1 1 92 rfl (ie (A5 (G8 rfl (A6 (nx (A5 (B4 (sR_ rfl (ix rfl (F4 Tryz.underlying168 ty3 rfl rfl rfl 5 rfl ozw rfl rfl rfl) (pp1 1 13 rfl (ie (A1 6 rfl (zrl 5 1 [] [(94,.map (some a)),(95,iv 29),(98,ag [.func (.func 124) #[ag (B7 (⟨1,9999⟩:Spn))] #[],.func (.func 124) #[ag (B7 (⟨0,0⟩:Spn))] #[]])] ?_))))))))))))))))))))))
 refine it rfl (E7 (es:=(B3 E2q 0).toArray) (es':=(B3 E2p 0).toArray) K3 (.inr rfl) rfl rfl rfl 0 rfl okl okl) fun _=>?_
 refine znl [(a,.map (B3 E2p 0).toArray 34)] (A3 (nx (A1 2 rfl (ix rfl (C0 (c:=6) rfl rfl rfl rfl ozw) (pp1 1 91 rfl (A3 (F3 (sR_ rfl (pp1 1 92 rfl (ie (A5 (G8 rfl (A6 (nx (A5 (B4 (sR_ rfl (ix rfl (F4 Tryz.underlying168 ty3 rfl rfl rfl 6 rfl ozw rfl rfl rfl) (pp1 1 13 rfl (ie (A1 6 rfl (zrl 5 1 [] [(94,.map (some a)),(95,iv 30),(98,ag [.func (.func 124) #[ag (B7 (⟨1,9999⟩:Spn))] #[],.func (.func 124) #[ag (B7 (⟨0,0⟩:Spn))] #[]])] ?_))))))))))))))))))))))
 refine it rfl (E7 (es:=(B3 E2p 0).toArray) (es':=(B3 E0v 0).toArray) K3 (.inr rfl) rfl rfl rfl 0 rfl okl okl) fun _=>?_
 refine znl [(a,.map (B3 E0v 0).toArray 35)] (A3 (nx (A1 2 rfl (ix rfl (C0 (c:=7) rfl rfl rfl rfl ozw) (pp1 1 91 rfl (A3 (F3 (sR_ rfl (pp1 1 92 rfl (ie (A5 (G8 rfl (A6 (nx (A5 (B4 (sR_ rfl (ix rfl (F4 Tryz.underlying168 ty3 rfl rfl rfl 7 rfl ozw rfl rfl rfl) (pp1 1 13 rfl (ie (A1 6 rfl (zrl 5 1 [] [(94,.map (some a)),(95,iv 31),(98,ag [.func (.func 124) #[ag (B7 (⟨1,9999⟩:Spn))] #[],.func (.func 124) #[ag (B7 (⟨0,0⟩:Spn))] #[]])] ?_))))))))))))))))))))))
 refine it rfl (E7 (es:=(B3 E0v 0).toArray) (es':=(B3 E0s 0).toArray) K3 (.inr rfl) rfl rfl rfl 0 rfl okl okl) fun _=>?_
 refine znl [(a,.map (B3 E0s 0).toArray 36)] (A3 (nx (A1 2 rfl (ix rfl (C0 (c:=8) rfl rfl rfl rfl ozw) (pp1 1 91 rfl (A3 (F3 (sR_ rfl (pp1 1 92 rfl (ie (A5 (G8 rfl (A6 (nx (A5 (B4 (sR_ rfl (ix rfl (F4 Tryz.underlying168 ty3 rfl rfl rfl 8 rfl ozw rfl rfl rfl) (pp1 1 13 rfl (ie (A1 6 rfl (zrl 5 1 [] [(94,.map (some a)),(95,iv 32),(98,ag [.func (.func 124) #[ag (B7 (⟨1,9999⟩:Spn))] #[],.func (.func 124) #[ag (B7 (⟨0,0⟩:Spn))] #[]])] ?_))))))))))))))))))))))
 refine it rfl (E7 (es:=(B3 E0s 0).toArray) (es':=(B3 E2c 0).toArray) K3 (.inr rfl) rfl rfl rfl 0 rfl okl okl) fun _=>?_
 refine znl [(a,.map (B3 E2c 0).toArray 37)] (A3 (nx (A1 2 rfl (ix rfl (C0 (c:=9) rfl rfl rfl rfl ozw) (pp1 1 91 rfl (A3 (F3 (sR_ rfl (pp1 1 92 rfl (ie (A5 (G8 rfl (A6 (nx (A5 (B4 (sR_ rfl (ix rfl (F4 Tryz.underlying168 ty3 rfl rfl rfl 9 rfl ozw rfl rfl rfl) (pp1 1 13 rfl (ie (A1 6 rfl (zrl 5 1 [] [(94,.map (some a)),(95,iv 34),(98,ag [.func (.func 124) #[ag (B7 (⟨1,9999⟩:Spn))] #[],.func (.func 124) #[ag (B7 (⟨0,0⟩:Spn))] #[]])] ?_))))))))))))))))))))))
 refine it rfl (E7 (es:=(B3 E2c 0).toArray) (es':=(B3 E0p 0).toArray) K3 (.inr rfl) rfl rfl rfl 0 rfl okl okl) fun _=>?_
 refine znl [(a,.map (B3 E0p 0).toArray 38)] (A3 (nx (A1 2 rfl (ix rfl (C0 (c:=10) rfl rfl rfl rfl ozw) (pp1 1 91 rfl (A3 (F3 (sR_ rfl (pp1 1 92 rfl (ie (A5 (A0f rfl (H3 (nx (A5 (sR_ rfl (zrl 2 0 [] [(100,ag (C4t (⟨36,37,43⟩:Ar3))),(101,iv 0)] (ie (B4 (A0s 5 ?_))))))))))))))))))))
 refine F3 (sR_ rfl (pp1 1 102 rfl ?_))
 refine ie (A5 (G8 rfl (A6 (nx (A5 (B4 (sR_ rfl (ix rfl (F4 Tryz.underlying166 ty3 rfl rfl rfl 0 rfl ozw rfl rfl rfl) (pp1 1 15 rfl (ie (A1 6 rfl (zrl 5 1 [] [(104,.map (some a)),(105,iv 36),(108,ag [.func (.func 124) #[ag (B7 (⟨0,9999⟩:Spn))] #[],.func (.func 124) #[ag (B7 (⟨0,1⟩:Spn))] #[]])] (it rfl (E7 (es:=(B3 E0p 0).toArray) (es':=(B3 E1k 0).toArray) K3 (.inr rfl) rfl rfl rfl 0 rfl okl okl) fun _=>?_)))))))))))))
 refine znl [(a,.map (B3 E1k 0).toArray 39)] (A3 (nx (A1 2 rfl (ix rfl (C0 (c:=1) rfl rfl rfl rfl ozw) (pp1 1 101 rfl (A3 (F3 (sR_ rfl (pp1 1 102 rfl (ie (A5 (G8 rfl (A6 (nx (A5 (B4 (sR_ rfl (ix rfl (F4 Tryz.underlying166 ty3 rfl rfl rfl 1 rfl ozw rfl rfl rfl) (pp1 1 15 rfl (ie (A1 6 rfl (zrl 5 1 [] [(104,.map (some a)),(105,iv 37),(108,ag [.func (.func 124) #[ag (B7 (⟨0,9999⟩:Spn))] #[],.func (.func 124) #[ag (B7 (⟨0,1⟩:Spn))] #[]])] ?_))))))))))))))))))))))
 refine it rfl (E7 (es:=(B3 E1k 0).toArray) (es':=(B3 E1y 0).toArray) K3 (.inr rfl) rfl rfl rfl 0 rfl okl okl) fun _=>?_
 refine znl [(a,.map (B3 E1y 0).toArray 40)] (A3 (nx (A1 2 rfl (ix rfl (C0 (c:=2) rfl rfl rfl rfl ozw) (pp1 1 101 rfl (A3 (F3 (sR_ rfl (pp1 1 102 rfl (ie (A5 (G8 rfl (A6 (nx (A5 (B4 (sR_ rfl (ix rfl (F4 Tryz.underlying166 ty3 rfl rfl rfl 2 rfl ozw rfl rfl rfl) (pp1 1 15 rfl (ie (A1 6 rfl (zrl 5 1 [] [(104,.map (some a)),(105,iv 43),(108,ag [.func (.func 124) #[ag (B7 (⟨0,9999⟩:Spn))] #[],.func (.func 124) #[ag (B7 (⟨0,1⟩:Spn))] #[]])] ?_))))))))))))))))))))))
 refine it rfl (E7 (es:=(B3 E1y 0).toArray) (es':=(B3 C9c 0).toArray) K3 (.inr rfl) rfl rfl rfl 0 rfl okl okl) fun _=>?_
 refine znl [(a,.map (B3 C9c 0).toArray 41)] (A3 (nx (A1 2 rfl (ix rfl (C0 (c:=3) rfl rfl rfl rfl ozw) (pp1 1 101 rfl (A3 (F3 (sR_ rfl (pp1 1 102 rfl (ie (A5 (A0f rfl (H3 (nx (sR_ rfl (pp1 2 0 rfl ?_))))))))))))))))
 subst hR
 refine ie (A8 ?_)
 exact zer hr hD (O3 rfl (B9 rfl)) a sb_ fn0
def B3w:List (Int×Value):=[(17,ag [.func (.func 124) #[ag (B7 (⟨0,3⟩:Spn))] #[],.func (.func 124) #[ag (B7 (⟨0,1⟩:Spn))] #[]]),(18,ag [.func (.func 124) #[ag (B7 (⟨2,3⟩:Spn))] #[],.func (.func 124) #[ag (B7 (⟨0,0⟩:Spn))] #[]]),(19,ag [.func (.func 124) #[ag (B7 (⟨1,9999⟩:Spn))] #[],.func (.func 124) #[ag (B7 (⟨1,9999⟩:Spn))] #[]]),(20,ag [.func (.func 124) #[ag (B7 (⟨0,3⟩:Spn))] #[],.func (.func 124) #[ag (B7 (⟨1,9999⟩:Spn))] #[]]),(26,ag [.func (.func 124) #[ag (B7 (⟨0,3⟩:Spn))] #[],.func (.func 124) #[ag (B7 (⟨0,0⟩:Spn))] #[]]),(27,ag [.func (.func 124) #[ag (B7 (⟨0,2⟩:Spn))] #[],.func (.func 124) #[ag (B7 (⟨0,0⟩:Spn))] #[]]),(35,ag [.func (.func 125) #[] #[],.func (.func 124) #[ag (B7 (⟨0,0⟩:Spn))] #[]]),(38,ag [.func (.func 124) #[ag (B7 (⟨0,9999⟩:Spn))] #[],.func (.func 124) #[ag (B7 (⟨0,9999⟩:Spn))] #[]]),(40,ag [.func (.func 124) #[ag (B7 (⟨0,6⟩:Spn))] #[],.func (.func 124) #[ag (B7 (⟨0,0⟩:Spn))] #[]]),(41,ag [.func (.func 124) #[ag (B7 (⟨5,6⟩:Spn))] #[],.func (.func 124) #[ag (B7 (⟨0,0⟩:Spn))] #[]]),(2,ag [.func (.func 124) #[ag (B7 (⟨0,0⟩:Spn))] #[],.func (.func 124) #[ag (B7 (⟨0,0⟩:Spn))] #[]]),(3,ag [.func (.func 124) #[ag (B7 (⟨0,0⟩:Spn))] #[],.func (.func 124) #[ag (B7 (⟨0,0⟩:Spn))] #[]]),(4,ag [.func (.func 124) #[ag (B7 (⟨0,0⟩:Spn))] #[],.func (.func 124) #[ag (B7 (⟨0,0⟩:Spn))] #[]]),(5,ag [.func (.func 124) #[ag (B7 (⟨0,0⟩:Spn))] #[],.func (.func 124) #[ag (B7 (⟨0,0⟩:Spn))] #[]]),(6,ag [.func (.func 124) #[ag (B7 (⟨0,0⟩:Spn))] #[],.func (.func 124) #[ag (B7 (⟨0,0⟩:Spn))] #[]]),(8,ag [.func (.func 124) #[ag (B7 (⟨0,0⟩:Spn))] #[],.func (.func 124) #[ag (B7 (⟨0,0⟩:Spn))] #[]]),(9,ag [.func (.func 124) #[ag (B7 (⟨0,0⟩:Spn))] #[],.func (.func 124) #[ag (B7 (⟨0,0⟩:Spn))] #[]]),(10,ag [.func (.func 124) #[ag (B7 (⟨0,0⟩:Spn))] #[],.func (.func 124) #[ag (B7 (⟨0,0⟩:Spn))] #[]]),(11,ag [.func (.func 124) #[ag (B7 (⟨0,0⟩:Spn))] #[],.func (.func 124) #[ag (B7 (⟨0,0⟩:Spn))] #[]]),(12,ag [.func (.func 124) #[ag (B7 (⟨0,0⟩:Spn))] #[],.func (.func 124) #[ag (B7 (⟨0,0⟩:Spn))] #[]]),(13,ag [.func (.func 124) #[ag (B7 (⟨0,0⟩:Spn))] #[],.func (.func 124) #[ag (B7 (⟨0,0⟩:Spn))] #[]]),(15,ag [.func (.func 124) #[ag (B7 (⟨0,0⟩:Spn))] #[],.func (.func 124) #[ag (B7 (⟨0,0⟩:Spn))] #[]]),(16,ag [.func (.func 124) #[ag (B7 (⟨0,0⟩:Spn))] #[],.func (.func 124) #[ag (B7 (⟨0,0⟩:Spn))] #[]]),(7,ag [.func (.func 124) #[ag (B7 (⟨0,1⟩:Spn))] #[],.func (.func 124) #[ag (B7 (⟨0,0⟩:Spn))] #[]]),(14,ag [.func (.func 124) #[ag (B7 (⟨0,1⟩:Spn))] #[],.func (.func 124) #[ag (B7 (⟨0,0⟩:Spn))] #[]]),(42,ag [.func (.func 124) #[ag (B7 (⟨0,1⟩:Spn))] #[],.func (.func 124) #[ag (B7 (⟨0,0⟩:Spn))] #[]]),(21,ag [.func (.func 124) #[ag (B7 (⟨0,1⟩:Spn))] #[],.func (.func 124) #[ag (B7 (⟨1,9999⟩:Spn))] #[]]),(33,ag [.func (.func 124) #[ag (B7 (⟨0,1⟩:Spn))] #[],.func (.func 124) #[ag (B7 (⟨1,9999⟩:Spn))] #[]]),(22,ag [.func (.func 124) #[ag (B7 (⟨1,9999⟩:Spn))] #[],.func (.func 124) #[ag (B7 (⟨0,0⟩:Spn))] #[]]),(23,ag [.func (.func 124) #[ag (B7 (⟨1,9999⟩:Spn))] #[],.func (.func 124) #[ag (B7 (⟨0,0⟩:Spn))] #[]]),(24,ag [.func (.func 124) #[ag (B7 (⟨1,9999⟩:Spn))] #[],.func (.func 124) #[ag (B7 (⟨0,0⟩:Spn))] #[]]),(25,ag [.func (.func 124) #[ag (B7 (⟨1,9999⟩:Spn))] #[],.func (.func 124) #[ag (B7 (⟨0,0⟩:Spn))] #[]]),(28,ag [.func (.func 124) #[ag (B7 (⟨1,9999⟩:Spn))] #[],.func (.func 124) #[ag (B7 (⟨0,0⟩:Spn))] #[]]),(29,ag [.func (.func 124) #[ag (B7 (⟨1,9999⟩:Spn))] #[],.func (.func 124) #[ag (B7 (⟨0,0⟩:Spn))] #[]]),(30,ag [.func (.func 124) #[ag (B7 (⟨1,9999⟩:Spn))] #[],.func (.func 124) #[ag (B7 (⟨0,0⟩:Spn))] #[]]),(31,ag [.func (.func 124) #[ag (B7 (⟨1,9999⟩:Spn))] #[],.func (.func 124) #[ag (B7 (⟨0,0⟩:Spn))] #[]]),(32,ag [.func (.func 124) #[ag (B7 (⟨1,9999⟩:Spn))] #[],.func (.func 124) #[ag (B7 (⟨0,0⟩:Spn))] #[]]),(34,ag [.func (.func 124) #[ag (B7 (⟨1,9999⟩:Spn))] #[],.func (.func 124) #[ag (B7 (⟨0,0⟩:Spn))] #[]]),(36,ag [.func (.func 124) #[ag (B7 (⟨0,9999⟩:Spn))] #[],.func (.func 124) #[ag (B7 (⟨0,1⟩:Spn))] #[]]),(37,ag [.func (.func 124) #[ag (B7 (⟨0,9999⟩:Spn))] #[],.func (.func 124) #[ag (B7 (⟨0,1⟩:Spn))] #[]]),(43,ag [.func (.func 124) #[ag (B7 (⟨0,9999⟩:Spn))] #[],.func (.func 124) #[ag (B7 (⟨0,1⟩:Spn))] #[]])]
def D8:List (Int×Value):=[(17,.func (.func 124) #[ag (B7 (⟨0,3⟩:Spn))] #[]),(18,.func (.func 124) #[ag (B7 (⟨2,3⟩:Spn))] #[]),(19,.func (.func 124) #[ag (B7 (⟨1,9999⟩:Spn))] #[]),(20,.func (.func 124) #[ag (B7 (⟨0,3⟩:Spn))] #[]),(26,.func (.func 124) #[ag (B7 (⟨0,3⟩:Spn))] #[]),(27,.func (.func 124) #[ag (B7 (⟨0,2⟩:Spn))] #[]),(35,.func (.func 125) #[] #[]),(38,.func (.func 124) #[ag (B7 (⟨0,9999⟩:Spn))] #[]),(40,.func (.func 124) #[ag (B7 (⟨0,6⟩:Spn))] #[]),(41,.func (.func 124) #[ag (B7 (⟨5,6⟩:Spn))] #[]),(2,.func (.func 124) #[ag (B7 (⟨0,0⟩:Spn))] #[]),(3,.func (.func 124) #[ag (B7 (⟨0,0⟩:Spn))] #[]),(4,.func (.func 124) #[ag (B7 (⟨0,0⟩:Spn))] #[]),(5,.func (.func 124) #[ag (B7 (⟨0,0⟩:Spn))] #[]),(6,.func (.func 124) #[ag (B7 (⟨0,0⟩:Spn))] #[]),(8,.func (.func 124) #[ag (B7 (⟨0,0⟩:Spn))] #[]),(9,.func (.func 124) #[ag (B7 (⟨0,0⟩:Spn))] #[]),(10,.func (.func 124) #[ag (B7 (⟨0,0⟩:Spn))] #[]),(11,.func (.func 124) #[ag (B7 (⟨0,0⟩:Spn))] #[]),(12,.func (.func 124) #[ag (B7 (⟨0,0⟩:Spn))] #[]),(13,.func (.func 124) #[ag (B7 (⟨0,0⟩:Spn))] #[]),(15,.func (.func 124) #[ag (B7 (⟨0,0⟩:Spn))] #[]),(16,.func (.func 124) #[ag (B7 (⟨0,0⟩:Spn))] #[]),(7,.func (.func 124) #[ag (B7 (⟨0,1⟩:Spn))] #[]),(14,.func (.func 124) #[ag (B7 (⟨0,1⟩:Spn))] #[]),(42,.func (.func 124) #[ag (B7 (⟨0,1⟩:Spn))] #[]),(21,.func (.func 124) #[ag (B7 (⟨0,1⟩:Spn))] #[]),(33,.func (.func 124) #[ag (B7 (⟨0,1⟩:Spn))] #[]),(22,.func (.func 124) #[ag (B7 (⟨1,9999⟩:Spn))] #[]),(23,.func (.func 124) #[ag (B7 (⟨1,9999⟩:Spn))] #[]),(24,.func (.func 124) #[ag (B7 (⟨1,9999⟩:Spn))] #[]),(25,.func (.func 124) #[ag (B7 (⟨1,9999⟩:Spn))] #[]),(28,.func (.func 124) #[ag (B7 (⟨1,9999⟩:Spn))] #[]),(29,.func (.func 124) #[ag (B7 (⟨1,9999⟩:Spn))] #[]),(30,.func (.func 124) #[ag (B7 (⟨1,9999⟩:Spn))] #[]),(31,.func (.func 124) #[ag (B7 (⟨1,9999⟩:Spn))] #[]),(32,.func (.func 124) #[ag (B7 (⟨1,9999⟩:Spn))] #[]),(34,.func (.func 124) #[ag (B7 (⟨1,9999⟩:Spn))] #[]),(36,.func (.func 124) #[ag (B7 (⟨0,9999⟩:Spn))] #[]),(37,.func (.func 124) #[ag (B7 (⟨0,9999⟩:Spn))] #[]),(43,.func (.func 124) #[ag (B7 (⟨0,9999⟩:Spn))] #[])]
def J5:List (Int×Value):=[(17,.func (.func 124) #[ag (B7 (⟨0,1⟩:Spn))] #[]),(18,.func (.func 124) #[ag (B7 (⟨0,0⟩:Spn))] #[]),(19,.func (.func 124) #[ag (B7 (⟨1,9999⟩:Spn))] #[]),(20,.func (.func 124) #[ag (B7 (⟨1,9999⟩:Spn))] #[]),(26,.func (.func 124) #[ag (B7 (⟨0,0⟩:Spn))] #[]),(27,.func (.func 124) #[ag (B7 (⟨0,0⟩:Spn))] #[]),(35,.func (.func 124) #[ag (B7 (⟨0,0⟩:Spn))] #[]),(38,.func (.func 124) #[ag (B7 (⟨0,9999⟩:Spn))] #[]),(40,.func (.func 124) #[ag (B7 (⟨0,0⟩:Spn))] #[]),(41,.func (.func 124) #[ag (B7 (⟨0,0⟩:Spn))] #[]),(2,.func (.func 124) #[ag (B7 (⟨0,0⟩:Spn))] #[]),(3,.func (.func 124) #[ag (B7 (⟨0,0⟩:Spn))] #[]),(4,.func (.func 124) #[ag (B7 (⟨0,0⟩:Spn))] #[]),(5,.func (.func 124) #[ag (B7 (⟨0,0⟩:Spn))] #[]),(6,.func (.func 124) #[ag (B7 (⟨0,0⟩:Spn))] #[]),(8,.func (.func 124) #[ag (B7 (⟨0,0⟩:Spn))] #[]),(9,.func (.func 124) #[ag (B7 (⟨0,0⟩:Spn))] #[]),(10,.func (.func 124) #[ag (B7 (⟨0,0⟩:Spn))] #[]),(11,.func (.func 124) #[ag (B7 (⟨0,0⟩:Spn))] #[]),(12,.func (.func 124) #[ag (B7 (⟨0,0⟩:Spn))] #[]),(13,.func (.func 124) #[ag (B7 (⟨0,0⟩:Spn))] #[]),(15,.func (.func 124) #[ag (B7 (⟨0,0⟩:Spn))] #[]),(16,.func (.func 124) #[ag (B7 (⟨0,0⟩:Spn))] #[]),(7,.func (.func 124) #[ag (B7 (⟨0,0⟩:Spn))] #[]),(14,.func (.func 124) #[ag (B7 (⟨0,0⟩:Spn))] #[]),(42,.func (.func 124) #[ag (B7 (⟨0,0⟩:Spn))] #[]),(21,.func (.func 124) #[ag (B7 (⟨1,9999⟩:Spn))] #[]),(33,.func (.func 124) #[ag (B7 (⟨1,9999⟩:Spn))] #[]),(22,.func (.func 124) #[ag (B7 (⟨0,0⟩:Spn))] #[]),(23,.func (.func 124) #[ag (B7 (⟨0,0⟩:Spn))] #[]),(24,.func (.func 124) #[ag (B7 (⟨0,0⟩:Spn))] #[]),(25,.func (.func 124) #[ag (B7 (⟨0,0⟩:Spn))] #[]),(28,.func (.func 124) #[ag (B7 (⟨0,0⟩:Spn))] #[]),(29,.func (.func 124) #[ag (B7 (⟨0,0⟩:Spn))] #[]),(30,.func (.func 124) #[ag (B7 (⟨0,0⟩:Spn))] #[]),(31,.func (.func 124) #[ag (B7 (⟨0,0⟩:Spn))] #[]),(32,.func (.func 124) #[ag (B7 (⟨0,0⟩:Spn))] #[]),(34,.func (.func 124) #[ag (B7 (⟨0,0⟩:Spn))] #[]),(36,.func (.func 124) #[ag (B7 (⟨0,1⟩:Spn))] #[]),(37,.func (.func 124) #[ag (B7 (⟨0,1⟩:Spn))] #[]),(43,.func (.func 124) #[ag (B7 (⟨0,1⟩:Spn))] #[])]
theorem D8i (k:Int):lkV k (.agg #[.nilFunc,.nilFunc]) B3w=.agg #[lkV k .nilFunc D8,lkV k .nilFunc J5]:=by
 refine (D3n (fun a b=>.agg #[a,b]) k (.nilFunc) (.nilFunc) [((17:Int),(.func (.func 124) #[ag (B7 (⟨0,3⟩:Spn))] #[]:Value),(.func (.func 124) #[ag (B7 (⟨0,1⟩:Spn))] #[]:Value)),((18:Int),(.func (.func 124) #[ag (B7 (⟨2,3⟩:Spn))] #[]:Value),(.func (.func 124) #[ag (B7 (⟨0,0⟩:Spn))] #[]:Value)),((19:Int),(.func (.func 124) #[ag (B7 (⟨1,9999⟩:Spn))] #[]:Value),(.func (.func 124) #[ag (B7 (⟨1,9999⟩:Spn))] #[]:Value)),((20:Int),(.func (.func 124) #[ag (B7 (⟨0,3⟩:Spn))] #[]:Value),(.func (.func 124) #[ag (B7 (⟨1,9999⟩:Spn))] #[]:Value)),((26:Int),(.func (.func 124) #[ag (B7 (⟨0,3⟩:Spn))] #[]:Value),(.func (.func 124) #[ag (B7 (⟨0,0⟩:Spn))] #[]:Value)),((27:Int),(.func (.func 124) #[ag (B7 (⟨0,2⟩:Spn))] #[]:Value),(.func (.func 124) #[ag (B7 (⟨0,0⟩:Spn))] #[]:Value)),((35:Int),(.func (.func 125) #[] #[]:Value),(.func (.func 124) #[ag (B7 (⟨0,0⟩:Spn))] #[]:Value)),((38:Int),(.func (.func 124) #[ag (B7 (⟨0,9999⟩:Spn))] #[]:Value),(.func (.func 124) #[ag (B7 (⟨0,9999⟩:Spn))] #[]:Value)),((40:Int),(.func (.func 124) #[ag (B7 (⟨0,6⟩:Spn))] #[]:Value),(.func (.func 124) #[ag (B7 (⟨0,0⟩:Spn))] #[]:Value)),((41:Int),(.func (.func 124) #[ag (B7 (⟨5,6⟩:Spn))] #[]:Value),(.func (.func 124) #[ag (B7 (⟨0,0⟩:Spn))] #[]:Value)),((2:Int),(.func (.func 124) #[ag (B7 (⟨0,0⟩:Spn))] #[]:Value),(.func (.func 124) #[ag (B7 (⟨0,0⟩:Spn))] #[]:Value)),((3:Int),(.func (.func 124) #[ag (B7 (⟨0,0⟩:Spn))] #[]:Value),(.func (.func 124) #[ag (B7 (⟨0,0⟩:Spn))] #[]:Value)),((4:Int),(.func (.func 124) #[ag (B7 (⟨0,0⟩:Spn))] #[]:Value),(.func (.func 124) #[ag (B7 (⟨0,0⟩:Spn))] #[]:Value)),((5:Int),(.func (.func 124) #[ag (B7 (⟨0,0⟩:Spn))] #[]:Value),(.func (.func 124) #[ag (B7 (⟨0,0⟩:Spn))] #[]:Value)),((6:Int),(.func (.func 124) #[ag (B7 (⟨0,0⟩:Spn))] #[]:Value),(.func (.func 124) #[ag (B7 (⟨0,0⟩:Spn))] #[]:Value)),((8:Int),(.func (.func 124) #[ag (B7 (⟨0,0⟩:Spn))] #[]:Value),(.func (.func 124) #[ag (B7 (⟨0,0⟩:Spn))] #[]:Value)),((9:Int),(.func (.func 124) #[ag (B7 (⟨0,0⟩:Spn))] #[]:Value),(.func (.func 124) #[ag (B7 (⟨0,0⟩:Spn))] #[]:Value)),((10:Int),(.func (.func 124) #[ag (B7 (⟨0,0⟩:Spn))] #[]:Value),(.func (.func 124) #[ag (B7 (⟨0,0⟩:Spn))] #[]:Value)),((11:Int),(.func (.func 124) #[ag (B7 (⟨0,0⟩:Spn))] #[]:Value),(.func (.func 124) #[ag (B7 (⟨0,0⟩:Spn))] #[]:Value)),((12:Int),(.func (.func 124) #[ag (B7 (⟨0,0⟩:Spn))] #[]:Value),(.func (.func 124) #[ag (B7 (⟨0,0⟩:Spn))] #[]:Value)),((13:Int),(.func (.func 124) #[ag (B7 (⟨0,0⟩:Spn))] #[]:Value),(.func (.func 124) #[ag (B7 (⟨0,0⟩:Spn))] #[]:Value)),((15:Int),(.func (.func 124) #[ag (B7 (⟨0,0⟩:Spn))] #[]:Value),(.func (.func 124) #[ag (B7 (⟨0,0⟩:Spn))] #[]:Value)),((16:Int),(.func (.func 124) #[ag (B7 (⟨0,0⟩:Spn))] #[]:Value),(.func (.func 124) #[ag (B7 (⟨0,0⟩:Spn))] #[]:Value)),((7:Int),(.func (.func 124) #[ag (B7 (⟨0,1⟩:Spn))] #[]:Value),(.func (.func 124) #[ag (B7 (⟨0,0⟩:Spn))] #[]:Value)),((14:Int),(.func (.func 124) #[ag (B7 (⟨0,1⟩:Spn))] #[]:Value),(.func (.func 124) #[ag (B7 (⟨0,0⟩:Spn))] #[]:Value)),((42:Int),(.func (.func 124) #[ag (B7 (⟨0,1⟩:Spn))] #[]:Value),(.func (.func 124) #[ag (B7 (⟨0,0⟩:Spn))] #[]:Value)),((21:Int),(.func (.func 124) #[ag (B7 (⟨0,1⟩:Spn))] #[]:Value),(.func (.func 124) #[ag (B7 (⟨1,9999⟩:Spn))] #[]:Value)),((33:Int),(.func (.func 124) #[ag (B7 (⟨0,1⟩:Spn))] #[]:Value),(.func (.func 124) #[ag (B7 (⟨1,9999⟩:Spn))] #[]:Value)),((22:Int),(.func (.func 124) #[ag (B7 (⟨1,9999⟩:Spn))] #[]:Value),(.func (.func 124) #[ag (B7 (⟨0,0⟩:Spn))] #[]:Value)),((23:Int),(.func (.func 124) #[ag (B7 (⟨1,9999⟩:Spn))] #[]:Value),(.func (.func 124) #[ag (B7 (⟨0,0⟩:Spn))] #[]:Value)),((24:Int),(.func (.func 124) #[ag (B7 (⟨1,9999⟩:Spn))] #[]:Value),(.func (.func 124) #[ag (B7 (⟨0,0⟩:Spn))] #[]:Value)),((25:Int),(.func (.func 124) #[ag (B7 (⟨1,9999⟩:Spn))] #[]:Value),(.func (.func 124) #[ag (B7 (⟨0,0⟩:Spn))] #[]:Value)),((28:Int),(.func (.func 124) #[ag (B7 (⟨1,9999⟩:Spn))] #[]:Value),(.func (.func 124) #[ag (B7 (⟨0,0⟩:Spn))] #[]:Value)),((29:Int),(.func (.func 124) #[ag (B7 (⟨1,9999⟩:Spn))] #[]:Value),(.func (.func 124) #[ag (B7 (⟨0,0⟩:Spn))] #[]:Value)),((30:Int),(.func (.func 124) #[ag (B7 (⟨1,9999⟩:Spn))] #[]:Value),(.func (.func 124) #[ag (B7 (⟨0,0⟩:Spn))] #[]:Value)),((31:Int),(.func (.func 124) #[ag (B7 (⟨1,9999⟩:Spn))] #[]:Value),(.func (.func 124) #[ag (B7 (⟨0,0⟩:Spn))] #[]:Value)),((32:Int),(.func (.func 124) #[ag (B7 (⟨1,9999⟩:Spn))] #[]:Value),(.func (.func 124) #[ag (B7 (⟨0,0⟩:Spn))] #[]:Value)),((34:Int),(.func (.func 124) #[ag (B7 (⟨1,9999⟩:Spn))] #[]:Value),(.func (.func 124) #[ag (B7 (⟨0,0⟩:Spn))] #[]:Value)),((36:Int),(.func (.func 124) #[ag (B7 (⟨0,9999⟩:Spn))] #[]:Value),(.func (.func 124) #[ag (B7 (⟨0,1⟩:Spn))] #[]:Value)),((37:Int),(.func (.func 124) #[ag (B7 (⟨0,9999⟩:Spn))] #[]:Value),(.func (.func 124) #[ag (B7 (⟨0,1⟩:Spn))] #[]:Value)),((43:Int),(.func (.func 124) #[ag (B7 (⟨0,9999⟩:Spn))] #[]:Value),(.func (.func 124) #[ag (B7 (⟨0,1⟩:Spn))] #[]:Value))]).trans ?_
 rfl
theorem A1w (k:Int):Value.tuple #[lkV k (.agg #[.nilFunc,.nilFunc]) B3w,.bool (O2 k B3w)]=Value.tuple #[.agg #[lkV k .nilFunc D8,lkV k .nilFunc J5],.bool (O2 k D8)]:=by rw [D8i];rfl
def A9 (s:Spn) (n:Int):Bool :=
 ((decide (s.lo≤n))&&(decide (n≤s.hi)))
theorem A4 {s:Spn} {n:Int} {R:Bool} (hR:A9 s n=R):G3 Tryz.prog 124 [ag (B7 s),iv n] [] (bv R):=by
 refine zce Tryz.func124 fun X hX hr hD=>?_
 replace hR:=(A9.eq_1 ..).symm.trans hR
 refine sR_ rfl (H9 2 0 [] (fun a=>[(2,pt a 0)]) (fun a=>[bx a (B7 s) 164]) (fun a=>(ie (sR_ rfl (pl1 5 [0] 9 rfl ?_)))))
 refine zid 5 1 9 14 (decide (n≤s.hi)) (fun b c=>?_) ?_
 ·refine pl1 5 [0] 14 rfl ?_
  exact A3 (P7 2 9 14 b fn0 sb_ rfl rfl rfl rfl rfl)
 refine pp1 1 4 rfl ?_
 subst hR
 refine ie (A8 ?_)
 exact E9 hr hD
def A3o (n:Int):Bool :=
 ((decide (n=0))||(decide (n=3)))
theorem B8h {n:Int} {R:Bool} (hR:A3o n=R):G3 Tryz.prog 125 [iv n] [] (bv R):=by
 refine zce Tryz.func125 fun X hX hr hD=>?_
 replace hR:=(A3o.eq_1 ..).symm.trans hR
 refine sR_ rfl (pp0 1 rfl (ie (sR_ rfl (pp1 3 5 rfl ?_))))
 refine zir 3 1 5 8 (decide (n=3)) (fun b a=>?_) ?_
 ·refine pp1 3 8 rfl ?_
  exact A3 (P7 2 5 8 b fn0 sb_ rfl rfl rfl rfl rfl)
 refine pp1 1 2 rfl ?_
 subst hR
 refine ie (A8 ?_)
 exact E9 hr hD
def R9 (k:Int) (a:Int):Bool :=
 (bif (decide (k=17)) then (A9 (⟨0,3⟩:Spn) a) else (bif (decide (k=18)) then (A9 (⟨2,3⟩:Spn) a) else (bif (decide (k=19)) then (A9 (⟨1,9999⟩:Spn) a) else (bif (decide (k=20)) then (A9 (⟨0,3⟩:Spn) a) else (bif (decide (k=26)) then (A9 (⟨0,3⟩:Spn) a) else (bif (decide (k=27)) then (A9 (⟨0,2⟩:Spn) a) else (bif (decide (k=35)) then (A3o a) else (bif (decide (k=38)) then (A9 (⟨0,9999⟩:Spn) a) else (bif (decide (k=40)) then (A9 (⟨0,6⟩:Spn) a) else (bif (decide (k=41)) then (A9 (⟨5,6⟩:Spn) a) else (bif (decide (k=2)) then (A9 (⟨0,0⟩:Spn) a) else (bif (decide (k=3)) then (A9 (⟨0,0⟩:Spn) a) else (bif (decide (k=4)) then (A9 (⟨0,0⟩:Spn) a) else (bif (decide (k=5)) then (A9 (⟨0,0⟩:Spn) a) else (bif (decide (k=6)) then (A9 (⟨0,0⟩:Spn) a) else (bif (decide (k=8)) then (A9 (⟨0,0⟩:Spn) a) else (bif (decide (k=9)) then (A9 (⟨0,0⟩:Spn) a) else (bif (decide (k=10)) then (A9 (⟨0,0⟩:Spn) a) else (bif (decide (k=11)) then (A9 (⟨0,0⟩:Spn) a) else (bif (decide (k=12)) then (A9 (⟨0,0⟩:Spn) a) else (bif (decide (k=13)) then (A9 (⟨0,0⟩:Spn) a) else (bif (decide (k=15)) then (A9 (⟨0,0⟩:Spn) a) else (bif (decide (k=16)) then (A9 (⟨0,0⟩:Spn) a) else (bif (decide (k=7)) then (A9 (⟨0,1⟩:Spn) a) else (bif (decide (k=14)) then (A9 (⟨0,1⟩:Spn) a) else (bif (decide (k=42)) then (A9 (⟨0,1⟩:Spn) a) else (bif (decide (k=21)) then (A9 (⟨0,1⟩:Spn) a) else (bif (decide (k=33)) then (A9 (⟨0,1⟩:Spn) a) else (bif (decide (k=22)) then (A9 (⟨1,9999⟩:Spn) a) else (bif (decide (k=23)) then (A9 (⟨1,9999⟩:Spn) a) else (bif (decide (k=24)) then (A9 (⟨1,9999⟩:Spn) a) else (bif (decide (k=25)) then (A9 (⟨1,9999⟩:Spn) a) else (bif (decide (k=28)) then (A9 (⟨1,9999⟩:Spn) a) else (bif (decide (k=29)) then (A9 (⟨1,9999⟩:Spn) a) else (bif (decide (k=30)) then (A9 (⟨1,9999⟩:Spn) a) else (bif (decide (k=31)) then (A9 (⟨1,9999⟩:Spn) a) else (bif (decide (k=32)) then (A9 (⟨1,9999⟩:Spn) a) else (bif (decide (k=34)) then (A9 (⟨1,9999⟩:Spn) a) else (bif (decide (k=36)) then (A9 (⟨0,9999⟩:Spn) a) else (bif (decide (k=37)) then (A9 (⟨0,9999⟩:Spn) a) else (bif (decide (k=43)) then (A9 (⟨0,9999⟩:Spn) a) else false)))))))))))))))))))))))))))))))))))))))))
theorem A0n (k:Int) (b:Int) (a:O2 k D8=true) (R:Bool) (hR:R9 k b=R):C1 Tryz.prog (lkV k .nilFunc D8) [iv b] [] (bv R):=by
 subst hR
 unfold R9
 unfold D8 at *
 refine C1.cons (fun r=>bv r) a (fun e=>?_) (fun a e=>?_)
 ·exact C1.of (A4 (s:=(⟨0,3⟩:Spn)) (n:=b) rfl) rfl fn0
 refine C1.cons (fun r=>bv r) a (fun e=>?_) (fun a e=>?_)
 ·exact C1.of (A4 (s:=(⟨2,3⟩:Spn)) (n:=b) rfl) rfl fn0
 refine C1.cons (fun r=>bv r) a (fun e=>?_) (fun a e=>?_)
 ·exact C1.of (A4 (s:=(⟨1,9999⟩:Spn)) (n:=b) rfl) rfl fn0
 refine C1.cons (fun r=>bv r) a (fun e=>?_) (fun a e=>?_)
 ·exact C1.of (A4 (s:=(⟨0,3⟩:Spn)) (n:=b) rfl) rfl fn0
 refine C1.cons (fun r=>bv r) a (fun e=>?_) (fun a e=>?_)
 ·exact C1.of (A4 (s:=(⟨0,3⟩:Spn)) (n:=b) rfl) rfl fn0
 refine C1.cons (fun r=>bv r) a (fun e=>?_) (fun a e=>?_)
 ·exact C1.of (A4 (s:=(⟨0,2⟩:Spn)) (n:=b) rfl) rfl fn0
 refine C1.cons (fun r=>bv r) a (fun e=>?_) (fun a e=>?_)
 ·exact C1.of (B8h (n:=b) rfl) rfl fn0
 refine C1.cons (fun r=>bv r) a (fun e=>?_) (fun a e=>?_)
 ·exact C1.of (A4 (s:=(⟨0,9999⟩:Spn)) (n:=b) rfl) rfl fn0
 refine C1.cons (fun r=>bv r) a (fun e=>?_) (fun a e=>?_)
 ·exact C1.of (A4 (s:=(⟨0,6⟩:Spn)) (n:=b) rfl) rfl fn0
 refine C1.cons (fun r=>bv r) a (fun e=>?_) (fun a e=>?_)
 ·exact C1.of (A4 (s:=(⟨5,6⟩:Spn)) (n:=b) rfl) rfl fn0
 refine C1.cons (fun r=>bv r) a (fun e=>?_) (fun a e=>?_)
 ·exact C1.of (A4 (s:=(⟨0,0⟩:Spn)) (n:=b) rfl) rfl fn0
 refine C1.cons (fun r=>bv r) a (fun e=>?_) (fun a e=>?_)
 ·exact C1.of (A4 (s:=(⟨0,0⟩:Spn)) (n:=b) rfl) rfl fn0
 refine C1.cons (fun r=>bv r) a (fun e=>?_) (fun a e=>?_)
 ·exact C1.of (A4 (s:=(⟨0,0⟩:Spn)) (n:=b) rfl) rfl fn0
 refine C1.cons (fun r=>bv r) a (fun e=>?_) (fun a e=>?_)
 ·exact C1.of (A4 (s:=(⟨0,0⟩:Spn)) (n:=b) rfl) rfl fn0
 refine C1.cons (fun r=>bv r) a (fun e=>?_) (fun a e=>?_)
 ·exact C1.of (A4 (s:=(⟨0,0⟩:Spn)) (n:=b) rfl) rfl fn0
 refine C1.cons (fun r=>bv r) a (fun e=>?_) (fun a e=>?_)
 ·exact C1.of (A4 (s:=(⟨0,0⟩:Spn)) (n:=b) rfl) rfl fn0
 refine C1.cons (fun r=>bv r) a (fun e=>?_) (fun a e=>?_)
 ·exact C1.of (A4 (s:=(⟨0,0⟩:Spn)) (n:=b) rfl) rfl fn0
 refine C1.cons (fun r=>bv r) a (fun e=>?_) (fun a e=>?_)
 ·exact C1.of (A4 (s:=(⟨0,0⟩:Spn)) (n:=b) rfl) rfl fn0
 refine C1.cons (fun r=>bv r) a (fun e=>?_) (fun a e=>?_)
 ·exact C1.of (A4 (s:=(⟨0,0⟩:Spn)) (n:=b) rfl) rfl fn0
 refine C1.cons (fun r=>bv r) a (fun e=>?_) (fun a e=>?_)
 ·exact C1.of (A4 (s:=(⟨0,0⟩:Spn)) (n:=b) rfl) rfl fn0
 refine C1.cons (fun r=>bv r) a (fun e=>?_) (fun a e=>?_)
 ·exact C1.of (A4 (s:=(⟨0,0⟩:Spn)) (n:=b) rfl) rfl fn0
 refine C1.cons (fun r=>bv r) a (fun e=>?_) (fun a e=>?_)
 ·exact C1.of (A4 (s:=(⟨0,0⟩:Spn)) (n:=b) rfl) rfl fn0
 refine C1.cons (fun r=>bv r) a (fun e=>?_) (fun a e=>?_)
 ·exact C1.of (A4 (s:=(⟨0,0⟩:Spn)) (n:=b) rfl) rfl fn0
 refine C1.cons (fun r=>bv r) a (fun e=>?_) (fun a e=>?_)
 ·exact C1.of (A4 (s:=(⟨0,1⟩:Spn)) (n:=b) rfl) rfl fn0
 refine C1.cons (fun r=>bv r) a (fun e=>?_) (fun a e=>?_)
 ·exact C1.of (A4 (s:=(⟨0,1⟩:Spn)) (n:=b) rfl) rfl fn0
 refine C1.cons (fun r=>bv r) a (fun e=>?_) (fun a e=>?_)
 ·exact C1.of (A4 (s:=(⟨0,1⟩:Spn)) (n:=b) rfl) rfl fn0
 refine C1.cons (fun r=>bv r) a (fun e=>?_) (fun a e=>?_)
 ·exact C1.of (A4 (s:=(⟨0,1⟩:Spn)) (n:=b) rfl) rfl fn0
 refine C1.cons (fun r=>bv r) a (fun e=>?_) (fun a e=>?_)
 ·exact C1.of (A4 (s:=(⟨0,1⟩:Spn)) (n:=b) rfl) rfl fn0
 refine C1.cons (fun r=>bv r) a (fun e=>?_) (fun a e=>?_)
 ·exact C1.of (A4 (s:=(⟨1,9999⟩:Spn)) (n:=b) rfl) rfl fn0
 refine C1.cons (fun r=>bv r) a (fun e=>?_) (fun a e=>?_)
 ·exact C1.of (A4 (s:=(⟨1,9999⟩:Spn)) (n:=b) rfl) rfl fn0
 refine C1.cons (fun r=>bv r) a (fun e=>?_) (fun a e=>?_)
 ·exact C1.of (A4 (s:=(⟨1,9999⟩:Spn)) (n:=b) rfl) rfl fn0
 refine C1.cons (fun r=>bv r) a (fun e=>?_) (fun a e=>?_)
 ·exact C1.of (A4 (s:=(⟨1,9999⟩:Spn)) (n:=b) rfl) rfl fn0
 refine C1.cons (fun r=>bv r) a (fun e=>?_) (fun a e=>?_)
 ·exact C1.of (A4 (s:=(⟨1,9999⟩:Spn)) (n:=b) rfl) rfl fn0
 refine C1.cons (fun r=>bv r) a (fun e=>?_) (fun a e=>?_)
 ·exact C1.of (A4 (s:=(⟨1,9999⟩:Spn)) (n:=b) rfl) rfl fn0
 refine C1.cons (fun r=>bv r) a (fun e=>?_) (fun a e=>?_)
 ·exact C1.of (A4 (s:=(⟨1,9999⟩:Spn)) (n:=b) rfl) rfl fn0
 refine C1.cons (fun r=>bv r) a (fun e=>?_) (fun a e=>?_)
 ·exact C1.of (A4 (s:=(⟨1,9999⟩:Spn)) (n:=b) rfl) rfl fn0
 refine C1.cons (fun r=>bv r) a (fun e=>?_) (fun a e=>?_)
 ·exact C1.of (A4 (s:=(⟨1,9999⟩:Spn)) (n:=b) rfl) rfl fn0
 refine C1.cons (fun r=>bv r) a (fun e=>?_) (fun a e=>?_)
 ·exact C1.of (A4 (s:=(⟨1,9999⟩:Spn)) (n:=b) rfl) rfl fn0
 refine C1.cons (fun r=>bv r) a (fun e=>?_) (fun a e=>?_)
 ·exact C1.of (A4 (s:=(⟨0,9999⟩:Spn)) (n:=b) rfl) rfl fn0
 refine C1.cons (fun r=>bv r) a (fun e=>?_) (fun a e=>?_)
 ·exact C1.of (A4 (s:=(⟨0,9999⟩:Spn)) (n:=b) rfl) rfl fn0
 refine C1.cons (fun r=>bv r) a (fun e=>?_) (fun a e=>?_)
 ·exact C1.of (A4 (s:=(⟨0,9999⟩:Spn)) (n:=b) rfl) rfl fn0
 exact C1.nil a
def R8 (k:Int) (a:Int):Bool :=
 (bif (decide (k=17)) then (A9 (⟨0,1⟩:Spn) a) else (bif (decide (k=18)) then (A9 (⟨0,0⟩:Spn) a) else (bif (decide (k=19)) then (A9 (⟨1,9999⟩:Spn) a) else (bif (decide (k=20)) then (A9 (⟨1,9999⟩:Spn) a) else (bif (decide (k=26)) then (A9 (⟨0,0⟩:Spn) a) else (bif (decide (k=27)) then (A9 (⟨0,0⟩:Spn) a) else (bif (decide (k=35)) then (A9 (⟨0,0⟩:Spn) a) else (bif (decide (k=38)) then (A9 (⟨0,9999⟩:Spn) a) else (bif (decide (k=40)) then (A9 (⟨0,0⟩:Spn) a) else (bif (decide (k=41)) then (A9 (⟨0,0⟩:Spn) a) else (bif (decide (k=2)) then (A9 (⟨0,0⟩:Spn) a) else (bif (decide (k=3)) then (A9 (⟨0,0⟩:Spn) a) else (bif (decide (k=4)) then (A9 (⟨0,0⟩:Spn) a) else (bif (decide (k=5)) then (A9 (⟨0,0⟩:Spn) a) else (bif (decide (k=6)) then (A9 (⟨0,0⟩:Spn) a) else (bif (decide (k=8)) then (A9 (⟨0,0⟩:Spn) a) else (bif (decide (k=9)) then (A9 (⟨0,0⟩:Spn) a) else (bif (decide (k=10)) then (A9 (⟨0,0⟩:Spn) a) else (bif (decide (k=11)) then (A9 (⟨0,0⟩:Spn) a) else (bif (decide (k=12)) then (A9 (⟨0,0⟩:Spn) a) else (bif (decide (k=13)) then (A9 (⟨0,0⟩:Spn) a) else (bif (decide (k=15)) then (A9 (⟨0,0⟩:Spn) a) else (bif (decide (k=16)) then (A9 (⟨0,0⟩:Spn) a) else (bif (decide (k=7)) then (A9 (⟨0,0⟩:Spn) a) else (bif (decide (k=14)) then (A9 (⟨0,0⟩:Spn) a) else (bif (decide (k=42)) then (A9 (⟨0,0⟩:Spn) a) else (bif (decide (k=21)) then (A9 (⟨1,9999⟩:Spn) a) else (bif (decide (k=33)) then (A9 (⟨1,9999⟩:Spn) a) else (bif (decide (k=22)) then (A9 (⟨0,0⟩:Spn) a) else (bif (decide (k=23)) then (A9 (⟨0,0⟩:Spn) a) else (bif (decide (k=24)) then (A9 (⟨0,0⟩:Spn) a) else (bif (decide (k=25)) then (A9 (⟨0,0⟩:Spn) a) else (bif (decide (k=28)) then (A9 (⟨0,0⟩:Spn) a) else (bif (decide (k=29)) then (A9 (⟨0,0⟩:Spn) a) else (bif (decide (k=30)) then (A9 (⟨0,0⟩:Spn) a) else (bif (decide (k=31)) then (A9 (⟨0,0⟩:Spn) a) else (bif (decide (k=32)) then (A9 (⟨0,0⟩:Spn) a) else (bif (decide (k=34)) then (A9 (⟨0,0⟩:Spn) a) else (bif (decide (k=36)) then (A9 (⟨0,1⟩:Spn) a) else (bif (decide (k=37)) then (A9 (⟨0,1⟩:Spn) a) else (bif (decide (k=43)) then (A9 (⟨0,1⟩:Spn) a) else false)))))))))))))))))))))))))))))))))))))))))
theorem A0l (k:Int) (b:Int) (a:O2 k J5=true) (R:Bool) (hR:R8 k b=R):C1 Tryz.prog (lkV k .nilFunc J5) [iv b] [] (bv R):=by
 subst hR
 unfold R8
 unfold J5 at *
 refine C1.cons (fun r=>bv r) a (fun e=>?_) (fun a e=>?_)
 ·exact C1.of (A4 (s:=(⟨0,1⟩:Spn)) (n:=b) rfl) rfl fn0
 refine C1.cons (fun r=>bv r) a (fun e=>?_) (fun a e=>?_)
 ·exact C1.of (A4 (s:=(⟨0,0⟩:Spn)) (n:=b) rfl) rfl fn0
 refine C1.cons (fun r=>bv r) a (fun e=>?_) (fun a e=>?_)
 ·exact C1.of (A4 (s:=(⟨1,9999⟩:Spn)) (n:=b) rfl) rfl fn0
 refine C1.cons (fun r=>bv r) a (fun e=>?_) (fun a e=>?_)
 ·exact C1.of (A4 (s:=(⟨1,9999⟩:Spn)) (n:=b) rfl) rfl fn0
 refine C1.cons (fun r=>bv r) a (fun e=>?_) (fun a e=>?_)
 ·exact C1.of (A4 (s:=(⟨0,0⟩:Spn)) (n:=b) rfl) rfl fn0
 refine C1.cons (fun r=>bv r) a (fun e=>?_) (fun a e=>?_)
 ·exact C1.of (A4 (s:=(⟨0,0⟩:Spn)) (n:=b) rfl) rfl fn0
 refine C1.cons (fun r=>bv r) a (fun e=>?_) (fun a e=>?_)
 ·exact C1.of (A4 (s:=(⟨0,0⟩:Spn)) (n:=b) rfl) rfl fn0
 refine C1.cons (fun r=>bv r) a (fun e=>?_) (fun a e=>?_)
 ·exact C1.of (A4 (s:=(⟨0,9999⟩:Spn)) (n:=b) rfl) rfl fn0
 refine C1.cons (fun r=>bv r) a (fun e=>?_) (fun a e=>?_)
 ·exact C1.of (A4 (s:=(⟨0,0⟩:Spn)) (n:=b) rfl) rfl fn0
 refine C1.cons (fun r=>bv r) a (fun e=>?_) (fun a e=>?_)
 ·exact C1.of (A4 (s:=(⟨0,0⟩:Spn)) (n:=b) rfl) rfl fn0
 refine C1.cons (fun r=>bv r) a (fun e=>?_) (fun a e=>?_)
 ·exact C1.of (A4 (s:=(⟨0,0⟩:Spn)) (n:=b) rfl) rfl fn0
 refine C1.cons (fun r=>bv r) a (fun e=>?_) (fun a e=>?_)
 ·exact C1.of (A4 (s:=(⟨0,0⟩:Spn)) (n:=b) rfl) rfl fn0
 refine C1.cons (fun r=>bv r) a (fun e=>?_) (fun a e=>?_)
 ·exact C1.of (A4 (s:=(⟨0,0⟩:Spn)) (n:=b) rfl) rfl fn0
 refine C1.cons (fun r=>bv r) a (fun e=>?_) (fun a e=>?_)
 ·exact C1.of (A4 (s:=(⟨0,0⟩:Spn)) (n:=b) rfl) rfl fn0
 refine C1.cons (fun r=>bv r) a (fun e=>?_) (fun a e=>?_)
 ·exact C1.of (A4 (s:=(⟨0,0⟩:Spn)) (n:=b) rfl) rfl fn0
 refine C1.cons (fun r=>bv r) a (fun e=>?_) (fun a e=>?_)
 ·exact C1.of (A4 (s:=(⟨0,0⟩:Spn)) (n:=b) rfl) rfl fn0
 refine C1.cons (fun r=>bv r) a (fun e=>?_) (fun a e=>?_)
 ·exact C1.of (A4 (s:=(⟨0,0⟩:Spn)) (n:=b) rfl) rfl fn0
 refine C1.cons (fun r=>bv r) a (fun e=>?_) (fun a e=>?_)
 ·exact C1.of (A4 (s:=(⟨0,0⟩:Spn)) (n:=b) rfl) rfl fn0
 refine C1.cons (fun r=>bv r) a (fun e=>?_) (fun a e=>?_)
 ·exact C1.of (A4 (s:=(⟨0,0⟩:Spn)) (n:=b) rfl) rfl fn0
 refine C1.cons (fun r=>bv r) a (fun e=>?_) (fun a e=>?_)
 ·exact C1.of (A4 (s:=(⟨0,0⟩:Spn)) (n:=b) rfl) rfl fn0
 refine C1.cons (fun r=>bv r) a (fun e=>?_) (fun a e=>?_)
 ·exact C1.of (A4 (s:=(⟨0,0⟩:Spn)) (n:=b) rfl) rfl fn0
 refine C1.cons (fun r=>bv r) a (fun e=>?_) (fun a e=>?_)
 ·exact C1.of (A4 (s:=(⟨0,0⟩:Spn)) (n:=b) rfl) rfl fn0
 refine C1.cons (fun r=>bv r) a (fun e=>?_) (fun a e=>?_)
 ·exact C1.of (A4 (s:=(⟨0,0⟩:Spn)) (n:=b) rfl) rfl fn0
 refine C1.cons (fun r=>bv r) a (fun e=>?_) (fun a e=>?_)
 ·exact C1.of (A4 (s:=(⟨0,0⟩:Spn)) (n:=b) rfl) rfl fn0
 refine C1.cons (fun r=>bv r) a (fun e=>?_) (fun a e=>?_)
 ·exact C1.of (A4 (s:=(⟨0,0⟩:Spn)) (n:=b) rfl) rfl fn0
 refine C1.cons (fun r=>bv r) a (fun e=>?_) (fun a e=>?_)
 ·exact C1.of (A4 (s:=(⟨0,0⟩:Spn)) (n:=b) rfl) rfl fn0
 refine C1.cons (fun r=>bv r) a (fun e=>?_) (fun a e=>?_)
 ·exact C1.of (A4 (s:=(⟨1,9999⟩:Spn)) (n:=b) rfl) rfl fn0
 refine C1.cons (fun r=>bv r) a (fun e=>?_) (fun a e=>?_)
 ·exact C1.of (A4 (s:=(⟨1,9999⟩:Spn)) (n:=b) rfl) rfl fn0
 refine C1.cons (fun r=>bv r) a (fun e=>?_) (fun a e=>?_)
 ·exact C1.of (A4 (s:=(⟨0,0⟩:Spn)) (n:=b) rfl) rfl fn0
 refine C1.cons (fun r=>bv r) a (fun e=>?_) (fun a e=>?_)
 ·exact C1.of (A4 (s:=(⟨0,0⟩:Spn)) (n:=b) rfl) rfl fn0
 refine C1.cons (fun r=>bv r) a (fun e=>?_) (fun a e=>?_)
 ·exact C1.of (A4 (s:=(⟨0,0⟩:Spn)) (n:=b) rfl) rfl fn0
 refine C1.cons (fun r=>bv r) a (fun e=>?_) (fun a e=>?_)
 ·exact C1.of (A4 (s:=(⟨0,0⟩:Spn)) (n:=b) rfl) rfl fn0
 refine C1.cons (fun r=>bv r) a (fun e=>?_) (fun a e=>?_)
 ·exact C1.of (A4 (s:=(⟨0,0⟩:Spn)) (n:=b) rfl) rfl fn0
 refine C1.cons (fun r=>bv r) a (fun e=>?_) (fun a e=>?_)
 ·exact C1.of (A4 (s:=(⟨0,0⟩:Spn)) (n:=b) rfl) rfl fn0
 refine C1.cons (fun r=>bv r) a (fun e=>?_) (fun a e=>?_)
 ·exact C1.of (A4 (s:=(⟨0,0⟩:Spn)) (n:=b) rfl) rfl fn0
 refine C1.cons (fun r=>bv r) a (fun e=>?_) (fun a e=>?_)
 ·exact C1.of (A4 (s:=(⟨0,0⟩:Spn)) (n:=b) rfl) rfl fn0
 refine C1.cons (fun r=>bv r) a (fun e=>?_) (fun a e=>?_)
 ·exact C1.of (A4 (s:=(⟨0,0⟩:Spn)) (n:=b) rfl) rfl fn0
 refine C1.cons (fun r=>bv r) a (fun e=>?_) (fun a e=>?_)
 ·exact C1.of (A4 (s:=(⟨0,0⟩:Spn)) (n:=b) rfl) rfl fn0
 refine C1.cons (fun r=>bv r) a (fun e=>?_) (fun a e=>?_)
 ·exact C1.of (A4 (s:=(⟨0,1⟩:Spn)) (n:=b) rfl) rfl fn0
 refine C1.cons (fun r=>bv r) a (fun e=>?_) (fun a e=>?_)
 ·exact C1.of (A4 (s:=(⟨0,1⟩:Spn)) (n:=b) rfl) rfl fn0
 refine C1.cons (fun r=>bv r) a (fun e=>?_) (fun a e=>?_)
 ·exact C1.of (A4 (s:=(⟨0,1⟩:Spn)) (n:=b) rfl) rfl fn0
 exact C1.nil a
theorem A3x {a:Act} {k:Int} (h:a.kind=k):a=⟨k,a.n,a.m,a.color,a.text⟩:=by subst h;rfl
def J3 (a:Act):Int :=
 (bif (decide (a.kind=1)) then (bif ((decide ((W5 a.n)<0))||(!(decide ((⟨1,a.n,a.m,a.color,a.text⟩:Act)=(B1x a.kind a.n 0))))) then 200 else 0) else (bif (decide (a.kind=39)) then (bif (!decide ((A3d (⟨39,a.n,a.m,a.color,a.text⟩:Act))=0)) then 200 else 0) else (bif (decide (a.kind=44)) then (bif (decide (a.kind=44)) then (C9 (A9b a.n a.m a.color a.text) fun (c:List UInt8×Int)=>(bif (!decide (c.2=0)) then 200 else 0)) else (bif (((((!(O2 a.kind D8))||(!(R9 a.kind a.n)))||(!(R8 a.kind a.m)))||(!(decide (a.color=Col.zero))))||(!(decide (a.text=([]:List UInt8))))) then 200 else 0)) else (bif (decide (a.kind=45)) then (bif (decide (a.kind=45)) then (C9 (A6p a.n a.m a.color a.text) fun (b:List UInt8×Int)=>(bif (!decide (b.2=0)) then 200 else 0)) else (bif (((((!(O2 a.kind D8))||(!(R9 a.kind a.n)))||(!(R8 a.kind a.m)))||(!(decide (a.color=Col.zero))))||(!(decide (a.text=([]:List UInt8))))) then 200 else 0)) else (bif (decide (a.kind=46)) then (C9 (A6o a.n a.m a.color a.text) fun (d:List UInt8×Int)=>(bif (!decide (d.2=0)) then 200 else 0)) else (bif (((((!(O2 a.kind D8))||(!(R9 a.kind a.n)))||(!(R8 a.kind a.m)))||(!(decide (a.color=Col.zero))))||(!(decide (a.text=([]:List UInt8))))) then 200 else 0))))))
set_option maxHeartbeats 2000000 in
theorem A9i {a:Act} {R:Int} (hR:J3 a=R) (hs:a.text.length≤100000000:=by exact om_):G3 Tryz.prog 18 [ag (A2 a)] [A4n,A4q,P0,O4,K0] (iv R):=by
 refine zce Tryz.func18 fun X hX hr hD=>?_
 replace hR:=(J3.eq_1 ..).symm.trans hR
 refine sR_ rfl (H9 2 0 [] (fun c=>[(1,pt c 0)]) (fun c=>[bx c (A2 a) 56]) (fun c=>(ie (sR_ rfl (pp1 1 3 rfl (ie (A5 (sR_ rfl (pl1 2 [0] 7 rfl (ie (B4 (sR_ rfl (pp1 2 44 rfl (ie ?_))))))))))))))
 refine zjd rfl hR ?_ ?_<;>clear hR<;>intro hR h2 bo
 ·refine sd 13 rfl okl rfl (pg1 2 [0] 47 rfl (zvd rfl (A4o rfl) (pd1 2 50 rfl ?_)))
  refine zdr 8 0 50 58 (!(decide ((⟨1,a.n,a.m,a.color,a.text⟩:Act)=(B1x a.kind a.n 0)))) (fun g3 d4=>?_) ?_
  ·refine dd rfl (by exact I2 (F7 (us:=A2 a) B5a rfl rfl 0 rfl rfl rfl) (congrArg (fun z=>ag (A2 z)) (A3x bo))) (pg2 4 [0,0] 53 55 rfl (zvd rfl (C9x rfl) (dd rfl (A0t (a:=(⟨1,a.n,a.m,a.color,a.text⟩:Act)) (b:=(B1x a.kind a.n 0)) D8s rfl rfl rfl) (pd1 1 58 rfl ?_))))
   exact zad 7 50 58 g3
  refine de ?_
  refine zjb rfl hR ?_ ?_<;>clear hR<;>intro hR h4
  ·have bi:=bq_ h4
   refine A1 1 rfl (pp1 1 3 rfl (A3 (nx (A5 (sR_ rfl (pp1 2 73 rfl (ie (G8 rfl (sR_ rfl (pp1 1 2 rfl ?_))))))))))
   subst hR
   refine ie (A8 ?_)
   exact E9 hr hD
  have bi:=bq_ h4
  refine A6 (nx (A5 (sR_ rfl (pp1 2 73 rfl (ie (A0f rfl (A6 (nx (sR_ rfl (pp1 1 2 rfl ?_))))))))))
  subst hR
  refine ie (A8 ?_)
  exact E9 hr hD
 refine sR_ rfl (pp1 2 59 rfl (ie ?_))
 refine zjd rfl hR ?_ ?_<;>clear hR<;>intro hR h5 bn
 ·refine A1 3 rfl (ix rfl (by exact I2 (F7 (us:=A2 a) B5a rfl rfl 0 rfl rfl rfl) (congrArg (fun z=>ag (A2 z)) (A3x bn))) (zv rfl (B1o rfl) (pp1 1 3 rfl (A3 (nx (A5 (sR_ rfl (pp1 2 73 rfl (ie ?_)))))))))
  refine zjn rfl hR ?_ ?_<;>clear hR<;>intro hR h6 d2
  ·refine sR_ rfl (pp1 1 2 rfl ?_)
   subst hR
   refine ie (A8 ?_)
   exact E9 hr hD
  refine A6 (nx (sR_ rfl (pp1 1 2 rfl ?_)))
  subst hR
  refine ie (A8 ?_)
  exact E9 hr hD
 refine A5 (sR_ rfl (pp1 2 63 rfl ?_))
 refine ie ?_
 refine zjd rfl hR ?_ ?_<;>clear hR<;>intro hR h7 d1
 ·refine A6 (nx ?_)
  refine zjd rfl hR ?_ ?_<;>clear hR<;>intro hR h8 bp
  ·refine A1 6 rfl (ix rfl (by exact I2 (F7 (us:=A2 a) B5a rfl rfl 0 rfl rfl rfl) (congrArg (fun z=>ag (A2 z)) (A3x bp))) ?_)
   have hQ:=D0 hR;clear hR;obtain ⟨y0,al,hR⟩:=hQ
   refine zv rfl (C2f al) ?_
   have:=B1j a.n a.m a.color a.text;try rw [al] at this
   refine pp1 4 3 rfl (A3 (nx (A5 (sR_ rfl (pp1 2 73 rfl (ie ?_))))))
   refine zjn rfl hR ?_ ?_<;>clear hR<;>intro hR h9 d3
   ·refine sR_ rfl (pp1 1 2 rfl ?_)
    subst hR
    refine ie (A8 ?_)
    exact E9 hr hD
   refine A6 (nx (sR_ rfl (pp1 1 2 rfl ?_)))
   subst hR
   refine ie (A8 ?_)
   exact E9 hr hD
  refine sh 10 [(10,[bx c (A2 a) 56])] [A4n,A4q,P0,O4,K0] [bx c (A2 a) 56] (zml 10 0) okl rfl okl okl okl sb_ B0.refl ?_
  refine zhp [1] 9 (zml 10 2) [(10,pt c 0)] ?_
  refine zhl 2 [bx c (A2 a) 56] (zml 10 6) rfl (A7 (v:=iv a.kind) ty3 rfl rfl 0 rfl rfl) ?_
  refine A6t 0 7 okl ?_ ?_
  ·refine B2m 0 [bx c (A2 a) 56] (zml 10 7) rfl rfl rfl okl okl okl (C8 (L2:=[bx c (A2 a) 56]) (Z0 rfl) rfl rfl rfl rfl rfl fn0 (List.Perm.refl _) (fun e=>[(e,.map (B3 C9c 0).toArray 41),bx c (A2 a) 56]) (fun _=>rfl)) (fun e=>sb_) (fun e=>B0.refl) fun e=>?_
   refine A6t 3 7 okl ?_ ?_
   ·refine B2m 3 [bx c (A2 a) 56] (zml 10 15) rfl rfl rfl okl okl okl (Det.tri (G7.det (by exact I2 (S9 B3w K3 rfl rfl rfl 0 rfl okl okl) (A1w a.kind)))) (fun _=>sb_) (fun _=>B0.refl) fun _=>?_
    refine zhp [4,5,6] 3 (zml 10 127) [(13,ag [(lkV a.kind .nilFunc D8),(lkV a.kind .nilFunc J5)]),(14,bv (O2 a.kind D8))] ?_
    refine zho 7 [bx c (A2 a) 56] (zml 10 255) rfl (V7 (cs:=[.nilFunc,.nilFunc]) A8k rfl) (fun b9=>sb_) (fun b9=>B0.refl) fun b9=>?_
    refine zho 8 [bx c (A2 a) 56] (zml 10 511) rfl (F2 (us:=[(lkV a.kind .nilFunc D8),(lkV a.kind .nilFunc J5)]) (cs':=[(lkV a.kind .nilFunc D8),(lkV a.kind .nilFunc J5)]) C0d rfl rfl rfl 0 rfl rfl rfl (by simp only [List.all_cons,List.all_nil,Bool.and_true,Bool.and_eq_true];exact ⟨S6 rfl rfl,S6 rfl rfl⟩) rfl rfl) (fun _=>sb_) (fun _=>B0.refl) fun _=>?_
    refine zhp [9] 0 (zml 10 1023) [(5,bv (O2 a.kind D8))] ?_
    refine A3w okl ?_
    refine sR_ rfl (pp1 3 17 rfl ?_)
    refine zio 7 19 17 24 (!(R9 a.kind a.n)) (fun bj=>?_) ?_
    ·refine pp1 1 18 rfl (ix rfl (A7 (v:=(lkV a.kind .nilFunc D8)) B1g rfl rfl 0 rfl rfl) (pp1 1 20 rfl (ix rfl (A7 (v:=iv a.n) ty3 rfl rfl 2 rfl rfl) (ixc rfl (P4 (A0n a.kind a.n (by first|assumption|(have d:O2 a.kind D8=true:=och;exact d)) _ rfl) rfl rfl rfl rfl fn0) (pp1 2 24 rfl ?_)))))
     exact zai 7 17 24 bj
    refine pp1 1 25 rfl ?_
    refine zio 7 11 25 32 (!(R8 a.kind a.m)) (fun aa=>?_) ?_
    ·have ca:=bq_ aa
     refine pp1 1 26 rfl (ix rfl (A7 (v:=(lkV a.kind .nilFunc J5)) B1g rfl rfl 0 rfl rfl) (pp1 1 28 rfl (ix rfl (A7 (v:=iv a.m) ty3 rfl rfl 2 rfl rfl) (ixc rfl (P4 (A0l a.kind a.m (by first|assumption|(have d:O2 a.kind D8=true:=och;exact d)) _ rfl) rfl rfl rfl rfl fn0) (pp1 2 32 rfl ?_)))))
     exact zai 7 25 32 aa
    refine pp1 1 33 rfl ?_
    refine zio 5 5 33 38 (!(decide (a.color=Col.zero))) (fun aq=>?_) ?_
    ·have bz:=bq_ aq
     refine pp1 1 34 rfl (ix rfl (F7 (us:=U0 a.color) B4f rfl rfl 2 rfl rfl rfl) (zrl 1 2 [] [(36,ag (U0 Col.zero))] (ix rfl (A0t (a:=a.color) (b:=Col.zero) B4a rfl rfl rfl) (pp1 1 38 rfl ?_))))
     exact zai 6 33 38 aq
    refine pp1 1 39 rfl ?_
    refine zio 4 0 39 43 (!(decide (a.text=([]:List UInt8)))) (fun a8=>?_) ?_
    ·have c8:=bq_ a8
     refine pp1 1 40 rfl (ix rfl (A7 (v:=sv a.text) ty9 rfl rfl 2 rfl rfl) (ix rfl (A1x rfl rfl rfl) (pp1 1 43 rfl ?_)))
     exact zai 5 39 43 a8
    refine ie ?_
    refine zjb rfl hR ?_ ?_<;>clear hR<;>intro hR aj
    ·have a3:=bq_ aj
     refine A1 1 rfl (pp1 1 3 rfl (A3 (nx (A5 (sR_ rfl (pp1 2 73 rfl (ie (G8 rfl (sR_ rfl (pp1 1 2 rfl ?_))))))))))
     subst hR
     refine ie (A8 ?_)
     exact E9 hr hD
    have a3:=bq_ aj
    refine A6 (nx (A5 (sR_ rfl (pp1 2 73 rfl (ie (A0f rfl (A6 (nx (sR_ rfl (pp1 1 2 rfl ?_))))))))))
    subst hR
    refine ie (A8 ?_)
    exact E9 hr hD
   ·refine B2m 7 [bx c (A2 a) 56] (zml 10 135) rfl rfl rfl okl okl okl (V7 (cs:=[.nilFunc,.nilFunc]) A8k rfl) (fun ac=>sb_) (fun ac=>B0.refl) fun ac=>?_
    refine zho 3 [bx c (A2 a) 56] (zml 10 143) rfl (Det.tri (G7.det (by exact I2 (S9 B3w K3 rfl rfl rfl 1 rfl okl okl) (A1w a.kind)))) (fun _=>sb_) (fun _=>B0.refl) fun _=>?_
    refine zhp [4,5,6] 2 (zml 10 255) [(13,ag [(lkV a.kind .nilFunc D8),(lkV a.kind .nilFunc J5)]),(14,bv (O2 a.kind D8))] ?_
    refine zho 8 [bx c (A2 a) 56] (zml 10 511) rfl (F2 (us:=[(lkV a.kind .nilFunc D8),(lkV a.kind .nilFunc J5)]) (cs':=[(lkV a.kind .nilFunc D8),(lkV a.kind .nilFunc J5)]) C0d rfl rfl rfl 0 rfl rfl rfl (by simp only [List.all_cons,List.all_nil,Bool.and_true,Bool.and_eq_true];exact ⟨S6 rfl rfl,S6 rfl rfl⟩) rfl rfl) (fun _=>sb_) (fun _=>B0.refl) fun _=>?_
    refine zhp [9] 0 (zml 10 1023) [(5,bv (O2 a.kind D8))] ?_
    refine A3w okl ?_
    refine sR_ rfl (pp1 3 17 rfl ?_)
    refine zio 7 19 17 24 (!(R9 a.kind a.n)) (fun bk=>?_) ?_
    ·refine pp1 1 18 rfl (ix rfl (A7 (v:=(lkV a.kind .nilFunc D8)) B1g rfl rfl 0 rfl rfl) (pp1 1 20 rfl (ix rfl (A7 (v:=iv a.n) ty3 rfl rfl 2 rfl rfl) (ixc rfl (P4 (A0n a.kind a.n (by first|assumption|(have d:O2 a.kind D8=true:=och;exact d)) _ rfl) rfl rfl rfl rfl fn0) (pp1 2 24 rfl ?_)))))
     exact zai 7 17 24 bk
    refine pp1 1 25 rfl ?_
    refine zio 7 11 25 32 (!(R8 a.kind a.m)) (fun bg=>?_) ?_
    ·have c9:=bq_ bg
     refine pp1 1 26 rfl (ix rfl (A7 (v:=(lkV a.kind .nilFunc J5)) B1g rfl rfl 0 rfl rfl) (pp1 1 28 rfl (ix rfl (A7 (v:=iv a.m) ty3 rfl rfl 2 rfl rfl) (ixc rfl (P4 (A0l a.kind a.m (by first|assumption|(have d:O2 a.kind D8=true:=och;exact d)) _ rfl) rfl rfl rfl rfl fn0) (pp1 2 32 rfl ?_)))))
     exact zai 7 25 32 bg
    refine pp1 1 33 rfl ?_
    refine zio 5 5 33 38 (!(decide (a.color=Col.zero))) (fun ap=>?_) ?_
    ·have cf:=bq_ ap
     refine pp1 1 34 rfl (ix rfl (F7 (us:=U0 a.color) B4f rfl rfl 2 rfl rfl rfl) (zrl 1 2 [] [(36,ag (U0 Col.zero))] (ix rfl (A0t (a:=a.color) (b:=Col.zero) B4a rfl rfl rfl) (pp1 1 38 rfl ?_))))
     exact zai 6 33 38 ap
    refine pp1 1 39 rfl ?_
    refine zio 4 0 39 43 (!(decide (a.text=([]:List UInt8)))) (fun ba=>?_) ?_
    ·have cm:=bq_ ba
     refine pp1 1 40 rfl (ix rfl (A7 (v:=sv a.text) ty9 rfl rfl 2 rfl rfl) (ix rfl (A1x rfl rfl rfl) (pp1 1 43 rfl ?_)))
     exact zai 5 39 43 ba
    refine ie ?_
    refine zjb rfl hR ?_ ?_<;>clear hR<;>intro hR az
    ·have au:=bq_ az
     refine A1 1 rfl (pp1 1 3 rfl (A3 (nx (A5 (sR_ rfl (pp1 2 73 rfl (ie (G8 rfl (sR_ rfl (pp1 1 2 rfl ?_))))))))))
     subst hR
     refine ie (A8 ?_)
     exact E9 hr hD
    have au:=bq_ az
    refine A6 (nx (A5 (sR_ rfl (pp1 2 73 rfl (ie (A0f rfl (A6 (nx (sR_ rfl (pp1 1 2 rfl ?_))))))))))
    subst hR
    refine ie (A8 ?_)
    exact E9 hr hD
  ·refine B2m 7 [bx c (A2 a) 56] (zml 10 134) rfl rfl rfl okl okl okl (V7 (cs:=[.nilFunc,.nilFunc]) A8k rfl) (fun k=>sb_) (fun k=>B0.refl) fun k=>?_
   refine zho 0 [bx c (A2 a) 56] (zml 10 135) rfl (C8 (L2:=[bx k [.nilFunc,.nilFunc] 107,bx c (A2 a) 56]) (Z0 rfl) rfl rfl rfl rfl rfl fn0 (List.Perm.refl _) (fun o=>[(o,.map (B3 C9c 0).toArray 41),bx k [.nilFunc,.nilFunc] 107,bx c (A2 a) 56]) (fun _=>rfl)) (fun o=>sb_) (fun o=>B0.refl) fun o=>?_
   refine zho 3 [bx c (A2 a) 56] (zml 10 143) rfl (Det.tri (G7.det (by exact I2 (S9 B3w K3 rfl rfl rfl 0 rfl okl okl) (A1w a.kind)))) (fun _=>sb_) (fun _=>B0.refl) fun _=>?_
   refine zhp [4,5,6] 2 (zml 10 255) [(13,ag [(lkV a.kind .nilFunc D8),(lkV a.kind .nilFunc J5)]),(14,bv (O2 a.kind D8))] ?_
   refine zho 8 [bx c (A2 a) 56] (zml 10 511) rfl (F2 (us:=[(lkV a.kind .nilFunc D8),(lkV a.kind .nilFunc J5)]) (cs':=[(lkV a.kind .nilFunc D8),(lkV a.kind .nilFunc J5)]) C0d rfl rfl rfl 1 rfl rfl rfl (by simp only [List.all_cons,List.all_nil,Bool.and_true,Bool.and_eq_true];exact ⟨S6 rfl rfl,S6 rfl rfl⟩) rfl rfl) (fun _=>sb_) (fun _=>B0.refl) fun _=>?_
   refine zhp [9] 0 (zml 10 1023) [(5,bv (O2 a.kind D8))] ?_
   refine A3w okl ?_
   refine sR_ rfl (pp1 3 17 rfl ?_)
   refine zio 7 19 17 24 (!(R9 a.kind a.n)) (fun bu=>?_) ?_
   ·refine pp1 1 18 rfl (ix rfl (A7 (v:=(lkV a.kind .nilFunc D8)) B1g rfl rfl 1 rfl rfl) (pp1 1 20 rfl (ix rfl (A7 (v:=iv a.n) ty3 rfl rfl 2 rfl rfl) (ixc rfl (P4 (A0n a.kind a.n (by first|assumption|(have d:O2 a.kind D8=true:=och;exact d)) _ rfl) rfl rfl rfl rfl fn0) (pp1 2 24 rfl ?_)))))
    exact zai 7 17 24 bu
   refine pp1 1 25 rfl ?_
   refine zio 7 11 25 32 (!(R8 a.kind a.m)) (fun a0=>?_) ?_
   ·have c6:=bq_ a0
    refine pp1 1 26 rfl (ix rfl (A7 (v:=(lkV a.kind .nilFunc J5)) B1g rfl rfl 1 rfl rfl) (pp1 1 28 rfl (ix rfl (A7 (v:=iv a.m) ty3 rfl rfl 2 rfl rfl) (ixc rfl (P4 (A0l a.kind a.m (by first|assumption|(have d:O2 a.kind D8=true:=och;exact d)) _ rfl) rfl rfl rfl rfl fn0) (pp1 2 32 rfl ?_)))))
    exact zai 7 25 32 a0
   refine pp1 1 33 rfl ?_
   refine zio 5 5 33 38 (!(decide (a.color=Col.zero))) (fun ad=>?_) ?_
   ·have c7:=bq_ ad
    refine pp1 1 34 rfl (ix rfl (F7 (us:=U0 a.color) B4f rfl rfl 2 rfl rfl rfl) (zrl 1 2 [] [(36,ag (U0 Col.zero))] (ix rfl (A0t (a:=a.color) (b:=Col.zero) B4a rfl rfl rfl) (pp1 1 38 rfl ?_))))
    exact zai 6 33 38 ad
   refine pp1 1 39 rfl ?_
   refine zio 4 0 39 43 (!(decide (a.text=([]:List UInt8)))) (fun q=>?_) ?_
   ·have cl:=bq_ q
    refine pp1 1 40 rfl (ix rfl (A7 (v:=sv a.text) ty9 rfl rfl 2 rfl rfl) (ix rfl (A1x rfl rfl rfl) (pp1 1 43 rfl ?_)))
    exact zai 5 39 43 q
   refine ie ?_
   refine zjb rfl hR ?_ ?_<;>clear hR<;>intro hR am
   ·have b4:=bq_ am
    refine A1 1 rfl (pp1 1 3 rfl (A3 (nx (A5 (sR_ rfl (pp1 2 73 rfl (ie (G8 rfl (sR_ rfl (pp1 1 2 rfl ?_))))))))))
    subst hR
    refine ie (A8 ?_)
    exact E9 hr hD
   have b4:=bq_ am
   refine A6 (nx (A5 (sR_ rfl (pp1 2 73 rfl (ie (A0f rfl (A6 (nx (sR_ rfl (pp1 1 2 rfl ?_))))))))))
   subst hR
   refine ie (A8 ?_)
   exact E9 hr hD
 refine sR_ rfl (pp1 2 63 rfl (ie ?_))
 refine zjd rfl hR ?_ ?_<;>clear hR<;>intro hR cw ce
 ·refine A6 (nx ?_)
  refine zjd rfl hR ?_ ?_<;>clear hR<;>intro hR cz be
  ·refine A1 6 rfl (ix rfl (by exact I2 (F7 (us:=A2 a) B5a rfl rfl 0 rfl rfl rfl) (congrArg (fun z=>ag (A2 z)) (A3x be))) ?_)
   have hQ:=D0 hR;clear hR;obtain ⟨y1,b7,hR⟩:=hQ
   refine zv rfl (B9z b7) ?_
   have:=A9x a.n a.m a.color a.text;try rw [b7] at this
   refine pp1 4 3 rfl (A3 (nx (A5 (sR_ rfl (pp1 2 73 rfl (ie ?_))))))
   refine zjn rfl hR ?_ ?_<;>clear hR<;>intro hR cy cr
   ·refine sR_ rfl (pp1 1 2 rfl ?_)
    subst hR
    refine ie (A8 ?_)
    exact E9 hr hD
   refine A6 (nx (sR_ rfl (pp1 1 2 rfl ?_)))
   subst hR
   refine ie (A8 ?_)
   exact E9 hr hD
  refine sh 10 [(10,[bx c (A2 a) 56])] [A4n,A4q,P0,O4,K0] [bx c (A2 a) 56] (zml 10 0) okl rfl okl okl okl sb_ B0.refl ?_
  refine zhp [1] 9 (zml 10 2) [(10,pt c 0)] ?_
  refine zhl 2 [bx c (A2 a) 56] (zml 10 6) rfl (A7 (v:=iv a.kind) ty3 rfl rfl 0 rfl rfl) ?_
  refine A6t 0 7 okl ?_ ?_
  ·refine B2m 0 [bx c (A2 a) 56] (zml 10 7) rfl rfl rfl okl okl okl (C8 (L2:=[bx c (A2 a) 56]) (Z0 rfl) rfl rfl rfl rfl rfl fn0 (List.Perm.refl _) (fun g=>[(g,.map (B3 C9c 0).toArray 41),bx c (A2 a) 56]) (fun _=>rfl)) (fun g=>sb_) (fun g=>B0.refl) fun g=>?_
   refine A6t 3 7 okl ?_ ?_
   ·refine B2m 3 [bx c (A2 a) 56] (zml 10 15) rfl rfl rfl okl okl okl (Det.tri (G7.det (by exact I2 (S9 B3w K3 rfl rfl rfl 0 rfl okl okl) (A1w a.kind)))) (fun _=>sb_) (fun _=>B0.refl) fun _=>?_
    refine zhp [4,5,6] 3 (zml 10 127) [(13,ag [(lkV a.kind .nilFunc D8),(lkV a.kind .nilFunc J5)]),(14,bv (O2 a.kind D8))] ?_
    refine zho 7 [bx c (A2 a) 56] (zml 10 255) rfl (V7 (cs:=[.nilFunc,.nilFunc]) A8k rfl) (fun an=>sb_) (fun an=>B0.refl) fun an=>?_
    refine zho 8 [bx c (A2 a) 56] (zml 10 511) rfl (F2 (us:=[(lkV a.kind .nilFunc D8),(lkV a.kind .nilFunc J5)]) (cs':=[(lkV a.kind .nilFunc D8),(lkV a.kind .nilFunc J5)]) C0d rfl rfl rfl 0 rfl rfl rfl (by simp only [List.all_cons,List.all_nil,Bool.and_true,Bool.and_eq_true];exact ⟨S6 rfl rfl,S6 rfl rfl⟩) rfl rfl) (fun _=>sb_) (fun _=>B0.refl) fun _=>?_
    refine zhp [9] 0 (zml 10 1023) [(5,bv (O2 a.kind D8))] ?_
    refine A3w okl ?_
    refine sR_ rfl (pp1 3 17 rfl ?_)
    refine zio 7 19 17 24 (!(R9 a.kind a.n)) (fun bm=>?_) ?_
    ·refine pp1 1 18 rfl (ix rfl (A7 (v:=(lkV a.kind .nilFunc D8)) B1g rfl rfl 0 rfl rfl) (pp1 1 20 rfl (ix rfl (A7 (v:=iv a.n) ty3 rfl rfl 2 rfl rfl) (ixc rfl (P4 (A0n a.kind a.n (by first|assumption|(have d:O2 a.kind D8=true:=och;exact d)) _ rfl) rfl rfl rfl rfl fn0) (pp1 2 24 rfl ?_)))))
     exact zai 7 17 24 bm
    refine pp1 1 25 rfl ?_
    refine zio 7 11 25 32 (!(R8 a.kind a.m)) (fun bc=>?_) ?_
    ·have ci:=bq_ bc
     refine pp1 1 26 rfl (ix rfl (A7 (v:=(lkV a.kind .nilFunc J5)) B1g rfl rfl 0 rfl rfl) (pp1 1 28 rfl (ix rfl (A7 (v:=iv a.m) ty3 rfl rfl 2 rfl rfl) (ixc rfl (P4 (A0l a.kind a.m (by first|assumption|(have d:O2 a.kind D8=true:=och;exact d)) _ rfl) rfl rfl rfl rfl fn0) (pp1 2 32 rfl ?_)))))
     exact zai 7 25 32 bc
    refine pp1 1 33 rfl ?_
    refine zio 5 5 33 38 (!(decide (a.color=Col.zero))) (fun a2=>?_) ?_
    ·have c5:=bq_ a2
     refine pp1 1 34 rfl (ix rfl (F7 (us:=U0 a.color) B4f rfl rfl 2 rfl rfl rfl) (zrl 1 2 [] [(36,ag (U0 Col.zero))] (ix rfl (A0t (a:=a.color) (b:=Col.zero) B4a rfl rfl rfl) (pp1 1 38 rfl ?_))))
     exact zai 6 33 38 a2
    refine pp1 1 39 rfl ?_
    refine zio 4 0 39 43 (!(decide (a.text=([]:List UInt8)))) (fun a5=>?_) ?_
    ·have cu:=bq_ a5
     refine pp1 1 40 rfl (ix rfl (A7 (v:=sv a.text) ty9 rfl rfl 2 rfl rfl) (ix rfl (A1x rfl rfl rfl) (pp1 1 43 rfl ?_)))
     exact zai 5 39 43 a5
    refine ie ?_
    refine zjb rfl hR ?_ ?_<;>clear hR<;>intro hR bb
    ·have a6:=bq_ bb
     refine A1 1 rfl (pp1 1 3 rfl (A3 (nx (A5 (sR_ rfl (pp1 2 73 rfl (ie (G8 rfl (sR_ rfl (pp1 1 2 rfl ?_))))))))))
     subst hR
     refine ie (A8 ?_)
     exact E9 hr hD
    have a6:=bq_ bb
    refine A6 (nx (A5 (sR_ rfl (pp1 2 73 rfl (ie (A0f rfl (A6 (nx (sR_ rfl (pp1 1 2 rfl ?_))))))))))
    subst hR
    refine ie (A8 ?_)
    exact E9 hr hD
   ·refine B2m 7 [bx c (A2 a) 56] (zml 10 135) rfl rfl rfl okl okl okl (V7 (cs:=[.nilFunc,.nilFunc]) A8k rfl) (fun ai=>sb_) (fun ai=>B0.refl) fun ai=>?_
    refine zho 3 [bx c (A2 a) 56] (zml 10 143) rfl (Det.tri (G7.det (by exact I2 (S9 B3w K3 rfl rfl rfl 1 rfl okl okl) (A1w a.kind)))) (fun _=>sb_) (fun _=>B0.refl) fun _=>?_
    refine zhp [4,5,6] 2 (zml 10 255) [(13,ag [(lkV a.kind .nilFunc D8),(lkV a.kind .nilFunc J5)]),(14,bv (O2 a.kind D8))] ?_
    refine zho 8 [bx c (A2 a) 56] (zml 10 511) rfl (F2 (us:=[(lkV a.kind .nilFunc D8),(lkV a.kind .nilFunc J5)]) (cs':=[(lkV a.kind .nilFunc D8),(lkV a.kind .nilFunc J5)]) C0d rfl rfl rfl 0 rfl rfl rfl (by simp only [List.all_cons,List.all_nil,Bool.and_true,Bool.and_eq_true];exact ⟨S6 rfl rfl,S6 rfl rfl⟩) rfl rfl) (fun _=>sb_) (fun _=>B0.refl) fun _=>?_
    refine zhp [9] 0 (zml 10 1023) [(5,bv (O2 a.kind D8))] ?_
    refine A3w okl ?_
    refine sR_ rfl (pp1 3 17 rfl ?_)
    refine zio 7 19 17 24 (!(R9 a.kind a.n)) (fun bq=>?_) ?_
    ·refine pp1 1 18 rfl (ix rfl (A7 (v:=(lkV a.kind .nilFunc D8)) B1g rfl rfl 0 rfl rfl) (pp1 1 20 rfl (ix rfl (A7 (v:=iv a.n) ty3 rfl rfl 2 rfl rfl) (ixc rfl (P4 (A0n a.kind a.n (by first|assumption|(have d:O2 a.kind D8=true:=och;exact d)) _ rfl) rfl rfl rfl rfl fn0) (pp1 2 24 rfl ?_)))))
     exact zai 7 17 24 bq
    refine pp1 1 25 rfl ?_
    refine zio 7 11 25 32 (!(R8 a.kind a.m)) (fun a9=>?_) ?_
    ·have cb:=bq_ a9
     refine pp1 1 26 rfl (ix rfl (A7 (v:=(lkV a.kind .nilFunc J5)) B1g rfl rfl 0 rfl rfl) (pp1 1 28 rfl (ix rfl (A7 (v:=iv a.m) ty3 rfl rfl 2 rfl rfl) (ixc rfl (P4 (A0l a.kind a.m (by first|assumption|(have d:O2 a.kind D8=true:=och;exact d)) _ rfl) rfl rfl rfl rfl fn0) (pp1 2 32 rfl ?_)))))
     exact zai 7 25 32 a9
    refine pp1 1 33 rfl ?_
    refine zio 5 5 33 38 (!(decide (a.color=Col.zero))) (fun w=>?_) ?_
    ·have cq:=bq_ w
     refine pp1 1 34 rfl (ix rfl (F7 (us:=U0 a.color) B4f rfl rfl 2 rfl rfl rfl) (zrl 1 2 [] [(36,ag (U0 Col.zero))] (ix rfl (A0t (a:=a.color) (b:=Col.zero) B4a rfl rfl rfl) (pp1 1 38 rfl ?_))))
     exact zai 6 33 38 w
    refine pp1 1 39 rfl ?_
    refine zio 4 0 39 43 (!(decide (a.text=([]:List UInt8)))) (fun r=>?_) ?_
    ·have c3:=bq_ r
     refine pp1 1 40 rfl (ix rfl (A7 (v:=sv a.text) ty9 rfl rfl 2 rfl rfl) (ix rfl (A1x rfl rfl rfl) (pp1 1 43 rfl ?_)))
     exact zai 5 39 43 r
    refine ie ?_
    refine zjb rfl hR ?_ ?_<;>clear hR<;>intro hR b2
    ·have b3:=bq_ b2
     refine A1 1 rfl (pp1 1 3 rfl (A3 (nx (A5 (sR_ rfl (pp1 2 73 rfl (ie (G8 rfl (sR_ rfl (pp1 1 2 rfl ?_))))))))))
     subst hR
     refine ie (A8 ?_)
     exact E9 hr hD
    have b3:=bq_ b2
    refine A6 (nx (A5 (sR_ rfl (pp1 2 73 rfl (ie (A0f rfl (A6 (nx (sR_ rfl (pp1 1 2 rfl ?_))))))))))
    subst hR
    refine ie (A8 ?_)
    exact E9 hr hD
  ·refine B2m 7 [bx c (A2 a) 56] (zml 10 134) rfl rfl rfl okl okl okl (V7 (cs:=[.nilFunc,.nilFunc]) A8k rfl) (fun f=>sb_) (fun f=>B0.refl) fun f=>?_
   refine zho 0 [bx c (A2 a) 56] (zml 10 135) rfl (C8 (L2:=[bx f [.nilFunc,.nilFunc] 107,bx c (A2 a) 56]) (Z0 rfl) rfl rfl rfl rfl rfl fn0 (List.Perm.refl _) (fun i=>[(i,.map (B3 C9c 0).toArray 41),bx f [.nilFunc,.nilFunc] 107,bx c (A2 a) 56]) (fun _=>rfl)) (fun i=>sb_) (fun i=>B0.refl) fun i=>?_
   refine zho 3 [bx c (A2 a) 56] (zml 10 143) rfl (Det.tri (G7.det (by exact I2 (S9 B3w K3 rfl rfl rfl 0 rfl okl okl) (A1w a.kind)))) (fun _=>sb_) (fun _=>B0.refl) fun _=>?_
   refine zhp [4,5,6] 2 (zml 10 255) [(13,ag [(lkV a.kind .nilFunc D8),(lkV a.kind .nilFunc J5)]),(14,bv (O2 a.kind D8))] ?_
   refine zho 8 [bx c (A2 a) 56] (zml 10 511) rfl (F2 (us:=[(lkV a.kind .nilFunc D8),(lkV a.kind .nilFunc J5)]) (cs':=[(lkV a.kind .nilFunc D8),(lkV a.kind .nilFunc J5)]) C0d rfl rfl rfl 1 rfl rfl rfl (by simp only [List.all_cons,List.all_nil,Bool.and_true,Bool.and_eq_true];exact ⟨S6 rfl rfl,S6 rfl rfl⟩) rfl rfl) (fun _=>sb_) (fun _=>B0.refl) fun _=>?_
   refine zhp [9] 0 (zml 10 1023) [(5,bv (O2 a.kind D8))] ?_
   refine A3w okl ?_
   refine sR_ rfl (pp1 3 17 rfl ?_)
   refine zio 7 19 17 24 (!(R9 a.kind a.n)) (fun bl=>?_) ?_
   ·refine pp1 1 18 rfl (ix rfl (A7 (v:=(lkV a.kind .nilFunc D8)) B1g rfl rfl 1 rfl rfl) (pp1 1 20 rfl (ix rfl (A7 (v:=iv a.n) ty3 rfl rfl 2 rfl rfl) (ixc rfl (P4 (A0n a.kind a.n (by first|assumption|(have d:O2 a.kind D8=true:=och;exact d)) _ rfl) rfl rfl rfl rfl fn0) (pp1 2 24 rfl ?_)))))
    exact zai 7 17 24 bl
   refine pp1 1 25 rfl ?_
   refine zio 7 11 25 32 (!(R8 a.kind a.m)) (fun y=>?_) ?_
   ·have ct:=bq_ y
    refine pp1 1 26 rfl (ix rfl (A7 (v:=(lkV a.kind .nilFunc J5)) B1g rfl rfl 1 rfl rfl) (pp1 1 28 rfl (ix rfl (A7 (v:=iv a.m) ty3 rfl rfl 2 rfl rfl) (ixc rfl (P4 (A0l a.kind a.m (by first|assumption|(have d:O2 a.kind D8=true:=och;exact d)) _ rfl) rfl rfl rfl rfl fn0) (pp1 2 32 rfl ?_)))))
    exact zai 7 25 32 y
   refine pp1 1 33 rfl ?_
   refine zio 5 5 33 38 (!(decide (a.color=Col.zero))) (fun av=>?_) ?_
   ·have co:=bq_ av
    refine pp1 1 34 rfl (ix rfl (F7 (us:=U0 a.color) B4f rfl rfl 2 rfl rfl rfl) (zrl 1 2 [] [(36,ag (U0 Col.zero))] (ix rfl (A0t (a:=a.color) (b:=Col.zero) B4a rfl rfl rfl) (pp1 1 38 rfl ?_))))
    exact zai 6 33 38 av
   refine pp1 1 39 rfl ?_
   refine zio 4 0 39 43 (!(decide (a.text=([]:List UInt8)))) (fun x=>?_) ?_
   ·have c0:=bq_ x
    refine pp1 1 40 rfl (ix rfl (A7 (v:=sv a.text) ty9 rfl rfl 2 rfl rfl) (ix rfl (A1x rfl rfl rfl) (pp1 1 43 rfl ?_)))
    exact zai 5 39 43 x
   refine ie ?_
   refine zjb rfl hR ?_ ?_<;>clear hR<;>intro hR p
   ·have ae:=bq_ p
    refine A1 1 rfl (pp1 1 3 rfl (A3 (nx (A5 (sR_ rfl (pp1 2 73 rfl (ie (G8 rfl (sR_ rfl (pp1 1 2 rfl ?_))))))))))
    subst hR
    refine ie (A8 ?_)
    exact E9 hr hD
   have ae:=bq_ p
   refine A6 (nx (A5 (sR_ rfl (pp1 2 73 rfl (ie (A0f rfl (A6 (nx (sR_ rfl (pp1 1 2 rfl ?_))))))))))
   subst hR
   refine ie (A8 ?_)
   exact E9 hr hD
 refine A1 2 rfl (pp1 2 63 rfl (A3 (nx ?_)))
 refine zjd rfl hR ?_ ?_<;>clear hR<;>intro hR d0 a4
 ·refine A1 6 rfl (ix rfl (by exact I2 (F7 (us:=A2 a) B5a rfl rfl 0 rfl rfl rfl) (congrArg (fun z=>ag (A2 z)) (A3x a4))) ?_)
  have hQ:=D0 hR;clear hR;obtain ⟨y2,ah,hR⟩:=hQ
  refine zv rfl (B9u ah) ?_
  have:=A9v a.n a.m a.color a.text;try rw [ah] at this
  refine pp1 4 3 rfl (A3 (nx (A5 (sR_ rfl (pp1 2 73 rfl (ie ?_))))))
  refine zjn rfl hR ?_ ?_<;>clear hR<;>intro hR d5 cg
  ·refine sR_ rfl (pp1 1 2 rfl ?_)
   subst hR
   refine ie (A8 ?_)
   exact E9 hr hD
  refine A6 (nx (sR_ rfl (pp1 1 2 rfl ?_)))
  subst hR
  refine ie (A8 ?_)
  exact E9 hr hD
 refine sh 10 [(10,[bx c (A2 a) 56])] [A4n,A4q,P0,O4,K0] [bx c (A2 a) 56] (zml 10 0) okl rfl okl okl okl sb_ B0.refl ?_
 refine zhp [1] 9 (zml 10 2) [(10,pt c 0)] ?_
 refine zhl 2 [bx c (A2 a) 56] (zml 10 6) rfl (A7 (v:=iv a.kind) ty3 rfl rfl 0 rfl rfl) ?_
 refine A6t 0 7 okl ?_ ?_
 ·refine B2m 0 [bx c (A2 a) 56] (zml 10 7) rfl rfl rfl okl okl okl (C8 (L2:=[bx c (A2 a) 56]) (Z0 rfl) rfl rfl rfl rfl rfl fn0 (List.Perm.refl _) (fun j=>[(j,.map (B3 C9c 0).toArray 41),bx c (A2 a) 56]) (fun _=>rfl)) (fun j=>sb_) (fun j=>B0.refl) fun j=>?_
  refine A6t 3 7 okl ?_ ?_
  ·refine B2m 3 [bx c (A2 a) 56] (zml 10 15) rfl rfl rfl okl okl okl (Det.tri (G7.det (by exact I2 (S9 B3w K3 rfl rfl rfl 0 rfl okl okl) (A1w a.kind)))) (fun _=>sb_) (fun _=>B0.refl) fun _=>?_
   refine zhp [4,5,6] 3 (zml 10 127) [(13,ag [(lkV a.kind .nilFunc D8),(lkV a.kind .nilFunc J5)]),(14,bv (O2 a.kind D8))] ?_
   refine zho 7 [bx c (A2 a) 56] (zml 10 255) rfl (V7 (cs:=[.nilFunc,.nilFunc]) A8k rfl) (fun ar=>sb_) (fun ar=>B0.refl) fun ar=>?_
   refine zho 8 [bx c (A2 a) 56] (zml 10 511) rfl (F2 (us:=[(lkV a.kind .nilFunc D8),(lkV a.kind .nilFunc J5)]) (cs':=[(lkV a.kind .nilFunc D8),(lkV a.kind .nilFunc J5)]) C0d rfl rfl rfl 0 rfl rfl rfl (by simp only [List.all_cons,List.all_nil,Bool.and_true,Bool.and_eq_true];exact ⟨S6 rfl rfl,S6 rfl rfl⟩) rfl rfl) (fun _=>sb_) (fun _=>B0.refl) fun _=>?_
   refine zhp [9] 0 (zml 10 1023) [(5,bv (O2 a.kind D8))] ?_
   refine A3w okl ?_
   refine sR_ rfl (pp1 3 17 rfl ?_)
   refine zio 7 19 17 24 (!(R9 a.kind a.n)) (fun bw=>?_) ?_
   ·refine pp1 1 18 rfl (ix rfl (A7 (v:=(lkV a.kind .nilFunc D8)) B1g rfl rfl 0 rfl rfl) (pp1 1 20 rfl (ix rfl (A7 (v:=iv a.n) ty3 rfl rfl 2 rfl rfl) (ixc rfl (P4 (A0n a.kind a.n (by first|assumption|(have d:O2 a.kind D8=true:=och;exact d)) _ rfl) rfl rfl rfl rfl fn0) (pp1 2 24 rfl ?_)))))
    exact zai 7 17 24 bw
   refine pp1 1 25 rfl ?_
   refine zio 7 11 25 32 (!(R8 a.kind a.m)) (fun t=>?_) ?_
   ·have cn:=bq_ t
    refine pp1 1 26 rfl (ix rfl (A7 (v:=(lkV a.kind .nilFunc J5)) B1g rfl rfl 0 rfl rfl) (pp1 1 28 rfl (ix rfl (A7 (v:=iv a.m) ty3 rfl rfl 2 rfl rfl) (ixc rfl (P4 (A0l a.kind a.m (by first|assumption|(have d:O2 a.kind D8=true:=och;exact d)) _ rfl) rfl rfl rfl rfl fn0) (pp1 2 32 rfl ?_)))))
    exact zai 7 25 32 t
   refine pp1 1 33 rfl ?_
   refine zio 5 5 33 38 (!(decide (a.color=Col.zero))) (fun ay=>?_) ?_
   ·have c1:=bq_ ay
    refine pp1 1 34 rfl (ix rfl (F7 (us:=U0 a.color) B4f rfl rfl 2 rfl rfl rfl) (zrl 1 2 [] [(36,ag (U0 Col.zero))] (ix rfl (A0t (a:=a.color) (b:=Col.zero) B4a rfl rfl rfl) (pp1 1 38 rfl ?_))))
    exact zai 6 33 38 ay
   refine pp1 1 39 rfl ?_
   refine zio 4 0 39 43 (!(decide (a.text=([]:List UInt8)))) (fun bd=>?_) ?_
   ·have ch:=bq_ bd
    refine pp1 1 40 rfl (ix rfl (A7 (v:=sv a.text) ty9 rfl rfl 2 rfl rfl) (ix rfl (A1x rfl rfl rfl) (pp1 1 43 rfl ?_)))
    exact zai 5 39 43 bd
   refine ie ?_
   refine zjb rfl hR ?_ ?_<;>clear hR<;>intro hR s
   ·have a7:=bq_ s
    refine A1 1 rfl (pp1 1 3 rfl (A3 (nx (A5 (sR_ rfl (pp1 2 73 rfl (ie (G8 rfl (sR_ rfl (pp1 1 2 rfl ?_))))))))))
    subst hR
    refine ie (A8 ?_)
    exact E9 hr hD
   have a7:=bq_ s
   refine A6 (nx (A5 (sR_ rfl (pp1 2 73 rfl (ie (A0f rfl (A6 (nx (sR_ rfl (pp1 1 2 rfl ?_))))))))))
   subst hR
   refine ie (A8 ?_)
   exact E9 hr hD
  ·refine B2m 7 [bx c (A2 a) 56] (zml 10 135) rfl rfl rfl okl okl okl (V7 (cs:=[.nilFunc,.nilFunc]) A8k rfl) (fun ab=>sb_) (fun ab=>B0.refl) fun ab=>?_
   refine zho 3 [bx c (A2 a) 56] (zml 10 143) rfl (Det.tri (G7.det (by exact I2 (S9 B3w K3 rfl rfl rfl 1 rfl okl okl) (A1w a.kind)))) (fun _=>sb_) (fun _=>B0.refl) fun _=>?_
   refine zhp [4,5,6] 2 (zml 10 255) [(13,ag [(lkV a.kind .nilFunc D8),(lkV a.kind .nilFunc J5)]),(14,bv (O2 a.kind D8))] ?_
   refine zho 8 [bx c (A2 a) 56] (zml 10 511) rfl (F2 (us:=[(lkV a.kind .nilFunc D8),(lkV a.kind .nilFunc J5)]) (cs':=[(lkV a.kind .nilFunc D8),(lkV a.kind .nilFunc J5)]) C0d rfl rfl rfl 0 rfl rfl rfl (by simp only [List.all_cons,List.all_nil,Bool.and_true,Bool.and_eq_true];exact ⟨S6 rfl rfl,S6 rfl rfl⟩) rfl rfl) (fun _=>sb_) (fun _=>B0.refl) fun _=>?_
   refine zhp [9] 0 (zml 10 1023) [(5,bv (O2 a.kind D8))] ?_
   refine A3w okl ?_
   refine sR_ rfl (pp1 3 17 rfl ?_)
   refine zio 7 19 17 24 (!(R9 a.kind a.n)) (fun br=>?_) ?_
   ·refine pp1 1 18 rfl (ix rfl (A7 (v:=(lkV a.kind .nilFunc D8)) B1g rfl rfl 0 rfl rfl) (pp1 1 20 rfl (ix rfl (A7 (v:=iv a.n) ty3 rfl rfl 2 rfl rfl) (ixc rfl (P4 (A0n a.kind a.n (by first|assumption|(have d:O2 a.kind D8=true:=och;exact d)) _ rfl) rfl rfl rfl rfl fn0) (pp1 2 24 rfl ?_)))))
    exact zai 7 17 24 br
   refine pp1 1 25 rfl ?_
   refine zio 7 11 25 32 (!(R8 a.kind a.m)) (fun a1=>?_) ?_
   ·have cc:=bq_ a1
    refine pp1 1 26 rfl (ix rfl (A7 (v:=(lkV a.kind .nilFunc J5)) B1g rfl rfl 0 rfl rfl) (pp1 1 28 rfl (ix rfl (A7 (v:=iv a.m) ty3 rfl rfl 2 rfl rfl) (ixc rfl (P4 (A0l a.kind a.m (by first|assumption|(have d:O2 a.kind D8=true:=och;exact d)) _ rfl) rfl rfl rfl rfl fn0) (pp1 2 32 rfl ?_)))))
    exact zai 7 25 32 a1
   refine pp1 1 33 rfl ?_
   refine zio 5 5 33 38 (!(decide (a.color=Col.zero))) (fun ak=>?_) ?_
   ·have cp:=bq_ ak
    refine pp1 1 34 rfl (ix rfl (F7 (us:=U0 a.color) B4f rfl rfl 2 rfl rfl rfl) (zrl 1 2 [] [(36,ag (U0 Col.zero))] (ix rfl (A0t (a:=a.color) (b:=Col.zero) B4a rfl rfl rfl) (pp1 1 38 rfl ?_))))
    exact zai 6 33 38 ak
   refine pp1 1 39 rfl ?_
   refine zio 4 0 39 43 (!(decide (a.text=([]:List UInt8)))) (fun u=>?_) ?_
   ·have c2:=bq_ u
    refine pp1 1 40 rfl (ix rfl (A7 (v:=sv a.text) ty9 rfl rfl 2 rfl rfl) (ix rfl (A1x rfl rfl rfl) (pp1 1 43 rfl ?_)))
    exact zai 5 39 43 u
   refine ie ?_
   refine zjb rfl hR ?_ ?_<;>clear hR<;>intro hR b8
   ·have b5:=bq_ b8
    refine A1 1 rfl (pp1 1 3 rfl (A3 (nx (A5 (sR_ rfl (pp1 2 73 rfl (ie (G8 rfl (sR_ rfl (pp1 1 2 rfl ?_))))))))))
    subst hR
    refine ie (A8 ?_)
    exact E9 hr hD
   have b5:=bq_ b8
   refine A6 (nx (A5 (sR_ rfl (pp1 2 73 rfl (ie (A0f rfl (A6 (nx (sR_ rfl (pp1 1 2 rfl ?_))))))))))
   subst hR
   refine ie (A8 ?_)
   exact E9 hr hD
 ·refine B2m 7 [bx c (A2 a) 56] (zml 10 134) rfl rfl rfl okl okl okl (V7 (cs:=[.nilFunc,.nilFunc]) A8k rfl) (fun h=>sb_) (fun h=>B0.refl) fun h=>?_
  refine zho 0 [bx c (A2 a) 56] (zml 10 135) rfl (C8 (L2:=[bx h [.nilFunc,.nilFunc] 107,bx c (A2 a) 56]) (Z0 rfl) rfl rfl rfl rfl rfl fn0 (List.Perm.refl _) (fun l=>[(l,.map (B3 C9c 0).toArray 41),bx h [.nilFunc,.nilFunc] 107,bx c (A2 a) 56]) (fun _=>rfl)) (fun l=>sb_) (fun l=>B0.refl) fun l=>?_
  refine zho 3 [bx c (A2 a) 56] (zml 10 143) rfl (Det.tri (G7.det (by exact I2 (S9 B3w K3 rfl rfl rfl 0 rfl okl okl) (A1w a.kind)))) (fun _=>sb_) (fun _=>B0.refl) fun _=>?_
  refine zhp [4,5,6] 2 (zml 10 255) [(13,ag [(lkV a.kind .nilFunc D8),(lkV a.kind .nilFunc J5)]),(14,bv (O2 a.kind D8))] ?_
  refine zho 8 [bx c (A2 a) 56] (zml 10 511) rfl (F2 (us:=[(lkV a.kind .nilFunc D8),(lkV a.kind .nilFunc J5)]) (cs':=[(lkV a.kind .nilFunc D8),(lkV a.kind .nilFunc J5)]) C0d rfl rfl rfl 1 rfl rfl rfl (by simp only [List.all_cons,List.all_nil,Bool.and_true,Bool.and_eq_true];exact ⟨S6 rfl rfl,S6 rfl rfl⟩) rfl rfl) (fun _=>sb_) (fun _=>B0.refl) fun _=>?_
  refine zhp [9] 0 (zml 10 1023) [(5,bv (O2 a.kind D8))] ?_
  refine A3w okl ?_
  refine sR_ rfl (pp1 3 17 rfl ?_)
  refine zio 7 19 17 24 (!(R9 a.kind a.n)) (fun bh=>?_) ?_
  ·refine pp1 1 18 rfl (ix rfl (A7 (v:=(lkV a.kind .nilFunc D8)) B1g rfl rfl 1 rfl rfl) (pp1 1 20 rfl (ix rfl (A7 (v:=iv a.n) ty3 rfl rfl 2 rfl rfl) (ixc rfl (P4 (A0n a.kind a.n (by first|assumption|(have d:O2 a.kind D8=true:=och;exact d)) _ rfl) rfl rfl rfl rfl fn0) (pp1 2 24 rfl ?_)))))
   exact zai 7 17 24 bh
  refine pp1 1 25 rfl ?_
  refine zio 7 11 25 32 (!(R8 a.kind a.m)) (fun b0=>?_) ?_
  ·have cj:=bq_ b0
   refine pp1 1 26 rfl (ix rfl (A7 (v:=(lkV a.kind .nilFunc J5)) B1g rfl rfl 1 rfl rfl) (pp1 1 28 rfl (ix rfl (A7 (v:=iv a.m) ty3 rfl rfl 2 rfl rfl) (ixc rfl (P4 (A0l a.kind a.m (by first|assumption|(have d:O2 a.kind D8=true:=och;exact d)) _ rfl) rfl rfl rfl rfl fn0) (pp1 2 32 rfl ?_)))))
   exact zai 7 25 32 b0
  refine pp1 1 33 rfl ?_
  refine zio 5 5 33 38 (!(decide (a.color=Col.zero))) (fun af=>?_) ?_
  ·have c4:=bq_ af
   refine pp1 1 34 rfl (ix rfl (F7 (us:=U0 a.color) B4f rfl rfl 2 rfl rfl rfl) (zrl 1 2 [] [(36,ag (U0 Col.zero))] (ix rfl (A0t (a:=a.color) (b:=Col.zero) B4a rfl rfl rfl) (pp1 1 38 rfl ?_))))
   exact zai 6 33 38 af
  refine pp1 1 39 rfl ?_
  refine zio 4 0 39 43 (!(decide (a.text=([]:List UInt8)))) (fun ax=>?_) ?_
  ·have cd:=bq_ ax
   refine pp1 1 40 rfl (ix rfl (A7 (v:=sv a.text) ty9 rfl rfl 2 rfl rfl) (ix rfl (A1x rfl rfl rfl) (pp1 1 43 rfl ?_)))
   exact zai 5 39 43 ax
  refine ie ?_
  refine zjb rfl hR ?_ ?_<;>clear hR<;>intro hR b6
  ·have aw:=bq_ b6
   refine A1 1 rfl (pp1 1 3 rfl (A3 (nx (A5 (sR_ rfl (pp1 2 73 rfl (ie (G8 rfl (sR_ rfl (pp1 1 2 rfl ?_))))))))))
   subst hR
   refine ie (A8 ?_)
   exact E9 hr hD
  have aw:=bq_ b6
  refine A6 (nx (A5 (sR_ rfl (pp1 2 73 rfl (ie (A0f rfl (A6 (nx (sR_ rfl (pp1 1 2 rfl ?_))))))))))
  subst hR
  refine ie (A8 ?_)
  exact E9 hr hD
end Go.Proofs.YtioaekgoceinkaaGreatDoor
set_option linter.unusedVariables false
set_option linter.unusedSimpArgs false
set_option linter.unnecessarySimpa false
set_option maxRecDepth 100000
namespace Go.Proofs.YtioaekgoceinkaaGreatDoor
open Go Go.Fen
theorem D5p {k:Int} (h:1≤k∧k≤46):([1,2,3,4,5,6,7,8,9,10,11,12,13,15,16,14,17,18,20,21,33,19,22,23,24,25,28,29,30,31,32,34,26,27,35,40,36,37,38,41,42,43,39,44,45,46]:List Int).contains k=true:=by
 simp only [List.contains_cons,List.contains_nil,Bool.or_false,Bool.or_eq_true,beq_iff_eq];omega
theorem C6b {l:List Act} {p:Act→Prop} (h:∀ a ∈ l,p a) (b:p Act.zero) (i:Nat):p (l.getD i Act.zero):=by
 by_cases hi:i<l.length
 ·rw [gdE hi];exact h _ (List.getElem_mem hi)
 ·rw [gdN hi];exact b
theorem C5w (s:List UInt8) (n:Int):(A1j s n).length≤1:=by
 unfold A1j;simp only [List.length_take,List.length_drop];omega
theorem D9r {c:Bool} {x y:List UInt8} {B:Nat} (b:x.length≤B) (a:y.length≤B):(bif c then x else y).length≤B:=by cases c<;>assumption
set_option maxHeartbeats 4000000 in
theorem C7z (a:Act) (h:a.text.length≤100000000):(A4v a).length≤100010000:=by
 unfold A4v
 have p:=B5o a.n
 have b:=fun s n=>C5w s n
 have d:=A1u
 have e:=A6x
 have o:=B1j a.n a.m a.color a.text
 have i:=A9x a.n a.m a.color a.text
 have l:=A9v a.n a.m a.color a.text
 repeat' (with_reducible refine D9r ?_ ?_)
 all_goals simp only [A3b,E8,U7,A3h,U3,A3f,G0,W1,A2l,A2a,A1z,A2j,A2y,A2i,A2h,C9,List.length_append,List.length_cons,List.length_nil,List.length_take]
 all_goals first|omega|exact Nat.le_trans (e _) opx|(refine Nat.le_trans (Nat.add_le_add_right (Nat.add_le_add_left (d _ _) _) _) ?_;omega)|(have f:=d 1 [a.m];have c:=fun s=>b s a.n;have g:=c [65,66,67,68];have j:=c [69,70];have k:=c [83,84];omega)|(have f:=b [15,14] (a.n - 0);have c:=b [62,61] (a.n - 0);have g:=b [78,79] (a.n - 2);omega)|(have f:=b [40,41,42,43] a.n;have c:=b [66,48] a.m;omega)|(have f:=d (-2) [a.n];have c:=b [108,104] a.m;omega)
theorem D9d {c:Bool} (h:(bif c then (200:Int) else 0)=0):c=false:=by cases c<;>simp at h ⊢
theorem D7e {a:Act} (h:O2 a.kind D8=true):a.kind=17∨a.kind=18∨a.kind=19∨a.kind=20∨a.kind=26∨a.kind=27∨a.kind=35∨a.kind=38∨a.kind=40∨a.kind=41∨a.kind=2∨a.kind=3∨a.kind=4∨a.kind=5∨a.kind=6∨a.kind=8∨a.kind=9∨a.kind=10∨a.kind=11∨a.kind=12∨a.kind=13∨a.kind=15∨a.kind=16∨a.kind=7∨a.kind=14∨a.kind=42∨a.kind=21∨a.kind=33∨a.kind=22∨a.kind=23∨a.kind=24∨a.kind=25∨a.kind=28∨a.kind=29∨a.kind=30∨a.kind=31∨a.kind=32∨a.kind=34∨a.kind=36∨a.kind=37∨a.kind=43:=by
 rw [C1g] at h
 simp only [D8,List.map_cons,List.map_nil,List.contains_cons,List.contains_nil,Bool.or_false,Bool.or_eq_true,beq_iff_eq] at h
 omega
theorem D2b {a:Act} (h:J3 a=0) (d:a.text.length≤100000000):B1z a:=by
 unfold J3 at h
 by_cases e1:a.kind=1
 ·unfold B1z;omega
 ·rw [decide_eq_false e1,cond_false] at h
  by_cases e2:a.kind=39
  ·unfold B1z;omega
  ·rw [decide_eq_false e2,cond_false] at h
   by_cases e3:a.kind=44
   ·unfold B1z;omega
   ·rw [decide_eq_false e3,cond_false] at h
    by_cases e4:a.kind=45
    ·unfold B1z;omega
    rw [decide_eq_false e4,cond_false] at h
    by_cases e5:a.kind=46
    ·unfold B1z;omega
    rw [decide_eq_false e5,cond_false] at h
    have h:=D9d h
    simp only [Bool.or_eq_false_iff,Bool.not_eq_false'] at h
    obtain ⟨⟨⟨⟨e,b⟩,c⟩,_⟩,_⟩:=h
    clear e1 e2 e3 e4 e5
    rcases D7e e with h | h | h | h | h | h | h | h | h | h | h | h | h | h | h | h | h | h | h | h | h | h | h | h | h | h | h | h | h | h | h | h | h | h | h | h | h | h | h | h | h
    all_goals
     rw [h] at b c
     simp only [R9,R8,A9,A3o,Int.reduceEq,decide_true,decide_false,cond_true,cond_false,Bool.and_eq_true,Bool.or_eq_true,decide_eq_true_eq] at b c
     unfold B1z
     omega
def Y6 (l:List Act) (a:List UInt8→Int→(List UInt8×Int)):Nat→List UInt8→Int→Int→(List UInt8×Int)
 | 0,_,_,_=>([],0)
 | fu3+1,b1,at_1,n=>(bif (((decide (n<(l.length:Int)))&&(decide (n<(at_1+16))))&&(decide ((l.getD ((n).toNat) Act.zero).kind=39))) then Y6 l a fu3 b1 at_1 (n+1) else (bif (decide (n=at_1)) then a (b1++(A4v (l.getD ((at_1).toNat) Act.zero))) (at_1+1) else (C9 (A9g ((l.drop ((at_1).toNat)).take (((n).toNat) - ((at_1).toNat)))) fun (b:List UInt8)=>a (b1++b) ((n - 1)+1))))
def W2 (l:List Act):Nat→List UInt8→Int→(List UInt8×Int)
 | 0,_,_=>([],0)
 | fu1+1,b,at_=>(bif (decide (at_<(l.length:Int))) then Y6 l (W2 l fu1) (((l.length:Int) - at_).toNat+1) b at_ at_ else (b,0))
def U9 (l:List Act):List Act→Nat→(List UInt8×Int)
 | [],t15=>W2 l (((l.length:Int) - 0).toNat+1) ([]:List UInt8) 0
 | hd_l0::tl_l0,t15=>(bif (!decide ((J3 hd_l0)=0)) then (([]:List UInt8),(J3 hd_l0)) else U9 l tl_l0 (t15+1))
def U1 (l:List Act):List UInt8×Int :=
 (bif (decide ((131072:Int)<(l.length:Int))) then (([]:List UInt8),3) else U9 l l 0)
theorem B0v (l:List Act) (h:∀ a ∈ l,a.text.length≤100000000) (ag:List UInt8→Int→List UInt8×Int) (B:Nat) (c:∀ b t,(ag b t).1.length≤b.length+B):∀ (d:Nat) (b:List UInt8) (t n:Int),(Y6 l ag d b t n).1.length≤b.length+100010000+B
 | 0,b,t,n=>Nat.zero_le _
 | d+1,b,t,n=>by
  rw [Y6];unfold C9;simp only [Bool.cond_eq_ite];repeat' split
  ·exact B0v l h ag B c d b t (n+1)
  ·refine Nat.le_trans (c _ _) ?_
   have:=C7z (l.getD t.toNat Act.zero) (C6b h ozw _)
   rw [List.length_append];omega
  ·refine Nat.le_trans (c _ _) ?_
   have:=A6x ((l.drop t.toNat).take (n.toNat - t.toNat))
   rw [List.length_append];omega
theorem B0t (l:List Act) (h:∀ a ∈ l,a.text.length≤100000000):∀ (c:Nat) (b:List UInt8) (t:Int),(W2 l c b t).1.length≤b.length+c * 100010000
 | 0,b,t=>Nat.zero_le _
 | c+1,b,t=>by
  rw [W2]
  cases decide (t<(l.length:Int)) with
  | true=>exact Nat.le_trans (B0v l h _ (c * 100010000) (B0t l h c) _ _ _ _) opx
  | false=>exact Nat.le_add_right _ _
theorem B1a (L:List Act) (h:∀ a ∈ L,a.text.length≤100000000) (b:L.length≤131072):∀ (l:List Act) (t:Nat),(U9 L l t).1.length≤13200000000000
 | [],t=>by
  have:=B0t L h (((L.length:Int) - 0).toNat+1) [] 0
  rw [U9];simp only [List.length_nil] at this;omega
 | a::l,t=>by
  rw [U9]
  cases (!decide ((J3 a)=0)) with
  | true=>exact Nat.zero_le _
  | false=>exact B1a L h b l (t+1)
theorem C6j (l:List Act) (h:∀ a ∈ l,a.text.length≤100000000):(U1 l).1.length≤13200000000000:=by
 unfold U1
 by_cases hl:(131072:Int)<(l.length:Int)
 ·rw [decide_eq_true hl];exact Nat.zero_le _
 ·rw [decide_eq_false hl];exact B1a l h opx l 0
theorem C8c {l:List Act} {lq:Option Addr} {lk:Nat} {R:List UInt8×Int} (hR:U1 l=R) (b0:l.length≤9223372036854775807:=by exact om_) (az:l.length≤lk:=by exact om_) (a0:∀ a ∈ l,a.text.length≤100000000:=by exact om_):Con Tryz.prog 13 [.slice lq l.length lk] [] [sl A2 lq l,A4n,A4q,P0,O4,K0,S7] ({r:VR // VOk 1 R.1.length r}) (fun x=>.tuple #[.slice (va x.1.q) R.1.length x.1.k,iv R.2]) (fun x=>((vo cU8 5 x.1 R.1)++([]))) (fun x=>[]):=by
 refine zce Tryz.func13 fun X hX hr hD=>?_
 replace hR:=(U1.eq_1 ..).symm.trans hR
 refine sR_ rfl (pp1 2 2 rfl (ie (D3t (A5 (sR_ rfl (pp1 3 12 rfl (ie ?_)))))))
 refine zjd rfl hR ?_ ?_<;>clear hR<;>intro hR h1 ax
 ·refine sR_ rfl (pp2 2 2 3 rfl ?_)
  subst hR
  refine ie (A8 ?_)
  exact zer hr hD (U6 rfl (B9 rfl) (B9 rfl)) ⟨VR.nil,VOk.nil⟩ sb_ fn0
 refine A6 (nx (A5 (sR_ rfl (pp3 3 13 14 15 rfl (ie (B4 (A5o (fun (f:Nat)=>(f≤l.length∧U9 l (l.drop f) f=R∧(∀ i<f,J3 (l.getD i Act.zero)=0),[(0,.slice lq l.length lk),(2,.slice none 0 0),(13,.slice lq l.length lk),(14,iv (l.length:Int)),(15,iv (f:Int))],[],[sl A2 lq l,A4n,A4q,P0,O4,K0,S7],l.length - f)) 0 ⟨opx,hR,(by intro i hi;omega)⟩ sb_ B0.refl ?_)))))))
 rintro f ⟨b2,hR,a5⟩
 have ah:=C6b a0 ozw f
 refine sR_ rfl (pp1 1 16 rfl ?_)
 refine ie (A5 (W8 rfl (fun h3=>?_) (fun h3=>?_)))
 ·have ac:=bq_ h3
  rw [A0r Act.zero (show f<l.length by omega)] at hR;replace hR:=(U9.eq_2 ..).symm.trans hR
  refine A6 (nx (A5 (B4 (sR_ rfl (P3 0 rfl opx fun a4 a7=>(ix rfl (K2 A5y rfl rfl a7 rfl f rfl opx) (ix rfl (L8 (us:=A2 (l.getD f Act.zero)) B5a rfl rfl (N0 (c:=A2) (sz:=6) a7 (fun _=>rfl) 0 rfl (gd Act.zero opx)) rfl) ?_)))))))
  refine H9 2 0 [0] (fun b6=>[(5,pt b6 0)]) (fun b6=>[bx b6 (A2 (l.getD f Act.zero)) 56]) (fun b6=>?_)
  refine ie (sR_ rfl (zrl 1 2 [0] [(19,ag (A2 (l.getD f Act.zero)))] (zv rfl (A9i rfl (by first|omega|exact ah|exact hkt0 opx|(dsimp only;omega))) (pp1 1 6 rfl (ie (sR_ rfl (pp1 2 22 rfl (ie ?_))))))))
  refine zjn rfl hR ?_ ?_<;>clear hR<;>intro hR h7 av
  ·refine sR_ rfl (pp2 3 2 3 rfl ?_)
   subst hR
   refine ie (A8 ?_)
   exact zer hr hD (U6 rfl (B9 rfl) (B9 rfl)) ⟨VR.nil,VOk.nil⟩ sb_ fn0
  refine A6 (nx (A1 2 rfl (ix rfl (C0 rfl rfl rfl rfl opx) (pp1 1 15 rfl (A3 ?_)))))
  exact A1r (z1:=f) (f+1) ⟨opx,hR,(by intro i hi;rcases Nat.lt_succ_iff_lt_or_eq.1 hi with hi | rfl;exact a5 i hi;exact Decidable.of_not_not oiu)⟩ olr sb_ B0.refl
 have ac:=bq_ h3
 rw [A1i ac] at hR;replace hR:=(U9.eq_1 ..).symm.trans hR
 refine H3 (nx (sR_ rfl (zc rfl (C5o _ rfl) fun ⟨⟨t,e⟩,aa⟩=>?_)))
 refine pp1 1 7 rfl (ie (A5 (D3r (nx (A5 (sR_ rfl (pp1 1 8 rfl (ie (B4 (P9 (G9 [vo cU8 5 VR.nil ([]:List UInt8),[(t,.map (B3 e 0).toArray e.length)]] [1,0] 2 rfl ozw rfl [[(t,.map (B3 e 0).toArray e.length)],vo cU8 5 VR.nil ([]:List UInt8)] rfl opv) ?_))))))))))
 refine A5o (un fun (fu:Nat)=>un fun (b:List UInt8)=>un fun (br:VR) (at_:Int)=>(((l.length:Int) - at_).toNat<fu∧W2 l fu b at_=R∧VOk 1 b.length br∧0≤at_∧at_≤(l.length:Int)∧(b.length:Int)≤100010000 * at_,[(0,.slice lq l.length lk),(2,.slice (va br.q) b.length br.k),(7,.map (some t)),(8,iv at_)],((t,.map (B3 e 0).toArray e.length)::((vo cU8 5 br b)++([]))),[C1k Tryz.prog e tC,sl A2 lq l,A4n,A4q,P0,O4,K0,S7],fu)) ((((l.length:Int) - 0).toNat+1),([]:List UInt8),VR.nil,0) ⟨(Nat.lt_succ_self _),hR,VOk.nil,opx,oom⟩ sb_ B0.refl ?_
 rintro ⟨fu,b,br,at_⟩ ⟨an,hR,p,ha,hb⟩
 have:=VOk.le p
 obtain ⟨fu1,rfl⟩:∃ m,fu=m+1:=⟨fu - 1,by omega⟩
 replace hR:=(W2.eq_2 ..).symm.trans hR
 refine A5 (sR_ rfl (pp1 4 29 rfl ?_))
 refine ie ?_
 refine zjd rfl hR ?_ ?_<;>clear hR<;>intro hR b3 au
 ·refine A6 (nx (A5 (B4 (A5 (sR_ rfl (pp1 2 9 rfl (ie (B4 ?_))))))))
  refine A5o (un fun (v:Nat)=>un fun (j:List UInt8)=>un fun (g:VR)=>un fun (d:Int) (n:Int)=>(((l.length:Int) - n).toNat<v∧Y6 l (W2 l fu1) v j d n=R∧VOk 1 j.length g∧d=at_∧0≤d∧d<(l.length:Int)∧d≤n∧n≤(l.length:Int)∧n≤d+16∧(j.length:Int)≤100010000 * d,[(0,.slice lq l.length lk),(2,.slice (va g.q) j.length g.k),(7,.map (some t)),(8,iv d),(9,iv n)],((t,.map (B3 e 0).toArray e.length)::((vo cU8 5 g j)++([]))),[C1k Tryz.prog e tC,sl A2 lq l,A4n,A4q,P0,O4,K0,S7],v)) ((((l.length:Int) - at_).toNat+1),b,br,at_,at_) ⟨(Nat.lt_succ_self _),hR,p,opx,opx⟩ sb_ B0.refl ?_
  rintro ⟨v,j,g,d,n⟩ ⟨ar,hR,h,hn,aw⟩
  have:=VOk.le h
  obtain ⟨fu3,rfl⟩:∃ m,v=m+1:=⟨v - 1,by omega⟩
  replace hR:=(Y6.eq_2 ..).symm.trans hR
  refine A5 (B4 (A5 (sR_ rfl (pp1 5 39 rfl ?_))))
  refine zid 5 8 39 44 (decide (n<(d+16))) (fun am ao=>?_) ?_
  ·refine pp2 2 40 41 rfl (ix rfl (C0 rfl rfl rfl rfl opx) (pp1 2 44 rfl ?_))
   exact A3 (P7 5 39 44 am B0.refl sb_ rfl rfl rfl rfl rfl)
  refine pp1 1 45 rfl ?_
  refine zia 7 0 45 52 (decide ((l.getD ((n).toNat) Act.zero).kind=39)) (fun ab=>?_) ?_
  ·have aq:=bq_ ab
   refine pp2 2 46 47 rfl (P3 1 rfl opx fun b4 a3=>(ix rfl (K2 A5y rfl rfl a3 rfl ((n).toNat) opx opx) (pp1 1 49 rfl (ix rfl (D6 ty3 rfl rfl (S3 (N0 (c:=A2) (sz:=6) a3 (fun _=>rfl) 1 rfl (gd Act.zero opx)) (ws:=[iv ((l.getD ((n).toNat) Act.zero).kind)]) 1 rfl) rfl) (pp1 2 52 rfl ?_)))))
   exact A3 (P7 7 45 52 ab B0.refl sb_ rfl rfl rfl rfl rfl)
  refine ie ?_
  refine zjb rfl hR ?_ ?_<;>clear hR<;>intro hR a9
  ·have a8:=bq_ a9
   refine H3 (nx (A1 3 rfl (pp1 1 33 rfl ?_)))
   refine ix rfl (C0 rfl rfl rfl rfl opx) (pp1 1 9 rfl (A3 ?_))
   exact A1r (z1:=(fu3+1,j,g,d,n)) (fu3,j,g,d,n+1) ⟨opx,hR,h,opx,opx⟩ (Nat.lt_succ_self _) sb_ B0.refl
  have a8:=bq_ a9
  refine A6 (nx (A5 (sR_ rfl (pp1 3 55 rfl (ie ?_)))))
  refine zjd rfl hR ?_ ?_<;>clear hR<;>intro hR ay ap
  ·refine H3 (nx ?_)
   refine sh' 15 [(15,[(t,.map (B3 e 0).toArray e.length)]),(13,vo cU8 5 g j)] [C1k Tryz.prog e tC,sl A2 lq l,A4n,A4q,P0,O4,K0,S7] ((t,.map (B3 e 0).toArray e.length)::((vo cU8 5 g j)++([]))) (zml 15 0) okl rfl okl okl okl sb_ B0.refl ?_
   refine zhp [0,1,2,3,8,9] 9 (zml 15 783) [(65,.slice (va g.q) j.length g.k),(66,.map (some t)),(67,.slice lq l.length lk),(68,iv d),(73,.slice lq l.length lk),(74,iv d)] ?_
   refine D9g 1 rfl opx fun al u=>?_
   refine zhk 4 (zml 15 799) rfl (K2 A5y rfl rfl u rfl ((d).toNat) opx opx) ?_
   refine zhp [5] 7 (zml 15 831) [(70,pa (Addr.add al (((d).toNat) * 6)))] ?_
   refine zhk 6 (zml 15 895) rfl (D6 ty3 rfl rfl (S3 (N0 (c:=A2) (sz:=6) u (fun _=>rfl) 1 rfl (gd Act.zero opx)) (ws:=[iv ((l.getD ((d).toNat) Act.zero).kind)]) 1 rfl) rfl) (zhl 7 [(t,.map (B3 e 0).toArray e.length)] (zml 15 1023) rfl (by exact D0b (z:=.nilFunc) e Q2 rfl rfl rfl 0 rfl (by rw [List.toList_toArray]) okl) ?_)
   refine zhk 10 (zml 15 2047) rfl (K2 A5y rfl rfl u rfl ((d).toNat) opx opx) (zhk 11 (zml 15 4095) rfl (L8 (us:=A2 (l.getD ((d).toNat) Act.zero)) B5a rfl rfl (N0 (c:=A2) (sz:=6) u (fun _=>rfl) 1 rfl (gd Act.zero opx)) rfl) ?_)
   have a1:=D2b (a5 ((d).toNat) opx) (C6b a0 ozw ((d).toNat))
   refine zho 12 ((t,.map (B3 e 0).toArray e.length)::((vo cU8 5 g j)++([]))) (zml 15 8191) rfl (Det.tri (by exact D5f (C:=tC) (B1 0 rfl) (by rw [C1g,aa];exact D5p ⟨a1.2.1,a1.2.2.1⟩) ⟨(l.getD ((d).toNat) Act.zero),⟨rfl,by exact a1⟩,rfl,rfl⟩ rfl rfl rfl rfl)) (fun _=>sb_) (fun _=>B0.refl) fun _=>?_
   have:=C7z _ a1.1
   refine zho 13 [(t,.map (B3 e 0).toArray e.length)] (zml 15 16383) rfl (B4w (r:=g) (xs:=j) (s:=(A4v (l.getD ((d).toNat) Act.zero))) (pre:=[(t,.map (B3 e 0).toArray e.length)]) (post:=[]) C7q okl Tryz.underlying9 rfl rfl rfl rfl rfl rfl rfl h ofv) (fun ⟨y,o⟩=>sb_) (fun ⟨y,o⟩=>B0.refl) fun ⟨y,o⟩=>?_
   have:=@List.length_append _ j (A4v (l.getD ((d).toNat) Act.zero))
   have:=VOk.le o
   have:=VOk.cap o
   refine zhp [14] 0 (zml 15 32767) [(2,.slice (va y.q) ((j++(A4v (l.getD ((d).toNat) Act.zero))).length) y.k)] ?_
   refine A0b okl ?_
   refine nx (A1 3 rfl (pp1 1 30 rfl (ix rfl (C0 rfl rfl rfl rfl opx) (pp1 1 8 rfl (A3 ?_)))))
   exact A1r (z1:=(fu1+1,b,br,at_)) (fu1,j++(A4v (l.getD ((d).toNat) Act.zero)),y,d+1) ⟨opx,hR,o,opx,odi⟩ (Nat.lt_succ_self _) sb_ B0.refl
  refine A6 (nx (sR_ rfl (pp4 4 56 57 58 59 rfl (D7 (D6x (c:=A2) (sz:=6) (xs:=l) (B1 1 rfl) ((d).toNat) ((n).toNat) lk (fun _=>rfl) rfl opx opx) ?_))))
  refine ix rfl (B6a (n':=((l.drop ((d).toNat)).take (((n).toNat) - ((d).toNat))).length) A5y rfl rfl ((d).toNat) ((n).toNat) lk (A3t rfl opx) (A3t rfl opx) A6w opx opx opx ofx rfl) ?_
  have:=@List.length_drop _ ((d).toNat) l
  have:=@List.length_take _ (((n).toNat) - ((d).toNat)) (l.drop ((d).toNat))
  have hQ:=D0 hR;clear hR;obtain ⟨y0,ad,hR⟩:=hQ
  refine zv rfl (C1w ad) ?_
  have:=A6x ((l.drop ((d).toNat)).take (((n).toNat) - ((d).toNat)));try rw [ad] at this
  refine it rfl (B4w (r:=g) (xs:=j) (s:=y0) (pre:=[(t,.map (B3 e 0).toArray e.length)]) (post:=[]) C7q okl Tryz.underlying9 rfl rfl rfl rfl rfl rfl rfl h ofv) fun ⟨ak,w⟩=>?_
  have:=@List.length_append _ j y0
  have:=VOk.le w
  have:=VOk.cap w
  refine pp1 1 2 rfl (ie (sR_ rfl (pp1 1 63 rfl (ix rfl (V9 rfl rfl rfl rfl opx) (pp1 1 8 rfl (ie (H3 (nx (A1 3 rfl (pp1 1 30 rfl (ix rfl (C0 rfl rfl rfl rfl opx) (pp1 1 8 rfl ?_))))))))))))
  refine A3 ?_
  exact A1r (z1:=(fu1+1,b,br,at_)) (fu1,j++y0,ak,(n - 1)+1) ⟨opx,hR,w,opx,odi⟩ (Nat.lt_succ_self _) sb_ fo_
 refine H3 (nx (sR_ rfl (pp2 3 2 3 rfl ?_)))
 subst hR
 refine ie (A8 ?_)
 exact zer hr hD (U6 rfl (B9 rfl) (B9 rfl)) ⟨br,p⟩ sb_ fn0
end Go.Proofs.YtioaekgoceinkaaGreatDoor
