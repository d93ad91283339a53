import Derived.Test.YtanighkpfmgnbaaGreatDoorProg
import Derived.Test.YtanighkpfmgnbaaGreatDoorMA2
import Derived.Test.YtanighkpfmgnbaaGreatDoorMB1
import Derived.Test.YtanighkpfmgnbaaGreatDoorMA3
import Derived.Test.YtanighkpfmgnbaaGreatDoorMB2
import Derived.Test.YtanighkpfmgnbaaGreatDoorMB3
import Derived.Test.YtanighkpfmgnbaaGreatDoorMQ1
set_option linter.unusedVariables false
set_option linter.unusedSimpArgs false
set_option linter.unnecessarySimpa false
set_option maxRecDepth 100000
namespace Go.Proofs.YtanighkpfmgnbaaGreatDoor
open Go Go.Fen
def P5 (cols:Int) (rows:Int) (c:Cur):Bool :=
 (bif ((((((((decide (cols<2))||(decide ((80:Int)<cols)))||(decide (rows<1)))||(decide ((40:Int)<rows)))||(decide (c.row<0)))||(decide (rows≤c.row)))||(decide (c.col<0)))||(decide (cols≤c.col))) then false else ((!c.wrap)||(decide (c.col=(IntKind.i64.wrap (cols - (1:Int)))))))
theorem B8c (cols:Int) (rows:Int) (c:Cur) (R:Bool) (hR:P5 cols rows c=R):K4 Tryz.prog 27 [iv cols,iv rows,ag (G7 c)] [] (bv R):=by
 refine zco Tryz.func27 [(0,iv cols),(1,iv rows),(2,ag (G7 c))] fun X hX hr hD=>?_
 replace hR:=(P5.eq_1 ..).symm.trans hR
 refine sr 2 rfl (N6 2 0 [] (fun b1=>[(5,pt b1 0)]) (fun b1=>[bx b1 (G7 c) 52]) (fun b1=>(ie (A8 (sr 36 rfl (ip' 3 33 [(9,bv (decide (cols<2)))] ?_))))))
 refine zir 3 30 9 12 (decide ((80:Int)<cols)) (fun g2 g2p=>?_) ?_
 ·refine ip' 3 0 [(12,bv (decide ((80:Int)<cols)))] ?_
  exact A7 (Q5 2 9 12 g2 fn0 (mk [true] rfl) rfl rfl rfl rfl rfl)
 refine ip' 1 29 [(13,bv ((decide (cols<2))||(decide ((80:Int)<cols))))] ?_
 refine zio 3 26 13 16 (decide (rows<1)) (fun g3=>?_) ?_
 ·have g3p:¬ ((cols<2)∨((80:Int)<cols)):=by simpa using g3
  refine ip' 3 0 [(16,bv (decide (rows<1)))] ?_
  exact A7 (Q5 2 13 16 g3 fn0 (mk [true] rfl) rfl rfl rfl rfl rfl)
 refine ip' 1 25 [(17,bv (((decide (cols<2))||(decide ((80:Int)<cols)))||(decide (rows<1))))] ?_
 refine zio 3 22 17 20 (decide ((40:Int)<rows)) (fun g4=>?_) ?_
 ·have g4p:¬ (((cols<2)∨((80:Int)<cols))∨(rows<1)):=by simpa using g4
  refine ip' 3 0 [(20,bv (decide ((40:Int)<rows)))] ?_
  exact A7 (Q5 2 17 20 g4 fn0 (mk [true] rfl) rfl rfl rfl rfl rfl)
 refine ip' 1 21 [(21,bv ((((decide (cols<2))||(decide ((80:Int)<cols)))||(decide (rows<1)))||(decide ((40:Int)<rows))))] ?_
 refine zio 4 17 21 25 (decide (c.row<0)) (fun g5=>?_) ?_
 ·have g5p:¬ ((((cols<2)∨((80:Int)<cols))∨(rows<1))∨((40:Int)<rows)):=by simpa using g5
  refine zrl 4 0 [0] [(25,bv (decide (c.row<0)))] ?_
  exact A7 (Q5 2 21 25 g5 fn0 (mk [true] rfl) rfl rfl rfl rfl rfl)
 refine ip' 1 16 [(26,bv (((((decide (cols<2))||(decide ((80:Int)<cols)))||(decide (rows<1)))||(decide ((40:Int)<rows)))||(decide (c.row<0))))] ?_
 refine zio 5 11 26 31 (decide (rows≤c.row)) (fun g6=>?_) ?_
 ·have g6p:¬ (((((cols<2)∨((80:Int)<cols))∨(rows<1))∨((40:Int)<rows))∨(c.row<0)):=by simpa using g6
  refine zrl 5 0 [0] [(31,bv (decide (rows≤c.row)))] ?_
  exact A7 (Q5 2 26 31 g6 fn0 (mk [true] rfl) rfl rfl rfl rfl rfl)
 refine ip' 1 10 [(32,bv ((((((decide (cols<2))||(decide ((80:Int)<cols)))||(decide (rows<1)))||(decide ((40:Int)<rows)))||(decide (c.row<0)))||(decide (rows≤c.row))))] ?_
 refine zio 4 6 32 36 (decide (c.col<0)) (fun g7=>?_) ?_
 ·have g7p:¬ ((((((cols<2)∨((80:Int)<cols))∨(rows<1))∨((40:Int)<rows))∨(c.row<0))∨(rows≤c.row)):=by simpa using g7
  refine zrl 4 0 [0] [(36,bv (decide (c.col<0)))] ?_
  exact A7 (Q5 2 32 36 g7 fn0 (mk [true] rfl) rfl rfl rfl rfl rfl)
 refine ip' 1 5 [(37,bv (((((((decide (cols<2))||(decide ((80:Int)<cols)))||(decide (rows<1)))||(decide ((40:Int)<rows)))||(decide (c.row<0)))||(decide (rows≤c.row)))||(decide (c.col<0))))] ?_
 refine zio 5 0 37 42 (decide (cols≤c.col)) (fun g8=>?_) ?_
 ·have g8p:¬ (((((((cols<2)∨((80:Int)<cols))∨(rows<1))∨((40:Int)<rows))∨(c.row<0))∨(rows≤c.row))∨(c.col<0)):=by simpa using g8
  refine zrl 5 0 [0] [(42,bv (decide (cols≤c.col)))] ?_
  exact A7 (Q5 2 37 42 g8 fn0 (mk [true] rfl) rfl rfl rfl rfl rfl)
 refine ie ?_
 refine zjb rfl hR ?_ ?_<;>clear hR<;>intro hR h9
 ·have h9p:(((((((cols<2)∨((80:Int)<cols))∨(rows<1))∨((40:Int)<rows))∨(c.row<0))∨(rows≤c.row))∨(c.col<0))∨(cols≤c.col):=by simpa using h9
  refine sr 1 rfl (ip' 1 0 [(6,bv false)] ?_)
  subst hR
  refine ie (B1 ?_)
  exact F9 hr hD
 have h9p:¬ ((((((((cols<2)∨((80:Int)<cols))∨(rows<1))∨((40:Int)<rows))∨(c.row<0))∨(rows≤c.row))∨(c.col<0))∨(cols≤c.col)):=by simpa using h9
 refine B0 (nx (sr 11 rfl (zrl 4 7 [0] [(46,bv (!c.wrap))] ?_)))
 refine zio 6 1 46 52 (decide (c.col=(IntKind.i64.wrap (cols - (1:Int))))) (fun g10=>?_) ?_
 ·refine zrl 3 3 [0] [(48,iv c.col),(49,iv cols)] (ix rfl (H2.pure rfl) (ip' 2 0 [(52,bv (decide (c.col=(IntKind.i64.wrap (cols - (1:Int))))))] ?_))
  exact A7 (Q5 5 46 52 g10 fn0 (mk [true] rfl) rfl rfl rfl rfl rfl)
 refine ip' 1 0 [(6,bv ((!c.wrap)||(decide (c.col=(IntKind.i64.wrap (cols - (1:Int)))))))] ?_
 subst hR
 refine ie (B1 ?_)
 exact F9 hr hD
theorem C5n {cols rows:Int} {c:Cur} (h:P5 cols rows c=true):(2≤cols∧cols≤80∧1≤rows∧rows≤40)∧(0≤c.row∧c.row<rows∧0≤c.col∧c.col<cols)∧(c.wrap=true→c.col=cols - 1):=by
 unfold P5 at h
 by_cases hb:(2≤cols∧cols≤80∧1≤rows∧rows≤40)∧(0≤c.row∧c.row<rows∧0≤c.col∧c.col<cols)
 ·rw [show ((((((((decide (cols<2))||(decide ((80:Int)<cols)))||(decide (rows<1)))||(decide ((40:Int)<rows)))||(decide (c.row<0)))||(decide (rows≤c.row)))||(decide (c.col<0)))||(decide (cols≤c.col)))=false by simp only [Bool.or_eq_false_iff,decide_eq_false_iff_not];omega] at h
  refine ⟨hb.1,hb.2,fun hw=>?_⟩
  have h:((!c.wrap)||(decide (c.col=(IntKind.i64.wrap (cols - (1:Int))))))=true:=h
  rw [hw,B3x (by show (-9223372036854775808:Int)≤_;omega) (by show _≤(9223372036854775807:Int);omega)] at h
  exact of_decide_eq_true h
 ·rw [show ((((((((decide (cols<2))||(decide ((80:Int)<cols)))||(decide (rows<1)))||(decide ((40:Int)<rows)))||(decide (c.row<0)))||(decide (rows≤c.row)))||(decide (c.col<0)))||(decide (cols≤c.col)))=true by simp only [Bool.or_eq_true,decide_eq_true_eq];omega] at h
  cases h
theorem C8a {a b:Bool} (h:((!a)||(!b))=false):a=true∧b=true:=by simpa using h
def W1:Nat→Int→Int→List Act
 | 0,_,_=>[]
 | fu+1,kind,n=>(bif (decide (n=0)) then ([]:List Act) else (D4 (W1 fu kind (n - 1)) fun (y1:List Act)=>(y1++([{Act.zero with kind:=kind}]:List Act))))
theorem B2t:∀ (fu:Nat) (k n:Int),0≤n→n.toNat<fu→W1 fu k n=List.replicate n.toNat {Act.zero with kind:=k}
 | fu+1,k,n,h0,h=>by
  rw [W1]
  by_cases hn:n=0
  ·rw [decide_eq_true hn,hn];rfl
  ·rw [decide_eq_false hn]
   show W1 fu k (n - 1)++[{Act.zero with kind:=k}]=_
   rw [B2t fu k (n - 1) (by omega) (by omega)]
   obtain ⟨m,hm⟩:∃ m:Nat,n.toNat=m+1:=⟨n.toNat - 1,by omega⟩
   rw [hm,show (n - 1).toNat=m by omega,List.replicate_succ']
theorem B4v (fu:Nat) (k n:Int) (h0:0≤n) (h:n.toNat<fu):(W1 fu k n).length=n.toNat:=by
 rw [B2t fu k n h0 h,List.length_replicate]
theorem B1b:∀ (fu:Nat) (kind:Int) (n:Int) (hn:0≤n∧n≤50) (hmu:n.toNat<fu) (R:List Act) (hR:W1 fu kind n=R),Con Tryz.prog 108 [iv kind,iv n] [] [] ({r:VR // VOk 6 R.length r}) (fun x=>.slice (va x.1.q) R.length x.1.k) (fun x=>((vo A5 26 x.1 R)++([]))) (fun x=>[]):=by
 intro fu
 induction fu with
 | zero=>intros;omega
 | succ fu ih =>
  intro kind n hn hmu R hR
  refine zco Tryz.func108 [(0,iv kind),(1,iv n)] fun X hX hr hD=>?_
  replace hR:=(W1.eq_2 ..).symm.trans hR
  refine sr 1 rfl (ip' 1 0 [] (ie (A8 (sr 2 rfl (ip' 2 0 [(6,bv (decide (n=0)))] (ie ?_))))))
  refine zjd rfl hR ?_ ?_<;>clear hR<;>intro hR h1 h1p
  ·refine sr 1 rfl (ip' 1 0 [(4,.slice none 0 0)] ?_)
   subst hR
   refine ie (B1 ?_)
   exact zer hr hD (M2 rfl (B8 rfl)) ⟨VR.nil,VOk.nil⟩ (mc [vo A5 26 VR.nil ([]:List Act)] [true] rfl (by first|rfl|(simp only [List.length_set]<;>rfl))) fn0
  refine B0 (nx (sr 9 rfl (ip' 2 7 [(7,iv kind),(8,iv n)] (ix rfl (K2 rfl rfl rfl rfl (by omega)) ?_))))
  have hQ:=D0 hR;clear hR;obtain ⟨y1,hy1,hR⟩:=hQ
  refine it rfl (C1 (L2:=[]) (ih kind (n - 1) (by omega) (by omega) y1 hy1) rfl rfl rfl rfl rfl fn0 (List.Perm.refl _) (fun ⟨r2,hk3⟩=>((vo A5 26 r2 y1)++([]))) (fun _=>by first|rfl|simp)) fun ⟨r2,hk3⟩=>?_
  have:=VOk.le hk3
  have:=VOk.cap hk3
  have:=B4v fu kind (n - 1) (by omega) (by omega);try rw [hy1] at this
  refine zrl 2 3 [] [(12,ag (A5 ({Act.zero with kind:=kind})))] (it rfl (B2 (c:=A5) (xs:=([{Act.zero with kind:=kind}]:List Act)) Y2 rfl rfl rfl (by kernel_rfl)) fun b4=>?_)
  have:([{Act.zero with kind:=kind}]:List Act).length=1:=rfl
  refine it rfl (A7l (f:=A5) (r:=r2) (xs:=y1) (ys:=([{Act.zero with kind:=kind}]:List Act)) (pre:=[]) (post:=[]) B7i (fun _=>rfl) (fun _=>rfl) rfl rfl rfl rfl rfl rfl rfl rfl rfl (A1 0 rfl) hk3 (by first|omega|(simp<;>omega)) (by first|omega|(simp<;>omega))) fun ⟨r5,hr6⟩=>?_
  have:=VOk.le hr6
  have:=VOk.cap hr6
  refine ip' 1 0 [(4,.slice (va r5.q) ((y1++([{Act.zero with kind:=kind}]:List Act)).length) r5.k)] ?_
  subst hR
  refine ie (B1 ?_)
  exact zer hr hD (M2 rfl (B8 rfl)) ⟨r5,hr6⟩ (mc [vo A5 26 r5 (y1++([{Act.zero with kind:=kind}]:List Act))] [true] rfl (by first|rfl|(simp only [List.length_set]<;>rfl))) fn0
def W7 (from_:Int) (to_:Int):List (List Act) :=
 (bif (decide (from_=to_)) then ([([]:List Act)]:List (List Act)) else (bif (decide (to_<from_)) then ([([{Act.zero with kind:=20,n:=0,m:=(from_ - to_)}]:List Act)]:List (List Act)) else (bif (decide ((to_ - from_)≤4)) then (D4 (W1 ((to_ - from_).toNat+1) 5 (to_ - from_)) fun (y1:List Act)=>(([([{Act.zero with kind:=20,n:=1,m:=(to_ - from_)}]:List Act)]:List (List Act))++([y1]:List (List Act)))) else ([([{Act.zero with kind:=20,n:=1,m:=(to_ - from_)}]:List Act)]:List (List Act)))))
theorem B5a {c0:Pth} (hb:0≤c0.frm.row∧c0.frm.row≤40∧0≤c0.to_.row∧c0.to_.row≤40):W7 c0.frm.row c0.to_.row=H3 c0:=by
 unfold W7 H3 D4
 rcases Int.lt_trichotomy c0.frm.row c0.to_.row with h | h | h
 ·rw [decide_eq_false (show ¬ c0.frm.row=c0.to_.row by omega),decide_eq_false (show ¬ c0.to_.row<c0.frm.row by omega),decide_eq_false (show ¬ c0.to_.row - c0.frm.row=0 by omega),decide_eq_false (show ¬ c0.to_.row - c0.frm.row<0 by omega)]
  rw [B3o,B2t _ _ _ (by omega) (by omega)]
  cases decide (c0.to_.row - c0.frm.row≤4)<;>rfl
 ·rw [decide_eq_true h,decide_eq_true (show c0.to_.row - c0.frm.row=0 by omega)];rfl
 ·rw [decide_eq_false (show ¬ c0.frm.row=c0.to_.row by omega),decide_eq_true h,decide_eq_false (show ¬ c0.to_.row - c0.frm.row=0 by omega),decide_eq_true (show c0.to_.row - c0.frm.row<0 by omega),show -(c0.to_.row - c0.frm.row)=c0.frm.row - c0.to_.row by omega];rfl
theorem C2b {a b:Int} {r:List (List Act)} (hr:W7 a b=r) (hb:0≤a∧a≤40∧0≤b∧b≤40):(∀ e ∈ r,mwA e)∧r.length≤2:=by
 subst hr
 have h:=B5a (c0:=⟨⟨a,0,false⟩,⟨b,0⟩⟩) hb
 have h2:W7 a b=_:=h
 rw [h2];exact ⟨B8u _ hb,C2c _⟩
theorem C1r (from_:Int) (to_:Int) (hb:0≤from_∧from_≤40∧0≤to_∧to_≤40) (R:List (List Act)) (hR:W7 from_ to_=R):Con Tryz.prog 53 [iv from_,iv to_] [] [] ({t:VR×List Slc // VOk 1 R.length t.1∧B5 t.2 R}) (fun x=>.slice (va x.1.1.q) R.length x.1.1.k) (fun x=>((vo C3 27 x.1.1 x.1.2)++([]))) (fun x=>[D8 A5 x.1.2 R]):=by
 refine zco Tryz.func53 [(0,iv from_),(1,iv to_)] fun X hX hr hD=>?_
 replace hR:=(W7.eq_1 ..).symm.trans hR
 refine sr 1 rfl (ip' 1 0 [] (ie (A8 (sr 3 rfl (ip' 3 0 [(8,bv (decide (from_=to_)))] (ie ?_))))))
 refine zjd rfl hR ?_ ?_<;>clear hR<;>intro hR h1 h1p
 ·refine sr 2 rfl ?_
  have hrows3:B5 ([⟨none,0,0⟩]:List Slc) ([([]:List Act)]:List (List Act)):=(B5.cons ⟨rfl,(by first|omega|(simp<;>omega)|(dsimp only;omega)|decide),(by first|omega|(simp<;>omega)|(dsimp only;omega)|decide)⟩ B5.none)
  refine C2 (q:=D8 A5 ([⟨none,0,0⟩]:List Slc) ([([]:List Act)]:List (List Act))) (K6 A1c G3) ?_
  refine it rfl (A8c (c:=C3) (xs:=([⟨none,0,0⟩]:List Slc)) Y0 rfl rfl rfl (by kernel_rfl)) fun b2=>?_
  have:([⟨none,0,0⟩]:List Slc).length=1:=rfl
  refine ip' 1 0 [(4,.slice (va (⟨some b2,1,[]⟩:VR).q) (([([]:List Act)]:List (List Act)).length) ((⟨some b2,1,[]⟩:VR).k))] ?_
  subst hR
  refine ie (B1 ?_)
  exact zer hr hD (M2 rfl (B8 rfl)) ⟨((⟨some b2,1,[]⟩:VR),([⟨none,0,0⟩]:List Slc)),⟨(show VOk 1 1 _ from ⟨rfl,Nat.le_refl _,Nat.le_of_ble_eq_true rfl⟩),hrows3⟩⟩ (mc [vo C3 27 (⟨some b2,1,[]⟩:VR) ([⟨none,0,0⟩]:List Slc)] [true] rfl (by first|rfl|(simp only [List.length_set]<;>rfl))) (A0.con1 (A1 0 rfl) fn0)
 refine B0 (nx (A8 (sr 3 rfl (ip' 3 0 [(12,bv (decide (to_<from_)))] (ie ?_)))))
 refine zjd rfl hR ?_ ?_<;>clear hR<;>intro hR h4 h4p
 ·refine sr 7 rfl (ip' 2 5 [(13,iv from_),(14,iv to_)] (ix rfl (K2 rfl rfl rfl rfl (by omega)) (zrl 1 3 [] [(16,ag (A5 ({Act.zero with kind:=20,n:=0,m:=(from_ - to_)})))] (it rfl (B2 (c:=A5) (xs:=([{Act.zero with kind:=20,n:=0,m:=(from_ - to_)}]:List Act)) Y2 rfl rfl rfl (by kernel_rfl)) fun b5=>?_))))
  have:([{Act.zero with kind:=20,n:=0,m:=(from_ - to_)}]:List Act).length=1:=rfl
  have hrows7:B5 ([⟨some ⟨b5,0,none⟩,1,1⟩]:List Slc) ([([{Act.zero with kind:=20,n:=0,m:=(from_ - to_)}]:List Act)]:List (List Act)):=(B5.cons ⟨rfl,(by first|omega|(simp<;>omega)|(dsimp only;omega)|decide),(by first|omega|(simp<;>omega)|(dsimp only;omega)|decide)⟩ B5.none)
  refine C2 (q:=D8 A5 ([⟨some ⟨b5,0,none⟩,1,1⟩]:List Slc) ([([{Act.zero with kind:=20,n:=0,m:=(from_ - to_)}]:List Act)]:List (List Act))) (K6 (A1 0 rfl) G3) ?_
  refine it rfl (A8c (c:=C3) (xs:=([⟨some ⟨b5,0,none⟩,1,1⟩]:List Slc)) Y0 rfl rfl rfl (by kernel_rfl)) fun b6=>?_
  have:([⟨some ⟨b5,0,none⟩,1,1⟩]:List Slc).length=1:=rfl
  refine ip' 1 0 [(4,.slice (va (⟨some b6,1,[]⟩:VR).q) (([([{Act.zero with kind:=20,n:=0,m:=(from_ - to_)}]:List Act)]:List (List Act)).length) ((⟨some b6,1,[]⟩:VR).k))] ?_
  subst hR
  refine ie (B1 ?_)
  exact zer hr hD (M2 rfl (B8 rfl)) ⟨((⟨some b6,1,[]⟩:VR),([⟨some ⟨b5,0,none⟩,1,1⟩]:List Slc)),⟨(show VOk 1 1 _ from ⟨rfl,Nat.le_refl _,Nat.le_of_ble_eq_true rfl⟩),hrows7⟩⟩ (mc [vo C3 27 (⟨some b6,1,[]⟩:VR) ([⟨some ⟨b5,0,none⟩,1,1⟩]:List Slc)] [true] rfl (by first|rfl|(simp only [List.length_set]<;>rfl))) (A0.con1 (A1 0 rfl) fn0)
 refine B0 (nx (sr 7 rfl (ip' 2 5 [(19,iv to_),(20,iv from_)] (ix rfl (K2 rfl rfl rfl rfl (by omega)) (zrl 1 3 [] [(22,ag (A5 ({Act.zero with kind:=20,n:=1,m:=(to_ - from_)})))] (it rfl (B2 (c:=A5) (xs:=([{Act.zero with kind:=20,n:=1,m:=(to_ - from_)}]:List Act)) Y2 rfl rfl rfl (by kernel_rfl)) fun b8=>?_))))))
 have:([{Act.zero with kind:=20,n:=1,m:=(to_ - from_)}]:List Act).length=1:=rfl
 have hrows10:B5 ([⟨some ⟨b8,0,none⟩,1,1⟩]:List Slc) ([([{Act.zero with kind:=20,n:=1,m:=(to_ - from_)}]:List Act)]:List (List Act)):=(B5.cons ⟨rfl,(by first|omega|(simp<;>omega)|(dsimp only;omega)|decide),(by first|omega|(simp<;>omega)|(dsimp only;omega)|decide)⟩ B5.none)
 refine C2 (q:=D8 A5 ([⟨some ⟨b8,0,none⟩,1,1⟩]:List Slc) ([([{Act.zero with kind:=20,n:=1,m:=(to_ - from_)}]:List Act)]:List (List Act))) (K6 (A1 0 rfl) G3) ?_
 refine it rfl (A8c (c:=C3) (xs:=([⟨some ⟨b8,0,none⟩,1,1⟩]:List Slc)) Y0 rfl rfl rfl (by kernel_rfl)) fun b9=>?_
 have:([⟨some ⟨b8,0,none⟩,1,1⟩]:List Slc).length=1:=rfl
 refine ip' 1 0 [(5,.slice (va (⟨some b9,1,[]⟩:VR).q) (([([{Act.zero with kind:=20,n:=1,m:=(to_ - from_)}]:List Act)]:List (List Act)).length) ((⟨some b9,1,[]⟩:VR).k))] (ie (A8 (sr 4 rfl (ip' 2 2 [(25,iv to_),(26,iv from_)] (ix rfl (K2 rfl rfl rfl rfl (by omega)) (ip' 1 0 [(28,bv (decide ((to_ - from_)≤4)))] (ie ?_)))))))
 refine zjd rfl hR ?_ ?_<;>clear hR<;>intro hR h11 h11p
 ·refine A4 8 rfl (ip' 3 5 [(29,.slice (va (⟨some b9,1,[]⟩:VR).q) (([([{Act.zero with kind:=20,n:=1,m:=(to_ - from_)}]:List Act)]:List (List Act)).length) ((⟨some b9,1,[]⟩:VR).k)),(30,iv to_),(31,iv from_)] (ix rfl (K2 rfl rfl rfl rfl (by omega)) ?_))
  have hQ:=D0 hR;clear hR;obtain ⟨y1,hy1,hR⟩:=hQ
  refine it rfl (C1 (L2:=((vo C3 27 (⟨some b9,1,[]⟩:VR) ([⟨some ⟨b8,0,none⟩,1,1⟩]:List Slc))++([]))) (B1b ((to_ - from_).toNat+1) 5 (to_ - from_) (by omega) (Nat.lt_succ_self _) y1 hy1) rfl rfl rfl rfl rfl fn0 (List.Perm.refl _) (fun ⟨r12,hk13⟩=>((vo A5 26 r12 y1)++((vo C3 27 (⟨some b9,1,[]⟩:VR) ([⟨some ⟨b8,0,none⟩,1,1⟩]:List Slc))++([])))) (fun _=>by first|rfl|simp)) fun ⟨r12,hk13⟩=>?_
  have:=VOk.le hk13
  have:=VOk.cap hk13
  have:=B4v ((to_ - from_).toNat+1) 5 (to_ - from_) (by omega) (by omega);try rw [hy1] at this
  have:=VOk.cap hk13
  have:=VOk.le hk13
  refine Y4 [] ((vo C3 27 (⟨some b9,1,[]⟩:VR) ([⟨some ⟨b8,0,none⟩,1,1⟩]:List Slc))++([])) (T:=26) (c:=A5) (r:=r12) (xs:=y1) hk13 (by first|rfl|simp only [List.flatten_cons,List.flatten_nil,List.cons_append,List.append_assoc,List.nil_append,List.append_nil]) ?_
  refine it rfl (B2 (c:=C3) (xs:=([⟨va r12.q,y1.length,r12.k⟩]:List Slc)) Y0 rfl rfl rfl (by kernel_rfl)) fun b14=>?_
  have hrows15:B5 ([⟨va r12.q,y1.length,r12.k⟩]:List Slc) ([y1]:List (List Act)):=(B5.cons ⟨rfl,(by first|omega|(simp<;>omega)|(dsimp only;omega)|decide),(by first|omega|(simp<;>omega)|(dsimp only;omega)|decide)⟩ B5.none)
  refine C2 (q:=D8 A5 ([⟨va r12.q,y1.length,r12.k⟩]:List Slc) ([y1]:List (List Act))) (K6 (A1 1 rfl) G3) ?_
  have:([⟨va r12.q,y1.length,r12.k⟩]:List Slc).length=1:=rfl
  have hw18:B5 (([⟨some ⟨b8,0,none⟩,1,1⟩]:List Slc)++([⟨va r12.q,y1.length,r12.k⟩]:List Slc)) (([([{Act.zero with kind:=20,n:=1,m:=(to_ - from_)}]:List Act)]:List (List Act))++([y1]:List (List Act))):=B5.append hrows10 hrows15
  refine it rfl (H6 (r:=(⟨some b9,1,[]⟩:VR)) (rs:=([⟨some ⟨b8,0,none⟩,1,1⟩]:List Slc)) (xss:=([([{Act.zero with kind:=20,n:=1,m:=(to_ - from_)}]:List Act)]:List (List Act))) (pre:=[]) (post:=[]) A2y rfl rfl rfl rfl rfl rfl rfl rfl rfl (A1 1 rfl) (A1 3 rfl) (A1 0 rfl) hrows10 hrows15 (show VOk 1 1 _ from ⟨rfl,Nat.le_refl _,Nat.le_of_ble_eq_true rfl⟩) (by first|omega|(simp<;>omega)) (by first|omega|(simp<;>omega))) fun ⟨r16,hr17⟩=>?_
  have:=VOk.le hr17
  have:=VOk.cap hr17
  have:([([{Act.zero with kind:=20,n:=1,m:=(to_ - from_)}]:List Act)]:List (List Act)).length=1:=rfl
  have:([y1]:List (List Act)).length=1:=rfl
  have:(([([{Act.zero with kind:=20,n:=1,m:=(to_ - from_)}]:List Act)]:List (List Act))++([y1]:List (List Act))).length=([([{Act.zero with kind:=20,n:=1,m:=(to_ - from_)}]:List Act)]:List (List Act)).length+1:=List.length_append
  refine ip' 1 0 [(5,.slice (va r16.q) ((([([{Act.zero with kind:=20,n:=1,m:=(to_ - from_)}]:List Act)]:List (List Act))++([y1]:List (List Act))).length) r16.k)] (A7 (nx (sr 2 rfl (ip' 2 0 [(4,.slice (va r16.q) ((([([{Act.zero with kind:=20,n:=1,m:=(to_ - from_)}]:List Act)]:List (List Act))++([y1]:List (List Act))).length) r16.k)] ?_))))
  subst hR
  refine ie (B1 ?_)
  exact zer hr hD (M2 rfl (B8 rfl)) ⟨(r16,(([⟨some ⟨b8,0,none⟩,1,1⟩]:List Slc)++([⟨va r12.q,y1.length,r12.k⟩]:List Slc))),⟨hr17,hw18⟩⟩ (mc [vo C3 27 r16 (([⟨some ⟨b8,0,none⟩,1,1⟩]:List Slc)++([⟨va r12.q,y1.length,r12.k⟩]:List Slc))] [true] rfl (by first|rfl|(simp only [List.length_set]<;>rfl))) (A0.con1 (A1 0 rfl) fn0)
 refine B0 (nx (sr 2 rfl (ip' 2 0 [(4,.slice (va (⟨some b9,1,[]⟩:VR).q) (([([{Act.zero with kind:=20,n:=1,m:=(to_ - from_)}]:List Act)]:List (List Act)).length) ((⟨some b9,1,[]⟩:VR).k))] ?_)))
 subst hR
 refine ie (B1 ?_)
 exact zer hr hD (M2 rfl (B8 rfl)) ⟨((⟨some b9,1,[]⟩:VR),([⟨some ⟨b8,0,none⟩,1,1⟩]:List Slc)),⟨(show VOk 1 1 _ from ⟨rfl,Nat.le_refl _,Nat.le_of_ble_eq_true rfl⟩),hrows10⟩⟩ (mc [vo C3 27 (⟨some b9,1,[]⟩:VR) ([⟨some ⟨b8,0,none⟩,1,1⟩]:List Slc)] [true] rfl (by first|rfl|(simp only [List.length_set]<;>rfl))) (A0.con1 (A1 0 rfl) fn0)
def S1 (to_:Int) (out2:List (List Act)):List (List Act) :=
 (bif (decide ((0:Int)<to_)) then (out2++([(([{Act.zero with kind:=6}]:List Act)++([{Act.zero with kind:=20,n:=2,m:=to_}]:List Act))]:List (List Act))) else (out2++([([{Act.zero with kind:=6}]:List Act)]:List (List Act))))
def V8 (from_:Int) (to_:Int) (out1:List (List Act)):List (List Act) :=
 (bif (decide (to_<from_)) then (bif (decide ((from_ - to_)≤4)) then (D4 (W1 ((from_ - to_).toNat+1) 3 (from_ - to_)) fun (y1:List Act)=>S1 to_ ((out1++([([{Act.zero with kind:=20,n:=3,m:=(from_ - to_)}]:List Act)]:List (List Act)))++([y1]:List (List Act)))) else S1 to_ (out1++([([{Act.zero with kind:=20,n:=3,m:=(from_ - to_)}]:List Act)]:List (List Act)))) else S1 to_ out1)
def V6 (from_:Int) (to_:Int) (out:List (List Act)):List (List Act) :=
 (bif (decide (from_<to_)) then V8 from_ to_ ((out++([([{Act.zero with kind:=22,n:=(to_+1)}]:List Act)]:List (List Act)))++([([{Act.zero with kind:=20,n:=2,m:=(to_ - from_)}]:List Act)]:List (List Act))) else V8 from_ to_ (out++([([{Act.zero with kind:=22,n:=(to_+1)}]:List Act)]:List (List Act))))
def S5 (from_:Int) (to_:Int):List (List Act) :=
 (bif (decide (from_=to_)) then V6 from_ to_ (([]:List (List Act))++([([]:List Act)]:List (List Act))) else V6 from_ to_ ([]:List (List Act)))
theorem B9u (p:Pth) (h:0≤p.to_.col) (out:List (List Act)):H0 p out=S1 p.to_.col out:=by
 unfold H0 S1 D4
 rw [B3o]
 by_cases h0:p.to_.col=0
 ·rw [decide_eq_true h0,decide_eq_false (show ¬ 0<p.to_.col by omega)];rfl
 ·rw [decide_eq_false h0,decide_eq_true (show 0<p.to_.col by omega)];rfl
theorem B9s (p:Pth) (h:0≤p.to_.col) (out:List (List Act)):G9 p out=V8 p.frm.col p.to_.col out:=by
 unfold G9 H9 V8 D4
 have e:-(p.to_.col - p.frm.col)=p.frm.col - p.to_.col:=by omega
 by_cases hl:p.to_.col<p.frm.col
 ·rw [decide_eq_true hl,decide_eq_true (show p.to_.col - p.frm.col<0 by omega),e,B3o,B2t _ _ _ (by omega) (by omega)]
  cases decide (p.frm.col - p.to_.col≤4)<;>exact B9u p h _
 ·rw [decide_eq_false hl,decide_eq_false (show ¬ p.to_.col - p.frm.col<0 by omega)]
  exact B9u p h _
theorem B1g {p:Pth} (h:0≤p.to_.col):S5 p.frm.col p.to_.col=K5 p:=by
 have hj:∀ out,V6 p.frm.col p.to_.col out=K0 p out:=fun out=>by
  unfold V6 K0 D4
  by_cases hl:p.frm.col<p.to_.col
  ·rw [decide_eq_true hl,decide_eq_true (show 0<p.to_.col - p.frm.col by omega)];exact (B9s p h _).symm
  ·rw [decide_eq_false hl,decide_eq_false (show ¬ 0<p.to_.col - p.frm.col by omega)];exact (B9s p h _).symm
 unfold S5 K5
 rw [hj,hj]
 by_cases hl:p.frm.col=p.to_.col
 ·rw [decide_eq_true hl,decide_eq_true (show p.to_.col - p.frm.col=0 by omega)]
 ·rw [decide_eq_false hl,decide_eq_false (show ¬ p.to_.col - p.frm.col=0 by omega)]
theorem B9j {a b:Int} {r:List (List Act)} (hr:S5 a b=r) (hb:0≤a∧a≤80∧0≤b∧b≤80):(∀ e ∈ r,mwA e)∧r.length≤6:=by
 subst hr
 have h2:S5 a b=_:=B1g (p:=⟨⟨0,a,false⟩,⟨0,b⟩⟩) hb.2.2.1
 rw [h2];exact B4r rfl hb
theorem B7j (from_:Int) (to_:Int) (hb:0≤from_∧from_≤80∧0≤to_∧to_≤80) (R:List (List Act)) (hR:S5 from_ to_=R):Con Tryz.prog 54 [iv from_,iv to_] [] [] ({t:VR×List Slc // VOk 1 R.length t.1∧B5 t.2 R}) (fun x=>.slice (va x.1.1.q) R.length x.1.1.k) (fun x=>((vo C3 27 x.1.1 x.1.2)++([]))) (fun x=>[D8 A5 x.1.2 R]):=by
 refine zco Tryz.func54 [(0,iv from_),(1,iv to_)] fun X hX hr hD=>?_
 replace hR:=(S5.eq_1 ..).symm.trans hR
 refine sr 1 rfl (ip' 1 0 [] (ie (sr 1 rfl (ip' 1 0 [(5,.slice none 0 0)] ?_))))
 refine ie (C0v (fun (out:List (List Act)) (outr:VR) (outrs:List Slc)=>(V6 from_ to_ out=R∧VOk 1 out.length outr∧B5 outrs out∧out.length≤1,[(0,iv from_),(1,iv to_),(5,.slice (va outr.q) out.length outr.k)],((vo C3 27 outr outrs)++([])),[D8 A5 outrs out])) ?_ ?_)
 ·refine sr 3 rfl (ip' 3 0 [(9,bv (decide (from_=to_)))] (ie ?_))
  refine zjd rfl hR ?_ ?_<;>clear hR<;>intro hR h1 h1p
  ·refine A4 4 rfl (ip' 1 3 [(10,.slice none 0 0)] (it rfl (B2 (c:=C3) (xs:=([⟨none,0,0⟩]:List Slc)) Y0 rfl rfl rfl (by kernel_rfl)) fun b2=>?_))
   have hrows3:B5 ([⟨none,0,0⟩]:List Slc) ([([]:List Act)]:List (List Act)):=(B5.cons ⟨rfl,(by first|omega|(simp<;>omega)|(dsimp only;omega)|decide),(by first|omega|(simp<;>omega)|(dsimp only;omega)|decide)⟩ B5.none)
   refine C2 (q:=D8 A5 ([⟨none,0,0⟩]:List Slc) ([([]:List Act)]:List (List Act))) (K6 A1c G3) ?_
   have:([⟨none,0,0⟩]:List Slc).length=1:=rfl
   refine C2 (q:=D8 A5 [] ([]:List (List Act))) G3 ?_
   have hw6:B5 (([]:List Slc)++([⟨none,0,0⟩]:List Slc)) (([]:List (List Act))++([([]:List Act)]:List (List Act))):=B5.append B5.none hrows3
   refine it rfl (H6 (r:=VR.nil) (rs:=([]:List Slc)) (xss:=([]:List (List Act))) (pre:=[]) (post:=[]) A2y rfl rfl rfl rfl rfl rfl rfl rfl rfl (A1 2 rfl) (A1 0 rfl) (A1 1 rfl) B5.none hrows3 VOk.nil (by first|omega|(simp<;>omega)) (by first|omega|(simp<;>omega))) fun ⟨r4,hr5⟩=>?_
   have:=VOk.le hr5
   have:=VOk.cap hr5
   have:([]:List (List Act)).length=0:=rfl
   have:([([]:List Act)]:List (List Act)).length=1:=rfl
   have:(([]:List (List Act))++([([]:List Act)]:List (List Act))).length=([]:List (List Act)).length+1:=List.length_append
   refine ip' 1 0 [(5,.slice (va r4.q) ((([]:List (List Act))++([([]:List Act)]:List (List Act))).length) r4.k)] (A7 ?_)
   exact A8j (([]:List (List Act))++([([]:List Act)]:List (List Act))) r4 (([]:List Slc)++([⟨none,0,0⟩]:List Slc)) ⟨hR,hr5,hw6,(by first|omega|(simp<;>omega))⟩ (mc [vo C3 27 r4 (([]:List Slc)++([⟨none,0,0⟩]:List Slc))] [true] rfl (by first|rfl|(simp only [List.length_set]<;>rfl))) (A0.pick [0] rfl)
  refine B0 ?_
  exact A8j ([]:List (List Act)) VR.nil ([]:List Slc) ⟨hR,VOk.nil,B5.none,(by first|omega|(simp<;>omega))⟩ (mc [vo C3 27 VR.nil ([]:List Slc)] [true] rfl (by first|rfl|(simp only [List.length_set]<;>rfl))) (A0.con1 G3 fn0)
 intro out outr outrs
 rintro ⟨hR,hokoutr,hrowsoutrs,hj⟩
 replace hR:=(V6.eq_1 ..).symm.trans hR
 refine sr 8 rfl (ip' 2 6 [(13,.slice (va outr.q) out.length outr.k),(14,iv to_)] (ix rfl (B6 rfl rfl rfl rfl (by omega)) (zrl 1 4 [] [(16,ag (A5 ({Act.zero with kind:=22,n:=(to_+1)})))] (it rfl (B2 (c:=A5) (xs:=([{Act.zero with kind:=22,n:=(to_+1)}]:List Act)) Y2 rfl rfl rfl (by kernel_rfl)) fun b7=>?_))))
 have:([{Act.zero with kind:=22,n:=(to_+1)}]:List Act).length=1:=rfl
 refine it rfl (B2 (c:=C3) (xs:=([⟨some ⟨b7,0,none⟩,1,1⟩]:List Slc)) Y0 rfl rfl rfl (by kernel_rfl)) fun b8=>?_
 have hrows9:B5 ([⟨some ⟨b7,0,none⟩,1,1⟩]:List Slc) ([([{Act.zero with kind:=22,n:=(to_+1)}]:List Act)]:List (List Act)):=(B5.cons ⟨rfl,(by first|omega|(simp<;>omega)|(dsimp only;omega)|decide),(by first|omega|(simp<;>omega)|(dsimp only;omega)|decide)⟩ B5.none)
 refine C2 (q:=D8 A5 ([⟨some ⟨b7,0,none⟩,1,1⟩]:List Slc) ([([{Act.zero with kind:=22,n:=(to_+1)}]:List Act)]:List (List Act))) (K6 (A1 1 rfl) G3) ?_
 have:([⟨some ⟨b7,0,none⟩,1,1⟩]:List Slc).length=1:=rfl
 have hw12:B5 (outrs++([⟨some ⟨b7,0,none⟩,1,1⟩]:List Slc)) (out++([([{Act.zero with kind:=22,n:=(to_+1)}]:List Act)]:List (List Act))):=B5.append hrowsoutrs hrows9
 refine it rfl (H6 (r:=outr) (rs:=outrs) (xss:=out) (pre:=[]) (post:=[]) A2y rfl rfl rfl rfl rfl rfl rfl rfl rfl (A1 1 rfl) (A1 3 rfl) (A1 0 rfl) hrowsoutrs hrows9 hokoutr (by first|omega|(simp<;>omega)) (by first|omega|(simp<;>omega))) fun ⟨r10,hr11⟩=>?_
 have:=VOk.le hr11
 have:=VOk.cap hr11
 have:([([{Act.zero with kind:=22,n:=(to_+1)}]:List Act)]:List (List Act)).length=1:=rfl
 have:(out++([([{Act.zero with kind:=22,n:=(to_+1)}]:List Act)]:List (List Act))).length=out.length+1:=List.length_append
 refine ip' 1 0 [(5,.slice (va r10.q) ((out++([([{Act.zero with kind:=22,n:=(to_+1)}]:List Act)]:List (List Act))).length) r10.k)] ?_
 refine ie (C0v (fun (out1:List (List Act)) (outr1:VR) (outrs1:List Slc)=>(V8 from_ to_ out1=R∧VOk 1 out1.length outr1∧B5 outrs1 out1∧out1.length≤3,[(0,iv from_),(1,iv to_),(5,.slice (va outr1.q) out1.length outr1.k)],((vo C3 27 outr1 outrs1)++([])),[D8 A5 (outrs++([⟨some ⟨b7,0,none⟩,1,1⟩]:List Slc)) (out++([([{Act.zero with kind:=22,n:=(to_+1)}]:List Act)]:List (List Act))),D8 A5 ([⟨some ⟨b7,0,none⟩,1,1⟩]:List Slc) ([([{Act.zero with kind:=22,n:=(to_+1)}]:List Act)]:List (List Act)),sl C3 (some ⟨b8,0,none⟩) ([⟨some ⟨b7,0,none⟩,1,1⟩]:List Slc),sl A5 (some ⟨b7,0,none⟩) ([{Act.zero with kind:=22,n:=(to_+1)}]:List Act),D8 A5 outrs out,D8 A5 outrs1 out1])) ?_ ?_)
 ·refine sr 3 rfl (ip' 3 0 [(22,bv (decide (from_<to_)))] (ie ?_))
  refine zjd rfl hR ?_ ?_<;>clear hR<;>intro hR h13 h13p
  ·refine A4 9 rfl (ip' 3 6 [(23,.slice (va r10.q) ((out++([([{Act.zero with kind:=22,n:=(to_+1)}]:List Act)]:List (List Act))).length) r10.k),(24,iv to_),(25,iv from_)] (ix rfl (K2 rfl rfl rfl rfl (by omega)) (zrl 1 4 [] [(27,ag (A5 ({Act.zero with kind:=20,n:=2,m:=(to_ - from_)})))] (it rfl (B2 (c:=A5) (xs:=([{Act.zero with kind:=20,n:=2,m:=(to_ - from_)}]:List Act)) Y2 rfl rfl rfl (by kernel_rfl)) fun b14=>?_))))
   have:([{Act.zero with kind:=20,n:=2,m:=(to_ - from_)}]:List Act).length=1:=rfl
   refine it rfl (B2 (c:=C3) (xs:=([⟨some ⟨b14,0,none⟩,1,1⟩]:List Slc)) Y0 rfl rfl rfl (by kernel_rfl)) fun b15=>?_
   have hrows16:B5 ([⟨some ⟨b14,0,none⟩,1,1⟩]:List Slc) ([([{Act.zero with kind:=20,n:=2,m:=(to_ - from_)}]:List Act)]:List (List Act)):=(B5.cons ⟨rfl,(by first|omega|(simp<;>omega)|(dsimp only;omega)|decide),(by first|omega|(simp<;>omega)|(dsimp only;omega)|decide)⟩ B5.none)
   refine C2 (q:=D8 A5 ([⟨some ⟨b14,0,none⟩,1,1⟩]:List Slc) ([([{Act.zero with kind:=20,n:=2,m:=(to_ - from_)}]:List Act)]:List (List Act))) (K6 (A1 1 rfl) G3) ?_
   have:([⟨some ⟨b14,0,none⟩,1,1⟩]:List Slc).length=1:=rfl
   have hw19:B5 ((outrs++([⟨some ⟨b7,0,none⟩,1,1⟩]:List Slc))++([⟨some ⟨b14,0,none⟩,1,1⟩]:List Slc)) ((out++([([{Act.zero with kind:=22,n:=(to_+1)}]:List Act)]:List (List Act)))++([([{Act.zero with kind:=20,n:=2,m:=(to_ - from_)}]:List Act)]:List (List Act))):=B5.append hw12 hrows16
   refine it rfl (H6 (r:=r10) (rs:=(outrs++([⟨some ⟨b7,0,none⟩,1,1⟩]:List Slc))) (xss:=(out++([([{Act.zero with kind:=22,n:=(to_+1)}]:List Act)]:List (List Act)))) (pre:=[]) (post:=[]) A2y rfl rfl rfl rfl rfl rfl rfl rfl rfl (A1 1 rfl) (A1 3 rfl) (A1 0 rfl) hw12 hrows16 hr11 (by first|omega|(simp<;>omega)) (by first|omega|(simp<;>omega))) fun ⟨r17,hr18⟩=>?_
   have:=VOk.le hr18
   have:=VOk.cap hr18
   have:([([{Act.zero with kind:=20,n:=2,m:=(to_ - from_)}]:List Act)]:List (List Act)).length=1:=rfl
   have:((out++([([{Act.zero with kind:=22,n:=(to_+1)}]:List Act)]:List (List Act)))++([([{Act.zero with kind:=20,n:=2,m:=(to_ - from_)}]:List Act)]:List (List Act))).length=(out++([([{Act.zero with kind:=22,n:=(to_+1)}]:List Act)]:List (List Act))).length+1:=List.length_append
   refine ip' 1 0 [(5,.slice (va r17.q) (((out++([([{Act.zero with kind:=22,n:=(to_+1)}]:List Act)]:List (List Act)))++([([{Act.zero with kind:=20,n:=2,m:=(to_ - from_)}]:List Act)]:List (List Act))).length) r17.k)] (A7 ?_)
   exact A8j ((out++([([{Act.zero with kind:=22,n:=(to_+1)}]:List Act)]:List (List Act)))++([([{Act.zero with kind:=20,n:=2,m:=(to_ - from_)}]:List Act)]:List (List Act))) r17 ((outrs++([⟨some ⟨b7,0,none⟩,1,1⟩]:List Slc))++([⟨some ⟨b14,0,none⟩,1,1⟩]:List Slc)) ⟨hR,hr18,hw19,(by first|omega|(simp<;>omega))⟩ (mc [vo C3 27 r17 ((outrs++([⟨some ⟨b7,0,none⟩,1,1⟩]:List Slc))++([⟨some ⟨b14,0,none⟩,1,1⟩]:List Slc))] [true] rfl (by first|rfl|(simp only [List.length_set]<;>rfl))) (A0.pick [4,5,6,7,8,0] rfl)
  refine B0 ?_
  exact A8j (out++([([{Act.zero with kind:=22,n:=(to_+1)}]:List Act)]:List (List Act))) r10 (outrs++([⟨some ⟨b7,0,none⟩,1,1⟩]:List Slc)) ⟨hR,hr11,hw12,(by first|omega|(simp<;>omega))⟩ (mc [vo C3 27 r10 (outrs++([⟨some ⟨b7,0,none⟩,1,1⟩]:List Slc))] [true] rfl (by first|rfl|(simp only [List.length_set]<;>rfl))) (A0.pick [0,1,2,3,4,0] rfl)
 intro out1 outr1 outrs1
 rintro ⟨hR,hokoutr1,hrowsoutrs1,hj⟩
 replace hR:=(V8.eq_1 ..).symm.trans hR
 refine C0v (fun (out2:List (List Act)) (outr2:VR) (outrs2:List Slc)=>(S1 to_ out2=R∧VOk 1 out2.length outr2∧B5 outrs2 out2∧out2.length≤5,[(1,iv to_),(5,.slice (va outr2.q) out2.length outr2.k)],((vo C3 27 outr2 outrs2)++([])),[D8 A5 (outrs++([⟨some ⟨b7,0,none⟩,1,1⟩]:List Slc)) (out++([([{Act.zero with kind:=22,n:=(to_+1)}]:List Act)]:List (List Act))),D8 A5 ([⟨some ⟨b7,0,none⟩,1,1⟩]:List Slc) ([([{Act.zero with kind:=22,n:=(to_+1)}]:List Act)]:List (List Act)),sl C3 (some ⟨b8,0,none⟩) ([⟨some ⟨b7,0,none⟩,1,1⟩]:List Slc),sl A5 (some ⟨b7,0,none⟩) ([{Act.zero with kind:=22,n:=(to_+1)}]:List Act),D8 A5 outrs out,D8 A5 outrs1 out1,D8 A5 outrs2 out2])) ?_ ?_
 ·refine sr 3 rfl (ip' 3 0 [(33,bv (decide (to_<from_)))] (ie ?_))
  refine zjd rfl hR ?_ ?_<;>clear hR<;>intro hR h20 h20p
  ·refine sr 9 rfl (ip' 3 6 [(34,.slice (va outr1.q) out1.length outr1.k),(35,iv from_),(36,iv to_)] (ix rfl (K2 rfl rfl rfl rfl (by omega)) (zrl 1 4 [] [(38,ag (A5 ({Act.zero with kind:=20,n:=3,m:=(from_ - to_)})))] (it rfl (B2 (c:=A5) (xs:=([{Act.zero with kind:=20,n:=3,m:=(from_ - to_)}]:List Act)) Y2 rfl rfl rfl (by kernel_rfl)) fun b21=>?_))))
   have:([{Act.zero with kind:=20,n:=3,m:=(from_ - to_)}]:List Act).length=1:=rfl
   refine it rfl (B2 (c:=C3) (xs:=([⟨some ⟨b21,0,none⟩,1,1⟩]:List Slc)) Y0 rfl rfl rfl (by kernel_rfl)) fun b22=>?_
   have hrows23:B5 ([⟨some ⟨b21,0,none⟩,1,1⟩]:List Slc) ([([{Act.zero with kind:=20,n:=3,m:=(from_ - to_)}]:List Act)]:List (List Act)):=(B5.cons ⟨rfl,(by first|omega|(simp<;>omega)|(dsimp only;omega)|decide),(by first|omega|(simp<;>omega)|(dsimp only;omega)|decide)⟩ B5.none)
   refine C2 (q:=D8 A5 ([⟨some ⟨b21,0,none⟩,1,1⟩]:List Slc) ([([{Act.zero with kind:=20,n:=3,m:=(from_ - to_)}]:List Act)]:List (List Act))) (K6 (A1 1 rfl) G3) ?_
   have:([⟨some ⟨b21,0,none⟩,1,1⟩]:List Slc).length=1:=rfl
   have hw26:B5 (outrs1++([⟨some ⟨b21,0,none⟩,1,1⟩]:List Slc)) (out1++([([{Act.zero with kind:=20,n:=3,m:=(from_ - to_)}]:List Act)]:List (List Act))):=B5.append hrowsoutrs1 hrows23
   refine it rfl (H6 (r:=outr1) (rs:=outrs1) (xss:=out1) (pre:=[]) (post:=[]) A2y rfl rfl rfl rfl rfl rfl rfl rfl rfl (A1 1 rfl) (A1 8 rfl) (A1 0 rfl) hrowsoutrs1 hrows23 hokoutr1 (by first|omega|(simp<;>omega)) (by first|omega|(simp<;>omega))) fun ⟨r24,hr25⟩=>?_
   have:=VOk.le hr25
   have:=VOk.cap hr25
   have:([([{Act.zero with kind:=20,n:=3,m:=(from_ - to_)}]:List Act)]:List (List Act)).length=1:=rfl
   have:(out1++([([{Act.zero with kind:=20,n:=3,m:=(from_ - to_)}]:List Act)]:List (List Act))).length=out1.length+1:=List.length_append
   refine ip' 1 0 [(5,.slice (va r24.q) ((out1++([([{Act.zero with kind:=20,n:=3,m:=(from_ - to_)}]:List Act)]:List (List Act))).length) r24.k)] (ie (sr 4 rfl (ip' 2 2 [(42,iv from_),(43,iv to_)] (ix rfl (K2 rfl rfl rfl rfl (by omega)) (ip' 1 0 [(45,bv (decide ((from_ - to_)≤4)))] (ie ?_))))))
   refine zjd rfl hR ?_ ?_<;>clear hR<;>intro hR h27 h27p
   ·refine A4 8 rfl (ip' 3 5 [(46,.slice (va r24.q) ((out1++([([{Act.zero with kind:=20,n:=3,m:=(from_ - to_)}]:List Act)]:List (List Act))).length) r24.k),(47,iv from_),(48,iv to_)] (ix rfl (K2 rfl rfl rfl rfl (by omega)) ?_))
    have hQ:=D0 hR;clear hR;obtain ⟨y1,hy1,hR⟩:=hQ
    refine it rfl (C1 (L2:=((vo C3 27 r24 (outrs1++([⟨some ⟨b21,0,none⟩,1,1⟩]:List Slc)))++([]))) (B1b ((from_ - to_).toNat+1) 3 (from_ - to_) (by omega) (Nat.lt_succ_self _) y1 hy1) rfl rfl rfl rfl rfl fn0 (List.Perm.refl _) (fun ⟨r28,hk29⟩=>((vo A5 26 r28 y1)++((vo C3 27 r24 (outrs1++([⟨some ⟨b21,0,none⟩,1,1⟩]:List Slc)))++([])))) (fun _=>by first|rfl|simp)) fun ⟨r28,hk29⟩=>?_
    have:=VOk.le hk29
    have:=VOk.cap hk29
    have:=B4v ((from_ - to_).toNat+1) 3 (from_ - to_) (by omega) (by omega);try rw [hy1] at this
    have:=VOk.cap hk29
    have:=VOk.le hk29
    refine Y4 [] ((vo C3 27 r24 (outrs1++([⟨some ⟨b21,0,none⟩,1,1⟩]:List Slc)))++([])) (T:=26) (c:=A5) (r:=r28) (xs:=y1) hk29 (by first|rfl|simp only [List.flatten_cons,List.flatten_nil,List.cons_append,List.append_assoc,List.nil_append,List.append_nil]) ?_
    refine it rfl (B2 (c:=C3) (xs:=([⟨va r28.q,y1.length,r28.k⟩]:List Slc)) Y0 rfl rfl rfl (by kernel_rfl)) fun b30=>?_
    have hrows31:B5 ([⟨va r28.q,y1.length,r28.k⟩]:List Slc) ([y1]:List (List Act)):=(B5.cons ⟨rfl,(by first|omega|(simp<;>omega)|(dsimp only;omega)|decide),(by first|omega|(simp<;>omega)|(dsimp only;omega)|decide)⟩ B5.none)
    refine C2 (q:=D8 A5 ([⟨va r28.q,y1.length,r28.k⟩]:List Slc) ([y1]:List (List Act))) (K6 (A1 1 rfl) G3) ?_
    have:([⟨va r28.q,y1.length,r28.k⟩]:List Slc).length=1:=rfl
    have hw34:B5 ((outrs1++([⟨some ⟨b21,0,none⟩,1,1⟩]:List Slc))++([⟨va r28.q,y1.length,r28.k⟩]:List Slc)) ((out1++([([{Act.zero with kind:=20,n:=3,m:=(from_ - to_)}]:List Act)]:List (List Act)))++([y1]:List (List Act))):=B5.append hw26 hrows31
    refine it rfl (H6 (r:=r24) (rs:=(outrs1++([⟨some ⟨b21,0,none⟩,1,1⟩]:List Slc))) (xss:=(out1++([([{Act.zero with kind:=20,n:=3,m:=(from_ - to_)}]:List Act)]:List (List Act)))) (pre:=[]) (post:=[]) A2y rfl rfl rfl rfl rfl rfl rfl rfl rfl (A1 1 rfl) (A1 3 rfl) (A1 0 rfl) hw26 hrows31 hr25 (by first|omega|(simp<;>omega)) (by first|omega|(simp<;>omega))) fun ⟨r32,hr33⟩=>?_
    have:=VOk.le hr33
    have:=VOk.cap hr33
    have:([y1]:List (List Act)).length=1:=rfl
    have:((out1++([([{Act.zero with kind:=20,n:=3,m:=(from_ - to_)}]:List Act)]:List (List Act)))++([y1]:List (List Act))).length=(out1++([([{Act.zero with kind:=20,n:=3,m:=(from_ - to_)}]:List Act)]:List (List Act))).length+1:=List.length_append
    refine ip' 1 0 [(5,.slice (va r32.q) (((out1++([([{Act.zero with kind:=20,n:=3,m:=(from_ - to_)}]:List Act)]:List (List Act)))++([y1]:List (List Act))).length) r32.k)] (A7 ?_)
    exact A8j ((out1++([([{Act.zero with kind:=20,n:=3,m:=(from_ - to_)}]:List Act)]:List (List Act)))++([y1]:List (List Act))) r32 ((outrs1++([⟨some ⟨b21,0,none⟩,1,1⟩]:List Slc))++([⟨va r28.q,y1.length,r28.k⟩]:List Slc)) ⟨hR,hr33,hw34,(by first|omega|(simp<;>omega))⟩ (mc [vo C3 27 r32 ((outrs1++([⟨some ⟨b21,0,none⟩,1,1⟩]:List Slc))++([⟨va r28.q,y1.length,r28.k⟩]:List Slc))] [true] rfl (by first|rfl|(simp only [List.length_set]<;>rfl))) (A0.pick [8,9,10,11,12,13,0] rfl)
   refine B0 ?_
   exact A8j (out1++([([{Act.zero with kind:=20,n:=3,m:=(from_ - to_)}]:List Act)]:List (List Act))) r24 (outrs1++([⟨some ⟨b21,0,none⟩,1,1⟩]:List Slc)) ⟨hR,hr25,hw26,(by first|omega|(simp<;>omega))⟩ (mc [vo C3 27 r24 (outrs1++([⟨some ⟨b21,0,none⟩,1,1⟩]:List Slc))] [true] rfl (by first|rfl|(simp only [List.length_set]<;>rfl))) (A0.pick [4,5,6,7,8,9,0] rfl)
  refine B0 ?_
  exact A8j out1 outr1 outrs1 ⟨hR,hokoutr1,hrowsoutrs1,(by first|omega|(simp<;>omega))⟩ (mc [vo C3 27 outr1 outrs1] [true] rfl (by first|rfl|(simp only [List.length_set]<;>rfl))) (A0.pick [0,1,2,3,4,5,5] rfl)
 intro out2 outr2 outrs2
 rintro ⟨hR,hokoutr2,hrowsoutrs2,hj⟩
 replace hR:=(S1.eq_1 ..).symm.trans hR
 refine sr 3 rfl (zrl 1 2 [] [(53,ag (A5 ({Act.zero with kind:=6})))] (it rfl (B2 (c:=A5) (xs:=([{Act.zero with kind:=6}]:List Act)) Y2 rfl rfl rfl (by kernel_rfl)) fun b35=>?_))
 have:([{Act.zero with kind:=6}]:List Act).length=1:=rfl
 refine ip' 1 0 [(6,.slice (some ⟨b35,0,none⟩) 1 1)] (ie (A8 (sr 2 rfl (ip' 2 0 [(56,bv (decide ((0:Int)<to_)))] (ie ?_)))))
 refine zjd rfl hR ?_ ?_<;>clear hR<;>intro hR h36 h36p
 ·refine A4 6 rfl (zrl 3 3 [] [(57,.slice (some ⟨b35,0,none⟩) 1 1),(59,ag (A5 ({Act.zero with kind:=20,n:=2,m:=to_})))] (it rfl (B2 (c:=A5) (xs:=([{Act.zero with kind:=20,n:=2,m:=to_}]:List Act)) Y2 rfl rfl rfl (by kernel_rfl)) fun b37=>?_))
  have:([{Act.zero with kind:=20,n:=2,m:=to_}]:List Act).length=1:=rfl
  refine it rfl (C2r (f:=A5) (xs:=([{Act.zero with kind:=6}]:List Act)) (ys:=([{Act.zero with kind:=20,n:=2,m:=to_}]:List Act)) B7i (fun _=>rfl) (fun _=>rfl) rfl rfl rfl rfl rfl rfl (by omega) (by omega) (by rfl) (A1 1 rfl) (A1 0 rfl) (by simp) (by first|omega|(simp<;>omega)) (by first|omega|(simp<;>omega))) fun ⟨r38,hr39⟩=>?_
  have:=VOk.le hr39
  have:=VOk.cap hr39
  refine ip' 1 0 [(6,.slice (va r38.q) ((([{Act.zero with kind:=6}]:List Act)++([{Act.zero with kind:=20,n:=2,m:=to_}]:List Act)).length) r38.k)] (A7 (nx (sr 5 rfl (ip' 2 3 [(62,.slice (va outr2.q) out2.length outr2.k),(63,.slice (va r38.q) ((([{Act.zero with kind:=6}]:List Act)++([{Act.zero with kind:=20,n:=2,m:=to_}]:List Act)).length) r38.k)] ?_))))
  have:=VOk.cap hr39
  have:=VOk.le hr39
  refine Y4 ((vo C3 27 outr2 outrs2)++([])) [] (T:=26) (c:=A5) (r:=r38) (xs:=(([{Act.zero with kind:=6}]:List Act)++([{Act.zero with kind:=20,n:=2,m:=to_}]:List Act))) hr39 (by first|rfl|simp only [List.flatten_cons,List.flatten_nil,List.cons_append,List.append_assoc,List.nil_append,List.append_nil]) ?_
  refine C0y (L':=((vo C3 27 outr2 outrs2)++([]))) (by first|rfl|simp) ?_
  refine it rfl (B2 (c:=C3) (xs:=([⟨va r38.q,(([{Act.zero with kind:=6}]:List Act)++([{Act.zero with kind:=20,n:=2,m:=to_}]:List Act)).length,r38.k⟩]:List Slc)) Y0 rfl rfl rfl (by kernel_rfl)) fun b40=>?_
  have hrows41:B5 ([⟨va r38.q,(([{Act.zero with kind:=6}]:List Act)++([{Act.zero with kind:=20,n:=2,m:=to_}]:List Act)).length,r38.k⟩]:List Slc) ([(([{Act.zero with kind:=6}]:List Act)++([{Act.zero with kind:=20,n:=2,m:=to_}]:List Act))]:List (List Act)):=(B5.cons ⟨rfl,(by first|omega|(simp<;>omega)|(dsimp only;omega)|decide),(by first|omega|(simp<;>omega)|(dsimp only;omega)|decide)⟩ B5.none)
  refine C2 (q:=D8 A5 ([⟨va r38.q,(([{Act.zero with kind:=6}]:List Act)++([{Act.zero with kind:=20,n:=2,m:=to_}]:List Act)).length,r38.k⟩]:List Slc) ([(([{Act.zero with kind:=6}]:List Act)++([{Act.zero with kind:=20,n:=2,m:=to_}]:List Act))]:List (List Act))) (K6 (A1 1 rfl) G3) ?_
  have:([⟨va r38.q,(([{Act.zero with kind:=6}]:List Act)++([{Act.zero with kind:=20,n:=2,m:=to_}]:List Act)).length,r38.k⟩]:List Slc).length=1:=rfl
  have hw44:B5 (outrs2++([⟨va r38.q,(([{Act.zero with kind:=6}]:List Act)++([{Act.zero with kind:=20,n:=2,m:=to_}]:List Act)).length,r38.k⟩]:List Slc)) (out2++([(([{Act.zero with kind:=6}]:List Act)++([{Act.zero with kind:=20,n:=2,m:=to_}]:List Act))]:List (List Act))):=B5.append hrowsoutrs2 hrows41
  refine it rfl (H6 (r:=outr2) (rs:=outrs2) (xss:=out2) (pre:=[]) (post:=[]) A2y rfl rfl rfl rfl rfl rfl rfl rfl rfl (A1 1 rfl) (A1 11 rfl) (A1 0 rfl) hrowsoutrs2 hrows41 hokoutr2 (by first|omega|(simp<;>omega)) (by first|omega|(simp<;>omega))) fun ⟨r42,hr43⟩=>?_
  have:=VOk.le hr43
  have:=VOk.cap hr43
  have:([(([{Act.zero with kind:=6}]:List Act)++([{Act.zero with kind:=20,n:=2,m:=to_}]:List Act))]:List (List Act)).length=1:=rfl
  have:(out2++([(([{Act.zero with kind:=6}]:List Act)++([{Act.zero with kind:=20,n:=2,m:=to_}]:List Act))]:List (List Act))).length=out2.length+1:=List.length_append
  refine ip' 1 0 [(4,.slice (va r42.q) ((out2++([(([{Act.zero with kind:=6}]:List Act)++([{Act.zero with kind:=20,n:=2,m:=to_}]:List Act))]:List (List Act))).length) r42.k)] ?_
  subst hR
  refine ie (B1 ?_)
  exact zer hr hD (M2 rfl (B8 rfl)) ⟨(r42,(outrs2++([⟨va r38.q,(([{Act.zero with kind:=6}]:List Act)++([{Act.zero with kind:=20,n:=2,m:=to_}]:List Act)).length,r38.k⟩]:List Slc))),⟨hr43,hw44⟩⟩ (mc [vo C3 27 r42 (outrs2++([⟨va r38.q,(([{Act.zero with kind:=6}]:List Act)++([{Act.zero with kind:=20,n:=2,m:=to_}]:List Act)).length,r38.k⟩]:List Slc))] [true] rfl (by first|rfl|(simp only [List.length_set]<;>rfl))) (A0.con1 (A1 0 rfl) fn0)
 refine B0 (nx (sr 5 rfl (ip' 2 3 [(62,.slice (va outr2.q) out2.length outr2.k),(63,.slice (some ⟨b35,0,none⟩) 1 1)] (it rfl (B2 (c:=C3) (xs:=([⟨some ⟨b35,0,none⟩,1,1⟩]:List Slc)) Y0 rfl rfl rfl (by kernel_rfl)) fun b45=>?_))))
 have hrows46:B5 ([⟨some ⟨b35,0,none⟩,1,1⟩]:List Slc) ([([{Act.zero with kind:=6}]:List Act)]:List (List Act)):=(B5.cons ⟨rfl,(by first|omega|(simp<;>omega)|(dsimp only;omega)|decide),(by first|omega|(simp<;>omega)|(dsimp only;omega)|decide)⟩ B5.none)
 refine C2 (q:=D8 A5 ([⟨some ⟨b35,0,none⟩,1,1⟩]:List Slc) ([([{Act.zero with kind:=6}]:List Act)]:List (List Act))) (K6 (A1 1 rfl) G3) ?_
 have:([⟨some ⟨b35,0,none⟩,1,1⟩]:List Slc).length=1:=rfl
 have hw49:B5 (outrs2++([⟨some ⟨b35,0,none⟩,1,1⟩]:List Slc)) (out2++([([{Act.zero with kind:=6}]:List Act)]:List (List Act))):=B5.append hrowsoutrs2 hrows46
 refine it rfl (H6 (r:=outr2) (rs:=outrs2) (xss:=out2) (pre:=[]) (post:=[]) A2y rfl rfl rfl rfl rfl rfl rfl rfl rfl (A1 1 rfl) (A1 9 rfl) (A1 0 rfl) hrowsoutrs2 hrows46 hokoutr2 (by first|omega|(simp<;>omega)) (by first|omega|(simp<;>omega))) fun ⟨r47,hr48⟩=>?_
 have:=VOk.le hr48
 have:=VOk.cap hr48
 have:([([{Act.zero with kind:=6}]:List Act)]:List (List Act)).length=1:=rfl
 have:(out2++([([{Act.zero with kind:=6}]:List Act)]:List (List Act))).length=out2.length+1:=List.length_append
 refine ip' 1 0 [(4,.slice (va r47.q) ((out2++([([{Act.zero with kind:=6}]:List Act)]:List (List Act))).length) r47.k)] ?_
 subst hR
 refine ie (B1 ?_)
 exact zer hr hD (M2 rfl (B8 rfl)) ⟨(r47,(outrs2++([⟨some ⟨b35,0,none⟩,1,1⟩]:List Slc))),⟨hr48,hw49⟩⟩ (mc [vo C3 27 r47 (outrs2++([⟨some ⟨b35,0,none⟩,1,1⟩]:List Slc))] [true] rfl (by first|rfl|(simp only [List.length_set]<;>rfl))) (A0.con1 (A1 0 rfl) fn0)
def N3 (from_:Cur) (y0:List (List Act)) (i:Nat) (ag_ref25_Ways_l3:List (List Act)→Nat→List (List Act)):List (List Act)→List (List Act)→Nat→List (List Act)
 | [],out1,k=>ag_ref25_Ways_l3 out1 (i+1)
 | hd_l4::tl_l4,out1,k=>(bif ((decide ((0:Int)<(((y0.getD i [])++hd_l4).length:Int)))||(!from_.wrap)) then N3 from_ y0 i ag_ref25_Ways_l3 tl_l4 (out1++([((y0.getD i [])++hd_l4)]:List (List Act))) (k+1) else N3 from_ y0 i ag_ref25_Ways_l3 tl_l4 out1 (k+1))
def U1 (from_:Cur) (to_:Plc) (y0:List (List Act)) (y2:List (List Act)):List (List Act)→List (List Act)→Nat→List (List Act)
 | [],out,i=>(out++([([{Act.zero with kind:=19,n:=(to_.row+1),m:=(to_.col+1)}]:List Act)]:List (List Act)))
 | hd_l3::tl_l3,out,i=>N3 from_ y0 i (U1 from_ to_ y0 y2 tl_l3) y2 out 0
def A5p (from_:Cur) (to_:Plc):List (List Act) :=
 (D4 (W7 from_.row to_.row) fun (y0:List (List Act))=>(D4 (S5 from_.col to_.col) fun (y2:List (List Act))=>U1 from_ to_ y0 y2 y0 ([]:List (List Act)) 0))
theorem C0z (from_:Cur) (to_:Plc) (hb:(0≤from_.row∧from_.row≤40∧0≤to_.row∧to_.row≤40)∧(0≤from_.col∧from_.col≤80∧0≤to_.col∧to_.col≤80)) (R:List (List Act)) (hR:A5p from_ to_=R):Con Tryz.prog 28 [ag (G7 from_),ag (H5 to_)] [] [] ({t:VR×List Slc // VOk 1 R.length t.1∧B5 t.2 R}) (fun x=>.slice (va x.1.1.q) R.length x.1.1.k) (fun x=>((vo C3 27 x.1.1 x.1.2)++([]))) (fun x=>[D8 A5 x.1.2 R]):=by
 refine zco Tryz.func28 [(0,ag (G7 from_)),(1,ag (H5 to_))] fun X hX hr hD=>?_
 replace hR:=(A5p.eq_1 ..).symm.trans hR
 refine sr 3 rfl (B4s 3 0 [] (fun b1 b2=>[(2,pt b1 0),(3,pt b2 0)]) (fun b1 b2=>[bx b2 (H5 to_) 54,bx b1 (G7 from_) 52]) (fun b1 b2=>(ie (sr 1 rfl (ip' 1 0 [(5,.slice none 0 0)] (ie (sh 12 [(12,[bx b2 (H5 to_) 54]),(12,[bx b1 (G7 from_) 52])] [] [bx b2 (H5 to_) 54,bx b1 (G7 from_) 52] (zml 12 0) (by kernel_rfl) rfl (by kernel_rfl) (by kernel_rfl) (by kernel_rfl) (mk [true,true] rfl) A0.refl ?_)))))))
 refine zhp [0,2,5,7] 8 (zml 12 165) [(11,pt b1 0),(13,pt b2 0),(16,pt b1 1),(18,pt b2 1)] ?_
 refine zhl 1 [bx b2 (H5 to_) 54,bx b1 (G7 from_) 52] (zml 12 167) rfl (B3 (v:=iv from_.row) ty3 rfl rfl 1 rfl rfl) ?_
 refine zhl 3 [bx b2 (H5 to_) 54,bx b1 (G7 from_) 52] (zml 12 175) rfl (B3 (v:=iv to_.row) ty3 rfl rfl 0 rfl rfl) ?_
 refine zhl 6 [bx b2 (H5 to_) 54,bx b1 (G7 from_) 52] (zml 12 239) rfl (B3 (v:=iv from_.col) ty3 rfl rfl 1 rfl rfl) ?_
 refine zhl 8 [bx b2 (H5 to_) 54,bx b1 (G7 from_) 52] (zml 12 495) rfl (B3 (v:=iv to_.col) ty3 rfl rfl 0 rfl rfl) ?_
 have hQ:=D0 hR;clear hR;obtain ⟨y0,hy0,hR⟩:=hQ
 refine zho 4 [bx b2 (H5 to_) 54,bx b1 (G7 from_) 52] (zml 12 511) rfl (N2 (L2:=[bx b2 (H5 to_) 54,bx b1 (G7 from_) 52]) (C1r from_.row to_.row (by omega) y0 hy0) rfl rfl rfl rfl rfl fn0 (List.Perm.refl _) (fun ⟨⟨r3,rs4⟩,hp7⟩=>(bx b2 (H5 to_) 54::bx b1 (G7 from_) 52::(vo C3 27 r3 rs4)++([]))) (fun ⟨⟨r3,rs4⟩,hp7⟩=>J9 [vo C3 27 r3 rs4,[bx b2 (H5 to_) 54],[bx b1 (G7 from_) 52]] [1,2,0] 3 rfl (by decide) (by first|rfl|simp) [[bx b2 (H5 to_) 54],[bx b1 (G7 from_) 52],vo C3 27 r3 rs4] rfl (by first|rfl|simp))) (fun ⟨⟨r3,rs4⟩,hp7⟩=>(mc [[bx b2 (H5 to_) 54],[bx b1 (G7 from_) 52],vo C3 27 r3 rs4] [true,true,false] (by first|rfl|simp) (by first|rfl|(simp only [List.length_set]<;>rfl)))) (fun ⟨⟨r3,rs4⟩,hp7⟩=>fn0) fun ⟨⟨r3,rs4⟩,hp7⟩=>?_
 try dsimp only at hp7
 obtain ⟨hk5,hw6⟩:=hp7
 have:=VOk.le hk5
 have:=VOk.cap hk5
 have:=hw6.1
 have hdn:=C2b hy0 (by omega)
 have:=hdn.2;try rw [hy0] at this
 have hQ:=D0 hR;clear hR;obtain ⟨y2,hy2,hR⟩:=hQ
 refine zho 9 [bx b2 (H5 to_) 54,bx b1 (G7 from_) 52] (zml 12 1023) rfl (N2 (L2:=(bx b2 (H5 to_) 54::bx b1 (G7 from_) 52::(vo C3 27 r3 rs4)++([]))) (B7j from_.col to_.col (by omega) y2 hy2) rfl rfl rfl rfl rfl fn0 (List.Perm.refl _) (fun ⟨⟨r8,rs9⟩,hp12⟩=>(bx b2 (H5 to_) 54::bx b1 (G7 from_) 52::(vo C3 27 r8 rs9)++((vo C3 27 r3 rs4)++([])))) (fun ⟨⟨r8,rs9⟩,hp12⟩=>J9 [vo C3 27 r8 rs9,[bx b2 (H5 to_) 54],[bx b1 (G7 from_) 52],vo C3 27 r3 rs4] [1,2,0,3] 4 rfl (by decide) (by first|rfl|simp) [[bx b2 (H5 to_) 54],[bx b1 (G7 from_) 52],vo C3 27 r8 rs9,vo C3 27 r3 rs4] rfl (by first|rfl|simp))) (fun ⟨⟨r8,rs9⟩,hp12⟩=>(mc [[bx b2 (H5 to_) 54],[bx b1 (G7 from_) 52],vo C3 27 r8 rs9,vo C3 27 r3 rs4] [true,true,false,false] (by first|rfl|simp) (by first|rfl|(simp only [List.length_set]<;>rfl)))) (fun ⟨⟨r8,rs9⟩,hp12⟩=>fn0) fun ⟨⟨r8,rs9⟩,hp12⟩=>?_
 try dsimp only at hp12
 obtain ⟨hk10,hw11⟩:=hp12
 have:=VOk.le hk10
 have:=VOk.cap hk10
 have:=hw11.1
 have hac:=B9j hy2 (by omega)
 have:=hac.2;try rw [hy2] at this
 refine zhp [10,11] 0 (zml 12 4095) [(6,.slice (va r3.q) y0.length r3.k),(7,.slice (va r8.q) y2.length r8.k)] ?_
 refine A4h (by kernel_rfl) ?_
 refine A8 (sr 1 rfl (ip' 1 0 [(8,iv 0)] ?_))
 refine ie (B4 ?_)
 have:=VOk.cap hk10
 have:=VOk.le hk10
 refine C8y [bx b2 (H5 to_) 54,bx b1 (G7 from_) 52] ((vo C3 27 r3 rs4)++([])) (T:=27) (c:=C3) (r:=r8) (xs:=rs9) (VOk.cast hk10 (by rw [hw11.1])) (by first|rfl|simp only [List.flatten_cons,List.flatten_nil,List.cons_append,List.append_assoc,List.nil_append,List.append_nil]) ?_
 have:=VOk.cap hk5
 have:=VOk.le hk5
 refine C8y [bx b2 (H5 to_) 54,bx b1 (G7 from_) 52] [] (T:=27) (c:=C3) (r:=r3) (xs:=rs4) (VOk.cast hk5 (by rw [hw6.1])) (by first|rfl|simp only [List.flatten_cons,List.flatten_nil,List.cons_append,List.append_assoc,List.nil_append,List.append_nil]) ?_
 refine Z0 (J9 [vo C3 27 VR.nil ([]:List Slc),[bx b2 (H5 to_) 54],[bx b1 (G7 from_) 52]] [1,2,0] 3 rfl (by decide) rfl [[bx b2 (H5 to_) 54],[bx b1 (G7 from_) 52],vo C3 27 VR.nil ([]:List Slc)] rfl (by first|rfl|simp)) ?_
 refine B2d (fun (out:List (List Act)) (outr:VR) (outrs:List Slc) (i:Nat)=>(i≤y0.length∧U1 from_ to_ y0 y2 (y0.drop i) out i=R∧VOk 1 out.length outr∧B5 outrs out∧(out.length≤20 * i∧i≤y0.length),[(2,pt b1 0),(3,pt b2 0),(5,.slice (va outr.q) out.length outr.k),(6,.slice (va r3.q) y0.length r3.k),(7,.slice (va r8.q) y2.length r8.k),(8,iv (i:Int))],(bx b2 (H5 to_) 54::bx b1 (G7 from_) 52::(vo C3 27 outr outrs)++([])),[sl C3 (va r3.q) rs4,sl C3 (va r8.q) rs9,D8 A5 rs9 y2,D8 A5 rs4 y0,D8 A5 outrs out],y0.length - i)) ([]:List (List Act)) VR.nil ([]:List Slc) 0 ⟨(by omega),hR,VOk.nil,B5.none,(by (exact ⟨Nat.zero_le _,Nat.zero_le _⟩))⟩ (mc [[bx b2 (H5 to_) 54],[bx b1 (G7 from_) 52],vo C3 27 VR.nil ([]:List Slc)] [true,true,true] (by first|rfl|simp) (by first|rfl|(simp only [List.length_set]<;>rfl))) (A0.con1 (A1 0 rfl) (A0.con1 (A1 1 rfl) (A0.con1 (A1 2 rfl) (A0.con1 (A1 3 rfl) (A0.con1 G3 fn0))))) ?_
 rintro out outr outrs i ⟨hm13,hR,hokoutr,hrowsoutrs,ho⟩
 have:=VOk.le hokoutr
 have:=hrowsoutrs.1
 have hrow1:=B8f hdn.1 i
 refine A8 (sr 4 rfl (ip' 4 0 [(24,bv (decide ((i:Int)<(y0.length:Int))))] ?_))
 refine ie (X1 rfl (fun h14=>?_) (fun h14=>?_))
 ·have h14p:(i:Int)<(y0.length:Int):=by simpa using h14
  rw [A1j [] (show i<y0.length by omega)] at hR;replace hR:=(U1.eq_2 ..).symm.trans hR
  refine B0 (nx (A8 (B4 (sr 1 rfl (ip' 1 0 [(9,iv 0)] (ie (B4 ?_)))))))
  refine B2d (fun (out1:List (List Act)) (outr1:VR) (outrs1:List Slc) (k:Nat)=>(k≤y2.length∧N3 from_ y0 i (U1 from_ to_ y0 y2 (y0.drop (i+1))) (y2.drop k) out1 k=R∧VOk 1 out1.length outr1∧B5 outrs1 out1∧(out1.length≤20 * i+k∧k≤y2.length),[(2,pt b1 0),(3,pt b2 0),(5,.slice (va outr1.q) out1.length outr1.k),(6,.slice (va r3.q) y0.length r3.k),(7,.slice (va r8.q) y2.length r8.k),(8,iv (i:Int)),(9,iv (k:Int))],(bx b2 (H5 to_) 54::bx b1 (G7 from_) 52::(vo C3 27 outr1 outrs1)++([])),[sl C3 (va r3.q) rs4,sl C3 (va r8.q) rs9,D8 A5 rs9 y2,D8 A5 rs4 y0,D8 A5 outrs out,D8 A5 outrs1 out1],y2.length - k)) out outr outrs 0 ⟨(by omega),hR,hokoutr,hrowsoutrs,(by omega)⟩ (mc [[bx b2 (H5 to_) 54],[bx b1 (G7 from_) 52],vo C3 27 outr outrs] [true,true,true] (by first|rfl|simp) (by first|rfl|(simp only [List.length_set]<;>rfl))) (A0.pick [0,1,2,3,4,4] rfl) ?_
  rintro out1 outr1 outrs1 k ⟨hm15,hR,hokoutr1,hrowsoutrs1,ho1⟩
  have:=VOk.le hokoutr1
  have:=hrowsoutrs1.1
  have hrow2:=B8f hac.1 k
  refine A8 (sr 4 rfl (ip' 4 0 [(30,bv (decide ((k:Int)<(y2.length:Int))))] ?_))
  refine ie (X1 rfl (fun h16=>?_) (fun h16=>?_))
  ·have h16p:(k:Int)<(y2.length:Int):=by simpa using h16
   rw [A1j [] (show k<y2.length by omega)] at hR;replace hR:=(N3.eq_2 ..).symm.trans hR
   refine B0 (nx (A8 (B4 (sr 1 rfl (ip' 1 0 [(10,.slice none 0 0)] (ie (sr 7 rfl (ip' 3 4 [(33,.slice none 0 0),(34,.slice (va r3.q) y0.length r3.k),(35,iv (i:Int))] (P1 0 rfl (by omega) fun a17 hq18=>(C2 (A2v (k:=i) (d:=(⟨none,0,0⟩:Slc)) hw6 3 rfl (by have:=hw6.1;omega)) ?_))))))))))
   have:=A2p hw6 (k:=i) (d:=(⟨none,0,0⟩:Slc)) (by have:=hw6.1;omega)
   refine ix rfl (L7 Y0 rfl rfl hq18 rfl i rfl (by omega)) (ix rfl (H1 (C4 (v:=.slice ((rs4.getD i (⟨none,0,0⟩:Slc)).q) ((rs4.getD i (⟨none,0,0⟩:Slc)).n) ((rs4.getD i (⟨none,0,0⟩:Slc)).k)) (us:=[.slice ((rs4.getD i (⟨none,0,0⟩:Slc)).q) ((rs4.getD i (⟨none,0,0⟩:Slc)).n) ((rs4.getD i (⟨none,0,0⟩:Slc)).k)]) C8b rfl rfl (M9 (c:=C3) (sz:=1) hq18 (fun _=>rfl) 1 rfl (gd (⟨none,0,0⟩:Slc) (by have:=hw6.1;omega))) rfl) (A2m hw6 (by have:=hw6.1;omega))) (it rfl (Tri.own (A9b (f:=A5) (r:=VR.nil) (xs:=([]:List Act)) (ys:=(y0.getD i [])) (pre:=(bx b2 (H5 to_) 54::bx b1 (G7 from_) 52::(vo C3 27 outr1 outrs1)++([]))) (post:=[]) B7i (fun _=>rfl) (fun _=>rfl) rfl rfl rfl rfl rfl rfl rfl (by first|rfl|(try dsimp only;simp only [C0m,List.append_nil,List.cons_append,List.nil_append,List.append_assoc])) (A1 0 rfl) VOk.nil (by first|omega|(rw [List.length_nil];omega)|(simp<;>omega)) (by first|omega|(rw [List.length_nil];omega)|(simp<;>omega))) (fun ⟨r19,hr20⟩=>(bx b2 (H5 to_) 54::bx b1 (G7 from_) 52::(vo C3 27 outr1 outrs1)++((vo A5 26 r19 (y0.getD i []))++([])))) (fun ⟨r19,hr20⟩=>by first|rfl|(try dsimp only;simp only [C0m,List.append_nil,List.cons_append,List.nil_append,List.append_assoc]))) fun ⟨r19,hr20⟩=>?_))
   have:=VOk.le hr20
   have:=VOk.cap hr20
   refine ip' 1 0 [(10,.slice (va r19.q) ((y0.getD i []).length) r19.k)] (ie (sr 7 rfl (ip' 3 4 [(39,.slice (va r19.q) ((y0.getD i []).length) r19.k),(40,.slice (va r8.q) y2.length r8.k),(41,iv (k:Int))] (P1 2 rfl (by omega) fun a21 hq22=>(C2 (A2v (k:=k) (d:=(⟨none,0,0⟩:Slc)) hw11 3 rfl (by have:=hw11.1;omega)) ?_)))))
   have:=A2p hw11 (k:=k) (d:=(⟨none,0,0⟩:Slc)) (by have:=hw11.1;omega)
   refine ix rfl (L7 Y0 rfl rfl hq22 rfl k rfl (by omega)) (ix rfl (H1 (C4 (v:=.slice ((rs9.getD k (⟨none,0,0⟩:Slc)).q) ((rs9.getD k (⟨none,0,0⟩:Slc)).n) ((rs9.getD k (⟨none,0,0⟩:Slc)).k)) (us:=[.slice ((rs9.getD k (⟨none,0,0⟩:Slc)).q) ((rs9.getD k (⟨none,0,0⟩:Slc)).n) ((rs9.getD k (⟨none,0,0⟩:Slc)).k)]) C8b rfl rfl (M9 (c:=C3) (sz:=1) hq22 (fun _=>rfl) 3 rfl (gd (⟨none,0,0⟩:Slc) (by have:=hw11.1;omega))) rfl) (A2m hw11 (by have:=hw11.1;omega))) ?_)
   refine C6i (J9 [[bx b2 (H5 to_) 54],[bx b1 (G7 from_) 52],vo C3 27 outr1 outrs1,vo A5 26 r19 (y0.getD i [])] [0,1,3,2] 4 rfl (by decide) rfl [[bx b2 (H5 to_) 54],[bx b1 (G7 from_) 52],vo A5 26 r19 (y0.getD i []),vo C3 27 outr1 outrs1] rfl (by first|rfl|simp)) ?_
   refine it rfl (Tri.own (A9b (f:=A5) (r:=r19) (xs:=(y0.getD i [])) (ys:=(y2.getD k [])) (pre:=[bx b2 (H5 to_) 54,bx b1 (G7 from_) 52]) (post:=((vo C3 27 outr1 outrs1)++([]))) B7i (fun _=>rfl) (fun _=>rfl) rfl rfl rfl rfl rfl rfl rfl (by first|rfl|(try dsimp only;simp only [C0m,List.append_nil,List.cons_append,List.nil_append,List.append_assoc])) (A1 0 rfl) hr20 (by first|omega|(rw [List.length_nil];omega)|(simp<;>omega)) (by first|omega|(rw [List.length_nil];omega)|(simp<;>omega))) (fun ⟨r23,hr24⟩=>(bx b2 (H5 to_) 54::bx b1 (G7 from_) 52::(vo A5 26 r23 ((y0.getD i [])++(y2.getD k [])))++((vo C3 27 outr1 outrs1)++([])))) (fun ⟨r23,hr24⟩=>by first|rfl|(try dsimp only;simp only [C0m,List.append_nil,List.cons_append,List.nil_append,List.append_assoc]))) fun ⟨r23,hr24⟩=>?_
   have:=@List.length_append _ (y0.getD i []) (y2.getD k [])
   have:=VOk.le hr24
   have:=VOk.cap hr24
   refine C6i (J9 [[bx b2 (H5 to_) 54],[bx b1 (G7 from_) 52],vo A5 26 r23 ((y0.getD i [])++(y2.getD k [])),vo C3 27 outr1 outrs1] [0,1,3,2] 4 rfl (by decide) rfl [[bx b2 (H5 to_) 54],[bx b1 (G7 from_) 52],vo C3 27 outr1 outrs1,vo A5 26 r23 ((y0.getD i [])++(y2.getD k []))] rfl (by first|rfl|simp)) ?_
   refine ip' 1 0 [(10,.slice (va r23.q) (((y0.getD i [])++(y2.getD k [])).length) r23.k)] (ie (sr 8 rfl (ip' 4 4 [(48,bv (decide ((0:Int)<(((y0.getD i [])++(y2.getD k [])).length:Int))))] ?_)))
   refine zir 4 0 48 52 (!from_.wrap) (fun g25 g25p=>?_) ?_
   ·refine zrl 4 0 [1] [(52,bv (!from_.wrap))] ?_
    exact A7 (Q5 2 48 52 g25 A0.refl (mc [[bx b2 (H5 to_) 54],[bx b1 (G7 from_) 52],vo C3 27 outr1 outrs1,vo A5 26 r23 ((y0.getD i [])++(y2.getD k []))] [true,true,true,true] (by first|rfl|simp) (by first|rfl|(simp only [List.length_set]<;>rfl))) rfl rfl rfl rfl rfl)
   refine ie ?_
   refine zjb rfl hR ?_ ?_<;>clear hR<;>intro hR h26
   ·have h26p:=h26;try simp at h26p
    refine A4 5 rfl (ip' 2 3 [(53,.slice (va outr1.q) out1.length outr1.k),(54,.slice (va r23.q) (((y0.getD i [])++(y2.getD k [])).length) r23.k)] ?_)
    have:=VOk.cap hr24
    have:=VOk.le hr24
    refine Y4 (bx b2 (H5 to_) 54::bx b1 (G7 from_) 52::(vo C3 27 outr1 outrs1)++([])) [] (T:=26) (c:=A5) (r:=r23) (xs:=((y0.getD i [])++(y2.getD k []))) hr24 (by first|rfl|simp only [List.flatten_cons,List.flatten_nil,List.cons_append,List.append_assoc,List.nil_append,List.append_nil]) ?_
    refine C0y (L':=(bx b2 (H5 to_) 54::bx b1 (G7 from_) 52::(vo C3 27 outr1 outrs1)++([]))) (by first|rfl|simp) ?_
    refine it rfl (B2 (c:=C3) (xs:=([⟨va r23.q,((y0.getD i [])++(y2.getD k [])).length,r23.k⟩]:List Slc)) Y0 rfl rfl rfl (by kernel_rfl)) fun b27=>?_
    have hrows28:B5 ([⟨va r23.q,((y0.getD i [])++(y2.getD k [])).length,r23.k⟩]:List Slc) ([((y0.getD i [])++(y2.getD k []))]:List (List Act)):=(B5.cons ⟨rfl,(by first|omega|(simp<;>omega)|(dsimp only;omega)|decide),(by first|omega|(simp<;>omega)|(dsimp only;omega)|decide)⟩ B5.none)
    refine C2 (q:=D8 A5 ([⟨va r23.q,((y0.getD i [])++(y2.getD k [])).length,r23.k⟩]:List Slc) ([((y0.getD i [])++(y2.getD k []))]:List (List Act))) (K6 (A1 1 rfl) G3) ?_
    have:([⟨va r23.q,((y0.getD i [])++(y2.getD k [])).length,r23.k⟩]:List Slc).length=1:=rfl
    have hw31:B5 (outrs1++([⟨va r23.q,((y0.getD i [])++(y2.getD k [])).length,r23.k⟩]:List Slc)) (out1++([((y0.getD i [])++(y2.getD k []))]:List (List Act))):=B5.append hrowsoutrs1 hrows28
    refine it rfl (H6 (r:=outr1) (rs:=outrs1) (xss:=out1) (pre:=[bx b2 (H5 to_) 54,bx b1 (G7 from_) 52]) (post:=[]) A2y rfl rfl rfl rfl rfl rfl rfl rfl rfl (A1 1 rfl) (A1 10 rfl) (A1 0 rfl) hrowsoutrs1 hrows28 hokoutr1 (by first|omega|(rw [List.length_nil];omega)|(simp<;>omega)) (by first|omega|(rw [List.length_nil];omega)|(simp<;>omega))) fun ⟨r29,hr30⟩=>?_
    have:=VOk.le hr30
    have:=VOk.cap hr30
    have:([((y0.getD i [])++(y2.getD k []))]:List (List Act)).length=1:=rfl
    have:(out1++([((y0.getD i [])++(y2.getD k []))]:List (List Act))).length=out1.length+1:=List.length_append
    refine ip' 1 0 [(5,.slice (va r29.q) ((out1++([((y0.getD i [])++(y2.getD k []))]:List (List Act))).length) r29.k)] (A7 (nx (A4 3 rfl (ip' 1 2 [(31,iv (k:Int))] (ix rfl (B6 rfl rfl rfl rfl (by omega)) (ip' 1 0 [(9,iv ((k:Int)+1))] (A7 ?_)))))))
    exact A8f (z1:=out1) (z2:=outr1) (z3:=outrs1) (z4:=k) (out1++([((y0.getD i [])++(y2.getD k []))]:List (List Act))) r29 (outrs1++([⟨va r23.q,((y0.getD i [])++(y2.getD k [])).length,r23.k⟩]:List Slc)) (k+1) ⟨(by omega),hR,hr30,hw31,(by (first|omega|(simp<;>omega)))⟩ (by (try dsimp only);omega) (mc [[bx b2 (H5 to_) 54],[bx b1 (G7 from_) 52],vo C3 27 r29 (outrs1++([⟨va r23.q,((y0.getD i [])++(y2.getD k [])).length,r23.k⟩]:List Slc))] [true,true,true] (by first|rfl|simp) (by first|rfl|(simp only [List.length_set]<;>rfl))) (A0.pick [6,7,8,9,10,0] rfl)
   have h26p:=h26;try simp at h26p
   refine B0 (nx (A4 3 rfl (ip' 1 2 [(31,iv (k:Int))] (ix rfl (B6 rfl rfl rfl rfl (by omega)) (ip' 1 0 [(9,iv ((k:Int)+1))] (A7 ?_))))))
   exact A8f (z1:=out1) (z2:=outr1) (z3:=outrs1) (z4:=k) out1 outr1 outrs1 (k+1) ⟨(by omega),hR,hokoutr1,hrowsoutrs1,(by (first|omega|(simp<;>omega)))⟩ (by (try dsimp only);omega) (mc [[bx b2 (H5 to_) 54],[bx b1 (G7 from_) 52],vo C3 27 outr1 outrs1,vo A5 26 r23 ((y0.getD i [])++(y2.getD k []))] [true,true,true,false] (by first|rfl|simp) (by first|rfl|(simp only [List.length_set]<;>rfl))) (A0.pick [2,3,4,5,6,7] rfl)
  have h16p:¬ ((k:Int)<(y2.length:Int)):=by simpa using h16
  rw [A1g h16p] at hR;replace hR:=(N3.eq_1 ..).symm.trans hR
  refine H7 (nx (A4 3 rfl (ip' 1 2 [(25,iv (i:Int))] ?_)))
  refine ix rfl (B6 rfl rfl rfl rfl (by omega)) (ip' 1 0 [(8,iv ((i:Int)+1))] (A7 ?_))
  exact A8f (z1:=out) (z2:=outr) (z3:=outrs) (z4:=i) out1 outr1 outrs1 (i+1) ⟨(by omega),hR,hokoutr1,hrowsoutrs1,(by (first|omega|(simp<;>omega)))⟩ (by (try dsimp only);omega) (mc [[bx b2 (H5 to_) 54],[bx b1 (G7 from_) 52],vo C3 27 outr1 outrs1] [true,true,true] (by first|rfl|simp) (by first|rfl|(simp only [List.length_set]<;>rfl))) (A0.pick [0,1,2,3,5] rfl)
 have h14p:¬ ((i:Int)<(y0.length:Int)):=by simpa using h14
 rw [A1g h14p] at hR;replace hR:=(U1.eq_1 ..).symm.trans hR
 refine H7 (nx (sr 12 rfl (zrl 3 9 [0] [(57,.slice (va outr.q) out.length outr.k),(59,iv to_.row)] ?_)))
 refine ix rfl (B6 rfl rfl rfl rfl (by omega)) (zrl 2 6 [0] [(62,iv to_.col)] (ix rfl (B6 rfl rfl rfl rfl (by omega)) (zrl 1 4 [] [(64,ag (A5 ({Act.zero with kind:=19,n:=(to_.row+1),m:=(to_.col+1)})))] (it rfl (B2 (c:=A5) (xs:=([{Act.zero with kind:=19,n:=(to_.row+1),m:=(to_.col+1)}]:List Act)) Y2 rfl rfl rfl (by kernel_rfl)) fun b32=>?_))))
 have:([{Act.zero with kind:=19,n:=(to_.row+1),m:=(to_.col+1)}]:List Act).length=1:=rfl
 refine it rfl (B2 (c:=C3) (xs:=([⟨some ⟨b32,0,none⟩,1,1⟩]:List Slc)) Y0 rfl rfl rfl (by kernel_rfl)) fun b33=>?_
 have hrows34:B5 ([⟨some ⟨b32,0,none⟩,1,1⟩]:List Slc) ([([{Act.zero with kind:=19,n:=(to_.row+1),m:=(to_.col+1)}]:List Act)]:List (List Act)):=(B5.cons ⟨rfl,(by first|omega|(simp<;>omega)|(dsimp only;omega)|decide),(by first|omega|(simp<;>omega)|(dsimp only;omega)|decide)⟩ B5.none)
 refine C2 (q:=D8 A5 ([⟨some ⟨b32,0,none⟩,1,1⟩]:List Slc) ([([{Act.zero with kind:=19,n:=(to_.row+1),m:=(to_.col+1)}]:List Act)]:List (List Act))) (K6 (A1 1 rfl) G3) ?_
 have:([⟨some ⟨b32,0,none⟩,1,1⟩]:List Slc).length=1:=rfl
 have hw37:B5 (outrs++([⟨some ⟨b32,0,none⟩,1,1⟩]:List Slc)) (out++([([{Act.zero with kind:=19,n:=(to_.row+1),m:=(to_.col+1)}]:List Act)]:List (List Act))):=B5.append hrowsoutrs hrows34
 refine it rfl (H6 (r:=outr) (rs:=outrs) (xss:=out) (pre:=[bx b2 (H5 to_) 54,bx b1 (G7 from_) 52]) (post:=[]) A2y rfl rfl rfl rfl rfl rfl rfl rfl rfl (A1 1 rfl) (A1 7 rfl) (A1 0 rfl) hrowsoutrs hrows34 hokoutr (by first|omega|(rw [List.length_nil];omega)|(simp<;>omega)) (by first|omega|(rw [List.length_nil];omega)|(simp<;>omega))) fun ⟨r35,hr36⟩=>?_
 have:=VOk.le hr36
 have:=VOk.cap hr36
 have:([([{Act.zero with kind:=19,n:=(to_.row+1),m:=(to_.col+1)}]:List Act)]:List (List Act)).length=1:=rfl
 have:(out++([([{Act.zero with kind:=19,n:=(to_.row+1),m:=(to_.col+1)}]:List Act)]:List (List Act))).length=out.length+1:=List.length_append
 refine ip' 1 0 [(4,.slice (va r35.q) ((out++([([{Act.zero with kind:=19,n:=(to_.row+1),m:=(to_.col+1)}]:List Act)]:List (List Act))).length) r35.k)] ?_
 subst hR
 refine ie (B1 ?_)
 exact zer hr hD (M2 rfl (B8 rfl)) ⟨(r35,(outrs++([⟨some ⟨b32,0,none⟩,1,1⟩]:List Slc))),⟨hr36,hw37⟩⟩ (mc [[bx b2 (H5 to_) 54],[bx b1 (G7 from_) 52],vo C3 27 r35 (outrs++([⟨some ⟨b32,0,none⟩,1,1⟩]:List Slc))] [false,false,true] (by first|rfl|simp) (by first|rfl|(simp only [List.length_set]<;>rfl))) (A0.con1 (A1 0 rfl) fn0)
end Go.Proofs.YtanighkpfmgnbaaGreatDoor
set_option linter.unusedVariables false
set_option linter.unusedSimpArgs false
set_option linter.unnecessarySimpa false
set_option maxRecDepth 100000
namespace Go.Proofs.YtanighkpfmgnbaaGreatDoor
open Go Go.Fen
def X2 (b:List Act):List Act→Nat→Bool
 | [],i=>true
 | hd_l0::tl_l0,i=>(bif (!(decide (hd_l0=(b.getD i Act.zero)))) then false else X2 b tl_l0 (i+1))
def K1 (a:List Act) (b:List Act):Bool :=
 (bif (!decide ((a.length:Int)=(b.length:Int))) then false else X2 b a 0)
theorem A8h (a:List Act) (b:List Act) (aq:Option Addr) (ak:Nat) (bq:Option Addr) (bk:Nat) (hla:a.length≤9223372036854775807) (hca:a.length≤ak) (hlb:b.length≤9223372036854775807) (hcb:b.length≤bk) (R:Bool) (hR:K1 a b=R):K4 Tryz.prog 29 [.slice aq a.length ak,.slice bq b.length bk] [sl A5 aq a,sl A5 bq b] (bv R):=by
 refine zco Tryz.func29 [(0,.slice aq a.length ak),(1,.slice bq b.length bk)] fun X hX hr hD=>?_
 replace hR:=(K1.eq_1 ..).symm.trans hR
 refine sr 1 rfl (ip' 1 0 [] (ie (A8 (sr 5 rfl (ip' 5 0 [(10,bv (!decide ((a.length:Int)=(b.length:Int))))] (ie ?_))))))
 refine zjn rfl hR ?_ ?_<;>clear hR<;>intro hR h1 h1p
 ·refine sr 1 rfl (ip' 1 0 [(4,bv false)] ?_)
  subst hR
  refine ie (B1 ?_)
  exact F9 hr hD
 refine B0 (nx (A8 (sr 1 rfl (ip' 1 0 [(5,iv 0)] (ie (B4 (C2w (fun (i:Nat)=>(i≤a.length∧X2 b (a.drop i) i=R,[(0,.slice aq a.length ak),(1,.slice bq b.length bk),(5,iv (i:Int))],[],[sl A5 aq a,sl A5 bq b],a.length - i)) 0 ⟨(by omega),hR⟩ (mk [] rfl) A0.refl ?_)))))))
 rintro i ⟨hm2,hR⟩
 refine A8 (sr 4 rfl (ip' 4 0 [(14,bv (decide ((i:Int)<(a.length:Int))))] ?_))
 refine ie (X1 rfl (fun h3=>?_) (fun h3=>?_))
 ·have h3p:(i:Int)<(a.length:Int):=by simpa using h3
  rw [A1j Act.zero (show i<a.length by omega)] at hR;replace hR:=(X2.eq_2 ..).symm.trans hR
  refine B0 (nx (A8 (B4 (sd 9 rfl (by kernel_rfl) rfl (dp' 2 7 [(17,.slice aq a.length ak),(18,iv (i:Int))] ?_)))))
  refine B6h 0 rfl (by omega) fun a4 hq5=>?_
  refine dd rfl (L7 Y2 rfl rfl hq5 rfl i rfl (by omega)) (dd rfl (O4 (us:=A5 (a.getD i Act.zero)) B2i rfl rfl (M9 (c:=A5) (sz:=6) hq5 (fun _=>rfl) 0 rfl (gd Act.zero (by omega))) rfl) (dp' 2 3 [(21,.slice bq b.length bk),(22,iv (i:Int))] ?_))
  refine B6h 1 rfl (by omega) fun a6 hq7=>?_
  refine dd rfl (L7 Y2 rfl rfl hq7 rfl i rfl (by omega)) (dd rfl (O4 (us:=A5 (b.getD i Act.zero)) B2i rfl rfl (M9 (c:=A5) (sz:=6) hq7 (fun _=>rfl) 1 rfl (gd Act.zero (by omega))) rfl) (dd rfl (A0f (a:=(a.getD i Act.zero)) (b:=(b.getD i Act.zero)) C8s rfl rfl rfl) (de ?_)))
  refine zjn rfl hR ?_ ?_<;>clear hR<;>intro hR h8 h8p
  ·refine sr 1 rfl (ip' 1 0 [(4,bv false)] ?_)
   subst hR
   refine ie (B1 ?_)
   exact F9 hr hD
  refine B0 (nx (A4 3 rfl (ip' 1 2 [(15,iv (i:Int))] (ix rfl (B6 rfl rfl rfl rfl (by omega)) (ip' 1 0 [(5,iv ((i:Int)+1))] (A7 ?_))))))
  exact C3r (z1:=i) (i+1) ⟨(by omega),hR⟩ (by (try dsimp only);omega) (mk [] rfl) A0.refl
 have h3p:¬ ((i:Int)<(a.length:Int)):=by simpa using h3
 rw [A1g h3p] at hR;replace hR:=(X2.eq_1 ..).symm.trans hR
 refine H7 (nx (sr 1 rfl (ip' 1 0 [(4,bv true)] ?_)))
 subst hR
 refine ie (B1 ?_)
 exact F9 hr hD
def A3y:Bool :=
 (D4 (A0q 20 9 ({Cur.zero with row:=3,col:=4}) ({Plc.zero with row:=3})) fun (y0:List Act×Int)=>(D4 (A0q 20 9 ({Cur.zero with row:=8,col:=19}) Plc.zero) fun (y1:List Act×Int)=>(D4 (A0q 20 9 ({Cur.zero with row:=9}) Plc.zero) fun (y3:List Act×Int)=>(D4 (A0k 20 9 Cur.zero Plc.zero) fun (y2:List (List Act)×Int)=>(((((((decide (y0.2=0))&&(K1 y0.1 ([{Act.zero with kind:=6}]:List Act)))&&(decide (y1.2=0)))&&(K1 y1.1 ([{Act.zero with kind:=19,n:=1,m:=1}]:List Act)))&&(decide (y3.2=2)))&&(decide (y2.2=0)))&&(decide ((y2.1.length:Int)=4)))))))
theorem B9d (R:Bool) (hR:A3y=R):K4 Tryz.prog 25 [] [A9q,A9z,M8,M5,J7,N4] (bv R):=by
 refine zco Tryz.func25 [] fun X hX hr hD=>?_
 replace hR:=(A3y.eq_1 ..).symm.trans hR
 refine sr 1 rfl (ip' 1 0 [] (ie (sr 8 rfl (zrl 2 6 [] [(10,ag (G7 ({Cur.zero with row:=3,col:=4}))),(11,ag (H5 ({Plc.zero with row:=3})))] ?_))))
 have hQ:=D0 hR;clear hR;obtain ⟨y0,hy0,hR⟩:=hQ
 refine zcm (A7a 20 9 ({Cur.zero with row:=3,col:=4}) ({Plc.zero with row:=3}) y0 hy0) A0.refl fun ⟨⟨q1,k2⟩,hp3⟩=>?_
 obtain ⟨hc4,hl5⟩:=hp3
 have hbm:=C0r hy0
 have:=hbm.1;try rw [hy0] at this
 refine ip' 5 0 [(1,.slice q1 y0.1.length k2),(2,iv y0.2)] (ie (sr 8 rfl (zrl 2 6 [] [(16,ag (G7 ({Cur.zero with row:=8,col:=19}))),(17,ag (H5 Plc.zero))] ?_)))
 have hQ:=D0 hR;clear hR;obtain ⟨y1,hy1,hR⟩:=hQ
 refine zcm (A7a 20 9 ({Cur.zero with row:=8,col:=19}) Plc.zero y1 hy1) (A0.pick [1,2,3,4,5,6] rfl) fun ⟨⟨q6,k7⟩,hp8⟩=>?_
 obtain ⟨hc9,hl10⟩:=hp8
 have hbm:=C0r hy1
 have:=hbm.1;try rw [hy1] at this
 refine ip' 5 0 [(3,.slice q6 y1.1.length k7),(4,iv y1.2)] (ie (sr 8 rfl (zrl 2 6 [] [(22,ag (G7 ({Cur.zero with row:=9}))),(23,ag (H5 Plc.zero))] ?_)))
 have hQ:=D0 hR;clear hR;obtain ⟨y3,hy3,hR⟩:=hQ
 refine zcm (A7a 20 9 ({Cur.zero with row:=9}) Plc.zero y3 hy3) (A0.pick [2,3,4,5,6,7] rfl) fun ⟨⟨q11,k12⟩,hp13⟩=>?_
 obtain ⟨hc14,hl15⟩:=hp13
 have hbm:=C0r hy3
 have:=hbm.1;try rw [hy3] at this
 refine ip' 5 0 [(6,iv y3.2)] (ie (sr 8 rfl (zrl 2 6 [] [(28,ag (G7 Cur.zero)),(29,ag (H5 Plc.zero))] ?_)))
 have hQ:=D0 hR;clear hR;obtain ⟨y2,hy2,hR⟩:=hQ
 refine it rfl (C1 (L2:=[]) (B1j 20 9 Cur.zero Plc.zero y2 hy2) rfl rfl rfl rfl rfl fn0 (List.Perm.refl _) (fun ⟨⟨r16,rs17⟩,hp20⟩=>((vo C3 27 r16 rs17)++([]))) (fun _=>by first|rfl|simp)) fun ⟨⟨r16,rs17⟩,hp20⟩=>?_
 try dsimp only at hp20
 obtain ⟨hk18,hw19⟩:=hp20
 have:=VOk.le hk18
 have:=VOk.cap hk18
 have:=hw19.1
 have hwq:=C5k hy2
 have:=hwq.2;try rw [hy2] at this
 refine Y4 [] [] (T:=27) (c:=C3) (r:=r16) (xs:=rs17) (VOk.cast hk18 (by rw [hw19.1])) (by first|rfl|simp only [List.flatten_cons,List.flatten_nil,List.cons_append,List.append_assoc,List.nil_append,List.append_nil]) ?_
 refine ip' 5 0 [(7,.slice (va r16.q) y2.1.length r16.k),(8,iv y2.2)] (ie (sr 32 rfl (ip' 3 29 [(35,bv (decide (y0.2=0)))] ?_)))
 refine zid 5 24 35 40 (K1 y0.1 ([{Act.zero with kind:=6}]:List Act)) (fun g21 g21p=>?_) ?_
 ·refine zrl 2 3 [] [(36,.slice q1 y0.1.length k2),(37,ag (A5 ({Act.zero with kind:=6})))] (it rfl (B2 (c:=A5) (xs:=([{Act.zero with kind:=6}]:List Act)) Y2 rfl rfl rfl (by kernel_rfl)) fun b22=>?_)
  have:([{Act.zero with kind:=6}]:List Act).length=1:=rfl
  refine zca (A8h y0.1 ([{Act.zero with kind:=6}]:List Act) q1 k2 (some ⟨b22,0,none⟩) 1 (by first|omega|(simp<;>omega)|(dsimp only;omega)|decide) (by first|omega|(simp<;>omega)|(dsimp only;omega)|decide) (by first|omega|(simp<;>omega)|(dsimp only;omega)|decide) (by first|omega|(simp<;>omega)|(dsimp only;omega)|decide) _ rfl) (A0.pick [5,0] rfl) (ip' 1 0 [(40,bv (K1 y0.1 ([{Act.zero with kind:=6}]:List Act)))] ?_)
  exact A7 (Q5 6 35 40 g21 (A0.pick [1,2,3,4,5,6,7,8,9,10,11] rfl) (mk [] rfl) rfl rfl rfl rfl rfl)
 refine ip' 1 23 [(41,bv ((decide (y0.2=0))&&(K1 y0.1 ([{Act.zero with kind:=6}]:List Act))))] ?_
 refine zia 3 20 41 44 (decide (y1.2=0)) (fun g23=>?_) ?_
 ·have g23p:=g23;try simp at g23p
  refine ip' 3 0 [(44,bv (decide (y1.2=0)))] ?_
  exact zai 2 41 44 g23
 refine ip' 1 19 [(45,bv (((decide (y0.2=0))&&(K1 y0.1 ([{Act.zero with kind:=6}]:List Act)))&&(decide (y1.2=0))))] ?_
 refine zia 5 14 45 50 (K1 y1.1 ([{Act.zero with kind:=19,n:=1,m:=1}]:List Act)) (fun g24=>?_) ?_
 ·have g24p:=g24;try simp at g24p
  refine zrl 2 3 [] [(46,.slice q6 y1.1.length k7),(47,ag (A5 ({Act.zero with kind:=19,n:=1,m:=1})))] (it rfl (B2 (c:=A5) (xs:=([{Act.zero with kind:=19,n:=1,m:=1}]:List Act)) Y2 rfl rfl rfl (by kernel_rfl)) fun b25=>?_)
  have:([{Act.zero with kind:=19,n:=1,m:=1}]:List Act).length=1:=rfl
  refine zca (A8h y1.1 ([{Act.zero with kind:=19,n:=1,m:=1}]:List Act) q6 k7 (some ⟨b25,0,none⟩) 1 (by first|omega|(simp<;>omega)|(dsimp only;omega)|decide) (by first|omega|(simp<;>omega)|(dsimp only;omega)|decide) (by first|omega|(simp<;>omega)|(dsimp only;omega)|decide) (by first|omega|(simp<;>omega)|(dsimp only;omega)|decide) _ rfl) (A0.pick [4,0] rfl) (ip' 1 0 [(50,bv (K1 y1.1 ([{Act.zero with kind:=19,n:=1,m:=1}]:List Act)))] ?_)
  exact A7 (Q5 6 45 50 g24 (A0.pick [1,2,3,4,5,6,7,8,9,10,11] rfl) (mk [] rfl) rfl rfl rfl rfl rfl)
 refine ip' 1 13 [(51,bv ((((decide (y0.2=0))&&(K1 y0.1 ([{Act.zero with kind:=6}]:List Act)))&&(decide (y1.2=0)))&&(K1 y1.1 ([{Act.zero with kind:=19,n:=1,m:=1}]:List Act))))] ?_
 refine zia 3 10 51 54 (decide (y3.2=2)) (fun g26=>?_) ?_
 ·have g26p:=g26;try simp at g26p
  refine ip' 3 0 [(54,bv (decide (y3.2=2)))] ?_
  exact zai 2 51 54 g26
 refine ip' 1 9 [(55,bv (((((decide (y0.2=0))&&(K1 y0.1 ([{Act.zero with kind:=6}]:List Act)))&&(decide (y1.2=0)))&&(K1 y1.1 ([{Act.zero with kind:=19,n:=1,m:=1}]:List Act)))&&(decide (y3.2=2))))] ?_
 refine zia 3 6 55 58 (decide (y2.2=0)) (fun g27=>?_) ?_
 ·have g27p:=g27;try simp at g27p
  refine ip' 3 0 [(58,bv (decide (y2.2=0)))] ?_
  exact zai 2 55 58 g27
 refine ip' 1 5 [(59,bv ((((((decide (y0.2=0))&&(K1 y0.1 ([{Act.zero with kind:=6}]:List Act)))&&(decide (y1.2=0)))&&(K1 y1.1 ([{Act.zero with kind:=19,n:=1,m:=1}]:List Act)))&&(decide (y3.2=2)))&&(decide (y2.2=0))))] ?_
 refine zia 4 1 59 63 (decide ((y2.1.length:Int)=4)) (fun g28=>?_) ?_
 ·have g28p:=g28;try simp at g28p
  refine ip' 4 0 [(63,bv (decide ((y2.1.length:Int)=4)))] ?_
  exact zai 2 59 63 g28
 refine ip' 1 0 [(0,bv (((((((decide (y0.2=0))&&(K1 y0.1 ([{Act.zero with kind:=6}]:List Act)))&&(decide (y1.2=0)))&&(K1 y1.1 ([{Act.zero with kind:=19,n:=1,m:=1}]:List Act)))&&(decide (y3.2=2)))&&(decide (y2.2=0)))&&(decide ((y2.1.length:Int)=4))))] ?_
 subst hR
 refine ie (B1 ?_)
 exact F9 hr hD
end Go.Proofs.YtanighkpfmgnbaaGreatDoor
set_option linter.unusedVariables false
set_option linter.unusedSimpArgs false
set_option linter.unnecessarySimpa false
set_option maxRecDepth 100000
namespace Go.Proofs.YtanighkpfmgnbaaGreatDoor
open Go Go.Fen
def M4 (y1:List (List Act)):List (List Act)→Nat→Bool
 | [],t60=>true
 | hd_l0::tl_l0,t60=>(bif (!(K1 hd_l0 (y1.getD t60 []))) then false else M4 y1 tl_l0 (t60+1))
def A0u (cols:Int) (rows:Int) (from_:Cur) (to_:Plc):Bool :=
 (bif (!A3y) then false else (D4 (A0k cols rows from_ to_) fun (y0:List (List Act)×Int)=>(bif ((!(P5 cols rows from_))||(!(P5 cols rows ({Cur.zero with row:=to_.row,col:=to_.col})))) then ((decide (y0.2=2))&&(decide ((y0.1.length:Int)=0))) else (D4 (A5p from_ to_) fun (y1:List (List Act))=>(bif ((!decide (y0.2=0))||(!decide ((y0.1.length:Int)=(y1.length:Int)))) then false else M4 y1 y0.1 0)))))
theorem B2e (cols:Int) (rows:Int) (from_:Cur) (to_:Plc) (R:Bool) (hR:A0u cols rows from_ to_=R):K4 Tryz.prog 8 [iv cols,iv rows,ag (G7 from_),ag (H5 to_)] [A9q,A9z,M8,M5,J7,N4] (bv R):=by
 refine zco Tryz.func8 [(0,iv cols),(1,iv rows),(2,ag (G7 from_)),(3,ag (H5 to_))] fun X hX hr hD=>?_
 replace hR:=(A0u.eq_1 ..).symm.trans hR
 refine sr 3 rfl (B4s 3 0 [] (fun b1 b2=>[(6,pt b1 0),(7,pt b2 0)]) (fun b1 b2=>[bx b2 (H5 to_) 54,bx b1 (G7 from_) 52]) (fun b1 b2=>(ie (A8 (sr 2 rfl (zca (B9d _ rfl) A0.refl (ip' 1 0 [(14,bv (!A3y))] (ie ?_))))))))
 refine zjb rfl hR ?_ ?_<;>clear hR<;>intro hR h3
 ·refine sr 1 rfl (ip' 1 0 [(8,bv false)] ?_)
  subst hR
  refine ie (B1 ?_)
  exact F9 hr hD
 refine B0 (nx (sr 10 rfl (zrl 4 6 [1,0] [(16,iv cols),(17,iv rows),(18,ag (G7 from_)),(19,ag (H5 to_))] ?_)))
 have hQ:=D0 hR;clear hR;obtain ⟨y0,hy0,hR⟩:=hQ
 refine it rfl (N2 (L2:=[bx b2 (H5 to_) 54,bx b1 (G7 from_) 52]) (B1j cols rows from_ to_ y0 hy0) rfl rfl rfl rfl rfl fn0 (List.Perm.refl _) (fun ⟨⟨r4,rs5⟩,hp8⟩=>(bx b2 (H5 to_) 54::bx b1 (G7 from_) 52::(vo C3 27 r4 rs5)++([]))) (fun ⟨⟨r4,rs5⟩,hp8⟩=>J9 [vo C3 27 r4 rs5,[bx b2 (H5 to_) 54],[bx b1 (G7 from_) 52]] [1,2,0] 3 rfl (by decide) (by first|rfl|simp) [[bx b2 (H5 to_) 54],[bx b1 (G7 from_) 52],vo C3 27 r4 rs5] rfl (by first|rfl|simp))) fun ⟨⟨r4,rs5⟩,hp8⟩=>?_
 try dsimp only at hp8
 obtain ⟨hk6,hw7⟩:=hp8
 have:=VOk.le hk6
 have:=VOk.cap hk6
 have:=hw7.1
 have hwq:=C5k hy0
 have:=hwq.2;try rw [hy0] at this
 refine Y4 [bx b2 (H5 to_) 54,bx b1 (G7 from_) 52] [] (T:=27) (c:=C3) (r:=r4) (xs:=rs5) (VOk.cast hk6 (by rw [hw7.1])) (by first|rfl|simp only [List.flatten_cons,List.flatten_nil,List.cons_append,List.append_assoc,List.nil_append,List.append_nil]) ?_
 refine ip' 5 0 [(9,.slice (va r4.q) y0.1.length r4.k),(10,iv y0.2)] (ie (A8 (sr 16 rfl (zrl 3 13 [1] [(23,iv cols),(24,iv rows),(25,ag (G7 from_))] (zca (B8c cols rows from_ _ rfl) fn0 (ip' 2 10 [(28,bv (!(P5 cols rows from_)))] ?_))))))
 refine zio 10 0 28 38 (!(P5 cols rows ({Cur.zero with row:=to_.row,col:=to_.col}))) (fun g9=>?_) ?_
 ·refine zrl 7 3 [0,0] [(29,iv cols),(30,iv rows),(35,ag (G7 ({Cur.zero with row:=to_.row,col:=to_.col})))] (zca (B8c cols rows ({Cur.zero with row:=to_.row,col:=to_.col}) _ rfl) fn0 (ip' 2 0 [(38,bv (!(P5 cols rows ({Cur.zero with row:=to_.row,col:=to_.col}))))] ?_))
  exact zai 6 28 38 g9
 refine ie ?_
 refine zjb rfl hR ?_ ?_<;>clear hR<;>intro hR h10
 ·have h10p:=h10;try simp at h10p
  refine sr 8 rfl (ip' 3 5 [(41,bv (decide (y0.2=2)))] ?_)
  refine zid 4 1 41 45 (decide ((y0.1.length:Int)=0)) (fun g11 g11p=>?_) ?_
  ·refine ip' 4 0 [(45,bv (decide ((y0.1.length:Int)=0)))] ?_
   exact zai 2 41 45 g11
  refine ip' 1 0 [(8,bv ((decide (y0.2=2))&&(decide ((y0.1.length:Int)=0))))] ?_
  subst hR
  refine ie (B1 ?_)
  exact F9 hr hD
 have h10p:=h10;try simp at h10p
 have hib:=(C5n (C8a h10).1)
 have hib2:(2≤cols∧cols≤80∧1≤rows∧rows≤40)∧(0≤to_.row∧to_.row<rows∧0≤to_.col∧to_.col<cols)∧(false=true→to_.col=cols - 1):=C5n (C8a h10).2
 refine B0 (nx (sr 4 rfl (zrl 2 2 [1,0] [(46,ag (G7 from_)),(47,ag (H5 to_))] ?_)))
 have hQ:=D0 hR;clear hR;obtain ⟨y1,hy1,hR⟩:=hQ
 refine it rfl (N2 (L2:=[bx b2 (H5 to_) 54,bx b1 (G7 from_) 52]) (C0z from_ to_ (by omega) y1 hy1) rfl rfl rfl rfl rfl fn0 (List.Perm.refl _) (fun ⟨⟨r12,rs13⟩,hp16⟩=>(bx b2 (H5 to_) 54::bx b1 (G7 from_) 52::(vo C3 27 r12 rs13)++([]))) (fun ⟨⟨r12,rs13⟩,hp16⟩=>J9 [vo C3 27 r12 rs13,[bx b2 (H5 to_) 54],[bx b1 (G7 from_) 52]] [1,2,0] 3 rfl (by decide) (by first|rfl|simp) [[bx b2 (H5 to_) 54],[bx b1 (G7 from_) 52],vo C3 27 r12 rs13] rfl (by first|rfl|simp))) fun ⟨⟨r12,rs13⟩,hp16⟩=>?_
 try dsimp only at hp16
 obtain ⟨hk14,hw15⟩:=hp16
 have:=VOk.le hk14
 have:=VOk.cap hk14
 have:=hw15.1
 refine Y4 [bx b2 (H5 to_) 54,bx b1 (G7 from_) 52] [] (T:=27) (c:=C3) (r:=r12) (xs:=rs13) (VOk.cast hk14 (by rw [hw15.1])) (by first|rfl|simp only [List.flatten_cons,List.flatten_nil,List.cons_append,List.append_assoc,List.nil_append,List.append_nil]) ?_
 refine ip' 1 0 [(11,.slice (va r12.q) y1.length r12.k)] (ie (A8 (sr 9 rfl (ip' 3 6 [(51,bv (!decide (y0.2=0)))] ?_))))
 refine zio 6 0 51 57 (!decide ((y0.1.length:Int)=(y1.length:Int))) (fun g17=>?_) ?_
 ·have g17p:¬ (¬ y0.2=0):=by simpa using g17
  refine ip' 6 0 [(57,bv (!decide ((y0.1.length:Int)=(y1.length:Int))))] ?_
  exact zai 2 51 57 g17
 refine ie ?_
 refine zjb rfl hR ?_ ?_<;>clear hR<;>intro hR h18
 ·have h18p:(¬ y0.2=0)∨(¬ (y0.1.length:Int)=(y1.length:Int)):=by simpa using h18
  refine sr 1 rfl (ip' 1 0 [(8,bv false)] ?_)
  subst hR
  refine ie (B1 ?_)
  exact F9 hr hD
 have h18p:¬ ((¬ y0.2=0)∨(¬ (y0.1.length:Int)=(y1.length:Int))):=by simpa using h18
 refine B0 (nx (A8 (sr 3 rfl (ip' 3 0 [(59,iv (y0.1.length:Int)),(60,iv 0)] (ie (B4 (C2w (fun (t60:Nat)=>(t60≤y0.1.length∧M4 y1 (y0.1.drop t60) t60=R,[(9,.slice (va r4.q) y0.1.length r4.k),(11,.slice (va r12.q) y1.length r12.k),(59,iv (y0.1.length:Int)),(60,iv (t60:Int))],[bx b2 (H5 to_) 54,bx b1 (G7 from_) 52],[sl C3 (va r12.q) rs13,D8 A5 rs13 y1,sl C3 (va r4.q) rs5,D8 A5 rs5 y0.1,A9q,A9z,M8,M5,J7,N4],y0.1.length - t60)) 0 ⟨(by omega),hR⟩ (mk [true,true] rfl) A0.refl ?_)))))))
 rintro t60 ⟨hm19,hR⟩
 refine sr 1 rfl (ip' 1 0 [(61,bv (decide ((t60:Int)<(y0.1.length:Int))))] ?_)
 refine ie (A8 (X1 rfl (fun h20=>?_) (fun h20=>?_)))
 ·have h20p:(t60:Int)<(y0.1.length:Int):=by simpa using h20
  rw [A1j [] (show t60<y0.1.length by omega)] at hR;replace hR:=(M4.eq_2 ..).symm.trans hR
  refine B0 (nx (A8 (B4 (sr 2 rfl (ip' 2 0 [(12,iv (t60:Int))] (ie (sd 10 rfl (by kernel_rfl) rfl (dp' 2 8 [(63,.slice (va r4.q) y0.1.length r4.k),(64,iv (t60:Int))] ?_))))))))
  refine B6h 2 rfl (by omega) fun a21 hq22=>?_
  refine C2n (A2v (k:=t60) (d:=(⟨none,0,0⟩:Slc)) hw7 3 rfl (by have:=hw7.1;omega)) ?_
  have:=A2p hw7 (k:=t60) (d:=(⟨none,0,0⟩:Slc)) (by have:=hw7.1;omega)
  refine dd rfl (L7 Y0 rfl rfl hq22 rfl t60 rfl (by omega)) (dd rfl (H1 (C4 (v:=.slice ((rs5.getD t60 (⟨none,0,0⟩:Slc)).q) ((rs5.getD t60 (⟨none,0,0⟩:Slc)).n) ((rs5.getD t60 (⟨none,0,0⟩:Slc)).k)) (us:=[.slice ((rs5.getD t60 (⟨none,0,0⟩:Slc)).q) ((rs5.getD t60 (⟨none,0,0⟩:Slc)).n) ((rs5.getD t60 (⟨none,0,0⟩:Slc)).k)]) C8b rfl rfl (M9 (c:=C3) (sz:=1) hq22 (fun _=>rfl) 3 rfl (gd (⟨none,0,0⟩:Slc) (by have:=hw7.1;omega))) rfl) (A2m hw7 (by have:=hw7.1;omega))) (dp' 2 4 [(67,.slice (va r12.q) y1.length r12.k),(68,iv (t60:Int))] ?_))
  refine B6h 1 rfl (by omega) fun a23 hq24=>?_
  refine C2n (A2v (k:=t60) (d:=(⟨none,0,0⟩:Slc)) hw15 2 rfl (by have:=hw15.1;omega)) ?_
  have:=A2p hw15 (k:=t60) (d:=(⟨none,0,0⟩:Slc)) (by have:=hw15.1;omega)
  refine dd rfl (L7 Y0 rfl rfl hq24 rfl t60 rfl (by omega)) (dd rfl (H1 (C4 (v:=.slice ((rs13.getD t60 (⟨none,0,0⟩:Slc)).q) ((rs13.getD t60 (⟨none,0,0⟩:Slc)).n) ((rs13.getD t60 (⟨none,0,0⟩:Slc)).k)) (us:=[.slice ((rs13.getD t60 (⟨none,0,0⟩:Slc)).q) ((rs13.getD t60 (⟨none,0,0⟩:Slc)).n) ((rs13.getD t60 (⟨none,0,0⟩:Slc)).k)]) C8b rfl rfl (M9 (c:=C3) (sz:=1) hq24 (fun _=>rfl) 2 rfl (gd (⟨none,0,0⟩:Slc) (by have:=hw15.1;omega))) rfl) (A2m hw15 (by have:=hw15.1;omega))) ?_)
  refine zcd (A8h (y0.1.getD t60 []) (y1.getD t60 []) ((rs5.getD t60 (⟨none,0,0⟩:Slc)).q) ((rs5.getD t60 (⟨none,0,0⟩:Slc)).k) ((rs13.getD t60 (⟨none,0,0⟩:Slc)).q) ((rs13.getD t60 (⟨none,0,0⟩:Slc)).k) (by first|omega|(simp<;>omega)|(dsimp only;omega)|decide) (by first|omega|(simp<;>omega)|(dsimp only;omega)|decide) (by first|omega|(simp<;>omega)|(dsimp only;omega)|decide) (by first|omega|(simp<;>omega)|(dsimp only;omega)|decide) _ rfl) (A0.pick [1,0] rfl) ?_
  refine dp' 1 0 [(72,bv (!(K1 (y0.1.getD t60 []) (y1.getD t60 []))))] (de ?_)
  refine zjb rfl hR ?_ ?_<;>clear hR<;>intro hR h25
  ·refine sr 1 rfl (ip' 1 0 [(8,bv false)] ?_)
   subst hR
   refine ie (B1 ?_)
   exact F9 hr hD
  refine B0 (nx (A4 2 rfl (ix rfl (B6 rfl rfl rfl rfl (by omega)) (ip' 1 0 [(60,iv ((t60:Int)+1))] (A7 ?_)))))
  exact C3r (z1:=t60) (t60+1) ⟨(by omega),hR⟩ (by (try dsimp only);omega) (mk [true,true] rfl) (A0.pick [2,3,4,5,6,7,8,9,10,11] rfl)
 have h20p:¬ ((t60:Int)<(y0.1.length:Int)):=by simpa using h20
 rw [A1g h20p] at hR;replace hR:=(M4.eq_1 ..).symm.trans hR
 refine H7 (nx (sr 1 rfl (ip' 1 0 [(8,bv true)] ?_)))
 subst hR
 refine ie (B1 ?_)
 exact F9 hr hD
end Go.Proofs.YtanighkpfmgnbaaGreatDoor
