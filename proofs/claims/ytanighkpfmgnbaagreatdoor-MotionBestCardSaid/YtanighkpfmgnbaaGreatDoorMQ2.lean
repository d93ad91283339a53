import Derived.Test.YtanighkpfmgnbaaGreatDoorProg
import Derived.Test.YtanighkpfmgnbaaGreatDoorMA2
import Derived.Test.YtanighkpfmgnbaaGreatDoorMB1
import Derived.Test.YtanighkpfmgnbaaGreatDoorMA3
import Derived.Test.YtanighkpfmgnbaaGreatDoorMB2
import Derived.Test.YtanighkpfmgnbaaGreatDoorMB3
import Derived.Test.YtanighkpfmgnbaaGreatDoorMQ1
set_option linter.unusedVariables false
set_option linter.unusedSimpArgs false
set_option linter.unnecessarySimpa false
set_option maxRecDepth 100000
namespace Go.Proofs.YtanighkpfmgnbaaGreatDoor
open Go Go.Fen
def V1 (cols:Int) (rows:Int) (c:Cur):Bool :=
 (bif ((((((((decide (cols<2))||(decide ((80:Int)<cols)))||(decide (rows<1)))||(decide ((40:Int)<rows)))||(decide (c.row<0)))||(decide (rows≤c.row)))||(decide (c.col<0)))||(decide (cols≤c.col))) then false else ((!c.wrap)||(decide (c.col=(IntKind.i64.wrap (cols - (1:Int)))))))
theorem C4i (cols:Int) (rows:Int) (c:Cur) (R:Bool) (hR:V1 cols rows c=R):K5 Tryz.prog 27 [iv cols,iv rows,ag (H2 c)] [] (bv R):=by
 refine zco Tryz.func27 [(0,iv cols),(1,iv rows),(2,ag (H2 c))] fun X hX hr hD=>?_
 replace hR:=(V1.eq_1 ..).symm.trans hR
 refine sr 2 rfl (P1 2 0 [] (fun b1=>[(5,pt b1 0)]) (fun b1=>[bx b1 (H2 c) 52]) (fun b1=>(ie (A7 (sr 36 rfl (ip' 3 33 [(9,bv (decide (cols<2)))] ?_))))))
 refine zir 3 30 9 12 (decide ((80:Int)<cols)) (fun g2 g2p=>?_) ?_
 ·refine ip' 3 0 [(12,bv (decide ((80:Int)<cols)))] ?_
  exact A6 (Q2 2 9 12 g2 fn0 (mk [true] rfl) rfl rfl rfl rfl rfl)
 refine ip' 1 29 [(13,bv ((decide (cols<2))||(decide ((80:Int)<cols))))] ?_
 refine zio 3 26 13 16 (decide (rows<1)) (fun g3=>?_) ?_
 ·have g3p:¬ ((cols<2)∨((80:Int)<cols)):=by simpa using g3
  refine ip' 3 0 [(16,bv (decide (rows<1)))] ?_
  exact A6 (Q2 2 13 16 g3 fn0 (mk [true] rfl) rfl rfl rfl rfl rfl)
 refine ip' 1 25 [(17,bv (((decide (cols<2))||(decide ((80:Int)<cols)))||(decide (rows<1))))] ?_
 refine zio 3 22 17 20 (decide ((40:Int)<rows)) (fun g4=>?_) ?_
 ·have g4p:¬ (((cols<2)∨((80:Int)<cols))∨(rows<1)):=by simpa using g4
  refine ip' 3 0 [(20,bv (decide ((40:Int)<rows)))] ?_
  exact A6 (Q2 2 17 20 g4 fn0 (mk [true] rfl) rfl rfl rfl rfl rfl)
 refine ip' 1 21 [(21,bv ((((decide (cols<2))||(decide ((80:Int)<cols)))||(decide (rows<1)))||(decide ((40:Int)<rows))))] ?_
 refine zio 4 17 21 25 (decide (c.row<0)) (fun g5=>?_) ?_
 ·have g5p:¬ ((((cols<2)∨((80:Int)<cols))∨(rows<1))∨((40:Int)<rows)):=by simpa using g5
  refine zrl 4 0 [0] [(25,bv (decide (c.row<0)))] ?_
  exact A6 (Q2 2 21 25 g5 fn0 (mk [true] rfl) rfl rfl rfl rfl rfl)
 refine ip' 1 16 [(26,bv (((((decide (cols<2))||(decide ((80:Int)<cols)))||(decide (rows<1)))||(decide ((40:Int)<rows)))||(decide (c.row<0))))] ?_
 refine zio 5 11 26 31 (decide (rows≤c.row)) (fun g6=>?_) ?_
 ·have g6p:¬ (((((cols<2)∨((80:Int)<cols))∨(rows<1))∨((40:Int)<rows))∨(c.row<0)):=by simpa using g6
  refine zrl 5 0 [0] [(31,bv (decide (rows≤c.row)))] ?_
  exact A6 (Q2 2 26 31 g6 fn0 (mk [true] rfl) rfl rfl rfl rfl rfl)
 refine ip' 1 10 [(32,bv ((((((decide (cols<2))||(decide ((80:Int)<cols)))||(decide (rows<1)))||(decide ((40:Int)<rows)))||(decide (c.row<0)))||(decide (rows≤c.row))))] ?_
 refine zio 4 6 32 36 (decide (c.col<0)) (fun g7=>?_) ?_
 ·have g7p:¬ ((((((cols<2)∨((80:Int)<cols))∨(rows<1))∨((40:Int)<rows))∨(c.row<0))∨(rows≤c.row)):=by simpa using g7
  refine zrl 4 0 [0] [(36,bv (decide (c.col<0)))] ?_
  exact A6 (Q2 2 32 36 g7 fn0 (mk [true] rfl) rfl rfl rfl rfl rfl)
 refine ip' 1 5 [(37,bv (((((((decide (cols<2))||(decide ((80:Int)<cols)))||(decide (rows<1)))||(decide ((40:Int)<rows)))||(decide (c.row<0)))||(decide (rows≤c.row)))||(decide (c.col<0))))] ?_
 refine zio 5 0 37 42 (decide (cols≤c.col)) (fun g8=>?_) ?_
 ·have g8p:¬ (((((((cols<2)∨((80:Int)<cols))∨(rows<1))∨((40:Int)<rows))∨(c.row<0))∨(rows≤c.row))∨(c.col<0)):=by simpa using g8
  refine zrl 5 0 [0] [(42,bv (decide (cols≤c.col)))] ?_
  exact A6 (Q2 2 37 42 g8 fn0 (mk [true] rfl) rfl rfl rfl rfl rfl)
 refine ie ?_
 refine zjb rfl hR ?_ ?_<;>clear hR<;>intro hR h9
 ·have h9p:(((((((cols<2)∨((80:Int)<cols))∨(rows<1))∨((40:Int)<rows))∨(c.row<0))∨(rows≤c.row))∨(c.col<0))∨(cols≤c.col):=by simpa using h9
  refine sr 1 rfl (ip' 1 0 [(6,bv false)] ?_)
  subst hR
  refine ie (B0 ?_)
  exact F8 hr hD
 have h9p:¬ ((((((((cols<2)∨((80:Int)<cols))∨(rows<1))∨((40:Int)<rows))∨(c.row<0))∨(rows≤c.row))∨(c.col<0))∨(cols≤c.col)):=by simpa using h9
 refine A9 (nx (sr 11 rfl (zrl 4 7 [0] [(46,bv (!c.wrap))] ?_)))
 refine zio 6 1 46 52 (decide (c.col=(IntKind.i64.wrap (cols - (1:Int))))) (fun g10=>?_) ?_
 ·refine zrl 3 3 [0] [(48,iv c.col),(49,iv cols)] (ix rfl (J0.pure rfl) (ip' 2 0 [(52,bv (decide (c.col=(IntKind.i64.wrap (cols - (1:Int))))))] ?_))
  exact A6 (Q2 5 46 52 g10 fn0 (mk [true] rfl) rfl rfl rfl rfl rfl)
 refine ip' 1 0 [(6,bv ((!c.wrap)||(decide (c.col=(IntKind.i64.wrap (cols - (1:Int)))))))] ?_
 subst hR
 refine ie (B0 ?_)
 exact F8 hr hD
theorem D5c {cols rows:Int} {c:Cur} (h:V1 cols rows c=true):(2≤cols∧cols≤80∧1≤rows∧rows≤40)∧(0≤c.row∧c.row<rows∧0≤c.col∧c.col<cols)∧(c.wrap=true→c.col=cols - 1):=by
 unfold V1 at h
 by_cases hb:(2≤cols∧cols≤80∧1≤rows∧rows≤40)∧(0≤c.row∧c.row<rows∧0≤c.col∧c.col<cols)
 ·rw [show ((((((((decide (cols<2))||(decide ((80:Int)<cols)))||(decide (rows<1)))||(decide ((40:Int)<rows)))||(decide (c.row<0)))||(decide (rows≤c.row)))||(decide (c.col<0)))||(decide (cols≤c.col)))=false by simp only [Bool.or_eq_false_iff,decide_eq_false_iff_not];omega] at h
  refine ⟨hb.1,hb.2,fun hw=>?_⟩
  have h:((!c.wrap)||(decide (c.col=(IntKind.i64.wrap (cols - (1:Int))))))=true:=h
  rw [hw,C0a (by show (-9223372036854775808:Int)≤_;omega) (by show _≤(9223372036854775807:Int);omega)] at h
  exact of_decide_eq_true h
 ·rw [show ((((((((decide (cols<2))||(decide ((80:Int)<cols)))||(decide (rows<1)))||(decide ((40:Int)<rows)))||(decide (c.row<0)))||(decide (rows≤c.row)))||(decide (c.col<0)))||(decide (cols≤c.col)))=true by simp only [Bool.or_eq_true,decide_eq_true_eq];omega] at h
  cases h
theorem E0o {a b:Bool} (h:((!a)||(!b))=false):a=true∧b=true:=by simpa using h
def A1f:Nat→Int→Int→List Act
 | 0,_,_=>[]
 | fu+1,kind,n=>(bif (decide (n=0)) then ([]:List Act) else (B5 (A1f fu kind (n - 1)) fun (y1:List Act)=>(y1++([{Act.zero with kind:=kind}]:List Act))))
theorem B8p:∀ (fu:Nat) (k n:Int),0≤n→n.toNat<fu→A1f fu k n=List.replicate n.toNat {Act.zero with kind:=k}
 | fu+1,k,n,h0,h=>by
  rw [A1f]
  by_cases hn:n=0
  ·rw [decide_eq_true hn,hn];rfl
  ·rw [decide_eq_false hn]
   show A1f fu k (n - 1)++[{Act.zero with kind:=k}]=_
   rw [B8p fu k (n - 1) (by omega) (by omega)]
   obtain ⟨m,hm⟩:∃ m:Nat,n.toNat=m+1:=⟨n.toNat - 1,by omega⟩
   rw [hm,show (n - 1).toNat=m by omega,List.replicate_succ']
theorem C0q (fu:Nat) (k n:Int) (h0:0≤n) (h:n.toNat<fu):(A1f fu k n).length=n.toNat:=by
 rw [B8p fu k n h0 h,List.length_replicate]
theorem B6x:∀ (fu:Nat) (kind:Int) (n:Int) (hn:0≤n∧n≤50) (hmu:n.toNat<fu) (R:List Act) (hR:A1f fu kind n=R),Con Tryz.prog 108 [iv kind,iv n] [] [] ({r:VR // VOk 6 R.length r}) (fun x=>.slice (va x.1.q) R.length x.1.k) (fun x=>((vo A5 26 x.1 R)++([]))) (fun x=>[]):=by
 intro fu
 induction fu with
 | zero=>intros;omega
 | succ fu ih =>
  intro kind n hn hmu R hR
  refine zco Tryz.func108 [(0,iv kind),(1,iv n)] fun X hX hr hD=>?_
  replace hR:=(A1f.eq_2 ..).symm.trans hR
  refine sr 1 rfl (ip' 1 0 [] (ie (A7 (sr 2 rfl (ip' 2 0 [(6,bv (decide (n=0)))] (ie ?_))))))
  refine zjd rfl hR ?_ ?_<;>clear hR<;>intro hR h1 h1p
  ·refine sr 1 rfl (ip' 1 0 [(4,.slice none 0 0)] ?_)
   subst hR
   refine ie (B0 ?_)
   exact zer hr hD (O3 rfl (B8 rfl)) ⟨VR.nil,VOk.nil⟩ (mc [vo A5 26 VR.nil ([]:List Act)] [true] rfl (by first|rfl|(simp only [List.length_set]<;>rfl))) fn0
  refine A9 (nx (sr 9 rfl (ip' 2 7 [(7,iv kind),(8,iv n)] (ix rfl (M6 rfl rfl rfl rfl (by omega)) ?_))))
  have hQ:=C9 hR;clear hR;obtain ⟨y1,hy1,hR⟩:=hQ
  refine it rfl (C2 (L2:=[]) (ih kind (n - 1) (by omega) (by omega) y1 hy1) rfl rfl rfl rfl rfl fn0 (List.Perm.refl _) (fun ⟨r2,hk3⟩=>((vo A5 26 r2 y1)++([]))) (fun _=>by first|rfl|simp)) fun ⟨r2,hk3⟩=>?_
  have:=VOk.le hk3
  have:=VOk.cap hk3
  have:=C0q fu kind (n - 1) (by omega) (by omega);try rw [hy1] at this
  refine zrl 2 3 [] [(12,ag (A5 ({Act.zero with kind:=kind})))] (it rfl (B3 (c:=A5) (xs:=([{Act.zero with kind:=kind}]:List Act)) A0v rfl rfl rfl (by kernel_rfl)) fun b4=>?_)
  have:([{Act.zero with kind:=kind}]:List Act).length=1:=rfl
  refine it rfl (B2g (f:=A5) (r:=r2) (xs:=y1) (ys:=([{Act.zero with kind:=kind}]:List Act)) (pre:=[]) (post:=[]) C5n (fun _=>rfl) (fun _=>rfl) rfl rfl rfl rfl rfl rfl rfl rfl rfl (A1 0 rfl) hk3 (by first|omega|(simp<;>omega)) (by first|omega|(simp<;>omega))) fun ⟨r5,hr6⟩=>?_
  have:=VOk.le hr6
  have:=VOk.cap hr6
  refine ip' 1 0 [(4,.slice (va r5.q) ((y1++([{Act.zero with kind:=kind}]:List Act)).length) r5.k)] ?_
  subst hR
  refine ie (B0 ?_)
  exact zer hr hD (O3 rfl (B8 rfl)) ⟨r5,hr6⟩ (mc [vo A5 26 r5 (y1++([{Act.zero with kind:=kind}]:List Act))] [true] rfl (by first|rfl|(simp only [List.length_set]<;>rfl))) fn0
def A1s (from_:Int) (to_:Int):List (List Act) :=
 (bif (decide (from_=to_)) then ([([]:List Act)]:List (List Act)) else (bif (decide (to_<from_)) then ([([{Act.zero with kind:=20,n:=0,m:=(from_ - to_)}]:List Act)]:List (List Act)) else (bif (decide ((to_ - from_)≤4)) then (B5 (A1f ((to_ - from_).toNat+1) 5 (to_ - from_)) fun (y1:List Act)=>(([([{Act.zero with kind:=20,n:=1,m:=(to_ - from_)}]:List Act)]:List (List Act))++([y1]:List (List Act)))) else ([([{Act.zero with kind:=20,n:=1,m:=(to_ - from_)}]:List Act)]:List (List Act)))))
theorem C1u {c0:Pth} (hb:0≤c0.frm.row∧c0.frm.row≤40∧0≤c0.to_.row∧c0.to_.row≤40):A1s c0.frm.row c0.to_.row=F7 c0:=by
 unfold A1s F7 B5
 rcases Int.lt_trichotomy c0.frm.row c0.to_.row with h | h | h
 ·rw [decide_eq_false (show ¬ c0.frm.row=c0.to_.row by omega),decide_eq_false (show ¬ c0.to_.row<c0.frm.row by omega),decide_eq_false (show ¬ c0.to_.row - c0.frm.row=0 by omega),decide_eq_false (show ¬ c0.to_.row - c0.frm.row<0 by omega)]
  rw [A4f,B8p _ _ _ (by omega) (by omega)]
  cases decide (c0.to_.row - c0.frm.row≤4)<;>rfl
 ·rw [decide_eq_true h,decide_eq_true (show c0.to_.row - c0.frm.row=0 by omega)];rfl
 ·rw [decide_eq_false (show ¬ c0.frm.row=c0.to_.row by omega),decide_eq_true h,decide_eq_false (show ¬ c0.to_.row - c0.frm.row=0 by omega),decide_eq_true (show c0.to_.row - c0.frm.row<0 by omega),show -(c0.to_.row - c0.frm.row)=c0.frm.row - c0.to_.row by omega];rfl
theorem D0a {a b:Int} {r:List (List Act)} (hr:A1s a b=r) (hb:0≤a∧a≤40∧0≤b∧b≤40):(∀ e ∈ r,mwA e)∧r.length≤2:=by
 subst hr
 have h:=C1u (c0:=⟨⟨a,0,false⟩,⟨b,0⟩⟩) hb
 have h2:A1s a b=_:=h
 rw [h2];exact ⟨C4r _ hb,D1j _⟩
theorem C7v (from_:Int) (to_:Int) (hb:0≤from_∧from_≤40∧0≤to_∧to_≤40) (R:List (List Act)) (hR:A1s from_ to_=R):Con Tryz.prog 53 [iv from_,iv to_] [] [] ({t:VR×List Slc // VOk 1 R.length t.1∧B7 t.2 R}) (fun x=>.slice (va x.1.1.q) R.length x.1.1.k) (fun x=>((vo D0 27 x.1.1 x.1.2)++([]))) (fun x=>[F3 A5 x.1.2 R]):=by
 refine zco Tryz.func53 [(0,iv from_),(1,iv to_)] fun X hX hr hD=>?_
 replace hR:=(A1s.eq_1 ..).symm.trans hR
 refine sr 1 rfl (ip' 1 0 [] (ie (A7 (sr 3 rfl (ip' 3 0 [(8,bv (decide (from_=to_)))] (ie ?_))))))
 refine zjd rfl hR ?_ ?_<;>clear hR<;>intro hR h1 h1p
 ·refine sr 2 rfl ?_
  have hrows3:B7 ([⟨none,0,0⟩]:List Slc) ([([]:List Act)]:List (List Act)):=(B7.cons ⟨rfl,(by first|omega|(simp<;>omega)|(dsimp only;omega)|decide),(by first|omega|(simp<;>omega)|(dsimp only;omega)|decide)⟩ B7.none)
  refine C3 (q:=F3 A5 ([⟨none,0,0⟩]:List Slc) ([([]:List Act)]:List (List Act))) (N3 A4u H9) ?_
  refine it rfl (B3f (c:=D0) (xs:=([⟨none,0,0⟩]:List Slc)) A2d rfl rfl rfl (by kernel_rfl)) fun b2=>?_
  have:([⟨none,0,0⟩]:List Slc).length=1:=rfl
  refine ip' 1 0 [(4,.slice (va (⟨some b2,1,[]⟩:VR).q) (([([]:List Act)]:List (List Act)).length) ((⟨some b2,1,[]⟩:VR).k))] ?_
  subst hR
  refine ie (B0 ?_)
  exact zer hr hD (O3 rfl (B8 rfl)) ⟨((⟨some b2,1,[]⟩:VR),([⟨none,0,0⟩]:List Slc)),⟨(show VOk 1 1 _ from ⟨rfl,Nat.le_refl _,Nat.le_of_ble_eq_true rfl⟩),hrows3⟩⟩ (mc [vo D0 27 (⟨some b2,1,[]⟩:VR) ([⟨none,0,0⟩]:List Slc)] [true] rfl (by first|rfl|(simp only [List.length_set]<;>rfl))) (A0.con1 (A1 0 rfl) fn0)
 refine A9 (nx (A7 (sr 3 rfl (ip' 3 0 [(12,bv (decide (to_<from_)))] (ie ?_)))))
 refine zjd rfl hR ?_ ?_<;>clear hR<;>intro hR h4 h4p
 ·refine sr 7 rfl (ip' 2 5 [(13,iv from_),(14,iv to_)] (ix rfl (M6 rfl rfl rfl rfl (by omega)) (zrl 1 3 [] [(16,ag (A5 ({Act.zero with kind:=20,n:=0,m:=(from_ - to_)})))] (it rfl (B3 (c:=A5) (xs:=([{Act.zero with kind:=20,n:=0,m:=(from_ - to_)}]:List Act)) A0v rfl rfl rfl (by kernel_rfl)) fun b5=>?_))))
  have:([{Act.zero with kind:=20,n:=0,m:=(from_ - to_)}]:List Act).length=1:=rfl
  have hrows7:B7 ([⟨some ⟨b5,0,none⟩,1,1⟩]:List Slc) ([([{Act.zero with kind:=20,n:=0,m:=(from_ - to_)}]:List Act)]:List (List Act)):=(B7.cons ⟨rfl,(by first|omega|(simp<;>omega)|(dsimp only;omega)|decide),(by first|omega|(simp<;>omega)|(dsimp only;omega)|decide)⟩ B7.none)
  refine C3 (q:=F3 A5 ([⟨some ⟨b5,0,none⟩,1,1⟩]:List Slc) ([([{Act.zero with kind:=20,n:=0,m:=(from_ - to_)}]:List Act)]:List (List Act))) (N3 (A1 0 rfl) H9) ?_
  refine it rfl (B3f (c:=D0) (xs:=([⟨some ⟨b5,0,none⟩,1,1⟩]:List Slc)) A2d rfl rfl rfl (by kernel_rfl)) fun b6=>?_
  have:([⟨some ⟨b5,0,none⟩,1,1⟩]:List Slc).length=1:=rfl
  refine ip' 1 0 [(4,.slice (va (⟨some b6,1,[]⟩:VR).q) (([([{Act.zero with kind:=20,n:=0,m:=(from_ - to_)}]:List Act)]:List (List Act)).length) ((⟨some b6,1,[]⟩:VR).k))] ?_
  subst hR
  refine ie (B0 ?_)
  exact zer hr hD (O3 rfl (B8 rfl)) ⟨((⟨some b6,1,[]⟩:VR),([⟨some ⟨b5,0,none⟩,1,1⟩]:List Slc)),⟨(show VOk 1 1 _ from ⟨rfl,Nat.le_refl _,Nat.le_of_ble_eq_true rfl⟩),hrows7⟩⟩ (mc [vo D0 27 (⟨some b6,1,[]⟩:VR) ([⟨some ⟨b5,0,none⟩,1,1⟩]:List Slc)] [true] rfl (by first|rfl|(simp only [List.length_set]<;>rfl))) (A0.con1 (A1 0 rfl) fn0)
 refine A9 (nx (sr 7 rfl (ip' 2 5 [(19,iv to_),(20,iv from_)] (ix rfl (M6 rfl rfl rfl rfl (by omega)) (zrl 1 3 [] [(22,ag (A5 ({Act.zero with kind:=20,n:=1,m:=(to_ - from_)})))] (it rfl (B3 (c:=A5) (xs:=([{Act.zero with kind:=20,n:=1,m:=(to_ - from_)}]:List Act)) A0v rfl rfl rfl (by kernel_rfl)) fun b8=>?_))))))
 have:([{Act.zero with kind:=20,n:=1,m:=(to_ - from_)}]:List Act).length=1:=rfl
 have hrows10:B7 ([⟨some ⟨b8,0,none⟩,1,1⟩]:List Slc) ([([{Act.zero with kind:=20,n:=1,m:=(to_ - from_)}]:List Act)]:List (List Act)):=(B7.cons ⟨rfl,(by first|omega|(simp<;>omega)|(dsimp only;omega)|decide),(by first|omega|(simp<;>omega)|(dsimp only;omega)|decide)⟩ B7.none)
 refine C3 (q:=F3 A5 ([⟨some ⟨b8,0,none⟩,1,1⟩]:List Slc) ([([{Act.zero with kind:=20,n:=1,m:=(to_ - from_)}]:List Act)]:List (List Act))) (N3 (A1 0 rfl) H9) ?_
 refine it rfl (B3f (c:=D0) (xs:=([⟨some ⟨b8,0,none⟩,1,1⟩]:List Slc)) A2d rfl rfl rfl (by kernel_rfl)) fun b9=>?_
 have:([⟨some ⟨b8,0,none⟩,1,1⟩]:List Slc).length=1:=rfl
 refine ip' 1 0 [(5,.slice (va (⟨some b9,1,[]⟩:VR).q) (([([{Act.zero with kind:=20,n:=1,m:=(to_ - from_)}]:List Act)]:List (List Act)).length) ((⟨some b9,1,[]⟩:VR).k))] (ie (A7 (sr 4 rfl (ip' 2 2 [(25,iv to_),(26,iv from_)] (ix rfl (M6 rfl rfl rfl rfl (by omega)) (ip' 1 0 [(28,bv (decide ((to_ - from_)≤4)))] (ie ?_)))))))
 refine zjd rfl hR ?_ ?_<;>clear hR<;>intro hR h11 h11p
 ·refine A3 8 rfl (ip' 3 5 [(29,.slice (va (⟨some b9,1,[]⟩:VR).q) (([([{Act.zero with kind:=20,n:=1,m:=(to_ - from_)}]:List Act)]:List (List Act)).length) ((⟨some b9,1,[]⟩:VR).k)),(30,iv to_),(31,iv from_)] (ix rfl (M6 rfl rfl rfl rfl (by omega)) ?_))
  have hQ:=C9 hR;clear hR;obtain ⟨y1,hy1,hR⟩:=hQ
  refine it rfl (C2 (L2:=((vo D0 27 (⟨some b9,1,[]⟩:VR) ([⟨some ⟨b8,0,none⟩,1,1⟩]:List Slc))++([]))) (B6x ((to_ - from_).toNat+1) 5 (to_ - from_) (by omega) (Nat.lt_succ_self _) y1 hy1) rfl rfl rfl rfl rfl fn0 (List.Perm.refl _) (fun ⟨r12,hk13⟩=>((vo A5 26 r12 y1)++((vo D0 27 (⟨some b9,1,[]⟩:VR) ([⟨some ⟨b8,0,none⟩,1,1⟩]:List Slc))++([])))) (fun _=>by first|rfl|simp)) fun ⟨r12,hk13⟩=>?_
  have:=VOk.le hk13
  have:=VOk.cap hk13
  have:=C0q ((to_ - from_).toNat+1) 5 (to_ - from_) (by omega) (by omega);try rw [hy1] at this
  have:=VOk.cap hk13
  have:=VOk.le hk13
  refine A4o [] ((vo D0 27 (⟨some b9,1,[]⟩:VR) ([⟨some ⟨b8,0,none⟩,1,1⟩]:List Slc))++([])) (T:=26) (c:=A5) (r:=r12) (xs:=y1) hk13 (by first|rfl|simp only [List.flatten_cons,List.flatten_nil,List.cons_append,List.append_assoc,List.nil_append,List.append_nil]) ?_
  refine it rfl (B3 (c:=D0) (xs:=([⟨va r12.q,y1.length,r12.k⟩]:List Slc)) A2d rfl rfl rfl (by kernel_rfl)) fun b14=>?_
  have hrows15:B7 ([⟨va r12.q,y1.length,r12.k⟩]:List Slc) ([y1]:List (List Act)):=(B7.cons ⟨rfl,(by first|omega|(simp<;>omega)|(dsimp only;omega)|decide),(by first|omega|(simp<;>omega)|(dsimp only;omega)|decide)⟩ B7.none)
  refine C3 (q:=F3 A5 ([⟨va r12.q,y1.length,r12.k⟩]:List Slc) ([y1]:List (List Act))) (N3 (A1 1 rfl) H9) ?_
  have:([⟨va r12.q,y1.length,r12.k⟩]:List Slc).length=1:=rfl
  have hw18:B7 (([⟨some ⟨b8,0,none⟩,1,1⟩]:List Slc)++([⟨va r12.q,y1.length,r12.k⟩]:List Slc)) (([([{Act.zero with kind:=20,n:=1,m:=(to_ - from_)}]:List Act)]:List (List Act))++([y1]:List (List Act))):=B7.append hrows10 hrows15
  refine it rfl (J9 (r:=(⟨some b9,1,[]⟩:VR)) (rs:=([⟨some ⟨b8,0,none⟩,1,1⟩]:List Slc)) (xss:=([([{Act.zero with kind:=20,n:=1,m:=(to_ - from_)}]:List Act)]:List (List Act))) (pre:=[]) (post:=[]) A7c rfl rfl rfl rfl rfl rfl rfl rfl rfl (A1 1 rfl) (A1 3 rfl) (A1 0 rfl) hrows10 hrows15 (show VOk 1 1 _ from ⟨rfl,Nat.le_refl _,Nat.le_of_ble_eq_true rfl⟩) (by first|omega|(simp<;>omega)) (by first|omega|(simp<;>omega))) fun ⟨r16,hr17⟩=>?_
  have:=VOk.le hr17
  have:=VOk.cap hr17
  have:([([{Act.zero with kind:=20,n:=1,m:=(to_ - from_)}]:List Act)]:List (List Act)).length=1:=rfl
  have:([y1]:List (List Act)).length=1:=rfl
  have:(([([{Act.zero with kind:=20,n:=1,m:=(to_ - from_)}]:List Act)]:List (List Act))++([y1]:List (List Act))).length=([([{Act.zero with kind:=20,n:=1,m:=(to_ - from_)}]:List Act)]:List (List Act)).length+1:=List.length_append
  refine ip' 1 0 [(5,.slice (va r16.q) ((([([{Act.zero with kind:=20,n:=1,m:=(to_ - from_)}]:List Act)]:List (List Act))++([y1]:List (List Act))).length) r16.k)] (A6 (nx (sr 2 rfl (ip' 2 0 [(4,.slice (va r16.q) ((([([{Act.zero with kind:=20,n:=1,m:=(to_ - from_)}]:List Act)]:List (List Act))++([y1]:List (List Act))).length) r16.k)] ?_))))
  subst hR
  refine ie (B0 ?_)
  exact zer hr hD (O3 rfl (B8 rfl)) ⟨(r16,(([⟨some ⟨b8,0,none⟩,1,1⟩]:List Slc)++([⟨va r12.q,y1.length,r12.k⟩]:List Slc))),⟨hr17,hw18⟩⟩ (mc [vo D0 27 r16 (([⟨some ⟨b8,0,none⟩,1,1⟩]:List Slc)++([⟨va r12.q,y1.length,r12.k⟩]:List Slc))] [true] rfl (by first|rfl|(simp only [List.length_set]<;>rfl))) (A0.con1 (A1 0 rfl) fn0)
 refine A9 (nx (sr 2 rfl (ip' 2 0 [(4,.slice (va (⟨some b9,1,[]⟩:VR).q) (([([{Act.zero with kind:=20,n:=1,m:=(to_ - from_)}]:List Act)]:List (List Act)).length) ((⟨some b9,1,[]⟩:VR).k))] ?_)))
 subst hR
 refine ie (B0 ?_)
 exact zer hr hD (O3 rfl (B8 rfl)) ⟨((⟨some b9,1,[]⟩:VR),([⟨some ⟨b8,0,none⟩,1,1⟩]:List Slc)),⟨(show VOk 1 1 _ from ⟨rfl,Nat.le_refl _,Nat.le_of_ble_eq_true rfl⟩),hrows10⟩⟩ (mc [vo D0 27 (⟨some b9,1,[]⟩:VR) ([⟨some ⟨b8,0,none⟩,1,1⟩]:List Slc)] [true] rfl (by first|rfl|(simp only [List.length_set]<;>rfl))) (A0.con1 (A1 0 rfl) fn0)
def Y6 (to_:Int) (out2:List (List Act)):List (List Act) :=
 (bif (decide ((0:Int)<to_)) then (out2++([(([{Act.zero with kind:=6}]:List Act)++([{Act.zero with kind:=20,n:=2,m:=to_}]:List Act))]:List (List Act))) else (out2++([([{Act.zero with kind:=6}]:List Act)]:List (List Act))))
def A1a (from_:Int) (to_:Int) (out1:List (List Act)):List (List Act) :=
 (bif (decide (to_<from_)) then (bif (decide ((from_ - to_)≤4)) then (B5 (A1f ((from_ - to_).toNat+1) 3 (from_ - to_)) fun (y1:List Act)=>Y6 to_ ((out1++([([{Act.zero with kind:=20,n:=3,m:=(from_ - to_)}]:List Act)]:List (List Act)))++([y1]:List (List Act)))) else Y6 to_ (out1++([([{Act.zero with kind:=20,n:=3,m:=(from_ - to_)}]:List Act)]:List (List Act)))) else Y6 to_ out1)
def A1b (from_:Int) (to_:Int) (out:List (List Act)):List (List Act) :=
 (bif (decide (from_<to_)) then A1a from_ to_ ((out++([([{Act.zero with kind:=22,n:=(to_+1)}]:List Act)]:List (List Act)))++([([{Act.zero with kind:=20,n:=2,m:=(to_ - from_)}]:List Act)]:List (List Act))) else A1a from_ to_ (out++([([{Act.zero with kind:=22,n:=(to_+1)}]:List Act)]:List (List Act))))
def Z3 (from_:Int) (to_:Int):List (List Act) :=
 (bif (decide (from_=to_)) then A1b from_ to_ (([]:List (List Act))++([([]:List Act)]:List (List Act))) else A1b from_ to_ ([]:List (List Act)))
theorem C7i (p:Pth) (h:0≤p.to_.col) (out:List (List Act)):G7 p out=Y6 p.to_.col out:=by
 unfold G7 Y6 B5
 rw [A4f]
 by_cases h0:p.to_.col=0
 ·rw [decide_eq_true h0,decide_eq_false (show ¬ 0<p.to_.col by omega)];rfl
 ·rw [decide_eq_false h0,decide_eq_true (show 0<p.to_.col by omega)];rfl
theorem C7t (p:Pth) (h:0≤p.to_.col) (out:List (List Act)):G8 p out=A1a p.frm.col p.to_.col out:=by
 unfold G8 J2 A1a B5
 have e:-(p.to_.col - p.frm.col)=p.frm.col - p.to_.col:=by omega
 by_cases hl:p.to_.col<p.frm.col
 ·rw [decide_eq_true hl,decide_eq_true (show p.to_.col - p.frm.col<0 by omega),e,A4f,B8p _ _ _ (by omega) (by omega)]
  cases decide (p.frm.col - p.to_.col≤4)<;>exact C7i p h _
 ·rw [decide_eq_false hl,decide_eq_false (show ¬ p.to_.col - p.frm.col<0 by omega)]
  exact C7i p h _
theorem B6y {p:Pth} (h:0≤p.to_.col):Z3 p.frm.col p.to_.col=H5 p:=by
 have hj:∀ out,A1b p.frm.col p.to_.col out=J3 p out:=fun out=>by
  unfold A1b J3 B5
  by_cases hl:p.frm.col<p.to_.col
  ·rw [decide_eq_true hl,decide_eq_true (show 0<p.to_.col - p.frm.col by omega)];exact (C7t p h _).symm
  ·rw [decide_eq_false hl,decide_eq_false (show ¬ 0<p.to_.col - p.frm.col by omega)];exact (C7t p h _).symm
 unfold Z3 H5
 rw [hj,hj]
 by_cases hl:p.frm.col=p.to_.col
 ·rw [decide_eq_true hl,decide_eq_true (show p.to_.col - p.frm.col=0 by omega)]
 ·rw [decide_eq_false hl,decide_eq_false (show ¬ p.to_.col - p.frm.col=0 by omega)]
theorem C6f {a b:Int} {r:List (List Act)} (hr:Z3 a b=r) (hb:0≤a∧a≤80∧0≤b∧b≤80):(∀ e ∈ r,mwA e)∧r.length≤6:=by
 subst hr
 have h2:Z3 a b=_:=B6y (p:=⟨⟨0,a,false⟩,⟨0,b⟩⟩) hb.2.2.1
 rw [h2];exact C1b rfl hb
theorem C6c (from_:Int) (to_:Int) (hb:0≤from_∧from_≤80∧0≤to_∧to_≤80) (R:List (List Act)) (hR:Z3 from_ to_=R):Con Tryz.prog 54 [iv from_,iv to_] [] [] ({t:VR×List Slc // VOk 1 R.length t.1∧B7 t.2 R}) (fun x=>.slice (va x.1.1.q) R.length x.1.1.k) (fun x=>((vo D0 27 x.1.1 x.1.2)++([]))) (fun x=>[F3 A5 x.1.2 R]):=by
 refine zco Tryz.func54 [(0,iv from_),(1,iv to_)] fun X hX hr hD=>?_
 replace hR:=(Z3.eq_1 ..).symm.trans hR
 refine sr 1 rfl (ip' 1 0 [] (ie (sr 1 rfl (ip' 1 0 [(5,.slice none 0 0)] ?_))))
 refine ie (C8g (fun (out:List (List Act)) (outr:VR) (outrs:List Slc)=>(A1b from_ to_ out=R∧VOk 1 out.length outr∧B7 outrs out∧out.length≤1,[(0,iv from_),(1,iv to_),(5,.slice (va outr.q) out.length outr.k)],((vo D0 27 outr outrs)++([])),[F3 A5 outrs out])) ?_ ?_)
 ·refine sr 3 rfl (ip' 3 0 [(9,bv (decide (from_=to_)))] (ie ?_))
  refine zjd rfl hR ?_ ?_<;>clear hR<;>intro hR h1 h1p
  ·refine A3 4 rfl (ip' 1 3 [(10,.slice none 0 0)] (it rfl (B3 (c:=D0) (xs:=([⟨none,0,0⟩]:List Slc)) A2d rfl rfl rfl (by kernel_rfl)) fun b2=>?_))
   have hrows3:B7 ([⟨none,0,0⟩]:List Slc) ([([]:List Act)]:List (List Act)):=(B7.cons ⟨rfl,(by first|omega|(simp<;>omega)|(dsimp only;omega)|decide),(by first|omega|(simp<;>omega)|(dsimp only;omega)|decide)⟩ B7.none)
   refine C3 (q:=F3 A5 ([⟨none,0,0⟩]:List Slc) ([([]:List Act)]:List (List Act))) (N3 A4u H9) ?_
   have:([⟨none,0,0⟩]:List Slc).length=1:=rfl
   refine C3 (q:=F3 A5 [] ([]:List (List Act))) H9 ?_
   have hw6:B7 (([]:List Slc)++([⟨none,0,0⟩]:List Slc)) (([]:List (List Act))++([([]:List Act)]:List (List Act))):=B7.append B7.none hrows3
   refine it rfl (J9 (r:=VR.nil) (rs:=([]:List Slc)) (xss:=([]:List (List Act))) (pre:=[]) (post:=[]) A7c rfl rfl rfl rfl rfl rfl rfl rfl rfl (A1 2 rfl) (A1 0 rfl) (A1 1 rfl) B7.none hrows3 VOk.nil (by first|omega|(simp<;>omega)) (by first|omega|(simp<;>omega))) fun ⟨r4,hr5⟩=>?_
   have:=VOk.le hr5
   have:=VOk.cap hr5
   have:([]:List (List Act)).length=0:=rfl
   have:([([]:List Act)]:List (List Act)).length=1:=rfl
   have:(([]:List (List Act))++([([]:List Act)]:List (List Act))).length=([]:List (List Act)).length+1:=List.length_append
   refine ip' 1 0 [(5,.slice (va r4.q) ((([]:List (List Act))++([([]:List Act)]:List (List Act))).length) r4.k)] (A6 ?_)
   exact B3a (([]:List (List Act))++([([]:List Act)]:List (List Act))) r4 (([]:List Slc)++([⟨none,0,0⟩]:List Slc)) ⟨hR,hr5,hw6,(by first|omega|(simp<;>omega))⟩ (mc [vo D0 27 r4 (([]:List Slc)++([⟨none,0,0⟩]:List Slc))] [true] rfl (by first|rfl|(simp only [List.length_set]<;>rfl))) (A0.pick [0] rfl)
  refine A9 ?_
  exact B3a ([]:List (List Act)) VR.nil ([]:List Slc) ⟨hR,VOk.nil,B7.none,(by first|omega|(simp<;>omega))⟩ (mc [vo D0 27 VR.nil ([]:List Slc)] [true] rfl (by first|rfl|(simp only [List.length_set]<;>rfl))) (A0.con1 H9 fn0)
 intro out outr outrs
 rintro ⟨hR,hokoutr,hrowsoutrs,hj⟩
 replace hR:=(A1b.eq_1 ..).symm.trans hR
 refine sr 8 rfl (ip' 2 6 [(13,.slice (va outr.q) out.length outr.k),(14,iv to_)] (ix rfl (B6 rfl rfl rfl rfl (by omega)) (zrl 1 4 [] [(16,ag (A5 ({Act.zero with kind:=22,n:=(to_+1)})))] (it rfl (B3 (c:=A5) (xs:=([{Act.zero with kind:=22,n:=(to_+1)}]:List Act)) A0v rfl rfl rfl (by kernel_rfl)) fun b7=>?_))))
 have:([{Act.zero with kind:=22,n:=(to_+1)}]:List Act).length=1:=rfl
 refine it rfl (B3 (c:=D0) (xs:=([⟨some ⟨b7,0,none⟩,1,1⟩]:List Slc)) A2d rfl rfl rfl (by kernel_rfl)) fun b8=>?_
 have hrows9:B7 ([⟨some ⟨b7,0,none⟩,1,1⟩]:List Slc) ([([{Act.zero with kind:=22,n:=(to_+1)}]:List Act)]:List (List Act)):=(B7.cons ⟨rfl,(by first|omega|(simp<;>omega)|(dsimp only;omega)|decide),(by first|omega|(simp<;>omega)|(dsimp only;omega)|decide)⟩ B7.none)
 refine C3 (q:=F3 A5 ([⟨some ⟨b7,0,none⟩,1,1⟩]:List Slc) ([([{Act.zero with kind:=22,n:=(to_+1)}]:List Act)]:List (List Act))) (N3 (A1 1 rfl) H9) ?_
 have:([⟨some ⟨b7,0,none⟩,1,1⟩]:List Slc).length=1:=rfl
 have hw12:B7 (outrs++([⟨some ⟨b7,0,none⟩,1,1⟩]:List Slc)) (out++([([{Act.zero with kind:=22,n:=(to_+1)}]:List Act)]:List (List Act))):=B7.append hrowsoutrs hrows9
 refine it rfl (J9 (r:=outr) (rs:=outrs) (xss:=out) (pre:=[]) (post:=[]) A7c rfl rfl rfl rfl rfl rfl rfl rfl rfl (A1 1 rfl) (A1 3 rfl) (A1 0 rfl) hrowsoutrs hrows9 hokoutr (by first|omega|(simp<;>omega)) (by first|omega|(simp<;>omega))) fun ⟨r10,hr11⟩=>?_
 have:=VOk.le hr11
 have:=VOk.cap hr11
 have:([([{Act.zero with kind:=22,n:=(to_+1)}]:List Act)]:List (List Act)).length=1:=rfl
 have:(out++([([{Act.zero with kind:=22,n:=(to_+1)}]:List Act)]:List (List Act))).length=out.length+1:=List.length_append
 refine ip' 1 0 [(5,.slice (va r10.q) ((out++([([{Act.zero with kind:=22,n:=(to_+1)}]:List Act)]:List (List Act))).length) r10.k)] ?_
 refine ie (C8g (fun (out1:List (List Act)) (outr1:VR) (outrs1:List Slc)=>(A1a from_ to_ out1=R∧VOk 1 out1.length outr1∧B7 outrs1 out1∧out1.length≤3,[(0,iv from_),(1,iv to_),(5,.slice (va outr1.q) out1.length outr1.k)],((vo D0 27 outr1 outrs1)++([])),[F3 A5 (outrs++([⟨some ⟨b7,0,none⟩,1,1⟩]:List Slc)) (out++([([{Act.zero with kind:=22,n:=(to_+1)}]:List Act)]:List (List Act))),F3 A5 ([⟨some ⟨b7,0,none⟩,1,1⟩]:List Slc) ([([{Act.zero with kind:=22,n:=(to_+1)}]:List Act)]:List (List Act)),sl D0 (some ⟨b8,0,none⟩) ([⟨some ⟨b7,0,none⟩,1,1⟩]:List Slc),sl A5 (some ⟨b7,0,none⟩) ([{Act.zero with kind:=22,n:=(to_+1)}]:List Act),F3 A5 outrs out,F3 A5 outrs1 out1])) ?_ ?_)
 ·refine sr 3 rfl (ip' 3 0 [(22,bv (decide (from_<to_)))] (ie ?_))
  refine zjd rfl hR ?_ ?_<;>clear hR<;>intro hR h13 h13p
  ·refine A3 9 rfl (ip' 3 6 [(23,.slice (va r10.q) ((out++([([{Act.zero with kind:=22,n:=(to_+1)}]:List Act)]:List (List Act))).length) r10.k),(24,iv to_),(25,iv from_)] (ix rfl (M6 rfl rfl rfl rfl (by omega)) (zrl 1 4 [] [(27,ag (A5 ({Act.zero with kind:=20,n:=2,m:=(to_ - from_)})))] (it rfl (B3 (c:=A5) (xs:=([{Act.zero with kind:=20,n:=2,m:=(to_ - from_)}]:List Act)) A0v rfl rfl rfl (by kernel_rfl)) fun b14=>?_))))
   have:([{Act.zero with kind:=20,n:=2,m:=(to_ - from_)}]:List Act).length=1:=rfl
   refine it rfl (B3 (c:=D0) (xs:=([⟨some ⟨b14,0,none⟩,1,1⟩]:List Slc)) A2d rfl rfl rfl (by kernel_rfl)) fun b15=>?_
   have hrows16:B7 ([⟨some ⟨b14,0,none⟩,1,1⟩]:List Slc) ([([{Act.zero with kind:=20,n:=2,m:=(to_ - from_)}]:List Act)]:List (List Act)):=(B7.cons ⟨rfl,(by first|omega|(simp<;>omega)|(dsimp only;omega)|decide),(by first|omega|(simp<;>omega)|(dsimp only;omega)|decide)⟩ B7.none)
   refine C3 (q:=F3 A5 ([⟨some ⟨b14,0,none⟩,1,1⟩]:List Slc) ([([{Act.zero with kind:=20,n:=2,m:=(to_ - from_)}]:List Act)]:List (List Act))) (N3 (A1 1 rfl) H9) ?_
   have:([⟨some ⟨b14,0,none⟩,1,1⟩]:List Slc).length=1:=rfl
   have hw19:B7 ((outrs++([⟨some ⟨b7,0,none⟩,1,1⟩]:List Slc))++([⟨some ⟨b14,0,none⟩,1,1⟩]:List Slc)) ((out++([([{Act.zero with kind:=22,n:=(to_+1)}]:List Act)]:List (List Act)))++([([{Act.zero with kind:=20,n:=2,m:=(to_ - from_)}]:List Act)]:List (List Act))):=B7.append hw12 hrows16
   refine it rfl (J9 (r:=r10) (rs:=(outrs++([⟨some ⟨b7,0,none⟩,1,1⟩]:List Slc))) (xss:=(out++([([{Act.zero with kind:=22,n:=(to_+1)}]:List Act)]:List (List Act)))) (pre:=[]) (post:=[]) A7c rfl rfl rfl rfl rfl rfl rfl rfl rfl (A1 1 rfl) (A1 3 rfl) (A1 0 rfl) hw12 hrows16 hr11 (by first|omega|(simp<;>omega)) (by first|omega|(simp<;>omega))) fun ⟨r17,hr18⟩=>?_
   have:=VOk.le hr18
   have:=VOk.cap hr18
   have:([([{Act.zero with kind:=20,n:=2,m:=(to_ - from_)}]:List Act)]:List (List Act)).length=1:=rfl
   have:((out++([([{Act.zero with kind:=22,n:=(to_+1)}]:List Act)]:List (List Act)))++([([{Act.zero with kind:=20,n:=2,m:=(to_ - from_)}]:List Act)]:List (List Act))).length=(out++([([{Act.zero with kind:=22,n:=(to_+1)}]:List Act)]:List (List Act))).length+1:=List.length_append
   refine ip' 1 0 [(5,.slice (va r17.q) (((out++([([{Act.zero with kind:=22,n:=(to_+1)}]:List Act)]:List (List Act)))++([([{Act.zero with kind:=20,n:=2,m:=(to_ - from_)}]:List Act)]:List (List Act))).length) r17.k)] (A6 ?_)
   exact B3a ((out++([([{Act.zero with kind:=22,n:=(to_+1)}]:List Act)]:List (List Act)))++([([{Act.zero with kind:=20,n:=2,m:=(to_ - from_)}]:List Act)]:List (List Act))) r17 ((outrs++([⟨some ⟨b7,0,none⟩,1,1⟩]:List Slc))++([⟨some ⟨b14,0,none⟩,1,1⟩]:List Slc)) ⟨hR,hr18,hw19,(by first|omega|(simp<;>omega))⟩ (mc [vo D0 27 r17 ((outrs++([⟨some ⟨b7,0,none⟩,1,1⟩]:List Slc))++([⟨some ⟨b14,0,none⟩,1,1⟩]:List Slc))] [true] rfl (by first|rfl|(simp only [List.length_set]<;>rfl))) (A0.pick [4,5,6,7,8,0] rfl)
  refine A9 ?_
  exact B3a (out++([([{Act.zero with kind:=22,n:=(to_+1)}]:List Act)]:List (List Act))) r10 (outrs++([⟨some ⟨b7,0,none⟩,1,1⟩]:List Slc)) ⟨hR,hr11,hw12,(by first|omega|(simp<;>omega))⟩ (mc [vo D0 27 r10 (outrs++([⟨some ⟨b7,0,none⟩,1,1⟩]:List Slc))] [true] rfl (by first|rfl|(simp only [List.length_set]<;>rfl))) (A0.pick [0,1,2,3,4,0] rfl)
 intro out1 outr1 outrs1
 rintro ⟨hR,hokoutr1,hrowsoutrs1,hj⟩
 replace hR:=(A1a.eq_1 ..).symm.trans hR
 refine C8g (fun (out2:List (List Act)) (outr2:VR) (outrs2:List Slc)=>(Y6 to_ out2=R∧VOk 1 out2.length outr2∧B7 outrs2 out2∧out2.length≤5,[(1,iv to_),(5,.slice (va outr2.q) out2.length outr2.k)],((vo D0 27 outr2 outrs2)++([])),[F3 A5 (outrs++([⟨some ⟨b7,0,none⟩,1,1⟩]:List Slc)) (out++([([{Act.zero with kind:=22,n:=(to_+1)}]:List Act)]:List (List Act))),F3 A5 ([⟨some ⟨b7,0,none⟩,1,1⟩]:List Slc) ([([{Act.zero with kind:=22,n:=(to_+1)}]:List Act)]:List (List Act)),sl D0 (some ⟨b8,0,none⟩) ([⟨some ⟨b7,0,none⟩,1,1⟩]:List Slc),sl A5 (some ⟨b7,0,none⟩) ([{Act.zero with kind:=22,n:=(to_+1)}]:List Act),F3 A5 outrs out,F3 A5 outrs1 out1,F3 A5 outrs2 out2])) ?_ ?_
 ·refine sr 3 rfl (ip' 3 0 [(33,bv (decide (to_<from_)))] (ie ?_))
  refine zjd rfl hR ?_ ?_<;>clear hR<;>intro hR h20 h20p
  ·refine sr 9 rfl (ip' 3 6 [(34,.slice (va outr1.q) out1.length outr1.k),(35,iv from_),(36,iv to_)] (ix rfl (M6 rfl rfl rfl rfl (by omega)) (zrl 1 4 [] [(38,ag (A5 ({Act.zero with kind:=20,n:=3,m:=(from_ - to_)})))] (it rfl (B3 (c:=A5) (xs:=([{Act.zero with kind:=20,n:=3,m:=(from_ - to_)}]:List Act)) A0v rfl rfl rfl (by kernel_rfl)) fun b21=>?_))))
   have:([{Act.zero with kind:=20,n:=3,m:=(from_ - to_)}]:List Act).length=1:=rfl
   refine it rfl (B3 (c:=D0) (xs:=([⟨some ⟨b21,0,none⟩,1,1⟩]:List Slc)) A2d rfl rfl rfl (by kernel_rfl)) fun b22=>?_
   have hrows23:B7 ([⟨some ⟨b21,0,none⟩,1,1⟩]:List Slc) ([([{Act.zero with kind:=20,n:=3,m:=(from_ - to_)}]:List Act)]:List (List Act)):=(B7.cons ⟨rfl,(by first|omega|(simp<;>omega)|(dsimp only;omega)|decide),(by first|omega|(simp<;>omega)|(dsimp only;omega)|decide)⟩ B7.none)
   refine C3 (q:=F3 A5 ([⟨some ⟨b21,0,none⟩,1,1⟩]:List Slc) ([([{Act.zero with kind:=20,n:=3,m:=(from_ - to_)}]:List Act)]:List (List Act))) (N3 (A1 1 rfl) H9) ?_
   have:([⟨some ⟨b21,0,none⟩,1,1⟩]:List Slc).length=1:=rfl
   have hw26:B7 (outrs1++([⟨some ⟨b21,0,none⟩,1,1⟩]:List Slc)) (out1++([([{Act.zero with kind:=20,n:=3,m:=(from_ - to_)}]:List Act)]:List (List Act))):=B7.append hrowsoutrs1 hrows23
   refine it rfl (J9 (r:=outr1) (rs:=outrs1) (xss:=out1) (pre:=[]) (post:=[]) A7c rfl rfl rfl rfl rfl rfl rfl rfl rfl (A1 1 rfl) (A1 8 rfl) (A1 0 rfl) hrowsoutrs1 hrows23 hokoutr1 (by first|omega|(simp<;>omega)) (by first|omega|(simp<;>omega))) fun ⟨r24,hr25⟩=>?_
   have:=VOk.le hr25
   have:=VOk.cap hr25
   have:([([{Act.zero with kind:=20,n:=3,m:=(from_ - to_)}]:List Act)]:List (List Act)).length=1:=rfl
   have:(out1++([([{Act.zero with kind:=20,n:=3,m:=(from_ - to_)}]:List Act)]:List (List Act))).length=out1.length+1:=List.length_append
   refine ip' 1 0 [(5,.slice (va r24.q) ((out1++([([{Act.zero with kind:=20,n:=3,m:=(from_ - to_)}]:List Act)]:List (List Act))).length) r24.k)] (ie (sr 4 rfl (ip' 2 2 [(42,iv from_),(43,iv to_)] (ix rfl (M6 rfl rfl rfl rfl (by omega)) (ip' 1 0 [(45,bv (decide ((from_ - to_)≤4)))] (ie ?_))))))
   refine zjd rfl hR ?_ ?_<;>clear hR<;>intro hR h27 h27p
   ·refine A3 8 rfl (ip' 3 5 [(46,.slice (va r24.q) ((out1++([([{Act.zero with kind:=20,n:=3,m:=(from_ - to_)}]:List Act)]:List (List Act))).length) r24.k),(47,iv from_),(48,iv to_)] (ix rfl (M6 rfl rfl rfl rfl (by omega)) ?_))
    have hQ:=C9 hR;clear hR;obtain ⟨y1,hy1,hR⟩:=hQ
    refine it rfl (C2 (L2:=((vo D0 27 r24 (outrs1++([⟨some ⟨b21,0,none⟩,1,1⟩]:List Slc)))++([]))) (B6x ((from_ - to_).toNat+1) 3 (from_ - to_) (by omega) (Nat.lt_succ_self _) y1 hy1) rfl rfl rfl rfl rfl fn0 (List.Perm.refl _) (fun ⟨r28,hk29⟩=>((vo A5 26 r28 y1)++((vo D0 27 r24 (outrs1++([⟨some ⟨b21,0,none⟩,1,1⟩]:List Slc)))++([])))) (fun _=>by first|rfl|simp)) fun ⟨r28,hk29⟩=>?_
    have:=VOk.le hk29
    have:=VOk.cap hk29
    have:=C0q ((from_ - to_).toNat+1) 3 (from_ - to_) (by omega) (by omega);try rw [hy1] at this
    have:=VOk.cap hk29
    have:=VOk.le hk29
    refine A4o [] ((vo D0 27 r24 (outrs1++([⟨some ⟨b21,0,none⟩,1,1⟩]:List Slc)))++([])) (T:=26) (c:=A5) (r:=r28) (xs:=y1) hk29 (by first|rfl|simp only [List.flatten_cons,List.flatten_nil,List.cons_append,List.append_assoc,List.nil_append,List.append_nil]) ?_
    refine it rfl (B3 (c:=D0) (xs:=([⟨va r28.q,y1.length,r28.k⟩]:List Slc)) A2d rfl rfl rfl (by kernel_rfl)) fun b30=>?_
    have hrows31:B7 ([⟨va r28.q,y1.length,r28.k⟩]:List Slc) ([y1]:List (List Act)):=(B7.cons ⟨rfl,(by first|omega|(simp<;>omega)|(dsimp only;omega)|decide),(by first|omega|(simp<;>omega)|(dsimp only;omega)|decide)⟩ B7.none)
    refine C3 (q:=F3 A5 ([⟨va r28.q,y1.length,r28.k⟩]:List Slc) ([y1]:List (List Act))) (N3 (A1 1 rfl) H9) ?_
    have:([⟨va r28.q,y1.length,r28.k⟩]:List Slc).length=1:=rfl
    have hw34:B7 ((outrs1++([⟨some ⟨b21,0,none⟩,1,1⟩]:List Slc))++([⟨va r28.q,y1.length,r28.k⟩]:List Slc)) ((out1++([([{Act.zero with kind:=20,n:=3,m:=(from_ - to_)}]:List Act)]:List (List Act)))++([y1]:List (List Act))):=B7.append hw26 hrows31
    refine it rfl (J9 (r:=r24) (rs:=(outrs1++([⟨some ⟨b21,0,none⟩,1,1⟩]:List Slc))) (xss:=(out1++([([{Act.zero with kind:=20,n:=3,m:=(from_ - to_)}]:List Act)]:List (List Act)))) (pre:=[]) (post:=[]) A7c rfl rfl rfl rfl rfl rfl rfl rfl rfl (A1 1 rfl) (A1 3 rfl) (A1 0 rfl) hw26 hrows31 hr25 (by first|omega|(simp<;>omega)) (by first|omega|(simp<;>omega))) fun ⟨r32,hr33⟩=>?_
    have:=VOk.le hr33
    have:=VOk.cap hr33
    have:([y1]:List (List Act)).length=1:=rfl
    have:((out1++([([{Act.zero with kind:=20,n:=3,m:=(from_ - to_)}]:List Act)]:List (List Act)))++([y1]:List (List Act))).length=(out1++([([{Act.zero with kind:=20,n:=3,m:=(from_ - to_)}]:List Act)]:List (List Act))).length+1:=List.length_append
    refine ip' 1 0 [(5,.slice (va r32.q) (((out1++([([{Act.zero with kind:=20,n:=3,m:=(from_ - to_)}]:List Act)]:List (List Act)))++([y1]:List (List Act))).length) r32.k)] (A6 ?_)
    exact B3a ((out1++([([{Act.zero with kind:=20,n:=3,m:=(from_ - to_)}]:List Act)]:List (List Act)))++([y1]:List (List Act))) r32 ((outrs1++([⟨some ⟨b21,0,none⟩,1,1⟩]:List Slc))++([⟨va r28.q,y1.length,r28.k⟩]:List Slc)) ⟨hR,hr33,hw34,(by first|omega|(simp<;>omega))⟩ (mc [vo D0 27 r32 ((outrs1++([⟨some ⟨b21,0,none⟩,1,1⟩]:List Slc))++([⟨va r28.q,y1.length,r28.k⟩]:List Slc))] [true] rfl (by first|rfl|(simp only [List.length_set]<;>rfl))) (A0.pick [8,9,10,11,12,13,0] rfl)
   refine A9 ?_
   exact B3a (out1++([([{Act.zero with kind:=20,n:=3,m:=(from_ - to_)}]:List Act)]:List (List Act))) r24 (outrs1++([⟨some ⟨b21,0,none⟩,1,1⟩]:List Slc)) ⟨hR,hr25,hw26,(by first|omega|(simp<;>omega))⟩ (mc [vo D0 27 r24 (outrs1++([⟨some ⟨b21,0,none⟩,1,1⟩]:List Slc))] [true] rfl (by first|rfl|(simp only [List.length_set]<;>rfl))) (A0.pick [4,5,6,7,8,9,0] rfl)
  refine A9 ?_
  exact B3a out1 outr1 outrs1 ⟨hR,hokoutr1,hrowsoutrs1,(by first|omega|(simp<;>omega))⟩ (mc [vo D0 27 outr1 outrs1] [true] rfl (by first|rfl|(simp only [List.length_set]<;>rfl))) (A0.pick [0,1,2,3,4,5,5] rfl)
 intro out2 outr2 outrs2
 rintro ⟨hR,hokoutr2,hrowsoutrs2,hj⟩
 replace hR:=(Y6.eq_1 ..).symm.trans hR
 refine sr 3 rfl (zrl 1 2 [] [(53,ag (A5 ({Act.zero with kind:=6})))] (it rfl (B3 (c:=A5) (xs:=([{Act.zero with kind:=6}]:List Act)) A0v rfl rfl rfl (by kernel_rfl)) fun b35=>?_))
 have:([{Act.zero with kind:=6}]:List Act).length=1:=rfl
 refine ip' 1 0 [(6,.slice (some ⟨b35,0,none⟩) 1 1)] (ie (A7 (sr 2 rfl (ip' 2 0 [(56,bv (decide ((0:Int)<to_)))] (ie ?_)))))
 refine zjd rfl hR ?_ ?_<;>clear hR<;>intro hR h36 h36p
 ·refine A3 6 rfl (zrl 3 3 [] [(57,.slice (some ⟨b35,0,none⟩) 1 1),(59,ag (A5 ({Act.zero with kind:=20,n:=2,m:=to_})))] (it rfl (B3 (c:=A5) (xs:=([{Act.zero with kind:=20,n:=2,m:=to_}]:List Act)) A0v rfl rfl rfl (by kernel_rfl)) fun b37=>?_))
  have:([{Act.zero with kind:=20,n:=2,m:=to_}]:List Act).length=1:=rfl
  refine it rfl (D0y (f:=A5) (xs:=([{Act.zero with kind:=6}]:List Act)) (ys:=([{Act.zero with kind:=20,n:=2,m:=to_}]:List Act)) C5n (fun _=>rfl) (fun _=>rfl) rfl rfl rfl rfl rfl rfl (by omega) (by omega) (by rfl) (A1 1 rfl) (A1 0 rfl) (by simp) (by first|omega|(simp<;>omega)) (by first|omega|(simp<;>omega))) fun ⟨r38,hr39⟩=>?_
  have:=VOk.le hr39
  have:=VOk.cap hr39
  refine ip' 1 0 [(6,.slice (va r38.q) ((([{Act.zero with kind:=6}]:List Act)++([{Act.zero with kind:=20,n:=2,m:=to_}]:List Act)).length) r38.k)] (A6 (nx (sr 5 rfl (ip' 2 3 [(62,.slice (va outr2.q) out2.length outr2.k),(63,.slice (va r38.q) ((([{Act.zero with kind:=6}]:List Act)++([{Act.zero with kind:=20,n:=2,m:=to_}]:List Act)).length) r38.k)] ?_))))
  have:=VOk.cap hr39
  have:=VOk.le hr39
  refine A4o ((vo D0 27 outr2 outrs2)++([])) [] (T:=26) (c:=A5) (r:=r38) (xs:=(([{Act.zero with kind:=6}]:List Act)++([{Act.zero with kind:=20,n:=2,m:=to_}]:List Act))) hr39 (by first|rfl|simp only [List.flatten_cons,List.flatten_nil,List.cons_append,List.append_assoc,List.nil_append,List.append_nil]) ?_
  refine C8u (L':=((vo D0 27 outr2 outrs2)++([]))) (by first|rfl|simp) ?_
  refine it rfl (B3 (c:=D0) (xs:=([⟨va r38.q,(([{Act.zero with kind:=6}]:List Act)++([{Act.zero with kind:=20,n:=2,m:=to_}]:List Act)).length,r38.k⟩]:List Slc)) A2d rfl rfl rfl (by kernel_rfl)) fun b40=>?_
  have hrows41:B7 ([⟨va r38.q,(([{Act.zero with kind:=6}]:List Act)++([{Act.zero with kind:=20,n:=2,m:=to_}]:List Act)).length,r38.k⟩]:List Slc) ([(([{Act.zero with kind:=6}]:List Act)++([{Act.zero with kind:=20,n:=2,m:=to_}]:List Act))]:List (List Act)):=(B7.cons ⟨rfl,(by first|omega|(simp<;>omega)|(dsimp only;omega)|decide),(by first|omega|(simp<;>omega)|(dsimp only;omega)|decide)⟩ B7.none)
  refine C3 (q:=F3 A5 ([⟨va r38.q,(([{Act.zero with kind:=6}]:List Act)++([{Act.zero with kind:=20,n:=2,m:=to_}]:List Act)).length,r38.k⟩]:List Slc) ([(([{Act.zero with kind:=6}]:List Act)++([{Act.zero with kind:=20,n:=2,m:=to_}]:List Act))]:List (List Act))) (N3 (A1 1 rfl) H9) ?_
  have:([⟨va r38.q,(([{Act.zero with kind:=6}]:List Act)++([{Act.zero with kind:=20,n:=2,m:=to_}]:List Act)).length,r38.k⟩]:List Slc).length=1:=rfl
  have hw44:B7 (outrs2++([⟨va r38.q,(([{Act.zero with kind:=6}]:List Act)++([{Act.zero with kind:=20,n:=2,m:=to_}]:List Act)).length,r38.k⟩]:List Slc)) (out2++([(([{Act.zero with kind:=6}]:List Act)++([{Act.zero with kind:=20,n:=2,m:=to_}]:List Act))]:List (List Act))):=B7.append hrowsoutrs2 hrows41
  refine it rfl (J9 (r:=outr2) (rs:=outrs2) (xss:=out2) (pre:=[]) (post:=[]) A7c rfl rfl rfl rfl rfl rfl rfl rfl rfl (A1 1 rfl) (A1 11 rfl) (A1 0 rfl) hrowsoutrs2 hrows41 hokoutr2 (by first|omega|(simp<;>omega)) (by first|omega|(simp<;>omega))) fun ⟨r42,hr43⟩=>?_
  have:=VOk.le hr43
  have:=VOk.cap hr43
  have:([(([{Act.zero with kind:=6}]:List Act)++([{Act.zero with kind:=20,n:=2,m:=to_}]:List Act))]:List (List Act)).length=1:=rfl
  have:(out2++([(([{Act.zero with kind:=6}]:List Act)++([{Act.zero with kind:=20,n:=2,m:=to_}]:List Act))]:List (List Act))).length=out2.length+1:=List.length_append
  refine ip' 1 0 [(4,.slice (va r42.q) ((out2++([(([{Act.zero with kind:=6}]:List Act)++([{Act.zero with kind:=20,n:=2,m:=to_}]:List Act))]:List (List Act))).length) r42.k)] ?_
  subst hR
  refine ie (B0 ?_)
  exact zer hr hD (O3 rfl (B8 rfl)) ⟨(r42,(outrs2++([⟨va r38.q,(([{Act.zero with kind:=6}]:List Act)++([{Act.zero with kind:=20,n:=2,m:=to_}]:List Act)).length,r38.k⟩]:List Slc))),⟨hr43,hw44⟩⟩ (mc [vo D0 27 r42 (outrs2++([⟨va r38.q,(([{Act.zero with kind:=6}]:List Act)++([{Act.zero with kind:=20,n:=2,m:=to_}]:List Act)).length,r38.k⟩]:List Slc))] [true] rfl (by first|rfl|(simp only [List.length_set]<;>rfl))) (A0.con1 (A1 0 rfl) fn0)
 refine A9 (nx (sr 5 rfl (ip' 2 3 [(62,.slice (va outr2.q) out2.length outr2.k),(63,.slice (some ⟨b35,0,none⟩) 1 1)] (it rfl (B3 (c:=D0) (xs:=([⟨some ⟨b35,0,none⟩,1,1⟩]:List Slc)) A2d rfl rfl rfl (by kernel_rfl)) fun b45=>?_))))
 have hrows46:B7 ([⟨some ⟨b35,0,none⟩,1,1⟩]:List Slc) ([([{Act.zero with kind:=6}]:List Act)]:List (List Act)):=(B7.cons ⟨rfl,(by first|omega|(simp<;>omega)|(dsimp only;omega)|decide),(by first|omega|(simp<;>omega)|(dsimp only;omega)|decide)⟩ B7.none)
 refine C3 (q:=F3 A5 ([⟨some ⟨b35,0,none⟩,1,1⟩]:List Slc) ([([{Act.zero with kind:=6}]:List Act)]:List (List Act))) (N3 (A1 1 rfl) H9) ?_
 have:([⟨some ⟨b35,0,none⟩,1,1⟩]:List Slc).length=1:=rfl
 have hw49:B7 (outrs2++([⟨some ⟨b35,0,none⟩,1,1⟩]:List Slc)) (out2++([([{Act.zero with kind:=6}]:List Act)]:List (List Act))):=B7.append hrowsoutrs2 hrows46
 refine it rfl (J9 (r:=outr2) (rs:=outrs2) (xss:=out2) (pre:=[]) (post:=[]) A7c rfl rfl rfl rfl rfl rfl rfl rfl rfl (A1 1 rfl) (A1 9 rfl) (A1 0 rfl) hrowsoutrs2 hrows46 hokoutr2 (by first|omega|(simp<;>omega)) (by first|omega|(simp<;>omega))) fun ⟨r47,hr48⟩=>?_
 have:=VOk.le hr48
 have:=VOk.cap hr48
 have:([([{Act.zero with kind:=6}]:List Act)]:List (List Act)).length=1:=rfl
 have:(out2++([([{Act.zero with kind:=6}]:List Act)]:List (List Act))).length=out2.length+1:=List.length_append
 refine ip' 1 0 [(4,.slice (va r47.q) ((out2++([([{Act.zero with kind:=6}]:List Act)]:List (List Act))).length) r47.k)] ?_
 subst hR
 refine ie (B0 ?_)
 exact zer hr hD (O3 rfl (B8 rfl)) ⟨(r47,(outrs2++([⟨some ⟨b35,0,none⟩,1,1⟩]:List Slc))),⟨hr48,hw49⟩⟩ (mc [vo D0 27 r47 (outrs2++([⟨some ⟨b35,0,none⟩,1,1⟩]:List Slc))] [true] rfl (by first|rfl|(simp only [List.length_set]<;>rfl))) (A0.con1 (A1 0 rfl) fn0)
def S0 (from_:Cur) (y0:List (List Act)) (i:Nat) (ag_ref25_Ways_l3:List (List Act)→Nat→List (List Act)):List (List Act)→List (List Act)→Nat→List (List Act)
 | [],out1,k=>ag_ref25_Ways_l3 out1 (i+1)
 | hd_l4::tl_l4,out1,k=>(bif ((decide ((0:Int)<(((y0.getD i [])++hd_l4).length:Int)))||(!from_.wrap)) then S0 from_ y0 i ag_ref25_Ways_l3 tl_l4 (out1++([((y0.getD i [])++hd_l4)]:List (List Act))) (k+1) else S0 from_ y0 i ag_ref25_Ways_l3 tl_l4 out1 (k+1))
def Z9 (from_:Cur) (to_:Plc) (y0:List (List Act)) (y2:List (List Act)):List (List Act)→List (List Act)→Nat→List (List Act)
 | [],out,i=>(out++([([{Act.zero with kind:=19,n:=(to_.row+1),m:=(to_.col+1)}]:List Act)]:List (List Act)))
 | hd_l3::tl_l3,out,i=>S0 from_ y0 i (Z9 from_ to_ y0 y2 tl_l3) y2 out 0
def A5v (from_:Cur) (to_:Plc):List (List Act) :=
 (B5 (A1s from_.row to_.row) fun (y0:List (List Act))=>(B5 (Z3 from_.col to_.col) fun (y2:List (List Act))=>Z9 from_ to_ y0 y2 y0 ([]:List (List Act)) 0))
def C1v (wrap:Bool) (w:List Act):Bool:=(decide ((0:Int)<(w.length:Int)))||(!wrap)
def B9q (wrap:Bool) (A:List (List Act)) (d:List Act):List (List Act):=(A.map (d++·)).filter (C1v wrap)
theorem D9z (wrap:Bool) (w:List Act):((decide ((w.length:Int)=0))&&wrap)=!C1v wrap w:=by
 unfold C1v
 rcases Nat.eq_zero_or_pos w.length with h | h
 ·rw [decide_eq_true (show (w.length:Int)=0 by omega),decide_eq_false (show ¬ (0:Int)<(w.length:Int) by omega)];cases wrap<;>rfl
 ·rw [decide_eq_false (show ¬ (w.length:Int)=0 by omega),decide_eq_true (show (0:Int)<(w.length:Int) by omega)];cases wrap<;>rfl
theorem D8u (c0:Pth) (el:List Act) (ag:List (List Act)):∀ (A:List (List Act)) (t:Nat),F5 c0 el ag A t=B9q c0.frm.wrap A el++ag
 | [],_=>rfl
 | a::A,t=>by
  rw [F5,D8u c0 el ag A,D9z]
  unfold B9q
  rw [List.map_cons,List.filter_cons]
  cases C1v c0.frm.wrap (el++a)<;>rfl
def E7s (t:Plc):List Act:=[{Act.zero with kind:=19,n:=t.row+1,m:=t.col+1}]
theorem D3n (c0:Pth):∀ (l:List (List Act)),C8 c0 l=l.flatMap (B9q c0.frm.wrap (H5 c0))++[E7s c0.to_]
 | []=>rfl
 | el::l=>by
  rw [C8];simp only [B5]
  rw [D8u,D3n c0 l,List.flatMap_cons,List.append_assoc]
theorem D3g (f:Cur) (D:List (List Act)) (i:Nat) (ag:List (List Act)→Nat→List (List Act)):∀ (A out:List (List Act)) (k:Nat),S0 f D i ag A out k=ag (out++B9q f.wrap A (D.getD i [])) (i+1)
 | [],out,_=>by rw [S0];unfold B9q;rw [List.map_nil,List.filter_nil,List.append_nil]
 | a::A,out,k=>by
  rw [S0]
  have e:B9q f.wrap (a::A) (D.getD i [])=(bif C1v f.wrap (D.getD i []++a) then [D.getD i []++a] else [])++B9q f.wrap A (D.getD i []):=by
   unfold B9q;rw [List.map_cons,List.filter_cons];cases C1v f.wrap (D.getD i []++a)<;>rfl
  rw [e,show ((decide ((0:Int)<(((D.getD i [])++a).length:Int)))||(!f.wrap))=C1v f.wrap (D.getD i []++a) from rfl]
  cases C1v f.wrap (D.getD i []++a) with
  | true=>show S0 f D i ag A _ _=_;rw [D3g f D i ag A,List.append_assoc];rfl
  | false=>show S0 f D i ag A _ _=_;rw [D3g f D i ag A];rfl
theorem D6k {α:Type} {D l:List α} {d:α} {i:Nat} (h:d::l=D.drop i) (z:α):D.getD i z=d∧l=D.drop (i+1):=by
 have hk:i<D.length:=by
  rcases Nat.lt_or_ge i D.length with h' | h'
  ·exact h'
  ·rw [List.drop_of_length_le h'] at h;cases h
 rw [List.drop_eq_getElem_cons hk] at h
 exact ⟨by rw [List.getD_eq_getElem?_getD,List.getElem?_eq_getElem hk];exact (List.cons.inj h).1.symm,(List.cons.inj h).2⟩
theorem E0k (f:Cur) (t:Plc) (D A:List (List Act)):∀ (l out:List (List Act)) (i:Nat),l=D.drop i→Z9 f t D A l out i=out++(l.flatMap (B9q f.wrap A)++[E7s t])
 | [],out,_,_=>rfl
 | d::l,out,i,h=>by
  obtain ⟨h1,h2⟩:=D6k h []
  rw [Z9,D3g,E0k f t D A l _ _ h2,h1,List.flatMap_cons,List.append_assoc,List.append_assoc]
theorem B3e {f:Cur} {t:Plc} (hb:(0≤f.row∧f.row≤40∧0≤t.row∧t.row≤40)∧(0≤f.col∧f.col≤80∧0≤t.col∧t.col≤80)):A5v f t=F0 ⟨f,t⟩:=by
 unfold A5v;simp only [B5]
 rw [E0k f t (A1s f.row t.row) (Z3 f.col t.col) (A1s f.row t.row) [] 0 rfl]
 have e1:A1s f.row t.row=F7 ⟨f,t⟩:=C1u (c0:=⟨f,t⟩) hb.1
 have e2:Z3 f.col t.col=H5 ⟨f,t⟩:=B6y (p:=⟨f,t⟩) hb.2.2.2.1
 rw [e1,e2,List.nil_append]
 exact (D3n ⟨f,t⟩ _).symm
theorem D2y {f:Cur} {t:Plc} {r:List (List Act)} (hr:A5v f t=r) (hb:(0≤f.row∧f.row≤40∧0≤t.row∧t.row≤40)∧(0≤f.col∧f.col≤80∧0≤t.col∧t.col≤80)):(∀ e ∈ r,B2l e)∧0<r.length∧r.length≤20:=by
 subst hr;rw [B3e hb]
 have h:=A9i (c0:=⟨f,t⟩) hb
 refine ⟨h.1,?_,Nat.le_trans h.2 (by omega)⟩
 show 0<(C8 ⟨f,t⟩ _).length
 rw [D3n,List.length_append];exact Nat.succ_pos _
theorem C9u (from_:Cur) (to_:Plc) (hb:(0≤from_.row∧from_.row≤40∧0≤to_.row∧to_.row≤40)∧(0≤from_.col∧from_.col≤80∧0≤to_.col∧to_.col≤80)) (R:List (List Act)) (hR:A5v from_ to_=R):Con Tryz.prog 28 [ag (H2 from_),ag (I0 to_)] [] [] ({t:VR×List Slc // VOk 1 R.length t.1∧B7 t.2 R}) (fun x=>.slice (va x.1.1.q) R.length x.1.1.k) (fun x=>((vo D0 27 x.1.1 x.1.2)++([]))) (fun x=>[F3 A5 x.1.2 R]):=by
 refine zco Tryz.func28 [(0,ag (H2 from_)),(1,ag (I0 to_))] fun X hX hr hD=>?_
 replace hR:=(A5v.eq_1 ..).symm.trans hR
 refine sr 3 rfl (B9z 3 0 [] (fun b1 b2=>[(2,pt b1 0),(3,pt b2 0)]) (fun b1 b2=>[bx b2 (I0 to_) 54,bx b1 (H2 from_) 52]) (fun b1 b2=>(ie (sr 1 rfl (ip' 1 0 [(5,.slice none 0 0)] (ie (sh 12 [(12,[bx b2 (I0 to_) 54]),(12,[bx b1 (H2 from_) 52])] [] [bx b2 (I0 to_) 54,bx b1 (H2 from_) 52] (zml 12 0) (by kernel_rfl) rfl (by kernel_rfl) (by kernel_rfl) (by kernel_rfl) (mk [true,true] rfl) A0.refl ?_)))))))
 refine zhp [0,2,5,7] 8 (zml 12 165) [(11,pt b1 0),(13,pt b2 0),(16,pt b1 1),(18,pt b2 1)] ?_
 refine zhl 1 [bx b2 (I0 to_) 54,bx b1 (H2 from_) 52] (zml 12 167) rfl (B4 (v:=iv from_.row) ty3 rfl rfl 1 rfl rfl) ?_
 refine zhl 3 [bx b2 (I0 to_) 54,bx b1 (H2 from_) 52] (zml 12 175) rfl (B4 (v:=iv to_.row) ty3 rfl rfl 0 rfl rfl) ?_
 refine zhl 6 [bx b2 (I0 to_) 54,bx b1 (H2 from_) 52] (zml 12 239) rfl (B4 (v:=iv from_.col) ty3 rfl rfl 1 rfl rfl) ?_
 refine zhl 8 [bx b2 (I0 to_) 54,bx b1 (H2 from_) 52] (zml 12 495) rfl (B4 (v:=iv to_.col) ty3 rfl rfl 0 rfl rfl) ?_
 have hQ:=C9 hR;clear hR;obtain ⟨y0,hy0,hR⟩:=hQ
 refine zho 4 [bx b2 (I0 to_) 54,bx b1 (H2 from_) 52] (zml 12 511) rfl (Q6 (L2:=[bx b2 (I0 to_) 54,bx b1 (H2 from_) 52]) (C7v from_.row to_.row (by omega) y0 hy0) rfl rfl rfl rfl rfl fn0 (List.Perm.refl _) (fun ⟨⟨r3,rs4⟩,hp7⟩=>(bx b2 (I0 to_) 54::bx b1 (H2 from_) 52::(vo D0 27 r3 rs4)++([]))) (fun ⟨⟨r3,rs4⟩,hp7⟩=>L9 [vo D0 27 r3 rs4,[bx b2 (I0 to_) 54],[bx b1 (H2 from_) 52]] [1,2,0] 3 rfl (by decide) (by first|rfl|simp) [[bx b2 (I0 to_) 54],[bx b1 (H2 from_) 52],vo D0 27 r3 rs4] rfl (by first|rfl|simp))) (fun ⟨⟨r3,rs4⟩,hp7⟩=>(mc [[bx b2 (I0 to_) 54],[bx b1 (H2 from_) 52],vo D0 27 r3 rs4] [true,true,false] (by first|rfl|simp) (by first|rfl|(simp only [List.length_set]<;>rfl)))) (fun ⟨⟨r3,rs4⟩,hp7⟩=>fn0) fun ⟨⟨r3,rs4⟩,hp7⟩=>?_
 try dsimp only at hp7
 obtain ⟨hk5,hw6⟩:=hp7
 have:=VOk.le hk5
 have:=VOk.cap hk5
 have:=hw6.1
 have hdn:=D0a hy0 (by omega)
 have:=hdn.2;try rw [hy0] at this
 have hQ:=C9 hR;clear hR;obtain ⟨y2,hy2,hR⟩:=hQ
 refine zho 9 [bx b2 (I0 to_) 54,bx b1 (H2 from_) 52] (zml 12 1023) rfl (Q6 (L2:=(bx b2 (I0 to_) 54::bx b1 (H2 from_) 52::(vo D0 27 r3 rs4)++([]))) (C6c from_.col to_.col (by omega) y2 hy2) rfl rfl rfl rfl rfl fn0 (List.Perm.refl _) (fun ⟨⟨r8,rs9⟩,hp12⟩=>(bx b2 (I0 to_) 54::bx b1 (H2 from_) 52::(vo D0 27 r8 rs9)++((vo D0 27 r3 rs4)++([])))) (fun ⟨⟨r8,rs9⟩,hp12⟩=>L9 [vo D0 27 r8 rs9,[bx b2 (I0 to_) 54],[bx b1 (H2 from_) 52],vo D0 27 r3 rs4] [1,2,0,3] 4 rfl (by decide) (by first|rfl|simp) [[bx b2 (I0 to_) 54],[bx b1 (H2 from_) 52],vo D0 27 r8 rs9,vo D0 27 r3 rs4] rfl (by first|rfl|simp))) (fun ⟨⟨r8,rs9⟩,hp12⟩=>(mc [[bx b2 (I0 to_) 54],[bx b1 (H2 from_) 52],vo D0 27 r8 rs9,vo D0 27 r3 rs4] [true,true,false,false] (by first|rfl|simp) (by first|rfl|(simp only [List.length_set]<;>rfl)))) (fun ⟨⟨r8,rs9⟩,hp12⟩=>fn0) fun ⟨⟨r8,rs9⟩,hp12⟩=>?_
 try dsimp only at hp12
 obtain ⟨hk10,hw11⟩:=hp12
 have:=VOk.le hk10
 have:=VOk.cap hk10
 have:=hw11.1
 have hac:=C6f hy2 (by omega)
 have:=hac.2;try rw [hy2] at this
 refine zhp [10,11] 0 (zml 12 4095) [(6,.slice (va r3.q) y0.length r3.k),(7,.slice (va r8.q) y2.length r8.k)] ?_
 refine A8j (by kernel_rfl) ?_
 refine A7 (sr 1 rfl (ip' 1 0 [(8,iv 0)] ?_))
 refine ie (B2 ?_)
 have:=VOk.cap hk10
 have:=VOk.le hk10
 refine D3d [bx b2 (I0 to_) 54,bx b1 (H2 from_) 52] ((vo D0 27 r3 rs4)++([])) (T:=27) (c:=D0) (r:=r8) (xs:=rs9) (VOk.cast hk10 (by rw [hw11.1])) (by first|rfl|simp only [List.flatten_cons,List.flatten_nil,List.cons_append,List.append_assoc,List.nil_append,List.append_nil]) ?_
 have:=VOk.cap hk5
 have:=VOk.le hk5
 refine D3d [bx b2 (I0 to_) 54,bx b1 (H2 from_) 52] [] (T:=27) (c:=D0) (r:=r3) (xs:=rs4) (VOk.cast hk5 (by rw [hw6.1])) (by first|rfl|simp only [List.flatten_cons,List.flatten_nil,List.cons_append,List.append_assoc,List.nil_append,List.append_nil]) ?_
 refine A2r (L9 [vo D0 27 VR.nil ([]:List Slc),[bx b2 (I0 to_) 54],[bx b1 (H2 from_) 52]] [1,2,0] 3 rfl (by decide) rfl [[bx b2 (I0 to_) 54],[bx b1 (H2 from_) 52],vo D0 27 VR.nil ([]:List Slc)] rfl (by first|rfl|simp)) ?_
 refine B7z (fun (out:List (List Act)) (outr:VR) (outrs:List Slc) (i:Nat)=>(i≤y0.length∧Z9 from_ to_ y0 y2 (y0.drop i) out i=R∧VOk 1 out.length outr∧B7 outrs out∧(out.length≤20 * i∧i≤y0.length),[(2,pt b1 0),(3,pt b2 0),(5,.slice (va outr.q) out.length outr.k),(6,.slice (va r3.q) y0.length r3.k),(7,.slice (va r8.q) y2.length r8.k),(8,iv (i:Int))],(bx b2 (I0 to_) 54::bx b1 (H2 from_) 52::(vo D0 27 outr outrs)++([])),[sl D0 (va r3.q) rs4,sl D0 (va r8.q) rs9,F3 A5 rs9 y2,F3 A5 rs4 y0,F3 A5 outrs out],y0.length - i)) ([]:List (List Act)) VR.nil ([]:List Slc) 0 ⟨(by omega),hR,VOk.nil,B7.none,(by (exact ⟨Nat.zero_le _,Nat.zero_le _⟩))⟩ (mc [[bx b2 (I0 to_) 54],[bx b1 (H2 from_) 52],vo D0 27 VR.nil ([]:List Slc)] [true,true,true] (by first|rfl|simp) (by first|rfl|(simp only [List.length_set]<;>rfl))) (A0.con1 (A1 0 rfl) (A0.con1 (A1 1 rfl) (A0.con1 (A1 2 rfl) (A0.con1 (A1 3 rfl) (A0.con1 H9 fn0))))) ?_
 rintro out outr outrs i ⟨hm13,hR,hokoutr,hrowsoutrs,ho⟩
 have:=VOk.le hokoutr
 have:=hrowsoutrs.1
 have hrow1:=C4o hdn.1 i
 refine A7 (sr 4 rfl (ip' 4 0 [(24,bv (decide ((i:Int)<(y0.length:Int))))] ?_))
 refine ie (I9 rfl (fun h14=>?_) (fun h14=>?_))
 ·have h14p:(i:Int)<(y0.length:Int):=by simpa using h14
  rw [A4r [] (show i<y0.length by omega)] at hR;replace hR:=(Z9.eq_2 ..).symm.trans hR
  refine A9 (nx (A7 (B2 (sr 1 rfl (ip' 1 0 [(9,iv 0)] (ie (B2 ?_)))))))
  refine B7z (fun (out1:List (List Act)) (outr1:VR) (outrs1:List Slc) (k:Nat)=>(k≤y2.length∧S0 from_ y0 i (Z9 from_ to_ y0 y2 (y0.drop (i+1))) (y2.drop k) out1 k=R∧VOk 1 out1.length outr1∧B7 outrs1 out1∧(out1.length≤20 * i+k∧k≤y2.length),[(2,pt b1 0),(3,pt b2 0),(5,.slice (va outr1.q) out1.length outr1.k),(6,.slice (va r3.q) y0.length r3.k),(7,.slice (va r8.q) y2.length r8.k),(8,iv (i:Int)),(9,iv (k:Int))],(bx b2 (I0 to_) 54::bx b1 (H2 from_) 52::(vo D0 27 outr1 outrs1)++([])),[sl D0 (va r3.q) rs4,sl D0 (va r8.q) rs9,F3 A5 rs9 y2,F3 A5 rs4 y0,F3 A5 outrs out,F3 A5 outrs1 out1],y2.length - k)) out outr outrs 0 ⟨(by omega),hR,hokoutr,hrowsoutrs,(by omega)⟩ (mc [[bx b2 (I0 to_) 54],[bx b1 (H2 from_) 52],vo D0 27 outr outrs] [true,true,true] (by first|rfl|simp) (by first|rfl|(simp only [List.length_set]<;>rfl))) (A0.pick [0,1,2,3,4,4] rfl) ?_
  rintro out1 outr1 outrs1 k ⟨hm15,hR,hokoutr1,hrowsoutrs1,ho1⟩
  have:=VOk.le hokoutr1
  have:=hrowsoutrs1.1
  have hrow2:=C4o hac.1 k
  refine A7 (sr 4 rfl (ip' 4 0 [(30,bv (decide ((k:Int)<(y2.length:Int))))] ?_))
  refine ie (I9 rfl (fun h16=>?_) (fun h16=>?_))
  ·have h16p:(k:Int)<(y2.length:Int):=by simpa using h16
   rw [A4r [] (show k<y2.length by omega)] at hR;replace hR:=(S0.eq_2 ..).symm.trans hR
   refine A9 (nx (A7 (B2 (sr 1 rfl (ip' 1 0 [(10,.slice none 0 0)] (ie (sr 7 rfl (ip' 3 4 [(33,.slice none 0 0),(34,.slice (va r3.q) y0.length r3.k),(35,iv (i:Int))] (P3 0 rfl (by omega) fun a17 hq18=>(C3 (A5c (k:=i) (d:=(⟨none,0,0⟩:Slc)) hw6 3 rfl (by have:=hw6.1;omega)) ?_))))))))))
   have:=A5e hw6 (k:=i) (d:=(⟨none,0,0⟩:Slc)) (by have:=hw6.1;omega)
   refine ix rfl (N0 A2d rfl rfl hq18 rfl i rfl (by omega)) (ix rfl (I5 (C4 (v:=.slice ((rs4.getD i (⟨none,0,0⟩:Slc)).q) ((rs4.getD i (⟨none,0,0⟩:Slc)).n) ((rs4.getD i (⟨none,0,0⟩:Slc)).k)) (us:=[.slice ((rs4.getD i (⟨none,0,0⟩:Slc)).q) ((rs4.getD i (⟨none,0,0⟩:Slc)).n) ((rs4.getD i (⟨none,0,0⟩:Slc)).k)]) D7r rfl rfl (O4 (c:=D0) (sz:=1) hq18 (fun _=>rfl) 1 rfl (gd (⟨none,0,0⟩:Slc) (by have:=hw6.1;omega))) rfl) (A5f hw6 (by have:=hw6.1;omega))) (it rfl (Tri.own (B4r (f:=A5) (r:=VR.nil) (xs:=([]:List Act)) (ys:=(y0.getD i [])) (pre:=(bx b2 (I0 to_) 54::bx b1 (H2 from_) 52::(vo D0 27 outr1 outrs1)++([]))) (post:=[]) C5n (fun _=>rfl) (fun _=>rfl) rfl rfl rfl rfl rfl rfl rfl (by first|rfl|(try dsimp only;simp only [C7z,List.append_nil,List.cons_append,List.nil_append,List.append_assoc])) (A1 0 rfl) VOk.nil (by first|omega|(rw [List.length_nil];omega)|(simp<;>omega)) (by first|omega|(rw [List.length_nil];omega)|(simp<;>omega))) (fun ⟨r19,hr20⟩=>(bx b2 (I0 to_) 54::bx b1 (H2 from_) 52::(vo D0 27 outr1 outrs1)++((vo A5 26 r19 (y0.getD i []))++([])))) (fun ⟨r19,hr20⟩=>by first|rfl|(try dsimp only;simp only [C7z,List.append_nil,List.cons_append,List.nil_append,List.append_assoc]))) fun ⟨r19,hr20⟩=>?_))
   have:=VOk.le hr20
   have:=VOk.cap hr20
   refine ip' 1 0 [(10,.slice (va r19.q) ((y0.getD i []).length) r19.k)] (ie (sr 7 rfl (ip' 3 4 [(39,.slice (va r19.q) ((y0.getD i []).length) r19.k),(40,.slice (va r8.q) y2.length r8.k),(41,iv (k:Int))] (P3 2 rfl (by omega) fun a21 hq22=>(C3 (A5c (k:=k) (d:=(⟨none,0,0⟩:Slc)) hw11 3 rfl (by have:=hw11.1;omega)) ?_)))))
   have:=A5e hw11 (k:=k) (d:=(⟨none,0,0⟩:Slc)) (by have:=hw11.1;omega)
   refine ix rfl (N0 A2d rfl rfl hq22 rfl k rfl (by omega)) (ix rfl (I5 (C4 (v:=.slice ((rs9.getD k (⟨none,0,0⟩:Slc)).q) ((rs9.getD k (⟨none,0,0⟩:Slc)).n) ((rs9.getD k (⟨none,0,0⟩:Slc)).k)) (us:=[.slice ((rs9.getD k (⟨none,0,0⟩:Slc)).q) ((rs9.getD k (⟨none,0,0⟩:Slc)).n) ((rs9.getD k (⟨none,0,0⟩:Slc)).k)]) D7r rfl rfl (O4 (c:=D0) (sz:=1) hq22 (fun _=>rfl) 3 rfl (gd (⟨none,0,0⟩:Slc) (by have:=hw11.1;omega))) rfl) (A5f hw11 (by have:=hw11.1;omega))) ?_)
   refine D4y (L9 [[bx b2 (I0 to_) 54],[bx b1 (H2 from_) 52],vo D0 27 outr1 outrs1,vo A5 26 r19 (y0.getD i [])] [0,1,3,2] 4 rfl (by decide) rfl [[bx b2 (I0 to_) 54],[bx b1 (H2 from_) 52],vo A5 26 r19 (y0.getD i []),vo D0 27 outr1 outrs1] rfl (by first|rfl|simp)) ?_
   refine it rfl (Tri.own (B4r (f:=A5) (r:=r19) (xs:=(y0.getD i [])) (ys:=(y2.getD k [])) (pre:=[bx b2 (I0 to_) 54,bx b1 (H2 from_) 52]) (post:=((vo D0 27 outr1 outrs1)++([]))) C5n (fun _=>rfl) (fun _=>rfl) rfl rfl rfl rfl rfl rfl rfl (by first|rfl|(try dsimp only;simp only [C7z,List.append_nil,List.cons_append,List.nil_append,List.append_assoc])) (A1 0 rfl) hr20 (by first|omega|(rw [List.length_nil];omega)|(simp<;>omega)) (by first|omega|(rw [List.length_nil];omega)|(simp<;>omega))) (fun ⟨r23,hr24⟩=>(bx b2 (I0 to_) 54::bx b1 (H2 from_) 52::(vo A5 26 r23 ((y0.getD i [])++(y2.getD k [])))++((vo D0 27 outr1 outrs1)++([])))) (fun ⟨r23,hr24⟩=>by first|rfl|(try dsimp only;simp only [C7z,List.append_nil,List.cons_append,List.nil_append,List.append_assoc]))) fun ⟨r23,hr24⟩=>?_
   have:=@List.length_append _ (y0.getD i []) (y2.getD k [])
   have:=VOk.le hr24
   have:=VOk.cap hr24
   refine D4y (L9 [[bx b2 (I0 to_) 54],[bx b1 (H2 from_) 52],vo A5 26 r23 ((y0.getD i [])++(y2.getD k [])),vo D0 27 outr1 outrs1] [0,1,3,2] 4 rfl (by decide) rfl [[bx b2 (I0 to_) 54],[bx b1 (H2 from_) 52],vo D0 27 outr1 outrs1,vo A5 26 r23 ((y0.getD i [])++(y2.getD k []))] rfl (by first|rfl|simp)) ?_
   refine ip' 1 0 [(10,.slice (va r23.q) (((y0.getD i [])++(y2.getD k [])).length) r23.k)] (ie (sr 8 rfl (ip' 4 4 [(48,bv (decide ((0:Int)<(((y0.getD i [])++(y2.getD k [])).length:Int))))] ?_)))
   refine zir 4 0 48 52 (!from_.wrap) (fun g25 g25p=>?_) ?_
   ·refine zrl 4 0 [1] [(52,bv (!from_.wrap))] ?_
    exact A6 (Q2 2 48 52 g25 A0.refl (mc [[bx b2 (I0 to_) 54],[bx b1 (H2 from_) 52],vo D0 27 outr1 outrs1,vo A5 26 r23 ((y0.getD i [])++(y2.getD k []))] [true,true,true,true] (by first|rfl|simp) (by first|rfl|(simp only [List.length_set]<;>rfl))) rfl rfl rfl rfl rfl)
   refine ie ?_
   refine zjb rfl hR ?_ ?_<;>clear hR<;>intro hR h26
   ·have h26p:=h26;try simp at h26p
    refine A3 5 rfl (ip' 2 3 [(53,.slice (va outr1.q) out1.length outr1.k),(54,.slice (va r23.q) (((y0.getD i [])++(y2.getD k [])).length) r23.k)] ?_)
    have:=VOk.cap hr24
    have:=VOk.le hr24
    refine A4o (bx b2 (I0 to_) 54::bx b1 (H2 from_) 52::(vo D0 27 outr1 outrs1)++([])) [] (T:=26) (c:=A5) (r:=r23) (xs:=((y0.getD i [])++(y2.getD k []))) hr24 (by first|rfl|simp only [List.flatten_cons,List.flatten_nil,List.cons_append,List.append_assoc,List.nil_append,List.append_nil]) ?_
    refine C8u (L':=(bx b2 (I0 to_) 54::bx b1 (H2 from_) 52::(vo D0 27 outr1 outrs1)++([]))) (by first|rfl|simp) ?_
    refine it rfl (B3 (c:=D0) (xs:=([⟨va r23.q,((y0.getD i [])++(y2.getD k [])).length,r23.k⟩]:List Slc)) A2d rfl rfl rfl (by kernel_rfl)) fun b27=>?_
    have hrows28:B7 ([⟨va r23.q,((y0.getD i [])++(y2.getD k [])).length,r23.k⟩]:List Slc) ([((y0.getD i [])++(y2.getD k []))]:List (List Act)):=(B7.cons ⟨rfl,(by first|omega|(simp<;>omega)|(dsimp only;omega)|decide),(by first|omega|(simp<;>omega)|(dsimp only;omega)|decide)⟩ B7.none)
    refine C3 (q:=F3 A5 ([⟨va r23.q,((y0.getD i [])++(y2.getD k [])).length,r23.k⟩]:List Slc) ([((y0.getD i [])++(y2.getD k []))]:List (List Act))) (N3 (A1 1 rfl) H9) ?_
    have:([⟨va r23.q,((y0.getD i [])++(y2.getD k [])).length,r23.k⟩]:List Slc).length=1:=rfl
    have hw31:B7 (outrs1++([⟨va r23.q,((y0.getD i [])++(y2.getD k [])).length,r23.k⟩]:List Slc)) (out1++([((y0.getD i [])++(y2.getD k []))]:List (List Act))):=B7.append hrowsoutrs1 hrows28
    refine it rfl (J9 (r:=outr1) (rs:=outrs1) (xss:=out1) (pre:=[bx b2 (I0 to_) 54,bx b1 (H2 from_) 52]) (post:=[]) A7c rfl rfl rfl rfl rfl rfl rfl rfl rfl (A1 1 rfl) (A1 10 rfl) (A1 0 rfl) hrowsoutrs1 hrows28 hokoutr1 (by first|omega|(rw [List.length_nil];omega)|(simp<;>omega)) (by first|omega|(rw [List.length_nil];omega)|(simp<;>omega))) fun ⟨r29,hr30⟩=>?_
    have:=VOk.le hr30
    have:=VOk.cap hr30
    have:([((y0.getD i [])++(y2.getD k []))]:List (List Act)).length=1:=rfl
    have:(out1++([((y0.getD i [])++(y2.getD k []))]:List (List Act))).length=out1.length+1:=List.length_append
    refine ip' 1 0 [(5,.slice (va r29.q) ((out1++([((y0.getD i [])++(y2.getD k []))]:List (List Act))).length) r29.k)] (A6 (nx (A3 3 rfl (ip' 1 2 [(31,iv (k:Int))] (ix rfl (B6 rfl rfl rfl rfl (by omega)) (ip' 1 0 [(9,iv ((k:Int)+1))] (A6 ?_)))))))
    exact B3p (z1:=out1) (z2:=outr1) (z3:=outrs1) (z4:=k) (out1++([((y0.getD i [])++(y2.getD k []))]:List (List Act))) r29 (outrs1++([⟨va r23.q,((y0.getD i [])++(y2.getD k [])).length,r23.k⟩]:List Slc)) (k+1) ⟨(by omega),hR,hr30,hw31,(by (first|omega|(simp<;>omega)))⟩ (by (try dsimp only);omega) (mc [[bx b2 (I0 to_) 54],[bx b1 (H2 from_) 52],vo D0 27 r29 (outrs1++([⟨va r23.q,((y0.getD i [])++(y2.getD k [])).length,r23.k⟩]:List Slc))] [true,true,true] (by first|rfl|simp) (by first|rfl|(simp only [List.length_set]<;>rfl))) (A0.pick [6,7,8,9,10,0] rfl)
   have h26p:=h26;try simp at h26p
   refine A9 (nx (A3 3 rfl (ip' 1 2 [(31,iv (k:Int))] (ix rfl (B6 rfl rfl rfl rfl (by omega)) (ip' 1 0 [(9,iv ((k:Int)+1))] (A6 ?_))))))
   exact B3p (z1:=out1) (z2:=outr1) (z3:=outrs1) (z4:=k) out1 outr1 outrs1 (k+1) ⟨(by omega),hR,hokoutr1,hrowsoutrs1,(by (first|omega|(simp<;>omega)))⟩ (by (try dsimp only);omega) (mc [[bx b2 (I0 to_) 54],[bx b1 (H2 from_) 52],vo D0 27 outr1 outrs1,vo A5 26 r23 ((y0.getD i [])++(y2.getD k []))] [true,true,true,false] (by first|rfl|simp) (by first|rfl|(simp only [List.length_set]<;>rfl))) (A0.pick [2,3,4,5,6,7] rfl)
  have h16p:¬ ((k:Int)<(y2.length:Int)):=by simpa using h16
  rw [A4s h16p] at hR;replace hR:=(S0.eq_1 ..).symm.trans hR
  refine J1 (nx (A3 3 rfl (ip' 1 2 [(25,iv (i:Int))] ?_)))
  refine ix rfl (B6 rfl rfl rfl rfl (by omega)) (ip' 1 0 [(8,iv ((i:Int)+1))] (A6 ?_))
  exact B3p (z1:=out) (z2:=outr) (z3:=outrs) (z4:=i) out1 outr1 outrs1 (i+1) ⟨(by omega),hR,hokoutr1,hrowsoutrs1,(by (first|omega|(simp<;>omega)))⟩ (by (try dsimp only);omega) (mc [[bx b2 (I0 to_) 54],[bx b1 (H2 from_) 52],vo D0 27 outr1 outrs1] [true,true,true] (by first|rfl|simp) (by first|rfl|(simp only [List.length_set]<;>rfl))) (A0.pick [0,1,2,3,5] rfl)
 have h14p:¬ ((i:Int)<(y0.length:Int)):=by simpa using h14
 rw [A4s h14p] at hR;replace hR:=(Z9.eq_1 ..).symm.trans hR
 refine J1 (nx (sr 12 rfl (zrl 3 9 [0] [(57,.slice (va outr.q) out.length outr.k),(59,iv to_.row)] ?_)))
 refine ix rfl (B6 rfl rfl rfl rfl (by omega)) (zrl 2 6 [0] [(62,iv to_.col)] (ix rfl (B6 rfl rfl rfl rfl (by omega)) (zrl 1 4 [] [(64,ag (A5 ({Act.zero with kind:=19,n:=(to_.row+1),m:=(to_.col+1)})))] (it rfl (B3 (c:=A5) (xs:=([{Act.zero with kind:=19,n:=(to_.row+1),m:=(to_.col+1)}]:List Act)) A0v rfl rfl rfl (by kernel_rfl)) fun b32=>?_))))
 have:([{Act.zero with kind:=19,n:=(to_.row+1),m:=(to_.col+1)}]:List Act).length=1:=rfl
 refine it rfl (B3 (c:=D0) (xs:=([⟨some ⟨b32,0,none⟩,1,1⟩]:List Slc)) A2d rfl rfl rfl (by kernel_rfl)) fun b33=>?_
 have hrows34:B7 ([⟨some ⟨b32,0,none⟩,1,1⟩]:List Slc) ([([{Act.zero with kind:=19,n:=(to_.row+1),m:=(to_.col+1)}]:List Act)]:List (List Act)):=(B7.cons ⟨rfl,(by first|omega|(simp<;>omega)|(dsimp only;omega)|decide),(by first|omega|(simp<;>omega)|(dsimp only;omega)|decide)⟩ B7.none)
 refine C3 (q:=F3 A5 ([⟨some ⟨b32,0,none⟩,1,1⟩]:List Slc) ([([{Act.zero with kind:=19,n:=(to_.row+1),m:=(to_.col+1)}]:List Act)]:List (List Act))) (N3 (A1 1 rfl) H9) ?_
 have:([⟨some ⟨b32,0,none⟩,1,1⟩]:List Slc).length=1:=rfl
 have hw37:B7 (outrs++([⟨some ⟨b32,0,none⟩,1,1⟩]:List Slc)) (out++([([{Act.zero with kind:=19,n:=(to_.row+1),m:=(to_.col+1)}]:List Act)]:List (List Act))):=B7.append hrowsoutrs hrows34
 refine it rfl (J9 (r:=outr) (rs:=outrs) (xss:=out) (pre:=[bx b2 (I0 to_) 54,bx b1 (H2 from_) 52]) (post:=[]) A7c rfl rfl rfl rfl rfl rfl rfl rfl rfl (A1 1 rfl) (A1 7 rfl) (A1 0 rfl) hrowsoutrs hrows34 hokoutr (by first|omega|(rw [List.length_nil];omega)|(simp<;>omega)) (by first|omega|(rw [List.length_nil];omega)|(simp<;>omega))) fun ⟨r35,hr36⟩=>?_
 have:=VOk.le hr36
 have:=VOk.cap hr36
 have:([([{Act.zero with kind:=19,n:=(to_.row+1),m:=(to_.col+1)}]:List Act)]:List (List Act)).length=1:=rfl
 have:(out++([([{Act.zero with kind:=19,n:=(to_.row+1),m:=(to_.col+1)}]:List Act)]:List (List Act))).length=out.length+1:=List.length_append
 refine ip' 1 0 [(4,.slice (va r35.q) ((out++([([{Act.zero with kind:=19,n:=(to_.row+1),m:=(to_.col+1)}]:List Act)]:List (List Act))).length) r35.k)] ?_
 subst hR
 refine ie (B0 ?_)
 exact zer hr hD (O3 rfl (B8 rfl)) ⟨(r35,(outrs++([⟨some ⟨b32,0,none⟩,1,1⟩]:List Slc))),⟨hr36,hw37⟩⟩ (mc [[bx b2 (I0 to_) 54],[bx b1 (H2 from_) 52],vo D0 27 r35 (outrs++([⟨some ⟨b32,0,none⟩,1,1⟩]:List Slc))] [false,false,true] (by first|rfl|simp) (by first|rfl|(simp only [List.length_set]<;>rfl))) (A0.con1 (A1 0 rfl) fn0)
end Go.Proofs.YtanighkpfmgnbaaGreatDoor
set_option linter.unusedVariables false
set_option linter.unusedSimpArgs false
set_option linter.unnecessarySimpa false
set_option maxRecDepth 100000
namespace Go.Proofs.YtanighkpfmgnbaaGreatDoor
open Go Go.Fen
def A1p (b:List Act):List Act→Nat→Bool
 | [],i=>true
 | hd_l0::tl_l0,i=>(bif (!(decide (hd_l0=(b.getD i Act.zero)))) then false else A1p b tl_l0 (i+1))
def K2 (a:List Act) (b:List Act):Bool :=
 (bif (!decide ((a.length:Int)=(b.length:Int))) then false else A1p b a 0)
theorem B3l (a:List Act) (b:List Act) (aq:Option Addr) (ak:Nat) (bq:Option Addr) (bk:Nat) (hla:a.length≤9223372036854775807) (hca:a.length≤ak) (hlb:b.length≤9223372036854775807) (hcb:b.length≤bk) (R:Bool) (hR:K2 a b=R):K5 Tryz.prog 29 [.slice aq a.length ak,.slice bq b.length bk] [sl A5 aq a,sl A5 bq b] (bv R):=by
 refine zco Tryz.func29 [(0,.slice aq a.length ak),(1,.slice bq b.length bk)] fun X hX hr hD=>?_
 replace hR:=(K2.eq_1 ..).symm.trans hR
 refine sr 1 rfl (ip' 1 0 [] (ie (A7 (sr 5 rfl (ip' 5 0 [(10,bv (!decide ((a.length:Int)=(b.length:Int))))] (ie ?_))))))
 refine zjn rfl hR ?_ ?_<;>clear hR<;>intro hR h1 h1p
 ·refine sr 1 rfl (ip' 1 0 [(4,bv false)] ?_)
  subst hR
  refine ie (B0 ?_)
  exact F8 hr hD
 refine A9 (nx (A7 (sr 1 rfl (ip' 1 0 [(5,iv 0)] (ie (B2 (D1m (fun (i:Nat)=>(i≤a.length∧A1p b (a.drop i) i=R,[(0,.slice aq a.length ak),(1,.slice bq b.length bk),(5,iv (i:Int))],[],[sl A5 aq a,sl A5 bq b],a.length - i)) 0 ⟨(by omega),hR⟩ (mk [] rfl) A0.refl ?_)))))))
 rintro i ⟨hm2,hR⟩
 refine A7 (sr 4 rfl (ip' 4 0 [(14,bv (decide ((i:Int)<(a.length:Int))))] ?_))
 refine ie (I9 rfl (fun h3=>?_) (fun h3=>?_))
 ·have h3p:(i:Int)<(a.length:Int):=by simpa using h3
  rw [A4r Act.zero (show i<a.length by omega)] at hR;replace hR:=(A1p.eq_2 ..).symm.trans hR
  refine A9 (nx (A7 (B2 (sd 9 rfl (by kernel_rfl) rfl (dp' 2 7 [(17,.slice aq a.length ak),(18,iv (i:Int))] ?_)))))
  refine D5e 0 rfl (by omega) fun a4 hq5=>?_
  refine dd rfl (N0 A0v rfl rfl hq5 rfl i rfl (by omega)) (dd rfl (P5 (us:=A5 (a.getD i Act.zero)) B4z rfl rfl (O4 (c:=A5) (sz:=6) hq5 (fun _=>rfl) 0 rfl (gd Act.zero (by omega))) rfl) (dp' 2 3 [(21,.slice bq b.length bk),(22,iv (i:Int))] ?_))
  refine D5e 1 rfl (by omega) fun a6 hq7=>?_
  refine dd rfl (N0 A0v rfl rfl hq7 rfl i rfl (by omega)) (dd rfl (P5 (us:=A5 (b.getD i Act.zero)) B4z rfl rfl (O4 (c:=A5) (sz:=6) hq7 (fun _=>rfl) 1 rfl (gd Act.zero (by omega))) rfl) (dd rfl (A3h (a:=(a.getD i Act.zero)) (b:=(b.getD i Act.zero)) D9a rfl rfl rfl) (de ?_)))
  refine zjn rfl hR ?_ ?_<;>clear hR<;>intro hR h8 h8p
  ·refine sr 1 rfl (ip' 1 0 [(4,bv false)] ?_)
   subst hR
   refine ie (B0 ?_)
   exact F8 hr hD
  refine A9 (nx (A3 3 rfl (ip' 1 2 [(15,iv (i:Int))] (ix rfl (B6 rfl rfl rfl rfl (by omega)) (ip' 1 0 [(5,iv ((i:Int)+1))] (A6 ?_))))))
  exact D0x (z1:=i) (i+1) ⟨(by omega),hR⟩ (by (try dsimp only);omega) (mk [] rfl) A0.refl
 have h3p:¬ ((i:Int)<(a.length:Int)):=by simpa using h3
 rw [A4s h3p] at hR;replace hR:=(A1p.eq_1 ..).symm.trans hR
 refine J1 (nx (sr 1 rfl (ip' 1 0 [(4,bv true)] ?_)))
 subst hR
 refine ie (B0 ?_)
 exact F8 hr hD
def A8l:Bool :=
 (B5 (A2h 20 9 ({Cur.zero with row:=3,col:=4}) ({Plc.zero with row:=3})) fun (y0:List Act×Int)=>(B5 (A2h 20 9 ({Cur.zero with row:=8,col:=19}) Plc.zero) fun (y1:List Act×Int)=>(B5 (A2h 20 9 ({Cur.zero with row:=9}) Plc.zero) fun (y3:List Act×Int)=>(B5 (A5y 20 9 Cur.zero Plc.zero) fun (y2:List (List Act)×Int)=>(((((((decide (y0.2=0))&&(K2 y0.1 ([{Act.zero with kind:=6}]:List Act)))&&(decide (y1.2=0)))&&(K2 y1.1 ([{Act.zero with kind:=19,n:=1,m:=1}]:List Act)))&&(decide (y3.2=2)))&&(decide (y2.2=0)))&&(decide ((y2.1.length:Int)=4)))))))
theorem C6q (R:Bool) (hR:A8l=R):K5 Tryz.prog 25 [] [B6s,B6r,Q3,P0,M3,S7] (bv R):=by
 refine zco Tryz.func25 [] fun X hX hr hD=>?_
 replace hR:=(A8l.eq_1 ..).symm.trans hR
 refine sr 1 rfl (ip' 1 0 [] (ie (sr 8 rfl (zrl 2 6 [] [(10,ag (H2 ({Cur.zero with row:=3,col:=4}))),(11,ag (I0 ({Plc.zero with row:=3})))] ?_))))
 have hQ:=C9 hR;clear hR;obtain ⟨y0,hy0,hR⟩:=hQ
 refine zcm (A7s 20 9 ({Cur.zero with row:=3,col:=4}) ({Plc.zero with row:=3}) y0 hy0) A0.refl fun ⟨⟨q1,k2⟩,hp3⟩=>?_
 obtain ⟨hc4,hl5⟩:=hp3
 have hbm:=C2u hy0
 have:=hbm.1;try rw [hy0] at this
 refine ip' 5 0 [(1,.slice q1 y0.1.length k2),(2,iv y0.2)] (ie (sr 8 rfl (zrl 2 6 [] [(16,ag (H2 ({Cur.zero with row:=8,col:=19}))),(17,ag (I0 Plc.zero))] ?_)))
 have hQ:=C9 hR;clear hR;obtain ⟨y1,hy1,hR⟩:=hQ
 refine zcm (A7s 20 9 ({Cur.zero with row:=8,col:=19}) Plc.zero y1 hy1) (A0.pick [1,2,3,4,5,6] rfl) fun ⟨⟨q6,k7⟩,hp8⟩=>?_
 obtain ⟨hc9,hl10⟩:=hp8
 have hbm:=C2u hy1
 have:=hbm.1;try rw [hy1] at this
 refine ip' 5 0 [(3,.slice q6 y1.1.length k7),(4,iv y1.2)] (ie (sr 8 rfl (zrl 2 6 [] [(22,ag (H2 ({Cur.zero with row:=9}))),(23,ag (I0 Plc.zero))] ?_)))
 have hQ:=C9 hR;clear hR;obtain ⟨y3,hy3,hR⟩:=hQ
 refine zcm (A7s 20 9 ({Cur.zero with row:=9}) Plc.zero y3 hy3) (A0.pick [2,3,4,5,6,7] rfl) fun ⟨⟨q11,k12⟩,hp13⟩=>?_
 obtain ⟨hc14,hl15⟩:=hp13
 have hbm:=C2u hy3
 have:=hbm.1;try rw [hy3] at this
 refine ip' 5 0 [(6,iv y3.2)] (ie (sr 8 rfl (zrl 2 6 [] [(28,ag (H2 Cur.zero)),(29,ag (I0 Plc.zero))] ?_)))
 have hQ:=C9 hR;clear hR;obtain ⟨y2,hy2,hR⟩:=hQ
 refine it rfl (C2 (L2:=[]) (C6o 20 9 Cur.zero Plc.zero y2 hy2) rfl rfl rfl rfl rfl fn0 (List.Perm.refl _) (fun ⟨⟨r16,rs17⟩,hp20⟩=>((vo D0 27 r16 rs17)++([]))) (fun _=>by first|rfl|simp)) fun ⟨⟨r16,rs17⟩,hp20⟩=>?_
 try dsimp only at hp20
 obtain ⟨hk18,hw19⟩:=hp20
 have:=VOk.le hk18
 have:=VOk.cap hk18
 have:=hw19.1
 have hwq:=E3g hy2
 have:=hwq.2;try rw [hy2] at this
 refine A4o [] [] (T:=27) (c:=D0) (r:=r16) (xs:=rs17) (VOk.cast hk18 (by rw [hw19.1])) (by first|rfl|simp only [List.flatten_cons,List.flatten_nil,List.cons_append,List.append_assoc,List.nil_append,List.append_nil]) ?_
 refine ip' 5 0 [(7,.slice (va r16.q) y2.1.length r16.k),(8,iv y2.2)] (ie (sr 32 rfl (ip' 3 29 [(35,bv (decide (y0.2=0)))] ?_)))
 refine zid 5 24 35 40 (K2 y0.1 ([{Act.zero with kind:=6}]:List Act)) (fun g21 g21p=>?_) ?_
 ·refine zrl 2 3 [] [(36,.slice q1 y0.1.length k2),(37,ag (A5 ({Act.zero with kind:=6})))] (it rfl (B3 (c:=A5) (xs:=([{Act.zero with kind:=6}]:List Act)) A0v rfl rfl rfl (by kernel_rfl)) fun b22=>?_)
  have:([{Act.zero with kind:=6}]:List Act).length=1:=rfl
  refine zca (B3l y0.1 ([{Act.zero with kind:=6}]:List Act) q1 k2 (some ⟨b22,0,none⟩) 1 (by first|omega|(simp<;>omega)|(dsimp only;omega)|decide) (by first|omega|(simp<;>omega)|(dsimp only;omega)|decide) (by first|omega|(simp<;>omega)|(dsimp only;omega)|decide) (by first|omega|(simp<;>omega)|(dsimp only;omega)|decide) _ rfl) (A0.pick [5,0] rfl) (ip' 1 0 [(40,bv (K2 y0.1 ([{Act.zero with kind:=6}]:List Act)))] ?_)
  exact A6 (Q2 6 35 40 g21 (A0.pick [1,2,3,4,5,6,7,8,9,10,11] rfl) (mk [] rfl) rfl rfl rfl rfl rfl)
 refine ip' 1 23 [(41,bv ((decide (y0.2=0))&&(K2 y0.1 ([{Act.zero with kind:=6}]:List Act))))] ?_
 refine zia 3 20 41 44 (decide (y1.2=0)) (fun g23=>?_) ?_
 ·have g23p:=g23;try simp at g23p
  refine ip' 3 0 [(44,bv (decide (y1.2=0)))] ?_
  exact zai 2 41 44 g23
 refine ip' 1 19 [(45,bv (((decide (y0.2=0))&&(K2 y0.1 ([{Act.zero with kind:=6}]:List Act)))&&(decide (y1.2=0))))] ?_
 refine zia 5 14 45 50 (K2 y1.1 ([{Act.zero with kind:=19,n:=1,m:=1}]:List Act)) (fun g24=>?_) ?_
 ·have g24p:=g24;try simp at g24p
  refine zrl 2 3 [] [(46,.slice q6 y1.1.length k7),(47,ag (A5 ({Act.zero with kind:=19,n:=1,m:=1})))] (it rfl (B3 (c:=A5) (xs:=([{Act.zero with kind:=19,n:=1,m:=1}]:List Act)) A0v rfl rfl rfl (by kernel_rfl)) fun b25=>?_)
  have:([{Act.zero with kind:=19,n:=1,m:=1}]:List Act).length=1:=rfl
  refine zca (B3l y1.1 ([{Act.zero with kind:=19,n:=1,m:=1}]:List Act) q6 k7 (some ⟨b25,0,none⟩) 1 (by first|omega|(simp<;>omega)|(dsimp only;omega)|decide) (by first|omega|(simp<;>omega)|(dsimp only;omega)|decide) (by first|omega|(simp<;>omega)|(dsimp only;omega)|decide) (by first|omega|(simp<;>omega)|(dsimp only;omega)|decide) _ rfl) (A0.pick [4,0] rfl) (ip' 1 0 [(50,bv (K2 y1.1 ([{Act.zero with kind:=19,n:=1,m:=1}]:List Act)))] ?_)
  exact A6 (Q2 6 45 50 g24 (A0.pick [1,2,3,4,5,6,7,8,9,10,11] rfl) (mk [] rfl) rfl rfl rfl rfl rfl)
 refine ip' 1 13 [(51,bv ((((decide (y0.2=0))&&(K2 y0.1 ([{Act.zero with kind:=6}]:List Act)))&&(decide (y1.2=0)))&&(K2 y1.1 ([{Act.zero with kind:=19,n:=1,m:=1}]:List Act))))] ?_
 refine zia 3 10 51 54 (decide (y3.2=2)) (fun g26=>?_) ?_
 ·have g26p:=g26;try simp at g26p
  refine ip' 3 0 [(54,bv (decide (y3.2=2)))] ?_
  exact zai 2 51 54 g26
 refine ip' 1 9 [(55,bv (((((decide (y0.2=0))&&(K2 y0.1 ([{Act.zero with kind:=6}]:List Act)))&&(decide (y1.2=0)))&&(K2 y1.1 ([{Act.zero with kind:=19,n:=1,m:=1}]:List Act)))&&(decide (y3.2=2))))] ?_
 refine zia 3 6 55 58 (decide (y2.2=0)) (fun g27=>?_) ?_
 ·have g27p:=g27;try simp at g27p
  refine ip' 3 0 [(58,bv (decide (y2.2=0)))] ?_
  exact zai 2 55 58 g27
 refine ip' 1 5 [(59,bv ((((((decide (y0.2=0))&&(K2 y0.1 ([{Act.zero with kind:=6}]:List Act)))&&(decide (y1.2=0)))&&(K2 y1.1 ([{Act.zero with kind:=19,n:=1,m:=1}]:List Act)))&&(decide (y3.2=2)))&&(decide (y2.2=0))))] ?_
 refine zia 4 1 59 63 (decide ((y2.1.length:Int)=4)) (fun g28=>?_) ?_
 ·have g28p:=g28;try simp at g28p
  refine ip' 4 0 [(63,bv (decide ((y2.1.length:Int)=4)))] ?_
  exact zai 2 59 63 g28
 refine ip' 1 0 [(0,bv (((((((decide (y0.2=0))&&(K2 y0.1 ([{Act.zero with kind:=6}]:List Act)))&&(decide (y1.2=0)))&&(K2 y1.1 ([{Act.zero with kind:=19,n:=1,m:=1}]:List Act)))&&(decide (y3.2=2)))&&(decide (y2.2=0)))&&(decide ((y2.1.length:Int)=4))))] ?_
 subst hR
 refine ie (B0 ?_)
 exact F8 hr hD
end Go.Proofs.YtanighkpfmgnbaaGreatDoor
set_option linter.unusedVariables false
set_option linter.unusedSimpArgs false
set_option linter.unnecessarySimpa false
set_option maxRecDepth 100000
namespace Go.Proofs.YtanighkpfmgnbaaGreatDoor
open Go Go.Fen
end Go.Proofs.YtanighkpfmgnbaaGreatDoor
