import Derived.Test.YtgimbmncdmnklaaGreatDoorProg
import Derived.Test.YtgimbmncdmnklaaGreatDoorMA2
import Derived.Test.YtgimbmncdmnklaaGreatDoorMB1
import Derived.Test.YtgimbmncdmnklaaGreatDoorMA3
import Derived.Test.YtgimbmncdmnklaaGreatDoorMB2
import Derived.Test.YtgimbmncdmnklaaGreatDoorMB3
import Derived.Test.YtgimbmncdmnklaaGreatDoorMQ1
import Derived.Test.YtgimbmncdmnklaaGreatDoorMQ2
import Derived.Test.YtgimbmncdmnklaaGreatDoorMQ3
set_option linter.unusedVariables false
set_option linter.unusedSimpArgs false
set_option linter.unnecessarySimpa false
set_option maxRecDepth 100000
namespace Go.Proofs.YtgimbmncdmnklaaGreatDoor
open Go Go.Fen
def A1p (a:Int) (b:Int) (c:Cur):Bool :=
 (bif ((((((((decide (a<2))||(decide ((80:Int)<a)))||(decide (b<1)))||(decide ((40:Int)<b)))||(decide (c.row<0)))||(decide (b≤c.row)))||(decide (c.col<0)))||(decide (a≤c.col))) then false else ((!c.wrap)||(decide (c.col=(IntKind.i64.wrap (a - (1:Int)))))))
theorem E1v {b a:Int} {c:Cur} {R:Bool} (hR:A1p b a c=R):J5 Tryz.prog 23 [iv b,iv a,ag (H4 c)] [] (bv R):=by
 refine cC Tryz.func23 fun X hX hr hD=>?_
 replace hR:=(A1p.eq_1 ..).symm.trans hR
 refine bS rfl (zra 2 [] (fun h=>[(5,pt h 0)]) (fun _=>(H4 c)) 29 fun h=>?_)
 refine ie (A3 (bS rfl (bP 3 9 rfl ?_)))
 refine zir 3 30 9 12 (decide (80<b)) (fun s p=>?_) ?_
 ·refine bP 3 12 rfl ?_
  exact A2 (J0 2 9 _ s A7.nil bU rfl rfl rfl rfl rfl)
 refine bP 1 13 rfl ?_
 refine zio 3 26 13 16 (decide (a<1)) (fun m=>?_) ?_
 ·have t:=bV m
  refine bP 3 16 rfl ?_
  exact A2 (J0 2 13 _ m A7.nil bU rfl rfl rfl rfl rfl)
 refine bP 1 17 rfl ?_
 refine zio 3 22 17 20 (decide (40<a)) (fun f=>?_) ?_
 ·have q:=bV f
  refine bP 3 20 rfl ?_
  exact A2 (J0 2 17 _ f A7.nil bU rfl rfl rfl rfl rfl)
 refine bP 1 21 rfl ?_
 refine zio 4 17 21 25 (decide (c.row<0)) (fun i=>?_) ?_
 ·have u:=bV i
  refine cF 4 [0] 25 rfl ?_
  exact A2 (J0 2 21 _ i A7.nil bU rfl rfl rfl rfl rfl)
 refine bP 1 26 rfl ?_
 refine zio 5 11 26 31 (decide (a≤c.row)) (fun g=>?_) ?_
 ·have o:=bV g
  refine cF 5 [0] 31 rfl ?_
  exact A2 (J0 2 26 _ g A7.nil bU rfl rfl rfl rfl rfl)
 refine bP 1 32 rfl ?_
 refine zio 4 6 32 36 (decide (c.col<0)) (fun k=>?_) ?_
 ·have n:=bV k
  refine cF 4 [0] 36 rfl ?_
  exact A2 (J0 2 32 _ k A7.nil bU rfl rfl rfl rfl rfl)
 refine bP 1 37 rfl ?_
 refine zio 5 0 37 42 (decide (b≤c.col)) (fun l=>?_) ?_
 ·have r:=bV l
  refine cF 5 [0] 42 rfl ?_
  exact A2 (J0 2 37 _ l A7.nil bU rfl rfl rfl rfl rfl)
 refine ie ?_
 refine zjb rfl hR ?_ ?_<;>clear hR<;>intro hR j
 ·have d:=bV j
  refine bS rfl (bP 1 6 rfl ?_)
  subst hR
  refine ie (A8 ?_)
  exact F7 hr hD
 refine A4 (nx (bS rfl (cF 4 [0] 46 rfl ?_)))
 refine zio 6 1 46 52 (decide (c.col=(IntKind.i64.wrap (b - 1)))) (fun e=>?_) ?_
 ·refine pl2 3 [0] 48 49 rfl ?_
  refine ix rfl (J9.pure rfl) ?_
  refine bP 2 52 rfl ?_
  exact A2 (J0 5 46 _ e A7.nil bU rfl rfl rfl rfl rfl)
 refine bP 1 6 rfl ?_
 subst hR
 refine ie (A8 ?_)
 exact F7 hr hD
theorem D9v {a b:Int} {c:Cur} (h:A1p a b c=true):(2≤a∧a≤80∧1≤b∧b≤40)∧(0≤c.row∧c.row<b∧0≤c.col∧c.col<a)∧(c.wrap=true→c.col=a - 1):=by
 unfold A1p at h
 by_cases hb:(2≤a∧a≤80∧1≤b∧b≤40)∧(0≤c.row∧c.row<b∧0≤c.col∧c.col<a)
 ·rw [show ((((((((decide (a<2))||(decide ((80:Int)<a)))||(decide (b<1)))||(decide ((40:Int)<b)))||(decide (c.row<0)))||(decide (b≤c.row)))||(decide (c.col<0)))||(decide (a≤c.col)))=false by simp only [Bool.or_eq_false_iff,decide_eq_false_iff_not];omega] at h
  refine ⟨hb.1,hb.2,fun d=>?_⟩
  have h:((!c.wrap)||(decide (c.col=(IntKind.i64.wrap (a - (1:Int))))))=true:=h
  rw [d,C3q (by show (-9223372036854775808:Int)≤_;omega) (by show _≤(9223372036854775807:Int);omega)] at h
  exact of_decide_eq_true h
 ·rw [show ((((((((decide (a<2))||(decide ((80:Int)<a)))||(decide (b<1)))||(decide ((40:Int)<b)))||(decide (c.row<0)))||(decide (b≤c.row)))||(decide (c.col<0)))||(decide (a≤c.col)))=true by simp only [Bool.or_eq_true,decide_eq_true_eq];omega] at h
  cases h
def A3l:Nat→Int→Int→List Act
 | 0,_,_=>[]
 | fu+1,kind,n=>(bif (decide (n=0)) then ([]:List Act) else (B6 (A3l fu kind (n - 1)) fun (a:List Act)=>(a++([{Act.zero with kind:=kind}]:List Act))))
theorem C3g:∀ (fu:Nat) (k n:Int),0≤n→n.toNat<fu→A3l fu k n=List.replicate n.toNat {Act.zero with kind:=k}
 | fu+1,k,n,h0,h=>by
  rw [A3l]
  by_cases hn:n=0
  ·rw [decide_eq_true hn,hn];rfl
  ·rw [decide_eq_false hn]
   show A3l fu k (n - 1)++[{Act.zero with kind:=k}]=_
   rw [C3g fu k (n - 1) opx opx]
   obtain ⟨m,hm⟩:∃ m:Nat,n.toNat=m+1:=⟨n.toNat - 1,by omega⟩
   rw [hm,show (n - 1).toNat=m by omega,List.replicate_succ']
theorem C5y (fu:Nat) (k n:Int) (a:0≤n) (h:n.toNat<fu):(A3l fu k n).length=n.toNat:=by
 rw [C3g fu k n a h,List.length_replicate]
theorem C0y:∀ (fu:Nat) (kind:Int) (n:Int) (i:0≤n∧n≤50) (g:n.toNat<fu) (R:List Act) (hR:A3l fu kind n=R),Con Tryz.prog 108 [iv kind,iv n] [] [] ({r:VR // bT 6 R.length r}) (fun x=>.slice (va x.1.q) R.length x.1.k) (fun x=>((vo A0 54 x.1 R)++([]))) (fun x=>[]):=by
 intro fu
 induction fu with
 | zero=>intros;omega
 | succ fu ih =>
  intro kind n i g R hR
  refine cC Tryz.func108 fun X hX hr hD=>?_
  replace hR:=(A3l.eq_2 ..).symm.trans hR
  refine bS rfl (pp0 1 rfl ?_)
  refine ie (A3 (bS rfl (bP 2 6 rfl ?_)))
  refine ie ?_
  refine zjd rfl hR ?_ ?_<;>clear hR<;>intro hR p l
  ·refine bS rfl (bP 1 4 rfl ?_)
   subst hR
   refine ie (A8 ?_)
   exact cD hr hD (K7 rfl (A6 rfl)) ⟨VR.nil,bT.nil⟩ bU A7.nil
  refine A4 (nx (bS rfl (cG 2 7 8 rfl ?_)))
  refine ix rfl (M4 rfl rfl rfl rfl opx) ?_
  have h:=C4 hR;clear hR;obtain ⟨b,a,hR⟩:=h
  refine zc rfl (ih kind (n - 1) opx opx b a) fun ⟨j,d⟩=>?_
  have:=bT.le d
  have:=bT.cap d
  have:=C5y fu kind (n - 1) opx opx;try rw [a] at this
  refine c9 2 3 [] [(12,ag (A0 ({Act.zero with kind:=kind})))] ?_
  refine it rfl (B1 (c:=A0) (xs:=([{Act.zero with kind:=kind}]:List Act)) Q1 rfl rfl rfl oki) fun o=>?_
  have:([{Act.zero with kind:=kind}]:List Act).length=1:=rfl
  refine it rfl (S7 (f:=A0) (r:=j) (xs:=b) (ys:=([{Act.zero with kind:=kind}]:List Act)) (pre:=[]) (post:=[]) A4u (fun _=>rfl) (fun _=>rfl) rfl rfl rfl rfl rfl rfl rfl rfl rfl (A5 0 rfl) d ofv ofv) fun ⟨m,e⟩=>?_
  have:=bT.le e
  have:=bT.cap e
  refine bP 1 4 rfl ?_
  subst hR
  refine ie (A8 ?_)
  exact cD hr hD (K7 rfl (A6 rfl)) ⟨m,e⟩ bU A7.nil
def A3x (from_:Int) (to_:Int):List (List Act) :=
 (bif (decide (from_=to_)) then ([([]:List Act)]:List (List Act)) else (bif (decide (to_<from_)) then ([([{Act.zero with kind:=20,n:=0,m:=(from_ - to_)}]:List Act)]:List (List Act)) else (bif (decide ((to_ - from_)≤4)) then (B6 (A3l ((to_ - from_).toNat+1) 5 (to_ - from_)) fun (a:List Act)=>(([([{Act.zero with kind:=20,n:=1,m:=(to_ - from_)}]:List Act)]:List (List Act))++([a]:List (List Act)))) else ([([{Act.zero with kind:=20,n:=1,m:=(to_ - from_)}]:List Act)]:List (List Act)))))
theorem C6o {c0:Pth} (hb:0≤c0.frm.row∧c0.frm.row≤40∧0≤c0.to_.row∧c0.to_.row≤40):A3x c0.frm.row c0.to_.row=H0 c0:=by
 unfold A3x H0 B6
 rcases Int.lt_trichotomy c0.frm.row c0.to_.row with h | h | h
 ·rw [decide_eq_false (show ¬ c0.frm.row=c0.to_.row by omega),decide_eq_false (show ¬ c0.to_.row<c0.frm.row by omega),decide_eq_false (show ¬ c0.to_.row - c0.frm.row=0 by omega),decide_eq_false (show ¬ c0.to_.row - c0.frm.row<0 by omega)]
  rw [A7e,C3g _ _ _ opx opx]
  cases decide (c0.to_.row - c0.frm.row≤4)<;>rfl
 ·rw [decide_eq_true h,decide_eq_true (show c0.to_.row - c0.frm.row=0 by omega)];rfl
 ·rw [decide_eq_false (show ¬ c0.frm.row=c0.to_.row by omega),decide_eq_true h,decide_eq_false (show ¬ c0.to_.row - c0.frm.row=0 by omega),decide_eq_true (show c0.to_.row - c0.frm.row<0 by omega),show -(c0.to_.row - c0.frm.row)=c0.frm.row - c0.to_.row by omega];rfl
theorem D7w {a b:Int} {r:List (List Act)} (hr:A3x a b=r) (hb:0≤a∧a≤40∧0≤b∧b≤40):(∀ e ∈ r,mwA e)∧r.length≤2:=by
 subst hr
 have h:=C6o (c0:=⟨⟨a,0,false⟩,⟨b,0⟩⟩) hb
 have c:A3x a b=_:=h
 rw [c];exact ⟨C9h _ hb,D7r _⟩
theorem D6p {from_ to_:Int} {R:List (List Act)} (hR:A3x from_ to_=R) (hb:0≤from_∧from_≤40∧0≤to_∧to_≤40:=by exact bW):Con Tryz.prog 69 [iv from_,iv to_] [] [] ({t:VR×List Slc // bT 1 R.length t.1∧B4 t.2 R}) (fun x=>.slice (va x.1.1.q) R.length x.1.1.k) (fun x=>((vo D9 31 x.1.1 x.1.2)++([]))) (fun x=>[D5 A0 x.1.2 R]):=by
 refine cC Tryz.func69 fun X hX hr hD=>?_
 replace hR:=(A3x.eq_1 ..).symm.trans hR
 refine bS rfl (pp0 1 rfl ?_)
 refine ie (A3 (bS rfl (bP 3 8 rfl ?_)))
 refine ie ?_
 refine zjd rfl hR ?_ ?_<;>clear hR<;>intro hR h1 a2
 ·refine bS rfl ?_
  have l:B4 ([⟨none,0,0⟩]:List Slc) ([([]:List Act)]:List (List Act)):=(B4.cons ⟨ooy,okl,okl⟩ B4.none)
  refine D7 (q:=D5 A0 [⟨none,0,0⟩] _) (M3 B0i H9) ?_
  refine it rfl (B2z (c:=D9) (xs:=[⟨none,0,0⟩]) A5b rfl rfl rfl oki) fun z=>?_
  refine bP 1 4 rfl ?_
  subst hR
  refine ie (A8 ?_)
  exact cD hr hD (K7 rfl (A6 rfl)) ⟨(⟨some z,1,[]⟩,_),⟨(show bT 1 1 _ from ⟨rfl,Nat.le_refl _,Nat.le_of_ble_eq_true rfl⟩),l⟩⟩ bU cB
 refine A4 (nx (A3 (bS rfl (bP 3 12 rfl ?_))))
 refine ie ?_
 refine zjd rfl hR ?_ ?_<;>clear hR<;>intro hR h4 a1
 ·refine bS rfl (cG 2 13 14 rfl ?_)
  refine ix rfl (M4 rfl rfl rfl rfl opx) ?_
  refine c9 1 3 [] [(16,ag (A0 ({Act.zero with kind:=20,n:=0,m:=(from_ - to_)})))] ?_
  refine it rfl (B1 (c:=A0) (xs:=[{Act.zero with kind:=20,n:=0,m:=(from_ - to_)}]) Q1 rfl rfl rfl oki) fun p=>?_
  have:([{Act.zero with kind:=20,n:=0,m:=(from_ - to_)}]:List Act).length=1:=rfl
  have j:B4 ([⟨some ⟨p,0,none⟩,1,1⟩]:List Slc) ([([{Act.zero with kind:=20,n:=0,m:=(from_ - to_)}]:List Act)]:List (List Act)):=(B4.cons ⟨ooy,okl,okl⟩ B4.none)
  refine D7 (q:=D5 _ [⟨some ⟨p,0,none⟩,1,1⟩] _) (M3 (A5 0 rfl) H9) ?_
  refine it rfl (B2z (c:=D9) (xs:=[⟨some ⟨p,0,none⟩,1,1⟩]) A5b rfl rfl rfl oki) fun y=>?_
  refine bP 1 4 rfl ?_
  subst hR
  refine ie (A8 ?_)
  exact cD hr hD (K7 rfl (A6 rfl)) ⟨(⟨some y,1,[]⟩,_),⟨(show bT 1 1 _ from ⟨rfl,Nat.le_refl _,Nat.le_of_ble_eq_true rfl⟩),j⟩⟩ bU cB
 refine A4 (nx (bS rfl (cG 2 19 20 rfl ?_)))
 refine ix rfl (M4 rfl rfl rfl rfl opx) ?_
 refine c9 1 3 [] [(22,ag (A0 ({Act.zero with kind:=20,n:=1,m:=(to_ - from_)})))] ?_
 refine it rfl (B1 (c:=A0) (xs:=[{Act.zero with kind:=20,n:=1,m:=(to_ - from_)}]) Q1 rfl rfl rfl oki) fun i=>?_
 have:([{Act.zero with kind:=20,n:=1,m:=(to_ - from_)}]:List Act).length=1:=rfl
 have e:B4 ([⟨some ⟨i,0,none⟩,1,1⟩]:List Slc) ([([{Act.zero with kind:=20,n:=1,m:=(to_ - from_)}]:List Act)]:List (List Act)):=(B4.cons ⟨ooy,okl,okl⟩ B4.none)
 refine D7 (q:=D5 _ [⟨some ⟨i,0,none⟩,1,1⟩] _) (M3 (A5 0 rfl) H9) ?_
 refine it rfl (B2z (c:=D9) (xs:=[⟨some ⟨i,0,none⟩,1,1⟩]) A5b rfl rfl rfl oki) fun s=>?_
 refine bP 1 5 rfl ?_
 refine ie (A3 (bS rfl (cG 2 25 26 rfl ?_)))
 refine ix rfl (M4 rfl rfl rfl rfl opx) ?_
 refine bP 1 28 rfl ?_
 refine ie ?_
 refine zjd rfl hR ?_ ?_<;>clear hR<;>intro hR a3 v
 ·refine A1 8 rfl (pp3 3 29 30 31 rfl ?_)
  refine ix rfl (M4 rfl rfl rfl rfl opx) ?_
  have hQ:=C4 hR;clear hR;obtain ⟨a,b,hR⟩:=hQ
  refine it rfl (H1 (L2:=((vo D9 31 (⟨some s,1,[]⟩:VR) ([⟨some ⟨i,0,none⟩,1,1⟩]:List Slc))++([]))) (C0y ((to_ - from_).toNat+1) 5 (to_ - from_) opx (Nat.lt_succ_self _) a b) rfl rfl rfl rfl rfl A7.nil (List.Perm.refl _) (fun ⟨d,f⟩=>((vo A0 54 d a)++((vo D9 31 (⟨some s,1,[]⟩:VR) ([⟨some ⟨i,0,none⟩,1,1⟩]:List Slc))++([])))) (fun _=>by first|rfl|simp only [List.append_nil,List.cons_append,List.nil_append,List.append_assoc])) fun ⟨d,f⟩=>?_
  have:=C5y ((to_ - from_).toNat+1) 5 (to_ - from_) opx opx;try rw [b] at this
  have:=bT.cap f
  have:=bT.le f
  refine R5 [] _ f oll ?_
  refine it rfl (B1 (c:=D9) (xs:=[⟨va d.q,a.length,d.k⟩]) A5b rfl rfl rfl oki) fun w=>?_
  have g:B4 ([⟨va d.q,a.length,d.k⟩]:List Slc) ([a]:List (List Act)):=(B4.cons ⟨ooy,okl,okl⟩ B4.none)
  refine D7 (q:=D5 _ [⟨va d.q,a.length,d.k⟩] _) (M3 (A5 1 rfl) H9) ?_
  have o:B4 (([⟨some ⟨i,0,none⟩,1,1⟩]:List Slc)++([⟨va d.q,a.length,d.k⟩]:List Slc)) (([([{Act.zero with kind:=20,n:=1,m:=(to_ - from_)}]:List Act)]:List (List Act))++([a]:List (List Act))):=B4.append e g
  refine it rfl (J8 (r:=(⟨some s,1,[]⟩:VR)) (rs:=([⟨some ⟨i,0,none⟩,1,1⟩]:List Slc)) (xss:=([([{Act.zero with kind:=20,n:=1,m:=(to_ - from_)}]:List Act)]:List (List Act))) (pre:=[]) (post:=[]) B1y rfl rfl rfl rfl rfl rfl rfl rfl rfl (A5 1 rfl) (A5 3 rfl) (A5 0 rfl) e g (show bT 1 1 _ from ⟨rfl,Nat.le_refl _,Nat.le_of_ble_eq_true rfl⟩) ofv ofv) fun ⟨u,h⟩=>?_
  refine bP 1 5 rfl ?_
  refine A2 (nx (bS rfl (bP 2 4 rfl ?_)))
  subst hR
  refine ie (A8 ?_)
  exact cD hr hD (K7 rfl (A6 rfl)) ⟨(u,_),⟨h,o⟩⟩ bU cB
 refine A4 (nx (bS rfl (bP 2 4 rfl ?_)))
 subst hR
 refine ie (A8 ?_)
 exact cD hr hD (K7 rfl (A6 rfl)) ⟨(⟨some s,1,[]⟩,_),⟨(show bT 1 1 _ from ⟨rfl,Nat.le_refl _,Nat.le_of_ble_eq_true rfl⟩),e⟩⟩ bU cB
def A1l (to_:Int) (a:List (List Act)):List (List Act) :=
 (bif (decide ((0:Int)<to_)) then (a++([(([{Act.zero with kind:=6}]:List Act)++([{Act.zero with kind:=20,n:=2,m:=to_}]:List Act))]:List (List Act))) else (a++([([{Act.zero with kind:=6}]:List Act)]:List (List Act))))
def A3b (from_:Int) (to_:Int) (b:List (List Act)):List (List Act) :=
 (bif (decide (to_<from_)) then (bif (decide ((from_ - to_)≤4)) then (B6 (A3l ((from_ - to_).toNat+1) 3 (from_ - to_)) fun (a:List Act)=>A1l to_ ((b++([([{Act.zero with kind:=20,n:=3,m:=(from_ - to_)}]:List Act)]:List (List Act)))++([a]:List (List Act)))) else A1l to_ (b++([([{Act.zero with kind:=20,n:=3,m:=(from_ - to_)}]:List Act)]:List (List Act)))) else A1l to_ b)
def A3a (from_:Int) (to_:Int) (a:List (List Act)):List (List Act) :=
 (bif (decide (from_<to_)) then A3b from_ to_ ((a++([([{Act.zero with kind:=22,n:=(to_+1)}]:List Act)]:List (List Act)))++([([{Act.zero with kind:=20,n:=2,m:=(to_ - from_)}]:List Act)]:List (List Act))) else A3b from_ to_ (a++([([{Act.zero with kind:=22,n:=(to_+1)}]:List Act)]:List (List Act))))
def A1v (from_:Int) (to_:Int):List (List Act) :=
 (bif (decide (from_=to_)) then A3a from_ to_ (([]:List (List Act))++([([]:List Act)]:List (List Act))) else A3a from_ to_ ([]:List (List Act)))
theorem D3x (p:Pth) (h:0≤p.to_.col) (out:List (List Act)):I4 p out=A1l p.to_.col out:=by
 unfold I4 A1l B6
 rw [A7e]
 by_cases h0:p.to_.col=0
 ·rw [decide_eq_true h0,decide_eq_false (show ¬ 0<p.to_.col by omega)];rfl
 ·rw [decide_eq_false h0,decide_eq_true (show 0<p.to_.col by omega)];rfl
theorem D4q (p:Pth) (h:0≤p.to_.col) (out:List (List Act)):I6 p out=A3b p.frm.col p.to_.col out:=by
 unfold I6 K6 A3b B6
 have e:-(p.to_.col - p.frm.col)=p.frm.col - p.to_.col:=by omega
 by_cases hl:p.to_.col<p.frm.col
 ·rw [decide_eq_true hl,decide_eq_true (show p.to_.col - p.frm.col<0 by omega),e,A7e,C3g _ _ _ opx opx]
  cases decide (p.frm.col - p.to_.col≤4)<;>exact D3x p h _
 ·rw [decide_eq_false hl,decide_eq_false (show ¬ p.to_.col - p.frm.col<0 by omega)]
  exact D3x p h _
theorem C1a {p:Pth} (h:0≤p.to_.col):A1v p.frm.col p.to_.col=I9 p:=by
 have a:∀ out,A3a p.frm.col p.to_.col out=K5 p out:=fun out=>by
  unfold A3a K5 B6
  by_cases hl:p.frm.col<p.to_.col
  ·rw [decide_eq_true hl,decide_eq_true (show 0<p.to_.col - p.frm.col by omega)];exact (D4q p h _).symm
  ·rw [decide_eq_false hl,decide_eq_false (show ¬ 0<p.to_.col - p.frm.col by omega)];exact (D4q p h _).symm
 unfold A1v I9
 rw [a,a]
 by_cases hl:p.frm.col=p.to_.col
 ·rw [decide_eq_true hl,decide_eq_true (show p.to_.col - p.frm.col=0 by omega)]
 ·rw [decide_eq_false hl,decide_eq_false (show ¬ p.to_.col - p.frm.col=0 by omega)]
theorem D3l {a b:Int} {r:List (List Act)} (hr:A1v a b=r) (hb:0≤a∧a≤80∧0≤b∧b≤80):(∀ e ∈ r,mwA e)∧r.length≤6:=by
 subst hr
 have c:A1v a b=_:=C1a (p:=⟨⟨0,a,false⟩,⟨0,b⟩⟩) hb.2.2.1
 rw [c];exact C5w rfl hb
theorem omm {p:Prop} (h:p:=by first|rfl|simp only [List.cons_append,List.append_assoc,List.nil_append,List.append_nil]):p:=h
theorem C9s {from_ to_:Int} {R:List (List Act)} (hR:A1v from_ to_=R) (hb:0≤from_∧from_≤80∧0≤to_∧to_≤80:=by exact bW):Con Tryz.prog 70 [iv from_,iv to_] [] [] ({t:VR×List Slc // bT 1 R.length t.1∧B4 t.2 R}) (fun x=>.slice (va x.1.1.q) R.length x.1.1.k) (fun x=>((vo D9 31 x.1.1 x.1.2)++([]))) (fun x=>[D5 A0 x.1.2 R]):=by
 refine cC Tryz.func70 fun X hX hr hD=>?_
 replace hR:=(A1v.eq_1 ..).symm.trans hR
 refine bS rfl (pp0 1 rfl ?_)
 refine ie (bS rfl (bP 1 5 rfl ?_))
 refine ie (A7y (un fun j=>un fun a0 g=>(A3a from_ to_ j=R∧bT 1 j.length a0∧B4 g j∧j.length≤1,[(0,iv from_),(1,iv to_),(5,.slice (va a0.q) j.length a0.k)],((vo D9 31 a0 g)++([])),[D5 A0 g j])) ?_ ?_)
 ·refine bS rfl (bP 3 9 rfl ?_)
  refine ie ?_
  refine zjd rfl hR ?_ ?_<;>clear hR<;>intro hR h1 bg
  ·refine A1 4 rfl (bP 1 10 rfl ?_)
   refine it rfl (B1 (c:=D9) (xs:=[⟨none,0,0⟩]) A5b rfl rfl rfl oki) fun b2=>?_
   have ad:B4 ([⟨none,0,0⟩]:List Slc) ([([]:List Act)]:List (List Act)):=(B4.cons ⟨ooy,okl,okl⟩ B4.none)
   refine D7 (q:=D5 A0 [⟨none,0,0⟩] _) (M3 B0i H9) ?_
   refine D7 (q:=D5 A0 _ _) H9 ?_
   have ax:B4 (([]:List Slc)++([⟨none,0,0⟩]:List Slc)) (([]:List (List Act))++([([]:List Act)]:List (List Act))):=B4.append B4.none ad
   refine it rfl (J8 (r:=VR.nil) (rs:=([]:List Slc)) (xss:=([]:List (List Act))) (pre:=[]) (post:=[]) B1y rfl rfl rfl rfl rfl rfl rfl rfl rfl (A5 2 rfl) (A5 0 rfl) (A5 1 rfl) B4.none ad bT.nil ofv ofv) fun ⟨r4,ao⟩=>?_
   have:([]:List (List Act)).length=0:=rfl
   have:(([]:List (List Act))++([([]:List Act)]:List (List Act))).length=([]:List (List Act)).length+1:=List.length_append
   refine bP 1 5 rfl ?_
   refine A2 ?_
   exact W8 (_,_,_) ⟨hR,ao,ax,ozq⟩ bU cB
  refine A4 ?_
  exact W8 (_,_,_) ⟨hR,bT.nil,B4.none,ozq⟩ bU cB
 rintro ⟨j,a0,g⟩
 rintro ⟨hR,ak,w,hj⟩
 replace hR:=(A3a.eq_1 ..).symm.trans hR
 refine bS rfl (cG 2 13 14 rfl ?_)
 refine ix rfl (B3 rfl rfl rfl rfl opx) ?_
 refine c9 1 4 [] [(16,ag (A0 ({Act.zero with kind:=22,n:=(to_+1)})))] ?_
 refine it rfl (B1 (c:=A0) (xs:=[{Act.zero with kind:=22,n:=(to_+1)}]) Q1 rfl rfl rfl oki) fun b7=>?_
 have:([{Act.zero with kind:=22,n:=(to_+1)}]:List Act).length=1:=rfl
 refine it rfl (B1 (c:=D9) (xs:=[⟨some ⟨b7,0,none⟩,1,1⟩]) A5b rfl rfl rfl oki) fun b8=>?_
 have ae:B4 ([⟨some ⟨b7,0,none⟩,1,1⟩]:List Slc) ([([{Act.zero with kind:=22,n:=(to_+1)}]:List Act)]:List (List Act)):=(B4.cons ⟨ooy,okl,okl⟩ B4.none)
 refine D7 (q:=D5 _ [⟨some ⟨b7,0,none⟩,1,1⟩] _) (M3 (A5 1 rfl) H9) ?_
 have an:B4 (g++([⟨some ⟨b7,0,none⟩,1,1⟩]:List Slc)) (j++([([{Act.zero with kind:=22,n:=(to_+1)}]:List Act)]:List (List Act))):=B4.append w ae
 refine it rfl (J8 (r:=a0) (rs:=g) (xss:=j) (pre:=[]) (post:=[]) B1y rfl rfl rfl rfl rfl rfl rfl rfl rfl (A5 1 rfl) (A5 3 rfl) (A5 0 rfl) w ae ak ofv ofv) fun ⟨aq,ac⟩=>?_
 have:(j++([([{Act.zero with kind:=22,n:=(to_+1)}]:List Act)]:List (List Act))).length=j.length+1:=List.length_append
 refine bP 1 5 rfl ?_
 refine ie (A7y (un fun e=>un fun s b=>(A3b from_ to_ e=R∧bT 1 e.length s∧B4 b e∧e.length≤3,[(0,iv from_),(1,iv to_),(5,.slice (va s.q) e.length s.k)],((vo D9 31 s b)++([])),[D5 A0 (g++[⟨some ⟨b7,0,none⟩,1,1⟩]) (j++([([{Act.zero with kind:=22,n:=(to_+1)}]:List Act)])),D5 A0 [⟨some ⟨b7,0,none⟩,1,1⟩] ([([{Act.zero with kind:=22,n:=(to_+1)}]:List Act)]),sl D9 (some ⟨b8,0,none⟩) [⟨some ⟨b7,0,none⟩,1,1⟩],sl A0 (some ⟨b7,0,none⟩) [{Act.zero with kind:=22,n:=(to_+1)}],D5 A0 g j,D5 A0 b e])) ?_ ?_)
 ·refine bS rfl (bP 3 22 rfl ?_)
  refine ie ?_
  refine zjd rfl hR ?_ ?_<;>clear hR<;>intro hR bb b4
  ·refine A1 9 rfl (pp3 3 23 24 25 rfl ?_)
   refine ix rfl (M4 rfl rfl rfl rfl opx) ?_
   refine c9 1 4 [] [(27,ag (A0 ({Act.zero with kind:=20,n:=2,m:=(to_ - from_)})))] ?_
   refine it rfl (B1 (c:=A0) (xs:=[{Act.zero with kind:=20,n:=2,m:=(to_ - from_)}]) Q1 rfl rfl rfl oki) fun af=>?_
   have:([{Act.zero with kind:=20,n:=2,m:=(to_ - from_)}]:List Act).length=1:=rfl
   refine it rfl (B1 (c:=D9) (xs:=[⟨some ⟨af,0,none⟩,1,1⟩]) A5b rfl rfl rfl oki) fun bo=>?_
   have a5:B4 ([⟨some ⟨af,0,none⟩,1,1⟩]:List Slc) ([([{Act.zero with kind:=20,n:=2,m:=(to_ - from_)}]:List Act)]:List (List Act)):=(B4.cons ⟨ooy,okl,okl⟩ B4.none)
   refine D7 (q:=D5 _ [⟨some ⟨af,0,none⟩,1,1⟩] _) (M3 (A5 1 rfl) H9) ?_
   have av:B4 ((g++([⟨some ⟨b7,0,none⟩,1,1⟩]:List Slc))++([⟨some ⟨af,0,none⟩,1,1⟩]:List Slc)) ((j++([([{Act.zero with kind:=22,n:=(to_+1)}]:List Act)]:List (List Act)))++([([{Act.zero with kind:=20,n:=2,m:=(to_ - from_)}]:List Act)]:List (List Act))):=B4.append an a5
   refine it rfl (J8 (r:=aq) (rs:=(g++([⟨some ⟨b7,0,none⟩,1,1⟩]:List Slc))) (xss:=(j++([([{Act.zero with kind:=22,n:=(to_+1)}]:List Act)]:List (List Act)))) (pre:=[]) (post:=[]) B1y rfl rfl rfl rfl rfl rfl rfl rfl rfl (A5 1 rfl) (A5 3 rfl) (A5 0 rfl) an a5 ac ofv ofv) fun ⟨b0,ah⟩=>?_
   have:((j++([([{Act.zero with kind:=22,n:=(to_+1)}]:List Act)]:List (List Act)))++([([{Act.zero with kind:=20,n:=2,m:=(to_ - from_)}]:List Act)]:List (List Act))).length=(j++([([{Act.zero with kind:=22,n:=(to_+1)}]:List Act)]:List (List Act))).length+1:=List.length_append
   refine bP 1 5 rfl ?_
   refine A2 ?_
   exact W8 (_,_,_) ⟨hR,ah,av,ozq⟩ bU cB
  refine A4 ?_
  exact W8 (_,_,_) ⟨hR,ac,an,ozq⟩ bU cB
 rintro ⟨e,s,b⟩
 rintro ⟨hR,a1,l,hj⟩
 replace hR:=(A3b.eq_1 ..).symm.trans hR
 refine A7y (un fun i=>un fun o d=>(A1l to_ i=R∧bT 1 i.length o∧B4 d i∧i.length≤5,[(1,iv to_),(5,.slice (va o.q) i.length o.k)],((vo D9 31 o d)++([])),[D5 A0 (g++[⟨some ⟨b7,0,none⟩,1,1⟩]) (j++([([{Act.zero with kind:=22,n:=(to_+1)}]:List Act)])),D5 A0 [⟨some ⟨b7,0,none⟩,1,1⟩] ([([{Act.zero with kind:=22,n:=(to_+1)}]:List Act)]),sl D9 (some ⟨b8,0,none⟩) [⟨some ⟨b7,0,none⟩,1,1⟩],sl A0 (some ⟨b7,0,none⟩) [{Act.zero with kind:=22,n:=(to_+1)}],D5 A0 g j,D5 A0 b e,D5 A0 d i])) ?_ ?_
 ·refine bS rfl (bP 3 33 rfl ?_)
  refine ie ?_
  refine zjd rfl hR ?_ ?_<;>clear hR<;>intro hR bk b9
  ·refine bS rfl (pp3 3 34 35 36 rfl ?_)
   refine ix rfl (M4 rfl rfl rfl rfl opx) ?_
   refine c9 1 4 [] [(38,ag (A0 ({Act.zero with kind:=20,n:=3,m:=(from_ - to_)})))] ?_
   refine it rfl (B1 (c:=A0) (xs:=[{Act.zero with kind:=20,n:=3,m:=(from_ - to_)}]) Q1 rfl rfl rfl oki) fun y=>?_
   have:([{Act.zero with kind:=20,n:=3,m:=(from_ - to_)}]:List Act).length=1:=rfl
   refine it rfl (B1 (c:=D9) (xs:=[⟨some ⟨y,0,none⟩,1,1⟩]) A5b rfl rfl rfl oki) fun bc=>?_
   have a9:B4 ([⟨some ⟨y,0,none⟩,1,1⟩]:List Slc) ([([{Act.zero with kind:=20,n:=3,m:=(from_ - to_)}]:List Act)]:List (List Act)):=(B4.cons ⟨ooy,okl,okl⟩ B4.none)
   refine D7 (q:=D5 _ [⟨some ⟨y,0,none⟩,1,1⟩] _) (M3 (A5 1 rfl) H9) ?_
   have am:B4 (b++([⟨some ⟨y,0,none⟩,1,1⟩]:List Slc)) (e++([([{Act.zero with kind:=20,n:=3,m:=(from_ - to_)}]:List Act)]:List (List Act))):=B4.append l a9
   refine it rfl (J8 (r:=s) (rs:=b) (xss:=e) (pre:=[]) (post:=[]) B1y rfl rfl rfl rfl rfl rfl rfl rfl rfl (A5 1 rfl) (A5 8 rfl) (A5 0 rfl) l a9 a1 ofv ofv) fun ⟨ap,ab⟩=>?_
   have:(e++([([{Act.zero with kind:=20,n:=3,m:=(from_ - to_)}]:List Act)]:List (List Act))).length=e.length+1:=List.length_append
   refine bP 1 5 rfl ?_
   refine ie (bS rfl (cG 2 42 43 rfl ?_))
   refine ix rfl (M4 rfl rfl rfl rfl opx) ?_
   refine bP 1 45 rfl ?_
   refine ie ?_
   refine zjd rfl hR ?_ ?_<;>clear hR<;>intro hR be ba
   ·refine A1 8 rfl (pp3 3 46 47 48 rfl ?_)
    refine ix rfl (M4 rfl rfl rfl rfl opx) ?_
    have hQ:=C4 hR;clear hR;obtain ⟨a,p,hR⟩:=hQ
    refine zc rfl (C0y ((from_ - to_).toNat+1) 3 (from_ - to_) opx (Nat.lt_succ_self _) a p) fun ⟨v,a4⟩=>?_
    have:=C5y ((from_ - to_).toNat+1) 3 (from_ - to_) opx opx;try rw [p] at this
    have:=bT.cap a4
    have:=bT.le a4
    refine R5 [] ((vo _ _ _ _)++([])) a4 oll ?_
    refine it rfl (B1 (c:=D9) (xs:=[⟨va v.q,a.length,v.k⟩]) A5b rfl rfl rfl oki) fun bm=>?_
    have a8:B4 ([⟨va v.q,a.length,v.k⟩]:List Slc) ([a]:List (List Act)):=(B4.cons ⟨ooy,okl,okl⟩ B4.none)
    refine D7 (q:=D5 _ [⟨va v.q,a.length,v.k⟩] _) (M3 (A5 1 rfl) H9) ?_
    have ar:B4 ((b++([⟨some ⟨y,0,none⟩,1,1⟩]:List Slc))++([⟨va v.q,a.length,v.k⟩]:List Slc)) ((e++([([{Act.zero with kind:=20,n:=3,m:=(from_ - to_)}]:List Act)]:List (List Act)))++([a]:List (List Act))):=B4.append am a8
    refine it rfl (J8 (r:=ap) (rs:=(b++([⟨some ⟨y,0,none⟩,1,1⟩]:List Slc))) (xss:=(e++([([{Act.zero with kind:=20,n:=3,m:=(from_ - to_)}]:List Act)]:List (List Act)))) (pre:=[]) (post:=[]) B1y rfl rfl rfl rfl rfl rfl rfl rfl rfl (A5 1 rfl) (A5 3 rfl) (A5 0 rfl) am a8 ab ofv ofv) fun ⟨ay,aj⟩=>?_
    have:((e++([([{Act.zero with kind:=20,n:=3,m:=(from_ - to_)}]:List Act)]:List (List Act)))++([a]:List (List Act))).length=(e++([([{Act.zero with kind:=20,n:=3,m:=(from_ - to_)}]:List Act)]:List (List Act))).length+1:=List.length_append
    refine bP 1 5 rfl ?_
    refine A2 ?_
    exact W8 (_,_,_) ⟨hR,aj,ar,ozq⟩ bU cB
   refine A4 ?_
   exact W8 (_,_,_) ⟨hR,ab,am,ozq⟩ bU cB
  refine A4 ?_
  exact W8 (e,s,b) ⟨hR,a1,l,ozq⟩ bU cB
 rintro ⟨i,o,d⟩
 rintro ⟨hR,z,h,hj⟩
 replace hR:=(A1l.eq_1 ..).symm.trans hR
 refine bS rfl (c9 1 2 [] [(53,ag (A0 ({Act.zero with kind:=6})))] ?_)
 refine it rfl (B1 (c:=A0) (xs:=[{Act.zero with kind:=6}]) Q1 rfl rfl rfl oki) fun aa=>?_
 have:([{Act.zero with kind:=6}]:List Act).length=1:=rfl
 refine bP 1 6 rfl ?_
 refine ie (A3 (bS rfl (bP 2 56 rfl ?_)))
 refine ie ?_
 refine zjd rfl hR ?_ ?_<;>clear hR<;>intro hR bd b6
 ·refine A1 6 rfl (c9 3 3 [] [(57,.slice (some ⟨aa,0,none⟩) 1 1),(59,ag (A0 ({Act.zero with kind:=20,n:=2,m:=to_})))] ?_)
  refine it rfl (B1 (c:=A0) (xs:=[{Act.zero with kind:=20,n:=2,m:=to_}]) Q1 rfl rfl rfl oki) fun bl=>?_
  have:([{Act.zero with kind:=20,n:=2,m:=to_}]:List Act).length=1:=rfl
  refine it rfl (D7q (f:=A0) (xs:=([{Act.zero with kind:=6}]:List Act)) (ys:=([{Act.zero with kind:=20,n:=2,m:=to_}]:List Act)) A4u (fun _=>rfl) (fun _=>rfl) rfl rfl rfl rfl rfl rfl opx opx (by rfl) (A5 1 rfl) (A5 0 rfl) oom ofv ofv) fun ⟨u,a6⟩=>?_
  refine bP 1 6 rfl ?_
  refine A2 (nx (bS rfl (cG 2 62 63 rfl ?_)))
  have:=bT.cap a6
  have:=bT.le a6
  refine R5 ((vo _ _ o d)++([])) _ a6 oll ?_
  refine B4m (L':=((vo D9 31 o d)++([]))) omm ?_
  refine it rfl (B1 (c:=D9) (xs:=([⟨va u.q,(([{Act.zero with kind:=6}]:List Act)++([{Act.zero with kind:=20,n:=2,m:=to_}]:List Act)).length,u.k⟩])) A5b rfl rfl rfl oki) fun bn=>?_
  have a3:B4 ([⟨va u.q,(([{Act.zero with kind:=6}]:List Act)++([{Act.zero with kind:=20,n:=2,m:=to_}]:List Act)).length,u.k⟩]:List Slc) ([(([{Act.zero with kind:=6}]:List Act)++([{Act.zero with kind:=20,n:=2,m:=to_}]:List Act))]:List (List Act)):=(B4.cons ⟨ooy,okl,okl⟩ B4.none)
  refine D7 (q:=D5 _ ([⟨va u.q,(([{Act.zero with kind:=6}]:List Act)++([{Act.zero with kind:=20,n:=2,m:=to_}]:List Act)).length,u.k⟩]) _) (M3 (A5 1 rfl) H9) ?_
  have aw:B4 (d++([⟨va u.q,(([{Act.zero with kind:=6}]:List Act)++([{Act.zero with kind:=20,n:=2,m:=to_}]:List Act)).length,u.k⟩]:List Slc)) (i++([(([{Act.zero with kind:=6}]:List Act)++([{Act.zero with kind:=20,n:=2,m:=to_}]:List Act))]:List (List Act))):=B4.append h a3
  refine it rfl (J8 (r:=o) (rs:=d) (xss:=i) (pre:=[]) (post:=[]) B1y rfl rfl rfl rfl rfl rfl rfl rfl rfl (A5 1 rfl) (A5 11 rfl) (A5 0 rfl) h a3 z ofv ofv) fun ⟨b1,ai⟩=>?_
  refine bP 1 4 rfl ?_
  subst hR
  refine ie (A8 ?_)
  exact cD hr hD (K7 rfl (A6 rfl)) ⟨(_,_),⟨ai,aw⟩⟩ bU cB
 refine A4 (nx (bS rfl (cG 2 62 63 rfl ?_)))
 refine it rfl (B1 (c:=D9) (xs:=[⟨some ⟨aa,0,none⟩,1,1⟩]) A5b rfl rfl rfl oki) fun bh=>?_
 have a7:B4 ([⟨some ⟨aa,0,none⟩,1,1⟩]:List Slc) ([([{Act.zero with kind:=6}]:List Act)]:List (List Act)):=(B4.cons ⟨ooy,okl,okl⟩ B4.none)
 refine D7 (q:=D5 _ [⟨some ⟨aa,0,none⟩,1,1⟩] _) (M3 (A5 1 rfl) H9) ?_
 have au:B4 (d++([⟨some ⟨aa,0,none⟩,1,1⟩]:List Slc)) (i++([([{Act.zero with kind:=6}]:List Act)]:List (List Act))):=B4.append h a7
 refine it rfl (J8 (r:=o) (rs:=d) (xss:=i) (pre:=[]) (post:=[]) B1y rfl rfl rfl rfl rfl rfl rfl rfl rfl (A5 1 rfl) (A5 9 rfl) (A5 0 rfl) h a7 z ofv ofv) fun ⟨az,al⟩=>?_
 refine bP 1 4 rfl ?_
 subst hR
 refine ie (A8 ?_)
 exact cD hr hD (K7 rfl (A6 rfl)) ⟨(_,_),⟨al,au⟩⟩ bU cB
def W6 (from_:Cur) (b:List (List Act)) (i:Nat) (a:List (List Act)→Nat→List (List Act)):List (List Act)→List (List Act)→Nat→List (List Act)
 | [],out1,k=>a out1 (i+1)
 | hd_l4::tl_l4,out1,k=>(bif ((decide ((0:Int)<(((b.getD i [])++hd_l4).length:Int)))||(!from_.wrap)) then W6 from_ b i a tl_l4 (out1++([((b.getD i [])++hd_l4)]:List (List Act))) (k+1) else W6 from_ b i a tl_l4 out1 (k+1))
def A2a (from_:Cur) (to_:Plc) (b:List (List Act)) (a:List (List Act)):List (List Act)→List (List Act)→Nat→List (List Act)
 | [],out,i=>(out++([([{Act.zero with kind:=19,n:=(to_.row+1),m:=(to_.col+1)}]:List Act)]:List (List Act)))
 | hd_l3::tl_l3,out,i=>W6 from_ b i (A2a from_ to_ b a tl_l3) a out 0
def A5f (from_:Cur) (to_:Plc):List (List Act) :=
 (B6 (A3x from_.row to_.row) fun (a:List (List Act))=>(B6 (A1v from_.col to_.col) fun (b:List (List Act))=>A2a from_ to_ a b a ([]:List (List Act)) 0))
def C6n (a:Bool) (w:List Act):Bool:=(decide ((0:Int)<(w.length:Int)))||(!a)
def C4w (a:Bool) (A:List (List Act)) (d:List Act):List (List Act):=(A.map (d++·)).filter (C6n a)
theorem E6d (a:Bool) (w:List Act):((decide ((w.length:Int)=0))&&a)=!C6n a w:=by
 unfold C6n
 rcases Nat.eq_zero_or_pos w.length with h | h
 ·rw [decide_eq_true (show (w.length:Int)=0 by omega),decide_eq_false (show ¬ (0:Int)<(w.length:Int) by omega)];cases a<;>rfl
 ·rw [decide_eq_false (show ¬ (w.length:Int)=0 by omega),decide_eq_true (show (0:Int)<(w.length:Int) by omega)];cases a<;>rfl
theorem E7o (c0:Pth) (b:List Act) (ag:List (List Act)):∀ (A:List (List Act)) (t:Nat),G8 c0 b ag A t=C4w c0.frm.wrap A b++ag
 | [],_=>rfl
 | a::A,t=>by
  rw [G8,E7o c0 b ag A,E6d]
  unfold C4w
  rw [List.map_cons,List.filter_cons]
  cases C6n c0.frm.wrap (b++a)<;>rfl
def F5s (t:Plc):List Act:=[{Act.zero with kind:=19,n:=t.row+1,m:=t.col+1}]
theorem E2c (c0:Pth):∀ (l:List (List Act)),E9 c0 l=l.flatMap (C4w c0.frm.wrap (I9 c0))++[F5s c0.to_]
 | []=>rfl
 | el::l=>by
  rw [E9];simp only [B6]
  rw [E7o,E2c c0 l,List.flatMap_cons,List.append_assoc]
theorem E1i (f:Cur) (D:List (List Act)) (i:Nat) (ag:List (List Act)→Nat→List (List Act)):∀ (A b:List (List Act)) (k:Nat),W6 f D i ag A b k=ag (b++C4w f.wrap A (D.getD i [])) (i+1)
 | [],b,_=>by rw [W6];unfold C4w;rw [List.map_nil,List.filter_nil,List.append_nil]
 | a::A,b,k=>by
  rw [W6]
  have e:C4w f.wrap (a::A) (D.getD i [])=(bif C6n f.wrap (D.getD i []++a) then [D.getD i []++a] else [])++C4w f.wrap A (D.getD i []):=by
   unfold C4w;rw [List.map_cons,List.filter_cons];cases C6n f.wrap (D.getD i []++a)<;>rfl
  rw [e,show ((decide ((0:Int)<(((D.getD i [])++a).length:Int)))||(!f.wrap))=C6n f.wrap (D.getD i []++a) from rfl]
  cases C6n f.wrap (D.getD i []++a) with
  | true=>show W6 f D i ag A _ _=_;rw [E1i f D i ag A,List.append_assoc];rfl
  | false=>show W6 f D i ag A _ _=_;rw [E1i f D i ag A];rfl
theorem E2u {α:Type} {D l:List α} {d:α} {i:Nat} (h:d::l=D.drop i) (z:α):D.getD i z=d∧l=D.drop (i+1):=by
 have a:i<D.length:=by
  rcases Nat.lt_or_ge i D.length with h' | h'
  ·exact h'
  ·rw [List.drop_of_length_le h'] at h;cases h
 rw [List.drop_eq_getElem_cons a] at h
 exact ⟨by rw [List.getD_eq_getElem?_getD,List.getElem?_eq_getElem a];exact (List.cons.inj h).1.symm,(List.cons.inj h).2⟩
theorem E6m (f:Cur) (t:Plc) (D A:List (List Act)):∀ (l a:List (List Act)) (i:Nat),l=D.drop i→A2a f t D A l a i=a++(l.flatMap (C4w f.wrap A)++[F5s t])
 | [],a,_,_=>rfl
 | d::l,a,i,h=>by
  obtain ⟨c,b⟩:=E2u h []
  rw [A2a,E1i,E6m f t D A l _ _ b,c,List.flatMap_cons,List.append_assoc,List.append_assoc]
theorem B3y {f:Cur} {t:Plc} (hb:(0≤f.row∧f.row≤40∧0≤t.row∧t.row≤40)∧(0≤f.col∧f.col≤80∧0≤t.col∧t.col≤80)):A5f f t=H3 ⟨f,t⟩:=by
 unfold A5f;simp only [B6]
 rw [E6m f t (A3x f.row t.row) (A1v f.col t.col) (A3x f.row t.row) [] 0 rfl]
 have a:A3x f.row t.row=H0 ⟨f,t⟩:=C6o (c0:=⟨f,t⟩) hb.1
 have b:A1v f.col t.col=I9 ⟨f,t⟩:=C1a (p:=⟨f,t⟩) hb.2.2.2.1
 rw [a,b,List.nil_append]
 exact (E2c ⟨f,t⟩ _).symm
theorem E1c {f:Cur} {t:Plc} {r:List (List Act)} (hr:A5f f t=r) (hb:(0≤f.row∧f.row≤40∧0≤t.row∧t.row≤40)∧(0≤f.col∧f.col≤80∧0≤t.col∧t.col≤80)):(∀ e ∈ r,C0b e)∧0<r.length∧r.length≤20:=by
 subst hr;rw [B3y hb]
 have h:=C4n (c0:=⟨f,t⟩) hb
 refine ⟨h.1,?_,Nat.le_trans h.2 opx⟩
 show 0<(E9 ⟨f,t⟩ _).length
 rw [E2c,List.length_append];exact Nat.succ_pos _
theorem ocl {p:Prop} (h:p:=by first|rfl|(try dsimp only;simp only [D5y,List.append_nil,List.cons_append,List.nil_append,List.append_assoc])):p:=h
theorem otr {p:Prop} (h:p:=by first|omega|(rw [List.length_nil];omega)|(simp only [List.length_cons,List.length_nil,List.length_append];omega)):p:=h
theorem opl {p:Prop} (h:p:=by first|rfl|simp only [List.flatten_cons,List.flatten_nil,List.append_nil,List.cons_append,List.nil_append,List.append_assoc]):p:=h
theorem ofq {p:Prop} (h:p:=by (first|omega|(simp only [List.length_append,List.length_cons,List.length_nil];omega))):p:=h
theorem D7o {from_:Cur} {to_:Plc} {R:List (List Act)} (hR:A5f from_ to_=R) (hb:(0≤from_.row∧from_.row≤40∧0≤to_.row∧to_.row≤40)∧(0≤from_.col∧from_.col≤80∧0≤to_.col∧to_.col≤80):=by exact bW):Con Tryz.prog 42 [ag (H4 from_),ag (S8 to_)] [] [] ({t:VR×List Slc // bT 1 R.length t.1∧B4 t.2 R}) (fun x=>.slice (va x.1.1.q) R.length x.1.1.k) (fun x=>((vo D9 31 x.1.1 x.1.2)++([]))) (fun x=>[D5 A0 x.1.2 R]):=by
 refine cC Tryz.func42 fun X hX hr hD=>?_
 replace hR:=(A5f.eq_1 ..).symm.trans hR
 refine bS rfl (B6z 3 [] (fun b1 b2=>[(2,pt b1 0),(3,pt b2 0)]) (fun _ _=>(H4 from_)) (fun _ _=>(S8 to_)) 29 24 fun b1 b2=>?_)
 refine ie (bS rfl (bP 1 5 rfl ?_))
 refine ie (zS [(12,[0]),(12,[1])] ?_)
 refine hq4 [0,2,5,7] 11 13 16 18 rfl ?_
 refine gl 1 [0,1] rfl (C1 (v:=iv _) cH rfl rfl 1 rfl rfl) ?_
 refine gl 3 [0,1] rfl (C1 (v:=iv _) cH rfl rfl 0 rfl rfl) ?_
 refine gl 6 [0,1] rfl (C1 (v:=iv _) cH rfl rfl 1 rfl rfl) ?_
 refine gl 8 [0,1] rfl (C1 (v:=iv _) cH rfl rfl 0 rfl rfl) ?_
 have hQ:=C4 hR;clear hR;obtain ⟨b,s,hR⟩:=hQ
 refine gc 4 [0,1] rfl (D6p s) fun ⟨⟨r3,a1⟩,ax⟩=>?_
 try dsimp only at ax
 obtain ⟨ae,a7⟩:=ax
 have:=bT.le ae
 have:=a7.1
 have au:=D7w s opx
 have:=au.2;try rw [s] at this
 have hQ:=C4 hR;clear hR;obtain ⟨a,l,hR⟩:=hQ
 refine gc 9 [0,1] rfl (C9s l) fun ⟨⟨r8,a3⟩,an⟩=>?_
 try dsimp only at an
 obtain ⟨ab,y⟩:=an
 have:=bT.le ab
 have:=y.1
 have aw:=D3l l opx
 have:=aw.2;try rw [l] at this
 refine hq2 [10,11] 6 7 rfl ?_
 refine ge ?_
 refine A3 (bS rfl (bP 1 8 rfl ?_))
 refine ie (A9 ?_)
 refine D0y [_,_] ((vo _ _ _ _)++([])) (bT.cast ab (by rw [y.1])) oll ?_
 refine D0y _ _ (bT.cast ae (by rw [a7.1])) oll ?_
 refine Y0 (I1 [_,_,_] [1,2,0] 3 rfl ozw rfl [[_],[_],vo D9 31 VR.nil []] rfl opv) ?_
 refine A3q (un fun z=>un fun a0=>un fun p i=>(i≤b.length∧A2a _ _ b a (b.drop i) z i=R∧bT 1 z.length a0∧B4 p z∧(z.length≤20 * i∧i≤b.length),[(2,_),(3,_),(5,.slice (va a0.q) z.length a0.k),(6,.slice (va r3.q) _ r3.k),(7,.slice (va r8.q) _ r8.k),(8,iv i)],(bx _ _ _::bx _ _ _::((vo D9 31 a0 p)++([]))),[_,sl _ _ a3,D5 _ a3 a,D5 _ a1 b,D5 A0 p z],b.length - i)) (_,_,([]:List Slc),0) ⟨opx,hR,bT.nil,B4.none,(by (exact ⟨Nat.zero_le _,Nat.zero_le _⟩))⟩ bU cB ?_
 rintro ⟨z,a0,p,i⟩ ⟨b8,hR,a2,o,ho⟩
 have:=bT.le a2
 have:=o.1
 have b3:=C9k au.1 i
 refine A3 (bS rfl (bP 4 24 rfl ?_))
 refine ie (G4 rfl (fun ao=>?_) (fun ao=>?_))
 ·have am:=bV ao
  rw [A1b [] (show i<b.length by omega)] at hR;replace hR:=(A2a.eq_2 ..).symm.trans hR
  refine A4 (nx (A3 (A9 (bS rfl (bP 1 9 rfl ?_)))))
  refine ie (A9 ?_)
  refine A3q (un fun j=>un fun g=>un fun e k=>(k≤a.length∧W6 _ b i _ (a.drop k) j k=R∧bT 1 j.length g∧B4 e j∧(j.length≤20 * i+k∧k≤a.length),[(2,_),(3,_),(5,.slice (va g.q) j.length g.k),(6,_),(7,_),(8,_),(9,iv k)],(bx _ _ _::bx _ _ _::((vo _ _ g e)++([]))),[_,sl _ _ a3,D5 _ _ a,D5 _ _ b,D5 A0 p z,D5 A0 e j],a.length - k)) (z,a0,p,0) ⟨opx,hR,a2,o,opx⟩ bU cB ?_
  rintro ⟨j,g,e,k⟩ ⟨b9,hR,w,h,bc⟩
  have:=bT.le w
  have:=h.1
  have b0:=C9k aw.1 k
  refine A3 (bS rfl (bP 4 30 rfl ?_))
  refine ie (G4 rfl (fun ap=>?_) (fun ap=>?_))
  ·have al:=bV ap
   rw [A1b [] (show k<a.length by omega)] at hR;replace hR:=(W6.eq_2 ..).symm.trans hR
   refine A4 (nx (A3 (A9 (bS rfl (bP 1 10 rfl ?_)))))
   refine ie (bS rfl (pp3 3 33 34 35 rfl ?_))
   refine K8 0 rfl (by have:=a7.1;omega) fun bd ah=>?_
   refine D7 (V8 (k:=i) (d:=⟨none,0,0⟩) a7 3 rfl (by have:=a7.1;omega)) ?_
   refine ix rfl (F8 A5b rfl rfl ah rfl i rfl opx) ?_
   refine ix rfl (H8 (C9 C1v rfl rfl (H2 (sz:=1) ah (fun _=>rfl) 1 rfl (gd ⟨none,0,0⟩ (by have:=a7.1;omega))) rfl) (U4 a7 (by have:=a7.1;omega))) ?_
   refine it rfl (Tri.own (A4i (f:=A0) (r:=VR.nil) (xs:=([]:List Act)) (ys:=(b.getD i [])) (pre:=(bx b2 (S8 to_) 24::bx b1 (H4 from_) 29::((vo D9 31 g e)++([])))) (post:=[]) A4u (fun _=>rfl) (fun _=>rfl) rfl rfl rfl rfl rfl rfl rfl ocl (A5 0 rfl) bT.nil otr otr) (fun ⟨ac,a8⟩=>(bx b2 (S8 to_) 24::bx b1 (H4 from_) 29::((vo D9 31 g e)++((vo A0 54 ac (b.getD i []))++([]))))) (fun ⟨ac,a8⟩=>by first|rfl|(try dsimp only;simp only [D5y,List.append_nil,List.cons_append,List.nil_append,List.append_assoc]))) fun ⟨ac,a8⟩=>?_
   refine bP 1 10 rfl ?_
   refine ie (bS rfl (pp3 3 39 40 41 rfl ?_))
   refine K8 2 rfl (by have:=y.1;omega) fun bg aj=>?_
   refine D7 (V8 (k:=k) (d:=⟨none,0,0⟩) y 3 rfl (by have:=y.1;omega)) ?_
   refine ix rfl (F8 A5b rfl rfl aj rfl k rfl opx) ?_
   refine ix rfl (H8 (C9 C1v rfl rfl (H2 (sz:=1) aj (fun _=>rfl) 3 rfl (gd ⟨none,0,0⟩ (by have:=y.1;omega))) rfl) (U4 y (by have:=y.1;omega))) ?_
   refine C0i (I1 [_,_,_,_] [0,1,3,2] 4 rfl ozw rfl [[_],[_],vo _ _ _ _,vo _ _ g e] rfl opl) ?_
   refine it rfl (Tri.own (A4i (f:=A0) (r:=ac) (xs:=(b.getD i [])) (ys:=(a.getD k [])) (pre:=[bx b2 (S8 to_) 24,bx b1 (H4 from_) 29]) (post:=((vo D9 31 g e)++([]))) A4u (fun _=>rfl) (fun _=>rfl) rfl rfl rfl rfl rfl rfl rfl ocl (A5 0 rfl) a8 otr otr) (fun ⟨u,a4⟩=>(bx b2 (S8 to_) 24::bx b1 (H4 from_) 29::((vo A0 54 u ((b.getD i [])++(a.getD k [])))++((vo D9 31 g e)++([]))))) (fun ⟨u,a4⟩=>by first|rfl|(try dsimp only;simp only [D5y,List.append_nil,List.cons_append,List.nil_append,List.append_assoc]))) fun ⟨u,a4⟩=>?_
   refine C0i (I1 [_,_,_,_] [0,1,3,2] 4 rfl ozw rfl [[_],[_],vo _ _ g e,vo _ _ u _] rfl opl) ?_
   refine bP 1 10 rfl ?_
   refine ie (bS rfl (bP 4 48 rfl ?_))
   refine zir 4 0 48 52 (!from_.wrap) (fun b4 ba=>?_) ?_
   ·refine cF 4 [1] 52 rfl ?_
    exact A2 (J0 2 48 _ b4 A7.refl bU rfl rfl rfl rfl rfl)
   refine ie ?_
   refine zjb rfl hR ?_ ?_<;>clear hR<;>intro hR ay
   ·have az:=bV ay
    refine A1 5 rfl (cG 2 53 54 rfl ?_)
    have:=bT.cap a4
    have:=bT.le a4
    refine R5 (bx b2 (S8 to_) 24::bx b1 (H4 from_) 29::((vo D9 31 g e)++([]))) [] (T:=54) (c:=A0) a4 oll ?_
    refine B4m (L':=(bx b2 (S8 to_) 24::bx b1 (H4 from_) 29::((vo D9 31 g e)++([])))) omm ?_
    refine it rfl (B1 (c:=D9) (xs:=([⟨va u.q,((b.getD i [])++(a.getD k [])).length,u.k⟩])) A5b rfl rfl rfl oki) fun be=>?_
    have a9:B4 ([⟨va u.q,((b.getD i [])++(a.getD k [])).length,u.k⟩]:List Slc) ([((b.getD i [])++(a.getD k []))]:List (List Act)):=(B4.cons ⟨ooy,okl,okl⟩ B4.none)
    refine D7 (q:=D5 _ ([⟨va u.q,((b.getD i [])++(a.getD k [])).length,u.k⟩]) _) (M3 (A5 1 rfl) H9) ?_
    have ar:B4 (e++([⟨va u.q,((b.getD i [])++(a.getD k [])).length,u.k⟩]:List Slc)) (j++([((b.getD i [])++(a.getD k []))]:List (List Act))):=B4.append h a9
    refine it rfl (J8 (r:=g) (rs:=e) (xss:=j) (pre:=[bx b2 (S8 to_) 24,bx b1 (H4 from_) 29]) (post:=[]) B1y rfl rfl rfl rfl rfl rfl rfl rfl rfl (A5 1 rfl) (A5 10 rfl) (A5 0 rfl) h a9 w otr otr) fun ⟨b5,ai⟩=>?_
    have:(j++([((b.getD i [])++(a.getD k []))]:List (List Act))).length=j.length+1:=List.length_append
    refine bP 1 5 rfl ?_
    refine A2 (nx (A1 3 rfl (bP 1 31 rfl ?_)))
    refine ix rfl (B3 rfl rfl rfl rfl opx) ?_
    refine bP 1 9 rfl ?_
    refine A2 ?_
    exact A2g (_,_,_,_) ⟨opx,hR,ai,ar,ofq⟩ olr bU cB
   refine A4 (nx (A1 3 rfl (bP 1 31 rfl ?_)))
   refine ix rfl (B3 rfl rfl rfl rfl opx) ?_
   refine bP 1 9 rfl ?_
   refine A2 ?_
   exact A2g (j,g,e,_) ⟨opx,hR,w,h,ofq⟩ olr bU cB
  have al:=bV ap
  rw [A1d al] at hR;replace hR:=(W6.eq_1 ..).symm.trans hR
  refine F4 (nx (A1 3 rfl (bP 1 25 rfl ?_)))
  refine ix rfl (B3 rfl rfl rfl rfl opx) ?_
  refine bP 1 8 rfl ?_
  refine A2 ?_
  exact A2g (j,g,e,_) ⟨opx,hR,w,h,ofq⟩ olr bU cB
 have am:=bV ao
 rw [A1d am] at hR;replace hR:=(A2a.eq_1 ..).symm.trans hR
 refine F4 (nx (bS rfl (pl2 3 [0] 57 59 rfl ?_)))
 refine ix rfl (B3 rfl rfl rfl rfl opx) ?_
 refine cF 2 [0] 62 rfl ?_
 refine ix rfl (B3 rfl rfl rfl rfl opx) ?_
 refine c9 1 4 [] [(64,ag (A0 ({Act.zero with kind:=19,n:=(to_.row+1),m:=(to_.col+1)})))] ?_
 refine it rfl (B1 (c:=A0) (xs:=[{Act.zero with kind:=19,n:=(to_.row+1),m:=(to_.col+1)}]) Q1 rfl rfl rfl oki) fun ad=>?_
 have:([{Act.zero with kind:=19,n:=(to_.row+1),m:=(to_.col+1)}]:List Act).length=1:=rfl
 refine it rfl (B1 (c:=D9) (xs:=[⟨some ⟨ad,0,none⟩,1,1⟩]) A5b rfl rfl rfl oki) fun bb=>?_
 have aa:B4 ([⟨some ⟨ad,0,none⟩,1,1⟩]:List Slc) ([([{Act.zero with kind:=19,n:=(to_.row+1),m:=(to_.col+1)}]:List Act)]:List (List Act)):=(B4.cons ⟨ooy,okl,okl⟩ B4.none)
 refine D7 (q:=D5 _ [⟨some ⟨ad,0,none⟩,1,1⟩] _) (M3 (A5 1 rfl) H9) ?_
 have av:B4 (p++([⟨some ⟨ad,0,none⟩,1,1⟩]:List Slc)) (z++([([{Act.zero with kind:=19,n:=(to_.row+1),m:=(to_.col+1)}]:List Act)]:List (List Act))):=B4.append o aa
 refine it rfl (J8 (r:=a0) (rs:=p) (xss:=z) (pre:=[bx b2 (S8 to_) 24,bx b1 (H4 from_) 29]) (post:=[]) B1y rfl rfl rfl rfl rfl rfl rfl rfl rfl (A5 1 rfl) (A5 7 rfl) (A5 0 rfl) o aa a2 otr otr) fun ⟨b7,af⟩=>?_
 refine bP 1 4 rfl ?_
 subst hR
 refine ie (A8 ?_)
 exact cD hr hD (K7 rfl (A6 rfl)) ⟨(_,_),⟨af,av⟩⟩ bU cB
theorem D0x {c0:Pth} {e:List Act} (a:e ∈ H0 c0) :
  (e=[]∧c0.frm.row=c0.to_.row)∨(e=Q6 0 (c0.frm.row - c0.to_.row)∧c0.to_.row<c0.frm.row)∨(e=Q6 1 (c0.to_.row - c0.frm.row)∧c0.frm.row<c0.to_.row)∨(e=P5 5 (c0.to_.row - c0.frm.row)∧c0.frm.row<c0.to_.row):=by
 revert a;unfold H0;simp only [B6];intro a
 rcases Int.lt_trichotomy c0.frm.row c0.to_.row with h | h | h
 ·rw [decide_eq_false (show ¬ c0.to_.row - c0.frm.row=0 by omega),decide_eq_false (show ¬ c0.to_.row - c0.frm.row<0 by omega)] at a
  have a:e ∈ Q6 1 (c0.to_.row - c0.frm.row)::(bif decide (c0.to_.row - c0.frm.row≤4) then [P5 5 (c0.to_.row - c0.frm.row)] else []):=a
  rcases List.mem_cons.1 a with a | a
  ·exact .inr (.inr (.inl ⟨a,h⟩))
  ·cases hd:decide (c0.to_.row - c0.frm.row≤4) with
   | true=>rw [hd] at a;exact .inr (.inr (.inr ⟨List.mem_singleton.1 a,h⟩))
   | false=>rw [hd] at a;cases a
 ·rw [decide_eq_true (show c0.to_.row - c0.frm.row=0 by omega)] at a
  exact .inl ⟨List.mem_singleton.1 a,h⟩
 ·rw [decide_eq_false (show ¬ c0.to_.row - c0.frm.row=0 by omega),decide_eq_true (show c0.to_.row - c0.frm.row<0 by omega),show -(c0.to_.row - c0.frm.row)=c0.frm.row - c0.to_.row by omega] at a
  exact .inr (.inl ⟨List.mem_singleton.1 a,h⟩)
theorem B6k {α:Type} {x y:α} {l:List α} (h:x ∈ l++[y]):x ∈ l∨x=y:=by
 rcases List.mem_append.1 h with h | h
 ·exact .inl h
 ·exact .inr (List.mem_singleton.1 h)
def D7f (p:Pth) (e:List Act):Prop :=
 (e=[]∧p.frm.col=p.to_.col)∨e=[{Act.zero with kind:=22,n:=p.to_.col+1}]∨(e=Q6 2 (p.to_.col - p.frm.col)∧p.frm.col<p.to_.col)∨(e=Q6 3 (-(p.to_.col - p.frm.col))∧p.to_.col<p.frm.col) ∨
  (e=P5 3 (-(p.to_.col - p.frm.col))∧p.to_.col<p.frm.col)∨(e=P5 6 1∧p.to_.col=0)∨(e=P5 6 1++Q6 2 p.to_.col∧p.to_.col≠0)
theorem E0m {p:Pth} {b:List (List Act)} (h:∀ e ∈ b,D7f p e):∀ e ∈ I4 p b,D7f p e:=by
 unfold I4;simp only [B6]
 cases hq:decide (p.to_.col=0) with
 | true=>intro e a;rcases B6k a with a | a;exact h e a;exact .inr (.inr (.inr (.inr (.inr (.inl ⟨a,of_decide_eq_true hq⟩)))))
 | false=>intro e a;rcases B6k a with a | a;exact h e a;exact .inr (.inr (.inr (.inr (.inr (.inr ⟨a,of_decide_eq_false hq⟩)))))
theorem E7w {p:Pth} {b:List (List Act)} (h:∀ e ∈ b,D7f p e):∀ e ∈ I6 p b,D7f p e:=by
 unfold I6 K6;simp only [B6]
 cases hq:decide ((p.to_.col - p.frm.col)<0) with
 | true =>
  have c:p.to_.col<p.frm.col:=by have:=of_decide_eq_true hq;omega
  have d:∀ e ∈ b++[Q6 3 (-(p.to_.col - p.frm.col))],D7f p e:=fun e a=>by
   rcases B6k a with a | a
   ·exact h e a
   ·exact .inr (.inr (.inr (.inl ⟨a,c⟩)))
  cases decide ((-(p.to_.col - p.frm.col))≤4) with
  | true=>exact E0m (fun e a=>by
    rcases B6k a with a | a
    ·exact d e a
    ·exact .inr (.inr (.inr (.inr (.inl ⟨a,c⟩)))))
  | false=>exact E0m d
 | false=>exact E0m h
theorem E3g {p:Pth}:∀ e ∈ I9 p,D7f p e:=by
 have d:∀ {b:List (List Act)},(∀ e ∈ b,D7f p e)→∀ e ∈ K5 p b,D7f p e:=fun {b} h=>by
  have c:∀ e ∈ b++[[{Act.zero with kind:=22,n:=p.to_.col+1}]],D7f p e:=fun e a=>by
   rcases B6k a with a | a
   ·exact h e a
   ·exact .inr (.inl a)
  unfold K5;simp only [B6]
  cases hq:decide ((0:Int)<(p.to_.col - p.frm.col)) with
  | true=>exact E7w (fun e a=>by
    rcases B6k a with a | a
    ·exact c e a
    ·exact .inr (.inr (.inl ⟨a,by have:=of_decide_eq_true hq;omega⟩)))
  | false=>exact E7w c
 unfold I9
 cases hq:decide ((p.to_.col - p.frm.col)=0) with
 | true=>exact d (fun e a=>by rw [show e=[] from List.mem_singleton.1 a];exact .inl ⟨rfl,by have:=of_decide_eq_true hq;omega⟩)
 | false=>exact d (fun e a=>by cases a)
theorem E3w (c0:Pth) (c:List Act) (ag:List (List Act)) (Q:List Act→Prop) (d:∀ e ∈ ag,Q e):∀ (A:List (List Act)) (t:Nat),(∀ a ∈ A,(c++a≠[]∨c0.frm.wrap=false)→Q (c++a))→∀ e ∈ G8 c0 c ag A t,Q e
 | [],_,_=>d
 | a::A,t,h=>by
  have hr:=E3w c0 c ag Q d A (t+1) (fun x i=>h x (List.mem_cons_of_mem _ i))
  rw [G8]
  cases b:((decide (((c++a).length:Int)=0))&&c0.frm.wrap) with
  | true=>exact hr
  | false =>
   intro e f
   rcases List.mem_cons.1 f with rfl | f
   ·refine h a (List.mem_cons_self ..) ?_
    rcases Bool.and_eq_false_iff.1 b with b | b
    ·left;intro g;rw [g] at b;cases b
    ·exact .inr b
   ·exact hr e f
theorem D6w (c0:Pth) (Q:List Act→Prop) (b:Q [{Act.zero with kind:=19,n:=c0.to_.row+1,m:=c0.to_.col+1}]):∀ (l:List (List Act)),(∀ d ∈ l,∀ a ∈ I9 c0,(d++a≠[]∨c0.frm.wrap=false)→Q (d++a))→∀ e ∈ E9 c0 l,Q e
 | [],_=>fun e c=>by rw [show e=_ from List.mem_singleton.1 c];exact b
 | d::l,h=>by
  rw [E9];simp only [B6]
  exact E3w c0 d _ Q (D6w c0 Q b l (fun x f=>h x (List.mem_cons_of_mem _ f))) _ 0 (h d (List.mem_cons_self ..))
theorem E7q (c0:Pth):∀ (l:List (List Act)),0<(E9 c0 l).length
 | []=>Nat.one_pos
 | d::l=>by
  have h:∀ (A:List (List Act)) (t:Nat),0<(G8 c0 d (E9 c0 l) A t).length:=fun A=>by
   induction A with
   | nil=>exact fun t=>E7q c0 l
   | cons a A ih =>
    intro t
    rw [G8]
    cases ((decide (((d++a).length:Int)=0))&&c0.frm.wrap) with
    | true=>exact ih _
    | false=>exact Nat.succ_pos _
  rw [E9];simp only [B6];exact h _ _
theorem D7m:SlTy Tryz.prog 245 71 2:=⟨by kernel_rfl,by kernel_rfl⟩
theorem F5h:Zero Tryz.prog 5 [.int .u8 0]:=⟨by kernel_rfl⟩
def A2f (c:Col):Int :=
 (bif (decide (c.kind=0)) then (bif (decide (c.n=0)) then 0 else 130) else (bif (decide (c.kind=1)) then (bif ((decide ((0:Int)≤c.n))&&(decide (c.n≤255))) then 0 else 130) else (bif (decide (c.kind=2)) then (bif ((decide ((0:Int)≤c.n))&&(decide (c.n≤16777215))) then 0 else 130) else 130)))
theorem B6e {c:Col} {R:Int} (hR:A2f c=R):J5 Tryz.prog 89 [ag (U2 c)] [] (iv R):=by
 refine cC Tryz.func89 fun X hX hr hD=>?_
 replace hR:=(A2f.eq_1 ..).symm.trans hR
 refine bS rfl (zra 2 [] (fun a=>[(1,pt a 0)]) (fun _=>(U2 c)) 52 fun a=>?_)
 refine ie (A3 (bS rfl (cF 2 [0] 4 rfl ?_)))
 refine ie (A9 (bS rfl (bP 2 5 rfl ?_)))
 refine ie ?_
 refine zjd rfl hR ?_ ?_<;>clear hR<;>intro hR m f
 ·refine bS rfl (cF 3 [0] 9 rfl ?_)
  refine ie ?_
  refine zjd rfl hR ?_ ?_<;>clear hR<;>intro hR o i
  ·refine bS rfl (bP 1 2 rfl ?_)
   subst hR
   refine ie (A8 ?_)
   exact F7 hr hD
  refine A4 (nx (bS rfl (bP 1 2 rfl ?_)))
  subst hR
  refine ie (A8 ?_)
  exact F7 hr hD
 refine bS rfl (bP 2 10 rfl ?_)
 refine ie ?_
 refine zjd rfl hR ?_ ?_<;>clear hR<;>intro hR r j
 ·refine bS rfl (cF 4 [0] 15 rfl ?_)
  refine zid 4 0 15 19 (decide (c.n≤255)) (fun h k=>?_) ?_
  ·refine cF 4 [0] 19 rfl ?_
   exact A2 (J0 2 15 _ h A7.nil bU rfl rfl rfl rfl rfl)
  refine ie ?_
  refine zja rfl hR ?_ ?_<;>clear hR<;>intro hR p d
  ·refine bS rfl (bP 1 2 rfl ?_)
   subst hR
   refine ie (A8 ?_)
   exact F7 hr hD
  refine A4 (nx (bS rfl (bP 1 2 rfl ?_)))
  subst hR
  refine ie (A8 ?_)
  exact F7 hr hD
 refine bS rfl (bP 2 20 rfl ?_)
 refine ie ?_
 refine zjd rfl hR ?_ ?_<;>clear hR<;>intro hR s e
 ·refine bS rfl (cF 4 [0] 25 rfl ?_)
  refine zid 4 0 25 29 (decide (c.n≤16777215)) (fun l b=>?_) ?_
  ·refine cF 4 [0] 29 rfl ?_
   exact A2 (J0 2 25 _ l A7.nil bU rfl rfl rfl rfl rfl)
  refine ie ?_
  refine zja rfl hR ?_ ?_<;>clear hR<;>intro hR q g
  ·refine bS rfl (bP 1 2 rfl ?_)
   subst hR
   refine ie (A8 ?_)
   exact F7 hr hD
  refine A4 (nx (bS rfl (bP 1 2 rfl ?_)))
  subst hR
  refine ie (A8 ?_)
  exact F7 hr hD
 refine A4 (nx (bS rfl (bP 1 2 rfl ?_)))
 subst hR
 refine ie (A8 ?_)
 exact F7 hr hD
def A9k (s:Sty):Int :=
 (bif ((((decide (s.attr<0))||(decide ((255:Int)<s.attr)))||(decide (s.under<0)))||(decide ((5:Int)<s.under))) then 140 else (bif (!decide ((A2f s.fore)=0)) then (A2f s.fore) else (bif (!decide ((A2f s.back)=0)) then (A2f s.back) else (bif (!decide ((A2f s.line)=0)) then (A2f s.line) else 0))))
theorem D3k {s:Sty} {R:Int} (hR:A9k s=R):J5 Tryz.prog 126 [ag (D6 s)] [] (iv R):=by
 refine cC Tryz.func126 fun X hX hr hD=>?_
 replace hR:=(A9k.eq_1 ..).symm.trans hR
 refine bS rfl (zra 2 [] (fun e=>[(1,pt e 0)]) (fun _=>(D6 s)) 65 fun e=>?_)
 refine ie (A3 (bS rfl (cF 4 [0] 9 rfl ?_)))
 refine zir 4 10 9 13 (decide (255<s.attr)) (fun o k=>?_) ?_
 ·refine cF 4 [0] 13 rfl ?_
  exact A2 (J0 2 9 _ o A7.nil bU rfl rfl rfl rfl rfl)
 refine bP 1 14 rfl ?_
 refine zio 4 5 14 18 (decide (s.under<0)) (fun j=>?_) ?_
 ·have q:=bV j
  refine cF 4 [0] 18 rfl ?_
  exact A2 (J0 2 14 _ j A7.nil bU rfl rfl rfl rfl rfl)
 refine bP 1 19 rfl ?_
 refine zio 4 0 19 23 (decide (5<s.under)) (fun d=>?_) ?_
 ·have l:=bV d
  refine cF 4 [0] 23 rfl ?_
  exact A2 (J0 2 19 _ d A7.nil bU rfl rfl rfl rfl rfl)
 refine ie ?_
 refine zjb rfl hR ?_ ?_<;>clear hR<;>intro hR h
 ·have b:=bV h
  refine bS rfl (bP 1 2 rfl ?_)
  subst hR
  refine ie (A8 ?_)
  exact F7 hr hD
 refine A4 (nx (A3 (bS rfl (c9 8 0 [0,0,0] [(30,ag [iv s.fore.kind,iv s.fore.n,iv s.back.kind,iv s.back.n,iv s.line.kind,iv s.line.n]),(31,iv 0)] ?_))))
 refine ie (A9 (Y9 5 ?_))
 refine E7 (bS rfl (bP 1 32 rfl ?_))
 refine ie (A3 (J4 rfl (A4 (nx (A3 (A9 (bS rfl (ix rfl (E8 (v:=ag [_,_]) Tryz.underlying256 B9a rfl rfl rfl 0 rfl ozw rfl rfl rfl) ?_))))))))
 refine zra 2 [0] (fun g=>[(4,pt g 0)]) (fun _=>(U2 s.fore)) 52 fun g=>?_
 refine ie (bS rfl (c9 1 2 [0] [(34,ag (U2 s.fore))] ?_))
 refine zv rfl (B6e rfl) ?_
 refine bP 1 5 rfl ?_
 refine ie (bS rfl (bP 2 37 rfl ?_))
 refine ie ?_
 refine zjn rfl hR ?_ ?_<;>clear hR<;>intro hR u m
 ·refine bS rfl (bP 2 2 rfl ?_)
  subst hR
  refine ie (A8 ?_)
  exact F7 hr hD
 refine A4 (nx (A1 2 rfl (ix rfl (B3 (c:=1) rfl rfl rfl rfl ozw) ?_)))
 refine bP 1 31 rfl ?_
 refine A2 (E7 (bS rfl (bP 1 32 rfl ?_)))
 refine ie (A3 (J4 rfl (A4 (nx (A3 (A9 (bS rfl (ix rfl (E8 (v:=ag [_,_]) Tryz.underlying256 B9a rfl rfl rfl 1 rfl ozw rfl rfl rfl) ?_))))))))
 refine zra 2 [0] (fun i=>[(4,pt i 0)]) (fun _=>(U2 s.back)) 52 fun i=>?_
 refine ie (bS rfl (c9 1 2 [0] [(34,ag (U2 s.back))] ?_))
 refine zv rfl (B6e rfl) ?_
 refine bP 1 5 rfl ?_
 refine ie (bS rfl (bP 2 37 rfl ?_))
 refine ie ?_
 refine zjn rfl hR ?_ ?_<;>clear hR<;>intro hR t p
 ·refine bS rfl (bP 2 2 rfl ?_)
  subst hR
  refine ie (A8 ?_)
  exact F7 hr hD
 refine A4 (nx (A1 2 rfl (ix rfl (B3 (c:=2) rfl rfl rfl rfl ozw) ?_)))
 refine bP 1 31 rfl ?_
 refine A2 (E7 (bS rfl (bP 1 32 rfl ?_)))
 refine ie (A3 (J4 rfl (A4 (nx (A3 (A9 (bS rfl (ix rfl (E8 (v:=ag [_,_]) Tryz.underlying256 B9a rfl rfl rfl 2 rfl ozw rfl rfl rfl) ?_))))))))
 refine zra 2 [0] (fun a=>[(4,pt a 0)]) (fun _=>(U2 s.line)) 52 fun a=>?_
 refine ie (bS rfl (c9 1 2 [0] [(34,ag (U2 s.line))] ?_))
 refine zv rfl (B6e rfl) ?_
 refine bP 1 5 rfl ?_
 refine ie (bS rfl (bP 2 37 rfl ?_))
 refine ie ?_
 refine zjn rfl hR ?_ ?_<;>clear hR<;>intro hR r f
 ·refine bS rfl (bP 2 2 rfl ?_)
  subst hR
  refine ie (A8 ?_)
  exact F7 hr hD
 refine A4 (nx (A1 2 rfl (ix rfl (B3 (c:=3) rfl rfl rfl rfl ozw) ?_)))
 refine bP 1 31 rfl ?_
 refine A2 (E7 (bS rfl (bP 1 32 rfl ?_)))
 refine ie (A3 (A4r rfl (F4 (nx (bS rfl (bP 1 2 rfl ?_))))))
 subst hR
 refine ie (A8 ?_)
 exact F7 hr hD
def A7g (c:Cel):Bool :=
 (((decide (c.base=0))&&(decide (c.marks=Ar2.zero)))&&(decide (c.wide=2)))
theorem C9e {c:Cel} {R:Bool} (hR:A7g c=R):J5 Tryz.prog 127 [ag (D8 c)] [] (bv R):=by
 refine cC Tryz.func127 fun X hX hr hD=>?_
 replace hR:=(A7g.eq_1 ..).symm.trans hR
 refine bS rfl (zra 2 [] (fun d=>[(1,pt d 0)]) (fun _=>(D8 c)) 73 fun d=>?_)
 refine ie (bS rfl (cF 4 [0] 6 rfl ?_))
 refine zid 5 6 6 11 (decide (c.marks=Ar2.zero)) (fun f h=>?_) ?_
 ·refine c9 3 2 [0] [(8,ag (A0r c.marks)),(9,ag (A0r Ar2.zero))] ?_
  refine ix rfl (A9u F0x rfl rfl rfl) ?_
  refine bP 1 11 rfl ?_
  exact A2 (J0 5 6 _ f A7.nil bU rfl rfl rfl rfl rfl)
 refine bP 1 12 rfl ?_
 refine zia 4 1 12 16 (decide (c.wide=2)) (fun e=>?_) ?_
 ·have g:=bV e
  refine cF 4 [0] 16 rfl ?_
  exact A2 (J0 2 12 _ e A7.nil bU rfl rfl rfl rfl rfl)
 refine bP 1 2 rfl ?_
 subst hR
 refine ie (A8 ?_)
 exact F7 hr hD
def A0e (cp:Int):Bool :=
 (((decide ((0:Int)≤cp))&&(decide (cp≤1114111)))&&((decide (cp<55296))||(decide ((57343:Int)<cp))))
theorem C1m {cp:Int} {R:Bool} (hR:A0e cp=R):J5 Tryz.prog 132 [iv cp] [] (bv R):=by
 refine cC Tryz.func132 fun X hX hr hD=>?_
 replace hR:=(A0e.eq_1 ..).symm.trans hR
 refine bS rfl (pp0 1 rfl ?_)
 refine ie (bS rfl (bP 3 5 rfl ?_))
 refine zid 3 9 5 8 (decide (cp≤1114111)) (fun d b=>?_) ?_
 ·refine bP 3 8 rfl ?_
  exact A2 (J0 2 5 8 d A7.nil bU rfl rfl rfl rfl rfl)
 refine bP 1 9 rfl ?_
 refine zia 7 1 9 16 ((decide (cp<55296))||(decide (57343<cp))) (fun a=>?_) ?_
 ·have e:=bV a
  refine bP 3 12 rfl ?_
  refine zir 3 1 12 15 (decide (57343<cp)) (fun f c=>?_) ?_
  ·refine bP 3 15 rfl ?_
   exact A2 (J0 2 12 _ f A7.nil bU rfl rfl rfl rfl rfl)
  refine bP 1 16 rfl ?_
  exact A2 (J0 4 9 _ a A7.nil bU rfl rfl rfl rfl rfl)
 refine bP 1 2 rfl ?_
 subst hR
 refine ie (A8 ?_)
 exact F7 hr hD
def B1i:List Ar2 :=
 ([(⟨768,879⟩:Ar2),(⟨1155,1161⟩:Ar2),(⟨1425,1469⟩:Ar2),(⟨1552,1562⟩:Ar2),(⟨1611,1631⟩:Ar2),(⟨6832,6911⟩:Ar2),(⟨7616,7679⟩:Ar2),(⟨8203,8207⟩:Ar2),(⟨8400,8447⟩:Ar2),(⟨65024,65039⟩:Ar2),(⟨65056,65071⟩:Ar2)]:List Ar2)
theorem D7d {R:List Ar2} (hR:B1i=R):Con Tryz.prog 134 [] [] [] ({t:Option Addr×Nat // R.length≤t.2∧R.length≤9223372036854775807}) (fun x=>.slice x.1.1 R.length x.1.2) (fun x=>[]) (fun x=>[sl A0r x.1.1 R]):=by
 refine cC Tryz.func134 fun X hX hr hD=>?_
 replace hR:=(B1i.eq_1 ..).symm.trans hR
 refine bS rfl (pp0 1 rfl ?_)
 refine ie (bS rfl (c9 11 2 [] [(1,ag (A0r ⟨768,879⟩)),(2,ag (A0r ⟨1155,1161⟩)),(3,ag (A0r ⟨1425,1469⟩)),(4,ag (A0r ⟨1552,1562⟩)),(5,ag (A0r ⟨1611,1631⟩)),(6,ag (A0r ⟨6832,6911⟩)),(7,ag (A0r ⟨7616,7679⟩)),(8,ag (A0r ⟨8203,8207⟩)),(9,ag (A0r ⟨8400,8447⟩)),(10,ag (A0r ⟨65024,65039⟩)),(11,ag (A0r ⟨65056,65071⟩))] ?_))
 refine it rfl (B1 (c:=A0r) (xs:=[(⟨768,879⟩:Ar2),(⟨1155,1161⟩:Ar2),(⟨1425,1469⟩:Ar2),(⟨1552,1562⟩:Ar2),(⟨1611,1631⟩:Ar2),(⟨6832,6911⟩:Ar2),(⟨7616,7679⟩:Ar2),(⟨8203,8207⟩:Ar2),(⟨8400,8447⟩:Ar2),(⟨65024,65039⟩:Ar2),(⟨65056,65071⟩:Ar2)]) D7m rfl rfl rfl oki) fun a=>?_
 have:([(⟨768,879⟩:Ar2),(⟨1155,1161⟩:Ar2),(⟨1425,1469⟩:Ar2),(⟨1552,1562⟩:Ar2),(⟨1611,1631⟩:Ar2),(⟨6832,6911⟩:Ar2),(⟨7616,7679⟩:Ar2),(⟨8203,8207⟩:Ar2),(⟨8400,8447⟩:Ar2),(⟨65024,65039⟩:Ar2),(⟨65056,65071⟩:Ar2)]:List Ar2).length=11:=rfl
 refine bP 1 0 rfl ?_
 subst hR
 refine ie (A8 ?_)
 exact cD hr hD (K7 rfl (A6 rfl)) (zq _ 11) bU cB
def A6y (cp:Int):List Ar2→Nat→Bool
 | [],i=>false
 | hd_l0::tl_l0,i=>(bif ((decide (hd_l0.a≤cp))&&(decide (cp≤hd_l0.b))) then true else A6y cp tl_l0 (i+1))
def A5n (l:List Ar2) (cp:Int):Bool :=
 A6y cp l 0
theorem C8u {l:List Ar2} {cp:Int} {lq:Option Addr} {lk:Nat} {R:Bool} (hR:A5n l cp=R) (g:l.length≤9223372036854775807:=by exact bW) (k:l.length≤lk:=by exact bW):J5 Tryz.prog 133 [.slice lq l.length lk,iv cp] [sl A0r lq l] (bv R):=by
 refine cC Tryz.func133 fun X hX hr hD=>?_
 replace hR:=(A5n.eq_1 ..).symm.trans hR
 refine bS rfl (pp0 1 rfl ?_)
 refine ie (A3 (bS rfl (bP 1 5 rfl ?_)))
 refine ie (A9 (A3q (fun i=>(i≤l.length∧A6y _ (l.drop i) i=R,[(0,_),(1,_),(5,iv i)],_,_,l.length - i)) 0 ⟨opx,hR⟩ bU A7.refl ?_))
 rintro i ⟨n,hR⟩
 refine A3 (bS rfl (bP 4 9 rfl ?_))
 refine ie (G4 rfl (fun f=>?_) (fun f=>?_))
 ·have e:=bV f
  rw [A1b Ar2.zero (show i<l.length by omega)] at hR;replace hR:=(A6y.eq_2 ..).symm.trans hR
  refine A4 (nx (A3 (A9 (bS rfl (pp3 3 12 13 14 rfl ?_)))))
  refine K8 0 rfl opx fun p d=>?_
  refine ix rfl (F8 D7m rfl rfl d rfl i rfl opx) ?_
  refine ix rfl (B8f Tryz.underlying71 cH rfl rfl rfl 0 rfl ozw) ?_
  refine ix rfl (C9 cH rfl rfl (X7 (H2 (sz:=2) d (fun _=>rfl) 0 rfl (gd _ opx)) (ws:=[iv ((l.getD i Ar2.zero).a)]) 0 1 rfl) rfl) ?_
  refine bP 2 19 rfl ?_
  refine zid 8 0 19 27 (decide (cp≤(l.getD i Ar2.zero).b)) (fun j m=>?_) ?_
  ·refine pp3 3 20 21 22 rfl ?_
   refine ix rfl (F8 D7m rfl rfl d rfl i rfl opx) ?_
   refine ix rfl (B8f Tryz.underlying71 cH rfl rfl rfl 1 rfl ozw) ?_
   refine ix rfl (C9 cH rfl rfl (X7 (H2 (sz:=2) d (fun _=>rfl) 0 rfl (gd _ opx)) (ws:=[iv ((l.getD i Ar2.zero).b)]) 1 1 rfl) rfl) ?_
   refine bP 2 27 rfl ?_
   exact zai 8 19 _ j
  refine ie ?_
  refine zja rfl hR ?_ ?_<;>clear hR<;>intro hR o h
  ·refine bS rfl (bP 1 4 rfl ?_)
   subst hR
   refine ie (A8 ?_)
   exact F7 hr hD
  refine A4 (nx (A1 3 rfl (bP 1 10 rfl ?_)))
  refine ix rfl (B3 rfl rfl rfl rfl opx) ?_
  refine bP 1 5 rfl ?_
  refine A2 ?_
  exact A2g _ ⟨opx,hR⟩ olr bU A7.refl
 have e:=bV f
 rw [A1d e] at hR;replace hR:=(A6y.eq_1 ..).symm.trans hR
 refine F4 (nx (bS rfl (bP 1 4 rfl ?_)))
 subst hR
 refine ie (A8 ?_)
 exact F7 hr hD
def B1g:List Ar2 :=
 ([(⟨4352,4447⟩:Ar2),(⟨11904,12350⟩:Ar2),(⟨12353,13311⟩:Ar2),(⟨13312,19903⟩:Ar2),(⟨19968,40959⟩:Ar2),(⟨40960,42191⟩:Ar2),(⟨44032,55203⟩:Ar2),(⟨63744,64255⟩:Ar2),(⟨65072,65135⟩:Ar2),(⟨65280,65376⟩:Ar2),(⟨65504,65510⟩:Ar2),(⟨127744,128591⟩:Ar2),(⟨128640,128767⟩:Ar2),(⟨129280,129535⟩:Ar2),(⟨131072,262141⟩:Ar2)]:List Ar2)
theorem D9y {R:List Ar2} (hR:B1g=R):Con Tryz.prog 135 [] [] [] ({t:Option Addr×Nat // R.length≤t.2∧R.length≤9223372036854775807}) (fun x=>.slice x.1.1 R.length x.1.2) (fun x=>[]) (fun x=>[sl A0r x.1.1 R]):=by
 refine cC Tryz.func135 fun X hX hr hD=>?_
 replace hR:=(B1g.eq_1 ..).symm.trans hR
 refine bS rfl (pp0 1 rfl ?_)
 refine ie (bS rfl (c9 15 2 [] [(1,ag (A0r ⟨4352,4447⟩)),(2,ag (A0r ⟨11904,12350⟩)),(3,ag (A0r ⟨12353,13311⟩)),(4,ag (A0r ⟨13312,19903⟩)),(5,ag (A0r ⟨19968,40959⟩)),(6,ag (A0r ⟨40960,42191⟩)),(7,ag (A0r ⟨44032,55203⟩)),(8,ag (A0r ⟨63744,64255⟩)),(9,ag (A0r ⟨65072,65135⟩)),(10,ag (A0r ⟨65280,65376⟩)),(11,ag (A0r ⟨65504,65510⟩)),(12,ag (A0r ⟨127744,128591⟩)),(13,ag (A0r ⟨128640,128767⟩)),(14,ag (A0r ⟨129280,129535⟩)),(15,ag (A0r ⟨131072,262141⟩))] ?_))
 refine it rfl (B1 (c:=A0r) (xs:=[(⟨4352,4447⟩:Ar2),(⟨11904,12350⟩:Ar2),(⟨12353,13311⟩:Ar2),(⟨13312,19903⟩:Ar2),(⟨19968,40959⟩:Ar2),(⟨40960,42191⟩:Ar2),(⟨44032,55203⟩:Ar2),(⟨63744,64255⟩:Ar2),(⟨65072,65135⟩:Ar2),(⟨65280,65376⟩:Ar2),(⟨65504,65510⟩:Ar2),(⟨127744,128591⟩:Ar2),(⟨128640,128767⟩:Ar2),(⟨129280,129535⟩:Ar2),(⟨131072,262141⟩:Ar2)]) D7m rfl rfl rfl oki) fun a=>?_
 have:([(⟨4352,4447⟩:Ar2),(⟨11904,12350⟩:Ar2),(⟨12353,13311⟩:Ar2),(⟨13312,19903⟩:Ar2),(⟨19968,40959⟩:Ar2),(⟨40960,42191⟩:Ar2),(⟨44032,55203⟩:Ar2),(⟨63744,64255⟩:Ar2),(⟨65072,65135⟩:Ar2),(⟨65280,65376⟩:Ar2),(⟨65504,65510⟩:Ar2),(⟨127744,128591⟩:Ar2),(⟨128640,128767⟩:Ar2),(⟨129280,129535⟩:Ar2),(⟨131072,262141⟩:Ar2)]:List Ar2).length=15:=rfl
 refine bP 1 0 rfl ?_
 subst hR
 refine ie (A8 ?_)
 exact cD hr hD (K7 rfl (A6 rfl)) (zq _ 15) bU cB
def W5 (cp:Int):Int :=
 (bif (((!(A0e cp))||(decide (cp<32)))||((decide ((127:Int)≤cp))&&(decide (cp<160)))) then (-1) else (B6 B1i fun (a:List Ar2)=>(bif (A5n a cp) then 0 else (B6 B1g fun (b:List Ar2)=>(bif (A5n b cp) then 2 else 1)))))
theorem C2t {cp R:Int} (hR:W5 cp=R):J5 Tryz.prog 94 [iv cp] [] (iv R):=by
 refine cC Tryz.func94 fun X hX hr hD=>?_
 replace hR:=(W5.eq_1 ..).symm.trans hR
 refine bS rfl (pp0 1 rfl ?_)
 refine ie (A3 (bS rfl (bP 1 3 rfl ?_)))
 refine zv rfl (C1m rfl) ?_
 refine bP 2 6 rfl ?_
 refine zio 3 8 6 9 (decide (cp<32)) (fun m=>?_) ?_
 ·refine bP 3 9 rfl ?_
  exact A2 (J0 2 6 9 m A7.nil bU rfl rfl rfl rfl rfl)
 refine bP 1 10 rfl ?_
 refine zio 7 0 10 17 ((decide (127≤cp))&&(decide (cp<160))) (fun i=>?_) ?_
 ·have n:=bV i
  refine bP 3 13 rfl ?_
  refine zid 3 1 13 16 (decide (cp<160)) (fun v s=>?_) ?_
  ·refine bP 3 16 rfl ?_
   exact A2 (J0 2 13 _ v A7.nil bU rfl rfl rfl rfl rfl)
  refine bP 1 17 rfl ?_
  exact A2 (J0 4 10 _ i A7.nil bU rfl rfl rfl rfl rfl)
 refine ie ?_
 refine zjb rfl hR ?_ ?_<;>clear hR<;>intro hR k
 ·have h:=bV k
  refine bS rfl (bP 1 2 rfl ?_)
  subst hR
  refine ie (A8 ?_)
  exact F7 hr hD
 refine A4 (nx (A3 (bS rfl ?_)))
 have g:=C4 hR;clear hR;obtain ⟨c,a,hR⟩:=g
 refine zc rfl (D7d a) fun ⟨⟨w,k6⟩,f⟩=>?_
 obtain ⟨q,p⟩:=f
 refine bP 1 19 rfl ?_
 refine zv rfl (C8u rfl) ?_
 refine ie ?_
 refine zjb rfl hR ?_ ?_<;>clear hR<;>intro hR t
 ·refine bS rfl (bP 1 2 rfl ?_)
  subst hR
  refine ie (A8 ?_)
  exact F7 hr hD
 refine A4 (nx (A3 (bS rfl ?_)))
 have g:=C4 hR;clear hR;obtain ⟨d,b,hR⟩:=g
 refine zc rfl (D9y b) fun ⟨⟨o,r⟩,e⟩=>?_
 obtain ⟨j,l⟩:=e
 refine bP 1 22 rfl ?_
 refine zv rfl (C8u rfl) ?_
 refine ie ?_
 refine zjb rfl hR ?_ ?_<;>clear hR<;>intro hR u
 ·refine bS rfl (bP 1 2 rfl ?_)
  subst hR
  refine ie (A8 ?_)
  exact F7 hr hD
 refine A4 (nx (bS rfl (bP 1 2 rfl ?_)))
 subst hR
 refine ie (A8 ?_)
 exact F7 hr hD
def A2z (c:Cel):Int :=
 (bif (!decide ((A9k c.sty)=0)) then 221 else (bif (A7g c) then 0 else (bif ((!decide (c.marks.a=0))&&((!decide ((W5 c.marks.a)=0))||false)) then 221 else (bif ((!decide (c.marks.b=0))&&((!decide ((W5 c.marks.b)=0))||(decide (c.marks.a=0)))) then 221 else (bif (((decide ((W5 c.base)=1))&&(decide (c.wide=0)))||((decide ((W5 c.base)=2))&&(decide (c.wide=1)))) then 0 else 221)))))
theorem C4a {c:Cel} {R:Int} (hR:A2z c=R):J5 Tryz.prog 87 [ag (D8 c)] [] (iv R):=by
 refine cC Tryz.func87 fun X hX hr hD=>?_
 replace hR:=(A2z.eq_1 ..).symm.trans hR
 refine bS rfl (zra 2 [] (fun l=>[(1,pt l 0)]) (fun _=>(D8 c)) 73 fun l=>?_)
 refine ie (A3 (bS rfl (c9 2 2 [0] [(6,ag (D6 c.sty))] ?_)))
 refine zv rfl (D3k rfl) ?_
 refine bP 1 8 rfl ?_
 refine ie ?_
 refine zjn rfl hR ?_ ?_<;>clear hR<;>intro hR z x
 ·refine bS rfl (bP 1 2 rfl ?_)
  subst hR
  refine ie (A8 ?_)
  exact F7 hr hD
 refine A4 (nx (A3 (bS rfl (c9 1 1 [0] [(9,ag (D8 c))] ?_))))
 refine zv rfl (C9e rfl) ?_
 refine ie ?_
 refine zjb rfl hR ?_ ?_<;>clear hR<;>intro hR h3
 ·refine bS rfl (bP 1 2 rfl ?_)
  subst hR
  refine ie (A8 ?_)
  exact F7 hr hD
 refine A4 (nx (A3 (bS rfl (bP 1 3 rfl ?_))))
 refine ie (A9 (Y9 3 ?_))
 refine E7 (A3 (bS rfl (bP 2 12 rfl ?_)))
 refine ie (J4 rfl (A4 (nx (A3 (A9 (bS rfl (cG 2 15 16 rfl ?_)))))))
 refine ix rfl (B3q Tryz.underlying71 cH rfl rfl rfl 0 rfl rfl) ?_
 refine cF 3 [0] 20 rfl ?_
 refine zia 19 0 20 39 ((!decide ((W5 c.marks.a)=0))||false) (fun k=>?_) ?_
 ·have v:=bV k
  refine cG 2 21 22 rfl ?_
  refine ix rfl (B3q Tryz.underlying71 cH rfl rfl rfl 0 rfl rfl) ?_
  refine cF 1 [0] 24 rfl ?_
  refine zv rfl (C2t rfl) ?_
  refine bP 2 27 rfl ?_
  refine zio _ 1 27 38 false (fun o=>?_) ?_
  ·have y:=bV o
   refine bP 11 38 rfl ?_
   exact A2 (J0 2 27 _ o A7.nil bU rfl rfl rfl rfl rfl)
  refine bP 1 39 rfl ?_
  exact A2 (J0 9 20 _ k A7.nil bU rfl rfl rfl rfl rfl)
 refine ie ?_
 refine zjb rfl hR ?_ ?_<;>clear hR<;>intro hR n
 ·have g:=bV n
  refine bS rfl (bP 1 2 rfl ?_)
  subst hR
  refine ie (A8 ?_)
  exact F7 hr hD
 refine A4 (nx (A1 3 rfl (bP 1 13 rfl ?_)))
 refine ix rfl (B3 (c:=1) rfl rfl rfl rfl ozw) ?_
 refine bP 1 3 rfl ?_
 refine A2 (E7 (A3 (bS rfl (bP 2 12 rfl ?_))))
 refine ie (J4 rfl (A4 (nx (A3 (A9 (bS rfl (cG 2 15 16 rfl ?_)))))))
 refine ix rfl (B3q Tryz.underlying71 cH rfl rfl rfl 1 rfl rfl) ?_
 refine cF 3 [0] 20 rfl ?_
 refine zia 19 0 20 39 ((!decide ((W5 c.marks.b)=0))||(decide (c.marks.a=0))) (fun s=>?_) ?_
 ·have u:=bV s
  refine cG 2 21 22 rfl ?_
  refine ix rfl (B3q Tryz.underlying71 cH rfl rfl rfl 1 rfl rfl) ?_
  refine cF 1 [0] 24 rfl ?_
  refine zv rfl (C2t rfl) ?_
  refine bP 2 27 rfl ?_
  refine zio _ 1 27 38 (decide (c.marks.a=0)) (fun t=>?_) ?_
  ·have w:=bV t
   refine cG 4 30 31 rfl ?_
   refine ix rfl (M4 (c:=0) rfl rfl rfl rfl ozw) ?_
   refine bP 1 33 rfl ?_
   refine ix rfl (B3q Tryz.underlying71 cH rfl rfl rfl 0 rfl rfl) ?_
   refine cF 4 [0] 38 rfl ?_
   exact A2 (J0 7 27 _ t A7.nil bU rfl rfl rfl rfl rfl)
  refine bP 1 39 rfl ?_
  exact A2 (J0 9 20 _ s A7.nil bU rfl rfl rfl rfl rfl)
 refine ie ?_
 refine zjb rfl hR ?_ ?_<;>clear hR<;>intro hR p
 ·have i:=bV p
  refine bS rfl (bP 1 2 rfl ?_)
  subst hR
  refine ie (A8 ?_)
  exact F7 hr hD
 refine A4 (nx (A1 3 rfl (bP 1 13 rfl ?_)))
 refine ix rfl (B3 (c:=2) rfl rfl rfl rfl ozw) ?_
 refine bP 1 3 rfl ?_
 refine A2 (E7 (A3 (bS rfl (bP 2 12 rfl ?_))))
 refine ie (A4r rfl (F4 (nx (bS rfl (cF 2 [0] 41 rfl ?_)))))
 refine zv rfl (C2t rfl) ?_
 refine bP 1 4 rfl ?_
 refine ie (A3 (bS rfl (bP 3 45 rfl ?_)))
 refine zid 4 9 45 49 (decide (c.wide=0)) (fun j q=>?_) ?_
 ·refine cF 4 [0] 49 rfl ?_
  exact A2 (J0 2 45 _ j A7.nil bU rfl rfl rfl rfl rfl)
 refine bP 1 50 rfl ?_
 refine zio 8 0 50 58 ((decide ((W5 c.base)=2))&&(decide (c.wide=1))) (fun f=>?_) ?_
 ·have m:=bV f
  refine bP 3 53 rfl ?_
  refine zid 4 1 53 57 (decide (c.wide=1)) (fun h r=>?_) ?_
  ·refine cF 4 [0] 57 rfl ?_
   exact A2 (J0 2 53 _ h A7.nil bU rfl rfl rfl rfl rfl)
  refine bP 1 58 rfl ?_
  exact A2 (J0 4 50 _ f A7.nil bU rfl rfl rfl rfl rfl)
 refine ie ?_
 refine zjb rfl hR ?_ ?_<;>clear hR<;>intro hR d
 ·have e:=bV d
  refine bS rfl (bP 1 2 rfl ?_)
  subst hR
  refine ie (A8 ?_)
  exact F7 hr hD
 refine A4 (nx (bS rfl (bP 1 2 rfl ?_)))
 subst hR
 refine ie (A8 ?_)
 exact F7 hr hD
def A0z (bB:List Cel):List Cel→Nat→Int
 | [],i=>0
 | hd_l0::tl_l0,i=>(bif (!decide ((A2z hd_l0)=0)) then 220 else (bif (((!(((decide ((0:Int)<(i:Int)))&&(decide ((bB.getD (i - 1) Cel.zero).wide=1))) == (decide (hd_l0.wide=2))))||(((decide ((0:Int)<(i:Int)))&&(decide ((bB.getD (i - 1) Cel.zero).wide=1)))&&(!(decide (hd_l0.sty=(bB.getD (i - 1) Cel.zero).sty)))))||((decide (hd_l0.wide=1))&&(decide ((i:Int)=((bB.length:Int) - 1))))) then 220 else A0z bB tl_l0 (i+1)))
def B5h (bB:List Cel) (bC:Bool):Int :=
 (bif ((decide ((bB.length:Int)<2))||(decide ((80:Int)<(bB.length:Int)))) then 220 else A0z bB bB 0)
theorem D2y {bB:List Cel} {bC:Bool} {aY:Option Addr} {bA:Nat} {R:Int} (hR:B5h bB bC=R) (z:bB.length≤9223372036854775807:=by exact bW) (bG:bB.length≤bA:=by exact bW):J5 Tryz.prog 56 [ag [.slice aY bB.length bA,bv bC]] [sl D8 aY bB] (iv R):=by
 refine cC Tryz.func56 fun X hX hr hD=>?_
 replace hR:=(B5h.eq_1 ..).symm.trans hR
 refine bS rfl (zra 2 [] (fun l=>[(1,pt l 0)]) (fun _=>[.slice aY bB.length bA,bv bC]) 87 fun l=>?_)
 refine ie (bS rfl (cF 3 [0] 3 rfl ?_))
 refine ie (A3 (bS rfl (bP 4 11 rfl ?_)))
 refine zir 4 0 11 15 (decide (80<(bB.length:Int))) (fun v y=>?_) ?_
 ·refine bP 4 15 rfl ?_
  exact zai 2 11 _ v
 refine ie ?_
 refine zjo rfl hR ?_ ?_<;>clear hR<;>intro hR h3 w
 ·refine bS rfl (bP 1 2 rfl ?_)
  subst hR
  refine ie (A8 ?_)
  exact F7 hr hD
 refine A4 (nx (A3 (bS rfl (bP 1 4 rfl ?_))))
 refine ie (A9 (A3q (fun i=>(i≤bB.length∧A0z _ (bB.drop i) i=R,[(3,_),(4,iv i)],[_],_,bB.length - i)) 0 ⟨opx,hR⟩ bU A7.refl ?_))
 rintro i ⟨x,hR⟩
 refine A3 (bS rfl (bP 4 19 rfl ?_))
 refine ie (G4 rfl (fun m=>?_) (fun m=>?_))
 ·have g:=bV m
  rw [A1b Cel.zero (show i<bB.length by omega)] at hR;replace hR:=(A0z.eq_2 ..).symm.trans hR
  refine A4 (nx (A3 (A9 (A3 (bS rfl (cG 2 22 23 rfl ?_))))))
  refine K8 0 rfl opx fun a6 d=>?_
  refine ix rfl (F8 A1g rfl rfl d rfl i rfl opx) ?_
  refine ix rfl (K3 D2l rfl rfl (H2 (sz:=12) d (fun _=>rfl) 0 rfl (gd Cel.zero opx)) rfl) ?_
  refine zv rfl (C4a rfl) ?_
  refine bP 1 27 rfl ?_
  refine ie ?_
  refine zjn rfl hR ?_ ?_<;>clear hR<;>intro hR h8 u
  ·refine bS rfl (bP 1 2 rfl ?_)
   subst hR
   refine ie (A8 ?_)
   exact F7 hr hD
  refine A4 (nx (bS rfl (bP 3 30 rfl ?_)))
  refine zid 8 1 30 38 (decide ((bB.getD (i - 1) Cel.zero).wide=1)) (fun s t=>?_) ?_
  ·refine cG 2 31 32 rfl ?_
   refine ix rfl (M4 rfl rfl rfl rfl opx) ?_
   refine ix rfl (F8 A1g rfl rfl d rfl (i - 1) opx opx) ?_
   refine bP 1 35 rfl ?_
   refine ix rfl (C9 cH rfl rfl (X7 (H2 (sz:=12) d (fun _=>rfl) 0 rfl (gd _ opx)) (ws:=[iv ((bB.getD _ Cel.zero).wide)]) 3 1 rfl) rfl) ?_
   refine bP 2 38 rfl ?_
   exact zai 8 30 _ s
  refine bP 1 5 rfl ?_
  refine ie (sd 40 rfl oki rfl ?_)
  refine pd3 3 39 40 41 rfl ?_
  refine dd rfl (F8 A1g rfl rfl d rfl i rfl opx) ?_
  refine pd1 1 43 rfl ?_
  refine dd rfl (C9 cH rfl rfl (X7 (H2 (sz:=12) d (fun _=>rfl) 0 rfl (gd _ opx)) (ws:=[iv ((bB.getD i Cel.zero).wide)]) 3 1 rfl) rfl) ?_
  refine pd1 1 45 rfl ?_
  refine dd rfl (D6f Tryz.underlying4 rfl rfl rfl) ?_
  refine pd1 1 47 rfl ?_
  refine zdO _ 15 47 63 (((decide (0<(i:Int)))&&(decide ((bB.getD (i - 1) Cel.zero).wide=1)))&&(!(decide ((bB.getD i Cel.zero).sty=(bB.getD (i - 1) Cel.zero).sty)))) (fun k=>?_) ?_
  ·have q:=bV k
   refine pd1 2 49 rfl ?_
   refine zda _ 1 49 62 (!(decide ((bB.getD i Cel.zero).sty=(bB.getD (i - 1) Cel.zero).sty))) (fun f=>?_) ?_
   ·have o:=bV f
    refine pd2 2 50 51 rfl ?_
    refine dd rfl (F8 A1g rfl rfl d rfl i rfl opx) ?_
    refine pd1 1 53 rfl ?_
    refine dd rfl (K3 B4v rfl rfl (X7 (H2 (sz:=12) d (fun _=>rfl) 0 rfl (gd _ opx)) (ws:=D6 ((bB.getD i Cel.zero).sty)) 4 8 rfl) rfl) ?_
    refine pd2 2 55 56 rfl ?_
    refine dd rfl (M4 rfl rfl rfl rfl opx) ?_
    refine dd rfl (F8 A1g rfl rfl d rfl (i - 1) opx opx) ?_
    refine pd1 1 59 rfl ?_
    refine dd rfl (K3 B4v rfl rfl (X7 (H2 (sz:=12) d (fun _=>rfl) 0 rfl (gd _ opx)) (ws:=D6 ((bB.getD _ Cel.zero).sty)) 4 8 rfl) rfl) ?_
    refine dd rfl (Z3 E3u rfl rfl rfl) ?_
    refine pd1 1 62 rfl ?_
    exact zad 14 49 _ f
   refine pd1 1 63 rfl ?_
   exact zad 4 47 _ k
  refine pd1 1 64 rfl ?_
  refine zdO _ 0 64 78 ((decide ((bB.getD i Cel.zero).wide=1))&&(decide (i=((bB.length:Int) - 1)))) (fun j=>?_) ?_
  ·have r:=bV j
   refine pd2 2 65 66 rfl ?_
   refine dd rfl (F8 A1g rfl rfl d rfl i rfl opx) ?_
   refine pd1 1 68 rfl ?_
   refine dd rfl (C9 cH rfl rfl (X7 (H2 (sz:=12) d (fun _=>rfl) 0 rfl (gd _ opx)) (ws:=[iv ((bB.getD i Cel.zero).wide)]) 3 1 rfl) rfl) ?_
   refine pd1 2 71 rfl ?_
   refine zdd 6 1 71 77 (decide (i=((bB.length:Int) - 1))) (fun n p=>?_) ?_
   ·refine pd2 3 72 74 rfl ?_
    refine dd rfl (M4 rfl rfl rfl rfl opx) ?_
    refine pd1 2 77 rfl ?_
    exact zad 5 71 _ n
   refine pd1 1 78 rfl ?_
   exact zad 9 64 _ j
  refine de ?_
  refine zjb rfl hR ?_ ?_<;>clear hR<;>intro hR e
  ·have h:=bV e
   refine bS rfl (bP 1 2 rfl ?_)
   subst hR
   refine ie (A8 ?_)
   exact F7 hr hD
  refine A4 (nx (A1 3 rfl (bP 1 20 rfl ?_)))
  refine ix rfl (B3 rfl rfl rfl rfl opx) ?_
  refine bP 1 4 rfl ?_
  refine A2 ?_
  exact A2g _ ⟨opx,hR⟩ olr bU A7.refl
 have g:=bV m
 rw [A1d g] at hR;replace hR:=(A0z.eq_1 ..).symm.trans hR
 refine F4 (nx (bS rfl (bP 1 2 rfl ?_)))
 subst hR
 refine ie (A8 ?_)
 exact F7 hr hD
def A4w (bB:List Cel) (bC:Bool):Bool :=
 (decide ((B5h bB bC)=0))
theorem D2b {bB:List Cel} {bC:Bool} {aY:Option Addr} {bA:Nat} {R:Bool} (hR:A4w bB bC=R) (b:bB.length≤9223372036854775807:=by exact bW) (c:bB.length≤bA:=by exact bW):J5 Tryz.prog 32 [ag [.slice aY bB.length bA,bv bC]] [sl D8 aY bB] (bv R):=by
 refine cC Tryz.func32 fun X hX hr hD=>?_
 replace hR:=(A4w.eq_1 ..).symm.trans hR
 refine bS rfl (zra 2 [] (fun a=>[(1,pt a 0)]) (fun _=>[.slice aY bB.length bA,bv bC]) 87 fun a=>?_)
 refine ie (bS rfl (c9 1 3 [0] [(3,ag [.slice aY bB.length bA,bv bC])] ?_))
 refine zv rfl (D2y rfl) ?_
 refine bP 2 2 rfl ?_
 subst hR
 refine ie (A8 ?_)
 exact F7 hr hD
def F2:Int×Int×Int :=
 (0,0,0)
theorem D3f:0≤(F2).2.2∧(F2).2.2≤4:=by unfold F2;decide
theorem D5o {R:Int×Int×Int} (hR:F2=R):J5 Tryz.prog 230 [.slice none 0 0] [] (.tuple #[iv R.1,iv R.2.1,iv R.2.2]):=by
 refine cC Tryz.func230 fun X hX hr hD=>?_
 replace hR:=(F2.eq_1 ..).symm.trans hR
 refine bS rfl (pp0 3 rfl ?_)
 refine ie (A3 (bS rfl (bP 3 12 rfl ?_)))
 refine ie (J4 rfl (bS rfl (pp3 3 2 3 4 rfl ?_)))
 subst hR
 refine ie (A8 ?_)
 exact cD hr hD (D8x rfl (A6 rfl) (A6 rfl) (A6 rfl)) () bU A7.nil
def C3a:Bool×Bool :=
 (B6 F2 fun (a:Int×Int×Int)=>(bif (decide (a.2.2=0)) then (false,false) else (((decide ((if (([0,0,128,2048,65536]:List Int).getD ((a.2.2).toNat) 0) > a.1 then (([0,0,128,2048,65536]:List Int).getD ((a.2.2).toNat) 0) else a.1)≤(if (([0,127,2047,65535,1114111]:List Int).getD ((a.2.2).toNat) 0)<a.2.1 then (([0,127,2047,65535,1114111]:List Int).getD ((a.2.2).toNat) 0) else a.2.1)))&&(!((decide ((55296:Int)≤(if (([0,0,128,2048,65536]:List Int).getD ((a.2.2).toNat) 0) > a.1 then (([0,0,128,2048,65536]:List Int).getD ((a.2.2).toNat) 0) else a.1)))&&(decide ((if (([0,127,2047,65535,1114111]:List Int).getD ((a.2.2).toNat) 0)<a.2.1 then (([0,127,2047,65535,1114111]:List Int).getD ((a.2.2).toNat) 0) else a.2.1)≤57343))))),(((decide ((if (([0,0,128,2048,65536]:List Int).getD ((a.2.2).toNat) 0) > a.1 then (([0,0,128,2048,65536]:List Int).getD ((a.2.2).toNat) 0) else a.1)≤(if (([0,127,2047,65535,1114111]:List Int).getD ((a.2.2).toNat) 0)<a.2.1 then (([0,127,2047,65535,1114111]:List Int).getD ((a.2.2).toNat) 0) else a.2.1)))&&(!((decide ((55296:Int)≤(if (([0,0,128,2048,65536]:List Int).getD ((a.2.2).toNat) 0) > a.1 then (([0,0,128,2048,65536]:List Int).getD ((a.2.2).toNat) 0) else a.1)))&&(decide ((if (([0,127,2047,65535,1114111]:List Int).getD ((a.2.2).toNat) 0)<a.2.1 then (([0,127,2047,65535,1114111]:List Int).getD ((a.2.2).toNat) 0) else a.2.1)≤57343)))))&&(decide ((0:Int)=a.2.2))))))
theorem D5v {R:Bool×Bool} (hR:C3a=R):J5 Tryz.prog 229 [.slice none 0 0] [] (.tuple #[bv R.1,bv R.2]):=by
 refine cC Tryz.func229 fun X hX hr hD=>?_
 replace hR:=(C3a.eq_1 ..).symm.trans hR
 refine bS rfl (pp0 2 rfl ?_)
 refine ie (bS rfl (bP 1 11 rfl ?_))
 have l:=C4 hR;clear hR;obtain ⟨a,b,hR⟩:=l
 refine zv rfl (D5o b) ?_
 have:=D3f ;try rw [b] at this
 refine pp3 7 4 5 6 rfl ?_
 refine ie (A3 (bS rfl (bP 2 17 rfl ?_)))
 refine ie ?_
 refine zjd rfl hR ?_ ?_<;>clear hR<;>intro hR o n
 ·refine bS rfl (cG 2 2 3 rfl ?_)
  subst hR
  refine ie (A8 ?_)
  exact B4w hr hD
 refine A4 (nx (bS rfl (zra 3 [0] (fun f=>[(7,pt f 0)]) (fun _=>[iv 0,iv 0,iv 128,iv 2048,iv 65536]) 305 fun f=>?_)))
 refine ie (bS rfl (zra 3 [0] (fun g=>[(8,pt g 0)]) (fun _=>[iv 0,iv 127,iv 2047,iv 65535,iv 1114111]) 305 fun g=>?_))
 refine ie (sd 12 rfl oki rfl ?_)
 refine pd2 2 20 21 rfl ?_
 refine dd rfl (A6i Tryz.underlying305 cH rfl rfl rfl ((a.2.2).toNat) opx opx) ?_
 refine dd rfl (Z9 (u:=iv ([0,0,128,2048,65536].getD _ 0)) (c:=H5) cH (fun _=>rfl) rfl rfl 1 rfl _ 0 rfl (gd 0 oqd) rfl) ?_
 refine pd3 3 24 25 26 rfl ?_
 refine dd rfl (A6i Tryz.underlying305 cH rfl rfl rfl ((a.2.2).toNat) opx opx) ?_
 refine dd rfl (Z9 (u:=iv ([0,127,2047,65535,1114111].getD _ 0)) (c:=H5) cH (fun _=>rfl) rfl rfl 0 rfl _ 0 rfl (gd 0 oqd) rfl) ?_
 refine pd2 3 4 5 rfl ?_
 refine de (bS rfl (bP 4 33 rfl ?_))
 refine zia 8 1 33 41 (!((decide (55296≤(if ([0,0,128,2048,65536].getD ((a.2.2).toNat) 0) > a.1 then ([0,0,128,2048,65536].getD ((a.2.2).toNat) 0) else a.1)))&&(decide ((if ([0,127,2047,65535,1114111].getD ((a.2.2).toNat) 0)<a.2.1 then ([0,127,2047,65535,1114111].getD ((a.2.2).toNat) 0) else a.2.1)≤57343)))) (fun d=>?_) ?_
 ·have k:=bV d
  refine bP 3 36 rfl ?_
  refine zia 3 2 36 39 (decide ((if ([0,127,2047,65535,1114111].getD ((a.2.2).toNat) 0)<a.2.1 then ([0,127,2047,65535,1114111].getD ((a.2.2).toNat) 0) else a.2.1)≤57343)) (fun h=>?_) ?_
  ·have m:=bV h
   refine bP 3 39 rfl ?_
   exact A2 (J0 2 36 _ h A7.nil bU rfl rfl rfl rfl rfl)
  refine bP 2 41 rfl ?_
  exact A2 (J0 4 33 _ d A7.nil bU rfl rfl rfl rfl rfl)
 refine ip' 1 0 [(9,bv ((decide ((if ([0,0,128,2048,65536].getD ((a.2.2).toNat) 0) > a.1 then ([0,0,128,2048,65536].getD ((a.2.2).toNat) 0) else a.1)≤(if ([0,127,2047,65535,1114111].getD ((a.2.2).toNat) 0)<a.2.1 then ([0,127,2047,65535,1114111].getD ((a.2.2).toNat) 0) else a.2.1)))&&(!((decide (55296≤(if ([0,0,128,2048,65536].getD ((a.2.2).toNat) 0) > a.1 then ([0,0,128,2048,65536].getD ((a.2.2).toNat) 0) else a.1)))&&(decide ((if ([0,127,2047,65535,1114111].getD ((a.2.2).toNat) 0)<a.2.1 then ([0,127,2047,65535,1114111].getD ((a.2.2).toNat) 0) else a.2.1)≤57343))))))] ?_
 refine ie (bS rfl (ip' 3 7 [(42,bv ((decide ((if ([0,0,128,2048,65536].getD ((a.2.2).toNat) 0) > a.1 then ([0,0,128,2048,65536].getD ((a.2.2).toNat) 0) else a.1)≤(if ([0,127,2047,65535,1114111].getD ((a.2.2).toNat) 0)<a.2.1 then ([0,127,2047,65535,1114111].getD ((a.2.2).toNat) 0) else a.2.1)))&&(!((decide (55296≤(if ([0,0,128,2048,65536].getD ((a.2.2).toNat) 0) > a.1 then ([0,0,128,2048,65536].getD ((a.2.2).toNat) 0) else a.1)))&&(decide ((if ([0,127,2047,65535,1114111].getD ((a.2.2).toNat) 0)<a.2.1 then ([0,127,2047,65535,1114111].getD ((a.2.2).toNat) 0) else a.2.1)≤57343)))))),(44,bv ((decide ((if ([0,0,128,2048,65536].getD ((a.2.2).toNat) 0) > a.1 then ([0,0,128,2048,65536].getD ((a.2.2).toNat) 0) else a.1)≤(if ([0,127,2047,65535,1114111].getD ((a.2.2).toNat) 0)<a.2.1 then ([0,127,2047,65535,1114111].getD ((a.2.2).toNat) 0) else a.2.1)))&&(!((decide (55296≤(if ([0,0,128,2048,65536].getD ((a.2.2).toNat) 0) > a.1 then ([0,0,128,2048,65536].getD ((a.2.2).toNat) 0) else a.1)))&&(decide ((if ([0,127,2047,65535,1114111].getD ((a.2.2).toNat) 0)<a.2.1 then ([0,127,2047,65535,1114111].getD ((a.2.2).toNat) 0) else a.2.1)≤57343))))))] ?_))
 refine zia 5 2 44 49 (decide (0=a.2.2)) (fun e=>?_) ?_
 ·have i:=bV e
  refine bP 5 49 rfl ?_
  exact A2 (J0 2 44 _ e A7.nil bU rfl rfl rfl rfl rfl)
 refine cG 2 2 3 rfl ?_
 subst hR
 refine ie (A8 ?_)
 exact B4w hr hD
def B5d:Bool :=
 (B6 C3a fun (a:Bool×Bool)=>true)
theorem D2s {R:Bool} (hR:B5d=R):J5 Tryz.prog 228 [.slice none 0 0] [] (bv R):=by
 refine cC Tryz.func228 fun X hX hr hD=>?_
 replace hR:=(B5d.eq_1 ..).symm.trans hR
 refine bS rfl (pp0 1 rfl ?_)
 refine ie (bS rfl (bP 1 6 rfl ?_))
 have c:=C4 hR;clear hR;obtain ⟨b,a,hR⟩:=c
 refine zv rfl (D5v a) ?_
 refine cG 5 3 4 rfl ?_
 refine ie (bS rfl (bP 11 2 rfl ?_))
 subst hR
 refine ie (A8 ?_)
 exact F7 hr hD
def I0 (b:UInt8):Int×Int :=
 (bif (decide ((b.toNat:Int)<128)) then (1,(b.toNat:Int)) else (bif ((decide ((192:Int)≤(b.toNat:Int)))&&(decide ((b.toNat:Int)<224))) then (2,((b.toNat:Int) - 192)) else (bif ((decide ((224:Int)≤(b.toNat:Int)))&&(decide ((b.toNat:Int)<240))) then (3,((b.toNat:Int) - 224)) else (bif ((decide ((240:Int)≤(b.toNat:Int)))&&(decide ((b.toNat:Int)<248))) then (4,((b.toNat:Int) - 240)) else (0,0)))))
theorem B9y (b:UInt8):(0≤(I0 b).1∧(I0 b).1≤4)∧0≤(I0 b).2∧(I0 b).2≤127:=by
 have:=b.toNat_lt
 unfold I0
 by_cases h1:(b.toNat:Int)<128
 ·rw [decide_eq_true h1];simp only [cond_true];omega
 ·rw [decide_eq_false h1,cond_false]
  by_cases h2:(192:Int)≤(b.toNat:Int)∧(b.toNat:Int)<224
  ·rw [show ((decide ((192:Int)≤(b.toNat:Int)))&&(decide ((b.toNat:Int)<224)))=true by simp only [Bool.and_eq_true,decide_eq_true_eq];exact h2,cond_true];dsimp only;omega
  ·rw [show ((decide ((192:Int)≤(b.toNat:Int)))&&(decide ((b.toNat:Int)<224)))=false by simp only [Bool.and_eq_false_iff,decide_eq_false_iff_not];omega,cond_false]
   by_cases h3:(224:Int)≤(b.toNat:Int)∧(b.toNat:Int)<240
   ·rw [show ((decide ((224:Int)≤(b.toNat:Int)))&&(decide ((b.toNat:Int)<240)))=true by simp only [Bool.and_eq_true,decide_eq_true_eq];exact h3,cond_true];dsimp only;omega
   ·rw [show ((decide ((224:Int)≤(b.toNat:Int)))&&(decide ((b.toNat:Int)<240)))=false by simp only [Bool.and_eq_false_iff,decide_eq_false_iff_not];omega,cond_false]
    by_cases h4:(240:Int)≤(b.toNat:Int)∧(b.toNat:Int)<248
    ·rw [show ((decide ((240:Int)≤(b.toNat:Int)))&&(decide ((b.toNat:Int)<248)))=true by simp only [Bool.and_eq_true,decide_eq_true_eq];exact h4,cond_true];dsimp only;omega
    ·rw [show ((decide ((240:Int)≤(b.toNat:Int)))&&(decide ((b.toNat:Int)<248)))=false by simp only [Bool.and_eq_false_iff,decide_eq_false_iff_not];omega,cond_false];dsimp only;omega
theorem D3j {b:UInt8} {R:Int×Int} (hR:I0 b=R):J5 Tryz.prog 251 [.int .u8 (b.toNat:Int)] [] (.tuple #[iv R.1,iv R.2]):=by
 refine cC Tryz.func251 fun X hX hr hD=>?_
 unfold I0 at hR
 refine bS rfl (pp0 2 rfl ?_)
 refine ie (A3 (bS rfl (bP 2 5 rfl ?_)))
 refine ie ?_
 refine zjd rfl hR ?_ ?_<;>clear hR<;>intro hR n l
 ·refine bS rfl (bP 1 6 rfl ?_)
  refine ix rfl (B1f Tryz.underlying3 oki rfl rfl (A6g b)) ?_
  refine cG 2 2 3 rfl ?_
  subst hR
  refine ie (A8 ?_)
  exact B4w hr hD
 refine A4 (nx (A3 (bS rfl (bP 3 10 rfl ?_))))
 refine zid 3 0 10 13 (decide ((b.toNat:Int)<224)) (fun i f=>?_) ?_
 ·refine bP 3 13 rfl ?_
  exact A2 (J0 2 10 _ i A7.nil bU rfl rfl rfl rfl rfl)
 refine ie ?_
 refine zja rfl hR ?_ ?_<;>clear hR<;>intro hR m k
 ·refine bS rfl (bP 1 14 rfl ?_)
  refine ix rfl (B1f Tryz.underlying3 oki rfl rfl (A6g b)) ?_
  refine ix rfl (M4 rfl rfl rfl rfl opx) ?_
  refine cG 2 2 3 rfl ?_
  subst hR
  refine ie (A8 ?_)
  exact B4w hr hD
 refine A4 (nx (A3 (bS rfl (bP 3 19 rfl ?_))))
 refine zid 3 0 19 22 (decide ((b.toNat:Int)<240)) (fun a g=>?_) ?_
 ·refine bP 3 22 rfl ?_
  exact A2 (J0 2 19 _ a A7.nil bU rfl rfl rfl rfl rfl)
 refine ie ?_
 refine zja rfl hR ?_ ?_<;>clear hR<;>intro hR p j
 ·refine bS rfl (bP 1 23 rfl ?_)
  refine ix rfl (B1f Tryz.underlying3 oki rfl rfl (A6g b)) ?_
  refine ix rfl (M4 rfl rfl rfl rfl opx) ?_
  refine cG 2 2 3 rfl ?_
  subst hR
  refine ie (A8 ?_)
  exact B4w hr hD
 refine A4 (nx (A3 (bS rfl (bP 3 28 rfl ?_))))
 refine zid 3 0 28 31 (decide ((b.toNat:Int)<248)) (fun d e=>?_) ?_
 ·refine bP 3 31 rfl ?_
  exact A2 (J0 2 28 _ d A7.nil bU rfl rfl rfl rfl rfl)
 refine ie ?_
 refine zja rfl hR ?_ ?_<;>clear hR<;>intro hR o h
 ·refine bS rfl (bP 1 32 rfl ?_)
  refine ix rfl (B1f Tryz.underlying3 oki rfl rfl (A6g b)) ?_
  refine ix rfl (M4 rfl rfl rfl rfl opx) ?_
  refine cG 2 2 3 rfl ?_
  subst hR
  refine ie (A8 ?_)
  exact B4w hr hD
 refine A4 (nx (bS rfl (cG 2 2 3 rfl ?_)))
 subst hR
 refine ie (A8 ?_)
 exact B4w hr hD
def G2 (p:List UInt8) (a:Int×Int):Nat→Int→Int→Nat→(Int×Int×Int)
 | 0,_,_,_=>(0,0,0)
 | fu1+1,low,high,i=>(bif (decide ((i:Int)<a.1)) then (bif (decide ((i:Int)<(p.length:Int))) then (bif ((decide (((p.getD i 0).toNat:Int)<128))||(decide ((191:Int)<((p.getD i 0).toNat:Int)))) then (0,0,0) else G2 p a fu1 (IntKind.i64.wrap ((IntKind.i64.wrap (low * (64:Int)))+(((p.getD i 0).toNat:Int) - 128))) (IntKind.i64.wrap ((IntKind.i64.wrap ((IntKind.i64.wrap ((IntKind.i64.wrap (high * (64:Int)))+(63:Int))) - (63:Int)))+(((p.getD i 0).toNat:Int) - 128))) (i+1)) else G2 p a fu1 (IntKind.i64.wrap (low * (64:Int))) (IntKind.i64.wrap ((IntKind.i64.wrap (high * (64:Int)))+(63:Int))) (i+1)) else (bif (decide (a.1<(p.length:Int))) then (0,0,0) else (low,high,a.1)))
def M8 (p:List UInt8):Int×Int×Int :=
 (bif (decide ((p.length:Int)=0)) then (0,0,0) else (B6 (I0 (p.getD 0 0)) fun (a:Int×Int)=>G2 p a ((a.1 - (1:Int)).toNat+1) a.2 a.2 1))
theorem B0c (p:List UInt8) (f:Int×Int) (a:0≤f.1∧f.1≤4):∀ (fu:Nat) (low high:Int) (i:Nat),0≤(G2 p f fu low high i).2.2∧(G2 p f fu low high i).2.2≤4∧((G2 p f fu low high i).2.2≠0→(p.length:Int)≤4)
 | 0,low,high,i=>by simp [G2]
 | fu+1,low,high,i=>by
  simp only [G2]
  cases (decide ((i:Int)<f.1)) with
  | true =>
   rw [cond_true]
   cases (decide ((i:Int)<(p.length:Int))) with
   | true =>
    rw [cond_true]
    generalize ((decide (((p.getD i 0).toNat:Int)<128))||(decide ((191:Int)<((p.getD i 0).toNat:Int))))=c
    cases c with
    | true=>simp
    | false=>rw [cond_false];exact B0c p f a fu _ _ _
   | false=>rw [cond_false];exact B0c p f a fu _ _ _
  | false =>
   rw [cond_false]
   by_cases h:f.1<(p.length:Int)
   ·rw [decide_eq_true h,cond_true];simp
   ·rw [decide_eq_false h,cond_false];dsimp only;omega
theorem A9z (p:List UInt8):0≤(M8 p).2.2∧(M8 p).2.2≤4∧((M8 p).2.2≠0→(p.length:Int)≤4):=by
 unfold M8
 cases (decide ((p.length:Int)=0)) with
 | true=>simp
 | false=>rw [cond_false];simp only [B6];exact B0c p _ (B9y _).1 _ _ _ _
theorem B6f {p:List UInt8} {e:Option Addr} {pk:Nat} {R:Int×Int×Int} (hR:M8 p=R) (s:p.length≤9223372036854775807:=by exact bW) (g:p.length≤pk:=by exact bW):J5 Tryz.prog 230 [.slice e p.length pk] [sl cI e p] (.tuple #[iv R.1,iv R.2.1,iv R.2.2]):=by
 refine cC Tryz.func230 fun X hX hr hD=>?_
 replace hR:=(M8.eq_1 ..).symm.trans hR
 refine bS rfl (pp0 3 rfl ?_)
 refine ie (A3 (bS rfl (bP 3 12 rfl ?_)))
 refine ie ?_
 refine zjd rfl hR ?_ ?_<;>clear hR<;>intro hR t n
 ·refine bS rfl (pp3 3 2 3 4 rfl ?_)
  subst hR
  refine ie (A8 ?_)
  exact cD hr hD (D8x rfl (A6 rfl) (A6 rfl) (A6 rfl)) () bU A7.nil
 refine A4 (nx (bS rfl (bP 1 14 rfl ?_)))
 refine K8 0 rfl opx fun y d=>?_
 refine ix rfl (F8 A4k rfl rfl d rfl 0 rfl opx) ?_
 refine ix rfl (C9 ty5 rfl rfl (H2 (sz:=1) d (fun _=>rfl) 0 rfl (gd 0 opx)) rfl) ?_
 have j:=C4 hR;clear hR;obtain ⟨a,b,hR⟩:=j
 refine zv rfl (D3j b) ?_
 have:=B9y (p.getD 0 0);try rw [b] at this
 refine cG 5 5 6 rfl ?_
 refine ie (bS rfl (bP 2 7 rfl ?_))
 refine ie (A3 (bS rfl (bP 1 8 rfl ?_)))
 refine ie (A9 (A3q (un fun fu=>un fun low=>un fun high (i:Nat)=>((a.1 - i).toNat<fu∧G2 p a fu low high i=R,[(0,_),(5,iv _),(6,iv low),(7,iv high),(8,iv i)],_,_,fu)) (_,_,_,1) ⟨(Nat.lt_succ_self _),hR⟩ bU A7.refl ?_))
 rintro ⟨fu,low,high,i⟩ ⟨q,hR⟩
 obtain ⟨fu1,rfl⟩:∃ m,fu=m+1:=⟨fu - 1,by omega⟩
 replace hR:=(G2.eq_2 ..).symm.trans hR
 refine A3 (bS rfl (bP 3 23 rfl ?_))
 refine ie ?_
 refine zjd rfl hR ?_ ?_<;>clear hR<;>intro hR u l
 ·refine A4 (nx (A3 (A9 (bS rfl (bP 1 26 rfl ?_)))))
  refine ix rfl (J9.pure rfl) ?_
  refine bP 1 28 rfl ?_
  refine ix rfl (J9.pure rfl) ?_
  refine ix rfl (J9.pure rfl) ?_
  refine cG 2 6 7 rfl ?_
  refine ie (bS rfl (bP 4 34 rfl ?_))
  refine ie ?_
  refine zjd rfl hR ?_ ?_<;>clear hR<;>intro hR w h
  ·refine A3 (bS rfl (cG 2 35 36 rfl ?_))
   refine ix rfl (F8 A4k rfl rfl d rfl i rfl opx) ?_
   refine ix rfl (C9 ty5 rfl rfl (H2 (sz:=1) d (fun _=>rfl) 0 rfl (gd 0 opx)) rfl) ?_
   refine bP 2 40 rfl ?_
   refine zir 6 0 40 46 (decide (191<((p.getD i 0).toNat:Int))) (fun o f=>?_) ?_
   ·refine cG 2 41 42 rfl ?_
    refine ix rfl (F8 A4k rfl rfl d rfl i rfl opx) ?_
    refine ix rfl (C9 ty5 rfl rfl (H2 (sz:=1) d (fun _=>rfl) 0 rfl (gd 0 opx)) rfl) ?_
    refine bP 2 46 rfl ?_
    exact zai 6 40 _ o
   refine ie ?_
   refine zjo rfl hR ?_ ?_<;>clear hR<;>intro hR v k
   ·refine bS rfl (pp3 3 2 3 4 rfl ?_)
    subst hR
    refine ie (A8 ?_)
    exact cD hr hD (D8x rfl (A6 rfl) (A6 rfl) (A6 rfl)) () bU A7.nil
   refine A4 (nx (bS rfl (cG 2 47 48 rfl ?_)))
   refine ix rfl (F8 A4k rfl rfl d rfl i rfl opx) ?_
   refine ix rfl (C9 ty5 rfl rfl (H2 (sz:=1) d (fun _=>rfl) 0 rfl (gd 0 opx)) rfl) ?_
   refine ix rfl (B1f Tryz.underlying3 oki rfl rfl (A6g _)) ?_
   refine ix rfl (M4 rfl rfl rfl rfl opx) ?_
   refine bP 1 9 rfl ?_
   refine ie (A1 9 rfl (cG 2 53 54 rfl ?_))
   refine ix rfl (J9.pure rfl) ?_
   refine bP 1 56 rfl ?_
   refine ix rfl (J9.pure rfl) ?_
   refine bP 1 58 rfl ?_
   refine ix rfl (J9.pure rfl) ?_
   refine cG 2 6 7 rfl ?_
   refine A2 (nx (A1 3 rfl (bP 1 24 rfl ?_)))
   refine ix rfl (B3 rfl rfl rfl rfl opx) ?_
   refine bP 1 8 rfl ?_
   refine A2 ?_
   exact A2g (_,_,_,_) ⟨opx,hR⟩ (Nat.lt_succ_self _) bU A7.refl
  refine A4 (nx (A1 3 rfl (bP 1 24 rfl ?_)))
  refine ix rfl (B3 rfl rfl rfl rfl opx) ?_
  refine bP 1 8 rfl ?_
  refine A2 ?_
  exact A2g (_,_,_,_) ⟨opx,hR⟩ (Nat.lt_succ_self _) bU A7.refl
 refine F4 (nx (A3 (bS rfl (bP 4 63 rfl ?_))))
 refine ie ?_
 refine zjd rfl hR ?_ ?_<;>clear hR<;>intro hR x r
 ·refine bS rfl (pp3 3 2 3 4 rfl ?_)
  subst hR
  refine ie (A8 ?_)
  exact cD hr hD (D8x rfl (A6 rfl) (A6 rfl) (A6 rfl)) () bU A7.nil
 refine A4 (nx (bS rfl (pp3 6 2 3 4 rfl ?_)))
 subst hR
 refine ie (A8 ?_)
 exact cD hr hD (D8x rfl (A6 rfl) (A6 rfl) (A6 rfl)) () bU A7.nil
def P6 (p:List UInt8):Bool×Bool :=
 (B6 (M8 p) fun (a:Int×Int×Int)=>(bif (decide (a.2.2=0)) then (false,false) else (((decide ((if (([0,0,128,2048,65536]:List Int).getD ((a.2.2).toNat) 0) > a.1 then (([0,0,128,2048,65536]:List Int).getD ((a.2.2).toNat) 0) else a.1)≤(if (([0,127,2047,65535,1114111]:List Int).getD ((a.2.2).toNat) 0)<a.2.1 then (([0,127,2047,65535,1114111]:List Int).getD ((a.2.2).toNat) 0) else a.2.1)))&&(!((decide ((55296:Int)≤(if (([0,0,128,2048,65536]:List Int).getD ((a.2.2).toNat) 0) > a.1 then (([0,0,128,2048,65536]:List Int).getD ((a.2.2).toNat) 0) else a.1)))&&(decide ((if (([0,127,2047,65535,1114111]:List Int).getD ((a.2.2).toNat) 0)<a.2.1 then (([0,127,2047,65535,1114111]:List Int).getD ((a.2.2).toNat) 0) else a.2.1)≤57343))))),(((decide ((if (([0,0,128,2048,65536]:List Int).getD ((a.2.2).toNat) 0) > a.1 then (([0,0,128,2048,65536]:List Int).getD ((a.2.2).toNat) 0) else a.1)≤(if (([0,127,2047,65535,1114111]:List Int).getD ((a.2.2).toNat) 0)<a.2.1 then (([0,127,2047,65535,1114111]:List Int).getD ((a.2.2).toNat) 0) else a.2.1)))&&(!((decide ((55296:Int)≤(if (([0,0,128,2048,65536]:List Int).getD ((a.2.2).toNat) 0) > a.1 then (([0,0,128,2048,65536]:List Int).getD ((a.2.2).toNat) 0) else a.1)))&&(decide ((if (([0,127,2047,65535,1114111]:List Int).getD ((a.2.2).toNat) 0)<a.2.1 then (([0,127,2047,65535,1114111]:List Int).getD ((a.2.2).toNat) 0) else a.2.1)≤57343)))))&&(decide ((p.length:Int)=a.2.2))))))
theorem C9i (p:List UInt8) (h:(P6 p).1=true):(p.length:Int)≤4:=by
 unfold P6 at h
 simp only [B6] at h
 by_cases e:(M8 p).2.2=0
 ·rw [decide_eq_true e] at h;simp at h
 ·exact (A9z p).2.2 e
theorem B5y {p:List UInt8} {h:Option Addr} {pk:Nat} {R:Bool×Bool} (hR:P6 p=R) (r:p.length≤9223372036854775807:=by exact bW) (k:p.length≤pk:=by exact bW):J5 Tryz.prog 229 [.slice h p.length pk] [sl cI h p] (.tuple #[bv R.1,bv R.2]):=by
 refine cC Tryz.func229 fun X hX hr hD=>?_
 replace hR:=(P6.eq_1 ..).symm.trans hR
 refine bS rfl (pp0 2 rfl ?_)
 refine ie (bS rfl (bP 1 11 rfl ?_))
 have n:=C4 hR;clear hR;obtain ⟨a,b,hR⟩:=n
 refine zv rfl (B6f b) ?_
 have:=A9z p;try rw [b] at this
 refine pp3 7 4 5 6 rfl ?_
 refine ie (A3 (bS rfl (bP 2 17 rfl ?_)))
 refine ie ?_
 refine zjd rfl hR ?_ ?_<;>clear hR<;>intro hR s q
 ·refine bS rfl (cG 2 2 3 rfl ?_)
  subst hR
  refine ie (A8 ?_)
  exact B4w hr hD
 refine A4 (nx (bS rfl (zra 3 [0] (fun f=>[(7,pt f 0)]) (fun _=>[iv 0,iv 0,iv 128,iv 2048,iv 65536]) 305 fun f=>?_)))
 refine ie (bS rfl (zra 3 [0] (fun g=>[(8,pt g 0)]) (fun _=>[iv 0,iv 127,iv 2047,iv 65535,iv 1114111]) 305 fun g=>?_))
 refine ie (sd 12 rfl oki rfl ?_)
 refine pd2 2 20 21 rfl ?_
 refine dd rfl (A6i Tryz.underlying305 cH rfl rfl rfl ((a.2.2).toNat) opx opx) ?_
 refine dd rfl (Z9 (u:=iv ([0,0,128,2048,65536].getD _ 0)) (c:=H5) cH (fun _=>rfl) rfl rfl 1 rfl _ 0 rfl (gd 0 oqd) rfl) ?_
 refine pd3 3 24 25 26 rfl ?_
 refine dd rfl (A6i Tryz.underlying305 cH rfl rfl rfl ((a.2.2).toNat) opx opx) ?_
 refine dd rfl (Z9 (u:=iv ([0,127,2047,65535,1114111].getD _ 0)) (c:=H5) cH (fun _=>rfl) rfl rfl 0 rfl _ 0 rfl (gd 0 oqd) rfl) ?_
 refine pd2 3 4 5 rfl ?_
 refine de (bS rfl (bP 4 33 rfl ?_))
 refine zia 8 1 33 41 (!((decide (55296≤(if ([0,0,128,2048,65536].getD ((a.2.2).toNat) 0) > a.1 then ([0,0,128,2048,65536].getD ((a.2.2).toNat) 0) else a.1)))&&(decide ((if ([0,127,2047,65535,1114111].getD ((a.2.2).toNat) 0)<a.2.1 then ([0,127,2047,65535,1114111].getD ((a.2.2).toNat) 0) else a.2.1)≤57343)))) (fun d=>?_) ?_
 ·have m:=bV d
  refine bP 3 36 rfl ?_
  refine zia 3 2 36 39 (decide ((if ([0,127,2047,65535,1114111].getD ((a.2.2).toNat) 0)<a.2.1 then ([0,127,2047,65535,1114111].getD ((a.2.2).toNat) 0) else a.2.1)≤57343)) (fun i=>?_) ?_
  ·have o:=bV i
   refine bP 3 39 rfl ?_
   exact zai 2 36 _ i
  refine bP 2 41 rfl ?_
  exact zai 4 33 _ d
 refine ip' 1 0 [(9,bv ((decide ((if ([0,0,128,2048,65536].getD ((a.2.2).toNat) 0) > a.1 then ([0,0,128,2048,65536].getD ((a.2.2).toNat) 0) else a.1)≤(if ([0,127,2047,65535,1114111].getD ((a.2.2).toNat) 0)<a.2.1 then ([0,127,2047,65535,1114111].getD ((a.2.2).toNat) 0) else a.2.1)))&&(!((decide (55296≤(if ([0,0,128,2048,65536].getD ((a.2.2).toNat) 0) > a.1 then ([0,0,128,2048,65536].getD ((a.2.2).toNat) 0) else a.1)))&&(decide ((if ([0,127,2047,65535,1114111].getD ((a.2.2).toNat) 0)<a.2.1 then ([0,127,2047,65535,1114111].getD ((a.2.2).toNat) 0) else a.2.1)≤57343))))))] ?_
 refine ie (bS rfl (ip' 3 7 [(42,bv ((decide ((if ([0,0,128,2048,65536].getD ((a.2.2).toNat) 0) > a.1 then ([0,0,128,2048,65536].getD ((a.2.2).toNat) 0) else a.1)≤(if ([0,127,2047,65535,1114111].getD ((a.2.2).toNat) 0)<a.2.1 then ([0,127,2047,65535,1114111].getD ((a.2.2).toNat) 0) else a.2.1)))&&(!((decide (55296≤(if ([0,0,128,2048,65536].getD ((a.2.2).toNat) 0) > a.1 then ([0,0,128,2048,65536].getD ((a.2.2).toNat) 0) else a.1)))&&(decide ((if ([0,127,2047,65535,1114111].getD ((a.2.2).toNat) 0)<a.2.1 then ([0,127,2047,65535,1114111].getD ((a.2.2).toNat) 0) else a.2.1)≤57343)))))),(44,bv ((decide ((if ([0,0,128,2048,65536].getD ((a.2.2).toNat) 0) > a.1 then ([0,0,128,2048,65536].getD ((a.2.2).toNat) 0) else a.1)≤(if ([0,127,2047,65535,1114111].getD ((a.2.2).toNat) 0)<a.2.1 then ([0,127,2047,65535,1114111].getD ((a.2.2).toNat) 0) else a.2.1)))&&(!((decide (55296≤(if ([0,0,128,2048,65536].getD ((a.2.2).toNat) 0) > a.1 then ([0,0,128,2048,65536].getD ((a.2.2).toNat) 0) else a.1)))&&(decide ((if ([0,127,2047,65535,1114111].getD ((a.2.2).toNat) 0)<a.2.1 then ([0,127,2047,65535,1114111].getD ((a.2.2).toNat) 0) else a.2.1)≤57343))))))] ?_))
 refine zia 5 2 44 49 (decide (p.length=a.2.2)) (fun e=>?_) ?_
 ·have l:=bV e
  refine bP 5 49 rfl ?_
  exact zai 2 44 _ e
 refine cG 2 2 3 rfl ?_
 subst hR
 refine ie (A8 ?_)
 exact B4w hr hD
def A0p (b:UInt8):List UInt8×List Int :=
 (B6 (P6 (([]:List UInt8)++([b]:List UInt8))) fun (a:Bool×Bool)=>(bif a.2 then (B6 (M8 (([]:List UInt8)++([b]:List UInt8))) fun (c:Int×Int×Int)=>(([]:List UInt8),([c.1]:List Int))) else (bif a.1 then ((([]:List UInt8)++([b]:List UInt8)),([]:List Int)) else (([]:List UInt8),([65533]:List Int)))))
def A7b (b:UInt8):List UInt8×List Int :=
 (bif (!B5d) then A0p b else A0p b)
theorem C3n (b:UInt8):(A0p b).1.length≤4∧(A0p b).2.length≤2:=by
 unfold A0p
 simp only [B6]
 cases (P6 (([]:List UInt8)++([b]:List UInt8))).2<;>cases (P6 (([]:List UInt8)++([b]:List UInt8))).1<;>simp
theorem B9s (b:UInt8):(A7b b).1.length≤4∧(A7b b).2.length≤2:=by
 unfold A7b
 cases (!B5d)<;>simp only [cond_true,cond_false]<;>exact C3n b
theorem omh {p:Prop} (h:p:=by first|omega|(simp only [List.length_cons,List.length_nil,List.length_append,List.length_take,List.length_drop,F2];omega)):p:=h
theorem D5t {b:UInt8} {R:List UInt8×List Int} (hR:A7b b=R) (o:([]:List UInt8).length≤4:=by exact bW):Con Tryz.prog 196 [.slice none 0 0,.int .u8 (b.toNat:Int)] [] [] ({t:Option Addr×Nat // R.1.length≤t.2∧R.1.length≤9223372036854775807}×{t:Option Addr×Nat // R.2.length≤t.2∧R.2.length≤9223372036854775807}) (fun x=>.tuple #[.slice x.1.1.1 R.1.length x.1.1.2,.slice x.2.1.1 R.2.length x.2.1.2]) (fun x=>[]) (fun x=>[sl cI x.1.1.1 R.1,sl H5 x.2.1.1 R.2]):=by
 refine cC Tryz.func196 fun X hX hr hD=>?_
 replace hR:=(A7b.eq_1 ..).symm.trans hR
 refine bS rfl (pp0 2 rfl ?_)
 refine ie (A7y (fun (_:Unit)=>(A0p b=R,[(0,.slice none 0 0),(1,.int .u8 b.toNat)],[],[])) ?_ ?_)
 ·refine bS rfl (bP 1 14 rfl ?_)
  refine zv rfl (D2s rfl) ?_
  refine bP 1 16 rfl ?_
  refine ie ?_
  refine zjb rfl hR ?_ ?_<;>clear hR<;>intro hR v
  ·refine A1 1 rfl (bP 1 0 rfl ?_)
   refine A2 ?_
   exact W8 () hR bU A7.nil
  refine A4 ?_
  exact W8 () hR bU A7.nil
 intro _
 rintro hR
 replace hR:=(A0p.eq_1 ..).symm.trans hR
 refine bS rfl (it rfl (B8e A4k rfl rfl) fun m=>?_)
 have:([]:List UInt8).length=0:=rfl
 refine bP 1 18 rfl ?_
 refine ix rfl (E1e B8x rfl rfl rfl rfl rfl rfl (by first|omega|exact Nat.zero_le _|exact bT.cap (show bT 1 0 _ from ⟨rfl,Nat.zero_le _,Nat.zero_le _⟩))) ?_
 refine bP 1 20 rfl ?_
 refine it rfl (B1 (c:=cI) (xs:=[b]) A4k rfl rfl rfl oki) fun s=>?_
 have:([b]:List UInt8).length=1:=rfl
 refine it rfl (S7 (f:=cI) (r:=(⟨some m,0,[]⟩:VR)) (xs:=([]:List UInt8)) (ys:=([b]:List UInt8)) (pre:=[]) (post:=[]) B8x (fun _=>rfl) (fun _=>rfl) rfl rfl rfl rfl rfl rfl rfl rfl rfl (A5 0 rfl) (show bT 1 0 _ from ⟨rfl,Nat.zero_le _,Nat.zero_le _⟩) omh omh) fun ⟨j,g⟩=>?_
 refine bP 1 6 rfl ?_
 refine ie (bS rfl (bP 1 24 rfl ?_))
 have:=bT.cap g
 have:=bT.le g
 refine R5 _ _ g omm ?_
 have i:=C4 hR;clear hR;obtain ⟨h,e,hR⟩:=i
 refine zv rfl (B5y e) ?_
 refine cG 5 7 8 rfl ?_
 refine ie (A3 (bS rfl (bP 1 28 rfl ?_)))
 refine ie ?_
 refine zjb rfl hR ?_ ?_<;>clear hR<;>intro hR u
 ·refine bS rfl (bP 1 30 rfl ?_)
  have i:=C4 hR;clear hR;obtain ⟨d,a,hR⟩:=i
  refine zv rfl (B6f a) ?_
  have:=A9z (([]:List UInt8)++([b]:List UInt8));try rw [a] at this
  refine bP 7 9 rfl ?_
  refine ie (bS rfl (bP 1 35 rfl ?_))
  refine it rfl (B1 (c:=H5) (xs:=[d.1]) K2 rfl rfl rfl oki) fun l=>?_
  refine cG 2 4 5 rfl ?_
  subst hR
  refine ie (A8 ?_)
  exact cD hr hD (U0 rfl (A6 rfl) (A6 rfl)) ((zq _ 0),(zq _ 1)) bU cB
 refine A4 (nx (A3 (bS rfl (bP 1 37 rfl ?_))))
 refine ie ?_
 refine zjb rfl hR ?_ ?_<;>clear hR<;>intro hR p
 ·refine bS rfl (cG 3 4 5 rfl ?_)
  subst hR
  refine ie (A8 ?_)
  exact cD hr hD (U0 rfl (A6 rfl) (A6 rfl)) ((zq _ j.k),(zq _ 0)) bU cB
 refine A4 (nx (A3 (bS rfl (bP 3 41 rfl ?_))))
 refine ie (J4 rfl (bS rfl (it rfl (B1 (c:=H5) (xs:=[65533]) K2 rfl rfl rfl oki) fun n=>?_)))
 refine cG 2 4 5 rfl ?_
 subst hR
 refine ie (A8 ?_)
 exact cD hr hD (U0 rfl (A6 rfl) (A6 rfl)) ((zq _ 0),(zq _ 1)) bU cB
def A0q (p:List UInt8):Bool :=
 (B6 (P6 p) fun (a:Bool×Bool)=>((decide ((p.length:Int)=0))||(a.1&&(!a.2))))
theorem B9x {p:List UInt8} {c:Option Addr} {pk:Nat} {R:Bool} (hR:A0q p=R) (i:p.length≤9223372036854775807:=by exact bW) (f:p.length≤pk:=by exact bW):J5 Tryz.prog 228 [.slice c p.length pk] [sl cI c p] (bv R):=by
 refine cC Tryz.func228 fun X hX hr hD=>?_
 replace hR:=(A0q.eq_1 ..).symm.trans hR
 refine bS rfl (pp0 1 rfl ?_)
 refine ie (bS rfl (bP 1 6 rfl ?_))
 have h:=C4 hR;clear hR;obtain ⟨a,b,hR⟩:=h
 refine zv rfl (B5y b) ?_
 refine cG 5 3 4 rfl ?_
 refine ie (bS rfl (bP 4 13 rfl ?_))
 refine zir 6 1 13 19 (a.1&&(!a.2)) (fun g d=>?_) ?_
 ·refine bP 2 15 rfl ?_
  refine zia 3 1 15 18 (!a.2) (fun e=>?_) ?_
  ·refine bP 3 18 rfl ?_
   exact zai 2 15 _ e
  refine bP 1 19 rfl ?_
  exact zai 4 13 _ g
 refine bP 1 2 rfl ?_
 subst hR
 refine ie (A8 ?_)
 exact F7 hr hD
def Z7 (b:UInt8) (a:List UInt8):List UInt8×List Int :=
 (B6 (P6 ((([]:List UInt8)++a)++([b]:List UInt8))) fun (c:Bool×Bool)=>(bif c.2 then (B6 (M8 ((([]:List UInt8)++a)++([b]:List UInt8))) fun (e:Int×Int×Int)=>(([]:List UInt8),([e.1]:List Int))) else (bif c.1 then (((([]:List UInt8)++a)++([b]:List UInt8)),([]:List Int)) else (bif (decide ((a.length:Int)=0)) then (([]:List UInt8),([65533]:List Int)) else (B6 (A7b b) fun (d:List UInt8×List Int)=>(d.1,(([65533]:List Int)++d.2)))))))
def A2b (pending:List UInt8) (b:UInt8):List UInt8×List Int :=
 (bif (!(A0q pending)) then Z7 b ([]:List UInt8) else Z7 b pending)
theorem C2z (b:UInt8) (p:List UInt8):(Z7 b p).1.length≤4∧(Z7 b p).2.length≤3:=by
 unfold Z7
 simp only [B6]
 have a:=B9s b
 cases h2:(P6 ((([]:List UInt8)++p)++([b]:List UInt8))).2 with
 | true=>simp
 | false =>
  rw [cond_false]
  cases h1:(P6 ((([]:List UInt8)++p)++([b]:List UInt8))).1 with
  | true =>
   have:=C9i _ h1
   simp only [cond_true,List.length_nil];omega
  | false =>
   rw [cond_false]
   cases (decide ((p.length:Int)=0)) with
   | true=>simp
   | false=>simp only [cond_false,List.length_append,List.length_cons,List.length_nil];omega
theorem B8h (p:List UInt8) (b:UInt8):(A2b p b).1.length≤4∧(A2b p b).2.length≤3:=by
 unfold A2b
 cases (!(A0q p))<;>simp only [cond_true,cond_false]<;>exact C2z b _
theorem old {p:Prop} (h:p:=by first|omega|(simp only [List.length_take,List.length_drop,List.length_append,List.length_cons,List.length_nil,List.length_set,List.length_map,F2];omega)|decide):p:=h
theorem D2q {pending:List UInt8} {b:UInt8} {pendingq:Option Addr} {pendingk:Nat} {R:List UInt8×List Int} (hR:A2b pending b=R) (v:pending.length≤9223372036854775807:=by exact bW) (u:pending.length≤pendingk:=by exact bW) (hp:pending.length≤4:=by exact bW):Con Tryz.prog 196 [.slice pendingq pending.length pendingk,.int .u8 (b.toNat:Int)] [] [sl cI pendingq pending] ({t:Option Addr×Nat // R.1.length≤t.2∧R.1.length≤9223372036854775807}×{t:Option Addr×Nat // R.2.length≤t.2∧R.2.length≤9223372036854775807}) (fun x=>.tuple #[.slice x.1.1.1 R.1.length x.1.1.2,.slice x.2.1.1 R.2.length x.2.1.2]) (fun x=>[]) (fun x=>[sl cI x.1.1.1 R.1,sl H5 x.2.1.1 R.2]):=by
 refine cC Tryz.func196 fun X hX hr hD=>?_
 replace hR:=(A2b.eq_1 ..).symm.trans hR
 refine bS rfl (pp0 2 rfl ?_)
 refine ie (A7y (un fun a=>un fun g e=>(Z7 b a=R∧a.length≤e∧a.length≤9223372036854775807∧a.length≤4,[(0,.slice g a.length e),(1,.int .u8 b.toNat)],[],[sl cI pendingq pending,sl cI g a])) ?_ ?_)
 ·refine bS rfl (bP 1 14 rfl ?_)
  refine zv rfl (B9x rfl) ?_
  refine bP 1 16 rfl ?_
  refine ie ?_
  refine zjb rfl hR ?_ ?_<;>clear hR<;>intro hR h1
  ·refine A1 1 rfl (bP 1 0 rfl ?_)
   refine A2 ?_
   exact W8 (_,_,0) ⟨hR,old,old,osj⟩ bU cB
  refine A4 ?_
  exact W8 (pending,pendingq,pendingk) ⟨hR,old,old,osj⟩ bU cB
 rintro ⟨a,g,e⟩
 rintro ⟨hR,o,p,hj⟩
 replace hR:=(Z7.eq_1 ..).symm.trans hR
 refine bS rfl (it rfl (B8e A4k rfl rfl) fun b2=>?_)
 have:([]:List UInt8).length=0:=rfl
 refine bP 1 18 rfl ?_
 refine it rfl (A4i (f:=cI) (r:=(⟨some b2,0,[]⟩:VR)) (xs:=([]:List UInt8)) (ys:=a) (pre:=[]) (post:=[]) B8x (fun _=>rfl) (fun _=>rfl) rfl rfl rfl rfl rfl rfl rfl rfl (A5 1 rfl) (show bT 1 0 _ from ⟨rfl,Nat.zero_le _,Nat.zero_le _⟩) omh omh) fun ⟨r3,s⟩=>?_
 have:=bT.le s
 have:=bT.cap s
 refine bP 1 20 rfl ?_
 refine it rfl (B1 (c:=cI) (xs:=[b]) A4k rfl rfl rfl oki) fun b5=>?_
 have:([b]:List UInt8).length=1:=rfl
 refine it rfl (S7 (f:=cI) (r:=r3) (xs:=(([]:List UInt8)++a)) (ys:=([b]:List UInt8)) (pre:=[]) (post:=[]) B8x (fun _=>rfl) (fun _=>rfl) rfl rfl rfl rfl rfl rfl rfl rfl rfl (A5 0 rfl) s omh omh) fun ⟨r6,m⟩=>?_
 have:=bT.le m
 have:=bT.cap m
 refine bP 1 6 rfl ?_
 refine ie (bS rfl (bP 1 24 rfl ?_))
 have:=bT.cap m
 have:=bT.le m
 refine R5 _ _ m omm ?_
 have w:=C4 hR;clear hR;obtain ⟨n,j,hR⟩:=w
 refine zv rfl (B5y j) ?_
 refine cG 5 7 8 rfl ?_
 refine ie (A3 (bS rfl (bP 1 28 rfl ?_)))
 refine ie ?_
 refine zjb rfl hR ?_ ?_<;>clear hR<;>intro hR h8
 ·refine bS rfl (bP 1 30 rfl ?_)
  have w:=C4 hR;clear hR;obtain ⟨h,d,hR⟩:=w
  refine zv rfl (B6f d) ?_
  have:=A9z ((([]:List UInt8)++a)++([b]:List UInt8));try rw [d] at this
  refine bP 7 9 rfl ?_
  refine ie (bS rfl (bP 1 35 rfl ?_))
  refine it rfl (B1 (c:=H5) (xs:=[h.1]) K2 rfl rfl rfl oki) fun b9=>?_
  have:([h.1]:List Int).length=1:=rfl
  refine cG 2 4 5 rfl ?_
  subst hR
  refine ie (A8 ?_)
  exact cD hr hD (U0 rfl (A6 rfl) (A6 rfl)) ((zq _ 0),(zq _ 1)) bU cB
 refine A4 (nx (A3 (bS rfl (bP 1 37 rfl ?_))))
 refine ie ?_
 refine zjb rfl hR ?_ ?_<;>clear hR<;>intro hR ad
 ·refine bS rfl (cG 3 4 5 rfl ?_)
  subst hR
  refine ie (A8 ?_)
  exact cD hr hD (U0 rfl (A6 rfl) (A6 rfl)) ((zq _ r6.k),(zq _ 0)) bU cB
 refine A4 (nx (A3 (bS rfl (bP 3 41 rfl ?_))))
 refine ie ?_
 refine zjd rfl hR ?_ ?_<;>clear hR<;>intro hR ah a8
 ·refine bS rfl (it rfl (B1 (c:=H5) (xs:=[65533]) K2 rfl rfl rfl oki) fun a6=>?_)
  have:([65533]:List Int).length=1:=rfl
  refine cG 2 4 5 rfl ?_
  subst hR
  refine ie (A8 ?_)
  exact cD hr hD (U0 rfl (A6 rfl) (A6 rfl)) ((zq _ 0),(zq _ 1)) bU cB
 refine A4 (nx (bS rfl (bP 1 44 rfl ?_)))
 have w:=C4 hR;clear hR;obtain ⟨l,i,hR⟩:=w
 refine zc rfl (D5t i) fun ⟨⟨⟨a4,a2⟩,y⟩,⟨⟨af,aj⟩,z⟩⟩=>?_
 obtain ⟨a9,a7⟩:=y
 obtain ⟨aa,ab⟩:=z
 have:=B9s b;try rw [i] at this
 refine cG 5 12 13 rfl ?_
 refine ie (bS rfl (bP 1 48 rfl ?_))
 refine it rfl (B1 (c:=H5) (xs:=[65533]) K2 rfl rfl rfl oki) fun ae=>?_
 have:([65533]:List Int).length=1:=rfl
 refine bP 1 50 rfl ?_
 refine it rfl (C3c (f:=H5) (xs:=([65533]:List Int)) (ys:=l.2) D1t (fun _=>rfl) (fun _=>rfl) rfl rfl rfl rfl rfl rfl opx opx (by rfl) (A5 0 rfl) (A5 2 rfl) omh omh) fun ⟨⟨a5,a0⟩,a1⟩=>?_
 refine cG 2 4 5 rfl ?_
 subst hR
 refine ie (A8 ?_)
 exact cD hr hD (U0 rfl (A6 rfl) (A6 rfl)) (_,(zq _ _)) bU cB
def A9b (pending:List UInt8):List Int :=
 (bif ((decide ((0:Int)<(pending.length:Int)))&&(A0q pending)) then ([65533]:List Int) else ([]:List Int))
theorem B8l (p:List UInt8):(A9b p).length≤1:=by
 unfold A9b
 cases ((decide ((0:Int)<(p.length:Int)))&&(A0q p))<;>simp
theorem D3n {pending:List UInt8} {pendingq:Option Addr} {pendingk:Nat} {R:List Int} (hR:A9b pending=R) (b:pending.length≤9223372036854775807:=by exact bW) (a:pending.length≤pendingk:=by exact bW):Con Tryz.prog 197 [.slice pendingq pending.length pendingk] [] [sl cI pendingq pending] ({t:Option Addr×Nat // R.length≤t.2∧R.length≤9223372036854775807}) (fun x=>.slice x.1.1 R.length x.1.2) (fun x=>[]) (fun x=>[sl H5 x.1.1 R]):=by
 refine cC Tryz.func197 fun X hX hr hD=>?_
 replace hR:=(A9b.eq_1 ..).symm.trans hR
 refine bS rfl (pp0 1 rfl ?_)
 refine ie (A3 (bS rfl (bP 4 6 rfl ?_)))
 refine zid 3 0 6 9 (A0q pending) (fun g f=>?_) ?_
 ·refine bP 1 7 rfl ?_
  refine zv rfl (B9x rfl) ?_
  refine bP 1 9 rfl ?_
  exact zai 4 6 9 g
 refine ie ?_
 refine zjb rfl hR ?_ ?_<;>clear hR<;>intro hR e
 ·have d:=bV e
  refine bS rfl (it rfl (B1 (c:=H5) (xs:=[65533]) K2 rfl rfl rfl oki) fun h=>?_)
  have:([65533]:List Int).length=1:=rfl
  refine bP 1 2 rfl ?_
  subst hR
  refine ie (A8 ?_)
  exact cD hr hD (K7 rfl (A6 rfl)) (zq _ 1) bU cB
 refine A4 (nx (bS rfl (bP 1 2 rfl ?_)))
 subst hR
 refine ie (A8 ?_)
 exact cD hr hD (K7 rfl (A6 rfl)) (zq _ 0) bU cB
def U6:List UInt8→List Int→List UInt8→Nat→List Int
 | [],out,pending,i=>(B6 (A9b pending) fun (b:List Int)=>(out++b))
 | hd_l0::tl_l0,out,pending,i=>(B6 (A2b pending hd_l0) fun (a:List UInt8×List Int)=>U6 tl_l0 (out++a.2) a.1 (i+1))
def A4s (s:List UInt8):List Int :=
 U6 s ([]:List Int) ([]:List UInt8) 0
theorem B3m:∀ (xs:List UInt8) (a:List Int) (p:List UInt8) (i:Nat),(U6 xs a p i).length≤a.length+3 * xs.length+1
 | [],a,p,i=>by
  have:=B8l p
  simp only [U6,B6,List.length_append,List.length_nil];omega
 | x::xs,a,p,i=>by
  have:=B8h p x
  have:=B3m xs (a++(A2b p x).2) (A2b p x).1 (i+1)
  simp only [U6,B6,List.length_append,List.length_cons] at *;omega
theorem C7v (s:List UInt8):(A4s s).length≤3 * s.length+1:=by
 have:=B3m s [] [] 0
 simp only [List.length_nil] at this
 unfold A4s;omega
theorem D2x (s:List UInt8) (hs:s.length≤1000000) (R:List Int) (hR:A4s s=R):Con Tryz.prog 128 [sv s] [] [] ({r:VR // bT 1 R.length r}) (fun x=>.slice (va x.1.q) R.length x.1.k) (fun x=>((vo H5 3 x.1 R)++([]))) (fun x=>[]):=by
 refine zco Tryz.func128 [(0,_)] fun X hX hr hD=>?_
 replace hR:=(A4s.eq_1 ..).symm.trans hR
 refine sr 1 rfl (ip' 1 0 [] ?_)
 refine ie (sr 1 rfl (ip' 1 0 [(3,.slice none 0 0)] ?_))
 refine ie (sr 1 rfl (ip' 1 0 [(4,.slice none 0 0)] ?_))
 refine ie (A3 (sr 1 rfl (ip' 1 0 [(5,iv 0)] ?_)))
 refine ie (A9 ?_)
 refine F4s (fun e d pending pendingq pendingk i=>(i≤s.length∧U6 (s.drop i) e pending i=R∧bT 1 e.length d∧pending.length≤pendingk∧pending.length≤9223372036854775807∧pending.length≤4∧e.length≤3 * i,[(0,_),(3,.slice (va d.q) e.length d.k),(4,.slice pendingq pending.length pendingk),(5,iv i)],((vo H5 3 d e)++([])),[sl cI pendingq pending],s.length - i)) _ _ _ _ 0 0 ⟨opx,hR,bT.nil,old,old,oom,oom⟩ (mc [_] [true] rfl oxs) (A7.con1 B0i A7.nil) ?_
 rintro e d pending pendingq pendingk i ⟨ac,hR,j,p,t,a9,aa⟩
 have:=bT.le j
 refine A3 (sr 4 rfl (ip' 4 0 [(11,bv (decide (i<(s.length:Int))))] ?_))
 refine ie (G4 rfl (fun y=>?_) (fun y=>?_))
 ·have u:(i:Int)<(s.length:Int):=by simpa using y
  rw [A1b 0 (show i<s.length by omega)] at hR;replace hR:=(U6.eq_2 ..).symm.trans hR
  refine A4 (nx (A3 (A9 (sr _ rfl (ip' 3 7 [(15,.slice pendingq pending.length pendingk),(16,sv s),(17,iv i)] ?_)))))
  refine ix rfl (E0f Tryz.underlying9 rfl rfl rfl i rfl opx) ?_
  have z:=C4 hR;clear hR;obtain ⟨a,g,hR⟩:=z
  refine zcm (D2q (pending:=pending) (b:=(s.getD i 0)) (pendingq:=pendingq) (pendingk:=pendingk) g old old osj) A7.refl fun ⟨⟨⟨q3,k4⟩,a0⟩,⟨⟨q8,k9⟩,v⟩⟩=>?_
  obtain ⟨af,ae⟩:=a0
  obtain ⟨a6,a5⟩:=v
  have:=B8h pending (s.getD i 0);try rw [g] at this
  refine ip' 5 0 [(6,.slice q3 a.1.length k4),(7,.slice q8 a.2.length k9)] ?_
  refine ie (sr 2 rfl (ip' 2 0 [(4,.slice q3 a.1.length k4)] ?_))
  refine ie (A1 4 rfl (ip' 2 2 [(23,.slice (va d.q) e.length d.k),(24,.slice q8 a.2.length k9)] ?_))
  refine it rfl (A4i (f:=H5) (r:=d) (xs:=e) (ys:=a.2) (pre:=[]) (post:=[]) D1t (fun _=>rfl) (fun _=>rfl) rfl rfl rfl rfl rfl rfl rfl rfl (A5 1 rfl) j omh omh) fun ⟨n,m⟩=>?_
  have:=@List.length_append _ e a.2
  have:=bT.le m
  have:=bT.cap m
  refine ip' 1 0 [(3,.slice (va n.q) ((e++a.2).length) n.k)] ?_
  refine A2 (nx (A1 3 rfl (ip' 1 2 [(12,iv i)] ?_)))
  refine ix rfl (B3 rfl rfl rfl rfl opx) ?_
  refine ip' 1 0 [(5,iv (i+1))] ?_
  refine A2 ?_
  exact F4c (z1:=e) (z2:=d) (z3:=pending) (z4:=pendingq) (z5:=pendingk) (z6:=i) (e++a.2) n a.1 q3 k4 (i+1) ⟨opx,hR,m,old,old,opx,odi⟩ olr (mc [vo H5 3 n (e++a.2)] [true] rfl oxs) (A7.pick [0] rfl)
 have u:¬ ((i:Int)<(s.length:Int)):=by simpa using y
 rw [A1d u] at hR;replace hR:=(U6.eq_1 ..).symm.trans hR
 refine F4 (nx (sr 5 rfl (ip' 2 3 [(26,.slice (va d.q) e.length d.k),(27,.slice pendingq pending.length pendingk)] ?_)))
 have z:=C4 hR;clear hR;obtain ⟨c,h,hR⟩:=z
 refine zcm (D3n (pending:=pending) (pendingq:=pendingq) (pendingk:=pendingk) h old old) A7.refl fun ⟨⟨ab,ad⟩,w⟩=>?_
 obtain ⟨a3,a8⟩:=w
 have:=B8l pending;try rw [h] at this
 refine it rfl (A4i (f:=H5) (r:=d) (xs:=e) (ys:=c) (pre:=[]) (post:=[]) D1t (fun _=>rfl) (fun _=>rfl) rfl rfl rfl rfl rfl rfl rfl rfl (A5 0 rfl) j omh omh) fun ⟨o,l⟩=>?_
 have:=@List.length_append _ e c
 have:=bT.le l
 have:=bT.cap l
 refine ip' 1 0 [(2,.slice (va o.q) ((e++c).length) o.k)] ?_
 subst hR
 refine ie (A8 ?_)
 exact cD hr hD (K7 rfl (A6 rfl)) ⟨o,l⟩ (mc [_] [true] rfl oxs) A7.nil
def G5 (cp:Int):Int :=
 (bif (decide (cp<128)) then 1 else (bif (decide (cp<2048)) then 2 else (bif (decide (cp<65536)) then 3 else 4)))
theorem B5u (cp:Int):1≤G5 cp∧G5 cp≤4:=by
 unfold G5
 cases decide (cp<128)<;>cases decide (cp<2048)<;>cases decide (cp<65536)<;>simp
theorem D7b {cp R:Int} (hR:G5 cp=R):J5 Tryz.prog 210 [iv cp] [] (iv R):=by
 refine cC Tryz.func210 fun X hX hr hD=>?_
 replace hR:=(G5.eq_1 ..).symm.trans hR
 refine bS rfl (pp0 1 rfl ?_)
 refine ie (A3 (bS rfl (bP 2 4 rfl ?_)))
 refine ie ?_
 refine zjd rfl hR ?_ ?_<;>clear hR<;>intro hR e b
 ·refine bS rfl (bP 1 2 rfl ?_)
  subst hR
  refine ie (A8 ?_)
  exact F7 hr hD
 refine A4 (nx (A3 (bS rfl (bP 2 6 rfl ?_))))
 refine ie ?_
 refine zjd rfl hR ?_ ?_<;>clear hR<;>intro hR d c
 ·refine bS rfl (bP 1 2 rfl ?_)
  subst hR
  refine ie (A8 ?_)
  exact F7 hr hD
 refine A4 (nx (A3 (bS rfl (bP 2 8 rfl ?_))))
 refine ie ?_
 refine zjd rfl hR ?_ ?_<;>clear hR<;>intro hR f a
 ·refine bS rfl (bP 1 2 rfl ?_)
  subst hR
  refine ie (A8 ?_)
  exact F7 hr hD
 refine A4 (nx (bS rfl (bP 1 2 rfl ?_)))
 subst hR
 refine ie (A8 ?_)
 exact F7 hr hD
def R0 (a:Int):Nat→Int→List UInt8→Int→List UInt8
 | 0,_,_,_=>[]
 | fu1+1,cp2,b,i=>(bif (decide ((0:Int)<i)) then R0 a fu1 (IntKind.i64.wrap (Int.tdiv cp2 64)) (b.set ((i).toNat) (by8 (IntKind.u8.wrap (128+(Int.tmod cp2 64))))) (i - 1) else (b.set 0 (by8 (IntKind.u8.wrap ((([0,0,192,224,240]:List Int).getD ((G5 a).toNat) 0)+cp2)))))
def A3k (a:Int):List UInt8 :=
 (bif (decide ((G5 a)=1)) then ([(by8 (IntKind.u8.wrap a))]:List UInt8) else R0 a ((((G5 a) - 1) - (0:Int)).toNat+1) a (List.replicate ((G5 a).toNat) (0:UInt8)) ((G5 a) - 1))
def B1e (cp:Int):List UInt8 :=
 (bif (!(A0e cp)) then A3k 65533 else A3k cp)
theorem B6i (c:Int):∀ (fu:Nat) (x:Int) (b:List UInt8) (i:Int),b.length≤4→(R0 c fu x b i).length≤4
 | 0,x,b,i,h=>by simp [R0]
 | fu+1,x,b,i,h=>by
  simp only [R0]
  cases (decide ((0:Int)<i)) with
  | true=>rw [cond_true];exact B6i c fu _ _ _ (by rw [List.length_set];exact h)
  | false=>rw [cond_false,List.length_set];exact h
theorem C6e (c:Int):(A3k c).length≤4:=by
 have:=B5u c
 unfold A3k
 cases (decide ((G5 c)=1)) with
 | true=>simp
 | false=>rw [cond_false];exact B6i c _ _ _ _ (by rw [List.length_replicate];omega)
theorem D3d (c:Int):(B1e c).length≤4:=by
 unfold B1e
 cases (!(A0e c))<;>simp only [cond_true,cond_false]<;>exact C6e _
theorem D9o {cp:Int} {R:List UInt8} (hR:B1e cp=R):J5 Tryz.prog 169 [iv cp] [] (sv R):=by
 refine cC Tryz.func169 fun X hX hr hD=>?_
 replace hR:=(B1e.eq_1 ..).symm.trans hR
 refine bS rfl (pp0 1 rfl ?_)
 refine ie (A7y (fun d=>(A3k d=R∧d≤1114111∧0≤d,[(0,iv d)],[],[])) ?_ ?_)
 ·refine bS rfl (bP 1 7 rfl ?_)
  refine zv rfl (C1m rfl) ?_
  refine bP 1 9 rfl ?_
  refine ie ?_
  refine zjb rfl hR ?_ ?_<;>clear hR<;>intro hR h1
  ·refine A1 1 rfl (bP 1 0 rfl ?_)
   refine A2 ?_
   exact W8 _ ⟨hR,opx⟩ bU A7.nil
  have ae:0≤cp∧cp≤1114111:=by have q:=h1;simp [A0e] at q;omega
  refine A4 ?_
  exact W8 _ ⟨hR,opx⟩ bU A7.nil
 intro d
 rintro ⟨hR,a5⟩
 replace hR:=(A3k.eq_1 ..).symm.trans hR
 refine bS rfl (bP 1 10 rfl ?_)
 refine zv rfl (D7b rfl) ?_
 have:=B5u d
 refine bP 1 3 rfl ?_
 refine ie (A3 (bS rfl (bP 2 13 rfl ?_)))
 refine ie ?_
 refine zjd rfl hR ?_ ?_<;>clear hR<;>intro hR h2 a8
 ·refine bS rfl (bP 1 14 rfl ?_)
  refine ix rfl (H8 (J9.pure rfl) (B1l)) ?_
  refine it rfl (B1 (c:=cI) (xs:=[(by8 (IntKind.u8.wrap d))]) A4k rfl rfl rfl oki) fun b3=>?_
  refine ix rfl (C0o Tryz.underlying9 Tryz.underlying98 rfl rfl (A5 0 rfl) rfl oki) ?_
  refine bP 1 2 rfl ?_
  subst hR
  refine ie (A8 ?_)
  exact F7 hr hD
 refine A4 (nx (bS rfl (bP 1 18 rfl ?_)))
 refine it rfl (C3v (f:=cI) (l:=(G5 d).toNat) (c:=(G5 d).toNat) 0 B8x F5h.ok (fun _=>rfl) rfl (by exact congrArg (fun z=>some (Value.int .i64 z)) (show (G5 d)=(((G5 d).toNat:Nat):Int) by omega)) (by exact congrArg (fun z=>some (Value.int .i64 z)) (show (G5 d)=(((G5 d).toNat:Nat):Int) by omega)) opx omh opx) fun ⟨r4,h⟩=>?_
 refine bP 1 4 rfl ?_
 refine ie (A3 (bS rfl (bP 1 20 rfl ?_)))
 refine ix rfl (M4 rfl rfl rfl rfl opx) ?_
 refine bP 1 5 rfl ?_
 refine ie (A9 ?_)
 refine A3q (un fun fu=>un fun e=>un fun b=>un fun o i=>((i - 0).toNat<fu∧R0 d fu e b i=R∧bT 1 b.length o∧(0≤e∧e≤1114111)∧b.length=G5 d∧0≤i∧i<G5 d,[(0,iv e),(3,_),(4,.slice (va o.q) b.length o.k),(5,iv i)],((vo _ 5 o b)++([])),_,fu)) (_,d,_,_,_) ⟨(Nat.lt_succ_self _),hR,h,opx,(by first|omega|(simp only [List.length_replicate];omega)),opx⟩ bU A7.nil ?_
 rintro ⟨fu,e,b,o,i⟩ ⟨a7,hR,g,x,a6,ah⟩
 obtain ⟨fu1,rfl⟩:∃ m,fu=m+1:=⟨fu - 1,by omega⟩
 replace hR:=(R0.eq_2 ..).symm.trans hR
 have a1:=Int.tdiv_eq_ediv_of_nonneg (a:=e) (b:=64) x.1
 have af:=Int.tmod_eq_emod_of_nonneg (a:=e) (b:=64) x.1
 have ac:0≤([0,0,192,224,240]:List Int).getD ((G5 d).toNat) 0∧([0,0,192,224,240]:List Int).getD ((G5 d).toNat) 0≤240:=by generalize (G5 d).toNat=k;rcases k with _ | _ | _ | _ | _ | k<;>simp
 refine A3 (bS rfl (bP 2 23 rfl ?_))
 refine ie ?_
 refine zjd rfl hR ?_ ?_<;>clear hR<;>intro hR h7 ad
 ·refine A4 (nx (A3 (A9 (bS rfl (pp3 3 26 27 28 rfl ?_)))))
  refine ix rfl (E2d rfl rfl rfl ozw rfl) ?_
  refine ix rfl (B3 rfl rfl rfl rfl opx) ?_
  refine ix rfl (H8 (v:=.int _ (IntKind.u8.wrap (128+(Int.tmod e 64)))) (J9.pure rfl) (B1l)) ?_
  obtain ⟨b8,y⟩:=bT.some g opx
  obtain ⟨a4,w,t⟩:=o
  obtain rfl:a4=some b8:=y
  refine ix rfl (A1k A4k rfl rfl rfl ((i).toNat) opx opx) ?_
  refine it rfl (A5x (us:=[.int .u8 ((by8 (IntKind.u8.wrap (128+(Int.tmod e 64)))).toNat:Int)]) (u':=(by8 (IntKind.u8.wrap (128+(Int.tmod e 64))))) (c:=cI) (sz:=1) ty5 (fun _=>rfl) rfl rfl rfl 0 rfl rfl rfl rfl ((i).toNat) 0 rfl (gd 0 opx) rfl rfl) fun _=>?_
  refine ie (A1 3 rfl (bP 1 33 rfl ?_))
  refine ix rfl (E5z rfl rfl rfl ozw) ?_
  refine bP 1 0 rfl ?_
  refine A2 (nx (A1 3 rfl (bP 1 24 rfl ?_)))
  refine ix rfl (M4 rfl rfl rfl rfl opx) ?_
  refine bP 1 5 rfl ?_
  refine A2 ?_
  exact A2g (_,_,_,_,_) ⟨opx,hR,(bT.cast g oom),(by rw [a1,show IntKind.i64.wrap (e / 64)=e / 64 from A3i (by simp [IntKind.min,IntKind.signed,IntKind.bits];omega) (by simp [IntKind.max,IntKind.signed,IntKind.bits];omega)];omega),(by first|omega|(simp only [List.length_set];omega)),opx⟩ (Nat.lt_succ_self _) bU A7.nil
 refine F4 (nx (bS rfl (zra 3 [0] (fun n=>[(6,pt n 0)]) (fun _=>[iv 0,iv 0,iv 192,iv 224,iv 240]) 305 fun n=>?_)))
 refine ie (bS rfl (cG 2 36 37 rfl ?_))
 refine ix rfl (A6i Tryz.underlying305 cH rfl rfl rfl ((G5 d).toNat) opx opx) ?_
 refine ix rfl (Z9 (u:=iv ([0,0,192,224,240].getD _ 0)) (c:=H5) cH (fun _=>rfl) rfl rfl 0 rfl _ 0 rfl (gd 0 oqd) rfl) ?_
 refine bP 1 40 rfl ?_
 refine ix rfl (B3 rfl rfl rfl rfl opx) ?_
 refine ix rfl (H8 (J9.pure rfl) (B1l)) ?_
 obtain ⟨b14,p⟩:=bT.some g opx
 obtain ⟨a3,a2,a0⟩:=o
 obtain rfl:a3=some b14:=p
 refine ix rfl (A1k A4k rfl rfl rfl 0 rfl opx) ?_
 refine it rfl (A5x (us:=[.int .u8 ((by8 (IntKind.u8.wrap ((([0,0,192,224,240]:List Int).getD ((G5 d).toNat) 0)+e))).toNat:Int)]) (u':=(by8 (IntKind.u8.wrap ((([0,0,192,224,240]:List Int).getD ((G5 d).toNat) 0)+e)))) (c:=cI) (sz:=1) ty5 (fun _=>rfl) rfl rfl rfl 1 rfl rfl rfl rfl 0 0 rfl (gd 0 opx) rfl rfl) fun _=>?_
 refine ie (bS rfl (bP 1 44 rfl ?_))
 refine ix rfl (D7y (pre:=[_]) Tryz.underlying9 Tryz.underlying98 rfl (by first|rfl|(rw [List.length_set];rfl)) rfl (bT.cast g oom) oki) ?_
 refine bP 1 2 rfl ?_
 subst hR
 refine ie (A8 ?_)
 exact F7 hr hD
def A3t:List Int→List UInt8→Nat→List UInt8
 | [],s,i=>s
 | hd_l0::tl_l0,s,i=>(B6 (B1e hd_l0) fun (a:List UInt8)=>A3t tl_l0 (s++a) (i+1))
def B0r (a:List Int):List UInt8 :=
 A3t a ([]:List UInt8) 0
theorem D7e {a:List Int} {d:Option Addr} {codesk:Nat} {R:List UInt8} (hR:B0r a=R) (j:a.length≤9223372036854775807:=by exact bW) (g:a.length≤codesk:=by exact bW) (n:a.length≤1000000:=by exact bW):J5 Tryz.prog 129 [.slice d a.length codesk] [sl H5 d a] (sv R):=by
 refine cC Tryz.func129 fun X hX hr hD=>?_
 replace hR:=(B0r.eq_1 ..).symm.trans hR
 refine bS rfl (pp0 1 rfl ?_)
 refine ie (bS rfl (bP 1 3 rfl ?_))
 refine ie (A3 (bS rfl (bP 1 4 rfl ?_)))
 refine ie (A9 (A3q (un fun s i=>(i≤a.length∧A3t (a.drop i) s i=R∧s.length≤4 * i,[(0,_),(3,sv s),(4,iv i)],_,_,a.length - i)) (_,0) ⟨opx,hR,oom⟩ bU A7.refl ?_))
 rintro ⟨s,i⟩ ⟨o,hR,m⟩
 refine A3 (bS rfl (bP 4 8 rfl ?_))
 refine ie (G4 rfl (fun k=>?_) (fun k=>?_))
 ·have h:=bV k
  rw [A1b 0 (show i<a.length by omega)] at hR;replace hR:=(A3t.eq_2 ..).symm.trans hR
  refine A4 (nx (A3 (A9 (A1 8 rfl (pp3 3 11 12 13 rfl ?_)))))
  refine K8 0 rfl opx fun p f=>?_
  refine ix rfl (F8 K2 rfl rfl f rfl i rfl opx) ?_
  refine ix rfl (C9 cH rfl rfl (H2 (sz:=1) f (fun _=>rfl) 0 rfl (gd 0 opx)) rfl) ?_
  have l:=C4 hR;clear hR;obtain ⟨e,b,hR⟩:=l
  refine zv rfl (D9o b) ?_
  have:=D3d (a.getD i 0);try rw [b] at this
  refine ix rfl (zst rfl rfl rfl) ?_
  have:=@List.length_append _ s e
  refine bP 1 3 rfl ?_
  refine A2 (nx (A1 3 rfl (bP 1 9 rfl ?_)))
  refine ix rfl (B3 rfl rfl rfl rfl opx) ?_
  refine bP 1 4 rfl ?_
  refine A2 ?_
  exact A2g (_,_) ⟨opx,hR,odi⟩ olr bU A7.refl
 have h:=bV k
 rw [A1d h] at hR;replace hR:=(A3t.eq_1 ..).symm.trans hR
 refine F4 (nx (bS rfl (bP 2 2 rfl ?_)))
 subst hR
 refine ie (A8 ?_)
 exact F7 hr hD
def A4q (s:List UInt8):Nat→List Int→Nat→Bool
 | 0,_,_=>false
 | fu1+1,l,i=>(bif (decide ((i:Int)<(l.length:Int))) then (bif ((decide ((l.getD i 0)<32))||((decide ((127:Int)≤(l.getD i 0)))&&(decide ((l.getD i 0)≤159)))) then false else A4q s fu1 l (i+1)) else (B6 (B0r l) fun (a:List UInt8)=>(decide (a=s))))
def A0d (s:List UInt8):Bool :=
 (bif (decide ((510:Int)<(s.length:Int))) then false else (B6 (A4s s) fun (a:List Int)=>A4q s ((a.length - 0)+1) a 0))
theorem D1e (s:List UInt8) (h:A0d s=true):s.length≤510:=by
 unfold A0d at h
 by_cases e:(510:Int)<(s.length:Int)
 ·rw [decide_eq_true e] at h;simp at h
 ·omega
theorem oyd {p:Prop} (h:p:=by first|omega|(simp only [List.length_append,List.length_cons,List.length_nil,List.length_take,List.length_drop,List.length_set];omega)):p:=h
theorem D2r {s:List UInt8} {R:Bool} (hR:A0d s=R):J5 Tryz.prog 90 [sv s] [] (bv R):=by
 refine zco Tryz.func90 [(0,_)] fun X hX hr hD=>?_
 replace hR:=(A0d.eq_1 ..).symm.trans hR
 refine bS rfl (ip' 1 0 [] ?_)
 refine ie (A3 (bS rfl (ip' 3 0 [(7,bv (decide (510<(s.length:Int))))] ?_)))
 refine ie ?_
 refine zjd rfl hR ?_ ?_<;>clear hR<;>intro hR h1 a2
 ·refine bS rfl (ip' 1 0 [(2,bv false)] ?_)
  subst hR
  refine ie (A8 ?_)
  exact F7 hr hD
 refine A4 (nx (bS rfl (ip' 1 2 [(8,sv s)] ?_)))
 have t:=C4 hR;clear hR;obtain ⟨a,b,hR⟩:=t
 refine it rfl (H1 (L2:=[]) (D2x s oyd a b) rfl rfl rfl rfl rfl A7.nil (List.Perm.refl _) (fun ⟨j,g⟩=>((vo H5 3 j a)++([]))) (fun _=>by first|rfl|simp only [List.append_nil,List.cons_append,List.nil_append,List.append_assoc])) fun ⟨j,g⟩=>?_
 have:=bT.le g
 have:=C7v s;try rw [b] at this
 refine ip' 1 0 [(3,.slice (va j.q) a.length j.k)] ?_
 refine ie (A3 (bS rfl (ip' 1 0 [(4,iv 0)] ?_)))
 refine ie (A9 ?_)
 refine A3q (un fun fu=>un fun l=>un fun lr i=>((l.length - i)<fu∧A4q s fu l i=R∧bT 1 l.length lr∧l.length≤10000,[(0,_),(3,.slice (va lr.q) l.length lr.k),(4,iv i)],((vo _ 3 lr l)++([])),_,fu)) (_,a,j,0) ⟨(Nat.lt_succ_self _),hR,g,opx⟩ (mc [_] [true] rfl oxs) A7.nil ?_
 rintro ⟨fu,l,lr,i⟩ ⟨a3,hR,d,a0⟩
 obtain ⟨fu1,rfl⟩:∃ m,fu=m+1:=⟨fu - 1,by omega⟩
 replace hR:=(A4q.eq_2 ..).symm.trans hR
 refine A3 (bS rfl (bP 4 13 rfl ?_))
 refine ie ?_
 refine zjd rfl hR ?_ ?_<;>clear hR<;>intro hR h5 a1
 ·refine A4 (nx (A3 (A9 (bS rfl (cG 2 16 17 rfl ?_)))))
  obtain ⟨b6,w⟩:=bT.some d opx
  obtain ⟨q8,o,f⟩:=lr
  obtain rfl:q8=some b6:=w
  refine ix rfl (A1k K2 rfl rfl rfl i rfl opx) ?_
  refine ix rfl (Z9 (u:=iv _) (sz:=1) cH (fun _=>rfl) rfl rfl 0 rfl i 0 rfl (gd 0 opx) rfl) ?_
  refine bP 2 21 rfl ?_
  refine zir 13 0 21 34 ((decide (127≤(l.getD i 0)))&&(decide ((l.getD i 0)≤159))) (fun v y=>?_) ?_
  ·refine cG 2 22 23 rfl ?_
   refine ix rfl (A1k K2 rfl rfl rfl i rfl opx) ?_
   refine ix rfl (Z9 (u:=iv _) (sz:=1) cH (fun _=>rfl) rfl rfl 0 rfl i 0 rfl (gd 0 opx) rfl) ?_
   refine bP 2 27 rfl ?_
   refine zid 6 1 27 33 (decide ((l.getD i 0)≤159)) (fun x z=>?_) ?_
   ·refine cG 2 28 29 rfl ?_
    refine ix rfl (A1k K2 rfl rfl rfl i rfl opx) ?_
    refine ix rfl (Z9 (u:=iv _) (sz:=1) cH (fun _=>rfl) rfl rfl 0 rfl i 0 rfl (gd 0 opx) rfl) ?_
    refine bP 2 33 rfl ?_
    exact A2 (J0 6 27 _ x A7.nil (mc [_] [true] rfl oxs) rfl rfl rfl rfl rfl)
   refine bP 1 34 rfl ?_
   exact A2 (J0 8 21 _ v A7.nil (mc [_] [true] rfl oxs) rfl rfl rfl rfl rfl)
  refine ie ?_
  refine zjb rfl hR ?_ ?_<;>clear hR<;>intro hR n
  ·have p:=bV n
   refine bS rfl (bP 1 2 rfl ?_)
   subst hR
   refine ie (A8 ?_)
   exact F7 hr hD
  have p:=bV n
  refine A4 (nx (A1 3 rfl (bP 1 14 rfl ?_)))
  refine ix rfl (B3 rfl rfl rfl rfl opx) ?_
  refine bP 1 4 rfl ?_
  refine A2 ?_
  exact A2g (_,l,_,_) ⟨opx,hR,d,opx⟩ (Nat.lt_succ_self _) (mc [_] [true] rfl oxs) A7.nil
 refine F4 (nx (bS rfl (bP 1 35 rfl ?_)))
 have:=bT.cap d
 have:=bT.le d
 refine R5 [] _ d omm ?_
 have t:=C4 hR;clear hR;obtain ⟨h,e,hR⟩:=t
 refine zv rfl (D7e e old old oyd) ?_
 refine bP 1 37 rfl ?_
 refine ix rfl (C8w rfl rfl rfl) ?_
 refine bP 1 2 rfl ?_
 subst hR
 refine ie (A8 ?_)
 exact F7 hr hD
def B4y (d:Int) (c:Int) (b:Col) (a:List UInt8):List UInt8×Int :=
 (bif ((decide ((⟨44,d,c,b,a⟩:Act)={Act.zero with kind:=44,text:=a}))&&(A0d a)) then ((([50,59]:List UInt8)++a),0) else (([]:List UInt8),2))
theorem D3b {e f:Int} {d:Col} {c:List UInt8} {R:List UInt8×Int} (hR:B4y e f d c=R):J5 Tryz.prog 58 [ag (A0 (⟨44,e,f,d,c⟩:Act))] [] (.tuple #[sv R.1,iv R.2]):=by
 refine cC Tryz.func58 fun X hX hr hD=>?_
 replace hR:=(B4y.eq_1 ..).symm.trans hR
 refine bS rfl (zra 3 [] (fun o=>[(1,pt o 0)]) (fun _=>(A0 ⟨44,e,f,d,c⟩)) 54 fun o=>?_)
 refine ie (A3 (A9 (bS rfl (c9 4 7 [0,0] [(9,ag (A0 ⟨44,e,f,d,c⟩)),(12,ag (A0 ({Act.zero with kind:=44,text:=c})))] ?_))))
 refine ix rfl (A9u D4r rfl rfl rfl) ?_
 refine bP 1 14 rfl ?_
 refine zid 4 1 14 18 (A0d c) (fun x t=>?_) ?_
 ·refine cF 2 [0] 16 rfl ?_
  refine zv rfl (D2r rfl) ?_
  refine bP 1 18 rfl ?_
  exact A2 (J0 4 14 _ x A7.nil bU rfl rfl rfl rfl rfl)
 refine bP 1 8 rfl ?_
 refine ie ?_
 refine zjb rfl hR ?_ ?_<;>clear hR<;>intro hR i
 ·have l:=bV i
  have s:=D1e c (by have q:=i;rw [Bool.and_eq_true] at q;exact q.2)
  refine bS rfl (cF 2 [0] 20 rfl ?_)
  refine ix rfl (zst rfl rfl rfl) ?_
  refine cG 2 2 3 rfl ?_
  subst hR
  refine ie (A8 ?_)
  exact B4w hr hD
 refine bS rfl (c9 6 18 [0,0,0] [(23,ag (A0 ⟨44,e,f,d,c⟩)),(28,ag (A0 ({Act.zero with kind:=45,n:=e,color:=d})))] ?_)
 refine ix rfl (A9u D4r rfl rfl rfl) ?_
 refine bP 1 30 rfl ?_
 refine zid 4 12 30 34 (decide (0≤e)) (fun r v=>?_) ?_
 ·refine cF 4 [0] 34 rfl ?_
  exact A2 (J0 2 30 _ r A7.nil bU rfl rfl rfl rfl rfl)
 refine bP 1 35 rfl ?_
 refine zia 4 7 35 39 (decide (e≤255)) (fun p=>?_) ?_
 ·have y:=bV p
  refine cF 4 [0] 39 rfl ?_
  exact A2 (J0 2 35 _ p A7.nil bU rfl rfl rfl rfl rfl)
 refine bP 1 40 rfl ?_
 refine zia 5 1 40 45 (decide (d.kind=2)) (fun m=>?_) ?_
 ·have u:=bV m
  refine cF 5 [0] 45 rfl ?_
  exact A2 (J0 2 40 _ m A7.nil bU rfl rfl rfl rfl rfl)
 refine bP 1 22 rfl ?_
 refine ie (G4 rfl (fun h=>?_) (fun h=>?_))
 ·have j:=bV h
  exfalso;simp [Act.zero] at h
 refine bS rfl (c9 4 8 [0,0] [(62,ag (A0 ⟨44,e,f,d,c⟩)),(65,ag (A0 ({Act.zero with kind:=46,text:=c})))] ?_)
 refine ix rfl (A9u D4r rfl rfl rfl) ?_
 refine bP 1 67 rfl ?_
 refine zid 5 1 67 72 (decide ((c.length:Int)≤378)) (fun z w=>?_) ?_
 ·refine cF 5 [0] 72 rfl ?_
  exact A2 (J0 2 67 _ z A7.nil bU rfl rfl rfl rfl rfl)
 refine bP 1 61 rfl ?_
 refine ie (G4 rfl (fun g=>?_) (fun g=>?_))
 ·have k:=bV g
  exfalso;simp [Act.zero] at g
 refine A4 (nx (bS rfl (cG 2 2 3 rfl ?_)))
 subst hR
 refine ie (A8 ?_)
 exact B4w hr hD
def B1u (e:Int) (d:Int) (b:Col) (c:List UInt8):Bool :=
 (B6 (B4y e d b c) fun (a:List UInt8×Int)=>(decide (a.2=0)))
theorem D2p {f e:Int} {a:Col} {c:List UInt8} {R:Bool} (hR:B1u f e a c=R):J5 Tryz.prog 33 [ag (A0 (⟨44,f,e,a,c⟩:Act))] [] (bv R):=by
 refine cC Tryz.func33 fun X hX hr hD=>?_
 replace hR:=(B1u.eq_1 ..).symm.trans hR
 refine bS rfl (zra 2 [] (fun g=>[(1,pt g 0)]) (fun _=>(A0 ⟨44,f,e,a,c⟩)) 54 fun g=>?_)
 refine ie (A3 (bS rfl (cF 2 [0] 6 rfl ?_)))
 refine ie (A9 (bS rfl (bP 2 7 rfl ?_)))
 refine ie (A4r rfl (A3 (bS rfl (bP 2 12 rfl ?_))))
 refine ie (J4 rfl (A4 (nx (J4 rfl (bS rfl (c9 1 6 [0] [(17,ag (A0 ⟨44,f,e,a,c⟩))] ?_))))))
 have h:=C4 hR;clear hR;obtain ⟨d,b,hR⟩:=h
 refine zv rfl (D3b b) ?_
 refine bP 5 4 rfl ?_
 refine ie (bS rfl (bP 3 2 rfl ?_))
 subst hR
 refine ie (A8 ?_)
 exact F7 hr hD
def A1e (f:FrmC):List (List Cel)→Nat→Bool
 | [],i=>(B1u 0 0 Col.zero f.title)
 | hd_l0::tl_l0,i=>(bif ((!decide ((hd_l0.length:Int)=f.cols))||(!(A4w hd_l0 false))) then false else A1e f tl_l0 (i+1))
def M9 (f:FrmC) (a:List (List Cel)):Bool :=
 (bif ((((((decide (f.cols<2))||(decide ((80:Int)<f.cols)))||(decide ((a.length:Int)<1)))||(decide ((40:Int)<(a.length:Int))))||(decide (f.shape<0)))||(decide ((6:Int)<f.shape))) then false else (bif ((((decide (f.cursor.row<0))||(decide ((a.length:Int)≤f.cursor.row)))||(decide (f.cursor.col<0)))||(decide (f.cols≤f.cursor.col))) then false else A1e f a 0))
theorem C1b {f:FrmC} {fRows:List (List Cel)} {e:Option Addr} {b:List Slc} {fRowsk:Nat} {R:Bool} (hR:M9 f fRows=R) (a:B4 b fRows:=by exact bW) (m:fRows.length≤9223372036854775807:=by exact bW) (t:fRows.length≤fRowsk:=by exact bW) (hT:f.title.length≤100000000:=by exact bW):J5 Tryz.prog 15 [ag (C2 f ⟨e,fRows.length,fRowsk⟩)] [sl D9 e b,D5 D8 b fRows] (bv R):=by
 refine cC Tryz.func15 fun X hX hr hD=>?_
 replace hR:=(M9.eq_1 ..).symm.trans hR
 have:=a.1
 refine bS rfl (zra 2 [] (fun w=>[(1,pt w 0)]) (fun _=>(C2 f ⟨e,fRows.length,fRowsk⟩)) 26 fun w=>?_)
 refine ie (A3 (bS rfl (cF 4 [0] 7 rfl ?_)))
 refine zir 4 22 7 11 (decide (80<f.cols)) (fun g2 ae=>?_) ?_
 ·refine cF 4 [0] 11 rfl ?_
  exact zai 2 7 _ g2
 refine bP 1 12 rfl ?_
 refine zio 5 16 12 17 (decide ((fRows.length:Int)<1)) (fun g3=>?_) ?_
 ·have ab:=bV g3
  refine cF 5 [0] 17 rfl ?_
  exact zai 2 12 _ g3
 refine bP 1 18 rfl ?_
 refine zio 5 10 18 23 (decide (40<(fRows.length:Int))) (fun g4=>?_) ?_
 ·have ah:=bV g4
  refine cF 5 [0] 23 rfl ?_
  exact zai 2 18 _ g4
 refine bP 1 24 rfl ?_
 refine zio 4 5 24 28 (decide (f.shape<0)) (fun g5=>?_) ?_
 ·have ac:=bV g5
  refine cF 4 [0] 28 rfl ?_
  exact zai 2 24 _ g5
 refine bP 1 29 rfl ?_
 refine zio 4 0 29 33 (decide (6<f.shape)) (fun y=>?_) ?_
 ·have a7:=bV y
  refine cF 4 [0] 33 rfl ?_
  exact zai 2 29 _ y
 refine ie ?_
 refine zjb rfl hR ?_ ?_<;>clear hR<;>intro hR h7
 ·have x:=bV h7
  refine bS rfl (bP 1 2 rfl ?_)
  subst hR
  refine ie (A8 ?_)
  exact F7 hr hD
 have x:=bV h7
 refine A4 (nx (A3 (bS rfl (cF 5 [0] 38 rfl ?_))))
 refine zir 8 14 38 46 (decide (fRows.length≤f.cursor.row)) (fun g8 af=>?_) ?_
 ·refine cF 8 [0,0] 46 rfl ?_
  exact zai 2 38 _ g8
 refine bP 1 47 rfl ?_
 refine zio 5 8 47 52 (decide (f.cursor.col<0)) (fun g9=>?_) ?_
 ·have a8:=bV g9
  refine cF 5 [0] 52 rfl ?_
  exact zai 2 47 _ g9
 refine bP 1 53 rfl ?_
 refine zio 7 0 53 60 (decide (f.cols≤f.cursor.col)) (fun u=>?_) ?_
 ·have a2:=bV u
  refine cF 7 [0,0] 60 rfl ?_
  exact zai 2 53 _ u
 refine ie ?_
 refine zjb rfl hR ?_ ?_<;>clear hR<;>intro hR p
 ·have l:=bV p
  refine bS rfl (bP 1 2 rfl ?_)
  subst hR
  refine ie (A8 ?_)
  exact F7 hr hD
 refine A4 (nx (A3 (bS rfl (bP 1 3 rfl ?_))))
 refine ie (A9 (A3q (fun i=>(i≤fRows.length∧A1e f (fRows.drop i) i=R,[(1,pt w 0),(3,iv i)],[_],_,fRows.length - i)) 0 ⟨opx,hR⟩ bU A7.refl ?_))
 rintro i ⟨z,hR⟩
 refine A3 (bS rfl (c9 5 0 [0] [(65,bv (decide (i<(fRows.length:Int))))] ?_))
 refine ie (G4 rfl (fun j=>?_) (fun j=>?_))
 ·have h:=bV j
  rw [A1b [] (show i<fRows.length by omega)] at hR;replace hR:=(A1e.eq_2 ..).symm.trans hR
  refine A4 (nx (A3 (A9 (sd 19 rfl oki rfl ?_))))
  refine zdg 3 16 [0] [(69,.slice e fRows.length fRowsk),(70,iv i)] ?_
  refine B7d 0 rfl (by have:=a.1;omega) fun a9 g=>?_
  refine C9x (V8 (k:=i) (d:=⟨none,0,0⟩) a 1 rfl (by have:=a.1;omega)) ?_
  have:=V9 a (k:=i) (d:=(⟨none,0,0⟩:Slc)) (by have:=a.1;omega)
  refine dd rfl (F8 B0n rfl rfl g rfl i rfl opx) ?_
  refine dd rfl (H8 (C9 B3x rfl rfl (H2 (sz:=1) g (fun _=>rfl) 1 rfl (gd ⟨none,0,0⟩ (by have:=a.1;omega))) rfl) (U4 a (by have:=a.1;omega))) ?_
  refine zdg 5 9 [0] [(77,bv (!decide (((fRows.getD i []).length)=f.cols)))] ?_
  refine zdO 9 0 77 86 (!(A4w (fRows.getD i []) false)) (fun s=>?_) ?_
  ·have a0:=bV s
   refine zdg 3 6 [0] [(79,.slice e fRows.length fRowsk),(80,iv i)] ?_
   refine dd rfl (F8 B0n rfl rfl g rfl i rfl opx) ?_
   refine dd rfl (H8 (C9 B3x rfl rfl (H2 (sz:=1) g (fun _=>rfl) 1 rfl (gd ⟨none,0,0⟩ (by have:=a.1;omega))) rfl) (U4 a (by have:=a.1;omega))) ?_
   refine zdg 1 3 [] [(83,ag [.slice ((b.getD i ⟨none,0,0⟩).q) ((fRows.getD i []).length) ((b.getD i ⟨none,0,0⟩).k),bv false])] ?_
   refine zvd rfl (D2b rfl) ?_
   refine pd1 2 86 rfl ?_
   exact zad 8 77 _ s
  refine de ?_
  refine zjb rfl hR ?_ ?_<;>clear hR<;>intro hR o
  ·have r:=bV o
   refine bS rfl (bP 1 2 rfl ?_)
   subst hR
   refine ie (A8 ?_)
   exact F7 hr hD
  refine A4 (nx (A1 3 rfl (bP 1 66 rfl ?_)))
  refine ix rfl (B3 rfl rfl rfl rfl opx) ?_
  refine bP 1 3 rfl ?_
  refine A2 ?_
  exact A2g _ ⟨opx,hR⟩ olr bU cB
 have h:=bV j
 rw [A1d h] at hR;replace hR:=(A1e.eq_1 ..).symm.trans hR
 refine F4 (nx (bS rfl (c9 3 2 [0] [(89,ag (A0 ({Act.zero with kind:=44,text:=f.title})))] ?_)))
 refine zv rfl (D2p rfl) ?_
 refine bP 1 2 rfl ?_
 subst hR
 refine ie (A8 ?_)
 exact F7 hr hD
def A2d (a:FrmC) (c:List (List Cel)) (b:FrmC) (d:List (List Cel)):Bool :=
 ((decide (a.cols=b.cols))&&(decide ((c.length:Int)=(d.length:Int))))
theorem D2j {a:FrmC} {aRows:List (List Cel)} {b:FrmC} {bRows:List (List Cel)} {h:Option Addr} {d:List Slc} {aRowsk:Nat} {g:Option Addr} {c:List Slc} {bRowsk:Nat} {R:Bool} (hR:A2d a aRows b bRows=R) (f:B4 d aRows:=by exact bW) (i:aRows.length≤9223372036854775807:=by exact bW) (k:aRows.length≤aRowsk:=by exact bW) (e:B4 c bRows:=by exact bW) (j:bRows.length≤9223372036854775807:=by exact bW) (l:bRows.length≤bRowsk:=by exact bW):J5 Tryz.prog 22 [ag (C2 a ⟨h,aRows.length,aRowsk⟩),ag (C2 b ⟨g,bRows.length,bRowsk⟩)] [sl D9 h d,D5 D8 d aRows,sl D9 g c,D5 D8 c bRows] (bv R):=by
 refine cC Tryz.func22 fun X hX hr hD=>?_
 replace hR:=(A2d.eq_1 ..).symm.trans hR
 refine bS rfl (B6z 3 [] (fun m n=>[(2,pt m 0),(3,pt n 0)]) (fun _ _=>(C2 a ⟨h,aRows.length,aRowsk⟩)) (fun _ _=>(C2 b ⟨g,bRows.length,bRowsk⟩)) 26 26 fun m n=>?_)
 refine ie (bS rfl (cF 6 [1,0] 10 rfl ?_))
 refine zid 8 1 10 18 (decide (aRows.length=(bRows.length:Int))) (fun p o=>?_) ?_
 ·refine cF 8 [1,0] 18 rfl ?_
  exact zai 2 10 _ p
 refine bP 1 4 rfl ?_
 subst hR
 refine ie (A8 ?_)
 exact F7 hr hD
def P7 (a:FrmC) (d:List (List Cel)) (b:FrmC) (e:List (List Cel)) (c:Cur):Int :=
 (bif ((!(M9 a d))||(!(M9 b e))) then 330 else (bif ((!(A2d a d b e))||(!(A1p a.cols (d.length:Int) c))) then 2 else 0))
theorem D3z {f:FrmC} {a:List (List Cel)} (h:M9 f a=true):0≤f.cursor.row∧f.cursor.row<(a.length:Int)∧0≤f.cursor.col∧f.cursor.col<f.cols:=by
 refine Decidable.byContradiction fun b=>?_
 unfold M9 at h
 rw [show ((((decide (f.cursor.row<0))||(decide ((a.length:Int)≤f.cursor.row)))||(decide (f.cursor.col<0)))||(decide (f.cols≤f.cursor.col)))=true by simp only [Bool.or_eq_true,decide_eq_true_eq];omega] at h
 revert h
 generalize ((((((decide (f.cols<2))||(decide ((80:Int)<f.cols)))||(decide ((a.length:Int)<1)))||(decide ((40:Int)<(a.length:Int))))||(decide (f.shape<0)))||(decide ((6:Int)<f.shape)))=d
 intro h
 cases d<;>exact Bool.noConfusion h
theorem C1u {a:FrmC} {aR:List (List Cel)} {b:FrmC} {bR:List (List Cel)} {c:Cur} (h:P7 a aR b bR c=0):M9 a aR=true∧M9 b bR=true∧A2d a aR b bR=true∧A1p a.cols (aR.length:Int) c=true:=by
 unfold P7 at h
 cases hA:M9 a aR with
 | false=>rw [hA] at h;exact absurd (show (330:Int)=0 from h) ozw
 | true =>
  cases hB:M9 b bR with
  | false=>rw [hA,hB] at h;exact absurd (show (330:Int)=0 from h) ozw
  | true =>
   cases hS:A2d a aR b bR with
   | false=>rw [hA,hB,hS] at h;exact absurd (show (2:Int)=0 from h) ozw
   | true =>
    cases hI:A1p a.cols (aR.length:Int) c with
    | false=>rw [hA,hB,hS,hI] at h;exact absurd (show (2:Int)=0 from h) ozw
    | true=>exact ⟨rfl,rfl,rfl,rfl⟩
theorem E7i {a:FrmC} {aR:List (List Cel)} {b:FrmC} {bR:List (List Cel)} {c:Cur} (h:P7 a aR b bR c=0):(0≤c.row∧c.row≤40∧0≤b.cursor.row∧b.cursor.row≤40)∧(0≤c.col∧c.col≤80∧0≤b.cursor.col∧b.cursor.col≤80):=by
 obtain ⟨j,f,d,e⟩:=C1u h
 have i:=D9v e
 have g:=D3z f
 unfold A2d at d
 simp only [Bool.and_eq_true,decide_eq_true_eq] at d
 omega
theorem D3c (a:FrmC) (d:List (List Cel)) (b:FrmC) (g:List (List Cel)) (c:Cur) (j:Option Addr) (m:List Slc) (k:Nat) (h:Option Addr) (l:List Slc) (i:Nat) (f:B4 m d) (n:d.length≤9223372036854775807) (q:d.length≤k) (e:B4 l g) (o:g.length≤9223372036854775807) (s:g.length≤i) (hT:a.title.length≤100000000) (a0:b.title.length≤100000000) (R:Int) (hR:P7 a d b g c=R):J5 Tryz.prog 8 [ag (C2 a ⟨j,d.length,k⟩),ag (C2 b ⟨h,g.length,i⟩),ag (H4 c)] [sl D9 j m,D5 D8 m d,sl D9 h l,D5 D8 l g] (iv R):=by
 refine cC Tryz.func8 fun X hX hr hD=>?_
 replace hR:=(P7.eq_1 ..).symm.trans hR
 refine bS rfl (D5f 4 0 [] (fun t u v=>[(3,pt t 0),(4,pt u 0),(5,pt v 0)]) (fun t u v=>[bx v (H4 c) 29,bx u (C2 b ⟨h,g.length,i⟩) 26,bx t (C2 a ⟨j,d.length,k⟩) 26]) (fun t u v=>?_))
 refine ie (A3 (A9 (bS rfl (c9 1 8 [2] [(8,ag (C2 a ⟨j,d.length,k⟩))] ?_))))
 refine zv rfl (C1b rfl f) ?_
 refine bP 2 11 rfl ?_
 refine zio 4 1 11 15 (!(M9 b g)) (fun y=>?_) ?_
 ·refine c9 1 3 [1] [(12,ag (C2 b ⟨h,g.length,i⟩))] ?_
  refine zv rfl (C1b rfl e) ?_
  refine bP 2 15 rfl ?_
  exact zai 4 11 _ y
 refine bP 1 7 rfl ?_
 refine ie (G4 rfl (fun r=>?_) (fun r=>?_))
 ·have x:=bV r
  replace hR:=bt hR r
  refine bS rfl (bP 1 6 rfl ?_)
  subst hR
  refine ie (A8 ?_)
  exact F7 hr hD
 replace hR:=bf hR r
 refine bS rfl (c9 2 13 [2,1] [(17,ag (C2 a ⟨j,d.length,k⟩)),(18,ag (C2 b ⟨h,g.length,i⟩))] ?_)
 refine zv rfl (D2j rfl f bW bW e) ?_
 refine bP 2 21 rfl ?_
 refine zio 9 1 21 30 (!(A1p a.cols d.length c)) (fun z=>?_) ?_
 ·refine c9 6 3 [2,2,0] [(23,iv a.cols),(26,iv d.length),(27,ag (H4 c))] ?_
  refine zv rfl (E1v rfl) ?_
  refine bP 2 30 rfl ?_
  exact zai 6 21 _ z
 refine bP 1 16 rfl ?_
 refine ie (G4 rfl (fun p=>?_) (fun p=>?_))
 ·have w:=bV p
  replace hR:=bt hR p
  refine bS rfl (bP 1 6 rfl ?_)
  subst hR
  refine ie (A8 ?_)
  exact F7 hr hD
 replace hR:=bf hR p
 refine A4 (nx (bS rfl (bP 1 6 rfl ?_)))
 subst hR
 refine ie (A8 ?_)
 exact F7 hr hD
def k6 (a:Act):Prop:=(a.kind=3∨a.kind=5∨a.kind=6∨a.kind=19∨a.kind=20∨a.kind=22)∧(0≤a.n∧a.n≤1000)∧(0≤a.m∧a.m≤1000)∧(a.kind=20→a.n≤3)
theorem B1q {l:List Act} (h:∀ a ∈ l,k6 a) {i:Nat} (b:i<l.length):k6 (l.getD i Act.zero):=by
 rw [List.getD_eq_getElem?_getD,List.getElem?_eq_getElem b];exact h _ (List.getElem_mem b)
theorem E6g {L:List (List Act)} (h:∀ e ∈ L,∀ a ∈ e,k6 a) (i:Nat):∀ a ∈ L.getD i [],k6 a:=by
 rw [List.getD_eq_getElem?_getD]
 cases h3:L[i]? with
 | none=>exact fun a b=>by cases b
 | some y=>exact h y (List.mem_of_getElem? h3)
def A9q (n:Int) (from_:Int) (to_:Int):Bool :=
 ((decide (from_≤n))&&(decide (n≤to_)))
theorem D1r {n from_ to_:Int} {R:Bool} (hR:A9q n from_ to_=R):J5 Tryz.prog 95 [iv n,iv from_,iv to_] [] (bv R):=by
 refine cC Tryz.func95 fun X hX hr hD=>?_
 replace hR:=(A9q.eq_1 ..).symm.trans hR
 refine bS rfl (pp0 1 rfl ?_)
 refine ie (bS rfl (bP 4 10 rfl ?_))
 refine zid 4 1 10 14 (decide (n≤to_)) (fun b a=>?_) ?_
 ·refine bP 4 14 rfl ?_
  exact A2 (J0 2 10 _ b A7.nil bU rfl rfl rfl rfl rfl)
 refine bP 1 6 rfl ?_
 subst hR
 refine ie (A8 ?_)
 exact F7 hr hD
def S4 (n:Int):Bool :=
 (A9q n 1 9999)
theorem B1m {n:Int} {R:Bool} (hR:S4 n=R):J5 Tryz.prog 96 [iv n] [] (bv R):=by
 refine cC Tryz.func96 fun X hX hr hD=>?_
 replace hR:=(S4.eq_1 ..).symm.trans hR
 refine bS rfl (pp0 1 rfl ?_)
 refine ie (bS rfl (bP 1 3 rfl ?_))
 refine zv rfl (D1r rfl) ?_
 refine bP 1 2 rfl ?_
 subst hR
 refine ie (A8 ?_)
 exact F7 hr hD
def A8h (a:Act):Bool :=
 (bif (decide (a.kind=3)) then ((decide (a.n=0))&&(decide (a.m=0))) else (bif (decide (a.kind=5)) then ((decide (a.n=0))&&(decide (a.m=0))) else (bif (decide (a.kind=6)) then ((decide (a.n=0))&&(decide (a.m=0))) else (bif (decide (a.kind=19)) then ((S4 a.n)&&(S4 a.m)) else (bif (decide (a.kind=20)) then ((A9q a.n 0 3)&&(S4 a.m)) else ((S4 a.n)&&(decide (a.m=0))))))))
theorem C8c {a:Act} {R:Bool} (hR:A8h a=R) (ha:(a.kind=3∨a.kind=5∨a.kind=6∨a.kind=19∨a.kind=20∨a.kind=22)∧(0≤a.n∧a.n≤1000)∧(0≤a.m∧a.m≤1000)∧(a.kind=20→a.n≤3):=by exact bW):J5 Tryz.prog 59 [ag (A0 a)] [] (bv R):=by
 refine cC Tryz.func59 fun X hX hr hD=>?_
 replace hR:=(A8h.eq_1 ..).symm.trans hR
 refine bS rfl (zra 2 [] (fun b1=>[(1,pt b1 0)]) (fun _=>(A0 a)) 54 fun b1=>?_)
 refine ie (A3 (bS rfl (cF 2 [0] 4 rfl ?_)))
 refine ie (A9 (bS rfl (bP 2 5 rfl ?_)))
 refine ie (G4 rfl (fun h2=>?_) (fun h2=>?_))
 ·have ao:=bV h2
  exfalso;omega
 have ao:=bV h2
 refine A3 (bS rfl (bP 2 16 rfl ?_))
 refine ie (G4 rfl (fun h3=>?_) (fun h3=>?_))
 ·have ar:=bV h3
  exfalso;omega
 have ar:=bV h3
 refine bS rfl (bP 2 16 rfl ?_)
 refine ie (G4 rfl (fun h4=>?_) (fun h4=>?_))
 ·have av:=bV h4
  replace hR:=bt hR h4
  refine A4 (nx (G4 rfl (fun h5=>?_) (fun h5=>?_)))
  ·have aq:=bV h5
   refine bS rfl (cF 4 [0] 33 rfl ?_)
   refine zid 4 1 33 37 (decide (a.m=0)) (fun g6 ba=>?_) ?_
   ·refine cF 4 [0] 37 rfl ?_
    exact A2 (J0 2 33 _ g6 A7.nil bU rfl rfl rfl rfl rfl)
   refine bP 1 2 rfl ?_
   subst hR
   refine ie (A8 ?_)
   exact F7 hr hD
  have aq:=bV h5
  exfalso;omega
 have av:=bV h4
 replace hR:=bf hR h4
 refine bS rfl (bP 2 16 rfl ?_)
 refine ie (G4 rfl (fun h7=>?_) (fun h7=>?_))
 ·have b2:=bV h7
  exfalso;omega
 have b2:=bV h7
 refine bS rfl (bP 2 16 rfl ?_)
 refine ie (G4 rfl (fun h8=>?_) (fun h8=>?_))
 ·have ap:=bV h8
  replace hR:=bt hR h8
  refine A4 (nx (G4 rfl (fun h9=>?_) (fun h9=>?_)))
  ·have b3:=bV h9
   refine bS rfl (cF 4 [0] 33 rfl ?_)
   refine zid 4 1 33 37 (decide (a.m=0)) (fun b5 b8=>?_) ?_
   ·refine cF 4 [0] 37 rfl ?_
    exact A2 (J0 2 33 _ b5 A7.nil bU rfl rfl rfl rfl rfl)
   refine bP 1 2 rfl ?_
   subst hR
   refine ie (A8 ?_)
   exact F7 hr hD
  have b3:=bV h9
  exfalso;omega
 have ap:=bV h8
 replace hR:=bf hR h8
 refine bS rfl (bP 2 16 rfl ?_)
 refine ie (G4 rfl (fun c=>?_) (fun c=>?_))
 ·have a1:=bV c
  replace hR:=bt hR c
  refine A4 (nx (G4 rfl (fun j=>?_) (fun j=>?_)))
  ·have ab:=bV j
   refine bS rfl (cF 4 [0] 33 rfl ?_)
   refine zid 4 1 33 37 (decide (a.m=0)) (fun ay b7=>?_) ?_
   ·refine cF 4 [0] 37 rfl ?_
    exact A2 (J0 2 33 _ ay A7.nil bU rfl rfl rfl rfl rfl)
   refine bP 1 2 rfl ?_
   subst hR
   refine ie (A8 ?_)
   exact F7 hr hD
  have ab:=bV j
  exfalso;omega
 have a1:=bV c
 replace hR:=bf hR c
 refine bS rfl (bP 2 16 rfl ?_)
 refine ie (G4 rfl (fun g=>?_) (fun g=>?_))
 ·have a4:=bV g
  exfalso;omega
 have a4:=bV g
 refine bS rfl (bP 2 16 rfl ?_)
 refine ie (G4 rfl (fun k=>?_) (fun k=>?_))
 ·have y:=bV k
  exfalso;omega
 have y:=bV k
 refine bS rfl (bP 2 16 rfl ?_)
 refine ie (G4 rfl (fun o=>?_) (fun o=>?_))
 ·have z:=bV o
  exfalso;omega
 have z:=bV o
 refine bS rfl (bP 2 16 rfl ?_)
 refine ie (G4 rfl (fun i=>?_) (fun i=>?_))
 ·have a8:=bV i
  exfalso;omega
 have a8:=bV i
 refine bS rfl (bP 2 16 rfl ?_)
 refine ie (G4 rfl (fun w=>?_) (fun w=>?_))
 ·have ad:=bV w
  exfalso;omega
 have ad:=bV w
 refine bS rfl (bP 2 16 rfl ?_)
 refine ie (G4 rfl (fun f=>?_) (fun f=>?_))
 ·have al:=bV f
  exfalso;omega
 have al:=bV f
 refine bS rfl (bP 2 16 rfl ?_)
 refine ie (G4 rfl (fun r=>?_) (fun r=>?_))
 ·have a7:=bV r
  exfalso;omega
 have a7:=bV r
 refine A1 2 rfl (bP 2 16 rfl ?_)
 refine A2 (nx (G4 rfl (fun q=>?_) (fun q=>?_)))
 ·have a6:=bV q
  exfalso;omega
 have a6:=bV q
 refine A3 (bS rfl (bP 2 38 rfl ?_))
 refine ie (G4 rfl (fun e=>?_) (fun e=>?_))
 ·have a2:=bV e
  exfalso;omega
 have a2:=bV e
 refine bS rfl (bP 2 38 rfl ?_)
 refine ie (G4 rfl (fun x=>?_) (fun x=>?_))
 ·have aj:=bV x
  exfalso;omega
 have aj:=bV x
 refine A1 2 rfl (bP 2 38 rfl ?_)
 refine A2 (nx (G4 rfl (fun s=>?_) (fun s=>?_)))
 ·have ae:=bV s
  exfalso;omega
 have ae:=bV s
 refine bS rfl (bP 2 50 rfl ?_)
 refine ie (G4 rfl (fun h=>?_) (fun h=>?_))
 ·have ai:=bV h
  exfalso;omega
 have ai:=bV h
 refine bS rfl (bP 2 60 rfl ?_)
 refine ie (G4 rfl (fun t=>?_) (fun t=>?_))
 ·have ak:=bV t
  exfalso;omega
 have ak:=bV t
 refine bS rfl (bP 2 70 rfl ?_)
 refine ie (G4 rfl (fun b=>?_) (fun b=>?_))
 ·have ah:=bV b
  replace hR:=bt hR b
  refine bS rfl (cF 2 [0] 73 rfl ?_)
  refine zv rfl (B1m rfl) ?_
  refine bP 1 75 rfl ?_
  refine zia 4 1 75 79 (S4 a.m) (fun az=>?_) ?_
  ·refine cF 2 [0] 77 rfl ?_
   refine zv rfl (B1m rfl) ?_
   refine bP 1 79 rfl ?_
   exact A2 (J0 4 75 _ az A7.nil bU rfl rfl rfl rfl rfl)
  refine bP 1 2 rfl ?_
  subst hR
  refine ie (A8 ?_)
  exact F7 hr hD
 have ah:=bV b
 replace hR:=bf hR b
 refine bS rfl (bP 2 80 rfl ?_)
 refine ie (G4 rfl (fun d=>?_) (fun d=>?_))
 ·have a0:=bV d
  replace hR:=bt hR d
  refine bS rfl (cF 2 [0] 83 rfl ?_)
  refine zv rfl (D1r rfl) ?_
  refine bP 1 85 rfl ?_
  refine zia 4 1 85 89 (S4 a.m) (fun am=>?_) ?_
  ·refine cF 2 [0] 87 rfl ?_
   refine zv rfl (B1m rfl) ?_
   refine bP 1 89 rfl ?_
   exact A2 (J0 4 85 _ am A7.nil bU rfl rfl rfl rfl rfl)
  refine bP 1 2 rfl ?_
  subst hR
  refine ie (A8 ?_)
  exact F7 hr hD
 have a0:=bV d
 replace hR:=bf hR d
 refine A3 (bS rfl (bP 2 90 rfl ?_))
 refine ie (G4 rfl (fun u=>?_) (fun u=>?_))
 ·have af:=bV u
  exfalso;omega
 have af:=bV u
 refine A1 2 rfl (bP 2 90 rfl ?_)
 refine A2 (nx (G4 rfl (fun l=>?_) (fun l=>?_)))
 ·have aa:=bV l
  exfalso;omega
 have aa:=bV l
 refine A3 (bS rfl (bP 2 101 rfl ?_))
 refine ie (G4 rfl (fun p=>?_) (fun p=>?_))
 ·have a5:=bV p
  refine A4 (nx (G4 rfl (fun v=>?_) (fun v=>?_)))
  ·have ac:=bV v
   refine bS rfl (cF 2 [0] 113 rfl ?_)
   refine zv rfl (B1m rfl) ?_
   refine bP 1 115 rfl ?_
   refine zia 4 1 115 119 (decide (a.m=0)) (fun ax=>?_) ?_
   ·refine cF 4 [0] 119 rfl ?_
    exact A2 (J0 2 115 _ ax A7.nil bU rfl rfl rfl rfl rfl)
   refine bP 1 2 rfl ?_
   subst hR
   refine ie (A8 ?_)
   exact F7 hr hD
  have ac:=bV v
  exfalso;omega
 have a5:=bV p
 exfalso;omega
def S9 (a:Act):Bool :=
 (((A8h a)&&(decide (a.color=Col.zero)))&&(decide (a.text=([]:List UInt8))))
theorem D0a {a:Act} {R:Bool} (hR:S9 a=R) (r:(a.kind=3∨a.kind=5∨a.kind=6∨a.kind=19∨a.kind=20∨a.kind=22)∧(0≤a.n∧a.n≤1000)∧(0≤a.m∧a.m≤1000)∧(a.kind=20→a.n≤3):=by exact bW):J5 Tryz.prog 33 [ag (A0 a)] [] (bv R):=by
 refine cC Tryz.func33 fun X hX hr hD=>?_
 replace hR:=(S9.eq_1 ..).symm.trans hR
 refine bS rfl (zra 2 [] (fun k=>[(1,pt k 0)]) (fun _=>(A0 a)) 54 fun k=>?_)
 refine ie (A3 (bS rfl (cF 2 [0] 6 rfl ?_)))
 refine ie (A9 (bS rfl (bP 2 7 rfl ?_)))
 refine ie (G4 rfl (fun c=>?_) (fun c=>?_))
 ·have e:=bV c
  exfalso;omega
 have e:=bV c
 refine A3 (bS rfl (bP 2 12 rfl ?_))
 refine ie (G4 rfl (fun d=>?_) (fun d=>?_))
 ·have h:=bV d
  exfalso;omega
 have h:=bV d
 refine bS rfl (bP 2 12 rfl ?_)
 refine ie (G4 rfl (fun g=>?_) (fun g=>?_))
 ·have i:=bV g
  exfalso;omega
 have i:=bV g
 refine A1 2 rfl (bP 2 12 rfl ?_)
 refine A2 (nx (G4 rfl (fun j=>?_) (fun j=>?_)))
 ·have f:=bV j
  exfalso;omega
 refine A4 (nx (bS rfl (c9 1 13 [0] [(23,ag (A0 a))] ?_)))
 refine zv rfl (C8c rfl (by first|exact B1q oiu opx|(have q:=B1q oiu (show 0<_ by omega);exact q)|omega)) ?_
 refine bP 1 25 rfl ?_
 refine zia 5 6 25 30 (decide (a.color=Col.zero)) (fun o=>?_) ?_
 ·refine c9 3 2 [0] [(27,ag (U2 a.color)),(28,ag (U2 Col.zero))] ?_
  refine ix rfl (A9u C0w rfl rfl rfl) ?_
  refine bP 1 30 rfl ?_
  exact A2 (J0 5 25 _ o A7.nil bU rfl rfl rfl rfl rfl)
 refine bP 1 31 rfl ?_
 refine zia 4 1 31 35 (decide (a.text=[])) (fun l=>?_) ?_
 ·have p:=bV l
  refine cF 2 [0] 33 rfl ?_
  refine ix rfl (C8w rfl rfl rfl) ?_
  refine bP 1 35 rfl ?_
  exact A2 (J0 4 31 _ l A7.nil bU rfl rfl rfl rfl rfl)
 refine bP 1 2 rfl ?_
 subst hR
 refine ie (A8 ?_)
 exact F7 hr hD
def A8x (a:Act):List UInt8 :=
 (bif (decide (a.kind=3)) then ([8]:List UInt8) else (bif (decide (a.kind=5)) then ([10]:List UInt8) else (bif (decide (a.kind=6)) then ([13]:List UInt8) else ([]:List UInt8))))
theorem C0e {a:Act} {R:List UInt8} (hR:A8x a=R) (h:(a.kind=3∨a.kind=5∨a.kind=6∨a.kind=19∨a.kind=20∨a.kind=22)∧(0≤a.n∧a.n≤1000)∧(0≤a.m∧a.m≤1000)∧(a.kind=20→a.n≤3)):R.length≤3∧(R=[]→a.kind=19∨a.kind=20∨a.kind=22):=by
 subst hR;unfold A8x
 obtain ⟨b,-⟩:=h
 rcases b with b | b | b | b | b | b<;>simp only [b,Int.reduceEq,decide_true,decide_false,cond_true,cond_false,List.length_cons,List.length_nil,reduceCtorEq,false_implies,true_or,or_true,implies_true,and_true]<;>omega
theorem D2g {a:Act} {R:List UInt8} (hR:A8x a=R) (ha:(a.kind=3∨a.kind=5∨a.kind=6∨a.kind=19∨a.kind=20∨a.kind=22)∧(0≤a.n∧a.n≤1000)∧(0≤a.m∧a.m≤1000)∧(a.kind=20→a.n≤3):=by exact bW):J5 Tryz.prog 170 [ag (A0 a)] [] (sv R):=by
 refine cC Tryz.func170 fun X hX hr hD=>?_
 replace hR:=(A8x.eq_1 ..).symm.trans hR
 refine bS rfl (zra 2 [] (fun b1=>[(1,pt b1 0)]) (fun _=>(A0 a)) 54 fun b1=>?_)
 refine ie (A3 (bS rfl (cF 2 [0] 4 rfl ?_)))
 refine ie (A9 (bS rfl (bP 2 5 rfl ?_)))
 refine ie (G4 rfl (fun y=>?_) (fun y=>?_))
 ·have a0:=bV y
  exfalso;omega
 have a0:=bV y
 refine bS rfl (bP 2 7 rfl ?_)
 refine ie (G4 rfl (fun u=>?_) (fun u=>?_))
 ·have a4:=bV u
  replace hR:=bt hR u
  refine bS rfl (bP 1 2 rfl ?_)
  subst hR
  refine ie (A8 ?_)
  exact F7 hr hD
 have a4:=bV u
 replace hR:=bf hR u
 refine bS rfl (bP 2 9 rfl ?_)
 refine ie (G4 rfl (fun h4=>?_) (fun h4=>?_))
 ·have a5:=bV h4
  exfalso;omega
 have a5:=bV h4
 refine bS rfl (bP 2 11 rfl ?_)
 refine ie (G4 rfl (fun q=>?_) (fun q=>?_))
 ·have a2:=bV q
  replace hR:=bt hR q
  refine bS rfl (bP 1 2 rfl ?_)
  subst hR
  refine ie (A8 ?_)
  exact F7 hr hD
 have a2:=bV q
 replace hR:=bf hR q
 refine bS rfl (bP 2 13 rfl ?_)
 refine ie (G4 rfl (fun x=>?_) (fun x=>?_))
 ·have z:=bV x
  replace hR:=bt hR x
  refine bS rfl (bP 1 2 rfl ?_)
  subst hR
  refine ie (A8 ?_)
  exact F7 hr hD
 have z:=bV x
 replace hR:=bf hR x
 refine bS rfl (bP 2 15 rfl ?_)
 refine ie (G4 rfl (fun h7=>?_) (fun h7=>?_))
 ·have a8:=bV h7
  exfalso;omega
 have a8:=bV h7
 refine bS rfl (bP 2 20 rfl ?_)
 refine ie (G4 rfl (fun h8=>?_) (fun h8=>?_))
 ·have a1:=bV h8
  exfalso;omega
 have a1:=bV h8
 refine bS rfl (bP 2 22 rfl ?_)
 refine ie (G4 rfl (fun h9=>?_) (fun h9=>?_))
 ·have a9:=bV h9
  exfalso;omega
 have a9:=bV h9
 refine bS rfl (bP 2 24 rfl ?_)
 refine ie (G4 rfl (fun e=>?_) (fun e=>?_))
 ·have r:=bV e
  exfalso;omega
 have r:=bV e
 refine bS rfl (bP 2 26 rfl ?_)
 refine ie (G4 rfl (fun h=>?_) (fun h=>?_))
 ·have o:=bV h
  exfalso;omega
 have o:=bV h
 refine bS rfl (bP 2 28 rfl ?_)
 refine ie (G4 rfl (fun f=>?_) (fun f=>?_))
 ·have t:=bV f
  exfalso;omega
 have t:=bV f
 refine bS rfl (bP 2 30 rfl ?_)
 refine ie (G4 rfl (fun b=>?_) (fun b=>?_))
 ·have v:=bV b
  exfalso;omega
 have v:=bV b
 refine bS rfl (bP 2 32 rfl ?_)
 refine ie (G4 rfl (fun c=>?_) (fun c=>?_))
 ·have p:=bV c
  exfalso;omega
 have p:=bV c
 refine bS rfl (bP 2 34 rfl ?_)
 refine ie (G4 rfl (fun g=>?_) (fun g=>?_))
 ·have k:=bV g
  exfalso;omega
 have k:=bV g
 refine bS rfl (bP 2 40 rfl ?_)
 refine ie (G4 rfl (fun i=>?_) (fun i=>?_))
 ·have l:=bV i
  exfalso;omega
 have l:=bV i
 refine bS rfl (bP 2 42 rfl ?_)
 refine ie (G4 rfl (fun d=>?_) (fun d=>?_))
 ·have s:=bV d
  exfalso;omega
 have s:=bV d
 refine bS rfl (bP 2 52 rfl ?_)
 refine ie (G4 rfl (fun j=>?_) (fun j=>?_))
 ·have w:=bV j
  exfalso;omega
 refine A4 (nx (bS rfl (bP 1 2 rfl ?_)))
 subst hR
 refine ie (A8 ?_)
 exact F7 hr hD
def V6:Nat→Int→List UInt8
 | 0,_=>[]
 | fu+1,n=>(bif (decide (n<10)) then ([(by8 (IntKind.u8.wrap (IntKind.i64.wrap ((48:Int)+n))))]:List UInt8) else ((V6 fu (n / 10))++(V6 fu (n % 10))))
theorem A0m:∀ (fu:Nat) (n:Int),(V6 fu n).length≤n.toNat+1
 | 0,n=>by simp [V6]
 | fu+1,n=>by
  simp only [V6]
  cases h:decide (n<10) with
  | true=>simp
  | false =>
   have c:¬ n<10:=of_decide_eq_false h
   have a:=A0m fu (n / 10)
   have b:=A0m fu (n % 10)
   simp only [cond_false,List.length_append]
   omega
theorem B9k:∀ (fu:Nat) (n:Int) (d:n≤9223372036854775807) (a:n.toNat<fu) (R:List UInt8) (hR:V6 fu n=R),J5 Tryz.prog 92 [iv n] [] (sv R):=by
 intro fu
 induction fu with
 | zero=>intros;omega
 | succ fu ih =>
  intro n d a R hR
  refine cC Tryz.func92 fun X hX hr hD=>?_
  replace hR:=(V6.eq_2 ..).symm.trans hR
  refine bS rfl (pp0 1 rfl ?_)
  refine ie (A3 (bS rfl (bP 2 4 rfl ?_)))
  refine ie ?_
  refine zjd rfl hR ?_ ?_<;>clear hR<;>intro hR e b
  ·refine bS rfl (bP 1 5 rfl ?_)
   refine ix rfl (J9.pure rfl) ?_
   refine ix rfl (H8 (v:=.int .u8 (IntKind.u8.wrap (IntKind.i64.wrap ((48:Int)+n)))) (J9.pure rfl) (B1l)) ?_
   refine it rfl (B1 (c:=cI) (xs:=([(by8 (IntKind.u8.wrap (IntKind.i64.wrap ((48:Int)+n))))]:List UInt8)) A4k rfl rfl rfl oki) fun f=>?_
   have:([(by8 (IntKind.u8.wrap (IntKind.i64.wrap ((48:Int)+n))))]:List UInt8).length=1:=rfl
   refine ix rfl (C0o Tryz.underlying9 Tryz.underlying98 rfl rfl (A5 0 rfl) rfl oki) ?_
   have:([(by8 (IntKind.u8.wrap (IntKind.i64.wrap ((48:Int)+n))))]:List UInt8).length=1:=rfl
   refine bP 1 2 rfl ?_
   subst hR
   refine ie (A8 ?_)
   exact F7 hr hD
  refine A4 (nx (bS rfl (bP 1 10 rfl ?_)))
  refine ix rfl (E8u (c:=(n / 10)) rfl rfl rfl ozw (by first|exact ⟨⟨by omega,by show _≤(9223372036854775807:Int);omega⟩,rfl⟩|exact ⟨by omega,rfl⟩)) ?_
  refine zv rfl (ih (n / 10) oyd opx _ rfl) ?_
  have:=A0m fu (n / 10)
  refine bP 1 13 rfl ?_
  refine ix rfl (E5v (c:=(n % 10)) rfl rfl rfl ozw (by first|exact ⟨⟨by omega,by show _≤(9223372036854775807:Int);omega⟩,rfl⟩|exact ⟨by omega,rfl⟩)) ?_
  refine zv rfl (ih (n % 10) oyd opx _ rfl) ?_
  have:=A0m fu (n % 10)
  refine ix rfl (zst rfl rfl rfl) ?_
  have:=@List.length_append _ (V6 fu (n / 10)) (V6 fu (n % 10))
  refine bP 1 2 rfl ?_
  subst hR
  refine ie (A8 ?_)
  exact F7 hr hD
def A0l (n:Int) (none_:Int):List UInt8 :=
 (bif (decide (n=none_)) then ([]:List UInt8) else (V6 (n.toNat+1) n))
theorem Z0 (n k:Int) (h:n≤9999):(A0l n k).length≤10000:=by
 have:=A0m (n.toNat+1) n
 unfold A0l;simp only [Bool.cond_eq_ite];split
 ·exact Nat.zero_le _
 ·omega
theorem A9y {n none_:Int} {R:List UInt8} (hR:A0l n none_=R) (c:n≤9999:=by exact bW):J5 Tryz.prog 241 [iv n,iv none_] [] (sv R):=by
 refine cC Tryz.func241 fun X hX hr hD=>?_
 replace hR:=(A0l.eq_1 ..).symm.trans hR
 refine bS rfl (pp0 1 rfl ?_)
 refine ie (A3 (bS rfl (bP 3 7 rfl ?_)))
 refine ie ?_
 refine zjd rfl hR ?_ ?_<;>clear hR<;>intro hR b a
 ·refine bS rfl (bP 1 4 rfl ?_)
  subst hR
  refine ie (A8 ?_)
  exact F7 hr hD
 refine A4 (nx (bS rfl (bP 1 8 rfl ?_)))
 refine zv rfl (B9k (n.toNat+1) n oyd (Nat.lt_succ_self _) _ rfl) ?_
 refine bP 1 4 rfl ?_
 subst hR
 refine ie (A8 ?_)
 exact F7 hr hD
def A8s (n:Int) (m:Int) (none_:Int):List UInt8 :=
 (bif (decide (m=none_)) then (B6 (A0l n none_) fun (c:List UInt8)=>c) else (B6 (A0l n none_) fun (a:List UInt8)=>(B6 (A0l m none_) fun (b:List UInt8)=>((a++([59]:List UInt8))++b))))
theorem C1i (n m k:Int) (h:n≤9999∧m≤9999):(A8s n m k).length≤20001:=by
 have a:=Z0 n k h.1
 have b:=Z0 m k h.2
 unfold A8s B6;simp only [Bool.cond_eq_ite];split
 ·omega
 ·simp only [List.length_append,List.length_cons,List.length_nil];omega
theorem D7x {n m none_:Int} {R:List UInt8} (hR:A8s n m none_=R) (i:n≤9999∧m≤9999:=by exact bW):J5 Tryz.prog 212 [iv n,iv m,iv none_] [] (sv R):=by
 refine cC Tryz.func212 fun X hX hr hD=>?_
 replace hR:=(A8s.eq_1 ..).symm.trans hR
 refine bS rfl (pp0 1 rfl ?_)
 refine ie (A3 (bS rfl (bP 3 9 rfl ?_)))
 refine ie ?_
 refine zjd rfl hR ?_ ?_<;>clear hR<;>intro hR j h
 ·refine bS rfl (cG 2 10 11 rfl ?_)
  have g:=C4 hR;clear hR;obtain ⟨f,c,hR⟩:=g
  refine zv rfl (A9y c) ?_
  have:=Z0 n none_ opx;try rw [c] at this
  refine bP 1 6 rfl ?_
  subst hR
  refine ie (A8 ?_)
  exact F7 hr hD
 refine A4 (nx (bS rfl (cG 2 13 14 rfl ?_)))
 have g:=C4 hR;clear hR;obtain ⟨e,b,hR⟩:=g
 refine zv rfl (A9y b) ?_
 have:=Z0 n none_ opx;try rw [b] at this
 refine ix rfl (zst rfl rfl rfl) ?_
 refine cG 2 17 18 rfl ?_
 have g:=C4 hR;clear hR;obtain ⟨d,a,hR⟩:=g
 refine zv rfl (A9y a) ?_
 have:=Z0 m none_ opx;try rw [a] at this
 refine ix rfl (zst rfl rfl rfl) ?_
 refine bP 1 6 rfl ?_
 subst hR
 refine ie (A8 ?_)
 exact F7 hr hD
def A6m (s:List UInt8) (n:Int):List UInt8 :=
 ((s.drop ((n).toNat)).take (((n).toNat+1) - ((n).toNat)))
theorem A9r (s:List UInt8) (n:Int) (h:0≤n):(A6m s n).length≤1:=by
 unfold A6m;simp only [List.length_take,List.length_drop];omega
theorem C5b {s:List UInt8} {n:Int} {R:List UInt8} (hR:A6m s n=R) (b:0≤n∧n<(s.length:Int):=by exact bW) (a:s.length≤1000:=by exact bW):J5 Tryz.prog 211 [sv s,iv n] [] (sv R):=by
 refine cC Tryz.func211 fun X hX hr hD=>?_
 replace hR:=(A6m.eq_1 ..).symm.trans hR
 refine bS rfl (pp0 1 rfl ?_)
 refine ie (bS rfl (pp3 3 5 6 7 rfl ?_))
 refine ix rfl (B3 rfl rfl rfl rfl opx) ?_
 refine ix rfl (D8d Tryz.underlying9 rfl rfl rfl rfl ((n).toNat) opx ((n).toNat+1) opx opx opx) ?_
 refine bP 1 4 rfl ?_
 subst hR
 refine ie (A8 ?_)
 exact F7 hr hD
def A2i (a:Act):Nat→Nat→List UInt8
 | 0,_=>[]
 | fu1+1,i=>(bif (decide ((i:Int)<10)) then (bif (decide (a.kind=(([22,23,24,25,28,29,30,31,32,34]:List Int).getD i 0))) then (B6 (A0l a.n 1) fun (b:List UInt8)=>(B6 (A6m ([71,100,73,90,64,80,88,76,77,98]:List UInt8) (i:Int)) fun (c:List UInt8)=>(b++c))) else A2i a fu1 (i+1)) else ([]:List UInt8))
def A7x (a:Act):List UInt8 :=
 (bif (decide (a.kind=20)) then (B6 (A0l a.m 1) fun (b:List UInt8)=>(B6 (A6m ([65,66,67,68]:List UInt8) a.n) fun (c:List UInt8)=>(b++c))) else A2i a ((10 - 0)+1) 0)
theorem B2a (a:Act) (b:a.n≤1000):∀ (fu i:Nat),(A2i a fu i).length≤10010
 | 0,i=>Nat.zero_le _
 | fu+1,i=>by
  have d:=B2a a b fu (i+1)
  have c:=Z0 a.n 1 opx
  have e:=A9r [71,100,73,90,64,80,88,76,77,98] i opx
  rw [A2i];simp only [B6,Bool.cond_eq_ite]
  repeat' split
  all_goals first|omega|(simp only [List.length_append,List.length_cons,List.length_nil];omega)
theorem B5a {a:Act} (h:(a.kind=19∨a.kind=20∨a.kind=22)∧(0≤a.n∧a.n≤1000)∧(0≤a.m∧a.m≤1000)∧(a.kind=20→a.n≤3)):(A7x a).length≤10010:=by
 have c:=Z0 a.m 1 opx
 have d:=A9r [65,66,67,68] a.n opx
 have b:=B2a a opx ((10 - 0)+1) 0
 unfold A7x;simp only [B6,Bool.cond_eq_ite]
 repeat' split
 all_goals first|omega|(simp only [List.length_append,List.length_cons,List.length_nil];omega)
theorem C7k {a:Act} {R:List UInt8} (hR:A7x a=R) (ha:(a.kind=19∨a.kind=20∨a.kind=22)∧(0≤a.n∧a.n≤1000)∧(0≤a.m∧a.m≤1000)∧(a.kind=20→a.n≤3):=by exact bW):J5 Tryz.prog 213 [ag (A0 a)] [] (sv R):=by
 refine cC Tryz.func213 fun X hX hr hD=>?_
 replace hR:=(A7x.eq_1 ..).symm.trans hR
 refine bS rfl (zra 2 [] (fun v=>[(1,pt v 0)]) (fun _=>(A0 a)) 54 fun v=>?_)
 refine ie (A3 (bS rfl (cF 2 [0] 6 rfl ?_)))
 refine ie (A9 (bS rfl (bP 2 7 rfl ?_)))
 refine ie (G4 rfl (fun r=>?_) (fun r=>?_))
 ·have y:=bV r
  replace hR:=bt hR r
  refine sd 8 rfl oki rfl ?_
  refine pg1 2 [0] 10 rfl ?_
  have q:=C4 hR;clear hR;obtain ⟨l,e,hR⟩:=q
  refine zvd rfl (A9y e) ?_
  have:=Z0 a.m 1 opx;try rw [e] at this
  refine pg1 2 [0] 13 rfl ?_
  have q:=C4 hR;clear hR;obtain ⟨k,f,hR⟩:=q
  refine zvd rfl (C5b f) ?_
  have:=A9r ([65,66,67,68]:List UInt8) a.n opx;try rw [f] at this
  refine dd rfl (zst rfl rfl rfl) ?_
  refine pd1 1 2 rfl ?_
  subst hR
  refine de (A8 ?_)
  exact F7 hr hD
 have y:=bV r
 replace hR:=bf hR r
 refine bS rfl (bP 2 16 rfl ?_)
 refine ie (G4 rfl (fun h3=>?_) (fun h3=>?_))
 ·have a2:=bV h3
  exfalso;omega
 have a2:=bV h3
 refine bS rfl (bP 2 25 rfl ?_)
 refine ie (G4 rfl (fun h4=>?_) (fun h4=>?_))
 ·have a4:=bV h4
  exfalso;omega
 have a4:=bV h4
 refine bS rfl (bP 2 34 rfl ?_)
 refine ie (G4 rfl (fun h5=>?_) (fun h5=>?_))
 ·have a0:=bV h5
  exfalso;omega
 have a0:=bV h5
 refine bS rfl (bP 2 40 rfl ?_)
 refine ie (G4 rfl (fun h6=>?_) (fun h6=>?_))
 ·have x:=bV h6
  exfalso;omega
 have x:=bV h6
 refine bS rfl (bP 2 46 rfl ?_)
 refine ie (G4 rfl (fun h7=>?_) (fun h7=>?_))
 ·have a8:=bV h7
  exfalso;omega
 have a8:=bV h7
 refine bS rfl (bP 2 52 rfl ?_)
 refine ie (G4 rfl (fun h8=>?_) (fun h8=>?_))
 ·have z:=bV h8
  exfalso;omega
 refine A4 (nx (bS rfl (zra 3 [0] (fun w=>[(3,pt w 0)]) (fun _=>[iv 22,iv 23,iv 24,iv 25,iv 28,iv 29,iv 30,iv 31,iv 32,iv 34]) 231 fun w=>?_)))
 refine ie (A3 (bS rfl (bP 1 4 rfl ?_)))
 refine ie (A9 (A3q (un fun fu i=>((10 - i)<fu∧A2i a fu i=R,[(1,_),(3,_),(4,iv i)],[_,_],_,fu)) (_,0) ⟨(Nat.lt_succ_self _),hR⟩ bU A7.nil ?_))
 rintro ⟨fu,i⟩ ⟨aa,hR⟩
 obtain ⟨fu1,rfl⟩:∃ m,fu=m+1:=⟨fu - 1,by omega⟩
 replace hR:=(A2i.eq_2 ..).symm.trans hR
 refine A3 (bS rfl (bP 2 60 rfl ?_))
 refine ie (G4 rfl (fun p=>?_) (fun p=>?_))
 ·have s:=bV p
  replace hR:=bt hR p
  refine A4 (nx (A3 (A9 (sd 6 rfl oki rfl ?_))))
  refine pg2 3 [1] 64 65 rfl ?_
  refine dd rfl (A6i Tryz.underlying231 cH rfl rfl rfl i rfl opx) ?_
  refine dd rfl (Z9 (u:=iv ([22,23,24,25,28,29,30,31,32,34].getD i 0)) (c:=H5) cH (fun _=>rfl) rfl rfl 0 rfl i 0 rfl (gd 0 oqd) rfl) ?_
  refine pd1 1 68 rfl ?_
  refine de (G4 rfl (fun o=>?_) (fun o=>?_))
  ·have t:=bV o
   replace hR:=bt hR o
   refine bS rfl (cF 2 [1] 70 rfl ?_)
   have q:=C4 hR;clear hR;obtain ⟨g,b,hR⟩:=q
   refine zv rfl (A9y b) ?_
   have:=Z0 a.n 1 opx;try rw [b] at this
   refine bP 1 72 rfl ?_
   have q:=C4 hR;clear hR;obtain ⟨h,d,hR⟩:=q
   refine zv rfl (C5b d) ?_
   have:=A9r ([71,100,73,90,64,80,88,76,77,98]:List UInt8) (i:Int) opx;try rw [d] at this
   refine ix rfl (zst rfl rfl rfl) ?_
   refine bP 1 2 rfl ?_
   subst hR
   refine ie (A8 ?_)
   exact F7 hr hD
  have t:=bV o
  replace hR:=bf hR o
  refine A4 (nx (A1 3 rfl (bP 1 61 rfl ?_)))
  refine ix rfl (B3 rfl rfl rfl rfl opx) ?_
  refine bP 1 4 rfl ?_
  refine A2 ?_
  exact A2g (_,_) ⟨opx,hR⟩ (Nat.lt_succ_self _) bU A7.nil
 replace hR:=bf hR p
 refine F4 (nx (bS rfl (bP 1 2 rfl ?_)))
 subst hR
 refine ie (A8 ?_)
 exact F7 hr hD
def B2b (a:Act):List UInt8 :=
 (bif (decide (a.kind=19)) then (B6 (A8s a.n a.m 1) fun (c:List UInt8)=>(c++([72]:List UInt8))) else (B6 (A7x a) fun (b:List UInt8)=>b))
theorem B8n {a:Act} (h:(a.kind=19∨a.kind=20∨a.kind=22)∧(0≤a.n∧a.n≤1000)∧(0≤a.m∧a.m≤1000)∧(a.kind=20→a.n≤3)):(B2b a).length≤30000 - 10:=by
 have b:=C1i a.n a.m 1 opx
 have c:=B5a h
 unfold B2b;simp only [B6,Bool.cond_eq_ite]
 repeat' split
 all_goals first|omega|(simp only [List.length_append,List.length_cons,List.length_nil]<;>omega)
theorem D2v {a:Act} {R:List UInt8} (hR:B2b a=R) (x:(a.kind=19∨a.kind=20∨a.kind=22)∧(0≤a.n∧a.n≤1000)∧(0≤a.m∧a.m≤1000)∧(a.kind=20→a.n≤3):=by exact bW):J5 Tryz.prog 171 [ag (A0 a)] [] (sv R):=by
 refine cC Tryz.func171 fun X hX hr hD=>?_
 replace hR:=(B2b.eq_1 ..).symm.trans hR
 refine bS rfl (zra 2 [] (fun w=>[(1,pt w 0)]) (fun _=>(A0 a)) 54 fun w=>?_)
 refine ie (bS rfl (cF 2 [0] 5 rfl ?_))
 refine zv rfl (B9k (a.n.toNat+1) _ oyd (Nat.lt_succ_self _) _ rfl) ?_
 refine bP 1 3 rfl ?_
 refine ie (A3 (bS rfl (cF 2 [0] 8 rfl ?_)))
 refine ie (A9 (bS rfl (bP 2 9 rfl ?_)))
 refine ie (G4 rfl (fun f=>?_) (fun f=>?_))
 ·have k:=bV f
  replace hR:=bt hR f
  refine bS rfl (pl2 4 [0,0] 12 14 rfl ?_)
  have j:=C4 hR;clear hR;obtain ⟨e,c,hR⟩:=j
  refine zv rfl (D7x c) ?_
  have:=C1i a.n a.m 1 opx;try rw [c] at this
  refine ix rfl (zst rfl rfl rfl) ?_
  refine bP 1 2 rfl ?_
  subst hR
  refine ie (A8 ?_)
  exact F7 hr hD
 have k:=bV f
 replace hR:=bf hR f
 refine bS rfl (bP 2 17 rfl ?_)
 refine ie (G4 rfl (fun h=>?_) (fun h=>?_))
 ·have s:=bV h
  exfalso;omega
 have s:=bV h
 refine bS rfl (bP 2 25 rfl ?_)
 refine ie (G4 rfl (fun r=>?_) (fun r=>?_))
 ·have t:=bV r
  exfalso;omega
 have t:=bV r
 refine bS rfl (bP 2 32 rfl ?_)
 refine ie (G4 rfl (fun v=>?_) (fun v=>?_))
 ·have q:=bV v
  exfalso;omega
 have q:=bV v
 refine bS rfl (bP 2 40 rfl ?_)
 refine ie (G4 rfl (fun p=>?_) (fun p=>?_))
 ·have i:=bV p
  exfalso;omega
 have i:=bV p
 refine bS rfl (bP 2 44 rfl ?_)
 refine ie (G4 rfl (fun u=>?_) (fun u=>?_))
 ·have l:=bV u
  exfalso;omega
 have l:=bV u
 refine bS rfl (bP 2 51 rfl ?_)
 refine ie (G4 rfl (fun g=>?_) (fun g=>?_))
 ·have o:=bV g
  exfalso;omega
 refine A4 (nx (bS rfl (c9 1 2 [0] [(60,ag (A0 a))] ?_)))
 have j:=C4 hR;clear hR;obtain ⟨d,b,hR⟩:=j
 refine zv rfl (C7k b) ?_
 have:=B5a (a:=a) opx;try rw [b] at this
 refine bP 1 2 rfl ?_
 subst hR
 refine ie (A8 ?_)
 exact F7 hr hD
def A7m (a:Act):List UInt8 :=
 (B6 (A8x a) fun (b:List UInt8)=>(bif (!(decide (b=([]:List UInt8)))) then b else (B6 (B2b a) fun (c:List UInt8)=>(([27,91]:List UInt8)++c))))
theorem D2f {a:Act} (h:(a.kind=3∨a.kind=5∨a.kind=6∨a.kind=19∨a.kind=20∨a.kind=22)∧(0≤a.n∧a.n≤1000)∧(0≤a.m∧a.m≤1000)∧(a.kind=20→a.n≤3)):(A7m a).length≤30000:=by
 have s:=C0e rfl h
 unfold A7m;simp only [B6]
 by_cases hs:A8x a=[]
 ·have o:=B8n (a:=a) (by have:=s.2 hs;omega)
  rw [decide_eq_true hs];simp only [Bool.not_true,cond_false,List.length_append,List.length_cons,List.length_nil];omega
 ·rw [decide_eq_false hs];simp only [Bool.not_false,cond_true];omega
theorem D9n {a:Act} {R:List UInt8} (hR:A7m a=R) (y:(a.kind=3∨a.kind=5∨a.kind=6∨a.kind=19∨a.kind=20∨a.kind=22)∧(0≤a.n∧a.n≤1000)∧(0≤a.m∧a.m≤1000)∧(a.kind=20→a.n≤3):=by exact bW):J5 Tryz.prog 110 [ag (A0 a)] [] (sv R):=by
 refine cC Tryz.func110 fun X hX hr hD=>?_
 replace hR:=(A7m.eq_1 ..).symm.trans hR
 refine bS rfl (zra 2 [] (fun w=>[(1,pt w 0)]) (fun _=>(A0 a)) 54 fun w=>?_)
 refine ie (A3 (bS rfl (cF 2 [0] 7 rfl ?_)))
 refine ie (A9 (bS rfl (bP 2 8 rfl ?_)))
 refine ie (G4 rfl (fun p=>?_) (fun p=>?_))
 ·have s:=bV p
  exfalso;omega
 have s:=bV p
 refine A3 (bS rfl (bP 2 13 rfl ?_))
 refine ie (G4 rfl (fun q=>?_) (fun q=>?_))
 ·have u:=bV q
  exfalso;omega
 have u:=bV q
 refine bS rfl (bP 2 13 rfl ?_)
 refine ie (G4 rfl (fun t=>?_) (fun t=>?_))
 ·have v:=bV t
  exfalso;omega
 have v:=bV t
 refine A1 2 rfl (bP 2 13 rfl ?_)
 refine A2 (nx (G4 rfl (fun o=>?_) (fun o=>?_)))
 ·have k:=bV o
  exfalso;omega
 have k:=bV o
 try (have i:=f.2 (by first|exact Decidable.not_not.1 k|simpa using o))
 refine bS rfl (bP 2 26 rfl ?_)
 refine ie (G4 rfl (fun l=>?_) (fun l=>?_))
 ·have h:=bV l
  exfalso;omega
 have h:=bV l
 try (have i:=f.2 (by first|exact Decidable.not_not.1 h|simpa using l))
 refine A4 (nx (bS rfl (c9 1 2 [0] [(31,ag (A0 a))] ?_)))
 have r:=C4 hR;clear hR;obtain ⟨d,b,hR⟩:=r
 refine zv rfl (D2g b (by first|exact B1q oiu opx|(have x:=B1q oiu (show 0<_ by omega);exact x)|omega)) ?_
 have f:=C0e b ojv
 have:=f.1;try rw [b] at this
 refine bP 1 5 rfl ?_
 refine ie (A3 (bS rfl (bP 1 33 rfl ?_)))
 refine ix rfl (A9v rfl rfl rfl) ?_
 refine ie (G4 rfl (fun g=>?_) (fun g=>?_))
 ·have j:=bV g
  replace hR:=bt hR g
  refine bS rfl (bP 2 2 rfl ?_)
  subst hR
  refine ie (A8 ?_)
  exact F7 hr hD
 have j:=bV g
 replace hR:=bf hR g
 try (have i:=f.2 (by first|exact Decidable.not_not.1 j|simpa using g))
 refine A4 (nx (bS rfl (c9 1 3 [0] [(36,ag (A0 a))] ?_)))
 have r:=C4 hR;clear hR;obtain ⟨e,c,hR⟩:=r
 refine zv rfl (D2v c) ?_
 have:=B8n (a:=a) opx;try rw [c] at this
 refine ix rfl (zst rfl rfl rfl) ?_
 refine bP 1 2 rfl ?_
 subst hR
 refine ie (A8 ?_)
 exact F7 hr hD
def B0d (d:List Act) (c:List UInt8) (a:List Act→List UInt8→(List UInt8×Int)):Nat→Nat→(List UInt8×Int)
 | 0,_=>([],0)
 | fu3+1,n=>(B6 (A7m (d.getD 0 Act.zero)) fun (b:List UInt8)=>a (d.drop 1) (c++b))
def Z2:Nat→List Act→List UInt8→(List UInt8×Int)
 | 0,_,_=>([],0)
 | fu1+1,l1,out=>(bif (decide ((0:Int)<(l1.length:Int))) then B0d l1 out (Z2 fu1) ((16 - 0)+1) 0 else (out,0))
def A5e (l:List Act):List Act→Nat→(List UInt8×Int)
 | [],i=>Z2 (l.length+1) l ([]:List UInt8)
 | hd_l0::tl_l0,i=>(bif (!(S9 hd_l0)) then (([]:List UInt8),200) else A5e l tl_l0 (i+1))
def C0h (l:List Act):List UInt8×Int :=
 (bif (decide ((131072:Int)<(l.length:Int))) then (([]:List UInt8),3) else A5e l l 0)
theorem D9i {l:List Act} {lq:Option Addr} {lk:Nat} {R:List UInt8×Int} (hR:C0h l=R) (af:l.length≤9223372036854775807:=by exact bW) (aq:l.length≤lk:=by exact bW) (z:∀ a ∈ l,k6 a:=by exact bW):Con Tryz.prog 71 [.slice lq l.length lk] [] [sl A0 lq l] ({r:VR // bT 1 R.1.length r}) (fun x=>.tuple #[.slice (va x.1.q) R.1.length x.1.k,iv R.2]) (fun x=>((vo cI 5 x.1 R.1)++([]))) (fun x=>[]):=by
 refine cC Tryz.func71 fun X hX hr hD=>?_
 replace hR:=(C0h.eq_1 ..).symm.trans hR
 refine bS rfl (pp0 2 rfl ?_)
 refine ie (A3 (bS rfl (bP 3 9 rfl ?_)))
 refine ie ?_
 refine zjd rfl hR ?_ ?_<;>clear hR<;>intro hR h1 ak
 ·refine bS rfl (cG 2 2 3 rfl ?_)
  subst hR
  refine ie (A8 ?_)
  exact cD hr hD (U0 rfl (A6 rfl) (A6 rfl)) ⟨_,bT.nil⟩ bU A7.nil
 refine A4 (nx (A3 (bS rfl (bP 1 4 rfl ?_))))
 refine ie (A9 (A3q (fun i=>(i≤l.length∧A5e l (l.drop i) i=R,[(0,_),(4,iv i)],_,_,l.length - i)) 0 ⟨opx,hR⟩ bU A7.refl ?_))
 rintro i ⟨al,hR⟩
 refine A3 (bS rfl (bP 4 13 rfl ?_))
 refine ie (G4 rfl (fun h3=>?_) (fun h3=>?_))
 ·have a7:=bV h3
  rw [A1b Act.zero (show i<l.length by omega)] at hR;replace hR:=(A5e.eq_2 ..).symm.trans hR
  refine A4 (nx (A3 (A9 (bS rfl (cG 2 16 17 rfl ?_)))))
  refine K8 0 rfl opx fun a4 y=>?_
  refine ix rfl (F8 Q1 rfl rfl y rfl i rfl opx) ?_
  refine ix rfl (K3 C8e rfl rfl (H2 (sz:=6) y (fun _=>rfl) 0 rfl (gd Act.zero opx)) rfl) ?_
  refine zv rfl (D0a rfl (by first|exact B1q oiu opx|(have q6:=B1q oiu (show 0<_ by omega);exact q6)|omega)) ?_
  refine bP 1 21 rfl ?_
  refine ie ?_
  refine zjb rfl hR ?_ ?_<;>clear hR<;>intro hR h6
  ·refine bS rfl (cG 2 2 3 rfl ?_)
   subst hR
   refine ie (A8 ?_)
   exact cD hr hD (U0 rfl (A6 rfl) (A6 rfl)) ⟨_,bT.nil⟩ bU A7.nil
  refine A4 (nx (A1 3 rfl (bP 1 14 rfl ?_)))
  refine ix rfl (B3 rfl rfl rfl rfl opx) ?_
  refine bP 1 4 rfl ?_
  refine A2 ?_
  exact A2g _ ⟨opx,hR⟩ olr bU A7.refl
 have a7:=bV h3
 rw [A1d a7] at hR;replace hR:=(A5e.eq_1 ..).symm.trans hR
 refine F4 (nx (bS rfl (bP 1 5 rfl ?_)))
 refine ie (A3 (A9 ?_))
 refine A3q (un fun fu=>un fun h=>un fun o=>un fun j=>un fun e b=>(h.length<fu∧Z2 fu h e=R∧h.length≤j∧h.length≤9223372036854775807∧bT 1 e.length b∧(∀ a ∈ h,k6 a)∧e.length+30000 * h.length≤4000000000,[(0,.slice o h.length j),(5,.slice (va b.q) e.length b.k)],((vo cI 5 b e)++([])),[_,sl _ o h],fu)) (_,l,_,_,_,_) ⟨(Nat.lt_succ_self _),hR,old,old,bT.nil,(by exact z),(by (simp only [List.length_nil];omega))⟩ bU cB ?_
 rintro ⟨fu,h,o,j,e,b⟩ ⟨am,hR,ad,ae,g,a2,hb⟩
 have:=bT.le g
 obtain ⟨fu1,rfl⟩:∃ m,fu=m+1:=⟨fu - 1,by omega⟩
 replace hR:=(Z2.eq_2 ..).symm.trans hR
 refine A3 (bS rfl (bP 3 24 rfl ?_))
 refine ie ?_
 refine zjd rfl hR ?_ ?_<;>clear hR<;>intro hR h8 ai
 ·refine A4 (nx (A9 (bS rfl (bP 1 6 rfl ?_))))
  refine ie (A3 (A9 ?_))
  refine A3q (un fun p n=>((16 - n)<p∧B0d h e _ p n=R∧n=0,[(0,_),(5,_),(6,iv n)],((vo _ 5 b e)++([])),_,p)) (_,0) ⟨(Nat.lt_succ_self _),hR,(by rfl)⟩ bU A7.refl ?_
  rintro ⟨p,n⟩ ⟨an,hR,ap⟩
  obtain ⟨fu3,rfl⟩:∃ m,p=m+1:=⟨p - 1,by omega⟩
  replace hR:=(B0d.eq_2 ..).symm.trans hR
  refine A3 (bS rfl (bP 5 29 rfl ?_))
  refine zid 3 8 29 32 (decide ((n:Int)<16)) (fun aa ac=>?_) ?_
  ·refine bP 3 32 rfl ?_
   exact A2 (J0 2 29 _ aa A7.refl bU rfl rfl rfl rfl rfl)
  refine bP 1 33 rfl ?_
  refine zia 7 0 33 40 (decide ((h.getD n Act.zero).kind=39)) (fun a3=>?_) ?_
  ·have ab:=bV a3
   refine cG 2 34 35 rfl ?_
   refine K8 1 rfl opx fun ar u=>?_
   refine ix rfl (F8 Q1 rfl rfl u rfl n rfl opx) ?_
   refine bP 1 37 rfl ?_
   refine ix rfl (C9 cH rfl rfl (A0i (H2 (sz:=6) u (fun _=>rfl) 1 rfl (gd _ opx)) (ws:=[iv ((h.getD n Act.zero).kind)]) 1 rfl) rfl) ?_
   refine bP 2 40 rfl ?_
   exact A2 (J0 7 33 _ a3 A7.refl bU rfl rfl rfl rfl rfl)
  refine ie (G4 rfl (fun w=>?_) (fun w=>?_))
  ·have a6:=bV w
   exfalso;simp only [Bool.and_eq_true,decide_eq_true_eq] at w;have q6:=B1q a2 (show n<h.length by omega);unfold k6 at q6;omega
  refine F4 (nx (A3 (bS rfl (bP 2 44 rfl ?_))))
  refine ie (G4 rfl (fun a0=>?_) (fun a0=>?_))
  ·have a1:=bV a0
   exfalso;omega
  refine A4 (nx (bS rfl (cG 2 54 55 rfl ?_)))
  refine K8 1 rfl opx fun aj v=>?_
  refine ix rfl (F8 Q1 rfl rfl v rfl 0 rfl opx) ?_
  refine ix rfl (K3 C8e rfl rfl (H2 (sz:=6) v (fun _=>rfl) 1 rfl (gd Act.zero opx)) rfl) ?_
  have hQ:=C4 hR;clear hR;obtain ⟨d,f,hR⟩:=hQ
  refine zv rfl (D9n f (by first|exact B1q oiu opx|(have q6:=B1q oiu (show 0<_ by omega);exact q6)|omega)) ?_
  have:=D2f (a:=(h.getD 0 Act.zero)) (by first|exact B1q oiu opx|omega);try rw [f] at this
  refine it rfl (B5b (r:=b) (xs:=e) (s:=d) (pre:=[]) (post:=[]) B8x oki Tryz.underlying9 rfl rfl rfl rfl rfl rfl rfl g omh) fun ⟨a8,t⟩=>?_
  have:=@List.length_append _ e d
  refine bP 1 5 rfl ?_
  refine ie (A1 3 rfl (bP 1 60 rfl ?_))
  refine D7 (C8m (sz:=6) (A5 1 rfl) 1 j (fun _=>rfl) opx opx) ?_
  refine ix rfl (B1k (n':=(h.drop 1).length) Q1 rfl rfl 1 _ j (A0w rfl rfl) A1u A1u opx opx opx ofx rfl) ?_
  have:=@List.length_drop _ 1 h
  refine bP 1 0 rfl ?_
  refine A2 ?_
  exact A2g (_,_,_,j - 1,_,_) ⟨opx,hR,old,old,t,(by exact fun a ha=>a2 a (List.mem_of_mem_drop ha)),(by first|omega|(simp only [List.length_append,List.length_drop];omega))⟩ (Nat.lt_succ_self _) bU cB
 refine F4 (nx (bS rfl (cG 3 2 3 rfl ?_)))
 subst hR
 refine ie (A8 ?_)
 exact cD hr hD (U0 rfl (A6 rfl) (A6 rfl)) ⟨b,g⟩ bU A7.nil
def Y4 (l:List Act):List UInt8 :=
 (B6 (C0h l) fun (a:List UInt8×Int)=>a.1)
theorem C1c {l:List Act} {lq:Option Addr} {lk:Nat} {R:List UInt8} (hR:Y4 l=R) (f:l.length≤9223372036854775807:=by exact bW) (i:l.length≤lk:=by exact bW) (e:∀ a ∈ l,k6 a:=by exact bW):Con Tryz.prog 43 [.slice lq l.length lk] [] [sl A0 lq l] ({r:VR // bT 1 R.length r}) (fun x=>.slice (va x.1.q) R.length x.1.k) (fun x=>((vo cI 5 x.1 R)++([]))) (fun x=>[]):=by
 refine cC Tryz.func43 fun X hX hr hD=>?_
 replace hR:=(Y4.eq_1 ..).symm.trans hR
 refine bS rfl (pp0 1 rfl ?_)
 refine ie (bS rfl (bP 1 6 rfl ?_))
 have h:=C4 hR;clear hR;obtain ⟨d,b,hR⟩:=h
 refine zc rfl (D9i b) fun ⟨g,c⟩=>?_
 refine bP 5 3 rfl ?_
 refine ie (bS rfl (bP 2 2 rfl ?_))
 subst hR
 refine ie (A8 ?_)
 exact cD hr hD (K7 rfl (A6 rfl)) _ bU A7.nil
theorem D0h {k n m:Int} (h:(k=3∨k=5∨k=6∨k=19∨k=20∨k=22)∧(0≤n∧n≤1000)∧(0≤m∧m≤1000)∧(k=20→n≤3)):k6 {Act.zero with kind:=k,n:=n,m:=m}:=h
theorem D9w {n m:Int} (h:0≤n∧n≤3∧0≤m∧m≤100):k6 {Act.zero with kind:=20,n:=n,m:=m}:=D0h opx
theorem F0i {c0:Pth} (hb:0≤c0.frm.row∧c0.frm.row≤40∧0≤c0.to_.row∧c0.to_.row≤40) {e:List Act} (c:e ∈ H0 c0):∀ a ∈ e,k6 a:=by
 rcases D0x c with ⟨rfl,h⟩ | ⟨rfl,h⟩ | ⟨rfl,h⟩ | ⟨rfl,h⟩
 ·exact fun a b=>by cases b
 ·exact fun a b=>by rw [List.mem_singleton.1 b];exact D9w opx
 ·exact fun a b=>by rw [List.mem_singleton.1 b];exact D9w opx
 ·rw [A7e];exact fun a b=>by rw [List.eq_of_mem_replicate b];exact D0h (n:=0) (m:=0) opx
theorem E4m {p:Pth} (hb:0≤p.frm.col∧p.frm.col≤80∧0≤p.to_.col∧p.to_.col≤80) {e:List Act} (c:e ∈ I9 p):∀ a ∈ e,k6 a:=by
 rcases E3g e c with ⟨rfl,h⟩ | rfl | ⟨rfl,h⟩ | ⟨rfl,h⟩ | ⟨rfl,h⟩ | ⟨rfl,h⟩ | ⟨rfl,h⟩
 ·exact fun a b=>by cases b
 ·exact fun a b=>by rw [List.mem_singleton.1 b];exact D0h (k:=22) (n:=p.to_.col+1) (m:=0) opx
 ·exact fun a b=>by rw [List.mem_singleton.1 b];exact D9w opx
 ·exact fun a b=>by rw [List.mem_singleton.1 b];exact D9w opx
 ·rw [A7e];exact fun a b=>by rw [List.eq_of_mem_replicate b];exact D0h (n:=0) (m:=0) opx
 ·rw [A7e];exact fun a b=>by rw [List.eq_of_mem_replicate b];exact D0h (n:=0) (m:=0) opx
 ·rw [A7e];exact fun a b=>by
   rcases List.mem_append.1 b with b | b
   ·rw [List.eq_of_mem_replicate b];exact D0h (n:=0) (m:=0) opx
   ·rw [List.mem_singleton.1 b];exact D9w opx
theorem C9w {f:Cur} {t:Plc} {r:List (List Act)} (hr:A5f f t=r) (hb:(0≤f.row∧f.row≤40∧0≤t.row∧t.row≤40)∧(0≤f.col∧f.col≤80∧0≤t.col∧t.col≤80)):∀ e ∈ r,∀ a ∈ e,k6 a:=by
 subst hr;rw [B3y hb]
 refine D6w ⟨f,t⟩ (fun e=>∀ a ∈ e,k6 a) (fun a c=>?_) _ (fun d g a c _ x b=>?_)
 ·rw [List.mem_singleton.1 c];exact D0h (k:=19) (n:=t.row+1) (m:=t.col+1) opx
 ·rcases List.mem_append.1 b with b | b
  ·exact F0i hb.1 g x b
  ·exact E4m hb.2 c x b
def Y8 (a:List (List Act)):List (List Act)→Nat→Nat→List Act
 | [],best,i=>(a.getD best [])
 | hd_l0::tl_l0,best,i=>(B6 (Y4 hd_l0) fun (c:List UInt8)=>(B6 (Y4 (a.getD best [])) fun (b:List UInt8)=>(bif (decide ((c.length:Int)<(b.length:Int))) then Y8 a tl_l0 i (i+1) else Y8 a tl_l0 best (i+1))))
def A3y (from_:Cur) (to_:Plc):List Act :=
 (B6 (A5f from_ to_) fun (a:List (List Act))=>Y8 a (a.drop 1) 0 1)
theorem C0a (W:List (List Act)):∀ (l:List (List Act)) (a i:Nat),∃ k,Y8 W l a i=W.getD k []
 | [],a,i=>⟨a,rfl⟩
 | x::l,a,i=>by
  rw [Y8];simp only [B6]
  cases decide (((Y4 x).length:Int)<((Y4 (W.getD a [])).length:Int)) with
  | true=>exact C0a W l i (i+1)
  | false=>exact C0a W l a (i+1)
theorem D0v (f:Cur) (t:Plc) (hb:(0≤f.row∧f.row≤40∧0≤t.row∧t.row≤40)∧(0≤f.col∧f.col≤80∧0≤t.col∧t.col≤80)):(A3y f t).length≤100:=by
 unfold A3y;simp only [B6]
 obtain ⟨k,a⟩:=C0a (A5f f t) ((A5f f t).drop 1) 0 1
 rw [a,B3y hb,List.getD_eq_getElem?_getD]
 cases h3:(H3 ⟨f,t⟩)[k]? with
 | none=>exact Nat.zero_le _
 | some y=>exact ((C4n (c0:=⟨f,t⟩) hb).1 y (List.mem_of_getElem? h3)).1
theorem D7j {from_:Cur} {to_:Plc} {R:List Act} (hR:A3y from_ to_=R) (hb:(0≤from_.row∧from_.row≤40∧0≤to_.row∧to_.row≤40)∧(0≤from_.col∧from_.col≤80∧0≤to_.col∧to_.col≤80):=by exact bW):Con Tryz.prog 24 [ag (H4 from_),ag (S8 to_)] [] [] ({t:Option Addr×Nat // R.length≤t.2∧R.length≤9223372036854775807}) (fun x=>.slice x.1.1 R.length x.1.2) (fun x=>[]) (fun x=>[sl A0 x.1.1 R]):=by
 refine cC Tryz.func24 fun X hX hr hD=>?_
 replace hR:=(A3y.eq_1 ..).symm.trans hR
 refine bS rfl (B6z 3 [] (fun b1 b2=>[(2,pt b1 0),(3,pt b2 0)]) (fun _ _=>(H4 from_)) (fun _ _=>(S8 to_)) 29 24 fun b1 b2=>?_)
 refine ie (bS rfl (c9 2 2 [1,0] [(8,ag (H4 from_)),(9,ag (S8 to_))] ?_))
 have y:=C4 hR;clear hR;obtain ⟨b,f,hR⟩:=y
 refine zc rfl (D7o f) fun ⟨⟨r3,g⟩,a0⟩=>?_
 try dsimp only at a0
 obtain ⟨m,e⟩:=a0
 have:=bT.le m
 have:=e.1
 have a5:=E1c f opx
 have:=a5.2;try rw [f] at this
 have z:=C9w f opx
 refine bP 1 5 rfl ?_
 refine ie (bS rfl (bP 1 6 rfl ?_))
 refine ie (A3 (bS rfl (bP 1 7 rfl ?_)))
 refine ie (A9 ?_)
 refine D0y [_,_] _ (bT.cast m (by rw [e.1])) oll ?_
 refine A3q (un fun a i=>(i≤b.length∧Y8 b (b.drop i) a i=R∧(a<b.length∧a<i),[(5,.slice (va r3.q) _ r3.k),(6,iv a),(7,iv i)],[_,_],[_,D5 _ g b],b.length - i)) (0,1) ⟨opx,hR,opx⟩ bU A7.refl ?_
 rintro ⟨a,i⟩ ⟨ae,hR,a8⟩
 refine A3 (bS rfl (bP 4 14 rfl ?_))
 refine ie (G4 rfl (fun h9=>?_) (fun h9=>?_))
 ·have a1:=bV h9
  rw [A1b [] (show i<b.length by omega)] at hR;replace hR:=(Y8.eq_2 ..).symm.trans hR
  refine A4 (nx (A3 (A9 (A6c (V8 (k:=i) (d:=⟨none,0,0⟩) e 1 rfl (by have:=e.1;omega)) ?_))))
  have:=V9 e (k:=i) (d:=(⟨none,0,0⟩:Slc)) (by have:=e.1;omega)
  refine A6c (V8 (k:=a) (d:=⟨none,0,0⟩) e 2 rfl (by have:=e.1;omega)) ?_
  have:=V9 e (k:=a) (d:=(⟨none,0,0⟩:Slc)) (by have:=e.1;omega)
  refine zS [(13,[0]),(13,[1])] ?_
  refine hq4 [0,1,6,7] 17 18 23 24 rfl ?_
  refine B7w 2 rfl (by have:=e.1;omega) fun a9 l=>?_
  refine gk 2 rfl (F8 A5b rfl rfl l rfl i rfl opx) ?_
  refine gk 3 rfl (H8 (C9 C1v rfl rfl (H2 (sz:=1) l (fun _=>rfl) 2 rfl (gd ⟨none,0,0⟩ (by have:=e.1;omega))) rfl) (U4 e (by have:=e.1;omega))) ?_
  refine gk 8 rfl (F8 A5b rfl rfl l rfl a rfl opx) ?_
  refine gk 9 rfl (H8 (C9 C1v rfl rfl (H2 (sz:=1) l (fun _=>rfl) 2 rfl (gd ⟨none,0,0⟩ (by have:=e.1;omega))) rfl) (U4 e (by have:=e.1;omega))) ?_
  have y:=C4 hR;clear hR;obtain ⟨s,j,hR⟩:=y
  refine gc 4 [0,1] rfl (C1c j bW bW (by first|exact E6g z _|assumption)) fun ⟨ad,w⟩=>?_
  refine hq1 [5] 22 rfl ?_
  have y:=C4 hR;clear hR;obtain ⟨p,h,hR⟩:=y
  refine gc 10 [0,1] rfl (C1c h bW bW (by first|exact E6g z _|assumption)) fun ⟨ac,u⟩=>?_
  refine hq1 [11,12] 29 rfl ?_
  refine ge ?_
  refine zjd rfl hR ?_ ?_<;>clear hR<;>intro hR aa a7
  ·refine A1 2 rfl (bP 2 6 rfl ?_)
   refine A2 (nx (A1 3 rfl (bP 1 15 rfl ?_)))
   refine ix rfl (B3 rfl rfl rfl rfl opx) ?_
   refine bP 1 7 rfl ?_
   refine A2 ?_
   exact A2g (i,_) ⟨opx,hR,opx⟩ olr bU cB
  refine A4 (nx (A1 3 rfl (bP 1 15 rfl ?_)))
  refine ix rfl (B3 rfl rfl rfl rfl opx) ?_
  refine bP 1 7 rfl ?_
  refine A2 ?_
  exact A2g (a,_) ⟨opx,hR,opx⟩ olr bU cB
 have a1:=bV h9
 rw [A1d a1] at hR;replace hR:=(Y8.eq_1 ..).symm.trans hR
 refine F4 (nx (bS rfl (cG 2 31 32 rfl ?_)))
 refine K8 0 rfl (by have:=e.1;omega) fun ab o=>?_
 refine D7 (V8 (k:=a) (d:=⟨none,0,0⟩) e 1 rfl (by have:=e.1;omega)) ?_
 have:=V9 e (k:=a) (d:=(⟨none,0,0⟩:Slc)) (by have:=e.1;omega)
 refine ix rfl (F8 A5b rfl rfl o rfl a rfl opx) ?_
 refine ix rfl (H8 (C9 C1v rfl rfl (H2 (sz:=1) o (fun _=>rfl) 1 rfl (gd ⟨none,0,0⟩ (by have:=e.1;omega))) rfl) (U4 e (by have:=e.1;omega))) ?_
 refine bP 1 4 rfl ?_
 subst hR
 refine ie (A8 ?_)
 exact cD hr hD (K7 rfl (A6 rfl)) (zq _ ((g.getD a ⟨none,0,0⟩).k)) bU cB
def A8c (b:FrmC) (c:Cur) (d:List Act):List Act :=
 (B6 (A3y c b.cursor) fun (a:List Act)=>(d++a))
def A7t (a:FrmC) (b:FrmC) (c:Cur) (d:List Act):List Act :=
 (bif ((!a.visible)&&b.visible) then A8c b c (d++([{Act.zero with kind:=37,n:=25,m:=1}]:List Act)) else A8c b c d)
def A7v (a:FrmC) (b:FrmC) (c:Cur) (d:List Act):List Act :=
 (bif (a.visible&&(!b.visible)) then A7t a b c (d++([{Act.zero with kind:=37,n:=25,m:=0}]:List Act)) else A7t a b c d)
def A7z (a:FrmC) (b:FrmC) (c:Cur) (d:List Act):List Act :=
 (bif (!decide (a.shape=b.shape)) then A7v a b c (d++([{Act.zero with kind:=40,n:=b.shape}]:List Act)) else A7v a b c d)
def A3v (a:FrmC) (d:List (List Cel)) (b:FrmC) (e:List (List Cel)) (c:Cur):List Act :=
 (bif (!(decide (a.title=b.title))) then A7z a b c (([]:List Act)++([{Act.zero with kind:=44,text:=b.title}]:List Act)) else A7z a b c ([]:List Act))
theorem D6x {a:FrmC} {aRows:List (List Cel)} {b:FrmC} {bRows:List (List Cel)} {c:Cur} {e:Option Addr} {h:List Slc} {aRowsk:Nat} {d:Option Addr} {g:List Slc} {bRowsk:Nat} {R:List Act} (hR:A3v a aRows b bRows c=R) (w:B4 h aRows:=by exact bW) (aj:aRows.length≤9223372036854775807:=by exact bW) (af:aRows.length≤aRowsk:=by exact bW) (z:B4 g bRows:=by exact bW) (ae:bRows.length≤9223372036854775807:=by exact bW) (al:bRows.length≤bRowsk:=by exact bW) (hb:(0≤c.row∧c.row≤40∧0≤b.cursor.row∧b.cursor.row≤40)∧(0≤c.col∧c.col≤80∧0≤b.cursor.col∧b.cursor.col≤80):=by exact bW):Con Tryz.prog 13 [ag (C2 a ⟨e,aRows.length,aRowsk⟩),ag (C2 b ⟨d,bRows.length,bRowsk⟩),ag (H4 c)] [] [sl D9 e h,D5 D8 h aRows,sl D9 d g,D5 D8 g bRows] ({r:VR // bT 6 R.length r}) (fun x=>.slice (va x.1.q) R.length x.1.k) (fun x=>((vo A0 54 x.1 R)++([]))) (fun x=>[]):=by
 refine cC Tryz.func13 fun X hX hr hD=>?_
 replace hR:=(A3v.eq_1 ..).symm.trans hR
 refine bS rfl (D5f 4 0 [] (fun b1 b2 b3=>[(3,pt b1 0),(4,pt b2 0),(5,pt b3 0)]) (fun b1 b2 b3=>[bx b3 (H4 c) 29,bx b2 (C2 b ⟨d,bRows.length,bRowsk⟩) 26,bx b1 (C2 a ⟨e,aRows.length,aRowsk⟩) 26]) (fun b1 b2 b3=>?_))
 refine ie (bS rfl (bP 1 7 rfl ?_))
 refine ie (A7y (un fun y t=>(A7z a b c y=R∧bT 6 y.length t∧y.length≤1,[(3,pt b1 0),(4,pt b2 0),(5,pt b3 0),(7,.slice (va t.q) y.length t.k)],(bx b3 (H4 c) 29::bx b2 (C2 b ⟨d,bRows.length,bRowsk⟩) 26::bx b1 (C2 a ⟨e,aRows.length,aRowsk⟩) 26::((vo A0 54 t y)++([]))),[sl D9 e h,D5 D8 h aRows,sl D9 d g,D5 D8 g bRows])) ?_ ?_)
 ·refine bS rfl (pl2 4 [2,1] 9 11 rfl ?_)
  refine ix rfl (A9v rfl rfl rfl) ?_
  refine ie ?_
  refine zjn rfl hR ?_ ?_<;>clear hR<;>intro hR h4 az
  ·refine A1 7 rfl (c9 4 3 [1] [(13,.slice none 0 0),(16,ag (A0 ({Act.zero with kind:=44,text:=b.title})))] ?_)
   refine it rfl (B1 (c:=A0) (xs:=[{Act.zero with kind:=44,text:=b.title}]) Q1 rfl rfl rfl oki) fun b5=>?_
   refine it rfl (S7 (f:=A0) (r:=VR.nil) (xs:=([]:List Act)) (ys:=([{Act.zero with kind:=44,text:=b.title}]:List Act)) (pre:=[bx b3 (H4 c) 29,bx b2 (C2 b ⟨d,bRows.length,bRowsk⟩) 26,bx b1 (C2 a ⟨e,aRows.length,aRowsk⟩) 26]) (post:=[]) A4u (fun _=>rfl) (fun _=>rfl) rfl rfl rfl rfl rfl rfl rfl rfl rfl (A5 0 rfl) bT.nil omh omh) fun ⟨r6,ab⟩=>?_
   refine bP 1 7 rfl ?_
   refine A2 ?_
   exact W8 (_,_) ⟨hR,ab,ozq⟩ bU cB
  refine A4 (Y0 (I1 [_,_,_,_] [1,2,3,0] 4 rfl ozw rfl [[_],[_],[_],vo A0 54 VR.nil []] rfl opv) ?_)
  exact W8 (_,_) ⟨hR,bT.nil,ozq⟩ bU A7.refl
 rintro ⟨y,t⟩
 rintro ⟨hR,a5,ax⟩
 replace hR:=(A7z.eq_1 ..).symm.trans hR
 refine A7y (un fun p j=>(A7v a b c p=R∧bT 6 p.length j∧p.length≤2,[(3,pt b1 0),(4,pt b2 0),(5,pt b3 0),(7,.slice (va j.q) p.length j.k)],(bx b3 (H4 c) 29::bx b2 (C2 b ⟨d,bRows.length,bRowsk⟩) 26::bx b1 (C2 a ⟨e,aRows.length,aRowsk⟩) 26::((vo A0 54 j p)++([]))),[sl D9 e h,D5 D8 h aRows,sl D9 d g,D5 D8 g bRows])) ?_ ?_
 ·refine bS rfl (cF 5 [2,1] 23 rfl ?_)
  refine ie ?_
  refine zjn rfl hR ?_ ?_<;>clear hR<;>intro hR h8 b8
  ·refine A1 7 rfl (c9 4 3 [1] [(24,.slice (va t.q) y.length t.k),(27,ag (A0 ({Act.zero with kind:=40,n:=b.shape})))] ?_)
   refine it rfl (B1 (c:=A0) (xs:=[{Act.zero with kind:=40,n:=b.shape}]) Q1 rfl rfl rfl oki) fun b9=>?_
   have:([{Act.zero with kind:=40,n:=b.shape}]:List Act).length=1:=rfl
   refine it rfl (S7 (f:=A0) (r:=t) (xs:=y) (ys:=([{Act.zero with kind:=40,n:=b.shape}]:List Act)) (pre:=[bx b3 (H4 c) 29,bx b2 (C2 b ⟨d,bRows.length,bRowsk⟩) 26,bx b1 (C2 a ⟨e,aRows.length,aRowsk⟩) 26]) (post:=[]) A4u (fun _=>rfl) (fun _=>rfl) rfl rfl rfl rfl rfl rfl rfl rfl rfl (A5 0 rfl) a5 omh omh) fun ⟨ao,a8⟩=>?_
   refine bP 1 7 rfl ?_
   refine A2 ?_
   exact W8 (_,_) ⟨hR,a8,ozq⟩ bU cB
  refine A4 ?_
  exact W8 (y,t) ⟨hR,a5,ozq⟩ bU A7.refl
 rintro ⟨p,j⟩
 rintro ⟨hR,a1,b0⟩
 replace hR:=(A7v.eq_1 ..).symm.trans hR
 refine A7y (un fun o i=>(A7t a b c o=R∧bT 6 o.length i∧o.length≤3,[(3,pt b1 0),(4,pt b2 0),(5,pt b3 0),(7,.slice (va i.q) o.length i.k)],(bx b3 (H4 c) 29::bx b2 (C2 b ⟨d,bRows.length,bRowsk⟩) 26::bx b1 (C2 a ⟨e,aRows.length,aRowsk⟩) 26::((vo A0 54 i o)++([]))),[sl D9 e h,D5 D8 h aRows,sl D9 d g,D5 D8 g bRows])) ?_ ?_
 ·refine bS rfl (cF 3 [2] 32 rfl ?_)
  refine zia 4 0 32 36 (!b.visible) (fun ar=>?_) ?_
  ·refine cF 4 [1] 36 rfl ?_
   exact A2 (J0 2 32 _ ar A7.refl bU rfl rfl rfl rfl rfl)
  refine ie ?_
  refine zjb rfl hR ?_ ?_<;>clear hR<;>intro hR ac
  ·have ah:=bV ac
   refine A1 5 rfl (c9 2 3 [] [(37,.slice (va j.q) p.length j.k),(38,ag (A0 ({Act.zero with kind:=37,n:=25,m:=0})))] ?_)
   refine it rfl (B1 (c:=A0) (xs:=[{Act.zero with kind:=37,n:=25,m:=0}]) Q1 rfl rfl rfl oki) fun aw=>?_
   have:([{Act.zero with kind:=37,n:=25,m:=0}]:List Act).length=1:=rfl
   refine it rfl (S7 (f:=A0) (r:=j) (xs:=p) (ys:=([{Act.zero with kind:=37,n:=25,m:=0}]:List Act)) (pre:=[bx b3 (H4 c) 29,bx b2 (C2 b ⟨d,bRows.length,bRowsk⟩) 26,bx b1 (C2 a ⟨e,aRows.length,aRowsk⟩) 26]) (post:=[]) A4u (fun _=>rfl) (fun _=>rfl) rfl rfl rfl rfl rfl rfl rfl rfl rfl (A5 0 rfl) a1 omh omh) fun ⟨am,aa⟩=>?_
   refine bP 1 7 rfl ?_
   refine A2 ?_
   exact W8 (_,_) ⟨hR,aa,ozq⟩ bU cB
  refine A4 ?_
  exact W8 (p,j) ⟨hR,a1,ozq⟩ bU A7.refl
 rintro ⟨o,i⟩
 rintro ⟨hR,a0,bc⟩
 replace hR:=(A7t.eq_1 ..).symm.trans hR
 refine A7y (un fun s l=>(A8c b c s=R∧bT 6 s.length l∧s.length≤4,[(4,pt b2 0),(5,pt b3 0),(7,.slice (va l.q) s.length l.k)],(bx b3 (H4 c) 29::bx b2 (C2 b ⟨d,bRows.length,bRowsk⟩) 26::bx b1 (C2 a ⟨e,aRows.length,aRowsk⟩) 26::((vo A0 54 l s)++([]))),[sl D9 e h,D5 D8 h aRows,sl D9 d g,D5 D8 g bRows])) ?_ ?_
 ·refine bS rfl (cF 4 [2] 44 rfl ?_)
  refine zia 3 0 44 47 b.visible (fun ap=>?_) ?_
  ·refine cF 3 [1] 47 rfl ?_
   exact A2 (J0 2 44 _ ap A7.refl bU rfl rfl rfl rfl rfl)
  refine ie ?_
  refine zjb rfl hR ?_ ?_<;>clear hR<;>intro hR ai
  ·have ak:=bV ai
   refine A1 5 rfl (c9 2 3 [] [(48,.slice (va i.q) o.length i.k),(49,ag (A0 ({Act.zero with kind:=37,n:=25,m:=1})))] ?_)
   refine it rfl (B1 (c:=A0) (xs:=[{Act.zero with kind:=37,n:=25,m:=1}]) Q1 rfl rfl rfl oki) fun bb=>?_
   have:([{Act.zero with kind:=37,n:=25,m:=1}]:List Act).length=1:=rfl
   refine it rfl (S7 (f:=A0) (r:=i) (xs:=o) (ys:=([{Act.zero with kind:=37,n:=25,m:=1}]:List Act)) (pre:=[bx b3 (H4 c) 29,bx b2 (C2 b ⟨d,bRows.length,bRowsk⟩) 26,bx b1 (C2 a ⟨e,aRows.length,aRowsk⟩) 26]) (post:=[]) A4u (fun _=>rfl) (fun _=>rfl) rfl rfl rfl rfl rfl rfl rfl rfl rfl (A5 0 rfl) a0 omh omh) fun ⟨aq,a7⟩=>?_
   refine bP 1 7 rfl ?_
   refine A2 ?_
   exact W8 (_,_) ⟨hR,a7,ozq⟩ bU cB
  refine A4 ?_
  exact W8 (o,i) ⟨hR,a0,ozq⟩ bU A7.refl
 rintro ⟨s,l⟩
 rintro ⟨hR,a6,b6⟩
 replace hR:=(A8c.eq_1 ..).symm.trans hR
 refine bS rfl (c9 4 3 [0,1] [(52,.slice (va l.q) s.length l.k),(53,ag (H4 c)),(55,ag (S8 b.cursor))] ?_)
 have hQ:=C4 hR;clear hR;obtain ⟨v,u,hR⟩:=hQ
 refine zc rfl (D7j u) fun ⟨⟨ba,b4⟩,ad⟩=>?_
 obtain ⟨av,au⟩:=ad
 have:=D0v c b.cursor opx;try rw [u] at this
 refine it rfl (A4i (f:=A0) (r:=l) (xs:=s) (ys:=v) (pre:=[bx b3 (H4 c) 29,bx b2 (C2 b ⟨d,bRows.length,bRowsk⟩) 26,bx b1 (C2 a ⟨e,aRows.length,aRowsk⟩) 26]) (post:=[]) A4u (fun _=>rfl) (fun _=>rfl) rfl rfl rfl rfl rfl rfl rfl rfl (A5 0 rfl) a6 omh omh) fun ⟨an,a9⟩=>?_
 refine bP 1 6 rfl ?_
 subst hR
 refine ie (A8 ?_)
 exact cD hr hD (K7 rfl (A6 rfl)) _ bU A7.nil
def A8k (a:FrmC) (e:List (List Cel)) (b:FrmC) (f:List (List Cel)) (c:Cur):Bool :=
 (bif (!B5i) then false else (B6 (A9i a e b f c) fun (d:List Act×Int)=>(bif (!decide ((P7 a e b f c)=0)) then ((decide ((d.1.length:Int)=0))&&(decide (d.2=(P7 a e b f c)))) else ((decide (d.2=0))&&(A2q d.1 (A3v a e b f c))))))
theorem C4t (a:FrmC) (e:List (List Cel)) (b:FrmC) (d:List (List Cel)) (c:Cur) (j:Option Addr) (o:List Slc) (l:Nat) (h:Option Addr) (n:List Slc) (i:Nat) (g:B4 o e) (a0:e.length≤9223372036854775807) (z:e.length≤l) (f:B4 n d) (x:d.length≤9223372036854775807) (a2:d.length≤i) (hT:a.title.length≤100000000) (a8:b.title.length≤100000000) (R:Bool) (hR:A8k a e b d c=R):J5 Tryz.prog 4 [ag (C2 a ⟨j,e.length,l⟩),ag (C2 b ⟨h,d.length,i⟩),ag (H4 c)] [sl D9 j o,D5 D8 o e,sl D9 h n,D5 D8 n d,U5,U8,J2,M2] (bv R):=by
 refine cC Tryz.func4 fun X hX hr hD=>?_
 replace hR:=(A8k.eq_1 ..).symm.trans hR
 refine bS rfl (D5f 4 0 [] (fun u w v=>[(3,pt u 0),(4,pt w 0),(5,pt v 0)]) (fun u w v=>[bx v (H4 c) 29,bx w (C2 b ⟨h,d.length,i⟩) 26,bx u (C2 a ⟨j,e.length,l⟩) 26]) (fun u w v=>?_))
 refine ie (A3 (bS rfl (zv rfl (D3m _ rfl) ?_)))
 refine bP 1 11 rfl ?_
 refine ie (G4 rfl (fun h4=>?_) (fun h4=>?_))
 ·replace hR:=bt hR h4
  refine bS rfl (bP 1 6 rfl ?_)
  subst hR
  refine ie (A8 ?_)
  exact F7 hr hD
 replace hR:=bf hR h4
 refine A4 (nx (bS rfl (c9 3 6 [2,1,0] [(13,ag (C2 a ⟨j,e.length,l⟩)),(14,ag (C2 b ⟨h,d.length,i⟩)),(15,ag (H4 c))] ?_)))
 have hQ:=C4 hR;clear hR;obtain ⟨m,p,hR⟩:=hQ
 refine zc rfl (C7d p g bW bW f bW bW opd opd) fun ⟨r5,t⟩=>?_
 have:=bT.le t
 have:=bT.cap t
 refine R5 [_,_,_] _ t omm ?_
 refine cG 5 7 8 rfl ?_
 refine ie (A3 (bS rfl (c9 3 2 [2,1,0] [(19,ag (C2 a ⟨j,e.length,l⟩)),(20,ag (C2 b ⟨h,d.length,i⟩)),(21,ag (H4 c))] ?_)))
 refine zv rfl (D3c a e b d c j o l h n i g old old f old old opd opd _ rfl) ?_
 refine bP 1 9 rfl ?_
 refine ie (bS rfl (bP 2 24 rfl ?_))
 refine ie (G4 rfl (fun y=>?_) (fun y=>?_))
 ·have a1:=bV y
  replace hR:=bt hR y
  refine bS rfl (bP 4 28 rfl ?_)
  refine zid 4 1 28 32 (decide (m.2=(P7 a e b d c))) (fun g8 ab=>?_) ?_
  ·refine bP 4 32 rfl ?_
   exact zai 2 28 _ g8
  refine bP 1 6 rfl ?_
  subst hR
  refine ie (A8 ?_)
  exact F7 hr hD
 have a1:=bV y
 replace hR:=bf hR y
 have ac:=E7i (a:=a) (aR:=e) (b:=b) (bR:=d) (c:=c) (by have:=a1;omega)
 refine A4 (nx (bS rfl (bP 3 35 rfl ?_)))
 refine zid 7 1 35 42 (A2q m.1 (A3v a e b d c)) (fun g9 a9=>?_) ?_
 ·refine c9 4 3 [2,1,0] [(36,.slice (va r5.q) m.1.length r5.k),(37,ag (C2 a ⟨j,e.length,l⟩)),(38,ag (C2 b ⟨h,d.length,i⟩)),(39,ag (H4 c))] ?_
  refine zc rfl (D6x rfl g bW bW f bW bW ojv) fun ⟨a4,s⟩=>?_
  have:=bT.le s
  have:=bT.cap s
  refine R5 [_,_,_] _ s omm ?_
  refine zv rfl (B7f rfl) ?_
  refine bP 1 42 rfl ?_
  exact A2 (J0 8 35 _ g9 cB bU rfl rfl rfl rfl rfl)
 refine bP 1 6 rfl ?_
 subst hR
 refine ie (A8 ?_)
 exact F7 hr hD
end Go.Proofs.YtgimbmncdmnklaaGreatDoor
