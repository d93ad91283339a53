import Derived.Test.YtmldjljkeigpnaaGreatDoorProg
import Derived.Test.YtmldjljkeigpnaaGreatDoorMA2
import Derived.Test.YtmldjljkeigpnaaGreatDoorMB1
import Derived.Test.YtmldjljkeigpnaaGreatDoorMA3
import Derived.Test.YtmldjljkeigpnaaGreatDoorMB2
import Derived.Test.YtmldjljkeigpnaaGreatDoorMB3
import Derived.Test.YtmldjljkeigpnaaGreatDoorMQ1
import Derived.Test.YtmldjljkeigpnaaGreatDoorMQ2
set_option linter.unusedVariables false
set_option linter.unusedSimpArgs false
set_option linter.unnecessarySimpa false
set_option maxRecDepth 100000
namespace Go.Proofs.YtmldjljkeigpnaaGreatDoor
section
open Go Go.Fen open Tryz (prog)
variable {R:Bool} {a:FrmC} {aK:Nat} {aQ:kQ} {aR:jj} {aZ:List Slc} {ak:Nat} {aq:kQ} {b:FrmC} {bK:Nat} {bQ:kQ} {bR:jj} {bZ:List Slc} {bk:Nat} {bq:kQ} {p:Prop} {r:List Sp3×Int}
theorem G4k:ApTy prog 27 37 3 24:=⟨by rfl,by rfl,rfl⟩
theorem C6l:SlTy prog 27 37 3:=⟨by rfl,by rfl⟩
theorem F2i:Ty prog 22 1 false:=⟨by rfl⟩
theorem F9z:Ty prog 27 1 false:=⟨by rfl⟩
theorem E8u:Ty prog 37 3 true:=⟨by rfl⟩
def K4 (a:FrmC) (aR:jj) (b:FrmC) (bR:jj):Int :=
 (bif (!decide ((S5 a aR)=0)) then (S5 a aR) else (bif (!decide ((S5 b bR)=0)) then (S5 b bR) else (bif ((!decide (a.cols=b.cols))||(!decide ((aR.length:Int)=(bR.length:Int)))) then 2 else 0)))
theorem A1x
  (h:K4 a aR b bR=0) :
  (2≤a.cols∧a.cols≤80∧1≤aR.length∧aR.length≤40∧∀ i,i<aR.length→((aR.getD i []).length:Int)=a.cols) ∧
  (2≤b.cols∧b.cols≤80∧1≤bR.length∧bR.length≤40∧∀ i,i<bR.length→((bR.getD i []).length:Int)=b.cols)∧a.cols=b.cols∧aR.length=bR.length:=by
 unfold K4 at h
 cases h1:decide (S5 a aR=0) with
 | false=>grind
 | true =>
  rw [h1] at h
  cases h2:decide (S5 b bR=0) with
  | false=>grind
  | true =>
   rw [h2] at h
   simp only [decide_eq_true_eq] at h1 h2
   refine ⟨C4b h1,C4b h2,?_⟩
   grind
theorem B4a {R:Int} (hR:K4 a aR b bR=R) (e:B4 aZ aR:=by exact bW) (h:aR.length≤9223372036854775807:=by exact bW) (g:aR.length≤aK:=by exact bW) (d:B4 bZ bR:=by exact bW) (f:bR.length≤9223372036854775807:=by exact bW) (i:bR.length≤bK:=by exact bW) (w:a.title.length≤100000000:=by exact bW) (s:b.title.length≤100000000:=by exact bW):J7 prog 35 [ag (C9 a ⟨aQ,aR.length,aK⟩),ag (C9 b ⟨bQ,bR.length,bK⟩)] [sl F0 aQ aZ,D8 D0 aZ aR,sl F0 bQ bZ,D8 D0 bZ bR,A1o,A1p] (iv R):=by
 refine cD Tryz.func35 fun X hX hr hD=>?_
 rw[K4]at hR
 refine bS Z (B3r 3 [] (fun k p=>[(2,pt k 0),(3,pt p 0)]) (fun _ _=>(C9 a ⟨aQ,aR.length,aK⟩)) (fun _ _=>(C9 b ⟨bQ,bR.length,bK⟩)) 26 26 fun k p=>(ie (A3 (bS Z (bY 4 0 [1,0] [(10,ag [iv a.cols,.slice aQ aR.length aK,iv a.cursor.row,iv a.cursor.col,bv a.visible,iv a.shape,sv a.title,iv b.cols,.slice bQ bR.length bK,iv b.cursor.row,iv b.cursor.col,bv b.visible,iv b.shape,sv b.title]),(11,iv 0)] (ie (A9 (A1g 4 ?_))))))))
 refine E9 (bS Z (bP 1 12 Z (ie (A3 (K1 Z (A4 (nx (A3 (A9 (bS Z (ix Z (F3 (v:=ag [_,_,_,_,_,_,_]) Tryz.underlying148 C6z Z Z Z 0) ?_)))))))))))
 refine cI 2 [0] (fun m=>[(6,pt m 0)]) (fun _=>(C9 a ⟨aQ,aR.length,aK⟩)) 26 fun m=>?_
 refine ie (bS Z (bY 1 2 [0] [(14,ag (C9 a _))] (zv Z (C0d Z e) (bP 1 7 Z (ie (bS Z (bP 2 17 Z (ie ?_))))))))
 refine zjn Z hR ?_ ?_<;>intro hR u t
 ·refine bS Z (bP 2 4 Z ?_)
  subst hR
  exact q8
 refine A4 (nx (A0 2 Z (ix Z (B1 (c:=1)) (bP 1 11 Z (A1 (E9 (bS Z (bP 1 12 Z (ie (A3 (K1 Z (A4 (nx (A3 (A9 (bS Z (ix Z (F3 (v:=ag [_,_,_,_,_,_,_]) Tryz.underlying148 C6z Z Z Z 1) ?_)))))))))))))))))
 refine cI 2 [0] (fun l=>[(6,pt l 0)]) (fun _=>(C9 b ⟨bQ,bR.length,bK⟩)) 26 fun l=>?_
 refine ie (bS Z (bY 1 2 [0] [(14,ag _)] (zv Z (C0d Z d) (bP 1 7 Z (ie (bS Z (bP 2 17 Z (ie ?_))))))))
 refine zjn Z hR ?_ ?_<;>intro hR x r
 ·refine bS Z (bP 2 4 Z ?_)
  subst hR
  exact q8
 refine A4 (nx (A0 2 Z (ix Z (B1 (c:=2)) (bP 1 11 Z (A1 (E9 (bS Z (bP 1 12 Z (ie (A3 (A5t Z (F1 (nx (A3 (bS Z (cB 6 [3,2] 25 Z ?_))))))))))))))))
 refine zio 8 0 25 33 (!decide (aR.length=(bR.length:Int))) (fun n=>?_) ?_
 ·have q:=bV n
  refine cB 8 [3,2] 33 Z ?_
  exact zai 2 25 _ n
 refine ie ?_
 refine zjb Z hR ?_ ?_<;>intro hR o
 ·have j:=bV o
  refine bS Z (bP 1 4 Z ?_)
  subst hR
  exact q8
 refine A4 (nx (bS Z (bP 1 4 Z ?_)))
 subst hR
 exact q8
def G9 (row:Int) (a:jk) (b:jk):jk×jk×Int :=
 (a,b,row)
theorem D4n {row:Int} {a b:jk} {R:jk×jk×Int} (hR:G9 row a b=R) (h:a.length≤9223372036854775807:=by exact bW) (g:a.length≤ak:=by exact bW) (i:b.length≤9223372036854775807:=by exact bW) (f:b.length≤bk:=by exact bW):cM prog 51 [iv row,.slice aq a.length ak,.slice bq b.length bk] [] [sl D0 aq a,sl D0 bq b] (Addr×{t:kQ×Nat // R.1.length≤t.2∧R.1.length≤9223372036854775807}×Addr×{t:kQ×Nat // R.2.1.length≤t.2∧R.2.1.length≤9223372036854775807}×Addr) (fun x=>.func (.func 84) #[] #[pa x.1,pa x.2.2.1,pa x.2.2.2.2]) (fun x=>[]) (fun x=>[at_ x.1 [.slice x.2.1.1.1 R.1.length x.2.1.1.2],sl D0 x.2.1.1.1 R.1,at_ x.2.2.1 [.slice x.2.2.2.1.1.1 R.2.1.length x.2.2.2.1.1.2],sl D0 x.2.2.2.1.1.1 R.2.1,at_ x.2.2.2.2 [iv R.2.2]]):=by
 refine cD Tryz.func51 fun X hX hr hD=>?_
 rw[G9]at hR
 refine k_ ?_
 refine it Z (A2s Z Z Z) fun c=>(A6p 0 Z (it Z (A2s Z Z Z) fun d=>(A6p 0 Z (it Z (A2s Z Z Z) fun e=>(A6p 0 Z (k_ ?_))))))
 refine ie (kc_ ?_)
 refine ip' 2 0 [(6,.func (.func 84) #[] #[pa ⟨d,0,none⟩,pa ⟨e,0,none⟩,pa ⟨c,0,none⟩])] ?_
 subst hR
 refine k_ ?_
 exact ci (_,(zq _ _),_,(zq _ _),_)
def A6r (a:jk) (b:jk) (i:Int):Bool :=
 ((decide ((a.getD ((i).toNat) ZV).wide=1))||(decide ((b.getD ((i).toNat) ZV).wide=1)))
theorem D3e {a b:jk} {i:Int} (hR:A6r a b i=R) (h:a.length≤9223372036854775807:=by exact bW) (g:a.length≤ak:=by exact bW) (k:b.length≤9223372036854775807:=by exact bW) (f:b.length≤bk:=by exact bW) (q:0≤i:=by exact bW) (n:i<a.length:=by exact bW) (o:i<b.length:=by exact bW):J7 prog 85 [.slice aq a.length ak,.slice bq b.length bk,iv i] [sl D0 aq a,sl D0 bq b] (bv R):=by
 refine cD Tryz.func85 fun X hX hr hD=>?_
 rw[A6r]at hR
 refine bS Z (pp0 1 Z (ie (bS Z (cF 2 7 8 Z (H8 0 Z opx fun p d=>(ix Z (E7 A1n Z Z d Z _ opx opx) (bP 1 10 Z (ix Z (B6 cE Z Z (U8 (F8 (sz:=12) d (fun _=>Z) 0 Z (gd _ opx)) (ws:=[iv ((a.getD ((i).toNat) ZV).wide)]) 3 1 Z) Z) (bP 2 13 Z (zir 7 1 13 20 (decide ((b.getD ((i).toNat) ZV).wide=1)) (fun l j=>?_) ?_))))))))))
 ·exact cF 2 14 15 Z (H8 1 Z opx fun m e=>(ix Z (E7 A1n Z Z e Z _ opx opx) (bP 1 17 Z (ix Z (B6 cE Z Z (U8 (F8 (sz:=12) e (fun _=>Z) 1 Z (gd _ opx)) (ws:=[iv ((b.getD ((i).toNat) ZV).wide)]) 3 1 Z) Z) (bP 2 20 Z (zai 7 13 _ l))))))
 refine bP 1 6 Z ?_
 subst hR
 exact q8
def V7 (c0:jk) (c1:jk) (c2:Int) (from_:Nat) (a:Nat→List Sp3):Nat→Nat→Bool→List Sp3
 | 0,_,_=>[]
 | fu3+1,to_,differs=>(bif ((decide ((to_:Int)<(c0.length:Int)))&&(A6r c0 c1 ((to_:Int) - 1))) then V7 c0 c1 c2 from_ a fu3 (to_+1) (differs||(!(decide ((c0.getD to_ ZV)=(c1.getD to_ ZV))))) else (bif differs then ((⟨c2,(from_:Int),(to_:Int)⟩:Sp3)::a to_) else a to_))
def S4 (c0:jk) (c1:jk) (c2:Int):Nat→Nat→List Sp3
 | 0,_=>[]
 | fu1+1,from_=>(bif (decide ((from_:Int)<(c0.length:Int))) then V7 c0 c1 c2 from_ (S4 c0 c1 c2 fu1) ((c0.length - (from_+1))+1) (from_+1) (!(decide ((c0.getD from_ ZV)=(c1.getD from_ ZV)))) else [])
def A5c (c0:jk) (c1:jk) (c2:Int):List Sp3 :=
 S4 c0 c1 c2 ((c0.length - 0)+1) 0
theorem B3u (c0 c1:jk) (c2:Int) (f:Nat) (ag:Nat→List Sp3) (b:∀ t,t≤c0.length→(ag t).length≤c0.length - t) :
  ∀ (fu a:Nat) (d:Bool),a≤c0.length→(V7 c0 c1 c2 f ag fu a d).length≤1+(c0.length - a)
 | 0,a,d,h=>by simp [V7]
 | fu+1,a,d,h=>by
  simp only [V7]
  cases hc:(decide ((a:Int)<(c0.length:Int))&&A6r c0 c1 ((a:Int) - 1)) with
  | false=>have:=b a h;cases d<;>simp<;>omega
  | true =>
   simp only [Bool.and_eq_true,decide_eq_true_eq] at hc
   have c:=fun e=>B3u c0 c1 c2 f ag b fu (a+1) e opx
   simp only [cond_true]
   exact Nat.le_trans (c _) opx
theorem B3s (c0 c1:jk) (c2:Int):∀ (fu f:Nat),f≤c0.length→(S4 c0 c1 c2 fu f).length≤c0.length - f
 | 0,f,h=>by simp [S4]
 | fu+1,f,h=>by
  simp only [S4]
  cases hc:decide ((f:Int)<(c0.length:Int)) with
  | false=>simp
  | true =>
   simp only [decide_eq_true_eq] at hc
   simp only [cond_true]
   exact Nat.le_trans (B3u c0 c1 c2 f _ (fun t a=>B3s c0 c1 c2 fu t a) _ _ _ opx) opx
theorem B7s (c0 c1:jk) (c2:Int):(A5c c0 c1 c2).length≤c0.length:=by have:=B3s c0 c1 c2 (c0.length - 0+1) 0 (Nat.zero_le _);grind[A5c]
theorem D1k (c0:jk) (c1:jk) (c2:Int) (o:Addr) (e:kQ) (f:Nat) (p:Addr) (g:kQ) (h:Nat) (q:Addr) (a8:c0.length≤9223372036854775807) (a9:c0.length≤f) (a6:c1.length≤9223372036854775807) (a7:c1.length≤h) (hl:c0.length=c1.length) (h6:c0.length≤1000000) (R:List Sp3) (hR:A5c c0 c1 c2=R):C9v prog 84 [pa o,pa p,pa q] [sl D0 e c0,at_ o [.slice e c0.length f],sl D0 g c1,at_ p [.slice g c1.length h],at_ q [iv c2]] (fun x=>ag (H1 x)) R:=by
 refine E0q (n:=59) Tryz.func84 Z oki Z Z (fun l=>[(0,_),(1,_),(2,_),(3,_)]) (fun l=>⟨rfl,rfl,rfl,rfl,trivial⟩) fun X l I Ix L Φ hX hr hD hI0 hY=>?_
 rw[A5c]at hR
 refine bS Z (bP 1 5 Z (ie (A9 ?_)))
 refine A1y (un fun fu=>un fun from_=>un fun R_=>un fun Lt Ft=>((c0.length - from_)<fu∧S4 _ _ _ fu from_=R_∧I R_ Lt Ft∧from_≤c0.length,[(0,_),(1,_),(2,_),(3,_),(5,iv from_)],(Lt++([])),(sl _ e _::at_ o _::sl _ g _::at_ p _::at_ q _::Ft),fu)) (_,0,R,L,_) ⟨(Nat.lt_succ_self _),hR,hI0,opx⟩ bU c9 ?_
 rintro ⟨fu,from_,R_,Lt,Ft⟩ ⟨an,hR,z,hf⟩
 obtain ⟨fu1,rfl⟩:∃ m,fu=m+1:=⟨fu - 1,by omega⟩
 rw[S4]at hR
 refine A3 (bS Z (bP 1 8 Z (ix Z (B6 B5c Z Z (A5 1 Z) Z) (bP 2 11 Z (ie ?_)))))
 refine cK Z hR ?_ ?_<;>intro hR h2 am
 ·refine A4 (nx (A9 (bS Z (bP 1 12 Z (ix Z B1 (bP 1 6 Z (ie (sd 10 Z oki Z (dd Z (B6 B5c Z Z (A5 1 Z) Z) (pd1 1 15 Z (B2k 0 Z opx fun a3 s=>(dd Z (E7 A1n Z Z s Z _) (dd Z (J0 D3g Z Z (F8 (sz:=12) s jJ 0 Z (gd ZV opx)) Z) (dd Z (B6 B5c Z Z (A5 3 Z) Z) (pd1 1 19 Z (B2k 2 Z opx fun a5 t=>(dd Z (E7 A1n Z Z t Z _) (dd Z (J0 D3g Z Z (F8 (sz:=12) t jJ 2 Z (gd _ opx)) Z) (dd Z (A0f (b:=(c1.getD _ ZV)) E4x Z Z Z) (pd1 1 7 Z (de (A3 (A9 ?_)))))))))))))))))))))))
  refine A1y (un fun u=>un fun to_=>un fun d=>un fun R_1=>un fun Lt1 Ft1=>((c0.length - to_)<u∧V7 _ _ _ _ _ u to_ d=R_1∧I R_1 Lt1 Ft1∧to_≤c0.length∧from_<to_,[(0,_),(1,_),(2,_),(3,_),(5,_),(6,iv to_),(7,bv d)],(Lt1++([])),(sl _ e _::at_ o _::sl _ g _::at_ p _::at_ q _::Ft1),u)) (_,_,_,_,_,_) ⟨(Nat.lt_succ_self _),hR,z,opx,opx⟩ bU c9 ?_
  rintro ⟨u,to_,d,R_1,Lt1,Ft1⟩ ⟨ar,hR,k,av,ah⟩
  obtain ⟨fu3,rfl⟩:∃ m,u=m+1:=⟨u - 1,by omega⟩
  rw[V7]at hR
  refine A3 (bS Z (bP 1 23 Z (ix Z (B6 B5c Z Z (A5 1 Z) Z) (bP 3 27 Z ?_))))
  refine zid 6 0 27 33 (A6r c0 c1 (to_ - 1)) (fun g8 au=>?_) ?_
  ·refine ix Z (B6 B5c Z Z (A5 1 Z) Z) (ix Z (B6 B5c Z Z (A5 3 Z) Z) (bP 1 30 Z (ix Z L8 (zca (D3e (i:=(to_ - 1)) (ak:=f) Z) (A7.cons (A5 0 Z) (A7.cons (A5 2 Z) bX)) (bP 1 33 Z ?_)))))
   exact A1 (I1 7 27 _ g8 A7.refl bU Z Z Z Z Z)
  refine ie ?_
  refine zjb Z hR ?_ ?_<;>intro hR h9
  ·have a2:=bV h9
   refine A4 (nx (A9 (sd 13 Z oki Z (pd1 2 35 Z ?_))))
   refine zdO _ 1 35 45 (!(decide ((c0.getD to_ ZV)=(c1.getD to_ ZV)))) (fun a4=>?_) ?_
   ·refine dd Z (B6 B5c Z Z (A5 1 Z) Z) (pd1 1 37 Z (dd Z (E7 A1n Z Z s Z _) (dd Z (J0 D3g Z Z (F8 (sz:=12) s jJ 0 Z (gd ZV opx)) Z) (dd Z (B6 B5c Z Z (A5 3 Z) Z) (pd1 1 41 Z (dd Z (E7 A1n Z Z t Z _) (dd Z (J0 D3g Z Z (F8 (sz:=12) t jJ 2 Z (gd _ opx)) Z) (dd Z (A0f (b:=(c1.getD _ ZV)) E4x Z Z Z) (pd1 1 45 Z ?_)))))))))
    exact zad 11 35 _ a4
   refine pd1 1 7 Z (de (A0 3 Z (bP 1 46 Z (ix Z B1 (bP 1 6 Z (A1 ?_))))))
   exact Z0 (_,_,_,_,_,_) ⟨opx,hR,k,opx,opx⟩ (Nat.lt_succ_self _) bU c9
  have a2:=bV h9
  refine F1 (nx (A3 (bS Z (bP 2 49 Z ?_))))
  rcases Bool.eq_false_or_eq_true d with w | w
  ·refine E2b 49 Z w ?_
   replace hR:=bt hR w
   refine ip' 1 7 [(50,.func (.yield l) #[] #[])] (ix Z (B6 cE Z Z (A5 4 Z) Z) (bY 3 3 [] [(54,ag (H1 ⟨c2,(from_:Int),(to_:Int)⟩))] ?_))
   obtain ⟨R12,hR,r⟩:=C2v hR;rw [r] at k
   refine it Z (A6x (L2:=[]) (hY _ R12 _ _ k) Z Z Z Z (A7.dropT 5 Z) (I8 [Lt1] [0] 1 Z ozw Z [Lt1] Z ooa)) fun ⟨⟨a1,L14,Φ15⟩,j⟩=>(B1j (A7.yield [_,_,_,_,_]) (bP 2 57 Z (ie (G3 Z (fun a0=>?_) (fun a0=>?_)))))
   ·have y:a1=false:=by simpa using a0
    rw [y] at j;try simp only [if_true,if_false,Bool.false_eq_true] at j
    exact A8 (B6z Z ⟨hr,hD⟩ (by simp [hD]) (B3x rfl) (by exact .inr j) (mcT [_] 0 Z Z) (A7.dropT 5 Z))
   ·have y:a1=true:=by simpa using a0
    rw [y] at j;try simp only [if_true,if_false,Bool.false_eq_true] at j
    refine A4 (nx (A0 2 Z (bP 2 5 Z (A1 ?_))))
    exact Z0 (_,_,_,_,_) ⟨opx,hR,j,opx⟩ (Nat.lt_succ_self _) bU c9
  ·refine E2b 49 Z w ?_
   replace hR:=bf hR w
   refine bP 8 57 Z (ie (A5t Z (A4 (nx (A0 2 Z (bP 2 5 Z (A1 ?_)))))))
   exact Z0 (_,_,_,_,_) ⟨opx,hR,k,opx⟩ (Nat.lt_succ_self _) bU c9
 subst hR
 exact F1 (A0y Z ⟨hr,hD⟩ (by simp [hD]) (B3x rfl) (by exact .inl z) (mcT [_] 0 Z Z) (A7.dropT 5 Z))
def A9z (a:Sp3) (b:Sp3):Bool :=
 ((decide (a.row=b.row))&&(decide (a.tt=b.frm)))
theorem D8r {a b:Sp3} (hR:A9z a b=R):J7 prog 53 [ag (H1 a),ag (H1 b)] [] (bv R):=by
 refine cD Tryz.func53 fun X hX hr hD=>?_
 rw[A9z]at hR
 refine k_ ?_
 refine B3r 3 [] (fun c d=>[(2,pt c 0),(3,pt d 0)]) (fun _ _=>(H1 a)) (fun _ _=>(H1 b)) 37 37 fun c d=>?_
 refine ie (k_ ?_)
 refine zid 6 1 10 16 (decide (a.tt=b.frm)) (fun f e=>?_) ?_
 ·exact cB 6 [1,0] 16 Z (A1 (I1 2 10 _ f bX bU Z Z Z Z Z))
 refine bP 1 4 Z ?_
 subst hR
 refine k_ ?_
 exact F7 hr hD
def W6 (g:List Sp3) (s:Sp3):List Sp3 :=
 (bif ((decide ((0:Int)<(g.length:Int)))&&(A9z (g.getD (g.length - 1) ZY) s)) then (g.set (g.length - 1) ({(g.getD (g.length - 1) ZY) with tt:=(if s.tt > (g.getD (g.length - 1) ZY).tt then s.tt else (g.getD (g.length - 1) ZY).tt)})) else (g++([s]:List Sp3)))
theorem B0u (g:List Sp3) (s:Sp3):(W6 g s).length≤g.length+1:=by unfold W6;grind
theorem ocl (h:p:=by first|omega|(simp +zetaDelta only [List.length_cons,List.length_nil,List.length_append,List.length_take,List.length_drop,G9];omega)):p:=h
theorem C1k {g:List Sp3} {s:Sp3} {d:Nat} {gr:VR} {R:List Sp3} (hR:W6 g s=R) (e:bT 3 g.length gr:=by exact bW) (hg:g.length≤1000000:=by exact bW):cM prog 52 [pt d 0,ag (H1 s),aC 53] (bx d [.slice (va gr.q) g.length gr.k] 123::((vo H1 37 gr g)++([]))) [] ({r:VR // bT 3 R.length r}) (fun x=>.tuple #[]) (fun x=>(bx d [.slice (va x.1.q) R.length x.1.k] 123::((vo H1 37 x.1 R)++([])))) (fun x=>[]):=by
 let D:=bx d [.slice (va gr.q) g.length gr.k] 123
 refine cD Tryz.func52 fun X hX hr hD=>?_
 rw[W6]at hR
 have:=bT.le e
 refine k_ ?_
 refine cI 1 [] (fun h=>[(4,pt h 0)]) (fun _=>(H1 s)) 37 fun h=>?_
 refine ie (k_ ?_)
 refine ie (sd 16 Z oki Z (k_ ?_))
 let F:=bx h (H1 s) 37
 let A:=bx h (H1 s) 37::bx d [.slice (va gr.q) g.length gr.k] 123::((vo H1 37 gr g)++([]))
 refine zdd 13 0 15 28 (A9z (g.getD (g.length - 1) ZY) s) (fun y w=>?_) ?_
 ·refine zdg 7 6 [1] [(16,aC 53),(21,.slice (va gr.q) g.length gr.k),(22,iv (g.length:Int))] ?_
  refine dd Z L8 ?_
  obtain ⟨b3,p⟩:=bT.some e opx
  obtain ⟨z,k6,j7⟩:=gr
  obtain rfl:z=some b3:=p
  refine dd Z (Z5 C6l Z Z Z (g.length - 1) opx opx) (dd Z (D2i (us:=H1 (g.getD (g.length - 1) ZY)) (c:=H1) (sz:=3) E8u jJ Z Z 2 Z (g.length - 1) 0 Z (gd ZY opx) Z Z) (zdg 1 2 [0] [(26,ag (H1 s))] ?_))
  refine zvd Z (D8r Z) ?_
  refine k_ ?_
  exact zad 10 15 28 y
 refine de ?_
 refine zjb Z hR ?_ ?_<;>intro hR t
 ·have o:=bV t
  refine sh 23 [(23,[F]),(23,[D]),(22,vo H1 37 gr g)] [] A (cL 23 0) oki Z oki oki oki bU A7.refl ?_
  refine zhp [0,1,2,3,5,7,8,9,10,12,17] 12 (cL 23 137135) [(32,pt d 0),(34,iv (g.length:Int)),(39,pt d 0),(41,iv (g.length:Int)),(46,pt h 2)] ?_
  refine zhl 4 A (cL 23 137151) Z (B8 (v:=.slice (va gr.q) g.length gr.k) F9z Z Z 1) ?_
  refine zhk 6 (cL 23 137215) Z L8 ?_
  refine zhl 11 A (cL 23 139263) Z (B8 (v:=.slice (va gr.q) g.length gr.k) F9z Z Z 1) ?_
  refine zhk 13 (cL 23 147455) Z L8 ?_
  obtain ⟨b9,m⟩:=bT.some e opx
  obtain ⟨n,b,a⟩:=gr
  let G:=(vo H1 37 (⟨some b9,b,a⟩:VR) g)++([])
  let B:=bx d [.slice (va (⟨some b9,b,a⟩:VR).q) g.length ((⟨some b9,b,a⟩:VR).k)] 123
  obtain rfl:n=some b9:=m
  refine zhl 14 (F::B::G) (cL 23 163839) Z (Z5 C6l Z Z Z (g.length - 1) opx opx) ?_
  refine zhp [15] 6 (cL 23 196607) [(44,.pointer (some ⟨b9,(g.length - 1) * 3+2,none⟩))] ?_
  refine zhl 16 (F::B::G) (cL 23 262143) Z (Y2 (u:=iv ((g.getD (g.length - 1) ZY).tt)) (c:=H1) (sz:=3) cE jJ Z Z 2 Z (g.length - 1) 2 Z (gd ZY opx) Z) ?_
  refine zhl 18 (F::B::G) (cL 23 524287) Z (B8 (v:=iv s.tt) cE Z Z 0) ?_
  refine zhp [19] 3 (cL 23 1048575) [(48,iv (if s.tt > (g.getD (g.length - 1) ZY).tt then s.tt else (g.getD (g.length - 1) ZY).tt))] ?_
  refine zhl 20 [F,B] (cL 23 2097151) Z (Z5 C6l Z Z Z (g.length - 1) opx opx) ?_
  refine zhp [21] 1 (cL 23 4194303) [(50,.pointer (some ⟨b9,(g.length - 1) * 3+2,none⟩))] ?_
  refine zho 22 [F,B] (cL 23 8388607) Z (A8t (us:=[iv (if s.tt > (g.getD (g.length - 1) ZY).tt then s.tt else (g.getD (g.length - 1) ZY).tt)]) (u':={(g.getD (g.length - 1) ZY) with tt:=(if s.tt > (g.getD (g.length - 1) ZY).tt then s.tt else (g.getD (g.length - 1) ZY).tt)}) (c:=H1) (sz:=3) cE jJ Z Z Z 2 Z Z Z Z (g.length - 1) 2 Z (gd ZY opx) Z Z) (fun _=>bU) (fun _=>bX) fun _=>?_
  refine D6r oki ?_
  subst hR
  exact A8 (cc (B3x Z) ⟨(⟨some b9,b,a⟩:VR),(bT.cast e oom)⟩)
 have o:=bV t
 refine k_ ?_
 refine sh' 13 [(13,[F]),(12,[D]),(8,vo H1 37 gr g)] [] A (cL 13 0) oki Z oki oki oki bU A7.refl ?_
 refine zhp [0,1,2,3,4] 8 (cL 13 31) [(51,pt d 0),(55,pt d 0)] ?_
 refine zhl 5 A (cL 13 63) Z (B8 (v:=.slice (va gr.q) g.length gr.k) F9z Z Z 1) ?_
 refine zhl 6 [F,D] (cL 13 127) Z (G6 (us:=H1 s) E8u Z Z 0) ?_
 refine zho 7 A (cL 13 255) Z (B0 (c:=H1) (xs:=([s]:List Sp3)) C6l Z Z Z oki) (fun l=>bU) (fun l=>bX) fun l=>?_
 have:([s]:List Sp3).length=1:=rfl
 refine zho 8 [F,D] (cL 13 511) Z (Q7 (f:=H1) (r:=gr) (xs:=g) (ys:=([s]:List Sp3)) (pre:=[F,D]) (post:=[]) G4k jJ jJ Z Z Z Z Z Z Z Z Z (A5 0 Z) e ocl ocl) (fun ⟨j,i⟩=>bU) (fun ⟨j,i⟩=>bX) fun ⟨j,i⟩=>?_
 have:=bT.lc i
 refine zhp [9,10,11] 1 (cL 13 4095) [(62,pt d 0)] ?_
 refine zho 12 [F] (cL 13 8191) Z (O9 (us:=[.slice (va j.q) ((g++([s]:List Sp3)).length) j.k]) (cs':=[.slice (va j.q) ((g++([s]:List Sp3)).length) j.k]) F9z Z Z Z 1) (fun _=>bU) (fun _=>bX) fun _=>?_
 refine C5e oki ?_
 subst hR
 exact zen hr hD (B3x Z) ⟨j,i⟩ bU bX
def U9 (b:Nat) (a:Nat→List Sp3→(List Sp3×Int)):List Sp3→List Sp3→(List Sp3×Int)
 | [],blist1=>a (b+1) blist1
 | el::rest,blist1=>(B5 (W6 blist1 el) fun (c:List Sp3)=>U9 b a rest c)
def P4 (bR:jj):jj→Nat→List Sp3→(List Sp3×Int)
 | [],a,blist=>(blist,0)
 | hd_l0::tl_l0,a,blist=>U9 a (P4 bR tl_l0) (A5c ((G9 (a:Int) hd_l0 (bR.getD a [])).1) ((G9 (a:Int) hd_l0 (bR.getD a [])).2.1) ((G9 (a:Int) hd_l0 (bR.getD a [])).2.2)) blist
def A3d (a:FrmC) (aR:jj) (b:FrmC) (bR:jj):List Sp3×Int :=
 (bif (!decide ((K4 a aR b bR)=0)) then (([]:List Sp3),(K4 a aR b bR)) else P4 bR aR 0 ([]:List Sp3))
theorem B6h (a:Nat) (ag:Nat→List Sp3→List Sp3×Int) (B:Nat) (c:∀ l,(ag (a+1) l).1.length≤l.length+B):∀ (es b:List Sp3),(U9 a ag es b).1.length≤b.length+es.length+B
 | [],b=>by have:=c b;simp only [U9,List.length_nil];omega
 | e::es,b=>by
  have f:=B0u b e;have d:=B6h a ag B c es (W6 b e)
  simp only [U9,B5,List.length_cons];omega
theorem B6i (bR:jj):∀ (a:jj) (t:Nat) (l:List Sp3),(∀ r ∈ a,r.length≤80)→(P4 bR a t l).1.length≤l.length+80 * a.length
 | [],t,l,_=>by simp [P4]
 | r::a,t,l,h=>by
  have e:=h r jU
  have d:=B7s r (bR.getD t []) (t:Int)
  have c:=B6h t (P4 bR a) (80 * a.length) (fun l=>B6i bR a (t+1) l (fun x b=>h x (List.mem_cons_of_mem _ b))) (A5c r (bR.getD t []) (t:Int)) l
  simp only [P4,G9,List.length_cons];omega
theorem D0m (a:FrmC) (aR:jj) (b:FrmC) (bR:jj):(A3d a aR b bR).1.length≤3200:=by
 unfold A3d
 cases h:decide (K4 a aR b bR=0) with
 | false=>simp
 | true =>
  have e:=A1x (of_decide_eq_true h)
  have d:=B6i bR aR 0 [] (fun r hr=>by
   obtain ⟨i,c,rfl⟩:=List.mem_iff_getElem.1 hr
   grind)
  grind
def C7i (n:Nat) (c:Int) (s:Sp3):Prop:=(0≤s.row∧s.row<n)∧0≤s.frm∧s.frm<s.tt∧s.tt≤c
theorem D2j (c0 c1:jk) (r:Int) (f:Nat) (ag:Nat→List Sp3) (Q:Sp3→Prop) (b:∀ t:Nat,f<t→t≤c0.length→Q {ZY with row:=r,frm:=(f:Int),tt:=(t:Int)}) (a:∀ t,t≤c0.length→∀ s ∈ ag t,Q s) :
  ∀ (fu tt:Nat) (d:Bool),f<tt→tt≤c0.length→∀ s ∈ V7 c0 c1 r f ag fu tt d,Q s
 | 0,tt,d,_,_,s,hs=>by grind[V7]
 | fu+1,tt,d,h1,h2,s,hs=>by
  simp only [V7] at hs
  cases hc:(decide ((tt:Int)<(c0.length:Int))&&A6r c0 c1 ((tt:Int) - 1)) with
  | true =>
   rw [hc,cond_true] at hs
   simp only [Bool.and_eq_true,decide_eq_true_eq] at hc
   exact D2j c0 c1 r f ag Q b a fu (tt+1) _ opx opx s hs
  | false =>
   grind
theorem D1p (c0 c1:jk) (r:Int) (Q:Sp3→Prop) (a:∀ f t:Nat,f<t→t≤c0.length→Q {ZY with row:=r,frm:=(f:Int),tt:=(t:Int)}):∀ (fu f:Nat),f≤c0.length→∀ s ∈ S4 c0 c1 r fu f,Q s
 | 0,f,_,s,hs=>by grind[S4]
 | fu+1,f,h,s,hs=>by
  simp only [S4] at hs
  cases hc:decide ((f:Int)<(c0.length:Int)) with
  | false=>grind
  | true =>
   rw [hc,cond_true] at hs
   simp only [decide_eq_true_eq] at hc
   exact D2j c0 c1 r f _ Q (a f) (fun t b=>D1p c0 c1 r Q a fu t b) _ _ _ opx opx s hs
theorem F7z (Q:Sp3→Prop) (h:∀ a b:Sp3,Q a→Q b→A9z a b=true→Q {a with tt:=(if b.tt > a.tt then b.tt else a.tt)}) (g:List Sp3) (s:Sp3) (d:∀ x ∈ g,Q x) (f:Q s):∀ x ∈ W6 g s,Q x:=by
 unfold W6
 cases hc:(decide ((0:Int)<(g.length:Int))&&A9z (g.getD (g.length - 1) ZY) s) with
 | false =>
  simp only [cond_false]
  grind[List.mem_singleton]
 | true =>
  simp only [Bool.and_eq_true,decide_eq_true_eq] at hc
  simp only [cond_true]
  intro x c
  rcases List.mem_or_eq_of_mem_set c with c | c
  ·grind
  ·rw [c]
   refine h _ _ ?_ f hc.2
   have e:g.length - 1<g.length:=by omega
   simp_all
theorem D2r (Q:Sp3→Prop) (f:∀ a b:Sp3,Q a→Q b→A9z a b=true→Q {a with tt:=(if b.tt > a.tt then b.tt else a.tt)}) (t:Nat) (ag:Nat→List Sp3→List Sp3×Int) (d:∀ l,(∀ x ∈ l,Q x)→∀ x ∈ (ag (t+1) l).1,Q x) :
  ∀ (es c:List Sp3),(∀ x ∈ es,Q x)→(∀ x ∈ c,Q x)→∀ x ∈ (U9 t ag es c).1,Q x
 | [],c,_,hb=>by grind[U9]
 | e::es,c,he,hb=>by
  simpa only [U9,B5] using D2r Q f t ag d es _ (fun x g=>he x (List.mem_cons_of_mem _ g)) (F7z Q f c e hb (he e jU))
theorem D2a (bR:jj) (n:Nat) (c:Int):∀ (d:jj) (t:Nat) (l:List Sp3),(∀ r ∈ d,(r.length:Int)=c)→t+d.length≤n→(∀ x ∈ l,C7i n c x)→∀ x ∈ (P4 bR d t l).1,C7i n c x
 | [],t,l,_,_,e=>by grind[P4]
 | r::d,t,l,hr,hn,e=>by
  simp only [List.length_cons] at hn
  have k:=hr r jU
  simp only [P4,G9]
  refine D2r (C7i n c) (fun a b m hb g=>?_) t _ (fun l e=>D2a bR n c d (t+1) l (fun x h=>hr x (List.mem_cons_of_mem _ h)) opx e) _ l ?_ e
  ·unfold C7i at *
   simp only
   split<;>omega
  ·exact D1p r _ _ _ (fun f j o i=>by unfold C7i;simp only;omega) _ _ (Nat.zero_le _)
theorem C2o
  (h:A3d a aR b bR=r) (c:r.2=0):K4 a aR b bR=0:=by
 subst h
 unfold A3d at c
 grind
theorem D2u
  (h:A3d a aR b bR=r) (g:r.2=0):∀ k,k<r.1.length→C7i aR.length a.cols (r.1.getD k ZY):=by
 have f:=C2o h g
 have j:=A1x f
 intro k d
 rw [List.getD_eq_getElem?_getD,List.getElem?_eq_getElem d]
 refine (?_:∀ x ∈ r.1,C7i aR.length a.cols x) _ (List.getElem_mem d)
 rw [← h]
 unfold A3d
 rw [f]
 refine D2a bR aR.length a.cols aR 0 [] (fun x c=>?_) opx (fun x c=>by cases c)
 obtain ⟨i,e,rfl⟩:=List.mem_iff_getElem.1 c
 grind
theorem oib (h:p:=by first|rfl|(simp +zetaDelta only [List.length_set];rfl)|(simp;done)|(simp;omega)):p:=h
theorem oxg (h:p:=by first|omega|(simp +zetaDelta only [List.length_take,List.length_drop,List.length_append,List.length_cons,List.length_nil,List.length_set,List.length_map,G9];omega)|decide):p:=h
theorem D4l {R:List Sp3×Int} (hR:A3d a aR b bR=R) (f:B4 aZ aR:=by exact bW) (b3:aR.length≤9223372036854775807:=by exact bW) (av:aR.length≤aK:=by exact bW) (g:B4 bZ bR:=by exact bW) (au:bR.length≤9223372036854775807:=by exact bW) (b6:bR.length≤bK:=by exact bW) (hT:a.title.length≤100000000:=by exact bW) (bg:b.title.length≤100000000:=by exact bW):cM prog 27 [ag (C9 a ⟨aQ,aR.length,aK⟩),ag (C9 b ⟨bQ,bR.length,bK⟩)] [] [sl F0 aQ aZ,D8 D0 aZ aR,sl F0 bQ bZ,D8 D0 bZ bR,A1o,A1p] ({r:VR // bT 3 R.1.length r}) (fun x=>.tuple #[.slice (va x.1.q) R.1.length x.1.k,iv R.2]) (fun x=>((vo H1 37 x.1 R.1)++([]))) (fun x=>[]):=by
 refine cD Tryz.func27 fun X hX hr hD=>?_
 rw[A3d]at hR
 have:=f.1
 have:=g.1
 refine bS Z (B3r 4 [] (fun u y=>[(2,pt u 0),(3,pt y 0)]) (fun _ _=>(C9 a ⟨aQ,aR.length,aK⟩)) (fun _ _=>(C9 b ⟨bQ,bR.length,bK⟩)) 26 26 fun u y=>(ie (A3 (bS Z (bY 2 2 [1,0] [(10,ag (C9 a _)),(11,ag _)] (zv Z (B4a Z f bW bW g) (bP 1 6 Z (ie (bS Z (bP 2 14 Z (ie ?_)))))))))))
 let B:=bx u (C9 a ⟨aQ,aR.length,aK⟩) 26
 let A:=bx y (C9 b ⟨bQ,bR.length,bK⟩) 26
 refine zjn Z hR ?_ ?_<;>intro hR h3 bh
 ·refine bS Z (cF 3 4 5 Z ?_)
  subst hR
  refine ie (A8 ?_)
  exact cC hr hD (Y4 Z A6 A6) ⟨_,bT.nil⟩ (mc [[_],[_],_] [false,false,true] Z oxs) bX
 have a5:=A1x (by simpa using h3)
 have ah:=a5.1.2.2.2.2
 have b8:=a5.2.1.2.2.2.2
 have bo:=a5.2.2
 refine A4 (nx (bS Z (B3r 4 [0] (fun s w=>[(7,pt w 0)]) _ _ _ _ fun s w=>(ie (A3 (bS Z (pl2 4 [3] 20 21 Z (ie (A9 (Y9 (I8 [_,_,_,_,_] [1,2,3,4,0] 5 Z ozw Z [[bx w [pt s 0] 119],[bx s [.slice none 0 0] 123],[_],[_],vo H1 37 VR.nil []] Z opv) ?_))))))))))
 refine G6f (fun e j i=>e≤aR.length∧P4 _ (aR.drop e) e j=R∧bT 3 j.length i∧j.length≤80 * e) (fun e j i=>[(2,_),(3,_),(7,_),(20,iv aR.length),(21,iv e)]) (fun e j i=>(bx w _ _::bx s [.slice (va i.q) j.length i.k] _::bx y _ _::bx u _ _::((vo H1 37 i j)++([])))) (fun e j i=>[_,_,_,_,_,_]) (fun e j i=>aR.length - e) 0 _ _ (show P3 _ by rw [hD];exact P3.nil) ⟨opx,hR,bT.nil,oom⟩ ⟨rfl,rfl,rfl,rfl,oib,trivial⟩ (mc _ [true,true,true,true,true] Z oxs) A7.refl ?_
 rintro e j i ds aq ⟨be,hR,o,hb⟩
 have:=bT.le o
 refine bS Z (bP 1 22 Z (ie (A3 (G3 Z (fun h7=>?_) (fun h7=>?_)))))
 ·have aw:=bV h7
  rw [A1a [] (show e<aR.length by omega)] at hR;rw[P4]at hR
  refine A4 (nx (A3 (A9 (bS Z (bP 2 8 Z (ie (A6v (Q6 (k:=e) (d:=⟨none,0,0⟩) f 1 Z (by have:=f.1;omega)) ?_)))))))
  have:=Q9 f (k:=e) (d:=(⟨none,0,0⟩:Slc)) (by have:=f.1;omega)
  refine A6v (Q6 (k:=e) (d:=⟨none,0,0⟩) g 4 Z (by have:=g.1;omega)) ?_
  have:=Q9 g (k:=e) (d:=(⟨none,0,0⟩:Slc)) (by have:=g.1;omega)
  refine zS [(12,[0]),(12,[1]),(12,[2]),(12,[3]),(12,[4])] ?_
  refine hq5 [0,1,3,6,8] 24 25 27 30 32 Z ?_
  refine gl 2 [0,1,2,3,4] Z (B8 (v:=.slice aQ aR.length aK) F2i Z Z 3) ?_
  refine B9j 2 Z (by have:=f.1;omega) fun a8 ac=>?_
  refine gk 4 Z (E7 B0s Z Z ac Z e) ?_
  refine gk 5 Z (G1 (B6 B5c Z Z (F8 (sz:=1) ac jJ 2 Z (gd ⟨none,0,0⟩ (by have:=f.1;omega))) Z) (M2 f (by have:=f.1;omega))) ?_
  refine gl 7 [0,1,2,3,4] Z (B8 (v:=.slice bQ bR.length bK) F2i Z Z 2) ?_
  refine B9j 4 Z (by have:=g.1;omega) fun bi a4=>?_
  refine gk 9 Z (E7 B0s Z Z a4 Z e) ?_
  refine gk 10 Z (G1 (B6 B5c Z Z (F8 (sz:=1) a4 jJ 4 Z (gd ⟨none,0,0⟩ (by have:=g.1;omega))) Z) (M2 g (by have:=g.1;omega))) ?_
  refine gc 11 [0,1,2,3,4] Z (D4n Z) fun ⟨a9,⟨⟨a0,an⟩,ar⟩,a6,⟨⟨a2,ak⟩,b0⟩,a7⟩=>?_
  obtain ⟨bb,ba⟩:=ar
  obtain ⟨bc,bd⟩:=b0
  refine ge ?_
  refine A9 (D6b [(2,_),(3,_),(7,_),(20,_),(21,_),(35,.func _ _ #[pa a9,pa a6,pa a7])] ⟨rfl,rfl,rfl,rfl,rfl,rfl,trivial⟩ ?_)
  refine F0q (β:=Sp3) (enc:=(fun x=>ag (H1 x))) (xs:=(A5c ((G9 (e:Int) (aR.getD e []) (bR.getD e [])).1) ((G9 (e:Int) (aR.getD e []) (bR.getD e [])).2.1) ((G9 (e:Int) (aR.getD e []) (bR.getD e [])).2.2))) (σ:=List Sp3×VR) hr Z (D1k ((G9 (e:Int) (aR.getD e []) (bR.getD e [])).1) ((G9 (e:Int) (aR.getD e []) (bR.getD e [])).2.1) ((G9 (e:Int) (aR.getD e []) (bR.getD e [])).2.2) a9 a0 an a6 a2 ak a7 oxg oxg oxg oxg (by first|omega|(simp only [G9];have:=ah e opx;have:=b8 e opx;omega)) (by first|omega|(simp only [G9];have:=ah e opx;omega)) _ Z) c9 Z Z (fun a3 x=>U9 e (P4 bR (aR.drop (e+1))) a3 x.1=R∧bT 3 x.1.length x.2∧x.1.length+a3.length≤80 * (e+1)) (fun _ _=>False) (fun x=>(bx w [pt s 0] 119::bx s [.slice (va x.2.q) x.1.length x.2.k] 123::A::B::((vo H1 37 x.2 x.1)++([])))) (fun x=>[at_ a9 [.slice a0 (((G9 (e:Int) (aR.getD e []) (bR.getD e [])).1).length) an],sl D0 a0 ((G9 (e:Int) (aR.getD e []) (bR.getD e [])).1),at_ a6 [.slice a2 (((G9 (e:Int) (aR.getD e []) (bR.getD e [])).2.1).length) ak],sl D0 a2 ((G9 (e:Int) (aR.getD e []) (bR.getD e [])).2.1),at_ a7 [iv ((G9 (e:Int) (aR.getD e []) (bR.getD e [])).2.2)],sl D0 ((bZ.getD e jY).q) (bR.getD e []),sl D0 ((aZ.getD e jY).q) (aR.getD e []),sl F0 aQ aZ,D8 D0 aZ aR,sl F0 bQ bZ,D8 D0 bZ bR,A1o,A1p]) (j,i) (by exact ⟨hR,o,(by have h1:=B7s ((G9 (e:Int) (aR.getD e []) (bR.getD e [])).1) ((G9 (e:Int) (aR.getD e []) (bR.getD e [])).2.1) ((G9 (e:Int) (aR.getD e []) (bR.getD e [])).2.2);have h2:(G9 (e:Int) (aR.getD e []) (bR.getD e [])).1.length=(aR.getD e []).length:=rfl;have:=ah e opx;dsimp only;omega)⟩) (mc [[bx w [pt s 0] 119],[bx s [.slice (va i.q) j.length i.k] 123],[A],[B],vo H1 37 i j] [true,true,true,true,true] Z oxs) A7.refl ?_ ?_ (fun _ _ _ _ h=>h.elim)
  ·rintro el rest ⟨p,m⟩ hI Y Y' K' bm hK
   try dsimp only at hI
   obtain ⟨hR,l,b9⟩:=hI
   rw[U9]at hR
   have:=bT.le l
   refine A0 2 Z (cI 2 [0] (fun z=>[(9,pt z 0)]) (fun _=>(H1 el)) 37 fun z=>(A1 (hK _ _ _ ?_)))
   refine A9 (A0 3 Z (bY 2 1 [1,0] [(37,pt s 0),(38,ag (H1 el))] ?_))
   obtain ⟨y0,ax,hR⟩:=C3 hR
   refine zc Z (C1k ax l) fun ⟨t,a1⟩=>?_
   have:=bT.lc a1
   have:=B0u p el;try rw [ax] at this
   exact A1 (Y9 (I8 [_,_,_,_,_,_] [2,0,3,4,5,1] 6 Z ozw Z [[_],[bx s [.slice (va t.q) _ t.k] _],[_],[_],vo _ _ t _,[_]] Z opv) (B2c (I:=fun a3 x=>U9 e _ a3 x.1=R∧bT 3 x.1.length x.2∧x.1.length+a3.length≤80 * (e+1)) (Jx:=fun _ _=>False) (Lk:=fun x=>(bx w _ _::bx s [.slice (va x.2.q) x.1.length x.2.k] _::bx y _ _::bx u _ _::((vo _ _ x.2 x.1)++([])))) (_,t) (by exact ⟨hR,a1,(by simp only [List.length_cons] at *;omega)⟩) (mc [[_],[_],[_],[_],_,_] [true,true,true,true,true,false] Z oxs) A7.refl))
  ·rintro bn ⟨p,m⟩ ay hI
   try dsimp only at hI
   obtain ⟨hR,l,b9⟩:=hI
   rw[U9]at hR
   have:=bT.le l
   refine nx (A0 2 Z (ix Z B1 (bP 1 21 Z (A1 ?_))))
   exact F6c (z2:=j) (z3:=i) Z (P3.cons aq ay) _ p m ⟨opx,hR,l,opx⟩ olr ⟨rfl,rfl,rfl,rfl,oib,trivial⟩ (mc [[_],[_],[_],[_],_] [true,true,true,true,true] Z oxs) c9
 have aw:=bV h7
 rw [A1b aw] at hR;rw[P4]at hR
 refine F1 (nx (bS Z (pl2 7 [0,1] 4 5 Z ?_)))
 subst hR
 exact ie (A8 (B7w Z ⟨hr,hD⟩ (by exact aq) (Y4 Z A6 A6) ⟨i,o⟩ odv (mc [[_],[_],[_],[_],_] [false,false,false,false,true] Z oxs) bX))
end
section
open Go Go.Fen open Tryz (prog)
variable {R:jk} {b:List Slc} {lk:Nat} {lq:kQ}
def P1 (s:jj):jj :=
 (([]:jj)++s)
theorem A5g (s:jj):P1 s=s:=by simp [P1]
theorem A5v {s:jj} {g:kQ} {sk:Nat} {R:jj} (hR:P1 s=R) (a:B4 b s:=by exact bW) (l:s.length≤9223372036854775807:=by exact bW) (h:s.length≤sk:=by exact bW) (m:s.length≤1000000:=by exact bW):cM prog 36 [.slice g s.length sk] [] [sl F0 g b,D8 D0 b s] ({t:VR×List Slc // bT 1 R.length t.1∧B4 t.2 R}) (fun x=>.slice (va x.1.1.q) R.length x.1.1.k) (fun x=>((vo F0 68 x.1.1 x.1.2)++([]))) (fun x=>[D8 D0 x.1.2 R]):=by
 refine cD Tryz.func36 fun X hX hr hD=>?_
 rw[P1]at hR
 have:=a.1
 refine k_ ?_
 refine ie ?_
 refine k_ ?_
 refine ix Z (F9i Tryz.underlying22 Z Z Z) (ie (G3 Z (fun f=>?_) (fun f=>?_)))
 ·refine G4b 0 Z (Option.isNone_iff_eq_none.1 f) fun d=>?_
  have d:=F4y a d
  replace hR:([]:jj)=R:=by rw [← hR];simp [d]
  refine bS Z (bP 1 2 Z ?_)
  subst hR
  refine ie (A8 ?_)
  exact ci ⟨(_,_),⟨bT.nil,B4.none⟩⟩
 ·refine k_ ?_
  refine it Z (B6s B0s Z Z) fun i=>(D4 (q:=D8 D0 _ _) I5 ?_)
  have:([]:List Slc).length=0:=rfl
  refine k_ ?_
  have e:B4 (([]:List Slc)++b) (([]:jj)++s):=B4.append B4.none a
  refine it Z (K5 (r:=(⟨some i,0,[]⟩:VR)) (rs:=([]:List Slc)) (xss:=([]:jj)) (pre:=[]) (post:=[]) F7f Z Z Z Z Z Z Z Z Z (A5 1 Z) (A5 0 Z) (A5 2 Z) B4.none a (show bT 1 0 _ from ⟨rfl,Nat.zero_le _,Nat.zero_le _⟩) ofv ofv) fun ⟨j,c⟩=>?_
  refine k_ ?_
  subst hR
  refine ie (A8 ?_)
  exact ci ⟨(j,_),⟨c,e⟩⟩
def U2 (l:jk) (s:Sp3):Bool :=
 ((decide ((l.getD ((s.frm).toNat) ZV).wide=2))||((decide (s.tt<(l.length:Int)))&&(decide ((l.getD ((s.tt).toNat) ZV).wide=2))))
theorem C5z {l:jk} {s:Sp3} {R:Bool} (hR:U2 l s=R) (e:l.length≤9223372036854775807:=by exact bW) (h:l.length≤lk:=by exact bW) (n:0≤s.frm:=by exact bW) (j:s.frm<s.tt:=by exact bW) (k:s.tt≤l.length:=by exact bW):J7 prog 37 [.slice lq l.length lk,ag (H1 s)] [sl D0 lq l] (bv R):=by
 refine cD Tryz.func37 fun X hX hr hD=>?_
 rw[U2]at hR
 refine bS Z (cI 2 [] (fun b=>[(3,pt b 0)]) (fun _=>(H1 s)) 37 fun b=>(ie (bS Z (pl2 3 [0] 5 7 Z (H8 0 Z opx fun m a=>(ix Z (E7 A1n Z Z a Z _ opx opx) (bP 1 9 Z (ix Z (B6 cE Z Z (U8 (F8 (sz:=12) a (fun _=>Z) 0 Z (gd _ opx)) (ws:=[iv ((l.getD ((s.frm).toNat) ZV).wide)]) 3 1 Z) Z) (bP 2 12 Z ?_)))))))))
 refine zir 15 1 12 27 ((decide (s.tt<l.length))&&(decide ((l.getD ((s.tt).toNat) ZV).wide=2))) (fun d f=>?_) ?_
 ·refine cB 6 [0] 18 Z (zid 8 1 18 26 (decide ((l.getD ((s.tt).toNat) ZV).wide=2)) (fun g i=>?_) ?_)
  ·exact pl2 3 [0] 19 21 Z (ix Z (E7 A1n Z Z a Z _ opx opx) (bP 1 23 Z (ix Z (B6 cE Z Z (U8 (F8 (sz:=12) a (fun _=>Z) 0 Z (gd _ opx)) (ws:=[iv ((l.getD ((s.tt).toNat) ZV).wide)]) 3 1 Z) Z) (bP 2 26 Z (zai 7 18 _ g)))))
  exact bP 1 27 Z (zai 4 12 _ d)
 refine bP 1 4 Z ?_
 subst hR
 exact q8
def Q3 (n:Nat):jk :=
 (bif (decide ((0:Int)<(n:Int))) then ([]:jk) else ([]:jk))
theorem A5f (n:Nat):Q3 n=[]:=by simp[Q3]
theorem B3q {n:Nat} (hR:Q3 n=R) (j:n≤1000000:=by exact bW):cM prog 63 [.slice none 0 0,iv (n:Int)] [] [] ({r:VR // bT 12 R.length r}) (fun x=>.slice (va x.1.q) R.length x.1.k) (fun x=>((vo D0 71 x.1 R)++([]))) (fun x=>[]):=by
 refine cD Tryz.func63 fun X hX hr hD=>?_
 rw[Q3]at hR
 refine k_ ?_
 refine ie (kc_ ?_)
 refine bP 2 6 Z (ie (G3 Z (fun b=>?_) (fun b=>?_)))
 ·have d:=bV b
  exfalso;omega
 refine A4 (nx (A3 (bS Z (cF 2 8 9 Z (ix Z (F0d A1n Z Z Z Z Z) (k_ ?_))))))
 refine ix Z (L8 (c:=0)) (ix Z (L8 (c:=n)) (k_ ?_))
 refine ie (k_ ?_)
 refine ie ?_
 refine cK Z hR ?_ ?_<;>intro hR i h
 ·refine k_ ?_
  refine ix Z (F0d A1n Z Z Z Z Z) (ix Z (B2m A1n Z Z 0 0 0 A2b (A1l Z Z) A2b ozw ozw ozw (n':=0) Z Z) (k_ ?_))
  refine it Z (E3e (f:=D0) (m:=n) F1s Tryz.underlying3 Z Z Z Z Z (rfl) opx ofv ofv) fun ⟨e,a,g⟩=>(k_ ?_)
  refine ix Z (B5n A1n Z Z 0 e.k (A1l Z Z) A2b opx opx Z Z) (k_ ?_)
  refine A1 (k_ ?_)
  subst hR
  exact ie (A8 (ci ⟨e,a⟩))
 refine k_ ?_
 subst hR
 exact ie (A8 (ci ⟨_,bT.nil⟩))
def I7:jj→jk→Nat→jk
 | [],newslice,t27=>newslice
 | hd_l1::tl_l1,newslice,t27=>I7 tl_l1 (newslice++hd_l1) (t27+1)
def I6 (a:jj):jj→Nat→Nat→jk
 | [],size,t11=>I7 a (Q3 size) 0
 | hd_l0::tl_l0,size,t11=>I6 a tl_l0 (size+hd_l0.length) (t11+1)
def Z1 (a:jj):jk :=
 I6 a a 0 0
theorem C9u:∀ (b:jj) (a:jk) (t:Nat),I7 b a t=a++b.flatten
 | [],a,t=>by simp [I7]
 | x::b,a,t=>by simp [I7,C9u b]
theorem C9m (s:jj):∀ (a:jj) (z t:Nat),I6 s a z t=s.flatten
 | [],z,t=>by simp [I6,C9u,A5f]
 | x::a,z,t=>by simp [I6,C9m s a]
theorem B1m (s:jj):Z1 s=s.flatten:=C9m s s 0 0
theorem E1v {a:jj} {k:Nat} {r:jk} {c:Int} (h:∀ i,i<a.length→((a.getD i []).length:Int)=c) (hr:(r.length:Int)=c):∀ i,i<(a.set k r).length→(((a.set k r).getD i []).length:Int)=c:=by grind
theorem B2j {slices:jj} {j:kQ} {slicesk:Nat} (hR:Z1 slices=R) (a:B4 b slices:=by exact bW) (w:slices.length≤9223372036854775807:=by exact bW) (u:slices.length≤slicesk:=by exact bW) (hs:slices.length≤1000:=by exact bW) (hb:∀ i,i<slices.length→(slices.getD i []).length≤1000:=by exact bW):cM prog 38 [.slice j slices.length slicesk] [] [sl F0 j b,D8 D0 b slices] ({r:VR // bT 12 R.length r}) (fun x=>.slice (va x.1.q) R.length x.1.k) (fun x=>((vo D0 71 x.1 R)++([]))) (fun x=>[]):=by
 refine cD Tryz.func38 fun X hX hr hD=>?_
 rw[Z1]at hR
 have:=a.1
 refine k_ ?_
 refine ie (k_ ?_)
 refine ie (k_ ?_)
 refine ie (A9 (A1y (un fun size m=>(m≤slices.length∧I6 _ (slices.drop m) size m=R∧size≤1000 * m,[(0,_),(3,iv size),(9,_),(10,iv _),(11,iv m)],_,_,slices.length - m)) (0,0) ⟨opx,hR,opx⟩ bU A7.refl ?_))
 rintro ⟨size,m⟩ ⟨a8,hR,hz⟩
 refine k_ ?_
 refine ie (A3 (G3 Z (fun h2=>?_) (fun h2=>?_)))
 ·have y:=bV h2
  rw [A1a [] (show m<slices.length by omega)] at hR;rw[I6]at hR
  have:=hb m opx
  refine k_ ?_
  refine H8 0 Z jV fun a3 s=>(D4 (Q6 (k:=m) (d:=⟨none,0,0⟩) a 1 Z jV) (ix Z (E7 B0s Z Z s Z m) (ix Z (G1 (B6 B5c Z Z (F8 (sz:=1) s jJ 1 Z (gd ⟨none,0,0⟩ jV)) Z) (M2 a jV)) (k_ ?_))))
  refine ie (k_ ?_)
  refine ix Z B1 (k_ ?_)
  refine ie (kc_ ?_)
  refine bP 2 20 Z (ie (G3 Z (fun h5=>?_) (fun h5=>?_)))
  ·have a1:=bV h5
   exfalso;omega
  refine A4 (nx (A0 2 Z (ix Z B1 (k_ ?_))))
  exact z0 (_,_) ⟨opx,hR,opx⟩
 have y:=bV h2
 rw [A1b y] at hR;rw[I6]at hR
 refine k_ ?_
 refine zc Z (B3q Z) fun ⟨r6,t⟩=>?_
 refine k_ ?_
 refine ie (k_ ?_)
 refine ie (A9 (A1y (un fun e=>un fun g h=>(h≤slices.length∧I7 (slices.drop h) e h=R∧bT _ e.length g∧e.length≤1000 * h,[(6,.slice (va g.q) e.length g.k),(25,_),(26,iv _),(27,iv h)],((vo _ _ g e)++([])),_,slices.length - h)) (_,_,0) ⟨opx,hR,t,(by rw [A5f];simp)⟩ bU A7.refl ?_))
 rintro ⟨e,g,h⟩ ⟨aa,hR,l,a9⟩
 have:=bT.le l
 refine k_ ?_
 refine ie (A3 (G3 Z (fun h9=>?_) (fun h9=>?_)))
 ·have z:=bV h9
  rw [A1a [] (show h<slices.length by omega)] at hR;rw[I7]at hR
  have:=hb h opx
  refine k_ ?_
  refine H8 0 Z jV fun a7 o=>(D4 (Q6 (k:=h) (d:=⟨none,0,0⟩) a 1 Z jV) (ix Z (E7 B0s Z Z o Z h) (ix Z (G1 (B6 (v:=.slice ((b.getD h jY).q) ((b.getD h jY).n) ((b.getD h jY).k)) (us:=[.slice ((b.getD h jY).q) ((b.getD h jY).n) ((b.getD h jY).k)]) B5c Z Z (F8 (c:=F0) (sz:=1) o jJ 1 Z (gd jY jV)) Z) (M2 a jV)) (k_ ?_))))
  refine ie (k_ ?_)
  refine it Z (Y6 (f:=D0) (r:=g) (xs:=e) (ys:=(slices.getD h [])) (pre:=[]) (post:=[]) F1s jJ jJ Z Z Z Z Z Z Z Z (A5 0 Z) l ofv ofv) fun ⟨a5,p⟩=>?_
  have:=@List.length_append _ e (slices.getD h [])
  refine k_ ?_
  refine A1 (k_ ?_)
  refine ix Z B1 (k_ ?_)
  exact A1 (z0 (_,_,_) ⟨opx,hR,p,opx⟩)
 have z:=bV h9
 rw [A1b z] at hR;rw[I7]at hR
 refine k_ ?_
 subst hR
 exact ie (A8 (ci ⟨g,l⟩))
def X6 (a:FrmC) (aR:jj) (bR:jj):List Sp3→Nat→jj→(FrmC×jj×Int)
 | [],t27,outRows=>(a,outRows,0)
 | hd_l0::tl_l0,t27,outRows=>(bif (((((((decide (hd_l0.row<0))||(decide ((aR.length:Int)≤hd_l0.row)))||(decide (hd_l0.frm<0)))||(decide (hd_l0.tt≤hd_l0.frm)))||(decide (a.cols<hd_l0.tt)))||(U2 (aR.getD ((hd_l0.row).toNat) []) hd_l0))||(U2 (bR.getD ((hd_l0.row).toNat) []) hd_l0)) then (Za,([]:jj),2) else (B5 (Z1 ([((outRows.getD ((hd_l0.row).toNat) []).take ((hd_l0.frm).toNat)),(((bR.getD ((hd_l0.row).toNat) []).drop ((hd_l0.frm).toNat)).take (((hd_l0.tt).toNat) - ((hd_l0.frm).toNat))),((outRows.getD ((hd_l0.row).toNat) []).drop ((hd_l0.tt).toNat))]:jj)) fun (b:jk)=>X6 a aR bR tl_l0 (t27+1) (outRows.set ((hd_l0.row).toNat) b)))
def A2o (a:FrmC) (aR:jj) (b:FrmC) (bR:jj) (l:List Sp3):FrmC×jj×Int :=
 (bif (!decide ((K4 a aR b bR)=0)) then (Za,([]:jj),(K4 a aR b bR)) else (B5 (P1 aR) fun (c:jj)=>X6 a aR bR l 0 c))
theorem B5h (a:FrmC) (aR:jj) (bR:jj):∀ (l:List Sp3) (t:Nat) (o:jj),(X6 a aR bR l t o).1.title.length≤a.title.length
 | [],t,o=>by simp [X6]
 | s::l,t,o=>by
  simp only [X6,B5]
  generalize (((((((decide (s.row<0))||(decide ((aR.length:Int)≤s.row)))||(decide (s.frm<0)))||(decide (s.tt≤s.frm)))||(decide (a.cols<s.tt)))||(U2 (aR.getD ((s.row).toNat) []) s))||(U2 (bR.getD ((s.row).toNat) []) s))=c
  cases c with
  | true=>exact Nat.zero_le _
  | false=>exact B5h a aR bR l _ _
theorem C9c (a:FrmC) (aR:jj) (b:FrmC) (bR:jj) (l:List Sp3):(A2o a aR b bR l).1.title.length≤a.title.length:=by
 unfold A2o
 cases (!decide (K4 a aR b bR=0)) with
 | true=>exact Nat.zero_le _
 | false=>simp[B5h]
theorem D8x {a:FrmC} {aR:jj} {b:FrmC} {bR:jj} {l:List Sp3} {aQ:kQ} {aZ:List Slc} {aK:Nat} {bQ:kQ} {bZ:List Slc} {bK:Nat} {R:FrmC×jj×Int} (hR:A2o a aR b bR l=R) (o:B4 aZ aR:=by exact bW) (b0:aR.length≤9223372036854775807:=by exact bW) (ap:aR.length≤aK:=by exact bW) (h:B4 bZ bR:=by exact bW) (an:bR.length≤9223372036854775807:=by exact bW) (b7:bR.length≤bK:=by exact bW) (bw:l.length≤9223372036854775807:=by exact bW) (c4:l.length≤lk:=by exact bW) (hT:a.title.length≤100000000:=by exact bW) (bo:b.title.length≤100000000:=by exact bW):cM prog 18 [ag (C9 a ⟨aQ,aR.length,aK⟩),ag (C9 b ⟨bQ,bR.length,bK⟩),.slice lq l.length lk] [] [sl F0 aQ aZ,D8 D0 aZ aR,sl F0 bQ bZ,D8 D0 bZ bR,sl H1 lq l,A1o,A1p] ({t:VR×List Slc // bT 1 R.2.1.length t.1∧B4 t.2 R.2.1}) (fun x=>.tuple #[ag (C9 R.1 ⟨va x.1.1.q,R.2.1.length,x.1.1.k⟩),iv R.2.2]) (fun x=>((vo F0 68 x.1.1 x.1.2)++([]))) (fun x=>[D8 D0 x.1.2 R.2.1]):=by
 refine cD Tryz.func18 fun X hX hr hD=>?_
 rw[A2o]at hR
 have:=o.1
 have:=h.1
 refine bS Z (D8c 4 0 [] (fun b1 b2 b3=>[(3,pt b1 0),(4,pt b2 0),(6,pt b3 0)]) (fun b1 b2 b3=>[bx b3 (C9 Za ⟨none,0,0⟩) 26,bx b2 (C9 b ⟨bQ,bR.length,bK⟩) 26,bx b1 (C9 a ⟨aQ,aR.length,aK⟩) 26]) (fun b1 b2 b3=>(ie (A3 (bS Z (bY 2 2 [2,1] [(13,ag (C9 a _)),(14,ag _)] (zv Z (B4a Z o bW bW h) (bP 1 8 Z (ie (bS Z (bP 2 17 Z (ie ?_))))))))))))
 let F:=bx b1 (C9 a ⟨aQ,aR.length,aK⟩) 26
 let D:=bx b2 (C9 b ⟨bQ,bR.length,bK⟩) 26
 let B:=bx b3 (C9 Za ⟨none,0,0⟩) 26
 refine zjn Z hR ?_ ?_<;>intro hR h4 br
 ·refine bS Z (zru 4 [0] [(7,iv (K4 a aR b bR))] 0 B ?_)
  subst hR
  refine ie (A8 ?_)
  exact cc (Y4 Z (E8 C6z Z 0) A6) ⟨(_,_),⟨bT.nil,B4.none⟩⟩
 have aa:=A1x (by simpa using h4)
 have al:=aa.1.2.2.2.2
 have az:=aa.2.1.2.2.2.2
 refine A4 (nx (bS Z (cI 3 [2,0] (fun b5=>[(9,pt b5 0)]) (fun _=>(C9 a ⟨aQ,aR.length,aK⟩)) 26 fun b5=>(ie (bS Z (cB 2 [3] 22 Z ?_))))))
 obtain ⟨y1,aj,hR⟩:=C3 hR
 refine zc Z (A5v aj o) fun ⟨⟨r6,ai⟩,ad⟩=>?_
 try dsimp only at ad
 obtain ⟨ah,ak⟩:=ad
 have:=ak.1
 have m:=A5g aR;rw [aj] at m;have:=congrArg List.length m;try simp only [List.length_take,List.length_drop] at this
 refine zru 2 [0] [] 0 (bx b5 (C9 a ⟨va r6.q,y1.length,r6.k⟩) 26) ?_
 refine ie (A3 (bS Z (pp3 3 25 26 27 Z (ie (A9 ?_)))))
 refine A1y (un fun e=>un fun g=>un fun p f=>(e≤l.length∧X6 a _ _ (l.drop e) e g=R∧bT 1 g.length p∧B4 f g∧g.length=aR.length∧∀ i,i<g.length→((g.getD i []).length)=a.cols,[(3,_),(4,_),(6,_),(9,_),(25,_),(26,iv _),(27,iv e)],(bx _ (C9 a ⟨va p.q,g.length,p.k⟩) _::bx _ _ 26::D::F::((vo F0 68 p f)++([]))),[D8 D0 ai y1,sl F0 aQ aZ,D8 D0 aZ aR,sl F0 bQ bZ,D8 D0 bZ bR,sl H1 lq l,A1o,A1p,D8 D0 f g],l.length - e)) (0,y1,r6,ai) ⟨opx,hR,ah,ak,(by rw [m]),(by rw [m];exact al)⟩ bU c9 ?_
 rintro ⟨e,g,p,f⟩ ⟨bn,hR,s,j,ho,b8⟩
 have:=j.1
 refine bS Z (bP 1 28 Z (ie (A3 (G3 Z (fun af=>?_) (fun af=>?_)))))
 ·have ae:=bV af
  rw [A1a ZY (show e<l.length by omega)] at hR;rw[X6]at hR
  refine A4 (nx (A3 (A9 (bS Z (H8 5 Z opx fun c5 ac=>(ix Z (E7 C6l Z Z ac Z e) (ix Z (J0 E8u Z Z (F8 (sz:=3) ac jJ 5 Z (gd ZY opx)) Z) ?_)))))))
  refine cI 2 [0] (fun a0=>[(11,pt a0 0)]) (fun _=>(H1 (l.getD e ZY))) 37 fun a0=>?_
  let H:=bx a0 (H1 (l.getD e ZY)) 37
  refine ie (A3 (sd 50 Z oki Z (pg1 4 [0] 34 Z ?_)))
  refine zdr 7 39 34 41 (decide (aR.length≤(l.getD e ZY).row)) (fun be bg=>?_) ?_
  ·refine pg1 7 [0,4] 41 Z ?_
   exact zad 2 34 _ be
  refine pd1 1 42 Z ?_
  refine zdO 4 34 42 46 (decide ((l.getD e ZY).frm<0)) (fun au=>?_) ?_
  ·have bk:=bV au
   refine pg1 4 [0] 46 Z ?_
   exact zad 2 42 _ au
  refine pd1 1 47 Z ?_
  refine zdO 6 27 47 53 (decide ((l.getD e ZY).tt≤(l.getD e ZY).frm)) (fun am=>?_) ?_
  ·have bm:=bV am
   refine pg1 6 [0,0] 53 Z ?_
   exact zad 2 47 _ am
  refine pd1 1 54 Z ?_
  refine zdO 6 20 54 60 (decide (a.cols<(l.getD e ZY).tt)) (fun av=>?_) ?_
  ·have bl:=bV av
   refine pg1 6 [0,4] 60 Z ?_
   exact zad 2 54 _ av
  refine dp' 1 19 [(61,bv (((((decide ((l.getD e ZY).row<0))||(decide (aR.length≤(l.getD e ZY).row)))||(decide ((l.getD e ZY).frm<0)))||(decide ((l.getD e ZY).tt≤(l.getD e ZY).frm)))||(decide (a.cols<(l.getD e ZY).tt))))] ?_
  refine zdO 9 10 61 70 (U2 (aR.getD (((l.getD e ZY).row).toNat) []) (l.getD e ZY)) (fun ay=>?_) ?_
  ·have bh:=bV ay
   have c0:=al (((l.getD e ZY).row).toNat) opx
   refine zdg 4 5 [4,0] [(63,.slice aQ aR.length aK),(65,iv ((l.getD e ZY).row))] ?_
   refine B2k 1 Z (by have:=o.1;omega) fun c1 ab=>(B7m (Q6 (k:=((l.getD e ZY).row).toNat) (d:=⟨none,0,0⟩) o 2 Z (by have:=o.1;omega)) ?_)
   have:=Q9 o (k:=((l.getD e ZY).row).toNat) (d:=(⟨none,0,0⟩:Slc)) (by have:=o.1;omega)
   refine dd Z (E7 B0s Z Z ab Z _ opx opx) (dd Z (G1 (B6 (us:=[.slice _ _ ((aZ.getD (((l.getD e ZY).row).toNat) _).k)]) B5c Z Z (F8 (c:=F0) ab (fun _=>Z) 2 Z (gd ⟨none,0,0⟩ (by have:=o.1;omega))) Z) (M2 o (by have:=o.1;omega))) ?_)
   refine zdg 1 2 [0] [(68,ag (H1 (l.getD e ZY)))] ?_
   refine zvd Z (C5z Z) (pd1 1 70 Z ?_)
   exact zad 8 61 _ ay
  refine dp' 1 9 [(71,bv ((((((decide ((l.getD e ZY).row<0))||(decide (aR.length≤(l.getD e ZY).row)))||(decide ((l.getD e ZY).frm<0)))||(decide ((l.getD e ZY).tt≤(l.getD e ZY).frm)))||(decide (a.cols<(l.getD e ZY).tt)))||(U2 (aR.getD (((l.getD e ZY).row).toNat) []) (l.getD e ZY))))] ?_
  refine zdO 9 0 71 80 (U2 (bR.getD (((l.getD e ZY).row).toNat) []) (l.getD e ZY)) (fun aq=>?_) ?_
  ·have bi:=bV aq
   have ba:=az (((l.getD e ZY).row).toNat) opx
   refine zdg 4 5 [3,0] [(73,.slice bQ bR.length bK),(75,iv ((l.getD e ZY).row))] ?_
   refine B2k 3 Z (by have:=h.1;omega) fun bu a8=>(B7m (Q6 (k:=((l.getD e ZY).row).toNat) (d:=⟨none,0,0⟩) h 4 Z (by have:=h.1;omega)) ?_)
   have:=Q9 h (k:=((l.getD e ZY).row).toNat) (d:=(⟨none,0,0⟩:Slc)) (by have:=h.1;omega)
   refine dd Z (E7 B0s Z Z a8 Z _ opx opx) (dd Z (G1 (B6 (us:=[.slice _ _ ((bZ.getD (((l.getD e ZY).row).toNat) _).k)]) B5c Z Z (F8 (c:=F0) a8 (fun _=>Z) 4 Z (gd ⟨none,0,0⟩ (by have:=h.1;omega))) Z) (M2 h (by have:=h.1;omega))) ?_)
   refine zdg 1 2 [0] [(78,ag (H1 (l.getD e ZY)))] ?_
   refine zvd Z (C5z Z) (dp' 1 0 [(80,bv (U2 (bR.getD (((l.getD e ZY).row).toNat) []) (l.getD e ZY)))] ?_)
   exact zad 8 71 _ aq
  refine de ?_
  refine zjb Z hR ?_ ?_<;>intro hR b4
  ·have b6:=bV b4
   refine bS Z (zru 3 [2] [(7,iv 2)] 2 B ?_)
   subst hR
   refine ie (A8 ?_)
   exact cc (Y4 Z (E8 C6z Z 2) A6) ⟨(_,_),⟨bT.nil,B4.none⟩⟩
  have b6:=bV b4
  have c3:=b8 (((l.getD e ZY).row).toNat) opx
  have ba:=az (((l.getD e ZY).row).toNat) opx
  refine A4 (nx (bS Z (bY 4 3 [1,0] [(83,.slice (va p.q) g.length p.k),(85,iv ((l.getD e ZY).row))] ?_)))
  obtain ⟨b27,ar⟩:=bT.some s opx
  obtain ⟨bd,y,w⟩:=p
  let G:=vo F0 68 (⟨some b27,y,w⟩:VR) f
  let A:=bx b5 (C9 a ⟨va (⟨some b27,y,w⟩:VR).q,g.length,(⟨some b27,y,w⟩:VR).k⟩) 26
  obtain rfl:bd=some b27:=ar
  refine D4 (Q6 (k:=((l.getD e ZY).row).toNat) (d:=⟨none,0,0⟩) j 8 Z (by have:=j.1;omega)) ?_
  have:=Q9 j (k:=((l.getD e ZY).row).toNat) (d:=(⟨none,0,0⟩:Slc)) (by have:=j.1;omega)
  refine ix Z (Z5 B0s Z Z Z _ opx (by have:=j.1;omega)) (ix Z (G1 (Y2 (sz:=1) B5c jJ Z Z 5 Z (((l.getD e ZY).row).toNat) 0 Z (gd ⟨none,0,0⟩ (by have:=j.1;omega)) Z) (M2 j (by have:=j.1;omega))) (bP 1 12 Z (ie (A6v (D4c (A5 0 Z) (((l.getD e ZY).frm).toNat)) (A6v (Q6 (k:=((l.getD e ZY).row).toNat) (d:=⟨none,0,0⟩) h 6 Z (by have:=h.1;omega)) ?_)))))
  have:=Q9 h (k:=((l.getD e ZY).row).toNat) (d:=(⟨none,0,0⟩:Slc)) (by have:=h.1;omega)
  refine A6v (E8b (sz:=12) (A5 0 Z) (((l.getD e ZY).frm).toNat) (((l.getD e ZY).tt).toNat) ((bZ.getD (((l.getD e ZY).row).toNat) ⟨none,0,0⟩).k) (fun _=>Z) Z opx opx) (A6v (C9o (sz:=12) (A5 3 Z) (((l.getD e ZY).tt).toNat) ((f.getD (((l.getD e ZY).row).toNat) ⟨none,0,0⟩).k) (fun _=>Z) opx opx) ?_)
  refine zSn [(27,[0]),(27,[1]),(27,[2]),(27,[3]),(27,[4]),(26,[5])] ?_
  refine hqV [0,2,4,5,8,10,14,16,19,20] [(88,pt b5 1),(90,pt a0 0),(92,.slice ((f.getD (((l.getD e ZY).row).toNat) ⟨none,0,0⟩).q) ((g.getD (((l.getD e ZY).row).toNat) []).length) ((f.getD (((l.getD e ZY).row).toNat) ⟨none,0,0⟩).k)),(93,pt a0 1),(96,pt b2 1),(98,pt a0 0),(102,pt a0 1),(104,pt a0 2),(107,.slice ((f.getD (((l.getD e ZY).row).toNat) (⟨none,0,0⟩:Slc)).q) ((g.getD (((l.getD e ZY).row).toNat) []).length) ((f.getD (((l.getD e ZY).row).toNat) (⟨none,0,0⟩:Slc)).k)),(108,pt a0 2)] ?_
  refine gl 1 [0,1,2,3,4,5] Z (B8 (v:=.slice (va (⟨some _,y,w⟩:VR).q) g.length ((⟨some b27,y,w⟩:VR).k)) F2i Z Z 1 Z Z) ?_
  refine gl 3 [0,1,2,3,4,5] Z (B8 (v:=iv _) cE Z Z 0 Z Z) ?_
  refine gl 6 [0,1,2,3,4,5] Z (B8 (v:=iv _) cE Z Z 0 Z Z) ?_
  refine gk 7 Z (B5n (n':=((g.getD (((l.getD e ZY).row).toNat) []).take (((l.getD e ZY).frm).toNat)).length) A1n Z Z (((l.getD e ZY).frm).toNat) _ (A1l Z opx) A2b opx opx ofx Z) ?_
  have:=@List.length_take _ (((l.getD e ZY).frm).toNat) (g.getD (((l.getD e ZY).row).toNat) [])
  refine gl 9 [0,1,2,3,4,5] Z (B8 (v:=.slice bQ bR.length bK) F2i Z Z 3 Z Z) ?_
  refine gl 11 [0,1,2,3,4,5] Z (B8 (v:=iv _) cE Z Z 0 Z Z) ?_
  refine B9j 8 Z (by have:=h.1;omega) fun bz a9=>?_
  refine gk 12 Z (E7 B0s Z Z a9 Z (((l.getD e ZY).row).toNat) opx opx) ?_
  refine gk 13 Z (G1 (B6 B5c Z Z (F8 (sz:=1) a9 (fun _=>Z) 8 Z (gd ⟨none,0,0⟩ (by have:=h.1;omega))) Z) (M2 h (by have:=h.1;omega))) ?_
  refine gl 15 [0,1,2,3,4,5] Z (B8 (v:=iv _) cE Z Z 0 Z Z) ?_
  refine gl 17 [0,1,2,3,4,5] Z (B8 (v:=iv _) cE Z Z 0 Z Z) ?_
  refine gk 18 Z (B2m (n':=(((bR.getD (((l.getD e ZY).row).toNat) []).drop (((l.getD e ZY).frm).toNat)).take ((((l.getD e ZY).tt).toNat) - (((l.getD e ZY).frm).toNat))).length) A1n Z Z (((l.getD e ZY).frm).toNat) (((l.getD e ZY).tt).toNat) _ (A1l Z opx) (A1l Z opx) A2b opx opx opx ofx Z) ?_
  have:=@List.length_drop _ (((l.getD e ZY).frm).toNat) (bR.getD (((l.getD e ZY).row).toNat) [])
  have:=@List.length_take _ ((((l.getD e ZY).tt).toNat) - (((l.getD e ZY).frm).toNat)) ((bR.getD (((l.getD e ZY).row).toNat) []).drop (((l.getD e ZY).frm).toNat))
  refine gl 21 [0,1,2,3,4,5] Z (B8 (v:=iv _) cE Z Z 0 Z Z) ?_
  refine gk 22 Z (B2m (n':=((g.getD (((l.getD e ZY).row).toNat) []).drop (((l.getD e ZY).tt).toNat)).length) A1n Z Z (((l.getD e ZY).tt).toNat) _ _ (A1l Z opx) A2b A2b opx opx opx ofx Z) ?_
  have:=@List.length_drop _ (((l.getD e ZY).tt).toNat) (g.getD (((l.getD e ZY).row).toNat) [])
  refine go 23 [0,1,2,3,4,5] Z (B0 (c:=F0) (xs:=([⟨(f.getD (((l.getD e ZY).row).toNat) (⟨none,0,0⟩:Slc)).q,((g.getD (((l.getD e ZY).row).toNat) []).take (((l.getD e ZY).frm).toNat)).length,(f.getD (((l.getD e ZY).row).toNat) (⟨none,0,0⟩:Slc)).k⟩,⟨(B5w ((bZ.getD (((l.getD e ZY).row).toNat) (⟨none,0,0⟩:Slc)).q) (((l.getD e ZY).frm).toNat) 12 ((bZ.getD (((l.getD e ZY).row).toNat) (⟨none,0,0⟩:Slc)).k)),(((bR.getD (((l.getD e ZY).row).toNat) []).drop (((l.getD e ZY).frm).toNat)).take ((((l.getD e ZY).tt).toNat) - (((l.getD e ZY).frm).toNat))).length,(((bZ.getD (((l.getD e ZY).row).toNat) (⟨none,0,0⟩:Slc)).k) - (((l.getD e ZY).frm).toNat))⟩,⟨(B5w ((f.getD (((l.getD e ZY).row).toNat) (⟨none,0,0⟩:Slc)).q) (((l.getD e ZY).tt).toNat) 12 ((f.getD (((l.getD e ZY).row).toNat) (⟨none,0,0⟩:Slc)).k)),((g.getD (((l.getD e ZY).row).toNat) []).drop (((l.getD e ZY).tt).toNat)).length,(((f.getD (((l.getD e ZY).row).toNat) (⟨none,0,0⟩:Slc)).k) - (((l.getD e ZY).tt).toNat))⟩])) B0s Z Z Z oki) fun c2=>?_
  have a7:B4 ([⟨(f.getD (((l.getD e ZY).row).toNat) (⟨none,0,0⟩:Slc)).q,((g.getD (((l.getD e ZY).row).toNat) []).take (((l.getD e ZY).frm).toNat)).length,(f.getD (((l.getD e ZY).row).toNat) (⟨none,0,0⟩:Slc)).k⟩,⟨(B5w ((bZ.getD (((l.getD e ZY).row).toNat) (⟨none,0,0⟩:Slc)).q) (((l.getD e ZY).frm).toNat) 12 ((bZ.getD (((l.getD e ZY).row).toNat) (⟨none,0,0⟩:Slc)).k)),(((bR.getD (((l.getD e ZY).row).toNat) []).drop (((l.getD e ZY).frm).toNat)).take ((((l.getD e ZY).tt).toNat) - (((l.getD e ZY).frm).toNat))).length,(((bZ.getD (((l.getD e ZY).row).toNat) (⟨none,0,0⟩:Slc)).k) - (((l.getD e ZY).frm).toNat))⟩,⟨(B5w ((f.getD (((l.getD e ZY).row).toNat) (⟨none,0,0⟩:Slc)).q) (((l.getD e ZY).tt).toNat) 12 ((f.getD (((l.getD e ZY).row).toNat) (⟨none,0,0⟩:Slc)).k)),((g.getD (((l.getD e ZY).row).toNat) []).drop (((l.getD e ZY).tt).toNat)).length,(((f.getD (((l.getD e ZY).row).toNat) (⟨none,0,0⟩:Slc)).k) - (((l.getD e ZY).tt).toNat))⟩]:List Slc) ([((g.getD (((l.getD e ZY).row).toNat) []).take (((l.getD e ZY).frm).toNat)),(((bR.getD (((l.getD e ZY).row).toNat) []).drop (((l.getD e ZY).frm).toNat)).take ((((l.getD e ZY).tt).toNat) - (((l.getD e ZY).frm).toNat))),((g.getD (((l.getD e ZY).row).toNat) []).drop (((l.getD e ZY).tt).toNat))]:jj):=(B4.cons ⟨ooy,okl,okl⟩ (B4.cons ⟨ooy,okl,okl⟩ (B4.cons ⟨ooy,okl,okl⟩ B4.none)))
  refine C9w (q:=D8 _ ([⟨(f.getD (((l.getD e ZY).row).toNat) jY).q,((g.getD (((l.getD e ZY).row).toNat) []).take (((l.getD e ZY).frm).toNat)).length,(f.getD (((l.getD e ZY).row).toNat) jY).k⟩,⟨(B5w ((bZ.getD (((l.getD e ZY).row).toNat) jY).q) (((l.getD e ZY).frm).toNat) 12 ((bZ.getD (((l.getD e ZY).row).toNat) jY).k)),(((bR.getD (((l.getD e ZY).row).toNat) []).drop (((l.getD e ZY).frm).toNat)).take ((((l.getD e ZY).tt).toNat) - (((l.getD e ZY).frm).toNat))).length,(((bZ.getD (((l.getD e ZY).row).toNat) jY).k) - (((l.getD e ZY).frm).toNat))⟩,⟨(B5w ((f.getD (((l.getD e ZY).row).toNat) jY).q) (((l.getD e ZY).tt).toNat) 12 ((f.getD (((l.getD e ZY).row).toNat) jY).k)),((g.getD (((l.getD e ZY).row).toNat) []).drop (((l.getD e ZY).tt).toNat)).length,(((f.getD (((l.getD e ZY).row).toNat) jY).k) - (((l.getD e ZY).tt).toNat))⟩]) _) (M8 (A5 4 Z) (M8 (A5 2 Z) (M8 (A5 1 Z) I5))) ?_
  obtain ⟨y0,aw,hR⟩:=C3 hR
  refine go 24 [0,1,2,3,4,5] Z (N9 (L2:=(H::A::B::D::F::(G++([])))) (B2j aw a7 bW bW bW (by intro i hi;simp only [List.length_cons,List.length_nil] at hi;match i,hi with|0,_=>(simp only [List.getD_cons_zero,List.length_take,List.length_drop];omega)|1,_=>(simp only [List.getD_cons_zero,List.getD_cons_succ,List.length_take,List.length_drop];omega)|2,_=>(simp only [List.getD_cons_zero,List.getD_cons_succ,List.length_take,List.length_drop];omega))) Z Z Z Z Z c9 jK (fun ⟨z,a1⟩=>(H::A::B::D::F::((vo D0 71 z y0)++(G++([]))))) (fun ⟨z,a1⟩=>I8 [vo D0 71 z y0,[H],[A],[B],[D],[F],G] [1,2,3,4,5,0,6] 7 Z ozw opv [[H],[A],[B],[D],[F],vo D0 71 z y0,G] Z opv)) fun ⟨z,a1⟩=>?_
  have ax:=B1m ([((g.getD (((l.getD e ZY).row).toNat) []).take (((l.getD e ZY).frm).toNat)),(((bR.getD (((l.getD e ZY).row).toNat) []).drop (((l.getD e ZY).frm).toNat)).take ((((l.getD e ZY).tt).toNat) - (((l.getD e ZY).frm).toNat))),((g.getD (((l.getD e ZY).row).toNat) []).drop (((l.getD e ZY).tt).toNat))]:jj);rw [aw] at ax
  refine gl 25 [0,1,2,3,4,5] Z (Z5 B0s Z Z Z (((l.getD e ZY).row).toNat) opx (by have:=j.1;omega)) ?_
  have:=bT.lc a1
  refine gS [_,_,_,_,_] _ [0,1,2,3,4,5] a1 opv ?_
  have ao:B4 (f.set (((l.getD e ZY).row).toNat) (⟨va z.q,y0.length,z.k⟩:Slc)) (g.set (((l.getD e ZY).row).toNat) y0):=B4.set j (((l.getD e ZY).row).toNat) ⟨rfl,okl,okl⟩
  refine C9w (E5r (((l.getD e ZY).row).toNat) (r:=⟨va z.q,y0.length,z.k⟩) (A5 16 Z) (A5 0 Z)) ?_
  refine go 26 [0,1,2,3,4] Z (A8t (us:=[.slice (va z.q) y0.length z.k]) (u':=(⟨va z.q,y0.length,z.k⟩:Slc)) (c:=F0) (sz:=1) B5c jJ Z Z Z 5 Z Z Z Z (((l.getD e ZY).row).toNat) 0 Z (gd jY (by have:=j.1;omega)) Z Z) fun _=>?_
  refine gdn ?_
  refine nx (A0 2 Z (ix Z B1 (bP 1 27 Z (A1 ?_))))
  exact z0 (e+1,g.set (((l.getD e ZY).row).toNat) y0,(⟨some b27,y,w⟩:VR),(f.set (((l.getD e ZY).row).toNat) (⟨va z.q,y0.length,z.k⟩:Slc))) ⟨opx,hR,(bT.cast s oom),ao,(by simp only [List.length_set];omega),(by exact E1v b8 (by rw [ax];simp only [List.flatten_cons,List.flatten_nil,List.length_append,List.length_take,List.length_drop,List.length_nil];omega))⟩
 have ae:=bV af
 rw [A1b ae] at hR;rw[X6]at hR
 refine F1 (nx (bS Z (zrg 3 0 [0,1] [(7,iv 0)] (bx b5 (C9 a ⟨va p.q,g.length,p.k⟩) 26::bx b3 (C9 a ⟨va p.q,g.length,p.k⟩) 26::D::F::((vo F0 68 p f)++([]))) ?_)))
 subst hR
 refine ie (A8 ?_)
 exact cc (Y4 Z (E8 C6z Z 1) A6) ⟨(p,f),⟨s,j⟩⟩
end
end Go.Proofs.YtmldjljkeigpnaaGreatDoor
namespace Go.Proofs.YtmldjljkeigpnaaGreatDoor
open Go Go.Fen
section
variable {a:FrmC} {aK:Nat} {aQ:kQ} {aR:jj} {aZ:List Slc} {b:FrmC} {bK:Nat} {bQ:kQ} {bR:jj} {bZ:List Slc}
theorem D3l:Ty Tryz.prog 29 3 true:=⟨by rfl⟩
def A7t (a:FrmC) (aR:jj) (b:FrmC) (bR:jj):FrmC×jj×Int :=
 (bif (!decide ((K4 a aR b bR)=0)) then (Za,([]:jj),(K4 a aR b bR)) else (B5 (P1 aR) fun (c:jj)=>(a,c,0)))
theorem C7g (a:FrmC) (aR:jj) (b:FrmC) (bR:jj):(A7t a aR b bR).1.title.length≤a.title.length:=by
 unfold A7t
 cases (!decide (K4 a aR b bR=0)) with
 | true=>exact Nat.zero_le _
 | false=>simp
theorem D4u {R:FrmC×jj×Int} (hR:A7t a aR b bR=R) (d:B4 aZ aR:=by exact bW) (s:aR.length≤9223372036854775807:=by exact bW) (p:aR.length≤aK:=by exact bW) (e:B4 bZ bR:=by exact bW) (o:bR.length≤9223372036854775807:=by exact bW) (v:bR.length≤bK:=by exact bW) (hT:a.title.length≤100000000:=by exact bW) (a1:b.title.length≤100000000:=by exact bW):cM Tryz.prog 18 [ag (C9 a ⟨aQ,aR.length,aK⟩),ag (C9 b ⟨bQ,bR.length,bK⟩),.slice none 0 0] [] [sl F0 aQ aZ,D8 D0 aZ aR,sl F0 bQ bZ,D8 D0 bZ bR,A1o,A1p] ({t:VR×List Slc // bT 1 R.2.1.length t.1∧B4 t.2 R.2.1}) (fun x=>.tuple #[ag (C9 R.1 ⟨va x.1.1.q,R.2.1.length,x.1.1.k⟩),iv R.2.2]) (fun x=>((vo F0 68 x.1.1 x.1.2)++([]))) (fun x=>[D8 D0 x.1.2 R.2.1]):=by
 refine cD Tryz.func18 fun X hX hr hD=>?_
 rw[A7t]at hR
 have:=d.1
 have:=e.1
 refine k_ ?_
 refine D8c 4 0 [] (fun m r j=>[(3,pt m 0),(4,pt r 0),(6,pt j 0)]) (fun m r j=>[bx j (C9 Za ⟨none,0,0⟩) 26,bx r (C9 b ⟨bQ,bR.length,bK⟩) 26,bx m (C9 a ⟨aQ,aR.length,aK⟩) 26]) (fun m r j=>(ie (A3 (bS Z (bY 2 2 [2,1] [(13,ag (C9 a _)),(14,ag _)] (zv Z (B4a Z d bW bW e) (bP 1 8 Z (ie (bS Z (bP 2 17 Z (ie ?_)))))))))))
 refine zjn Z hR ?_ ?_<;>intro hR h4 a3
 ·refine k_ ?_
  refine zru 4 [0] [(7,iv (K4 a aR b bR))] 0 (bx j (C9 Za ⟨none,0,0⟩) 26) ?_
  subst hR
  refine ie (A8 ?_)
  exact cc (Y4 Z (E8 C6z Z 0) A6) ⟨(_,_),⟨bT.nil,B4.none⟩⟩
 have f:=A1x (by simpa using h4)
 have z:=f.1.2.2.2.2
 have a4:=f.2.1.2.2.2.2
 have a5:=f.2.2
 refine k_ ?_
 refine cI 3 [2,0] (fun w=>[(9,pt w 0)]) (fun _=>(C9 a ⟨aQ,aR.length,aK⟩)) 26 fun w=>?_
 refine ie ?_
 refine k_ ?_
 obtain ⟨y,u,hR⟩:=C3 hR
 refine zc Z (A5v u d) fun ⟨⟨g,l⟩,h⟩=>?_
 let A:=bx w (C9 a ⟨va g.q,y.length,g.k⟩) 26
 try dsimp only at h
 obtain ⟨i,n⟩:=h
 have:=bT.lc i
 have:=n.1
 have c:=A5g aR;rw [u] at c;have:=congrArg List.length c;try simp only [List.length_take,List.length_drop] at this
 refine zru 2 [0] [] 0 A ?_
 refine ie ?_
 refine k_ ?_
 refine ie (A9 (A1g 2 ?_))
 refine k_ ?_
 refine ie ?_
 refine k_ ?_
 refine zrg 3 0 [0,1] [(7,iv 0)] (A::bx j (C9 a ⟨va g.q,y.length,g.k⟩) 26::bx r (C9 b ⟨bQ,bR.length,bK⟩) 26::bx m (C9 a ⟨aQ,aR.length,aK⟩) 26::((vo F0 68 g l)++([]))) ?_
 subst hR
 refine k_ ?_
 exact cc (Y4 Z (E8 (us:=C9 a ⟨va g.q,y.length,g.k⟩) C6z Z 1) A6) ⟨(g,l),⟨i,n⟩⟩
structure HndC where
 cur:Cur
 cols:Int
 rows:Int
 style:Sty
deriving DecidableEq
def HndC.zero:HndC:=⟨ZS,0,0,ZJ⟩
def A2i (x:HndC) (l:Slc):List Value:=F5 x.cur++([.int .i64 x.cols,.int .i64 x.rows]++(B7 x.style++([.slice l.q l.n l.k])))
structure Sad where
 differs:Bool
 does:Act
deriving DecidableEq
def B3h (x:Sad):List Value:=[.bool x.differs]++(A2 x.does)
def Sad.zero:Sad:=⟨false,ZZ⟩
theorem B3h.inj (x y:Sad) (h:B3h x=B3h y):x=y:=by
 rcases x with ⟨_,⟨_,_,_,⟨_,_⟩,_⟩⟩
 simp_all[A2,R1,B3h]
def A3v (a:FrmC) (aR:jj) (b:FrmC) (bR:jj) (c:Cur):Bool×HndC×Int :=
 (B5 (A7t a aR b bR) fun (d:FrmC×jj×Int)=>(bif (!decide (d.2.2=0)) then (false,HndC.zero,d.2.2) else (B5 (A3h a.cols (aR.length:Int) c Plc.zero) fun (e:jz×Int)=>(bif (!decide (e.2=0)) then (false,HndC.zero,2) else (true,{HndC.zero with cur:=c,cols:=a.cols,rows:=(aR.length:Int)},0)))))
theorem B6a (a:FrmC) (aR:jj) (b:FrmC) (bR:jj) (c:Cur):(A3v a aR b bR c).1=decide ((A3v a aR b bR c).2.2=0):=by unfold A3v B5;grind
theorem C1v {c:Cur} {R:Bool×HndC×Int} (hR:A3v a aR b bR c=R) (e:B4 aZ aR:=by exact bW) (t:aR.length≤9223372036854775807:=by exact bW) (n:aR.length≤aK:=by exact bW) (d:B4 bZ bR:=by exact bW) (m:bR.length≤9223372036854775807:=by exact bW) (u:bR.length≤bK:=by exact bW) (hT:a.title.length≤100000000:=by exact bW) (a7:b.title.length≤100000000:=by exact bW):cM Tryz.prog 17 [ag (C9 a ⟨aQ,aR.length,aK⟩),ag (C9 b ⟨bQ,bR.length,bK⟩),ag (F5 c)] [] [sl F0 aQ aZ,D8 D0 aZ aR,sl F0 bQ bZ,D8 D0 bZ bR,A1o,A1p,M1,P0] ({q:Option Nat // q.isSome=R.1}) (fun x=>.tuple #[pv x.1,iv R.2.2]) (fun x=>((po (A2i R.2.1 ⟨none,0,0⟩) 65 x.1)++([]))) (fun x=>[]):=by
 refine cD Tryz.func17 fun X hX hr hD=>?_
 rw[A3v]at hR
 refine k_ ?_
 refine D8c 5 0 [] (fun w z y=>[(3,pt w 0),(4,pt z 0),(5,pt y 0)]) (fun w z y=>[bx y (F5 c) 29,bx z (C9 b ⟨bQ,bR.length,bK⟩) 26,bx w (C9 a ⟨aQ,aR.length,aK⟩) 26]) (fun w z y=>(ie (A3 (bS Z (bY 2 7 [2,1] [(14,ag (C9 a ⟨aQ,aR.length,aK⟩)),(15,ag (C9 b ⟨bQ,bR.length,bK⟩))] ?_)))))
 obtain ⟨y1,l,hR⟩:=C3 hR
 refine zc Z (D4u l e bW bW d) fun ⟨⟨r4,aa⟩,j⟩=>?_
 try dsimp only at j
 obtain ⟨s,a3⟩:=j
 have:=C7g a aR b bR;try rw [l] at this
 refine cI 6 [0] (fun b9=>[(9,iv y1.2.2)]) (fun _=>(C9 y1.1 ⟨va r4.q,y1.2.1.length,r4.k⟩)) 26 fun b9=>?_
 refine k_ ?_
 refine ie (G3 Z (fun g=>?_) (fun g=>?_))
 ·have o:=bV g
  replace hR:=bt hR g
  refine k_ ?_
  subst hR
  refine ie (A8 ?_)
  exact cC hr hD (Y4 Z A6 A6) ⟨none,rfl⟩ (List.nil_sublist _) bX
 replace hR:=bf hR g
 refine k_ ?_
 refine cI 10 [1,3,3] (fun h=>[(10,pt h 0)]) (fun _=>(A2i ({HndC.zero with cur:=c,cols:=a.cols,rows:=aR.length}) ⟨none,0,0⟩)) 65 fun h=>?_
 refine ie (A3 ?_)
 refine zS [(16,[0]),(16,[1]),(16,[2]),(16,[3]),(16,[4]),(16,[5])] ?_
 refine hq2 [0,1,2,4,5,6] 34 38 Z ?_
 refine gl 3 [0,1,2,3,4,5] Z (B8 (v:=iv a.cols) cE Z Z 0) ?_
 refine gl 7 [0,1,2,3,4,5] Z (B8 (v:=iv aR.length) cE Z Z 0) ?_
 refine gl 8 [0,1,2,3,4,5] Z (G6 (us:=F5 c) D3l Z Z 2) ?_
 refine gk 9 Z (A2h (cs:=A0n Plc.zero) Z Z oki) ?_
 obtain ⟨y2,i,hR⟩:=C3 hR
 refine gc 10 [0,1,2,3,4,5] Z (C6e i) fun ⟨⟨a9,ab⟩,r⟩=>?_
 obtain ⟨a5,a6⟩:=r
 have a0:=E2o i
 have:=a0.1;try rw [i] at this
 refine hq1 [11,12,13,14,15] 12 Z ?_
 refine ge ?_
 refine k_ ?_
 refine ie (G3 Z (fun f=>?_) (fun f=>?_))
 ·have p:=bV f
  replace hR:=bt hR f
  refine k_ ?_
  subst hR
  refine ie (A8 ?_)
  exact cC hr hD (Y4 Z A6 A6) ⟨none,rfl⟩ (List.nil_sublist _) bX
 replace hR:=bf hR f
 refine k_ ?_
 subst hR
 refine ie (A8 ?_)
 exact cy ⟨some h,rfl⟩
end
end Go.Proofs.YtmldjljkeigpnaaGreatDoor
namespace Go.Proofs.YtmldjljkeigpnaaGreatDoor
section
open Go Go.Fen open Tryz (prog)
variable {R:jz×HndC×Int} {a:FrmC} {aK:Nat} {aQ:kQ} {aR:jj} {aZ:List Slc} {b:FrmC} {bK:Nat} {bQ:kQ} {bR:jj} {bZ:List Slc} {h:HndC} {hL:jz} {hLr:VR} {hb:Nat} {p:Prop}
theorem C7b:EqT prog 130 B3h:=EqT.of 20 Z oki oki (fun _ _=>by kernel_rfl) B3h.inj
theorem G5v:Ty prog 24 2 true:=⟨by rfl⟩
theorem D5r:Ty prog 130 7 true:=⟨by rfl⟩
def O5 (h:HndC) (hL:jz) (l:jz):jz :=
 (hL++l)
theorem M6 (h:HndC) (hL l:jz):(O5 h hL l).length=hL.length+l.length:=List.length_append
theorem V0 {l:jz} {lq:kQ} {lk:Nat} {R:jz} (hR:O5 h hL l=R) (a:bT 6 hL.length hLr:=by exact bW) (d:l.length≤9223372036854775807:=by exact bW) (e:l.length≤lk:=by exact bW) (g:hL.length+l.length≤1000000000000:=by exact bW):cM prog 28 [pt hb 0,.slice lq l.length lk] (bx hb (A2i h ⟨va hLr.q,hL.length,hLr.k⟩) 65::((vo A2 51 hLr hL)++([]))) [sl A2 lq l] ({r:VR // bT 6 R.length r}) (fun x=>.tuple #[]) (fun x=>(bx hb (A2i h ⟨va x.1.q,R.length,x.1.k⟩) 65::((vo A2 51 x.1 R)++([])))) (fun x=>[]):=by
 refine cD Tryz.func28 fun X hX hr hD=>?_
 rw[O5]at hR
 refine k_ ?_
 refine it Z (Y6 (f:=A2) (r:=hLr) (xs:=hL) (ys:=l) (pre:=[bx hb (A2i h ⟨va hLr.q,hL.length,hLr.k⟩) 65]) (post:=[]) A0c jJ jJ Z Z Z Z Z Z Z Z (A5 0 Z) a ofv ofv) fun ⟨c,b⟩=>(zru 3 [0] [] 0 (bx hb (A2i h ⟨va c.q,(hL++l).length,c.k⟩) 65) ?_)
 subst hR
 exact A1 (zen hr hD (B3x Z) ⟨c,b⟩ bU bX)
def Q0 (h:HndC) (hL:jz) (to_:Plc):jz×HndC×Int :=
 (B5 (A3h h.cols h.rows h.cur to_) fun (a:jz×Int)=>(B5 (O5 h hL a.1) fun (b:jz)=>(bif (decide (a.2=0)) then (b,{h with cur:={ZS with row:=to_.row,col:=to_.col}},a.2) else (b,h,a.2))))
theorem S9 (h:HndC) (hL:jz) (to_:Plc):(Q0 h hL to_).1.length≤hL.length+100:=by
 unfold Q0 O5 B5
 have:=(E2o (rfl:A3h h.cols h.rows h.cur to_=_)).1
 grind
theorem oxw (h:p:=by first|omega|assumption|(simp +zetaDelta only [List.length_nil,List.length_cons];omega)|(simp +zetaDelta only [List.length_nil,List.length_cons] at *;omega)):p:=h
theorem A0a {to_:Plc} (hR:Q0 h hL to_=R) (a:bT 6 hL.length hLr:=by exact bW) (w:hL.length≤900000000000:=by exact bW):cM prog 54 [pt hb 0,ag (A0n to_)] (bx hb (A2i h ⟨va hLr.q,hL.length,hLr.k⟩) 65::((vo A2 51 hLr hL)++([]))) [A1o,A1p,M1,P0] ({r:VR // bT 6 R.1.length r}) (fun x=>iv R.2.2) (fun x=>(bx hb (A2i R.2.1 ⟨va x.1.q,R.1.length,x.1.k⟩) 65::((vo A2 51 x.1 R.1)++([])))) (fun x=>[]):=by
 refine cD Tryz.func54 fun X hX hr hD=>?_
 rw[Q0]at hR
 refine k_ ?_
 refine cI 2 [] (fun g=>[(3,pt g 0)]) (fun _=>(A0n to_)) 24 fun g=>?_
 refine ie (zS [(20,[0]),(20,[1]),(20,[2])] ?_)
 refine hq3 [0,1,2,4,5,6,8,9,10,11] 11 15 20 Z ?_
 refine gl 3 [0,1,2] Z (B8 (v:=iv _) cE Z Z 1) ?_
 refine gl 7 [0,1,2] Z (B8 (v:=iv _) cE Z Z 1) ?_
 refine gl 12 [0,1,2] Z (G6 (us:=F5 _) D3l Z Z 1) ?_
 refine gl 13 [0,1,2] Z (G6 (us:=A0n _) G5v Z Z 0) ?_
 obtain ⟨o,c,hR⟩:=C3 hR
 refine gc 14 [0,1,2] Z (C6e c) fun ⟨⟨u,t⟩,l⟩=>?_
 obtain ⟨s,p⟩:=l
 have i:=E2o c
 have:=i.1;try rw [c] at this
 refine hq2 [15,16,17,18,19] 5 6 Z ?_
 refine ge ?_
 refine kc_ ?_
 refine ip' 3 0 [(7,.func (.func 28) #[pt hb 0] #[])] ?_
 refine kc_ ?_
 refine ip' 2 1 [(28,.func (.func 28) #[pt hb 0] #[]),(29,.slice u o.1.length t)] ?_
 obtain ⟨n,f,hR⟩:=C3 hR
 refine zc Z (V0 f a bW bW oxw) fun ⟨e,b⟩=>?_
 have:=M6 h hL o.1;try rw [f] at this
 refine k_ ?_
 refine ie (G3 Z (fun d=>?_) (fun d=>?_))
 ·have m:=bV d
  replace hR:=bt hR d
  refine A0 _ Z (zrg _ 0 [1,1,0] [] (bx hb (A2i ({h with cur:={ZS with row:=to_.row,col:=to_.col}}) ⟨va e.q,n.length,e.k⟩) 65::bx g (A0n to_) 24::((vo A2 51 e n)++([]))) (A1 (nx (bS Z (bP 2 4 Z ?_)))))
  subst hR
  exact ie (A8 (ci ⟨e,b⟩))
 replace hR:=bf hR d
 refine k_ ?_
 subst hR
 exact ie (A8 (ci _))
def A8x (h:HndC) (hL:jz) (a:FrmC) (b:FrmC) (c:Act):jz×HndC×Int :=
 (bif (!(decide ((⟨(!(decide (a.title=b.title))),({ZZ with kind:=44,text:=b.title})⟩:Sad)={Sad.zero with does:=({ZZ with kind:=44,text:=b.title})}))) then (B5 (O5 h hL ([({ZZ with kind:=44,text:=b.title})]:jz)) fun (o:jz)=>(bif (!(decide ((⟨(!decide (a.shape=b.shape)),({ZZ with kind:=40,n:=b.shape})⟩:Sad)={Sad.zero with does:=({ZZ with kind:=40,n:=b.shape})}))) then (B5 (O5 h o ([({ZZ with kind:=40,n:=b.shape})]:jz)) fun (s:jz)=>(bif (!(decide ((⟨(!(a.visible == b.visible)),c⟩:Sad)={Sad.zero with does:=c}))) then (B5 (O5 h s ([c]:jz)) fun (k:jz)=>(B5 (Q0 h k b.cursor) fun (m:jz×HndC×Int)=>(m.1,m.2.1,m.2.2))) else (B5 (Q0 h s b.cursor) fun (f:jz×HndC×Int)=>(f.1,f.2.1,f.2.2)))) else (bif (!(decide ((⟨(!(a.visible == b.visible)),c⟩:Sad)={Sad.zero with does:=c}))) then (B5 (O5 h o ([c]:jz)) fun (j:jz)=>(B5 (Q0 h j b.cursor) fun (l:jz×HndC×Int)=>(l.1,l.2.1,l.2.2))) else (B5 (Q0 h o b.cursor) fun (g:jz×HndC×Int)=>(g.1,g.2.1,g.2.2))))) else (bif (!(decide ((⟨(!decide (a.shape=b.shape)),({ZZ with kind:=40,n:=b.shape})⟩:Sad)={Sad.zero with does:=({ZZ with kind:=40,n:=b.shape})}))) then (B5 (O5 h hL ([({ZZ with kind:=40,n:=b.shape})]:jz)) fun (t:jz)=>(bif (!(decide ((⟨(!(a.visible == b.visible)),c⟩:Sad)={Sad.zero with does:=c}))) then (B5 (O5 h t ([c]:jz)) fun (p:jz)=>(B5 (Q0 h p b.cursor) fun (r:jz×HndC×Int)=>(r.1,r.2.1,r.2.2))) else (B5 (Q0 h t b.cursor) fun (d:jz×HndC×Int)=>(d.1,d.2.1,d.2.2)))) else (bif (!(decide ((⟨(!(a.visible == b.visible)),c⟩:Sad)={Sad.zero with does:=c}))) then (B5 (O5 h hL ([c]:jz)) fun (q:jz)=>(B5 (Q0 h q b.cursor) fun (e:jz×HndC×Int)=>(e.1,e.2.1,e.2.2))) else (B5 (Q0 h hL b.cursor) fun (i:jz×HndC×Int)=>(i.1,i.2.1,i.2.2)))))
def B3e (h:HndC) (hL:jz) (a:FrmC) (aR:jj) (b:FrmC) (bR:jj):jz×HndC×Int :=
 (bif b.visible then A8x h hL a b ({ZZ with kind:=37,n:=25,m:=1}) else A8x h hL a b ({ZZ with kind:=37,n:=25}))
theorem C0p (hR:B3e h hL a aR b bR=R) (e:bT 6 hL.length hLr:=by exact bW) (g:B4 aZ aR:=by exact bW) (bd:aR.length≤9223372036854775807:=by exact bW) (aw:aR.length≤aK:=by exact bW) (i:B4 bZ bR:=by exact bW) (av:bR.length≤9223372036854775807:=by exact bW) (bi:bR.length≤bK:=by exact bW) (hn:hL.length≤800000000000:=by exact bW):cM prog 29 [pt hb 0,ag (C9 a ⟨aQ,aR.length,aK⟩),ag (C9 b ⟨bQ,bR.length,bK⟩)] (bx hb (A2i h ⟨va hLr.q,hL.length,hLr.k⟩) 65::((vo A2 51 hLr hL)++([]))) [sl F0 aQ aZ,D8 D0 aZ aR,sl F0 bQ bZ,D8 D0 bZ bR,A1o,A1p,M1,P0] ({r:VR // bT 6 R.1.length r}) (fun x=>iv R.2.2) (fun x=>(bx hb (A2i R.2.1 ⟨va x.1.q,R.1.length,x.1.k⟩) 65::((vo A2 51 x.1 R.1)++([])))) (fun x=>[]):=by
 refine cD Tryz.func29 fun X hX hr hD=>?_
 rw[B3e]at hR
 refine bS Z (B3r 3 [] (fun b1 b2=>[(4,pt b1 0),(5,pt b2 0)]) (fun _ _=>(C9 a ⟨aQ,aR.length,aK⟩)) (fun _ _=>(C9 b ⟨bQ,bR.length,bK⟩)) 26 26 fun b1 b2=>(ie (bS Z (cI 3 [0] (fun b3=>[(7,pt b3 0)]) (fun _=>(A2 ({ZZ with kind:=37,n:=25}))) 51 fun b3=>?_))))
 refine ie (A7i (fun d=>(A8x h hL a b d=R,[(0,pt hb 0),(4,pt b1 0),(5,pt b2 0),(7,pt b3 0)],(bx b3 (A2 d) 51::bx b2 (C9 b ⟨bQ,bR.length,bK⟩) 26::bx b1 (C9 a ⟨aQ,aR.length,aK⟩) 26::bx hb (A2i h ⟨va hLr.q,hL.length,hLr.k⟩) 65::((vo A2 51 hLr hL)++([]))),[sl F0 aQ aZ,D8 D0 aZ aR,sl F0 bQ bZ,D8 D0 bZ bR,A1o,A1p,M1,P0])) ?_ ?_)
 ·refine bS Z (cB 2 [1] 12 Z (ie (G3 Z (fun h4=>?_) (fun h4=>?_))))
  ·replace hR:=bt hR h4
   refine A0 2 Z (zru 2 [0] [] 0 (bx b3 (A2 ({ZZ with kind:=37,n:=25,m:=1})) 51) (A1 ?_))
   exact S6 _ hR bU A7.refl
  replace hR:=bf hR h4
  exact A4 (S6 _ hR bU A7.refl)
 intro d
 rintro hR
 rw[A8x]at hR
 refine A3 (bS Z (pl2 4 [2,1] 15 17 Z (ix Z (B2u Z Z Z) (bY 17 5 [1,2,1,1,2,1] [(22,ag (B3h ⟨(!(decide (a.title=b.title))),{ZZ with kind:=44,text:=b.title}⟩)),(31,ag (B3h ⟨(!decide (a.shape=b.shape)),{ZZ with kind:=40,n:=b.shape}⟩)),(33,bv a.visible),(35,bv b.visible)] (ix Z (E2y Tryz.underlying4 Z Z Z) (bY 4 0 [0] [(39,ag [bv (!(decide (a.title=b.title))),iv (({ZZ with kind:=44,text:=b.title}).kind),iv (({ZZ with kind:=44,text:=b.title}).n),iv (({ZZ with kind:=44,text:=b.title}).m),iv ((({ZZ with kind:=44,text:=b.title}).color).kind),iv ((({ZZ with kind:=44,text:=b.title}).color).n),sv (({ZZ with kind:=44,text:=b.title}).text),bv (!decide (a.shape=b.shape)),iv (({ZZ with kind:=40,n:=b.shape}).kind),iv (({ZZ with kind:=40,n:=b.shape}).n),iv (({ZZ with kind:=40,n:=b.shape}).m),iv ((({ZZ with kind:=40,n:=b.shape}).color).kind),iv ((({ZZ with kind:=40,n:=b.shape}).color).n),sv (({ZZ with kind:=40,n:=b.shape}).text),bv (!(a.visible == b.visible)),iv d.kind,iv d.n,iv d.m,iv d.color.kind,iv d.color.n,sv d.text]),(40,iv 0)] (ie (A9 (A1g 5 ?_)))))))))
 refine E9 (bS Z (bP 1 41 Z (ie (A3 (K1 Z (A4 (nx (A3 (A9 (bS Z (ix Z (F3 (v:=ag [_,_,_,_,_,_,_]) Tryz.underlying131 D5r Z Z Z 0) (cI 2 [0] (fun b5=>[(9,pt b5 0)]) (fun _=>(B3h ⟨(!(decide (a.title=b.title))),({ZZ with kind:=44,text:=b.title})⟩)) 130 fun b5=>?_))))))))))))
 refine ie (bS Z (bY 4 1 [0,0] [(43,ag _),(46,ag _)] (ix Z (A0f (a:=⟨(!(decide (a.title=b.title))),({ZZ with kind:=44,text:=b.title})⟩) (b:={Sad.zero with does:=({ZZ with kind:=44,text:=b.title})}) C7b Z Z Z) ?_)))
 refine ie (G3 Z (fun h6=>?_) (fun h6=>?_))
 ·have bn:=bV h6
  replace hR:=bt hR h6
  refine A0 5 Z (bY 3 2 [0] [(48,pt hb 0),(50,ag (A2 ({ZZ with kind:=44,text:=b.title})))] (it Z (B0 (c:=A2) (xs:=[({ZZ with kind:=44,text:=b.title})]) N3 Z Z Z oki) fun b7=>?_))
  have:([({ZZ with kind:=44,text:=b.title})]:jz).length=1:=rfl
  obtain ⟨y0,b6,hR⟩:=C3 hR
  refine zc Z (V0 (h:=h) (hL:=hL) (l:=([({ZZ with kind:=44,text:=b.title})]:jz)) (hb:=hb) (hLr:=hLr) (lq:=(some ⟨b7,0,none⟩)) (lk:=1) b6 e bW bW oxw) fun ⟨r8,a6⟩=>?_
  have:=M6 h hL ([({ZZ with kind:=44,text:=b.title})]:jz);try rw [b6] at this
  refine A1 (nx (A0 2 Z (ix Z (B1 (c:=1)) (bP 1 40 Z (A1 (E9 (bS Z (bP 1 41 Z (ie (A3 (K1 Z (A4 (nx (A3 (A9 (bS Z (ix Z (F3 (v:=ag [_,_,_,_,_,_,_]) Tryz.underlying131 D5r Z Z Z 1) (cI 2 [0] (fun aq=>[(9,pt aq 0)]) (fun _=>(B3h ⟨(!decide (a.shape=b.shape)),({ZZ with kind:=40,n:=b.shape})⟩)) 130 fun aq=>?_))))))))))))))))))
  refine ie (bS Z (bY 4 1 [0,0] [(43,ag _),(46,ag _)] (ix Z (A0f (a:=⟨(!decide (a.shape=b.shape)),({ZZ with kind:=40,n:=b.shape})⟩) (b:={Sad.zero with does:=({ZZ with kind:=40,n:=b.shape})}) C7b Z Z Z) ?_)))
  refine ie (G3 Z (fun a9=>?_) (fun a9=>?_))
  ·have ao:=bV a9
   replace hR:=bt hR a9
   refine A0 5 Z (bY 3 2 [0] [(48,pt hb 0),(50,ag (A2 ({ZZ with kind:=40,n:=b.shape})))] (it Z (B0 (c:=A2) (xs:=[({ZZ with kind:=40,n:=b.shape})]) N3 Z Z Z oki) fun ce=>?_))
   have:([({ZZ with kind:=40,n:=b.shape})]:jz).length=1:=rfl
   obtain ⟨y4,au,hR⟩:=C3 hR
   refine zc Z (V0 (h:=h) (hL:=y0) (l:=([({ZZ with kind:=40,n:=b.shape})]:jz)) (hb:=hb) (hLr:=r8) (lq:=(some ⟨ce,0,none⟩)) (lk:=1) au a6 bW bW oxw) fun ⟨bz,o⟩=>?_
   have:=M6 h y0 ([({ZZ with kind:=40,n:=b.shape})]:jz);try rw [au] at this
   refine A1 (nx (A0 2 Z (ix Z (B1 (c:=2)) (bP 1 40 Z (A1 (E9 (bS Z (bP 1 41 Z (ie (A3 (K1 Z (A4 (nx (A3 (A9 (bS Z (ix Z (F3 (v:=ag [_,_,_,_,_,_,_]) Tryz.underlying131 D5r Z Z Z 2) (cI 2 [0] (fun bg=>[(9,pt bg 0)]) (fun _=>(B3h ⟨(!(a.visible == b.visible)),d⟩)) 130 fun bg=>?_))))))))))))))))))
   refine ie (bS Z (bY 4 1 [0,0] [(43,ag _),(46,ag _)] (ix Z (A0f (a:=⟨(!(a.visible == b.visible)),d⟩) (b:={Sad.zero with does:=d}) C7b Z Z Z) ?_)))
   refine ie (G3 Z (fun s=>?_) (fun s=>?_))
   ·have am:=bV s
    replace hR:=bt hR s
    refine A0 5 Z (bY 3 2 [0] [(48,pt hb 0),(50,ag (A2 d))] (it Z (B0 (c:=A2) (xs:=[d]) N3 Z Z Z oki) fun cd=>?_))
    have:([d]:jz).length=1:=rfl
    obtain ⟨c7,ai,hR⟩:=C3 hR
    refine zc Z (V0 (h:=h) (hL:=y4) (l:=([d]:jz)) (hb:=hb) (hLr:=bz) (lq:=(some ⟨cd,0,none⟩)) (lk:=1) ai o bW bW oxw) fun ⟨cn,a2⟩=>?_
    have:=M6 h y4 ([d]:jz);try rw [ai] at this
    refine A1 (nx (A0 2 Z (ix Z (B1 (c:=3)) (bP 1 40 Z (A1 (E9 (bS Z (bP 1 41 Z (ie (A3 (A5t Z (F1 (nx (bS Z (bY 3 2 [5] [(54,pt hb 0),(56,ag (A0n b.cursor))] ?_)))))))))))))))
    obtain ⟨y1,ap,hR⟩:=C3 hR
    refine zc Z (A0a ap a2 oxw) fun ⟨cb,w⟩=>?_
    have:=S9 h c7 b.cursor;try rw [ap] at this
    refine bP 1 6 Z ?_
    subst hR
    exact ie (A8 (ci _))
   replace hR:=bf hR s
   refine A4 (nx (A0 2 Z (ix Z (B1 (c:=3)) (bP 1 40 Z (A1 (E9 (bS Z (bP 1 41 Z (ie (A3 (A5t Z (F1 (nx (bS Z (bY 3 2 [5] [(54,pt hb 0),(56,ag (A0n b.cursor))] ?_)))))))))))))))
   obtain ⟨cm,af,hR⟩:=C3 hR
   refine zc Z (A0a af o oxw) fun ⟨cc,a7⟩=>?_
   have:=S9 h y4 b.cursor;try rw [af] at this
   refine bP 1 6 Z ?_
   subst hR
   exact ie (A8 (ci _))
  replace hR:=bf hR a9
  refine A4 (nx (A0 2 Z (ix Z (B1 (c:=2)) (bP 1 40 Z (A1 (E9 (bS Z (bP 1 41 Z (ie (A3 (K1 Z (A4 (nx (A3 (A9 (bS Z (ix Z (F3 (v:=ag [_,_,_,_,_,_,_]) Tryz.underlying131 D5r Z Z Z 2) (cI 2 [0] (fun al=>[(9,pt al 0)]) (fun _=>(B3h ⟨(!(a.visible == b.visible)),d⟩)) 130 fun al=>?_))))))))))))))))))
  refine ie (bS Z (bY 4 1 [0,0] [(43,ag _),(46,ag _)] (ix Z (A0f (a:=⟨(!(a.visible == b.visible)),d⟩) (b:={Sad.zero with does:=d}) C7b Z Z Z) ?_)))
  refine ie (G3 Z (fun a5=>?_) (fun a5=>?_))
  ·have bh:=bV a5
   replace hR:=bt hR a5
   refine A0 5 Z (bY 3 2 [0] [(48,pt hb 0),(50,ag (A2 d))] (it Z (B0 (c:=A2) (xs:=[d]) N3 Z Z Z oki) fun bm=>?_))
   have:([d]:jz).length=1:=rfl
   obtain ⟨c6,ac,hR⟩:=C3 hR
   refine zc Z (V0 (h:=h) (hL:=y0) (l:=([d]:jz)) (hb:=hb) (hLr:=r8) (lq:=(some ⟨bm,0,none⟩)) (lk:=1) ac a6 bW bW oxw) fun ⟨cj,t⟩=>?_
   have:=M6 h y0 ([d]:jz);try rw [ac] at this
   refine A1 (nx (A0 2 Z (ix Z (B1 (c:=3)) (bP 1 40 Z (A1 (E9 (bS Z (bP 1 41 Z (ie (A3 (A5t Z (F1 (nx (bS Z (bY 3 2 [5] [(54,pt hb 0),(56,ag (A0n b.cursor))] ?_)))))))))))))))
   obtain ⟨y9,bc,hR⟩:=C3 hR
   refine zc Z (A0a bc t oxw) fun ⟨c0,a4⟩=>?_
   have:=S9 h c6 b.cursor;try rw [bc] at this
   refine bP 1 6 Z ?_
   subst hR
   exact ie (A8 (ci _))
  replace hR:=bf hR a5
  refine A4 (nx (A0 2 Z (ix Z (B1 (c:=3)) (bP 1 40 Z (A1 (E9 (bS Z (bP 1 41 Z (ie (A3 (A5t Z (F1 (nx (bS Z (bY 3 2 [5] [(54,pt hb 0),(56,ag (A0n b.cursor))] ?_)))))))))))))))
  obtain ⟨y6,az,hR⟩:=C3 hR
  refine zc Z (A0a az a6 oxw) fun ⟨c3,a8⟩=>?_
  have:=S9 h y0 b.cursor;try rw [az] at this
  refine bP 1 6 Z ?_
  subst hR
  exact ie (A8 (ci _))
 replace hR:=bf hR h6
 refine A4 (nx (A0 2 Z (ix Z (B1 (c:=1)) (bP 1 40 Z (A1 (E9 (bS Z (bP 1 41 Z (ie (A3 (K1 Z (A4 (nx (A3 (A9 (bS Z (ix Z (F3 (v:=ag [_,_,_,_,_,_,_]) Tryz.underlying131 D5r Z Z Z 1) (cI 2 [0] (fun an=>[(9,pt an 0)]) (fun _=>(B3h ⟨(!decide (a.shape=b.shape)),({ZZ with kind:=40,n:=b.shape})⟩)) 130 fun an=>?_))))))))))))))))))
 refine ie (bS Z (bY 4 1 [0,0] [(43,ag _),(46,ag _)] (ix Z (A0f (a:=⟨(!decide (a.shape=b.shape)),({ZZ with kind:=40,n:=b.shape})⟩) (b:={Sad.zero with does:=({ZZ with kind:=40,n:=b.shape})}) C7b Z Z Z) ?_)))
 refine ie (G3 Z (fun a0=>?_) (fun a0=>?_))
 ·have b0:=bV a0
  replace hR:=bt hR a0
  refine A0 5 Z (bY 3 2 [0] [(48,pt hb 0),(50,ag (A2 ({ZZ with kind:=40,n:=b.shape})))] (it Z (B0 (c:=A2) (xs:=[({ZZ with kind:=40,n:=b.shape})]) N3 Z Z Z oki) fun c2=>?_))
  have:([({ZZ with kind:=40,n:=b.shape})]:jz).length=1:=rfl
  obtain ⟨y5,ax,hR⟩:=C3 hR
  refine zc Z (V0 (h:=h) (hL:=hL) (l:=([({ZZ with kind:=40,n:=b.shape})]:jz)) (hb:=hb) (hLr:=hLr) (lq:=(some ⟨c2,0,none⟩)) (lk:=1) ax e bW bW oxw) fun ⟨bl,j⟩=>?_
  have:=M6 h hL ([({ZZ with kind:=40,n:=b.shape})]:jz);try rw [ax] at this
  refine A1 (nx (A0 2 Z (ix Z (B1 (c:=2)) (bP 1 40 Z (A1 (E9 (bS Z (bP 1 41 Z (ie (A3 (K1 Z (A4 (nx (A3 (A9 (bS Z (ix Z (F3 (v:=ag [_,_,_,_,_,_,_]) Tryz.underlying131 D5r Z Z Z 2) (cI 2 [0] (fun ay=>[(9,pt ay 0)]) (fun _=>(B3h ⟨(!(a.visible == b.visible)),d⟩)) 130 fun ay=>?_))))))))))))))))))
  refine ie (bS Z (bY 4 1 [0,0] [(43,ag _),(46,ag _)] (ix Z (A0f (a:=⟨(!(a.visible == b.visible)),d⟩) (b:={Sad.zero with does:=d}) C7b Z Z Z) ?_)))
  refine ie (G3 Z (fun aa=>?_) (fun aa=>?_))
  ·have ba:=bV aa
   replace hR:=bt hR aa
   refine A0 5 Z (bY 3 2 [0] [(48,pt hb 0),(50,ag (A2 d))] (it Z (B0 (c:=A2) (xs:=[d]) N3 Z Z Z oki) fun ca=>?_))
   have:([d]:jz).length=1:=rfl
   obtain ⟨br,aj,hR⟩:=C3 hR
   refine zc Z (V0 (h:=h) (hL:=y5) (l:=([d]:jz)) (hb:=hb) (hLr:=bl) (lq:=(some ⟨ca,0,none⟩)) (lk:=1) aj j bW bW oxw) fun ⟨cp,ab⟩=>?_
   have:=M6 h y5 ([d]:jz);try rw [aj] at this
   refine A1 (nx (A0 2 Z (ix Z (B1 (c:=3)) (bP 1 40 Z (A1 (E9 (bS Z (bP 1 41 Z (ie (A3 (A5t Z (F1 (nx (bS Z (bY 3 2 [5] [(54,pt hb 0),(56,ag (A0n b.cursor))] ?_)))))))))))))))
   obtain ⟨y8,bb,hR⟩:=C3 hR
   refine zc Z (A0a bb ab oxw) fun ⟨cf,p⟩=>?_
   have:=S9 h br b.cursor;try rw [bb] at this
   refine bP 1 6 Z ?_
   subst hR
   exact ie (A8 (ci _))
  replace hR:=bf hR aa
  refine A4 (nx (A0 2 Z (ix Z (B1 (c:=3)) (bP 1 40 Z (A1 (E9 (bS Z (bP 1 41 Z (ie (A3 (A5t Z (F1 (nx (bS Z (bY 3 2 [5] [(54,pt hb 0),(56,ag (A0n b.cursor))] ?_)))))))))))))))
  obtain ⟨ci,ah,hR⟩:=C3 hR
  refine zc Z (A0a ah j oxw) fun ⟨bu,a1⟩=>?_
  have:=S9 h y5 b.cursor;try rw [ah] at this
  refine bP 1 6 Z ?_
  subst hR
  exact ie (A8 (cC hr hD (I9 Z (A6 Z)) _ bU bX))
 replace hR:=bf hR a0
 refine A4 (nx (A0 2 Z (ix Z (B1 (c:=2)) (bP 1 40 Z (A1 (E9 (bS Z (bP 1 41 Z (ie (A3 (K1 Z (A4 (nx (A3 (A9 (bS Z (ix Z (F3 (v:=ag [_,_,_,_,_,_,_]) Tryz.underlying131 D5r Z Z Z 2) (cI 2 [0] (fun b9=>[(9,pt b9 0)]) (fun _=>(B3h ⟨(!(a.visible == b.visible)),d⟩)) 130 fun b9=>?_))))))))))))))))))
 refine ie (bS Z (bY 4 1 [0,0] [(43,ag _),(46,ag _)] (ix Z (A0f (a:=⟨(!(a.visible == b.visible)),d⟩) (b:={Sad.zero with does:=d}) C7b Z Z Z) ?_)))
 refine ie (G3 Z (fun a3=>?_) (fun a3=>?_))
 ·have b8:=bV a3
  replace hR:=bt hR a3
  refine A0 5 Z (bY 3 2 [0] [(48,pt hb 0),(50,ag (A2 d))] (it Z (B0 (c:=A2) (xs:=[d]) N3 Z Z Z oki) fun c1=>?_))
  have:([d]:jz).length=1:=rfl
  obtain ⟨bw,ad,hR⟩:=C3 hR
  refine zc Z (V0 (h:=h) (hL:=hL) (l:=([d]:jz)) (hb:=hb) (hLr:=hLr) (lq:=(some ⟨c1,0,none⟩)) (lk:=1) ad e bW bW oxw) fun ⟨co,y⟩=>?_
  have:=M6 h hL ([d]:jz);try rw [ad] at this
  refine A1 (nx (A0 2 Z (ix Z (B1 (c:=3)) (bP 1 40 Z (A1 (E9 (bS Z (bP 1 41 Z (ie (A3 (A5t Z (F1 (nx (bS Z (bY 3 2 [5] [(54,pt hb 0),(56,ag (A0n b.cursor))] ?_)))))))))))))))
  obtain ⟨cl,ae,hR⟩:=C3 hR
  refine zc Z (A0a ae y oxw) fun ⟨bo,z⟩=>?_
  have:=S9 h bw b.cursor;try rw [ae] at this
  refine bP 1 6 Z ?_
  subst hR
  exact ie (A8 (ci _))
 replace hR:=bf hR a3
 refine A4 (nx (A0 2 Z (ix Z (B1 (c:=3)) (bP 1 40 Z (A1 (E9 (bS Z (bP 1 41 Z (ie (A3 (A5t Z (F1 (nx (bS Z (bY 3 2 [4] [(54,pt hb 0),(56,ag (A0n b.cursor))] ?_)))))))))))))))
 obtain ⟨y7,ak,hR⟩:=C3 hR
 refine zc Z (A0a ak e oxw) fun ⟨c5,u⟩=>?_
 have:=S9 h hL b.cursor;try rw [ak] at this
 refine bP 1 6 Z ?_
 subst hR
 exact ie (A8 (ci _))
def D1e (a:FrmC) (aR:jj) (b:FrmC) (bR:jj) (c:Cur):jz×Int :=
 (B5 (A3v a aR b bR c) fun (e:Bool×HndC×Int)=>(bif e.1 then (B5 (B3e e.2.1 ([]:jz) a aR b bR) fun (d:jz×HndC×Int)=>(bif (!decide (d.2.2=0)) then (([]:jz),d.2.2) else (d.1,0))) else (([]:jz),e.2.2)))
theorem opd (h:p:=by first|omega|assumption|(simp +zetaDelta only [List.length_nil];omega)):p:=h
theorem E6z {c:Cur} {R:jz×Int} (hR:D1e a aR b bR c=R) (f:B4 aZ aR:=by exact bW) (a2:aR.length≤9223372036854775807:=by exact bW) (a0:aR.length≤aK:=by exact bW) (e:B4 bZ bR:=by exact bW) (y:bR.length≤9223372036854775807:=by exact bW) (a4:bR.length≤bK:=by exact bW) (hT:a.title.length≤100000000:=by exact bW) (ac:b.title.length≤100000000:=by exact bW):cM prog 16 [ag (C9 a ⟨aQ,aR.length,aK⟩),ag (C9 b ⟨bQ,bR.length,bK⟩),ag (F5 c)] [] [sl F0 aQ aZ,D8 D0 aZ aR,sl F0 bQ bZ,D8 D0 bZ bR,A1o,A1p,M1,P0] ({r:VR // bT 6 R.1.length r}) (fun x=>.tuple #[.slice (va x.1.q) R.1.length x.1.k,iv R.2]) (fun x=>((vo A2 51 x.1 R.1)++([]))) (fun x=>[]):=by
 refine cD Tryz.func16 fun X hX hr hD=>?_
 rw[D1e]at hR
 refine k_ ?_
 refine D8c 5 0 [] (fun p t s=>[(3,pt p 0),(4,pt t 0),(5,pt s 0)]) (fun p t s=>[bx s (F5 c) 29,bx t (C9 b ⟨bQ,bR.length,bK⟩) 26,bx p (C9 a ⟨aQ,aR.length,aK⟩) 26]) (fun p t s=>(ie (bS Z (bY 3 6 [2,1,0] [(11,ag (C9 a ⟨aQ,aR.length,aK⟩)),(12,ag (C9 b ⟨bQ,bR.length,bK⟩)),(13,ag (F5 c))] ?_))))
 obtain ⟨y2,w,hR⟩:=C3 hR
 refine zc Z (C1v w f bW bW e bW bW opd opd) fun ⟨q4,l⟩=>?_
 have d:=B6a a aR b bR c;rw [w] at d
 rcases (Bool.eq_false_or_eq_true y2.1).symm with g | g
 ·replace hR:=bf hR g
  obtain rfl:=E3h l g
  have a9:=F6h d g
  refine B8g (L':=[_,_,_]) Z (D1i (v:=.tuple #[.pointer _,iv _]) 14 Z (cF 5 8 9 Z ?_))
  refine kc_ ?_
  refine k_ ?_
  refine ie (G3 Z (fun h8=>?_) (fun h8=>?_))
  ·have n:=bV h8
   exfalso;exact absurd n a9
  have n:=bV h8
  refine k_ ?_
  refine ie (G3 Z (fun h9=>?_) (fun h9=>?_))
  ·have a3:=bV h9
   refine k_ ?_
   subst hR
   refine ie (A8 ?_)
   exact cy ⟨_,bT.nil⟩
  have a3:=bV h9
  exfalso;exact absurd n a3
 ·replace hR:=bt hR g
  obtain ⟨m,rfl⟩:=E1w l g
  have z:=E9h d g
  refine B8g (L':=(bx s _ _::bx t _ _::bx p _ _::bx m (A2i _ ⟨va VR.nil.q,jZ.length,VR.nil.k⟩) _::((vo A2 51 VR.nil [])++([])))) Z (D1i (v:=.tuple #[pt m 0,iv _]) 14 Z (cF 5 8 9 Z ?_))
  refine kc_ ?_
  refine k_ ?_
  refine ie (G3 Z (fun o=>?_) (fun o=>?_))
  ·have j:=bV o
   refine kc_ ?_
   refine bY 3 2 [2,1] [(19,pt m 0),(20,ag (C9 a ⟨aQ,aR.length,aK⟩)),(21,ag (C9 b ⟨bQ,bR.length,bK⟩))] ?_
   obtain ⟨ab,a1,hR⟩:=C3 hR
   refine zc Z (C0p a1 bT.nil f bW bW e bW bW oxw) fun ⟨a8,i⟩=>?_
   refine k_ ?_
   refine ie (G3 Z (fun h=>?_) (fun h=>?_))
   ·have u:=bV h
    replace hR:=bt hR h
    refine k_ ?_
    subst hR
    refine ie (A8 ?_)
    exact cy ⟨_,bT.nil⟩
   replace hR:=bf hR h
   refine k_ ?_
   subst hR
   refine ie (A8 ?_)
   exact cy _
  have j:=bV o
  exfalso;exact absurd z j
end
section
open Go Go.Fen open Go.IntKind (i64)
variable {R:jz×HndC×Int} {a:FrmC} {aR:jj} {b:FrmC} {bR:jj} {h:HndC} {hL:jz} {hLr:VR} {hb:Nat} {l:List Sp3}
theorem F5q:Zero Tryz.prog 63 (B7 ZJ):=⟨by rfl⟩
def A2k (h:HndC) (hL:jz) (a:jk) (s:Sp3):jz×HndC×Int :=
 (B5 (Q0 h hL (⟨s.row,s.frm⟩:Plc)) fun (b:jz×HndC×Int)=>(bif (!decide (b.2.2=0)) then (b.1,b.2.1,b.2.2) else (bif (!decide ((D9 a s.frm s.tt b.2.1.style).2.2.2=0)) then (b.1,b.2.1,(D9 a s.frm s.tt b.2.1.style).2.2.2) else (B5 (O5 b.2.1 b.1 ((D9 a s.frm s.tt b.2.1.style).1)) fun (c:jz)=>(c,{b.2.1 with style:=(D9 a s.frm s.tt b.2.1.style).2.1,cur:=(⟨s.row,(if (i64.wrap (b.2.1.cols - (1:Int)))<(D9 a s.frm s.tt b.2.1.style).2.2.1 then (i64.wrap (b.2.1.cols - (1:Int))) else (D9 a s.frm s.tt b.2.1.style).2.2.1),(decide ((D9 a s.frm s.tt b.2.1.style).2.2.1=b.2.1.cols))⟩:Cur)},0)))))
theorem B6j (h:HndC) (hL:jz) (a:jk) (s:Sp3):(A2k h hL a s).1.length≤hL.length+40100:=by
 unfold A2k;simp only [B5]
 have b:=S9 h hL (⟨s.row,s.frm⟩:Plc)
 generalize Q0 h hL (⟨s.row,s.frm⟩:Plc)=g at b ⊢
 have c:=(C0c a s.frm s.tt g.2.1.style).2.1
 cases (!decide (g.2.2=0)) with
 | true=>grind
 | false =>
  simp only [cond_false]
  cases (!decide ((D9 a s.frm s.tt g.2.1.style).2.2.2=0)) with
  | true=>grind
  | false=>simp only [cond_false];grind[M6]
theorem C8i {a:jk} {s:Sp3} {t:kQ} {cellsk:Nat} (hR:A2k h hL a s=R) (p:bT 6 hL.length hLr:=by exact bW) (ab:a.length≤9223372036854775807:=by exact bW) (a3:a.length≤cellsk:=by exact bW) (hn:hL.length≤800000000000:=by exact bW):cM Tryz.prog 39 [pt hb 0,.slice t a.length cellsk,ag (H1 s)] (bx hb (A2i h ⟨va hLr.q,hL.length,hLr.k⟩) 65::((vo A2 51 hLr hL)++([]))) [sl D0 t a,A1o,A1p,M1,P0] ({r:VR // bT 6 R.1.length r}) (fun x=>iv R.2.2) (fun x=>(bx hb (A2i R.2.1 ⟨va x.1.q,R.1.length,x.1.k⟩) 65::((vo A2 51 x.1 R.1)++([])))) (fun x=>[]):=by
 refine cD Tryz.func39 fun X hX hr hD=>?_
 rw[A2k]at hR
 refine k_ ?_
 refine cI 2 [] (fun f=>[(5,pt f 0)]) (fun _=>(H1 s)) 37 fun f=>?_
 refine ie ?_
 refine kc_ ?_
 refine bY 6 2 [0,0] [(12,pt hb 0),(17,ag (A0n ⟨s.row,s.frm⟩))] ?_
 let D:=bx f (H1 s) 37
 obtain ⟨b,aa,hR⟩:=C3 hR
 refine zc Z (A0a aa p oxw) fun ⟨e,o⟩=>?_
 let G:=vo A2 51 e b.1
 let F:=[bx hb (A2i b.2.1 ⟨va e.q,b.1.length,e.k⟩) 65]
 have:=bT.le o
 have:=S9 h hL (⟨s.row,s.frm⟩:Plc);try rw [aa] at this
 refine k_ ?_
 refine ie (G3 Z (fun h4=>?_) (fun h4=>?_))
 ·have ad:=bV h4
  replace hR:=bt hR h4
  refine k_ ?_
  subst hR
  refine ie (A8 ?_)
  exact ci _
 replace hR:=bf hR h4
 refine A4 (nx ?_)
 refine zS [(20,[0]),(20,[1]),(20,[2])] ?_
 refine hq4 [0,1,3,5,6,7] 23 24 26 30 Z ?_
 refine gl 2 [0,1,2] Z (B8 (v:=iv _) cE Z Z 1) ?_
 refine gl 4 [0,1,2] Z (B8 (v:=iv _) cE Z Z 1) ?_
 refine gl 8 [0,1,2] Z (G6 (us:=B7 _) B4w Z Z 0) ?_
 refine gf 9 15 ?_ ?_
 ·refine ghc 9 [0,1,2] Z (C8j Z) fun ⟨r5,w⟩=>?_
  have:=bT.le w
  have:=C0c a s.frm s.tt b.2.1.style
  obtain ⟨_,_,_⟩:=this
  refine hqV [10,11,12,13,14] [(33,.slice (va r5.q) (((D9 a s.frm s.tt b.2.1.style).1).length) r5.k),(34,ag (B7 ((D9 a s.frm s.tt b.2.1.style).2.1))),(35,iv ((D9 a s.frm s.tt b.2.1.style).2.2.1)),(36,iv ((D9 a s.frm s.tt b.2.1.style).2.2.2))] ?_
  refine go 15 [0,1,2] Z (A5p F5q Z) fun b7=>?_
  let A:=bx b7 (B7 ((D9 a s.frm s.tt b.2.1.style).2.1)) 63
  refine hq1 [16] 8 Z ?_
  refine go 17 [0,1,2] Z (O9 (us:=B7 ((D9 a s.frm s.tt b.2.1.style).2.1)) (cs':=B7 ((D9 a s.frm s.tt b.2.1.style).2.1)) B4w Z Z Z 0) fun _=>?_
  refine hq2 [18,19] 10 11 Z ?_
  refine ge ?_
  refine k_ ?_
  refine ie (G3 Z (fun h8=>?_) (fun h8=>?_))
  ·have ac:=bV h8
   replace hR:=bt hR h8
   refine k_ ?_
   subst hR
   refine ie (A8 ?_)
   exact ci ⟨e,o⟩
  replace hR:=bf hR h8
  refine k_ ?_
  have:=bT.lc w
  refine P2 [_,_,_] ((vo _ _ e _)++([])) w opv ?_
  obtain ⟨y1,a4,hR⟩:=C3 hR
  refine it Z (N9 (L2:=[A,D]) (V0 (h:=b.2.1) (hL:=b.1) (l:=((D9 a s.frm s.tt b.2.1.style).1)) (hb:=hb) (hLr:=e) (lq:=(va r5.q)) (lk:=r5.k) a4 o bW bW oxw) Z Z Z Z Z c9 (I8 [[A],F,[D],G] [1,3,0,2] 4 Z ozw Z [F,G,[A],[D]] Z opv) (fun ⟨i,n⟩=>(bx hb (A2i b.2.1 ⟨va i.q,y1.length,i.k⟩) 65::A::D::((vo A2 51 i y1)++([])))) (fun ⟨i,n⟩=>I8 [[bx hb (A2i b.2.1 ⟨va i.q,y1.length,i.k⟩) 65],vo A2 51 i y1,[A],[D]] [0,2,3,1] 4 Z ozw opv [[bx hb (A2i b.2.1 ⟨va i.q,y1.length,i.k⟩) 65],[A],[D],vo A2 51 i y1] Z opv)) fun ⟨i,n⟩=>?_
  have:=M6 b.2.1 b.1 ((D9 a s.frm s.tt b.2.1.style).1);try rw [a4] at this
  refine ie ?_
  refine kc_ ?_
  refine zrg 5 0 [1,0] [] (bx hb (A2i ({b.2.1 with style:=(D9 a s.frm s.tt b.2.1.style).2.1}) ⟨va i.q,y1.length,i.k⟩) 65::bx b7 (B7 ((D9 a s.frm s.tt b.2.1.style).2.1)) 63::D::((vo A2 51 i y1)++([]))) ?_
  refine ie ?_
  refine zS [(20,[0]),(21,[1]),(21,[2]),(21,[3])] ?_
  refine hq6 [0,1,3,4,5,6,10,11,12,13] 47 48 50 53 57 60 Z ?_
  refine gl 2 [0,1,2,3] Z (B8 (v:=iv _) cE Z Z 2) ?_
  refine gl 7 [0,1,2,3] Z (B8 (v:=iv b.2.1.cols) cE Z Z 0) ?_
  refine gk 8 Z (J8.pure Z) ?_
  refine hq1 [9] 56 Z ?_
  refine gl 14 [0,1,2,3] Z (B8 (v:=iv b.2.1.cols) cE Z Z 0) ?_
  refine hq1 [15] 62 Z ?_
  refine gk 16 Z (A2h (cs:=F5 ⟨s.row,(if (i64.wrap (b.2.1.cols - (1:Int)))<(D9 a s.frm s.tt b.2.1.style).2.2.1 then (i64.wrap (b.2.1.cols - (1:Int))) else (D9 a s.frm s.tt b.2.1.style).2.2.1),(decide ((D9 a s.frm s.tt b.2.1.style).2.2.1=b.2.1.cols))⟩) Z Z oki) ?_
  refine hq1 [17,18,19] 66 Z ?_
  refine go 20 [1,2,3] Z (O9 (us:=F5 (⟨s.row,(if (i64.wrap (b.2.1.cols - (1:Int)))<(D9 a s.frm s.tt b.2.1.style).2.2.1 then (i64.wrap (b.2.1.cols - (1:Int))) else (D9 a s.frm s.tt b.2.1.style).2.2.1),(decide ((D9 a s.frm s.tt b.2.1.style).2.2.1=b.2.1.cols))⟩:Cur)) (cs':=A2i ({b.2.1 with style:=(D9 a s.frm s.tt b.2.1.style).2.1,cur:=(⟨s.row,(if (i64.wrap (b.2.1.cols - (1:Int)))<(D9 a s.frm s.tt b.2.1.style).2.2.1 then (i64.wrap (b.2.1.cols - (1:Int))) else (D9 a s.frm s.tt b.2.1.style).2.2.1),(decide ((D9 a s.frm s.tt b.2.1.style).2.2.1=b.2.1.cols))⟩:Cur)}) ⟨va i.q,y1.length,i.k⟩) D3l Z Z Z 0) fun _=>?_
  refine ge ?_
  refine k_ ?_
  subst hR
  refine ie (A8 ?_)
  exact ci ⟨i,n⟩
 ·refine gh _ [0,1,2] Z (A5p F5q Z) fun g=>?_
  let B:=bx g (B7 ((D9 a s.frm s.tt b.2.1.style).2.1)) 63
  refine gc 9 [0,1,2] Z (C8j Z) fun ⟨y,m⟩=>?_
  have:=bT.le m
  have:=C0c a s.frm s.tt b.2.1.style
  obtain ⟨_,_,_⟩:=this
  refine hqV [10,11,12,13,14,16] [(34,ag (B7 ((D9 a s.frm s.tt b.2.1.style).2.1))),(35,iv ((D9 a s.frm s.tt b.2.1.style).2.2.1)),(36,iv ((D9 a s.frm s.tt b.2.1.style).2.2.2)),(8,.slice (va y.q) (((D9 a s.frm s.tt b.2.1.style).1).length) y.k)] ?_
  refine go 17 [0,1,2] Z (O9 (us:=B7 ((D9 a s.frm s.tt b.2.1.style).2.1)) (cs':=B7 ((D9 a s.frm s.tt b.2.1.style).2.1)) B4w Z Z Z 0) fun _=>?_
  refine hq2 [18,19] 10 11 Z ?_
  refine ge ?_
  refine k_ ?_
  refine ie (G3 Z (fun u=>?_) (fun u=>?_))
  ·have a7:=bV u
   replace hR:=bt hR u
   refine k_ ?_
   subst hR
   refine ie (A8 ?_)
   exact ci ⟨e,o⟩
  replace hR:=bf hR u
  refine k_ ?_
  have:=bT.lc m
  refine P2 [_,_,_] ((vo _ _ e _)++([])) m opv ?_
  obtain ⟨z,a2,hR⟩:=C3 hR
  refine it Z (N9 (L2:=[B,D]) (V0 (h:=b.2.1) (hL:=b.1) (l:=((D9 a s.frm s.tt b.2.1.style).1)) (hb:=hb) (hLr:=e) (lq:=(va y.q)) (lk:=y.k) a2 o bW bW oxw) Z Z Z Z Z c9 (I8 [[B],F,[D],G] [1,3,0,2] 4 Z ozw Z [F,G,[B],[D]] Z opv) (fun ⟨d,j⟩=>(bx hb (A2i b.2.1 ⟨va d.q,z.length,d.k⟩) 65::B::D::((vo A2 51 d z)++([])))) (fun ⟨d,j⟩=>I8 [[bx hb (A2i b.2.1 ⟨va d.q,z.length,d.k⟩) 65],vo A2 51 d z,[B],[D]] [0,2,3,1] 4 Z ozw opv [[bx hb (A2i b.2.1 ⟨va d.q,z.length,d.k⟩) 65],[B],[D],vo A2 51 d z] Z opv)) fun ⟨d,j⟩=>?_
  have:=M6 b.2.1 b.1 ((D9 a s.frm s.tt b.2.1.style).1);try rw [a2] at this
  refine ie ?_
  refine kc_ ?_
  refine zrg 5 0 [1,0] [] (bx hb (A2i ({b.2.1 with style:=(D9 a s.frm s.tt b.2.1.style).2.1}) ⟨va d.q,z.length,d.k⟩) 65::bx g (B7 ((D9 a s.frm s.tt b.2.1.style).2.1)) 63::D::((vo A2 51 d z)++([]))) ?_
  refine ie ?_
  refine zS [(20,[0]),(21,[1]),(21,[2]),(21,[3])] ?_
  refine hq6 [0,1,3,4,5,6,10,11,12,13] 47 48 50 53 57 60 Z ?_
  refine gl 2 [0,1,2,3] Z (B8 (v:=iv _) cE Z Z 2) ?_
  refine gl 7 [0,1,2,3] Z (B8 (v:=iv b.2.1.cols) cE Z Z 0) ?_
  refine gk 8 Z (J8.pure Z) ?_
  refine hq1 [9] 56 Z ?_
  refine gl 14 [0,1,2,3] Z (B8 (v:=iv b.2.1.cols) cE Z Z 0) ?_
  refine hq1 [15] 62 Z ?_
  refine gk 16 Z (A2h (cs:=F5 ⟨s.row,(if (i64.wrap (b.2.1.cols - (1:Int)))<(D9 a s.frm s.tt b.2.1.style).2.2.1 then (i64.wrap (b.2.1.cols - (1:Int))) else (D9 a s.frm s.tt b.2.1.style).2.2.1),(decide ((D9 a s.frm s.tt b.2.1.style).2.2.1=b.2.1.cols))⟩) Z Z oki) ?_
  refine hq1 [17,18,19] 66 Z ?_
  refine go 20 [1,2,3] Z (O9 (us:=F5 (⟨s.row,(if (i64.wrap (b.2.1.cols - (1:Int)))<(D9 a s.frm s.tt b.2.1.style).2.2.1 then (i64.wrap (b.2.1.cols - (1:Int))) else (D9 a s.frm s.tt b.2.1.style).2.2.1),(decide ((D9 a s.frm s.tt b.2.1.style).2.2.1=b.2.1.cols))⟩:Cur)) (cs':=A2i ({b.2.1 with style:=(D9 a s.frm s.tt b.2.1.style).2.1,cur:=(⟨s.row,(if (i64.wrap (b.2.1.cols - (1:Int)))<(D9 a s.frm s.tt b.2.1.style).2.2.1 then (i64.wrap (b.2.1.cols - (1:Int))) else (D9 a s.frm s.tt b.2.1.style).2.2.1),(decide ((D9 a s.frm s.tt b.2.1.style).2.2.1=b.2.1.cols))⟩:Cur)}) ⟨va d.q,z.length,d.k⟩) D3l Z Z Z 0) fun _=>?_
  refine ge ?_
  refine k_ ?_
  subst hR
  refine ie (A8 ?_)
  exact ci ⟨d,j⟩
theorem C1w {r:List Sp3×Int} (h:A3d a aR b bR=r) (c:r.2=0):∀ k,k<r.1.length→0≤(r.1.getD k ZY).row∧(r.1.getD k ZY).row<bR.length:=fun k d=>by
 have f:=(D2u h c k d).1;have e:=(A1x (C2o h c)).2.2.2;omega
theorem C8w (a:FrmC) (aR bR:jj):∀ (l:List Sp3) (t:Nat) (o:jj),(X6 a aR bR l t o).2.2=0→∀ s ∈ l,0≤s.row∧s.row<aR.length
 | [],_,_,_=>fun s e=>by cases e
 | s::l,t,o,h=>by
  simp only [X6,B5] at h
  have hr:0≤s.row∧s.row<aR.length:=by
   grind
  intro x d
  rcases List.mem_cons.1 d with rfl | d
  ·exact hr
  ·revert h
   generalize (((((((decide (s.row<0))||(decide ((aR.length:Int)≤s.row)))||(decide (s.frm<0)))||(decide (s.tt≤s.frm)))||(decide (a.cols<s.tt)))||(U2 (aR.getD ((s.row).toNat) []) s))||(U2 (bR.getD ((s.row).toNat) []) s))=c
   intro h
   cases c with
   | true=>grind
   | false=>exact C8w a aR bR l _ _ h x d
theorem E1d {r:FrmC×jj×Int} (h:A2o a aR b bR l=r) (c:r.2.2=0):∀ k,k<l.length→0≤(l.getD k ZY).row∧(l.getD k ZY).row<bR.length:=by
 subst h
 have f:K4 a aR b bR=0:=by
  refine Decidable.byContradiction fun e=>?_
  grind[A2o]
 unfold A2o at c
 rw [jQ f] at c
 have g:=(A1x f).2.2.2
 intro k d
 have:=C8w a aR bR l _ _ c (l.getD k ZY) (by grind)
 omega
def A1e (e:Int) (a:HndC) (c:jz):jz×HndC×Int :=
 (B5 (A8s a.style ZJ) fun (b:jz×Int)=>(B5 (O5 a c b.1) fun (d:jz)=>(d,{a with style:=ZJ},(if b.2 > e then b.2 else e))))
def N6 (bR:jj):List Sp3→Int→Nat→HndC→jz→(jz×HndC×Int)
 | [],e1,t14,h2,hL2=>A1e e1 h2 hL2
 | hd_l1::tl_l1,e1,t14,h2,hL2=>(B5 (A2k h2 hL2 (bR.getD ((hd_l1.row).toNat) []) hd_l1) fun (a:jz×HndC×Int)=>(bif (!decide (a.2.2=0)) then A1e a.2.2 a.2.1 a.1 else N6 bR tl_l1 a.2.2 (t14+1) a.2.1 a.1))
def A5j (h:HndC) (hL:jz) (b:FrmC) (bR:jj) (l:List Sp3):jz×HndC×Int :=
 N6 bR l 0 0 h hL
theorem B2v (e:Int) (h:HndC) (hL:jz):(A1e e h hL).1.length≤hL.length+22:=by simp[A1e,M6,B4q]
theorem B3i (bR:jj):∀ (l:List Sp3) (e:Int) (t:Nat) (h:HndC) (hL:jz),(N6 bR l e t h hL).1.length≤hL.length+40100 * l.length+22
 | [],e,t,h,hL=>by have:=B2v e h hL;rw [N6];simpa using this
 | s::l,e,t,h,hL=>by
  rw [N6];simp only [B5]
  have a:=B6j h hL (bR.getD ((s.row).toNat) []) s
  generalize A2k h hL (bR.getD ((s.row).toNat) []) s=d at a ⊢
  cases (!decide (d.2.2=0)) with
  | true=>have:=B2v d.2.2 d.2.1 d.1;simp only [cond_true,List.length_cons];omega
  | false=>have:=B3i bR l d.2.2 (t+1) d.2.1 d.1;simp only [cond_false,List.length_cons];omega
theorem B6e (h:HndC) (hL:jz) (b:FrmC) (bR:jj) (l:List Sp3):(A5j h hL b bR l).1.length≤hL.length+40100 * l.length+22:=B3i ..
theorem B9b {bQ:kQ} {bZ:List Slc} {bK:Nat} {lq:kQ} {lk:Nat} (hR:A5j h hL b bR l=R) (z:bT 6 hL.length hLr:=by exact bW) (a:B4 bZ bR:=by exact bW) (ah:bR.length≤9223372036854775807:=by exact bW) (al:bR.length≤bK:=by exact bW) (ap:l.length≤9223372036854775807:=by exact bW) (au:l.length≤lk:=by exact bW) (hn:hL.length≤600000000000:=by exact bW) (ar:l.length≤4000:=by exact bW) (ao:∀ k,k<l.length→0≤(l.getD k ZY).row∧(l.getD k ZY).row<bR.length:=by exact bW):cM Tryz.prog 19 [pt hb 0,ag (C9 b ⟨bQ,bR.length,bK⟩),.slice lq l.length lk] (bx hb (A2i h ⟨va hLr.q,hL.length,hLr.k⟩) 65::((vo A2 51 hLr hL)++([]))) [sl F0 bQ bZ,D8 D0 bZ bR,sl H1 lq l,A1o,A1p,M1,P0] ({r:VR // bT 6 R.1.length r}) (fun x=>iv R.2.2) (fun x=>(bx hb (A2i R.2.1 ⟨va x.1.q,R.1.length,x.1.k⟩) 65::((vo A2 51 x.1 R.1)++([])))) (fun x=>[]):=by
 refine cD Tryz.func19 fun X hX hr hD=>?_
 rw[A5j]at hR
 have:=a.1
 refine k_ ?_
 refine cI 2 [] (fun w=>[(4,pt w 0)]) (fun _=>(C9 b ⟨bQ,bR.length,bK⟩)) 26 fun w=>?_
 refine ie (C5d ?_)
 refine k_ ?_
 let A:=bx w (C9 b ⟨bQ,bR.length,bK⟩) 26
 refine ie (A3 (C5g (nx (A7i (un fun e=>un fun y=>un fun i g=>(A1e e y i=R∧bT 6 i.length g∧i.length≤800000000000,[(0,pt hb 0),(7,iv e)],(A::bx hb (A2i y ⟨va g.q,i.length,g.k⟩) 65::((vo A2 51 g i)++([]))),[sl F0 bQ bZ,D8 D0 bZ bR,sl H1 lq l,A1o,A1p,M1,P0])) ?_ ?_))))
 ·refine k_ ?_
  refine ie (A9 ?_)
  refine A1y (un fun e1=>un fun f=>un fun h2=>un fun p o=>(f≤l.length∧N6 _ (l.drop f) e1 f h2 p=R∧bT 6 p.length o∧p.length≤600000000000+40100 * f,[(0,_),(4,_),(7,iv e1),(12,_),(13,iv _),(14,iv f)],(bx w _ _::bx _ (A2i h2 ⟨va o.q,p.length,o.k⟩) _::((vo _ _ o p)++([]))),_,l.length - f)) (0,0,h,_,_) ⟨opx,hR,z,opx⟩ bU A7.refl ?_
  rintro ⟨e1,f,h2,p,o⟩ ⟨aq,hR,m,hg⟩
  have:=bT.le m
  refine k_ ?_
  refine ie (A3 (G3 Z (fun h3=>?_) (fun h3=>?_)))
  ·have ai:=bV h3
   rw [A1a ZY (show f<l.length by omega)] at hR;rw[N6]at hR
   have hs:=ao f opx
   refine k_ ?_
   refine H8 2 Z opx fun a4 a6=>(ix Z (E7 C6l Z Z a6 Z f) (ix Z (J0 E8u Z Z (F8 (sz:=3) a6 jJ 2 Z (gd ZY opx)) Z) ?_))
   refine cI 2 [0] (fun b6=>[(9,pt b6 0)]) (fun _=>(H1 (l.getD f ZY))) 37 fun b6=>?_
   refine ie (A6v (Q6 (k:=((l.getD f ZY).row).toNat) (d:=⟨none,0,0⟩) a 1 Z jV) ?_)
   have:=Q9 a (k:=((l.getD f ZY).row).toNat) (d:=(⟨none,0,0⟩:Slc)) jV
   refine zS [(10,[0]),(10,[1]),(8,[2]),(8,[3])] ?_
   refine hq3 [0,1,3] 18 19 21 Z ?_
   refine gl 2 [0,1] Z (B8 (v:=.slice bQ bR.length bK) F2i Z Z 1) ?_
   refine gl 4 [0,1] Z (B8 (v:=iv _) cE Z Z 0) ?_
   refine B9j 1 Z jV fun a7 a5=>?_
   refine gk 5 Z (E7 B0s Z Z a5 Z (((l.getD f ZY).row).toNat) opx opx) ?_
   refine gk 6 Z (G1 (B6 B5c Z Z (F8 (sz:=1) a5 jJ 1 Z (gd ⟨none,0,0⟩ jV)) Z) (M2 a jV)) ?_
   refine gl 7 [0,1,2,3] Z (G6 (us:=H1 _) E8u Z Z 0) ?_
   obtain ⟨s,aj,hR⟩:=C3 hR
   refine gc 8 [0,1] Z (C8i aj m bW bW oxw) fun ⟨r9,a1⟩=>?_
   have:=bT.le a1
   have:=B6j h2 p (bR.getD (((l.getD f ZY).row).toNat) []) (l.getD f ZY);try rw [aj] at this
   refine hq1 [9] 7 Z ?_
   refine ge ?_
   refine k_ ?_
   refine ie (G3 Z (fun a2=>?_) (fun a2=>?_))
   ·have ad:=bV a2
    replace hR:=bt hR a2
    refine F1 (Y9 (I8 [_,_,_,_] [2,0,3,1] 4 Z ozw Z [[_],[bx _ (A2i _ ⟨va r9.q,_,r9.k⟩) _],vo _ _ r9 _,[_]] Z opv) ?_)
    exact S6 (_,_,_,_) ⟨hR,a1,opx⟩ bU c9
   replace hR:=bf hR a2
   refine k_ ?_
   refine ix Z B1 ?_
   refine k_ ?_
   refine A1 (Y9 (I8 [_,_,_,_] [2,0,3,1] 4 Z ozw Z [[_],[bx _ (A2i _ ⟨va r9.q,_,r9.k⟩) _],vo _ _ r9 _,[_]] Z opv) ?_)
   exact z0 (z1:=(e1,f,h2,p,o)) (s.2.2,f+1,s.2.1,s.1,r9) ⟨opx,hR,a1,opx⟩
  have ai:=bV h3
  rw [A1b ai] at hR;rw[N6]at hR
  refine F1 ?_
  exact S6 (_,_,p,o) ⟨hR,m,opx⟩ bU A7.refl
 rintro ⟨e,y,i,g⟩
 let B:=[bx hb (A2i y ⟨va g.q,i.length,g.k⟩) 65]
 rintro ⟨hR,a3,hj⟩
 rw[A1e]at hR
 refine kc_ ?_
 refine bY 5 6 [1] [(34,ag (B7 y.style)),(35,ag (B7 ZJ))] ?_
 obtain ⟨y6,a9,hR⟩:=C3 hR
 refine zc Z (D2q a9) fun ⟨aa,u⟩=>?_
 have:=bT.le u
 have:=B4q y.style ZJ;try rw [a9] at this
 have:=B1d y.style ZJ;try rw [a9] at this
 refine k_ ?_
 have:=bT.lc u
 refine P2 [_,_] ((vo _ _ g i)++([])) u opv ?_
 obtain ⟨y1,ae,hR⟩:=C3 hR
 refine it Z (N9 (L2:=[A]) (V0 (h:=y) (hL:=i) (l:=y6.1) (hb:=hb) (hLr:=g) (lq:=(va aa.q)) (lk:=aa.k) ae a3 bW bW oxw) Z Z Z Z Z c9 (I8 [[A],B,vo A2 51 g i] [1,2,0] 3 Z ozw Z [B,vo A2 51 g i,[A]] Z opv) (fun ⟨j,t⟩=>(bx hb (A2i y ⟨va j.q,y1.length,j.k⟩) 65::A::((vo A2 51 j y1)++([])))) (fun ⟨j,t⟩=>I8 [[bx hb (A2i y ⟨va j.q,y1.length,j.k⟩) 65],vo A2 51 j y1,[A]] [0,2,1] 3 Z ozw opv [[bx hb (A2i y ⟨va j.q,y1.length,j.k⟩) 65],[A],vo A2 51 j y1] Z opv)) fun ⟨j,t⟩=>?_
 have:=M6 y i y6.1;try rw [ae] at this
 refine ie ?_
 refine kc_ ?_
 refine zru 5 [0] [] 0 (bx hb (A2i ({y with style:=ZJ}) ⟨va j.q,y1.length,j.k⟩) 65) ?_
 refine ie ?_
 refine k_ ?_
 subst hR
 refine ie (A8 ?_)
 exact ci ⟨j,t⟩
def E2l (f:FrmC) (fR:jj):jz×Int :=
 (bif (!decide ((S5 f fR)=0)) then (([]:jz),(S5 f fR)) else (B5 (B5p f.cols (fR.length:Int)) fun (a:FrmC×jj×Int)=>(bif (!decide (a.2.2=0)) then (([]:jz),a.2.2) else (B5 (A3d a.1 a.2.1 f fR) fun (e:List Sp3×Int)=>(bif (!decide (e.2=0)) then (([]:jz),e.2) else (B5 (A3v a.1 a.2.1 f fR ZS) fun (d:Bool×HndC×Int)=>(bif d.1 then (B5 (O5 d.2.1 ([]:jz) ([{ZZ with kind:=15},{ZZ with kind:=37,n:=1049,m:=1}]:jz)) fun (g:jz)=>(B5 (A5j d.2.1 g f fR e.1) fun (b:jz×HndC×Int)=>(B5 (B3e b.2.1 b.1 a.1 a.2.1 f fR) fun (c:jz×HndC×Int)=>(bif (!decide ((if c.2.2 > b.2.2 then c.2.2 else b.2.2)=0)) then (([]:jz),(if c.2.2 > b.2.2 then c.2.2 else b.2.2)) else (c.1,0))))) else (([]:jz),d.2.2))))))))
theorem F3n {f:FrmC} {fR:jj} {fQ:kQ} {fZ:List Slc} {fK:Nat} {R:jz×Int} (hR:E2l f fR=R) (a:B4 fZ fR:=by exact bW) (af:fR.length≤9223372036854775807:=by exact bW) (ap:fR.length≤fK:=by exact bW) (hT:f.title.length≤100000000:=by exact bW):cM Tryz.prog 11 [ag (C9 f ⟨fQ,fR.length,fK⟩)] [] [sl F0 fQ fZ,D8 D0 fZ fR,A1o,A1p,M1,P0] ({r:VR // bT 6 R.1.length r}) (fun x=>.tuple #[.slice (va x.1.q) R.1.length x.1.k,iv R.2]) (fun x=>((vo A2 51 x.1 R.1)++([]))) (fun x=>[]):=by
 let H:=vo A2 51 VR.nil ([]:jz)
 refine cD Tryz.func11 fun X hX hr hD=>?_
 rw[E2l]at hR
 refine bS Z (cI 3 [] (fun w=>[(1,pt w 0)]) (fun _=>(C9 f ⟨fQ,fR.length,fK⟩)) 26 fun w=>(ie (A3 (bS Z (bY 1 2 [0] [(10,ag _)] (zv Z (C0d Z a) (bP 1 4 Z (ie (bS Z (bP 2 13 Z ?_))))))))))
 let B:=bx w (C9 f ⟨fQ,fR.length,fK⟩) 26
 refine ie (G3 Z (fun h2=>?_) (fun h2=>?_))
 ·have av:=bV h2
  replace hR:=bt hR h2
  refine bS Z (cF 3 2 3 Z ?_)
  subst hR
  refine ie (A8 ?_)
  exact cy ⟨_,bT.nil⟩
 replace hR:=bf hR h2
 refine A4 (nx (bS Z (pl2 5 [0,0] 17 20 Z ?_)))
 obtain ⟨e,aj,hR⟩:=C3 hR
 refine zc Z (D8e aj) fun ⟨⟨g,ax⟩,ao⟩=>?_
 try dsimp only at ao
 obtain ⟨a1,z⟩:=ao
 have i:=C9s f.cols (fR.length:Int);rw [aj] at i
 refine cI 6 [0] (fun y=>[(5,pt y 0),(6,iv e.2.2)]) (fun _=>(C9 e.1 ⟨va g.q,e.2.1.length,g.k⟩)) 26 fun y=>?_
 let A:=bx y (C9 e.1 ⟨va g.q,e.2.1.length,g.k⟩) 26
 refine ie (A3 (bS Z (bP 2 25 Z (ie (G3 Z (fun h9=>?_) (fun h9=>?_))))))
 ·have az:=bV h9
  replace hR:=bt hR h9
  refine bS Z (cF 3 2 3 Z ?_)
  subst hR
  refine ie (A8 ?_)
  exact cy ⟨_,bT.nil⟩
 replace hR:=bf hR h9
 refine A4 (nx (bS Z (bY 2 6 [0,1] [(28,ag (C9 e.1 ⟨va g.q,e.2.1.length,g.k⟩)),(29,ag (C9 f ⟨fQ,fR.length,fK⟩))] ?_)))
 have:=bT.lc a1
 refine P2 [_,_] _ (bT.cast a1 (by rw [z.1])) opv ?_
 obtain ⟨y5,am,hR⟩:=C3 hR
 refine zc Z (D4l am z bW bW a) fun ⟨p,s⟩=>?_
 let G:=vo H1 37 p y5.1
 have:=bT.le s
 have:=D0m e.1 e.2.1 f fR;try rw [am] at this
 refine cF 5 7 6 Z (ie (A3 (bS Z (bP 2 34 Z (ie (G3 Z (fun a2=>?_) (fun a2=>?_)))))))
 ·have an:=bV a2
  replace hR:=bt hR a2
  refine bS Z (cF 3 2 3 Z ?_)
  subst hR
  refine ie (A8 ?_)
  exact cy ⟨_,bT.nil⟩
 have an:=bV a2
 replace hR:=bf hR a2
 refine A4 (nx (bS Z (bY 3 6 [0,1] [(37,ag (C9 e.1 ⟨va g.q,e.2.1.length,g.k⟩)),(38,ag (C9 f ⟨fQ,fR.length,fK⟩)),(39,ag (F5 ZS))] ?_)))
 obtain ⟨u,ak,hR⟩:=C3 hR
 refine zc Z (C1v ak z bW bW a bW bW opd opd) fun ⟨b2,a7⟩=>?_
 have b:=B6a e.1 e.2.1 f fR ZS;rw [ak] at b
 rcases (Bool.eq_false_or_eq_true u.1).symm with o | o
 ·replace hR:=bf hR o
  obtain rfl:=E3h a7 o
  have ai:=F6h b o
  refine B8g (L':=(bx y _ _::bx w _ _::((vo _ _ p _)++([])))) Z (D1i (v:=.tuple #[.pointer _,iv _]) 40 Z (cF 5 8 6 Z (ie (A3 (bS Z (bP 2 44 Z (ie (G3 Z (fun ab=>?_) (fun ab=>?_)))))))))
  ·have aa:=bV ab
   refine bS Z (cF 3 2 3 Z ?_)
   subst hR
   refine ie (A8 ?_)
   exact cy ⟨_,bT.nil⟩
  have aa:=bV ab
  exfalso;exact absurd ai aa
 ·replace hR:=bt hR o
  obtain ⟨j,rfl⟩:=E1w a7 o
  let F:=[bx j (A2i u.2.1 ⟨va VR.nil.q,([]:jz).length,VR.nil.k⟩) 65]
  have ar:=E9h b o
  refine B8g (L':=(bx y _ _::bx w _ _::bx j (A2i _ ⟨va VR.nil.q,jZ.length,VR.nil.k⟩) _::((vo _ _ p _)++((vo A2 51 VR.nil [])++([]))))) Z (D1i (v:=.tuple #[pt j 0,iv _]) 40 Z (cF 5 8 6 Z (ie (A3 (bS Z (bP 2 44 Z (ie (G3 Z (fun ac=>?_) (fun ac=>?_)))))))))
  ·have a9:=bV ac
   exfalso;exact absurd ar a9
  refine A4 (nx (bS Z (bY 3 2 [] [(46,pt j 0),(47,ag (A2 ({ZZ with kind:=15}))),(48,ag (A2 ({ZZ with kind:=37,n:=1049,m:=1})))] (it Z (B0 (c:=A2) (xs:=[{ZZ with kind:=15},{ZZ with kind:=37,n:=1049,m:=1}]) N3 Z Z Z oki) fun aw=>?_))))
  have:([{ZZ with kind:=15},{ZZ with kind:=37,n:=1049,m:=1}]:jz).length=2:=rfl
  obtain ⟨y1,ae,hR⟩:=C3 hR
  refine it Z (N9 (L2:=(A::B::(G++([])))) (V0 (h:=u.2.1) (hL:=jZ) (l:=([{ZZ with kind:=15},{ZZ with kind:=37,n:=1049,m:=1}]:jz)) (hb:=j) (hLr:=VR.nil) (lq:=(some ⟨aw,0,none⟩)) (lk:=2) ae bT.nil bW bW oxw) Z Z Z Z Z c9 (I8 [[A],[B],F,G,H] [2,4,0,1,3] 5 Z ozw Z [F,H,[A],[B],G] Z opv) (fun ⟨d,t⟩=>(bx j (A2i u.2.1 ⟨va d.q,y1.length,d.k⟩) 65::A::B::((vo A2 51 d y1)++(G++([]))))) (fun ⟨d,t⟩=>I8 [[bx j (A2i u.2.1 ⟨va d.q,y1.length,d.k⟩) 65],vo A2 51 d y1,[A],[B],G] [0,2,3,1,4] 5 Z ozw opv [[bx j (A2i u.2.1 ⟨va d.q,y1.length,d.k⟩) 65],[A],[B],vo A2 51 d y1,G] Z opv)) fun ⟨d,t⟩=>?_
  let D:=bx j (A2i u.2.1 ⟨va d.q,y1.length,d.k⟩) 65::A::B::((vo A2 51 d y1)++([]))
  have:=M6 u.2.1 ([]:jz) ([{ZZ with kind:=15},{ZZ with kind:=37,n:=1049,m:=1}]:jz);try rw [ae] at this
  refine ie (A3 ?_)
  have:=bT.lc s
  refine D0z D [] (T:=37) (c:=H1) s opv (F4p (L':=D) opv ?_)
  refine zS [(3,[0]),(10,[1]),(10,[2]),(3,[3])] ?_
  refine hq3 [0,2,4] 51 53 55 Z ?_
  refine gl 1 [0,1,2,3] Z (G6 (us:=C9 f _) C6z Z Z 2) ?_
  refine gl 5 [1,2] Z (G6 (us:=C9 _ _) C6z Z Z 0) ?_
  refine gl 6 [1,2] Z (G6 (us:=C9 f _) C6z Z Z 1) ?_
  obtain ⟨y8,ah,hR⟩:=C3 hR
  refine gc 3 [1,2] Z (B9b ah t a bW bW bW bW oxw oxw (by first|assumption|exact C1w oiu (by have:=this;omega)|exact E1d oiu opx|exact C1w oiu opx|(intro k hk;have:k=0:=by simp only [List.length_cons,List.length_nil] at hk;omega))) fun ⟨b3,a6⟩=>?_
  have:=bT.le a6
  have:=B6e u.2.1 y1 f fR y5.1;try rw [ah] at this
  obtain ⟨y9,ay,hR⟩:=C3 hR
  refine gc 7 [1,2] Z (C0p ay a6 z bW bW a bW bW oxw) fun ⟨au,a5⟩=>?_
  refine hq1 [8,9] 9 Z ?_
  refine ge ?_
  refine bS Z (bP 2 61 Z (ie (G3 Z (fun a3=>?_) (fun a3=>?_))))
  ·have al:=bV a3
   replace hR:=bt hR a3
   refine bS Z (cF 3 2 3 Z ?_)
   subst hR
   refine ie (A8 ?_)
   exact cy ⟨_,bT.nil⟩
  replace hR:=bf hR a3
  refine A4 (nx (bS Z (pl2 6 [0] 2 3 Z ?_)))
  subst hR
  refine ie (A8 ?_)
  exact cy _
end
section
open Go Go.Fen open Tryz (prog)
theorem F4m:EqT prog 29 F5:=EqT.of 20 Z oki oki (fun _ _=>by rfl) F5.inj
structure OutC where
 pen:Sty
 ends : Int
deriving DecidableEq
def O6 (x:OutC):List Value:=B7 x.pen++([.int .i64 x.ends])
def ZW:OutC:=⟨ZJ,0⟩
def N4 (x:OutC) (l:Slc):List Value:=[.slice l.q l.n l.k]++(B7 x.pen++([.int .i64 x.ends]))
def B8e:FrmC×jj :=
 ({Za with cols:=3,cursor:={Plc.zero with col:=2},visible:=true},([([{ZV with base:=97},{ZV with base:=98},{ZV with base:=32}]:jk)]:jj))
theorem B2w:B8e.1.title.length=0:=rfl
theorem C2b (R:FrmC×jj) (hR:B8e=R):cM prog 14 [] [] [] ({t:kQ×List Slc×Nat // B4 t.2.1 R.2∧R.2.length≤t.2.2∧R.2.length≤9223372036854775807}) (fun x=>ag (C9 R.1 ⟨x.1.1,R.2.length,x.1.2.2⟩)) (fun x=>[]) (fun x=>[sl F0 x.1.1 x.1.2.1,D8 D0 x.1.2.1 R.2]):=by
 refine cD Tryz.func14 fun X hX hr hD=>?_
 rw[B8e]at hR
 refine k_ ?_
 refine cI 1 [] (fun e=>[(0,pt e 0)]) (fun _=>(C9 Za ⟨none,0,0⟩)) 26 fun e=>?_
 refine ie (k_ ?_)
 refine bY 3 5 [] [(1,ag (D0 ({ZV with base:=97}))),(2,ag (D0 ({ZV with base:=98}))),(3,ag (D0 ({ZV with base:=32})))] ?_
 refine it Z (B0 (c:=D0) (xs:=[{ZV with base:=97},{ZV with base:=98},{ZV with base:=32}]) A1n Z Z Z oki) fun b=>?_
 have:([{ZV with base:=97},{ZV with base:=98},{ZV with base:=32}]:jk).length=3:=rfl
 refine it Z (B0 (c:=F0) (xs:=[⟨some ⟨b,0,none⟩,3,3⟩]) B0s Z Z Z oki) fun d=>?_
 have a:B4 ([⟨some ⟨b,0,none⟩,3,3⟩]:List Slc) ([([{ZV with base:=97},{ZV with base:=98},{ZV with base:=32}]:jk)]:jj):=(B4.cons ⟨ooy,okl,okl⟩ B4.none)
 refine D4 (q:=D8 _ [⟨some ⟨b,0,none⟩,3,3⟩] _) (M8 (A5 1 Z) I5) (zru 3 [0] [] 0 (bx e (C9 ({Za with cols:=3,cursor:={Plc.zero with col:=2},visible:=true}) ⟨some ⟨d,0,none⟩,([([{ZV with base:=97},{ZV with base:=98},{ZV with base:=32}]:jk)]).length,1⟩) 26) ?_)
 subst hR
 refine k_ ?_
 exact cc (I9 Z (E8 C6z Z 0)) ⟨(_,_,1),⟨a,okl,okl⟩⟩
section
variable {P:Program} {n:Nat} {X:Cx} {K:Go.Act→World→Prop} {Q:Exit→Go.Act→World→Prop} {E:cA} {L L':Go.Fen.Own} {Φ:List Pers}
theorem B2n {ops:Array Oper} {i m:Nat} (c:L.Perm L') (h:JI P n X ops i m K Q E L' Φ):JI P n X ops i m K Q E L Φ:=fun a w b=>h a w ⟨b.size,b.defers,b.has,b.world.perm c⟩
end
def A6z (b:Int) (i:Nat) (fR:jj) (a:Nat→jj→(FrmC×jj)):Nat→jk→Nat→(FrmC×jj)
 | 0,_,_=>(Za,[])
 | fu3+1,l,k=>(bif (decide ((k:Int)<b)) then A6z b i fR a fu3 (l++([{ZV with base:=32}]:jk)) (k+1) else a (i+1) (fR++([l]:jj)))
def A4z (cols:Int) (a:Int):Nat→Nat→jj→(FrmC×jj)
 | 0,_,_=>(Za,[])
 | fu1+1,i,fR=>(bif (decide ((i:Int)<a)) then A6z cols i fR (A4z cols a fu1) ((cols - (0:Int)).toNat+1) ([]:jk) 0 else ({Za with cols:=cols,visible:=true},fR))
def B2d (b:Int) (a:Int):FrmC×jj :=
 A4z b a ((a - (0:Int)).toNat+1) 0 ([]:jj)
theorem B9l (a:Int) (i:Nat) (fR:jj) (ag:Nat→jj→(FrmC×jj)):∀ (fu:Nat) (l:jk) (k:Nat),(a - (k:Int)).toNat<fu→A6z a i fR ag fu l k=ag (i+1) (fR++[l++List.replicate (a - (k:Int)).toNat {ZV with base:=32}])
 | 0,l,k,h=>by omega
 | fu+1,l,k,h=>by
  simp only [A6z]
  by_cases c:(k:Int)<a
  ·rw [jQ c,cond_true,B9l a i fR ag fu _ (k+1) opx,show (a - (k:Int)).toNat=(a - ((k+1:Nat):Int)).toNat+1 by omega,List.replicate_succ,List.append_assoc];rfl
  simp_all[jX]
theorem B8c (b a:Int):∀ (fu i:Nat) (fR:jj),(a - (i:Int)).toNat<fu→(A4z b a fu i fR).2.length=fR.length+(a - (i:Int)).toNat
 | 0,i,fR,h=>by omega
 | fu+1,i,fR,h=>by
  simp only [A4z]
  by_cases c:(i:Int)<a
  ·rw [jQ c,cond_true,B9l _ _ _ _ _ _ _ opx,B8c b a fu (i+1) _ opx,List.length_append,List.length_cons,List.length_nil];omega
  grind
theorem D2t (b a:Int):(B2d b a).2.length=a.toNat:=by simp[B2d,B8c]
theorem D9s {cols e:Int} {R:FrmC×jj} (hR:B2d cols e=R) (y:cols≤1000∧e≤1000:=by exact bW):cM prog 15 [iv cols,iv e] [] [] ({t:VR×List Slc // bT 1 R.2.length t.1∧B4 t.2 R.2}) (fun x=>ag (C9 R.1 ⟨va x.1.1.q,R.2.length,x.1.1.k⟩)) (fun x=>((vo F0 68 x.1.1 x.1.2)++([]))) (fun x=>[D8 D0 x.1.2 R.2]):=by
 refine cD Tryz.func15 fun X hX hr hD=>?_
 rw[B2d]at hR
 refine k_ ?_
 refine cI 1 [] (fun j=>[(4,pt j 0)]) _ _ fun j=>(ie (bS Z (cI 4 [0] (fun h=>[(5,pt h 0)]) _ _ fun h=>(ie (A3 (bS Z (bP 1 6 Z (ie (A9 (Y9 (I8 [_,_,_] [1,2,0] 3 Z ozw Z [[bx h (C9 ({Za with cols:=cols,visible:=true}) ⟨none,0,0⟩) 26],[bx j (C9 Za ⟨none,0,0⟩) 26],vo F0 68 VR.nil []] Z opv) ?_))))))))))
 let A:=bx j (C9 Za ⟨none,0,0⟩) 26
 refine A1y (un fun fu=>un fun (i:Nat)=>un fun fR=>un fun a fZ=>((e - i).toNat<fu∧A4z _ e fu i fR=R∧bT 1 fR.length a∧B4 fZ fR∧fR.length≤i,[(0,_),(1,_),(4,_),(5,_),(6,iv i)],(bx h (C9 _ ⟨va a.q,fR.length,a.k⟩) _::bx j _ _::((vo F0 68 a fZ)++([]))),[D8 D0 fZ fR],fu)) (_,0,_,_,_) ⟨(Nat.lt_succ_self _),hR,bT.nil,B4.none,oom⟩ bU c9 ?_
 rintro ⟨fu,i,fR,a,fZ⟩ ⟨a4,hR,d,b,z⟩
 let B:=(vo F0 68 a fZ)++([])
 have:=bT.le d
 have:=b.1
 obtain ⟨fu1,rfl⟩:∃ m,fu=m+1:=⟨fu - 1,by omega⟩
 rw[A4z]at hR
 refine k_ ?_
 refine ie ?_
 refine cK Z hR ?_ ?_<;>intro hR h4 a3
 ·refine k_ ?_
  refine ie (k_ ?_)
  refine ie (A9 (Y9 (I8 [_,_,_,_] [1,2,3,0] 4 Z ozw Z [[_],[_],vo _ _ a _,vo D0 71 VR.nil []] Z opv) (A1y (un fun o=>un fun l=>un fun lr (k:Nat)=>((cols - k).toNat<o∧A6z _ i _ _ o l k=R∧bT 12 l.length lr∧l.length≤k,[(0,_),(1,_),(4,_),(5,_),(6,_),(7,.slice (va lr.q) l.length lr.k),(8,iv k)],(bx h _ _::bx j _ _::((vo _ _ a _)++((vo _ _ lr l)++([])))),_,o)) (_,_,_,0) ⟨(Nat.lt_succ_self _),hR,bT.nil,oom⟩ bU A7.refl ?_)))
  rintro ⟨o,l,lr,k⟩ ⟨a5,hR,g,a0⟩
  have:=bT.le g
  obtain ⟨fu3,rfl⟩:∃ m,o=m+1:=⟨o - 1,by omega⟩
  rw[A6z]at hR
  refine k_ ?_
  refine ie ?_
  refine cK Z hR ?_ ?_<;>intro hR h6 a2
  ·refine kc_ ?_
   refine bY 2 3 [] [(21,.slice (va lr.q) l.length lr.k),(22,ag (D0 ({ZV with base:=32})))] ?_
   refine it Z (B0 (c:=D0) (xs:=[{ZV with base:=32}]) A1n Z Z Z oki) fun b7=>?_
   have:([{ZV with base:=32}]:jk).length=1:=rfl
   refine B2n (I8 [_,_,_,_] [0,1,3,2] 4 Z ozw Z [[_],[_],vo _ _ _ l,vo _ _ a _] Z opv) (it Z (Q7 (f:=D0) (r:=lr) (xs:=l) (ys:=([{ZV with base:=32}]:jk)) (pre:=[bx h (C9 ({Za with cols:=cols,visible:=true}) ⟨va a.q,fR.length,a.k⟩) 26,A]) (post:=B) F1s jJ jJ Z Z Z Z Z Z Z Z Z (A5 0 Z) g ofv ofv) fun ⟨w,s⟩=>(B2n (I8 [_,_,_,_] [0,1,3,2] 4 Z ozw Z [[_],[_],vo _ _ a _,vo _ _ w _] Z opv) (k_ ?_)))
   refine ix Z B1 (k_ ?_)
   exact A1 (z0 (_,_,w,_) ⟨opx,hR,s,ozq⟩)
  refine k_ ?_
  refine P2 (bx h (C9 ({Za with cols:=cols,visible:=true}) ⟨va a.q,fR.length,a.k⟩) 26::A::B) [] (T:=71) (c:=D0) g opv ?_
  have:=bT.cap g
  refine it Z (B0 (c:=F0) (xs:=[⟨va lr.q,l.length,lr.k⟩]) B0s Z Z Z oki) fun a1=>?_
  have n:B4 ([⟨va lr.q,l.length,lr.k⟩]:List Slc) ([l]:jj):=(B4.cons ⟨ooy,okl,okl⟩ B4.none)
  refine D4 (q:=D8 _ [⟨va lr.q,l.length,lr.k⟩] _) (M8 (A5 1 Z) I5) ?_
  have v:B4 (fZ++([⟨va lr.q,l.length,lr.k⟩]:List Slc)) (fR++([l]:jj)):=B4.append b n
  refine it Z (K5 (r:=a) (rs:=fZ) (xss:=fR) (pre:=[bx h (C9 ({Za with cols:=cols,visible:=true}) ⟨va a.q,fR.length,a.k⟩) 26,A]) (post:=[]) F7f Z Z Z Z Z Z Z Z opv (A5 1 Z) (A5 3 Z) (A5 0 Z) b n d ofv ofv) fun ⟨u,p⟩=>?_
  have:(fR++([l]:jj)).length=fR.length+1:=List.length_append
  refine zru 2 [0] [] 0 (bx h (C9 ({Za with cols:=cols,visible:=true}) ⟨va u.q,(fR++[l]).length,u.k⟩) 26) ?_
  refine A1 (k_ ?_)
  refine ix Z B1 (k_ ?_)
  exact A1 (z0 (_,_,_,u,_) ⟨opx,hR,p,v,ozq⟩)
 refine k_ ?_
 refine zrg 2 0 [0,1] [] (bx h (C9 ({Za with cols:=cols,visible:=true}) ⟨va a.q,fR.length,a.k⟩) 26::bx j (C9 ({Za with cols:=cols,visible:=true}) ⟨va a.q,fR.length,a.k⟩) 26::B) ?_
 subst hR
 refine k_ ?_
 exact cc (I9 Z (E8 C6z Z 1)) ⟨(a,_),⟨d,b⟩⟩
def B0z (e:Int) (h:HndC) (hL:jz):jz×Cur×Int :=
 (bif (!decide (e=0)) then (([]:jz),ZS,e) else (hL,h.cur,0))
def A9i (a:FrmC) (aR:jj) (b:FrmC) (bR:jj) (l:List Sp3) (c:Cur):jz×Cur×Int :=
 (B5 (A3v a aR b bR c) fun (d:Bool×HndC×Int)=>(bif d.1 then (B5 (A2o a aR b bR l) fun (f:FrmC×jj×Int)=>(bif (decide (f.2.2=0)) then (B5 (A5j d.2.1 ([]:jz) b bR l) fun (e:jz×HndC×Int)=>B0z e.2.2 e.2.1 e.1) else B0z f.2.2 d.2.1 ([]:jz))) else (([]:jz),ZS,d.2.2)))
theorem C8r {a:FrmC} {aR:jj} {b:FrmC} {bR:jj} {l:List Sp3} {c:Cur} {aQ:kQ} {aZ:List Slc} {aK:Nat} {bQ:kQ} {bZ:List Slc} {bK:Nat} {lq:kQ} {lk:Nat} {R:jz×Cur×Int} (hR:A9i a aR b bR l c=R) (g:B4 aZ aR:=by exact bW) (an:aR.length≤9223372036854775807:=by exact bW) (af:aR.length≤aK:=by exact bW) (d:B4 bZ bR:=by exact bW) (ae:bR.length≤9223372036854775807:=by exact bW) (ap:bR.length≤bK:=by exact bW) (ax:l.length≤9223372036854775807:=by exact bW) (az:l.length≤lk:=by exact bW) (hT:a.title.length≤100000000:=by exact bW) (av:b.title.length≤100000000:=by exact bW) (aw:l.length≤4000:=by exact bW):cM prog 6 [ag (C9 a ⟨aQ,aR.length,aK⟩),ag (C9 b ⟨bQ,bR.length,bK⟩),.slice lq l.length lk,ag (F5 c)] [] [sl F0 aQ aZ,D8 D0 aZ aR,sl F0 bQ bZ,D8 D0 bZ bR,sl H1 lq l,A1o,A1p,M1,P0] ({r:VR // bT 6 R.1.length r}) (fun x=>.tuple #[.slice (va x.1.q) R.1.length x.1.k,ag (F5 R.2.1),iv R.2.2]) (fun x=>((vo A2 51 x.1 R.1)++([]))) (fun x=>[]):=by
 refine cD Tryz.func6 fun X hX hr hD=>?_
 rw[A9i]at hR
 refine k_ ?_
 refine D8c 4 2 [] (fun b1 b2 y=>[(4,pt b1 0),(5,pt b2 0),(7,pt y 0)]) (fun b1 b2 y=>[bx y (F5 c) 29,bx b2 (C9 b ⟨bQ,bR.length,bK⟩) 26,bx b1 (C9 a ⟨aQ,aR.length,aK⟩) 26]) (fun b1 b2 y=>?_)
 refine cI 2 [] (fun u=>[(9,pt u 0)]) (fun _=>(F5 ZS)) 29 fun u=>?_
 let A:=bx u (F5 ZS) 29
 refine k_ ?_
 refine bY 3 6 [3,2,1] [(14,ag (C9 a ⟨aQ,aR.length,aK⟩)),(15,ag (C9 b ⟨bQ,bR.length,bK⟩)),(16,ag (F5 c))] ?_
 obtain ⟨y1,ad,hR⟩:=C3 hR
 refine zc Z (C1v ad g bW bW d bW bW opd opd) fun ⟨q5,a4⟩=>?_
 have f:=B6a a aR b bR c;rw [ad] at f
 rcases (Bool.eq_false_or_eq_true y1.1).symm with i | i
 ·replace hR:=bf hR i
  obtain rfl:=E3h a4 i
  have aq:=F6h f i
  refine B8g (L':=[_,_,_,_]) Z (D1i (v:=.tuple #[.pointer _,iv _]) 17 Z (cF 5 11 12 Z ?_))
  refine kc_ ?_
  refine k_ ?_
  refine ie (G3 Z (fun h9=>?_) (fun h9=>?_))
  ·have ac:=bV h9
   exfalso;exact absurd ac aq
  have ac:=bV h9
  refine k_ ?_
  refine ie (G3 Z (fun aa=>?_) (fun aa=>?_))
  ·have o:=bV aa
   exfalso;exact absurd o ac
  have o:=bV aa
  refine k_ ?_
  refine ie (G3 Z (fun ab=>?_) (fun ab=>?_))
  ·have a2:=bV ab
   refine k_ ?_
   refine zru 5 [0] [(8,.slice none 0 0),(10,iv y1.2.2)] 0 A ?_
   subst hR
   refine ie (A8 ?_)
   exact cc (E6f Z A6 (E8 D3l Z 0) A6) ⟨_,bT.nil⟩
  have a2:=bV ab
  exfalso;exact absurd o a2
 ·replace hR:=bt hR i
  obtain ⟨m,rfl⟩:=E1w a4 i
  have ai:=E9h f i
  refine B8g (L':=(bx u _ _::bx y _ _::bx _ _ _::bx _ _ _::bx m (A2i _ ⟨va VR.nil.q,jZ.length,VR.nil.k⟩) _::((vo A2 51 VR.nil [])++([])))) Z (D1i (v:=.tuple #[pt m 0,iv _]) 17 Z (cF 5 11 12 Z ?_))
  refine kc_ ?_
  refine k_ ?_
  refine ie (G3 Z (fun a7=>?_) (fun a7=>?_))
  ·have a3:=bV a7
   refine k_ ?_
   refine bY 3 5 [3,2] [(23,ag (C9 a ⟨aQ,aR.length,aK⟩)),(24,ag (C9 b ⟨bQ,bR.length,bK⟩)),(25,.slice lq l.length lk)] ?_
   obtain ⟨y8,aj,hR⟩:=C3 hR
   refine zc Z (D8x aj g bW bW d) fun ⟨⟨a8,n⟩,a5⟩=>?_
   try dsimp only at a5
   obtain ⟨a6,ah⟩:=a5
   have:=C9c a aR b bR l;try rw [aj] at this
   refine bP 4 12 Z (A1 (nx (A7i (un fun e=>un fun h=>un fun hL hLr=>(B0z e h hL=R∧bT 6 hL.length hLr,[(9,pt u 0),(11,pt m 0),(12,iv e)],(A::bx y (F5 c) 29::bx b2 (C9 b ⟨bQ,bR.length,bK⟩) 26::bx b1 (C9 a ⟨aQ,aR.length,aK⟩) 26::bx m (A2i h ⟨va hLr.q,hL.length,hLr.k⟩) 65::((vo F0 68 a8 n)++((vo A2 51 hLr hL)++([])))),[D8 D0 n y8.2.1,sl F0 aQ aZ,D8 D0 aZ aR,sl F0 bQ bZ,D8 D0 bZ bR,sl H1 lq l,A1o,A1p,M1,P0])) ?_ ?_)))
   ·refine k_ ?_
    refine ie (G3 Z (fun s=>?_) (fun s=>?_))
    ·have am:=bV s
     replace hR:=bt hR s
     refine kc_ ?_
     refine bY 3 2 [2] [(31,pt m 0),(32,ag (C9 b ⟨bQ,bR.length,bK⟩)),(33,.slice lq l.length lk)] ?_
     obtain ⟨z,al,hR⟩:=C3 hR
     refine zc Z (B9b al bT.nil d bW bW bW bW oxw oxw (by first|assumption|exact C1w oiu (by have:=this;omega)|exact E1d oiu opx|exact C1w oiu opx|(intro k hk;have:k=0:=by simp only [List.length_cons,List.length_nil] at hk;omega))) fun ⟨j,t⟩=>?_
     have:=B6e y1.2.1 ([]:jz) b bR l;try rw [al] at this
     refine k_ ?_
     refine Y9 (I8 [_,_,_,_,_,_,_] [1,2,3,4,0,6,5] 7 Z ozw Z [[_],[_],[_],[_],[bx m (A2i _ ⟨va j.q,_,j.k⟩) _],vo _ _ _ n,vo _ _ j _] Z opv) ?_
     exact S6 (_,_,_,j) ⟨hR,t⟩ bU A7.refl
    replace hR:=bf hR s
    refine A4 ?_
    exact S6 (_,_,_,_) ⟨hR,bT.nil⟩ bU A7.refl
   rintro ⟨e,h,hL,hLr⟩
   rintro ⟨hR,w⟩
   rw[B0z]at hR
   refine k_ ?_
   refine ie (G3 Z (fun p=>?_) (fun p=>?_))
   ·have ao:=bV p
    replace hR:=bt hR p
    refine k_ ?_
    refine zru 5 [0] [(8,.slice none 0 0),(10,iv e)] 0 A ?_
    subst hR
    refine ie (A8 ?_)
    exact cc (E6f Z A6 (E8 D3l Z 0) A6) ⟨_,bT.nil⟩
   replace hR:=bf hR p
   refine A4 (nx ?_)
   refine zS [(10,[0]),(12,[1]),(12,[2]),(12,[3]),(12,[4]),(12,[5]),(12,[6])] ?_
   refine hq2 [0,1,2,4,5,6,7] 41 46 Z ?_
   refine gl 3 [0,1,2,3,4,5,6] Z (B8 (v:=.slice (va _) hL.length hLr.k) C2z Z Z 4) ?_
   refine hq1 [9] 8 Z ?_
   refine gl 8 [0,1,2,3,4,5,6] Z (G6 (us:=F5 _) D3l Z Z 4) ?_
   refine go 10 [1,2,3,4,5,6] Z (O9 (us:=F5 h.cur) (cs':=F5 h.cur) D3l Z Z Z 0) fun _=>?_
   refine hq1 [11] 10 Z ?_
   refine ge ?_
   subst hR
   refine A8 ?_
   exact cc (E6f Z A6 (E8 D3l Z 0) A6) ⟨_,w⟩
  have a3:=bV a7
  exfalso;exact absurd ai a3
def A6t (b:jz):jz→Nat→Bool
 | [],i=>true
 | hd_l0::tl_l0,i=>(bif (!(decide (hd_l0=(b.getD i ZZ)))) then false else A6t b tl_l0 (i+1))
def A6s (a:jz) (b:jz):Bool :=
 (bif (!decide ((a.length:Int)=(b.length:Int))) then false else A6t b a 0)
theorem C1i {a b:jz} {aq:kQ} {ak:Nat} {bq:kQ} {bk:Nat} {R:Bool} (hR:A6s a b=R) (k:a.length≤9223372036854775807:=by exact bW) (j:a.length≤ak:=by exact bW) (o:b.length≤9223372036854775807:=by exact bW) (h:b.length≤bk:=by exact bW):J7 prog 10 [.slice aq a.length ak,.slice bq b.length bk] [sl A2 aq a,sl A2 bq b] (bv R):=by
 refine cD Tryz.func10 fun X hX hr hD=>?_
 rw[A6s]at hR
 refine bS Z (pp0 1 Z (ie (A3 (bS Z (bP 5 10 Z (ie ?_))))))
 refine zjn Z hR ?_ ?_<;>intro hR s m
 ·refine bS Z (bP 1 4 Z ?_)
  subst hR
  exact q8
 refine A4 (nx (A3 (bS Z (bP 1 5 Z (ie (A9 (A1y (fun i=>(i≤a.length∧A6t b (a.drop i) i=R,[(0,_),(1,_),(5,iv i)],_,_,a.length - i)) 0 ⟨opx,hR⟩ bU A7.refl ?_)))))))
 rintro i ⟨n,hR⟩
 refine A3 (bS Z (bP 4 14 Z (ie (G3 Z (fun g=>?_) (fun g=>?_)))))
 ·have f:=bV g
  rw [A1a ZZ (show i<a.length by omega)] at hR;rw[A6t]at hR
  refine A4 (nx (A3 (A9 (sd 9 Z oki Z (pd2 2 17 18 Z (B2k 0 Z opx fun p e=>(dd Z (E7 N3 Z Z e Z i) (dd Z (J0 C5s Z Z (F8 (sz:=6) e jJ 0 Z (gd ZZ opx)) Z) (pd2 2 21 22 Z (B2k 1 Z opx fun r d=>(dd Z (E7 N3 Z Z d Z i) (dd Z (J0 C5s Z Z (F8 (sz:=6) d jJ 1 Z (gd _ opx)) Z) (dd Z (A0f (b:=(b.getD i ZZ)) D9w Z Z Z) (de ?_))))))))))))))
  refine zjn Z hR ?_ ?_<;>intro hR q l
  ·refine bS Z (bP 1 4 Z ?_)
   subst hR
   exact q8
  refine A4 (nx (A0 3 Z (bP 1 15 Z (ix Z B1 (bP 1 5 Z (A1 ?_))))))
  exact z0 _ ⟨opx,hR⟩
 have f:=bV g
 rw [A1b f] at hR;rw[A6t]at hR
 refine F1 (nx (bS Z (bP 1 4 Z ?_)))
 subst hR
 exact q8
def B9a:Bool :=
 (B5 B8e fun (c:FrmC×jj)=>(B5 (E2l c.1 c.2) fun (g:jz×Int)=>(B5 (B2d 3 1) fun (f:FrmC×jj)=>(B5 B8e fun (h:FrmC×jj)=>(B5 (A9i f.1 f.2 h.1 h.2 ([{ZY with tt:=1}]:List Sp3) ({ZS with col:=2})) fun (b:jz×Cur×Int)=>(B5 B8e fun (d:FrmC×jj)=>(B5 B8e fun (e:FrmC×jj)=>(B5 (D1e d.1 d.2 e.1 e.2 ({ZS with row:=1})) fun (a:jz×Int)=>((((((decide (g.2=0))&&(A6s g.1 ([{ZZ with kind:=15},{ZZ with kind:=37,n:=1049,m:=1},{ZZ with kind:=1,n:=97},{ZZ with kind:=1,n:=98}]:jz)))&&(decide (b.2.2=0)))&&(A6s b.1 ([{ZZ with kind:=6},{ZZ with kind:=1,n:=97}]:jz)))&&(decide (b.2.1={ZS with col:=1})))&&(decide (a.2=2)))))))))))
theorem D9p (R:Bool) (hR:B9a=R):J7 prog 5 [] [A1o,A1p,M1,P0] (bv R):=by
 refine cD Tryz.func5 fun X hX hr hD=>?_
 rw[B9a]at hR
 refine bS Z (pp0 1 Z (ie (bS Z ?_)))
 obtain ⟨y0,a9,hR⟩:=C3 hR
 refine zc Z (C2b y0 a9) fun ⟨⟨q1,ao,k3⟩,am⟩=>?_
 obtain ⟨aa,bo,bn⟩:=am
 have:=B2w;try rw [a9] at this
 obtain ⟨y9,b3,hR⟩:=C3 hR
 refine zc Z (F3n (f:=y0.1) (fR:=y0.2) (fQ:=q1) (fZ:=ao) (fK:=k3) b3 aa bW bW opd) fun ⟨r8,y⟩=>?_
 have:=bT.lc y
 refine P2 [] _ y opv (cF 5 1 2 Z (ie (bS Z (bY 4 2 [] [(14,ag (A2 ({ZZ with kind:=15}))),(15,ag (A2 ({ZZ with kind:=37,n:=1049,m:=1}))),(16,ag (A2 ({ZZ with kind:=1,n:=97}))),(17,ag (A2 ({ZZ with kind:=1,n:=98})))] (it Z (B0 (c:=A2) (xs:=[{ZZ with kind:=15},{ZZ with kind:=37,n:=1049,m:=1},{ZZ with kind:=1,n:=97},{ZZ with kind:=1,n:=98}]) N3 Z Z Z oki) fun al=>?_)))))
 have:([{ZZ with kind:=15},{ZZ with kind:=37,n:=1049,m:=1},{ZZ with kind:=1,n:=97},{ZZ with kind:=1,n:=98}]:jz).length=4:=rfl
 refine bP 1 3 Z (ie (bS Z ?_))
 obtain ⟨y4,x,hR⟩:=C3 hR
 refine zc Z (D9s x) fun ⟨⟨z,s⟩,p⟩=>?_
 try dsimp only at p
 obtain ⟨o,i⟩:=p
 have:=bT.lc o
 have:=D2t 3 1;try rw [x] at this
 have ar:(B2d 3 1).1.title.length=0:=rfl;rw [x] at ar
 refine P2 [] _ (bT.cast o (by rw [i.1])) opv ?_
 obtain ⟨y5,a4,hR⟩:=C3 hR
 refine zc Z (C2b y5 a4) fun ⟨⟨aw,a2,ay⟩,ae⟩=>?_
 obtain ⟨t,ba,bb⟩:=ae
 have:=B2w;try rw [a4] at this
 refine bY 1 11 [] [(22,ag (H1 ({ZY with tt:=1})))] (it Z (B0 (c:=H1) (xs:=[{ZY with tt:=1}]) C6l Z Z Z oki) fun b0=>?_)
 have:([{ZY with tt:=1}]:List Sp3).length=1:=rfl
 refine bY 1 9 [] [(24,ag (F5 ({ZS with col:=2})))] ?_
 obtain ⟨g,az,hR⟩:=C3 hR
 refine zc Z (C8r (a:=y4.1) (aR:=y4.2) (b:=y5.1) (bR:=y5.2) (l:=([{ZY with tt:=1}]:List Sp3)) (c:=({ZS with col:=2})) (aQ:=(va z.q)) (aZ:=s) (aK:=z.k) (bQ:=aw) (bZ:=a2) (bK:=ay) (lq:=(some ⟨b0,0,none⟩)) (lk:=1) az i bW bW t bW bW bW bW opd opd oxw) fun ⟨e,h⟩=>?_
 have:=bT.lc h
 refine P2 [] _ h opv (cI 8 [0] (fun w=>[(5,pt w 0),(4,.slice (va e.q) g.1.length e.k),(6,iv g.2.2)]) (fun _=>(F5 g.2.1)) 29 fun w=>?_)
 refine ie (bS Z ?_)
 obtain ⟨y7,a0,hR⟩:=C3 hR
 refine zc Z (C2b y7 a0) fun ⟨⟨b6,ad,an⟩,ah⟩=>?_
 obtain ⟨v,bi,bc⟩:=ah
 have:=B2w;try rw [a0] at this
 obtain ⟨y6,a6,hR⟩:=C3 hR
 refine zc Z (C2b y6 a6) fun ⟨⟨ap,a8,ax⟩,ac⟩=>?_
 obtain ⟨u,be,bl⟩:=ac
 have:=B2w;try rw [a6] at this
 refine bY 1 6 [] [(32,ag (F5 ({ZS with row:=1})))] ?_
 obtain ⟨a1,ab,hR⟩:=C3 hR
 refine zc Z (E6z (a:=y7.1) (aR:=y7.2) (b:=y6.1) (bR:=y6.2) (c:=({ZS with row:=1})) (aQ:=b6) (aZ:=ad) (aK:=an) (bQ:=ap) (bZ:=a8) (bK:=ax) ab v bW bW u bW bW opd opd) fun ⟨b4,j⟩=>?_
 refine P2 [_] _ j opv (bP 5 8 Z (ie (bS Z (bP 3 38 Z (zid 4 21 38 42 (A6s y9.1 [{ZZ with kind:=15},{ZZ with kind:=37,n:=1049,m:=1},{ZZ with kind:=1,n:=97},{ZZ with kind:=1,n:=98}]) (fun aj b8=>?_) ?_)))))
 ·refine cF 2 39 40 Z (zv Z (C1i (b:=[{ZZ with kind:=15},{ZZ with kind:=37,n:=1049,m:=1},{ZZ with kind:=1,n:=97},{ZZ with kind:=1,n:=98}]) Z) (bP 1 42 Z ?_))
  exact zai 5 38 _ aj
 refine bP 1 43 Z (zia 3 17 43 46 (decide (g.2.2=0)) (fun a5=>?_) ?_)
 ·have bj:=bV a5
  exact bP 3 46 Z (zai 2 43 _ a5)
 refine bP 1 47 Z (zia 6 10 47 53 (A6s g.1 [{ZZ with kind:=6},{ZZ with kind:=1,n:=97}]) (fun a7=>?_) ?_)
 ·have bd:=bV a7
  refine bY 3 3 [] [(48,.slice (va e.q) g.1.length e.k),(49,ag (A2 ({ZZ with kind:=6}))),(50,ag (A2 ({ZZ with kind:=1,n:=97})))] (it Z (B0 (c:=A2) (xs:=[{ZZ with kind:=6},{ZZ with kind:=1,n:=97}]) N3 Z Z Z oki) fun b5=>?_)
  have:([{ZZ with kind:=6},{ZZ with kind:=1,n:=97}]:jz).length=2:=rfl
  refine zv Z (C1i (b:=[{ZZ with kind:=6},{ZZ with kind:=1,n:=97}]) Z) (bP 1 53 Z ?_)
  exact A1 (I1 7 47 _ a7 c9 bU Z Z Z Z Z)
 refine bP 1 54 Z (zia 4 5 54 58 (decide (g.2.1={ZS with col:=1})) (fun af=>?_) ?_)
 ·have b9:=bV af
  refine bY 2 2 [0] [(55,ag _),(56,ag _)] (ix Z (A3m (a:=g.2.1) (b:={ZS with col:=1}) F4m Z Z Z) (bP 1 58 Z ?_))
  exact zai 5 54 _ af
 refine bP 1 59 Z (zia 3 1 59 62 (decide (a1.2=2)) (fun a3=>?_) ?_)
 ·have bh:=bV a3
  exact bP 3 62 Z (zai 2 59 _ a3)
 refine bP 1 0 Z ?_
 subst hR
 exact q8
end
end Go.Proofs.YtmldjljkeigpnaaGreatDoor
