import Derived.Test.YtgimbmncdmnklaaGreatDoorProg
import Derived.Test.YtgimbmncdmnklaaGreatDoorMA2
import Derived.Test.YtgimbmncdmnklaaGreatDoorMB1
import Derived.Test.YtgimbmncdmnklaaGreatDoorMA3
import Derived.Test.YtgimbmncdmnklaaGreatDoorMB2
import Derived.Test.YtgimbmncdmnklaaGreatDoorMB3
import Derived.Test.YtgimbmncdmnklaaGreatDoorMQ1
import Derived.Test.YtgimbmncdmnklaaGreatDoorMQ2
set_option linter.unusedVariables false
set_option linter.unusedSimpArgs false
set_option linter.unnecessarySimpa false
set_option maxRecDepth 100000
namespace Go.Proofs.YtgimbmncdmnklaaGreatDoor
open Go Go.Fen
theorem F4z:ApTy Tryz.prog 27 37 3 24:=⟨by kernel_rfl,by kernel_rfl,rfl⟩
theorem D1x:SlTy Tryz.prog 27 37 3:=⟨by kernel_rfl,by kernel_rfl⟩
theorem E5w:Ty Tryz.prog 22 1 false:=⟨by kernel_rfl⟩
theorem F0v:Ty Tryz.prog 27 1 false:=⟨by kernel_rfl⟩
theorem E7e:Ty Tryz.prog 37 3 true:=⟨by kernel_rfl⟩
def J1 (a:FrmC) (aR:List (List Cel)) (b:FrmC) (bR:List (List Cel)):Int :=
 (bif (!decide ((P2 a aR)=0)) then (P2 a aR) else (bif (!decide ((P2 b bR)=0)) then (P2 b bR) else (bif ((!decide (a.cols=b.cols))||(!decide ((aR.length:Int)=(bR.length:Int)))) then 2 else 0)))
theorem Z1 {a:FrmC} {aR:List (List Cel)} {b:FrmC} {bR:List (List Cel)}
  (h:J1 a aR b bR=0) :
  (2≤a.cols∧a.cols≤80∧1≤aR.length∧aR.length≤40∧∀ i,i<aR.length→((aR.getD i []).length:Int)=a.cols) ∧
  (2≤b.cols∧b.cols≤80∧1≤bR.length∧bR.length≤40∧∀ i,i<bR.length→((bR.getD i []).length:Int)=b.cols)∧a.cols=b.cols∧aR.length=bR.length:=by
 unfold J1 at h
 cases h1:decide (P2 a aR=0) with
 | false=>rw [h1] at h;simp at h h1;exact absurd h h1
 | true =>
  rw [h1] at h
  cases h2:decide (P2 b bR=0) with
  | false=>rw [h2] at h;simp at h h2;exact absurd h h2
  | true =>
   rw [h2] at h
   simp only [decide_eq_true_eq] at h1 h2
   refine ⟨B9n h1,B9n h2,?_⟩
   simp only [Bool.not_true,cond_false] at h
   cases h3:decide (a.cols=b.cols)<;>cases h4:decide ((aR.length:Int)=(bR.length:Int))<;>rw [h3,h4] at h<;>simp at h h3 h4
   exact ⟨by omega,by omega⟩
theorem B0x {a:FrmC} {aR:List (List Cel)} {b:FrmC} {bR:List (List Cel)} {aQ:Option Addr} {aZ:List Slc} {aK:Nat} {bQ:Option Addr} {bZ:List Slc} {bK:Nat} {R:Int} (hR:J1 a aR b bR=R) (e:B4 aZ aR:=by exact bW) (h:aR.length≤9223372036854775807:=by exact bW) (g:aR.length≤aK:=by exact bW) (d:B4 bZ bR:=by exact bW) (f:bR.length≤9223372036854775807:=by exact bW) (i:bR.length≤bK:=by exact bW) (w:a.title.length≤100000000:=by exact bW) (s:b.title.length≤100000000:=by exact bW):J5 Tryz.prog 36 [ag (C2 a ⟨aQ,aR.length,aK⟩),ag (C2 b ⟨bQ,bR.length,bK⟩)] [sl D9 aQ aZ,D5 D8 aZ aR,sl D9 bQ bZ,D5 D8 bZ bR,U5,U8] (iv R):=by
 refine cC Tryz.func36 fun X hX hr hD=>?_
 replace hR:=(J1.eq_1 ..).symm.trans hR
 refine bS rfl (B6z 3 [] (fun k p=>[(2,pt k 0),(3,pt p 0)]) (fun _ _=>(C2 a ⟨aQ,aR.length,aK⟩)) (fun _ _=>(C2 b ⟨bQ,bR.length,bK⟩)) 26 26 fun k p=>(ie (A3 (bS rfl (c9 4 0 [1,0] [(10,ag [iv a.cols,.slice aQ aR.length aK,iv a.cursor.row,iv a.cursor.col,bv a.visible,iv a.shape,sv a.title,iv b.cols,.slice bQ bR.length bK,iv b.cursor.row,iv b.cursor.col,bv b.visible,iv b.shape,sv b.title]),(11,iv 0)] (ie (A9 (Y9 4 ?_))))))))
 refine E7 (bS rfl (bP 1 12 rfl ?_))
 refine ie (A3 (J4 rfl (A4 (nx (A3 (A9 (bS rfl (ix rfl (E8 (v:=ag [_,_,_,_,_,_,_]) Tryz.underlying149 C2f rfl rfl rfl 0 rfl ozw rfl rfl rfl) ?_))))))))
 refine zra 2 [0] (fun m=>[(6,pt m 0)]) (fun _=>(C2 a ⟨aQ,aR.length,aK⟩)) 26 fun m=>?_
 refine ie (bS rfl (c9 1 2 [0] [(14,ag (C2 a _))] (zv rfl (B6b rfl e) (bP 1 7 rfl (ie (bS rfl (bP 2 17 rfl (ie ?_))))))))
 refine zjn rfl hR ?_ ?_<;>clear hR<;>intro hR u t
 ·refine bS rfl (bP 2 4 rfl ?_)
  subst hR
  refine ie (A8 ?_)
  exact F7 hr hD
 refine A4 (nx (A1 2 rfl (ix rfl (B3 (c:=1) rfl rfl rfl rfl ozw) (bP 1 11 rfl (A2 (E7 (bS rfl (bP 1 12 rfl (ie (A3 (J4 rfl (A4 (nx (A3 (A9 (bS rfl (ix rfl (E8 (v:=ag [_,_,_,_,_,_,_]) Tryz.underlying149 C2f rfl rfl rfl 1 rfl ozw rfl rfl rfl) ?_)))))))))))))))))
 refine zra 2 [0] (fun l=>[(6,pt l 0)]) (fun _=>(C2 b ⟨bQ,bR.length,bK⟩)) 26 fun l=>?_
 refine ie (bS rfl (c9 1 2 [0] [(14,ag _)] (zv rfl (B6b rfl d) (bP 1 7 rfl (ie (bS rfl (bP 2 17 rfl (ie ?_))))))))
 refine zjn rfl hR ?_ ?_<;>clear hR<;>intro hR x r
 ·refine bS rfl (bP 2 4 rfl ?_)
  subst hR
  refine ie (A8 ?_)
  exact F7 hr hD
 refine A4 (nx (A1 2 rfl (ix rfl (B3 (c:=2) rfl rfl rfl rfl ozw) (bP 1 11 rfl (A2 (E7 (bS rfl (bP 1 12 rfl (ie (A3 (A4r rfl (F4 (nx (A3 (bS rfl (cF 6 [3,2] 25 rfl ?_))))))))))))))))
 refine zio 8 0 25 33 (!decide (aR.length=(bR.length:Int))) (fun n=>?_) ?_
 ·have q:=bV n
  refine cF 8 [3,2] 33 rfl ?_
  exact zai 2 25 _ n
 refine ie ?_
 refine zjb rfl hR ?_ ?_<;>clear hR<;>intro hR o
 ·have j:=bV o
  refine bS rfl (bP 1 4 rfl ?_)
  subst hR
  refine ie (A8 ?_)
  exact F7 hr hD
 refine A4 (nx (bS rfl (bP 1 4 rfl ?_)))
 subst hR
 refine ie (A8 ?_)
 exact F7 hr hD
def G1 (row:Int) (a:List Cel) (b:List Cel):List Cel×List Cel×Int :=
 (a,b,row)
theorem C8s {row:Int} {a b:List Cel} {aq:Option Addr} {ak:Nat} {bq:Option Addr} {bk:Nat} {R:List Cel×List Cel×Int} (hR:G1 row a b=R) (h:a.length≤9223372036854775807:=by exact bW) (g:a.length≤ak:=by exact bW) (i:b.length≤9223372036854775807:=by exact bW) (f:b.length≤bk:=by exact bW):Con Tryz.prog 53 [iv row,.slice aq a.length ak,.slice bq b.length bk] [] [sl D8 aq a,sl D8 bq b] (Addr×{t:Option Addr×Nat // R.1.length≤t.2∧R.1.length≤9223372036854775807}×Addr×{t:Option Addr×Nat // R.2.1.length≤t.2∧R.2.1.length≤9223372036854775807}×Addr) (fun x=>.func (.func 85) #[] #[pa x.1,pa x.2.2.1,pa x.2.2.2.2]) (fun x=>[]) (fun x=>[at_ x.1 [.slice x.2.1.1.1 R.1.length x.2.1.1.2],sl D8 x.2.1.1.1 R.1,at_ x.2.2.1 [.slice x.2.2.2.1.1.1 R.2.1.length x.2.2.2.1.1.2],sl D8 x.2.2.2.1.1.1 R.2.1,at_ x.2.2.2.2 [iv R.2.2]]):=by
 refine cC Tryz.func53 fun X hX hr hD=>?_
 replace hR:=(G1.eq_1 ..).symm.trans hR
 refine bS rfl (it rfl (A0h rfl rfl rfl) fun c=>?_)
 refine A3w 0 rfl ?_
 refine it rfl (A0h rfl rfl rfl) fun d=>?_
 refine A3w 0 rfl ?_
 refine it rfl (A0h rfl rfl rfl) fun e=>?_
 refine A3w 0 rfl ?_
 refine pp0 1 rfl (ie (bS rfl (ip' 2 0 [(6,.func (.func 85) #[] #[pa ⟨d,0,none⟩,pa ⟨e,0,none⟩,pa ⟨c,0,none⟩])] ?_)))
 subst hR
 refine ie (A8 ?_)
 exact cD hr hD (K7 rfl (A6 rfl)) (_,(zq _ _),_,(zq _ _),_) bU cB
def A4a (a:List Cel) (b:List Cel) (i:Int):Bool :=
 ((decide ((a.getD ((i).toNat) Cel.zero).wide=1))||(decide ((b.getD ((i).toNat) Cel.zero).wide=1)))
theorem C7q {a b:List Cel} {i:Int} {aq:Option Addr} {ak:Nat} {bq:Option Addr} {bk:Nat} {R:Bool} (hR:A4a a b i=R) (h:a.length≤9223372036854775807:=by exact bW) (g:a.length≤ak:=by exact bW) (k:b.length≤9223372036854775807:=by exact bW) (f:b.length≤bk:=by exact bW) (q:0≤i:=by exact bW) (n:i<a.length:=by exact bW) (o:i<b.length:=by exact bW):J5 Tryz.prog 86 [.slice aq a.length ak,.slice bq b.length bk,iv i] [sl D8 aq a,sl D8 bq b] (bv R):=by
 refine cC Tryz.func86 fun X hX hr hD=>?_
 replace hR:=(A4a.eq_1 ..).symm.trans hR
 refine bS rfl (pp0 1 rfl (ie (bS rfl (cG 2 7 8 rfl (K8 0 rfl opx fun p d=>(ix rfl (F8 A1g rfl rfl d rfl _ opx opx) (bP 1 10 rfl (ix rfl (C9 cH rfl rfl (X7 (H2 (sz:=12) d (fun _=>rfl) 0 rfl (gd _ opx)) (ws:=[iv ((a.getD ((i).toNat) Cel.zero).wide)]) 3 1 rfl) rfl) (bP 2 13 rfl ?_)))))))))
 refine zir 7 1 13 20 (decide ((b.getD ((i).toNat) Cel.zero).wide=1)) (fun l j=>?_) ?_
 ·refine cG 2 14 15 rfl (K8 1 rfl opx fun m e=>(ix rfl (F8 A1g rfl rfl e rfl _ opx opx) (bP 1 17 rfl (ix rfl (C9 cH rfl rfl (X7 (H2 (sz:=12) e (fun _=>rfl) 1 rfl (gd _ opx)) (ws:=[iv ((b.getD ((i).toNat) Cel.zero).wide)]) 3 1 rfl) rfl) (bP 2 20 rfl ?_)))))
  exact zai 7 13 _ l
 refine bP 1 6 rfl ?_
 subst hR
 refine ie (A8 ?_)
 exact F7 hr hD
def Q2 (c0:List Cel) (c1:List Cel) (c2:Int) (from_:Nat) (a:Nat→List Sp3):Nat→Nat→Bool→List Sp3
 | 0,_,_=>[]
 | fu3+1,to_,differs=>(bif ((decide ((to_:Int)<(c0.length:Int)))&&(A4a c0 c1 ((to_:Int) - 1))) then Q2 c0 c1 c2 from_ a fu3 (to_+1) (differs||(!(decide ((c0.getD to_ Cel.zero)=(c1.getD to_ Cel.zero))))) else (bif differs then ((⟨c2,(from_:Int),(to_:Int)⟩:Sp3)::a to_) else a to_))
def P1 (c0:List Cel) (c1:List Cel) (c2:Int):Nat→Nat→List Sp3
 | 0,_=>[]
 | fu1+1,from_=>(bif (decide ((from_:Int)<(c0.length:Int))) then Q2 c0 c1 c2 from_ (P1 c0 c1 c2 fu1) ((c0.length - (from_+1))+1) (from_+1) (!(decide ((c0.getD from_ Cel.zero)=(c1.getD from_ Cel.zero)))) else [])
def A2o (c0:List Cel) (c1:List Cel) (c2:Int):List Sp3 :=
 P1 c0 c1 c2 ((c0.length - 0)+1) 0
theorem B0q (c0 c1:List Cel) (c2:Int) (f:Nat) (ag:Nat→List Sp3) (b:∀ t,t≤c0.length→(ag t).length≤c0.length - t) :
  ∀ (fu a:Nat) (d:Bool),a≤c0.length→(Q2 c0 c1 c2 f ag fu a d).length≤1+(c0.length - a)
 | 0,a,d,h=>by simp [Q2]
 | fu+1,a,d,h=>by
  simp only [Q2]
  cases hc:(decide ((a:Int)<(c0.length:Int))&&A4a c0 c1 ((a:Int) - 1)) with
  | false=>have:=b a h;cases d<;>simp<;>omega
  | true =>
   simp only [Bool.and_eq_true,decide_eq_true_eq] at hc
   have c:=fun e=>B0q c0 c1 c2 f ag b fu (a+1) e opx
   simp only [cond_true]
   exact Nat.le_trans (c _) opx
theorem B0o (c0 c1:List Cel) (c2:Int):∀ (fu f:Nat),f≤c0.length→(P1 c0 c1 c2 fu f).length≤c0.length - f
 | 0,f,h=>by simp [P1]
 | fu+1,f,h=>by
  simp only [P1]
  cases hc:decide ((f:Int)<(c0.length:Int)) with
  | false=>simp
  | true =>
   simp only [decide_eq_true_eq] at hc
   simp only [cond_true]
   exact Nat.le_trans (B0q c0 c1 c2 f _ (fun t a=>B0o c0 c1 c2 fu t a) _ _ _ opx) opx
theorem B3w (c0 c1:List Cel) (c2:Int):(A2o c0 c1 c2).length≤c0.length:=by
 have:=B0o c0 c1 c2 (c0.length - 0+1) 0 (Nat.zero_le _);simpa [A2o] using this
theorem C6c (c0:List Cel) (c1:List Cel) (c2:Int) (o:Addr) (e:Option Addr) (f:Nat) (p:Addr) (g:Option Addr) (h:Nat) (q:Addr) (a8:c0.length≤9223372036854775807) (a9:c0.length≤f) (a6:c1.length≤9223372036854775807) (a7:c1.length≤h) (hl:c0.length=c1.length) (h6:c0.length≤1000000) (R:List Sp3) (hR:A2o c0 c1 c2=R):C4v Tryz.prog 85 [pa o,pa p,pa q] [sl D8 e c0,at_ o [.slice e c0.length f],sl D8 g c1,at_ p [.slice g c1.length h],at_ q [iv c2]] (fun x=>ag (G0 x)) R:=by
 refine D4g (n:=59) Tryz.func85 rfl oki rfl rfl (fun l=>[(0,_),(1,_),(2,_),(3,_)]) (fun l=>⟨rfl,rfl,rfl,rfl,trivial⟩) fun X l I Ix L Φ hX hr hD hI0 hY=>?_
 replace hR:=(A2o.eq_1 ..).symm.trans hR
 refine sr 1 rfl (ip' 1 0 [(5,iv 0)] (ie (A9 ?_)))
 refine F2w (fun fu from_ R_ Lt Ft=>((c0.length - from_)<fu∧P1 _ _ _ fu from_=R_∧I R_ Lt Ft∧from_≤c0.length,[(0,_),(1,_),(2,_),(3,_),(5,iv from_)],(Lt++([])),(sl _ e _::at_ o _::sl _ g _::at_ p _::at_ q _::Ft),fu)) _ 0 R L _ ⟨(Nat.lt_succ_self _),hR,hI0,opx⟩ (mc [L] [true] rfl oxs) (A7.con1 (A5 0 rfl) (A7.con1 (A5 1 rfl) (A7.con1 (A5 2 rfl) (A7.con1 (A5 3 rfl) (A7.con1 (A5 4 rfl) (A7.dropT 5 rfl)))))) ?_
 rintro fu from_ R_ Lt Ft ⟨ad,hR,z,hf⟩
 obtain ⟨fu1,rfl⟩:∃ m,fu=m+1:=⟨fu - 1,by omega⟩
 replace hR:=(P1.eq_2 ..).symm.trans hR
 refine A3 (sr 4 rfl (ip' 1 3 [(8,iv from_)] ?_))
 refine ix rfl (C9 B3x rfl rfl (A5 1 rfl) rfl) (ip' 2 0 [(11,bv (decide (from_<(c0.length:Int))))] (ie ?_))
 refine zjd rfl hR ?_ ?_<;>clear hR<;>intro hR h2 ac
 ·refine A4 (nx (A9 (sr 3 rfl (ip' 1 2 [(12,iv from_)] (ix rfl (B3 rfl rfl rfl rfl opx) (ip' 1 0 [(6,iv (from_+1))] (ie (sd _ rfl oki rfl (dd rfl (C9 B3x rfl rfl (A5 1 rfl) rfl) (dp' 1 8 [(15,iv from_)] ?_))))))))))
  refine B7d 0 rfl opx fun a3 s=>?_
  refine dd rfl (F8 A1g rfl rfl s rfl _ rfl opx) (dd rfl (K3 D2l rfl rfl (H2 (sz:=12) s (fun _=>rfl) 0 rfl (gd Cel.zero opx)) rfl) (dd rfl (C9 B3x rfl rfl (A5 3 rfl) rfl) (dp' 1 4 [(19,iv from_)] ?_)))
  refine B7d 2 rfl opx fun a5 t=>?_
  refine dd rfl (F8 A1g rfl rfl t rfl _ rfl opx) (dd rfl (K3 D2l rfl rfl (H2 (sz:=12) t (fun _=>rfl) 2 rfl (gd _ opx)) rfl) (dd rfl (Z3 (b:=(c1.getD _ Cel.zero)) E2q rfl rfl rfl) (dp' 1 0 [(7,bv (!(decide ((c0.getD from_ Cel.zero)=(c1.getD from_ Cel.zero)))))] (de (A3 (A9 ?_))))))
  refine F4s (fun u to_ d R_1 Lt1 Ft1=>((c0.length - to_)<u∧Q2 _ _ _ _ _ u to_ d=R_1∧I R_1 Lt1 Ft1∧to_≤c0.length∧from_<to_,[(0,_),(1,_),(2,_),(3,_),(5,_),(6,iv to_),(7,bv d)],(Lt1++([])),(sl _ e _::at_ o _::sl _ g _::at_ p _::at_ q _::Ft1),u)) _ _ _ _ _ _ ⟨(Nat.lt_succ_self _),hR,z,opx,opx⟩ (mc [_] [true] rfl oxs) (A7.con1 (A5 0 rfl) (A7.con1 (A5 1 rfl) (A7.con1 (A5 2 rfl) (A7.con1 (A5 3 rfl) (A7.con1 (A5 4 rfl) (A7.dropT 5 rfl)))))) ?_
  rintro u to_ d R_1 Lt1 Ft1 ⟨af,hR,k,ai,ab⟩
  obtain ⟨fu3,rfl⟩:∃ m,u=m+1:=⟨u - 1,by omega⟩
  replace hR:=(Q2.eq_2 ..).symm.trans hR
  refine A3 (sr _ rfl (ip' 1 10 [(23,iv to_)] ?_))
  refine ix rfl (C9 B3x rfl rfl (A5 1 rfl) rfl) (ip' 3 6 [(27,bv (decide (to_<(c0.length:Int))))] ?_)
  refine zid 6 0 27 33 (A4a c0 c1 (to_ - 1)) (fun g8 ah=>?_) ?_
  ·refine ix rfl (C9 B3x rfl rfl (A5 1 rfl) rfl) (ix rfl (C9 B3x rfl rfl (A5 3 rfl) rfl) (ip' 1 3 [(30,iv to_)] (ix rfl (M4 rfl rfl rfl rfl opx) (zca (C7q (i:=(to_ - 1)) (ak:=f) rfl) (A7.cons (A5 0 rfl) (A7.cons (A5 2 rfl) bX)) (ip' 1 0 [(33,bv (A4a c0 c1 ((to_:Int) - 1)))] ?_)))))
   exact A2 (J0 7 27 _ g8 A7.refl (mc [_] [true] rfl oxs) rfl rfl rfl rfl rfl)
  refine ie ?_
  refine zjb rfl hR ?_ ?_<;>clear hR<;>intro hR h9
  ·have a1:=h9;try simp only [Bool.and_eq_true,Bool.or_eq_true,Bool.and_eq_false_iff,Bool.or_eq_false_iff,Bool.not_eq_true',Bool.not_eq_false',decide_eq_true_eq,decide_eq_false_iff_not] at a1
   refine A4 (nx (A9 (sd _ rfl oki rfl (dp' 2 11 [(35,bv d)] ?_))))
   refine zdO _ 1 35 45 (!(decide ((c0.getD to_ Cel.zero)=(c1.getD to_ Cel.zero)))) (fun a4=>?_) ?_
   ·refine dd rfl (C9 B3x rfl rfl (A5 1 rfl) rfl) (dp' 1 8 [(37,iv _)] (dd rfl (F8 A1g rfl rfl s rfl _ rfl opx) (dd rfl (K3 (us:=D8 (c0.getD to_ _)) D2l rfl rfl (H2 (sz:=12) s (fun _=>rfl) 0 rfl (gd Cel.zero opx)) rfl) (dd rfl (C9 B3x rfl rfl (A5 3 rfl) rfl) (dp' 1 4 [(41,iv _)] (dd rfl (F8 A1g rfl rfl t rfl to_ rfl opx) ?_))))))
    refine dd rfl (K3 D2l rfl rfl (H2 (sz:=12) t (fun _=>rfl) 2 rfl (gd _ opx)) rfl) (dd rfl (Z3 (b:=(c1.getD _ Cel.zero)) E2q rfl rfl rfl) (dp' 1 0 [(45,bv (!(decide ((c0.getD to_ Cel.zero)=(c1.getD to_ Cel.zero)))))] ?_))
    exact zad 11 35 _ a4
   refine dp' 1 0 [(7,bv (d||(!(decide ((c0.getD to_ Cel.zero)=(c1.getD to_ Cel.zero))))))] (de (A1 3 rfl (ip' 1 2 [(46,iv to_)] (ix rfl (B3 rfl rfl rfl rfl opx) (ip' 1 0 [(6,iv (to_+1))] (A2 ?_))))))
   exact F4c _ _ _ _ _ _ ⟨opx,hR,k,opx,opx⟩ (Nat.lt_succ_self _) (mc [_] [true] rfl oxs) (A7.con1 (A5 0 rfl) (A7.con1 (A5 1 rfl) (A7.con1 (A5 2 rfl) (A7.con1 (A5 3 rfl) (A7.con1 (A5 4 rfl) (A7.dropT 5 rfl))))))
  have a1:=h9;try simp only [Bool.and_eq_true,Bool.or_eq_true,Bool.and_eq_false_iff,Bool.or_eq_false_iff,Bool.not_eq_true',Bool.not_eq_false',decide_eq_true_eq,decide_eq_false_iff_not] at a1
  refine F4 (nx (A3 (sr _ rfl (ip' 2 8 [(49,bv d)] ?_))))
  rcases Bool.eq_false_or_eq_true d with w | w
  ·refine D5k 49 rfl w ?_
   replace hR:=bt hR w
   refine ip' 1 7 [(50,.func (.yield l) #[] #[])] (ix rfl (C9 cH rfl rfl (A5 4 rfl) rfl) (c9 3 3 [] [(54,ag (G0 ⟨c2,(from_:Int),(to_:Int)⟩))] ?_))
   have r:=B8p hR;clear hR;obtain ⟨R12,hR,r⟩:=r;rw [r] at k
   refine it rfl (A4d (L2:=[]) (hY _ R12 _ _ k) rfl rfl rfl rfl (A7.dropT 5 rfl) (I1 [Lt1] [0] 1 rfl ozw rfl [Lt1] rfl ooa)) fun ⟨⟨a0,L14,Φ15⟩,j⟩=>?_
   refine A8l (A7.yield [_,_,_,_,_]) ?_
   refine ip' 2 0 [(57,bv (!a0))] ?_
   refine ie (G4 rfl (fun a2=>?_) (fun a2=>?_))
   ·have y:a0=false:=by simpa using a2
    rw [y] at j;try simp only [if_true,if_false,Bool.false_eq_true] at j
    refine A8 ?_
    exact B3k rfl ⟨hr,hD⟩ (by simp [hD]) (B0u rfl) (by exact .inr j) (mcT [_] 0 rfl rfl) (A7.dropT 5 rfl)
   ·have y:a0=true:=by simpa using a2
    rw [y] at j;try simp only [if_true,if_false,Bool.false_eq_true] at j
    refine A4 (nx (A1 2 rfl (ip' 2 0 [(5,iv to_)] (A2 ?_))))
    exact E9d _ _ _ _ _ ⟨opx,hR,j,opx⟩ (Nat.lt_succ_self _) (mc [_] [true] rfl oxs) (A7.con1 (A5 0 rfl) (A7.con1 (A5 1 rfl) (A7.con1 (A5 2 rfl) (A7.con1 (A5 3 rfl) (A7.con1 (A5 4 rfl) (A7.dropT 5 rfl))))))
  ·refine D5k 49 rfl w ?_
   replace hR:=bf hR w
   refine ip' 8 0 [(57,bv _)] (ie (A4r rfl (A4 (nx (A1 2 rfl (ip' 2 0 [(5,iv to_)] (A2 ?_)))))))
   exact E9d _ _ _ _ _ ⟨opx,hR,k,opx⟩ (Nat.lt_succ_self _) (mc [_] [true] rfl oxs) (A7.con1 (A5 0 rfl) (A7.con1 (A5 1 rfl) (A7.con1 (A5 2 rfl) (A7.con1 (A5 3 rfl) (A7.con1 (A5 4 rfl) (A7.dropT 5 rfl))))))
 subst hR
 refine F4 ?_
 exact X9 rfl ⟨hr,hD⟩ (by simp [hD]) (B0u rfl) (by exact .inl z) (mcT [_] 0 rfl rfl) (A7.dropT 5 rfl)
def A7c (a:Sp3) (b:Sp3):Bool :=
 ((decide (a.row=b.row))&&(decide (a.tt=b.frm)))
theorem D2o {a b:Sp3} {R:Bool} (hR:A7c a b=R):J5 Tryz.prog 55 [ag (G0 a),ag (G0 b)] [] (bv R):=by
 refine cC Tryz.func55 fun X hX hr hD=>?_
 replace hR:=(A7c.eq_1 ..).symm.trans hR
 refine bS rfl (B6z 3 [] (fun c d=>[(2,pt c 0),(3,pt d 0)]) (fun _ _=>(G0 a)) (fun _ _=>(G0 b)) 37 37 fun c d=>(ie (bS rfl (cF 6 [1,0] 10 rfl ?_))))
 refine zid 6 1 10 16 (decide (a.tt=b.frm)) (fun f e=>?_) ?_
 ·refine cF 6 [1,0] 16 rfl ?_
  exact A2 (J0 2 10 _ f bX bU rfl rfl rfl rfl rfl)
 refine bP 1 4 rfl ?_
 subst hR
 refine ie (A8 ?_)
 exact F7 hr hD
def Q7 (g:List Sp3) (s:Sp3):List Sp3 :=
 (bif ((decide ((0:Int)<(g.length:Int)))&&(A7c (g.getD (g.length - 1) Sp3.zero) s)) then (g.set (g.length - 1) ({(g.getD (g.length - 1) Sp3.zero) with tt:=(if s.tt > (g.getD (g.length - 1) Sp3.zero).tt then s.tt else (g.getD (g.length - 1) Sp3.zero).tt)})) else (g++([s]:List Sp3)))
theorem A7s (g:List Sp3) (s:Sp3):(Q7 g s).length≤g.length+1:=by
 unfold Q7;try simp only [Bool.cond_eq_ite]
 repeat' split
 all_goals simp
theorem ozm {p:Prop} (h:p:=by first|omega|(simp only [List.length_cons,List.length_nil,List.length_append,List.length_take,List.length_drop,G1];omega)):p:=h
theorem B7h {g:List Sp3} {s:Sp3} {d:Nat} {gr:VR} {R:List Sp3} (hR:Q7 g s=R) (e:bT 3 g.length gr:=by exact bW) (hg:g.length≤1000000:=by exact bW):Con Tryz.prog 54 [pt d 0,ag (G0 s),aC 55] (bx d [.slice (va gr.q) g.length gr.k] 128::((vo G0 37 gr g)++([]))) [] ({r:VR // bT 3 R.length r}) (fun x=>.tuple #[]) (fun x=>(bx d [.slice (va x.1.q) R.length x.1.k] 128::((vo G0 37 x.1 R)++([])))) (fun x=>[]):=by
 refine cC Tryz.func54 fun X hX hr hD=>?_
 replace hR:=(Q7.eq_1 ..).symm.trans hR
 have:=bT.le e
 refine bS rfl (zra 1 [] (fun h=>[(4,pt h 0)]) (fun _=>(G0 s)) 37 fun h=>(ie (A3 (bS rfl (cF 7 [1] 6 rfl (ie (sd 16 rfl oki rfl (pd1 3 15 rfl ?_))))))))
 refine zdd 13 0 15 28 (A7c (g.getD (g.length - 1) Sp3.zero) s) (fun y w=>?_) ?_
 ·refine zdg 7 6 [1] [(16,aC 55),(21,.slice (va gr.q) g.length gr.k),(22,iv (g.length:Int))] ?_
  refine dd rfl (M4 rfl rfl rfl rfl opx) ?_
  obtain ⟨b3,p⟩:=bT.some e opx
  obtain ⟨z,k6,j7⟩:=gr
  obtain rfl:z=some b3:=p
  refine dd rfl (A1k D1x rfl rfl rfl (g.length - 1) opx opx) (dd rfl (D9f (us:=G0 (g.getD (g.length - 1) Sp3.zero)) (c:=G0) (sz:=3) E7e (fun _=>rfl) rfl rfl 2 rfl (g.length - 1) 0 rfl (gd Sp3.zero opx) rfl rfl) ?_)
  refine zdg 1 2 [0] [(26,ag (G0 s))] ?_
  refine zvd rfl (D2o rfl) (pd1 1 28 rfl ?_)
  exact zad 10 15 28 y
 refine de ?_
 refine zjb rfl hR ?_ ?_<;>clear hR<;>intro hR t
 ·have o:=bV t
  refine sh 23 [(23,[bx h (G0 s) 37]),(23,[bx d [.slice (va gr.q) g.length gr.k] 128]),(22,vo G0 37 gr g)] [] (bx h (G0 s) 37::bx d [.slice (va gr.q) g.length gr.k] 128::((vo G0 37 gr g)++([]))) (cA 23 0) oki rfl oki oki oki bU A7.refl ?_
  refine zhp [0,1,2,3,5,7,8,9,10,12,17] 12 (cA 23 137135) [(32,pt d 0),(34,iv (g.length:Int)),(39,pt d 0),(41,iv (g.length:Int)),(46,pt h 2)] ?_
  refine zhl 4 (bx h (G0 s) 37::bx d [.slice (va gr.q) g.length gr.k] 128::((vo G0 37 gr g)++([]))) (cA 23 137151) rfl (C1 (v:=.slice (va gr.q) g.length gr.k) F0v rfl rfl 1 rfl rfl) ?_
  refine zhk 6 (cA 23 137215) rfl (M4 rfl rfl rfl rfl opx) (zhl 11 (bx h (G0 s) 37::bx d [.slice (va gr.q) g.length gr.k] 128::((vo G0 37 gr g)++([]))) (cA 23 139263) rfl (C1 (v:=.slice (va gr.q) g.length gr.k) F0v rfl rfl 1 rfl rfl) ?_)
  refine zhk 13 (cA 23 147455) rfl (M4 rfl rfl rfl rfl opx) ?_
  obtain ⟨b9,m⟩:=bT.some e opx
  obtain ⟨n,b,a⟩:=gr
  obtain rfl:n=some b9:=m
  refine zhl 14 (bx h (G0 s) 37::bx d [.slice (va (⟨some b9,b,a⟩:VR).q) g.length ((⟨some b9,b,a⟩:VR).k)] 128::((vo G0 37 (⟨some b9,b,a⟩:VR) g)++([]))) (cA 23 163839) rfl (A1k D1x rfl rfl rfl (g.length - 1) opx opx) ?_
  refine zhp [15] 6 (cA 23 196607) [(44,.pointer (some ⟨b9,(g.length - 1) * 3+2,none⟩))] ?_
  refine zhl 16 (bx h (G0 s) 37::bx d [.slice (va (⟨some b9,b,a⟩:VR).q) g.length ((⟨some b9,b,a⟩:VR).k)] 128::((vo G0 37 (⟨some b9,b,a⟩:VR) g)++([]))) (cA 23 262143) rfl (Z9 (u:=iv ((g.getD (g.length - 1) Sp3.zero).tt)) (c:=G0) (sz:=3) cH (fun _=>rfl) rfl rfl 2 rfl (g.length - 1) 2 rfl (gd Sp3.zero opx) rfl) ?_
  refine zhl 18 (bx h (G0 s) 37::bx d [.slice (va (⟨some b9,b,a⟩:VR).q) g.length ((⟨some b9,b,a⟩:VR).k)] 128::((vo G0 37 (⟨some b9,b,a⟩:VR) g)++([]))) (cA 23 524287) rfl (C1 (v:=iv s.tt) cH rfl rfl 0 rfl rfl) ?_
  refine zhp [19] 3 (cA 23 1048575) [(48,iv (if s.tt > (g.getD (g.length - 1) Sp3.zero).tt then s.tt else (g.getD (g.length - 1) Sp3.zero).tt))] ?_
  refine zhl 20 [bx h (G0 s) 37,bx d [.slice (va (⟨some b9,b,a⟩:VR).q) g.length ((⟨some b9,b,a⟩:VR).k)] 128] (cA 23 2097151) rfl (A1k D1x rfl rfl rfl (g.length - 1) opx opx) ?_
  refine zhp [21] 1 (cA 23 4194303) [(50,.pointer (some ⟨b9,(g.length - 1) * 3+2,none⟩))] ?_
  refine zho 22 [bx h (G0 s) 37,bx d [.slice (va (⟨some b9,b,a⟩:VR).q) g.length ((⟨some b9,b,a⟩:VR).k)] 128] (cA 23 8388607) rfl (A5x (us:=[iv (if s.tt > (g.getD (g.length - 1) Sp3.zero).tt then s.tt else (g.getD (g.length - 1) Sp3.zero).tt)]) (u':={(g.getD (g.length - 1) Sp3.zero) with tt:=(if s.tt > (g.getD (g.length - 1) Sp3.zero).tt then s.tt else (g.getD (g.length - 1) Sp3.zero).tt)}) (c:=G0) (sz:=3) cH (fun _=>rfl) rfl rfl rfl 2 rfl rfl rfl rfl (g.length - 1) 2 rfl (gd Sp3.zero opx) rfl rfl) (fun _=>bU) (fun _=>bX) fun _=>?_
  refine B4u oki ?_
  subst hR
  refine A8 ?_
  exact cD hr hD (B0u rfl) ⟨(⟨some b9,b,a⟩:VR),(bT.cast e oom)⟩ bU bX
 have o:=bV t
 refine A4 (nx ?_)
 refine sh' 13 [(13,[bx h (G0 s) 37]),(12,[bx d [.slice (va gr.q) g.length gr.k] 128]),(8,vo G0 37 gr g)] [] (bx h (G0 s) 37::bx d [.slice (va gr.q) g.length gr.k] 128::((vo G0 37 gr g)++([]))) (cA 13 0) oki rfl oki oki oki bU A7.refl ?_
 refine zhp [0,1,2,3,4] 8 (cA 13 31) [(51,pt d 0),(55,pt d 0)] ?_
 refine zhl 5 (bx h (G0 s) 37::bx d [.slice (va gr.q) g.length gr.k] 128::((vo G0 37 gr g)++([]))) (cA 13 63) rfl (C1 (v:=.slice (va gr.q) g.length gr.k) F0v rfl rfl 1 rfl rfl) ?_
 refine zhl 6 [bx h (G0 s) 37,bx d [.slice (va gr.q) g.length gr.k] 128] (cA 13 127) rfl (G7 (us:=G0 s) E7e rfl rfl 0 rfl rfl rfl) ?_
 refine zho 7 (bx h (G0 s) 37::bx d [.slice (va gr.q) g.length gr.k] 128::((vo G0 37 gr g)++([]))) (cA 13 255) rfl (B1 (c:=G0) (xs:=([s]:List Sp3)) D1x rfl rfl rfl oki) (fun l=>bU) (fun l=>bX) fun l=>?_
 have:([s]:List Sp3).length=1:=rfl
 refine zho 8 [bx h (G0 s) 37,bx d [.slice (va gr.q) g.length gr.k] 128] (cA 13 511) rfl (S7 (f:=G0) (r:=gr) (xs:=g) (ys:=([s]:List Sp3)) (pre:=[bx h (G0 s) 37,bx d [.slice (va gr.q) g.length gr.k] 128]) (post:=[]) F4z (fun _=>rfl) (fun _=>rfl) rfl rfl rfl rfl rfl rfl rfl rfl rfl (A5 0 rfl) e ozm ozm) (fun ⟨j,i⟩=>bU) (fun ⟨j,i⟩=>bX) fun ⟨j,i⟩=>?_
 have:=bT.le i
 have:=bT.cap i
 refine zhp [9,10,11] 1 (cA 13 4095) [(62,pt d 0)] ?_
 refine zho 12 [bx h (G0 s) 37] (cA 13 8191) rfl (P4 (us:=[.slice (va j.q) ((g++([s]:List Sp3)).length) j.k]) (cs':=[.slice (va j.q) ((g++([s]:List Sp3)).length) j.k]) F0v rfl rfl rfl 1 rfl rfl rfl rfl rfl rfl) (fun _=>bU) (fun _=>bX) fun _=>?_
 refine C0k oki ?_
 subst hR
 exact zen hr hD (B0u rfl) ⟨j,i⟩ bU bX
def P8 (b:Nat) (a:Nat→List Sp3→(List Sp3×Int)):List Sp3→List Sp3→(List Sp3×Int)
 | [],blist1=>a (b+1) blist1
 | el::rest,blist1=>(B6 (Q7 blist1 el) fun (c:List Sp3)=>P8 b a rest c)
def N3 (bR:List (List Cel)):List (List Cel)→Nat→List Sp3→(List Sp3×Int)
 | [],a,blist=>(blist,0)
 | hd_l0::tl_l0,a,blist=>P8 a (N3 bR tl_l0) (A2o ((G1 (a:Int) hd_l0 (bR.getD a [])).1) ((G1 (a:Int) hd_l0 (bR.getD a [])).2.1) ((G1 (a:Int) hd_l0 (bR.getD a [])).2.2)) blist
def A0u (a:FrmC) (aR:List (List Cel)) (b:FrmC) (bR:List (List Cel)):List Sp3×Int :=
 (bif (!decide ((J1 a aR b bR)=0)) then (([]:List Sp3),(J1 a aR b bR)) else N3 bR aR 0 ([]:List Sp3))
theorem B2t (a:Nat) (ag:Nat→List Sp3→List Sp3×Int) (B:Nat) (c:∀ l,(ag (a+1) l).1.length≤l.length+B):∀ (es b:List Sp3),(P8 a ag es b).1.length≤b.length+es.length+B
 | [],b=>by have:=c b;simp only [P8,List.length_nil];omega
 | e::es,b=>by
  have f:=A7s b e;have d:=B2t a ag B c es (Q7 b e)
  simp only [P8,B6,List.length_cons];omega
theorem B2u (bR:List (List Cel)):∀ (a:List (List Cel)) (t:Nat) (l:List Sp3),(∀ r ∈ a,r.length≤80)→(N3 bR a t l).1.length≤l.length+80 * a.length
 | [],t,l,_=>by simp [N3]
 | r::a,t,l,h=>by
  have e:=h r (List.mem_cons_self ..)
  have d:=B3w r (bR.getD t []) (t:Int)
  have c:=B2t t (N3 bR a) (80 * a.length) (fun l=>B2u bR a (t+1) l (fun x b=>h x (List.mem_cons_of_mem _ b))) (A2o r (bR.getD t []) (t:Int)) l
  simp only [N3,G1,List.length_cons];omega
theorem C5j (a:FrmC) (aR:List (List Cel)) (b:FrmC) (bR:List (List Cel)):(A0u a aR b bR).1.length≤3200:=by
 unfold A0u
 cases h:decide (J1 a aR b bR=0) with
 | false=>simp
 | true =>
  have e:=Z1 (of_decide_eq_true h)
  have d:=B2u bR aR 0 [] (fun r hr=>by
   obtain ⟨i,c,rfl⟩:=List.mem_iff_getElem.1 hr
   have:=e.1.2.2.2.2 i c
   rw [List.getD_eq_getElem?_getD,List.getElem?_eq_getElem c,Option.getD_some] at this
   omega)
  simp only [List.length_nil] at d
  simp only [Bool.not_true,cond_false]
  omega
def C2o (n:Nat) (c:Int) (s:Sp3):Prop:=(0≤s.row∧s.row<n)∧0≤s.frm∧s.frm<s.tt∧s.tt≤c
theorem C6y (c0 c1:List Cel) (r:Int) (f:Nat) (ag:Nat→List Sp3) (Q:Sp3→Prop) (b:∀ t:Nat,f<t→t≤c0.length→Q {Sp3.zero with row:=r,frm:=(f:Int),tt:=(t:Int)}) (a:∀ t,t≤c0.length→∀ s ∈ ag t,Q s) :
  ∀ (fu tt:Nat) (d:Bool),f<tt→tt≤c0.length→∀ s ∈ Q2 c0 c1 r f ag fu tt d,Q s
 | 0,tt,d,_,_,s,hs=>by simp [Q2] at hs
 | fu+1,tt,d,h1,h2,s,hs=>by
  simp only [Q2] at hs
  cases hc:(decide ((tt:Int)<(c0.length:Int))&&A4a c0 c1 ((tt:Int) - 1)) with
  | true =>
   rw [hc,cond_true] at hs
   simp only [Bool.and_eq_true,decide_eq_true_eq] at hc
   exact C6y c0 c1 r f ag Q b a fu (tt+1) _ opx opx s hs
  | false =>
   rw [hc,cond_false] at hs
   cases d with
   | false=>exact a tt h2 s (by simpa using hs)
   | true =>
    simp only [cond_true,List.mem_cons] at hs
    rcases hs with rfl | hs
    ·exact b tt h1 h2
    ·exact a tt h2 s hs
theorem C6f (c0 c1:List Cel) (r:Int) (Q:Sp3→Prop) (a:∀ f t:Nat,f<t→t≤c0.length→Q {Sp3.zero with row:=r,frm:=(f:Int),tt:=(t:Int)}):∀ (fu f:Nat),f≤c0.length→∀ s ∈ P1 c0 c1 r fu f,Q s
 | 0,f,_,s,hs=>by simp [P1] at hs
 | fu+1,f,h,s,hs=>by
  simp only [P1] at hs
  cases hc:decide ((f:Int)<(c0.length:Int)) with
  | false=>rw [hc] at hs;simp at hs
  | true =>
   rw [hc,cond_true] at hs
   simp only [decide_eq_true_eq] at hc
   exact C6y c0 c1 r f _ Q (a f) (fun t b=>C6f c0 c1 r Q a fu t b) _ _ _ opx opx s hs
theorem E9i (Q:Sp3→Prop) (h:∀ a b:Sp3,Q a→Q b→A7c a b=true→Q {a with tt:=(if b.tt > a.tt then b.tt else a.tt)}) (g:List Sp3) (s:Sp3) (d:∀ x ∈ g,Q x) (f:Q s):∀ x ∈ Q7 g s,Q x:=by
 unfold Q7
 cases hc:(decide ((0:Int)<(g.length:Int))&&A7c (g.getD (g.length - 1) Sp3.zero) s) with
 | false =>
  simp only [cond_false]
  intro x c
  rcases List.mem_append.1 c with c | c
  ·exact d x c
  ·rw [List.mem_singleton.1 c];exact f
 | true =>
  simp only [Bool.and_eq_true,decide_eq_true_eq] at hc
  simp only [cond_true]
  intro x c
  rcases List.mem_or_eq_of_mem_set c with c | c
  ·exact d x c
  ·rw [c]
   refine h _ _ ?_ f hc.2
   have e:g.length - 1<g.length:=by omega
   rw [List.getD_eq_getElem?_getD,List.getElem?_eq_getElem e]
   exact d _ (List.getElem_mem e)
theorem C7g (Q:Sp3→Prop) (f:∀ a b:Sp3,Q a→Q b→A7c a b=true→Q {a with tt:=(if b.tt > a.tt then b.tt else a.tt)}) (t:Nat) (ag:Nat→List Sp3→List Sp3×Int) (d:∀ l,(∀ x ∈ l,Q x)→∀ x ∈ (ag (t+1) l).1,Q x) :
  ∀ (es c:List Sp3),(∀ x ∈ es,Q x)→(∀ x ∈ c,Q x)→∀ x ∈ (P8 t ag es c).1,Q x
 | [],c,_,hb=>by simpa only [P8] using d c hb
 | e::es,c,he,hb=>by
  simpa only [P8,B6] using C7g Q f t ag d es _ (fun x g=>he x (List.mem_cons_of_mem _ g)) (E9i Q f c e hb (he e (List.mem_cons_self ..)))
theorem C6r (bR:List (List Cel)) (n:Nat) (c:Int):∀ (d:List (List Cel)) (t:Nat) (l:List Sp3),(∀ r ∈ d,(r.length:Int)=c)→t+d.length≤n→(∀ x ∈ l,C2o n c x)→∀ x ∈ (N3 bR d t l).1,C2o n c x
 | [],t,l,_,_,e=>by simpa only [N3] using e
 | r::d,t,l,hr,hn,e=>by
  simp only [List.length_cons] at hn
  have k:=hr r (List.mem_cons_self ..)
  simp only [N3,G1]
  refine C7g (C2o n c) (fun a b m hb g=>?_) t _ (fun l e=>C6r bR n c d (t+1) l (fun x h=>hr x (List.mem_cons_of_mem _ h)) opx e) _ l ?_ e
  ·unfold C2o at *
   simp only
   split<;>omega
  ·exact C6f r _ _ _ (fun f j o i=>by unfold C2o;simp only;omega) _ _ (Nat.zero_le _)
theorem B8k {a:FrmC} {aR:List (List Cel)} {b:FrmC} {bR:List (List Cel)} {r:List Sp3×Int}
  (h:A0u a aR b bR=r) (c:r.2=0):J1 a aR b bR=0:=by
 subst h
 unfold A0u at c
 cases hc:decide (J1 a aR b bR=0) with
 | true=>exact of_decide_eq_true hc
 | false=>rw [hc] at c;exact c
theorem C7j {a:FrmC} {aR:List (List Cel)} {b:FrmC} {bR:List (List Cel)} {r:List Sp3×Int}
  (h:A0u a aR b bR=r) (g:r.2=0):∀ k,k<r.1.length→C2o aR.length a.cols (r.1.getD k Sp3.zero):=by
 have f:=B8k h g
 have j:=Z1 f
 intro k d
 rw [List.getD_eq_getElem?_getD,List.getElem?_eq_getElem d]
 refine (?_:∀ x ∈ r.1,C2o aR.length a.cols x) _ (List.getElem_mem d)
 rw [← h]
 unfold A0u
 rw [f]
 refine C6r bR aR.length a.cols aR 0 [] (fun x c=>?_) opx (fun x c=>by cases c)
 obtain ⟨i,e,rfl⟩:=List.mem_iff_getElem.1 c
 have:=j.1.2.2.2.2 i e
 rwa [List.getD_eq_getElem?_getD,List.getElem?_eq_getElem e] at this
theorem oib {p:Prop} (h:p:=by first|rfl|(simp only [List.length_set];rfl)|(simp;done)|(simp;omega)):p:=h
theorem oet {p:Prop} (h:p:=by first|omega|(simp only [List.length_take,List.length_drop,List.length_append,List.length_cons,List.length_nil,List.length_set,List.length_map,G1];omega)|decide):p:=h
theorem C8q {a:FrmC} {aR:List (List Cel)} {b:FrmC} {bR:List (List Cel)} {aQ:Option Addr} {aZ:List Slc} {aK:Nat} {bQ:Option Addr} {bZ:List Slc} {bK:Nat} {R:List Sp3×Int} (hR:A0u a aR b bR=R) (i:B4 aZ aR:=by exact bW) (aq:aR.length≤9223372036854775807:=by exact bW) (al:aR.length≤aK:=by exact bW) (j:B4 bZ bR:=by exact bW) (ak:bR.length≤9223372036854775807:=by exact bW) (ar:bR.length≤bK:=by exact bW) (hT:a.title.length≤100000000:=by exact bW) (b6:b.title.length≤100000000:=by exact bW):Con Tryz.prog 30 [ag (C2 a ⟨aQ,aR.length,aK⟩),ag (C2 b ⟨bQ,bR.length,bK⟩)] [] [sl D9 aQ aZ,D5 D8 aZ aR,sl D9 bQ bZ,D5 D8 bZ bR,U5,U8] ({r:VR // bT 3 R.1.length r}) (fun x=>.tuple #[.slice (va x.1.q) R.1.length x.1.k,iv R.2]) (fun x=>((vo G0 37 x.1 R.1)++([]))) (fun x=>[]):=by
 refine cC Tryz.func30 fun X hX hr hD=>?_
 replace hR:=(A0u.eq_1 ..).symm.trans hR
 have:=i.1
 have:=j.1
 refine bS rfl (E4i 4 0 [] (fun s u=>[(2,pt s 0),(3,pt u 0)]) (fun s u=>[bx u (C2 b ⟨bQ,bR.length,bK⟩) 26,bx s (C2 a ⟨aQ,aR.length,aK⟩) 26]) (fun s u=>(ie (A3 (bS rfl (c9 2 2 [1,0] [(10,ag (C2 a _)),(11,ag _)] (zv rfl (B0x rfl i bW bW j) (bP 1 6 rfl (ie (bS rfl (bP 2 14 rfl (ie ?_))))))))))))
 refine zjn rfl hR ?_ ?_<;>clear hR<;>intro hR h3 b7
 ·refine bS rfl (cG 3 4 5 rfl ?_)
  subst hR
  refine ie (A8 ?_)
  exact cD hr hD (U0 rfl (A6 rfl) (A6 rfl)) ⟨_,bT.nil⟩ (mc [[_],[_],_] [false,false,true] rfl oxs) bX
 have ad:=Z1 (by simpa using h3)
 have af:=ad.1.2.2.2.2
 have av:=ad.2.1.2.2.2.2
 have be:=ad.2.2
 refine A4 (nx (bS rfl (E4i 4 0 [0] (fun o w=>[(7,pt w 0)]) _ (fun o w=>(ie (A3 (bS rfl (pl2 4 [3] 20 21 rfl (ie (A9 (Y0 (I1 [_,_,_,_,_] [1,2,3,4,0] 5 rfl ozw rfl [[bx w [pt o 0] 124],[bx o [.slice none 0 0] 128],[bx u (C2 b ⟨bQ,bR.length,bK⟩) 26],[bx s (C2 a ⟨aQ,aR.length,aK⟩) 26],vo G0 37 VR.nil []] rfl opv) ?_)))))))))))
 refine F6l (fun e g f=>e≤aR.length∧N3 _ (aR.drop e) e g=R∧bT 3 g.length f∧g.length≤80 * e) (fun e g f=>[(2,_),(3,_),(7,_),(20,iv aR.length),(21,iv e)]) (fun e g f=>(bx w _ _::bx o [.slice (va f.q) g.length f.k] _::bx u _ _::bx s _ _::((vo G0 37 f g)++([])))) (fun e g f=>[_,_,_,_,_,_]) (fun e g f=>aR.length - e) 0 _ _ (show N2 _ by rw [hD];exact N2.nil) ⟨opx,hR,bT.nil,oom⟩ ⟨rfl,rfl,rfl,rfl,oib,trivial⟩ (mc _ [true,true,true,true,true] rfl oxs) A7.refl ?_
 rintro e g f ds aj ⟨b3,hR,t,hb⟩
 have:=bT.le t
 refine bS rfl (bP 1 22 rfl ?_)
 refine ie (A3 (G4 rfl (fun h7=>?_) (fun h7=>?_)))
 ·have am:=bV h7
  rw [A1b [] (show e<aR.length by omega)] at hR;replace hR:=(N3.eq_2 ..).symm.trans hR
  refine A4 (nx (A3 (A9 (bS rfl (bP 2 8 rfl (ie (A6c (V8 (k:=e) (d:=⟨none,0,0⟩) i 1 rfl (by have:=i.1;omega)) ?_)))))))
  have:=V9 i (k:=e) (d:=(⟨none,0,0⟩:Slc)) (by have:=i.1;omega)
  refine A6c (V8 (k:=e) (d:=⟨none,0,0⟩) j 4 rfl (by have:=j.1;omega)) ?_
  have:=V9 j (k:=e) (d:=(⟨none,0,0⟩:Slc)) (by have:=j.1;omega)
  refine sh 12 [(12,[bx w [pt o 0] 124]),(12,[bx o [.slice (va f.q) g.length f.k] 128]),(12,[bx u (C2 b ⟨bQ,bR.length,bK⟩) 26]),(12,[bx s (C2 a ⟨aQ,aR.length,aK⟩) 26]),(12,vo G0 37 f g)] _ _ (cA 12 0) oki rfl oki oki oki (mc [[_],[_],[_],[_],_] [true,true,true,true,true] rfl oxs) A7.refl ?_
  refine zhp [0,1,3,6,8] 7 (cA 12 331) [(24,iv e),(25,pt s 1),(27,iv e),(30,pt u 1),(32,iv e)] ?_
  refine zhl 2 (bx w [pt o 0] 124::bx o [.slice (va f.q) g.length f.k] 128::bx u (C2 b ⟨bQ,bR.length,bK⟩) 26::bx s (C2 a ⟨_,_,_⟩) 26::((vo G0 37 f g)++([]))) (cA 12 335) rfl (C1 (v:=.slice aQ aR.length aK) E5w rfl rfl 3 rfl rfl) ?_
  refine B7w 2 rfl (by have:=i.1;omega) fun a8 ae=>?_
  refine zhk 4 (cA 12 351) rfl (F8 B0n rfl rfl ae rfl e rfl opx) (zhk 5 (cA 12 383) rfl (H8 (C9 B3x rfl rfl (H2 (sz:=1) ae (fun _=>rfl) 2 rfl (gd ⟨none,0,0⟩ (by have:=i.1;omega))) rfl) (U4 i (by have:=i.1;omega))) (zhl 7 (bx w [pt o 0] 124::bx o [.slice (va f.q) g.length f.k] 128::bx u (C2 b ⟨_,_,_⟩) 26::bx s (C2 a ⟨aQ,aR.length,aK⟩) 26::((vo G0 37 f g)++([]))) (cA 12 511) rfl (C1 (v:=.slice bQ bR.length bK) E5w rfl rfl 2 rfl rfl) ?_))
  refine B7w 4 rfl (by have:=j.1;omega) fun b8 ac=>?_
  refine zhk 9 (cA 12 1023) rfl (F8 B0n rfl rfl ac rfl e rfl opx) (zhk 10 (cA 12 2047) rfl (H8 (C9 B3x rfl rfl (H2 (sz:=1) ac (fun _=>rfl) 4 rfl (gd ⟨none,0,0⟩ (by have:=j.1;omega))) rfl) (U4 j (by have:=j.1;omega))) ?_)
  refine zho 11 (bx w [pt o 0] 124::bx o [.slice (va f.q) g.length f.k] 128::bx u (C2 b ⟨bQ,bR.length,bK⟩) 26::bx s (C2 a ⟨aQ,aR.length,aK⟩) 26::((vo G0 37 f g)++([]))) (cA 12 4095) rfl (H1 (L2:=(bx w [pt o 0] 124::bx o [.slice (va f.q) g.length f.k] 128::bx u (C2 b ⟨bQ,bR.length,bK⟩) 26::bx s (C2 a ⟨aQ,aR.length,aK⟩) 26::((vo G0 37 f g)++([])))) (C8s rfl) rfl rfl rfl rfl rfl cB (List.Perm.refl _) (fun ⟨a4,⟨⟨z,a9⟩,a5⟩,a1,⟨⟨a0,a7⟩,a6⟩,a2⟩=>(bx w [pt o 0] 124::bx o [.slice (va f.q) g.length f.k] 128::bx u (C2 b ⟨bQ,bR.length,bK⟩) 26::bx s (C2 a ⟨aQ,aR.length,aK⟩) 26::((vo G0 37 f g)++([])))) (fun _=>by first|rfl|simp)) (fun ⟨a4,⟨⟨z,a9⟩,a5⟩,a1,⟨⟨a0,a7⟩,a6⟩,a2⟩=>(mc [[bx w [pt o 0] 124],[bx o [.slice (va f.q) g.length f.k] 128],[bx u (C2 b ⟨bQ,bR.length,bK⟩) 26],[bx s (C2 a ⟨aQ,aR.length,aK⟩) 26],vo G0 37 f g] [true,true,true,true,true] rfl oxs)) (fun ⟨a4,⟨⟨z,a9⟩,a5⟩,a1,⟨⟨a0,a7⟩,a6⟩,a2⟩=>cB) fun ⟨a4,⟨⟨z,a9⟩,a5⟩,a1,⟨⟨a0,a7⟩,a6⟩,a2⟩=>?_
  obtain ⟨ay,ax⟩:=a5
  obtain ⟨az,b0⟩:=a6
  refine B4u oki ?_
  refine A9 (D0f [(2,_),(3,_),(7,_),(20,_),(21,_),(35,.func _ _ #[pa a4,pa a1,pa a2])] ⟨rfl,rfl,rfl,rfl,rfl,rfl,trivial⟩ ?_)
  refine E2v (β:=Sp3) (enc:=(fun x=>ag (G0 x))) (xs:=(A2o ((G1 (e:Int) (aR.getD e []) (bR.getD e [])).1) ((G1 (e:Int) (aR.getD e []) (bR.getD e [])).2.1) ((G1 (e:Int) (aR.getD e []) (bR.getD e [])).2.2))) (σ:=List Sp3×VR) hr rfl (C6c ((G1 (e:Int) (aR.getD e []) (bR.getD e [])).1) ((G1 (e:Int) (aR.getD e []) (bR.getD e [])).2.1) ((G1 (e:Int) (aR.getD e []) (bR.getD e [])).2.2) a4 z a9 a1 a0 a7 a2 oet oet oet oet (by first|omega|(simp only [G1];have:=af e opx;have:=av e opx;omega)) (by first|omega|(simp only [G1];have:=af e opx;omega)) _ rfl) cB rfl rfl (fun ab x=>P8 e (N3 bR (aR.drop (e+1))) ab x.1=R∧bT 3 x.1.length x.2∧x.1.length+ab.length≤80 * (e+1)) (fun _ _=>False) (fun x=>(bx w [pt o 0] 124::bx o [.slice (va x.2.q) x.1.length x.2.k] 128::bx u (C2 b ⟨bQ,bR.length,bK⟩) 26::bx s (C2 a ⟨aQ,aR.length,aK⟩) 26::((vo G0 37 x.2 x.1)++([])))) (fun x=>[at_ a4 [.slice z (((G1 (e:Int) (aR.getD e []) (bR.getD e [])).1).length) a9],sl D8 z ((G1 (e:Int) (aR.getD e []) (bR.getD e [])).1),at_ a1 [.slice a0 (((G1 (e:Int) (aR.getD e []) (bR.getD e [])).2.1).length) a7],sl D8 a0 ((G1 (e:Int) (aR.getD e []) (bR.getD e [])).2.1),at_ a2 [iv ((G1 (e:Int) (aR.getD e []) (bR.getD e [])).2.2)],sl D8 ((bZ.getD e (⟨none,0,0⟩:Slc)).q) (bR.getD e []),sl D8 ((aZ.getD e (⟨none,0,0⟩:Slc)).q) (aR.getD e []),sl D9 aQ aZ,D5 D8 aZ aR,sl D9 bQ bZ,D5 D8 bZ bR,U5,U8]) (g,f) (by exact ⟨hR,t,(by have h1:=B3w ((G1 (e:Int) (aR.getD e []) (bR.getD e [])).1) ((G1 (e:Int) (aR.getD e []) (bR.getD e [])).2.1) ((G1 (e:Int) (aR.getD e []) (bR.getD e [])).2.2);have h2:(G1 (e:Int) (aR.getD e []) (bR.getD e [])).1.length=(aR.getD e []).length:=rfl;have:=af e opx;dsimp only;omega)⟩) (mc [[bx w [pt o 0] 124],[bx o [.slice (va f.q) g.length f.k] 128],[bx u (C2 b ⟨bQ,bR.length,bK⟩) 26],[bx s (C2 a ⟨aQ,aR.length,aK⟩) 26],vo G0 37 f g] [true,true,true,true,true] rfl oxs) A7.refl ?_ ?_ (fun _ _ _ _ h=>h.elim)
  ·rintro el rest ⟨p,m⟩ hI Y Y' K' bc hK
   try dsimp only at hI
   obtain ⟨hR,l,aw⟩:=hI
   replace hR:=(P8.eq_2 ..).symm.trans hR
   have:=bT.le l
   refine A1 2 rfl (B0j 2 0 [0] (fun a3=>[(9,pt a3 0)]) (fun a3=>(bx a3 (G0 el) 37::bx w [pt o 0] 124::bx o [.slice (va m.q) p.length m.k] 128::bx u (C2 b ⟨bQ,bR.length,bK⟩) 26::bx s (C2 a ⟨aQ,aR.length,aK⟩) 26::((vo G0 37 m p)++([])))) (fun a3=>(A2 (hK _ _ _ ?_))))
   refine A9 (A1 3 rfl (c9 2 1 [1,0] [(37,pt o 0),(38,ag (G0 el))] ?_))
   have hQ:=C4 hR;clear hR;obtain ⟨y0,an,hR⟩:=hQ
   refine zc rfl (B7h an l) fun ⟨y,aa⟩=>?_
   have:=bT.le aa
   have:=bT.cap aa
   have:=A7s p el;try rw [an] at this
   refine A2 (Y0 (I1 [_,_,_,_,_,_] [2,0,3,4,5,1] 6 rfl ozw rfl [[_],[bx o [.slice (va y.q) _ y.k] _],[_],[_],vo _ _ y _,[_]] rfl opv) ?_)
   exact A9f (I:=fun ab x=>P8 e _ ab x.1=R∧bT 3 x.1.length x.2∧x.1.length+ab.length≤80 * (e+1)) (Jx:=fun _ _=>False) (Lk:=fun x=>(bx w _ _::bx o [.slice (va x.2.q) x.1.length x.2.k] _::bx u _ _::bx s _ _::((vo _ _ x.2 x.1)++([])))) (_,y) (by exact ⟨hR,aa,(by simp only [List.length_cons] at *;omega)⟩) (mc [[_],[_],[_],[_],_,_] [true,true,true,true,true,false] rfl oxs) A7.refl
  ·rintro bd ⟨p,m⟩ ao hI
   try dsimp only at hI
   obtain ⟨hR,l,aw⟩:=hI
   replace hR:=(P8.eq_1 ..).symm.trans hR
   have:=bT.le l
   refine nx (A1 2 rfl (ix rfl (B3 rfl rfl rfl rfl opx) (bP 1 21 rfl (A2 ?_))))
   exact E7v (z2:=g) (z3:=f) rfl (N2.cons aj ao) _ p m ⟨opx,hR,l,opx⟩ olr ⟨rfl,rfl,rfl,rfl,oib,trivial⟩ (mc [[_],[_],[_],[_],_] [true,true,true,true,true] rfl oxs) cB
 have am:=bV h7
 rw [A1d am] at hR;replace hR:=(N3.eq_1 ..).symm.trans hR
 refine F4 (nx (bS rfl (pl2 7 [0,1] 4 5 rfl ?_)))
 subst hR
 refine ie (A8 ?_)
 exact B4c rfl ⟨hr,hD⟩ (by exact aj) (U0 rfl (A6 rfl) (A6 rfl)) ⟨f,t⟩ (by rfl) (mc [[_],[_],[_],[_],_] [false,false,false,false,true] rfl oxs) bX
def N1 (s:List (List Cel)):List (List Cel) :=
 (([]:List (List Cel))++s)
theorem A2t (s:List (List Cel)):N1 s=s:=by simp [N1]
theorem A3h {s:List (List Cel)} {g:Option Addr} {b:List Slc} {sk:Nat} {R:List (List Cel)} (hR:N1 s=R) (a:B4 b s:=by exact bW) (l:s.length≤9223372036854775807:=by exact bW) (h:s.length≤sk:=by exact bW) (m:s.length≤1000000:=by exact bW):Con Tryz.prog 37 [.slice g s.length sk] [] [sl D9 g b,D5 D8 b s] ({t:VR×List Slc // bT 1 R.length t.1∧B4 t.2 R}) (fun x=>.slice (va x.1.1.q) R.length x.1.1.k) (fun x=>((vo D9 70 x.1.1 x.1.2)++([]))) (fun x=>[D5 D8 x.1.2 R]):=by
 refine cC Tryz.func37 fun X hX hr hD=>?_
 replace hR:=(N1.eq_1 ..).symm.trans hR
 have:=a.1
 refine bS rfl (pp0 1 rfl (ie (A3 (bS rfl (bP 1 3 rfl (ix rfl (F0h Tryz.underlying22 rfl rfl rfl) ?_))))))
 refine ie (G4 rfl (fun f=>?_) (fun f=>?_))
 ·refine F4r 0 rfl (Option.isNone_iff_eq_none.1 f) fun d=>?_
  have d:=E6s a d
  replace hR:([]:List (List Cel))=R:=by rw [← hR];simp [d]
  refine bS rfl (bP 1 2 rfl ?_)
  subst hR
  refine ie (A8 ?_)
  exact cD hr hD (K7 rfl (A6 rfl)) ⟨(_,_),⟨bT.nil,B4.none⟩⟩ bU cB
 ·refine A4 (nx (bS rfl (it rfl (B8e B0n rfl rfl) fun i=>(D7 (q:=D5 D8 _ _) H9 ?_))))
  have:([]:List Slc).length=0:=rfl
  refine bP 1 6 rfl ?_
  have e:B4 (([]:List Slc)++b) (([]:List (List Cel))++s):=B4.append B4.none a
  refine it rfl (J8 (r:=(⟨some i,0,[]⟩:VR)) (rs:=([]:List Slc)) (xss:=([]:List (List Cel))) (pre:=[]) (post:=[]) E8m rfl rfl rfl rfl rfl rfl rfl rfl rfl (A5 1 rfl) (A5 0 rfl) (A5 2 rfl) B4.none a (show bT 1 0 _ from ⟨rfl,Nat.zero_le _,Nat.zero_le _⟩) ofv ofv) fun ⟨j,c⟩=>?_
  refine bP 1 2 rfl ?_
  subst hR
  refine ie (A8 ?_)
  exact cD hr hD (K7 rfl (A6 rfl)) ⟨(j,_),⟨c,e⟩⟩ bU cB
def W2 (l:List Cel) (s:Sp3):Bool :=
 ((decide ((l.getD ((s.frm).toNat) Cel.zero).wide=2))||((decide (s.tt<(l.length:Int)))&&(decide ((l.getD ((s.tt).toNat) Cel.zero).wide=2))))
theorem C1e {l:List Cel} {s:Sp3} {lq:Option Addr} {lk:Nat} {R:Bool} (hR:W2 l s=R) (e:l.length≤9223372036854775807:=by exact bW) (h:l.length≤lk:=by exact bW) (n:0≤s.frm:=by exact bW) (j:s.frm<s.tt:=by exact bW) (k:s.tt≤l.length:=by exact bW):J5 Tryz.prog 38 [.slice lq l.length lk,ag (G0 s)] [sl D8 lq l] (bv R):=by
 refine cC Tryz.func38 fun X hX hr hD=>?_
 replace hR:=(W2.eq_1 ..).symm.trans hR
 refine bS rfl (zra 2 [] (fun b=>[(3,pt b 0)]) (fun _=>(G0 s)) 37 fun b=>(ie (bS rfl (pl2 3 [0] 5 7 rfl (K8 0 rfl opx fun m a=>(ix rfl (F8 A1g rfl rfl a rfl _ opx opx) (bP 1 9 rfl (ix rfl (C9 cH rfl rfl (X7 (H2 (sz:=12) a (fun _=>rfl) 0 rfl (gd _ opx)) (ws:=[iv ((l.getD ((s.frm).toNat) Cel.zero).wide)]) 3 1 rfl) rfl) (bP 2 12 rfl ?_)))))))))
 refine zir 15 1 12 27 ((decide (s.tt<l.length))&&(decide ((l.getD ((s.tt).toNat) Cel.zero).wide=2))) (fun d f=>?_) ?_
 ·refine cF 6 [0] 18 rfl ?_
  refine zid 8 1 18 26 (decide ((l.getD ((s.tt).toNat) Cel.zero).wide=2)) (fun g i=>?_) ?_
  ·refine pl2 3 [0] 19 21 rfl (ix rfl (F8 A1g rfl rfl a rfl _ opx opx) (bP 1 23 rfl (ix rfl (C9 cH rfl rfl (X7 (H2 (sz:=12) a (fun _=>rfl) 0 rfl (gd _ opx)) (ws:=[iv ((l.getD ((s.tt).toNat) Cel.zero).wide)]) 3 1 rfl) rfl) (bP 2 26 rfl ?_))))
   exact zai 7 18 _ g
  refine bP 1 27 rfl ?_
  exact zai 4 12 _ d
 refine bP 1 4 rfl ?_
 subst hR
 refine ie (A8 ?_)
 exact F7 hr hD
def N8 (n:Nat):List Cel :=
 (bif (decide ((0:Int)<(n:Int))) then ([]:List Cel) else ([]:List Cel))
theorem A2s (n:Nat):N8 n=[]:=by
 unfold N8;cases decide ((0:Int)<(n:Int))<;>rfl
theorem B0m {n:Nat} {R:List Cel} (hR:N8 n=R) (j:n≤1000000:=by exact bW):Con Tryz.prog 64 [.slice none 0 0,iv (n:Int)] [] [] ({r:VR // bT 12 R.length r}) (fun x=>.slice (va x.1.q) R.length x.1.k) (fun x=>((vo D8 73 x.1 R)++([]))) (fun x=>[]):=by
 refine cC Tryz.func64 fun X hX hr hD=>?_
 replace hR:=(N8.eq_1 ..).symm.trans hR
 refine bS rfl (pp0 1 rfl (ie (A3 (bS rfl (bP 2 6 rfl ?_)))))
 refine ie (G4 rfl (fun b=>?_) (fun b=>?_))
 ·have d:=bV b
  exfalso;omega
 refine A4 (nx (A3 (bS rfl (cG 2 8 9 rfl (ix rfl (E2i A1g rfl rfl rfl rfl rfl) (bP 2 12 rfl (ix rfl (M4 (c:=0) rfl rfl rfl rfl ozw) (ix rfl (M4 (c:=n) rfl rfl rfl opx opx) (bP 1 1 rfl (ie (bS rfl (bP 2 16 rfl ?_))))))))))))
 refine ie ?_
 refine zjd rfl hR ?_ ?_<;>clear hR<;>intro hR i h
 ·refine A1 10 rfl (cG 2 17 18 rfl (ix rfl (E2i A1g rfl rfl rfl rfl rfl) (ix rfl (B1k A1g rfl rfl 0 0 0 A1u (A0w rfl rfl) A1u ozw ozw ozw (n':=0) rfl rfl) (bP 1 21 rfl (it rfl (D6j (f:=D8) (m:=n) E3y Tryz.underlying3 rfl rfl rfl rfl rfl (rfl) opx ofv ofv) fun ⟨e,a,g⟩=>?_)))))
  refine bP 2 24 rfl (ix rfl (B7b A1g rfl rfl 0 e.k (A0w rfl rfl) A1u opx opx rfl rfl) ?_)
  refine bP 1 0 rfl (A2 (nx (bS rfl (bP 2 4 rfl ?_))))
  subst hR
  refine ie (A8 ?_)
  exact cD hr hD (K7 rfl (A6 rfl)) ⟨e,a⟩ bU bX
 refine A4 (nx (bS rfl (bP 2 4 rfl ?_)))
 subst hR
 refine ie (A8 ?_)
 exact cD hr hD (K7 rfl (A6 rfl)) ⟨_,bT.nil⟩ bU bX
def H7:List (List Cel)→List Cel→Nat→List Cel
 | [],newslice,t27=>newslice
 | hd_l1::tl_l1,newslice,t27=>H7 tl_l1 (newslice++hd_l1) (t27+1)
def H6 (a:List (List Cel)):List (List Cel)→Nat→Nat→List Cel
 | [],size,t11=>H7 a (N8 size) 0
 | hd_l0::tl_l0,size,t11=>H6 a tl_l0 (size+hd_l0.length) (t11+1)
def U3 (a:List (List Cel)):List Cel :=
 H6 a a 0 0
theorem C4u:∀ (b:List (List Cel)) (a:List Cel) (t:Nat),H7 b a t=a++b.flatten
 | [],a,t=>by simp [H7]
 | x::b,a,t=>by simp [H7,C4u b]
theorem C4p (s:List (List Cel)):∀ (a:List (List Cel)) (z t:Nat),H6 s a z t=s.flatten
 | [],z,t=>by simp [H6,C4u,A2s]
 | x::a,z,t=>by simp [H6,C4p s a]
theorem A8o (s:List (List Cel)):U3 s=s.flatten:=C4p s s 0 0
theorem D5d {a:List (List Cel)} {k:Nat} {r:List Cel} {c:Int} (h:∀ i,i<a.length→((a.getD i []).length:Int)=c) (hr:(r.length:Int)=c):∀ i,i<(a.set k r).length→(((a.set k r).getD i []).length:Int)=c:=fun i b=>by
 rw [List.length_set] at b
 by_cases e:k=i
 ·subst e;simp [List.getD_eq_getElem?_getD,b,hr]
 ·have:=h i b
  simpa [List.getD_eq_getElem?_getD,List.getElem?_set_ne e] using this
theorem A9n {slices:List (List Cel)} {j:Option Addr} {b:List Slc} {slicesk:Nat} {R:List Cel} (hR:U3 slices=R) (a:B4 b slices:=by exact bW) (w:slices.length≤9223372036854775807:=by exact bW) (u:slices.length≤slicesk:=by exact bW) (hs:slices.length≤1000:=by exact bW) (hb:∀ i,i<slices.length→(slices.getD i []).length≤1000:=by exact bW):Con Tryz.prog 39 [.slice j slices.length slicesk] [] [sl D9 j b,D5 D8 b slices] ({r:VR // bT 12 R.length r}) (fun x=>.slice (va x.1.q) R.length x.1.k) (fun x=>((vo D8 73 x.1 R)++([]))) (fun x=>[]):=by
 refine cC Tryz.func39 fun X hX hr hD=>?_
 replace hR:=(U3.eq_1 ..).symm.trans hR
 have:=a.1
 refine bS rfl (pp0 1 rfl (ie (bS rfl (bP 1 3 rfl (ie (A3 (bS rfl (pp3 3 9 10 11 rfl (ie (A9 (A3q (un fun size m=>(m≤slices.length∧H6 _ (slices.drop m) size m=R∧size≤1000 * m,[(0,_),(3,iv size),(9,_),(10,iv _),(11,iv m)],_,_,slices.length - m)) (0,0) ⟨opx,hR,opx⟩ bU A7.refl ?_)))))))))))
 rintro ⟨size,m⟩ ⟨a8,hR,hz⟩
 refine bS rfl (bP 1 12 rfl ?_)
 refine ie (A3 (G4 rfl (fun h2=>?_) (fun h2=>?_)))
 ·have y:=bV h2
  rw [A1b [] (show m<slices.length by omega)] at hR;replace hR:=(H6.eq_2 ..).symm.trans hR
  have:=hb m opx
  refine A4 (nx (A3 (A9 (bS rfl (K8 0 rfl (by have:=a.1;omega) fun a3 s=>(D7 (V8 (k:=m) (d:=⟨none,0,0⟩) a 1 rfl (by have:=a.1;omega)) ?_))))))
  refine ix rfl (F8 B0n rfl rfl s rfl m rfl opx) (ix rfl (H8 (C9 B3x rfl rfl (H2 (sz:=1) s (fun _=>rfl) 1 rfl (gd ⟨none,0,0⟩ (by have:=a.1;omega))) rfl) (U4 a (by have:=a.1;omega))) (bP 1 5 rfl (ie (bS rfl (cG 3 15 17 rfl (ix rfl (B3 rfl rfl rfl rfl opx) (bP 1 3 rfl (ie (bS rfl (bP 2 20 rfl ?_))))))))))
  refine ie (G4 rfl (fun h5=>?_) (fun h5=>?_))
  ·have a1:=bV h5
   exfalso;omega
  refine A4 (nx (A1 2 rfl (ix rfl (B3 rfl rfl rfl rfl opx) (bP 1 11 rfl (A2 ?_)))))
  exact A2g (_,_) ⟨opx,hR,opx⟩ olr bU cB
 have y:=bV h2
 rw [A1d y] at hR;replace hR:=(H6.eq_1 ..).symm.trans hR
 refine F4 (nx (bS rfl (bP 1 23 rfl ?_)))
 refine zc rfl (B0m rfl) fun ⟨r6,t⟩=>?_
 refine bP 1 6 rfl (ie (A3 (bS rfl (pp3 3 25 26 27 rfl (ie (A9 ?_))))))
 refine A3q (un fun e=>un fun g h=>(h≤slices.length∧H7 (slices.drop h) e h=R∧bT _ e.length g∧e.length≤1000 * h,[(6,.slice (va g.q) e.length g.k),(25,_),(26,iv _),(27,iv h)],((vo _ _ g e)++([])),_,slices.length - h)) (_,_,0) ⟨opx,hR,t,(by rw [A2s];simp)⟩ bU A7.refl ?_
 rintro ⟨e,g,h⟩ ⟨aa,hR,l,a9⟩
 have:=bT.le l
 refine bS rfl (bP 1 28 rfl ?_)
 refine ie (A3 (G4 rfl (fun h9=>?_) (fun h9=>?_)))
 ·have z:=bV h9
  rw [A1b [] (show h<slices.length by omega)] at hR;replace hR:=(H7.eq_2 ..).symm.trans hR
  have:=hb h opx
  refine A4 (nx (A3 (A9 (bS rfl (K8 0 rfl (by have:=a.1;omega) fun a7 o=>(D7 (V8 (k:=h) (d:=⟨none,0,0⟩) a 1 rfl (by have:=a.1;omega)) ?_))))))
  refine ix rfl (F8 B0n rfl rfl o rfl h rfl opx) (ix rfl (H8 (C9 (v:=.slice ((b.getD h (⟨none,0,0⟩:Slc)).q) ((b.getD h (⟨none,0,0⟩:Slc)).n) ((b.getD h (⟨none,0,0⟩:Slc)).k)) (us:=[.slice ((b.getD h (⟨none,0,0⟩:Slc)).q) ((b.getD h (⟨none,0,0⟩:Slc)).n) ((b.getD h (⟨none,0,0⟩:Slc)).k)]) B3x rfl rfl (H2 (c:=D9) (sz:=1) o (fun _=>rfl) 1 rfl (gd (⟨none,0,0⟩:Slc) (by have:=a.1;omega))) rfl) (U4 a (by have:=a.1;omega))) (bP 1 8 rfl (ie (A1 4 rfl (cG 2 31 32 rfl (it rfl (A4i (f:=D8) (r:=g) (xs:=e) (ys:=(slices.getD h [])) (pre:=[]) (post:=[]) E3y (fun _=>rfl) (fun _=>rfl) rfl rfl rfl rfl rfl rfl rfl rfl (A5 0 rfl) l ofv ofv) fun ⟨a5,p⟩=>?_))))))
  have:=@List.length_append _ e (slices.getD h [])
  refine bP 1 6 rfl (A2 (nx (A1 2 rfl (ix rfl (B3 rfl rfl rfl rfl opx) (bP 1 27 rfl (A2 ?_))))))
  exact A2g (_,_,_) ⟨opx,hR,p,opx⟩ olr bU cB
 have z:=bV h9
 rw [A1d z] at hR;replace hR:=(H7.eq_1 ..).symm.trans hR
 refine F4 (nx (bS rfl (bP 2 2 rfl ?_)))
 subst hR
 refine ie (A8 ?_)
 exact cD hr hD (K7 rfl (A6 rfl)) ⟨g,l⟩ bU bX
def X1 (a:FrmC) (aR:List (List Cel)) (bR:List (List Cel)):List Sp3→Nat→List (List Cel)→(FrmC×List (List Cel)×Int)
 | [],t27,outRows=>(a,outRows,0)
 | hd_l0::tl_l0,t27,outRows=>(bif (((((((decide (hd_l0.row<0))||(decide ((aR.length:Int)≤hd_l0.row)))||(decide (hd_l0.frm<0)))||(decide (hd_l0.tt≤hd_l0.frm)))||(decide (a.cols<hd_l0.tt)))||(W2 (aR.getD ((hd_l0.row).toNat) []) hd_l0))||(W2 (bR.getD ((hd_l0.row).toNat) []) hd_l0)) then (FrmC.zero,([]:List (List Cel)),2) else (B6 (U3 ([((outRows.getD ((hd_l0.row).toNat) []).take ((hd_l0.frm).toNat)),(((bR.getD ((hd_l0.row).toNat) []).drop ((hd_l0.frm).toNat)).take (((hd_l0.tt).toNat) - ((hd_l0.frm).toNat))),((outRows.getD ((hd_l0.row).toNat) []).drop ((hd_l0.tt).toNat))]:List (List Cel))) fun (b:List Cel)=>X1 a aR bR tl_l0 (t27+1) (outRows.set ((hd_l0.row).toNat) b)))
def A4x (a:FrmC) (aR:List (List Cel)) (b:FrmC) (bR:List (List Cel)) (l:List Sp3):FrmC×List (List Cel)×Int :=
 (bif (!decide ((J1 a aR b bR)=0)) then (FrmC.zero,([]:List (List Cel)),(J1 a aR b bR)) else (B6 (N1 aR) fun (c:List (List Cel))=>X1 a aR bR l 0 c))
theorem B1x (a:FrmC) (aR:List (List Cel)) (bR:List (List Cel)):∀ (l:List Sp3) (t:Nat) (o:List (List Cel)),(X1 a aR bR l t o).1.title.length≤a.title.length
 | [],t,o=>by simp [X1]
 | s::l,t,o=>by
  simp only [X1,B6]
  generalize (((((((decide (s.row<0))||(decide ((aR.length:Int)≤s.row)))||(decide (s.frm<0)))||(decide (s.tt≤s.frm)))||(decide (a.cols<s.tt)))||(W2 (aR.getD ((s.row).toNat) []) s))||(W2 (bR.getD ((s.row).toNat) []) s))=c
  cases c with
  | true=>exact Nat.zero_le _
  | false=>exact B1x a aR bR l _ _
theorem C4g (a:FrmC) (aR:List (List Cel)) (b:FrmC) (bR:List (List Cel)) (l:List Sp3):(A4x a aR b bR l).1.title.length≤a.title.length:=by
 unfold A4x
 cases (!decide (J1 a aR b bR=0)) with
 | true=>exact Nat.zero_le _
 | false=>exact B1x _ _ _ _ _ _
theorem D2t {a:FrmC} {aR:List (List Cel)} {b:FrmC} {bR:List (List Cel)} {l:List Sp3} {aQ:Option Addr} {aZ:List Slc} {aK:Nat} {bQ:Option Addr} {bZ:List Slc} {bK:Nat} {lq:Option Addr} {lk:Nat} {R:FrmC×List (List Cel)×Int} (hR:A4x a aR b bR l=R) (o:B4 aZ aR:=by exact bW) (b0:aR.length≤9223372036854775807:=by exact bW) (ap:aR.length≤aK:=by exact bW) (h:B4 bZ bR:=by exact bW) (an:bR.length≤9223372036854775807:=by exact bW) (b7:bR.length≤bK:=by exact bW) (bu:l.length≤9223372036854775807:=by exact bW) (c3:l.length≤lk:=by exact bW) (hT:a.title.length≤100000000:=by exact bW) (bo:b.title.length≤100000000:=by exact bW):Con Tryz.prog 20 [ag (C2 a ⟨aQ,aR.length,aK⟩),ag (C2 b ⟨bQ,bR.length,bK⟩),.slice lq l.length lk] [] [sl D9 aQ aZ,D5 D8 aZ aR,sl D9 bQ bZ,D5 D8 bZ bR,sl G0 lq l,U5,U8] ({t:VR×List Slc // bT 1 R.2.1.length t.1∧B4 t.2 R.2.1}) (fun x=>.tuple #[ag (C2 R.1 ⟨va x.1.1.q,R.2.1.length,x.1.1.k⟩),iv R.2.2]) (fun x=>((vo D9 70 x.1.1 x.1.2)++([]))) (fun x=>[D5 D8 x.1.2 R.2.1]):=by
 refine cC Tryz.func20 fun X hX hr hD=>?_
 replace hR:=(A4x.eq_1 ..).symm.trans hR
 have:=o.1
 have:=h.1
 refine bS rfl (D5f 4 0 [] (fun b1 b2 b3=>[(3,pt b1 0),(4,pt b2 0),(6,pt b3 0)]) (fun b1 b2 b3=>[bx b3 (C2 FrmC.zero ⟨none,0,0⟩) 26,bx b2 (C2 b ⟨bQ,bR.length,bK⟩) 26,bx b1 (C2 a ⟨aQ,aR.length,aK⟩) 26]) (fun b1 b2 b3=>(ie (A3 (bS rfl (c9 2 2 [2,1] [(13,ag (C2 a _)),(14,ag _)] (zv rfl (B0x rfl o bW bW h) (bP 1 8 rfl (ie (bS rfl (bP 2 17 rfl (ie ?_))))))))))))
 refine zjn rfl hR ?_ ?_<;>clear hR<;>intro hR h4 bq
 ·refine bS rfl (zru 4 [0] [(7,iv (J1 a aR b bR))] 0 (bx b3 (C2 FrmC.zero ⟨none,0,0⟩) 26) ?_)
  subst hR
  refine ie (A8 ?_)
  exact cD hr hD (U0 rfl (F0 C2f rfl 0 rfl rfl rfl) (A6 rfl)) ⟨(_,_),⟨bT.nil,B4.none⟩⟩ bU cB
 have aa:=Z1 (by simpa using h4)
 have al:=aa.1.2.2.2.2
 have az:=aa.2.1.2.2.2.2
 refine A4 (nx (bS rfl (zra 3 [2,0] (fun b5=>[(9,pt b5 0)]) (fun _=>(C2 a ⟨aQ,aR.length,aK⟩)) 26 fun b5=>(ie (bS rfl (cF 2 [3] 22 rfl ?_))))))
 have hQ:=C4 hR;clear hR;obtain ⟨y1,aj,hR⟩:=hQ
 refine zc rfl (A3h aj o) fun ⟨⟨r6,ai⟩,ad⟩=>?_
 try dsimp only at ad
 obtain ⟨ah,ak⟩:=ad
 have:=ak.1
 have m:=A2t aR;rw [aj] at m;have:=congrArg List.length m;try simp only [List.length_take,List.length_drop] at this
 refine zru 2 [0] [] 0 (bx b5 (C2 a ⟨va r6.q,y1.length,r6.k⟩) 26) ?_
 refine ie (A3 (bS rfl (pp3 3 25 26 27 rfl (ie (A9 ?_)))))
 refine A3q (un fun e=>un fun g=>un fun p f=>(e≤l.length∧X1 a _ _ (l.drop e) e g=R∧bT 1 g.length p∧B4 f g∧g.length=aR.length∧∀ i,i<g.length→((g.getD i []).length)=a.cols,[(3,_),(4,_),(6,_),(9,_),(25,_),(26,iv _),(27,iv e)],(bx _ (C2 a ⟨va p.q,g.length,p.k⟩) _::bx b3 (C2 FrmC.zero ⟨none,0,0⟩) 26::bx b2 (C2 b ⟨bQ,bR.length,bK⟩) 26::bx b1 (C2 a ⟨aQ,aR.length,aK⟩) 26::((vo D9 70 p f)++([]))),[D5 D8 ai y1,sl D9 aQ aZ,D5 D8 aZ aR,sl D9 bQ bZ,D5 D8 bZ bR,sl G0 lq l,U5,U8,D5 D8 f g],l.length - e)) (0,y1,r6,ai) ⟨opx,hR,ah,ak,(by rw [m]),(by rw [m];exact al)⟩ bU cB ?_
 rintro ⟨e,g,p,f⟩ ⟨bn,hR,s,j,ho,b8⟩
 have:=j.1
 refine bS rfl (bP 1 28 rfl ?_)
 refine ie (A3 (G4 rfl (fun af=>?_) (fun af=>?_)))
 ·have ae:=bV af
  rw [A1b Sp3.zero (show e<l.length by omega)] at hR;replace hR:=(X1.eq_2 ..).symm.trans hR
  refine A4 (nx (A3 (A9 (bS rfl (K8 5 rfl opx fun c4 ac=>(ix rfl (F8 D1x rfl rfl ac rfl e rfl opx) (ix rfl (K3 E7e rfl rfl (H2 (sz:=3) ac (fun _=>rfl) 5 rfl (gd Sp3.zero opx)) rfl) ?_)))))))
  refine zra 2 [0] (fun a0=>[(11,pt a0 0)]) (fun _=>(G0 (l.getD e Sp3.zero))) 37 fun a0=>?_
  refine ie (A3 (sd 50 rfl oki rfl (pg1 4 [0] 34 rfl ?_)))
  refine zdr 7 39 34 41 (decide (aR.length≤(l.getD e Sp3.zero).row)) (fun be bg=>?_) ?_
  ·refine pg1 7 [0,4] 41 rfl ?_
   exact zad 2 34 _ be
  refine pd1 1 42 rfl ?_
  refine zdO 4 34 42 46 (decide ((l.getD e Sp3.zero).frm<0)) (fun au=>?_) ?_
  ·have bk:=bV au
   refine pg1 4 [0] 46 rfl ?_
   exact zad 2 42 _ au
  refine pd1 1 47 rfl ?_
  refine zdO 6 27 47 53 (decide ((l.getD e Sp3.zero).tt≤(l.getD e Sp3.zero).frm)) (fun am=>?_) ?_
  ·have bm:=bV am
   refine pg1 6 [0,0] 53 rfl ?_
   exact zad 2 47 _ am
  refine pd1 1 54 rfl ?_
  refine zdO 6 20 54 60 (decide (a.cols<(l.getD e Sp3.zero).tt)) (fun av=>?_) ?_
  ·have bl:=bV av
   refine pg1 6 [0,4] 60 rfl ?_
   exact zad 2 54 _ av
  refine dp' 1 19 [(61,bv (((((decide ((l.getD e Sp3.zero).row<0))||(decide (aR.length≤(l.getD e Sp3.zero).row)))||(decide ((l.getD e Sp3.zero).frm<0)))||(decide ((l.getD e Sp3.zero).tt≤(l.getD e Sp3.zero).frm)))||(decide (a.cols<(l.getD e Sp3.zero).tt))))] ?_
  refine zdO 9 10 61 70 (W2 (aR.getD (((l.getD e Sp3.zero).row).toNat) []) (l.getD e Sp3.zero)) (fun ay=>?_) ?_
  ·have bh:=bV ay
   have bz:=al (((l.getD e Sp3.zero).row).toNat) opx
   refine zdg 4 5 [4,0] [(63,.slice aQ aR.length aK),(65,iv ((l.getD e Sp3.zero).row))] ?_
   refine B7d 1 rfl (by have:=o.1;omega) fun c0 ab=>?_
   refine C9x (V8 (k:=((l.getD e Sp3.zero).row).toNat) (d:=⟨none,0,0⟩) o 2 rfl (by have:=o.1;omega)) ?_
   have:=V9 o (k:=((l.getD e Sp3.zero).row).toNat) (d:=(⟨none,0,0⟩:Slc)) (by have:=o.1;omega)
   refine dd rfl (F8 B0n rfl rfl ab rfl _ opx opx) (dd rfl (H8 (C9 (us:=[.slice _ _ ((aZ.getD (((l.getD e Sp3.zero).row).toNat) _).k)]) B3x rfl rfl (H2 (c:=D9) ab (fun _=>rfl) 2 rfl (gd ⟨none,0,0⟩ (by have:=o.1;omega))) rfl) (U4 o (by have:=o.1;omega))) ?_)
   refine zdg 1 2 [0] [(68,ag (G0 (l.getD e Sp3.zero)))] ?_
   refine zvd rfl (C1e rfl) (pd1 1 70 rfl ?_)
   exact zad 8 61 _ ay
  refine dp' 1 9 [(71,bv ((((((decide ((l.getD e Sp3.zero).row<0))||(decide (aR.length≤(l.getD e Sp3.zero).row)))||(decide ((l.getD e Sp3.zero).frm<0)))||(decide ((l.getD e Sp3.zero).tt≤(l.getD e Sp3.zero).frm)))||(decide (a.cols<(l.getD e Sp3.zero).tt)))||(W2 (aR.getD (((l.getD e Sp3.zero).row).toNat) []) (l.getD e Sp3.zero))))] ?_
  refine zdO 9 0 71 80 (W2 (bR.getD (((l.getD e Sp3.zero).row).toNat) []) (l.getD e Sp3.zero)) (fun aq=>?_) ?_
  ·have bi:=bV aq
   have ba:=az (((l.getD e Sp3.zero).row).toNat) opx
   refine zdg 4 5 [3,0] [(73,.slice bQ bR.length bK),(75,iv ((l.getD e Sp3.zero).row))] ?_
   refine B7d 3 rfl (by have:=h.1;omega) fun br a8=>?_
   refine C9x (V8 (k:=((l.getD e Sp3.zero).row).toNat) (d:=⟨none,0,0⟩) h 4 rfl (by have:=h.1;omega)) ?_
   have:=V9 h (k:=((l.getD e Sp3.zero).row).toNat) (d:=(⟨none,0,0⟩:Slc)) (by have:=h.1;omega)
   refine dd rfl (F8 B0n rfl rfl a8 rfl _ opx opx) (dd rfl (H8 (C9 (us:=[.slice _ _ ((bZ.getD (((l.getD e Sp3.zero).row).toNat) _).k)]) B3x rfl rfl (H2 (c:=D9) a8 (fun _=>rfl) 4 rfl (gd ⟨none,0,0⟩ (by have:=h.1;omega))) rfl) (U4 h (by have:=h.1;omega))) ?_)
   refine zdg 1 2 [0] [(78,ag (G0 (l.getD e Sp3.zero)))] ?_
   refine zvd rfl (C1e rfl) (dp' 1 0 [(80,bv (W2 (bR.getD (((l.getD e Sp3.zero).row).toNat) []) (l.getD e Sp3.zero)))] ?_)
   exact zad 8 71 _ aq
  refine de ?_
  refine zjb rfl hR ?_ ?_<;>clear hR<;>intro hR b4
  ·have b6:=bV b4
   refine bS rfl (zru 3 [2] [(7,iv 2)] 2 (bx b3 (C2 FrmC.zero ⟨none,0,0⟩) 26) ?_)
   subst hR
   refine ie (A8 ?_)
   exact cD hr hD (U0 rfl (F0 C2f rfl 2 rfl rfl rfl) (A6 rfl)) ⟨(_,_),⟨bT.nil,B4.none⟩⟩ bU cB
  have b6:=bV b4
  have c2:=b8 (((l.getD e Sp3.zero).row).toNat) opx
  have ba:=az (((l.getD e Sp3.zero).row).toNat) opx
  refine A4 (nx (bS rfl (c9 4 3 [1,0] [(83,.slice (va p.q) g.length p.k),(85,iv ((l.getD e Sp3.zero).row))] ?_)))
  obtain ⟨b27,ar⟩:=bT.some s opx
  obtain ⟨bd,y,w⟩:=p
  obtain rfl:bd=some b27:=ar
  refine D7 (V8 (k:=((l.getD e Sp3.zero).row).toNat) (d:=⟨none,0,0⟩) j 8 rfl (by have:=j.1;omega)) ?_
  have:=V9 j (k:=((l.getD e Sp3.zero).row).toNat) (d:=(⟨none,0,0⟩:Slc)) (by have:=j.1;omega)
  refine ix rfl (A1k B0n rfl rfl rfl _ opx (by have:=j.1;omega)) (ix rfl (H8 (Z9 (sz:=1) B3x (fun _=>rfl) rfl rfl 5 rfl (((l.getD e Sp3.zero).row).toNat) 0 rfl (gd ⟨none,0,0⟩ (by have:=j.1;omega)) rfl) (U4 j (by have:=j.1;omega))) (bP 1 12 rfl (ie (A6c (E2m (A5 0 rfl) (((l.getD e Sp3.zero).frm).toNat)) ?_))))
  refine A6c (V8 (k:=((l.getD e Sp3.zero).row).toNat) (d:=⟨none,0,0⟩) h 6 rfl (by have:=h.1;omega)) ?_
  have:=V9 h (k:=((l.getD e Sp3.zero).row).toNat) (d:=(⟨none,0,0⟩:Slc)) (by have:=h.1;omega)
  refine A6c (E0q (sz:=12) (A5 0 rfl) (((l.getD e Sp3.zero).frm).toNat) (((l.getD e Sp3.zero).tt).toNat) ((bZ.getD (((l.getD e Sp3.zero).row).toNat) ⟨none,0,0⟩).k) (fun _=>rfl) rfl opx opx) ?_
  refine A6c (C8m (sz:=12) (A5 3 rfl) (((l.getD e Sp3.zero).tt).toNat) ((f.getD (((l.getD e Sp3.zero).row).toNat) ⟨none,0,0⟩).k) (fun _=>rfl) opx opx) ?_
  refine zSn [(27,[0]),(27,[1]),(27,[2]),(27,[3]),(27,[4]),(26,[5])] ?_
  refine hqV [0,2,4,5,8,10,14,16,19,20] [(88,pt b5 1),(90,pt a0 0),(92,.slice ((f.getD (((l.getD e Sp3.zero).row).toNat) ⟨none,0,0⟩).q) ((g.getD (((l.getD e Sp3.zero).row).toNat) []).length) ((f.getD (((l.getD e Sp3.zero).row).toNat) ⟨none,0,0⟩).k)),(93,pt a0 1),(96,pt b2 1),(98,pt a0 0),(102,pt a0 1),(104,pt a0 2),(107,.slice ((f.getD (((l.getD e Sp3.zero).row).toNat) (⟨none,0,0⟩:Slc)).q) ((g.getD (((l.getD e Sp3.zero).row).toNat) []).length) ((f.getD (((l.getD e Sp3.zero).row).toNat) (⟨none,0,0⟩:Slc)).k)),(108,pt a0 2)] ?_
  refine gl 1 [0,1,2,3,4,5] rfl (C1 (v:=.slice (va (⟨some _,y,w⟩:VR).q) g.length ((⟨some b27,y,w⟩:VR).k)) E5w rfl rfl 1 rfl rfl) ?_
  refine gl 3 [0,1,2,3,4,5] rfl (C1 (v:=iv _) cH rfl rfl 0 rfl rfl) ?_
  refine gl 6 [0,1,2,3,4,5] rfl (C1 (v:=iv _) cH rfl rfl 0 rfl rfl) ?_
  refine gk 7 rfl (B7b (n':=((g.getD (((l.getD e Sp3.zero).row).toNat) []).take (((l.getD e Sp3.zero).frm).toNat)).length) A1g rfl rfl (((l.getD e Sp3.zero).frm).toNat) _ (A0w rfl opx) A1u opx opx ofx rfl) ?_
  have:=@List.length_take _ (((l.getD e Sp3.zero).frm).toNat) (g.getD (((l.getD e Sp3.zero).row).toNat) [])
  refine gl 9 [0,1,2,3,4,5] rfl (C1 (v:=.slice bQ bR.length bK) E5w rfl rfl 3 rfl rfl) ?_
  refine gl 11 [0,1,2,3,4,5] rfl (C1 (v:=iv _) cH rfl rfl 0 rfl rfl) ?_
  refine B7w 8 rfl (by have:=h.1;omega) fun bw a9=>?_
  refine gk 12 rfl (F8 B0n rfl rfl a9 rfl (((l.getD e Sp3.zero).row).toNat) opx opx) ?_
  refine gk 13 rfl (H8 (C9 B3x rfl rfl (H2 (sz:=1) a9 (fun _=>rfl) 8 rfl (gd ⟨none,0,0⟩ (by have:=h.1;omega))) rfl) (U4 h (by have:=h.1;omega))) ?_
  refine gl 15 [0,1,2,3,4,5] rfl (C1 (v:=iv _) cH rfl rfl 0 rfl rfl) ?_
  refine gl 17 [0,1,2,3,4,5] rfl (C1 (v:=iv _) cH rfl rfl 0 rfl rfl) ?_
  refine gk 18 rfl (B1k (n':=(((bR.getD (((l.getD e Sp3.zero).row).toNat) []).drop (((l.getD e Sp3.zero).frm).toNat)).take ((((l.getD e Sp3.zero).tt).toNat) - (((l.getD e Sp3.zero).frm).toNat))).length) A1g rfl rfl (((l.getD e Sp3.zero).frm).toNat) (((l.getD e Sp3.zero).tt).toNat) _ (A0w rfl opx) (A0w rfl opx) A1u opx opx opx ofx rfl) ?_
  have:=@List.length_drop _ (((l.getD e Sp3.zero).frm).toNat) (bR.getD (((l.getD e Sp3.zero).row).toNat) [])
  have:=@List.length_take _ ((((l.getD e Sp3.zero).tt).toNat) - (((l.getD e Sp3.zero).frm).toNat)) ((bR.getD (((l.getD e Sp3.zero).row).toNat) []).drop (((l.getD e Sp3.zero).frm).toNat))
  refine gl 21 [0,1,2,3,4,5] rfl (C1 (v:=iv _) cH rfl rfl 0 rfl rfl) ?_
  refine gk 22 rfl (B1k (n':=((g.getD (((l.getD e Sp3.zero).row).toNat) []).drop (((l.getD e Sp3.zero).tt).toNat)).length) A1g rfl rfl (((l.getD e Sp3.zero).tt).toNat) _ _ (A0w rfl opx) A1u A1u opx opx opx ofx rfl) ?_
  have:=@List.length_drop _ (((l.getD e Sp3.zero).tt).toNat) (g.getD (((l.getD e Sp3.zero).row).toNat) [])
  refine go 23 [0,1,2,3,4,5] rfl (B1 (c:=D9) (xs:=([⟨(f.getD (((l.getD e Sp3.zero).row).toNat) (⟨none,0,0⟩:Slc)).q,((g.getD (((l.getD e Sp3.zero).row).toNat) []).take (((l.getD e Sp3.zero).frm).toNat)).length,(f.getD (((l.getD e Sp3.zero).row).toNat) (⟨none,0,0⟩:Slc)).k⟩,⟨(B2x ((bZ.getD (((l.getD e Sp3.zero).row).toNat) (⟨none,0,0⟩:Slc)).q) (((l.getD e Sp3.zero).frm).toNat) 12 ((bZ.getD (((l.getD e Sp3.zero).row).toNat) (⟨none,0,0⟩:Slc)).k)),(((bR.getD (((l.getD e Sp3.zero).row).toNat) []).drop (((l.getD e Sp3.zero).frm).toNat)).take ((((l.getD e Sp3.zero).tt).toNat) - (((l.getD e Sp3.zero).frm).toNat))).length,(((bZ.getD (((l.getD e Sp3.zero).row).toNat) (⟨none,0,0⟩:Slc)).k) - (((l.getD e Sp3.zero).frm).toNat))⟩,⟨(B2x ((f.getD (((l.getD e Sp3.zero).row).toNat) (⟨none,0,0⟩:Slc)).q) (((l.getD e Sp3.zero).tt).toNat) 12 ((f.getD (((l.getD e Sp3.zero).row).toNat) (⟨none,0,0⟩:Slc)).k)),((g.getD (((l.getD e Sp3.zero).row).toNat) []).drop (((l.getD e Sp3.zero).tt).toNat)).length,(((f.getD (((l.getD e Sp3.zero).row).toNat) (⟨none,0,0⟩:Slc)).k) - (((l.getD e Sp3.zero).tt).toNat))⟩])) B0n rfl rfl rfl oki) fun c1=>?_
  have a7:B4 ([⟨(f.getD (((l.getD e Sp3.zero).row).toNat) (⟨none,0,0⟩:Slc)).q,((g.getD (((l.getD e Sp3.zero).row).toNat) []).take (((l.getD e Sp3.zero).frm).toNat)).length,(f.getD (((l.getD e Sp3.zero).row).toNat) (⟨none,0,0⟩:Slc)).k⟩,⟨(B2x ((bZ.getD (((l.getD e Sp3.zero).row).toNat) (⟨none,0,0⟩:Slc)).q) (((l.getD e Sp3.zero).frm).toNat) 12 ((bZ.getD (((l.getD e Sp3.zero).row).toNat) (⟨none,0,0⟩:Slc)).k)),(((bR.getD (((l.getD e Sp3.zero).row).toNat) []).drop (((l.getD e Sp3.zero).frm).toNat)).take ((((l.getD e Sp3.zero).tt).toNat) - (((l.getD e Sp3.zero).frm).toNat))).length,(((bZ.getD (((l.getD e Sp3.zero).row).toNat) (⟨none,0,0⟩:Slc)).k) - (((l.getD e Sp3.zero).frm).toNat))⟩,⟨(B2x ((f.getD (((l.getD e Sp3.zero).row).toNat) (⟨none,0,0⟩:Slc)).q) (((l.getD e Sp3.zero).tt).toNat) 12 ((f.getD (((l.getD e Sp3.zero).row).toNat) (⟨none,0,0⟩:Slc)).k)),((g.getD (((l.getD e Sp3.zero).row).toNat) []).drop (((l.getD e Sp3.zero).tt).toNat)).length,(((f.getD (((l.getD e Sp3.zero).row).toNat) (⟨none,0,0⟩:Slc)).k) - (((l.getD e Sp3.zero).tt).toNat))⟩]:List Slc) ([((g.getD (((l.getD e Sp3.zero).row).toNat) []).take (((l.getD e Sp3.zero).frm).toNat)),(((bR.getD (((l.getD e Sp3.zero).row).toNat) []).drop (((l.getD e Sp3.zero).frm).toNat)).take ((((l.getD e Sp3.zero).tt).toNat) - (((l.getD e Sp3.zero).frm).toNat))),((g.getD (((l.getD e Sp3.zero).row).toNat) []).drop (((l.getD e Sp3.zero).tt).toNat))]:List (List Cel)):=(B4.cons ⟨ooy,okl,okl⟩ (B4.cons ⟨ooy,okl,okl⟩ (B4.cons ⟨ooy,okl,okl⟩ B4.none)))
  refine D1u (q:=D5 _ ([⟨(f.getD (((l.getD e Sp3.zero).row).toNat) (⟨none,0,0⟩:Slc)).q,((g.getD (((l.getD e Sp3.zero).row).toNat) []).take (((l.getD e Sp3.zero).frm).toNat)).length,(f.getD (((l.getD e Sp3.zero).row).toNat) (⟨none,0,0⟩:Slc)).k⟩,⟨(B2x ((bZ.getD (((l.getD e Sp3.zero).row).toNat) (⟨none,0,0⟩:Slc)).q) (((l.getD e Sp3.zero).frm).toNat) 12 ((bZ.getD (((l.getD e Sp3.zero).row).toNat) (⟨none,0,0⟩:Slc)).k)),(((bR.getD (((l.getD e Sp3.zero).row).toNat) []).drop (((l.getD e Sp3.zero).frm).toNat)).take ((((l.getD e Sp3.zero).tt).toNat) - (((l.getD e Sp3.zero).frm).toNat))).length,(((bZ.getD (((l.getD e Sp3.zero).row).toNat) (⟨none,0,0⟩:Slc)).k) - (((l.getD e Sp3.zero).frm).toNat))⟩,⟨(B2x ((f.getD (((l.getD e Sp3.zero).row).toNat) (⟨none,0,0⟩:Slc)).q) (((l.getD e Sp3.zero).tt).toNat) 12 ((f.getD (((l.getD e Sp3.zero).row).toNat) (⟨none,0,0⟩:Slc)).k)),((g.getD (((l.getD e Sp3.zero).row).toNat) []).drop (((l.getD e Sp3.zero).tt).toNat)).length,(((f.getD (((l.getD e Sp3.zero).row).toNat) (⟨none,0,0⟩:Slc)).k) - (((l.getD e Sp3.zero).tt).toNat))⟩]) _) (M3 (A5 4 rfl) (M3 (A5 2 rfl) (M3 (A5 1 rfl) H9))) ?_
  have hQ:=C4 hR;clear hR;obtain ⟨y0,aw,hR⟩:=hQ
  refine go 24 [0,1,2,3,4,5] rfl (L6 (L2:=(bx a0 (G0 (l.getD e Sp3.zero)) 37::bx b5 (C2 a ⟨va (⟨some b27,y,w⟩:VR).q,g.length,(⟨some b27,y,w⟩:VR).k⟩) 26::bx b3 (C2 FrmC.zero ⟨none,0,0⟩) 26::bx b2 (C2 b ⟨bQ,bR.length,bK⟩) 26::bx b1 (C2 a ⟨aQ,aR.length,aK⟩) 26::((vo D9 70 (⟨some b27,y,w⟩:VR) f)++([])))) (A9n aw a7 bW bW bW (by intro i hi;simp only [List.length_cons,List.length_nil] at hi;match i,hi with|0,_=>(simp only [List.getD_cons_zero,List.length_take,List.length_drop];omega)|1,_=>(simp only [List.getD_cons_zero,List.getD_cons_succ,List.length_take,List.length_drop];omega)|2,_=>(simp only [List.getD_cons_zero,List.getD_cons_succ,List.length_take,List.length_drop];omega))) rfl rfl rfl rfl rfl cB (List.Perm.refl _) (fun ⟨z,a1⟩=>(bx a0 (G0 (l.getD e Sp3.zero)) 37::bx b5 (C2 a ⟨va (⟨some b27,y,w⟩:VR).q,g.length,(⟨some b27,y,w⟩:VR).k⟩) 26::bx b3 (C2 FrmC.zero ⟨none,0,0⟩) 26::bx b2 (C2 b ⟨bQ,bR.length,bK⟩) 26::bx b1 (C2 a ⟨aQ,aR.length,aK⟩) 26::((vo D8 73 z y0)++((vo D9 70 (⟨some b27,y,w⟩:VR) f)++([]))))) (fun ⟨z,a1⟩=>I1 [vo D8 73 z y0,[bx a0 (G0 (l.getD e Sp3.zero)) 37],[bx b5 (C2 a ⟨va (⟨some b27,y,w⟩:VR).q,g.length,(⟨some b27,y,w⟩:VR).k⟩) 26],[bx b3 (C2 FrmC.zero ⟨none,0,0⟩) 26],[bx b2 (C2 b ⟨bQ,bR.length,bK⟩) 26],[bx b1 (C2 a ⟨aQ,aR.length,aK⟩) 26],vo D9 70 (⟨some b27,y,w⟩:VR) f] [1,2,3,4,5,0,6] 7 rfl ozw opv [[bx a0 (G0 (l.getD e Sp3.zero)) 37],[bx b5 (C2 a ⟨va (⟨some b27,y,w⟩:VR).q,g.length,(⟨some b27,y,w⟩:VR).k⟩) 26],[bx b3 (C2 FrmC.zero ⟨none,0,0⟩) 26],[bx b2 (C2 b ⟨bQ,bR.length,bK⟩) 26],[bx b1 (C2 a ⟨aQ,aR.length,aK⟩) 26],vo D8 73 z y0,vo D9 70 (⟨some b27,y,w⟩:VR) f] rfl opv)) fun ⟨z,a1⟩=>?_
  have ax:=A8o ([((g.getD (((l.getD e Sp3.zero).row).toNat) []).take (((l.getD e Sp3.zero).frm).toNat)),(((bR.getD (((l.getD e Sp3.zero).row).toNat) []).drop (((l.getD e Sp3.zero).frm).toNat)).take ((((l.getD e Sp3.zero).tt).toNat) - (((l.getD e Sp3.zero).frm).toNat))),((g.getD (((l.getD e Sp3.zero).row).toNat) []).drop (((l.getD e Sp3.zero).tt).toNat))]:List (List Cel));rw [aw] at ax
  refine gl 25 [0,1,2,3,4,5] rfl (A1k B0n rfl rfl rfl (((l.getD e Sp3.zero).row).toNat) opx (by have:=j.1;omega)) ?_
  have:=bT.cap a1
  have:=bT.le a1
  refine gS [_,_,_,_,_] _ [0,1,2,3,4,5] a1 opv ?_
  have ao:B4 (f.set (((l.getD e Sp3.zero).row).toNat) (⟨va z.q,y0.length,z.k⟩:Slc)) (g.set (((l.getD e Sp3.zero).row).toNat) y0):=B4.set j (((l.getD e Sp3.zero).row).toNat) ⟨rfl,okl,okl⟩
  refine D1u (D8m (((l.getD e Sp3.zero).row).toNat) (r:=⟨va z.q,y0.length,z.k⟩) (A5 16 rfl) (A5 0 rfl)) ?_
  refine go 26 [0,1,2,3,4] rfl (A5x (us:=[.slice (va z.q) y0.length z.k]) (u':=(⟨va z.q,y0.length,z.k⟩:Slc)) (c:=D9) (sz:=1) B3x (fun _=>rfl) rfl rfl rfl 5 rfl rfl rfl rfl (((l.getD e Sp3.zero).row).toNat) 0 rfl (gd (⟨none,0,0⟩:Slc) (by have:=j.1;omega)) rfl rfl) fun _=>?_
  refine gdn ?_
  refine nx (A1 2 rfl (ix rfl (B3 rfl rfl rfl rfl opx) (bP 1 27 rfl (A2 ?_))))
  exact A2g (_,g.set (((l.getD e Sp3.zero).row).toNat) y0,(⟨some b27,y,w⟩:VR),(f.set (((l.getD e Sp3.zero).row).toNat) (⟨va z.q,y0.length,z.k⟩:Slc))) ⟨opx,hR,(bT.cast s oom),ao,(by simp only [List.length_set];omega),(by exact D5d b8 (by rw [ax];simp only [List.flatten_cons,List.flatten_nil,List.length_append,List.length_take,List.length_drop,List.length_nil];omega))⟩ olr bU cB
 have ae:=bV af
 rw [A1d ae] at hR;replace hR:=(X1.eq_1 ..).symm.trans hR
 refine F4 (nx (bS rfl (zrg 3 0 [0,1] [(7,iv 0)] (bx b5 (C2 a ⟨va p.q,g.length,p.k⟩) 26::bx b3 (C2 a ⟨va p.q,g.length,p.k⟩) 26::bx b2 (C2 b ⟨bQ,bR.length,bK⟩) 26::bx b1 (C2 a ⟨aQ,aR.length,aK⟩) 26::((vo D9 70 p f)++([]))) ?_)))
 subst hR
 refine ie (A8 ?_)
 exact cD hr hD (U0 rfl (F0 C2f rfl 1 rfl rfl rfl) (A6 rfl)) ⟨(p,f),⟨s,j⟩⟩ bU cB
theorem D6r:Ty Tryz.prog 29 3 true:=⟨by kernel_rfl⟩
def A5c (a:FrmC) (aR:List (List Cel)) (b:FrmC) (bR:List (List Cel)):FrmC×List (List Cel)×Int :=
 (bif (!decide ((J1 a aR b bR)=0)) then (FrmC.zero,([]:List (List Cel)),(J1 a aR b bR)) else (B6 (N1 aR) fun (c:List (List Cel))=>(a,c,0)))
theorem C2m (a:FrmC) (aR:List (List Cel)) (b:FrmC) (bR:List (List Cel)):(A5c a aR b bR).1.title.length≤a.title.length:=by
 unfold A5c
 cases (!decide (J1 a aR b bR=0)) with
 | true=>exact Nat.zero_le _
 | false=>exact Nat.le_refl _
theorem C8z {a:FrmC} {aR:List (List Cel)} {b:FrmC} {bR:List (List Cel)} {aQ:Option Addr} {aZ:List Slc} {aK:Nat} {bQ:Option Addr} {bZ:List Slc} {bK:Nat} {R:FrmC×List (List Cel)×Int} (hR:A5c a aR b bR=R) (d:B4 aZ aR:=by exact bW) (u:aR.length≤9223372036854775807:=by exact bW) (r:aR.length≤aK:=by exact bW) (e:B4 bZ bR:=by exact bW) (p:bR.length≤9223372036854775807:=by exact bW) (v:bR.length≤bK:=by exact bW) (hT:a.title.length≤100000000:=by exact bW) (a1:b.title.length≤100000000:=by exact bW):Con Tryz.prog 20 [ag (C2 a ⟨aQ,aR.length,aK⟩),ag (C2 b ⟨bQ,bR.length,bK⟩),.slice none 0 0] [] [sl D9 aQ aZ,D5 D8 aZ aR,sl D9 bQ bZ,D5 D8 bZ bR,U5,U8] ({t:VR×List Slc // bT 1 R.2.1.length t.1∧B4 t.2 R.2.1}) (fun x=>.tuple #[ag (C2 R.1 ⟨va x.1.1.q,R.2.1.length,x.1.1.k⟩),iv R.2.2]) (fun x=>((vo D9 70 x.1.1 x.1.2)++([]))) (fun x=>[D5 D8 x.1.2 R.2.1]):=by
 refine cC Tryz.func20 fun X hX hr hD=>?_
 replace hR:=(A5c.eq_1 ..).symm.trans hR
 have:=d.1
 have:=e.1
 refine bS rfl (D5f 4 0 [] (fun m s j=>[(3,pt m 0),(4,pt s 0),(6,pt j 0)]) (fun m s j=>[bx j (C2 FrmC.zero ⟨none,0,0⟩) 26,bx s (C2 b ⟨bQ,bR.length,bK⟩) 26,bx m (C2 a ⟨aQ,aR.length,aK⟩) 26]) (fun m s j=>(ie (A3 (bS rfl (c9 2 2 [2,1] [(13,ag (C2 a _)),(14,ag _)] (zv rfl (B0x rfl d bW bW e) (bP 1 8 rfl (ie (bS rfl (bP 2 17 rfl (ie ?_))))))))))))
 refine zjn rfl hR ?_ ?_<;>clear hR<;>intro hR h4 a3
 ·refine bS rfl (zru 4 [0] [(7,iv (J1 a aR b bR))] 0 (bx j (C2 FrmC.zero ⟨none,0,0⟩) 26) ?_)
  subst hR
  refine ie (A8 ?_)
  exact cD hr hD (U0 rfl (F0 C2f rfl 0 rfl rfl rfl) (A6 rfl)) ⟨(_,_),⟨bT.nil,B4.none⟩⟩ bU cB
 have f:=Z1 (by simpa using h4)
 have z:=f.1.2.2.2.2
 have a4:=f.2.1.2.2.2.2
 have a5:=f.2.2
 refine A4 (nx (bS rfl (zra 3 [2,0] (fun w=>[(9,pt w 0)]) (fun _=>(C2 a ⟨aQ,aR.length,aK⟩)) 26 fun w=>(ie (bS rfl (cF 2 [3] 22 rfl ?_))))))
 have hQ:=C4 hR;clear hR;obtain ⟨y,n,hR⟩:=hQ
 refine zc rfl (A3h n d) fun ⟨⟨g,l⟩,h⟩=>?_
 try dsimp only at h
 obtain ⟨i,o⟩:=h
 have:=bT.le i
 have:=bT.cap i
 have:=o.1
 have c:=A2t aR;rw [n] at c;have:=congrArg List.length c;try simp only [List.length_take,List.length_drop] at this
 refine zru 2 [0] [] 0 (bx w (C2 a ⟨va g.q,y.length,g.k⟩) 26) ?_
 refine ie (A3 (bS rfl (pp3 3 25 26 27 rfl (ie (A9 (Y9 2 ?_))))))
 refine E7 (bS rfl (bP 1 28 rfl ?_))
 refine ie (A3 (A4r rfl (F4 (nx (bS rfl (zrg 3 0 [0,1] [(7,iv 0)] (bx w (C2 a ⟨va g.q,y.length,g.k⟩) 26::bx j (C2 a ⟨va g.q,y.length,g.k⟩) 26::bx s (C2 b ⟨bQ,bR.length,bK⟩) 26::bx m (C2 a ⟨aQ,aR.length,aK⟩) 26::((vo D9 70 g l)++([]))) ?_))))))
 subst hR
 refine ie (A8 ?_)
 exact cD hr hD (U0 rfl (F0 (us:=C2 a ⟨va g.q,y.length,g.k⟩) C2f rfl 1 rfl rfl rfl) (A6 rfl)) ⟨(g,l),⟨i,o⟩⟩ bU cB
structure HndC where
 cur:Cur
 cols:Int
 rows:Int
 style:Sty
deriving DecidableEq
def E3h (x:HndC):List Value:=H4 x.cur++([.int .i64 x.cols,.int .i64 x.rows]++(D6 x.style))
def HndC.zero:HndC:=⟨Cur.zero,0,0,Sty.zero⟩
theorem E3h.inj (x y:HndC) (h:E3h x=E3h y):x=y:=by
 rcases x with ⟨⟨_,_,_⟩,_,_,⟨_,_,⟨_,_⟩,⟨_,_⟩,⟨_,_⟩⟩⟩
 rcases y with ⟨⟨_,_,_⟩,_,_,⟨_,_,⟨_,_⟩,⟨_,_⟩,⟨_,_⟩⟩⟩
 simp [U2,H4,E3h,D6,bs] at h
 simp_all
def I2 (x:HndC) (l:Slc):List Value:=H4 x.cur++([.int .i64 x.cols,.int .i64 x.rows]++(D6 x.style++([.slice l.q l.n l.k])))
structure Sad where
 differs:Bool
 does:Act
deriving DecidableEq
def B0e (x:Sad):List Value:=[.bool x.differs]++(A0 x.does)
def Sad.zero:Sad:=⟨false,Act.zero⟩
theorem B0e.inj (x y:Sad) (h:B0e x=B0e y):x=y:=by
 rcases x with ⟨_,⟨_,_,_,⟨_,_⟩,_⟩⟩
 rcases y with ⟨_,⟨_,_,_,⟨_,_⟩,_⟩⟩
 simp [A0,U2,B0e,bs] at h
 simp_all
def A1j (a:FrmC) (aR:List (List Cel)) (b:FrmC) (bR:List (List Cel)) (c:Cur):Bool×HndC×Int :=
 (B6 (A5c a aR b bR) fun (d:FrmC×List (List Cel)×Int)=>(bif (!decide (d.2.2=0)) then (false,HndC.zero,d.2.2) else (B6 (A0c a.cols (aR.length:Int) c Plc.zero) fun (e:List Act×Int)=>(bif (!decide (e.2=0)) then (false,HndC.zero,2) else (true,{HndC.zero with cur:=c,cols:=a.cols,rows:=(aR.length:Int)},0)))))
theorem B2n (a:FrmC) (aR:List (List Cel)) (b:FrmC) (bR:List (List Cel)) (c:Cur):(A1j a aR b bR c).1=decide ((A1j a aR b bR c).2.2=0):=by
 unfold A1j B6;simp only [Bool.cond_eq_ite];repeat' split
 all_goals simp_all
theorem B7r {a:FrmC} {aR:List (List Cel)} {b:FrmC} {bR:List (List Cel)} {c:Cur} {aQ:Option Addr} {aZ:List Slc} {aK:Nat} {bQ:Option Addr} {bZ:List Slc} {bK:Nat} {R:Bool×HndC×Int} (hR:A1j a aR b bR c=R) (e:B4 aZ aR:=by exact bW) (a3:aR.length≤9223372036854775807:=by exact bW) (z:aR.length≤aK:=by exact bW) (d:B4 bZ bR:=by exact bW) (y:bR.length≤9223372036854775807:=by exact bW) (a5:bR.length≤bK:=by exact bW) (hT:a.title.length≤100000000:=by exact bW) (ab:b.title.length≤100000000:=by exact bW):Con Tryz.prog 19 [ag (C2 a ⟨aQ,aR.length,aK⟩),ag (C2 b ⟨bQ,bR.length,bK⟩),ag (H4 c)] [] [sl D9 aQ aZ,D5 D8 aZ aR,sl D9 bQ bZ,D5 D8 bZ bR,U5,U8,J2,M2] ({q:Option Nat // q.isSome=R.1}) (fun x=>.tuple #[pv x.1,iv R.2.2]) (fun x=>((po (I2 R.2.1 ⟨none,0,0⟩) 67 x.1)++([]))) (fun x=>[]):=by
 refine cC Tryz.func19 fun X hX hr hD=>?_
 replace hR:=(A1j.eq_1 ..).symm.trans hR
 have:=e.1
 have:=d.1
 refine bS rfl (D5f 5 0 [] (fun j n l=>[(3,pt j 0),(4,pt n 0),(5,pt l 0)]) (fun j n l=>[bx l (H4 c) 29,bx n (C2 b ⟨bQ,bR.length,bK⟩) 26,bx j (C2 a ⟨aQ,aR.length,aK⟩) 26]) (fun j n l=>(ie (A3 (bS rfl (c9 2 7 [2,1] [(14,ag (C2 a ⟨aQ,aR.length,aK⟩)),(15,ag (C2 b ⟨bQ,bR.length,bK⟩))] ?_))))))
 have hQ:=C4 hR;clear hR;obtain ⟨i,a4,hR⟩:=hQ
 refine zc rfl (C8z a4 e bW bW d) fun ⟨⟨g,h⟩,w⟩=>?_
 try dsimp only at w
 obtain ⟨a2,a8⟩:=w
 have:=bT.le a2
 have:=bT.cap a2
 have:=a8.1
 have:=C2m a aR b bR;try rw [a4] at this
 refine B0j 6 0 [0] (fun o=>[(9,iv i.2.2)]) (fun o=>(bx o (C2 i.1 ⟨va g.q,i.2.1.length,g.k⟩) 26::bx l (H4 c) 29::bx n (C2 b ⟨bQ,bR.length,bK⟩) 26::bx j (C2 a ⟨aQ,aR.length,aK⟩) 26::((vo D9 70 g h)++([])))) (fun o=>?_)
 refine ie (bS rfl (bP 2 20 rfl ?_))
 refine ie (G4 rfl (fun r=>?_) (fun r=>?_))
 ·have a0:=bV r
  replace hR:=bt hR r
  refine bS rfl (cG 3 6 7 rfl ?_)
  subst hR
  refine ie (A8 ?_)
  exact cD hr hD (U0 rfl (A6 rfl) (A6 rfl)) ⟨none,rfl⟩ (List.nil_sublist _) bX
 have a0:=bV r
 replace hR:=bf hR r
 refine A4 (nx (bS rfl (B0j 10 0 [1,3,3] (fun f=>[(10,pt f 0)]) (fun f=>(bx f (I2 ({HndC.zero with cur:=c,cols:=a.cols,rows:=(aR.length:Int)}) ⟨none,0,0⟩) 67::bx o (C2 i.1 ⟨va g.q,i.2.1.length,g.k⟩) 26::bx l (H4 c) 29::bx n (C2 b ⟨bQ,bR.length,bK⟩) 26::bx j (C2 a ⟨aQ,aR.length,aK⟩) 26::((vo D9 70 g h)++([])))) (fun f=>(ie (A3 ?_))))))
 refine sh 16 [(16,[bx f (I2 ({HndC.zero with cur:=c,cols:=a.cols,rows:=(aR.length:Int)}) ⟨none,0,0⟩) 67]),(16,[bx o (C2 i.1 ⟨va g.q,i.2.1.length,g.k⟩) 26]),(16,[bx l (H4 c) 29]),(16,[bx n (C2 b ⟨bQ,bR.length,bK⟩) 26]),(16,[bx j (C2 a ⟨aQ,aR.length,aK⟩) 26]),(16,vo D9 70 g h)] [D5 D8 h i.2.1,sl D9 aQ aZ,D5 D8 aZ aR,sl D9 bQ bZ,D5 D8 bZ bR,U5,U8,J2,M2] (bx f (I2 ({HndC.zero with cur:=c,cols:=a.cols,rows:=(aR.length:Int)}) ⟨none,0,0⟩) 67::bx o (C2 i.1 ⟨va g.q,i.2.1.length,g.k⟩) 26::bx l (H4 c) 29::bx n (C2 b ⟨bQ,bR.length,bK⟩) 26::bx j (C2 a ⟨aQ,aR.length,aK⟩) 26::((vo D9 70 g h)++([]))) (cA 16 0) oki rfl oki oki oki bU A7.refl ?_
 refine zhp [0,1,2,4,5,6] 10 (cA 16 119) [(34,pt f 3),(38,pt f 4)] ?_
 refine zhl 3 (bx f (I2 ({HndC.zero with cur:=c,cols:=a.cols,rows:=(aR.length:Int)}) ⟨none,0,0⟩) 67::bx o (C2 i.1 ⟨va g.q,i.2.1.length,g.k⟩) 26::bx l (H4 c) 29::bx n (C2 b ⟨bQ,bR.length,bK⟩) 26::bx j (C2 a ⟨aQ,aR.length,aK⟩) 26::((vo D9 70 g h)++([]))) (cA 16 127) rfl (C1 (v:=iv a.cols) cH rfl rfl 0 rfl rfl) ?_
 refine zhl 7 (bx f (I2 ({HndC.zero with cur:=c,cols:=a.cols,rows:=(aR.length:Int)}) ⟨none,0,0⟩) 67::bx o (C2 i.1 ⟨va g.q,i.2.1.length,g.k⟩) 26::bx l (H4 c) 29::bx n (C2 b ⟨bQ,bR.length,bK⟩) 26::bx j (C2 a ⟨aQ,aR.length,aK⟩) 26::((vo D9 70 g h)++([]))) (cA 16 255) rfl (C1 (v:=iv (aR.length:Int)) cH rfl rfl 0 rfl rfl) ?_
 refine zhl 8 (bx f (I2 ({HndC.zero with cur:=c,cols:=a.cols,rows:=(aR.length:Int)}) ⟨none,0,0⟩) 67::bx o (C2 i.1 ⟨va g.q,i.2.1.length,g.k⟩) 26::bx l (H4 c) 29::bx n (C2 b ⟨bQ,bR.length,bK⟩) 26::bx j (C2 a ⟨aQ,aR.length,aK⟩) 26::((vo D9 70 g h)++([]))) (cA 16 511) rfl (G7 (us:=H4 c) D6r rfl rfl 2 rfl rfl rfl) ?_
 refine zhk 9 (cA 16 1023) rfl (A1h (cs:=S8 Plc.zero) rfl rfl oki) ?_
 have hQ:=C4 hR;clear hR;obtain ⟨y2,s,hR⟩:=hQ
 refine zho 10 (bx f (I2 ({HndC.zero with cur:=c,cols:=a.cols,rows:=(aR.length:Int)}) ⟨none,0,0⟩) 67::bx o (C2 i.1 ⟨va g.q,i.2.1.length,g.k⟩) 26::bx l (H4 c) 29::bx n (C2 b ⟨bQ,bR.length,bK⟩) 26::bx j (C2 a ⟨aQ,aR.length,aK⟩) 26::((vo D9 70 g h)++([]))) (cA 16 2047) rfl (H1 (L2:=(bx f (I2 ({HndC.zero with cur:=c,cols:=a.cols,rows:=(aR.length:Int)}) ⟨none,0,0⟩) 67::bx o (C2 i.1 ⟨va g.q,i.2.1.length,g.k⟩) 26::bx l (H4 c) 29::bx n (C2 b ⟨bQ,bR.length,bK⟩) 26::bx j (C2 a ⟨aQ,aR.length,aK⟩) 26::((vo D9 70 g h)++([])))) (C1h s) rfl rfl rfl rfl rfl cB (List.Perm.refl _) (fun ⟨⟨t,u⟩,m⟩=>(bx f (I2 ({HndC.zero with cur:=c,cols:=a.cols,rows:=(aR.length:Int)}) ⟨none,0,0⟩) 67::bx o (C2 i.1 ⟨va g.q,i.2.1.length,g.k⟩) 26::bx l (H4 c) 29::bx n (C2 b ⟨bQ,bR.length,bK⟩) 26::bx j (C2 a ⟨aQ,aR.length,aK⟩) 26::((vo D9 70 g h)++([])))) (fun _=>by first|rfl|simp)) (fun ⟨⟨t,u⟩,m⟩=>bU) (fun ⟨⟨t,u⟩,m⟩=>cB) fun ⟨⟨t,u⟩,m⟩=>?_
 obtain ⟨a9,aa⟩:=m
 have a6:=D5u s
 have:=a6.1;try rw [s] at this
 refine zhp [11,12,13,14,15] 0 (cA 16 65535) [(12,iv y2.2)] ?_
 refine B4u oki ?_
 refine bS rfl (bP 2 46 rfl ?_)
 refine ie (G4 rfl (fun p=>?_) (fun p=>?_))
 ·have a1:=bV p
  replace hR:=bt hR p
  refine bS rfl (cG 2 6 7 rfl ?_)
  subst hR
  refine ie (A8 ?_)
  exact cD hr hD (U0 rfl (A6 rfl) (A6 rfl)) ⟨none,rfl⟩ (List.nil_sublist _) bX
 have a1:=bV p
 replace hR:=bf hR p
 refine A4 (nx (bS rfl (cG 3 6 7 rfl ?_)))
 subst hR
 refine ie (A8 ?_)
 exact cD hr hD (U0 rfl (A6 rfl) (A6 rfl)) ⟨some f,rfl⟩ bU bX
theorem C2i:EqT Tryz.prog 105 B0e:=EqT.of 20 rfl oki oki (fun _ _=>by kernel_rfl) B0e.inj
theorem F6e:Ty Tryz.prog 24 2 true:=⟨by kernel_rfl⟩
theorem D0z:Ty Tryz.prog 105 7 true:=⟨by kernel_rfl⟩
def O0 (h:HndC) (hL:List Act) (l:List Act):List Act :=
 (hL++l)
theorem K9 (h:HndC) (hL l:List Act):(O0 h hL l).length=hL.length+l.length:=List.length_append
theorem P9 {h:HndC} {hL l:List Act} {hb:Nat} {hLr:VR} {lq:Option Addr} {lk:Nat} {R:List Act} (hR:O0 h hL l=R) (a:bT 6 hL.length hLr:=by exact bW) (d:l.length≤9223372036854775807:=by exact bW) (e:l.length≤lk:=by exact bW) (g:hL.length+l.length≤1000000000000:=by exact bW):Con Tryz.prog 31 [pt hb 0,.slice lq l.length lk] (bx hb (I2 h ⟨va hLr.q,hL.length,hLr.k⟩) 67::((vo A0 54 hLr hL)++([]))) [sl A0 lq l] ({r:VR // bT 6 R.length r}) (fun x=>.tuple #[]) (fun x=>(bx hb (I2 h ⟨va x.1.q,R.length,x.1.k⟩) 67::((vo A0 54 x.1 R)++([])))) (fun x=>[]):=by
 refine cC Tryz.func31 fun X hX hr hD=>?_
 replace hR:=(O0.eq_1 ..).symm.trans hR
 refine A1 10 rfl (pl3 6 [0] 4 8 9 rfl (it rfl (A4i (f:=A0) (r:=hLr) (xs:=hL) (ys:=l) (pre:=[bx hb (I2 h ⟨va hLr.q,hL.length,hLr.k⟩) 67]) (post:=[]) A4u (fun _=>rfl) (fun _=>rfl) rfl rfl rfl rfl rfl rfl rfl rfl (A5 0 rfl) a ofv ofv) fun ⟨c,b⟩=>?_))
 refine zru 3 [0] [] 0 (bx hb (I2 h ⟨va c.q,(hL++l).length,c.k⟩) 67) ?_
 subst hR
 refine A2 ?_
 exact zen hr hD (B0u rfl) ⟨c,b⟩ bU bX
def N5 (h:HndC) (hL:List Act) (to_:Plc):List Act×HndC×Int :=
 (B6 (A0c h.cols h.rows h.cur to_) fun (a:List Act×Int)=>(B6 (O0 h hL a.1) fun (b:List Act)=>(bif (decide (a.2=0)) then (b,{h with cur:={Cur.zero with row:=to_.row,col:=to_.col}},a.2) else (b,h,a.2))))
theorem P3 (h:HndC) (hL:List Act) (to_:Plc):(N5 h hL to_).1.length≤hL.length+100:=by
 unfold N5 O0 B6
 have:=(D5u (rfl:A0c h.cols h.rows h.cur to_=_)).1
 generalize A0c h.cols h.rows h.cur to_=m at this ⊢
 cases hd:decide (m.2=0)<;>simp only [hd,cond_true,cond_false,List.length_append]<;>omega
theorem oxw {p:Prop} (h:p:=by first|omega|assumption|(simp only [List.length_nil,List.length_cons];omega)|(simp only [List.length_nil,List.length_cons] at *;omega)):p:=h
theorem V7 {h:HndC} {hL:List Act} {to_:Plc} {hb:Nat} {hLr:VR} {R:List Act×HndC×Int} (hR:N5 h hL to_=R) (a:bT 6 hL.length hLr:=by exact bW) (w:hL.length≤900000000000:=by exact bW):Con Tryz.prog 48 [pt hb 0,ag (S8 to_)] (bx hb (I2 h ⟨va hLr.q,hL.length,hLr.k⟩) 67::((vo A0 54 hLr hL)++([]))) [U5,U8,J2,M2] ({r:VR // bT 6 R.1.length r}) (fun x=>iv R.2.2) (fun x=>(bx hb (I2 R.2.1 ⟨va x.1.q,R.1.length,x.1.k⟩) 67::((vo A0 54 x.1 R.1)++([])))) (fun x=>[]):=by
 refine cC Tryz.func48 fun X hX hr hD=>?_
 replace hR:=(N5.eq_1 ..).symm.trans hR
 have:=bT.le a
 refine bS rfl (B0j 2 0 [] (fun b=>[(3,pt b 0)]) (fun b=>(bx b (S8 to_) 24::bx hb (I2 h ⟨va hLr.q,hL.length,hLr.k⟩) 67::((vo A0 54 hLr hL)++([])))) (fun b=>(ie ?_)))
 refine sh 20 [(20,[bx b (S8 to_) 24]),(20,[bx hb (I2 h ⟨va hLr.q,hL.length,hLr.k⟩) 67]),(20,vo A0 54 hLr hL)] [U5,U8,J2,M2] (bx b (S8 to_) 24::bx hb (I2 h ⟨va hLr.q,hL.length,hLr.k⟩) 67::((vo A0 54 hLr hL)++([]))) (cA 20 0) oki rfl oki oki oki bU A7.refl ?_
 refine zhp [0,1,2,4,5,6,8,9,10,11] 10 (cA 20 3959) [(11,pt hb 3),(15,pt hb 4),(20,pt hb 0)] ?_
 refine zhl 3 (bx b (S8 to_) 24::bx hb (I2 h ⟨va hLr.q,hL.length,hLr.k⟩) 67::((vo A0 54 hLr hL)++([]))) (cA 20 3967) rfl (C1 (v:=iv h.cols) cH rfl rfl 1 rfl rfl) ?_
 refine zhl 7 (bx b (S8 to_) 24::bx hb (I2 h ⟨va hLr.q,hL.length,hLr.k⟩) 67::((vo A0 54 hLr hL)++([]))) (cA 20 4095) rfl (C1 (v:=iv h.rows) cH rfl rfl 1 rfl rfl) ?_
 refine zhl 12 (bx b (S8 to_) 24::bx hb (I2 h ⟨va hLr.q,hL.length,hLr.k⟩) 67::((vo A0 54 hLr hL)++([]))) (cA 20 8191) rfl (G7 (us:=H4 h.cur) D6r rfl rfl 1 rfl rfl rfl) ?_
 refine zhl 13 (bx b (S8 to_) 24::bx hb (I2 h ⟨va hLr.q,hL.length,hLr.k⟩) 67::((vo A0 54 hLr hL)++([]))) (cA 20 16383) rfl (G7 (us:=S8 to_) F6e rfl rfl 0 rfl rfl rfl) ?_
 have o:=C4 hR;clear hR;obtain ⟨m,e,hR⟩:=o
 refine zho 14 (bx b (S8 to_) 24::bx hb (I2 h ⟨va hLr.q,hL.length,hLr.k⟩) 67::((vo A0 54 hLr hL)++([]))) (cA 20 32767) rfl (H1 (L2:=(bx b (S8 to_) 24::bx hb (I2 h ⟨va hLr.q,hL.length,hLr.k⟩) 67::((vo A0 54 hLr hL)++([])))) (C1h e) rfl rfl rfl rfl rfl A7.refl (List.Perm.refl _) (fun ⟨⟨l,g⟩,c⟩=>(bx b (S8 to_) 24::bx hb (I2 h ⟨va hLr.q,hL.length,hLr.k⟩) 67::((vo A0 54 hLr hL)++([])))) (fun _=>by first|rfl|simp)) (fun ⟨⟨l,g⟩,c⟩=>bU) (fun ⟨⟨l,g⟩,c⟩=>cB) fun ⟨⟨l,g⟩,c⟩=>?_
 obtain ⟨u,t⟩:=c
 have n:=D5u e
 have:=n.1;try rw [e] at this
 refine zhp [15,16,17,18,19] 0 (cA 20 1048575) [(5,.slice l m.1.length g),(6,iv m.2)] ?_
 refine B4u oki ?_
 refine bS rfl (ip' 3 0 [(7,.func (.func 31) #[pt hb 0] #[])] (ie (bS rfl (ip' 2 1 [(28,.func (.func 31) #[pt hb 0] #[]),(29,.slice l m.1.length g)] ?_))))
 have o:=C4 hR;clear hR;obtain ⟨s,j,hR⟩:=o
 refine zc rfl (P9 j a bW bW oxw) fun ⟨i,d⟩=>?_
 have:=bT.le d
 have:=bT.cap d
 have:=K9 h hL m.1;try rw [j] at this
 refine ie (A3 (bS rfl (bP 2 32 rfl ?_)))
 refine ie (G4 rfl (fun f=>?_) (fun f=>?_))
 ·have p:=bV f
  replace hR:=bt hR f
  refine A1 10 rfl (zrg 10 0 [1,1,0] [] (bx hb (I2 ({h with cur:={Cur.zero with row:=to_.row,col:=to_.col}}) ⟨va i.q,s.length,i.k⟩) 67::bx b (S8 to_) 24::((vo A0 54 i s)++([]))) (A2 (nx (bS rfl (bP 2 4 rfl ?_)))))
  subst hR
  refine ie (A8 ?_)
  exact cD hr hD (K7 rfl (A6 rfl)) ⟨i,d⟩ bU bX
 have p:=bV f
 replace hR:=bf hR f
 refine A4 (nx (bS rfl (bP 2 4 rfl ?_)))
 subst hR
 refine ie (A8 ?_)
 exact cD hr hD (K7 rfl (A6 rfl)) ⟨i,d⟩ bU bX
def A3g (h:HndC) (hL:List Act) (a:FrmC) (b:FrmC) (c:Act):List Act×HndC×Int :=
 (bif (!(decide ((⟨(!(decide (a.title=b.title))),({Act.zero with kind:=44,text:=b.title})⟩:Sad)={Sad.zero with does:=({Act.zero with kind:=44,text:=b.title})}))) then (B6 (O0 h hL ([({Act.zero with kind:=44,text:=b.title})]:List Act)) fun (o:List Act)=>(bif (!(decide ((⟨(!decide (a.shape=b.shape)),({Act.zero with kind:=40,n:=b.shape})⟩:Sad)={Sad.zero with does:=({Act.zero with kind:=40,n:=b.shape})}))) then (B6 (O0 h o ([({Act.zero with kind:=40,n:=b.shape})]:List Act)) fun (s:List Act)=>(bif (!(decide ((⟨(!(a.visible == b.visible)),c⟩:Sad)={Sad.zero with does:=c}))) then (B6 (O0 h s ([c]:List Act)) fun (k:List Act)=>(B6 (N5 h k b.cursor) fun (m:List Act×HndC×Int)=>(m.1,m.2.1,m.2.2))) else (B6 (N5 h s b.cursor) fun (f:List Act×HndC×Int)=>(f.1,f.2.1,f.2.2)))) else (bif (!(decide ((⟨(!(a.visible == b.visible)),c⟩:Sad)={Sad.zero with does:=c}))) then (B6 (O0 h o ([c]:List Act)) fun (j:List Act)=>(B6 (N5 h j b.cursor) fun (l:List Act×HndC×Int)=>(l.1,l.2.1,l.2.2))) else (B6 (N5 h o b.cursor) fun (g:List Act×HndC×Int)=>(g.1,g.2.1,g.2.2))))) else (bif (!(decide ((⟨(!decide (a.shape=b.shape)),({Act.zero with kind:=40,n:=b.shape})⟩:Sad)={Sad.zero with does:=({Act.zero with kind:=40,n:=b.shape})}))) then (B6 (O0 h hL ([({Act.zero with kind:=40,n:=b.shape})]:List Act)) fun (t:List Act)=>(bif (!(decide ((⟨(!(a.visible == b.visible)),c⟩:Sad)={Sad.zero with does:=c}))) then (B6 (O0 h t ([c]:List Act)) fun (p:List Act)=>(B6 (N5 h p b.cursor) fun (r:List Act×HndC×Int)=>(r.1,r.2.1,r.2.2))) else (B6 (N5 h t b.cursor) fun (d:List Act×HndC×Int)=>(d.1,d.2.1,d.2.2)))) else (bif (!(decide ((⟨(!(a.visible == b.visible)),c⟩:Sad)={Sad.zero with does:=c}))) then (B6 (O0 h hL ([c]:List Act)) fun (q:List Act)=>(B6 (N5 h q b.cursor) fun (e:List Act×HndC×Int)=>(e.1,e.2.1,e.2.2))) else (B6 (N5 h hL b.cursor) fun (i:List Act×HndC×Int)=>(i.1,i.2.1,i.2.2)))))
def U9 (h:HndC) (hL:List Act) (a:FrmC) (aR:List (List Cel)) (b:FrmC) (bR:List (List Cel)):List Act×HndC×Int :=
 (bif b.visible then A3g h hL a b ({Act.zero with kind:=37,n:=25,m:=1}) else A3g h hL a b ({Act.zero with kind:=37,n:=25}))
theorem B6l {h:HndC} {hL:List Act} {a:FrmC} {aR:List (List Cel)} {b:FrmC} {bR:List (List Cel)} {hb:Nat} {hLr:VR} {aQ:Option Addr} {aZ:List Slc} {aK:Nat} {bQ:Option Addr} {bZ:List Slc} {bK:Nat} {R:List Act×HndC×Int} (hR:U9 h hL a aR b bR=R) (e:bT 6 hL.length hLr:=by exact bW) (g:B4 aZ aR:=by exact bW) (bd:aR.length≤9223372036854775807:=by exact bW) (aw:aR.length≤aK:=by exact bW) (i:B4 bZ bR:=by exact bW) (av:bR.length≤9223372036854775807:=by exact bW) (bi:bR.length≤bK:=by exact bW) (hn:hL.length≤800000000000:=by exact bW):Con Tryz.prog 27 [pt hb 0,ag (C2 a ⟨aQ,aR.length,aK⟩),ag (C2 b ⟨bQ,bR.length,bK⟩)] (bx hb (I2 h ⟨va hLr.q,hL.length,hLr.k⟩) 67::((vo A0 54 hLr hL)++([]))) [sl D9 aQ aZ,D5 D8 aZ aR,sl D9 bQ bZ,D5 D8 bZ bR,U5,U8,J2,M2] ({r:VR // bT 6 R.1.length r}) (fun x=>iv R.2.2) (fun x=>(bx hb (I2 R.2.1 ⟨va x.1.q,R.1.length,x.1.k⟩) 67::((vo A0 54 x.1 R.1)++([])))) (fun x=>[]):=by
 refine cC Tryz.func27 fun X hX hr hD=>?_
 replace hR:=(U9.eq_1 ..).symm.trans hR
 refine bS rfl (B6z 3 [] (fun b1 b2=>[(4,pt b1 0),(5,pt b2 0)]) (fun _ _=>(C2 a ⟨aQ,aR.length,aK⟩)) (fun _ _=>(C2 b ⟨bQ,bR.length,bK⟩)) 26 26 fun b1 b2=>(ie (bS rfl (zra 3 [0] (fun b3=>[(7,pt b3 0)]) (fun _=>(A0 ({Act.zero with kind:=37,n:=25}))) 54 fun b3=>?_))))
 refine ie (A7y (fun d=>(A3g h hL a b d=R,[(0,pt hb 0),(4,pt b1 0),(5,pt b2 0),(7,pt b3 0)],(bx b3 (A0 d) 54::bx b2 (C2 b ⟨bQ,bR.length,bK⟩) 26::bx b1 (C2 a ⟨aQ,aR.length,aK⟩) 26::bx hb (I2 h ⟨va hLr.q,hL.length,hLr.k⟩) 67::((vo A0 54 hLr hL)++([]))),[sl D9 aQ aZ,D5 D8 aZ aR,sl D9 bQ bZ,D5 D8 bZ bR,U5,U8,J2,M2])) ?_ ?_)
 ·refine bS rfl (cF 2 [1] 12 rfl ?_)
  refine ie (G4 rfl (fun h4=>?_) (fun h4=>?_))
  ·replace hR:=bt hR h4
   refine A1 2 rfl (zru 2 [0] [] 0 (bx b3 (A0 ({Act.zero with kind:=37,n:=25,m:=1})) 54) (A2 ?_))
   exact W8 _ hR bU A7.refl
  replace hR:=bf hR h4
  refine A4 ?_
  exact W8 _ hR bU A7.refl
 intro d
 rintro hR
 replace hR:=(A3g.eq_1 ..).symm.trans hR
 refine A3 (bS rfl (pl2 4 [2,1] 15 17 rfl ?_))
 refine ix rfl (A9v rfl rfl rfl) (c9 17 5 [1,2,1,1,2,1] [(22,ag (B0e ⟨(!(decide (a.title=b.title))),{Act.zero with kind:=44,text:=b.title}⟩)),(31,ag (B0e ⟨(!decide (a.shape=b.shape)),{Act.zero with kind:=40,n:=b.shape}⟩)),(33,bv a.visible),(35,bv b.visible)] (ix rfl (D6f Tryz.underlying4 rfl rfl rfl) (c9 4 0 [0] [(39,ag [bv (!(decide (a.title=b.title))),iv (({Act.zero with kind:=44,text:=b.title}).kind),iv (({Act.zero with kind:=44,text:=b.title}).n),iv (({Act.zero with kind:=44,text:=b.title}).m),iv ((({Act.zero with kind:=44,text:=b.title}).color).kind),iv ((({Act.zero with kind:=44,text:=b.title}).color).n),sv (({Act.zero with kind:=44,text:=b.title}).text),bv (!decide (a.shape=b.shape)),iv (({Act.zero with kind:=40,n:=b.shape}).kind),iv (({Act.zero with kind:=40,n:=b.shape}).n),iv (({Act.zero with kind:=40,n:=b.shape}).m),iv ((({Act.zero with kind:=40,n:=b.shape}).color).kind),iv ((({Act.zero with kind:=40,n:=b.shape}).color).n),sv (({Act.zero with kind:=40,n:=b.shape}).text),bv (!(a.visible == b.visible)),iv d.kind,iv d.n,iv d.m,iv d.color.kind,iv d.color.n,sv d.text]),(40,iv 0)] (ie (A9 (Y9 5 ?_))))))
 refine E7 (bS rfl (bP 1 41 rfl ?_))
 refine ie (A3 (J4 rfl (A4 (nx (A3 (A9 (bS rfl (ix rfl (E8 (v:=ag [_,_,_,_,_,_,_]) Tryz.underlying106 D0z rfl rfl rfl 0 rfl ozw rfl rfl rfl) ?_))))))))
 refine zra 2 [0] (fun b5=>[(9,pt b5 0)]) (fun _=>(B0e ⟨(!(decide (a.title=b.title))),({Act.zero with kind:=44,text:=b.title})⟩)) 105 fun b5=>?_
 refine ie (bS rfl (c9 4 1 [0,0] [(43,ag _),(46,ag _)] (ix rfl (Z3 (a:=⟨(!(decide (a.title=b.title))),({Act.zero with kind:=44,text:=b.title})⟩) (b:={Sad.zero with does:=({Act.zero with kind:=44,text:=b.title})}) C2i rfl rfl rfl) ?_)))
 refine ie (G4 rfl (fun h6=>?_) (fun h6=>?_))
 ·have bn:=bV h6
  replace hR:=bt hR h6
  refine A1 5 rfl (c9 3 2 [0] [(48,pt hb 0),(50,ag (A0 ({Act.zero with kind:=44,text:=b.title})))] (it rfl (B1 (c:=A0) (xs:=[({Act.zero with kind:=44,text:=b.title})]) Q1 rfl rfl rfl oki) fun b7=>?_))
  have:([({Act.zero with kind:=44,text:=b.title})]:List Act).length=1:=rfl
  have f:=C4 hR;clear hR;obtain ⟨y0,b6,hR⟩:=f
  refine zc rfl (P9 (h:=h) (hL:=hL) (l:=([({Act.zero with kind:=44,text:=b.title})]:List Act)) (hb:=hb) (hLr:=hLr) (lq:=(some ⟨b7,0,none⟩)) (lk:=1) b6 e bW bW oxw) fun ⟨r8,a6⟩=>?_
  have:=K9 h hL ([({Act.zero with kind:=44,text:=b.title})]:List Act);try rw [b6] at this
  refine A2 (nx (A1 2 rfl (ix rfl (B3 (c:=1) rfl rfl rfl rfl ozw) (bP 1 40 rfl (A2 (E7 (bS rfl (bP 1 41 rfl (ie (A3 (J4 rfl (A4 (nx (A3 (A9 (bS rfl (ix rfl (E8 (v:=ag [_,_,_,_,_,_,_]) Tryz.underlying106 D0z rfl rfl rfl 1 rfl ozw rfl rfl rfl) ?_)))))))))))))))))
  refine zra 2 [0] (fun aq=>[(9,pt aq 0)]) (fun _=>(B0e ⟨(!decide (a.shape=b.shape)),({Act.zero with kind:=40,n:=b.shape})⟩)) 105 fun aq=>?_
  refine ie (bS rfl (c9 4 1 [0,0] [(43,ag _),(46,ag _)] (ix rfl (Z3 (a:=⟨(!decide (a.shape=b.shape)),({Act.zero with kind:=40,n:=b.shape})⟩) (b:={Sad.zero with does:=({Act.zero with kind:=40,n:=b.shape})}) C2i rfl rfl rfl) ?_)))
  refine ie (G4 rfl (fun a9=>?_) (fun a9=>?_))
  ·have ao:=bV a9
   replace hR:=bt hR a9
   refine A1 5 rfl (c9 3 2 [0] [(48,pt hb 0),(50,ag (A0 ({Act.zero with kind:=40,n:=b.shape})))] (it rfl (B1 (c:=A0) (xs:=[({Act.zero with kind:=40,n:=b.shape})]) Q1 rfl rfl rfl oki) fun cd=>?_))
   have:([({Act.zero with kind:=40,n:=b.shape})]:List Act).length=1:=rfl
   have f:=C4 hR;clear hR;obtain ⟨y4,au,hR⟩:=f
   refine zc rfl (P9 (h:=h) (hL:=y0) (l:=([({Act.zero with kind:=40,n:=b.shape})]:List Act)) (hb:=hb) (hLr:=r8) (lq:=(some ⟨cd,0,none⟩)) (lk:=1) au a6 bW bW oxw) fun ⟨bw,o⟩=>?_
   have:=K9 h y0 ([({Act.zero with kind:=40,n:=b.shape})]:List Act);try rw [au] at this
   refine A2 (nx (A1 2 rfl (ix rfl (B3 (c:=2) rfl rfl rfl rfl ozw) (bP 1 40 rfl (A2 (E7 (bS rfl (bP 1 41 rfl (ie (A3 (J4 rfl (A4 (nx (A3 (A9 (bS rfl (ix rfl (E8 (v:=ag [_,_,_,_,_,_,_]) Tryz.underlying106 D0z rfl rfl rfl 2 rfl ozw rfl rfl rfl) ?_)))))))))))))))))
   refine zra 2 [0] (fun bg=>[(9,pt bg 0)]) (fun _=>(B0e ⟨(!(a.visible == b.visible)),d⟩)) 105 fun bg=>?_
   refine ie (bS rfl (c9 4 1 [0,0] [(43,ag _),(46,ag _)] (ix rfl (Z3 (a:=⟨(!(a.visible == b.visible)),d⟩) (b:={Sad.zero with does:=d}) C2i rfl rfl rfl) ?_)))
   refine ie (G4 rfl (fun s=>?_) (fun s=>?_))
   ·have am:=bV s
    replace hR:=bt hR s
    refine A1 5 rfl (c9 3 2 [0] [(48,pt hb 0),(50,ag (A0 d))] (it rfl (B1 (c:=A0) (xs:=[d]) Q1 rfl rfl rfl oki) fun cc=>?_))
    have:([d]:List Act).length=1:=rfl
    have f:=C4 hR;clear hR;obtain ⟨c6,ai,hR⟩:=f
    refine zc rfl (P9 (h:=h) (hL:=y4) (l:=([d]:List Act)) (hb:=hb) (hLr:=bw) (lq:=(some ⟨cc,0,none⟩)) (lk:=1) ai o bW bW oxw) fun ⟨cm,a2⟩=>?_
    have:=K9 h y4 ([d]:List Act);try rw [ai] at this
    refine A2 (nx (A1 2 rfl (ix rfl (B3 (c:=3) rfl rfl rfl rfl ozw) (bP 1 40 rfl (A2 (E7 (bS rfl (bP 1 41 rfl (ie (A3 (A4r rfl (F4 (nx (bS rfl (c9 3 2 [5] [(54,pt hb 0),(56,ag (S8 b.cursor))] ?_)))))))))))))))
    have f:=C4 hR;clear hR;obtain ⟨y1,ap,hR⟩:=f
    refine zc rfl (V7 ap a2 oxw) fun ⟨ca,w⟩=>?_
    have:=P3 h c6 b.cursor;try rw [ap] at this
    refine bP 1 6 rfl ?_
    subst hR
    refine ie (A8 ?_)
    exact cD hr hD (K7 rfl (A6 rfl)) _ bU bX
   replace hR:=bf hR s
   refine A4 (nx (A1 2 rfl (ix rfl (B3 (c:=3) rfl rfl rfl rfl ozw) (bP 1 40 rfl (A2 (E7 (bS rfl (bP 1 41 rfl (ie (A3 (A4r rfl (F4 (nx (bS rfl (c9 3 2 [5] [(54,pt hb 0),(56,ag (S8 b.cursor))] ?_)))))))))))))))
   have f:=C4 hR;clear hR;obtain ⟨cl,af,hR⟩:=f
   refine zc rfl (V7 af o oxw) fun ⟨cb,a7⟩=>?_
   have:=P3 h y4 b.cursor;try rw [af] at this
   refine bP 1 6 rfl ?_
   subst hR
   refine ie (A8 ?_)
   exact cD hr hD (K7 rfl (A6 rfl)) _ bU bX
  replace hR:=bf hR a9
  refine A4 (nx (A1 2 rfl (ix rfl (B3 (c:=2) rfl rfl rfl rfl ozw) (bP 1 40 rfl (A2 (E7 (bS rfl (bP 1 41 rfl (ie (A3 (J4 rfl (A4 (nx (A3 (A9 (bS rfl (ix rfl (E8 (v:=ag [_,_,_,_,_,_,_]) Tryz.underlying106 D0z rfl rfl rfl 2 rfl ozw rfl rfl rfl) ?_)))))))))))))))))
  refine zra 2 [0] (fun al=>[(9,pt al 0)]) (fun _=>(B0e ⟨(!(a.visible == b.visible)),d⟩)) 105 fun al=>?_
  refine ie (bS rfl (c9 4 1 [0,0] [(43,ag _),(46,ag _)] (ix rfl (Z3 (a:=⟨(!(a.visible == b.visible)),d⟩) (b:={Sad.zero with does:=d}) C2i rfl rfl rfl) ?_)))
  refine ie (G4 rfl (fun a5=>?_) (fun a5=>?_))
  ·have bh:=bV a5
   replace hR:=bt hR a5
   refine A1 5 rfl (c9 3 2 [0] [(48,pt hb 0),(50,ag (A0 d))] (it rfl (B1 (c:=A0) (xs:=[d]) Q1 rfl rfl rfl oki) fun bm=>?_))
   have:([d]:List Act).length=1:=rfl
   have f:=C4 hR;clear hR;obtain ⟨c5,ac,hR⟩:=f
   refine zc rfl (P9 (h:=h) (hL:=y0) (l:=([d]:List Act)) (hb:=hb) (hLr:=r8) (lq:=(some ⟨bm,0,none⟩)) (lk:=1) ac a6 bW bW oxw) fun ⟨ci,t⟩=>?_
   have:=K9 h y0 ([d]:List Act);try rw [ac] at this
   refine A2 (nx (A1 2 rfl (ix rfl (B3 (c:=3) rfl rfl rfl rfl ozw) (bP 1 40 rfl (A2 (E7 (bS rfl (bP 1 41 rfl (ie (A3 (A4r rfl (F4 (nx (bS rfl (c9 3 2 [5] [(54,pt hb 0),(56,ag (S8 b.cursor))] ?_)))))))))))))))
   have f:=C4 hR;clear hR;obtain ⟨y9,bc,hR⟩:=f
   refine zc rfl (V7 bc t oxw) fun ⟨bz,a4⟩=>?_
   have:=P3 h c5 b.cursor;try rw [bc] at this
   refine bP 1 6 rfl ?_
   subst hR
   refine ie (A8 ?_)
   exact cD hr hD (K7 rfl (A6 rfl)) _ bU bX
  replace hR:=bf hR a5
  refine A4 (nx (A1 2 rfl (ix rfl (B3 (c:=3) rfl rfl rfl rfl ozw) (bP 1 40 rfl (A2 (E7 (bS rfl (bP 1 41 rfl (ie (A3 (A4r rfl (F4 (nx (bS rfl (c9 3 2 [5] [(54,pt hb 0),(56,ag (S8 b.cursor))] ?_)))))))))))))))
  have f:=C4 hR;clear hR;obtain ⟨y6,az,hR⟩:=f
  refine zc rfl (V7 az a6 oxw) fun ⟨c2,a8⟩=>?_
  have:=P3 h y0 b.cursor;try rw [az] at this
  refine bP 1 6 rfl ?_
  subst hR
  refine ie (A8 ?_)
  exact cD hr hD (K7 rfl (A6 rfl)) _ bU bX
 replace hR:=bf hR h6
 refine A4 (nx (A1 2 rfl (ix rfl (B3 (c:=1) rfl rfl rfl rfl ozw) (bP 1 40 rfl (A2 (E7 (bS rfl (bP 1 41 rfl (ie (A3 (J4 rfl (A4 (nx (A3 (A9 (bS rfl (ix rfl (E8 (v:=ag [_,_,_,_,_,_,_]) Tryz.underlying106 D0z rfl rfl rfl 1 rfl ozw rfl rfl rfl) ?_)))))))))))))))))
 refine zra 2 [0] (fun an=>[(9,pt an 0)]) (fun _=>(B0e ⟨(!decide (a.shape=b.shape)),({Act.zero with kind:=40,n:=b.shape})⟩)) 105 fun an=>?_
 refine ie (bS rfl (c9 4 1 [0,0] [(43,ag _),(46,ag _)] (ix rfl (Z3 (a:=⟨(!decide (a.shape=b.shape)),({Act.zero with kind:=40,n:=b.shape})⟩) (b:={Sad.zero with does:=({Act.zero with kind:=40,n:=b.shape})}) C2i rfl rfl rfl) ?_)))
 refine ie (G4 rfl (fun a0=>?_) (fun a0=>?_))
 ·have b0:=bV a0
  replace hR:=bt hR a0
  refine A1 5 rfl (c9 3 2 [0] [(48,pt hb 0),(50,ag (A0 ({Act.zero with kind:=40,n:=b.shape})))] (it rfl (B1 (c:=A0) (xs:=[({Act.zero with kind:=40,n:=b.shape})]) Q1 rfl rfl rfl oki) fun c1=>?_))
  have:([({Act.zero with kind:=40,n:=b.shape})]:List Act).length=1:=rfl
  have f:=C4 hR;clear hR;obtain ⟨y5,ax,hR⟩:=f
  refine zc rfl (P9 (h:=h) (hL:=hL) (l:=([({Act.zero with kind:=40,n:=b.shape})]:List Act)) (hb:=hb) (hLr:=hLr) (lq:=(some ⟨c1,0,none⟩)) (lk:=1) ax e bW bW oxw) fun ⟨bl,j⟩=>?_
  have:=K9 h hL ([({Act.zero with kind:=40,n:=b.shape})]:List Act);try rw [ax] at this
  refine A2 (nx (A1 2 rfl (ix rfl (B3 (c:=2) rfl rfl rfl rfl ozw) (bP 1 40 rfl (A2 (E7 (bS rfl (bP 1 41 rfl (ie (A3 (J4 rfl (A4 (nx (A3 (A9 (bS rfl (ix rfl (E8 (v:=ag [_,_,_,_,_,_,_]) Tryz.underlying106 D0z rfl rfl rfl 2 rfl ozw rfl rfl rfl) ?_)))))))))))))))))
  refine zra 2 [0] (fun ay=>[(9,pt ay 0)]) (fun _=>(B0e ⟨(!(a.visible == b.visible)),d⟩)) 105 fun ay=>?_
  refine ie (bS rfl (c9 4 1 [0,0] [(43,ag _),(46,ag _)] (ix rfl (Z3 (a:=⟨(!(a.visible == b.visible)),d⟩) (b:={Sad.zero with does:=d}) C2i rfl rfl rfl) ?_)))
  refine ie (G4 rfl (fun aa=>?_) (fun aa=>?_))
  ·have ba:=bV aa
   replace hR:=bt hR aa
   refine A1 5 rfl (c9 3 2 [0] [(48,pt hb 0),(50,ag (A0 d))] (it rfl (B1 (c:=A0) (xs:=[d]) Q1 rfl rfl rfl oki) fun c8=>?_))
   have:([d]:List Act).length=1:=rfl
   have f:=C4 hR;clear hR;obtain ⟨bq,aj,hR⟩:=f
   refine zc rfl (P9 (h:=h) (hL:=y5) (l:=([d]:List Act)) (hb:=hb) (hLr:=bl) (lq:=(some ⟨c8,0,none⟩)) (lk:=1) aj j bW bW oxw) fun ⟨co,ab⟩=>?_
   have:=K9 h y5 ([d]:List Act);try rw [aj] at this
   refine A2 (nx (A1 2 rfl (ix rfl (B3 (c:=3) rfl rfl rfl rfl ozw) (bP 1 40 rfl (A2 (E7 (bS rfl (bP 1 41 rfl (ie (A3 (A4r rfl (F4 (nx (bS rfl (c9 3 2 [5] [(54,pt hb 0),(56,ag (S8 b.cursor))] ?_)))))))))))))))
   have f:=C4 hR;clear hR;obtain ⟨y8,bb,hR⟩:=f
   refine zc rfl (V7 bb ab oxw) fun ⟨ce,p⟩=>?_
   have:=P3 h bq b.cursor;try rw [bb] at this
   refine bP 1 6 rfl ?_
   subst hR
   refine ie (A8 ?_)
   exact cD hr hD (K7 rfl (A6 rfl)) _ bU bX
  replace hR:=bf hR aa
  refine A4 (nx (A1 2 rfl (ix rfl (B3 (c:=3) rfl rfl rfl rfl ozw) (bP 1 40 rfl (A2 (E7 (bS rfl (bP 1 41 rfl (ie (A3 (A4r rfl (F4 (nx (bS rfl (c9 3 2 [5] [(54,pt hb 0),(56,ag (S8 b.cursor))] ?_)))))))))))))))
  have f:=C4 hR;clear hR;obtain ⟨ch,ah,hR⟩:=f
  refine zc rfl (V7 ah j oxw) fun ⟨br,a1⟩=>?_
  have:=P3 h y5 b.cursor;try rw [ah] at this
  refine bP 1 6 rfl ?_
  subst hR
  refine ie (A8 ?_)
  exact cD hr hD (K7 rfl (A6 rfl)) _ bU bX
 replace hR:=bf hR a0
 refine A4 (nx (A1 2 rfl (ix rfl (B3 (c:=2) rfl rfl rfl rfl ozw) (bP 1 40 rfl (A2 (E7 (bS rfl (bP 1 41 rfl (ie (A3 (J4 rfl (A4 (nx (A3 (A9 (bS rfl (ix rfl (E8 (v:=ag [_,_,_,_,_,_,_]) Tryz.underlying106 D0z rfl rfl rfl 2 rfl ozw rfl rfl rfl) ?_)))))))))))))))))
 refine zra 2 [0] (fun b9=>[(9,pt b9 0)]) (fun _=>(B0e ⟨(!(a.visible == b.visible)),d⟩)) 105 fun b9=>?_
 refine ie (bS rfl (c9 4 1 [0,0] [(43,ag _),(46,ag _)] (ix rfl (Z3 (a:=⟨(!(a.visible == b.visible)),d⟩) (b:={Sad.zero with does:=d}) C2i rfl rfl rfl) ?_)))
 refine ie (G4 rfl (fun a3=>?_) (fun a3=>?_))
 ·have b8:=bV a3
  replace hR:=bt hR a3
  refine A1 5 rfl (c9 3 2 [0] [(48,pt hb 0),(50,ag (A0 d))] (it rfl (B1 (c:=A0) (xs:=[d]) Q1 rfl rfl rfl oki) fun c0=>?_))
  have:([d]:List Act).length=1:=rfl
  have f:=C4 hR;clear hR;obtain ⟨bu,ad,hR⟩:=f
  refine zc rfl (P9 (h:=h) (hL:=hL) (l:=([d]:List Act)) (hb:=hb) (hLr:=hLr) (lq:=(some ⟨c0,0,none⟩)) (lk:=1) ad e bW bW oxw) fun ⟨cn,y⟩=>?_
  have:=K9 h hL ([d]:List Act);try rw [ad] at this
  refine A2 (nx (A1 2 rfl (ix rfl (B3 (c:=3) rfl rfl rfl rfl ozw) (bP 1 40 rfl (A2 (E7 (bS rfl (bP 1 41 rfl (ie (A3 (A4r rfl (F4 (nx (bS rfl (c9 3 2 [5] [(54,pt hb 0),(56,ag (S8 b.cursor))] ?_)))))))))))))))
  have f:=C4 hR;clear hR;obtain ⟨ck,ae,hR⟩:=f
  refine zc rfl (V7 ae y oxw) fun ⟨bo,z⟩=>?_
  have:=P3 h bu b.cursor;try rw [ae] at this
  refine bP 1 6 rfl ?_
  subst hR
  refine ie (A8 ?_)
  exact cD hr hD (K7 rfl (A6 rfl)) _ bU bX
 replace hR:=bf hR a3
 refine A4 (nx (A1 2 rfl (ix rfl (B3 (c:=3) rfl rfl rfl rfl ozw) (bP 1 40 rfl (A2 (E7 (bS rfl (bP 1 41 rfl (ie (A3 (A4r rfl (F4 (nx (bS rfl (c9 3 2 [4] [(54,pt hb 0),(56,ag (S8 b.cursor))] ?_)))))))))))))))
 have f:=C4 hR;clear hR;obtain ⟨y7,ak,hR⟩:=f
 refine zc rfl (V7 ak e oxw) fun ⟨c4,u⟩=>?_
 have:=P3 h hL b.cursor;try rw [ak] at this
 refine bP 1 6 rfl ?_
 subst hR
 refine ie (A8 ?_)
 exact cD hr hD (K7 rfl (A6 rfl)) _ bU bX
def A9i (a:FrmC) (aR:List (List Cel)) (b:FrmC) (bR:List (List Cel)) (c:Cur):List Act×Int :=
 (B6 (A1j a aR b bR c) fun (e:Bool×HndC×Int)=>(bif e.1 then (B6 (U9 e.2.1 ([]:List Act) a aR b bR) fun (d:List Act×HndC×Int)=>(bif (!decide (d.2.2=0)) then (([]:List Act),d.2.2) else (d.1,0))) else (([]:List Act),e.2.2)))
theorem opd {p:Prop} (h:p:=by first|omega|assumption|(simp only [List.length_nil];omega)):p:=h
theorem C7d {a:FrmC} {aR:List (List Cel)} {b:FrmC} {bR:List (List Cel)} {c:Cur} {aQ:Option Addr} {aZ:List Slc} {aK:Nat} {bQ:Option Addr} {bZ:List Slc} {bK:Nat} {R:List Act×Int} (hR:A9i a aR b bR c=R) (f:B4 aZ aR:=by exact bW) (a2:aR.length≤9223372036854775807:=by exact bW) (a0:aR.length≤aK:=by exact bW) (e:B4 bZ bR:=by exact bW) (y:bR.length≤9223372036854775807:=by exact bW) (a4:bR.length≤bK:=by exact bW) (hT:a.title.length≤100000000:=by exact bW) (ac:b.title.length≤100000000:=by exact bW):Con Tryz.prog 12 [ag (C2 a ⟨aQ,aR.length,aK⟩),ag (C2 b ⟨bQ,bR.length,bK⟩),ag (H4 c)] [] [sl D9 aQ aZ,D5 D8 aZ aR,sl D9 bQ bZ,D5 D8 bZ bR,U5,U8,J2,M2] ({r:VR // bT 6 R.1.length r}) (fun x=>.tuple #[.slice (va x.1.q) R.1.length x.1.k,iv R.2]) (fun x=>((vo A0 54 x.1 R.1)++([]))) (fun x=>[]):=by
 refine cC Tryz.func12 fun X hX hr hD=>?_
 replace hR:=(A9i.eq_1 ..).symm.trans hR
 refine bS rfl (D5f 5 0 [] (fun p t s=>[(3,pt p 0),(4,pt t 0),(5,pt s 0)]) (fun p t s=>[bx s (H4 c) 29,bx t (C2 b ⟨bQ,bR.length,bK⟩) 26,bx p (C2 a ⟨aQ,aR.length,aK⟩) 26]) (fun p t s=>(ie (bS rfl (c9 3 6 [2,1,0] [(11,ag (C2 a ⟨aQ,aR.length,aK⟩)),(12,ag (C2 b ⟨bQ,bR.length,bK⟩)),(13,ag (H4 c))] ?_)))))
 have hQ:=C4 hR;clear hR;obtain ⟨y2,w,hR⟩:=hQ
 refine zc rfl (B7r w f bW bW e bW bW opd opd) fun ⟨q4,l⟩=>?_
 have d:=B2n a aR b bR c;rw [w] at d
 rcases (Bool.eq_false_or_eq_true y2.1).symm with g | g
 ·replace hR:=bf hR g
  obtain rfl:=D6n l g
  have a9:=E8c d g
  refine B4m (L':=[_,_,_]) rfl ?_
  refine C5z (v:=.tuple #[.pointer _,iv _]) 14 rfl ?_
  refine cG 5 8 9 rfl (ie (A3 (bS rfl (bP 2 18 rfl ?_))))
  refine ie (G4 rfl (fun h8=>?_) (fun h8=>?_))
  ·have n:=bV h8
   exfalso;exact absurd n a9
  have n:=bV h8
  refine A4 (nx (A3 (bS rfl (bP 2 24 rfl ?_))))
  refine ie (G4 rfl (fun h9=>?_) (fun h9=>?_))
  ·have a3:=bV h9
   refine bS rfl (cG 3 6 7 rfl ?_)
   subst hR
   refine ie (A8 ?_)
   exact cD hr hD (U0 rfl (A6 rfl) (A6 rfl)) ⟨_,bT.nil⟩ bU bX
  have a3:=bV h9
  exfalso;exact absurd n a3
 ·replace hR:=bt hR g
  obtain ⟨m,rfl⟩:=D5e l g
  have z:=E1s d g
  refine B4m (L':=(bx s _ _::bx t _ _::bx p _ _::bx m (I2 _ ⟨va VR.nil.q,([]:List Act).length,VR.nil.k⟩) _::((vo A0 54 VR.nil [])++([])))) rfl ?_
  refine C5z (v:=.tuple #[pt m 0,iv _]) 14 rfl ?_
  refine cG 5 8 9 rfl (ie (A3 (bS rfl (bP 2 18 rfl ?_))))
  refine ie (G4 rfl (fun o=>?_) (fun o=>?_))
  ·have j:=bV o
   refine A1 5 rfl (c9 3 2 [2,1] [(19,pt m 0),(20,ag (C2 a ⟨aQ,aR.length,aK⟩)),(21,ag (C2 b ⟨bQ,bR.length,bK⟩))] ?_)
   have hQ:=C4 hR;clear hR;obtain ⟨ab,a1,hR⟩:=hQ
   refine zc rfl (B6l a1 bT.nil f bW bW e bW bW oxw) fun ⟨a8,i⟩=>?_
   refine bP 1 9 rfl (A2 (nx (A3 (bS rfl (bP 2 24 rfl ?_)))))
   refine ie (G4 rfl (fun h=>?_) (fun h=>?_))
   ·have u:=bV h
    replace hR:=bt hR h
    refine bS rfl (cG 3 6 7 rfl ?_)
    subst hR
    refine ie (A8 ?_)
    exact cD hr hD (U0 rfl (A6 rfl) (A6 rfl)) ⟨_,bT.nil⟩ bU bX
   replace hR:=bf hR h
   refine A4 (nx (bS rfl (pl2 6 [0] 6 7 rfl ?_)))
   subst hR
   refine ie (A8 ?_)
   exact cD hr hD (U0 rfl (A6 rfl) (A6 rfl)) _ bU bX
  have j:=bV o
  exfalso;exact absurd z j
theorem E7j:Zero Tryz.prog 65 (D6 Sty.zero):=⟨by kernel_rfl⟩
def A2y (h:HndC) (hL:List Act) (a:List Cel) (s:Sp3):List Act×HndC×Int :=
 (B6 (N5 h hL (⟨s.row,s.frm⟩:Plc)) fun (b:List Act×HndC×Int)=>(bif (!decide (b.2.2=0)) then (b.1,b.2.1,b.2.2) else (bif (!decide ((B5 a s.frm s.tt b.2.1.style).2.2.2=0)) then (b.1,b.2.1,(B5 a s.frm s.tt b.2.1.style).2.2.2) else (B6 (O0 b.2.1 b.1 ((B5 a s.frm s.tt b.2.1.style).1)) fun (c:List Act)=>(c,{b.2.1 with style:=(B5 a s.frm s.tt b.2.1.style).2.1,cur:=(⟨s.row,(if (IntKind.i64.wrap (b.2.1.cols - (1:Int)))<(B5 a s.frm s.tt b.2.1.style).2.2.1 then (IntKind.i64.wrap (b.2.1.cols - (1:Int))) else (B5 a s.frm s.tt b.2.1.style).2.2.1),(decide ((B5 a s.frm s.tt b.2.1.style).2.2.1=b.2.1.cols))⟩:Cur)},0)))))
theorem B2v (h:HndC) (hL:List Act) (a:List Cel) (s:Sp3):(A2y h hL a s).1.length≤hL.length+40100:=by
 unfold A2y;simp only [B6]
 have b:=P3 h hL (⟨s.row,s.frm⟩:Plc)
 generalize N5 h hL (⟨s.row,s.frm⟩:Plc)=g at b ⊢
 have c:=(B6a a s.frm s.tt g.2.1.style).2.1
 cases (!decide (g.2.2=0)) with
 | true=>simp only [cond_true];omega
 | false =>
  simp only [cond_false]
  cases (!decide ((B5 a s.frm s.tt g.2.1.style).2.2.2=0)) with
  | true=>simp only [cond_true];omega
  | false=>simp only [cond_false];rw [K9];omega
theorem C3o {h:HndC} {hL:List Act} {a:List Cel} {s:Sp3} {hb:Nat} {hLr:VR} {i:Option Addr} {cellsk:Nat} {R:List Act×HndC×Int} (hR:A2y h hL a s=R) (a1:bT 6 hL.length hLr:=by exact bW) (ab:a.length≤9223372036854775807:=by exact bW) (a3:a.length≤cellsk:=by exact bW) (hn:hL.length≤800000000000:=by exact bW):Con Tryz.prog 40 [pt hb 0,.slice i a.length cellsk,ag (G0 s)] (bx hb (I2 h ⟨va hLr.q,hL.length,hLr.k⟩) 67::((vo A0 54 hLr hL)++([]))) [sl D8 i a,U5,U8,J2,M2] ({r:VR // bT 6 R.1.length r}) (fun x=>iv R.2.2) (fun x=>(bx hb (I2 R.2.1 ⟨va x.1.q,R.1.length,x.1.k⟩) 67::((vo A0 54 x.1 R.1)++([])))) (fun x=>[]):=by
 refine cC Tryz.func40 fun X hX hr hD=>?_
 replace hR:=(A2y.eq_1 ..).symm.trans hR
 have:=bT.le a1
 refine bS rfl (B0j 2 0 [] (fun f=>[(5,pt f 0)]) (fun f=>(bx f (G0 s) 37::bx hb (I2 h ⟨va hLr.q,hL.length,hLr.k⟩) 67::((vo A0 54 hLr hL)++([])))) (fun f=>(ie (A3 (bS rfl (c9 6 2 [0,0] [(12,pt hb 0),(17,ag (S8 (⟨s.row,s.frm⟩:Plc)))] ?_))))))
 have hQ:=C4 hR;clear hR;obtain ⟨b,aa,hR⟩:=hQ
 refine zc rfl (V7 aa a1 oxw) fun ⟨d,a0⟩=>?_
 have:=bT.le a0
 have:=bT.cap a0
 have:=P3 h hL (⟨s.row,s.frm⟩:Plc);try rw [aa] at this
 refine bP 1 7 rfl (ie (bS rfl (bP 2 20 rfl ?_)))
 refine ie (G4 rfl (fun h4=>?_) (fun h4=>?_))
 ·have ad:=bV h4
  replace hR:=bt hR h4
  refine bS rfl (bP 2 6 rfl ?_)
  subst hR
  refine ie (A8 ?_)
  exact cD hr hD (K7 rfl (A6 rfl)) ⟨d,a0⟩ bU bX
 have ad:=bV h4
 replace hR:=bf hR h4
 refine A4 (nx ?_)
 refine sh 20 [(20,[bx hb (I2 b.2.1 ⟨va d.q,b.1.length,d.k⟩) 67]),(20,[bx f (G0 s) 37]),(20,vo A0 54 d b.1)] [sl D8 i a,U5,U8,J2,M2] (bx hb (I2 b.2.1 ⟨va d.q,b.1.length,d.k⟩) 67::bx f (G0 s) 37::((vo A0 54 d b.1)++([]))) (cA 20 0) oki rfl oki oki oki bU A7.refl ?_
 refine zhp [0,1,3,5,6,7] 14 (cA 20 235) [(23,.slice i a.length cellsk),(24,pt f 1),(26,pt f 2),(30,pt hb 5)] ?_
 refine zhl 2 (bx hb (I2 b.2.1 ⟨va d.q,b.1.length,d.k⟩) 67::bx f (G0 s) 37::((vo A0 54 d b.1)++([]))) (cA 20 239) rfl (C1 (v:=iv s.frm) cH rfl rfl 1 rfl rfl) ?_
 refine zhl 4 (bx hb (I2 b.2.1 ⟨va d.q,b.1.length,d.k⟩) 67::bx f (G0 s) 37::((vo A0 54 d b.1)++([]))) (cA 20 255) rfl (C1 (v:=iv s.tt) cH rfl rfl 1 rfl rfl) ?_
 refine zhl 8 (bx hb (I2 b.2.1 ⟨va d.q,b.1.length,d.k⟩) 67::bx f (G0 s) 37::((vo A0 54 d b.1)++([]))) (cA 20 511) rfl (G7 (us:=D6 b.2.1.style) B4v rfl rfl 0 rfl rfl rfl) ?_
 refine D7k 9 15 oki ?_ ?_
 ·refine E6a 9 (bx hb (I2 b.2.1 ⟨va d.q,b.1.length,d.k⟩) 67::bx f (G0 s) 37::((vo A0 54 d b.1)++([]))) (cA 20 1023) rfl rfl rfl oki oki oki (L6 (L2:=(bx hb (I2 b.2.1 ⟨va d.q,b.1.length,d.k⟩) 67::bx f (G0 s) 37::((vo A0 54 d b.1)++([])))) (C3p rfl) rfl rfl rfl rfl rfl A7.refl (List.Perm.refl _) (fun ⟨z,t⟩=>(bx hb (I2 b.2.1 ⟨va d.q,b.1.length,d.k⟩) 67::bx f (G0 s) 37::((vo A0 54 z ((B5 a s.frm s.tt b.2.1.style).1))++((vo A0 54 d b.1)++([]))))) (fun ⟨z,t⟩=>I1 [vo A0 54 z ((B5 a s.frm s.tt b.2.1.style).1),[bx hb (I2 b.2.1 ⟨va d.q,b.1.length,d.k⟩) 67],[bx f (G0 s) 37],vo A0 54 d b.1] [1,2,0,3] 4 rfl ozw opv [[bx hb (I2 b.2.1 ⟨va d.q,b.1.length,d.k⟩) 67],[bx f (G0 s) 37],vo A0 54 z ((B5 a s.frm s.tt b.2.1.style).1),vo A0 54 d b.1] rfl opv)) (fun ⟨z,t⟩=>bU) (fun ⟨z,t⟩=>A7.refl) fun ⟨z,t⟩=>?_
  have:=bT.le t
  have:=bT.cap t
  have:=B6a a s.frm s.tt b.2.1.style
  obtain ⟨_,_,_⟩:=this
  refine zhp [10,11,12,13,14] 5 (cA 20 32767) [(33,.slice (va z.q) (((B5 a s.frm s.tt b.2.1.style).1).length) z.k),(34,ag (D6 ((B5 a s.frm s.tt b.2.1.style).2.1))),(35,iv ((B5 a s.frm s.tt b.2.1.style).2.2.1)),(36,iv ((B5 a s.frm s.tt b.2.1.style).2.2.2))] ?_
  refine zho 15 (bx hb (I2 b.2.1 ⟨va d.q,b.1.length,d.k⟩) 67::bx f (G0 s) 37::((vo A0 54 d b.1)++([]))) (cA 20 65535) rfl (A5z (cs:=D6 Sty.zero) E7j rfl) (fun y=>bU) (fun y=>A7.refl) fun y=>?_
  refine zhp [16] 3 (cA 20 131071) [(8,.slice (va z.q) (((B5 a s.frm s.tt b.2.1.style).1).length) z.k)] ?_
  refine zho 17 (bx hb (I2 b.2.1 ⟨va d.q,b.1.length,d.k⟩) 67::bx f (G0 s) 37::((vo A0 54 d b.1)++([]))) (cA 20 262143) rfl (P4 (us:=D6 ((B5 a s.frm s.tt b.2.1.style).2.1)) (cs':=D6 ((B5 a s.frm s.tt b.2.1.style).2.1)) B4v rfl rfl rfl 0 rfl rfl rfl rfl rfl rfl) (fun _=>bU) (fun _=>A7.refl) fun _=>?_
  refine zhp [18,19] 0 (cA 20 1048575) [(10,iv ((B5 a s.frm s.tt b.2.1.style).2.2.1)),(11,iv ((B5 a s.frm s.tt b.2.1.style).2.2.2))] ?_
  refine B4u oki ?_
  refine A3 (bS rfl (bP 2 38 rfl ?_))
  refine ie (G4 rfl (fun h8=>?_) (fun h8=>?_))
  ·have ac:=bV h8
   replace hR:=bt hR h8
   refine bS rfl (bP 2 6 rfl ?_)
   subst hR
   refine ie (A8 ?_)
   exact cD hr hD (K7 rfl (A6 rfl)) ⟨d,a0⟩ bU bX
  have ac:=bV h8
  replace hR:=bf hR h8
  refine A4 (nx (bS rfl (cG 2 40 41 rfl ?_)))
  have:=bT.cap t
  have:=bT.le t
  refine R5 [bx y (D6 ((B5 a s.frm s.tt b.2.1.style).2.1)) 65,bx hb (I2 b.2.1 ⟨va d.q,b.1.length,d.k⟩) 67,bx f (G0 s) 37] ((vo A0 54 d b.1)++([])) (T:=54) (c:=A0) (r:=z) (xs:=(B5 a s.frm s.tt b.2.1.style).1) t opv ?_
  have hQ:=C4 hR;clear hR;obtain ⟨o,a4,hR⟩:=hQ
  refine it rfl (L6 (L2:=[bx y (D6 ((B5 a s.frm s.tt b.2.1.style).2.1)) 65,bx f (G0 s) 37]) (P9 (h:=b.2.1) (hL:=b.1) (l:=((B5 a s.frm s.tt b.2.1.style).1)) (hb:=hb) (hLr:=d) (lq:=(va z.q)) (lk:=z.k) a4 a0 bW bW oxw) rfl rfl rfl rfl rfl cB (I1 [[bx y (D6 ((B5 a s.frm s.tt b.2.1.style).2.1)) 65],[bx hb (I2 b.2.1 ⟨va d.q,b.1.length,d.k⟩) 67],[bx f (G0 s) 37],vo A0 54 d b.1] [1,3,0,2] 4 rfl ozw rfl [[bx hb (I2 b.2.1 ⟨va d.q,b.1.length,d.k⟩) 67],vo A0 54 d b.1,[bx y (D6 ((B5 a s.frm s.tt b.2.1.style).2.1)) 65],[bx f (G0 s) 37]] rfl opv) (fun ⟨j,w⟩=>(bx hb (I2 b.2.1 ⟨va j.q,o.length,j.k⟩) 67::bx y (D6 ((B5 a s.frm s.tt b.2.1.style).2.1)) 65::bx f (G0 s) 37::((vo A0 54 j o)++([])))) (fun ⟨j,w⟩=>I1 [[bx hb (I2 b.2.1 ⟨va j.q,o.length,j.k⟩) 67],vo A0 54 j o,[bx y (D6 ((B5 a s.frm s.tt b.2.1.style).2.1)) 65],[bx f (G0 s) 37]] [0,2,3,1] 4 rfl ozw opv [[bx hb (I2 b.2.1 ⟨va j.q,o.length,j.k⟩) 67],[bx y (D6 ((B5 a s.frm s.tt b.2.1.style).2.1)) 65],[bx f (G0 s) 37],vo A0 54 j o] rfl opv)) fun ⟨j,w⟩=>?_
  have:=bT.le w
  have:=bT.cap w
  have:=K9 b.2.1 b.1 ((B5 a s.frm s.tt b.2.1.style).1);try rw [a4] at this
  refine ie (bS rfl (zrg 5 0 [1,0] [] (bx hb (I2 ({b.2.1 with style:=(B5 a s.frm s.tt b.2.1.style).2.1}) ⟨va j.q,o.length,j.k⟩) 67::bx y (D6 ((B5 a s.frm s.tt b.2.1.style).2.1)) 65::bx f (G0 s) 37::((vo A0 54 j o)++([]))) (ie ?_)))
  refine sh 21 [(20,[bx hb (I2 ({b.2.1 with style:=(B5 a s.frm s.tt b.2.1.style).2.1}) ⟨va j.q,o.length,j.k⟩) 67]),(21,[bx y (D6 ((B5 a s.frm s.tt b.2.1.style).2.1)) 65]),(21,[bx f (G0 s) 37]),(21,vo A0 54 j o)] [sl A0 (va z.q) ((B5 a s.frm s.tt b.2.1.style).1),sl D8 i a,U5,U8,J2,M2] (bx hb (I2 ({b.2.1 with style:=(B5 a s.frm s.tt b.2.1.style).2.1}) ⟨va j.q,o.length,j.k⟩) 67::bx y (D6 ((B5 a s.frm s.tt b.2.1.style).2.1)) 65::bx f (G0 s) 37::((vo A0 54 j o)++([]))) (cA 21 0) oki rfl oki oki oki bU A7.refl ?_
  refine zhp [0,1,3,4,5,6,10,11,12,13] 11 (cA 21 15483) [(47,pt hb 0),(48,pt f 0),(50,iv ((B5 a s.frm s.tt b.2.1.style).2.2.1)),(53,pt hb 3),(57,iv ((B5 a s.frm s.tt b.2.1.style).2.2.1)),(60,pt hb 3)] ?_
  refine zhl 2 (bx hb (I2 ({b.2.1 with style:=(B5 a s.frm s.tt b.2.1.style).2.1}) ⟨va j.q,o.length,j.k⟩) 67::bx y (D6 ((B5 a s.frm s.tt b.2.1.style).2.1)) 65::bx f (G0 s) 37::((vo A0 54 j o)++([]))) (cA 21 15487) rfl (C1 (v:=iv s.row) cH rfl rfl 2 rfl rfl) ?_
  refine zhl 7 (bx hb (I2 ({b.2.1 with style:=(B5 a s.frm s.tt b.2.1.style).2.1}) ⟨va j.q,o.length,j.k⟩) 67::bx y (D6 ((B5 a s.frm s.tt b.2.1.style).2.1)) 65::bx f (G0 s) 37::((vo A0 54 j o)++([]))) (cA 21 15615) rfl (C1 (v:=iv b.2.1.cols) cH rfl rfl 0 rfl rfl) ?_
  refine zhk 8 (cA 21 15871) rfl (J9.pure rfl) ?_
  refine zhp [9] 7 (cA 21 16383) [(56,iv (if (IntKind.i64.wrap (b.2.1.cols - (1:Int)))<(B5 a s.frm s.tt b.2.1.style).2.2.1 then (IntKind.i64.wrap (b.2.1.cols - (1:Int))) else (B5 a s.frm s.tt b.2.1.style).2.2.1))] ?_
  refine zhl 14 (bx hb (I2 ({b.2.1 with style:=(B5 a s.frm s.tt b.2.1.style).2.1}) ⟨va j.q,o.length,j.k⟩) 67::bx y (D6 ((B5 a s.frm s.tt b.2.1.style).2.1)) 65::bx f (G0 s) 37::((vo A0 54 j o)++([]))) (cA 21 32767) rfl (C1 (v:=iv b.2.1.cols) cH rfl rfl 0 rfl rfl) ?_
  refine zhp [15] 5 (cA 21 65535) [(62,bv (decide ((B5 a s.frm s.tt b.2.1.style).2.2.1=b.2.1.cols)))] ?_
  refine zhk 16 (cA 21 131071) rfl (A1h (cs:=H4 (⟨s.row,(if (IntKind.i64.wrap (b.2.1.cols - (1:Int)))<(B5 a s.frm s.tt b.2.1.style).2.2.1 then (IntKind.i64.wrap (b.2.1.cols - (1:Int))) else (B5 a s.frm s.tt b.2.1.style).2.2.1),(decide ((B5 a s.frm s.tt b.2.1.style).2.2.1=b.2.1.cols))⟩:Cur)) rfl rfl oki) ?_
  refine zhp [17,18,19] 1 (cA 21 1048575) [(66,pt hb 0)] ?_
  refine zho 20 (bx y (D6 ((B5 a s.frm s.tt b.2.1.style).2.1)) 65::bx f (G0 s) 37::((vo A0 54 j o)++([]))) (cA 21 2097151) rfl (P4 (us:=H4 (⟨s.row,(if (IntKind.i64.wrap (b.2.1.cols - (1:Int)))<(B5 a s.frm s.tt b.2.1.style).2.2.1 then (IntKind.i64.wrap (b.2.1.cols - (1:Int))) else (B5 a s.frm s.tt b.2.1.style).2.2.1),(decide ((B5 a s.frm s.tt b.2.1.style).2.2.1=b.2.1.cols))⟩:Cur)) (cs':=I2 ({b.2.1 with style:=(B5 a s.frm s.tt b.2.1.style).2.1,cur:=(⟨s.row,(if (IntKind.i64.wrap (b.2.1.cols - (1:Int)))<(B5 a s.frm s.tt b.2.1.style).2.2.1 then (IntKind.i64.wrap (b.2.1.cols - (1:Int))) else (B5 a s.frm s.tt b.2.1.style).2.2.1),(decide ((B5 a s.frm s.tt b.2.1.style).2.2.1=b.2.1.cols))⟩:Cur)}) ⟨va j.q,o.length,j.k⟩) D6r rfl rfl rfl 0 rfl rfl rfl rfl rfl rfl) (fun _=>bU) (fun _=>A7.refl) fun _=>?_
  refine B4u oki ?_
  refine bS rfl (bP 1 6 rfl ?_)
  subst hR
  refine ie (A8 ?_)
  exact cD hr hD (K7 rfl (A6 rfl)) ⟨j,w⟩ bU bX
 ·refine E6a 15 (bx hb (I2 b.2.1 ⟨va d.q,b.1.length,d.k⟩) 67::bx f (G0 s) 37::((vo A0 54 d b.1)++([]))) (cA 20 33279) rfl rfl rfl oki oki oki (A5z (cs:=D6 Sty.zero) E7j rfl) (fun g=>bU) (fun g=>A7.refl) fun g=>?_
  refine zho 9 (bx hb (I2 b.2.1 ⟨va d.q,b.1.length,d.k⟩) 67::bx f (G0 s) 37::((vo A0 54 d b.1)++([]))) (cA 20 33791) rfl (L6 (L2:=(bx g (D6 Sty.zero) 65::bx hb (I2 b.2.1 ⟨va d.q,b.1.length,d.k⟩) 67::bx f (G0 s) 37::((vo A0 54 d b.1)++([])))) (C3p rfl) rfl rfl rfl rfl rfl A7.refl (List.Perm.refl _) (fun ⟨n,m⟩=>(bx g (D6 Sty.zero) 65::bx hb (I2 b.2.1 ⟨va d.q,b.1.length,d.k⟩) 67::bx f (G0 s) 37::((vo A0 54 n ((B5 a s.frm s.tt b.2.1.style).1))++((vo A0 54 d b.1)++([]))))) (fun ⟨n,m⟩=>I1 [vo A0 54 n ((B5 a s.frm s.tt b.2.1.style).1),[bx g (D6 Sty.zero) 65],[bx hb (I2 b.2.1 ⟨va d.q,b.1.length,d.k⟩) 67],[bx f (G0 s) 37],vo A0 54 d b.1] [1,2,3,0,4] 5 rfl ozw opv [[bx g (D6 Sty.zero) 65],[bx hb (I2 b.2.1 ⟨va d.q,b.1.length,d.k⟩) 67],[bx f (G0 s) 37],vo A0 54 n ((B5 a s.frm s.tt b.2.1.style).1),vo A0 54 d b.1] rfl opv)) (fun ⟨n,m⟩=>bU) (fun ⟨n,m⟩=>A7.refl) fun ⟨n,m⟩=>?_
  have:=bT.le m
  have:=bT.cap m
  have:=B6a a s.frm s.tt b.2.1.style
  obtain ⟨_,_,_⟩:=this
  refine zhp [10,11,12,13,14,16] 3 (cA 20 131071) [(34,ag (D6 ((B5 a s.frm s.tt b.2.1.style).2.1))),(35,iv ((B5 a s.frm s.tt b.2.1.style).2.2.1)),(36,iv ((B5 a s.frm s.tt b.2.1.style).2.2.2)),(8,.slice (va n.q) (((B5 a s.frm s.tt b.2.1.style).1).length) n.k)] ?_
  refine zho 17 (bx hb (I2 b.2.1 ⟨va d.q,b.1.length,d.k⟩) 67::bx f (G0 s) 37::((vo A0 54 d b.1)++([]))) (cA 20 262143) rfl (P4 (us:=D6 ((B5 a s.frm s.tt b.2.1.style).2.1)) (cs':=D6 ((B5 a s.frm s.tt b.2.1.style).2.1)) B4v rfl rfl rfl 0 rfl rfl rfl rfl rfl rfl) (fun _=>bU) (fun _=>A7.refl) fun _=>?_
  refine zhp [18,19] 0 (cA 20 1048575) [(10,iv ((B5 a s.frm s.tt b.2.1.style).2.2.1)),(11,iv ((B5 a s.frm s.tt b.2.1.style).2.2.2))] ?_
  refine B4u oki ?_
  refine A3 (bS rfl (bP 2 38 rfl ?_))
  refine ie (G4 rfl (fun a2=>?_) (fun a2=>?_))
  ·have a7:=bV a2
   replace hR:=bt hR a2
   refine bS rfl (bP 2 6 rfl ?_)
   subst hR
   refine ie (A8 ?_)
   exact cD hr hD (K7 rfl (A6 rfl)) ⟨d,a0⟩ bU bX
  have a7:=bV a2
  replace hR:=bf hR a2
  refine A4 (nx (bS rfl (cG 2 40 41 rfl ?_)))
  have:=bT.cap m
  have:=bT.le m
  refine R5 [bx g (D6 ((B5 a s.frm s.tt b.2.1.style).2.1)) 65,bx hb (I2 b.2.1 ⟨va d.q,b.1.length,d.k⟩) 67,bx f (G0 s) 37] ((vo A0 54 d b.1)++([])) (T:=54) (c:=A0) (r:=n) (xs:=(B5 a s.frm s.tt b.2.1.style).1) m opv ?_
  have hQ:=C4 hR;clear hR;obtain ⟨p,a9,hR⟩:=hQ
  refine it rfl (L6 (L2:=[bx g (D6 ((B5 a s.frm s.tt b.2.1.style).2.1)) 65,bx f (G0 s) 37]) (P9 (h:=b.2.1) (hL:=b.1) (l:=((B5 a s.frm s.tt b.2.1.style).1)) (hb:=hb) (hLr:=d) (lq:=(va n.q)) (lk:=n.k) a9 a0 bW bW oxw) rfl rfl rfl rfl rfl cB (I1 [[bx g (D6 ((B5 a s.frm s.tt b.2.1.style).2.1)) 65],[bx hb (I2 b.2.1 ⟨va d.q,b.1.length,d.k⟩) 67],[bx f (G0 s) 37],vo A0 54 d b.1] [1,3,0,2] 4 rfl ozw rfl [[bx hb (I2 b.2.1 ⟨va d.q,b.1.length,d.k⟩) 67],vo A0 54 d b.1,[bx g (D6 ((B5 a s.frm s.tt b.2.1.style).2.1)) 65],[bx f (G0 s) 37]] rfl opv) (fun ⟨e,u⟩=>(bx hb (I2 b.2.1 ⟨va e.q,p.length,e.k⟩) 67::bx g (D6 ((B5 a s.frm s.tt b.2.1.style).2.1)) 65::bx f (G0 s) 37::((vo A0 54 e p)++([])))) (fun ⟨e,u⟩=>I1 [[bx hb (I2 b.2.1 ⟨va e.q,p.length,e.k⟩) 67],vo A0 54 e p,[bx g (D6 ((B5 a s.frm s.tt b.2.1.style).2.1)) 65],[bx f (G0 s) 37]] [0,2,3,1] 4 rfl ozw opv [[bx hb (I2 b.2.1 ⟨va e.q,p.length,e.k⟩) 67],[bx g (D6 ((B5 a s.frm s.tt b.2.1.style).2.1)) 65],[bx f (G0 s) 37],vo A0 54 e p] rfl opv)) fun ⟨e,u⟩=>?_
  have:=bT.le u
  have:=bT.cap u
  have:=K9 b.2.1 b.1 ((B5 a s.frm s.tt b.2.1.style).1);try rw [a9] at this
  refine ie (bS rfl (zrg 5 0 [1,0] [] (bx hb (I2 ({b.2.1 with style:=(B5 a s.frm s.tt b.2.1.style).2.1}) ⟨va e.q,p.length,e.k⟩) 67::bx g (D6 ((B5 a s.frm s.tt b.2.1.style).2.1)) 65::bx f (G0 s) 37::((vo A0 54 e p)++([]))) (ie ?_)))
  refine sh 21 [(20,[bx hb (I2 ({b.2.1 with style:=(B5 a s.frm s.tt b.2.1.style).2.1}) ⟨va e.q,p.length,e.k⟩) 67]),(21,[bx g (D6 ((B5 a s.frm s.tt b.2.1.style).2.1)) 65]),(21,[bx f (G0 s) 37]),(21,vo A0 54 e p)] [sl A0 (va n.q) ((B5 a s.frm s.tt b.2.1.style).1),sl D8 i a,U5,U8,J2,M2] (bx hb (I2 ({b.2.1 with style:=(B5 a s.frm s.tt b.2.1.style).2.1}) ⟨va e.q,p.length,e.k⟩) 67::bx g (D6 ((B5 a s.frm s.tt b.2.1.style).2.1)) 65::bx f (G0 s) 37::((vo A0 54 e p)++([]))) (cA 21 0) oki rfl oki oki oki bU A7.refl ?_
  refine zhp [0,1,3,4,5,6,10,11,12,13] 11 (cA 21 15483) [(47,pt hb 0),(48,pt f 0),(50,iv ((B5 a s.frm s.tt b.2.1.style).2.2.1)),(53,pt hb 3),(57,iv ((B5 a s.frm s.tt b.2.1.style).2.2.1)),(60,pt hb 3)] ?_
  refine zhl 2 (bx hb (I2 ({b.2.1 with style:=(B5 a s.frm s.tt b.2.1.style).2.1}) ⟨va e.q,p.length,e.k⟩) 67::bx g (D6 ((B5 a s.frm s.tt b.2.1.style).2.1)) 65::bx f (G0 s) 37::((vo A0 54 e p)++([]))) (cA 21 15487) rfl (C1 (v:=iv s.row) cH rfl rfl 2 rfl rfl) ?_
  refine zhl 7 (bx hb (I2 ({b.2.1 with style:=(B5 a s.frm s.tt b.2.1.style).2.1}) ⟨va e.q,p.length,e.k⟩) 67::bx g (D6 ((B5 a s.frm s.tt b.2.1.style).2.1)) 65::bx f (G0 s) 37::((vo A0 54 e p)++([]))) (cA 21 15615) rfl (C1 (v:=iv b.2.1.cols) cH rfl rfl 0 rfl rfl) ?_
  refine zhk 8 (cA 21 15871) rfl (J9.pure rfl) ?_
  refine zhp [9] 7 (cA 21 16383) [(56,iv (if (IntKind.i64.wrap (b.2.1.cols - (1:Int)))<(B5 a s.frm s.tt b.2.1.style).2.2.1 then (IntKind.i64.wrap (b.2.1.cols - (1:Int))) else (B5 a s.frm s.tt b.2.1.style).2.2.1))] ?_
  refine zhl 14 (bx hb (I2 ({b.2.1 with style:=(B5 a s.frm s.tt b.2.1.style).2.1}) ⟨va e.q,p.length,e.k⟩) 67::bx g (D6 ((B5 a s.frm s.tt b.2.1.style).2.1)) 65::bx f (G0 s) 37::((vo A0 54 e p)++([]))) (cA 21 32767) rfl (C1 (v:=iv b.2.1.cols) cH rfl rfl 0 rfl rfl) ?_
  refine zhp [15] 5 (cA 21 65535) [(62,bv (decide ((B5 a s.frm s.tt b.2.1.style).2.2.1=b.2.1.cols)))] ?_
  refine zhk 16 (cA 21 131071) rfl (A1h (cs:=H4 (⟨s.row,(if (IntKind.i64.wrap (b.2.1.cols - (1:Int)))<(B5 a s.frm s.tt b.2.1.style).2.2.1 then (IntKind.i64.wrap (b.2.1.cols - (1:Int))) else (B5 a s.frm s.tt b.2.1.style).2.2.1),(decide ((B5 a s.frm s.tt b.2.1.style).2.2.1=b.2.1.cols))⟩:Cur)) rfl rfl oki) ?_
  refine zhp [17,18,19] 1 (cA 21 1048575) [(66,pt hb 0)] ?_
  refine zho 20 (bx g (D6 ((B5 a s.frm s.tt b.2.1.style).2.1)) 65::bx f (G0 s) 37::((vo A0 54 e p)++([]))) (cA 21 2097151) rfl (P4 (us:=H4 (⟨s.row,(if (IntKind.i64.wrap (b.2.1.cols - (1:Int)))<(B5 a s.frm s.tt b.2.1.style).2.2.1 then (IntKind.i64.wrap (b.2.1.cols - (1:Int))) else (B5 a s.frm s.tt b.2.1.style).2.2.1),(decide ((B5 a s.frm s.tt b.2.1.style).2.2.1=b.2.1.cols))⟩:Cur)) (cs':=I2 ({b.2.1 with style:=(B5 a s.frm s.tt b.2.1.style).2.1,cur:=(⟨s.row,(if (IntKind.i64.wrap (b.2.1.cols - (1:Int)))<(B5 a s.frm s.tt b.2.1.style).2.2.1 then (IntKind.i64.wrap (b.2.1.cols - (1:Int))) else (B5 a s.frm s.tt b.2.1.style).2.2.1),(decide ((B5 a s.frm s.tt b.2.1.style).2.2.1=b.2.1.cols))⟩:Cur)}) ⟨va e.q,p.length,e.k⟩) D6r rfl rfl rfl 0 rfl rfl rfl rfl rfl rfl) (fun _=>bU) (fun _=>A7.refl) fun _=>?_
  refine B4u oki ?_
  refine bS rfl (bP 1 6 rfl ?_)
  subst hR
  refine ie (A8 ?_)
  exact cD hr hD (K7 rfl (A6 rfl)) ⟨e,u⟩ bU bX
theorem B7s {a:FrmC} {aR:List (List Cel)} {b:FrmC} {bR:List (List Cel)} {r:List Sp3×Int} (h:A0u a aR b bR=r) (c:r.2=0):∀ k,k<r.1.length→0≤(r.1.getD k Sp3.zero).row∧(r.1.getD k Sp3.zero).row<bR.length:=fun k d=>by
 have f:=(C7j h c k d).1;have e:=(Z1 (B8k h c)).2.2.2;omega
theorem C4b (a:FrmC) (aR bR:List (List Cel)):∀ (l:List Sp3) (t:Nat) (o:List (List Cel)),(X1 a aR bR l t o).2.2=0→∀ s ∈ l,0≤s.row∧s.row<aR.length
 | [],_,_,_=>fun s e=>by cases e
 | s::l,t,o,h=>by
  simp only [X1,B6] at h
  have hr:0≤s.row∧s.row<aR.length:=by
   refine Decidable.byContradiction fun f=>?_
   have b:s.row<0∨(aR.length:Int)≤s.row:=by omega
   rw [show (((((((decide (s.row<0))||(decide ((aR.length:Int)≤s.row)))||(decide (s.frm<0)))||(decide (s.tt≤s.frm)))||(decide (a.cols<s.tt)))||(W2 (aR.getD ((s.row).toNat) []) s))||(W2 (bR.getD ((s.row).toNat) []) s))=true by rcases b with b | b<;>simp [b]] at h
   exact absurd (show (2:Int)=0 from h) ozw
  intro x d
  rcases List.mem_cons.1 d with rfl | d
  ·exact hr
  ·revert h
   generalize (((((((decide (s.row<0))||(decide ((aR.length:Int)≤s.row)))||(decide (s.frm<0)))||(decide (s.tt≤s.frm)))||(decide (a.cols<s.tt)))||(W2 (aR.getD ((s.row).toNat) []) s))||(W2 (bR.getD ((s.row).toNat) []) s))=c
   intro h
   cases c with
   | true=>exact absurd (show (2:Int)=0 from h) ozw
   | false=>exact C4b a aR bR l _ _ h x d
theorem D4p {a:FrmC} {aR:List (List Cel)} {b:FrmC} {bR:List (List Cel)} {l:List Sp3} {r:FrmC×List (List Cel)×Int} (h:A4x a aR b bR l=r) (c:r.2.2=0):∀ k,k<l.length→0≤(l.getD k Sp3.zero).row∧(l.getD k Sp3.zero).row<bR.length:=by
 subst h
 have f:J1 a aR b bR=0:=by
  refine Decidable.byContradiction fun e=>?_
  unfold A4x at c
  rw [decide_eq_false e] at c
  exact e c
 unfold A4x at c
 rw [decide_eq_true f] at c
 have g:=(Z1 f).2.2.2
 intro k d
 have:=C4b a aR bR l _ _ c (l.getD k Sp3.zero) (by rw [List.getD_eq_getElem?_getD,List.getElem?_eq_getElem d];exact List.getElem_mem d)
 omega
def A0o (e:Int) (a:HndC) (b:List Act):List Act×HndC×Int :=
 (B6 (A9d a.style Sty.zero) fun (c:List Act×Int)=>(B6 (O0 a b c.1) fun (d:List Act)=>(d,{a with style:=Sty.zero},(if c.2 > e then c.2 else e))))
def U7 (bR:List (List Cel)):List Sp3→Int→Nat→HndC→List Act→(List Act×HndC×Int)
 | [],e1,t14,h2,hL2=>A0o e1 h2 hL2
 | hd_l1::tl_l1,e1,t14,h2,hL2=>(B6 (A2y h2 hL2 (bR.getD ((hd_l1.row).toNat) []) hd_l1) fun (a:List Act×HndC×Int)=>(bif (!decide (a.2.2=0)) then A0o a.2.2 a.2.1 a.1 else U7 bR tl_l1 a.2.2 (t14+1) a.2.1 a.1))
def A5j (h:HndC) (hL:List Act) (b:FrmC) (bR:List (List Cel)) (l:List Sp3):List Act×HndC×Int :=
 U7 bR l 0 0 h hL
theorem A9w (e:Int) (h:HndC) (hL:List Act):(A0o e h hL).1.length≤hL.length+22:=by
 unfold A0o;simp only [B6];rw [K9];have:=B1o h.style Sty.zero;omega
theorem B0f (bR:List (List Cel)):∀ (l:List Sp3) (e:Int) (t:Nat) (h:HndC) (hL:List Act),(U7 bR l e t h hL).1.length≤hL.length+40100 * l.length+22
 | [],e,t,h,hL=>by have:=A9w e h hL;rw [U7];simpa using this
 | s::l,e,t,h,hL=>by
  rw [U7];simp only [B6]
  have a:=B2v h hL (bR.getD ((s.row).toNat) []) s
  generalize A2y h hL (bR.getD ((s.row).toNat) []) s=d at a ⊢
  cases (!decide (d.2.2=0)) with
  | true=>have:=A9w d.2.2 d.2.1 d.1;simp only [cond_true,List.length_cons];omega
  | false=>have:=B0f bR l d.2.2 (t+1) d.2.1 d.1;simp only [cond_false,List.length_cons];omega
theorem B2r (h:HndC) (hL:List Act) (b:FrmC) (bR:List (List Cel)) (l:List Sp3):(A5j h hL b bR l).1.length≤hL.length+40100 * l.length+22:=B0f ..
theorem B5j {h:HndC} {hL:List Act} {b:FrmC} {bR:List (List Cel)} {l:List Sp3} {hb:Nat} {hLr:VR} {bQ:Option Addr} {bZ:List Slc} {bK:Nat} {lq:Option Addr} {lk:Nat} {R:List Act×HndC×Int} (hR:A5j h hL b bR l=R) (a2:bT 6 hL.length hLr:=by exact bW) (a:B4 bZ bR:=by exact bW) (ah:bR.length≤9223372036854775807:=by exact bW) (al:bR.length≤bK:=by exact bW) (ap:l.length≤9223372036854775807:=by exact bW) (au:l.length≤lk:=by exact bW) (hn:hL.length≤600000000000:=by exact bW) (ar:l.length≤4000:=by exact bW) (ao:∀ k,k<l.length→0≤(l.getD k Sp3.zero).row∧(l.getD k Sp3.zero).row<bR.length:=by exact bW):Con Tryz.prog 21 [pt hb 0,ag (C2 b ⟨bQ,bR.length,bK⟩),.slice lq l.length lk] (bx hb (I2 h ⟨va hLr.q,hL.length,hLr.k⟩) 67::((vo A0 54 hLr hL)++([]))) [sl D9 bQ bZ,D5 D8 bZ bR,sl G0 lq l,U5,U8,J2,M2] ({r:VR // bT 6 R.1.length r}) (fun x=>iv R.2.2) (fun x=>(bx hb (I2 R.2.1 ⟨va x.1.q,R.1.length,x.1.k⟩) 67::((vo A0 54 x.1 R.1)++([])))) (fun x=>[]):=by
 refine cC Tryz.func21 fun X hX hr hD=>?_
 replace hR:=(A5j.eq_1 ..).symm.trans hR
 have:=bT.le a2
 have:=a.1
 refine bS rfl (B0j 2 0 [] (fun m=>[(4,pt m 0)]) (fun m=>(bx m (C2 b ⟨bQ,bR.length,bK⟩) 26::bx hb (I2 h ⟨va hLr.q,hL.length,hLr.k⟩) 67::((vo A0 54 hLr hL)++([])))) (fun m=>(ie (C0j (bS rfl (bP 1 7 rfl ?_))))))
 refine ie (A3 (C0m (nx (A7y (un fun (e:Int)=>un fun (h1:HndC)=>un fun (p:List Act) (i:VR)=>(A0o e h1 p=R∧bT 6 p.length i∧p.length≤800000000000,[(0,pt hb 0),(7,iv e)],(bx m (C2 b ⟨bQ,bR.length,bK⟩) 26::bx hb (I2 h1 ⟨va i.q,p.length,i.k⟩) 67::((vo A0 54 i p)++([]))),[sl D9 bQ bZ,D5 D8 bZ bR,sl G0 lq l,U5,U8,J2,M2])) ?_ ?_))))
 ·refine bS rfl (pp3 3 12 13 14 rfl (ie (A9 ?_)))
  refine A3q (un fun (e1:Int)=>un fun (f:Nat)=>un fun (h2:HndC)=>un fun (j:List Act) (g:VR)=>(f≤l.length∧U7 bR (l.drop f) e1 f h2 j=R∧bT 6 j.length g∧j.length≤600000000000+40100 * f,[(0,pt hb 0),(4,pt m 0),(7,iv e1),(12,.slice lq l.length lk),(13,iv (l.length:Int)),(14,iv (f:Int))],(bx m (C2 b ⟨bQ,bR.length,bK⟩) 26::bx hb (I2 h2 ⟨va g.q,j.length,g.k⟩) 67::((vo A0 54 g j)++([]))),[sl D9 bQ bZ,D5 D8 bZ bR,sl G0 lq l,U5,U8,J2,M2],l.length - f)) (0,0,h,hL,hLr) ⟨opx,hR,a2,opx⟩ bU A7.refl ?_
  rintro ⟨e1,f,h2,j,g⟩ ⟨aq,hR,w,hg⟩
  have:=bT.le w
  refine bS rfl (bP 1 15 rfl ?_)
  refine ie (A3 (G4 rfl (fun h3=>?_) (fun h3=>?_)))
  ·have ai:=bV h3
   rw [A1b Sp3.zero (show f<l.length by omega)] at hR;replace hR:=(U7.eq_2 ..).symm.trans hR
   have hs:=ao f opx
   refine A4 (nx (A3 (A9 (bS rfl (K8 2 rfl opx fun a4 aa=>(ix rfl (F8 D1x rfl rfl aa rfl f rfl opx) (ix rfl (K3 (us:=G0 (l.getD f Sp3.zero)) E7e rfl rfl (H2 (c:=G0) (sz:=3) aa (fun _=>rfl) 2 rfl (gd Sp3.zero opx)) rfl) ?_)))))))
   refine B0j 2 0 [0] (fun y=>[(9,pt y 0)]) (fun y=>(bx y (G0 (l.getD f Sp3.zero)) 37::bx m (C2 b ⟨bQ,bR.length,bK⟩) 26::bx hb (I2 h2 ⟨va g.q,j.length,g.k⟩) 67::((vo A0 54 g j)++([])))) (fun y=>?_)
   refine ie (A6c (V8 (k:=((l.getD f Sp3.zero).row).toNat) (d:=(⟨none,0,0⟩:Slc)) a 1 rfl (by have:=a.1;omega)) ?_)
   have:=V9 a (k:=((l.getD f Sp3.zero).row).toNat) (d:=(⟨none,0,0⟩:Slc)) (by have:=a.1;omega)
   refine sh 10 [(10,[bx y (G0 (l.getD f Sp3.zero)) 37]),(10,[bx m (C2 b ⟨bQ,bR.length,bK⟩) 26]),(8,[bx hb (I2 h2 ⟨va g.q,j.length,g.k⟩) 67]),(8,vo A0 54 g j)] [sl D8 ((bZ.getD (((l.getD f Sp3.zero).row).toNat) (⟨none,0,0⟩:Slc)).q) (bR.getD (((l.getD f Sp3.zero).row).toNat) []),sl D9 bQ bZ,D5 D8 bZ bR,sl G0 lq l,U5,U8,J2,M2] (bx y (G0 (l.getD f Sp3.zero)) 37::bx m (C2 b ⟨bQ,bR.length,bK⟩) 26::bx hb (I2 h2 ⟨va g.q,j.length,g.k⟩) 67::((vo A0 54 g j)++([]))) (cA 10 0) oki rfl oki oki oki bU A7.refl ?_
   refine zhp [0,1,3] 7 (cA 10 11) [(18,pt hb 0),(19,pt m 1),(21,pt y 0)] ?_
   refine zhl 2 [bx y (G0 (l.getD f Sp3.zero)) 37,bx m (C2 b ⟨bQ,bR.length,bK⟩) 26] (cA 10 15) rfl (C1 (v:=.slice bQ bR.length bK) E5w rfl rfl 1 rfl rfl) ?_
   refine zhl 4 [bx y (G0 (l.getD f Sp3.zero)) 37,bx m (C2 b ⟨bQ,bR.length,bK⟩) 26] (cA 10 31) rfl (C1 (v:=iv ((l.getD f Sp3.zero).row)) cH rfl rfl 0 rfl rfl) ?_
   refine B7w 1 rfl (by have:=a.1;omega) fun a7 a9=>?_
   refine zhk 5 (cA 10 63) rfl (F8 B0n rfl rfl a9 rfl (((l.getD f Sp3.zero).row).toNat) opx opx) (zhk 6 (cA 10 127) rfl (H8 (C9 (v:=.slice ((bZ.getD (((l.getD f Sp3.zero).row).toNat) (⟨none,0,0⟩:Slc)).q) ((bZ.getD (((l.getD f Sp3.zero).row).toNat) (⟨none,0,0⟩:Slc)).n) ((bZ.getD (((l.getD f Sp3.zero).row).toNat) (⟨none,0,0⟩:Slc)).k)) (us:=[.slice ((bZ.getD (((l.getD f Sp3.zero).row).toNat) (⟨none,0,0⟩:Slc)).q) ((bZ.getD (((l.getD f Sp3.zero).row).toNat) (⟨none,0,0⟩:Slc)).n) ((bZ.getD (((l.getD f Sp3.zero).row).toNat) (⟨none,0,0⟩:Slc)).k)]) B3x rfl rfl (H2 (c:=D9) (sz:=1) a9 (fun _=>rfl) 1 rfl (gd (⟨none,0,0⟩:Slc) (by have:=a.1;omega))) rfl) (U4 a (by have:=a.1;omega))) (zhl 7 (bx y (G0 (l.getD f Sp3.zero)) 37::bx m (C2 b ⟨bQ,bR.length,bK⟩) 26::bx hb (I2 h2 ⟨va g.q,j.length,g.k⟩) 67::((vo A0 54 g j)++([]))) (cA 10 255) rfl (G7 (us:=G0 (l.getD f Sp3.zero)) E7e rfl rfl 0 rfl rfl rfl) ?_))
   have hQ:=C4 hR;clear hR;obtain ⟨s,aj,hR⟩:=hQ
   refine zho 8 [bx y (G0 (l.getD f Sp3.zero)) 37,bx m (C2 b ⟨bQ,bR.length,bK⟩) 26] (cA 10 511) rfl (L6 (L2:=[bx y (G0 (l.getD f Sp3.zero)) 37,bx m (C2 b ⟨bQ,bR.length,bK⟩) 26]) (C3o aj w bW bW oxw) rfl rfl rfl rfl rfl cB (I1 [[bx y (G0 (l.getD f Sp3.zero)) 37],[bx m (C2 b ⟨bQ,bR.length,bK⟩) 26],[bx hb (I2 h2 ⟨va g.q,j.length,g.k⟩) 67],vo A0 54 g j] [2,3,0,1] 4 rfl ozw rfl [[bx hb (I2 h2 ⟨va g.q,j.length,g.k⟩) 67],vo A0 54 g j,[bx y (G0 (l.getD f Sp3.zero)) 37],[bx m (C2 b ⟨bQ,bR.length,bK⟩) 26]] rfl opv) (fun ⟨t,u⟩=>(bx hb (I2 s.2.1 ⟨va t.q,s.1.length,t.k⟩) 67::bx y (G0 (l.getD f Sp3.zero)) 37::bx m (C2 b ⟨bQ,bR.length,bK⟩) 26::((vo A0 54 t s.1)++([])))) (fun ⟨t,u⟩=>I1 [[bx hb (I2 s.2.1 ⟨va t.q,s.1.length,t.k⟩) 67],vo A0 54 t s.1,[bx y (G0 (l.getD f Sp3.zero)) 37],[bx m (C2 b ⟨bQ,bR.length,bK⟩) 26]] [0,2,3,1] 4 rfl ozw opv [[bx hb (I2 s.2.1 ⟨va t.q,s.1.length,t.k⟩) 67],[bx y (G0 (l.getD f Sp3.zero)) 37],[bx m (C2 b ⟨bQ,bR.length,bK⟩) 26],vo A0 54 t s.1] rfl opv)) (fun ⟨t,u⟩=>bU) (fun ⟨t,u⟩=>A7.refl) fun ⟨t,u⟩=>?_
   have:=bT.le u
   have:=bT.cap u
   have:=B2v h2 j (bR.getD (((l.getD f Sp3.zero).row).toNat) []) (l.getD f Sp3.zero);try rw [aj] at this
   refine zhp [9] 0 (cA 10 1023) [(7,iv s.2.2)] ?_
   refine B4u oki ?_
   refine bS rfl (bP 2 28 rfl ?_)
   refine ie (G4 rfl (fun a5=>?_) (fun a5=>?_))
   ·have ad:=bV a5
    replace hR:=bt hR a5
    refine F4 (Y0 (I1 [[bx hb (I2 s.2.1 ⟨va t.q,s.1.length,t.k⟩) 67],[bx y (G0 (l.getD f Sp3.zero)) 37],[bx m (C2 b ⟨bQ,bR.length,bK⟩) 26],vo A0 54 t s.1] [2,0,3,1] 4 rfl ozw rfl [[bx m (C2 b ⟨bQ,bR.length,bK⟩) 26],[bx hb (I2 s.2.1 ⟨va t.q,s.1.length,t.k⟩) 67],vo A0 54 t s.1,[bx y (G0 (l.getD f Sp3.zero)) 37]] rfl opv) ?_)
    exact W8 (s.2.2,s.2.1,s.1,t) ⟨hR,u,opx⟩ bU cB
   have ad:=bV a5
   replace hR:=bf hR a5
   refine A4 (nx (A1 2 rfl (ix rfl (B3 rfl rfl rfl rfl opx) (bP 1 14 rfl (A2 (Y0 (I1 [[bx hb (I2 s.2.1 ⟨va t.q,s.1.length,t.k⟩) 67],[bx y (G0 (l.getD f Sp3.zero)) 37],[bx m (C2 b ⟨bQ,bR.length,bK⟩) 26],vo A0 54 t s.1] [2,0,3,1] 4 rfl ozw rfl [[bx m (C2 b ⟨bQ,bR.length,bK⟩) 26],[bx hb (I2 s.2.1 ⟨va t.q,s.1.length,t.k⟩) 67],vo A0 54 t s.1,[bx y (G0 (l.getD f Sp3.zero)) 37]] rfl opv) ?_))))))
   exact A2g (z1:=(e1,f,h2,j,g)) (s.2.2,f+1,s.2.1,s.1,t) ⟨opx,hR,u,opx⟩ olr bU cB
  have ai:=bV h3
  rw [A1d ai] at hR;replace hR:=(U7.eq_1 ..).symm.trans hR
  refine F4 ?_
  exact W8 (e1,h2,j,g) ⟨hR,w,opx⟩ bU A7.refl
 rintro ⟨e,h1,p,i⟩
 rintro ⟨hR,a6,hj⟩
 replace hR:=(A0o.eq_1 ..).symm.trans hR
 refine bS rfl (c9 5 6 [1] [(34,ag (D6 h1.style)),(35,ag (D6 Sty.zero))] ?_)
 have hQ:=C4 hR;clear hR;obtain ⟨y9,ab,hR⟩:=hQ
 refine zc rfl (C7f ab) fun ⟨ac,a0⟩=>?_
 have:=bT.le a0
 have:=bT.cap a0
 have:=B1o h1.style Sty.zero;try rw [ab] at this
 have:=A8e h1.style Sty.zero;try rw [ab] at this
 refine cG 5 10 11 rfl (ie (bS rfl (cG 2 39 40 rfl ?_)))
 have:=bT.cap a0
 have:=bT.le a0
 refine R5 [bx m (C2 b ⟨bQ,bR.length,bK⟩) 26,bx hb (I2 h1 ⟨va i.q,p.length,i.k⟩) 67] ((vo A0 54 i p)++([])) (T:=54) (c:=A0) (r:=ac) (xs:=y9.1) a0 opv ?_
 have hQ:=C4 hR;clear hR;obtain ⟨y1,ae,hR⟩:=hQ
 refine it rfl (L6 (L2:=[bx m (C2 b ⟨bQ,bR.length,bK⟩) 26]) (P9 (h:=h1) (hL:=p) (l:=y9.1) (hb:=hb) (hLr:=i) (lq:=(va ac.q)) (lk:=ac.k) ae a6 bW bW oxw) rfl rfl rfl rfl rfl cB (I1 [[bx m (C2 b ⟨bQ,bR.length,bK⟩) 26],[bx hb (I2 h1 ⟨va i.q,p.length,i.k⟩) 67],vo A0 54 i p] [1,2,0] 3 rfl ozw rfl [[bx hb (I2 h1 ⟨va i.q,p.length,i.k⟩) 67],vo A0 54 i p,[bx m (C2 b ⟨bQ,bR.length,bK⟩) 26]] rfl opv) (fun ⟨o,z⟩=>(bx hb (I2 h1 ⟨va o.q,y1.length,o.k⟩) 67::bx m (C2 b ⟨bQ,bR.length,bK⟩) 26::((vo A0 54 o y1)++([])))) (fun ⟨o,z⟩=>I1 [[bx hb (I2 h1 ⟨va o.q,y1.length,o.k⟩) 67],vo A0 54 o y1,[bx m (C2 b ⟨bQ,bR.length,bK⟩) 26]] [0,2,1] 3 rfl ozw opv [[bx hb (I2 h1 ⟨va o.q,y1.length,o.k⟩) 67],[bx m (C2 b ⟨bQ,bR.length,bK⟩) 26],vo A0 54 o y1] rfl opv)) fun ⟨o,z⟩=>?_
 have:=bT.le z
 have:=bT.cap z
 have:=K9 h1 p y9.1;try rw [ae] at this
 refine ie (bS rfl (zrg 5 0 [0] [] (bx hb (I2 ({h1 with style:=Sty.zero}) ⟨va o.q,y1.length,o.k⟩) 67::bx m (C2 b ⟨bQ,bR.length,bK⟩) 26::((vo A0 54 o y1)++([]))) (ie (bS rfl (bP 4 6 rfl ?_)))))
 have:=C6b e y9.2
 subst hR
 refine ie (A8 ?_)
 exact cD hr hD (K7 rfl (A6 rfl)) ⟨o,z⟩ bU bX
def D5s (f:FrmC) (fR:List (List Cel)):List Act×Int :=
 (bif (!decide ((P2 f fR)=0)) then (([]:List Act),(P2 f fR)) else (B6 (B2g f.cols (fR.length:Int)) fun (a:FrmC×List (List Cel)×Int)=>(bif (!decide (a.2.2=0)) then (([]:List Act),a.2.2) else (B6 (A0u a.1 a.2.1 f fR) fun (e:List Sp3×Int)=>(bif (!decide (e.2=0)) then (([]:List Act),e.2) else (B6 (A1j a.1 a.2.1 f fR Cur.zero) fun (d:Bool×HndC×Int)=>(bif d.1 then (B6 (O0 d.2.1 ([]:List Act) ([{Act.zero with kind:=15},{Act.zero with kind:=37,n:=1049,m:=1}]:List Act)) fun (g:List Act)=>(B6 (A5j d.2.1 g f fR e.1) fun (b:List Act×HndC×Int)=>(B6 (U9 b.2.1 b.1 a.1 a.2.1 f fR) fun (c:List Act×HndC×Int)=>(bif (!decide ((if c.2.2 > b.2.2 then c.2.2 else b.2.2)=0)) then (([]:List Act),(if c.2.2 > b.2.2 then c.2.2 else b.2.2)) else (c.1,0))))) else (([]:List Act),d.2.2))))))))
theorem E5i {f:FrmC} {fR:List (List Cel)} {fQ:Option Addr} {fZ:List Slc} {fK:Nat} {R:List Act×Int} (hR:D5s f fR=R) (a:B4 fZ fR:=by exact bW) (al:fR.length≤9223372036854775807:=by exact bW) (ax:fR.length≤fK:=by exact bW) (hT:f.title.length≤100000000:=by exact bW):Con Tryz.prog 14 [ag (C2 f ⟨fQ,fR.length,fK⟩)] [] [sl D9 fQ fZ,D5 D8 fZ fR,U5,U8,J2,M2] ({r:VR // bT 6 R.1.length r}) (fun x=>.tuple #[.slice (va x.1.q) R.1.length x.1.k,iv R.2]) (fun x=>((vo A0 54 x.1 R.1)++([]))) (fun x=>[]):=by
 refine cC Tryz.func14 fun X hX hr hD=>?_
 replace hR:=(D5s.eq_1 ..).symm.trans hR
 have:=a.1
 refine bS rfl (B0j 3 0 [] (fun o=>[(1,pt o 0)]) (fun o=>[bx o (C2 f ⟨fQ,fR.length,fK⟩) 26]) (fun o=>(ie (A3 (bS rfl (c9 1 2 [0] [(10,ag (C2 f ⟨fQ,fR.length,fK⟩))] (zv rfl (B6b rfl a) (bP 1 4 rfl (ie (bS rfl (bP 2 13 rfl ?_)))))))))))
 refine ie (G4 rfl (fun h2=>?_) (fun h2=>?_))
 ·have b2:=bV h2
  replace hR:=bt hR h2
  refine bS rfl (cG 3 2 3 rfl ?_)
  subst hR
  refine ie (A8 ?_)
  exact cD hr hD (U0 rfl (A6 rfl) (A6 rfl)) ⟨VR.nil,bT.nil⟩ bU bX
 have b2:=bV h2
 replace hR:=bf hR h2
 refine A4 (nx (bS rfl (pl2 5 [0,0] 17 20 rfl ?_)))
 have hQ:=C4 hR;clear hR;obtain ⟨b,ap,hR⟩:=hQ
 refine zc rfl (D2e ap) fun ⟨⟨d,ad⟩,aw⟩=>?_
 try dsimp only at aw
 obtain ⟨a9,a7⟩:=aw
 have:=bT.le a9
 have:=bT.cap a9
 have:=a7.1
 have u:=C4s f.cols (fR.length:Int);rw [ap] at u
 refine B0j 6 0 [0] (fun p=>[(5,pt p 0),(6,iv b.2.2)]) (fun p=>(bx p (C2 b.1 ⟨va d.q,b.2.1.length,d.k⟩) 26::bx o (C2 f ⟨fQ,fR.length,fK⟩) 26::((vo D9 70 d ad)++([])))) (fun p=>?_)
 refine ie (A3 (bS rfl (bP 2 25 rfl ?_)))
 refine ie (G4 rfl (fun h9=>?_) (fun h9=>?_))
 ·have b3:=bV h9
  replace hR:=bt hR h9
  refine bS rfl (cG 3 2 3 rfl ?_)
  subst hR
  refine ie (A8 ?_)
  exact cD hr hD (U0 rfl (A6 rfl) (A6 rfl)) ⟨VR.nil,bT.nil⟩ bU bX
 have b3:=bV h9
 replace hR:=bf hR h9
 refine A4 (nx (bS rfl (c9 2 6 [0,1] [(28,ag (C2 b.1 ⟨va d.q,b.2.1.length,d.k⟩)),(29,ag (C2 f ⟨fQ,fR.length,fK⟩))] ?_)))
 have:=bT.cap a9
 have:=bT.le a9
 refine R5 [bx p (C2 b.1 ⟨va d.q,b.2.1.length,d.k⟩) 26,bx o (C2 f ⟨fQ,fR.length,fK⟩) 26] [] (T:=70) (c:=D9) (r:=d) (xs:=ad) (bT.cast a9 (by rw [a7.1])) opv ?_
 have hQ:=C4 hR;clear hR;obtain ⟨y8,am,hR⟩:=hQ
 refine zc rfl (C8q am a7 bW bW a) fun ⟨t,a3⟩=>?_
 have:=bT.le a3
 have:=bT.cap a3
 have:=C5j b.1 b.2.1 f fR;try rw [am] at this
 refine cG 5 7 6 rfl (ie (A3 (bS rfl (bP 2 34 rfl ?_))))
 refine ie (G4 rfl (fun aa=>?_) (fun aa=>?_))
 ·have av:=bV aa
  replace hR:=bt hR aa
  refine bS rfl (cG 3 2 3 rfl ?_)
  subst hR
  refine ie (A8 ?_)
  exact cD hr hD (U0 rfl (A6 rfl) (A6 rfl)) ⟨VR.nil,bT.nil⟩ bU bX
 have av:=bV aa
 replace hR:=bf hR aa
 refine A4 (nx (bS rfl (c9 3 6 [0,1] [(37,ag (C2 b.1 ⟨va d.q,b.2.1.length,d.k⟩)),(38,ag (C2 f ⟨fQ,fR.length,fK⟩)),(39,ag (H4 Cur.zero))] ?_)))
 have hQ:=C4 hR;clear hR;obtain ⟨y4,aq,hR⟩:=hQ
 refine zc rfl (B7r aq a7 bW bW a bW bW opd opd) fun ⟨b5,ac⟩=>?_
 have i:=B2n b.1 b.2.1 f fR Cur.zero;rw [aq] at i
 rcases (Bool.eq_false_or_eq_true y4.1).symm with w | w
 ·replace hR:=bf hR w
  obtain rfl:=D6n ac w
  have an:=E8c i w
  refine B4m (L':=(bx p (C2 b.1 ⟨va d.q,b.2.1.length,d.k⟩) 26::bx o (C2 f ⟨fQ,fR.length,fK⟩) 26::((vo G0 37 t y8.1)++([])))) rfl ?_
  refine C5z (v:=.tuple #[.pointer none,iv y4.2.2]) 40 rfl ?_
  refine cG 5 8 6 rfl (ie (A3 (bS rfl (bP 2 44 rfl ?_))))
  refine ie (G4 rfl (fun ah=>?_) (fun ah=>?_))
  ·have af:=bV ah
   refine bS rfl (cG 3 2 3 rfl ?_)
   subst hR
   refine ie (A8 ?_)
   exact cD hr hD (U0 rfl (A6 rfl) (A6 rfl)) ⟨VR.nil,bT.nil⟩ bU bX
  have af:=bV ah
  exfalso;exact absurd an af
 ·replace hR:=bt hR w
  obtain ⟨g,rfl⟩:=D5e ac w
  have az:=E1s i w
  refine B4m (L':=(bx p (C2 b.1 ⟨va d.q,b.2.1.length,d.k⟩) 26::bx o (C2 f ⟨fQ,fR.length,fK⟩) 26::bx g (I2 y4.2.1 ⟨va VR.nil.q,([]:List Act).length,VR.nil.k⟩) 67::((vo G0 37 t y8.1)++((vo A0 54 VR.nil ([]:List Act))++([]))))) rfl ?_
  refine C5z (v:=.tuple #[pt g 0,iv y4.2.2]) 40 rfl ?_
  refine cG 5 8 6 rfl (ie (A3 (bS rfl (bP 2 44 rfl ?_))))
  refine ie (G4 rfl (fun ai=>?_) (fun ai=>?_))
  ·have ae:=bV ai
   exfalso;exact absurd az ae
  have ae:=bV ai
  refine A4 (nx (bS rfl (c9 3 2 [] [(46,pt g 0),(47,ag (A0 ({Act.zero with kind:=15}))),(48,ag (A0 ({Act.zero with kind:=37,n:=1049,m:=1})))] (it rfl (B1 (c:=A0) (xs:=([{Act.zero with kind:=15},{Act.zero with kind:=37,n:=1049,m:=1}]:List Act)) Q1 rfl rfl rfl oki) fun ao=>?_))))
  have:([{Act.zero with kind:=15},{Act.zero with kind:=37,n:=1049,m:=1}]:List Act).length=2:=rfl
  have hQ:=C4 hR;clear hR;obtain ⟨y1,ak,hR⟩:=hQ
  refine it rfl (L6 (L2:=(bx p (C2 b.1 ⟨va d.q,b.2.1.length,d.k⟩) 26::bx o (C2 f ⟨fQ,fR.length,fK⟩) 26::((vo G0 37 t y8.1)++([])))) (P9 (h:=y4.2.1) (hL:=([]:List Act)) (l:=([{Act.zero with kind:=15},{Act.zero with kind:=37,n:=1049,m:=1}]:List Act)) (hb:=g) (hLr:=VR.nil) (lq:=(some ⟨ao,0,none⟩)) (lk:=2) ak bT.nil bW bW oxw) rfl rfl rfl rfl rfl cB (I1 [[bx p (C2 b.1 ⟨va d.q,b.2.1.length,d.k⟩) 26],[bx o (C2 f ⟨fQ,fR.length,fK⟩) 26],[bx g (I2 y4.2.1 ⟨va VR.nil.q,([]:List Act).length,VR.nil.k⟩) 67],vo G0 37 t y8.1,vo A0 54 VR.nil ([]:List Act)] [2,4,0,1,3] 5 rfl ozw rfl [[bx g (I2 y4.2.1 ⟨va VR.nil.q,([]:List Act).length,VR.nil.k⟩) 67],vo A0 54 VR.nil ([]:List Act),[bx p (C2 b.1 ⟨va d.q,b.2.1.length,d.k⟩) 26],[bx o (C2 f ⟨fQ,fR.length,fK⟩) 26],vo G0 37 t y8.1] rfl opv) (fun ⟨e,a4⟩=>(bx g (I2 y4.2.1 ⟨va e.q,y1.length,e.k⟩) 67::bx p (C2 b.1 ⟨va d.q,b.2.1.length,d.k⟩) 26::bx o (C2 f ⟨fQ,fR.length,fK⟩) 26::((vo A0 54 e y1)++((vo G0 37 t y8.1)++([]))))) (fun ⟨e,a4⟩=>I1 [[bx g (I2 y4.2.1 ⟨va e.q,y1.length,e.k⟩) 67],vo A0 54 e y1,[bx p (C2 b.1 ⟨va d.q,b.2.1.length,d.k⟩) 26],[bx o (C2 f ⟨fQ,fR.length,fK⟩) 26],vo G0 37 t y8.1] [0,2,3,1,4] 5 rfl ozw opv [[bx g (I2 y4.2.1 ⟨va e.q,y1.length,e.k⟩) 67],[bx p (C2 b.1 ⟨va d.q,b.2.1.length,d.k⟩) 26],[bx o (C2 f ⟨fQ,fR.length,fK⟩) 26],vo A0 54 e y1,vo G0 37 t y8.1] rfl opv)) fun ⟨e,a4⟩=>?_
  have:=bT.le a4
  have:=bT.cap a4
  have:=K9 y4.2.1 ([]:List Act) ([{Act.zero with kind:=15},{Act.zero with kind:=37,n:=1049,m:=1}]:List Act);try rw [ak] at this
  refine ie (A3 ?_)
  have:=bT.cap a3
  have:=bT.le a3
  refine D0y (bx g (I2 y4.2.1 ⟨va e.q,y1.length,e.k⟩) 67::bx p (C2 b.1 ⟨va d.q,b.2.1.length,d.k⟩) 26::bx o (C2 f ⟨fQ,fR.length,fK⟩) 26::((vo A0 54 e y1)++([]))) [] (T:=37) (c:=G0) (r:=t) (xs:=y8.1) a3 opv ?_
  refine F1c (L':=(bx g (I2 y4.2.1 ⟨va e.q,y1.length,e.k⟩) 67::bx p (C2 b.1 ⟨va d.q,b.2.1.length,d.k⟩) 26::bx o (C2 f ⟨fQ,fR.length,fK⟩) 26::((vo A0 54 e y1)++([])))) opv ?_
  refine sh 10 [(3,[bx g (I2 y4.2.1 ⟨va e.q,y1.length,e.k⟩) 67]),(10,[bx p (C2 b.1 ⟨va d.q,b.2.1.length,d.k⟩) 26]),(10,[bx o (C2 f ⟨fQ,fR.length,fK⟩) 26]),(3,vo A0 54 e y1)] [sl G0 (va t.q) y8.1,sl A0 (some ⟨ao,0,none⟩) ([{Act.zero with kind:=15},{Act.zero with kind:=37,n:=1049,m:=1}]:List Act),sl D9 (va d.q) ad,D5 D8 ad b.2.1,sl D9 fQ fZ,D5 D8 fZ fR,U5,U8,J2,M2] (bx g (I2 y4.2.1 ⟨va e.q,y1.length,e.k⟩) 67::bx p (C2 b.1 ⟨va d.q,b.2.1.length,d.k⟩) 26::bx o (C2 f ⟨fQ,fR.length,fK⟩) 26::((vo A0 54 e y1)++([]))) (cA 10 0) oki rfl oki oki oki bU A7.refl ?_
  refine zhp [0,2,4] 7 (cA 10 21) [(51,pt g 0),(53,.slice (va t.q) y8.1.length t.k),(55,pt g 0)] ?_
  refine zhl 1 (bx g (I2 y4.2.1 ⟨va e.q,y1.length,e.k⟩) 67::bx p (C2 b.1 ⟨va d.q,b.2.1.length,d.k⟩) 26::bx o (C2 f ⟨fQ,fR.length,fK⟩) 26::((vo A0 54 e y1)++([]))) (cA 10 23) rfl (G7 (us:=C2 f ⟨fQ,fR.length,fK⟩) C2f rfl rfl 2 rfl rfl rfl) ?_
  refine zhl 5 [bx p (C2 b.1 ⟨va d.q,b.2.1.length,d.k⟩) 26,bx o (C2 f ⟨fQ,fR.length,fK⟩) 26] (cA 10 55) rfl (G7 (us:=C2 b.1 ⟨va d.q,b.2.1.length,d.k⟩) C2f rfl rfl 0 rfl rfl rfl) ?_
  refine zhl 6 [bx p (C2 b.1 ⟨va d.q,b.2.1.length,d.k⟩) 26,bx o (C2 f ⟨fQ,fR.length,fK⟩) 26] (cA 10 119) rfl (G7 (us:=C2 f ⟨fQ,fR.length,fK⟩) C2f rfl rfl 1 rfl rfl rfl) ?_
  have hQ:=C4 hR;clear hR;obtain ⟨y5,au,hR⟩:=hQ
  refine zho 3 [bx p (C2 b.1 ⟨va d.q,b.2.1.length,d.k⟩) 26,bx o (C2 f ⟨fQ,fR.length,fK⟩) 26] (cA 10 127) rfl (L6 (L2:=[bx p (C2 b.1 ⟨va d.q,b.2.1.length,d.k⟩) 26,bx o (C2 f ⟨fQ,fR.length,fK⟩) 26]) (B5j au a4 a bW bW bW bW oxw oxw (by first|assumption|exact B7s oiu (by have:=this;omega)|exact D4p oiu opx|exact B7s oiu opx|(intro k hk;have:k=0:=by simp only [List.length_cons,List.length_nil] at hk;omega))) rfl rfl rfl rfl rfl cB (I1 [[bx g (I2 y4.2.1 ⟨va e.q,y1.length,e.k⟩) 67],[bx p (C2 b.1 ⟨va d.q,b.2.1.length,d.k⟩) 26],[bx o (C2 f ⟨fQ,fR.length,fK⟩) 26],vo A0 54 e y1] [0,3,1,2] 4 rfl ozw rfl [[bx g (I2 y4.2.1 ⟨va e.q,y1.length,e.k⟩) 67],vo A0 54 e y1,[bx p (C2 b.1 ⟨va d.q,b.2.1.length,d.k⟩) 26],[bx o (C2 f ⟨fQ,fR.length,fK⟩) 26]] rfl opv) (fun ⟨j,z⟩=>(bx g (I2 y5.2.1 ⟨va j.q,y5.1.length,j.k⟩) 67::bx p (C2 b.1 ⟨va d.q,b.2.1.length,d.k⟩) 26::bx o (C2 f ⟨fQ,fR.length,fK⟩) 26::((vo A0 54 j y5.1)++([])))) (fun ⟨j,z⟩=>I1 [[bx g (I2 y5.2.1 ⟨va j.q,y5.1.length,j.k⟩) 67],vo A0 54 j y5.1,[bx p (C2 b.1 ⟨va d.q,b.2.1.length,d.k⟩) 26],[bx o (C2 f ⟨fQ,fR.length,fK⟩) 26]] [0,2,3,1] 4 rfl ozw opv [[bx g (I2 y5.2.1 ⟨va j.q,y5.1.length,j.k⟩) 67],[bx p (C2 b.1 ⟨va d.q,b.2.1.length,d.k⟩) 26],[bx o (C2 f ⟨fQ,fR.length,fK⟩) 26],vo A0 54 j y5.1] rfl opv)) (fun ⟨j,z⟩=>bU) (fun ⟨j,z⟩=>A7.refl) fun ⟨j,z⟩=>?_
  have:=bT.le z
  have:=bT.cap z
  have:=B2r y4.2.1 y1 f fR y8.1;try rw [au] at this
  have hQ:=C4 hR;clear hR;obtain ⟨y7,b0,hR⟩:=hQ
  refine zho 7 [bx p (C2 b.1 ⟨va d.q,b.2.1.length,d.k⟩) 26,bx o (C2 f ⟨fQ,fR.length,fK⟩) 26] (cA 10 255) rfl (L6 (L2:=[bx p (C2 b.1 ⟨va d.q,b.2.1.length,d.k⟩) 26,bx o (C2 f ⟨fQ,fR.length,fK⟩) 26]) (B6l b0 z a7 bW bW a bW bW oxw) rfl rfl rfl rfl rfl cB (I1 [[bx g (I2 y5.2.1 ⟨va j.q,y5.1.length,j.k⟩) 67],[bx p (C2 b.1 ⟨va d.q,b.2.1.length,d.k⟩) 26],[bx o (C2 f ⟨fQ,fR.length,fK⟩) 26],vo A0 54 j y5.1] [0,3,1,2] 4 rfl ozw rfl [[bx g (I2 y5.2.1 ⟨va j.q,y5.1.length,j.k⟩) 67],vo A0 54 j y5.1,[bx p (C2 b.1 ⟨va d.q,b.2.1.length,d.k⟩) 26],[bx o (C2 f ⟨fQ,fR.length,fK⟩) 26]] rfl opv) (fun ⟨s,y⟩=>(bx g (I2 y7.2.1 ⟨va s.q,y7.1.length,s.k⟩) 67::bx p (C2 b.1 ⟨va d.q,b.2.1.length,d.k⟩) 26::bx o (C2 f ⟨fQ,fR.length,fK⟩) 26::((vo A0 54 s y7.1)++([])))) (fun ⟨s,y⟩=>I1 [[bx g (I2 y7.2.1 ⟨va s.q,y7.1.length,s.k⟩) 67],vo A0 54 s y7.1,[bx p (C2 b.1 ⟨va d.q,b.2.1.length,d.k⟩) 26],[bx o (C2 f ⟨fQ,fR.length,fK⟩) 26]] [0,2,3,1] 4 rfl ozw opv [[bx g (I2 y7.2.1 ⟨va s.q,y7.1.length,s.k⟩) 67],[bx p (C2 b.1 ⟨va d.q,b.2.1.length,d.k⟩) 26],[bx o (C2 f ⟨fQ,fR.length,fK⟩) 26],vo A0 54 s y7.1] rfl opv)) (fun ⟨s,y⟩=>bU) (fun ⟨s,y⟩=>A7.refl) fun ⟨s,y⟩=>?_
  have:=bT.le y
  have:=bT.cap y
  refine zhp [8,9] 0 (cA 10 1023) [(9,iv (if y7.2.2 > y5.2.2 then y7.2.2 else y5.2.2))] ?_
  refine B4u oki ?_
  refine bS rfl (bP 2 61 rfl ?_)
  refine ie (G4 rfl (fun ab=>?_) (fun ab=>?_))
  ·have ar:=bV ab
   replace hR:=bt hR ab
   refine bS rfl (cG 3 2 3 rfl ?_)
   have:=C6b y5.2.2 y7.2.2
   subst hR
   refine ie (A8 ?_)
   exact cD hr hD (U0 rfl (A6 rfl) (A6 rfl)) ⟨VR.nil,bT.nil⟩ bU bX
  have ar:=bV ab
  replace hR:=bf hR ab
  refine A4 (nx (bS rfl (pl2 6 [0] 2 3 rfl ?_)))
  subst hR
  refine ie (A8 ?_)
  exact cD hr hD (U0 rfl (A6 rfl) (A6 rfl)) ⟨s,y⟩ bU bX
theorem F4p:EqT Tryz.prog 29 H4:=EqT.of 20 rfl oki oki (fun _ _=>by kernel_rfl) H4.inj
def B4k:FrmC×List (List Cel) :=
 ({FrmC.zero with cols:=3,cursor:={Plc.zero with col:=2},visible:=true},([([{Cel.zero with base:=97},{Cel.zero with base:=98},{Cel.zero with base:=32}]:List Cel)]:List (List Cel)))
theorem A9x:B4k.1.title.length=0:=rfl
theorem B7x (R:FrmC×List (List Cel)) (hR:B4k=R):Con Tryz.prog 17 [] [] [] ({t:Option Addr×List Slc×Nat // B4 t.2.1 R.2∧R.2.length≤t.2.2∧R.2.length≤9223372036854775807}) (fun x=>ag (C2 R.1 ⟨x.1.1,R.2.length,x.1.2.2⟩)) (fun x=>[]) (fun x=>[sl D9 x.1.1 x.1.2.1,D5 D8 x.1.2.1 R.2]):=by
 refine cC Tryz.func17 fun X hX hr hD=>?_
 replace hR:=(B4k.eq_1 ..).symm.trans hR
 refine bS rfl (zra 1 [] (fun e=>[(0,pt e 0)]) (fun _=>(C2 FrmC.zero ⟨none,0,0⟩)) 26 fun e=>(ie (bS rfl (c9 3 5 [] [(1,ag (D8 ({Cel.zero with base:=97}))),(2,ag (D8 ({Cel.zero with base:=98}))),(3,ag (D8 ({Cel.zero with base:=32})))] (it rfl (B1 (c:=D8) (xs:=[{Cel.zero with base:=97},{Cel.zero with base:=98},{Cel.zero with base:=32}]) A1g rfl rfl rfl oki) fun b=>?_)))))
 have:([{Cel.zero with base:=97},{Cel.zero with base:=98},{Cel.zero with base:=32}]:List Cel).length=3:=rfl
 refine it rfl (B1 (c:=D9) (xs:=[⟨some ⟨b,0,none⟩,3,3⟩]) B0n rfl rfl rfl oki) fun d=>?_
 have a:B4 ([⟨some ⟨b,0,none⟩,3,3⟩]:List Slc) ([([{Cel.zero with base:=97},{Cel.zero with base:=98},{Cel.zero with base:=32}]:List Cel)]:List (List Cel)):=(B4.cons ⟨ooy,okl,okl⟩ B4.none)
 refine D7 (q:=D5 _ [⟨some ⟨b,0,none⟩,3,3⟩] _) (M3 (A5 1 rfl) H9) ?_
 refine zru 3 [0] [] 0 (bx e (C2 ({FrmC.zero with cols:=3,cursor:={Plc.zero with col:=2},visible:=true}) ⟨some ⟨d,0,none⟩,([([{Cel.zero with base:=97},{Cel.zero with base:=98},{Cel.zero with base:=32}]:List Cel)]).length,1⟩) 26) ?_
 subst hR
 refine ie (A8 ?_)
 exact cD hr hD (K7 rfl (F0 C2f rfl 0 rfl rfl rfl)) ⟨(_,_,1),⟨a,okl,okl⟩⟩ bU cB
section
variable {P:Program} {n:Nat} {X:Cx} {K:Go.Act→World→Prop} {Q:Exit→Go.Act→World→Prop} {E:bY} {L L':Go.Fen.Own} {Φ:List Pers}
theorem C0i {ops:Array Oper} {i m:Nat} (c:L.Perm L') (h:JI P n X ops i m K Q E L' Φ):JI P n X ops i m K Q E L Φ:=fun a w b=>h a w ⟨b.size,b.defers,b.has,b.world.perm c⟩
end
def A4f (b:Int) (i:Nat) (fR:List (List Cel)) (a:Nat→List (List Cel)→(FrmC×List (List Cel))):Nat→List Cel→Nat→(FrmC×List (List Cel))
 | 0,_,_=>(FrmC.zero,[])
 | fu3+1,l,k=>(bif (decide ((k:Int)<b)) then A4f b i fR a fu3 (l++([{Cel.zero with base:=32}]:List Cel)) (k+1) else a (i+1) (fR++([l]:List (List Cel))))
def A2l (cols:Int) (a:Int):Nat→Nat→List (List Cel)→(FrmC×List (List Cel))
 | 0,_,_=>(FrmC.zero,[])
 | fu1+1,i,fR=>(bif (decide ((i:Int)<a)) then A4f cols i fR (A2l cols a fu1) ((cols - (0:Int)).toNat+1) ([]:List Cel) 0 else ({FrmC.zero with cols:=cols,visible:=true},fR))
def A9g (b:Int) (a:Int):FrmC×List (List Cel) :=
 A2l b a ((a - (0:Int)).toNat+1) 0 ([]:List (List Cel))
theorem B5p (a:Int) (i:Nat) (fR:List (List Cel)) (ag:Nat→List (List Cel)→(FrmC×List (List Cel))):∀ (fu:Nat) (l:List Cel) (k:Nat),(a - (k:Int)).toNat<fu→A4f a i fR ag fu l k=ag (i+1) (fR++[l++List.replicate (a - (k:Int)).toNat {Cel.zero with base:=32}])
 | 0,l,k,h=>by omega
 | fu+1,l,k,h=>by
  simp only [A4f]
  by_cases c:(k:Int)<a
  ·rw [decide_eq_true c,cond_true,B5p a i fR ag fu _ (k+1) opx,show (a - (k:Int)).toNat=(a - ((k+1:Nat):Int)).toNat+1 by omega,List.replicate_succ,List.append_assoc];rfl
  ·rw [decide_eq_false c,cond_false,show (a - (k:Int)).toNat=0 by omega,List.replicate_zero,List.append_nil]
theorem B4h (b a:Int):∀ (fu i:Nat) (fR:List (List Cel)),(a - (i:Int)).toNat<fu→(A2l b a fu i fR).2.length=fR.length+(a - (i:Int)).toNat
 | 0,i,fR,h=>by omega
 | fu+1,i,fR,h=>by
  simp only [A2l]
  by_cases c:(i:Int)<a
  ·rw [decide_eq_true c,cond_true,B5p _ _ _ _ _ _ _ opx,B4h b a fu (i+1) _ opx,List.length_append,List.length_cons,List.length_nil];omega
  ·rw [decide_eq_false c,cond_false];show fR.length=_;omega
theorem C7i (b a:Int):(A9g b a).2.length=a.toNat:=by
 unfold A9g
 rw [B4h _ _ _ _ _ opx]
 show 0+_=_;omega
theorem D3o {cols e:Int} {R:FrmC×List (List Cel)} (hR:A9g cols e=R) (y:cols≤1000∧e≤1000:=by exact bW):Con Tryz.prog 18 [iv cols,iv e] [] [] ({t:VR×List Slc // bT 1 R.2.length t.1∧B4 t.2 R.2}) (fun x=>ag (C2 R.1 ⟨va x.1.1.q,R.2.length,x.1.1.k⟩)) (fun x=>((vo D9 70 x.1.1 x.1.2)++([]))) (fun x=>[D5 D8 x.1.2 R.2]):=by
 refine cC Tryz.func18 fun X hX hr hD=>?_
 replace hR:=(A9g.eq_1 ..).symm.trans hR
 refine bS rfl (zra 1 [] (fun j=>[(4,pt j 0)]) _ _ fun j=>(ie (bS rfl (zra 4 [0] (fun h=>[(5,pt h 0)]) _ _ fun h=>(ie (A3 (bS rfl (bP 1 6 rfl (ie (A9 (Y0 (I1 [_,_,_] [1,2,0] 3 rfl ozw rfl [[bx h (C2 ({FrmC.zero with cols:=cols,visible:=true}) ⟨none,0,0⟩) 26],[bx j (C2 FrmC.zero ⟨none,0,0⟩) 26],vo D9 70 VR.nil []] rfl opv) ?_)))))))))))
 refine A3q (un fun fu=>un fun (i:Nat)=>un fun fR=>un fun a fZ=>((e - i).toNat<fu∧A2l _ e fu i fR=R∧bT 1 fR.length a∧B4 fZ fR∧fR.length≤i,[(0,_),(1,_),(4,_),(5,_),(6,iv i)],(bx h (C2 _ ⟨va a.q,fR.length,a.k⟩) _::bx j _ _::((vo D9 70 a fZ)++([]))),[D5 D8 fZ fR],fu)) (_,0,_,_,_) ⟨(Nat.lt_succ_self _),hR,bT.nil,B4.none,oom⟩ bU cB ?_
 rintro ⟨fu,i,fR,a,fZ⟩ ⟨a4,hR,d,b,z⟩
 have:=bT.le d
 have:=b.1
 obtain ⟨fu1,rfl⟩:∃ m,fu=m+1:=⟨fu - 1,by omega⟩
 replace hR:=(A2l.eq_2 ..).symm.trans hR
 refine A3 (bS rfl (bP 3 13 rfl ?_))
 refine ie ?_
 refine zjd rfl hR ?_ ?_<;>clear hR<;>intro hR h4 a3
 ·refine A4 (nx (A3 (A9 (bS rfl (bP 1 7 rfl (ie (A3 (bS rfl (bP 1 8 rfl (ie (A9 (Y0 (I1 [_,_,_,_] [1,2,3,0] 4 rfl ozw rfl [[_],[_],vo _ _ a _,vo D8 73 VR.nil []] rfl opv) ?_))))))))))))
  refine A3q (un fun o=>un fun l=>un fun lr (k:Nat)=>((cols - k).toNat<o∧A4f _ i _ _ o l k=R∧bT 12 l.length lr∧l.length≤k,[(0,_),(1,_),(4,_),(5,_),(6,_),(7,.slice (va lr.q) l.length lr.k),(8,iv k)],(bx h _ _::bx j _ _::((vo _ _ a _)++((vo _ _ lr l)++([])))),_,o)) (_,_,_,0) ⟨(Nat.lt_succ_self _),hR,bT.nil,oom⟩ bU A7.refl ?_
  rintro ⟨o,l,lr,k⟩ ⟨a5,hR,g,a0⟩
  have:=bT.le g
  obtain ⟨fu3,rfl⟩:∃ m,o=m+1:=⟨o - 1,by omega⟩
  replace hR:=(A4f.eq_2 ..).symm.trans hR
  refine A3 (bS rfl (bP 3 18 rfl ?_))
  refine ie ?_
  refine zjd rfl hR ?_ ?_<;>clear hR<;>intro hR h6 a2
  ·refine A4 (nx (A3 (A9 (A1 5 rfl (c9 2 3 [] [(21,.slice (va lr.q) l.length lr.k),(22,ag (D8 ({Cel.zero with base:=32})))] (it rfl (B1 (c:=D8) (xs:=[{Cel.zero with base:=32}]) A1g rfl rfl rfl oki) fun b7=>?_))))))
   have:([{Cel.zero with base:=32}]:List Cel).length=1:=rfl
   refine C0i (I1 [_,_,_,_] [0,1,3,2] 4 rfl ozw rfl [[_],[_],vo _ _ _ l,vo _ _ a _] rfl opv) ?_
   refine it rfl (S7 (f:=D8) (r:=lr) (xs:=l) (ys:=([{Cel.zero with base:=32}]:List Cel)) (pre:=[bx h (C2 ({FrmC.zero with cols:=cols,visible:=true}) ⟨va a.q,fR.length,a.k⟩) 26,bx j (C2 FrmC.zero ⟨none,0,0⟩) 26]) (post:=((vo D9 70 a fZ)++([]))) E3y (fun _=>rfl) (fun _=>rfl) rfl rfl rfl rfl rfl rfl rfl rfl rfl (A5 0 rfl) g ofv ofv) fun ⟨w,s⟩=>?_
   refine C0i (I1 [_,_,_,_] [0,1,3,2] 4 rfl ozw rfl [[_],[_],vo _ _ a _,vo _ _ w _] rfl opv) ?_
   refine bP 1 7 rfl (A2 (nx (A1 3 rfl (bP 1 19 rfl (ix rfl (B3 rfl rfl rfl rfl opx) (bP 1 8 rfl (A2 ?_)))))))
   exact A2g (_,_,w,_) ⟨opx,hR,s,ozq⟩ (Nat.lt_succ_self _) bU cB
  refine F4 (nx (A1 7 rfl (pl2 3 [0] 26 27 rfl ?_)))
  refine R5 (bx h (C2 ({FrmC.zero with cols:=cols,visible:=true}) ⟨va a.q,fR.length,a.k⟩) 26::bx j (C2 FrmC.zero ⟨none,0,0⟩) 26::((vo D9 70 a fZ)++([]))) [] (T:=73) (c:=D8) g opv ?_
  have:=bT.cap g
  refine it rfl (B1 (c:=D9) (xs:=[⟨va lr.q,l.length,lr.k⟩]) B0n rfl rfl rfl oki) fun a1=>?_
  have n:B4 ([⟨va lr.q,l.length,lr.k⟩]:List Slc) ([l]:List (List Cel)):=(B4.cons ⟨ooy,okl,okl⟩ B4.none)
  refine D7 (q:=D5 _ [⟨va lr.q,l.length,lr.k⟩] _) (M3 (A5 1 rfl) H9) ?_
  have v:B4 (fZ++([⟨va lr.q,l.length,lr.k⟩]:List Slc)) (fR++([l]:List (List Cel))):=B4.append b n
  refine it rfl (J8 (r:=a) (rs:=fZ) (xss:=fR) (pre:=[bx h (C2 ({FrmC.zero with cols:=cols,visible:=true}) ⟨va a.q,fR.length,a.k⟩) 26,bx j (C2 FrmC.zero ⟨none,0,0⟩) 26]) (post:=[]) E8m rfl rfl rfl rfl rfl rfl rfl rfl opv (A5 1 rfl) (A5 3 rfl) (A5 0 rfl) b n d ofv ofv) fun ⟨u,p⟩=>?_
  have:(fR++([l]:List (List Cel))).length=fR.length+1:=List.length_append
  refine zru 2 [0] [] 0 (bx h (C2 ({FrmC.zero with cols:=cols,visible:=true}) ⟨va u.q,(fR++[l]).length,u.k⟩) 26) ?_
  refine A2 (nx (A1 3 rfl (bP 1 14 rfl (ix rfl (B3 rfl rfl rfl rfl opx) (bP 1 6 rfl (A2 ?_))))))
  exact A2g (_,_,_,u,_) ⟨opx,hR,p,v,ozq⟩ (Nat.lt_succ_self _) bU cB
 refine F4 (nx (bS rfl (zrg 2 0 [0,1] [] (bx h (C2 ({FrmC.zero with cols:=cols,visible:=true}) ⟨va a.q,fR.length,a.k⟩) 26::bx j (C2 ({FrmC.zero with cols:=cols,visible:=true}) ⟨va a.q,fR.length,a.k⟩) 26::((vo D9 70 a fZ)++([]))) ?_)))
 subst hR
 refine ie (A8 ?_)
 exact cD hr hD (K7 rfl (F0 C2f rfl 1 rfl rfl rfl)) ⟨(a,_),⟨d,b⟩⟩ bU cB
def B1n (e:Int) (h:HndC) (hL:List Act):List Act×Cur×Int :=
 (bif (!decide (e=0)) then (([]:List Act),Cur.zero,e) else (hL,h.cur,0))
def C1z (a:FrmC) (aR:List (List Cel)) (b:FrmC) (bR:List (List Cel)) (l:List Sp3) (c:Cur):List Act×Cur×Int :=
 (B6 (A1j a aR b bR c) fun (d:Bool×HndC×Int)=>(bif d.1 then (B6 (A4x a aR b bR l) fun (f:FrmC×List (List Cel)×Int)=>(bif (decide (f.2.2=0)) then (B6 (A5j d.2.1 ([]:List Act) b bR l) fun (e:List Act×HndC×Int)=>B1n e.2.2 e.2.1 e.1) else B1n f.2.2 d.2.1 ([]:List Act))) else (([]:List Act),Cur.zero,d.2.2)))
theorem D6b {a:FrmC} {aR:List (List Cel)} {b:FrmC} {bR:List (List Cel)} {l:List Sp3} {c:Cur} {aQ:Option Addr} {aZ:List Slc} {aK:Nat} {bQ:Option Addr} {bZ:List Slc} {bK:Nat} {lq:Option Addr} {lk:Nat} {R:List Act×Cur×Int} (hR:C1z a aR b bR l c=R) (g:B4 aZ aR:=by exact bW) (an:aR.length≤9223372036854775807:=by exact bW) (ah:aR.length≤aK:=by exact bW) (d:B4 bZ bR:=by exact bW) (af:bR.length≤9223372036854775807:=by exact bW) (ap:bR.length≤bK:=by exact bW) (ax:l.length≤9223372036854775807:=by exact bW) (az:l.length≤lk:=by exact bW) (hT:a.title.length≤100000000:=by exact bW) (av:b.title.length≤100000000:=by exact bW) (aw:l.length≤4000:=by exact bW):Con Tryz.prog 7 [ag (C2 a ⟨aQ,aR.length,aK⟩),ag (C2 b ⟨bQ,bR.length,bK⟩),.slice lq l.length lk,ag (H4 c)] [] [sl D9 aQ aZ,D5 D8 aZ aR,sl D9 bQ bZ,D5 D8 bZ bR,sl G0 lq l,U5,U8,J2,M2] ({r:VR // bT 6 R.1.length r}) (fun x=>.tuple #[.slice (va x.1.q) R.1.length x.1.k,ag (H4 R.2.1),iv R.2.2]) (fun x=>((vo A0 54 x.1 R.1)++([]))) (fun x=>[]):=by
 refine cC Tryz.func7 fun X hX hr hD=>?_
 replace hR:=(C1z.eq_1 ..).symm.trans hR
 have:=g.1
 have:=d.1
 refine bS rfl (D5f 4 2 [] (fun o p n=>[(4,pt o 0),(5,pt p 0),(7,pt n 0)]) (fun o p n=>[bx n (H4 c) 29,bx p (C2 b ⟨bQ,bR.length,bK⟩) 26,bx o (C2 a ⟨aQ,aR.length,aK⟩) 26]) (fun o p n=>?_))
 refine B0j 2 0 [] (fun s=>[(9,pt s 0)]) (fun s=>[bx s (H4 Cur.zero) 29,bx n (H4 c) 29,bx p (C2 b ⟨bQ,bR.length,bK⟩) 26,bx o (C2 a ⟨aQ,aR.length,aK⟩) 26]) (fun s=>?_)
 refine ie (bS rfl (c9 3 6 [3,2,1] [(14,ag (C2 a ⟨aQ,aR.length,aK⟩)),(15,ag (C2 b ⟨bQ,bR.length,bK⟩)),(16,ag (H4 c))] ?_))
 have hQ:=C4 hR;clear hR;obtain ⟨y1,ae,hR⟩:=hQ
 refine zc rfl (B7r ae g bW bW d bW bW opd opd) fun ⟨q5,a5⟩=>?_
 have f:=B2n a aR b bR c;rw [ae] at f
 rcases (Bool.eq_false_or_eq_true y1.1).symm with t | t
 ·replace hR:=bf hR t
  obtain rfl:=D6n a5 t
  have ar:=E8c f t
  refine B4m (L':=[bx s (H4 Cur.zero) 29,bx n (H4 c) 29,bx p (C2 b ⟨bQ,bR.length,bK⟩) 26,bx o (C2 a ⟨aQ,aR.length,aK⟩) 26]) rfl ?_
  refine C5z (v:=.tuple #[.pointer none,iv y1.2.2]) 17 rfl ?_
  refine cG 5 11 12 rfl (ie (A3 (bS rfl (bP 2 21 rfl ?_))))
  refine ie (G4 rfl (fun h9=>?_) (fun h9=>?_))
  ·have ac:=bV h9
   exfalso;exact absurd ac ar
  have ac:=bV h9
  refine A4 (nx (A3 (bS rfl (bP 2 30 rfl ?_))))
  refine ie (G4 rfl (fun aa=>?_) (fun aa=>?_))
  ·have w:=bV aa
   exfalso;exact absurd w ac
  have w:=bV aa
  refine A4 (nx (A3 (bS rfl (bP 2 36 rfl ?_))))
  refine ie (G4 rfl (fun ab=>?_) (fun ab=>?_))
  ·have a3:=bV ab
   refine bS rfl (zrg 5 0 [0] [(8,.slice none 0 0),(10,iv y1.2.2)] [bx s (H4 Cur.zero) 29,bx n (H4 c) 29,bx p (C2 b ⟨bQ,bR.length,bK⟩) 26,bx o (C2 a ⟨aQ,aR.length,aK⟩) 26] ?_)
   subst hR
   refine ie (A8 ?_)
   exact cD hr hD (D8x rfl (A6 rfl) (F0 (us:=H4 Cur.zero) D6r rfl 0 rfl rfl rfl) (A6 rfl)) ⟨VR.nil,bT.nil⟩ bU bX
  have a3:=bV ab
  exfalso;exact absurd w a3
 ·replace hR:=bt hR t
  obtain ⟨j,rfl⟩:=D5e a5 t
  have aj:=E1s f t
  refine B4m (L':=(bx s (H4 Cur.zero) 29::bx n (H4 c) 29::bx p (C2 b ⟨bQ,bR.length,bK⟩) 26::bx o (C2 a ⟨aQ,aR.length,aK⟩) 26::bx j (I2 y1.2.1 ⟨va VR.nil.q,([]:List Act).length,VR.nil.k⟩) 67::((vo A0 54 VR.nil ([]:List Act))++([])))) rfl ?_
  refine C5z (v:=.tuple #[pt j 0,iv y1.2.2]) 17 rfl ?_
  refine cG 5 11 12 rfl (ie (A3 (bS rfl (bP 2 21 rfl ?_))))
  refine ie (G4 rfl (fun a8=>?_) (fun a8=>?_))
  ·have a4:=bV a8
   refine A1 8 rfl (c9 3 5 [3,2] [(23,ag (C2 a ⟨aQ,aR.length,aK⟩)),(24,ag (C2 b ⟨bQ,bR.length,bK⟩)),(25,.slice lq l.length lk)] ?_)
   have hQ:=C4 hR;clear hR;obtain ⟨y7,ad,hR⟩:=hQ
   refine zc rfl (D2t ad g bW bW d) fun ⟨⟨m,i⟩,a6⟩=>?_
   try dsimp only at a6
   obtain ⟨a7,ai⟩:=a6
   have:=bT.le a7
   have:=bT.cap a7
   have:=ai.1
   have:=C4g a aR b bR l;try rw [ad] at this
   refine bP 4 12 rfl ?_
   refine A2 (nx (A7y (un fun (e:Int)=>un fun (h:HndC)=>un fun (hL:List Act) (hLr:VR)=>(B1n e h hL=R∧bT 6 hL.length hLr,[(9,pt s 0),(11,pt j 0),(12,iv e)],(bx s (H4 Cur.zero) 29::bx n (H4 c) 29::bx p (C2 b ⟨bQ,bR.length,bK⟩) 26::bx o (C2 a ⟨aQ,aR.length,aK⟩) 26::bx j (I2 h ⟨va hLr.q,hL.length,hLr.k⟩) 67::((vo D9 70 m i)++((vo A0 54 hLr hL)++([])))),[D5 D8 i y7.2.1,sl D9 aQ aZ,D5 D8 aZ aR,sl D9 bQ bZ,D5 D8 bZ bR,sl G0 lq l,U5,U8,J2,M2])) ?_ ?_))
   ·refine bS rfl (bP 2 30 rfl ?_)
    refine ie (G4 rfl (fun z=>?_) (fun z=>?_))
    ·have am:=bV z
     replace hR:=bt hR z
     refine A1 5 rfl (c9 3 2 [2] [(31,pt j 0),(32,ag (C2 b ⟨bQ,bR.length,bK⟩)),(33,.slice lq l.length lk)] ?_)
     have hQ:=C4 hR;clear hR;obtain ⟨y3,al,hR⟩:=hQ
     refine zc rfl (B5j al bT.nil d bW bW bW bW oxw oxw (by first|assumption|exact B7s oiu (by have:=this;omega)|exact D4p oiu opx|exact B7s oiu opx|(intro k hk;have:k=0:=by simp only [List.length_cons,List.length_nil] at hk;omega))) fun ⟨u,a0⟩=>?_
     have:=bT.le a0
     have:=bT.cap a0
     have:=B2r y1.2.1 ([]:List Act) b bR l;try rw [al] at this
     refine bP 1 12 rfl (A2 (Y0 (I1 [[bx j (I2 y3.2.1 ⟨va u.q,y3.1.length,u.k⟩) 67],[bx s (H4 Cur.zero) 29],[bx n (H4 c) 29],[bx p (C2 b ⟨bQ,bR.length,bK⟩) 26],[bx o (C2 a ⟨aQ,aR.length,aK⟩) 26],vo A0 54 u y3.1,vo D9 70 m i] [1,2,3,4,0,6,5] 7 rfl ozw rfl [[bx s (H4 Cur.zero) 29],[bx n (H4 c) 29],[bx p (C2 b ⟨bQ,bR.length,bK⟩) 26],[bx o (C2 a ⟨aQ,aR.length,aK⟩) 26],[bx j (I2 y3.2.1 ⟨va u.q,y3.1.length,u.k⟩) 67],vo D9 70 m i,vo A0 54 u y3.1] rfl opv) ?_))
     exact W8 (y3.2.2,y3.2.1,y3.1,u) ⟨hR,a0⟩ bU A7.refl
    have am:=bV z
    replace hR:=bf hR z
    refine A4 ?_
    exact W8 (y7.2.2,y1.2.1,([]:List Act),VR.nil) ⟨hR,bT.nil⟩ bU A7.refl
   rintro ⟨e,h,hL,hLr⟩
   rintro ⟨hR,a1⟩
   replace hR:=(B1n.eq_1 ..).symm.trans hR
   refine A3 (bS rfl (bP 2 36 rfl ?_))
   refine ie (G4 rfl (fun y=>?_) (fun y=>?_))
   ·have ao:=bV y
    replace hR:=bt hR y
    refine bS rfl (zrg 5 0 [0] [(8,.slice none 0 0),(10,iv e)] (bx s (H4 Cur.zero) 29::bx n (H4 c) 29::bx p (C2 b ⟨bQ,bR.length,bK⟩) 26::bx o (C2 a ⟨aQ,aR.length,aK⟩) 26::bx j (I2 h ⟨va hLr.q,hL.length,hLr.k⟩) 67::((vo D9 70 m i)++((vo A0 54 hLr hL)++([])))) ?_)
    subst hR
    refine ie (A8 ?_)
    exact cD hr hD (D8x rfl (A6 rfl) (F0 (us:=H4 Cur.zero) D6r rfl 0 rfl rfl rfl) (A6 rfl)) ⟨VR.nil,bT.nil⟩ bU bX
   have ao:=bV y
   replace hR:=bf hR y
   refine A4 (nx ?_)
   refine sh 12 [(10,[bx s (H4 Cur.zero) 29]),(12,[bx n (H4 c) 29]),(12,[bx p (C2 b ⟨bQ,bR.length,bK⟩) 26]),(12,[bx o (C2 a ⟨aQ,aR.length,aK⟩) 26]),(12,[bx j (I2 h ⟨va hLr.q,hL.length,hLr.k⟩) 67]),(12,vo D9 70 m i),(12,vo A0 54 hLr hL)] [D5 D8 i y7.2.1,sl D9 aQ aZ,D5 D8 aZ aR,sl D9 bQ bZ,D5 D8 bZ bR,sl G0 lq l,U5,U8,J2,M2] (bx s (H4 Cur.zero) 29::bx n (H4 c) 29::bx p (C2 b ⟨bQ,bR.length,bK⟩) 26::bx o (C2 a ⟨aQ,aR.length,aK⟩) 26::bx j (I2 h ⟨va hLr.q,hL.length,hLr.k⟩) 67::((vo D9 70 m i)++((vo A0 54 hLr hL)++([])))) (cA 12 0) oki rfl oki oki oki bU A7.refl ?_
   refine zhp [0,1,2,4,5,6,7] 5 (cA 12 247) [(41,pt j 13),(46,pt j 0)] ?_
   refine zhl 3 (bx s (H4 Cur.zero) 29::bx n (H4 c) 29::bx p (C2 b ⟨bQ,bR.length,bK⟩) 26::bx o (C2 a ⟨aQ,aR.length,aK⟩) 26::bx j (I2 h ⟨va hLr.q,hL.length,hLr.k⟩) 67::((vo D9 70 m i)++((vo A0 54 hLr hL)++([])))) (cA 12 255) rfl (C1 (v:=.slice (va hLr.q) hL.length hLr.k) C1v rfl rfl 4 rfl rfl) ?_
   refine zhp [9] 3 (cA 12 767) [(8,.slice (va hLr.q) hL.length hLr.k)] ?_
   refine zhl 8 (bx s (H4 Cur.zero) 29::bx n (H4 c) 29::bx p (C2 b ⟨bQ,bR.length,bK⟩) 26::bx o (C2 a ⟨aQ,aR.length,aK⟩) 26::bx j (I2 h ⟨va hLr.q,hL.length,hLr.k⟩) 67::((vo D9 70 m i)++((vo A0 54 hLr hL)++([])))) (cA 12 1023) rfl (G7 (us:=H4 h.cur) D6r rfl rfl 4 rfl rfl rfl) ?_
   refine zho 10 (bx n (H4 c) 29::bx p (C2 b ⟨bQ,bR.length,bK⟩) 26::bx o (C2 a ⟨aQ,aR.length,aK⟩) 26::bx j (I2 h ⟨va hLr.q,hL.length,hLr.k⟩) 67::((vo D9 70 m i)++((vo A0 54 hLr hL)++([])))) (cA 12 2047) rfl (P4 (us:=H4 h.cur) (cs':=H4 h.cur) D6r rfl rfl rfl 0 rfl rfl rfl rfl rfl rfl) (fun _=>bU) (fun _=>A7.refl) fun _=>?_
   refine zhp [11] 0 (cA 12 4095) [(10,iv 0)] ?_
   refine B4u oki ?_
   subst hR
   refine A8 ?_
   exact cD hr hD (D8x rfl (A6 rfl) (F0 (us:=H4 h.cur) D6r rfl 0 rfl rfl rfl) (A6 rfl)) ⟨hLr,a1⟩ bU bX
  have a4:=bV a8
  exfalso;exact absurd aj a4
def A4b (b:List Act):List Act→Nat→Bool
 | [],i=>true
 | hd_l0::tl_l0,i=>(bif (!(decide (hd_l0=(b.getD i Act.zero)))) then false else A4b b tl_l0 (i+1))
def A2q (a:List Act) (b:List Act):Bool :=
 (bif (!decide ((a.length:Int)=(b.length:Int))) then false else A4b b a 0)
theorem B7f {a b:List Act} {aq:Option Addr} {ak:Nat} {bq:Option Addr} {bk:Nat} {R:Bool} (hR:A2q a b=R) (k:a.length≤9223372036854775807:=by exact bW) (j:a.length≤ak:=by exact bW) (o:b.length≤9223372036854775807:=by exact bW) (h:b.length≤bk:=by exact bW):J5 Tryz.prog 11 [.slice aq a.length ak,.slice bq b.length bk] [sl A0 aq a,sl A0 bq b] (bv R):=by
 refine cC Tryz.func11 fun X hX hr hD=>?_
 replace hR:=(A2q.eq_1 ..).symm.trans hR
 refine bS rfl (pp0 1 rfl (ie (A3 (bS rfl (bP 5 10 rfl (ie ?_))))))
 refine zjn rfl hR ?_ ?_<;>clear hR<;>intro hR s m
 ·refine bS rfl (bP 1 4 rfl ?_)
  subst hR
  refine ie (A8 ?_)
  exact F7 hr hD
 refine A4 (nx (A3 (bS rfl (bP 1 5 rfl (ie (A9 (A3q (fun i=>(i≤a.length∧A4b b (a.drop i) i=R,[(0,_),(1,_),(5,iv i)],_,_,a.length - i)) 0 ⟨opx,hR⟩ bU A7.refl ?_)))))))
 rintro i ⟨n,hR⟩
 refine A3 (bS rfl (bP 4 14 rfl ?_))
 refine ie (G4 rfl (fun g=>?_) (fun g=>?_))
 ·have f:=bV g
  rw [A1b Act.zero (show i<a.length by omega)] at hR;replace hR:=(A4b.eq_2 ..).symm.trans hR
  refine A4 (nx (A3 (A9 (sd 9 rfl oki rfl (pd2 2 17 18 rfl ?_)))))
  refine B7d 0 rfl opx fun p e=>?_
  refine dd rfl (F8 Q1 rfl rfl e rfl i rfl opx) (dd rfl (K3 C8e rfl rfl (H2 (sz:=6) e (fun _=>rfl) 0 rfl (gd Act.zero opx)) rfl) (pd2 2 21 22 rfl ?_))
  refine B7d 1 rfl opx fun r d=>?_
  refine dd rfl (F8 Q1 rfl rfl d rfl i rfl opx) (dd rfl (K3 C8e rfl rfl (H2 (sz:=6) d (fun _=>rfl) 1 rfl (gd _ opx)) rfl) (dd rfl (Z3 (b:=(b.getD i Act.zero)) D4r rfl rfl rfl) (de ?_)))
  refine zjn rfl hR ?_ ?_<;>clear hR<;>intro hR q l
  ·refine bS rfl (bP 1 4 rfl ?_)
   subst hR
   refine ie (A8 ?_)
   exact F7 hr hD
  refine A4 (nx (A1 3 rfl (bP 1 15 rfl (ix rfl (B3 rfl rfl rfl rfl opx) (bP 1 5 rfl (A2 ?_))))))
  exact A2g _ ⟨opx,hR⟩ olr bU A7.refl
 have f:=bV g
 rw [A1d f] at hR;replace hR:=(A4b.eq_1 ..).symm.trans hR
 refine F4 (nx (bS rfl (bP 1 4 rfl ?_)))
 subst hR
 refine ie (A8 ?_)
 exact F7 hr hD
def B5i:Bool :=
 (B6 B4k fun (c:FrmC×List (List Cel))=>(B6 (D5s c.1 c.2) fun (f:List Act×Int)=>(B6 (A9g 3 1) fun (e:FrmC×List (List Cel))=>(B6 B4k fun (h:FrmC×List (List Cel))=>(B6 (C1z e.1 e.2 h.1 h.2 ([{Sp3.zero with tt:=1}]:List Sp3) ({Cur.zero with col:=2})) fun (b:List Act×Cur×Int)=>(B6 B4k fun (g:FrmC×List (List Cel))=>(B6 B4k fun (d:FrmC×List (List Cel))=>(B6 (A9i g.1 g.2 d.1 d.2 ({Cur.zero with row:=1})) fun (a:List Act×Int)=>((((((decide (f.2=0))&&(A2q f.1 ([{Act.zero with kind:=15},{Act.zero with kind:=37,n:=1049,m:=1},{Act.zero with kind:=1,n:=97},{Act.zero with kind:=1,n:=98}]:List Act)))&&(decide (b.2.2=0)))&&(A2q b.1 ([{Act.zero with kind:=6},{Act.zero with kind:=1,n:=97}]:List Act)))&&(decide (b.2.1={Cur.zero with col:=1})))&&(decide (a.2=2)))))))))))
theorem D3m (R:Bool) (hR:B5i=R):J5 Tryz.prog 6 [] [U5,U8,J2,M2] (bv R):=by
 refine cC Tryz.func6 fun X hX hr hD=>?_
 replace hR:=(B5i.eq_1 ..).symm.trans hR
 refine bS rfl (pp0 1 rfl (ie (bS rfl ?_)))
 have d:=C4 hR;clear hR;obtain ⟨y0,a8,hR⟩:=d
 refine zc rfl (B7x y0 a8) fun ⟨⟨q1,an,k3⟩,al⟩=>?_
 obtain ⟨a9,bo,bn⟩:=al
 have:=A9x;try rw [a8] at this
 have d:=C4 hR;clear hR;obtain ⟨y9,b3,hR⟩:=d
 refine zc rfl (E5i (f:=y0.1) (fR:=y0.2) (fQ:=q1) (fZ:=an) (fK:=k3) b3 a9 bW bW opd) fun ⟨r8,y⟩=>?_
 have:=bT.le y
 have:=bT.cap y
 refine R5 [] _ y opv ?_
 refine cG 5 1 2 rfl (ie (bS rfl (c9 4 2 [] [(14,ag (A0 ({Act.zero with kind:=15}))),(15,ag (A0 ({Act.zero with kind:=37,n:=1049,m:=1}))),(16,ag (A0 ({Act.zero with kind:=1,n:=97}))),(17,ag (A0 ({Act.zero with kind:=1,n:=98})))] (it rfl (B1 (c:=A0) (xs:=[{Act.zero with kind:=15},{Act.zero with kind:=37,n:=1049,m:=1},{Act.zero with kind:=1,n:=97},{Act.zero with kind:=1,n:=98}]) Q1 rfl rfl rfl oki) fun aj=>?_))))
 have:([{Act.zero with kind:=15},{Act.zero with kind:=37,n:=1049,m:=1},{Act.zero with kind:=1,n:=97},{Act.zero with kind:=1,n:=98}]:List Act).length=4:=rfl
 refine bP 1 3 rfl (ie (bS rfl ?_))
 have d:=C4 hR;clear hR;obtain ⟨y4,x,hR⟩:=d
 refine zc rfl (D3o x) fun ⟨⟨z,s⟩,p⟩=>?_
 try dsimp only at p
 obtain ⟨o,i⟩:=p
 have:=bT.le o
 have:=bT.cap o
 have:=C7i 3 1;try rw [x] at this
 have ap:(A9g 3 1).1.title.length=0:=rfl;rw [x] at ap
 refine R5 [] _ (bT.cast o (by rw [i.1])) opv ?_
 have d:=C4 hR;clear hR;obtain ⟨y5,a3,hR⟩:=d
 refine zc rfl (B7x y5 a3) fun ⟨⟨aw,a1,ay⟩,ae⟩=>?_
 obtain ⟨t,ba,bb⟩:=ae
 have:=A9x;try rw [a3] at this
 refine c9 1 11 [] [(22,ag (G0 ({Sp3.zero with tt:=1})))] (it rfl (B1 (c:=G0) (xs:=[{Sp3.zero with tt:=1}]) D1x rfl rfl rfl oki) fun b0=>?_)
 have:([{Sp3.zero with tt:=1}]:List Sp3).length=1:=rfl
 refine c9 1 9 [] [(24,ag (H4 ({Cur.zero with col:=2})))] ?_
 have d:=C4 hR;clear hR;obtain ⟨g,az,hR⟩:=d
 refine zc rfl (D6b (a:=y4.1) (aR:=y4.2) (b:=y5.1) (bR:=y5.2) (l:=([{Sp3.zero with tt:=1}]:List Sp3)) (c:=({Cur.zero with col:=2})) (aQ:=(va z.q)) (aZ:=s) (aK:=z.k) (bQ:=aw) (bZ:=a1) (bK:=ay) (lq:=(some ⟨b0,0,none⟩)) (lk:=1) az i bW bW t bW bW bW bW opd opd oxw) fun ⟨e,h⟩=>?_
 have:=bT.le h
 have:=bT.cap h
 refine R5 [] _ h opv ?_
 refine zra 8 [0] (fun w=>[(5,pt w 0),(4,.slice (va e.q) g.1.length e.k),(6,iv g.2.2)]) (fun _=>(H4 g.2.1)) 29 fun w=>?_
 refine ie (bS rfl ?_)
 have d:=C4 hR;clear hR;obtain ⟨y8,ab,hR⟩:=d
 refine zc rfl (B7x y8 ab) fun ⟨⟨b6,ad,am⟩,ah⟩=>?_
 obtain ⟨v,bi,bc⟩:=ah
 have:=A9x;try rw [ab] at this
 have d:=C4 hR;clear hR;obtain ⟨y6,a5,hR⟩:=d
 refine zc rfl (B7x y6 a5) fun ⟨⟨ao,a7,ax⟩,ac⟩=>?_
 obtain ⟨u,be,bl⟩:=ac
 have:=A9x;try rw [a5] at this
 refine c9 1 6 [] [(32,ag (H4 ({Cur.zero with row:=1})))] ?_
 have d:=C4 hR;clear hR;obtain ⟨a0,aa,hR⟩:=d
 refine zc rfl (C7d (a:=y8.1) (aR:=y8.2) (b:=y6.1) (bR:=y6.2) (c:=({Cur.zero with row:=1})) (aQ:=b6) (aZ:=ad) (aK:=am) (bQ:=ao) (bZ:=a7) (bK:=ax) aa v bW bW u bW bW opd opd) fun ⟨b4,j⟩=>?_
 refine R5 [_] _ j opv ?_
 refine bP 5 8 rfl (ie (bS rfl (bP 3 38 rfl ?_)))
 refine zid 4 21 38 42 (A2q y9.1 [{Act.zero with kind:=15},{Act.zero with kind:=37,n:=1049,m:=1},{Act.zero with kind:=1,n:=97},{Act.zero with kind:=1,n:=98}]) (fun ai b8=>?_) ?_
 ·refine cG 2 39 40 rfl (zv rfl (B7f (b:=[{Act.zero with kind:=15},{Act.zero with kind:=37,n:=1049,m:=1},{Act.zero with kind:=1,n:=97},{Act.zero with kind:=1,n:=98}]) rfl) (bP 1 42 rfl ?_))
  exact zai 5 38 _ ai
 refine bP 1 43 rfl ?_
 refine zia 3 17 43 46 (decide (g.2.2=0)) (fun a4=>?_) ?_
 ·have bj:=bV a4
  refine bP 3 46 rfl ?_
  exact zai 2 43 _ a4
 refine bP 1 47 rfl ?_
 refine zia 6 10 47 53 (A2q g.1 [{Act.zero with kind:=6},{Act.zero with kind:=1,n:=97}]) (fun a6=>?_) ?_
 ·have bd:=bV a6
  refine c9 3 3 [] [(48,.slice (va e.q) g.1.length e.k),(49,ag (A0 ({Act.zero with kind:=6}))),(50,ag (A0 ({Act.zero with kind:=1,n:=97})))] (it rfl (B1 (c:=A0) (xs:=[{Act.zero with kind:=6},{Act.zero with kind:=1,n:=97}]) Q1 rfl rfl rfl oki) fun b5=>?_)
  have:([{Act.zero with kind:=6},{Act.zero with kind:=1,n:=97}]:List Act).length=2:=rfl
  refine zv rfl (B7f (b:=[{Act.zero with kind:=6},{Act.zero with kind:=1,n:=97}]) rfl) (bP 1 53 rfl ?_)
  exact A2 (J0 7 47 _ a6 cB bU rfl rfl rfl rfl rfl)
 refine bP 1 54 rfl ?_
 refine zia 4 5 54 58 (decide (g.2.1={Cur.zero with col:=1})) (fun af=>?_) ?_
 ·have b9:=bV af
  refine c9 2 2 [0] [(55,ag _),(56,ag _)] (ix rfl (A9u (a:=g.2.1) (b:={Cur.zero with col:=1}) F4p rfl rfl rfl) (bP 1 58 rfl ?_))
  exact zai 5 54 _ af
 refine bP 1 59 rfl ?_
 refine zia 3 1 59 62 (decide (a0.2=2)) (fun a2=>?_) ?_
 ·have bh:=bV a2
  refine bP 3 62 rfl ?_
  exact zai 2 59 _ a2
 refine bP 1 0 rfl ?_
 subst hR
 refine ie (A8 ?_)
 exact F7 hr hD
end Go.Proofs.YtgimbmncdmnklaaGreatDoor
