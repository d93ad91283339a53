import Derived.Test.YtfcdnnheppnbaaaGreatDoorProg
import Derived.Test.YtfcdnnheppnbaaaGreatDoorMA2
import Derived.Test.YtfcdnnheppnbaaaGreatDoorMB1
import Derived.Test.YtfcdnnheppnbaaaGreatDoorMA3
import Derived.Test.YtfcdnnheppnbaaaGreatDoorMB2
import Derived.Test.YtfcdnnheppnbaaaGreatDoorMB3
import Derived.Test.YtfcdnnheppnbaaaGreatDoorMQ1
import Derived.Test.YtfcdnnheppnbaaaGreatDoorMQ2
set_option linter.unusedVariables false
set_option linter.unusedSimpArgs false
set_option linter.unnecessarySimpa false
set_option maxRecDepth 100000
namespace Go.Proofs.YtfcdnnheppnbaaaGreatDoor
open Go Go.Fen
def A1x (bB:List Cel) (bC:Bool) (a:Int):Int :=
 (bif (!decide ((G5 bB bC)=0)) then (G5 bB bC) else (bif ((decide (a<0))||(decide ((bB.length:Int)≤a))) then 2 else 0))
theorem C4y {l:List Cel} {w:Bool} {c:Int} (h:A1x l w c=0):G5 l w=0∧0≤c∧c<(l.length:Int):=by
 unfold A1x at h
 cases h1:(!decide (G5 l w=0)) with
 | true=>rw [h1,cond_true] at h;simp [h] at h1
 | false =>
  rw [h1,cond_false] at h
  cases h2:(decide (c<0)||decide ((l.length:Int)≤c)) with
  | true=>rw [h2,cond_true] at h;exact absurd h ozw
  | false=>simp at h1 h2;exact ⟨h1,by omega,by omega⟩
theorem C7a {bB:List Cel} {bC:Bool} {a:Int} {aZ:Option Addr} {bA:Nat} {R:Int} (hR:A1x bB bC a=R) (i:bB.length≤9223372036854775807:=by exact bP) (g:bB.length≤bA:=by exact bP):J5 Tryz.prog 251 [ag [.slice aZ bB.length bA,bv bC],iv a] [sl C0 aZ bB,P6,P7] (iv R):=by
 refine bZ Tryz.func251 fun X hX hr hD=>?_
 replace hR:=(A1x.eq_1 ..).symm.trans hR
 refine bN rfl (zra 2 [] (fun b=>[(2,pt b 0)]) (fun _=>[.slice aZ bB.length bA,bv bC]) 34 fun b=>?_)
 refine ie (A5 (bN rfl (bY 1 2 [0] [(6,ag [.slice aZ bB.length bA,bv bC])] ?_)))
 refine zv rfl (A7p rfl) ?_
 refine bO 1 5 rfl ?_
 refine ie (bN rfl (bO 2 9 rfl ?_))
 refine ie ?_
 refine zjn rfl hR ?_ ?_<;>clear hR<;>intro hR h c
 ·refine bN rfl (bO 2 4 rfl ?_)
  subst hR
  refine ie (A8 ?_)
  exact G0 hr hD
 refine A4 (nx (A5 (bN rfl (bO 3 13 rfl ?_))))
 refine zir 6 0 13 19 (decide ((bB.length:Int)≤a)) (fun f e=>?_) ?_
 ·refine cE 6 [0] 19 rfl ?_
  exact zai 2 13 19 f
 refine ie ?_
 refine zjo rfl hR ?_ ?_<;>clear hR<;>intro hR j d
 ·refine bN rfl (bO 1 4 rfl ?_)
  subst hR
  refine ie (A8 ?_)
  exact G0 hr hD
 refine A4 (nx (bN rfl (bO 1 4 rfl ?_)))
 subst hR
 refine ie (A8 ?_)
 exact G0 hr hD
def B6y (l:List Cel) (p1:Int) (p2:Int) (p3:Int):List Cel :=
 (l.set ((p2).toNat) (bif Nat.beq ((p3).toNat) 0 then {(l.getD ((p2).toNat) Cel.zero) with marks:={(l.getD ((p2).toNat) Cel.zero).marks with a:=p1}} else {(l.getD ((p2).toNat) Cel.zero) with marks:={(l.getD ((p2).toNat) Cel.zero).marks with b:=p1}}))
set_option maxHeartbeats 400000 in
theorem D3l {l:List Cel} {p1 p2 p3:Int} {lr:VR} {p1b p2b p3b:Nat} {R:List Cel} (hR:B6y l p1 p2 p3=R) (d:bR 12 l.length lr:=by exact bP) (i:0≤p2∧p2<(l.length:Int)∧0≤p3∧p3<2:=by exact bP):cI Tryz.prog 288 [.slice (va lr.q) l.length lr.k,pt p1b 0,pt p2b 0,pt p3b 0] (bx p1b [iv p1] 3::bx p2b [iv p2] 3::bx p3b [iv p3] 3::((vo C0 37 lr l)++([]))) [] ({t:Unit // bR 12 R.length lr}) (fun x=>.tuple #[]) (fun x=>(bx p1b [iv p1] 3::bx p2b [iv p2] 3::bx p3b [iv p3] 3::((vo C0 37 lr R)++([])))) (fun x=>[]):=by
 refine bZ Tryz.func288 fun X hX hr hD=>?_
 replace hR:=(B6y.eq_1 ..).symm.trans hR
 have:=bR.le d
 refine sh' 8 [(8,[bx p1b [iv p1] 3]),(8,[bx p2b [iv p2] 3]),(8,[bx p3b [iv p3] 3]),(7,vo C0 37 lr l)] [] (bx p1b [iv p1] 3::bx p2b [iv p2] 3::bx p3b [iv p3] 3::((vo C0 37 lr l)++([]))) (bV 8 0) oki rfl oki oki oki bQ A9.refl ?_
 refine zhp [0] 7 (bV 8 1) [(5,.slice (va lr.q) l.length lr.k)] ?_
 refine zhl 1 (bx p1b [iv p1] 3::bx p2b [iv p2] 3::bx p3b [iv p3] 3::((vo C0 37 lr l)++([]))) (bV 8 3) rfl (A2 (v:=iv p2) cA rfl rfl 1 rfl rfl) ?_
 refine zhl 2 (bx p1b [iv p1] 3::bx p2b [iv p2] 3::bx p3b [iv p3] 3::((vo C0 37 lr l)++([]))) (bV 8 7) rfl (A2 (v:=iv p3) cA rfl rfl 2 rfl rfl) ?_
 refine zhl 3 (bx p1b [iv p1] 3::bx p2b [iv p2] 3::bx p3b [iv p3] 3::((vo C0 37 lr l)++([]))) (bV 8 15) rfl (A2 (v:=iv p1) cA rfl rfl 0 rfl rfl) ?_
 obtain ⟨b1,e⟩:=bR.some d opx
 obtain ⟨f,h,g⟩:=lr
 obtain rfl:f=some b1:=e
 refine zhl 4 [bx p1b [iv p1] 3,bx p2b [iv p2] 3,bx p3b [iv p3] 3] (bV 8 31) rfl (X2 W9 rfl rfl rfl ((p2).toNat) opx opx) ?_
 refine zhp [5] 2 (bV 8 63) [(10,.pointer (some ⟨b1,((p2).toNat) * 12+1,none⟩))] ?_
 refine zhk 6 (bV 8 127) rfl (D6o Tryz.underlying35 cA rfl rfl rfl ((p3).toNat) opx opx) ?_
 refine zho 7 [bx p1b [iv p1] 3,bx p2b [iv p2] 3,bx p3b [iv p3] 3] (bV 8 255) rfl (W7 (off:=((p2).toNat) * 12+1+((p3).toNat) * 1) (us:=[iv p1]) (u':=(bif Nat.beq ((p3).toNat) 0 then {(l.getD ((p2).toNat) Cel.zero) with marks:={(l.getD ((p2).toNat) Cel.zero).marks with a:=p1}} else {(l.getD ((p2).toNat) Cel.zero) with marks:={(l.getD ((p2).toNat) Cel.zero).marks with b:=p1}})) (c:=C0) (sz:=12) cA (fun _=>rfl) rfl rfl rfl 3 rfl rfl rfl rfl ((p2).toNat) (1+(p3).toNat) opx (gd Cel.zero opx) (F0l opx rfl rfl) (E9t opx)) (fun _=>bQ) (fun _=>A9.nil) fun _=>?_
 refine A2a oki ?_
 subst hR
 exact zen hr hD (A0x rfl) ⟨(),(bR.cast d oom)⟩ bQ A9.nil
def B4i (bB:List Cel) (bC:Bool) (changec:Int) (changec1:Int) (changec2:Int):List Cel×Bool :=
 (C2 (B6y bB changec changec1 changec2) fun (a:List Cel)=>(a,bC))
theorem omc {p:Prop} (h:p:=by first|rfl|(rw [List.length_replicate];done)|(simp only [List.length_replicate];omega)):p:=h
theorem ovd {p:Prop} (h:p:=by first|rfl|(rw [List.length_replicate];rfl)|(simp only [List.length_replicate];rfl)):p:=h
theorem ojr {p:Prop} (h:p:=by first|rfl|(rw [List.length_replicate];done)|simp only [List.length_replicate]):p:=h
set_option maxHeartbeats 400000 in
theorem D1p {bB:List Cel} {bC:Bool} {changec changec1 changec2:Int} {aZ:Option Addr} {bA changecb changecb1 changecb2:Nat} {R:List Cel×Bool} (hR:B4i bB bC changec changec1 changec2=R) (o:bB.length≤9223372036854775807:=by exact bP) (n:bB.length≤bA:=by exact bP) (p:0≤changec1∧changec1<(bB.length:Int)∧0≤changec2∧changec2<2:=by exact bP) (m:bB.length≤80:=by exact bP):cI Tryz.prog 252 [ag [.slice aZ bB.length bA,bv bC],.func (.func 288) #[] #[pt changecb 0,pt changecb1 0,pt changecb2 0]] [bx changecb [iv changec] 3,bx changecb1 [iv changec1] 3,bx changecb2 [iv changec2] 3] [sl C0 aZ bB] ({r:VR // bR 12 R.1.length r}) (fun x=>ag [.slice (va x.1.q) R.1.length x.1.k,bv R.2]) (fun x=>(bx changecb [iv changec] 3::bx changecb1 [iv changec1] 3::bx changecb2 [iv changec2] 3::((vo C0 37 x.1 R.1)++([])))) (fun x=>[]):=by
 refine bZ Tryz.func252 fun X hX hr hD=>?_
 replace hR:=(B4i.eq_1 ..).symm.trans hR
 refine bN rfl (A8c 2 [] (fun i h=>[(2,pt i 0),(4,pt h 0)]) (fun _ _=>[.slice aZ bB.length bA,bv bC]) (fun _ _=>[.slice none 0 0,bv false]) 34 34 fun i h=>?_)
 refine ie (bN rfl (cE 3 [1] 8 rfl ?_))
 refine it rfl (B5u (f:=C0) (l:=bB.length) (c:=bB.length) Cel.zero C9d D4o.ok (fun _=>rfl) rfl rfl rfl opx ofv opx) fun ⟨r3,d⟩=>?_
 have:(List.replicate bB.length Cel.zero).length=bB.length:=List.length_replicate
 have:=bR.le d
 have:=bR.cap d
 have:(List.replicate bB.length Cel.zero).length=bB.length:=List.length_replicate
 refine bO 1 5 rfl ?_
 refine ie (bN rfl (pl2 3 [1] 10 12 rfl ?_))
 have g:bR 12 bB.length r3:=bR.cast d omc
 refine it rfl (B0k (f:=C0) (r:=r3) (n2:=bB.length) (z:=Cel.zero) (zs:=bB) (pre:=[bx h [.slice none 0 0,bv false] 34,bx i [.slice aZ bB.length bA,bv bC] 34,bx changecb [iv changec] 3,bx changecb1 [iv changec1] 3,bx changecb2 [iv changec2] 3]) (post:=[]) W9 (fun _=>rfl) (fun _=>rfl) rfl rfl rfl rfl ovd rfl rfl rfl (B8 0 rfl) (bR.cast d ojr) rfl) fun _=>?_
 refine B1j (L':=(bx h [.slice none 0 0,bv false] 34::bx i [.slice aZ bB.length bA,bv bC] 34::bx changecb [iv changec] 3::bx changecb1 [iv changec1] 3::bx changecb2 [iv changec2] 3::((vo C0 37 r3 bB)++([])))) rfl ?_
 refine P2 (v:=.slice (va r3.q) bB.length r3.k) 9 (congrArg (fun z=>some (Value.slice (va r3.q) z r3.k)) (List.length_replicate)) ?_
 refine P2 (v:=.slice (va r3.q) bB.length r3.k) 5 (congrArg (fun z=>some (Value.slice (va r3.q) z r3.k)) (List.length_replicate)) ?_
 refine P2 (v:=.slice (va r3.q) bB.length r3.k) 10 (congrArg (fun z=>some (Value.slice (va r3.q) z r3.k)) (List.length_replicate)) ?_
 refine ie (bN rfl (ip' 2 1 [(14,.func (.func 288) #[] #[pt changecb 0,pt changecb1 0,pt changecb2 0]),(15,.slice (va r3.q) bB.length r3.k)] ?_))
 have j:=C9 hR;clear hR;obtain ⟨a,b,hR⟩:=j
 refine zc rfl (D3l b g) fun ⟨_,e⟩=>?_
 have:=bR.le e
 have:=bR.cap e
 refine P2 (v:=.slice (va r3.q) a.length r3.k) 9 (congrArg (fun z=>some (Value.slice (va r3.q) z r3.k)) (by rw [← b];exact (List.length_set ..).symm)) ?_
 refine P2 (v:=.slice (va r3.q) a.length r3.k) 5 (congrArg (fun z=>some (Value.slice (va r3.q) z r3.k)) (by rw [← b];exact (List.length_set ..).symm)) ?_
 refine P2 (v:=.slice (va r3.q) a.length r3.k) 10 (congrArg (fun z=>some (Value.slice (va r3.q) z r3.k)) (by rw [← b];exact (List.length_set ..).symm)) ?_
 refine P2 (v:=.slice (va r3.q) a.length r3.k) 15 (congrArg (fun z=>some (Value.slice (va r3.q) z r3.k)) (by rw [← b];exact (List.length_set ..).symm)) ?_
 refine ie (bN rfl (zrg 5 0 [4,3] [] (bx changecb [iv changec] 3::bx changecb1 [iv changec1] 3::bx changecb2 [iv changec2] 3::bx h [.slice (va r3.q) a.length r3.k,bv bC] 34::bx i [.slice aZ bB.length bA,bv bC] 34::((vo C0 37 r3 a)++([]))) ?_))
 subst hR
 refine ie (A8 ?_)
 exact cD hr hD (N4 rfl (D4 (us:=[.slice (va r3.q) a.length r3.k,bv bC]) A3w rfl 3 rfl rfl rfl)) ⟨r3,e⟩ bQ A9.nil
theorem E3l (a b:Int):K4 ([a,b]:List Int) 0<2:=by
 unfold K4
 simp only [Q1]
 repeat' split
 all_goals first|omega|decide|(cases decide _<;>decide)|(simp only [Bool.cond_decide];split<;>omega)
def A7q (bB:List Cel) (bC:Bool) (cp:Int) (d:Int):List Cel×Bool×Int :=
 (bif (decide ((K4 ([((bB.getD ((d).toNat) Cel.zero).marks).a,((bB.getD ((d).toNat) Cel.zero).marks).b]:List Int) 0)<0)) then (bB,bC,0) else (C2 (B4i bB bC cp d (K4 ([((bB.getD ((d).toNat) Cel.zero).marks).a,((bB.getD ((d).toNat) Cel.zero).marks).b]:List Int) 0)) fun (c:List Cel×Bool)=>(c.1,c.2,0)))
def B3j (bB:List Cel) (bC:Bool) (a:Int) (cp:Int):List Cel×Bool×Int :=
 (bif (!decide ((A1x bB bC a)=0)) then (([]:List Cel),false,(A1x bB bC a)) else (bif (!decide ((F6 cp)=0)) then (([]:List Cel),false,2) else (bif (M3 (bB.getD ((a).toNat) Cel.zero)) then A7q bB bC cp (a - 1) else A7q bB bC cp a)))
theorem omm {p:Prop} (h:p:=by first|rfl|simp only [List.cons_append,List.append_assoc,List.nil_append,List.append_nil]):p:=h
set_option maxHeartbeats 400000 in
theorem D9i {bB:List Cel} {bC:Bool} {f cp:Int} {aZ:Option Addr} {bA:Nat} {R:List Cel×Bool×Int} (hR:B3j bB bC f cp=R) (bF:bB.length≤9223372036854775807:=by exact bP) (bG:bB.length≤bA:=by exact bP):cI Tryz.prog 249 [ag [.slice aZ bB.length bA,bv bC],iv f,iv cp] [] [sl C0 aZ bB,P6,P7] ({t:Option Addr×Nat // R.1.length≤t.2∧R.1.length≤9223372036854775807}) (fun x=>.tuple #[ag [.slice x.1.1 R.1.length x.1.2,bv R.2.1],iv R.2.2]) (fun x=>[]) (fun x=>[sl C0 x.1.1 R.1]):=by
 refine bZ Tryz.func249 fun X hX hr hD=>?_
 replace hR:=(B3j.eq_1 ..).symm.trans hR
 refine bN rfl (D4x 3 2 [] (fun y n p=>[(3,pt y 0),(4,pt n 0),(5,pt p 0)]) (fun y n p=>[bx p [iv cp] 3,bx n [iv f] 3,bx y [.slice aZ bB.length bA,bv bC] 34]) (fun y n p=>?_))
 refine zra 2 [] (fun o=>[(6,pt o 0)]) (fun _=>[.slice none 0 0,bv false]) 34 fun o=>?_
 refine ie (bN rfl (bY 2 2 [3,2] [(10,ag [.slice aZ bB.length bA,bv bC]),(11,iv f)] ?_))
 refine zv rfl (C7a rfl) ?_
 refine bO 1 8 rfl ?_
 refine ie (A5 (B2 (bN rfl (bO 3 13 rfl ?_))))
 refine ie ?_
 refine zjn rfl hR ?_ ?_<;>clear hR<;>intro hR h5 a1
 ·refine bN rfl (zru 4 [0] [(7,iv (A1x bB bC f))] 0 (bx o [.slice none 0 0,bv false] 34) ?_)
  subst hR
  refine ie (A8 ?_)
  exact cD hr hD (Q9 rfl (D4 (us:=[.slice none 0 0,bv false]) A3w rfl 0 rfl rfl rfl) (B0 rfl)) (zq none 0) bQ c9
 have hw:=C4y (l:=bB) (w:=bC) (c:=f) (by have:=a1;omega);have a4:=(Z0 hw.1).2.1
 refine bN rfl (cE 1 [1] 19 rfl ?_)
 refine zv rfl (A3p rfl) ?_
 refine bO 2 18 rfl ?_
 refine ie ?_
 refine zjn rfl hR ?_ ?_<;>clear hR<;>intro hR h6 a3
 ·refine bN rfl (zru 3 [0] [(7,iv 2)] 0 (bx o [.slice none 0 0,bv false] 34) ?_)
  subst hR
  refine ie (A8 ?_)
  exact cD hr hD (Q9 rfl (D4 (us:=[.slice none 0 0,bv false]) A3w rfl 0 rfl rfl rfl) (B0 rfl)) (zq none 0) bQ c9
 refine A4 (nx (A9c (fun (e:Int)=>(A7q bB bC cp e=R∧e<(bB.length:Int)∧0≤e,[(3,pt y 0),(4,pt n 0),(5,pt p 0),(6,pt o 0)],[bx o [.slice none 0 0,bv false] 34,bx p [iv cp] 3,bx n [iv e] 3,bx y [.slice aZ bB.length bA,bv bC] 34],[sl C0 aZ bB,P6,P7])) ?_ ?_))
 ·refine bN rfl (pl2 3 [3,2] 24 25 rfl ?_)
  refine L9 0 rfl opx fun a7 u=>?_
  refine ix rfl (H9 W9 rfl rfl u rfl ((f).toNat) opx opx) ?_
  refine ix rfl (K5 (us:=C0 (bB.getD ((f).toNat) Cel.zero)) C0t rfl rfl (K2 (c:=C0) (sz:=12) u (fun _=>rfl) 0 rfl (gd Cel.zero opx)) rfl) ?_
  refine zv rfl (A9f rfl) ?_
  refine ie ?_
  refine zjb rfl hR ?_ ?_<;>clear hR<;>intro hR h9
  ·have a5:=D7s hw.1 hw.2.1 h9
   refine A0 3 rfl (cE 1 [2] 29 rfl ?_)
   refine ix rfl (Q6 rfl rfl rfl rfl opx) ?_
   refine zru 1 [2] [] 2 (bx n [iv (f - 1)] 3) ?_
   refine A3 ?_
   exact X5 (f - 1) ⟨hR,opx⟩ bQ A9.refl
  refine A4 ?_
  exact X5 f ⟨hR,opx⟩ bQ A9.refl
 intro e
 rintro ⟨hR,hj⟩
 replace hR:=(A7q.eq_1 ..).symm.trans hR
 refine bN rfl (pl2 3 [3,2] 32 33 rfl ?_)
 refine L9 0 rfl opx fun z m=>?_
 refine ix rfl (H9 W9 rfl rfl m rfl ((e).toNat) opx opx) ?_
 refine bO 1 35 rfl ?_
 refine D7 (show S1 _ (sl J8 (some ((Addr.add z (((e).toNat) * 12)).add 1)) ([((bB.getD ((e).toNat) Cel.zero).marks).a,((bB.getD ((e).toNat) Cel.zero).marks).b]:List Int)) from B6q (K2 (c:=C0) (sz:=12) m (fun _=>rfl) 0 rfl (gd Cel.zero opx)) (ws:=B6n ((bB.getD ((e).toNat) Cel.zero).marks)) 1 2 rfl) ?_
 refine ix rfl (C2o Tryz.underlying35 cA rfl rfl) ?_
 have:([((bB.getD ((e).toNat) Cel.zero).marks).a,((bB.getD ((e).toNat) Cel.zero).marks).b]:List Int).length=2:=rfl
 refine zv rfl (A8i (s:=([((bB.getD ((e).toNat) Cel.zero).marks).a,((bB.getD ((e).toNat) Cel.zero).marks).b]:List Int)) (v:=0) (sq:=(some ((Addr.add z (((e).toNat) * 12)).add 1))) (sk:=2) rfl) ?_
 refine zra 2 [0] (fun j=>[(9,pt j 0)]) (fun _=>[iv (K4 ([((bB.getD ((e).toNat) Cel.zero).marks).a,((bB.getD ((e).toNat) Cel.zero).marks).b]:List Int) 0)]) 3 fun j=>?_
 refine ie (A5 (bN rfl (cE 2 [0] 39 rfl ?_)))
 refine ie ?_
 refine zjd rfl hR ?_ ?_<;>clear hR<;>intro hR a6 a2
 ·refine bN rfl (zrg 3 0 [4,1] [(7,iv 0)] [bx j [iv (K4 ([((bB.getD ((e).toNat) Cel.zero).marks).a,((bB.getD ((e).toNat) Cel.zero).marks).b]:List Int) 0)] 3,bx o [.slice aZ bB.length bA,bv bC] 34,bx p [iv cp] 3,bx n [iv e] 3,bx y [.slice aZ bB.length bA,bv bC] 34] ?_)
  subst hR
  refine ie (A8 ?_)
  exact cD hr hD (Q9 rfl (D4 (us:=[.slice aZ bB.length bA,bv bC]) A3w rfl 1 rfl rfl rfl) (B0 rfl)) (zq aZ bA) bQ c9
 have aa:=E3l ((bB.getD ((e).toNat) Cel.zero).marks).a ((bB.getD ((e).toNat) Cel.zero).marks).b
 refine A4 (nx (bN rfl (bY 2 3 [4] [(41,ag [.slice aZ bB.length bA,bv bC]),(42,.func (.func 288) #[] #[pt p 0,pt n 0,pt j 0])] ?_)))
 have hQ:=C9 hR;clear hR;obtain ⟨d,g,hR⟩:=hQ
 refine zc rfl (D1p g bP bP bP ojv) fun ⟨h,i⟩=>?_
 have:=bR.le i
 have:=bR.cap i
 refine zru 2 [3] [(7,iv 0)] 3 (bx o [.slice (va h.q) d.1.length h.k,bv d.2] 34) ?_
 refine ie (A8 (B4n [bx p [iv cp] 3,bx n [iv e] 3,bx j [iv (K4 ([((bB.getD ((e).toNat) Cel.zero).marks).a,((bB.getD ((e).toNat) Cel.zero).marks).b]:List Int) 0)] 3,bx o [.slice (va h.q) d.1.length h.k,bv d.2] 34,bx y [.slice aZ bB.length bA,bv bC] 34] [] (T:=37) (c:=C0) (r:=h) (xs:=d.1) i omm ?_))
 have:=bR.cap i
 subst hR
 exact cD hr hD (Q9 rfl (D4 (us:=[.slice (va h.q) d.1.length h.k,bv d.2]) A3w rfl 3 rfl rfl rfl) (B0 rfl)) (zq (va h.q) h.k) bQ c9
def A0t:List Int→List Cel→Nat→List Cel
 | [],l1,t8=>l1
 | hd_l0::tl_l0,l1,t8=>(bif (((decide ((0:Int)<hd_l0))&&(decide (hd_l0<(l1.length:Int))))&&(M3 (l1.getD (hd_l0.toNat) Cel.zero))) then A0t tl_l0 ((l1.set (hd_l0.toNat - 1) (G8 ({Sty.zero with back:=((l1.getD (hd_l0.toNat - 1) Cel.zero).sty).back}))).set (hd_l0.toNat) (G8 ({Sty.zero with back:=(((l1.set (hd_l0.toNat - 1) (G8 ({Sty.zero with back:=((l1.getD (hd_l0.toNat - 1) Cel.zero).sty).back}))).getD (hd_l0.toNat) Cel.zero).sty).back}))) (t8+1) else A0t tl_l0 l1 (t8+1))
def B0d (l:List Cel) (places:List Int):List Cel :=
 A0t places l 0
theorem B1b:∀ (p:List Int) (l:List Cel) (t:Nat),(A0t p l t).length=l.length
 | [],_,_=>rfl
 | a::p,l,t=>by
  unfold A0t
  cases (((decide ((0:Int)<a))&&(decide (a<(l.length:Int))))&&(M3 (l.getD (a.toNat) Cel.zero))) with
  | true=>rw [cond_true,B1b];simp only [List.length_set]
  | false=>rw [cond_false,B1b]
theorem C4w (l:List Cel) (p:List Int):(B0d l p).length=l.length:=B1b p l 0
theorem owe {p:Prop} (h:p:=by first|omega|(simp only [List.length_set];omega)):p:=h
set_option maxHeartbeats 400000 in
theorem D9j {l:List Cel} {places:List Int} {lr:VR} {placesq:Option Addr} {placesk:Nat} {R:List Cel} (hR:B0d l places=R) (e:bR 12 l.length lr:=by exact bP) (g:places.length≤9223372036854775807:=by exact bP) (h:places.length≤placesk:=by exact bP):cI Tryz.prog 212 [.slice (va lr.q) l.length lr.k,.slice placesq places.length placesk] ((vo C0 37 lr l)++([])) [sl J8 placesq places] ({t:Unit // bR 12 R.length lr}) (fun x=>.tuple #[]) (fun x=>((vo C0 37 lr R)++([]))) (fun x=>[]):=by
 refine bZ Tryz.func212 fun X hX hr hD=>?_
 replace hR:=(B0d.eq_1 ..).symm.trans hR
 have:=bR.le e
 refine bN rfl (pp3 3 6 7 8 rfl ?_)
 refine ie (B2 ?_)
 refine A4v (un fun (d:List Cel) (a:Nat)=>(a≤places.length∧A0t (places.drop a) d a=R∧bR 12 d.length lr,[(0,.slice (va lr.q) d.length lr.k),(6,.slice placesq places.length placesk),(7,iv (places.length:Int)),(8,iv (a:Int))],((vo C0 37 lr d)++([])),[sl J8 placesq places],places.length - a)) (l,0) ⟨opx,hR,e⟩ bQ A9.refl ?_
 rintro ⟨d,a⟩ ⟨a0,hR,b⟩
 have:=bR.le b
 refine bN rfl (bO 1 9 rfl ?_)
 refine ie (A5 (X7 rfl (fun o=>?_) (fun o=>?_)))
 ·have m:=bU o
  rw [A1f 0 (show a<places.length by omega)] at hR;replace hR:=(A0t.eq_2 ..).symm.trans hR
  refine A4 (nx (A5 (B2 (bN rfl (L9 0 rfl opx fun a3 f=>?_)))))
  refine ix rfl (H9 L4 rfl rfl f rfl a rfl opx) ?_
  refine ix rfl (F2 cA rfl rfl (K2 (c:=J8) (sz:=1) f (fun _=>rfl) 0 rfl (gd 0 opx)) rfl) ?_
  refine bO 1 5 rfl ?_
  refine ie (bN rfl (bO 3 14 rfl ?_))
  refine zid 5 7 14 19 (decide ((places.getD a 0)<(d.length:Int))) (fun w a1=>?_) ?_
  ·refine bO 5 19 rfl ?_
   exact A3 (O6 2 14 19 w A9.refl bQ rfl rfl rfl rfl rfl)
  refine bO 1 20 rfl ?_
  refine zia 6 0 20 26 (M3 (d.getD ((places.getD a 0).toNat) Cel.zero)) (fun s=>?_) ?_
  ·have u:=bU s
   refine cJ 2 21 22 rfl ?_
   obtain ⟨b7,p⟩:=bR.some b opx
   obtain ⟨q9,a2,v⟩:=lr
   obtain rfl:q9=some b7:=p
   refine ix rfl (X2 W9 rfl rfl rfl ((places.getD a 0).toNat) opx opx) ?_
   refine ix rfl (B3y (us:=C0 (d.getD ((places.getD a 0).toNat) Cel.zero)) (c:=C0) (sz:=12) C0t (fun _=>rfl) rfl rfl 0 rfl ((places.getD a 0).toNat) 0 rfl (gd Cel.zero opx) rfl rfl) ?_
   refine zv rfl (A9f rfl) ?_
   refine bO 1 26 rfl ?_
   exact A3 (O6 7 20 26 s A9.refl bQ rfl rfl rfl rfl rfl)
  refine ie ?_
  refine zjb rfl hR ?_ ?_<;>clear hR<;>intro hR j
  ·have n:=bU j
   refine bN rfl (cJ 2 27 28 rfl ?_)
   refine ix rfl (Q6 rfl rfl rfl rfl opx) ?_
   refine cJ 2 30 31 rfl ?_
   refine ix rfl (Q6 rfl rfl rfl rfl opx) ?_
   obtain ⟨b13,i⟩:=bR.some b opx
   obtain ⟨r,z,y⟩:=lr
   obtain rfl:r=some b13:=i
   refine ix rfl (X2 W9 rfl rfl rfl ((places.getD a 0).toNat - 1) opx opx) ?_
   refine bO 2 35 rfl ?_
   refine ix rfl (B3y (us:=P0 (((d.getD ((places.getD a 0).toNat - 1) Cel.zero).sty).back)) (c:=C0) (sz:=12) A8u (fun _=>rfl) rfl rfl 0 rfl ((places.getD a 0).toNat - 1) 8 rfl (gd Cel.zero opx) rfl rfl) ?_
   refine bY 1 3 [] [(37,ag (B3 ({Sty.zero with back:=((d.getD ((places.getD a 0).toNat - 1) Cel.zero).sty).back})))] ?_
   refine zv rfl (B4e rfl) ?_
   refine ix rfl (X2 W9 rfl rfl rfl ((places.getD a 0).toNat - 1) opx opx) ?_
   refine it rfl (W7 (us:=C0 (G8 ({Sty.zero with back:=((d.getD ((places.getD a 0).toNat - 1) Cel.zero).sty).back}))) (u':=(G8 ({Sty.zero with back:=((d.getD ((places.getD a 0).toNat - 1) Cel.zero).sty).back}))) (c:=C0) (sz:=12) C0t (fun _=>rfl) rfl rfl rfl 0 rfl rfl rfl rfl ((places.getD a 0).toNat - 1) 0 rfl (gd Cel.zero opx) rfl rfl) fun _=>?_
   refine ie (A0 12 rfl (pp4 4 40 41 42 43 rfl ?_))
   refine ix rfl (X2 W9 rfl rfl rfl ((places.getD a 0).toNat) opx owe) ?_
   refine bO 2 46 rfl ?_
   refine ix rfl (B3y (us:=P0 ((((d.set ((places.getD a 0).toNat - 1) (G8 ({Sty.zero with back:=((d.getD ((places.getD a 0).toNat - 1) Cel.zero).sty).back}))).getD ((places.getD a 0).toNat) Cel.zero).sty).back)) (c:=C0) (sz:=12) A8u (fun _=>rfl) rfl rfl 0 rfl ((places.getD a 0).toNat) 8 rfl (gd Cel.zero owe) rfl rfl) ?_
   refine bY 1 3 [] [(48,ag (B3 ({Sty.zero with back:=(((d.set ((places.getD a 0).toNat - 1) (G8 ({Sty.zero with back:=((d.getD ((places.getD a 0).toNat - 1) Cel.zero).sty).back}))).getD ((places.getD a 0).toNat) Cel.zero).sty).back})))] ?_
   refine zv rfl (B4e rfl) ?_
   refine ix rfl (X2 W9 rfl rfl rfl ((places.getD a 0).toNat) opx owe) ?_
   refine it rfl (W7 (us:=C0 (G8 ({Sty.zero with back:=(((d.set ((places.getD a 0).toNat - 1) (G8 ({Sty.zero with back:=((d.getD ((places.getD a 0).toNat - 1) Cel.zero).sty).back}))).getD ((places.getD a 0).toNat) Cel.zero).sty).back}))) (u':=(G8 ({Sty.zero with back:=(((d.set ((places.getD a 0).toNat - 1) (G8 ({Sty.zero with back:=((d.getD ((places.getD a 0).toNat - 1) Cel.zero).sty).back}))).getD ((places.getD a 0).toNat) Cel.zero).sty).back}))) (c:=C0) (sz:=12) C0t (fun _=>rfl) rfl rfl rfl 0 rfl rfl rfl rfl ((places.getD a 0).toNat) 0 rfl (gd Cel.zero owe) rfl rfl) fun _=>?_
   refine A3 (nx (A0 2 rfl (ix rfl (B4 rfl rfl rfl rfl opx) ?_)))
   refine bO 1 8 rfl ?_
   refine A3 ?_
   exact A0d (z1:=(d,a)) ((d.set ((places.getD a 0).toNat - 1) (G8 ({Sty.zero with back:=((d.getD ((places.getD a 0).toNat - 1) Cel.zero).sty).back}))).set ((places.getD a 0).toNat) (G8 ({Sty.zero with back:=(((d.set ((places.getD a 0).toNat - 1) (G8 ({Sty.zero with back:=((d.getD ((places.getD a 0).toNat - 1) Cel.zero).sty).back}))).getD ((places.getD a 0).toNat) Cel.zero).sty).back})),a+1) ⟨opx,hR,(bR.cast b oom)⟩ olr bQ A9.refl
  have n:=bU j
  refine A4 (nx (A0 2 rfl (ix rfl (B4 rfl rfl rfl rfl opx) ?_)))
  refine bO 1 8 rfl ?_
  refine A3 ?_
  exact A0d (z1:=(d,a)) (d,a+1) ⟨opx,hR,b⟩ olr bQ A9.refl
 have m:=bU o
 rw [A2g m] at hR;replace hR:=(A0t.eq_1 ..).symm.trans hR
 subst hR
 refine G6 ?_
 exact zen hr hD (A0x rfl) ⟨(),b⟩ bQ A9.nil
def A9d (l:List Cel) (p1:Int) (p2:Cel):List Cel :=
 (C2 (B0d l ([p1,((p1+1)+p2.wide)]:List Int)) fun (a:List Cel)=>(bif (decide (p2.wide=1)) then ((a.set ((p1).toNat) p2).set ((p1).toNat+1) ({Cel.zero with wide:=2,sty:=p2.sty})) else (a.set ((p1).toNat) p2)))
theorem C3u (l:List Cel) (c:Int) (p:Cel):(A9d l c p).length=l.length:=by
 unfold A9d C2
 cases decide (p.wide=1)<;>simp only [cond_true,cond_false,List.length_set,C4w]
set_option maxHeartbeats 400000 in
theorem D8c {l:List Cel} {p1:Int} {p2:Cel} {lr:VR} {p1b p2b:Nat} {R:List Cel} (hR:A9d l p1 p2=R) (b:bR 12 l.length lr:=by exact bP) (m:0≤p1∧p1<(l.length:Int)∧0≤p2.wide∧p2.wide≤1∧(p2.wide=1→p1+1<(l.length:Int)):=by exact bP):cI Tryz.prog 253 [.slice (va lr.q) l.length lr.k,pt p1b 0,pt p2b 0] (bx p1b [iv p1] 3::bx p2b (C0 p2) 37::((vo C0 37 lr l)++([]))) [] ({t:Unit // bR 12 R.length lr}) (fun x=>.tuple #[]) (fun x=>(bx p1b [iv p1] 3::bx p2b (C0 p2) 37::((vo C0 37 lr R)++([])))) (fun x=>[]):=by
 refine bZ Tryz.func253 fun X hX hr hD=>?_
 replace hR:=(A9d.eq_1 ..).symm.trans hR
 have:=bR.le b
 refine bN rfl (pl3 3 [0,0] 4 5 6 rfl ?_)
 refine ix rfl (B4 rfl rfl rfl rfl opx) ?_
 refine cE 2 [1] 9 rfl ?_
 refine ix rfl (B4 rfl rfl rfl rfl opx) ?_
 refine it rfl (C1 (c:=J8) (xs:=([p1,((p1+1)+p2.wide)]:List Int)) L4 rfl rfl rfl oki) fun j=>?_
 have:([p1,((p1+1)+p2.wide)]:List Int).length=2:=rfl
 have i:=C9 hR;clear hR;obtain ⟨e,a,hR⟩:=i
 refine zc rfl (D9j (l:=l) (places:=([p1,((p1+1)+p2.wide)]:List Int)) (lr:=lr) (placesq:=(some ⟨j,0,none⟩)) (placesk:=2) a b) fun ⟨_,d⟩=>?_
 have:=bR.le d
 have:=bR.cap d
 have:=C4w l ([p1,((p1+1)+p2.wide)]:List Int);try rw [a] at this
 refine ie (bN rfl (bY 3 2 [0,1] [(13,.slice (va lr.q) l.length lr.k),(14,iv p1),(15,ag (C0 p2))] ?_))
 obtain ⟨b3,g⟩:=bR.some d opx
 obtain ⟨h,p,o⟩:=lr
 obtain rfl:h=some b3:=g
 refine ix rfl (X2 W9 rfl rfl rfl ((p1).toNat) opx opx) ?_
 refine it rfl (W7 (us:=C0 p2) (u':=p2) (c:=C0) (sz:=12) C0t (fun _=>rfl) rfl rfl rfl 2 rfl rfl rfl rfl ((p1).toNat) 0 rfl (gd Cel.zero opx) rfl rfl) fun _=>?_
 refine ie (bN rfl (cE 3 [1] 19 rfl ?_))
 refine ie ?_
 refine zjd rfl hR ?_ ?_<;>clear hR<;>intro hR n f
 ·have:=m.2.2.2.2 f
  refine A0 8 rfl (pl2 2 [0] 20 21 rfl ?_)
  refine ix rfl (B4 rfl rfl rfl rfl opx) ?_
  refine bY 3 2 [1] [(25,ag (C0 ({Cel.zero with wide:=2,sty:=p2.sty})))] ?_
  refine ix rfl (X2 W9 rfl rfl rfl ((p1).toNat+1) opx owe) ?_
  refine it rfl (W7 (us:=C0 ({Cel.zero with wide:=2,sty:=p2.sty})) (u':={Cel.zero with wide:=2,sty:=p2.sty}) (c:=C0) (sz:=12) C0t (fun _=>rfl) rfl rfl rfl 2 rfl rfl rfl rfl ((p1).toNat+1) 0 rfl (gd Cel.zero owe) rfl rfl) fun _=>?_
  subst hR
  refine A3 ?_
  exact zen hr hD (A0x rfl) ⟨(),(bR.cast d oom)⟩ bQ A9.nil
 subst hR
 refine A4 ?_
 exact zen hr hD (A0x rfl) ⟨(),(bR.cast d oom)⟩ bQ A9.nil
def B6j (bB:List Cel) (bC:Bool) (changec:Int) (changec1:Cel):List Cel×Bool :=
 (C2 (A9d bB changec changec1) fun (a:List Cel)=>(a,bC))
set_option maxHeartbeats 400000 in
theorem C9b {bB:List Cel} {bC:Bool} {changec:Int} {changec1:Cel} {aZ:Option Addr} {bA changecb changecb1:Nat} {R:List Cel×Bool} (hR:B6j bB bC changec changec1=R) (o:bB.length≤9223372036854775807:=by exact bP) (n:bB.length≤bA:=by exact bP) (p:0≤changec∧changec<(bB.length:Int)∧0≤changec1.wide∧changec1.wide≤1∧(changec1.wide=1→changec+1<(bB.length:Int)):=by exact bP) (m:bB.length≤80:=by exact bP):cI Tryz.prog 252 [ag [.slice aZ bB.length bA,bv bC],.func (.func 253) #[] #[pt changecb 0,pt changecb1 0]] [bx changecb [iv changec] 3,bx changecb1 (C0 changec1) 37] [sl C0 aZ bB] ({r:VR // bR 12 R.1.length r}) (fun x=>ag [.slice (va x.1.q) R.1.length x.1.k,bv R.2]) (fun x=>(bx changecb [iv changec] 3::bx changecb1 (C0 changec1) 37::((vo C0 37 x.1 R.1)++([])))) (fun x=>[]):=by
 refine bZ Tryz.func252 fun X hX hr hD=>?_
 replace hR:=(B6j.eq_1 ..).symm.trans hR
 refine bN rfl (A8c 2 [] (fun i h=>[(2,pt i 0),(4,pt h 0)]) (fun _ _=>[.slice aZ bB.length bA,bv bC]) (fun _ _=>[.slice none 0 0,bv false]) 34 34 fun i h=>?_)
 refine ie (bN rfl (cE 3 [1] 8 rfl ?_))
 refine it rfl (B5u (f:=C0) (l:=bB.length) (c:=bB.length) Cel.zero C9d D4o.ok (fun _=>rfl) rfl rfl rfl opx ofv opx) fun ⟨r3,d⟩=>?_
 have:(List.replicate bB.length Cel.zero).length=bB.length:=List.length_replicate
 have:=bR.le d
 have:=bR.cap d
 have:(List.replicate bB.length Cel.zero).length=bB.length:=List.length_replicate
 refine bO 1 5 rfl ?_
 refine ie (bN rfl (pl2 3 [1] 10 12 rfl ?_))
 have g:bR 12 bB.length r3:=bR.cast d omc
 refine it rfl (B0k (f:=C0) (r:=r3) (n2:=bB.length) (z:=Cel.zero) (zs:=bB) (pre:=[bx h [.slice none 0 0,bv false] 34,bx i [.slice aZ bB.length bA,bv bC] 34,bx changecb [iv changec] 3,bx changecb1 (C0 changec1) 37]) (post:=[]) W9 (fun _=>rfl) (fun _=>rfl) rfl rfl rfl rfl ovd rfl rfl rfl (B8 0 rfl) (bR.cast d ojr) rfl) fun _=>?_
 refine B1j (L':=(bx h [.slice none 0 0,bv false] 34::bx i [.slice aZ bB.length bA,bv bC] 34::bx changecb [iv changec] 3::bx changecb1 (C0 changec1) 37::((vo C0 37 r3 bB)++([])))) rfl ?_
 refine P2 (v:=.slice (va r3.q) bB.length r3.k) 9 (congrArg (fun z=>some (Value.slice (va r3.q) z r3.k)) (List.length_replicate)) ?_
 refine P2 (v:=.slice (va r3.q) bB.length r3.k) 5 (congrArg (fun z=>some (Value.slice (va r3.q) z r3.k)) (List.length_replicate)) ?_
 refine P2 (v:=.slice (va r3.q) bB.length r3.k) 10 (congrArg (fun z=>some (Value.slice (va r3.q) z r3.k)) (List.length_replicate)) ?_
 refine ie (bN rfl (ip' 2 1 [(14,.func (.func 253) #[] #[pt changecb 0,pt changecb1 0]),(15,.slice (va r3.q) bB.length r3.k)] ?_))
 have j:=C9 hR;clear hR;obtain ⟨a,b,hR⟩:=j
 refine zc rfl (D8c b g) fun ⟨_,e⟩=>?_
 have:=bR.le e
 have:=bR.cap e
 refine P2 (v:=.slice (va r3.q) a.length r3.k) 9 (congrArg (fun z=>some (Value.slice (va r3.q) z r3.k)) (by rw [← b];exact (C3u ..).symm)) ?_
 refine P2 (v:=.slice (va r3.q) a.length r3.k) 5 (congrArg (fun z=>some (Value.slice (va r3.q) z r3.k)) (by rw [← b];exact (C3u ..).symm)) ?_
 refine P2 (v:=.slice (va r3.q) a.length r3.k) 10 (congrArg (fun z=>some (Value.slice (va r3.q) z r3.k)) (by rw [← b];exact (C3u ..).symm)) ?_
 refine P2 (v:=.slice (va r3.q) a.length r3.k) 15 (congrArg (fun z=>some (Value.slice (va r3.q) z r3.k)) (by rw [← b];exact (C3u ..).symm)) ?_
 refine ie (bN rfl (zrg 5 0 [3,2] [] (bx changecb [iv changec] 3::bx changecb1 (C0 changec1) 37::bx h [.slice (va r3.q) a.length r3.k,bv bC] 34::bx i [.slice aZ bB.length bA,bv bC] 34::((vo C0 37 r3 a)++([]))) ?_))
 subst hR
 refine ie (A8 ?_)
 exact cD hr hD (N4 rfl (D4 (us:=[.slice (va r3.q) a.length r3.k,bv bC]) A3w rfl 2 rfl rfl rfl)) ⟨r3,e⟩ bQ A9.nil
def B6v (bB:List Cel) (bC:Bool) (b:Int) (c:Cel):List Cel×Bool×Int :=
 (bif (!decide ((A1x bB bC b)=0)) then (([]:List Cel),false,(A1x bB bC b)) else (bif ((M3 c)||(!decide ((F5 c)=0))) then (([]:List Cel),false,221) else (bif ((decide (c.wide=1))&&(decide (b=((bB.length:Int) - 1)))) then (([]:List Cel),false,2) else (C2 (B6j bB bC b c) fun (a:List Cel×Bool)=>(a.1,a.2,0)))))
set_option maxHeartbeats 400000 in
theorem E4m {bB:List Cel} {bC:Bool} {d:Int} {c:Cel} {aZ:Option Addr} {bA:Nat} {R:List Cel×Bool×Int} (hR:B6v bB bC d c=R) (bF:bB.length≤9223372036854775807:=by exact bP) (bG:bB.length≤bA:=by exact bP):cI Tryz.prog 193 [ag [.slice aZ bB.length bA,bv bC],iv d,ag (C0 c)] [] [sl C0 aZ bB,P6,P7] ({r:VR // bR 12 R.1.length r}) (fun x=>.tuple #[ag [.slice (va x.1.q) R.1.length x.1.k,bv R.2.1],iv R.2.2]) (fun x=>((vo C0 37 x.1 R.1)++([]))) (fun x=>[]):=by
 refine bZ Tryz.func193 fun X hX hr hD=>?_
 replace hR:=(B6v.eq_1 ..).symm.trans hR
 refine bN rfl (D4x 3 2 [] (fun j h i=>[(3,pt j 0),(4,pt h 0),(5,pt i 0)]) (fun j h i=>[bx i (C0 c) 37,bx h [iv d] 3,bx j [.slice aZ bB.length bA,bv bC] 34]) (fun j h i=>?_))
 refine zra 2 [] (fun g=>[(6,pt g 0)]) (fun _=>[.slice none 0 0,bv false]) 34 fun g=>?_
 refine ie (bN rfl (bY 2 2 [3,2] [(9,ag [.slice aZ bB.length bA,bv bC]),(10,iv d)] ?_))
 refine zv rfl (C7a rfl) ?_
 refine bO 1 8 rfl ?_
 refine ie (A5 (B2 (bN rfl (bO 3 12 rfl ?_))))
 refine ie ?_
 refine zjn rfl hR ?_ ?_<;>clear hR<;>intro hR h5 o
 ·refine bN rfl (zru 4 [0] [(7,iv (A1x bB bC d))] 0 (bx g [.slice none 0 0,bv false] 34) ?_)
  subst hR
  refine ie (A8 ?_)
  exact cD hr hD (Q9 rfl (D4 (us:=[.slice none 0 0,bv false]) A3w rfl 0 rfl rfl rfl) (B0 rfl)) ⟨VR.nil,bR.nil⟩ bQ A9.nil
 have t:=C4y (l:=bB) (w:=bC) (c:=d) (by have:=o;omega);have y:=(Z0 t.1).2.1
 refine bN rfl (bY 1 7 [1] [(18,ag (C0 c))] ?_)
 refine zv rfl (A9f rfl) ?_
 refine bO 1 20 rfl ?_
 refine zio 4 1 20 24 (!decide ((F5 c)=0)) (fun u=>?_) ?_
 ·refine bY 1 3 [1] [(21,ag (C0 c))] ?_
  refine zv rfl (B7y rfl) ?_
  refine bO 2 24 rfl ?_
  exact zai 4 20 24 u
 refine bO 1 17 rfl ?_
 refine ie ?_
 refine zjb rfl hR ?_ ?_<;>clear hR<;>intro hR p
 ·have m:=bU p
  refine bN rfl (zru 3 [0] [(7,iv 221)] 0 (bx g [.slice none 0 0,bv false] 34) ?_)
  subst hR
  refine ie (A8 ?_)
  exact cD hr hD (Q9 rfl (D4 (us:=[.slice none 0 0,bv false]) A3w rfl 0 rfl rfl rfl) (B0 rfl)) ⟨VR.nil,bR.nil⟩ bQ A9.nil
 have m:=bU p
 have a0:0≤c.wide∧c.wide≤1:=by have q:=p;simp only [Bool.or_eq_false_iff,Bool.not_eq_false',decide_eq_true_eq] at q;exact D6b q.1 q.2
 refine bN rfl (cE 4 [1] 30 rfl ?_)
 refine zid 7 1 30 37 (decide (d=((bB.length:Int) - 1))) (fun s v=>?_) ?_
 ·refine pl2 4 [2,3] 31 34 rfl ?_
  refine ix rfl (Q6 rfl rfl rfl rfl opx) ?_
  refine bO 2 37 rfl ?_
  exact zai 5 30 37 s
 refine bO 1 26 rfl ?_
 refine ie ?_
 refine zja rfl hR ?_ ?_<;>clear hR<;>intro hR h9 n
 ·refine bN rfl (zru 3 [0] [(7,iv 2)] 0 (bx g [.slice none 0 0,bv false] 34) ?_)
  subst hR
  refine ie (A8 ?_)
  exact cD hr hD (Q9 rfl (D4 (us:=[.slice none 0 0,bv false]) A3w rfl 0 rfl rfl rfl) (B0 rfl)) ⟨VR.nil,bR.nil⟩ bQ A9.nil
 have z:c.wide=1→d+1<(bB.length:Int):=by intro q;have:=n;omega
 refine A4 (nx (bN rfl (bY 2 3 [3] [(39,ag [.slice aZ bB.length bA,bv bC]),(40,.func (.func 253) #[] #[pt h 0,pt i 0])] ?_)))
 have hQ:=C9 hR;clear hR;obtain ⟨a,b,hR⟩:=hQ
 refine zc rfl (C9b b bP bP bP ojv) fun ⟨e,f⟩=>?_
 have:=bR.le f
 have:=bR.cap f
 refine zru 2 [2] [(7,iv 0)] 2 (bx g [.slice (va e.q) a.1.length e.k,bv a.2] 34) ?_
 subst hR
 refine ie (A8 ?_)
 exact cD hr hD (Q9 rfl (D4 (us:=[.slice (va e.q) a.1.length e.k,bv a.2]) A3w rfl 2 rfl rfl rfl) (B0 rfl)) ⟨e,f⟩ bQ A9.nil
def Z8 (p1:Int) (p2:Int) (p3:Sty):Nat→List Cel→Nat→List Cel
 | 0,_,_=>[]
 | fu1+1,l1,a=>(bif (decide ((a:Int)<(((p2).toNat - (p1).toNat):Int))) then Z8 p1 p2 p3 fu1 (l1.set ((p1).toNat+a) (G8 p3)) (a+1) else l1)
def A5d (l:List Cel) (p1:Int) (p2:Int) (p3:Sty):List Cel :=
 Z8 p1 p2 p3 ((((p2).toNat - (p1).toNat) - 0)+1) l 0
theorem C1g (a b:Int) (s:Sty):∀ (c:Nat) (l:List Cel) (t:Nat),(b.toNat - a.toNat) - t<c→(Z8 a b s c l t).length=l.length
 | 0,_,_,h=>absurd h (Nat.not_lt_zero _)
 | c+1,l,t,h=>by
  unfold Z8
  cases h1:decide ((t:Int)<((b.toNat - a.toNat):Int)) with
  | true=>have:=of_decide_eq_true h1;rw [cond_true,C1g a b s c _ _ opx,List.length_set]
  | false=>rfl
theorem B3c (l:List Cel) (a b:Int) (s:Sty):(A5d l a b s).length=l.length:=C1g a b s _ l 0 opx
set_option maxHeartbeats 400000 in
theorem D1z {l:List Cel} {p1 p2:Int} {p3:Sty} {lr:VR} {p1b p2b p3b:Nat} {R:List Cel} (hR:A5d l p1 p2 p3=R) (d:bR 12 l.length lr:=by exact bP) (s:0≤p1∧p1≤p2∧p2≤(l.length:Int):=by exact bP):cI Tryz.prog 322 [.slice (va lr.q) l.length lr.k,pt p1b 0,pt p2b 0,pt p3b 0] (bx p1b [iv p1] 3::bx p2b [iv p2] 3::bx p3b (B3 p3) 26::((vo C0 37 lr l)++([]))) [] ({t:Unit // bR 12 R.length lr}) (fun x=>.tuple #[]) (fun x=>(bx p1b [iv p1] 3::bx p2b [iv p2] 3::bx p3b (B3 p3) 26::((vo C0 37 lr R)++([])))) (fun x=>[]):=by
 refine bZ Tryz.func322 fun X hX hr hD=>?_
 replace hR:=(A5d.eq_1 ..).symm.trans hR
 have:=bR.le d
 refine bN rfl (pl3 3 [0,1] 6 7 8 rfl ?_)
 have:=bR.cap d
 refine ix rfl (A9y (n':=((p2).toNat - (p1).toNat)) W9 rfl rfl ((p1).toNat) ((p2).toNat) lr.k (A0i rfl opx) (A0i rfl opx) A1n opx opx (Nat.le_refl _) rfl rfl) ?_
 refine cJ 2 10 11 rfl ?_
 refine ie (B2 ?_)
 refine A4v (un fun (f:Nat)=>un fun (e:List Cel) (a:Nat)=>((((p2).toNat - (p1).toNat) - a)<f∧Z8 p1 p2 p3 f e a=R∧bR 12 e.length lr∧e.length=l.length,[(0,.slice (va lr.q) e.length lr.k),(1,pt p1b 0),(3,pt p3b 0),(10,iv (((p2).toNat - (p1).toNat):Int)),(11,iv (a:Int))],(bx p1b [iv p1] 3::bx p2b [iv p2] 3::bx p3b (B3 p3) 26::((vo C0 37 lr e)++([]))),[],f)) ((((p2).toNat - (p1).toNat) - 0)+1,l,0) ⟨(Nat.lt_succ_self _),hR,d,(by rfl)⟩ bQ A9.nil ?_
 rintro ⟨f,e,a⟩ ⟨j,hR,b,n⟩
 have:=bR.le b
 obtain ⟨fu1,rfl⟩:∃ m,f=m+1:=⟨f - 1,by omega⟩
 replace hR:=(Z8.eq_2 ..).symm.trans hR
 refine bN rfl (bO 1 12 rfl ?_)
 refine ie (A5 ?_)
 refine zjd rfl hR ?_ ?_<;>clear hR<;>intro hR r h
 ·refine A4 (nx (A5 (B2 (bN rfl (bO 2 5 rfl ?_)))))
  refine ie ?_
  refine sh' 8 [(8,[bx p1b [iv p1] 3]),(8,[bx p2b [iv p2] 3]),(8,[bx p3b (B3 p3) 26]),(7,vo C0 37 lr e)] [] (bx p1b [iv p1] 3::bx p2b [iv p2] 3::bx p3b (B3 p3) 26::((vo C0 37 lr e)++([]))) (bV 8 0) oki rfl oki oki oki bQ A9.refl ?_
  refine zhp [0,2] 6 (bV 8 5) [(14,.slice (va lr.q) e.length lr.k),(16,iv (a:Int))] ?_
  refine zhl 1 (bx p1b [iv p1] 3::bx p2b [iv p2] 3::bx p3b (B3 p3) 26::((vo C0 37 lr e)++([]))) (bV 8 7) rfl (A2 (v:=iv p1) cA rfl rfl 0 rfl rfl) ?_
  refine zhk 3 (bV 8 15) rfl (B4 rfl rfl rfl rfl opx) ?_
  refine zhl 4 (bx p1b [iv p1] 3::bx p2b [iv p2] 3::bx p3b (B3 p3) 26::((vo C0 37 lr e)++([]))) (bV 8 31) rfl (D6 (us:=B3 p3) A6y rfl rfl 2 rfl rfl rfl) ?_
  refine zho 5 (bx p1b [iv p1] 3::bx p2b [iv p2] 3::bx p3b (B3 p3) 26::((vo C0 37 lr e)++([]))) (bV 8 63) rfl (Det.tri (A8n (B4e rfl) rfl rfl rfl rfl rfl A9.nil)) (fun _=>bQ) (fun _=>A9.nil) fun _=>?_
  obtain ⟨b3,g⟩:=bR.some b opx
  obtain ⟨i,p,o⟩:=lr
  obtain rfl:i=some b3:=g
  refine zhl 6 (bx p1b [iv p1] 3::bx p2b [iv p2] 3::bx p3b (B3 p3) 26::((vo C0 37 (⟨some b3,p,o⟩:VR) e)++([]))) (bV 8 127) rfl (X2 W9 rfl rfl rfl ((p1).toNat+a) opx opx) ?_
  refine zho 7 [bx p1b [iv p1] 3,bx p2b [iv p2] 3,bx p3b (B3 p3) 26] (bV 8 255) rfl (W7 (us:=C0 (G8 p3)) (u':=(G8 p3)) (c:=C0) (sz:=12) C0t (fun _=>rfl) rfl rfl rfl 3 rfl rfl rfl rfl ((p1).toNat+a) 0 rfl (gd Cel.zero opx) rfl rfl) (fun _=>bQ) (fun _=>A9.nil) fun _=>?_
  refine A2a oki ?_
  refine nx (A0 2 rfl (ix rfl (B4 rfl rfl rfl rfl opx) ?_))
  refine bO 1 11 rfl ?_
  refine A3 ?_
  exact A0d (z1:=(fu1+1,e,a)) (fu1,e.set ((p1).toNat+a) (G8 p3),a+1) ⟨opx,hR,(bR.cast b oom),owe⟩ (Nat.lt_succ_self _) bQ A9.nil
 subst hR
 refine G6 ?_
 exact zen hr hD (A0x rfl) ⟨(),b⟩ bQ A9.nil
def B6z (bB:List Cel) (bC:Bool) (changec:Int) (changec1:Int) (changec2:Sty):List Cel×Bool :=
 (C2 (A5d bB changec changec1 changec2) fun (a:List Cel)=>(a,bC))
set_option maxHeartbeats 400000 in
theorem C9p {bB:List Cel} {bC:Bool} {changec changec1:Int} {changec2:Sty} {aZ:Option Addr} {bA changecb changecb1 changecb2:Nat} {R:List Cel×Bool} (hR:B6z bB bC changec changec1 changec2=R) (o:bB.length≤9223372036854775807:=by exact bP) (n:bB.length≤bA:=by exact bP) (p:0≤changec∧changec≤changec1∧changec1≤(bB.length:Int):=by exact bP) (m:bB.length≤80:=by exact bP):cI Tryz.prog 252 [ag [.slice aZ bB.length bA,bv bC],.func (.func 322) #[] #[pt changecb 0,pt changecb1 0,pt changecb2 0]] [bx changecb [iv changec] 3,bx changecb1 [iv changec1] 3,bx changecb2 (B3 changec2) 26] [sl C0 aZ bB] ({r:VR // bR 12 R.1.length r}) (fun x=>ag [.slice (va x.1.q) R.1.length x.1.k,bv R.2]) (fun x=>(bx changecb [iv changec] 3::bx changecb1 [iv changec1] 3::bx changecb2 (B3 changec2) 26::((vo C0 37 x.1 R.1)++([])))) (fun x=>[]):=by
 refine bZ Tryz.func252 fun X hX hr hD=>?_
 replace hR:=(B6z.eq_1 ..).symm.trans hR
 refine bN rfl (A8c 2 [] (fun i h=>[(2,pt i 0),(4,pt h 0)]) (fun _ _=>[.slice aZ bB.length bA,bv bC]) (fun _ _=>[.slice none 0 0,bv false]) 34 34 fun i h=>?_)
 refine ie (bN rfl (cE 3 [1] 8 rfl ?_))
 refine it rfl (B5u (f:=C0) (l:=bB.length) (c:=bB.length) Cel.zero C9d D4o.ok (fun _=>rfl) rfl rfl rfl opx ofv opx) fun ⟨r3,d⟩=>?_
 have:(List.replicate bB.length Cel.zero).length=bB.length:=List.length_replicate
 have:=bR.le d
 have:=bR.cap d
 have:(List.replicate bB.length Cel.zero).length=bB.length:=List.length_replicate
 refine bO 1 5 rfl ?_
 refine ie (bN rfl (pl2 3 [1] 10 12 rfl ?_))
 have g:bR 12 bB.length r3:=bR.cast d omc
 refine it rfl (B0k (f:=C0) (r:=r3) (n2:=bB.length) (z:=Cel.zero) (zs:=bB) (pre:=[bx h [.slice none 0 0,bv false] 34,bx i [.slice aZ bB.length bA,bv bC] 34,bx changecb [iv changec] 3,bx changecb1 [iv changec1] 3,bx changecb2 (B3 changec2) 26]) (post:=[]) W9 (fun _=>rfl) (fun _=>rfl) rfl rfl rfl rfl ovd rfl rfl rfl (B8 0 rfl) (bR.cast d ojr) rfl) fun _=>?_
 refine B1j (L':=(bx h [.slice none 0 0,bv false] 34::bx i [.slice aZ bB.length bA,bv bC] 34::bx changecb [iv changec] 3::bx changecb1 [iv changec1] 3::bx changecb2 (B3 changec2) 26::((vo C0 37 r3 bB)++([])))) rfl ?_
 refine P2 (v:=.slice (va r3.q) bB.length r3.k) 9 (congrArg (fun z=>some (Value.slice (va r3.q) z r3.k)) (List.length_replicate)) ?_
 refine P2 (v:=.slice (va r3.q) bB.length r3.k) 5 (congrArg (fun z=>some (Value.slice (va r3.q) z r3.k)) (List.length_replicate)) ?_
 refine P2 (v:=.slice (va r3.q) bB.length r3.k) 10 (congrArg (fun z=>some (Value.slice (va r3.q) z r3.k)) (List.length_replicate)) ?_
 refine ie (bN rfl (ip' 2 1 [(14,.func (.func 322) #[] #[pt changecb 0,pt changecb1 0,pt changecb2 0]),(15,.slice (va r3.q) bB.length r3.k)] ?_))
 have j:=C9 hR;clear hR;obtain ⟨a,b,hR⟩:=j
 refine zc rfl (D1z b g) fun ⟨_,e⟩=>?_
 have:=bR.le e
 have:=bR.cap e
 refine P2 (v:=.slice (va r3.q) a.length r3.k) 9 (congrArg (fun z=>some (Value.slice (va r3.q) z r3.k)) (by rw [← b];exact (B3c ..).symm)) ?_
 refine P2 (v:=.slice (va r3.q) a.length r3.k) 5 (congrArg (fun z=>some (Value.slice (va r3.q) z r3.k)) (by rw [← b];exact (B3c ..).symm)) ?_
 refine P2 (v:=.slice (va r3.q) a.length r3.k) 10 (congrArg (fun z=>some (Value.slice (va r3.q) z r3.k)) (by rw [← b];exact (B3c ..).symm)) ?_
 refine P2 (v:=.slice (va r3.q) a.length r3.k) 15 (congrArg (fun z=>some (Value.slice (va r3.q) z r3.k)) (by rw [← b];exact (B3c ..).symm)) ?_
 refine ie (bN rfl (zrg 5 0 [4,3] [] (bx changecb [iv changec] 3::bx changecb1 [iv changec1] 3::bx changecb2 (B3 changec2) 26::bx h [.slice (va r3.q) a.length r3.k,bv bC] 34::bx i [.slice aZ bB.length bA,bv bC] 34::((vo C0 37 r3 a)++([]))) ?_))
 subst hR
 refine ie (A8 ?_)
 exact cD hr hD (N4 rfl (D4 (us:=[.slice (va r3.q) a.length r3.k,bv bC]) A3w rfl 3 rfl rfl rfl)) ⟨r3,e⟩ bQ A9.nil
def B1w (bB:List Cel) (bC:Bool) (s:Sty) (b:Int) (c:Int):List Cel×Bool×Int :=
 (C2 (B6z bB bC b c s) fun (a:List Cel×Bool)=>(a.1,(bC&&(decide (c<(bB.length:Int)))),0))
def A7y (bB:List Cel) (bC:Bool) (to_:Int) (s:Sty) (a:Int):List Cel×Bool×Int :=
 (bif ((decide (to_<(bB.length:Int)))&&(M3 (bB.getD ((to_).toNat) Cel.zero))) then B1w bB bC s a (to_+1) else B1w bB bC s a to_)
def B2j (bB:List Cel) (bC:Bool) (from_:Int) (to_:Int) (s:Sty):List Cel×Bool×Int :=
 (bif (!decide ((G5 bB bC)=0)) then (([]:List Cel),false,(G5 bB bC)) else (bif (((decide (from_<0))||(decide (to_<from_)))||(decide ((bB.length:Int)<to_))) then (([]:List Cel),false,2) else (bif (!decide ((D5 s)=0)) then (([]:List Cel),false,(D5 s)) else (bif (decide (from_=to_)) then (bB,bC,0) else (bif (M3 (bB.getD ((from_).toNat) Cel.zero)) then A7y bB bC to_ s (from_ - 1) else A7y bB bC to_ s from_)))))
set_option maxHeartbeats 400000 in
theorem D8g {bB:List Cel} {bC:Bool} {from_ to_:Int} {s:Sty} {aZ:Option Addr} {bA:Nat} {R:List Cel×Bool×Int} (hR:B2j bB bC from_ to_ s=R) (bF:bB.length≤9223372036854775807:=by exact bP) (bG:bB.length≤bA:=by exact bP):cI Tryz.prog 296 [ag [.slice aZ bB.length bA,bv bC],iv from_,iv to_,ag (B3 s)] [] [sl C0 aZ bB,P6,P7] ({t:Option Addr×Nat // R.1.length≤t.2∧R.1.length≤9223372036854775807}) (fun x=>.tuple #[ag [.slice x.1.1 R.1.length x.1.2,bv R.2.1],iv R.2.2]) (fun x=>[]) (fun x=>[sl C0 x.1.1 R.1]):=by
 refine bZ Tryz.func296 fun X hX hr hD=>?_
 replace hR:=(B2j.eq_1 ..).symm.trans hR
 refine bN rfl (D4x 3 3 [] (fun m h i=>[(4,pt m 0),(5,pt h 0),(6,pt i 0)]) (fun m h i=>[bx i [iv to_] 3,bx h [iv from_] 3,bx m [.slice aZ bB.length bA,bv bC] 34]) (fun m h i=>?_))
 refine A8c 3 [] (fun p j=>[(7,pt p 0),(8,pt j 0)]) (fun _ _=>(B3 s)) (fun _ _=>[.slice none 0 0,bv false]) 26 34 fun p j=>?_
 refine ie (A5 (bN rfl (bY 1 2 [4] [(14,ag [.slice aZ bB.length bA,bv bC])] ?_)))
 refine zv rfl (A7p rfl) ?_
 refine bO 1 10 rfl ?_
 refine ie (bN rfl (bO 2 17 rfl ?_))
 refine ie ?_
 refine zjn rfl hR ?_ ?_<;>clear hR<;>intro hR h6 z
 ·refine bN rfl (zru 4 [0] [(9,iv (G5 bB bC))] 0 (bx j [.slice none 0 0,bv false] 34) ?_)
  subst hR
  refine ie (A8 ?_)
  exact cD hr hD (Q9 rfl (D4 (us:=[.slice none 0 0,bv false]) A3w rfl 0 rfl rfl rfl) (B0 rfl)) (zq none 0) bQ c9
 have v:G5 bB bC=0:=by have:=z;omega
 have aa:=(Z0 v).2.1
 refine A4 (nx (bN rfl (cE 4 [4] 11 rfl ?_)))
 refine ie (A5 (bN rfl (cE 3 [3] 25 rfl ?_)))
 refine zir 4 5 25 29 (decide (to_<from_)) (fun g7 af=>?_) ?_
 ·refine cE 4 [2,3] 29 rfl ?_
  exact zai 2 25 29 g7
 refine bO 1 30 rfl ?_
 refine zio 4 0 30 34 (decide ((bB.length:Int)<to_)) (fun g8=>?_) ?_
 ·have a9:=bU g8
  refine cE 4 [2] 34 rfl ?_
  exact zai 2 30 34 g8
 refine ie ?_
 refine zjb rfl hR ?_ ?_<;>clear hR<;>intro hR h9
 ·have a2:=bU h9
  refine bN rfl (zru 3 [0] [(9,iv 2)] 0 (bx j [.slice none 0 0,bv false] 34) ?_)
  subst hR
  refine ie (A8 ?_)
  exact cD hr hD (Q9 rfl (D4 (us:=[.slice none 0 0,bv false]) A3w rfl 0 rfl rfl rfl) (B0 rfl)) (zq none 0) bQ c9
 have a2:=bU h9
 refine A4 (nx (A5 (bN rfl (bY 1 2 [1] [(36,ag (B3 s))] ?_))))
 refine zv rfl (V1 rfl) ?_
 refine bO 1 12 rfl ?_
 refine ie (bN rfl (bO 2 39 rfl ?_))
 refine ie ?_
 refine zjn rfl hR ?_ ?_<;>clear hR<;>intro hR ai a3
 ·refine bN rfl (zru 4 [0] [(9,iv (D5 s))] 0 (bx j [.slice none 0 0,bv false] 34) ?_)
  subst hR
  refine ie (A8 ?_)
  exact cD hr hD (Q9 rfl (D4 (us:=[.slice none 0 0,bv false]) A3w rfl 0 rfl rfl rfl) (B0 rfl)) (zq none 0) bQ c9
 refine A4 (nx (A5 (bN rfl (cE 3 [3,2] 44 rfl ?_))))
 refine ie ?_
 refine zjd rfl hR ?_ ?_<;>clear hR<;>intro hR aj a6
 ·refine bN rfl (zrg 3 0 [4,0] [(9,iv 0)] [bx j [.slice aZ bB.length bA,bv bC] 34,bx p (B3 s) 26,bx i [iv to_] 3,bx h [iv from_] 3,bx m [.slice aZ bB.length bA,bv bC] 34] ?_)
  subst hR
  refine ie (A8 ?_)
  exact cD hr hD (Q9 rfl (D4 (us:=[.slice aZ bB.length bA,bv bC]) A3w rfl 0 rfl rfl rfl) (B0 rfl)) (zq aZ bA) bQ c9
 refine A4 (nx (A9c (fun (b:Int)=>(A7y bB bC to_ s b=R∧b≤to_∧0≤b∧to_≤(bB.length:Int),[(4,pt m 0),(5,pt h 0),(6,pt i 0),(7,pt p 0),(8,pt j 0),(11,iv (bB.length:Int))],[bx j [.slice none 0 0,bv false] 34,bx p (B3 s) 26,bx i [iv to_] 3,bx h [iv b] 3,bx m [.slice aZ bB.length bA,bv bC] 34],[sl C0 aZ bB,P6,P7])) ?_ ?_))
 ·refine bN rfl (pl2 3 [4,3] 47 48 rfl ?_)
  refine L9 0 rfl opx fun ac l=>?_
  refine ix rfl (H9 W9 rfl rfl l rfl ((from_).toNat) opx opx) ?_
  refine ix rfl (K5 (us:=C0 (bB.getD ((from_).toNat) Cel.zero)) C0t rfl rfl (K2 (c:=C0) (sz:=12) l (fun _=>rfl) 0 rfl (gd Cel.zero opx)) rfl) ?_
  refine zv rfl (A9f rfl) ?_
  refine ie ?_
  refine zjb rfl hR ?_ ?_<;>clear hR<;>intro hR a0
  ·have ad:=D7s v opx a0
   refine A0 3 rfl (cE 1 [3] 52 rfl ?_)
   refine ix rfl (Q6 rfl rfl rfl rfl opx) ?_
   refine zru 1 [3] [] 3 (bx h [iv (from_ - 1)] 3) ?_
   refine A3 ?_
   exact X5 (from_ - 1) ⟨hR,opx⟩ bQ A9.refl
  refine A4 ?_
  exact X5 from_ ⟨hR,opx⟩ bQ A9.refl
 intro b
 rintro ⟨hR,hj⟩
 replace hR:=(A7y.eq_1 ..).symm.trans hR
 refine A9c (fun (d:Int)=>(B1w bB bC s b d=R∧d≤(bB.length:Int)∧0≤b∧b≤d,[(4,pt m 0),(5,pt h 0),(6,pt i 0),(7,pt p 0),(8,pt j 0),(11,iv (bB.length:Int))],[bx j [.slice none 0 0,bv false] 34,bx p (B3 s) 26,bx i [iv d] 3,bx h [iv b] 3,bx m [.slice aZ bB.length bA,bv bC] 34],[sl C0 aZ bB,P6,P7])) ?_ ?_
 ·refine bN rfl (cE 4 [2] 57 rfl ?_)
  refine zid 7 0 57 64 (M3 (bB.getD ((to_).toNat) Cel.zero)) (fun y a5=>?_) ?_
  ·refine pl2 3 [4,2] 59 60 rfl ?_
   refine L9 0 rfl opx fun a8 o=>?_
   refine ix rfl (H9 W9 rfl rfl o rfl ((to_).toNat) opx opx) ?_
   refine ix rfl (K5 (us:=C0 (bB.getD ((to_).toNat) Cel.zero)) C0t rfl rfl (K2 (c:=C0) (sz:=12) o (fun _=>rfl) 0 rfl (gd Cel.zero opx)) rfl) ?_
   refine zv rfl (A9f rfl) ?_
   refine bO 1 64 rfl ?_
   exact zai 7 57 64 y
  refine ie ?_
  refine zjb rfl hR ?_ ?_<;>clear hR<;>intro hR w
  ·have u:=bU w
   refine A0 3 rfl (cE 1 [2] 65 rfl ?_)
   refine ix rfl (B4 rfl rfl rfl rfl opx) ?_
   refine zru 1 [2] [] 2 (bx i [iv (to_+1)] 3) ?_
   refine A3 ?_
   exact X5 (to_+1) ⟨hR,opx⟩ bQ A9.refl
  have u:=bU w
  refine A4 ?_
  exact X5 to_ ⟨hR,opx⟩ bQ A9.refl
 intro d
 rintro ⟨hR,ae⟩
 replace hR:=(B1w.eq_1 ..).symm.trans hR
 refine bN rfl (bY 2 3 [4] [(67,ag [.slice aZ bB.length bA,bv bC]),(68,.func (.func 322) #[] #[pt h 0,pt i 0,pt p 0])] ?_)
 have hQ:=C9 hR;clear hR;obtain ⟨a,f,hR⟩:=hQ
 refine zc rfl (C9p f bP bP bP ojv) fun ⟨e,g⟩=>?_
 have:=bR.le g
 have:=bR.cap g
 refine zra 2 [0] (fun n=>[(13,pt n 0)]) (fun _=>[.slice (va e.q) a.1.length e.k,bv a.2]) 34 fun n=>?_
 refine ie (bN rfl (cE 3 [5] 72 rfl ?_))
 refine zia 4 2 72 76 (decide (d<(bB.length:Int))) (fun a1=>?_) ?_
 ·refine cE 4 [2] 76 rfl ?_
  exact A3 (O6 2 72 76 a1 A9.refl bQ rfl rfl rfl rfl rfl)
 refine zru 2 [0] [] 0 (bx n [.slice (va e.q) a.1.length e.k,bv (bC&&(decide (d<(bB.length:Int))))] 34) ?_
 refine ie (bN rfl (zrg 3 0 [0,4] [(9,iv 0)] (bx n [.slice (va e.q) a.1.length e.k,bv (bC&&(decide (d<(bB.length:Int))))] 34::bx h [iv b] 3::bx i [iv d] 3::bx p (B3 s) 26::bx j [.slice (va e.q) a.1.length e.k,bv (bC&&(decide (d<(bB.length:Int))))] 34::bx m [.slice aZ bB.length bA,bv bC] 34::((vo C0 37 e a.1)++([]))) ?_))
 refine ie (A8 (B4n [bx n [.slice (va e.q) a.1.length e.k,bv (bC&&(decide (d<(bB.length:Int))))] 34,bx h [iv b] 3,bx i [iv d] 3,bx p (B3 s) 26,bx j [.slice (va e.q) a.1.length e.k,bv (bC&&(decide (d<(bB.length:Int))))] 34,bx m [.slice aZ bB.length bA,bv bC] 34] [] (T:=37) (c:=C0) (r:=e) (xs:=a.1) g omm ?_))
 have:=bR.cap g
 subst hR
 exact cD hr hD (Q9 rfl (D4 (us:=[.slice (va e.q) a.1.length e.k,bv (bC&&(decide (d<(bB.length:Int))))]) A3w rfl 4 rfl rfl rfl) (B0 rfl)) (zq (va e.q) e.k) bQ c9
theorem F0v:EqT Tryz.prog 182 I8:=EqT.of 20 rfl oki oki (fun _ _=>by kernel_rfl) I8.inj
def C2p (l:List (Rwc Cel)) (b:List Cel) (a:Bool) (p2:Int):List (Rwc Cel) :=
 (l.set ((p2).toNat) (⟨b,a⟩:Rwc Cel))
theorem D5d {l:List (Rwc Cel)} {b:List Cel} {a:Bool} {p2:Int} {lr:VR} {g:List Rwq} {p1b:Nat} {d:Option Addr} {p1Cellsk p2b:Nat} {R:List (Rwc Cel)} (hR:C2p l b a p2=R) (f:bR 2 l.length lr:=by exact bP) (e:F1 g l:=by exact bP) (i:b.length≤9223372036854775807:=by exact bP) (h:b.length≤p1Cellsk:=by exact bP) (p:0≤p2∧p2<(l.length:Int):=by exact bP):cI Tryz.prog 265 [.slice (va lr.q) l.length lr.k,pt p1b 0,pt p2b 0] (bx p1b [.slice d b.length p1Cellsk,bv a] 34::bx p2b [iv p2] 3::((vo G2 34 lr g)++([]))) [E7 C0 g l,sl C0 d b] ({t:List Rwq // bR 2 R.length lr∧F1 t R}) (fun x=>.tuple #[]) (fun x=>(bx p1b [.slice d b.length p1Cellsk,bv a] 34::bx p2b [iv p2] 3::((vo G2 34 lr x.1)++([])))) (fun x=>[E7 C0 x.1 R]):=by
 refine bZ Tryz.func265 fun X hX hr hD=>?_
 replace hR:=(C2p.eq_1 ..).symm.trans hR
 have:=bR.le f
 have:=e.1
 refine A0 5 rfl (bY 3 2 [1,0] [(4,.slice (va lr.q) l.length lr.k),(5,iv p2),(6,ag [.slice d b.length p1Cellsk,bv a])] ?_)
 obtain ⟨b1,m⟩:=bR.some f opx
 obtain ⟨n,s,o⟩:=lr
 obtain rfl:n=some b1:=m
 refine D7 (C7p (k:=(p2).toNat) e 0 rfl (by have:=e.1;omega)) ?_
 have:=B8c e (k:=(p2).toNat) (by have:=e.1;omega)
 refine ix rfl (X2 B1r rfl rfl rfl ((p2).toNat) opx (by have:=e.1;omega)) ?_
 have j:F1 (g.set ((p2).toNat) (⟨⟨d,b.length,p1Cellsk⟩,a⟩:Rwq)) (l.set ((p2).toNat) (⟨b,a⟩:Rwc Cel)):=F1.set e ((p2).toNat) ⟨rfl,okl,okl⟩ rfl
 refine D7 (E5e ((p2).toNat) (r:=(⟨⟨d,b.length,p1Cellsk⟩,a⟩:Rwq)) (x:=(⟨b,a⟩:Rwc Cel)) (B8 1 rfl) (B8 2 rfl)) ?_
 refine it rfl (W7 (us:=[.slice d b.length p1Cellsk,bv a]) (u':=(⟨⟨d,b.length,p1Cellsk⟩,a⟩:Rwq)) (c:=G2) (sz:=2) A3w (fun _=>rfl) rfl rfl rfl 2 rfl rfl rfl rfl ((p2).toNat) 0 rfl (gd cF (by have:=e.1;omega)) rfl rfl) fun _=>?_
 subst hR
 refine A3 ?_
 exact zen hr hD (A0x rfl) ⟨(g.set ((p2).toNat) (⟨⟨d,b.length,p1Cellsk⟩,a⟩:Rwq)),⟨(bR.cast f oom),j⟩⟩ bQ c9
def B7k (g:List (Rwc Cel)) (b:List Cel) (a:Bool) (changec:Int):List (Rwc Cel) :=
 (C2 (C2p g b a changec) fun (c:List (Rwc Cel))=>c)
theorem ojw {p:Prop} (h:p:=by first|(rw [List.length_replicate];done)|(simp only [List.length_replicate];omega)):p:=h
set_option maxHeartbeats 400000 in
theorem C9c {g:List (Rwc Cel)} {a:List Cel} {b:Bool} {changec:Int} {gq:Option Addr} {grs:List Rwq} {gk changecb:Nat} {c:Option Addr} {changecCellsk changecb1:Nat} {R:List (Rwc Cel)} (hR:B7k g a b changec=R) (e:F1 grs g:=by exact bP) (a1:g.length≤9223372036854775807:=by exact bP) (y:g.length≤gk:=by exact bP) (j:a.length≤9223372036854775807:=by exact bP) (i:a.length≤changecCellsk:=by exact bP) (hi:0≤changec∧changec<(g.length:Int):=by exact bP) (w:g.length≤40:=by exact bP):cI Tryz.prog 264 [.slice gq g.length gk,.func (.func 265) #[] #[pt changecb 0,pt changecb1 0]] [bx changecb [.slice c a.length changecCellsk,bv b] 34,bx changecb1 [iv changec] 3] [sl G2 gq grs,E7 C0 grs g,sl C0 c a] ({t:VR×List Rwq // bR 2 R.length t.1∧F1 t.2 R}) (fun x=>.slice (va x.1.1.q) R.length x.1.1.k) (fun x=>(bx changecb [.slice c a.length changecCellsk,bv b] 34::bx changecb1 [iv changec] 3::((vo G2 34 x.1.1 x.1.2)++([])))) (fun x=>[E7 C0 x.1.2 R]):=by
 refine bZ Tryz.func264 fun X hX hr hD=>?_
 replace hR:=(B7k.eq_1 ..).symm.trans hR
 have:=e.1
 refine bN rfl (pp0 1 rfl ?_)
 refine ie (bN rfl (bO 2 7 rfl ?_))
 refine D7 (q:=E7 C0 (List.replicate g.length cF) (List.replicate g.length (bS:Rwc Cel))) E5j ?_
 refine it rfl (C6d (α:=Cel) (l:=g.length) (cc:=g.length) E4u C2i.ok rfl rfl rfl opx ofv opx) fun ⟨r1,m⟩=>?_
 have:(List.replicate g.length cF).length=g.length:=List.length_replicate
 have:=bR.le m
 have:=bR.cap m
 have:(List.replicate g.length (bS:Rwc Cel)).length=g.length:=List.length_replicate
 refine bO 1 5 rfl ?_
 refine ie (bN rfl (cJ 2 9 10 rfl ?_))
 have o:bR 2 g.length r1:=bR.cast m ojw
 refine it rfl (B0k (f:=G2) (r:=r1) (n2:=g.length) (z:=cF) (zs:=grs) (pre:=[bx changecb [.slice c a.length changecCellsk,bv b] 34,bx changecb1 [iv changec] 3]) (post:=[]) B1r (fun _=>rfl) (fun _=>rfl) rfl rfl rfl rfl ovd rfl (by first|rfl|(rw [e.1])) rfl (B8 1 rfl) (bR.cast m (by simp only [List.length_replicate])) (by first|exact e.1|(rw [e.1];omega))) fun _=>?_
 refine B1j (L':=(bx changecb [.slice c a.length changecCellsk,bv b] 34::bx changecb1 [iv changec] 3::((vo G2 34 r1 grs)++([])))) rfl ?_
 refine P2 (v:=.slice (va r1.q) g.length r1.k) 8 (congrArg (fun z=>some (Value.slice (va r1.q) z r1.k)) (List.length_replicate)) ?_
 refine P2 (v:=.slice (va r1.q) g.length r1.k) 5 (congrArg (fun z=>some (Value.slice (va r1.q) z r1.k)) (List.length_replicate)) ?_
 refine P2 (v:=.slice (va r1.q) g.length r1.k) 9 (congrArg (fun z=>some (Value.slice (va r1.q) z r1.k)) (List.length_replicate)) ?_
 refine ie (bN rfl (ip' 2 1 [(12,.func (.func 265) #[] #[pt changecb 0,pt changecb1 0]),(13,.slice (va r1.q) g.length r1.k)] ?_))
 have hQ:=C9 hR;clear hR;obtain ⟨h,d,hR⟩:=hQ
 refine zc rfl (D5d d o e) fun ⟨u,p⟩=>?_
 try dsimp only at p
 obtain ⟨n,s⟩:=p
 have:=bR.le n
 have:=bR.cap n
 have:=s.1
 refine P2 (v:=.slice (va r1.q) h.length r1.k) 8 (congrArg (fun z=>some (Value.slice (va r1.q) z r1.k)) (by rw [← d];exact (List.length_set ..).symm)) ?_
 refine P2 (v:=.slice (va r1.q) h.length r1.k) 5 (congrArg (fun z=>some (Value.slice (va r1.q) z r1.k)) (by rw [← d];exact (List.length_set ..).symm)) ?_
 refine P2 (v:=.slice (va r1.q) h.length r1.k) 9 (congrArg (fun z=>some (Value.slice (va r1.q) z r1.k)) (by rw [← d];exact (List.length_set ..).symm)) ?_
 refine P2 (v:=.slice (va r1.q) h.length r1.k) 13 (congrArg (fun z=>some (Value.slice (va r1.q) z r1.k)) (by rw [← d];exact (List.length_set ..).symm)) ?_
 refine ie (bN rfl (bO 2 4 rfl ?_))
 subst hR
 refine ie (A8 ?_)
 exact cD hr hD (N4 rfl (B0 rfl)) ⟨(r1,u),⟨n,s⟩⟩ bQ c9
def A6o (g:List (Rwc Cel)) (i:Int) (bB:List Cel) (bC:Bool):List (Rwc Cel)×Int :=
 (bif (!decide ((R8 g)=0)) then (([]:List (Rwc Cel)),(R8 g)) else (bif ((decide (i<0))||(decide ((g.length:Int)≤i))) then (([]:List (Rwc Cel)),2) else (bif (!decide ((G5 bB bC)=0)) then (([]:List (Rwc Cel)),(G5 bB bC)) else (bif (!decide ((bB.length:Int)=(X4 g))) then (([]:List (Rwc Cel)),2) else (C2 (B7k g bB bC i) fun (a:List (Rwc Cel))=>(a,0))))))
set_option maxHeartbeats 400000 in
theorem B7g {g:List (Rwc Cel)} {i:Int} {bB:List Cel} {bC:Bool} {gq:Option Addr} {grs:List Rwq} {gk:Nat} {aZ:Option Addr} {bA:Nat} {R:List (Rwc Cel)×Int} (hR:A6o g i bB bC=R) (a:F1 grs g:=by exact bP) (z:g.length≤9223372036854775807:=by exact bP) (r:g.length≤gk:=by exact bP) (bF:bB.length≤9223372036854775807:=by exact bP) (bG:bB.length≤bA:=by exact bP):cI Tryz.prog 209 [.slice gq g.length gk,iv i,ag [.slice aZ bB.length bA,bv bC]] [] [sl G2 gq grs,E7 C0 grs g,sl C0 aZ bB,P6,P7] ({t:VR×List Rwq // bR 2 R.1.length t.1∧F1 t.2 R.1}) (fun x=>.tuple #[.slice (va x.1.1.q) R.1.length x.1.1.k,iv R.2]) (fun x=>((vo G2 34 x.1.1 x.1.2)++([]))) (fun x=>[E7 C0 x.1.2 R.1]):=by
 refine bZ Tryz.func209 fun X hX hr hD=>?_
 replace hR:=(A6o.eq_1 ..).symm.trans hR
 have:=a.1
 refine bN rfl (A8c 4 [] (fun m j=>[(4,pt m 0),(5,pt j 0)]) (fun _ _=>[iv i]) (fun _ _=>[.slice aZ bB.length bA,bv bC]) 3 34 fun m j=>?_)
 refine ie (A5 (bN rfl (bO 1 10 rfl ?_)))
 refine zv rfl (B6o rfl a) ?_
 refine bO 1 8 rfl ?_
 refine ie (bN rfl (bO 2 13 rfl ?_))
 refine ie ?_
 refine zjn rfl hR ?_ ?_<;>clear hR<;>intro hR h3 l
 ·refine bN rfl (cJ 3 6 7 rfl ?_)
  subst hR
  refine ie (A8 ?_)
  exact cD hr hD (Q9 rfl (B0 rfl) (B0 rfl)) ⟨(VR.nil,([]:List Rwq)),⟨bR.nil,F1.none⟩⟩ bQ c9
 have o:=C1l (by have:=l;omega:R8 g=0)
 refine A4 (nx (A5 (bN rfl (cE 3 [1] 17 rfl ?_))))
 refine zir 5 0 17 22 (decide ((g.length:Int)≤i)) (fun y s=>?_) ?_
 ·refine cE 5 [1] 22 rfl ?_
  exact zai 2 17 22 y
 refine ie ?_
 refine zjo rfl hR ?_ ?_<;>clear hR<;>intro hR h5 w
 ·refine bN rfl (cJ 2 6 7 rfl ?_)
  subst hR
  refine ie (A8 ?_)
  exact cD hr hD (Q9 rfl (B0 rfl) (B0 rfl)) ⟨(VR.nil,([]:List Rwq)),⟨bR.nil,F1.none⟩⟩ bQ c9
 refine A4 (nx (A5 (bN rfl (bY 1 2 [0] [(23,ag [.slice aZ bB.length bA,bv bC])] ?_))))
 refine zv rfl (A7p rfl) ?_
 refine bO 1 9 rfl ?_
 refine ie (bN rfl (bO 2 26 rfl ?_))
 refine ie ?_
 refine zjn rfl hR ?_ ?_<;>clear hR<;>intro hR h6 n
 ·refine bN rfl (cJ 3 6 7 rfl ?_)
  subst hR
  refine ie (A8 ?_)
  exact cD hr hD (Q9 rfl (B0 rfl) (B0 rfl)) ⟨(VR.nil,([]:List Rwq)),⟨bR.nil,F1.none⟩⟩ bQ c9
 refine A4 (nx (A5 (sd 6 rfl oki rfl ?_)))
 refine pg2 4 [0] 30 31 rfl ?_
 refine zvd rfl (B4q rfl a) ?_
 refine pd1 1 33 rfl ?_
 refine de ?_
 refine zjn rfl hR ?_ ?_<;>clear hR<;>intro hR h7 u
 ·refine bN rfl (cJ 2 6 7 rfl ?_)
  subst hR
  refine ie (A8 ?_)
  exact cD hr hD (Q9 rfl (B0 rfl) (B0 rfl)) ⟨(VR.nil,([]:List Rwq)),⟨bR.nil,F1.none⟩⟩ bQ c9
 refine A4 (nx (bN rfl (ip' 2 3 [(34,.slice gq g.length gk),(35,.func (.func 265) #[] #[pt j 0,pt m 0])] ?_)))
 have v:=C9 hR;clear hR;obtain ⟨d,b,hR⟩:=v
 refine zc rfl (C9c b a bP bP bP bP ojv) fun ⟨⟨p,h⟩,f⟩=>?_
 try dsimp only at f
 obtain ⟨c,e⟩:=f
 have:=bR.le c
 have:=bR.cap c
 have:=e.1
 refine cJ 2 6 7 rfl ?_
 subst hR
 refine ie (A8 ?_)
 exact cD hr hD (Q9 rfl (B0 rfl) (B0 rfl)) ⟨(p,h),⟨c,e⟩⟩ bQ c9
def A3k (g:List (Rwc Cel)) (p:Plc):Bool :=
 (((((decide ((0:Int)≤p.row))&&(decide (p.row<(g.length:Int))))&&(decide ((0:Int)≤p.col)))&&(decide (p.col≤(X4 g))))||(decide (p={Plc.zero with row:=(g.length:Int)})))
theorem D0t {g:List (Rwc Cel)} {p:Plc} (h:A3k g p=true):0≤p.row:=by
 unfold A3k at h
 simp only [Bool.or_eq_true,Bool.and_eq_true,decide_eq_true_eq] at h
 rcases h with h | h
 ·exact h.1.1.1
 ·rw [h];exact Int.natCast_nonneg _
theorem C3y {g:List (Rwc Cel)} {p:Plc} {gq:Option Addr} {grs:List Rwq} {gk:Nat} {R:Bool} (hR:A3k g p=R) (c:F1 grs g:=by exact bP) (l:g.length≤9223372036854775807:=by exact bP) (n:g.length≤gk:=by exact bP):J5 Tryz.prog 294 [.slice gq g.length gk,ag (I8 p)] [sl G2 gq grs,E7 C0 grs g] (bv R):=by
 refine bZ Tryz.func294 fun X hX hr hD=>?_
 replace hR:=(A3k.eq_1 ..).symm.trans hR
 have:=c.1
 refine bN rfl (zra 2 [] (fun f=>[(3,pt f 0)]) (fun _=>(I8 p)) 182 fun f=>?_)
 refine ie (sd 23 rfl oki rfl ?_)
 refine pg1 4 [0] 9 rfl ?_
 refine zdd 6 13 9 15 (decide (p.row<(g.length:Int))) (fun k m=>?_) ?_
 ·refine pg1 6 [0] 15 rfl ?_
  exact zad 2 9 15 k
 refine pd1 1 16 rfl ?_
 refine zda 4 8 16 20 (decide ((0:Int)≤p.col)) (fun e=>?_) ?_
 ·have i:=bU e
  refine pg1 4 [0] 20 rfl ?_
  exact zad 2 16 20 e
 refine pd1 1 21 rfl ?_
 refine zda 6 1 21 27 (decide (p.col≤(X4 g))) (fun h=>?_) ?_
 ·have o:=bU h
  refine pg2 3 [0] 23 24 rfl ?_
  refine zvd rfl (B4q rfl c) ?_
  refine pd1 2 27 rfl ?_
  exact zad 5 21 27 h
 refine pd1 1 5 rfl ?_
 refine de (bN rfl (bO 2 29 rfl ?_))
 refine zio 6 1 29 35 (decide (p={Plc.zero with row:=(g.length:Int)})) (fun d=>?_) ?_
 ·have j:=bU d
  refine bY 4 2 [0] [(30,ag (I8 p)),(33,ag (I8 ({Plc.zero with row:=(g.length:Int)})))] ?_
  refine ix rfl (C0c (a:=p) (b:={Plc.zero with row:=(g.length:Int)}) F0v rfl rfl rfl) ?_
  refine bO 1 35 rfl ?_
  exact zai 5 29 35 d
 refine bO 1 4 rfl ?_
 subst hR
 refine ie (A8 ?_)
 exact G0 hr hD
def A1v (p4:Sty) (f:List (Rwc Cel)) (k:Int) (d:Int) (a:List (Rwc Cel)→Int→List (Rwc Cel)) (e:Int):List (Rwc Cel) :=
 (C2 (B2j ((f.getD ((k).toNat) bS).l) ((f.getD ((k).toNat) bS).b) d e p4) fun (c:List Cel×Bool×Int)=>a (f.set ((k).toNat) (⟨c.1,c.2.1⟩:Rwc Cel)) (k+1))
def A1w (p2:Plc) (p3:List (Rwc Cel)) (p4:Sty) (c:List (Rwc Cel)) (k:Int) (a:List (Rwc Cel)→Int→List (Rwc Cel)) (b:Int):List (Rwc Cel) :=
 (bif (decide (k=p2.row)) then A1v p4 c k b a p2.col else A1v p4 c k b a (X4 p3))
def P9 (p1:Plc) (p2:Plc) (p3:List (Rwc Cel)) (p4:Sty):Nat→List (Rwc Cel)→Int→List (Rwc Cel)
 | 0,_,_=>[]
 | fu1+1,l1,k=>(bif ((decide (k≤p2.row))&&(decide (k<(l1.length:Int)))) then (bif (decide (k=p1.row)) then A1w p2 p3 p4 l1 k (P9 p1 p2 p3 p4 fu1) p1.col else A1w p2 p3 p4 l1 k (P9 p1 p2 p3 p4 fu1) 0) else l1)
def A8d (l:List (Rwc Cel)) (p1:Plc) (p2:Plc) (p3:List (Rwc Cel)) (p4:Sty):List (Rwc Cel) :=
 P9 p1 p2 p3 p4 (((l.length:Int) - p1.row).toNat+1) l p1.row
theorem B8s (a b:Plc) (g:List (Rwc Cel)) (s:Sty):∀ (c:Nat) (l:List (Rwc Cel)) (k:Int),(((l.length:Int) - k)).toNat<c→(P9 a b g s c l k).length=l.length
 | 0,_,_,h=>absurd h (Nat.not_lt_zero _)
 | c+1,l,k,h=>by
  unfold P9
  cases h1:(decide (k≤b.row)&&decide (k<(l.length:Int))) with
  | true =>
   simp only [Bool.and_eq_true,decide_eq_true_eq] at h1
   have q:∀ (r:Rwc Cel),(P9 a b g s c (l.set k.toNat r) (k+1)).length=l.length:=fun r=>by rw [B8s a b g s c _ _ (by rw [List.length_set];omega),List.length_set]
   rw [cond_true]
   cases decide (k=a.row)<;>simp only [cond_true,cond_false]<;>unfold A1w<;>cases decide (k=b.row)<;>simp only [cond_true,cond_false]<;>unfold A1v C2<;>exact q _
  | false=>rfl
theorem B4j (l:List (Rwc Cel)) (a b:Plc) (g:List (Rwc Cel)) (s:Sty):(A8d l a b g s).length=l.length:=B8s a b g s _ l _ opx
set_option maxHeartbeats 400000 in
theorem C8q {l:List (Rwc Cel)} {p1 p2:Plc} {p3:List (Rwc Cel)} {p4:Sty} {lr:VR} {w:List Rwq} {p1b p2b p3b:Nat} {f:Option Addr} {g:List Rwq} {p3k p4b:Nat} {R:List (Rwc Cel)} (hR:A8d l p1 p2 p3 p4=R) (a2:bR 2 l.length lr:=by exact bP) (o:F1 w l:=by exact bP) (i:F1 g p3:=by exact bP) (aa:p3.length≤9223372036854775807:=by exact bP) (a9:p3.length≤p3k:=by exact bP) (hi:0≤p1.row∧0<p3.length:=by exact bP):cI Tryz.prog 295 [.slice (va lr.q) l.length lr.k,pt p1b 0,pt p2b 0,pt p3b 0,pt p4b 0] (bx p1b (I8 p1) 182::bx p2b (I8 p2) 182::bx p3b [.slice f p3.length p3k] 38::bx p4b (B3 p4) 26::((vo G2 34 lr w)++([]))) [E7 C0 w l,sl G2 f g,E7 C0 g p3,P6,P7] ({t:List Rwq // bR 2 R.length lr∧F1 t R}) (fun x=>.tuple #[]) (fun x=>(bx p1b (I8 p1) 182::bx p2b (I8 p2) 182::bx p3b [.slice f p3.length p3k] 38::bx p4b (B3 p4) 26::((vo G2 34 lr x.1)++([])))) (fun x=>[E7 C0 x.1 R]):=by
 refine bZ Tryz.func295 fun X hX hr hD=>?_
 replace hR:=(A8d.eq_1 ..).symm.trans hR
 have:=bR.le a2
 have:=o.1
 have:=i.1
 refine bN rfl (cE 3 [0] 6 rfl ?_)
 refine ie (B2 ?_)
 refine A4v (un fun (fu:Nat)=>un fun (j:List (Rwc Cel))=>un fun (e:List Rwq) (k:Int)=>(((j.length:Int) - k).toNat<fu∧P9 p1 p2 p3 p4 fu j k=R∧bR 2 j.length lr∧F1 e j∧0≤k∧j.length=l.length,[(0,.slice (va lr.q) j.length lr.k),(1,pt p1b 0),(2,pt p2b 0),(3,pt p3b 0),(4,pt p4b 0),(6,iv k)],(bx p1b (I8 p1) 182::bx p2b (I8 p2) 182::bx p3b [.slice f p3.length p3k] 38::bx p4b (B3 p4) 26::((vo G2 34 lr e)++([]))),[E7 C0 w l,sl G2 f g,E7 C0 g p3,P6,P7,E7 C0 e j],fu)) ((((l.length:Int) - p1.row).toNat+1),l,w,p1.row) ⟨(Nat.lt_succ_self _),hR,a2,o,opx,(by rfl)⟩ bQ c9 ?_
 rintro ⟨fu,j,e,k⟩ ⟨ah,hR,p,d,hk,ac⟩
 have:=bR.le p
 have:=d.1
 obtain ⟨fu1,rfl⟩:∃ m,fu=m+1:=⟨fu - 1,by omega⟩
 replace hR:=(P9.eq_2 ..).symm.trans hR
 refine A5 (bN rfl (cE 5 [1] 15 rfl ?_))
 refine zid 5 0 15 20 (decide (k<(j.length:Int))) (fun g2 ak=>?_) ?_
 ·refine bO 5 20 rfl ?_
  exact A3 (O6 2 15 20 g2 A9.refl bQ rfl rfl rfl rfl rfl)
 refine ie ?_
 refine zja rfl hR ?_ ?_<;>clear hR<;>intro hR h3 ae
 ·refine A4 (nx (A5 (B2 (bN rfl (cE 1 [2] 23 rfl ?_)))))
  refine zv rfl (B4q rfl i) ?_
  refine cJ 2 7 8 rfl ?_
  refine ie (A9c (fun (h:Int)=>(A1w p2 p3 p4 j k (P9 p1 p2 p3 p4 fu1) h=R,[(0,.slice (va lr.q) j.length lr.k),(1,pt p1b 0),(2,pt p2b 0),(3,pt p3b 0),(4,pt p4b 0),(6,iv k),(7,iv h),(8,iv (X4 p3))],(bx p1b (I8 p1) 182::bx p2b (I8 p2) 182::bx p3b [.slice f p3.length p3k] 38::bx p4b (B3 p4) 26::((vo G2 34 lr e)++([]))),[E7 C0 w l,sl G2 f g,E7 C0 g p3,P6,P7,E7 C0 e j])) ?_ ?_)
  ·refine bN rfl (cE 4 [0] 28 rfl ?_)
   refine ie ?_
   refine zjd rfl hR ?_ ?_<;>clear hR<;>intro hR h4 ab
   ·refine A0 3 rfl (cE 3 [0] 7 rfl ?_)
    refine A3 ?_
    exact X5 p1.col hR bQ A9.refl
   refine A4 ?_
   exact X5 0 hR bQ A9.refl
  intro h
  rintro hR
  replace hR:=(A1w.eq_1 ..).symm.trans hR
  refine A9c (fun (a0:Int)=>(A1v p4 j k h (P9 p1 p2 p3 p4 fu1) a0=R,[(0,.slice (va lr.q) j.length lr.k),(1,pt p1b 0),(2,pt p2b 0),(3,pt p3b 0),(4,pt p4b 0),(6,iv k),(7,iv h),(8,iv a0)],(bx p1b (I8 p1) 182::bx p2b (I8 p2) 182::bx p3b [.slice f p3.length p3k] 38::bx p4b (B3 p4) 26::((vo G2 34 lr e)++([]))),[E7 C0 w l,sl G2 f g,E7 C0 g p3,P6,P7,E7 C0 e j])) ?_ ?_
  ·refine bN rfl (cE 4 [1] 34 rfl ?_)
   refine ie ?_
   refine zjd rfl hR ?_ ?_<;>clear hR<;>intro hR h5 ai
   ·refine A0 3 rfl (cE 3 [1] 8 rfl ?_)
    refine A3 ?_
    exact X5 p2.col hR bQ A9.refl
   refine A4 ?_
   exact X5 (X4 p3) hR bQ A9.refl
  intro a0
  rintro hR
  replace hR:=(A1v.eq_1 ..).symm.trans hR
  refine A8m (C7p (k:=(k).toNat) d 5 rfl (by have:=d.1;omega)) ?_
  have:=B8c d (k:=(k).toNat) (by have:=d.1;omega)
  refine sh' 15 [(15,[bx p1b (I8 p1) 182]),(15,[bx p2b (I8 p2) 182]),(15,[bx p3b [.slice f p3.length p3k] 38]),(15,[bx p4b (B3 p4) 26]),(14,vo G2 34 lr e)] [sl C0 ((e.getD ((k).toNat) cF).s.q) ((j.getD ((k).toNat) bS).l),E7 C0 w l,sl G2 f g,E7 C0 g p3,P6,P7,E7 C0 e j] (bx p1b (I8 p1) 182::bx p2b (I8 p2) 182::bx p3b [.slice f p3.length p3k] 38::bx p4b (B3 p4) 26::((vo G2 34 lr e)++([]))) (bV 15 0) oki rfl oki oki oki bQ A9.refl ?_
  refine zhp [0,1,2,3,6,7] 9 (bV 15 207) [(38,.slice (va lr.q) j.length lr.k),(39,iv k),(40,.slice (va lr.q) j.length lr.k),(41,iv k),(44,iv h),(45,iv a0)] ?_
  obtain ⟨b6,a6⟩:=bR.some p opx
  obtain ⟨q8,k9,z⟩:=lr
  obtain rfl:q8=some b6:=a6
  refine zhl 4 (bx p1b (I8 p1) 182::bx p2b (I8 p2) 182::bx p3b [.slice f p3.length p3k] 38::bx p4b (B3 p4) 26::((vo G2 34 (⟨some b6,k9,z⟩:VR) e)++([]))) (bV 15 223) rfl (X2 B1r rfl rfl rfl ((k).toNat) opx (by have:=d.1;omega)) ?_
  refine zhl 5 (bx p1b (I8 p1) 182::bx p2b (I8 p2) 182::bx p3b [.slice f p3.length p3k] 38::bx p4b (B3 p4) 26::((vo G2 34 (⟨some b6,k9,z⟩:VR) e)++([]))) (bV 15 255) rfl (G9 (B3y (us:=[.slice ((e.getD ((k).toNat) cF).s.q) ((e.getD ((k).toNat) cF).s.n) ((e.getD ((k).toNat) cF).s.k),bv ((e.getD ((k).toNat) cF).b)]) (c:=G2) (sz:=2) A3w (fun _=>rfl) rfl rfl 4 rfl ((k).toNat) 0 rfl (gd cF (by have:=d.1;omega)) rfl rfl) (D6v d (by have:=d.1;omega))) ?_
  refine zhl 8 (bx p1b (I8 p1) 182::bx p2b (I8 p2) 182::bx p3b [.slice f p3.length p3k] 38::bx p4b (B3 p4) 26::((vo G2 34 (⟨some b6,k9,z⟩:VR) e)++([]))) (bV 15 511) rfl (D6 (us:=B3 p4) A6y rfl rfl 3 rfl rfl rfl) ?_
  have hQ:=C9 hR;clear hR;obtain ⟨a,y,hR⟩:=hQ
  refine zho 9 (bx p1b (I8 p1) 182::bx p2b (I8 p2) 182::bx p3b [.slice f p3.length p3k] 38::bx p4b (B3 p4) 26::((vo G2 34 (⟨some b6,k9,z⟩:VR) e)++([]))) (bV 15 1023) rfl (G7 (L2:=(bx p1b (I8 p1) 182::bx p2b (I8 p2) 182::bx p3b [.slice f p3.length p3k] 38::bx p4b (B3 p4) 26::((vo G2 34 (⟨some b6,k9,z⟩:VR) e)++([])))) (D8g y) rfl rfl rfl rfl rfl c9 (List.Perm.refl _) (fun ⟨⟨v,u⟩,a1⟩=>(bx p1b (I8 p1) 182::bx p2b (I8 p2) 182::bx p3b [.slice f p3.length p3k] 38::bx p4b (B3 p4) 26::((vo G2 34 (⟨some b6,k9,z⟩:VR) e)++([])))) (fun _=>by first|rfl|simp only [List.append_nil,List.cons_append,List.nil_append,List.append_assoc])) (fun ⟨⟨v,u⟩,a1⟩=>bQ) (fun ⟨⟨v,u⟩,a1⟩=>c9) fun ⟨⟨v,u⟩,a1⟩=>?_
  obtain ⟨a7,a8⟩:=a1
  refine zhp [10,11,12] 2 (bV 15 8191) [(48,ag [.slice v a.1.length u,bv a.2.1])] ?_
  refine zhl 13 (bx p1b (I8 p1) 182::bx p2b (I8 p2) 182::bx p3b [.slice f p3.length p3k] 38::bx p4b (B3 p4) 26::((vo G2 34 (⟨some b6,k9,z⟩:VR) e)++([]))) (bV 15 16383) rfl (X2 B1r rfl rfl rfl ((k).toNat) opx (by have:=d.1;omega)) ?_
  have a5:F1 (e.set ((k).toNat) (⟨⟨v,a.1.length,u⟩,a.2.1⟩:Rwq)) (j.set ((k).toNat) (⟨a.1,a.2.1⟩:Rwc Cel)):=F1.set d ((k).toNat) ⟨rfl,okl,okl⟩ rfl
  refine D7k (E5e ((k).toNat) (r:=(⟨⟨v,a.1.length,u⟩,a.2.1⟩:Rwq)) (x:=(⟨a.1,a.2.1⟩:Rwc Cel)) (B8 7 rfl) (B8 0 rfl)) ?_
  refine zho 14 [bx p1b (I8 p1) 182,bx p2b (I8 p2) 182,bx p3b [.slice f p3.length p3k] 38,bx p4b (B3 p4) 26] (bV 15 32767) rfl (W7 (us:=[.slice v a.1.length u,bv a.2.1]) (u':=(⟨⟨v,a.1.length,u⟩,a.2.1⟩:Rwq)) (c:=G2) (sz:=2) A3w (fun _=>rfl) rfl rfl rfl 4 rfl rfl rfl rfl ((k).toNat) 0 rfl (gd cF (by have:=d.1;omega)) rfl rfl) (fun _=>bQ) (fun _=>c9) fun _=>?_
  refine A2a oki ?_
  refine nx (A0 3 rfl (bO 1 21 rfl ?_))
  refine ix rfl (B4 rfl rfl rfl rfl opx) ?_
  refine bO 1 6 rfl ?_
  refine A3 ?_
  exact A0d (z1:=(fu1+1,j,e,k)) (fu1,(j.set ((k).toNat) (⟨a.1,a.2.1⟩:Rwc Cel)),(e.set ((k).toNat) (⟨⟨v,a.1.length,u⟩,a.2.1⟩:Rwq)),k+1) ⟨owe,hR,(bR.cast p oom),a5,opx,owe⟩ (Nat.lt_succ_self _) bQ c9
 subst hR
 refine G6 ?_
 exact zen hr hD (A0x rfl) ⟨e,⟨p,d⟩⟩ bQ c9
def A9u (g:List (Rwc Cel)) (changec:Plc) (changec1:Plc) (changec2:List (Rwc Cel)) (changec3:Sty):List (Rwc Cel) :=
 (C2 (A8d g changec changec1 changec2 changec3) fun (a:List (Rwc Cel))=>a)
set_option maxHeartbeats 400000 in
theorem C7z {g:List (Rwc Cel)} {changec changec1:Plc} {changec2:List (Rwc Cel)} {changec3:Sty} {gq:Option Addr} {grs:List Rwq} {gk changecb changecb1 changecb2:Nat} {changecq:Option Addr} {changecrs:List Rwq} {changeck changecb3:Nat} {R:List (Rwc Cel)} (hR:A9u g changec changec1 changec2 changec3=R) (c:F1 grs g:=by exact bP) (y:g.length≤9223372036854775807:=by exact bP) (u:g.length≤gk:=by exact bP) (d:F1 changecrs changec2:=by exact bP) (i:changec2.length≤9223372036854775807:=by exact bP) (h:changec2.length≤changeck:=by exact bP) (hi:0≤changec.row∧0<changec2.length:=by exact bP) (s:g.length≤40:=by exact bP):cI Tryz.prog 264 [.slice gq g.length gk,.func (.func 295) #[] #[pt changecb 0,pt changecb1 0,pt changecb2 0,pt changecb3 0]] [bx changecb (I8 changec) 182,bx changecb1 (I8 changec1) 182,bx changecb2 [.slice changecq changec2.length changeck] 38,bx changecb3 (B3 changec3) 26] [sl G2 gq grs,E7 C0 grs g,sl G2 changecq changecrs,E7 C0 changecrs changec2,P6,P7] ({t:VR×List Rwq // bR 2 R.length t.1∧F1 t.2 R}) (fun x=>.slice (va x.1.1.q) R.length x.1.1.k) (fun x=>(bx changecb (I8 changec) 182::bx changecb1 (I8 changec1) 182::bx changecb2 [.slice changecq changec2.length changeck] 38::bx changecb3 (B3 changec3) 26::((vo G2 34 x.1.1 x.1.2)++([])))) (fun x=>[E7 C0 x.1.2 R]):=by
 refine bZ Tryz.func264 fun X hX hr hD=>?_
 replace hR:=(A9u.eq_1 ..).symm.trans hR
 have:=c.1
 have:=d.1
 refine bN rfl (pp0 1 rfl ?_)
 refine ie (bN rfl (bO 2 7 rfl ?_))
 refine D7 (q:=E7 C0 (List.replicate g.length cF) (List.replicate g.length (bS:Rwc Cel))) E5j ?_
 refine it rfl (C6d (α:=Cel) (l:=g.length) (cc:=g.length) E4u C2i.ok rfl rfl rfl opx ofv opx) fun ⟨r1,e⟩=>?_
 have:(List.replicate g.length cF).length=g.length:=List.length_replicate
 have:=bR.le e
 have:=bR.cap e
 have:(List.replicate g.length (bS:Rwc Cel)).length=g.length:=List.length_replicate
 refine bO 1 5 rfl ?_
 refine ie (bN rfl (cJ 2 9 10 rfl ?_))
 have m:bR 2 g.length r1:=bR.cast e ojw
 refine it rfl (B0k (f:=G2) (r:=r1) (n2:=g.length) (z:=cF) (zs:=grs) (pre:=[bx changecb (I8 changec) 182,bx changecb1 (I8 changec1) 182,bx changecb2 [.slice changecq changec2.length changeck] 38,bx changecb3 (B3 changec3) 26]) (post:=[]) B1r (fun _=>rfl) (fun _=>rfl) rfl rfl rfl rfl ovd rfl (by first|rfl|(rw [c.1])) rfl (B8 1 rfl) (bR.cast e (by simp only [List.length_replicate])) (by first|exact c.1|(rw [c.1];omega))) fun _=>?_
 refine B1j (L':=(bx changecb (I8 changec) 182::bx changecb1 (I8 changec1) 182::bx changecb2 [.slice changecq changec2.length changeck] 38::bx changecb3 (B3 changec3) 26::((vo G2 34 r1 grs)++([])))) rfl ?_
 refine P2 (v:=.slice (va r1.q) g.length r1.k) 8 (congrArg (fun z=>some (Value.slice (va r1.q) z r1.k)) (List.length_replicate)) ?_
 refine P2 (v:=.slice (va r1.q) g.length r1.k) 5 (congrArg (fun z=>some (Value.slice (va r1.q) z r1.k)) (List.length_replicate)) ?_
 refine P2 (v:=.slice (va r1.q) g.length r1.k) 9 (congrArg (fun z=>some (Value.slice (va r1.q) z r1.k)) (List.length_replicate)) ?_
 refine ie (bN rfl (ip' 2 1 [(12,.func (.func 295) #[] #[pt changecb 0,pt changecb1 0,pt changecb2 0,pt changecb3 0]),(13,.slice (va r1.q) g.length r1.k)] ?_))
 have w:=C9 hR;clear hR;obtain ⟨b,a,hR⟩:=w
 refine zc rfl (C8q a m c d) fun ⟨p,n⟩=>?_
 try dsimp only at n
 obtain ⟨j,o⟩:=n
 have:=bR.le j
 have:=bR.cap j
 have:=o.1
 refine P2 (v:=.slice (va r1.q) b.length r1.k) 8 (congrArg (fun z=>some (Value.slice (va r1.q) z r1.k)) (by rw [← a];exact (B4j ..).symm)) ?_
 refine P2 (v:=.slice (va r1.q) b.length r1.k) 5 (congrArg (fun z=>some (Value.slice (va r1.q) z r1.k)) (by rw [← a];exact (B4j ..).symm)) ?_
 refine P2 (v:=.slice (va r1.q) b.length r1.k) 9 (congrArg (fun z=>some (Value.slice (va r1.q) z r1.k)) (by rw [← a];exact (B4j ..).symm)) ?_
 refine P2 (v:=.slice (va r1.q) b.length r1.k) 13 (congrArg (fun z=>some (Value.slice (va r1.q) z r1.k)) (by rw [← a];exact (B4j ..).symm)) ?_
 refine ie (bN rfl (bO 2 4 rfl ?_))
 subst hR
 refine ie (A8 ?_)
 exact cD hr hD (N4 rfl (B0 rfl)) ⟨(r1,p),⟨j,o⟩⟩ bQ c9
def A9r (g:List (Rwc Cel)) (from_:Plc) (to_:Plc) (s:Sty):List (Rwc Cel)×Int :=
 (bif (!decide ((R8 g)=0)) then (([]:List (Rwc Cel)),(R8 g)) else (bif ((((!(A3k g from_))||(!(A3k g to_)))||(decide (to_.row<from_.row)))||((decide (from_.row=to_.row))&&(decide (to_.col<from_.col)))) then (([]:List (Rwc Cel)),2) else (bif (!decide ((D5 s)=0)) then (([]:List (Rwc Cel)),(D5 s)) else (C2 (A9u g from_ to_ g s) fun (a:List (Rwc Cel))=>(a,0)))))
set_option maxHeartbeats 400000 in
theorem D5a {g:List (Rwc Cel)} {from_ to_:Plc} {s:Sty} {gq:Option Addr} {grs:List Rwq} {gk:Nat} {R:List (Rwc Cel)×Int} (hR:A9r g from_ to_ s=R) (a:F1 grs g:=by exact bP) (a8:g.length≤9223372036854775807:=by exact bP) (a4:g.length≤gk:=by exact bP):cI Tryz.prog 263 [.slice gq g.length gk,ag (I8 from_),ag (I8 to_),ag (B3 s)] [] [sl G2 gq grs,E7 C0 grs g,P6,P7] ({t:VR×List Rwq // bR 2 R.1.length t.1∧F1 t.2 R.1}) (fun x=>.tuple #[.slice (va x.1.1.q) R.1.length x.1.1.k,iv R.2]) (fun x=>((vo G2 34 x.1.1 x.1.2)++([]))) (fun x=>[E7 C0 x.1.2 R.1]):=by
 refine bZ Tryz.func263 fun X hX hr hD=>?_
 replace hR:=(A9r.eq_1 ..).symm.trans hR
 have:=a.1
 refine bN rfl (D4x 3 3 [] (fun l i j=>[(4,pt l 0),(5,pt i 0),(6,pt j 0)]) (fun l i j=>[bx j (I8 to_) 182,bx i (I8 from_) 182,bx l [.slice gq g.length gk] 38]) (fun l i j=>?_))
 refine zra 3 [] (fun p=>[(7,pt p 0)]) (fun _=>(B3 s)) 26 fun p=>?_
 refine ie (A5 (bN rfl (cE 1 [3] 12 rfl ?_)))
 refine zv rfl (B6o rfl a) ?_
 refine bO 1 10 rfl ?_
 refine ie (bN rfl (bO 2 15 rfl ?_))
 refine ie ?_
 refine zjn rfl hR ?_ ?_<;>clear hR<;>intro hR h5 o
 ·refine bN rfl (cJ 3 8 9 rfl ?_)
  subst hR
  refine ie (A8 ?_)
  exact cD hr hD (Q9 rfl (B0 rfl) (B0 rfl)) ⟨(VR.nil,([]:List Rwq)),⟨bR.nil,F1.none⟩⟩ bQ c9
 have y:=B9y (by have:=o;omega:R8 g=0)
 have a0:=C1l (by have:=o;omega:R8 g=0)
 refine A4 (nx (A5 (bN rfl (bY 2 29 [3,2] [(17,.slice gq g.length gk),(18,ag (I8 from_))] ?_))))
 refine zv rfl (C3y rfl a) ?_
 refine bO 2 21 rfl ?_
 refine zio 5 21 21 26 (!(A3k g to_)) (fun z=>?_) ?_
 ·refine bY 2 3 [3,1] [(22,.slice gq g.length gk),(23,ag (I8 to_))] ?_
  refine zv rfl (C3y rfl a) ?_
  refine bO 2 26 rfl ?_
  exact zai 5 21 26 z
 refine bO 1 27 rfl ?_
 refine zio 6 14 27 33 (decide (to_.row<from_.row)) (fun w=>?_) ?_
 ·have a5:=bU w
  refine cE 6 [2,1] 33 rfl ?_
  exact zai 2 27 33 w
 refine bO 1 34 rfl ?_
 refine zio 13 0 34 47 ((decide (from_.row=to_.row))&&(decide (to_.col<from_.col))) (fun u=>?_) ?_
 ·have a2:=bU u
  refine cE 6 [2,1] 40 rfl ?_
  refine zid 6 1 40 46 (decide (to_.col<from_.col)) (fun g9 a1=>?_) ?_
  ·refine cE 6 [2,1] 46 rfl ?_
   exact zai 2 40 46 g9
  refine bO 1 47 rfl ?_
  exact zai 4 34 47 u
 refine ie ?_
 refine zjb rfl hR ?_ ?_<;>clear hR<;>intro hR h
 ·have m:=bU h
  refine bN rfl (cJ 2 8 9 rfl ?_)
  subst hR
  refine ie (A8 ?_)
  exact cD hr hD (Q9 rfl (B0 rfl) (B0 rfl)) ⟨(VR.nil,([]:List Rwq)),⟨bR.nil,F1.none⟩⟩ bQ c9
 have m:=bU h
 have a3:0≤from_.row:=by have q:=h;simp only [Bool.or_eq_false_iff,Bool.not_eq_false'] at q;exact D0t q.1.1.1
 refine A4 (nx (A5 (bN rfl (bY 1 2 [0] [(48,ag (B3 s))] ?_))))
 refine zv rfl (V1 rfl) ?_
 refine bO 1 11 rfl ?_
 refine ie (bN rfl (bO 2 51 rfl ?_))
 refine ie ?_
 refine zjn rfl hR ?_ ?_<;>clear hR<;>intro hR a7 v
 ·refine bN rfl (cJ 3 8 9 rfl ?_)
  subst hR
  refine ie (A8 ?_)
  exact cD hr hD (Q9 rfl (B0 rfl) (B0 rfl)) ⟨(VR.nil,([]:List Rwq)),⟨bR.nil,F1.none⟩⟩ bQ c9
 refine A4 (nx (bN rfl (bY 2 3 [3] [(53,.slice gq g.length gk),(54,.func (.func 295) #[] #[pt i 0,pt j 0,pt l 0,pt p 0])] ?_)))
 have hQ:=C9 hR;clear hR;obtain ⟨c,b,hR⟩:=hQ
 refine zc rfl (C7z (g:=g) (changec:=from_) (changec1:=to_) (changec2:=g) (changec3:=s) (gq:=gq) (grs:=grs) (gk:=gk) (changecb:=i) (changecb1:=j) (changecb2:=l) (changecq:=gq) (changecrs:=grs) (changeck:=gk) (changecb3:=p) b a bP bP a bP bP ojv) fun ⟨⟨r,n⟩,f⟩=>?_
 try dsimp only at f
 obtain ⟨d,e⟩:=f
 have:=bR.le d
 have:=bR.cap d
 have:=e.1
 refine cJ 2 8 9 rfl ?_
 subst hR
 refine ie (A8 ?_)
 exact cD hr hD (Q9 rfl (B0 rfl) (B0 rfl)) ⟨(r,n),⟨d,e⟩⟩ bQ c9
@[reducible] def aB:List MapEntry := [⟨iv 1,bv true,0⟩,⟨iv 34,bv true,1⟩,⟨iv 2,bv true,2⟩,⟨iv 39,bv true,3⟩,⟨iv 36,bv true,4⟩,⟨iv 17,bv true,5⟩,⟨iv 7,bv true,6⟩,⟨iv 18,bv true,7⟩,⟨iv 10,bv true,8⟩,⟨iv 35,bv true,9⟩,⟨iv 40,bv true,10⟩,⟨iv 44,bv true,11⟩,⟨iv 45,bv true,12⟩,⟨iv 46,bv true,13⟩,⟨iv 12,bv true,14⟩,⟨iv 14,bv true,15⟩,⟨iv 41,bv true,16⟩,⟨iv 42,bv true,17⟩,⟨iv 43,bv true,18⟩]
@[reducible] def aA:Obj := .map (List.toArray aB) 19
theorem F3z:EqT Tryz.prog 40 V7:=EqT.of 20 rfl oki oki (fun _ _=>by kernel_rfl) V7.inj
theorem D2h:MapTy Tryz.prog 84 3 89 (.int .i64):=⟨by kernel_rfl,by kernel_rfl,rfl⟩
theorem B5i:MapTy Tryz.prog 119 3 4 (.int .i64):=⟨by kernel_rfl,by kernel_rfl,rfl⟩
theorem E6h:SlTy Tryz.prog 91 22 1:=⟨by kernel_rfl,by kernel_rfl⟩
theorem C7r:Ty Tryz.prog 38 1 false:=⟨by kernel_rfl⟩
theorem D6w:Ty Tryz.prog 40 3 true:=⟨by kernel_rfl⟩
theorem D9y:Ty Tryz.prog 43 6 true:=⟨by kernel_rfl⟩
theorem E5v:Ty Tryz.prog 81 1 false:=⟨by kernel_rfl⟩
theorem E1n:Ty Tryz.prog 182 2 true:=⟨by kernel_rfl⟩
theorem E6e:Ty Tryz.prog 220 1 false:=⟨by kernel_rfl⟩
theorem F0b:Ty Tryz.prog 232 1 false:=⟨by kernel_rfl⟩
theorem E7u:Zero Tryz.prog 43 (A3i Sts.zero):=⟨by kernel_rfl⟩
def A0g (s:ScrC) (aQ:List (Rwc Cel)) (aV:List (Rwc Cel)) (aY:List Bool):Int×Int×Int×Int×Bool :=
 (s.rows,s.cols,s.top,s.bottom,s.modes.origin)
theorem A8y {s:ScrC} {aQ aV:List (Rwc Cel)} {aY:List Bool} {sb:Nat} {aO:Option Addr} {aN:List Rwq} {aP:Nat} {aT:Option Addr} {aS:List Rwq} {aU:Nat} {aW:Option Addr} {aX:Nat} {R:Int×Int×Int×Int×Bool} (hR:A0g s aQ aV aY=R) (c:F1 aN aQ:=by exact bP) (h:aQ.length≤9223372036854775807:=by exact bP) (i:aQ.length≤aP:=by exact bP) (b:F1 aS aV:=by exact bP) (f:aV.length≤9223372036854775807:=by exact bP) (g:aV.length≤aU:=by exact bP) (e:aY.length≤9223372036854775807:=by exact bP) (d:aY.length≤aX:=by exact bP):cI Tryz.prog 89 [pt sb 0] [bx sb (aG s aO aQ aP aT aV aU aW aY aX) 83] [sl G2 aO aN,E7 C0 aN aQ,sl G2 aT aS,E7 C0 aS aV,sl R7 aW aY] (Unit) (fun x=>ag [iv R.1,iv R.2.1,iv R.2.2.1,iv R.2.2.2.1,bv R.2.2.2.2]) (fun x=>[bx sb (aG s aO aQ aP aT aV aU aW aY aX) 83]) (fun x=>[]):=by
 refine bZ Tryz.func89 fun X hX hr hD=>?_
 replace hR:=(A0g.eq_1 ..).symm.trans hR
 have:=c.1
 have:=b.1
 refine bN rfl (zra 1 [] (fun a=>[(2,pt a 0)]) (fun _=>[iv 0,iv 0,iv 0,iv 0,bv false]) 138 fun a=>?_)
 refine ie (zS [(27,[0]),(28,[1])] ?_)
 refine hq5 [0,1,2,3,5,6,7,8,10,11,12,13,15,16,17,18,20,21,22,23,24] 6 11 16 21 27 rfl ?_
 refine gl 4 [0,1] rfl (A2 (v:=iv s.rows) cA rfl rfl 1 rfl rfl) ?_
 refine gl 9 [0,1] rfl (A2 (v:=iv s.cols) cA rfl rfl 1 rfl rfl) ?_
 refine gl 14 [0,1] rfl (A2 (v:=iv s.top) cA rfl rfl 1 rfl rfl) ?_
 refine gl 19 [0,1] rfl (A2 (v:=iv s.bottom) cA rfl rfl 1 rfl rfl) ?_
 refine gl 25 [0,1] rfl (A2 (v:=bv s.modes.origin) ty4 rfl rfl 1 rfl rfl) ?_
 refine gk 26 rfl (U8 (cs:=[iv s.rows,iv s.cols,iv s.top,iv s.bottom,bv s.modes.origin]) rfl rfl oki) ?_
 refine go 27 [1] rfl (D8 (us:=[iv s.rows,iv s.cols,iv s.top,iv s.bottom,bv s.modes.origin]) (cs':=[iv s.rows,iv s.cols,iv s.top,iv s.bottom,bv s.modes.origin]) E5b rfl rfl rfl 0 rfl rfl rfl rfl rfl rfl) fun _=>?_
 refine ge ?_
 subst hR
 refine A8 ?_
 exact cD hr hD (N4 rfl (D4 (us:=[iv s.rows,iv s.cols,iv s.top,iv s.bottom,bv s.modes.origin]) E5b rfl 0 rfl rfl rfl)) () bQ A9.nil
def K8 (s:ScrC) (aQ:List (Rwc Cel)) (aV:List (Rwc Cel)) (aY:List Bool) (g:List (Rwc Cel)):Bool :=
 (((decide ((R8 g)=0))&&(decide ((g.length:Int)=s.rows)))&&(decide (((g.getD 0 bS).l.length:Int)=s.cols)))
theorem A9a {s:ScrC} {aQ aV:List (Rwc Cel)} {aY:List Bool} {g:List (Rwc Cel)} {sb:Nat} {aO:Option Addr} {aN:List Rwq} {aP:Nat} {aT:Option Addr} {aS:List Rwq} {aU:Nat} {aW:Option Addr} {aX:Nat} {gq:Option Addr} {grs:List Rwq} {gk:Nat} {R:Bool} (hR:K8 s aQ aV aY g=R) (f:F1 aN aQ:=by exact bP) (z:aQ.length≤9223372036854775807:=by exact bP) (bI:aQ.length≤aP:=by exact bP) (j:F1 aS aV:=by exact bP) (w:aV.length≤9223372036854775807:=by exact bP) (y:aV.length≤aU:=by exact bP) (u:aY.length≤9223372036854775807:=by exact bP) (t:aY.length≤aX:=by exact bP) (a:F1 grs g:=by exact bP) (p:g.length≤9223372036854775807:=by exact bP) (h:g.length≤gk:=by exact bP):cI Tryz.prog 92 [pt sb 0,.slice gq g.length gk] [bx sb (aG s aO aQ aP aT aV aU aW aY aX) 83] [sl G2 aO aN,E7 C0 aN aQ,sl G2 aT aS,E7 C0 aS aV,sl R7 aW aY,sl G2 gq grs,E7 C0 grs g,P6,P7] (Unit) (fun x=>bv R) (fun x=>[bx sb (aG s aO aQ aP aT aV aU aW aY aX) 83]) (fun x=>[]):=by
 refine bZ Tryz.func92 fun X hX hr hD=>?_
 replace hR:=(K8.eq_1 ..).symm.trans hR
 have:=f.1
 have:=j.1
 have:=a.1
 have e:R8 g=0→0<g.length:=B9y
 refine bN rfl (pp0 1 rfl ?_)
 refine ie (sd 27 rfl oki rfl ?_)
 refine pd1 1 5 rfl ?_
 refine zvd rfl (B6o rfl a) ?_
 refine pd1 2 8 rfl ?_
 refine zdd 9 14 8 17 (decide ((g.length:Int)=s.rows)) (fun i m=>?_) ?_
 ·refine pg1 9 [0] 17 rfl ?_
  exact zad 2 8 17 i
 refine pd1 1 18 rfl ?_
 refine zda 12 1 18 30 (decide (((g.getD 0 bS).l.length:Int)=s.cols)) (fun d=>?_) ?_
 ·have r:=bU d
  refine dp' 1 11 [(19,.slice gq g.length gk)] ?_
  refine C0e 5 rfl (by have:=a.1;omega) fun o b=>?_
  refine C5b (C7p (k:=0) a 6 rfl (by have:=a.1;omega)) ?_
  have:=B8c a (k:=0) (by have:=a.1;omega)
  refine dd rfl (H9 B1r rfl rfl b rfl 0 rfl opx) ?_
  refine dp' 1 9 [(21,pa (Addr.add o (0 * 2)))] ?_
  refine dd rfl (G9 (F2 (v:=.slice ((grs.getD 0 cF).s.q) ((grs.getD 0 cF).s.n) ((grs.getD 0 cF).s.k)) (us:=[.slice ((grs.getD 0 cF).s.q) ((grs.getD 0 cF).s.n) ((grs.getD 0 cF).s.k)]) D5w rfl rfl (A2w (K2 (c:=G2) (sz:=2) b (fun _=>rfl) 6 rfl (gd cF (by have:=a.1;omega))) (ws:=[.slice ((grs.getD 0 cF).s.q) ((grs.getD 0 cF).s.n) ((grs.getD 0 cF).s.k)]) 1 rfl) rfl) (E5n a (by have:=a.1;omega))) ?_
  refine pg1 8 [0] 30 rfl ?_
  exact zad 6 18 30 d
 refine pd1 1 4 rfl ?_
 subst hR
 refine de (A8 ?_)
 exact cD hr hD (N4 rfl (B0 rfl)) () bQ A9.nil
def A5x (a:Int):Int :=
 (bif ((decide (a<2))||(decide ((80:Int)<a))) then 2 else 0)
theorem D1k {a R:Int} (hR:A5x a=R):J5 Tryz.prog 93 [iv a,.slice none 0 0] [] (iv R):=by
 refine bZ Tryz.func93 fun X hX hr hD=>?_
 replace hR:=(A5x.eq_1 ..).symm.trans hR
 refine bN rfl (pp0 1 rfl ?_)
 refine ie (A5 (bN rfl (bO 3 9 rfl ?_)))
 refine zir 3 0 9 12 (decide ((80:Int)<a)) (fun d c=>?_) ?_
 ·refine bO 3 12 rfl ?_
  exact A3 (O6 2 9 12 d A9.nil bQ rfl rfl rfl rfl rfl)
 refine ie ?_
 refine zjo rfl hR ?_ ?_<;>clear hR<;>intro hR e b
 ·refine bN rfl (bO 1 4 rfl ?_)
  subst hR
  refine ie (A8 ?_)
  exact G0 hr hD
 refine A4 (nx (A5 (bN rfl (bO 3 15 rfl ?_))))
 refine ie (Z1 rfl (A4 (nx (A5 (bN rfl (pp3 3 16 17 18 rfl ?_))))))
 refine ie (B2 (Z6 2 ?_))
 refine D9 (bN rfl (bO 1 19 rfl ?_))
 refine ie (A5 (Z1 rfl (G6 (nx (bN rfl (bO 1 4 rfl ?_))))))
 subst hR
 refine ie (A8 ?_)
 exact G0 hr hD
def U5 (s:ScrC) (a:Bool):Bool :=
 (bif a then false else (bif (decide (s.shape<0)) then (bif (decide (s.shape<0)) then false else ((decide (s.last=0))||(decide ((0:Int)<(F6 s.last))))) else (bif (decide ((6:Int)<s.shape)) then (bif (decide ((6:Int)<s.shape)) then false else ((decide (s.last=0))||(decide ((0:Int)<(F6 s.last))))) else (bif (!decide ((H0 ({Act.zero with kind:=44,text:=s.title}))=0)) then false else ((decide (s.last=0))||(decide ((0:Int)<(F6 s.last))))))))
def Q8 (s:ScrC) (a:Bool):Bool :=
 (bif a then false else (bif (!decide ((D5 s.style)=0)) then U5 s (!decide ((D5 s.style)=0)) else (bif (!decide ((V9 s.sets)=0)) then U5 s (!decide ((V9 s.sets)=0)) else U5 s (!decide ((A9k s.modes)=0)))))
def U4 (s:ScrC) (aQ:List (Rwc Cel)) (aV:List (Rwc Cel)) (aY:List Bool) (a:Bool):Bool :=
 (bif a then false else (bif (!(K8 s aQ aV aY aQ)) then Q8 s (!(K8 s aQ aV aY aQ)) else (bif (!(K8 s aQ aV aY aV)) then Q8 s (!(K8 s aQ aV aY aV)) else (bif (!decide ((A5x s.cols)=0)) then Q8 s (!decide ((A5x s.cols)=0)) else Q8 s (!decide ((aY.length:Int)=s.cols))))))
def A2r (s:ScrC) (aQ:List (Rwc Cel)) (aV:List (Rwc Cel)) (aY:List Bool):Bool :=
 (C2 (A0g s aQ aV aY) fun (a:Int×Int×Int×Int×Bool)=>(bif (!decide ((K1 a.1 a.2.1 a.2.2.1 a.2.2.2.1 a.2.2.2.2 s.cursor)=0)) then U4 s aQ aV aY (!decide ((K1 a.1 a.2.1 a.2.2.1 a.2.2.2.1 a.2.2.2.2 s.cursor)=0)) else (bif (!decide ((O9 a.1 a.2.1 a.2.2.1 a.2.2.2.1 a.2.2.2.2 s.kept)=0)) then U4 s aQ aV aY (!decide ((O9 a.1 a.2.1 a.2.2.1 a.2.2.2.1 a.2.2.2.2 s.kept)=0)) else U4 s aQ aV aY (!decide ((O9 a.1 a.2.1 a.2.2.1 a.2.2.2.1 a.2.2.2.2 s.keptAlt)=0)))))
theorem B8o {s:ScrC} {aQ aV:List (Rwc Cel)} {aY:List Bool} {sb:Nat} {aO:Option Addr} {aN:List Rwq} {aP:Nat} {aT:Option Addr} {aS:List Rwq} {aU:Nat} {aW:Option Addr} {aX:Nat} {R:Bool} (hR:A2r s aQ aV aY=R) (f:F1 aN aQ:=by exact bP) (bH:aQ.length≤9223372036854775807:=by exact bP) (bI:aQ.length≤aP:=by exact bP) (g:F1 aS aV:=by exact bP) (bJ:aV.length≤9223372036854775807:=by exact bP) (bK:aV.length≤aU:=by exact bP) (bL:aY.length≤9223372036854775807:=by exact bP) (bM:aY.length≤aX:=by exact bP) (a6:s.title.length≤100000000:=by exact bP):cI Tryz.prog 36 [pt sb 0] [bx sb (aG s aO aQ aP aT aV aU aW aY aX) 83] [sl G2 aO aN,E7 C0 aN aQ,sl G2 aT aS,E7 C0 aS aV,sl R7 aW aY,P6,P7,O0,M9,K6] (Unit) (fun x=>bv R) (fun x=>[bx sb (aG s aO aQ aP aT aV aU aW aY aX) 83]) (fun x=>[]):=by
 refine bZ Tryz.func36 fun X hX hr hD=>?_
 replace hR:=(A2r.eq_1 ..).symm.trans hR
 have:=f.1
 have:=g.1
 refine bN rfl (pp0 1 rfl ?_)
 refine ie (bN rfl (bO 1 4 rfl ?_))
 have hQ:=C9 hR;clear hR;obtain ⟨a,b,hR⟩:=hQ
 refine zc rfl (A8y b f bP bP g) fun _=>?_
 refine zra 2 [0] (fun c=>[(3,pt c 0)]) (fun _=>[iv a.1,iv a.2.1,iv a.2.2.1,iv a.2.2.2.1,bv a.2.2.2.2]) 138 fun c=>?_
 refine ie (A5 (B2 (A9c (fun (j:Bool)=>(U4 s aQ aV aY j=R,[(0,pt sb 0),(6,bv j)],[bx c [iv a.1,iv a.2.1,iv a.2.2.1,iv a.2.2.2.1,bv a.2.2.2.2] 138,bx sb (aG s aO aQ aP aT aV aU aW aY aX) 83],[sl G2 aO aN,E7 C0 aN aQ,sl G2 aT aS,E7 C0 aS aV,sl R7 aW aY,P6,P7,O0,M9,K6])) ?_ ?_)))
 ·refine sd 9 rfl oki rfl ?_
  refine zdg 6 3 [0,1] [(7,ag [iv a.1,iv a.2.1,iv a.2.2.1,iv a.2.2.2.1,bv a.2.2.2.2]),(12,ag (V7 s.cursor))] ?_
  refine zvd rfl (A5y rfl) ?_
  refine pd1 2 6 rfl ?_
  refine de ?_
  refine zjn rfl hR ?_ ?_<;>clear hR<;>intro hR h2 a0
  ·refine A4 ?_
   exact X5 (!decide ((K1 a.1 a.2.1 a.2.2.1 a.2.2.2.1 a.2.2.2.2 s.cursor)=0)) hR bQ A9.refl
  refine sd 9 rfl oki rfl ?_
  refine zdg 6 3 [0,1] [(15,ag [iv a.1,iv a.2.1,iv a.2.2.1,iv a.2.2.2.1,bv a.2.2.2.2]),(20,ag (B5l s.kept))] ?_
  refine zvd rfl (B1q rfl) ?_
  refine pd1 2 6 rfl ?_
  refine de ?_
  refine zjn rfl hR ?_ ?_<;>clear hR<;>intro hR h3 a4
  ·refine A4 ?_
   exact X5 (!decide ((O9 a.1 a.2.1 a.2.2.1 a.2.2.2.1 a.2.2.2.2 s.kept)=0)) hR bQ A9.refl
  refine D9u 9 rfl oki rfl ?_
  refine zdg 6 3 [0,1] [(23,ag [iv a.1,iv a.2.1,iv a.2.2.1,iv a.2.2.2.1,bv a.2.2.2.2]),(28,ag (B5l s.keptAlt))] ?_
  refine zvd rfl (B1q rfl) ?_
  refine pd1 2 6 rfl ?_
  refine C6f ?_
  exact X5 (!decide ((O9 a.1 a.2.1 a.2.2.1 a.2.2.2.1 a.2.2.2.2 s.keptAlt)=0)) hR bQ A9.refl
 intro j
 rintro hR
 replace hR:=(U4.eq_1 ..).symm.trans hR
 refine zjb rfl hR ?_ ?_<;>clear hR<;>intro hR h4
 ·refine bN rfl (bO 1 2 rfl ?_)
  subst hR
  refine ie (A8 ?_)
  exact cD hr hD (N4 rfl (B0 rfl)) () bQ A9.nil
 refine A9c (fun (d:Bool)=>(Q8 s d=R,[(0,pt sb 0),(31,bv d)],[bx c [iv a.1,iv a.2.1,iv a.2.2.1,iv a.2.2.2.1,bv a.2.2.2.2] 138,bx sb (aG s aO aQ aP aT aV aU aW aY aX) 83],[sl G2 aO aN,E7 C0 aN aQ,sl G2 aT aS,E7 C0 aS aV,sl R7 aW aY,P6,P7,O0,M9,K6])) ?_ ?_
 ·refine bN rfl (pl2 6 [1] 32 37 rfl ?_)
  refine zc rfl (A9a rfl f bP bP g bP bP bP bP f) fun _=>?_
  refine bO 2 31 rfl ?_
  refine ie ?_
  refine zjb rfl hR ?_ ?_<;>clear hR<;>intro hR h5
  ·refine A4 (Q3 (H2 [[bx sb (aG s aO aQ aP aT aV aU aW aY aX) 83],[bx c [iv a.1,iv a.2.1,iv a.2.2.1,iv a.2.2.2.1,bv a.2.2.2.2] 138]] [1,0] 2 rfl ozw rfl [[bx c [iv a.1,iv a.2.1,iv a.2.2.1,iv a.2.2.2.1,bv a.2.2.2.2] 138],[bx sb (aG s aO aQ aP aT aV aU aW aY aX) 83]] rfl opv) ?_)
   exact X5 (!(K8 s aQ aV aY aQ)) hR bQ A9.refl
  refine bN rfl (pl2 6 [0] 40 45 rfl ?_)
  refine zc rfl (A9a rfl f bP bP g bP bP bP bP g) fun _=>?_
  refine bO 2 31 rfl ?_
  refine ie ?_
  refine zjb rfl hR ?_ ?_<;>clear hR<;>intro hR h6
  ·refine A4 (Q3 (H2 [[bx sb (aG s aO aQ aP aT aV aU aW aY aX) 83],[bx c [iv a.1,iv a.2.1,iv a.2.2.1,iv a.2.2.2.1,bv a.2.2.2.2] 138]] [1,0] 2 rfl ozw rfl [[bx c [iv a.1,iv a.2.1,iv a.2.2.1,iv a.2.2.2.1,bv a.2.2.2.2] 138],[bx sb (aG s aO aQ aP aT aV aU aW aY aX) 83]] rfl opv) ?_)
   exact X5 (!(K8 s aQ aV aY aV)) hR bQ A9.refl
  refine sd 13 rfl oki rfl ?_
  refine pg2 10 [0,0] 52 57 rfl ?_
  refine zvd rfl (D1k rfl) ?_
  refine pd1 2 31 rfl ?_
  refine de ?_
  refine zjn rfl hR ?_ ?_<;>clear hR<;>intro hR h7 a2
  ·refine A4 (Q3 (H2 [[bx sb (aG s aO aQ aP aT aV aU aW aY aX) 83],[bx c [iv a.1,iv a.2.1,iv a.2.2.1,iv a.2.2.2.1,bv a.2.2.2.2] 138]] [1,0] 2 rfl ozw rfl [[bx c [iv a.1,iv a.2.1,iv a.2.2.1,iv a.2.2.2.1,bv a.2.2.2.2] 138],[bx sb (aG s aO aQ aP aT aV aU aW aY aX) 83]] rfl opv) ?_)
   exact X5 (!decide ((A5x s.cols)=0)) hR bQ A9.refl
  refine D9u 13 rfl oki rfl ?_
  refine pg1 13 [0,0] 31 rfl ?_
  refine C6f (Q3 (H2 [[bx sb (aG s aO aQ aP aT aV aU aW aY aX) 83],[bx c [iv a.1,iv a.2.1,iv a.2.2.1,iv a.2.2.2.1,bv a.2.2.2.2] 138]] [1,0] 2 rfl ozw rfl [[bx c [iv a.1,iv a.2.1,iv a.2.2.1,iv a.2.2.2.1,bv a.2.2.2.2] 138],[bx sb (aG s aO aQ aP aT aV aU aW aY aX) 83]] rfl opv) ?_)
  exact X5 (!decide ((aY.length:Int)=s.cols)) hR bQ A9.refl
 intro d
 rintro hR
 replace hR:=(Q8.eq_1 ..).symm.trans hR
 refine zjb rfl hR ?_ ?_<;>clear hR<;>intro hR h8
 ·refine bN rfl (bO 1 2 rfl ?_)
  subst hR
  refine ie (A8 ?_)
  exact cD hr hD (N4 rfl (B0 rfl)) () bQ A9.nil
 refine A9c (fun (e:Bool)=>(U5 s e=R,[(0,pt sb 0),(72,bv e)],[bx c [iv a.1,iv a.2.1,iv a.2.2.1,iv a.2.2.2.1,bv a.2.2.2.2] 138,bx sb (aG s aO aQ aP aT aV aU aW aY aX) 83],[sl G2 aO aN,E7 C0 aN aQ,sl G2 aT aS,E7 C0 aS aV,sl R7 aW aY,P6,P7,O0,M9,K6])) ?_ ?_
 ·refine bN rfl (bY 5 3 [1] [(77,ag (B3 s.style))] ?_)
  refine zv rfl (V1 rfl) ?_
  refine bO 2 72 rfl ?_
  refine ie ?_
  refine zjn rfl hR ?_ ?_<;>clear hR<;>intro hR h9 a3
  ·refine A4 ?_
   exact X5 (!decide ((D5 s.style)=0)) hR bQ A9.refl
  refine bN rfl (bY 5 3 [1] [(84,ag (A3i s.sets))] ?_)
  refine zv rfl (B6l rfl) ?_
  refine bO 2 72 rfl ?_
  refine ie ?_
  refine zjn rfl hR ?_ ?_<;>clear hR<;>intro hR a7 l
  ·refine A4 ?_
   exact X5 (!decide ((V9 s.sets)=0)) hR bQ A9.refl
  refine A0 8 rfl (bY 5 3 [1] [(91,ag (C1b s.modes))] ?_)
  refine zv rfl (D5t rfl) ?_
  refine bO 2 72 rfl ?_
  refine A3 ?_
  exact X5 (!decide ((A9k s.modes)=0)) hR bQ A9.refl
 intro e
 rintro hR
 replace hR:=(U5.eq_1 ..).symm.trans hR
 refine zjb rfl hR ?_ ?_<;>clear hR<;>intro hR a8
 ·refine bN rfl (bO 1 2 rfl ?_)
  subst hR
  refine ie (A8 ?_)
  exact cD hr hD (N4 rfl (B0 rfl)) () bQ A9.nil
 refine A5 (bN rfl (cE 7 [1] 94 rfl ?_))
 refine ie ?_
 refine zjd rfl hR ?_ ?_<;>clear hR<;>intro hR w r
 ·refine A4 (nx ?_)
  refine zjd rfl hR ?_ ?_<;>clear hR<;>intro hR y p
  ·refine bN rfl (bO 1 2 rfl ?_)
   subst hR
   refine ie (A8 ?_)
   exact cD hr hD (N4 rfl (B0 rfl)) () bQ A9.nil
  refine A4 (nx (bN rfl (cE 7 [1] 121 rfl ?_)))
  refine zir 8 1 121 129 (decide ((0:Int)<(F6 s.last))) (fun h o=>?_) ?_
  ·refine cE 5 [1] 126 rfl ?_
   refine zv rfl (A3p rfl) ?_
   refine bO 2 129 rfl ?_
   exact zai 4 121 129 h
  refine bO 1 2 rfl ?_
  subst hR
  refine ie (A8 ?_)
  exact cD hr hD (N4 rfl (B0 rfl)) () bQ A9.nil
 refine bN rfl (cE 7 [1] 94 rfl ?_)
 refine ie ?_
 refine zjd rfl hR ?_ ?_<;>clear hR<;>intro hR z u
 ·refine A4 (nx ?_)
  refine zjd rfl hR ?_ ?_<;>clear hR<;>intro hR v n
  ·refine bN rfl (bO 1 2 rfl ?_)
   subst hR
   refine ie (A8 ?_)
   exact cD hr hD (N4 rfl (B0 rfl)) () bQ A9.nil
  refine A4 (nx (bN rfl (cE 7 [1] 121 rfl ?_)))
  refine zir 8 1 121 129 (decide ((0:Int)<(F6 s.last))) (fun i m=>?_) ?_
  ·refine cE 5 [1] 126 rfl ?_
   refine zv rfl (A3p rfl) ?_
   refine bO 2 129 rfl ?_
   exact zai 4 121 129 i
  refine bO 1 2 rfl ?_
  subst hR
  refine ie (A8 ?_)
  exact cD hr hD (N4 rfl (B0 rfl)) () bQ A9.nil
 refine A0 9 rfl (bY 6 3 [1] [(112,ag (A1 ({Act.zero with kind:=44,text:=s.title})))] ?_)
 refine zv rfl (B2v rfl (by first|omega|exact hkt|exact hkt0 opx|(dsimp only;omega))) ?_
 refine bO 2 94 rfl ?_
 refine A3 (nx ?_)
 refine zjn rfl hR ?_ ?_<;>clear hR<;>intro hR a1 q
 ·refine bN rfl (bO 1 2 rfl ?_)
  subst hR
  refine ie (A8 ?_)
  exact cD hr hD (N4 rfl (B0 rfl)) () bQ A9.nil
 refine A4 (nx (bN rfl (cE 7 [1] 121 rfl ?_)))
 refine zir 8 1 121 129 (decide ((0:Int)<(F6 s.last))) (fun k t=>?_) ?_
 ·refine cE 5 [1] 126 rfl ?_
  refine zv rfl (A3p rfl) ?_
  refine bO 2 129 rfl ?_
  exact zai 4 121 129 k
 refine bO 1 2 rfl ?_
 subst hR
 refine ie (A8 ?_)
 exact cD hr hD (N4 rfl (B0 rfl)) () bQ A9.nil
def A0q (s:ScrC) (aQ:List (Rwc Cel)) (aV:List (Rwc Cel)) (aY:List Bool):Int :=
 (bif (!(A2r s aQ aV aY)) then 300 else 0)
theorem C8h {s:ScrC} {aQ aV:List (Rwc Cel)} {aY:List Bool} {aO:Option Addr} {aN:List Rwq} {aP:Nat} {aT:Option Addr} {aS:List Rwq} {aU:Nat} {aW:Option Addr} {aX:Nat} {R:Int} (hR:A0q s aQ aV aY=R) (d:F1 aN aQ:=by exact bP) (k:aQ.length≤9223372036854775807:=by exact bP) (l:aQ.length≤aP:=by exact bP) (a:F1 aS aV:=by exact bP) (i:aV.length≤9223372036854775807:=by exact bP) (j:aV.length≤aU:=by exact bP) (g:aY.length≤9223372036854775807:=by exact bP) (f:aY.length≤aX:=by exact bP) (e:s.title.length≤100000000:=by exact bP):J5 Tryz.prog 20 [ag (aG s aO aQ aP aT aV aU aW aY aX)] [sl G2 aO aN,E7 C0 aN aQ,sl G2 aT aS,E7 C0 aS aV,sl R7 aW aY,P6,P7,O0,M9,K6] (iv R):=by
 refine bZ Tryz.func20 fun X hX hr hD=>?_
 replace hR:=(A0q.eq_1 ..).symm.trans hR
 have:=d.1
 have:=a.1
 refine bN rfl (zra 2 [] (fun c=>[(1,pt c 0)]) (fun _=>(aG s aO aQ aP aT aV aU aW aY aX)) 50 fun c=>?_)
 refine ie (A5 (bN rfl (zra 4 [0] (fun b=>[(3,pt b 0)]) (fun _=>(aG s aO aQ aP aT aV aU aW aY aX)) 83 fun b=>?_)))
 refine ie (bN rfl (bO 1 7 rfl ?_))
 refine zc rfl (B8o rfl d bP bP a) fun _=>?_
 refine bO 1 9 rfl ?_
 refine ie ?_
 refine zjb rfl hR ?_ ?_<;>clear hR<;>intro hR h
 ·refine bN rfl (bO 1 2 rfl ?_)
  subst hR
  refine ie (A8 ?_)
  exact G0 hr hD
 refine A4 (nx (bN rfl (bO 1 2 rfl ?_)))
 subst hR
 refine ie (A8 ?_)
 exact G0 hr hD
@[reducible] def F3y:List MapEntry:=[⟨iv 1,aE 41,0⟩,⟨iv 34,aE 42,1⟩,⟨iv 3,aE 43,2⟩,⟨iv 4,aE 44,3⟩,⟨iv 24,aE 44,4⟩,⟨iv 25,aE 45,5⟩,⟨iv 6,aE 46,6⟩,⟨iv 5,aE 47,7⟩,⟨iv 8,aE 48,8⟩,⟨iv 9,aE 49,9⟩,⟨iv 11,aE 50,10⟩,⟨iv 19,aE 51,11⟩,⟨iv 23,aE 52,12⟩,⟨iv 22,aE 53,13⟩,⟨iv 20,aE 54,14⟩,⟨iv 21,aE 55,15⟩,⟨iv 38,aE 56,16⟩,⟨iv 26,aE 57,17⟩,⟨iv 27,aE 58,18⟩,⟨iv 30,aE 59,19⟩,⟨iv 28,aE 60,20⟩,⟨iv 29,aE 61,21⟩,⟨iv 31,aE 62,22⟩,⟨iv 32,aE 63,23⟩,⟨iv 33,aE 64,24⟩,⟨iv 16,aE 65,25⟩,⟨iv 15,aE 66,26⟩,⟨iv 10,aE 67,27⟩,⟨iv 35,aE 68,28⟩,⟨iv 17,aE 69,29⟩,⟨iv 7,aE 70,30⟩,⟨iv 18,aE 71,31⟩,⟨iv 39,aE 72,32⟩,⟨iv 40,aE 73,33⟩,⟨iv 44,aE 74,34⟩,⟨iv 14,aE 75,35⟩,⟨iv 36,aE 76,36⟩,⟨iv 37,aE 77,37⟩,⟨iv 12,aE 78,38⟩,⟨iv 13,aE 79,39⟩]
@[reducible] def B1a:Obj:=.map F3y.toArray 40
def H1:Unit :=
 ()
set_option maxHeartbeats 1000000 in
theorem C5w {R:Unit} (hR:H1=R):cI Tryz.prog 22 [] [] [] (Nat) (fun x=>.map (some x)) (fun x=>[(x,B1a)]) (fun x=>[]):=by
 refine bZ Tryz.func22 fun X hX hr hD=>?_
 replace hR:=(H1.eq_1 ..).symm.trans hR
 refine bN rfl (pp0 1 rfl ?_)
 refine ie (bN rfl (it rfl (A0w rfl) fun a=>?_))
 refine B8t (m:=2) (mo:=1) (es':=F3y) D2h rfl 0 40 1 0 [] _ rfl oki ?_
 refine B1j (L':=[(a,B1a)]) rfl ?_
 refine bO 2 0 rfl ?_
 subst hR
 refine ie (A8 ?_)
 exact cD hr hD (N4 rfl (B0 rfl)) a bQ A9.nil
def C0a:Bool :=
 true
theorem C5j {R:Bool} (hR:C0a=R):J5 Tryz.prog 23 [iv 1] [] (bv R):=by
 refine bZ Tryz.func23 fun X hX hr hD=>?_
 replace hR:=(C0a.eq_1 ..).symm.trans hR
 refine bN rfl (pp0 1 rfl ?_)
 refine ie (bN rfl (bO 7 2 rfl ?_))
 subst hR
 refine ie (A8 ?_)
 exact G0 hr hD
def B5w (an:Int) (am:Int) (acolor:Col) (atext:List UInt8):Bool :=
 true
theorem C2k {an am:Int} {acolor:Col} {atext:List UInt8} {R:Bool} (hR:B5w an am acolor atext=R):J5 Tryz.prog 24 [ag (A1 (⟨1,an,am,acolor,atext⟩:Act))] [] (bv R):=by
 refine bZ Tryz.func24 fun X hX hr hD=>?_
 replace hR:=(B5w.eq_1 ..).symm.trans hR
 refine bN rfl (zra 2 [] (fun a=>[(1,pt a 0)]) (fun _=>(A1 (⟨1,an,am,acolor,atext⟩:Act))) 60 fun a=>?_)
 refine ie (A5 (bN rfl (cE 2 [0] 5 rfl ?_)))
 refine ie (B2 (bN rfl (bO 2 6 rfl ?_)))
 refine ie (Z1 rfl (bN rfl (bO 2 11 rfl ?_)))
 refine ie (Z1 rfl (A4 (nx (bN rfl (it rfl (A0w rfl) fun b=>?_)))))
 refine B8t (m:=2) (mo:=26) (es':=aB) B5i rfl 0 19 1 0 [] _ rfl oki ?_
 refine B1j (L':=[(b,aA),bx a (A1 (⟨1,an,am,acolor,atext⟩:Act)) 60]) rfl ?_
 refine bO 2 3 rfl ?_
 refine ie (bN rfl (cJ 2 28 29 rfl ?_))
 refine ix rfl (A2 (v:=iv 1) cA rfl rfl 1 rfl rfl) ?_
 refine ix rfl (B8p (v:=bv true) (j:=0) B5i rfl rfl rfl 0 rfl oki) ?_
 refine bO 1 2 rfl ?_
 subst hR
 refine ie (A8 ?_)
 exact G0 hr hD
def M8 (s:Sts) (cp:Int):Int×Sts×Int :=
 (bif (!decide ((V9 s)=0)) then (0,Sts.zero,(V9 s)) else (cp,{s with once:=0},0))
theorem C4r {s:Sts} {cp:Int} {R:Int×Sts×Int} (hR:M8 s cp=R) (b:s=Sts.zero:=by exact bP):J5 Tryz.prog 104 [ag (A3i s),iv cp] [] (.tuple #[iv R.1,ag (A3i R.2.1),iv R.2.2]):=by
 refine bZ Tryz.func104 fun X hX hr hD=>?_
 replace hR:=(M8.eq_1 ..).symm.trans hR
 refine bN rfl (A8c 4 [] (fun c d=>[(2,pt c 0),(5,pt d 0)]) (fun _ _=>(A3i s)) (fun _ _=>(A3i Sts.zero)) 43 43 fun c d=>?_)
 refine ie (A5 (bN rfl (bY 1 2 [1] [(9,ag (A3i s))] ?_)))
 refine zv rfl (B6l rfl) ?_
 refine bO 1 7 rfl ?_
 refine ie (bN rfl (bO 2 12 rfl ?_))
 refine ie ?_
 refine zjn rfl hR ?_ ?_<;>clear hR<;>intro hR f e
 ·refine bN rfl (zru 5 [0] [(4,iv 0),(6,iv (V9 s))] 0 (bx d (A3i Sts.zero) 43) ?_)
  subst hR
  refine ie (A8 ?_)
  exact cD hr hD (F4d rfl (B0 rfl) (D4 (us:=A3i Sts.zero) D9y rfl 0 rfl rfl rfl) (B0 rfl)) () bQ A9.nil
 refine A4 (nx (bN rfl (bO 1 15 rfl ?_)))
 refine ix rfl (A2 (v:=iv s.used) cA rfl rfl 1 rfl rfl) ?_
 refine P2 (v:=iv 0) 16 (congrArg (fun z=>some (iv z)) (by rw [b];rfl)) ?_
 refine bO 1 8 rfl ?_
 refine ie (A5 (bN rfl (bO 1 17 rfl ?_)))
 refine ix rfl (A2 (v:=iv s.once) cA rfl rfl 1 rfl rfl) ?_
 refine P2 (v:=iv 0) 18 (congrArg (fun z=>some (iv z)) (by rw [b];rfl)) ?_
 refine bO 1 19 rfl ?_
 refine ie (Z1 rfl (A4 (nx (bN rfl (zru 2 [1] [] 1 (bx c (A3i ({s with once:=0})) 43) ?_)))))
 refine ie (A5 (bN rfl (cJ 2 23 24 rfl ?_)))
 refine ix rfl (A2o Tryz.underlying41 cA rfl rfl rfl 0 rfl rfl) ?_
 refine ix rfl (A2 (v:=iv s.g.a) cA rfl rfl 1 rfl rfl) ?_
 refine P2 (v:=iv 0) 26 (congrArg (fun z=>some (iv z)) (by rw [b];rfl)) ?_
 refine bO 9 35 rfl ?_
 refine ie (Z1 rfl (A4 (nx (zS [(3,[0]),(5,[1])] ?_))))
 refine hq1 [0,2] 4 rfl ?_
 refine gl 1 [0,1] rfl (D6 (us:=A3i ({s with once:=0})) D9y rfl rfl 1 rfl rfl rfl) ?_
 refine go 3 [1] rfl (D8 (us:=A3i ({s with once:=0})) (cs':=A3i ({s with once:=0})) D9y rfl rfl rfl 0 rfl rfl rfl rfl rfl rfl) fun _=>?_
 refine hq1 [4] 6 rfl ?_
 refine ge ?_
 subst hR
 refine A8 ?_
 exact cD hr hD (F4d rfl (B0 rfl) (D4 (us:=A3i ({s with once:=0})) D9y rfl 0 rfl rfl rfl) (B0 rfl)) () bQ A9.nil
def F9 (s:ScrC) (aQ:List (Rwc Cel)) (aV:List (Rwc Cel)) (aY:List Bool):Unit :=
 ()
theorem A6l {s:ScrC} {aQ aV:List (Rwc Cel)} {aY:List Bool} {sb:Nat} {aO:Option Addr} {aN:List Rwq} {aP:Nat} {aT:Option Addr} {aS:List Rwq} {aU:Nat} {aW:Option Addr} {aX:Nat} {R:Unit} (hR:F9 s aQ aV aY=R) (d:F1 aN aQ:=by exact bP) (i:aQ.length≤9223372036854775807:=by exact bP) (j:aQ.length≤aP:=by exact bP) (c:F1 aS aV:=by exact bP) (g:aV.length≤9223372036854775807:=by exact bP) (h:aV.length≤aU:=by exact bP) (f:aY.length≤9223372036854775807:=by exact bP) (e:aY.length≤aX:=by exact bP) (a:s.onAlt=false:=by exact bP):cI Tryz.prog 125 [pt sb 0] [bx sb (aG s aO aQ aP aT aV aU aW aY aX) 83] [sl G2 aO aN,E7 C0 aN aQ,sl G2 aT aS,E7 C0 aS aV,sl R7 aW aY] (Unit) (fun x=>pt sb 2) (fun x=>[bx sb (aG s aO aQ aP aT aV aU aW aY aX) 83]) (fun x=>[]):=by
 refine bZ Tryz.func125 fun X hX hr hD=>?_
 replace hR:=(F9.eq_1 ..).symm.trans hR
 have:=d.1
 have:=c.1
 refine bN rfl (pp0 1 rfl ?_)
 refine ie (A5 (bN rfl (cE 5 [0] 7 rfl ?_)))
 refine ie (X7 rfl (fun b=>?_) (fun b=>?_))
 ·exfalso;simp [a] at b
 refine A4 (nx (bN rfl (bO 5 2 rfl ?_)))
 subst hR
 refine ie (A8 ?_)
 exact cD hr hD (N4 rfl (B0 rfl)) () bQ A9.nil
def B9 (bB:List Cel) (bC:Bool) (p1:Int) (p2:Int):List Cel×Bool×Int :=
 (C2 (B3j bB bC p1 p2) fun (a:List Cel×Bool×Int)=>(a.1,a.2.1,a.2.2))
theorem A8z {bB:List Cel} {bC:Bool} {p1 p2:Int} {aZ:Option Addr} {bA p1b p2b:Nat} {R:List Cel×Bool×Int} (hR:B9 bB bC p1 p2=R) (l:bB.length≤9223372036854775807:=by exact bP) (k:bB.length≤bA:=by exact bP):cI Tryz.prog 248 [ag [.slice aZ bB.length bA,bv bC],pt p1b 0,pt p2b 0] [bx p1b [iv p1] 3,bx p2b [iv p2] 3] [sl C0 aZ bB,P6,P7] ({t:Option Addr×Nat // R.1.length≤t.2∧R.1.length≤9223372036854775807}) (fun x=>.tuple #[ag [.slice x.1.1 R.1.length x.1.2,bv R.2.1],iv R.2.2]) (fun x=>[bx p1b [iv p1] 3,bx p2b [iv p2] 3]) (fun x=>[sl C0 x.1.1 R.1]):=by
 refine bZ Tryz.func248 fun X hX hr hD=>?_
 replace hR:=(B9.eq_1 ..).symm.trans hR
 refine bN rfl (A8c 3 [] (fun g d=>[(3,pt g 0),(4,pt d 0)]) (fun _ _=>[.slice aZ bB.length bA,bv bC]) (fun _ _=>[.slice none 0 0,bv false]) 34 34 fun g d=>?_)
 refine ie (bN rfl (bY 3 5 [1,2,3] [(6,ag [.slice aZ bB.length bA,bv bC]),(7,iv p1),(8,iv p2)] ?_))
 have i:=C9 hR;clear hR;obtain ⟨a,b,hR⟩:=i
 refine zc rfl (D9i b) fun ⟨⟨e,f⟩,c⟩=>?_
 obtain ⟨h,j⟩:=c
 refine zru 4 [0] [(5,iv a.2.2)] 0 (bx d [.slice e a.1.length f,bv a.2.1] 34) ?_
 subst hR
 refine ie (A8 ?_)
 exact cD hr hD (Q9 rfl (D4 (us:=[.slice e a.1.length f,bv a.2.1]) A3w rfl 0 rfl rfl rfl) (B0 rfl)) (zq e f) bQ c9
def A0h (s:ScrC) (aQ:List (Rwc Cel)) (aV:List (Rwc Cel)) (aY:List Bool) (d:Int) (c:Int):List (Rwc Cel) :=
 (C2 (A6o aQ s.cursor.row ((B9 ((aQ.getD ((s.cursor.row).toNat) bS).l) ((aQ.getD ((s.cursor.row).toNat) bS).b) d c).1) ((B9 ((aQ.getD ((s.cursor.row).toNat) bS).l) ((aQ.getD ((s.cursor.row).toNat) bS).b) d c).2.1)) fun (a:List (Rwc Cel)×Int)=>a.1)
theorem oya {p:Prop} (h:p:=by first|assumption|rfl|(simp only [*];done)):p:=h
theorem opl {p:Prop} (h:p:=by first|rfl|simp only [List.flatten_cons,List.flatten_nil,List.append_nil,List.cons_append,List.nil_append,List.append_assoc]):p:=h
theorem ohs {p:Prop} (h:p:=by first|omega|(simp only [List.length_take,List.length_drop,List.length_append,List.length_cons,List.length_nil,List.length_set,List.length_map,H1,F9];omega)|decide):p:=h
theorem B8i {s:ScrC} {aQ aV:List (Rwc Cel)} {aY:List Bool} {e a:Int} {sb:Nat} {aO:Option Addr} {aN:List Rwq} {aP:Nat} {aT:Option Addr} {aS:List Rwq} {aU:Nat} {aW:Option Addr} {aX f d:Nat} {R:List (Rwc Cel)} (hR:A0h s aQ aV aY e a=R) (bD:F1 aN aQ:=by exact bP) (bH:aQ.length≤9223372036854775807:=by exact bP) (bI:aQ.length≤aP:=by exact bP) (bE:F1 aS aV:=by exact bP) (bJ:aV.length≤9223372036854775807:=by exact bP) (bK:aV.length≤aU:=by exact bP) (bL:aY.length≤9223372036854775807:=by exact bP) (bM:aY.length≤aX:=by exact bP) (ai:s.onAlt=false:=by exact bP) (aj:0≤s.cursor.row∧s.cursor.row<(aQ.length:Int):=by exact bP):cI Tryz.prog 118 [pt sb 0,.func (.func 248) #[] #[pt f 0,pt d 0]] [bx sb (aG s aO aQ aP aT aV aU aW aY aX) 83,bx f [iv e] 3,bx d [iv a] 3] [sl G2 aO aN,E7 C0 aN aQ,sl G2 aT aS,E7 C0 aS aV,sl R7 aW aY,P6,P7] ({t:Option Addr×List Rwq×Nat // F1 t.2.1 R∧R.length≤t.2.2∧R.length≤9223372036854775807}) (fun x=>.tuple #[]) (fun x=>[bx sb (aG s x.1.1 R x.1.2.2 aT aV aU aW aY aX) 83,bx f [iv e] 3,bx d [iv a] 3]) (fun x=>[sl G2 x.1.1 x.1.2.1,E7 C0 x.1.2.1 R]):=by
 refine bZ Tryz.func118 fun X hX hr hD=>?_
 replace hR:=(A0h.eq_1 ..).symm.trans hR
 have:=bD.1
 have:=bE.1
 refine bN rfl (bO 1 7 rfl ?_)
 refine zc rfl (A6l rfl bD bP bP bE bP bP bP bP oya) fun _=>?_
 refine bO 1 4 rfl ?_
 refine ie (A8m (C7p (k:=(s.cursor.row).toNat) bD 1 rfl (by have:=bD.1;omega)) ?_)
 have:=B8c bD (k:=(s.cursor.row).toNat) (by have:=bD.1;omega)
 refine zS [(19,[0]),(19,[1]),(19,[2])] ?_
 refine hqV [0,1,2,4,5,6,7,8] [(10,.func (.func 248) #[] #[pt f 0,pt d 0]),(12,pt sb 2),(18,pt sb 6)] ?_
 refine gl 3 [0,1,2] rfl (A2 (v:=.slice aO aQ.length aP) C7r rfl rfl 0 rfl rfl) ?_
 refine gl 9 [0,1,2] rfl (A2 (v:=iv s.cursor.row) cA rfl rfl 0 rfl rfl) ?_
 refine C8i 1 rfl (by have:=bD.1;omega) fun a1 ab=>?_
 refine gk 10 rfl (H9 B1r rfl rfl ab rfl ((s.cursor.row).toNat) opx opx) ?_
 refine gk 11 rfl (G9 (K5 (us:=[.slice ((aN.getD ((s.cursor.row).toNat) cF).s.q) ((aN.getD ((s.cursor.row).toNat) cF).s.n) ((aN.getD ((s.cursor.row).toNat) cF).s.k),bv ((aN.getD ((s.cursor.row).toNat) cF).b)]) A3w rfl rfl (K2 (c:=G2) (sz:=2) ab (fun _=>rfl) 1 rfl (gd cF (by have:=bD.1;omega))) rfl) (D6v bD (by have:=bD.1;omega))) ?_
 refine gf 12 16 ?_ ?_
 ·refine gh 12 [0,1,2] rfl (J7 (L2:=[bx sb (aG s aO aQ aP aT aV aU aW aY aX) 83]) (A8z (bB:=((aQ.getD ((s.cursor.row).toNat) bS).l)) (bC:=((aQ.getD ((s.cursor.row).toNat) bS).b)) (p1:=e) (p2:=a) (aZ:=((aN.getD ((s.cursor.row).toNat) cF).s.q)) (bA:=((aN.getD ((s.cursor.row).toNat) cF).s.k)) (p1b:=f) (p2b:=d) rfl) rfl rfl rfl rfl rfl c9 (H2 [[bx sb (aG s aO aQ aP aT aV aU aW aY aX) 83],[bx f [iv e] 3],[bx d [iv a] 3]] [1,2,0] 3 rfl ozw rfl [[bx f [iv e] 3],[bx d [iv a] 3],[bx sb (aG s aO aQ aP aT aV aU aW aY aX) 83]] rfl opl) (fun ⟨⟨q3,k4⟩,ac⟩=>[bx sb (aG s aO aQ aP aT aV aU aW aY aX) 83,bx f [iv e] 3,bx d [iv a] 3]) (fun ⟨⟨q3,k4⟩,ac⟩=>H2 [[bx f [iv e] 3],[bx d [iv a] 3],[bx sb (aG s aO aQ aP aT aV aU aW aY aX) 83]] [2,0,1] 3 rfl ozw opl [[bx sb (aG s aO aQ aP aT aV aU aW aY aX) 83],[bx f [iv e] 3],[bx d [iv a] 3]] rfl opl)) fun ⟨⟨q3,k4⟩,ac⟩=>?_
  obtain ⟨al,am⟩:=ac
  refine hqV [13,14,15] [(23,ag [.slice q3 (((B9 ((aQ.getD ((s.cursor.row).toNat) bS).l) ((aQ.getD ((s.cursor.row).toNat) bS).b) e a).1).length) k4,bv ((B9 ((aQ.getD ((s.cursor.row).toNat) bS).l) ((aQ.getD ((s.cursor.row).toNat) bS).b) e a).2.1)]),(24,iv ((B9 ((aQ.getD ((s.cursor.row).toNat) bS).l) ((aQ.getD ((s.cursor.row).toNat) bS).b) e a).2.2))] ?_
  refine go 16 [0,1,2] rfl (S4 (cs:=[.slice none 0 0,bv false]) C2i rfl) fun b8=>?_
  refine go 17 [0,1,2] rfl (D8 (us:=[.slice q3 (((B9 ((aQ.getD ((s.cursor.row).toNat) bS).l) ((aQ.getD ((s.cursor.row).toNat) bS).b) e a).1).length) k4,bv ((B9 ((aQ.getD ((s.cursor.row).toNat) bS).l) ((aQ.getD ((s.cursor.row).toNat) bS).b) e a).2.1)]) (cs':=[.slice q3 (((B9 ((aQ.getD ((s.cursor.row).toNat) bS).l) ((aQ.getD ((s.cursor.row).toNat) bS).b) e a).1).length) k4,bv ((B9 ((aQ.getD ((s.cursor.row).toNat) bS).l) ((aQ.getD ((s.cursor.row).toNat) bS).b) e a).2.1)]) A3w rfl rfl rfl 0 rfl rfl rfl rfl rfl rfl) fun _=>?_
  refine hq0 [18] ?_
  refine ge ?_
  refine zSn [(17,[0]),(16,[1]),(17,[2]),(17,[3])] ?_
  refine hq3 [0,1,2,4,5,6,7,8] 26 28 34 rfl ?_
  refine gl 3 [0,1,2,3] rfl (A2 (v:=.slice aO aQ.length aP) C7r rfl rfl 1 rfl rfl) ?_
  refine gl 9 [0,1,2,3] rfl (A2 (v:=iv s.cursor.row) cA rfl rfl 1 rfl rfl) ?_
  refine gl 10 [0,1,2,3] rfl (D6 (us:=[.slice q3 (((B9 ((aQ.getD ((s.cursor.row).toNat) bS).l) ((aQ.getD ((s.cursor.row).toNat) bS).b) e a).1).length) k4,bv ((B9 ((aQ.getD ((s.cursor.row).toNat) bS).l) ((aQ.getD ((s.cursor.row).toNat) bS).b) e a).2.1)]) A3w rfl rfl 0 rfl rfl rfl) ?_
  have hQ:=C9 hR;clear hR;obtain ⟨i,y,hR⟩:=hQ
  refine go 11 [0,1,2,3] rfl (J7 (L2:=[bx b8 [.slice q3 (((B9 ((aQ.getD ((s.cursor.row).toNat) bS).l) ((aQ.getD ((s.cursor.row).toNat) bS).b) e a).1).length) k4,bv ((B9 ((aQ.getD ((s.cursor.row).toNat) bS).l) ((aQ.getD ((s.cursor.row).toNat) bS).b) e a).2.1)] 34,bx sb (aG s aO aQ aP aT aV aU aW aY aX) 83,bx f [iv e] 3,bx d [iv a] 3]) (B7g y bD) rfl rfl rfl rfl rfl c9 (List.Perm.refl _) (fun ⟨⟨z,j⟩,a0⟩=>(bx b8 [.slice q3 (((B9 ((aQ.getD ((s.cursor.row).toNat) bS).l) ((aQ.getD ((s.cursor.row).toNat) bS).b) e a).1).length) k4,bv ((B9 ((aQ.getD ((s.cursor.row).toNat) bS).l) ((aQ.getD ((s.cursor.row).toNat) bS).b) e a).2.1)] 34::bx sb (aG s aO aQ aP aT aV aU aW aY aX) 83::bx f [iv e] 3::bx d [iv a] 3::((vo G2 34 z j)++([])))) (fun ⟨⟨z,j⟩,a0⟩=>H2 [vo G2 34 z j,[bx b8 [.slice q3 (((B9 ((aQ.getD ((s.cursor.row).toNat) bS).l) ((aQ.getD ((s.cursor.row).toNat) bS).b) e a).1).length) k4,bv ((B9 ((aQ.getD ((s.cursor.row).toNat) bS).l) ((aQ.getD ((s.cursor.row).toNat) bS).b) e a).2.1)] 34],[bx sb (aG s aO aQ aP aT aV aU aW aY aX) 83],[bx f [iv e] 3],[bx d [iv a] 3]] [1,2,3,4,0] 5 rfl ozw opl [[bx b8 [.slice q3 (((B9 ((aQ.getD ((s.cursor.row).toNat) bS).l) ((aQ.getD ((s.cursor.row).toNat) bS).b) e a).1).length) k4,bv ((B9 ((aQ.getD ((s.cursor.row).toNat) bS).l) ((aQ.getD ((s.cursor.row).toNat) bS).b) e a).2.1)] 34],[bx sb (aG s aO aQ aP aT aV aU aW aY aX) 83],[bx f [iv e] 3],[bx d [iv a] 3],vo G2 34 z j] rfl opl)) fun ⟨⟨z,j⟩,a0⟩=>?_
  try dsimp only at a0
  obtain ⟨a2,a7⟩:=a0
  have:=bR.le a2
  have:=bR.cap a2
  have:=a7.1
  refine hq2 [12,13,14,15] 38 40 rfl ?_
  refine go 16 [0,2,3] rfl (D8 (us:=[.slice (va z.q) i.1.length z.k]) (cs':=aG s (va z.q) i.1 z.k aT aV aU aW aY aX) C7r rfl rfl rfl 1 rfl rfl rfl rfl rfl rfl) fun _=>?_
  refine gdn ?_
  refine B4n [bx b8 [.slice q3 (((B9 ((aQ.getD ((s.cursor.row).toNat) bS).l) ((aQ.getD ((s.cursor.row).toNat) bS).b) e a).1).length) k4,bv ((B9 ((aQ.getD ((s.cursor.row).toNat) bS).l) ((aQ.getD ((s.cursor.row).toNat) bS).b) e a).2.1)] 34,bx sb (aG s (va z.q) i.1 z.k aT aV aU aW aY aX) 83,bx f [iv e] 3,bx d [iv a] 3] [] (T:=34) (c:=G2) (r:=z) (xs:=j) (bR.cast a2 (by rw [a7.1])) omm ?_
  have:=bR.cap a2
  subst hR
  exact zen hr hD (A0x rfl) ⟨(va z.q,j,z.k),⟨a7,ohs,ohs⟩⟩ bQ c9
 ·refine gh 16 [0,1,2] rfl (S4 (cs:=[.slice none 0 0,bv false]) C2i rfl) fun m=>?_
  refine go 12 [0,1,2] rfl (J7 (L2:=[bx m [.slice none 0 0,bv false] 34,bx sb (aG s aO aQ aP aT aV aU aW aY aX) 83]) (A8z (bB:=((aQ.getD ((s.cursor.row).toNat) bS).l)) (bC:=((aQ.getD ((s.cursor.row).toNat) bS).b)) (p1:=e) (p2:=a) (aZ:=((aN.getD ((s.cursor.row).toNat) cF).s.q)) (bA:=((aN.getD ((s.cursor.row).toNat) cF).s.k)) (p1b:=f) (p2b:=d) rfl) rfl rfl rfl rfl rfl c9 (H2 [[bx m [.slice none 0 0,bv false] 34],[bx sb (aG s aO aQ aP aT aV aU aW aY aX) 83],[bx f [iv e] 3],[bx d [iv a] 3]] [2,3,0,1] 4 rfl ozw rfl [[bx f [iv e] 3],[bx d [iv a] 3],[bx m [.slice none 0 0,bv false] 34],[bx sb (aG s aO aQ aP aT aV aU aW aY aX) 83]] rfl opl) (fun ⟨⟨u,o⟩,a9⟩=>[bx m [.slice none 0 0,bv false] 34,bx sb (aG s aO aQ aP aT aV aU aW aY aX) 83,bx f [iv e] 3,bx d [iv a] 3]) (fun ⟨⟨u,o⟩,a9⟩=>H2 [[bx f [iv e] 3],[bx d [iv a] 3],[bx m [.slice none 0 0,bv false] 34],[bx sb (aG s aO aQ aP aT aV aU aW aY aX) 83]] [2,3,0,1] 4 rfl ozw opl [[bx m [.slice none 0 0,bv false] 34],[bx sb (aG s aO aQ aP aT aV aU aW aY aX) 83],[bx f [iv e] 3],[bx d [iv a] 3]] rfl opl)) fun ⟨⟨u,o⟩,a9⟩=>?_
  obtain ⟨ah,af⟩:=a9
  refine hqV [13,14,15] [(23,ag [.slice u (((B9 ((aQ.getD ((s.cursor.row).toNat) bS).l) ((aQ.getD ((s.cursor.row).toNat) bS).b) e a).1).length) o,bv ((B9 ((aQ.getD ((s.cursor.row).toNat) bS).l) ((aQ.getD ((s.cursor.row).toNat) bS).b) e a).2.1)]),(24,iv ((B9 ((aQ.getD ((s.cursor.row).toNat) bS).l) ((aQ.getD ((s.cursor.row).toNat) bS).b) e a).2.2))] ?_
  refine go 17 [0,1,2] rfl (D8 (us:=[.slice u (((B9 ((aQ.getD ((s.cursor.row).toNat) bS).l) ((aQ.getD ((s.cursor.row).toNat) bS).b) e a).1).length) o,bv ((B9 ((aQ.getD ((s.cursor.row).toNat) bS).l) ((aQ.getD ((s.cursor.row).toNat) bS).b) e a).2.1)]) (cs':=[.slice u (((B9 ((aQ.getD ((s.cursor.row).toNat) bS).l) ((aQ.getD ((s.cursor.row).toNat) bS).b) e a).1).length) o,bv ((B9 ((aQ.getD ((s.cursor.row).toNat) bS).l) ((aQ.getD ((s.cursor.row).toNat) bS).b) e a).2.1)]) A3w rfl rfl rfl 0 rfl rfl rfl rfl rfl rfl) fun _=>?_
  refine hq0 [18] ?_
  refine ge ?_
  refine zSn [(17,[0]),(16,[1]),(17,[2]),(17,[3])] ?_
  refine hq3 [0,1,2,4,5,6,7,8] 26 28 34 rfl ?_
  refine gl 3 [0,1,2,3] rfl (A2 (v:=.slice aO aQ.length aP) C7r rfl rfl 1 rfl rfl) ?_
  refine gl 9 [0,1,2,3] rfl (A2 (v:=iv s.cursor.row) cA rfl rfl 1 rfl rfl) ?_
  refine gl 10 [0,1,2,3] rfl (D6 (us:=[.slice u (((B9 ((aQ.getD ((s.cursor.row).toNat) bS).l) ((aQ.getD ((s.cursor.row).toNat) bS).b) e a).1).length) o,bv ((B9 ((aQ.getD ((s.cursor.row).toNat) bS).l) ((aQ.getD ((s.cursor.row).toNat) bS).b) e a).2.1)]) A3w rfl rfl 0 rfl rfl rfl) ?_
  have hQ:=C9 hR;clear hR;obtain ⟨g,w,hR⟩:=hQ
  refine go 11 [0,1,2,3] rfl (J7 (L2:=[bx m [.slice u (((B9 ((aQ.getD ((s.cursor.row).toNat) bS).l) ((aQ.getD ((s.cursor.row).toNat) bS).b) e a).1).length) o,bv ((B9 ((aQ.getD ((s.cursor.row).toNat) bS).l) ((aQ.getD ((s.cursor.row).toNat) bS).b) e a).2.1)] 34,bx sb (aG s aO aQ aP aT aV aU aW aY aX) 83,bx f [iv e] 3,bx d [iv a] 3]) (B7g w bD) rfl rfl rfl rfl rfl c9 (List.Perm.refl _) (fun ⟨⟨h,p⟩,a3⟩=>(bx m [.slice u (((B9 ((aQ.getD ((s.cursor.row).toNat) bS).l) ((aQ.getD ((s.cursor.row).toNat) bS).b) e a).1).length) o,bv ((B9 ((aQ.getD ((s.cursor.row).toNat) bS).l) ((aQ.getD ((s.cursor.row).toNat) bS).b) e a).2.1)] 34::bx sb (aG s aO aQ aP aT aV aU aW aY aX) 83::bx f [iv e] 3::bx d [iv a] 3::((vo G2 34 h p)++([])))) (fun ⟨⟨h,p⟩,a3⟩=>H2 [vo G2 34 h p,[bx m [.slice u (((B9 ((aQ.getD ((s.cursor.row).toNat) bS).l) ((aQ.getD ((s.cursor.row).toNat) bS).b) e a).1).length) o,bv ((B9 ((aQ.getD ((s.cursor.row).toNat) bS).l) ((aQ.getD ((s.cursor.row).toNat) bS).b) e a).2.1)] 34],[bx sb (aG s aO aQ aP aT aV aU aW aY aX) 83],[bx f [iv e] 3],[bx d [iv a] 3]] [1,2,3,4,0] 5 rfl ozw opl [[bx m [.slice u (((B9 ((aQ.getD ((s.cursor.row).toNat) bS).l) ((aQ.getD ((s.cursor.row).toNat) bS).b) e a).1).length) o,bv ((B9 ((aQ.getD ((s.cursor.row).toNat) bS).l) ((aQ.getD ((s.cursor.row).toNat) bS).b) e a).2.1)] 34],[bx sb (aG s aO aQ aP aT aV aU aW aY aX) 83],[bx f [iv e] 3],[bx d [iv a] 3],vo G2 34 h p] rfl opl)) fun ⟨⟨h,p⟩,a3⟩=>?_
  try dsimp only at a3
  obtain ⟨a4,aa⟩:=a3
  have:=bR.le a4
  have:=bR.cap a4
  have:=aa.1
  refine hq2 [12,13,14,15] 38 40 rfl ?_
  refine go 16 [0,2,3] rfl (D8 (us:=[.slice (va h.q) g.1.length h.k]) (cs':=aG s (va h.q) g.1 h.k aT aV aU aW aY aX) C7r rfl rfl rfl 1 rfl rfl rfl rfl rfl rfl) fun _=>?_
  refine gdn ?_
  refine B4n [bx m [.slice u (((B9 ((aQ.getD ((s.cursor.row).toNat) bS).l) ((aQ.getD ((s.cursor.row).toNat) bS).b) e a).1).length) o,bv ((B9 ((aQ.getD ((s.cursor.row).toNat) bS).l) ((aQ.getD ((s.cursor.row).toNat) bS).b) e a).2.1)] 34,bx sb (aG s (va h.q) g.1 h.k aT aV aU aW aY aX) 83,bx f [iv e] 3,bx d [iv a] 3] [] (T:=34) (c:=G2) (r:=h) (xs:=p) (bR.cast a4 (by rw [aa.1])) omm ?_
  have:=bR.cap a4
  subst hR
  exact zen hr hD (A0x rfl) ⟨(va h.q,p,h.k),⟨aa,ohs,ohs⟩⟩ bQ c9
def Q5 (s:ScrC) (aQ:List (Rwc Cel)) (aV:List (Rwc Cel)) (aY:List Bool) (cp:Int) (at_:Int):List (Rwc Cel) :=
 (bif (decide ((0:Int)≤at_)) then (C2 (A0h s aQ aV aY at_ cp) fun (a:List (Rwc Cel))=>a) else aQ)
def A4z (s:ScrC) (aQ:List (Rwc Cel)) (aV:List (Rwc Cel)) (aY:List Bool) (cp:Int):List (Rwc Cel) :=
 (bif (!s.cursor.wrap) then Q5 s aQ aV aY cp (IntKind.i64.wrap (s.cursor.col - (1:Int))) else Q5 s aQ aV aY cp s.cursor.col)
theorem C0v {s:ScrC} {aQ aV:List (Rwc Cel)} {aY:List Bool} {cp:Int} {sb:Nat} {aO:Option Addr} {aN:List Rwq} {aP:Nat} {aT:Option Addr} {aS:List Rwq} {aU:Nat} {aW:Option Addr} {aX:Nat} {R:List (Rwc Cel)} (hR:A4z s aQ aV aY cp=R) (i:F1 aN aQ:=by exact bP) (y:aQ.length≤9223372036854775807:=by exact bP) (bI:aQ.length≤aP:=by exact bP) (k:F1 aS aV:=by exact bP) (v:aV.length≤9223372036854775807:=by exact bP) (w:aV.length≤aU:=by exact bP) (u:aY.length≤9223372036854775807:=by exact bP) (r:aY.length≤aX:=by exact bP) (j:s.onAlt=false:=by exact bP) (e:0≤s.cursor.row∧s.cursor.row<(aQ.length:Int):=by exact bP):cI Tryz.prog 190 [pt sb 0,iv cp] [bx sb (aG s aO aQ aP aT aV aU aW aY aX) 83] [sl G2 aO aN,E7 C0 aN aQ,sl G2 aT aS,E7 C0 aS aV,sl R7 aW aY,P6,P7] ({t:Option Addr×List Rwq×Nat // F1 t.2.1 R∧R.length≤t.2.2∧R.length≤9223372036854775807}) (fun x=>.tuple #[]) (fun x=>[bx sb (aG s x.1.1 R x.1.2.2 aT aV aU aW aY aX) 83]) (fun x=>[sl G2 x.1.1 x.1.2.1,E7 C0 x.1.2.1 R]):=by
 refine bZ Tryz.func190 fun X hX hr hD=>?_
 replace hR:=(A4z.eq_1 ..).symm.trans hR
 have:=i.1
 have:=k.1
 refine bN rfl (zra 1 [] (fun f=>[(3,pt f 0)]) (fun _=>[iv cp]) 3 fun f=>?_)
 refine ie (bN rfl (zra 8 [1,0] (fun c=>[(4,pt c 0)]) (fun _=>[iv s.cursor.col]) 3 fun c=>?_))
 refine ie (A9c (fun (at_:Int)=>(Q5 s aQ aV aY cp at_=R,[(0,pt sb 0),(3,pt f 0),(4,pt c 0)],[bx c [iv at_] 3,bx f [iv cp] 3,bx sb (aG s aO aQ aP aT aV aU aW aY aX) 83],[sl G2 aO aN,E7 C0 aN aQ,sl G2 aT aS,E7 C0 aS aV,sl R7 aW aY,P6,P7])) ?_ ?_)
 ·refine bN rfl (cE 7 [2] 17 rfl ?_)
  refine ie ?_
  refine zjb rfl hR ?_ ?_<;>clear hR<;>intro hR z
  ·refine A0 3 rfl (cE 1 [0] 18 rfl ?_)
   refine ix rfl (I6.pure rfl) ?_
   refine zru 1 [0] [] 0 (bx c [iv (IntKind.i64.wrap (s.cursor.col - (1:Int)))] 3) ?_
   refine A3 ?_
   exact X5 (IntKind.i64.wrap (s.cursor.col - (1:Int))) hR bQ A9.refl
  refine A4 ?_
  exact X5 s.cursor.col hR bQ A9.refl
 intro at_
 rintro hR
 replace hR:=(Q5.eq_1 ..).symm.trans hR
 refine bN rfl (cE 2 [0] 21 rfl ?_)
 refine ie ?_
 refine zjd rfl hR ?_ ?_<;>clear hR<;>intro hR h4 m
 ·refine A0 3 rfl (ip' 2 1 [(22,pt sb 0),(23,.func (.func 248) #[] #[pt c 0,pt f 0])] ?_)
  have q:=C9 hR;clear hR;obtain ⟨b,a,hR⟩:=q
  refine zc rfl (B8i a i bP bP k bP bP bP bP oya (by first|assumption|exact e)) fun ⟨⟨n,h,o⟩,g⟩=>?_
  obtain ⟨d,p,l⟩:=g
  have:=d.1
  subst hR
  refine A3 ?_
  exact zen hr hD (A0x rfl) ⟨(n,h,o),⟨d,ohs,ohs⟩⟩ bQ c9
 subst hR
 refine A4 ?_
 exact zen hr hD (A0x rfl) ⟨(aO,aN,aP),⟨i,ohs,ohs⟩⟩ bQ c9
def A6 (bB:List Cel) (bC:Bool) (p1:ScrC) (p1Main:List (Rwc Cel)) (p1Alt:List (Rwc Cel)) (p1Tabs:List Bool) (p2:Int) (p3:Int) (p4:Int):List Cel×Bool×Int :=
 (C2 (B6v bB bC p2 ({Cel.zero with base:=p4,wide:=(IntKind.i64.wrap (p3 - (1:Int))),sty:=p1.style})) fun (a:List Cel×Bool×Int)=>(a.1,a.2.1,a.2.2))
theorem B0x {bB:List Cel} {bC:Bool} {p1:ScrC} {p1Main p1Alt:List (Rwc Cel)} {p1Tabs:List Bool} {p2 p3 p4:Int} {aZ:Option Addr} {bA p1b p1b1:Nat} {p1Mainq:Option Addr} {p1Mainrs:List Rwq} {p1Maink:Nat} {p1Altq:Option Addr} {p1Altrs:List Rwq} {p1Altk:Nat} {p1Tabsq:Option Addr} {p1Tabsk p2b p3b p4b:Nat} {R:List Cel×Bool×Int} (hR:A6 bB bC p1 p1Main p1Alt p1Tabs p2 p3 p4=R) (u:bB.length≤9223372036854775807:=by exact bP) (w:bB.length≤bA:=by exact bP) (b:F1 p1Mainrs p1Main:=by exact bP) (h:p1Main.length≤9223372036854775807:=by exact bP) (g:p1Main.length≤p1Maink:=by exact bP) (c:F1 p1Altrs p1Alt:=by exact bP) (l:p1Alt.length≤9223372036854775807:=by exact bP) (n:p1Alt.length≤p1Altk:=by exact bP) (j:p1Tabs.length≤9223372036854775807:=by exact bP) (i:p1Tabs.length≤p1Tabsk:=by exact bP) (m:p1.modes.insert=false:=by exact bP):cI Tryz.prog 192 [ag [.slice aZ bB.length bA,bv bC],pt p1b 0,pt p2b 0,pt p3b 0,pt p4b 0] [bx p1b1 (aG p1 p1Mainq p1Main p1Maink p1Altq p1Alt p1Altk p1Tabsq p1Tabs p1Tabsk) 83,bx p1b [pt p1b1 0] 81,bx p2b [iv p2] 3,bx p3b [iv p3] 3,bx p4b [iv p4] 3] [sl C0 aZ bB,sl G2 p1Mainq p1Mainrs,E7 C0 p1Mainrs p1Main,sl G2 p1Altq p1Altrs,E7 C0 p1Altrs p1Alt,sl R7 p1Tabsq p1Tabs,P6,P7] ({r:VR // bR 12 R.1.length r}) (fun x=>.tuple #[ag [.slice (va x.1.q) R.1.length x.1.k,bv R.2.1],iv R.2.2]) (fun x=>(bx p1b1 (aG p1 p1Mainq p1Main p1Maink p1Altq p1Alt p1Altk p1Tabsq p1Tabs p1Tabsk) 83::bx p1b [pt p1b1 0] 81::bx p2b [iv p2] 3::bx p3b [iv p3] 3::bx p4b [iv p4] 3::((vo C0 37 x.1 R.1)++([])))) (fun x=>[]):=by
 refine bZ Tryz.func192 fun X hX hr hD=>?_
 replace hR:=(A6.eq_1 ..).symm.trans hR
 have:=b.1
 have:=c.1
 refine bN rfl (A8c 3 [] (fun s o=>[(5,pt s 0),(6,pt o 0)]) (fun _ _=>[.slice aZ bB.length bA,bv bC]) (fun _ _=>[.slice none 0 0,bv false]) 34 34 fun s o=>?_)
 refine ie (A5 (bN rfl (cE 6 [3,2] 13 rfl ?_)))
 refine ie (X7 rfl (fun p=>?_) (fun p=>?_))
 ·exfalso;simp [m] at p
 refine A4 (nx (zS [(14,[0]),(16,[1]),(16,[2]),(16,[3]),(16,[4]),(16,[5]),(16,[6])] ?_))
 refine gl 0 [0,1,2,3,4,5,6] rfl (D6 (us:=[.slice aZ bB.length bA,bv bC]) A3w rfl rfl 1 rfl rfl rfl) ?_
 refine gl 1 [0,1,2,3,4,5,6] rfl (A2 (v:=iv p2) cA rfl rfl 4 rfl rfl) ?_
 refine gl 2 [0,1,2,3,4,5,6] rfl (A2 (v:=iv p4) cA rfl rfl 6 rfl rfl) ?_
 refine gl 3 [0,1,2,3,4,5,6] rfl (A2 (v:=iv p3) cA rfl rfl 5 rfl rfl) ?_
 refine gk 4 rfl (I6.pure rfl) ?_
 refine gl 5 [0,1,2,3,4,5,6] rfl (A2 (v:=pt p1b1 0) E5v rfl rfl 3 rfl rfl) ?_
 refine hq1 [6,7,8] 31 rfl ?_
 refine gl 9 [0,1,2,3,4,5,6] rfl (D6 (us:=B3 p1.style) A6y rfl rfl 2 rfl rfl rfl) ?_
 refine gk 10 rfl (U8 (cs:=C0 ({Cel.zero with base:=p4,wide:=(IntKind.i64.wrap (p3 - (1:Int))),sty:=p1.style})) rfl rfl oki) ?_
 have t:=C9 hR;clear hR;obtain ⟨a,d,hR⟩:=t
 refine gc 11 [0,1,2,3,4,5,6] rfl (E4m d) fun ⟨e,f⟩=>?_
 have:=bR.le f
 have:=bR.cap f
 refine hqV [12,13] [(35,ag [.slice (va e.q) a.1.length e.k,bv a.2.1]),(36,iv a.2.2)] ?_
 refine go 14 [1,2,3,4,5,6] rfl (D8 (us:=[.slice (va e.q) a.1.length e.k,bv a.2.1]) (cs':=[.slice (va e.q) a.1.length e.k,bv a.2.1]) A3w rfl rfl rfl 0 rfl rfl rfl rfl rfl rfl) fun _=>?_
 refine hq1 [15] 7 rfl ?_
 refine ge ?_
 subst hR
 refine A8 ?_
 exact cD hr hD (Q9 rfl (D4 (us:=[.slice (va e.q) a.1.length e.k,bv a.2.1]) A3w rfl 0 rfl rfl rfl) (B0 rfl)) ⟨e,f⟩ bQ A9.nil
def U1 (s:ScrC) (aQ:List (Rwc Cel)) (aV:List (Rwc Cel)) (aY:List Bool) (e:Int) (d:Int) (c:Int):List (Rwc Cel) :=
 (C2 (A6o aQ s.cursor.row ((A6 ((aQ.getD ((s.cursor.row).toNat) bS).l) ((aQ.getD ((s.cursor.row).toNat) bS).b) s aQ aV aY e d c).1) ((A6 ((aQ.getD ((s.cursor.row).toNat) bS).l) ((aQ.getD ((s.cursor.row).toNat) bS).b) s aQ aV aY e d c).2.1)) fun (a:List (Rwc Cel)×Int)=>a.1)
theorem B7b {s:ScrC} {aQ aV:List (Rwc Cel)} {aY:List Bool} {h d a:Int} {sb:Nat} {aO:Option Addr} {aN:List Rwq} {aP:Nat} {aT:Option Addr} {aS:List Rwq} {aU:Nat} {aW:Option Addr} {aX i e g f:Nat} {R:List (Rwc Cel)} (hR:U1 s aQ aV aY h d a=R) (bD:F1 aN aQ:=by exact bP) (bH:aQ.length≤9223372036854775807:=by exact bP) (bI:aQ.length≤aP:=by exact bP) (bE:F1 aS aV:=by exact bP) (bJ:aV.length≤9223372036854775807:=by exact bP) (bK:aV.length≤aU:=by exact bP) (bL:aY.length≤9223372036854775807:=by exact bP) (bM:aY.length≤aX:=by exact bP) (aj:s.onAlt=false:=by exact bP) (ak:0≤s.cursor.row∧s.cursor.row<(aQ.length:Int):=by exact bP) (ad:s.modes.insert=false:=by exact bP):cI Tryz.prog 118 [pt sb 0,.func (.func 192) #[] #[pt i 0,pt e 0,pt g 0,pt f 0]] [bx sb (aG s aO aQ aP aT aV aU aW aY aX) 83,bx i [pt sb 0] 81,bx e [iv h] 3,bx g [iv d] 3,bx f [iv a] 3] [sl G2 aO aN,E7 C0 aN aQ,sl G2 aT aS,E7 C0 aS aV,sl R7 aW aY,P6,P7] ({t:Option Addr×List Rwq×Nat // F1 t.2.1 R∧R.length≤t.2.2∧R.length≤9223372036854775807}) (fun x=>.tuple #[]) (fun x=>[bx sb (aG s x.1.1 R x.1.2.2 aT aV aU aW aY aX) 83,bx i [pt sb 0] 81,bx e [iv h] 3,bx g [iv d] 3,bx f [iv a] 3]) (fun x=>[sl G2 x.1.1 x.1.2.1,E7 C0 x.1.2.1 R]):=by
 refine bZ Tryz.func118 fun X hX hr hD=>?_
 replace hR:=(U1.eq_1 ..).symm.trans hR
 have:=bD.1
 have:=bE.1
 refine bN rfl (bO 1 7 rfl ?_)
 refine zc rfl (A6l rfl bD bP bP bE bP bP bP bP oya) fun _=>?_
 refine bO 1 4 rfl ?_
 refine ie (A8m (C7p (k:=(s.cursor.row).toNat) bD 1 rfl (by have:=bD.1;omega)) ?_)
 have:=B8c bD (k:=(s.cursor.row).toNat) (by have:=bD.1;omega)
 refine sh 19 [(19,[bx sb (aG s aO aQ aP aT aV aU aW aY aX) 83]),(19,[bx i [pt sb 0] 81]),(19,[bx e [iv h] 3]),(19,[bx g [iv d] 3]),(19,[bx f [iv a] 3])] [sl C0 ((aN.getD ((s.cursor.row).toNat) cF).s.q) ((aQ.getD ((s.cursor.row).toNat) bS).l),sl G2 aO aN,E7 C0 aN aQ,sl G2 aT aS,E7 C0 aS aV,sl R7 aW aY,P6,P7] [bx sb (aG s aO aQ aP aT aV aU aW aY aX) 83,bx i [pt sb 0] 81,bx e [iv h] 3,bx g [iv d] 3,bx f [iv a] 3] (bV 19 0) oki rfl oki oki oki bQ A9.refl ?_
 refine zhp [0,1,2,4,5,6,7,8] 11 (bV 19 503) [(10,.func (.func 192) #[] #[pt i 0,pt e 0,pt g 0,pt f 0]),(12,pt sb 2),(18,pt sb 6)] ?_
 refine zhl 3 [bx sb (aG s aO aQ aP aT aV aU aW aY aX) 83,bx i [pt sb 0] 81,bx e [iv h] 3,bx g [iv d] 3,bx f [iv a] 3] (bV 19 511) rfl (A2 (v:=.slice aO aQ.length aP) C7r rfl rfl 0 rfl rfl) ?_
 refine zhl 9 [bx sb (aG s aO aQ aP aT aV aU aW aY aX) 83,bx i [pt sb 0] 81,bx e [iv h] 3,bx g [iv d] 3,bx f [iv a] 3] (bV 19 1023) rfl (A2 (v:=iv s.cursor.row) cA rfl rfl 0 rfl rfl) ?_
 refine C8i 1 rfl (by have:=bD.1;omega) fun a1 ae=>?_
 refine zhk 10 (bV 19 2047) rfl (H9 B1r rfl rfl ae rfl ((s.cursor.row).toNat) opx opx) ?_
 refine zhk 11 (bV 19 4095) rfl (G9 (K5 (us:=[.slice ((aN.getD ((s.cursor.row).toNat) cF).s.q) ((aN.getD ((s.cursor.row).toNat) cF).s.n) ((aN.getD ((s.cursor.row).toNat) cF).s.k),bv ((aN.getD ((s.cursor.row).toNat) cF).b)]) A3w rfl rfl (K2 (c:=G2) (sz:=2) ae (fun _=>rfl) 1 rfl (gd cF (by have:=bD.1;omega))) rfl) (D6v bD (by have:=bD.1;omega))) ?_
 refine D3w 12 16 oki ?_ ?_
 ·refine E4v 12 [bx sb (aG s aO aQ aP aT aV aU aW aY aX) 83,bx i [pt sb 0] 81,bx e [iv h] 3,bx g [iv d] 3,bx f [iv a] 3] (bV 19 8191) rfl rfl rfl oki oki oki (G7 (L2:=[]) (B0x (bB:=((aQ.getD ((s.cursor.row).toNat) bS).l)) (bC:=((aQ.getD ((s.cursor.row).toNat) bS).b)) (p1:=s) (p1Main:=aQ) (p1Alt:=aV) (p1Tabs:=aY) (p2:=h) (p3:=d) (p4:=a) (aZ:=((aN.getD ((s.cursor.row).toNat) cF).s.q)) (bA:=((aN.getD ((s.cursor.row).toNat) cF).s.k)) (p1b:=i) (p1b1:=sb) (p1Mainq:=aO) (p1Mainrs:=aN) (p1Maink:=aP) (p1Altq:=aT) (p1Altrs:=aS) (p1Altk:=aU) (p1Tabsq:=aW) (p1Tabsk:=aX) (p2b:=e) (p3b:=g) (p4b:=f) rfl bP bP bD bP bP bE bP bP bP bP (by first|assumption|exact ad)) rfl rfl rfl rfl rfl A9.refl (H2 [[bx sb (aG s aO aQ aP aT aV aU aW aY aX) 83],[bx i [pt sb 0] 81],[bx e [iv h] 3],[bx g [iv d] 3],[bx f [iv a] 3]] [0,1,2,3,4] 5 rfl ozw rfl [[bx sb (aG s aO aQ aP aT aV aU aW aY aX) 83],[bx i [pt sb 0] 81],[bx e [iv h] 3],[bx g [iv d] 3],[bx f [iv a] 3]] rfl opl) (fun ⟨o,a5⟩=>(bx sb (aG s aO aQ aP aT aV aU aW aY aX) 83::bx i [pt sb 0] 81::bx e [iv h] 3::bx g [iv d] 3::bx f [iv a] 3::((vo C0 37 o ((A6 ((aQ.getD ((s.cursor.row).toNat) bS).l) ((aQ.getD ((s.cursor.row).toNat) bS).b) s aQ aV aY h d a).1))++([])))) (fun _=>by first|rfl|simp only [List.append_nil,List.cons_append,List.nil_append,List.append_assoc])) (fun ⟨o,a5⟩=>bQ) (fun ⟨o,a5⟩=>A9.refl) fun ⟨o,a5⟩=>?_
  have:=bR.le a5
  have:=bR.cap a5
  refine zhp [13,14,15] 3 (bV 19 65535) [(23,ag [.slice (va o.q) (((A6 ((aQ.getD ((s.cursor.row).toNat) bS).l) ((aQ.getD ((s.cursor.row).toNat) bS).b) s aQ aV aY h d a).1).length) o.k,bv ((A6 ((aQ.getD ((s.cursor.row).toNat) bS).l) ((aQ.getD ((s.cursor.row).toNat) bS).b) s aQ aV aY h d a).2.1)]),(24,iv ((A6 ((aQ.getD ((s.cursor.row).toNat) bS).l) ((aQ.getD ((s.cursor.row).toNat) bS).b) s aQ aV aY h d a).2.2))] ?_
  refine zho 16 [bx sb (aG s aO aQ aP aT aV aU aW aY aX) 83,bx i [pt sb 0] 81,bx e [iv h] 3,bx g [iv d] 3,bx f [iv a] 3] (bV 19 131071) rfl (S4 (cs:=[.slice none 0 0,bv false]) C2i rfl) (fun b5=>bQ) (fun b5=>A9.refl) fun b5=>?_
  refine zho 17 [bx sb (aG s aO aQ aP aT aV aU aW aY aX) 83,bx i [pt sb 0] 81,bx e [iv h] 3,bx g [iv d] 3,bx f [iv a] 3] (bV 19 262143) rfl (D8 (us:=[.slice (va o.q) (((A6 ((aQ.getD ((s.cursor.row).toNat) bS).l) ((aQ.getD ((s.cursor.row).toNat) bS).b) s aQ aV aY h d a).1).length) o.k,bv ((A6 ((aQ.getD ((s.cursor.row).toNat) bS).l) ((aQ.getD ((s.cursor.row).toNat) bS).b) s aQ aV aY h d a).2.1)]) (cs':=[.slice (va o.q) (((A6 ((aQ.getD ((s.cursor.row).toNat) bS).l) ((aQ.getD ((s.cursor.row).toNat) bS).b) s aQ aV aY h d a).1).length) o.k,bv ((A6 ((aQ.getD ((s.cursor.row).toNat) bS).l) ((aQ.getD ((s.cursor.row).toNat) bS).b) s aQ aV aY h d a).2.1)]) A3w rfl rfl rfl 0 rfl rfl rfl rfl rfl rfl) (fun _=>bQ) (fun _=>A9.refl) fun _=>?_
  refine zhp [18] 0 (bV 19 524287) [] ?_
  refine B1f oki ?_
  have:=bR.cap a5
  have:=bR.le a5
  refine D5n [bx b5 [.slice (va o.q) (((A6 ((aQ.getD ((s.cursor.row).toNat) bS).l) ((aQ.getD ((s.cursor.row).toNat) bS).b) s aQ aV aY h d a).1).length) o.k,bv ((A6 ((aQ.getD ((s.cursor.row).toNat) bS).l) ((aQ.getD ((s.cursor.row).toNat) bS).b) s aQ aV aY h d a).2.1)] 34,bx sb (aG s aO aQ aP aT aV aU aW aY aX) 83,bx i [pt sb 0] 81,bx e [iv h] 3,bx g [iv d] 3,bx f [iv a] 3] [] (T:=37) (c:=C0) (r:=o) (xs:=(A6 ((aQ.getD ((s.cursor.row).toNat) bS).l) ((aQ.getD ((s.cursor.row).toNat) bS).b) s aQ aV aY h d a).1) a5 oll ?_
  refine sh' 17 [(17,[bx b5 [.slice (va o.q) (((A6 ((aQ.getD ((s.cursor.row).toNat) bS).l) ((aQ.getD ((s.cursor.row).toNat) bS).b) s aQ aV aY h d a).1).length) o.k,bv ((A6 ((aQ.getD ((s.cursor.row).toNat) bS).l) ((aQ.getD ((s.cursor.row).toNat) bS).b) s aQ aV aY h d a).2.1)] 34]),(16,[bx sb (aG s aO aQ aP aT aV aU aW aY aX) 83]),(17,[bx i [pt sb 0] 81]),(17,[bx e [iv h] 3]),(17,[bx g [iv d] 3]),(17,[bx f [iv a] 3])] [sl C0 (va o.q) ((A6 ((aQ.getD ((s.cursor.row).toNat) bS).l) ((aQ.getD ((s.cursor.row).toNat) bS).b) s aQ aV aY h d a).1),sl C0 ((aN.getD ((s.cursor.row).toNat) cF).s.q) ((aQ.getD ((s.cursor.row).toNat) bS).l),sl G2 aO aN,E7 C0 aN aQ,sl G2 aT aS,E7 C0 aS aV,sl R7 aW aY,P6,P7] [bx b5 [.slice (va o.q) (((A6 ((aQ.getD ((s.cursor.row).toNat) bS).l) ((aQ.getD ((s.cursor.row).toNat) bS).b) s aQ aV aY h d a).1).length) o.k,bv ((A6 ((aQ.getD ((s.cursor.row).toNat) bS).l) ((aQ.getD ((s.cursor.row).toNat) bS).b) s aQ aV aY h d a).2.1)] 34,bx sb (aG s aO aQ aP aT aV aU aW aY aX) 83,bx i [pt sb 0] 81,bx e [iv h] 3,bx g [iv d] 3,bx f [iv a] 3] (bV 17 0) oki rfl oki oki oki bQ A9.refl ?_
  refine zhp [0,1,2,4,5,6,7,8] 9 (bV 17 503) [(26,pt sb 2),(28,pt sb 2),(34,pt sb 6)] ?_
  refine zhl 3 [bx b5 [.slice (va o.q) (((A6 ((aQ.getD ((s.cursor.row).toNat) bS).l) ((aQ.getD ((s.cursor.row).toNat) bS).b) s aQ aV aY h d a).1).length) o.k,bv ((A6 ((aQ.getD ((s.cursor.row).toNat) bS).l) ((aQ.getD ((s.cursor.row).toNat) bS).b) s aQ aV aY h d a).2.1)] 34,bx sb (aG s aO aQ aP aT aV aU aW aY aX) 83,bx i [pt sb 0] 81,bx e [iv h] 3,bx g [iv d] 3,bx f [iv a] 3] (bV 17 511) rfl (A2 (v:=.slice aO aQ.length aP) C7r rfl rfl 1 rfl rfl) ?_
  refine zhl 9 [bx b5 [.slice (va o.q) (((A6 ((aQ.getD ((s.cursor.row).toNat) bS).l) ((aQ.getD ((s.cursor.row).toNat) bS).b) s aQ aV aY h d a).1).length) o.k,bv ((A6 ((aQ.getD ((s.cursor.row).toNat) bS).l) ((aQ.getD ((s.cursor.row).toNat) bS).b) s aQ aV aY h d a).2.1)] 34,bx sb (aG s aO aQ aP aT aV aU aW aY aX) 83,bx i [pt sb 0] 81,bx e [iv h] 3,bx g [iv d] 3,bx f [iv a] 3] (bV 17 1023) rfl (A2 (v:=iv s.cursor.row) cA rfl rfl 1 rfl rfl) ?_
  refine zhl 10 [bx b5 [.slice (va o.q) (((A6 ((aQ.getD ((s.cursor.row).toNat) bS).l) ((aQ.getD ((s.cursor.row).toNat) bS).b) s aQ aV aY h d a).1).length) o.k,bv ((A6 ((aQ.getD ((s.cursor.row).toNat) bS).l) ((aQ.getD ((s.cursor.row).toNat) bS).b) s aQ aV aY h d a).2.1)] 34,bx sb (aG s aO aQ aP aT aV aU aW aY aX) 83,bx i [pt sb 0] 81,bx e [iv h] 3,bx g [iv d] 3,bx f [iv a] 3] (bV 17 2047) rfl (D6 (us:=[.slice (va o.q) (((A6 ((aQ.getD ((s.cursor.row).toNat) bS).l) ((aQ.getD ((s.cursor.row).toNat) bS).b) s aQ aV aY h d a).1).length) o.k,bv ((A6 ((aQ.getD ((s.cursor.row).toNat) bS).l) ((aQ.getD ((s.cursor.row).toNat) bS).b) s aQ aV aY h d a).2.1)]) A3w rfl rfl 0 rfl rfl rfl) ?_
  have hQ:=C9 hR;clear hR;obtain ⟨w,a8,hR⟩:=hQ
  refine zho 11 [bx b5 [.slice (va o.q) (((A6 ((aQ.getD ((s.cursor.row).toNat) bS).l) ((aQ.getD ((s.cursor.row).toNat) bS).b) s aQ aV aY h d a).1).length) o.k,bv ((A6 ((aQ.getD ((s.cursor.row).toNat) bS).l) ((aQ.getD ((s.cursor.row).toNat) bS).b) s aQ aV aY h d a).2.1)] 34,bx sb (aG s aO aQ aP aT aV aU aW aY aX) 83,bx i [pt sb 0] 81,bx e [iv h] 3,bx g [iv d] 3,bx f [iv a] 3] (bV 17 4095) rfl (J7 (L2:=[bx b5 [.slice (va o.q) (((A6 ((aQ.getD ((s.cursor.row).toNat) bS).l) ((aQ.getD ((s.cursor.row).toNat) bS).b) s aQ aV aY h d a).1).length) o.k,bv ((A6 ((aQ.getD ((s.cursor.row).toNat) bS).l) ((aQ.getD ((s.cursor.row).toNat) bS).b) s aQ aV aY h d a).2.1)] 34,bx sb (aG s aO aQ aP aT aV aU aW aY aX) 83,bx i [pt sb 0] 81,bx e [iv h] 3,bx g [iv d] 3,bx f [iv a] 3]) (B7g a8 bD) rfl rfl rfl rfl rfl c9 (List.Perm.refl _) (fun ⟨⟨r6,a3⟩,a2⟩=>(bx b5 [.slice (va o.q) (((A6 ((aQ.getD ((s.cursor.row).toNat) bS).l) ((aQ.getD ((s.cursor.row).toNat) bS).b) s aQ aV aY h d a).1).length) o.k,bv ((A6 ((aQ.getD ((s.cursor.row).toNat) bS).l) ((aQ.getD ((s.cursor.row).toNat) bS).b) s aQ aV aY h d a).2.1)] 34::bx sb (aG s aO aQ aP aT aV aU aW aY aX) 83::bx i [pt sb 0] 81::bx e [iv h] 3::bx g [iv d] 3::bx f [iv a] 3::((vo G2 34 r6 a3)++([])))) (fun ⟨⟨r6,a3⟩,a2⟩=>H2 [vo G2 34 r6 a3,[bx b5 [.slice (va o.q) (((A6 ((aQ.getD ((s.cursor.row).toNat) bS).l) ((aQ.getD ((s.cursor.row).toNat) bS).b) s aQ aV aY h d a).1).length) o.k,bv ((A6 ((aQ.getD ((s.cursor.row).toNat) bS).l) ((aQ.getD ((s.cursor.row).toNat) bS).b) s aQ aV aY h d a).2.1)] 34],[bx sb (aG s aO aQ aP aT aV aU aW aY aX) 83],[bx i [pt sb 0] 81],[bx e [iv h] 3],[bx g [iv d] 3],[bx f [iv a] 3]] [1,2,3,4,5,6,0] 7 rfl ozw opl [[bx b5 [.slice (va o.q) (((A6 ((aQ.getD ((s.cursor.row).toNat) bS).l) ((aQ.getD ((s.cursor.row).toNat) bS).b) s aQ aV aY h d a).1).length) o.k,bv ((A6 ((aQ.getD ((s.cursor.row).toNat) bS).l) ((aQ.getD ((s.cursor.row).toNat) bS).b) s aQ aV aY h d a).2.1)] 34],[bx sb (aG s aO aQ aP aT aV aU aW aY aX) 83],[bx i [pt sb 0] 81],[bx e [iv h] 3],[bx g [iv d] 3],[bx f [iv a] 3],vo G2 34 r6 a3] rfl opl)) (fun ⟨⟨r6,a3⟩,a2⟩=>bQ) (fun ⟨⟨r6,a3⟩,a2⟩=>c9) fun ⟨⟨r6,a3⟩,a2⟩=>?_
  try dsimp only at a2
  obtain ⟨ac,af⟩:=a2
  have:=bR.le ac
  have:=bR.cap ac
  have:=af.1
  refine zhp [12,13,14,15] 1 (bV 17 65535) [(38,.slice (va r6.q) w.1.length r6.k),(40,pt sb 2)] ?_
  refine zho 16 [bx b5 [.slice (va o.q) (((A6 ((aQ.getD ((s.cursor.row).toNat) bS).l) ((aQ.getD ((s.cursor.row).toNat) bS).b) s aQ aV aY h d a).1).length) o.k,bv ((A6 ((aQ.getD ((s.cursor.row).toNat) bS).l) ((aQ.getD ((s.cursor.row).toNat) bS).b) s aQ aV aY h d a).2.1)] 34,bx i [pt sb 0] 81,bx e [iv h] 3,bx g [iv d] 3,bx f [iv a] 3] (bV 17 131071) rfl (D8 (us:=[.slice (va r6.q) w.1.length r6.k]) (cs':=aG s (va r6.q) w.1 r6.k aT aV aU aW aY aX) C7r rfl rfl rfl 1 rfl rfl rfl rfl rfl rfl) (fun _=>bQ) (fun _=>c9) fun _=>?_
  refine A2a oki ?_
  refine B4n [bx b5 [.slice (va o.q) (((A6 ((aQ.getD ((s.cursor.row).toNat) bS).l) ((aQ.getD ((s.cursor.row).toNat) bS).b) s aQ aV aY h d a).1).length) o.k,bv ((A6 ((aQ.getD ((s.cursor.row).toNat) bS).l) ((aQ.getD ((s.cursor.row).toNat) bS).b) s aQ aV aY h d a).2.1)] 34,bx sb (aG s (va r6.q) w.1 r6.k aT aV aU aW aY aX) 83,bx i [pt sb 0] 81,bx e [iv h] 3,bx g [iv d] 3,bx f [iv a] 3] [] (T:=34) (c:=G2) (r:=r6) (xs:=a3) (bR.cast ac (by rw [af.1])) omm ?_
  have:=bR.cap ac
  subst hR
  exact zen hr hD (A0x rfl) ⟨(va r6.q,a3,r6.k),⟨af,ohs,ohs⟩⟩ bQ c9
 ·refine E4v 16 [bx sb (aG s aO aQ aP aT aV aU aW aY aX) 83,bx i [pt sb 0] 81,bx e [iv h] 3,bx g [iv d] 3,bx f [iv a] 3] (bV 19 69631) rfl rfl rfl oki oki oki (S4 (cs:=[.slice none 0 0,bv false]) C2i rfl) (fun m=>bQ) (fun m=>A9.refl) fun m=>?_
  refine zho 12 [bx sb (aG s aO aQ aP aT aV aU aW aY aX) 83,bx i [pt sb 0] 81,bx e [iv h] 3,bx g [iv d] 3,bx f [iv a] 3] (bV 19 73727) rfl (J7 (L2:=[bx m [.slice none 0 0,bv false] 34]) (B0x (bB:=((aQ.getD ((s.cursor.row).toNat) bS).l)) (bC:=((aQ.getD ((s.cursor.row).toNat) bS).b)) (p1:=s) (p1Main:=aQ) (p1Alt:=aV) (p1Tabs:=aY) (p2:=h) (p3:=d) (p4:=a) (aZ:=((aN.getD ((s.cursor.row).toNat) cF).s.q)) (bA:=((aN.getD ((s.cursor.row).toNat) cF).s.k)) (p1b:=i) (p1b1:=sb) (p1Mainq:=aO) (p1Mainrs:=aN) (p1Maink:=aP) (p1Altq:=aT) (p1Altrs:=aS) (p1Altk:=aU) (p1Tabsq:=aW) (p1Tabsk:=aX) (p2b:=e) (p3b:=g) (p4b:=f) rfl bP bP bD bP bP bE bP bP bP bP (by first|assumption|exact ad)) rfl rfl rfl rfl rfl A9.refl (H2 [[bx m [.slice none 0 0,bv false] 34],[bx sb (aG s aO aQ aP aT aV aU aW aY aX) 83],[bx i [pt sb 0] 81],[bx e [iv h] 3],[bx g [iv d] 3],[bx f [iv a] 3]] [1,2,3,4,5,0] 6 rfl ozw rfl [[bx sb (aG s aO aQ aP aT aV aU aW aY aX) 83],[bx i [pt sb 0] 81],[bx e [iv h] 3],[bx g [iv d] 3],[bx f [iv a] 3],[bx m [.slice none 0 0,bv false] 34]] rfl opl) (fun ⟨j,z⟩=>(bx m [.slice none 0 0,bv false] 34::bx sb (aG s aO aQ aP aT aV aU aW aY aX) 83::bx i [pt sb 0] 81::bx e [iv h] 3::bx g [iv d] 3::bx f [iv a] 3::((vo C0 37 j ((A6 ((aQ.getD ((s.cursor.row).toNat) bS).l) ((aQ.getD ((s.cursor.row).toNat) bS).b) s aQ aV aY h d a).1))++([])))) (fun ⟨j,z⟩=>H2 [[bx sb (aG s aO aQ aP aT aV aU aW aY aX) 83],[bx i [pt sb 0] 81],[bx e [iv h] 3],[bx g [iv d] 3],[bx f [iv a] 3],vo C0 37 j ((A6 ((aQ.getD ((s.cursor.row).toNat) bS).l) ((aQ.getD ((s.cursor.row).toNat) bS).b) s aQ aV aY h d a).1),[bx m [.slice none 0 0,bv false] 34]] [6,0,1,2,3,4,5] 7 rfl ozw opl [[bx m [.slice none 0 0,bv false] 34],[bx sb (aG s aO aQ aP aT aV aU aW aY aX) 83],[bx i [pt sb 0] 81],[bx e [iv h] 3],[bx g [iv d] 3],[bx f [iv a] 3],vo C0 37 j ((A6 ((aQ.getD ((s.cursor.row).toNat) bS).l) ((aQ.getD ((s.cursor.row).toNat) bS).b) s aQ aV aY h d a).1)] rfl opl)) (fun ⟨j,z⟩=>bQ) (fun ⟨j,z⟩=>A9.refl) fun ⟨j,z⟩=>?_
  have:=bR.le z
  have:=bR.cap z
  refine zhp [13,14,15] 2 (bV 19 131071) [(23,ag [.slice (va j.q) (((A6 ((aQ.getD ((s.cursor.row).toNat) bS).l) ((aQ.getD ((s.cursor.row).toNat) bS).b) s aQ aV aY h d a).1).length) j.k,bv ((A6 ((aQ.getD ((s.cursor.row).toNat) bS).l) ((aQ.getD ((s.cursor.row).toNat) bS).b) s aQ aV aY h d a).2.1)]),(24,iv ((A6 ((aQ.getD ((s.cursor.row).toNat) bS).l) ((aQ.getD ((s.cursor.row).toNat) bS).b) s aQ aV aY h d a).2.2))] ?_
  refine zho 17 [bx sb (aG s aO aQ aP aT aV aU aW aY aX) 83,bx i [pt sb 0] 81,bx e [iv h] 3,bx g [iv d] 3,bx f [iv a] 3] (bV 19 262143) rfl (D8 (us:=[.slice (va j.q) (((A6 ((aQ.getD ((s.cursor.row).toNat) bS).l) ((aQ.getD ((s.cursor.row).toNat) bS).b) s aQ aV aY h d a).1).length) j.k,bv ((A6 ((aQ.getD ((s.cursor.row).toNat) bS).l) ((aQ.getD ((s.cursor.row).toNat) bS).b) s aQ aV aY h d a).2.1)]) (cs':=[.slice (va j.q) (((A6 ((aQ.getD ((s.cursor.row).toNat) bS).l) ((aQ.getD ((s.cursor.row).toNat) bS).b) s aQ aV aY h d a).1).length) j.k,bv ((A6 ((aQ.getD ((s.cursor.row).toNat) bS).l) ((aQ.getD ((s.cursor.row).toNat) bS).b) s aQ aV aY h d a).2.1)]) A3w rfl rfl rfl 0 rfl rfl rfl rfl rfl rfl) (fun _=>bQ) (fun _=>A9.refl) fun _=>?_
  refine zhp [18] 0 (bV 19 524287) [] ?_
  refine B1f oki ?_
  have:=bR.cap z
  have:=bR.le z
  refine D5n [bx m [.slice (va j.q) (((A6 ((aQ.getD ((s.cursor.row).toNat) bS).l) ((aQ.getD ((s.cursor.row).toNat) bS).b) s aQ aV aY h d a).1).length) j.k,bv ((A6 ((aQ.getD ((s.cursor.row).toNat) bS).l) ((aQ.getD ((s.cursor.row).toNat) bS).b) s aQ aV aY h d a).2.1)] 34,bx sb (aG s aO aQ aP aT aV aU aW aY aX) 83,bx i [pt sb 0] 81,bx e [iv h] 3,bx g [iv d] 3,bx f [iv a] 3] [] (T:=37) (c:=C0) (r:=j) (xs:=(A6 ((aQ.getD ((s.cursor.row).toNat) bS).l) ((aQ.getD ((s.cursor.row).toNat) bS).b) s aQ aV aY h d a).1) z oll ?_
  refine sh' 17 [(17,[bx m [.slice (va j.q) (((A6 ((aQ.getD ((s.cursor.row).toNat) bS).l) ((aQ.getD ((s.cursor.row).toNat) bS).b) s aQ aV aY h d a).1).length) j.k,bv ((A6 ((aQ.getD ((s.cursor.row).toNat) bS).l) ((aQ.getD ((s.cursor.row).toNat) bS).b) s aQ aV aY h d a).2.1)] 34]),(16,[bx sb (aG s aO aQ aP aT aV aU aW aY aX) 83]),(17,[bx i [pt sb 0] 81]),(17,[bx e [iv h] 3]),(17,[bx g [iv d] 3]),(17,[bx f [iv a] 3])] [sl C0 (va j.q) ((A6 ((aQ.getD ((s.cursor.row).toNat) bS).l) ((aQ.getD ((s.cursor.row).toNat) bS).b) s aQ aV aY h d a).1),sl C0 ((aN.getD ((s.cursor.row).toNat) cF).s.q) ((aQ.getD ((s.cursor.row).toNat) bS).l),sl G2 aO aN,E7 C0 aN aQ,sl G2 aT aS,E7 C0 aS aV,sl R7 aW aY,P6,P7] [bx m [.slice (va j.q) (((A6 ((aQ.getD ((s.cursor.row).toNat) bS).l) ((aQ.getD ((s.cursor.row).toNat) bS).b) s aQ aV aY h d a).1).length) j.k,bv ((A6 ((aQ.getD ((s.cursor.row).toNat) bS).l) ((aQ.getD ((s.cursor.row).toNat) bS).b) s aQ aV aY h d a).2.1)] 34,bx sb (aG s aO aQ aP aT aV aU aW aY aX) 83,bx i [pt sb 0] 81,bx e [iv h] 3,bx g [iv d] 3,bx f [iv a] 3] (bV 17 0) oki rfl oki oki oki bQ A9.refl ?_
  refine zhp [0,1,2,4,5,6,7,8] 9 (bV 17 503) [(26,pt sb 2),(28,pt sb 2),(34,pt sb 6)] ?_
  refine zhl 3 [bx m [.slice (va j.q) (((A6 ((aQ.getD ((s.cursor.row).toNat) bS).l) ((aQ.getD ((s.cursor.row).toNat) bS).b) s aQ aV aY h d a).1).length) j.k,bv ((A6 ((aQ.getD ((s.cursor.row).toNat) bS).l) ((aQ.getD ((s.cursor.row).toNat) bS).b) s aQ aV aY h d a).2.1)] 34,bx sb (aG s aO aQ aP aT aV aU aW aY aX) 83,bx i [pt sb 0] 81,bx e [iv h] 3,bx g [iv d] 3,bx f [iv a] 3] (bV 17 511) rfl (A2 (v:=.slice aO aQ.length aP) C7r rfl rfl 1 rfl rfl) ?_
  refine zhl 9 [bx m [.slice (va j.q) (((A6 ((aQ.getD ((s.cursor.row).toNat) bS).l) ((aQ.getD ((s.cursor.row).toNat) bS).b) s aQ aV aY h d a).1).length) j.k,bv ((A6 ((aQ.getD ((s.cursor.row).toNat) bS).l) ((aQ.getD ((s.cursor.row).toNat) bS).b) s aQ aV aY h d a).2.1)] 34,bx sb (aG s aO aQ aP aT aV aU aW aY aX) 83,bx i [pt sb 0] 81,bx e [iv h] 3,bx g [iv d] 3,bx f [iv a] 3] (bV 17 1023) rfl (A2 (v:=iv s.cursor.row) cA rfl rfl 1 rfl rfl) ?_
  refine zhl 10 [bx m [.slice (va j.q) (((A6 ((aQ.getD ((s.cursor.row).toNat) bS).l) ((aQ.getD ((s.cursor.row).toNat) bS).b) s aQ aV aY h d a).1).length) j.k,bv ((A6 ((aQ.getD ((s.cursor.row).toNat) bS).l) ((aQ.getD ((s.cursor.row).toNat) bS).b) s aQ aV aY h d a).2.1)] 34,bx sb (aG s aO aQ aP aT aV aU aW aY aX) 83,bx i [pt sb 0] 81,bx e [iv h] 3,bx g [iv d] 3,bx f [iv a] 3] (bV 17 2047) rfl (D6 (us:=[.slice (va j.q) (((A6 ((aQ.getD ((s.cursor.row).toNat) bS).l) ((aQ.getD ((s.cursor.row).toNat) bS).b) s aQ aV aY h d a).1).length) j.k,bv ((A6 ((aQ.getD ((s.cursor.row).toNat) bS).l) ((aQ.getD ((s.cursor.row).toNat) bS).b) s aQ aV aY h d a).2.1)]) A3w rfl rfl 0 rfl rfl rfl) ?_
  have hQ:=C9 hR;clear hR;obtain ⟨p,a6,hR⟩:=hQ
  refine zho 11 [bx m [.slice (va j.q) (((A6 ((aQ.getD ((s.cursor.row).toNat) bS).l) ((aQ.getD ((s.cursor.row).toNat) bS).b) s aQ aV aY h d a).1).length) j.k,bv ((A6 ((aQ.getD ((s.cursor.row).toNat) bS).l) ((aQ.getD ((s.cursor.row).toNat) bS).b) s aQ aV aY h d a).2.1)] 34,bx sb (aG s aO aQ aP aT aV aU aW aY aX) 83,bx i [pt sb 0] 81,bx e [iv h] 3,bx g [iv d] 3,bx f [iv a] 3] (bV 17 4095) rfl (J7 (L2:=[bx m [.slice (va j.q) (((A6 ((aQ.getD ((s.cursor.row).toNat) bS).l) ((aQ.getD ((s.cursor.row).toNat) bS).b) s aQ aV aY h d a).1).length) j.k,bv ((A6 ((aQ.getD ((s.cursor.row).toNat) bS).l) ((aQ.getD ((s.cursor.row).toNat) bS).b) s aQ aV aY h d a).2.1)] 34,bx sb (aG s aO aQ aP aT aV aU aW aY aX) 83,bx i [pt sb 0] 81,bx e [iv h] 3,bx g [iv d] 3,bx f [iv a] 3]) (B7g a6 bD) rfl rfl rfl rfl rfl c9 (List.Perm.refl _) (fun ⟨⟨u,y⟩,a0⟩=>(bx m [.slice (va j.q) (((A6 ((aQ.getD ((s.cursor.row).toNat) bS).l) ((aQ.getD ((s.cursor.row).toNat) bS).b) s aQ aV aY h d a).1).length) j.k,bv ((A6 ((aQ.getD ((s.cursor.row).toNat) bS).l) ((aQ.getD ((s.cursor.row).toNat) bS).b) s aQ aV aY h d a).2.1)] 34::bx sb (aG s aO aQ aP aT aV aU aW aY aX) 83::bx i [pt sb 0] 81::bx e [iv h] 3::bx g [iv d] 3::bx f [iv a] 3::((vo G2 34 u y)++([])))) (fun ⟨⟨u,y⟩,a0⟩=>H2 [vo G2 34 u y,[bx m [.slice (va j.q) (((A6 ((aQ.getD ((s.cursor.row).toNat) bS).l) ((aQ.getD ((s.cursor.row).toNat) bS).b) s aQ aV aY h d a).1).length) j.k,bv ((A6 ((aQ.getD ((s.cursor.row).toNat) bS).l) ((aQ.getD ((s.cursor.row).toNat) bS).b) s aQ aV aY h d a).2.1)] 34],[bx sb (aG s aO aQ aP aT aV aU aW aY aX) 83],[bx i [pt sb 0] 81],[bx e [iv h] 3],[bx g [iv d] 3],[bx f [iv a] 3]] [1,2,3,4,5,6,0] 7 rfl ozw opl [[bx m [.slice (va j.q) (((A6 ((aQ.getD ((s.cursor.row).toNat) bS).l) ((aQ.getD ((s.cursor.row).toNat) bS).b) s aQ aV aY h d a).1).length) j.k,bv ((A6 ((aQ.getD ((s.cursor.row).toNat) bS).l) ((aQ.getD ((s.cursor.row).toNat) bS).b) s aQ aV aY h d a).2.1)] 34],[bx sb (aG s aO aQ aP aT aV aU aW aY aX) 83],[bx i [pt sb 0] 81],[bx e [iv h] 3],[bx g [iv d] 3],[bx f [iv a] 3],vo G2 34 u y] rfl opl)) (fun ⟨⟨u,y⟩,a0⟩=>bQ) (fun ⟨⟨u,y⟩,a0⟩=>c9) fun ⟨⟨u,y⟩,a0⟩=>?_
  try dsimp only at a0
  obtain ⟨aa,ab⟩:=a0
  have:=bR.le aa
  have:=bR.cap aa
  have:=ab.1
  refine zhp [12,13,14,15] 1 (bV 17 65535) [(38,.slice (va u.q) p.1.length u.k),(40,pt sb 2)] ?_
  refine zho 16 [bx m [.slice (va j.q) (((A6 ((aQ.getD ((s.cursor.row).toNat) bS).l) ((aQ.getD ((s.cursor.row).toNat) bS).b) s aQ aV aY h d a).1).length) j.k,bv ((A6 ((aQ.getD ((s.cursor.row).toNat) bS).l) ((aQ.getD ((s.cursor.row).toNat) bS).b) s aQ aV aY h d a).2.1)] 34,bx i [pt sb 0] 81,bx e [iv h] 3,bx g [iv d] 3,bx f [iv a] 3] (bV 17 131071) rfl (D8 (us:=[.slice (va u.q) p.1.length u.k]) (cs':=aG s (va u.q) p.1 u.k aT aV aU aW aY aX) C7r rfl rfl rfl 1 rfl rfl rfl rfl rfl rfl) (fun _=>bQ) (fun _=>c9) fun _=>?_
  refine A2a oki ?_
  refine B4n [bx m [.slice (va j.q) (((A6 ((aQ.getD ((s.cursor.row).toNat) bS).l) ((aQ.getD ((s.cursor.row).toNat) bS).b) s aQ aV aY h d a).1).length) j.k,bv ((A6 ((aQ.getD ((s.cursor.row).toNat) bS).l) ((aQ.getD ((s.cursor.row).toNat) bS).b) s aQ aV aY h d a).2.1)] 34,bx sb (aG s (va u.q) p.1 u.k aT aV aU aW aY aX) 83,bx i [pt sb 0] 81,bx e [iv h] 3,bx g [iv d] 3,bx f [iv a] 3] [] (T:=34) (c:=G2) (r:=u) (xs:=y) (bR.cast aa (by rw [ab.1])) omm ?_
  have:=bR.cap aa
  subst hR
  exact zen hr hD (A0x rfl) ⟨(va u.q,y,u.k),⟨ab,ohs,ohs⟩⟩ bQ c9
def C1j (s:ScrC) (m:List (Rwc Cel)) (cp:Int):Prop:=s.onAlt=false∧s.modes.insert=false∧(0≤s.cursor.row∧s.cursor.row<(m.length:Int))∧(F6 cp=0∨(s.cursor.wrap=false∧0≤s.cursor.col+F6 cp∧s.cursor.col+F6 cp≤s.cols∧s.cols≤1000))
theorem B8r {s:ScrC} {m:List (Rwc Cel)} {n:Int} (h:C1j s m n) (a:s.sets=Sts.zero):C1j {s with sets:=(M8 s.sets n).2.1} m (M8 s.sets n).1:=by
 have e:M8 s.sets n=(n,Sts.zero,0):=by rw [a];unfold M8;rw [show V9 Sts.zero=0 by decide +kernel];rfl
 rw [e];exact h
def I3 (s:ScrC) (aQ:List (Rwc Cel)) (aV:List (Rwc Cel)) (aY:List Bool) (cp:Int):ScrC×List (Rwc Cel) :=
 (bif (decide ((F6 cp)=0)) then (C2 (A4z s aQ aV aY cp) fun (b:List (Rwc Cel))=>(s,b)) else (C2 (U1 ({s with cursor:={s.cursor with wrap:=false}}) aQ aV aY (({s.cursor with wrap:=false}).col) (F6 cp) cp) fun (a:List (Rwc Cel))=>(bif (decide (({{s.cursor with wrap:=false} with col:=(IntKind.i64.wrap (({s.cursor with wrap:=false}).col+(F6 cp)))}).col=s.cols)) then ({s with cursor:={{{{s.cursor with wrap:=false} with col:=(IntKind.i64.wrap (({s.cursor with wrap:=false}).col+(F6 cp)))} with col:=(IntKind.i64.wrap (s.cols - (1:Int)))} with wrap:=true},last:=cp},a) else ({s with cursor:={{s.cursor with wrap:=false} with col:=(IntKind.i64.wrap (({s.cursor with wrap:=false}).col+(F6 cp)))},last:=cp},a))))
set_option maxHeartbeats 400000 in
theorem A7d {s:ScrC} {aQ aV:List (Rwc Cel)} {aY:List Bool} {cp:Int} {sb:Nat} {aO:Option Addr} {aN:List Rwq} {aP:Nat} {aT:Option Addr} {aS:List Rwq} {aU:Nat} {aW:Option Addr} {aX:Nat} {R:ScrC×List (Rwc Cel)} (hR:I3 s aQ aV aY cp=R) (bD:F1 aN aQ:=by exact bP) (bH:aQ.length≤9223372036854775807:=by exact bP) (bI:aQ.length≤aP:=by exact bP) (bE:F1 aS aV:=by exact bP) (bJ:aV.length≤9223372036854775807:=by exact bP) (bK:aV.length≤aU:=by exact bP) (bL:aY.length≤9223372036854775807:=by exact bP) (bM:aY.length≤aX:=by exact bP) (a3:C1j s aQ cp:=by exact bP):cI Tryz.prog 105 [pt sb 0,iv cp] [bx sb (aG s aO aQ aP aT aV aU aW aY aX) 83] [sl G2 aO aN,E7 C0 aN aQ,sl G2 aT aS,E7 C0 aS aV,sl R7 aW aY,P6,P7] ({t:Option Addr×List Rwq×Nat // F1 t.2.1 R.2∧R.2.length≤t.2.2∧R.2.length≤9223372036854775807}) (fun x=>.tuple #[]) (fun x=>[bx sb (aG R.1 x.1.1 R.2 x.1.2.2 aT aV aU aW aY aX) 83]) (fun x=>[sl G2 x.1.1 x.1.2.1,E7 C0 x.1.2.1 R.2]):=by
 refine bZ Tryz.func105 fun X hX hr hD=>?_
 replace hR:=(I3.eq_1 ..).symm.trans hR
 have:=bD.1
 have:=bE.1
 obtain ⟨a8,a6,k,i⟩:=a3
 refine bN rfl (A8c 2 [] (fun r o=>[(2,pt r 0),(3,pt o 0)]) (fun _ _=>[pt sb 0]) (fun _ _=>[iv cp]) 81 3 fun r o=>?_)
 refine ie (bN rfl (cE 1 [0] 6 rfl ?_))
 refine zv rfl (A3p rfl) ?_
 refine zra 2 [0] (fun p=>[(4,pt p 0)]) (fun _=>[iv (F6 cp)]) 3 fun p=>?_
 refine ie (A5 (bN rfl (cE 2 [0] 9 rfl ?_)))
 refine ie ?_
 refine zjd rfl hR ?_ ?_<;>clear hR<;>intro hR h4 ac
 ·refine bN rfl (pl2 2 [2,1] 10 11 rfl ?_)
  have hQ:=C9 hR;clear hR;obtain ⟨f,c,hR⟩:=hQ
  refine zc rfl (C0v c bD bP bP bE bP bP bP bP oya (by first|assumption|exact k)) fun ⟨⟨q5,a1,k7⟩,z⟩=>?_
  obtain ⟨u,af,ab⟩:=z
  have:=u.1
  subst hR
  refine ie (A8 ?_)
  exact cD hr hD (A0x rfl) ⟨(q5,a1,k7),⟨u,ohs,ohs⟩⟩ bQ c9
 refine A4 (nx (A5 (bN rfl (cE 7 [2,3] 19 rfl ?_))))
 refine zia 7 0 19 26 s.modes.auto (fun a0=>?_) ?_
 ·refine cE 7 [2,3] 26 rfl ?_
  exact zai 2 19 26 a0
 refine ie (X7 rfl (fun n=>?_) (fun n=>?_))
 ·have y:=bU n
  exfalso;rcases i with q | q<;>simp_all
 have y:=bU n
 refine A4 (nx (bN rfl (zrg 6 0 [2,3] [] [bx p [iv (F6 cp)] 3,bx o [iv cp] 3,bx r [pt sb 0] 81,bx sb (aG ({s with cursor:={s.cursor with wrap:=false}}) aO aQ aP aT aV aU aW aY aX) 83] ?_)))
 refine ie (A5 (sd 14 rfl oki rfl ?_))
 refine pg2 7 [2,3,0] 39 40 rfl ?_
 refine dd rfl (I6.pure rfl) ?_
 refine pg1 6 [2,3] 47 rfl ?_
 refine de (X7 rfl (fun m=>?_) (fun m=>?_))
 ·have j:=bU m
  exfalso;exact i.elim (fun q=>by simp_all) (fun q=>by have w6:=wr6 (x:=s.cursor.col+F6 cp) opx;dsimp only at j;omega)
 have j:=bU m
 refine A4 (nx (bN rfl (zra 8 [2,3,0] (fun g=>[(5,pt g 0)]) (fun _=>[iv (({s.cursor with wrap:=false}).col)]) 3 fun g=>?_)))
 refine ie (bN rfl (bY 2 1 [3] [(74,pt sb 0),(75,.func (.func 192) #[] #[pt r 0,pt g 0,pt p 0,pt o 0])] ?_))
 have hQ:=C9 hR;clear hR;obtain ⟨a,b,hR⟩:=hQ
 refine zc rfl (B7b b bD bP bP bE bP bP bP bP oya (by first|assumption|exact k)) fun ⟨⟨e,l,d⟩,w⟩=>?_
 obtain ⟨h,a9,aa⟩:=w
 have:=h.1
 refine ie (A5 (zS [(12,[0]),(13,[1]),(13,[2]),(13,[3]),(13,[4])] ?_))
 refine gl 0 [0,1,2,3,4] rfl (A2 (v:=pt sb 0) E5v rfl rfl 1 rfl rfl) ?_
 refine hq1 [1,2,3,4] 81 rfl ?_
 refine gl 5 [0,1,2,3,4] rfl (A2 (v:=iv (({s.cursor with wrap:=false}).col)) cA rfl rfl 0 rfl rfl) ?_
 refine gl 6 [0,1,2,3,4] rfl (A2 (v:=iv (F6 cp)) cA rfl rfl 3 rfl rfl) ?_
 refine gk 7 rfl (I6.pure rfl) ?_
 refine hq1 [8,9,10,11] 88 rfl ?_
 refine go 12 [1,2,3,4] rfl (D8 (us:=[iv (IntKind.i64.wrap (({s.cursor with wrap:=false}).col+(F6 cp)))]) (cs':=C8 ({s with cursor:={{s.cursor with wrap:=false} with col:=(IntKind.i64.wrap (({s.cursor with wrap:=false}).col+(F6 cp)))}}) ⟨e,a.length,d⟩ ⟨aT,aV.length,aU⟩ ⟨none,0,0⟩ ⟨aW,aY.length,aX⟩) cA rfl rfl rfl 0 rfl rfl rfl rfl rfl rfl) fun _=>?_
 refine ge ?_
 refine sd 12 rfl oki rfl ?_
 refine pg1 12 [1,0,1,0] 100 rfl ?_
 refine de ?_
 refine zjd rfl hR ?_ ?_<;>clear hR<;>intro hR ah a7
 ·refine zSn [(12,[0]),(18,[1]),(18,[2]),(18,[3]),(18,[4])] ?_
  refine gl 0 [0,1,2,3,4] rfl (A2 (v:=pt sb 0) E5v rfl rfl 1 rfl rfl) ?_
  refine gl 1 [1,2,3,4] rfl (A2 (v:=pt sb 0) E5v rfl rfl 0 rfl rfl) ?_
  refine gl 2 [0,1,2,3,4] rfl (A2 (v:=pt sb 0) E5v rfl rfl 1 rfl rfl) ?_
  refine hq1 [3,4,5] 106 rfl ?_
  refine gl 6 [0,1,2,3,4] rfl (A2 (v:=iv s.cols) cA rfl rfl 0 rfl rfl) ?_
  refine gk 7 rfl (I6.pure rfl) ?_
  refine hq1 [8,9,10,11] 112 rfl ?_
  refine go 12 [1,2,3,4] rfl (D8 (us:=[iv (IntKind.i64.wrap (s.cols - (1:Int)))]) (cs':=C8 ({s with cursor:={{{s.cursor with wrap:=false} with col:=(IntKind.i64.wrap (({s.cursor with wrap:=false}).col+(F6 cp)))} with col:=(IntKind.i64.wrap (s.cols - (1:Int)))}}) ⟨e,a.length,d⟩ ⟨aT,aV.length,aU⟩ ⟨none,0,0⟩ ⟨aW,aY.length,aX⟩) cA rfl rfl rfl 0 rfl rfl rfl rfl rfl rfl) fun _=>?_
  refine hq1 [13,14,15,16] 116 rfl ?_
  refine go 17 [1,2,3,4] rfl (D8 (us:=[bv true]) (cs':=C8 ({s with cursor:={{{{s.cursor with wrap:=false} with col:=(IntKind.i64.wrap (({s.cursor with wrap:=false}).col+(F6 cp)))} with col:=(IntKind.i64.wrap (s.cols - (1:Int)))} with wrap:=true}}) ⟨e,a.length,d⟩ ⟨aT,aV.length,aU⟩ ⟨none,0,0⟩ ⟨aW,aY.length,aX⟩) ty4 rfl rfl rfl 0 rfl rfl rfl rfl rfl rfl) fun _=>?_
  refine gdn ?_
  refine nx (A0 6 rfl (zrg 6 0 [1,4,0] [] [bx sb (C8 ({s with cursor:={{{{s.cursor with wrap:=false} with col:=(IntKind.i64.wrap (({s.cursor with wrap:=false}).col+(F6 cp)))} with col:=(IntKind.i64.wrap (s.cols - (1:Int)))} with wrap:=true},last:=cp}) ⟨e,a.length,d⟩ ⟨aT,aV.length,aU⟩ ⟨none,0,0⟩ ⟨aW,aY.length,aX⟩) 83,bx r [pt sb 0] 81,bx g [iv (({s.cursor with wrap:=false}).col)] 3,bx p [iv (F6 cp)] 3,bx o [iv cp] 3] ?_))
  subst hR
  refine A3 ?_
  exact zen hr hD (A0x rfl) ⟨(e,l,d),⟨h,ohs,ohs⟩⟩ bQ c9
 refine A4 (nx (A0 6 rfl (zrg 6 0 [1,4,0] [] [bx sb (C8 ({s with cursor:={{s.cursor with wrap:=false} with col:=(IntKind.i64.wrap (({s.cursor with wrap:=false}).col+(F6 cp)))},last:=cp}) ⟨e,a.length,d⟩ ⟨aT,aV.length,aU⟩ ⟨none,0,0⟩ ⟨aW,aY.length,aX⟩) 83,bx r [pt sb 0] 81,bx g [iv (({s.cursor with wrap:=false}).col)] 3,bx p [iv (F6 cp)] 3,bx o [iv cp] 3] ?_)))
 subst hR
 refine A3 ?_
 exact zen hr hD (A0x rfl) ⟨(e,l,d),⟨h,ohs,ohs⟩⟩ bQ c9
def Y2 (s:ScrC) (aQ:List (Rwc Cel)) (aV:List (Rwc Cel)) (aY:List Bool) (a:Act):ScrC×List (Rwc Cel) :=
 (C2 (I3 ({s with sets:=(M8 s.sets a.n).2.1}) aQ aV aY ((M8 s.sets a.n).1)) fun (b:ScrC×List (Rwc Cel))=>(b.1,b.2))
theorem B9d {s:ScrC} {aQ aV:List (Rwc Cel)} {aY:List Bool} {a:Act} {sb:Nat} {aO:Option Addr} {aN:List Rwq} {aP:Nat} {aT:Option Addr} {aS:List Rwq} {aU:Nat} {aW:Option Addr} {aX:Nat} {R:ScrC×List (Rwc Cel)} (hR:Y2 s aQ aV aY a=R) (p:F1 aN aQ:=by exact bP) (bH:aQ.length≤9223372036854775807:=by exact bP) (bI:aQ.length≤aP:=by exact bP) (r:F1 aS aV:=by exact bP) (bJ:aV.length≤9223372036854775807:=by exact bP) (bK:aV.length≤aU:=by exact bP) (bL:aY.length≤9223372036854775807:=by exact bP) (bM:aY.length≤aX:=by exact bP) (g:s.sets=Sts.zero:=by exact bP) (i:C1j s aQ a.n:=by exact bP):cI Tryz.prog 41 [pt sb 0,ag (A1 a)] [bx sb (aG s aO aQ aP aT aV aU aW aY aX) 83] [sl G2 aO aN,E7 C0 aN aQ,sl G2 aT aS,E7 C0 aS aV,sl R7 aW aY,P6,P7] ({t:Option Addr×List Rwq×Nat // F1 t.2.1 R.2∧R.2.length≤t.2.2∧R.2.length≤9223372036854775807}) (fun x=>.tuple #[]) (fun x=>[bx sb (aG R.1 x.1.1 R.2 x.1.2.2 aT aV aU aW aY aX) 83]) (fun x=>[sl G2 x.1.1 x.1.2.1,E7 C0 x.1.2.1 R.2]):=by
 refine bZ Tryz.func41 fun X hX hr hD=>?_
 replace hR:=(Y2.eq_1 ..).symm.trans hR
 have:=p.1
 have:=r.1
 refine bN rfl (zra 1 [] (fun l=>[(3,pt l 0)]) (fun _=>(A1 a)) 60 fun l=>?_)
 refine ie (zS [(16,[0]),(16,[1])] ?_)
 refine hq2 [0,1,2,3,5] 11 13 rfl ?_
 refine gl 4 [0,1] rfl (D6 (us:=A3i s.sets) D9y rfl rfl 1 rfl rfl rfl) ?_
 refine gl 6 [0,1] rfl (A2 (v:=iv a.n) cA rfl rfl 0 rfl rfl) ?_
 refine gf 7 12 ?_ ?_
 ·refine ghv 7 [0,1] rfl (C4r rfl) ?_
  refine hqV [8,9,10,11] [(16,iv ((M8 s.sets a.n).1)),(17,ag (A3i ((M8 s.sets a.n).2.1))),(18,iv ((M8 s.sets a.n).2.2))] ?_
  refine go 12 [0,1] rfl (S4 (cs:=A3i Sts.zero) E7u rfl) fun b2=>?_
  refine hq1 [13] 4 rfl ?_
  refine go 14 [0,1] rfl (D8 (us:=A3i ((M8 s.sets a.n).2.1)) (cs':=A3i ((M8 s.sets a.n).2.1)) D9y rfl rfl rfl 0 rfl rfl rfl rfl rfl rfl) fun _=>?_
  refine hq0 [15] ?_
  refine ge ?_
  refine bN rfl (zrg 6 0 [0,2] [] [bx b2 (A3i ((M8 s.sets a.n).2.1)) 43,bx l (A1 a) 60,bx sb (C8 ({s with sets:=(M8 s.sets a.n).2.1}) ⟨aO,aQ.length,aP⟩ ⟨aT,aV.length,aU⟩ ⟨none,0,0⟩ ⟨aW,aY.length,aX⟩) 83] ?_)
  refine ie (A0 3 rfl (cJ 2 24 25 rfl ?_))
  have u:=C9 hR;clear hR;obtain ⟨e,c,hR⟩:=u
  refine zc rfl (A7d c p bP bP r bP bP bP bP (by first|assumption|exact B8r i g|exact (D5g hro opx).1)) fun ⟨⟨q3,w,k5⟩,m⟩=>?_
  obtain ⟨h,a2,a3⟩:=m
  have:=h.1
  subst hR
  refine A3 ?_
  exact zen hr hD (A0x rfl) ⟨(q3,w,k5),⟨h,ohs,ohs⟩⟩ bQ c9
 ·refine gh 12 [0,1] rfl (S4 (cs:=A3i Sts.zero) E7u rfl) fun q=>?_
  refine gv 7 [0,1] rfl (C4r rfl) ?_
  refine hqV [8,9,10,11,13] [(17,ag (A3i ((M8 s.sets a.n).2.1))),(18,iv ((M8 s.sets a.n).2.2)),(4,iv ((M8 s.sets a.n).1))] ?_
  refine go 14 [0,1] rfl (D8 (us:=A3i ((M8 s.sets a.n).2.1)) (cs':=A3i ((M8 s.sets a.n).2.1)) D9y rfl rfl rfl 0 rfl rfl rfl rfl rfl rfl) fun _=>?_
  refine hq0 [15] ?_
  refine ge ?_
  refine bN rfl (zrg 6 0 [0,2] [] [bx q (A3i ((M8 s.sets a.n).2.1)) 43,bx l (A1 a) 60,bx sb (C8 ({s with sets:=(M8 s.sets a.n).2.1}) ⟨aO,aQ.length,aP⟩ ⟨aT,aV.length,aU⟩ ⟨none,0,0⟩ ⟨aW,aY.length,aX⟩) 83] ?_)
  refine ie (A0 3 rfl (cJ 2 24 25 rfl ?_))
  have u:=C9 hR;clear hR;obtain ⟨d,b,hR⟩:=u
  refine zc rfl (A7d b p bP bP r bP bP bP bP (by first|assumption|exact B8r i g|exact (D5g hro opx).1)) fun ⟨⟨y,k,o⟩,j⟩=>?_
  obtain ⟨f,a0,z⟩:=j
  have:=f.1
  subst hR
  refine A3 ?_
  exact zen hr hD (A0x rfl) ⟨(y,k,o),⟨f,ohs,ohs⟩⟩ bQ c9
end Go.Proofs.YtfcdnnheppnbaaaGreatDoor
