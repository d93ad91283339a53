import Derived.Test.YtfcdnnheppnbaaaGreatDoorProg
import Derived.Test.YtfcdnnheppnbaaaGreatDoorMA2
import Derived.Test.YtfcdnnheppnbaaaGreatDoorMB1
import Derived.Test.YtfcdnnheppnbaaaGreatDoorMA3
import Derived.Test.YtfcdnnheppnbaaaGreatDoorMB2
import Derived.Test.YtfcdnnheppnbaaaGreatDoorMB3
import Derived.Test.YtfcdnnheppnbaaaGreatDoorMQ1
set_option linter.unusedVariables false
set_option linter.unusedSimpArgs false
set_option linter.unnecessarySimpa false
set_option maxRecDepth 100000
namespace Go.Proofs.YtfcdnnheppnbaaaGreatDoor
open Go Go.Fen
@[reducible] def aK (s:Sty) (r:VR) (l:List Act) (p:Int):List Value := aF s [.slice (va r.q) l.length r.k,iv p]
@[reducible] def aH:List Value := [.slice none 0 0,iv 0,iv 0,iv 0,iv 0,iv 0,iv 0,iv 0,iv 0,iv 0]
theorem D5w:Ty Tryz.prog 22 1 false:=⟨by kernel_rfl⟩
theorem F2i:Ty Tryz.prog 62 1 false:=⟨by kernel_rfl⟩
theorem F4z:Ty Tryz.prog 71 15 true:=⟨by kernel_rfl⟩
theorem D0q:Ty Tryz.prog 97 10 true:=⟨by kernel_rfl⟩
theorem E7d:Ty Tryz.prog 100 1 true:=⟨by kernel_rfl⟩
theorem F1j:Zero Tryz.prog 71 (F0 Prn.zero):=⟨by kernel_rfl⟩
def R3 (c1:Int) (c2:List Cel) (a:Int→List Prn):Nat→Prn→List Prn
 | 0,_=>[]
 | fu3+1,r=>(bif ((decide (r.til<c1))&&(decide ((c2.getD ((r.til).toNat) Cel.zero)=r.sign))) then R3 c1 c2 a fu3 ({r with many:=(IntKind.i64.wrap (r.many+(1:Int))),til:=(IntKind.i64.wrap (r.til+(IntKind.i64.wrap ((1:Int)+r.sign.wide))))}) else (r::a r.til))
def K3 (c1:Int) (c2:List Cel):Nat→Int→List Prn
 | 0,_=>[]
 | fu1+1,t1=>(bif (decide (t1<c1)) then R3 c1 c2 (K3 c1 c2 fu1) ((c1 - ({Prn.zero with sign:=(c2.getD ((t1).toNat) Cel.zero),at_:=t1,til:=t1}).til).toNat+1) ({Prn.zero with sign:=(c2.getD ((t1).toNat) Cel.zero),at_:=t1,til:=t1}) else [])
def V5 (c0:Int) (c1:Int) (c2:List Cel):List Prn :=
 K3 c1 c2 ((c1 - c0).toNat+1) c0
theorem B3d (c1:Int) (c2:List Cel) (ag:Int→List Prn) (f:∀ c ∈ c2,0≤c.wide∧c.wide≤2) (l:c1≤c2.length) (j:c2.length≤80) (a:∀ t,0≤t→((ag t).length:Int)≤max 0 (c1 - t)∧∀ x ∈ ag t,0≤x.many∧x.many≤100):∀ (e:Nat) (r:Prn),0≤r.til→r.til≤90→0≤r.many→r.many≤r.til→((R3 c1 c2 ag e r).length:Int)≤1+max 0 (c1 - r.til)∧∀ x ∈ R3 c1 c2 ag e r,0≤x.many∧x.many≤100
 | 0,r,_,_,_,_=>by
  rw [R3]
  exact ⟨by rw [List.length_nil];omega,fun x b=>by cases b⟩
 | e+1,r,h0,h9,hm,hmt=>by
  rw [R3]
  by_cases h:r.til<c1∧c2.getD r.til.toNat Cel.zero=r.sign
  ·rw [decide_eq_true h.1,decide_eq_true h.2,Bool.and_self,cond_true]
   have d:r.til.toNat<c2.length:=by omega
   have i:=h.2
   rw [gdE d] at i
   have w:=f _ (List.getElem_mem d)
   rw [i] at w
   rw [wr6 (x:=1+r.sign.wide) opx,wr6 (x:=r.many+1) opx,wr6 (x:=r.til+(1+r.sign.wide)) opx]
   have g:=B3d c1 c2 ag f l j a e {r with many:=r.many+1,til:=r.til+(1+r.sign.wide)} (by show 0≤r.til+(1+r.sign.wide);omega) (by show r.til+(1+r.sign.wide)≤90;omega) (by show 0≤r.many+1;omega) (by show r.many+1≤r.til+(1+r.sign.wide);omega)
   refine ⟨?_,g.2⟩
   have:=g.1
   simp only at this
   omega
  ·rw [show (decide (r.til<c1)&&decide (c2.getD r.til.toNat Cel.zero=r.sign))=false by simp only [Bool.and_eq_false_iff,decide_eq_false_iff_not];exact Decidable.not_and_iff_or_not.1 h,cond_false]
   obtain ⟨m,k⟩:=a r.til h0
   refine ⟨by rw [List.length_cons];omega,fun x b=>?_⟩
   rcases List.mem_cons.1 b with rfl | b
   ·omega
   ·exact k x b
theorem B3n (c1:Int) (c2:List Cel) (d:∀ c ∈ c2,0≤c.wide∧c.wide≤2) (g:c1≤c2.length) (i:c2.length≤80):∀ (b:Nat) (t:Int),0≤t→((K3 c1 c2 b t).length:Int)≤max 0 (c1 - t)∧∀ x ∈ K3 c1 c2 b t,0≤x.many∧x.many≤100
 | 0,t,_=>by
  rw [K3]
  exact ⟨by rw [List.length_nil];omega,fun x e=>by cases e⟩
 | b+1,t,h0=>by
  rw [K3]
  by_cases h:t<c1
  ·rw [decide_eq_true h,cond_true,R3]
   have a:t.toNat<c2.length:=by omega
   have w:=d _ (List.getElem_mem a)
   have j:c2.getD t.toNat Cel.zero=c2[t.toNat]:=gdE a
   rw [← j] at w
   simp only [decide_eq_true h,decide_true,Bool.and_self,cond_true]
   rw [wr6 (x:=1+(c2.getD t.toNat Cel.zero).wide) opx,wr6 (x:=Prn.zero.many+1) (by show -1000000≤(0:Int)+1∧(0:Int)+1≤1000000;omega),wr6 (x:=t+(1+(c2.getD t.toNat Cel.zero).wide)) opx]
   have f:=B3d c1 c2 _ d g i (fun t k=>B3n c1 c2 d g i b t k) ((c1 - t).toNat) {Prn.zero with sign:=c2.getD t.toNat Cel.zero,many:=Prn.zero.many+1,at_:=t,til:=t+(1+(c2.getD t.toNat Cel.zero).wide)} (by show 0≤t+(1+(c2.getD t.toNat Cel.zero).wide);omega) (by show t+(1+(c2.getD t.toNat Cel.zero).wide)≤90;omega) (by show (0:Int)≤0+1;omega) (by show (0:Int)+1≤t+(1+(c2.getD t.toNat Cel.zero).wide);omega)
   refine ⟨?_,f.2⟩
   have:=f.1
   simp only at this
   omega
  ·rw [decide_eq_false h,cond_false]
   exact ⟨by rw [List.length_nil];omega,fun x e=>by cases e⟩
theorem B0z {c0 c1:Int} {c2:List Cel} (h:(∀ c ∈ c2,0≤c.wide∧c.wide≤2)∧c2.length≤80∧0≤c0∧c1≤c2.length):(V5 c0 c1 c2).length≤80∧∀ x ∈ V5 c0 c1 c2,0≤x.many∧x.many≤100:=by
 have:=B3n c1 c2 h.1 h.2.2.2 h.2.1 ((c1 - c0).toNat+1) c0 h.2.2.1
 unfold V5
 exact ⟨by have:=this.1;omega,this.2⟩
theorem D0f (c0:Int) (c1:Int) (c2:List Cel) (d:Nat) (o:Addr) (k:Addr) (g:Option Addr) (h:Nat) (a6:c2.length≤9223372036854775807) (a5:c2.length≤h) (hv:(∀ c ∈ c2,0≤c.wide∧c.wide≤2)∧c2.length≤80∧0≤c0∧c1≤c2.length) (R:List Prn) (hR:V5 c0 c1 c2=R):C9f Tryz.prog 27 [pt d 0,pa o,pa k] [bx d [iv c0] 3] [at_ o [iv c1],sl C0 g c2,at_ k [.slice g c2.length h]] (fun x=>ag (F0 x)) R:=by
 refine E0y [bx d [iv c0] 3] (n:=48) Tryz.func27 rfl oki rfl rfl (fun l=>[(0,.func (.yield l) #[] #[]),(1,pt d 0),(2,pa o),(3,pa k)]) (fun l=>⟨rfl,rfl,rfl,rfl,trivial⟩) fun X l I Ix L Φ hX hr hD hI0 hY=>?_
 replace hR:=(V5.eq_1 ..).symm.trans hR
 refine B2 ?_
 refine F3q (fun (fu:Nat) (f:Int) (R_:List Prn) (Lt:Fen.Own) (Ft:List Pers)=>((c1 - f).toNat<fu∧K3 c1 c2 fu f=R_∧I R_ Lt Ft∧0≤f,[(0,.func (.yield l) #[] #[]),(1,pt d 0),(2,pa o),(3,pa k)],(bx d [iv f] 3::(Lt++([]))),(at_ o [iv c1]::sl C0 g c2::at_ k [.slice g c2.length h]::Ft),fu)) ((c1 - c0).toNat+1) c0 R L Φ ⟨(Nat.lt_succ_self _),hR,hI0,opx⟩ (mc [[bx d [iv c0] 3],L] [true,true] rfl oxs) (A9.con1 (B8 0 rfl) (A9.con1 (B8 1 rfl) (A9.con1 (B8 2 rfl) (A9.dropT 3 rfl)))) ?_
 rintro fu f R_ Lt Ft ⟨ae,hR,w,ht⟩
 obtain ⟨fu1,rfl⟩:∃ m,fu=m+1:=⟨fu - 1,by omega⟩
 replace hR:=(K3.eq_2 ..).symm.trans hR
 refine A5 (sr 3 rfl (bY 1 2 [0] [(6,iv f)] ?_))
 refine ix rfl (F2 (v:=iv c1) (us:=[iv c1]) cA rfl rfl (B8 0 rfl) rfl) (ip' 1 0 [(8,bv (decide (f<c1)))] (ie ?_))
 refine zjd rfl hR ?_ ?_<;>clear hR<;>intro hR h2 ac
 ·refine A4 (nx (B2 ?_))
  refine sh 9 [(9,[bx d [iv f] 3]),(9,Lt)] (at_ o [iv c1]::sl C0 g c2::at_ k [.slice g c2.length h]::Ft) (bx d [iv f] 3::(Lt++([]))) (bV 9 0) oki rfl oki oki oki (mc [[bx d [iv f] 3],Lt] [true,true] rfl oxs) A9.refl ?_
  refine zhk 0 (bV 9 1) rfl (F2 (v:=.slice g c2.length h) (us:=[.slice g c2.length h]) D5w rfl rfl (B8 2 rfl) rfl) (zhl 1 (bx d [iv f] 3::(Lt++([]))) (bV 9 3) rfl (A2 (v:=iv f) cA rfl rfl 0 rfl rfl) ?_)
  refine C8i 1 rfl opx fun a3 s=>?_
  refine zhk 2 (bV 9 7) rfl (H9 W9 rfl rfl s rfl ((f).toNat) opx opx) (zhk 3 (bV 9 15) rfl (K5 (us:=C0 (c2.getD ((f).toNat) Cel.zero)) C0t rfl rfl (K2 (c:=C0) (sz:=12) s (fun _=>rfl) 1 rfl (gd Cel.zero opx)) rfl) (zhl 4 (bx d [iv f] 3::(Lt++([]))) (bV 9 31) rfl (A2 (v:=iv f) cA rfl rfl 0 rfl rfl) ?_))
  refine zhl 5 (bx d [iv f] 3::(Lt++([]))) (bV 9 63) rfl (A2 (v:=iv f) cA rfl rfl 0 rfl rfl) ?_
  refine zhk 6 (bV 9 127) rfl (U8 (cs:=F0 ({Prn.zero with sign:=(c2.getD ((f).toNat) Cel.zero),at_:=f,til:=f})) rfl rfl oki) ?_
  refine zho 7 (bx d [iv f] 3::(Lt++([]))) (bV 9 255) rfl (S4 (cs:=F0 Prn.zero) F1j rfl) (fun j=>(mc [[bx j (F0 Prn.zero) 71],[bx d [iv f] 3],Lt] [false,true,true] rfl oxs)) (fun j=>A9.refl) fun j=>?_
  refine zho 8 (bx d [iv f] 3::(Lt++([]))) (bV 9 511) rfl (D8 (us:=F0 ({Prn.zero with sign:=(c2.getD ((f).toNat) Cel.zero),at_:=f,til:=f})) (cs':=F0 ({Prn.zero with sign:=(c2.getD ((f).toNat) Cel.zero),at_:=f,til:=f})) F4z rfl rfl rfl 0 rfl rfl rfl rfl rfl rfl) (fun _=>(mc [[bx j (F0 ({Prn.zero with sign:=(c2.getD ((f).toNat) Cel.zero),at_:=f,til:=f})) 71],[bx d [iv f] 3],Lt] [false,true,true] rfl oxs)) (fun _=>A9.refl) fun _=>?_
  refine B1f oki ?_
  refine A5 (B2 ?_)
  refine F3q (fun (t:Nat) (r:Prn) (R_1:List Prn) (Lt1:Fen.Own) (Ft1:List Pers)=>((c1 - r.til).toNat<t∧R3 c1 c2 (K3 c1 c2 fu1) t r=R_1∧I R_1 Lt1 Ft1∧(0≤r.til∧r.til≤90∧0≤r.many∧r.many≤r.til)∧((r.til=f→c2.getD f.toNat Cel.zero=r.sign)∧f≤r.til),[(0,.func (.yield l) #[] #[]),(1,pt d 0),(2,pa o),(3,pa k),(5,pt j 0)],(bx j (F0 r) 71::bx d [iv f] 3::(Lt1++([]))),(at_ o [iv c1]::sl C0 g c2::at_ k [.slice g c2.length h]::Ft1),t)) ((c1 - ({Prn.zero with sign:=(c2.getD ((f).toNat) Cel.zero),at_:=f,til:=f}).til).toNat+1) ({Prn.zero with sign:=(c2.getD ((f).toNat) Cel.zero),at_:=f,til:=f}) R_ Lt Ft ⟨(Nat.lt_succ_self _),hR,w,(by show 0≤f∧f≤90∧(0:Int)≤0∧(0:Int)≤f;omega),(by exact ⟨fun _=>rfl,Int.le_refl _⟩)⟩ (mc [[bx j (F0 ({Prn.zero with sign:=(c2.getD ((f).toNat) Cel.zero),at_:=f,til:=f})) 71],[bx d [iv f] 3],Lt] [true,true,true] rfl oxs) (A9.con1 (B8 0 rfl) (A9.con1 (B8 1 rfl) (A9.con1 (B8 2 rfl) (A9.dropT 3 rfl)))) ?_
  rintro t r R_1 Lt1 Ft1 ⟨aa,hR,q,a4,a1⟩
  obtain ⟨fu3,rfl⟩:∃ m,t=m+1:=⟨t - 1,by omega⟩
  replace hR:=(R3.eq_2 ..).symm.trans hR
  refine A5 (sd 14 rfl oki rfl ?_)
  refine zdg 2 12 [0] [(17,iv r.til)] ?_
  refine dd rfl (F2 (v:=iv c1) (us:=[iv c1]) cA rfl rfl (B8 0 rfl) rfl) (dp' 2 9 [(20,bv (decide (r.til<c1)))] ?_)
  refine zdd 9 0 20 29 (decide ((c2.getD ((r.til).toNat) Cel.zero)=r.sign)) (fun g7 ad=>?_) ?_
  ·refine dd rfl (F2 (v:=.slice g c2.length h) (us:=[.slice g c2.length h]) D5w rfl rfl (B8 2 rfl) rfl) ?_
   refine zdg 2 6 [0] [(23,iv r.til)] ?_
   refine dd rfl (H9 W9 rfl rfl s rfl ((r.til).toNat) opx opx) (dd rfl (K5 (us:=C0 (c2.getD ((r.til).toNat) Cel.zero)) C0t rfl rfl (K2 (c:=C0) (sz:=12) s (fun _=>rfl) 1 rfl (gd Cel.zero opx)) rfl) ?_)
   refine zdg 2 2 [0] [(27,ag (C0 r.sign))] ?_
   refine dd rfl (C0c (a:=(c2.getD ((r.til).toNat) Cel.zero)) (b:=r.sign) E6g rfl rfl rfl) (dp' 1 0 [(29,bv (decide ((c2.getD ((r.til).toNat) Cel.zero)=r.sign)))] ?_)
   exact zad 8 20 29 g7
  refine de ?_
  refine zja rfl hR ?_ ?_<;>clear hR<;>intro hR h8 a2
  ·have a9:=E6i hv a2 a4.1
   have ah:IntKind.i64.wrap (r.til+IntKind.i64.wrap (1+r.sign.wide))=r.til+(1+r.sign.wide):=by rw [wr6 (x:=1+r.sign.wide) opx,wr6 opx]
   have a7:IntKind.i64.wrap (r.many+1)=r.many+1:=wr6 opx
   refine A4 (nx (B2 (sr 5 rfl (bY 2 3 [0] [(31,iv r.many)] (ix rfl (I6.pure rfl) (zrg 2 0 [0] [] (bx j (F0 ({r with many:=(IntKind.i64.wrap (r.many+(1:Int)))})) 71::bx d [iv f] 3::(Lt1++([]))) (ie (A0 9 rfl (bY 5 4 [0,0] [(35,iv r.til),(38,iv r.sign.wide)] (ix rfl (I6.pure rfl) (ix rfl (I6.pure rfl) (zrg 2 0 [0] [] (bx j (F0 ({r with many:=(IntKind.i64.wrap (r.many+(1:Int))),til:=(IntKind.i64.wrap (r.til+(IntKind.i64.wrap ((1:Int)+r.sign.wide))))})) 71::bx d [iv f] 3::(Lt1++([]))) ?_))))))))))))
   refine A3 ?_
   exact F4r (z1:=(fu3+1)) (z2:=r) (z3:=R_1) (z4:=Lt1) (z5:=Ft1) fu3 ({r with many:=(IntKind.i64.wrap (r.many+(1:Int))),til:=(IntKind.i64.wrap (r.til+(IntKind.i64.wrap ((1:Int)+r.sign.wide))))}) R_1 Lt1 Ft1 ⟨otw,hR,q,otw,(by exact ⟨fun e=>by dsimp only at e;omega,by dsimp only;omega⟩)⟩ (Nat.lt_succ_self _) (mc [[bx j (F0 ({r with many:=(IntKind.i64.wrap (r.many+(1:Int))),til:=(IntKind.i64.wrap (r.til+(IntKind.i64.wrap ((1:Int)+r.sign.wide))))})) 71],[bx d [iv f] 3],Lt1] [true,true,true] rfl oxs) (A9.con1 (B8 0 rfl) (A9.con1 (B8 1 rfl) (A9.con1 (B8 2 rfl) (A9.dropT 3 rfl))))
  have ab:f<r.til:=Int.lt_iff_le_and_ne.2 ⟨a1.2,fun e=>a2 ⟨by omega,by rw [← e];exact a1.1 e.symm⟩⟩
  refine G6 (nx (A5 (sr 4 rfl (bY 2 2 [0] [(42,.func (.yield l) #[] #[]),(43,ag (F0 r))] ?_))))
  have p:=E1w hR;clear hR;obtain ⟨R9,hR,p⟩:=p;rw [p] at q
  refine it rfl (C5r (L2:=[bx j (F0 r) 71,bx d [iv f] 3]) (hY _ R9 _ _ q) rfl rfl rfl rfl (A9.dropT 3 rfl) (H2 [[bx j (F0 r) 71],[bx d [iv f] 3],Lt1] [2,0,1] 3 rfl ozw rfl [Lt1,[bx j (F0 r) 71],[bx d [iv f] 3]] rfl ooa)) fun ⟨⟨y,L11,Φ12⟩,i⟩=>?_
  refine C8m (A9.yield [at_ o [iv c1],sl C0 g c2,at_ k [.slice g c2.length h]]) ?_
  refine E9a (L':=(bx j (F0 r) 71::bx d [iv f] 3::(L11++([])))) (H2 [L11,[bx j (F0 r) 71],[bx d [iv f] 3]] [1,2,0] 3 rfl ozw rfl [[bx j (F0 r) 71],[bx d [iv f] 3],L11] rfl opv) ?_
  refine ip' 1 0 [(45,bv (!y))] ?_
  refine ie (X7 rfl (fun z=>?_) (fun z=>?_))
  ·have u:y=false:=by simpa using z
   rw [u] at i;try simp only [if_true,if_false,Bool.false_eq_true] at i
   refine A8 ?_
   exact C6l rfl ⟨hr,hD⟩ (by simp [hD]) (A0x rfl) (L':=L11) (Φ':=Φ12) (by exact .inr i) (mcT [[bx j (F0 r) 71],[bx d [iv f] 3],L11] 2 rfl rfl) (A9.dropT 3 rfl)
  ·have u:y=true:=by simpa using z
   rw [u] at i;try simp only [if_true,if_false,Bool.false_eq_true] at i
   refine A4 (nx (A0 3 rfl (zrg 3 0 [0,1] [] (bx j (F0 r) 71::bx d [iv r.til] 3::(L11++([]))) (A3 ?_))))
   exact F4r (z1:=(fu1+1)) (z2:=f) (z3:=R_) (z4:=Lt) (z5:=Ft) fu1 r.til R9 L11 Φ12 ⟨opx,hR,i,opx⟩ (Nat.lt_succ_self _) (mc [[bx j (F0 r) 71],[bx d [iv r.til] 3],L11] [false,true,true] rfl oxs) (A9.con1 (B8 0 rfl) (A9.con1 (B8 1 rfl) (A9.con1 (B8 2 rfl) (A9.dropT 3 rfl))))
 subst hR
 refine G6 ?_
 exact B2a rfl ⟨hr,hD⟩ (by simp [hD]) (A0x rfl) (L':=Lt) (Φ':=Ft) (by exact .inl w) (mcT [[bx d [iv f] 3],Lt] 1 rfl rfl) (A9.dropT 3 rfl)
def A0n (l:List Act) (c:Cel):List Act :=
 (bif (!decide (c.marks.a=0)) then (bif (!decide (c.marks.b=0)) then (((l++([{Act.zero with kind:=1,n:=c.base}]:List Act))++([{Act.zero with kind:=1,n:=c.marks.a}]:List Act))++([{Act.zero with kind:=1,n:=c.marks.b}]:List Act)) else ((l++([{Act.zero with kind:=1,n:=c.base}]:List Act))++([{Act.zero with kind:=1,n:=c.marks.a}]:List Act))) else (bif (!decide (c.marks.b=0)) then ((l++([{Act.zero with kind:=1,n:=c.base}]:List Act))++([{Act.zero with kind:=1,n:=c.marks.b}]:List Act)) else (l++([{Act.zero with kind:=1,n:=c.base}]:List Act))))
theorem A7a (l:List Act) (c:Cel):(A0n l c).length≤l.length+3∧((∀ a ∈ l,a.text.length≤100000000)→∀ a ∈ A0n l c,a.text.length≤100000000):=by
 have b:∀ (l:List Act) (n:Int),(∀ a ∈ l,a.text.length≤100000000)→∀ a ∈ l++([{Act.zero with kind:=1,n:=n}]:List Act),a.text.length≤100000000:=fun l n h a d=>by
  rcases List.mem_append.1 d with d | d
  ·exact h a d
  ·rw [List.mem_singleton.1 d];exact Nat.zero_le _
 unfold A0n
 simp only [Bool.cond_eq_ite]
 repeat' split
 all_goals refine ⟨by simp only [List.length_append,List.length_cons,List.length_nil];omega,fun h=>?_⟩
 all_goals first|exact b _ _ (b _ _ (b _ _ h))|exact b _ _ (b _ _ h)|exact b _ _ h
theorem B9n {l:List Act} {c:Cel} {lr:VR} {R:List Act} (hR:A0n l c=R) (g:bR 6 l.length lr:=by exact bP) (hn:l.length≤1000000:=by exact bP):cI Tryz.prog 82 [.slice (va lr.q) l.length lr.k,ag (C0 c)] ((vo A1 60 lr l)++([])) [] ({r:VR // bR 6 R.length r}) (fun x=>.slice (va x.1.q) R.length x.1.k) (fun x=>((vo A1 60 x.1 R)++([]))) (fun x=>[]):=by
 refine bZ Tryz.func82 fun X hX hr hD=>?_
 replace hR:=(A0n.eq_1 ..).symm.trans hR
 have:=bR.le g
 refine bN rfl (zra 2 [] (fun m=>[(3,pt m 0)]) (fun _=>(C0 c)) 37 fun m=>(ie (bN rfl (bY 4 3 [0] [(7,.slice (va lr.q) l.length lr.k),(10,ag (A1 ({Act.zero with kind:=1,n:=c.base})))] (it rfl (C1 (c:=A1) (xs:=([{Act.zero with kind:=1,n:=c.base}]:List Act)) A2p rfl rfl rfl oki) fun b2=>?_)))))
 have:([{Act.zero with kind:=1,n:=c.base}]:List Act).length=1:=rfl
 refine it rfl (A0f (f:=A1) (r:=lr) (xs:=l) (ys:=([{Act.zero with kind:=1,n:=c.base}]:List Act)) (pre:=[bx m (C0 c) 37]) (post:=[]) B6b (fun _=>rfl) (fun _=>rfl) rfl rfl rfl rfl rfl rfl rfl rfl rfl (B8 0 rfl) g ofv ofv) fun ⟨j,e⟩=>?_
 have:=bR.le e
 have:=bR.cap e
 refine bO 1 0 rfl (ie (A5 (bN rfl (bY 3 0 [0] [(14,ag (B6n c.marks)),(15,iv 0)] (ie (B2 (Z6 4 ?_)))))))
 refine D9 (bN rfl (bO 1 16 rfl ?_))
 refine ie (A5 (J9 rfl (A4 (nx (A5 (B2 (bN rfl (ix rfl (E9 Tryz.underlying35 cA rfl rfl rfl 0 rfl ozw rfl rfl rfl) (bO 1 6 rfl (ie (bN rfl (bO 2 19 rfl (ie ?_)))))))))))))
 refine zjn rfl hR ?_ ?_<;>clear hR<;>intro hR h5 w
 ·refine A0 6 rfl (bY 3 3 [] [(20,.slice (va j.q) ((l++([{Act.zero with kind:=1,n:=c.base}]:List Act)).length) j.k),(22,ag (A1 ({Act.zero with kind:=1,n:=c.marks.a})))] (it rfl (C1 (c:=A1) (xs:=([{Act.zero with kind:=1,n:=c.marks.a}]:List Act)) A2p rfl rfl rfl oki) fun b6=>?_))
  have:([{Act.zero with kind:=1,n:=c.marks.a}]:List Act).length=1:=rfl
  refine it rfl (A0f (f:=A1) (r:=j) (xs:=(l++([{Act.zero with kind:=1,n:=c.base}]:List Act))) (ys:=([{Act.zero with kind:=1,n:=c.marks.a}]:List Act)) (pre:=[bx m (C0 c) 37]) (post:=[]) B6b (fun _=>rfl) (fun _=>rfl) rfl rfl rfl rfl rfl rfl rfl rfl rfl (B8 0 rfl) e ofv ofv) fun ⟨o,i⟩=>?_
  have:=bR.le i
  have:=bR.cap i
  refine bO 1 0 rfl (A3 (nx (A0 2 rfl (ix rfl (B4 (c:=1) rfl rfl rfl rfl ozw) (bO 1 15 rfl (A3 (D9 (bN rfl (bO 1 16 rfl (ie (A5 (J9 rfl (A4 (nx (A5 (B2 (bN rfl (ix rfl (E9 Tryz.underlying35 cA rfl rfl rfl 1 rfl ozw rfl rfl rfl) (bO 1 6 rfl (ie (bN rfl (bO 2 19 rfl ?_))))))))))))))))))))))
  refine ie ?_
  refine zjn rfl hR ?_ ?_<;>clear hR<;>intro hR h9 v
  ·refine A0 6 rfl (bY 3 3 [] [(20,.slice (va o.q) (((l++([{Act.zero with kind:=1,n:=c.base}]:List Act))++([{Act.zero with kind:=1,n:=c.marks.a}]:List Act)).length) o.k),(22,ag (A1 ({Act.zero with kind:=1,n:=c.marks.b})))] (it rfl (C1 (c:=A1) (xs:=([{Act.zero with kind:=1,n:=c.marks.b}]:List Act)) A2p rfl rfl rfl oki) fun u=>?_))
   have:([{Act.zero with kind:=1,n:=c.marks.b}]:List Act).length=1:=rfl
   refine it rfl (A0f (f:=A1) (r:=o) (xs:=((l++([{Act.zero with kind:=1,n:=c.base}]:List Act))++([{Act.zero with kind:=1,n:=c.marks.a}]:List Act))) (ys:=([{Act.zero with kind:=1,n:=c.marks.b}]:List Act)) (pre:=[bx m (C0 c) 37]) (post:=[]) B6b (fun _=>rfl) (fun _=>rfl) rfl rfl rfl rfl rfl rfl rfl rfl rfl (B8 0 rfl) i ofv ofv) fun ⟨p,h⟩=>?_
   have:=bR.le h
   have:=bR.cap h
   refine bO 1 0 rfl (A3 (nx (A0 2 rfl (ix rfl (B4 (c:=2) rfl rfl rfl rfl ozw) (bO 1 15 rfl (A3 (D9 (bN rfl (bO 1 16 rfl (ie (A5 (Z1 rfl (G6 (nx (bN rfl (bO 2 4 rfl ?_))))))))))))))))
   subst hR
   refine ie (A8 ?_)
   exact cD hr hD (N4 rfl (B0 rfl)) ⟨p,h⟩ bQ bT
  refine A4 (nx (A0 2 rfl (ix rfl (B4 (c:=2) rfl rfl rfl rfl ozw) (bO 1 15 rfl (A3 (D9 (bN rfl (bO 1 16 rfl (ie (A5 (Z1 rfl (G6 (nx (bN rfl (bO 2 4 rfl ?_)))))))))))))))
  subst hR
  refine ie (A8 ?_)
  exact cD hr hD (N4 rfl (B0 rfl)) ⟨o,i⟩ bQ bT
 refine A4 (nx (A0 2 rfl (ix rfl (B4 (c:=1) rfl rfl rfl rfl ozw) (bO 1 15 rfl (A3 (D9 (bN rfl (bO 1 16 rfl (ie (A5 (J9 rfl (A4 (nx (A5 (B2 (bN rfl (ix rfl (E9 Tryz.underlying35 cA rfl rfl rfl 1 rfl ozw rfl rfl rfl) (bO 1 6 rfl (ie (bN rfl (bO 2 19 rfl (ie ?_))))))))))))))))))))))
 refine zjn rfl hR ?_ ?_<;>clear hR<;>intro hR z t
 ·refine A0 6 rfl (bY 3 3 [] [(20,.slice (va j.q) ((l++([{Act.zero with kind:=1,n:=c.base}]:List Act)).length) j.k),(22,ag (A1 ({Act.zero with kind:=1,n:=c.marks.b})))] (it rfl (C1 (c:=A1) (xs:=([{Act.zero with kind:=1,n:=c.marks.b}]:List Act)) A2p rfl rfl rfl oki) fun y=>?_))
  have:([{Act.zero with kind:=1,n:=c.marks.b}]:List Act).length=1:=rfl
  refine it rfl (A0f (f:=A1) (r:=j) (xs:=(l++([{Act.zero with kind:=1,n:=c.base}]:List Act))) (ys:=([{Act.zero with kind:=1,n:=c.marks.b}]:List Act)) (pre:=[bx m (C0 c) 37]) (post:=[]) B6b (fun _=>rfl) (fun _=>rfl) rfl rfl rfl rfl rfl rfl rfl rfl rfl (B8 0 rfl) e ofv ofv) fun ⟨s,d⟩=>?_
  have:=bR.le d
  have:=bR.cap d
  refine bO 1 0 rfl (A3 (nx (A0 2 rfl (ix rfl (B4 (c:=2) rfl rfl rfl rfl ozw) (bO 1 15 rfl (A3 (D9 (bN rfl (bO 1 16 rfl (ie (A5 (Z1 rfl (G6 (nx (bN rfl (bO 2 4 rfl ?_))))))))))))))))
  subst hR
  refine ie (A8 ?_)
  exact cD hr hD (N4 rfl (B0 rfl)) ⟨s,d⟩ bQ bT
 refine A4 (nx (A0 2 rfl (ix rfl (B4 (c:=2) rfl rfl rfl rfl ozw) (bO 1 15 rfl (A3 (D9 (bN rfl (bO 1 16 rfl (ie (A5 (Z1 rfl (G6 (nx (bN rfl (bO 2 4 rfl ?_)))))))))))))))
 subst hR
 refine ie (A8 ?_)
 exact cD hr hD (N4 rfl (B0 rfl)) ⟨j,e⟩ bQ bT
def B5 (aM:Sty) (pl:List Act) (pat:Int) (to_:Sty):List Act :=
 (C2 (A6a aM to_) fun (a:List Act×Int)=>a.1)
theorem Q0 (aM:Sty) (pl:List Act) (pat:Int) (to_:Sty):(B5 aM pl pat to_).length≤22∧(∀ a ∈ B5 aM pl pat to_,a.kind=39∧a.text=[])∧∀ a ∈ B5 aM pl pat to_,a.text.length≤100000000:=by
 unfold B5 C2
 exact ⟨B5d _ _,B5h _ _,fun a b=>by rw [(B5h _ _ a b).2];exact Nat.zero_le _⟩
theorem D3i {l:List Act} {a:Act} (h:∀ a ∈ l,a.text.length≤100000000) (c:a.text=[]):∀ x ∈ l++([a]:List Act),x.text.length≤100000000:=fun x b=>by
 rcases List.mem_append.1 b with b | b
 ·exact h x b
 ·rw [List.mem_singleton.1 b,c];exact Nat.zero_le _
theorem A0k {aM:Sty} {pl:List Act} {pat:Int} {to_:Sty} {pb:Nat} {plr:VR} {R:List Act} (hR:B5 aM pl pat to_=R) (d:bR 6 pl.length plr:=by exact bP):cI Tryz.prog 81 [pt pb 0,ag (B3 to_)] (bx pb (aK aM plr pl pat) 66::((vo A1 60 plr pl)++([]))) [P6,P7,O0,M9,K6,P4] ({r:VR // bR 6 R.length r}) (fun x=>.slice (va x.1.q) R.length x.1.k) (fun x=>(bx pb (aK aM plr pl pat) 66::((vo A1 60 plr pl)++((vo A1 60 x.1 R)++([]))))) (fun x=>[]):=by
 refine bZ Tryz.func81 fun X hX hr hD=>?_
 replace hR:=(B5.eq_1 ..).symm.trans hR
 have:=bR.le d
 refine bN rfl (B2b 2 0 [] (fun b=>[(3,pt b 0)]) (fun b=>(bx b (B3 to_) 26::bx pb (aK aM plr pl pat) 66::((vo A1 60 plr pl)++([])))) (fun b=>(ie ?_)))
 refine sh 12 [(12,[bx b (B3 to_) 26]),(12,[bx pb (aK aM plr pl pat) 66]),(12,vo A1 60 plr pl)] [P6,P7,O0,M9,K6,P4] (bx b (B3 to_) 26::bx pb (aK aM plr pl pat) 66::((vo A1 60 plr pl)++([]))) (bV 12 0) oki rfl oki oki oki bQ A9.refl ?_
 refine zhp [0,1,2,3] 8 (bV 12 15) [(11,pt pb 0)] ?_
 refine zhl 4 (bx b (B3 to_) 26::bx pb (aK aM plr pl pat) 66::((vo A1 60 plr pl)++([]))) (bV 12 31) rfl (D6 (us:=(aF aM [])) A6y rfl rfl 1 rfl rfl rfl) ?_
 refine zhl 5 (bx b (B3 to_) 26::bx pb (aK aM plr pl pat) 66::((vo A1 60 plr pl)++([]))) (bV 12 63) rfl (D6 (us:=B3 to_) A6y rfl rfl 0 rfl rfl rfl) ?_
 have g:=C9 hR;clear hR;obtain ⟨f,e,hR⟩:=g
 refine zho 6 (bx b (B3 to_) 26::bx pb (aK aM plr pl pat) 66::((vo A1 60 plr pl)++([]))) (bV 12 127) rfl (J7 (L2:=(bx b (B3 to_) 26::bx pb (aK aM plr pl pat) 66::((vo A1 60 plr pl)++([])))) (D9c e) rfl rfl rfl rfl rfl A9.refl (List.Perm.refl _) (fun ⟨c,a⟩=>(bx b (B3 to_) 26::bx pb (aK aM plr pl pat) 66::((vo A1 60 plr pl)++((vo A1 60 c f.1)++([]))))) (fun ⟨c,a⟩=>H2 [vo A1 60 c f.1,[bx b (B3 to_) 26],[bx pb (aK aM plr pl pat) 66],vo A1 60 plr pl] [1,2,3,0] 4 rfl ozw opv [[bx b (B3 to_) 26],[bx pb (aK aM plr pl pat) 66],vo A1 60 plr pl,vo A1 60 c f.1] rfl opv)) (fun ⟨c,a⟩=>bQ) (fun ⟨c,a⟩=>A9.refl) fun ⟨c,a⟩=>?_
 have:=bR.le a
 have:=bR.cap a
 have:=B5d aM to_;try rw [e] at this
 have:=B5h aM to_;try rw [e] at this
 refine zhp [7,8,9,10,11] 0 (bV 12 4095) [(5,.slice (va c.q) f.1.length c.k)] ?_
 refine B1f oki ?_
 refine bN rfl (bO 2 4 rfl ?_)
 subst hR
 refine ie (A8 ?_)
 exact cD hr hD (N4 rfl (B0 rfl)) ⟨c,a⟩ bQ bT
def J4 (r:Prn):Nat→List Act→Nat→(List Act×Sty×Int×Bool)
 | 0,_,_=>([],Sty.zero,0,false)
 | fu1+1,l,a=>(bif (decide ((a:Int)<r.many)) then (C2 (A0n l r.sign) fun (b:List Act)=>J4 r fu1 b (a+1)) else (l,r.sign.sty,r.til,true))
def M7 (aM:Sty) (pl:List Act) (pat:Int) (r:Prn) (p2:Bool):List Act×Sty×Int×Bool :=
 (C2 (B5 aM pl pat r.sign.sty) fun (a:List Act)=>J4 r ((r.many - (0:Int)).toNat+1) a 0)
theorem A4l (r:Prn):∀ (b:Nat) (l:List Act) (t:Nat),(∀ a ∈ l,a.text.length≤100000000)→(J4 r b l t).1.length≤l.length+3 * (r.many - t).toNat∧∀ a ∈ (J4 r b l t).1,a.text.length≤100000000
 | 0,l,t,_=>by
  rw [J4]
  exact ⟨Nat.zero_le _,fun a f=>by cases f⟩
 | b+1,l,t,h=>by
  rw [J4]
  by_cases c:(t:Int)<r.many
  ·rw [decide_eq_true c,cond_true,C2]
   have d:=A7a l r.sign
   have e:=A4l r b _ (t+1) (d.2 h)
   exact ⟨by have:=e.1;have:=d.1;omega,e.2⟩
  ·rw [decide_eq_false c,cond_false]
   exact ⟨Nat.le_add_right _ _,h⟩
theorem A1s (aM:Sty) (pl:List Act) (pat:Int) (r:Prn) (p2:Bool) (c:0≤r.many∧r.many≤100):(M7 aM pl pat r p2).1.length≤322∧∀ a ∈ (M7 aM pl pat r p2).1,a.text.length≤100000000:=by
 unfold M7 C2
 have b:=Q0 aM pl pat r.sign.sty
 have:=A4l r ((r.many - (0:Int)).toNat+1) _ 0 b.2.2
 exact ⟨Nat.le_trans this.1 (by have:=b.1;omega),this.2⟩
theorem B5b {aM:Sty} {pl:List Act} {pat:Int} {r:Prn} {p2:Bool} {pb:Nat} {plr:VR} {R:List Act×Sty×Int×Bool} (hR:M7 aM pl pat r p2=R) (f:bR 6 pl.length plr:=by exact bP) (w:0≤r.many∧r.many≤100:=by exact bP):cI Tryz.prog 28 [pt pb 0,ag (F0 r),bv p2] (bx pb (aK aM plr pl pat) 66::((vo A1 60 plr pl)++([]))) [P6,P7,O0,M9,K6,P4] ({r:VR // bR 6 R.1.length r}) (fun x=>.tuple #[ag (.slice (va x.1.q) R.1.length x.1.k::aF R.2.1 [iv R.2.2.1]),bv R.2.2.2]) (fun x=>(bx pb (aK aM plr pl pat) 66::((vo A1 60 plr pl)++((vo A1 60 x.1 R.1)++([]))))) (fun x=>[]):=by
 refine bZ Tryz.func28 fun X hX hr hD=>?_
 replace hR:=(M7.eq_1 ..).symm.trans hR
 have:=bR.le f
 refine bN rfl (A8c 3 [] (fun b a=>[(4,pt b 0),(6,pt a 0)]) (fun _ _=>(F0 r)) (fun _ _=>aH) 71 97 fun b a=>(ie (bN rfl (bY 4 2 [1] [(9,pt pb 0),(12,ag (B3 r.sign.sty))] ?_))))
 have u:=C9 hR;clear hR;obtain ⟨s,o,hR⟩:=u
 refine it rfl (J7 (L2:=[bx a aH 97,bx b (F0 r) 71]) (A0k (aM:=aM) (pl:=pl) (pat:=pat) (to_:=r.sign.sty) (pb:=pb) (plr:=plr) o f) rfl rfl rfl rfl rfl A9.refl (H2 [[bx a aH 97],[bx b (F0 r) 71],[bx pb (aK aM plr pl pat) 66],vo A1 60 plr pl] [2,3,0,1] 4 rfl ozw rfl [[bx pb (aK aM plr pl pat) 66],vo A1 60 plr pl,[bx a aH 97],[bx b (F0 r) 71]] rfl opv) (fun ⟨n,g⟩=>(bx a aH 97::bx b (F0 r) 71::bx pb (aK aM plr pl pat) 66::((vo A1 60 plr pl)++((vo A1 60 n s)++([]))))) (fun ⟨n,g⟩=>H2 [[bx pb (aK aM plr pl pat) 66],vo A1 60 plr pl,vo A1 60 n s,[bx a aH 97],[bx b (F0 r) 71]] [3,4,0,1,2] 5 rfl ozw opv [[bx a aH 97],[bx b (F0 r) 71],[bx pb (aK aM plr pl pat) 66],vo A1 60 plr pl,vo A1 60 n s] rfl opv)) fun ⟨n,g⟩=>?_
 have:=bR.le g
 have:=bR.cap g
 have:=Q0 aM pl pat r.sign.sty;try rw [o] at this
 obtain ⟨_,_,_⟩:=this
 refine bO 1 8 rfl (ie (A5 (bN rfl (pl2 3 [1] 15 16 rfl (ie (B2 ?_))))))
 refine A4v (un fun (j:Nat)=>un fun (l:List Act)=>un fun (lr:VR) (d:Nat)=>((r.many - (d:Int)).toNat<j∧J4 r j l d=R∧bR 6 l.length lr∧(l.length≤22+3 * d∧(d:Int)≤r.many),[(4,pt b 0),(6,pt a 0),(8,.slice (va lr.q) l.length lr.k),(15,iv r.many),(16,iv (d:Int))],(bx a aH 97::bx b (F0 r) 71::bx pb (aK aM plr pl pat) 66::((vo A1 60 plr pl)++((vo A1 60 lr l)++([])))),[P6,P7,O0,M9,K6,P4],j)) (((r.many - (0:Int)).toNat+1),s,n,0) ⟨(Nat.lt_succ_self _),hR,g,opx⟩ bQ A9.refl ?_
 rintro ⟨j,l,lr,d⟩ ⟨y,hR,e,z⟩
 have:=bR.le e
 obtain ⟨fu1,rfl⟩:∃ m,j=m+1:=⟨j - 1,by omega⟩
 replace hR:=(J4.eq_2 ..).symm.trans hR
 refine bN rfl (bO 1 17 rfl (ie (A5 ?_)))
 refine zjd rfl hR ?_ ?_<;>clear hR<;>intro hR h6 v
 ·refine A4 (nx (A5 (B2 (A0 5 rfl (bY 3 2 [1] [(18,.slice (va lr.q) l.length lr.k),(20,ag (C0 r.sign))] ?_)))))
  have u:=C9 hR;clear hR;obtain ⟨t,p,hR⟩:=u
  refine it rfl (J7 (L2:=(bx a aH 97::bx b (F0 r) 71::bx pb (aK aM plr pl pat) 66::((vo A1 60 plr pl)++([])))) (B9n (l:=l) (c:=r.sign) (lr:=lr) p e) rfl rfl rfl rfl rfl bT (H2 [[bx a aH 97],[bx b (F0 r) 71],[bx pb (aK aM plr pl pat) 66],vo A1 60 plr pl,vo A1 60 lr l] [4,0,1,2,3] 5 rfl ozw rfl [vo A1 60 lr l,[bx a aH 97],[bx b (F0 r) 71],[bx pb (aK aM plr pl pat) 66],vo A1 60 plr pl] rfl opv) (fun ⟨i,h⟩=>(bx a aH 97::bx b (F0 r) 71::bx pb (aK aM plr pl pat) 66::((vo A1 60 plr pl)++((vo A1 60 i t)++([]))))) (fun ⟨i,h⟩=>H2 [vo A1 60 i t,[bx a aH 97],[bx b (F0 r) 71],[bx pb (aK aM plr pl pat) 66],vo A1 60 plr pl] [1,2,3,4,0] 5 rfl ozw opv [[bx a aH 97],[bx b (F0 r) 71],[bx pb (aK aM plr pl pat) 66],vo A1 60 plr pl,vo A1 60 i t] rfl opv)) fun ⟨i,h⟩=>?_
  have:=bR.le h
  have:=bR.cap h
  have:=A7a l r.sign;try rw [p] at this
  refine bO 1 8 rfl (A3 (nx (A0 2 rfl (ix rfl (B4 rfl rfl rfl rfl opx) (bO 1 16 rfl (A3 ?_))))))
  exact A0d (z1:=(fu1+1,l,lr,d)) (fu1,t,i,d+1) ⟨opx,hR,h,opx⟩ (Nat.lt_succ_self _) bQ A9.refl
 refine G6 (nx (bN rfl (zrg 9 0 [1,1,0] [(7,bv true)] (bx a (.slice (va lr.q) l.length lr.k::aF r.sign.sty [iv r.til]) 97::bx b (F0 r) 71::bx pb (aK aM plr pl pat) 66::((vo A1 60 plr pl)++((vo A1 60 lr l)++([])))) ?_)))
 subst hR
 refine ie (A8 ?_)
 exact cD hr hD (Q9 rfl (D4 (us:=(.slice (va lr.q) l.length lr.k::aF r.sign.sty [iv r.til])) D0q rfl 0 rfl rfl rfl) (B0 rfl)) ⟨lr,e⟩ bQ bT
def L5 (aM:Sty) (pl:List Act) (pat:Int) (r:Prn) (p2:Bool):List Act×Sty×Int×Bool :=
 (bif ((decide (r.many<2))||(!(A1g r.sign))) then (([]:List Act),(⟨0,0,(⟨0,0⟩:Col),(⟨0,0⟩:Col),(⟨0,0⟩:Col)⟩:Sty),0,false) else (C2 (B5 aM pl pat r.sign.sty) fun (b:List Act)=>(C2 (A0n b r.sign) fun (a:List Act)=>((a++([{Act.zero with kind:=34,n:=(IntKind.i64.wrap (r.many - (1:Int)))}]:List Act)),r.sign.sty,r.til,true))))
theorem A1m (aM:Sty) (pl:List Act) (pat:Int) (r:Prn) (p2:Bool):(L5 aM pl pat r p2).1.length≤322∧∀ a ∈ (L5 aM pl pat r p2).1,a.text.length≤100000000:=by
 unfold L5 C2
 have b:=Q0 aM pl pat r.sign.sty
 have c:=A7a (B5 aM pl pat r.sign.sty) r.sign
 simp only [Bool.cond_eq_ite]
 split
 ·exact ⟨Nat.zero_le _,fun a d=>by cases d⟩
 ·exact ⟨by simp only [List.length_append,List.length_cons,List.length_nil];omega,D3i (c.2 b.2.2) rfl⟩
theorem ogz {p:Prop} (h:p:=by first|rfl|(try dsimp only;simp only [List.append_nil,List.cons_append,List.nil_append,List.append_assoc])):p:=h
theorem B3r {aM:Sty} {pl:List Act} {pat:Int} {r:Prn} {p2:Bool} {pb:Nat} {plr:VR} {R:List Act×Sty×Int×Bool} (hR:L5 aM pl pat r p2=R) (l:bR 6 pl.length plr:=by exact bP) (a0:0≤r.many∧r.many≤100:=by exact bP):cI Tryz.prog 29 [pt pb 0,ag (F0 r),bv p2] (bx pb (aK aM plr pl pat) 66::((vo A1 60 plr pl)++([]))) [P6,P7,O0,M9,K6,P4] ({r:VR // bR 6 R.1.length r}) (fun x=>.tuple #[ag (.slice (va x.1.q) R.1.length x.1.k::aF R.2.1 [iv R.2.2.1]),bv R.2.2.2]) (fun x=>(bx pb (aK aM plr pl pat) 66::((vo A1 60 plr pl)++((vo A1 60 x.1 R.1)++([]))))) (fun x=>[]):=by
 refine bZ Tryz.func29 fun X hX hr hD=>?_
 replace hR:=(L5.eq_1 ..).symm.trans hR
 have:=bR.le l
 refine bN rfl (E9d 3 0 [] (fun a b=>[(4,pt a 0),(6,pt b 0)]) (fun a b=>(bx b aH 97::bx a (F0 r) 71::bx pb (aK aM plr pl pat) 66::((vo A1 60 plr pl)++([])))) (fun a b=>(ie (A5 (bN rfl (cE 4 [1] 12 rfl ?_))))))
 refine zir 5 0 12 17 (!(A1g r.sign)) (fun g3 z=>?_) ?_
 ·refine bY 2 3 [1] [(14,ag (C0 r.sign))] (zv rfl (C3h rfl) (bO 2 17 rfl ?_))
  exact A3 (O6 4 12 17 g3 A9.refl bQ rfl rfl rfl rfl rfl)
 refine ie ?_
 refine zjb rfl hR ?_ ?_<;>clear hR<;>intro hR y
 ·have t:=bU y
  refine bN rfl (zrg 3 0 [0] [(7,bv false)] (bx b aH 97::bx a (F0 r) 71::bx pb (aK aM plr pl pat) 66::((vo A1 60 plr pl)++([]))) ?_)
  subst hR
  refine ie (A8 ?_)
  exact cD hr hD (Q9 rfl (D4 (us:=aH) D0q rfl 0 rfl rfl rfl) (B0 rfl)) ⟨VR.nil,bR.nil⟩ bQ bT
 have t:=bU y
 refine A4 (nx ?_)
 refine sh 9 [(9,[bx b aH 97]),(9,[bx a (F0 r) 71]),(9,[bx pb (aK aM plr pl pat) 66]),(9,vo A1 60 plr pl)] [P6,P7,O0,M9,K6,P4] (bx b aH 97::bx a (F0 r) 71::bx pb (aK aM plr pl pat) 66::((vo A1 60 plr pl)++([]))) (bV 9 0) oki rfl oki oki oki bQ A9.refl ?_
 refine zhp [0,1,2,5] 5 (bV 9 39) [(19,pt pb 0),(21,pt a 4),(24,pt a 0)] ?_
 refine zhl 3 (bx b aH 97::bx a (F0 r) 71::bx pb (aK aM plr pl pat) 66::((vo A1 60 plr pl)++([]))) (bV 9 47) rfl (D6 (us:=B3 r.sign.sty) A6y rfl rfl 1 rfl rfl rfl) ?_
 refine zhl 6 (bx b aH 97::bx a (F0 r) 71::bx pb (aK aM plr pl pat) 66::((vo A1 60 plr pl)++([]))) (bV 9 111) rfl (D6 (us:=C0 r.sign) C0t rfl rfl 1 rfl rfl rfl) ?_
 have u:=C9 hR;clear hR;obtain ⟨o,p,hR⟩:=u
 refine zho 4 (bx b aH 97::bx a (F0 r) 71::bx pb (aK aM plr pl pat) 66::((vo A1 60 plr pl)++([]))) (bV 9 127) rfl (J7 (L2:=[bx b aH 97,bx a (F0 r) 71]) (A0k p l) rfl rfl rfl rfl rfl A9.refl (H2 [[bx b aH 97],[bx a (F0 r) 71],[bx pb (aK aM plr pl pat) 66],vo A1 60 plr pl] [2,3,0,1] 4 rfl ozw rfl [[bx pb (aK aM plr pl pat) 66],vo A1 60 plr pl,[bx b aH 97],[bx a (F0 r) 71]] rfl opv) (fun ⟨m,i⟩=>(bx b aH 97::bx a (F0 r) 71::bx pb (aK aM plr pl pat) 66::((vo A1 60 plr pl)++((vo A1 60 m o)++([]))))) (fun ⟨m,i⟩=>H2 [[bx pb (aK aM plr pl pat) 66],vo A1 60 plr pl,vo A1 60 m o,[bx b aH 97],[bx a (F0 r) 71]] [3,4,0,1,2] 5 rfl ozw opv [[bx b aH 97],[bx a (F0 r) 71],[bx pb (aK aM plr pl pat) 66],vo A1 60 plr pl,vo A1 60 m o] rfl opv)) (fun ⟨m,i⟩=>bQ) (fun ⟨m,i⟩=>A9.refl) fun ⟨m,i⟩=>?_
 have:=bR.le i
 have:=bR.cap i
 have:=Q0 aM pl pat r.sign.sty;try rw [p] at this
 obtain ⟨_,_,_⟩:=this
 have u:=C9 hR;clear hR;obtain ⟨j,s,hR⟩:=u
 refine zho 7 (bx b aH 97::bx a (F0 r) 71::bx pb (aK aM plr pl pat) 66::((vo A1 60 plr pl)++([]))) (bV 9 255) rfl (J7 (L2:=(bx b aH 97::bx a (F0 r) 71::bx pb (aK aM plr pl pat) 66::((vo A1 60 plr pl)++([])))) (B9n s i) rfl rfl rfl rfl rfl bT (H2 [[bx b aH 97],[bx a (F0 r) 71],[bx pb (aK aM plr pl pat) 66],vo A1 60 plr pl,vo A1 60 m o] [4,0,1,2,3] 5 rfl ozw rfl [vo A1 60 m o,[bx b aH 97],[bx a (F0 r) 71],[bx pb (aK aM plr pl pat) 66],vo A1 60 plr pl] rfl opv) (fun ⟨h,g⟩=>(bx b aH 97::bx a (F0 r) 71::bx pb (aK aM plr pl pat) 66::((vo A1 60 plr pl)++((vo A1 60 h j)++([]))))) (fun ⟨h,g⟩=>H2 [vo A1 60 h j,[bx b aH 97],[bx a (F0 r) 71],[bx pb (aK aM plr pl pat) 66],vo A1 60 plr pl] [1,2,3,4,0] 5 rfl ozw opv [[bx b aH 97],[bx a (F0 r) 71],[bx pb (aK aM plr pl pat) 66],vo A1 60 plr pl,vo A1 60 h j] rfl opv)) (fun ⟨h,g⟩=>bQ) (fun ⟨h,g⟩=>A9.refl) fun ⟨h,g⟩=>?_
 have:=bR.le g
 have:=bR.cap g
 have:=A7a o r.sign;try rw [s] at this
 refine zhp [8] 0 (bV 9 511) [(8,.slice (va h.q) j.length h.k)] ?_
 refine B1f oki ?_
 refine sh 15 [(13,[bx b aH 97]),(15,[bx a (F0 r) 71]),(15,[bx pb (aK aM plr pl pat) 66]),(15,vo A1 60 plr pl),(6,vo A1 60 h j)] [P6,P7,O0,M9,K6,P4] (bx b aH 97::bx a (F0 r) 71::bx pb (aK aM plr pl pat) 66::((vo A1 60 plr pl)++((vo A1 60 h j)++([])))) (bV 15 0) oki rfl oki oki oki bQ A9.refl ?_
 refine zhp [0,1,7,8,10] 10 (bV 15 1411) [(27,.slice (va h.q) j.length h.k),(28,pt a 12),(35,pt a 4),(37,pt a 14)] ?_
 refine zhl 2 (bx b aH 97::bx a (F0 r) 71::bx pb (aK aM plr pl pat) 66::((vo A1 60 plr pl)++([]))) (bV 15 1415) rfl (A2 (v:=iv r.many) cA rfl rfl 1 rfl rfl) ?_
 refine zhk 3 (bV 15 1423) rfl (I6.pure rfl) (zhk 4 (bV 15 1439) rfl (U8 (cs:=A1 ({Act.zero with kind:=34,n:=(IntKind.i64.wrap (r.many - (1:Int)))})) rfl rfl oki) (zhl 9 (bx b aH 97::bx a (F0 r) 71::bx pb (aK aM plr pl pat) 66::((vo A1 60 plr pl)++([]))) (bV 15 1951) rfl (D6 (us:=B3 r.sign.sty) A6y rfl rfl 1 rfl rfl rfl) ?_))
 refine zhl 11 (bx b aH 97::bx a (F0 r) 71::bx pb (aK aM plr pl pat) 66::((vo A1 60 plr pl)++([]))) (bV 15 3999) rfl (A2 (v:=iv r.til) cA rfl rfl 1 rfl rfl) ?_
 refine zho 5 (bx b aH 97::bx a (F0 r) 71::bx pb (aK aM plr pl pat) 66::((vo A1 60 plr pl)++((vo A1 60 h j)++([])))) (bV 15 4031) rfl (C1 (c:=A1) (xs:=([{Act.zero with kind:=34,n:=(IntKind.i64.wrap (r.many - (1:Int)))}]:List Act)) A2p rfl rfl rfl oki) (fun w=>bQ) (fun w=>c9) fun w=>?_
 have:([{Act.zero with kind:=34,n:=(IntKind.i64.wrap (r.many - (1:Int)))}]:List Act).length=1:=rfl
 refine zho 6 (bx b aH 97::bx a (F0 r) 71::bx pb (aK aM plr pl pat) 66::((vo A1 60 plr pl)++([]))) (bV 15 4095) rfl (Tri.own (A0f (f:=A1) (r:=h) (xs:=j) (ys:=([{Act.zero with kind:=34,n:=(IntKind.i64.wrap (r.many - (1:Int)))}]:List Act)) (pre:=(bx b aH 97::bx a (F0 r) 71::bx pb (aK aM plr pl pat) 66::((vo A1 60 plr pl)++([])))) (post:=[]) B6b (fun _=>rfl) (fun _=>rfl) rfl rfl rfl rfl rfl rfl rfl rfl ogz (B8 0 rfl) g ofv ofv) (fun ⟨d,e⟩=>(bx b aH 97::bx a (F0 r) 71::bx pb (aK aM plr pl pat) 66::((vo A1 60 plr pl)++((vo A1 60 d (j++([{Act.zero with kind:=34,n:=(IntKind.i64.wrap (r.many - (1:Int)))}]:List Act)))++([]))))) (fun ⟨d,e⟩=>by first|rfl|(try dsimp only;simp only [List.append_nil,List.cons_append,List.nil_append,List.append_assoc]))) (fun ⟨d,e⟩=>bQ) (fun ⟨d,e⟩=>c9) fun ⟨d,e⟩=>?_
 have:=bR.le e
 have:=bR.cap e
 refine zhk 12 (bV 15 8191) rfl (U8 (cs:=(.slice (va d.q) ((j++([{Act.zero with kind:=34,n:=(IntKind.i64.wrap (r.many - (1:Int)))}]:List Act)).length) d.k::aF r.sign.sty [iv r.til])) rfl rfl oki) ?_
 refine zho 13 (bx a (F0 r) 71::bx pb (aK aM plr pl pat) 66::((vo A1 60 plr pl)++([]))) (bV 15 16383) rfl (D8 (us:=(.slice (va d.q) ((j++([{Act.zero with kind:=34,n:=(IntKind.i64.wrap (r.many - (1:Int)))}]:List Act)).length) d.k::aF r.sign.sty [iv r.til])) (cs':=(.slice (va d.q) ((j++([{Act.zero with kind:=34,n:=(IntKind.i64.wrap (r.many - (1:Int)))}]:List Act)).length) d.k::aF r.sign.sty [iv r.til])) D0q rfl rfl rfl 0 rfl rfl rfl rfl rfl rfl) (fun _=>bQ) (fun _=>c9) fun _=>?_
 refine zhp [14] 0 (bV 15 32767) [(7,bv true)] ?_
 refine B1f oki ?_
 subst hR
 refine A8 ?_
 exact cD hr hD (Q9 rfl (D4 (us:=(.slice (va d.q) ((j++([{Act.zero with kind:=34,n:=(IntKind.i64.wrap (r.many - (1:Int)))}]:List Act)).length) d.k::aF r.sign.sty [iv r.til])) D0q rfl 0 rfl rfl rfl) (B0 rfl)) ⟨d,e⟩ bQ bT
def M5 (aM:Sty) (pl:List Act) (pat:Int) (r:Prn) (last:Bool):List Act×Sty×Int×Bool :=
 (bif (((!(A1g r.sign))||(!decide (r.sign.base=32)))||(!(decide (r.sign.sty={Sty.zero with back:=r.sign.sty.back})))) then (([]:List Act),(⟨0,0,(⟨0,0⟩:Col),(⟨0,0⟩:Col),(⟨0,0⟩:Col)⟩:Sty),0,false) else (bif last then (((B5 aM pl pat ({aM with back:=r.sign.sty.back}))++([{Act.zero with kind:=30,n:=r.many}]:List Act)),(⟨aM.attr,aM.under,aM.fore,r.sign.sty.back,aM.line⟩:Sty),r.at_,true) else ((((B5 aM pl pat ({aM with back:=r.sign.sty.back}))++([{Act.zero with kind:=30,n:=r.many}]:List Act))++([{Act.zero with kind:=20,n:=2,m:=r.many}]:List Act)),(⟨aM.attr,aM.under,aM.fore,r.sign.sty.back,aM.line⟩:Sty),r.til,true)))
theorem A1r (aM:Sty) (pl:List Act) (pat:Int) (r:Prn) (last:Bool):(M5 aM pl pat r last).1.length≤322∧∀ a ∈ (M5 aM pl pat r last).1,a.text.length≤100000000:=by
 unfold M5
 have b:=Q0 aM pl pat ({aM with back:=r.sign.sty.back})
 simp only [Bool.cond_eq_ite]
 repeat' split
 ·exact ⟨Nat.zero_le _,fun a c=>by cases c⟩
 ·exact ⟨by simp only [List.length_append,List.length_cons,List.length_nil];omega,D3i b.2.2 rfl⟩
 ·exact ⟨by simp only [List.length_append,List.length_cons,List.length_nil];omega,D3i (D3i b.2.2 rfl) rfl⟩
theorem B5k {aM:Sty} {pl:List Act} {pat:Int} {r:Prn} {last:Bool} {pb:Nat} {plr:VR} {R:List Act×Sty×Int×Bool} (hR:M5 aM pl pat r last=R) (w:bR 6 pl.length plr:=by exact bP) (a8:0≤r.many∧r.many≤100:=by exact bP):cI Tryz.prog 30 [pt pb 0,ag (F0 r),bv last] (bx pb (aK aM plr pl pat) 66::((vo A1 60 plr pl)++([]))) [P6,P7,O0,M9,K6,P4] ({r:VR // bR 6 R.1.length r}) (fun x=>.tuple #[ag (.slice (va x.1.q) R.1.length x.1.k::aF R.2.1 [iv R.2.2.1]),bv R.2.2.2]) (fun x=>(bx pb (aK aM plr pl pat) 66::((vo A1 60 plr pl)++((vo A1 60 x.1 R.1)++([]))))) (fun x=>[]):=by
 refine bZ Tryz.func30 fun X hX hr hD=>?_
 replace hR:=(M5.eq_1 ..).symm.trans hR
 have:=bR.le w
 refine bN rfl (E9d 3 0 [] (fun d e=>[(4,pt d 0),(6,pt e 0)]) (fun d e=>(bx e aH 97::bx d (F0 r) 71::bx pb (aK aM plr pl pat) 66::((vo A1 60 plr pl)++([])))) (fun d e=>(ie (A5 (bN rfl (bY 2 19 [1] [(11,ag (C0 r.sign))] (zv rfl (C3h rfl) (bO 2 14 rfl ?_))))))))
 refine zio 5 11 14 19 (!decide (r.sign.base=32)) (fun g3=>?_) ?_
 ·refine cE 5 [1] 19 rfl ?_
  exact A3 (O6 2 14 19 g3 A9.refl bQ rfl rfl rfl rfl rfl)
 refine bO 1 20 rfl ?_
 refine zio 10 0 20 30 (!(decide (r.sign.sty={Sty.zero with back:=r.sign.sty.back}))) (fun g4=>?_) ?_
 ·have ab:=bU g4
  refine bY 8 2 [1,1] [(23,ag (B3 r.sign.sty)),(28,ag (B3 ({Sty.zero with back:=r.sign.sty.back})))] (ix rfl (X1 (a:=r.sign.sty) (b:={Sty.zero with back:=r.sign.sty.back}) E1k rfl rfl rfl) (bO 1 30 rfl ?_))
  exact A3 (O6 5 20 30 g4 A9.refl bQ rfl rfl rfl rfl rfl)
 refine ie ?_
 refine zjb rfl hR ?_ ?_<;>clear hR<;>intro hR h5
 ·have a4:=bU h5
  refine bN rfl (zrg 3 0 [0] [(7,bv false)] (bx e aH 97::bx d (F0 r) 71::bx pb (aK aM plr pl pat) 66::((vo A1 60 plr pl)++([]))) ?_)
  subst hR
  refine ie (A8 ?_)
  exact cD hr hD (Q9 rfl (D4 (us:=aH) D0q rfl 0 rfl rfl rfl) (B0 rfl)) ⟨VR.nil,bR.nil⟩ bQ bT
 have a4:=bU h5
 refine A4 (nx (bN rfl (B2b 7 0 [2,0] (fun g=>[(8,pt g 0)]) (fun g=>(bx g (B3 aM) 26::bx e aH 97::bx d (F0 r) 71::bx pb (aK aM plr pl pat) 66::((vo A1 60 plr pl)++([])))) (fun g=>(ie (bN rfl (zrg 6 0 [2,0] [] (bx g (B3 ({aM with back:=r.sign.sty.back})) 26::bx e aH 97::bx d (F0 r) 71::bx pb (aK aM plr pl pat) 66::((vo A1 60 plr pl)++([]))) (ie ?_))))))))
 refine sh 9 [(9,[bx g (B3 ({aM with back:=r.sign.sty.back})) 26]),(9,[bx e aH 97]),(9,[bx d (F0 r) 71]),(9,[bx pb (aK aM plr pl pat) 66]),(9,vo A1 60 plr pl)] [P6,P7,O0,M9,K6,P4] (bx g (B3 ({aM with back:=r.sign.sty.back})) 26::bx e aH 97::bx d (F0 r) 71::bx pb (aK aM plr pl pat) 66::((vo A1 60 plr pl)++([]))) (bV 9 0) oki rfl oki oki oki bQ A9.refl ?_
 refine zhp [0,3] 7 (bV 9 9) [(42,pt pb 0),(45,pt d 12)] ?_
 refine zhl 1 (bx g (B3 ({aM with back:=r.sign.sty.back})) 26::bx e aH 97::bx d (F0 r) 71::bx pb (aK aM plr pl pat) 66::((vo A1 60 plr pl)++([]))) (bV 9 11) rfl (D6 (us:=B3 ({aM with back:=r.sign.sty.back})) A6y rfl rfl 0 rfl rfl rfl) ?_
 refine zhl 4 (bx g (B3 ({aM with back:=r.sign.sty.back})) 26::bx e aH 97::bx d (F0 r) 71::bx pb (aK aM plr pl pat) 66::((vo A1 60 plr pl)++([]))) (bV 9 27) rfl (A2 (v:=iv r.many) cA rfl rfl 2 rfl rfl) ?_
 refine zhk 5 (bV 9 59) rfl (U8 (cs:=A1 ({Act.zero with kind:=30,n:=r.many})) rfl rfl oki) ?_
 refine D3w 2 6 oki ?_ ?_
 ·refine E4v 2 (bx g (B3 ({aM with back:=r.sign.sty.back})) 26::bx e aH 97::bx d (F0 r) 71::bx pb (aK aM plr pl pat) 66::((vo A1 60 plr pl)++([]))) (bV 9 63) rfl rfl rfl oki oki oki (J7 (L2:=[bx g (B3 ({aM with back:=r.sign.sty.back})) 26,bx e aH 97,bx d (F0 r) 71]) (A0k (aM:=aM) (pl:=pl) (pat:=pat) (to_:=({aM with back:=r.sign.sty.back})) (pb:=pb) (plr:=plr) rfl w) rfl rfl rfl rfl rfl A9.refl (H2 [[bx g (B3 ({aM with back:=r.sign.sty.back})) 26],[bx e aH 97],[bx d (F0 r) 71],[bx pb (aK aM plr pl pat) 66],vo A1 60 plr pl] [3,4,0,1,2] 5 rfl ozw rfl [[bx pb (aK aM plr pl pat) 66],vo A1 60 plr pl,[bx g (B3 ({aM with back:=r.sign.sty.back})) 26],[bx e aH 97],[bx d (F0 r) 71]] rfl opv) (fun ⟨r7,z⟩=>(bx g (B3 ({aM with back:=r.sign.sty.back})) 26::bx e aH 97::bx d (F0 r) 71::bx pb (aK aM plr pl pat) 66::((vo A1 60 plr pl)++((vo A1 60 r7 (B5 aM pl pat ({aM with back:=r.sign.sty.back})))++([]))))) (fun ⟨r7,z⟩=>H2 [[bx pb (aK aM plr pl pat) 66],vo A1 60 plr pl,vo A1 60 r7 (B5 aM pl pat ({aM with back:=r.sign.sty.back})),[bx g (B3 ({aM with back:=r.sign.sty.back})) 26],[bx e aH 97],[bx d (F0 r) 71]] [3,4,5,0,1,2] 6 rfl ozw opv [[bx g (B3 ({aM with back:=r.sign.sty.back})) 26],[bx e aH 97],[bx d (F0 r) 71],[bx pb (aK aM plr pl pat) 66],vo A1 60 plr pl,vo A1 60 r7 (B5 aM pl pat ({aM with back:=r.sign.sty.back}))] rfl opv)) (fun ⟨r7,z⟩=>bQ) (fun ⟨r7,z⟩=>A9.refl) fun ⟨r7,z⟩=>?_
  have:=bR.le z
  have:=bR.cap z
  have:=Q0 aM pl pat ({aM with back:=r.sign.sty.back})
  obtain ⟨_,_,_⟩:=this
  refine zho 6 (bx g (B3 ({aM with back:=r.sign.sty.back})) 26::bx e aH 97::bx d (F0 r) 71::bx pb (aK aM plr pl pat) 66::((vo A1 60 plr pl)++([]))) (bV 9 127) rfl (C1 (c:=A1) (xs:=([{Act.zero with kind:=30,n:=r.many}]:List Act)) A2p rfl rfl rfl oki) (fun b9=>bQ) (fun b9=>c9) fun b9=>?_
  have:([{Act.zero with kind:=30,n:=r.many}]:List Act).length=1:=rfl
  refine zho 7 (bx g (B3 ({aM with back:=r.sign.sty.back})) 26::bx e aH 97::bx d (F0 r) 71::bx pb (aK aM plr pl pat) 66::((vo A1 60 plr pl)++([]))) (bV 9 255) rfl (Tri.own (A0f (f:=A1) (r:=r7) (xs:=(B5 aM pl pat ({aM with back:=r.sign.sty.back}))) (ys:=([{Act.zero with kind:=30,n:=r.many}]:List Act)) (pre:=(bx g (B3 ({aM with back:=r.sign.sty.back})) 26::bx e aH 97::bx d (F0 r) 71::bx pb (aK aM plr pl pat) 66::((vo A1 60 plr pl)++([])))) (post:=[]) B6b (fun _=>rfl) (fun _=>rfl) rfl rfl rfl rfl rfl rfl rfl rfl ogz (B8 0 rfl) z ofv ofv) (fun ⟨h,p⟩=>(bx g (B3 ({aM with back:=r.sign.sty.back})) 26::bx e aH 97::bx d (F0 r) 71::bx pb (aK aM plr pl pat) 66::((vo A1 60 plr pl)++((vo A1 60 h ((B5 aM pl pat ({aM with back:=r.sign.sty.back}))++([{Act.zero with kind:=30,n:=r.many}]:List Act)))++([]))))) (fun ⟨h,p⟩=>by first|rfl|(try dsimp only;simp only [List.append_nil,List.cons_append,List.nil_append,List.append_assoc]))) (fun ⟨h,p⟩=>bQ) (fun ⟨h,p⟩=>c9) fun ⟨h,p⟩=>?_
  have:=bR.le p
  have:=bR.cap p
  refine zhp [8] 0 (bV 9 511) [(9,.slice (va h.q) (((B5 aM pl pat ({aM with back:=r.sign.sty.back}))++([{Act.zero with kind:=30,n:=r.many}]:List Act)).length) h.k)] ?_
  refine B1f oki ?_
  refine A5 (bN rfl (bO 1 50 rfl ?_))
  refine ie ?_
  refine zjb rfl hR ?_ ?_<;>clear hR<;>intro hR aa
  ·refine bN rfl (zrg 7 0 [0,2,1] [(7,bv true)] (bx g (B3 ({aM with back:=r.sign.sty.back})) 26::bx e [.slice (va h.q) (((B5 aM pl pat ({aM with back:=r.sign.sty.back}))++([{Act.zero with kind:=30,n:=r.many}]:List Act)).length) h.k,iv aM.attr,iv aM.under,iv aM.fore.kind,iv aM.fore.n,iv r.sign.sty.back.kind,iv r.sign.sty.back.n,iv aM.line.kind,iv aM.line.n,iv r.at_] 97::bx d (F0 r) 71::bx pb (aK aM plr pl pat) 66::((vo A1 60 plr pl)++((vo A1 60 h ((B5 aM pl pat ({aM with back:=r.sign.sty.back}))++([{Act.zero with kind:=30,n:=r.many}]:List Act)))++([])))) ?_)
   subst hR
   refine ie (A8 ?_)
   exact cD hr hD (Q9 rfl (D4 (us:=[.slice (va h.q) (((B5 aM pl pat ({aM with back:=r.sign.sty.back}))++([{Act.zero with kind:=30,n:=r.many}]:List Act)).length) h.k,iv aM.attr,iv aM.under,iv aM.fore.kind,iv aM.fore.n,iv r.sign.sty.back.kind,iv r.sign.sty.back.n,iv aM.line.kind,iv aM.line.n,iv r.at_]) D0q rfl 1 rfl rfl rfl) (B0 rfl)) ⟨h,p⟩ bQ bT
  refine A4 (nx ?_)
  refine sh 12 [(12,[bx g (B3 ({aM with back:=r.sign.sty.back})) 26]),(10,[bx e aH 97]),(12,[bx d (F0 r) 71]),(12,[bx pb (aK aM plr pl pat) 66]),(12,vo A1 60 plr pl),(5,vo A1 60 h ((B5 aM pl pat ({aM with back:=r.sign.sty.back}))++([{Act.zero with kind:=30,n:=r.many}]:List Act)))] [sl A1 (some ⟨b9,0,none⟩) ([{Act.zero with kind:=30,n:=r.many}]:List Act),P6,P7,O0,M9,K6,P4] (bx g (B3 ({aM with back:=r.sign.sty.back})) 26::bx e aH 97::bx d (F0 r) 71::bx pb (aK aM plr pl pat) 66::((vo A1 60 plr pl)++((vo A1 60 h ((B5 aM pl pat ({aM with back:=r.sign.sty.back}))++([{Act.zero with kind:=30,n:=r.many}]:List Act)))++([])))) (bV 12 0) oki rfl oki oki oki bQ A9.refl ?_
  refine zhp [0,1,7] 9 (bV 12 131) [(56,.slice (va h.q) (((B5 aM pl pat ({aM with back:=r.sign.sty.back}))++([{Act.zero with kind:=30,n:=r.many}]:List Act)).length) h.k),(57,pt d 12),(63,pt d 14)] ?_
  refine zhl 2 (bx g (B3 ({aM with back:=r.sign.sty.back})) 26::bx e aH 97::bx d (F0 r) 71::bx pb (aK aM plr pl pat) 66::((vo A1 60 plr pl)++([]))) (bV 12 135) rfl (A2 (v:=iv r.many) cA rfl rfl 2 rfl rfl) ?_
  refine zhk 3 (bV 12 143) rfl (U8 (cs:=A1 ({Act.zero with kind:=20,n:=2,m:=r.many})) rfl rfl oki) (zhl 6 (bx g (B3 ({aM with back:=r.sign.sty.back})) 26::bx e aH 97::bx d (F0 r) 71::bx pb (aK aM plr pl pat) 66::((vo A1 60 plr pl)++([]))) (bV 12 207) rfl (D6 (us:=B3 ({aM with back:=r.sign.sty.back})) A6y rfl rfl 0 rfl rfl rfl) ?_)
  refine zhl 8 (bx g (B3 ({aM with back:=r.sign.sty.back})) 26::bx e aH 97::bx d (F0 r) 71::bx pb (aK aM plr pl pat) 66::((vo A1 60 plr pl)++([]))) (bV 12 463) rfl (A2 (v:=iv r.til) cA rfl rfl 2 rfl rfl) ?_
  refine zho 4 (bx g (B3 ({aM with back:=r.sign.sty.back})) 26::bx e aH 97::bx d (F0 r) 71::bx pb (aK aM plr pl pat) 66::((vo A1 60 plr pl)++((vo A1 60 h ((B5 aM pl pat ({aM with back:=r.sign.sty.back}))++([{Act.zero with kind:=30,n:=r.many}]:List Act)))++([])))) (bV 12 479) rfl (C1 (c:=A1) (xs:=([{Act.zero with kind:=20,n:=2,m:=r.many}]:List Act)) A2p rfl rfl rfl oki) (fun a2=>bQ) (fun a2=>c9) fun a2=>?_
  have:([{Act.zero with kind:=20,n:=2,m:=r.many}]:List Act).length=1:=rfl
  refine zho 5 (bx g (B3 ({aM with back:=r.sign.sty.back})) 26::bx e aH 97::bx d (F0 r) 71::bx pb (aK aM plr pl pat) 66::((vo A1 60 plr pl)++([]))) (bV 12 511) rfl (Tri.own (A0f (f:=A1) (r:=h) (xs:=((B5 aM pl pat ({aM with back:=r.sign.sty.back}))++([{Act.zero with kind:=30,n:=r.many}]:List Act))) (ys:=([{Act.zero with kind:=20,n:=2,m:=r.many}]:List Act)) (pre:=(bx g (B3 ({aM with back:=r.sign.sty.back})) 26::bx e aH 97::bx d (F0 r) 71::bx pb (aK aM plr pl pat) 66::((vo A1 60 plr pl)++([])))) (post:=[]) B6b (fun _=>rfl) (fun _=>rfl) rfl rfl rfl rfl rfl rfl rfl rfl ogz (B8 0 rfl) p ofv ofv) (fun ⟨l,s⟩=>(bx g (B3 ({aM with back:=r.sign.sty.back})) 26::bx e aH 97::bx d (F0 r) 71::bx pb (aK aM plr pl pat) 66::((vo A1 60 plr pl)++((vo A1 60 l (((B5 aM pl pat ({aM with back:=r.sign.sty.back}))++([{Act.zero with kind:=30,n:=r.many}]:List Act))++([{Act.zero with kind:=20,n:=2,m:=r.many}]:List Act)))++([]))))) (fun ⟨l,s⟩=>by first|rfl|(try dsimp only;simp only [List.append_nil,List.cons_append,List.nil_append,List.append_assoc]))) (fun ⟨l,s⟩=>bQ) (fun ⟨l,s⟩=>c9) fun ⟨l,s⟩=>?_
  have:=bR.le s
  have:=bR.cap s
  refine zhk 9 (bV 12 1023) rfl (U8 (cs:=[.slice (va l.q) ((((B5 aM pl pat ({aM with back:=r.sign.sty.back}))++([{Act.zero with kind:=30,n:=r.many}]:List Act))++([{Act.zero with kind:=20,n:=2,m:=r.many}]:List Act)).length) l.k,iv aM.attr,iv aM.under,iv aM.fore.kind,iv aM.fore.n,iv r.sign.sty.back.kind,iv r.sign.sty.back.n,iv aM.line.kind,iv aM.line.n,iv r.til]) rfl rfl oki) ?_
  refine zho 10 (bx g (B3 ({aM with back:=r.sign.sty.back})) 26::bx d (F0 r) 71::bx pb (aK aM plr pl pat) 66::((vo A1 60 plr pl)++([]))) (bV 12 2047) rfl (D8 (us:=[.slice (va l.q) ((((B5 aM pl pat ({aM with back:=r.sign.sty.back}))++([{Act.zero with kind:=30,n:=r.many}]:List Act))++([{Act.zero with kind:=20,n:=2,m:=r.many}]:List Act)).length) l.k,iv aM.attr,iv aM.under,iv aM.fore.kind,iv aM.fore.n,iv r.sign.sty.back.kind,iv r.sign.sty.back.n,iv aM.line.kind,iv aM.line.n,iv r.til]) (cs':=[.slice (va l.q) ((((B5 aM pl pat ({aM with back:=r.sign.sty.back}))++([{Act.zero with kind:=30,n:=r.many}]:List Act))++([{Act.zero with kind:=20,n:=2,m:=r.many}]:List Act)).length) l.k,iv aM.attr,iv aM.under,iv aM.fore.kind,iv aM.fore.n,iv r.sign.sty.back.kind,iv r.sign.sty.back.n,iv aM.line.kind,iv aM.line.n,iv r.til]) D0q rfl rfl rfl 1 rfl rfl rfl rfl rfl rfl) (fun _=>bQ) (fun _=>c9) fun _=>?_
  refine zhp [11] 0 (bV 12 4095) [(7,bv true)] ?_
  refine B1f oki ?_
  subst hR
  refine A8 ?_
  exact cD hr hD (Q9 rfl (D4 (us:=[.slice (va l.q) ((((B5 aM pl pat ({aM with back:=r.sign.sty.back}))++([{Act.zero with kind:=30,n:=r.many}]:List Act))++([{Act.zero with kind:=20,n:=2,m:=r.many}]:List Act)).length) l.k,iv aM.attr,iv aM.under,iv aM.fore.kind,iv aM.fore.n,iv r.sign.sty.back.kind,iv r.sign.sty.back.n,iv aM.line.kind,iv aM.line.n,iv r.til]) D0q rfl 1 rfl rfl rfl) (B0 rfl)) ⟨l,s⟩ bQ bT
 ·refine E4v 6 (bx g (B3 ({aM with back:=r.sign.sty.back})) 26::bx e aH 97::bx d (F0 r) 71::bx pb (aK aM plr pl pat) 66::((vo A1 60 plr pl)++([]))) (bV 9 123) rfl rfl rfl oki oki oki (C1 (c:=A1) (xs:=([{Act.zero with kind:=30,n:=r.many}]:List Act)) A2p rfl rfl rfl oki) (fun a1=>bQ) (fun a1=>c9) fun a1=>?_
  have:([{Act.zero with kind:=30,n:=r.many}]:List Act).length=1:=rfl
  refine zho 2 (bx g (B3 ({aM with back:=r.sign.sty.back})) 26::bx e aH 97::bx d (F0 r) 71::bx pb (aK aM plr pl pat) 66::((vo A1 60 plr pl)++([]))) (bV 9 127) rfl (J7 (L2:=[bx g (B3 ({aM with back:=r.sign.sty.back})) 26,bx e aH 97,bx d (F0 r) 71]) (A0k (aM:=aM) (pl:=pl) (pat:=pat) (to_:=({aM with back:=r.sign.sty.back})) (pb:=pb) (plr:=plr) rfl w) rfl rfl rfl rfl rfl c9 (H2 [[bx g (B3 ({aM with back:=r.sign.sty.back})) 26],[bx e aH 97],[bx d (F0 r) 71],[bx pb (aK aM plr pl pat) 66],vo A1 60 plr pl] [3,4,0,1,2] 5 rfl ozw rfl [[bx pb (aK aM plr pl pat) 66],vo A1 60 plr pl,[bx g (B3 ({aM with back:=r.sign.sty.back})) 26],[bx e aH 97],[bx d (F0 r) 71]] rfl opv) (fun ⟨y,t⟩=>(bx g (B3 ({aM with back:=r.sign.sty.back})) 26::bx e aH 97::bx d (F0 r) 71::bx pb (aK aM plr pl pat) 66::((vo A1 60 plr pl)++((vo A1 60 y (B5 aM pl pat ({aM with back:=r.sign.sty.back})))++([]))))) (fun ⟨y,t⟩=>H2 [[bx pb (aK aM plr pl pat) 66],vo A1 60 plr pl,vo A1 60 y (B5 aM pl pat ({aM with back:=r.sign.sty.back})),[bx g (B3 ({aM with back:=r.sign.sty.back})) 26],[bx e aH 97],[bx d (F0 r) 71]] [3,4,5,0,1,2] 6 rfl ozw opv [[bx g (B3 ({aM with back:=r.sign.sty.back})) 26],[bx e aH 97],[bx d (F0 r) 71],[bx pb (aK aM plr pl pat) 66],vo A1 60 plr pl,vo A1 60 y (B5 aM pl pat ({aM with back:=r.sign.sty.back}))] rfl opv)) (fun ⟨y,t⟩=>bQ) (fun ⟨y,t⟩=>c9) fun ⟨y,t⟩=>?_
  have:=bR.le t
  have:=bR.cap t
  have:=Q0 aM pl pat ({aM with back:=r.sign.sty.back})
  obtain ⟨_,_,_⟩:=this
  refine zho 7 (bx g (B3 ({aM with back:=r.sign.sty.back})) 26::bx e aH 97::bx d (F0 r) 71::bx pb (aK aM plr pl pat) 66::((vo A1 60 plr pl)++([]))) (bV 9 255) rfl (Tri.own (A0f (f:=A1) (r:=y) (xs:=(B5 aM pl pat ({aM with back:=r.sign.sty.back}))) (ys:=([{Act.zero with kind:=30,n:=r.many}]:List Act)) (pre:=(bx g (B3 ({aM with back:=r.sign.sty.back})) 26::bx e aH 97::bx d (F0 r) 71::bx pb (aK aM plr pl pat) 66::((vo A1 60 plr pl)++([])))) (post:=[]) B6b (fun _=>rfl) (fun _=>rfl) rfl rfl rfl rfl rfl rfl rfl rfl ogz (B8 0 rfl) t ofv ofv) (fun ⟨i,o⟩=>(bx g (B3 ({aM with back:=r.sign.sty.back})) 26::bx e aH 97::bx d (F0 r) 71::bx pb (aK aM plr pl pat) 66::((vo A1 60 plr pl)++((vo A1 60 i ((B5 aM pl pat ({aM with back:=r.sign.sty.back}))++([{Act.zero with kind:=30,n:=r.many}]:List Act)))++([]))))) (fun ⟨i,o⟩=>by first|rfl|(try dsimp only;simp only [List.append_nil,List.cons_append,List.nil_append,List.append_assoc]))) (fun ⟨i,o⟩=>bQ) (fun ⟨i,o⟩=>c9) fun ⟨i,o⟩=>?_
  have:=bR.le o
  have:=bR.cap o
  refine zhp [8] 0 (bV 9 511) [(9,.slice (va i.q) (((B5 aM pl pat ({aM with back:=r.sign.sty.back}))++([{Act.zero with kind:=30,n:=r.many}]:List Act)).length) i.k)] ?_
  refine B1f oki ?_
  refine A5 (bN rfl (bO 1 50 rfl ?_))
  refine ie ?_
  refine zjb rfl hR ?_ ?_<;>clear hR<;>intro hR ac
  ·refine bN rfl (zrg 7 0 [0,2,1] [(7,bv true)] (bx g (B3 ({aM with back:=r.sign.sty.back})) 26::bx e [.slice (va i.q) (((B5 aM pl pat ({aM with back:=r.sign.sty.back}))++([{Act.zero with kind:=30,n:=r.many}]:List Act)).length) i.k,iv aM.attr,iv aM.under,iv aM.fore.kind,iv aM.fore.n,iv r.sign.sty.back.kind,iv r.sign.sty.back.n,iv aM.line.kind,iv aM.line.n,iv r.at_] 97::bx d (F0 r) 71::bx pb (aK aM plr pl pat) 66::((vo A1 60 plr pl)++((vo A1 60 i ((B5 aM pl pat ({aM with back:=r.sign.sty.back}))++([{Act.zero with kind:=30,n:=r.many}]:List Act)))++([])))) ?_)
   subst hR
   refine ie (A8 ?_)
   exact cD hr hD (Q9 rfl (D4 (us:=[.slice (va i.q) (((B5 aM pl pat ({aM with back:=r.sign.sty.back}))++([{Act.zero with kind:=30,n:=r.many}]:List Act)).length) i.k,iv aM.attr,iv aM.under,iv aM.fore.kind,iv aM.fore.n,iv r.sign.sty.back.kind,iv r.sign.sty.back.n,iv aM.line.kind,iv aM.line.n,iv r.at_]) D0q rfl 1 rfl rfl rfl) (B0 rfl)) ⟨i,o⟩ bQ bT
  refine A4 (nx ?_)
  refine sh 12 [(12,[bx g (B3 ({aM with back:=r.sign.sty.back})) 26]),(10,[bx e aH 97]),(12,[bx d (F0 r) 71]),(12,[bx pb (aK aM plr pl pat) 66]),(12,vo A1 60 plr pl),(5,vo A1 60 i ((B5 aM pl pat ({aM with back:=r.sign.sty.back}))++([{Act.zero with kind:=30,n:=r.many}]:List Act)))] [sl A1 (some ⟨a1,0,none⟩) ([{Act.zero with kind:=30,n:=r.many}]:List Act),P6,P7,O0,M9,K6,P4] (bx g (B3 ({aM with back:=r.sign.sty.back})) 26::bx e aH 97::bx d (F0 r) 71::bx pb (aK aM plr pl pat) 66::((vo A1 60 plr pl)++((vo A1 60 i ((B5 aM pl pat ({aM with back:=r.sign.sty.back}))++([{Act.zero with kind:=30,n:=r.many}]:List Act)))++([])))) (bV 12 0) oki rfl oki oki oki bQ A9.refl ?_
  refine zhp [0,1,7] 9 (bV 12 131) [(56,.slice (va i.q) (((B5 aM pl pat ({aM with back:=r.sign.sty.back}))++([{Act.zero with kind:=30,n:=r.many}]:List Act)).length) i.k),(57,pt d 12),(63,pt d 14)] ?_
  refine zhl 2 (bx g (B3 ({aM with back:=r.sign.sty.back})) 26::bx e aH 97::bx d (F0 r) 71::bx pb (aK aM plr pl pat) 66::((vo A1 60 plr pl)++([]))) (bV 12 135) rfl (A2 (v:=iv r.many) cA rfl rfl 2 rfl rfl) ?_
  refine zhk 3 (bV 12 143) rfl (U8 (cs:=A1 ({Act.zero with kind:=20,n:=2,m:=r.many})) rfl rfl oki) (zhl 6 (bx g (B3 ({aM with back:=r.sign.sty.back})) 26::bx e aH 97::bx d (F0 r) 71::bx pb (aK aM plr pl pat) 66::((vo A1 60 plr pl)++([]))) (bV 12 207) rfl (D6 (us:=B3 ({aM with back:=r.sign.sty.back})) A6y rfl rfl 0 rfl rfl rfl) ?_)
  refine zhl 8 (bx g (B3 ({aM with back:=r.sign.sty.back})) 26::bx e aH 97::bx d (F0 r) 71::bx pb (aK aM plr pl pat) 66::((vo A1 60 plr pl)++([]))) (bV 12 463) rfl (A2 (v:=iv r.til) cA rfl rfl 2 rfl rfl) ?_
  refine zho 4 (bx g (B3 ({aM with back:=r.sign.sty.back})) 26::bx e aH 97::bx d (F0 r) 71::bx pb (aK aM plr pl pat) 66::((vo A1 60 plr pl)++((vo A1 60 i ((B5 aM pl pat ({aM with back:=r.sign.sty.back}))++([{Act.zero with kind:=30,n:=r.many}]:List Act)))++([])))) (bV 12 479) rfl (C1 (c:=A1) (xs:=([{Act.zero with kind:=20,n:=2,m:=r.many}]:List Act)) A2p rfl rfl rfl oki) (fun a3=>bQ) (fun a3=>c9) fun a3=>?_
  have:([{Act.zero with kind:=20,n:=2,m:=r.many}]:List Act).length=1:=rfl
  refine zho 5 (bx g (B3 ({aM with back:=r.sign.sty.back})) 26::bx e aH 97::bx d (F0 r) 71::bx pb (aK aM plr pl pat) 66::((vo A1 60 plr pl)++([]))) (bV 12 511) rfl (Tri.own (A0f (f:=A1) (r:=i) (xs:=((B5 aM pl pat ({aM with back:=r.sign.sty.back}))++([{Act.zero with kind:=30,n:=r.many}]:List Act))) (ys:=([{Act.zero with kind:=20,n:=2,m:=r.many}]:List Act)) (pre:=(bx g (B3 ({aM with back:=r.sign.sty.back})) 26::bx e aH 97::bx d (F0 r) 71::bx pb (aK aM plr pl pat) 66::((vo A1 60 plr pl)++([])))) (post:=[]) B6b (fun _=>rfl) (fun _=>rfl) rfl rfl rfl rfl rfl rfl rfl rfl ogz (B8 0 rfl) o ofv ofv) (fun ⟨j,u⟩=>(bx g (B3 ({aM with back:=r.sign.sty.back})) 26::bx e aH 97::bx d (F0 r) 71::bx pb (aK aM plr pl pat) 66::((vo A1 60 plr pl)++((vo A1 60 j (((B5 aM pl pat ({aM with back:=r.sign.sty.back}))++([{Act.zero with kind:=30,n:=r.many}]:List Act))++([{Act.zero with kind:=20,n:=2,m:=r.many}]:List Act)))++([]))))) (fun ⟨j,u⟩=>by first|rfl|(try dsimp only;simp only [List.append_nil,List.cons_append,List.nil_append,List.append_assoc]))) (fun ⟨j,u⟩=>bQ) (fun ⟨j,u⟩=>c9) fun ⟨j,u⟩=>?_
  have:=bR.le u
  have:=bR.cap u
  refine zhk 9 (bV 12 1023) rfl (U8 (cs:=[.slice (va j.q) ((((B5 aM pl pat ({aM with back:=r.sign.sty.back}))++([{Act.zero with kind:=30,n:=r.many}]:List Act))++([{Act.zero with kind:=20,n:=2,m:=r.many}]:List Act)).length) j.k,iv aM.attr,iv aM.under,iv aM.fore.kind,iv aM.fore.n,iv r.sign.sty.back.kind,iv r.sign.sty.back.n,iv aM.line.kind,iv aM.line.n,iv r.til]) rfl rfl oki) ?_
  refine zho 10 (bx g (B3 ({aM with back:=r.sign.sty.back})) 26::bx d (F0 r) 71::bx pb (aK aM plr pl pat) 66::((vo A1 60 plr pl)++([]))) (bV 12 2047) rfl (D8 (us:=[.slice (va j.q) ((((B5 aM pl pat ({aM with back:=r.sign.sty.back}))++([{Act.zero with kind:=30,n:=r.many}]:List Act))++([{Act.zero with kind:=20,n:=2,m:=r.many}]:List Act)).length) j.k,iv aM.attr,iv aM.under,iv aM.fore.kind,iv aM.fore.n,iv r.sign.sty.back.kind,iv r.sign.sty.back.n,iv aM.line.kind,iv aM.line.n,iv r.til]) (cs':=[.slice (va j.q) ((((B5 aM pl pat ({aM with back:=r.sign.sty.back}))++([{Act.zero with kind:=30,n:=r.many}]:List Act))++([{Act.zero with kind:=20,n:=2,m:=r.many}]:List Act)).length) j.k,iv aM.attr,iv aM.under,iv aM.fore.kind,iv aM.fore.n,iv r.sign.sty.back.kind,iv r.sign.sty.back.n,iv aM.line.kind,iv aM.line.n,iv r.til]) D0q rfl rfl rfl 1 rfl rfl rfl rfl rfl rfl) (fun _=>bQ) (fun _=>c9) fun _=>?_
  refine zhp [11] 0 (bV 12 4095) [(7,bv true)] ?_
  refine B1f oki ?_
  subst hR
  refine A8 ?_
  exact cD hr hD (Q9 rfl (D4 (us:=[.slice (va j.q) ((((B5 aM pl pat ({aM with back:=r.sign.sty.back}))++([{Act.zero with kind:=30,n:=r.many}]:List Act))++([{Act.zero with kind:=20,n:=2,m:=r.many}]:List Act)).length) j.k,iv aM.attr,iv aM.under,iv aM.fore.kind,iv aM.fore.n,iv r.sign.sty.back.kind,iv r.sign.sty.back.n,iv aM.line.kind,iv aM.line.n,iv r.til]) D0q rfl 1 rfl rfl rfl) (B0 rfl)) ⟨j,u⟩ bQ bT
def M4 (pl:List Act) (d:Int) (c:List Act) (a:Sty) (b:Int):List Act×Sty×Int :=
 ((pl++c),a,b)
def K9 (aM:Sty) (pl:List Act) (pat:Int) (r:Prn) (last:Bool) (b:Int) (d:List Act) (a:Sty) (c:Int):List Act×Sty×Int :=
 (C2 (M5 aM pl pat r last) fun (e:List Act×Sty×Int×Bool)=>(C2 (N8 e.1) fun (f:List UInt8×Int)=>(bif (((!e.2.2.2)||(!decide (f.2=0)))||((decide ((0:Int)≤b))&&(decide (b≤(f.1.length:Int))))) then M4 pl b d a c else M4 pl (f.1.length:Int) e.1 e.2.1 e.2.2.1)))
def J0 (aM:Sty) (pl:List Act) (pat:Int) (r:Prn) (last:Bool) (b:Int) (d:List Act) (a:Sty) (c:Int):List Act×Sty×Int :=
 (C2 (L5 aM pl pat r last) fun (e:List Act×Sty×Int×Bool)=>(C2 (N8 e.1) fun (f:List UInt8×Int)=>(bif (((!e.2.2.2)||(!decide (f.2=0)))||((decide ((0:Int)≤b))&&(decide (b≤(f.1.length:Int))))) then K9 aM pl pat r last b d a c else K9 aM pl pat r last (f.1.length:Int) e.1 e.2.1 e.2.2.1)))
def P5 (aM:Sty) (pl:List Act) (pat:Int) (r:Prn) (last:Bool):List Act×Sty×Int :=
 (C2 (M7 aM pl pat r last) fun (a:List Act×Sty×Int×Bool)=>(C2 (N8 a.1) fun (b:List UInt8×Int)=>(bif (((!a.2.2.2)||(!decide (b.2=0)))||false) then J0 aM pl pat r last (-1) ([]:List Act) (⟨0,0,(⟨0,0⟩:Col),(⟨0,0⟩:Col),(⟨0,0⟩:Col)⟩:Sty) 0 else J0 aM pl pat r last (b.1.length:Int) a.1 a.2.1 a.2.2.1)))
theorem C5f {c:Bool} {x y:List Act×Sty×Int} {n:Nat} (a:x.1.length≤n) (b:y.1.length≤n):(bif c then x else y).1.length≤n:=by cases c<;>assumption
theorem A5k (pl:List Act) (c:Int) (b:List Act) (s:Sty) (t:Int) (a:b.length≤322):(M4 pl c b s t).1.length≤pl.length+322:=by
 unfold M4;simp only [List.length_append];omega
theorem A5q (d:Sty) (pl:List Act) (pat:Int) (r:Prn) (last:Bool) (c:Int) (b:List Act) (s:Sty) (t:Int) (a:b.length≤322):(K9 d pl pat r last c b s t).1.length≤pl.length+322:=by
 unfold K9 C2
 exact C5f (A5k _ _ _ _ _ a) (A5k _ _ _ _ _ (A1r ..).1)
theorem A5e (d:Sty) (pl:List Act) (pat:Int) (r:Prn) (last:Bool) (c:Int) (b:List Act) (s:Sty) (t:Int) (a:b.length≤322):(J0 d pl pat r last c b s t).1.length≤pl.length+322:=by
 unfold J0 C2
 exact C5f (A5q _ _ _ _ _ _ _ _ _ a) (A5q _ _ _ _ _ _ _ _ _ (A1m ..).1)
theorem A8b (aM:Sty) (pl:List Act) (pat:Int) (r:Prn) (last:Bool) (a:0≤r.many∧r.many≤100):(P5 aM pl pat r last).1.length≤pl.length+322:=by
 unfold P5 C2
 exact C5f (A5e _ _ _ _ _ _ _ _ _ (Nat.zero_le _)) (A5e _ _ _ _ _ _ _ _ _ (A1s _ _ _ _ _ a).1)
theorem D4d {c:Bool} {x y:List Act×Sty×Int} (d:∀ a ∈ x.1,a.text.length≤100000000) (b:∀ a ∈ y.1,a.text.length≤100000000):∀ a ∈ (bif c then x else y).1,a.text.length≤100000000:=by cases c<;>assumption
theorem A6k (pl:List Act) (c:Int) (b:List Act) (s:Sty) (t:Int) (f:∀ a ∈ pl,a.text.length≤100000000) (e:∀ a ∈ b,a.text.length≤100000000):∀ a ∈ (M4 pl c b s t).1,a.text.length≤100000000:=by
 unfold M4
 intro a d
 rcases List.mem_append.1 d with d | d
 ·exact f a d
 ·exact e a d
theorem A6h (f:Sty) (pl:List Act) (pat:Int) (r:Prn) (last:Bool) (c:Int) (b:List Act) (s:Sty) (t:Int) (d:∀ a ∈ pl,a.text.length≤100000000) (e:∀ a ∈ b,a.text.length≤100000000):∀ a ∈ (K9 f pl pat r last c b s t).1,a.text.length≤100000000:=by
 unfold K9 C2
 exact D4d (A6k _ _ _ _ _ d e) (A6k _ _ _ _ _ d (A1r ..).2)
theorem A6j (f:Sty) (pl:List Act) (pat:Int) (r:Prn) (last:Bool) (c:Int) (b:List Act) (s:Sty) (t:Int) (d:∀ a ∈ pl,a.text.length≤100000000) (e:∀ a ∈ b,a.text.length≤100000000):∀ a ∈ (J0 f pl pat r last c b s t).1,a.text.length≤100000000:=by
 unfold J0 C2
 exact D4d (A6h _ _ _ _ _ _ _ _ _ d e) (A6h _ _ _ _ _ _ _ _ _ d (A1m ..).2)
theorem B6s (aM:Sty) (pl:List Act) (pat:Int) (r:Prn) (last:Bool) (c:0≤r.many∧r.many≤100) (b:∀ a ∈ pl,a.text.length≤100000000):∀ a ∈ (P5 aM pl pat r last).1,a.text.length≤100000000:=by
 unfold P5 C2
 exact D4d (A6j _ _ _ _ _ _ _ _ _ b (fun a d=>by cases d)) (A6j _ _ _ _ _ _ _ _ _ b (A1s _ _ _ _ _ c).2)
theorem B8k {aM:Sty} {pl:List Act} {pat:Int} {r:Prn} {last:Bool} {pb:Nat} {plr:VR} {R:List Act×Sty×Int} (hR:P5 aM pl pat r last=R) (a7:bR 6 pl.length plr:=by exact bP) (c1:0≤r.many∧r.many≤100:=by exact bP) (c0:pl.length≤1000000:=by exact bP):cI Tryz.prog 15 [pt pb 0,ag (F0 r),bv last] (bx pb (aK aM plr pl pat) 66::((vo A1 60 plr pl)++([]))) [P6,P7,O0,M9,K6,P4] ({r:VR // bR 6 R.1.length r}) (fun x=>.tuple #[]) (fun x=>(bx pb (aF R.2.1 [.slice (va x.1.q) R.1.length x.1.k,iv R.2.2]) 66::((vo A1 60 x.1 R.1)++([])))) (fun x=>[]):=by
 refine bZ Tryz.func15 fun X hX hr hD=>?_
 replace hR:=(P5.eq_1 ..).symm.trans hR
 have:=bR.le a7
 refine bN rfl (B2b 1 0 [] (fun u=>[(4,pt u 0)]) (fun u=>(bx u (F0 r) 71::bx pb (aK aM plr pl pat) 66::((vo A1 60 plr pl)++([])))) (fun u=>(ie (D4t (bN rfl (B2b 1 0 [] (fun t=>[(6,pt t 0)]) (fun t=>(bx t aH 97::bx u (F0 r) 71::bx pb (aK aM plr pl pat) 66::((vo A1 60 plr pl)++([])))) (fun t=>(ie (bN rfl (bO 1 7 rfl (ie (A5 (D5j (nx (A5 (bN rfl (bY 11 0 [] [(23,ag [.func (.func 28) #[pt pb 0] #[],.func (.func 29) #[pt pb 0] #[],.func (.func 30) #[pt pb 0] #[]]),(24,iv 0)] (ie (B2 (Z6 5 ?_))))))))))))))))))))
 refine D9 (bN rfl (bO 1 25 rfl ?_))
 refine ie (A5 (J9 rfl (A4 (nx (A9c (un fun (ac:Int)=>un fun (j:List Act)=>un fun (b:VR)=>un fun (i:Sty) (p:Int)=>(J0 aM pl pat r last ac j i p=R∧bR 6 j.length b∧j.length≤322,[(0,pt pb 0),(2,bv last),(4,pt u 0),(6,pt t 0),(7,iv ac),(23,ag [.func (.func 28) #[pt pb 0] #[],.func (.func 29) #[pt pb 0] #[],.func (.func 30) #[pt pb 0] #[]]),(24,iv 0)],(bx t (.slice (va b.q) j.length b.k::aF i [iv p]) 97::bx u (F0 r) 71::bx pb (aK aM plr pl pat) 66::((vo A1 60 plr pl)++((vo A1 60 b j)++([])))),[P6,P7,O0,M9,K6,P4])) ?_ ?_)))))
 ·refine B2 (bN rfl (ix rfl (E9 (v:=ag [.func (.func 28) #[pt pb 0] #[]]) (us:=[.func (.func 28) #[pt pb 0] #[]]) Tryz.underlying101 E7d rfl rfl rfl 0 rfl ozw rfl rfl rfl) ?_))
  refine B2b 2 0 [0] (fun b3=>[(9,pt b3 0)]) (fun b3=>(bx b3 [.func (.func 28) #[pt pb 0] #[]] 100::bx t aH 97::bx u (F0 r) 71::bx pb (aK aM plr pl pat) 66::((vo A1 60 plr pl)++([])))) (fun b3=>?_)
  refine ie (bN rfl (bY 4 7 [0,2] [(29,.func (.func 28) #[pt pb 0] #[]),(30,ag (F0 r)),(31,bv last)] ?_))
  have hQ:=C9 hR;clear hR;obtain ⟨z,be,hR⟩:=hQ
  refine it rfl (J7 (L2:=[bx b3 [.func (.func 28) #[pt pb 0] #[]] 100,bx t aH 97,bx u (F0 r) 71]) (B5b (aM:=aM) (pl:=pl) (pat:=pat) (r:=r) (p2:=last) (pb:=pb) (plr:=plr) be a7 (by first|assumption|exact hel _ (List.mem_cons_self ..)|omega)) rfl rfl rfl rfl rfl A9.refl (H2 [[bx b3 [.func (.func 28) #[pt pb 0] #[]] 100],[bx t aH 97],[bx u (F0 r) 71],[bx pb (aK aM plr pl pat) 66],vo A1 60 plr pl] [3,4,0,1,2] 5 rfl ozw rfl [[bx pb (aK aM plr pl pat) 66],vo A1 60 plr pl,[bx b3 [.func (.func 28) #[pt pb 0] #[]] 100],[bx t aH 97],[bx u (F0 r) 71]] rfl opv) (fun ⟨r4,af⟩=>(bx b3 [.func (.func 28) #[pt pb 0] #[]] 100::bx t aH 97::bx u (F0 r) 71::bx pb (aK aM plr pl pat) 66::((vo A1 60 plr pl)++((vo A1 60 r4 z.1)++([]))))) (fun ⟨r4,af⟩=>H2 [[bx pb (aK aM plr pl pat) 66],vo A1 60 plr pl,vo A1 60 r4 z.1,[bx b3 [.func (.func 28) #[pt pb 0] #[]] 100],[bx t aH 97],[bx u (F0 r) 71]] [3,4,5,0,1,2] 6 rfl ozw opv [[bx b3 [.func (.func 28) #[pt pb 0] #[]] 100],[bx t aH 97],[bx u (F0 r) 71],[bx pb (aK aM plr pl pat) 66],vo A1 60 plr pl,vo A1 60 r4 z.1] rfl opv)) fun ⟨r4,af⟩=>?_
  have:=bR.le af
  have:=bR.cap af
  have:=A1s aM pl pat r last (by first|assumption|exact hel _ (List.mem_cons_self ..));try rw [be] at this
  obtain ⟨_,_⟩:=this
  refine B2b 6 0 [0] (fun b6=>[(10,pt b6 0),(11,bv z.2.2.2)]) (fun b6=>(bx b6 (.slice (va r4.q) z.1.length r4.k::aF z.2.1 [iv z.2.2.1]) 97::bx b3 [.func (.func 28) #[pt pb 0] #[]] 100::bx t aH 97::bx u (F0 r) 71::bx pb (aK aM plr pl pat) 66::((vo A1 60 plr pl)++((vo A1 60 r4 z.1)++([]))))) (fun b6=>?_)
  refine ie (bN rfl (cE 2 [0] 37 rfl ?_))
  have:=bR.cap af
  have:=bR.le af
  have hQ:=C9 hR;clear hR;obtain ⟨y4,b9,hR⟩:=hQ
  refine it rfl (J7 (L2:=(bx b6 (.slice (va r4.q) z.1.length r4.k::aF z.2.1 [iv z.2.2.1]) 97::bx b3 [.func (.func 28) #[pt pb 0] #[]] 100::bx t aH 97::bx u (F0 r) 71::bx pb (aK aM plr pl pat) 66::((vo A1 60 plr pl)++([])))) (cI.lend (T:=60) af (B2c (l:=z.1) (lq:=(va r4.q)) (lk:=r4.k) b9 bP bP (by first|exact mwA'_kind hel|exact mwA'_kind1 hbm|exact mwA'_kind1 (mwA'_getD hwq.1 _)|exact fun x s=>by rw [(hpen x s).2];exact Nat.zero_le _|exact fun x s=>hnt x s|assumption|decide|exact fun x s=>Nat.le_trans (hrow x s) ozw|exact fun x s=>Nat.le_trans (of_decide_eq_true (List.all_eq_true.1 hbt x s)) ozw|(intro x s;simp only [List.nil_append,List.mem_append] at s;rcases s with s|s<;>first|exact Nat.le_trans (hrow x s) ozw|exact Nat.le_trans (hpt x s) ozw)|(intro x s;rw [List.mem_singleton.1 s];omega)|exact fun x s=>Nat.le_trans (hrow x (List.mem_of_mem_take s)) ozw|exact fun x s=>Nat.le_trans (hrow x (List.mem_of_mem_drop s)) ozw|exact fun x s=>Nat.le_trans (hrow x (List.mem_of_mem_drop (List.mem_of_mem_take s))) ozw|omega))) rfl rfl rfl rfl rfl A9.refl (H2 [[bx b6 (.slice (va r4.q) z.1.length r4.k::aF z.2.1 [iv z.2.2.1]) 97],[bx b3 [.func (.func 28) #[pt pb 0] #[]] 100],[bx t aH 97],[bx u (F0 r) 71],[bx pb (aK aM plr pl pat) 66],vo A1 60 plr pl,vo A1 60 r4 z.1] [6,0,1,2,3,4,5] 7 rfl ozw rfl [vo A1 60 r4 z.1,[bx b6 (.slice (va r4.q) z.1.length r4.k::aF z.2.1 [iv z.2.2.1]) 97],[bx b3 [.func (.func 28) #[pt pb 0] #[]] 100],[bx t aH 97],[bx u (F0 r) 71],[bx pb (aK aM plr pl pat) 66],vo A1 60 plr pl] rfl opv) (fun ⟨r7,au⟩=>(bx b6 (.slice (va r4.q) z.1.length r4.k::aF z.2.1 [iv z.2.2.1]) 97::bx b3 [.func (.func 28) #[pt pb 0] #[]] 100::bx t aH 97::bx u (F0 r) 71::bx pb (aK aM plr pl pat) 66::((vo A1 60 plr pl)++((vo A1 60 r4 z.1)++((vo cG 5 r7 y4.1)++([])))))) (fun ⟨r7,au⟩=>H2 [vo A1 60 r4 z.1,vo cG 5 r7 y4.1,[bx b6 (.slice (va r4.q) z.1.length r4.k::aF z.2.1 [iv z.2.2.1]) 97],[bx b3 [.func (.func 28) #[pt pb 0] #[]] 100],[bx t aH 97],[bx u (F0 r) 71],[bx pb (aK aM plr pl pat) 66],vo A1 60 plr pl] [2,3,4,5,6,7,0,1] 8 rfl ozw opv [[bx b6 (.slice (va r4.q) z.1.length r4.k::aF z.2.1 [iv z.2.2.1]) 97],[bx b3 [.func (.func 28) #[pt pb 0] #[]] 100],[bx t aH 97],[bx u (F0 r) 71],[bx pb (aK aM plr pl pat) 66],vo A1 60 plr pl,vo A1 60 r4 z.1,vo cG 5 r7 y4.1] rfl opv)) fun ⟨r7,au⟩=>?_
  have:=bR.le au
  have:=bR.cap au
  try have:=A8a z.1 (fun x s=>Nat.le_trans (hrow x (by first|exact s|exact List.mem_of_mem_take s|exact List.mem_of_mem_drop s)) ozw);try rw [b9] at this
  refine cJ 5 12 13 rfl (ie (A5 (bN rfl (bO 3 43 rfl ?_))))
  refine zio 3 10 43 46 (!decide (y4.2=0)) (fun g9=>?_) ?_
  ·refine bO 3 46 rfl ?_
   exact A3 (O6 2 43 46 g9 A9.refl bQ rfl rfl rfl rfl rfl)
  refine bO 1 47 rfl ?_
  refine zio 9 0 47 56 false (fun b4=>?_) ?_
  ·have bw:=bU b4
   refine bO 9 56 rfl ?_
   exact A3 (O6 2 47 56 b4 A9.refl bQ rfl rfl rfl rfl rfl)
  refine ie ?_
  refine zjb rfl hR ?_ ?_<;>clear hR<;>intro hR bj
  ·have bd:=bU bj
   refine G6 (Q3 (H2 [vo A1 60 VR.nil ([]:List Act),[bx b6 (.slice (va r4.q) z.1.length r4.k::aF z.2.1 [iv z.2.2.1]) 97],[bx b3 [.func (.func 28) #[pt pb 0] #[]] 100],[bx t aH 97],[bx u (F0 r) 71],[bx pb (aK aM plr pl pat) 66],vo A1 60 plr pl,vo A1 60 r4 z.1,vo cG 5 r7 y4.1] [3,4,5,6,0,1,2,7,8] 9 rfl ozw rfl [[bx t aH 97],[bx u (F0 r) 71],[bx pb (aK aM plr pl pat) 66],vo A1 60 plr pl,vo A1 60 VR.nil ([]:List Act),[bx b6 (.slice (va r4.q) z.1.length r4.k::aF z.2.1 [iv z.2.2.1]) 97],[bx b3 [.func (.func 28) #[pt pb 0] #[]] 100],vo A1 60 r4 z.1,vo cG 5 r7 y4.1] rfl opv) ?_)
   exact X5 (-1,([]:List Act),VR.nil,(⟨0,0,(⟨0,0⟩:Col),(⟨0,0⟩:Col),(⟨0,0⟩:Col)⟩:Sty),0) ⟨hR,bR.nil,(by first|assumption|exact Nat.zero_le _)⟩ bQ A9.refl
  have bd:=bU bj
  refine A4 (nx (A0 5 rfl (zrg 5 0 [0,2] [(7,iv (y4.1.length:Int))] (bx b6 (.slice (va r4.q) z.1.length r4.k::aF z.2.1 [iv z.2.2.1]) 97::bx b3 [.func (.func 28) #[pt pb 0] #[]] 100::bx t (.slice (va r4.q) z.1.length r4.k::aF z.2.1 [iv z.2.2.1]) 97::bx u (F0 r) 71::bx pb (aK aM plr pl pat) 66::((vo A1 60 plr pl)++((vo A1 60 r4 z.1)++((vo cG 5 r7 y4.1)++([]))))) (A3 ?_))))
  exact X5 ((y4.1.length:Int),z.1,r4,z.2.1,z.2.2.1) ⟨hR,af,(by first|assumption|exact Nat.zero_le _)⟩ bQ A9.refl
 rintro ⟨ac,j,b,i,p⟩
 rintro ⟨hR,aj,c4⟩
 replace hR:=(J0.eq_1 ..).symm.trans hR
 refine A0 2 rfl (ix rfl (B4 (c:=1) rfl rfl rfl rfl ozw) (bO 1 24 rfl (A3 (D9 (bN rfl (bO 1 25 rfl ?_))))))
 refine ie (A5 (J9 rfl (A4 (nx (A9c (un fun (a6:Int)=>un fun (g:List Act)=>un fun (a:VR)=>un fun (h:Sty) (o:Int)=>(K9 aM pl pat r last a6 g h o=R∧bR 6 g.length a∧g.length≤322,[(0,pt pb 0),(2,bv last),(4,pt u 0),(6,pt t 0),(7,iv a6),(23,ag [.func (.func 28) #[pt pb 0] #[],.func (.func 29) #[pt pb 0] #[],.func (.func 30) #[pt pb 0] #[]]),(24,iv 1)],(bx t (.slice (va a.q) g.length a.k::aF h [iv o]) 97::bx u (F0 r) 71::bx pb (aK aM plr pl pat) 66::((vo A1 60 plr pl)++((vo A1 60 a g)++([])))),[P6,P7,O0,M9,K6,P4])) ?_ ?_)))))
 ·refine B2 (bN rfl (ix rfl (E9 (v:=ag [.func (.func 29) #[pt pb 0] #[]]) (us:=[.func (.func 29) #[pt pb 0] #[]]) Tryz.underlying101 E7d rfl rfl rfl 1 rfl ozw rfl rfl rfl) ?_))
  refine B2b 2 0 [0] (fun a3=>[(9,pt a3 0)]) (fun a3=>(bx a3 [.func (.func 29) #[pt pb 0] #[]] 100::bx t (.slice (va b.q) j.length b.k::aF i [iv p]) 97::bx u (F0 r) 71::bx pb (aK aM plr pl pat) 66::((vo A1 60 plr pl)++((vo A1 60 b j)++([]))))) (fun a3=>?_)
  refine ie (bN rfl (bY 4 7 [0,2] [(29,.func (.func 29) #[pt pb 0] #[]),(30,ag (F0 r)),(31,bv last)] ?_))
  have hQ:=C9 hR;clear hR;obtain ⟨y2,b5,hR⟩:=hQ
  refine it rfl (J7 (L2:=(bx a3 [.func (.func 29) #[pt pb 0] #[]] 100::bx t (.slice (va b.q) j.length b.k::aF i [iv p]) 97::bx u (F0 r) 71::((vo A1 60 b j)++([])))) (B3r (aM:=aM) (pl:=pl) (pat:=pat) (r:=r) (p2:=last) (pb:=pb) (plr:=plr) b5 a7 (by first|assumption|exact hel _ (List.mem_cons_self ..)|omega)) rfl rfl rfl rfl rfl A9.refl (H2 [[bx a3 [.func (.func 29) #[pt pb 0] #[]] 100],[bx t (.slice (va b.q) j.length b.k::aF i [iv p]) 97],[bx u (F0 r) 71],[bx pb (aK aM plr pl pat) 66],vo A1 60 plr pl,vo A1 60 b j] [3,4,0,1,2,5] 6 rfl ozw rfl [[bx pb (aK aM plr pl pat) 66],vo A1 60 plr pl,[bx a3 [.func (.func 29) #[pt pb 0] #[]] 100],[bx t (.slice (va b.q) j.length b.k::aF i [iv p]) 97],[bx u (F0 r) 71],vo A1 60 b j] rfl opv) (fun ⟨w,a9⟩=>(bx a3 [.func (.func 29) #[pt pb 0] #[]] 100::bx t (.slice (va b.q) j.length b.k::aF i [iv p]) 97::bx u (F0 r) 71::bx pb (aK aM plr pl pat) 66::((vo A1 60 plr pl)++((vo A1 60 b j)++((vo A1 60 w y2.1)++([])))))) (fun ⟨w,a9⟩=>H2 [[bx pb (aK aM plr pl pat) 66],vo A1 60 plr pl,vo A1 60 w y2.1,[bx a3 [.func (.func 29) #[pt pb 0] #[]] 100],[bx t (.slice (va b.q) j.length b.k::aF i [iv p]) 97],[bx u (F0 r) 71],vo A1 60 b j] [3,4,5,0,1,6,2] 7 rfl ozw opv [[bx a3 [.func (.func 29) #[pt pb 0] #[]] 100],[bx t (.slice (va b.q) j.length b.k::aF i [iv p]) 97],[bx u (F0 r) 71],[bx pb (aK aM plr pl pat) 66],vo A1 60 plr pl,vo A1 60 b j,vo A1 60 w y2.1] rfl opv)) fun ⟨w,a9⟩=>?_
  have:=bR.le a9
  have:=bR.cap a9
  have:=A1m aM pl pat r last;try rw [b5] at this
  obtain ⟨_,_⟩:=this
  refine B2b 6 0 [0] (fun ab=>[(10,pt ab 0),(11,bv y2.2.2.2)]) (fun ab=>(bx ab (.slice (va w.q) y2.1.length w.k::aF y2.2.1 [iv y2.2.2.1]) 97::bx a3 [.func (.func 29) #[pt pb 0] #[]] 100::bx t (.slice (va b.q) j.length b.k::aF i [iv p]) 97::bx u (F0 r) 71::bx pb (aK aM plr pl pat) 66::((vo A1 60 plr pl)++((vo A1 60 b j)++((vo A1 60 w y2.1)++([])))))) (fun ab=>?_)
  refine ie (bN rfl (cE 2 [0] 37 rfl ?_))
  have:=bR.cap a9
  have:=bR.le a9
  have hQ:=C9 hR;clear hR;obtain ⟨y7,b7,hR⟩:=hQ
  refine it rfl (J7 (L2:=(bx ab (.slice (va w.q) y2.1.length w.k::aF y2.2.1 [iv y2.2.2.1]) 97::bx a3 [.func (.func 29) #[pt pb 0] #[]] 100::bx t (.slice (va b.q) j.length b.k::aF i [iv p]) 97::bx u (F0 r) 71::bx pb (aK aM plr pl pat) 66::((vo A1 60 plr pl)++((vo A1 60 b j)++([]))))) (cI.lend (T:=60) a9 (B2c (l:=y2.1) (lq:=(va w.q)) (lk:=w.k) b7 bP bP (by first|exact mwA'_kind hel|exact mwA'_kind1 hbm|exact mwA'_kind1 (mwA'_getD hwq.1 _)|exact fun x s=>by rw [(hpen x s).2];exact Nat.zero_le _|exact fun x s=>hnt x s|assumption|decide|exact fun x s=>Nat.le_trans (hrow x s) ozw|exact fun x s=>Nat.le_trans (of_decide_eq_true (List.all_eq_true.1 hbt x s)) ozw|(intro x s;simp only [List.nil_append,List.mem_append] at s;rcases s with s|s<;>first|exact Nat.le_trans (hrow x s) ozw|exact Nat.le_trans (hpt x s) ozw)|(intro x s;rw [List.mem_singleton.1 s];omega)|exact fun x s=>Nat.le_trans (hrow x (List.mem_of_mem_take s)) ozw|exact fun x s=>Nat.le_trans (hrow x (List.mem_of_mem_drop s)) ozw|exact fun x s=>Nat.le_trans (hrow x (List.mem_of_mem_drop (List.mem_of_mem_take s))) ozw|omega))) rfl rfl rfl rfl rfl A9.refl (H2 [[bx ab (.slice (va w.q) y2.1.length w.k::aF y2.2.1 [iv y2.2.2.1]) 97],[bx a3 [.func (.func 29) #[pt pb 0] #[]] 100],[bx t (.slice (va b.q) j.length b.k::aF i [iv p]) 97],[bx u (F0 r) 71],[bx pb (aK aM plr pl pat) 66],vo A1 60 plr pl,vo A1 60 b j,vo A1 60 w y2.1] [7,0,1,2,3,4,5,6] 8 rfl ozw rfl [vo A1 60 w y2.1,[bx ab (.slice (va w.q) y2.1.length w.k::aF y2.2.1 [iv y2.2.2.1]) 97],[bx a3 [.func (.func 29) #[pt pb 0] #[]] 100],[bx t (.slice (va b.q) j.length b.k::aF i [iv p]) 97],[bx u (F0 r) 71],[bx pb (aK aM plr pl pat) 66],vo A1 60 plr pl,vo A1 60 b j] rfl opv) (fun ⟨an,am⟩=>(bx ab (.slice (va w.q) y2.1.length w.k::aF y2.2.1 [iv y2.2.2.1]) 97::bx a3 [.func (.func 29) #[pt pb 0] #[]] 100::bx t (.slice (va b.q) j.length b.k::aF i [iv p]) 97::bx u (F0 r) 71::bx pb (aK aM plr pl pat) 66::((vo A1 60 plr pl)++((vo A1 60 b j)++((vo A1 60 w y2.1)++((vo cG 5 an y7.1)++([]))))))) (fun ⟨an,am⟩=>H2 [vo A1 60 w y2.1,vo cG 5 an y7.1,[bx ab (.slice (va w.q) y2.1.length w.k::aF y2.2.1 [iv y2.2.2.1]) 97],[bx a3 [.func (.func 29) #[pt pb 0] #[]] 100],[bx t (.slice (va b.q) j.length b.k::aF i [iv p]) 97],[bx u (F0 r) 71],[bx pb (aK aM plr pl pat) 66],vo A1 60 plr pl,vo A1 60 b j] [2,3,4,5,6,7,8,0,1] 9 rfl ozw opv [[bx ab (.slice (va w.q) y2.1.length w.k::aF y2.2.1 [iv y2.2.2.1]) 97],[bx a3 [.func (.func 29) #[pt pb 0] #[]] 100],[bx t (.slice (va b.q) j.length b.k::aF i [iv p]) 97],[bx u (F0 r) 71],[bx pb (aK aM plr pl pat) 66],vo A1 60 plr pl,vo A1 60 b j,vo A1 60 w y2.1,vo cG 5 an y7.1] rfl opv)) fun ⟨an,am⟩=>?_
  have:=bR.le am
  have:=bR.cap am
  try have:=A8a y2.1 (fun x s=>Nat.le_trans (hrow x (by first|exact s|exact List.mem_of_mem_take s|exact List.mem_of_mem_drop s)) ozw);try rw [b7] at this
  refine cJ 5 12 13 rfl (ie (A5 (bN rfl (bO 3 43 rfl ?_))))
  refine zio 3 10 43 46 (!decide (y7.2=0)) (fun bn=>?_) ?_
  ·refine bO 3 46 rfl ?_
   exact A3 (O6 2 43 46 bn A9.refl bQ rfl rfl rfl rfl rfl)
  refine bO 1 47 rfl ?_
  refine zio 9 0 47 56 ((decide ((0:Int)≤ac))&&(decide (ac≤(y7.1.length:Int)))) (fun bb=>?_) ?_
  ·have bu:=bU bb
   refine bO 3 50 rfl ?_
   refine zid 5 1 50 55 (decide (ac≤(y7.1.length:Int))) (fun bk bp=>?_) ?_
   ·refine bO 5 55 rfl ?_
    exact A3 (O6 2 50 55 bk A9.refl bQ rfl rfl rfl rfl rfl)
   refine bO 1 56 rfl ?_
   exact A3 (O6 4 47 56 bb A9.refl bQ rfl rfl rfl rfl rfl)
  refine ie ?_
  refine zjb rfl hR ?_ ?_<;>clear hR<;>intro hR ba
  ·have b8:=bU ba
   refine G6 ?_
   exact X5 (ac,j,b,i,p) ⟨hR,aj,(by first|assumption|exact Nat.zero_le _)⟩ bQ A9.refl
  have b8:=bU ba
  refine A4 (nx (A0 5 rfl (zrg 5 0 [0,2] [(7,iv (y7.1.length:Int))] (bx ab (.slice (va w.q) y2.1.length w.k::aF y2.2.1 [iv y2.2.2.1]) 97::bx a3 [.func (.func 29) #[pt pb 0] #[]] 100::bx t (.slice (va w.q) y2.1.length w.k::aF y2.2.1 [iv y2.2.2.1]) 97::bx u (F0 r) 71::bx pb (aK aM plr pl pat) 66::((vo A1 60 plr pl)++((vo A1 60 b j)++((vo A1 60 w y2.1)++((vo cG 5 an y7.1)++([])))))) (A3 ?_))))
  exact X5 ((y7.1.length:Int),y2.1,w,y2.2.1,y2.2.2.1) ⟨hR,a9,(by first|assumption|exact Nat.zero_le _)⟩ bQ A9.refl
 rintro ⟨a6,g,a,h,o⟩
 rintro ⟨hR,ah,c2⟩
 replace hR:=(K9.eq_1 ..).symm.trans hR
 refine A0 2 rfl (ix rfl (B4 (c:=2) rfl rfl rfl rfl ozw) (bO 1 24 rfl (A3 (D9 (bN rfl (bO 1 25 rfl ?_))))))
 refine ie (A5 (J9 rfl (A4 (nx (A9c (un fun (ak:Int)=>un fun (m:List Act)=>un fun (d:VR)=>un fun (e:Sty) (n:Int)=>(M4 pl ak m e n=R∧bR 6 m.length d∧m.length≤322,[(0,pt pb 0),(2,bv last),(4,pt u 0),(6,pt t 0),(7,iv ak),(23,ag [.func (.func 28) #[pt pb 0] #[],.func (.func 29) #[pt pb 0] #[],.func (.func 30) #[pt pb 0] #[]]),(24,iv 2)],(bx t (.slice (va d.q) m.length d.k::aF e [iv n]) 97::bx u (F0 r) 71::bx pb (aK aM plr pl pat) 66::((vo A1 60 plr pl)++((vo A1 60 d m)++([])))),[P6,P7,O0,M9,K6,P4])) ?_ ?_)))))
 ·refine B2 (bN rfl (ix rfl (E9 (v:=ag [.func (.func 30) #[pt pb 0] #[]]) (us:=[.func (.func 30) #[pt pb 0] #[]]) Tryz.underlying101 E7d rfl rfl rfl 2 rfl ozw rfl rfl rfl) ?_))
  refine B2b 2 0 [0] (fun a4=>[(9,pt a4 0)]) (fun a4=>(bx a4 [.func (.func 30) #[pt pb 0] #[]] 100::bx t (.slice (va a.q) g.length a.k::aF h [iv o]) 97::bx u (F0 r) 71::bx pb (aK aM plr pl pat) 66::((vo A1 60 plr pl)++((vo A1 60 a g)++([]))))) (fun a4=>?_)
  refine ie (bN rfl (bY 4 7 [0,2] [(29,.func (.func 30) #[pt pb 0] #[]),(30,ag (F0 r)),(31,bv last)] ?_))
  have hQ:=C9 hR;clear hR;obtain ⟨y1,bi,hR⟩:=hQ
  refine it rfl (J7 (L2:=(bx a4 [.func (.func 30) #[pt pb 0] #[]] 100::bx t (.slice (va a.q) g.length a.k::aF h [iv o]) 97::bx u (F0 r) 71::((vo A1 60 a g)++([])))) (B5k (aM:=aM) (pl:=pl) (pat:=pat) (r:=r) (last:=last) (pb:=pb) (plr:=plr) bi a7 (by first|assumption|exact hel _ (List.mem_cons_self ..)|omega)) rfl rfl rfl rfl rfl A9.refl (H2 [[bx a4 [.func (.func 30) #[pt pb 0] #[]] 100],[bx t (.slice (va a.q) g.length a.k::aF h [iv o]) 97],[bx u (F0 r) 71],[bx pb (aK aM plr pl pat) 66],vo A1 60 plr pl,vo A1 60 a g] [3,4,0,1,2,5] 6 rfl ozw rfl [[bx pb (aK aM plr pl pat) 66],vo A1 60 plr pl,[bx a4 [.func (.func 30) #[pt pb 0] #[]] 100],[bx t (.slice (va a.q) g.length a.k::aF h [iv o]) 97],[bx u (F0 r) 71],vo A1 60 a g] rfl opv) (fun ⟨y,a8⟩=>(bx a4 [.func (.func 30) #[pt pb 0] #[]] 100::bx t (.slice (va a.q) g.length a.k::aF h [iv o]) 97::bx u (F0 r) 71::bx pb (aK aM plr pl pat) 66::((vo A1 60 plr pl)++((vo A1 60 a g)++((vo A1 60 y y1.1)++([])))))) (fun ⟨y,a8⟩=>H2 [[bx pb (aK aM plr pl pat) 66],vo A1 60 plr pl,vo A1 60 y y1.1,[bx a4 [.func (.func 30) #[pt pb 0] #[]] 100],[bx t (.slice (va a.q) g.length a.k::aF h [iv o]) 97],[bx u (F0 r) 71],vo A1 60 a g] [3,4,5,0,1,6,2] 7 rfl ozw opv [[bx a4 [.func (.func 30) #[pt pb 0] #[]] 100],[bx t (.slice (va a.q) g.length a.k::aF h [iv o]) 97],[bx u (F0 r) 71],[bx pb (aK aM plr pl pat) 66],vo A1 60 plr pl,vo A1 60 a g,vo A1 60 y y1.1] rfl opv)) fun ⟨y,a8⟩=>?_
  have:=bR.le a8
  have:=bR.cap a8
  have:=A1r aM pl pat r last;try rw [bi] at this
  obtain ⟨_,_⟩:=this
  refine B2b 6 0 [0] (fun ad=>[(10,pt ad 0),(11,bv y1.2.2.2)]) (fun ad=>(bx ad (.slice (va y.q) y1.1.length y.k::aF y1.2.1 [iv y1.2.2.1]) 97::bx a4 [.func (.func 30) #[pt pb 0] #[]] 100::bx t (.slice (va a.q) g.length a.k::aF h [iv o]) 97::bx u (F0 r) 71::bx pb (aK aM plr pl pat) 66::((vo A1 60 plr pl)++((vo A1 60 a g)++((vo A1 60 y y1.1)++([])))))) (fun ad=>?_)
  refine ie (bN rfl (cE 2 [0] 37 rfl ?_))
  have:=bR.cap a8
  have:=bR.le a8
  have hQ:=C9 hR;clear hR;obtain ⟨y8,bg,hR⟩:=hQ
  refine it rfl (J7 (L2:=(bx ad (.slice (va y.q) y1.1.length y.k::aF y1.2.1 [iv y1.2.2.1]) 97::bx a4 [.func (.func 30) #[pt pb 0] #[]] 100::bx t (.slice (va a.q) g.length a.k::aF h [iv o]) 97::bx u (F0 r) 71::bx pb (aK aM plr pl pat) 66::((vo A1 60 plr pl)++((vo A1 60 a g)++([]))))) (cI.lend (T:=60) a8 (B2c (l:=y1.1) (lq:=(va y.q)) (lk:=y.k) bg bP bP (by first|exact mwA'_kind hel|exact mwA'_kind1 hbm|exact mwA'_kind1 (mwA'_getD hwq.1 _)|exact fun x s=>by rw [(hpen x s).2];exact Nat.zero_le _|exact fun x s=>hnt x s|assumption|decide|exact fun x s=>Nat.le_trans (hrow x s) ozw|exact fun x s=>Nat.le_trans (of_decide_eq_true (List.all_eq_true.1 hbt x s)) ozw|(intro x s;simp only [List.nil_append,List.mem_append] at s;rcases s with s|s<;>first|exact Nat.le_trans (hrow x s) ozw|exact Nat.le_trans (hpt x s) ozw)|(intro x s;rw [List.mem_singleton.1 s];omega)|exact fun x s=>Nat.le_trans (hrow x (List.mem_of_mem_take s)) ozw|exact fun x s=>Nat.le_trans (hrow x (List.mem_of_mem_drop s)) ozw|exact fun x s=>Nat.le_trans (hrow x (List.mem_of_mem_drop (List.mem_of_mem_take s))) ozw|omega))) rfl rfl rfl rfl rfl A9.refl (H2 [[bx ad (.slice (va y.q) y1.1.length y.k::aF y1.2.1 [iv y1.2.2.1]) 97],[bx a4 [.func (.func 30) #[pt pb 0] #[]] 100],[bx t (.slice (va a.q) g.length a.k::aF h [iv o]) 97],[bx u (F0 r) 71],[bx pb (aK aM plr pl pat) 66],vo A1 60 plr pl,vo A1 60 a g,vo A1 60 y y1.1] [7,0,1,2,3,4,5,6] 8 rfl ozw rfl [vo A1 60 y y1.1,[bx ad (.slice (va y.q) y1.1.length y.k::aF y1.2.1 [iv y1.2.2.1]) 97],[bx a4 [.func (.func 30) #[pt pb 0] #[]] 100],[bx t (.slice (va a.q) g.length a.k::aF h [iv o]) 97],[bx u (F0 r) 71],[bx pb (aK aM plr pl pat) 66],vo A1 60 plr pl,vo A1 60 a g] rfl opv) (fun ⟨aq,al⟩=>(bx ad (.slice (va y.q) y1.1.length y.k::aF y1.2.1 [iv y1.2.2.1]) 97::bx a4 [.func (.func 30) #[pt pb 0] #[]] 100::bx t (.slice (va a.q) g.length a.k::aF h [iv o]) 97::bx u (F0 r) 71::bx pb (aK aM plr pl pat) 66::((vo A1 60 plr pl)++((vo A1 60 a g)++((vo A1 60 y y1.1)++((vo cG 5 aq y8.1)++([]))))))) (fun ⟨aq,al⟩=>H2 [vo A1 60 y y1.1,vo cG 5 aq y8.1,[bx ad (.slice (va y.q) y1.1.length y.k::aF y1.2.1 [iv y1.2.2.1]) 97],[bx a4 [.func (.func 30) #[pt pb 0] #[]] 100],[bx t (.slice (va a.q) g.length a.k::aF h [iv o]) 97],[bx u (F0 r) 71],[bx pb (aK aM plr pl pat) 66],vo A1 60 plr pl,vo A1 60 a g] [2,3,4,5,6,7,8,0,1] 9 rfl ozw opv [[bx ad (.slice (va y.q) y1.1.length y.k::aF y1.2.1 [iv y1.2.2.1]) 97],[bx a4 [.func (.func 30) #[pt pb 0] #[]] 100],[bx t (.slice (va a.q) g.length a.k::aF h [iv o]) 97],[bx u (F0 r) 71],[bx pb (aK aM plr pl pat) 66],vo A1 60 plr pl,vo A1 60 a g,vo A1 60 y y1.1,vo cG 5 aq y8.1] rfl opv)) fun ⟨aq,al⟩=>?_
  have:=bR.le al
  have:=bR.cap al
  try have:=A8a y1.1 (fun x s=>Nat.le_trans (hrow x (by first|exact s|exact List.mem_of_mem_take s|exact List.mem_of_mem_drop s)) ozw);try rw [bg] at this
  refine cJ 5 12 13 rfl (ie (A5 (bN rfl (bO 3 43 rfl ?_))))
  refine zio 3 10 43 46 (!decide (y8.2=0)) (fun bm=>?_) ?_
  ·refine bO 3 46 rfl ?_
   exact A3 (O6 2 43 46 bm A9.refl bQ rfl rfl rfl rfl rfl)
  refine bO 1 47 rfl ?_
  refine zio 9 0 47 56 ((decide ((0:Int)≤a6))&&(decide (a6≤(y8.1.length:Int)))) (fun az=>?_) ?_
  ·have br:=bU az
   refine bO 3 50 rfl ?_
   refine zid 5 1 50 55 (decide (a6≤(y8.1.length:Int))) (fun bl bo=>?_) ?_
   ·refine bO 5 55 rfl ?_
    exact A3 (O6 2 50 55 bl A9.refl bQ rfl rfl rfl rfl rfl)
   refine bO 1 56 rfl ?_
   exact A3 (O6 4 47 56 az A9.refl bQ rfl rfl rfl rfl rfl)
  refine ie ?_
  refine zjb rfl hR ?_ ?_<;>clear hR<;>intro hR bc
  ·have bh:=bU bc
   refine G6 ?_
   exact X5 (a6,g,a,h,o) ⟨hR,ah,(by first|assumption|exact Nat.zero_le _)⟩ bQ A9.refl
  have bh:=bU bc
  refine A4 (nx (A0 5 rfl (zrg 5 0 [0,2] [(7,iv (y8.1.length:Int))] (bx ad (.slice (va y.q) y1.1.length y.k::aF y1.2.1 [iv y1.2.2.1]) 97::bx a4 [.func (.func 30) #[pt pb 0] #[]] 100::bx t (.slice (va y.q) y1.1.length y.k::aF y1.2.1 [iv y1.2.2.1]) 97::bx u (F0 r) 71::bx pb (aK aM plr pl pat) 66::((vo A1 60 plr pl)++((vo A1 60 a g)++((vo A1 60 y y1.1)++((vo cG 5 aq y8.1)++([])))))) (A3 ?_))))
  exact X5 ((y8.1.length:Int),y1.1,y,y1.2.1,y1.2.2.1) ⟨hR,a8,(by first|assumption|exact Nat.zero_le _)⟩ bQ A9.refl
 rintro ⟨ak,m,d,e,n⟩
 rintro ⟨hR,a5,bz⟩
 replace hR:=(M4.eq_1 ..).symm.trans hR
 refine A0 2 rfl (ix rfl (B4 (c:=3) rfl rfl rfl rfl ozw) (bO 1 24 rfl (A3 (D9 (bN rfl (bO 1 25 rfl (ie (A5 (Z1 rfl (G6 (nx ?_)))))))))))
 have:=bR.cap a5
 have:=bR.le a5
 refine D5n (bx t (.slice (va d.q) m.length d.k::aF e [iv n]) 97::bx u (F0 r) 71::bx pb (aK aM plr pl pat) 66::((vo A1 60 plr pl)++([]))) [] (T:=60) (c:=A1) (r:=d) (xs:=m) a5 opv ?_
 refine F3m (L':=(bx t (.slice (va d.q) m.length d.k::aF e [iv n]) 97::bx u (F0 r) 71::bx pb (aK aM plr pl pat) 66::((vo A1 60 plr pl)++([])))) opv ?_
 refine sh' 24 [(24,[bx t (.slice (va d.q) m.length d.k::aF e [iv n]) 97]),(24,[bx u (F0 r) 71]),(16,[bx pb (aK aM plr pl pat) 66]),(9,vo A1 60 plr pl)] [sl A1 (va d.q) m,P6,P7,O0,M9,K6,P4] (bx t (.slice (va d.q) m.length d.k::aF e [iv n]) 97::bx u (F0 r) 71::bx pb (aK aM plr pl pat) 66::((vo A1 60 plr pl)++([]))) (bV 24 0) oki rfl oki oki oki bQ A9.refl ?_
 refine zhp [0,1,2,3,4,5,7,10,12] 15 (bV 24 5311) [(61,pt pb 0),(62,pt pb 0),(63,pt pb 0),(66,pt pb 8),(68,pt t 0),(71,pt t 1),(73,pt t 9)] ?_
 refine zhl 6 (bx t (.slice (va d.q) m.length d.k::aF e [iv n]) 97::bx u (F0 r) 71::bx pb (aK aM plr pl pat) 66::((vo A1 60 plr pl)++([]))) (bV 24 5375) rfl (A2 (v:=.slice (va plr.q) pl.length plr.k) D7t rfl rfl 2 rfl rfl) ?_
 refine zhl 8 (bx t (.slice (va d.q) m.length d.k::aF e [iv n]) 97::bx u (F0 r) 71::bx pb (aK aM plr pl pat) 66::((vo A1 60 plr pl)++([]))) (bV 24 5631) rfl (A2 (v:=.slice (va d.q) m.length d.k) D7t rfl rfl 0 rfl rfl) ?_
 refine zhl 11 [bx t (.slice (va d.q) m.length d.k::aF e [iv n]) 97,bx u (F0 r) 71] (bV 24 7679) rfl (D6 (us:=(aF e [])) A6y rfl rfl 0 rfl rfl rfl) ?_
 refine zhl 13 [bx t (.slice (va d.q) m.length d.k::aF e [iv n]) 97,bx u (F0 r) 71] (bV 24 15871) rfl (A2 (v:=iv n) cA rfl rfl 0 rfl rfl) ?_
 refine zho 9 [bx t (.slice (va d.q) m.length d.k::aF e [iv n]) 97,bx u (F0 r) 71,bx pb (aK aM plr pl pat) 66] (bV 24 16383) rfl (B8y (f:=A1) (r:=plr) (xs:=pl) (ys:=m) (pre:=[bx t (.slice (va d.q) m.length d.k::aF e [iv n]) 97,bx u (F0 r) 71,bx pb (aK aM plr pl pat) 66]) (post:=[]) B6b (fun _=>rfl) (fun _=>rfl) rfl rfl rfl rfl rfl rfl rfl rfl (B8 0 rfl) a7 ofv ofv) (fun ⟨aa,ai⟩=>bQ) (fun ⟨aa,ai⟩=>A9.refl) fun ⟨aa,ai⟩=>?_
 have:=@List.length_append _ pl m
 have:=bR.le ai
 have:=bR.cap ai
 refine zhp [14,15] 8 (bV 24 65535) [(76,pt pb 8)] ?_
 refine zho 16 [bx t (.slice (va d.q) m.length d.k::aF e [iv n]) 97,bx u (F0 r) 71] (bV 24 131071) rfl (D8 (us:=[.slice (va aa.q) ((pl++m).length) aa.k]) (cs':=(aF aM [.slice (va aa.q) ((pl++m).length) aa.k,iv pat])) D7t rfl rfl rfl 2 rfl rfl rfl rfl rfl rfl) (fun _=>bQ) (fun _=>A9.refl) fun _=>?_
 refine zhp [17,18,19] 4 (bV 24 1048575) [(79,pt pb 0)] ?_
 refine zho 20 [bx t (.slice (va d.q) m.length d.k::aF e [iv n]) 97,bx u (F0 r) 71] (bV 24 2097151) rfl (D8 (us:=(aF e [])) (cs':=(aF e [.slice (va aa.q) ((pl++m).length) aa.k,iv pat])) A6y rfl rfl rfl 2 rfl rfl rfl rfl rfl rfl) (fun _=>bQ) (fun _=>A9.refl) fun _=>?_
 refine zhp [21,22] 1 (bV 24 8388607) [(81,pt pb 9)] ?_
 refine zho 23 [bx t (.slice (va d.q) m.length d.k::aF e [iv n]) 97,bx u (F0 r) 71] (bV 24 16777215) rfl (D8 (us:=[iv n]) (cs':=(aF e [.slice (va aa.q) ((pl++m).length) aa.k,iv n])) cA rfl rfl rfl 2 rfl rfl rfl rfl rfl rfl) (fun _=>bQ) (fun _=>A9.refl) fun _=>?_
 refine A2a oki ?_
 subst hR
 exact zen hr hD (A0x rfl) ⟨aa,ai⟩ bQ bT
def I9 (to_:Int):List Prn→Sty→List Act→Int→(List Act×Sty×Int×Int)
 | [],bheldStyle,bl,bat=>(bl,bheldStyle,bat,0)
 | el::rest,bheldStyle,bl,bat=>(C2 (P5 bheldStyle bl bat el (decide (el.til=to_))) fun (a:List Act×Sty×Int)=>I9 to_ rest a.2.1 a.1 a.2.2)
def P1 (a:List Cel) (from_:Int) (to_:Int) (s:Sty) (e:Int):List Act×Sty×Int×Int :=
 (bif (!decide (e=0)) then (([]:List Act),Sty.zero,0,e) else (bif (((((decide (from_<0))||(decide (to_<from_)))||(decide ((a.length:Int)<to_)))||((decide (from_<(a.length:Int)))&&(decide ((a.getD ((from_).toNat) Cel.zero).wide=2))))||((decide (to_<(a.length:Int)))&&(decide ((a.getD ((to_).toNat) Cel.zero).wide=2)))) then (([]:List Act),Sty.zero,0,2) else I9 to_ (V5 ((I5 a from_ to_).1) ((I5 a from_ to_).2.1) ((I5 a from_ to_).2.2)) s ([]:List Act) to_))
def F7 (a:List Cel) (from_:Int) (to_:Int) (s:Sty):List Act×Sty×Int×Int :=
 (bif (decide ((G5 a false)=0)) then P1 a from_ to_ s (D5 s) else P1 a from_ to_ s (G5 a false))
theorem B6e (to_:Int):∀ (l:List Prn) (s:Sty) (b:List Act) (t:Int),(∀ x ∈ l,0≤x.many∧x.many≤100)→(∀ a ∈ b,a.text.length≤100000000)→b.length+400 * l.length≤40000→(∀ a ∈ (I9 to_ l s b t).1,a.text.length≤100000000)∧(I9 to_ l s b t).1.length≤40000
 | [],s,b,t,_,h,hl=>⟨h,by simp only [List.length_nil] at hl;show b.length≤40000;omega⟩
 | x::l,s,b,t,hm,h,hl=>by
  rw [I9,C2]
  simp only [List.length_cons] at hl
  have c:=hm x (List.mem_cons_self ..)
  have e:=A8b s b t x (decide (x.til=to_)) c
  exact B6e to_ l _ _ _ (fun y d=>hm y (List.mem_cons_of_mem _ d)) (B6s s b t x _ c h) opx
theorem B5r (cells:List Cel) (from_ to_:Int) (s:Sty) (e:Int) (i:e=0→G5 cells false=0):(∀ a ∈ (P1 cells from_ to_ s e).1,a.text.length≤100000000)∧(P1 cells from_ to_ s e).1.length≤40000∧((P1 cells from_ to_ s e).2.2.2=0→2≤cells.length∧cells.length≤80∧0≤from_∧from_≤to_∧to_≤(cells.length:Int)):=by
 unfold P1
 by_cases h0:e=0
 ·rw [decide_eq_true h0,Bool.not_true,cond_false]
  have b:=Z0 (i h0)
  cases hc:(((((decide (from_<0))||(decide (to_<from_)))||(decide ((cells.length:Int)<to_)))||((decide (from_<(cells.length:Int)))&&(decide ((cells.getD ((from_).toNat) Cel.zero).wide=2))))||((decide (to_<(cells.length:Int)))&&(decide ((cells.getD ((to_).toNat) Cel.zero).wide=2)))) with
  | true=>exact ⟨fun a c=>(by cases c),Nat.zero_le _,fun h=>absurd (show (2:Int)=0 from h) ozw⟩
  | false =>
   simp only [Bool.or_eq_false_iff,decide_eq_false_iff_not] at hc
   have j:=hc.1.1
   have d:=B0z (c0:=from_) (c1:=to_) (c2:=cells) ⟨b.2.2,b.2.1,by omega,by omega⟩
   have f:=B6e to_ (V5 (I5 cells from_ to_).1 (I5 cells from_ to_).2.1 (I5 cells from_ to_).2.2) s [] to_ d.2 (fun a c=>by cases c) (by have:=d.1;have g:(V5 (I5 cells from_ to_).1 (I5 cells from_ to_).2.1 (I5 cells from_ to_).2.2)=V5 from_ to_ cells:=rfl;rw [g,List.length_nil];omega)
   exact ⟨f.1,f.2,fun _=>⟨b.1,b.2.1,by omega,by omega,by omega⟩⟩
 ·rw [decide_eq_false h0,Bool.not_false,cond_true]
  exact ⟨fun a c=>(by cases c),Nat.zero_le _,fun h=>absurd h h0⟩
theorem A9x (b:List Cel) (from_ to_:Int) (s:Sty):(∀ a ∈ (F7 b from_ to_ s).1,a.text.length≤100000000)∧(F7 b from_ to_ s).1.length≤40000∧((F7 b from_ to_ s).2.2.2=0→2≤b.length∧b.length≤80∧0≤from_∧from_≤to_∧to_≤(b.length:Int)):=by
 unfold F7
 by_cases h:G5 b false=0
 ·rw [decide_eq_true h];exact B5r b from_ to_ s _ (fun _=>h)
 ·rw [decide_eq_false h];exact B5r b from_ to_ s _ (fun e=>e)
theorem B2g {cells:List Cel} {from_ to_:Int} {s:Sty} {g:Option Addr} {cellsk:Nat} {R:List Act×Sty×Int×Int} (hR:F7 cells from_ to_ s=R) (ac:cells.length≤9223372036854775807:=by exact bP) (ak:cells.length≤cellsk:=by exact bP):cI Tryz.prog 5 [.slice g cells.length cellsk,iv from_,iv to_,ag (B3 s)] [] [sl C0 g cells,P6,P7,O0,M9,K6,P4] ({r:VR // bR 6 R.1.length r}) (fun x=>.tuple #[.slice (va x.1.q) R.1.length x.1.k,ag (B3 R.2.1),iv R.2.2.1,iv R.2.2.2]) (fun x=>((vo A1 60 x.1 R.1)++([]))) (fun x=>[]):=by
 refine bZ Tryz.func5 fun X hX hr hD=>?_
 replace hR:=(F7.eq_1 ..).symm.trans hR
 refine bN rfl (D4x 6 0 [] (fun m n o=>[(6,pt m 0),(7,pt n 0),(9,pt o 0)]) (fun m n o=>[bx o (B3 Sty.zero) 26,bx n (B3 s) 26,bx m [iv to_] 3]) (fun m n o=>(ie (bN rfl (bY 2 2 [] [(16,ag [.slice g cells.length cellsk,bv false])] (zca (A7p (bB:=cells) (bC:=false) (aZ:=g) (bA:=cellsk) rfl) c9 (bO 1 12 rfl ?_)))))))
 refine ie (A9c (fun (e:Int)=>(P1 cells from_ to_ s e=R∧(e=e∧(e=0→G5 cells false=0)),[(0,.slice g cells.length cellsk),(1,iv from_),(6,pt m 0),(7,pt n 0),(9,pt o 0),(12,iv e)],[bx o (B3 Sty.zero) 26,bx n (B3 s) 26,bx m [iv to_] 3],[sl C0 g cells,P6,P7,O0,M9,K6,P4])) ?_ ?_)
 ·refine bN rfl (bO 2 19 rfl (ie ?_))
  refine zjd rfl hR ?_ ?_<;>clear hR<;>intro hR h4 b7
  ·refine A0 3 rfl (bY 1 2 [1] [(20,ag (B3 s))] (zca (V1 (s:=s) rfl) bT (bO 1 12 rfl (A3 ?_))))
   exact X5 (D5 s) ⟨hR,(by rfl),(by first|(intro _;assumption)|exact fun h=>h)⟩ (mk [true,true,true] rfl) A9.refl
  refine A4 ?_
  exact X5 (G5 cells false) ⟨hR,(by rfl),(by first|(intro _;assumption)|exact fun h=>h)⟩ (mk [true,true,true] rfl) A9.refl
 intro e
 rintro ⟨hR,he⟩
 replace hR:=(P1.eq_1 ..).symm.trans hR
 refine A5 (bN rfl (bO 2 23 rfl ?_))
 refine ie ?_
 refine zjn rfl hR ?_ ?_<;>clear hR<;>intro hR h5 bc
 ·refine bN rfl (zrg 6 0 [0] [(8,.slice none 0 0),(10,iv 0),(11,iv e)] [bx o (B3 Sty.zero) 26,bx n (B3 s) 26,bx m [iv to_] 3] ?_)
  subst hR
  refine ie (A8 ?_)
  exact cD hr hD (E8d rfl (B0 rfl) (D4 (us:=B3 Sty.zero) A6y rfl 0 rfl rfl rfl) (B0 rfl) (B0 rfl)) ⟨VR.nil,bR.nil⟩ (mc [[bx o (B3 Sty.zero) 26],[bx n (B3 s) 26],[bx m [iv to_] 3],vo A1 60 VR.nil ([]:List Act)] [false,false,false,true] opv oxs) bT
 refine A4 (nx (A5 (bN rfl (bO 3 28 rfl ?_))))
 refine zir 4 34 28 32 (decide (to_<from_)) (fun g6 aw=>?_) ?_
 ·refine cE 4 [2] 32 rfl ?_
  exact zai 2 28 32 g6
 refine bO 1 33 rfl ?_
 refine zio 5 28 33 38 (decide ((cells.length:Int)<to_)) (fun g7=>?_) ?_
 ·have ba:=bU g7
  refine cE 5 [2] 38 rfl ?_
  exact zai 2 33 38 g7
 refine bO 1 39 rfl ?_
 refine zio 13 14 39 52 ((decide (from_<(cells.length:Int)))&&(decide ((cells.getD ((from_).toNat) Cel.zero).wide=2))) (fun g8=>?_) ?_
 ·have az:=bU g8
  refine bO 5 44 rfl ?_
  refine zid 7 1 44 51 (decide ((cells.getD ((from_).toNat) Cel.zero).wide=2)) (fun g9 ay=>?_) ?_
  ·refine cJ 2 45 46 rfl (L9 0 rfl opx fun b8 a7=>(ix rfl (H9 W9 rfl rfl a7 rfl ((from_).toNat) opx opx) (bO 1 48 rfl (ix rfl (F2 cA rfl rfl (B6q (K2 (c:=C0) (sz:=12) a7 (fun _=>rfl) 0 rfl (gd Cel.zero opx)) (ws:=[iv ((cells.getD ((from_).toNat) Cel.zero).wide)]) 3 1 rfl) rfl) (bO 2 51 rfl ?_)))))
   exact zai 7 44 51 g9
  refine bO 1 52 rfl ?_
  exact zai 4 39 52 g8
 refine bO 1 53 rfl ?_
 refine zio 13 0 53 66 ((decide (to_<(cells.length:Int)))&&(decide ((cells.getD ((to_).toNat) Cel.zero).wide=2))) (fun ah=>?_) ?_
 ·have ar:=bU ah
  refine cE 5 [2] 58 rfl ?_
  refine zid 7 1 58 65 (decide ((cells.getD ((to_).toNat) Cel.zero).wide=2)) (fun al an=>?_) ?_
  ·refine pl2 2 [2] 59 60 rfl (L9 0 rfl opx fun be a8=>(ix rfl (H9 W9 rfl rfl a8 rfl ((to_).toNat) opx opx) (bO 1 62 rfl (ix rfl (F2 cA rfl rfl (B6q (K2 (c:=C0) (sz:=12) a8 (fun _=>rfl) 0 rfl (gd Cel.zero opx)) (ws:=[iv ((cells.getD ((to_).toNat) Cel.zero).wide)]) 3 1 rfl) rfl) (bO 2 65 rfl ?_)))))
   exact zai 7 58 65 al
  refine bO 1 66 rfl ?_
  exact zai 4 53 66 ah
 refine ie ?_
 refine zjb rfl hR ?_ ?_<;>clear hR<;>intro hR af
 ·have ai:=bU af
  refine bN rfl (zrg 5 0 [0] [(8,.slice none 0 0),(10,iv 0),(11,iv 2)] [bx o (B3 Sty.zero) 26,bx n (B3 s) 26,bx m [iv to_] 3] ?_)
  subst hR
  refine ie (A8 ?_)
  exact cD hr hD (E8d rfl (B0 rfl) (D4 (us:=B3 Sty.zero) A6y rfl 0 rfl rfl rfl) (B0 rfl) (B0 rfl)) ⟨VR.nil,bR.nil⟩ (mc [[bx o (B3 Sty.zero) 26],[bx n (B3 s) 26],[bx m [iv to_] 3],vo A1 60 VR.nil ([]:List Act)] [false,false,false,true] opv oxs) bT
 have ai:=bU af
 refine A4 (nx (bN rfl (E9d 7 0 [1,2,0] (fun b f=>[(13,pt f 0)]) (fun b f=>[bx f [pt b 0] 62,bx b (aF s [.slice none 0 0,iv to_]) 66,bx o (B3 Sty.zero) 26,bx n (B3 s) 26,bx m [iv to_] 3]) (fun b f=>(ie (A5 (bN rfl (pl3 3 [4] 73 74 75 rfl (it rfl (G7 (L2:=[bx f [pt b 0] 62,bx b (aF s [.slice none 0 0,iv to_]) 66,bx o (B3 Sty.zero) 26,bx n (B3 s) 26,bx m [iv to_] 3]) (D5o (l:=cells) (from_:=from_) (to_:=to_) (lq:=g) (lk:=cellsk) rfl) rfl rfl rfl rfl rfl c9 (List.Perm.refl _) (fun ⟨a3,a5,a4,⟨⟨z,a6⟩,aa⟩⟩=>[bx a3 [iv ((I5 cells from_ to_).1)] 3,bx f [pt b 0] 62,bx b (aF s [.slice none 0 0,iv to_]) 66,bx o (B3 Sty.zero) 26,bx n (B3 s) 26,bx m [iv to_] 3]) (fun _=>rfl)) fun ⟨a3,a5,a4,⟨⟨z,a6⟩,aa⟩⟩=>?_)))))))))
 obtain ⟨aq,av⟩:=aa
 refine ie (B2 (Q3 (H2 [vo A1 60 VR.nil ([]:List Act),[bx a3 [iv ((I5 cells from_ to_).1)] 3],[bx f [pt b 0] 62],[bx b (aF s [.slice none 0 0,iv to_]) 66],[bx o (B3 Sty.zero) 26],[bx n (B3 s) 26],[bx m [iv to_] 3]] [2,3,4,5,6,0,1] 7 rfl ozw rfl [[bx f [pt b 0] 62],[bx b (aF s [.slice none 0 0,iv to_]) 66],[bx o (B3 Sty.zero) 26],[bx n (B3 s) 26],[bx m [iv to_] 3],vo A1 60 VR.nil ([]:List Act),[bx a3 [iv ((I5 cells from_ to_).1)] 3]] rfl opv) ?_))
 refine E7c [(6,pt m 0),(9,pt o 0),(13,pt f 0),(76,.func (.func 27) #[] #[pt a3 0,pa a5,pa a4])] ⟨rfl,rfl,rfl,rfl,trivial⟩ ?_
 refine E4r (β:=Prn) (enc:=(fun x=>ag (F0 x))) (xs:=(V5 ((I5 cells from_ to_).1) ((I5 cells from_ to_).2.1) ((I5 cells from_ to_).2.2))) (σ:=Sty×List Act×VR×Int) hr rfl (D0f ((I5 cells from_ to_).1) ((I5 cells from_ to_).2.1) ((I5 cells from_ to_).2.2) a3 a5 a4 z a6 okl okl (by have y:=Z0 (he.2 ojv);exact ⟨y.2.2,y.2.1,by show 0≤from_;omega,by show to_≤(cells.length:Int);omega⟩) _ rfl) c9 rfl rfl (fun a2 x=>I9 to_ a2 x.1 x.2.1 x.2.2.2=R∧bR 6 x.2.1.length x.2.2.1∧(∀ x ∈ a2,0≤x.many∧x.many≤100)∧x.2.1.length+400 * a2.length≤40000) (fun _ _=>False) (fun x=>(bx f [pt b 0] 62::bx b (aF x.1 [.slice (va x.2.2.1.q) x.2.1.length x.2.2.1.k,iv x.2.2.2]) 66::bx o (B3 Sty.zero) 26::bx n (B3 s) 26::bx m [iv to_] 3::((vo A1 60 x.2.2.1 x.2.1)++([])))) (fun x=>[at_ a5 [iv ((I5 cells from_ to_).2.1)],at_ a4 [.slice z (((I5 cells from_ to_).2.2).length) a6],sl C0 z ((I5 cells from_ to_).2.2),sl C0 g cells,P6,P7,O0,M9,K6,P4]) (s,([]:List Act),VR.nil,to_) (by exact ⟨hR,bR.nil,(by exact (B0z (by have y:=Z0 (he.2 ojv);exact ⟨y.2.2,y.2.1,by show 0≤from_;omega,by show to_≤(cells.length:Int);omega⟩)).2),(by have:=(B0z (c0:=from_) (c1:=to_) (c2:=cells) (by have y:=Z0 (he.2 ojv);exact ⟨y.2.2,y.2.1,by omega,by omega⟩)).1;have e:V5 (I5 cells from_ to_).1 (I5 cells from_ to_).2.1 (I5 cells from_ to_).2.2=V5 from_ to_ cells:=rfl;rw [e];simp only [List.length_nil];omega)⟩) (mc [[bx f [pt b 0] 62],[bx b (aF s [.slice none 0 0,iv to_]) 66],[bx o (B3 Sty.zero) 26],[bx n (B3 s) 26],[bx m [iv to_] 3],vo A1 60 VR.nil ([]:List Act),[bx a3 [iv ((I5 cells from_ to_).1)] 3]] [true,true,true,true,true,true,true] opv oxs) A9.refl ?_ ?_ (fun _ _ _ _ h=>h.elim)
 ·rintro el rest ⟨a,p,d,j⟩ hI Y Y' K' b5 hK
  try dsimp only at hI
  obtain ⟨hR,t,a9,ae⟩:=hI
  replace hR:=(I9.eq_2 ..).symm.trans hR
  have:=bR.le t
  refine A0 2 rfl (B2b 2 0 [0] (fun w=>[(14,pt w 0)]) (fun w=>(bx w (F0 el) 71::bx f [pt b 0] 62::bx b (aF a [.slice (va d.q) p.length d.k,iv j]) 66::bx o (B3 Sty.zero) 26::bx n (B3 s) 26::bx m [iv to_] 3::((vo A1 60 d p)++([])))) (fun w=>(A3 (hK _ _ _ ?_))))
  refine B2 (A0 7 rfl (bY 6 1 [1,0,0,5] [(78,pt b 0),(79,ag (F0 el)),(83,bv (decide (el.til=to_)))] ?_))
  have hQ:=C9 hR;clear hR;obtain ⟨u,ab,hR⟩:=hQ
  refine it rfl (J7 (L2:=[bx w (F0 el) 71,bx f [pt b 0] 62,bx o (B3 Sty.zero) 26,bx n (B3 s) 26,bx m [iv to_] 3]) (B8k (aM:=a) (pl:=p) (pat:=j) (r:=el) (last:=(decide (el.til=to_))) (pb:=b) (plr:=d) ab t (by first|assumption|exact a9 _ (List.mem_cons_self ..)|omega)) rfl rfl rfl rfl rfl c9 (H2 [[bx w (F0 el) 71],[bx f [pt b 0] 62],[bx b (aF a [.slice (va d.q) p.length d.k,iv j]) 66],[bx o (B3 Sty.zero) 26],[bx n (B3 s) 26],[bx m [iv to_] 3],vo A1 60 d p] [2,6,0,1,3,4,5] 7 rfl ozw rfl [[bx b (aF a [.slice (va d.q) p.length d.k,iv j]) 66],vo A1 60 d p,[bx w (F0 el) 71],[bx f [pt b 0] 62],[bx o (B3 Sty.zero) 26],[bx n (B3 s) 26],[bx m [iv to_] 3]] rfl opv) (fun ⟨i,a0⟩=>(bx b (aF u.2.1 [.slice (va i.q) u.1.length i.k,iv u.2.2]) 66::bx w (F0 el) 71::bx f [pt b 0] 62::bx o (B3 Sty.zero) 26::bx n (B3 s) 26::bx m [iv to_] 3::((vo A1 60 i u.1)++([])))) (fun ⟨i,a0⟩=>H2 [[bx b (aF u.2.1 [.slice (va i.q) u.1.length i.k,iv u.2.2]) 66],vo A1 60 i u.1,[bx w (F0 el) 71],[bx f [pt b 0] 62],[bx o (B3 Sty.zero) 26],[bx n (B3 s) 26],[bx m [iv to_] 3]] [0,2,3,4,5,6,1] 7 rfl ozw opv [[bx b (aF u.2.1 [.slice (va i.q) u.1.length i.k,iv u.2.2]) 66],[bx w (F0 el) 71],[bx f [pt b 0] 62],[bx o (B3 Sty.zero) 26],[bx n (B3 s) 26],[bx m [iv to_] 3],vo A1 60 i u.1] rfl opv)) fun ⟨i,a0⟩=>?_
  have:=bR.le a0
  have:=bR.cap a0
  have:=A8b a p j el (decide (el.til=to_)) (a9 _ (List.mem_cons_self ..));try rw [ab] at this
  refine A3 (Q3 (H2 [[bx b (aF u.2.1 [.slice (va i.q) u.1.length i.k,iv u.2.2]) 66],[bx w (F0 el) 71],[bx f [pt b 0] 62],[bx o (B3 Sty.zero) 26],[bx n (B3 s) 26],[bx m [iv to_] 3],vo A1 60 i u.1] [2,0,3,4,5,6,1] 7 rfl ozw rfl [[bx f [pt b 0] 62],[bx b (aF u.2.1 [.slice (va i.q) u.1.length i.k,iv u.2.2]) 66],[bx o (B3 Sty.zero) 26],[bx n (B3 s) 26],[bx m [iv to_] 3],vo A1 60 i u.1,[bx w (F0 el) 71]] rfl opv) ?_)
  exact C5p (I:=fun a2 x=>I9 to_ a2 x.1 x.2.1 x.2.2.2=R∧bR 6 x.2.1.length x.2.2.1∧(∀ x ∈ a2,0≤x.many∧x.many≤100)∧x.2.1.length+400 * a2.length≤40000) (Jx:=fun _ _=>False) (Lk:=fun x=>(bx f [pt b 0] 62::bx b (aF x.1 [.slice (va x.2.2.1.q) x.2.1.length x.2.2.1.k,iv x.2.2.2]) 66::bx o (B3 Sty.zero) 26::bx n (B3 s) 26::bx m [iv to_] 3::((vo A1 60 x.2.2.1 x.2.1)++([])))) (Φk:=fun x=>[at_ a5 [iv ((I5 cells from_ to_).2.1)],at_ a4 [.slice z (((I5 cells from_ to_).2.2).length) a6],sl C0 z ((I5 cells from_ to_).2.2),sl C0 g cells,P6,P7,O0,M9,K6,P4]) (rest:=rest) (u.2.1,u.1,i,u.2.2) (by exact ⟨hR,a0,(by exact fun x hx=>a9 x (List.mem_cons_of_mem _ hx)),(by dsimp only;simp only [List.length_cons] at ae;omega)⟩) (mc [[bx f [pt b 0] 62],[bx b (aF u.2.1 [.slice (va i.q) u.1.length i.k,iv u.2.2]) 66],[bx o (B3 Sty.zero) 26],[bx n (B3 s) 26],[bx m [iv to_] 3],vo A1 60 i u.1,[bx w (F0 el) 71]] [true,true,true,true,true,true,false] opv oxs) A9.refl
 ·rintro ax ⟨a,p,d,j⟩ aj hI
  try dsimp only at hI
  obtain ⟨hR,t,a9,ae⟩:=hI
  replace hR:=(I9.eq_1 ..).symm.trans hR
  have:=bR.le t
  refine nx ?_
  refine sh 17 [(17,[bx f [pt b 0] 62]),(17,[bx b (aF a [.slice (va d.q) p.length d.k,iv j]) 66]),(14,[bx o (B3 Sty.zero) 26]),(17,[bx n (B3 s) 26]),(17,[bx m [iv to_] 3]),(17,vo A1 60 d p)] [at_ a5 [iv ((I5 cells from_ to_).2.1)],at_ a4 [.slice z (((I5 cells from_ to_).2.2).length) a6],sl C0 z ((I5 cells from_ to_).2.2),sl C0 g cells,P6,P7,O0,M9,K6,P4] (bx f [pt b 0] 62::bx b (aF a [.slice (va d.q) p.length d.k,iv j]) 66::bx o (B3 Sty.zero) 26::bx n (B3 s) 26::bx m [iv to_] 3::((vo A1 60 d p)++([]))) (bV 17 0) oki rfl oki oki oki (mc [[bx f [pt b 0] 62],[bx b (aF a [.slice (va d.q) p.length d.k,iv j]) 66],[bx o (B3 Sty.zero) 26],[bx n (B3 s) 26],[bx m [iv to_] 3],vo A1 60 d p] [true,true,true,true,true,true] opv oxs) A9.refl ?_
  refine zhl 0 (bx f [pt b 0] 62::bx b (aF a [.slice (va d.q) p.length d.k,iv j]) 66::bx o (B3 Sty.zero) 26::bx n (B3 s) 26::bx m [iv to_] 3::((vo A1 60 d p)++([]))) (bV 17 1) rfl (A2 (v:=pt b 0) F2i rfl rfl 0 rfl rfl) ?_
  refine zhp [1,2] 14 (bV 17 7) [(87,pt b 8)] ?_
  refine zhl 3 (bx f [pt b 0] 62::bx b (aF a [.slice (va d.q) p.length d.k,iv j]) 66::bx o (B3 Sty.zero) 26::bx n (B3 s) 26::bx m [iv to_] 3::((vo A1 60 d p)++([]))) (bV 17 15) rfl (A2 (v:=.slice (va d.q) p.length d.k) D7t rfl rfl 1 rfl rfl) ?_
  refine zhp [13] 12 (bV 17 8207) [(8,.slice (va d.q) p.length d.k)] ?_
  refine zhl 4 (bx f [pt b 0] 62::bx b (aF a [.slice (va d.q) p.length d.k,iv j]) 66::bx o (B3 Sty.zero) 26::bx n (B3 s) 26::bx m [iv to_] 3::((vo A1 60 d p)++([]))) (bV 17 8223) rfl (A2 (v:=pt b 0) F2i rfl rfl 0 rfl rfl) ?_
  refine zhp [5,6,7] 8 (bV 17 8447) [(92,pt b 0)] ?_
  refine zhl 8 (bx f [pt b 0] 62::bx b (aF a [.slice (va d.q) p.length d.k,iv j]) 66::bx o (B3 Sty.zero) 26::bx n (B3 s) 26::bx m [iv to_] 3::((vo A1 60 d p)++([]))) (bV 17 8703) rfl (D6 (us:=(aF a [])) A6y rfl rfl 1 rfl rfl rfl) ?_
  refine zhl 9 (bx f [pt b 0] 62::bx b (aF a [.slice (va d.q) p.length d.k,iv j]) 66::bx n (B3 s) 26::bx m [iv to_] 3::((vo A1 60 d p)++([]))) (bV 17 9215) rfl (A2 (v:=pt b 0) F2i rfl rfl 0 rfl rfl) ?_
  refine zhp [10,11] 4 (bV 17 12287) [(96,pt b 9)] ?_
  refine zhl 12 (bx f [pt b 0] 62::bx b (aF a [.slice (va d.q) p.length d.k,iv j]) 66::bx n (B3 s) 26::bx m [iv to_] 3::((vo A1 60 d p)++([]))) (bV 17 16383) rfl (A2 (v:=iv j) cA rfl rfl 1 rfl rfl) ?_
  refine zho 14 (bx f [pt b 0] 62::bx b (aF a [.slice (va d.q) p.length d.k,iv j]) 66::bx n (B3 s) 26::bx m [iv to_] 3::((vo A1 60 d p)++([]))) (bV 17 32767) rfl (D8 (us:=(aF a [])) (cs':=B3 a) A6y rfl rfl rfl 2 rfl rfl rfl rfl rfl rfl) (fun _=>(mc [[bx f [pt b 0] 62],[bx b (aF a [.slice (va d.q) p.length d.k,iv j]) 66],[bx o (B3 a) 26],[bx n (B3 s) 26],[bx m [iv to_] 3],vo A1 60 d p] [true,true,false,true,true,true] opv oxs)) (fun _=>A9.refl) fun _=>?_
  refine zhp [15,16] 0 (bV 17 131071) [(10,iv j),(11,iv 0)] ?_
  refine B1f oki ?_
  subst hR
  refine A8 ?_
  exact C3j rfl ⟨hr,hD⟩ (by exact (A4x.cons (show A4x X.D by rw [hD];exact A4x.nil) aj)) (E8d rfl (B0 rfl) (D4 (us:=B3 a) A6y rfl 2 rfl rfl rfl) (B0 rfl) (B0 rfl)) ⟨d,t⟩ (by rfl) (mc [[bx f [pt b 0] 62],[bx b (aF a [.slice (va d.q) p.length d.k,iv j]) 66],[bx o (B3 a) 26],[bx n (B3 s) 26],[bx m [iv to_] 3],vo A1 60 d p] [false,false,false,false,false,true] opv oxs) bT
theorem F4n:EqT Tryz.prog 48 B5l:=EqT.of 20 rfl oki oki (fun _ _=>by kernel_rfl) B5l.inj
theorem E5b:Ty Tryz.prog 138 5 true:=⟨by kernel_rfl⟩
def A2h (a:Int) (b:Int) (fTop:Int) (fBottom:Int) (fOrigin:Bool):Int :=
 (bif (((!((((decide ((1:Int)≤a))&&(decide (a≤40)))&&(decide ((2:Int)≤b)))&&(decide (b≤80))))||(!(((decide ((0:Int)≤fTop))&&(decide (fBottom<a)))&&((decide (fTop<fBottom))||((decide (fTop=0))&&(decide (a=1)))))))||(decide (fBottom<fTop))) then 270 else 0)
theorem B9w {a b fTop fBottom:Int} {fOrigin:Bool} {R:Int} (hR:A2h a b fTop fBottom fOrigin=R):J5 Tryz.prog 162 [ag [iv a,iv b,iv fTop,iv fBottom,bv fOrigin]] [] (iv R):=by
 refine bZ Tryz.func162 fun X hX hr hD=>?_
 replace hR:=(A2h.eq_1 ..).symm.trans hR
 refine bN rfl (zra 2 [] (fun h=>[(1,pt h 0)]) (fun _=>[iv a,iv b,iv fTop,iv fBottom,bv fOrigin]) 138 fun h=>(ie (bN rfl (cE 4 [0] 8 rfl ?_))))
 refine zid 4 11 8 12 (decide (a≤40)) (fun t v=>?_) ?_
 ·refine cE 4 [0] 12 rfl ?_
  exact A3 (O6 2 8 12 t bT bQ rfl rfl rfl rfl rfl)
 refine bO 1 13 rfl ?_
 refine zia 4 6 13 17 (decide ((2:Int)≤b)) (fun g=>?_) ?_
 ·have o:=bU g
  refine cE 4 [0] 17 rfl ?_
  exact A3 (O6 2 13 17 g bT bQ rfl rfl rfl rfl rfl)
 refine bO 1 18 rfl ?_
 refine zia 4 1 18 22 (decide (b≤80)) (fun i=>?_) ?_
 ·have w:=bU i
  refine cE 4 [0] 22 rfl ?_
  exact A3 (O6 2 18 22 i bT bQ rfl rfl rfl rfl rfl)
 refine bO 1 3 rfl (ie (bN rfl (cE 4 [0] 26 rfl ?_)))
 refine zid 6 18 26 32 (decide (fBottom<a)) (fun n s=>?_) ?_
 ·refine cE 6 [0,0] 32 rfl ?_
  exact A3 (O6 2 26 32 n bT bQ rfl rfl rfl rfl rfl)
 refine bO 1 33 rfl ?_
 refine zia 16 1 33 49 ((decide (fTop<fBottom))||((decide (fTop=0))&&(decide (a=1)))) (fun f=>?_) ?_
 ·have l:=bU f
  refine cE 6 [0,0] 39 rfl ?_
  refine zir 9 1 39 48 ((decide (fTop=0))&&(decide (a=1))) (fun u p=>?_) ?_
  ·refine cE 4 [0] 43 rfl ?_
   refine zid 4 1 43 47 (decide (a=1)) (fun m r=>?_) ?_
   ·refine cE 4 [0] 47 rfl ?_
    exact A3 (O6 2 43 47 m bT bQ rfl rfl rfl rfl rfl)
   refine bO 1 48 rfl ?_
   exact A3 (O6 4 39 48 u bT bQ rfl rfl rfl rfl rfl)
  refine bO 1 49 rfl ?_
  exact A3 (O6 4 33 49 f bT bQ rfl rfl rfl rfl rfl)
 refine bO 1 4 rfl (ie (A5 (bN rfl (bO 3 52 rfl ?_))))
 refine zio 3 7 52 55 (!(((decide ((0:Int)≤fTop))&&(decide (fBottom<a)))&&((decide (fTop<fBottom))||((decide (fTop=0))&&(decide (a=1)))))) (fun j=>?_) ?_
 ·have q:=bU j
  refine bO 3 55 rfl ?_
  exact A3 (O6 2 52 55 j bT bQ rfl rfl rfl rfl rfl)
 refine bO 1 56 rfl ?_
 refine zio 6 0 56 62 (decide (fBottom<fTop)) (fun c=>?_) ?_
 ·have k:=bU c
  refine cE 6 [0,0] 62 rfl ?_
  exact A3 (O6 2 56 62 c bT bQ rfl rfl rfl rfl rfl)
 refine ie ?_
 refine zjb rfl hR ?_ ?_<;>clear hR<;>intro hR d
 ·have e:=bU d
  refine bN rfl (bO 1 2 rfl ?_)
  subst hR
  refine ie (A8 ?_)
  exact G0 hr hD
 have e:=bU d
 refine A4 (nx (bN rfl (bO 1 2 rfl ?_)))
 subst hR
 refine ie (A8 ?_)
 exact G0 hr hD
def A6g (n:Int) (from_:Int) (to_:Int):Int :=
 (if (if to_<n then to_ else n) > from_ then (if to_<n then to_ else n) else from_)
theorem B9c {n from_ to_ R:Int} (hR:A6g n from_ to_=R):J5 Tryz.prog 205 [iv n,iv from_,iv to_] [] (iv R):=by
 refine bZ Tryz.func205 fun X hX hr hD=>?_
 replace hR:=(A6g.eq_1 ..).symm.trans hR
 refine bN rfl (pp0 1 rfl (ie (bN rfl (bO 6 6 rfl ?_))))
 subst hR
 refine ie (A8 ?_)
 exact G0 hr hD
def A6c (a:Int) (b:Int) (fTop:Int) (fBottom:Int) (fOrigin:Bool) (n:Int):Int :=
 (A6g n 0 (IntKind.i64.wrap (a - (1:Int))))
theorem C1z {a b fTop fBottom:Int} {fOrigin:Bool} {n R:Int} (hR:A6c a b fTop fBottom fOrigin n=R):J5 Tryz.prog 163 [ag [iv a,iv b,iv fTop,iv fBottom,bv fOrigin],iv n] [] (iv R):=by
 refine bZ Tryz.func163 fun X hX hr hD=>?_
 replace hR:=(A6c.eq_1 ..).symm.trans hR
 refine bN rfl (zra 2 [] (fun c=>[(2,pt c 0)]) (fun _=>[iv a,iv b,iv fTop,iv fBottom,bv fOrigin]) 138 fun c=>(ie (bN rfl (pl2 3 [0] 5 7 rfl (ix rfl (I6.pure rfl) (zv rfl (B9c rfl) (bO 1 4 rfl ?_)))))))
 subst hR
 refine ie (A8 ?_)
 exact G0 hr hD
def O5 (b:Int) (a:Int) (fTop:Int) (fBottom:Int) (fOrigin:Bool) (n:Int):Int :=
 (A6g n 0 (IntKind.i64.wrap (a - (1:Int))))
theorem B3q {a b fTop fBottom:Int} {fOrigin:Bool} {n R:Int} (hR:O5 a b fTop fBottom fOrigin n=R):J5 Tryz.prog 164 [ag [iv a,iv b,iv fTop,iv fBottom,bv fOrigin],iv n] [] (iv R):=by
 refine bZ Tryz.func164 fun X hX hr hD=>?_
 replace hR:=(O5.eq_1 ..).symm.trans hR
 refine bN rfl (zra 2 [] (fun c=>[(2,pt c 0)]) (fun _=>[iv a,iv b,iv fTop,iv fBottom,bv fOrigin]) 138 fun c=>(ie (bN rfl (pl2 3 [0] 5 7 rfl (ix rfl (I6.pure rfl) (zv rfl (B9c rfl) (bO 1 4 rfl ?_)))))))
 subst hR
 refine ie (A8 ?_)
 exact G0 hr hD
def K1 (b:Int) (a:Int) (fTop:Int) (fBottom:Int) (fOrigin:Bool) (c:Cur):Int :=
 (bif (!decide ((A2h b a fTop fBottom fOrigin)=0)) then (A2h b a fTop fBottom fOrigin) else (bif (((!decide (c.row=(A6c b a fTop fBottom fOrigin c.row)))||(!decide (c.col=(O5 b a fTop fBottom fOrigin c.col))))||(c.wrap&&(decide (c.col<(IntKind.i64.wrap (a - (1:Int))))))) then 271 else 0))
theorem A5y {b a fTop fBottom:Int} {fOrigin:Bool} {c:Cur} {R:Int} (hR:K1 b a fTop fBottom fOrigin c=R):J5 Tryz.prog 90 [ag [iv b,iv a,iv fTop,iv fBottom,bv fOrigin],ag (V7 c)] [] (iv R):=by
 refine bZ Tryz.func90 fun X hX hr hD=>?_
 replace hR:=(K1.eq_1 ..).symm.trans hR
 refine bN rfl (A8c 3 [] (fun g f=>[(2,pt g 0),(3,pt f 0)]) (fun _ _=>[iv b,iv a,iv fTop,iv fBottom,bv fOrigin]) (fun _ _=>(V7 c)) 138 40 fun g f=>(ie (A5 (bN rfl (bY 1 2 [1] [(6,ag [iv b,iv a,iv fTop,iv fBottom,bv fOrigin])] (zv rfl (B9w rfl) (bO 1 5 rfl (ie (bN rfl (bO 2 9 rfl (ie ?_)))))))))))
 refine zjn rfl hR ?_ ?_<;>clear hR<;>intro hR n k
 ·refine bN rfl (bO 2 4 rfl ?_)
  subst hR
  refine ie (A8 ?_)
  exact G0 hr hD
 refine A4 (nx (A5 (sd 28 rfl oki rfl ?_)))
 refine zdg 5 23 [0,1,0] [(12,iv c.row),(13,ag [iv b,iv a,iv fTop,iv fBottom,bv fOrigin]),(15,iv c.row)] ?_
 refine zvd rfl (C1z rfl) (pd1 2 18 rfl ?_)
 refine zdO 8 12 18 26 (!decide (c.col=(O5 b a fTop fBottom fOrigin c.col))) (fun h=>?_) ?_
 ·have m:=bU h
  refine zdg 5 3 [0,1,0] [(20,iv c.col),(21,ag [iv b,iv a,iv fTop,iv fBottom,bv fOrigin]),(23,iv c.col)] ?_
  refine zvd rfl (B3q rfl) (pd1 2 26 rfl ?_)
  exact zad 6 18 26 h
 refine pd1 1 27 rfl ?_
 refine zdO 11 0 27 38 (c.wrap&&(decide (c.col<(IntKind.i64.wrap (a - (1:Int)))))) (fun e=>?_) ?_
 ·have l:=bU e
  refine pg1 3 [0] 30 rfl ?_
  refine zda 7 1 30 37 (decide (c.col<(IntKind.i64.wrap (a - (1:Int))))) (fun j=>?_) ?_
  ·refine pg2 4 [0,1] 32 34 rfl (dd rfl (I6.pure rfl) (pd1 2 37 rfl ?_))
   exact zad 5 30 37 j
  refine pd1 1 38 rfl ?_
  exact zad 4 27 38 e
 refine de ?_
 refine zjb rfl hR ?_ ?_<;>clear hR<;>intro hR i
 ·have d:=bU i
  refine bN rfl (bO 1 4 rfl ?_)
  subst hR
  refine ie (A8 ?_)
  exact G0 hr hD
 have d:=bU i
 refine A4 (nx (bN rfl (bO 1 4 rfl ?_)))
 subst hR
 refine ie (A8 ?_)
 exact G0 hr hD
def V9 (s:Sts):Int :=
 (bif ((!decide (s.g.a=0))&&(!decide (s.g.a=1))) then 250 else (bif ((!decide (s.g.b=0))&&(!decide (s.g.b=1))) then 250 else (bif ((!decide (s.g.c=0))&&(!decide (s.g.c=1))) then 250 else (bif ((!decide (s.g.d=0))&&(!decide (s.g.d=1))) then 250 else (bif ((!decide ((bW .andNot .i64 s.used 1)=0))||(((!decide (s.once=0))&&(!decide (s.once=2)))&&(!decide (s.once=3)))) then 250 else 0)))))
theorem B6l {s:Sts} {R:Int} (hR:V9 s=R):J5 Tryz.prog 94 [ag (A3i s)] [] (iv R):=by
 refine bZ Tryz.func94 fun X hX hr hD=>?_
 replace hR:=(V9.eq_1 ..).symm.trans hR
 refine bN rfl (zra 2 [] (fun u=>[(1,pt u 0)]) (fun _=>(A3i s)) 43 fun u=>(ie (A5 (bN rfl (bY 3 0 [0] [(6,ag (D2c s.g)),(7,iv 0)] (ie (B2 (Z6 6 ?_))))))))
 refine D9 (bN rfl (bO 1 8 rfl ?_))
 refine ie (A5 (J9 rfl (A4 (nx (A5 (B2 (bN rfl (ix rfl (E9 Tryz.underlying41 cA rfl rfl rfl 0 rfl ozw rfl rfl rfl) (bO 1 4 rfl (ie (bN rfl (bO 3 12 rfl ?_))))))))))))
 refine zia 3 0 12 15 (!decide (s.g.a=1)) (fun y=>?_) ?_
 ·have a3:=bU y
  refine bO 3 15 rfl ?_
  exact A3 (O6 2 12 15 y bT bQ rfl rfl rfl rfl rfl)
 refine ie ?_
 refine zjb rfl hR ?_ ?_<;>clear hR<;>intro hR q
 ·have m:=bU q
  refine bN rfl (bO 1 2 rfl ?_)
  subst hR
  refine ie (A8 ?_)
  exact G0 hr hD
 have m:=bU q
 refine A4 (nx (A0 2 rfl (ix rfl (B4 (c:=1) rfl rfl rfl rfl ozw) (bO 1 7 rfl (A3 (D9 (bN rfl (bO 1 8 rfl (ie (A5 (J9 rfl (A4 (nx (A5 (B2 (bN rfl (ix rfl (E9 Tryz.underlying41 cA rfl rfl rfl 1 rfl ozw rfl rfl rfl) (bO 1 4 rfl (ie (bN rfl (bO 3 12 rfl ?_)))))))))))))))))))))
 refine zia 3 0 12 15 (!decide (s.g.b=1)) (fun w=>?_) ?_
 ·have a4:=bU w
  refine bO 3 15 rfl ?_
  exact A3 (O6 2 12 15 w bT bQ rfl rfl rfl rfl rfl)
 refine ie ?_
 refine zjb rfl hR ?_ ?_<;>clear hR<;>intro hR p
 ·have n:=bU p
  refine bN rfl (bO 1 2 rfl ?_)
  subst hR
  refine ie (A8 ?_)
  exact G0 hr hD
 have n:=bU p
 refine A4 (nx (A0 2 rfl (ix rfl (B4 (c:=2) rfl rfl rfl rfl ozw) (bO 1 7 rfl (A3 (D9 (bN rfl (bO 1 8 rfl (ie (A5 (J9 rfl (A4 (nx (A5 (B2 (bN rfl (ix rfl (E9 Tryz.underlying41 cA rfl rfl rfl 2 rfl ozw rfl rfl rfl) (bO 1 4 rfl (ie (bN rfl (bO 3 12 rfl ?_)))))))))))))))))))))
 refine zia 3 0 12 15 (!decide (s.g.c=1)) (fun t=>?_) ?_
 ·have a1:=bU t
  refine bO 3 15 rfl ?_
  exact A3 (O6 2 12 15 t bT bQ rfl rfl rfl rfl rfl)
 refine ie ?_
 refine zjb rfl hR ?_ ?_<;>clear hR<;>intro hR z
 ·have k:=bU z
  refine bN rfl (bO 1 2 rfl ?_)
  subst hR
  refine ie (A8 ?_)
  exact G0 hr hD
 have k:=bU z
 refine A4 (nx (A0 2 rfl (ix rfl (B4 (c:=3) rfl rfl rfl rfl ozw) (bO 1 7 rfl (A3 (D9 (bN rfl (bO 1 8 rfl (ie (A5 (J9 rfl (A4 (nx (A5 (B2 (bN rfl (ix rfl (E9 Tryz.underlying41 cA rfl rfl rfl 3 rfl ozw rfl rfl rfl) (bO 1 4 rfl (ie (bN rfl (bO 3 12 rfl ?_)))))))))))))))))))))
 refine zia 3 0 12 15 (!decide (s.g.d=1)) (fun o=>?_) ?_
 ·have a2:=bU o
  refine bO 3 15 rfl ?_
  exact A3 (O6 2 12 15 o bT bQ rfl rfl rfl rfl rfl)
 refine ie ?_
 refine zjb rfl hR ?_ ?_<;>clear hR<;>intro hR r
 ·have l:=bU r
  refine bN rfl (bO 1 2 rfl ?_)
  subst hR
  refine ie (A8 ?_)
  exact G0 hr hD
 have l:=bU r
 refine A4 (nx (A0 2 rfl (ix rfl (B4 (c:=4) rfl rfl rfl rfl ozw) (bO 1 7 rfl (A3 (D9 (bN rfl (bO 1 8 rfl (ie (A5 (Z1 rfl (G6 (nx (A5 (bN rfl (cE 5 [0] 21 rfl ?_))))))))))))))))
 refine zio 14 0 21 35 (((!decide (s.once=0))&&(!decide (s.once=2)))&&(!decide (s.once=3))) (fun h=>?_) ?_
 ·have a0:=bU h
  refine cE 4 [0] 25 rfl ?_
  refine zia 4 6 25 29 (!decide (s.once=2)) (fun e=>?_) ?_
  ·have x:=bU e
   refine cE 4 [0] 29 rfl ?_
   exact A3 (O6 2 25 29 e bT bQ rfl rfl rfl rfl rfl)
  refine bO 1 30 rfl ?_
  refine zia 4 1 30 34 (!decide (s.once=3)) (fun f=>?_) ?_
  ·have v:=bU f
   refine cE 4 [0] 34 rfl ?_
   exact A3 (O6 2 30 34 f bT bQ rfl rfl rfl rfl rfl)
  refine bO 1 35 rfl ?_
  exact A3 (O6 6 21 35 h bT bQ rfl rfl rfl rfl rfl)
 refine ie ?_
 refine zjb rfl hR ?_ ?_<;>clear hR<;>intro hR j
 ·have i:=bU j
  refine bN rfl (bO 1 2 rfl ?_)
  subst hR
  refine ie (A8 ?_)
  exact G0 hr hD
 have i:=bU j
 refine A4 (nx (bN rfl (bO 1 2 rfl ?_)))
 subst hR
 refine ie (A8 ?_)
 exact G0 hr hD
def O9 (a:Int) (b:Int) (fTop:Int) (fBottom:Int) (fOrigin:Bool) (s:Sav):Int :=
 (bif (!decide ((A2h a b fTop fBottom fOrigin)=0)) then (A2h a b fTop fBottom fOrigin) else (bif ((s.is_&&(!(((decide ((K1 a b fTop fBottom fOrigin s.cursor)=0))&&(decide ((D5 s.style)=0)))&&(decide ((V9 s.sets)=0)))))||((!s.is_)&&(!(decide (s=Sav.zero))))) then 272 else 0))
theorem B1q {c d fTop fBottom:Int} {fOrigin:Bool} {s:Sav} {R:Int} (hR:O9 c d fTop fBottom fOrigin s=R):J5 Tryz.prog 91 [ag [iv c,iv d,iv fTop,iv fBottom,bv fOrigin],ag (B5l s)] [] (iv R):=by
 refine bZ Tryz.func91 fun X hX hr hD=>?_
 replace hR:=(O9.eq_1 ..).symm.trans hR
 refine bN rfl (A8c 3 [] (fun i h=>[(2,pt i 0),(3,pt h 0)]) (fun _ _=>[iv c,iv d,iv fTop,iv fBottom,bv fOrigin]) (fun _ _=>(B5l s)) 138 48 fun i h=>(ie (A5 (bN rfl (bY 1 2 [1] [(7,ag [iv c,iv d,iv fTop,iv fBottom,bv fOrigin])] (zv rfl (B9w rfl) (bO 1 5 rfl (ie (bN rfl (bO 2 10 rfl (ie ?_)))))))))))
 refine zjn rfl hR ?_ ?_<;>clear hR<;>intro hR r n
 ·refine bN rfl (bO 2 4 rfl ?_)
  subst hR
  refine ie (A8 ?_)
  exact G0 hr hD
 refine A4 (nx (bN rfl (bY 3 15 [1,0] [(12,ag [iv c,iv d,iv fTop,iv fBottom,bv fOrigin]),(14,ag (V7 s.cursor))] (zv rfl (A5y rfl) (bO 2 17 rfl ?_)))))
 refine zid 5 7 17 22 (decide ((D5 s.style)=0)) (fun p q=>?_) ?_
 ·refine bY 2 3 [0] [(19,ag (B3 s.style))] (zv rfl (V1 rfl) (bO 2 22 rfl ?_))
  exact A3 (O6 4 17 22 p bT bQ rfl rfl rfl rfl rfl)
 refine bO 1 23 rfl ?_
 refine zia 5 1 23 28 (decide ((V9 s.sets)=0)) (fun g=>?_) ?_
 ·have o:=bU g
  refine bY 2 3 [0] [(25,ag (A3i s.sets))] (zv rfl (B6l rfl) (bO 2 28 rfl ?_))
  exact A3 (O6 4 23 28 g bT bQ rfl rfl rfl rfl rfl)
 refine bO 1 6 rfl (ie (A5 (bN rfl (cE 3 [0] 31 rfl ?_))))
 refine zia 3 10 31 34 (!(((decide ((K1 c d fTop fBottom fOrigin s.cursor)=0))&&(decide ((D5 s.style)=0)))&&(decide ((V9 s.sets)=0)))) (fun l=>?_) ?_
 ·refine bO 3 34 rfl ?_
  exact A3 (O6 2 31 34 l bT bQ rfl rfl rfl rfl rfl)
 refine bO 1 35 rfl ?_
 refine zio 9 0 35 44 ((!s.is_)&&(!(decide (s=Sav.zero)))) (fun j=>?_) ?_
 ·have m:=bU j
  refine cE 4 [0] 39 rfl ?_
  refine zia 4 1 39 43 (!(decide (s=Sav.zero))) (fun k=>?_) ?_
  ·refine bY 2 2 [0] [(40,ag (B5l s)),(41,ag (B5l Sav.zero))] (ix rfl (X1 (a:=s) (b:=Sav.zero) F4n rfl rfl rfl) (bO 1 43 rfl ?_))
   exact A3 (O6 5 39 43 k bT bQ rfl rfl rfl rfl rfl)
  refine bO 1 44 rfl ?_
  exact A3 (O6 4 35 44 j bT bQ rfl rfl rfl rfl rfl)
 refine ie ?_
 refine zjb rfl hR ?_ ?_<;>clear hR<;>intro hR f
 ·have e:=bU f
  refine bN rfl (bO 1 4 rfl ?_)
  subst hR
  refine ie (A8 ?_)
  exact G0 hr hD
 have e:=bU f
 refine A4 (nx (bN rfl (bO 1 4 rfl ?_)))
 subst hR
 refine ie (A8 ?_)
 exact G0 hr hD
def X4 (g:List (Rwc Cel)):Int :=
 ((g.getD 0 bS).l.length:Int)
theorem B4q {g:List (Rwc Cel)} {gq:Option Addr} {grs:List Rwq} {gk:Nat} {R:Int} (hR:X4 g=R) (a:F1 grs g:=by exact bP) (f:g.length≤9223372036854775807:=by exact bP) (h:g.length≤gk:=by exact bP) (d:0<g.length:=by exact bP):J5 Tryz.prog 234 [.slice gq g.length gk] [sl G2 gq grs,E7 C0 grs g] (iv R):=by
 refine bZ Tryz.func234 fun X hX hr hD=>?_
 replace hR:=(X4.eq_1 ..).symm.trans hR
 have:=a.1
 refine bN rfl (pp0 1 rfl (ie (bN rfl (ip' 1 5 [(3,.slice gq g.length gk)] (L9 0 rfl (by have:=a.1;omega) fun e b=>(D7 (C7p (k:=0) a 1 rfl (by have:=a.1;omega)) ?_))))))
 have:=B8c a (k:=0) (by have:=a.1;omega)
 refine ix rfl (H9 B1r rfl rfl b rfl 0 rfl opx) (ip' 1 3 [(5,pa (Addr.add e (0 * 2)))] (ix rfl (G9 (F2 (v:=.slice ((grs.getD 0 cF).s.q) ((grs.getD 0 cF).s.n) ((grs.getD 0 cF).s.k)) (us:=[.slice ((grs.getD 0 cF).s.q) ((grs.getD 0 cF).s.n) ((grs.getD 0 cF).s.k)]) D5w rfl rfl (A2w (K2 (c:=G2) (sz:=2) b (fun _=>rfl) 1 rfl (gd cF (by have:=a.1;omega))) (ws:=[.slice ((grs.getD 0 cF).s.q) ((grs.getD 0 cF).s.n) ((grs.getD 0 cF).s.k)]) 1 rfl) rfl) (E5n a (by have:=a.1;omega))) (bO 2 2 rfl ?_)))
 subst hR
 refine ie (A8 ?_)
 exact G0 hr hD
def Z2 (g:List (Rwc Cel)):List (Rwc Cel)→Nat→Int
 | [],t15=>0
 | hd_l0::tl_l0,t15=>(bif ((!decide ((G5 (hd_l0.l) (hd_l0.b))=0))||(!decide ((hd_l0.l.length:Int)=(X4 g)))) then 230 else Z2 g tl_l0 (t15+1))
def R8 (g:List (Rwc Cel)):Int :=
 (bif ((decide ((g.length:Int)<1))||(decide ((40:Int)<(g.length:Int)))) then 230 else Z2 g g 0)
theorem B9y {g:List (Rwc Cel)} (h:R8 g=0):0<g.length:=by
 unfold R8 at h
 cases hb:((decide ((g.length:Int)<1))||(decide ((40:Int)<(g.length:Int)))) with
 | true=>rw [hb] at h;cases h
 | false=>simp only [Bool.or_eq_false_iff,decide_eq_false_iff_not] at hb;omega
theorem C1l {g:List (Rwc Cel)} (h:R8 g=0):g.length≤40:=by
 unfold R8 at h
 by_cases q:g.length≤40
 ·exact q
 ·rw [show ((decide ((g.length:Int)<1))||(decide ((40:Int)<(g.length:Int))))=true by simp only [Bool.or_eq_true,decide_eq_true_eq];omega] at h
  cases h
theorem B6o {g:List (Rwc Cel)} {gq:Option Addr} {grs:List Rwq} {gk:Nat} {R:Int} (hR:R8 g=R) (a:F1 grs g:=by exact bP) (v:g.length≤9223372036854775807:=by exact bP) (w:g.length≤gk:=by exact bP):J5 Tryz.prog 165 [.slice gq g.length gk] [sl G2 gq grs,E7 C0 grs g,P6,P7] (iv R):=by
 refine bZ Tryz.func165 fun X hX hr hD=>?_
 replace hR:=(R8.eq_1 ..).symm.trans hR
 have:=a.1
 refine bN rfl (pp0 1 rfl (ie (A5 (bN rfl (bO 4 8 rfl ?_)))))
 refine zir 4 0 8 12 (decide ((40:Int)<(g.length:Int))) (fun x t=>?_) ?_
 ·refine bO 4 12 rfl ?_
  exact zai 2 8 12 x
 refine ie ?_
 refine zjo rfl hR ?_ ?_<;>clear hR<;>intro hR z r
 ·refine bN rfl (bO 1 2 rfl ?_)
  subst hR
  refine ie (A8 ?_)
  exact G0 hr hD
 refine A4 (nx (A5 (bN rfl (pp3 3 13 14 15 rfl (ie (B2 (A4v (fun (d:Nat)=>(d≤g.length∧Z2 g (g.drop d) d=R,[(0,.slice gq g.length gk),(13,.slice gq g.length gk),(14,iv (g.length:Int)),(15,iv (d:Int))],[],[sl G2 gq grs,E7 C0 grs g,P6,P7],g.length - d)) 0 ⟨opx,hR⟩ bQ A9.refl ?_)))))))
 rintro d ⟨p,hR⟩
 refine bN rfl (bO 1 16 rfl ?_)
 refine ie (A5 (X7 rfl (fun i=>?_) (fun i=>?_)))
 ·have f:=bU i
  rw [A1f bS (show d<g.length by omega)] at hR;replace hR:=(Z2.eq_2 ..).symm.trans hR
  refine A4 (nx (A5 (B2 (bN rfl (L9 0 rfl (by have:=a.1;omega) fun y e=>(D7 (C7p (k:=d) a 1 rfl (by have:=a.1;omega)) ?_))))))
  have:=B8c a (k:=d) (by have:=a.1;omega)
  refine ix rfl (H9 B1r rfl rfl e rfl d rfl opx) (ix rfl (G9 (K5 (us:=[.slice ((grs.getD d cF).s.q) ((grs.getD d cF).s.n) ((grs.getD d cF).s.k),bv ((grs.getD d cF).b)]) A3w rfl rfl (K2 (c:=G2) (sz:=2) e (fun _=>rfl) 1 rfl (gd cF (by have:=a.1;omega))) rfl) (D6v a (by have:=a.1;omega))) ?_)
  refine zra 2 [0] (fun j=>[(4,pt j 0)]) (fun _=>[.slice ((grs.getD d cF).s.q) ((g.getD d bS).l.length) ((grs.getD d cF).s.k),bv ((g.getD d bS).b)]) 34 fun j=>?_
  refine ie (sd 11 rfl oki rfl ?_)
  refine zdg 1 10 [0] [(19,ag [.slice ((grs.getD d cF).s.q) ((g.getD d bS).l.length) ((grs.getD d cF).s.k),bv ((g.getD d bS).b)])] ?_
  refine zvd rfl (A7p rfl) (pd1 2 22 rfl ?_)
  refine zdO 7 0 22 29 (!decide (((g.getD d bS).l.length:Int)=(X4 g))) (fun m=>?_) ?_
  ·have u:=bU m
   refine pg2 4 [0] 25 26 rfl (zvd rfl (B4q rfl a) (pd1 2 29 rfl ?_))
   exact zad 5 22 29 m
  refine de ?_
  refine zjb rfl hR ?_ ?_<;>clear hR<;>intro hR o
  ·have h:=bU o
   refine bN rfl (bO 1 2 rfl ?_)
   subst hR
   refine ie (A8 ?_)
   exact G0 hr hD
  have h:=bU o
  refine A4 (nx (A0 2 rfl (ix rfl (B4 rfl rfl rfl rfl opx) (bO 1 15 rfl (A3 ?_)))))
  exact A0d (z1:=d) (d+1) ⟨opx,hR⟩ olr bQ c9
 have f:=bU i
 rw [A2g f] at hR;replace hR:=(Z2.eq_1 ..).symm.trans hR
 refine G6 (nx (bN rfl (bO 1 2 rfl ?_)))
 subst hR
 refine ie (A8 ?_)
 exact G0 hr hD
def C6k:List Int :=
 ([9,1000,1002,1003]:List Int)
theorem D6c {R:List Int} (hR:C6k=R):cI Tryz.prog 167 [] [] [] ({t:Option Addr×Nat // R.length≤t.2∧R.length≤9223372036854775807}) (fun x=>.slice x.1.1 R.length x.1.2) (fun x=>[]) (fun x=>[sl J8 x.1.1 R]):=by
 refine bZ Tryz.func167 fun X hX hr hD=>?_
 replace hR:=(C6k.eq_1 ..).symm.trans hR
 refine bN rfl (pp0 1 rfl (ie (bN rfl (it rfl (C1 (c:=J8) (xs:=([9,1000,1002,1003]:List Int)) L4 rfl rfl rfl oki) fun a=>?_))))
 have:([9,1000,1002,1003]:List Int).length=4:=rfl
 refine bO 1 0 rfl ?_
 subst hR
 refine ie (A8 ?_)
 exact cD hr hD (N4 rfl (B0 rfl)) (zq (some ⟨a,0,none⟩) 4) bQ c9
def Q1 (v:Int):List Int→Nat→Int
 | [],a=>(-1)
 | hd_l0::tl_l0,a=>(bif (decide (v=hd_l0)) then (a:Int) else Q1 v tl_l0 (a+1))
def K4 (s:List Int) (v:Int):Int :=
 Q1 v s 0
theorem A8i {s:List Int} {v:Int} {sq:Option Addr} {sk:Nat} {R:Int} (hR:K4 s v=R) (h:s.length≤9223372036854775807:=by exact bP) (f:s.length≤sk:=by exact bP):J5 Tryz.prog 235 [.slice sq s.length sk,iv v] [sl J8 sq s] (iv R):=by
 refine bZ Tryz.func235 fun X hX hr hD=>?_
 replace hR:=(K4.eq_1 ..).symm.trans hR
 refine bN rfl (pp0 1 rfl (ie (A5 (bN rfl (cJ 3 7 8 rfl (ie (B2 (A4v (fun (a:Nat)=>(a≤s.length∧Q1 v (s.drop a) a=R,[(0,.slice sq s.length sk),(1,iv v),(7,iv (s.length:Int)),(8,iv (a:Int))],[],[sl J8 sq s],s.length - a)) 0 ⟨opx,hR⟩ bQ A9.refl ?_))))))))
 rintro a ⟨g,hR⟩
 refine bN rfl (bO 1 9 rfl ?_)
 refine ie (A5 (X7 rfl (fun e=>?_) (fun e=>?_)))
 ·have d:=bU e
  rw [A1f 0 (show a<s.length by omega)] at hR;replace hR:=(Q1.eq_2 ..).symm.trans hR
  refine A4 (nx (A5 (B2 (bN rfl (bO 2 5 rfl (ie (bN rfl (pp3 3 11 12 13 rfl (L9 0 rfl opx fun k b=>(ix rfl (H9 L4 rfl rfl b rfl a rfl opx) (ix rfl (F2 cA rfl rfl (K2 (c:=J8) (sz:=1) b (fun _=>rfl) 0 rfl (gd 0 opx)) rfl) (bO 1 16 rfl (ie ?_)))))))))))))
  refine zjd rfl hR ?_ ?_<;>clear hR<;>intro hR j i
  ·refine bN rfl (bO 2 4 rfl ?_)
   subst hR
   refine ie (A8 ?_)
   exact G0 hr hD
  refine A4 (nx (A0 2 rfl (ix rfl (B4 rfl rfl rfl rfl opx) (bO 1 8 rfl (A3 ?_)))))
  exact A0d (z1:=a) (a+1) ⟨opx,hR⟩ olr bQ A9.refl
 have d:=bU e
 rw [A2g d] at hR;replace hR:=(Q1.eq_1 ..).symm.trans hR
 refine G6 (nx (bN rfl (bO 1 4 rfl ?_)))
 subst hR
 refine ie (A8 ?_)
 exact G0 hr hD
def A3a (s:List Int) (v:Int):Bool :=
 (decide ((0:Int)≤(K4 s v)))
theorem B3t {s:List Int} {v:Int} {sq:Option Addr} {sk:Nat} {R:Bool} (hR:A3a s v=R) (a:s.length≤9223372036854775807:=by exact bP) (b:s.length≤sk:=by exact bP):J5 Tryz.prog 166 [.slice sq s.length sk,iv v] [sl J8 sq s] (bv R):=by
 refine bZ Tryz.func166 fun X hX hr hD=>?_
 replace hR:=(A3a.eq_1 ..).symm.trans hR
 refine bN rfl (pp0 1 rfl (ie (bN rfl (cJ 2 5 6 rfl (zv rfl (A8i rfl) (bO 2 4 rfl ?_))))))
 subst hR
 refine ie (A8 ?_)
 exact G0 hr hD
def A9k (m:Mod):Int :=
 (bif (!decide (m.mouse=0)) then (C2 C6k fun (a:List Int)=>(bif (!(A3a a m.mouse)) then 260 else 0)) else 0)
theorem D5t {m:Mod} {R:Int} (hR:A9k m=R):J5 Tryz.prog 95 [ag (C1b m)] [] (iv R):=by
 refine bZ Tryz.func95 fun X hX hr hD=>?_
 replace hR:=(A9k.eq_1 ..).symm.trans hR
 refine bN rfl (zra 2 [] (fun e=>[(1,pt e 0)]) (fun _=>(C1b m)) 45 fun e=>(ie (A5 (zS [(10,[0])] ?_))))
 refine hq1 [0] 3 rfl ?_
 refine gl 1 [0] rfl (A2 (v:=iv m.mouse) cA rfl rfl 0 rfl rfl) ?_
 refine hq1 [2,3] 6 rfl ?_
 refine E6m 6 _ rfl (fun a=>?_) (fun a=>?_)
 ·have c:=bU a
  replace hR:=bt hR a
  refine hq1 [5] 8 rfl ?_
  refine gl 6 [0] rfl (A2 (v:=iv m.mouse) cA rfl rfl 0 rfl rfl) ?_
  have g:=C9 hR;clear hR;obtain ⟨k,d,hR⟩:=g
  refine gc 4 [0] rfl (D6c d) fun ⟨⟨j,l⟩,b⟩=>?_
  obtain ⟨f,h⟩:=b
  refine gv 7 [0] rfl (B3t rfl) ?_
  refine hq1 [8,9] 12 rfl ?_
  refine ge ?_
  refine zjb rfl hR ?_ ?_<;>clear hR<;>intro hR i
  ·refine bN rfl (bO 1 2 rfl ?_)
   subst hR
   refine ie (A8 ?_)
   exact G0 hr hD
  refine A4 (nx (bN rfl (bO 1 2 rfl ?_)))
  subst hR
  refine ie (A8 ?_)
  exact G0 hr hD
 ·have c:=bU a
  replace hR:=bf hR a
  refine hq1 [4,5,6,7,8,9] 12 rfl ?_
  refine ge ?_
  refine Z1 rfl (A4 (nx (bN rfl (bO 1 2 rfl ?_))))
  subst hR
  refine ie (A8 ?_)
  exact G0 hr hD
def A5i:List UInt8→List Cel→Nat→List Cel
 | [],out,t7=>out
 | hd_l0::tl_l0,out,t7=>A5i tl_l0 (out++([{Cel.zero with base:=(hd_l0.toNat:Int)}]:List Cel)) (t7+1)
def B0n (s:List UInt8):List Cel :=
 A5i s ([]:List Cel) 0
theorem B5e (s:List UInt8) (o:s.length≤1000000) (R:List Cel) (hR:B0n s=R):cI Tryz.prog 11 [sv s] [] [] ({r:VR // bR 12 R.length r}) (fun x=>.slice (va x.1.q) R.length x.1.k) (fun x=>((vo C0 37 x.1 R)++([]))) (fun x=>[]):=by
 refine bZ Tryz.func11 fun X hX hr hD=>?_
 replace hR:=(B0n.eq_1 ..).symm.trans hR
 refine bN rfl (pp0 1 rfl (ie (bN rfl (bO 1 3 rfl (ie (A5 (bN rfl (cJ 3 6 7 rfl (ie (B2 ?_))))))))))
 refine A4v (un fun (d:List Cel)=>un fun (a:VR) (e:Nat)=>(e≤s.length∧A5i (s.drop e) d e=R∧bR 12 d.length a∧(d.length≤e∧e≤s.length),[(0,sv s),(3,.slice (va a.q) d.length a.k),(6,iv (s.length:Int)),(7,iv (e:Int))],((vo C0 37 a d)++([])),[],s.length - e)) (([]:List Cel),VR.nil,0) ⟨opx,hR,bR.nil,(by exact ⟨Nat.le_refl _,Nat.zero_le _⟩)⟩ bQ bT ?_
 rintro ⟨d,a,e⟩ ⟨l,hR,b,n⟩
 have:=bR.le b
 refine bN rfl (bO 1 8 rfl ?_)
 refine ie (A5 (X7 rfl (fun i=>?_) (fun i=>?_)))
 ·have h:=bU i
  rw [A1f 0 (show e<s.length by omega)] at hR;replace hR:=(A5i.eq_2 ..).symm.trans hR
  refine A4 (nx (A5 (B2 (bN rfl (bO 2 4 rfl (ie (A0 9 rfl (pp3 3 10 11 12 rfl (ix rfl (B9a (T:=9) Tryz.underlying9 rfl rfl rfl e rfl opx) (ix rfl (B2l (c:=((s.getD e 0).toNat:Int)) Tryz.underlying3 oki rfl rfl (B0c (s.getD e 0))) (bY 1 3 [] [(15,ag (C0 ({Cel.zero with base:=((s.getD e 0).toNat:Int)})))] (it rfl (C1 (c:=C0) (xs:=([{Cel.zero with base:=((s.getD e 0).toNat:Int)}]:List Cel)) W9 rfl rfl rfl oki) fun m=>?_))))))))))))
  have:([{Cel.zero with base:=((s.getD e 0).toNat:Int)}]:List Cel).length=1:=rfl
  refine it rfl (A0f (f:=C0) (r:=a) (xs:=d) (ys:=([{Cel.zero with base:=((s.getD e 0).toNat:Int)}]:List Cel)) (pre:=[]) (post:=[]) C9d (fun _=>rfl) (fun _=>rfl) rfl rfl rfl rfl rfl rfl rfl rfl rfl (B8 0 rfl) b ofv ofv) fun ⟨j,g⟩=>?_
  have:=bR.le g
  have:=bR.cap g
  refine bO 1 3 rfl (A3 (nx (A0 2 rfl (ix rfl (B4 rfl rfl rfl rfl opx) (bO 1 7 rfl (A3 ?_))))))
  exact A0d (z1:=(d,a,e)) ((d++([{Cel.zero with base:=((s.getD e 0).toNat:Int)}]:List Cel)),j,e+1) ⟨opx,hR,g,ozq⟩ olr bQ bT
 have h:=bU i
 rw [A2g h] at hR;replace hR:=(A5i.eq_1 ..).symm.trans hR
 refine G6 (nx (bN rfl (bO 2 2 rfl ?_)))
 subst hR
 refine ie (A8 ?_)
 exact cD hr hD (N4 rfl (B0 rfl)) ⟨a,b⟩ bQ bT
def A6z (b:List Act):List Act→Nat→Bool
 | [],i=>true
 | hd_l0::tl_l0,i=>(bif (!(decide (hd_l0=(b.getD i Act.zero)))) then false else A6z b tl_l0 (i+1))
def A9m (a:List Act) (b:List Act):Bool :=
 (bif (!decide ((a.length:Int)=(b.length:Int))) then false else A6z b a 0)
theorem C3n {a b:List Act} {aq:Option Addr} {ak:Nat} {bq:Option Addr} {bk:Nat} {R:Bool} (hR:A9m a b=R) (m:a.length≤9223372036854775807:=by exact bP) (o:a.length≤ak:=by exact bP) (l:b.length≤9223372036854775807:=by exact bP) (h:b.length≤bk:=by exact bP):J5 Tryz.prog 12 [.slice aq a.length ak,.slice bq b.length bk] [sl A1 aq a,sl A1 bq b] (bv R):=by
 refine bZ Tryz.func12 fun X hX hr hD=>?_
 replace hR:=(A9m.eq_1 ..).symm.trans hR
 refine bN rfl (pp0 1 rfl (ie (A5 (bN rfl (bO 5 10 rfl (ie ?_))))))
 refine zjn rfl hR ?_ ?_<;>clear hR<;>intro hR s n
 ·refine bN rfl (bO 1 4 rfl ?_)
  subst hR
  refine ie (A8 ?_)
  exact G0 hr hD
 refine A4 (nx (A5 (bN rfl (bO 1 5 rfl (ie (B2 (A4v (fun (i:Nat)=>(i≤a.length∧A6z b (a.drop i) i=R,[(0,.slice aq a.length ak),(1,.slice bq b.length bk),(5,iv (i:Int))],[],[sl A1 aq a,sl A1 bq b],a.length - i)) 0 ⟨opx,hR⟩ bQ A9.refl ?_)))))))
 rintro i ⟨j,hR⟩
 refine A5 (bN rfl (bO 4 14 rfl ?_))
 refine ie (X7 rfl (fun g=>?_) (fun g=>?_))
 ·have f:=bU g
  rw [A1f Act.zero (show i<a.length by omega)] at hR;replace hR:=(A6z.eq_2 ..).symm.trans hR
  refine A4 (nx (A5 (B2 (sd 9 rfl oki rfl (pd2 2 17 18 rfl ?_)))))
  refine C0e 0 rfl opx fun p e=>?_
  refine dd rfl (H9 A2p rfl rfl e rfl i rfl opx) (dd rfl (K5 (us:=A1 (a.getD i Act.zero)) B7m rfl rfl (K2 (c:=A1) (sz:=6) e (fun _=>rfl) 0 rfl (gd Act.zero opx)) rfl) (pd2 2 21 22 rfl ?_))
  refine C0e 1 rfl opx fun r d=>?_
  refine dd rfl (H9 A2p rfl rfl d rfl i rfl opx) (dd rfl (K5 (us:=A1 (b.getD i Act.zero)) B7m rfl rfl (K2 (c:=A1) (sz:=6) d (fun _=>rfl) 1 rfl (gd Act.zero opx)) rfl) (dd rfl (X1 (a:=(a.getD i Act.zero)) (b:=(b.getD i Act.zero)) E8a rfl rfl rfl) (de ?_)))
  refine zjn rfl hR ?_ ?_<;>clear hR<;>intro hR q k
  ·refine bN rfl (bO 1 4 rfl ?_)
   subst hR
   refine ie (A8 ?_)
   exact G0 hr hD
  refine A4 (nx (A0 3 rfl (bO 1 15 rfl (ix rfl (B4 rfl rfl rfl rfl opx) (bO 1 5 rfl (A3 ?_))))))
  exact A0d (z1:=i) (i+1) ⟨opx,hR⟩ olr bQ A9.refl
 have f:=bU g
 rw [A2g f] at hR;replace hR:=(A6z.eq_1 ..).symm.trans hR
 refine G6 (nx (bN rfl (bO 1 4 rfl ?_)))
 subst hR
 refine ie (A8 ?_)
 exact G0 hr hD
def B0e:Bool :=
 (C2 (B0n ([97,98]:List UInt8)) fun (f:List Cel)=>(C2 (F7 f 0 2 Sty.zero) fun (a:List Act×Sty×Int×Int)=>(C2 (B0n ([120,32,32,32,32,32,32,32,32,32]:List UInt8)) fun (d:List Cel)=>(C2 (F7 d 0 10 Sty.zero) fun (b:List Act×Sty×Int×Int)=>(C2 (B0n ([97,98]:List UInt8)) fun (e:List Cel)=>(C2 (F7 e 0 3 Sty.zero) fun (c:List Act×Sty×Int×Int)=>(((((((decide (a.2.2.2=0))&&(decide (a.2.2.1=2)))&&(A9m a.1 ([{Act.zero with kind:=1,n:=97},{Act.zero with kind:=1,n:=98}]:List Act)))&&(decide (b.2.2.2=0)))&&(decide (b.2.2.1=1)))&&(A9m b.1 ([{Act.zero with kind:=1,n:=120},{Act.zero with kind:=30,n:=9}]:List Act)))&&(decide (c.2.2.2=2)))))))))
theorem D2g (R:Bool) (hR:B0e=R):J5 Tryz.prog 4 [] [P6,P7,O0,M9,K6,P4] (bv R):=by
 refine bZ Tryz.func4 fun X hX hr hD=>?_
 replace hR:=(B0e.eq_1 ..).symm.trans hR
 refine bN rfl (pp0 1 rfl (ie (bN rfl ?_)))
 have g:=C9 hR;clear hR;obtain ⟨y1,ac,hR⟩:=g
 refine zc rfl (B5e ([97,98]:List UInt8) (by first|omega|decide) y1 ac) fun ⟨r1,s⟩=>?_
 have:=bR.le s
 have:=bR.cap s
 refine A3t [] [] (T:=37) (c:=C0) (r:=r1) (xs:=y1) s opv ?_
 refine bY 1 11 [] [(15,ag (B3 Sty.zero))] ?_
 have g:=C9 hR;clear hR;obtain ⟨d,x,hR⟩:=g
 refine zc rfl (B2g x) fun ⟨p,i⟩=>?_
 have:=bR.le i
 have:=bR.cap i
 have:=A9x y1 0 2 Sty.zero;try rw [x] at this
 obtain ⟨_,_,_⟩:=this
 refine A3t [] [] (T:=60) (c:=A1) (r:=p) (xs:=d.1) i opv ?_
 refine zra 10 [0] (fun u=>[(1,.slice (va p.q) d.1.length p.k),(3,iv d.2.2.1),(4,iv d.2.2.2)]) (fun _=>(B3 d.2.1)) 26 fun u=>?_
 refine ie (bN rfl ?_)
 have g:=C9 hR;clear hR;obtain ⟨y4,a9,hR⟩:=g
 refine zc rfl (B5e ([120,32,32,32,32,32,32,32,32,32]:List UInt8) (by first|omega|decide) y4 a9) fun ⟨r6,m⟩=>?_
 have:=bR.le m
 have:=bR.cap m
 refine A3t [bx u (B3 d.2.1) 26] [] (T:=37) (c:=C0) (r:=r6) (xs:=y4) m opv ?_
 refine bY 1 11 [] [(23,ag (B3 Sty.zero))] ?_
 have g:=C9 hR;clear hR;obtain ⟨e,y,hR⟩:=g
 refine zc rfl (B2g y) fun ⟨l,j⟩=>?_
 have:=bR.le j
 have:=bR.cap j
 have:=A9x y4 0 10 Sty.zero;try rw [y] at this
 obtain ⟨_,_,_⟩:=this
 refine A3t [bx u (B3 d.2.1) 26] [] (T:=60) (c:=A1) (r:=l) (xs:=e.1) j opv ?_
 refine zra 10 [0] (fun o=>[(5,.slice (va l.q) e.1.length l.k),(7,iv e.2.2.1),(8,iv e.2.2.2)]) (fun _=>(B3 e.2.1)) 26 fun o=>?_
 refine ie (bN rfl ?_)
 have g:=C9 hR;clear hR;obtain ⟨y5,ae,hR⟩:=g
 refine zc rfl (B5e ([97,98]:List UInt8) (by first|omega|decide) y5 ae) fun ⟨a5,h⟩=>?_
 have:=bR.le h
 have:=bR.cap h
 refine A3t [bx o (B3 e.2.1) 26,bx u (B3 d.2.1) 26] [] (T:=37) (c:=C0) (r:=a5) (xs:=y5) h opv ?_
 refine bY 1 11 [] [(31,ag (B3 Sty.zero))] ?_
 have g:=C9 hR;clear hR;obtain ⟨y3,w,hR⟩:=g
 refine zc rfl (B2g w) fun ⟨a4,f⟩=>?_
 have:=bR.le f
 have:=bR.cap f
 have:=A9x y5 0 3 Sty.zero;try rw [w] at this
 obtain ⟨_,_,_⟩:=this
 refine A3t [bx o (B3 e.2.1) 26,bx u (B3 d.2.1) 26] [] (T:=60) (c:=A1) (r:=a4) (xs:=y3.1) f opv ?_
 refine zra 10 [0] (fun a6=>[(12,iv y3.2.2.2)]) (fun _=>(B3 y3.2.1)) 26 fun a6=>?_
 refine ie (bN rfl (bO 3 39 rfl ?_))
 refine zid 3 27 39 42 (decide (d.2.2.1=2)) (fun a7 aj=>?_) ?_
 ·refine bO 3 42 rfl ?_
  exact zai 2 39 42 a7
 refine bO 1 43 rfl ?_
 refine zia 6 20 43 49 (A9m d.1 ([{Act.zero with kind:=1,n:=97},{Act.zero with kind:=1,n:=98}]:List Act)) (fun v=>?_) ?_
 ·have af:=bU v
  refine bY 3 3 [] [(44,.slice (va p.q) d.1.length p.k),(45,ag (A1 ({Act.zero with kind:=1,n:=97}))),(46,ag (A1 ({Act.zero with kind:=1,n:=98})))] (it rfl (C1 (c:=A1) (xs:=([{Act.zero with kind:=1,n:=97},{Act.zero with kind:=1,n:=98}]:List Act)) A2p rfl rfl rfl oki) fun aa=>?_)
  have:([{Act.zero with kind:=1,n:=97},{Act.zero with kind:=1,n:=98}]:List Act).length=2:=rfl
  refine zv rfl (C3n (a:=d.1) (b:=([{Act.zero with kind:=1,n:=97},{Act.zero with kind:=1,n:=98}]:List Act)) (aq:=(va p.q)) (ak:=p.k) (bq:=(some ⟨aa,0,none⟩)) (bk:=2) rfl) (bO 1 49 rfl ?_)
  exact A3 (O6 7 43 49 v c9 bQ rfl rfl rfl rfl rfl)
 refine bO 1 50 rfl ?_
 refine zia 3 16 50 53 (decide (e.2.2.2=0)) (fun a0=>?_) ?_
 ·have ai:=bU a0
  refine bO 3 53 rfl ?_
  exact zai 2 50 53 a0
 refine bO 1 54 rfl ?_
 refine zia 3 12 54 57 (decide (e.2.2.1=1)) (fun t=>?_) ?_
 ·have am:=bU t
  refine bO 3 57 rfl ?_
  exact zai 2 54 57 t
 refine bO 1 58 rfl ?_
 refine zia 6 5 58 64 (A9m e.1 ([{Act.zero with kind:=1,n:=120},{Act.zero with kind:=30,n:=9}]:List Act)) (fun a1=>?_) ?_
 ·have al:=bU a1
  refine bY 3 3 [] [(59,.slice (va l.q) e.1.length l.k),(60,ag (A1 ({Act.zero with kind:=1,n:=120}))),(61,ag (A1 ({Act.zero with kind:=30,n:=9})))] (it rfl (C1 (c:=A1) (xs:=([{Act.zero with kind:=1,n:=120},{Act.zero with kind:=30,n:=9}]:List Act)) A2p rfl rfl rfl oki) fun ab=>?_)
  have:([{Act.zero with kind:=1,n:=120},{Act.zero with kind:=30,n:=9}]:List Act).length=2:=rfl
  refine zv rfl (C3n (a:=e.1) (b:=([{Act.zero with kind:=1,n:=120},{Act.zero with kind:=30,n:=9}]:List Act)) (aq:=(va l.q)) (ak:=l.k) (bq:=(some ⟨ab,0,none⟩)) (bk:=2) rfl) (bO 1 64 rfl ?_)
  exact A3 (O6 7 58 64 a1 c9 bQ rfl rfl rfl rfl rfl)
 refine bO 1 65 rfl ?_
 refine zia 3 1 65 68 (decide (y3.2.2.2=2)) (fun z=>?_) ?_
 ·have ah:=bU z
  refine bO 3 68 rfl ?_
  exact zai 2 65 68 z
 refine bO 1 0 rfl ?_
 subst hR
 refine ie (A8 ?_)
 exact G0 hr hD
end Go.Proofs.YtfcdnnheppnbaaaGreatDoor
