import Derived.Test.YtgimbmncdmnklaaGreatDoorProg
import Derived.Test.YtgimbmncdmnklaaGreatDoorMA2
import Derived.Test.YtgimbmncdmnklaaGreatDoorMB1
import Derived.Test.YtgimbmncdmnklaaGreatDoorMA3
import Derived.Test.YtgimbmncdmnklaaGreatDoorMB2
import Derived.Test.YtgimbmncdmnklaaGreatDoorMB3
import Derived.Test.YtgimbmncdmnklaaGreatDoorMQ1
set_option linter.unusedVariables false
set_option linter.unusedSimpArgs false
set_option linter.unnecessarySimpa false
set_option maxRecDepth 100000
namespace Go.Proofs.YtgimbmncdmnklaaGreatDoor
open Go Go.Fen
@[reducible] def aI (s:Sty) (r:VR) (l:List Act) (p:Int):List Value := aD s [.slice (va r.q) l.length r.k,iv p]
@[reducible] def aF:List Value := [.slice none 0 0,iv 0,iv 0,iv 0,iv 0,iv 0,iv 0,iv 0,iv 0,iv 0]
theorem B3x:Ty Tryz.prog 70 1 false:=⟨by kernel_rfl⟩
theorem E6x:Ty Tryz.prog 193 1 false:=⟨by kernel_rfl⟩
theorem F4t:Ty Tryz.prog 202 15 true:=⟨by kernel_rfl⟩
theorem B9w:Ty Tryz.prog 259 10 true:=⟨by kernel_rfl⟩
theorem E6f:Ty Tryz.prog 262 1 true:=⟨by kernel_rfl⟩
theorem E9a:Zero Tryz.prog 202 (F5 Prn.zero):=⟨by kernel_rfl⟩
def X6 (c1:Int) (c2:List Cel) (a:Int→List Prn):Nat→Prn→List Prn
 | 0,_=>[]
 | fu3+1,r=>(bif ((decide (r.til<c1))&&(decide ((c2.getD ((r.til).toNat) Cel.zero)=r.sign))) then X6 c1 c2 a fu3 ({r with many:=(IntKind.i64.wrap (r.many+(1:Int))),til:=(IntKind.i64.wrap (r.til+(IntKind.i64.wrap ((1:Int)+r.sign.wide))))}) else (r::a r.til))
def X4 (c1:Int) (c2:List Cel):Nat→Int→List Prn
 | 0,_=>[]
 | fu1+1,t1=>(bif (decide (t1<c1)) then X6 c1 c2 (X4 c1 c2 fu1) ((c1 - ({Prn.zero with sign:=(c2.getD ((t1).toNat) Cel.zero),at_:=t1,til:=t1}).til).toNat+1) ({Prn.zero with sign:=(c2.getD ((t1).toNat) Cel.zero),at_:=t1,til:=t1}) else [])
def X5 (c0:Int) (c1:Int) (c2:List Cel):List Prn :=
 X4 c1 c2 ((c1 - c0).toNat+1) c0
theorem B3v (c1:Int) (c2:List Cel) (ag:Int→List Prn) (e:∀ c ∈ c2,0≤c.wide∧c.wide≤2) (k:c1≤c2.length) (i:c2.length≤80) (b:∀ t,0≤t→((ag t).length:Int)≤max 0 (c1 - t)∧∀ x ∈ ag t,0≤x.many∧x.many≤100):∀ (fu:Nat) (r:Prn),0≤r.til→r.til≤90→0≤r.many→r.many≤r.til→((X6 c1 c2 ag fu r).length:Int)≤1+max 0 (c1 - r.til)∧∀ x ∈ X6 c1 c2 ag fu r,0≤x.many∧x.many≤100
 | 0,r,_,_,_,_=>by
  rw [X6]
  exact ⟨by rw [List.length_nil];omega,fun x d=>by cases d⟩
 | fu+1,r,h0,h9,hm,hmt=>by
  rw [X6]
  by_cases h:r.til<c1∧c2.getD r.til.toNat Cel.zero=r.sign
  ·rw [decide_eq_true h.1,decide_eq_true h.2,Bool.and_self,cond_true]
   have a:r.til.toNat<c2.length:=by omega
   have f:=h.2
   rw [gdE a] at f
   have w:=e _ (List.getElem_mem a)
   rw [f] at w
   rw [wr6 (x:=1+r.sign.wide) opx,wr6 (x:=r.many+1) opx,wr6 (x:=r.til+(1+r.sign.wide)) opx]
   have g:=B3v c1 c2 ag e k i b fu {r with many:=r.many+1,til:=r.til+(1+r.sign.wide)} (by show 0≤r.til+(1+r.sign.wide);omega) (by show r.til+(1+r.sign.wide)≤90;omega) (by show 0≤r.many+1;omega) (by show r.many+1≤r.til+(1+r.sign.wide);omega)
   refine ⟨?_,g.2⟩
   have:=g.1
   simp only at this
   omega
  ·rw [show (decide (r.til<c1)&&decide (c2.getD r.til.toNat Cel.zero=r.sign))=false by simp only [Bool.and_eq_false_iff,decide_eq_false_iff_not];exact Decidable.not_and_iff_or_not.1 h,cond_false]
   obtain ⟨l,j⟩:=b r.til h0
   refine ⟨by rw [List.length_cons];omega,fun x d=>?_⟩
   rcases List.mem_cons.1 d with rfl | d
   ·omega
   ·exact j x d
theorem B4e (c1:Int) (c2:List Cel) (b:∀ c ∈ c2,0≤c.wide∧c.wide≤2) (g:c1≤c2.length) (e:c2.length≤80):∀ (fu:Nat) (t:Int),0≤t→((X4 c1 c2 fu t).length:Int)≤max 0 (c1 - t)∧∀ x ∈ X4 c1 c2 fu t,0≤x.many∧x.many≤100
 | 0,t,_=>by
  rw [X4]
  exact ⟨by rw [List.length_nil];omega,fun x d=>by cases d⟩
 | fu+1,t,h0=>by
  rw [X4]
  by_cases h:t<c1
  ·rw [decide_eq_true h,cond_true,X6]
   have a:t.toNat<c2.length:=by omega
   have w:=b _ (List.getElem_mem a)
   have j:c2.getD t.toNat Cel.zero=c2[t.toNat]:=gdE a
   rw [← j] at w
   simp only [decide_eq_true h,decide_true,Bool.and_self,cond_true]
   rw [wr6 (x:=1+(c2.getD t.toNat Cel.zero).wide) opx,wr6 (x:=Prn.zero.many+1) (by show -1000000≤(0:Int)+1∧(0:Int)+1≤1000000;omega),wr6 (x:=t+(1+(c2.getD t.toNat Cel.zero).wide)) opx]
   have f:=B3v c1 c2 _ b g e (fun t i=>B4e c1 c2 b g e fu t i) ((c1 - t).toNat) {Prn.zero with sign:=c2.getD t.toNat Cel.zero,many:=Prn.zero.many+1,at_:=t,til:=t+(1+(c2.getD t.toNat Cel.zero).wide)} (by show 0≤t+(1+(c2.getD t.toNat Cel.zero).wide);omega) (by show t+(1+(c2.getD t.toNat Cel.zero).wide)≤90;omega) (by show (0:Int)≤0+1;omega) (by show (0:Int)+1≤t+(1+(c2.getD t.toNat Cel.zero).wide);omega)
   refine ⟨?_,f.2⟩
   have:=f.1
   simp only at this
   omega
  ·rw [decide_eq_false h,cond_false]
   exact ⟨by rw [List.length_nil];omega,fun x d=>by cases d⟩
theorem B2l {c0 c1:Int} {c2:List Cel} (h:(∀ c ∈ c2,0≤c.wide∧c.wide≤2)∧c2.length≤80∧0≤c0∧c1≤c2.length):(X5 c0 c1 c2).length≤80∧∀ x ∈ X5 c0 c1 c2,0≤x.many∧x.many≤100:=by
 have:=B4e c1 c2 h.1 h.2.2.2 h.2.1 ((c1 - c0).toNat+1) c0 h.2.2.1
 unfold X5
 exact ⟨by have:=this.1;omega,this.2⟩
theorem D1v (c0:Int) (c1:Int) (c2:List Cel) (d:Nat) (k:Addr) (o:Addr) (g:Option Addr) (h:Nat) (a4:c2.length≤9223372036854775807) (a5:c2.length≤h) (hv:(∀ c ∈ c2,0≤c.wide∧c.wide≤2)∧c2.length≤80∧0≤c0∧c1≤c2.length) (R:List Prn) (hR:X5 c0 c1 c2=R):D0p Tryz.prog 162 [pt d 0,pa k,pa o] [bx d [iv c0] 3] [at_ k [iv c1],sl D8 g c2,at_ o [.slice g c2.length h]] (fun x=>ag (F5 x)) R:=by
 refine E1n _ (n:=48) Tryz.func162 rfl oki rfl rfl (fun l=>[(0,_),(1,_),(2,_),(3,_)]) (fun l=>⟨rfl,rfl,rfl,rfl,trivial⟩) fun X l I Ix L Φ hX hr hD hI0 hY=>?_
 replace hR:=(X5.eq_1 ..).symm.trans hR
 refine A9 ?_
 refine F2w (fun fu f R_ Lt Ft=>((c1 - f).toNat<fu∧X4 _ _ fu f=R_∧I R_ Lt Ft∧0≤f,[(0,_),(1,_),(2,_),(3,_)],(bx d [iv f] 3::(Lt++([]))),(at_ k _::sl _ g _::at_ o _::Ft),fu)) _ _ R L _ ⟨(Nat.lt_succ_self _),hR,hI0,opx⟩ (mc [_,L] [true,true] rfl oxs) (A7.con1 (A5 0 rfl) (A7.con1 (A5 1 rfl) (A7.con1 (A5 2 rfl) (A7.dropT 3 rfl)))) ?_
 rintro fu f R_ Lt Ft ⟨ac,hR,w,ht⟩
 obtain ⟨fu1,rfl⟩:∃ m,fu=m+1:=⟨fu - 1,by omega⟩
 replace hR:=(X4.eq_2 ..).symm.trans hR
 refine A3 (sr 3 rfl (c9 1 2 [0] [(6,iv f)] ?_))
 refine ix rfl (C9 cH rfl rfl (A5 0 rfl) rfl) (ip' 1 0 [(8,bv (decide (f<c1)))] (ie ?_))
 refine zjd rfl hR ?_ ?_<;>clear hR<;>intro hR h2 a8
 ·refine A4 (nx (A9 ?_))
  refine sh 9 [(9,[bx d [iv f] 3]),(9,Lt)] (at_ k _::sl _ g _::at_ o _::Ft) _ (cA 9 0) oki rfl oki oki oki (mc [[_],_] [true,true] rfl oxs) A7.refl ?_
  refine zhk 0 (cA 9 1) rfl (C9 B3x rfl rfl (A5 2 rfl) rfl) (zhl 1 (bx d [_] 3::(Lt++([]))) (cA 9 3) rfl (C1 (v:=iv f) cH rfl rfl 0 rfl rfl) ?_)
  refine B7w 1 rfl opx fun a3 s=>?_
  refine zhk 2 (cA 9 7) rfl (F8 A1g rfl rfl s rfl _ opx opx) (zhk 3 (cA 9 15) rfl (K3 (us:=D8 (c2.getD ((f).toNat) _)) D2l rfl rfl (H2 (sz:=12) s (fun _=>rfl) 1 rfl (gd Cel.zero opx)) rfl) (zhl 4 (bx d [_] 3::(Lt++([]))) (cA 9 31) rfl (C1 (v:=iv f) cH rfl rfl 0 rfl rfl) ?_))
  refine zhl 5 (bx d [_] 3::(Lt++([]))) (cA 9 63) rfl (C1 (v:=iv f) cH rfl rfl 0 rfl rfl) ?_
  refine zhk 6 (cA 9 127) rfl (A1h (cs:=F5 ({Prn.zero with sign:=(c2.getD ((f).toNat) Cel.zero),at_:=f,til:=f})) rfl rfl oki) ?_
  refine zho 7 _ (cA 9 255) rfl (A5z E9a rfl) (fun j=>(mc [[_],[_],_] [false,true,true] rfl oxs)) (fun j=>A7.refl) fun j=>?_
  refine zho 8 (bx d [iv f] 3::(Lt++([]))) (cA 9 511) rfl (P4 (us:=F5 ({Prn.zero with sign:=(c2.getD ((f).toNat) Cel.zero),at_:=f,til:=f})) (cs':=F5 ({Prn.zero with sign:=(c2.getD ((f).toNat) Cel.zero),at_:=f,til:=f})) F4t rfl rfl rfl 0 rfl rfl rfl rfl rfl rfl) (fun _=>(mc [[bx j (F5 ({Prn.zero with sign:=(c2.getD ((f).toNat) Cel.zero),at_:=f,til:=f})) 202],[bx d [iv f] 3],Lt] [false,true,true] rfl oxs)) (fun _=>A7.refl) fun _=>?_
  refine B4u oki ?_
  refine A3 (A9 ?_)
  refine F2w (fun t r R_1 Lt1 Ft1=>((c1 - r.til).toNat<t∧X6 _ _ _ t r=R_1∧I R_1 Lt1 Ft1∧(0≤r.til∧r.til≤90∧0≤r.many∧r.many≤r.til)∧((r.til=f→c2.getD _ _=r.sign)∧f≤r.til),[(0,_),(1,_),(2,_),(3,_),(5,pt j 0)],(bx j (F5 r) _::bx d _ 3::(Lt1++([]))),(at_ k _::sl _ g _::at_ o _::Ft1),t)) _ _ _ _ _ ⟨(Nat.lt_succ_self _),hR,w,(by show 0≤f∧f≤90∧(0:Int)≤0∧(0:Int)≤f;omega),(by exact ⟨fun _=>rfl,Int.le_refl _⟩)⟩ (mc [[_],[_],_] [true,true,true] rfl oxs) (A7.con1 (A5 0 rfl) (A7.con1 (A5 1 rfl) (A7.con1 (A5 2 rfl) (A7.dropT 3 rfl)))) ?_
  rintro t r R_1 Lt1 Ft1 ⟨a7,hR,p,a2,a1⟩
  obtain ⟨fu3,rfl⟩:∃ m,t=m+1:=⟨t - 1,by omega⟩
  replace hR:=(X6.eq_2 ..).symm.trans hR
  refine A3 (sd 14 rfl oki rfl ?_)
  refine zdg 2 12 [0] [(17,iv r.til)] ?_
  refine dd rfl (C9 cH rfl rfl (A5 0 rfl) rfl) (dp' 2 9 [(20,bv (decide (r.til<c1)))] ?_)
  refine zdd 9 0 20 29 (decide ((c2.getD ((r.til).toNat) Cel.zero)=r.sign)) (fun g7 a6=>?_) ?_
  ·refine dd rfl (C9 B3x rfl rfl (A5 2 rfl) rfl) ?_
   refine zdg 2 6 [0] [(23,iv r.til)] ?_
   refine dd rfl (F8 A1g rfl rfl s rfl _ opx opx) (dd rfl (K3 (us:=D8 (c2.getD ((r.til).toNat) _)) D2l rfl rfl (H2 (sz:=12) s (fun _=>rfl) 1 rfl (gd Cel.zero opx)) rfl) ?_)
   refine zdg 2 2 [0] [(27,ag (D8 r.sign))] ?_
   refine dd rfl (A9u E2q rfl rfl rfl) (dp' 1 0 [(29,bv (decide ((c2.getD ((r.til).toNat) Cel.zero)=r.sign)))] ?_)
   exact zad 8 20 _ g7
  refine de ?_
  refine zja rfl hR ?_ ?_<;>clear hR<;>intro hR h8 a0
  ·have af:=E8t hv a0 a2.1
   have ad:IntKind.i64.wrap (r.til+IntKind.i64.wrap (1+r.sign.wide))=r.til+(1+r.sign.wide):=by rw [wr6 (x:=1+r.sign.wide) opx,wr6 opx]
   have a9:IntKind.i64.wrap (r.many+1)=r.many+1:=wr6 opx
   refine A4 (nx (A9 (sr 5 rfl (c9 2 3 [0] [(31,iv r.many)] (ix rfl (J9.pure rfl) (zrg 2 0 [0] [] (bx j (F5 ({r with many:=(IntKind.i64.wrap (r.many+1))})) 202::bx d [iv f] 3::(Lt1++([]))) (ie (A1 9 rfl (c9 5 4 [0,0] [(35,iv r.til),(38,iv r.sign.wide)] (ix rfl (J9.pure rfl) (ix rfl (J9.pure rfl) (zrg 2 0 [0] [] (bx j (F5 ({r with many:=(IntKind.i64.wrap (r.many+1)),til:=(IntKind.i64.wrap (r.til+(IntKind.i64.wrap (1+r.sign.wide))))})) 202::bx d [iv f] 3::(Lt1++([]))) ?_))))))))))))
   refine A2 ?_
   exact E9d _ _ _ _ _ ⟨otw,hR,p,otw,(by exact ⟨fun e=>by dsimp only at e;omega,by dsimp only;omega⟩)⟩ (Nat.lt_succ_self _) (mc [[_],[_],_] [true,true,true] rfl oxs) (A7.con1 (A5 0 rfl) (A7.con1 (A5 1 rfl) (A7.con1 (A5 2 rfl) (A7.dropT 3 rfl))))
  have aa:f<r.til:=Int.lt_iff_le_and_ne.2 ⟨a1.2,fun e=>a0 ⟨by omega,by rw [← e];exact a1.1 e.symm⟩⟩
  refine F4 (nx (A3 (sr 4 rfl (c9 2 2 [0] [(42,.func (.yield l) #[] #[]),(43,ag (F5 r))] ?_))))
  have q:=B8p hR;clear hR;obtain ⟨R9,hR,q⟩:=q;rw [q] at p
  refine it rfl (A4d (L2:=[bx j (F5 r) 202,bx d [iv f] 3]) (hY _ R9 _ _ p) rfl rfl rfl rfl (A7.dropT 3 rfl) (I1 [[bx j (F5 r) 202],[bx d [iv f] 3],Lt1] [2,0,1] 3 rfl ozw rfl [Lt1,[bx j (F5 r) 202],[bx d [iv f] 3]] rfl ooa)) fun ⟨⟨y,L11,Φ12⟩,i⟩=>?_
  refine A8l (A7.yield [_,_,_]) ?_
  refine C0i (L':=(bx j _ _::bx d _ 3::(L11++([])))) (I1 [_,[_],[_]] [1,2,0] 3 rfl ozw rfl _ rfl opv) ?_
  refine ip' 1 0 [(45,bv (!y))] ?_
  refine ie (G4 rfl (fun z=>?_) (fun z=>?_))
  ·have u:y=false:=by simpa using z
   rw [u] at i;try simp only [if_true,if_false,Bool.false_eq_true] at i
   refine A8 ?_
   exact B3k rfl ⟨hr,hD⟩ (by simp [hD]) (B0u rfl) (by exact .inr i) (mcT [[_],[_],_] 2 rfl rfl) (A7.dropT 3 rfl)
  ·have u:y=true:=by simpa using z
   rw [u] at i;try simp only [if_true,if_false,Bool.false_eq_true] at i
   refine A4 (nx (A1 3 rfl (zrg 3 0 [0,1] [] (bx j (F5 r) 202::bx d [iv r.til] 3::(L11++([]))) (A2 ?_))))
   exact E9d _ _ _ _ _ ⟨opx,hR,i,opx⟩ (Nat.lt_succ_self _) (mc [[_],[_],_] [false,true,true] rfl oxs) (A7.con1 (A5 0 rfl) (A7.con1 (A5 1 rfl) (A7.con1 (A5 2 rfl) (A7.dropT 3 rfl))))
 subst hR
 refine F4 ?_
 exact X9 rfl ⟨hr,hD⟩ (by simp [hD]) (B0u rfl) (by exact .inl w) (mcT [[_],_] 1 rfl rfl) (A7.dropT 3 rfl)
def A5d (l:List Act) (c:Cel):List Act :=
 (bif (!decide (c.marks.a=0)) then (bif (!decide (c.marks.b=0)) then (((l++([{Act.zero with kind:=1,n:=c.base}]:List Act))++([{Act.zero with kind:=1,n:=c.marks.a}]:List Act))++([{Act.zero with kind:=1,n:=c.marks.b}]:List Act)) else ((l++([{Act.zero with kind:=1,n:=c.base}]:List Act))++([{Act.zero with kind:=1,n:=c.marks.a}]:List Act))) else (bif (!decide (c.marks.b=0)) then ((l++([{Act.zero with kind:=1,n:=c.base}]:List Act))++([{Act.zero with kind:=1,n:=c.marks.b}]:List Act)) else (l++([{Act.zero with kind:=1,n:=c.base}]:List Act))))
theorem A8m (l:List Act) (c:Cel):(A5d l c).length≤l.length+3∧((∀ a ∈ l,tk a)→∀ a ∈ A5d l c,tk a):=by
 have b:∀ (l:List Act) (n:Int),(∀ a ∈ l,tk a)→∀ a ∈ l++([{Act.zero with kind:=1,n:=n}]:List Act),tk a:=fun l n h a d=>by
  rcases List.mem_append.1 d with d | d
  ·exact h a d
  ·rw [List.mem_singleton.1 d];exact ⟨Nat.zero_le _,(by show (1:Int)≤43;decide)⟩
 unfold A5d
 simp only [Bool.cond_eq_ite]
 repeat' split
 all_goals refine ⟨by simp only [List.length_append,List.length_cons,List.length_nil];omega,fun h=>?_⟩
 all_goals first|exact b _ _ (b _ _ (b _ _ h))|exact b _ _ (b _ _ h)|exact b _ _ h
theorem B9c {l:List Act} {c:Cel} {lr:VR} {R:List Act} (hR:A5d l c=R) (g:bT 6 l.length lr:=by exact bW) (hn:l.length≤1000000:=by exact bW):Con Tryz.prog 206 [.slice (va lr.q) l.length lr.k,ag (D8 c)] ((vo A0 54 lr l)++([])) [] ({r:VR // bT 6 R.length r}) (fun x=>.slice (va x.1.q) R.length x.1.k) (fun x=>((vo A0 54 x.1 R)++([]))) (fun x=>[]):=by
 refine cC Tryz.func206 fun X hX hr hD=>?_
 replace hR:=(A5d.eq_1 ..).symm.trans hR
 refine bS rfl (zra 2 [] (fun m=>[(3,pt m 0)]) (fun _=>(D8 c)) 73 fun m=>(ie (bS rfl (c9 4 3 [0] [(7,.slice (va lr.q) l.length lr.k),(10,ag (A0 ({Act.zero with kind:=1,n:=c.base})))] (it rfl (B1 (c:=A0) (xs:=[{Act.zero with kind:=1,n:=c.base}]) Q1 rfl rfl rfl oki) fun b2=>?_)))))
 have:([{Act.zero with kind:=1,n:=c.base}]:List Act).length=1:=rfl
 refine it rfl (S7 (f:=A0) (r:=lr) (xs:=l) (ys:=([{Act.zero with kind:=1,n:=c.base}]:List Act)) (pre:=[bx m (D8 c) 73]) (post:=[]) A4u (fun _=>rfl) (fun _=>rfl) rfl rfl rfl rfl rfl rfl rfl rfl rfl (A5 0 rfl) g ofv ofv) fun ⟨j,e⟩=>?_
 refine bP 1 0 rfl (ie (A3 (bS rfl (c9 3 0 [0] [(14,ag (A0r c.marks)),(15,iv 0)] (ie (A9 (Y9 4 ?_)))))))
 refine E7 (bS rfl (bP 1 16 rfl ?_))
 refine ie (A3 (J4 rfl (A4 (nx (A3 (A9 (bS rfl (ix rfl (E8 Tryz.underlying71 cH rfl rfl rfl 0 rfl ozw rfl rfl rfl) (bP 1 6 rfl (ie (bS rfl (bP 2 19 rfl (ie ?_)))))))))))))
 refine zjn rfl hR ?_ ?_<;>clear hR<;>intro hR h5 y
 ·refine A1 6 rfl (c9 3 3 [] [(20,.slice (va j.q) ((l++[{Act.zero with kind:=1,n:=c.base}]).length) j.k),(22,ag (A0 ({Act.zero with kind:=1,n:=c.marks.a})))] (it rfl (B1 (c:=A0) (xs:=[{Act.zero with kind:=1,n:=c.marks.a}]) Q1 rfl rfl rfl oki) fun b6=>?_))
  refine it rfl (S7 (f:=A0) (r:=j) (xs:=(l++([{Act.zero with kind:=1,n:=c.base}]:List Act))) (ys:=([{Act.zero with kind:=1,n:=c.marks.a}]:List Act)) (pre:=[bx m (D8 c) 73]) (post:=[]) A4u (fun _=>rfl) (fun _=>rfl) rfl rfl rfl rfl rfl rfl rfl rfl rfl (A5 0 rfl) e ofv ofv) fun ⟨o,i⟩=>?_
  refine bP 1 0 rfl (A2 (nx (A1 2 rfl (ix rfl (B3 (c:=1) rfl rfl rfl rfl ozw) (bP 1 15 rfl (A2 (E7 (bS rfl (bP 1 16 rfl (ie (A3 (J4 rfl (A4 (nx (A3 (A9 (bS rfl (ix rfl (E8 Tryz.underlying71 cH rfl rfl rfl 1 rfl ozw rfl rfl rfl) (bP 1 6 rfl (ie (bS rfl (bP 2 19 rfl ?_))))))))))))))))))))))
  refine ie ?_
  refine zjn rfl hR ?_ ?_<;>clear hR<;>intro hR h9 z
  ·refine A1 6 rfl (c9 3 3 [] [(20,.slice (va o.q) (((l++[{Act.zero with kind:=1,n:=c.base}])++[{Act.zero with kind:=1,n:=c.marks.a}]).length) o.k),(22,ag (A0 ({Act.zero with kind:=1,n:=c.marks.b})))] (it rfl (B1 (c:=A0) (xs:=[{Act.zero with kind:=1,n:=c.marks.b}]) Q1 rfl rfl rfl oki) fun w=>?_))
   refine it rfl (S7 (f:=A0) (r:=o) (xs:=((l++([{Act.zero with kind:=1,n:=c.base}]:List Act))++([{Act.zero with kind:=1,n:=c.marks.a}]:List Act))) (ys:=([{Act.zero with kind:=1,n:=c.marks.b}]:List Act)) (pre:=[bx m (D8 c) 73]) (post:=[]) A4u (fun _=>rfl) (fun _=>rfl) rfl rfl rfl rfl rfl rfl rfl rfl rfl (A5 0 rfl) i ofv ofv) fun ⟨s,d⟩=>?_
   refine bP 1 0 rfl (A2 (nx (A1 2 rfl (ix rfl (B3 (c:=2) rfl rfl rfl rfl ozw) (bP 1 15 rfl (A2 (E7 (bS rfl (bP 1 16 rfl (ie (A3 (A4r rfl (F4 (nx (bS rfl (bP 2 4 rfl ?_))))))))))))))))
   subst hR
   refine ie (A8 ?_)
   exact cD hr hD (K7 rfl (A6 rfl)) _ bU bX
  refine A4 (nx (A1 2 rfl (ix rfl (B3 (c:=2) rfl rfl rfl rfl ozw) (bP 1 15 rfl (A2 (E7 (bS rfl (bP 1 16 rfl (ie (A3 (A4r rfl (F4 (nx (bS rfl (bP 2 4 rfl ?_)))))))))))))))
  subst hR
  refine ie (A8 ?_)
  exact cD hr hD (K7 rfl (A6 rfl)) _ bU bX
 refine A4 (nx (A1 2 rfl (ix rfl (B3 (c:=1) rfl rfl rfl rfl ozw) (bP 1 15 rfl (A2 (E7 (bS rfl (bP 1 16 rfl (ie (A3 (J4 rfl (A4 (nx (A3 (A9 (bS rfl (ix rfl (E8 Tryz.underlying71 cH rfl rfl rfl 1 rfl ozw rfl rfl rfl) (bP 1 6 rfl (ie (bS rfl (bP 2 19 rfl (ie ?_))))))))))))))))))))))
 refine zjn rfl hR ?_ ?_<;>clear hR<;>intro hR v t
 ·refine A1 6 rfl (c9 3 3 [] [(20,.slice (va j.q) ((l++[{Act.zero with kind:=1,n:=c.base}]).length) j.k),(22,ag (A0 ({Act.zero with kind:=1,n:=c.marks.b})))] (it rfl (B1 (c:=A0) (xs:=[{Act.zero with kind:=1,n:=c.marks.b}]) Q1 rfl rfl rfl oki) fun u=>?_))
  refine it rfl (S7 (f:=A0) (r:=j) (xs:=(l++([{Act.zero with kind:=1,n:=c.base}]:List Act))) (ys:=([{Act.zero with kind:=1,n:=c.marks.b}]:List Act)) (pre:=[bx m (D8 c) 73]) (post:=[]) A4u (fun _=>rfl) (fun _=>rfl) rfl rfl rfl rfl rfl rfl rfl rfl rfl (A5 0 rfl) e ofv ofv) fun ⟨p,h⟩=>?_
  refine bP 1 0 rfl (A2 (nx (A1 2 rfl (ix rfl (B3 (c:=2) rfl rfl rfl rfl ozw) (bP 1 15 rfl (A2 (E7 (bS rfl (bP 1 16 rfl (ie (A3 (A4r rfl (F4 (nx (bS rfl (bP 2 4 rfl ?_))))))))))))))))
  subst hR
  refine ie (A8 ?_)
  exact cD hr hD (K7 rfl (A6 rfl)) _ bU bX
 refine A4 (nx (A1 2 rfl (ix rfl (B3 (c:=2) rfl rfl rfl rfl ozw) (bP 1 15 rfl (A2 (E7 (bS rfl (bP 1 16 rfl (ie (A3 (A4r rfl (F4 (nx (bS rfl (bP 2 4 rfl ?_)))))))))))))))
 subst hR
 refine ie (A8 ?_)
 exact cD hr hD (K7 rfl (A6 rfl)) _ bU bX
def B7 (aJ:Sty) (pl:List Act) (pat:Int) (to_:Sty):List Act :=
 (B6 (A9d aJ to_) fun (a:List Act×Int)=>a.1)
theorem Q0 (aJ:Sty) (pl:List Act) (pat:Int) (to_:Sty):(B7 aJ pl pat to_).length≤22∧(∀ a ∈ B7 aJ pl pat to_,a.kind=39∧a.text=[])∧∀ a ∈ B7 aJ pl pat to_,tk a:=by
 unfold B7 B6
 exact ⟨B1o _ _,A8e _ _,fun a b=>⟨by rw [(A8e _ _ a b).2];exact Nat.zero_le _,by rw [(A8e _ _ a b).1];decide⟩⟩
theorem D5g {l:List Act} {a:Act} (h:∀ a ∈ l,tk a) (d:a.text=[]) (b:a.kind≤43:=by first|decide|(dsimp only;omega)|dsimp only):∀ x ∈ l++([a]:List Act),tk x:=fun x c=>by
 rcases List.mem_append.1 c with c | c
 ·exact h x c
 ·rw [List.mem_singleton.1 c];exact ⟨by rw [d];exact Nat.zero_le _,b⟩
theorem A1q {aJ:Sty} {pl:List Act} {pat:Int} {to_:Sty} {pb:Nat} {plr:VR} {R:List Act} (hR:B7 aJ pl pat to_=R) (d:bT 6 pl.length plr:=by exact bW):Con Tryz.prog 205 [pt pb 0,ag (D6 to_)] (bx pb (aI aJ plr pl pat) 197::((vo A0 54 plr pl)++([]))) [U5,U8,J2,M2] ({r:VR // bT 6 R.length r}) (fun x=>.slice (va x.1.q) R.length x.1.k) (fun x=>(bx pb (aI aJ plr pl pat) 197::((vo A0 54 plr pl)++((vo A0 54 x.1 R)++([]))))) (fun x=>[]):=by
 refine cC Tryz.func205 fun X hX hr hD=>?_
 replace hR:=(B7.eq_1 ..).symm.trans hR
 have:=bT.le d
 refine bS rfl (B0j 2 0 [] (fun b=>[(3,pt b 0)]) (fun b=>(bx b (D6 to_) 65::bx pb (aI aJ plr pl pat) 197::((vo A0 54 plr pl)++([])))) (fun b=>(ie ?_)))
 refine sh 12 [(12,[bx b (D6 to_) 65]),(12,[bx pb (aI aJ plr pl pat) 197]),(12,vo A0 54 plr pl)] [U5,U8,J2,M2] (bx b (D6 to_) 65::bx pb (aI aJ plr pl pat) 197::((vo A0 54 plr pl)++([]))) (cA 12 0) oki rfl oki oki oki bU A7.refl ?_
 refine zhp [0,1,2,3] 8 (cA 12 15) [(11,pt pb 0)] ?_
 refine zhl 4 (bx b (D6 to_) 65::bx pb (aI aJ plr pl pat) 197::((vo A0 54 plr pl)++([]))) (cA 12 31) rfl (G7 (us:=(aD aJ [])) B4v rfl rfl 1 rfl rfl rfl) ?_
 refine zhl 5 (bx b (D6 to_) 65::bx pb (aI aJ plr pl pat) 197::((vo A0 54 plr pl)++([]))) (cA 12 63) rfl (G7 (us:=D6 to_) B4v rfl rfl 0 rfl rfl rfl) ?_
 have g:=C4 hR;clear hR;obtain ⟨f,e,hR⟩:=g
 refine zho 6 (bx b (D6 to_) 65::bx pb (aI aJ plr pl pat) 197::((vo A0 54 plr pl)++([]))) (cA 12 127) rfl (L6 (L2:=(bx b (D6 to_) 65::bx pb (aI aJ plr pl pat) 197::((vo A0 54 plr pl)++([])))) (C7f e) rfl rfl rfl rfl rfl A7.refl (List.Perm.refl _) (fun ⟨c,a⟩=>(bx b (D6 to_) 65::bx pb (aI aJ plr pl pat) 197::((vo A0 54 plr pl)++((vo A0 54 c f.1)++([]))))) (fun ⟨c,a⟩=>I1 [vo A0 54 c f.1,[bx b (D6 to_) 65],[bx pb (aI aJ plr pl pat) 197],vo A0 54 plr pl] [1,2,3,0] 4 rfl ozw opv [[bx b (D6 to_) 65],[bx pb (aI aJ plr pl pat) 197],vo A0 54 plr pl,vo A0 54 c f.1] rfl opv)) (fun ⟨c,a⟩=>bU) (fun ⟨c,a⟩=>A7.refl) fun ⟨c,a⟩=>?_
 have:=bT.le a
 have:=bT.cap a
 have:=B1o aJ to_;try rw [e] at this
 have:=A8e aJ to_;try rw [e] at this
 refine zhp [7,8,9,10,11] 0 (cA 12 4095) [(5,.slice (va c.q) f.1.length c.k)] ?_
 refine B4u oki ?_
 refine bS rfl (bP 2 4 rfl ?_)
 subst hR
 refine ie (A8 ?_)
 exact cD hr hD (K7 rfl (A6 rfl)) ⟨c,a⟩ bU bX
def M5 (r:Prn):Nat→List Act→Nat→(List Act×Sty×Int×Bool)
 | 0,_,_=>([],Sty.zero,0,false)
 | fu1+1,l,a=>(bif (decide ((a:Int)<r.many)) then (B6 (A5d l r.sign) fun (b:List Act)=>M5 r fu1 b (a+1)) else (l,r.sign.sty,r.til,true))
def V4 (aJ:Sty) (pl:List Act) (pat:Int) (r:Prn) (p2:Bool):List Act×Sty×Int×Bool :=
 (B6 (B7 aJ pl pat r.sign.sty) fun (a:List Act)=>M5 r ((r.many - (0:Int)).toNat+1) a 0)
theorem A5m (r:Prn):∀ (fu:Nat) (l:List Act) (t:Nat),(∀ a ∈ l,tk a)→(M5 r fu l t).1.length≤l.length+3 * (r.many - t).toNat∧∀ a ∈ (M5 r fu l t).1,tk a
 | 0,l,t,_=>by
  rw [M5]
  exact ⟨Nat.zero_le _,fun a e=>by cases e⟩
 | fu+1,l,t,h=>by
  rw [M5]
  by_cases c:(t:Int)<r.many
  ·rw [decide_eq_true c,cond_true,B6]
   have d:=A8m l r.sign
   have b:=A5m r fu _ (t+1) (d.2 h)
   exact ⟨by have:=b.1;have:=d.1;omega,b.2⟩
  ·rw [decide_eq_false c,cond_false]
   exact ⟨Nat.le_add_right _ _,h⟩
theorem A2w (aJ:Sty) (pl:List Act) (pat:Int) (r:Prn) (p2:Bool) (c:0≤r.many∧r.many≤100):(V4 aJ pl pat r p2).1.length≤322∧∀ a ∈ (V4 aJ pl pat r p2).1,tk a:=by
 unfold V4 B6
 have b:=Q0 aJ pl pat r.sign.sty
 have:=A5m r ((r.many - (0:Int)).toNat+1) _ 0 b.2.2
 exact ⟨Nat.le_trans this.1 (by have:=b.1;omega),this.2⟩
theorem B6d {aJ:Sty} {pl:List Act} {pat:Int} {r:Prn} {p2:Bool} {pb:Nat} {plr:VR} {R:List Act×Sty×Int×Bool} (hR:V4 aJ pl pat r p2=R) (f:bT 6 pl.length plr:=by exact bW) (v:0≤r.many∧r.many≤100:=by exact bW):Con Tryz.prog 163 [pt pb 0,ag (F5 r),bv p2] (bx pb (aI aJ plr pl pat) 197::((vo A0 54 plr pl)++([]))) [U5,U8,J2,M2] ({r:VR // bT 6 R.1.length r}) (fun x=>.tuple #[ag (.slice (va x.1.q) R.1.length x.1.k::aD R.2.1 [iv R.2.2.1]),bv R.2.2.2]) (fun x=>(bx pb (aI aJ plr pl pat) 197::((vo A0 54 plr pl)++((vo A0 54 x.1 R.1)++([]))))) (fun x=>[]):=by
 refine cC Tryz.func163 fun X hX hr hD=>?_
 replace hR:=(V4.eq_1 ..).symm.trans hR
 refine bS rfl (B6z 3 [] (fun a d=>[(4,pt a 0),(6,pt d 0)]) (fun _ _=>(F5 r)) (fun _ _=>aF) 202 259 fun a d=>(ie (bS rfl (c9 4 2 [1] [(9,pt pb 0),(12,ag (D6 r.sign.sty))] ?_))))
 have t:=C4 hR;clear hR;obtain ⟨s,o,hR⟩:=t
 refine it rfl (L6 (L2:=[bx d aF 259,bx a (F5 r) 202]) (A1q (aJ:=aJ) (pl:=pl) (pat:=pat) (to_:=r.sign.sty) (pb:=pb) (plr:=plr) o f) rfl rfl rfl rfl rfl A7.refl (I1 [[bx d aF 259],[bx a (F5 r) 202],[bx pb (aI aJ plr pl pat) 197],vo A0 54 plr pl] [2,3,0,1] 4 rfl ozw rfl [[bx pb (aI aJ plr pl pat) 197],vo A0 54 plr pl,[bx d aF 259],[bx a (F5 r) 202]] rfl opv) (fun ⟨i,h⟩=>(bx d aF 259::bx a (F5 r) 202::bx pb (aI aJ plr pl pat) 197::((vo A0 54 plr pl)++((vo A0 54 i s)++([]))))) (fun ⟨i,h⟩=>I1 [[bx pb (aI aJ plr pl pat) 197],vo A0 54 plr pl,vo A0 54 i s,[bx d aF 259],[bx a (F5 r) 202]] [3,4,0,1,2] 5 rfl ozw opv [[bx d aF 259],[bx a (F5 r) 202],[bx pb (aI aJ plr pl pat) 197],vo A0 54 plr pl,vo A0 54 i s] rfl opv)) fun ⟨i,h⟩=>?_
 have:=bT.le h
 have:=Q0 aJ pl pat r.sign.sty;try rw [o] at this
 obtain ⟨_,_,_⟩:=this
 refine bP 1 8 rfl (ie (A3 (bS rfl (pl2 3 [1] 15 16 rfl (ie (A9 ?_))))))
 refine A3q (un fun fu=>un fun l=>un fun lr (b:Nat)=>((r.many - b).toNat<fu∧M5 r fu l b=R∧bT 6 l.length lr∧(l.length≤22+3 * b∧b≤r.many),[(4,_),(6,_),(8,.slice (va lr.q) l.length lr.k),(15,iv _),(16,iv b)],(bx d _ _::bx a _ _::bx _ _ _::((vo _ _ _ _)++((vo _ _ lr l)++([])))),[_,_,_,_],fu)) (_,s,i,0) ⟨(Nat.lt_succ_self _),hR,h,opx⟩ bU A7.refl ?_
 rintro ⟨fu,l,lr,b⟩ ⟨w,hR,e,y⟩
 have:=bT.le e
 obtain ⟨fu1,rfl⟩:∃ m,fu=m+1:=⟨fu - 1,by omega⟩
 replace hR:=(M5.eq_2 ..).symm.trans hR
 refine bS rfl (bP 1 17 rfl (ie (A3 ?_)))
 refine zjd rfl hR ?_ ?_<;>clear hR<;>intro hR z u
 ·refine A4 (nx (A3 (A9 (A1 5 rfl (c9 3 2 [1] [(18,.slice (va lr.q) l.length lr.k),(20,ag (D8 r.sign))] ?_)))))
  have t:=C4 hR;clear hR;obtain ⟨p,n,hR⟩:=t
  refine it rfl (L6 (L2:=(bx d aF 259::bx a (F5 r) 202::bx pb (aI aJ plr pl pat) 197::((vo A0 54 plr pl)++([])))) (B9c (l:=l) (c:=r.sign) (lr:=lr) n e) rfl rfl rfl rfl rfl bX (I1 [[bx d aF 259],[bx a (F5 r) 202],[bx pb (aI aJ plr pl pat) 197],vo A0 54 plr pl,vo A0 54 lr l] [4,0,1,2,3] 5 rfl ozw rfl [vo A0 54 lr l,[bx d aF 259],[bx a (F5 r) 202],[bx pb (aI aJ plr pl pat) 197],vo A0 54 plr pl] rfl opv) (fun ⟨j,g⟩=>(bx d aF 259::bx a (F5 r) 202::bx pb (aI aJ plr pl pat) 197::((vo A0 54 plr pl)++((vo A0 54 j p)++([]))))) (fun ⟨j,g⟩=>I1 [vo A0 54 j p,[bx d aF 259],[bx a (F5 r) 202],[bx pb (aI aJ plr pl pat) 197],vo A0 54 plr pl] [1,2,3,4,0] 5 rfl ozw opv [[bx d aF 259],[bx a (F5 r) 202],[bx pb (aI aJ plr pl pat) 197],vo A0 54 plr pl,vo A0 54 j p] rfl opv)) fun ⟨j,g⟩=>?_
  have:=A8m l r.sign;try rw [n] at this
  refine bP 1 8 rfl (A2 (nx (A1 2 rfl (ix rfl (B3 rfl rfl rfl rfl opx) (bP 1 16 rfl (A2 ?_))))))
  exact A2g (_,p,j,_) ⟨opx,hR,g,opx⟩ (Nat.lt_succ_self _) bU A7.refl
 refine F4 (nx (bS rfl (zrg 9 0 [1,1,0] [(7,bv true)] (bx d (.slice (va lr.q) l.length lr.k::aD r.sign.sty [iv r.til]) 259::bx a (F5 r) 202::bx pb (aI aJ plr pl pat) 197::((vo A0 54 plr pl)++((vo A0 54 lr l)++([])))) ?_)))
 subst hR
 refine ie (A8 ?_)
 exact cD hr hD (U0 rfl (F0 B9w rfl 0 rfl rfl rfl) (A6 rfl)) ⟨_,e⟩ bU bX
def U1 (aJ:Sty) (pl:List Act) (pat:Int) (r:Prn) (p2:Bool):List Act×Sty×Int×Bool :=
 (bif ((decide (r.many<2))||(!(B3u r.sign))) then (([]:List Act),(⟨0,0,(⟨0,0⟩:Col),(⟨0,0⟩:Col),(⟨0,0⟩:Col)⟩:Sty),0,false) else (B6 (B7 aJ pl pat r.sign.sty) fun (a:List Act)=>(B6 (A5d a r.sign) fun (b:List Act)=>((b++([{Act.zero with kind:=34,n:=(IntKind.i64.wrap (r.many - (1:Int)))}]:List Act)),r.sign.sty,r.til,true))))
theorem A2n (aJ:Sty) (pl:List Act) (pat:Int) (r:Prn) (p2:Bool):(U1 aJ pl pat r p2).1.length≤322∧∀ a ∈ (U1 aJ pl pat r p2).1,tk a:=by
 unfold U1 B6
 have d:=Q0 aJ pl pat r.sign.sty
 have c:=A8m (B7 aJ pl pat r.sign.sty) r.sign
 simp only [Bool.cond_eq_ite]
 split
 ·exact ⟨Nat.zero_le _,fun a b=>by cases b⟩
 ·exact ⟨by simp only [List.length_append,List.length_cons,List.length_nil];omega,D5g (c.2 d.2.2) rfl⟩
theorem ogz {p:Prop} (h:p:=by first|rfl|(try dsimp only;simp only [List.append_nil,List.cons_append,List.nil_append,List.append_assoc])):p:=h
theorem B4t {aJ:Sty} {pl:List Act} {pat:Int} {r:Prn} {p2:Bool} {pb:Nat} {plr:VR} {R:List Act×Sty×Int×Bool} (hR:U1 aJ pl pat r p2=R) (j:bT 6 pl.length plr:=by exact bW) (a0:0≤r.many∧r.many≤100:=by exact bW):Con Tryz.prog 164 [pt pb 0,ag (F5 r),bv p2] (bx pb (aI aJ plr pl pat) 197::((vo A0 54 plr pl)++([]))) [U5,U8,J2,M2] ({r:VR // bT 6 R.1.length r}) (fun x=>.tuple #[ag (.slice (va x.1.q) R.1.length x.1.k::aD R.2.1 [iv R.2.2.1]),bv R.2.2.2]) (fun x=>(bx pb (aI aJ plr pl pat) 197::((vo A0 54 plr pl)++((vo A0 54 x.1 R.1)++([]))))) (fun x=>[]):=by
 refine cC Tryz.func164 fun X hX hr hD=>?_
 replace hR:=(U1.eq_1 ..).symm.trans hR
 have:=bT.le j
 refine bS rfl (E4i 3 0 [] (fun a b=>[(4,pt a 0),(6,pt b 0)]) (fun a b=>(bx b aF 259::bx a (F5 r) 202::bx pb (aI aJ plr pl pat) 197::((vo A0 54 plr pl)++([])))) (fun a b=>(ie (A3 (bS rfl (cF 4 [1] 12 rfl ?_))))))
 refine zir 5 0 12 17 (!(B3u r.sign)) (fun g3 z=>?_) ?_
 ·refine c9 2 3 [1] [(14,ag (D8 r.sign))] (zv rfl (C3t rfl) (bP 2 17 rfl ?_))
  exact A2 (J0 4 12 17 g3 A7.refl bU rfl rfl rfl rfl rfl)
 refine ie ?_
 refine zjb rfl hR ?_ ?_<;>clear hR<;>intro hR w
 ·have u:=bV w
  refine bS rfl (zrg 3 0 [0] [(7,bv false)] (bx b aF 259::bx a (F5 r) 202::bx pb (aI aJ plr pl pat) 197::((vo A0 54 plr pl)++([]))) ?_)
  subst hR
  refine ie (A8 ?_)
  exact cD hr hD (U0 rfl (F0 (us:=aF) B9w rfl 0 rfl rfl rfl) (A6 rfl)) ⟨VR.nil,bT.nil⟩ bU bX
 have u:=bV w
 refine A4 (nx ?_)
 refine sh 9 [(9,[bx b aF 259]),(9,[bx a (F5 r) 202]),(9,[bx pb (aI aJ plr pl pat) 197]),(9,vo A0 54 plr pl)] [U5,U8,J2,M2] (bx b aF 259::bx a (F5 r) 202::bx pb (aI aJ plr pl pat) 197::((vo A0 54 plr pl)++([]))) (cA 9 0) oki rfl oki oki oki bU A7.refl ?_
 refine zhp [0,1,2,5] 5 (cA 9 39) [(19,pt pb 0),(21,pt a 4),(24,pt a 0)] ?_
 refine zhl 3 (bx b aF 259::bx a (F5 r) 202::bx pb (aI aJ plr pl pat) 197::((vo A0 54 plr pl)++([]))) (cA 9 47) rfl (G7 (us:=D6 r.sign.sty) B4v rfl rfl 1 rfl rfl rfl) ?_
 refine zhl 6 (bx b aF 259::bx a (F5 r) 202::bx pb (aI aJ plr pl pat) 197::((vo A0 54 plr pl)++([]))) (cA 9 111) rfl (G7 (us:=D8 r.sign) D2l rfl rfl 1 rfl rfl rfl) ?_
 have t:=C4 hR;clear hR;obtain ⟨o,s,hR⟩:=t
 refine zho 4 (bx b aF 259::bx a (F5 r) 202::bx pb (aI aJ plr pl pat) 197::((vo A0 54 plr pl)++([]))) (cA 9 127) rfl (L6 (L2:=[bx b aF 259,bx a (F5 r) 202]) (A1q s j) rfl rfl rfl rfl rfl A7.refl (I1 [[bx b aF 259],[bx a (F5 r) 202],[bx pb (aI aJ plr pl pat) 197],vo A0 54 plr pl] [2,3,0,1] 4 rfl ozw rfl [[bx pb (aI aJ plr pl pat) 197],vo A0 54 plr pl,[bx b aF 259],[bx a (F5 r) 202]] rfl opv) (fun ⟨m,i⟩=>(bx b aF 259::bx a (F5 r) 202::bx pb (aI aJ plr pl pat) 197::((vo A0 54 plr pl)++((vo A0 54 m o)++([]))))) (fun ⟨m,i⟩=>I1 [[bx pb (aI aJ plr pl pat) 197],vo A0 54 plr pl,vo A0 54 m o,[bx b aF 259],[bx a (F5 r) 202]] [3,4,0,1,2] 5 rfl ozw opv [[bx b aF 259],[bx a (F5 r) 202],[bx pb (aI aJ plr pl pat) 197],vo A0 54 plr pl,vo A0 54 m o] rfl opv)) (fun ⟨m,i⟩=>bU) (fun ⟨m,i⟩=>A7.refl) fun ⟨m,i⟩=>?_
 have:=bT.le i
 have:=bT.cap i
 have:=Q0 aJ pl pat r.sign.sty;try rw [s] at this
 obtain ⟨_,_,_⟩:=this
 have t:=C4 hR;clear hR;obtain ⟨l,p,hR⟩:=t
 refine zho 7 (bx b aF 259::bx a (F5 r) 202::bx pb (aI aJ plr pl pat) 197::((vo A0 54 plr pl)++([]))) (cA 9 255) rfl (L6 (L2:=(bx b aF 259::bx a (F5 r) 202::bx pb (aI aJ plr pl pat) 197::((vo A0 54 plr pl)++([])))) (B9c p i) rfl rfl rfl rfl rfl bX (I1 [[bx b aF 259],[bx a (F5 r) 202],[bx pb (aI aJ plr pl pat) 197],vo A0 54 plr pl,vo A0 54 m o] [4,0,1,2,3] 5 rfl ozw rfl [vo A0 54 m o,[bx b aF 259],[bx a (F5 r) 202],[bx pb (aI aJ plr pl pat) 197],vo A0 54 plr pl] rfl opv) (fun ⟨g,h⟩=>(bx b aF 259::bx a (F5 r) 202::bx pb (aI aJ plr pl pat) 197::((vo A0 54 plr pl)++((vo A0 54 g l)++([]))))) (fun ⟨g,h⟩=>I1 [vo A0 54 g l,[bx b aF 259],[bx a (F5 r) 202],[bx pb (aI aJ plr pl pat) 197],vo A0 54 plr pl] [1,2,3,4,0] 5 rfl ozw opv [[bx b aF 259],[bx a (F5 r) 202],[bx pb (aI aJ plr pl pat) 197],vo A0 54 plr pl,vo A0 54 g l] rfl opv)) (fun ⟨g,h⟩=>bU) (fun ⟨g,h⟩=>A7.refl) fun ⟨g,h⟩=>?_
 have:=bT.le h
 have:=bT.cap h
 have:=A8m o r.sign;try rw [p] at this
 refine zhp [8] 0 (cA 9 511) [(8,.slice (va g.q) l.length g.k)] ?_
 refine B4u oki ?_
 refine sh 15 [(13,[bx b aF 259]),(15,[bx a (F5 r) 202]),(15,[bx pb (aI aJ plr pl pat) 197]),(15,vo A0 54 plr pl),(6,vo A0 54 g l)] [U5,U8,J2,M2] (bx b aF 259::bx a (F5 r) 202::bx pb (aI aJ plr pl pat) 197::((vo A0 54 plr pl)++((vo A0 54 g l)++([])))) (cA 15 0) oki rfl oki oki oki bU A7.refl ?_
 refine zhp [0,1,7,8,10] 10 (cA 15 1411) [(27,.slice (va g.q) l.length g.k),(28,pt a 12),(35,pt a 4),(37,pt a 14)] ?_
 refine zhl 2 (bx b aF 259::bx a (F5 r) 202::bx pb (aI aJ plr pl pat) 197::((vo A0 54 plr pl)++([]))) (cA 15 1415) rfl (C1 (v:=iv r.many) cH rfl rfl 1 rfl rfl) ?_
 refine zhk 3 (cA 15 1423) rfl (J9.pure rfl) (zhk 4 (cA 15 1439) rfl (A1h (cs:=A0 ({Act.zero with kind:=34,n:=(IntKind.i64.wrap (r.many - (1:Int)))})) rfl rfl oki) (zhl 9 (bx b aF 259::bx a (F5 r) 202::bx pb (aI aJ plr pl pat) 197::((vo A0 54 plr pl)++([]))) (cA 15 1951) rfl (G7 (us:=D6 r.sign.sty) B4v rfl rfl 1 rfl rfl rfl) ?_))
 refine zhl 11 (bx b aF 259::bx a (F5 r) 202::bx pb (aI aJ plr pl pat) 197::((vo A0 54 plr pl)++([]))) (cA 15 3999) rfl (C1 (v:=iv r.til) cH rfl rfl 1 rfl rfl) ?_
 refine zho 5 (bx b aF 259::bx a (F5 r) 202::bx pb (aI aJ plr pl pat) 197::((vo A0 54 plr pl)++((vo A0 54 g l)++([])))) (cA 15 4031) rfl (B1 (c:=A0) (xs:=([{Act.zero with kind:=34,n:=(IntKind.i64.wrap (r.many - (1:Int)))}]:List Act)) Q1 rfl rfl rfl oki) (fun y=>bU) (fun y=>cB) fun y=>?_
 have:([{Act.zero with kind:=34,n:=(IntKind.i64.wrap (r.many - (1:Int)))}]:List Act).length=1:=rfl
 refine zho 6 (bx b aF 259::bx a (F5 r) 202::bx pb (aI aJ plr pl pat) 197::((vo A0 54 plr pl)++([]))) (cA 15 4095) rfl (Tri.own (S7 (f:=A0) (r:=g) (xs:=l) (ys:=([{Act.zero with kind:=34,n:=(IntKind.i64.wrap (r.many - (1:Int)))}]:List Act)) (pre:=(bx b aF 259::bx a (F5 r) 202::bx pb (aI aJ plr pl pat) 197::((vo A0 54 plr pl)++([])))) (post:=[]) A4u (fun _=>rfl) (fun _=>rfl) rfl rfl rfl rfl rfl rfl rfl rfl ogz (A5 0 rfl) h ofv ofv) (fun ⟨d,e⟩=>(bx b aF 259::bx a (F5 r) 202::bx pb (aI aJ plr pl pat) 197::((vo A0 54 plr pl)++((vo A0 54 d (l++([{Act.zero with kind:=34,n:=(IntKind.i64.wrap (r.many - (1:Int)))}]:List Act)))++([]))))) (fun ⟨d,e⟩=>by first|rfl|(try dsimp only;simp only [List.append_nil,List.cons_append,List.nil_append,List.append_assoc]))) (fun ⟨d,e⟩=>bU) (fun ⟨d,e⟩=>cB) fun ⟨d,e⟩=>?_
 have:=bT.le e
 have:=bT.cap e
 refine zhk 12 (cA 15 8191) rfl (A1h (cs:=(.slice (va d.q) ((l++([{Act.zero with kind:=34,n:=(IntKind.i64.wrap (r.many - (1:Int)))}]:List Act)).length) d.k::aD r.sign.sty [iv r.til])) rfl rfl oki) ?_
 refine zho 13 (bx a (F5 r) 202::bx pb (aI aJ plr pl pat) 197::((vo A0 54 plr pl)++([]))) (cA 15 16383) rfl (P4 (us:=(.slice (va d.q) ((l++([{Act.zero with kind:=34,n:=(IntKind.i64.wrap (r.many - (1:Int)))}]:List Act)).length) d.k::aD r.sign.sty [iv r.til])) (cs':=(.slice (va d.q) ((l++([{Act.zero with kind:=34,n:=(IntKind.i64.wrap (r.many - (1:Int)))}]:List Act)).length) d.k::aD r.sign.sty [iv r.til])) B9w rfl rfl rfl 0 rfl rfl rfl rfl rfl rfl) (fun _=>bU) (fun _=>cB) fun _=>?_
 refine zhp [14] 0 (cA 15 32767) [(7,bv true)] ?_
 refine B4u oki ?_
 subst hR
 refine A8 ?_
 exact cD hr hD (U0 rfl (F0 (us:=(.slice (va d.q) ((l++([{Act.zero with kind:=34,n:=(IntKind.i64.wrap (r.many - (1:Int)))}]:List Act)).length) d.k::aD r.sign.sty [iv r.til])) B9w rfl 0 rfl rfl rfl) (A6 rfl)) ⟨d,e⟩ bU bX
def V5 (aJ:Sty) (pl:List Act) (pat:Int) (r:Prn) (last:Bool):List Act×Sty×Int×Bool :=
 (bif (((!(B3u r.sign))||(!decide (r.sign.base=32)))||(!(decide (r.sign.sty={Sty.zero with back:=r.sign.sty.back})))) then (([]:List Act),(⟨0,0,(⟨0,0⟩:Col),(⟨0,0⟩:Col),(⟨0,0⟩:Col)⟩:Sty),0,false) else (bif last then (((B7 aJ pl pat ({aJ with back:=r.sign.sty.back}))++([{Act.zero with kind:=30,n:=r.many}]:List Act)),(⟨aJ.attr,aJ.under,aJ.fore,r.sign.sty.back,aJ.line⟩:Sty),r.at_,true) else ((((B7 aJ pl pat ({aJ with back:=r.sign.sty.back}))++([{Act.zero with kind:=30,n:=r.many}]:List Act))++([{Act.zero with kind:=20,n:=2,m:=r.many}]:List Act)),(⟨aJ.attr,aJ.under,aJ.fore,r.sign.sty.back,aJ.line⟩:Sty),r.til,true)))
theorem A2x (aJ:Sty) (pl:List Act) (pat:Int) (r:Prn) (last:Bool):(V5 aJ pl pat r last).1.length≤322∧∀ a ∈ (V5 aJ pl pat r last).1,tk a:=by
 unfold V5
 have b:=Q0 aJ pl pat ({aJ with back:=r.sign.sty.back})
 simp only [Bool.cond_eq_ite]
 repeat' split
 ·exact ⟨Nat.zero_le _,fun a c=>by cases c⟩
 ·exact ⟨by simp only [List.length_append,List.length_cons,List.length_nil];omega,D5g b.2.2 rfl⟩
 ·exact ⟨by simp only [List.length_append,List.length_cons,List.length_nil];omega,D5g (D5g b.2.2 rfl) rfl⟩
theorem B5x {aJ:Sty} {pl:List Act} {pat:Int} {r:Prn} {last:Bool} {pb:Nat} {plr:VR} {R:List Act×Sty×Int×Bool} (hR:V5 aJ pl pat r last=R) (w:bT 6 pl.length plr:=by exact bW) (a8:0≤r.many∧r.many≤100:=by exact bW):Con Tryz.prog 165 [pt pb 0,ag (F5 r),bv last] (bx pb (aI aJ plr pl pat) 197::((vo A0 54 plr pl)++([]))) [U5,U8,J2,M2] ({r:VR // bT 6 R.1.length r}) (fun x=>.tuple #[ag (.slice (va x.1.q) R.1.length x.1.k::aD R.2.1 [iv R.2.2.1]),bv R.2.2.2]) (fun x=>(bx pb (aI aJ plr pl pat) 197::((vo A0 54 plr pl)++((vo A0 54 x.1 R.1)++([]))))) (fun x=>[]):=by
 refine cC Tryz.func165 fun X hX hr hD=>?_
 replace hR:=(V5.eq_1 ..).symm.trans hR
 have:=bT.le w
 refine bS rfl (E4i 3 0 [] (fun d g=>[(4,pt d 0),(6,pt g 0)]) (fun d g=>(bx g aF 259::bx d (F5 r) 202::bx pb (aI aJ plr pl pat) 197::((vo A0 54 plr pl)++([])))) (fun d g=>(ie (A3 (bS rfl (c9 2 19 [1] [(11,ag (D8 r.sign))] (zv rfl (C3t rfl) (bP 2 14 rfl ?_))))))))
 refine zio 5 11 14 19 (!decide (r.sign.base=32)) (fun g3=>?_) ?_
 ·refine cF 5 [1] 19 rfl ?_
  exact A2 (J0 2 14 19 g3 A7.refl bU rfl rfl rfl rfl rfl)
 refine bP 1 20 rfl ?_
 refine zio 10 0 20 30 (!(decide (r.sign.sty={Sty.zero with back:=r.sign.sty.back}))) (fun g4=>?_) ?_
 ·have ab:=bV g4
  refine c9 8 2 [1,1] [(23,ag (D6 r.sign.sty)),(28,ag (D6 ({Sty.zero with back:=r.sign.sty.back})))] (ix rfl (Z3 (a:=r.sign.sty) (b:={Sty.zero with back:=r.sign.sty.back}) E3u rfl rfl rfl) (bP 1 30 rfl ?_))
  exact A2 (J0 5 20 30 g4 A7.refl bU rfl rfl rfl rfl rfl)
 refine ie ?_
 refine zjb rfl hR ?_ ?_<;>clear hR<;>intro hR h5
 ·have a4:=bV h5
  refine bS rfl (zrg 3 0 [0] [(7,bv false)] (bx g aF 259::bx d (F5 r) 202::bx pb (aI aJ plr pl pat) 197::((vo A0 54 plr pl)++([]))) ?_)
  subst hR
  refine ie (A8 ?_)
  exact cD hr hD (U0 rfl (F0 (us:=aF) B9w rfl 0 rfl rfl rfl) (A6 rfl)) ⟨VR.nil,bT.nil⟩ bU bX
 have a4:=bV h5
 refine A4 (nx (bS rfl (B0j 7 0 [2,0] (fun e=>[(8,pt e 0)]) (fun e=>(bx e (D6 aJ) 65::bx g aF 259::bx d (F5 r) 202::bx pb (aI aJ plr pl pat) 197::((vo A0 54 plr pl)++([])))) (fun e=>(ie (bS rfl (zrg 6 0 [2,0] [] (bx e (D6 ({aJ with back:=r.sign.sty.back})) 65::bx g aF 259::bx d (F5 r) 202::bx pb (aI aJ plr pl pat) 197::((vo A0 54 plr pl)++([]))) (ie ?_))))))))
 refine sh 9 [(9,[bx e (D6 ({aJ with back:=r.sign.sty.back})) 65]),(9,[bx g aF 259]),(9,[bx d (F5 r) 202]),(9,[bx pb (aI aJ plr pl pat) 197]),(9,vo A0 54 plr pl)] [U5,U8,J2,M2] (bx e (D6 ({aJ with back:=r.sign.sty.back})) 65::bx g aF 259::bx d (F5 r) 202::bx pb (aI aJ plr pl pat) 197::((vo A0 54 plr pl)++([]))) (cA 9 0) oki rfl oki oki oki bU A7.refl ?_
 refine zhp [0,3] 7 (cA 9 9) [(42,pt pb 0),(45,pt d 12)] ?_
 refine zhl 1 (bx e (D6 ({aJ with back:=r.sign.sty.back})) 65::bx g aF 259::bx d (F5 r) 202::bx pb (aI aJ plr pl pat) 197::((vo A0 54 plr pl)++([]))) (cA 9 11) rfl (G7 (us:=D6 ({aJ with back:=r.sign.sty.back})) B4v rfl rfl 0 rfl rfl rfl) ?_
 refine zhl 4 (bx e (D6 ({aJ with back:=r.sign.sty.back})) 65::bx g aF 259::bx d (F5 r) 202::bx pb (aI aJ plr pl pat) 197::((vo A0 54 plr pl)++([]))) (cA 9 27) rfl (C1 (v:=iv r.many) cH rfl rfl 2 rfl rfl) ?_
 refine zhk 5 (cA 9 59) rfl (A1h (cs:=A0 ({Act.zero with kind:=30,n:=r.many})) rfl rfl oki) ?_
 refine D7k 2 6 oki ?_ ?_
 ·refine E6a 2 (bx e (D6 ({aJ with back:=r.sign.sty.back})) 65::bx g aF 259::bx d (F5 r) 202::bx pb (aI aJ plr pl pat) 197::((vo A0 54 plr pl)++([]))) (cA 9 63) rfl rfl rfl oki oki oki (L6 (L2:=[bx e (D6 ({aJ with back:=r.sign.sty.back})) 65,bx g aF 259,bx d (F5 r) 202]) (A1q (aJ:=aJ) (pl:=pl) (pat:=pat) (to_:=({aJ with back:=r.sign.sty.back})) (pb:=pb) (plr:=plr) rfl w) rfl rfl rfl rfl rfl A7.refl (I1 [[bx e (D6 ({aJ with back:=r.sign.sty.back})) 65],[bx g aF 259],[bx d (F5 r) 202],[bx pb (aI aJ plr pl pat) 197],vo A0 54 plr pl] [3,4,0,1,2] 5 rfl ozw rfl [[bx pb (aI aJ plr pl pat) 197],vo A0 54 plr pl,[bx e (D6 ({aJ with back:=r.sign.sty.back})) 65],[bx g aF 259],[bx d (F5 r) 202]] rfl opv) (fun ⟨r7,z⟩=>(bx e (D6 ({aJ with back:=r.sign.sty.back})) 65::bx g aF 259::bx d (F5 r) 202::bx pb (aI aJ plr pl pat) 197::((vo A0 54 plr pl)++((vo A0 54 r7 (B7 aJ pl pat ({aJ with back:=r.sign.sty.back})))++([]))))) (fun ⟨r7,z⟩=>I1 [[bx pb (aI aJ plr pl pat) 197],vo A0 54 plr pl,vo A0 54 r7 (B7 aJ pl pat ({aJ with back:=r.sign.sty.back})),[bx e (D6 ({aJ with back:=r.sign.sty.back})) 65],[bx g aF 259],[bx d (F5 r) 202]] [3,4,5,0,1,2] 6 rfl ozw opv [[bx e (D6 ({aJ with back:=r.sign.sty.back})) 65],[bx g aF 259],[bx d (F5 r) 202],[bx pb (aI aJ plr pl pat) 197],vo A0 54 plr pl,vo A0 54 r7 (B7 aJ pl pat ({aJ with back:=r.sign.sty.back}))] rfl opv)) (fun ⟨r7,z⟩=>bU) (fun ⟨r7,z⟩=>A7.refl) fun ⟨r7,z⟩=>?_
  have:=bT.le z
  have:=bT.cap z
  have:=Q0 aJ pl pat ({aJ with back:=r.sign.sty.back})
  obtain ⟨_,_,_⟩:=this
  refine zho 6 (bx e (D6 ({aJ with back:=r.sign.sty.back})) 65::bx g aF 259::bx d (F5 r) 202::bx pb (aI aJ plr pl pat) 197::((vo A0 54 plr pl)++([]))) (cA 9 127) rfl (B1 (c:=A0) (xs:=([{Act.zero with kind:=30,n:=r.many}]:List Act)) Q1 rfl rfl rfl oki) (fun b9=>bU) (fun b9=>cB) fun b9=>?_
  have:([{Act.zero with kind:=30,n:=r.many}]:List Act).length=1:=rfl
  refine zho 7 (bx e (D6 ({aJ with back:=r.sign.sty.back})) 65::bx g aF 259::bx d (F5 r) 202::bx pb (aI aJ plr pl pat) 197::((vo A0 54 plr pl)++([]))) (cA 9 255) rfl (Tri.own (S7 (f:=A0) (r:=r7) (xs:=(B7 aJ pl pat ({aJ with back:=r.sign.sty.back}))) (ys:=([{Act.zero with kind:=30,n:=r.many}]:List Act)) (pre:=(bx e (D6 ({aJ with back:=r.sign.sty.back})) 65::bx g aF 259::bx d (F5 r) 202::bx pb (aI aJ plr pl pat) 197::((vo A0 54 plr pl)++([])))) (post:=[]) A4u (fun _=>rfl) (fun _=>rfl) rfl rfl rfl rfl rfl rfl rfl rfl ogz (A5 0 rfl) z ofv ofv) (fun ⟨h,p⟩=>(bx e (D6 ({aJ with back:=r.sign.sty.back})) 65::bx g aF 259::bx d (F5 r) 202::bx pb (aI aJ plr pl pat) 197::((vo A0 54 plr pl)++((vo A0 54 h ((B7 aJ pl pat ({aJ with back:=r.sign.sty.back}))++([{Act.zero with kind:=30,n:=r.many}]:List Act)))++([]))))) (fun ⟨h,p⟩=>by first|rfl|(try dsimp only;simp only [List.append_nil,List.cons_append,List.nil_append,List.append_assoc]))) (fun ⟨h,p⟩=>bU) (fun ⟨h,p⟩=>cB) fun ⟨h,p⟩=>?_
  have:=bT.le p
  have:=bT.cap p
  refine zhp [8] 0 (cA 9 511) [(9,.slice (va h.q) (((B7 aJ pl pat ({aJ with back:=r.sign.sty.back}))++([{Act.zero with kind:=30,n:=r.many}]:List Act)).length) h.k)] ?_
  refine B4u oki ?_
  refine A3 (bS rfl (bP 1 50 rfl ?_))
  refine ie ?_
  refine zjb rfl hR ?_ ?_<;>clear hR<;>intro hR a9
  ·refine bS rfl (zrg 7 0 [0,2,1] [(7,bv true)] (bx e (D6 ({aJ with back:=r.sign.sty.back})) 65::bx g [.slice (va h.q) (((B7 aJ pl pat ({aJ with back:=r.sign.sty.back}))++([{Act.zero with kind:=30,n:=r.many}]:List Act)).length) h.k,iv aJ.attr,iv aJ.under,iv aJ.fore.kind,iv aJ.fore.n,iv r.sign.sty.back.kind,iv r.sign.sty.back.n,iv aJ.line.kind,iv aJ.line.n,iv r.at_] 259::bx d (F5 r) 202::bx pb (aI aJ plr pl pat) 197::((vo A0 54 plr pl)++((vo A0 54 h ((B7 aJ pl pat ({aJ with back:=r.sign.sty.back}))++([{Act.zero with kind:=30,n:=r.many}]:List Act)))++([])))) ?_)
   subst hR
   refine ie (A8 ?_)
   exact cD hr hD (U0 rfl (F0 (us:=[.slice (va h.q) (((B7 aJ pl pat ({aJ with back:=r.sign.sty.back}))++([{Act.zero with kind:=30,n:=r.many}]:List Act)).length) h.k,iv aJ.attr,iv aJ.under,iv aJ.fore.kind,iv aJ.fore.n,iv r.sign.sty.back.kind,iv r.sign.sty.back.n,iv aJ.line.kind,iv aJ.line.n,iv r.at_]) B9w rfl 1 rfl rfl rfl) (A6 rfl)) ⟨h,p⟩ bU bX
  refine A4 (nx ?_)
  refine sh 12 [(12,[bx e (D6 ({aJ with back:=r.sign.sty.back})) 65]),(10,[bx g aF 259]),(12,[bx d (F5 r) 202]),(12,[bx pb (aI aJ plr pl pat) 197]),(12,vo A0 54 plr pl),(5,vo A0 54 h ((B7 aJ pl pat ({aJ with back:=r.sign.sty.back}))++([{Act.zero with kind:=30,n:=r.many}]:List Act)))] [sl A0 (some ⟨b9,0,none⟩) ([{Act.zero with kind:=30,n:=r.many}]:List Act),U5,U8,J2,M2] (bx e (D6 ({aJ with back:=r.sign.sty.back})) 65::bx g aF 259::bx d (F5 r) 202::bx pb (aI aJ plr pl pat) 197::((vo A0 54 plr pl)++((vo A0 54 h ((B7 aJ pl pat ({aJ with back:=r.sign.sty.back}))++([{Act.zero with kind:=30,n:=r.many}]:List Act)))++([])))) (cA 12 0) oki rfl oki oki oki bU A7.refl ?_
  refine zhp [0,1,7] 9 (cA 12 131) [(56,.slice (va h.q) (((B7 aJ pl pat ({aJ with back:=r.sign.sty.back}))++([{Act.zero with kind:=30,n:=r.many}]:List Act)).length) h.k),(57,pt d 12),(63,pt d 14)] ?_
  refine zhl 2 (bx e (D6 ({aJ with back:=r.sign.sty.back})) 65::bx g aF 259::bx d (F5 r) 202::bx pb (aI aJ plr pl pat) 197::((vo A0 54 plr pl)++([]))) (cA 12 135) rfl (C1 (v:=iv r.many) cH rfl rfl 2 rfl rfl) ?_
  refine zhk 3 (cA 12 143) rfl (A1h (cs:=A0 ({Act.zero with kind:=20,n:=2,m:=r.many})) rfl rfl oki) (zhl 6 (bx e (D6 ({aJ with back:=r.sign.sty.back})) 65::bx g aF 259::bx d (F5 r) 202::bx pb (aI aJ plr pl pat) 197::((vo A0 54 plr pl)++([]))) (cA 12 207) rfl (G7 (us:=D6 ({aJ with back:=r.sign.sty.back})) B4v rfl rfl 0 rfl rfl rfl) ?_)
  refine zhl 8 (bx e (D6 ({aJ with back:=r.sign.sty.back})) 65::bx g aF 259::bx d (F5 r) 202::bx pb (aI aJ plr pl pat) 197::((vo A0 54 plr pl)++([]))) (cA 12 463) rfl (C1 (v:=iv r.til) cH rfl rfl 2 rfl rfl) ?_
  refine zho 4 (bx e (D6 ({aJ with back:=r.sign.sty.back})) 65::bx g aF 259::bx d (F5 r) 202::bx pb (aI aJ plr pl pat) 197::((vo A0 54 plr pl)++((vo A0 54 h ((B7 aJ pl pat ({aJ with back:=r.sign.sty.back}))++([{Act.zero with kind:=30,n:=r.many}]:List Act)))++([])))) (cA 12 479) rfl (B1 (c:=A0) (xs:=([{Act.zero with kind:=20,n:=2,m:=r.many}]:List Act)) Q1 rfl rfl rfl oki) (fun a3=>bU) (fun a3=>cB) fun a3=>?_
  have:([{Act.zero with kind:=20,n:=2,m:=r.many}]:List Act).length=1:=rfl
  refine zho 5 (bx e (D6 ({aJ with back:=r.sign.sty.back})) 65::bx g aF 259::bx d (F5 r) 202::bx pb (aI aJ plr pl pat) 197::((vo A0 54 plr pl)++([]))) (cA 12 511) rfl (Tri.own (S7 (f:=A0) (r:=h) (xs:=((B7 aJ pl pat ({aJ with back:=r.sign.sty.back}))++([{Act.zero with kind:=30,n:=r.many}]:List Act))) (ys:=([{Act.zero with kind:=20,n:=2,m:=r.many}]:List Act)) (pre:=(bx e (D6 ({aJ with back:=r.sign.sty.back})) 65::bx g aF 259::bx d (F5 r) 202::bx pb (aI aJ plr pl pat) 197::((vo A0 54 plr pl)++([])))) (post:=[]) A4u (fun _=>rfl) (fun _=>rfl) rfl rfl rfl rfl rfl rfl rfl rfl ogz (A5 0 rfl) p ofv ofv) (fun ⟨j,u⟩=>(bx e (D6 ({aJ with back:=r.sign.sty.back})) 65::bx g aF 259::bx d (F5 r) 202::bx pb (aI aJ plr pl pat) 197::((vo A0 54 plr pl)++((vo A0 54 j (((B7 aJ pl pat ({aJ with back:=r.sign.sty.back}))++([{Act.zero with kind:=30,n:=r.many}]:List Act))++([{Act.zero with kind:=20,n:=2,m:=r.many}]:List Act)))++([]))))) (fun ⟨j,u⟩=>by first|rfl|(try dsimp only;simp only [List.append_nil,List.cons_append,List.nil_append,List.append_assoc]))) (fun ⟨j,u⟩=>bU) (fun ⟨j,u⟩=>cB) fun ⟨j,u⟩=>?_
  have:=bT.le u
  have:=bT.cap u
  refine zhk 9 (cA 12 1023) rfl (A1h (cs:=[.slice (va j.q) ((((B7 aJ pl pat ({aJ with back:=r.sign.sty.back}))++([{Act.zero with kind:=30,n:=r.many}]:List Act))++([{Act.zero with kind:=20,n:=2,m:=r.many}]:List Act)).length) j.k,iv aJ.attr,iv aJ.under,iv aJ.fore.kind,iv aJ.fore.n,iv r.sign.sty.back.kind,iv r.sign.sty.back.n,iv aJ.line.kind,iv aJ.line.n,iv r.til]) rfl rfl oki) ?_
  refine zho 10 (bx e (D6 ({aJ with back:=r.sign.sty.back})) 65::bx d (F5 r) 202::bx pb (aI aJ plr pl pat) 197::((vo A0 54 plr pl)++([]))) (cA 12 2047) rfl (P4 (us:=[.slice (va j.q) ((((B7 aJ pl pat ({aJ with back:=r.sign.sty.back}))++([{Act.zero with kind:=30,n:=r.many}]:List Act))++([{Act.zero with kind:=20,n:=2,m:=r.many}]:List Act)).length) j.k,iv aJ.attr,iv aJ.under,iv aJ.fore.kind,iv aJ.fore.n,iv r.sign.sty.back.kind,iv r.sign.sty.back.n,iv aJ.line.kind,iv aJ.line.n,iv r.til]) (cs':=[.slice (va j.q) ((((B7 aJ pl pat ({aJ with back:=r.sign.sty.back}))++([{Act.zero with kind:=30,n:=r.many}]:List Act))++([{Act.zero with kind:=20,n:=2,m:=r.many}]:List Act)).length) j.k,iv aJ.attr,iv aJ.under,iv aJ.fore.kind,iv aJ.fore.n,iv r.sign.sty.back.kind,iv r.sign.sty.back.n,iv aJ.line.kind,iv aJ.line.n,iv r.til]) B9w rfl rfl rfl 1 rfl rfl rfl rfl rfl rfl) (fun _=>bU) (fun _=>cB) fun _=>?_
  refine zhp [11] 0 (cA 12 4095) [(7,bv true)] ?_
  refine B4u oki ?_
  subst hR
  refine A8 ?_
  exact cD hr hD (U0 rfl (F0 (us:=[.slice (va j.q) ((((B7 aJ pl pat ({aJ with back:=r.sign.sty.back}))++([{Act.zero with kind:=30,n:=r.many}]:List Act))++([{Act.zero with kind:=20,n:=2,m:=r.many}]:List Act)).length) j.k,iv aJ.attr,iv aJ.under,iv aJ.fore.kind,iv aJ.fore.n,iv r.sign.sty.back.kind,iv r.sign.sty.back.n,iv aJ.line.kind,iv aJ.line.n,iv r.til]) B9w rfl 1 rfl rfl rfl) (A6 rfl)) ⟨j,u⟩ bU bX
 ·refine E6a 6 (bx e (D6 ({aJ with back:=r.sign.sty.back})) 65::bx g aF 259::bx d (F5 r) 202::bx pb (aI aJ plr pl pat) 197::((vo A0 54 plr pl)++([]))) (cA 9 123) rfl rfl rfl oki oki oki (B1 (c:=A0) (xs:=([{Act.zero with kind:=30,n:=r.many}]:List Act)) Q1 rfl rfl rfl oki) (fun a1=>bU) (fun a1=>cB) fun a1=>?_
  have:([{Act.zero with kind:=30,n:=r.many}]:List Act).length=1:=rfl
  refine zho 2 (bx e (D6 ({aJ with back:=r.sign.sty.back})) 65::bx g aF 259::bx d (F5 r) 202::bx pb (aI aJ plr pl pat) 197::((vo A0 54 plr pl)++([]))) (cA 9 127) rfl (L6 (L2:=[bx e (D6 ({aJ with back:=r.sign.sty.back})) 65,bx g aF 259,bx d (F5 r) 202]) (A1q (aJ:=aJ) (pl:=pl) (pat:=pat) (to_:=({aJ with back:=r.sign.sty.back})) (pb:=pb) (plr:=plr) rfl w) rfl rfl rfl rfl rfl cB (I1 [[bx e (D6 ({aJ with back:=r.sign.sty.back})) 65],[bx g aF 259],[bx d (F5 r) 202],[bx pb (aI aJ plr pl pat) 197],vo A0 54 plr pl] [3,4,0,1,2] 5 rfl ozw rfl [[bx pb (aI aJ plr pl pat) 197],vo A0 54 plr pl,[bx e (D6 ({aJ with back:=r.sign.sty.back})) 65],[bx g aF 259],[bx d (F5 r) 202]] rfl opv) (fun ⟨y,s⟩=>(bx e (D6 ({aJ with back:=r.sign.sty.back})) 65::bx g aF 259::bx d (F5 r) 202::bx pb (aI aJ plr pl pat) 197::((vo A0 54 plr pl)++((vo A0 54 y (B7 aJ pl pat ({aJ with back:=r.sign.sty.back})))++([]))))) (fun ⟨y,s⟩=>I1 [[bx pb (aI aJ plr pl pat) 197],vo A0 54 plr pl,vo A0 54 y (B7 aJ pl pat ({aJ with back:=r.sign.sty.back})),[bx e (D6 ({aJ with back:=r.sign.sty.back})) 65],[bx g aF 259],[bx d (F5 r) 202]] [3,4,5,0,1,2] 6 rfl ozw opv [[bx e (D6 ({aJ with back:=r.sign.sty.back})) 65],[bx g aF 259],[bx d (F5 r) 202],[bx pb (aI aJ plr pl pat) 197],vo A0 54 plr pl,vo A0 54 y (B7 aJ pl pat ({aJ with back:=r.sign.sty.back}))] rfl opv)) (fun ⟨y,s⟩=>bU) (fun ⟨y,s⟩=>cB) fun ⟨y,s⟩=>?_
  have:=bT.le s
  have:=bT.cap s
  have:=Q0 aJ pl pat ({aJ with back:=r.sign.sty.back})
  obtain ⟨_,_,_⟩:=this
  refine zho 7 (bx e (D6 ({aJ with back:=r.sign.sty.back})) 65::bx g aF 259::bx d (F5 r) 202::bx pb (aI aJ plr pl pat) 197::((vo A0 54 plr pl)++([]))) (cA 9 255) rfl (Tri.own (S7 (f:=A0) (r:=y) (xs:=(B7 aJ pl pat ({aJ with back:=r.sign.sty.back}))) (ys:=([{Act.zero with kind:=30,n:=r.many}]:List Act)) (pre:=(bx e (D6 ({aJ with back:=r.sign.sty.back})) 65::bx g aF 259::bx d (F5 r) 202::bx pb (aI aJ plr pl pat) 197::((vo A0 54 plr pl)++([])))) (post:=[]) A4u (fun _=>rfl) (fun _=>rfl) rfl rfl rfl rfl rfl rfl rfl rfl ogz (A5 0 rfl) s ofv ofv) (fun ⟨i,o⟩=>(bx e (D6 ({aJ with back:=r.sign.sty.back})) 65::bx g aF 259::bx d (F5 r) 202::bx pb (aI aJ plr pl pat) 197::((vo A0 54 plr pl)++((vo A0 54 i ((B7 aJ pl pat ({aJ with back:=r.sign.sty.back}))++([{Act.zero with kind:=30,n:=r.many}]:List Act)))++([]))))) (fun ⟨i,o⟩=>by first|rfl|(try dsimp only;simp only [List.append_nil,List.cons_append,List.nil_append,List.append_assoc]))) (fun ⟨i,o⟩=>bU) (fun ⟨i,o⟩=>cB) fun ⟨i,o⟩=>?_
  have:=bT.le o
  have:=bT.cap o
  refine zhp [8] 0 (cA 9 511) [(9,.slice (va i.q) (((B7 aJ pl pat ({aJ with back:=r.sign.sty.back}))++([{Act.zero with kind:=30,n:=r.many}]:List Act)).length) i.k)] ?_
  refine B4u oki ?_
  refine A3 (bS rfl (bP 1 50 rfl ?_))
  refine ie ?_
  refine zjb rfl hR ?_ ?_<;>clear hR<;>intro hR aa
  ·refine bS rfl (zrg 7 0 [0,2,1] [(7,bv true)] (bx e (D6 ({aJ with back:=r.sign.sty.back})) 65::bx g [.slice (va i.q) (((B7 aJ pl pat ({aJ with back:=r.sign.sty.back}))++([{Act.zero with kind:=30,n:=r.many}]:List Act)).length) i.k,iv aJ.attr,iv aJ.under,iv aJ.fore.kind,iv aJ.fore.n,iv r.sign.sty.back.kind,iv r.sign.sty.back.n,iv aJ.line.kind,iv aJ.line.n,iv r.at_] 259::bx d (F5 r) 202::bx pb (aI aJ plr pl pat) 197::((vo A0 54 plr pl)++((vo A0 54 i ((B7 aJ pl pat ({aJ with back:=r.sign.sty.back}))++([{Act.zero with kind:=30,n:=r.many}]:List Act)))++([])))) ?_)
   subst hR
   refine ie (A8 ?_)
   exact cD hr hD (U0 rfl (F0 (us:=[.slice (va i.q) (((B7 aJ pl pat ({aJ with back:=r.sign.sty.back}))++([{Act.zero with kind:=30,n:=r.many}]:List Act)).length) i.k,iv aJ.attr,iv aJ.under,iv aJ.fore.kind,iv aJ.fore.n,iv r.sign.sty.back.kind,iv r.sign.sty.back.n,iv aJ.line.kind,iv aJ.line.n,iv r.at_]) B9w rfl 1 rfl rfl rfl) (A6 rfl)) ⟨i,o⟩ bU bX
  refine A4 (nx ?_)
  refine sh 12 [(12,[bx e (D6 ({aJ with back:=r.sign.sty.back})) 65]),(10,[bx g aF 259]),(12,[bx d (F5 r) 202]),(12,[bx pb (aI aJ plr pl pat) 197]),(12,vo A0 54 plr pl),(5,vo A0 54 i ((B7 aJ pl pat ({aJ with back:=r.sign.sty.back}))++([{Act.zero with kind:=30,n:=r.many}]:List Act)))] [sl A0 (some ⟨a1,0,none⟩) ([{Act.zero with kind:=30,n:=r.many}]:List Act),U5,U8,J2,M2] (bx e (D6 ({aJ with back:=r.sign.sty.back})) 65::bx g aF 259::bx d (F5 r) 202::bx pb (aI aJ plr pl pat) 197::((vo A0 54 plr pl)++((vo A0 54 i ((B7 aJ pl pat ({aJ with back:=r.sign.sty.back}))++([{Act.zero with kind:=30,n:=r.many}]:List Act)))++([])))) (cA 12 0) oki rfl oki oki oki bU A7.refl ?_
  refine zhp [0,1,7] 9 (cA 12 131) [(56,.slice (va i.q) (((B7 aJ pl pat ({aJ with back:=r.sign.sty.back}))++([{Act.zero with kind:=30,n:=r.many}]:List Act)).length) i.k),(57,pt d 12),(63,pt d 14)] ?_
  refine zhl 2 (bx e (D6 ({aJ with back:=r.sign.sty.back})) 65::bx g aF 259::bx d (F5 r) 202::bx pb (aI aJ plr pl pat) 197::((vo A0 54 plr pl)++([]))) (cA 12 135) rfl (C1 (v:=iv r.many) cH rfl rfl 2 rfl rfl) ?_
  refine zhk 3 (cA 12 143) rfl (A1h (cs:=A0 ({Act.zero with kind:=20,n:=2,m:=r.many})) rfl rfl oki) (zhl 6 (bx e (D6 ({aJ with back:=r.sign.sty.back})) 65::bx g aF 259::bx d (F5 r) 202::bx pb (aI aJ plr pl pat) 197::((vo A0 54 plr pl)++([]))) (cA 12 207) rfl (G7 (us:=D6 ({aJ with back:=r.sign.sty.back})) B4v rfl rfl 0 rfl rfl rfl) ?_)
  refine zhl 8 (bx e (D6 ({aJ with back:=r.sign.sty.back})) 65::bx g aF 259::bx d (F5 r) 202::bx pb (aI aJ plr pl pat) 197::((vo A0 54 plr pl)++([]))) (cA 12 463) rfl (C1 (v:=iv r.til) cH rfl rfl 2 rfl rfl) ?_
  refine zho 4 (bx e (D6 ({aJ with back:=r.sign.sty.back})) 65::bx g aF 259::bx d (F5 r) 202::bx pb (aI aJ plr pl pat) 197::((vo A0 54 plr pl)++((vo A0 54 i ((B7 aJ pl pat ({aJ with back:=r.sign.sty.back}))++([{Act.zero with kind:=30,n:=r.many}]:List Act)))++([])))) (cA 12 479) rfl (B1 (c:=A0) (xs:=([{Act.zero with kind:=20,n:=2,m:=r.many}]:List Act)) Q1 rfl rfl rfl oki) (fun a2=>bU) (fun a2=>cB) fun a2=>?_
  have:([{Act.zero with kind:=20,n:=2,m:=r.many}]:List Act).length=1:=rfl
  refine zho 5 (bx e (D6 ({aJ with back:=r.sign.sty.back})) 65::bx g aF 259::bx d (F5 r) 202::bx pb (aI aJ plr pl pat) 197::((vo A0 54 plr pl)++([]))) (cA 12 511) rfl (Tri.own (S7 (f:=A0) (r:=i) (xs:=((B7 aJ pl pat ({aJ with back:=r.sign.sty.back}))++([{Act.zero with kind:=30,n:=r.many}]:List Act))) (ys:=([{Act.zero with kind:=20,n:=2,m:=r.many}]:List Act)) (pre:=(bx e (D6 ({aJ with back:=r.sign.sty.back})) 65::bx g aF 259::bx d (F5 r) 202::bx pb (aI aJ plr pl pat) 197::((vo A0 54 plr pl)++([])))) (post:=[]) A4u (fun _=>rfl) (fun _=>rfl) rfl rfl rfl rfl rfl rfl rfl rfl ogz (A5 0 rfl) o ofv ofv) (fun ⟨l,t⟩=>(bx e (D6 ({aJ with back:=r.sign.sty.back})) 65::bx g aF 259::bx d (F5 r) 202::bx pb (aI aJ plr pl pat) 197::((vo A0 54 plr pl)++((vo A0 54 l (((B7 aJ pl pat ({aJ with back:=r.sign.sty.back}))++([{Act.zero with kind:=30,n:=r.many}]:List Act))++([{Act.zero with kind:=20,n:=2,m:=r.many}]:List Act)))++([]))))) (fun ⟨l,t⟩=>by first|rfl|(try dsimp only;simp only [List.append_nil,List.cons_append,List.nil_append,List.append_assoc]))) (fun ⟨l,t⟩=>bU) (fun ⟨l,t⟩=>cB) fun ⟨l,t⟩=>?_
  have:=bT.le t
  have:=bT.cap t
  refine zhk 9 (cA 12 1023) rfl (A1h (cs:=[.slice (va l.q) ((((B7 aJ pl pat ({aJ with back:=r.sign.sty.back}))++([{Act.zero with kind:=30,n:=r.many}]:List Act))++([{Act.zero with kind:=20,n:=2,m:=r.many}]:List Act)).length) l.k,iv aJ.attr,iv aJ.under,iv aJ.fore.kind,iv aJ.fore.n,iv r.sign.sty.back.kind,iv r.sign.sty.back.n,iv aJ.line.kind,iv aJ.line.n,iv r.til]) rfl rfl oki) ?_
  refine zho 10 (bx e (D6 ({aJ with back:=r.sign.sty.back})) 65::bx d (F5 r) 202::bx pb (aI aJ plr pl pat) 197::((vo A0 54 plr pl)++([]))) (cA 12 2047) rfl (P4 (us:=[.slice (va l.q) ((((B7 aJ pl pat ({aJ with back:=r.sign.sty.back}))++([{Act.zero with kind:=30,n:=r.many}]:List Act))++([{Act.zero with kind:=20,n:=2,m:=r.many}]:List Act)).length) l.k,iv aJ.attr,iv aJ.under,iv aJ.fore.kind,iv aJ.fore.n,iv r.sign.sty.back.kind,iv r.sign.sty.back.n,iv aJ.line.kind,iv aJ.line.n,iv r.til]) (cs':=[.slice (va l.q) ((((B7 aJ pl pat ({aJ with back:=r.sign.sty.back}))++([{Act.zero with kind:=30,n:=r.many}]:List Act))++([{Act.zero with kind:=20,n:=2,m:=r.many}]:List Act)).length) l.k,iv aJ.attr,iv aJ.under,iv aJ.fore.kind,iv aJ.fore.n,iv r.sign.sty.back.kind,iv r.sign.sty.back.n,iv aJ.line.kind,iv aJ.line.n,iv r.til]) B9w rfl rfl rfl 1 rfl rfl rfl rfl rfl rfl) (fun _=>bU) (fun _=>cB) fun _=>?_
  refine zhp [11] 0 (cA 12 4095) [(7,bv true)] ?_
  refine B4u oki ?_
  subst hR
  refine A8 ?_
  exact cD hr hD (U0 rfl (F0 (us:=[.slice (va l.q) ((((B7 aJ pl pat ({aJ with back:=r.sign.sty.back}))++([{Act.zero with kind:=30,n:=r.many}]:List Act))++([{Act.zero with kind:=20,n:=2,m:=r.many}]:List Act)).length) l.k,iv aJ.attr,iv aJ.under,iv aJ.fore.kind,iv aJ.fore.n,iv r.sign.sty.back.kind,iv r.sign.sty.back.n,iv aJ.line.kind,iv aJ.line.n,iv r.til]) B9w rfl 1 rfl rfl rfl) (A6 rfl)) ⟨l,t⟩ bU bX
def O4 (pl:List Act) (d:Int) (c:List Act) (a:Sty) (b:Int):List Act×Sty×Int :=
 ((pl++c),a,b)
def O6 (aJ:Sty) (pl:List Act) (pat:Int) (r:Prn) (last:Bool) (b:Int) (d:List Act) (a:Sty) (c:Int):List Act×Sty×Int :=
 (B6 (V5 aJ pl pat r last) fun (e:List Act×Sty×Int×Bool)=>(B6 (R1 e.1) fun (f:List UInt8×Int)=>(bif (((!e.2.2.2)||(!decide (f.2=0)))||((decide ((0:Int)≤b))&&(decide (b≤(f.1.length:Int))))) then O4 pl b d a c else O4 pl (f.1.length:Int) e.1 e.2.1 e.2.2.1)))
def O5 (aJ:Sty) (pl:List Act) (pat:Int) (r:Prn) (last:Bool) (b:Int) (d:List Act) (a:Sty) (c:Int):List Act×Sty×Int :=
 (B6 (U1 aJ pl pat r last) fun (e:List Act×Sty×Int×Bool)=>(B6 (R1 e.1) fun (f:List UInt8×Int)=>(bif (((!e.2.2.2)||(!decide (f.2=0)))||((decide ((0:Int)≤b))&&(decide (b≤(f.1.length:Int))))) then O6 aJ pl pat r last b d a c else O6 aJ pl pat r last (f.1.length:Int) e.1 e.2.1 e.2.2.1)))
def W0 (aJ:Sty) (pl:List Act) (pat:Int) (r:Prn) (last:Bool):List Act×Sty×Int :=
 (B6 (V4 aJ pl pat r last) fun (a:List Act×Sty×Int×Bool)=>(B6 (R1 a.1) fun (b:List UInt8×Int)=>(bif (((!a.2.2.2)||(!decide (b.2=0)))||false) then O5 aJ pl pat r last (-1) ([]:List Act) (⟨0,0,(⟨0,0⟩:Col),(⟨0,0⟩:Col),(⟨0,0⟩:Col)⟩:Sty) 0 else O5 aJ pl pat r last (b.1.length:Int) a.1 a.2.1 a.2.2.1)))
theorem C5t {c:Bool} {x y:List Act×Sty×Int} {n:Nat} (b:x.1.length≤n) (a:y.1.length≤n):(bif c then x else y).1.length≤n:=by cases c<;>assumption
theorem A6j (pl:List Act) (c:Int) (b:List Act) (s:Sty) (t:Int) (hb:b.length≤322):(O4 pl c b s t).1.length≤pl.length+322:=by
 unfold O4;simp only [List.length_append];omega
theorem A6p (a:Sty) (pl:List Act) (pat:Int) (r:Prn) (last:Bool) (c:Int) (b:List Act) (s:Sty) (t:Int) (hb:b.length≤322):(O6 a pl pat r last c b s t).1.length≤pl.length+322:=by
 unfold O6 B6
 exact C5t (A6j _ _ _ _ _ hb) (A6j _ _ _ _ _ (A2x ..).1)
theorem A6z (a:Sty) (pl:List Act) (pat:Int) (r:Prn) (last:Bool) (c:Int) (b:List Act) (s:Sty) (t:Int) (hb:b.length≤322):(O5 a pl pat r last c b s t).1.length≤pl.length+322:=by
 unfold O5 B6
 exact C5t (A6p _ _ _ _ _ _ _ _ _ hb) (A6p _ _ _ _ _ _ _ _ _ (A2n ..).1)
theorem B0h (aJ:Sty) (pl:List Act) (pat:Int) (r:Prn) (last:Bool) (a:0≤r.many∧r.many≤100):(W0 aJ pl pat r last).1.length≤pl.length+322:=by
 unfold W0 B6
 exact C5t (A6z _ _ _ _ _ _ _ _ _ (Nat.zero_le _)) (A6z _ _ _ _ _ _ _ _ _ (A2w _ _ _ _ _ a).1)
theorem D7i {c:Bool} {x y:List Act×Sty×Int} (d:∀ a ∈ x.1,tk a) (b:∀ a ∈ y.1,tk a):∀ a ∈ (bif c then x else y).1,tk a:=by cases c<;>assumption
theorem A7p (pl:List Act) (c:Int) (b:List Act) (s:Sty) (t:Int) (e:∀ a ∈ pl,tk a) (hb:∀ a ∈ b,tk a):∀ a ∈ (O4 pl c b s t).1,tk a:=by
 unfold O4
 intro a d
 rcases List.mem_append.1 d with d | d
 ·exact e a d
 ·exact hb a d
theorem A7o (e:Sty) (pl:List Act) (pat:Int) (r:Prn) (last:Bool) (c:Int) (b:List Act) (s:Sty) (t:Int) (d:∀ a ∈ pl,tk a) (hb:∀ a ∈ b,tk a):∀ a ∈ (O6 e pl pat r last c b s t).1,tk a:=by
 unfold O6 B6
 exact D7i (A7p _ _ _ _ _ d hb) (A7p _ _ _ _ _ d (A2x ..).2)
theorem A7q (e:Sty) (pl:List Act) (pat:Int) (r:Prn) (last:Bool) (c:Int) (b:List Act) (s:Sty) (t:Int) (d:∀ a ∈ pl,tk a) (hb:∀ a ∈ b,tk a):∀ a ∈ (O5 e pl pat r last c b s t).1,tk a:=by
 unfold O5 B6
 exact D7i (A7o _ _ _ _ _ _ _ _ _ d hb) (A7o _ _ _ _ _ _ _ _ _ d (A2n ..).2)
theorem B7e (aJ:Sty) (pl:List Act) (pat:Int) (r:Prn) (last:Bool) (c:0≤r.many∧r.many≤100) (b:∀ a ∈ pl,tk a):∀ a ∈ (W0 aJ pl pat r last).1,tk a:=by
 unfold W0 B6
 exact D7i (A7q _ _ _ _ _ _ _ _ _ b (fun a d=>by cases d)) (A7q _ _ _ _ _ _ _ _ _ b (A2w _ _ _ _ _ c).2)
theorem B8s {aJ:Sty} {pl:List Act} {pat:Int} {r:Prn} {last:Bool} {pb:Nat} {plr:VR} {R:List Act×Sty×Int} (hR:W0 aJ pl pat r last=R) (a7:bT 6 pl.length plr:=by exact bW) (bw:0≤r.many∧r.many≤100:=by exact bW) (bu:pl.length≤1000000:=by exact bW):Con Tryz.prog 106 [pt pb 0,ag (F5 r),bv last] (bx pb (aI aJ plr pl pat) 197::((vo A0 54 plr pl)++([]))) [U5,U8,J2,M2] ({r:VR // bT 6 R.1.length r}) (fun x=>.tuple #[]) (fun x=>(bx pb (aD R.2.1 [.slice (va x.1.q) R.1.length x.1.k,iv R.2.2]) 197::((vo A0 54 x.1 R.1)++([])))) (fun x=>[]):=by
 refine cC Tryz.func106 fun X hX hr hD=>?_
 replace hR:=(W0.eq_1 ..).symm.trans hR
 have:=bT.le a7
 refine bS rfl (B0j 1 0 [] (fun u=>[(4,pt u 0)]) (fun u=>(bx u (F5 r) 202::bx pb (aI aJ plr pl pat) 197::((vo A0 54 plr pl)++([])))) (fun u=>(ie (C0j (bS rfl (B0j 1 0 [] (fun t=>[(6,pt t 0)]) (fun t=>(bx t aF 259::bx u (F5 r) 202::bx pb (aI aJ plr pl pat) 197::((vo A0 54 plr pl)++([])))) (fun t=>(ie (bS rfl (bP 1 7 rfl (ie (A3 (C0m (nx (A3 (bS rfl (c9 11 0 [] [(23,ag [.func (.func 163) #[pt pb 0] #[],.func (.func 164) #[pt pb 0] #[],.func (.func 165) #[pt pb 0] #[]]),(24,iv 0)] (ie (A9 (Y9 5 ?_))))))))))))))))))))
 refine E7 (bS rfl (bP 1 25 rfl ?_))
 refine ie (A3 (J4 rfl (A4 (nx (A7y (un fun (ab:Int)=>un fun (j:List Act)=>un fun (b:VR)=>un fun (i:Sty) (p:Int)=>(O5 aJ pl pat r last ab j i p=R∧bT 6 j.length b∧j.length≤322,[(0,pt pb 0),(2,bv last),(4,pt u 0),(6,pt t 0),(7,iv ab),(23,ag [.func (.func 163) #[pt pb 0] #[],.func (.func 164) #[pt pb 0] #[],.func (.func 165) #[pt pb 0] #[]]),(24,iv 0)],(bx t (.slice (va b.q) j.length b.k::aD i [iv p]) 259::bx u (F5 r) 202::bx pb (aI aJ plr pl pat) 197::((vo A0 54 plr pl)++((vo A0 54 b j)++([])))),[U5,U8,J2,M2])) ?_ ?_)))))
 ·refine A9 (bS rfl (ix rfl (E8 (v:=ag [.func (.func 163) #[pt pb 0] #[]]) (us:=[.func (.func 163) #[pt pb 0] #[]]) Tryz.underlying263 E6f rfl rfl rfl 0 rfl ozw rfl rfl rfl) ?_))
  refine B0j 2 0 [0] (fun b3=>[(9,pt b3 0)]) (fun b3=>(bx b3 [.func (.func 163) #[pt pb 0] #[]] 262::bx t aF 259::bx u (F5 r) 202::bx pb (aI aJ plr pl pat) 197::((vo A0 54 plr pl)++([])))) (fun b3=>?_)
  refine ie (bS rfl (c9 4 7 [0,2] [(29,.func (.func 163) #[pt pb 0] #[]),(30,ag (F5 r)),(31,bv last)] ?_))
  have hQ:=C4 hR;clear hR;obtain ⟨z,b9,hR⟩:=hQ
  refine it rfl (L6 (L2:=[bx b3 [.func (.func 163) #[pt pb 0] #[]] 262,bx t aF 259,bx u (F5 r) 202]) (B6d (aJ:=aJ) (pl:=pl) (pat:=pat) (r:=r) (p2:=last) (pb:=pb) (plr:=plr) b9 a7 (by first|assumption|exact hel _ (List.mem_cons_self ..)|omega)) rfl rfl rfl rfl rfl A7.refl (I1 [[bx b3 [.func (.func 163) #[pt pb 0] #[]] 262],[bx t aF 259],[bx u (F5 r) 202],[bx pb (aI aJ plr pl pat) 197],vo A0 54 plr pl] [3,4,0,1,2] 5 rfl ozw rfl [[bx pb (aI aJ plr pl pat) 197],vo A0 54 plr pl,[bx b3 [.func (.func 163) #[pt pb 0] #[]] 262],[bx t aF 259],[bx u (F5 r) 202]] rfl opv) (fun ⟨r4,ah⟩=>(bx b3 [.func (.func 163) #[pt pb 0] #[]] 262::bx t aF 259::bx u (F5 r) 202::bx pb (aI aJ plr pl pat) 197::((vo A0 54 plr pl)++((vo A0 54 r4 z.1)++([]))))) (fun ⟨r4,ah⟩=>I1 [[bx pb (aI aJ plr pl pat) 197],vo A0 54 plr pl,vo A0 54 r4 z.1,[bx b3 [.func (.func 163) #[pt pb 0] #[]] 262],[bx t aF 259],[bx u (F5 r) 202]] [3,4,5,0,1,2] 6 rfl ozw opv [[bx b3 [.func (.func 163) #[pt pb 0] #[]] 262],[bx t aF 259],[bx u (F5 r) 202],[bx pb (aI aJ plr pl pat) 197],vo A0 54 plr pl,vo A0 54 r4 z.1] rfl opv)) fun ⟨r4,ah⟩=>?_
  have:=bT.le ah
  have:=bT.cap ah
  have:=A2w aJ pl pat r last (by first|assumption|exact hel _ (List.mem_cons_self ..));try rw [b9] at this
  obtain ⟨_,_⟩:=this
  refine B0j 6 0 [0] (fun b6=>[(10,pt b6 0),(11,bv z.2.2.2)]) (fun b6=>(bx b6 (.slice (va r4.q) z.1.length r4.k::aD z.2.1 [iv z.2.2.1]) 259::bx b3 [.func (.func 163) #[pt pb 0] #[]] 262::bx t aF 259::bx u (F5 r) 202::bx pb (aI aJ plr pl pat) 197::((vo A0 54 plr pl)++((vo A0 54 r4 z.1)++([]))))) (fun b6=>?_)
  refine ie (bS rfl (cF 2 [0] 37 rfl ?_))
  have:=bT.cap ah
  have:=bT.le ah
  have hQ:=C4 hR;clear hR;obtain ⟨y4,b5,hR⟩:=hQ
  refine it rfl (L6 (L2:=(bx b6 (.slice (va r4.q) z.1.length r4.k::aD z.2.1 [iv z.2.2.1]) 259::bx b3 [.func (.func 163) #[pt pb 0] #[]] 262::bx t aF 259::bx u (F5 r) 202::bx pb (aI aJ plr pl pat) 197::((vo A0 54 plr pl)++([])))) (Con.lend (T:=54) ah (B0k (l:=z.1) (lq:=(va r4.q)) (lk:=r4.k) b5 bW bW (by first|exact B7c hel|exact A2p hbm|exact A2p (B6x hwq.1 _)|exact fun x s=>⟨by rw [(hpen x s).2];exact Nat.zero_le _,by rw [(hpen x s).1];decide⟩|exact fun x s=>hnt x s|assumption|decide|exact fun x s=>Nat.le_trans (hrow x s) ozw|exact fun x s=>Nat.le_trans (of_decide_eq_true (List.all_eq_true.1 hbt x s)) ozw|(intro x s;simp only [List.nil_append,List.mem_append] at s;rcases s with s|s<;>first|exact Nat.le_trans (hrow x s) ozw|exact Nat.le_trans (hpt x s) ozw)|(intro x s;rw [List.mem_singleton.1 s];omega)|exact fun x s=>Nat.le_trans (hrow x (List.mem_of_mem_take s)) ozw|exact fun x s=>Nat.le_trans (hrow x (List.mem_of_mem_drop s)) ozw|exact fun x s=>Nat.le_trans (hrow x (List.mem_of_mem_drop (List.mem_of_mem_take s))) ozw|omega))) rfl rfl rfl rfl rfl A7.refl (I1 [[bx b6 (.slice (va r4.q) z.1.length r4.k::aD z.2.1 [iv z.2.2.1]) 259],[bx b3 [.func (.func 163) #[pt pb 0] #[]] 262],[bx t aF 259],[bx u (F5 r) 202],[bx pb (aI aJ plr pl pat) 197],vo A0 54 plr pl,vo A0 54 r4 z.1] [6,0,1,2,3,4,5] 7 rfl ozw rfl [vo A0 54 r4 z.1,[bx b6 (.slice (va r4.q) z.1.length r4.k::aD z.2.1 [iv z.2.2.1]) 259],[bx b3 [.func (.func 163) #[pt pb 0] #[]] 262],[bx t aF 259],[bx u (F5 r) 202],[bx pb (aI aJ plr pl pat) 197],vo A0 54 plr pl] rfl opv) (fun ⟨r7,au⟩=>(bx b6 (.slice (va r4.q) z.1.length r4.k::aD z.2.1 [iv z.2.2.1]) 259::bx b3 [.func (.func 163) #[pt pb 0] #[]] 262::bx t aF 259::bx u (F5 r) 202::bx pb (aI aJ plr pl pat) 197::((vo A0 54 plr pl)++((vo A0 54 r4 z.1)++((vo cI 5 r7 y4.1)++([])))))) (fun ⟨r7,au⟩=>I1 [vo A0 54 r4 z.1,vo cI 5 r7 y4.1,[bx b6 (.slice (va r4.q) z.1.length r4.k::aD z.2.1 [iv z.2.2.1]) 259],[bx b3 [.func (.func 163) #[pt pb 0] #[]] 262],[bx t aF 259],[bx u (F5 r) 202],[bx pb (aI aJ plr pl pat) 197],vo A0 54 plr pl] [2,3,4,5,6,7,0,1] 8 rfl ozw opv [[bx b6 (.slice (va r4.q) z.1.length r4.k::aD z.2.1 [iv z.2.2.1]) 259],[bx b3 [.func (.func 163) #[pt pb 0] #[]] 262],[bx t aF 259],[bx u (F5 r) 202],[bx pb (aI aJ plr pl pat) 197],vo A0 54 plr pl,vo A0 54 r4 z.1,vo cI 5 r7 y4.1] rfl opv)) fun ⟨r7,au⟩=>?_
  have:=bT.le au
  have:=bT.cap au
  try have:=A6n z.1 (fun x s=>Nat.le_trans (hrow x (by first|exact s|exact List.mem_of_mem_take s|exact List.mem_of_mem_drop s)) ozw);try rw [b5] at this
  refine cG 5 12 13 rfl (ie (A3 (bS rfl (bP 3 43 rfl ?_))))
  refine zio 3 10 43 46 (!decide (y4.2=0)) (fun g9=>?_) ?_
  ·refine bP 3 46 rfl ?_
   exact A2 (J0 2 43 46 g9 A7.refl bU rfl rfl rfl rfl rfl)
  refine bP 1 47 rfl ?_
  refine zio 9 0 47 56 false (fun bh=>?_) ?_
  ·have bo:=bV bh
   refine bP 9 56 rfl ?_
   exact A2 (J0 2 47 56 bh A7.refl bU rfl rfl rfl rfl rfl)
  refine ie ?_
  refine zjb rfl hR ?_ ?_<;>clear hR<;>intro hR bd
  ·have az:=bV bd
   refine F4 (Y0 (I1 [vo A0 54 VR.nil ([]:List Act),[bx b6 (.slice (va r4.q) z.1.length r4.k::aD z.2.1 [iv z.2.2.1]) 259],[bx b3 [.func (.func 163) #[pt pb 0] #[]] 262],[bx t aF 259],[bx u (F5 r) 202],[bx pb (aI aJ plr pl pat) 197],vo A0 54 plr pl,vo A0 54 r4 z.1,vo cI 5 r7 y4.1] [3,4,5,6,0,1,2,7,8] 9 rfl ozw rfl [[bx t aF 259],[bx u (F5 r) 202],[bx pb (aI aJ plr pl pat) 197],vo A0 54 plr pl,vo A0 54 VR.nil ([]:List Act),[bx b6 (.slice (va r4.q) z.1.length r4.k::aD z.2.1 [iv z.2.2.1]) 259],[bx b3 [.func (.func 163) #[pt pb 0] #[]] 262],vo A0 54 r4 z.1,vo cI 5 r7 y4.1] rfl opv) ?_)
   exact W8 (-1,([]:List Act),VR.nil,(⟨0,0,(⟨0,0⟩:Col),(⟨0,0⟩:Col),(⟨0,0⟩:Col)⟩:Sty),0) ⟨hR,bT.nil,(by first|assumption|exact Nat.zero_le _)⟩ bU A7.refl
  have az:=bV bd
  refine A4 (nx (A1 5 rfl (zrg 5 0 [0,2] [(7,iv (y4.1.length:Int))] (bx b6 (.slice (va r4.q) z.1.length r4.k::aD z.2.1 [iv z.2.2.1]) 259::bx b3 [.func (.func 163) #[pt pb 0] #[]] 262::bx t (.slice (va r4.q) z.1.length r4.k::aD z.2.1 [iv z.2.2.1]) 259::bx u (F5 r) 202::bx pb (aI aJ plr pl pat) 197::((vo A0 54 plr pl)++((vo A0 54 r4 z.1)++((vo cI 5 r7 y4.1)++([]))))) (A2 ?_))))
  exact W8 ((y4.1.length:Int),z.1,r4,z.2.1,z.2.2.1) ⟨hR,ah,(by first|assumption|exact Nat.zero_le _)⟩ bU A7.refl
 rintro ⟨ab,j,b,i,p⟩
 rintro ⟨hR,aj,c1⟩
 replace hR:=(O5.eq_1 ..).symm.trans hR
 refine A1 2 rfl (ix rfl (B3 (c:=1) rfl rfl rfl rfl ozw) (bP 1 24 rfl (A2 (E7 (bS rfl (bP 1 25 rfl ?_))))))
 refine ie (A3 (J4 rfl (A4 (nx (A7y (un fun (a6:Int)=>un fun (g:List Act)=>un fun (a:VR)=>un fun (h:Sty) (o:Int)=>(O6 aJ pl pat r last a6 g h o=R∧bT 6 g.length a∧g.length≤322,[(0,pt pb 0),(2,bv last),(4,pt u 0),(6,pt t 0),(7,iv a6),(23,ag [.func (.func 163) #[pt pb 0] #[],.func (.func 164) #[pt pb 0] #[],.func (.func 165) #[pt pb 0] #[]]),(24,iv 1)],(bx t (.slice (va a.q) g.length a.k::aD h [iv o]) 259::bx u (F5 r) 202::bx pb (aI aJ plr pl pat) 197::((vo A0 54 plr pl)++((vo A0 54 a g)++([])))),[U5,U8,J2,M2])) ?_ ?_)))))
 ·refine A9 (bS rfl (ix rfl (E8 (v:=ag [.func (.func 164) #[pt pb 0] #[]]) (us:=[.func (.func 164) #[pt pb 0] #[]]) Tryz.underlying263 E6f rfl rfl rfl 1 rfl ozw rfl rfl rfl) ?_))
  refine B0j 2 0 [0] (fun a4=>[(9,pt a4 0)]) (fun a4=>(bx a4 [.func (.func 164) #[pt pb 0] #[]] 262::bx t (.slice (va b.q) j.length b.k::aD i [iv p]) 259::bx u (F5 r) 202::bx pb (aI aJ plr pl pat) 197::((vo A0 54 plr pl)++((vo A0 54 b j)++([]))))) (fun a4=>?_)
  refine ie (bS rfl (c9 4 7 [0,2] [(29,.func (.func 164) #[pt pb 0] #[]),(30,ag (F5 r)),(31,bv last)] ?_))
  have hQ:=C4 hR;clear hR;obtain ⟨y2,bb,hR⟩:=hQ
  refine it rfl (L6 (L2:=(bx a4 [.func (.func 164) #[pt pb 0] #[]] 262::bx t (.slice (va b.q) j.length b.k::aD i [iv p]) 259::bx u (F5 r) 202::((vo A0 54 b j)++([])))) (B4t (aJ:=aJ) (pl:=pl) (pat:=pat) (r:=r) (p2:=last) (pb:=pb) (plr:=plr) bb a7 (by first|assumption|exact hel _ (List.mem_cons_self ..)|omega)) rfl rfl rfl rfl rfl A7.refl (I1 [[bx a4 [.func (.func 164) #[pt pb 0] #[]] 262],[bx t (.slice (va b.q) j.length b.k::aD i [iv p]) 259],[bx u (F5 r) 202],[bx pb (aI aJ plr pl pat) 197],vo A0 54 plr pl,vo A0 54 b j] [3,4,0,1,2,5] 6 rfl ozw rfl [[bx pb (aI aJ plr pl pat) 197],vo A0 54 plr pl,[bx a4 [.func (.func 164) #[pt pb 0] #[]] 262],[bx t (.slice (va b.q) j.length b.k::aD i [iv p]) 259],[bx u (F5 r) 202],vo A0 54 b j] rfl opv) (fun ⟨y,a8⟩=>(bx a4 [.func (.func 164) #[pt pb 0] #[]] 262::bx t (.slice (va b.q) j.length b.k::aD i [iv p]) 259::bx u (F5 r) 202::bx pb (aI aJ plr pl pat) 197::((vo A0 54 plr pl)++((vo A0 54 b j)++((vo A0 54 y y2.1)++([])))))) (fun ⟨y,a8⟩=>I1 [[bx pb (aI aJ plr pl pat) 197],vo A0 54 plr pl,vo A0 54 y y2.1,[bx a4 [.func (.func 164) #[pt pb 0] #[]] 262],[bx t (.slice (va b.q) j.length b.k::aD i [iv p]) 259],[bx u (F5 r) 202],vo A0 54 b j] [3,4,5,0,1,6,2] 7 rfl ozw opv [[bx a4 [.func (.func 164) #[pt pb 0] #[]] 262],[bx t (.slice (va b.q) j.length b.k::aD i [iv p]) 259],[bx u (F5 r) 202],[bx pb (aI aJ plr pl pat) 197],vo A0 54 plr pl,vo A0 54 b j,vo A0 54 y y2.1] rfl opv)) fun ⟨y,a8⟩=>?_
  have:=bT.le a8
  have:=bT.cap a8
  have:=A2n aJ pl pat r last;try rw [bb] at this
  obtain ⟨_,_⟩:=this
  refine B0j 6 0 [0] (fun ac=>[(10,pt ac 0),(11,bv y2.2.2.2)]) (fun ac=>(bx ac (.slice (va y.q) y2.1.length y.k::aD y2.2.1 [iv y2.2.2.1]) 259::bx a4 [.func (.func 164) #[pt pb 0] #[]] 262::bx t (.slice (va b.q) j.length b.k::aD i [iv p]) 259::bx u (F5 r) 202::bx pb (aI aJ plr pl pat) 197::((vo A0 54 plr pl)++((vo A0 54 b j)++((vo A0 54 y y2.1)++([])))))) (fun ac=>?_)
  refine ie (bS rfl (cF 2 [0] 37 rfl ?_))
  have:=bT.cap a8
  have:=bT.le a8
  have hQ:=C4 hR;clear hR;obtain ⟨y8,ba,hR⟩:=hQ
  refine it rfl (L6 (L2:=(bx ac (.slice (va y.q) y2.1.length y.k::aD y2.2.1 [iv y2.2.2.1]) 259::bx a4 [.func (.func 164) #[pt pb 0] #[]] 262::bx t (.slice (va b.q) j.length b.k::aD i [iv p]) 259::bx u (F5 r) 202::bx pb (aI aJ plr pl pat) 197::((vo A0 54 plr pl)++((vo A0 54 b j)++([]))))) (Con.lend (T:=54) a8 (B0k (l:=y2.1) (lq:=(va y.q)) (lk:=y.k) ba bW bW (by first|exact B7c hel|exact A2p hbm|exact A2p (B6x hwq.1 _)|exact fun x s=>⟨by rw [(hpen x s).2];exact Nat.zero_le _,by rw [(hpen x s).1];decide⟩|exact fun x s=>hnt x s|assumption|decide|exact fun x s=>Nat.le_trans (hrow x s) ozw|exact fun x s=>Nat.le_trans (of_decide_eq_true (List.all_eq_true.1 hbt x s)) ozw|(intro x s;simp only [List.nil_append,List.mem_append] at s;rcases s with s|s<;>first|exact Nat.le_trans (hrow x s) ozw|exact Nat.le_trans (hpt x s) ozw)|(intro x s;rw [List.mem_singleton.1 s];omega)|exact fun x s=>Nat.le_trans (hrow x (List.mem_of_mem_take s)) ozw|exact fun x s=>Nat.le_trans (hrow x (List.mem_of_mem_drop s)) ozw|exact fun x s=>Nat.le_trans (hrow x (List.mem_of_mem_drop (List.mem_of_mem_take s))) ozw|omega))) rfl rfl rfl rfl rfl A7.refl (I1 [[bx ac (.slice (va y.q) y2.1.length y.k::aD y2.2.1 [iv y2.2.2.1]) 259],[bx a4 [.func (.func 164) #[pt pb 0] #[]] 262],[bx t (.slice (va b.q) j.length b.k::aD i [iv p]) 259],[bx u (F5 r) 202],[bx pb (aI aJ plr pl pat) 197],vo A0 54 plr pl,vo A0 54 b j,vo A0 54 y y2.1] [7,0,1,2,3,4,5,6] 8 rfl ozw rfl [vo A0 54 y y2.1,[bx ac (.slice (va y.q) y2.1.length y.k::aD y2.2.1 [iv y2.2.2.1]) 259],[bx a4 [.func (.func 164) #[pt pb 0] #[]] 262],[bx t (.slice (va b.q) j.length b.k::aD i [iv p]) 259],[bx u (F5 r) 202],[bx pb (aI aJ plr pl pat) 197],vo A0 54 plr pl,vo A0 54 b j] rfl opv) (fun ⟨an,al⟩=>(bx ac (.slice (va y.q) y2.1.length y.k::aD y2.2.1 [iv y2.2.2.1]) 259::bx a4 [.func (.func 164) #[pt pb 0] #[]] 262::bx t (.slice (va b.q) j.length b.k::aD i [iv p]) 259::bx u (F5 r) 202::bx pb (aI aJ plr pl pat) 197::((vo A0 54 plr pl)++((vo A0 54 b j)++((vo A0 54 y y2.1)++((vo cI 5 an y8.1)++([]))))))) (fun ⟨an,al⟩=>I1 [vo A0 54 y y2.1,vo cI 5 an y8.1,[bx ac (.slice (va y.q) y2.1.length y.k::aD y2.2.1 [iv y2.2.2.1]) 259],[bx a4 [.func (.func 164) #[pt pb 0] #[]] 262],[bx t (.slice (va b.q) j.length b.k::aD i [iv p]) 259],[bx u (F5 r) 202],[bx pb (aI aJ plr pl pat) 197],vo A0 54 plr pl,vo A0 54 b j] [2,3,4,5,6,7,8,0,1] 9 rfl ozw opv [[bx ac (.slice (va y.q) y2.1.length y.k::aD y2.2.1 [iv y2.2.2.1]) 259],[bx a4 [.func (.func 164) #[pt pb 0] #[]] 262],[bx t (.slice (va b.q) j.length b.k::aD i [iv p]) 259],[bx u (F5 r) 202],[bx pb (aI aJ plr pl pat) 197],vo A0 54 plr pl,vo A0 54 b j,vo A0 54 y y2.1,vo cI 5 an y8.1] rfl opv)) fun ⟨an,al⟩=>?_
  have:=bT.le al
  have:=bT.cap al
  try have:=A6n y2.1 (fun x s=>Nat.le_trans (hrow x (by first|exact s|exact List.mem_of_mem_take s|exact List.mem_of_mem_drop s)) ozw);try rw [ba] at this
  refine cG 5 12 13 rfl (ie (A3 (bS rfl (bP 3 43 rfl ?_))))
  refine zio 3 10 43 46 (!decide (y8.2=0)) (fun bi=>?_) ?_
  ·refine bP 3 46 rfl ?_
   exact A2 (J0 2 43 46 bi A7.refl bU rfl rfl rfl rfl rfl)
  refine bP 1 47 rfl ?_
  refine zio 9 0 47 56 ((decide ((0:Int)≤ab))&&(decide (ab≤(y8.1.length:Int)))) (fun b8=>?_) ?_
  ·have bp:=bV b8
   refine bP 3 50 rfl ?_
   refine zid 5 1 50 55 (decide (ab≤(y8.1.length:Int))) (fun bl bm=>?_) ?_
   ·refine bP 5 55 rfl ?_
    exact A2 (J0 2 50 55 bl A7.refl bU rfl rfl rfl rfl rfl)
   refine bP 1 56 rfl ?_
   exact A2 (J0 4 47 56 b8 A7.refl bU rfl rfl rfl rfl rfl)
  refine ie ?_
  refine zjb rfl hR ?_ ?_<;>clear hR<;>intro hR b7
  ·have bc:=bV b7
   refine F4 ?_
   exact W8 (ab,j,b,i,p) ⟨hR,aj,(by first|assumption|exact Nat.zero_le _)⟩ bU A7.refl
  have bc:=bV b7
  refine A4 (nx (A1 5 rfl (zrg 5 0 [0,2] [(7,iv (y8.1.length:Int))] (bx ac (.slice (va y.q) y2.1.length y.k::aD y2.2.1 [iv y2.2.2.1]) 259::bx a4 [.func (.func 164) #[pt pb 0] #[]] 262::bx t (.slice (va y.q) y2.1.length y.k::aD y2.2.1 [iv y2.2.2.1]) 259::bx u (F5 r) 202::bx pb (aI aJ plr pl pat) 197::((vo A0 54 plr pl)++((vo A0 54 b j)++((vo A0 54 y y2.1)++((vo cI 5 an y8.1)++([])))))) (A2 ?_))))
  exact W8 ((y8.1.length:Int),y2.1,y,y2.2.1,y2.2.2.1) ⟨hR,a8,(by first|assumption|exact Nat.zero_le _)⟩ bU A7.refl
 rintro ⟨a6,g,a,h,o⟩
 rintro ⟨hR,ai,c0⟩
 replace hR:=(O6.eq_1 ..).symm.trans hR
 refine A1 2 rfl (ix rfl (B3 (c:=2) rfl rfl rfl rfl ozw) (bP 1 24 rfl (A2 (E7 (bS rfl (bP 1 25 rfl ?_))))))
 refine ie (A3 (J4 rfl (A4 (nx (A7y (un fun (ak:Int)=>un fun (m:List Act)=>un fun (d:VR)=>un fun (e:Sty) (n:Int)=>(O4 pl ak m e n=R∧bT 6 m.length d∧m.length≤322,[(0,pt pb 0),(2,bv last),(4,pt u 0),(6,pt t 0),(7,iv ak),(23,ag [.func (.func 163) #[pt pb 0] #[],.func (.func 164) #[pt pb 0] #[],.func (.func 165) #[pt pb 0] #[]]),(24,iv 2)],(bx t (.slice (va d.q) m.length d.k::aD e [iv n]) 259::bx u (F5 r) 202::bx pb (aI aJ plr pl pat) 197::((vo A0 54 plr pl)++((vo A0 54 d m)++([])))),[U5,U8,J2,M2])) ?_ ?_)))))
 ·refine A9 (bS rfl (ix rfl (E8 (v:=ag [.func (.func 165) #[pt pb 0] #[]]) (us:=[.func (.func 165) #[pt pb 0] #[]]) Tryz.underlying263 E6f rfl rfl rfl 2 rfl ozw rfl rfl rfl) ?_))
  refine B0j 2 0 [0] (fun a3=>[(9,pt a3 0)]) (fun a3=>(bx a3 [.func (.func 165) #[pt pb 0] #[]] 262::bx t (.slice (va a.q) g.length a.k::aD h [iv o]) 259::bx u (F5 r) 202::bx pb (aI aJ plr pl pat) 197::((vo A0 54 plr pl)++((vo A0 54 a g)++([]))))) (fun a3=>?_)
  refine ie (bS rfl (c9 4 7 [0,2] [(29,.func (.func 165) #[pt pb 0] #[]),(30,ag (F5 r)),(31,bv last)] ?_))
  have hQ:=C4 hR;clear hR;obtain ⟨y1,b0,hR⟩:=hQ
  refine it rfl (L6 (L2:=(bx a3 [.func (.func 165) #[pt pb 0] #[]] 262::bx t (.slice (va a.q) g.length a.k::aD h [iv o]) 259::bx u (F5 r) 202::((vo A0 54 a g)++([])))) (B5x (aJ:=aJ) (pl:=pl) (pat:=pat) (r:=r) (last:=last) (pb:=pb) (plr:=plr) b0 a7 (by first|assumption|exact hel _ (List.mem_cons_self ..)|omega)) rfl rfl rfl rfl rfl A7.refl (I1 [[bx a3 [.func (.func 165) #[pt pb 0] #[]] 262],[bx t (.slice (va a.q) g.length a.k::aD h [iv o]) 259],[bx u (F5 r) 202],[bx pb (aI aJ plr pl pat) 197],vo A0 54 plr pl,vo A0 54 a g] [3,4,0,1,2,5] 6 rfl ozw rfl [[bx pb (aI aJ plr pl pat) 197],vo A0 54 plr pl,[bx a3 [.func (.func 165) #[pt pb 0] #[]] 262],[bx t (.slice (va a.q) g.length a.k::aD h [iv o]) 259],[bx u (F5 r) 202],vo A0 54 a g] rfl opv) (fun ⟨w,a9⟩=>(bx a3 [.func (.func 165) #[pt pb 0] #[]] 262::bx t (.slice (va a.q) g.length a.k::aD h [iv o]) 259::bx u (F5 r) 202::bx pb (aI aJ plr pl pat) 197::((vo A0 54 plr pl)++((vo A0 54 a g)++((vo A0 54 w y1.1)++([])))))) (fun ⟨w,a9⟩=>I1 [[bx pb (aI aJ plr pl pat) 197],vo A0 54 plr pl,vo A0 54 w y1.1,[bx a3 [.func (.func 165) #[pt pb 0] #[]] 262],[bx t (.slice (va a.q) g.length a.k::aD h [iv o]) 259],[bx u (F5 r) 202],vo A0 54 a g] [3,4,5,0,1,6,2] 7 rfl ozw opv [[bx a3 [.func (.func 165) #[pt pb 0] #[]] 262],[bx t (.slice (va a.q) g.length a.k::aD h [iv o]) 259],[bx u (F5 r) 202],[bx pb (aI aJ plr pl pat) 197],vo A0 54 plr pl,vo A0 54 a g,vo A0 54 w y1.1] rfl opv)) fun ⟨w,a9⟩=>?_
  have:=bT.le a9
  have:=bT.cap a9
  have:=A2x aJ pl pat r last;try rw [b0] at this
  obtain ⟨_,_⟩:=this
  refine B0j 6 0 [0] (fun ad=>[(10,pt ad 0),(11,bv y1.2.2.2)]) (fun ad=>(bx ad (.slice (va w.q) y1.1.length w.k::aD y1.2.1 [iv y1.2.2.1]) 259::bx a3 [.func (.func 165) #[pt pb 0] #[]] 262::bx t (.slice (va a.q) g.length a.k::aD h [iv o]) 259::bx u (F5 r) 202::bx pb (aI aJ plr pl pat) 197::((vo A0 54 plr pl)++((vo A0 54 a g)++((vo A0 54 w y1.1)++([])))))) (fun ad=>?_)
  refine ie (bS rfl (cF 2 [0] 37 rfl ?_))
  have:=bT.cap a9
  have:=bT.le a9
  have hQ:=C4 hR;clear hR;obtain ⟨y7,ay,hR⟩:=hQ
  refine it rfl (L6 (L2:=(bx ad (.slice (va w.q) y1.1.length w.k::aD y1.2.1 [iv y1.2.2.1]) 259::bx a3 [.func (.func 165) #[pt pb 0] #[]] 262::bx t (.slice (va a.q) g.length a.k::aD h [iv o]) 259::bx u (F5 r) 202::bx pb (aI aJ plr pl pat) 197::((vo A0 54 plr pl)++((vo A0 54 a g)++([]))))) (Con.lend (T:=54) a9 (B0k (l:=y1.1) (lq:=(va w.q)) (lk:=w.k) ay bW bW (by first|exact B7c hel|exact A2p hbm|exact A2p (B6x hwq.1 _)|exact fun x s=>⟨by rw [(hpen x s).2];exact Nat.zero_le _,by rw [(hpen x s).1];decide⟩|exact fun x s=>hnt x s|assumption|decide|exact fun x s=>Nat.le_trans (hrow x s) ozw|exact fun x s=>Nat.le_trans (of_decide_eq_true (List.all_eq_true.1 hbt x s)) ozw|(intro x s;simp only [List.nil_append,List.mem_append] at s;rcases s with s|s<;>first|exact Nat.le_trans (hrow x s) ozw|exact Nat.le_trans (hpt x s) ozw)|(intro x s;rw [List.mem_singleton.1 s];omega)|exact fun x s=>Nat.le_trans (hrow x (List.mem_of_mem_take s)) ozw|exact fun x s=>Nat.le_trans (hrow x (List.mem_of_mem_drop s)) ozw|exact fun x s=>Nat.le_trans (hrow x (List.mem_of_mem_drop (List.mem_of_mem_take s))) ozw|omega))) rfl rfl rfl rfl rfl A7.refl (I1 [[bx ad (.slice (va w.q) y1.1.length w.k::aD y1.2.1 [iv y1.2.2.1]) 259],[bx a3 [.func (.func 165) #[pt pb 0] #[]] 262],[bx t (.slice (va a.q) g.length a.k::aD h [iv o]) 259],[bx u (F5 r) 202],[bx pb (aI aJ plr pl pat) 197],vo A0 54 plr pl,vo A0 54 a g,vo A0 54 w y1.1] [7,0,1,2,3,4,5,6] 8 rfl ozw rfl [vo A0 54 w y1.1,[bx ad (.slice (va w.q) y1.1.length w.k::aD y1.2.1 [iv y1.2.2.1]) 259],[bx a3 [.func (.func 165) #[pt pb 0] #[]] 262],[bx t (.slice (va a.q) g.length a.k::aD h [iv o]) 259],[bx u (F5 r) 202],[bx pb (aI aJ plr pl pat) 197],vo A0 54 plr pl,vo A0 54 a g] rfl opv) (fun ⟨ao,am⟩=>(bx ad (.slice (va w.q) y1.1.length w.k::aD y1.2.1 [iv y1.2.2.1]) 259::bx a3 [.func (.func 165) #[pt pb 0] #[]] 262::bx t (.slice (va a.q) g.length a.k::aD h [iv o]) 259::bx u (F5 r) 202::bx pb (aI aJ plr pl pat) 197::((vo A0 54 plr pl)++((vo A0 54 a g)++((vo A0 54 w y1.1)++((vo cI 5 ao y7.1)++([]))))))) (fun ⟨ao,am⟩=>I1 [vo A0 54 w y1.1,vo cI 5 ao y7.1,[bx ad (.slice (va w.q) y1.1.length w.k::aD y1.2.1 [iv y1.2.2.1]) 259],[bx a3 [.func (.func 165) #[pt pb 0] #[]] 262],[bx t (.slice (va a.q) g.length a.k::aD h [iv o]) 259],[bx u (F5 r) 202],[bx pb (aI aJ plr pl pat) 197],vo A0 54 plr pl,vo A0 54 a g] [2,3,4,5,6,7,8,0,1] 9 rfl ozw opv [[bx ad (.slice (va w.q) y1.1.length w.k::aD y1.2.1 [iv y1.2.2.1]) 259],[bx a3 [.func (.func 165) #[pt pb 0] #[]] 262],[bx t (.slice (va a.q) g.length a.k::aD h [iv o]) 259],[bx u (F5 r) 202],[bx pb (aI aJ plr pl pat) 197],vo A0 54 plr pl,vo A0 54 a g,vo A0 54 w y1.1,vo cI 5 ao y7.1] rfl opv)) fun ⟨ao,am⟩=>?_
  have:=bT.le am
  have:=bT.cap am
  try have:=A6n y1.1 (fun x s=>Nat.le_trans (hrow x (by first|exact s|exact List.mem_of_mem_take s|exact List.mem_of_mem_drop s)) ozw);try rw [ay] at this
  refine cG 5 12 13 rfl (ie (A3 (bS rfl (bP 3 43 rfl ?_))))
  refine zio 3 10 43 46 (!decide (y7.2=0)) (fun bj=>?_) ?_
  ·refine bP 3 46 rfl ?_
   exact A2 (J0 2 43 46 bj A7.refl bU rfl rfl rfl rfl rfl)
  refine bP 1 47 rfl ?_
  refine zio 9 0 47 56 ((decide ((0:Int)≤a6))&&(decide (a6≤(y7.1.length:Int)))) (fun b4=>?_) ?_
  ·have bn:=bV b4
   refine bP 3 50 rfl ?_
   refine zid 5 1 50 55 (decide (a6≤(y7.1.length:Int))) (fun bk bq=>?_) ?_
   ·refine bP 5 55 rfl ?_
    exact A2 (J0 2 50 55 bk A7.refl bU rfl rfl rfl rfl rfl)
   refine bP 1 56 rfl ?_
   exact A2 (J0 4 47 56 b4 A7.refl bU rfl rfl rfl rfl rfl)
  refine ie ?_
  refine zjb rfl hR ?_ ?_<;>clear hR<;>intro hR bg
  ·have be:=bV bg
   refine F4 ?_
   exact W8 (a6,g,a,h,o) ⟨hR,ai,(by first|assumption|exact Nat.zero_le _)⟩ bU A7.refl
  have be:=bV bg
  refine A4 (nx (A1 5 rfl (zrg 5 0 [0,2] [(7,iv (y7.1.length:Int))] (bx ad (.slice (va w.q) y1.1.length w.k::aD y1.2.1 [iv y1.2.2.1]) 259::bx a3 [.func (.func 165) #[pt pb 0] #[]] 262::bx t (.slice (va w.q) y1.1.length w.k::aD y1.2.1 [iv y1.2.2.1]) 259::bx u (F5 r) 202::bx pb (aI aJ plr pl pat) 197::((vo A0 54 plr pl)++((vo A0 54 a g)++((vo A0 54 w y1.1)++((vo cI 5 ao y7.1)++([])))))) (A2 ?_))))
  exact W8 ((y7.1.length:Int),y1.1,w,y1.2.1,y1.2.2.1) ⟨hR,a9,(by first|assumption|exact Nat.zero_le _)⟩ bU A7.refl
 rintro ⟨ak,m,d,e,n⟩
 rintro ⟨hR,a5,bz⟩
 replace hR:=(O4.eq_1 ..).symm.trans hR
 refine A1 2 rfl (ix rfl (B3 (c:=3) rfl rfl rfl rfl ozw) (bP 1 24 rfl (A2 (E7 (bS rfl (bP 1 25 rfl (ie (A3 (A4r rfl (F4 (nx ?_)))))))))))
 have:=bT.cap a5
 have:=bT.le a5
 refine D0y (bx t (.slice (va d.q) m.length d.k::aD e [iv n]) 259::bx u (F5 r) 202::bx pb (aI aJ plr pl pat) 197::((vo A0 54 plr pl)++([]))) [] (T:=54) (c:=A0) (r:=d) (xs:=m) a5 opv ?_
 refine F1c (L':=(bx t (.slice (va d.q) m.length d.k::aD e [iv n]) 259::bx u (F5 r) 202::bx pb (aI aJ plr pl pat) 197::((vo A0 54 plr pl)++([])))) opv ?_
 refine sh' 24 [(24,[bx t (.slice (va d.q) m.length d.k::aD e [iv n]) 259]),(24,[bx u (F5 r) 202]),(16,[bx pb (aI aJ plr pl pat) 197]),(9,vo A0 54 plr pl)] [sl A0 (va d.q) m,U5,U8,J2,M2] (bx t (.slice (va d.q) m.length d.k::aD e [iv n]) 259::bx u (F5 r) 202::bx pb (aI aJ plr pl pat) 197::((vo A0 54 plr pl)++([]))) (cA 24 0) oki rfl oki oki oki bU A7.refl ?_
 refine zhp [0,1,2,3,4,5,7,10,12] 15 (cA 24 5311) [(61,pt pb 0),(62,pt pb 0),(63,pt pb 0),(66,pt pb 8),(68,pt t 0),(71,pt t 1),(73,pt t 9)] ?_
 refine zhl 6 (bx t (.slice (va d.q) m.length d.k::aD e [iv n]) 259::bx u (F5 r) 202::bx pb (aI aJ plr pl pat) 197::((vo A0 54 plr pl)++([]))) (cA 24 5375) rfl (C1 (v:=.slice (va plr.q) pl.length plr.k) C1v rfl rfl 2 rfl rfl) ?_
 refine zhl 8 (bx t (.slice (va d.q) m.length d.k::aD e [iv n]) 259::bx u (F5 r) 202::bx pb (aI aJ plr pl pat) 197::((vo A0 54 plr pl)++([]))) (cA 24 5631) rfl (C1 (v:=.slice (va d.q) m.length d.k) C1v rfl rfl 0 rfl rfl) ?_
 refine zhl 11 [bx t (.slice (va d.q) m.length d.k::aD e [iv n]) 259,bx u (F5 r) 202] (cA 24 7679) rfl (G7 (us:=(aD e [])) B4v rfl rfl 0 rfl rfl rfl) ?_
 refine zhl 13 [bx t (.slice (va d.q) m.length d.k::aD e [iv n]) 259,bx u (F5 r) 202] (cA 24 15871) rfl (C1 (v:=iv n) cH rfl rfl 0 rfl rfl) ?_
 refine zho 9 [bx t (.slice (va d.q) m.length d.k::aD e [iv n]) 259,bx u (F5 r) 202,bx pb (aI aJ plr pl pat) 197] (cA 24 16383) rfl (A4i (f:=A0) (r:=plr) (xs:=pl) (ys:=m) (pre:=[bx t (.slice (va d.q) m.length d.k::aD e [iv n]) 259,bx u (F5 r) 202,bx pb (aI aJ plr pl pat) 197]) (post:=[]) A4u (fun _=>rfl) (fun _=>rfl) rfl rfl rfl rfl rfl rfl rfl rfl (A5 0 rfl) a7 ofv ofv) (fun ⟨aa,af⟩=>bU) (fun ⟨aa,af⟩=>A7.refl) fun ⟨aa,af⟩=>?_
 have:=@List.length_append _ pl m
 have:=bT.le af
 have:=bT.cap af
 refine zhp [14,15] 8 (cA 24 65535) [(76,pt pb 8)] ?_
 refine zho 16 [bx t (.slice (va d.q) m.length d.k::aD e [iv n]) 259,bx u (F5 r) 202] (cA 24 131071) rfl (P4 (us:=[.slice (va aa.q) ((pl++m).length) aa.k]) (cs':=(aD aJ [.slice (va aa.q) ((pl++m).length) aa.k,iv pat])) C1v rfl rfl rfl 2 rfl rfl rfl rfl rfl rfl) (fun _=>bU) (fun _=>A7.refl) fun _=>?_
 refine zhp [17,18,19] 4 (cA 24 1048575) [(79,pt pb 0)] ?_
 refine zho 20 [bx t (.slice (va d.q) m.length d.k::aD e [iv n]) 259,bx u (F5 r) 202] (cA 24 2097151) rfl (P4 (us:=(aD e [])) (cs':=(aD e [.slice (va aa.q) ((pl++m).length) aa.k,iv pat])) B4v rfl rfl rfl 2 rfl rfl rfl rfl rfl rfl) (fun _=>bU) (fun _=>A7.refl) fun _=>?_
 refine zhp [21,22] 1 (cA 24 8388607) [(81,pt pb 9)] ?_
 refine zho 23 [bx t (.slice (va d.q) m.length d.k::aD e [iv n]) 259,bx u (F5 r) 202] (cA 24 16777215) rfl (P4 (us:=[iv n]) (cs':=(aD e [.slice (va aa.q) ((pl++m).length) aa.k,iv n])) cH rfl rfl rfl 2 rfl rfl rfl rfl rfl rfl) (fun _=>bU) (fun _=>A7.refl) fun _=>?_
 refine C0k oki ?_
 subst hR
 exact zen hr hD (B0u rfl) ⟨aa,af⟩ bU bX
def A0s (to_:Int):List Prn→Sty→List Act→Int→(List Act×Sty×Int×Int)
 | [],bheldStyle,bl,bat=>(bl,bheldStyle,bat,0)
 | el::rest,bheldStyle,bl,bat=>(B6 (W0 bheldStyle bl bat el (decide (el.til=to_))) fun (a:List Act×Sty×Int)=>A0s to_ rest a.2.1 a.1 a.2.2)
def A2c (a:List Cel) (from_:Int) (to_:Int) (s:Sty) (e:Int):List Act×Sty×Int×Int :=
 (bif (!decide (e=0)) then (([]:List Act),Sty.zero,0,e) else (bif (((((decide (from_<0))||(decide (to_<from_)))||(decide ((a.length:Int)<to_)))||((decide (from_<(a.length:Int)))&&(decide ((a.getD ((from_).toNat) Cel.zero).wide=2))))||((decide (to_<(a.length:Int)))&&(decide ((a.getD ((to_).toNat) Cel.zero).wide=2)))) then (([]:List Act),Sty.zero,0,2) else A0s to_ (X5 ((I3 a from_ to_).1) ((I3 a from_ to_).2.1) ((I3 a from_ to_).2.2)) s ([]:List Act) to_))
def B5 (a:List Cel) (from_:Int) (to_:Int) (s:Sty):List Act×Sty×Int×Int :=
 (bif (decide ((S1 a false)=0)) then A2c a from_ to_ s (P0 s) else A2c a from_ to_ s (S1 a false))
theorem B6o (to_:Int):∀ (l:List Prn) (s:Sty) (b:List Act) (t:Int),(∀ x ∈ l,0≤x.many∧x.many≤100)→(∀ a ∈ b,tk a)→b.length+400 * l.length≤40000→(∀ a ∈ (A0s to_ l s b t).1,tk a)∧(A0s to_ l s b t).1.length≤40000
 | [],s,b,t,_,h,hl=>⟨h,by simp only [List.length_nil] at hl;show b.length≤40000;omega⟩
 | x::l,s,b,t,hm,h,hl=>by
  rw [A0s,B6]
  simp only [List.length_cons] at hl
  have c:=hm x (List.mem_cons_self ..)
  have e:=B0h s b t x (decide (x.til=to_)) c
  exact B6o to_ l _ _ _ (fun y d=>hm y (List.mem_cons_of_mem _ d)) (B7e s b t x _ c h) opx
theorem B6t (cells:List Cel) (from_ to_:Int) (s:Sty) (e:Int) (g:e=0→S1 cells false=0):(∀ a ∈ (A2c cells from_ to_ s e).1,tk a)∧(A2c cells from_ to_ s e).1.length≤40000∧((A2c cells from_ to_ s e).2.2.2=0→2≤cells.length∧cells.length≤80∧0≤from_∧from_≤to_∧to_≤(cells.length:Int)):=by
 unfold A2c
 by_cases h0:e=0
 ·rw [decide_eq_true h0,Bool.not_true,cond_false]
  have b:=B3b (g h0)
  cases hc:(((((decide (from_<0))||(decide (to_<from_)))||(decide ((cells.length:Int)<to_)))||((decide (from_<(cells.length:Int)))&&(decide ((cells.getD ((from_).toNat) Cel.zero).wide=2))))||((decide (to_<(cells.length:Int)))&&(decide ((cells.getD ((to_).toNat) Cel.zero).wide=2)))) with
  | true=>exact ⟨fun a c=>(by cases c),Nat.zero_le _,fun h=>absurd (show (2:Int)=0 from h) ozw⟩
  | false =>
   simp only [Bool.or_eq_false_iff,decide_eq_false_iff_not] at hc
   have i:=hc.1.1
   have d:=B2l (c0:=from_) (c1:=to_) (c2:=cells) ⟨b.2.2,b.2.1,by omega,by omega⟩
   have f:=B6o to_ (X5 (I3 cells from_ to_).1 (I3 cells from_ to_).2.1 (I3 cells from_ to_).2.2) s [] to_ d.2 (fun a c=>by cases c) (by have:=d.1;have j:(X5 (I3 cells from_ to_).1 (I3 cells from_ to_).2.1 (I3 cells from_ to_).2.2)=X5 from_ to_ cells:=rfl;rw [j,List.length_nil];omega)
   exact ⟨f.1,f.2,fun _=>⟨b.1,b.2.1,by omega,by omega,by omega⟩⟩
 ·rw [decide_eq_false h0,Bool.not_false,cond_true]
  exact ⟨fun a c=>(by cases c),Nat.zero_le _,fun h=>absurd h h0⟩
theorem B6a (b:List Cel) (from_ to_:Int) (s:Sty):(∀ a ∈ (B5 b from_ to_ s).1,tk a)∧(B5 b from_ to_ s).1.length≤40000∧((B5 b from_ to_ s).2.2.2=0→2≤b.length∧b.length≤80∧0≤from_∧from_≤to_∧to_≤(b.length:Int)):=by
 unfold B5
 by_cases h:S1 b false=0
 ·rw [decide_eq_true h];exact B6t b from_ to_ s _ (fun _=>h)
 ·rw [decide_eq_false h];exact B6t b from_ to_ s _ (fun e=>e)
theorem C3p {cells:List Cel} {from_ to_:Int} {s:Sty} {g:Option Addr} {cellsk:Nat} {R:List Act×Sty×Int×Int} (hR:B5 cells from_ to_ s=R) (ah:cells.length≤9223372036854775807:=by exact bW) (ad:cells.length≤cellsk:=by exact bW):Con Tryz.prog 65 [.slice g cells.length cellsk,iv from_,iv to_,ag (D6 s)] [] [sl D8 g cells,U5,U8,J2,M2] ({r:VR // bT 6 R.1.length r}) (fun x=>.tuple #[.slice (va x.1.q) R.1.length x.1.k,ag (D6 R.2.1),iv R.2.2.1,iv R.2.2.2]) (fun x=>((vo A0 54 x.1 R.1)++([]))) (fun x=>[]):=by
 refine cC Tryz.func65 fun X hX hr hD=>?_
 replace hR:=(B5.eq_1 ..).symm.trans hR
 refine bS rfl (D5f 6 0 [] (fun m n o=>[(6,pt m 0),(7,pt n 0),(9,pt o 0)]) (fun m n o=>[bx o (D6 Sty.zero) 65,bx n (D6 s) 65,bx m [iv to_] 3]) (fun m n o=>(ie (bS rfl (c9 2 2 [] [(16,ag _)] (zca (C6m (bC:=false) rfl) cB (bP 1 12 rfl ?_)))))))
 refine ie (A7y (fun e=>(A2c cells from_ to_ s e=R∧(e=e∧(e=0→S1 cells false=0)),[(0,.slice g cells.length cellsk),(1,iv from_),(6,pt m 0),(7,pt n 0),(9,pt o 0),(12,iv e)],[bx o (D6 Sty.zero) 65,bx n (D6 s) 65,bx m [iv to_] 3],[sl D8 g cells,U5,U8,J2,M2])) ?_ ?_)
 ·refine bS rfl (bP 2 19 rfl (ie ?_))
  refine zjd rfl hR ?_ ?_<;>clear hR<;>intro hR h4 ax
  ·refine A1 3 rfl (c9 1 2 [1] [(20,ag _)] (zca (A5w (s:=s) rfl) bX (bP 1 12 rfl (A2 ?_))))
   exact W8 _ ⟨hR,(by rfl),(by first|(intro _;assumption)|exact fun h=>h)⟩ (mk [true,true,true] rfl) A7.refl
  refine A4 ?_
  exact W8 _ ⟨hR,(by rfl),(by first|(intro _;assumption)|exact fun h=>h)⟩ (mk [true,true,true] rfl) A7.refl
 intro e
 rintro ⟨hR,he⟩
 replace hR:=(A2c.eq_1 ..).symm.trans hR
 refine A3 (bS rfl (bP 2 23 rfl ?_))
 refine ie ?_
 refine zjn rfl hR ?_ ?_<;>clear hR<;>intro hR h5 ba
 ·refine bS rfl (zrg 6 0 [0] [(8,.slice none 0 0),(10,iv 0),(11,iv e)] [bx o (D6 Sty.zero) 65,bx n (D6 s) 65,bx m [iv to_] 3] ?_)
  subst hR
  refine ie (A8 ?_)
  exact cD hr hD (F0m rfl (A6 rfl) (F0 (us:=D6 Sty.zero) B4v rfl 0 rfl rfl rfl) (A6 rfl) (A6 rfl)) ⟨VR.nil,bT.nil⟩ (mc [[bx o (D6 Sty.zero) 65],[bx n (D6 s) 65],[bx m [iv to_] 3],vo A0 54 VR.nil ([]:List Act)] [false,false,false,true] opv oxs) bX
 refine A4 (nx (A3 (bS rfl (bP 3 28 rfl ?_))))
 refine zir 4 34 28 32 (decide (to_<from_)) (fun g6 b7=>?_) ?_
 ·refine cF 4 [2] 32 rfl ?_
  exact zai 2 28 _ g6
 refine bP 1 33 rfl ?_
 refine zio 5 28 33 38 (decide (cells.length<to_)) (fun g7=>?_) ?_
 ·have b6:=bV g7
  refine cF 5 [2] 38 rfl ?_
  exact zai 2 33 _ g7
 refine bP 1 39 rfl ?_
 refine zio _ 14 39 52 ((decide (from_<cells.length))&&(decide ((cells.getD ((from_).toNat) Cel.zero).wide=2))) (fun g8=>?_) ?_
 ·have b0:=bV g8
  refine bP 5 44 rfl ?_
  refine zid 7 1 44 51 (decide ((cells.getD ((from_).toNat) Cel.zero).wide=2)) (fun g9 b9=>?_) ?_
  ·refine cG 2 45 46 rfl (K8 0 rfl opx fun az a7=>(ix rfl (F8 A1g rfl rfl a7 rfl _ opx opx) (bP 1 48 rfl (ix rfl (C9 cH rfl rfl (X7 (H2 (sz:=12) a7 (fun _=>rfl) 0 rfl (gd Cel.zero opx)) (ws:=[iv ((cells.getD ((from_).toNat) Cel.zero).wide)]) 3 1 rfl) rfl) (bP 2 51 rfl ?_)))))
   exact zai 7 44 _ g9
  refine bP 1 52 rfl ?_
  exact zai 4 39 _ g8
 refine bP 1 53 rfl ?_
 refine zio _ 0 53 66 ((decide (to_<cells.length))&&(decide ((cells.getD ((to_).toNat) Cel.zero).wide=2))) (fun ak=>?_) ?_
 ·have au:=bV ak
  refine cF 5 [2] 58 rfl ?_
  refine zid 7 1 58 65 (decide ((cells.getD ((to_).toNat) Cel.zero).wide=2)) (fun am an=>?_) ?_
  ·refine pl2 2 [2] 59 60 rfl (K8 0 rfl opx fun aw a8=>(ix rfl (F8 A1g rfl rfl a8 rfl _ opx opx) (bP 1 62 rfl (ix rfl (C9 cH rfl rfl (X7 (H2 (c:=D8) (sz:=12) a8 (fun _=>rfl) 0 rfl (gd Cel.zero opx)) (ws:=[iv ((cells.getD ((to_).toNat) Cel.zero).wide)]) 3 1 rfl) rfl) (bP 2 65 rfl ?_)))))
   exact zai 7 58 _ am
  refine bP 1 66 rfl ?_
  exact zai 4 53 _ ak
 refine ie ?_
 refine zjb rfl hR ?_ ?_<;>clear hR<;>intro hR af
 ·have ac:=bV af
  refine bS rfl (zrg 5 0 [0] [(8,.slice none 0 0),(10,iv 0),(11,iv 2)] [bx o (D6 Sty.zero) 65,bx n (D6 s) 65,bx m [iv to_] 3] ?_)
  subst hR
  refine ie (A8 ?_)
  exact cD hr hD (F0m rfl (A6 rfl) (F0 (us:=D6 Sty.zero) B4v rfl 0 rfl rfl rfl) (A6 rfl) (A6 rfl)) ⟨VR.nil,bT.nil⟩ (mc [[bx o (D6 Sty.zero) 65],[bx n (D6 s) 65],[bx m [iv to_] 3],vo A0 54 VR.nil ([]:List Act)] [false,false,false,true] opv oxs) bX
 have ac:=bV af
 refine A4 (nx (bS rfl (E4i 7 0 [1,2,0] (fun b f=>[(13,pt f 0)]) (fun b f=>[bx f [pt b 0] 193,bx b (aD s [.slice none 0 0,iv to_]) 197,bx o (D6 Sty.zero) 65,bx n (D6 s) 65,bx m [iv to_] 3]) (fun b f=>(ie (A3 (bS rfl (pl3 3 [4] 73 74 75 rfl (it rfl (H1 (L2:=[bx f [pt b 0] 193,bx b (aD s [.slice none 0 0,iv to_]) 197,bx o (D6 Sty.zero) 65,bx n (D6 s) 65,bx m [iv to_] 3]) (D6u (l:=cells) (from_:=from_) (to_:=to_) (lq:=g) (lk:=cellsk) rfl) rfl rfl rfl rfl rfl cB (List.Perm.refl _) (fun ⟨a3,a4,a5,⟨⟨a0,a6⟩,aa⟩⟩=>[bx a3 [iv ((I3 cells from_ to_).1)] 3,bx f [pt b 0] 193,bx b (aD s [.slice none 0 0,iv to_]) 197,bx o (D6 Sty.zero) 65,bx n (D6 s) 65,bx m [iv to_] 3]) (fun _=>rfl)) fun ⟨a3,a4,a5,⟨⟨a0,a6⟩,aa⟩⟩=>?_)))))))))
 obtain ⟨ar,ap⟩:=aa
 refine ie (A9 (Y0 (I1 [_,_,_,_,_,_,_] [2,3,4,5,6,0,1] 7 rfl ozw rfl [[_],[_],[_],[_],[_],vo A0 54 VR.nil [],[_]] rfl opv) ?_))
 refine D0f [(6,_),(9,_),(13,_),(76,.func _ _ #[pt a3 0,pa a4,pa a5])] ⟨rfl,rfl,rfl,rfl,trivial⟩ ?_
 refine E6k (β:=Prn) (enc:=(fun x=>ag (F5 x))) (xs:=(X5 ((I3 cells from_ to_).1) ((I3 cells from_ to_).2.1) ((I3 cells from_ to_).2.2))) (σ:=Sty×List Act×VR×Int) hr rfl (D1v ((I3 cells from_ to_).1) ((I3 cells from_ to_).2.1) ((I3 cells from_ to_).2.2) a3 a4 a5 a0 a6 okl okl (by have y:=B3b (he.2 ojv);exact ⟨y.2.2,y.2.1,by show 0≤from_;omega,by show to_≤(cells.length:Int);omega⟩) _ rfl) cB rfl rfl (fun a2 x=>A0s to_ a2 x.1 x.2.1 x.2.2.2=R∧bT 6 x.2.1.length x.2.2.1∧(∀ x ∈ a2,0≤x.many∧x.many≤100)∧x.2.1.length+400 * a2.length≤40000) (fun _ _=>False) (fun x=>(bx f [pt b 0] 193::bx b (aD x.1 [.slice (va x.2.2.1.q) x.2.1.length x.2.2.1.k,iv x.2.2.2]) 197::bx o (D6 Sty.zero) 65::bx n (D6 s) 65::bx m [iv to_] 3::((vo A0 54 x.2.2.1 x.2.1)++([])))) (fun x=>[at_ a4 [iv ((I3 cells from_ to_).2.1)],at_ a5 [.slice a0 (((I3 cells from_ to_).2.2).length) a6],sl D8 a0 ((I3 cells from_ to_).2.2),sl D8 g cells,U5,U8,J2,M2]) (s,([]:List Act),VR.nil,to_) (by exact ⟨hR,bT.nil,(by exact (B2l (by have y:=B3b (he.2 ojv);exact ⟨y.2.2,y.2.1,by show 0≤from_;omega,by show to_≤(cells.length:Int);omega⟩)).2),(by have:=(B2l (c0:=from_) (c1:=to_) (c2:=cells) (by have y:=B3b (he.2 ojv);exact ⟨y.2.2,y.2.1,by omega,by omega⟩)).1;have e:X5 (I3 cells from_ to_).1 (I3 cells from_ to_).2.1 (I3 cells from_ to_).2.2=X5 from_ to_ cells:=rfl;rw [e];simp only [List.length_nil];omega)⟩) (mc [[bx f [pt b 0] 193],[bx b (aD s [.slice none 0 0,iv to_]) 197],[bx o (D6 Sty.zero) 65],[bx n (D6 s) 65],[bx m [iv to_] 3],vo A0 54 VR.nil ([]:List Act),[bx a3 [iv ((I3 cells from_ to_).1)] 3]] [true,true,true,true,true,true,true] opv oxs) A7.refl ?_ ?_ (fun _ _ _ _ h=>h.elim)
 ·rintro el rest ⟨a,p,d,j⟩ hI Y Y' K' bc hK
  try dsimp only at hI
  obtain ⟨hR,t,a9,ab⟩:=hI
  replace hR:=(A0s.eq_2 ..).symm.trans hR
  have:=bT.le t
  refine A1 2 rfl (B0j 2 0 [0] (fun w=>[(14,pt w 0)]) (fun w=>(bx w (F5 el) 202::bx f [pt b 0] 193::bx b (aD a [.slice (va d.q) p.length d.k,iv j]) 197::bx o (D6 Sty.zero) 65::bx n (D6 s) 65::bx m [iv to_] 3::((vo A0 54 d p)++([])))) (fun w=>(A2 (hK _ _ _ ?_))))
  refine A9 (A1 7 rfl (c9 6 1 [1,0,0,5] [(78,pt b 0),(79,ag (F5 el)),(83,bv (decide (el.til=to_)))] ?_))
  have hQ:=C4 hR;clear hR;obtain ⟨u,ai,hR⟩:=hQ
  refine it rfl (L6 (L2:=[bx w (F5 el) 202,bx f [pt b 0] 193,bx o (D6 Sty.zero) 65,bx n (D6 s) 65,bx m [iv to_] 3]) (B8s (aJ:=a) (pl:=p) (pat:=j) (r:=el) (last:=(decide (el.til=to_))) (pb:=b) (plr:=d) ai t (by first|assumption|exact a9 _ (List.mem_cons_self ..)|omega)) rfl rfl rfl rfl rfl cB (I1 [[bx w (F5 el) 202],[bx f [pt b 0] 193],[bx b (aD a [.slice (va d.q) p.length d.k,iv j]) 197],[bx o (D6 Sty.zero) 65],[bx n (D6 s) 65],[bx m [iv to_] 3],vo A0 54 d p] [2,6,0,1,3,4,5] 7 rfl ozw rfl [[bx b (aD a [.slice (va d.q) p.length d.k,iv j]) 197],vo A0 54 d p,[bx w (F5 el) 202],[bx f [pt b 0] 193],[bx o (D6 Sty.zero) 65],[bx n (D6 s) 65],[bx m [iv to_] 3]] rfl opv) (fun ⟨i,z⟩=>(bx b (aD u.2.1 [.slice (va i.q) u.1.length i.k,iv u.2.2]) 197::bx w (F5 el) 202::bx f [pt b 0] 193::bx o (D6 Sty.zero) 65::bx n (D6 s) 65::bx m [iv to_] 3::((vo A0 54 i u.1)++([])))) (fun ⟨i,z⟩=>I1 [[bx b (aD u.2.1 [.slice (va i.q) u.1.length i.k,iv u.2.2]) 197],vo A0 54 i u.1,[bx w (F5 el) 202],[bx f [pt b 0] 193],[bx o (D6 Sty.zero) 65],[bx n (D6 s) 65],[bx m [iv to_] 3]] [0,2,3,4,5,6,1] 7 rfl ozw opv [[bx b (aD u.2.1 [.slice (va i.q) u.1.length i.k,iv u.2.2]) 197],[bx w (F5 el) 202],[bx f [pt b 0] 193],[bx o (D6 Sty.zero) 65],[bx n (D6 s) 65],[bx m [iv to_] 3],vo A0 54 i u.1] rfl opv)) fun ⟨i,z⟩=>?_
  have:=bT.le z
  have:=bT.cap z
  have:=B0h a p j el (decide (el.til=to_)) (a9 _ (List.mem_cons_self ..));try rw [ai] at this
  refine A2 (Y0 (I1 [_,_,_,_,_,_,_] [2,0,3,4,5,6,1] 7 rfl ozw rfl [[_],[_],[_],[_],[_],vo _ _ i _,[_]] rfl opv) ?_)
  exact A9f (I:=fun a2 x=>A0s _ a2 x.1 x.2.1 x.2.2.2=R∧bT 6 x.2.1.length x.2.2.1∧(∀ x ∈ a2,0≤x.many∧x.many≤100)∧x.2.1.length+400 * a2.length≤40000) (Jx:=fun _ _=>False) (Lk:=fun x=>(bx f _ _::bx b (aD x.1 [.slice (va x.2.2.1.q) x.2.1.length x.2.2.1.k,iv x.2.2.2]) _::bx o _ _::bx n _ _::bx m _ 3::((vo _ _ x.2.2.1 x.2.1)++([])))) (_,u.1,i,_) (by exact ⟨hR,z,(by exact fun x hx=>a9 x (List.mem_cons_of_mem _ hx)),(by dsimp only;simp only [List.length_cons] at ab;omega)⟩) (mc [[_],[_],[_],[_],[_],_,_] [true,true,true,true,true,true,false] opv oxs) A7.refl
 ·rintro ay ⟨a,p,d,j⟩ ae hI
  try dsimp only at hI
  obtain ⟨hR,t,a9,ab⟩:=hI
  replace hR:=(A0s.eq_1 ..).symm.trans hR
  have:=bT.le t
  refine nx ?_
  refine sh 17 [(17,[bx f [pt b 0] 193]),(17,[bx b (aD a [.slice (va d.q) p.length d.k,iv j]) 197]),(14,[bx o (D6 Sty.zero) 65]),(17,[bx n (D6 s) 65]),(17,[bx m [iv to_] 3]),(17,vo A0 54 d p)] _ _ (cA 17 0) oki rfl oki oki oki (mc [[_],[_],[_],[_],[_],_] [true,true,true,true,true,true] opv oxs) A7.refl ?_
  refine zhl 0 (bx f [_] 193::bx b (aD a [.slice (va d.q) p.length d.k,iv j]) 197::bx o (D6 Sty.zero) 65::bx n (D6 s) 65::bx m [iv to_] 3::((vo A0 54 d p)++([]))) (cA 17 1) rfl (C1 (v:=pt b 0) E6x rfl rfl 0 rfl rfl) ?_
  refine zhp [1,2] 14 (cA 17 7) [(87,pt b 8)] ?_
  refine zhl 3 (bx f [pt b 0] 193::bx b (aD a [_,iv j]) 197::bx o (D6 Sty.zero) 65::bx n (D6 s) 65::bx m [iv to_] 3::((vo A0 54 d p)++([]))) (cA 17 15) rfl (C1 (v:=.slice (va d.q) p.length d.k) C1v rfl rfl 1 rfl rfl) ?_
  refine zhp [13] 12 (cA 17 8207) [(8,.slice (va d.q) p.length d.k)] ?_
  refine zhl 4 (bx f [_] 193::bx b (aD a [.slice (va d.q) p.length d.k,iv j]) 197::bx o (D6 Sty.zero) 65::bx n (D6 s) 65::bx m [iv to_] 3::((vo A0 54 d p)++([]))) (cA 17 8223) rfl (C1 (v:=pt b 0) E6x rfl rfl 0 rfl rfl) ?_
  refine zhp [5,6,7] 8 (cA 17 8447) [(92,pt b 0)] ?_
  refine zhl 8 (bx f [pt b 0] 193::bx b (aD a [.slice (va d.q) p.length d.k,iv j]) 197::bx o (D6 Sty.zero) 65::bx n (D6 s) 65::bx m [iv to_] 3::((vo A0 54 d p)++([]))) (cA 17 8703) rfl (G7 (us:=(aD a [])) B4v rfl rfl 1 rfl rfl rfl) ?_
  refine zhl 9 (bx f [_] 193::bx b (aD a [.slice (va d.q) p.length d.k,iv j]) 197::bx n (D6 s) 65::bx m [iv to_] 3::((vo A0 54 d p)++([]))) (cA 17 9215) rfl (C1 (v:=pt b 0) E6x rfl rfl 0 rfl rfl) ?_
  refine zhp [10,11] 4 (cA 17 12287) [(96,pt b 9)] ?_
  refine zhl 12 (bx f [pt b 0] 193::bx b (aD a [.slice (va d.q) p.length d.k,_]) 197::bx n (D6 s) 65::bx m [iv to_] 3::((vo A0 54 d p)++([]))) (cA 17 16383) rfl (C1 (v:=iv j) cH rfl rfl 1 rfl rfl) ?_
  refine zho 14 (bx f [pt b 0] 193::bx b (aD a [.slice (va d.q) p.length d.k,iv j]) 197::bx n (D6 s) 65::bx m [iv to_] 3::((vo A0 54 d p)++([]))) (cA 17 32767) rfl (P4 (us:=(aD a [])) (cs':=D6 a) B4v rfl rfl rfl 2 rfl rfl rfl rfl rfl rfl) (fun _=>(mc [[bx f [pt b 0] 193],[bx b (aD a [.slice (va d.q) p.length d.k,iv j]) 197],[bx o (D6 a) 65],[bx n (D6 s) 65],[bx m [iv to_] 3],vo A0 54 d p] [true,true,false,true,true,true] opv oxs)) (fun _=>A7.refl) fun _=>?_
  refine zhp [15,16] 0 (cA 17 131071) [(10,iv j),(11,iv 0)] ?_
  refine B4u oki ?_
  subst hR
  refine A8 ?_
  exact B4c rfl ⟨hr,hD⟩ (by exact (N2.cons (show N2 X.D by rw [hD];exact N2.nil) ae)) (F0m rfl (A6 rfl) (F0 B4v rfl 2 rfl rfl rfl) (A6 rfl) (A6 rfl)) ⟨d,t⟩ (by rfl) (mc [[_],[_],[_],[_],[_],_] [false,false,false,false,false,true] opv oxs) bX
@[reducible] def aB:List MapEntry := [⟨iv 44,aC 187,0⟩,⟨iv 45,aC 190,1⟩,⟨iv 46,aC 193,2⟩]
@[reducible] def aA:Obj := .map (List.toArray aB) 3
theorem E8q:MapTy Tryz.prog 221 3 190 (.int .i64):=⟨by kernel_rfl,by kernel_rfl,rfl⟩
theorem B0n:SlTy Tryz.prog 22 70 1:=⟨by kernel_rfl,by kernel_rfl⟩
def D1i:Unit :=
 ()
theorem D5p {R:Unit} (hR:D1i=R):Con Tryz.prog 117 [] [] [] (Nat) (fun x=>.map (some x)) (fun x=>[(x,aA)]) (fun x=>[]):=by
 refine cC Tryz.func117 fun X hX hr hD=>?_
 replace hR:=(D1i.eq_1 ..).symm.trans hR
 refine bS rfl (ip' 1 0 [] (ie (bS rfl (it rfl (B5f rfl) fun a=>?_))))
 refine E7z (m:=2) (mo:=1) (es':=aB) E8q rfl 0 3 1 0 _ _ rfl oki ?_
 refine B4m (L':=[(a,aA)]) rfl ?_
 refine bP 2 0 rfl ?_
 subst hR
 refine ie (A8 ?_)
 exact cD hr hD (K7 rfl (A6 rfl)) a bU bX
def A9h (c:Int) (d:Int) (a:Col) (b:List UInt8):Option (List UInt8) :=
 (Option.bind (A7r true) fun (r:Unit)=>(Option.bind (B2w (⟨44,c,d,a,b⟩:Act)) fun (e:List UInt8)=>(some e)))
theorem D3a {d c:Int} {b:Col} {a:List UInt8} {e:Addr} {R:Option (List UInt8)} (hR:A9h d c b a=R) (o:a.length≤100000000:=by exact bW):D2w Tryz.prog 116 [pa e] [] [at_ e (A0 (⟨44,d,c,b,a⟩:Act))] A7n R (fun r=>sv r):=by
 refine B6y (n:=16) Tryz.func116 rfl oki rfl rfl [(0,_)] ⟨rfl,trivial⟩ fun X hX hr hD=>?_
 replace hR:=(A9h.eq_1 ..).symm.trans hR
 refine bS rfl (pp0 1 rfl (ie (zS [] ?_)))
 refine hq1 [1] 6 rfl ?_
 refine gk 2 rfl (C9 cH rfl rfl (A0i (A5 0 rfl) (ws:=[iv 44]) 1 rfl) rfl) ?_
 refine gc 0 [] rfl (D5p rfl) fun l=>?_
 refine go 3 [] rfl (Det.tri (J9.det (E1l (v:=aC 187) (j:=0) E8q rfl rfl rfl 0 rfl oki))) fun _=>?_
 refine hqV [4,5,6,7,8] [(2,aC 187),(3,bv true)] ?_
 refine ge ?_
 refine bS rfl (bP 1 11 rfl ?_)
 refine B3t (B8b rfl) rfl rfl rfl rfl rfl rfl bX (List.Perm.refl _) (fun r f=>?_) (fun k=>?_)
 ·replace hR:=D1w hR f
  have h:=B1r f;try simp only [Bool.and_eq_true,decide_eq_true_eq] at h
  refine ie (bS rfl (ip' 1 3 [(13,aC 187)] (ix rfl (K3 C8e rfl rfl (A5 0 rfl) rfl) ?_)))
  refine B3t (C9y rfl) rfl rfl rfl rfl rfl rfl bX (List.Perm.refl _) (fun m i=>?_) (fun g=>?_)
  ·replace hR:=D1w hR i
   refine bP 1 1 rfl (ie (A8 ?_))
   exact D4i rfl ⟨hr,hD⟩ (by simp [hD]) (K7 rfl (A6 rfl)) hR.symm rfl
  ·replace hR:=C9l hR g
   exact A5a ⟨hr,hD⟩ hR.symm
 ·replace hR:=C9l hR k
  exact A5a ⟨hr,hD⟩ hR.symm
def C0n (d:Int) (c:Int) (a:Col) (b:List UInt8):List UInt8×Int :=
 (bif (!((C9a (A9h d c a b)).2)) then (([]:List UInt8),2) else ((C9a (A9h d c a b)).1,0))
theorem E0a {d c:Int} {a:Col} {b:List UInt8} {R:List UInt8×Int} (hR:C0n d c a b=R) (g:b.length≤100000000:=by exact bW):J5 Tryz.prog 78 [ag (A0 (⟨44,d,c,a,b⟩:Act))] [] (.tuple #[sv R.1,iv R.2]):=by
 refine cC Tryz.func78 fun X hX hr hD=>?_
 replace hR:=(C0n.eq_1 ..).symm.trans hR
 refine bS rfl (it rfl (A0h rfl rfl rfl) fun e=>?_)
 refine A3w 0 rfl ?_
 refine pp0 2 rfl (ie (bS rfl (ip' 1 6 [(7,_)] (zv rfl (F1u _ (D3a rfl)) (cG 5 4 5 rfl (ie (A3 (bS rfl (bP 2 12 rfl (ie ?_))))))))))
 refine zjb rfl hR ?_ ?_<;>clear hR<;>intro hR f
 ·refine bS rfl (cG 2 2 3 rfl ?_)
  subst hR
  refine ie (A8 ?_)
  exact B4w hr hD
 refine A4 (nx (bS rfl (cG 3 2 3 rfl ?_)))
 subst hR
 refine ie (A8 ?_)
 exact B4w hr hD
def A1z (e:Int) (d:Int) (a:Col) (b:List UInt8):Int :=
 (B6 (C0n e d a b) fun (c:List UInt8×Int)=>(bif (!decide (c.2=0)) then 200 else 0))
theorem C8f {d c:Int} {a:Col} {b:List UInt8} {R:Int} (hR:A1z d c a b=R) (j:b.length≤100000000:=by exact bW):J5 Tryz.prog 49 [ag (A0 (⟨44,d,c,a,b⟩:Act))] [] (iv R):=by
 refine cC Tryz.func49 fun X hX hr hD=>?_
 replace hR:=(A1z.eq_1 ..).symm.trans hR
 refine bS rfl (zra 2 [] (fun f=>[(1,pt f 0)]) (fun _=>(A0 ⟨44,d,c,a,b⟩)) 54 fun f=>(ie (bS rfl (bP 1 3 rfl (ie (A3 (bS rfl (cF 2 [0] 7 rfl (ie (A9 (bS rfl (bP 2 44 rfl (ie (A4r rfl (bS rfl (bP 2 59 rfl (ie (A4r rfl (A3 (bS rfl (bP 2 63 rfl (ie (J4 rfl (A4 (nx (J4 rfl (A1 6 rfl (c9 1 5 [0] [(68,ag (A0 ⟨44,d,c,a,b⟩))] ?_))))))))))))))))))))))))))))
 have g:=C4 hR;clear hR;obtain ⟨k,e,hR⟩:=g
 refine zv rfl (E0a e) (bP 4 3 rfl (A2 (nx (A3 (bS rfl (bP 2 73 rfl (ie ?_)))))))
 refine zjn rfl hR ?_ ?_<;>clear hR<;>intro hR i h
 ·refine bS rfl (bP 1 2 rfl ?_)
  subst hR
  refine ie (A8 ?_)
  exact F7 hr hD
 refine A4 (nx (bS rfl (bP 1 2 rfl ?_)))
 subst hR
 refine ie (A8 ?_)
 exact F7 hr hD
def O8 (f:FrmC):List (List Cel)→Bool→Nat→Int
 | [],ok,t77=>(bif (!ok) then 330 else 0)
 | hd_l0::tl_l0,ok,t77=>(bif (!((ok&&(decide ((hd_l0.length:Int)=f.cols)))&&(decide ((S1 hd_l0 false)=0)))) then (bif (!((ok&&(decide ((hd_l0.length:Int)=f.cols)))&&(decide ((S1 hd_l0 false)=0)))) then 330 else 0) else O8 f tl_l0 ((ok&&(decide ((hd_l0.length:Int)=f.cols)))&&(decide ((S1 hd_l0 false)=0))) (t77+1))
def P2 (f:FrmC) (fR:List (List Cel)):Int :=
 O8 f fR (((((((((((decide ((2:Int)≤f.cols))&&(decide (f.cols≤80)))&&(decide ((1:Int)≤(fR.length:Int))))&&(decide ((fR.length:Int)≤40)))&&(decide ((0:Int)≤f.cursor.row)))&&(decide (f.cursor.row<(fR.length:Int))))&&(decide ((0:Int)≤f.cursor.col)))&&(decide (f.cursor.col<f.cols)))&&(decide ((0:Int)≤f.shape)))&&(decide (f.shape≤6)))&&(decide ((A1z 0 0 Col.zero f.title)=0))) 0
theorem A9p (f:FrmC):∀ (a:List (List Cel)) (c:Bool) (t:Nat),O8 f a c t=0→c=true∧∀ r ∈ a,(r.length:Int)=f.cols∧S1 r false=0
 | [],c,t=>by cases c<;>simp [O8]
 | r::a,c,t=>by
  intro h
  simp only [O8] at h
  generalize hb:((c&&decide ((r.length:Int)=f.cols))&&decide (S1 r false=0))=b at h
  cases b with
  | false=>simp at h
  | true =>
   have e:=A9p f a true (t+1) (by simpa using h)
   simp only [Bool.and_eq_true,decide_eq_true_eq] at hb
   refine ⟨hb.1.1,fun x d=>?_⟩
   rcases List.mem_cons.1 d with rfl | d
   ·exact ⟨hb.1.2,hb.2⟩
   ·exact e.2 x d
theorem B9n {f:FrmC} {fR:List (List Cel)} (h:P2 f fR=0) :
  2≤f.cols∧f.cols≤80∧1≤fR.length∧fR.length≤40∧∀ i,i<fR.length→((fR.getD i []).length:Int)=f.cols:=by
 unfold P2 at h
 obtain ⟨b,c⟩:=A9p _ _ _ _ h
 simp only [Bool.and_eq_true,decide_eq_true_eq] at b
 refine ⟨by omega,by omega,by omega,by omega,fun i a=>?_⟩
 have:=(c _ (List.getElem_mem a)).1
 simpa [List.getD_eq_getElem?_getD,a] using this
theorem B6b {f:FrmC} {fR:List (List Cel)} {fQ:Option Addr} {fZ:List Slc} {fK:Nat} {R:Int} (hR:P2 f fR=R) (a:B4 fZ fR:=by exact bW) (j:fR.length≤9223372036854775807:=by exact bW) (s:fR.length≤fK:=by exact bW) (hT:f.title.length≤100000000:=by exact bW):J5 Tryz.prog 28 [ag (C2 f ⟨fQ,fR.length,fK⟩)] [sl D9 fQ fZ,D5 D8 fZ fR,U5,U8] (iv R):=by
 refine cC Tryz.func28 fun X hX hr hD=>?_
 replace hR:=(P2.eq_1 ..).symm.trans hR
 have:=a.1
 refine bS rfl (zra 2 [] (fun w=>[(1,pt w 0)]) (fun _=>(C2 f ⟨fQ,fR.length,fK⟩)) 26 fun w=>(ie (C0j (bS rfl (cF 4 [0] 9 rfl ?_)))))
 refine zid 4 13 9 13 (decide (f.cols≤80)) (fun g2 ai=>?_) ?_
 ·refine cF 4 [0] 13 rfl ?_
  exact zai 2 9 _ g2
 refine bP 1 14 rfl ?_
 refine zia 5 7 14 19 (decide (1≤(fR.length:Int))) (fun g3=>?_) ?_
 ·have ae:=bV g3
  refine cF 5 [0] 19 rfl ?_
  exact zai 2 14 _ g3
 refine bP 1 20 rfl ?_
 refine zia 5 1 20 25 (decide ((fR.length:Int)≤40)) (fun g4=>?_) ?_
 ·have aj:=bV g4
  refine cF 5 [0] 25 rfl ?_
  exact zai 2 20 _ g4
 refine bP 1 3 rfl (ie (bS rfl (bP 2 27 rfl ?_)))
 refine zia 5 24 27 32 (decide (0≤f.cursor.row)) (fun g5=>?_) ?_
 ·have af:=bV g5
  refine cF 5 [0] 32 rfl ?_
  exact zai 2 27 _ g5
 refine bP 1 33 rfl ?_
 refine zia 8 15 33 41 (decide (f.cursor.row<fR.length)) (fun y=>?_) ?_
 ·have aa:=bV y
  refine cF 8 [0,0] 41 rfl ?_
  exact zai 2 33 _ y
 refine bP 1 42 rfl ?_
 refine zia 5 9 42 47 (decide (0≤f.cursor.col)) (fun g7=>?_) ?_
 ·have a9:=bV g7
  refine cF 5 [0] 47 rfl ?_
  exact zai 2 42 _ g7
 refine bP 1 48 rfl ?_
 refine zia 7 1 48 55 (decide (f.cursor.col<f.cols)) (fun g8=>?_) ?_
 ·have ak:=bV g8
  refine cF 7 [0,0] 55 rfl ?_
  exact zai 2 48 _ g8
 refine bP 1 3 rfl (ie (bS rfl (bP 2 57 rfl ?_)))
 refine zia 4 13 57 61 (decide (0≤f.shape)) (fun g9=>?_) ?_
 ·have ab:=bV g9
  refine cF 4 [0] 61 rfl ?_
  exact zai 2 57 _ g9
 refine bP 1 62 rfl ?_
 refine zia 4 8 62 66 (decide (f.shape≤6)) (fun t=>?_) ?_
 ·have a2:=bV t
  refine cF 4 [0] 66 rfl ?_
  exact zai 2 62 _ t
 refine bP 1 67 rfl ?_
 refine zia 6 1 67 73 (decide ((A1z 0 0 Col.zero f.title)=0)) (fun l=>?_) ?_
 ·have a0:=bV l
  refine c9 3 3 [0] [(70,ag (A0 ({Act.zero with kind:=44,text:=f.title})))] (zv rfl (C8f rfl) (bP 2 73 rfl ?_))
  exact zai 4 67 _ l
 refine bP 1 3 rfl (ie (A3 (C0m (nx (A3 (bS rfl (pl3 4 [0] 75 76 77 rfl (ie (A9 (A3q (un fun m b=>(b≤fR.length∧O8 f (fR.drop b) m b=R,[(1,_),(3,bv m),(75,.slice fQ fR.length fK),(76,iv fR.length),(77,iv b)],[_],_,fR.length - b)) ((((((((((((decide ((2:Int)≤f.cols))&&(decide (f.cols≤80)))&&(decide ((1:Int)≤(fR.length:Int))))&&(decide ((fR.length:Int)≤40)))&&(decide ((0:Int)≤f.cursor.row)))&&(decide (f.cursor.row<(fR.length:Int))))&&(decide ((0:Int)≤f.cursor.col)))&&(decide (f.cursor.col<f.cols)))&&(decide ((0:Int)≤f.shape)))&&(decide (f.shape≤6)))&&(decide ((A1z 0 0 Col.zero f.title)=0))),0) ⟨opx,hR⟩ bU A7.refl ?_))))))))))
 rintro ⟨m,b⟩ ⟨z,hR⟩
 refine bS rfl (bP 1 78 rfl ?_)
 refine ie (A3 (G4 rfl (fun h=>?_) (fun h=>?_)))
 ·have g:=bV h
  rw [A1b [] (show b<fR.length by omega)] at hR;replace hR:=(O8.eq_2 ..).symm.trans hR
  refine A4 (nx (A3 (A9 (bS rfl (K8 0 rfl (by have:=a.1;omega) fun ac e=>(D7 (V8 (k:=b) (d:=⟨none,0,0⟩) a 1 rfl (by have:=a.1;omega)) ?_))))))
  have:=V9 a (k:=b) (d:=(⟨none,0,0⟩:Slc)) (by have:=a.1;omega)
  refine ix rfl (F8 B0n rfl rfl e rfl b rfl opx) (ix rfl (H8 (C9 B3x rfl rfl (H2 (sz:=1) e (fun _=>rfl) 1 rfl (gd ⟨none,0,0⟩ (by have:=a.1;omega))) rfl) (U4 a (by have:=a.1;omega))) (bP 1 5 rfl (ie (bS rfl (bP 2 82 rfl ?_)))))
  refine zia 6 7 82 88 (decide (((fR.getD b []).length)=f.cols)) (fun x=>?_) ?_
  ·refine cF 6 [0] 88 rfl ?_
   exact zai 2 82 _ x
  refine bP 1 89 rfl ?_
  refine zia 5 1 89 94 (decide ((S1 (fR.getD b []) false)=0)) (fun p=>?_) ?_
  ·have a7:=bV p
   refine c9 2 3 [] [(91,ag [.slice _ ((fR.getD b []).length) ((fZ.getD b ⟨none,0,0⟩).k),bv false])] (zv rfl (C6m rfl) (bP 2 94 rfl ?_))
   exact zai 4 89 _ p
  refine bP 1 3 rfl (ie (bS rfl (bP 2 96 rfl (ie ?_))))
  refine zjb rfl hR ?_ ?_<;>clear hR<;>intro hR u
  ·have r:=bV u
   refine F4 (nx (A3 (bS rfl (bP 2 99 rfl ?_))))
   refine ie ?_
   refine zjb rfl hR ?_ ?_<;>clear hR<;>intro hR i
   ·have o:=bV i
    refine bS rfl (bP 1 2 rfl ?_)
    subst hR
    refine ie (A8 ?_)
    exact F7 hr hD
   refine A4 (nx (bS rfl (bP 1 2 rfl ?_)))
   subst hR
   refine ie (A8 ?_)
   exact F7 hr hD
  refine A4 (nx (A1 2 rfl (ix rfl (B3 rfl rfl rfl rfl opx) (bP 1 77 rfl (A2 ?_)))))
  exact A2g (_,_) ⟨opx,hR⟩ olr bU cB
 have g:=bV h
 rw [A1d g] at hR;replace hR:=(O8.eq_1 ..).symm.trans hR
 refine F4 (nx (A3 (bS rfl (bP 2 99 rfl ?_))))
 refine ie ?_
 refine zjb rfl hR ?_ ?_<;>clear hR<;>intro hR ah
 ·refine bS rfl (bP 1 2 rfl ?_)
  subst hR
  refine ie (A8 ?_)
  exact F7 hr hD
 refine A4 (nx (bS rfl (bP 1 2 rfl ?_)))
 subst hR
 refine ie (A8 ?_)
 exact F7 hr hD
theorem E8m:ApTy Tryz.prog 22 70 1 24:=⟨by kernel_rfl,by kernel_rfl,rfl⟩
theorem C2f:Ty Tryz.prog 26 7 true:=⟨by kernel_rfl⟩
def S6 (s:ScrC) (c:List (Rwc Cel)) (a:List (Rwc Cel)) (b:List Bool):Unit :=
 ()
theorem D6a {s:ScrC} {aO aU:List (Rwc Cel)} {a:List Bool} {d:Option Addr} {g:List Rwq} {aN:Nat} {c:Option Addr} {f:List Rwq} {aT:Nat} {e:Option Addr} {aW:Nat} {R:Unit} (hR:S6 s aO aU a=R) (h:Q4 g aO:=by exact bW) (j:aO.length≤9223372036854775807:=by exact bW) (k:aO.length≤aN:=by exact bW) (i:Q4 f aU:=by exact bW) (n:aU.length≤9223372036854775807:=by exact bW) (l:aU.length≤aT:=by exact bW) (m:a.length≤9223372036854775807:=by exact bW) (o:a.length≤aW:=by exact bW):Con Tryz.prog 84 [ag (aE s d aO aN c aU aT e a aW)] [] [sl A6e d g,A1n D8 g aO,sl A6e c f,A1n D8 f aU,sl A8z e a] (Nat) (fun x=>.func (.func 125) #[] #[pt x 0]) (fun x=>[bx x (aE s d aO aN c aU aT e a aW) 120]) (fun x=>[]):=by
 refine cC Tryz.func84 fun X hX hr hD=>?_
 replace hR:=(S6.eq_1 ..).symm.trans hR
 refine bS rfl (zra 2 [] (fun b=>[(1,pt b 0)]) (fun _=>(aE s d aO aN c aU aT e a aW)) 120 fun b=>(ie (bS rfl (ip' 2 0 [(2,.func (.func 125) #[] #[pt b 0])] ?_))))
 subst hR
 refine ie (A8 ?_)
 exact cD hr hD (K7 rfl (A6 rfl)) b bU bX
def A1m:List (Rwc Cel)→Nat→List (List Cel)
 | [],t14=>[]
 | hd_l0::tl_l0,t14=>(((hd_l0.l).take (hd_l0.l.length))::A1m tl_l0 (t14+1))
def A5p (a:List (Rwc Cel)):List (List Cel) :=
 A1m a 0
def A9t (c0:ScrC) (a:List (Rwc Cel)) (b:List (Rwc Cel)) (c:List Bool):List (List Cel) :=
 (bif c0.onAlt then A5p b else A5p a)
theorem B2s:∀ (l:List (Rwc Cel)) (t:Nat),(A1m l t).length=l.length
 | [],t=>rfl
 | a::l,t=>by simp only [A1m,List.length_cons,B2s l (t+1)]
theorem C0s (l:List (Rwc Cel)):(A5p l).length=l.length:=B2s l 0
theorem ous {p:Prop} (h:p:=by first|omega|(simp only [List.length_take,List.length_drop,List.length_append,List.length_cons,List.length_nil,List.length_set,List.length_map,S6];omega)|decide):p:=h
theorem D0i (c0:ScrC) (e:List (Rwc Cel)) (j:List (Rwc Cel)) (h:List Bool) (w:Nat) (d:Option Addr) (p:List Rwq) (g:Nat) (i:Option Addr) (t:List Rwq) (o:Nat) (f:Option Addr) (m:Nat) (x:Q4 p e) (a8:e.length≤9223372036854775807) (a9:e.length≤g) (y:Q4 t j) (ae:j.length≤9223372036854775807) (ac:j.length≤o) (aa:h.length≤9223372036854775807) (a7:h.length≤m) (R:List (List Cel)) (hR:A9t c0 e j h=R):B6s Tryz.prog 125 [pt w 0] [bx w (aE c0 d e g i j o f h m) 120] [sl A6e d p,A1n D8 p e,sl A6e i t,A1n D8 t j,sl A8z f h] D8 R:=by
 refine C2q _ (n:=31) Tryz.func125 rfl oki rfl rfl (fun l=>[(0,_),(1,_)]) (fun l=>⟨rfl,rfl,trivial⟩) fun X l I Ix L Φ hX hr hD hI0 hY=>?_
 replace hR:=(A9t.eq_1 ..).symm.trans hR
 refine sr 3 rfl (c9 3 0 [0] [(3,.slice d e.length g)] ?_)
 refine ie (F6i (fun v lq r lk R_ Lt Ft=>(A5p v=R_∧v.length≤lk∧v.length≤9223372036854775807∧Q4 r v∧I R_ Lt Ft,[(0,.func (.yield l) #[] #[]),(3,.slice lq v.length lk)],(bx w (aE c0 d e g i j o f h m) 120::(Lt++([]))),(sl A6e d p::A1n D8 p e::sl A6e i t::A1n D8 t j::sl A8z f h::sl A6e lq r::A1n D8 r v::Ft))) ?_ ?_)
 ·refine sr 2 rfl (c9 2 0 [0] [(9,bv c0.onAlt)] (ie ?_))
  refine zjb rfl hR ?_ ?_<;>clear hR<;>intro hR h1
  ·refine A1 3 rfl (c9 3 0 [0] [(3,.slice i j.length o)] (A2 ?_))
   exact F4k j i t o R L _ ⟨hR,ous,ous,y,hI0⟩ (mc [_,L] [true,true] rfl oxs) (A7.con1 (A5 0 rfl) (A7.con1 (A5 1 rfl) (A7.con1 (A5 2 rfl) (A7.con1 (A5 3 rfl) (A7.con1 (A5 4 rfl) (A7.con1 (A5 2 rfl) (A7.con1 (A5 3 rfl) (A7.dropT 5 rfl))))))))
  refine A4 ?_
  exact F4k e d p g R L _ ⟨hR,ous,ous,x,hI0⟩ (mc [_,L] [true,true] rfl oxs) (A7.con1 (A5 0 rfl) (A7.con1 (A5 1 rfl) (A7.con1 (A5 2 rfl) (A7.con1 (A5 3 rfl) (A7.con1 (A5 4 rfl) (A7.con1 (A5 0 rfl) (A7.con1 (A5 1 rfl) (A7.dropT 5 rfl))))))))
 intro v lq r lk R_ Lt Ft
 rintro ⟨hR,ai,aj,u,ad⟩
 replace hR:=(A5p.eq_1 ..).symm.trans hR
 refine sr 3 rfl (ip' 3 0 [(12,.slice lq v.length lk),(13,iv v.length),(14,iv 0)] (ie (A9 ?_)))
 refine E8k (fun a R_1 Lt1 Ft1=>(a≤v.length∧A1m (v.drop a) a=R_1∧I R_1 Lt1 Ft1,[(0,_),(12,_),(13,_),(14,iv a)],(bx w _ _::(Lt1++([]))),(sl _ d p::A1n _ p e::sl _ i t::A1n _ t j::sl _ f h::sl _ _ r::A1n _ r v::Ft1),v.length - a)) 0 _ _ _ ⟨opx,hR,ad⟩ (mc [[_],_] [true,true] rfl oxs) (A7.con1 (A5 0 rfl) (A7.con1 (A5 1 rfl) (A7.con1 (A5 2 rfl) (A7.con1 (A5 3 rfl) (A7.con1 (A5 4 rfl) (A7.con1 (A5 5 rfl) (A7.con1 (A5 6 rfl) (A7.dropT 7 rfl)))))))) ?_
 rintro a R_1 Lt1 Ft1 ⟨ak,hR,a1⟩
 refine sr 1 rfl (ip' 1 0 [(15,bv (decide (a<(v.length:Int))))] ?_)
 refine ie (A3 (G4 rfl (fun h3=>?_) (fun h3=>?_)))
 ·have ab:(a:Int)<(v.length:Int):=by simpa using h3
  rw [A1b zwc (show a<v.length by omega)] at hR;replace hR:=(A1m.eq_2 ..).symm.trans hR
  refine A4 (nx (A3 (A9 (sr 4 rfl (K8 5 rfl (by have:=u.1;omega) fun a4 a5=>(D7 (F5l (k:=a) u 6 rfl (by have:=u.1;omega)) ?_))))))
  have:=F0y u (k:=a) (by have:=u.1;omega)
  refine ix rfl (F8 E5k rfl rfl a5 rfl a rfl opx) (ix rfl (H8 (K3 E8d rfl rfl (H2 (sz:=2) a5 (fun _=>rfl) 6 rfl (gd _ (by have:=u.1;omega))) rfl) (F4v u (by have:=u.1;omega))) ?_)
  refine B0j 2 0 [0] (fun b6=>[(5,pt b6 0)]) (fun b6=>(bx b6 [.slice ((r.getD a zwq).s.q) ((v.getD a zwc).l.length) ((r.getD a zwq).s.k),bv ((v.getD a zwc).b)] 87::bx w (aE c0 d e g i j o f h m) 120::(Lt1++([])))) (fun b6=>?_)
  refine ie (sr _ rfl (c9 9 3 [0,0,0] [(18,.func (.yield l) #[] #[]),(20,.slice ((r.getD a zwq).s.q) ((v.getD a zwc).l.length) ((r.getD a zwq).s.k)),(23,iv ((v.getD a zwc).l.length)),(26,iv ((v.getD a zwc).l.length))] (D7 (E2m (A5 0 rfl) ((v.getD a zwc).l.length)) ?_)))
  refine ix rfl (B7b (n':=(((v.getD a zwc).l).take ((v.getD a zwc).l.length)).length) A1g rfl rfl _ _ (A0w rfl rfl) (A0w rfl rfl) opx opx ofx rfl) ?_
  have:=@List.length_take _ ((v.getD a zwc).l.length) ((v.getD a zwc).l)
  have a0:=B8p hR;clear hR;obtain ⟨R7,hR,a0⟩:=a0;rw [a0] at a1
  refine it rfl (A4d (L2:=[bx b6 [.slice ((r.getD a zwq).s.q) ((v.getD a zwc).l.length) ((r.getD a zwq).s.k),bv ((v.getD a zwc).b)] 87,bx w (aE c0 d e g i j o f h m) 120]) (hY (((v.getD a zwc).l).take ((v.getD a zwc).l.length)) R7 _ _ ((r.getD a zwq).s.q) ((v.getD a zwc).l.length) ous ous a1) rfl rfl rfl rfl (A7.con1 (A5 0 rfl) (A7.dropT 9 rfl)) (I1 [[bx b6 [.slice ((r.getD a zwq).s.q) ((v.getD a zwc).l.length) ((r.getD a zwq).s.k),bv ((v.getD a zwc).b)] 87],[bx w (aE c0 d e g i j o f h m) 120],Lt1] [2,0,1] 3 rfl ozw rfl [Lt1,[bx b6 [.slice ((r.getD a zwq).s.q) ((v.getD a zwc).l.length) ((r.getD a zwq).s.k),bv ((v.getD a zwc).b)] 87],[bx w (aE c0 d e g i j o f h m) 120]] rfl ooa)) fun ⟨⟨y8,L9,Φ10⟩,z⟩=>?_
  refine A8l (A7.yield [_,_,_,_,_,_,_,_,_]) ?_
  refine ip' 1 0 [(29,bv (!y8))] ?_
  refine ie (G4 rfl (fun a6=>?_) (fun a6=>?_))
  ·have a3:y8=false:=by simpa using a6
   rw [a3] at z;try simp only [if_true,if_false,Bool.false_eq_true] at z
   refine A8 ?_
   exact B3k rfl ⟨hr,hD⟩ (by simp [hD]) (B0u rfl) (by exact .inr z) (mcT [_,[_],[_]] 0 rfl rfl) (A7.dropT 9 rfl)
  ·have a3:y8=true:=by simpa using a6
   rw [a3] at z;try simp only [if_true,if_false,Bool.false_eq_true] at z
   refine A4 (nx (A1 2 rfl (ix rfl (B3 rfl rfl rfl rfl opx) (ip' 1 0 [(14,iv (a+1))] (A2 (Y0 (I1 [_,_,_] [2,0,1] 3 rfl ozw rfl [[_],L9,[_]] rfl opv) ?_))))))
   exact E4y _ _ _ _ ⟨opx,hR,z⟩ olr (mc _ [true,true,false] rfl oxs) (A7.con1 (A5 2 rfl) (A7.con1 (A5 3 rfl) (A7.con1 (A5 4 rfl) (A7.con1 (A5 5 rfl) (A7.con1 (A5 6 rfl) (A7.con1 (A5 7 rfl) (A7.con1 (A5 8 rfl) (A7.dropT 9 rfl))))))))
 have ab:¬ ((a:Int)<(v.length:Int)):=by simpa using h3
 rw [A1d ab] at hR;replace hR:=(A1m.eq_1 ..).symm.trans hR
 subst hR
 refine F4 ?_
 exact X9 rfl ⟨hr,hD⟩ (by simp [hD]) (B0u rfl) (by exact .inl a1) (mcT [[_],_] 1 rfl rfl) (A7.dropT 7 rfl)
def A2e (s:ScrC):List (List Cel)→List (List Cel)→(FrmC×List (List Cel))
 | [],fR=>((⟨s.cols,(⟨s.cursor.row,s.cursor.col⟩:Plc),s.modes.visible,s.shape,s.title⟩:FrmC),fR)
 | el::rest,fR=>A2e s rest (fR++([el]:List (List Cel)))
def B4g (s:ScrC) (c:List (Rwc Cel)) (a:List (Rwc Cel)) (b:List Bool):FrmC×List (List Cel) :=
 A2e s (A9t s c a b) ([]:List (List Cel))
theorem oju {p:Prop} (h:p:=by first|omega|(simp only [List.length_cons,List.length_nil,List.length_append,List.length_take,List.length_drop,S6];omega)):p:=h
theorem D6v {s:ScrC} {aO aU:List (Rwc Cel)} {e:List Bool} {f:Option Addr} {z:List Rwq} {aN:Nat} {i:Option Addr} {y:List Rwq} {aT:Nat} {g:Option Addr} {aW:Nat} {R:FrmC×List (List Cel)} (hR:B4g s aO aU e=R) (bD:Q4 z aO:=by exact bW) (bH:aO.length≤9223372036854775807:=by exact bW) (bI:aO.length≤aN:=by exact bW) (bE:Q4 y aU:=by exact bW) (bJ:aU.length≤9223372036854775807:=by exact bW) (bL:aU.length≤aT:=by exact bW) (bM:e.length≤9223372036854775807:=by exact bW) (bO:e.length≤aW:=by exact bW) (hM:aO.length≤100:=by exact bW) (hA:aU.length≤100:=by exact bW):Con Tryz.prog 52 [ag (aE s f aO aN i aU aT g e aW)] [] [sl A6e f z,A1n D8 z aO,sl A6e i y,A1n D8 y aU,sl A8z g e] ({t:VR×List Slc // bT 1 R.2.length t.1∧B4 t.2 R.2}) (fun x=>ag (C2 R.1 ⟨va x.1.1.q,R.2.length,x.1.1.k⟩)) (fun x=>((vo D9 70 x.1.1 x.1.2)++([]))) (fun x=>[D5 D8 x.1.2 R.2]):=by
 refine cC Tryz.func52 fun X hX hr hD=>?_
 replace hR:=(B4g.eq_1 ..).symm.trans hR
 have:=bD.1
 have:=bE.1
 refine bS rfl (B6z 2 [] (fun w v=>[(1,pt w 0),(2,pt v 0)]) (fun _ _=>(aE s f aO aN i aU aT g e aW)) (fun _ _=>(C2 FrmC.zero ⟨none,0,0⟩)) 120 26 fun w v=>(ie (bS rfl (zra 19 [1,1,1,1,1,1,0] (fun u=>[(3,pt u 0)]) (fun _=>(C2 (⟨s.cols,(⟨s.cursor.row,s.cursor.col⟩:Plc),s.modes.visible,s.shape,s.title⟩) ⟨none,0,0⟩)) 26 fun u=>(ie (A3 (bS rfl (c9 1 1 [2] [(22,ag (aE s f aO aN i aU aT g e aW))] ?_))))))))
 refine zc rfl (D6a rfl bD bW bW bE) fun b4=>?_
 refine ie (A9 (Y0 (I1 [_,_,_,_,_] [2,3,4,0,1] 5 rfl ozw rfl [[_],[_],[_],vo D9 70 VR.nil [],[_]] rfl opv) ?_))
 refine D0f [(2,_),(3,_),(23,_)] ⟨rfl,rfl,rfl,trivial⟩ ?_
 refine E0j (cc:=D8) (xs:=(A9t s aO aU e)) (σ:=List (List Cel)×VR×List Slc) hr rfl (D0i s aO aU e b4 f z aN i y aT g aW bD ous ous bE ous ous ous ous _ rfl) A7.refl rfl rfl (fun p x=>A2e s p x.1=R∧bT 1 x.1.length x.2.1∧B4 x.2.2 x.1∧x.1.length+p.length≤100) (fun _ _=>False) (fun x=>(bx u (C2 (⟨s.cols,(⟨s.cursor.row,s.cursor.col⟩:Plc),s.modes.visible,s.shape,s.title⟩:FrmC) ⟨va x.2.1.q,x.1.length,x.2.1.k⟩) 26::bx v (C2 FrmC.zero ⟨none,0,0⟩) 26::bx w (aE s f aO aN i aU aT g e aW) 120::((vo D9 70 x.2.1 x.2.2)++([])))) (fun x=>[sl A6e f z,A1n D8 z aO,sl A6e i y,A1n D8 y aU,sl A8z g e,D5 D8 x.2.2 x.1]) (([]:List (List Cel)),VR.nil,([]:List Slc)) (by exact ⟨hR,bT.nil,B4.none,(by first|(unfold A9t;rw [List.length_nil,Nat.zero_add,Bool.cond_eq_ite];split<;>rw [C0s]<;>omega)|(unfold frame_rows_1a;rw [List.length_nil,Nat.zero_add,Bool.cond_eq_ite];split<;>rw [frame_rows_1a_j0_len]<;>omega))⟩) bU cB ?_ ?_ (fun _ _ _ _ h=>h.elim)
 ·rintro l rest ⟨fR,a,fZ⟩ m n ac ab hI Y Y' K' aa hK
  try dsimp only at hI
  obtain ⟨hR,d,b,a5⟩:=hI
  replace hR:=(A2e.eq_2 ..).symm.trans hR
  have:=bT.le d
  refine A1 1 rfl (bP 1 4 rfl (A2 (hK _ _ _ ?_)))
  refine A9 (A1 7 rfl (pl2 3 [0] 26 27 rfl ?_))
  refine it rfl (B1 (c:=D9) (xs:=[⟨m,l.length,n⟩]) B0n rfl rfl rfl oki) fun b8=>?_
  have j:B4 ([⟨m,l.length,n⟩]:List Slc) ([l]:List (List Cel)):=(B4.cons ⟨ooy,ous,ous⟩ B4.none)
  refine D7 (q:=D5 _ [⟨m,l.length,n⟩] _) (M3 (A5 1 rfl) H9) ?_
  have:([⟨m,l.length,n⟩]:List Slc).length=1:=rfl
  have a3:B4 (fZ++([⟨m,l.length,n⟩]:List Slc)) (fR++([l]:List (List Cel))):=B4.append b j
  refine it rfl (J8 (r:=a) (rs:=fZ) (xss:=fR) (pre:=[bx u (C2 (⟨s.cols,(⟨s.cursor.row,s.cursor.col⟩:Plc),s.modes.visible,s.shape,s.title⟩:FrmC) ⟨va a.q,fR.length,a.k⟩) 26,bx v (C2 FrmC.zero ⟨none,0,0⟩) 26,bx w (aE s f aO aN i aU aT g e aW) 120]) (post:=[]) E8m rfl rfl rfl rfl rfl rfl rfl rfl rfl (A5 1 rfl) (A5 8 rfl) (A5 0 rfl) b j d oju oju) fun ⟨a0,o⟩=>?_
  have:=bT.le o
  have:=bT.cap o
  have:([l]:List (List Cel)).length=1:=rfl
  have:(fR++([l]:List (List Cel))).length=fR.length+1:=List.length_append
  refine zru 2 [0] [] 0 (bx u (C2 (⟨s.cols,(⟨s.cursor.row,s.cursor.col⟩:Plc),s.modes.visible,s.shape,s.title⟩) ⟨va a0.q,(fR++[l]).length,a0.k⟩) 26) ?_
  refine A2 ?_
  refine A9f (I:=fun p x=>A2e s p x.1=R∧bT 1 x.1.length x.2.1∧B4 x.2.2 x.1∧x.1.length+p.length≤100) (Jx:=fun _ _=>False) (_,_,_) (by exact ⟨hR,o,a3,oqz⟩) bU ?_
  exact cB
 ·rintro a8 ⟨fR,a,fZ⟩ a2 hI
  try dsimp only at hI
  obtain ⟨hR,d,b,a5⟩:=hI
  replace hR:=(A2e.eq_1 ..).symm.trans hR
  have:=bT.le d
  refine nx (bS rfl (zrg 2 0 [0,1] [] (bx u (C2 (⟨s.cols,(⟨s.cursor.row,s.cursor.col⟩:Plc),s.modes.visible,s.shape,s.title⟩) ⟨va a.q,fR.length,a.k⟩) 26::bx v (C2 (⟨s.cols,(⟨s.cursor.row,s.cursor.col⟩:Plc),s.modes.visible,s.shape,s.title⟩) ⟨va a.q,fR.length,a.k⟩) 26::bx w (aE s f aO aN i aU aT g e aW) 120::((vo D9 70 a fZ)++([]))) ?_))
  subst hR
  refine ie (A8 ?_)
  exact B4c rfl ⟨hr,hD⟩ (by exact (N2.cons (show N2 X.D by rw [hD];exact N2.nil) a2)) (K7 rfl (F0 C2f rfl 1 rfl rfl rfl)) ⟨(a,_),⟨d,b⟩⟩ (by rfl) bU cB
def B2g (a:Int) (b:Int):FrmC×List (List Cel)×Int :=
 (B6 (Y1 a b) fun (c:ScrC×List (Rwc Cel)×List (Rwc Cel)×List Bool×Int)=>(bif (!decide (c.2.2.2.2=0)) then (FrmC.zero,([]:List (List Cel)),2) else (B6 (B4g c.1 c.2.1 c.2.2.1 c.2.2.2.1) fun (d:FrmC×List (List Cel))=>(d.1,d.2,0))))
theorem C1o (s:ScrC):∀ (l f:List (List Cel)),(A2e s l f).1.title=s.title
 | [],f=>rfl
 | a::l,f=>by simp only [A2e];exact C1o s l _
theorem C4s (c r:Int):(B2g c r).1.title.length=0:=by
 unfold B2g B6
 simp only [Bool.cond_eq_ite]
 split
 ·rfl
 ·show (B4g _ _ _ _).1.title.length=0
  unfold B4g;rw [C1o];exact B0s c r
theorem D2e {h g:Int} {R:FrmC×List (List Cel)×Int} (hR:B2g h g=R):Con Tryz.prog 29 [iv h,iv g] [] [] ({t:VR×List Slc // bT 1 R.2.1.length t.1∧B4 t.2 R.2.1}) (fun x=>.tuple #[ag (C2 R.1 ⟨va x.1.1.q,R.2.1.length,x.1.1.k⟩),iv R.2.2]) (fun x=>((vo D9 70 x.1.1 x.1.2)++([]))) (fun x=>[D5 D8 x.1.2 R.2.1]):=by
 refine cC Tryz.func29 fun X hX hr hD=>?_
 replace hR:=(B2g.eq_1 ..).symm.trans hR
 refine bS rfl (zra 2 [] (fun y=>[(4,pt y 0)]) (fun _=>(C2 FrmC.zero ⟨none,0,0⟩)) 26 fun y=>(ie (bS rfl (cG 2 9 10 rfl ?_))))
 have hQ:=C4 hR;clear hR;obtain ⟨b,a0,hR⟩:=hQ
 refine zc rfl (C3b a0) fun ⟨⟨⟨p,a5⟩,a1⟩,⟨⟨i,a3⟩,u⟩,⟨a,f⟩⟩=>?_
 try dsimp only at a1
 obtain ⟨n,z⟩:=a1
 try dsimp only at u
 obtain ⟨m,o⟩:=u
 have:=bT.le n
 have:=bT.le m
 have:=z.1
 have:=o.1
 have e:=B0s h g;rw [a0] at e;have d:=B9p h g;rw [a0] at d
 refine zra 6 [0] (fun j=>[(6,pt j 0),(7,iv b.2.2.2.2)]) (fun _=>(aE b.1 (va p.q) b.2.1 p.k (va i.q) b.2.2.1 i.k (va a.q) b.2.2.2.1 a.k)) 120 fun j=>?_
 refine ie (A3 (bS rfl (bP 2 15 rfl (ie ?_))))
 refine zjn rfl hR ?_ ?_<;>clear hR<;>intro hR a9 a8
 ·refine bS rfl (zru 3 [1] [(5,iv 2)] 1 (bx y (C2 FrmC.zero ⟨none,0,0⟩) 26) ?_)
  subst hR
  refine ie (A8 ?_)
  exact cD hr hD (U0 rfl (F0 C2f rfl 1 rfl rfl rfl) (A6 rfl)) ⟨(_,_),⟨bT.nil,B4.none⟩⟩ bU cB
 refine A4 (nx (bS rfl (c9 1 3 [0] [(17,ag (aE b.1 (va p.q) b.2.1 p.k (va i.q) b.2.2.1 i.k (va a.q) b.2.2.2.1 a.k))] ?_)))
 have:=bT.cap n
 have:=bT.le n
 refine R5 [_,_] ((vo _ _ i a3)++((vo _ 4 a _)++([]))) (bT.cast n (by rw [z.1])) opv ?_
 have:=bT.cap m
 have:=bT.le m
 refine R5 _ _ (bT.cast m (by rw [o.1])) opv ?_
 have:=bT.cap f
 have:=bT.le f
 refine R5 _ _ f opv ?_
 have hQ:=C4 hR;clear hR;obtain ⟨y1,a6,hR⟩:=hQ
 refine zc rfl (D6v a6 z bW bW o) fun ⟨⟨s,a2⟩,w⟩=>?_
 try dsimp only at w
 obtain ⟨l,v⟩:=w
 refine zru 2 [1] [(5,iv 0)] 1 (bx y (C2 y1.1 ⟨va s.q,y1.2.length,s.k⟩) 26) ?_
 subst hR
 refine ie (A8 ?_)
 exact cD hr hD (U0 rfl (F0 C2f rfl 1 rfl rfl rfl) (A6 rfl)) _ bU cB
end Go.Proofs.YtgimbmncdmnklaaGreatDoor
