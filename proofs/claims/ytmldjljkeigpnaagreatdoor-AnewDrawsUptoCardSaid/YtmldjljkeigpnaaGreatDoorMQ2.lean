import Derived.Test.YtmldjljkeigpnaaGreatDoorProg
import Derived.Test.YtmldjljkeigpnaaGreatDoorMA2
import Derived.Test.YtmldjljkeigpnaaGreatDoorMB1
import Derived.Test.YtmldjljkeigpnaaGreatDoorMA3
import Derived.Test.YtmldjljkeigpnaaGreatDoorMB2
import Derived.Test.YtmldjljkeigpnaaGreatDoorMB3
import Derived.Test.YtmldjljkeigpnaaGreatDoorMQ1
set_option linter.unusedVariables false
set_option linter.unusedSimpArgs false
set_option linter.unnecessarySimpa false
set_option maxRecDepth 100000
namespace Go.Proofs.YtmldjljkeigpnaaGreatDoor
section
open Go Go.Fen open Go.IntKind (i64) open Tryz (prog)
variable {R:jz×Sty×Int×Bool} {aJ:Sty} {c:Bool} {l:jz} {last p2:Bool} {pat:Int} {pb:Nat} {pl:jz} {plr:VR} {r:Prn} {x y:jz×Sty×Int}
@[reducible] def aI (s:Sty) (r:VR) (l:jz) (p:Int):List Value := aD s [.slice (va r.q) l.length r.k,iv p]
@[reducible] def aF:List Value := [.slice none 0 0,iv 0,iv 0,iv 0,iv 0,iv 0,iv 0,iv 0,iv 0,iv 0]
theorem B5c:Ty prog 68 1 false:=⟨by rfl⟩
theorem F3q:Ty prog 192 1 false:=⟨by rfl⟩
theorem G5j:Ty prog 201 15 true:=⟨by rfl⟩
theorem D1w:Ty prog 258 10 true:=⟨by rfl⟩
theorem F6u:Ty prog 261 1 true:=⟨by rfl⟩
theorem F9e:Zero prog 201 (G7 Prn.zero):=⟨by rfl⟩
def P5 (c1:Int) (c2:jk) (a:Int→List Prn):Nat→Prn→List Prn
 | 0,_=>[]
 | fu3+1,r=>(bif ((decide (r.til<c1))&&(decide ((c2.getD ((r.til).toNat) ZV)=r.sign))) then P5 c1 c2 a fu3 ({r with many:=(i64.wrap (r.many+(1:Int))),til:=(i64.wrap (r.til+(i64.wrap ((1:Int)+r.sign.wide))))}) else (r::a r.til))
def R3 (c1:Int) (c2:jk):Nat→Int→List Prn
 | 0,_=>[]
 | fu1+1,t1=>(bif (decide (t1<c1)) then P5 c1 c2 (R3 c1 c2 fu1) ((c1 - ({Prn.zero with sign:=(c2.getD ((t1).toNat) ZV),at_:=t1,til:=t1}).til).toNat+1) ({Prn.zero with sign:=(c2.getD ((t1).toNat) ZV),at_:=t1,til:=t1}) else [])
def A0v (c0:Int) (c1:Int) (c2:jk):List Prn :=
 R3 c1 c2 ((c1 - c0).toNat+1) c0
theorem B7q (c1:Int) (c2:jk) (ag:Int→List Prn) (e:∀ c ∈ c2,0≤c.wide∧c.wide≤2) (k:c1≤c2.length) (i:c2.length≤80) (b:∀ t,0≤t→((ag t).length:Int)≤max 0 (c1 - t)∧∀ x ∈ ag t,0≤x.many∧x.many≤100):∀ (fu:Nat) (r:Prn),0≤r.til→r.til≤90→0≤r.many→r.many≤r.til→((P5 c1 c2 ag fu r).length:Int)≤1+max 0 (c1 - r.til)∧∀ x ∈ P5 c1 c2 ag fu r,0≤x.many∧x.many≤100
 | 0,r,_,_,_,_=>by
  grind[P5]
 | fu+1,r,h0,h9,hm,hmt=>by
  rw [P5]
  by_cases h:r.til<c1∧c2.getD r.til.toNat ZV=r.sign
  ·rw [jQ h.1,jQ h.2,Bool.and_self,cond_true]
   have a:r.til.toNat<c2.length:=by omega
   have f:=h.2
   rw [gdE a] at f
   have w:=e _ (List.getElem_mem a)
   rw [f] at w
   rw [wr6 (x:=1+r.sign.wide) opx,wr6 (x:=r.many+1) opx,wr6 (x:=r.til+(1+r.sign.wide)) opx]
   have g:=B7q c1 c2 ag e k i b fu {r with many:=r.many+1,til:=r.til+(1+r.sign.wide)} (by grind) (by grind) (by grind) (by grind)
   grind
  grind
theorem B7z (c1:Int) (c2:jk) (b:∀ c ∈ c2,0≤c.wide∧c.wide≤2) (g:c1≤c2.length) (e:c2.length≤80):∀ (fu:Nat) (t:Int),0≤t→((R3 c1 c2 fu t).length:Int)≤max 0 (c1 - t)∧∀ x ∈ R3 c1 c2 fu t,0≤x.many∧x.many≤100
 | 0,t,_=>by
  grind[R3]
 | fu+1,t,h0=>by
  rw [R3]
  by_cases h:t<c1
  ·rw [jQ h,cond_true,P5]
   have a:t.toNat<c2.length:=by omega
   have w:=b _ (List.getElem_mem a)
   have j:c2.getD t.toNat ZV=c2[t.toNat]:=gdE a
   rw [← j] at w
   simp only [jQ h,decide_true,Bool.and_self,cond_true]
   rw [wr6 (x:=1+(c2.getD t.toNat ZV).wide) opx,wr6 (x:=Prn.zero.many+1) (by show -1000000≤(0:Int)+1∧(0:Int)+1≤1000000;omega),wr6 (x:=t+(1+(c2.getD t.toNat ZV).wide)) opx]
   have f:=B7q c1 c2 _ b g e (fun t i=>B7z c1 c2 b g e fu t i) ((c1 - t).toNat) {Prn.zero with sign:=c2.getD t.toNat ZV,many:=Prn.zero.many+1,at_:=t,til:=t+(1+(c2.getD t.toNat ZV).wide)} (by grind) (by grind) (by show (0:Int)≤0+1;omega) (by show (0:Int)+1≤t+(1+(c2.getD t.toNat ZV).wide);omega)
   grind
  grind
theorem B5y {c0 c1:Int} {c2:jk} (h:(∀ c ∈ c2,0≤c.wide∧c.wide≤2)∧c2.length≤80∧0≤c0∧c1≤c2.length):(A0v c0 c1 c2).length≤80∧∀ x ∈ A0v c0 c1 c2,0≤x.many∧x.many≤100:=by
 have:=B7z c1 c2 h.1 h.2.2.2 h.2.1 ((c1 - c0).toNat+1) c0 h.2.2.1
 grind[A0v]
theorem D7u (c0:Int) (c1:Int) (c2:jk) (d:Nat) (j:Addr) (k:Addr) (g:kQ) (h:Nat) (a4:c2.length≤9223372036854775807) (a5:c2.length≤h) (hv:(∀ c ∈ c2,0≤c.wide∧c.wide≤2)∧c2.length≤80∧0≤c0∧c1≤c2.length) (R:List Prn) (hR:A0v c0 c1 c2=R):D6h prog 161 [pt d 0,pa j,pa k] [bx d [iv c0] 3] [at_ j [iv c1],sl D0 g c2,at_ k [.slice g c2.length h]] (fun x=>ag (G7 x)) R:=by
 refine E9c [bx d [iv c0] 3] (n:=48) Tryz.func161 Z oki Z Z (fun l=>[(0,.func (.yield l) #[] #[]),(1,pt d 0),(2,pa j),(3,pa k)]) (fun l=>⟨rfl,rfl,rfl,rfl,trivial⟩) fun X l I Ix L Φ hX hr hD hI0 hY=>?_
 rw[A0v]at hR
 refine A9 (A1y (un fun (fu:Nat)=>un fun (f:Int)=>un fun (R_:List Prn)=>un fun (Lt:Fen.Own) (Ft:List Pers)=>((c1 - f).toNat<fu∧R3 c1 c2 fu f=R_∧I R_ Lt Ft∧0≤f,[(0,.func (.yield l) #[] #[]),(1,pt d 0),(2,pa j),(3,pa k)],(bx d [iv f] 3::(Lt++([]))),(at_ j [iv c1]::sl D0 g c2::at_ k [.slice g c2.length h]::Ft),fu)) ((c1 - c0).toNat+1,c0,R,L,Φ) ⟨(Nat.lt_succ_self _),hR,hI0,opx⟩ bU c9 ?_)
 rintro ⟨fu,f,R_,Lt,Ft⟩ ⟨ak,hR,w,ht⟩
 let A:=bx d [iv f] 3
 obtain ⟨fu1,rfl⟩:∃ m,fu=m+1:=⟨fu - 1,by omega⟩
 rw[R3]at hR
 refine k_ ?_
 refine ix Z (B6 cE Z Z (A5 0 Z) Z) (k_ ?_)
 refine ie ?_
 refine cK Z hR ?_ ?_<;>intro hR h2 a8
 ·refine A4 (nx (A9 (sh 9 [(9,[A]),(9,Lt)] (at_ j [iv c1]::sl D0 g c2::at_ k [.slice g c2.length h]::Ft) (A::(Lt++([]))) (cL 9 0) oki Z oki oki oki bU A7.refl ?_)))
  refine zhk 0 (cL 9 1) Z (B6 (v:=.slice g c2.length h) (us:=[.slice g c2.length h]) B5c Z Z (A5 2 Z) Z) ?_
  refine zhl 1 (A::(Lt++([]))) (cL 9 3) Z (B8 (v:=iv f) cE Z Z 0) ?_
  refine B9j 1 Z opx fun a3 s=>(zhk 2 (cL 9 7) Z (E7 A1n Z Z s Z ((f).toNat) opx opx) ?_)
  refine zhk 3 (cL 9 15) Z (J0 (us:=D0 (c2.getD ((f).toNat) ZV)) D3g Z Z (F8 (c:=D0) (sz:=12) s jJ 1 Z (gd ZV opx)) Z) ?_
  refine zhl 4 (A::(Lt++([]))) (cL 9 31) Z (B8 (v:=iv f) cE Z Z 0) ?_
  refine zhl 5 (A::(Lt++([]))) (cL 9 63) Z (B8 (v:=iv f) cE Z Z 0) ?_
  refine zhk 6 (cL 9 127) Z (A2h (cs:=G7 ({Prn.zero with sign:=(c2.getD ((f).toNat) ZV),at_:=f,til:=f})) Z Z oki) ?_
  refine zho 7 (A::(Lt++([]))) (cL 9 255) Z (A5p (cs:=G7 Prn.zero) F9e Z) (fun q=>bU) (fun q=>A7.refl) fun q=>?_
  refine zho 8 (A::(Lt++([]))) (cL 9 511) Z (O9 (us:=G7 ({Prn.zero with sign:=(c2.getD ((f).toNat) ZV),at_:=f,til:=f})) (cs':=G7 ({Prn.zero with sign:=(c2.getD ((f).toNat) ZV),at_:=f,til:=f})) G5j Z Z Z 0) (fun _=>bU) (fun _=>A7.refl) fun _=>?_
  refine D6r oki (k_ ?_)
  refine A1y (un fun (t:Nat)=>un fun (r:Prn)=>un fun (R_1:List Prn)=>un fun (Lt1:Fen.Own) (Ft1:List Pers)=>((c1 - r.til).toNat<t∧P5 c1 c2 (R3 c1 c2 fu1) t r=R_1∧I R_1 Lt1 Ft1∧(0≤r.til∧r.til≤90∧0≤r.many∧r.many≤r.til)∧((r.til=f→c2.getD f.toNat ZV=r.sign)∧f≤r.til),[(0,.func (.yield l) #[] #[]),(1,pt d 0),(2,pa j),(3,pa k),(5,pt q 0)],(bx q (G7 r) 201::A::(Lt1++([]))),(at_ j [iv c1]::sl D0 g c2::at_ k [.slice g c2.length h]::Ft1),t)) ((c1 - ({Prn.zero with sign:=(c2.getD ((f).toNat) ZV),at_:=f,til:=f}).til).toNat+1,{Prn.zero with sign:=(c2.getD ((f).toNat) ZV),at_:=f,til:=f},R_,Lt,Ft) ⟨(Nat.lt_succ_self _),hR,w,(by show 0≤f∧f≤90∧(0:Int)≤0∧(0:Int)≤f;omega),(by exact ⟨fun _=>Z,Int.le_refl _⟩)⟩ bU c9 ?_
  rintro ⟨t,r,R_1,Lt1,Ft1⟩ ⟨a7,hR,o,a2,a1⟩
  let B:=bx q (G7 r) 201
  obtain ⟨fu3,rfl⟩:∃ m,t=m+1:=⟨t - 1,by omega⟩
  rw[P5]at hR
  refine A3 (sd 14 Z oki Z (pg1 2 [0] 17 Z ?_))
  refine dd Z (B6 cE Z Z (A5 0 Z) Z) (k_ ?_)
  refine zdd 9 0 20 29 (decide ((c2.getD ((r.til).toNat) ZV)=r.sign)) (fun g7 a6=>?_) ?_
  ·refine dd Z (B6 (v:=.slice g c2.length h) (us:=[.slice g c2.length h]) B5c Z Z (A5 2 Z) Z) (pg1 2 [0] 23 Z ?_)
   refine dd Z (E7 A1n Z Z s Z ((r.til).toNat) opx opx) (dd Z (J0 (us:=D0 (c2.getD ((r.til).toNat) ZV)) D3g Z Z (F8 (c:=D0) (sz:=12) s (fun _=>Z) 1 Z (gd ZV opx)) Z) (zdg 2 2 [0] [(27,ag (D0 r.sign))] ?_))
   refine dd Z (A3m (a:=(c2.getD ((r.til).toNat) ZV)) (b:=r.sign) E4x Z Z Z) (k_ ?_)
   exact zad 8 20 29 g7
  refine de ?_
  refine zja Z hR ?_ ?_<;>intro hR h8 a0
  ·have ap:=F7l hv a0 a2.1
   have am:i64.wrap (r.til+i64.wrap (1+r.sign.wide))=r.til+(1+r.sign.wide):=by rw [wr6 (x:=1+r.sign.wide) opx,wr6 opx]
   have a9:i64.wrap (r.many+1)=r.many+1:=wr6 opx
   refine k_ ?_
   refine ix Z (J8.pure Z) (zrg 2 0 [0] [] (bx q (G7 ({r with many:=(i64.wrap (r.many+(1:Int)))})) 201::A::(Lt1++([]))) ?_)
   refine k_ ?_
   refine ix Z (J8.pure Z) (ix Z (J8.pure Z) (zrg 2 0 [0] [] (bx q (G7 ({r with many:=(i64.wrap (r.many+(1:Int))),til:=(i64.wrap (r.til+(i64.wrap ((1:Int)+r.sign.wide))))})) 201::A::(Lt1++([]))) ?_))
   exact A1 (Z0 (z1:=(fu3+1,r,R_1,Lt1,Ft1)) (fu3,({r with many:=(i64.wrap (r.many+(1:Int))),til:=(i64.wrap (r.til+(i64.wrap ((1:Int)+r.sign.wide))))}),R_1,Lt1,Ft1) ⟨otw,hR,o,otw,(by exact ⟨fun e=>by dsimp only at e;omega,by dsimp only;omega⟩)⟩ (Nat.lt_succ_self _) bU (A7.con1 (A5 0 Z) (A7.con1 (A5 1 Z) (A7.con1 (A5 2 Z) (A7.dropT 3 Z)))))
  have ac:f<r.til:=Int.lt_iff_le_and_ne.2 ⟨a1.2,fun e=>a0 ⟨by omega,by rw [← e];exact a1.1 e.symm⟩⟩
  refine kc_ ?_
  refine bY 2 2 [0] [(42,.func (.yield l) #[] #[]),(43,ag (G7 r))] ?_
  obtain ⟨R9,hR,p⟩:=C2v hR;rw [p] at o
  refine it Z (A6x (L2:=[B,A]) (hY _ R9 _ _ o) Z Z Z Z (A7.dropT 3 Z) (I8 [[B],[A],Lt1] [2,0,1] 3 Z ozw Z [Lt1,[B],[A]] Z ooa)) fun ⟨⟨z,L11,Φ12⟩,i⟩=>(B1j (A7.yield [at_ j [iv c1],sl D0 g c2,at_ k [.slice g c2.length h]]) (B2n (L':=(B::A::(L11++([])))) (I8 [L11,[B],[A]] [1,2,0] 3 Z ozw Z [[B],[A],L11] Z opv) (bP 1 45 Z (ie (G3 Z (fun y=>?_) (fun y=>?_))))))
  ·have u:z=false:=by simpa using y
   rw [u] at i;try simp only [if_true,if_false,Bool.false_eq_true] at i
   exact A8 (B6z Z ⟨hr,hD⟩ (by simp [hD]) (B3x rfl) (L':=L11) (Φ':=Φ12) (by exact .inr i) (mcT [[B],[A],L11] 2 Z Z) (A7.dropT 3 Z))
  ·have u:z=true:=by simpa using y
   rw [u] at i;try simp only [if_true,if_false,Bool.false_eq_true] at i
   refine kc_ ?_
   refine zrg 3 0 [0,1] [] (B::bx d [iv r.til] 3::(L11++([]))) ?_
   exact A1 (Z0 (z1:=(fu1+1,f,R_,Lt,Ft)) (fu1,r.til,R9,L11,Φ12) ⟨opx,hR,i,opx⟩ (Nat.lt_succ_self _) bU (A7.con1 (A5 0 Z) (A7.con1 (A5 1 Z) (A7.con1 (A5 2 Z) (A7.dropT 3 Z)))))
 subst hR
 exact F1 (A0y Z ⟨hr,hD⟩ (by simp [hD]) (B3x rfl) (L':=Lt) (Φ':=Ft) (by exact .inl w) (mcT [[A],Lt] 1 Z Z) (A7.dropT 3 Z))
def A4d (l:jz) (c:Cel):jz :=
 (bif (!decide (c.marks.a=0)) then (bif (!decide (c.marks.b=0)) then (((l++([{ZZ with kind:=1,n:=c.base}]:jz))++([{ZZ with kind:=1,n:=c.marks.a}]:jz))++([{ZZ with kind:=1,n:=c.marks.b}]:jz)) else ((l++([{ZZ with kind:=1,n:=c.base}]:jz))++([{ZZ with kind:=1,n:=c.marks.a}]:jz))) else (bif (!decide (c.marks.b=0)) then ((l++([{ZZ with kind:=1,n:=c.base}]:jz))++([{ZZ with kind:=1,n:=c.marks.b}]:jz)) else (l++([{ZZ with kind:=1,n:=c.base}]:jz))))
theorem B1k (l:jz) (c:Cel):(A4d l c).length≤l.length+3∧((∀ a ∈ l,tk a)→∀ a ∈ A4d l c,tk a):=by
 have b:∀ (l:jz) (n:Int),(∀ a ∈ l,tk a)→∀ a ∈ l++([{ZZ with kind:=1,n:=n}]:jz),tk a:=fun l n h a d=>by
  rcases List.mem_append.1 d with d | d
  ·grind
  ·rw [List.mem_singleton.1 d];exact ⟨Nat.zero_le _,(by simp)⟩
 unfold A4d
 simp only [Bool.cond_eq_ite]
 repeat' split
 all_goals refine ⟨by simp only [List.length_append,List.length_cons,List.length_nil];omega,fun h=>?_⟩
 all_goals grind
theorem C3n {c:Cel} {lr:VR} {R:jz} (hR:A4d l c=R) (g:bT 6 l.length lr:=by exact bW) (hn:l.length≤1000000:=by exact bW):cM prog 205 [.slice (va lr.q) l.length lr.k,ag (D0 c)] ((vo A2 51 lr l)++([])) [] ({r:VR // bT 6 R.length r}) (fun x=>.slice (va x.1.q) R.length x.1.k) (fun x=>((vo A2 51 x.1 R)++([]))) (fun x=>[]):=by
 refine cD Tryz.func205 fun X hX hr hD=>?_
 rw[A4d]at hR
 refine bS Z (cI 2 [] (fun m=>[(3,pt m 0)]) (fun _=>(D0 c)) 71 fun m=>(ie (bS Z (bY 4 3 [0] [(7,.slice (va lr.q) l.length lr.k),(10,ag (A2 ({ZZ with kind:=1,n:=c.base})))] (it Z (B0 (c:=A2) (xs:=[{ZZ with kind:=1,n:=c.base}]) N3 Z Z Z oki) fun b2=>?_)))))
 let A:=[bx m (D0 c) 71]
 have:([{ZZ with kind:=1,n:=c.base}]:jz).length=1:=rfl
 refine it Z (Q7 (f:=A2) (r:=lr) (xs:=l) (ys:=([{ZZ with kind:=1,n:=c.base}]:jz)) (pre:=A) (post:=[]) A0c jJ jJ Z Z Z Z Z Z Z Z Z (A5 0 Z) g ofv ofv) fun ⟨j,e⟩=>(bP 1 0 Z (ie (A3 (bS Z (bY 3 0 [0] [(14,ag (A3a c.marks)),(15,iv 0)] (ie (A9 (A1g 4 ?_))))))))
 refine E9 (bS Z (bP 1 16 Z (ie (A3 (K1 Z (A4 (nx (A3 (A9 (bS Z (ix Z (F3 Tryz.underlying69 cE Z Z Z 0) (bP 1 6 Z (ie (bS Z (bP 2 19 Z (ie ?_))))))))))))))))
 refine zjn Z hR ?_ ?_<;>intro hR h5 y
 ·refine A0 6 Z (bY 3 3 [] [(20,.slice (va j.q) ((l++[{ZZ with kind:=1,n:=c.base}]).length) j.k),(22,ag (A2 ({ZZ with kind:=1,n:=c.marks.a})))] (it Z (B0 (c:=A2) (xs:=[{ZZ with kind:=1,n:=c.marks.a}]) N3 Z Z Z oki) fun b6=>?_))
  refine it Z (Q7 (f:=A2) (r:=j) (xs:=(l++([{ZZ with kind:=1,n:=c.base}]:jz))) (ys:=([{ZZ with kind:=1,n:=c.marks.a}]:jz)) (pre:=A) (post:=[]) A0c jJ jJ Z Z Z Z Z Z Z Z Z (A5 0 Z) e ofv ofv) fun ⟨o,i⟩=>(bP 1 0 Z (A1 (nx (A0 2 Z (ix Z (B1 (c:=1)) (bP 1 15 Z (A1 (E9 (bS Z (bP 1 16 Z (ie (A3 (K1 Z (A4 (nx (A3 (A9 (bS Z (ix Z (F3 Tryz.underlying69 cE Z Z Z 1) (bP 1 6 Z (ie (bS Z (bP 2 19 Z (ie ?_))))))))))))))))))))))))
  refine zjn Z hR ?_ ?_<;>intro hR h9 z
  ·refine A0 6 Z (bY 3 3 [] [(20,.slice (va o.q) (((l++[{ZZ with kind:=1,n:=c.base}])++[{ZZ with kind:=1,n:=c.marks.a}]).length) o.k),(22,ag (A2 ({ZZ with kind:=1,n:=c.marks.b})))] (it Z (B0 (c:=A2) (xs:=[{ZZ with kind:=1,n:=c.marks.b}]) N3 Z Z Z oki) fun w=>?_))
   refine it Z (Q7 (f:=A2) (r:=o) (xs:=((l++([{ZZ with kind:=1,n:=c.base}]:jz))++([{ZZ with kind:=1,n:=c.marks.a}]:jz))) (ys:=([{ZZ with kind:=1,n:=c.marks.b}]:jz)) (pre:=A) (post:=[]) A0c jJ jJ Z Z Z Z Z Z Z Z Z (A5 0 Z) i ofv ofv) fun ⟨s,d⟩=>(bP 1 0 Z (A1 (nx (A0 2 Z (ix Z (B1 (c:=2)) (bP 1 15 Z (A1 (E9 (bS Z (bP 1 16 Z (ie (A3 (A5t Z (F1 (nx (bS Z (bP 2 4 Z ?_)))))))))))))))))
   subst hR
   exact ie (A8 (ci _))
  refine A4 (nx (A0 2 Z (ix Z (B1 (c:=2)) (bP 1 15 Z (A1 (E9 (bS Z (bP 1 16 Z (ie (A3 (A5t Z (F1 (nx (bS Z (bP 2 4 Z ?_)))))))))))))))
  subst hR
  exact ie (A8 (ci _))
 refine A4 (nx (A0 2 Z (ix Z (B1 (c:=1)) (bP 1 15 Z (A1 (E9 (bS Z (bP 1 16 Z (ie (A3 (K1 Z (A4 (nx (A3 (A9 (bS Z (ix Z (F3 Tryz.underlying69 cE Z Z Z 1) (bP 1 6 Z (ie (bS Z (bP 2 19 Z (ie ?_))))))))))))))))))))))
 refine zjn Z hR ?_ ?_<;>intro hR v t
 ·refine A0 6 Z (bY 3 3 [] [(20,.slice (va j.q) ((l++[{ZZ with kind:=1,n:=c.base}]).length) j.k),(22,ag (A2 ({ZZ with kind:=1,n:=c.marks.b})))] (it Z (B0 (c:=A2) (xs:=[{ZZ with kind:=1,n:=c.marks.b}]) N3 Z Z Z oki) fun u=>?_))
  refine it Z (Q7 (f:=A2) (r:=j) (xs:=(l++([{ZZ with kind:=1,n:=c.base}]:jz))) (ys:=([{ZZ with kind:=1,n:=c.marks.b}]:jz)) (pre:=A) (post:=[]) A0c jJ jJ Z Z Z Z Z Z Z Z Z (A5 0 Z) e ofv ofv) fun ⟨p,h⟩=>(bP 1 0 Z (A1 (nx (A0 2 Z (ix Z (B1 (c:=2)) (bP 1 15 Z (A1 (E9 (bS Z (bP 1 16 Z (ie (A3 (A5t Z (F1 (nx (bS Z (bP 2 4 Z ?_)))))))))))))))))
  subst hR
  exact ie (A8 (ci _))
 refine A4 (nx (A0 2 Z (ix Z (B1 (c:=2)) (bP 1 15 Z (A1 (E9 (bS Z (bP 1 16 Z (ie (A3 (A5t Z (F1 (nx (bS Z (bP 2 4 Z ?_)))))))))))))))
 subst hR
 exact ie (A8 (ci _))
def F2 (aJ:Sty) (pl:jz) (pat:Int) (to_:Sty):jz :=
 (B5 (A8s aJ to_) fun (a:jz×Int)=>a.1)
theorem V1 (aJ:Sty) (pl:jz) (pat:Int) (to_:Sty):(F2 aJ pl pat to_).length≤22∧(∀ a ∈ F2 aJ pl pat to_,a.kind=39∧a.text=[])∧∀ a ∈ F2 aJ pl pat to_,tk a:=by
 unfold F2 B5
 exact ⟨B4q _ _,B1d _ _,fun a b=>⟨by rw [(B1d _ _ a b).2];simp,by rw [(B1d _ _ a b).1];decide⟩⟩
theorem E1x {a:Act} (h:∀ a ∈ l,tk a) (d:a.text=[]) (b:a.kind≤43:=by first|decide|(dsimp only;omega)|dsimp only):∀ x ∈ l++([a]:jz),tk x:=by grind
theorem A4a {to_:Sty} {R:jz} (hR:F2 aJ pl pat to_=R) (d:bT 6 pl.length plr:=by exact bW):cM prog 204 [pt pb 0,ag (B7 to_)] (bx pb (aI aJ plr pl pat) 196::((vo A2 51 plr pl)++([]))) [A1o,A1p,M1,P0] ({r:VR // bT 6 R.length r}) (fun x=>.slice (va x.1.q) R.length x.1.k) (fun x=>(bx pb (aI aJ plr pl pat) 196::((vo A2 51 plr pl)++((vo A2 51 x.1 R)++([]))))) (fun x=>[]):=by
 let D:=vo A2 51 plr pl
 let B:=bx pb (aI aJ plr pl pat) 196
 refine cD Tryz.func204 fun X hX hr hD=>?_
 rw[F2]at hR
 have:=bT.le d
 refine k_ ?_
 refine D7x 2 0 [] (fun b=>[(3,pt b 0)]) (fun b=>(bx b (B7 to_) 63::B::(D++([])))) (fun b=>(ie ?_))
 let F:=bx b (B7 to_) 63
 let A:=bx b (B7 to_) 63::bx pb (aI aJ plr pl pat) 196::(D++([]))
 refine sh 12 [(12,[F]),(12,[B]),(12,vo A2 51 plr pl)] [A1o,A1p,M1,P0] A (cL 12 0) oki Z oki oki oki bU A7.refl ?_
 refine zhp [0,1,2,3] 8 (cL 12 15) [(11,pt pb 0)] ?_
 refine zhl 4 A (cL 12 31) Z (G6 (us:=(aD aJ [])) B4w Z Z 1) ?_
 refine zhl 5 A (cL 12 63) Z (G6 (us:=B7 to_) B4w Z Z 0) ?_
 obtain ⟨f,e,hR⟩:=C3 hR
 refine zho 6 A (cL 12 127) Z (N9 (L2:=A) (D2q e) Z Z Z Z Z A7.refl jK (fun ⟨c,a⟩=>(F::B::(D++((vo A2 51 c f.1)++([]))))) (fun ⟨c,a⟩=>I8 [vo A2 51 c f.1,[F],[B],D] [1,2,3,0] 4 Z ozw opv [[F],[B],D,vo A2 51 c f.1] Z opv)) (fun ⟨c,a⟩=>bU) (fun ⟨c,a⟩=>A7.refl) fun ⟨c,a⟩=>?_
 have:=bT.lc a
 have:=B4q aJ to_;try rw [e] at this
 have:=B1d aJ to_;try rw [e] at this
 refine zhp [7,8,9,10,11] 0 (cL 12 4095) [(5,.slice (va c.q) f.1.length c.k)] ?_
 refine D6r oki (k_ ?_)
 subst hR
 exact ie (A8 (ci ⟨c,a⟩))
def K2 (r:Prn):Nat→jz→Nat→(jz×Sty×Int×Bool)
 | 0,_,_=>([],ZJ,0,false)
 | fu1+1,l,a=>(bif (decide ((a:Int)<r.many)) then (B5 (A4d l r.sign) fun (b:jz)=>K2 r fu1 b (a+1)) else (l,r.sign.sty,r.til,true))
def R6 (aJ:Sty) (pl:jz) (pat:Int) (r:Prn) (p2:Bool):jz×Sty×Int×Bool :=
 (B5 (F2 aJ pl pat r.sign.sty) fun (a:jz)=>K2 r ((r.many - (0:Int)).toNat+1) a 0)
theorem A8f (r:Prn):∀ (fu:Nat) (l:jz) (t:Nat),(∀ a ∈ l,tk a)→(K2 r fu l t).1.length≤l.length+3 * (r.many - t).toNat∧∀ a ∈ (K2 r fu l t).1,tk a
 | 0,l,t,_=>by
  simp[K2]
 | fu+1,l,t,h=>by
  rw [K2]
  by_cases c:(t:Int)<r.many
  ·rw [jQ c,cond_true,B5]
   have d:=B1k l r.sign
   have b:=A8f r fu _ (t+1) (d.2 h)
   exact ⟨by have:=b.1;have:=d.1;omega,b.2⟩
  ·rw [jX c,cond_false]
   exact ⟨Nat.le_add_right _ _,h⟩
theorem A5h (aJ:Sty) (pl:jz) (pat:Int) (r:Prn) (p2:Bool) (c:0≤r.many∧r.many≤100):(R6 aJ pl pat r p2).1.length≤322∧∀ a ∈ (R6 aJ pl pat r p2).1,tk a:=by grind[R6,B5,V1,A8f]
theorem C0f (hR:R6 aJ pl pat r p2=R) (f:bT 6 pl.length plr:=by exact bW) (v:0≤r.many∧r.many≤100:=by exact bW):cM prog 162 [pt pb 0,ag (G7 r),bv p2] (bx pb (aI aJ plr pl pat) 196::((vo A2 51 plr pl)++([]))) [A1o,A1p,M1,P0] ({r:VR // bT 6 R.1.length r}) (fun x=>.tuple #[ag (.slice (va x.1.q) R.1.length x.1.k::aD R.2.1 [iv R.2.2.1]),bv R.2.2.2]) (fun x=>(bx pb (aI aJ plr pl pat) 196::((vo A2 51 plr pl)++((vo A2 51 x.1 R.1)++([]))))) (fun x=>[]):=by
 let D:=vo A2 51 plr pl
 let A:=bx pb (aI aJ plr pl pat) 196
 refine cD Tryz.func162 fun X hX hr hD=>?_
 rw[R6]at hR
 refine k_ ?_
 refine B3r 3 [] (fun a d=>[(4,pt a 0),(6,pt d 0)]) (fun _ _=>(G7 r)) (fun _ _=>aF) 201 258 fun a d=>?_
 refine ie (kc_ ?_)
 refine bY 4 2 [1] [(9,pt pb 0),(12,ag (B7 r.sign.sty))] ?_
 let F:=bx d aF 258
 let B:=bx a (G7 r) 201
 obtain ⟨s,o,hR⟩:=C3 hR
 refine it Z (N9 (L2:=[F,B]) (A4a (aJ:=aJ) (pl:=pl) (pat:=pat) (to_:=r.sign.sty) (pb:=pb) (plr:=plr) o f) Z Z Z Z Z A7.refl (I8 [[F],[B],[A],D] [2,3,0,1] 4 Z ozw Z [[A],D,[F],[B]] Z opv) (fun ⟨i,h⟩=>(F::B::A::(D++((vo A2 51 i s)++([]))))) (fun ⟨i,h⟩=>I8 [[A],D,vo A2 51 i s,[F],[B]] [3,4,0,1,2] 5 Z ozw opv [[F],[B],[A],D,vo A2 51 i s] Z opv)) fun ⟨i,h⟩=>?_
 have:=bT.le h
 have:=V1 aJ pl pat r.sign.sty;try rw [o] at this
 obtain ⟨_,_,_⟩:=this
 refine k_ ?_
 refine ie (A9 (A1y (un fun fu=>un fun l=>un fun lr (b:Nat)=>((r.many - b).toNat<fu∧K2 r fu l b=R∧bT 6 l.length lr∧(l.length≤22+3 * b∧b≤r.many),[(4,_),(6,_),(8,.slice (va lr.q) l.length lr.k),(15,iv _),(16,iv b)],(bx d _ _::bx a _ _::bx _ _ _::((vo _ _ _ _)++((vo _ _ lr l)++([])))),[_,_,_,_],fu)) (_,s,i,0) ⟨(Nat.lt_succ_self _),hR,h,opx⟩ bU A7.refl ?_))
 rintro ⟨fu,l,lr,b⟩ ⟨w,hR,e,y⟩
 let G:=vo A2 51 lr l
 have:=bT.le e
 obtain ⟨fu1,rfl⟩:∃ m,fu=m+1:=⟨fu - 1,by omega⟩
 rw[K2]at hR
 refine k_ ?_
 refine ie (A3 ?_)
 refine cK Z hR ?_ ?_<;>intro hR z u
 ·refine kc_ ?_
  refine bY 3 2 [1] [(18,.slice (va lr.q) l.length lr.k),(20,ag (D0 r.sign))] ?_
  obtain ⟨p,n,hR⟩:=C3 hR
  refine it Z (N9 (L2:=(F::B::A::(D++([])))) (C3n (l:=l) (c:=r.sign) (lr:=lr) n e) Z Z Z Z Z bX (I8 [[F],[B],[A],D,G] [4,0,1,2,3] 5 Z ozw Z [G,[F],[B],[A],D] Z opv) (fun ⟨j,g⟩=>(F::B::A::(D++((vo A2 51 j p)++([]))))) (fun ⟨j,g⟩=>I8 [vo A2 51 j p,[F],[B],[A],D] [1,2,3,4,0] 5 Z ozw opv [[F],[B],[A],D,vo A2 51 j p] Z opv)) fun ⟨j,g⟩=>?_
  have:=B1k l r.sign;try rw [n] at this
  refine k_ ?_
  refine ix Z B1 (k_ ?_)
  exact A1 (z0 (_,p,j,_) ⟨opx,hR,g,opx⟩)
 refine kc_ ?_
 refine zrg 9 0 [1,1,0] [(7,bv true)] (bx d (.slice (va lr.q) l.length lr.k::aD r.sign.sty [iv r.til]) 258::B::A::(D++(G++([])))) ?_
 subst hR
 refine k_ ?_
 exact cc (Y4 Z (E8 D1w Z 0) A6) ⟨_,e⟩
def Q5 (aJ:Sty) (pl:jz) (pat:Int) (r:Prn) (p2:Bool):jz×Sty×Int×Bool :=
 (bif ((decide (r.many<2))||(!(B1n r.sign))) then (([]:jz),(⟨0,0,(⟨0,0⟩:Col),(⟨0,0⟩:Col),(⟨0,0⟩:Col)⟩:Sty),0,false) else (B5 (F2 aJ pl pat r.sign.sty) fun (a:jz)=>(B5 (A4d a r.sign) fun (b:jz)=>((b++([{ZZ with kind:=34,n:=(i64.wrap (r.many - (1:Int)))}]:jz)),r.sign.sty,r.til,true))))
theorem A5b (aJ:Sty) (pl:jz) (pat:Int) (r:Prn) (p2:Bool):(Q5 aJ pl pat r p2).1.length≤322∧∀ a ∈ (Q5 aJ pl pat r p2).1,tk a:=by
 unfold Q5 B5
 have d:=V1 aJ pl pat r.sign.sty
 have c:=B1k (F2 aJ pl pat r.sign.sty) r.sign
 simp only [Bool.cond_eq_ite]
 split
 ·simp
 ·exact ⟨by grind,E1x (c.2 d.2.2) Z⟩
theorem ogz {p:Prop} (h:p:=by first|rfl|(try dsimp only;simp +zetaDelta only [List.append_nil,List.cons_append,List.nil_append,List.append_assoc])):p:=h
theorem B8o (hR:Q5 aJ pl pat r p2=R) (j:bT 6 pl.length plr:=by exact bW) (a0:0≤r.many∧r.many≤100:=by exact bW):cM prog 163 [pt pb 0,ag (G7 r),bv p2] (bx pb (aI aJ plr pl pat) 196::((vo A2 51 plr pl)++([]))) [A1o,A1p,M1,P0] ({r:VR // bT 6 R.1.length r}) (fun x=>.tuple #[ag (.slice (va x.1.q) R.1.length x.1.k::aD R.2.1 [iv R.2.2.1]),bv R.2.2.2]) (fun x=>(bx pb (aI aJ plr pl pat) 196::((vo A2 51 plr pl)++((vo A2 51 x.1 R.1)++([]))))) (fun x=>[]):=by
 let F:=vo A2 51 plr pl
 let B:=bx pb (aI aJ plr pl pat) 196
 refine cD Tryz.func163 fun X hX hr hD=>?_
 rw[Q5]at hR
 have:=bT.le j
 refine k_ ?_
 refine F8l 3 0 [] (fun a b=>[(4,pt a 0),(6,pt b 0)]) (fun a b=>(bx b aF 258::bx a (G7 r) 201::B::(F++([])))) (fun a b=>(ie (A3 (bS Z (cB 4 [1] 12 Z ?_)))))
 let G:=bx b aF 258
 let D:=bx a (G7 r) 201
 let A:=bx b aF 258::bx a (G7 r) 201::bx pb (aI aJ plr pl pat) 196::(F++([]))
 refine zir 5 0 12 17 (!(B1n r.sign)) (fun g3 z=>?_) ?_
 ·refine bY 2 3 [1] [(14,ag (D0 r.sign))] ?_
  refine zv Z (C8m Z) ?_
  exact bP 2 17 Z (A1 (I1 4 12 17 g3 A7.refl bU Z Z Z Z Z))
 refine ie ?_
 refine zjb Z hR ?_ ?_<;>intro hR w
 ·have u:=bV w
  refine k_ ?_
  refine zrg 3 0 [0] [(7,bv false)] A ?_
  subst hR
  refine k_ ?_
  exact cc (Y4 Z (E8 (us:=aF) D1w Z 0) A6) ⟨VR.nil,bT.nil⟩
 have u:=bV w
 refine A4 (nx (sh 9 [(9,[G]),(9,[D]),(9,[B]),(9,vo A2 51 plr pl)] [A1o,A1p,M1,P0] A (cL 9 0) oki Z oki oki oki bU A7.refl ?_))
 refine zhp [0,1,2,5] 5 (cL 9 39) [(19,pt pb 0),(21,pt a 4),(24,pt a 0)] ?_
 refine zhl 3 A (cL 9 47) Z (G6 (us:=B7 r.sign.sty) B4w Z Z 1) ?_
 refine zhl 6 A (cL 9 111) Z (G6 (us:=D0 r.sign) D3g Z Z 1) ?_
 obtain ⟨o,s,hR⟩:=C3 hR
 refine zho 4 A (cL 9 127) Z (N9 (L2:=[G,D]) (A4a s j) Z Z Z Z Z A7.refl (I8 [[G],[D],[B],F] [2,3,0,1] 4 Z ozw Z [[B],F,[G],[D]] Z opv) (fun ⟨m,i⟩=>(G::D::B::(F++((vo A2 51 m o)++([]))))) (fun ⟨m,i⟩=>I8 [[B],F,vo A2 51 m o,[G],[D]] [3,4,0,1,2] 5 Z ozw opv [[G],[D],[B],F,vo A2 51 m o] Z opv)) (fun ⟨m,i⟩=>bU) (fun ⟨m,i⟩=>A7.refl) fun ⟨m,i⟩=>?_
 have:=bT.lc i
 have:=V1 aJ pl pat r.sign.sty;try rw [s] at this
 obtain ⟨_,_,_⟩:=this
 obtain ⟨l,p,hR⟩:=C3 hR
 refine zho 7 A (cL 9 255) Z (N9 (L2:=A) (C3n p i) Z Z Z Z Z bX (I8 [[G],[D],[B],F,vo A2 51 m o] [4,0,1,2,3] 5 Z ozw Z [vo A2 51 m o,[G],[D],[B],F] Z opv) (fun ⟨g,h⟩=>(G::D::B::(F++((vo A2 51 g l)++([]))))) (fun ⟨g,h⟩=>I8 [vo A2 51 g l,[G],[D],[B],F] [1,2,3,4,0] 5 Z ozw opv [[G],[D],[B],F,vo A2 51 g l] Z opv)) (fun ⟨g,h⟩=>bU) (fun ⟨g,h⟩=>A7.refl) fun ⟨g,h⟩=>?_
 let H:=(vo A2 51 g l)++([])
 have:=bT.lc h
 have:=B1k o r.sign;try rw [p] at this
 refine zhp [8] 0 (cL 9 511) [(8,.slice (va g.q) l.length g.k)] ?_
 refine D6r oki (sh 15 [(13,[G]),(15,[D]),(15,[B]),(15,vo A2 51 plr pl),(6,vo A2 51 g l)] [A1o,A1p,M1,P0] (G::D::B::(F++H)) (cL 15 0) oki Z oki oki oki bU A7.refl ?_)
 refine zhp [0,1,7,8,10] 10 (cL 15 1411) [(27,.slice (va g.q) l.length g.k),(28,pt a 12),(35,pt a 4),(37,pt a 14)] ?_
 refine zhl 2 A (cL 15 1415) Z (B8 (v:=iv r.many) cE Z Z 1) ?_
 refine zhk 3 (cL 15 1423) Z (J8.pure Z) ?_
 refine zhk 4 (cL 15 1439) Z (A2h (cs:=A2 ({ZZ with kind:=34,n:=(i64.wrap (r.many - (1:Int)))})) Z Z oki) ?_
 refine zhl 9 A (cL 15 1951) Z (G6 (us:=B7 r.sign.sty) B4w Z Z 1) ?_
 refine zhl 11 A (cL 15 3999) Z (B8 (v:=iv r.til) cE Z Z 1) ?_
 refine zho 5 (G::D::B::(F++H)) (cL 15 4031) Z (B0 (c:=A2) (xs:=([{ZZ with kind:=34,n:=(IntKind.i64.wrap (r.many - (1:Int)))}]:List Act)) N3 Z Z Z oki) (fun y=>bU) (fun y=>c9) fun y=>?_
 have:([{ZZ with kind:=34,n:=(i64.wrap (r.many - (1:Int)))}]:jz).length=1:=rfl
 refine zho 6 (bx b aF 258::bx a (G7 r) 201::bx pb (aI aJ plr pl pat) 196::((vo A2 51 plr pl)++([]))) (cL 15 4095) Z (Tri.own (Q7 (f:=A2) (r:=g) (xs:=l) (ys:=([{ZZ with kind:=34,n:=(i64.wrap (r.many - (1:Int)))}]:jz)) (pre:=(bx b aF 258::bx a (G7 r) 201::bx pb (aI aJ plr pl pat) 196::((vo A2 51 plr pl)++([])))) (post:=[]) A0c jJ jJ Z Z Z Z Z Z Z Z ogz (A5 0 Z) h ofv ofv) (fun ⟨d,e⟩=>(bx b aF 258::bx a (G7 r) 201::bx pb (aI aJ plr pl pat) 196::((vo A2 51 plr pl)++((vo A2 51 d (l++([{ZZ with kind:=34,n:=(i64.wrap (r.many - (1:Int)))}]:jz)))++([]))))) (fun ⟨d,e⟩=>by first|rfl|(try dsimp only;simp only [List.append_nil,List.cons_append,List.nil_append,List.append_assoc]))) (fun ⟨d,e⟩=>bU) (fun ⟨d,e⟩=>c9) fun ⟨d,e⟩=>?_
 have:=bT.lc e
 refine zhk 12 (cL 15 8191) Z (A2h (cs:=(.slice (va d.q) ((l++([{ZZ with kind:=34,n:=(i64.wrap (r.many - (1:Int)))}]:jz)).length) d.k::aD r.sign.sty [iv r.til])) Z Z oki) ?_
 refine zho 13 (D::B::(F++([]))) (cL 15 16383) Z (O9 (us:=(.slice (va d.q) ((l++([{ZZ with kind:=34,n:=(i64.wrap (r.many - (1:Int)))}]:jz)).length) d.k::aD r.sign.sty [iv r.til])) (cs':=(.slice (va d.q) ((l++([{ZZ with kind:=34,n:=(i64.wrap (r.many - (1:Int)))}]:jz)).length) d.k::aD r.sign.sty [iv r.til])) D1w Z Z Z 0) (fun _=>bU) (fun _=>c9) fun _=>?_
 refine zhp [14] 0 (cL 15 32767) [(7,bv true)] ?_
 refine D6r oki ?_
 subst hR
 exact A8 (cc (Y4 Z (E8 (us:=(.slice (va d.q) ((l++([{ZZ with kind:=34,n:=(i64.wrap (r.many - (1:Int)))}]:jz)).length) d.k::aD r.sign.sty [iv r.til])) D1w Z 0) A6) ⟨d,e⟩)
def A0b (aJ:Sty) (r:Prn) (last:Bool) (l:jz):jz×Sty×Int×Bool :=
 (bif last then (l,(⟨aJ.attr,aJ.under,aJ.fore,r.sign.sty.back,aJ.line⟩:Sty),r.at_,true) else ((l++([{ZZ with kind:=20,n:=2,m:=r.many}]:jz)),(⟨aJ.attr,aJ.under,aJ.fore,r.sign.sty.back,aJ.line⟩:Sty),r.til,true))
def R8 (aJ:Sty) (pl:jz) (pat:Int) (r:Prn) (last:Bool):jz×Sty×Int×Bool :=
 (bif (((!(B1n r.sign))||(!decide (r.sign.base=32)))||(!(decide (r.sign.sty={ZJ with back:=r.sign.sty.back})))) then (([]:jz),(⟨0,0,(⟨0,0⟩:Col),(⟨0,0⟩:Col),(⟨0,0⟩:Col)⟩:Sty),0,false) else A0b aJ r last ((F2 aJ pl pat ({aJ with back:=r.sign.sty.back}))++([{ZZ with kind:=30,n:=r.many}]:jz)))
theorem A5i (aJ:Sty) (pl:jz) (pat:Int) (r:Prn) (last:Bool):(R8 aJ pl pat r last).1.length≤322∧∀ a ∈ (R8 aJ pl pat r last).1,tk a:=by
 unfold R8 A0b
 have b:=V1 aJ pl pat ({aJ with back:=r.sign.sty.back})
 simp only [Bool.cond_eq_ite]
 repeat' split
 ·simp
 ·exact ⟨by grind,E1x b.2.2 Z⟩
 ·exact ⟨by grind,E1x (E1x b.2.2 Z) Z⟩
theorem B9u (hR:R8 aJ pl pat r last=R) (s:bT 6 pl.length plr:=by exact bW) (a8:0≤r.many∧r.many≤100:=by exact bW):cM prog 164 [pt pb 0,ag (G7 r),bv last] (bx pb (aI aJ plr pl pat) 196::((vo A2 51 plr pl)++([]))) [A1o,A1p,M1,P0] ({r:VR // bT 6 R.1.length r}) (fun x=>.tuple #[ag (.slice (va x.1.q) R.1.length x.1.k::aD R.2.1 [iv R.2.2.1]),bv R.2.2.2]) (fun x=>(bx pb (aI aJ plr pl pat) 196::((vo A2 51 plr pl)++((vo A2 51 x.1 R.1)++([]))))) (fun x=>[]):=by
 let F:=vo A2 51 plr pl
 let B:=bx pb (aI aJ plr pl pat) 196
 refine cD Tryz.func164 fun X hX hr hD=>?_
 rw[R8]at hR
 have:=bT.le s
 refine k_ ?_
 refine F8l 3 0 [] (fun d e=>[(4,pt d 0),(6,pt e 0)]) (fun d e=>(bx e aF 258::bx d (G7 r) 201::B::(F++([])))) (fun d e=>(ie (A3 (bS Z (bY 2 19 [1] [(11,ag (D0 r.sign))] (zv Z (C8m Z) (bP 2 14 Z ?_)))))))
 let G:=bx e aF 258
 let D:=bx d (G7 r) 201
 let A:=bx e aF 258::bx d (G7 r) 201::bx pb (aI aJ plr pl pat) 196::(F++([]))
 refine zio 5 11 14 19 (!decide (r.sign.base=32)) (fun g3=>?_) ?_
 ·exact cB 5 [1] 19 Z (A1 (I1 2 14 19 g3 A7.refl bU Z Z Z Z Z))
 refine k_ ?_
 refine zio 10 0 20 30 (!(decide (r.sign.sty={ZJ with back:=r.sign.sty.back}))) (fun g4=>?_) ?_
 ·have a9:=bV g4
  refine bY 8 2 [1,1] [(23,ag (B7 r.sign.sty)),(28,ag (B7 ({ZJ with back:=r.sign.sty.back})))] ?_
  refine ix Z (A0f (a:=r.sign.sty) (b:={ZJ with back:=r.sign.sty.back}) E0h Z Z Z) (k_ ?_)
  exact I1 5 20 30 g4 A7.refl bU Z Z Z Z Z
 refine ie ?_
 refine zjb Z hR ?_ ?_<;>intro hR h5
 ·have a3:=bV h5
  refine k_ ?_
  refine zrg 3 0 [0] [(7,bv false)] A ?_
  subst hR
  refine k_ ?_
  exact cc (Y4 Z (E8 (us:=aF) D1w Z 0) A6) ⟨VR.nil,bT.nil⟩
 have a3:=bV h5
 refine kc_ ?_
 refine D7x 7 0 [2,0] (fun g=>[(8,pt g 0)]) (fun g=>(bx g (B7 aJ) 63::A)) (fun g=>(ie (bS Z (zrg 6 0 [2,0] [] (bx g (B7 ({aJ with back:=r.sign.sty.back})) 63::A) ?_))))
 refine ie (A7i (un fun (l:jz) (lr:VR)=>(A0b aJ r last l=R∧bT 6 l.length lr∧l.length≤321,[(2,bv last),(4,pt d 0),(6,pt e 0),(8,pt g 0),(9,.slice (va lr.q) l.length lr.k)],(bx g (B7 ({aJ with back:=r.sign.sty.back})) 63::G::D::B::(F++((vo A2 51 lr l)++([])))),[A1o,A1p,M1,P0])) ?_ ?_)
 ·refine sh' 9 [(9,[bx g (B7 ({aJ with back:=r.sign.sty.back})) 63]),(9,[G]),(9,[D]),(9,[B]),(9,vo A2 51 plr pl)] [A1o,A1p,M1,P0] (bx g (B7 ({aJ with back:=r.sign.sty.back})) 63::A) (cL 9 0) oki Z oki oki oki bU A7.refl ?_
  refine zhp [0,3] 7 (cL 9 9) [(42,pt pb 0),(45,pt d 12)] ?_
  refine zhl 1 (bx g (B7 ({aJ with back:=r.sign.sty.back})) 63::A) (cL 9 11) Z (G6 (us:=B7 ({aJ with back:=r.sign.sty.back})) B4w Z Z 0) ?_
  refine zhl 4 (bx g (B7 ({aJ with back:=r.sign.sty.back})) 63::A) (cL 9 27) Z (B8 (v:=iv r.many) cE Z Z 2) ?_
  refine zhk 5 (cL 9 59) Z (A2h (cs:=A2 ({ZZ with kind:=30,n:=r.many})) Z Z oki) ?_
  refine E4k 2 6 oki ?_ ?_
  ·refine F4f 2 (bx g (B7 ({aJ with back:=r.sign.sty.back})) 63::A) (cL 9 63) Z Z Z oki oki oki (N9 (L2:=[bx g (B7 ({aJ with back:=r.sign.sty.back})) 63,G,D]) (A4a (aJ:=aJ) (pl:=pl) (pat:=pat) (to_:=({aJ with back:=r.sign.sty.back})) (pb:=pb) (plr:=plr) Z s) Z Z Z Z Z A7.refl (I8 [[bx g (B7 ({aJ with back:=r.sign.sty.back})) 63],[G],[D],[B],F] [3,4,0,1,2] 5 Z ozw Z [[B],F,[bx g (B7 ({aJ with back:=r.sign.sty.back})) 63],[G],[D]] Z opv) (fun ⟨r7,y⟩=>(bx g (B7 ({aJ with back:=r.sign.sty.back})) 63::G::D::B::(F++((vo A2 51 r7 (F2 aJ pl pat ({aJ with back:=r.sign.sty.back})))++([]))))) (fun ⟨r7,y⟩=>I8 [[B],F,vo A2 51 r7 (F2 aJ pl pat ({aJ with back:=r.sign.sty.back})),[bx g (B7 ({aJ with back:=r.sign.sty.back})) 63],[G],[D]] [3,4,5,0,1,2] 6 Z ozw opv [[bx g (B7 ({aJ with back:=r.sign.sty.back})) 63],[G],[D],[B],F,vo A2 51 r7 (F2 aJ pl pat ({aJ with back:=r.sign.sty.back}))] Z opv)) (fun ⟨r7,y⟩=>bU) (fun ⟨r7,y⟩=>A7.refl) fun ⟨r7,y⟩=>?_
   have:=bT.lc y
   have:=V1 aJ pl pat ({aJ with back:=r.sign.sty.back})
   obtain ⟨_,_,_⟩:=this
   refine zho 6 (bx g (B7 ({aJ with back:=r.sign.sty.back})) 63::A) (cL 9 127) Z (B0 (c:=A2) (xs:=([{ZZ with kind:=30,n:=r.many}]:List Act)) N3 Z Z Z oki) (fun b9=>bU) (fun b9=>c9) fun b9=>?_
   have:([{ZZ with kind:=30,n:=r.many}]:jz).length=1:=rfl
   refine zho 7 (bx g (B7 ({aJ with back:=r.sign.sty.back})) 63::bx e aF 258::bx d (G7 r) 201::bx pb (aI aJ plr pl pat) 196::((vo A2 51 plr pl)++([]))) (cL 9 255) Z (Tri.own (Q7 (f:=A2) (r:=r7) (xs:=(F2 aJ pl pat ({aJ with back:=r.sign.sty.back}))) (ys:=([{ZZ with kind:=30,n:=r.many}]:jz)) (pre:=(bx g (B7 ({aJ with back:=r.sign.sty.back})) 63::bx e aF 258::bx d (G7 r) 201::bx pb (aI aJ plr pl pat) 196::((vo A2 51 plr pl)++([])))) (post:=[]) A0c jJ jJ Z Z Z Z Z Z Z Z ogz (A5 0 Z) y ofv ofv) (fun ⟨u,o⟩=>(bx g (B7 ({aJ with back:=r.sign.sty.back})) 63::bx e aF 258::bx d (G7 r) 201::bx pb (aI aJ plr pl pat) 196::((vo A2 51 plr pl)++((vo A2 51 u ((F2 aJ pl pat ({aJ with back:=r.sign.sty.back}))++([{ZZ with kind:=30,n:=r.many}]:jz)))++([]))))) (fun ⟨u,o⟩=>by first|rfl|(try dsimp only;simp only [List.append_nil,List.cons_append,List.nil_append,List.append_assoc]))) (fun ⟨u,o⟩=>bU) (fun ⟨u,o⟩=>c9) fun ⟨u,o⟩=>?_
   have:=bT.lc o
   refine zhp [8] 0 (cL 9 511) [(9,.slice (va u.q) (((F2 aJ pl pat ({aJ with back:=r.sign.sty.back}))++([{ZZ with kind:=30,n:=r.many}]:jz)).length) u.k)] ?_
   exact C5e oki (S6 (((F2 aJ pl pat ({aJ with back:=r.sign.sty.back}))++([{ZZ with kind:=30,n:=r.many}]:List Act)),u) ⟨hR,o,oqx⟩ bU c9)
  ·refine F4f 6 (bx g (B7 ({aJ with back:=r.sign.sty.back})) 63::A) (cL 9 123) Z Z Z oki oki oki (B0 (c:=A2) (xs:=([{ZZ with kind:=30,n:=r.many}]:List Act)) N3 Z Z Z oki) (fun a2=>bU) (fun a2=>c9) fun a2=>?_
   have:([{ZZ with kind:=30,n:=r.many}]:jz).length=1:=rfl
   refine zho 2 (bx g (B7 ({aJ with back:=r.sign.sty.back})) 63::A) (cL 9 127) Z (N9 (L2:=[bx g (B7 ({aJ with back:=r.sign.sty.back})) 63,G,D]) (A4a (aJ:=aJ) (pl:=pl) (pat:=pat) (to_:=({aJ with back:=r.sign.sty.back})) (pb:=pb) (plr:=plr) Z s) Z Z Z Z Z c9 (I8 [[bx g (B7 ({aJ with back:=r.sign.sty.back})) 63],[G],[D],[B],F] [3,4,0,1,2] 5 Z ozw Z [[B],F,[bx g (B7 ({aJ with back:=r.sign.sty.back})) 63],[G],[D]] Z opv) (fun ⟨w,p⟩=>(bx g (B7 ({aJ with back:=r.sign.sty.back})) 63::G::D::B::(F++((vo A2 51 w (F2 aJ pl pat ({aJ with back:=r.sign.sty.back})))++([]))))) (fun ⟨w,p⟩=>I8 [[B],F,vo A2 51 w (F2 aJ pl pat ({aJ with back:=r.sign.sty.back})),[bx g (B7 ({aJ with back:=r.sign.sty.back})) 63],[G],[D]] [3,4,5,0,1,2] 6 Z ozw opv [[bx g (B7 ({aJ with back:=r.sign.sty.back})) 63],[G],[D],[B],F,vo A2 51 w (F2 aJ pl pat ({aJ with back:=r.sign.sty.back}))] Z opv)) (fun ⟨w,p⟩=>bU) (fun ⟨w,p⟩=>c9) fun ⟨w,p⟩=>?_
   have:=bT.lc p
   have:=V1 aJ pl pat ({aJ with back:=r.sign.sty.back})
   obtain ⟨_,_,_⟩:=this
   refine zho 7 (bx g (B7 ({aJ with back:=r.sign.sty.back})) 63::bx e aF 258::bx d (G7 r) 201::bx pb (aI aJ plr pl pat) 196::((vo A2 51 plr pl)++([]))) (cL 9 255) Z (Tri.own (Q7 (f:=A2) (r:=w) (xs:=(F2 aJ pl pat ({aJ with back:=r.sign.sty.back}))) (ys:=([{ZZ with kind:=30,n:=r.many}]:jz)) (pre:=(bx g (B7 ({aJ with back:=r.sign.sty.back})) 63::bx e aF 258::bx d (G7 r) 201::bx pb (aI aJ plr pl pat) 196::((vo A2 51 plr pl)++([])))) (post:=[]) A0c jJ jJ Z Z Z Z Z Z Z Z ogz (A5 0 Z) p ofv ofv) (fun ⟨t,j⟩=>(bx g (B7 ({aJ with back:=r.sign.sty.back})) 63::bx e aF 258::bx d (G7 r) 201::bx pb (aI aJ plr pl pat) 196::((vo A2 51 plr pl)++((vo A2 51 t ((F2 aJ pl pat ({aJ with back:=r.sign.sty.back}))++([{ZZ with kind:=30,n:=r.many}]:jz)))++([]))))) (fun ⟨t,j⟩=>by first|rfl|(try dsimp only;simp only [List.append_nil,List.cons_append,List.nil_append,List.append_assoc]))) (fun ⟨t,j⟩=>bU) (fun ⟨t,j⟩=>c9) fun ⟨t,j⟩=>?_
   have:=bT.lc j
   refine zhp [8] 0 (cL 9 511) [(9,.slice (va t.q) (((F2 aJ pl pat ({aJ with back:=r.sign.sty.back}))++([{ZZ with kind:=30,n:=r.many}]:jz)).length) t.k)] ?_
   exact C5e oki (S6 (((F2 aJ pl pat ({aJ with back:=r.sign.sty.back}))++([{ZZ with kind:=30,n:=r.many}]:List Act)),t) ⟨hR,j,oqx⟩ bU c9)
 rintro ⟨l,lr⟩
 let H:=(vo A2 51 lr l)++([])
 rintro ⟨hR,z,hj⟩
 rw[A0b]at hR
 refine k_ ?_
 refine ie ?_
 refine zjb Z hR ?_ ?_<;>intro hR a7
 ·refine kc_ ?_
  refine zrg 7 0 [0,2,1] [(7,bv true)] (bx g (B7 ({aJ with back:=r.sign.sty.back})) 63::bx e [.slice (va lr.q) l.length lr.k,iv aJ.attr,iv aJ.under,iv aJ.fore.kind,iv aJ.fore.n,iv r.sign.sty.back.kind,iv r.sign.sty.back.n,iv aJ.line.kind,iv aJ.line.n,iv r.at_] 258::D::B::(F++H)) ?_
  subst hR
  refine k_ ?_
  exact cc (Y4 Z (E8 (us:=[.slice (va lr.q) l.length lr.k,iv aJ.attr,iv aJ.under,iv aJ.fore.kind,iv aJ.fore.n,iv r.sign.sty.back.kind,iv r.sign.sty.back.n,iv aJ.line.kind,iv aJ.line.n,iv r.at_]) D1w Z 1) A6) ⟨lr,z⟩
 refine A4 (nx (sh 12 [(12,[bx g (B7 ({aJ with back:=r.sign.sty.back})) 63]),(10,[G]),(12,[D]),(12,[B]),(12,vo A2 51 plr pl),(5,vo A2 51 lr l)] [A1o,A1p,M1,P0] (bx g (B7 ({aJ with back:=r.sign.sty.back})) 63::G::D::B::(F++H)) (cL 12 0) oki Z oki oki oki bU A7.refl ?_))
 refine zhp [0,1,7] 9 (cL 12 131) [(56,.slice (va lr.q) l.length lr.k),(57,pt d 12),(63,pt d 14)] ?_
 refine zhl 2 (bx g (B7 ({aJ with back:=r.sign.sty.back})) 63::A) (cL 12 135) Z (B8 (v:=iv r.many) cE Z Z 2) ?_
 refine zhk 3 (cL 12 143) Z (A2h (cs:=A2 ({ZZ with kind:=20,n:=2,m:=r.many})) Z Z oki) ?_
 refine zhl 6 (bx g (B7 ({aJ with back:=r.sign.sty.back})) 63::A) (cL 12 207) Z (G6 (us:=B7 ({aJ with back:=r.sign.sty.back})) B4w Z Z 0) ?_
 refine zhl 8 (bx g (B7 ({aJ with back:=r.sign.sty.back})) 63::A) (cL 12 463) Z (B8 (v:=iv r.til) cE Z Z 2) ?_
 refine zho 4 (bx g (B7 ({aJ with back:=r.sign.sty.back})) 63::G::D::B::(F++H)) (cL 12 479) Z (B0 (c:=A2) (xs:=([{ZZ with kind:=20,n:=2,m:=r.many}]:List Act)) N3 Z Z Z oki) (fun a1=>bU) (fun a1=>c9) fun a1=>?_
 have:([{ZZ with kind:=20,n:=2,m:=r.many}]:jz).length=1:=rfl
 refine zho 5 (bx g (B7 ({aJ with back:=r.sign.sty.back})) 63::bx e aF 258::bx d (G7 r) 201::bx pb (aI aJ plr pl pat) 196::((vo A2 51 plr pl)++([]))) (cL 12 511) Z (Tri.own (Q7 (f:=A2) (r:=lr) (xs:=l) (ys:=([{ZZ with kind:=20,n:=2,m:=r.many}]:jz)) (pre:=(bx g (B7 ({aJ with back:=r.sign.sty.back})) 63::bx e aF 258::bx d (G7 r) 201::bx pb (aI aJ plr pl pat) 196::((vo A2 51 plr pl)++([])))) (post:=[]) A0c jJ jJ Z Z Z Z Z Z Z Z ogz (A5 0 Z) z ofv ofv) (fun ⟨h,i⟩=>(bx g (B7 ({aJ with back:=r.sign.sty.back})) 63::bx e aF 258::bx d (G7 r) 201::bx pb (aI aJ plr pl pat) 196::((vo A2 51 plr pl)++((vo A2 51 h (l++([{ZZ with kind:=20,n:=2,m:=r.many}]:jz)))++([]))))) (fun ⟨h,i⟩=>by first|rfl|(try dsimp only;simp only [List.append_nil,List.cons_append,List.nil_append,List.append_assoc]))) (fun ⟨h,i⟩=>bU) (fun ⟨h,i⟩=>c9) fun ⟨h,i⟩=>?_
 have:=bT.lc i
 refine zhk 9 (cL 12 1023) Z (A2h (cs:=[.slice (va h.q) ((l++([{ZZ with kind:=20,n:=2,m:=r.many}]:jz)).length) h.k,iv aJ.attr,iv aJ.under,iv aJ.fore.kind,iv aJ.fore.n,iv r.sign.sty.back.kind,iv r.sign.sty.back.n,iv aJ.line.kind,iv aJ.line.n,iv r.til]) Z Z oki) ?_
 refine zho 10 (bx g (B7 ({aJ with back:=r.sign.sty.back})) 63::D::B::(F++([]))) (cL 12 2047) Z (O9 (us:=[.slice (va h.q) ((l++([{ZZ with kind:=20,n:=2,m:=r.many}]:jz)).length) h.k,iv aJ.attr,iv aJ.under,iv aJ.fore.kind,iv aJ.fore.n,iv r.sign.sty.back.kind,iv r.sign.sty.back.n,iv aJ.line.kind,iv aJ.line.n,iv r.til]) (cs':=[.slice (va h.q) ((l++([{ZZ with kind:=20,n:=2,m:=r.many}]:jz)).length) h.k,iv aJ.attr,iv aJ.under,iv aJ.fore.kind,iv aJ.fore.n,iv r.sign.sty.back.kind,iv r.sign.sty.back.n,iv aJ.line.kind,iv aJ.line.n,iv r.til]) D1w Z Z Z 1) (fun _=>bU) (fun _=>c9) fun _=>?_
 refine zhp [11] 0 (cL 12 4095) [(7,bv true)] ?_
 refine D6r oki ?_
 subst hR
 exact A8 (cc (Y4 Z (E8 (us:=[.slice (va h.q) ((l++([{ZZ with kind:=20,n:=2,m:=r.many}]:jz)).length) h.k,iv aJ.attr,iv aJ.under,iv aJ.fore.kind,iv aJ.fore.n,iv r.sign.sty.back.kind,iv r.sign.sty.back.n,iv aJ.line.kind,iv aJ.line.n,iv r.til]) D1w Z 1) A6) ⟨h,i⟩)
def O1 (pl:jz) (d:Int) (c:jz) (a:Sty) (b:Int):jz×Sty×Int :=
 ((pl++c),a,b)
def O2 (aJ:Sty) (pl:jz) (pat:Int) (r:Prn) (last:Bool) (b:Int) (d:jz) (a:Sty) (c:Int):jz×Sty×Int :=
 (B5 (R8 aJ pl pat r last) fun (e:jz×Sty×Int×Bool)=>(B5 (X2 e.1) fun (f:List UInt8×Int)=>(bif (((!e.2.2.2)||(!decide (f.2=0)))||((decide ((0:Int)≤b))&&(decide (b≤(f.1.length:Int))))) then O1 pl b d a c else O1 pl (f.1.length:Int) e.1 e.2.1 e.2.2.1)))
def N2 (aJ:Sty) (pl:jz) (pat:Int) (r:Prn) (last:Bool) (b:Int) (d:jz) (a:Sty) (c:Int):jz×Sty×Int :=
 (B5 (Q5 aJ pl pat r last) fun (e:jz×Sty×Int×Bool)=>(B5 (X2 e.1) fun (f:List UInt8×Int)=>(bif (((!e.2.2.2)||(!decide (f.2=0)))||((decide ((0:Int)≤b))&&(decide (b≤(f.1.length:Int))))) then O2 aJ pl pat r last b d a c else O2 aJ pl pat r last (f.1.length:Int) e.1 e.2.1 e.2.2.1)))
def U7 (aJ:Sty) (pl:jz) (pat:Int) (r:Prn) (last:Bool):jz×Sty×Int :=
 (B5 (R6 aJ pl pat r last) fun (a:jz×Sty×Int×Bool)=>(B5 (X2 a.1) fun (b:List UInt8×Int)=>(bif (((!a.2.2.2)||(!decide (b.2=0)))||false) then N2 aJ pl pat r last (-1) ([]:jz) (⟨0,0,(⟨0,0⟩:Col),(⟨0,0⟩:Col),(⟨0,0⟩:Col)⟩:Sty) 0 else N2 aJ pl pat r last (b.1.length:Int) a.1 a.2.1 a.2.2.1)))
theorem D0y {n:Nat} (b:x.1.length≤n) (a:y.1.length≤n):(bif c then x else y).1.length≤n:=by grind
theorem A9g (pl:jz) (c:Int) (b:jz) (s:Sty) (t:Int) (hb:b.length≤322):(O1 pl c b s t).1.length≤pl.length+322:=by grind[O1]
theorem A9n (a:Sty) (pl:jz) (pat:Int) (r:Prn) (last:Bool) (c:Int) (b:jz) (s:Sty) (t:Int) (hb:b.length≤322):(O2 a pl pat r last c b s t).1.length≤pl.length+322:=by simp_all[O2,D0y,A9g,A5i]
theorem A9w (a:Sty) (pl:jz) (pat:Int) (r:Prn) (last:Bool) (c:Int) (b:jz) (s:Sty) (t:Int) (hb:b.length≤322):(N2 a pl pat r last c b s t).1.length≤pl.length+322:=by simp_all[N2,D0y,A9n,A5b]
theorem B3k (aJ:Sty) (pl:jz) (pat:Int) (r:Prn) (last:Bool) (a:0≤r.many∧r.many≤100):(U7 aJ pl pat r last).1.length≤pl.length+322:=by
 unfold U7 B5
 exact D0y (A9w _ _ _ _ _ _ _ _ _ (Nat.zero_le _)) (A9w _ _ _ _ _ _ _ _ _ (A5h _ _ _ _ _ a).1)
theorem E4i (d:∀ a ∈ x.1,tk a) (b:∀ a ∈ y.1,tk a):∀ a ∈ (bif c then x else y).1,tk a:=by grind
theorem B0q (pl:jz) (c:Int) (b:jz) (s:Sty) (t:Int) (e:∀ a ∈ pl,tk a) (hb:∀ a ∈ b,tk a):∀ a ∈ (O1 pl c b s t).1,tk a:=by grind[O1]
theorem B0o (e:Sty) (pl:jz) (pat:Int) (r:Prn) (last:Bool) (c:Int) (b:jz) (s:Sty) (t:Int) (d:∀ a ∈ pl,tk a) (hb:∀ a ∈ b,tk a):∀ a ∈ (O2 e pl pat r last c b s t).1,tk a:=by
 unfold O2 B5
 exact E4i (B0q _ _ _ _ _ d hb) (B0q _ _ _ _ _ d (A5i ..).2)
theorem B0r (e:Sty) (pl:jz) (pat:Int) (r:Prn) (last:Bool) (c:Int) (b:jz) (s:Sty) (t:Int) (d:∀ a ∈ pl,tk a) (hb:∀ a ∈ b,tk a):∀ a ∈ (N2 e pl pat r last c b s t).1,tk a:=by
 unfold N2 B5
 exact E4i (B0o _ _ _ _ _ _ _ _ _ d hb) (B0o _ _ _ _ _ _ _ _ _ d (A5b ..).2)
theorem C1h (aJ:Sty) (pl:jz) (pat:Int) (r:Prn) (last:Bool) (c:0≤r.many∧r.many≤100) (b:∀ a ∈ pl,tk a):∀ a ∈ (U7 aJ pl pat r last).1,tk a:=by
 unfold U7 B5
 exact E4i (B0r _ _ _ _ _ _ _ _ _ b (fun a d=>by cases d)) (B0r _ _ _ _ _ _ _ _ _ b (A5h _ _ _ _ _ c).2)
theorem C3b {R:jz×Sty×Int} (hR:U7 aJ pl pat r last=R) (a7:bT 6 pl.length plr:=by exact bW) (bz:0≤r.many∧r.many≤100:=by exact bW) (bw:pl.length≤1000000:=by exact bW):cM prog 105 [pt pb 0,ag (G7 r),bv last] (bx pb (aI aJ plr pl pat) 196::((vo A2 51 plr pl)++([]))) [A1o,A1p,M1,P0] ({r:VR // bT 6 R.1.length r}) (fun x=>.tuple #[]) (fun x=>(bx pb (aD R.2.1 [.slice (va x.1.q) R.1.length x.1.k,iv R.2.2]) 196::((vo A2 51 x.1 R.1)++([])))) (fun x=>[]):=by
 let G:=vo A2 51 plr pl
 let A:=bx pb (aI aJ plr pl pat) 196
 refine cD Tryz.func105 fun X hX hr hD=>?_
 rw[U7]at hR
 refine k_ ?_
 refine cI 1 [] (fun y=>[(4,pt y 0)]) (fun _=>(G7 r)) 201 fun y=>?_
 refine ie (C5d (k_ ?_))
 refine cI 1 [] (fun w=>[(6,pt w 0)]) (fun _=>aF) 258 fun w=>?_
 refine ie (k_ ?_)
 refine ie (A3 (C5g (kc_ ?_)))
 refine bY _ 0 [] [(23,ag [.func (.func 162) #[pt pb 0] #[],.func (.func 163) #[pt pb 0] #[],.func (.func 164) #[pt pb 0] #[]]),(24,iv 0)] (ie (A9 (A1g 5 ?_)))
 let Zb:=bx w aF 258
 let B:=bx y (G7 r) 201
 refine E9 (bS Z (bP 1 25 Z (ie (A3 (K1 Z (A4 (nx (A7i (un fun aa=>un fun h=>un fun b=>un fun g o=>(N2 aJ pl pat r last aa h g o=R∧bT 6 h.length b∧h.length≤322,[(0,pt pb 0),(2,bv last),(4,pt y 0),(6,pt w 0),(7,iv aa),(23,ag [.func (.func 162) #[pt pb 0] #[],.func (.func 163) #[pt pb 0] #[],.func (.func 164) #[pt pb 0] #[]]),(24,iv 0)],(bx w (.slice (va b.q) h.length b.k::aD g [iv o]) 258::B::A::(G++((vo A2 51 b h)++([])))),[A1o,A1p,M1,P0])) ?_ ?_))))))))
 ·refine k_ ?_
  refine ix Z (F3 (v:=ag [_]) Tryz.underlying262 F6u Z Z Z 0) (cI 2 [0] (fun b3=>[(9,pt b3 0)]) (fun _=>[.func (.func 162) #[pt pb 0] #[]]) 261 fun b3=>?_)
  let H:=bx b3 [.func (.func 162) #[pt pb 0] #[]] 261
  refine ie (kc_ ?_)
  refine bY 4 7 [0,2] [(29,.func (.func 162) #[pt pb 0] #[]),(30,ag (G7 r)),(31,bv last)] ?_
  obtain ⟨z,b9,hR⟩:=C3 hR
  refine it Z (N9 (L2:=[H,Zb,B]) (C0f (aJ:=aJ) (pl:=pl) (pat:=pat) (r:=r) (p2:=last) (pb:=pb) (plr:=plr) b9 a7 (by assumption)) Z Z Z Z Z A7.refl (I8 [[H],[Zb],[B],[A],G] [3,4,0,1,2] 5 Z ozw Z [[A],G,[H],[Zb],[B]] Z opv) (fun ⟨r4,af⟩=>(H::Zb::B::A::(G++((vo A2 51 r4 z.1)++([]))))) (fun ⟨r4,af⟩=>I8 [[A],G,vo A2 51 r4 z.1,[H],[Zb],[B]] [3,4,5,0,1,2] 6 Z ozw opv [[H],[Zb],[B],[A],G,vo A2 51 r4 z.1] Z opv)) fun ⟨r4,af⟩=>?_
  let α:=vo A2 51 r4 z.1
  have:=A5h aJ pl pat r last (by first|assumption|exact hel _ jU);try rw [b9] at this
  obtain ⟨_,_⟩:=this
  refine cI 6 [0] (fun b6=>[(10,pt b6 0),(11,bv z.2.2.2)]) (fun _=>(.slice (va r4.q) z.1.length r4.k::aD z.2.1 [iv z.2.2.1])) 258 fun b6=>?_
  let U:=bx b6 (.slice (va r4.q) z.1.length r4.k::aD z.2.1 [iv z.2.2.1]) 258
  refine k_ ?_
  have:=bT.lc af
  obtain ⟨y4,b5,hR⟩:=C3 hR
  refine it Z (N9 (L2:=(U::H::Zb::B::A::(G++([])))) (cM.lend (T:=51) af (B3m (l:=z.1) (lq:=(va r4.q)) (lk:=r4.k) b5 bW bW (by omega))) Z Z Z Z Z A7.refl (I8 [[U],[H],[Zb],[B],[A],G,α] [6,0,1,2,3,4,5] 7 Z ozw Z [α,[U],[H],[Zb],[B],[A],G] Z opv) (fun ⟨r7,au⟩=>(U::H::Zb::B::A::(G++(α++((vo cJ 5 r7 y4.1)++([])))))) (fun ⟨r7,au⟩=>I8 [α,vo cJ 5 r7 y4.1,[U],[H],[Zb],[B],[A],G] [2,3,4,5,6,7,0,1] 8 Z ozw opv [[U],[H],[Zb],[B],[A],G,α,vo cJ 5 r7 y4.1] Z opv)) fun ⟨r7,au⟩=>?_
  try have:=A9l z.1 (fun x p=>Nat.le_trans (hrow x (by first|exact p|exact List.mem_of_mem_take p|exact List.mem_of_mem_drop p)) ozw);try rw [b5] at this
  refine cF 5 12 13 Z (ie (A3 (bS Z (bP 3 43 Z (zio 3 10 43 46 (!decide (y4.2=0)) (fun g9=>?_) ?_)))))
  ·exact bP 3 46 Z (A1 (I1 2 43 _ g9 A7.refl bU Z Z Z Z Z))
  refine bP 1 47 Z (zio 9 0 47 56 false (fun bh=>?_) ?_)
  ·have bo:=bV bh
   exact bP 9 56 Z (A1 (I1 2 47 _ bh A7.refl bU Z Z Z Z Z))
  refine ie ?_
  refine zjb Z hR ?_ ?_<;>intro hR bd
  ·have az:=bV bd
   exact F1 (Y9 (I8 [_,_,_,_,_,_,_,_,_] [3,4,5,6,0,1,2,7,8] 9 Z ozw Z [[_],[_],[_],vo _ _ _ _,vo A2 51 VR.nil [],[_],[_],vo _ _ _ _,vo _ 5 _ _] Z opv) (S6 (_,_,_,_,0) ⟨hR,bT.nil,(by first|assumption|exact Nat.zero_le _)⟩ bU A7.refl))
  refine k_ ?_
  refine zrg 5 0 [0,2] [(7,iv y4.1.length)] (U::H::bx w (.slice (va r4.q) z.1.length r4.k::aD z.2.1 [iv z.2.2.1]) 258::B::A::(G++(α++((vo cJ 5 r7 y4.1)++([]))))) ?_
  exact A1 (S6 (_,_,_,_,_) ⟨hR,af,(by first|assumption|exact Nat.zero_le _)⟩ bU A7.refl)
 rintro ⟨aa,h,b,g,o⟩
 let Zc:=vo A2 51 b h
 let D:=bx w (.slice (va b.q) h.length b.k::aD g [iv o]) 258
 rintro ⟨hR,ai,c2⟩
 rw[N2]at hR
 refine A0 2 Z (ix Z (B1 (c:=1)) (bP 1 24 Z (A1 (E9 (bS Z (bP 1 25 Z (ie (A3 (K1 Z (A4 (nx (A7i (un fun a5=>un fun d=>un fun a=>un fun e i=>(O2 aJ pl pat r last a5 d e i=R∧bT 6 d.length a∧d.length≤322,[(0,pt pb 0),(2,bv last),(4,pt y 0),(6,pt w 0),(7,iv a5),(23,ag [.func (.func 162) #[pt pb 0] #[],.func (.func 163) #[pt pb 0] #[],.func (.func 164) #[pt pb 0] #[]]),(24,iv 1)],(bx w (.slice (va a.q) d.length a.k::aD e [iv i]) 258::B::A::(G++((vo A2 51 a d)++([])))),[A1o,A1p,M1,P0])) ?_ ?_))))))))))))
 ·refine k_ ?_
  refine ix Z (F3 (v:=ag [_]) Tryz.underlying262 F6u Z Z Z 1) (cI 2 [0] (fun a6=>[(9,pt a6 0)]) (fun _=>[.func (.func 163) #[pt pb 0] #[]]) 261 fun a6=>?_)
  let I:=bx a6 [.func (.func 163) #[pt pb 0] #[]] 261
  refine ie (kc_ ?_)
  refine bY 4 7 [0,2] [(29,.func (.func 163) #[pt pb 0] #[]),(30,ag (G7 r)),(31,bv last)] ?_
  obtain ⟨y2,bb,hR⟩:=C3 hR
  refine it Z (N9 (L2:=(I::D::B::(Zc++([])))) (B8o (aJ:=aJ) (pl:=pl) (pat:=pat) (r:=r) (p2:=last) (pb:=pb) (plr:=plr) bb a7 (by assumption)) Z Z Z Z Z A7.refl (I8 [[I],[D],[B],[A],G,Zc] [3,4,0,1,2,5] 6 Z ozw Z [[A],G,[I],[D],[B],Zc] Z opv) (fun ⟨t,a8⟩=>(I::D::B::A::(G++(Zc++((vo A2 51 t y2.1)++([])))))) (fun ⟨t,a8⟩=>I8 [[A],G,vo A2 51 t y2.1,[I],[D],[B],Zc] [3,4,5,0,1,6,2] 7 Z ozw opv [[I],[D],[B],[A],G,Zc,vo A2 51 t y2.1] Z opv)) fun ⟨t,a8⟩=>?_
  let β:=vo A2 51 t y2.1
  have:=A5b aJ pl pat r last;try rw [bb] at this
  obtain ⟨_,_⟩:=this
  refine cI 6 [0] (fun ac=>[(10,pt ac 0),(11,bv y2.2.2.2)]) (fun _=>(.slice (va t.q) y2.1.length t.k::aD y2.2.1 [iv y2.2.2.1])) 258 fun ac=>?_
  let N:=bx ac (.slice (va t.q) y2.1.length t.k::aD y2.2.1 [iv y2.2.2.1]) 258
  refine k_ ?_
  have:=bT.lc a8
  obtain ⟨y8,ba,hR⟩:=C3 hR
  refine it Z (N9 (L2:=(N::I::D::B::A::(G++(Zc++([]))))) (cM.lend (T:=51) a8 (B3m (l:=y2.1) (lq:=(va t.q)) (lk:=t.k) ba bW bW (by omega))) Z Z Z Z Z A7.refl (I8 [[N],[I],[D],[B],[A],G,Zc,β] [7,0,1,2,3,4,5,6] 8 Z ozw Z [β,[N],[I],[D],[B],[A],G,Zc] Z opv) (fun ⟨am,ak⟩=>(N::I::D::B::A::(G++(Zc++(β++((vo cJ 5 am y8.1)++([]))))))) (fun ⟨am,ak⟩=>I8 [β,vo cJ 5 am y8.1,[N],[I],[D],[B],[A],G,Zc] [2,3,4,5,6,7,8,0,1] 9 Z ozw opv [[N],[I],[D],[B],[A],G,Zc,β,vo cJ 5 am y8.1] Z opv)) fun ⟨am,ak⟩=>?_
  try have:=A9l y2.1 (fun x p=>Nat.le_trans (hrow x (by first|exact p|exact List.mem_of_mem_take p|exact List.mem_of_mem_drop p)) ozw);try rw [ba] at this
  refine cF 5 12 13 Z (ie (A3 (bS Z (bP 3 43 Z (zio 3 10 43 46 (!decide (y8.2=0)) (fun bi=>?_) ?_)))))
  ·exact bP 3 46 Z (A1 (I1 2 43 _ bi A7.refl bU Z Z Z Z Z))
  refine bP 1 47 Z (zio 9 0 47 56 ((decide (0≤aa))&&(decide (aa≤y8.1.length))) (fun b8=>?_) ?_)
  ·have bp:=bV b8
   refine bP 3 50 Z (zid 5 1 50 55 (decide (aa≤y8.1.length)) (fun bl bm=>?_) ?_)
   ·exact bP 5 55 Z (A1 (I1 2 50 _ bl A7.refl bU Z Z Z Z Z))
   refine k_ ?_
   exact I1 4 47 _ b8 A7.refl bU Z Z Z Z Z
  refine ie ?_
  refine zjb Z hR ?_ ?_<;>intro hR b7
  ·have bc:=bV b7
   exact F1 (S6 (_,h,b,g,o) ⟨hR,ai,(by first|assumption|exact Nat.zero_le _)⟩ bU A7.refl)
  refine k_ ?_
  refine zrg 5 0 [0,2] [(7,iv y8.1.length)] (N::I::bx w (.slice (va t.q) y2.1.length t.k::aD y2.2.1 [iv y2.2.2.1]) 258::B::A::(G++(Zc++(β++((vo cJ 5 am y8.1)++([])))))) ?_
  exact A1 (S6 (_,_,t,_,_) ⟨hR,a8,(by first|assumption|exact Nat.zero_le _)⟩ bU A7.refl)
 rintro ⟨a5,d,a,e,i⟩
 let W:=vo A2 51 a d
 let F:=bx w (.slice (va a.q) d.length a.k::aD e [iv i]) 258
 rintro ⟨hR,ah,c1⟩
 rw[O2]at hR
 refine A0 2 Z (ix Z (B1 (c:=2)) (bP 1 24 Z (A1 (E9 (bS Z (bP 1 25 Z (ie (A3 (K1 Z (A4 (nx (A7i (un fun aj=>un fun n=>un fun m=>un fun j u=>(O1 pl aj n j u=R∧bT 6 n.length m∧n.length≤322,[(0,pt pb 0),(2,bv last),(4,pt y 0),(6,pt w 0),(7,iv aj),(23,ag [.func (.func 162) #[pt pb 0] #[],.func (.func 163) #[pt pb 0] #[],.func (.func 164) #[pt pb 0] #[]]),(24,iv 2)],(bx w (.slice (va m.q) n.length m.k::aD j [iv u]) 258::B::A::(G++((vo A2 51 m n)++([])))),[A1o,A1p,M1,P0])) ?_ ?_))))))))))))
 ·refine k_ ?_
  refine ix Z (F3 (v:=ag [_]) Tryz.underlying262 F6u Z Z Z 2) (cI 2 [0] (fun a4=>[(9,pt a4 0)]) (fun _=>[.func (.func 164) #[pt pb 0] #[]]) 261 fun a4=>?_)
  let M:=bx a4 [.func (.func 164) #[pt pb 0] #[]] 261
  refine ie (kc_ ?_)
  refine bY 4 7 [0,2] [(29,.func (.func 164) #[pt pb 0] #[]),(30,ag (G7 r)),(31,bv last)] ?_
  obtain ⟨y1,b0,hR⟩:=C3 hR
  refine it Z (N9 (L2:=(M::F::B::(W++([])))) (B9u (aJ:=aJ) (pl:=pl) (pat:=pat) (r:=r) (last:=last) (pb:=pb) (plr:=plr) b0 a7 (by assumption)) Z Z Z Z Z A7.refl (I8 [[M],[F],[B],[A],G,W] [3,4,0,1,2,5] 6 Z ozw Z [[A],G,[M],[F],[B],W] Z opv) (fun ⟨s,a9⟩=>(M::F::B::A::(G++(W++((vo A2 51 s y1.1)++([])))))) (fun ⟨s,a9⟩=>I8 [[A],G,vo A2 51 s y1.1,[M],[F],[B],W] [3,4,5,0,1,6,2] 7 Z ozw opv [[M],[F],[B],[A],G,W,vo A2 51 s y1.1] Z opv)) fun ⟨s,a9⟩=>?_
  let γ:=vo A2 51 s y1.1
  have:=A5i aJ pl pat r last;try rw [b0] at this
  obtain ⟨_,_⟩:=this
  refine cI 6 [0] (fun ad=>[(10,pt ad 0),(11,bv y1.2.2.2)]) (fun _=>(.slice (va s.q) y1.1.length s.k::aD y1.2.1 [iv y1.2.2.1])) 258 fun ad=>?_
  let S:=bx ad (.slice (va s.q) y1.1.length s.k::aD y1.2.1 [iv y1.2.2.1]) 258
  refine k_ ?_
  have:=bT.lc a9
  obtain ⟨y7,ay,hR⟩:=C3 hR
  refine it Z (N9 (L2:=(S::M::F::B::A::(G++(W++([]))))) (cM.lend (T:=51) a9 (B3m (l:=y1.1) (lq:=(va s.q)) (lk:=s.k) ay bW bW (by omega))) Z Z Z Z Z A7.refl (I8 [[S],[M],[F],[B],[A],G,W,γ] [7,0,1,2,3,4,5,6] 8 Z ozw Z [γ,[S],[M],[F],[B],[A],G,W] Z opv) (fun ⟨an,al⟩=>(S::M::F::B::A::(G++(W++(γ++((vo cJ 5 an y7.1)++([]))))))) (fun ⟨an,al⟩=>I8 [γ,vo cJ 5 an y7.1,[S],[M],[F],[B],[A],G,W] [2,3,4,5,6,7,8,0,1] 9 Z ozw opv [[S],[M],[F],[B],[A],G,W,γ,vo cJ 5 an y7.1] Z opv)) fun ⟨an,al⟩=>?_
  try have:=A9l y1.1 (fun x p=>Nat.le_trans (hrow x (by first|exact p|exact List.mem_of_mem_take p|exact List.mem_of_mem_drop p)) ozw);try rw [ay] at this
  refine cF 5 12 13 Z (ie (A3 (bS Z (bP 3 43 Z (zio 3 10 43 46 (!decide (y7.2=0)) (fun bj=>?_) ?_)))))
  ·exact bP 3 46 Z (A1 (I1 2 43 _ bj A7.refl bU Z Z Z Z Z))
  refine bP 1 47 Z (zio 9 0 47 56 ((decide (0≤a5))&&(decide (a5≤y7.1.length))) (fun b4=>?_) ?_)
  ·have bn:=bV b4
   refine bP 3 50 Z (zid 5 1 50 55 (decide (a5≤y7.1.length)) (fun bk br=>?_) ?_)
   ·exact bP 5 55 Z (A1 (I1 2 50 _ bk A7.refl bU Z Z Z Z Z))
   refine k_ ?_
   exact I1 4 47 _ b4 A7.refl bU Z Z Z Z Z
  refine ie ?_
  refine zjb Z hR ?_ ?_<;>intro hR bg
  ·have be:=bV bg
   exact F1 (S6 (_,d,a,e,i) ⟨hR,ah,(by first|assumption|exact Nat.zero_le _)⟩ bU A7.refl)
  refine k_ ?_
  refine zrg 5 0 [0,2] [(7,iv y7.1.length)] (S::M::bx w (.slice (va s.q) y1.1.length s.k::aD y1.2.1 [iv y1.2.2.1]) 258::B::A::(G++(W++(γ++((vo cJ 5 an y7.1)++([])))))) ?_
  exact A1 (S6 (_,_,s,_,_) ⟨hR,a9,(by first|assumption|exact Nat.zero_le _)⟩ bU A7.refl)
 rintro ⟨aj,n,m,j,u⟩
 let Y:=bx w (.slice (va m.q) n.length m.k::aD j [iv u]) 258
 rintro ⟨hR,a3,c0⟩
 rw[O1]at hR
 refine k_ ?_
 refine A1 (k_ ?_)
 refine ie (k_ ?_)
 refine D0z (Y::B::A::(G++([]))) [] (T:=51) (c:=A2) a3 opv (F4p (L':=(Y::B::A::(G++([])))) opv (zSn [(24,[0]),(24,[1]),(16,[2]),(9,[3])] ?_))
 refine hqV [0,1,2,3,4,5,7,10,12] [(61,pt pb 0),(62,pt pb 0),(63,pt pb 0),(66,pt pb 8),(68,pt w 0),(71,pt w 1),(73,pt w 9)] ?_
 refine gl 6 [0,1,2,3] Z (B8 C2z Z Z 2) ?_
 refine gl 8 [0,1,2,3] Z (B8 C2z Z Z 0) ?_
 refine gl 11 [0,1] Z (G6 (us:=(aD j [])) B4w Z Z 0) ?_
 refine gl 13 [0,1] Z (B8 cE Z Z 0) ?_
 refine go 9 [0,1,2] Z (Y6 (f:=A2) (r:=plr) (xs:=pl) (ys:=n) (pre:=[Y,B,A]) (post:=[]) A0c jJ jJ Z Z Z Z Z Z Z Z (A5 0 Z) a7 ofv ofv) fun ⟨ab,ao⟩=>?_
 refine hq1 [14,15] 76 Z ?_
 refine go 16 [0,1] Z (O9 (us:=[.slice (va ab.q) ((pl++n).length) ab.k]) (cs':=(aD aJ [.slice (va ab.q) ((pl++n).length) ab.k,iv pat])) C2z Z Z Z 2) fun _=>?_
 refine hq1 [17,18,19] 79 Z ?_
 refine go 20 [0,1] Z (O9 (us:=(aD j [])) (cs':=(aD j [.slice (va ab.q) ((pl++n).length) ab.k,iv pat])) B4w Z Z Z 2) fun _=>?_
 refine hq1 [21,22] 81 Z ?_
 refine go 23 [0,1] Z (O9 (us:=[iv u]) (cs':=(aD j [.slice (va ab.q) ((pl++n).length) ab.k,iv u])) cE Z Z Z 2) fun _=>?_
 refine gdn ?_
 subst hR
 exact zen hr hD (B3x Z) ⟨_,_⟩ bU bX
def A0o (to_:Int):List Prn→Sty→jz→Int→(jz×Sty×Int×Int)
 | [],bheldStyle,bl,bat=>(bl,bheldStyle,bat,0)
 | el::rest,bheldStyle,bl,bat=>(B5 (U7 bheldStyle bl bat el (decide (el.til=to_))) fun (a:jz×Sty×Int)=>A0o to_ rest a.2.1 a.1 a.2.2)
def A3c (a:jk) (from_:Int) (to_:Int) (s:Sty) (e:Int):jz×Sty×Int×Int :=
 (bif (!decide (e=0)) then (([]:jz),ZJ,0,e) else (bif (((((decide (from_<0))||(decide (to_<from_)))||(decide ((a.length:Int)<to_)))||((decide (from_<(a.length:Int)))&&(decide ((a.getD ((from_).toNat) ZV).wide=2))))||((decide (to_<(a.length:Int)))&&(decide ((a.getD ((to_).toNat) ZV).wide=2)))) then (([]:jz),ZJ,0,2) else A0o to_ (A0v ((K7 a from_ to_).1) ((K7 a from_ to_).2.1) ((K7 a from_ to_).2.2)) s ([]:jz) to_))
def D9 (a:jk) (from_:Int) (to_:Int) (s:Sty):jz×Sty×Int×Int :=
 (bif (decide ((W7 a false)=0)) then A3c a from_ to_ s (G2 s) else A3c a from_ to_ s (W7 a false))
theorem C0s (to_:Int):∀ (l:List Prn) (s:Sty) (b:jz) (t:Int),(∀ x ∈ l,0≤x.many∧x.many≤100)→(∀ a ∈ b,tk a)→b.length+400 * l.length≤40000→(∀ a ∈ (A0o to_ l s b t).1,tk a)∧(A0o to_ l s b t).1.length≤40000
 | [],s,b,t,_,h,hl=>⟨h,by simp only [List.length_nil] at hl;show b.length≤40000;omega⟩
 | x::l,s,b,t,hm,h,hl=>by
  rw [A0o,B5]
  simp only [List.length_cons] at hl
  have c:=hm x jU
  have e:=B3k s b t x (decide (x.til=to_)) c
  exact C0s to_ l _ _ _ (fun y d=>hm y (List.mem_cons_of_mem _ d)) (C1h s b t x _ c h) opx
theorem C0x (cells:jk) (from_ to_:Int) (s:Sty) (e:Int) (g:e=0→W7 cells false=0):(∀ a ∈ (A3c cells from_ to_ s e).1,tk a)∧(A3c cells from_ to_ s e).1.length≤40000∧((A3c cells from_ to_ s e).2.2.2=0→2≤cells.length∧cells.length≤80∧0≤from_∧from_≤to_∧to_≤(cells.length:Int)):=by
 unfold A3c
 by_cases h0:e=0
 ·rw [jQ h0,Bool.not_true,cond_false]
  have b:=B6p (g h0)
  cases hc:(((((decide (from_<0))||(decide (to_<from_)))||(decide ((cells.length:Int)<to_)))||((decide (from_<(cells.length:Int)))&&(decide ((cells.getD ((from_).toNat) ZV).wide=2))))||((decide (to_<(cells.length:Int)))&&(decide ((cells.getD ((to_).toNat) ZV).wide=2)))) with
  | true=>simp
  | false =>
   simp only [Bool.or_eq_false_iff,decide_eq_false_iff_not] at hc
   have i:=hc.1.1
   have d:=B5y (c0:=from_) (c1:=to_) (c2:=cells) ⟨b.2.2,b.2.1,by omega,by omega⟩
   have f:=C0s to_ (A0v (K7 cells from_ to_).1 (K7 cells from_ to_).2.1 (K7 cells from_ to_).2.2) s [] to_ d.2 (fun a c=>by cases c) (by have:=d.1;have j:(A0v (K7 cells from_ to_).1 (K7 cells from_ to_).2.1 (K7 cells from_ to_).2.2)=A0v from_ to_ cells:=rfl;grind)
   grind
 grind
theorem C0c (b:jk) (from_ to_:Int) (s:Sty):(∀ a ∈ (D9 b from_ to_ s).1,tk a)∧(D9 b from_ to_ s).1.length≤40000∧((D9 b from_ to_ s).2.2.2=0→2≤b.length∧b.length≤80∧0≤from_∧from_≤to_∧to_≤(b.length:Int)):=by grind[D9,C0x]
theorem C8j {cells:jk} {from_ to_:Int} {s:Sty} {d:kQ} {cellsk:Nat} {R:jz×Sty×Int×Int} (hR:D9 cells from_ to_ s=R) (ah:cells.length≤9223372036854775807:=by exact bW) (ad:cells.length≤cellsk:=by exact bW):cM prog 64 [.slice d cells.length cellsk,iv from_,iv to_,ag (B7 s)] [] [sl D0 d cells,A1o,A1p,M1,P0] ({r:VR // bT 6 R.1.length r}) (fun x=>.tuple #[.slice (va x.1.q) R.1.length x.1.k,ag (B7 R.2.1),iv R.2.2.1,iv R.2.2.2]) (fun x=>((vo A2 51 x.1 R.1)++([]))) (fun x=>[]):=by
 let M:=vo A2 51 VR.nil ([]:jz)
 refine cD Tryz.func64 fun X hX hr hD=>?_
 rw[D9]at hR
 refine bS Z (D8c 6 0 [] (fun o p m=>[(6,pt o 0),(7,pt p 0),(9,pt m 0)]) (fun o p m=>[bx m (B7 ZJ) 63,bx p (B7 s) 63,bx o [iv to_] 3]) (fun o p m=>(ie (bS Z (bY 2 2 [] [(16,ag _)] (zca (D1v (bC:=false) Z) c9 (bP 1 12 Z ?_)))))))
 let F:=bx p (B7 s) 63
 let B:=bx o [iv to_] 3
 let A:=bx m (B7 ZJ) 63
 refine ie (A7i (fun e=>(A3c cells from_ to_ s e=R∧(e=e∧(e=0→W7 cells false=0)),[(0,.slice d cells.length cellsk),(1,iv from_),(6,pt o 0),(7,pt p 0),(9,pt m 0),(12,iv e)],[A,F,B],[sl D0 d cells,A1o,A1p,M1,P0])) ?_ ?_)
 ·refine bS Z (bP 2 19 Z (ie ?_))
  refine cK Z hR ?_ ?_<;>intro hR h4 ax
  ·refine A0 3 Z (bY 1 2 [1] [(20,ag _)] (zca (A8r (s:=s) Z) bX (bP 1 12 Z (A1 ?_))))
   exact S6 _ ⟨hR,odv,(by first|(intro _;assumption)|exact fun h=>h)⟩ (mk [true,true,true] Z) A7.refl
  refine A4 ?_
  exact S6 _ ⟨hR,odv,(by first|(intro _;assumption)|exact fun h=>h)⟩ (mk [true,true,true] Z) A7.refl
 intro e
 rintro ⟨hR,he⟩
 rw[A3c]at hR
 refine A3 (bS Z (bP 2 23 Z (ie ?_)))
 refine zjn Z hR ?_ ?_<;>intro hR h5 ba
 ·refine bS Z (zru 6 [0] [(8,.slice none 0 0),(10,iv 0),(11,iv e)] 0 A ?_)
  subst hR
  refine ie (A8 ?_)
  exact cC hr hD (F9q Z A6 (E8 (us:=B7 ZJ) B4w Z 0) A6 A6) ⟨VR.nil,bT.nil⟩ (mc [[A],[F],[B],M] [false,false,false,true] opv oxs) bX
 refine A4 (nx (A3 (bS Z (bP 3 28 Z ?_))))
 refine zir 4 34 28 32 (decide (to_<from_)) (fun g6 b7=>?_) ?_
 ·refine cB 4 [2] 32 Z ?_
  exact zai 2 28 _ g6
 refine bP 1 33 Z ?_
 refine zio 5 28 33 38 (decide (cells.length<to_)) (fun g7=>?_) ?_
 ·have b6:=bV g7
  refine cB 5 [2] 38 Z ?_
  exact zai 2 33 _ g7
 refine bP 1 39 Z ?_
 refine zio _ 14 39 52 ((decide (from_<cells.length))&&(decide ((cells.getD ((from_).toNat) ZV).wide=2))) (fun g8=>?_) ?_
 ·have b0:=bV g8
  refine bP 5 44 Z ?_
  refine zid 7 1 44 51 (decide ((cells.getD ((from_).toNat) ZV).wide=2)) (fun g9 b9=>?_) ?_
  ·refine cF 2 45 46 Z (H8 0 Z opx fun az a4=>(ix Z (E7 A1n Z Z a4 Z _ opx opx) (bP 1 48 Z (ix Z (B6 cE Z Z (U8 (F8 (sz:=12) a4 (fun _=>Z) 0 Z (gd ZV opx)) (ws:=[iv ((cells.getD ((from_).toNat) ZV).wide)]) 3 1 Z) Z) (bP 2 51 Z ?_)))))
   exact zai 7 44 _ g9
  refine bP 1 52 Z ?_
  exact zai 4 39 _ g8
 refine bP 1 53 Z ?_
 refine zio _ 0 53 66 ((decide (to_<cells.length))&&(decide ((cells.getD ((to_).toNat) ZV).wide=2))) (fun ak=>?_) ?_
 ·have au:=bV ak
  refine cB 5 [2] 58 Z ?_
  refine zid 7 1 58 65 (decide ((cells.getD ((to_).toNat) ZV).wide=2)) (fun am an=>?_) ?_
  ·refine pl2 2 [2] 59 60 Z (H8 0 Z opx fun aw a6=>(ix Z (E7 A1n Z Z a6 Z _ opx opx) (bP 1 62 Z (ix Z (B6 cE Z Z (U8 (F8 (c:=D0) (sz:=12) a6 (fun _=>Z) 0 Z (gd ZV opx)) (ws:=[iv ((cells.getD ((to_).toNat) ZV).wide)]) 3 1 Z) Z) (bP 2 65 Z ?_)))))
   exact zai 7 58 _ am
  refine bP 1 66 Z ?_
  exact zai 4 53 _ ak
 refine ie ?_
 refine zjb Z hR ?_ ?_<;>intro hR af
 ·have ac:=bV af
  refine bS Z (zru 5 [0] [(8,.slice none 0 0),(10,iv 0),(11,iv 2)] 0 A ?_)
  subst hR
  refine ie (A8 ?_)
  exact cC hr hD (F9q Z A6 (E8 (us:=B7 ZJ) B4w Z 0) A6 A6) ⟨VR.nil,bT.nil⟩ (mc [[A],[F],[B],M] [false,false,false,true] opv oxs) bX
 have ac:=bV af
 refine A4 (nx (bS Z (B3r 7 [1,2,0] (fun b f=>[(13,pt f 0)]) (fun _ _=>(aD s [.slice none 0 0,iv to_])) (fun b f=>[pt b 0]) 196 192 fun b f=>(ie (A3 (bS Z (pl3 3 [4] 73 74 75 Z (it Z (I4 (L2:=[bx f [pt b 0] 192,bx b (aD s [.slice none 0 0,iv to_]) 196,A,F,B]) (E3o (l:=cells) (from_:=from_) (to_:=to_) (lq:=d) (lk:=cellsk) Z) Z Z Z Z Z c9 jK (fun ⟨a1,a3,a5,⟨⟨a2,a9⟩,aa⟩⟩=>[bx a1 [iv ((K7 cells from_ to_).1)] 3,bx f [pt b 0] 192,bx b (aD s [.slice none 0 0,iv to_]) 196,A,F,B]) jJ) fun ⟨a1,a3,a5,⟨⟨a2,a9⟩,aa⟩⟩=>?_))))))))
 let G:=bx f [pt b 0] 192
 obtain ⟨ar,ap⟩:=aa
 refine ie (A9 (Y9 (I8 [_,_,_,_,_,_,_] [2,3,4,5,6,0,1] 7 Z ozw Z [[_],[_],[_],[_],[_],vo A2 51 VR.nil [],[_]] Z opv) (D6b [(6,_),(9,_),(13,_),(76,.func _ _ #[pt a1 0,pa a3,pa a5])] ⟨rfl,rfl,rfl,rfl,trivial⟩ ?_)))
 refine F4s (β:=Prn) (enc:=(fun x=>ag (G7 x))) (xs:=(A0v ((K7 cells from_ to_).1) ((K7 cells from_ to_).2.1) ((K7 cells from_ to_).2.2))) (σ:=Sty×jz×VR×Int) hr Z (D7u ((K7 cells from_ to_).1) ((K7 cells from_ to_).2.1) ((K7 cells from_ to_).2.2) a1 a3 a5 a2 a9 okl okl (by have u:=B6p (he.2 ojv);exact ⟨u.2.2,u.2.1,by show 0≤from_;omega,by show to_≤(cells.length:Int);omega⟩) _ Z) c9 Z Z (fun a0 x=>A0o to_ a0 x.1 x.2.1 x.2.2.2=R∧bT 6 x.2.1.length x.2.2.1∧(∀ x ∈ a0,0≤x.many∧x.many≤100)∧x.2.1.length+400 * a0.length≤40000) (fun _ _=>False) (fun x=>(G::bx b (aD x.1 [.slice (va x.2.2.1.q) x.2.1.length x.2.2.1.k,iv x.2.2.2]) 196::A::F::B::((vo A2 51 x.2.2.1 x.2.1)++([])))) (fun x=>[at_ a3 [iv ((K7 cells from_ to_).2.1)],at_ a5 [.slice a2 (((K7 cells from_ to_).2.2).length) a9],sl D0 a2 ((K7 cells from_ to_).2.2),sl D0 d cells,A1o,A1p,M1,P0]) (s,jZ,VR.nil,to_) (by exact ⟨hR,bT.nil,(by exact (B5y (by have u:=B6p (he.2 ojv);exact ⟨u.2.2,u.2.1,by show 0≤from_;omega,by show to_≤(cells.length:Int);omega⟩)).2),(by have:=(B5y (c0:=from_) (c1:=to_) (c2:=cells) (by have u:=B6p (he.2 ojv);exact ⟨u.2.2,u.2.1,by omega,by omega⟩)).1;have e:A0v (K7 cells from_ to_).1 (K7 cells from_ to_).2.1 (K7 cells from_ to_).2.2=A0v from_ to_ cells:=rfl;rw [e];simp only [List.length_nil];omega)⟩) (mc [[G],[bx b (aD s [.slice none 0 0,iv to_]) 196],[A],[F],[B],M,[bx a1 [iv ((K7 cells from_ to_).1)] 3]] [true,true,true,true,true,true,true] opv oxs) A7.refl ?_ ?_ (fun _ _ _ _ h=>h.elim)
 ·rintro y rest ⟨a,bl,j,z⟩ hI Y Y' K' bc hK
  let N:=[bx b (aD a [.slice (va j.q) bl.length j.k,iv z]) 196]
  try dsimp only at hI
  obtain ⟨hR,i,a8,ab⟩:=hI
  rw[A0o]at hR
  have:=bT.le i
  refine A0 2 Z (cI 2 [0] (fun t=>[(14,pt t 0)]) (fun _=>(G7 y)) 201 fun t=>(A1 (hK _ _ _ ?_)))
  let H:=bx t (G7 y) 201
  refine A9 (A0 7 Z (bY 6 1 [1,0,0,5] [(78,pt b 0),(79,ag (G7 y)),(83,bv (decide (y.til=to_)))] ?_))
  obtain ⟨n,ai,hR⟩:=C3 hR
  refine it Z (N9 (L2:=[H,G,A,F,B]) (C3b (aJ:=a) (pl:=bl) (pat:=z) (r:=y) (last:=(decide (y.til=to_))) (pb:=b) (plr:=j) ai i (by first|assumption|exact a8 _ jU|omega)) Z Z Z Z Z c9 (I8 [[H],[G],N,[A],[F],[B],vo A2 51 j bl] [2,6,0,1,3,4,5] 7 Z ozw Z [N,vo A2 51 j bl,[H],[G],[A],[F],[B]] Z opv) (fun ⟨g,w⟩=>(bx b (aD n.2.1 [.slice (va g.q) n.1.length g.k,iv n.2.2]) 196::H::G::A::F::B::((vo A2 51 g n.1)++([])))) (fun ⟨g,w⟩=>I8 [[bx b (aD n.2.1 [.slice (va g.q) n.1.length g.k,iv n.2.2]) 196],vo A2 51 g n.1,[H],[G],[A],[F],[B]] [0,2,3,4,5,6,1] 7 Z ozw opv [[bx b (aD n.2.1 [.slice (va g.q) n.1.length g.k,iv n.2.2]) 196],[H],[G],[A],[F],[B],vo A2 51 g n.1] Z opv)) fun ⟨g,w⟩=>?_
  have:=bT.lc w
  have:=B3k a bl z y (decide (y.til=to_)) (a8 _ jU);try rw [ai] at this
  exact A1 (Y9 (I8 [_,_,_,_,_,_,_] [2,0,3,4,5,6,1] 7 Z ozw Z [[_],[_],[_],[_],[_],vo _ _ g _,[_]] Z opv) (B2c (I:=fun a0 x=>A0o _ a0 x.1 x.2.1 x.2.2.2=R∧bT 6 x.2.1.length x.2.2.1∧(∀ x ∈ a0,0≤x.many∧x.many≤100)∧x.2.1.length+400 * a0.length≤40000) (Jx:=fun _ _=>False) (Lk:=fun x=>(bx f _ _::bx b (aD x.1 [.slice (va x.2.2.1.q) x.2.1.length x.2.2.1.k,iv x.2.2.2]) _::bx m _ _::bx p _ _::bx o _ 3::((vo _ _ x.2.2.1 x.2.1)++([])))) (_,n.1,g,_) (by exact ⟨hR,w,(by exact fun x hx=>a8 x (List.mem_cons_of_mem _ hx)),(by dsimp only;simp only [List.length_cons] at ab;omega)⟩) (mc [[_],[_],[_],[_],[_],_,_] [true,true,true,true,true,true,false] opv oxs) A7.refl))
 ·rintro ay ⟨a,bl,j,z⟩ ae hI
  try dsimp only at hI
  obtain ⟨hR,i,a8,ab⟩:=hI
  rw[A0o]at hR
  have:=bT.le i
  refine nx ?_
  refine zS [(17,[0]),(17,[1]),(14,[2]),(17,[3]),(17,[4]),(17,[5])] ?_
  refine gl 0 [0,1,2,3,4,5] Z (B8 F3q Z Z 0) ?_
  refine hq1 [1,2] 87 Z ?_
  refine gl 3 [0,1,2,3,4,5] Z (B8 (v:=.slice (va j.q) bl.length j.k) C2z Z Z 1) ?_
  refine hq1 [13] 8 Z ?_
  refine gl 4 [0,1,2,3,4,5] Z (B8 F3q Z Z 0) ?_
  refine hq1 [5,6,7] 92 Z ?_
  refine gl 8 [0,1,2,3,4,5] Z (G6 (us:=(aD a [])) B4w Z Z 1) ?_
  refine gl 9 [0,1,3,4,5] Z (B8 F3q Z Z 0) ?_
  refine hq1 [10,11] 96 Z ?_
  refine gl 12 [0,1,3,4,5] Z (B8 (v:=iv z) cE Z Z 1) ?_
  refine go 14 [0,1,3,4,5] Z (O9 (us:=(aD a [])) (cs':=B7 a) B4w Z Z Z 2) fun _=>?_
  refine hq2 [15,16] 10 11 Z ?_
  refine ge ?_
  subst hR
  exact A8 (B7w Z ⟨hr,hD⟩ (by exact (P3.cons (show P3 X.D by rw [hD];exact P3.nil) ae)) (F9q Z A6 (E8 B4w Z 2) A6 A6) ⟨j,i⟩ odv (mc [[_],[_],[_],[_],[_],_] [false,false,false,false,false,true] opv oxs) bX)
end
section
open Go Go.Fen open Tryz (prog)
variable {R:Int} {a:Col} {b:List UInt8} {c d:Int} {f:FrmC} {fR:jj}
@[reducible] def aB:List MapEntry := [⟨iv 44,aC 186,0⟩,⟨iv 45,aC 189,1⟩,⟨iv 46,aC 192,2⟩]
@[reducible] def aA:Obj := .map (List.toArray aB) 3
theorem F5r:MapTy prog 220 3 189 (.int .i64):=⟨by rfl,by rfl,rfl⟩
theorem B0s:SlTy prog 22 68 1:=⟨by rfl,by rfl⟩
def D7e:Unit :=
 ()
theorem E2h {R:Unit} (hR:D7e=R):cM prog 116 [] [] [] (Nat) (fun x=>.map (some x)) (fun x=>[(x,aA)]) (fun x=>[]):=by
 refine cD Tryz.func116 fun X hX hr hD=>?_
 rw[D7e]at hR
 refine k_ ?_
 refine ie (k_ ?_)
 refine it Z (B8x Z) fun a=>(F6g (m:=2) (mo:=1) (es':=aB) F5r Z 0 3 1 0 _ _ Z oki (B8g (L':=[(a,aA)]) Z (bP 2 0 Z ?_)))
 subst hR
 refine kc_ ?_
 exact ci a
def B2e (c:Int) (d:Int) (a:Col) (b:List UInt8):Option (List UInt8) :=
 (Option.bind (B0t true) fun (r:Unit)=>(Option.bind (B6k (⟨44,c,d,a,b⟩:Act)) fun (e:List UInt8)=>(some e)))
theorem D9e {b:Col} {a:List UInt8} {e:Addr} {R:Option (List UInt8)} (hR:B2e d c b a=R) (o:a.length≤100000000:=by exact bW):D9a prog 115 [pa e] [] [at_ e (A2 (⟨44,d,c,b,a⟩:Act))] B0n R (fun r=>sv r):=by
 refine C1d (n:=16) Tryz.func115 Z oki Z Z [(0,_)] ⟨rfl,trivial⟩ fun X hX hr hD=>?_
 rw[B2e]at hR
 refine k_ ?_
 refine ie (zS [] ?_)
 refine hq1 [1] 6 Z ?_
 refine gk 2 Z (B6 cE Z Z (U0 (A5 0 Z) (ws:=[iv 44]) 1 Z) Z) ?_
 refine gc 0 [] Z (E2h Z) fun l=>?_
 refine go 3 [] Z (Det.tri (J8.det (E9a (v:=aC 186) (j:=0) F5r Z Z Z 0 Z oki))) fun _=>?_
 refine hqV [4,5,6,7,8] [(2,aC 186),(3,bv true)] ?_
 refine ge ?_
 refine k_ ?_
 refine B7o (C2g Z) Z Z Z Z Z Z bX jK (fun r f=>?_) (fun k=>?_)
 ·replace hR:=D7v hR f
  have h:=B4s f;try simp only [Bool.and_eq_true,decide_eq_true_eq] at h
  refine ie (k_ ?_)
  refine ix Z (J0 C5s Z Z (A5 0 Z) Z) (B7o (D5u Z) Z Z Z Z Z Z bX jK (fun m i=>?_) (fun g=>?_))
  ·replace hR:=D7v hR i
   refine k_ ?_
   exact ie (A8 (E0s Z ⟨hr,hD⟩ (by simp [hD]) (I9 rfl A6) hR.symm rfl))
  ·replace hR:=D5j hR g
   exact A7s ⟨hr,hD⟩ hR.symm
 ·replace hR:=D5j hR k
  exact A7s ⟨hr,hD⟩ hR.symm
def C5h (d:Int) (c:Int) (a:Col) (b:List UInt8):List UInt8×Int :=
 (bif (!((D4v (B2e d c a b)).2)) then (([]:List UInt8),2) else ((D4v (B2e d c a b)).1,0))
theorem E7l {R:List UInt8×Int} (hR:C5h d c a b=R) (g:b.length≤100000000:=by exact bW):J7 prog 77 [ag (A2 (⟨44,d,c,a,b⟩:Act))] [] (.tuple #[sv R.1,iv R.2]):=by
 refine cD Tryz.func77 fun X hX hr hD=>?_
 rw[C5h]at hR
 refine bS Z (it Z (A2s Z Z Z) fun e=>(A6p 0 Z ?_))
 refine pp0 2 Z (ie (bS Z (ip' 1 6 [(7,_)] (zv Z (G0y _ (D9e Z)) (cF 5 4 5 Z (ie (A3 (bS Z (bP 2 12 Z (ie ?_))))))))))
 refine zjb Z hR ?_ ?_<;>intro hR f
 ·refine bS Z (cF 2 2 3 Z ?_)
  subst hR
  refine ie (A8 ?_)
  exact B6u hr hD
 refine A4 (nx (bS Z (cF 3 2 3 Z ?_)))
 subst hR
 refine ie (A8 ?_)
 exact B6u hr hD
def A4j (e:Int) (d:Int) (a:Col) (b:List UInt8):Int :=
 (B5 (C5h e d a b) fun (c:List UInt8×Int)=>(bif (!decide (c.2=0)) then 200 else 0))
theorem D3t (hR:A4j d c a b=R) (j:b.length≤100000000:=by exact bW):J7 prog 47 [ag (A2 (⟨44,d,c,a,b⟩:Act))] [] (iv R):=by
 refine cD Tryz.func47 fun X hX hr hD=>?_
 rw[A4j]at hR
 refine k_ ?_
 refine cI 2 [] (fun f=>[(1,pt f 0)]) (fun _=>(A2 ⟨44,d,c,a,b⟩)) 51 fun f=>?_
 refine ie ?_
 refine k_ ?_
 refine ie ?_
 refine k_ ?_
 refine ie ?_
 refine k_ ?_
 refine bY 1 5 [0] [(68,ag (A2 ⟨44,d,c,a,b⟩))] ?_
 obtain ⟨k,e,hR⟩:=C3 hR
 refine zv Z (E7l e) ?_
 refine k_ ?_
 refine ie ?_
 refine zjn Z hR ?_ ?_<;>intro hR i h
 ·refine k_ ?_
  subst hR
  exact q8
 refine k_ ?_
 subst hR
 exact q8
def S2 (f:FrmC):jj→Bool→Nat→Int
 | [],ok,t77=>(bif (!ok) then 330 else 0)
 | hd_l0::tl_l0,ok,t77=>(bif (!((ok&&(decide ((hd_l0.length:Int)=f.cols)))&&(decide ((W7 hd_l0 false)=0)))) then (bif (!((ok&&(decide ((hd_l0.length:Int)=f.cols)))&&(decide ((W7 hd_l0 false)=0)))) then 330 else 0) else S2 f tl_l0 ((ok&&(decide ((hd_l0.length:Int)=f.cols)))&&(decide ((W7 hd_l0 false)=0))) (t77+1))
def S5 (f:FrmC) (fR:jj):Int :=
 S2 f fR (((((((((((decide ((2:Int)≤f.cols))&&(decide (f.cols≤80)))&&(decide ((1:Int)≤(fR.length:Int))))&&(decide ((fR.length:Int)≤40)))&&(decide ((0:Int)≤f.cursor.row)))&&(decide (f.cursor.row<(fR.length:Int))))&&(decide ((0:Int)≤f.cursor.col)))&&(decide (f.cursor.col<f.cols)))&&(decide ((0:Int)≤f.shape)))&&(decide (f.shape≤6)))&&(decide ((A4j 0 0 ZU f.title)=0))) 0
theorem B2l (f:FrmC):∀ (a:jj) (c:Bool) (t:Nat),S2 f a c t=0→c=true∧∀ r ∈ a,(r.length:Int)=f.cols∧W7 r false=0
 | [],c,t=>by grind[S2]
 | r::a,c,t=>by
  intro h
  simp only [S2] at h
  generalize hb:((c&&decide ((r.length:Int)=f.cols))&&decide (W7 r false=0))=b at h
  cases b with
  | false=>simp at h
  | true =>
   have e:=B2l f a true (t+1) (by grind)
   simp only [Bool.and_eq_true,decide_eq_true_eq] at hb
   refine ⟨hb.1.1,fun x d=>?_⟩
   rcases List.mem_cons.1 d with rfl | d
   ·exact ⟨hb.1.2,hb.2⟩
   ·exact e.2 x d
theorem C4b (h:S5 f fR=0) :
  2≤f.cols∧f.cols≤80∧1≤fR.length∧fR.length≤40∧∀ i,i<fR.length→((fR.getD i []).length:Int)=f.cols:=by
 unfold S5 at h
 obtain ⟨b,c⟩:=B2l _ _ _ _ h
 grind
theorem C0d {fQ:kQ} {fZ:List Slc} {fK:Nat} (hR:S5 f fR=R) (a:B4 fZ fR:=by exact bW) (j:fR.length≤9223372036854775807:=by exact bW) (s:fR.length≤fK:=by exact bW) (hT:f.title.length≤100000000:=by exact bW):J7 prog 25 [ag (C9 f ⟨fQ,fR.length,fK⟩)] [sl F0 fQ fZ,D8 D0 fZ fR,A1o,A1p] (iv R):=by
 refine cD Tryz.func25 fun X hX hr hD=>?_
 rw[S5]at hR
 have:=a.1
 refine bS Z (cI 2 [] (fun w=>[(1,pt w 0)]) (fun _=>(C9 f ⟨fQ,fR.length,fK⟩)) 26 fun w=>(ie (C5d (bS Z (cB 4 [0] 9 Z ?_)))))
 refine zid 4 13 9 13 (decide (f.cols≤80)) (fun g2 ai=>?_) ?_
 ·refine cB 4 [0] 13 Z ?_
  exact zai 2 9 _ g2
 refine bP 1 14 Z ?_
 refine zia 5 7 14 19 (decide (1≤(fR.length:Int))) (fun g3=>?_) ?_
 ·have ae:=bV g3
  refine cB 5 [0] 19 Z ?_
  exact zai 2 14 _ g3
 refine bP 1 20 Z ?_
 refine zia 5 1 20 25 (decide ((fR.length:Int)≤40)) (fun g4=>?_) ?_
 ·have aj:=bV g4
  refine cB 5 [0] 25 Z ?_
  exact zai 2 20 _ g4
 refine bP 1 3 Z (ie (bS Z (bP 2 27 Z ?_)))
 refine zia 5 24 27 32 (decide (0≤f.cursor.row)) (fun g5=>?_) ?_
 ·have af:=bV g5
  refine cB 5 [0] 32 Z ?_
  exact zai 2 27 _ g5
 refine bP 1 33 Z ?_
 refine zia 8 15 33 41 (decide (f.cursor.row<fR.length)) (fun y=>?_) ?_
 ·have aa:=bV y
  refine cB 8 [0,0] 41 Z ?_
  exact zai 2 33 _ y
 refine bP 1 42 Z ?_
 refine zia 5 9 42 47 (decide (0≤f.cursor.col)) (fun g7=>?_) ?_
 ·have a9:=bV g7
  refine cB 5 [0] 47 Z ?_
  exact zai 2 42 _ g7
 refine bP 1 48 Z ?_
 refine zia 7 1 48 55 (decide (f.cursor.col<f.cols)) (fun g8=>?_) ?_
 ·have ak:=bV g8
  refine cB 7 [0,0] 55 Z ?_
  exact zai 2 48 _ g8
 refine bP 1 3 Z (ie (bS Z (bP 2 57 Z ?_)))
 refine zia 4 13 57 61 (decide (0≤f.shape)) (fun g9=>?_) ?_
 ·have ab:=bV g9
  refine cB 4 [0] 61 Z ?_
  exact zai 2 57 _ g9
 refine bP 1 62 Z ?_
 refine zia 4 8 62 66 (decide (f.shape≤6)) (fun t=>?_) ?_
 ·have a2:=bV t
  refine cB 4 [0] 66 Z ?_
  exact zai 2 62 _ t
 refine bP 1 67 Z ?_
 refine zia 6 1 67 73 (decide ((A4j 0 0 ZU f.title)=0)) (fun l=>?_) ?_
 ·have a0:=bV l
  refine bY 3 3 [0] [(70,ag (A2 ({ZZ with kind:=44,text:=f.title})))] (zv Z (D3t Z) (bP 2 73 Z ?_))
  exact zai 4 67 _ l
 refine bP 1 3 Z (ie (A3 (C5g (nx (A3 (bS Z (pl3 4 [0] 75 76 77 Z (ie (A9 (A1y (un fun m b=>(b≤fR.length∧S2 f (fR.drop b) m b=R,[(1,_),(3,bv m),(75,.slice fQ fR.length fK),(76,iv fR.length),(77,iv b)],[_],_,fR.length - b)) (_,0) ⟨opx,hR⟩ bU A7.refl ?_))))))))))
 rintro ⟨m,b⟩ ⟨z,hR⟩
 refine bS Z (bP 1 78 Z (ie (A3 (G3 Z (fun h=>?_) (fun h=>?_)))))
 ·have g:=bV h
  rw [A1a [] (show b<fR.length by omega)] at hR;rw[S2]at hR
  refine A4 (nx (A3 (A9 (bS Z (H8 0 Z jV fun ac e=>(D4 (Q6 (k:=b) (d:=⟨none,0,0⟩) a 1 Z jV) ?_))))))
  have:=Q9 a (k:=b) (d:=(⟨none,0,0⟩:Slc)) jV
  refine ix Z (E7 B0s Z Z e Z b) (ix Z (G1 (B6 B5c Z Z (F8 (sz:=1) e jJ 1 Z (gd ⟨none,0,0⟩ jV)) Z) (M2 a jV)) (bP 1 5 Z (ie (bS Z (bP 2 82 Z ?_)))))
  refine zia 6 7 82 88 (decide (((fR.getD b []).length)=f.cols)) (fun x=>?_) ?_
  ·refine cB 6 [0] 88 Z ?_
   exact zai 2 82 _ x
  refine bP 1 89 Z ?_
  refine zia 5 1 89 94 (decide ((W7 (fR.getD b []) false)=0)) (fun p=>?_) ?_
  ·have a7:=bV p
   refine bY 2 3 [] [(91,ag [.slice _ ((fR.getD b []).length) ((fZ.getD b ⟨none,0,0⟩).k),bv false])] (zv Z (D1v Z) (bP 2 94 Z ?_))
   exact zai 4 89 _ p
  refine bP 1 3 Z (ie (bS Z (bP 2 96 Z (ie ?_))))
  refine zjb Z hR ?_ ?_<;>intro hR u
  ·have r:=bV u
   refine F1 (nx (A3 (bS Z (bP 2 99 Z (ie ?_)))))
   refine zjb Z hR ?_ ?_<;>intro hR i
   ·have o:=bV i
    refine bS Z (bP 1 2 Z ?_)
    subst hR
    exact q8
   refine A4 (nx (bS Z (bP 1 2 Z ?_)))
   subst hR
   exact q8
  refine A4 (nx (A0 2 Z (ix Z B1 (bP 1 77 Z (A1 ?_)))))
  exact z0 (_,_) ⟨opx,hR⟩
 have g:=bV h
 rw [A1b g] at hR;rw[S2]at hR
 refine F1 (nx (A3 (bS Z (bP 2 99 Z (ie ?_)))))
 refine zjb Z hR ?_ ?_<;>intro hR ah
 ·refine bS Z (bP 1 2 Z ?_)
  subst hR
  exact q8
 refine A4 (nx (bS Z (bP 1 2 Z ?_)))
 subst hR
 exact q8
end
section
open Go Go.Fen open Tryz (prog)
variable {aN:Nat} {aO:List (Rwc Cel)} {aT:Nat} {aU:List (Rwc Cel)} {aW:Nat} {p:Prop} {s:ScrC}
theorem F7f:ApTy prog 22 68 1 24:=⟨by rfl,by rfl,rfl⟩
theorem C6z:Ty prog 26 7 true:=⟨by rfl⟩
def Y5 (s:ScrC) (c:List (Rwc Cel)) (a:List (Rwc Cel)) (b:List Bool):Unit :=
 ()
theorem E2t {a:List Bool} {d:kQ} {g:List Rwq} {c:kQ} {f:List Rwq} {e:kQ} {R:Unit} (hR:Y5 s aO aU a=R) (h:W0 g aO:=by exact bW) (j:aO.length≤9223372036854775807:=by exact bW) (k:aO.length≤aN:=by exact bW) (i:W0 f aU:=by exact bW) (n:aU.length≤9223372036854775807:=by exact bW) (l:aU.length≤aT:=by exact bW) (m:a.length≤9223372036854775807:=by exact bW) (o:a.length≤aW:=by exact bW):cM prog 83 [ag (aE s d aO aN c aU aT e a aW)] [] [sl A9a d g,A3y D0 g aO,sl A9a c f,A3y D0 f aU,sl B1w e a] (Nat) (fun x=>.func (.func 124) #[] #[pt x 0]) (fun x=>[bx x (aE s d aO aN c aU aT e a aW) 115]) (fun x=>[]):=by
 refine cD Tryz.func83 fun X hX hr hD=>?_
 rw[Y5]at hR
 refine k_ ?_
 refine cI 2 [] (fun b=>[(1,pt b 0)]) (fun _=>(aE s d aO aN c aU aT e a aW)) 115 fun b=>?_
 refine ie (kc_ ?_)
 refine ip' 2 0 [(2,.func (.func 124) #[] #[pt b 0])] ?_
 subst hR
 refine k_ ?_
 exact ci b
def A3x:List (Rwc Cel)→Nat→jj
 | [],t14=>[]
 | hd_l0::tl_l0,t14=>(((hd_l0.l).take (hd_l0.l.length))::A3x tl_l0 (t14+1))
def A8i (a:List (Rwc Cel)):jj :=
 A3x a 0
def B2r (c0:ScrC) (a:List (Rwc Cel)) (b:List (Rwc Cel)) (c:List Bool):jj :=
 (bif c0.onAlt then A8i b else A8i a)
theorem B6g:∀ (l:List (Rwc Cel)) (t:Nat),(A3x l t).length=l.length
 | [],t=>rfl
 | a::l,t=>by simp only [A3x,List.length_cons,B6g l (t+1)]
theorem C5o (l:List (Rwc Cel)):(A8i l).length=l.length:=B6g l 0
theorem oca (h:p:=by first|omega|(simp +zetaDelta only [List.length_take,List.length_drop,List.length_append,List.length_cons,List.length_nil,List.length_set,List.length_map,Y5];omega)|decide):p:=h
theorem D6d (c0:ScrC) (d:List (Rwc Cel)) (j:List (Rwc Cel)) (g:List Bool) (y:Nat) (e:kQ) (o:List Rwq) (h:Nat) (i:kQ) (r:List Rwq) (p:Nat) (f:kQ) (m:Nat) (w:W0 o d) (a8:d.length≤9223372036854775807) (a9:d.length≤h) (x:W0 r j) (an:j.length≤9223372036854775807) (ak:j.length≤p) (ac:g.length≤9223372036854775807) (a7:g.length≤m) (R:jj) (hR:B2r c0 d j g=R):C0w prog 124 [pt y 0] [bx y (aE c0 e d h i j p f g m) 115] [sl A9a e o,A3y D0 o d,sl A9a i r,A3y D0 r j,sl B1w f g] D0 R:=by
 let B:=bx y (aE c0 e d h i j p f g m) 115
 refine C7k _ (n:=31) Tryz.func124 Z oki Z Z (fun l=>[(0,_),(1,_)]) (fun l=>⟨rfl,rfl,trivial⟩) fun X l I Ix L Φ hX hr hD hI0 hY=>?_
 rw[B2r]at hR
 refine k_ ?_
 refine ie (A7i (un fun v=>un fun lq=>un fun t=>un fun lk=>un fun R_=>un fun Lt Ft=>(A8i v=R_∧v.length≤lk∧v.length≤9223372036854775807∧W0 t v∧I R_ Lt Ft,[(0,.func (.yield l) #[] #[]),(3,.slice lq v.length lk)],(B::(Lt++([]))),(sl A9a e o::A3y D0 o d::sl A9a i r::A3y D0 r j::sl B1w f g::sl A9a lq t::A3y D0 t v::Ft))) ?_ ?_)
 ·refine k_ ?_
  refine ie ?_
  refine zjb Z hR ?_ ?_<;>intro hR h1
  ·refine k_ ?_
   exact A1 (S6 (j,i,r,p,R,L,_) ⟨hR,oca,oca,x,hI0⟩ bU (A7.con1 (A5 0 Z) (A7.con1 (A5 1 Z) (A7.con1 (A5 2 Z) (A7.con1 (A5 3 Z) (A7.con1 (A5 4 Z) (A7.con1 (A5 2 Z) (A7.con1 (A5 3 Z) (A7.dropT 5 Z)))))))))
  exact A4 (S6 (d,e,o,h,R,L,_) ⟨hR,oca,oca,w,hI0⟩ bU (A7.con1 (A5 0 Z) (A7.con1 (A5 1 Z) (A7.con1 (A5 2 Z) (A7.con1 (A5 3 Z) (A7.con1 (A5 4 Z) (A7.con1 (A5 0 Z) (A7.con1 (A5 1 Z) (A7.dropT 5 Z)))))))))
 rintro ⟨v,lq,t,lk,R_,Lt,Ft⟩
 rintro ⟨hR,ar,au,u,am⟩
 rw[A8i]at hR
 refine k_ ?_
 refine ie (A9 (A1y (un fun a=>un fun R_1=>un fun Lt1 Ft1=>(a≤v.length∧A3x (v.drop a) a=R_1∧I R_1 Lt1 Ft1,[(0,_),(12,_),(13,iv _),(14,iv a)],(bx y _ _::(Lt1++([]))),(sl _ e o::A3y _ o d::sl _ i r::A3y _ r j::sl _ f g::sl _ _ t::A3y _ t v::Ft1),v.length - a)) (0,_,_,_) ⟨opx,hR,am⟩ bU c9 ?_))
 rintro ⟨a,R_1,Lt1,Ft1⟩ ⟨av,hR,a1⟩
 refine k_ ?_
 refine ie (A3 (G3 Z (fun h3=>?_) (fun h3=>?_)))
 ·have ah:=bV h3
  rw [A1a zwc (show a<v.length by omega)] at hR;rw[A3x]at hR
  refine k_ ?_
  refine H8 5 Z (by have:=u.1;omega) fun a4 a5=>(D4 (G5b (k:=a) u 6 Z (by have:=u.1;omega)) ?_)
  have:=G0c u (k:=a) (by have:=u.1;omega)
  refine ix Z (E7 F4l Z Z a5 Z a) (ix Z (G1 (J0 F6p Z Z (F8 (sz:=2) a5 jJ 6 Z (gd _ (by have:=u.1;omega))) Z) (G4d u (by have:=u.1;omega))) (D7x 2 0 [0] (fun b6=>[(5,pt b6 0)]) (fun b6=>(bx b6 [.slice ((t.getD a zwq).s.q) ((v.getD a zwc).l.length) ((t.getD a zwq).s.k),bv ((v.getD a zwc).b)] 85::B::(Lt1++([])))) (fun b6=>?_)))
  let A:=bx b6 [.slice ((t.getD a zwq).s.q) ((v.getD a zwc).l.length) ((t.getD a zwq).s.k),bv ((v.getD a zwc).b)] 85
  refine k_ ?_
  refine D4 (D4c (A5 0 Z) ((v.getD a zwc).l.length)) (ix Z (B5n (n':=(((v.getD a zwc).l).take ((v.getD a zwc).l.length)).length) A1n Z Z _ _ (A1l Z Z) (A1l Z Z) opx opx ofx Z) ?_)
  have:=@List.length_take _ ((v.getD a zwc).l.length) ((v.getD a zwc).l)
  obtain ⟨R7,hR,a0⟩:=C2v hR;rw [a0] at a1
  refine it Z (A6x (L2:=[A,B]) (hY (((v.getD a zwc).l).take ((v.getD a zwc).l.length)) R7 _ _ ((t.getD a zwq).s.q) ((v.getD a zwc).l.length) oca oca a1) Z Z Z Z (A7.con1 (A5 0 Z) (A7.dropT 9 Z)) (I8 [[A],[B],Lt1] [2,0,1] 3 Z ozw Z [Lt1,[A],[B]] Z ooa)) fun ⟨⟨y8,L9,Φ10⟩,z⟩=>(B1j (A7.yield [_,_,_,_,_,_,_,_,_]) (k_ ?_))
  refine ie (G3 Z (fun a6=>?_) (fun a6=>?_))
  ·have a2:y8=false:=by simpa using a6
   rw [a2] at z;try simp only [if_true,if_false,Bool.false_eq_true] at z
   exact A8 (B6z Z ⟨hr,hD⟩ (by simp [hD]) (B3x rfl) (by exact .inr z) (mcT [_,[_],[_]] 0 Z Z) (A7.dropT 9 Z))
  ·have a2:y8=true:=by simpa using a6
   rw [a2] at z;try simp only [if_true,if_false,Bool.false_eq_true] at z
   refine k_ ?_
   refine ix Z B1 (k_ ?_)
   exact A1 (Y9 (I8 [_,_,_] [2,0,1] 3 Z ozw Z [[_],L9,[_]] Z opv) (Z0 (_,_,_,_) ⟨opx,hR,z⟩ olr bU (A7.con1 (A5 2 Z) (A7.con1 (A5 3 Z) (A7.con1 (A5 4 Z) (A7.con1 (A5 5 Z) (A7.con1 (A5 6 Z) (A7.con1 (A5 7 Z) (A7.con1 (A5 8 Z) (A7.dropT 9 Z))))))))))
 have ah:=bV h3
 rw [A1b ah] at hR;rw[A3x]at hR
 subst hR
 exact F1 (A0y Z ⟨hr,hD⟩ (by simp [hD]) (B3x rfl) (by exact .inl a1) (mcT [[_],_] 1 Z Z) (A7.dropT 7 Z))
def A4r (s:ScrC):jj→jj→(FrmC×jj)
 | [],fR=>((⟨s.cols,(⟨s.cursor.row,s.cursor.col⟩:Plc),s.modes.visible,s.shape,s.title⟩:FrmC),fR)
 | el::rest,fR=>A4r s rest (fR++([el]:jj))
def B8b (s:ScrC) (c:List (Rwc Cel)) (a:List (Rwc Cel)) (b:List Bool):FrmC×jj :=
 A4r s (B2r s c a b) ([]:jj)
theorem oay (h:p:=by first|omega|(simp +zetaDelta only [List.length_cons,List.length_nil,List.length_append,List.length_take,List.length_drop,Y5];omega)):p:=h
theorem E3p {e:List Bool} {f:kQ} {z:List Rwq} {i:kQ} {y:List Rwq} {g:kQ} {R:FrmC×jj} (hR:B8b s aO aU e=R) (bD:W0 z aO:=by exact bW) (bH:aO.length≤9223372036854775807:=by exact bW) (bI:aO.length≤aN:=by exact bW) (bE:W0 y aU:=by exact bW) (bJ:aU.length≤9223372036854775807:=by exact bW) (bL:aU.length≤aT:=by exact bW) (bM:e.length≤9223372036854775807:=by exact bW) (bO:e.length≤aW:=by exact bW) (hM:aO.length≤100:=by exact bW) (hA:aU.length≤100:=by exact bW):cM prog 50 [ag (aE s f aO aN i aU aT g e aW)] [] [sl A9a f z,A3y D0 z aO,sl A9a i y,A3y D0 y aU,sl B1w g e] ({t:VR×List Slc // bT 1 R.2.length t.1∧B4 t.2 R.2}) (fun x=>ag (C9 R.1 ⟨va x.1.1.q,R.2.length,x.1.1.k⟩)) (fun x=>((vo F0 68 x.1.1 x.1.2)++([]))) (fun x=>[D8 D0 x.1.2 R.2]):=by
 refine cD Tryz.func50 fun X hX hr hD=>?_
 rw[B8b]at hR
 have:=bD.1
 have:=bE.1
 refine k_ ?_
 refine B3r 2 [] (fun w v=>[(1,pt w 0),(2,pt v 0)]) (fun _ _=>(aE s f aO aN i aU aT g e aW)) (fun _ _=>(C9 Za ⟨none,0,0⟩)) 115 26 fun w v=>?_
 refine ie (kc_ ?_)
 refine cI 19 [1,1,1,1,1,1,0] (fun u=>[(3,pt u 0)]) (fun _=>(C9 (⟨s.cols,(⟨s.cursor.row,s.cursor.col⟩:Plc),s.modes.visible,s.shape,s.title⟩) ⟨none,0,0⟩)) 26 fun u=>?_
 refine ie (k_ ?_)
 refine bY 1 1 [2] [(22,ag (aE s f aO aN i aU aT g e aW))] ?_
 let B:=bx v (C9 Za ⟨none,0,0⟩) 26
 let A:=bx w (aE s f aO aN i aU aT g e aW) 115
 refine zc Z (E2t Z bD bW bW bE) fun b4=>?_
 refine k_ ?_
 refine Y9 (I8 [_,_,_,_,_] [2,3,4,0,1] 5 Z ozw Z [[_],[_],[_],vo F0 68 VR.nil [],[_]] Z opv) (k_ ?_)
 refine E7t (cc:=D0) (xs:=(B2r s aO aU e)) (σ:=jj×VR×List Slc) hr Z (D6d s aO aU e b4 f z aN i y aT g aW bD oca oca bE oca oca oca oca _ Z) A7.refl Z Z (fun p x=>A4r s p x.1=R∧bT 1 x.1.length x.2.1∧B4 x.2.2 x.1∧x.1.length+p.length≤100) (fun _ _=>False) (fun x=>(bx u (C9 (⟨s.cols,(⟨s.cursor.row,s.cursor.col⟩:Plc),s.modes.visible,s.shape,s.title⟩:FrmC) ⟨va x.2.1.q,x.1.length,x.2.1.k⟩) 26::B::A::((vo F0 68 x.2.1 x.2.2)++([])))) (fun x=>[sl A9a f z,A3y D0 z aO,sl A9a i y,A3y D0 y aU,sl B1w g e,D8 D0 x.2.2 x.1]) (([]:jj),VR.nil,([]:List Slc)) (by exact ⟨hR,bT.nil,B4.none,(by first|(unfold B2r;rw [List.length_nil,Nat.zero_add,Bool.cond_eq_ite];split<;>rw [C5o]<;>omega)|(unfold frame_rows_1a;rw [List.length_nil,Nat.zero_add,Bool.cond_eq_ite];split<;>rw [frame_rows_1a_j0_len]<;>omega))⟩) bU c9 ?_ ?_ (fun _ _ _ _ h=>h.elim)
 ·rintro l rest ⟨fR,a,fZ⟩ m n ak ah hI Y Y' K' ac hK
  try dsimp only at hI
  obtain ⟨hR,d,b,a5⟩:=hI
  rw[A4r]at hR
  have:=bT.le d
  refine k_ ?_
  refine A1 (hK _ _ _ (k_ ?_))
  refine it Z (B0 (c:=F0) (xs:=[⟨m,l.length,n⟩]) B0s Z Z Z oki) fun b8=>?_
  have j:B4 ([⟨m,l.length,n⟩]:List Slc) ([l]:jj):=(B4.cons ⟨ooy,oca,oca⟩ B4.none)
  refine D4 (q:=D8 _ [⟨m,l.length,n⟩] _) (M8 (A5 1 Z) I5) ?_
  have:([⟨m,l.length,n⟩]:List Slc).length=1:=rfl
  have a3:B4 (fZ++([⟨m,l.length,n⟩]:List Slc)) (fR++([l]:jj)):=B4.append b j
  refine it Z (K5 (r:=a) (rs:=fZ) (xss:=fR) (pre:=[bx u (C9 (⟨s.cols,(⟨s.cursor.row,s.cursor.col⟩:Plc),s.modes.visible,s.shape,s.title⟩:FrmC) ⟨va a.q,fR.length,a.k⟩) 26,B,A]) (post:=[]) F7f Z Z Z Z Z Z Z Z Z (A5 1 Z) (A5 8 Z) (A5 0 Z) b j d oay oay) fun ⟨a0,o⟩=>?_
  have:=bT.lc o
  have:([l]:jj).length=1:=rfl
  have:(fR++([l]:jj)).length=fR.length+1:=List.length_append
  refine zru 2 [0] [] 0 (bx u (C9 (⟨s.cols,(⟨s.cursor.row,s.cursor.col⟩:Plc),s.modes.visible,s.shape,s.title⟩) ⟨va a0.q,(fR++[l]).length,a0.k⟩) 26) ?_
  refine A1 (B2c (I:=fun p x=>A4r s p x.1=R∧bT 1 x.1.length x.2.1∧B4 x.2.2 x.1∧x.1.length+p.length≤100) (Jx:=fun _ _=>False) (_,_,_) (by exact ⟨hR,o,a3,oqz⟩) bU ?_)
  exact c9
 ·rintro a8 ⟨fR,a,fZ⟩ a2 hI
  try dsimp only at hI
  obtain ⟨hR,d,b,a5⟩:=hI
  rw[A4r]at hR
  have:=bT.le d
  refine k_ ?_
  refine zrg 2 0 [0,1] [] (bx u (C9 (⟨s.cols,(⟨s.cursor.row,s.cursor.col⟩:Plc),s.modes.visible,s.shape,s.title⟩) ⟨va a.q,fR.length,a.k⟩) 26::bx v (C9 (⟨s.cols,(⟨s.cursor.row,s.cursor.col⟩:Plc),s.modes.visible,s.shape,s.title⟩) ⟨va a.q,fR.length,a.k⟩) 26::A::((vo F0 68 a fZ)++([]))) ?_
  subst hR
  refine k_ ?_
  exact B7w Z ⟨hr,hD⟩ (by exact (P3.cons (show P3 X.D by rw [hD];exact P3.nil) a2)) (I9 Z (E8 C6z Z 1)) ⟨(a,_),⟨d,b⟩⟩ odv bU c9
def B5p (a:Int) (b:Int):FrmC×jj×Int :=
 (B5 (A1c a b) fun (c:ScrC×List (Rwc Cel)×List (Rwc Cel)×List Bool×Int)=>(bif (!decide (c.2.2.2.2=0)) then (Za,([]:jj),2) else (B5 (B8b c.1 c.2.1 c.2.2.1 c.2.2.2.1) fun (d:FrmC×jj)=>(d.1,d.2,0))))
theorem C6j (s:ScrC):∀ (l f:jj),(A4r s l f).1.title=s.title
 | [],f=>rfl
 | a::l,f=>by simp only [A4r];exact C6j s l _
theorem C9s (c r:Int):(B5p c r).1.title.length=0:=by
 unfold B5p B5
 simp only [Bool.cond_eq_ite]
 split
 ·rfl
 simp[B8b,C6j,B3w]
theorem D8e {h g:Int} {R:FrmC×jj×Int} (hR:B5p h g=R):cM prog 26 [iv h,iv g] [] [] ({t:VR×List Slc // bT 1 R.2.1.length t.1∧B4 t.2 R.2.1}) (fun x=>.tuple #[ag (C9 R.1 ⟨va x.1.1.q,R.2.1.length,x.1.1.k⟩),iv R.2.2]) (fun x=>((vo F0 68 x.1.1 x.1.2)++([]))) (fun x=>[D8 D0 x.1.2 R.2.1]):=by
 refine cD Tryz.func26 fun X hX hr hD=>?_
 rw[B5p]at hR
 refine k_ ?_
 refine cI 2 [] (fun y=>[(4,pt y 0)]) (fun _=>(C9 Za ⟨none,0,0⟩)) 26 fun y=>?_
 refine ie ?_
 refine k_ ?_
 obtain ⟨b,a0,hR⟩:=C3 hR
 refine zc Z (C7y a0) fun ⟨⟨⟨p,a5⟩,a1⟩,⟨⟨i,a3⟩,u⟩,⟨a,f⟩⟩=>?_
 try dsimp only at a1
 obtain ⟨n,z⟩:=a1
 try dsimp only at u
 obtain ⟨m,o⟩:=u
 have:=bT.le n
 have:=bT.le m
 have:=z.1
 have:=o.1
 have e:=B3w h g;rw [a0] at e;have d:=C4e h g;rw [a0] at d
 refine cI 6 [0] (fun j=>[(6,pt j 0),(7,iv b.2.2.2.2)]) (fun _=>(aE b.1 (va p.q) b.2.1 p.k (va i.q) b.2.2.1 i.k (va a.q) b.2.2.2.1 a.k)) 115 fun j=>?_
 refine ie ?_
 refine k_ ?_
 refine ie ?_
 refine zjn Z hR ?_ ?_<;>intro hR a9 a8
 ·refine k_ ?_
  refine zru 3 [1] [(5,iv 2)] 1 (bx y (C9 Za ⟨none,0,0⟩) 26) ?_
  subst hR
  refine ie (A8 ?_)
  exact cc (Y4 Z (E8 C6z Z 1) A6) ⟨(_,_),⟨bT.nil,B4.none⟩⟩
 refine k_ ?_
 refine bY 1 3 [0] [(17,ag (aE b.1 (va p.q) b.2.1 p.k (va i.q) b.2.2.1 i.k (va a.q) b.2.2.2.1 a.k))] ?_
 have:=bT.lc n
 refine P2 [_,_] ((vo _ _ i a3)++((vo _ 4 a _)++([]))) (bT.cast n (by rw [z.1])) opv ?_
 have:=bT.lc m
 refine P2 _ _ (bT.cast m (by rw [o.1])) opv ?_
 have:=bT.lc f
 refine P2 _ _ f opv ?_
 obtain ⟨y1,a6,hR⟩:=C3 hR
 refine zc Z (E3p a6 z bW bW o) fun ⟨⟨s,a2⟩,w⟩=>?_
 try dsimp only at w
 obtain ⟨l,v⟩:=w
 refine zru 2 [1] [(5,iv 0)] 1 (bx y (C9 y1.1 ⟨va s.q,y1.2.length,s.k⟩) 26) ?_
 subst hR
 refine k_ ?_
 exact cc (Y4 Z (E8 C6z Z 1) A6) _
end
end Go.Proofs.YtmldjljkeigpnaaGreatDoor
