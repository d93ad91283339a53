import Derived.Test.YtmldjljkeigpnaaGreatDoorProg
import Derived.Test.YtmldjljkeigpnaaGreatDoorMA2
import Derived.Test.YtmldjljkeigpnaaGreatDoorMB1
import Derived.Test.YtmldjljkeigpnaaGreatDoorMA3
import Derived.Test.YtmldjljkeigpnaaGreatDoorMB2
import Derived.Test.YtmldjljkeigpnaaGreatDoorMB3
import Derived.Test.YtmldjljkeigpnaaGreatDoorMQ1
import Derived.Test.YtmldjljkeigpnaaGreatDoorMQ2
import Derived.Test.YtmldjljkeigpnaaGreatDoorMQ3
set_option linter.unusedVariables false
set_option linter.unusedSimpArgs false
set_option linter.unnecessarySimpa false
set_option maxRecDepth 100000
namespace Go.Proofs.YtmldjljkeigpnaaGreatDoor
open Go Go.Fen
section
variable {R:List jz} {a b:Int} {c f:Cur} {from_:Int} {p:Prop} {r:List jz} {t:Plc} {to_:Int}
def A1j (a:Int) (b:Int) (c:Cur):Bool :=
 (bif ((((((((decide (a<2))||(decide ((80:Int)<a)))||(decide (b<1)))||(decide ((40:Int)<b)))||(decide (c.row<0)))||(decide (b≤c.row)))||(decide (c.col<0)))||(decide (a≤c.col))) then false else ((!c.wrap)||(decide (c.col=(IntKind.i64.wrap (a - (1:Int)))))))
theorem E1i (h:A1j a b c=true):(2≤a∧a≤80∧1≤b∧b≤40)∧(0≤c.row∧c.row<b∧0≤c.col∧c.col<a)∧(c.wrap=true→c.col=a - 1):=by
 unfold A1j at h
 by_cases hb:(2≤a∧a≤80∧1≤b∧b≤40)∧(0≤c.row∧c.row<b∧0≤c.col∧c.col<a)
 ·rw [show ((((((((decide (a<2))||(decide ((80:Int)<a)))||(decide (b<1)))||(decide ((40:Int)<b)))||(decide (c.row<0)))||(decide (b≤c.row)))||(decide (c.col<0)))||(decide (a≤c.col)))=false by grind] at h
  refine ⟨hb.1,hb.2,fun d=>?_⟩
  have h:((!c.wrap)||(decide (c.col=(IntKind.i64.wrap (a - (1:Int))))))=true:=h
  rw [d,C8k (by show (-9223372036854775808:Int)≤_;omega) (by show _≤(9223372036854775807:Int);omega)] at h
  grind
 grind
def A5z:Nat→Int→Int→jz
 | 0,_,_=>[]
 | fu+1,kind,n=>(bif (decide (n=0)) then ([]:jz) else (B5 (A5z fu kind (n - 1)) fun (a:jz)=>(a++([{ZZ with kind:=kind}]:jz))))
theorem C8b:∀ (fu:Nat) (k n:Int),0≤n→n.toNat<fu→A5z fu k n=List.replicate n.toNat {ZZ with kind:=k}
 | fu+1,k,n,h0,h=>by
  rw [A5z]
  by_cases hn:n=0
  ·simp_all
  ·rw [jX hn]
   show A5z fu k (n - 1)++[{ZZ with kind:=k}]=_
   rw [C8b fu k (n - 1) opx opx]
   obtain ⟨m,hm⟩:∃ m:Nat,n.toNat=m+1:=⟨n.toNat - 1,by omega⟩
   rw [hm,show (n - 1).toNat=m by omega,List.replicate_succ']
theorem D1h (fu:Nat) (k n:Int) (a:0≤n) (h:n.toNat<fu):(A5z fu k n).length=n.toNat:=by grind[C8b]
theorem C5u:∀ (fu:Nat) (kind:Int) (n:Int) (i:0≤n∧n≤50) (g:n.toNat<fu) (R:jz) (hR:A5z fu kind n=R),cM Tryz.prog 107 [iv kind,iv n] [] [] ({r:VR // bT 6 R.length r}) (fun x=>.slice (va x.1.q) R.length x.1.k) (fun x=>((vo A2 51 x.1 R)++([]))) (fun x=>[]):=by
 intro fu
 induction fu with
 | zero=>intros;omega
 | succ fu ih =>
  intro kind n i g R hR
  refine cD Tryz.func107 fun X hX hr hD=>?_
  rw[A5z]at hR
  refine bS Z (pp0 1 Z (ie (A3 (bS Z (bP 2 6 Z (ie ?_))))))
  refine cK Z hR ?_ ?_<;>intro hR p l
  ·refine bS Z (bP 1 4 Z ?_)
   subst hR
   refine ie (A8 ?_)
   exact ci ⟨VR.nil,bT.nil⟩
  refine A4 (nx (bS Z (cF 2 7 8 Z (ix Z L8 ?_))))
  obtain ⟨b,a,hR⟩:=C3 hR
  refine zc Z (ih kind (n - 1) opx opx b a) fun ⟨j,d⟩=>?_
  have:=bT.lc d
  have:=D1h fu kind (n - 1) opx opx;try rw [a] at this
  refine bY 2 3 [] [(12,ag (A2 ({ZZ with kind:=kind})))] ?_
  refine it Z (B0 (c:=A2) (xs:=([{ZZ with kind:=kind}]:List Act)) N3 Z Z Z oki) fun o=>?_
  have:([{ZZ with kind:=kind}]:jz).length=1:=rfl
  refine it Z (Q7 (f:=A2) (r:=j) (xs:=b) (ys:=([{ZZ with kind:=kind}]:jz)) (pre:=[]) (post:=[]) A0c jJ jJ Z Z Z Z Z Z Z Z Z (A5 0 Z) d ofv ofv) fun ⟨m,e⟩=>?_
  have:=bT.lc e
  refine bP 1 4 Z ?_
  subst hR
  refine ie (A8 ?_)
  exact ci ⟨m,e⟩
def A6q (from_:Int) (to_:Int):List jz :=
 (bif (decide (from_=to_)) then ([([]:jz)]:List jz) else (bif (decide (to_<from_)) then ([([{ZZ with kind:=20,n:=0,m:=(from_ - to_)}]:jz)]:List jz) else (bif (decide ((to_ - from_)≤4)) then (B5 (A5z ((to_ - from_).toNat+1) 5 (to_ - from_)) fun (a:jz)=>(([([{ZZ with kind:=20,n:=1,m:=(to_ - from_)}]:jz)]:List jz)++([a]:List jz))) else ([([{ZZ with kind:=20,n:=1,m:=(to_ - from_)}]:jz)]:List jz))))
theorem D1y {c0:Pth} (hb:0≤c0.frm.row∧c0.frm.row≤40∧0≤c0.to_.row∧c0.to_.row≤40):A6q c0.frm.row c0.to_.row=H7 c0:=by
 unfold A6q H7 B5
 rcases Int.lt_trichotomy c0.frm.row c0.to_.row with h | h | h
 ·rw [jX (show ¬ c0.frm.row=c0.to_.row by omega),jX (show ¬ c0.to_.row<c0.frm.row by omega),jX (show ¬ c0.to_.row - c0.frm.row=0 by omega),jX (show ¬ c0.to_.row - c0.frm.row<0 by omega)]
  rw [B0c,C8b _ _ _ opx opx]
  cases decide (c0.to_.row - c0.frm.row≤4)<;>rfl
 ·grind
 ·rw [jX (show ¬ c0.frm.row=c0.to_.row by omega),jQ h,jX (show ¬ c0.to_.row - c0.frm.row=0 by omega),jQ (show c0.to_.row - c0.frm.row<0 by omega),show -(c0.to_.row - c0.frm.row)=c0.frm.row - c0.to_.row by omega];rfl
theorem E4w (hr:A6q a b=r) (hb:0≤a∧a≤40∧0≤b∧b≤40):(∀ e ∈ r,mwA e)∧r.length≤2:=by
 subst hr
 have h:=D1y (c0:=⟨⟨a,0,false⟩,⟨b,0⟩⟩) hb
 have c:A6q a b=_:=h
 rw [c];exact ⟨D5d _ hb,E4r _⟩
theorem E3k (hR:A6q from_ to_=R) (hb:0≤from_∧from_≤40∧0≤to_∧to_≤40:=by exact bW):cM Tryz.prog 68 [iv from_,iv to_] [] [] ({t:VR×List Slc // bT 1 R.length t.1∧B4 t.2 R}) (fun x=>.slice (va x.1.1.q) R.length x.1.1.k) (fun x=>((vo F0 31 x.1.1 x.1.2)++([]))) (fun x=>[D8 A2 x.1.2 R]):=by
 refine cD Tryz.func68 fun X hX hr hD=>?_
 rw[A6q]at hR
 refine k_ ?_
 refine ie ?_
 refine k_ ?_
 refine ie ?_
 refine cK Z hR ?_ ?_<;>intro hR h1 a2
 ·refine k_ ?_
  have l:B4 ([⟨none,0,0⟩]:List Slc) ([([]:jz)]:List jz):=(B4.cons ⟨ooy,okl,okl⟩ B4.none)
  refine D4 (q:=D8 A2 [⟨none,0,0⟩] _) (M8 B3l I5) (it Z (B2t (c:=F0) (xs:=[⟨none,0,0⟩]) A7m Z Z Z oki) fun z=>?_)
  refine k_ ?_
  subst hR
  refine ie (A8 ?_)
  exact ci ⟨(⟨some z,1,[]⟩,_),⟨(show bT 1 1 _ from ⟨rfl,Nat.le_refl _,Nat.le_of_ble_eq_true Z⟩),l⟩⟩
 refine k_ ?_
 refine ie ?_
 refine cK Z hR ?_ ?_<;>intro hR h4 a1
 ·refine k_ ?_
  refine ix Z L8 ?_
  refine bY 1 3 [] [(16,ag (A2 ({ZZ with kind:=20,n:=0,m:=(from_ - to_)})))] ?_
  refine it Z (B0 (c:=A2) (xs:=[{ZZ with kind:=20,n:=0,m:=(from_ - to_)}]) N3 Z Z Z oki) fun p=>?_
  have:([{ZZ with kind:=20,n:=0,m:=(from_ - to_)}]:jz).length=1:=rfl
  have j:B4 ([⟨some ⟨p,0,none⟩,1,1⟩]:List Slc) ([([{ZZ with kind:=20,n:=0,m:=(from_ - to_)}]:jz)]:List jz):=(B4.cons ⟨ooy,okl,okl⟩ B4.none)
  refine D4 (q:=D8 _ [⟨some ⟨p,0,none⟩,1,1⟩] _) (M8 (A5 0 Z) I5) (it Z (B2t (c:=F0) (xs:=[⟨some ⟨p,0,none⟩,1,1⟩]) A7m Z Z Z oki) fun y=>(bP 1 4 Z ?_))
  subst hR
  refine k_ ?_
  exact ci ⟨(⟨some y,1,[]⟩,_),⟨(show bT 1 1 _ from ⟨rfl,Nat.le_refl _,Nat.le_of_ble_eq_true Z⟩),j⟩⟩
 refine k_ ?_
 refine ix Z L8 ?_
 refine bY 1 3 [] [(22,ag (A2 ({ZZ with kind:=20,n:=1,m:=(to_ - from_)})))] ?_
 refine it Z (B0 (c:=A2) (xs:=[{ZZ with kind:=20,n:=1,m:=(to_ - from_)}]) N3 Z Z Z oki) fun i=>?_
 have:([{ZZ with kind:=20,n:=1,m:=(to_ - from_)}]:jz).length=1:=rfl
 have e:B4 ([⟨some ⟨i,0,none⟩,1,1⟩]:List Slc) ([([{ZZ with kind:=20,n:=1,m:=(to_ - from_)}]:jz)]:List jz):=(B4.cons ⟨ooy,okl,okl⟩ B4.none)
 refine D4 (q:=D8 _ [⟨some ⟨i,0,none⟩,1,1⟩] _) (M8 (A5 0 Z) I5) (it Z (B2t (c:=F0) (xs:=[⟨some ⟨i,0,none⟩,1,1⟩]) A7m Z Z Z oki) fun s=>?_)
 let A:=(vo F0 31 (⟨some s,1,[]⟩:VR) ([⟨some ⟨i,0,none⟩,1,1⟩]:List Slc))++([])
 refine k_ ?_
 refine ix Z L8 ?_
 refine k_ ?_
 refine ie ?_
 refine cK Z hR ?_ ?_<;>intro hR a3 v
 ·refine k_ ?_
  refine ix Z L8 ?_
  obtain ⟨a,b,hR⟩:=C3 hR
  refine it Z (I4 (L2:=A) (C5u ((to_ - from_).toNat+1) 5 (to_ - from_) opx (Nat.lt_succ_self _) a b) Z Z Z Z Z A7.nil jK (fun ⟨d,f⟩=>((vo A2 51 d a)++A)) (fun _=>by first|rfl|simp only [List.append_nil,List.cons_append,List.nil_append,List.append_assoc])) fun ⟨d,f⟩=>?_
  have:=D1h ((to_ - from_).toNat+1) 5 (to_ - from_) opx opx;try rw [b] at this
  have:=bT.lc f
  refine P2 [] _ f oll (it Z (B0 (c:=F0) (xs:=[⟨va d.q,a.length,d.k⟩]) A7m Z Z Z oki) fun w=>?_)
  have g:B4 ([⟨va d.q,a.length,d.k⟩]:List Slc) ([a]:List jz):=(B4.cons ⟨ooy,okl,okl⟩ B4.none)
  refine D4 (q:=D8 _ [⟨va d.q,a.length,d.k⟩] _) (M8 (A5 1 Z) I5) ?_
  have o:B4 (([⟨some ⟨i,0,none⟩,1,1⟩]:List Slc)++([⟨va d.q,a.length,d.k⟩]:List Slc)) (([([{ZZ with kind:=20,n:=1,m:=(to_ - from_)}]:jz)]:List jz)++([a]:List jz)):=B4.append e g
  refine it Z (K5 (r:=(⟨some s,1,[]⟩:VR)) (rs:=([⟨some ⟨i,0,none⟩,1,1⟩]:List Slc)) (xss:=([([{ZZ with kind:=20,n:=1,m:=(to_ - from_)}]:jz)]:List jz)) (pre:=[]) (post:=[]) B5b Z Z Z Z Z Z Z Z Z (A5 1 Z) (A5 3 Z) (A5 0 Z) e g (show bT 1 1 _ from ⟨rfl,Nat.le_refl _,Nat.le_of_ble_eq_true Z⟩) ofv ofv) fun ⟨u,h⟩=>?_
  refine k_ ?_
  refine A1 ?_
  refine k_ ?_
  subst hR
  refine ie (A8 ?_)
  exact ci ⟨(u,_),⟨h,o⟩⟩
 refine k_ ?_
 subst hR
 refine ie (A8 ?_)
 exact ci ⟨(⟨some s,1,[]⟩,_),⟨(show bT 1 1 _ from ⟨rfl,Nat.le_refl _,Nat.le_of_ble_eq_true Z⟩),e⟩⟩
def A3w (to_:Int) (a:List jz):List jz :=
 (bif (decide ((0:Int)<to_)) then (a++([(([{ZZ with kind:=6}]:jz)++([{ZZ with kind:=20,n:=2,m:=to_}]:jz))]:List jz)) else (a++([([{ZZ with kind:=6}]:jz)]:List jz)))
def A5l (from_:Int) (to_:Int) (b:List jz):List jz :=
 (bif (decide (to_<from_)) then (bif (decide ((from_ - to_)≤4)) then (B5 (A5z ((from_ - to_).toNat+1) 3 (from_ - to_)) fun (a:jz)=>A3w to_ ((b++([([{ZZ with kind:=20,n:=3,m:=(from_ - to_)}]:jz)]:List jz))++([a]:List jz))) else A3w to_ (b++([([{ZZ with kind:=20,n:=3,m:=(from_ - to_)}]:jz)]:List jz))) else A3w to_ b)
def A5k (from_:Int) (to_:Int) (out:List jz):List jz :=
 (bif (decide (from_<to_)) then A5l from_ to_ ((out++([([{ZZ with kind:=22,n:=(to_+1)}]:jz)]:List jz))++([([{ZZ with kind:=20,n:=2,m:=(to_ - from_)}]:jz)]:List jz)) else A5l from_ to_ (out++([([{ZZ with kind:=22,n:=(to_+1)}]:jz)]:List jz)))
def A4f (from_:Int) (to_:Int):List jz :=
 (bif (decide (from_=to_)) then A5k from_ to_ (([]:List jz)++([([]:jz)]:List jz)) else A5k from_ to_ ([]:List jz))
theorem E0g (p:Pth) (h:0≤p.to_.col) (out:List jz):J2 p out=A3w p.to_.col out:=by
 unfold J2 A3w B5
 rw [B0c]
 by_cases h0:p.to_.col=0
 ·grind
 ·rw [jX h0,jQ (show 0<p.to_.col by omega)];rfl
theorem E1e (p:Pth) (h:0≤p.to_.col) (out:List jz):J4 p out=A5l p.frm.col p.to_.col out:=by
 unfold J4 M5 A5l B5
 have e:-(p.to_.col - p.frm.col)=p.frm.col - p.to_.col:=by omega
 by_cases hl:p.to_.col<p.frm.col
 ·rw [jQ hl,jQ (show p.to_.col - p.frm.col<0 by omega),e,B0c,C8b _ _ _ opx opx]
  cases decide (p.frm.col - p.to_.col≤4)<;>exact E0g p h _
 grind[E0g]
theorem C5w {p:Pth} (h:0≤p.to_.col):A4f p.frm.col p.to_.col=K0 p:=by
 have a:∀ out,A5k p.frm.col p.to_.col out=M3 p out:=fun out=>by
  unfold A5k M3 B5
  by_cases hl:p.frm.col<p.to_.col
  ·rw [jQ hl,jQ (show 0<p.to_.col - p.frm.col by omega)];exact (E1e p h _).symm
  grind[E1e]
 grind[A4f,K0]
theorem D9o (hr:A4f a b=r) (hb:0≤a∧a≤80∧0≤b∧b≤80):(∀ e ∈ r,mwA e)∧r.length≤6:=by
 subst hr
 have c:A4f a b=_:=C5w (p:=⟨⟨0,a,false⟩,⟨0,b⟩⟩) hb.2.2.1
 rw [c];exact D1d Z hb
theorem omm (h:p:=by first|rfl|simp +zetaDelta only [List.cons_append,List.append_assoc,List.nil_append,List.append_nil]):p:=h
theorem D5q (hR:A4f from_ to_=R) (hb:0≤from_∧from_≤80∧0≤to_∧to_≤80:=by exact bW):cM Tryz.prog 69 [iv from_,iv to_] [] [] ({t:VR×List Slc // bT 1 R.length t.1∧B4 t.2 R}) (fun x=>.slice (va x.1.1.q) R.length x.1.1.k) (fun x=>((vo F0 31 x.1.1 x.1.2)++([]))) (fun x=>[D8 A2 x.1.2 R]):=by
 refine cD Tryz.func69 fun X hX hr hD=>?_
 rw[A4f]at hR
 refine k_ ?_
 refine ie (k_ ?_)
 refine ie (A7i (un fun out=>un fun z g=>(A5k from_ to_ out=R∧bT 1 out.length z∧B4 g out∧out.length≤1,[(0,iv from_),(1,iv to_),(5,.slice (va z.q) out.length z.k)],((vo F0 31 z g)++([])),[D8 A2 g out])) ?_ ?_)
 ·refine k_ ?_
  refine ie ?_
  refine cK Z hR ?_ ?_<;>intro hR h1 be
  ·refine k_ ?_
   refine it Z (B0 (c:=F0) (xs:=[⟨none,0,0⟩]) A7m Z Z Z oki) fun b2=>?_
   have ac:B4 ([⟨none,0,0⟩]:List Slc) ([([]:jz)]:List jz):=(B4.cons ⟨ooy,okl,okl⟩ B4.none)
   refine D4 (q:=D8 A2 [⟨none,0,0⟩] _) (M8 B3l I5) (D4 (q:=D8 A2 _ _) I5 ?_)
   have aw:B4 (([]:List Slc)++([⟨none,0,0⟩]:List Slc)) (([]:List jz)++([([]:jz)]:List jz)):=B4.append B4.none ac
   refine it Z (K5 (r:=VR.nil) (rs:=([]:List Slc)) (xss:=([]:List jz)) (pre:=[]) (post:=[]) B5b Z Z Z Z Z Z Z Z Z (A5 2 Z) (A5 0 Z) (A5 1 Z) B4.none ac bT.nil ofv ofv) fun ⟨r4,an⟩=>?_
   have:([]:List jz).length=0:=rfl
   have:(([]:List jz)++([([]:jz)]:List jz)).length=([]:List jz).length+1:=List.length_append
   refine k_ ?_
   exact A1 (S6 (_,_,_) ⟨hR,an,aw,ozq⟩ bU c9)
  exact A4 (S6 (_,_,_) ⟨hR,bT.nil,B4.none,ozq⟩ bU c9)
 rintro ⟨out,z,g⟩
 rintro ⟨hR,aj,v,hj⟩
 rw[A5k]at hR
 refine k_ ?_
 refine ix Z B1 (bY 1 4 [] [(16,ag (A2 ({ZZ with kind:=22,n:=(to_+1)})))] ?_)
 refine it Z (B0 (c:=A2) (xs:=[{ZZ with kind:=22,n:=(to_+1)}]) N3 Z Z Z oki) fun b7=>?_
 have:([{ZZ with kind:=22,n:=(to_+1)}]:jz).length=1:=rfl
 refine it Z (B0 (c:=F0) (xs:=[⟨some ⟨b7,0,none⟩,1,1⟩]) A7m Z Z Z oki) fun b8=>?_
 let A:=sl F0 (some ⟨b8,0,none⟩) [⟨some ⟨b7,0,none⟩,1,1⟩]
 have ad:B4 ([⟨some ⟨b7,0,none⟩,1,1⟩]:List Slc) ([([{ZZ with kind:=22,n:=(to_+1)}]:jz)]:List jz):=(B4.cons ⟨ooy,okl,okl⟩ B4.none)
 refine D4 (q:=D8 _ [⟨some ⟨b7,0,none⟩,1,1⟩] _) (M8 (A5 1 Z) I5) ?_
 have am:B4 (g++([⟨some ⟨b7,0,none⟩,1,1⟩]:List Slc)) (out++([([{ZZ with kind:=22,n:=(to_+1)}]:jz)]:List jz)):=B4.append v ad
 refine it Z (K5 (r:=z) (rs:=g) (xss:=out) (pre:=[]) (post:=[]) B5b Z Z Z Z Z Z Z Z Z (A5 1 Z) (A5 3 Z) (A5 0 Z) v ad aj ofv ofv) fun ⟨ap,ab⟩=>?_
 have:(out++([([{ZZ with kind:=22,n:=(to_+1)}]:jz)]:List jz)).length=out.length+1:=List.length_append
 refine bP 1 5 Z (ie (A7i (un fun e=>un fun p b=>(A5l from_ to_ e=R∧bT 1 e.length p∧B4 b e∧e.length≤3,[(0,iv from_),(1,iv to_),(5,.slice (va p.q) e.length p.k)],((vo F0 31 p b)++([])),[D8 A2 (g++[⟨some ⟨b7,0,none⟩,1,1⟩]) (out++([([{ZZ with kind:=22,n:=(to_+1)}]:jz)])),D8 A2 [⟨some ⟨b7,0,none⟩,1,1⟩] ([([{ZZ with kind:=22,n:=(to_+1)}]:jz)]),A,sl A2 (some ⟨b7,0,none⟩) [{ZZ with kind:=22,n:=(to_+1)}],D8 A2 g out,D8 A2 b e])) ?_ ?_))
 ·refine k_ ?_
  refine ie ?_
  refine cK Z hR ?_ ?_<;>intro hR ba b3
  ·refine k_ ?_
   refine ix Z L8 (bY 1 4 [] [(27,ag (A2 ({ZZ with kind:=20,n:=2,m:=(to_ - from_)})))] ?_)
   refine it Z (B0 (c:=A2) (xs:=[{ZZ with kind:=20,n:=2,m:=(to_ - from_)}]) N3 Z Z Z oki) fun ae=>?_
   have:([{ZZ with kind:=20,n:=2,m:=(to_ - from_)}]:jz).length=1:=rfl
   refine it Z (B0 (c:=F0) (xs:=[⟨some ⟨ae,0,none⟩,1,1⟩]) A7m Z Z Z oki) fun bn=>?_
   have a4:B4 ([⟨some ⟨ae,0,none⟩,1,1⟩]:List Slc) ([([{ZZ with kind:=20,n:=2,m:=(to_ - from_)}]:jz)]:List jz):=(B4.cons ⟨ooy,okl,okl⟩ B4.none)
   refine D4 (q:=D8 _ [⟨some ⟨ae,0,none⟩,1,1⟩] _) (M8 (A5 1 Z) I5) ?_
   have au:B4 ((g++([⟨some ⟨b7,0,none⟩,1,1⟩]:List Slc))++([⟨some ⟨ae,0,none⟩,1,1⟩]:List Slc)) ((out++([([{ZZ with kind:=22,n:=(to_+1)}]:jz)]:List jz))++([([{ZZ with kind:=20,n:=2,m:=(to_ - from_)}]:jz)]:List jz)):=B4.append am a4
   refine it Z (K5 (r:=ap) (rs:=(g++([⟨some ⟨b7,0,none⟩,1,1⟩]:List Slc))) (xss:=(out++([([{ZZ with kind:=22,n:=(to_+1)}]:jz)]:List jz))) (pre:=[]) (post:=[]) B5b Z Z Z Z Z Z Z Z Z (A5 1 Z) (A5 3 Z) (A5 0 Z) am a4 ab ofv ofv) fun ⟨az,af⟩=>?_
   have:((out++([([{ZZ with kind:=22,n:=(to_+1)}]:jz)]:List jz))++([([{ZZ with kind:=20,n:=2,m:=(to_ - from_)}]:jz)]:List jz)).length=(out++([([{ZZ with kind:=22,n:=(to_+1)}]:jz)]:List jz)).length+1:=List.length_append
   refine k_ ?_
   exact S6 (_,_,_) ⟨hR,af,au,ozq⟩ bU c9
  exact A4 (S6 (_,_,_) ⟨hR,ab,am,ozq⟩ bU c9)
 rintro ⟨e,p,b⟩
 rintro ⟨hR,a0,j,hj⟩
 rw[A5l]at hR
 refine A7i (un fun i=>un fun l d=>(A3w to_ i=R∧bT 1 i.length l∧B4 d i∧i.length≤5,[(1,iv to_),(5,.slice (va l.q) i.length l.k)],((vo F0 31 l d)++([])),[D8 A2 (g++[⟨some ⟨b7,0,none⟩,1,1⟩]) (out++([([{ZZ with kind:=22,n:=(to_+1)}]:jz)])),D8 A2 [⟨some ⟨b7,0,none⟩,1,1⟩] ([([{ZZ with kind:=22,n:=(to_+1)}]:jz)]),A,sl A2 (some ⟨b7,0,none⟩) [{ZZ with kind:=22,n:=(to_+1)}],D8 A2 g out,D8 A2 b e,D8 A2 d i])) ?_ ?_
 ·refine k_ ?_
  refine ie ?_
  refine cK Z hR ?_ ?_<;>intro hR bj b6
  ·refine k_ ?_
   refine ix Z L8 (bY 1 4 [] [(38,ag (A2 ({ZZ with kind:=20,n:=3,m:=(from_ - to_)})))] ?_)
   refine it Z (B0 (c:=A2) (xs:=[{ZZ with kind:=20,n:=3,m:=(from_ - to_)}]) N3 Z Z Z oki) fun w=>?_
   have:([{ZZ with kind:=20,n:=3,m:=(from_ - to_)}]:jz).length=1:=rfl
   refine it Z (B0 (c:=F0) (xs:=[⟨some ⟨w,0,none⟩,1,1⟩]) A7m Z Z Z oki) fun bb=>?_
   have a8:B4 ([⟨some ⟨w,0,none⟩,1,1⟩]:List Slc) ([([{ZZ with kind:=20,n:=3,m:=(from_ - to_)}]:jz)]:List jz):=(B4.cons ⟨ooy,okl,okl⟩ B4.none)
   refine D4 (q:=D8 _ [⟨some ⟨w,0,none⟩,1,1⟩] _) (M8 (A5 1 Z) I5) ?_
   have al:B4 (b++([⟨some ⟨w,0,none⟩,1,1⟩]:List Slc)) (e++([([{ZZ with kind:=20,n:=3,m:=(from_ - to_)}]:jz)]:List jz)):=B4.append j a8
   refine it Z (K5 (r:=p) (rs:=b) (xss:=e) (pre:=[]) (post:=[]) B5b Z Z Z Z Z Z Z Z Z (A5 1 Z) (A5 8 Z) (A5 0 Z) j a8 a0 ofv ofv) fun ⟨ao,aa⟩=>?_
   have:(e++([([{ZZ with kind:=20,n:=3,m:=(from_ - to_)}]:jz)]:List jz)).length=e.length+1:=List.length_append
   refine k_ ?_
   refine ix Z L8 (k_ ?_)
   refine ie ?_
   refine cK Z hR ?_ ?_<;>intro hR bd b9
   ·refine k_ ?_
    refine ix Z L8 ?_
    obtain ⟨a,o,hR⟩:=C3 hR
    refine zc Z (C5u ((from_ - to_).toNat+1) 3 (from_ - to_) opx (Nat.lt_succ_self _) a o) fun ⟨u,a3⟩=>?_
    have:=D1h ((from_ - to_).toNat+1) 3 (from_ - to_) opx opx;try rw [o] at this
    have:=bT.cap a3
    have:=bT.le a3
    refine P2 [] ((vo _ _ _ _)++([])) a3 oll (it Z (B0 (c:=F0) (xs:=[⟨va u.q,a.length,u.k⟩]) A7m Z Z Z oki) fun bl=>?_)
    have a7:B4 ([⟨va u.q,a.length,u.k⟩]:List Slc) ([a]:List jz):=(B4.cons ⟨ooy,okl,okl⟩ B4.none)
    refine D4 (q:=D8 _ [⟨va u.q,a.length,u.k⟩] _) (M8 (A5 1 Z) I5) ?_
    have aq:B4 ((b++([⟨some ⟨w,0,none⟩,1,1⟩]:List Slc))++([⟨va u.q,a.length,u.k⟩]:List Slc)) ((e++([([{ZZ with kind:=20,n:=3,m:=(from_ - to_)}]:jz)]:List jz))++([a]:List jz)):=B4.append al a7
    refine it Z (K5 (r:=ao) (rs:=(b++([⟨some ⟨w,0,none⟩,1,1⟩]:List Slc))) (xss:=(e++([([{ZZ with kind:=20,n:=3,m:=(from_ - to_)}]:jz)]:List jz))) (pre:=[]) (post:=[]) B5b Z Z Z Z Z Z Z Z Z (A5 1 Z) (A5 3 Z) (A5 0 Z) al a7 aa ofv ofv) fun ⟨ax,ai⟩=>?_
    have:((e++([([{ZZ with kind:=20,n:=3,m:=(from_ - to_)}]:jz)]:List jz))++([a]:List jz)).length=(e++([([{ZZ with kind:=20,n:=3,m:=(from_ - to_)}]:jz)]:List jz)).length+1:=List.length_append
    refine k_ ?_
    exact A1 (S6 (_,_,_) ⟨hR,ai,aq,ozq⟩ bU c9)
   exact A4 (S6 (_,_,_) ⟨hR,aa,al,ozq⟩ bU c9)
  exact A4 (S6 (e,p,b) ⟨hR,a0,j,ozq⟩ bU c9)
 rintro ⟨i,l,d⟩
 rintro ⟨hR,y,h,hj⟩
 rw[A3w]at hR
 refine k_ ?_
 refine bY 1 2 [] [(53,ag (A2 ({ZZ with kind:=6})))] ?_
 refine it Z (B0 (c:=A2) (xs:=[{ZZ with kind:=6}]) N3 Z Z Z oki) fun a9=>?_
 have:([{ZZ with kind:=6}]:jz).length=1:=rfl
 refine k_ ?_
 refine ie ?_
 refine cK Z hR ?_ ?_<;>intro hR bc b5
 ·refine kc_ ?_
  refine bY 3 3 [] [(57,.slice (some ⟨a9,0,none⟩) 1 1),(59,ag (A2 ({ZZ with kind:=20,n:=2,m:=to_})))] ?_
  refine it Z (B0 (c:=A2) (xs:=[{ZZ with kind:=20,n:=2,m:=to_}]) N3 Z Z Z oki) fun bk=>?_
  have:([{ZZ with kind:=20,n:=2,m:=to_}]:jz).length=1:=rfl
  refine it Z (C7v (f:=A2) (xs:=([{ZZ with kind:=6}]:jz)) (ys:=([{ZZ with kind:=20,n:=2,m:=to_}]:jz)) A0c jJ jJ Z Z Z Z Z Z opx opx odv (A5 1 Z) (A5 0 Z) oom ofv ofv) fun ⟨s,a5⟩=>(k_ ?_)
  have:=bT.cap a5
  have:=bT.le a5
  refine P2 ((vo _ _ l d)++([])) _ a5 oll (B8g (L':=((vo F0 31 l d)++([]))) omm (it Z (B0 (c:=F0) (xs:=([⟨va s.q,(([{ZZ with kind:=6}]:List Act)++([{ZZ with kind:=20,n:=2,m:=to_}]:List Act)).length,s.k⟩])) A7m Z Z Z oki) fun bm=>?_))
  have a2:B4 ([⟨va s.q,(([{ZZ with kind:=6}]:jz)++([{ZZ with kind:=20,n:=2,m:=to_}]:jz)).length,s.k⟩]:List Slc) ([(([{ZZ with kind:=6}]:jz)++([{ZZ with kind:=20,n:=2,m:=to_}]:jz))]:List jz):=(B4.cons ⟨ooy,okl,okl⟩ B4.none)
  refine D4 (q:=D8 _ ([⟨va s.q,(([{ZZ with kind:=6}]:jz)++([{ZZ with kind:=20,n:=2,m:=to_}]:jz)).length,s.k⟩]) _) (M8 (A5 1 Z) I5) ?_
  have av:B4 (d++([⟨va s.q,(([{ZZ with kind:=6}]:jz)++([{ZZ with kind:=20,n:=2,m:=to_}]:jz)).length,s.k⟩]:List Slc)) (i++([(([{ZZ with kind:=6}]:jz)++([{ZZ with kind:=20,n:=2,m:=to_}]:jz))]:List jz)):=B4.append h a2
  refine it Z (K5 (r:=l) (rs:=d) (xss:=i) (pre:=[]) (post:=[]) B5b Z Z Z Z Z Z Z Z Z (A5 1 Z) (A5 11 Z) (A5 0 Z) h a2 y ofv ofv) fun ⟨b0,ah⟩=>(k_ ?_)
  subst hR
  exact ie (A8 (ci ⟨(_,_),⟨ah,av⟩⟩))
 refine k_ ?_
 refine it Z (B0 (c:=F0) (xs:=[⟨some ⟨a9,0,none⟩,1,1⟩]) A7m Z Z Z oki) fun bg=>?_
 have a6:B4 ([⟨some ⟨a9,0,none⟩,1,1⟩]:List Slc) ([([{ZZ with kind:=6}]:jz)]:List jz):=(B4.cons ⟨ooy,okl,okl⟩ B4.none)
 refine D4 (q:=D8 _ [⟨some ⟨a9,0,none⟩,1,1⟩] _) (M8 (A5 1 Z) I5) ?_
 have ar:B4 (d++([⟨some ⟨a9,0,none⟩,1,1⟩]:List Slc)) (i++([([{ZZ with kind:=6}]:jz)]:List jz)):=B4.append h a6
 refine it Z (K5 (r:=l) (rs:=d) (xss:=i) (pre:=[]) (post:=[]) B5b Z Z Z Z Z Z Z Z Z (A5 1 Z) (A5 9 Z) (A5 0 Z) h a6 y ofv ofv) fun ⟨ay,ak⟩=>(k_ ?_)
 subst hR
 exact ie (A8 (ci ⟨(_,_),⟨ak,ar⟩⟩))
def A0k (from_:Cur) (b:List jz) (i:Nat) (a:List jz→Nat→List jz):List jz→List jz→Nat→List jz
 | [],out1,k=>a out1 (i+1)
 | hd_l4::tl_l4,out1,k=>(bif ((decide ((0:Int)<(((b.getD i [])++hd_l4).length:Int)))||(!from_.wrap)) then A0k from_ b i a tl_l4 (out1++([((b.getD i [])++hd_l4)]:List jz)) (k+1) else A0k from_ b i a tl_l4 out1 (k+1))
def A4k (from_:Cur) (to_:Plc) (b:List jz) (a:List jz):List jz→List jz→Nat→List jz
 | [],out,i=>(out++([([{ZZ with kind:=19,n:=(to_.row+1),m:=(to_.col+1)}]:jz)]:List jz))
 | hd_l3::tl_l3,out,i=>A0k from_ b i (A4k from_ to_ b a tl_l3) a out 0
def A7y (from_:Cur) (to_:Plc):List jz :=
 (B5 (A6q from_.row to_.row) fun (a:List jz)=>(B5 (A4f from_.col to_.col) fun (b:List jz)=>A4k from_ to_ a b a ([]:List jz) 0))
def D1x (a:Bool) (w:jz):Bool:=(decide ((0:Int)<(w.length:Int)))||(!a)
def C9x (a:Bool) (A:List jz) (d:jz):List jz:=(A.map (d++·)).filter (D1x a)
theorem F4i (a:Bool) (w:jz):((decide ((w.length:Int)=0))&&a)=!D1x a w:=by grind[D1x]
theorem F5w (c0:Pth) (b:jz) (ag:List jz):∀ (A:List jz) (t:Nat),H6 c0 b ag A t=C9x c0.frm.wrap A b++ag
 | [],_=>rfl
 | a::A,t=>by
  rw [H6,F5w c0 b ag A,F4i]
  grind[C9x]
def G5i (t:Plc):jz:=[{ZZ with kind:=19,n:=t.row+1,m:=t.col+1}]
theorem E9v (c0:Pth):∀ (l:List jz),F4 c0 l=l.flatMap (C9x c0.frm.wrap (K0 c0))++[G5i c0.to_]
 | []=>rfl
 | el::l=>by
  rw [F4];simp only [B5]
  rw [F5w,E9v c0 l,List.flatMap_cons,List.append_assoc]
theorem E8x (f:Cur) (D:List jz) (i:Nat) (ag:List jz→Nat→List jz):∀ (A out:List jz) (k:Nat),A0k f D i ag A out k=ag (out++C9x f.wrap A (D.getD i [])) (i+1)
 | [],out,_=>by simp[A0k,C9x]
 | a::A,out,k=>by
  rw [A0k]
  have e:C9x f.wrap (a::A) (D.getD i [])=(bif D1x f.wrap (D.getD i []++a) then [D.getD i []++a] else [])++C9x f.wrap A (D.getD i []):=by
   grind[C9x]
  rw [e,show ((decide ((0:Int)<(((D.getD i [])++a).length:Int)))||(!f.wrap))=D1x f.wrap (D.getD i []++a) from rfl]
  cases D1x f.wrap (D.getD i []++a) with
  | true=>show A0k f D i ag A _ _=_;rw [E8x f D i ag A,List.append_assoc];rfl
  | false=>show A0k f D i ag A _ _=_;rw [E8x f D i ag A];rfl
theorem F0p {α:Type} {D l:List α} {d:α} {i:Nat} (h:d::l=D.drop i) (z:α):D.getD i z=d∧l=D.drop (i+1):=by grind[List.drop_of_length_le,List.drop_eq_getElem_cons]
theorem F4t (f:Cur) (t:Plc) (D A:List jz):∀ (l out:List jz) (i:Nat),l=D.drop i→A4k f t D A l out i=out++(l.flatMap (C9x f.wrap A)++[G5i t])
 | [],out,_,_=>rfl
 | d::l,out,i,h=>by
  obtain ⟨b,a⟩:=F0p h []
  rw [A4k,E8x,F4t f t D A l _ _ a,b,List.flatMap_cons,List.append_assoc,List.append_assoc]
theorem C1t (hb:(0≤f.row∧f.row≤40∧0≤t.row∧t.row≤40)∧(0≤f.col∧f.col≤80∧0≤t.col∧t.col≤80)):A7y f t=H9 ⟨f,t⟩:=by
 unfold A7y;simp only [B5]
 rw [F4t f t (A6q f.row t.row) (A4f f.col t.col) (A6q f.row t.row) [] 0 rfl]
 have a:A6q f.row t.row=H7 ⟨f,t⟩:=D1y (c0:=⟨f,t⟩) hb.1
 have b:A4f f.col t.col=K0 ⟨f,t⟩:=C5w (p:=⟨f,t⟩) hb.2.2.2.1
 rw [a,b,List.nil_append]
 exact (E9v ⟨f,t⟩ _).symm
theorem E8p (hr:A7y f t=r) (hb:(0≤f.row∧f.row≤40∧0≤t.row∧t.row≤40)∧(0≤f.col∧f.col≤80∧0≤t.col∧t.col≤80)):(∀ e ∈ r,C4s e)∧0<r.length∧r.length≤20:=by
 subst hr;rw [C1t hb]
 have h:=C9k (c0:=⟨f,t⟩) hb
 refine ⟨h.1,?_,Nat.le_trans h.2 opx⟩
 show 0<(F4 ⟨f,t⟩ _).length
 simp[E9v]
theorem otg (h:p:=by first|rfl|(try dsimp only;simp +zetaDelta only [K3,List.append_nil,List.cons_append,List.nil_append,List.append_assoc])):p:=h
theorem otr (h:p:=by first|omega|(rw [List.length_nil];omega)|(simp +zetaDelta only [List.length_cons,List.length_nil,List.length_append];omega)):p:=h
theorem opl (h:p:=by first|rfl|simp +zetaDelta only [List.flatten_cons,List.flatten_nil,List.append_nil,List.cons_append,List.nil_append,List.append_assoc]):p:=h
theorem ofq (h:p:=by (first|omega|(simp +zetaDelta only [List.length_append,List.length_cons,List.length_nil];omega))):p:=h
theorem E4p {from_:Cur} {to_:Plc} (hR:A7y from_ to_=R) (hb:(0≤from_.row∧from_.row≤40∧0≤to_.row∧to_.row≤40)∧(0≤from_.col∧from_.col≤80∧0≤to_.col∧to_.col≤80):=by exact bW):cM Tryz.prog 41 [ag (F5 from_),ag (A0n to_)] [] [] ({t:VR×List Slc // bT 1 R.length t.1∧B4 t.2 R}) (fun x=>.slice (va x.1.1.q) R.length x.1.1.k) (fun x=>((vo F0 31 x.1.1 x.1.2)++([]))) (fun x=>[D8 A2 x.1.2 R]):=by
 refine cD Tryz.func41 fun X hX hr hD=>?_
 rw[A7y]at hR
 refine k_ ?_
 refine B3r 3 [] (fun b1 b2=>[(2,pt b1 0),(3,pt b2 0)]) (fun _ _=>(F5 from_)) (fun _ _=>(A0n to_)) 29 24 fun b1 b2=>?_
 let B:=bx b2 (A0n to_) 24
 let A:=bx b1 (F5 from_) 29
 refine ie ?_
 refine k_ ?_
 refine ie ?_
 refine zS [(12,[0]),(12,[1])] ?_
 refine hq4 [0,2,5,7] 11 13 16 18 Z ?_
 refine gl 1 [0,1] Z (B8 (v:=iv _) cE Z Z 1) ?_
 refine gl 3 [0,1] Z (B8 (v:=iv _) cE Z Z 0) ?_
 refine gl 6 [0,1] Z (B8 (v:=iv _) cE Z Z 1) ?_
 refine gl 8 [0,1] Z (B8 (v:=iv _) cE Z Z 0) ?_
 obtain ⟨b,s,hR⟩:=C3 hR
 refine gc 4 [0,1] Z (E3k s) fun ⟨⟨r3,a0⟩,aw⟩=>?_
 try dsimp only at aw
 obtain ⟨ad,a6⟩:=aw
 have:=bT.le ad
 have:=a6.1
 have ar:=E4w s opx
 have:=ar.2;try rw [s] at this
 obtain ⟨a,l,hR⟩:=C3 hR
 refine gc 9 [0,1] Z (D5q l) fun ⟨⟨r8,a2⟩,am⟩=>?_
 try dsimp only at am
 obtain ⟨aa,y⟩:=am
 have:=bT.le aa
 have:=y.1
 have av:=D9o l opx
 have:=av.2;try rw [l] at this
 refine hq2 [10,11] 6 7 Z ?_
 refine ge ?_
 refine k_ ?_
 refine ie ?_
 refine A9 ?_
 refine D0z [_,_] ((vo _ _ _ _)++([])) (bT.cast aa (by rw [y.1])) oll ?_
 refine D0z _ _ (bT.cast ad (by rw [a6.1])) oll ?_
 refine Y9 (I8 [_,_,_] [1,2,0] 3 Z ozw Z [[_],[_],vo F0 31 VR.nil []] Z opv) ?_
 refine A1y (un fun out=>un fun z=>un fun p i=>(i≤b.length∧A4k _ _ b a (b.drop i) out i=R∧bT 1 out.length z∧B4 p out∧(out.length≤20 * i∧i≤b.length),[(2,_),(3,_),(5,.slice (va z.q) out.length z.k),(6,.slice (va r3.q) _ r3.k),(7,.slice (va r8.q) _ r8.k),(8,iv i)],(bx _ _ _::bx _ _ _::((vo F0 31 z p)++([]))),[_,sl F0 (va r8.q) a2,D8 A2 a2 a,D8 A2 a0 b,D8 A2 p out],b.length - i)) (([]:List jz),VR.nil,([]:List Slc),0) ⟨opx,hR,bT.nil,B4.none,(by (exact ⟨Nat.zero_le _,Nat.zero_le _⟩))⟩ bU c9 ?_
 rintro ⟨out,z,p,i⟩ ⟨b7,hR,a1,o,ho⟩
 have:=bT.le a1
 have:=o.1
 have b0:=D5i ar.1 i
 refine k_ ?_
 refine ie (G3 Z (fun an=>?_) (fun an=>?_))
 ·have al:=bV an
  rw [A1a [] (show i<b.length by omega)] at hR;rw[A4k]at hR
  refine k_ ?_
  refine ie ?_
  refine A9 ?_
  refine A1y (un fun j=>un fun g=>un fun e k=>(k≤a.length∧A0k _ b i _ (a.drop k) j k=R∧bT 1 j.length g∧B4 e j∧(j.length≤20 * i+k∧k≤a.length),[(2,_),(3,_),(5,.slice (va g.q) j.length g.k),(6,_),(7,_),(8,_),(9,iv k)],(bx _ _ _::bx _ _ _::((vo _ _ g e)++([]))),[_,sl F0 (va r8.q) a2,D8 A2 a2 a,D8 A2 a0 b,D8 A2 p out,D8 A2 e j],a.length - k)) (out,z,p,0) ⟨opx,hR,a1,o,opx⟩ bU c9 ?_
  rintro ⟨j,g,e,k⟩ ⟨b8,hR,w,h,bb⟩
  let D:=(vo F0 31 g e)++([])
  have:=bT.le w
  have:=h.1
  have az:=D5i av.1 k
  refine k_ ?_
  refine ie (G3 Z (fun ao=>?_) (fun ao=>?_))
  ·have ak:=bV ao
   rw [A1a [] (show k<a.length by omega)] at hR;rw[A0k]at hR
   refine k_ ?_
   refine ie ?_
   refine k_ ?_
   refine H8 0 Z (by have:=a6.1;omega) fun bc af=>?_
   refine D4 (Q6 (k:=i) (d:=⟨none,0,0⟩) a6 3 Z (by have:=a6.1;omega)) ?_
   refine ix Z (E7 A7m Z Z af Z i) ?_
   refine ix Z (G1 (B6 C2z Z Z (F8 (sz:=1) af jJ 1 Z (gd ⟨none,0,0⟩ (by have:=a6.1;omega))) Z) (M2 a6 (by have:=a6.1;omega))) ?_
   refine it Z (Tri.own (Y6 (f:=A2) (r:=VR.nil) (xs:=jZ) (ys:=(b.getD i [])) (pre:=(bx b2 (A0n to_) 24::bx b1 (F5 from_) 29::((vo F0 31 g e)++([])))) (post:=[]) A0c jJ jJ Z Z Z Z Z Z Z otg (A5 0 Z) bT.nil otr otr) (fun ⟨ab,a7⟩=>(bx b2 (A0n to_) 24::bx b1 (F5 from_) 29::((vo F0 31 g e)++((vo A2 51 ab (b.getD i []))++([]))))) (fun ⟨ab,a7⟩=>by first|rfl|(try dsimp only;simp only [K3,List.append_nil,List.cons_append,List.nil_append,List.append_assoc]))) fun ⟨ab,a7⟩=>?_
   refine k_ ?_
   refine ie ?_
   refine k_ ?_
   refine H8 2 Z (by have:=y.1;omega) fun be ai=>?_
   refine D4 (Q6 (k:=k) (d:=⟨none,0,0⟩) y 3 Z (by have:=y.1;omega)) ?_
   refine ix Z (E7 A7m Z Z ai Z k) ?_
   refine ix Z (G1 (B6 C2z Z Z (F8 (sz:=1) ai jJ 3 Z (gd ⟨none,0,0⟩ (by have:=y.1;omega))) Z) (M2 y (by have:=y.1;omega))) ?_
   refine B2n (I8 [_,_,_,_] [0,1,3,2] 4 Z ozw Z [[_],[_],vo _ _ _ _,vo _ _ g e] Z opl) ?_
   refine it Z (Tri.own (Y6 (f:=A2) (r:=ab) (xs:=(b.getD i [])) (ys:=(a.getD k [])) (pre:=[B,A]) (post:=D) A0c jJ jJ Z Z Z Z Z Z Z otg (A5 0 Z) a7 otr otr) (fun ⟨u,a3⟩=>(B::A::((vo A2 51 u ((b.getD i [])++(a.getD k [])))++D))) (fun ⟨u,a3⟩=>by first|rfl|(try dsimp only;simp only [K3,List.append_nil,List.cons_append,List.nil_append,List.append_assoc]))) fun ⟨u,a3⟩=>?_
   refine B2n (I8 [_,_,_,_] [0,1,3,2] 4 Z ozw Z [[_],[_],vo _ _ g e,vo _ _ u _] Z opl) ?_
   refine k_ ?_
   refine ie ?_
   refine k_ ?_
   refine zir 4 0 48 52 (!from_.wrap) (fun b3 b9=>?_) ?_
   ·refine cB 4 [1] 52 Z ?_
    refine A1 ?_
    exact I1 2 48 _ b3 A7.refl bU Z Z Z Z Z
   refine ie ?_
   refine zjb Z hR ?_ ?_<;>intro hR ax
   ·have ay:=bV ax
    refine k_ ?_
    have:=bT.cap a3
    have:=bT.le a3
    refine P2 (B::A::D) [] (T:=51) (c:=A2) a3 oll ?_
    refine B8g (L':=(B::A::D)) omm ?_
    refine it Z (B0 (c:=F0) (xs:=([⟨va u.q,((b.getD i [])++(a.getD k [])).length,u.k⟩])) A7m Z Z Z oki) fun bd=>?_
    have a8:B4 ([⟨va u.q,((b.getD i [])++(a.getD k [])).length,u.k⟩]:List Slc) ([((b.getD i [])++(a.getD k []))]:List jz):=(B4.cons ⟨ooy,okl,okl⟩ B4.none)
    refine D4 (q:=D8 _ ([⟨va u.q,((b.getD i [])++(a.getD k [])).length,u.k⟩]) _) (M8 (A5 1 Z) I5) ?_
    have aq:B4 (e++([⟨va u.q,((b.getD i [])++(a.getD k [])).length,u.k⟩]:List Slc)) (j++([((b.getD i [])++(a.getD k []))]:List jz)):=B4.append h a8
    refine it Z (K5 (r:=g) (rs:=e) (xss:=j) (pre:=[B,A]) (post:=[]) B5b Z Z Z Z Z Z Z Z Z (A5 1 Z) (A5 10 Z) (A5 0 Z) h a8 w otr otr) fun ⟨b4,ah⟩=>?_
    have:(j++([((b.getD i [])++(a.getD k []))]:List jz)).length=j.length+1:=List.length_append
    refine k_ ?_
    refine A1 ?_
    refine k_ ?_
    refine ix Z B1 ?_
    refine k_ ?_
    refine A1 ?_
    exact z0 (_,_,_,_) ⟨opx,hR,ah,aq,ofq⟩
   refine k_ ?_
   refine ix Z B1 ?_
   refine k_ ?_
   refine A1 ?_
   exact z0 (j,g,e,_) ⟨opx,hR,w,h,ofq⟩
  have ak:=bV ao
  rw [A1b ak] at hR;rw[A0k]at hR
  refine k_ ?_
  refine ix Z B1 ?_
  refine k_ ?_
  refine A1 ?_
  exact z0 (j,g,e,_) ⟨opx,hR,w,h,ofq⟩
 have al:=bV an
 rw [A1b al] at hR;rw[A4k]at hR
 refine k_ ?_
 refine ix Z B1 ?_
 refine k_ ?_
 refine ix Z B1 ?_
 refine bY 1 4 [] [(64,ag (A2 ({ZZ with kind:=19,n:=(to_.row+1),m:=(to_.col+1)})))] ?_
 refine it Z (B0 (c:=A2) (xs:=[{ZZ with kind:=19,n:=(to_.row+1),m:=(to_.col+1)}]) N3 Z Z Z oki) fun ac=>?_
 have:([{ZZ with kind:=19,n:=(to_.row+1),m:=(to_.col+1)}]:jz).length=1:=rfl
 refine it Z (B0 (c:=F0) (xs:=[⟨some ⟨ac,0,none⟩,1,1⟩]) A7m Z Z Z oki) fun ba=>?_
 have a9:B4 ([⟨some ⟨ac,0,none⟩,1,1⟩]:List Slc) ([([{ZZ with kind:=19,n:=(to_.row+1),m:=(to_.col+1)}]:jz)]:List jz):=(B4.cons ⟨ooy,okl,okl⟩ B4.none)
 refine D4 (q:=D8 _ [⟨some ⟨ac,0,none⟩,1,1⟩] _) (M8 (A5 1 Z) I5) ?_
 have au:B4 (p++([⟨some ⟨ac,0,none⟩,1,1⟩]:List Slc)) (out++([([{ZZ with kind:=19,n:=(to_.row+1),m:=(to_.col+1)}]:jz)]:List jz)):=B4.append o a9
 refine it Z (K5 (r:=z) (rs:=p) (xss:=out) (pre:=[B,A]) (post:=[]) B5b Z Z Z Z Z Z Z Z Z (A5 1 Z) (A5 7 Z) (A5 0 Z) o a9 a1 otr otr) fun ⟨b6,ae⟩=>?_
 refine bP 1 4 Z ?_
 subst hR
 refine k_ ?_
 exact ci ⟨(_,_),⟨ae,au⟩⟩
end
section
variable {out:List jz} {p:Pth}
theorem D6u {c0:Pth} {e:jz} (a:e ∈ H7 c0) :
  (e=[]∧c0.frm.row=c0.to_.row)∨(e=W5 0 (c0.frm.row - c0.to_.row)∧c0.to_.row<c0.frm.row)∨(e=W5 1 (c0.to_.row - c0.frm.row)∧c0.frm.row<c0.to_.row)∨(e=U1 5 (c0.to_.row - c0.frm.row)∧c0.frm.row<c0.to_.row):=by
 grind[H7,B5]
theorem C0o {α:Type} {x y:α} {l:List α} (h:x ∈ l++[y]):x ∈ l∨x=y:=by grind
def E4c (p:Pth) (e:jz):Prop :=
 (e=[]∧p.frm.col=p.to_.col)∨e=[{ZZ with kind:=22,n:=p.to_.col+1}]∨(e=W5 2 (p.to_.col - p.frm.col)∧p.frm.col<p.to_.col)∨(e=W5 3 (-(p.to_.col - p.frm.col))∧p.to_.col<p.frm.col) ∨
  (e=U1 3 (-(p.to_.col - p.frm.col))∧p.to_.col<p.frm.col)∨(e=U1 6 1∧p.to_.col=0)∨(e=U1 6 1++W5 2 p.to_.col∧p.to_.col≠0)
theorem E7x (h:∀ e ∈ out,E4c p e):∀ e ∈ J2 p out,E4c p e:=by
 unfold J2;simp only [B5]
 cases hq:decide (p.to_.col=0) with
 | true=>intro e a;rcases C0o a with a | a;exact h e a;exact .inr (.inr (.inr (.inr (.inr (.inl ⟨a,of_decide_eq_true hq⟩)))))
 | false=>intro e a;rcases C0o a with a | a;exact h e a;exact .inr (.inr (.inr (.inr (.inr (.inr ⟨a,of_decide_eq_false hq⟩)))))
theorem F6e (h:∀ e ∈ out,E4c p e):∀ e ∈ J4 p out,E4c p e:=by
 unfold J4 M5;simp only [B5]
 cases hq:decide ((p.to_.col - p.frm.col)<0) with
 | true =>
  have b:p.to_.col<p.frm.col:=by grind
  have c:∀ e ∈ out++[W5 3 (-(p.to_.col - p.frm.col))],E4c p e:=fun e a=>by
   rcases C0o a with a | a
   ·grind
   ·exact .inr (.inr (.inr (.inl ⟨a,b⟩)))
  cases decide ((-(p.to_.col - p.frm.col))≤4) with
  | true=>exact E7x (fun e a=>by
    rcases C0o a with a | a
    ·grind
    ·exact .inr (.inr (.inr (.inr (.inl ⟨a,b⟩)))))
  | false=>exact E7x c
 | false=>exact E7x h
theorem F0z:∀ e ∈ K0 p,E4c p e:=by
 have c:∀ {out:List jz},(∀ e ∈ out,E4c p e)→∀ e ∈ M3 p out,E4c p e:=fun {out} h=>by
  have b:∀ e ∈ out++[[{ZZ with kind:=22,n:=p.to_.col+1}]],E4c p e:=fun e a=>by
   rcases C0o a with a | a
   ·grind
   ·exact .inr (.inl a)
  unfold M3;simp only [B5]
  cases hq:decide ((0:Int)<(p.to_.col - p.frm.col)) with
  | true=>exact F6e (fun e a=>by
    rcases C0o a with a | a
    ·grind
    ·exact .inr (.inr (.inl ⟨a,by grind⟩)))
  | false=>exact F6e b
 unfold K0
 cases hq:decide ((p.to_.col - p.frm.col)=0) with
 | true=>exact c (fun e a=>by rw [show e=[] from List.mem_singleton.1 a];exact .inl ⟨rfl,by grind⟩)
 | false=>grind
theorem F1v (c0:Pth) (c:jz) (ag:List jz) (Q:jz→Prop) (d:∀ e ∈ ag,Q e):∀ (A:List jz) (t:Nat),(∀ a ∈ A,(c++a≠[]∨c0.frm.wrap=false)→Q (c++a))→∀ e ∈ H6 c0 c ag A t,Q e
 | [],_,_=>d
 | a::A,t,h=>by
  have hr:=F1v c0 c ag Q d A (t+1) (fun x i=>h x (List.mem_cons_of_mem _ i))
  rw [H6]
  cases b:((decide (((c++a).length:Int)=0))&&c0.frm.wrap) with
  | true=>exact hr
  | false =>
   intro e f
   rcases List.mem_cons.1 f with rfl | f
   ·refine h a jU ?_
    rcases Bool.and_eq_false_iff.1 b with b | b
    ·left;intro g;rw [g] at b;cases b
    ·exact .inr b
   ·exact hr e f
theorem E3q (c0:Pth) (Q:jz→Prop) (b:Q [{ZZ with kind:=19,n:=c0.to_.row+1,m:=c0.to_.col+1}]):∀ (l:List jz),(∀ d ∈ l,∀ a ∈ K0 c0,(d++a≠[]∨c0.frm.wrap=false)→Q (d++a))→∀ e ∈ F4 c0 l,Q e
 | [],_=>fun e c=>by rw [show e=_ from List.mem_singleton.1 c];exact b
 | d::l,h=>by
  rw [F4];simp only [B5]
  exact F1v c0 d _ Q (E3q c0 Q b l (fun x f=>h x (List.mem_cons_of_mem _ f))) _ 0 (h d jU)
theorem F5x (c0:Pth):∀ (l:List jz),0<(F4 c0 l).length
 | []=>Nat.one_pos
 | d::l=>by
  have h:∀ (A:List jz) (t:Nat),0<(H6 c0 d (F4 c0 l) A t).length:=fun A=>by
   induction A with
   | nil=>exact fun t=>F5x c0 l
   | cons a A ih =>
    intro t
    rw [H6]
    cases ((decide (((d++a).length:Int)=0))&&c0.frm.wrap) with
    | true=>exact ih _
    | false=>exact Nat.succ_pos _
  rw [F4];simp only [B5];exact h _ _
end
end Go.Proofs.YtmldjljkeigpnaaGreatDoor
namespace Go.Proofs.YtmldjljkeigpnaaGreatDoor
section
open Go Go.Fen open Go.IntKind (i64) open Tryz (prog)
variable {R:List UInt8} {a:Act} {b:List Slc} {cp:Int} {e l:jz} {lk:Nat} {lq:kQ} {m n none_:Int} {p:Prop}
theorem E3a:SlTy prog 244 69 2:=⟨by simp,by kernel_rfl⟩
theorem D6q:SlTy prog 332 229 3:=⟨by simp,by kernel_rfl⟩
theorem G4v:Zero prog 5 [.int .u8 0]:=⟨by kernel_rfl⟩
def A7w (m:Int):Nat→Nat→Bool
 | 0,_=>false
 | fu1+1,k=>(bif (decide ((k:Int)<8)) then (bif (decide (m=(([1,2,4,8,16,32,64,128]:List Int).getD k 0))) then true else A7w m fu1 (k+1)) else false)
def A3u (m:Int):Bool :=
 A7w m ((8 - 0)+1) 0
theorem B9h {R:Bool} (hR:A3u m=R):J7 prog 87 [iv m] [] (bv R):=by
 refine cD Tryz.func87 fun X hX hr hD=>?_
 rw[A3u]at hR
 refine k_ ?_
 refine ie ?_
 refine k_ ?_
 refine ie (A9 ?_)
 refine A1y (un fun fu k=>((8 - k)<fu∧A7w m fu k=R,[(0,_),(3,iv k)],_,_,fu)) (_,0) ⟨(Nat.lt_succ_self _),hR⟩ bU A7.nil ?_
 rintro ⟨fu,k⟩ ⟨e,hR⟩
 obtain ⟨fu1,rfl⟩:∃ m,fu=m+1:=⟨fu - 1,by omega⟩
 rw[A7w]at hR
 refine k_ ?_
 refine ie ?_
 refine cK Z hR ?_ ?_<;>intro hR f b
 ·refine kc_ ?_
  refine bY 3 2 [] [(8,iv m),(9,ag [iv 1,iv 2,iv 4,iv 8,iv 16,iv 32,iv 64,iv 128]),(10,iv k)] ?_
  refine ix Z (E8o (v:=iv ([1,2,4,8,16,32,64,128].getD k 0)) (c:=H0) Tryz.underlying235 cE jJ Z Z Z Z k Z Z opx Z Z) ?_
  refine k_ ?_
  refine cK Z hR ?_ ?_<;>intro hR g a
  ·refine k_ ?_
   subst hR
   exact q8
  refine k_ ?_
  refine ix Z B1 ?_
  refine k_ ?_
  refine A1 ?_
  exact z0 (_,_) ⟨opx,hR⟩
 refine k_ ?_
 subst hR
 exact q8
def U6 (c:Col):Int :=
 (bif (decide (c.kind=0)) then (bif (decide (c.n=0)) then 0 else 130) else (bif (decide (c.kind=1)) then (bif ((decide ((0:Int)≤c.n))&&(decide (c.n≤255))) then 0 else 130) else (bif (decide (c.kind=2)) then (bif ((decide ((0:Int)≤c.n))&&(decide (c.n≤16777215))) then 0 else 130) else 130)))
theorem B4t {c:Col} {R:Int} (hR:U6 c=R):J7 prog 88 [ag (R1 c)] [] (iv R):=by
 refine cD Tryz.func88 fun X hX hr hD=>?_
 rw[U6]at hR
 refine k_ ?_
 refine cI 2 [] (fun a=>[(1,pt a 0)]) (fun _=>(R1 c)) 49 fun a=>?_
 refine ie ?_
 refine k_ ?_
 refine ie ?_
 refine k_ ?_
 refine ie ?_
 refine cK Z hR ?_ ?_<;>intro hR m f
 ·refine k_ ?_
  refine ie ?_
  refine cK Z hR ?_ ?_<;>intro hR o i
  ·refine k_ ?_
   subst hR
   exact q8
  refine k_ ?_
  subst hR
  exact q8
 refine k_ ?_
 refine ie ?_
 refine cK Z hR ?_ ?_<;>intro hR r j
 ·refine k_ ?_
  refine zid 4 0 15 19 (decide (c.n≤255)) (fun h k=>?_) ?_
  ·refine cB 4 [0] 19 Z (A1 ?_)
   exact I1 2 15 _ h A7.nil bU Z Z Z Z Z
  refine ie ?_
  refine zja Z hR ?_ ?_<;>intro hR p d
  ·refine k_ ?_
   subst hR
   exact q8
  refine k_ ?_
  subst hR
  exact q8
 refine k_ ?_
 refine ie ?_
 refine cK Z hR ?_ ?_<;>intro hR s e
 ·refine k_ ?_
  refine zid 4 0 25 29 (decide (c.n≤16777215)) (fun l b=>?_) ?_
  ·refine cB 4 [0] 29 Z (A1 ?_)
   exact I1 2 25 _ l A7.nil bU Z Z Z Z Z
  refine ie ?_
  refine zja Z hR ?_ ?_<;>intro hR q g
  ·refine k_ ?_
   subst hR
   exact q8
  refine k_ ?_
  subst hR
  exact q8
 refine k_ ?_
 subst hR
 exact q8
def A0h (a:Act) (is:Bool):Int :=
 (bif (((!decide (a.kind=39))||(!(decide (a.text=([]:List UInt8)))))||(!is)) then 141 else 0)
def A6f (a:Act) (b:Bool):Int :=
 (bif b then A0h a ((decide (a.m=0))&&(decide ((U6 a.color)=0))) else A0h a false)
def A1v (a:Act):Int :=
 (bif (decide (a.n=0)) then A0h a ((decide (a.m=0))&&(decide (a.color=ZU))) else (bif (decide (a.n=1)) then A0h a ((A3u a.m)&&(decide (a.color=ZU))) else (bif (decide (a.n=2)) then A0h a (((decide (a.m=3))||(((A3u a.m)&&(!decide (a.m=1)))&&(!decide (a.m=2))))&&(decide (a.color=ZU))) else (bif (decide (a.n=3)) then A0h a (((decide ((0:Int)≤a.m))&&(decide (a.m≤5)))&&(decide (a.color=ZU))) else (bif (decide (a.n=4)) then A6f a (decide (a.n=4)) else (bif (decide (a.n=5)) then A6f a (decide (a.n=5)) else A6f a (decide (a.n=6))))))))
theorem C0u {R:Int} (hR:A1v a=R):J7 prog 56 [ag (A2 a)] [] (iv R):=by
 refine cD Tryz.func56 fun X hX hr hD=>?_
 rw[A1v]at hR
 refine k_ ?_
 refine cI 2 [] (fun d=>[(1,pt d 0)]) (fun _=>(A2 a)) 51 fun d=>?_
 refine ie ?_
 refine k_ ?_
 refine cI 3 [0] (fun l=>[(3,pt l 0)]) (fun _=>(R1 ZU)) 49 fun l=>?_
 let A:=[bx l (R1 ZU) 49,bx d (A2 a) 51]
 refine ie (bS Z (bP 1 4 Z (ie (A7i (fun is=>(A0h a is=R,[(1,pt d 0),(4,bv is)],A,[])) ?_ ?_))))
 ·refine k_ ?_
  refine ie ?_
  refine k_ ?_
  refine ie ?_
  refine cK Z hR ?_ ?_<;>intro hR h3 a6
  ·refine k_ ?_
   refine zid 5 1 13 18 (decide (a.color=ZU)) (fun g4 aa=>?_) ?_
   ·refine bY 3 2 [1,0] [(15,ag (R1 a.color)),(16,ag (R1 ZU))] ?_
    refine ix Z (A3m B5g Z Z Z) ?_
    refine k_ ?_
    exact I1 5 13 _ g4 A7.nil bU Z Z Z Z Z
   refine k_ ?_
   exact S6 _ hR bU A7.nil
  refine k_ ?_
  refine ie ?_
  refine cK Z hR ?_ ?_<;>intro hR h5 a3
  ·refine k_ ?_
   refine zv Z (B9h Z) ?_
   refine k_ ?_
   refine zia 5 1 24 29 (decide (a.color=ZU)) (fun g6=>?_) ?_
   ·refine bY 3 2 [1,0] [(26,ag (R1 a.color)),(27,ag (R1 ZU))] ?_
    refine ix Z (A3m B5g Z Z Z) ?_
    refine k_ ?_
    exact I1 5 24 _ g6 A7.nil bU Z Z Z Z Z
   refine k_ ?_
   exact S6 _ hR bU A7.nil
  refine k_ ?_
  refine ie ?_
  refine cK Z hR ?_ ?_<;>intro hR h7 ac
  ·refine k_ ?_
   refine zir _ 7 35 49 (((A3u a.m)&&(!decide (a.m=1)))&&(!decide (a.m=2))) (fun g8 ab=>?_) ?_
   ·refine cB 2 [1] 37 Z ?_
    refine zv Z (B9h Z) ?_
    refine k_ ?_
    refine zia 4 6 39 43 (!decide (a.m=1)) (fun g9=>?_) ?_
    ·refine cB 4 [1] 43 Z (A1 ?_)
     exact I1 2 39 _ g9 A7.nil bU Z Z Z Z Z
    refine k_ ?_
    refine zia 4 1 44 48 (!decide (a.m=2)) (fun j=>?_) ?_
    ·have v:=bV j
     refine cB 4 [1] 48 Z (A1 ?_)
     exact I1 2 44 _ j A7.nil bU Z Z Z Z Z
    refine k_ ?_
    exact I1 8 35 _ g8 A7.nil bU Z Z Z Z Z
   refine k_ ?_
   refine zia 5 1 50 55 (decide (a.color=ZU)) (fun e=>?_) ?_
   ·have s:=bV e
    refine bY 3 2 [1,0] [(52,ag (R1 a.color)),(53,ag (R1 ZU))] ?_
    refine ix Z (A3m B5g Z Z Z) ?_
    refine k_ ?_
    exact I1 5 50 _ e A7.nil bU Z Z Z Z Z
   refine k_ ?_
   exact S6 _ hR bU A7.nil
  refine k_ ?_
  refine ie ?_
  refine cK Z hR ?_ ?_<;>intro hR a4 z
  ·refine k_ ?_
   refine zid 4 7 61 65 (decide (a.m≤5)) (fun p u=>?_) ?_
   ·refine cB 4 [1] 65 Z (A1 ?_)
    exact I1 2 61 _ p A7.nil bU Z Z Z Z Z
   refine k_ ?_
   refine zia 5 1 66 71 (decide (a.color=ZU)) (fun k=>?_) ?_
   ·have x:=bV k
    refine bY 3 2 [1,0] [(68,ag (R1 a.color)),(69,ag (R1 ZU))] ?_
    refine ix Z (A3m B5g Z Z Z) ?_
    refine k_ ?_
    exact I1 5 66 _ k A7.nil bU Z Z Z Z Z
   refine k_ ?_
   exact S6 _ hR bU A7.nil
  refine A7i (fun c=>(A6f a c=R,[(1,pt d 0),(4,bv false),(72,bv c)],A,[])) ?_ ?_
  ·refine k_ ?_
   refine ie ?_
   refine cK Z hR ?_ ?_<;>intro hR a5 q
   ·refine A4 ?_
    exact S6 _ hR bU A7.nil
   refine k_ ?_
   refine ie ?_
   refine cK Z hR ?_ ?_<;>intro hR a8 r
   ·refine A4 ?_
    exact S6 _ hR bU A7.nil
   refine k_ ?_
   refine A1 ?_
   exact S6 _ hR bU A7.nil
  intro c
  rintro hR
  rw[A6f]at hR
  refine zjb Z hR ?_ ?_<;>intro hR a2
  ·refine k_ ?_
   refine zid 5 1 79 84 (decide ((U6 a.color)=0)) (fun o y=>?_) ?_
   ·refine bY 2 3 [1] [(81,ag (R1 a.color))] ?_
    refine zv Z (B4t Z) ?_
    refine bP 2 84 Z (A1 ?_)
    exact I1 4 79 _ o A7.nil bU Z Z Z Z Z
   refine k_ ?_
   exact S6 _ hR bU A7.nil
  refine A4 ?_
  exact S6 _ hR bU A7.nil
 intro is
 rintro hR
 rw[A0h]at hR
 refine k_ ?_
 refine zio 4 4 88 92 (!(decide (a.text=[]))) (fun i=>?_) ?_
 ·have w:=bV i
  refine cB 2 [1] 90 Z (ix Z (B2u Z Z Z) (bP 1 92 Z (A1 ?_)))
  exact I1 4 88 _ i A7.nil bU Z Z Z Z Z
 refine k_ ?_
 refine zio 3 0 93 96 (!is) (fun f=>?_) ?_
 ·have t:=bV f
  refine bP 3 96 Z (A1 ?_)
  exact I1 2 93 _ f A7.nil bU Z Z Z Z Z
 refine ie ?_
 refine zjb Z hR ?_ ?_<;>intro hR h
 ·have g:=bV h
  refine k_ ?_
  subst hR
  exact q8
 refine k_ ?_
 subst hR
 exact q8
def A2n (cp:Int):Bool :=
 (((decide ((0:Int)≤cp))&&(decide (cp≤1114111)))&&((decide (cp<55296))||(decide ((57343:Int)<cp))))
theorem C6h {R:Bool} (hR:A2n cp=R):J7 prog 131 [iv cp] [] (bv R):=by
 refine cD Tryz.func131 fun X hX hr hD=>?_
 rw[A2n]at hR
 refine bS Z (pp0 1 Z (ie (bS Z (bP 3 5 Z (zid 3 9 5 8 (decide (cp≤1114111)) (fun d b=>?_) ?_)))))
 ·exact bP 3 8 Z (A1 (I1 2 5 8 d A7.nil bU Z Z Z Z Z))
 refine bP 1 9 Z (zia 7 1 9 16 ((decide (cp<55296))||(decide (57343<cp))) (fun a=>?_) ?_)
 ·have e:=bV a
  refine bP 3 12 Z (zir 3 1 12 15 (decide (57343<cp)) (fun f c=>?_) ?_)
  ·exact bP 3 15 Z (A1 (I1 2 12 _ f A7.nil bU Z Z Z Z Z))
  refine k_ ?_
  exact I1 4 9 _ a A7.nil bU Z Z Z Z Z
 refine bP 1 2 Z ?_
 subst hR
 refine k_ ?_
 exact F7 hr hD
def B4m:List Ar2 :=
 ([(⟨768,879⟩:Ar2),(⟨1155,1161⟩:Ar2),(⟨1425,1469⟩:Ar2),(⟨1552,1562⟩:Ar2),(⟨1611,1631⟩:Ar2),(⟨6832,6911⟩:Ar2),(⟨7616,7679⟩:Ar2),(⟨8203,8207⟩:Ar2),(⟨8400,8447⟩:Ar2),(⟨65024,65039⟩:Ar2),(⟨65056,65071⟩:Ar2)]:List Ar2)
theorem E3z {R:List Ar2} (hR:B4m=R):cM prog 133 [] [] [] ({t:kQ×Nat // R.length≤t.2∧R.length≤9223372036854775807}) (fun x=>.slice x.1.1 R.length x.1.2) (fun x=>[]) (fun x=>[sl A3a x.1.1 R]):=by
 refine cD Tryz.func133 fun X hX hr hD=>?_
 rw[B4m]at hR
 refine k_ ?_
 refine ie (k_ ?_)
 refine bY 11 2 [] [(1,ag (A3a ⟨768,879⟩)),(2,ag (A3a ⟨1155,1161⟩)),(3,ag (A3a ⟨1425,1469⟩)),(4,ag (A3a ⟨1552,1562⟩)),(5,ag (A3a ⟨1611,1631⟩)),(6,ag (A3a ⟨6832,6911⟩)),(7,ag (A3a ⟨7616,7679⟩)),(8,ag (A3a ⟨8203,8207⟩)),(9,ag (A3a ⟨8400,8447⟩)),(10,ag (A3a ⟨65024,65039⟩)),(11,ag (A3a ⟨65056,65071⟩))] ?_
 refine it Z (B0 (c:=A3a) (xs:=[(⟨768,879⟩:Ar2),(⟨1155,1161⟩:Ar2),(⟨1425,1469⟩:Ar2),(⟨1552,1562⟩:Ar2),(⟨1611,1631⟩:Ar2),(⟨6832,6911⟩:Ar2),(⟨7616,7679⟩:Ar2),(⟨8203,8207⟩:Ar2),(⟨8400,8447⟩:Ar2),(⟨65024,65039⟩:Ar2),(⟨65056,65071⟩:Ar2)]) E3a Z Z Z oki) fun a=>?_
 have:([(⟨768,879⟩:Ar2),(⟨1155,1161⟩:Ar2),(⟨1425,1469⟩:Ar2),(⟨1552,1562⟩:Ar2),(⟨1611,1631⟩:Ar2),(⟨6832,6911⟩:Ar2),(⟨7616,7679⟩:Ar2),(⟨8203,8207⟩:Ar2),(⟨8400,8447⟩:Ar2),(⟨65024,65039⟩:Ar2),(⟨65056,65071⟩:Ar2)]:List Ar2).length=11:=rfl
 refine bP 1 0 Z ?_
 subst hR
 refine k_ ?_
 exact ci (zq _ 11)
def A9v (cp:Int):List Ar2→Nat→Bool
 | [],i=>false
 | hd_l0::tl_l0,i=>(bif ((decide (hd_l0.a≤cp))&&(decide (cp≤hd_l0.b))) then true else A9v cp tl_l0 (i+1))
def A8g (l:List Ar2) (cp:Int):Bool :=
 A9v cp l 0
theorem D4p {l:List Ar2} {R:Bool} (hR:A8g l cp=R) (g:l.length≤9223372036854775807:=by exact bW) (k:l.length≤lk:=by exact bW):J7 prog 132 [.slice lq l.length lk,iv cp] [sl A3a lq l] (bv R):=by
 refine cD Tryz.func132 fun X hX hr hD=>?_
 rw[A8g]at hR
 refine k_ ?_
 refine ie ?_
 refine k_ ?_
 refine ie (A9 ?_)
 refine A1y (fun i=>(i≤l.length∧A9v _ (l.drop i) i=R,[(0,_),(1,_),(5,iv i)],_,_,l.length - i)) 0 ⟨opx,hR⟩ bU A7.refl ?_
 rintro i ⟨n,hR⟩
 refine A3 (bS Z (bP 4 9 Z (ie (G3 Z (fun f=>?_) (fun f=>?_)))))
 ·have e:=bV f
  rw [A1a Ar2.zero (show i<l.length by omega)] at hR;rw[A9v]at hR
  refine k_ ?_
  refine H8 0 Z opx fun p d=>(ix Z (E7 E3a Z Z d Z i) (ix Z (B0b Tryz.underlying69 cE Z Z Z 0 Z ozw) (ix Z (B6 cE Z Z (U8 (F8 (sz:=2) d jJ 0 Z (gd _ opx)) (ws:=[iv ((l.getD i Ar2.zero).a)]) 0 1 Z) Z) ?_)))
  refine k_ ?_
  refine zid 8 0 19 27 (decide (cp≤(l.getD i Ar2.zero).b)) (fun j m=>?_) ?_
  ·refine k_ ?_
   refine ix Z (E7 E3a Z Z d Z i) (ix Z (B0b Tryz.underlying69 cE Z Z Z 1 Z ozw) (ix Z (B6 cE Z Z (U8 (F8 (sz:=2) d jJ 0 Z (gd _ opx)) (ws:=[iv ((l.getD i Ar2.zero).b)]) 1 1 Z) Z) (bP 2 27 Z ?_)))
   exact zai 8 19 _ j
  refine ie ?_
  refine zja Z hR ?_ ?_<;>intro hR o h
  ·refine k_ ?_
   subst hR
   exact q8
  refine k_ ?_
  refine ix Z B1 ?_
  refine k_ ?_
  refine A1 ?_
  exact z0 _ ⟨opx,hR⟩
 have e:=bV f
 rw [A1b e] at hR;rw[A9v]at hR
 refine k_ ?_
 subst hR
 exact q8
def B4j:List Ar2 :=
 ([(⟨4352,4447⟩:Ar2),(⟨11904,12350⟩:Ar2),(⟨12353,13311⟩:Ar2),(⟨13312,19903⟩:Ar2),(⟨19968,40959⟩:Ar2),(⟨40960,42191⟩:Ar2),(⟨44032,55203⟩:Ar2),(⟨63744,64255⟩:Ar2),(⟨65072,65135⟩:Ar2),(⟨65280,65376⟩:Ar2),(⟨65504,65510⟩:Ar2),(⟨127744,128591⟩:Ar2),(⟨128640,128767⟩:Ar2),(⟨129280,129535⟩:Ar2),(⟨131072,262141⟩:Ar2)]:List Ar2)
theorem E7h {R:List Ar2} (hR:B4j=R):cM prog 134 [] [] [] ({t:kQ×Nat // R.length≤t.2∧R.length≤9223372036854775807}) (fun x=>.slice x.1.1 R.length x.1.2) (fun x=>[]) (fun x=>[sl A3a x.1.1 R]):=by
 refine cD Tryz.func134 fun X hX hr hD=>?_
 rw[B4j]at hR
 refine k_ ?_
 refine ie (k_ ?_)
 refine bY 15 2 [] [(1,ag (A3a ⟨4352,4447⟩)),(2,ag (A3a ⟨11904,12350⟩)),(3,ag (A3a ⟨12353,13311⟩)),(4,ag (A3a ⟨13312,19903⟩)),(5,ag (A3a ⟨19968,40959⟩)),(6,ag (A3a ⟨40960,42191⟩)),(7,ag (A3a ⟨44032,55203⟩)),(8,ag (A3a ⟨63744,64255⟩)),(9,ag (A3a ⟨65072,65135⟩)),(10,ag (A3a ⟨65280,65376⟩)),(11,ag (A3a ⟨65504,65510⟩)),(12,ag (A3a ⟨127744,128591⟩)),(13,ag (A3a ⟨128640,128767⟩)),(14,ag (A3a ⟨129280,129535⟩)),(15,ag (A3a ⟨131072,262141⟩))] ?_
 refine it Z (B0 (c:=A3a) (xs:=[(⟨4352,4447⟩:Ar2),(⟨11904,12350⟩:Ar2),(⟨12353,13311⟩:Ar2),(⟨13312,19903⟩:Ar2),(⟨19968,40959⟩:Ar2),(⟨40960,42191⟩:Ar2),(⟨44032,55203⟩:Ar2),(⟨63744,64255⟩:Ar2),(⟨65072,65135⟩:Ar2),(⟨65280,65376⟩:Ar2),(⟨65504,65510⟩:Ar2),(⟨127744,128591⟩:Ar2),(⟨128640,128767⟩:Ar2),(⟨129280,129535⟩:Ar2),(⟨131072,262141⟩:Ar2)]) E3a Z Z Z oki) fun a=>?_
 have:([(⟨4352,4447⟩:Ar2),(⟨11904,12350⟩:Ar2),(⟨12353,13311⟩:Ar2),(⟨13312,19903⟩:Ar2),(⟨19968,40959⟩:Ar2),(⟨40960,42191⟩:Ar2),(⟨44032,55203⟩:Ar2),(⟨63744,64255⟩:Ar2),(⟨65072,65135⟩:Ar2),(⟨65280,65376⟩:Ar2),(⟨65504,65510⟩:Ar2),(⟨127744,128591⟩:Ar2),(⟨128640,128767⟩:Ar2),(⟨129280,129535⟩:Ar2),(⟨131072,262141⟩:Ar2)]:List Ar2).length=15:=rfl
 refine bP 1 0 Z ?_
 subst hR
 refine k_ ?_
 exact ci (zq _ 15)
def P7 (cp:Int):Int :=
 (bif (((!(A2n cp))||(decide (cp<32)))||((decide ((127:Int)≤cp))&&(decide (cp<160)))) then (-1) else (B5 B4m fun (a:List Ar2)=>(bif (A8g a cp) then 0 else (B5 B4j fun (b:List Ar2)=>(bif (A8g b cp) then 2 else 1)))))
theorem C2c {R:Int} (hR:P7 cp=R):J7 prog 93 [iv cp] [] (iv R):=by
 refine cD Tryz.func93 fun X hX hr hD=>?_
 rw[P7]at hR
 refine k_ ?_
 refine ie ?_
 refine k_ ?_
 refine zv Z (C6h Z) ?_
 refine k_ ?_
 refine zio 3 8 6 9 (decide (cp<32)) (fun m=>?_) ?_
 ·refine bP 3 9 Z (A1 ?_)
  exact I1 2 6 9 m A7.nil bU Z Z Z Z Z
 refine k_ ?_
 refine zio 7 0 10 17 ((decide (127≤cp))&&(decide (cp<160))) (fun i=>?_) ?_
 ·have n:=bV i
  refine bP 3 13 Z ?_
  refine zid 3 1 13 16 (decide (cp<160)) (fun v s=>?_) ?_
  ·refine bP 3 16 Z (A1 ?_)
   exact I1 2 13 _ v A7.nil bU Z Z Z Z Z
  refine k_ ?_
  exact I1 4 10 _ i A7.nil bU Z Z Z Z Z
 refine ie ?_
 refine zjb Z hR ?_ ?_<;>intro hR k
 ·have h:=bV k
  refine k_ ?_
  subst hR
  exact q8
 refine k_ ?_
 obtain ⟨c,a,hR⟩:=C3 hR
 refine zc Z (E3z a) fun ⟨⟨w,k6⟩,f⟩=>?_
 obtain ⟨q,p⟩:=f
 refine k_ ?_
 refine zv Z (D4p Z) ?_
 refine ie ?_
 refine zjb Z hR ?_ ?_<;>intro hR t
 ·refine k_ ?_
  subst hR
  exact q8
 refine k_ ?_
 obtain ⟨d,b,hR⟩:=C3 hR
 refine zc Z (E7h b) fun ⟨⟨o,r⟩,e⟩=>?_
 obtain ⟨j,l⟩:=e
 refine k_ ?_
 refine zv Z (D4p Z) ?_
 refine ie ?_
 refine zjb Z hR ?_ ?_<;>intro hR u
 ·refine k_ ?_
  subst hR
  exact q8
 refine k_ ?_
 subst hR
 exact q8
def k6 (a:Act):Prop:=(a.kind=1∨a.kind=3∨a.kind=5∨a.kind=6∨a.kind=19∨a.kind=20∨a.kind=22∨a.kind=30∨a.kind=34∨a.kind=39)∧a.text.length≤100000000∧(a.kind=1∨a.kind=39∨((0≤a.n∧a.n≤1000)∧(0≤a.m∧a.m≤1000)∧(a.kind=20→a.n≤3)))
theorem C9q (h:∀ a ∈ l,k6 a) {i:Nat} (b:i<l.length):k6 (l.getD i ZZ):=by grind
theorem C6w {L:List jz} (h:∀ e ∈ L,∀ a ∈ e,k6 a) (i:Nat):∀ a ∈ L.getD i [],k6 a:=by grind
def A8d (n:Int) (from_:Int) (to_:Int):Bool :=
 ((decide (from_≤n))&&(decide (n≤to_)))
theorem D7r {from_ to_:Int} {R:Bool} (hR:A8d n from_ to_=R):J7 prog 94 [iv n,iv from_,iv to_] [] (bv R):=by
 refine cD Tryz.func94 fun X hX hr hD=>?_
 rw[A8d]at hR
 refine bS Z (pp0 1 Z (ie (bS Z (bP 4 10 Z (zid 4 1 10 14 (decide (n≤to_)) (fun b a=>?_) ?_)))))
 ·exact bP 4 14 Z (A1 (I1 2 10 _ b A7.nil bU Z Z Z Z Z))
 refine bP 1 6 Z ?_
 subst hR
 refine k_ ?_
 exact F7 hr hD
def N8 (n:Int):Bool :=
 (A8d n 1 9999)
theorem A8q {R:Bool} (hR:N8 n=R):J7 prog 95 [iv n] [] (bv R):=by
 refine cD Tryz.func95 fun X hX hr hD=>?_
 rw[N8]at hR
 refine k_ ?_
 refine ie (k_ ?_)
 refine zv Z (D7r Z) ?_
 refine k_ ?_
 subst hR
 exact q8
def B4u (a:Act):Bool :=
 (bif (decide (a.kind=1)) then ((decide ((0:Int)≤(P7 a.n)))&&(decide (a.m=0))) else (bif (decide (a.kind=3)) then ((decide (a.n=0))&&(decide (a.m=0))) else (bif (decide (a.kind=5)) then ((decide (a.n=0))&&(decide (a.m=0))) else (bif (decide (a.kind=6)) then ((decide (a.n=0))&&(decide (a.m=0))) else (bif (decide (a.kind=19)) then ((N8 a.n)&&(N8 a.m)) else (bif (decide (a.kind=20)) then ((A8d a.n 0 3)&&(N8 a.m)) else (bif (decide (a.kind=22)) then ((N8 a.n)&&(decide (a.m=0))) else (bif (decide (a.kind=30)) then ((N8 a.n)&&(decide (a.m=0))) else ((N8 a.n)&&(decide (a.m=0)))))))))))
theorem D3r {R:Bool} (hR:B4u a=R) (ha:(a.kind=1∨a.kind=3∨a.kind=5∨a.kind=6∨a.kind=19∨a.kind=20∨a.kind=22∨a.kind=30∨a.kind=34)∧a.text.length≤100000000∧(a.kind=1∨((0≤a.n∧a.n≤1000)∧(0≤a.m∧a.m≤1000)∧(a.kind=20→a.n≤3))):=by exact bW):J7 prog 58 [ag (A2 a)] [] (bv R):=by
 refine cD Tryz.func58 fun X hX hr hD=>?_
 rw[B4u]at hR
 refine k_ ?_
 refine cI 2 [] (fun b1=>[(1,pt b1 0)]) (fun _=>(A2 a)) 51 fun b1=>?_
 refine ie (A3 (bS Z (cB 2 [0] 4 Z (ie (A9 (bS Z (bP 2 5 Z (ie (G3 Z (fun h2=>?_) (fun h2=>?_))))))))))
 ·have bn:=bV h2
  replace hR:=bt hR h2
  refine k_ ?_
  refine zv Z (C2c Z) ?_
  refine k_ ?_
  refine zid 4 1 11 15 (decide (a.m=0)) (fun g3 c2=>?_) ?_
  ·exact cB 4 [0] 15 Z (A1 (I1 2 11 _ g3 A7.nil bU Z Z Z Z Z))
  refine bP 1 2 Z ?_
  subst hR
  refine k_ ?_
  exact F7 hr hD
 have bn:=bV h2
 replace hR:=bf hR h2
 refine A3 (bS Z (bP 2 16 Z (ie (G3 Z (fun h4=>?_) (fun h4=>?_)))))
 ·have bj:=bV h4
  exfalso;omega
 have bj:=bV h4
 refine bS Z (bP 2 16 Z (ie (G3 Z (fun h5=>?_) (fun h5=>?_))))
 ·have bp:=bV h5
  replace hR:=bt hR h5
  refine A4 (nx (G3 Z (fun h6=>?_) (fun h6=>?_)))
  ·have bc:=bV h6
   refine k_ ?_
   refine zid 4 1 33 37 (decide (a.m=0)) (fun g7 c4=>?_) ?_
   ·exact cB 4 [0] 37 Z (A1 (I1 2 33 _ g7 A7.nil bU Z Z Z Z Z))
   refine bP 1 2 Z ?_
   subst hR
   refine k_ ?_
   exact F7 hr hD
  have bc:=bV h6
  exfalso;omega
 have bp:=bV h5
 replace hR:=bf hR h5
 refine bS Z (bP 2 16 Z (ie (G3 Z (fun h8=>?_) (fun h8=>?_))))
 ·have bo:=bV h8
  exfalso;omega
 have bo:=bV h8
 refine bS Z (bP 2 16 Z (ie (G3 Z (fun h9=>?_) (fun h9=>?_))))
 ·have bw:=bV h9
  replace hR:=bt hR h9
  refine A4 (nx (G3 Z (fun a1=>?_) (fun a1=>?_)))
  ·have ah:=bV a1
   refine k_ ?_
   refine zid 4 1 33 37 (decide (a.m=0)) (fun be bz=>?_) ?_
   ·exact cB 4 [0] 37 Z (A1 (I1 2 33 _ be A7.nil bU Z Z Z Z Z))
   refine bP 1 2 Z ?_
   subst hR
   refine k_ ?_
   exact F7 hr hD
  have ah:=bV a1
  exfalso;omega
 have bw:=bV h9
 replace hR:=bf hR h9
 refine bS Z (bP 2 16 Z (ie (G3 Z (fun b=>?_) (fun b=>?_))))
 ·have b4:=bV b
  replace hR:=bt hR b
  refine A4 (nx (G3 Z (fun g=>?_) (fun g=>?_)))
  ·have al:=bV g
   refine k_ ?_
   refine zid 4 1 33 37 (decide (a.m=0)) (fun bm c1=>?_) ?_
   ·exact cB 4 [0] 37 Z (A1 (I1 2 33 _ bm A7.nil bU Z Z Z Z Z))
   refine bP 1 2 Z ?_
   subst hR
   refine k_ ?_
   exact F7 hr hD
  have al:=bV g
  exfalso;omega
 have b4:=bV b
 replace hR:=bf hR b
 refine bS Z (bP 2 16 Z (ie (G3 Z (fun j=>?_) (fun j=>?_))))
 ·have ap:=bV j
  exfalso;omega
 have ap:=bV j
 refine bS Z (bP 2 16 Z (ie (G3 Z (fun o=>?_) (fun o=>?_))))
 ·have a9:=bV o
  exfalso;omega
 have a9:=bV o
 refine bS Z (bP 2 16 Z (ie (G3 Z (fun i=>?_) (fun i=>?_))))
 ·have ai:=bV i
  exfalso;omega
 have ai:=bV i
 refine bS Z (bP 2 16 Z (ie (G3 Z (fun t=>?_) (fun t=>?_))))
 ·have b5:=bV t
  exfalso;omega
 have b5:=bV t
 refine bS Z (bP 2 16 Z (ie (G3 Z (fun h=>?_) (fun h=>?_))))
 ·have ao:=bV h
  exfalso;omega
 have ao:=bV h
 refine bS Z (bP 2 16 Z (ie (G3 Z (fun a2=>?_) (fun a2=>?_))))
 ·have b2:=bV a2
  exfalso;omega
 have b2:=bV a2
 refine bS Z (bP 2 16 Z (ie (G3 Z (fun q=>?_) (fun q=>?_))))
 ·have az:=bV q
  exfalso;omega
 have az:=bV q
 refine A0 2 Z (bP 2 16 Z (A1 (nx (G3 Z (fun w=>?_) (fun w=>?_)))))
 ·have au:=bV w
  exfalso;omega
 have au:=bV w
 refine A3 (bS Z (bP 2 38 Z (ie (G3 Z (fun v=>?_) (fun v=>?_)))))
 ·have ba:=bV v
  exfalso;omega
 have ba:=bV v
 refine bS Z (bP 2 38 Z (ie (G3 Z (fun a3=>?_) (fun a3=>?_))))
 ·have b7:=bV a3
  exfalso;omega
 have b7:=bV a3
 refine A0 2 Z (bP 2 38 Z (A1 (nx (G3 Z (fun z=>?_) (fun z=>?_)))))
 ·have b9:=bV z
  exfalso;omega
 have b9:=bV z
 refine bS Z (bP 2 50 Z (ie (G3 Z (fun a7=>?_) (fun a7=>?_))))
 ·have bb:=bV a7
  exfalso;omega
 have bb:=bV a7
 refine bS Z (bP 2 60 Z (ie (G3 Z (fun k=>?_) (fun k=>?_))))
 ·have b8:=bV k
  exfalso;omega
 have b8:=bV k
 refine bS Z (bP 2 70 Z (ie (G3 Z (fun c=>?_) (fun c=>?_))))
 ·have b0:=bV c
  replace hR:=bt hR c
  refine k_ ?_
  refine zv Z (A8q Z) ?_
  refine k_ ?_
  refine zia 4 1 75 79 (N8 a.m) (fun bd=>?_) ?_
  ·refine cB 2 [0] 77 Z (zv Z (A8q Z) ?_)
   refine k_ ?_
   exact I1 4 75 _ bd A7.nil bU Z Z Z Z Z
  refine bP 1 2 Z ?_
  subst hR
  refine k_ ?_
  exact F7 hr hD
 have b0:=bV c
 replace hR:=bf hR c
 refine bS Z (bP 2 80 Z (ie (G3 Z (fun e=>?_) (fun e=>?_))))
 ·have af:=bV e
  replace hR:=bt hR e
  refine k_ ?_
  refine zv Z (D7r Z) ?_
  refine k_ ?_
  refine zia 4 1 85 89 (N8 a.m) (fun br=>?_) ?_
  ·refine cB 2 [0] 87 Z (zv Z (A8q Z) ?_)
   refine k_ ?_
   exact I1 4 85 _ br A7.nil bU Z Z Z Z Z
  refine bP 1 2 Z ?_
  subst hR
  refine k_ ?_
  exact F7 hr hD
 have af:=bV e
 replace hR:=bf hR e
 refine A3 (bS Z (bP 2 90 Z (ie (G3 Z (fun l=>?_) (fun l=>?_)))))
 ·have b3:=bV l
  exfalso;omega
 have b3:=bV l
 refine A0 2 Z (bP 2 90 Z (A1 (nx (G3 Z (fun p=>?_) (fun p=>?_)))))
 ·have ax:=bV p
  exfalso;omega
 have ax:=bV p
 refine A3 (bS Z (bP 2 101 Z (ie (G3 Z (fun d=>?_) (fun d=>?_)))))
 ·have am:=bV d
  replace hR:=bt hR d
  refine A4 (nx (G3 Z (fun x=>?_) (fun x=>?_)))
  ·have ad:=bV x
   refine k_ ?_
   refine zv Z (A8q Z) ?_
   refine k_ ?_
   refine zia 4 1 115 119 (decide (a.m=0)) (fun bg=>?_) ?_
   ·exact cB 4 [0] 119 Z (A1 (I1 2 115 _ bg A7.nil bU Z Z Z Z Z))
   refine bP 1 2 Z ?_
   subst hR
   refine k_ ?_
   exact F7 hr hD
  have ad:=bV x
  exfalso;omega
 have am:=bV d
 replace hR:=bf hR d
 refine bS Z (bP 2 101 Z (ie (G3 Z (fun a8=>?_) (fun a8=>?_))))
 ·have aq:=bV a8
  exfalso;omega
 have aq:=bV a8
 refine bS Z (bP 2 101 Z (ie (G3 Z (fun u=>?_) (fun u=>?_))))
 ·have an:=bV u
  exfalso;omega
 have an:=bV u
 refine bS Z (bP 2 101 Z (ie (G3 Z (fun a5=>?_) (fun a5=>?_))))
 ·have ar:=bV a5
  exfalso;omega
 have ar:=bV a5
 refine bS Z (bP 2 101 Z (ie (G3 Z (fun a0=>?_) (fun a0=>?_))))
 ·have ac:=bV a0
  exfalso;omega
 have ac:=bV a0
 refine bS Z (bP 2 101 Z (ie (G3 Z (fun a6=>?_) (fun a6=>?_))))
 ·have ak:=bV a6
  exfalso;omega
 have ak:=bV a6
 refine bS Z (bP 2 101 Z (ie (G3 Z (fun f=>?_) (fun f=>?_))))
 ·have ab:=bV f
  replace hR:=bt hR f
  refine A4 (nx (G3 Z (fun r=>?_) (fun r=>?_)))
  ·have ae:=bV r
   refine k_ ?_
   refine zv Z (A8q Z) ?_
   refine k_ ?_
   refine zia 4 1 115 119 (decide (a.m=0)) (fun bl=>?_) ?_
   ·exact cB 4 [0] 119 Z (A1 (I1 2 115 _ bl A7.nil bU Z Z Z Z Z))
   refine bP 1 2 Z ?_
   subst hR
   refine k_ ?_
   exact F7 hr hD
  have ae:=bV r
  exfalso;omega
 have ab:=bV f
 replace hR:=bf hR f
 refine bS Z (bP 2 101 Z (ie (G3 Z (fun y=>?_) (fun y=>?_))))
 ·have ay:=bV y
  exfalso;omega
 have ay:=bV y
 refine bS Z (bP 2 101 Z (ie (G3 Z (fun a4=>?_) (fun a4=>?_))))
 ·have aj:=bV a4
  exfalso;omega
 have aj:=bV a4
 refine A0 2 Z (bP 2 101 Z (A1 (nx (G3 Z (fun s=>?_) (fun s=>?_)))))
 ·have av:=bV s
  refine k_ ?_
  refine zv Z (A8q Z) ?_
  refine k_ ?_
  refine zia 4 1 115 119 (decide (a.m=0)) (fun bi=>?_) ?_
  ·exact cB 4 [0] 119 Z (A1 (I1 2 115 _ bi A7.nil bU Z Z Z Z Z))
  refine bP 1 2 Z ?_
  subst hR
  refine k_ ?_
  exact F7 hr hD
 have av:=bV s
 exfalso;omega
def A4n (a:Act):Bool :=
 (bif (decide (a.kind=39)) then (decide ((A1v a)=0)) else (((B4u a)&&(decide (a.color=ZU)))&&(decide (a.text=([]:List UInt8)))))
theorem D8s {R:Bool} (hR:A4n a=R) (q:(a.kind=1∨a.kind=3∨a.kind=5∨a.kind=6∨a.kind=19∨a.kind=20∨a.kind=22∨a.kind=30∨a.kind=34∨a.kind=39)∧a.text.length≤100000000∧(a.kind=1∨a.kind=39∨((0≤a.n∧a.n≤1000)∧(0≤a.m∧a.m≤1000)∧(a.kind=20→a.n≤3))):=by exact bW):J7 prog 31 [ag (A2 a)] [] (bv R):=by
 refine cD Tryz.func31 fun X hX hr hD=>?_
 rw[A4n]at hR
 refine k_ ?_
 refine cI 2 [] (fun k=>[(1,pt k 0)]) (fun _=>(A2 a)) 51 fun k=>?_
 refine ie (A3 (bS Z (cB 2 [0] 6 Z (ie (A9 (bS Z (bP 2 7 Z (ie (G3 Z (fun c=>?_) (fun c=>?_))))))))))
 ·have e:=bV c
  replace hR:=bt hR c
  refine k_ ?_
  refine bY 1 3 [0] [(9,ag (A2 a))] ?_
  refine zv Z (C0u Z) ?_
  refine bP 2 2 Z ?_
  subst hR
  refine k_ ?_
  exact F7 hr hD
 have e:=bV c
 replace hR:=bf hR c
 refine A3 (bS Z (bP 2 12 Z (ie (G3 Z (fun d=>?_) (fun d=>?_)))))
 ·have h:=bV d
  exfalso;omega
 have h:=bV d
 refine bS Z (bP 2 12 Z (ie (G3 Z (fun g=>?_) (fun g=>?_))))
 ·have i:=bV g
  exfalso;omega
 have i:=bV g
 refine A0 2 Z (bP 2 12 Z (A1 (nx (G3 Z (fun j=>?_) (fun j=>?_)))))
 ·have f:=bV j
  exfalso;omega
 have f:=bV j
 refine k_ ?_
 refine bY 1 13 [0] [(23,ag (A2 a))] ?_
 refine zv Z (D3r Z) ?_
 refine k_ ?_
 refine zia 5 6 25 30 (decide (a.color=ZU)) (fun o=>?_) ?_
 ·refine bY 3 2 [0] [(27,ag (R1 a.color)),(28,ag (R1 ZU))] ?_
  refine ix Z (A3m B5g Z Z Z) (k_ ?_)
  exact I1 5 25 _ o A7.nil bU Z Z Z Z Z
 refine k_ ?_
 refine zia 4 1 31 35 (decide (a.text=[])) (fun l=>?_) ?_
 ·have p:=bV l
  exact cB 2 [0] 33 Z (ix Z (D4r Z Z Z) (bP 1 35 Z (A1 (I1 4 31 _ l A7.nil bU Z Z Z Z Z))))
 refine bP 1 2 Z ?_
 subst hR
 refine k_ ?_
 exact F7 hr hD
def C3s:List Ar3 :=
 ([(⟨1,1,22⟩:Ar3),(⟨2,2,22⟩:Ar3),(⟨3,4,23⟩:Ar3),(⟨5,8,25⟩:Ar3),(⟨7,16,27⟩:Ar3),(⟨8,32,28⟩:Ar3),(⟨9,64,29⟩:Ar3),(⟨53,128,55⟩:Ar3)]:List Ar3)
theorem D8t {R:List Ar3} (hR:C3s=R):cM prog 239 [] [] [] ({t:kQ×Nat // R.length≤t.2∧R.length≤9223372036854775807}) (fun x=>.slice x.1.1 R.length x.1.2) (fun x=>[]) (fun x=>[sl B5d x.1.1 R]):=by
 refine cD Tryz.func239 fun X hX hr hD=>?_
 rw[C3s]at hR
 refine k_ ?_
 refine ie (k_ ?_)
 refine bY 8 2 [] [(1,ag (B5d ⟨1,1,22⟩)),(2,ag (B5d ⟨2,2,22⟩)),(3,ag (B5d ⟨3,4,23⟩)),(4,ag (B5d ⟨5,8,25⟩)),(5,ag (B5d ⟨7,16,27⟩)),(6,ag (B5d ⟨8,32,28⟩)),(7,ag (B5d ⟨9,64,29⟩)),(8,ag (B5d ⟨53,128,55⟩))] ?_
 refine it Z (B0 (c:=B5d) (xs:=[(⟨1,1,22⟩:Ar3),(⟨2,2,22⟩:Ar3),(⟨3,4,23⟩:Ar3),(⟨5,8,25⟩:Ar3),(⟨7,16,27⟩:Ar3),(⟨8,32,28⟩:Ar3),(⟨9,64,29⟩:Ar3),(⟨53,128,55⟩:Ar3)]) D6q Z Z Z oki) fun a=>?_
 have:([(⟨1,1,22⟩:Ar3),(⟨2,2,22⟩:Ar3),(⟨3,4,23⟩:Ar3),(⟨5,8,25⟩:Ar3),(⟨7,16,27⟩:Ar3),(⟨8,32,28⟩:Ar3),(⟨9,64,29⟩:Ar3),(⟨53,128,55⟩:Ar3)]:List Ar3).length=8:=rfl
 refine bP 1 0 Z ?_
 subst hR
 refine k_ ?_
 exact ci (zq _ 8)
def A9k (a:Act):List Ar3→Nat→List Int
 | [],i=>(bif (decide (a.n=0)) then ([0]:List Int) else (bif ((decide (a.n=3))&&(decide (a.m=1))) then ([4]:List Int) else (bif ((decide (a.n=3))&&(decide (a.m=0))) then ([24]:List Int) else (bif (decide (a.n=3)) then ([4,a.m]:List Int) else (bif (decide (a.color.kind=0)) then ([(i64.wrap ((i64.wrap ((38:Int)+(i64.wrap ((10:Int) * (i64.wrap (a.n - (4:Int)))))))+(1:Int)))]:List Int) else (bif (decide (a.color.kind=2)) then ([(i64.wrap ((38:Int)+(i64.wrap ((10:Int) * (i64.wrap (a.n - (4:Int))))))),2,(-1),(i64.wrap (Int.tdiv a.color.n 65536)),(Int.tmod (i64.wrap (Int.tdiv a.color.n 256)) 256),(Int.tmod a.color.n 256)]:List Int) else (bif ((!decide (a.n=6))&&(decide (a.color.n<8))) then ([(i64.wrap ((i64.wrap ((i64.wrap ((38:Int)+(i64.wrap ((10:Int) * (i64.wrap (a.n - (4:Int))))))) - (8:Int)))+a.color.n))]:List Int) else (bif ((!decide (a.n=6))&&(decide (a.color.n<16))) then ([(i64.wrap ((i64.wrap ((i64.wrap ((38:Int)+(i64.wrap ((10:Int) * (i64.wrap (a.n - (4:Int)))))))+(44:Int)))+a.color.n))]:List Int) else ([(i64.wrap ((38:Int)+(i64.wrap ((10:Int) * (i64.wrap (a.n - (4:Int))))))),5,a.color.n]:List Int)))))))))
 | hd_l0::tl_l0,i=>(bif ((decide (a.n=1))&&(decide (a.m=hd_l0.b))) then ([hd_l0.a]:List Int) else (bif ((decide (a.n=2))&&((decide (a.m=hd_l0.b))||((decide (a.m=3))&&(decide ((i:Int)=0))))) then ([hd_l0.c]:List Int) else A9k a tl_l0 (i+1)))
def A6i (a:Act):List Int :=
 (B5 C3s fun (b:List Ar3)=>A9k a b 0)
theorem D8o {R:List Int} (hR:A6i a=R):cM prog 207 [ag (A2 a)] [] [] ({t:kQ×Nat // R.length≤t.2∧R.length≤9223372036854775807}) (fun x=>ag [.slice x.1.1 R.length x.1.2]) (fun x=>[]) (fun x=>[sl H0 x.1.1 R]):=by
 refine cD Tryz.func207 fun X hX hr hD=>?_
 rw[A6i]at hR
 refine k_ ?_
 refine B3r 2 [] (fun b1 f=>[(1,pt b1 0),(2,pt f 0)]) (fun _ _=>(A2 a)) (fun _ _=>[.slice none 0 0]) 51 289 fun b1 f=>?_
 refine ie ?_
 refine k_ ?_
 obtain ⟨d,e,hR⟩:=C3 hR
 refine zc Z (D8t e) fun ⟨⟨q3,k4⟩,af⟩=>?_
 obtain ⟨bj,b9⟩:=af
 refine k_ ?_
 refine ie ?_
 refine k_ ?_
 refine ie (A9 ?_)
 refine A1y (fun i=>(i≤d.length∧A9k a (d.drop i) i=R,[(1,pt _ 0),(2,pt f 0),(3,.slice q3 _ k4),(4,iv i)],[_,_],[sl _ q3 d],d.length - i)) 0 ⟨opx,hR⟩ bU A7.refl ?_
 rintro i ⟨bk,hR⟩
 refine A3 (bS Z (bP 4 11 Z (ie (G3 Z (fun h9=>?_) (fun h9=>?_)))))
 ·have a9:=bV h9
  rw [A1a Ar3.zero (show i<d.length by omega)] at hR;rw[A9k]at hR
  refine A4 (nx (A3 (A9 (A3 (sd 13 Z oki Z ?_)))))
  refine pg1 4 [1] 17 Z ?_
  refine zdd 9 0 17 26 (decide (a.m=(d.getD i Ar3.zero).b)) (fun aj ay=>?_) ?_
  ·refine pg3 4 [1] 19 20 21 Z ?_
   refine B2k 0 Z opx fun bg h=>(dd Z (E7 D6q Z Z h Z i) (dd Z (B0b Tryz.underlying229 cE Z Z Z 1 Z ozw) (dd Z (B6 cE Z Z (U8 (F8 (sz:=3) h jJ 0 Z (gd _ opx)) (ws:=[iv ((d.getD i Ar3.zero).b)]) 1 1 Z) Z) (pd1 2 26 Z ?_))))
   exact zad 8 17 _ aj
  refine de ?_
  refine zja Z hR ?_ ?_<;>intro hR b5 ap
  ·refine k_ ?_
   refine H8 0 Z opx fun b6 j=>(ix Z (E7 D6q Z Z j Z i Z opx) (ix Z (B0b Tryz.underlying229 cE Z Z Z 0 Z ozw) (ix Z (B6 cE Z Z (U8 (F8 (sz:=3) j (fun _=>Z) 0 Z (gd _ opx)) (ws:=[iv ((d.getD i Ar3.zero).a)]) 0 1 Z) Z) (it Z (B0 (c:=H0) (xs:=[(d.getD i Ar3.zero).a]) I0 Z Z Z oki) fun l=>?_))))
   have:([(d.getD i Ar3.zero).a]:List Int).length=1:=rfl
   refine zru 2 [0] [] 0 (bx f [.slice (some ⟨l,0,none⟩) 1 1] 289) ?_
   subst hR
   refine ie (A8 ?_)
   exact cc (I9 Z (E8 A1k Z 0)) (zq _ 1)
  refine A4 (nx (sd 22 Z oki Z ?_))
  refine pg1 4 [1] 37 Z ?_
  refine zdd _ 0 37 55 ((decide (a.m=(d.getD i Ar3.zero).b))||((decide (a.m=3))&&(decide ((i:Int)=0)))) (fun ac aq=>?_) ?_
  ·refine pg3 4 [1] 39 40 41 Z ?_
   refine B2k 0 Z opx fun b4 g=>(dd Z (E7 D6q Z Z g Z i) (dd Z (B0b Tryz.underlying229 cE Z Z Z 1 Z ozw) (dd Z (B6 cE Z Z (U8 (F8 (sz:=3) g jJ 0 Z (gd _ opx)) (ws:=[iv ((d.getD i Ar3.zero).b)]) 1 1 Z) Z) (pd1 2 46 Z ?_))))
   refine zdr 8 1 46 54 ((decide (a.m=3))&&(decide ((i:Int)=0))) (fun ah ak=>?_) ?_
   ·refine pg1 4 [1] 50 Z ?_
    refine zdd 3 1 50 53 (decide ((i:Int)=0)) (fun ad ao=>?_) ?_
    ·refine pd1 3 53 Z ?_
     exact zad 2 50 _ ad
    refine k_ ?_
    exact zad 4 46 _ ah
   refine k_ ?_
   exact zad 10 37 _ ac
  refine de ?_
  refine zjb Z hR ?_ ?_<;>intro hR a3
  ·have a5:=bV a3
   refine k_ ?_
   refine H8 0 Z opx fun bd k=>(ix Z (E7 D6q Z Z k Z i Z opx) (ix Z (B0b Tryz.underlying229 cE Z Z Z 2 Z ozw) (ix Z (B6 cE Z Z (U8 (F8 (sz:=3) k (fun _=>Z) 0 Z (gd _ opx)) (ws:=[iv ((d.getD i Ar3.zero).c)]) 2 1 Z) Z) (it Z (B0 (c:=H0) (xs:=[(d.getD i Ar3.zero).c]) I0 Z Z Z oki) fun z=>?_))))
   have:([(d.getD i Ar3.zero).c]:List Int).length=1:=rfl
   refine zru 2 [0] [] 0 (bx f [.slice (some ⟨z,0,none⟩) 1 1] 289) ?_
   subst hR
   refine ie (A8 ?_)
   exact cc (I9 Z (E8 A1k Z 0)) (zq _ 1)
  refine k_ ?_
  refine ix Z B1 ?_
  refine k_ ?_
  refine A1 ?_
  exact z0 _ ⟨opx,hR⟩
 have a9:=bV h9
 rw [A1b a9] at hR;rw[A9k]at hR
 refine kc_ ?_
 refine cI 4 [1,0] (fun a0=>[(5,pt a0 0)]) (fun _=>(R1 a.color)) 49 fun a0=>?_
 refine ie ?_
 refine k_ ?_
 refine ix Z (J8.pure Z) (ix Z (J8.pure Z) (ix Z (J8.pure Z) ?_))
 refine k_ ?_
 refine ie ?_
 refine k_ ?_
 refine ie ?_
 refine cK Z hR ?_ ?_<;>intro hR b7 b0
 ·refine k_ ?_
  refine it Z (B0 (c:=H0) (xs:=[0]) I0 Z Z Z oki) fun q=>?_
  have:([0]:List Int).length=1:=rfl
  refine zru 2 [1] [] 1 (bx f [.slice (some ⟨q,0,none⟩) 1 1] 289) ?_
  subst hR
  refine ie (A8 ?_)
  exact cc (I9 Z (E8 A1k Z 1)) (zq _ 1)
 refine k_ ?_
 refine zid 4 1 80 84 (decide (a.m=1)) (fun ab aw=>?_) ?_
 ·refine cB 4 [2] 84 Z ?_
  exact zai 2 80 _ ab
 refine k_ ?_
 refine zja Z hR ?_ ?_<;>intro hR be am
 ·refine k_ ?_
  refine it Z (B0 (c:=H0) (xs:=[4]) I0 Z Z Z oki) fun u=>?_
  have:([4]:List Int).length=1:=rfl
  refine zru 2 [1] [] 1 (bx f [.slice (some ⟨u,0,none⟩) 1 1] 289) ?_
  subst hR
  refine ie (A8 ?_)
  exact cc (I9 Z (E8 A1k Z 1)) (zq _ 1)
 refine k_ ?_
 refine zid 4 1 91 95 (decide (a.m=0)) (fun ae ax=>?_) ?_
 ·refine cB 4 [2] 95 Z ?_
  exact zai 2 91 _ ae
 refine k_ ?_
 refine zja Z hR ?_ ?_<;>intro hR b8 az
 ·refine k_ ?_
  refine it Z (B0 (c:=H0) (xs:=[24]) I0 Z Z Z oki) fun w=>?_
  have:([24]:List Int).length=1:=rfl
  refine zru 2 [1] [] 1 (bx f [.slice (some ⟨w,0,none⟩) 1 1] 289) ?_
  subst hR
  refine ie (A8 ?_)
  exact cc (I9 Z (E8 A1k Z 1)) (zq _ 1)
 refine k_ ?_
 refine ie ?_
 refine cK Z hR ?_ ?_<;>intro hR bb al
 ·refine k_ ?_
  refine it Z (B0 (c:=H0) (xs:=[4,a.m]) I0 Z Z Z oki) fun o=>?_
  have:([4,a.m]:List Int).length=2:=rfl
  refine zru 2 [1] [] 1 (bx f [.slice (some ⟨o,0,none⟩) 2 2] 289) ?_
  subst hR
  refine ie (A8 ?_)
  exact cc (I9 Z (E8 A1k Z 1)) (zq _ 2)
 refine k_ ?_
 refine ie ?_
 refine cK Z hR ?_ ?_<;>intro hR bi au
 ·refine k_ ?_
  refine ix Z (J8.pure Z) (it Z (B0 (c:=H0) (xs:=[(IntKind.i64.wrap ((IntKind.i64.wrap ((38:Int)+(IntKind.i64.wrap ((10:Int) * (IntKind.i64.wrap (a.n - (4:Int)))))))+(1:Int)))]) I0 Z Z Z oki) fun p=>?_)
  have:([(i64.wrap ((i64.wrap ((38:Int)+(i64.wrap ((10:Int) * (i64.wrap (a.n - (4:Int)))))))+(1:Int)))]:List Int).length=1:=rfl
  refine zru 2 [1] [] 1 (bx f [.slice (some ⟨p,0,none⟩) 1 1] 289) ?_
  subst hR
  refine ie (A8 ?_)
  exact cc (I9 Z (E8 A1k Z 1)) (zq _ 1)
 refine k_ ?_
 refine ie ?_
 refine cK Z hR ?_ ?_<;>intro hR bh av
 ·refine k_ ?_
  refine ix Z (D5f Z Z Z ozw) ?_
  refine k_ ?_
  refine ix Z (D5f Z Z Z ozw) (ix Z (D3y Z Z Z ozw Z) ?_)
  refine k_ ?_
  refine ix Z (D3y Z Z Z ozw Z) (it Z (B0 (c:=H0) (xs:=[(IntKind.i64.wrap ((38:Int)+(IntKind.i64.wrap ((10:Int) * (IntKind.i64.wrap (a.n - (4:Int))))))),2,(-1),(IntKind.i64.wrap (Int.tdiv a.color.n 65536)),(Int.tmod (IntKind.i64.wrap (Int.tdiv a.color.n 256)) 256),(Int.tmod a.color.n 256)]) I0 Z Z Z oki) fun y=>?_)
  have:([(i64.wrap ((38:Int)+(i64.wrap ((10:Int) * (i64.wrap (a.n - (4:Int))))))),2,(-1),(i64.wrap (Int.tdiv a.color.n 65536)),(Int.tmod (i64.wrap (Int.tdiv a.color.n 256)) 256),(Int.tmod a.color.n 256)]:List Int).length=6:=rfl
  refine zru 2 [1] [] 1 (bx f [.slice (some ⟨y,0,none⟩) 6 6] 289) ?_
  subst hR
  refine ie (A8 ?_)
  exact cc (I9 Z (E8 A1k Z 1)) (zq _ 6)
 refine k_ ?_
 refine zia 4 1 135 139 (decide (a.color.n<8)) (fun a8=>?_) ?_
 ·have ar:=bV a8
  refine cB 4 [0] 139 Z ?_
  exact zai 2 135 _ a8
 refine k_ ?_
 refine zjb Z hR ?_ ?_<;>intro hR a7
 ·have a1:=bV a7
  refine k_ ?_
  refine ix Z (J8.pure Z) ?_
  refine k_ ?_
  refine ix Z (J8.pure Z) (it Z (B0 (c:=H0) (xs:=[(IntKind.i64.wrap ((IntKind.i64.wrap ((IntKind.i64.wrap ((38:Int)+(IntKind.i64.wrap ((10:Int) * (IntKind.i64.wrap (a.n - (4:Int))))))) - (8:Int)))+a.color.n))]) I0 Z Z Z oki) fun s=>?_)
  have:([(i64.wrap ((i64.wrap ((i64.wrap ((38:Int)+(i64.wrap ((10:Int) * (i64.wrap (a.n - (4:Int))))))) - (8:Int)))+a.color.n))]:List Int).length=1:=rfl
  refine zru 2 [1] [] 1 (bx f [.slice (some ⟨s,0,none⟩) 1 1] 289) ?_
  subst hR
  refine ie (A8 ?_)
  exact cc (I9 Z (E8 A1k Z 1)) (zq _ 1)
 refine k_ ?_
 refine zia 4 1 151 155 (decide (a.color.n<16)) (fun a2=>?_) ?_
 ·have b3:=bV a2
  refine cB 4 [0] 155 Z ?_
  exact zai 2 151 _ a2
 refine k_ ?_
 refine zjb Z hR ?_ ?_<;>intro hR a4
 ·have a6:=bV a4
  refine k_ ?_
  refine ix Z (J8.pure Z) ?_
  refine k_ ?_
  refine ix Z (J8.pure Z) (it Z (B0 (c:=H0) (xs:=[(IntKind.i64.wrap ((IntKind.i64.wrap ((IntKind.i64.wrap ((38:Int)+(IntKind.i64.wrap ((10:Int) * (IntKind.i64.wrap (a.n - (4:Int)))))))+(44:Int)))+a.color.n))]) I0 Z Z Z oki) fun v=>?_)
  have:([(i64.wrap ((i64.wrap ((i64.wrap ((38:Int)+(i64.wrap ((10:Int) * (i64.wrap (a.n - (4:Int)))))))+(44:Int)))+a.color.n))]:List Int).length=1:=rfl
  refine zru 2 [1] [] 1 (bx f [.slice (some ⟨v,0,none⟩) 1 1] 289) ?_
  subst hR
  refine ie (A8 ?_)
  exact cc (I9 Z (E8 A1k Z 1)) (zq _ 1)
 refine k_ ?_
 refine it Z (B0 (c:=H0) (xs:=[(IntKind.i64.wrap ((38:Int)+(IntKind.i64.wrap ((10:Int) * (IntKind.i64.wrap (a.n - (4:Int))))))),5,a.color.n]) I0 Z Z Z oki) fun r=>?_
 have:([(i64.wrap ((38:Int)+(i64.wrap ((10:Int) * (i64.wrap (a.n - (4:Int))))))),5,a.color.n]:List Int).length=3:=rfl
 refine zru 2 [1] [] 1 (bx f [.slice (some ⟨r,0,none⟩) 3 3] 289) ?_
 subst hR
 refine ie (A8 ?_)
 exact cc (I9 Z (E8 A1k Z 1)) (zq _ 3)
def A0z (l:jz):jz→List (List Int)→Nat→(List (List Int)×Int)
 | [],out,i=>(bif (decide ((16:Int)<(l.length:Int))) then (([]:List (List Int)),3) else (out,0))
 | hd_l0::tl_l0,out,i=>(bif (!decide ((A1v hd_l0)=0)) then (([]:List (List Int)),141) else (B5 (A6i hd_l0) fun (a:List Int)=>A0z l tl_l0 (out++([a]:List (List Int))) (i+1)))
def B2z (l:jz):List (List Int)×Int :=
 A0z l l ([]:List (List Int)) 0
theorem D5o {R:List (List Int)×Int} (hR:B2z l=R) (a1:l.length≤9223372036854775807:=by exact bW) (a9:l.length≤lk:=by exact bW) (a0:l.length≤2000:=by exact bW):cM prog 166 [.slice lq l.length lk] [] [sl A2 lq l] ({t:VR×List Slc // bT 1 R.1.length t.1∧B4 t.2 R.1}) (fun x=>.tuple #[.slice (va x.1.1.q) R.1.length x.1.1.k,iv R.2]) (fun x=>((vo F0 289 x.1.1 x.1.2)++([]))) (fun x=>[D8 H0 x.1.2 R.1]):=by
 refine cD Tryz.func166 fun X hX hr hD=>?_
 rw[B2z]at hR
 refine k_ ?_
 refine ie ?_
 refine k_ ?_
 refine ie ?_
 refine k_ ?_
 refine ie (A9 ?_)
 refine A1y (un fun out=>un fun e=>un fun d i=>(i≤l.length∧A0z l (l.drop i) out i=R∧bT 1 out.length e∧B4 d out∧out.length≤i,[(0,_),(4,.slice (va e.q) out.length e.k),(5,iv i)],((vo F0 289 e d)++([])),[_,D8 H0 d out],l.length - i)) (_,_,_,0) ⟨opx,hR,bT.nil,B4.none,oom⟩ bU c9 ?_
 rintro ⟨out,e,d,i⟩ ⟨a6,hR,f,b,ho⟩
 have:=bT.le f
 have:=b.1
 refine A3 (bS Z (bP 4 9 Z (ie (G3 Z (fun v=>?_) (fun v=>?_)))))
 ·have p:=bV v
  rw [A1a ZZ (show i<l.length by omega)] at hR;rw[A0z]at hR
  refine k_ ?_
  refine H8 0 Z opx fun a3 j=>(ix Z (E7 N3 Z Z j Z i) (ix Z (J0 C5s Z Z (F8 (sz:=6) j jJ 0 Z (gd ZZ opx)) Z) ?_))
  refine zv Z (C0u Z) ?_
  refine k_ ?_
  refine ie ?_
  refine zjn Z hR ?_ ?_<;>intro hR h5 a5
  ·refine k_ ?_
   subst hR
   refine ie (A8 ?_)
   exact cy ⟨(_,_),⟨bT.nil,B4.none⟩⟩
  refine k_ ?_
  refine ix Z (E7 N3 Z Z j Z i) (ix Z (J0 C5s Z Z (F8 (sz:=6) j jJ 0 Z (gd ZZ opx)) Z) ?_)
  obtain ⟨a,g,hR⟩:=C3 hR
  refine zc Z (D8o g) fun ⟨⟨o,n⟩,u⟩=>?_
  obtain ⟨a8,z⟩:=u
  refine it Z (B0 (c:=F0) (xs:=[⟨o,a.length,n⟩]) A8w Z Z Z oki) fun a2=>?_
  have h:B4 ([⟨o,a.length,n⟩]:List Slc) ([a]:List (List Int)):=(B4.cons ⟨ooy,okl,okl⟩ B4.none)
  refine D4 (q:=D8 _ [⟨o,a.length,n⟩] _) (M8 (A5 1 Z) I5) ?_
  have s:B4 (d++([⟨o,a.length,n⟩]:List Slc)) (out++([a]:List (List Int))):=B4.append b h
  refine it Z (K5 (r:=e) (rs:=d) (xss:=out) (pre:=[]) (post:=[]) E4h Z Z Z Z Z Z Z Z Z (A5 1 Z) (A5 4 Z) (A5 0 Z) b h f ofv ofv) fun ⟨w,m⟩=>?_
  have:(out++([a]:List (List Int))).length=out.length+1:=List.length_append
  refine k_ ?_
  refine A1 ?_
  refine k_ ?_
  refine ix Z B1 ?_
  refine k_ ?_
  refine A1 ?_
  exact z0 (_,w,_,_) ⟨opx,hR,m,s,ozq⟩
 have p:=bV v
 rw [A1b p] at hR;rw[A0z]at hR
 refine k_ ?_
 refine ie ?_
 refine cK Z hR ?_ ?_<;>intro hR a7 y
 ·refine k_ ?_
  subst hR
  refine ie (A8 ?_)
  exact cy ⟨(_,_),⟨bT.nil,B4.none⟩⟩
 refine k_ ?_
 subst hR
 refine ie (A8 ?_)
 exact cy ⟨(e,d),⟨f,b⟩⟩
def A0l (i:Nat) (a:Nat→Int):List Int→Nat→Int
 | [],k=>a (i+1)
 | hd_l3::tl_l3,k=>(bif ((decide (hd_l3<(-1)))||(decide ((9999:Int)<hd_l3))) then 150 else A0l i a tl_l3 (k+1))
def Z2 (l:List (List Int)):List (List Int)→Nat→Int
 | [],i=>(bif (((decide ((l.length:Int)=1))&&(decide (((l.getD 0 []).length:Int)=1)))&&(decide (((l.getD 0 []).getD 0 0)=(-1)))) then 150 else 0)
 | hd_l2::tl_l2,i=>(bif ((decide ((hd_l2.length:Int)<1))||(decide ((6:Int)<(hd_l2.length:Int)))) then 150 else A0l i (Z2 l tl_l2) hd_l2 0)
def A7p (l:List (List Int)):Int :=
 (bif (decide ((16:Int)<(l.length:Int))) then 150 else Z2 l l 0)
theorem B9i (i:Nat) (ag:Nat→Int) (b:ag (i+1)≠150→True):∀ (r:List Int) (k:Nat),A0l i ag r k≠150→(∀ n ∈ r,-1≤n∧n≤9999)∧A0l i ag r k=ag (i+1)
 | [],k,h=>⟨fun n a=>(by cases a),rfl⟩
 | x::r,k,h=>by
  simp only [A0l] at h ⊢
  cases hc:(decide (x<(-1)))||(decide ((9999:Int)<x)) with
  | true=>grind
  | false =>
   rw [hc,cond_false] at h
   have c:=B9i i ag b r (k+1) h
   simp only [Bool.or_eq_false_iff,decide_eq_false_iff_not] at hc
   refine ⟨fun n a=>?_,by rw [cond_false];exact c.2⟩
   rcases List.mem_cons.1 a with rfl | a
   ·omega
   ·exact c.1 n a
theorem B9p (l:List (List Int)):∀ (s:List (List Int)) (i:Nat),Z2 l s i≠150→∀ r ∈ s,1≤r.length∧r.length≤6∧∀ n ∈ r,-1≤n∧n≤9999
 | [],i,h,r,hr=>by cases hr
 | x::s,i,h,r,hr=>by
  simp only [Z2] at h
  cases hc:(decide ((x.length:Int)<1))||(decide ((6:Int)<(x.length:Int))) with
  | true=>grind
  | false =>
   rw [hc,cond_false] at h
   have a:=B9i i _ (fun _=>trivial) x 0 h
   rw [a.2] at h
   simp only [Bool.or_eq_false_iff,decide_eq_false_iff_not] at hc
   rcases List.mem_cons.1 hr with rfl | hr
   ·exact ⟨by omega,by omega,a.1⟩
   ·exact B9p l s (i+1) h r hr
theorem C4l {l:List (List Int)} (h:A7p l=0):C0v l:=by
 unfold A7p at h
 cases hc:decide ((16:Int)<(l.length:Int)) with
 | true=>grind
 | false =>
  rw [hc,cond_false] at h
  simp only [decide_eq_false_iff_not] at hc
  exact ⟨by omega,B9p l l 0 (by omega)⟩
theorem D8y {l:List (List Int)} {R:Int} (hR:A7p l=R) (a:B4 b l:=by exact bW) (a7:l.length≤9223372036854775807:=by exact bW) (ae:l.length≤lk:=by exact bW):J7 prog 208 [.slice lq l.length lk] [sl F0 lq b,D8 H0 b l] (iv R):=by
 refine cD Tryz.func208 fun X hX hr hD=>?_
 rw[A7p]at hR
 have:=a.1
 refine k_ ?_
 refine ie ?_
 refine k_ ?_
 refine ie ?_
 refine cK Z hR ?_ ?_<;>intro hR h1 aa
 ·refine k_ ?_
  subst hR
  exact q8
 refine k_ ?_
 refine ie (A9 ?_)
 refine A1y (fun i=>(i≤l.length∧Z2 l (l.drop i) i=R,[(0,_),(3,iv i)],_,_,l.length - i)) 0 ⟨opx,hR⟩ bU A7.refl ?_
 rintro i ⟨ab,hR⟩
 refine A3 (bS Z (bP 4 11 Z (ie (G3 Z (fun w=>?_) (fun w=>?_)))))
 ·have p:=bV w
  rw [A1a [] (show i<l.length by omega)] at hR;rw[Z2]at hR
  refine k_ ?_
  refine H8 0 Z jV fun a4 e=>(D4 (Q6 (k:=i) (d:=⟨none,0,0⟩) a 1 Z jV) ?_)
  have:=Q9 a (k:=i) (d:=(⟨none,0,0⟩:Slc)) jV
  refine ix Z (E7 A8w Z Z e Z i) ?_
  refine k_ ?_
  refine ix Z (G1 (B6 C1g Z Z (U0 (F8 (sz:=1) e jJ 1 Z (gd ⟨none,0,0⟩ jV)) 1 Z) Z) (M2 a jV)) ?_
  refine k_ ?_
  refine zir 8 0 21 29 (decide (6<((l.getD i []).length:Int))) (fun g6 a8=>?_) ?_
  ·refine k_ ?_
   refine ix Z (E7 A8w Z Z e Z i) ?_
   refine k_ ?_
   refine ix Z (G1 (B6 C1g Z Z (U0 (F8 (sz:=1) e jJ 1 Z (gd ⟨none,0,0⟩ jV)) 1 Z) Z) (M2 a jV)) (bP 3 29 Z ?_)
   exact zai 7 21 _ g6
  refine ie ?_
  refine zjo Z hR ?_ ?_<;>intro hR h7 ac
  ·refine k_ ?_
   subst hR
   exact q8
  refine k_ ?_
  refine ie (A9 ?_)
  refine A1y (fun k=>(k≤(l.getD i []).length∧A0l i _ ((l.getD i _).drop k) k=R,[(0,_),(3,_),(4,iv k)],_,[_,_,_],(l.getD i []).length - k)) 0 ⟨opx,hR⟩ bU A7.refl ?_
  rintro k ⟨ad,hR⟩
  refine A3 (bS Z (pp3 3 30 31 32 Z (ix Z (E7 A8w Z Z e Z i) (bP 1 34 Z (ix Z (G1 (B6 C1g Z Z (U0 (F8 (sz:=1) e jJ 1 Z (gd ⟨none,0,0⟩ jV)) 1 Z) Z) (M2 a jV)) (bP 2 37 Z (ie (G3 Z (fun y=>?_) (fun y=>?_)))))))))
  ·have s:=bV y
   rw [A1a 0 (show k<(l.getD i []).length by omega)] at hR;rw[A0l]at hR
   refine k_ ?_
   refine ix Z (E7 A8w Z Z e Z i) ?_
   refine k_ ?_
   refine ix Z (G1 (B6 C1g Z Z (U0 (F8 (sz:=1) e jJ 1 Z (gd ⟨none,0,0⟩ jV)) 1 Z) Z) (M2 a jV)) ?_
   refine k_ ?_
   refine H8 0 Z opx fun a9 f=>(ix Z (E7 I0 Z Z f Z k) (ix Z (B6 (us:=[iv _]) cE Z Z (F8 (c:=H0) f jJ 0 Z (gd 0 opx)) Z) ?_))
   refine k_ ?_
   refine zir 10 0 49 59 (decide (9999<((l.getD i []).getD k 0))) (fun x a3=>?_) ?_
   ·refine k_ ?_
    refine ix Z (E7 A8w Z Z e Z i) ?_
    refine k_ ?_
    refine ix Z (G1 (B6 C1g Z Z (U0 (F8 (sz:=1) e jJ 1 Z (gd ⟨none,0,0⟩ jV)) 1 Z) Z) (M2 a jV)) ?_
    refine k_ ?_
    refine ix Z (E7 I0 Z Z f Z k) (ix Z (B6 (us:=[iv _]) cE Z Z (F8 (c:=H0) f jJ 0 Z (gd 0 opx)) Z) (bP 2 59 Z ?_))
    exact zai 10 49 _ x
   refine ie ?_
   refine zjo Z hR ?_ ?_<;>intro hR a6 a1
   ·refine k_ ?_
    subst hR
    exact q8
   refine k_ ?_
   refine ix Z B1 ?_
   refine k_ ?_
   refine A1 ?_
   exact z0 _ ⟨opx,hR⟩
  have s:=bV y
  rw [A1b s] at hR;rw[A0l]at hR
  refine k_ ?_
  refine ix Z B1 ?_
  refine k_ ?_
  refine A1 ?_
  exact z0 _ ⟨opx,hR⟩
 have p:=bV w
 rw [A1b p] at hR;rw[Z2]at hR
 refine k_ ?_
 refine zid 7 9 63 70 (decide (((l.getD 0 []).length:Int)=1)) (fun z a0=>?_) ?_
 ·refine k_ ?_
  refine H8 0 Z jV fun u j=>(D4 (Q6 (k:=0) (d:=⟨none,0,0⟩) a 1 Z jV) (ix Z (E7 A8w Z Z j Z 0) ?_))
  refine ip' 1 4 [(66,pa (Addr.add u (0 * 1)))] ?_
  refine ix Z (G1 (B6 C1g Z Z (U0 (F8 (sz:=1) j jJ 1 Z (gd ⟨none,0,0⟩ jV)) 1 Z) Z) (M2 a jV)) (bP 3 70 Z (A1 ?_))
  exact I1 6 63 _ z c9 bU Z Z Z Z Z
 refine k_ ?_
 refine zia 8 0 71 79 (decide (((l.getD 0 []).getD 0 0)=(-1))) (fun r=>?_) ?_
 ·have a2:=bV r
  refine k_ ?_
  refine H8 0 Z jV fun t g=>(D4 (Q6 (k:=0) (d:=⟨none,0,0⟩) a 1 Z jV) (ix Z (E7 A8w Z Z g Z 0) ?_))
  refine ip' 1 5 [(74,pa (Addr.add t (0 * 1)))] ?_
  refine ix Z (G1 (B6 C1g Z Z (U0 (F8 (sz:=1) g jJ 1 Z (gd ⟨none,0,0⟩ jV)) 1 Z) Z) (M2 a jV)) (H8 0 Z opx fun af h=>(ix Z (E7 I0 Z Z h Z 0) (ix Z (B6 (us:=[iv _]) cE Z Z (F8 (c:=H0) h jJ 0 Z (gd 0 opx)) Z) (bP 2 79 Z (A1 ?_)))))
  exact I1 8 71 _ r c9 bU Z Z Z Z Z
 refine ie ?_
 refine zjb Z hR ?_ ?_<;>intro hR m
 ·have o:=bV m
  refine k_ ?_
  subst hR
  exact q8
 refine k_ ?_
 subst hR
 exact q8
def S0:Nat→Int→List UInt8
 | 0,_=>[]
 | fu+1,n=>(bif (decide (n<10)) then ([(by8 (IntKind.u8.wrap (i64.wrap ((48:Int)+n))))]:List UInt8) else ((S0 fu (n / 10))++(S0 fu (n % 10))))
theorem Z9:∀ (fu:Nat) (n:Int),(S0 fu n).length≤n.toNat+1
 | 0,n=>by simp [S0]
 | fu+1,n=>by
  simp only [S0]
  cases h:decide (n<10) with
  | true=>simp
  | false =>
   have c:¬ n<10:=of_decide_eq_false h
   have a:=Z9 fu (n / 10)
   have b:=Z9 fu (n % 10)
   simp only [cond_false,List.length_append]
   omega
theorem oyd (h:p:=by first|omega|(simp +zetaDelta only [List.length_append,List.length_cons,List.length_nil,List.length_take,List.length_drop,List.length_set];omega)):p:=h
theorem B7x:∀ (fu:Nat) (n:Int) (d:n≤9223372036854775807) (a:n.toNat<fu) (R:List UInt8) (hR:S0 fu n=R),J7 prog 91 [iv n] [] (sv R):=by
 intro fu
 induction fu with
 | zero=>intros;omega
 | succ fu ih =>
  intro n d a R hR
  refine cD Tryz.func91 fun X hX hr hD=>?_
  rw[S0]at hR
  refine bS Z (pp0 1 Z (ie (A3 (bS Z (bP 2 4 Z (ie ?_))))))
  refine cK Z hR ?_ ?_<;>intro hR e b
  ·refine bS Z (bP 1 5 Z (ix Z (J8.pure Z) (ix Z (G1 (v:=.int .u8 (IntKind.u8.wrap (IntKind.i64.wrap ((48:Int)+n)))) (J8.pure Z) (B4p)) (it Z (B0 (c:=cJ) (xs:=([(by8 (IntKind.u8.wrap (IntKind.i64.wrap ((48:Int)+n))))]:List UInt8)) A6y Z Z Z oki) fun f=>?_))))
   have:([(by8 (IntKind.u8.wrap (i64.wrap ((48:Int)+n))))]:List UInt8).length=1:=rfl
   refine ix Z (C5j Tryz.underlying9 Tryz.underlying97 Z Z (A5 0 Z) Z oki) ?_
   have:([(by8 (IntKind.u8.wrap (i64.wrap ((48:Int)+n))))]:List UInt8).length=1:=rfl
   refine bP 1 2 Z ?_
   subst hR
   exact q8
  refine A4 (nx (bS Z (bP 1 10 Z (ix Z (F7m (c:=(n / 10)) Z Z Z ozw (by first|exact ⟨⟨by omega,by show _≤(9223372036854775807:Int);omega⟩,rfl⟩|exact ⟨by omega,rfl⟩)) ?_))))
  refine zv Z (ih (n / 10) oyd opx _ Z) ?_
  have:=Z9 fu (n / 10)
  refine bP 1 13 Z (ix Z (F4c (c:=(n % 10)) Z Z Z ozw (by first|exact ⟨⟨by omega,by show _≤(9223372036854775807:Int);omega⟩,rfl⟩|exact ⟨by omega,rfl⟩)) ?_)
  refine zv Z (ih (n % 10) oyd opx _ Z) ?_
  have:=Z9 fu (n % 10)
  refine ix Z (zst Z Z Z) ?_
  have:=@List.length_append _ (S0 fu (n / 10)) (S0 fu (n % 10))
  refine bP 1 2 Z ?_
  subst hR
  exact q8
def A3t (l:List (List Int)) (i:Nat) (k:Nat) (a:List UInt8→Nat→(List UInt8×Int)) (b:List UInt8):List UInt8×Int :=
 (bif (decide ((0:Int)≤((l.getD i []).getD k 0))) then a (b++(S0 (((l.getD i []).getD k 0).toNat+1) ((l.getD i []).getD k 0))) (k+1) else a b (k+1))
def V4 (l:List (List Int)) (i:Nat) (a:List UInt8→Nat→(List UInt8×Int)):Nat→List UInt8→Nat→(List UInt8×Int)
 | 0,_,_=>([],0)
 | fu1+1,s2,k=>(bif (decide ((k:Int)<((l.getD i []).length:Int))) then (bif (decide ((0:Int)<(k:Int))) then A3t l i k (V4 l i a fu1) (s2++([58]:List UInt8)) else A3t l i k (V4 l i a fu1) s2) else a s2 (i+1))
def A4y (l:List (List Int)) (i:Nat) (a:List UInt8→Nat→(List UInt8×Int)) (b:List UInt8):List UInt8×Int :=
 V4 l i a (((l.getD i []).length - 0)+1) b 0
def M4 (l:List (List Int)):List (List Int)→List UInt8→Nat→(List UInt8×Int)
 | [],s,i=>(s,0)
 | hd_l2::tl_l2,s,i=>(bif (decide ((0:Int)<(i:Int))) then A4y l i (M4 l tl_l2) (s++([59]:List UInt8)) else A4y l i (M4 l tl_l2) s)
def A7n (l:List (List Int)):List UInt8×Int :=
 (bif (!decide ((A7p l)=0)) then (([]:List UInt8),150) else M4 l l ([]:List UInt8) 0)
theorem B7r (l:List (List Int)) (h:C0v l) (i:Nat) (ag:List UInt8→Nat→List UInt8×Int) (B:Nat) (a:∀ s t,(ag s t).1.length≤s.length+B):∀ (fu:Nat) (s:List UInt8) (k:Nat),k≤6→(V4 l i ag fu s k).1.length≤s.length+10002 * (6 - k)+B
 | 0,s,k,hk=>by simp [V4]
 | fu+1,s,k,hk=>by
  have c:=B7r l h i ag B a fu
  have hb:=h.at i k
  have f:=Z9 (((l.getD i []).getD k 0).toNat+1) ((l.getD i []).getD k 0)
  have g:(l.getD i []).length≤6:=by
   by_cases hi:i<l.length
   ·have b:l.getD i [] ∈ l:=by rw [gdE hi];exact List.getElem_mem hi
    exact (h.2 _ b).2.1
   ·rw [gdN hi];simp
  rw [V4]
  unfold A3t
  by_cases hc:(k:Int)<((l.getD i []).length:Int)
  ·rw [jQ hc,cond_true]
   have d:k<6:=by omega
   have e:10002 * (6 - k)=10002 * (6 - (k+1))+10002:=by omega
   simp only [Bool.cond_eq_ite]
   repeat' split
   all_goals refine Nat.le_trans (c _ _ opx) ?_
   all_goals try simp only [List.length_append,List.length_cons,List.length_nil]
   all_goals omega
  ·rw [jX hc,cond_false]
   exact Nat.le_trans (a _ _) opx
theorem B7p (l:List (List Int)) (h:C0v l):∀ (x:List (List Int)) (s:List UInt8) (i:Nat),(M4 l x s i).1.length≤s.length+60100 * x.length
 | [],s,i=>by simp [M4]
 | r::x,s,i=>by
  have b:=fun a=>B7r l h i (M4 l x) (60100 * x.length) (fun s t=>B7p l h x s t) (((l.getD i []).length - 0)+1) a 0 opx
  simp only [M4,A4y,List.length_cons,Bool.cond_eq_ite]
  split
  all_goals refine Nat.le_trans (b _) ?_
  all_goals try simp only [List.length_append,List.length_cons,List.length_nil]
  all_goals omega
theorem C2x (l:List (List Int)):(A7n l).1.length≤961600:=by
 unfold A7n
 by_cases h:A7p l=0
 ·have a:=C4l h
  have:=B7p l a l [] 0
  have b:=a.1
  grind
 grind
theorem D8p {l:List (List Int)} {R:List UInt8×Int} (hR:A7n l=R) (a:B4 b l:=by exact bW) (x:l.length≤9223372036854775807:=by exact bW) (aa:l.length≤lk:=by exact bW):J7 prog 167 [.slice lq l.length lk] [sl F0 lq b,D8 H0 b l] (.tuple #[sv R.1,iv R.2]):=by
 refine cD Tryz.func167 fun X hX hr hD=>?_
 rw[A7n]at hR
 have:=a.1
 refine k_ ?_
 refine ie ?_
 refine k_ ?_
 refine zv Z (D8y Z a) ?_
 refine k_ ?_
 refine ie ?_
 refine zjn Z hR ?_ ?_<;>intro hR h1 a3
 ·refine k_ ?_
  subst hR
  refine ie (A8 ?_)
  exact B6u hr hD
 have j:=C4l (Decidable.of_not_not oiu)
 have y:=j.1
 refine k_ ?_
 refine ie ?_
 refine k_ ?_
 refine ie (A9 ?_)
 refine A1y (un fun s i=>(i≤l.length∧M4 l (l.drop i) s i=R∧s.length≤60100 * i,[(0,_),(4,sv s),(5,iv i)],_,_,l.length - i)) (_,0) ⟨opx,hR,oom⟩ bU A7.refl ?_
 rintro ⟨s,i⟩ ⟨a4,hR,hs⟩
 have h6:=(j.row i)
 refine A3 (bS Z (bP 4 13 Z (ie (G3 Z (fun r=>?_) (fun r=>?_)))))
 ·have o:=bV r
  rw [A1a [] (show i<l.length by omega)] at hR;rw[M4]at hR
  refine A4 (nx (A3 (A9 (A7i (fun p=>(A4y l i (M4 l (l.drop (i+1))) p=R∧p.length≤60100 * i+1,[(0,.slice lq l.length lk),(4,sv p),(5,iv i)],[],[sl F0 lq b,D8 H0 b l])) ?_ ?_))))
  ·refine k_ ?_
   refine ie ?_
   refine cK Z hR ?_ ?_<;>intro hR h4 a1
   ·refine k_ ?_
    refine ix Z (zst Z Z Z) ?_
    refine k_ ?_
    refine A1 ?_
    exact S6 _ ⟨hR,ozq⟩ bU A7.refl
   refine A4 ?_
   exact S6 s ⟨hR,ozq⟩ bU A7.refl
  intro p
  rintro ⟨hR,w⟩
  rw[A4y]at hR
  refine k_ ?_
  refine ie (A9 ?_)
  refine A1y (un fun fu=>un fun g k=>(((l.getD i _).length - k)<fu∧V4 l i _ fu g k=R∧g.length≤60100 * i+1+10003 * k∧k≤(l.getD i []).length,[(0,_),(4,sv g),(5,_),(6,iv k)],_,_,fu)) (_,p,0) ⟨(Nat.lt_succ_self _),hR,ozq,opx⟩ bU A7.refl ?_
  rintro ⟨fu,g,k⟩ ⟨a7,hR,a8,a5⟩
  obtain ⟨fu1,rfl⟩:∃ m,fu=m+1:=⟨fu - 1,by omega⟩
  rw[V4]at hR
  have hq:=j.at i k
  refine k_ ?_
  refine H8 0 Z jV fun a6 e=>(D4 (Q6 (k:=i) (d:=⟨none,0,0⟩) a 1 Z jV) (ix Z (E7 A8w Z Z e Z i) ?_))
  refine k_ ?_
  refine ix Z (G1 (B6 C1g Z Z (U0 (F8 (sz:=1) e jJ 1 Z (gd ⟨none,0,0⟩ jV)) 1 Z) Z) (M2 a jV)) ?_
  refine k_ ?_
  refine ie ?_
  refine cK Z hR ?_ ?_<;>intro hR h8 z
  ·refine A4 (nx (A3 (A9 (A7i (fun h=>(A3t l i k (V4 l i (M4 l (l.drop (i+1))) fu1) h=R∧h.length≤60100 * i+2+10003 * k,[(0,.slice lq l.length lk),(4,sv h),(5,iv i),(6,iv k)],[],[sl H0 ((b.getD i ⟨none,0,0⟩).q) (l.getD i []),sl F0 lq b,D8 H0 b l])) ?_ ?_))))
   ·refine k_ ?_
    refine ie ?_
    refine cK Z hR ?_ ?_<;>intro hR h9 a9
    ·refine k_ ?_
     refine ix Z (zst Z Z Z) ?_
     refine k_ ?_
     refine A1 ?_
     exact S6 _ ⟨hR,ozq⟩ bU A7.refl
    refine A4 ?_
    exact S6 g ⟨hR,ozq⟩ bU A7.refl
   intro h
   rintro ⟨hR,t⟩
   rw[A3t]at hR
   refine k_ ?_
   refine ix Z (E7 A8w Z Z e Z i) ?_
   refine k_ ?_
   refine ix Z (G1 (B6 C1g Z Z (U0 (F8 (sz:=1) e jJ 1 Z (gd ⟨none,0,0⟩ jV)) 1 Z) Z) (M2 a jV)) ?_
   refine k_ ?_
   refine H8 0 Z opx fun a2 f=>(ix Z (E7 I0 Z Z f Z k) (ix Z (B6 (us:=[iv _]) cE Z Z (F8 (c:=H0) f jJ 0 Z (gd 0 opx)) Z) ?_))
   refine k_ ?_
   refine ie ?_
   refine cK Z hR ?_ ?_<;>intro hR a0 u
   ·refine k_ ?_
    refine ix Z (E7 A8w Z Z e Z i) ?_
    refine k_ ?_
    refine ix Z (G1 (B6 C1g Z Z (U0 (F8 (sz:=1) e jJ 1 Z (gd ⟨none,0,0⟩ jV)) 1 Z) Z) (M2 a jV)) ?_
    refine k_ ?_
    refine ix Z (E7 I0 Z Z f Z k) (ix Z (B6 (us:=[iv _]) cE Z Z (F8 (c:=H0) f jJ 0 Z (gd 0 opx)) Z) ?_)
    refine zv Z (B7x (((l.getD i _).getD k 0).toNat+1) _ oyd (Nat.lt_succ_self _) _ Z) ?_
    have:=Z9 (((l.getD i []).getD k 0).toNat+1) ((l.getD i []).getD k 0)
    refine ix Z (zst Z Z Z) ?_
    have:=@List.length_append _ h (S0 (((l.getD i []).getD k 0).toNat+1) ((l.getD i []).getD k 0))
    refine k_ ?_
    refine A1 ?_
    refine k_ ?_
    refine ix Z B1 ?_
    refine k_ ?_
    refine A1 ?_
    exact z0 (_,_,_) ⟨opx,hR,ozq,opx⟩
   refine k_ ?_
   refine ix Z B1 ?_
   refine k_ ?_
   refine A1 ?_
   exact z0 (_,h,_) ⟨opx,hR,ozq,opx⟩
  refine k_ ?_
  refine ix Z B1 ?_
  refine k_ ?_
  refine A1 ?_
  exact z0 (g,_) ⟨opx,hR,odi⟩
 have o:=bV r
 rw [A1b o] at hR;rw[M4]at hR
 refine k_ ?_
 subst hR
 refine ie (A8 ?_)
 exact B6u hr hD
def A6l (l:jz):List UInt8 :=
 (B5 (B2z l) fun (a:List (List Int)×Int)=>(B5 (A7n a.1) fun (b:List UInt8×Int)=>((([27,91]:List UInt8)++b.1)++([109]:List UInt8))))
theorem B8m (l:jz):(A6l l).length≤961603:=by simp[C2x,A6l]
theorem C9j (hR:A6l l=R) (m:l.length≤9223372036854775807:=by exact bW) (o:l.length≤lk:=by exact bW) (k:l.length≤2000:=by exact bW):J7 prog 108 [.slice lq l.length lk] [sl A2 lq l] (sv R):=by
 refine cD Tryz.func108 fun X hX hr hD=>?_
 rw[A6l]at hR
 refine k_ ?_
 refine ie (k_ ?_)
 obtain ⟨d,b,hR⟩:=C3 hR
 refine zc Z (D5o b) fun ⟨⟨n,j⟩,h⟩=>?_
 try dsimp only at h
 obtain ⟨e,g⟩:=h
 refine k_ ?_
 refine ie (k_ ?_)
 have:=bT.lc e
 refine P2 [] _ (bT.cast e (by rw [g.1])) omm ?_
 obtain ⟨f,a,hR⟩:=C3 hR
 refine zv Z (D8p a g) ?_
 have:=C2x d.1;try rw [a] at this
 refine k_ ?_
 refine ie (k_ ?_)
 refine ix Z (zst Z Z Z) ?_
 refine ix Z (zst Z Z Z) ?_
 refine k_ ?_
 subst hR
 exact q8
def H3 (cp:Int):Int :=
 (bif (decide (cp<128)) then 1 else (bif (decide (cp<2048)) then 2 else (bif (decide (cp<65536)) then 3 else 4)))
theorem B9r (cp:Int):1≤H3 cp∧H3 cp≤4:=by grind[H3]
theorem E3u {R:Int} (hR:H3 cp=R):J7 prog 209 [iv cp] [] (iv R):=by
 refine cD Tryz.func209 fun X hX hr hD=>?_
 rw[H3]at hR
 refine k_ ?_
 refine ie ?_
 refine k_ ?_
 refine ie ?_
 refine cK Z hR ?_ ?_<;>intro hR e b
 ·refine k_ ?_
  subst hR
  exact q8
 refine k_ ?_
 refine ie ?_
 refine cK Z hR ?_ ?_<;>intro hR d c
 ·refine k_ ?_
  subst hR
  exact q8
 refine k_ ?_
 refine ie ?_
 refine cK Z hR ?_ ?_<;>intro hR f a
 ·refine k_ ?_
  subst hR
  exact q8
 refine k_ ?_
 subst hR
 exact q8
def X1 (a:Int):Nat→Int→List UInt8→Int→List UInt8
 | 0,_,_,_=>[]
 | fu1+1,cp2,b,i=>(bif (decide ((0:Int)<i)) then X1 a fu1 (i64.wrap (Int.tdiv cp2 64)) (b.set ((i).toNat) (by8 (IntKind.u8.wrap (128+(Int.tmod cp2 64))))) (i - 1) else (b.set 0 (by8 (IntKind.u8.wrap ((([0,0,192,224,240]:List Int).getD ((H3 a).toNat) 0)+cp2)))))
def A5y (a:Int):List UInt8 :=
 (bif (decide ((H3 a)=1)) then ([(by8 (IntKind.u8.wrap a))]:List UInt8) else X1 a ((((H3 a) - 1) - (0:Int)).toNat+1) a (List.replicate ((H3 a).toNat) (0:UInt8)) ((H3 a) - 1))
def B0j (cp:Int):List UInt8 :=
 (bif (!(A2n cp)) then A5y 65533 else A5y cp)
theorem C0m (c:Int):∀ (fu:Nat) (x:Int) (b:List UInt8) (i:Int),b.length≤4→(X1 c fu x b i).length≤4
 | 0,x,b,i,h=>by simp [X1]
 | fu+1,x,b,i,h=>by
  simp only [X1]
  cases (decide ((0:Int)<i)) with
  | true=>rw [cond_true];exact C0m c fu _ _ _ (by grind)
  | false=>grind
theorem D1m (c:Int):(A5y c).length≤4:=by
 have:=B9r c
 unfold A5y
 cases (decide ((H3 c)=1))<;>simp_all[C0m]
theorem C0b (c:Int):(B0j c).length≤4:=by
 unfold B0j
 cases (!(A2n c))<;>simp only [cond_true,cond_false]<;>exact D1m _
theorem D2n (hR:B0j cp=R):J7 prog 168 [iv cp] [] (sv R):=by
 refine cD Tryz.func168 fun X hX hr hD=>?_
 rw[B0j]at hR
 refine bS Z (pp0 1 Z (ie (A7i (fun d=>(A5y d=R∧d≤1114111∧0≤d,[(0,iv d)],[],[])) ?_ ?_)))
 ·refine k_ ?_
  refine zv Z (C6h Z) ?_
  refine k_ ?_
  refine ie ?_
  refine zjb Z hR ?_ ?_<;>intro hR h1
  ·refine k_ ?_
   refine A1 ?_
   exact S6 _ ⟨hR,opx⟩ bU A7.nil
  have ae:0≤cp∧cp≤1114111:=by have q:=h1;simp [A2n] at q;omega
  refine A4 ?_
  exact S6 _ ⟨hR,opx⟩ bU A7.nil
 intro d
 rintro ⟨hR,a5⟩
 rw[A5y]at hR
 refine k_ ?_
 refine zv Z (E3u Z) ?_
 have:=B9r d
 refine k_ ?_
 refine ie ?_
 refine k_ ?_
 refine ie ?_
 refine cK Z hR ?_ ?_<;>intro hR h2 a8
 ·refine kc_ ?_
  refine bP 1 14 Z (ix Z (G1 (J8.pure Z) (B4p)) (it Z (B0 (c:=cJ) (xs:=[(by8 (IntKind.u8.wrap d))]) A6y) fun b3=>(ix Z (C5j Tryz.underlying9 Tryz.underlying97 Z Z (A5 0 Z) Z oki) ?_)))
  refine k_ ?_
  subst hR
  exact q8
 refine k_ ?_
 refine it Z (C8o (f:=cJ) (l:=(H3 d).toNat) (c:=(H3 d).toNat) 0 C2m G4v.ok jJ Z (by exact congrArg (fun z=>some (Value.int .i64 z)) (show (H3 d)=(((H3 d).toNat:Nat):Int) by omega)) (by exact congrArg (fun z=>some (Value.int .i64 z)) (show (H3 d)=(((H3 d).toNat:Nat):Int) by omega)) opx ofv opx) fun ⟨r4,h⟩=>?_
 refine k_ ?_
 refine ie ?_
 refine k_ ?_
 refine ix Z L8 ?_
 refine k_ ?_
 refine ie (A9 ?_)
 refine A1y (un fun fu=>un fun e=>un fun b=>un fun o i=>((i - 0).toNat<fu∧X1 d fu e b i=R∧bT 1 b.length o∧(0≤e∧e≤1114111)∧b.length=H3 d∧0≤i∧i<H3 d,[(0,iv e),(3,_),(4,.slice (va o.q) b.length o.k),(5,iv i)],((vo _ 5 o b)++([])),_,fu)) (_,d,_,_,_) ⟨(Nat.lt_succ_self _),hR,h,opx,(by first|omega|(simp only [List.length_replicate];omega)),opx⟩ bU A7.nil ?_
 rintro ⟨fu,e,b,o,i⟩ ⟨a7,hR,g,x,a6,ah⟩
 obtain ⟨fu1,rfl⟩:∃ m,fu=m+1:=⟨fu - 1,by omega⟩
 rw[X1]at hR
 have a1:=Int.tdiv_eq_ediv_of_nonneg (a:=e) (b:=64) x.1
 have af:=Int.tmod_eq_emod_of_nonneg (a:=e) (b:=64) x.1
 have ac:0≤([0,0,192,224,240]:List Int).getD ((H3 d).toNat) 0∧([0,0,192,224,240]:List Int).getD ((H3 d).toNat) 0≤240:=by generalize (H3 d).toNat=k;rcases k with _ | _ | _ | _ | _ | k<;>simp
 refine k_ ?_
 refine ie ?_
 refine cK Z hR ?_ ?_<;>intro hR h7 ad
 ·refine k_ ?_
  refine ix Z (D3y Z Z Z ozw Z) (ix Z B1 (ix Z (G1 (v:=.int _ (IntKind.u8.wrap (128+(Int.tmod e 64)))) (J8.pure Z) (B4p)) ?_))
  obtain ⟨b8,y⟩:=bT.some g opx
  obtain ⟨a4,w,t⟩:=o
  obtain rfl:a4=some b8:=y
  refine ix Z (Z5 A6y Z Z Z ((i).toNat) opx opx) (it Z (A8t (us:=[.int .u8 ((by8 (IntKind.u8.wrap (128+(Int.tmod e 64)))).toNat:Int)]) (u':=(by8 (IntKind.u8.wrap (128+(Int.tmod e 64))))) (c:=cJ) (sz:=1) ty5 jJ Z Z Z 0 Z Z Z Z ((i).toNat) 0 Z (gd 0 opx) Z Z) fun _=>(ie ?_))
  refine k_ ?_
  refine ix Z (D5f Z Z Z ozw) ?_
  refine k_ ?_
  refine A1 ?_
  refine k_ ?_
  refine ix Z L8 ?_
  refine k_ ?_
  refine A1 ?_
  exact z0 (_,_,_,_,_) ⟨opx,hR,(bT.cast g oom),(by rw [a1,show i64.wrap (e / 64)=e / 64 from A3b (by simp [IntKind.min,IntKind.signed,IntKind.bits];omega) (by simp [IntKind.max,IntKind.signed,IntKind.bits];omega)];omega),(by first|omega|(simp only [List.length_set];omega)),opx⟩
 refine k_ ?_
 refine cI 3 [0] (fun n=>[(6,pt n 0)]) (fun _=>[iv 0,iv 0,iv 192,iv 224,iv 240]) 304 fun n=>?_
 refine ie ?_
 refine k_ ?_
 refine ix Z (A9f Tryz.underlying304 cE Z Z Z ((H3 d).toNat) opx opx) (ix Z (Y2 (u:=iv ([0,0,192,224,240].getD _ 0)) (c:=H0) cE jJ Z Z 0 Z _ 0 Z (gd 0 oqd) Z) ?_)
 refine k_ ?_
 refine ix Z B1 (ix Z (G1 (J8.pure Z) (B4p)) ?_)
 obtain ⟨b14,p⟩:=bT.some g opx
 obtain ⟨a3,a2,a0⟩:=o
 obtain rfl:a3=some b14:=p
 refine ix Z (Z5 A6y Z Z Z 0 Z opx) (it Z (A8t (us:=[.int .u8 ((by8 (IntKind.u8.wrap ((([0,0,192,224,240]:List Int).getD ((H3 d).toNat) 0)+e))).toNat:Int)]) (u':=(by8 (IntKind.u8.wrap ((([0,0,192,224,240]:List Int).getD ((H3 d).toNat) 0)+e)))) (c:=cJ) (sz:=1) ty5 jJ Z Z Z 1 Z Z Z Z 0 0 Z (gd 0 opx) Z Z) fun _=>(ie ?_))
 refine k_ ?_
 refine ix Z (E4z (pre:=[_]) Tryz.underlying9 Tryz.underlying97 Z (by first|rfl|(rw [List.length_set];rfl)) Z (bT.cast g oom) oki) ?_
 refine k_ ?_
 subst hR
 exact q8
def B1v (a:Act):List UInt8 :=
 (bif (decide (a.kind=3)) then ([8]:List UInt8) else (bif (decide (a.kind=5)) then ([10]:List UInt8) else (bif (decide (a.kind=6)) then ([13]:List UInt8) else ([]:List UInt8))))
theorem C4v (hR:B1v a=R) (h:(a.kind=3∨a.kind=5∨a.kind=6∨a.kind=19∨a.kind=20∨a.kind=22∨a.kind=30∨a.kind=34)∧(0≤a.n∧a.n≤1000)∧(0≤a.m∧a.m≤1000)∧(a.kind=20→a.n≤3)):R.length≤3∧(R=[]→a.kind=19∨a.kind=20∨a.kind=22∨a.kind=30∨a.kind=34):=by
 subst hR;unfold B1v
 grind
theorem D8h (hR:B1v a=R) (ha:(a.kind=3∨a.kind=5∨a.kind=6∨a.kind=19∨a.kind=20∨a.kind=22∨a.kind=30∨a.kind=34)∧(0≤a.n∧a.n≤1000)∧(0≤a.m∧a.m≤1000)∧(a.kind=20→a.n≤3):=by exact bW):J7 prog 169 [ag (A2 a)] [] (sv R):=by
 refine cD Tryz.func169 fun X hX hr hD=>?_
 rw[B1v]at hR
 refine k_ ?_
 refine cI 2 [] (fun b1=>[(1,pt b1 0)]) (fun _=>(A2 a)) 51 fun b1=>?_
 refine ie (A3 (bS Z (cB 2 [0] 4 Z (ie (A9 (bS Z (bP 2 5 Z (ie (G3 Z (fun y=>?_) (fun y=>?_))))))))))
 ·have a0:=bV y
  exfalso;omega
 have a0:=bV y
 refine bS Z (bP 2 7 Z (ie (G3 Z (fun u=>?_) (fun u=>?_))))
 ·have a4:=bV u
  replace hR:=bt hR u
  refine k_ ?_
  subst hR
  exact q8
 have a4:=bV u
 replace hR:=bf hR u
 refine bS Z (bP 2 9 Z (ie (G3 Z (fun h4=>?_) (fun h4=>?_))))
 ·have a5:=bV h4
  exfalso;omega
 have a5:=bV h4
 refine bS Z (bP 2 11 Z (ie (G3 Z (fun q=>?_) (fun q=>?_))))
 ·have a2:=bV q
  replace hR:=bt hR q
  refine k_ ?_
  subst hR
  exact q8
 have a2:=bV q
 replace hR:=bf hR q
 refine bS Z (bP 2 13 Z (ie (G3 Z (fun x=>?_) (fun x=>?_))))
 ·have z:=bV x
  replace hR:=bt hR x
  refine k_ ?_
  subst hR
  exact q8
 have z:=bV x
 replace hR:=bf hR x
 refine bS Z (bP 2 15 Z (ie (G3 Z (fun h7=>?_) (fun h7=>?_))))
 ·have a8:=bV h7
  exfalso;omega
 have a8:=bV h7
 refine bS Z (bP 2 20 Z (ie (G3 Z (fun h8=>?_) (fun h8=>?_))))
 ·have a1:=bV h8
  exfalso;omega
 have a1:=bV h8
 refine bS Z (bP 2 22 Z (ie (G3 Z (fun h9=>?_) (fun h9=>?_))))
 ·have a9:=bV h9
  exfalso;omega
 have a9:=bV h9
 refine bS Z (bP 2 24 Z (ie (G3 Z (fun e=>?_) (fun e=>?_))))
 ·have r:=bV e
  exfalso;omega
 have r:=bV e
 refine bS Z (bP 2 26 Z (ie (G3 Z (fun h=>?_) (fun h=>?_))))
 ·have o:=bV h
  exfalso;omega
 have o:=bV h
 refine bS Z (bP 2 28 Z (ie (G3 Z (fun f=>?_) (fun f=>?_))))
 ·have t:=bV f
  exfalso;omega
 have t:=bV f
 refine bS Z (bP 2 30 Z (ie (G3 Z (fun b=>?_) (fun b=>?_))))
 ·have v:=bV b
  exfalso;omega
 have v:=bV b
 refine bS Z (bP 2 32 Z (ie (G3 Z (fun c=>?_) (fun c=>?_))))
 ·have p:=bV c
  exfalso;omega
 have p:=bV c
 refine bS Z (bP 2 34 Z (ie (G3 Z (fun g=>?_) (fun g=>?_))))
 ·have k:=bV g
  exfalso;omega
 have k:=bV g
 refine bS Z (bP 2 40 Z (ie (G3 Z (fun i=>?_) (fun i=>?_))))
 ·have l:=bV i
  exfalso;omega
 have l:=bV i
 refine bS Z (bP 2 42 Z (ie (G3 Z (fun d=>?_) (fun d=>?_))))
 ·have s:=bV d
  exfalso;omega
 have s:=bV d
 refine bS Z (bP 2 52 Z (ie (G3 Z (fun j=>?_) (fun j=>?_))))
 ·have w:=bV j
  exfalso;omega
 refine k_ ?_
 subst hR
 exact q8
def A1d (n:Int) (none_:Int):List UInt8 :=
 (bif (decide (n=none_)) then ([]:List UInt8) else (S0 (n.toNat+1) n))
theorem A1w (n k:Int) (h:n≤9999):(A1d n k).length≤10000:=by
 have:=Z9 (n.toNat+1) n
 unfold A1d;grind
theorem B2x (hR:A1d n none_=R) (c:n≤9999:=by exact bW):J7 prog 240 [iv n,iv none_] [] (sv R):=by
 refine cD Tryz.func240 fun X hX hr hD=>?_
 rw[A1d]at hR
 refine k_ ?_
 refine ie ?_
 refine k_ ?_
 refine ie ?_
 refine cK Z hR ?_ ?_<;>intro hR b a
 ·refine k_ ?_
  subst hR
  exact q8
 refine k_ ?_
 refine zv Z (B7x (n.toNat+1) n oyd (Nat.lt_succ_self _) _ Z) ?_
 refine k_ ?_
 subst hR
 exact q8
def B1r (n:Int) (m:Int) (none_:Int):List UInt8 :=
 (bif (decide (m=none_)) then (B5 (A1d n none_) fun (c:List UInt8)=>c) else (B5 (A1d n none_) fun (a:List UInt8)=>(B5 (A1d m none_) fun (b:List UInt8)=>((a++([59]:List UInt8))++b))))
theorem C6f (n m k:Int) (h:n≤9999∧m≤9999):(B1r n m k).length≤20001:=by
 have a:=A1w n k h.1
 have b:=A1w m k h.2
 unfold B1r B5;grind
theorem E4y (hR:B1r n m none_=R) (i:n≤9999∧m≤9999:=by exact bW):J7 prog 211 [iv n,iv m,iv none_] [] (sv R):=by
 refine cD Tryz.func211 fun X hX hr hD=>?_
 rw[B1r]at hR
 refine k_ ?_
 refine ie ?_
 refine k_ ?_
 refine ie ?_
 refine cK Z hR ?_ ?_<;>intro hR j h
 ·refine k_ ?_
  obtain ⟨f,c,hR⟩:=C3 hR
  refine zv Z (B2x c) ?_
  have:=A1w n none_ opx;try rw [c] at this
  refine k_ ?_
  subst hR
  exact q8
 refine k_ ?_
 obtain ⟨e,b,hR⟩:=C3 hR
 refine zv Z (B2x b) ?_
 have:=A1w n none_ opx;try rw [b] at this
 refine ix Z (zst Z Z Z) ?_
 refine k_ ?_
 obtain ⟨d,a,hR⟩:=C3 hR
 refine zv Z (B2x a) ?_
 have:=A1w m none_ opx;try rw [a] at this
 refine ix Z (zst Z Z Z) ?_
 refine k_ ?_
 subst hR
 exact q8
def A6o (s:List UInt8) (n:Int):List UInt8 :=
 ((s.drop ((n).toNat)).take (((n).toNat+1) - ((n).toNat)))
theorem B2p (s:List UInt8) (n:Int) (h:0≤n):(A6o s n).length≤1:=by grind[A6o]
theorem D0c {s:List UInt8} (hR:A6o s n=R) (b:0≤n∧n<(s.length:Int):=by exact bW) (a:s.length≤1000:=by exact bW):J7 prog 210 [sv s,iv n] [] (sv R):=by
 refine cD Tryz.func210 fun X hX hr hD=>?_
 rw[A6o]at hR
 refine k_ ?_
 refine ie (k_ ?_)
 refine ix Z B1 (ix Z (E5h Tryz.underlying9 Z Z Z Z ((n).toNat) opx ((n).toNat+1) opx opx opx) (k_ ?_))
 subst hR
 exact q8
def A4v (a:Act):Nat→Nat→List UInt8
 | 0,_=>[]
 | fu1+1,i=>(bif (decide ((i:Int)<10)) then (bif (decide (a.kind=(([22,23,24,25,28,29,30,31,32,34]:List Int).getD i 0))) then (B5 (A1d a.n 1) fun (b:List UInt8)=>(B5 (A6o ([71,100,73,90,64,80,88,76,77,98]:List UInt8) (i:Int)) fun (c:List UInt8)=>(b++c))) else A4v a fu1 (i+1)) else ([]:List UInt8))
def B0y (a:Act):List UInt8 :=
 (bif (decide (a.kind=20)) then (B5 (A1d a.m 1) fun (b:List UInt8)=>(B5 (A6o ([65,66,67,68]:List UInt8) a.n) fun (c:List UInt8)=>(b++c))) else A4v a ((10 - 0)+1) 0)
theorem B5j (a:Act) (b:a.n≤1000):∀ (fu i:Nat),(A4v a fu i).length≤10010
 | 0,i=>Nat.zero_le _
 | fu+1,i=>by
  have d:=B5j a b fu (i+1)
  have c:=A1w a.n 1 opx
  have e:=B2p [71,100,73,90,64,80,88,76,77,98] i opx
  rw [A4v];simp only [B5,Bool.cond_eq_ite]
  repeat' split
  all_goals first|omega|(simp only [List.length_append,List.length_cons,List.length_nil];omega)
theorem B8s (h:(a.kind=19∨a.kind=20∨a.kind=22∨a.kind=30∨a.kind=34)∧(0≤a.n∧a.n≤1000)∧(0≤a.m∧a.m≤1000)∧(a.kind=20→a.n≤3)):(B0y a).length≤10010:=by
 have c:=A1w a.m 1 opx
 have d:=B2p [65,66,67,68] a.n opx
 have b:=B5j a opx ((10 - 0)+1) 0
 unfold B0y;simp only [B5,Bool.cond_eq_ite]
 grind
theorem D2w (hR:B0y a=R) (ha:(a.kind=19∨a.kind=20∨a.kind=22∨a.kind=30∨a.kind=34)∧(0≤a.n∧a.n≤1000)∧(0≤a.m∧a.m≤1000)∧(a.kind=20→a.n≤3):=by exact bW):J7 prog 212 [ag (A2 a)] [] (sv R):=by
 refine cD Tryz.func212 fun X hX hr hD=>?_
 rw[B0y]at hR
 refine k_ ?_
 refine cI 2 [] (fun v=>[(1,pt v 0)]) (fun _=>(A2 a)) 51 fun v=>?_
 refine ie (A3 (bS Z (cB 2 [0] 6 Z (ie (A9 (bS Z (bP 2 7 Z (ie (G3 Z (fun r=>?_) (fun r=>?_))))))))))
 ·have y:=bV r
  replace hR:=bt hR r
  refine sd 8 Z oki Z ?_
  refine pg1 2 [0] 10 Z ?_
  obtain ⟨l,e,hR⟩:=C3 hR
  refine zvd Z (B2x e) ?_
  have:=A1w a.m 1 opx;try rw [e] at this
  refine pg1 2 [0] 13 Z ?_
  obtain ⟨k,f,hR⟩:=C3 hR
  refine zvd Z (D0c f) ?_
  have:=B2p ([65,66,67,68]:List UInt8) a.n opx;try rw [f] at this
  refine dd Z (zst Z Z Z) ?_
  refine pd1 1 2 Z ?_
  subst hR
  refine k_ ?_
  exact F7 hr hD
 have y:=bV r
 replace hR:=bf hR r
 refine bS Z (bP 2 16 Z (ie (G3 Z (fun h3=>?_) (fun h3=>?_))))
 ·have a2:=bV h3
  exfalso;omega
 have a2:=bV h3
 refine bS Z (bP 2 25 Z (ie (G3 Z (fun h4=>?_) (fun h4=>?_))))
 ·have a4:=bV h4
  exfalso;omega
 have a4:=bV h4
 refine bS Z (bP 2 34 Z (ie (G3 Z (fun h5=>?_) (fun h5=>?_))))
 ·have a0:=bV h5
  exfalso;omega
 have a0:=bV h5
 refine bS Z (bP 2 40 Z (ie (G3 Z (fun h6=>?_) (fun h6=>?_))))
 ·have x:=bV h6
  exfalso;omega
 have x:=bV h6
 refine bS Z (bP 2 46 Z (ie (G3 Z (fun h7=>?_) (fun h7=>?_))))
 ·have a8:=bV h7
  exfalso;omega
 have a8:=bV h7
 refine bS Z (bP 2 52 Z (ie (G3 Z (fun h8=>?_) (fun h8=>?_))))
 ·have z:=bV h8
  exfalso;omega
 refine k_ ?_
 refine cI 3 [0] (fun w=>[(3,pt w 0)]) (fun _=>[iv 22,iv 23,iv 24,iv 25,iv 28,iv 29,iv 30,iv 31,iv 32,iv 34]) 230 fun w=>?_
 refine ie ?_
 refine k_ ?_
 refine ie (A9 ?_)
 refine A1y (un fun fu i=>((10 - i)<fu∧A4v a fu i=R,[(1,_),(3,_),(4,iv i)],[_,_],_,fu)) (_,0) ⟨(Nat.lt_succ_self _),hR⟩ bU A7.nil ?_
 rintro ⟨fu,i⟩ ⟨aa,hR⟩
 obtain ⟨fu1,rfl⟩:∃ m,fu=m+1:=⟨fu - 1,by omega⟩
 rw[A4v]at hR
 refine A3 (bS Z (bP 2 60 Z (ie (G3 Z (fun p=>?_) (fun p=>?_)))))
 ·have s:=bV p
  replace hR:=bt hR p
  refine A4 (nx (A3 (A9 (sd 6 Z oki Z ?_))))
  refine pg2 3 [1] 64 65 Z ?_
  refine dd Z (A9f Tryz.underlying230 cE Z Z Z i Z opx) (dd Z (Y2 (u:=iv ([22,23,24,25,28,29,30,31,32,34].getD i 0)) (c:=H0) cE jJ Z Z 0 Z i 0 Z (gd 0 oqd) Z) (pd1 1 68 Z (de (G3 Z (fun o=>?_) (fun o=>?_)))))
  ·have t:=bV o
   replace hR:=bt hR o
   refine k_ ?_
   obtain ⟨g,b,hR⟩:=C3 hR
   refine zv Z (B2x b) ?_
   have:=A1w a.n 1 opx;try rw [b] at this
   refine k_ ?_
   obtain ⟨h,d,hR⟩:=C3 hR
   refine zv Z (D0c d) ?_
   have:=B2p ([71,100,73,90,64,80,88,76,77,98]:List UInt8) (i:Int) opx;try rw [d] at this
   refine ix Z (zst Z Z Z) ?_
   refine k_ ?_
   subst hR
   exact q8
  have t:=bV o
  replace hR:=bf hR o
  refine k_ ?_
  refine ix Z B1 ?_
  refine k_ ?_
  refine A1 ?_
  exact z0 (_,_) ⟨opx,hR⟩
 replace hR:=bf hR p
 refine k_ ?_
 subst hR
 exact q8
def B5k (a:Act):List UInt8 :=
 (bif (decide (a.kind=19)) then (B5 (B1r a.n a.m 1) fun (c:List UInt8)=>(c++([72]:List UInt8))) else (B5 (B0y a) fun (b:List UInt8)=>b))
theorem C2t (h:(a.kind=19∨a.kind=20∨a.kind=22∨a.kind=30∨a.kind=34)∧(0≤a.n∧a.n≤1000)∧(0≤a.m∧a.m≤1000)∧(a.kind=20→a.n≤3)):(B5k a).length≤30000 - 10:=by
 have b:=C6f a.n a.m 1 opx
 have c:=B8s h
 unfold B5k;simp only [B5,Bool.cond_eq_ite]
 grind
theorem D8z (hR:B5k a=R) (x:(a.kind=19∨a.kind=20∨a.kind=22∨a.kind=30∨a.kind=34)∧(0≤a.n∧a.n≤1000)∧(0≤a.m∧a.m≤1000)∧(a.kind=20→a.n≤3):=by exact bW):J7 prog 170 [ag (A2 a)] [] (sv R):=by
 refine cD Tryz.func170 fun X hX hr hD=>?_
 rw[B5k]at hR
 refine k_ ?_
 refine cI 2 [] (fun w=>[(1,pt w 0)]) (fun _=>(A2 a)) 51 fun w=>?_
 refine ie ?_
 refine k_ ?_
 refine zv Z (B7x (a.n.toNat+1) _ oyd (Nat.lt_succ_self _) _ Z) ?_
 refine bP 1 3 Z (ie (A3 (bS Z (cB 2 [0] 8 Z (ie (A9 (bS Z (bP 2 9 Z (ie (G3 Z (fun f=>?_) (fun f=>?_)))))))))))
 ·have k:=bV f
  replace hR:=bt hR f
  refine k_ ?_
  obtain ⟨e,c,hR⟩:=C3 hR
  refine zv Z (E4y c) ?_
  have:=C6f a.n a.m 1 opx;try rw [c] at this
  refine ix Z (zst Z Z Z) ?_
  refine k_ ?_
  subst hR
  exact q8
 have k:=bV f
 replace hR:=bf hR f
 refine bS Z (bP 2 17 Z (ie (G3 Z (fun h=>?_) (fun h=>?_))))
 ·have s:=bV h
  exfalso;omega
 have s:=bV h
 refine bS Z (bP 2 25 Z (ie (G3 Z (fun r=>?_) (fun r=>?_))))
 ·have t:=bV r
  exfalso;omega
 have t:=bV r
 refine bS Z (bP 2 32 Z (ie (G3 Z (fun v=>?_) (fun v=>?_))))
 ·have q:=bV v
  exfalso;omega
 have q:=bV v
 refine bS Z (bP 2 40 Z (ie (G3 Z (fun p=>?_) (fun p=>?_))))
 ·have i:=bV p
  exfalso;omega
 have i:=bV p
 refine bS Z (bP 2 44 Z (ie (G3 Z (fun u=>?_) (fun u=>?_))))
 ·have l:=bV u
  exfalso;omega
 have l:=bV u
 refine bS Z (bP 2 51 Z (ie (G3 Z (fun g=>?_) (fun g=>?_))))
 ·have o:=bV g
  exfalso;omega
 refine k_ ?_
 refine bY 1 2 [0] [(60,ag (A2 a))] ?_
 obtain ⟨d,b,hR⟩:=C3 hR
 refine zv Z (D2w b) ?_
 have:=B8s (a:=a) opx;try rw [b] at this
 refine bP 1 2 Z ?_
 subst hR
 refine k_ ?_
 exact F7 hr hD
def A3p (a:Act):List UInt8 :=
 (bif (decide (a.kind=1)) then (B5 (B0j a.n) fun (e:List UInt8)=>e) else (bif (decide (a.kind=39)) then (B5 (A6l ([a]:jz)) fun (d:List UInt8)=>d) else (B5 (B1v a) fun (b:List UInt8)=>(bif (!(decide (b=([]:List UInt8)))) then b else (B5 (B5k a) fun (c:List UInt8)=>(([27,91]:List UInt8)++c))))))
theorem D8f (h:(a.kind=1∨a.kind=3∨a.kind=5∨a.kind=6∨a.kind=19∨a.kind=20∨a.kind=22∨a.kind=30∨a.kind=34∨a.kind=39)∧a.text.length≤100000000∧(a.kind=1∨a.kind=39∨((0≤a.n∧a.n≤1000)∧(0≤a.m∧a.m≤1000)∧(a.kind=20→a.n≤3)))):(A3p a).length≤1000000:=by
 have p:=C0b a.n
 have r:=B8m [a]
 by_cases h1:a.kind=1
 ·unfold A3p;simp only [B5,h1,Int.reduceEq,decide_true,decide_false,cond_true,cond_false];omega
 by_cases h2:a.kind=39
 ·unfold A3p;simp only [B5,h2,Int.reduceEq,decide_true,decide_false,cond_true,cond_false];omega
 have s:=C4v (a:=a) Z opx
 unfold A3p;simp only [B5,jX h1,jX h2,cond_false]
 by_cases hs:B1v a=[]
 ·have o:=C2t (a:=a) (by grind)
  grind
 grind
theorem E6w (hR:A3p a=R) (ha:(a.kind=1∨a.kind=3∨a.kind=5∨a.kind=6∨a.kind=19∨a.kind=20∨a.kind=22∨a.kind=30∨a.kind=34∨a.kind=39)∧a.text.length≤100000000∧(a.kind=1∨a.kind=39∨((0≤a.n∧a.n≤1000)∧(0≤a.m∧a.m≤1000)∧(a.kind=20→a.n≤3))):=by exact bW):J7 prog 109 [ag (A2 a)] [] (sv R):=by
 refine cD Tryz.func109 fun X hX hr hD=>?_
 rw[A3p]at hR
 refine k_ ?_
 refine cI 2 [] (fun b1=>[(1,pt b1 0)]) (fun _=>(A2 a)) 51 fun b1=>?_
 refine ie (A3 (bS Z (cB 2 [0] 7 Z (ie (A9 (bS Z (bP 2 8 Z (ie (G3 Z (fun r=>?_) (fun r=>?_))))))))))
 ·have y:=bV r
  replace hR:=bt hR r
  refine k_ ?_
  obtain ⟨o,f,hR⟩:=C3 hR
  refine zv Z (D2n f) ?_
  have:=C0b a.n;try rw [f] at this
  refine k_ ?_
  subst hR
  exact q8
 have y:=bV r
 replace hR:=bf hR r
 refine A3 (bS Z (bP 2 13 Z (ie (G3 Z (fun x=>?_) (fun x=>?_)))))
 ·have a0:=bV x
  exfalso;omega
 have a0:=bV x
 refine bS Z (bP 2 13 Z (ie (G3 Z (fun z=>?_) (fun z=>?_))))
 ·have a1:=bV z
  exfalso;omega
 have a1:=bV z
 refine A0 2 Z (bP 2 13 Z (A1 (nx (G3 Z (fun w=>?_) (fun w=>?_)))))
 ·have v:=bV w
  exfalso;omega
 have v:=bV w
 try (have t:=i.2 (by first|exact Decidable.not_not.1 v|simpa using w))
 refine bS Z (bP 2 26 Z (ie (G3 Z (fun q=>?_) (fun q=>?_))))
 ·have s:=bV q
  replace hR:=bt hR q
  refine k_ ?_
  refine bY 1 3 [0] [(28,ag (A2 a))] ?_
  refine it Z (B0 (c:=A2) (xs:=[a]) N3 Z Z Z oki) fun b7=>?_
  have:([a]:jz).length=1:=rfl
  obtain ⟨j,e,hR⟩:=C3 hR
  refine zv Z (C9j (l:=[a]) e) ?_
  have:=B8m ([a]:jz);try rw [e] at this
  refine bP 1 2 Z ?_
  subst hR
  refine k_ ?_
  exact F7 hr hD
 have s:=bV q
 replace hR:=bf hR q
 try (have t:=i.2 (by first|exact Decidable.not_not.1 s|simpa using q))
 refine k_ ?_
 refine bY 1 2 [0] [(31,ag (A2 a))] ?_
 obtain ⟨g,b,hR⟩:=C3 hR
 refine zv Z (D8h b) ?_
 have i:=C4v b ojv
 have:=i.1;try rw [b] at this
 refine bP 1 5 Z (ie (A3 (bS Z (bP 1 33 Z (ix Z (B2u Z Z Z) (ie (G3 Z (fun p=>?_) (fun p=>?_))))))))
 ·have u:=bV p
  replace hR:=bt hR p
  refine k_ ?_
  subst hR
  exact q8
 have u:=bV p
 replace hR:=bf hR p
 try (have t:=i.2 (by first|exact Decidable.not_not.1 u|simpa using p))
 refine k_ ?_
 refine bY 1 3 [0] [(36,ag (A2 a))] ?_
 obtain ⟨h,d,hR⟩:=C3 hR
 refine zv Z (D8z d) ?_
 have:=C2t (a:=a) opx;try rw [d] at this
 refine ix Z (zst Z Z Z) ?_
 refine bP 1 2 Z ?_
 subst hR
 refine k_ ?_
 exact F7 hr hD
def B0m (d:jz) (out:List UInt8) (a:jz→List UInt8→(List UInt8×Int)):Nat→Nat→(List UInt8×Int)
 | 0,_=>([],0)
 | fu3+1,n=>(bif (((decide ((n:Int)<(d.length:Int)))&&(decide ((n:Int)<16)))&&(decide ((d.getD n ZZ).kind=39))) then B0m d out a fu3 (n+1) else (bif (decide ((0:Int)<(n:Int))) then (B5 (A6l (d.take n)) fun (b:List UInt8)=>a (d.drop n) (out++b)) else (B5 (A3p (d.getD 0 ZZ)) fun (c:List UInt8)=>a (d.drop 1) (out++c))))
def A4e:Nat→jz→List UInt8→(List UInt8×Int)
 | 0,_,_=>([],0)
 | fu1+1,l1,out=>(bif (decide ((0:Int)<(l1.length:Int))) then B0m l1 out (A4e fu1) ((l1.length - 0)+1) 0 else (out,0))
def A7u (l:jz):jz→Nat→(List UInt8×Int)
 | [],i=>A4e (l.length+1) l ([]:List UInt8)
 | hd_l0::tl_l0,i=>(bif (!(A4n hd_l0)) then (([]:List UInt8),200) else A7u l tl_l0 (i+1))
def C5a (l:jz):List UInt8×Int :=
 (bif (decide ((131072:Int)<(l.length:Int))) then (([]:List UInt8),3) else A7u l l 0)
theorem ojx (h:p:=by (simp +zetaDelta only [List.length_nil];omega)):p:=h
theorem ohl (h:p:=by first|omega|(simp +zetaDelta only [List.length_append,List.length_drop];omega)):p:=h
theorem E6s {R:List UInt8×Int} (hR:C5a l=R) (al:l.length≤9223372036854775807:=by exact bW) (au:l.length≤lk:=by exact bW) (a0:∀ a ∈ l,k6 a:=by exact bW):cM prog 70 [.slice lq l.length lk] [] [sl A2 lq l] ({r:VR // bT 1 R.1.length r}) (fun x=>.tuple #[.slice (va x.1.q) R.1.length x.1.k,iv R.2]) (fun x=>((vo cJ 5 x.1 R.1)++([]))) (fun x=>[]):=by
 refine cD Tryz.func70 fun X hX hr hD=>?_
 rw[C5a]at hR
 refine k_ ?_
 refine ie ?_
 refine k_ ?_
 refine ie ?_
 refine cK Z hR ?_ ?_<;>intro hR h1 ao
 ·refine k_ ?_
  subst hR
  refine ie (A8 ?_)
  exact cy ⟨_,bT.nil⟩
 refine k_ ?_
 refine ie (A9 ?_)
 refine A1y (fun i=>(i≤l.length∧A7u l (l.drop i) i=R,[(0,_),(4,iv i)],_,_,l.length - i)) 0 ⟨opx,hR⟩ bU A7.refl ?_
 rintro i ⟨ap,hR⟩
 refine A3 (bS Z (bP 4 13 Z (ie (G3 Z (fun h3=>?_) (fun h3=>?_)))))
 ·have a6:=bV h3
  rw [A1a ZZ (show i<l.length by omega)] at hR;rw[A7u]at hR
  refine k_ ?_
  refine H8 0 Z opx fun a4 z=>(ix Z (E7 N3 Z Z z Z i) (ix Z (J0 C5s Z Z (F8 (sz:=6) z jJ 0 Z (gd ZZ opx)) Z) ?_))
  refine zv Z (D8s Z (by exact C9q oiu opx)) ?_
  refine k_ ?_
  refine ie ?_
  refine zjb Z hR ?_ ?_<;>intro hR h6
  ·refine k_ ?_
   subst hR
   refine ie (A8 ?_)
   exact cy ⟨_,bT.nil⟩
  refine k_ ?_
  refine ix Z B1 ?_
  refine k_ ?_
  refine A1 ?_
  exact z0 _ ⟨opx,hR⟩
 have a6:=bV h3
 rw [A1b a6] at hR;rw[A7u]at hR
 refine k_ ?_
 refine ie ?_
 refine k_ ?_
 refine A1y (un fun fu=>un fun e=>un fun p=>un fun g=>un fun out b=>(e.length<fu∧A4e fu e out=R∧e.length≤g∧e.length≤9223372036854775807∧bT 1 out.length b∧(∀ a ∈ e,k6 a)∧out.length+1000000 * e.length≤1000000000000,[(0,.slice p e.length g),(5,.slice (va b.q) out.length b.k)],((vo cJ 5 b out)++([])),[_,sl _ p e],fu)) (_,l,_,_,_,_) ⟨(Nat.lt_succ_self _),hR,okl,okl,bT.nil,(by exact a0),ojx⟩ bU c9 ?_
 rintro ⟨fu,e,p,g,out,b⟩ ⟨aq,hR,ai,aj,j,a1,hb⟩
 have:=bT.le j
 obtain ⟨fu1,rfl⟩:∃ m,fu=m+1:=⟨fu - 1,by omega⟩
 rw[A4e]at hR
 refine k_ ?_
 refine ie ?_
 refine cK Z hR ?_ ?_<;>intro hR h8 am
 ·refine k_ ?_
  refine ie ?_
  refine k_ ?_
  refine A1y (un fun t n=>((e.length - n)<t∧B0m e _ _ t n=R∧n≤16∧n≤e.length,[(0,_),(5,_),(6,iv n)],((vo _ 5 b _)++([])),_,t)) (_,0) ⟨(Nat.lt_succ_self _),hR,opx⟩ bU A7.refl ?_
  rintro ⟨t,n⟩ ⟨ar,hR,hn⟩
  obtain ⟨fu3,rfl⟩:∃ m,t=m+1:=⟨t - 1,by omega⟩
  rw[B0m]at hR
  refine k_ ?_
  refine zid 3 8 29 32 (decide ((n:Int)<16)) (fun ac ah=>?_) ?_
  ·refine bP 3 32 Z (A1 ?_)
   exact I1 2 29 _ ac A7.refl bU Z Z Z Z Z
  refine k_ ?_
  refine zia 7 0 33 40 (decide ((e.getD n ZZ).kind=39)) (fun a3=>?_) ?_
  ·have af:=bV a3
   refine k_ ?_
   refine H8 1 Z opx fun av y=>(ix Z (E7 N3 Z Z y Z n) ?_)
   refine k_ ?_
   refine ix Z (B6 cE Z Z (U0 (F8 (sz:=6) y jJ 1 Z (gd _ opx)) (ws:=[iv ((e.getD n ZZ).kind)]) 1 Z) Z) (bP 2 40 Z (A1 ?_))
   exact I1 7 33 _ a3 A7.refl bU Z Z Z Z Z
  refine ie ?_
  refine zjb Z hR ?_ ?_<;>intro hR a2
  ·have a5:=bV a2
   refine k_ ?_
   refine ix Z B1 ?_
   refine k_ ?_
   refine A1 ?_
   exact z0 (_,_) ⟨opx,hR,opx⟩
  have a5:=bV a2
  refine k_ ?_
  refine ie ?_
  refine cK Z hR ?_ ?_<;>intro hR an ae
  ·refine k_ ?_
   refine D4 (D4c (A5 1 Z) n) (ix Z (B5n (n':=(e.take n).length) N3 Z Z n g (A1l Z Z) A2b opx opx ofx Z) ?_)
   have:=@List.length_take _ n e
   obtain ⟨d,h,hR⟩:=C3 hR
   refine zv Z (C9j h) ?_
   have:=B8m (e.take n);try rw [h] at this
   refine it Z (B4z (r:=b) (xs:=out) (s:=d) (pre:=[]) (post:=[]) C2m oki Tryz.underlying9 Z Z Z Z Z Z Z j ofv) fun ⟨ad,w⟩=>?_
   have:=@List.length_append _ out d
   refine k_ ?_
   refine ie ?_
   refine k_ ?_
   refine D4 (C9o (sz:=6) (A5 2 Z) n g jJ opx opx) (ix Z (B2m (n':=(e.drop n).length) N3 Z Z n _ g (A1l Z Z) A2b A2b opx opx opx ofx Z) ?_)
   have:=@List.length_drop _ n e
   refine k_ ?_
   refine ie (F1 ?_)
   exact z0 (_,_,_,g - n,_,_) ⟨opx,hR,okl,okl,w,(by exact fun a ha=>a1 a (List.mem_of_mem_drop ha)),ohl⟩
  refine k_ ?_
  refine H8 1 Z opx fun ak v=>(ix Z (E7 N3 Z Z v Z 0) (ix Z (J0 C5s Z Z (F8 (sz:=6) v jJ 1 Z (gd ZZ opx)) Z) ?_))
  obtain ⟨f,o,hR⟩:=C3 hR
  refine zv Z (E6w o (by exact C9q oiu opx)) ?_
  have:=D8f (a:=(e.getD 0 ZZ)) (by first|exact C9q oiu opx|omega);try rw [o] at this
  refine it Z (B4z (r:=b) (xs:=out) (s:=f) (pre:=[]) (post:=[]) C2m oki Tryz.underlying9 Z Z Z Z Z Z Z j ofv) fun ⟨aa,u⟩=>?_
  have:=@List.length_append _ out f
  refine k_ ?_
  refine ie ?_
  refine k_ ?_
  refine D4 (C9o (sz:=6) (A5 1 Z) 1 g jJ opx opx) (ix Z (B2m (n':=(e.drop 1).length) N3 Z Z 1 _ g (A1l Z Z) A2b A2b opx opx opx ofx Z) ?_)
  have:=@List.length_drop _ 1 e
  refine k_ ?_
  refine A1 ?_
  exact z0 (_,_,_,g - 1,_,_) ⟨opx,hR,okl,okl,u,(by exact fun a ha=>a1 a (List.mem_of_mem_drop ha)),ohl⟩
 refine k_ ?_
 subst hR
 refine ie (A8 ?_)
 exact cy ⟨b,j⟩
def A0g (l:jz):List UInt8 :=
 (B5 (C5a l) fun (a:List UInt8×Int)=>a.1)
theorem B9v (hR:A0g l=R) (f:l.length≤9223372036854775807:=by exact bW) (i:l.length≤lk:=by exact bW) (e:∀ a ∈ l,k6 a:=by exact bW):cM prog 42 [.slice lq l.length lk] [] [sl A2 lq l] ({r:VR // bT 1 R.length r}) (fun x=>.slice (va x.1.q) R.length x.1.k) (fun x=>((vo cJ 5 x.1 R)++([]))) (fun x=>[]):=by
 refine cD Tryz.func42 fun X hX hr hD=>?_
 rw[A0g]at hR
 refine k_ ?_
 refine ie (k_ ?_)
 obtain ⟨d,b,hR⟩:=C3 hR
 refine zc Z (E6s b) fun ⟨g,c⟩=>?_
 refine k_ ?_
 refine ie (k_ ?_)
 subst hR
 exact ie (A8 (ci _))
theorem C6d {k:Int} (h:(k=3∨k=5∨k=6∨k=19∨k=20∨k=22)∧(0≤n∧n≤1000)∧(0≤m∧m≤1000)∧(k=20→n≤3)):k6 {ZZ with kind:=k,n:=n,m:=m}:=by unfold k6;dsimp only;exact ⟨by omega,Nat.zero_le _,by omega⟩
theorem E1k (h:0≤n∧n≤3∧0≤m∧m≤100):k6 {ZZ with kind:=20,n:=n,m:=m}:=C6d opx
theorem F9j {c0:Pth} (hb:0≤c0.frm.row∧c0.frm.row≤40∧0≤c0.to_.row∧c0.to_.row≤40) (c:e ∈ H7 c0):∀ a ∈ e,k6 a:=by
 rcases D6u c with ⟨rfl,h⟩ | ⟨rfl,h⟩ | ⟨rfl,h⟩ | ⟨rfl,h⟩
 ·simp
 ·exact fun a b=>by rw [List.mem_singleton.1 b];exact E1k opx
 ·exact fun a b=>by rw [List.mem_singleton.1 b];exact E1k opx
 ·rw [B0c];exact fun a b=>by rw [List.eq_of_mem_replicate b];exact C6d (n:=0) (m:=0) opx
theorem F2n {p:Pth} (hb:0≤p.frm.col∧p.frm.col≤80∧0≤p.to_.col∧p.to_.col≤80) (c:e ∈ K0 p):∀ a ∈ e,k6 a:=by
 rcases F0z e c with ⟨rfl,h⟩ | rfl | ⟨rfl,h⟩ | ⟨rfl,h⟩ | ⟨rfl,h⟩ | ⟨rfl,h⟩ | ⟨rfl,h⟩
 ·simp
 ·exact fun a b=>by rw [List.mem_singleton.1 b];exact C6d (k:=22) (n:=p.to_.col+1) (m:=0) opx
 ·exact fun a b=>by rw [List.mem_singleton.1 b];exact E1k opx
 ·exact fun a b=>by rw [List.mem_singleton.1 b];exact E1k opx
 ·rw [B0c];exact fun a b=>by rw [List.eq_of_mem_replicate b];exact C6d (n:=0) (m:=0) opx
 ·rw [B0c];exact fun a b=>by rw [List.eq_of_mem_replicate b];exact C6d (n:=0) (m:=0) opx
 ·rw [B0c];exact fun a b=>by
   rcases List.mem_append.1 b with b | b
   ·rw [List.eq_of_mem_replicate b];exact C6d (n:=0) (m:=0) opx
   ·rw [List.mem_singleton.1 b];exact E1k opx
theorem E8n {f:Cur} {t:Plc} {r:List jz} (hr:A7y f t=r) (hb:(0≤f.row∧f.row≤40∧0≤t.row∧t.row≤40)∧(0≤f.col∧f.col≤80∧0≤t.col∧t.col≤80)):∀ e ∈ r,∀ a ∈ e,k6 a:=by
 subst hr;rw [C1t hb]
 refine E3q ⟨f,t⟩ (fun e=>∀ a ∈ e,k6 a) (fun a c=>?_) _ (fun d g a c _ x b=>?_)
 ·rw [List.mem_singleton.1 c];exact C6d (k:=19) (n:=t.row+1) (m:=t.col+1) opx
 ·rcases List.mem_append.1 b with b | b
  ·exact F9j hb.1 g x b
  ·exact F2n hb.2 c x b
def A1t (a:List jz):List jz→Nat→Nat→jz
 | [],best,i=>(a.getD best [])
 | hd_l0::tl_l0,best,i=>(B5 (A0g hd_l0) fun (c:List UInt8)=>(B5 (A0g (a.getD best [])) fun (b:List UInt8)=>(bif (decide ((c.length:Int)<(b.length:Int))) then A1t a tl_l0 i (i+1) else A1t a tl_l0 best (i+1))))
def A1z (from_:Cur) (to_:Plc):jz :=
 (B5 (A7y from_ to_) fun (a:List jz)=>A1t a (a.drop 1) 0 1)
theorem C4r (W:List jz):∀ (l:List jz) (a i:Nat),∃ k,A1t W l a i=W.getD k []
 | [],a,i=>⟨a,rfl⟩
 | x::l,a,i=>by
  rw [A1t];simp only [B5]
  cases decide (((A0g x).length:Int)<((A0g (W.getD a [])).length:Int)) with
  | true=>exact C4r W l i (i+1)
  | false=>exact C4r W l a (i+1)
theorem D6s (f:Cur) (t:Plc) (hb:(0≤f.row∧f.row≤40∧0≤t.row∧t.row≤40)∧(0≤f.col∧f.col≤80∧0≤t.col∧t.col≤80)):(A1z f t).length≤100:=by
 unfold A1z;simp only [B5]
 obtain ⟨k,a⟩:=C4r (A7y f t) ((A7y f t).drop 1) 0 1
 rw [a,C1t hb,List.getD_eq_getElem?_getD]
 cases h3:(H9 ⟨f,t⟩)[k]? with
 | none=>simp
 | some y=>exact ((C9k (c0:=⟨f,t⟩) hb).1 y (List.mem_of_getElem? h3)).1
theorem E4j {from_:Cur} {to_:Plc} {R:jz} (hR:A1z from_ to_=R) (hb:(0≤from_.row∧from_.row≤40∧0≤to_.row∧to_.row≤40)∧(0≤from_.col∧from_.col≤80∧0≤to_.col∧to_.col≤80):=by exact bW):cM prog 22 [ag (F5 from_),ag (A0n to_)] [] [] ({t:kQ×Nat // R.length≤t.2∧R.length≤9223372036854775807}) (fun x=>.slice x.1.1 R.length x.1.2) (fun x=>[]) (fun x=>[sl A2 x.1.1 R]):=by
 refine cD Tryz.func22 fun X hX hr hD=>?_
 rw[A1z]at hR
 refine k_ ?_
 refine B3r 3 [] (fun b1 b2=>[(2,pt b1 0),(3,pt b2 0)]) (fun _ _=>(F5 from_)) (fun _ _=>(A0n to_)) 29 24 fun b1 b2=>?_
 refine ie (k_ ?_)
 refine bY 2 2 [1,0] [(8,ag (F5 from_)),(9,ag (A0n to_))] ?_
 obtain ⟨b,f,hR⟩:=C3 hR
 refine zc Z (E4p f) fun ⟨⟨r3,g⟩,a0⟩=>?_
 try dsimp only at a0
 obtain ⟨m,e⟩:=a0
 have:=bT.le m
 have:=e.1
 have a5:=E8p f opx
 have:=a5.2;try rw [f] at this
 have z:=E8n f opx
 refine k_ ?_
 refine ie (k_ ?_)
 refine ie (A9 (D0z [_,_] _ (bT.cast m (by rw [e.1])) oll (A1y (un fun a i=>(i≤b.length∧A1t b (b.drop i) a i=R∧(a<b.length∧a<i),[(5,.slice (va r3.q) _ r3.k),(6,iv a),(7,iv i)],[_,_],[_,D8 _ g b],b.length - i)) (0,1) ⟨opx,hR,opx⟩ bU A7.refl ?_)))
 rintro ⟨a,i⟩ ⟨ae,hR,a8⟩
 refine A3 (bS Z (bP 4 14 Z (ie (G3 Z (fun h9=>?_) (fun h9=>?_)))))
 ·have a1:=bV h9
  rw [A1a [] (show i<b.length by omega)] at hR;rw[A1t]at hR
  refine A4 (nx (A3 (A9 (A6v (Q6 (k:=i) (d:=⟨none,0,0⟩) e 1 Z (by have:=e.1;omega)) ?_))))
  have:=Q9 e (k:=i) (d:=(⟨none,0,0⟩:Slc)) (by have:=e.1;omega)
  refine A6v (Q6 (k:=a) (d:=⟨none,0,0⟩) e 2 Z (by have:=e.1;omega)) ?_
  have:=Q9 e (k:=a) (d:=(⟨none,0,0⟩:Slc)) (by have:=e.1;omega)
  refine zS [(13,[0]),(13,[1])] ?_
  refine hq4 [0,1,6,7] 17 18 23 24 Z ?_
  refine B9j 2 Z (by have:=e.1;omega) fun a9 l=>(gk 2 Z (E7 A7m Z Z l Z i) ?_)
  refine gk 3 Z (G1 (B6 C2z Z Z (F8 (sz:=1) l jJ 2 Z (gd ⟨none,0,0⟩ (by have:=e.1;omega))) Z) (M2 e (by have:=e.1;omega))) ?_
  refine gk 8 Z (E7 A7m Z Z l Z a) ?_
  refine gk 9 Z (G1 (B6 C2z Z Z (F8 (sz:=1) l jJ 2 Z (gd ⟨none,0,0⟩ (by have:=e.1;omega))) Z) (M2 e (by have:=e.1;omega))) ?_
  obtain ⟨s,j,hR⟩:=C3 hR
  refine gc 4 [0,1] Z (B9v j bW bW (by first|exact C6w z _|assumption|exact B8u oiu|exact k6_rows oiu _)) fun ⟨ad,w⟩=>?_
  refine hq1 [5] 22 Z ?_
  obtain ⟨p,h,hR⟩:=C3 hR
  refine gc 10 [0,1] Z (B9v h bW bW (by first|exact C6w z _|assumption|exact B8u oiu|exact k6_rows oiu _)) fun ⟨ac,u⟩=>?_
  refine hq1 [11,12] 29 Z ?_
  refine ge ?_
  refine cK Z hR ?_ ?_<;>intro hR aa a7
  ·refine k_ ?_
   refine A1 (k_ ?_)
   refine ix Z B1 (k_ ?_)
   exact A1 (z0 (i,_) ⟨opx,hR,opx⟩)
  refine k_ ?_
  refine ix Z B1 (k_ ?_)
  exact A1 (z0 (a,_) ⟨opx,hR,opx⟩)
 have a1:=bV h9
 rw [A1b a1] at hR;rw[A1t]at hR
 refine k_ ?_
 refine H8 0 Z (by have:=e.1;omega) fun ab o=>(D4 (Q6 (k:=a) (d:=⟨none,0,0⟩) e 1 Z (by have:=e.1;omega)) ?_)
 have:=Q9 e (k:=a) (d:=(⟨none,0,0⟩:Slc)) (by have:=e.1;omega)
 refine ix Z (E7 A7m Z Z o Z a) (ix Z (G1 (B6 C2z Z Z (F8 (sz:=1) o jJ 1 Z (gd ⟨none,0,0⟩ (by have:=e.1;omega))) Z) (M2 e (by have:=e.1;omega))) (k_ ?_))
 subst hR
 exact ie (A8 (ci (zq _ ((g.getD a ⟨none,0,0⟩).k))))
end
end Go.Proofs.YtmldjljkeigpnaaGreatDoor
