import Derived.Test.YtmldjljkeigpnaaGreatDoorProg
import Derived.Test.YtmldjljkeigpnaaGreatDoorMA2
import Derived.Test.YtmldjljkeigpnaaGreatDoorMB1
import Derived.Test.YtmldjljkeigpnaaGreatDoorMA3
set_option linter.unusedVariables false
set_option linter.unusedSimpArgs false
set_option linter.unnecessarySimpa false
set_option maxRecDepth 100000
namespace Go.Proofs.YtmldjljkeigpnaaGreatDoor
section
open Go Go.Fen open Tryz (prog)
variable {R:List UInt8} {a:Act} {d:Addr} {front:List UInt8} {lk:Nat} {lq:kQ} {none_:Int} {p:Prop} {p2 s signs:List UInt8}
theorem P9:MapTy prog 186 3 190 (.int .i64):=⟨by rfl,by rfl,rfl⟩
def B0a (a:Act):List UInt8 :=
 (B5 (B6n a.n) fun (b:List UInt8)=>b)
theorem D0g (hR:B0a a=R):J7 prog 151 [ag (A2 a)] [] (sv R):=by
 refine cD Tryz.func151 fun X hX hr hD=>?_
 rw[B0a]at hR
 refine k_ ?_
 refine cI 2 [] (fun c=>[(1,pt c 0)]) (fun _=>(A2 a)) 51 fun c=>?_
 refine ie (k_ ?_)
 obtain ⟨e,b,hR⟩:=C3 hR
 refine zv Z (E0n b) ?_
 have:=C3t a.n;try rw [b] at this
 refine k_ ?_
 subst hR
 exact q8
def G4 (b:Act) (a:List UInt8):List UInt8 :=
 a
theorem C6p {b:Act} {c:List UInt8} {a:Addr} (hR:G4 b c=R):J7 prog 139 [ag (A2 b),pa a] [at_ a [sv c]] (sv R):=by
 refine cD Tryz.func139 fun X hX hr hD=>?_
 rw[G4]at hR
 refine k_ ?_
 refine cI 2 [] (fun d=>[]) (fun _=>(A2 b)) 51 fun d=>?_
 refine ie (k_ ?_)
 refine ix Z (B6 ty9 Z Z (A5 0 Z) Z) (k_ ?_)
 subst hR
 exact q8
abbrev tk (a:Act):Prop:=a.text.length≤100000000∧a.kind≤43
def D3n (pre:Act→Prop) (f:Act→List UInt8):List Value→Value→Prop:=fun args r=>∃ a:Act,pre a∧args=[ag (A2 a)]∧r=sv (f a)
def A0s (s:List UInt8):Unit :=
 ()
theorem O7 {R:Unit} (hR:A0s s=R):cM prog 138 [sv s] [] [] (Value) (fun x=>x) (fun x=>[]) (fun x=>[P6 prog (x) (D3n (fun _=>True) (fun a=>(G4 a s)))]):=by
 refine cD Tryz.func138 fun X hX hr hD=>?_
 rw[A0s]at hR
 refine k_ ?_
 refine it Z (A2s (cs:=[sv s]) Z Z Z) fun b=>(A6p 0 Z (k_ ?_))
 refine ie (kc_ ?_)
 refine ip' 2 0 [(2,.func (.func 139) #[] #[pa ⟨b,0,none⟩])] ?_
 refine ie (A6v (q:=P6 prog (.func (.func 139) #[] #[pa ⟨b,0,none⟩]) (D3n (fun _=>True) (fun a=>(G4 a s)))) (A2j (fun args r c=>by obtain ⟨a,d,rfl,rfl⟩:=c;exact d7 (C6p Z)) A7.refl) ?_)
 subst hR
 exact A8 (ci (.func (.func 139) #[] #[pa ⟨b,0,none⟩]:Value))
def A7g (s:List UInt8) (n:Int):List UInt8 :=
 ((s.drop ((n).toNat)).take (((n).toNat+1) - ((n).toNat)))
theorem B1f (s:List UInt8) (n:Int) (a:0≤n):(A7g s n).length≤1:=by grind[A7g]
theorem B5o {n:Int} (hR:A7g s n=R) (b:0≤n∧n<(s.length:Int):=by exact bW) (a:s.length≤1000:=by exact bW):J7 prog 142 [sv s,iv n] [] (sv R):=by
 refine cD Tryz.func142 fun X hX hr hD=>?_
 rw[A7g]at hR
 refine k_ ?_
 refine ie (k_ ?_)
 refine ix Z B1 (ix Z (E5h (T:=9) Tryz.underlying9 Z Z Z Z ((n).toNat) opx ((n).toNat+1) opx opx opx) ?_)
 have:=@List.length_drop _ ((n).toNat) s
 have:=@List.length_take _ (((n).toNat+1) - ((n).toNat)) (s.drop ((n).toNat))
 refine k_ ?_
 subst hR
 exact q8
def A1h (a:Act) (c:List UInt8) (p2:List UInt8) (b:Int):List UInt8 :=
 (B5 (A7g p2 (a.n - b)) fun (d:List UInt8)=>(c++d))
theorem C7q {g:List UInt8} {b:Int} {f c:Addr} (hR:A1h a g p2 b=R) (l:b≤a.n∧a.n - b<(p2.length:Int):=by exact bW) (k:g.length≤1000∧p2.length≤1000∧0≤b∧b≤1000:=by exact bW):J7 prog 141 [ag (A2 a),pa f,pa d,pa c] [at_ f [sv g],at_ d [sv p2],at_ c [iv b]] (sv R):=by
 refine cD Tryz.func141 fun X hX hr hD=>?_
 rw[A1h]at hR
 refine k_ ?_
 refine cI 2 [] (fun h=>[(4,pt h 0)]) (fun _=>(A2 a)) 51 fun h=>?_
 refine ie (sd 9 Z oki Z (dd Z (B6 ty9 Z Z (A5 0 Z) Z) (dd Z (B6 ty9 Z Z (A5 1 Z) Z) (pg1 2 [0] 9 Z ?_))))
 refine dd Z (B6 cE Z Z (A5 2 Z) Z) (dd Z L8 ?_)
 obtain ⟨j,e,hR⟩:=C3 hR
 refine zvd Z (B5o e) ?_
 have:=B1f p2 (a.n - b) opx;try rw [e] at this
 refine dd Z (zst Z Z Z) ?_
 have:=@List.length_append _ g j
 refine pd1 1 5 Z ?_
 subst hR
 refine k_ ?_
 exact F7 hr hD
def A0u (front:List UInt8) (signs:List UInt8) (first:Int):Unit :=
 ()
theorem B3z {first:Int} {R:Unit} (hR:A0u front signs first=R) (f:front.length≤1000∧signs.length≤1000∧0≤first∧first≤1000:=by exact bW):cM prog 140 [sv front,sv signs,iv first] [] [] (Value) (fun x=>x) (fun x=>[]) (fun x=>[P6 prog (x) (D3n (fun a=>first≤a.n∧a.n - first<(signs.length:Int)) (fun a=>(A1h a front signs first)))]):=by
 refine cD Tryz.func140 fun X hX hr hD=>?_
 rw[A0u]at hR
 refine k_ ?_
 refine it Z (A2s (cs:=[sv front]) Z Z Z) fun b=>(A6p 0 Z (it Z (A2s (cs:=[sv signs]) Z Z Z) fun c=>(A6p 0 Z (it Z (A2s (cs:=[iv first]) Z Z Z) fun d=>(A6p 0 Z (k_ ?_))))))
 refine ie (kc_ ?_)
 refine ip' 2 0 [(6,.func (.func 141) #[] #[pa ⟨b,0,none⟩,pa ⟨c,0,none⟩,pa ⟨d,0,none⟩])] ?_
 refine ie (A6v (q:=P6 prog (.func (.func 141) #[] #[pa ⟨b,0,none⟩,pa ⟨c,0,none⟩,pa ⟨d,0,none⟩]) (D3n (fun a=>first≤a.n∧a.n - first<(signs.length:Int)) (fun a=>(A1h a front signs first)))) (A2j (fun args r e=>by obtain ⟨a,g,rfl,rfl⟩:=e;exact d7 (C7q Z (by exact g) (by exact f))) A7.refl) ?_)
 subst hR
 exact A8 (ci (.func (.func 141) #[] #[pa ⟨b,0,none⟩,pa ⟨c,0,none⟩,pa ⟨d,0,none⟩]:Value))
def A9e (a:Act):List UInt8 :=
 (B5 (A7g ([40,41,42,43]:List UInt8) a.n) fun (b:List UInt8)=>(B5 (A7g ([66,48]:List UInt8) a.m) fun (c:List UInt8)=>((([27]:List UInt8)++b)++c)))
theorem D0j (hR:A9e a=R) (g:(0≤a.n∧a.n≤3)∧0≤a.m∧a.m≤1:=by exact bW):J7 prog 153 [ag (A2 a)] [] (sv R):=by
 refine cD Tryz.func153 fun X hX hr hD=>?_
 rw[A9e]at hR
 refine k_ ?_
 refine cI 2 [] (fun e=>[(1,pt e 0)]) (fun _=>(A2 a)) 51 fun e=>?_
 refine ie (sd 9 Z oki Z (pg1 2 [0] 4 Z ?_))
 obtain ⟨f,b,hR⟩:=C3 hR
 refine zvd Z (B5o b) ?_
 have:=B1f ([40,41,42,43]:List UInt8) a.n opx;try rw [b] at this
 refine dd Z (zst Z Z Z) ?_
 refine pg1 2 [0] 8 Z ?_
 obtain ⟨h,c,hR⟩:=C3 hR
 refine zvd Z (B5o c) ?_
 have:=B1f ([66,48]:List UInt8) a.m opx;try rw [c] at this
 refine dd Z (zst Z Z Z) ?_
 refine pd1 1 2 Z ?_
 subst hR
 refine k_ ?_
 exact F7 hr hD
def A1f (l:List Int) (b:Nat) (a:List (List Int)→Nat→List UInt8):Nat→List (List Int)→List UInt8
 | 0,_=>[]
 | fu1+1,out1=>(bif (decide ((out1.length:Int)<(b:Int))) then A1f l b a fu1 (out1++([([(-1)]:List Int)]:List (List Int))) else a (out1++([([(l.getD b 0)]:List Int)]:List (List Int))) (b+1))
def M7 (none_:Int) (l:List Int):List Int→List (List Int)→Nat→List UInt8
 | [],out,t12=>(B5 (V9 out) fun (a:List UInt8×Int)=>a.1)
 | hd_l3::tl_l3,out,t12=>(bif (decide (hd_l3=none_)) then M7 none_ l tl_l3 out (t12+1) else A1f l t12 (M7 none_ l tl_l3) ((t12 - out.length)+1) out)
def A7c (none_:Int) (l:List Int):List UInt8 :=
 M7 none_ l l ([]:List (List Int)) 0
theorem C2l (l:List Int) (a:Nat) (ag:List (List Int)→Nat→List UInt8) (b:∀ o t,(ag o t).length≤2112):∀ (fu:Nat) (o:List (List Int)),(A1f l a ag fu o).length≤2112
 | 0,o=>by simp [A1f]
 | fu+1,o=>by
  rw [A1f]
  cases decide ((o.length:Int)<(a:Int)) with
  | true=>exact C2l l a ag b fu _
  | false=>grind
theorem B5u (none_:Int) (l:List Int):∀ (r:List Int) (o:List (List Int)) (t:Nat),(M7 none_ l r o t).length≤2112
 | [],o,t=>B1h o
 | x::r,o,t=>by
  rw [M7]
  cases decide (x=none_) with
  | true=>exact B5u none_ l r o (t+1)
  | false=>exact C2l l t _ (B5u none_ l r) _ _
theorem A8a (none_:Int) (l:List Int):(A7c none_ l).length≤2112:=B5u none_ l l [] 0
theorem opf (h:p:=by first|omega|(simp +zetaDelta only [List.length_take,List.length_drop,List.length_append,List.length_cons,List.length_nil,List.length_set,List.length_map,G4,A0s,A0u];omega)|decide):p:=h
theorem omn (h:p:=by first|omega|(simp +zetaDelta only [List.length_cons,List.length_nil,List.length_append,List.length_take,List.length_drop,G4,A0s,A0u];omega)):p:=h
theorem B4k {l:List Int} (hR:A7c none_ l=R) (a5:l.length≤9223372036854775807:=by exact bW) (ae:l.length≤lk:=by exact bW) (aa:l.length≤4:=by exact bW):J7 prog 145 [iv none_,.slice lq l.length lk] [sl H0 lq l,M1] (sv R):=by
 refine cD Tryz.func145 fun X hX hr hD=>?_
 rw[A7c]at hR
 refine k_ ?_
 refine ie (k_ ?_)
 refine ie (k_ ?_)
 refine ie (A9 (A1y (un fun (out:List (List Int))=>un fun (j:VR)=>un fun (g:List Slc) (d:Nat)=>(d≤l.length∧M7 none_ l (l.drop d) out d=R∧bT 1 out.length j∧B4 g out∧out.length≤d,[(0,iv none_),(5,.slice (va j.q) out.length j.k),(10,.slice lq l.length lk),(11,iv (l.length:Int)),(12,iv (d:Int))],((vo F0 289 j g)++([])),[sl H0 lq l,M1,D8 H0 g out],l.length - d)) (([]:List (List Int)),VR.nil,([]:List Slc),0) ⟨opx,hR,bT.nil,B4.none,oom⟩ bU c9 ?_))
 rintro ⟨out,j,g,d⟩ ⟨a9,hR,h,f,ho⟩
 have:=bT.le h
 have:=f.1
 refine k_ ?_
 refine ie (A3 (G3 Z (fun h2=>?_) (fun h2=>?_)))
 ·have y:=bV h2
  rw [A1a 0 (show d<l.length by omega)] at hR;rw[M7]at hR
  refine k_ ?_
  refine H8 0 Z opx fun a3 v=>(ix Z (E7 I0 Z Z v Z d) (ix Z (B6 cE Z Z (F8 (c:=H0) (sz:=1) v jJ 0 Z (gd 0 opx)) Z) (k_ ?_)))
  refine ie (k_ ?_)
  refine ie ?_
  refine cK Z hR ?_ ?_<;>intro hR h5 a8
  ·refine k_ ?_
   refine ix Z B1 (k_ ?_)
   exact A1 (z0 (z1:=(out,j,g,d)) (out,j,g,d+1) ⟨opx,hR,h,f,ozq⟩)
  refine k_ ?_
  refine A1y (un fun (fu:Nat)=>un fun (b:List (List Int))=>un fun (i:VR) (e:List Slc)=>((d - b.length)<fu∧A1f l d (M7 none_ l (l.drop (d+1))) fu b=R∧bT 1 b.length i∧B4 e b∧b.length≤d,[(0,iv none_),(5,.slice (va i.q) b.length i.k),(6,iv (d:Int)),(7,iv (l.getD d 0)),(10,.slice lq l.length lk),(11,iv (l.length:Int)),(12,iv (d:Int))],((vo F0 289 i e)++([])),[sl H0 lq l,M1,D8 H0 g out,D8 H0 e b],fu)) ((d - out.length)+1,out,j,g) ⟨(Nat.lt_succ_self _),hR,h,f,opx⟩ bU c9 ?_
  rintro ⟨fu,b,i,e⟩ ⟨a6,hR,n,a,ab⟩
  have:=bT.le n
  have:=a.1
  obtain ⟨fu1,rfl⟩:∃ m,fu=m+1:=⟨fu - 1,by omega⟩
  rw[A1f]at hR
  refine k_ ?_
  refine ie ?_
  refine cK Z hR ?_ ?_<;>intro hR h7 ac
  ·refine k_ ?_
   refine it Z (B0 (c:=H0) (xs:=([(-1)]:List Int)) I0 Z Z Z oki) fun w=>?_
   have:([(-1)]:List Int).length=1:=rfl
   refine bY 1 3 [] [(26,ag [.slice (some ⟨w,0,none⟩) 1 1])] ?_
   refine it Z (B0 (c:=F0) (xs:=([⟨some ⟨w,0,none⟩,1,1⟩]:List Slc)) A8w Z Z Z oki) fun b9=>?_
   have p:B4 ([⟨some ⟨w,0,none⟩,1,1⟩]:List Slc) ([([(-1)]:List Int)]:List (List Int)):=(B4.cons ⟨ooy,opf,opf⟩ B4.none)
   refine D4 (q:=D8 H0 ([⟨some ⟨w,0,none⟩,1,1⟩]:List Slc) ([([(-1)]:List Int)]:List (List Int))) (M8 (A5 1 Z) I5) ?_
   have:([⟨some ⟨w,0,none⟩,1,1⟩]:List Slc).length=1:=rfl
   have x:B4 (e++([⟨some ⟨w,0,none⟩,1,1⟩]:List Slc)) (b++([([(-1)]:List Int)]:List (List Int))):=B4.append a p
   refine it Z (K5 (r:=i) (rs:=e) (xss:=b) (pre:=[]) (post:=[]) E4h Z Z Z Z Z Z Z Z Z (A5 1 Z) (A5 6 Z) (A5 0 Z) a p n omn omn) fun ⟨a4,u⟩=>?_
   have:=bT.lc u
   have:([([(-1)]:List Int)]:List (List Int)).length=1:=rfl
   have:(b++([([(-1)]:List Int)]:List (List Int))).length=b.length+1:=List.length_append
   refine k_ ?_
   exact z0 (z1:=(fu1+1,b,i,e)) (fu1,(b++([([(-1)]:List Int)]:List (List Int))),a4,(e++([⟨some ⟨w,0,none⟩,1,1⟩]:List Slc))) ⟨opx,hR,u,x,ozq⟩
  refine k_ ?_
  refine it Z (B0 (c:=H0) (xs:=([(l.getD d 0)]:List Int)) I0 Z Z Z oki) fun s=>?_
  have:([(l.getD d 0)]:List Int).length=1:=rfl
  refine bY 1 3 [] [(32,ag [.slice (some ⟨s,0,none⟩) 1 1])] ?_
  refine it Z (B0 (c:=F0) (xs:=([⟨some ⟨s,0,none⟩,1,1⟩]:List Slc)) A8w Z Z Z oki) fun ad=>?_
  have o:B4 ([⟨some ⟨s,0,none⟩,1,1⟩]:List Slc) ([([(l.getD d 0)]:List Int)]:List (List Int)):=(B4.cons ⟨ooy,opf,opf⟩ B4.none)
  refine D4 (q:=D8 H0 ([⟨some ⟨s,0,none⟩,1,1⟩]:List Slc) ([([(l.getD d 0)]:List Int)]:List (List Int))) (M8 (A5 1 Z) I5) ?_
  have:([⟨some ⟨s,0,none⟩,1,1⟩]:List Slc).length=1:=rfl
  have a0:B4 (e++([⟨some ⟨s,0,none⟩,1,1⟩]:List Slc)) (b++([([(l.getD d 0)]:List Int)]:List (List Int))):=B4.append a o
  refine it Z (K5 (r:=i) (rs:=e) (xss:=b) (pre:=[]) (post:=[]) E4h Z Z Z Z Z Z Z Z Z (A5 1 Z) (A5 6 Z) (A5 0 Z) a o n omn omn) fun ⟨a1,t⟩=>?_
  have:=bT.lc t
  have:([([(l.getD d 0)]:List Int)]:List (List Int)).length=1:=rfl
  have:(b++([([(l.getD d 0)]:List Int)]:List (List Int))).length=b.length+1:=List.length_append
  refine k_ ?_
  refine ix Z B1 (k_ ?_)
  exact A1 (z0 (z1:=(out,j,g,d)) ((b++([([(l.getD d 0)]:List Int)]:List (List Int))),a1,(e++([⟨some ⟨s,0,none⟩,1,1⟩]:List Slc)),d+1) ⟨opx,hR,t,a0,ozq⟩)
 have y:=bV h2
 rw [A1b y] at hR;rw[M7]at hR
 refine k_ ?_
 have:=bT.lc h
 refine P2 [] [] (T:=289) (c:=F0) (r:=j) (xs:=g) (bT.cast h (by rw [f.1])) opv ?_
 obtain ⟨y2,z,hR⟩:=C3 hR
 refine zv Z (C6b z f) ?_
 have:=B1h out;try rw [z] at this
 refine k_ ?_
 refine ie (k_ ?_)
 subst hR
 exact q8
def Y0 (a:Act) (d:List UInt8):List UInt8 :=
 (B5 (A7c 1 ([a.m]:List Int)) fun (b:List UInt8)=>(B5 (A7g d a.n) fun (c:List UInt8)=>((([27,91]:List UInt8)++b)++c)))
theorem C7j {b:List UInt8} {e:Addr} (hR:Y0 a b=R) (p:0≤a.n∧a.n<(b.length:Int):=by exact bW) (o:b.length≤1000:=by exact bW):J7 prog 147 [ag (A2 a),pa e] [at_ e [sv b],M1] (sv R):=by
 refine cD Tryz.func147 fun X hX hr hD=>?_
 rw[Y0]at hR
 refine k_ ?_
 refine cI 2 [] (fun h=>[(2,pt h 0)]) (fun _=>(A2 a)) 51 fun h=>?_
 refine ie (zS [(11,[0])] ?_)
 refine hq2 [0,6] 4 10 Z ?_
 refine gl 1 [0] Z (B8 (v:=iv a.m) cE Z Z 0) ?_
 refine gk 5 Z (B6 ty9 Z Z (A5 0 Z) Z) ?_
 refine gl 7 [0] Z (B8 (v:=iv a.n) cE Z Z 0) ?_
 refine go 2 [0] Z (B0 (c:=H0) (xs:=([a.m]:List Int)) I0 Z Z Z oki) fun i=>?_
 have:([a.m]:List Int).length=1:=rfl
 obtain ⟨k,f,hR⟩:=C3 hR
 refine gv 3 [0] Z (B4k (none_:=1) (l:=([a.m]:List Int)) (lq:=(some ⟨i,0,none⟩)) (lk:=1) f) ?_
 have:=A8a 1 ([a.m]:List Int);try rw [f] at this
 refine gk 4 Z (zst Z Z Z) ?_
 obtain ⟨j,d,hR⟩:=C3 hR
 refine gv 8 [0] Z (B5o d) ?_
 have:=B1f b a.n opx;try rw [d] at this
 refine gk 9 Z (zst Z Z Z) ?_
 refine hq1 [10] 3 Z ?_
 refine ge ?_
 subst hR
 exact A8 (F7 hr hD)
def C4f (signs:List UInt8):Unit :=
 ()
theorem B4f {R:Unit} (hR:C4f signs=R) (c:signs.length≤1000:=by exact bW):cM prog 146 [sv signs] [] [M1] (Value) (fun x=>x) (fun x=>[]) (fun x=>[P6 prog (x) (D3n (fun a=>0≤a.n∧a.n<(signs.length:Int)) (fun a=>(Y0 a signs)))]):=by
 refine cD Tryz.func146 fun X hX hr hD=>?_
 rw[C4f]at hR
 refine k_ ?_
 refine it Z (A2s (cs:=[sv signs]) Z Z Z) fun b=>(A6p 0 Z (k_ ?_))
 refine ie (kc_ ?_)
 refine ip' 2 0 [(2,.func (.func 147) #[] #[pa ⟨b,0,none⟩])] ?_
 refine ie (A6v (q:=P6 prog (.func (.func 147) #[] #[pa ⟨b,0,none⟩]) (D3n (fun a=>0≤a.n∧a.n<(signs.length:Int)) (fun a=>(Y0 a signs)))) (A2j (fun args r d=>by obtain ⟨a,e,rfl,rfl⟩:=d;exact d7 (C7j Z (by exact e) (by exact c))) A7.refl) ?_)
 subst hR
 exact A8 (ci (.func (.func 147) #[] #[pa ⟨b,0,none⟩]:Value))
def A5e (a:Act):List UInt8 :=
 (B5 (A7c 1 ([a.n,a.m]:List Int)) fun (b:List UInt8)=>((([27,91]:List UInt8)++b)++([72]:List UInt8)))
theorem D1l (hR:A5e a=R):J7 prog 154 [ag (A2 a)] [M1] (sv R):=by
 refine cD Tryz.func154 fun X hX hr hD=>?_
 rw[A5e]at hR
 refine k_ ?_
 refine cI 2 [] (fun d=>[(1,pt d 0)]) (fun _=>(A2 a)) 51 fun d=>?_
 refine ie (k_ ?_)
 refine it Z (B0 (c:=H0) (xs:=([a.n,a.m]:List Int)) I0 Z Z Z oki) fun f=>?_
 have:([a.n,a.m]:List Int).length=2:=rfl
 obtain ⟨g,b,hR⟩:=C3 hR
 refine zv Z (B4k (none_:=1) (l:=([a.n,a.m]:List Int)) (lq:=(some ⟨f,0,none⟩)) (lk:=2) b) ?_
 have:=A8a 1 ([a.n,a.m]:List Int);try rw [b] at this
 refine ix Z (zst Z Z Z) ?_
 refine ix Z (zst Z Z Z) ?_
 refine k_ ?_
 subst hR
 exact q8
def G5 (a:Act) (c:Int) (p2:List UInt8):List UInt8 :=
 (B5 (A7c c ([a.n]:List Int)) fun (b:List UInt8)=>((([27,91]:List UInt8)++b)++p2))
theorem C6y {f:Int} {b:Addr} (hR:G5 a f p2=R) (k:p2.length≤1000:=by exact bW):J7 prog 144 [ag (A2 a),pa d,pa b] [at_ d [iv f],at_ b [sv p2],M1] (sv R):=by
 refine cD Tryz.func144 fun X hX hr hD=>?_
 rw[G5]at hR
 refine k_ ?_
 refine cI 2 [] (fun g=>[(3,pt g 0)]) (fun _=>(A2 a)) 51 fun g=>?_
 refine ie (zS [(9,[0])] ?_)
 refine hq1 [1] 6 Z ?_
 refine gk 0 Z (B6 cE Z Z (A5 0 Z) Z) ?_
 refine gl 2 [0] Z (B8 (v:=iv a.n) cE Z Z 0) ?_
 refine gk 6 Z (B6 ty9 Z Z (A5 1 Z) Z) ?_
 refine go 3 [0] Z (B0 (c:=H0) (xs:=([a.n]:List Int)) I0 Z Z Z oki) fun h=>?_
 have:([a.n]:List Int).length=1:=rfl
 obtain ⟨j,e,hR⟩:=C3 hR
 refine gv 4 [0] Z (B4k (none_:=f) (l:=([a.n]:List Int)) (lq:=(some ⟨h,0,none⟩)) (lk:=1) e) ?_
 have:=A8a f ([a.n]:List Int);try rw [e] at this
 refine gk 5 Z (zst Z Z Z) ?_
 refine gk 7 Z (zst Z Z Z) ?_
 refine hq1 [8] 4 Z ?_
 refine ge ?_
 subst hR
 exact A8 (F7 hr hD)
def C4c (none_:Int) (last:List UInt8):Unit :=
 ()
theorem N0 {last:List UInt8} {R:Unit} (hR:C4c none_ last=R) (e:last.length≤1000:=by exact bW):cM prog 143 [iv none_,sv last] [] [M1] (Value) (fun x=>x) (fun x=>[]) (fun x=>[P6 prog (x) (D3n (fun _=>True) (fun a=>(G5 a none_ last)))]):=by
 refine cD Tryz.func143 fun X hX hr hD=>?_
 rw[C4c]at hR
 refine k_ ?_
 refine it Z (A2s (cs:=[iv none_]) Z Z Z) fun b=>(A6p 0 Z (it Z (A2s (cs:=[sv last]) Z Z Z) fun c=>(A6p 0 Z (k_ ?_))))
 refine ie (kc_ ?_)
 refine ip' 2 0 [(4,.func (.func 144) #[] #[pa ⟨b,0,none⟩,pa ⟨c,0,none⟩])] ?_
 refine ie (A6v (q:=P6 prog (.func (.func 144) #[] #[pa ⟨b,0,none⟩,pa ⟨c,0,none⟩]) (D3n (fun _=>True) (fun a=>(G5 a none_ last)))) (A2j (fun args r d=>by obtain ⟨a,f,rfl,rfl⟩:=d;exact d7 (C6y Z (by exact e))) A7.refl) ?_)
 subst hR
 exact A8 (ci (.func (.func 144) #[] #[pa ⟨b,0,none⟩,pa ⟨c,0,none⟩]:Value))
def A2x (a:Act) (d:List UInt8):List UInt8 :=
 (B5 (A7c (-2) ([a.n]:List Int)) fun (b:List UInt8)=>(B5 (A7g ([108,104]:List UInt8) a.m) fun (c:List UInt8)=>(((([27,91]:List UInt8)++d)++b)++c)))
theorem C6t {f:List UInt8} (hR:A2x a f=R) (p:0≤a.m∧a.m≤1:=by exact bW) (o:f.length≤1000:=by exact bW):J7 prog 150 [ag (A2 a),pa d] [at_ d [sv f],M1] (sv R):=by
 refine cD Tryz.func150 fun X hX hr hD=>?_
 rw[A2x]at hR
 refine k_ ?_
 refine cI 2 [] (fun h=>[(2,pt h 0)]) (fun _=>(A2 a)) 51 fun h=>?_
 refine ie (zS [(12,[0])] ?_)
 refine hq2 [2,7] 6 11 Z ?_
 refine gk 0 Z (B6 ty9 Z Z (A5 0 Z) Z) ?_
 refine gk 1 Z (zst Z Z Z) ?_
 refine gl 3 [0] Z (B8 (v:=iv a.n) cE Z Z 0) ?_
 refine gl 8 [0] Z (B8 (v:=iv a.m) cE Z Z 0) ?_
 refine go 4 [0] Z (B0 (c:=H0) (xs:=([a.n]:List Int)) I0 Z Z Z oki) fun i=>?_
 have:([a.n]:List Int).length=1:=rfl
 obtain ⟨k,e,hR⟩:=C3 hR
 refine gv 5 [0] Z (B4k (none_:=(-2)) (l:=([a.n]:List Int)) (lq:=(some ⟨i,0,none⟩)) (lk:=1) e) ?_
 have:=A8a (-2) ([a.n]:List Int);try rw [e] at this
 refine gk 6 Z (zst Z Z Z) ?_
 obtain ⟨j,b,hR⟩:=C3 hR
 refine gv 9 [0] Z (B5o b) ?_
 have:=B1f ([108,104]:List UInt8) a.m opx;try rw [b] at this
 refine gk 10 Z (zst Z Z Z) ?_
 refine hq1 [11] 3 Z ?_
 refine ge ?_
 subst hR
 exact A8 (F7 hr hD)
def C4x (front:List UInt8):Unit :=
 ()
theorem C0n {R:Unit} (hR:C4x front=R) (c:front.length≤1000:=by exact bW):cM prog 149 [sv front] [] [M1] (Value) (fun x=>x) (fun x=>[]) (fun x=>[P6 prog (x) (D3n (fun a=>0≤a.m∧a.m≤1) (fun a=>(A2x a front)))]):=by
 refine cD Tryz.func149 fun X hX hr hD=>?_
 rw[C4x]at hR
 refine k_ ?_
 refine it Z (A2s (cs:=[sv front]) Z Z Z) fun b=>(A6p 0 Z (k_ ?_))
 refine ie (kc_ ?_)
 refine ip' 2 0 [(2,.func (.func 150) #[] #[pa ⟨b,0,none⟩])] ?_
 refine ie (A6v (q:=P6 prog (.func (.func 150) #[] #[pa ⟨b,0,none⟩]) (D3n (fun a=>0≤a.m∧a.m≤1) (fun a=>(A2x a front)))) (A2j (fun args r d=>by obtain ⟨a,e,rfl,rfl⟩:=d;exact d7 (C6t Z (by exact e) (by exact c))) A7.refl) ?_)
 subst hR
 exact A8 (ci (.func (.func 150) #[] #[pa ⟨b,0,none⟩]:Value))
def A8n (a:Act):List UInt8 :=
 (B5 (A7c 0 ([a.n,a.m]:List Int)) fun (b:List UInt8)=>((([27,91]:List UInt8)++b)++([114]:List UInt8)))
theorem C9l (hR:A8n a=R):J7 prog 155 [ag (A2 a)] [M1] (sv R):=by
 refine cD Tryz.func155 fun X hX hr hD=>?_
 rw[A8n]at hR
 refine k_ ?_
 refine cI 2 [] (fun d=>[(1,pt d 0)]) (fun _=>(A2 a)) 51 fun d=>?_
 refine ie (k_ ?_)
 refine it Z (B0 (c:=H0) (xs:=([a.n,a.m]:List Int)) I0 Z Z Z oki) fun f=>?_
 have:([a.n,a.m]:List Int).length=2:=rfl
 obtain ⟨g,b,hR⟩:=C3 hR
 refine zv Z (B4k (none_:=0) (l:=([a.n,a.m]:List Int)) (lq:=(some ⟨f,0,none⟩)) (lk:=2) b) ?_
 have:=A8a 0 ([a.n,a.m]:List Int);try rw [b] at this
 refine ix Z (zst Z Z Z) ?_
 refine ix Z (zst Z Z Z) ?_
 refine k_ ?_
 subst hR
 exact q8
def A8l (a:Act):List UInt8 :=
 ((([27,91]:List UInt8)++(([62]:List UInt8).take ((a.n).toNat)))++([99]:List UInt8))
theorem oph (h:p:=by first|omega|(simp +zetaDelta only [List.length_cons,List.length_nil];omega)):p:=h
theorem C8t (hR:A8l a=R) (c:0≤a.n∧a.n≤1:=by exact bW):J7 prog 156 [ag (A2 a)] [] (sv R):=by
 refine cD Tryz.func156 fun X hX hr hD=>?_
 rw[A8l]at hR
 refine k_ ?_
 refine cI 2 [] (fun b=>[(1,pt b 0)]) (fun _=>(A2 a)) 51 fun b=>?_
 refine ie (k_ ?_)
 refine ix Z (D2l (T:=9) Tryz.underlying9 Z Z Z ((a.n).toNat) opx oph) (ix Z (zst Z Z Z) ?_)
 refine ix Z (zst Z Z Z) ?_
 refine k_ ?_
 subst hR
 exact q8
def A8b (a:Act):List UInt8 :=
 (B5 (A7c (-2) ([a.n]:List Int)) fun (b:List UInt8)=>(((([27,91]:List UInt8)++(([63]:List UInt8).take ((a.m).toNat)))++b)++([36,112]:List UInt8)))
theorem D0a (hR:A8b a=R) (h:0≤a.m∧a.m≤1:=by exact bW):J7 prog 157 [ag (A2 a)] [M1] (sv R):=by
 refine cD Tryz.func157 fun X hX hr hD=>?_
 rw[A8b]at hR
 refine k_ ?_
 refine cI 2 [] (fun d=>[(1,pt d 0)]) (fun _=>(A2 a)) 51 fun d=>?_
 refine ie (zS [(11,[0])] ?_)
 refine hq2 [0,4] 3 7 Z ?_
 refine gl 1 [0] Z (B8 (v:=iv a.m) cE Z Z 0) ?_
 refine gk 2 Z (D2l (T:=9) Tryz.underlying9 Z Z Z ((a.m).toNat) opx oph) ?_
 refine gk 3 Z (zst Z Z Z) ?_
 refine gl 5 [0] Z (B8 (v:=iv a.n) cE Z Z 0) ?_
 refine go 6 [0] Z (B0 (c:=H0) (xs:=([a.n]:List Int)) I0 Z Z Z oki) fun f=>?_
 have:([a.n]:List Int).length=1:=rfl
 obtain ⟨g,b,hR⟩:=C3 hR
 refine gv 7 [0] Z (B4k (none_:=(-2)) (l:=([a.n]:List Int)) (lq:=(some ⟨f,0,none⟩)) (lk:=1) b) ?_
 have:=A8a (-2) ([a.n]:List Int);try rw [b] at this
 refine gk 8 Z (zst Z Z Z) ?_
 refine gk 9 Z (zst Z Z Z) ?_
 refine hq1 [10] 2 Z ?_
 refine ge ?_
 subst hR
 exact A8 (F7 hr hD)
def A8p (l:jz):List UInt8 :=
 (B5 (B7k l) fun (a:List (List Int)×Int)=>(B5 (V9 a.1) fun (b:List UInt8×Int)=>((([27,91]:List UInt8)++b.1)++([109]:List UInt8))))
theorem B4o (l:jz):(A8p l).length≤2115:=by simp[B1h,A8p]
theorem D2c {l:jz} (hR:A8p l=R) (i:l.length≤9223372036854775807:=by exact bW) (m:l.length≤lk:=by exact bW):J7 prog 102 [.slice lq l.length lk] [sl A2 lq l,P0,M1] (sv R):=by
 refine cD Tryz.func102 fun X hX hr hD=>?_
 rw[A8p]at hR
 refine k_ ?_
 refine ie (k_ ?_)
 obtain ⟨k,h,hR⟩:=C3 hR
 refine zc Z (E1o h) fun ⟨⟨j,g⟩,d⟩=>?_
 try dsimp only at d
 obtain ⟨a,b⟩:=d
 have:=bT.lc a
 have:=b.1
 refine k_ ?_
 refine ie (k_ ?_)
 have:=bT.lc a
 refine P2 [] [] (T:=289) (c:=F0) (r:=j) (xs:=g) (bT.cast a (by rw [b.1])) opv ?_
 obtain ⟨n,e,hR⟩:=C3 hR
 refine zv Z (C6b e b) ?_
 have:=B1h k.1;try rw [e] at this
 refine k_ ?_
 refine ie (k_ ?_)
 refine ix Z (zst Z Z Z) ?_
 refine ix Z (zst Z Z Z) ?_
 refine k_ ?_
 subst hR
 exact q8
def A8k (a:Act):List UInt8 :=
 (B5 (A8p ([a]:jz)) fun (b:List UInt8)=>b)
theorem C8s (hR:A8k a=R):J7 prog 158 [ag (A2 a)] [P0,M1] (sv R):=by
 refine cD Tryz.func158 fun X hX hr hD=>?_
 rw[A8k]at hR
 refine k_ ?_
 refine cI 2 [] (fun d=>[(1,pt d 0)]) (fun _=>(A2 a)) 51 fun d=>?_
 refine ie (k_ ?_)
 refine bY 1 3 [0] [(3,ag (A2 a))] ?_
 refine it Z (B0 (c:=A2) (xs:=([a]:List Act)) N3 Z Z Z oki) fun f=>?_
 have:([a]:jz).length=1:=rfl
 obtain ⟨g,b,hR⟩:=C3 hR
 refine zv Z (D2c (l:=([a]:jz)) (lq:=(some ⟨f,0,none⟩)) (lk:=1) b) ?_
 have:=B4o ([a]:jz);try rw [b] at this
 refine bP 1 2 Z ?_
 subst hR
 refine k_ ?_
 exact F7 hr hD
def C3j (a:Act):Prop:=a.text.length≤100000000∧1≤a.kind∧a.kind≤43∧(a.kind=7∨a.kind=14∨a.kind=21∨a.kind=33∨a.kind=42→0≤a.n∧a.n≤1)∧(a.kind=17∨a.kind=20→0≤a.n∧a.n≤3)∧(a.kind=18→2≤a.n∧a.n≤3)∧(a.kind=17∨a.kind=36∨a.kind=37∨a.kind=43→0≤a.m∧a.m≤1)
def B2a (a:Act):List UInt8 :=
 (bif (decide (a.kind=1)) then (B0a (⟨1,a.n,a.m,a.color,a.text⟩:Act)) else (bif (decide (a.kind=2)) then (G4 a ([7]:List UInt8)) else (bif (decide (a.kind=3)) then (G4 a ([8]:List UInt8)) else (bif (decide (a.kind=4)) then (G4 a ([9]:List UInt8)) else (bif (decide (a.kind=5)) then (G4 a ([10]:List UInt8)) else (bif (decide (a.kind=6)) then (G4 a ([13]:List UInt8)) else (bif (decide (a.kind=7)) then (A1h a ([]:List UInt8) ([15,14]:List UInt8) 0) else (bif (decide (a.kind=8)) then (G4 a ([27,68]:List UInt8)) else (bif (decide (a.kind=9)) then (G4 a ([27,69]:List UInt8)) else (bif (decide (a.kind=10)) then (G4 a ([27,72]:List UInt8)) else (bif (decide (a.kind=11)) then (G4 a ([27,77]:List UInt8)) else (bif (decide (a.kind=12)) then (G4 a ([27,55]:List UInt8)) else (bif (decide (a.kind=13)) then (G4 a ([27,56]:List UInt8)) else (bif (decide (a.kind=14)) then (A1h a ([27]:List UInt8) ([62,61]:List UInt8) 0) else (bif (decide (a.kind=15)) then (G4 a ([27,99]:List UInt8)) else (bif (decide (a.kind=16)) then (G4 a ([27,35,56]:List UInt8)) else (bif (decide (a.kind=17)) then (A9e (⟨17,a.n,a.m,a.color,a.text⟩:Act)) else (bif (decide (a.kind=18)) then (A1h a ([27]:List UInt8) ([78,79]:List UInt8) 2) else (bif (decide (a.kind=19)) then (A5e (⟨19,a.n,a.m,a.color,a.text⟩:Act)) else (bif (decide (a.kind=20)) then (Y0 a ([65,66,67,68]:List UInt8)) else (bif (decide (a.kind=21)) then (Y0 a ([69,70]:List UInt8)) else (bif (decide (a.kind=22)) then (G5 a 1 ([71]:List UInt8)) else (bif (decide (a.kind=23)) then (G5 a 1 ([100]:List UInt8)) else (bif (decide (a.kind=24)) then (G5 a 1 ([73]:List UInt8)) else (bif (decide (a.kind=25)) then (G5 a 1 ([90]:List UInt8)) else (bif (decide (a.kind=26)) then (G5 a 0 ([74]:List UInt8)) else (bif (decide (a.kind=27)) then (G5 a 0 ([75]:List UInt8)) else (bif (decide (a.kind=28)) then (G5 a 1 ([64]:List UInt8)) else (bif (decide (a.kind=29)) then (G5 a 1 ([80]:List UInt8)) else (bif (decide (a.kind=30)) then (G5 a 1 ([88]:List UInt8)) else (bif (decide (a.kind=31)) then (G5 a 1 ([76]:List UInt8)) else (bif (decide (a.kind=32)) then (G5 a 1 ([77]:List UInt8)) else (bif (decide (a.kind=33)) then (Y0 a ([83,84]:List UInt8)) else (bif (decide (a.kind=34)) then (G5 a 1 ([98]:List UInt8)) else (bif (decide (a.kind=35)) then (G5 a 0 ([103]:List UInt8)) else (bif (decide (a.kind=36)) then (A2x a ([]:List UInt8)) else (bif (decide (a.kind=37)) then (A2x a ([63]:List UInt8)) else (bif (decide (a.kind=38)) then (A8n (⟨38,a.n,a.m,a.color,a.text⟩:Act)) else (bif (decide (a.kind=39)) then (A8k (⟨39,a.n,a.m,a.color,a.text⟩:Act)) else (bif (decide (a.kind=40)) then (G5 a 0 ([32,113]:List UInt8)) else (bif (decide (a.kind=41)) then (G5 a (-2) ([110]:List UInt8)) else (bif (decide (a.kind=42)) then (A8l (⟨42,a.n,a.m,a.color,a.text⟩:Act)) else (bif (decide (a.kind=43)) then (A8b (⟨43,a.n,a.m,a.color,a.text⟩:Act)) else ([]:List UInt8))))))))))))))))))))))))))))))))))))))))))))
def tC (k:Int):List Value→Value→Prop:=D3n (fun a=>a.kind=k∧C3j a) B2a
theorem tcv {Φ:List Pers} {v:Value} {pre:Act→Prop} {f:Act→List UInt8} {k:Int} (h:V5 Φ (P6 prog v (D3n pre f))) (d:∀ a:Act,a.kind=k→C3j a→pre a:=by intro a b c;unfold C3j at c;first|trivial|omega|(simp only [List.length_cons,List.length_nil];omega)) (e:∀ a:Act,a.kind=k→f a=B2a a:=by intro a b;unfold B2a;simp only [b];rfl):V5 Φ (P6 prog v (tC k)) :=
 E8l h (fun args r g=>by obtain ⟨a,⟨b,c⟩,rfl,rfl⟩:=g;exact ⟨a,d a b c,rfl,congrArg sv (e a b).symm⟩)
def C8a:Unit :=
 ()
theorem otw (h:p:=by dsimp only;omega):p:=h
set_option maxHeartbeats 8000000 in
theorem D7d (R:Unit) (hR:C8a=R):cM prog 101 [] [] [M1,P0] ({t:Nat×List (Int×Value) // t.2.map Prod.fst=[1,2,3,4,5,6,7,8,9,10,11,12,13,15,16,14,17,18,20,21,33,19,22,23,24,25,28,29,30,31,32,34,26,27,35,40,36,37,38,41,42,43,39,44,45,46]}) (fun x=>.map (some x.1.1)) (fun x=>[(x.1.1,.map (C1 x.1.2 0).toArray x.1.2.length)]) (fun x=>[D3a prog x.1.2 tC]):=by
 refine zco Tryz.func101 [] fun X hX hr hD=>?_
 rw[C8a]at hR
 refine k_ ?_
 refine ie ?_
 refine k_ ?_
 refine ie ?_
 refine k_ ?_
 refine ie ?_
 refine k_ ?_
 refine ie ?_
 refine k_ ?_
 refine ie ?_
 refine k_ ?_
 refine ie ?_
 refine k_ ?_
 refine ie ?_
 refine k_ ?_
 refine it Z (B8x Z) fun b=>?_
 refine D4 (q:=P6 prog (aC 151) (tC 1)) (A2j (C:=tC 1) (fun args r m=>by obtain ⟨a,⟨h,g⟩,rfl,rfl⟩:=m;obtain ⟨k_,c,d,e,f⟩:=a;dsimp only at h;subst h;unfold C3j at g;dsimp only at g;rw [show B2a (⟨1,c,d,e,f⟩:Act)=(B0a (⟨1,c,d,e,f⟩:Act)) from rfl];exact d7 (D0g (a:=(⟨1,c,d,e,f⟩:Act)) Z)) A7.refl) ?_
 refine it Z (F9 (C:=tC) (l:=([]:List (Int×Value))) (ks:=[]) (k:=1) (Φ':=[M1,P0]) P9 (.inl Z) Z Z Z 0 Z Z ozw F4o (A5 0 Z) c9) fun ⟨aq,df⟩=>?_
 refine k_ ?_
 refine it Z (I4 (L2:=[(b,.map (C1 aq 0).toArray aq.length)]) (O7 (s:=([7]:List UInt8)) Z) Z Z Z Z Z bX jK (fun u4=>[(b,.map (C1 aq 0).toArray aq.length)]) jJ) fun u4=>?_
 refine D4 (q:=P6 prog (u4) (tC 2)) (tcv (A5 0 Z)) ?_
 refine it Z (F9 (C:=tC) (k:=2) (Φ':=[M1,P0]) P9 (.inl Z) Z Z Z 0 Z df ozw (A5 2 Z) (A5 0 Z) c9) fun ⟨ap,dl⟩=>?_
 refine k_ ?_
 refine it Z (I4 (L2:=[(b,.map (C1 ap 0).toArray ap.length)]) (O7 (s:=([8]:List UInt8)) Z) Z Z Z Z Z bX jK (fun u7=>[(b,.map (C1 ap 0).toArray ap.length)]) jJ) fun u7=>?_
 refine D4 (q:=P6 prog (u7) (tC 3)) (tcv (A5 0 Z)) ?_
 refine it Z (F9 (C:=tC) (k:=3) (Φ':=[M1,P0]) P9 (.inl Z) Z Z Z 0 Z dl ozw (A5 2 Z) (A5 0 Z) c9) fun ⟨ao,dj⟩=>?_
 refine k_ ?_
 refine it Z (I4 (L2:=[(b,.map (C1 ao 0).toArray ao.length)]) (O7 (s:=([9]:List UInt8)) Z) Z Z Z Z Z bX jK (fun cf=>[(b,.map (C1 ao 0).toArray ao.length)]) jJ) fun cf=>?_
 refine D4 (q:=P6 prog (cf) (tC 4)) (tcv (A5 0 Z)) ?_
 refine it Z (F9 (C:=tC) (k:=4) (Φ':=[M1,P0]) P9 (.inl Z) Z Z Z 0 Z dj ozw (A5 2 Z) (A5 0 Z) c9) fun ⟨v,cp⟩=>?_
 refine k_ ?_
 refine it Z (I4 (L2:=[(b,.map (C1 v 0).toArray v.length)]) (O7 (s:=([10]:List UInt8)) Z) Z Z Z Z Z bX jK (fun d3=>[(b,.map (C1 v 0).toArray v.length)]) jJ) fun d3=>?_
 refine D4 (q:=P6 prog (d3) (tC 5)) (tcv (A5 0 Z)) ?_
 refine it Z (F9 (C:=tC) (k:=5) (Φ':=[M1,P0]) P9 (.inl Z) Z Z Z 0 Z cp ozw (A5 2 Z) (A5 0 Z) c9) fun ⟨ak,br⟩=>?_
 refine k_ ?_
 refine it Z (I4 (L2:=[(b,.map (C1 ak 0).toArray ak.length)]) (O7 (s:=([13]:List UInt8)) Z) Z Z Z Z Z bX jK (fun bw=>[(b,.map (C1 ak 0).toArray ak.length)]) jJ) fun bw=>?_
 refine D4 (q:=P6 prog (bw) (tC 6)) (tcv (A5 0 Z)) ?_
 refine it Z (F9 (C:=tC) (k:=6) (Φ':=[M1,P0]) P9 (.inl Z) Z Z Z 0 Z br ozw (A5 2 Z) (A5 0 Z) c9) fun ⟨ai,be⟩=>?_
 refine k_ ?_
 refine it Z (I4 (L2:=[(b,.map (C1 ai 0).toArray ai.length)]) (B3z (front:=jx) (signs:=([15,14]:List UInt8)) (first:=0) Z oph) Z Z Z Z Z bX jK (fun c6=>[(b,.map (C1 ai 0).toArray ai.length)]) jJ) fun c6=>?_
 refine D4 (q:=P6 prog (c6) (tC 7)) (tcv (A5 0 Z)) ?_
 refine it Z (F9 (C:=tC) (k:=7) (Φ':=[M1,P0]) P9 (.inl Z) Z Z Z 0 Z be ozw (A5 2 Z) (A5 0 Z) c9) fun ⟨al,c0⟩=>?_
 refine k_ ?_
 refine it Z (I4 (L2:=[(b,.map (C1 al 0).toArray al.length)]) (O7 (s:=([27,68]:List UInt8)) Z) Z Z Z Z Z bX jK (fun c2=>[(b,.map (C1 al 0).toArray al.length)]) jJ) fun c2=>?_
 refine D4 (q:=P6 prog (c2) (tC 8)) (tcv (A5 0 Z)) ?_
 refine it Z (F9 (C:=tC) (k:=8) (Φ':=[M1,P0]) P9 (.inl Z) Z Z Z 0 Z c0 ozw (A5 2 Z) (A5 0 Z) c9) fun ⟨ab,cl⟩=>?_
 refine k_ ?_
 refine it Z (I4 (L2:=[(b,.map (C1 ab 0).toArray ab.length)]) (O7 (s:=([27,69]:List UInt8)) Z) Z Z Z Z Z bX jK (fun bk=>[(b,.map (C1 ab 0).toArray ab.length)]) jJ) fun bk=>?_
 refine D4 (q:=P6 prog (bk) (tC 9)) (tcv (A5 0 Z)) ?_
 refine it Z (F9 (C:=tC) (k:=9) (Φ':=[M1,P0]) P9 (.inl Z) Z Z Z 0 Z cl ozw (A5 2 Z) (A5 0 Z) c9) fun ⟨u,d5⟩=>?_
 refine k_ ?_
 refine it Z (I4 (L2:=[(b,.map (C1 u 0).toArray u.length)]) (O7 (s:=([27,72]:List UInt8)) Z) Z Z Z Z Z bX jK (fun co=>[(b,.map (C1 u 0).toArray u.length)]) jJ) fun co=>?_
 refine D4 (q:=P6 prog (co) (tC 10)) (tcv (A5 0 Z)) ?_
 refine it Z (F9 (C:=tC) (k:=10) (Φ':=[M1,P0]) P9 (.inl Z) Z Z Z 0 Z d5 ozw (A5 2 Z) (A5 0 Z) c9) fun ⟨ah,ch⟩=>?_
 refine k_ ?_
 refine it Z (I4 (L2:=[(b,.map (C1 ah 0).toArray ah.length)]) (O7 (s:=([27,77]:List UInt8)) Z) Z Z Z Z Z bX jK (fun d6=>[(b,.map (C1 ah 0).toArray ah.length)]) jJ) fun d6=>?_
 refine D4 (q:=P6 prog (d6) (tC 11)) (tcv (A5 0 Z)) ?_
 refine it Z (F9 (C:=tC) (k:=11) (Φ':=[M1,P0]) P9 (.inl Z) Z Z Z 0 Z ch ozw (A5 2 Z) (A5 0 Z) c9) fun ⟨p,bi⟩=>?_
 refine k_ ?_
 refine it Z (I4 (L2:=[(b,.map (C1 p 0).toArray p.length)]) (O7 (s:=([27,55]:List UInt8)) Z) Z Z Z Z Z bX jK (fun ci=>[(b,.map (C1 p 0).toArray p.length)]) jJ) fun ci=>?_
 refine D4 (q:=P6 prog (ci) (tC 12)) (tcv (A5 0 Z)) ?_
 refine it Z (F9 (C:=tC) (k:=12) (Φ':=[M1,P0]) P9 (.inl Z) Z Z Z 0 Z bi ozw (A5 2 Z) (A5 0 Z) c9) fun ⟨w,ce⟩=>?_
 refine k_ ?_
 refine it Z (I4 (L2:=[(b,.map (C1 w 0).toArray w.length)]) (O7 (s:=([27,56]:List UInt8)) Z) Z Z Z Z Z bX jK (fun cz=>[(b,.map (C1 w 0).toArray w.length)]) jJ) fun cz=>?_
 refine D4 (q:=P6 prog (cz) (tC 13)) (tcv (A5 0 Z)) ?_
 refine it Z (F9 (C:=tC) (k:=13) (Φ':=[M1,P0]) P9 (.inl Z) Z Z Z 0 Z ce ozw (A5 2 Z) (A5 0 Z) c9) fun ⟨a2,cj⟩=>?_
 refine k_ ?_
 refine it Z (I4 (L2:=[(b,.map (C1 a2 0).toArray a2.length)]) (O7 (s:=([27,99]:List UInt8)) Z) Z Z Z Z Z bX jK (fun bu=>[(b,.map (C1 a2 0).toArray a2.length)]) jJ) fun bu=>?_
 refine D4 (q:=P6 prog (bu) (tC 15)) (tcv (A5 0 Z)) ?_
 refine it Z (F9 (C:=tC) (k:=15) (Φ':=[M1,P0]) P9 (.inl Z) Z Z Z 0 Z cj ozw (A5 2 Z) (A5 0 Z) c9) fun ⟨aa,d2⟩=>?_
 refine k_ ?_
 refine it Z (I4 (L2:=[(b,.map (C1 aa 0).toArray aa.length)]) (O7 (s:=([27,35,56]:List UInt8)) Z) Z Z Z Z Z bX jK (fun bz=>[(b,.map (C1 aa 0).toArray aa.length)]) jJ) fun bz=>?_
 refine D4 (q:=P6 prog (bz) (tC 16)) (tcv (A5 0 Z)) ?_
 refine it Z (F9 (C:=tC) (k:=16) (Φ':=[M1,P0]) P9 (.inl Z) Z Z Z 0 Z d2 ozw (A5 2 Z) (A5 0 Z) c9) fun ⟨ad,cv⟩=>?_
 refine k_ ?_
 refine it Z (I4 (L2:=[(b,.map (C1 ad 0).toArray ad.length)]) (B3z (front:=([27]:List UInt8)) (signs:=([62,61]:List UInt8)) (first:=0) Z oph) Z Z Z Z Z bX jK (fun bg=>[(b,.map (C1 ad 0).toArray ad.length)]) jJ) fun bg=>?_
 refine D4 (q:=P6 prog (bg) (tC 14)) (tcv (A5 0 Z)) ?_
 refine it Z (F9 (C:=tC) (k:=14) (Φ':=[M1,P0]) P9 (.inl Z) Z Z Z 0 Z cv ozw (A5 2 Z) (A5 0 Z) c9) fun ⟨dr,c7⟩=>?_
 refine D4 (q:=P6 prog (aC 153) (tC 17)) (A2j (C:=tC 17) (fun args r m=>by obtain ⟨a,⟨h,g⟩,rfl,rfl⟩:=m;obtain ⟨k_,c,d,e,f⟩:=a;dsimp only at h;subst h;unfold C3j at g;dsimp only at g;rw [show B2a (⟨17,c,d,e,f⟩:Act)=(A9e (⟨17,c,d,e,f⟩:Act)) from rfl];exact d7 (D0j (a:=(⟨17,c,d,e,f⟩:Act)) Z otw)) A7.refl) ?_
 refine it Z (F9 (C:=tC) (k:=17) (Φ':=[M1,P0]) P9 (.inl Z) Z Z Z 0 Z c7 ozw (A5 1 Z) (A5 0 Z) c9) fun ⟨a7,d0⟩=>?_
 refine k_ ?_
 refine it Z (I4 (L2:=[(b,.map (C1 a7 0).toArray a7.length)]) (B3z (front:=([27]:List UInt8)) (signs:=([78,79]:List UInt8)) (first:=2) Z oph) Z Z Z Z Z bX jK (fun ck=>[(b,.map (C1 a7 0).toArray a7.length)]) jJ) fun ck=>?_
 refine D4 (q:=P6 prog (ck) (tC 18)) (tcv (A5 0 Z)) ?_
 refine it Z (F9 (C:=tC) (k:=18) (Φ':=[M1,P0]) P9 (.inl Z) Z Z Z 0 Z d0 ozw (A5 2 Z) (A5 0 Z) c9) fun ⟨a0,c3⟩=>?_
 refine k_ ?_
 refine it Z (I4 (L2:=[(b,.map (C1 a0 0).toArray a0.length)]) (B4f (signs:=([65,66,67,68]:List UInt8)) Z oph) Z Z Z Z Z c9 jK (fun d4=>[(b,.map (C1 a0 0).toArray a0.length)]) jJ) fun d4=>?_
 refine D4 (q:=P6 prog (d4) (tC 20)) (tcv (A5 0 Z)) ?_
 refine it Z (F9 (C:=tC) (k:=20) (Φ':=[M1,P0]) P9 (.inl Z) Z Z Z 0 Z c3 ozw (A5 2 Z) (A5 0 Z) c9) fun ⟨am,ca⟩=>?_
 refine k_ ?_
 refine it Z (I4 (L2:=[(b,.map (C1 am 0).toArray am.length)]) (B4f (signs:=([69,70]:List UInt8)) Z oph) Z Z Z Z Z c9 jK (fun cq=>[(b,.map (C1 am 0).toArray am.length)]) jJ) fun cq=>?_
 refine D4 (q:=P6 prog (cq) (tC 21)) (tcv (A5 0 Z)) ?_
 refine it Z (F9 (C:=tC) (k:=21) (Φ':=[M1,P0]) P9 (.inl Z) Z Z Z 0 Z ca ozw (A5 2 Z) (A5 0 Z) c9) fun ⟨a8,d7⟩=>?_
 refine k_ ?_
 refine it Z (I4 (L2:=[(b,.map (C1 a8 0).toArray a8.length)]) (B4f (signs:=([83,84]:List UInt8)) Z oph) Z Z Z Z Z c9 jK (fun ct=>[(b,.map (C1 a8 0).toArray a8.length)]) jJ) fun ct=>?_
 refine D4 (q:=P6 prog (ct) (tC 33)) (tcv (A5 0 Z)) ?_
 refine it Z (F9 (C:=tC) (k:=33) (Φ':=[M1,P0]) P9 (.inl Z) Z Z Z 0 Z d7 ozw (A5 2 Z) (A5 0 Z) c9) fun ⟨dn,cb⟩=>?_
 refine D4 (q:=P6 prog (aC 154) (tC 19)) (A2j (C:=tC 19) (fun args r m=>by obtain ⟨a,⟨h,g⟩,rfl,rfl⟩:=m;obtain ⟨k_,c,d,e,f⟩:=a;dsimp only at h;subst h;unfold C3j at g;dsimp only at g;rw [show B2a (⟨19,c,d,e,f⟩:Act)=(A5e (⟨19,c,d,e,f⟩:Act)) from rfl];exact D7.of (D1l (a:=(⟨19,c,d,e,f⟩:Act)) Z) Z c9) A7.refl) ?_
 refine it Z (F9 (C:=tC) (k:=19) (Φ':=[M1,P0]) P9 (.inl Z) Z Z Z 0 Z cb ozw (A5 1 Z) (A5 0 Z) c9) fun ⟨a3,cc⟩=>?_
 refine k_ ?_
 refine it Z (I4 (L2:=[(b,.map (C1 a3 0).toArray a3.length)]) (N0 (none_:=1) (last:=([71]:List UInt8)) Z oph) Z Z Z Z Z c9 jK (fun bh=>[(b,.map (C1 a3 0).toArray a3.length)]) jJ) fun bh=>?_
 refine D4 (q:=P6 prog (bh) (tC 22)) (tcv (A5 0 Z)) ?_
 refine it Z (F9 (C:=tC) (k:=22) (Φ':=[M1,P0]) P9 (.inl Z) Z Z Z 0 Z cc ozw (A5 2 Z) (A5 0 Z) c9) fun ⟨ae,cw⟩=>?_
 refine k_ ?_
 refine it Z (I4 (L2:=[(b,.map (C1 ae 0).toArray ae.length)]) (N0 (none_:=1) (last:=([100]:List UInt8)) Z oph) Z Z Z Z Z c9 jK (fun cg=>[(b,.map (C1 ae 0).toArray ae.length)]) jJ) fun cg=>?_
 refine D4 (q:=P6 prog (cg) (tC 23)) (tcv (A5 0 Z)) ?_
 refine it Z (F9 (C:=tC) (k:=23) (Φ':=[M1,P0]) P9 (.inl Z) Z Z Z 0 Z cw ozw (A5 2 Z) (A5 0 Z) c9) fun ⟨aj,d1⟩=>?_
 refine k_ ?_
 refine it Z (I4 (L2:=[(b,.map (C1 aj 0).toArray aj.length)]) (N0 (none_:=1) (last:=([73]:List UInt8)) Z oph) Z Z Z Z Z c9 jK (fun c8=>[(b,.map (C1 aj 0).toArray aj.length)]) jJ) fun c8=>?_
 refine D4 (q:=P6 prog (c8) (tC 24)) (tcv (A5 0 Z)) ?_
 refine it Z (F9 (C:=tC) (k:=24) (Φ':=[M1,P0]) P9 (.inl Z) Z Z Z 0 Z d1 ozw (A5 2 Z) (A5 0 Z) c9) fun ⟨ac,bm⟩=>?_
 refine k_ ?_
 refine it Z (I4 (L2:=[(b,.map (C1 ac 0).toArray ac.length)]) (N0 (none_:=1) (last:=([90]:List UInt8)) Z oph) Z Z Z Z Z c9 jK (fun d9=>[(b,.map (C1 ac 0).toArray ac.length)]) jJ) fun d9=>?_
 refine D4 (q:=P6 prog (d9) (tC 25)) (tcv (A5 0 Z)) ?_
 refine it Z (F9 (C:=tC) (k:=25) (Φ':=[M1,P0]) P9 (.inl Z) Z Z Z 0 Z bm ozw (A5 2 Z) (A5 0 Z) c9) fun ⟨a4,bo⟩=>?_
 refine k_ ?_
 refine it Z (I4 (L2:=[(b,.map (C1 a4 0).toArray a4.length)]) (N0 (none_:=1) (last:=([64]:List UInt8)) Z oph) Z Z Z Z Z c9 jK (fun cs=>[(b,.map (C1 a4 0).toArray a4.length)]) jJ) fun cs=>?_
 refine D4 (q:=P6 prog (cs) (tC 28)) (tcv (A5 0 Z)) ?_
 refine it Z (F9 (C:=tC) (k:=28) (Φ':=[M1,P0]) P9 (.inl Z) Z Z Z 0 Z bo ozw (A5 2 Z) (A5 0 Z) c9) fun ⟨a5,bn⟩=>?_
 refine k_ ?_
 refine it Z (I4 (L2:=[(b,.map (C1 a5 0).toArray a5.length)]) (N0 (none_:=1) (last:=([80]:List UInt8)) Z oph) Z Z Z Z Z c9 jK (fun bp=>[(b,.map (C1 a5 0).toArray a5.length)]) jJ) fun bp=>?_
 refine D4 (q:=P6 prog (bp) (tC 29)) (tcv (A5 0 Z)) ?_
 refine it Z (F9 (C:=tC) (k:=29) (Φ':=[M1,P0]) P9 (.inl Z) Z Z Z 0 Z bn ozw (A5 2 Z) (A5 0 Z) c9) fun ⟨an,d8⟩=>?_
 refine k_ ?_
 refine it Z (I4 (L2:=[(b,.map (C1 an 0).toArray an.length)]) (N0 (none_:=1) (last:=([88]:List UInt8)) Z oph) Z Z Z Z Z c9 jK (fun cy=>[(b,.map (C1 an 0).toArray an.length)]) jJ) fun cy=>?_
 refine D4 (q:=P6 prog (cy) (tC 30)) (tcv (A5 0 Z)) ?_
 refine it Z (F9 (C:=tC) (k:=30) (Φ':=[M1,P0]) P9 (.inl Z) Z Z Z 0 Z d8 ozw (A5 2 Z) (A5 0 Z) c9) fun ⟨a1,cu⟩=>?_
 refine k_ ?_
 refine it Z (I4 (L2:=[(b,.map (C1 a1 0).toArray a1.length)]) (N0 (none_:=1) (last:=([76]:List UInt8)) Z oph) Z Z Z Z Z c9 jK (fun cn=>[(b,.map (C1 a1 0).toArray a1.length)]) jJ) fun cn=>?_
 refine D4 (q:=P6 prog (cn) (tC 31)) (tcv (A5 0 Z)) ?_
 refine it Z (F9 (C:=tC) (k:=31) (Φ':=[M1,P0]) P9 (.inl Z) Z Z Z 0 Z cu ozw (A5 2 Z) (A5 0 Z) c9) fun ⟨y,cr⟩=>?_
 refine k_ ?_
 refine it Z (I4 (L2:=[(b,.map (C1 y 0).toArray y.length)]) (N0 (none_:=1) (last:=([77]:List UInt8)) Z oph) Z Z Z Z Z c9 jK (fun bl=>[(b,.map (C1 y 0).toArray y.length)]) jJ) fun bl=>?_
 refine D4 (q:=P6 prog (bl) (tC 32)) (tcv (A5 0 Z)) ?_
 refine it Z (F9 (C:=tC) (k:=32) (Φ':=[M1,P0]) P9 (.inl Z) Z Z Z 0 Z cr ozw (A5 2 Z) (A5 0 Z) c9) fun ⟨a9,c1⟩=>?_
 refine k_ ?_
 refine it Z (I4 (L2:=[(b,.map (C1 a9 0).toArray a9.length)]) (N0 (none_:=1) (last:=([98]:List UInt8)) Z oph) Z Z Z Z Z c9 jK (fun bj=>[(b,.map (C1 a9 0).toArray a9.length)]) jJ) fun bj=>?_
 refine D4 (q:=P6 prog (bj) (tC 34)) (tcv (A5 0 Z)) ?_
 refine it Z (F9 (C:=tC) (k:=34) (Φ':=[M1,P0]) P9 (.inl Z) Z Z Z 0 Z c1 ozw (A5 2 Z) (A5 0 Z) c9) fun ⟨af,cd⟩=>?_
 refine k_ ?_
 refine it Z (I4 (L2:=[(b,.map (C1 af 0).toArray af.length)]) (N0 (none_:=0) (last:=([74]:List UInt8)) Z oph) Z Z Z Z Z c9 jK (fun c4=>[(b,.map (C1 af 0).toArray af.length)]) jJ) fun c4=>?_
 refine D4 (q:=P6 prog (c4) (tC 26)) (tcv (A5 0 Z)) ?_
 refine it Z (F9 (C:=tC) (k:=26) (Φ':=[M1,P0]) P9 (.inl Z) Z Z Z 0 Z cd ozw (A5 2 Z) (A5 0 Z) c9) fun ⟨a6,cm⟩=>?_
 refine k_ ?_
 refine it Z (I4 (L2:=[(b,.map (C1 a6 0).toArray a6.length)]) (N0 (none_:=0) (last:=([75]:List UInt8)) Z oph) Z Z Z Z Z c9 jK (fun c5=>[(b,.map (C1 a6 0).toArray a6.length)]) jJ) fun c5=>?_
 refine D4 (q:=P6 prog (c5) (tC 27)) (tcv (A5 0 Z)) ?_
 refine it Z (F9 (C:=tC) (k:=27) (Φ':=[M1,P0]) P9 (.inl Z) Z Z Z 0 Z cm ozw (A5 2 Z) (A5 0 Z) c9) fun ⟨z,b4⟩=>?_
 refine k_ ?_
 refine it Z (I4 (L2:=[(b,.map (C1 z 0).toArray z.length)]) (N0 (none_:=0) (last:=([103]:List UInt8)) Z oph) Z Z Z Z Z c9 jK (fun aw=>[(b,.map (C1 z 0).toArray z.length)]) jJ) fun aw=>?_
 refine D4 (q:=P6 prog (aw) (tC 35)) (tcv (A5 0 Z)) ?_
 refine it Z (F9 (C:=tC) (k:=35) (Φ':=[M1,P0]) P9 (.inl Z) Z Z Z 0 Z b4 ozw (A5 2 Z) (A5 0 Z) c9) fun ⟨n,b6⟩=>?_
 refine k_ ?_
 refine it Z (I4 (L2:=[(b,.map (C1 n 0).toArray n.length)]) (N0 (none_:=0) (last:=([32,113]:List UInt8)) Z oph) Z Z Z Z Z c9 jK (fun ax=>[(b,.map (C1 n 0).toArray n.length)]) jJ) fun ax=>?_
 refine D4 (q:=P6 prog (ax) (tC 40)) (tcv (A5 0 Z)) ?_
 refine it Z (F9 (C:=tC) (k:=40) (Φ':=[M1,P0]) P9 (.inl Z) Z Z Z 0 Z b6 ozw (A5 2 Z) (A5 0 Z) c9) fun ⟨j,bb⟩=>?_
 refine k_ ?_
 refine it Z (I4 (L2:=[(b,.map (C1 j 0).toArray j.length)]) (C0n (front:=jx) Z oph) Z Z Z Z Z c9 jK (fun au=>[(b,.map (C1 j 0).toArray j.length)]) jJ) fun au=>?_
 refine D4 (q:=P6 prog (au) (tC 36)) (tcv (A5 0 Z)) ?_
 refine it Z (F9 (C:=tC) (k:=36) (Φ':=[M1,P0]) P9 (.inl Z) Z Z Z 0 Z bb ozw (A5 2 Z) (A5 0 Z) c9) fun ⟨i,b9⟩=>?_
 refine k_ ?_
 refine it Z (I4 (L2:=[(b,.map (C1 i 0).toArray i.length)]) (C0n (front:=([63]:List UInt8)) Z oph) Z Z Z Z Z c9 jK (fun ar=>[(b,.map (C1 i 0).toArray i.length)]) jJ) fun ar=>?_
 refine D4 (q:=P6 prog (ar) (tC 37)) (tcv (A5 0 Z)) ?_
 refine it Z (F9 (C:=tC) (k:=37) (Φ':=[M1,P0]) P9 (.inl Z) Z Z Z 0 Z b9 ozw (A5 2 Z) (A5 0 Z) c9) fun ⟨db,b3⟩=>?_
 refine D4 (q:=P6 prog (aC 155) (tC 38)) (A2j (C:=tC 38) (fun args r m=>by obtain ⟨a,⟨h,g⟩,rfl,rfl⟩:=m;obtain ⟨k_,c,d,e,f⟩:=a;dsimp only at h;subst h;unfold C3j at g;dsimp only at g;rw [show B2a (⟨38,c,d,e,f⟩:Act)=(A8n (⟨38,c,d,e,f⟩:Act)) from rfl];exact D7.of (C9l (a:=(⟨38,c,d,e,f⟩:Act)) Z) Z c9) A7.refl) ?_
 refine it Z (F9 (C:=tC) (k:=38) (Φ':=[M1,P0]) P9 (.inl Z) Z Z Z 0 Z b3 ozw (A5 1 Z) (A5 0 Z) c9) fun ⟨o,ba⟩=>?_
 refine k_ ?_
 refine it Z (I4 (L2:=[(b,.map (C1 o 0).toArray o.length)]) (N0 (none_:=(-2)) (last:=([110]:List UInt8)) Z oph) Z Z Z Z Z c9 jK (fun av=>[(b,.map (C1 o 0).toArray o.length)]) jJ) fun av=>?_
 refine D4 (q:=P6 prog (av) (tC 41)) (tcv (A5 0 Z)) ?_
 refine it Z (F9 (C:=tC) (k:=41) (Φ':=[M1,P0]) P9 (.inl Z) Z Z Z 0 Z ba ozw (A5 2 Z) (A5 0 Z) c9) fun ⟨dk,b5⟩=>?_
 refine D4 (q:=P6 Tryz.prog (aC 156) (tC 42)) (A2j (C:=tC 42) (fun args r m=>by obtain ⟨a,⟨h,g⟩,rfl,rfl⟩:=m;obtain ⟨k_,c,d,e,f⟩:=a;dsimp only at h;subst h;unfold C3j at g;dsimp only at g;rw [show B2a (⟨42,c,d,e,f⟩:Act)=(A8l (⟨42,c,d,e,f⟩:Act)) from rfl];exact D7.of (C8t (a:=(⟨42,c,d,e,f⟩:Act)) Z otw) Z bX) A7.refl) ?_
 refine it Z (F9 (C:=tC) (k:=42) (Φ':=[M1,P0]) P9 (.inl Z) Z Z Z 0 Z b5 ozw (A5 1 Z) (A5 0 Z) c9) fun ⟨di,ay⟩=>?_
 refine D4 (q:=P6 prog (aC 157) (tC 43)) (A2j (C:=tC 43) (fun args r m=>by obtain ⟨a,⟨h,g⟩,rfl,rfl⟩:=m;obtain ⟨k_,c,d,e,f⟩:=a;dsimp only at h;subst h;unfold C3j at g;dsimp only at g;rw [show B2a (⟨43,c,d,e,f⟩:Act)=(A8b (⟨43,c,d,e,f⟩:Act)) from rfl];exact D7.of (D0a (a:=(⟨43,c,d,e,f⟩:Act)) Z otw) Z c9) A7.refl) ?_
 refine it Z (F9 (C:=tC) (k:=43) (Φ':=[M1,P0]) P9 (.inl Z) Z Z Z 0 Z ay ozw (A5 1 Z) (A5 0 Z) c9) fun ⟨dh,b7⟩=>?_
 refine D4 (q:=P6 prog (aC 158) (tC 39)) (A2j (C:=tC 39) (fun args r m=>by obtain ⟨a,⟨h,g⟩,rfl,rfl⟩:=m;obtain ⟨k_,c,d,e,f⟩:=a;dsimp only at h;subst h;unfold C3j at g;dsimp only at g;rw [show B2a (⟨39,c,d,e,f⟩:Act)=(A8k (⟨39,c,d,e,f⟩:Act)) from rfl];exact D7.of (C8s (a:=(⟨39,c,d,e,f⟩:Act)) Z) Z c9) A7.refl) ?_
 refine it Z (F9 (C:=tC) (k:=39) (Φ':=[M1,P0]) P9 (.inl Z) Z Z Z 0 Z b7 ozw (A5 1 Z) (A5 0 Z) c9) fun ⟨dc,az⟩=>?_
 refine k_ ?_
 refine D4 (q:=P6 prog (aC 148) (tC 44)) (C6m fun args r m=>by obtain ⟨a,⟨h,g⟩,_⟩:=m;unfold C3j at g;omega) (it Z (F9 (C:=tC) (k:=44) (Φ':=[M1,P0]) P9 (.inl Z) Z Z Z 0 Z az ozw (A5 1 Z) (A5 0 Z) c9) fun ⟨dg,b8⟩=>?_)
 refine k_ ?_
 refine D4 (q:=P6 prog (aC 148) (tC 45)) (C6m fun args r m=>by obtain ⟨a,⟨h,g⟩,_⟩:=m;unfold C3j at g;omega) (it Z (F9 (C:=tC) (k:=45) (Φ':=[M1,P0]) P9 (.inl Z) Z Z Z 0 Z b8 ozw (A5 1 Z) (A5 0 Z) c9) fun ⟨da,bc⟩=>?_)
 refine k_ ?_
 refine D4 (q:=P6 prog (aC 148) (tC 46)) (C6m fun args r m=>by obtain ⟨a,⟨h,g⟩,_⟩:=m;unfold C3j at g;omega) (it Z (F9 (C:=tC) (k:=46) (Φ':=[M1,P0]) P9 (.inl Z) Z Z Z 0 Z bc ozw (A5 1 Z) (A5 0 Z) c9) fun ⟨b2,b0⟩=>?_)
 refine k_ ?_
 subst hR
 refine ie (A8 ?_)
 exact cC hr hD (I9 Z A6) ⟨(b,b2),b0⟩ (mk [true] Z) c9
end
end Go.Proofs.YtmldjljkeigpnaaGreatDoor
