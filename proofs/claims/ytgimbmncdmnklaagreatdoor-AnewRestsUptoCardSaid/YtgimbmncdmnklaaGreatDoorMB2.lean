import Derived.Test.YtgimbmncdmnklaaGreatDoorProg
import Derived.Test.YtgimbmncdmnklaaGreatDoorMA2
import Derived.Test.YtgimbmncdmnklaaGreatDoorMB1
import Derived.Test.YtgimbmncdmnklaaGreatDoorMA3
set_option linter.unusedVariables false
set_option linter.unusedSimpArgs false
set_option linter.unnecessarySimpa false
set_option maxRecDepth 100000
namespace Go.Proofs.YtgimbmncdmnklaaGreatDoor
open Go Go.Fen
theorem N6:MapTy Tryz.prog 187 3 191 (.int .i64):=⟨by kernel_rfl,by kernel_rfl,rfl⟩
def A7d (a:Act):List UInt8 :=
 (B6 (B5n a.n) fun (b:List UInt8)=>b)
theorem C5f {a:Act} {R:List UInt8} (hR:A7d a=R):J5 Tryz.prog 152 [ag (A0 a)] [] (sv R):=by
 refine cC Tryz.func152 fun X hX hr hD=>?_
 replace hR:=(A7d.eq_1 ..).symm.trans hR
 refine bS rfl (zra 2 [] (fun c=>[(1,pt c 0)]) (fun _=>(A0 a)) 54 fun c=>(ie (bS rfl (cF 2 [0] 4 rfl ?_))))
 have d:=C4 hR;clear hR;obtain ⟨e,b,hR⟩:=d
 refine zv rfl (D4d b) ?_
 have:=B9g a.n;try rw [b] at this
 refine bP 1 2 rfl ?_
 subst hR
 refine ie (A8 ?_)
 exact F7 hr hD
def F9 (b:Act) (a:List UInt8):List UInt8 :=
 a
theorem C1w {b:Act} {c:List UInt8} {a:Addr} {R:List UInt8} (hR:F9 b c=R):J5 Tryz.prog 140 [ag (A0 b),pa a] [at_ a [sv c]] (sv R):=by
 refine cC Tryz.func140 fun X hX hr hD=>?_
 replace hR:=(F9.eq_1 ..).symm.trans hR
 refine bS rfl (zra 2 [] (fun d=>[]) (fun _=>(A0 b)) 54 fun d=>(ie (bS rfl (ix rfl (C9 ty9 rfl rfl (A5 0 rfl) rfl) (bP 1 3 rfl ?_)))))
 subst hR
 refine ie (A8 ?_)
 exact F7 hr hD
abbrev tk (a:Act):Prop:=a.text.length≤100000000∧a.kind≤43
def C7y (pre:Act→Prop) (f:Act→List UInt8):List Value→Value→Prop:=fun args r=>∃ a:Act,pre a∧args=[ag (A0 a)]∧r=sv (f a)
def X0 (s:List UInt8):Unit :=
 ()
theorem N0 {s:List UInt8} {R:Unit} (hR:X0 s=R):Con Tryz.prog 139 [sv s] [] [] (Value) (fun x=>x) (fun x=>[]) (fun x=>[N4 Tryz.prog (x) (C7y (fun _=>True) (fun a=>(F9 a s)))]):=by
 refine cC Tryz.func139 fun X hX hr hD=>?_
 replace hR:=(X0.eq_1 ..).symm.trans hR
 refine bS rfl (it rfl (A0h (cs:=[sv s]) rfl rfl rfl) fun b=>?_)
 refine A3w 0 rfl ?_
 refine pp0 1 rfl (ie (bS rfl (ip' 2 0 [(2,.func (.func 140) #[] #[pa ⟨b,0,none⟩])] (ie (A6c (q:=N4 Tryz.prog (.func (.func 140) #[] #[pa ⟨b,0,none⟩]) (C7y (fun _=>True) (fun a=>(F9 a s)))) (A0a (fun args r c=>by obtain ⟨a,d,rfl,rfl⟩:=c;exact D4.of (C1w rfl) rfl A7.refl) A7.refl) ?_)))))
 subst hR
 refine A8 ?_
 exact cD hr hD (K7 rfl (A6 rfl)) (.func (.func 140) #[] #[pa ⟨b,0,none⟩]:Value) bU cB
def A4n (s:List UInt8) (n:Int):List UInt8 :=
 ((s.drop ((n).toNat)).take (((n).toNat+1) - ((n).toNat)))
theorem A8g (s:List UInt8) (n:Int) (a:0≤n):(A4n s n).length≤1:=by
 unfold A4n;simp only [List.length_take,List.length_drop];omega
theorem B2f {s:List UInt8} {n:Int} {R:List UInt8} (hR:A4n s n=R) (b:0≤n∧n<(s.length:Int):=by exact bW) (a:s.length≤1000:=by exact bW):J5 Tryz.prog 143 [sv s,iv n] [] (sv R):=by
 refine cC Tryz.func143 fun X hX hr hD=>?_
 replace hR:=(A4n.eq_1 ..).symm.trans hR
 refine bS rfl (pp0 1 rfl (ie (bS rfl (pp3 3 5 6 7 rfl (ix rfl (B3 rfl rfl rfl rfl opx) (ix rfl (D8d (T:=9) Tryz.underlying9 rfl rfl rfl rfl ((n).toNat) opx ((n).toNat+1) opx opx opx) ?_))))))
 have:=@List.length_drop _ ((n).toNat) s
 have:=@List.length_take _ (((n).toNat+1) - ((n).toNat)) (s.drop ((n).toNat))
 refine bP 1 4 rfl ?_
 subst hR
 refine ie (A8 ?_)
 exact F7 hr hD
def Y3 (a:Act) (c:List UInt8) (p2:List UInt8) (b:Int):List UInt8 :=
 (B6 (A4n p2 (a.n - b)) fun (d:List UInt8)=>(c++d))
theorem C2x {a:Act} {g p2:List UInt8} {b:Int} {f d c:Addr} {R:List UInt8} (hR:Y3 a g p2 b=R) (l:b≤a.n∧a.n - b<(p2.length:Int):=by exact bW) (k:g.length≤1000∧p2.length≤1000∧0≤b∧b≤1000:=by exact bW):J5 Tryz.prog 142 [ag (A0 a),pa f,pa d,pa c] [at_ f [sv g],at_ d [sv p2],at_ c [iv b]] (sv R):=by
 refine cC Tryz.func142 fun X hX hr hD=>?_
 replace hR:=(Y3.eq_1 ..).symm.trans hR
 refine bS rfl (zra 2 [] (fun h=>[(4,pt h 0)]) (fun _=>(A0 a)) 54 fun h=>(ie (sd 9 rfl oki rfl (dd rfl (C9 ty9 rfl rfl (A5 0 rfl) rfl) (dd rfl (C9 ty9 rfl rfl (A5 1 rfl) rfl) (pg1 2 [0] 9 rfl (dd rfl (C9 cH rfl rfl (A5 2 rfl) rfl) (dd rfl (M4 rfl rfl rfl rfl opx) ?_))))))))
 have i:=C4 hR;clear hR;obtain ⟨j,e,hR⟩:=i
 refine zvd rfl (B2f e) ?_
 have:=A8g p2 (a.n - b) opx;try rw [e] at this
 refine dd rfl (zst rfl rfl rfl) ?_
 have:=@List.length_append _ g j
 refine pd1 1 5 rfl ?_
 subst hR
 refine de (A8 ?_)
 exact F7 hr hD
def X3 (front:List UInt8) (signs:List UInt8) (first:Int):Unit :=
 ()
theorem B0w {front signs:List UInt8} {first:Int} {R:Unit} (hR:X3 front signs first=R) (f:front.length≤1000∧signs.length≤1000∧0≤first∧first≤1000:=by exact bW):Con Tryz.prog 141 [sv front,sv signs,iv first] [] [] (Value) (fun x=>x) (fun x=>[]) (fun x=>[N4 Tryz.prog (x) (C7y (fun a=>first≤a.n∧a.n - first<(signs.length:Int)) (fun a=>(Y3 a front signs first)))]):=by
 refine cC Tryz.func141 fun X hX hr hD=>?_
 replace hR:=(X3.eq_1 ..).symm.trans hR
 refine bS rfl (it rfl (A0h (cs:=[sv front]) rfl rfl rfl) fun b=>?_)
 refine A3w 0 rfl ?_
 refine it rfl (A0h (cs:=[sv signs]) rfl rfl rfl) fun c=>?_
 refine A3w 0 rfl ?_
 refine it rfl (A0h (cs:=[iv first]) rfl rfl rfl) fun d=>?_
 refine A3w 0 rfl ?_
 refine pp0 1 rfl (ie (bS rfl (ip' 2 0 [(6,.func (.func 142) #[] #[pa ⟨b,0,none⟩,pa ⟨c,0,none⟩,pa ⟨d,0,none⟩])] (ie (A6c (q:=N4 Tryz.prog (.func (.func 142) #[] #[pa ⟨b,0,none⟩,pa ⟨c,0,none⟩,pa ⟨d,0,none⟩]) (C7y (fun a=>first≤a.n∧a.n - first<(signs.length:Int)) (fun a=>(Y3 a front signs first)))) (A0a (fun args r e=>by obtain ⟨a,g,rfl,rfl⟩:=e;exact D4.of (C2x rfl (by exact g) (by exact f)) rfl cB) A7.refl) ?_)))))
 subst hR
 refine A8 ?_
 exact cD hr hD (K7 rfl (A6 rfl)) (.func (.func 142) #[] #[pa ⟨b,0,none⟩,pa ⟨c,0,none⟩,pa ⟨d,0,none⟩]:Value) bU cB
def A6h (a:Act):List UInt8 :=
 (B6 (A4n ([40,41,42,43]:List UInt8) a.n) fun (b:List UInt8)=>(B6 (A4n ([66,48]:List UInt8) a.m) fun (c:List UInt8)=>((([27]:List UInt8)++b)++c)))
theorem C5h {a:Act} {R:List UInt8} (hR:A6h a=R) (g:(0≤a.n∧a.n≤3)∧0≤a.m∧a.m≤1:=by exact bW):J5 Tryz.prog 154 [ag (A0 a)] [] (sv R):=by
 refine cC Tryz.func154 fun X hX hr hD=>?_
 replace hR:=(A6h.eq_1 ..).symm.trans hR
 refine bS rfl (zra 2 [] (fun e=>[(1,pt e 0)]) (fun _=>(A0 a)) 54 fun e=>(ie (sd 9 rfl oki rfl (pg1 2 [0] 4 rfl ?_))))
 have d:=C4 hR;clear hR;obtain ⟨f,b,hR⟩:=d
 refine zvd rfl (B2f b) ?_
 have:=A8g ([40,41,42,43]:List UInt8) a.n opx;try rw [b] at this
 refine dd rfl (zst rfl rfl rfl) (pg1 2 [0] 8 rfl ?_)
 have d:=C4 hR;clear hR;obtain ⟨h,c,hR⟩:=d
 refine zvd rfl (B2f c) ?_
 have:=A8g ([66,48]:List UInt8) a.m opx;try rw [c] at this
 refine dd rfl (zst rfl rfl rfl) (pd1 1 2 rfl ?_)
 subst hR
 refine de (A8 ?_)
 exact F7 hr hD
def Y2 (l:List Int) (b:Nat) (a:List (List Int)→Nat→List UInt8):Nat→List (List Int)→List UInt8
 | 0,_=>[]
 | fu1+1,out1=>(bif (decide ((out1.length:Int)<(b:Int))) then Y2 l b a fu1 (out1++([([(-1)]:List Int)]:List (List Int))) else a (out1++([([(l.getD b 0)]:List Int)]:List (List Int))) (b+1))
def L5 (none_:Int) (l:List Int):List Int→List (List Int)→Nat→List UInt8
 | [],out,t12=>(B6 (S3 out) fun (a:List UInt8×Int)=>a.1)
 | hd_l3::tl_l3,out,t12=>(bif (decide (hd_l3=none_)) then L5 none_ l tl_l3 out (t12+1) else Y2 l t12 (L5 none_ l tl_l3) ((t12 - out.length)+1) out)
def A4h (none_:Int) (l:List Int):List UInt8 :=
 L5 none_ l l ([]:List (List Int)) 0
theorem B8i (l:List Int) (a:Nat) (ag:List (List Int)→Nat→List UInt8) (b:∀ o t,(ag o t).length≤2112):∀ (fu:Nat) (o:List (List Int)),(Y2 l a ag fu o).length≤2112
 | 0,o=>by simp [Y2]
 | fu+1,o=>by
  rw [Y2]
  cases decide ((o.length:Int)<(a:Int)) with
  | true=>exact B8i l a ag b fu _
  | false=>exact b _ _
theorem B2i (none_:Int) (l:List Int):∀ (r:List Int) (o:List (List Int)) (t:Nat),(L5 none_ l r o t).length≤2112
 | [],o,t=>A8j o
 | x::r,o,t=>by
  rw [L5]
  cases decide (x=none_) with
  | true=>exact B2i none_ l r o (t+1)
  | false=>exact B8i l t _ (B2i none_ l r) _ _
theorem A5h (none_:Int) (l:List Int):(A4h none_ l).length≤2112:=B2i none_ l l [] 0
theorem oiz {p:Prop} (h:p:=by first|omega|(simp only [List.length_take,List.length_drop,List.length_append,List.length_cons,List.length_nil,List.length_set,List.length_map,F9,X0,X3];omega)|decide):p:=h
theorem oop {p:Prop} (h:p:=by first|omega|(simp only [List.length_cons,List.length_nil,List.length_append,List.length_take,List.length_drop,F9,X0,X3];omega)):p:=h
theorem B1h {none_:Int} {l:List Int} {lq:Option Addr} {lk:Nat} {R:List UInt8} (hR:A4h none_ l=R) (a6:l.length≤9223372036854775807:=by exact bW) (af:l.length≤lk:=by exact bW) (ab:l.length≤4:=by exact bW):J5 Tryz.prog 146 [iv none_,.slice lq l.length lk] [sl H5 lq l,J2] (sv R):=by
 refine cC Tryz.func146 fun X hX hr hD=>?_
 replace hR:=(A4h.eq_1 ..).symm.trans hR
 refine bS rfl (pp0 1 rfl (ie (bS rfl (bP 1 5 rfl (ie (A3 (bS rfl (pp3 3 10 11 12 rfl (ie (A9 ?_))))))))))
 refine A3q (un fun (n:List (List Int))=>un fun (j:VR)=>un fun (g:List Slc) (d:Nat)=>(d≤l.length∧L5 none_ l (l.drop d) n d=R∧bT 1 n.length j∧B4 g n∧n.length≤d,[(0,iv none_),(5,.slice (va j.q) n.length j.k),(10,.slice lq l.length lk),(11,iv (l.length:Int)),(12,iv (d:Int))],((vo D9 290 j g)++([])),[sl H5 lq l,J2,D5 H5 g n],l.length - d)) (([]:List (List Int)),VR.nil,([]:List Slc),0) ⟨opx,hR,bT.nil,B4.none,oom⟩ bU cB ?_
 rintro ⟨n,j,g,d⟩ ⟨aa,hR,h,f,ho⟩
 have:=bT.le h
 have:=f.1
 refine bS rfl (bP 1 13 rfl ?_)
 refine ie (A3 (G4 rfl (fun h2=>?_) (fun h2=>?_)))
 ·have z:=bV h2
  rw [A1b 0 (show d<l.length by omega)] at hR;replace hR:=(L5.eq_2 ..).symm.trans hR
  refine A4 (nx (A3 (A9 (bS rfl (bP 1 14 rfl (K8 0 rfl opx fun a3 w=>(ix rfl (F8 K2 rfl rfl w rfl d rfl opx) (ix rfl (C9 cH rfl rfl (H2 (c:=H5) (sz:=1) w (fun _=>rfl) 0 rfl (gd 0 opx)) rfl) (cG 2 6 7 rfl (ie (A3 (bS rfl (bP 3 19 rfl (ie ?_))))))))))))))
  refine zjd rfl hR ?_ ?_<;>clear hR<;>intro hR h5 a9
  ·refine F4 (nx (A1 2 rfl (ix rfl (B3 rfl rfl rfl rfl opx) ?_)))
   refine bP 1 12 rfl (A2 ?_)
   exact A2g (z1:=(n,j,g,d)) (n,j,g,d+1) ⟨opx,hR,h,f,ozq⟩ olr bU A7.refl
  refine A4 (nx (A3 (A9 ?_)))
  refine A3q (un fun (fu:Nat)=>un fun (b:List (List Int))=>un fun (i:VR) (e:List Slc)=>((d - b.length)<fu∧Y2 l d (L5 none_ l (l.drop (d+1))) fu b=R∧bT 1 b.length i∧B4 e b∧b.length≤d,[(0,iv none_),(5,.slice (va i.q) b.length i.k),(6,iv (d:Int)),(7,iv (l.getD d 0)),(10,.slice lq l.length lk),(11,iv (l.length:Int)),(12,iv (d:Int))],((vo D9 290 i e)++([])),[sl H5 lq l,J2,D5 H5 g n,D5 H5 e b],fu)) ((d - n.length)+1,n,j,g) ⟨(Nat.lt_succ_self _),hR,h,f,opx⟩ bU cB ?_
  rintro ⟨fu,b,i,e⟩ ⟨a7,hR,o,a,ac⟩
  have:=bT.le o
  have:=a.1
  obtain ⟨fu1,rfl⟩:∃ m,fu=m+1:=⟨fu - 1,by omega⟩
  replace hR:=(Y2.eq_2 ..).symm.trans hR
  refine A3 (bS rfl (bP 4 23 rfl ?_))
  refine ie ?_
  refine zjd rfl hR ?_ ?_<;>clear hR<;>intro hR h7 ad
  ·refine A4 (nx (A9 (A1 6 rfl (bP 1 24 rfl (it rfl (B1 (c:=H5) (xs:=([(-1)]:List Int)) K2 rfl rfl rfl oki) fun x=>?_)))))
   have:([(-1)]:List Int).length=1:=rfl
   refine c9 1 3 [] [(26,ag [.slice (some ⟨x,0,none⟩) 1 1])] (it rfl (B1 (c:=D9) (xs:=([⟨some ⟨x,0,none⟩,1,1⟩]:List Slc)) C2c rfl rfl rfl oki) fun b9=>?_)
   have s:B4 ([⟨some ⟨x,0,none⟩,1,1⟩]:List Slc) ([([(-1)]:List Int)]:List (List Int)):=(B4.cons ⟨ooy,oiz,oiz⟩ B4.none)
   refine D7 (q:=D5 H5 ([⟨some ⟨x,0,none⟩,1,1⟩]:List Slc) ([([(-1)]:List Int)]:List (List Int))) (M3 (A5 1 rfl) H9) ?_
   have:([⟨some ⟨x,0,none⟩,1,1⟩]:List Slc).length=1:=rfl
   have y:B4 (e++([⟨some ⟨x,0,none⟩,1,1⟩]:List Slc)) (b++([([(-1)]:List Int)]:List (List Int))):=B4.append a s
   refine it rfl (J8 (r:=i) (rs:=e) (xss:=b) (pre:=[]) (post:=[]) E0y rfl rfl rfl rfl rfl rfl rfl rfl rfl (A5 1 rfl) (A5 6 rfl) (A5 0 rfl) a s o oop oop) fun ⟨a5,v⟩=>?_
   have:=bT.le v
   have:=bT.cap v
   have:([([(-1)]:List Int)]:List (List Int)).length=1:=rfl
   have:(b++([([(-1)]:List Int)]:List (List Int))).length=b.length+1:=List.length_append
   refine bP 1 5 rfl (A2 ?_)
   exact A2g (z1:=(fu1+1,b,i,e)) (fu1,(b++([([(-1)]:List Int)]:List (List Int))),a5,(e++([⟨some ⟨x,0,none⟩,1,1⟩]:List Slc))) ⟨opx,hR,v,y,ozq⟩ (Nat.lt_succ_self _) bU cB
  refine F4 (nx (A1 7 rfl (cG 2 29 30 rfl ?_)))
  refine it rfl (B1 (c:=H5) (xs:=([(l.getD d 0)]:List Int)) K2 rfl rfl rfl oki) fun t=>?_
  have:([(l.getD d 0)]:List Int).length=1:=rfl
  refine c9 1 3 [] [(32,ag [.slice (some ⟨t,0,none⟩) 1 1])] (it rfl (B1 (c:=D9) (xs:=([⟨some ⟨t,0,none⟩,1,1⟩]:List Slc)) C2c rfl rfl rfl oki) fun ae=>?_)
  have p:B4 ([⟨some ⟨t,0,none⟩,1,1⟩]:List Slc) ([([(l.getD d 0)]:List Int)]:List (List Int)):=(B4.cons ⟨ooy,oiz,oiz⟩ B4.none)
  refine D7 (q:=D5 H5 ([⟨some ⟨t,0,none⟩,1,1⟩]:List Slc) ([([(l.getD d 0)]:List Int)]:List (List Int))) (M3 (A5 1 rfl) H9) ?_
  have:([⟨some ⟨t,0,none⟩,1,1⟩]:List Slc).length=1:=rfl
  have a1:B4 (e++([⟨some ⟨t,0,none⟩,1,1⟩]:List Slc)) (b++([([(l.getD d 0)]:List Int)]:List (List Int))):=B4.append a p
  refine it rfl (J8 (r:=i) (rs:=e) (xss:=b) (pre:=[]) (post:=[]) E0y rfl rfl rfl rfl rfl rfl rfl rfl rfl (A5 1 rfl) (A5 6 rfl) (A5 0 rfl) a p o oop oop) fun ⟨a2,u⟩=>?_
  have:=bT.le u
  have:=bT.cap u
  have:([([(l.getD d 0)]:List Int)]:List (List Int)).length=1:=rfl
  have:(b++([([(l.getD d 0)]:List Int)]:List (List Int))).length=b.length+1:=List.length_append
  refine bP 1 5 rfl (A2 (nx (A1 2 rfl (ix rfl (B3 rfl rfl rfl rfl opx) (bP 1 12 rfl (A2 ?_))))))
  exact A2g (z1:=(n,j,g,d)) ((b++([([(l.getD d 0)]:List Int)]:List (List Int))),a2,(e++([⟨some ⟨t,0,none⟩,1,1⟩]:List Slc)),d+1) ⟨opx,hR,u,a1,ozq⟩ olr bU cB
 have z:=bV h2
 rw [A1d z] at hR;replace hR:=(L5.eq_1 ..).symm.trans hR
 refine F4 (nx (bS rfl (bP 1 37 rfl ?_)))
 have:=bT.cap h
 have:=bT.le h
 refine R5 [] [] (T:=290) (c:=D9) (r:=j) (xs:=g) (bT.cast h (by rw [f.1])) opv ?_
 have hQ:=C4 hR;clear hR;obtain ⟨y2,a0,hR⟩:=hQ
 refine zv rfl (C1f a0 f) ?_
 have:=A8j n;try rw [a0] at this
 refine bP 5 8 rfl (ie (bS rfl (bP 2 4 rfl ?_)))
 subst hR
 refine ie (A8 ?_)
 exact F7 hr hD
def S0 (a:Act) (d:List UInt8):List UInt8 :=
 (B6 (A4h 1 ([a.m]:List Int)) fun (b:List UInt8)=>(B6 (A4n d a.n) fun (c:List UInt8)=>((([27,91]:List UInt8)++b)++c)))
theorem C2p {a:Act} {b:List UInt8} {e:Addr} {R:List UInt8} (hR:S0 a b=R) (p:0≤a.n∧a.n<(b.length:Int):=by exact bW) (o:b.length≤1000:=by exact bW):J5 Tryz.prog 148 [ag (A0 a),pa e] [at_ e [sv b],J2] (sv R):=by
 refine cC Tryz.func148 fun X hX hr hD=>?_
 replace hR:=(S0.eq_1 ..).symm.trans hR
 refine bS rfl (zra 2 [] (fun h=>[(2,pt h 0)]) (fun _=>(A0 a)) 54 fun h=>(ie (zS [(11,[0])] ?_)))
 refine hq2 [0,6] 4 10 rfl ?_
 refine gl 1 [0] rfl (C1 (v:=iv a.m) cH rfl rfl 0 rfl rfl) ?_
 refine gk 5 rfl (C9 ty9 rfl rfl (A5 0 rfl) rfl) ?_
 refine gl 7 [0] rfl (C1 (v:=iv a.n) cH rfl rfl 0 rfl rfl) ?_
 refine go 2 [0] rfl (B1 (c:=H5) (xs:=([a.m]:List Int)) K2 rfl rfl rfl oki) fun i=>?_
 have:([a.m]:List Int).length=1:=rfl
 have g:=C4 hR;clear hR;obtain ⟨k,f,hR⟩:=g
 refine gv 3 [0] rfl (B1h (none_:=1) (l:=([a.m]:List Int)) (lq:=(some ⟨i,0,none⟩)) (lk:=1) f) ?_
 have:=A5h 1 ([a.m]:List Int);try rw [f] at this
 refine gk 4 rfl (zst rfl rfl rfl) ?_
 have g:=C4 hR;clear hR;obtain ⟨j,d,hR⟩:=g
 refine gv 8 [0] rfl (B2f d) ?_
 have:=A8g b a.n opx;try rw [d] at this
 refine gk 9 rfl (zst rfl rfl rfl) ?_
 refine hq1 [10] 3 rfl ?_
 refine ge ?_
 subst hR
 refine A8 ?_
 exact F7 hr hD
def B9q (signs:List UInt8):Unit :=
 ()
theorem B1c {signs:List UInt8} {R:Unit} (hR:B9q signs=R) (c:signs.length≤1000:=by exact bW):Con Tryz.prog 147 [sv signs] [] [J2] (Value) (fun x=>x) (fun x=>[]) (fun x=>[N4 Tryz.prog (x) (C7y (fun a=>0≤a.n∧a.n<(signs.length:Int)) (fun a=>(S0 a signs)))]):=by
 refine cC Tryz.func147 fun X hX hr hD=>?_
 replace hR:=(B9q.eq_1 ..).symm.trans hR
 refine bS rfl (it rfl (A0h (cs:=[sv signs]) rfl rfl rfl) fun b=>?_)
 refine A3w 0 rfl ?_
 refine pp0 1 rfl (ie (bS rfl (ip' 2 0 [(2,.func (.func 148) #[] #[pa ⟨b,0,none⟩])] (ie (A6c (q:=N4 Tryz.prog (.func (.func 148) #[] #[pa ⟨b,0,none⟩]) (C7y (fun a=>0≤a.n∧a.n<(signs.length:Int)) (fun a=>(S0 a signs)))) (A0a (fun args r d=>by obtain ⟨a,e,rfl,rfl⟩:=d;exact D4.of (C2p rfl (by exact e) (by exact c)) rfl A7.refl) A7.refl) ?_)))))
 subst hR
 refine A8 ?_
 exact cD hr hD (K7 rfl (A6 rfl)) (.func (.func 148) #[] #[pa ⟨b,0,none⟩]:Value) bU cB
def A2r (a:Act):List UInt8 :=
 (B6 (A4h 1 ([a.n,a.m]:List Int)) fun (b:List UInt8)=>((([27,91]:List UInt8)++b)++([72]:List UInt8)))
theorem C6d {a:Act} {R:List UInt8} (hR:A2r a=R):J5 Tryz.prog 155 [ag (A0 a)] [J2] (sv R):=by
 refine cC Tryz.func155 fun X hX hr hD=>?_
 replace hR:=(A2r.eq_1 ..).symm.trans hR
 refine bS rfl (zra 2 [] (fun d=>[(1,pt d 0)]) (fun _=>(A0 a)) 54 fun d=>(ie (bS rfl (pl2 4 [0,0] 4 6 rfl (it rfl (B1 (c:=H5) (xs:=([a.n,a.m]:List Int)) K2 rfl rfl rfl oki) fun f=>?_)))))
 have:([a.n,a.m]:List Int).length=2:=rfl
 have e:=C4 hR;clear hR;obtain ⟨g,b,hR⟩:=e
 refine zv rfl (B1h (none_:=1) (l:=([a.n,a.m]:List Int)) (lq:=(some ⟨f,0,none⟩)) (lk:=2) b) ?_
 have:=A5h 1 ([a.n,a.m]:List Int);try rw [b] at this
 refine ix rfl (zst rfl rfl rfl) (ix rfl (zst rfl rfl rfl) (bP 1 2 rfl ?_))
 subst hR
 refine ie (A8 ?_)
 exact F7 hr hD
def G9 (a:Act) (c:Int) (p2:List UInt8):List UInt8 :=
 (B6 (A4h c ([a.n]:List Int)) fun (b:List UInt8)=>((([27,91]:List UInt8)++b)++p2))
theorem C2e {a:Act} {f:Int} {p2:List UInt8} {d b:Addr} {R:List UInt8} (hR:G9 a f p2=R) (k:p2.length≤1000:=by exact bW):J5 Tryz.prog 145 [ag (A0 a),pa d,pa b] [at_ d [iv f],at_ b [sv p2],J2] (sv R):=by
 refine cC Tryz.func145 fun X hX hr hD=>?_
 replace hR:=(G9.eq_1 ..).symm.trans hR
 refine bS rfl (zra 2 [] (fun g=>[(3,pt g 0)]) (fun _=>(A0 a)) 54 fun g=>(ie (zS [(9,[0])] ?_)))
 refine hq1 [1] 6 rfl ?_
 refine gk 0 rfl (C9 cH rfl rfl (A5 0 rfl) rfl) ?_
 refine gl 2 [0] rfl (C1 (v:=iv a.n) cH rfl rfl 0 rfl rfl) ?_
 refine gk 6 rfl (C9 ty9 rfl rfl (A5 1 rfl) rfl) ?_
 refine go 3 [0] rfl (B1 (c:=H5) (xs:=([a.n]:List Int)) K2 rfl rfl rfl oki) fun h=>?_
 have:([a.n]:List Int).length=1:=rfl
 have i:=C4 hR;clear hR;obtain ⟨j,e,hR⟩:=i
 refine gv 4 [0] rfl (B1h (none_:=f) (l:=([a.n]:List Int)) (lq:=(some ⟨h,0,none⟩)) (lk:=1) e) ?_
 have:=A5h f ([a.n]:List Int);try rw [e] at this
 refine gk 5 rfl (zst rfl rfl rfl) ?_
 refine gk 7 rfl (zst rfl rfl rfl) ?_
 refine hq1 [8] 4 rfl ?_
 refine ge ?_
 subst hR
 refine A8 ?_
 exact F7 hr hD
def B9o (none_:Int) (last:List UInt8):Unit :=
 ()
theorem L7 {none_:Int} {last:List UInt8} {R:Unit} (hR:B9o none_ last=R) (e:last.length≤1000:=by exact bW):Con Tryz.prog 144 [iv none_,sv last] [] [J2] (Value) (fun x=>x) (fun x=>[]) (fun x=>[N4 Tryz.prog (x) (C7y (fun _=>True) (fun a=>(G9 a none_ last)))]):=by
 refine cC Tryz.func144 fun X hX hr hD=>?_
 replace hR:=(B9o.eq_1 ..).symm.trans hR
 refine bS rfl (it rfl (A0h (cs:=[iv none_]) rfl rfl rfl) fun b=>?_)
 refine A3w 0 rfl ?_
 refine it rfl (A0h (cs:=[sv last]) rfl rfl rfl) fun c=>?_
 refine A3w 0 rfl ?_
 refine pp0 1 rfl (ie (bS rfl (ip' 2 0 [(4,.func (.func 145) #[] #[pa ⟨b,0,none⟩,pa ⟨c,0,none⟩])] (ie (A6c (q:=N4 Tryz.prog (.func (.func 145) #[] #[pa ⟨b,0,none⟩,pa ⟨c,0,none⟩]) (C7y (fun _=>True) (fun a=>(G9 a none_ last)))) (A0a (fun args r d=>by obtain ⟨a,f,rfl,rfl⟩:=d;exact D4.of (C2e rfl (by exact e)) rfl cB) A7.refl) ?_)))))
 subst hR
 refine A8 ?_
 exact cD hr hD (K7 rfl (A6 rfl)) (.func (.func 145) #[] #[pa ⟨b,0,none⟩,pa ⟨c,0,none⟩]:Value) bU cB
def A0n (a:Act) (d:List UInt8):List UInt8 :=
 (B6 (A4h (-2) ([a.n]:List Int)) fun (b:List UInt8)=>(B6 (A4n ([108,104]:List UInt8) a.m) fun (c:List UInt8)=>(((([27,91]:List UInt8)++d)++b)++c)))
theorem C2a {a:Act} {f:List UInt8} {d:Addr} {R:List UInt8} (hR:A0n a f=R) (p:0≤a.m∧a.m≤1:=by exact bW) (o:f.length≤1000:=by exact bW):J5 Tryz.prog 151 [ag (A0 a),pa d] [at_ d [sv f],J2] (sv R):=by
 refine cC Tryz.func151 fun X hX hr hD=>?_
 replace hR:=(A0n.eq_1 ..).symm.trans hR
 refine bS rfl (zra 2 [] (fun h=>[(2,pt h 0)]) (fun _=>(A0 a)) 54 fun h=>(ie (zS [(12,[0])] ?_)))
 refine hq2 [2,7] 6 11 rfl ?_
 refine gk 0 rfl (C9 ty9 rfl rfl (A5 0 rfl) rfl) ?_
 refine gk 1 rfl (zst rfl rfl rfl) ?_
 refine gl 3 [0] rfl (C1 (v:=iv a.n) cH rfl rfl 0 rfl rfl) ?_
 refine gl 8 [0] rfl (C1 (v:=iv a.m) cH rfl rfl 0 rfl rfl) ?_
 refine go 4 [0] rfl (B1 (c:=H5) (xs:=([a.n]:List Int)) K2 rfl rfl rfl oki) fun i=>?_
 have:([a.n]:List Int).length=1:=rfl
 have g:=C4 hR;clear hR;obtain ⟨k,e,hR⟩:=g
 refine gv 5 [0] rfl (B1h (none_:=(-2)) (l:=([a.n]:List Int)) (lq:=(some ⟨i,0,none⟩)) (lk:=1) e) ?_
 have:=A5h (-2) ([a.n]:List Int);try rw [e] at this
 refine gk 6 rfl (zst rfl rfl rfl) ?_
 have g:=C4 hR;clear hR;obtain ⟨j,b,hR⟩:=g
 refine gv 9 [0] rfl (B2f b) ?_
 have:=A8g ([108,104]:List UInt8) a.m opx;try rw [b] at this
 refine gk 10 rfl (zst rfl rfl rfl) ?_
 refine hq1 [11] 3 rfl ?_
 refine ge ?_
 subst hR
 refine A8 ?_
 exact F7 hr hD
def C0f (front:List UInt8):Unit :=
 ()
theorem B6j {front:List UInt8} {R:Unit} (hR:C0f front=R) (c:front.length≤1000:=by exact bW):Con Tryz.prog 150 [sv front] [] [J2] (Value) (fun x=>x) (fun x=>[]) (fun x=>[N4 Tryz.prog (x) (C7y (fun a=>0≤a.m∧a.m≤1) (fun a=>(A0n a front)))]):=by
 refine cC Tryz.func150 fun X hX hr hD=>?_
 replace hR:=(C0f.eq_1 ..).symm.trans hR
 refine bS rfl (it rfl (A0h (cs:=[sv front]) rfl rfl rfl) fun b=>?_)
 refine A3w 0 rfl ?_
 refine pp0 1 rfl (ie (bS rfl (ip' 2 0 [(2,.func (.func 151) #[] #[pa ⟨b,0,none⟩])] (ie (A6c (q:=N4 Tryz.prog (.func (.func 151) #[] #[pa ⟨b,0,none⟩]) (C7y (fun a=>0≤a.m∧a.m≤1) (fun a=>(A0n a front)))) (A0a (fun args r d=>by obtain ⟨a,e,rfl,rfl⟩:=d;exact D4.of (C2a rfl (by exact e) (by exact c)) rfl A7.refl) A7.refl) ?_)))))
 subst hR
 refine A8 ?_
 exact cD hr hD (K7 rfl (A6 rfl)) (.func (.func 151) #[] #[pa ⟨b,0,none⟩]:Value) bU cB
def A5u (a:Act):List UInt8 :=
 (B6 (A4h 0 ([a.n,a.m]:List Int)) fun (b:List UInt8)=>((([27,91]:List UInt8)++b)++([114]:List UInt8)))
theorem C4o {a:Act} {R:List UInt8} (hR:A5u a=R):J5 Tryz.prog 156 [ag (A0 a)] [J2] (sv R):=by
 refine cC Tryz.func156 fun X hX hr hD=>?_
 replace hR:=(A5u.eq_1 ..).symm.trans hR
 refine bS rfl (zra 2 [] (fun d=>[(1,pt d 0)]) (fun _=>(A0 a)) 54 fun d=>(ie (bS rfl (pl2 4 [0,0] 4 6 rfl (it rfl (B1 (c:=H5) (xs:=([a.n,a.m]:List Int)) K2 rfl rfl rfl oki) fun f=>?_)))))
 have:([a.n,a.m]:List Int).length=2:=rfl
 have e:=C4 hR;clear hR;obtain ⟨g,b,hR⟩:=e
 refine zv rfl (B1h (none_:=0) (l:=([a.n,a.m]:List Int)) (lq:=(some ⟨f,0,none⟩)) (lk:=2) b) ?_
 have:=A5h 0 ([a.n,a.m]:List Int);try rw [b] at this
 refine ix rfl (zst rfl rfl rfl) (ix rfl (zst rfl rfl rfl) (bP 1 2 rfl ?_))
 subst hR
 refine ie (A8 ?_)
 exact F7 hr hD
def A5s (a:Act):List UInt8 :=
 ((([27,91]:List UInt8)++(([62]:List UInt8).take ((a.n).toNat)))++([99]:List UInt8))
theorem oph {p:Prop} (h:p:=by first|omega|(simp only [List.length_cons,List.length_nil];omega)):p:=h
theorem C3z {a:Act} {R:List UInt8} (hR:A5s a=R) (c:0≤a.n∧a.n≤1:=by exact bW):J5 Tryz.prog 157 [ag (A0 a)] [] (sv R):=by
 refine cC Tryz.func157 fun X hX hr hD=>?_
 replace hR:=(A5s.eq_1 ..).symm.trans hR
 refine bS rfl (zra 2 [] (fun b=>[(1,pt b 0)]) (fun _=>(A0 a)) 54 fun b=>(ie (bS rfl (cF 2 [0] 4 rfl (ix rfl (C7a (T:=9) Tryz.underlying9 rfl rfl rfl ((a.n).toNat) opx oph) (ix rfl (zst rfl rfl rfl) (ix rfl (zst rfl rfl rfl) (bP 1 2 rfl ?_))))))))
 subst hR
 refine ie (A8 ?_)
 exact F7 hr hD
def A5i (a:Act):List UInt8 :=
 (B6 (A4h (-2) ([a.n]:List Int)) fun (b:List UInt8)=>(((([27,91]:List UInt8)++(([63]:List UInt8).take ((a.m).toNat)))++b)++([36,112]:List UInt8)))
theorem C4z {a:Act} {R:List UInt8} (hR:A5i a=R) (h:0≤a.m∧a.m≤1:=by exact bW):J5 Tryz.prog 158 [ag (A0 a)] [J2] (sv R):=by
 refine cC Tryz.func158 fun X hX hr hD=>?_
 replace hR:=(A5i.eq_1 ..).symm.trans hR
 refine bS rfl (zra 2 [] (fun d=>[(1,pt d 0)]) (fun _=>(A0 a)) 54 fun d=>(ie (zS [(11,[0])] ?_)))
 refine hq2 [0,4] 3 7 rfl ?_
 refine gl 1 [0] rfl (C1 (v:=iv a.m) cH rfl rfl 0 rfl rfl) ?_
 refine gk 2 rfl (C7a (T:=9) Tryz.underlying9 rfl rfl rfl ((a.m).toNat) opx oph) ?_
 refine gk 3 rfl (zst rfl rfl rfl) ?_
 refine gl 5 [0] rfl (C1 (v:=iv a.n) cH rfl rfl 0 rfl rfl) ?_
 refine go 6 [0] rfl (B1 (c:=H5) (xs:=([a.n]:List Int)) K2 rfl rfl rfl oki) fun f=>?_
 have:([a.n]:List Int).length=1:=rfl
 have e:=C4 hR;clear hR;obtain ⟨g,b,hR⟩:=e
 refine gv 7 [0] rfl (B1h (none_:=(-2)) (l:=([a.n]:List Int)) (lq:=(some ⟨f,0,none⟩)) (lk:=1) b) ?_
 have:=A5h (-2) ([a.n]:List Int);try rw [b] at this
 refine gk 8 rfl (zst rfl rfl rfl) ?_
 refine gk 9 rfl (zst rfl rfl rfl) ?_
 refine hq1 [10] 2 rfl ?_
 refine ge ?_
 subst hR
 refine A8 ?_
 exact F7 hr hD
def B3f (l:List Act):List UInt8 :=
 (B6 (B7j l) fun (a:List (List Int)×Int)=>(B6 (S3 a.1) fun (b:List UInt8×Int)=>((([27,91]:List UInt8)++b.1)++([109]:List UInt8))))
theorem B1j (l:List Act):(B3f l).length≤2115:=by
 have:=A8j (B7j l).1
 unfold B3f;simp only [B6,List.length_append,List.length_cons,List.length_nil];omega
theorem C6s {l:List Act} {lq:Option Addr} {lk:Nat} {R:List UInt8} (hR:B3f l=R) (i:l.length≤9223372036854775807:=by exact bW) (m:l.length≤lk:=by exact bW):J5 Tryz.prog 103 [.slice lq l.length lk] [sl A0 lq l,M2,J2] (sv R):=by
 refine cC Tryz.func103 fun X hX hr hD=>?_
 replace hR:=(B3f.eq_1 ..).symm.trans hR
 refine bS rfl (pp0 1 rfl (ie (bS rfl (bP 1 8 rfl ?_))))
 have f:=C4 hR;clear hR;obtain ⟨k,h,hR⟩:=f
 refine zc rfl (D4x h) fun ⟨⟨j,g⟩,d⟩=>?_
 try dsimp only at d
 obtain ⟨a,b⟩:=d
 have:=bT.le a
 have:=bT.cap a
 have:=b.1
 refine bP 5 3 rfl (ie (bS rfl (bP 1 13 rfl ?_)))
 have:=bT.cap a
 have:=bT.le a
 refine R5 [] [] (T:=290) (c:=D9) (r:=j) (xs:=g) (bT.cast a (by rw [b.1])) opv ?_
 have f:=C4 hR;clear hR;obtain ⟨n,e,hR⟩:=f
 refine zv rfl (C1f e b) ?_
 have:=A8j k.1;try rw [e] at this
 refine bP 5 5 rfl (ie (bS rfl (bP 1 17 rfl (ix rfl (zst rfl rfl rfl) (ix rfl (zst rfl rfl rfl) (bP 1 2 rfl ?_))))))
 subst hR
 refine ie (A8 ?_)
 exact F7 hr hD
def A5r (a:Act):List UInt8 :=
 (B6 (B3f ([a]:List Act)) fun (b:List UInt8)=>b)
theorem C3y {a:Act} {R:List UInt8} (hR:A5r a=R):J5 Tryz.prog 159 [ag (A0 a)] [M2,J2] (sv R):=by
 refine cC Tryz.func159 fun X hX hr hD=>?_
 replace hR:=(A5r.eq_1 ..).symm.trans hR
 refine bS rfl (zra 2 [] (fun d=>[(1,pt d 0)]) (fun _=>(A0 a)) 54 fun d=>(ie (bS rfl (c9 1 3 [0] [(3,ag (A0 a))] (it rfl (B1 (c:=A0) (xs:=([a]:List Act)) Q1 rfl rfl rfl oki) fun f=>?_)))))
 have:([a]:List Act).length=1:=rfl
 have e:=C4 hR;clear hR;obtain ⟨g,b,hR⟩:=e
 refine zv rfl (C6s (l:=([a]:List Act)) (lq:=(some ⟨f,0,none⟩)) (lk:=1) b) ?_
 have:=B1j ([a]:List Act);try rw [b] at this
 refine bP 1 2 rfl ?_
 subst hR
 refine ie (A8 ?_)
 exact F7 hr hD
def B8z (a:Act):Prop:=a.text.length≤100000000∧1≤a.kind∧a.kind≤43∧(a.kind=7∨a.kind=14∨a.kind=21∨a.kind=33∨a.kind=42→0≤a.n∧a.n≤1)∧(a.kind=17∨a.kind=20→0≤a.n∧a.n≤3)∧(a.kind=18→2≤a.n∧a.n≤3)∧(a.kind=17∨a.kind=36∨a.kind=37∨a.kind=43→0≤a.m∧a.m≤1)
def B0p (a:Act):List UInt8 :=
 (bif (decide (a.kind=1)) then (A7d (⟨1,a.n,a.m,a.color,a.text⟩:Act)) else (bif (decide (a.kind=2)) then (F9 a ([7]:List UInt8)) else (bif (decide (a.kind=3)) then (F9 a ([8]:List UInt8)) else (bif (decide (a.kind=4)) then (F9 a ([9]:List UInt8)) else (bif (decide (a.kind=5)) then (F9 a ([10]:List UInt8)) else (bif (decide (a.kind=6)) then (F9 a ([13]:List UInt8)) else (bif (decide (a.kind=7)) then (Y3 a ([]:List UInt8) ([15,14]:List UInt8) 0) else (bif (decide (a.kind=8)) then (F9 a ([27,68]:List UInt8)) else (bif (decide (a.kind=9)) then (F9 a ([27,69]:List UInt8)) else (bif (decide (a.kind=10)) then (F9 a ([27,72]:List UInt8)) else (bif (decide (a.kind=11)) then (F9 a ([27,77]:List UInt8)) else (bif (decide (a.kind=12)) then (F9 a ([27,55]:List UInt8)) else (bif (decide (a.kind=13)) then (F9 a ([27,56]:List UInt8)) else (bif (decide (a.kind=14)) then (Y3 a ([27]:List UInt8) ([62,61]:List UInt8) 0) else (bif (decide (a.kind=15)) then (F9 a ([27,99]:List UInt8)) else (bif (decide (a.kind=16)) then (F9 a ([27,35,56]:List UInt8)) else (bif (decide (a.kind=17)) then (A6h (⟨17,a.n,a.m,a.color,a.text⟩:Act)) else (bif (decide (a.kind=18)) then (Y3 a ([27]:List UInt8) ([78,79]:List UInt8) 2) else (bif (decide (a.kind=19)) then (A2r (⟨19,a.n,a.m,a.color,a.text⟩:Act)) else (bif (decide (a.kind=20)) then (S0 a ([65,66,67,68]:List UInt8)) else (bif (decide (a.kind=21)) then (S0 a ([69,70]:List UInt8)) else (bif (decide (a.kind=22)) then (G9 a 1 ([71]:List UInt8)) else (bif (decide (a.kind=23)) then (G9 a 1 ([100]:List UInt8)) else (bif (decide (a.kind=24)) then (G9 a 1 ([73]:List UInt8)) else (bif (decide (a.kind=25)) then (G9 a 1 ([90]:List UInt8)) else (bif (decide (a.kind=26)) then (G9 a 0 ([74]:List UInt8)) else (bif (decide (a.kind=27)) then (G9 a 0 ([75]:List UInt8)) else (bif (decide (a.kind=28)) then (G9 a 1 ([64]:List UInt8)) else (bif (decide (a.kind=29)) then (G9 a 1 ([80]:List UInt8)) else (bif (decide (a.kind=30)) then (G9 a 1 ([88]:List UInt8)) else (bif (decide (a.kind=31)) then (G9 a 1 ([76]:List UInt8)) else (bif (decide (a.kind=32)) then (G9 a 1 ([77]:List UInt8)) else (bif (decide (a.kind=33)) then (S0 a ([83,84]:List UInt8)) else (bif (decide (a.kind=34)) then (G9 a 1 ([98]:List UInt8)) else (bif (decide (a.kind=35)) then (G9 a 0 ([103]:List UInt8)) else (bif (decide (a.kind=36)) then (A0n a ([]:List UInt8)) else (bif (decide (a.kind=37)) then (A0n a ([63]:List UInt8)) else (bif (decide (a.kind=38)) then (A5u (⟨38,a.n,a.m,a.color,a.text⟩:Act)) else (bif (decide (a.kind=39)) then (A5r (⟨39,a.n,a.m,a.color,a.text⟩:Act)) else (bif (decide (a.kind=40)) then (G9 a 0 ([32,113]:List UInt8)) else (bif (decide (a.kind=41)) then (G9 a (-2) ([110]:List UInt8)) else (bif (decide (a.kind=42)) then (A5s (⟨42,a.n,a.m,a.color,a.text⟩:Act)) else (bif (decide (a.kind=43)) then (A5i (⟨43,a.n,a.m,a.color,a.text⟩:Act)) else ([]:List UInt8))))))))))))))))))))))))))))))))))))))))))))
def tC (k:Int):List Value→Value→Prop:=C7y (fun a=>a.kind=k∧B8z a) B0p
theorem tcv {Φ:List Pers} {v:Value} {pre:Act→Prop} {f:Act→List UInt8} {k:Int} (h:V3 Φ (N4 Tryz.prog v (C7y pre f))) (d:∀ a:Act,a.kind=k→B8z a→pre a:=by intro a b c;unfold B8z at c;first|trivial|omega|(simp only [List.length_cons,List.length_nil];omega)) (e:∀ a:Act,a.kind=k→f a=B0p a:=by intro a b;unfold B0p;simp only [b];rfl):V3 Φ (N4 Tryz.prog v (tC k)) :=
 E1a h (fun args r g=>by obtain ⟨a,⟨b,c⟩,rfl,rfl⟩:=g;exact ⟨a,d a b c,rfl,congrArg sv (e a b).symm⟩)
def C3f:Unit :=
 ()
theorem otw {p:Prop} (h:p:=by dsimp only;omega):p:=h
set_option maxHeartbeats 8000000 in
theorem D1h (R:Unit) (hR:C3f=R):Con Tryz.prog 102 [] [] [J2,M2] ({t:Nat×List (Int×Value) // t.2.map Prod.fst=[1,2,3,4,5,6,7,8,9,10,11,12,13,15,16,14,17,18,20,21,33,19,22,23,24,25,28,29,30,31,32,34,26,27,35,40,36,37,38,41,42,43,39,44,45,46]}) (fun x=>.map (some x.1.1)) (fun x=>[(x.1.1,.map (B9 x.1.2 0).toArray x.1.2.length)]) (fun x=>[C5k Tryz.prog x.1.2 tC]):=by
 refine zco Tryz.func102 [] fun X hX hr hD=>?_
 replace hR:=(C3f.eq_1 ..).symm.trans hR
 refine sr 1 rfl (ip' 1 0 [] (ie (sr 1 rfl (ip' 1 0 [(1,aC 139)] (ie (sr 1 rfl (ip' 1 0 [(2,aC 141)] (ie (sr 1 rfl (ip' 1 0 [(3,aC 144)] (ie (sr 1 rfl (ip' 1 0 [(4,aC 147)] (ie (sr 1 rfl (ip' 1 0 [(5,aC 149)] (ie (sr 1 rfl (ip' 1 0 [(6,aC 150)] ?_)))))))))))))))))))
 refine ie (sr 124 rfl (it rfl (B5f rfl) fun b=>(D7 (q:=N4 Tryz.prog (aC 152) (tC 1)) (A0a (C:=tC 1) (fun args r m=>by obtain ⟨a,⟨h,g⟩,rfl,rfl⟩:=m;obtain ⟨k_,c,d,e,f⟩:=a;dsimp only at h;subst h;unfold B8z at g;dsimp only at g;rw [show B0p (⟨1,c,d,e,f⟩:Act)=(A7d (⟨1,c,d,e,f⟩:Act)) from rfl];exact D4.of (C5f (a:=(⟨1,c,d,e,f⟩:Act)) rfl) rfl bX) A7.refl) ?_)))
 refine it rfl (F3 (C:=tC) (l:=([]:List (Int×Value))) (ks:=[]) (k:=1) (Φ':=[J2,M2]) N6 (.inl rfl) rfl rfl rfl 0 rfl rfl ozw E6h (A5 0 rfl) (A7.pick [1,2] rfl)) fun ⟨aq,dc⟩=>?_
 refine ip' 1 121 [(8,aC 139)] (it rfl (H1 (L2:=[(b,.map (B9 aq 0).toArray aq.length)]) (N0 (s:=([7]:List UInt8)) rfl) rfl rfl rfl rfl rfl bX (List.Perm.refl _) (fun u4=>[(b,.map (B9 aq 0).toArray aq.length)]) (fun _=>rfl)) fun u4=>?_)
 refine D7 (q:=N4 Tryz.prog (u4) (tC 2)) (tcv (A5 0 rfl)) ?_
 refine it rfl (F3 (C:=tC) (k:=2) (Φ':=[J2,M2]) N6 (.inl rfl) rfl rfl rfl 0 rfl dc ozw (A5 2 rfl) (A5 0 rfl) (A7.pick [3,4] rfl)) fun ⟨ap,dk⟩=>?_
 refine ip' 1 118 [(10,aC 139)] (it rfl (H1 (L2:=[(b,.map (B9 ap 0).toArray ap.length)]) (N0 (s:=([8]:List UInt8)) rfl) rfl rfl rfl rfl rfl bX (List.Perm.refl _) (fun u7=>[(b,.map (B9 ap 0).toArray ap.length)]) (fun _=>rfl)) fun u7=>?_)
 refine D7 (q:=N4 Tryz.prog (u7) (tC 3)) (tcv (A5 0 rfl)) ?_
 refine it rfl (F3 (C:=tC) (k:=3) (Φ':=[J2,M2]) N6 (.inl rfl) rfl rfl rfl 0 rfl dk ozw (A5 2 rfl) (A5 0 rfl) (A7.pick [3,4] rfl)) fun ⟨ao,di⟩=>?_
 refine ip' 1 115 [(12,aC 139)] (it rfl (H1 (L2:=[(b,.map (B9 ao 0).toArray ao.length)]) (N0 (s:=([9]:List UInt8)) rfl) rfl rfl rfl rfl rfl bX (List.Perm.refl _) (fun ce=>[(b,.map (B9 ao 0).toArray ao.length)]) (fun _=>rfl)) fun ce=>?_)
 refine D7 (q:=N4 Tryz.prog (ce) (tC 4)) (tcv (A5 0 rfl)) ?_
 refine it rfl (F3 (C:=tC) (k:=4) (Φ':=[J2,M2]) N6 (.inl rfl) rfl rfl rfl 0 rfl di ozw (A5 2 rfl) (A5 0 rfl) (A7.pick [3,4] rfl)) fun ⟨v,co⟩=>?_
 refine ip' 1 112 [(14,aC 139)] (it rfl (H1 (L2:=[(b,.map (B9 v 0).toArray v.length)]) (N0 (s:=([10]:List UInt8)) rfl) rfl rfl rfl rfl rfl bX (List.Perm.refl _) (fun d2=>[(b,.map (B9 v 0).toArray v.length)]) (fun _=>rfl)) fun d2=>?_)
 refine D7 (q:=N4 Tryz.prog (d2) (tC 5)) (tcv (A5 0 rfl)) ?_
 refine it rfl (F3 (C:=tC) (k:=5) (Φ':=[J2,M2]) N6 (.inl rfl) rfl rfl rfl 0 rfl co ozw (A5 2 rfl) (A5 0 rfl) (A7.pick [3,4] rfl)) fun ⟨ak,bq⟩=>?_
 refine ip' 1 109 [(16,aC 139)] (it rfl (H1 (L2:=[(b,.map (B9 ak 0).toArray ak.length)]) (N0 (s:=([13]:List UInt8)) rfl) rfl rfl rfl rfl rfl bX (List.Perm.refl _) (fun bu=>[(b,.map (B9 ak 0).toArray ak.length)]) (fun _=>rfl)) fun bu=>?_)
 refine D7 (q:=N4 Tryz.prog (bu) (tC 6)) (tcv (A5 0 rfl)) ?_
 refine it rfl (F3 (C:=tC) (k:=6) (Φ':=[J2,M2]) N6 (.inl rfl) rfl rfl rfl 0 rfl bq ozw (A5 2 rfl) (A5 0 rfl) (A7.pick [3,4] rfl)) fun ⟨ai,be⟩=>?_
 refine ip' 1 106 [(18,aC 141)] (it rfl (H1 (L2:=[(b,.map (B9 ai 0).toArray ai.length)]) (B0w (front:=([]:List UInt8)) (signs:=([15,14]:List UInt8)) (first:=0) rfl oph) rfl rfl rfl rfl rfl bX (List.Perm.refl _) (fun c5=>[(b,.map (B9 ai 0).toArray ai.length)]) (fun _=>rfl)) fun c5=>?_)
 refine D7 (q:=N4 Tryz.prog (c5) (tC 7)) (tcv (A5 0 rfl)) ?_
 refine it rfl (F3 (C:=tC) (k:=7) (Φ':=[J2,M2]) N6 (.inl rfl) rfl rfl rfl 0 rfl be ozw (A5 2 rfl) (A5 0 rfl) (A7.pick [3,4] rfl)) fun ⟨al,bz⟩=>?_
 refine ip' 1 103 [(20,aC 139)] (it rfl (H1 (L2:=[(b,.map (B9 al 0).toArray al.length)]) (N0 (s:=([27,68]:List UInt8)) rfl) rfl rfl rfl rfl rfl bX (List.Perm.refl _) (fun c1=>[(b,.map (B9 al 0).toArray al.length)]) (fun _=>rfl)) fun c1=>?_)
 refine D7 (q:=N4 Tryz.prog (c1) (tC 8)) (tcv (A5 0 rfl)) ?_
 refine it rfl (F3 (C:=tC) (k:=8) (Φ':=[J2,M2]) N6 (.inl rfl) rfl rfl rfl 0 rfl bz ozw (A5 2 rfl) (A5 0 rfl) (A7.pick [3,4] rfl)) fun ⟨ab,ck⟩=>?_
 refine ip' 1 100 [(22,aC 139)] (it rfl (H1 (L2:=[(b,.map (B9 ab 0).toArray ab.length)]) (N0 (s:=([27,69]:List UInt8)) rfl) rfl rfl rfl rfl rfl bX (List.Perm.refl _) (fun bk=>[(b,.map (B9 ab 0).toArray ab.length)]) (fun _=>rfl)) fun bk=>?_)
 refine D7 (q:=N4 Tryz.prog (bk) (tC 9)) (tcv (A5 0 rfl)) ?_
 refine it rfl (F3 (C:=tC) (k:=9) (Φ':=[J2,M2]) N6 (.inl rfl) rfl rfl rfl 0 rfl ck ozw (A5 2 rfl) (A5 0 rfl) (A7.pick [3,4] rfl)) fun ⟨u,d4⟩=>?_
 refine ip' 1 97 [(24,aC 139)] (it rfl (H1 (L2:=[(b,.map (B9 u 0).toArray u.length)]) (N0 (s:=([27,72]:List UInt8)) rfl) rfl rfl rfl rfl rfl bX (List.Perm.refl _) (fun cn=>[(b,.map (B9 u 0).toArray u.length)]) (fun _=>rfl)) fun cn=>?_)
 refine D7 (q:=N4 Tryz.prog (cn) (tC 10)) (tcv (A5 0 rfl)) ?_
 refine it rfl (F3 (C:=tC) (k:=10) (Φ':=[J2,M2]) N6 (.inl rfl) rfl rfl rfl 0 rfl d4 ozw (A5 2 rfl) (A5 0 rfl) (A7.pick [3,4] rfl)) fun ⟨ah,cg⟩=>?_
 refine ip' 1 94 [(26,aC 139)] (it rfl (H1 (L2:=[(b,.map (B9 ah 0).toArray ah.length)]) (N0 (s:=([27,77]:List UInt8)) rfl) rfl rfl rfl rfl rfl bX (List.Perm.refl _) (fun d5=>[(b,.map (B9 ah 0).toArray ah.length)]) (fun _=>rfl)) fun d5=>?_)
 refine D7 (q:=N4 Tryz.prog (d5) (tC 11)) (tcv (A5 0 rfl)) ?_
 refine it rfl (F3 (C:=tC) (k:=11) (Φ':=[J2,M2]) N6 (.inl rfl) rfl rfl rfl 0 rfl cg ozw (A5 2 rfl) (A5 0 rfl) (A7.pick [3,4] rfl)) fun ⟨p,bi⟩=>?_
 refine ip' 1 91 [(28,aC 139)] (it rfl (H1 (L2:=[(b,.map (B9 p 0).toArray p.length)]) (N0 (s:=([27,55]:List UInt8)) rfl) rfl rfl rfl rfl rfl bX (List.Perm.refl _) (fun ch=>[(b,.map (B9 p 0).toArray p.length)]) (fun _=>rfl)) fun ch=>?_)
 refine D7 (q:=N4 Tryz.prog (ch) (tC 12)) (tcv (A5 0 rfl)) ?_
 refine it rfl (F3 (C:=tC) (k:=12) (Φ':=[J2,M2]) N6 (.inl rfl) rfl rfl rfl 0 rfl bi ozw (A5 2 rfl) (A5 0 rfl) (A7.pick [3,4] rfl)) fun ⟨w,cd⟩=>?_
 refine ip' 1 88 [(30,aC 139)] (it rfl (H1 (L2:=[(b,.map (B9 w 0).toArray w.length)]) (N0 (s:=([27,56]:List UInt8)) rfl) rfl rfl rfl rfl rfl bX (List.Perm.refl _) (fun cy=>[(b,.map (B9 w 0).toArray w.length)]) (fun _=>rfl)) fun cy=>?_)
 refine D7 (q:=N4 Tryz.prog (cy) (tC 13)) (tcv (A5 0 rfl)) ?_
 refine it rfl (F3 (C:=tC) (k:=13) (Φ':=[J2,M2]) N6 (.inl rfl) rfl rfl rfl 0 rfl cd ozw (A5 2 rfl) (A5 0 rfl) (A7.pick [3,4] rfl)) fun ⟨a2,ci⟩=>?_
 refine ip' 1 85 [(32,aC 139)] (it rfl (H1 (L2:=[(b,.map (B9 a2 0).toArray a2.length)]) (N0 (s:=([27,99]:List UInt8)) rfl) rfl rfl rfl rfl rfl bX (List.Perm.refl _) (fun br=>[(b,.map (B9 a2 0).toArray a2.length)]) (fun _=>rfl)) fun br=>?_)
 refine D7 (q:=N4 Tryz.prog (br) (tC 15)) (tcv (A5 0 rfl)) ?_
 refine it rfl (F3 (C:=tC) (k:=15) (Φ':=[J2,M2]) N6 (.inl rfl) rfl rfl rfl 0 rfl ci ozw (A5 2 rfl) (A5 0 rfl) (A7.pick [3,4] rfl)) fun ⟨aa,d1⟩=>?_
 refine ip' 1 82 [(34,aC 139)] (it rfl (H1 (L2:=[(b,.map (B9 aa 0).toArray aa.length)]) (N0 (s:=([27,35,56]:List UInt8)) rfl) rfl rfl rfl rfl rfl bX (List.Perm.refl _) (fun bw=>[(b,.map (B9 aa 0).toArray aa.length)]) (fun _=>rfl)) fun bw=>?_)
 refine D7 (q:=N4 Tryz.prog (bw) (tC 16)) (tcv (A5 0 rfl)) ?_
 refine it rfl (F3 (C:=tC) (k:=16) (Φ':=[J2,M2]) N6 (.inl rfl) rfl rfl rfl 0 rfl d1 ozw (A5 2 rfl) (A5 0 rfl) (A7.pick [3,4] rfl)) fun ⟨ad,cu⟩=>?_
 refine ip' 1 79 [(36,aC 141)] (it rfl (H1 (L2:=[(b,.map (B9 ad 0).toArray ad.length)]) (B0w (front:=([27]:List UInt8)) (signs:=([62,61]:List UInt8)) (first:=0) rfl oph) rfl rfl rfl rfl rfl bX (List.Perm.refl _) (fun bg=>[(b,.map (B9 ad 0).toArray ad.length)]) (fun _=>rfl)) fun bg=>?_)
 refine D7 (q:=N4 Tryz.prog (bg) (tC 14)) (tcv (A5 0 rfl)) ?_
 refine it rfl (F3 (C:=tC) (k:=14) (Φ':=[J2,M2]) N6 (.inl rfl) rfl rfl rfl 0 rfl cu ozw (A5 2 rfl) (A5 0 rfl) (A7.pick [3,4] rfl)) fun ⟨dq,c6⟩=>?_
 refine D7 (q:=N4 Tryz.prog (aC 154) (tC 17)) (A0a (C:=tC 17) (fun args r m=>by obtain ⟨a,⟨h,g⟩,rfl,rfl⟩:=m;obtain ⟨k_,c,d,e,f⟩:=a;dsimp only at h;subst h;unfold B8z at g;dsimp only at g;rw [show B0p (⟨17,c,d,e,f⟩:Act)=(A6h (⟨17,c,d,e,f⟩:Act)) from rfl];exact D4.of (C5h (a:=(⟨17,c,d,e,f⟩:Act)) rfl otw) rfl bX) A7.refl) ?_
 refine it rfl (F3 (C:=tC) (k:=17) (Φ':=[J2,M2]) N6 (.inl rfl) rfl rfl rfl 0 rfl c6 ozw (A5 1 rfl) (A5 0 rfl) (A7.pick [2,3] rfl)) fun ⟨a7,cz⟩=>?_
 refine ip' 1 75 [(38,aC 141)] (it rfl (H1 (L2:=[(b,.map (B9 a7 0).toArray a7.length)]) (B0w (front:=([27]:List UInt8)) (signs:=([78,79]:List UInt8)) (first:=2) rfl oph) rfl rfl rfl rfl rfl bX (List.Perm.refl _) (fun cj=>[(b,.map (B9 a7 0).toArray a7.length)]) (fun _=>rfl)) fun cj=>?_)
 refine D7 (q:=N4 Tryz.prog (cj) (tC 18)) (tcv (A5 0 rfl)) ?_
 refine it rfl (F3 (C:=tC) (k:=18) (Φ':=[J2,M2]) N6 (.inl rfl) rfl rfl rfl 0 rfl cz ozw (A5 2 rfl) (A5 0 rfl) (A7.pick [3,4] rfl)) fun ⟨a0,c2⟩=>?_
 refine ip' 1 72 [(40,aC 147)] (it rfl (H1 (L2:=[(b,.map (B9 a0 0).toArray a0.length)]) (B1c (signs:=([65,66,67,68]:List UInt8)) rfl oph) rfl rfl rfl rfl rfl (A7.pick [1] rfl) (List.Perm.refl _) (fun d3=>[(b,.map (B9 a0 0).toArray a0.length)]) (fun _=>rfl)) fun d3=>?_)
 refine D7 (q:=N4 Tryz.prog (d3) (tC 20)) (tcv (A5 0 rfl)) ?_
 refine it rfl (F3 (C:=tC) (k:=20) (Φ':=[J2,M2]) N6 (.inl rfl) rfl rfl rfl 0 rfl c2 ozw (A5 2 rfl) (A5 0 rfl) (A7.pick [3,4] rfl)) fun ⟨am,c8⟩=>?_
 refine ip' 1 69 [(42,aC 147)] (it rfl (H1 (L2:=[(b,.map (B9 am 0).toArray am.length)]) (B1c (signs:=([69,70]:List UInt8)) rfl oph) rfl rfl rfl rfl rfl (A7.pick [1] rfl) (List.Perm.refl _) (fun cp=>[(b,.map (B9 am 0).toArray am.length)]) (fun _=>rfl)) fun cp=>?_)
 refine D7 (q:=N4 Tryz.prog (cp) (tC 21)) (tcv (A5 0 rfl)) ?_
 refine it rfl (F3 (C:=tC) (k:=21) (Φ':=[J2,M2]) N6 (.inl rfl) rfl rfl rfl 0 rfl c8 ozw (A5 2 rfl) (A5 0 rfl) (A7.pick [3,4] rfl)) fun ⟨a8,d6⟩=>?_
 refine ip' 1 66 [(44,aC 147)] (it rfl (H1 (L2:=[(b,.map (B9 a8 0).toArray a8.length)]) (B1c (signs:=([83,84]:List UInt8)) rfl oph) rfl rfl rfl rfl rfl (A7.pick [1] rfl) (List.Perm.refl _) (fun cs=>[(b,.map (B9 a8 0).toArray a8.length)]) (fun _=>rfl)) fun cs=>?_)
 refine D7 (q:=N4 Tryz.prog (cs) (tC 33)) (tcv (A5 0 rfl)) ?_
 refine it rfl (F3 (C:=tC) (k:=33) (Φ':=[J2,M2]) N6 (.inl rfl) rfl rfl rfl 0 rfl d6 ozw (A5 2 rfl) (A5 0 rfl) (A7.pick [3,4] rfl)) fun ⟨dm,ca⟩=>?_
 refine D7 (q:=N4 Tryz.prog (aC 155) (tC 19)) (A0a (C:=tC 19) (fun args r m=>by obtain ⟨a,⟨h,g⟩,rfl,rfl⟩:=m;obtain ⟨k_,c,d,e,f⟩:=a;dsimp only at h;subst h;unfold B8z at g;dsimp only at g;rw [show B0p (⟨19,c,d,e,f⟩:Act)=(A2r (⟨19,c,d,e,f⟩:Act)) from rfl];exact D4.of (C6d (a:=(⟨19,c,d,e,f⟩:Act)) rfl) rfl (A7.pick [1] rfl)) A7.refl) ?_
 refine it rfl (F3 (C:=tC) (k:=19) (Φ':=[J2,M2]) N6 (.inl rfl) rfl rfl rfl 0 rfl ca ozw (A5 1 rfl) (A5 0 rfl) (A7.pick [2,3] rfl)) fun ⟨a3,cb⟩=>?_
 refine ip' 1 62 [(46,aC 144)] (it rfl (H1 (L2:=[(b,.map (B9 a3 0).toArray a3.length)]) (L7 (none_:=1) (last:=([71]:List UInt8)) rfl oph) rfl rfl rfl rfl rfl (A7.pick [1] rfl) (List.Perm.refl _) (fun bh=>[(b,.map (B9 a3 0).toArray a3.length)]) (fun _=>rfl)) fun bh=>?_)
 refine D7 (q:=N4 Tryz.prog (bh) (tC 22)) (tcv (A5 0 rfl)) ?_
 refine it rfl (F3 (C:=tC) (k:=22) (Φ':=[J2,M2]) N6 (.inl rfl) rfl rfl rfl 0 rfl cb ozw (A5 2 rfl) (A5 0 rfl) (A7.pick [3,4] rfl)) fun ⟨ae,cv⟩=>?_
 refine ip' 1 59 [(48,aC 144)] (it rfl (H1 (L2:=[(b,.map (B9 ae 0).toArray ae.length)]) (L7 (none_:=1) (last:=([100]:List UInt8)) rfl oph) rfl rfl rfl rfl rfl (A7.pick [1] rfl) (List.Perm.refl _) (fun cf=>[(b,.map (B9 ae 0).toArray ae.length)]) (fun _=>rfl)) fun cf=>?_)
 refine D7 (q:=N4 Tryz.prog (cf) (tC 23)) (tcv (A5 0 rfl)) ?_
 refine it rfl (F3 (C:=tC) (k:=23) (Φ':=[J2,M2]) N6 (.inl rfl) rfl rfl rfl 0 rfl cv ozw (A5 2 rfl) (A5 0 rfl) (A7.pick [3,4] rfl)) fun ⟨aj,d0⟩=>?_
 refine ip' 1 56 [(50,aC 144)] (it rfl (H1 (L2:=[(b,.map (B9 aj 0).toArray aj.length)]) (L7 (none_:=1) (last:=([73]:List UInt8)) rfl oph) rfl rfl rfl rfl rfl (A7.pick [1] rfl) (List.Perm.refl _) (fun c7=>[(b,.map (B9 aj 0).toArray aj.length)]) (fun _=>rfl)) fun c7=>?_)
 refine D7 (q:=N4 Tryz.prog (c7) (tC 24)) (tcv (A5 0 rfl)) ?_
 refine it rfl (F3 (C:=tC) (k:=24) (Φ':=[J2,M2]) N6 (.inl rfl) rfl rfl rfl 0 rfl d0 ozw (A5 2 rfl) (A5 0 rfl) (A7.pick [3,4] rfl)) fun ⟨ac,bm⟩=>?_
 refine ip' 1 53 [(52,aC 144)] (it rfl (H1 (L2:=[(b,.map (B9 ac 0).toArray ac.length)]) (L7 (none_:=1) (last:=([90]:List UInt8)) rfl oph) rfl rfl rfl rfl rfl (A7.pick [1] rfl) (List.Perm.refl _) (fun d8=>[(b,.map (B9 ac 0).toArray ac.length)]) (fun _=>rfl)) fun d8=>?_)
 refine D7 (q:=N4 Tryz.prog (d8) (tC 25)) (tcv (A5 0 rfl)) ?_
 refine it rfl (F3 (C:=tC) (k:=25) (Φ':=[J2,M2]) N6 (.inl rfl) rfl rfl rfl 0 rfl bm ozw (A5 2 rfl) (A5 0 rfl) (A7.pick [3,4] rfl)) fun ⟨a4,bo⟩=>?_
 refine ip' 1 50 [(54,aC 144)] (it rfl (H1 (L2:=[(b,.map (B9 a4 0).toArray a4.length)]) (L7 (none_:=1) (last:=([64]:List UInt8)) rfl oph) rfl rfl rfl rfl rfl (A7.pick [1] rfl) (List.Perm.refl _) (fun cr=>[(b,.map (B9 a4 0).toArray a4.length)]) (fun _=>rfl)) fun cr=>?_)
 refine D7 (q:=N4 Tryz.prog (cr) (tC 28)) (tcv (A5 0 rfl)) ?_
 refine it rfl (F3 (C:=tC) (k:=28) (Φ':=[J2,M2]) N6 (.inl rfl) rfl rfl rfl 0 rfl bo ozw (A5 2 rfl) (A5 0 rfl) (A7.pick [3,4] rfl)) fun ⟨a5,bn⟩=>?_
 refine ip' 1 47 [(56,aC 144)] (it rfl (H1 (L2:=[(b,.map (B9 a5 0).toArray a5.length)]) (L7 (none_:=1) (last:=([80]:List UInt8)) rfl oph) rfl rfl rfl rfl rfl (A7.pick [1] rfl) (List.Perm.refl _) (fun bp=>[(b,.map (B9 a5 0).toArray a5.length)]) (fun _=>rfl)) fun bp=>?_)
 refine D7 (q:=N4 Tryz.prog (bp) (tC 29)) (tcv (A5 0 rfl)) ?_
 refine it rfl (F3 (C:=tC) (k:=29) (Φ':=[J2,M2]) N6 (.inl rfl) rfl rfl rfl 0 rfl bn ozw (A5 2 rfl) (A5 0 rfl) (A7.pick [3,4] rfl)) fun ⟨an,d7⟩=>?_
 refine ip' 1 44 [(58,aC 144)] (it rfl (H1 (L2:=[(b,.map (B9 an 0).toArray an.length)]) (L7 (none_:=1) (last:=([88]:List UInt8)) rfl oph) rfl rfl rfl rfl rfl (A7.pick [1] rfl) (List.Perm.refl _) (fun cw=>[(b,.map (B9 an 0).toArray an.length)]) (fun _=>rfl)) fun cw=>?_)
 refine D7 (q:=N4 Tryz.prog (cw) (tC 30)) (tcv (A5 0 rfl)) ?_
 refine it rfl (F3 (C:=tC) (k:=30) (Φ':=[J2,M2]) N6 (.inl rfl) rfl rfl rfl 0 rfl d7 ozw (A5 2 rfl) (A5 0 rfl) (A7.pick [3,4] rfl)) fun ⟨a1,ct⟩=>?_
 refine ip' 1 41 [(60,aC 144)] (it rfl (H1 (L2:=[(b,.map (B9 a1 0).toArray a1.length)]) (L7 (none_:=1) (last:=([76]:List UInt8)) rfl oph) rfl rfl rfl rfl rfl (A7.pick [1] rfl) (List.Perm.refl _) (fun cm=>[(b,.map (B9 a1 0).toArray a1.length)]) (fun _=>rfl)) fun cm=>?_)
 refine D7 (q:=N4 Tryz.prog (cm) (tC 31)) (tcv (A5 0 rfl)) ?_
 refine it rfl (F3 (C:=tC) (k:=31) (Φ':=[J2,M2]) N6 (.inl rfl) rfl rfl rfl 0 rfl ct ozw (A5 2 rfl) (A5 0 rfl) (A7.pick [3,4] rfl)) fun ⟨y,cq⟩=>?_
 refine ip' 1 38 [(62,aC 144)] (it rfl (H1 (L2:=[(b,.map (B9 y 0).toArray y.length)]) (L7 (none_:=1) (last:=([77]:List UInt8)) rfl oph) rfl rfl rfl rfl rfl (A7.pick [1] rfl) (List.Perm.refl _) (fun bl=>[(b,.map (B9 y 0).toArray y.length)]) (fun _=>rfl)) fun bl=>?_)
 refine D7 (q:=N4 Tryz.prog (bl) (tC 32)) (tcv (A5 0 rfl)) ?_
 refine it rfl (F3 (C:=tC) (k:=32) (Φ':=[J2,M2]) N6 (.inl rfl) rfl rfl rfl 0 rfl cq ozw (A5 2 rfl) (A5 0 rfl) (A7.pick [3,4] rfl)) fun ⟨a9,c0⟩=>?_
 refine ip' 1 35 [(64,aC 144)] (it rfl (H1 (L2:=[(b,.map (B9 a9 0).toArray a9.length)]) (L7 (none_:=1) (last:=([98]:List UInt8)) rfl oph) rfl rfl rfl rfl rfl (A7.pick [1] rfl) (List.Perm.refl _) (fun bj=>[(b,.map (B9 a9 0).toArray a9.length)]) (fun _=>rfl)) fun bj=>?_)
 refine D7 (q:=N4 Tryz.prog (bj) (tC 34)) (tcv (A5 0 rfl)) ?_
 refine it rfl (F3 (C:=tC) (k:=34) (Φ':=[J2,M2]) N6 (.inl rfl) rfl rfl rfl 0 rfl c0 ozw (A5 2 rfl) (A5 0 rfl) (A7.pick [3,4] rfl)) fun ⟨af,cc⟩=>?_
 refine ip' 1 32 [(66,aC 144)] (it rfl (H1 (L2:=[(b,.map (B9 af 0).toArray af.length)]) (L7 (none_:=0) (last:=([74]:List UInt8)) rfl oph) rfl rfl rfl rfl rfl (A7.pick [1] rfl) (List.Perm.refl _) (fun c3=>[(b,.map (B9 af 0).toArray af.length)]) (fun _=>rfl)) fun c3=>?_)
 refine D7 (q:=N4 Tryz.prog (c3) (tC 26)) (tcv (A5 0 rfl)) ?_
 refine it rfl (F3 (C:=tC) (k:=26) (Φ':=[J2,M2]) N6 (.inl rfl) rfl rfl rfl 0 rfl cc ozw (A5 2 rfl) (A5 0 rfl) (A7.pick [3,4] rfl)) fun ⟨a6,cl⟩=>?_
 refine ip' 1 29 [(68,aC 144)] (it rfl (H1 (L2:=[(b,.map (B9 a6 0).toArray a6.length)]) (L7 (none_:=0) (last:=([75]:List UInt8)) rfl oph) rfl rfl rfl rfl rfl (A7.pick [1] rfl) (List.Perm.refl _) (fun c4=>[(b,.map (B9 a6 0).toArray a6.length)]) (fun _=>rfl)) fun c4=>?_)
 refine D7 (q:=N4 Tryz.prog (c4) (tC 27)) (tcv (A5 0 rfl)) ?_
 refine it rfl (F3 (C:=tC) (k:=27) (Φ':=[J2,M2]) N6 (.inl rfl) rfl rfl rfl 0 rfl cl ozw (A5 2 rfl) (A5 0 rfl) (A7.pick [3,4] rfl)) fun ⟨z,b4⟩=>?_
 refine ip' 1 26 [(70,aC 144)] (it rfl (H1 (L2:=[(b,.map (B9 z 0).toArray z.length)]) (L7 (none_:=0) (last:=([103]:List UInt8)) rfl oph) rfl rfl rfl rfl rfl (A7.pick [1] rfl) (List.Perm.refl _) (fun aw=>[(b,.map (B9 z 0).toArray z.length)]) (fun _=>rfl)) fun aw=>?_)
 refine D7 (q:=N4 Tryz.prog (aw) (tC 35)) (tcv (A5 0 rfl)) ?_
 refine it rfl (F3 (C:=tC) (k:=35) (Φ':=[J2,M2]) N6 (.inl rfl) rfl rfl rfl 0 rfl b4 ozw (A5 2 rfl) (A5 0 rfl) (A7.pick [3,4] rfl)) fun ⟨n,b6⟩=>?_
 refine ip' 1 23 [(72,aC 144)] (it rfl (H1 (L2:=[(b,.map (B9 n 0).toArray n.length)]) (L7 (none_:=0) (last:=([32,113]:List UInt8)) rfl oph) rfl rfl rfl rfl rfl (A7.pick [1] rfl) (List.Perm.refl _) (fun ax=>[(b,.map (B9 n 0).toArray n.length)]) (fun _=>rfl)) fun ax=>?_)
 refine D7 (q:=N4 Tryz.prog (ax) (tC 40)) (tcv (A5 0 rfl)) ?_
 refine it rfl (F3 (C:=tC) (k:=40) (Φ':=[J2,M2]) N6 (.inl rfl) rfl rfl rfl 0 rfl b6 ozw (A5 2 rfl) (A5 0 rfl) (A7.pick [3,4] rfl)) fun ⟨j,bb⟩=>?_
 refine ip' 1 20 [(74,aC 150)] (it rfl (H1 (L2:=[(b,.map (B9 j 0).toArray j.length)]) (B6j (front:=([]:List UInt8)) rfl oph) rfl rfl rfl rfl rfl (A7.pick [1] rfl) (List.Perm.refl _) (fun au=>[(b,.map (B9 j 0).toArray j.length)]) (fun _=>rfl)) fun au=>?_)
 refine D7 (q:=N4 Tryz.prog (au) (tC 36)) (tcv (A5 0 rfl)) ?_
 refine it rfl (F3 (C:=tC) (k:=36) (Φ':=[J2,M2]) N6 (.inl rfl) rfl rfl rfl 0 rfl bb ozw (A5 2 rfl) (A5 0 rfl) (A7.pick [3,4] rfl)) fun ⟨i,b9⟩=>?_
 refine ip' 1 17 [(76,aC 150)] (it rfl (H1 (L2:=[(b,.map (B9 i 0).toArray i.length)]) (B6j (front:=([63]:List UInt8)) rfl oph) rfl rfl rfl rfl rfl (A7.pick [1] rfl) (List.Perm.refl _) (fun ar=>[(b,.map (B9 i 0).toArray i.length)]) (fun _=>rfl)) fun ar=>?_)
 refine D7 (q:=N4 Tryz.prog (ar) (tC 37)) (tcv (A5 0 rfl)) ?_
 refine it rfl (F3 (C:=tC) (k:=37) (Φ':=[J2,M2]) N6 (.inl rfl) rfl rfl rfl 0 rfl b9 ozw (A5 2 rfl) (A5 0 rfl) (A7.pick [3,4] rfl)) fun ⟨da,b3⟩=>?_
 refine D7 (q:=N4 Tryz.prog (aC 156) (tC 38)) (A0a (C:=tC 38) (fun args r m=>by obtain ⟨a,⟨h,g⟩,rfl,rfl⟩:=m;obtain ⟨k_,c,d,e,f⟩:=a;dsimp only at h;subst h;unfold B8z at g;dsimp only at g;rw [show B0p (⟨38,c,d,e,f⟩:Act)=(A5u (⟨38,c,d,e,f⟩:Act)) from rfl];exact D4.of (C4o (a:=(⟨38,c,d,e,f⟩:Act)) rfl) rfl (A7.pick [1] rfl)) A7.refl) ?_
 refine it rfl (F3 (C:=tC) (k:=38) (Φ':=[J2,M2]) N6 (.inl rfl) rfl rfl rfl 0 rfl b3 ozw (A5 1 rfl) (A5 0 rfl) (A7.pick [2,3] rfl)) fun ⟨o,ba⟩=>?_
 refine ip' 1 13 [(78,aC 144)] (it rfl (H1 (L2:=[(b,.map (B9 o 0).toArray o.length)]) (L7 (none_:=(-2)) (last:=([110]:List UInt8)) rfl oph) rfl rfl rfl rfl rfl (A7.pick [1] rfl) (List.Perm.refl _) (fun av=>[(b,.map (B9 o 0).toArray o.length)]) (fun _=>rfl)) fun av=>?_)
 refine D7 (q:=N4 Tryz.prog (av) (tC 41)) (tcv (A5 0 rfl)) ?_
 refine it rfl (F3 (C:=tC) (k:=41) (Φ':=[J2,M2]) N6 (.inl rfl) rfl rfl rfl 0 rfl ba ozw (A5 2 rfl) (A5 0 rfl) (A7.pick [3,4] rfl)) fun ⟨dj,b5⟩=>?_
 refine D7 (q:=N4 Tryz.prog (aC 157) (tC 42)) (A0a (C:=tC 42) (fun args r m=>by obtain ⟨a,⟨h,g⟩,rfl,rfl⟩:=m;obtain ⟨k_,c,d,e,f⟩:=a;dsimp only at h;subst h;unfold B8z at g;dsimp only at g;rw [show B0p (⟨42,c,d,e,f⟩:Act)=(A5s (⟨42,c,d,e,f⟩:Act)) from rfl];exact D4.of (C3z (a:=(⟨42,c,d,e,f⟩:Act)) rfl otw) rfl bX) A7.refl) ?_
 refine it rfl (F3 (C:=tC) (k:=42) (Φ':=[J2,M2]) N6 (.inl rfl) rfl rfl rfl 0 rfl b5 ozw (A5 1 rfl) (A5 0 rfl) (A7.pick [2,3] rfl)) fun ⟨dh,ay⟩=>?_
 refine D7 (q:=N4 Tryz.prog (aC 158) (tC 43)) (A0a (C:=tC 43) (fun args r m=>by obtain ⟨a,⟨h,g⟩,rfl,rfl⟩:=m;obtain ⟨k_,c,d,e,f⟩:=a;dsimp only at h;subst h;unfold B8z at g;dsimp only at g;rw [show B0p (⟨43,c,d,e,f⟩:Act)=(A5i (⟨43,c,d,e,f⟩:Act)) from rfl];exact D4.of (C4z (a:=(⟨43,c,d,e,f⟩:Act)) rfl otw) rfl (A7.pick [1] rfl)) A7.refl) ?_
 refine it rfl (F3 (C:=tC) (k:=43) (Φ':=[J2,M2]) N6 (.inl rfl) rfl rfl rfl 0 rfl ay ozw (A5 1 rfl) (A5 0 rfl) (A7.pick [2,3] rfl)) fun ⟨dg,b7⟩=>?_
 refine D7 (q:=N4 Tryz.prog (aC 159) (tC 39)) (A0a (C:=tC 39) (fun args r m=>by obtain ⟨a,⟨h,g⟩,rfl,rfl⟩:=m;obtain ⟨k_,c,d,e,f⟩:=a;dsimp only at h;subst h;unfold B8z at g;dsimp only at g;rw [show B0p (⟨39,c,d,e,f⟩:Act)=(A5r (⟨39,c,d,e,f⟩:Act)) from rfl];exact D4.of (C3y (a:=(⟨39,c,d,e,f⟩:Act)) rfl) rfl (A7.pick [2,1] rfl)) A7.refl) ?_
 refine it rfl (F3 (C:=tC) (k:=39) (Φ':=[J2,M2]) N6 (.inl rfl) rfl rfl rfl 0 rfl b7 ozw (A5 1 rfl) (A5 0 rfl) (A7.pick [2,3] rfl)) fun ⟨db,az⟩=>?_
 refine ip' 1 7 [(80,aC 149)] (D7 (q:=N4 Tryz.prog (aC 149) (tC 44)) (C1q fun args r m=>by obtain ⟨a,⟨h,g⟩,_⟩:=m;unfold B8z at g;omega) ?_)
 refine it rfl (F3 (C:=tC) (k:=44) (Φ':=[J2,M2]) N6 (.inl rfl) rfl rfl rfl 0 rfl az ozw (A5 1 rfl) (A5 0 rfl) (A7.pick [2,3] rfl)) fun ⟨df,b8⟩=>?_
 refine ip' 1 5 [(81,aC 149)] (D7 (q:=N4 Tryz.prog (aC 149) (tC 45)) (C1q fun args r m=>by obtain ⟨a,⟨h,g⟩,_⟩:=m;unfold B8z at g;omega) ?_)
 refine it rfl (F3 (C:=tC) (k:=45) (Φ':=[J2,M2]) N6 (.inl rfl) rfl rfl rfl 0 rfl b8 ozw (A5 1 rfl) (A5 0 rfl) (A7.pick [2,3] rfl)) fun ⟨d9,bc⟩=>?_
 refine ip' 1 3 [(82,aC 149)] (D7 (q:=N4 Tryz.prog (aC 149) (tC 46)) (C1q fun args r m=>by obtain ⟨a,⟨h,g⟩,_⟩:=m;unfold B8z at g;omega) ?_)
 refine it rfl (F3 (C:=tC) (k:=46) (Φ':=[J2,M2]) N6 (.inl rfl) rfl rfl rfl 0 rfl bc ozw (A5 1 rfl) (A5 0 rfl) (A7.pick [2,3] rfl)) fun ⟨b2,b0⟩=>?_
 refine ip' 2 0 [(0,.map (some b))] ?_
 subst hR
 refine ie (A8 ?_)
 exact cD hr hD (K7 rfl (A6 rfl)) ⟨(b,b2),b0⟩ (mk [true] rfl) (A7.con1 (A5 0 rfl) bX)
end Go.Proofs.YtgimbmncdmnklaaGreatDoor
