import Derived.Test.YtioaekgoceinkaaGreatDoorProg
import Derived.Test.YtioaekgoceinkaaGreatDoorMA2
import Derived.Test.YtioaekgoceinkaaGreatDoorMB1
import Derived.Test.YtioaekgoceinkaaGreatDoorMA3
set_option linter.unusedVariables false
set_option linter.unusedSimpArgs false
set_option linter.unnecessarySimpa false
set_option maxRecDepth 100000
namespace Go.Proofs.YtioaekgoceinkaaGreatDoor
open Go Go.Fen
def L9:List UInt8:=[48,49,50,51,52,53,54,55,56,57,97,98,99,100,101,102,103,104,105,106,107,108,109,110,111,112,113,114,115,116,117,118,119,120,121,122]
def D4v:List UInt8:=[65,66,67,68,69,70,71,72,73,74,75,76,77,78,79,80,81,82,83,84,85,86,87,88,89,90,97,98,99,100,101,102,103,104,105,106,107,108,109,110,111,112,113,114,115,116,117,118,119,120,121,122,48,49,50,51,52,53,54,55,56,57,43,47]
theorem Q2:MapTy Tryz.prog 95 3 99 (.int .i64):=⟨by kernel_rfl,by kernel_rfl,rfl⟩
theorem C8n:MapTy Tryz.prog 157 3 98 (.int .i64):=⟨by kernel_rfl,by kernel_rfl,rfl⟩
theorem E3q:Ty Tryz.prog 171 1 false:=⟨by kernel_rfl⟩
def A3b (a:Act):List UInt8 :=
 (C9 (B5v a.n) fun (b:List UInt8)=>b)
theorem C1l {a:Act} {R:List UInt8} (hR:A3b a=R):G3 Tryz.prog 97 [ag (A2 a)] [] (sv R):=by
 refine zce Tryz.func97 fun X hX hr hD=>?_
 replace hR:=(A3b.eq_1 ..).symm.trans hR
 refine sR_ rfl (H9 2 0 [] (fun c=>[(1,pt c 0)]) (fun c=>[bx c (A2 a) 56]) (fun c=>(ie (sR_ rfl (pl1 2 [0] 4 rfl ?_)))))
 have d:=D0 hR;clear hR;obtain ⟨e,b,hR⟩:=d
 refine zv rfl (C7g b) ?_
 have:=B5o a.n;try rw [b] at this
 refine pp1 1 2 rfl ?_
 subst hR
 refine ie (A8 ?_)
 exact E9 hr hD
def E8 (a:Act) (p1:List UInt8):List UInt8 :=
 p1
theorem B7o {c:Act} {p1:List UInt8} {a:Addr} {R:List UInt8} (hR:E8 c p1=R):G3 Tryz.prog 85 [ag (A2 c),pa a] [at_ a [sv p1]] (sv R):=by
 refine zce Tryz.func85 fun X hX hr hD=>?_
 replace hR:=(E8.eq_1 ..).symm.trans hR
 refine sR_ rfl (H9 2 0 [] (fun b=>[]) (fun b=>[bx b (A2 c) 56]) (fun b=>(ie (sR_ rfl (ix rfl (D6 ty9 rfl rfl (B1 0 rfl) rfl) (pp1 1 3 rfl ?_))))))
 subst hR
 refine ie (A8 ?_)
 exact E9 hr hD
def C2z (pre:Act→Prop) (f:Act→List UInt8):List Value→Value→Prop:=fun args r=>∃ a:Act,pre a∧args=[ag (A2 a)]∧r=sv (f a)
def P1 (s:List UInt8):Unit :=
 ()
theorem K9 {s:List UInt8} {R:Unit} (hR:P1 s=R):Con Tryz.prog 84 [sv s] [] [] (Value) (fun x=>x) (fun x=>[]) (fun x=>[L7 Tryz.prog (x) (C2z (fun _=>True) (fun a=>(E8 a s)))]):=by
 refine zce Tryz.func84 fun X hX hr hD=>?_
 replace hR:=(P1.eq_1 ..).symm.trans hR
 refine sR_ rfl (it rfl (X7 (cs:=[sv s]) rfl rfl rfl) fun b=>?_)
 refine A1s 0 rfl ?_
 refine pp0 1 rfl (ie (sR_ rfl (ip' 2 0 [(2,.func (.func 85) #[] #[pa ⟨b,0,none⟩])] (ie (B8q (q:=L7 Tryz.prog (.func (.func 85) #[] #[pa ⟨b,0,none⟩]) (C2z (fun _=>True) (fun a=>(E8 a s)))) (Q4 (fun args r c=>by obtain ⟨a,d,rfl,rfl⟩:=c;exact C1.of (B7o rfl) rfl B0.refl) B0.refl) ?_)))))
 subst hR
 refine A8 ?_
 exact zer hr hD (O3 rfl (B9 rfl)) (.func (.func 85) #[] #[pa ⟨b,0,none⟩]:Value) sb_ fo_
def A1j (s:List UInt8) (n:Int):List UInt8 :=
 ((s.drop ((n).toNat)).take (((n).toNat+1) - ((n).toNat)))
theorem A4a (s:List UInt8) (n:Int) (a:0≤n):(A1j s n).length≤1:=by
 unfold A1j;simp only [List.length_take,List.length_drop];omega
theorem A7j {s:List UInt8} {n:Int} {R:List UInt8} (hR:A1j s n=R) (b:0≤n∧n<(s.length:Int):=by exact om_) (a:s.length≤1000:=by exact om_):G3 Tryz.prog 88 [sv s,iv n] [] (sv R):=by
 refine zce Tryz.func88 fun X hX hr hD=>?_
 replace hR:=(A1j.eq_1 ..).symm.trans hR
 refine sR_ rfl (pp0 1 rfl (ie (sR_ rfl (pp3 3 5 6 7 rfl (ix rfl (C0 rfl rfl rfl rfl opx) (ix rfl (D1s (T:=9) Tryz.underlying9 rfl rfl rfl rfl ((n).toNat) opx ((n).toNat+1) opx opx opx) ?_))))))
 have:=@List.length_drop _ ((n).toNat) s
 have:=@List.length_take _ (((n).toNat+1) - ((n).toNat)) (s.drop ((n).toNat))
 refine pp1 1 4 rfl ?_
 subst hR
 refine ie (A8 ?_)
 exact E9 hr hD
def U7 (a:Act) (p1:List UInt8) (b:List UInt8) (p3:Int):List UInt8 :=
 (C9 (A1j b (a.n - p3)) fun (c:List UInt8)=>(p1++c))
theorem B8e {a:Act} {p1 c:List UInt8} {p3:Int} {b f d:Addr} {R:List UInt8} (hR:U7 a p1 c p3=R) (k:p3≤a.n∧a.n - p3<(c.length:Int):=by exact om_) (j:p1.length≤1000∧c.length≤1000∧0≤p3∧p3≤1000:=by exact om_):G3 Tryz.prog 87 [ag (A2 a),pa b,pa f,pa d] [at_ b [sv p1],at_ f [sv c],at_ d [iv p3]] (sv R):=by
 refine zce Tryz.func87 fun X hX hr hD=>?_
 replace hR:=(U7.eq_1 ..).symm.trans hR
 refine sR_ rfl (H9 2 0 [] (fun g=>[(4,pt g 0)]) (fun g=>[bx g (A2 a) 56]) (fun g=>(ie (sd 9 rfl okl rfl (dd rfl (D6 ty9 rfl rfl (B1 0 rfl) rfl) (dd rfl (D6 ty9 rfl rfl (B1 1 rfl) rfl) (pg1 2 [0] 9 rfl (dd rfl (D6 ty3 rfl rfl (B1 2 rfl) rfl) (dd rfl (V9 rfl rfl rfl rfl opx) ?_)))))))))
 have i:=D0 hR;clear hR;obtain ⟨h,e,hR⟩:=i
 refine zvd rfl (A7j e) ?_
 have:=A4a c (a.n - p3) opx;try rw [e] at this
 refine dd rfl (zst rfl rfl rfl) ?_
 have:=@List.length_append _ p1 h
 refine pd1 1 5 rfl ?_
 subst hR
 refine de (A8 ?_)
 exact E9 hr hD
def P2 (front:List UInt8) (signs:List UInt8) (first:Int):Unit :=
 ()
theorem A6m {front signs:List UInt8} {first:Int} {R:Unit} (hR:P2 front signs first=R) (f:front.length≤1000∧signs.length≤1000∧0≤first∧first≤1000:=by exact om_):Con Tryz.prog 86 [sv front,sv signs,iv first] [] [] (Value) (fun x=>x) (fun x=>[]) (fun x=>[L7 Tryz.prog (x) (C2z (fun a=>first≤a.n∧a.n - first<(signs.length:Int)) (fun a=>(U7 a front signs first)))]):=by
 refine zce Tryz.func86 fun X hX hr hD=>?_
 replace hR:=(P2.eq_1 ..).symm.trans hR
 refine sR_ rfl (it rfl (X7 (cs:=[sv front]) rfl rfl rfl) fun b=>?_)
 refine A1s 0 rfl ?_
 refine it rfl (X7 (cs:=[sv signs]) rfl rfl rfl) fun c=>?_
 refine A1s 0 rfl ?_
 refine it rfl (X7 (cs:=[iv first]) rfl rfl rfl) fun d=>?_
 refine A1s 0 rfl ?_
 refine pp0 1 rfl (ie (sR_ rfl (ip' 2 0 [(6,.func (.func 87) #[] #[pa ⟨b,0,none⟩,pa ⟨c,0,none⟩,pa ⟨d,0,none⟩])] (ie (B8q (q:=L7 Tryz.prog (.func (.func 87) #[] #[pa ⟨b,0,none⟩,pa ⟨c,0,none⟩,pa ⟨d,0,none⟩]) (C2z (fun a=>first≤a.n∧a.n - first<(signs.length:Int)) (fun a=>(U7 a front signs first)))) (Q4 (fun args r e=>by obtain ⟨a,g,rfl,rfl⟩:=e;exact C1.of (B8e rfl (by exact g) (by exact f)) rfl fo_) B0.refl) ?_)))))
 subst hR
 refine A8 ?_
 exact zer hr hD (O3 rfl (B9 rfl)) (.func (.func 87) #[] #[pa ⟨b,0,none⟩,pa ⟨c,0,none⟩,pa ⟨d,0,none⟩]:Value) sb_ fo_
def A3h (a:Act):List UInt8 :=
 (C9 (A1j ([40,41,42,43]:List UInt8) a.n) fun (c:List UInt8)=>(C9 (A1j ([66,48]:List UInt8) a.m) fun (b:List UInt8)=>((([27]:List UInt8)++c)++b)))
theorem C0z {a:Act} {R:List UInt8} (hR:A3h a=R) (h:(0≤a.n∧a.n≤3)∧0≤a.m∧a.m≤1:=by exact om_):G3 Tryz.prog 99 [ag (A2 a)] [] (sv R):=by
 refine zce Tryz.func99 fun X hX hr hD=>?_
 replace hR:=(A3h.eq_1 ..).symm.trans hR
 refine sR_ rfl (H9 2 0 [] (fun d=>[(1,pt d 0)]) (fun d=>[bx d (A2 a) 56]) (fun d=>(ie (sd 9 rfl okl rfl (pg1 2 [0] 4 rfl ?_)))))
 have e:=D0 hR;clear hR;obtain ⟨g,c,hR⟩:=e
 refine zvd rfl (A7j c) ?_
 have:=A4a ([40,41,42,43]:List UInt8) a.n opx;try rw [c] at this
 refine dd rfl (zst rfl rfl rfl) (pg1 2 [0] 8 rfl ?_)
 have e:=D0 hR;clear hR;obtain ⟨f,b,hR⟩:=e
 refine zvd rfl (A7j b) ?_
 have:=A4a ([66,48]:List UInt8) a.m opx;try rw [b] at this
 refine dd rfl (zst rfl rfl rfl) (pd1 1 2 rfl ?_)
 subst hR
 refine de (A8 ?_)
 exact E9 hr hD
def A2z (l:List Int) (b:Nat) (a:List (List Int)→Nat→List UInt8):Nat→List (List Int)→List UInt8
 | 0,_=>[]
 | fu1+1,out1=>(bif (decide ((out1.length:Int)<(b:Int))) then A2z l b a fu1 (out1++([([(-1)]:List Int)]:List (List Int))) else a (out1++([([(l.getD b 0)]:List Int)]:List (List Int))) (b+1))
def A0k (none_:Int) (l:List Int):List Int→List (List Int)→Nat→List UInt8
 | [],out,t12=>(C9 (A5c out) fun (a:List UInt8×Int)=>a.1)
 | hd_l3::tl_l3,out,t12=>(bif (decide (hd_l3=none_)) then A0k none_ l tl_l3 out (t12+1) else A2z l t12 (A0k none_ l tl_l3) ((t12 - out.length)+1) out)
def A5z (none_:Int) (l:List Int):List UInt8 :=
 A0k none_ l l ([]:List (List Int)) 0
theorem B3v (l:List Int) (a:Nat) (ag:List (List Int)→Nat→List UInt8) (b:∀ o t,(ag o t).length≤2112):∀ (c:Nat) (o:List (List Int)),(A2z l a ag c o).length≤2112
 | 0,o=>by simp [A2z]
 | c+1,o=>by
  rw [A2z]
  cases decide ((o.length:Int)<(a:Int)) with
  | true=>exact B3v l a ag b c _
  | false=>exact b _ _
theorem A7y (none_:Int) (l:List Int):∀ (r:List Int) (o:List (List Int)) (t:Nat),(A0k none_ l r o t).length≤2112
 | [],o,t=>A4j o
 | x::r,o,t=>by
  rw [A0k]
  cases decide (x=none_) with
  | true=>exact A7y none_ l r o (t+1)
  | false=>exact B3v l t _ (A7y none_ l r) _ _
theorem A1u (none_:Int) (l:List Int):(A5z none_ l).length≤2112:=A7y none_ l l [] 0
theorem oup {p:Prop} (h:p:=by first|omega|(simp only [List.length_take,List.length_drop,List.length_append,List.length_cons,List.length_nil,List.length_set,List.length_map,E8,P1,P2];omega)|decide):p:=h
theorem oub {p:Prop} (h:p:=by first|omega|(simp only [List.length_cons,List.length_nil,List.length_append,List.length_take,List.length_drop,E8,P1,P2];omega)):p:=h
theorem A6r {none_:Int} {l:List Int} {lq:Option Addr} {lk:Nat} {R:List UInt8} (hR:A5z none_ l=R) (ac:l.length≤9223372036854775807:=by exact om_) (ab:l.length≤lk:=by exact om_) (af:l.length≤4:=by exact om_):G3 Tryz.prog 91 [iv none_,.slice lq l.length lk] [sl H8 lq l,K0] (sv R):=by
 refine zce Tryz.func91 fun X hX hr hD=>?_
 replace hR:=(A5z.eq_1 ..).symm.trans hR
 refine sR_ rfl (pp0 1 rfl (ie (sR_ rfl (pp1 1 5 rfl (ie (A5 (sR_ rfl (pp3 3 10 11 12 rfl (ie (B4 ?_))))))))))
 refine A5o (un fun (n:List (List Int))=>un fun (j:VR)=>un fun (g:List Slc) (a:Nat)=>(a≤l.length∧A0k none_ l (l.drop a) n a=R∧VOk 1 n.length j∧D5 g n∧n.length≤a,[(0,iv none_),(5,.slice (va j.q) n.length j.k),(10,.slice lq l.length lk),(11,iv (l.length:Int)),(12,iv (a:Int))],((vo N1 208 j g)++([])),[sl H8 lq l,K0,I1 H8 g n],l.length - a)) (([]:List (List Int)),VR.nil,([]:List Slc),0) ⟨opx,hR,VOk.nil,D5.none,oom⟩ sb_ fo_ ?_
 rintro ⟨n,j,g,a⟩ ⟨a9,hR,h,f,ho⟩
 have:=VOk.le h
 have:=f.1
 refine sR_ rfl (pp1 1 13 rfl ?_)
 refine ie (A5 (W8 rfl (fun h2=>?_) (fun h2=>?_)))
 ·have z:=bq_ h2
  rw [A0r 0 (show a<l.length by omega)] at hR;replace hR:=(A0k.eq_2 ..).symm.trans hR
  refine A6 (nx (A5 (B4 (sR_ rfl (pp1 1 14 rfl (P3 0 rfl opx fun a3 a2=>(ix rfl (K2 K5 rfl rfl a2 rfl a rfl opx) (ix rfl (D6 ty3 rfl rfl (N0 (c:=H8) (sz:=1) a2 (fun _=>rfl) 0 rfl (gd 0 opx)) rfl) (pp2 2 6 7 rfl (ie (A5 (sR_ rfl (pp1 3 19 rfl (ie ?_))))))))))))))
  refine zjd rfl hR ?_ ?_<;>clear hR<;>intro hR h5 a7
  ·refine H3 (nx (A1 2 rfl (ix rfl (C0 rfl rfl rfl rfl opx) ?_)))
   refine pp1 1 12 rfl (A3 ?_)
   exact A1r (z1:=(n,j,g,a)) (n,j,g,a+1) ⟨opx,hR,h,f,ozq⟩ olr sb_ B0.refl
  refine A6 (nx (A5 (B4 ?_)))
  refine A5o (un fun (x:Nat)=>un fun (e:List (List Int))=>un fun (i:VR) (b:List Slc)=>((a - e.length)<x∧A2z l a (A0k none_ l (l.drop (a+1))) x e=R∧VOk 1 e.length i∧D5 b e∧e.length≤a,[(0,iv none_),(5,.slice (va i.q) e.length i.k),(6,iv (a:Int)),(7,iv (l.getD a 0)),(10,.slice lq l.length lk),(11,iv (l.length:Int)),(12,iv (a:Int))],((vo N1 208 i b)++([])),[sl H8 lq l,K0,I1 H8 g n,I1 H8 b e],x)) ((a - n.length)+1,n,j,g) ⟨(Nat.lt_succ_self _),hR,h,f,opx⟩ sb_ fo_ ?_
  rintro ⟨x,e,i,b⟩ ⟨ad,hR,o,d,ah⟩
  have:=VOk.le o
  have:=d.1
  obtain ⟨fu1,rfl⟩:∃ m,x=m+1:=⟨x - 1,by omega⟩
  replace hR:=(A2z.eq_2 ..).symm.trans hR
  refine A5 (sR_ rfl (pp1 4 23 rfl ?_))
  refine ie ?_
  refine zjd rfl hR ?_ ?_<;>clear hR<;>intro hR h7 aa
  ·refine A6 (nx (B4 (A1 6 rfl (pp1 1 24 rfl (it rfl (C3 (c:=H8) (xs:=([(-1)]:List Int)) K5 rfl rfl rfl okl) fun w=>?_)))))
   have:([(-1)]:List Int).length=1:=rfl
   refine zrl 1 3 [] [(26,ag [.slice (some ⟨w,0,none⟩) 1 1])] (it rfl (C3 (c:=N1) (xs:=([⟨some ⟨w,0,none⟩,1,1⟩]:List Slc)) B7y rfl rfl rfl okl) fun b9=>?_)
   have p:D5 ([⟨some ⟨w,0,none⟩,1,1⟩]:List Slc) ([([(-1)]:List Int)]:List (List Int)):=(D5.cons ⟨ooy,oup,oup⟩ D5.none)
   refine D7 (q:=I1 H8 ([⟨some ⟨w,0,none⟩,1,1⟩]:List Slc) ([([(-1)]:List Int)]:List (List Int))) (A1h (B1 1 rfl) P5) ?_
   have:([⟨some ⟨w,0,none⟩,1,1⟩]:List Slc).length=1:=rfl
   have a1:D5 (b++([⟨some ⟨w,0,none⟩,1,1⟩]:List Slc)) (e++([([(-1)]:List Int)]:List (List Int))):=D5.append d p
   refine it rfl (V3 (r:=i) (rs:=b) (xss:=e) (pre:=[]) (post:=[]) D3g rfl rfl rfl rfl rfl rfl rfl rfl rfl (B1 1 rfl) (B1 6 rfl) (B1 0 rfl) d p o oub oub) fun ⟨a5,u⟩=>?_
   have:=VOk.le u
   have:=VOk.cap u
   have:([([(-1)]:List Int)]:List (List Int)).length=1:=rfl
   have:(e++([([(-1)]:List Int)]:List (List Int))).length=e.length+1:=List.length_append
   refine pp1 1 5 rfl (A3 ?_)
   exact A1r (z1:=(fu1+1,e,i,b)) (fu1,(e++([([(-1)]:List Int)]:List (List Int))),a5,(b++([⟨some ⟨w,0,none⟩,1,1⟩]:List Slc))) ⟨opx,hR,u,a1,ozq⟩ (Nat.lt_succ_self _) sb_ fo_
  refine H3 (nx (A1 7 rfl (pp2 2 29 30 rfl ?_)))
  refine it rfl (C3 (c:=H8) (xs:=([(l.getD a 0)]:List Int)) K5 rfl rfl rfl okl) fun t=>?_
  have:([(l.getD a 0)]:List Int).length=1:=rfl
  refine zrl 1 3 [] [(32,ag [.slice (some ⟨t,0,none⟩) 1 1])] (it rfl (C3 (c:=N1) (xs:=([⟨some ⟨t,0,none⟩,1,1⟩]:List Slc)) B7y rfl rfl rfl okl) fun a8=>?_)
  have s:D5 ([⟨some ⟨t,0,none⟩,1,1⟩]:List Slc) ([([(l.getD a 0)]:List Int)]:List (List Int)):=(D5.cons ⟨ooy,oup,oup⟩ D5.none)
  refine D7 (q:=I1 H8 ([⟨some ⟨t,0,none⟩,1,1⟩]:List Slc) ([([(l.getD a 0)]:List Int)]:List (List Int))) (A1h (B1 1 rfl) P5) ?_
  have:([⟨some ⟨t,0,none⟩,1,1⟩]:List Slc).length=1:=rfl
  have y:D5 (b++([⟨some ⟨t,0,none⟩,1,1⟩]:List Slc)) (e++([([(l.getD a 0)]:List Int)]:List (List Int))):=D5.append d s
  refine it rfl (V3 (r:=i) (rs:=b) (xss:=e) (pre:=[]) (post:=[]) D3g rfl rfl rfl rfl rfl rfl rfl rfl rfl (B1 1 rfl) (B1 6 rfl) (B1 0 rfl) d s o oub oub) fun ⟨a4,v⟩=>?_
  have:=VOk.le v
  have:=VOk.cap v
  have:([([(l.getD a 0)]:List Int)]:List (List Int)).length=1:=rfl
  have:(e++([([(l.getD a 0)]:List Int)]:List (List Int))).length=e.length+1:=List.length_append
  refine pp1 1 5 rfl (A3 (nx (A1 2 rfl (ix rfl (C0 rfl rfl rfl rfl opx) (pp1 1 12 rfl (A3 ?_))))))
  exact A1r (z1:=(n,j,g,a)) ((e++([([(l.getD a 0)]:List Int)]:List (List Int))),a4,(b++([⟨some ⟨t,0,none⟩,1,1⟩]:List Slc)),a+1) ⟨opx,hR,v,y,ozq⟩ olr sb_ fo_
 have z:=bq_ h2
 rw [A1i z] at hR;replace hR:=(A0k.eq_1 ..).symm.trans hR
 refine H3 (nx (sR_ rfl (pp1 1 37 rfl ?_)))
 have:=VOk.cap h
 have:=VOk.le h
 refine A4k [] [] (T:=208) (c:=N1) (r:=j) (xs:=g) (VOk.cast h (by rw [f.1])) opv ?_
 have hQ:=D0 hR;clear hR;obtain ⟨y8,a0,hR⟩:=hQ
 refine zv rfl (B7e a0 f) ?_
 have:=A4j n;try rw [a0] at this
 refine pp1 5 8 rfl (ie (sR_ rfl (pp1 2 4 rfl ?_)))
 subst hR
 refine ie (A8 ?_)
 exact E9 hr hD
def U3 (a:Act) (p1:List UInt8):List UInt8 :=
 (C9 (A5z 1 ([a.m]:List Int)) fun (b:List UInt8)=>(C9 (A1j p1 a.n) fun (c:List UInt8)=>((([27,91]:List UInt8)++b)++c)))
theorem B7u {a:Act} {p1:List UInt8} {d:Addr} {R:List UInt8} (hR:U3 a p1=R) (l:0≤a.n∧a.n<(p1.length:Int):=by exact om_) (k:p1.length≤1000:=by exact om_):G3 Tryz.prog 93 [ag (A2 a),pa d] [at_ d [sv p1],K0] (sv R):=by
 refine zce Tryz.func93 fun X hX hr hD=>?_
 replace hR:=(U3.eq_1 ..).symm.trans hR
 refine sR_ rfl (H9 2 0 [] (fun b=>[(2,pt b 0)]) (fun b=>[bx b (A2 a) 56]) (fun b=>(ie (sh 11 [(11,[bx b (A2 a) 56])] [at_ d [sv p1],K0] [bx b (A2 a) 56] (zml 11 0) okl rfl okl okl okl sb_ B0.refl ?_))))
 refine zhp [0,6] 9 (zml 11 65) [(4,pt b 2),(10,pt b 1)] ?_
 refine zhl 1 [bx b (A2 a) 56] (zml 11 67) rfl (A7 (v:=iv a.m) ty3 rfl rfl 0 rfl rfl) ?_
 refine zhk 5 (zml 11 99) rfl (D6 ty9 rfl rfl (B1 0 rfl) rfl) (zhl 7 [bx b (A2 a) 56] (zml 11 227) rfl (A7 (v:=iv a.n) ty3 rfl rfl 0 rfl rfl) ?_)
 refine zho 2 [bx b (A2 a) 56] (zml 11 231) rfl (C3 (c:=H8) (xs:=([a.m]:List Int)) K5 rfl rfl rfl okl) (fun h=>sb_) (fun h=>fo_) fun h=>?_
 have:([a.m]:List Int).length=1:=rfl
 have g:=D0 hR;clear hR;obtain ⟨j,f,hR⟩:=g
 refine zho 3 [bx b (A2 a) 56] (zml 11 239) rfl (Det.tri (N3 (A6r f) rfl rfl rfl rfl rfl fo_)) (fun _=>sb_) (fun _=>fo_) fun _=>?_
 have:=A1u 1 ([a.m]:List Int);try rw [f] at this
 refine zhk 4 (zml 11 255) rfl (zst rfl rfl rfl) ?_
 have g:=D0 hR;clear hR;obtain ⟨i,e,hR⟩:=g
 refine zho 8 [bx b (A2 a) 56] (zml 11 511) rfl (Det.tri (N3 (A7j e) rfl rfl rfl rfl rfl fn0)) (fun _=>sb_) (fun _=>fo_) fun _=>?_
 have:=A4a p1 a.n opx;try rw [e] at this
 refine zhk 9 (zml 11 1023) rfl (zst rfl rfl rfl) ?_
 refine zhp [10] 0 (zml 11 2047) [(3,sv ((([27,91]:List UInt8)++j)++i))] ?_
 refine A3w okl ?_
 subst hR
 refine A8 ?_
 exact E9 hr hD
def A5j (signs:List UInt8):Unit :=
 ()
theorem A6n {signs:List UInt8} {R:Unit} (hR:A5j signs=R) (c:signs.length≤1000:=by exact om_):Con Tryz.prog 92 [sv signs] [] [K0] (Value) (fun x=>x) (fun x=>[]) (fun x=>[L7 Tryz.prog (x) (C2z (fun a=>0≤a.n∧a.n<(signs.length:Int)) (fun a=>(U3 a signs)))]):=by
 refine zce Tryz.func92 fun X hX hr hD=>?_
 replace hR:=(A5j.eq_1 ..).symm.trans hR
 refine sR_ rfl (it rfl (X7 (cs:=[sv signs]) rfl rfl rfl) fun b=>?_)
 refine A1s 0 rfl ?_
 refine pp0 1 rfl (ie (sR_ rfl (ip' 2 0 [(2,.func (.func 93) #[] #[pa ⟨b,0,none⟩])] (ie (B8q (q:=L7 Tryz.prog (.func (.func 93) #[] #[pa ⟨b,0,none⟩]) (C2z (fun a=>0≤a.n∧a.n<(signs.length:Int)) (fun a=>(U3 a signs)))) (Q4 (fun args r d=>by obtain ⟨a,e,rfl,rfl⟩:=d;exact C1.of (B7u rfl (by exact e) (by exact c)) rfl B0.refl) B0.refl) ?_)))))
 subst hR
 refine A8 ?_
 exact zer hr hD (O3 rfl (B9 rfl)) (.func (.func 93) #[] #[pa ⟨b,0,none⟩]:Value) sb_ fo_
def A3f (a:Act):List UInt8 :=
 (C9 (A5z 1 ([a.n,a.m]:List Int)) fun (b:List UInt8)=>((([27,91]:List UInt8)++b)++([72]:List UInt8)))
theorem C1f {a:Act} {R:List UInt8} (hR:A3f a=R):G3 Tryz.prog 100 [ag (A2 a)] [K0] (sv R):=by
 refine zce Tryz.func100 fun X hX hr hD=>?_
 replace hR:=(A3f.eq_1 ..).symm.trans hR
 refine sR_ rfl (H9 2 0 [] (fun d=>[(1,pt d 0)]) (fun d=>[bx d (A2 a) 56]) (fun d=>(ie (sR_ rfl (pl2 4 [0,0] 4 6 rfl (it rfl (C3 (c:=H8) (xs:=([a.n,a.m]:List Int)) K5 rfl rfl rfl okl) fun f=>?_))))))
 have:([a.n,a.m]:List Int).length=2:=rfl
 have e:=D0 hR;clear hR;obtain ⟨g,b,hR⟩:=e
 refine zv rfl (A6r (none_:=1) (l:=([a.n,a.m]:List Int)) (lq:=(some ⟨f,0,none⟩)) (lk:=2) b) ?_
 have:=A1u 1 ([a.n,a.m]:List Int);try rw [b] at this
 refine ix rfl (zst rfl rfl rfl) (ix rfl (zst rfl rfl rfl) (pp1 1 2 rfl ?_))
 subst hR
 refine ie (A8 ?_)
 exact E9 hr hD
def G0 (a:Act) (p1:Int) (b:List UInt8):List UInt8 :=
 (C9 (A5z p1 ([a.n]:List Int)) fun (c:List UInt8)=>((([27,91]:List UInt8)++c)++b))
theorem B7w {a:Act} {p1:Int} {f:List UInt8} {d e:Addr} {R:List UInt8} (hR:G0 a p1 f=R) (k:f.length≤1000:=by exact om_):G3 Tryz.prog 90 [ag (A2 a),pa d,pa e] [at_ d [iv p1],at_ e [sv f],K0] (sv R):=by
 refine zce Tryz.func90 fun X hX hr hD=>?_
 replace hR:=(G0.eq_1 ..).symm.trans hR
 refine sR_ rfl (H9 2 0 [] (fun b=>[(3,pt b 0)]) (fun b=>[bx b (A2 a) 56]) (fun b=>(ie (sh 9 [(9,[bx b (A2 a) 56])] [at_ d [iv p1],at_ e [sv f],K0] [bx b (A2 a) 56] (zml 9 0) okl rfl okl okl okl sb_ B0.refl ?_))))
 refine zhp [1] 8 (zml 9 2) [(6,pt b 1)] ?_
 refine zhk 0 (zml 9 3) rfl (D6 ty3 rfl rfl (B1 0 rfl) rfl) (zhl 2 [bx b (A2 a) 56] (zml 9 7) rfl (A7 (v:=iv a.n) ty3 rfl rfl 0 rfl rfl) ?_)
 refine zhk 6 (zml 9 71) rfl (D6 ty9 rfl rfl (B1 1 rfl) rfl) ?_
 refine zho 3 [bx b (A2 a) 56] (zml 9 79) rfl (C3 (c:=H8) (xs:=([a.n]:List Int)) K5 rfl rfl rfl okl) (fun h=>sb_) (fun h=>fo_) fun h=>?_
 have:([a.n]:List Int).length=1:=rfl
 have j:=D0 hR;clear hR;obtain ⟨i,g,hR⟩:=j
 refine zho 4 [bx b (A2 a) 56] (zml 9 95) rfl (Det.tri (N3 (A6r g) rfl rfl rfl rfl rfl fo_)) (fun _=>sb_) (fun _=>fo_) fun _=>?_
 have:=A1u p1 ([a.n]:List Int);try rw [g] at this
 refine zhk 5 (zml 9 127) rfl (zst rfl rfl rfl) (zhk 7 (zml 9 255) rfl (zst rfl rfl rfl) ?_)
 refine zhp [8] 0 (zml 9 511) [(4,sv ((([27,91]:List UInt8)++i)++f))] ?_
 refine A3w okl ?_
 subst hR
 refine A8 ?_
 exact E9 hr hD
def A5q (none_:Int) (last:List UInt8):Unit :=
 ()
theorem J0 {none_:Int} {last:List UInt8} {R:Unit} (hR:A5q none_ last=R) (e:last.length≤1000:=by exact om_):Con Tryz.prog 89 [iv none_,sv last] [] [K0] (Value) (fun x=>x) (fun x=>[]) (fun x=>[L7 Tryz.prog (x) (C2z (fun _=>True) (fun a=>(G0 a none_ last)))]):=by
 refine zce Tryz.func89 fun X hX hr hD=>?_
 replace hR:=(A5q.eq_1 ..).symm.trans hR
 refine sR_ rfl (it rfl (X7 (cs:=[iv none_]) rfl rfl rfl) fun b=>?_)
 refine A1s 0 rfl ?_
 refine it rfl (X7 (cs:=[sv last]) rfl rfl rfl) fun c=>?_
 refine A1s 0 rfl ?_
 refine pp0 1 rfl (ie (sR_ rfl (ip' 2 0 [(4,.func (.func 90) #[] #[pa ⟨b,0,none⟩,pa ⟨c,0,none⟩])] (ie (B8q (q:=L7 Tryz.prog (.func (.func 90) #[] #[pa ⟨b,0,none⟩,pa ⟨c,0,none⟩]) (C2z (fun _=>True) (fun a=>(G0 a none_ last)))) (Q4 (fun args r d=>by obtain ⟨a,f,rfl,rfl⟩:=d;exact C1.of (B7w rfl (by exact e)) rfl fo_) B0.refl) ?_)))))
 subst hR
 refine A8 ?_
 exact zer hr hD (O3 rfl (B9 rfl)) (.func (.func 90) #[] #[pa ⟨b,0,none⟩,pa ⟨c,0,none⟩]:Value) sb_ fo_
def W1 (a:Act) (p1:List UInt8):List UInt8 :=
 (C9 (A5z (-2) ([a.n]:List Int)) fun (b:List UInt8)=>(C9 (A1j ([108,104]:List UInt8) a.m) fun (c:List UInt8)=>(((([27,91]:List UInt8)++p1)++b)++c)))
theorem B8i {a:Act} {p1:List UInt8} {d:Addr} {R:List UInt8} (hR:W1 a p1=R) (l:0≤a.m∧a.m≤1:=by exact om_) (k:p1.length≤1000:=by exact om_):G3 Tryz.prog 96 [ag (A2 a),pa d] [at_ d [sv p1],K0] (sv R):=by
 refine zce Tryz.func96 fun X hX hr hD=>?_
 replace hR:=(W1.eq_1 ..).symm.trans hR
 refine sR_ rfl (H9 2 0 [] (fun b=>[(2,pt b 0)]) (fun b=>[bx b (A2 a) 56]) (fun b=>(ie (sh 12 [(12,[bx b (A2 a) 56])] [at_ d [sv p1],K0] [bx b (A2 a) 56] (zml 12 0) okl rfl okl okl okl sb_ B0.refl ?_))))
 refine zhp [2,7] 10 (zml 12 132) [(6,pt b 1),(11,pt b 2)] ?_
 refine zhk 0 (zml 12 133) rfl (D6 ty9 rfl rfl (B1 0 rfl) rfl) (zhk 1 (zml 12 135) rfl (zst rfl rfl rfl) (zhl 3 [bx b (A2 a) 56] (zml 12 143) rfl (A7 (v:=iv a.n) ty3 rfl rfl 0 rfl rfl) ?_))
 refine zhl 8 [bx b (A2 a) 56] (zml 12 399) rfl (A7 (v:=iv a.m) ty3 rfl rfl 0 rfl rfl) ?_
 refine zho 4 [bx b (A2 a) 56] (zml 12 415) rfl (C3 (c:=H8) (xs:=([a.n]:List Int)) K5 rfl rfl rfl okl) (fun h=>sb_) (fun h=>fo_) fun h=>?_
 have:([a.n]:List Int).length=1:=rfl
 have g:=D0 hR;clear hR;obtain ⟨j,f,hR⟩:=g
 refine zho 5 [bx b (A2 a) 56] (zml 12 447) rfl (Det.tri (N3 (A6r f) rfl rfl rfl rfl rfl fo_)) (fun _=>sb_) (fun _=>fo_) fun _=>?_
 have:=A1u (-2) ([a.n]:List Int);try rw [f] at this
 refine zhk 6 (zml 12 511) rfl (zst rfl rfl rfl) ?_
 have g:=D0 hR;clear hR;obtain ⟨i,e,hR⟩:=g
 refine zho 9 [bx b (A2 a) 56] (zml 12 1023) rfl (Det.tri (N3 (A7j e) rfl rfl rfl rfl rfl fn0)) (fun _=>sb_) (fun _=>fo_) fun _=>?_
 have:=A4a ([108,104]:List UInt8) a.m opx;try rw [e] at this
 refine zhk 10 (zml 12 2047) rfl (zst rfl rfl rfl) ?_
 refine zhp [11] 0 (zml 12 4095) [(3,sv (((([27,91]:List UInt8)++p1)++j)++i))] ?_
 refine A3w okl ?_
 subst hR
 refine A8 ?_
 exact E9 hr hD
def A5w (front:List UInt8):Unit :=
 ()
theorem B1t {front:List UInt8} {R:Unit} (hR:A5w front=R) (c:front.length≤1000:=by exact om_):Con Tryz.prog 95 [sv front] [] [K0] (Value) (fun x=>x) (fun x=>[]) (fun x=>[L7 Tryz.prog (x) (C2z (fun a=>0≤a.m∧a.m≤1) (fun a=>(W1 a front)))]):=by
 refine zce Tryz.func95 fun X hX hr hD=>?_
 replace hR:=(A5w.eq_1 ..).symm.trans hR
 refine sR_ rfl (it rfl (X7 (cs:=[sv front]) rfl rfl rfl) fun b=>?_)
 refine A1s 0 rfl ?_
 refine pp0 1 rfl (ie (sR_ rfl (ip' 2 0 [(2,.func (.func 96) #[] #[pa ⟨b,0,none⟩])] (ie (B8q (q:=L7 Tryz.prog (.func (.func 96) #[] #[pa ⟨b,0,none⟩]) (C2z (fun a=>0≤a.m∧a.m≤1) (fun a=>(W1 a front)))) (Q4 (fun args r d=>by obtain ⟨a,e,rfl,rfl⟩:=d;exact C1.of (B8i rfl (by exact e) (by exact c)) rfl B0.refl) B0.refl) ?_)))))
 subst hR
 refine A8 ?_
 exact zer hr hD (O3 rfl (B9 rfl)) (.func (.func 96) #[] #[pa ⟨b,0,none⟩]:Value) sb_ fo_
def A2l (a:Act):List UInt8 :=
 (C9 (A5z 0 ([a.n,a.m]:List Int)) fun (b:List UInt8)=>((([27,91]:List UInt8)++b)++([114]:List UInt8)))
theorem C0c {a:Act} {R:List UInt8} (hR:A2l a=R):G3 Tryz.prog 101 [ag (A2 a)] [K0] (sv R):=by
 refine zce Tryz.func101 fun X hX hr hD=>?_
 replace hR:=(A2l.eq_1 ..).symm.trans hR
 refine sR_ rfl (H9 2 0 [] (fun d=>[(1,pt d 0)]) (fun d=>[bx d (A2 a) 56]) (fun d=>(ie (sR_ rfl (pl2 4 [0,0] 4 6 rfl (it rfl (C3 (c:=H8) (xs:=([a.n,a.m]:List Int)) K5 rfl rfl rfl okl) fun f=>?_))))))
 have:([a.n,a.m]:List Int).length=2:=rfl
 have e:=D0 hR;clear hR;obtain ⟨g,b,hR⟩:=e
 refine zv rfl (A6r (none_:=0) (l:=([a.n,a.m]:List Int)) (lq:=(some ⟨f,0,none⟩)) (lk:=2) b) ?_
 have:=A1u 0 ([a.n,a.m]:List Int);try rw [b] at this
 refine ix rfl (zst rfl rfl rfl) (ix rfl (zst rfl rfl rfl) (pp1 1 2 rfl ?_))
 subst hR
 refine ie (A8 ?_)
 exact E9 hr hD
def A2a (a:Act):List UInt8 :=
 ((([27,91]:List UInt8)++(([62]:List UInt8).take ((a.n).toNat)))++([99]:List UInt8))
theorem oph {p:Prop} (h:p:=by first|omega|(simp only [List.length_cons,List.length_nil];omega)):p:=h
theorem C0b {a:Act} {R:List UInt8} (hR:A2a a=R) (c:0≤a.n∧a.n≤1:=by exact om_):G3 Tryz.prog 102 [ag (A2 a)] [] (sv R):=by
 refine zce Tryz.func102 fun X hX hr hD=>?_
 replace hR:=(A2a.eq_1 ..).symm.trans hR
 refine sR_ rfl (H9 2 0 [] (fun b=>[(1,pt b 0)]) (fun b=>[bx b (A2 a) 56]) (fun b=>(ie (sR_ rfl (pl1 2 [0] 4 rfl (ix rfl (B5l (T:=9) Tryz.underlying9 rfl rfl rfl ((a.n).toNat) opx oph) (ix rfl (zst rfl rfl rfl) (ix rfl (zst rfl rfl rfl) (pp1 1 2 rfl ?_)))))))))
 subst hR
 refine ie (A8 ?_)
 exact E9 hr hD
def A1z (a:Act):List UInt8 :=
 (C9 (A5z (-2) ([a.n]:List Int)) fun (b:List UInt8)=>(((([27,91]:List UInt8)++(([63]:List UInt8).take ((a.m).toNat)))++b)++([36,112]:List UInt8)))
theorem B9q {a:Act} {R:List UInt8} (hR:A1z a=R) (h:0≤a.m∧a.m≤1:=by exact om_):G3 Tryz.prog 103 [ag (A2 a)] [K0] (sv R):=by
 refine zce Tryz.func103 fun X hX hr hD=>?_
 replace hR:=(A1z.eq_1 ..).symm.trans hR
 refine sR_ rfl (H9 2 0 [] (fun b=>[(1,pt b 0)]) (fun b=>[bx b (A2 a) 56]) (fun b=>(ie (sh 11 [(11,[bx b (A2 a) 56])] [K0] [bx b (A2 a) 56] (zml 11 0) okl rfl okl okl okl sb_ B0.refl ?_))))
 refine zhp [0,4] 9 (zml 11 17) [(3,pt b 2),(7,pt b 1)] ?_
 refine zhl 1 [bx b (A2 a) 56] (zml 11 19) rfl (A7 (v:=iv a.m) ty3 rfl rfl 0 rfl rfl) ?_
 refine zhk 2 (zml 11 23) rfl (B5l (T:=9) Tryz.underlying9 rfl rfl rfl ((a.m).toNat) opx oph) (zhk 3 (zml 11 31) rfl (zst rfl rfl rfl) (zhl 5 [bx b (A2 a) 56] (zml 11 63) rfl (A7 (v:=iv a.n) ty3 rfl rfl 0 rfl rfl) ?_))
 refine zho 6 [bx b (A2 a) 56] (zml 11 127) rfl (C3 (c:=H8) (xs:=([a.n]:List Int)) K5 rfl rfl rfl okl) (fun e=>sb_) (fun e=>fo_) fun e=>?_
 have:([a.n]:List Int).length=1:=rfl
 have g:=D0 hR;clear hR;obtain ⟨f,d,hR⟩:=g
 refine zho 7 [bx b (A2 a) 56] (zml 11 255) rfl (Det.tri (N3 (A6r d) rfl rfl rfl rfl rfl B0.refl)) (fun _=>sb_) (fun _=>fo_) fun _=>?_
 have:=A1u (-2) ([a.n]:List Int);try rw [d] at this
 refine zhk 8 (zml 11 511) rfl (zst rfl rfl rfl) (zhk 9 (zml 11 1023) rfl (zst rfl rfl rfl) ?_)
 refine zhp [10] 0 (zml 11 2047) [(2,sv (((([27,91]:List UInt8)++(([63]:List UInt8).take ((a.m).toNat)))++f)++([36,112]:List UInt8)))] ?_
 refine A3w okl ?_
 subst hR
 refine A8 ?_
 exact E9 hr hD
def A9g (l:List Act):List UInt8 :=
 (C9 (B3k l) fun (a:List (List Int)×Int)=>(C9 (A5c a.1) fun (b:List UInt8×Int)=>((([27,91]:List UInt8)++b.1)++([109]:List UInt8))))
theorem A6x (l:List Act):(A9g l).length≤2115:=by
 have:=A4j (B3k l).1
 unfold A9g;simp only [C9,List.length_append,List.length_cons,List.length_nil];omega
theorem C1w {l:List Act} {lq:Option Addr} {lk:Nat} {R:List UInt8} (hR:A9g l=R) (k:l.length≤9223372036854775807:=by exact om_) (j:l.length≤lk:=by exact om_):G3 Tryz.prog 30 [.slice lq l.length lk] [sl A2 lq l,S7,K0] (sv R):=by
 refine zce Tryz.func30 fun X hX hr hD=>?_
 replace hR:=(A9g.eq_1 ..).symm.trans hR
 refine sR_ rfl (pp0 1 rfl (ie (sR_ rfl (pp1 1 8 rfl ?_))))
 have i:=D0 hR;clear hR;obtain ⟨h,e,hR⟩:=i
 refine zc rfl (C9j e) fun ⟨⟨m,g⟩,d⟩=>?_
 try dsimp only at d
 obtain ⟨a,b⟩:=d
 have:=VOk.le a
 have:=VOk.cap a
 have:=b.1
 refine pp1 5 3 rfl (ie (sR_ rfl (pp1 1 13 rfl ?_)))
 have:=VOk.cap a
 have:=VOk.le a
 refine A4k [] [] (T:=208) (c:=N1) (r:=m) (xs:=g) (VOk.cast a (by rw [b.1])) opv ?_
 have i:=D0 hR;clear hR;obtain ⟨n,f,hR⟩:=i
 refine zv rfl (B7e f b) ?_
 have:=A4j h.1;try rw [f] at this
 refine pp1 5 5 rfl (ie (sR_ rfl (pp1 1 17 rfl (ix rfl (zst rfl rfl rfl) (ix rfl (zst rfl rfl rfl) (pp1 1 2 rfl ?_))))))
 subst hR
 refine ie (A8 ?_)
 exact E9 hr hD
def A2j (a:Act):List UInt8 :=
 (C9 (A9g ([a]:List Act)) fun (b:List UInt8)=>b)
theorem C0a {a:Act} {R:List UInt8} (hR:A2j a=R):G3 Tryz.prog 104 [ag (A2 a)] [S7,K0] (sv R):=by
 refine zce Tryz.func104 fun X hX hr hD=>?_
 replace hR:=(A2j.eq_1 ..).symm.trans hR
 refine sR_ rfl (H9 2 0 [] (fun d=>[(1,pt d 0)]) (fun d=>[bx d (A2 a) 56]) (fun d=>(ie (sR_ rfl (zrl 1 3 [0] [(3,ag (A2 a))] (it rfl (C3 (c:=A2) (xs:=([a]:List Act)) A5y rfl rfl rfl okl) fun g=>?_))))))
 have:([a]:List Act).length=1:=rfl
 have f:=D0 hR;clear hR;obtain ⟨e,b,hR⟩:=f
 refine zv rfl (C1w (l:=([a]:List Act)) (lq:=(some ⟨g,0,none⟩)) (lk:=1) b) ?_
 have:=A6x ([a]:List Act);try rw [b] at this
 refine pp1 1 2 rfl ?_
 subst hR
 refine ie (A8 ?_)
 exact E9 hr hD
def B2x:Unit :=
 ()
theorem B3u {R:Unit} (hR:B2x=R):Con Tryz.prog 121 [] [] [] (Nat) (fun x=>.map (some x)) (fun x=>[(x,.map #[⟨iv 44,.func (.func 189) #[] #[],0⟩,⟨iv 45,.func (.func 192) #[] #[],1⟩,⟨iv 46,.func (.func 195) #[] #[],2⟩] 3)]) (fun x=>[]):=by
 refine zce Tryz.func121 fun X hX hr hD=>?_
 replace hR:=(B2x.eq_1 ..).symm.trans hR
 refine sR_ rfl (ip' 1 0 [] (ie (sR_ rfl (it rfl (W7 rfl) fun a=>?_))))
 refine B2q (m:=2) (mo:=1) (es':=[⟨iv 44,.func (.func 189) #[] #[],0⟩,⟨iv 45,.func (.func 192) #[] #[],1⟩,⟨iv 46,.func (.func 195) #[] #[],2⟩]) C8n rfl 0 3 1 0 [] _ rfl okl ?_
 refine B1f (L':=[(a,.map #[⟨iv 44,.func (.func 189) #[] #[],0⟩,⟨iv 45,.func (.func 192) #[] #[],1⟩,⟨iv 46,.func (.func 195) #[] #[],2⟩] 3)]) rfl ?_
 refine pp1 2 0 rfl ?_
 subst hR
 refine ie (A8 ?_)
 exact zer hr hD (O3 rfl (B9 rfl)) a sb_ fn0
def A2x (d:Int) (c:Int) (a:Col) (b:List UInt8):Option (List UInt8) :=
 (Option.bind (A2f true) fun (r:Unit)=>(Option.bind (A8x (⟨44,d,c,a,b⟩:Act)) fun (e:List UInt8)=>(some e)))
theorem C7c {d e:Int} {b:Col} {a:List UInt8} {c:Addr} {R:Option (List UInt8)} (hR:A2x d e b a=R) (o:a.length≤100000000:=by exact om_):B8x Tryz.prog 120 [pa c] [] [at_ c (A2 (⟨44,d,e,b,a⟩:Act))] Y8 R (fun r=>sv r):=by
 refine A3q (n:=16) Tryz.func120 rfl okl rfl rfl [(0,pa c)] ⟨rfl,trivial⟩ fun X hX hr hD=>?_
 replace hR:=(A2x.eq_1 ..).symm.trans hR
 refine sR_ rfl (pp0 1 rfl (ie (sh 9 [] [at_ c (A2 (⟨44,d,e,b,a⟩:Act))] [] (zml 9 0) okl rfl okl okl okl sb_ B0.refl ?_)))
 refine zhp [1] 8 (zml 9 2) [(6,pa c)] ?_
 refine zhk 2 (zml 9 6) rfl (D6 ty3 rfl rfl (S3 (B1 0 rfl) (ws:=[iv 44]) 1 rfl) rfl) ?_
 refine zho 0 [] (zml 9 7) rfl (C8 (L2:=[]) (B3u rfl) rfl rfl rfl rfl rfl fn0 (List.Perm.refl _) (fun f=>[(f,.map #[⟨iv 44,.func (.func 189) #[] #[],0⟩,⟨iv 45,.func (.func 192) #[] #[],1⟩,⟨iv 46,.func (.func 195) #[] #[],2⟩] 3)]) (fun _=>rfl)) (fun f=>sb_) (fun f=>B0.refl) fun f=>?_
 refine zho 3 [] (zml 9 15) rfl (Det.tri (G7.det (X3 (v:=.func (.func 189) #[] #[]) (j:=0) C8n rfl rfl rfl 0 rfl okl))) (fun _=>sb_) (fun _=>B0.refl) fun _=>?_
 refine zhp [4,5,6,7,8] 0 (zml 9 511) [(2,.func (.func 189) #[] #[]),(3,bv true)] ?_
 refine A3w okl ?_
 refine sR_ rfl (pp1 1 11 rfl ?_)
 refine X4 (L2:=[(f,.map #[⟨iv 44,.func (.func 189) #[] #[],0⟩,⟨iv 45,.func (.func 192) #[] #[],1⟩,⟨iv 46,.func (.func 195) #[] #[],2⟩] 3)]) (A1o rfl) rfl rfl rfl rfl rfl rfl fn0 (List.Perm.refl _) (fun r g=>?_) (fun l=>?_)
 ·replace hR:=A8e hR g
  have h:=S1 g;try simp only [Bool.and_eq_true,decide_eq_true_eq] at h
  refine ie (sR_ rfl (ip' 1 3 [(13,.func (.func 189) #[] #[])] (ix rfl (L8 (us:=A2 (⟨44,d,e,b,a⟩:Act)) B5a rfl rfl (B1 0 rfl) rfl) ?_)))
  refine X4 (L2:=[(f,.map #[⟨iv 44,.func (.func 189) #[] #[],0⟩,⟨iv 45,.func (.func 192) #[] #[],1⟩,⟨iv 46,.func (.func 195) #[] #[],2⟩] 3)]) (C5c rfl) rfl rfl rfl rfl rfl rfl fn0 (List.Perm.refl _) (fun m i=>?_) (fun k=>?_)
  ·replace hR:=A8e hR i
   refine pp1 1 1 rfl (ie (A8 ?_))
   exact A9f rfl ⟨hr,hD⟩ (by simp [hD]) (O3 rfl (B9 rfl)) hR.symm rfl
  ·replace hR:=A8b hR k
   exact O6 ⟨hr,hD⟩ hR.symm
 ·replace hR:=A8b hR l
  exact O6 ⟨hr,hD⟩ hR.symm
def A9b (an:Int) (am:Int) (acolor:Col) (atext:List UInt8):List UInt8×Int :=
 (bif (!((A8i (A2x an am acolor atext)).2)) then (([]:List UInt8),2) else ((A8i (A2x an am acolor atext)).1,0))
theorem B1j (an am:Int) (c:Col) (t:List UInt8):(A9b an am c t).1.length≤t.length+6000:=by
 have a:∀ s,A2x an am c t=some s→s.length≤t.length+6000:=by
  intro s h
  unfold A2x A8x at h
  simp only [Option.bind_eq_some_iff,Option.some.injEq] at h
  obtain ⟨_,_,e,⟨_,_,_,_,d⟩,b⟩:=h
  rw [← b,← d];simp
 unfold A9b
 cases hR:A2x an am c t with
 | none=>simp [A8i]
 | some s=>have:=a s hR;simp [A8i];omega
theorem C2f {an am:Int} {acolor:Col} {atext:List UInt8} {R:List UInt8×Int} (hR:A9b an am acolor atext=R) (c:atext.length≤100000000:=by exact om_):G3 Tryz.prog 37 [ag (A2 (⟨44,an,am,acolor,atext⟩:Act))] [] (.tuple #[sv R.1,iv R.2]):=by
 refine zce Tryz.func37 fun X hX hr hD=>?_
 replace hR:=(A9b.eq_1 ..).symm.trans hR
 refine sR_ rfl (it rfl (X7 (cs:=A2 (⟨44,an,am,acolor,atext⟩:Act)) rfl rfl rfl) fun a=>?_)
 refine A1s 0 rfl ?_
 refine pp0 2 rfl (ie (sR_ rfl (ip' 1 6 [(7,.func (.func 120) #[] #[pa ⟨a,0,none⟩])] (zv rfl (D2j (cap:=[pa ⟨a,0,none⟩]) _ (C7c rfl)) (pp2 5 4 5 rfl (ie (A5 (sR_ rfl (pp1 2 12 rfl (ie ?_))))))))))
 refine zjb rfl hR ?_ ?_<;>clear hR<;>intro hR b
 ·refine sR_ rfl (pp2 2 2 3 rfl ?_)
  subst hR
  refine ie (A8 ?_)
  exact A8m hr hD
 refine A6 (nx (sR_ rfl (pp2 3 2 3 rfl ?_)))
 subst hR
 refine ie (A8 ?_)
 exact A8m hr hD
def A2y (an:Int) (am:Int) (acolor:Col) (atext:List UInt8):List UInt8 :=
 (C9 (A9b an am acolor atext) fun (a:List UInt8×Int)=>((([27,93]:List UInt8)++a.1)++([27,92]:List UInt8)))
theorem C1e (an:Int) (am:Int) (acolor:Col) (atext:List UInt8) (e:atext.length≤100000000) (R:List UInt8) (hR:A2y an am acolor atext=R):G3 Tryz.prog 94 [ag (A2 (⟨44,an,am,acolor,atext⟩:Act))] [] (sv R):=by
 refine zco Tryz.func94 [(0,ag (A2 (⟨44,an,am,acolor,atext⟩:Act)))] fun X hX hr hD=>?_
 replace hR:=(A2y.eq_1 ..).symm.trans hR
 refine sr 2 rfl (H9 2 0 [] (fun b=>[(1,pt b 0)]) (fun b=>[bx b (A2 (⟨44,an,am,acolor,atext⟩:Act)) 56]) (fun b=>(ie (sr 7 rfl (zrl 1 6 [0] [(6,ag (A2 (⟨44,an,am,acolor,atext⟩:Act)))] ?_)))))
 have d:=D0 hR;clear hR;obtain ⟨c,a,hR⟩:=d
 refine zca (C2f (an:=an) (am:=am) (acolor:=acolor) (atext:=atext) a osj) fn0 ?_
 have:=B1j an am acolor atext;try rw [a] at this
 refine ip' 5 0 [(3,sv c.1)] (ie (sr 4 rfl (ip' 1 3 [(10,sv c.1)] (ix rfl (zst rfl rfl rfl) (ix rfl (zst rfl rfl rfl) (ip' 1 0 [(2,sv ((([27,93]:List UInt8)++c.1)++([27,92]:List UInt8)))] ?_))))))
 subst hR
 refine ie (A8 ?_)
 exact E9 hr hD
def A3k (n:Int):Int :=
 (bif (decide (n=0)) then 0 else (IntKind.i64.wrap ((55:Int)+(IntKind.i64.wrap ((40:Int) * n)))))
theorem B1k {n R:Int} (hR:A3k n=R):G3 Tryz.prog 314 [iv n] [] (iv R):=by
 refine zce Tryz.func314 fun X hX hr hD=>?_
 replace hR:=(A3k.eq_1 ..).symm.trans hR
 refine sR_ rfl (pp0 1 rfl (ie (A5 (sR_ rfl (pp1 2 4 rfl (ie ?_))))))
 refine zjd rfl hR ?_ ?_<;>clear hR<;>intro hR b a
 ·refine sR_ rfl (pp1 1 2 rfl ?_)
  subst hR
  refine ie (A8 ?_)
  exact E9 hr hD
 refine A6 (nx (sR_ rfl (pp1 1 5 rfl (ix rfl (G7.pure rfl) (ix rfl (G7.pure rfl) (pp1 1 2 rfl ?_))))))
 subst hR
 refine ie (A8 ?_)
 exact E9 hr hD
def A9n (n:Int):Int :=
 (bif (decide (n<16)) then (E2n.getD ((n).toNat) 0) else (bif (decide ((232:Int)≤n)) then (IntKind.i64.wrap ((IntKind.i64.wrap ((8:Int)+(IntKind.i64.wrap ((10:Int) * (IntKind.i64.wrap (n - (232:Int))))))) * (65793:Int))) else (bOp .or .i64 (bOp .or .i64 (IntKind.i64.wrap ((A3k (IntKind.i64.wrap (Int.tdiv (IntKind.i64.wrap (n - (16:Int))) 36))) * 65536)) (IntKind.i64.wrap ((A3k (Int.tmod (IntKind.i64.wrap (Int.tdiv (IntKind.i64.wrap (n - (16:Int))) 6)) 6)) * 256))) (A3k (Int.tmod (IntKind.i64.wrap (n - (16:Int))) 6)))))
theorem D3c {n R:Int} (hR:A9n n=R) (e:0≤n∧n≤255:=by exact om_):G3 Tryz.prog 286 [iv n] [P0] (iv R):=by
 refine zce Tryz.func286 fun X hX hr hD=>?_
 replace hR:=(A9n.eq_1 ..).symm.trans hR
 refine sR_ rfl (pp0 1 rfl (ie (A5 (B4 (sR_ rfl (pp1 3 3 rfl (ie ?_)))))))
 refine zjd rfl hR ?_ ?_<;>clear hR<;>intro hR d a
 ·refine sR_ rfl (pp1 1 6 rfl (ix rfl (B8a Tryz.underlying345 ty3 rfl rfl rfl ((n).toNat) opx (by first|omega|(show _<16;omega))) (ix rfl (D6 ty3 rfl rfl (N0 (c:=H8) (sz:=1) rfl (fun _=>rfl) 0 rfl (gd 0 (by first|omega|(show _<16;omega)))) rfl) (pp1 1 2 rfl ?_))))
  subst hR
  refine ie (A8 ?_)
  exact E9 hr hD
 refine sR_ rfl (pp1 3 9 rfl (ie ?_))
 refine zjd rfl hR ?_ ?_<;>clear hR<;>intro hR f b
 ·refine sR_ rfl (pp1 1 12 rfl (ix rfl (G7.pure rfl) (ix rfl (G7.pure rfl) (ix rfl (G7.pure rfl) (ix rfl (G7.pure rfl) (pp1 1 2 rfl ?_))))))
  subst hR
  refine ie (A8 ?_)
  exact E9 hr hD
 refine A6 (nx (sR_ rfl (pp1 1 17 rfl (ix rfl (G7.pure rfl) (pp1 1 0 rfl (ie (sR_ rfl (pp1 1 19 rfl (ix rfl (C3x rfl rfl rfl ozw) (zv rfl (B1k rfl) ?_))))))))))
 refine ix rfl (B5w (c:=(IntKind.i64.wrap ((A3k (IntKind.i64.wrap (Int.tdiv (IntKind.i64.wrap (n - (16:Int))) 36))) * 65536))) rfl rfl rfl ozw (by simp [IntKind.bits])) (pp1 1 23 rfl (ix rfl (C3x rfl rfl rfl ozw) (ix rfl (D4q rfl rfl rfl ozw rfl) (zv rfl (B1k rfl) ?_))))
 refine ix rfl (B5w (c:=(IntKind.i64.wrap ((A3k (Int.tmod (IntKind.i64.wrap (Int.tdiv (IntKind.i64.wrap (n - (16:Int))) 6)) 6)) * 256))) rfl rfl rfl ozw (by simp [IntKind.bits])) (pp2 2 28 29 rfl (ix rfl (D4q rfl rfl rfl ozw rfl) (zv rfl (B1k rfl) (pp1 2 2 rfl ?_))))
 subst hR
 refine ie (A8 ?_)
 exact E9 hr hD
def A6h (c:Col):Int×Bool :=
 (bif (!decide ((N7 c)=0)) then (0,false) else (bif (decide (c.kind=1)) then ((A9n c.n),true) else (bif (decide (c.kind=2)) then (c.n,true) else (0,false))))
theorem D0l:∀ n<256,0≤A9n ((n:Nat):Int)∧A9n ((n:Nat):Int)≤16777215:=by decide +kernel
theorem B4o {c:Col} (h:N7 c=0):0≤c.n∧c.n≤16777215∧(c.kind=1→c.n≤255):=by
 unfold N7 at h
 generalize hc:((((decide (c.kind<0))||(decide ((3:Int)≤c.kind)))||(decide (c.n<0)))||(decide ((([M3.a,M3.b,M3.c]:List Int).getD ((c.kind).toNat) 0)<c.n)))=b at h
 cases b with
 | true=>simp at h
 | false =>
  simp only [Bool.or_eq_false_iff,decide_eq_false_iff_not] at hc
  obtain ⟨⟨⟨g,j⟩,i⟩,d⟩:=hc
  have f:c.kind=0∨c.kind=1∨c.kind=2:=by omega
  rcases f with e | e | e
  ·rw [e] at d;have d:¬ ((0:Int)<c.n):=d;omega
  ·rw [e] at d;have d:¬ ((255:Int)<c.n):=d;omega
  ·rw [e] at d;have d:¬ ((16777215:Int)<c.n):=d;omega
theorem C8x (c:Col):0≤(A6h c).1∧(A6h c).1≤16777215:=by
 unfold A6h
 by_cases h:N7 c=0
 ·have a:=B4o h
  rw [decide_eq_true h]
  by_cases h1:c.kind=1
  ·rw [decide_eq_true h1]
   obtain ⟨n,e⟩:∃ n:Nat,c.n=n:=⟨c.n.toNat,by omega⟩
   show 0≤A9n c.n∧A9n c.n≤16777215
   rw [e];exact D0l n opx
  ·rw [decide_eq_false h1]
   by_cases h2:c.kind=2
   ·rw [decide_eq_true h2];exact ⟨a.1,a.2.1⟩
   ·rw [decide_eq_false h2];exact ⟨Int.le_refl _,by show (0:Int)≤_;omega⟩
 ·rw [decide_eq_false h];exact ⟨Int.le_refl _,by show (0:Int)≤_;omega⟩
theorem C9r {c:Col} {R:Int×Bool} (hR:A6h c=R):G3 Tryz.prog 247 [ag (U0 c)] [P0] (.tuple #[iv R.1,bv R.2]):=by
 refine zce Tryz.func247 fun X hX hr hD=>?_
 replace hR:=(A6h.eq_1 ..).symm.trans hR
 refine sR_ rfl (H9 3 0 [] (fun a=>[(1,pt a 0)]) (fun a=>[bx a (U0 c) 33]) (fun a=>(ie (A5 (sR_ rfl (zrl 1 2 [0] [(4,ag (U0 c))] (zv rfl (Y7 rfl) (pp1 1 6 rfl (ie ?_)))))))))
 refine zjn rfl hR ?_ ?_<;>clear hR<;>intro hR i f
 ·refine sR_ rfl (pp2 2 2 3 rfl ?_)
  subst hR
  refine ie (A8 ?_)
  exact A8m hr hD
 refine A6 (nx (A5 (sR_ rfl (pl1 2 [0] 8 rfl (ie (B4 (sR_ rfl (pp1 2 9 rfl (ie ?_)))))))))
 refine zjd rfl hR ?_ ?_<;>clear hR<;>intro hR h b
 ·refine sR_ rfl (pl1 2 [0] 12 rfl (zv rfl (D3c rfl (by first|omega|(have d:=B4o (Decidable.of_not_not oiu);omega))) (pp2 2 2 3 rfl ?_)))
  subst hR
  refine ie (A8 ?_)
  exact A8m hr hD
 refine sR_ rfl (pp1 2 14 rfl (ie ?_))
 refine zjd rfl hR ?_ ?_<;>clear hR<;>intro hR g e
 ·refine sR_ rfl (pl2 4 [0] 2 3 rfl ?_)
  subst hR
  refine ie (A8 ?_)
  exact A8m hr hD
 refine A6 (nx (sR_ rfl (pp2 2 2 3 rfl ?_)))
 subst hR
 refine ie (A8 ?_)
 exact A8m hr hD
def A1m:Bool :=
 (decide ((bOp .and .i64 16 15)=0))
theorem A6b {R:Bool} (hR:A1m=R):G3 Tryz.prog 328 [iv 16] [] (bv R):=by
 refine zce Tryz.func328 fun X hX hr hD=>?_
 replace hR:=(A1m.eq_1 ..).symm.trans hR
 refine sR_ rfl (pp0 1 rfl (ie (sR_ rfl (pp2 2 3 4 rfl (ix rfl (V9 (c:=15) rfl rfl rfl rfl ozw) (pp1 3 2 rfl ?_))))))
 subst hR
 refine ie (A8 ?_)
 exact E9 hr hD
def A0e:Int :=
 ((D5q.getD 15 0).toNat:Int)
theorem A8s {R:Int} (hR:A0e=R):G3 Tryz.prog 334 [.int .u64 16] [O4] (iv R):=by
 refine zce Tryz.func334 fun X hX hr hD=>?_
 replace hR:=(A0e.eq_1 ..).symm.trans hR
 refine sR_ rfl (pp0 1 rfl (ie (A5 (sR_ rfl (pp1 2 4 rfl (ie (A0f rfl (A6 (nx (sR_ rfl (pp1 5 9 rfl (ix rfl (Q8 (c:=15) rfl rfl rfl ozw (by decide +kernel)) (ix rfl (D0j Tryz.underlying360 ty5 rfl rfl rfl 15 rfl (by first|decide|omega)) (ix rfl (D6 ty5 rfl rfl (N0 (c:=cU8) (sz:=1) rfl (fun _=>rfl) 0 rfl (gd 0 (by first|decide|(simp only [D5q,List.length_cons,List.length_nil];omega)))) rfl) (ix rfl (B1y (c:=((D5q.getD 15 0).toNat:Int)) Tryz.underlying3 okl rfl rfl (B0w (D5q.getD 15 0))) ?_)))))))))))))))
 refine pp1 1 2 rfl ?_
 subst hR
 refine ie (A8 ?_)
 exact E9 hr hD
def A5a:Int :=
 A0e
theorem B0m {R:Int} (hR:A5a=R):G3 Tryz.prog 329 [.int .u64 16] [O4] (iv R):=by
 refine zce Tryz.func329 fun X hX hr hD=>?_
 replace hR:=(A5a.eq_1 ..).symm.trans hR
 refine sR_ rfl (pp0 1 rfl (ie (A5 (A0f rfl (A6 (nx (sR_ rfl (pp1 1 6 rfl (zv rfl (A8s rfl) (pp1 1 2 rfl ?_))))))))))
 subst hR
 refine ie (A8 ?_)
 exact E9 hr hD
def X9 (u:Int) (a:Bool) (append:Bool):List UInt8 :=
 ([(L9.getD (((((((u / 16) / 16) / 16) / 16) / 16) / 16).toNat) 0),(L9.getD ((bOp .and .u64 (((((u / 16) / 16) / 16) / 16) / 16) 15).toNat) 0),(L9.getD ((bOp .and .u64 ((((u / 16) / 16) / 16) / 16) 15).toNat) 0),(L9.getD ((bOp .and .u64 (((u / 16) / 16) / 16) 15).toNat) 0),(L9.getD ((bOp .and .u64 ((u / 16) / 16) 15).toNat) 0),(L9.getD ((bOp .and .u64 (u / 16) 15).toNat) 0),(L9.getD ((bOp .and .u64 u 15).toNat) 0)]:List UInt8)
theorem A7f (u:Int) (a:Bool) (append:Bool) (g:append=false) (d:a=false) (a4:16777216≤u∧u≤33554431) (R:List UInt8) (hR:X9 u a append=R):G3 Tryz.prog 318 [.slice none 0 0,.int .u64 u,iv 16,bv a,bv append] [O4] (.tuple #[.slice none 0 0,sv R]):=by
 refine zco Tryz.func318 [(0,.slice none 0 0),(1,.int .u64 u),(2,iv 16),(3,bv a),(4,bv append)] fun X hX hr hD=>?_
 replace hR:=(X9.eq_1 ..).symm.trans hR
 have a5:=A9t u
 have a0:=A9t (u / 16)
 have a3:=A9t ((u / 16) / 16)
 have z:=A9t (((u / 16) / 16) / 16)
 have a2:=A9t ((((u / 16) / 16) / 16) / 16)
 have y:=A9t (((((u / 16) / 16) / 16) / 16) / 16)
 have a1:=A9t ((((((u / 16) / 16) / 16) / 16) / 16) / 16)
 refine sr 2 rfl (ip' 2 0 [(10,.slice none 0 0),(11,sv ([]:List UInt8))] (ie (A5 (sr 10 rfl (ip' 10 0 [(28,bv false)] (ie (A0f rfl (A6 (nx (sr 1 rfl (H9 1 0 [] (fun b=>[(12,pt b 0)]) (fun b=>[bx b (List.replicate 65 (.int .u8 0)) 354]) (fun b=>(ie (sr 1 rfl (ip' 1 0 [(13,iv 65)] (ie (A5 (sr 1 rfl (ip' 1 0 [(30,bv a)] ?_)))))))))))))))))))
 refine ie (W8 rfl (fun x=>?_) (fun x=>?_))
 ·exfalso;rw [d] at x;cases x
 refine A6 (nx (A5 (sr 2 rfl (ip' 1 1 [(33,iv 16)] (zca (A6b (R:=true) (by decide +kernel)) fn0 (ie (G8 rfl (sr 5 rfl (ip' 2 3 [(36,.int .u64 16)] (zca (B0m (R:=4) (by decide +kernel)) B0.refl (ip' 2 0 [(14,.int .u64 4)] (ie (sr 3 rfl (ip' 3 0 [(15,.int .u64 16)] (ie (sr 4 rfl (ip' 4 0 [(16,.int .u64 15)] ?_)))))))))))))))))
 refine ie (A5 (B4 (A0s 7 ?_)))
 refine F3 (A5 (sr 3 rfl (ip' 3 0 [(46,bv (decide ((16:Int)≤u)))] ?_)))
 refine ie (W8 rfl (fun s=>?_) (fun s=>?_))
 ·have t:(16:Int)≤u:=by simpa using s
  refine A6 (nx (B4 (sr 3 rfl (ip' 1 2 [(47,iv 65)] (ix rfl (V9 (c:=64) rfl rfl rfl rfl ozw) (ip' 1 0 [(13,iv 64)] (ie (sr 7 rfl (ip' 4 3 [(49,iv 64),(52,.int .u64 (bOp .and .u64 u 15))] (ix rfl (A6g (T:=9) Tryz.underlying9 rfl rfl rfl ((bOp .and .u64 u 15).toNat) opx (by first|omega|(simp only [List.length_cons,List.length_nil];omega)|(show _<36;omega))) (ix rfl (Z5 Tryz.underlying354 ty5 rfl rfl rfl 64 rfl rfl) (zrg 1 0 [0] [] [bx b [.int .u8 0,.int .u8 0,.int .u8 0,.int .u8 0,.int .u8 0,.int .u8 0,.int .u8 0,.int .u8 0,.int .u8 0,.int .u8 0,.int .u8 0,.int .u8 0,.int .u8 0,.int .u8 0,.int .u8 0,.int .u8 0,.int .u8 0,.int .u8 0,.int .u8 0,.int .u8 0,.int .u8 0,.int .u8 0,.int .u8 0,.int .u8 0,.int .u8 0,.int .u8 0,.int .u8 0,.int .u8 0,.int .u8 0,.int .u8 0,.int .u8 0,.int .u8 0,.int .u8 0,.int .u8 0,.int .u8 0,.int .u8 0,.int .u8 0,.int .u8 0,.int .u8 0,.int .u8 0,.int .u8 0,.int .u8 0,.int .u8 0,.int .u8 0,.int .u8 0,.int .u8 0,.int .u8 0,.int .u8 0,.int .u8 0,.int .u8 0,.int .u8 0,.int .u8 0,.int .u8 0,.int .u8 0,.int .u8 0,.int .u8 0,.int .u8 0,.int .u8 0,.int .u8 0,.int .u8 0,.int .u8 0,.int .u8 0,.int .u8 0,.int .u8 0,.int .u8 ((L9.getD ((bOp .and .u64 u 15).toNat) 0).toNat:Int)] 354] ?_))))))))))))
  refine ie (A1 4 rfl (ip' 2 2 [(55,.int .u64 u),(56,.int .u64 4)] ?_))
  refine ix rfl (Q8 (c:=u / 16) rfl rfl rfl ozw (by simp [Int.fdiv_eq_ediv_of_nonneg,IntKind.bits])) (ip' 1 0 [(1,.int .u64 (u / 16))] (A3 (F3 (A5 (sr 3 rfl (ip' 3 0 [(46,bv (decide ((16:Int)≤(u / 16))))] ?_))))))
  refine ie (W8 rfl (fun i=>?_) (fun i=>?_))
  ·have o:(16:Int)≤(u / 16):=by simpa using i
   refine A6 (nx (B4 (sr 3 rfl (ip' 1 2 [(47,iv 64)] (ix rfl (V9 (c:=63) rfl rfl rfl rfl ozw) (ip' 1 0 [(13,iv 63)] (ie (sr 7 rfl (ip' 4 3 [(49,iv 63),(52,.int .u64 (bOp .and .u64 (u / 16) 15))] (ix rfl (A6g (T:=9) Tryz.underlying9 rfl rfl rfl ((bOp .and .u64 (u / 16) 15).toNat) opx (by first|omega|(simp only [List.length_cons,List.length_nil];omega)|(show _<36;omega))) (ix rfl (Z5 Tryz.underlying354 ty5 rfl rfl rfl 63 rfl rfl) (zrg 1 0 [0] [] [bx b [.int .u8 0,.int .u8 0,.int .u8 0,.int .u8 0,.int .u8 0,.int .u8 0,.int .u8 0,.int .u8 0,.int .u8 0,.int .u8 0,.int .u8 0,.int .u8 0,.int .u8 0,.int .u8 0,.int .u8 0,.int .u8 0,.int .u8 0,.int .u8 0,.int .u8 0,.int .u8 0,.int .u8 0,.int .u8 0,.int .u8 0,.int .u8 0,.int .u8 0,.int .u8 0,.int .u8 0,.int .u8 0,.int .u8 0,.int .u8 0,.int .u8 0,.int .u8 0,.int .u8 0,.int .u8 0,.int .u8 0,.int .u8 0,.int .u8 0,.int .u8 0,.int .u8 0,.int .u8 0,.int .u8 0,.int .u8 0,.int .u8 0,.int .u8 0,.int .u8 0,.int .u8 0,.int .u8 0,.int .u8 0,.int .u8 0,.int .u8 0,.int .u8 0,.int .u8 0,.int .u8 0,.int .u8 0,.int .u8 0,.int .u8 0,.int .u8 0,.int .u8 0,.int .u8 0,.int .u8 0,.int .u8 0,.int .u8 0,.int .u8 0,.int .u8 ((L9.getD ((bOp .and .u64 (u / 16) 15).toNat) 0).toNat:Int),.int .u8 ((L9.getD ((bOp .and .u64 u 15).toNat) 0).toNat:Int)] 354] ?_))))))))))))
   refine ie (A1 4 rfl (ip' 2 2 [(55,.int .u64 (u / 16)),(56,.int .u64 4)] ?_))
   refine ix rfl (Q8 (c:=(u / 16) / 16) rfl rfl rfl ozw (by simp [Int.fdiv_eq_ediv_of_nonneg,IntKind.bits])) (ip' 1 0 [(1,.int .u64 ((u / 16) / 16))] (A3 (F3 (A5 (sr 3 rfl (ip' 3 0 [(46,bv (decide ((16:Int)≤((u / 16) / 16))))] ?_))))))
   refine ie (W8 rfl (fun p=>?_) (fun p=>?_))
   ·have h:(16:Int)≤((u / 16) / 16):=by simpa using p
    refine A6 (nx (B4 (sr 3 rfl (ip' 1 2 [(47,iv 63)] (ix rfl (V9 (c:=62) rfl rfl rfl rfl ozw) (ip' 1 0 [(13,iv 62)] (ie (sr 7 rfl (ip' 4 3 [(49,iv 62),(52,.int .u64 (bOp .and .u64 ((u / 16) / 16) 15))] (ix rfl (A6g (T:=9) Tryz.underlying9 rfl rfl rfl ((bOp .and .u64 ((u / 16) / 16) 15).toNat) opx (by first|omega|(simp only [List.length_cons,List.length_nil];omega)|(show _<36;omega))) (ix rfl (Z5 Tryz.underlying354 ty5 rfl rfl rfl 62 rfl rfl) (zrg 1 0 [0] [] [bx b [.int .u8 0,.int .u8 0,.int .u8 0,.int .u8 0,.int .u8 0,.int .u8 0,.int .u8 0,.int .u8 0,.int .u8 0,.int .u8 0,.int .u8 0,.int .u8 0,.int .u8 0,.int .u8 0,.int .u8 0,.int .u8 0,.int .u8 0,.int .u8 0,.int .u8 0,.int .u8 0,.int .u8 0,.int .u8 0,.int .u8 0,.int .u8 0,.int .u8 0,.int .u8 0,.int .u8 0,.int .u8 0,.int .u8 0,.int .u8 0,.int .u8 0,.int .u8 0,.int .u8 0,.int .u8 0,.int .u8 0,.int .u8 0,.int .u8 0,.int .u8 0,.int .u8 0,.int .u8 0,.int .u8 0,.int .u8 0,.int .u8 0,.int .u8 0,.int .u8 0,.int .u8 0,.int .u8 0,.int .u8 0,.int .u8 0,.int .u8 0,.int .u8 0,.int .u8 0,.int .u8 0,.int .u8 0,.int .u8 0,.int .u8 0,.int .u8 0,.int .u8 0,.int .u8 0,.int .u8 0,.int .u8 0,.int .u8 0,.int .u8 ((L9.getD ((bOp .and .u64 ((u / 16) / 16) 15).toNat) 0).toNat:Int),.int .u8 ((L9.getD ((bOp .and .u64 (u / 16) 15).toNat) 0).toNat:Int),.int .u8 ((L9.getD ((bOp .and .u64 u 15).toNat) 0).toNat:Int)] 354] ?_))))))))))))
    refine ie (A1 4 rfl (ip' 2 2 [(55,.int .u64 ((u / 16) / 16)),(56,.int .u64 4)] ?_))
    refine ix rfl (Q8 (c:=((u / 16) / 16) / 16) rfl rfl rfl ozw (by simp [Int.fdiv_eq_ediv_of_nonneg,IntKind.bits])) (ip' 1 0 [(1,.int .u64 (((u / 16) / 16) / 16))] (A3 (F3 (A5 (sr 3 rfl (ip' 3 0 [(46,bv (decide ((16:Int)≤(((u / 16) / 16) / 16))))] ?_))))))
    refine ie (W8 rfl (fun m=>?_) (fun m=>?_))
    ·have r:(16:Int)≤(((u / 16) / 16) / 16):=by simpa using m
     refine A6 (nx (B4 (sr 3 rfl (ip' 1 2 [(47,iv 62)] (ix rfl (V9 (c:=61) rfl rfl rfl rfl ozw) (ip' 1 0 [(13,iv 61)] (ie (sr 7 rfl (ip' 4 3 [(49,iv 61),(52,.int .u64 (bOp .and .u64 (((u / 16) / 16) / 16) 15))] (ix rfl (A6g (T:=9) Tryz.underlying9 rfl rfl rfl ((bOp .and .u64 (((u / 16) / 16) / 16) 15).toNat) opx (by first|omega|(simp only [List.length_cons,List.length_nil];omega)|(show _<36;omega))) (ix rfl (Z5 Tryz.underlying354 ty5 rfl rfl rfl 61 rfl rfl) (zrg 1 0 [0] [] [bx b [.int .u8 0,.int .u8 0,.int .u8 0,.int .u8 0,.int .u8 0,.int .u8 0,.int .u8 0,.int .u8 0,.int .u8 0,.int .u8 0,.int .u8 0,.int .u8 0,.int .u8 0,.int .u8 0,.int .u8 0,.int .u8 0,.int .u8 0,.int .u8 0,.int .u8 0,.int .u8 0,.int .u8 0,.int .u8 0,.int .u8 0,.int .u8 0,.int .u8 0,.int .u8 0,.int .u8 0,.int .u8 0,.int .u8 0,.int .u8 0,.int .u8 0,.int .u8 0,.int .u8 0,.int .u8 0,.int .u8 0,.int .u8 0,.int .u8 0,.int .u8 0,.int .u8 0,.int .u8 0,.int .u8 0,.int .u8 0,.int .u8 0,.int .u8 0,.int .u8 0,.int .u8 0,.int .u8 0,.int .u8 0,.int .u8 0,.int .u8 0,.int .u8 0,.int .u8 0,.int .u8 0,.int .u8 0,.int .u8 0,.int .u8 0,.int .u8 0,.int .u8 0,.int .u8 0,.int .u8 0,.int .u8 0,.int .u8 ((L9.getD ((bOp .and .u64 (((u / 16) / 16) / 16) 15).toNat) 0).toNat:Int),.int .u8 ((L9.getD ((bOp .and .u64 ((u / 16) / 16) 15).toNat) 0).toNat:Int),.int .u8 ((L9.getD ((bOp .and .u64 (u / 16) 15).toNat) 0).toNat:Int),.int .u8 ((L9.getD ((bOp .and .u64 u 15).toNat) 0).toNat:Int)] 354] ?_))))))))))))
     refine ie (A1 4 rfl (ip' 2 2 [(55,.int .u64 (((u / 16) / 16) / 16)),(56,.int .u64 4)] ?_))
     refine ix rfl (Q8 (c:=(((u / 16) / 16) / 16) / 16) rfl rfl rfl ozw (by simp [Int.fdiv_eq_ediv_of_nonneg,IntKind.bits])) (ip' 1 0 [(1,.int .u64 ((((u / 16) / 16) / 16) / 16))] (A3 (F3 (A5 (sr 3 rfl (ip' 3 0 [(46,bv (decide ((16:Int)≤((((u / 16) / 16) / 16) / 16))))] ?_))))))
     refine ie (W8 rfl (fun k=>?_) (fun k=>?_))
     ·have n:(16:Int)≤((((u / 16) / 16) / 16) / 16):=by simpa using k
      refine A6 (nx (B4 (sr 3 rfl (ip' 1 2 [(47,iv 61)] (ix rfl (V9 (c:=60) rfl rfl rfl rfl ozw) (ip' 1 0 [(13,iv 60)] (ie (sr 7 rfl (ip' 4 3 [(49,iv 60),(52,.int .u64 (bOp .and .u64 ((((u / 16) / 16) / 16) / 16) 15))] (ix rfl (A6g (T:=9) Tryz.underlying9 rfl rfl rfl ((bOp .and .u64 ((((u / 16) / 16) / 16) / 16) 15).toNat) opx (by first|omega|(simp only [List.length_cons,List.length_nil];omega)|(show _<36;omega))) (ix rfl (Z5 Tryz.underlying354 ty5 rfl rfl rfl 60 rfl rfl) (zrg 1 0 [0] [] [bx b [.int .u8 0,.int .u8 0,.int .u8 0,.int .u8 0,.int .u8 0,.int .u8 0,.int .u8 0,.int .u8 0,.int .u8 0,.int .u8 0,.int .u8 0,.int .u8 0,.int .u8 0,.int .u8 0,.int .u8 0,.int .u8 0,.int .u8 0,.int .u8 0,.int .u8 0,.int .u8 0,.int .u8 0,.int .u8 0,.int .u8 0,.int .u8 0,.int .u8 0,.int .u8 0,.int .u8 0,.int .u8 0,.int .u8 0,.int .u8 0,.int .u8 0,.int .u8 0,.int .u8 0,.int .u8 0,.int .u8 0,.int .u8 0,.int .u8 0,.int .u8 0,.int .u8 0,.int .u8 0,.int .u8 0,.int .u8 0,.int .u8 0,.int .u8 0,.int .u8 0,.int .u8 0,.int .u8 0,.int .u8 0,.int .u8 0,.int .u8 0,.int .u8 0,.int .u8 0,.int .u8 0,.int .u8 0,.int .u8 0,.int .u8 0,.int .u8 0,.int .u8 0,.int .u8 0,.int .u8 0,.int .u8 ((L9.getD ((bOp .and .u64 ((((u / 16) / 16) / 16) / 16) 15).toNat) 0).toNat:Int),.int .u8 ((L9.getD ((bOp .and .u64 (((u / 16) / 16) / 16) 15).toNat) 0).toNat:Int),.int .u8 ((L9.getD ((bOp .and .u64 ((u / 16) / 16) 15).toNat) 0).toNat:Int),.int .u8 ((L9.getD ((bOp .and .u64 (u / 16) 15).toNat) 0).toNat:Int),.int .u8 ((L9.getD ((bOp .and .u64 u 15).toNat) 0).toNat:Int)] 354] ?_))))))))))))
      refine ie (A1 4 rfl (ip' 2 2 [(55,.int .u64 ((((u / 16) / 16) / 16) / 16)),(56,.int .u64 4)] ?_))
      refine ix rfl (Q8 (c:=((((u / 16) / 16) / 16) / 16) / 16) rfl rfl rfl ozw (by simp [Int.fdiv_eq_ediv_of_nonneg,IntKind.bits])) (ip' 1 0 [(1,.int .u64 (((((u / 16) / 16) / 16) / 16) / 16))] (A3 (F3 (A5 (sr 3 rfl (ip' 3 0 [(46,bv (decide ((16:Int)≤(((((u / 16) / 16) / 16) / 16) / 16))))] ?_))))))
      refine ie (W8 rfl (fun w=>?_) (fun w=>?_))
      ·have l:(16:Int)≤(((((u / 16) / 16) / 16) / 16) / 16):=by simpa using w
       refine A6 (nx (B4 (sr 3 rfl (ip' 1 2 [(47,iv 60)] (ix rfl (V9 (c:=59) rfl rfl rfl rfl ozw) (ip' 1 0 [(13,iv 59)] (ie (sr 7 rfl (ip' 4 3 [(49,iv 59),(52,.int .u64 (bOp .and .u64 (((((u / 16) / 16) / 16) / 16) / 16) 15))] (ix rfl (A6g (T:=9) Tryz.underlying9 rfl rfl rfl ((bOp .and .u64 (((((u / 16) / 16) / 16) / 16) / 16) 15).toNat) opx (by first|omega|(simp only [List.length_cons,List.length_nil];omega)|(show _<36;omega))) (ix rfl (Z5 Tryz.underlying354 ty5 rfl rfl rfl 59 rfl rfl) (zrg 1 0 [0] [] [bx b [.int .u8 0,.int .u8 0,.int .u8 0,.int .u8 0,.int .u8 0,.int .u8 0,.int .u8 0,.int .u8 0,.int .u8 0,.int .u8 0,.int .u8 0,.int .u8 0,.int .u8 0,.int .u8 0,.int .u8 0,.int .u8 0,.int .u8 0,.int .u8 0,.int .u8 0,.int .u8 0,.int .u8 0,.int .u8 0,.int .u8 0,.int .u8 0,.int .u8 0,.int .u8 0,.int .u8 0,.int .u8 0,.int .u8 0,.int .u8 0,.int .u8 0,.int .u8 0,.int .u8 0,.int .u8 0,.int .u8 0,.int .u8 0,.int .u8 0,.int .u8 0,.int .u8 0,.int .u8 0,.int .u8 0,.int .u8 0,.int .u8 0,.int .u8 0,.int .u8 0,.int .u8 0,.int .u8 0,.int .u8 0,.int .u8 0,.int .u8 0,.int .u8 0,.int .u8 0,.int .u8 0,.int .u8 0,.int .u8 0,.int .u8 0,.int .u8 0,.int .u8 0,.int .u8 0,.int .u8 ((L9.getD ((bOp .and .u64 (((((u / 16) / 16) / 16) / 16) / 16) 15).toNat) 0).toNat:Int),.int .u8 ((L9.getD ((bOp .and .u64 ((((u / 16) / 16) / 16) / 16) 15).toNat) 0).toNat:Int),.int .u8 ((L9.getD ((bOp .and .u64 (((u / 16) / 16) / 16) 15).toNat) 0).toNat:Int),.int .u8 ((L9.getD ((bOp .and .u64 ((u / 16) / 16) 15).toNat) 0).toNat:Int),.int .u8 ((L9.getD ((bOp .and .u64 (u / 16) 15).toNat) 0).toNat:Int),.int .u8 ((L9.getD ((bOp .and .u64 u 15).toNat) 0).toNat:Int)] 354] ?_))))))))))))
       refine ie (A1 4 rfl (ip' 2 2 [(55,.int .u64 (((((u / 16) / 16) / 16) / 16) / 16)),(56,.int .u64 4)] ?_))
       refine ix rfl (Q8 (c:=(((((u / 16) / 16) / 16) / 16) / 16) / 16) rfl rfl rfl ozw (by simp [Int.fdiv_eq_ediv_of_nonneg,IntKind.bits])) (ip' 1 0 [(1,.int .u64 ((((((u / 16) / 16) / 16) / 16) / 16) / 16))] (A3 (F3 (A5 (sr 3 rfl (ip' 3 0 [(46,bv (decide ((16:Int)≤((((((u / 16) / 16) / 16) / 16) / 16) / 16))))] ?_))))))
       refine ie (W8 rfl (fun j=>?_) (fun j=>?_))
       ·have v:(16:Int)≤((((((u / 16) / 16) / 16) / 16) / 16) / 16):=by simpa using j
        exfalso;omega
       have v:¬ ((16:Int)≤((((((u / 16) / 16) / 16) / 16) / 16) / 16)):=by simpa using j
       refine H3 (nx (sr 3 rfl (ip' 1 2 [(58,iv 59)] ?_)))
       refine ix rfl (V9 (c:=58) rfl rfl rfl rfl ozw) (ip' 1 0 [(13,iv 58)] (ie (A1 5 rfl (ip' 2 3 [(60,iv 58),(61,.int .u64 ((((((u / 16) / 16) / 16) / 16) / 16) / 16))] (ix rfl (A6g (T:=9) Tryz.underlying9 rfl rfl rfl (((((((u / 16) / 16) / 16) / 16) / 16) / 16).toNat) opx (by first|omega|(simp only [List.length_cons,List.length_nil];omega)|(show _<36;omega))) (ix rfl (Z5 Tryz.underlying354 ty5 rfl rfl rfl 58 rfl rfl) (zrg 1 0 [0] [] [bx b [.int .u8 0,.int .u8 0,.int .u8 0,.int .u8 0,.int .u8 0,.int .u8 0,.int .u8 0,.int .u8 0,.int .u8 0,.int .u8 0,.int .u8 0,.int .u8 0,.int .u8 0,.int .u8 0,.int .u8 0,.int .u8 0,.int .u8 0,.int .u8 0,.int .u8 0,.int .u8 0,.int .u8 0,.int .u8 0,.int .u8 0,.int .u8 0,.int .u8 0,.int .u8 0,.int .u8 0,.int .u8 0,.int .u8 0,.int .u8 0,.int .u8 0,.int .u8 0,.int .u8 0,.int .u8 0,.int .u8 0,.int .u8 0,.int .u8 0,.int .u8 0,.int .u8 0,.int .u8 0,.int .u8 0,.int .u8 0,.int .u8 0,.int .u8 0,.int .u8 0,.int .u8 0,.int .u8 0,.int .u8 0,.int .u8 0,.int .u8 0,.int .u8 0,.int .u8 0,.int .u8 0,.int .u8 0,.int .u8 0,.int .u8 0,.int .u8 0,.int .u8 0,.int .u8 ((L9.getD (((((((u / 16) / 16) / 16) / 16) / 16) / 16).toNat) 0).toNat:Int),.int .u8 ((L9.getD ((bOp .and .u64 (((((u / 16) / 16) / 16) / 16) / 16) 15).toNat) 0).toNat:Int),.int .u8 ((L9.getD ((bOp .and .u64 ((((u / 16) / 16) / 16) / 16) 15).toNat) 0).toNat:Int),.int .u8 ((L9.getD ((bOp .and .u64 (((u / 16) / 16) / 16) 15).toNat) 0).toNat:Int),.int .u8 ((L9.getD ((bOp .and .u64 ((u / 16) / 16) 15).toNat) 0).toNat:Int),.int .u8 ((L9.getD ((bOp .and .u64 (u / 16) 15).toNat) 0).toNat:Int),.int .u8 ((L9.getD ((bOp .and .u64 u 15).toNat) 0).toNat:Int)] 354] (A3 (nx (A5 (sr 1 rfl (ip' 1 0 [(89,bv a)] ?_))))))))))))
       refine ie (W8 rfl (fun f=>?_) (fun f=>?_))
       ·exfalso;rw [d] at f;cases f
       refine A6 (nx (A5 (sr 1 rfl (ip' 1 0 [(94,bv append)] ?_))))
       refine ie (W8 rfl (fun e=>?_) (fun e=>?_))
       ·exfalso;rw [g] at e;cases e
       refine A6 (nx (sr 4 rfl (ip' 1 3 [(99,iv 58)] ?_)))
       refine A1s 0 rfl ?_
       refine D7 (q:=sl cU8 (some (Addr.add ⟨b,0,none⟩ (58 * 1))) ([(L9.getD (((((((u / 16) / 16) / 16) / 16) / 16) / 16).toNat) 0),(L9.getD ((bOp .and .u64 (((((u / 16) / 16) / 16) / 16) / 16) 15).toNat) 0),(L9.getD ((bOp .and .u64 ((((u / 16) / 16) / 16) / 16) 15).toNat) 0),(L9.getD ((bOp .and .u64 (((u / 16) / 16) / 16) 15).toNat) 0),(L9.getD ((bOp .and .u64 ((u / 16) / 16) 15).toNat) 0),(L9.getD ((bOp .and .u64 (u / 16) 15).toNat) 0),(L9.getD ((bOp .and .u64 u 15).toNat) 0)]:List UInt8)) (A3p (B1 0 rfl) 58 7 rfl) ?_
       refine ix rfl (D0m Tryz.underlying354 ty5 rfl rfl rfl 58 rfl ozw) ?_
       have:([(L9.getD (((((((u / 16) / 16) / 16) / 16) / 16) / 16).toNat) 0),(L9.getD ((bOp .and .u64 (((((u / 16) / 16) / 16) / 16) / 16) 15).toNat) 0),(L9.getD ((bOp .and .u64 ((((u / 16) / 16) / 16) / 16) 15).toNat) 0),(L9.getD ((bOp .and .u64 (((u / 16) / 16) / 16) 15).toNat) 0),(L9.getD ((bOp .and .u64 ((u / 16) / 16) 15).toNat) 0),(L9.getD ((bOp .and .u64 (u / 16) 15).toNat) 0),(L9.getD ((bOp .and .u64 u 15).toNat) 0)]:List UInt8).length=7:=rfl
       refine ix rfl (B9p Tryz.underlying9 Tryz.underlying67 rfl rfl (B1 0 rfl) rfl okl) ?_
       have:([(L9.getD (((((((u / 16) / 16) / 16) / 16) / 16) / 16).toNat) 0),(L9.getD ((bOp .and .u64 (((((u / 16) / 16) / 16) / 16) / 16) 15).toNat) 0),(L9.getD ((bOp .and .u64 ((((u / 16) / 16) / 16) / 16) 15).toNat) 0),(L9.getD ((bOp .and .u64 (((u / 16) / 16) / 16) 15).toNat) 0),(L9.getD ((bOp .and .u64 ((u / 16) / 16) 15).toNat) 0),(L9.getD ((bOp .and .u64 (u / 16) 15).toNat) 0),(L9.getD ((bOp .and .u64 u 15).toNat) 0)]:List UInt8).length=7:=rfl
       refine ip' 1 0 [(11,sv ([(L9.getD (((((((u / 16) / 16) / 16) / 16) / 16) / 16).toNat) 0),(L9.getD ((bOp .and .u64 (((((u / 16) / 16) / 16) / 16) / 16) 15).toNat) 0),(L9.getD ((bOp .and .u64 ((((u / 16) / 16) / 16) / 16) 15).toNat) 0),(L9.getD ((bOp .and .u64 (((u / 16) / 16) / 16) 15).toNat) 0),(L9.getD ((bOp .and .u64 ((u / 16) / 16) 15).toNat) 0),(L9.getD ((bOp .and .u64 (u / 16) 15).toNat) 0),(L9.getD ((bOp .and .u64 u 15).toNat) 0)]:List UInt8))] ?_
       subst hR
       refine ie (A8 ?_)
       exact A8m hr hD
      have l:¬ ((16:Int)≤(((((u / 16) / 16) / 16) / 16) / 16)):=by simpa using w
      exfalso;omega
     have n:¬ ((16:Int)≤((((u / 16) / 16) / 16) / 16)):=by simpa using k
     exfalso;omega
    have r:¬ ((16:Int)≤(((u / 16) / 16) / 16)):=by simpa using m
    exfalso;omega
   have h:¬ ((16:Int)≤((u / 16) / 16)):=by simpa using p
   exfalso;omega
  have o:¬ ((16:Int)≤(u / 16)):=by simpa using i
  exfalso;omega
 have t:¬ ((16:Int)≤u):=by simpa using s
 exfalso;omega
def Z6 (i:Int):List UInt8 :=
 (C9 (X9 i (decide (i<0)) false) fun (a:List UInt8)=>a)
theorem A7z {i:Int} {R:List UInt8} (hR:Z6 i=R) (d:16777216≤i∧i≤33554431:=by exact om_):G3 Tryz.prog 287 [iv i,iv 16] [O4] (sv R):=by
 refine zce Tryz.func287 fun X hX hr hD=>?_
 replace hR:=(Z6.eq_1 ..).symm.trans hR
 refine sR_ rfl (pp0 1 rfl (ie (A5 (sR_ rfl (pp1 2 11 rfl (ie (A0f rfl (A6 (nx (sR_ rfl (pp1 1 45 rfl (ix rfl (B1y (c:=i) Tryz.underlying329 okl rfl rfl (A1b (by first|(simp [IntKind.min,IntKind.signed,IntKind.bits];omega)|(simp [IntKind.max,IntKind.signed,IntKind.bits];omega)) (by first|(simp [IntKind.min,IntKind.signed,IntKind.bits];omega)|(simp [IntKind.max,IntKind.signed,IntKind.bits];omega)))) (pp2 3 47 49 rfl ?_)))))))))))))
 have e:=D0 hR;clear hR;obtain ⟨b,a,hR⟩:=e
 refine zv rfl (A7f i (decide (i<0)) false odv (by simp;omega) opx b a) (pp1 5 9 rfl (ie (sR_ rfl (pp1 2 4 rfl ?_))))
 subst hR
 refine ie (A8 ?_)
 exact E9 hr hD
def A2r (i:Int):List UInt8 :=
 (C9 (Z6 i) fun (a:List UInt8)=>a)
theorem A6f (i:Int):(A2r i).length=7:=rfl
theorem B6m {i:Int} {R:List UInt8} (hR:A2r i=R) (c:16777216≤i∧i≤33554431:=by exact om_):G3 Tryz.prog 248 [iv i,iv 16] [O4] (sv R):=by
 refine zce Tryz.func248 fun X hX hr hD=>?_
 replace hR:=(A2r.eq_1 ..).symm.trans hR
 refine sR_ rfl (pp0 1 rfl (ie (sR_ rfl (pp2 2 5 6 rfl ?_))))
 have d:=D0 hR;clear hR;obtain ⟨b,a,hR⟩:=d
 refine zv rfl (A7z a) (pp1 1 4 rfl ?_)
 subst hR
 refine ie (A8 ?_)
 exact E9 hr hD
theorem E4k {n:Int} (h:0≤n∧n≤16777215):bOp .or .i64 n 16777216=n+16777216:=by
 obtain ⟨m,rfl⟩:∃ m:Nat,n=m:=⟨n.toNat,by omega⟩
 have a:m<16777216:=by omega
 have e:((BitVec.ofInt 64 (m:Int)) ||| (BitVec.ofInt 64 16777216)).toNat=m+16777216:=by
  rw [BitVec.toNat_or,BitVec.ofInt_natCast,BitVec.toNat_ofNat,Nat.mod_eq_of_lt opx]
  show m ||| 16777216=_
  have:=Nat.two_pow_add_eq_or_of_lt (i:=24) (b:=m) opx 1
  rw [show 2 ^ 24 * 1=16777216 by decide] at this
  rw [Nat.or_comm];omega
 show IntKind.i64.wrap (((BitVec.ofInt 64 (m:Int)) ||| (BitVec.ofInt 64 16777216)).toNat:Int)=_
 rw [e]
 exact (A1b (by show (-9223372036854775808:Int)≤_;omega) (by show _≤(9223372036854775807:Int);omega)).trans opx
def B0e (c:Col):List UInt8×Int :=
 (bif (!decide ((N7 c)=0)) then (([]:List UInt8),(N7 c)) else (C9 (A6h c) fun (a:Int×Bool)=>(bif (!a.2) then (([]:List UInt8),2) else (C9 (A2r (bOp .or .i64 a.1 16777216)) fun (b:List UInt8)=>((((((([114,103,98,58]:List UInt8)++((b.drop 1).take 2))++([47]:List UInt8))++(((b.drop 1).drop 2).take (4 - 2)))++([47]:List UInt8))++((b.drop 1).drop 4)),0)))))
theorem B5k (c:Col):(B0e c).1.length≤40:=by
 unfold B0e C9
 simp only [Bool.cond_eq_ite]
 repeat' split
 ·exact Nat.zero_le _
 ·exact Nat.zero_le _
 ·have:=A6f (bOp .or .i64 (A6h c).1 16777216)
  simp only [List.length_append,List.length_cons,List.length_nil,List.length_take,List.length_drop]
  omega
theorem C9b {c:Col} {R:List UInt8×Int} (hR:B0e c=R):G3 Tryz.prog 193 [ag (U0 c)] [P0,O4] (.tuple #[sv R.1,iv R.2]):=by
 refine zce Tryz.func193 fun X hX hr hD=>?_
 replace hR:=(B0e.eq_1 ..).symm.trans hR
 refine sR_ rfl (H9 3 0 [] (fun e=>[(1,pt e 0)]) (fun e=>[bx e (U0 c) 33]) (fun e=>(ie (A5 (sR_ rfl (zrl 1 2 [0] [(8,ag (U0 c))] (zv rfl (Y7 rfl) (pp1 1 4 rfl (ie (sR_ rfl (pp1 2 11 rfl (ie ?_))))))))))))
 refine zjn rfl hR ?_ ?_<;>clear hR<;>intro hR j h
 ·refine sR_ rfl (pp2 3 2 3 rfl ?_)
  subst hR
  refine ie (A8 ?_)
  exact A8m hr hD
 refine A6 (nx (sR_ rfl (zrl 1 6 [0] [(14,ag (U0 c))] ?_)))
 have g:=D0 hR;clear hR;obtain ⟨f,a,hR⟩:=g
 refine zv rfl (C9r a) ?_
 have:=C8x c;try rw [a] at this
 refine pp2 5 5 6 rfl (ie (A5 (sR_ rfl (pp1 2 19 rfl (ie ?_)))))
 refine zjb rfl hR ?_ ?_<;>clear hR<;>intro hR i
 ·refine sR_ rfl (pp2 2 2 3 rfl ?_)
  subst hR
  refine ie (A8 ?_)
  exact A8m hr hD
 refine A6 (nx (sR_ rfl (pp1 2 21 rfl ?_)))
 have g:=D0 hR;clear hR;obtain ⟨b,d,hR⟩:=g
 refine zv rfl (B6m d (by first|omega|(rw [E4k opx];omega))) ?_
 have:=A6f (bOp .or .i64 f.1 16777216);try rw [d] at this
 refine ix rfl (B6u (T:=9) Tryz.underlying9 rfl rfl rfl 1 rfl opx) ?_
 have:=@List.length_drop _ 1 b
 refine pp1 1 7 rfl (ie (sd 13 rfl okl rfl (pd1 1 24 rfl (dd rfl (B5l (T:=9) Tryz.underlying9 rfl rfl rfl 2 rfl opx) ?_))))
 have:=@List.length_drop _ 1 b
 have:=@List.length_take _ 2 (b.drop 1)
 refine dd rfl (zst rfl rfl rfl) (dd rfl (zst rfl rfl rfl) (pd1 1 28 rfl (dd rfl (D1s (T:=9) Tryz.underlying9 rfl rfl rfl rfl 2 rfl 4 rfl opx opx) ?_)))
 have:=@List.length_drop _ 1 b
 have:=@List.length_drop _ 2 (b.drop 1)
 have:=@List.length_take _ (4 - 2) ((b.drop 1).drop 2)
 refine dd rfl (zst rfl rfl rfl) (dd rfl (zst rfl rfl rfl) (pd1 1 32 rfl (dd rfl (B6u (T:=9) Tryz.underlying9 rfl rfl rfl 4 rfl opx) ?_)))
 have:=@List.length_drop _ 1 b
 have:=@List.length_drop _ 4 (b.drop 1)
 refine dd rfl (zst rfl rfl rfl) (pd2 2 2 3 rfl ?_)
 subst hR
 refine de (A8 ?_)
 exact A8m hr hD
def A8y (a:Act):Option (List UInt8) :=
 (Option.bind (B2h a ({Act.zero with kind:=a.kind,n:=a.n,color:=a.color})) fun (r:Unit)=>(C9 (B0e a.color) fun (b:List UInt8×Int)=>(Option.bind (A2f ((((decide (b.2=0))&&(decide (a.color.kind=2)))&&(decide ((0:Int)≤a.n)))&&(decide (a.n≤255)))) fun (c:Unit)=>(some (((([52,59]:List UInt8)++(Lib.itoa a.n))++([59]:List UInt8))++b.1)))))
theorem C6c {a:Act} {R:Option (List UInt8)} (hR:A8y a=R):B8x Tryz.prog 192 [ag (A2 a)] [] [P0,O4,K0] Y8 R (fun r=>sv r):=by
 refine A3q (n:=46) Tryz.func192 rfl okl rfl rfl [(0,ag (A2 a))] ⟨rfl,trivial⟩ fun X hX hr hD=>?_
 replace hR:=(A8y.eq_1 ..).symm.trans hR
 refine sR_ rfl (H9 2 0 [] (fun c=>[(1,pt c 0)]) (fun c=>[bx c (A2 a) 56]) (fun c=>(ie (sR_ rfl (zrl 8 1 [0,0,0,0] [(5,ag (A2 a)),(12,ag (A2 ({Act.zero with kind:=a.kind,n:=a.n,color:=a.color})))] ?_)))))
 refine X4 (L2:=[bx c (A2 a) 56]) (B5e rfl) rfl rfl rfl rfl rfl rfl fn0 (List.Perm.refl _) (fun r f=>?_) (fun g=>?_)
 ·replace hR:=A8e hR f
  refine ie (sR_ rfl (zrl 2 6 [0] [(16,ag (U0 a.color))] ?_))
  have p:=D0 hR;clear hR;obtain ⟨q,b,hR⟩:=p
  refine zv rfl (C9b b) ?_
  have:=B5k a.color;try rw [b] at this
  refine pp2 5 3 4 rfl (ie (sR_ rfl (pp1 3 22 rfl ?_)))
  refine zid 5 11 22 27 (decide (a.color.kind=2)) (fun o l=>?_) ?_
  ·refine pl1 5 [0] 27 rfl ?_
   exact zai 2 22 27 o
  refine pp1 1 28 rfl ?_
  refine zia 4 6 28 32 (decide ((0:Int)≤a.n)) (fun j=>?_) ?_
  ·have m:=bq_ j
   refine pl1 4 [0] 32 rfl ?_
   exact zai 2 28 32 j
  refine pp1 1 33 rfl ?_
  refine zia 4 1 33 37 (decide (a.n≤255)) (fun i=>?_) ?_
  ·have k:=bq_ i
   refine pl1 4 [0] 37 rfl ?_
   exact zai 2 33 37 i
  refine X4 (L2:=[bx c (A2 a) 56]) (A1o rfl) rfl rfl rfl rfl rfl rfl fn0 (List.Perm.refl _) (fun s d=>?_) (fun h=>?_)
  ·replace hR:=A8e hR d
   have e:=S1 d;try simp only [Bool.and_eq_true,decide_eq_true_eq] at e
   refine ie (sR_ rfl (pl1 2 [0] 40 rfl (zv rfl (D8j a.n (by first|omega|(exact ⟨by omega,by omega⟩))) ?_)))
   have:=C0l a.n opx opx
   refine ix rfl (zst rfl rfl rfl) (ix rfl (zst rfl rfl rfl) (pp1 1 44 rfl (ix rfl (zst rfl rfl rfl) (pp1 1 2 rfl (ie (A8 ?_))))))
   exact A9f rfl ⟨hr,hD⟩ (by simp [hD]) (O3 rfl (B9 rfl)) hR.symm rfl
  ·replace hR:=A8b hR h
   exact O6 ⟨hr,hD⟩ hR.symm
 ·replace hR:=A8b hR g
  exact O6 ⟨hr,hD⟩ hR.symm
def A1q (d:Int) (c:Int) (a:Col) (b:List UInt8):Option (List UInt8) :=
 (Option.bind (A2f true) fun (r:Unit)=>(Option.bind (A8y (⟨45,d,c,a,b⟩:Act)) fun (e:List UInt8)=>(some e)))
theorem C3o {d e:Int} {b:Col} {a:List UInt8} {c:Addr} {R:Option (List UInt8)} (hR:A1q d e b a=R) (o:a.length≤100000000:=by exact om_):B8x Tryz.prog 120 [pa c] [] [at_ c (A2 (⟨45,d,e,b,a⟩:Act)),P0,O4,K0] Y8 R (fun r=>sv r):=by
 refine A3q (n:=16) Tryz.func120 rfl okl rfl rfl [(0,pa c)] ⟨rfl,trivial⟩ fun X hX hr hD=>?_
 replace hR:=(A1q.eq_1 ..).symm.trans hR
 refine sR_ rfl (pp0 1 rfl (ie (sh 9 [] [at_ c (A2 (⟨45,d,e,b,a⟩:Act)),P0,O4,K0] [] (zml 9 0) okl rfl okl okl okl sb_ B0.refl ?_)))
 refine zhp [1] 8 (zml 9 2) [(6,pa c)] ?_
 refine zhk 2 (zml 9 6) rfl (D6 ty3 rfl rfl (S3 (B1 0 rfl) (ws:=[iv 45]) 1 rfl) rfl) ?_
 refine zho 0 [] (zml 9 7) rfl (C8 (L2:=[]) (B3u rfl) rfl rfl rfl rfl rfl fn0 (List.Perm.refl _) (fun f=>[(f,.map #[⟨iv 44,.func (.func 189) #[] #[],0⟩,⟨iv 45,.func (.func 192) #[] #[],1⟩,⟨iv 46,.func (.func 195) #[] #[],2⟩] 3)]) (fun _=>rfl)) (fun f=>sb_) (fun f=>B0.refl) fun f=>?_
 refine zho 3 [] (zml 9 15) rfl (Det.tri (G7.det (X3 (v:=.func (.func 192) #[] #[]) (j:=1) C8n rfl rfl rfl 0 rfl okl))) (fun _=>sb_) (fun _=>B0.refl) fun _=>?_
 refine zhp [4,5,6,7,8] 0 (zml 9 511) [(2,.func (.func 192) #[] #[]),(3,bv true)] ?_
 refine A3w okl ?_
 refine sR_ rfl (pp1 1 11 rfl ?_)
 refine X4 (L2:=[(f,.map #[⟨iv 44,.func (.func 189) #[] #[],0⟩,⟨iv 45,.func (.func 192) #[] #[],1⟩,⟨iv 46,.func (.func 195) #[] #[],2⟩] 3)]) (A1o rfl) rfl rfl rfl rfl rfl rfl fn0 (List.Perm.refl _) (fun r g=>?_) (fun l=>?_)
 ·replace hR:=A8e hR g
  have h:=S1 g;try simp only [Bool.and_eq_true,decide_eq_true_eq] at h
  refine ie (sR_ rfl (ip' 1 3 [(13,.func (.func 192) #[] #[])] (ix rfl (L8 (us:=A2 (⟨45,d,e,b,a⟩:Act)) B5a rfl rfl (B1 0 rfl) rfl) ?_)))
  refine X4 (L2:=[(f,.map #[⟨iv 44,.func (.func 189) #[] #[],0⟩,⟨iv 45,.func (.func 192) #[] #[],1⟩,⟨iv 46,.func (.func 195) #[] #[],2⟩] 3)]) (C6c rfl) rfl rfl rfl rfl rfl rfl fo_ (List.Perm.refl _) (fun m i=>?_) (fun k=>?_)
  ·replace hR:=A8e hR i
   refine pp1 1 1 rfl (ie (A8 ?_))
   exact A9f rfl ⟨hr,hD⟩ (by simp [hD]) (O3 rfl (B9 rfl)) hR.symm rfl
  ·replace hR:=A8b hR k
   exact O6 ⟨hr,hD⟩ hR.symm
 ·replace hR:=A8b hR l
  exact O6 ⟨hr,hD⟩ hR.symm
def A6p (an:Int) (am:Int) (acolor:Col) (atext:List UInt8):List UInt8×Int :=
 (bif (!((A8i (A1q an am acolor atext)).2)) then (([]:List UInt8),2) else ((A8i (A1q an am acolor atext)).1,0))
theorem A9x (an am:Int) (c:Col) (t:List UInt8):(A6p an am c t).1.length≤t.length+6000:=by
 have b:∀ s,A1q an am c t=some s→s.length≤t.length+6000:=by
  intro s h
  unfold A1q A8y at h
  simp only [Option.bind_eq_some_iff,Option.some.injEq] at h
  obtain ⟨_,_,f,⟨_,_,a⟩,e⟩:=h
  unfold C9 at a
  simp only [Option.bind_eq_some_iff,Option.some.injEq] at a
  obtain ⟨_,d,a⟩:=a
  have d:=S1 d
  simp only [Bool.and_eq_true,decide_eq_true_eq] at d
  have:=B5k c
  have:=C0l an opx opx
  rw [← e,← a]
  simp only [List.length_append,List.length_cons,List.length_nil]
  omega
 unfold A6p
 cases hR:A1q an am c t with
 | none=>simp [A8i]
 | some s=>have:=b s hR;simp [A8i];omega
theorem B9z {an am:Int} {acolor:Col} {atext:List UInt8} {R:List UInt8×Int} (hR:A6p an am acolor atext=R) (c:atext.length≤100000000:=by exact om_):G3 Tryz.prog 37 [ag (A2 (⟨45,an,am,acolor,atext⟩:Act))] [P0,O4,K0] (.tuple #[sv R.1,iv R.2]):=by
 refine zce Tryz.func37 fun X hX hr hD=>?_
 replace hR:=(A6p.eq_1 ..).symm.trans hR
 refine sR_ rfl (it rfl (X7 (cs:=A2 (⟨45,an,am,acolor,atext⟩:Act)) rfl rfl rfl) fun a=>?_)
 refine A1s 0 rfl ?_
 refine pp0 2 rfl (ie (sR_ rfl (ip' 1 6 [(7,.func (.func 120) #[] #[pa ⟨a,0,none⟩])] (zv rfl (D2j (cap:=[pa ⟨a,0,none⟩]) _ (C3o rfl)) (pp2 5 4 5 rfl (ie (A5 (sR_ rfl (pp1 2 12 rfl (ie ?_))))))))))
 refine zjb rfl hR ?_ ?_<;>clear hR<;>intro hR b
 ·refine sR_ rfl (pp2 2 2 3 rfl ?_)
  subst hR
  refine ie (A8 ?_)
  exact A8m hr hD
 refine A6 (nx (sR_ rfl (pp2 3 2 3 rfl ?_)))
 subst hR
 refine ie (A8 ?_)
 exact A8m hr hD
def A2i (an:Int) (am:Int) (acolor:Col) (atext:List UInt8):List UInt8 :=
 (C9 (A6p an am acolor atext) fun (a:List UInt8×Int)=>((([27,93]:List UInt8)++a.1)++([27,92]:List UInt8)))
theorem B9b (an:Int) (am:Int) (acolor:Col) (atext:List UInt8) (e:atext.length≤100000000) (R:List UInt8) (hR:A2i an am acolor atext=R):G3 Tryz.prog 94 [ag (A2 (⟨45,an,am,acolor,atext⟩:Act))] [P0,O4,K0] (sv R):=by
 refine zco Tryz.func94 [(0,ag (A2 (⟨45,an,am,acolor,atext⟩:Act)))] fun X hX hr hD=>?_
 replace hR:=(A2i.eq_1 ..).symm.trans hR
 refine sr 2 rfl (H9 2 0 [] (fun b=>[(1,pt b 0)]) (fun b=>[bx b (A2 (⟨45,an,am,acolor,atext⟩:Act)) 56]) (fun b=>(ie (sr 7 rfl (zrl 1 6 [0] [(6,ag (A2 (⟨45,an,am,acolor,atext⟩:Act)))] ?_)))))
 have d:=D0 hR;clear hR;obtain ⟨c,a,hR⟩:=d
 refine zca (B9z (an:=an) (am:=am) (acolor:=acolor) (atext:=atext) a osj) B0.refl ?_
 have:=A9x an am acolor atext;try rw [a] at this
 refine ip' 5 0 [(3,sv c.1)] (ie (sr 4 rfl (ip' 1 3 [(10,sv c.1)] (ix rfl (zst rfl rfl rfl) (ix rfl (zst rfl rfl rfl) (ip' 1 0 [(2,sv ((([27,93]:List UInt8)++c.1)++([27,92]:List UInt8)))] ?_))))))
 subst hR
 refine ie (A8 ?_)
 exact E9 hr hD
def A3u (w r:Int):Prop:=(w=0∧r=0)∨(w=2∧0≤r∧r<4)∨(w=4∧0≤r∧r<16)∨(w=6∧0≤r∧r<64)∨(w=8∧0≤r∧r<256)∨(w=10∧0≤r∧r<1024)∨(w=12∧0≤r∧r<4096)
theorem or8:∀ a<16,∀ n<256,bOp .or .i64 (((a:Nat):Int) * 256) ((n:Nat):Int)=((a:Nat):Int) * 256+((n:Nat):Int):=by decide +kernel
theorem E3b:∀ a<64,∀ b<64,bOp .and .i64 ((a * 64+b:Nat):Int) 63=((b:Nat):Int):=by decide +kernel
theorem E4s (a:Nat) (h:a<4096):bOp .and .i64 ((a:Nat):Int) 63=((a:Nat):Int) % 64:=by
 have:=E3b (a / 64) opx (a % 64) opx
 rw [show a / 64 * 64+a % 64=a by omega] at this
 rw [this];omega
theorem E4l:∀ a<1024,bOp .and .i64 ((a:Nat):Int) 15=((a:Nat):Int) % 16:=by decide +kernel
theorem E4t:∀ a<256,bOp .and .i64 ((a:Nat):Int) 3=((a:Nat):Int) % 4:=by decide +kernel
theorem E4i:∀ a<64,bOp .and .i64 ((a:Nat):Int) 0=0:=by decide +kernel
theorem D8g {p1 p3 n:Int} (h:A3u p3 p1) (c:p3≤4) (b:0≤n∧n≤255):A3u (p3+8) (bOp .or .i64 (p1 * 256) n):=by
 obtain ⟨m,rfl⟩:∃ m:Nat,n=m:=⟨n.toNat,by omega⟩
 unfold A3u at h
 obtain ⟨a,rfl⟩:∃ a:Nat,p1=a:=⟨p1.toNat,by omega⟩
 rw [or8 a opx m opx]
 unfold A3u;omega
theorem E2i {a b:Int} (h:A3u b a) (c:6≤b):0≤Int.fdiv a (2 ^ (min ((b - 6)).toNat 64))∧Int.fdiv a (2 ^ (min ((b - 6)).toNat 64))<64:=by
 unfold A3u at h
 rw [Int.fdiv_eq_ediv_of_nonneg _ (Int.pow_nonneg ozw)]
 rcases h with h | h | h | h | h | h | h
 ·omega
 ·omega
 ·omega
 ·rw [h.1];show 0≤a / 1∧a / 1<64;omega
 ·rw [h.1];show 0≤a / 4∧a / 4<64;omega
 ·rw [h.1];show 0≤a / 16∧a / 16<64;omega
 ·rw [h.1];show 0≤a / 64∧a / 64<64;omega
theorem E2o {b a:Int} (h:A3u a b):1≤IntKind.i64.wrap ((1:Int) * 2 ^ (min ((a - 6)).toNat 64))∧IntKind.i64.wrap ((1:Int) * 2 ^ (min ((a - 6)).toNat 64))≤64:=by
 unfold A3u at h
 rcases h with h | h | h | h | h | h | h<;>rw [h.1]<;>decide
theorem C9t {b c:Int} (h:A3u c b) (d:6≤c):A3u (c - 6) (bOp .and .i64 b ((IntKind.i64.wrap ((1:Int) * 2 ^ (min ((c - 6)).toNat 64))) - 1)):=by
 unfold A3u at h
 obtain ⟨a,rfl⟩:∃ a:Nat,b=a:=⟨b.toNat,by omega⟩
 rcases h with h | h | h | h | h | h | h
 ·omega
 ·omega
 ·omega
 ·rw [h.1];show A3u 0 (bOp .and .i64 (a:Int) 0);rw [E4i a opx];unfold A3u;omega
 ·rw [h.1];show A3u 2 (bOp .and .i64 (a:Int) 3);rw [E4t a opx];unfold A3u;omega
 ·rw [h.1];show A3u 4 (bOp .and .i64 (a:Int) 15);rw [E4l a opx];unfold A3u;omega
 ·rw [h.1];show A3u 6 (bOp .and .i64 (a:Int) 63);rw [E4s a opx];unfold A3u;omega
theorem D7u {w r:Int} (h:A3u w r) (e:0<w) (d:w≤4):0≤IntKind.i64.wrap (r * 2 ^ (min ((6:Int) - w).toNat 64))∧IntKind.i64.wrap (r * 2 ^ (min ((6:Int) - w).toNat 64))<64:=by
 unfold A3u at h
 have a:∀ x:Int,0≤x→x<64→0≤IntKind.i64.wrap x∧IntKind.i64.wrap x<64:=fun x c b=>by
  rw [A1b (by show (-9223372036854775808:Int)≤x;omega) (by show x≤(9223372036854775807:Int);omega)];exact ⟨c,b⟩
 rcases h with h | h | h | h | h | h | h
 ·omega
 ·rw [h.1];exact a (r * 16) opx opx
 ·rw [h.1];exact a (r * 4) opx opx
 all_goals omega
def A5v:Unit :=
 ()
theorem C0x {a:Nat} {R:Unit} (hR:A5v=R):Con Tryz.prog 250 [iv 8,iv 6,.func (.func 251) #[] #[pt a 0]] [bx a [.pointer none,.slice none 0 0] 215] [] (Nat×Nat×Nat×Nat×Nat) (fun x=>.func (.func 288) #[] #[pt x.1 0,pt x.2.1 0,pt x.2.2.1 0,pt x.2.2.2.1 0,pt x.2.2.2.2 0]) (fun x=>[bx a [.pointer none,.slice none 0 0] 215,bx x.1 [iv 0] 3,bx x.2.1 [iv 8] 3,bx x.2.2.1 [iv 0] 3,bx x.2.2.2.1 [iv 6] 3,bx x.2.2.2.2 [.func (.func 251) #[] #[pt a 0]] 171]) (fun x=>[]):=by
 refine zce Tryz.func250 fun X hX hr hD=>?_
 replace hR:=(A5v.eq_1 ..).symm.trans hR
 refine sR_ rfl (C0f 4 0 [] (fun b c d=>[(3,pt b 0),(4,pt c 0),(5,pt d 0)]) (fun b c d=>[bx d [.func (.func 251) #[] #[pt a 0]] 171,bx c [iv 6] 3,bx b [iv 8] 3,bx a [.pointer none,.slice none 0 0] 215]) (fun b c d=>(ie (sR_ rfl (A8j 4 0 [1,0] (fun e f=>[(7,pt e 0),(8,pt f 0)]) (fun e f=>[bx f [iv 0] 3,bx e [iv 0] 3,bx d [.func (.func 251) #[] #[pt a 0]] 171,bx c [iv 6] 3,bx b [iv 8] 3,bx a [.pointer none,.slice none 0 0] 215]) (fun e f=>(ie (sR_ rfl (ip' 2 0 [(6,.func (.func 288) #[] #[pt f 0,pt b 0,pt e 0,pt c 0,pt d 0])] ?_)))))))))
 subst hR
 refine ie (A8 (P9 (G9 [[bx f [iv 0] 3],[bx e [iv 0] 3],[bx d [.func (.func 251) #[] #[pt a 0]] 171],[bx c [iv 6] 3],[bx b [iv 8] 3],[bx a [.pointer none,.slice none 0 0] 215]] [5,0,4,1,3,2] 6 rfl ozw rfl [[bx a [.pointer none,.slice none 0 0] 215],[bx f [iv 0] 3],[bx b [iv 8] 3],[bx e [iv 0] 3],[bx c [iv 6] 3],[bx d [.func (.func 251) #[] #[pt a 0]] 171]] rfl opv) ?_))
 exact zer hr hD (O3 rfl (B9 rfl)) (f,b,e,c,d) sb_ fn0
def M1 (a:List UInt8) (c:UInt8):List UInt8 :=
 (a++([c]:List UInt8))
theorem W0 (a:List UInt8) (c:UInt8):(M1 a c).length=a.length+1:=by simp [M1]
theorem ont {p:Prop} (h:p:=by first|omega|(simp only [List.length_cons,List.length_nil,List.length_append,List.length_take,List.length_drop,E8,P1,P2,A5j,A5q,A5w,B2x,A5v];omega)):p:=h
theorem A2b {a:List UInt8} {c:UInt8} {g:Nat} {b:Option Addr} {bbufr:VR} {R:List UInt8} (hR:M1 a c=R) (e:b=none∨b=some ⟨g,0,none⟩:=by exact om_) (d:VOk 1 a.length bbufr:=by exact om_) (l:a.length≤100000:=by exact om_):Con Tryz.prog 252 [pt g 0,.int .u8 (c.toNat:Int)] (bx g [.pointer b,.slice (va bbufr.q) a.length bbufr.k] 215::((vo cU8 5 bbufr a)++([]))) [] ({r:VR // VOk 1 R.length r}) (fun x=>.nilIface) (fun x=>(bx g [pt g 0,.slice (va x.1.q) R.length x.1.k] 215::((vo cU8 5 x.1 R)++([])))) (fun x=>[]):=by
 refine zce Tryz.func252 fun X hX hr hD=>?_
 replace hR:=(M1.eq_1 ..).symm.trans hR
 have:=VOk.le d
 refine sR_ rfl (pp0 1 rfl (ie (sR_ rfl (pp1 1 5 rfl ?_))))
 refine zc rfl (C2c g (.slice (va bbufr.q) a.length bbufr.k) b e) fun _=>?_
 refine ie (sR_ rfl (pl3 6 [0] 7 11 12 rfl (it rfl (C3 (c:=cU8) (xs:=([c]:List UInt8)) A8g rfl rfl rfl okl) fun j=>?_)))
 have:([c]:List UInt8).length=1:=rfl
 refine it rfl (B5c (f:=cU8) (r:=bbufr) (xs:=a) (ys:=([c]:List UInt8)) (pre:=[bx g [pt g 0,.slice (va bbufr.q) a.length bbufr.k] 215]) (post:=[]) C7q (fun _=>rfl) (fun _=>rfl) rfl rfl rfl rfl rfl rfl rfl rfl rfl (B1 0 rfl) d ont ont) fun ⟨i,h⟩=>?_
 have:=VOk.le h
 have:=VOk.cap h
 refine zrg 3 0 [0] [] (bx g [pt g 0,.slice (va i.q) ((a++([c]:List UInt8)).length) i.k] 215::((vo cU8 5 i (a++([c]:List UInt8)))++([]))) (ie (sR_ rfl (pp1 1 4 rfl ?_)))
 subst hR
 refine ie (A8 ?_)
 exact zer hr hD (O3 rfl (B9 rfl)) ⟨i,h⟩ sb_ fn0
def Z2 (n:Int) (a:List UInt8):List UInt8 :=
 (C9 (M1 a (D4v.getD ((n).toNat) 0)) fun (b:List UInt8)=>b)
theorem A7s (n:Int) (b:List UInt8):(Z2 n b).length=b.length+1:=by simp [Z2,C9,M1]
theorem B7t {n:Int} {a:List UInt8} {p1b:Nat} {b:Option Addr} {p1bufr:VR} {R:List UInt8} (hR:Z2 n a=R) (d:b=none∨b=some ⟨p1b,0,none⟩:=by exact om_) (c:VOk 1 a.length p1bufr:=by exact om_) (i:0≤n∧n<64:=by exact om_) (l:a.length≤10100:=by exact om_):Con Tryz.prog 251 [iv n,pt p1b 0] (bx p1b [.pointer b,.slice (va p1bufr.q) a.length p1bufr.k] 215::((vo cU8 5 p1bufr a)++([]))) [] ({r:VR // VOk 1 R.length r}) (fun x=>.tuple #[]) (fun x=>(bx p1b [pt p1b 0,.slice (va x.1.q) R.length x.1.k] 215::((vo cU8 5 x.1 R)++([])))) (fun x=>[]):=by
 refine zce Tryz.func251 fun X hX hr hD=>?_
 replace hR:=(Z2.eq_1 ..).symm.trans hR
 have:=VOk.le c
 refine A1 3 rfl (pp1 1 3 rfl (ix rfl (B8t (T:=9) Tryz.underlying9 rfl rfl rfl ((n).toNat) opx (by first|omega|(refine Nat.lt_of_lt_of_le (m:=64) opx ozw))) ?_))
 have h:=D0 hR;clear hR;obtain ⟨j,f,hR⟩:=h
 refine zc rfl (A2b f d c) fun ⟨g,e⟩=>?_
 have:=VOk.le e
 have:=VOk.cap e
 have:=W0 a (D4v.getD ((n).toNat) 0);try rw [f] at this
 subst hR
 refine A3 ?_
 exact zen hr hD (A1a rfl) ⟨g,e⟩ sb_ fn0
def G6:Nat→Int→Int→List UInt8→(Int×Int×List UInt8×Int×Int)
 | 0,_,_,_=>(0,0,[],0,0)
 | fu1+1,t1,t3,bbuf=>(bif (decide ((6:Int)≤t3)) then (C9 (Z2 (Int.fdiv t1 (2 ^ (min ((t3 - 6)).toNat 64))) bbuf) fun (a:List UInt8)=>G6 fu1 (bOp .and .i64 t1 ((IntKind.i64.wrap ((1:Int) * 2 ^ (min ((t3 - 6)).toNat 64))) - 1)) (t3 - 6) a) else (t1,t3,bbuf,t3,t1))
def L5 (n:Int) (p1:Int) (p3:Int) (a:List UInt8):Int×Int×List UInt8×Int×Int :=
 G6 ((p3+8).toNat+1) (bOp .or .i64 (p1 * 256) n) (p3+8) a
theorem A3v:∀ (d:Nat) (c a:Int) (b:List UInt8),a.toNat<d→A3u a c→A3u (G6 d c a b).2.1 (G6 d c a b).1∧(G6 d c a b).2.1≤5∧(G6 d c a b).2.2.2.1=(G6 d c a b).2.1∧(G6 d c a b).2.2.2.2=(G6 d c a b).1∧(((G6 d c a b).2.2.1.length:Nat):Int) * 6+(G6 d c a b).2.1=(b.length:Int) * 6+a
 | 0,c,a,b,h,_=>by omega
 | d+1,c,a,b,h,hI=>by
  rw [G6]
  by_cases h6:6≤a
  ·rw [decide_eq_true h6,cond_true]
   have e:=A3v d _ _ (Z2 (Int.fdiv c (2 ^ (min ((a - 6)).toNat 64))) b) opx (C9t hI h6)
   have f:=A7s (Int.fdiv c (2 ^ (min ((a - 6)).toNat 64))) b
   unfold C9
   refine ⟨e.1,e.2.1,e.2.2.1,e.2.2.2.1,?_⟩
   rw [e.2.2.2.2,f];omega
  ·rw [decide_eq_false h6,cond_false]
   exact ⟨hI,by show a≤5;omega,rfl,rfl,rfl⟩
theorem A5i (n p1 p3:Int) (a:List UInt8) (b:A3u p3 p1) (c:p3≤4) (d:0≤n∧n≤255):A3u (L5 n p1 p3 a).2.1 (L5 n p1 p3 a).1∧(L5 n p1 p3 a).2.1≤5∧(L5 n p1 p3 a).2.2.2.1=(L5 n p1 p3 a).2.1∧(L5 n p1 p3 a).2.2.2.2=(L5 n p1 p3 a).1∧(((L5 n p1 p3 a).2.2.1.length:Nat):Int) * 6+(L5 n p1 p3 a).2.1=((a).length:Int) * 6+p3+8:=by
 have h:=A3v ((p3+8).toNat+1) _ _ a (Nat.lt_succ_self _) (D8g b c d)
 exact ⟨h.1,h.2.1,h.2.2.1,h.2.2.2.1,h.2.2.2.2.trans opx⟩
theorem B6n {n p1 p3:Int} {h:List UInt8} {p1b p2b p3b f g a:Nat} {i:Option Addr} {p5cbufr:VR} {R:Int×Int×List UInt8×Int×Int} (hR:L5 n p1 p3 h=R) (w:i=none∨i=some ⟨a,0,none⟩:=by exact om_) (s:VOk 1 h.length p5cbufr:=by exact om_) (hq:(0≤p1∧p1<16)∧0≤p3∧p3≤4:=by exact om_) (a2:A3u p3 p1∧p3≤4:=by exact om_) (hn:0≤n∧n≤255:=by exact om_) (hb:h.length≤10000:=by exact om_):Con Tryz.prog 288 [iv n,pt p1b 0,pt p2b 0,pt p3b 0,pt f 0,pt g 0] (bx p1b [iv p1] 3::bx p2b [iv 8] 3::bx p3b [iv p3] 3::bx f [iv 6] 3::bx a [.pointer i,.slice (va p5cbufr.q) h.length p5cbufr.k] 215::bx g [.func (.func 251) #[] #[pt a 0]] 171::((vo cU8 5 p5cbufr h)++([]))) [] ({r:VR // VOk 1 R.2.2.1.length r}×{z:Option Addr // z=none∨z=some ⟨a,0,none⟩}) (fun x=>.tuple #[iv R.2.2.2.1,iv R.2.2.2.2]) (fun x=>(bx p1b [iv R.1] 3::bx p2b [iv 8] 3::bx p3b [iv R.2.1] 3::bx f [iv 6] 3::bx a [.pointer x.2.1,.slice (va x.1.1.q) R.2.2.1.length x.1.1.k] 215::bx g [.func (.func 251) #[] #[pt a 0]] 171::((vo cU8 5 x.1.1 R.2.2.1)++([])))) (fun x=>[]):=by
 refine zce Tryz.func288 fun X hX hr hD=>?_
 replace hR:=(L5.eq_1 ..).symm.trans hR
 have:=VOk.le s
 refine sR_ rfl (pp0 2 rfl (ie (sR_ rfl (pl2 2 [0,1] 9 10 rfl ?_))))
 refine ix rfl (B5w (c:=(p1 * 256)) rfl rfl rfl ozw (by show IntKind.i64.wrap (p1 * 256)=_;exact A1b (by simp [IntKind.min,IntKind.signed,IntKind.bits];omega) (by simp [IntKind.max,IntKind.signed,IntKind.bits];omega))) (zrg 3 0 [0] [] (bx p1b [iv (bOp .or .i64 (p1 * 256) n)] 3::bx p2b [iv 8] 3::bx p3b [iv p3] 3::bx f [iv 6] 3::bx a [.pointer i,.slice (va p5cbufr.q) h.length p5cbufr.k] 215::bx g [.func (.func 251) #[] #[pt a 0]] 171::((vo cU8 5 p5cbufr h)++([]))) (ie (sR_ rfl (pl2 2 [2,1] 14 15 rfl (ix rfl (C0 rfl rfl rfl rfl opx) (zrg 1 0 [2] [] (bx p1b [iv (bOp .or .i64 (p1 * 256) n)] 3::bx p2b [iv 8] 3::bx p3b [iv (p3+8)] 3::bx f [iv 6] 3::bx a [.pointer i,.slice (va p5cbufr.q) h.length p5cbufr.k] 215::bx g [.func (.func 251) #[] #[pt a 0]] 171::((vo cU8 5 p5cbufr h)++([]))) (ie (A5 (B4 ?_)))))))))
 refine A5o (un fun (fu:Nat)=>un fun (o:Int)=>un fun (j:Int)=>un fun (d:Option Addr)=>un fun (e:List UInt8) (b:VR)=>(j.toNat<fu∧G6 fu o j e=R∧(d=none∨d=some ⟨a,0,none⟩)∧VOk 1 e.length b∧(0≤j∧j≤12)∧A3u j o∧(e.length:Int) * 6+j≤60100,[(1,pt p1b 0),(3,pt p3b 0),(4,pt f 0),(5,pt g 0)],(bx p1b [iv o] 3::bx p2b [iv 8] 3::bx p3b [iv j] 3::bx f [iv 6] 3::bx a [.pointer d,.slice (va b.q) e.length b.k] 215::bx g [.func (.func 251) #[] #[pt a 0]] 171::((vo cU8 5 b e)++([]))),[],fu)) ((p3+8).toNat+1,bOp .or .i64 (p1 * 256) n,p3+8,i,h,p5cbufr) ⟨(Nat.lt_succ_self _),hR,w,s,opx,(by exact D8g a2.1 a2.2 hn),osj⟩ sb_ fn0 ?_
 rintro ⟨fu,o,j,d,e,b⟩ ⟨a7,hR,u,p,hw,hI,a8⟩
 have:=VOk.le p
 obtain ⟨fu1,rfl⟩:∃ m,fu=m+1:=⟨fu - 1,by omega⟩
 replace hR:=(G6.eq_2 ..).symm.trans hR
 have a3:=E2o hI
 have a5:1≤IntKind.i64.wrap ((1:Int) * 2 ^ (min ((j - 6)).toNat IntKind.i64.bits))∧IntKind.i64.wrap ((1:Int) * 2 ^ (min ((j - 6)).toNat IntKind.i64.bits))≤64:=a3
 refine A5 (sR_ rfl (pl1 3 [2,3] 19 rfl ?_))
 refine ie ?_
 refine zjd rfl hR ?_ ?_<;>clear hR<;>intro hR h2 a6
 ·refine A6 (nx (B4 (sR_ rfl (pl2 2 [2,3] 20 21 rfl (ix rfl (V9 rfl rfl rfl rfl opx) (zrg 1 0 [2] [] (bx p1b [iv o] 3::bx p2b [iv 8] 3::bx p3b [iv (j - 6)] 3::bx f [iv 6] 3::bx a [.pointer d,.slice (va b.q) e.length b.k] 215::bx g [.func (.func 251) #[] #[pt a 0]] 171::((vo cU8 5 b e)++([]))) (ie ?_)))))))
  refine sh 5 [(5,[bx p1b [iv o] 3]),(5,[bx p2b [iv 8] 3]),(5,[bx p3b [iv (j - 6)] 3]),(5,[bx f [iv 6] 3]),(4,[bx a [.pointer d,.slice (va b.q) e.length b.k] 215]),(5,[bx g [.func (.func 251) #[] #[pt a 0]] 171]),(4,vo cU8 5 b e)] [] (bx p1b [iv o] 3::bx p2b [iv 8] 3::bx p3b [iv (j - 6)] 3::bx f [iv 6] 3::bx a [.pointer d,.slice (va b.q) e.length b.k] 215::bx g [.func (.func 251) #[] #[pt a 0]] 171::((vo cU8 5 b e)++([]))) (zml 5 0) okl rfl okl okl okl sb_ B0.refl ?_
  refine zhl 0 (bx p1b [iv o] 3::bx p2b [iv 8] 3::bx p3b [iv (j - 6)] 3::bx f [iv 6] 3::bx a [.pointer d,.slice (va b.q) e.length b.k] 215::bx g [.func (.func 251) #[] #[pt a 0]] 171::((vo cU8 5 b e)++([]))) (zml 5 1) rfl (A7 (v:=.func (.func 251) #[] #[pt a 0]) E3q rfl rfl 5 rfl rfl) ?_
  refine zhl 1 [bx p1b [iv o] 3,bx p2b [iv 8] 3,bx p3b [iv (j - 6)] 3,bx f [iv 6] 3,bx g [.func (.func 251) #[] #[pt a 0]] 171] (zml 5 3) rfl (A7 (v:=iv o) ty3 rfl rfl 0 rfl rfl) ?_
  refine zhl 2 [bx p1b [iv o] 3,bx p2b [iv 8] 3,bx p3b [iv (j - 6)] 3,bx f [iv 6] 3,bx g [.func (.func 251) #[] #[pt a 0]] 171] (zml 5 7) rfl (A7 (v:=iv (j - 6)) ty3 rfl rfl 2 rfl rfl) ?_
  refine zhk 3 (zml 5 15) rfl (Q8 rfl rfl rfl opx rfl) ?_
  have hQ:=D0 hR;clear hR;obtain ⟨t,a1,hR⟩:=hQ
  refine zho 4 [bx p1b [iv o] 3,bx p2b [iv 8] 3,bx p3b [iv (j - 6)] 3,bx f [iv 6] 3,bx g [.func (.func 251) #[] #[pt a 0]] 171] (zml 5 31) rfl (V8 (L2:=[bx p1b [iv o] 3,bx p2b [iv 8] 3,bx p3b [iv (j - 6)] 3,bx f [iv 6] 3,bx g [.func (.func 251) #[] #[pt a 0]] 171]) (B7t a1 u p (by first|exact E2i hI opx|omega)) rfl rfl rfl rfl rfl fn0 (G9 [[bx p1b [iv o] 3],[bx p2b [iv 8] 3],[bx p3b [iv (j - 6)] 3],[bx f [iv 6] 3],[bx a [.pointer d,.slice (va b.q) e.length b.k] 215],[bx g [.func (.func 251) #[] #[pt a 0]] 171],vo cU8 5 b e] [4,6,0,1,2,3,5] 7 rfl ozw rfl [[bx a [.pointer d,.slice (va b.q) e.length b.k] 215],vo cU8 5 b e,[bx p1b [iv o] 3],[bx p2b [iv 8] 3],[bx p3b [iv (j - 6)] 3],[bx f [iv 6] 3],[bx g [.func (.func 251) #[] #[pt a 0]] 171]] rfl opv) (fun ⟨l,y⟩=>(bx a [pt a 0,.slice (va l.q) t.length l.k] 215::bx p1b [iv o] 3::bx p2b [iv 8] 3::bx p3b [iv (j - 6)] 3::bx f [iv 6] 3::bx g [.func (.func 251) #[] #[pt a 0]] 171::((vo cU8 5 l t)++([])))) (fun ⟨l,y⟩=>G9 [[bx a [pt a 0,.slice (va l.q) t.length l.k] 215],vo cU8 5 l t,[bx p1b [iv o] 3],[bx p2b [iv 8] 3],[bx p3b [iv (j - 6)] 3],[bx f [iv 6] 3],[bx g [.func (.func 251) #[] #[pt a 0]] 171]] [0,2,3,4,5,6,1] 7 rfl ozw opv [[bx a [pt a 0,.slice (va l.q) t.length l.k] 215],[bx p1b [iv o] 3],[bx p2b [iv 8] 3],[bx p3b [iv (j - 6)] 3],[bx f [iv 6] 3],[bx g [.func (.func 251) #[] #[pt a 0]] 171],vo cU8 5 l t] rfl opv)) (fun ⟨l,y⟩=>sb_) (fun ⟨l,y⟩=>fn0) fun ⟨l,y⟩=>?_
  have:=VOk.le y
  have:=VOk.cap y
  have:=A7s (Int.fdiv o (2 ^ (min ((j - 6)).toNat 64))) e;try rw [a1] at this
  refine A3w okl ?_
  refine sh' 6 [(6,[bx a [pt a 0,.slice (va l.q) t.length l.k] 215]),(5,[bx p1b [iv o] 3]),(6,[bx p2b [iv 8] 3]),(6,[bx p3b [iv (j - 6)] 3]),(6,[bx f [iv 6] 3]),(6,[bx g [.func (.func 251) #[] #[pt a 0]] 171]),(6,vo cU8 5 l t)] [] (bx a [pt a 0,.slice (va l.q) t.length l.k] 215::bx p1b [iv o] 3::bx p2b [iv 8] 3::bx p3b [iv (j - 6)] 3::bx f [iv 6] 3::bx g [.func (.func 251) #[] #[pt a 0]] 171::((vo cU8 5 l t)++([]))) (zml 6 0) okl rfl okl okl okl sb_ B0.refl ?_
  refine zhl 0 (bx a [pt a 0,.slice (va l.q) t.length l.k] 215::bx p1b [iv o] 3::bx p2b [iv 8] 3::bx p3b [iv (j - 6)] 3::bx f [iv 6] 3::bx g [.func (.func 251) #[] #[pt a 0]] 171::((vo cU8 5 l t)++([]))) (zml 6 1) rfl (A7 (v:=iv o) ty3 rfl rfl 1 rfl rfl) ?_
  refine zhl 1 (bx a [pt a 0,.slice (va l.q) t.length l.k] 215::bx p1b [iv o] 3::bx p2b [iv 8] 3::bx p3b [iv (j - 6)] 3::bx f [iv 6] 3::bx g [.func (.func 251) #[] #[pt a 0]] 171::((vo cU8 5 l t)++([]))) (zml 6 3) rfl (A7 (v:=iv (j - 6)) ty3 rfl rfl 3 rfl rfl) ?_
  refine zhk 2 (zml 6 7) rfl (B5w rfl rfl rfl opx rfl) (zhk 3 (zml 6 15) rfl (V9 rfl rfl rfl rfl opx) ?_)
  refine zhp [4] 1 (zml 6 31) [(32,iv (bOp .and .i64 o ((IntKind.i64.wrap ((1:Int) * 2 ^ (min ((j - 6)).toNat 64))) - 1)))] ?_
  refine zho 5 (bx a [pt a 0,.slice (va l.q) t.length l.k] 215::bx p2b [iv 8] 3::bx p3b [iv (j - 6)] 3::bx f [iv 6] 3::bx g [.func (.func 251) #[] #[pt a 0]] 171::((vo cU8 5 l t)++([]))) (zml 6 63) rfl (F2 (us:=[iv (bOp .and .i64 o ((IntKind.i64.wrap ((1:Int) * 2 ^ (min ((j - 6)).toNat 64))) - 1))]) (cs':=[iv (bOp .and .i64 o ((IntKind.i64.wrap ((1:Int) * 2 ^ (min ((j - 6)).toNat 64))) - 1))]) ty3 rfl rfl rfl 1 rfl rfl rfl rfl rfl rfl) (fun _=>sb_) (fun _=>fn0) fun _=>?_
  refine A0b okl ?_
  refine P9 (G9 [[bx a [pt a 0,.slice (va l.q) t.length l.k] 215],[bx p1b [iv (bOp .and .i64 o ((IntKind.i64.wrap ((1:Int) * 2 ^ (min ((j - 6)).toNat 64))) - 1))] 3],[bx p2b [iv 8] 3],[bx p3b [iv (j - 6)] 3],[bx f [iv 6] 3],[bx g [.func (.func 251) #[] #[pt a 0]] 171],vo cU8 5 l t] [1,2,3,4,0,5,6] 7 rfl ozw rfl [[bx p1b [iv (bOp .and .i64 o ((IntKind.i64.wrap ((1:Int) * 2 ^ (min ((j - 6)).toNat 64))) - 1))] 3],[bx p2b [iv 8] 3],[bx p3b [iv (j - 6)] 3],[bx f [iv 6] 3],[bx a [pt a 0,.slice (va l.q) t.length l.k] 215],[bx g [.func (.func 251) #[] #[pt a 0]] 171],vo cU8 5 l t] rfl opv) ?_
  exact A1r (z1:=(fu1+1,o,j,d,e,b)) (fu1,(bOp .and .i64 o ((IntKind.i64.wrap ((1:Int) * 2 ^ (min ((j - 6)).toNat 64))) - 1)),j - 6,some ⟨a,0,none⟩,t,l) ⟨opx,hR,(.inr rfl),y,opx,(by exact C9t hI opx),opx⟩ (Nat.lt_succ_self _) sb_ fn0
 refine H3 (nx (sd 4 rfl okl rfl ?_))
 refine pg2 4 [2,0] 7 8 rfl ?_
 subst hR
 refine de (A8 ?_)
 exact zer hr hD (U6 rfl (B9 rfl) (B9 rfl)) (⟨b,p⟩,⟨d,u⟩) sb_ fn0
def A1n (n:Int):Int :=
 (IntKind.i64.wrap ((IntKind.i64.wrap (Int.tdiv (IntKind.i64.wrap ((if (if (1099511627776:Int)<n then (1099511627776:Int) else n) > (0:Int) then (if (1099511627776:Int)<n then (1099511627776:Int) else n) else (0:Int))+(2:Int))) 3)) * (4:Int)))
theorem B5h (n:Int) (h:0≤n∧n≤4096):A1n n=(n+2) / 3 * 4:=by
 unfold A1n
 rw [if_neg (show ¬ ((1099511627776:Int)<n) by omega)]
 have a:(if n > (0:Int) then n else (0:Int))=n:=by split<;>omega
 rw [a,A1b (m:=n+2) (by show (-9223372036854775808:Int)≤_;omega) (by show _≤(9223372036854775807:Int);omega),Int.tdiv_eq_ediv_of_nonneg opx,A1b (m:=(n+2) / 3) (by show (-9223372036854775808:Int)≤_;omega) (by show _≤(9223372036854775807:Int);omega),A1b (m:=(n+2) / 3 * 4) (by show (-9223372036854775808:Int)≤_;omega) (by show _≤(9223372036854775807:Int);omega)]
theorem C6r {n R:Int} (hR:A1n n=R) (a:0≤n∧n≤4096:=by exact om_):G3 Tryz.prog 254 [iv n] [] (iv R):=by
 refine zce Tryz.func254 fun X hX hr hD=>?_
 replace hR:=(A1n.eq_1 ..).symm.trans hR
 refine sR_ rfl (pp0 1 rfl (ie (sR_ rfl (pp1 3 5 rfl (ix rfl (G7.pure rfl) (ix rfl (C3x rfl rfl rfl ozw) (ix rfl (G7.pure rfl) (pp1 1 2 rfl ?_))))))))
 subst hR
 refine ie (A8 ?_)
 exact E9 hr hD
def Y9 (s:List UInt8) (a:List UInt8):List UInt8×Int :=
 ((a++(B3i ([61]:List UInt8) ((A1n (s.length:Int)) - (a.length:Int)))),0)
def U4 (s:List UInt8):List UInt8→Int→Int→Nat→List UInt8→Int→Int→(List UInt8×Int)
 | [],wait,rest,t16,bbuf,b,b1=>(bif (decide ((0:Int)<wait)) then (C9 (M1 bbuf (D4v.getD ((IntKind.i64.wrap (rest * 2 ^ (min ((6 - wait)).toNat 64))).toNat) 0)) fun (c:List UInt8)=>Y9 s c) else Y9 s bbuf)
 | hd_l0::tl_l0,wait,rest,t16,bbuf,b,b1=>(C9 (L5 (hd_l0.toNat:Int) b b1 bbuf) fun (a:Int×Int×List UInt8×Int×Int)=>U4 s tl_l0 a.2.2.2.1 a.2.2.2.2 (t16+1) a.2.2.1 a.1 a.2.1)
def A4b (s:List UInt8):List UInt8×Int :=
 (bif (decide ((4096:Int)<(s.length:Int))) then (([]:List UInt8),3) else U4 s s 0 0 0 ([]:List UInt8) 0 0)
theorem A7r (s:List UInt8) (h:s.length≤4096):∀ (l:List UInt8) (a rest:Int) (t:Nat) (c:List UInt8) (b b1:Int),A3u b1 b→b1≤4→a=b1→rest=b→(c.length:Int) * 6+b1=8 * (t:Int)→t+l.length=s.length→(U4 s l a rest t c b b1).1.length≤5500
 | [],a,rest,t,c,b,b1,hI,h4,hw,hr,hb,ht=>by
  have e:=B5h (s.length:Int) opx
  have f:∀ x:List UInt8,(x.length:Int) * 6≤8 * s.length+5→(Y9 s x).1.length≤5500:=by
   intro x g
   unfold Y9
   show (x++B3i [61] _).length≤5500
   rw [List.length_append,C2j,e,List.length_singleton]
   omega
  have i:0≤b1:=by unfold A3u at hI;omega
  rw [U4]
  have:t=s.length:=by simpa using ht
  by_cases d:0<a
  ·rw [decide_eq_true d,cond_true]
   refine f _ ?_
   rw [W0];omega
  ·rw [decide_eq_false d,cond_false]
   exact f _ opx
 | x::l,a,rest,t,c,b,b1,hI,h4,hw,hr,hb,ht=>by
  rw [U4]
  have g:0≤((x.toNat:Nat):Int)∧((x.toNat:Nat):Int)≤255:=⟨Int.natCast_nonneg _,Int.ofNat_le.2 (Nat.le_of_lt_succ (UInt8.toNat_lt _))⟩
  have d:=A5i (x.toNat:Int) b b1 c hI h4 g
  exact A7r s h l _ _ _ _ _ _ d.1 (by have q:=d.1;unfold A3u at q;omega) d.2.2.1 d.2.2.2.1 (by rw [d.2.2.2.2];omega) (by simp only [List.length_cons] at ht;omega)
theorem B1d (s:List UInt8):(A4b s).1.length≤5500:=by
 unfold A4b
 by_cases h:(4096:Int)<(s.length:Int)
 ·rw [decide_eq_true h];exact Nat.zero_le _
 ·rw [decide_eq_false h]
  exact A7r s opx s 0 0 0 [] 0 0 (.inl ⟨rfl,rfl⟩) opx rfl rfl oom oom
theorem C2v {s:List UInt8} {R:List UInt8×Int} (hR:A4b s=R):G3 Tryz.prog 196 [sv s] [] (.tuple #[sv R.1,iv R.2]):=by
 refine zco Tryz.func196 [(0,sv s)] fun X hX hr hD=>?_
 replace hR:=(A4b.eq_1 ..).symm.trans hR
 refine sR_ rfl (ip' 2 0 [] (ie (A5 (sR_ rfl (ip' 3 0 [(11,bv (decide ((4096:Int)<(s.length:Int))))] (ie ?_))))))
 refine zjd rfl hR ?_ ?_<;>clear hR<;>intro hR h1 al
 ·refine sR_ rfl (ip' 2 0 [(2,sv ([]:List UInt8)),(3,iv 3)] ?_)
  subst hR
  refine ie (A8 ?_)
  exact A8m hr hD
 refine A6 (nx (sR_ rfl (H9 1 0 [] (fun n=>[(4,pt n 0)]) (fun n=>[bx n [.pointer none,.slice none 0 0] 215]) (fun n=>(ie (sR_ rfl (ip' 1 2 [(12,.func (.func 251) #[] #[pt n 0])] ?_)))))))
 refine zc rfl (C0x rfl) fun ⟨y,z,w,b6,v⟩=>?_
 refine ip' 1 0 [(5,.func (.func 288) #[] #[pt y 0,pt z 0,pt w 0,pt b6 0,pt v 0])] (ie (sR_ rfl (ip' 2 0 [(6,iv 0),(7,iv 0)] (ie (A5 (sR_ rfl (ip' 3 0 [(15,iv (s.length:Int)),(16,iv 0)] (ie (B4 (P9 (G9 [vo cU8 5 VR.nil ([]:List UInt8),[bx n [.pointer none,.slice none 0 0] 215],[bx y [iv 0] 3],[bx z [iv 8] 3],[bx w [iv 0] 3],[bx b6 [iv 6] 3],[bx v [.func (.func 251) #[] #[pt n 0]] 171]] [1,2,3,4,5,6,0] 7 rfl ozw rfl [[bx n [.pointer none,.slice none 0 0] 215],[bx y [iv 0] 3],[bx z [iv 8] 3],[bx w [iv 0] 3],[bx b6 [iv 6] 3],[bx v [.func (.func 251) #[] #[pt n 0]] 171],vo cU8 5 VR.nil ([]:List UInt8)] rfl opv) ?_))))))))))
 refine A5o (un fun (f:Int)=>un fun (rest:Int)=>un fun (j:Nat)=>un fun (h:Option Addr)=>un fun (i:List UInt8)=>un fun (e:VR)=>un fun (b:Int) (u:Int)=>(j≤s.length∧U4 s (s.drop j) f rest j i b u=R∧(h=none∨h=some ⟨n,0,none⟩)∧VOk 1 i.length e∧(A3u u b∧u≤4)∧(f=u∧rest=b)∧(i.length:Int) * 6+u=8 * (j:Int)∧s.length≤4096∧0≤u,[(0,sv s),(4,pt n 0),(5,.func (.func 288) #[] #[pt y 0,pt z 0,pt w 0,pt b6 0,pt v 0]),(6,iv f),(7,iv rest),(15,iv (s.length:Int)),(16,iv (j:Int))],(bx n [.pointer h,.slice (va e.q) i.length e.k] 215::bx y [iv b] 3::bx z [iv 8] 3::bx w [iv u] 3::bx b6 [iv 6] 3::bx v [.func (.func 251) #[] #[pt n 0]] 171::((vo cU8 5 e i)++([]))),[],s.length - j)) (0,0,0,none,([]:List UInt8),VR.nil,0,0) ⟨opx,hR,(.inl rfl),VOk.nil,(by exact ⟨.inl ⟨rfl,rfl⟩,by omega⟩),(by exact ⟨rfl,rfl⟩),oom,opx⟩ (mc [[bx n [.pointer none,.slice none 0 0] 215],[bx y [iv 0] 3],[bx z [iv 8] 3],[bx w [iv 0] 3],[bx b6 [iv 6] 3],[bx v [.func (.func 251) #[] #[pt n 0]] 171],vo cU8 5 VR.nil ([]:List UInt8)] [true,true,true,true,true,true,true] rfl oxs) fn0 ?_
 rintro ⟨f,rest,j,h,i,e,b,u⟩ ⟨ao,hR,o,l,x,ab,am,ak⟩
 have:=VOk.le l
 refine sR_ rfl (ip' 1 0 [(17,bv (decide ((j:Int)<(s.length:Int))))] ?_)
 refine ie (A5 (W8 rfl (fun h9=>?_) (fun h9=>?_)))
 ·have aa:=bq_ h9
  rw [A0r 0 (show j<s.length by omega)] at hR;replace hR:=(U4.eq_2 ..).symm.trans hR
  refine A6 (nx (A5 (B4 (sR_ rfl (ip' 2 0 [(8,iv (j:Int))] (ie (A1 11 rfl (ip' 3 8 [(20,.func (.func 288) #[] #[pt y 0,pt z 0,pt w 0,pt b6 0,pt v 0]),(21,sv s),(22,iv (j:Int))] (ix rfl (B8t (T:=9) Tryz.underlying9 rfl rfl rfl j rfl (by first|omega|(refine Nat.lt_of_lt_of_le (m:=64) opx ozw))) (ix rfl (B1y (c:=((s.getD j 0).toNat:Int)) Tryz.underlying3 okl rfl rfl (B0w (s.getD j 0))) ?_))))))))))
  have hQ:=D0 hR;clear hR;obtain ⟨r,a8,hR⟩:=hQ
  refine zc rfl (B6n a8 o l (by first|omega|(have q:=x.1;unfold A3u at q;omega)) (by first|exact x|exact ⟨.inl ⟨rfl,rfl⟩,by omega⟩) (by first|omega|exact ⟨Int.natCast_nonneg _,Int.ofNat_le.2 (Nat.le_of_lt_succ (UInt8.toNat_lt _))⟩) oph) fun ⟨⟨p,a2⟩,⟨a4,ac⟩⟩=>?_
  have:=VOk.le a2
  have:=VOk.cap a2
  have hp:=A5i ((s.getD j 0).toNat:Int) b u i x.1 x.2 ⟨Int.natCast_nonneg _,Int.ofNat_le.2 (Nat.le_of_lt_succ (UInt8.toNat_lt _))⟩;rw [a8] at hp
  refine ip' 5 0 [(6,iv r.2.2.2.1),(7,iv r.2.2.2.2)] (A3 (nx (A1 2 rfl (ix rfl (C0 rfl rfl rfl rfl opx) (ip' 1 0 [(16,iv ((j:Int)+1))] (A3 (P9 (G9 [[bx y [iv r.1] 3],[bx z [iv 8] 3],[bx w [iv r.2.1] 3],[bx b6 [iv 6] 3],[bx n [.pointer a4,.slice (va p.q) r.2.2.1.length p.k] 215],[bx v [.func (.func 251) #[] #[pt n 0]] 171],vo cU8 5 p r.2.2.1] [4,0,1,2,3,5,6] 7 rfl ozw rfl [[bx n [.pointer a4,.slice (va p.q) r.2.2.1.length p.k] 215],[bx y [iv r.1] 3],[bx z [iv 8] 3],[bx w [iv r.2.1] 3],[bx b6 [iv 6] 3],[bx v [.func (.func 251) #[] #[pt n 0]] 171],vo cU8 5 p r.2.2.1] rfl opv) ?_)))))))
  exact A1r (z1:=(f,rest,j,h,i,e,b,u)) (r.2.2.2.1,r.2.2.2.2,j+1,a4,r.2.2.1,p,r.1,r.2.1) ⟨opx,hR,ac,a2,(by exact ⟨hp.1,by have q:=hp.1;unfold A3u at q;omega⟩),(by exact ⟨hp.2.2.1,hp.2.2.2.1⟩),opx,(by (have q:=hp.1;unfold A3u at q;omega))⟩ olr (mc [[bx n [.pointer a4,.slice (va p.q) r.2.2.1.length p.k] 215],[bx y [iv r.1] 3],[bx z [iv 8] 3],[bx w [iv r.2.1] 3],[bx b6 [iv 6] 3],[bx v [.func (.func 251) #[] #[pt n 0]] 171],vo cU8 5 p r.2.2.1] [true,true,true,true,true,true,true] rfl oxs) fn0
 have aa:=bq_ h9
 rw [A1i aa] at hR;replace hR:=(U4.eq_1 ..).symm.trans hR
 refine H3 (nx (C1d (un fun (g:Option Addr)=>un fun (a:List UInt8) (d:VR)=>(Y9 s a=R∧(g=none∨g=some ⟨n,0,none⟩)∧VOk 1 a.length d∧a.length * 6≤8 * s.length+5∧8 * s.length≤a.length * 6,[(0,sv s),(4,pt n 0)],(bx n [.pointer g,.slice (va d.q) a.length d.k] 215::bx y [iv b] 3::bx z [iv 8] 3::bx w [iv u] 3::bx b6 [iv 6] 3::bx v [.func (.func 251) #[] #[pt n 0]] 171::((vo cU8 5 d a)++([]))),[])) ?_ ?_))
 ·refine sR_ rfl (ip' 2 0 [(30,bv (decide ((0:Int)<f)))] (ie ?_))
  refine zjd rfl hR ?_ ?_<;>clear hR<;>intro hR aj ah
  ·have a7:=D7u x.1 opx x.2;rw [← ab.1,← ab.2] at a7
   have ai:0≤IntKind.i64.wrap (rest * 2 ^ (min ((6:Int) - f).toNat IntKind.i64.bits))∧IntKind.i64.wrap (rest * 2 ^ (min ((6:Int) - f).toNat IntKind.i64.bits))<64:=a7
   have an:IntKind.i64.wrap (rest * 2 ^ (min ((6:Int) - f).toNat IntKind.i64.bits))=IntKind.i64.wrap (rest * 2 ^ (min ((6:Int) - f).toNat 64)):=rfl
   refine A1 6 rfl (ip' 2 4 [(31,iv rest),(32,iv f)] (ix rfl (V9 rfl rfl rfl rfl opx) (ix rfl (B5w rfl rfl rfl opx rfl) (ix rfl (B8t (T:=9) Tryz.underlying9 rfl rfl rfl ((IntKind.i64.wrap (rest * 2 ^ (min ((6 - f)).toNat 64))).toNat) opx (by first|omega|(refine Nat.lt_of_lt_of_le (m:=64) opx ozw))) ?_))))
   have hQ:=D0 hR;clear hR;obtain ⟨y7,a9,hR⟩:=hQ
   refine zc rfl (A2b a9 o l oph) fun ⟨a3,a1⟩=>?_
   have:=VOk.le a1
   have:=VOk.cap a1
   have:=W0 i (D4v.getD ((IntKind.i64.wrap (rest * 2 ^ (min ((6 - f)).toNat 64))).toNat) 0);try rw [a9] at this
   refine A3 ?_
   exact A5f (some ⟨n,0,none⟩,y7,a3) ⟨hR,(.inr rfl),a1,opx⟩ (mc [[bx n [pt n 0,.slice (va a3.q) y7.length a3.k] 215],[bx y [iv b] 3],[bx z [iv 8] 3],[bx w [iv u] 3],[bx b6 [iv 6] 3],[bx v [.func (.func 251) #[] #[pt n 0]] 171],vo cU8 5 a3 y7] [true,true,true,true,true,true,true] rfl oxs) fn0
  refine A6 ?_
  exact A5f (h,i,e) ⟨hR,o,l,opx⟩ (mc [[bx n [.pointer h,.slice (va e.q) i.length e.k] 215],[bx y [iv b] 3],[bx z [iv 8] 3],[bx w [iv u] 3],[bx b6 [iv 6] 3],[bx v [.func (.func 251) #[] #[pt n 0]] 171],vo cU8 5 e i] [true,true,true,true,true,true,true] rfl oxs) fn0
 rintro ⟨g,a,d⟩
 rintro ⟨hR,a5,t,hj⟩
 replace hR:=(Y9.eq_1 ..).symm.trans hR
 refine sR_ rfl (zc rfl (D5t n (.pointer g) a d t) fun _=>(ip' 2 7 [(39,iv (s.length:Int))] (zv rfl (C6r rfl opx) ?_)))
 have:=B5h (s.length:Int) opx
 refine zc rfl (E2r n (.pointer g) (va d.q) a.length d.k) fun _=>?_
 refine ix rfl (V9 rfl rfl rfl rfl opx) (zv rfl (D7p ([61]:List UInt8) ((A1n (s.length:Int)) - (a.length:Int)) oph oph oph) ?_)
 have:=C2j ([61]:List UInt8) ((A1n (s.length:Int)) - (a.length:Int));try simp only [List.length_cons,List.length_nil] at this
 refine ix rfl (zst rfl rfl rfl) (ip' 2 0 [(2,sv (a++(B3i ([61]:List UInt8) ((A1n (s.length:Int)) - (a.length:Int))))),(3,iv 0)] ?_)
 subst hR
 refine ie (A8 ?_)
 exact A8m hr hD
def A8p (a:Act):Option (List UInt8) :=
 (Option.bind (B2h a ({Act.zero with kind:=a.kind,text:=a.text})) fun (r:Unit)=>(Option.bind (A2f (decide ((a.text.length:Int)≤378))) fun (c:Unit)=>(C9 (A4b a.text) fun (b:List UInt8×Int)=>(Option.bind (A2f (decide (b.2=0))) fun (d:Unit)=>(some (([53,50,59,99,59]:List UInt8)++b.1))))))
theorem C4p {a:Act} {R:Option (List UInt8)} (hR:A8p a=R):B8x Tryz.prog 195 [ag (A2 a)] [] [] Y8 R (fun r=>sv r):=by
 refine A3q (n:=28) Tryz.func195 rfl okl rfl rfl [(0,ag (A2 a))] ⟨rfl,trivial⟩ fun X hX hr hD=>?_
 replace hR:=(A8p.eq_1 ..).symm.trans hR
 refine sR_ rfl (H9 2 0 [] (fun b=>[(1,pt b 0)]) (fun b=>[bx b (A2 a) 56]) (fun b=>(ie (sR_ rfl (zrl 6 1 [0,0,0] [(5,ag (A2 a)),(10,ag (A2 ({Act.zero with kind:=a.kind,text:=a.text})))] ?_)))))
 refine X4 (L2:=[bx b (A2 a) 56]) (B5e rfl) rfl rfl rfl rfl rfl rfl fn0 (List.Perm.refl _) (fun r i=>?_) (fun j=>?_)
 ·replace hR:=A8e hR i
  refine ie (sR_ rfl (pl1 4 [0] 15 rfl ?_))
  refine X4 (L2:=[bx b (A2 a) 56]) (A1o rfl) rfl rfl rfl rfl rfl rfl fn0 (List.Perm.refl _) (fun o e=>?_) (fun h=>?_)
  ·replace hR:=A8e hR e
   have c:=S1 e;try simp only [Bool.and_eq_true,decide_eq_true_eq] at c
   refine ie (sR_ rfl (pl1 2 [0] 19 rfl ?_))
   have k:=D0 hR;clear hR;obtain ⟨m,d,hR⟩:=k
   refine zv rfl (C2v d) ?_
   have:=B1d a.text;try rw [d] at this
   refine pp2 5 3 4 rfl (ie (sR_ rfl (pp1 2 24 rfl ?_)))
   refine X4 (L2:=[bx b (A2 a) 56]) (A1o rfl) rfl rfl rfl rfl rfl rfl fn0 (List.Perm.refl _) (fun l f=>?_) (fun g=>?_)
   ·replace hR:=A8e hR f
    have c:=S1 f;try simp only [Bool.and_eq_true,decide_eq_true_eq] at c
    refine ie (sR_ rfl (pp1 1 26 rfl (ix rfl (zst rfl rfl rfl) (pp1 1 2 rfl (ie (A8 ?_))))))
    exact A9f rfl ⟨hr,hD⟩ (by simp [hD]) (O3 rfl (B9 rfl)) hR.symm rfl
   ·replace hR:=A8b hR g
    exact O6 ⟨hr,hD⟩ hR.symm
  ·replace hR:=A8b hR h
   exact O6 ⟨hr,hD⟩ hR.symm
 ·replace hR:=A8b hR j
  exact O6 ⟨hr,hD⟩ hR.symm
def A1v (d:Int) (c:Int) (a:Col) (b:List UInt8):Option (List UInt8) :=
 (Option.bind (A2f true) fun (r:Unit)=>(Option.bind (A8p (⟨46,d,c,a,b⟩:Act)) fun (e:List UInt8)=>(some e)))
theorem C5y {d e:Int} {b:Col} {a:List UInt8} {c:Addr} {R:Option (List UInt8)} (hR:A1v d e b a=R) (o:a.length≤100000000:=by exact om_):B8x Tryz.prog 120 [pa c] [] [at_ c (A2 (⟨46,d,e,b,a⟩:Act))] Y8 R (fun r=>sv r):=by
 refine A3q (n:=16) Tryz.func120 rfl okl rfl rfl [(0,pa c)] ⟨rfl,trivial⟩ fun X hX hr hD=>?_
 replace hR:=(A1v.eq_1 ..).symm.trans hR
 refine sR_ rfl (pp0 1 rfl (ie (sh 9 [] [at_ c (A2 (⟨46,d,e,b,a⟩:Act))] [] (zml 9 0) okl rfl okl okl okl sb_ B0.refl ?_)))
 refine zhp [1] 8 (zml 9 2) [(6,pa c)] ?_
 refine zhk 2 (zml 9 6) rfl (D6 ty3 rfl rfl (S3 (B1 0 rfl) (ws:=[iv 46]) 1 rfl) rfl) ?_
 refine zho 0 [] (zml 9 7) rfl (C8 (L2:=[]) (B3u rfl) rfl rfl rfl rfl rfl fn0 (List.Perm.refl _) (fun f=>[(f,.map #[⟨iv 44,.func (.func 189) #[] #[],0⟩,⟨iv 45,.func (.func 192) #[] #[],1⟩,⟨iv 46,.func (.func 195) #[] #[],2⟩] 3)]) (fun _=>rfl)) (fun f=>sb_) (fun f=>B0.refl) fun f=>?_
 refine zho 3 [] (zml 9 15) rfl (Det.tri (G7.det (X3 (v:=.func (.func 195) #[] #[]) (j:=2) C8n rfl rfl rfl 0 rfl okl))) (fun _=>sb_) (fun _=>B0.refl) fun _=>?_
 refine zhp [4,5,6,7,8] 0 (zml 9 511) [(2,.func (.func 195) #[] #[]),(3,bv true)] ?_
 refine A3w okl ?_
 refine sR_ rfl (pp1 1 11 rfl ?_)
 refine X4 (L2:=[(f,.map #[⟨iv 44,.func (.func 189) #[] #[],0⟩,⟨iv 45,.func (.func 192) #[] #[],1⟩,⟨iv 46,.func (.func 195) #[] #[],2⟩] 3)]) (A1o rfl) rfl rfl rfl rfl rfl rfl fn0 (List.Perm.refl _) (fun r g=>?_) (fun l=>?_)
 ·replace hR:=A8e hR g
  have h:=S1 g;try simp only [Bool.and_eq_true,decide_eq_true_eq] at h
  refine ie (sR_ rfl (ip' 1 3 [(13,.func (.func 195) #[] #[])] (ix rfl (L8 (us:=A2 (⟨46,d,e,b,a⟩:Act)) B5a rfl rfl (B1 0 rfl) rfl) ?_)))
  refine X4 (L2:=[(f,.map #[⟨iv 44,.func (.func 189) #[] #[],0⟩,⟨iv 45,.func (.func 192) #[] #[],1⟩,⟨iv 46,.func (.func 195) #[] #[],2⟩] 3)]) (C4p rfl) rfl rfl rfl rfl rfl rfl fn0 (List.Perm.refl _) (fun m i=>?_) (fun k=>?_)
  ·replace hR:=A8e hR i
   refine pp1 1 1 rfl (ie (A8 ?_))
   exact A9f rfl ⟨hr,hD⟩ (by simp [hD]) (O3 rfl (B9 rfl)) hR.symm rfl
  ·replace hR:=A8b hR k
   exact O6 ⟨hr,hD⟩ hR.symm
 ·replace hR:=A8b hR l
  exact O6 ⟨hr,hD⟩ hR.symm
def A6o (an:Int) (am:Int) (acolor:Col) (atext:List UInt8):List UInt8×Int :=
 (bif (!((A8i (A1v an am acolor atext)).2)) then (([]:List UInt8),2) else ((A8i (A1v an am acolor atext)).1,0))
theorem A9v (an am:Int) (c:Col) (t:List UInt8):(A6o an am c t).1.length≤t.length+6000:=by
 have b:∀ s,A1v an am c t=some s→s.length≤t.length+6000:=by
  intro s h
  unfold A1v A8p at h
  simp only [Option.bind_eq_some_iff,Option.some.injEq] at h
  obtain ⟨_,_,f,⟨_,_,_,d,a⟩,e⟩:=h
  have d:=S1 d
  simp only [decide_eq_true_eq] at d
  unfold C9 at a
  simp only [Option.bind_eq_some_iff,Option.some.injEq] at a
  obtain ⟨_,_,a⟩:=a
  have:=B1d t
  rw [← e,← a]
  simp only [List.length_append,List.length_cons,List.length_nil]
  omega
 unfold A6o
 cases hR:A1v an am c t with
 | none=>simp [A8i]
 | some s=>have:=b s hR;simp [A8i];omega
theorem B9u {an am:Int} {acolor:Col} {atext:List UInt8} {R:List UInt8×Int} (hR:A6o an am acolor atext=R) (c:atext.length≤100000000:=by exact om_):G3 Tryz.prog 37 [ag (A2 (⟨46,an,am,acolor,atext⟩:Act))] [] (.tuple #[sv R.1,iv R.2]):=by
 refine zce Tryz.func37 fun X hX hr hD=>?_
 replace hR:=(A6o.eq_1 ..).symm.trans hR
 refine sR_ rfl (it rfl (X7 (cs:=A2 (⟨46,an,am,acolor,atext⟩:Act)) rfl rfl rfl) fun a=>?_)
 refine A1s 0 rfl ?_
 refine pp0 2 rfl (ie (sR_ rfl (ip' 1 6 [(7,.func (.func 120) #[] #[pa ⟨a,0,none⟩])] (zv rfl (D2j (cap:=[pa ⟨a,0,none⟩]) _ (C5y rfl)) (pp2 5 4 5 rfl (ie (A5 (sR_ rfl (pp1 2 12 rfl (ie ?_))))))))))
 refine zjb rfl hR ?_ ?_<;>clear hR<;>intro hR b
 ·refine sR_ rfl (pp2 2 2 3 rfl ?_)
  subst hR
  refine ie (A8 ?_)
  exact A8m hr hD
 refine A6 (nx (sR_ rfl (pp2 3 2 3 rfl ?_)))
 subst hR
 refine ie (A8 ?_)
 exact A8m hr hD
def A2h (an:Int) (am:Int) (acolor:Col) (atext:List UInt8):List UInt8 :=
 (C9 (A6o an am acolor atext) fun (a:List UInt8×Int)=>((([27,93]:List UInt8)++a.1)++([27,92]:List UInt8)))
theorem B9k (an:Int) (am:Int) (acolor:Col) (atext:List UInt8) (e:atext.length≤100000000) (R:List UInt8) (hR:A2h an am acolor atext=R):G3 Tryz.prog 94 [ag (A2 (⟨46,an,am,acolor,atext⟩:Act))] [] (sv R):=by
 refine zco Tryz.func94 [(0,ag (A2 (⟨46,an,am,acolor,atext⟩:Act)))] fun X hX hr hD=>?_
 replace hR:=(A2h.eq_1 ..).symm.trans hR
 refine sr 2 rfl (H9 2 0 [] (fun c=>[(1,pt c 0)]) (fun c=>[bx c (A2 (⟨46,an,am,acolor,atext⟩:Act)) 56]) (fun c=>(ie (sr 7 rfl (zrl 1 6 [0] [(6,ag (A2 (⟨46,an,am,acolor,atext⟩:Act)))] ?_)))))
 have d:=D0 hR;clear hR;obtain ⟨b,a,hR⟩:=d
 refine zca (B9u (an:=an) (am:=am) (acolor:=acolor) (atext:=atext) a osj) fn0 ?_
 have:=A9v an am acolor atext;try rw [a] at this
 refine ip' 5 0 [(3,sv b.1)] (ie (sr 4 rfl (ip' 1 3 [(10,sv b.1)] (ix rfl (zst rfl rfl rfl) (ix rfl (zst rfl rfl rfl) (ip' 1 0 [(2,sv ((([27,93]:List UInt8)++b.1)++([27,92]:List UInt8)))] ?_))))))
 subst hR
 refine ie (A8 ?_)
 exact E9 hr hD
def B1z (a:Act):Prop:=a.text.length≤100000000∧1≤a.kind∧a.kind≤46∧(a.kind=7∨a.kind=14∨a.kind=21∨a.kind=33∨a.kind=42→0≤a.n∧a.n≤1)∧(a.kind=17∨a.kind=20→0≤a.n∧a.n≤3)∧(a.kind=18→2≤a.n∧a.n≤3)∧(a.kind=17∨a.kind=36∨a.kind=37∨a.kind=43→0≤a.m∧a.m≤1)
def A4v (a:Act):List UInt8 :=
 (bif (decide (a.kind=1)) then (A3b (⟨1,a.n,a.m,a.color,a.text⟩:Act)) else (bif (decide (a.kind=2)) then (E8 a ([7]:List UInt8)) else (bif (decide (a.kind=3)) then (E8 a ([8]:List UInt8)) else (bif (decide (a.kind=4)) then (E8 a ([9]:List UInt8)) else (bif (decide (a.kind=5)) then (E8 a ([10]:List UInt8)) else (bif (decide (a.kind=6)) then (E8 a ([13]:List UInt8)) else (bif (decide (a.kind=7)) then (U7 a ([]:List UInt8) ([15,14]:List UInt8) 0) else (bif (decide (a.kind=8)) then (E8 a ([27,68]:List UInt8)) else (bif (decide (a.kind=9)) then (E8 a ([27,69]:List UInt8)) else (bif (decide (a.kind=10)) then (E8 a ([27,72]:List UInt8)) else (bif (decide (a.kind=11)) then (E8 a ([27,77]:List UInt8)) else (bif (decide (a.kind=12)) then (E8 a ([27,55]:List UInt8)) else (bif (decide (a.kind=13)) then (E8 a ([27,56]:List UInt8)) else (bif (decide (a.kind=14)) then (U7 a ([27]:List UInt8) ([62,61]:List UInt8) 0) else (bif (decide (a.kind=15)) then (E8 a ([27,99]:List UInt8)) else (bif (decide (a.kind=16)) then (E8 a ([27,35,56]:List UInt8)) else (bif (decide (a.kind=17)) then (A3h (⟨17,a.n,a.m,a.color,a.text⟩:Act)) else (bif (decide (a.kind=18)) then (U7 a ([27]:List UInt8) ([78,79]:List UInt8) 2) else (bif (decide (a.kind=19)) then (A3f (⟨19,a.n,a.m,a.color,a.text⟩:Act)) else (bif (decide (a.kind=20)) then (U3 a ([65,66,67,68]:List UInt8)) else (bif (decide (a.kind=21)) then (U3 a ([69,70]:List UInt8)) else (bif (decide (a.kind=22)) then (G0 a 1 ([71]:List UInt8)) else (bif (decide (a.kind=23)) then (G0 a 1 ([100]:List UInt8)) else (bif (decide (a.kind=24)) then (G0 a 1 ([73]:List UInt8)) else (bif (decide (a.kind=25)) then (G0 a 1 ([90]:List UInt8)) else (bif (decide (a.kind=26)) then (G0 a 0 ([74]:List UInt8)) else (bif (decide (a.kind=27)) then (G0 a 0 ([75]:List UInt8)) else (bif (decide (a.kind=28)) then (G0 a 1 ([64]:List UInt8)) else (bif (decide (a.kind=29)) then (G0 a 1 ([80]:List UInt8)) else (bif (decide (a.kind=30)) then (G0 a 1 ([88]:List UInt8)) else (bif (decide (a.kind=31)) then (G0 a 1 ([76]:List UInt8)) else (bif (decide (a.kind=32)) then (G0 a 1 ([77]:List UInt8)) else (bif (decide (a.kind=33)) then (U3 a ([83,84]:List UInt8)) else (bif (decide (a.kind=34)) then (G0 a 1 ([98]:List UInt8)) else (bif (decide (a.kind=35)) then (G0 a 0 ([103]:List UInt8)) else (bif (decide (a.kind=36)) then (W1 a ([]:List UInt8)) else (bif (decide (a.kind=37)) then (W1 a ([63]:List UInt8)) else (bif (decide (a.kind=38)) then (A2l (⟨38,a.n,a.m,a.color,a.text⟩:Act)) else (bif (decide (a.kind=39)) then (A2j (⟨39,a.n,a.m,a.color,a.text⟩:Act)) else (bif (decide (a.kind=40)) then (G0 a 0 ([32,113]:List UInt8)) else (bif (decide (a.kind=41)) then (G0 a (-2) ([110]:List UInt8)) else (bif (decide (a.kind=42)) then (A2a (⟨42,a.n,a.m,a.color,a.text⟩:Act)) else (bif (decide (a.kind=43)) then (A1z (⟨43,a.n,a.m,a.color,a.text⟩:Act)) else (bif (decide (a.kind=44)) then (A2y a.n a.m a.color a.text) else (bif (decide (a.kind=45)) then (A2i a.n a.m a.color a.text) else (bif (decide (a.kind=46)) then (A2h a.n a.m a.color a.text) else ([]:List UInt8)))))))))))))))))))))))))))))))))))))))))))))))
def tC (k:Int):List Value→Value→Prop:=C2z (fun a=>a.kind=k∧B1z a) A4v
theorem tcv {Φ:List Pers} {v:Value} {pre:Act→Prop} {f:Act→List UInt8} {k:Int} (h:R0 Φ (L7 Tryz.prog v (C2z pre f))) (e:∀ a:Act,a.kind=k→B1z a→pre a:=by intro a b c;unfold B1z at c;first|trivial|omega|(simp only [List.length_cons,List.length_nil];omega)) (g:∀ a:Act,a.kind=k→f a=A4v a:=by intro a b;unfold A4v;simp only [b];rfl):R0 Φ (L7 Tryz.prog v (tC k)) :=
 D2p h (fun args r d=>by obtain ⟨a,⟨b,c⟩,rfl,rfl⟩:=d;exact ⟨a,e a b c,rfl,congrArg sv (g a b).symm⟩)
def B8v:Unit :=
 ()
theorem otw {p:Prop} (h:p:=by dsimp only;omega):p:=h
set_option maxHeartbeats 8000000 in
theorem C5o (R:Unit) (hR:B8v=R):Con Tryz.prog 29 [] [] [K0,S7,P0,O4] ({t:Nat×List (Int×Value) // t.2.map Prod.fst=[1,2,3,4,5,6,7,8,9,10,11,12,13,15,16,14,17,18,20,21,33,19,22,23,24,25,28,29,30,31,32,34,26,27,35,40,36,37,38,41,42,43,39,44,45,46]}) (fun x=>.map (some x.1.1)) (fun x=>[(x.1.1,.map (B3 x.1.2 0).toArray x.1.2.length)]) (fun x=>[C1k Tryz.prog x.1.2 tC]):=by
 refine zco Tryz.func29 [] fun X hX hr hD=>?_
 replace hR:=(B8v.eq_1 ..).symm.trans hR
 refine sr 1 rfl (ip' 1 0 [] (ie (sr 1 rfl (ip' 1 0 [(1,.func (.func 84) #[] #[])] (ie (sr 1 rfl (ip' 1 0 [(2,.func (.func 86) #[] #[])] (ie (sr 1 rfl (ip' 1 0 [(3,.func (.func 89) #[] #[])] (ie (sr 1 rfl (ip' 1 0 [(4,.func (.func 92) #[] #[])] (ie (sr 1 rfl (ip' 1 0 [(5,.func (.func 94) #[] #[])] (ie (sr 1 rfl (ip' 1 0 [(6,.func (.func 95) #[] #[])] ?_)))))))))))))))))))
 refine ie (sr 124 rfl (it rfl (W7 rfl) fun b=>(D7 (q:=L7 Tryz.prog (.func (.func 97) #[] #[]) (tC 1)) (Q4 (C:=tC 1) (fun args r j=>by obtain ⟨a,⟨h,g⟩,rfl,rfl⟩:=j;obtain ⟨k_,f,e,c,d⟩:=a;dsimp only at h;subst h;unfold B1z at g;dsimp only at g;rw [show A4v (⟨1,f,e,c,d⟩:Act)=(A3b (⟨1,f,e,c,d⟩:Act)) from rfl];exact C1.of (C1l (a:=(⟨1,f,e,c,d⟩:Act)) rfl) rfl fn0) B0.refl) ?_)))
 refine it rfl (D9 (C:=tC) (l:=([]:List (Int×Value))) (ks:=[]) (k:=1) (Φ':=[K0,S7,P0,O4]) Q2 (.inl rfl) rfl rfl rfl 0 rfl rfl ozw D7w (B1 0 rfl) (B0.pick [1,2,3,4] rfl)) fun ⟨ao,dj⟩=>?_
 refine ip' 1 121 [(8,.func (.func 84) #[] #[])] (it rfl (C8 (L2:=[(b,.map (B3 ao 0).toArray ao.length)]) (K9 (s:=([7]:List UInt8)) rfl) rfl rfl rfl rfl rfl fn0 (List.Perm.refl _) (fun u4=>[(b,.map (B3 ao 0).toArray ao.length)]) (fun _=>rfl)) fun u4=>?_)
 refine D7 (q:=L7 Tryz.prog (u4) (tC 2)) (tcv (B1 0 rfl)) ?_
 refine it rfl (D9 (C:=tC) (k:=2) (Φ':=[K0,S7,P0,O4]) Q2 (.inl rfl) rfl rfl rfl 0 rfl dj ozw (B1 2 rfl) (B1 0 rfl) (B0.pick [3,4,5,6] rfl)) fun ⟨ap,da⟩=>?_
 refine ip' 1 118 [(10,.func (.func 84) #[] #[])] (it rfl (C8 (L2:=[(b,.map (B3 ap 0).toArray ap.length)]) (K9 (s:=([8]:List UInt8)) rfl) rfl rfl rfl rfl rfl fn0 (List.Perm.refl _) (fun u7=>[(b,.map (B3 ap 0).toArray ap.length)]) (fun _=>rfl)) fun u7=>?_)
 refine D7 (q:=L7 Tryz.prog (u7) (tC 3)) (tcv (B1 0 rfl)) ?_
 refine it rfl (D9 (C:=tC) (k:=3) (Φ':=[K0,S7,P0,O4]) Q2 (.inl rfl) rfl rfl rfl 0 rfl da ozw (B1 2 rfl) (B1 0 rfl) (B0.pick [3,4,5,6] rfl)) fun ⟨ar,db⟩=>?_
 refine ip' 1 115 [(12,.func (.func 84) #[] #[])] (it rfl (C8 (L2:=[(b,.map (B3 ar 0).toArray ar.length)]) (K9 (s:=([9]:List UInt8)) rfl) rfl rfl rfl rfl rfl fn0 (List.Perm.refl _) (fun cp=>[(b,.map (B3 ar 0).toArray ar.length)]) (fun _=>rfl)) fun cp=>?_)
 refine D7 (q:=L7 Tryz.prog (cp) (tC 4)) (tcv (B1 0 rfl)) ?_
 refine it rfl (D9 (C:=tC) (k:=4) (Φ':=[K0,S7,P0,O4]) Q2 (.inl rfl) rfl rfl rfl 0 rfl db ozw (B1 2 rfl) (B1 0 rfl) (B0.pick [3,4,5,6] rfl)) fun ⟨a0,d5⟩=>?_
 refine ip' 1 112 [(14,.func (.func 84) #[] #[])] (it rfl (C8 (L2:=[(b,.map (B3 a0 0).toArray a0.length)]) (K9 (s:=([10]:List UInt8)) rfl) rfl rfl rfl rfl rfl fn0 (List.Perm.refl _) (fun bm=>[(b,.map (B3 a0 0).toArray a0.length)]) (fun _=>rfl)) fun bm=>?_)
 refine D7 (q:=L7 Tryz.prog (bm) (tC 5)) (tcv (B1 0 rfl)) ?_
 refine it rfl (D9 (C:=tC) (k:=5) (Φ':=[K0,S7,P0,O4]) Q2 (.inl rfl) rfl rfl rfl 0 rfl d5 ozw (B1 2 rfl) (B1 0 rfl) (B0.pick [3,4,5,6] rfl)) fun ⟨a3,cu⟩=>?_
 refine ip' 1 109 [(16,.func (.func 84) #[] #[])] (it rfl (C8 (L2:=[(b,.map (B3 a3 0).toArray a3.length)]) (K9 (s:=([13]:List UInt8)) rfl) rfl rfl rfl rfl rfl fn0 (List.Perm.refl _) (fun c4=>[(b,.map (B3 a3 0).toArray a3.length)]) (fun _=>rfl)) fun c4=>?_)
 refine D7 (q:=L7 Tryz.prog (c4) (tC 6)) (tcv (B1 0 rfl)) ?_
 refine it rfl (D9 (C:=tC) (k:=6) (Φ':=[K0,S7,P0,O4]) Q2 (.inl rfl) rfl rfl rfl 0 rfl cu ozw (B1 2 rfl) (B1 0 rfl) (B0.pick [3,4,5,6] rfl)) fun ⟨al,cc⟩=>?_
 refine ip' 1 106 [(18,.func (.func 86) #[] #[])] (it rfl (C8 (L2:=[(b,.map (B3 al 0).toArray al.length)]) (A6m (front:=([]:List UInt8)) (signs:=([15,14]:List UInt8)) (first:=0) rfl oph) rfl rfl rfl rfl rfl fn0 (List.Perm.refl _) (fun d3=>[(b,.map (B3 al 0).toArray al.length)]) (fun _=>rfl)) fun d3=>?_)
 refine D7 (q:=L7 Tryz.prog (d3) (tC 7)) (tcv (B1 0 rfl)) ?_
 refine it rfl (D9 (C:=tC) (k:=7) (Φ':=[K0,S7,P0,O4]) Q2 (.inl rfl) rfl rfl rfl 0 rfl cc ozw (B1 2 rfl) (B1 0 rfl) (B0.pick [3,4,5,6] rfl)) fun ⟨a2,cj⟩=>?_
 refine ip' 1 103 [(20,.func (.func 84) #[] #[])] (it rfl (C8 (L2:=[(b,.map (B3 a2 0).toArray a2.length)]) (K9 (s:=([27,68]:List UInt8)) rfl) rfl rfl rfl rfl rfl fn0 (List.Perm.refl _) (fun cb=>[(b,.map (B3 a2 0).toArray a2.length)]) (fun _=>rfl)) fun cb=>?_)
 refine D7 (q:=L7 Tryz.prog (cb) (tC 8)) (tcv (B1 0 rfl)) ?_
 refine it rfl (D9 (C:=tC) (k:=8) (Φ':=[K0,S7,P0,O4]) Q2 (.inl rfl) rfl rfl rfl 0 rfl cj ozw (B1 2 rfl) (B1 0 rfl) (B0.pick [3,4,5,6] rfl)) fun ⟨a1,cd⟩=>?_
 refine ip' 1 100 [(22,.func (.func 84) #[] #[])] (it rfl (C8 (L2:=[(b,.map (B3 a1 0).toArray a1.length)]) (K9 (s:=([27,69]:List UInt8)) rfl) rfl rfl rfl rfl rfl fn0 (List.Perm.refl _) (fun bo=>[(b,.map (B3 a1 0).toArray a1.length)]) (fun _=>rfl)) fun bo=>?_)
 refine D7 (q:=L7 Tryz.prog (bo) (tC 9)) (tcv (B1 0 rfl)) ?_
 refine it rfl (D9 (C:=tC) (k:=9) (Φ':=[K0,S7,P0,O4]) Q2 (.inl rfl) rfl rfl rfl 0 rfl cd ozw (B1 2 rfl) (B1 0 rfl) (B0.pick [3,4,5,6] rfl)) fun ⟨ac,c9⟩=>?_
 refine ip' 1 97 [(24,.func (.func 84) #[] #[])] (it rfl (C8 (L2:=[(b,.map (B3 ac 0).toArray ac.length)]) (K9 (s:=([27,72]:List UInt8)) rfl) rfl rfl rfl rfl rfl fn0 (List.Perm.refl _) (fun bu=>[(b,.map (B3 ac 0).toArray ac.length)]) (fun _=>rfl)) fun bu=>?_)
 refine D7 (q:=L7 Tryz.prog (bu) (tC 10)) (tcv (B1 0 rfl)) ?_
 refine it rfl (D9 (C:=tC) (k:=10) (Φ':=[K0,S7,P0,O4]) Q2 (.inl rfl) rfl rfl rfl 0 rfl c9 ozw (B1 2 rfl) (B1 0 rfl) (B0.pick [3,4,5,6] rfl)) fun ⟨ab,d0⟩=>?_
 refine ip' 1 94 [(26,.func (.func 84) #[] #[])] (it rfl (C8 (L2:=[(b,.map (B3 ab 0).toArray ab.length)]) (K9 (s:=([27,77]:List UInt8)) rfl) rfl rfl rfl rfl rfl fn0 (List.Perm.refl _) (fun bn=>[(b,.map (B3 ab 0).toArray ab.length)]) (fun _=>rfl)) fun bn=>?_)
 refine D7 (q:=L7 Tryz.prog (bn) (tC 11)) (tcv (B1 0 rfl)) ?_
 refine it rfl (D9 (C:=tC) (k:=11) (Φ':=[K0,S7,P0,O4]) Q2 (.inl rfl) rfl rfl rfl 0 rfl d0 ozw (B1 2 rfl) (B1 0 rfl) (B0.pick [3,4,5,6] rfl)) fun ⟨an,c6⟩=>?_
 refine ip' 1 91 [(28,.func (.func 84) #[] #[])] (it rfl (C8 (L2:=[(b,.map (B3 an 0).toArray an.length)]) (K9 (s:=([27,55]:List UInt8)) rfl) rfl rfl rfl rfl rfl fn0 (List.Perm.refl _) (fun d1=>[(b,.map (B3 an 0).toArray an.length)]) (fun _=>rfl)) fun d1=>?_)
 refine D7 (q:=L7 Tryz.prog (d1) (tC 12)) (tcv (B1 0 rfl)) ?_
 refine it rfl (D9 (C:=tC) (k:=12) (Φ':=[K0,S7,P0,O4]) Q2 (.inl rfl) rfl rfl rfl 0 rfl c6 ozw (B1 2 rfl) (B1 0 rfl) (B0.pick [3,4,5,6] rfl)) fun ⟨a5,ck⟩=>?_
 refine ip' 1 88 [(30,.func (.func 84) #[] #[])] (it rfl (C8 (L2:=[(b,.map (B3 a5 0).toArray a5.length)]) (K9 (s:=([27,56]:List UInt8)) rfl) rfl rfl rfl rfl rfl fn0 (List.Perm.refl _) (fun cr=>[(b,.map (B3 a5 0).toArray a5.length)]) (fun _=>rfl)) fun cr=>?_)
 refine D7 (q:=L7 Tryz.prog (cr) (tC 13)) (tcv (B1 0 rfl)) ?_
 refine it rfl (D9 (C:=tC) (k:=13) (Φ':=[K0,S7,P0,O4]) Q2 (.inl rfl) rfl rfl rfl 0 rfl ck ozw (B1 2 rfl) (B1 0 rfl) (B0.pick [3,4,5,6] rfl)) fun ⟨aj,d4⟩=>?_
 refine ip' 1 85 [(32,.func (.func 84) #[] #[])] (it rfl (C8 (L2:=[(b,.map (B3 aj 0).toArray aj.length)]) (K9 (s:=([27,99]:List UInt8)) rfl) rfl rfl rfl rfl rfl fn0 (List.Perm.refl _) (fun cm=>[(b,.map (B3 aj 0).toArray aj.length)]) (fun _=>rfl)) fun cm=>?_)
 refine D7 (q:=L7 Tryz.prog (cm) (tC 15)) (tcv (B1 0 rfl)) ?_
 refine it rfl (D9 (C:=tC) (k:=15) (Φ':=[K0,S7,P0,O4]) Q2 (.inl rfl) rfl rfl rfl 0 rfl d4 ozw (B1 2 rfl) (B1 0 rfl) (B0.pick [3,4,5,6] rfl)) fun ⟨z,bz⟩=>?_
 refine ip' 1 82 [(34,.func (.func 84) #[] #[])] (it rfl (C8 (L2:=[(b,.map (B3 z 0).toArray z.length)]) (K9 (s:=([27,35,56]:List UInt8)) rfl) rfl rfl rfl rfl rfl fn0 (List.Perm.refl _) (fun c7=>[(b,.map (B3 z 0).toArray z.length)]) (fun _=>rfl)) fun c7=>?_)
 refine D7 (q:=L7 Tryz.prog (c7) (tC 16)) (tcv (B1 0 rfl)) ?_
 refine it rfl (D9 (C:=tC) (k:=16) (Φ':=[K0,S7,P0,O4]) Q2 (.inl rfl) rfl rfl rfl 0 rfl bz ozw (B1 2 rfl) (B1 0 rfl) (B0.pick [3,4,5,6] rfl)) fun ⟨y,cv⟩=>?_
 refine ip' 1 79 [(36,.func (.func 86) #[] #[])] (it rfl (C8 (L2:=[(b,.map (B3 y 0).toArray y.length)]) (A6m (front:=([27]:List UInt8)) (signs:=([62,61]:List UInt8)) (first:=0) rfl oph) rfl rfl rfl rfl rfl fn0 (List.Perm.refl _) (fun bq=>[(b,.map (B3 y 0).toArray y.length)]) (fun _=>rfl)) fun bq=>?_)
 refine D7 (q:=L7 Tryz.prog (bq) (tC 14)) (tcv (B1 0 rfl)) ?_
 refine it rfl (D9 (C:=tC) (k:=14) (Φ':=[K0,S7,P0,O4]) Q2 (.inl rfl) rfl rfl rfl 0 rfl cv ozw (B1 2 rfl) (B1 0 rfl) (B0.pick [3,4,5,6] rfl)) fun ⟨dl,c3⟩=>?_
 refine D7 (q:=L7 Tryz.prog (.func (.func 99) #[] #[]) (tC 17)) (Q4 (C:=tC 17) (fun args r j=>by obtain ⟨a,⟨h,g⟩,rfl,rfl⟩:=j;obtain ⟨k_,f,e,c,d⟩:=a;dsimp only at h;subst h;unfold B1z at g;dsimp only at g;rw [show A4v (⟨17,f,e,c,d⟩:Act)=(A3h (⟨17,f,e,c,d⟩:Act)) from rfl];exact C1.of (C0z (a:=(⟨17,f,e,c,d⟩:Act)) rfl otw) rfl fn0) B0.refl) ?_
 refine it rfl (D9 (C:=tC) (k:=17) (Φ':=[K0,S7,P0,O4]) Q2 (.inl rfl) rfl rfl rfl 0 rfl c3 ozw (B1 1 rfl) (B1 0 rfl) (B0.pick [2,3,4,5] rfl)) fun ⟨a6,co⟩=>?_
 refine ip' 1 75 [(38,.func (.func 86) #[] #[])] (it rfl (C8 (L2:=[(b,.map (B3 a6 0).toArray a6.length)]) (A6m (front:=([27]:List UInt8)) (signs:=([78,79]:List UInt8)) (first:=2) rfl oph) rfl rfl rfl rfl rfl fn0 (List.Perm.refl _) (fun ce=>[(b,.map (B3 a6 0).toArray a6.length)]) (fun _=>rfl)) fun ce=>?_)
 refine D7 (q:=L7 Tryz.prog (ce) (tC 18)) (tcv (B1 0 rfl)) ?_
 refine it rfl (D9 (C:=tC) (k:=18) (Φ':=[K0,S7,P0,O4]) Q2 (.inl rfl) rfl rfl rfl 0 rfl co ozw (B1 2 rfl) (B1 0 rfl) (B0.pick [3,4,5,6] rfl)) fun ⟨am,c8⟩=>?_
 refine ip' 1 72 [(40,.func (.func 92) #[] #[])] (it rfl (C8 (L2:=[(b,.map (B3 am 0).toArray am.length)]) (A6n (signs:=([65,66,67,68]:List UInt8)) rfl oph) rfl rfl rfl rfl rfl (B0.pick [1] rfl) (List.Perm.refl _) (fun bi=>[(b,.map (B3 am 0).toArray am.length)]) (fun _=>rfl)) fun bi=>?_)
 refine D7 (q:=L7 Tryz.prog (bi) (tC 20)) (tcv (B1 0 rfl)) ?_
 refine it rfl (D9 (C:=tC) (k:=20) (Φ':=[K0,S7,P0,O4]) Q2 (.inl rfl) rfl rfl rfl 0 rfl c8 ozw (B1 2 rfl) (B1 0 rfl) (B0.pick [3,4,5,6] rfl)) fun ⟨af,ci⟩=>?_
 refine ip' 1 69 [(42,.func (.func 92) #[] #[])] (it rfl (C8 (L2:=[(b,.map (B3 af 0).toArray af.length)]) (A6n (signs:=([69,70]:List UInt8)) rfl oph) rfl rfl rfl rfl rfl (B0.pick [1] rfl) (List.Perm.refl _) (fun bj=>[(b,.map (B3 af 0).toArray af.length)]) (fun _=>rfl)) fun bj=>?_)
 refine D7 (q:=L7 Tryz.prog (bj) (tC 21)) (tcv (B1 0 rfl)) ?_
 refine it rfl (D9 (C:=tC) (k:=21) (Φ':=[K0,S7,P0,O4]) Q2 (.inl rfl) rfl rfl rfl 0 rfl ci ozw (B1 2 rfl) (B1 0 rfl) (B0.pick [3,4,5,6] rfl)) fun ⟨a8,be⟩=>?_
 refine ip' 1 66 [(44,.func (.func 92) #[] #[])] (it rfl (C8 (L2:=[(b,.map (B3 a8 0).toArray a8.length)]) (A6n (signs:=([83,84]:List UInt8)) rfl oph) rfl rfl rfl rfl rfl (B0.pick [1] rfl) (List.Perm.refl _) (fun cf=>[(b,.map (B3 a8 0).toArray a8.length)]) (fun _=>rfl)) fun cf=>?_)
 refine D7 (q:=L7 Tryz.prog (cf) (tC 33)) (tcv (B1 0 rfl)) ?_
 refine it rfl (D9 (C:=tC) (k:=33) (Φ':=[K0,S7,P0,O4]) Q2 (.inl rfl) rfl rfl rfl 0 rfl be ozw (B1 2 rfl) (B1 0 rfl) (B0.pick [3,4,5,6] rfl)) fun ⟨dn,cq⟩=>?_
 refine D7 (q:=L7 Tryz.prog (.func (.func 100) #[] #[]) (tC 19)) (Q4 (C:=tC 19) (fun args r j=>by obtain ⟨a,⟨h,g⟩,rfl,rfl⟩:=j;obtain ⟨k_,f,e,c,d⟩:=a;dsimp only at h;subst h;unfold B1z at g;dsimp only at g;rw [show A4v (⟨19,f,e,c,d⟩:Act)=(A3f (⟨19,f,e,c,d⟩:Act)) from rfl];exact C1.of (C1f (a:=(⟨19,f,e,c,d⟩:Act)) rfl) rfl (B0.pick [1] rfl)) B0.refl) ?_
 refine it rfl (D9 (C:=tC) (k:=19) (Φ':=[K0,S7,P0,O4]) Q2 (.inl rfl) rfl rfl rfl 0 rfl cq ozw (B1 1 rfl) (B1 0 rfl) (B0.pick [2,3,4,5] rfl)) fun ⟨v,cz⟩=>?_
 refine ip' 1 62 [(46,.func (.func 89) #[] #[])] (it rfl (C8 (L2:=[(b,.map (B3 v 0).toArray v.length)]) (J0 (none_:=1) (last:=([71]:List UInt8)) rfl oph) rfl rfl rfl rfl rfl (B0.pick [1] rfl) (List.Perm.refl _) (fun cg=>[(b,.map (B3 v 0).toArray v.length)]) (fun _=>rfl)) fun cg=>?_)
 refine D7 (q:=L7 Tryz.prog (cg) (tC 22)) (tcv (B1 0 rfl)) ?_
 refine it rfl (D9 (C:=tC) (k:=22) (Φ':=[K0,S7,P0,O4]) Q2 (.inl rfl) rfl rfl rfl 0 rfl cz ozw (B1 2 rfl) (B1 0 rfl) (B0.pick [3,4,5,6] rfl)) fun ⟨u,bl⟩=>?_
 refine ip' 1 59 [(48,.func (.func 89) #[] #[])] (it rfl (C8 (L2:=[(b,.map (B3 u 0).toArray u.length)]) (J0 (none_:=1) (last:=([100]:List UInt8)) rfl oph) rfl rfl rfl rfl rfl (B0.pick [1] rfl) (List.Perm.refl _) (fun br=>[(b,.map (B3 u 0).toArray u.length)]) (fun _=>rfl)) fun br=>?_)
 refine D7 (q:=L7 Tryz.prog (br) (tC 23)) (tcv (B1 0 rfl)) ?_
 refine it rfl (D9 (C:=tC) (k:=23) (Φ':=[K0,S7,P0,O4]) Q2 (.inl rfl) rfl rfl rfl 0 rfl bl ozw (B1 2 rfl) (B1 0 rfl) (B0.pick [3,4,5,6] rfl)) fun ⟨ah,ch⟩=>?_
 refine ip' 1 56 [(50,.func (.func 89) #[] #[])] (it rfl (C8 (L2:=[(b,.map (B3 ah 0).toArray ah.length)]) (J0 (none_:=1) (last:=([73]:List UInt8)) rfl oph) rfl rfl rfl rfl rfl (B0.pick [1] rfl) (List.Perm.refl _) (fun c2=>[(b,.map (B3 ah 0).toArray ah.length)]) (fun _=>rfl)) fun c2=>?_)
 refine D7 (q:=L7 Tryz.prog (c2) (tC 24)) (tcv (B1 0 rfl)) ?_
 refine it rfl (D9 (C:=tC) (k:=24) (Φ':=[K0,S7,P0,O4]) Q2 (.inl rfl) rfl rfl rfl 0 rfl ch ozw (B1 2 rfl) (B1 0 rfl) (B0.pick [3,4,5,6] rfl)) fun ⟨ad,cs⟩=>?_
 refine ip' 1 53 [(52,.func (.func 89) #[] #[])] (it rfl (C8 (L2:=[(b,.map (B3 ad 0).toArray ad.length)]) (J0 (none_:=1) (last:=([90]:List UInt8)) rfl oph) rfl rfl rfl rfl rfl (B0.pick [1] rfl) (List.Perm.refl _) (fun c5=>[(b,.map (B3 ad 0).toArray ad.length)]) (fun _=>rfl)) fun c5=>?_)
 refine D7 (q:=L7 Tryz.prog (c5) (tC 25)) (tcv (B1 0 rfl)) ?_
 refine it rfl (D9 (C:=tC) (k:=25) (Φ':=[K0,S7,P0,O4]) Q2 (.inl rfl) rfl rfl rfl 0 rfl cs ozw (B1 2 rfl) (B1 0 rfl) (B0.pick [3,4,5,6] rfl)) fun ⟨a4,d2⟩=>?_
 refine ip' 1 50 [(54,.func (.func 89) #[] #[])] (it rfl (C8 (L2:=[(b,.map (B3 a4 0).toArray a4.length)]) (J0 (none_:=1) (last:=([64]:List UInt8)) rfl oph) rfl rfl rfl rfl rfl (B0.pick [1] rfl) (List.Perm.refl _) (fun bp=>[(b,.map (B3 a4 0).toArray a4.length)]) (fun _=>rfl)) fun bp=>?_)
 refine D7 (q:=L7 Tryz.prog (bp) (tC 28)) (tcv (B1 0 rfl)) ?_
 refine it rfl (D9 (C:=tC) (k:=28) (Φ':=[K0,S7,P0,O4]) Q2 (.inl rfl) rfl rfl rfl 0 rfl d2 ozw (B1 2 rfl) (B1 0 rfl) (B0.pick [3,4,5,6] rfl)) fun ⟨w,c0⟩=>?_
 refine ip' 1 47 [(56,.func (.func 89) #[] #[])] (it rfl (C8 (L2:=[(b,.map (B3 w 0).toArray w.length)]) (J0 (none_:=1) (last:=([80]:List UInt8)) rfl oph) rfl rfl rfl rfl rfl (B0.pick [1] rfl) (List.Perm.refl _) (fun c1=>[(b,.map (B3 w 0).toArray w.length)]) (fun _=>rfl)) fun c1=>?_)
 refine D7 (q:=L7 Tryz.prog (c1) (tC 29)) (tcv (B1 0 rfl)) ?_
 refine it rfl (D9 (C:=tC) (k:=29) (Φ':=[K0,S7,P0,O4]) Q2 (.inl rfl) rfl rfl rfl 0 rfl c0 ozw (B1 2 rfl) (B1 0 rfl) (B0.pick [3,4,5,6] rfl)) fun ⟨ae,d7⟩=>?_
 refine ip' 1 44 [(58,.func (.func 89) #[] #[])] (it rfl (C8 (L2:=[(b,.map (B3 ae 0).toArray ae.length)]) (J0 (none_:=1) (last:=([88]:List UInt8)) rfl oph) rfl rfl rfl rfl rfl (B0.pick [1] rfl) (List.Perm.refl _) (fun d6=>[(b,.map (B3 ae 0).toArray ae.length)]) (fun _=>rfl)) fun d6=>?_)
 refine D7 (q:=L7 Tryz.prog (d6) (tC 30)) (tcv (B1 0 rfl)) ?_
 refine it rfl (D9 (C:=tC) (k:=30) (Φ':=[K0,S7,P0,O4]) Q2 (.inl rfl) rfl rfl rfl 0 rfl d7 ozw (B1 2 rfl) (B1 0 rfl) (B0.pick [3,4,5,6] rfl)) fun ⟨a9,bw⟩=>?_
 refine ip' 1 41 [(60,.func (.func 89) #[] #[])] (it rfl (C8 (L2:=[(b,.map (B3 a9 0).toArray a9.length)]) (J0 (none_:=1) (last:=([76]:List UInt8)) rfl oph) rfl rfl rfl rfl rfl (B0.pick [1] rfl) (List.Perm.refl _) (fun ca=>[(b,.map (B3 a9 0).toArray a9.length)]) (fun _=>rfl)) fun ca=>?_)
 refine D7 (q:=L7 Tryz.prog (ca) (tC 31)) (tcv (B1 0 rfl)) ?_
 refine it rfl (D9 (C:=tC) (k:=31) (Φ':=[K0,S7,P0,O4]) Q2 (.inl rfl) rfl rfl rfl 0 rfl bw ozw (B1 2 rfl) (B1 0 rfl) (B0.pick [3,4,5,6] rfl)) fun ⟨aa,cy⟩=>?_
 refine ip' 1 38 [(62,.func (.func 89) #[] #[])] (it rfl (C8 (L2:=[(b,.map (B3 aa 0).toArray aa.length)]) (J0 (none_:=1) (last:=([77]:List UInt8)) rfl oph) rfl rfl rfl rfl rfl (B0.pick [1] rfl) (List.Perm.refl _) (fun bg=>[(b,.map (B3 aa 0).toArray aa.length)]) (fun _=>rfl)) fun bg=>?_)
 refine D7 (q:=L7 Tryz.prog (bg) (tC 32)) (tcv (B1 0 rfl)) ?_
 refine it rfl (D9 (C:=tC) (k:=32) (Φ':=[K0,S7,P0,O4]) Q2 (.inl rfl) rfl rfl rfl 0 rfl cy ozw (B1 2 rfl) (B1 0 rfl) (B0.pick [3,4,5,6] rfl)) fun ⟨a7,cn⟩=>?_
 refine ip' 1 35 [(64,.func (.func 89) #[] #[])] (it rfl (C8 (L2:=[(b,.map (B3 a7 0).toArray a7.length)]) (J0 (none_:=1) (last:=([98]:List UInt8)) rfl oph) rfl rfl rfl rfl rfl (B0.pick [1] rfl) (List.Perm.refl _) (fun ct=>[(b,.map (B3 a7 0).toArray a7.length)]) (fun _=>rfl)) fun ct=>?_)
 refine D7 (q:=L7 Tryz.prog (ct) (tC 34)) (tcv (B1 0 rfl)) ?_
 refine it rfl (D9 (C:=tC) (k:=34) (Φ':=[K0,S7,P0,O4]) Q2 (.inl rfl) rfl rfl rfl 0 rfl cn ozw (B1 2 rfl) (B1 0 rfl) (B0.pick [3,4,5,6] rfl)) fun ⟨ai,cw⟩=>?_
 refine ip' 1 32 [(66,.func (.func 89) #[] #[])] (it rfl (C8 (L2:=[(b,.map (B3 ai 0).toArray ai.length)]) (J0 (none_:=0) (last:=([74]:List UInt8)) rfl oph) rfl rfl rfl rfl rfl (B0.pick [1] rfl) (List.Perm.refl _) (fun cl=>[(b,.map (B3 ai 0).toArray ai.length)]) (fun _=>rfl)) fun cl=>?_)
 refine D7 (q:=L7 Tryz.prog (cl) (tC 26)) (tcv (B1 0 rfl)) ?_
 refine it rfl (D9 (C:=tC) (k:=26) (Φ':=[K0,S7,P0,O4]) Q2 (.inl rfl) rfl rfl rfl 0 rfl cw ozw (B1 2 rfl) (B1 0 rfl) (B0.pick [3,4,5,6] rfl)) fun ⟨ak,bk⟩=>?_
 refine ip' 1 29 [(68,.func (.func 89) #[] #[])] (it rfl (C8 (L2:=[(b,.map (B3 ak 0).toArray ak.length)]) (J0 (none_:=0) (last:=([75]:List UInt8)) rfl oph) rfl rfl rfl rfl rfl (B0.pick [1] rfl) (List.Perm.refl _) (fun bh=>[(b,.map (B3 ak 0).toArray ak.length)]) (fun _=>rfl)) fun bh=>?_)
 refine D7 (q:=L7 Tryz.prog (bh) (tC 27)) (tcv (B1 0 rfl)) ?_
 refine it rfl (D9 (C:=tC) (k:=27) (Φ':=[K0,S7,P0,O4]) Q2 (.inl rfl) rfl rfl rfl 0 rfl bk ozw (B1 2 rfl) (B1 0 rfl) (B0.pick [3,4,5,6] rfl)) fun ⟨p,b5⟩=>?_
 refine ip' 1 26 [(70,.func (.func 89) #[] #[])] (it rfl (C8 (L2:=[(b,.map (B3 p 0).toArray p.length)]) (J0 (none_:=0) (last:=([103]:List UInt8)) rfl oph) rfl rfl rfl rfl rfl (B0.pick [1] rfl) (List.Perm.refl _) (fun ax=>[(b,.map (B3 p 0).toArray p.length)]) (fun _=>rfl)) fun ax=>?_)
 refine D7 (q:=L7 Tryz.prog (ax) (tC 35)) (tcv (B1 0 rfl)) ?_
 refine it rfl (D9 (C:=tC) (k:=35) (Φ':=[K0,S7,P0,O4]) Q2 (.inl rfl) rfl rfl rfl 0 rfl b5 ozw (B1 2 rfl) (B1 0 rfl) (B0.pick [3,4,5,6] rfl)) fun ⟨n,b8⟩=>?_
 refine ip' 1 23 [(72,.func (.func 89) #[] #[])] (it rfl (C8 (L2:=[(b,.map (B3 n 0).toArray n.length)]) (J0 (none_:=0) (last:=([32,113]:List UInt8)) rfl oph) rfl rfl rfl rfl rfl (B0.pick [1] rfl) (List.Perm.refl _) (fun av=>[(b,.map (B3 n 0).toArray n.length)]) (fun _=>rfl)) fun av=>?_)
 refine D7 (q:=L7 Tryz.prog (av) (tC 40)) (tcv (B1 0 rfl)) ?_
 refine it rfl (D9 (C:=tC) (k:=40) (Φ':=[K0,S7,P0,O4]) Q2 (.inl rfl) rfl rfl rfl 0 rfl b8 ozw (B1 2 rfl) (B1 0 rfl) (B0.pick [3,4,5,6] rfl)) fun ⟨m,b6⟩=>?_
 refine ip' 1 20 [(74,.func (.func 95) #[] #[])] (it rfl (C8 (L2:=[(b,.map (B3 m 0).toArray m.length)]) (B1t (front:=([]:List UInt8)) rfl oph) rfl rfl rfl rfl rfl (B0.pick [1] rfl) (List.Perm.refl _) (fun au=>[(b,.map (B3 m 0).toArray m.length)]) (fun _=>rfl)) fun au=>?_)
 refine D7 (q:=L7 Tryz.prog (au) (tC 36)) (tcv (B1 0 rfl)) ?_
 refine it rfl (D9 (C:=tC) (k:=36) (Φ':=[K0,S7,P0,O4]) Q2 (.inl rfl) rfl rfl rfl 0 rfl b6 ozw (B1 2 rfl) (B1 0 rfl) (B0.pick [3,4,5,6] rfl)) fun ⟨i,b4⟩=>?_
 refine ip' 1 17 [(76,.func (.func 95) #[] #[])] (it rfl (C8 (L2:=[(b,.map (B3 i 0).toArray i.length)]) (B1t (front:=([63]:List UInt8)) rfl oph) rfl rfl rfl rfl rfl (B0.pick [1] rfl) (List.Perm.refl _) (fun ay=>[(b,.map (B3 i 0).toArray i.length)]) (fun _=>rfl)) fun ay=>?_)
 refine D7 (q:=L7 Tryz.prog (ay) (tC 37)) (tcv (B1 0 rfl)) ?_
 refine it rfl (D9 (C:=tC) (k:=37) (Φ':=[K0,S7,P0,O4]) Q2 (.inl rfl) rfl rfl rfl 0 rfl b4 ozw (B1 2 rfl) (B1 0 rfl) (B0.pick [3,4,5,6] rfl)) fun ⟨dc,bb⟩=>?_
 refine D7 (q:=L7 Tryz.prog (.func (.func 101) #[] #[]) (tC 38)) (Q4 (C:=tC 38) (fun args r j=>by obtain ⟨a,⟨h,g⟩,rfl,rfl⟩:=j;obtain ⟨k_,f,e,c,d⟩:=a;dsimp only at h;subst h;unfold B1z at g;dsimp only at g;rw [show A4v (⟨38,f,e,c,d⟩:Act)=(A2l (⟨38,f,e,c,d⟩:Act)) from rfl];exact C1.of (C0c (a:=(⟨38,f,e,c,d⟩:Act)) rfl) rfl (B0.pick [1] rfl)) B0.refl) ?_
 refine it rfl (D9 (C:=tC) (k:=38) (Φ':=[K0,S7,P0,O4]) Q2 (.inl rfl) rfl rfl rfl 0 rfl bb ozw (B1 1 rfl) (B1 0 rfl) (B0.pick [2,3,4,5] rfl)) fun ⟨o,b9⟩=>?_
 refine ip' 1 13 [(78,.func (.func 89) #[] #[])] (it rfl (C8 (L2:=[(b,.map (B3 o 0).toArray o.length)]) (J0 (none_:=(-2)) (last:=([110]:List UInt8)) rfl oph) rfl rfl rfl rfl rfl (B0.pick [1] rfl) (List.Perm.refl _) (fun aw=>[(b,.map (B3 o 0).toArray o.length)]) (fun _=>rfl)) fun aw=>?_)
 refine D7 (q:=L7 Tryz.prog (aw) (tC 41)) (tcv (B1 0 rfl)) ?_
 refine it rfl (D9 (C:=tC) (k:=41) (Φ':=[K0,S7,P0,O4]) Q2 (.inl rfl) rfl rfl rfl 0 rfl b9 ozw (B1 2 rfl) (B1 0 rfl) (B0.pick [3,4,5,6] rfl)) fun ⟨dh,ba⟩=>?_
 refine D7 (q:=L7 Tryz.prog (.func (.func 102) #[] #[]) (tC 42)) (Q4 (C:=tC 42) (fun args r j=>by obtain ⟨a,⟨h,g⟩,rfl,rfl⟩:=j;obtain ⟨k_,f,e,c,d⟩:=a;dsimp only at h;subst h;unfold B1z at g;dsimp only at g;rw [show A4v (⟨42,f,e,c,d⟩:Act)=(A2a (⟨42,f,e,c,d⟩:Act)) from rfl];exact C1.of (C0b (a:=(⟨42,f,e,c,d⟩:Act)) rfl otw) rfl fn0) B0.refl) ?_
 refine it rfl (D9 (C:=tC) (k:=42) (Φ':=[K0,S7,P0,O4]) Q2 (.inl rfl) rfl rfl rfl 0 rfl ba ozw (B1 1 rfl) (B1 0 rfl) (B0.pick [2,3,4,5] rfl)) fun ⟨d9,bd⟩=>?_
 refine D7 (q:=L7 Tryz.prog (.func (.func 103) #[] #[]) (tC 43)) (Q4 (C:=tC 43) (fun args r j=>by obtain ⟨a,⟨h,g⟩,rfl,rfl⟩:=j;obtain ⟨k_,f,e,c,d⟩:=a;dsimp only at h;subst h;unfold B1z at g;dsimp only at g;rw [show A4v (⟨43,f,e,c,d⟩:Act)=(A1z (⟨43,f,e,c,d⟩:Act)) from rfl];exact C1.of (B9q (a:=(⟨43,f,e,c,d⟩:Act)) rfl otw) rfl (B0.pick [1] rfl)) B0.refl) ?_
 refine it rfl (D9 (C:=tC) (k:=43) (Φ':=[K0,S7,P0,O4]) Q2 (.inl rfl) rfl rfl rfl 0 rfl bd ozw (B1 1 rfl) (B1 0 rfl) (B0.pick [2,3,4,5] rfl)) fun ⟨d8,b0⟩=>?_
 refine D7 (q:=L7 Tryz.prog (.func (.func 104) #[] #[]) (tC 39)) (Q4 (C:=tC 39) (fun args r j=>by obtain ⟨a,⟨h,g⟩,rfl,rfl⟩:=j;obtain ⟨k_,f,e,c,d⟩:=a;dsimp only at h;subst h;unfold B1z at g;dsimp only at g;rw [show A4v (⟨39,f,e,c,d⟩:Act)=(A2j (⟨39,f,e,c,d⟩:Act)) from rfl];exact C1.of (C0a (a:=(⟨39,f,e,c,d⟩:Act)) rfl) rfl (B0.pick [2,1] rfl)) B0.refl) ?_
 refine it rfl (D9 (C:=tC) (k:=39) (Φ':=[K0,S7,P0,O4]) Q2 (.inl rfl) rfl rfl rfl 0 rfl b0 ozw (B1 1 rfl) (B1 0 rfl) (B0.pick [2,3,4,5] rfl)) fun ⟨di,az⟩=>?_
 refine ip' 1 7 [(80,.func (.func 94) #[] #[])] (D7 (q:=L7 Tryz.prog (.func (.func 94) #[] #[]) (tC 44)) (Q4 (C:=tC 44) (fun args r j=>by obtain ⟨a,⟨h,g⟩,rfl,rfl⟩:=j;obtain ⟨k_,f,e,c,d⟩:=a;dsimp only at h;subst h;unfold B1z at g;dsimp only at g;rw [show A4v (⟨44,f,e,c,d⟩:Act)=(A2y f e c d) from rfl];exact C1.of (C1e f e c d opx _ rfl) rfl fn0) B0.refl) ?_)
 refine it rfl (D9 (C:=tC) (k:=44) (Φ':=[K0,S7,P0,O4]) Q2 (.inl rfl) rfl rfl rfl 0 rfl az ozw (B1 1 rfl) (B1 0 rfl) (B0.pick [2,3,4,5] rfl)) fun ⟨df,b7⟩=>?_
 refine ip' 1 5 [(81,.func (.func 94) #[] #[])] (D7 (q:=L7 Tryz.prog (.func (.func 94) #[] #[]) (tC 45)) (Q4 (C:=tC 45) (fun args r j=>by obtain ⟨a,⟨h,g⟩,rfl,rfl⟩:=j;obtain ⟨k_,f,e,c,d⟩:=a;dsimp only at h;subst h;unfold B1z at g;dsimp only at g;rw [show A4v (⟨45,f,e,c,d⟩:Act)=(A2i f e c d) from rfl];exact C1.of (B9b f e c d opx _ rfl) rfl (B0.pick [3,4,1] rfl)) B0.refl) ?_)
 refine it rfl (D9 (C:=tC) (k:=45) (Φ':=[K0,S7,P0,O4]) Q2 (.inl rfl) rfl rfl rfl 0 rfl b7 ozw (B1 1 rfl) (B1 0 rfl) (B0.pick [2,3,4,5] rfl)) fun ⟨dg,b3⟩=>?_
 refine ip' 1 3 [(82,.func (.func 94) #[] #[])] (D7 (q:=L7 Tryz.prog (.func (.func 94) #[] #[]) (tC 46)) (Q4 (C:=tC 46) (fun args r j=>by obtain ⟨a,⟨h,g⟩,rfl,rfl⟩:=j;obtain ⟨k_,f,e,c,d⟩:=a;dsimp only at h;subst h;unfold B1z at g;dsimp only at g;rw [show A4v (⟨46,f,e,c,d⟩:Act)=(A2h f e c d) from rfl];exact C1.of (B9k f e c d opx _ rfl) rfl fn0) B0.refl) ?_)
 refine it rfl (D9 (C:=tC) (k:=46) (Φ':=[K0,S7,P0,O4]) Q2 (.inl rfl) rfl rfl rfl 0 rfl b3 ozw (B1 1 rfl) (B1 0 rfl) (B0.pick [2,3,4,5] rfl)) fun ⟨b2,bc⟩=>?_
 refine ip' 2 0 [(0,.map (some b))] ?_
 subst hR
 refine ie (A8 ?_)
 exact zer hr hD (O3 rfl (B9 rfl)) ⟨(b,b2),bc⟩ (mk [true] rfl) (B0.con1 (B1 0 rfl) fn0)
end Go.Proofs.YtioaekgoceinkaaGreatDoor
