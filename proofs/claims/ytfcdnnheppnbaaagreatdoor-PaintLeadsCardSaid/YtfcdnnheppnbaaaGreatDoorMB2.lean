import Derived.Test.YtfcdnnheppnbaaaGreatDoorProg
import Derived.Test.YtfcdnnheppnbaaaGreatDoorMA2
import Derived.Test.YtfcdnnheppnbaaaGreatDoorMB1
import Derived.Test.YtfcdnnheppnbaaaGreatDoorMA3
set_option linter.unusedVariables false
set_option linter.unusedSimpArgs false
set_option linter.unnecessarySimpa false
set_option maxRecDepth 100000
namespace Go.Proofs.YtfcdnnheppnbaaaGreatDoor
open Go Go.Fen
@[reducible] def aL:Value := .int .u8 0
@[reducible] def aD:List MapEntry := [⟨iv 44,aE 182,0⟩,⟨iv 45,aE 185,1⟩,⟨iv 46,aE 188,2⟩]
@[reducible] def aC:Obj := .map (List.toArray aD) 3
def N9:List UInt8:=[48,49,50,51,52,53,54,55,56,57,97,98,99,100,101,102,103,104,105,106,107,108,109,110,111,112,113,114,115,116,117,118,119,120,121,122]
def E1m:List UInt8:=[65,66,67,68,69,70,71,72,73,74,75,76,77,78,79,80,81,82,83,84,85,86,87,88,89,90,97,98,99,100,101,102,103,104,105,106,107,108,109,110,111,112,113,114,115,116,117,118,119,120,121,122,48,49,50,51,52,53,54,55,56,57,43,47]
theorem N5:MapTy Tryz.prog 124 3 128 (.int .i64):=⟨by kernel_rfl,by kernel_rfl,rfl⟩
theorem D3j:MapTy Tryz.prog 155 3 127 (.int .i64):=⟨by kernel_rfl,by kernel_rfl,rfl⟩
theorem F4w:Ty Tryz.prog 167 1 false:=⟨by kernel_rfl⟩
def A5b (a:Act):List UInt8 :=
 (C2 (C0f a.n) fun (b:List UInt8)=>b)
theorem C5v {a:Act} {R:List UInt8} (hR:A5b a=R):J5 Tryz.prog 150 [ag (A1 a)] [] (sv R):=by
 refine bZ Tryz.func150 fun X hX hr hD=>?_
 replace hR:=(A5b.eq_1 ..).symm.trans hR
 refine bN rfl (zra 2 [] (fun c=>[(1,pt c 0)]) (fun _=>(A1 a)) 60 fun c=>(ie (bN rfl (cE 2 [0] 4 rfl ?_))))
 have e:=C9 hR;clear hR;obtain ⟨d,b,hR⟩:=e
 refine zv rfl (D2i b) ?_
 have:=B9u a.n;try rw [b] at this
 refine bO 1 2 rfl ?_
 subst hR
 refine ie (A8 ?_)
 exact G0 hr hD
def F4 (a:Act) (p1:List UInt8):List UInt8 :=
 p1
theorem C1y {b:Act} {p1:List UInt8} {a:Addr} {R:List UInt8} (hR:F4 b p1=R):J5 Tryz.prog 138 [ag (A1 b),pa a] [at_ a [sv p1]] (sv R):=by
 refine bZ Tryz.func138 fun X hX hr hD=>?_
 replace hR:=(F4.eq_1 ..).symm.trans hR
 refine bN rfl (zra 2 [] (fun c=>[]) (fun _=>(A1 b)) 60 fun c=>(ie (bN rfl (ix rfl (F2 ty9 rfl rfl (B8 0 rfl) rfl) (bO 1 3 rfl ?_)))))
 subst hR
 refine ie (A8 ?_)
 exact G0 hr hD
def C7q (pre:Act→Prop) (f:Act→List UInt8):List Value→Value→Prop:=fun args r=>∃ a:Act,pre a∧args=[ag (A1 a)]∧r=sv (f a)
def R0 (s:List UInt8):Unit :=
 ()
theorem N0 {s:List UInt8} {R:Unit} (hR:R0 s=R):cI Tryz.prog 137 [sv s] [] [] (Value) (fun x=>x) (fun x=>[]) (fun x=>[N7 Tryz.prog (x) (C7q (fun _=>True) (fun a=>(F4 a s)))]):=by
 refine bZ Tryz.func137 fun X hX hr hD=>?_
 replace hR:=(R0.eq_1 ..).symm.trans hR
 refine bN rfl (it rfl (A2t (cs:=[sv s]) rfl rfl rfl) fun b=>?_)
 refine A6m 0 rfl ?_
 refine pp0 1 rfl (ie (bN rfl (ip' 2 0 [(2,.func (.func 138) #[] #[pa ⟨b,0,none⟩])] (ie (A8m (q:=N7 Tryz.prog (.func (.func 138) #[] #[pa ⟨b,0,none⟩]) (C7q (fun _=>True) (fun a=>(F4 a s)))) (S8 (fun args r c=>by obtain ⟨a,d,rfl,rfl⟩:=c;exact C4.of (C1y rfl) rfl A9.refl) A9.refl) ?_)))))
 subst hR
 refine A8 ?_
 exact cD hr hD (N4 rfl (B0 rfl)) (.func (.func 138) #[] #[pa ⟨b,0,none⟩]:Value) bQ c9
def A3b (s:List UInt8) (n:Int):List UInt8 :=
 ((s.drop ((n).toNat)).take (((n).toNat+1) - ((n).toNat)))
theorem A6p (s:List UInt8) (n:Int) (a:0≤n):(A3b s n).length≤1:=by
 unfold A3b;simp only [List.length_take,List.length_drop];omega
theorem B0u {s:List UInt8} {n:Int} {R:List UInt8} (hR:A3b s n=R) (a:0≤n∧n<(s.length:Int):=by exact bP) (b:s.length≤1000:=by exact bP):J5 Tryz.prog 141 [sv s,iv n] [] (sv R):=by
 refine bZ Tryz.func141 fun X hX hr hD=>?_
 replace hR:=(A3b.eq_1 ..).symm.trans hR
 refine bN rfl (pp0 1 rfl (ie (bN rfl (pp3 3 5 6 7 rfl (ix rfl (B4 rfl rfl rfl rfl opx) (ix rfl (D8b (T:=9) Tryz.underlying9 rfl rfl rfl rfl ((n).toNat) opx ((n).toNat+1) opx opx opx) ?_))))))
 have:=@List.length_drop _ ((n).toNat) s
 have:=@List.length_take _ (((n).toNat+1) - ((n).toNat)) (s.drop ((n).toNat))
 refine bO 1 4 rfl ?_
 subst hR
 refine ie (A8 ?_)
 exact G0 hr hD
def W0 (a:Act) (p1:List UInt8) (p2:List UInt8) (p3:Int):List UInt8 :=
 (C2 (A3b p2 (a.n - p3)) fun (b:List UInt8)=>(p1++b))
theorem C2w {a:Act} {p1 p2:List UInt8} {p3:Int} {d b c:Addr} {R:List UInt8} (hR:W0 a p1 p2 p3=R) (j:p3≤a.n∧a.n - p3<(p2.length:Int):=by exact bP) (i:p1.length≤1000∧p2.length≤1000∧0≤p3∧p3≤1000:=by exact bP):J5 Tryz.prog 140 [ag (A1 a),pa d,pa b,pa c] [at_ d [sv p1],at_ b [sv p2],at_ c [iv p3]] (sv R):=by
 refine bZ Tryz.func140 fun X hX hr hD=>?_
 replace hR:=(W0.eq_1 ..).symm.trans hR
 refine bN rfl (zra 2 [] (fun f=>[(4,pt f 0)]) (fun _=>(A1 a)) 60 fun f=>(ie (sd 9 rfl oki rfl (dd rfl (F2 ty9 rfl rfl (B8 0 rfl) rfl) (dd rfl (F2 ty9 rfl rfl (B8 1 rfl) rfl) (pg1 2 [0] 9 rfl (dd rfl (F2 cA rfl rfl (B8 2 rfl) rfl) (dd rfl (Q6 rfl rfl rfl rfl opx) ?_))))))))
 have g:=C9 hR;clear hR;obtain ⟨h,e,hR⟩:=g
 refine zvd rfl (B0u e) ?_
 have:=A6p p2 (a.n - p3) opx;try rw [e] at this
 refine dd rfl (zst rfl rfl rfl) ?_
 have:=@List.length_append _ p1 h
 refine pd1 1 5 rfl ?_
 subst hR
 refine de (A8 ?_)
 exact G0 hr hD
def R1 (front:List UInt8) (signs:List UInt8) (first:Int):Unit :=
 ()
theorem A9i {front signs:List UInt8} {first:Int} {R:Unit} (hR:R1 front signs first=R) (f:front.length≤1000∧signs.length≤1000∧0≤first∧first≤1000:=by exact bP):cI Tryz.prog 139 [sv front,sv signs,iv first] [] [] (Value) (fun x=>x) (fun x=>[]) (fun x=>[N7 Tryz.prog (x) (C7q (fun a=>first≤a.n∧a.n - first<(signs.length:Int)) (fun a=>(W0 a front signs first)))]):=by
 refine bZ Tryz.func139 fun X hX hr hD=>?_
 replace hR:=(R1.eq_1 ..).symm.trans hR
 refine bN rfl (it rfl (A2t (cs:=[sv front]) rfl rfl rfl) fun d=>?_)
 refine A6m 0 rfl ?_
 refine it rfl (A2t (cs:=[sv signs]) rfl rfl rfl) fun c=>?_
 refine A6m 0 rfl ?_
 refine it rfl (A2t (cs:=[iv first]) rfl rfl rfl) fun b=>?_
 refine A6m 0 rfl ?_
 refine pp0 1 rfl (ie (bN rfl (ip' 2 0 [(6,.func (.func 140) #[] #[pa ⟨d,0,none⟩,pa ⟨c,0,none⟩,pa ⟨b,0,none⟩])] (ie (A8m (q:=N7 Tryz.prog (.func (.func 140) #[] #[pa ⟨d,0,none⟩,pa ⟨c,0,none⟩,pa ⟨b,0,none⟩]) (C7q (fun a=>first≤a.n∧a.n - first<(signs.length:Int)) (fun a=>(W0 a front signs first)))) (S8 (fun args r e=>by obtain ⟨a,g,rfl,rfl⟩:=e;exact C4.of (C2w rfl (by exact g) (by exact f)) rfl c9) A9.refl) ?_)))))
 subst hR
 refine A8 ?_
 exact cD hr hD (N4 rfl (B0 rfl)) (.func (.func 140) #[] #[pa ⟨d,0,none⟩,pa ⟨c,0,none⟩,pa ⟨b,0,none⟩]:Value) bQ c9
def A5u (a:Act):List UInt8 :=
 (C2 (A3b ([40,41,42,43]:List UInt8) a.n) fun (c:List UInt8)=>(C2 (A3b ([66,48]:List UInt8) a.m) fun (b:List UInt8)=>((([27]:List UInt8)++c)++b)))
theorem C5o {a:Act} {R:List UInt8} (hR:A5u a=R) (h:(0≤a.n∧a.n≤3)∧0≤a.m∧a.m≤1:=by exact bP):J5 Tryz.prog 152 [ag (A1 a)] [] (sv R):=by
 refine bZ Tryz.func152 fun X hX hr hD=>?_
 replace hR:=(A5u.eq_1 ..).symm.trans hR
 refine bN rfl (zra 2 [] (fun e=>[(1,pt e 0)]) (fun _=>(A1 a)) 60 fun e=>(ie (sd 9 rfl oki rfl (pg1 2 [0] 4 rfl ?_))))
 have d:=C9 hR;clear hR;obtain ⟨g,c,hR⟩:=d
 refine zvd rfl (B0u c) ?_
 have:=A6p ([40,41,42,43]:List UInt8) a.n opx;try rw [c] at this
 refine dd rfl (zst rfl rfl rfl) (pg1 2 [0] 8 rfl ?_)
 have d:=C9 hR;clear hR;obtain ⟨f,b,hR⟩:=d
 refine zvd rfl (B0u b) ?_
 have:=A6p ([66,48]:List UInt8) a.m opx;try rw [b] at this
 refine dd rfl (zst rfl rfl rfl) (pd1 1 2 rfl ?_)
 subst hR
 refine de (A8 ?_)
 exact G0 hr hD
def A5j (l:List Int) (b:Nat) (a:List (List Int)→Nat→List UInt8):Nat→List (List Int)→List UInt8
 | 0,_=>[]
 | fu1+1,out1=>(bif (decide ((out1.length:Int)<(b:Int))) then A5j l b a fu1 (out1++([([(-1)]:List Int)]:List (List Int))) else a (out1++([([(l.getD b 0)]:List Int)]:List (List Int))) (b+1))
def A2m (none_:Int) (l:List Int):List Int→List (List Int)→Nat→List UInt8
 | [],out,t12=>(C2 (A7k out) fun (a:List UInt8×Int)=>a.1)
 | hd_l3::tl_l3,out,t12=>(bif (decide (hd_l3=none_)) then A2m none_ l tl_l3 out (t12+1) else A5j l t12 (A2m none_ l tl_l3) ((t12 - out.length)+1) out)
def A7z (none_:Int) (l:List Int):List UInt8 :=
 A2m none_ l l ([]:List (List Int)) 0
theorem B7w (l:List Int) (a:Nat) (ag:List (List Int)→Nat→List UInt8) (b:∀ o t,(ag o t).length≤2112):∀ (c:Nat) (o:List (List Int)),(A5j l a ag c o).length≤2112
 | 0,o=>by simp [A5j]
 | c+1,o=>by
  rw [A5j]
  cases decide ((o.length:Int)<(a:Int)) with
  | true=>exact B7w l a ag b c _
  | false=>exact b _ _
theorem B1i (none_:Int) (l:List Int):∀ (r:List Int) (o:List (List Int)) (t:Nat),(A2m none_ l r o t).length≤2112
 | [],o,t=>A7c o
 | x::r,o,t=>by
  rw [A2m]
  cases decide (x=none_) with
  | true=>exact B1i none_ l r o (t+1)
  | false=>exact B7w l t _ (B1i none_ l r) _ _
theorem A3j (none_:Int) (l:List Int):(A7z none_ l).length≤2112:=B1i none_ l l [] 0
theorem oua {p:Prop} (h:p:=by first|omega|(simp only [List.length_take,List.length_drop,List.length_append,List.length_cons,List.length_nil,List.length_set,List.length_map,F4,R0,R1];omega)|decide):p:=h
theorem opz {p:Prop} (h:p:=by first|omega|(simp only [List.length_cons,List.length_nil,List.length_append,List.length_take,List.length_drop,F4,R0,R1];omega)):p:=h
theorem A9s {none_:Int} {l:List Int} {lq:Option Addr} {lk:Nat} {R:List UInt8} (hR:A7z none_ l=R) (a7:l.length≤9223372036854775807:=by exact bP) (a8:l.length≤lk:=by exact bP) (ah:l.length≤4:=by exact bP):J5 Tryz.prog 144 [iv none_,.slice lq l.length lk] [sl J8 lq l,K6] (sv R):=by
 refine bZ Tryz.func144 fun X hX hr hD=>?_
 replace hR:=(A7z.eq_1 ..).symm.trans hR
 refine bN rfl (pp0 1 rfl (ie (bN rfl (bO 1 5 rfl (ie (A5 (bN rfl (pp3 3 10 11 12 rfl (ie (B2 ?_))))))))))
 refine A4v (un fun (n:List (List Int))=>un fun (j:VR)=>un fun (g:List Slc) (d:Nat)=>(d≤l.length∧A2m none_ l (l.drop d) n d=R∧bR 1 n.length j∧I4 g n∧n.length≤d,[(0,iv none_),(5,.slice (va j.q) n.length j.k),(10,.slice lq l.length lk),(11,iv (l.length:Int)),(12,iv (d:Int))],((vo A3d 264 j g)++([])),[sl J8 lq l,K6,U6 J8 g n],l.length - d)) (([]:List (List Int)),VR.nil,([]:List Slc),0) ⟨opx,hR,bR.nil,I4.none,oom⟩ bQ c9 ?_
 rintro ⟨n,j,g,d⟩ ⟨ae,hR,h,f,ho⟩
 have:=bR.le h
 have:=f.1
 refine bN rfl (bO 1 13 rfl ?_)
 refine ie (A5 (X7 rfl (fun h2=>?_) (fun h2=>?_)))
 ·have a1:=bU h2
  rw [A1f 0 (show d<l.length by omega)] at hR;replace hR:=(A2m.eq_2 ..).symm.trans hR
  refine A4 (nx (A5 (B2 (bN rfl (bO 1 14 rfl (L9 0 rfl opx fun a3 w=>(ix rfl (H9 L4 rfl rfl w rfl d rfl opx) (ix rfl (F2 cA rfl rfl (K2 (c:=J8) (sz:=1) w (fun _=>rfl) 0 rfl (gd 0 opx)) rfl) (cJ 2 6 7 rfl (ie (A5 (bN rfl (bO 3 19 rfl (ie ?_))))))))))))))
  refine zjd rfl hR ?_ ?_<;>clear hR<;>intro hR h5 af
  ·refine G6 (nx (A0 2 rfl (ix rfl (B4 rfl rfl rfl rfl opx) ?_)))
   refine bO 1 12 rfl (A3 ?_)
   exact A0d (z1:=(n,j,g,d)) (n,j,g,d+1) ⟨opx,hR,h,f,ozq⟩ olr bQ A9.refl
  refine A4 (nx (A5 (B2 ?_)))
  refine A4v (un fun (y:Nat)=>un fun (b:List (List Int))=>un fun (i:VR) (a:List Slc)=>((d - b.length)<y∧A5j l d (A2m none_ l (l.drop (d+1))) y b=R∧bR 1 b.length i∧I4 a b∧b.length≤d,[(0,iv none_),(5,.slice (va i.q) b.length i.k),(6,iv (d:Int)),(7,iv (l.getD d 0)),(10,.slice lq l.length lk),(11,iv (l.length:Int)),(12,iv (d:Int))],((vo A3d 264 i a)++([])),[sl J8 lq l,K6,U6 J8 g n,U6 J8 a b],y)) ((d - n.length)+1,n,j,g) ⟨(Nat.lt_succ_self _),hR,h,f,opx⟩ bQ c9 ?_
  rintro ⟨y,b,i,a⟩ ⟨ab,hR,o,e,aa⟩
  have:=bR.le o
  have:=e.1
  obtain ⟨fu1,rfl⟩:∃ m,y=m+1:=⟨y - 1,by omega⟩
  replace hR:=(A5j.eq_2 ..).symm.trans hR
  refine A5 (bN rfl (bO 4 23 rfl ?_))
  refine ie ?_
  refine zjd rfl hR ?_ ?_<;>clear hR<;>intro hR h7 ac
  ·refine A4 (nx (B2 (A0 6 rfl (bO 1 24 rfl (it rfl (C1 (c:=J8) (xs:=([(-1)]:List Int)) L4 rfl rfl rfl oki) fun x=>?_)))))
   have:([(-1)]:List Int).length=1:=rfl
   refine bY 1 3 [] [(26,ag [.slice (some ⟨x,0,none⟩) 1 1])] (it rfl (C1 (c:=A3d) (xs:=([⟨some ⟨x,0,none⟩,1,1⟩]:List Slc)) C2d rfl rfl rfl oki) fun b9=>?_)
   have p:I4 ([⟨some ⟨x,0,none⟩,1,1⟩]:List Slc) ([([(-1)]:List Int)]:List (List Int)):=(I4.cons ⟨ooy,oua,oua⟩ I4.none)
   refine D7 (q:=U6 J8 ([⟨some ⟨x,0,none⟩,1,1⟩]:List Slc) ([([(-1)]:List Int)]:List (List Int))) (A9b (B8 1 rfl) A1a) ?_
   have:([⟨some ⟨x,0,none⟩,1,1⟩]:List Slc).length=1:=rfl
   have z:I4 (a++([⟨some ⟨x,0,none⟩,1,1⟩]:List Slc)) (b++([([(-1)]:List Int)]:List (List Int))):=I4.append e p
   refine it rfl (B7e (r:=i) (rs:=a) (xss:=b) (pre:=[]) (post:=[]) D9p rfl rfl rfl rfl rfl rfl rfl rfl rfl (B8 1 rfl) (B8 6 rfl) (B8 0 rfl) e p o opz opz) fun ⟨a4,u⟩=>?_
   have:=bR.le u
   have:=bR.cap u
   have:([([(-1)]:List Int)]:List (List Int)).length=1:=rfl
   have:(b++([([(-1)]:List Int)]:List (List Int))).length=b.length+1:=List.length_append
   refine bO 1 5 rfl (A3 ?_)
   exact A0d (z1:=(fu1+1,b,i,a)) (fu1,(b++([([(-1)]:List Int)]:List (List Int))),a4,(a++([⟨some ⟨x,0,none⟩,1,1⟩]:List Slc))) ⟨opx,hR,u,z,ozq⟩ (Nat.lt_succ_self _) bQ c9
  refine G6 (nx (A0 7 rfl (cJ 2 29 30 rfl ?_)))
  refine it rfl (C1 (c:=J8) (xs:=([(l.getD d 0)]:List Int)) L4 rfl rfl rfl oki) fun t=>?_
  have:([(l.getD d 0)]:List Int).length=1:=rfl
  refine bY 1 3 [] [(32,ag [.slice (some ⟨t,0,none⟩) 1 1])] (it rfl (C1 (c:=A3d) (xs:=([⟨some ⟨t,0,none⟩,1,1⟩]:List Slc)) C2d rfl rfl rfl oki) fun a9=>?_)
  have s:I4 ([⟨some ⟨t,0,none⟩,1,1⟩]:List Slc) ([([(l.getD d 0)]:List Int)]:List (List Int)):=(I4.cons ⟨ooy,oua,oua⟩ I4.none)
  refine D7 (q:=U6 J8 ([⟨some ⟨t,0,none⟩,1,1⟩]:List Slc) ([([(l.getD d 0)]:List Int)]:List (List Int))) (A9b (B8 1 rfl) A1a) ?_
  have:([⟨some ⟨t,0,none⟩,1,1⟩]:List Slc).length=1:=rfl
  have a2:I4 (a++([⟨some ⟨t,0,none⟩,1,1⟩]:List Slc)) (b++([([(l.getD d 0)]:List Int)]:List (List Int))):=I4.append e s
  refine it rfl (B7e (r:=i) (rs:=a) (xss:=b) (pre:=[]) (post:=[]) D9p rfl rfl rfl rfl rfl rfl rfl rfl rfl (B8 1 rfl) (B8 6 rfl) (B8 0 rfl) e s o opz opz) fun ⟨a5,v⟩=>?_
  have:=bR.le v
  have:=bR.cap v
  have:([([(l.getD d 0)]:List Int)]:List (List Int)).length=1:=rfl
  have:(b++([([(l.getD d 0)]:List Int)]:List (List Int))).length=b.length+1:=List.length_append
  refine bO 1 5 rfl (A3 (nx (A0 2 rfl (ix rfl (B4 rfl rfl rfl rfl opx) (bO 1 12 rfl (A3 ?_))))))
  exact A0d (z1:=(n,j,g,d)) ((b++([([(l.getD d 0)]:List Int)]:List (List Int))),a5,(a++([⟨some ⟨t,0,none⟩,1,1⟩]:List Slc)),d+1) ⟨opx,hR,v,a2,ozq⟩ olr bQ c9
 have a1:=bU h2
 rw [A2g a1] at hR;replace hR:=(A2m.eq_1 ..).symm.trans hR
 refine G6 (nx (bN rfl (bO 1 37 rfl ?_)))
 have:=bR.cap h
 have:=bR.le h
 refine A3t [] [] (T:=264) (c:=A3d) (r:=j) (xs:=g) (bR.cast h (by rw [f.1])) opv ?_
 have hQ:=C9 hR;clear hR;obtain ⟨y8,a0,hR⟩:=hQ
 refine zv rfl (C1r a0 f) ?_
 have:=A7c n;try rw [a0] at this
 refine bO 5 8 rfl (ie (bN rfl (bO 2 4 rfl ?_)))
 subst hR
 refine ie (A8 ?_)
 exact G0 hr hD
def W1 (a:Act) (p1:List UInt8):List UInt8 :=
 (C2 (A7z 1 ([a.m]:List Int)) fun (b:List UInt8)=>(C2 (A3b p1 a.n) fun (c:List UInt8)=>((([27,91]:List UInt8)++b)++c)))
theorem C2q {a:Act} {p1:List UInt8} {b:Addr} {R:List UInt8} (hR:W1 a p1=R) (o:0≤a.n∧a.n<(p1.length:Int):=by exact bP) (k:p1.length≤1000:=by exact bP):J5 Tryz.prog 146 [ag (A1 a),pa b] [at_ b [sv p1],K6] (sv R):=by
 refine bZ Tryz.func146 fun X hX hr hD=>?_
 replace hR:=(W1.eq_1 ..).symm.trans hR
 refine bN rfl (zra 2 [] (fun g=>[(2,pt g 0)]) (fun _=>(A1 a)) 60 fun g=>(ie (zS [(11,[0])] ?_)))
 refine hq2 [0,6] 4 10 rfl ?_
 refine gl 1 [0] rfl (A2 (v:=iv a.m) cA rfl rfl 0 rfl rfl) ?_
 refine gk 5 rfl (F2 ty9 rfl rfl (B8 0 rfl) rfl) ?_
 refine gl 7 [0] rfl (A2 (v:=iv a.n) cA rfl rfl 0 rfl rfl) ?_
 refine go 2 [0] rfl (C1 (c:=J8) (xs:=([a.m]:List Int)) L4 rfl rfl rfl oki) fun h=>?_
 have:([a.m]:List Int).length=1:=rfl
 have f:=C9 hR;clear hR;obtain ⟨i,e,hR⟩:=f
 refine gv 3 [0] rfl (A9s (none_:=1) (l:=([a.m]:List Int)) (lq:=(some ⟨h,0,none⟩)) (lk:=1) e) ?_
 have:=A3j 1 ([a.m]:List Int);try rw [e] at this
 refine gk 4 rfl (zst rfl rfl rfl) ?_
 have f:=C9 hR;clear hR;obtain ⟨j,d,hR⟩:=f
 refine gv 8 [0] rfl (B0u d) ?_
 have:=A6p p1 a.n opx;try rw [d] at this
 refine gk 9 rfl (zst rfl rfl rfl) ?_
 refine hq1 [10] 3 rfl ?_
 refine ge ?_
 subst hR
 refine A8 ?_
 exact G0 hr hD
def A8g (signs:List UInt8):Unit :=
 ()
theorem A9q {signs:List UInt8} {R:Unit} (hR:A8g signs=R) (d:signs.length≤1000:=by exact bP):cI Tryz.prog 145 [sv signs] [] [K6] (Value) (fun x=>x) (fun x=>[]) (fun x=>[N7 Tryz.prog (x) (C7q (fun a=>0≤a.n∧a.n<(signs.length:Int)) (fun a=>(W1 a signs)))]):=by
 refine bZ Tryz.func145 fun X hX hr hD=>?_
 replace hR:=(A8g.eq_1 ..).symm.trans hR
 refine bN rfl (it rfl (A2t (cs:=[sv signs]) rfl rfl rfl) fun b=>?_)
 refine A6m 0 rfl ?_
 refine pp0 1 rfl (ie (bN rfl (ip' 2 0 [(2,.func (.func 146) #[] #[pa ⟨b,0,none⟩])] (ie (A8m (q:=N7 Tryz.prog (.func (.func 146) #[] #[pa ⟨b,0,none⟩]) (C7q (fun a=>0≤a.n∧a.n<(signs.length:Int)) (fun a=>(W1 a signs)))) (S8 (fun args r c=>by obtain ⟨a,e,rfl,rfl⟩:=c;exact C4.of (C2q rfl (by exact e) (by exact d)) rfl A9.refl) A9.refl) ?_)))))
 subst hR
 refine A8 ?_
 exact cD hr hD (N4 rfl (B0 rfl)) (.func (.func 146) #[] #[pa ⟨b,0,none⟩]:Value) bQ c9
def A5p (a:Act):List UInt8 :=
 (C2 (A7z 1 ([a.n,a.m]:List Int)) fun (b:List UInt8)=>((([27,91]:List UInt8)++b)++([72]:List UInt8)))
theorem C6h {a:Act} {R:List UInt8} (hR:A5p a=R):J5 Tryz.prog 153 [ag (A1 a)] [K6] (sv R):=by
 refine bZ Tryz.func153 fun X hX hr hD=>?_
 replace hR:=(A5p.eq_1 ..).symm.trans hR
 refine bN rfl (zra 2 [] (fun d=>[(1,pt d 0)]) (fun _=>(A1 a)) 60 fun d=>(ie (bN rfl (pl2 4 [0,0] 4 6 rfl (it rfl (C1 (c:=J8) (xs:=([a.n,a.m]:List Int)) L4 rfl rfl rfl oki) fun e=>?_)))))
 have:([a.n,a.m]:List Int).length=2:=rfl
 have f:=C9 hR;clear hR;obtain ⟨g,b,hR⟩:=f
 refine zv rfl (A9s (none_:=1) (l:=([a.n,a.m]:List Int)) (lq:=(some ⟨e,0,none⟩)) (lk:=2) b) ?_
 have:=A3j 1 ([a.n,a.m]:List Int);try rw [b] at this
 refine ix rfl (zst rfl rfl rfl) (ix rfl (zst rfl rfl rfl) (bO 1 2 rfl ?_))
 subst hR
 refine ie (A8 ?_)
 exact G0 hr hD
def H4 (a:Act) (p1:Int) (p2:List UInt8):List UInt8 :=
 (C2 (A7z p1 ([a.n]:List Int)) fun (b:List UInt8)=>((([27,91]:List UInt8)++b)++p2))
theorem C2x {a:Act} {p1:Int} {p2:List UInt8} {d b:Addr} {R:List UInt8} (hR:H4 a p1 p2=R) (j:p2.length≤1000:=by exact bP):J5 Tryz.prog 143 [ag (A1 a),pa d,pa b] [at_ d [iv p1],at_ b [sv p2],K6] (sv R):=by
 refine bZ Tryz.func143 fun X hX hr hD=>?_
 replace hR:=(H4.eq_1 ..).symm.trans hR
 refine bN rfl (zra 2 [] (fun f=>[(3,pt f 0)]) (fun _=>(A1 a)) 60 fun f=>(ie (zS [(9,[0])] ?_)))
 refine hq1 [1] 6 rfl ?_
 refine gk 0 rfl (F2 cA rfl rfl (B8 0 rfl) rfl) ?_
 refine gl 2 [0] rfl (A2 (v:=iv a.n) cA rfl rfl 0 rfl rfl) ?_
 refine gk 6 rfl (F2 ty9 rfl rfl (B8 1 rfl) rfl) ?_
 refine go 3 [0] rfl (C1 (c:=J8) (xs:=([a.n]:List Int)) L4 rfl rfl rfl oki) fun g=>?_
 have:([a.n]:List Int).length=1:=rfl
 have h:=C9 hR;clear hR;obtain ⟨i,e,hR⟩:=h
 refine gv 4 [0] rfl (A9s (none_:=p1) (l:=([a.n]:List Int)) (lq:=(some ⟨g,0,none⟩)) (lk:=1) e) ?_
 have:=A3j p1 ([a.n]:List Int);try rw [e] at this
 refine gk 5 rfl (zst rfl rfl rfl) ?_
 refine gk 7 rfl (zst rfl rfl rfl) ?_
 refine hq1 [8] 4 rfl ?_
 refine ge ?_
 subst hR
 refine A8 ?_
 exact G0 hr hD
def A7x (none_:Int) (last:List UInt8):Unit :=
 ()
theorem K7 {none_:Int} {last:List UInt8} {R:Unit} (hR:A7x none_ last=R) (e:last.length≤1000:=by exact bP):cI Tryz.prog 142 [iv none_,sv last] [] [K6] (Value) (fun x=>x) (fun x=>[]) (fun x=>[N7 Tryz.prog (x) (C7q (fun _=>True) (fun a=>(H4 a none_ last)))]):=by
 refine bZ Tryz.func142 fun X hX hr hD=>?_
 replace hR:=(A7x.eq_1 ..).symm.trans hR
 refine bN rfl (it rfl (A2t (cs:=[iv none_]) rfl rfl rfl) fun c=>?_)
 refine A6m 0 rfl ?_
 refine it rfl (A2t (cs:=[sv last]) rfl rfl rfl) fun b=>?_
 refine A6m 0 rfl ?_
 refine pp0 1 rfl (ie (bN rfl (ip' 2 0 [(4,.func (.func 143) #[] #[pa ⟨c,0,none⟩,pa ⟨b,0,none⟩])] (ie (A8m (q:=N7 Tryz.prog (.func (.func 143) #[] #[pa ⟨c,0,none⟩,pa ⟨b,0,none⟩]) (C7q (fun _=>True) (fun a=>(H4 a none_ last)))) (S8 (fun args r d=>by obtain ⟨a,f,rfl,rfl⟩:=d;exact C4.of (C2x rfl (by exact e)) rfl c9) A9.refl) ?_)))))
 subst hR
 refine A8 ?_
 exact cD hr hD (N4 rfl (B0 rfl)) (.func (.func 143) #[] #[pa ⟨c,0,none⟩,pa ⟨b,0,none⟩]:Value) bQ c9
def Y3 (a:Act) (p1:List UInt8):List UInt8 :=
 (C2 (A7z (-2) ([a.n]:List Int)) fun (b:List UInt8)=>(C2 (A3b ([108,104]:List UInt8) a.m) fun (c:List UInt8)=>(((([27,91]:List UInt8)++p1)++b)++c)))
theorem C1s {a:Act} {p1:List UInt8} {b:Addr} {R:List UInt8} (hR:Y3 a p1=R) (o:0≤a.m∧a.m≤1:=by exact bP) (k:p1.length≤1000:=by exact bP):J5 Tryz.prog 149 [ag (A1 a),pa b] [at_ b [sv p1],K6] (sv R):=by
 refine bZ Tryz.func149 fun X hX hr hD=>?_
 replace hR:=(Y3.eq_1 ..).symm.trans hR
 refine bN rfl (zra 2 [] (fun g=>[(2,pt g 0)]) (fun _=>(A1 a)) 60 fun g=>(ie (zS [(12,[0])] ?_)))
 refine hq2 [2,7] 6 11 rfl ?_
 refine gk 0 rfl (F2 ty9 rfl rfl (B8 0 rfl) rfl) ?_
 refine gk 1 rfl (zst rfl rfl rfl) ?_
 refine gl 3 [0] rfl (A2 (v:=iv a.n) cA rfl rfl 0 rfl rfl) ?_
 refine gl 8 [0] rfl (A2 (v:=iv a.m) cA rfl rfl 0 rfl rfl) ?_
 refine go 4 [0] rfl (C1 (c:=J8) (xs:=([a.n]:List Int)) L4 rfl rfl rfl oki) fun h=>?_
 have:([a.n]:List Int).length=1:=rfl
 have f:=C9 hR;clear hR;obtain ⟨i,e,hR⟩:=f
 refine gv 5 [0] rfl (A9s (none_:=(-2)) (l:=([a.n]:List Int)) (lq:=(some ⟨h,0,none⟩)) (lk:=1) e) ?_
 have:=A3j (-2) ([a.n]:List Int);try rw [e] at this
 refine gk 6 rfl (zst rfl rfl rfl) ?_
 have f:=C9 hR;clear hR;obtain ⟨j,d,hR⟩:=f
 refine gv 9 [0] rfl (B0u d) ?_
 have:=A6p ([108,104]:List UInt8) a.m opx;try rw [d] at this
 refine gk 10 rfl (zst rfl rfl rfl) ?_
 refine hq1 [11] 3 rfl ?_
 refine ge ?_
 subst hR
 refine A8 ?_
 exact G0 hr hD
def A8s (front:List UInt8):Unit :=
 ()
theorem B5p {front:List UInt8} {R:Unit} (hR:A8s front=R) (d:front.length≤1000:=by exact bP):cI Tryz.prog 148 [sv front] [] [K6] (Value) (fun x=>x) (fun x=>[]) (fun x=>[N7 Tryz.prog (x) (C7q (fun a=>0≤a.m∧a.m≤1) (fun a=>(Y3 a front)))]):=by
 refine bZ Tryz.func148 fun X hX hr hD=>?_
 replace hR:=(A8s.eq_1 ..).symm.trans hR
 refine bN rfl (it rfl (A2t (cs:=[sv front]) rfl rfl rfl) fun b=>?_)
 refine A6m 0 rfl ?_
 refine pp0 1 rfl (ie (bN rfl (ip' 2 0 [(2,.func (.func 149) #[] #[pa ⟨b,0,none⟩])] (ie (A8m (q:=N7 Tryz.prog (.func (.func 149) #[] #[pa ⟨b,0,none⟩]) (C7q (fun a=>0≤a.m∧a.m≤1) (fun a=>(Y3 a front)))) (S8 (fun args r c=>by obtain ⟨a,e,rfl,rfl⟩:=c;exact C4.of (C1s rfl (by exact e) (by exact d)) rfl A9.refl) A9.refl) ?_)))))
 subst hR
 refine A8 ?_
 exact cD hr hD (N4 rfl (B0 rfl)) (.func (.func 149) #[] #[pa ⟨b,0,none⟩]:Value) bQ c9
def A4j (a:Act):List UInt8 :=
 (C2 (A7z 0 ([a.n,a.m]:List Int)) fun (b:List UInt8)=>((([27,91]:List UInt8)++b)++([114]:List UInt8)))
theorem C3t {a:Act} {R:List UInt8} (hR:A4j a=R):J5 Tryz.prog 154 [ag (A1 a)] [K6] (sv R):=by
 refine bZ Tryz.func154 fun X hX hr hD=>?_
 replace hR:=(A4j.eq_1 ..).symm.trans hR
 refine bN rfl (zra 2 [] (fun d=>[(1,pt d 0)]) (fun _=>(A1 a)) 60 fun d=>(ie (bN rfl (pl2 4 [0,0] 4 6 rfl (it rfl (C1 (c:=J8) (xs:=([a.n,a.m]:List Int)) L4 rfl rfl rfl oki) fun e=>?_)))))
 have:([a.n,a.m]:List Int).length=2:=rfl
 have f:=C9 hR;clear hR;obtain ⟨g,b,hR⟩:=f
 refine zv rfl (A9s (none_:=0) (l:=([a.n,a.m]:List Int)) (lq:=(some ⟨e,0,none⟩)) (lk:=2) b) ?_
 have:=A3j 0 ([a.n,a.m]:List Int);try rw [b] at this
 refine ix rfl (zst rfl rfl rfl) (ix rfl (zst rfl rfl rfl) (bO 1 2 rfl ?_))
 subst hR
 refine ie (A8 ?_)
 exact G0 hr hD
def A4a (a:Act):List UInt8 :=
 ((([27,91]:List UInt8)++(([62]:List UInt8).take ((a.n).toNat)))++([99]:List UInt8))
theorem oph {p:Prop} (h:p:=by first|omega|(simp only [List.length_cons,List.length_nil];omega)):p:=h
theorem C4h {a:Act} {R:List UInt8} (hR:A4a a=R) (c:0≤a.n∧a.n≤1:=by exact bP):J5 Tryz.prog 155 [ag (A1 a)] [] (sv R):=by
 refine bZ Tryz.func155 fun X hX hr hD=>?_
 replace hR:=(A4a.eq_1 ..).symm.trans hR
 refine bN rfl (zra 2 [] (fun b=>[(1,pt b 0)]) (fun _=>(A1 a)) 60 fun b=>(ie (bN rfl (cE 2 [0] 4 rfl (ix rfl (B9g (T:=9) Tryz.underlying9 rfl rfl rfl ((a.n).toNat) opx oph) (ix rfl (zst rfl rfl rfl) (ix rfl (zst rfl rfl rfl) (bO 1 2 rfl ?_))))))))
 subst hR
 refine ie (A8 ?_)
 exact G0 hr hD
def A4k (a:Act):List UInt8 :=
 (C2 (A7z (-2) ([a.n]:List Int)) fun (b:List UInt8)=>(((([27,91]:List UInt8)++(([63]:List UInt8).take ((a.m).toNat)))++b)++([36,112]:List UInt8)))
theorem C3m {a:Act} {R:List UInt8} (hR:A4k a=R) (h:0≤a.m∧a.m≤1:=by exact bP):J5 Tryz.prog 156 [ag (A1 a)] [K6] (sv R):=by
 refine bZ Tryz.func156 fun X hX hr hD=>?_
 replace hR:=(A4k.eq_1 ..).symm.trans hR
 refine bN rfl (zra 2 [] (fun d=>[(1,pt d 0)]) (fun _=>(A1 a)) 60 fun d=>(ie (zS [(11,[0])] ?_)))
 refine hq2 [0,4] 3 7 rfl ?_
 refine gl 1 [0] rfl (A2 (v:=iv a.m) cA rfl rfl 0 rfl rfl) ?_
 refine gk 2 rfl (B9g (T:=9) Tryz.underlying9 rfl rfl rfl ((a.m).toNat) opx oph) ?_
 refine gk 3 rfl (zst rfl rfl rfl) ?_
 refine gl 5 [0] rfl (A2 (v:=iv a.n) cA rfl rfl 0 rfl rfl) ?_
 refine go 6 [0] rfl (C1 (c:=J8) (xs:=([a.n]:List Int)) L4 rfl rfl rfl oki) fun f=>?_
 have:([a.n]:List Int).length=1:=rfl
 have e:=C9 hR;clear hR;obtain ⟨g,b,hR⟩:=e
 refine gv 7 [0] rfl (A9s (none_:=(-2)) (l:=([a.n]:List Int)) (lq:=(some ⟨f,0,none⟩)) (lk:=1) b) ?_
 have:=A3j (-2) ([a.n]:List Int);try rw [b] at this
 refine gk 8 rfl (zst rfl rfl rfl) ?_
 refine gk 9 rfl (zst rfl rfl rfl) ?_
 refine hq1 [10] 2 rfl ?_
 refine ge ?_
 subst hR
 refine A8 ?_
 exact G0 hr hD
def B2o (l:List Act):List UInt8 :=
 (C2 (B7c l) fun (a:List (List Int)×Int)=>(C2 (A7k a.1) fun (b:List UInt8×Int)=>((([27,91]:List UInt8)++b.1)++([109]:List UInt8))))
theorem A9v (l:List Act):(B2o l).length≤2115:=by
 have:=A7c (B7c l).1
 unfold B2o;simp only [C2,List.length_append,List.length_cons,List.length_nil];omega
theorem C7i {l:List Act} {lq:Option Addr} {lk:Nat} {R:List UInt8} (hR:B2o l=R) (k:l.length≤9223372036854775807:=by exact bP) (m:l.length≤lk:=by exact bP):J5 Tryz.prog 85 [.slice lq l.length lk] [sl A1 lq l,P4,K6] (sv R):=by
 refine bZ Tryz.func85 fun X hX hr hD=>?_
 replace hR:=(B2o.eq_1 ..).symm.trans hR
 refine bN rfl (pp0 1 rfl (ie (bN rfl (bO 1 8 rfl ?_))))
 have h:=C9 hR;clear hR;obtain ⟨i,f,hR⟩:=h
 refine zc rfl (D4c f) fun ⟨⟨j,g⟩,e⟩=>?_
 try dsimp only at e
 obtain ⟨a,b⟩:=e
 have:=bR.le a
 have:=bR.cap a
 have:=b.1
 refine bO 5 3 rfl (ie (bN rfl (bO 1 13 rfl ?_)))
 have:=bR.cap a
 have:=bR.le a
 refine A3t [] [] (T:=264) (c:=A3d) (r:=j) (xs:=g) (bR.cast a (by rw [b.1])) opv ?_
 have h:=C9 hR;clear hR;obtain ⟨n,d,hR⟩:=h
 refine zv rfl (C1r d b) ?_
 have:=A7c i.1;try rw [d] at this
 refine bO 5 5 rfl (ie (bN rfl (bO 1 17 rfl (ix rfl (zst rfl rfl rfl) (ix rfl (zst rfl rfl rfl) (bO 1 2 rfl ?_))))))
 subst hR
 refine ie (A8 ?_)
 exact G0 hr hD
def A3y (a:Act):List UInt8 :=
 (C2 (B2o ([a]:List Act)) fun (b:List UInt8)=>b)
theorem C4g {a:Act} {R:List UInt8} (hR:A3y a=R):J5 Tryz.prog 157 [ag (A1 a)] [P4,K6] (sv R):=by
 refine bZ Tryz.func157 fun X hX hr hD=>?_
 replace hR:=(A3y.eq_1 ..).symm.trans hR
 refine bN rfl (zra 2 [] (fun d=>[(1,pt d 0)]) (fun _=>(A1 a)) 60 fun d=>(ie (bN rfl (bY 1 3 [0] [(3,ag (A1 a))] (it rfl (C1 (c:=A1) (xs:=([a]:List Act)) A2p rfl rfl rfl oki) fun f=>?_)))))
 have:([a]:List Act).length=1:=rfl
 have g:=C9 hR;clear hR;obtain ⟨e,b,hR⟩:=g
 refine zv rfl (C7i (l:=([a]:List Act)) (lq:=(some ⟨f,0,none⟩)) (lk:=1) b) ?_
 have:=A9v ([a]:List Act);try rw [b] at this
 refine bO 1 2 rfl ?_
 subst hR
 refine ie (A8 ?_)
 exact G0 hr hD
def B6w:Unit :=
 ()
theorem B7q {R:Unit} (hR:B6w=R):cI Tryz.prog 99 [] [] [] (Nat) (fun x=>.map (some x)) (fun x=>[(x,aC)]) (fun x=>[]):=by
 refine bZ Tryz.func99 fun X hX hr hD=>?_
 replace hR:=(B6w.eq_1 ..).symm.trans hR
 refine bN rfl (ip' 1 0 [] (ie (bN rfl (it rfl (A0w rfl) fun a=>?_))))
 refine B8t (m:=2) (mo:=1) (es':=aD) D3j rfl 0 3 1 0 [] _ rfl oki ?_
 refine B1j (L':=[(a,aC)]) rfl ?_
 refine bO 2 0 rfl ?_
 subst hR
 refine ie (A8 ?_)
 exact cD hr hD (N4 rfl (B0 rfl)) a bQ bT
def A5c (d:Int) (c:Int) (a:Col) (b:List UInt8):Option (List UInt8) :=
 (Option.bind (A4c true) fun (r:Unit)=>(Option.bind (B2d (⟨44,d,c,a,b⟩:Act)) fun (e:List UInt8)=>(some e)))
theorem D2a {c d:Int} {b:Col} {a:List UInt8} {e:Addr} {R:Option (List UInt8)} (hR:A5c c d b a=R) (o:a.length≤100000000:=by exact bP):C3c Tryz.prog 98 [pa e] [] [at_ e (A1 (⟨44,c,d,b,a⟩:Act))] A0y R (fun r=>sv r):=by
 refine A6e (n:=16) Tryz.func98 rfl oki rfl rfl [(0,pa e)] ⟨rfl,trivial⟩ fun X hX hr hD=>?_
 replace hR:=(A5c.eq_1 ..).symm.trans hR
 refine bN rfl (pp0 1 rfl (ie (zS [] ?_)))
 refine hq1 [1] 6 rfl ?_
 refine gk 2 rfl (F2 cA rfl rfl (A2w (B8 0 rfl) (ws:=[iv 44]) 1 rfl) rfl) ?_
 refine gc 0 [] rfl (B7q rfl) fun l=>?_
 refine go 3 [] rfl (Det.tri (I6.det (A5g (v:=aE 182) (j:=0) D3j rfl rfl rfl 0 rfl oki))) fun _=>?_
 refine hqV [4,5,6,7,8] [(2,aE 182),(3,bv true)] ?_
 refine ge ?_
 refine bN rfl (bO 1 11 rfl ?_)
 refine A0c (L2:=[(l,aC)]) (A3u rfl) rfl rfl rfl rfl rfl rfl bT (List.Perm.refl _) (fun r f=>?_) (fun h=>?_)
 ·replace hR:=B1l hR f
  have g:=U9 f;try simp only [Bool.and_eq_true,decide_eq_true_eq] at g
  refine ie (bN rfl (ip' 1 3 [(13,aE 182)] (ix rfl (K5 (us:=A1 (⟨44,c,d,b,a⟩:Act)) B7m rfl rfl (B8 0 rfl) rfl) ?_)))
  refine A0c (L2:=[(l,aC)]) (C9o rfl) rfl rfl rfl rfl rfl rfl bT (List.Perm.refl _) (fun m i=>?_) (fun k=>?_)
  ·replace hR:=B1l hR i
   refine bO 1 1 rfl (ie (A8 ?_))
   exact B2m rfl ⟨hr,hD⟩ (by simp [hD]) (N4 rfl (B0 rfl)) hR.symm rfl
  ·replace hR:=B1k hR k
   exact Q4 ⟨hr,hD⟩ hR.symm
 ·replace hR:=B1k hR h
  exact Q4 ⟨hr,hD⟩ hR.symm
def B2q (an:Int) (am:Int) (acolor:Col) (atext:List UInt8):List UInt8×Int :=
 (bif (!((B1m (A5c an am acolor atext)).2)) then (([]:List UInt8),2) else ((B1m (A5c an am acolor atext)).1,0))
theorem B4y (an am:Int) (c:Col) (t:List UInt8):(B2q an am c t).1.length≤t.length+6000:=by
 have a:∀ s,A5c an am c t=some s→s.length≤t.length+6000:=by
  intro s h
  unfold A5c B2d at h
  simp only [Option.bind_eq_some_iff,Option.some.injEq] at h
  obtain ⟨_,_,e,⟨_,_,_,_,d⟩,b⟩:=h
  rw [← b,← d];simp
 unfold B2q
 cases hR:A5c an am c t with
 | none=>simp [B1m]
 | some s=>have:=a s hR;simp [B1m];omega
theorem C7d {an am:Int} {acolor:Col} {atext:List UInt8} {R:List UInt8×Int} (hR:B2q an am acolor atext=R) (c:atext.length≤100000000:=by exact bP):J5 Tryz.prog 39 [ag (A1 (⟨44,an,am,acolor,atext⟩:Act))] [] (.tuple #[sv R.1,iv R.2]):=by
 refine bZ Tryz.func39 fun X hX hr hD=>?_
 replace hR:=(B2q.eq_1 ..).symm.trans hR
 refine bN rfl (it rfl (A2t (cs:=A1 (⟨44,an,am,acolor,atext⟩:Act)) rfl rfl rfl) fun a=>?_)
 refine A6m 0 rfl ?_
 refine pp0 2 rfl (ie (bN rfl (ip' 1 6 [(7,.func (.func 98) #[] #[pa ⟨a,0,none⟩])] (zv rfl (D9f (cap:=[pa ⟨a,0,none⟩]) _ (D2a rfl)) (cJ 5 4 5 rfl (ie (A5 (bN rfl (bO 2 12 rfl (ie ?_))))))))))
 refine zjb rfl hR ?_ ?_<;>clear hR<;>intro hR b
 ·refine bN rfl (cJ 2 2 3 rfl ?_)
  subst hR
  refine ie (A8 ?_)
  exact B1g hr hD
 refine A4 (nx (bN rfl (cJ 3 2 3 rfl ?_)))
 subst hR
 refine ie (A8 ?_)
 exact B1g hr hD
def A5l (an:Int) (am:Int) (acolor:Col) (atext:List UInt8):List UInt8 :=
 (C2 (B2q an am acolor atext) fun (a:List UInt8×Int)=>((([27,93]:List UInt8)++a.1)++([27,92]:List UInt8)))
theorem C5z (an:Int) (am:Int) (acolor:Col) (atext:List UInt8) (e:atext.length≤100000000) (R:List UInt8) (hR:A5l an am acolor atext=R):J5 Tryz.prog 147 [ag (A1 (⟨44,an,am,acolor,atext⟩:Act))] [] (sv R):=by
 refine zco Tryz.func147 [(0,ag (A1 (⟨44,an,am,acolor,atext⟩:Act)))] fun X hX hr hD=>?_
 replace hR:=(A5l.eq_1 ..).symm.trans hR
 refine sr 2 rfl (B2b 2 0 [] (fun b=>[(1,pt b 0)]) (fun b=>[bx b (A1 (⟨44,an,am,acolor,atext⟩:Act)) 60]) (fun b=>(ie (sr 7 rfl (bY 1 6 [0] [(6,ag (A1 (⟨44,an,am,acolor,atext⟩:Act)))] ?_)))))
 have d:=C9 hR;clear hR;obtain ⟨c,a,hR⟩:=d
 refine zca (C7d (an:=an) (am:=am) (acolor:=acolor) (atext:=atext) a osj) bT ?_
 have:=B4y an am acolor atext;try rw [a] at this
 refine ip' 5 0 [(3,sv c.1)] (ie (sr 4 rfl (ip' 1 3 [(10,sv c.1)] (ix rfl (zst rfl rfl rfl) (ix rfl (zst rfl rfl rfl) (ip' 1 0 [(2,sv ((([27,93]:List UInt8)++c.1)++([27,92]:List UInt8)))] ?_))))))
 subst hR
 refine ie (A8 ?_)
 exact G0 hr hD
def A5v (n:Int):Int :=
 (bif (decide (n=0)) then 0 else (IntKind.i64.wrap ((55:Int)+(IntKind.i64.wrap ((40:Int) * n)))))
theorem B4z {n R:Int} (hR:A5v n=R):J5 Tryz.prog 315 [iv n] [] (iv R):=by
 refine bZ Tryz.func315 fun X hX hr hD=>?_
 replace hR:=(A5v.eq_1 ..).symm.trans hR
 refine bN rfl (pp0 1 rfl (ie (A5 (bN rfl (bO 2 4 rfl (ie ?_))))))
 refine zjd rfl hR ?_ ?_<;>clear hR<;>intro hR b a
 ·refine bN rfl (bO 1 2 rfl ?_)
  subst hR
  refine ie (A8 ?_)
  exact G0 hr hD
 refine A4 (nx (bN rfl (bO 1 5 rfl (ix rfl (I6.pure rfl) (ix rfl (I6.pure rfl) (bO 1 2 rfl ?_))))))
 subst hR
 refine ie (A8 ?_)
 exact G0 hr hD
def B3k (n:Int):Int :=
 (bif (decide (n<16)) then (F0p.getD ((n).toNat) 0) else (bif (decide ((232:Int)≤n)) then (IntKind.i64.wrap ((IntKind.i64.wrap ((8:Int)+(IntKind.i64.wrap ((10:Int) * (IntKind.i64.wrap (n - (232:Int))))))) * (65793:Int))) else (bW .or .i64 (bW .or .i64 (IntKind.i64.wrap ((A5v (IntKind.i64.wrap (Int.tdiv (IntKind.i64.wrap (n - (16:Int))) 36))) * 65536)) (IntKind.i64.wrap ((A5v (Int.tmod (IntKind.i64.wrap (Int.tdiv (IntKind.i64.wrap (n - (16:Int))) 6)) 6)) * 256))) (A5v (Int.tmod (IntKind.i64.wrap (n - (16:Int))) 6)))))
theorem E0t {n R:Int} (hR:B3k n=R) (e:0≤n∧n≤255:=by exact bP):J5 Tryz.prog 283 [iv n] [O0] (iv R):=by
 refine bZ Tryz.func283 fun X hX hr hD=>?_
 replace hR:=(B3k.eq_1 ..).symm.trans hR
 refine bN rfl (pp0 1 rfl (ie (A5 (B2 (bN rfl (bO 3 3 rfl (ie ?_)))))))
 refine zjd rfl hR ?_ ?_<;>clear hR<;>intro hR f a
 ·refine bN rfl (bO 1 6 rfl (ix rfl (C1v Tryz.underlying358 cA rfl rfl rfl ((n).toNat) opx (by first|omega|(show _<16;omega))) (ix rfl (F2 cA rfl rfl (K2 (c:=J8) (sz:=1) rfl (fun _=>rfl) 0 rfl (gd 0 (by first|omega|(show _<16;omega)))) rfl) (bO 1 2 rfl ?_))))
  subst hR
  refine ie (A8 ?_)
  exact G0 hr hD
 refine bN rfl (bO 3 9 rfl (ie ?_))
 refine zjd rfl hR ?_ ?_<;>clear hR<;>intro hR d b
 ·refine bN rfl (bO 1 12 rfl (ix rfl (I6.pure rfl) (ix rfl (I6.pure rfl) (ix rfl (I6.pure rfl) (ix rfl (I6.pure rfl) (bO 1 2 rfl ?_))))))
  subst hR
  refine ie (A8 ?_)
  exact G0 hr hD
 refine A4 (nx (bN rfl (bO 1 17 rfl (ix rfl (I6.pure rfl) (bO 1 0 rfl (ie (bN rfl (bO 1 19 rfl (ix rfl (C9s rfl rfl rfl ozw) (zv rfl (B4z rfl) ?_))))))))))
 refine ix rfl (B4m (c:=(IntKind.i64.wrap ((A5v (IntKind.i64.wrap (Int.tdiv (IntKind.i64.wrap (n - (16:Int))) 36))) * 65536))) rfl rfl rfl ozw (by simp [IntKind.bits])) (bO 1 23 rfl (ix rfl (C9s rfl rfl rfl ozw) (ix rfl (E2m rfl rfl rfl ozw rfl) (zv rfl (B4z rfl) ?_))))
 refine ix rfl (B4m (c:=(IntKind.i64.wrap ((A5v (Int.tmod (IntKind.i64.wrap (Int.tdiv (IntKind.i64.wrap (n - (16:Int))) 6)) 6)) * 256))) rfl rfl rfl ozw (by simp [IntKind.bits])) (cJ 2 28 29 rfl (ix rfl (E2m rfl rfl rfl ozw rfl) (zv rfl (B4z rfl) (bO 2 2 rfl ?_))))
 subst hR
 refine ie (A8 ?_)
 exact G0 hr hD
def A9o (c:Col):Int×Bool :=
 (bif (!decide ((G3 c)=0)) then (0,false) else (bif (decide (c.kind=1)) then ((B3k c.n),true) else (bif (decide (c.kind=2)) then (c.n,true) else (0,false))))
theorem D6h:∀ n<256,0≤B3k ((n:Nat):Int)∧B3k ((n:Nat):Int)≤16777215:=by decide +kernel
theorem B9j {c:Col} (h:G3 c=0):0≤c.n∧c.n≤16777215∧(c.kind=1→c.n≤255):=by
 unfold G3 at h
 generalize hc:((((decide (c.kind<0))||(decide ((3:Int)≤c.kind)))||(decide (c.n<0)))||(decide ((([O2.a,O2.b,O2.c]:List Int).getD ((c.kind).toNat) 0)<c.n)))=b at h
 cases b with
 | true=>simp at h
 | false =>
  simp only [Bool.or_eq_false_iff,decide_eq_false_iff_not] at hc
  obtain ⟨⟨⟨g,j⟩,i⟩,d⟩:=hc
  have f:c.kind=0∨c.kind=1∨c.kind=2:=by omega
  rcases f with e | e | e
  ·rw [e] at d;have d:¬ ((0:Int)<c.n):=d;omega
  ·rw [e] at d;have d:¬ ((255:Int)<c.n):=d;omega
  ·rw [e] at d;have d:¬ ((16777215:Int)<c.n):=d;omega
theorem D5r (c:Col):0≤(A9o c).1∧(A9o c).1≤16777215:=by
 unfold A9o
 by_cases h:G3 c=0
 ·have a:=B9j h
  rw [decide_eq_true h]
  by_cases h1:c.kind=1
  ·rw [decide_eq_true h1]
   obtain ⟨n,e⟩:∃ n:Nat,c.n=n:=⟨c.n.toNat,by omega⟩
   show 0≤B3k c.n∧B3k c.n≤16777215
   rw [e];exact D6h n opx
  ·rw [decide_eq_false h1]
   by_cases h2:c.kind=2
   ·rw [decide_eq_true h2];exact ⟨a.1,a.2.1⟩
   ·rw [decide_eq_false h2];exact ⟨Int.le_refl _,by show (0:Int)≤_;omega⟩
 ·rw [decide_eq_false h];exact ⟨Int.le_refl _,by show (0:Int)≤_;omega⟩
theorem D8a {c:Col} {R:Int×Bool} (hR:A9o c=R):J5 Tryz.prog 239 [ag (P0 c)] [O0] (.tuple #[iv R.1,bv R.2]):=by
 refine bZ Tryz.func239 fun X hX hr hD=>?_
 replace hR:=(A9o.eq_1 ..).symm.trans hR
 refine bN rfl (zra 3 [] (fun a=>[(1,pt a 0)]) (fun _=>(P0 c)) 24 fun a=>(ie (A5 (bN rfl (bY 1 2 [0] [(4,ag (P0 c))] (zv rfl (A0p rfl) (bO 1 6 rfl (ie ?_))))))))
 refine zjn rfl hR ?_ ?_<;>clear hR<;>intro hR g d
 ·refine bN rfl (cJ 2 2 3 rfl ?_)
  subst hR
  refine ie (A8 ?_)
  exact B1g hr hD
 refine A4 (nx (A5 (bN rfl (cE 2 [0] 8 rfl (ie (B2 (bN rfl (bO 2 9 rfl (ie ?_)))))))))
 refine zjd rfl hR ?_ ?_<;>clear hR<;>intro hR h f
 ·refine bN rfl (cE 2 [0] 12 rfl (zv rfl (E0t rfl (by first|omega|(have b:=B9j (Decidable.of_not_not oiu);omega))) (cJ 2 2 3 rfl ?_)))
  subst hR
  refine ie (A8 ?_)
  exact B1g hr hD
 refine bN rfl (bO 2 14 rfl (ie ?_))
 refine zjd rfl hR ?_ ?_<;>clear hR<;>intro hR i e
 ·refine bN rfl (pl2 4 [0] 2 3 rfl ?_)
  subst hR
  refine ie (A8 ?_)
  exact B1g hr hD
 refine A4 (nx (bN rfl (cJ 2 2 3 rfl ?_)))
 subst hR
 refine ie (A8 ?_)
 exact B1g hr hD
def A3h:Bool :=
 (decide ((bW .and .i64 16 15)=0))
theorem A8t {R:Bool} (hR:A3h=R):J5 Tryz.prog 329 [iv 16] [] (bv R):=by
 refine bZ Tryz.func329 fun X hX hr hD=>?_
 replace hR:=(A3h.eq_1 ..).symm.trans hR
 refine bN rfl (pp0 1 rfl (ie (bN rfl (cJ 2 3 4 rfl (ix rfl (Q6 (c:=15) rfl rfl rfl rfl ozw) (bO 3 2 rfl ?_))))))
 subst hR
 refine ie (A8 ?_)
 exact G0 hr hD
def A1t:Int :=
 ((E3k.getD 15 0).toNat:Int)
theorem B1z {R:Int} (hR:A1t=R):J5 Tryz.prog 335 [.int .u64 16] [M9] (iv R):=by
 refine bZ Tryz.func335 fun X hX hr hD=>?_
 replace hR:=(A1t.eq_1 ..).symm.trans hR
 refine bN rfl (pp0 1 rfl (ie (A5 (bN rfl (bO 2 4 rfl (ie (Z1 rfl (A4 (nx (bN rfl (bO 5 9 rfl (ix rfl (U3 (c:=15) rfl rfl rfl ozw (by decide +kernel)) (ix rfl (D8f Tryz.underlying373 ty5 rfl rfl rfl 15 rfl (by first|decide|omega)) (ix rfl (F2 ty5 rfl rfl (K2 (c:=cG) (sz:=1) rfl (fun _=>rfl) 0 rfl (gd 0 (by first|decide|(simp only [E3k,List.length_cons,List.length_nil];omega)))) rfl) (ix rfl (B2l (c:=((E3k.getD 15 0).toNat:Int)) Tryz.underlying3 oki rfl rfl (B0c (E3k.getD 15 0))) ?_)))))))))))))))
 refine bO 1 2 rfl ?_
 subst hR
 refine ie (A8 ?_)
 exact G0 hr hD
def A7h:Int :=
 A1t
theorem B3u {R:Int} (hR:A7h=R):J5 Tryz.prog 330 [.int .u64 16] [M9] (iv R):=by
 refine bZ Tryz.func330 fun X hX hr hD=>?_
 replace hR:=(A7h.eq_1 ..).symm.trans hR
 refine bN rfl (pp0 1 rfl (ie (A5 (Z1 rfl (A4 (nx (bN rfl (bO 1 6 rfl (zv rfl (B1z rfl) (bO 1 2 rfl ?_))))))))))
 subst hR
 refine ie (A8 ?_)
 exact G0 hr hD
def A0m (u:Int) (a:Bool) (append:Bool):List UInt8 :=
 ([(N9.getD (((((((u / 16) / 16) / 16) / 16) / 16) / 16).toNat) 0),(N9.getD ((bW .and .u64 (((((u / 16) / 16) / 16) / 16) / 16) 15).toNat) 0),(N9.getD ((bW .and .u64 ((((u / 16) / 16) / 16) / 16) 15).toNat) 0),(N9.getD ((bW .and .u64 (((u / 16) / 16) / 16) 15).toNat) 0),(N9.getD ((bW .and .u64 ((u / 16) / 16) 15).toNat) 0),(N9.getD ((bW .and .u64 (u / 16) 15).toNat) 0),(N9.getD ((bW .and .u64 u 15).toNat) 0)]:List UInt8)
theorem B0r (u:Int) (a:Bool) (append:Bool) (g:append=false) (d:a=false) (a5:16777216≤u∧u≤33554431) (R:List UInt8) (hR:A0m u a append=R):J5 Tryz.prog 319 [.slice none 0 0,.int .u64 u,iv 16,bv a,bv append] [M9] (.tuple #[.slice none 0 0,sv R]):=by
 refine zco Tryz.func319 [(0,.slice none 0 0),(1,.int .u64 u),(2,iv 16),(3,bv a),(4,bv append)] fun X hX hr hD=>?_
 replace hR:=(A0m.eq_1 ..).symm.trans hR
 have y:=B2r u
 have a1:=B2r (u / 16)
 have a0:=B2r ((u / 16) / 16)
 have a4:=B2r (((u / 16) / 16) / 16)
 have z:=B2r ((((u / 16) / 16) / 16) / 16)
 have a3:=B2r (((((u / 16) / 16) / 16) / 16) / 16)
 have a2:=B2r ((((((u / 16) / 16) / 16) / 16) / 16) / 16)
 refine sr 2 rfl (ip' 2 0 [(10,.slice none 0 0),(11,sv ([]:List UInt8))] (ie (A5 (sr 10 rfl (ip' 10 0 [(28,bv false)] (ie (Z1 rfl (A4 (nx (sr 1 rfl (B2b 1 0 [] (fun b=>[(12,pt b 0)]) (fun b=>[bx b (List.replicate 65 (.int .u8 0)) 367]) (fun b=>(ie (sr 1 rfl (ip' 1 0 [(13,iv 65)] (ie (A5 (sr 1 rfl (ip' 1 0 [(30,bv a)] ?_)))))))))))))))))))
 refine ie (X7 rfl (fun r=>?_) (fun r=>?_))
 ·exfalso;rw [d] at r;cases r
 refine A4 (nx (A5 (sr 2 rfl (ip' 1 1 [(33,iv 16)] (zca (A8t (R:=true) (by decide +kernel)) bT (ie (J9 rfl (sr 5 rfl (ip' 2 3 [(36,.int .u64 16)] (zca (B3u (R:=4) (by decide +kernel)) A9.refl (ip' 2 0 [(14,.int .u64 4)] (ie (sr 3 rfl (ip' 3 0 [(15,.int .u64 16)] (ie (sr 4 rfl (ip' 4 0 [(16,.int .u64 15)] ?_)))))))))))))))))
 refine ie (A5 (B2 (Z6 7 ?_)))
 refine D9 (A5 (sr 3 rfl (ip' 3 0 [(46,bv (decide ((16:Int)≤u)))] ?_)))
 refine ie (X7 rfl (fun l=>?_) (fun l=>?_))
 ·have s:(16:Int)≤u:=by simpa using l
  refine A4 (nx (B2 (sr 3 rfl (ip' 1 2 [(47,iv 65)] (ix rfl (Q6 (c:=64) rfl rfl rfl rfl ozw) (ip' 1 0 [(13,iv 64)] (ie (sr 7 rfl (ip' 4 3 [(49,iv 64),(52,.int .u64 (bW .and .u64 u 15))] (ix rfl (A9h (T:=9) Tryz.underlying9 rfl rfl rfl ((bW .and .u64 u 15).toNat) opx (by first|omega|(simp only [List.length_cons,List.length_nil];omega)|(show _<36;omega))) (ix rfl (A2o Tryz.underlying367 ty5 rfl rfl rfl 64 rfl rfl) (zrg 1 0 [0] [] [bx b [aL,aL,aL,aL,aL,aL,aL,aL,aL,aL,aL,aL,aL,aL,aL,aL,aL,aL,aL,aL,aL,aL,aL,aL,aL,aL,aL,aL,aL,aL,aL,aL,aL,aL,aL,aL,aL,aL,aL,aL,aL,aL,aL,aL,aL,aL,aL,aL,aL,aL,aL,aL,aL,aL,aL,aL,aL,aL,aL,aL,aL,aL,aL,aL,.int .u8 ((N9.getD ((bW .and .u64 u 15).toNat) 0).toNat:Int)] 367] ?_))))))))))))
  refine ie (A0 4 rfl (ip' 2 2 [(55,.int .u64 u),(56,.int .u64 4)] ?_))
  refine ix rfl (U3 (c:=u / 16) rfl rfl rfl ozw (by simp [Int.fdiv_eq_ediv_of_nonneg,IntKind.bits])) (ip' 1 0 [(1,.int .u64 (u / 16))] (A3 (D9 (A5 (sr 3 rfl (ip' 3 0 [(46,bv (decide ((16:Int)≤(u / 16))))] ?_))))))
  refine ie (X7 rfl (fun x=>?_) (fun x=>?_))
  ·have j:(16:Int)≤(u / 16):=by simpa using x
   refine A4 (nx (B2 (sr 3 rfl (ip' 1 2 [(47,iv 64)] (ix rfl (Q6 (c:=63) rfl rfl rfl rfl ozw) (ip' 1 0 [(13,iv 63)] (ie (sr 7 rfl (ip' 4 3 [(49,iv 63),(52,.int .u64 (bW .and .u64 (u / 16) 15))] (ix rfl (A9h (T:=9) Tryz.underlying9 rfl rfl rfl ((bW .and .u64 (u / 16) 15).toNat) opx (by first|omega|(simp only [List.length_cons,List.length_nil];omega)|(show _<36;omega))) (ix rfl (A2o Tryz.underlying367 ty5 rfl rfl rfl 63 rfl rfl) (zrg 1 0 [0] [] [bx b [aL,aL,aL,aL,aL,aL,aL,aL,aL,aL,aL,aL,aL,aL,aL,aL,aL,aL,aL,aL,aL,aL,aL,aL,aL,aL,aL,aL,aL,aL,aL,aL,aL,aL,aL,aL,aL,aL,aL,aL,aL,aL,aL,aL,aL,aL,aL,aL,aL,aL,aL,aL,aL,aL,aL,aL,aL,aL,aL,aL,aL,aL,aL,.int .u8 ((N9.getD ((bW .and .u64 (u / 16) 15).toNat) 0).toNat:Int),.int .u8 ((N9.getD ((bW .and .u64 u 15).toNat) 0).toNat:Int)] 367] ?_))))))))))))
   refine ie (A0 4 rfl (ip' 2 2 [(55,.int .u64 (u / 16)),(56,.int .u64 4)] ?_))
   refine ix rfl (U3 (c:=(u / 16) / 16) rfl rfl rfl ozw (by simp [Int.fdiv_eq_ediv_of_nonneg,IntKind.bits])) (ip' 1 0 [(1,.int .u64 ((u / 16) / 16))] (A3 (D9 (A5 (sr 3 rfl (ip' 3 0 [(46,bv (decide ((16:Int)≤((u / 16) / 16))))] ?_))))))
   refine ie (X7 rfl (fun i=>?_) (fun i=>?_))
   ·have t:(16:Int)≤((u / 16) / 16):=by simpa using i
    refine A4 (nx (B2 (sr 3 rfl (ip' 1 2 [(47,iv 63)] (ix rfl (Q6 (c:=62) rfl rfl rfl rfl ozw) (ip' 1 0 [(13,iv 62)] (ie (sr 7 rfl (ip' 4 3 [(49,iv 62),(52,.int .u64 (bW .and .u64 ((u / 16) / 16) 15))] (ix rfl (A9h (T:=9) Tryz.underlying9 rfl rfl rfl ((bW .and .u64 ((u / 16) / 16) 15).toNat) opx (by first|omega|(simp only [List.length_cons,List.length_nil];omega)|(show _<36;omega))) (ix rfl (A2o Tryz.underlying367 ty5 rfl rfl rfl 62 rfl rfl) (zrg 1 0 [0] [] [bx b [aL,aL,aL,aL,aL,aL,aL,aL,aL,aL,aL,aL,aL,aL,aL,aL,aL,aL,aL,aL,aL,aL,aL,aL,aL,aL,aL,aL,aL,aL,aL,aL,aL,aL,aL,aL,aL,aL,aL,aL,aL,aL,aL,aL,aL,aL,aL,aL,aL,aL,aL,aL,aL,aL,aL,aL,aL,aL,aL,aL,aL,aL,.int .u8 ((N9.getD ((bW .and .u64 ((u / 16) / 16) 15).toNat) 0).toNat:Int),.int .u8 ((N9.getD ((bW .and .u64 (u / 16) 15).toNat) 0).toNat:Int),.int .u8 ((N9.getD ((bW .and .u64 u 15).toNat) 0).toNat:Int)] 367] ?_))))))))))))
    refine ie (A0 4 rfl (ip' 2 2 [(55,.int .u64 ((u / 16) / 16)),(56,.int .u64 4)] ?_))
    refine ix rfl (U3 (c:=((u / 16) / 16) / 16) rfl rfl rfl ozw (by simp [Int.fdiv_eq_ediv_of_nonneg,IntKind.bits])) (ip' 1 0 [(1,.int .u64 (((u / 16) / 16) / 16))] (A3 (D9 (A5 (sr 3 rfl (ip' 3 0 [(46,bv (decide ((16:Int)≤(((u / 16) / 16) / 16))))] ?_))))))
    refine ie (X7 rfl (fun v=>?_) (fun v=>?_))
    ·have h:(16:Int)≤(((u / 16) / 16) / 16):=by simpa using v
     refine A4 (nx (B2 (sr 3 rfl (ip' 1 2 [(47,iv 62)] (ix rfl (Q6 (c:=61) rfl rfl rfl rfl ozw) (ip' 1 0 [(13,iv 61)] (ie (sr 7 rfl (ip' 4 3 [(49,iv 61),(52,.int .u64 (bW .and .u64 (((u / 16) / 16) / 16) 15))] (ix rfl (A9h (T:=9) Tryz.underlying9 rfl rfl rfl ((bW .and .u64 (((u / 16) / 16) / 16) 15).toNat) opx (by first|omega|(simp only [List.length_cons,List.length_nil];omega)|(show _<36;omega))) (ix rfl (A2o Tryz.underlying367 ty5 rfl rfl rfl 61 rfl rfl) (zrg 1 0 [0] [] [bx b [aL,aL,aL,aL,aL,aL,aL,aL,aL,aL,aL,aL,aL,aL,aL,aL,aL,aL,aL,aL,aL,aL,aL,aL,aL,aL,aL,aL,aL,aL,aL,aL,aL,aL,aL,aL,aL,aL,aL,aL,aL,aL,aL,aL,aL,aL,aL,aL,aL,aL,aL,aL,aL,aL,aL,aL,aL,aL,aL,aL,aL,.int .u8 ((N9.getD ((bW .and .u64 (((u / 16) / 16) / 16) 15).toNat) 0).toNat:Int),.int .u8 ((N9.getD ((bW .and .u64 ((u / 16) / 16) 15).toNat) 0).toNat:Int),.int .u8 ((N9.getD ((bW .and .u64 (u / 16) 15).toNat) 0).toNat:Int),.int .u8 ((N9.getD ((bW .and .u64 u 15).toNat) 0).toNat:Int)] 367] ?_))))))))))))
     refine ie (A0 4 rfl (ip' 2 2 [(55,.int .u64 (((u / 16) / 16) / 16)),(56,.int .u64 4)] ?_))
     refine ix rfl (U3 (c:=(((u / 16) / 16) / 16) / 16) rfl rfl rfl ozw (by simp [Int.fdiv_eq_ediv_of_nonneg,IntKind.bits])) (ip' 1 0 [(1,.int .u64 ((((u / 16) / 16) / 16) / 16))] (A3 (D9 (A5 (sr 3 rfl (ip' 3 0 [(46,bv (decide ((16:Int)≤((((u / 16) / 16) / 16) / 16))))] ?_))))))
     refine ie (X7 rfl (fun w=>?_) (fun w=>?_))
     ·have o:(16:Int)≤((((u / 16) / 16) / 16) / 16):=by simpa using w
      refine A4 (nx (B2 (sr 3 rfl (ip' 1 2 [(47,iv 61)] (ix rfl (Q6 (c:=60) rfl rfl rfl rfl ozw) (ip' 1 0 [(13,iv 60)] (ie (sr 7 rfl (ip' 4 3 [(49,iv 60),(52,.int .u64 (bW .and .u64 ((((u / 16) / 16) / 16) / 16) 15))] (ix rfl (A9h (T:=9) Tryz.underlying9 rfl rfl rfl ((bW .and .u64 ((((u / 16) / 16) / 16) / 16) 15).toNat) opx (by first|omega|(simp only [List.length_cons,List.length_nil];omega)|(show _<36;omega))) (ix rfl (A2o Tryz.underlying367 ty5 rfl rfl rfl 60 rfl rfl) (zrg 1 0 [0] [] [bx b [aL,aL,aL,aL,aL,aL,aL,aL,aL,aL,aL,aL,aL,aL,aL,aL,aL,aL,aL,aL,aL,aL,aL,aL,aL,aL,aL,aL,aL,aL,aL,aL,aL,aL,aL,aL,aL,aL,aL,aL,aL,aL,aL,aL,aL,aL,aL,aL,aL,aL,aL,aL,aL,aL,aL,aL,aL,aL,aL,aL,.int .u8 ((N9.getD ((bW .and .u64 ((((u / 16) / 16) / 16) / 16) 15).toNat) 0).toNat:Int),.int .u8 ((N9.getD ((bW .and .u64 (((u / 16) / 16) / 16) 15).toNat) 0).toNat:Int),.int .u8 ((N9.getD ((bW .and .u64 ((u / 16) / 16) 15).toNat) 0).toNat:Int),.int .u8 ((N9.getD ((bW .and .u64 (u / 16) 15).toNat) 0).toNat:Int),.int .u8 ((N9.getD ((bW .and .u64 u 15).toNat) 0).toNat:Int)] 367] ?_))))))))))))
      refine ie (A0 4 rfl (ip' 2 2 [(55,.int .u64 ((((u / 16) / 16) / 16) / 16)),(56,.int .u64 4)] ?_))
      refine ix rfl (U3 (c:=((((u / 16) / 16) / 16) / 16) / 16) rfl rfl rfl ozw (by simp [Int.fdiv_eq_ediv_of_nonneg,IntKind.bits])) (ip' 1 0 [(1,.int .u64 (((((u / 16) / 16) / 16) / 16) / 16))] (A3 (D9 (A5 (sr 3 rfl (ip' 3 0 [(46,bv (decide ((16:Int)≤(((((u / 16) / 16) / 16) / 16) / 16))))] ?_))))))
      refine ie (X7 rfl (fun k=>?_) (fun k=>?_))
      ·have n:(16:Int)≤(((((u / 16) / 16) / 16) / 16) / 16):=by simpa using k
       refine A4 (nx (B2 (sr 3 rfl (ip' 1 2 [(47,iv 60)] (ix rfl (Q6 (c:=59) rfl rfl rfl rfl ozw) (ip' 1 0 [(13,iv 59)] (ie (sr 7 rfl (ip' 4 3 [(49,iv 59),(52,.int .u64 (bW .and .u64 (((((u / 16) / 16) / 16) / 16) / 16) 15))] (ix rfl (A9h (T:=9) Tryz.underlying9 rfl rfl rfl ((bW .and .u64 (((((u / 16) / 16) / 16) / 16) / 16) 15).toNat) opx (by first|omega|(simp only [List.length_cons,List.length_nil];omega)|(show _<36;omega))) (ix rfl (A2o Tryz.underlying367 ty5 rfl rfl rfl 59 rfl rfl) (zrg 1 0 [0] [] [bx b [aL,aL,aL,aL,aL,aL,aL,aL,aL,aL,aL,aL,aL,aL,aL,aL,aL,aL,aL,aL,aL,aL,aL,aL,aL,aL,aL,aL,aL,aL,aL,aL,aL,aL,aL,aL,aL,aL,aL,aL,aL,aL,aL,aL,aL,aL,aL,aL,aL,aL,aL,aL,aL,aL,aL,aL,aL,aL,aL,.int .u8 ((N9.getD ((bW .and .u64 (((((u / 16) / 16) / 16) / 16) / 16) 15).toNat) 0).toNat:Int),.int .u8 ((N9.getD ((bW .and .u64 ((((u / 16) / 16) / 16) / 16) 15).toNat) 0).toNat:Int),.int .u8 ((N9.getD ((bW .and .u64 (((u / 16) / 16) / 16) 15).toNat) 0).toNat:Int),.int .u8 ((N9.getD ((bW .and .u64 ((u / 16) / 16) 15).toNat) 0).toNat:Int),.int .u8 ((N9.getD ((bW .and .u64 (u / 16) 15).toNat) 0).toNat:Int),.int .u8 ((N9.getD ((bW .and .u64 u 15).toNat) 0).toNat:Int)] 367] ?_))))))))))))
       refine ie (A0 4 rfl (ip' 2 2 [(55,.int .u64 (((((u / 16) / 16) / 16) / 16) / 16)),(56,.int .u64 4)] ?_))
       refine ix rfl (U3 (c:=(((((u / 16) / 16) / 16) / 16) / 16) / 16) rfl rfl rfl ozw (by simp [Int.fdiv_eq_ediv_of_nonneg,IntKind.bits])) (ip' 1 0 [(1,.int .u64 ((((((u / 16) / 16) / 16) / 16) / 16) / 16))] (A3 (D9 (A5 (sr 3 rfl (ip' 3 0 [(46,bv (decide ((16:Int)≤((((((u / 16) / 16) / 16) / 16) / 16) / 16))))] ?_))))))
       refine ie (X7 rfl (fun m=>?_) (fun m=>?_))
       ·have p:(16:Int)≤((((((u / 16) / 16) / 16) / 16) / 16) / 16):=by simpa using m
        exfalso;omega
       have p:¬ ((16:Int)≤((((((u / 16) / 16) / 16) / 16) / 16) / 16)):=by simpa using m
       refine G6 (nx (sr 3 rfl (ip' 1 2 [(58,iv 59)] ?_)))
       refine ix rfl (Q6 (c:=58) rfl rfl rfl rfl ozw) (ip' 1 0 [(13,iv 58)] (ie (A0 5 rfl (ip' 2 3 [(60,iv 58),(61,.int .u64 ((((((u / 16) / 16) / 16) / 16) / 16) / 16))] (ix rfl (A9h (T:=9) Tryz.underlying9 rfl rfl rfl (((((((u / 16) / 16) / 16) / 16) / 16) / 16).toNat) opx (by first|omega|(simp only [List.length_cons,List.length_nil];omega)|(show _<36;omega))) (ix rfl (A2o Tryz.underlying367 ty5 rfl rfl rfl 58 rfl rfl) (zrg 1 0 [0] [] [bx b [aL,aL,aL,aL,aL,aL,aL,aL,aL,aL,aL,aL,aL,aL,aL,aL,aL,aL,aL,aL,aL,aL,aL,aL,aL,aL,aL,aL,aL,aL,aL,aL,aL,aL,aL,aL,aL,aL,aL,aL,aL,aL,aL,aL,aL,aL,aL,aL,aL,aL,aL,aL,aL,aL,aL,aL,aL,aL,.int .u8 ((N9.getD (((((((u / 16) / 16) / 16) / 16) / 16) / 16).toNat) 0).toNat:Int),.int .u8 ((N9.getD ((bW .and .u64 (((((u / 16) / 16) / 16) / 16) / 16) 15).toNat) 0).toNat:Int),.int .u8 ((N9.getD ((bW .and .u64 ((((u / 16) / 16) / 16) / 16) 15).toNat) 0).toNat:Int),.int .u8 ((N9.getD ((bW .and .u64 (((u / 16) / 16) / 16) 15).toNat) 0).toNat:Int),.int .u8 ((N9.getD ((bW .and .u64 ((u / 16) / 16) 15).toNat) 0).toNat:Int),.int .u8 ((N9.getD ((bW .and .u64 (u / 16) 15).toNat) 0).toNat:Int),.int .u8 ((N9.getD ((bW .and .u64 u 15).toNat) 0).toNat:Int)] 367] (A3 (nx (A5 (sr 1 rfl (ip' 1 0 [(89,bv a)] ?_))))))))))))
       refine ie (X7 rfl (fun e=>?_) (fun e=>?_))
       ·exfalso;rw [d] at e;cases e
       refine A4 (nx (A5 (sr 1 rfl (ip' 1 0 [(94,bv append)] ?_))))
       refine ie (X7 rfl (fun f=>?_) (fun f=>?_))
       ·exfalso;rw [g] at f;cases f
       refine A4 (nx (sr 4 rfl (ip' 1 3 [(99,iv 58)] ?_)))
       refine A6m 0 rfl ?_
       refine D7 (q:=sl cG (some (Addr.add ⟨b,0,none⟩ (58 * 1))) ([(N9.getD (((((((u / 16) / 16) / 16) / 16) / 16) / 16).toNat) 0),(N9.getD ((bW .and .u64 (((((u / 16) / 16) / 16) / 16) / 16) 15).toNat) 0),(N9.getD ((bW .and .u64 ((((u / 16) / 16) / 16) / 16) 15).toNat) 0),(N9.getD ((bW .and .u64 (((u / 16) / 16) / 16) 15).toNat) 0),(N9.getD ((bW .and .u64 ((u / 16) / 16) 15).toNat) 0),(N9.getD ((bW .and .u64 (u / 16) 15).toNat) 0),(N9.getD ((bW .and .u64 u 15).toNat) 0)]:List UInt8)) (B6q (B8 0 rfl) 58 7 rfl) ?_
       refine ix rfl (D8s Tryz.underlying367 ty5 rfl rfl rfl 58 rfl ozw) ?_
       have:([(N9.getD (((((((u / 16) / 16) / 16) / 16) / 16) / 16).toNat) 0),(N9.getD ((bW .and .u64 (((((u / 16) / 16) / 16) / 16) / 16) 15).toNat) 0),(N9.getD ((bW .and .u64 ((((u / 16) / 16) / 16) / 16) 15).toNat) 0),(N9.getD ((bW .and .u64 (((u / 16) / 16) / 16) 15).toNat) 0),(N9.getD ((bW .and .u64 ((u / 16) / 16) 15).toNat) 0),(N9.getD ((bW .and .u64 (u / 16) 15).toNat) 0),(N9.getD ((bW .and .u64 u 15).toNat) 0)]:List UInt8).length=7:=rfl
       refine ix rfl (C3o Tryz.underlying9 Tryz.underlying103 rfl rfl (B8 0 rfl) rfl oki) ?_
       have:([(N9.getD (((((((u / 16) / 16) / 16) / 16) / 16) / 16).toNat) 0),(N9.getD ((bW .and .u64 (((((u / 16) / 16) / 16) / 16) / 16) 15).toNat) 0),(N9.getD ((bW .and .u64 ((((u / 16) / 16) / 16) / 16) 15).toNat) 0),(N9.getD ((bW .and .u64 (((u / 16) / 16) / 16) 15).toNat) 0),(N9.getD ((bW .and .u64 ((u / 16) / 16) 15).toNat) 0),(N9.getD ((bW .and .u64 (u / 16) 15).toNat) 0),(N9.getD ((bW .and .u64 u 15).toNat) 0)]:List UInt8).length=7:=rfl
       refine ip' 1 0 [(11,sv ([(N9.getD (((((((u / 16) / 16) / 16) / 16) / 16) / 16).toNat) 0),(N9.getD ((bW .and .u64 (((((u / 16) / 16) / 16) / 16) / 16) 15).toNat) 0),(N9.getD ((bW .and .u64 ((((u / 16) / 16) / 16) / 16) 15).toNat) 0),(N9.getD ((bW .and .u64 (((u / 16) / 16) / 16) 15).toNat) 0),(N9.getD ((bW .and .u64 ((u / 16) / 16) 15).toNat) 0),(N9.getD ((bW .and .u64 (u / 16) 15).toNat) 0),(N9.getD ((bW .and .u64 u 15).toNat) 0)]:List UInt8))] ?_
       subst hR
       refine ie (A8 ?_)
       exact B1g hr hD
      have n:¬ ((16:Int)≤(((((u / 16) / 16) / 16) / 16) / 16)):=by simpa using k
      exfalso;omega
     have o:¬ ((16:Int)≤((((u / 16) / 16) / 16) / 16)):=by simpa using w
     exfalso;omega
    have h:¬ ((16:Int)≤(((u / 16) / 16) / 16)):=by simpa using v
    exfalso;omega
   have t:¬ ((16:Int)≤((u / 16) / 16)):=by simpa using i
   exfalso;omega
  have j:¬ ((16:Int)≤(u / 16)):=by simpa using x
  exfalso;omega
 have s:¬ ((16:Int)≤u):=by simpa using l
 exfalso;omega
def A1j (i:Int):List UInt8 :=
 (C2 (A0m i (decide (i<0)) false) fun (a:List UInt8)=>a)
theorem B1h {i:Int} {R:List UInt8} (hR:A1j i=R) (d:16777216≤i∧i≤33554431:=by exact bP):J5 Tryz.prog 284 [iv i,iv 16] [M9] (sv R):=by
 refine bZ Tryz.func284 fun X hX hr hD=>?_
 replace hR:=(A1j.eq_1 ..).symm.trans hR
 refine bN rfl (pp0 1 rfl (ie (A5 (bN rfl (bO 2 11 rfl (ie (Z1 rfl (A4 (nx (bN rfl (bO 1 45 rfl (ix rfl (B2l (c:=i) Tryz.underlying330 oki rfl rfl (A0j (by first|(simp [IntKind.min,IntKind.signed,IntKind.bits];omega)|(simp [IntKind.max,IntKind.signed,IntKind.bits];omega)) (by first|(simp [IntKind.min,IntKind.signed,IntKind.bits];omega)|(simp [IntKind.max,IntKind.signed,IntKind.bits];omega)))) (cJ 3 47 49 rfl ?_)))))))))))))
 have e:=C9 hR;clear hR;obtain ⟨b,a,hR⟩:=e
 refine zv rfl (B0r i (decide (i<0)) false (by rfl) (by simp;omega) opx b a) (bO 5 9 rfl (ie (bN rfl (bO 2 4 rfl ?_))))
 subst hR
 refine ie (A8 ?_)
 exact G0 hr hD
def A4w (i:Int):List UInt8 :=
 (C2 (A1j i) fun (a:List UInt8)=>a)
theorem A8x (i:Int):(A4w i).length=7:=rfl
theorem C0x {i:Int} {R:List UInt8} (hR:A4w i=R) (c:16777216≤i∧i≤33554431:=by exact bP):J5 Tryz.prog 240 [iv i,iv 16] [M9] (sv R):=by
 refine bZ Tryz.func240 fun X hX hr hD=>?_
 replace hR:=(A4w.eq_1 ..).symm.trans hR
 refine bN rfl (pp0 1 rfl (ie (bN rfl (cJ 2 5 6 rfl ?_))))
 have d:=C9 hR;clear hR;obtain ⟨b,a,hR⟩:=d
 refine zv rfl (B1h a) (bO 1 4 rfl ?_)
 subst hR
 refine ie (A8 ?_)
 exact G0 hr hD
theorem F5j {n:Int} (h:0≤n∧n≤16777215):bW .or .i64 n 16777216=n+16777216:=by
 obtain ⟨m,rfl⟩:∃ m:Nat,n=m:=⟨n.toNat,by omega⟩
 have a:m<16777216:=by omega
 have e:((BitVec.ofInt 64 (m:Int)) ||| (BitVec.ofInt 64 16777216)).toNat=m+16777216:=by
  rw [BitVec.toNat_or,BitVec.ofInt_natCast,BitVec.toNat_ofNat,Nat.mod_eq_of_lt opx]
  show m ||| 16777216=_
  have:=Nat.two_pow_add_eq_or_of_lt (i:=24) (b:=m) opx 1
  rw [show 2 ^ 24 * 1=16777216 by decide] at this
  rw [Nat.or_comm];omega
 show IntKind.i64.wrap (((BitVec.ofInt 64 (m:Int)) ||| (BitVec.ofInt 64 16777216)).toNat:Int)=_
 rw [e]
 exact (A0j (by show (-9223372036854775808:Int)≤_;omega) (by show _≤(9223372036854775807:Int);omega)).trans opx
def B3p (c:Col):List UInt8×Int :=
 (bif (!decide ((G3 c)=0)) then (([]:List UInt8),(G3 c)) else (C2 (A9o c) fun (a:Int×Bool)=>(bif (!a.2) then (([]:List UInt8),2) else (C2 (A4w (bW .or .i64 a.1 16777216)) fun (b:List UInt8)=>((((((([114,103,98,58]:List UInt8)++((b.drop 1).take 2))++([47]:List UInt8))++(((b.drop 1).drop 2).take (4 - 2)))++([47]:List UInt8))++((b.drop 1).drop 4)),0)))))
theorem B9p (c:Col):(B3p c).1.length≤40:=by
 unfold B3p C2
 simp only [Bool.cond_eq_ite]
 repeat' split
 ·exact Nat.zero_le _
 ·exact Nat.zero_le _
 ·have:=A8x (bW .or .i64 (A9o c).1 16777216)
  simp only [List.length_append,List.length_cons,List.length_nil,List.length_take,List.length_drop]
  omega
theorem D5x {c:Col} {R:List UInt8×Int} (hR:B3p c=R):J5 Tryz.prog 186 [ag (P0 c)] [O0,M9] (.tuple #[sv R.1,iv R.2]):=by
 refine bZ Tryz.func186 fun X hX hr hD=>?_
 replace hR:=(B3p.eq_1 ..).symm.trans hR
 refine bN rfl (zra 3 [] (fun g=>[(1,pt g 0)]) (fun _=>(P0 c)) 24 fun g=>(ie (A5 (bN rfl (bY 1 2 [0] [(8,ag (P0 c))] (zv rfl (A0p rfl) (bO 1 4 rfl (ie (bN rfl (bO 2 11 rfl (ie ?_)))))))))))
 refine zjn rfl hR ?_ ?_<;>clear hR<;>intro hR i h
 ·refine bN rfl (cJ 3 2 3 rfl ?_)
  subst hR
  refine ie (A8 ?_)
  exact B1g hr hD
 refine A4 (nx (bN rfl (bY 1 6 [0] [(14,ag (P0 c))] ?_)))
 have f:=C9 hR;clear hR;obtain ⟨e,a,hR⟩:=f
 refine zv rfl (D8a a) ?_
 have:=D5r c;try rw [a] at this
 refine cJ 5 5 6 rfl (ie (A5 (bN rfl (bO 2 19 rfl (ie ?_)))))
 refine zjb rfl hR ?_ ?_<;>clear hR<;>intro hR j
 ·refine bN rfl (cJ 2 2 3 rfl ?_)
  subst hR
  refine ie (A8 ?_)
  exact B1g hr hD
 refine A4 (nx (bN rfl (bO 2 21 rfl ?_)))
 have f:=C9 hR;clear hR;obtain ⟨b,d,hR⟩:=f
 refine zv rfl (C0x d (by first|omega|(rw [F5j opx];omega))) ?_
 have:=A8x (bW .or .i64 e.1 16777216);try rw [d] at this
 refine ix rfl (C1d (T:=9) Tryz.underlying9 rfl rfl rfl 1 rfl opx) ?_
 have:=@List.length_drop _ 1 b
 refine bO 1 7 rfl (ie (sd 13 rfl oki rfl (pd1 1 24 rfl (dd rfl (B9g (T:=9) Tryz.underlying9 rfl rfl rfl 2 rfl opx) ?_))))
 have:=@List.length_drop _ 1 b
 have:=@List.length_take _ 2 (b.drop 1)
 refine dd rfl (zst rfl rfl rfl) (dd rfl (zst rfl rfl rfl) (pd1 1 28 rfl (dd rfl (D8b (T:=9) Tryz.underlying9 rfl rfl rfl rfl 2 rfl 4 rfl opx opx) ?_)))
 have:=@List.length_drop _ 1 b
 have:=@List.length_drop _ 2 (b.drop 1)
 have:=@List.length_take _ (4 - 2) ((b.drop 1).drop 2)
 refine dd rfl (zst rfl rfl rfl) (dd rfl (zst rfl rfl rfl) (pd1 1 32 rfl (dd rfl (C1d (T:=9) Tryz.underlying9 rfl rfl rfl 4 rfl opx) ?_)))
 have:=@List.length_drop _ 1 b
 have:=@List.length_drop _ 4 (b.drop 1)
 refine dd rfl (zst rfl rfl rfl) (pd2 2 2 3 rfl ?_)
 subst hR
 refine de (A8 ?_)
 exact B1g hr hD
def B1t (a:Act):Option (List UInt8) :=
 (Option.bind (B5o a ({Act.zero with kind:=a.kind,n:=a.n,color:=a.color})) fun (r:Unit)=>(C2 (B3p a.color) fun (b:List UInt8×Int)=>(Option.bind (A4c ((((decide (b.2=0))&&(decide (a.color.kind=2)))&&(decide ((0:Int)≤a.n)))&&(decide (a.n≤255)))) fun (c:Unit)=>(some (((([52,59]:List UInt8)++(Lib.itoa a.n))++([59]:List UInt8))++b.1)))))
theorem C8z {a:Act} {R:Option (List UInt8)} (hR:B1t a=R):C3c Tryz.prog 185 [ag (A1 a)] [] [O0,M9,K6] A0y R (fun r=>sv r):=by
 refine A6e (n:=46) Tryz.func185 rfl oki rfl rfl [(0,ag (A1 a))] ⟨rfl,trivial⟩ fun X hX hr hD=>?_
 replace hR:=(B1t.eq_1 ..).symm.trans hR
 refine bN rfl (zra 2 [] (fun d=>[(1,pt d 0)]) (fun _=>(A1 a)) 60 fun d=>(ie (bN rfl (bY 8 1 [0,0,0,0] [(5,ag (A1 a)),(12,ag (A1 ({Act.zero with kind:=a.kind,n:=a.n,color:=a.color})))] ?_))))
 refine A0c (L2:=[bx d (A1 a) 60]) (B9x rfl) rfl rfl rfl rfl rfl rfl bT (List.Perm.refl _) (fun r f=>?_) (fun g=>?_)
 ·replace hR:=B1l hR f
  refine ie (bN rfl (bY 2 6 [0] [(16,ag (P0 a.color))] ?_))
  have l:=C9 hR;clear hR;obtain ⟨o,b,hR⟩:=l
  refine zv rfl (D5x b) ?_
  have:=B9p a.color;try rw [b] at this
  refine cJ 5 3 4 rfl (ie (bN rfl (bO 3 22 rfl ?_)))
  refine zid 5 11 22 27 (decide (a.color.kind=2)) (fun p q=>?_) ?_
  ·refine cE 5 [0] 27 rfl ?_
   exact zai 2 22 27 p
  refine bO 1 28 rfl ?_
  refine zia 4 6 28 32 (decide ((0:Int)≤a.n)) (fun j=>?_) ?_
  ·have m:=bU j
   refine cE 4 [0] 32 rfl ?_
   exact zai 2 28 32 j
  refine bO 1 33 rfl ?_
  refine zia 4 1 33 37 (decide (a.n≤255)) (fun i=>?_) ?_
  ·have k:=bU i
   refine cE 4 [0] 37 rfl ?_
   exact zai 2 33 37 i
  refine A0c (L2:=[bx d (A1 a) 60]) (A3u rfl) rfl rfl rfl rfl rfl rfl bT (List.Perm.refl _) (fun s c=>?_) (fun h=>?_)
  ·replace hR:=B1l hR c
   have e:=U9 c;try simp only [Bool.and_eq_true,decide_eq_true_eq] at e
   refine ie (bN rfl (cE 2 [0] 40 rfl (zv rfl (E4o a.n (by first|omega|(exact ⟨by omega,by omega⟩))) ?_)))
   have:=C3s a.n opx opx
   refine ix rfl (zst rfl rfl rfl) (ix rfl (zst rfl rfl rfl) (bO 1 44 rfl (ix rfl (zst rfl rfl rfl) (bO 1 2 rfl (ie (A8 ?_))))))
   exact B2m rfl ⟨hr,hD⟩ (by simp [hD]) (N4 rfl (B0 rfl)) hR.symm rfl
  ·replace hR:=B1k hR h
   exact Q4 ⟨hr,hD⟩ hR.symm
 ·replace hR:=B1k hR g
  exact Q4 ⟨hr,hD⟩ hR.symm
def A3n (d:Int) (c:Int) (a:Col) (b:List UInt8):Option (List UInt8) :=
 (Option.bind (A4c true) fun (r:Unit)=>(Option.bind (B1t (⟨45,d,c,a,b⟩:Act)) fun (e:List UInt8)=>(some e)))
theorem C8u {c d:Int} {b:Col} {a:List UInt8} {e:Addr} {R:Option (List UInt8)} (hR:A3n c d b a=R) (o:a.length≤100000000:=by exact bP):C3c Tryz.prog 98 [pa e] [] [at_ e (A1 (⟨45,c,d,b,a⟩:Act)),O0,M9,K6] A0y R (fun r=>sv r):=by
 refine A6e (n:=16) Tryz.func98 rfl oki rfl rfl [(0,pa e)] ⟨rfl,trivial⟩ fun X hX hr hD=>?_
 replace hR:=(A3n.eq_1 ..).symm.trans hR
 refine bN rfl (pp0 1 rfl (ie (zS [] ?_)))
 refine hq1 [1] 6 rfl ?_
 refine gk 2 rfl (F2 cA rfl rfl (A2w (B8 0 rfl) (ws:=[iv 45]) 1 rfl) rfl) ?_
 refine gc 0 [] rfl (B7q rfl) fun l=>?_
 refine go 3 [] rfl (Det.tri (I6.det (A5g (v:=aE 185) (j:=1) D3j rfl rfl rfl 0 rfl oki))) fun _=>?_
 refine hqV [4,5,6,7,8] [(2,aE 185),(3,bv true)] ?_
 refine ge ?_
 refine bN rfl (bO 1 11 rfl ?_)
 refine A0c (L2:=[(l,aC)]) (A3u rfl) rfl rfl rfl rfl rfl rfl bT (List.Perm.refl _) (fun r f=>?_) (fun h=>?_)
 ·replace hR:=B1l hR f
  have g:=U9 f;try simp only [Bool.and_eq_true,decide_eq_true_eq] at g
  refine ie (bN rfl (ip' 1 3 [(13,aE 185)] (ix rfl (K5 (us:=A1 (⟨45,c,d,b,a⟩:Act)) B7m rfl rfl (B8 0 rfl) rfl) ?_)))
  refine A0c (L2:=[(l,aC)]) (C8z rfl) rfl rfl rfl rfl rfl rfl c9 (List.Perm.refl _) (fun m i=>?_) (fun k=>?_)
  ·replace hR:=B1l hR i
   refine bO 1 1 rfl (ie (A8 ?_))
   exact B2m rfl ⟨hr,hD⟩ (by simp [hD]) (N4 rfl (B0 rfl)) hR.symm rfl
  ·replace hR:=B1k hR k
   exact Q4 ⟨hr,hD⟩ hR.symm
 ·replace hR:=B1k hR h
  exact Q4 ⟨hr,hD⟩ hR.symm
def A9j (an:Int) (am:Int) (acolor:Col) (atext:List UInt8):List UInt8×Int :=
 (bif (!((B1m (A3n an am acolor atext)).2)) then (([]:List UInt8),2) else ((B1m (A3n an am acolor atext)).1,0))
theorem B3e (an am:Int) (c:Col) (t:List UInt8):(A9j an am c t).1.length≤t.length+6000:=by
 have b:∀ s,A3n an am c t=some s→s.length≤t.length+6000:=by
  intro s h
  unfold A3n B1t at h
  simp only [Option.bind_eq_some_iff,Option.some.injEq] at h
  obtain ⟨_,_,f,⟨_,_,a⟩,e⟩:=h
  unfold C2 at a
  simp only [Option.bind_eq_some_iff,Option.some.injEq] at a
  obtain ⟨_,d,a⟩:=a
  have d:=U9 d
  simp only [Bool.and_eq_true,decide_eq_true_eq] at d
  have:=B9p c
  have:=C3s an opx opx
  rw [← e,← a]
  simp only [List.length_append,List.length_cons,List.length_nil]
  omega
 unfold A9j
 cases hR:A3n an am c t with
 | none=>simp [B1m]
 | some s=>have:=b s hR;simp [B1m];omega
theorem C4b {an am:Int} {acolor:Col} {atext:List UInt8} {R:List UInt8×Int} (hR:A9j an am acolor atext=R) (c:atext.length≤100000000:=by exact bP):J5 Tryz.prog 39 [ag (A1 (⟨45,an,am,acolor,atext⟩:Act))] [O0,M9,K6] (.tuple #[sv R.1,iv R.2]):=by
 refine bZ Tryz.func39 fun X hX hr hD=>?_
 replace hR:=(A9j.eq_1 ..).symm.trans hR
 refine bN rfl (it rfl (A2t (cs:=A1 (⟨45,an,am,acolor,atext⟩:Act)) rfl rfl rfl) fun a=>?_)
 refine A6m 0 rfl ?_
 refine pp0 2 rfl (ie (bN rfl (ip' 1 6 [(7,.func (.func 98) #[] #[pa ⟨a,0,none⟩])] (zv rfl (D9f (cap:=[pa ⟨a,0,none⟩]) _ (C8u rfl)) (cJ 5 4 5 rfl (ie (A5 (bN rfl (bO 2 12 rfl (ie ?_))))))))))
 refine zjb rfl hR ?_ ?_<;>clear hR<;>intro hR b
 ·refine bN rfl (cJ 2 2 3 rfl ?_)
  subst hR
  refine ie (A8 ?_)
  exact B1g hr hD
 refine A4 (nx (bN rfl (cJ 3 2 3 rfl ?_)))
 subst hR
 refine ie (A8 ?_)
 exact B1g hr hD
def A4p (an:Int) (am:Int) (acolor:Col) (atext:List UInt8):List UInt8 :=
 (C2 (A9j an am acolor atext) fun (a:List UInt8×Int)=>((([27,93]:List UInt8)++a.1)++([27,92]:List UInt8)))
theorem C4s (an:Int) (am:Int) (acolor:Col) (atext:List UInt8) (e:atext.length≤100000000) (R:List UInt8) (hR:A4p an am acolor atext=R):J5 Tryz.prog 147 [ag (A1 (⟨45,an,am,acolor,atext⟩:Act))] [O0,M9,K6] (sv R):=by
 refine zco Tryz.func147 [(0,ag (A1 (⟨45,an,am,acolor,atext⟩:Act)))] fun X hX hr hD=>?_
 replace hR:=(A4p.eq_1 ..).symm.trans hR
 refine sr 2 rfl (B2b 2 0 [] (fun c=>[(1,pt c 0)]) (fun c=>[bx c (A1 (⟨45,an,am,acolor,atext⟩:Act)) 60]) (fun c=>(ie (sr 7 rfl (bY 1 6 [0] [(6,ag (A1 (⟨45,an,am,acolor,atext⟩:Act)))] ?_)))))
 have d:=C9 hR;clear hR;obtain ⟨b,a,hR⟩:=d
 refine zca (C4b (an:=an) (am:=am) (acolor:=acolor) (atext:=atext) a osj) A9.refl ?_
 have:=B3e an am acolor atext;try rw [a] at this
 refine ip' 5 0 [(3,sv b.1)] (ie (sr 4 rfl (ip' 1 3 [(10,sv b.1)] (ix rfl (zst rfl rfl rfl) (ix rfl (zst rfl rfl rfl) (ip' 1 0 [(2,sv ((([27,93]:List UInt8)++b.1)++([27,92]:List UInt8)))] ?_))))))
 subst hR
 refine ie (A8 ?_)
 exact G0 hr hD
def A5z (w r:Int):Prop:=(w=0∧r=0)∨(w=2∧0≤r∧r<4)∨(w=4∧0≤r∧r<16)∨(w=6∧0≤r∧r<64)∨(w=8∧0≤r∧r<256)∨(w=10∧0≤r∧r<1024)∨(w=12∧0≤r∧r<4096)
theorem or8:∀ a<16,∀ n<256,bW .or .i64 (((a:Nat):Int) * 256) ((n:Nat):Int)=((a:Nat):Int) * 256+((n:Nat):Int):=by decide +kernel
theorem F3g:∀ a<64,∀ b<64,bW .and .i64 ((a * 64+b:Nat):Int) 63=((b:Nat):Int):=by decide +kernel
theorem F5q (a:Nat) (h:a<4096):bW .and .i64 ((a:Nat):Int) 63=((a:Nat):Int) % 64:=by
 have:=F3g (a / 64) opx (a % 64) opx
 rw [show a / 64 * 64+a % 64=a by omega] at this
 rw [this];omega
theorem F5f:∀ a<1024,bW .and .i64 ((a:Nat):Int) 15=((a:Nat):Int) % 16:=by decide +kernel
theorem F5l:∀ a<256,bW .and .i64 ((a:Nat):Int) 3=((a:Nat):Int) % 4:=by decide +kernel
theorem F5a:∀ a<64,bW .and .i64 ((a:Nat):Int) 0=0:=by decide +kernel
theorem E5y {p1 p3 n:Int} (h:A5z p3 p1) (b:p3≤4) (c:0≤n∧n≤255):A5z (p3+8) (bW .or .i64 (p1 * 256) n):=by
 obtain ⟨m,rfl⟩:∃ m:Nat,n=m:=⟨n.toNat,by omega⟩
 unfold A5z at h
 obtain ⟨a,rfl⟩:∃ a:Nat,p1=a:=⟨p1.toNat,by omega⟩
 rw [or8 a opx m opx]
 unfold A5z;omega
theorem F1o {a b:Int} (h:A5z b a) (c:6≤b):0≤Int.fdiv a (2 ^ (min ((b - 6)).toNat 64))∧Int.fdiv a (2 ^ (min ((b - 6)).toNat 64))<64:=by
 unfold A5z at h
 rw [Int.fdiv_eq_ediv_of_nonneg _ (Int.pow_nonneg ozw)]
 rcases h with h | h | h | h | h | h | h
 ·omega
 ·omega
 ·omega
 ·rw [h.1];show 0≤a / 1∧a / 1<64;omega
 ·rw [h.1];show 0≤a / 4∧a / 4<64;omega
 ·rw [h.1];show 0≤a / 16∧a / 16<64;omega
 ·rw [h.1];show 0≤a / 64∧a / 64<64;omega
theorem F0s {b a:Int} (h:A5z a b):1≤IntKind.i64.wrap ((1:Int) * 2 ^ (min ((a - 6)).toNat 64))∧IntKind.i64.wrap ((1:Int) * 2 ^ (min ((a - 6)).toNat 64))≤64:=by
 unfold A5z at h
 rcases h with h | h | h | h | h | h | h<;>rw [h.1]<;>decide
theorem D8x {b c:Int} (h:A5z c b) (d:6≤c):A5z (c - 6) (bW .and .i64 b ((IntKind.i64.wrap ((1:Int) * 2 ^ (min ((c - 6)).toNat 64))) - 1)):=by
 unfold A5z at h
 obtain ⟨a,rfl⟩:∃ a:Nat,b=a:=⟨b.toNat,by omega⟩
 rcases h with h | h | h | h | h | h | h
 ·omega
 ·omega
 ·omega
 ·rw [h.1];show A5z 0 (bW .and .i64 (a:Int) 0);rw [F5a a opx];unfold A5z;omega
 ·rw [h.1];show A5z 2 (bW .and .i64 (a:Int) 3);rw [F5l a opx];unfold A5z;omega
 ·rw [h.1];show A5z 4 (bW .and .i64 (a:Int) 15);rw [F5f a opx];unfold A5z;omega
 ·rw [h.1];show A5z 6 (bW .and .i64 (a:Int) 63);rw [F5q a opx];unfold A5z;omega
theorem E5z {w r:Int} (h:A5z w r) (d:0<w) (e:w≤4):0≤IntKind.i64.wrap (r * 2 ^ (min ((6:Int) - w).toNat 64))∧IntKind.i64.wrap (r * 2 ^ (min ((6:Int) - w).toNat 64))<64:=by
 unfold A5z at h
 have a:∀ x:Int,0≤x→x<64→0≤IntKind.i64.wrap x∧IntKind.i64.wrap x<64:=fun x b c=>by
  rw [A0j (by show (-9223372036854775808:Int)≤x;omega) (by show x≤(9223372036854775807:Int);omega)];exact ⟨b,c⟩
 rcases h with h | h | h | h | h | h | h
 ·omega
 ·rw [h.1];exact a (r * 16) opx opx
 ·rw [h.1];exact a (r * 4) opx opx
 all_goals omega
def A8l:Unit :=
 ()
theorem C6c {a:Nat} {R:Unit} (hR:A8l=R):cI Tryz.prog 242 [iv 8,iv 6,.func (.func 243) #[] #[pt a 0]] [bx a [.pointer none,.slice none 0 0] 270] [] (Nat×Nat×Nat×Nat×Nat) (fun x=>.func (.func 285) #[] #[pt x.1 0,pt x.2.1 0,pt x.2.2.1 0,pt x.2.2.2.1 0,pt x.2.2.2.2 0]) (fun x=>[bx a [.pointer none,.slice none 0 0] 270,bx x.1 [iv 0] 3,bx x.2.1 [iv 8] 3,bx x.2.2.1 [iv 0] 3,bx x.2.2.2.1 [iv 6] 3,bx x.2.2.2.2 [.func (.func 243) #[] #[pt a 0]] 167]) (fun x=>[]):=by
 refine bZ Tryz.func242 fun X hX hr hD=>?_
 replace hR:=(A8l.eq_1 ..).symm.trans hR
 refine bN rfl (D4x 4 0 [] (fun b d c=>[(3,pt b 0),(4,pt d 0),(5,pt c 0)]) (fun b d c=>[bx c [.func (.func 243) #[] #[pt a 0]] 167,bx d [iv 6] 3,bx b [iv 8] 3,bx a [.pointer none,.slice none 0 0] 270]) (fun b d c=>(ie (bN rfl (A8c 4 [1,0] (fun e f=>[(7,pt e 0),(8,pt f 0)]) (fun _ _=>[iv 0]) (fun _ _=>[iv 0]) 3 3 fun e f=>(ie (bN rfl (ip' 2 0 [(6,.func (.func 285) #[] #[pt f 0,pt b 0,pt e 0,pt d 0,pt c 0])] ?_))))))))
 subst hR
 refine ie (A8 (Q3 (H2 [[bx f [iv 0] 3],[bx e [iv 0] 3],[bx c [.func (.func 243) #[] #[pt a 0]] 167],[bx d [iv 6] 3],[bx b [iv 8] 3],[bx a [.pointer none,.slice none 0 0] 270]] [5,0,4,1,3,2] 6 rfl ozw rfl [[bx a [.pointer none,.slice none 0 0] 270],[bx f [iv 0] 3],[bx b [iv 8] 3],[bx e [iv 0] 3],[bx d [iv 6] 3],[bx c [.func (.func 243) #[] #[pt a 0]] 167]] rfl opv) ?_))
 exact cD hr hD (N4 rfl (B0 rfl)) (f,b,e,d,c) bQ bT
def N6 (a:List UInt8) (c:UInt8):List UInt8 :=
 (a++([c]:List UInt8))
theorem Y5 (a:List UInt8) (c:UInt8):(N6 a c).length=a.length+1:=by simp [N6]
theorem opr {p:Prop} (h:p:=by first|omega|(simp only [List.length_cons,List.length_nil,List.length_append,List.length_take,List.length_drop,F4,R0,R1,A8g,A7x,A8s,B6w,A8l];omega)):p:=h
theorem A4o {a:List UInt8} {c:UInt8} {g:Nat} {b:Option Addr} {bbufr:VR} {R:List UInt8} (hR:N6 a c=R) (e:b=none∨b=some ⟨g,0,none⟩:=by exact bP) (d:bR 1 a.length bbufr:=by exact bP) (j:a.length≤100000:=by exact bP):cI Tryz.prog 244 [pt g 0,.int .u8 (c.toNat:Int)] (bx g [.pointer b,.slice (va bbufr.q) a.length bbufr.k] 270::((vo cG 5 bbufr a)++([]))) [] ({r:VR // bR 1 R.length r}) (fun x=>.nilIface) (fun x=>(bx g [pt g 0,.slice (va x.1.q) R.length x.1.k] 270::((vo cG 5 x.1 R)++([])))) (fun x=>[]):=by
 refine bZ Tryz.func244 fun X hX hr hD=>?_
 replace hR:=(N6.eq_1 ..).symm.trans hR
 have:=bR.le d
 refine bN rfl (pp0 1 rfl (ie (bN rfl (bO 1 5 rfl ?_))))
 refine zc rfl (C6w g (.slice (va bbufr.q) a.length bbufr.k) b e) fun _=>?_
 refine ie (bN rfl (pl3 6 [0] 7 11 12 rfl (it rfl (C1 (c:=cG) (xs:=([c]:List UInt8)) A6n rfl rfl rfl oki) fun l=>?_)))
 have:([c]:List UInt8).length=1:=rfl
 refine it rfl (A0f (f:=cG) (r:=bbufr) (xs:=a) (ys:=([c]:List UInt8)) (pre:=[bx g [pt g 0,.slice (va bbufr.q) a.length bbufr.k] 270]) (post:=[]) C5q (fun _=>rfl) (fun _=>rfl) rfl rfl rfl rfl rfl rfl rfl rfl rfl (B8 0 rfl) d opr opr) fun ⟨i,h⟩=>?_
 have:=bR.le h
 have:=bR.cap h
 refine zru 3 [0] [] 0 (bx g [pt g 0,.slice (va i.q) ((a++([c]:List UInt8)).length) i.k] 270) ?_
 refine ie (bN rfl (bO 1 4 rfl ?_))
 subst hR
 refine ie (A8 ?_)
 exact cD hr hD (N4 rfl (B0 rfl)) ⟨i,h⟩ bQ bT
def A1c (n:Int) (a:List UInt8):List UInt8 :=
 (C2 (N6 a (E1m.getD ((n).toNat) 0)) fun (b:List UInt8)=>b)
theorem B0b (n:Int) (b:List UInt8):(A1c n b).length=b.length+1:=by simp [A1c,C2,N6]
theorem C2b {n:Int} {a:List UInt8} {p1b:Nat} {b:Option Addr} {p1bufr:VR} {R:List UInt8} (hR:A1c n a=R) (d:b=none∨b=some ⟨p1b,0,none⟩:=by exact bP) (c:bR 1 a.length p1bufr:=by exact bP) (j:0≤n∧n<64:=by exact bP) (i:a.length≤10100:=by exact bP):cI Tryz.prog 243 [iv n,pt p1b 0] (bx p1b [.pointer b,.slice (va p1bufr.q) a.length p1bufr.k] 270::((vo cG 5 p1bufr a)++([]))) [] ({r:VR // bR 1 R.length r}) (fun x=>.tuple #[]) (fun x=>(bx p1b [pt p1b 0,.slice (va x.1.q) R.length x.1.k] 270::((vo cG 5 x.1 R)++([])))) (fun x=>[]):=by
 refine bZ Tryz.func243 fun X hX hr hD=>?_
 replace hR:=(A1c.eq_1 ..).symm.trans hR
 have:=bR.le c
 refine A0 3 rfl (bO 1 3 rfl (ix rfl (B9a (T:=9) Tryz.underlying9 rfl rfl rfl ((n).toNat) opx (by first|omega|(refine Nat.lt_of_lt_of_le (m:=64) opx ozw))) ?_))
 have h:=C9 hR;clear hR;obtain ⟨l,f,hR⟩:=h
 refine zc rfl (A4o f d c) fun ⟨g,e⟩=>?_
 have:=bR.le e
 have:=bR.cap e
 have:=Y5 a (E1m.getD ((n).toNat) 0);try rw [f] at this
 subst hR
 refine A3 ?_
 exact zen hr hD (A0x rfl) ⟨g,e⟩ bQ bT
def I7:Nat→Int→Int→List UInt8→(Int×Int×List UInt8×Int×Int)
 | 0,_,_,_=>(0,0,[],0,0)
 | fu1+1,t1,t3,bbuf=>(bif (decide ((6:Int)≤t3)) then (C2 (A1c (Int.fdiv t1 (2 ^ (min ((t3 - 6)).toNat 64))) bbuf) fun (a:List UInt8)=>I7 fu1 (bW .and .i64 t1 ((IntKind.i64.wrap ((1:Int) * 2 ^ (min ((t3 - 6)).toNat 64))) - 1)) (t3 - 6) a) else (t1,t3,bbuf,t3,t1))
def N3 (n:Int) (p1:Int) (p3:Int) (a:List UInt8):Int×Int×List UInt8×Int×Int :=
 I7 ((p3+8).toNat+1) (bW .or .i64 (p1 * 256) n) (p3+8) a
theorem A6i:∀ (d:Nat) (c a:Int) (b:List UInt8),a.toNat<d→A5z a c→A5z (I7 d c a b).2.1 (I7 d c a b).1∧(I7 d c a b).2.1≤5∧(I7 d c a b).2.2.2.1=(I7 d c a b).2.1∧(I7 d c a b).2.2.2.2=(I7 d c a b).1∧(((I7 d c a b).2.2.1.length:Nat):Int) * 6+(I7 d c a b).2.1=(b.length:Int) * 6+a
 | 0,c,a,b,h,_=>by omega
 | d+1,c,a,b,h,hI=>by
  rw [I7]
  by_cases h6:6≤a
  ·rw [decide_eq_true h6,cond_true]
   have e:=A6i d _ _ (A1c (Int.fdiv c (2 ^ (min ((a - 6)).toNat 64))) b) opx (D8x hI h6)
   have f:=B0b (Int.fdiv c (2 ^ (min ((a - 6)).toNat 64))) b
   unfold C2
   refine ⟨e.1,e.2.1,e.2.2.1,e.2.2.2.1,?_⟩
   rw [e.2.2.2.2,f];omega
  ·rw [decide_eq_false h6,cond_false]
   exact ⟨hI,by show a≤5;omega,rfl,rfl,rfl⟩
theorem A8r (n p1 p3:Int) (a:List UInt8) (b:A5z p3 p1) (d:p3≤4) (c:0≤n∧n≤255):A5z (N3 n p1 p3 a).2.1 (N3 n p1 p3 a).1∧(N3 n p1 p3 a).2.1≤5∧(N3 n p1 p3 a).2.2.2.1=(N3 n p1 p3 a).2.1∧(N3 n p1 p3 a).2.2.2.2=(N3 n p1 p3 a).1∧(((N3 n p1 p3 a).2.2.1.length:Nat):Int) * 6+(N3 n p1 p3 a).2.1=((a).length:Int) * 6+p3+8:=by
 have h:=A6i ((p3+8).toNat+1) _ _ a (Nat.lt_succ_self _) (E5y b d c)
 exact ⟨h.1,h.2.1,h.2.2.1,h.2.2.2.1,h.2.2.2.2.trans opx⟩
theorem C0w {n p1 p3:Int} {g:List UInt8} {p1b p2b p3b p4b f a:Nat} {h:Option Addr} {p5cbufr:VR} {R:Int×Int×List UInt8×Int×Int} (hR:N3 n p1 p3 g=R) (u:h=none∨h=some ⟨a,0,none⟩:=by exact bP) (p:bR 1 g.length p5cbufr:=by exact bP) (hq:(0≤p1∧p1<16)∧0≤p3∧p3≤4:=by exact bP) (a0:A5z p3 p1∧p3≤4:=by exact bP) (hn:0≤n∧n≤255:=by exact bP) (hb:g.length≤10000:=by exact bP):cI Tryz.prog 285 [iv n,pt p1b 0,pt p2b 0,pt p3b 0,pt p4b 0,pt f 0] (bx p1b [iv p1] 3::bx p2b [iv 8] 3::bx p3b [iv p3] 3::bx p4b [iv 6] 3::bx a [.pointer h,.slice (va p5cbufr.q) g.length p5cbufr.k] 270::bx f [.func (.func 243) #[] #[pt a 0]] 167::((vo cG 5 p5cbufr g)++([]))) [] ({r:VR // bR 1 R.2.2.1.length r}×{z:Option Addr // z=none∨z=some ⟨a,0,none⟩}) (fun x=>.tuple #[iv R.2.2.2.1,iv R.2.2.2.2]) (fun x=>(bx p1b [iv R.1] 3::bx p2b [iv 8] 3::bx p3b [iv R.2.1] 3::bx p4b [iv 6] 3::bx a [.pointer x.2.1,.slice (va x.1.1.q) R.2.2.1.length x.1.1.k] 270::bx f [.func (.func 243) #[] #[pt a 0]] 167::((vo cG 5 x.1.1 R.2.2.1)++([])))) (fun x=>[]):=by
 refine bZ Tryz.func285 fun X hX hr hD=>?_
 replace hR:=(N3.eq_1 ..).symm.trans hR
 have:=bR.le p
 refine bN rfl (pp0 2 rfl (ie (bN rfl (pl2 2 [0,1] 9 10 rfl ?_))))
 refine ix rfl (B4m (c:=(p1 * 256)) rfl rfl rfl ozw (by show IntKind.i64.wrap (p1 * 256)=_;exact A0j (by simp [IntKind.min,IntKind.signed,IntKind.bits];omega) (by simp [IntKind.max,IntKind.signed,IntKind.bits];omega))) (zrg 3 0 [0] [] (bx p1b [iv (bW .or .i64 (p1 * 256) n)] 3::bx p2b [iv 8] 3::bx p3b [iv p3] 3::bx p4b [iv 6] 3::bx a [.pointer h,.slice (va p5cbufr.q) g.length p5cbufr.k] 270::bx f [.func (.func 243) #[] #[pt a 0]] 167::((vo cG 5 p5cbufr g)++([]))) (ie (bN rfl (pl2 2 [2,1] 14 15 rfl (ix rfl (B4 rfl rfl rfl rfl opx) (zrg 1 0 [2] [] (bx p1b [iv (bW .or .i64 (p1 * 256) n)] 3::bx p2b [iv 8] 3::bx p3b [iv (p3+8)] 3::bx p4b [iv 6] 3::bx a [.pointer h,.slice (va p5cbufr.q) g.length p5cbufr.k] 270::bx f [.func (.func 243) #[] #[pt a 0]] 167::((vo cG 5 p5cbufr g)++([]))) (ie (A5 (B2 ?_)))))))))
 refine A4v (un fun (y:Nat)=>un fun (l:Int)=>un fun (i:Int)=>un fun (d:Option Addr)=>un fun (e:List UInt8) (b:VR)=>(i.toNat<y∧I7 y l i e=R∧(d=none∨d=some ⟨a,0,none⟩)∧bR 1 e.length b∧(0≤i∧i≤12)∧A5z i l∧(e.length:Int) * 6+i≤60100,[(1,pt p1b 0),(3,pt p3b 0),(4,pt p4b 0),(5,pt f 0)],(bx p1b [iv l] 3::bx p2b [iv 8] 3::bx p3b [iv i] 3::bx p4b [iv 6] 3::bx a [.pointer d,.slice (va b.q) e.length b.k] 270::bx f [.func (.func 243) #[] #[pt a 0]] 167::((vo cG 5 b e)++([]))),[],y)) ((p3+8).toNat+1,bW .or .i64 (p1 * 256) n,p3+8,h,g,p5cbufr) ⟨(Nat.lt_succ_self _),hR,u,p,opx,(by exact E5y a0.1 a0.2 hn),osj⟩ bQ bT ?_
 rintro ⟨y,l,i,d,e,b⟩ ⟨a7,hR,t,o,hw,hI,a9⟩
 have:=bR.le o
 obtain ⟨fu1,rfl⟩:∃ m,y=m+1:=⟨y - 1,by omega⟩
 replace hR:=(I7.eq_2 ..).symm.trans hR
 have a2:=F0s hI
 have a4:1≤IntKind.i64.wrap ((1:Int) * 2 ^ (min ((i - 6)).toNat IntKind.i64.bits))∧IntKind.i64.wrap ((1:Int) * 2 ^ (min ((i - 6)).toNat IntKind.i64.bits))≤64:=a2
 refine A5 (bN rfl (cE 3 [2,3] 19 rfl ?_))
 refine ie ?_
 refine zjd rfl hR ?_ ?_<;>clear hR<;>intro hR h2 a5
 ·refine A4 (nx (B2 (bN rfl (pl2 2 [2,3] 20 21 rfl (ix rfl (Q6 rfl rfl rfl rfl opx) (zrg 1 0 [2] [] (bx p1b [iv l] 3::bx p2b [iv 8] 3::bx p3b [iv (i - 6)] 3::bx p4b [iv 6] 3::bx a [.pointer d,.slice (va b.q) e.length b.k] 270::bx f [.func (.func 243) #[] #[pt a 0]] 167::((vo cG 5 b e)++([]))) (ie ?_)))))))
  refine sh 5 [(5,[bx p1b [iv l] 3]),(5,[bx p2b [iv 8] 3]),(5,[bx p3b [iv (i - 6)] 3]),(5,[bx p4b [iv 6] 3]),(4,[bx a [.pointer d,.slice (va b.q) e.length b.k] 270]),(5,[bx f [.func (.func 243) #[] #[pt a 0]] 167]),(4,vo cG 5 b e)] [] (bx p1b [iv l] 3::bx p2b [iv 8] 3::bx p3b [iv (i - 6)] 3::bx p4b [iv 6] 3::bx a [.pointer d,.slice (va b.q) e.length b.k] 270::bx f [.func (.func 243) #[] #[pt a 0]] 167::((vo cG 5 b e)++([]))) (bV 5 0) oki rfl oki oki oki bQ A9.refl ?_
  refine zhl 0 (bx p1b [iv l] 3::bx p2b [iv 8] 3::bx p3b [iv (i - 6)] 3::bx p4b [iv 6] 3::bx a [.pointer d,.slice (va b.q) e.length b.k] 270::bx f [.func (.func 243) #[] #[pt a 0]] 167::((vo cG 5 b e)++([]))) (bV 5 1) rfl (A2 (v:=.func (.func 243) #[] #[pt a 0]) F4w rfl rfl 5 rfl rfl) ?_
  refine zhl 1 [bx p1b [iv l] 3,bx p2b [iv 8] 3,bx p3b [iv (i - 6)] 3,bx p4b [iv 6] 3,bx f [.func (.func 243) #[] #[pt a 0]] 167] (bV 5 3) rfl (A2 (v:=iv l) cA rfl rfl 0 rfl rfl) ?_
  refine zhl 2 [bx p1b [iv l] 3,bx p2b [iv 8] 3,bx p3b [iv (i - 6)] 3,bx p4b [iv 6] 3,bx f [.func (.func 243) #[] #[pt a 0]] 167] (bV 5 7) rfl (A2 (v:=iv (i - 6)) cA rfl rfl 2 rfl rfl) ?_
  refine zhk 3 (bV 5 15) rfl (U3 rfl rfl rfl opx rfl) ?_
  have hQ:=C9 hR;clear hR;obtain ⟨s,a1,hR⟩:=hQ
  refine zho 4 [bx p1b [iv l] 3,bx p2b [iv 8] 3,bx p3b [iv (i - 6)] 3,bx p4b [iv 6] 3,bx f [.func (.func 243) #[] #[pt a 0]] 167] (bV 5 31) rfl (J7 (L2:=[bx p1b [iv l] 3,bx p2b [iv 8] 3,bx p3b [iv (i - 6)] 3,bx p4b [iv 6] 3,bx f [.func (.func 243) #[] #[pt a 0]] 167]) (C2b a1 t o (by first|exact F1o hI opx|omega)) rfl rfl rfl rfl rfl bT (H2 [[bx p1b [iv l] 3],[bx p2b [iv 8] 3],[bx p3b [iv (i - 6)] 3],[bx p4b [iv 6] 3],[bx a [.pointer d,.slice (va b.q) e.length b.k] 270],[bx f [.func (.func 243) #[] #[pt a 0]] 167],vo cG 5 b e] [4,6,0,1,2,3,5] 7 rfl ozw rfl [[bx a [.pointer d,.slice (va b.q) e.length b.k] 270],vo cG 5 b e,[bx p1b [iv l] 3],[bx p2b [iv 8] 3],[bx p3b [iv (i - 6)] 3],[bx p4b [iv 6] 3],[bx f [.func (.func 243) #[] #[pt a 0]] 167]] rfl opv) (fun ⟨j,w⟩=>(bx a [pt a 0,.slice (va j.q) s.length j.k] 270::bx p1b [iv l] 3::bx p2b [iv 8] 3::bx p3b [iv (i - 6)] 3::bx p4b [iv 6] 3::bx f [.func (.func 243) #[] #[pt a 0]] 167::((vo cG 5 j s)++([])))) (fun ⟨j,w⟩=>H2 [[bx a [pt a 0,.slice (va j.q) s.length j.k] 270],vo cG 5 j s,[bx p1b [iv l] 3],[bx p2b [iv 8] 3],[bx p3b [iv (i - 6)] 3],[bx p4b [iv 6] 3],[bx f [.func (.func 243) #[] #[pt a 0]] 167]] [0,2,3,4,5,6,1] 7 rfl ozw opv [[bx a [pt a 0,.slice (va j.q) s.length j.k] 270],[bx p1b [iv l] 3],[bx p2b [iv 8] 3],[bx p3b [iv (i - 6)] 3],[bx p4b [iv 6] 3],[bx f [.func (.func 243) #[] #[pt a 0]] 167],vo cG 5 j s] rfl opv)) (fun ⟨j,w⟩=>bQ) (fun ⟨j,w⟩=>bT) fun ⟨j,w⟩=>?_
  have:=bR.le w
  have:=bR.cap w
  have:=B0b (Int.fdiv l (2 ^ (min ((i - 6)).toNat 64))) e;try rw [a1] at this
  refine B1f oki ?_
  refine sh' 6 [(6,[bx a [pt a 0,.slice (va j.q) s.length j.k] 270]),(5,[bx p1b [iv l] 3]),(6,[bx p2b [iv 8] 3]),(6,[bx p3b [iv (i - 6)] 3]),(6,[bx p4b [iv 6] 3]),(6,[bx f [.func (.func 243) #[] #[pt a 0]] 167]),(6,vo cG 5 j s)] [] (bx a [pt a 0,.slice (va j.q) s.length j.k] 270::bx p1b [iv l] 3::bx p2b [iv 8] 3::bx p3b [iv (i - 6)] 3::bx p4b [iv 6] 3::bx f [.func (.func 243) #[] #[pt a 0]] 167::((vo cG 5 j s)++([]))) (bV 6 0) oki rfl oki oki oki bQ A9.refl ?_
  refine zhl 0 (bx a [pt a 0,.slice (va j.q) s.length j.k] 270::bx p1b [iv l] 3::bx p2b [iv 8] 3::bx p3b [iv (i - 6)] 3::bx p4b [iv 6] 3::bx f [.func (.func 243) #[] #[pt a 0]] 167::((vo cG 5 j s)++([]))) (bV 6 1) rfl (A2 (v:=iv l) cA rfl rfl 1 rfl rfl) ?_
  refine zhl 1 (bx a [pt a 0,.slice (va j.q) s.length j.k] 270::bx p1b [iv l] 3::bx p2b [iv 8] 3::bx p3b [iv (i - 6)] 3::bx p4b [iv 6] 3::bx f [.func (.func 243) #[] #[pt a 0]] 167::((vo cG 5 j s)++([]))) (bV 6 3) rfl (A2 (v:=iv (i - 6)) cA rfl rfl 3 rfl rfl) ?_
  refine zhk 2 (bV 6 7) rfl (B4m rfl rfl rfl opx rfl) (zhk 3 (bV 6 15) rfl (Q6 rfl rfl rfl rfl opx) ?_)
  refine zhp [4] 1 (bV 6 31) [(32,iv (bW .and .i64 l ((IntKind.i64.wrap ((1:Int) * 2 ^ (min ((i - 6)).toNat 64))) - 1)))] ?_
  refine zho 5 (bx a [pt a 0,.slice (va j.q) s.length j.k] 270::bx p2b [iv 8] 3::bx p3b [iv (i - 6)] 3::bx p4b [iv 6] 3::bx f [.func (.func 243) #[] #[pt a 0]] 167::((vo cG 5 j s)++([]))) (bV 6 63) rfl (D8 (us:=[iv (bW .and .i64 l ((IntKind.i64.wrap ((1:Int) * 2 ^ (min ((i - 6)).toNat 64))) - 1))]) (cs':=[iv (bW .and .i64 l ((IntKind.i64.wrap ((1:Int) * 2 ^ (min ((i - 6)).toNat 64))) - 1))]) cA rfl rfl rfl 1 rfl rfl rfl rfl rfl rfl) (fun _=>bQ) (fun _=>bT) fun _=>?_
  refine A2a oki ?_
  refine Q3 (H2 [[bx a [pt a 0,.slice (va j.q) s.length j.k] 270],[bx p1b [iv (bW .and .i64 l ((IntKind.i64.wrap ((1:Int) * 2 ^ (min ((i - 6)).toNat 64))) - 1))] 3],[bx p2b [iv 8] 3],[bx p3b [iv (i - 6)] 3],[bx p4b [iv 6] 3],[bx f [.func (.func 243) #[] #[pt a 0]] 167],vo cG 5 j s] [1,2,3,4,0,5,6] 7 rfl ozw rfl [[bx p1b [iv (bW .and .i64 l ((IntKind.i64.wrap ((1:Int) * 2 ^ (min ((i - 6)).toNat 64))) - 1))] 3],[bx p2b [iv 8] 3],[bx p3b [iv (i - 6)] 3],[bx p4b [iv 6] 3],[bx a [pt a 0,.slice (va j.q) s.length j.k] 270],[bx f [.func (.func 243) #[] #[pt a 0]] 167],vo cG 5 j s] rfl opv) ?_
  exact A0d (z1:=(fu1+1,l,i,d,e,b)) (fu1,(bW .and .i64 l ((IntKind.i64.wrap ((1:Int) * 2 ^ (min ((i - 6)).toNat 64))) - 1)),i - 6,some ⟨a,0,none⟩,s,j) ⟨opx,hR,(.inr rfl),w,opx,(by exact D8x hI opx),opx⟩ (Nat.lt_succ_self _) bQ bT
 refine G6 (nx (sd 4 rfl oki rfl ?_))
 refine pg2 4 [2,0] 7 8 rfl ?_
 subst hR
 refine de (A8 ?_)
 exact cD hr hD (Q9 rfl (B0 rfl) (B0 rfl)) (⟨b,o⟩,⟨d,t⟩) bQ bT
def A3f (n:Int):Int :=
 (IntKind.i64.wrap ((IntKind.i64.wrap (Int.tdiv (IntKind.i64.wrap ((if (if (1099511627776:Int)<n then (1099511627776:Int) else n) > (0:Int) then (if (1099511627776:Int)<n then (1099511627776:Int) else n) else (0:Int))+(2:Int))) 3)) * (4:Int)))
theorem B9e (n:Int) (h:0≤n∧n≤4096):A3f n=(n+2) / 3 * 4:=by
 unfold A3f
 rw [if_neg (show ¬ ((1099511627776:Int)<n) by omega)]
 have a:(if n > (0:Int) then n else (0:Int))=n:=by split<;>omega
 rw [a,A0j (m:=n+2) (by show (-9223372036854775808:Int)≤_;omega) (by show _≤(9223372036854775807:Int);omega),Int.tdiv_eq_ediv_of_nonneg opx,A0j (m:=(n+2) / 3) (by show (-9223372036854775808:Int)≤_;omega) (by show _≤(9223372036854775807:Int);omega),A0j (m:=(n+2) / 3 * 4) (by show (-9223372036854775808:Int)≤_;omega) (by show _≤(9223372036854775807:Int);omega)]
theorem D1t {n R:Int} (hR:A3f n=R) (a:0≤n∧n≤4096:=by exact bP):J5 Tryz.prog 246 [iv n] [] (iv R):=by
 refine bZ Tryz.func246 fun X hX hr hD=>?_
 replace hR:=(A3f.eq_1 ..).symm.trans hR
 refine bN rfl (pp0 1 rfl (ie (bN rfl (bO 3 5 rfl (ix rfl (I6.pure rfl) (ix rfl (C9s rfl rfl rfl ozw) (ix rfl (I6.pure rfl) (bO 1 2 rfl ?_))))))))
 subst hR
 refine ie (A8 ?_)
 exact G0 hr hD
def A1d (s:List UInt8) (a:List UInt8):List UInt8×Int :=
 ((a++(B6k ([61]:List UInt8) ((A3f (s.length:Int)) - (a.length:Int)))),0)
def W3 (s:List UInt8):List UInt8→Int→Int→Nat→List UInt8→Int→Int→(List UInt8×Int)
 | [],wait,rest,t16,bbuf,b,b1=>(bif (decide ((0:Int)<wait)) then (C2 (N6 bbuf (E1m.getD ((IntKind.i64.wrap (rest * 2 ^ (min ((6 - wait)).toNat 64))).toNat) 0)) fun (c:List UInt8)=>A1d s c) else A1d s bbuf)
 | hd_l0::tl_l0,wait,rest,t16,bbuf,b,b1=>(C2 (N3 (hd_l0.toNat:Int) b b1 bbuf) fun (a:Int×Int×List UInt8×Int×Int)=>W3 s tl_l0 a.2.2.2.1 a.2.2.2.2 (t16+1) a.2.2.1 a.1 a.2.1)
def A6t (s:List UInt8):List UInt8×Int :=
 (bif (decide ((4096:Int)<(s.length:Int))) then (([]:List UInt8),3) else W3 s s 0 0 0 ([]:List UInt8) 0 0)
theorem B0g (s:List UInt8) (h:s.length≤4096):∀ (l:List UInt8) (a rest:Int) (t:Nat) (c:List UInt8) (b b1:Int),A5z b1 b→b1≤4→a=b1→rest=b→(c.length:Int) * 6+b1=8 * (t:Int)→t+l.length=s.length→(W3 s l a rest t c b b1).1.length≤5500
 | [],a,rest,t,c,b,b1,hI,h4,hw,hr,hb,ht=>by
  have e:=B9e (s.length:Int) opx
  have g:∀ x:List UInt8,(x.length:Int) * 6≤8 * s.length+5→(A1d s x).1.length≤5500:=by
   intro x f
   unfold A1d
   show (x++B6k [61] _).length≤5500
   rw [List.length_append,C6q,e,List.length_singleton]
   omega
  have i:0≤b1:=by unfold A5z at hI;omega
  rw [W3]
  have:t=s.length:=by simpa using ht
  by_cases d:0<a
  ·rw [decide_eq_true d,cond_true]
   refine g _ ?_
   rw [Y5];omega
  ·rw [decide_eq_false d,cond_false]
   exact g _ opx
 | x::l,a,rest,t,c,b,b1,hI,h4,hw,hr,hb,ht=>by
  rw [W3]
  have f:0≤((x.toNat:Nat):Int)∧((x.toNat:Nat):Int)≤255:=⟨Int.natCast_nonneg _,Int.ofNat_le.2 (Nat.le_of_lt_succ (UInt8.toNat_lt _))⟩
  have d:=A8r (x.toNat:Int) b b1 c hI h4 f
  exact B0g s h l _ _ _ _ _ _ d.1 (by have q:=d.1;unfold A5z at q;omega) d.2.2.1 d.2.2.2.1 (by rw [d.2.2.2.2];omega) (by simp only [List.length_cons] at ht;omega)
theorem B4k (s:List UInt8):(A6t s).1.length≤5500:=by
 unfold A6t
 by_cases h:(4096:Int)<(s.length:Int)
 ·rw [decide_eq_true h];exact Nat.zero_le _
 ·rw [decide_eq_false h]
  exact B0g s opx s 0 0 0 [] 0 0 (.inl ⟨rfl,rfl⟩) opx rfl rfl oom oom
theorem C8g {s:List UInt8} {R:List UInt8×Int} (hR:A6t s=R):J5 Tryz.prog 189 [sv s] [] (.tuple #[sv R.1,iv R.2]):=by
 refine zco Tryz.func189 [(0,sv s)] fun X hX hr hD=>?_
 replace hR:=(A6t.eq_1 ..).symm.trans hR
 refine bN rfl (ip' 2 0 [] (ie (A5 (bN rfl (ip' 3 0 [(11,bv (decide ((4096:Int)<(s.length:Int))))] (ie ?_))))))
 refine zjd rfl hR ?_ ?_<;>clear hR<;>intro hR h1 al
 ·refine bN rfl (ip' 2 0 [(2,sv ([]:List UInt8)),(3,iv 3)] ?_)
  subst hR
  refine ie (A8 ?_)
  exact B1g hr hD
 refine A4 (nx (bN rfl (zra 1 [] (fun n=>[(4,pt n 0)]) (fun _=>[.pointer none,.slice none 0 0]) 270 fun n=>(ie (bN rfl (ip' 1 2 [(12,.func (.func 243) #[] #[pt n 0])] ?_))))))
 refine zc rfl (C6c rfl) fun ⟨y,w,v,x,u⟩=>?_
 refine ip' 1 0 [(5,.func (.func 285) #[] #[pt y 0,pt w 0,pt v 0,pt x 0,pt u 0])] (ie (bN rfl (ip' 2 0 [(6,iv 0),(7,iv 0)] (ie (A5 (bN rfl (ip' 3 0 [(15,iv (s.length:Int)),(16,iv 0)] (ie (B2 (Q3 (H2 [vo cG 5 VR.nil ([]:List UInt8),[bx n [.pointer none,.slice none 0 0] 270],[bx y [iv 0] 3],[bx w [iv 8] 3],[bx v [iv 0] 3],[bx x [iv 6] 3],[bx u [.func (.func 243) #[] #[pt n 0]] 167]] [1,2,3,4,5,6,0] 7 rfl ozw rfl [[bx n [.pointer none,.slice none 0 0] 270],[bx y [iv 0] 3],[bx w [iv 8] 3],[bx v [iv 0] 3],[bx x [iv 6] 3],[bx u [.func (.func 243) #[] #[pt n 0]] 167],vo cG 5 VR.nil ([]:List UInt8)] rfl opv) ?_))))))))))
 refine A4v (un fun (f:Int)=>un fun (rest:Int)=>un fun (j:Nat)=>un fun (h:Option Addr)=>un fun (i:List UInt8)=>un fun (e:VR)=>un fun (b:Int) (z:Int)=>(j≤s.length∧W3 s (s.drop j) f rest j i b z=R∧(h=none∨h=some ⟨n,0,none⟩)∧bR 1 i.length e∧(A5z z b∧z≤4)∧(f=z∧rest=b)∧(i.length:Int) * 6+z=8 * (j:Int)∧s.length≤4096∧0≤z,[(0,sv s),(4,pt n 0),(5,.func (.func 285) #[] #[pt y 0,pt w 0,pt v 0,pt x 0,pt u 0]),(6,iv f),(7,iv rest),(15,iv (s.length:Int)),(16,iv (j:Int))],(bx n [.pointer h,.slice (va e.q) i.length e.k] 270::bx y [iv b] 3::bx w [iv 8] 3::bx v [iv z] 3::bx x [iv 6] 3::bx u [.func (.func 243) #[] #[pt n 0]] 167::((vo cG 5 e i)++([]))),[],s.length - j)) (0,0,0,none,([]:List UInt8),VR.nil,0,0) ⟨opx,hR,(.inl rfl),bR.nil,(by exact ⟨.inl ⟨rfl,rfl⟩,by omega⟩),(by exact ⟨rfl,rfl⟩),oom,opx⟩ (mc [[bx n [.pointer none,.slice none 0 0] 270],[bx y [iv 0] 3],[bx w [iv 8] 3],[bx v [iv 0] 3],[bx x [iv 6] 3],[bx u [.func (.func 243) #[] #[pt n 0]] 167],vo cG 5 VR.nil ([]:List UInt8)] [true,true,true,true,true,true,true] rfl oxs) bT ?_
 rintro ⟨f,rest,j,h,i,e,b,z⟩ ⟨ak,hR,o,l,a0,ac,ao,an⟩
 have:=bR.le l
 refine bN rfl (ip' 1 0 [(17,bv (decide ((j:Int)<(s.length:Int))))] ?_)
 refine ie (A5 (X7 rfl (fun h9=>?_) (fun h9=>?_)))
 ·have aa:=bU h9
  rw [A1f 0 (show j<s.length by omega)] at hR;replace hR:=(W3.eq_2 ..).symm.trans hR
  refine A4 (nx (A5 (B2 (bN rfl (ip' 2 0 [(8,iv (j:Int))] (ie (A0 11 rfl (ip' 3 8 [(20,.func (.func 285) #[] #[pt y 0,pt w 0,pt v 0,pt x 0,pt u 0]),(21,sv s),(22,iv (j:Int))] (ix rfl (B9a (T:=9) Tryz.underlying9 rfl rfl rfl j rfl (by first|omega|(refine Nat.lt_of_lt_of_le (m:=64) opx ozw))) (ix rfl (B2l (c:=((s.getD j 0).toNat:Int)) Tryz.underlying3 oki rfl rfl (B0c (s.getD j 0))) ?_))))))))))
  have hQ:=C9 hR;clear hR;obtain ⟨r,a7,hR⟩:=hQ
  refine zc rfl (C0w a7 o l (by first|omega|(have q:=a0.1;unfold A5z at q;omega)) (by first|exact a0|exact ⟨.inl ⟨rfl,rfl⟩,by omega⟩) (by first|omega|exact ⟨Int.natCast_nonneg _,Int.ofNat_le.2 (Nat.le_of_lt_succ (UInt8.toNat_lt _))⟩) oph) fun ⟨⟨p,a1⟩,⟨a3,a8⟩⟩=>?_
  have:=bR.le a1
  have:=bR.cap a1
  have hp:=A8r ((s.getD j 0).toNat:Int) b z i a0.1 a0.2 ⟨Int.natCast_nonneg _,Int.ofNat_le.2 (Nat.le_of_lt_succ (UInt8.toNat_lt _))⟩;rw [a7] at hp
  refine ip' 5 0 [(6,iv r.2.2.2.1),(7,iv r.2.2.2.2)] (A3 (nx (A0 2 rfl (ix rfl (B4 rfl rfl rfl rfl opx) (ip' 1 0 [(16,iv ((j:Int)+1))] (A3 (Q3 (H2 [[bx y [iv r.1] 3],[bx w [iv 8] 3],[bx v [iv r.2.1] 3],[bx x [iv 6] 3],[bx n [.pointer a3,.slice (va p.q) r.2.2.1.length p.k] 270],[bx u [.func (.func 243) #[] #[pt n 0]] 167],vo cG 5 p r.2.2.1] [4,0,1,2,3,5,6] 7 rfl ozw rfl [[bx n [.pointer a3,.slice (va p.q) r.2.2.1.length p.k] 270],[bx y [iv r.1] 3],[bx w [iv 8] 3],[bx v [iv r.2.1] 3],[bx x [iv 6] 3],[bx u [.func (.func 243) #[] #[pt n 0]] 167],vo cG 5 p r.2.2.1] rfl opv) ?_)))))))
  exact A0d (z1:=(f,rest,j,h,i,e,b,z)) (r.2.2.2.1,r.2.2.2.2,j+1,a3,r.2.2.1,p,r.1,r.2.1) ⟨opx,hR,a8,a1,(by exact ⟨hp.1,by have q:=hp.1;unfold A5z at q;omega⟩),(by exact ⟨hp.2.2.1,hp.2.2.2.1⟩),opx,(by (have q:=hp.1;unfold A5z at q;omega))⟩ olr (mc [[bx n [.pointer a3,.slice (va p.q) r.2.2.1.length p.k] 270],[bx y [iv r.1] 3],[bx w [iv 8] 3],[bx v [iv r.2.1] 3],[bx x [iv 6] 3],[bx u [.func (.func 243) #[] #[pt n 0]] 167],vo cG 5 p r.2.2.1] [true,true,true,true,true,true,true] rfl oxs) bT
 have aa:=bU h9
 rw [A2g aa] at hR;replace hR:=(W3.eq_1 ..).symm.trans hR
 refine G6 (nx (A9c (un fun (g:Option Addr)=>un fun (a:List UInt8) (d:VR)=>(A1d s a=R∧(g=none∨g=some ⟨n,0,none⟩)∧bR 1 a.length d∧a.length * 6≤8 * s.length+5∧8 * s.length≤a.length * 6,[(0,sv s),(4,pt n 0)],(bx n [.pointer g,.slice (va d.q) a.length d.k] 270::bx y [iv b] 3::bx w [iv 8] 3::bx v [iv z] 3::bx x [iv 6] 3::bx u [.func (.func 243) #[] #[pt n 0]] 167::((vo cG 5 d a)++([]))),[])) ?_ ?_))
 ·refine bN rfl (ip' 2 0 [(30,bv (decide ((0:Int)<f)))] (ie ?_))
  refine zjd rfl hR ?_ ?_<;>clear hR<;>intro hR aj ah
  ·have ab:=E5z a0.1 opx a0.2;rw [← ac.1,← ac.2] at ab
   have ai:0≤IntKind.i64.wrap (rest * 2 ^ (min ((6:Int) - f).toNat IntKind.i64.bits))∧IntKind.i64.wrap (rest * 2 ^ (min ((6:Int) - f).toNat IntKind.i64.bits))<64:=ab
   have am:IntKind.i64.wrap (rest * 2 ^ (min ((6:Int) - f).toNat IntKind.i64.bits))=IntKind.i64.wrap (rest * 2 ^ (min ((6:Int) - f).toNat 64)):=rfl
   refine A0 6 rfl (ip' 2 4 [(31,iv rest),(32,iv f)] (ix rfl (Q6 rfl rfl rfl rfl opx) (ix rfl (B4m rfl rfl rfl opx rfl) (ix rfl (B9a (T:=9) Tryz.underlying9 rfl rfl rfl ((IntKind.i64.wrap (rest * 2 ^ (min ((6 - f)).toNat 64))).toNat) opx (by first|omega|(refine Nat.lt_of_lt_of_le (m:=64) opx ozw))) ?_))))
   have hQ:=C9 hR;clear hR;obtain ⟨y7,a9,hR⟩:=hQ
   refine zc rfl (A4o a9 o l oph) fun ⟨a4,a2⟩=>?_
   have:=bR.le a2
   have:=bR.cap a2
   have:=Y5 i (E1m.getD ((IntKind.i64.wrap (rest * 2 ^ (min ((6 - f)).toNat 64))).toNat) 0);try rw [a9] at this
   refine A3 ?_
   exact X5 (some ⟨n,0,none⟩,y7,a4) ⟨hR,(.inr rfl),a2,opx⟩ (mc [[bx n [pt n 0,.slice (va a4.q) y7.length a4.k] 270],[bx y [iv b] 3],[bx w [iv 8] 3],[bx v [iv z] 3],[bx x [iv 6] 3],[bx u [.func (.func 243) #[] #[pt n 0]] 167],vo cG 5 a4 y7] [true,true,true,true,true,true,true] rfl oxs) bT
  refine A4 ?_
  exact X5 (h,i,e) ⟨hR,o,l,opx⟩ (mc [[bx n [.pointer h,.slice (va e.q) i.length e.k] 270],[bx y [iv b] 3],[bx w [iv 8] 3],[bx v [iv z] 3],[bx x [iv 6] 3],[bx u [.func (.func 243) #[] #[pt n 0]] 167],vo cG 5 e i] [true,true,true,true,true,true,true] rfl oxs) bT
 rintro ⟨g,a,d⟩
 rintro ⟨hR,a5,t,hj⟩
 replace hR:=(A1d.eq_1 ..).symm.trans hR
 refine bN rfl (zc rfl (E4i n (.pointer g) a d t) fun _=>(ip' 2 7 [(39,iv (s.length:Int))] (zv rfl (D1t rfl opx) ?_)))
 have:=B9e (s.length:Int) opx
 refine zc rfl (F1r n (.pointer g) (va d.q) a.length d.k) fun _=>?_
 refine ix rfl (Q6 rfl rfl rfl rfl opx) (zv rfl (E4x ([61]:List UInt8) ((A3f (s.length:Int)) - (a.length:Int)) oph oph oph) ?_)
 have:=C6q ([61]:List UInt8) ((A3f (s.length:Int)) - (a.length:Int));try simp only [List.length_cons,List.length_nil] at this
 refine ix rfl (zst rfl rfl rfl) (ip' 2 0 [(2,sv (a++(B6k ([61]:List UInt8) ((A3f (s.length:Int)) - (a.length:Int))))),(3,iv 0)] ?_)
 subst hR
 refine ie (A8 ?_)
 exact B1g hr hD
def B1y (a:Act):Option (List UInt8) :=
 (Option.bind (B5o a ({Act.zero with kind:=a.kind,text:=a.text})) fun (r:Unit)=>(Option.bind (A4c (decide ((a.text.length:Int)≤378))) fun (c:Unit)=>(C2 (A6t a.text) fun (b:List UInt8×Int)=>(Option.bind (A4c (decide (b.2=0))) fun (d:Unit)=>(some (([53,50,59,99,59]:List UInt8)++b.1))))))
theorem D0v {a:Act} {R:Option (List UInt8)} (hR:B1y a=R):C3c Tryz.prog 188 [ag (A1 a)] [] [] A0y R (fun r=>sv r):=by
 refine A6e (n:=28) Tryz.func188 rfl oki rfl rfl [(0,ag (A1 a))] ⟨rfl,trivial⟩ fun X hX hr hD=>?_
 replace hR:=(B1y.eq_1 ..).symm.trans hR
 refine bN rfl (zra 2 [] (fun d=>[(1,pt d 0)]) (fun _=>(A1 a)) 60 fun d=>(ie (bN rfl (bY 6 1 [0,0,0] [(5,ag (A1 a)),(10,ag (A1 ({Act.zero with kind:=a.kind,text:=a.text})))] ?_))))
 refine A0c (L2:=[bx d (A1 a) 60]) (B9x rfl) rfl rfl rfl rfl rfl rfl bT (List.Perm.refl _) (fun r g=>?_) (fun h=>?_)
 ·replace hR:=B1l hR g
  refine ie (bN rfl (cE 4 [0] 15 rfl ?_))
  refine A0c (L2:=[bx d (A1 a) 60]) (A3u rfl) rfl rfl rfl rfl rfl rfl bT (List.Perm.refl _) (fun l c=>?_) (fun i=>?_)
  ·replace hR:=B1l hR c
   have b:=U9 c;try simp only [Bool.and_eq_true,decide_eq_true_eq] at b
   refine ie (bN rfl (cE 2 [0] 19 rfl ?_))
   have k:=C9 hR;clear hR;obtain ⟨m,e,hR⟩:=k
   refine zv rfl (C8g e) ?_
   have:=B4k a.text;try rw [e] at this
   refine cJ 5 3 4 rfl (ie (bN rfl (bO 2 24 rfl ?_)))
   refine A0c (L2:=[bx d (A1 a) 60]) (A3u rfl) rfl rfl rfl rfl rfl rfl bT (List.Perm.refl _) (fun o f=>?_) (fun j=>?_)
   ·replace hR:=B1l hR f
    have b:=U9 f;try simp only [Bool.and_eq_true,decide_eq_true_eq] at b
    refine ie (bN rfl (bO 1 26 rfl (ix rfl (zst rfl rfl rfl) (bO 1 2 rfl (ie (A8 ?_))))))
    exact B2m rfl ⟨hr,hD⟩ (by simp [hD]) (N4 rfl (B0 rfl)) hR.symm rfl
   ·replace hR:=B1k hR j
    exact Q4 ⟨hr,hD⟩ hR.symm
  ·replace hR:=B1k hR i
   exact Q4 ⟨hr,hD⟩ hR.symm
 ·replace hR:=B1k hR h
  exact Q4 ⟨hr,hD⟩ hR.symm
def A3v (d:Int) (c:Int) (a:Col) (b:List UInt8):Option (List UInt8) :=
 (Option.bind (A4c true) fun (r:Unit)=>(Option.bind (B1y (⟨46,d,c,a,b⟩:Act)) fun (e:List UInt8)=>(some e)))
theorem D0p {c d:Int} {b:Col} {a:List UInt8} {e:Addr} {R:Option (List UInt8)} (hR:A3v c d b a=R) (o:a.length≤100000000:=by exact bP):C3c Tryz.prog 98 [pa e] [] [at_ e (A1 (⟨46,c,d,b,a⟩:Act))] A0y R (fun r=>sv r):=by
 refine A6e (n:=16) Tryz.func98 rfl oki rfl rfl [(0,pa e)] ⟨rfl,trivial⟩ fun X hX hr hD=>?_
 replace hR:=(A3v.eq_1 ..).symm.trans hR
 refine bN rfl (pp0 1 rfl (ie (zS [] ?_)))
 refine hq1 [1] 6 rfl ?_
 refine gk 2 rfl (F2 cA rfl rfl (A2w (B8 0 rfl) (ws:=[iv 46]) 1 rfl) rfl) ?_
 refine gc 0 [] rfl (B7q rfl) fun l=>?_
 refine go 3 [] rfl (Det.tri (I6.det (A5g (v:=aE 188) (j:=2) D3j rfl rfl rfl 0 rfl oki))) fun _=>?_
 refine hqV [4,5,6,7,8] [(2,aE 188),(3,bv true)] ?_
 refine ge ?_
 refine bN rfl (bO 1 11 rfl ?_)
 refine A0c (L2:=[(l,aC)]) (A3u rfl) rfl rfl rfl rfl rfl rfl bT (List.Perm.refl _) (fun r f=>?_) (fun h=>?_)
 ·replace hR:=B1l hR f
  have g:=U9 f;try simp only [Bool.and_eq_true,decide_eq_true_eq] at g
  refine ie (bN rfl (ip' 1 3 [(13,aE 188)] (ix rfl (K5 (us:=A1 (⟨46,c,d,b,a⟩:Act)) B7m rfl rfl (B8 0 rfl) rfl) ?_)))
  refine A0c (L2:=[(l,aC)]) (D0v rfl) rfl rfl rfl rfl rfl rfl bT (List.Perm.refl _) (fun m i=>?_) (fun k=>?_)
  ·replace hR:=B1l hR i
   refine bO 1 1 rfl (ie (A8 ?_))
   exact B2m rfl ⟨hr,hD⟩ (by simp [hD]) (N4 rfl (B0 rfl)) hR.symm rfl
  ·replace hR:=B1k hR k
   exact Q4 ⟨hr,hD⟩ hR.symm
 ·replace hR:=B1k hR h
  exact Q4 ⟨hr,hD⟩ hR.symm
def A9l (an:Int) (am:Int) (acolor:Col) (atext:List UInt8):List UInt8×Int :=
 (bif (!((B1m (A3v an am acolor atext)).2)) then (([]:List UInt8),2) else ((B1m (A3v an am acolor atext)).1,0))
theorem B3b (an am:Int) (c:Col) (t:List UInt8):(A9l an am c t).1.length≤t.length+6000:=by
 have b:∀ s,A3v an am c t=some s→s.length≤t.length+6000:=by
  intro s h
  unfold A3v B1y at h
  simp only [Option.bind_eq_some_iff,Option.some.injEq] at h
  obtain ⟨_,_,f,⟨_,_,_,d,a⟩,e⟩:=h
  have d:=U9 d
  simp only [decide_eq_true_eq] at d
  unfold C2 at a
  simp only [Option.bind_eq_some_iff,Option.some.injEq] at a
  obtain ⟨_,_,a⟩:=a
  have:=B4k t
  rw [← e,← a]
  simp only [List.length_append,List.length_cons,List.length_nil]
  omega
 unfold A9l
 cases hR:A3v an am c t with
 | none=>simp [B1m]
 | some s=>have:=b s hR;simp [B1m];omega
theorem C4n {an am:Int} {acolor:Col} {atext:List UInt8} {R:List UInt8×Int} (hR:A9l an am acolor atext=R) (c:atext.length≤100000000:=by exact bP):J5 Tryz.prog 39 [ag (A1 (⟨46,an,am,acolor,atext⟩:Act))] [] (.tuple #[sv R.1,iv R.2]):=by
 refine bZ Tryz.func39 fun X hX hr hD=>?_
 replace hR:=(A9l.eq_1 ..).symm.trans hR
 refine bN rfl (it rfl (A2t (cs:=A1 (⟨46,an,am,acolor,atext⟩:Act)) rfl rfl rfl) fun a=>?_)
 refine A6m 0 rfl ?_
 refine pp0 2 rfl (ie (bN rfl (ip' 1 6 [(7,.func (.func 98) #[] #[pa ⟨a,0,none⟩])] (zv rfl (D9f (cap:=[pa ⟨a,0,none⟩]) _ (D0p rfl)) (cJ 5 4 5 rfl (ie (A5 (bN rfl (bO 2 12 rfl (ie ?_))))))))))
 refine zjb rfl hR ?_ ?_<;>clear hR<;>intro hR b
 ·refine bN rfl (cJ 2 2 3 rfl ?_)
  subst hR
  refine ie (A8 ?_)
  exact B1g hr hD
 refine A4 (nx (bN rfl (cJ 3 2 3 rfl ?_)))
 subst hR
 refine ie (A8 ?_)
 exact B1g hr hD
def A4n (an:Int) (am:Int) (acolor:Col) (atext:List UInt8):List UInt8 :=
 (C2 (A9l an am acolor atext) fun (a:List UInt8×Int)=>((([27,93]:List UInt8)++a.1)++([27,92]:List UInt8)))
theorem C4k (an:Int) (am:Int) (acolor:Col) (atext:List UInt8) (e:atext.length≤100000000) (R:List UInt8) (hR:A4n an am acolor atext=R):J5 Tryz.prog 147 [ag (A1 (⟨46,an,am,acolor,atext⟩:Act))] [] (sv R):=by
 refine zco Tryz.func147 [(0,ag (A1 (⟨46,an,am,acolor,atext⟩:Act)))] fun X hX hr hD=>?_
 replace hR:=(A4n.eq_1 ..).symm.trans hR
 refine sr 2 rfl (B2b 2 0 [] (fun b=>[(1,pt b 0)]) (fun b=>[bx b (A1 (⟨46,an,am,acolor,atext⟩:Act)) 60]) (fun b=>(ie (sr 7 rfl (bY 1 6 [0] [(6,ag (A1 (⟨46,an,am,acolor,atext⟩:Act)))] ?_)))))
 have d:=C9 hR;clear hR;obtain ⟨c,a,hR⟩:=d
 refine zca (C4n (an:=an) (am:=am) (acolor:=acolor) (atext:=atext) a osj) bT ?_
 have:=B3b an am acolor atext;try rw [a] at this
 refine ip' 5 0 [(3,sv c.1)] (ie (sr 4 rfl (ip' 1 3 [(10,sv c.1)] (ix rfl (zst rfl rfl rfl) (ix rfl (zst rfl rfl rfl) (ip' 1 0 [(2,sv ((([27,93]:List UInt8)++c.1)++([27,92]:List UInt8)))] ?_))))))
 subst hR
 refine ie (A8 ?_)
 exact G0 hr hD
def B6a (a:Act):Prop:=a.text.length≤100000000∧1≤a.kind∧a.kind≤46∧(a.kind=7∨a.kind=14∨a.kind=21∨a.kind=33∨a.kind=42→0≤a.n∧a.n≤1)∧(a.kind=17∨a.kind=20→0≤a.n∧a.n≤3)∧(a.kind=18→2≤a.n∧a.n≤3)∧(a.kind=17∨a.kind=36∨a.kind=37∨a.kind=43→0≤a.m∧a.m≤1)
def A7r (a:Act):List UInt8 :=
 (bif (decide (a.kind=1)) then (A5b (⟨1,a.n,a.m,a.color,a.text⟩:Act)) else (bif (decide (a.kind=2)) then (F4 a ([7]:List UInt8)) else (bif (decide (a.kind=3)) then (F4 a ([8]:List UInt8)) else (bif (decide (a.kind=4)) then (F4 a ([9]:List UInt8)) else (bif (decide (a.kind=5)) then (F4 a ([10]:List UInt8)) else (bif (decide (a.kind=6)) then (F4 a ([13]:List UInt8)) else (bif (decide (a.kind=7)) then (W0 a ([]:List UInt8) ([15,14]:List UInt8) 0) else (bif (decide (a.kind=8)) then (F4 a ([27,68]:List UInt8)) else (bif (decide (a.kind=9)) then (F4 a ([27,69]:List UInt8)) else (bif (decide (a.kind=10)) then (F4 a ([27,72]:List UInt8)) else (bif (decide (a.kind=11)) then (F4 a ([27,77]:List UInt8)) else (bif (decide (a.kind=12)) then (F4 a ([27,55]:List UInt8)) else (bif (decide (a.kind=13)) then (F4 a ([27,56]:List UInt8)) else (bif (decide (a.kind=14)) then (W0 a ([27]:List UInt8) ([62,61]:List UInt8) 0) else (bif (decide (a.kind=15)) then (F4 a ([27,99]:List UInt8)) else (bif (decide (a.kind=16)) then (F4 a ([27,35,56]:List UInt8)) else (bif (decide (a.kind=17)) then (A5u (⟨17,a.n,a.m,a.color,a.text⟩:Act)) else (bif (decide (a.kind=18)) then (W0 a ([27]:List UInt8) ([78,79]:List UInt8) 2) else (bif (decide (a.kind=19)) then (A5p (⟨19,a.n,a.m,a.color,a.text⟩:Act)) else (bif (decide (a.kind=20)) then (W1 a ([65,66,67,68]:List UInt8)) else (bif (decide (a.kind=21)) then (W1 a ([69,70]:List UInt8)) else (bif (decide (a.kind=22)) then (H4 a 1 ([71]:List UInt8)) else (bif (decide (a.kind=23)) then (H4 a 1 ([100]:List UInt8)) else (bif (decide (a.kind=24)) then (H4 a 1 ([73]:List UInt8)) else (bif (decide (a.kind=25)) then (H4 a 1 ([90]:List UInt8)) else (bif (decide (a.kind=26)) then (H4 a 0 ([74]:List UInt8)) else (bif (decide (a.kind=27)) then (H4 a 0 ([75]:List UInt8)) else (bif (decide (a.kind=28)) then (H4 a 1 ([64]:List UInt8)) else (bif (decide (a.kind=29)) then (H4 a 1 ([80]:List UInt8)) else (bif (decide (a.kind=30)) then (H4 a 1 ([88]:List UInt8)) else (bif (decide (a.kind=31)) then (H4 a 1 ([76]:List UInt8)) else (bif (decide (a.kind=32)) then (H4 a 1 ([77]:List UInt8)) else (bif (decide (a.kind=33)) then (W1 a ([83,84]:List UInt8)) else (bif (decide (a.kind=34)) then (H4 a 1 ([98]:List UInt8)) else (bif (decide (a.kind=35)) then (H4 a 0 ([103]:List UInt8)) else (bif (decide (a.kind=36)) then (Y3 a ([]:List UInt8)) else (bif (decide (a.kind=37)) then (Y3 a ([63]:List UInt8)) else (bif (decide (a.kind=38)) then (A4j (⟨38,a.n,a.m,a.color,a.text⟩:Act)) else (bif (decide (a.kind=39)) then (A3y (⟨39,a.n,a.m,a.color,a.text⟩:Act)) else (bif (decide (a.kind=40)) then (H4 a 0 ([32,113]:List UInt8)) else (bif (decide (a.kind=41)) then (H4 a (-2) ([110]:List UInt8)) else (bif (decide (a.kind=42)) then (A4a (⟨42,a.n,a.m,a.color,a.text⟩:Act)) else (bif (decide (a.kind=43)) then (A4k (⟨43,a.n,a.m,a.color,a.text⟩:Act)) else (bif (decide (a.kind=44)) then (A5l a.n a.m a.color a.text) else (bif (decide (a.kind=45)) then (A4p a.n a.m a.color a.text) else (bif (decide (a.kind=46)) then (A4n a.n a.m a.color a.text) else ([]:List UInt8)))))))))))))))))))))))))))))))))))))))))))))))
def tC (k:Int):List Value→Value→Prop:=C7q (fun a=>a.kind=k∧B6a a) A7r
theorem tcv {Φ:List Pers} {v:Value} {pre:Act→Prop} {f:Act→List UInt8} {k:Int} (h:S1 Φ (N7 Tryz.prog v (C7q pre f))) (e:∀ a:Act,a.kind=k→B6a a→pre a:=by intro a b c;unfold B6a at c;first|trivial|omega|(simp only [List.length_cons,List.length_nil];omega)) (d:∀ a:Act,a.kind=k→f a=A7r a:=by intro a b;unfold A7r;simp only [b];rfl):S1 Φ (N7 Tryz.prog v (tC k)) :=
 D9n h (fun args r g=>by obtain ⟨a,⟨b,c⟩,rfl,rfl⟩:=g;exact ⟨a,e a b c,rfl,congrArg sv (d a b).symm⟩)
def C4o:Unit :=
 ()
theorem otw {p:Prop} (h:p:=by dsimp only;omega):p:=h
set_option maxHeartbeats 8000000 in
theorem C9i (R:Unit) (hR:C4o=R):cI Tryz.prog 84 [] [] [K6,P4,O0,M9] ({t:Nat×List (Int×Value) // t.2.map Prod.fst=[1,2,3,4,5,6,7,8,9,10,11,12,13,15,16,14,17,18,20,21,33,19,22,23,24,25,28,29,30,31,32,34,26,27,35,40,36,37,38,41,42,43,39,44,45,46]}) (fun x=>.map (some x.1.1)) (fun x=>[(x.1.1,.map (B6 x.1.2 0).toArray x.1.2.length)]) (fun x=>[C5m Tryz.prog x.1.2 tC]):=by
 refine zco Tryz.func84 [] fun X hX hr hD=>?_
 replace hR:=(C4o.eq_1 ..).symm.trans hR
 refine sr 1 rfl (ip' 1 0 [] (ie (sr 1 rfl (ip' 1 0 [(1,aE 137)] (ie (sr 1 rfl (ip' 1 0 [(2,aE 139)] (ie (sr 1 rfl (ip' 1 0 [(3,aE 142)] (ie (sr 1 rfl (ip' 1 0 [(4,aE 145)] (ie (sr 1 rfl (ip' 1 0 [(5,aE 147)] (ie (sr 1 rfl (ip' 1 0 [(6,aE 148)] ?_)))))))))))))))))))
 refine ie (sr 124 rfl (it rfl (A0w rfl) fun b=>(D7 (q:=N7 Tryz.prog (aE 150) (tC 1)) (S8 (C:=tC 1) (fun args r i=>by obtain ⟨a,⟨g,h⟩,rfl,rfl⟩:=i;obtain ⟨k_,d,f,c,e⟩:=a;dsimp only at g;subst g;unfold B6a at h;dsimp only at h;rw [show A7r (⟨1,d,f,c,e⟩:Act)=(A5b (⟨1,d,f,c,e⟩:Act)) from rfl];exact C4.of (C5v (a:=(⟨1,d,f,c,e⟩:Act)) rfl) rfl bT) A9.refl) ?_)))
 refine it rfl (E8 (C:=tC) (l:=([]:List (Int×Value))) (ks:=[]) (k:=1) (Φ':=[K6,P4,O0,M9]) N5 (.inl rfl) rfl rfl rfl 0 rfl rfl ozw E7z (B8 0 rfl) (A9.pick [1,2,3,4] rfl)) fun ⟨ar,dl⟩=>?_
 refine ip' 1 121 [(8,aE 137)] (it rfl (G7 (L2:=[(b,.map (B6 ar 0).toArray ar.length)]) (N0 (s:=([7]:List UInt8)) rfl) rfl rfl rfl rfl rfl bT (List.Perm.refl _) (fun u4=>[(b,.map (B6 ar 0).toArray ar.length)]) (fun _=>rfl)) fun u4=>?_)
 refine D7 (q:=N7 Tryz.prog (u4) (tC 2)) (tcv (B8 0 rfl)) ?_
 refine it rfl (E8 (C:=tC) (k:=2) (Φ':=[K6,P4,O0,M9]) N5 (.inl rfl) rfl rfl rfl 0 rfl dl ozw (B8 2 rfl) (B8 0 rfl) (A9.pick [3,4,5,6] rfl)) fun ⟨au,df⟩=>?_
 refine ip' 1 118 [(10,aE 137)] (it rfl (G7 (L2:=[(b,.map (B6 au 0).toArray au.length)]) (N0 (s:=([8]:List UInt8)) rfl) rfl rfl rfl rfl rfl bT (List.Perm.refl _) (fun u7=>[(b,.map (B6 au 0).toArray au.length)]) (fun _=>rfl)) fun u7=>?_)
 refine D7 (q:=N7 Tryz.prog (u7) (tC 3)) (tcv (B8 0 rfl)) ?_
 refine it rfl (E8 (C:=tC) (k:=3) (Φ':=[K6,P4,O0,M9]) N5 (.inl rfl) rfl rfl rfl 0 rfl df ozw (B8 2 rfl) (B8 0 rfl) (A9.pick [3,4,5,6] rfl)) fun ⟨aq,dm⟩=>?_
 refine ip' 1 115 [(12,aE 137)] (it rfl (G7 (L2:=[(b,.map (B6 aq 0).toArray aq.length)]) (N0 (s:=([9]:List UInt8)) rfl) rfl rfl rfl rfl rfl bT (List.Perm.refl _) (fun cp=>[(b,.map (B6 aq 0).toArray aq.length)]) (fun _=>rfl)) fun cp=>?_)
 refine D7 (q:=N7 Tryz.prog (cp) (tC 4)) (tcv (B8 0 rfl)) ?_
 refine it rfl (E8 (C:=tC) (k:=4) (Φ':=[K6,P4,O0,M9]) N5 (.inl rfl) rfl rfl rfl 0 rfl dm ozw (B8 2 rfl) (B8 0 rfl) (A9.pick [3,4,5,6] rfl)) fun ⟨ac,da⟩=>?_
 refine ip' 1 112 [(14,aE 137)] (it rfl (G7 (L2:=[(b,.map (B6 ac 0).toArray ac.length)]) (N0 (s:=([10]:List UInt8)) rfl) rfl rfl rfl rfl rfl bT (List.Perm.refl _) (fun cd=>[(b,.map (B6 ac 0).toArray ac.length)]) (fun _=>rfl)) fun cd=>?_)
 refine D7 (q:=N7 Tryz.prog (cd) (tC 5)) (tcv (B8 0 rfl)) ?_
 refine it rfl (E8 (C:=tC) (k:=5) (Φ':=[K6,P4,O0,M9]) N5 (.inl rfl) rfl rfl rfl 0 rfl da ozw (B8 2 rfl) (B8 0 rfl) (A9.pick [3,4,5,6] rfl)) fun ⟨a9,cv⟩=>?_
 refine ip' 1 109 [(16,aE 137)] (it rfl (G7 (L2:=[(b,.map (B6 a9 0).toArray a9.length)]) (N0 (s:=([13]:List UInt8)) rfl) rfl rfl rfl rfl rfl bT (List.Perm.refl _) (fun ci=>[(b,.map (B6 a9 0).toArray a9.length)]) (fun _=>rfl)) fun ci=>?_)
 refine D7 (q:=N7 Tryz.prog (ci) (tC 6)) (tcv (B8 0 rfl)) ?_
 refine it rfl (E8 (C:=tC) (k:=6) (Φ':=[K6,P4,O0,M9]) N5 (.inl rfl) rfl rfl rfl 0 rfl cv ozw (B8 2 rfl) (B8 0 rfl) (A9.pick [3,4,5,6] rfl)) fun ⟨v,cg⟩=>?_
 refine ip' 1 106 [(18,aE 139)] (it rfl (G7 (L2:=[(b,.map (B6 v 0).toArray v.length)]) (A9i (front:=([]:List UInt8)) (signs:=([15,14]:List UInt8)) (first:=0) rfl oph) rfl rfl rfl rfl rfl bT (List.Perm.refl _) (fun ca=>[(b,.map (B6 v 0).toArray v.length)]) (fun _=>rfl)) fun ca=>?_)
 refine D7 (q:=N7 Tryz.prog (ca) (tC 7)) (tcv (B8 0 rfl)) ?_
 refine it rfl (E8 (C:=tC) (k:=7) (Φ':=[K6,P4,O0,M9]) N5 (.inl rfl) rfl rfl rfl 0 rfl cg ozw (B8 2 rfl) (B8 0 rfl) (A9.pick [3,4,5,6] rfl)) fun ⟨w,d9⟩=>?_
 refine ip' 1 103 [(20,aE 137)] (it rfl (G7 (L2:=[(b,.map (B6 w 0).toArray w.length)]) (N0 (s:=([27,68]:List UInt8)) rfl) rfl rfl rfl rfl rfl bT (List.Perm.refl _) (fun c0=>[(b,.map (B6 w 0).toArray w.length)]) (fun _=>rfl)) fun c0=>?_)
 refine D7 (q:=N7 Tryz.prog (c0) (tC 8)) (tcv (B8 0 rfl)) ?_
 refine it rfl (E8 (C:=tC) (k:=8) (Φ':=[K6,P4,O0,M9]) N5 (.inl rfl) rfl rfl rfl 0 rfl d9 ozw (B8 2 rfl) (B8 0 rfl) (A9.pick [3,4,5,6] rfl)) fun ⟨z,bh⟩=>?_
 refine ip' 1 100 [(22,aE 137)] (it rfl (G7 (L2:=[(b,.map (B6 z 0).toArray z.length)]) (N0 (s:=([27,69]:List UInt8)) rfl) rfl rfl rfl rfl rfl bT (List.Perm.refl _) (fun d3=>[(b,.map (B6 z 0).toArray z.length)]) (fun _=>rfl)) fun d3=>?_)
 refine D7 (q:=N7 Tryz.prog (d3) (tC 9)) (tcv (B8 0 rfl)) ?_
 refine it rfl (E8 (C:=tC) (k:=9) (Φ':=[K6,P4,O0,M9]) N5 (.inl rfl) rfl rfl rfl 0 rfl bh ozw (B8 2 rfl) (B8 0 rfl) (A9.pick [3,4,5,6] rfl)) fun ⟨a2,bi⟩=>?_
 refine ip' 1 97 [(24,aE 137)] (it rfl (G7 (L2:=[(b,.map (B6 a2 0).toArray a2.length)]) (N0 (s:=([27,72]:List UInt8)) rfl) rfl rfl rfl rfl rfl bT (List.Perm.refl _) (fun bz=>[(b,.map (B6 a2 0).toArray a2.length)]) (fun _=>rfl)) fun bz=>?_)
 refine D7 (q:=N7 Tryz.prog (bz) (tC 10)) (tcv (B8 0 rfl)) ?_
 refine it rfl (E8 (C:=tC) (k:=10) (Φ':=[K6,P4,O0,M9]) N5 (.inl rfl) rfl rfl rfl 0 rfl bi ozw (B8 2 rfl) (B8 0 rfl) (A9.pick [3,4,5,6] rfl)) fun ⟨a8,cl⟩=>?_
 refine ip' 1 94 [(26,aE 137)] (it rfl (G7 (L2:=[(b,.map (B6 a8 0).toArray a8.length)]) (N0 (s:=([27,77]:List UInt8)) rfl) rfl rfl rfl rfl rfl bT (List.Perm.refl _) (fun bk=>[(b,.map (B6 a8 0).toArray a8.length)]) (fun _=>rfl)) fun bk=>?_)
 refine D7 (q:=N7 Tryz.prog (bk) (tC 11)) (tcv (B8 0 rfl)) ?_
 refine it rfl (E8 (C:=tC) (k:=11) (Φ':=[K6,P4,O0,M9]) N5 (.inl rfl) rfl rfl rfl 0 rfl cl ozw (B8 2 rfl) (B8 0 rfl) (A9.pick [3,4,5,6] rfl)) fun ⟨p,cb⟩=>?_
 refine ip' 1 91 [(28,aE 137)] (it rfl (G7 (L2:=[(b,.map (B6 p 0).toArray p.length)]) (N0 (s:=([27,55]:List UInt8)) rfl) rfl rfl rfl rfl rfl bT (List.Perm.refl _) (fun c1=>[(b,.map (B6 p 0).toArray p.length)]) (fun _=>rfl)) fun c1=>?_)
 refine D7 (q:=N7 Tryz.prog (c1) (tC 12)) (tcv (B8 0 rfl)) ?_
 refine it rfl (E8 (C:=tC) (k:=12) (Φ':=[K6,P4,O0,M9]) N5 (.inl rfl) rfl rfl rfl 0 rfl cb ozw (B8 2 rfl) (B8 0 rfl) (A9.pick [3,4,5,6] rfl)) fun ⟨al,c4⟩=>?_
 refine ip' 1 88 [(30,aE 137)] (it rfl (G7 (L2:=[(b,.map (B6 al 0).toArray al.length)]) (N0 (s:=([27,56]:List UInt8)) rfl) rfl rfl rfl rfl rfl bT (List.Perm.refl _) (fun br=>[(b,.map (B6 al 0).toArray al.length)]) (fun _=>rfl)) fun br=>?_)
 refine D7 (q:=N7 Tryz.prog (br) (tC 13)) (tcv (B8 0 rfl)) ?_
 refine it rfl (E8 (C:=tC) (k:=13) (Φ':=[K6,P4,O0,M9]) N5 (.inl rfl) rfl rfl rfl 0 rfl c4 ozw (B8 2 rfl) (B8 0 rfl) (A9.pick [3,4,5,6] rfl)) fun ⟨aa,d1⟩=>?_
 refine ip' 1 85 [(32,aE 137)] (it rfl (G7 (L2:=[(b,.map (B6 aa 0).toArray aa.length)]) (N0 (s:=([27,99]:List UInt8)) rfl) rfl rfl rfl rfl rfl bT (List.Perm.refl _) (fun bu=>[(b,.map (B6 aa 0).toArray aa.length)]) (fun _=>rfl)) fun bu=>?_)
 refine D7 (q:=N7 Tryz.prog (bu) (tC 15)) (tcv (B8 0 rfl)) ?_
 refine it rfl (E8 (C:=tC) (k:=15) (Φ':=[K6,P4,O0,M9]) N5 (.inl rfl) rfl rfl rfl 0 rfl d1 ozw (B8 2 rfl) (B8 0 rfl) (A9.pick [3,4,5,6] rfl)) fun ⟨y,ce⟩=>?_
 refine ip' 1 82 [(34,aE 137)] (it rfl (G7 (L2:=[(b,.map (B6 y 0).toArray y.length)]) (N0 (s:=([27,35,56]:List UInt8)) rfl) rfl rfl rfl rfl rfl bT (List.Perm.refl _) (fun d7=>[(b,.map (B6 y 0).toArray y.length)]) (fun _=>rfl)) fun d7=>?_)
 refine D7 (q:=N7 Tryz.prog (d7) (tC 16)) (tcv (B8 0 rfl)) ?_
 refine it rfl (E8 (C:=tC) (k:=16) (Φ':=[K6,P4,O0,M9]) N5 (.inl rfl) rfl rfl rfl 0 rfl ce ozw (B8 2 rfl) (B8 0 rfl) (A9.pick [3,4,5,6] rfl)) fun ⟨ae,d0⟩=>?_
 refine ip' 1 79 [(36,aE 139)] (it rfl (G7 (L2:=[(b,.map (B6 ae 0).toArray ae.length)]) (A9i (front:=([27]:List UInt8)) (signs:=([62,61]:List UInt8)) (first:=0) rfl oph) rfl rfl rfl rfl rfl bT (List.Perm.refl _) (fun cr=>[(b,.map (B6 ae 0).toArray ae.length)]) (fun _=>rfl)) fun cr=>?_)
 refine D7 (q:=N7 Tryz.prog (cr) (tC 14)) (tcv (B8 0 rfl)) ?_
 refine it rfl (E8 (C:=tC) (k:=14) (Φ':=[K6,P4,O0,M9]) N5 (.inl rfl) rfl rfl rfl 0 rfl d0 ozw (B8 2 rfl) (B8 0 rfl) (A9.pick [3,4,5,6] rfl)) fun ⟨dr,cf⟩=>?_
 refine D7 (q:=N7 Tryz.prog (aE 152) (tC 17)) (S8 (C:=tC 17) (fun args r i=>by obtain ⟨a,⟨g,h⟩,rfl,rfl⟩:=i;obtain ⟨k_,d,f,c,e⟩:=a;dsimp only at g;subst g;unfold B6a at h;dsimp only at h;rw [show A7r (⟨17,d,f,c,e⟩:Act)=(A5u (⟨17,d,f,c,e⟩:Act)) from rfl];exact C4.of (C5o (a:=(⟨17,d,f,c,e⟩:Act)) rfl otw) rfl bT) A9.refl) ?_
 refine it rfl (E8 (C:=tC) (k:=17) (Φ':=[K6,P4,O0,M9]) N5 (.inl rfl) rfl rfl rfl 0 rfl cf ozw (B8 1 rfl) (B8 0 rfl) (A9.pick [2,3,4,5] rfl)) fun ⟨a5,c5⟩=>?_
 refine ip' 1 75 [(38,aE 139)] (it rfl (G7 (L2:=[(b,.map (B6 a5 0).toArray a5.length)]) (A9i (front:=([27]:List UInt8)) (signs:=([78,79]:List UInt8)) (first:=2) rfl oph) rfl rfl rfl rfl rfl bT (List.Perm.refl _) (fun c7=>[(b,.map (B6 a5 0).toArray a5.length)]) (fun _=>rfl)) fun c7=>?_)
 refine D7 (q:=N7 Tryz.prog (c7) (tC 18)) (tcv (B8 0 rfl)) ?_
 refine it rfl (E8 (C:=tC) (k:=18) (Φ':=[K6,P4,O0,M9]) N5 (.inl rfl) rfl rfl rfl 0 rfl c5 ozw (B8 2 rfl) (B8 0 rfl) (A9.pick [3,4,5,6] rfl)) fun ⟨a4,co⟩=>?_
 refine ip' 1 72 [(40,aE 145)] (it rfl (G7 (L2:=[(b,.map (B6 a4 0).toArray a4.length)]) (A9q (signs:=([65,66,67,68]:List UInt8)) rfl oph) rfl rfl rfl rfl rfl (A9.pick [1] rfl) (List.Perm.refl _) (fun bl=>[(b,.map (B6 a4 0).toArray a4.length)]) (fun _=>rfl)) fun bl=>?_)
 refine D7 (q:=N7 Tryz.prog (bl) (tC 20)) (tcv (B8 0 rfl)) ?_
 refine it rfl (E8 (C:=tC) (k:=20) (Φ':=[K6,P4,O0,M9]) N5 (.inl rfl) rfl rfl rfl 0 rfl co ozw (B8 2 rfl) (B8 0 rfl) (A9.pick [3,4,5,6] rfl)) fun ⟨ak,ct⟩=>?_
 refine ip' 1 69 [(42,aE 145)] (it rfl (G7 (L2:=[(b,.map (B6 ak 0).toArray ak.length)]) (A9q (signs:=([69,70]:List UInt8)) rfl oph) rfl rfl rfl rfl rfl (A9.pick [1] rfl) (List.Perm.refl _) (fun c8=>[(b,.map (B6 ak 0).toArray ak.length)]) (fun _=>rfl)) fun c8=>?_)
 refine D7 (q:=N7 Tryz.prog (c8) (tC 21)) (tcv (B8 0 rfl)) ?_
 refine it rfl (E8 (C:=tC) (k:=21) (Φ':=[K6,P4,O0,M9]) N5 (.inl rfl) rfl rfl rfl 0 rfl ct ozw (B8 2 rfl) (B8 0 rfl) (A9.pick [3,4,5,6] rfl)) fun ⟨aj,cy⟩=>?_
 refine ip' 1 66 [(44,aE 145)] (it rfl (G7 (L2:=[(b,.map (B6 aj 0).toArray aj.length)]) (A9q (signs:=([83,84]:List UInt8)) rfl oph) rfl rfl rfl rfl rfl (A9.pick [1] rfl) (List.Perm.refl _) (fun cm=>[(b,.map (B6 aj 0).toArray aj.length)]) (fun _=>rfl)) fun cm=>?_)
 refine D7 (q:=N7 Tryz.prog (cm) (tC 33)) (tcv (B8 0 rfl)) ?_
 refine it rfl (E8 (C:=tC) (k:=33) (Φ':=[K6,P4,O0,M9]) N5 (.inl rfl) rfl rfl rfl 0 rfl cy ozw (B8 2 rfl) (B8 0 rfl) (A9.pick [3,4,5,6] rfl)) fun ⟨dt,cn⟩=>?_
 refine D7 (q:=N7 Tryz.prog (aE 153) (tC 19)) (S8 (C:=tC 19) (fun args r i=>by obtain ⟨a,⟨g,h⟩,rfl,rfl⟩:=i;obtain ⟨k_,d,f,c,e⟩:=a;dsimp only at g;subst g;unfold B6a at h;dsimp only at h;rw [show A7r (⟨19,d,f,c,e⟩:Act)=(A5p (⟨19,d,f,c,e⟩:Act)) from rfl];exact C4.of (C6h (a:=(⟨19,d,f,c,e⟩:Act)) rfl) rfl (A9.pick [1] rfl)) A9.refl) ?_
 refine it rfl (E8 (C:=tC) (k:=19) (Φ':=[K6,P4,O0,M9]) N5 (.inl rfl) rfl rfl rfl 0 rfl cn ozw (B8 1 rfl) (B8 0 rfl) (A9.pick [2,3,4,5] rfl)) fun ⟨a0,bo⟩=>?_
 refine ip' 1 62 [(46,aE 142)] (it rfl (G7 (L2:=[(b,.map (B6 a0 0).toArray a0.length)]) (K7 (none_:=1) (last:=([71]:List UInt8)) rfl oph) rfl rfl rfl rfl rfl (A9.pick [1] rfl) (List.Perm.refl _) (fun d6=>[(b,.map (B6 a0 0).toArray a0.length)]) (fun _=>rfl)) fun d6=>?_)
 refine D7 (q:=N7 Tryz.prog (d6) (tC 22)) (tcv (B8 0 rfl)) ?_
 refine it rfl (E8 (C:=tC) (k:=22) (Φ':=[K6,P4,O0,M9]) N5 (.inl rfl) rfl rfl rfl 0 rfl bo ozw (B8 2 rfl) (B8 0 rfl) (A9.pick [3,4,5,6] rfl)) fun ⟨a1,dc⟩=>?_
 refine ip' 1 59 [(48,aE 142)] (it rfl (G7 (L2:=[(b,.map (B6 a1 0).toArray a1.length)]) (K7 (none_:=1) (last:=([100]:List UInt8)) rfl oph) rfl rfl rfl rfl rfl (A9.pick [1] rfl) (List.Perm.refl _) (fun bm=>[(b,.map (B6 a1 0).toArray a1.length)]) (fun _=>rfl)) fun bm=>?_)
 refine D7 (q:=N7 Tryz.prog (bm) (tC 23)) (tcv (B8 0 rfl)) ?_
 refine it rfl (E8 (C:=tC) (k:=23) (Φ':=[K6,P4,O0,M9]) N5 (.inl rfl) rfl rfl rfl 0 rfl dc ozw (B8 2 rfl) (B8 0 rfl) (A9.pick [3,4,5,6] rfl)) fun ⟨ai,c3⟩=>?_
 refine ip' 1 56 [(50,aE 142)] (it rfl (G7 (L2:=[(b,.map (B6 ai 0).toArray ai.length)]) (K7 (none_:=1) (last:=([73]:List UInt8)) rfl oph) rfl rfl rfl rfl rfl (A9.pick [1] rfl) (List.Perm.refl _) (fun cj=>[(b,.map (B6 ai 0).toArray ai.length)]) (fun _=>rfl)) fun cj=>?_)
 refine D7 (q:=N7 Tryz.prog (cj) (tC 24)) (tcv (B8 0 rfl)) ?_
 refine it rfl (E8 (C:=tC) (k:=24) (Φ':=[K6,P4,O0,M9]) N5 (.inl rfl) rfl rfl rfl 0 rfl c3 ozw (B8 2 rfl) (B8 0 rfl) (A9.pick [3,4,5,6] rfl)) fun ⟨u,bp⟩=>?_
 refine ip' 1 53 [(52,aE 142)] (it rfl (G7 (L2:=[(b,.map (B6 u 0).toArray u.length)]) (K7 (none_:=1) (last:=([90]:List UInt8)) rfl oph) rfl rfl rfl rfl rfl (A9.pick [1] rfl) (List.Perm.refl _) (fun cs=>[(b,.map (B6 u 0).toArray u.length)]) (fun _=>rfl)) fun cs=>?_)
 refine D7 (q:=N7 Tryz.prog (cs) (tC 25)) (tcv (B8 0 rfl)) ?_
 refine it rfl (E8 (C:=tC) (k:=25) (Φ':=[K6,P4,O0,M9]) N5 (.inl rfl) rfl rfl rfl 0 rfl bp ozw (B8 2 rfl) (B8 0 rfl) (A9.pick [3,4,5,6] rfl)) fun ⟨am,cq⟩=>?_
 refine ip' 1 50 [(54,aE 142)] (it rfl (G7 (L2:=[(b,.map (B6 am 0).toArray am.length)]) (K7 (none_:=1) (last:=([64]:List UInt8)) rfl oph) rfl rfl rfl rfl rfl (A9.pick [1] rfl) (List.Perm.refl _) (fun cw=>[(b,.map (B6 am 0).toArray am.length)]) (fun _=>rfl)) fun cw=>?_)
 refine D7 (q:=N7 Tryz.prog (cw) (tC 28)) (tcv (B8 0 rfl)) ?_
 refine it rfl (E8 (C:=tC) (k:=28) (Φ':=[K6,P4,O0,M9]) N5 (.inl rfl) rfl rfl rfl 0 rfl cq ozw (B8 2 rfl) (B8 0 rfl) (A9.pick [3,4,5,6] rfl)) fun ⟨a3,cz⟩=>?_
 refine ip' 1 47 [(56,aE 142)] (it rfl (G7 (L2:=[(b,.map (B6 a3 0).toArray a3.length)]) (K7 (none_:=1) (last:=([80]:List UInt8)) rfl oph) rfl rfl rfl rfl rfl (A9.pick [1] rfl) (List.Perm.refl _) (fun bw=>[(b,.map (B6 a3 0).toArray a3.length)]) (fun _=>rfl)) fun bw=>?_)
 refine D7 (q:=N7 Tryz.prog (bw) (tC 29)) (tcv (B8 0 rfl)) ?_
 refine it rfl (E8 (C:=tC) (k:=29) (Φ':=[K6,P4,O0,M9]) N5 (.inl rfl) rfl rfl rfl 0 rfl cz ozw (B8 2 rfl) (B8 0 rfl) (A9.pick [3,4,5,6] rfl)) fun ⟨af,cc⟩=>?_
 refine ip' 1 44 [(58,aE 142)] (it rfl (G7 (L2:=[(b,.map (B6 af 0).toArray af.length)]) (K7 (none_:=1) (last:=([88]:List UInt8)) rfl oph) rfl rfl rfl rfl rfl (A9.pick [1] rfl) (List.Perm.refl _) (fun c2=>[(b,.map (B6 af 0).toArray af.length)]) (fun _=>rfl)) fun c2=>?_)
 refine D7 (q:=N7 Tryz.prog (c2) (tC 30)) (tcv (B8 0 rfl)) ?_
 refine it rfl (E8 (C:=tC) (k:=30) (Φ':=[K6,P4,O0,M9]) N5 (.inl rfl) rfl rfl rfl 0 rfl cc ozw (B8 2 rfl) (B8 0 rfl) (A9.pick [3,4,5,6] rfl)) fun ⟨an,cu⟩=>?_
 refine ip' 1 41 [(60,aE 142)] (it rfl (G7 (L2:=[(b,.map (B6 an 0).toArray an.length)]) (K7 (none_:=1) (last:=([76]:List UInt8)) rfl oph) rfl rfl rfl rfl rfl (A9.pick [1] rfl) (List.Perm.refl _) (fun d2=>[(b,.map (B6 an 0).toArray an.length)]) (fun _=>rfl)) fun d2=>?_)
 refine D7 (q:=N7 Tryz.prog (d2) (tC 31)) (tcv (B8 0 rfl)) ?_
 refine it rfl (E8 (C:=tC) (k:=31) (Φ':=[K6,P4,O0,M9]) N5 (.inl rfl) rfl rfl rfl 0 rfl cu ozw (B8 2 rfl) (B8 0 rfl) (A9.pick [3,4,5,6] rfl)) fun ⟨ah,d8⟩=>?_
 refine ip' 1 38 [(62,aE 142)] (it rfl (G7 (L2:=[(b,.map (B6 ah 0).toArray ah.length)]) (K7 (none_:=1) (last:=([77]:List UInt8)) rfl oph) rfl rfl rfl rfl rfl (A9.pick [1] rfl) (List.Perm.refl _) (fun db=>[(b,.map (B6 ah 0).toArray ah.length)]) (fun _=>rfl)) fun db=>?_)
 refine D7 (q:=N7 Tryz.prog (db) (tC 32)) (tcv (B8 0 rfl)) ?_
 refine it rfl (E8 (C:=tC) (k:=32) (Φ':=[K6,P4,O0,M9]) N5 (.inl rfl) rfl rfl rfl 0 rfl d8 ozw (B8 2 rfl) (B8 0 rfl) (A9.pick [3,4,5,6] rfl)) fun ⟨ad,ck⟩=>?_
 refine ip' 1 35 [(64,aE 142)] (it rfl (G7 (L2:=[(b,.map (B6 ad 0).toArray ad.length)]) (K7 (none_:=1) (last:=([98]:List UInt8)) rfl oph) rfl rfl rfl rfl rfl (A9.pick [1] rfl) (List.Perm.refl _) (fun c6=>[(b,.map (B6 ad 0).toArray ad.length)]) (fun _=>rfl)) fun c6=>?_)
 refine D7 (q:=N7 Tryz.prog (c6) (tC 34)) (tcv (B8 0 rfl)) ?_
 refine it rfl (E8 (C:=tC) (k:=34) (Φ':=[K6,P4,O0,M9]) N5 (.inl rfl) rfl rfl rfl 0 rfl ck ozw (B8 2 rfl) (B8 0 rfl) (A9.pick [3,4,5,6] rfl)) fun ⟨ab,bn⟩=>?_
 refine ip' 1 32 [(66,aE 142)] (it rfl (G7 (L2:=[(b,.map (B6 ab 0).toArray ab.length)]) (K7 (none_:=0) (last:=([74]:List UInt8)) rfl oph) rfl rfl rfl rfl rfl (A9.pick [1] rfl) (List.Perm.refl _) (fun d4=>[(b,.map (B6 ab 0).toArray ab.length)]) (fun _=>rfl)) fun d4=>?_)
 refine D7 (q:=N7 Tryz.prog (d4) (tC 26)) (tcv (B8 0 rfl)) ?_
 refine it rfl (E8 (C:=tC) (k:=26) (Φ':=[K6,P4,O0,M9]) N5 (.inl rfl) rfl rfl rfl 0 rfl bn ozw (B8 2 rfl) (B8 0 rfl) (A9.pick [3,4,5,6] rfl)) fun ⟨a6,d5⟩=>?_
 refine ip' 1 29 [(68,aE 142)] (it rfl (G7 (L2:=[(b,.map (B6 a6 0).toArray a6.length)]) (K7 (none_:=0) (last:=([75]:List UInt8)) rfl oph) rfl rfl rfl rfl rfl (A9.pick [1] rfl) (List.Perm.refl _) (fun bj=>[(b,.map (B6 a6 0).toArray a6.length)]) (fun _=>rfl)) fun bj=>?_)
 refine D7 (q:=N7 Tryz.prog (bj) (tC 27)) (tcv (B8 0 rfl)) ?_
 refine it rfl (E8 (C:=tC) (k:=27) (Φ':=[K6,P4,O0,M9]) N5 (.inl rfl) rfl rfl rfl 0 rfl d5 ozw (B8 2 rfl) (B8 0 rfl) (A9.pick [3,4,5,6] rfl)) fun ⟨a7,b6⟩=>?_
 refine ip' 1 26 [(70,aE 142)] (it rfl (G7 (L2:=[(b,.map (B6 a7 0).toArray a7.length)]) (K7 (none_:=0) (last:=([103]:List UInt8)) rfl oph) rfl rfl rfl rfl rfl (A9.pick [1] rfl) (List.Perm.refl _) (fun av=>[(b,.map (B6 a7 0).toArray a7.length)]) (fun _=>rfl)) fun av=>?_)
 refine D7 (q:=N7 Tryz.prog (av) (tC 35)) (tcv (B8 0 rfl)) ?_
 refine it rfl (E8 (C:=tC) (k:=35) (Φ':=[K6,P4,O0,M9]) N5 (.inl rfl) rfl rfl rfl 0 rfl b6 ozw (B8 2 rfl) (B8 0 rfl) (A9.pick [3,4,5,6] rfl)) fun ⟨m,b3⟩=>?_
 refine ip' 1 23 [(72,aE 142)] (it rfl (G7 (L2:=[(b,.map (B6 m 0).toArray m.length)]) (K7 (none_:=0) (last:=([32,113]:List UInt8)) rfl oph) rfl rfl rfl rfl rfl (A9.pick [1] rfl) (List.Perm.refl _) (fun ay=>[(b,.map (B6 m 0).toArray m.length)]) (fun _=>rfl)) fun ay=>?_)
 refine D7 (q:=N7 Tryz.prog (ay) (tC 40)) (tcv (B8 0 rfl)) ?_
 refine it rfl (E8 (C:=tC) (k:=40) (Φ':=[K6,P4,O0,M9]) N5 (.inl rfl) rfl rfl rfl 0 rfl b3 ozw (B8 2 rfl) (B8 0 rfl) (A9.pick [3,4,5,6] rfl)) fun ⟨n,bc⟩=>?_
 refine ip' 1 20 [(74,aE 148)] (it rfl (G7 (L2:=[(b,.map (B6 n 0).toArray n.length)]) (B5p (front:=([]:List UInt8)) rfl oph) rfl rfl rfl rfl rfl (A9.pick [1] rfl) (List.Perm.refl _) (fun az=>[(b,.map (B6 n 0).toArray n.length)]) (fun _=>rfl)) fun az=>?_)
 refine D7 (q:=N7 Tryz.prog (az) (tC 36)) (tcv (B8 0 rfl)) ?_
 refine it rfl (E8 (C:=tC) (k:=36) (Φ':=[K6,P4,O0,M9]) N5 (.inl rfl) rfl rfl rfl 0 rfl bc ozw (B8 2 rfl) (B8 0 rfl) (A9.pick [3,4,5,6] rfl)) fun ⟨o,bg⟩=>?_
 refine ip' 1 17 [(76,aE 148)] (it rfl (G7 (L2:=[(b,.map (B6 o 0).toArray o.length)]) (B5p (front:=([63]:List UInt8)) rfl oph) rfl rfl rfl rfl rfl (A9.pick [1] rfl) (List.Perm.refl _) (fun ax=>[(b,.map (B6 o 0).toArray o.length)]) (fun _=>rfl)) fun ax=>?_)
 refine D7 (q:=N7 Tryz.prog (ax) (tC 37)) (tcv (B8 0 rfl)) ?_
 refine it rfl (E8 (C:=tC) (k:=37) (Φ':=[K6,P4,O0,M9]) N5 (.inl rfl) rfl rfl rfl 0 rfl bg ozw (B8 2 rfl) (B8 0 rfl) (A9.pick [3,4,5,6] rfl)) fun ⟨dj,b2⟩=>?_
 refine D7 (q:=N7 Tryz.prog (aE 154) (tC 38)) (S8 (C:=tC 38) (fun args r i=>by obtain ⟨a,⟨g,h⟩,rfl,rfl⟩:=i;obtain ⟨k_,d,f,c,e⟩:=a;dsimp only at g;subst g;unfold B6a at h;dsimp only at h;rw [show A7r (⟨38,d,f,c,e⟩:Act)=(A4j (⟨38,d,f,c,e⟩:Act)) from rfl];exact C4.of (C3t (a:=(⟨38,d,f,c,e⟩:Act)) rfl) rfl (A9.pick [1] rfl)) A9.refl) ?_
 refine it rfl (E8 (C:=tC) (k:=38) (Φ':=[K6,P4,O0,M9]) N5 (.inl rfl) rfl rfl rfl 0 rfl b2 ozw (B8 1 rfl) (B8 0 rfl) (A9.pick [2,3,4,5] rfl)) fun ⟨j,bb⟩=>?_
 refine ip' 1 13 [(78,aE 142)] (it rfl (G7 (L2:=[(b,.map (B6 j 0).toArray j.length)]) (K7 (none_:=(-2)) (last:=([110]:List UInt8)) rfl oph) rfl rfl rfl rfl rfl (A9.pick [1] rfl) (List.Perm.refl _) (fun aw=>[(b,.map (B6 j 0).toArray j.length)]) (fun _=>rfl)) fun aw=>?_)
 refine D7 (q:=N7 Tryz.prog (aw) (tC 41)) (tcv (B8 0 rfl)) ?_
 refine it rfl (E8 (C:=tC) (k:=41) (Φ':=[K6,P4,O0,M9]) N5 (.inl rfl) rfl rfl rfl 0 rfl bb ozw (B8 2 rfl) (B8 0 rfl) (A9.pick [3,4,5,6] rfl)) fun ⟨dh,b8⟩=>?_
 refine D7 (q:=N7 Tryz.prog (aE 155) (tC 42)) (S8 (C:=tC 42) (fun args r i=>by obtain ⟨a,⟨g,h⟩,rfl,rfl⟩:=i;obtain ⟨k_,d,f,c,e⟩:=a;dsimp only at g;subst g;unfold B6a at h;dsimp only at h;rw [show A7r (⟨42,d,f,c,e⟩:Act)=(A4a (⟨42,d,f,c,e⟩:Act)) from rfl];exact C4.of (C4h (a:=(⟨42,d,f,c,e⟩:Act)) rfl otw) rfl bT) A9.refl) ?_
 refine it rfl (E8 (C:=tC) (k:=42) (Φ':=[K6,P4,O0,M9]) N5 (.inl rfl) rfl rfl rfl 0 rfl b8 ozw (B8 1 rfl) (B8 0 rfl) (A9.pick [2,3,4,5] rfl)) fun ⟨dg,bd⟩=>?_
 refine D7 (q:=N7 Tryz.prog (aE 156) (tC 43)) (S8 (C:=tC 43) (fun args r i=>by obtain ⟨a,⟨g,h⟩,rfl,rfl⟩:=i;obtain ⟨k_,d,f,c,e⟩:=a;dsimp only at g;subst g;unfold B6a at h;dsimp only at h;rw [show A7r (⟨43,d,f,c,e⟩:Act)=(A4k (⟨43,d,f,c,e⟩:Act)) from rfl];exact C4.of (C3m (a:=(⟨43,d,f,c,e⟩:Act)) rfl otw) rfl (A9.pick [1] rfl)) A9.refl) ?_
 refine it rfl (E8 (C:=tC) (k:=43) (Φ':=[K6,P4,O0,M9]) N5 (.inl rfl) rfl rfl rfl 0 rfl bd ozw (B8 1 rfl) (B8 0 rfl) (A9.pick [2,3,4,5] rfl)) fun ⟨di,be⟩=>?_
 refine D7 (q:=N7 Tryz.prog (aE 157) (tC 39)) (S8 (C:=tC 39) (fun args r i=>by obtain ⟨a,⟨g,h⟩,rfl,rfl⟩:=i;obtain ⟨k_,d,f,c,e⟩:=a;dsimp only at g;subst g;unfold B6a at h;dsimp only at h;rw [show A7r (⟨39,d,f,c,e⟩:Act)=(A3y (⟨39,d,f,c,e⟩:Act)) from rfl];exact C4.of (C4g (a:=(⟨39,d,f,c,e⟩:Act)) rfl) rfl (A9.pick [2,1] rfl)) A9.refl) ?_
 refine it rfl (E8 (C:=tC) (k:=39) (Φ':=[K6,P4,O0,M9]) N5 (.inl rfl) rfl rfl rfl 0 rfl be ozw (B8 1 rfl) (B8 0 rfl) (A9.pick [2,3,4,5] rfl)) fun ⟨dk,b7⟩=>?_
 refine ip' 1 7 [(80,aE 147)] (D7 (q:=N7 Tryz.prog (aE 147) (tC 44)) (S8 (C:=tC 44) (fun args r i=>by obtain ⟨a,⟨g,h⟩,rfl,rfl⟩:=i;obtain ⟨k_,d,f,c,e⟩:=a;dsimp only at g;subst g;unfold B6a at h;dsimp only at h;rw [show A7r (⟨44,d,f,c,e⟩:Act)=(A5l d f c e) from rfl];exact C4.of (C5z d f c e opx _ rfl) rfl bT) A9.refl) ?_)
 refine it rfl (E8 (C:=tC) (k:=44) (Φ':=[K6,P4,O0,M9]) N5 (.inl rfl) rfl rfl rfl 0 rfl b7 ozw (B8 1 rfl) (B8 0 rfl) (A9.pick [2,3,4,5] rfl)) fun ⟨dn,b9⟩=>?_
 refine ip' 1 5 [(81,aE 147)] (D7 (q:=N7 Tryz.prog (aE 147) (tC 45)) (S8 (C:=tC 45) (fun args r i=>by obtain ⟨a,⟨g,h⟩,rfl,rfl⟩:=i;obtain ⟨k_,d,f,c,e⟩:=a;dsimp only at g;subst g;unfold B6a at h;dsimp only at h;rw [show A7r (⟨45,d,f,c,e⟩:Act)=(A4p d f c e) from rfl];exact C4.of (C4s d f c e opx _ rfl) rfl (A9.pick [3,4,1] rfl)) A9.refl) ?_)
 refine it rfl (E8 (C:=tC) (k:=45) (Φ':=[K6,P4,O0,M9]) N5 (.inl rfl) rfl rfl rfl 0 rfl b9 ozw (B8 1 rfl) (B8 0 rfl) (A9.pick [2,3,4,5] rfl)) fun ⟨dq,b4⟩=>?_
 refine ip' 1 3 [(82,aE 147)] (D7 (q:=N7 Tryz.prog (aE 147) (tC 46)) (S8 (C:=tC 46) (fun args r i=>by obtain ⟨a,⟨g,h⟩,rfl,rfl⟩:=i;obtain ⟨k_,d,f,c,e⟩:=a;dsimp only at g;subst g;unfold B6a at h;dsimp only at h;rw [show A7r (⟨46,d,f,c,e⟩:Act)=(A4n d f c e) from rfl];exact C4.of (C4k d f c e opx _ rfl) rfl bT) A9.refl) ?_)
 refine it rfl (E8 (C:=tC) (k:=46) (Φ':=[K6,P4,O0,M9]) N5 (.inl rfl) rfl rfl rfl 0 rfl b4 ozw (B8 1 rfl) (B8 0 rfl) (A9.pick [2,3,4,5] rfl)) fun ⟨b5,ba⟩=>?_
 refine ip' 2 0 [(0,.map (some b))] ?_
 subst hR
 refine ie (A8 ?_)
 exact cD hr hD (N4 rfl (B0 rfl)) ⟨(b,b5),ba⟩ (mk [true] rfl) (A9.con1 (B8 0 rfl) bT)
end Go.Proofs.YtfcdnnheppnbaaaGreatDoor
