import Derived.Test.YtanighkpfmgnbaaGreatDoorProg
import Derived.Test.YtanighkpfmgnbaaGreatDoorMA2
import Derived.Test.YtanighkpfmgnbaaGreatDoorMB1
import Derived.Test.YtanighkpfmgnbaaGreatDoorMA3
set_option linter.unusedVariables false
set_option linter.unusedSimpArgs false
set_option linter.unnecessarySimpa false
set_option maxRecDepth 100000
namespace Go.Proofs.YtanighkpfmgnbaaGreatDoor
open Go Go.Fen
def J8:List UInt8:=[48,49,50,51,52,53,54,55,56,57,97,98,99,100,101,102,103,104,105,106,107,108,109,110,111,112,113,114,115,116,117,118,119,120,121,122]
def C1q:List UInt8:=[65,66,67,68,69,70,71,72,73,74,75,76,77,78,79,80,81,82,83,84,85,86,87,88,89,90,97,98,99,100,101,102,103,104,105,106,107,108,109,110,111,112,113,114,115,116,117,118,119,120,121,122,48,49,50,51,52,53,54,55,56,57,43,47]
theorem P4:MapTy Tryz.prog 78 3 82 (.int .i64):=⟨by kernel_rfl,by kernel_rfl,rfl⟩
theorem C0t:MapTy Tryz.prog 197 3 81 (.int .i64):=⟨by kernel_rfl,by kernel_rfl,rfl⟩
theorem E9h:Ty Tryz.prog 92 1 false:=⟨by kernel_rfl⟩
def A3t (a:Act):List UInt8 :=
 (B5 (B1k a.n) fun (y17:List UInt8)=>y17)
theorem C1d (a:Act) (R:List UInt8) (hR:A3t a=R):K5 Tryz.prog 80 [ag (A5 a)] [] (sv R):=by
 refine zco Tryz.func80 [(0,ag (A5 a))] fun X hX hr hD=>?_
 replace hR:=(A3t.eq_1 ..).symm.trans hR
 refine sr 2 rfl (P1 2 0 [] (fun b1=>[(1,pt b1 0)]) (fun b1=>[bx b1 (A5 a) 26]) (fun b1=>(ie (sr 4 rfl (zrl 2 2 [0] [(4,iv a.n)] ?_)))))
 have hQ:=C9 hR;clear hR;obtain ⟨y17,hy17,hR⟩:=hQ
 refine zca (C7k a.n y17 hy17) fn0 ?_
 have:=B4x a.n;try rw [hy17] at this
 refine ip' 1 0 [(2,sv y17)] ?_
 subst hR
 refine ie (B0 ?_)
 exact F8 hr hD
def G9 (p0:Act) (p1:List UInt8):List UInt8 :=
 p1
theorem B8c (p0:Act) (p1:List UInt8) (p1p:Addr) (R:List UInt8) (hR:G9 p0 p1=R):K5 Tryz.prog 68 [ag (A5 p0),pa p1p] [at_ p1p [sv p1]] (sv R):=by
 refine zco Tryz.func68 [(0,ag (A5 p0)),(1,pa p1p)] fun X hX hr hD=>?_
 replace hR:=(G9.eq_1 ..).symm.trans hR
 refine sr 2 rfl (P1 2 0 [] (fun b1=>[]) (fun b1=>[bx b1 (A5 p0) 26]) (fun b1=>(ie (sr 2 rfl (ix rfl (C4 (v:=sv p1) (us:=[sv p1]) ty9 rfl rfl (A1 0 rfl) rfl) (ip' 1 0 [(3,sv p1)] ?_))))))
 subst hR
 refine ie (B0 ?_)
 exact F8 hr hD
def C2t (pre:Act→Prop) (f:Act→List UInt8):List Value→Value→Prop:=fun args r=>∃ a:Act,pre a∧args=[ag (A5 a)]∧r=sv (f a)
def B5r (s:List UInt8):Unit :=
 ()
theorem L7 (s:List UInt8) (R:Unit) (hR:B5r s=R):Con Tryz.prog 67 [sv s] [] [] (Value) (fun x=>x) (fun x=>[]) (fun x=>[M1 Tryz.prog (x) (C2t (fun _=>True) (fun a=>(G9 a s)))]):=by
 refine zco Tryz.func67 [(0,sv s)] fun X hX hr hD=>?_
 replace hR:=(B5r.eq_1 ..).symm.trans hR
 refine sr 2 rfl (it rfl (Z5 (cs:=[sv s]) rfl rfl rfl) fun b1=>?_)
 refine A2u 0 rfl ?_
 refine ip' 1 0 [] (ie (sr 2 rfl (ip' 2 0 [(2,.func (.func 68) #[] #[pa ⟨b1,0,none⟩])] (ie (B3w (q:=M1 Tryz.prog (.func (.func 68) #[] #[pa ⟨b1,0,none⟩]) (C2t (fun _=>True) (fun a=>(G9 a s)))) (P6 (fun args r hC=>by obtain ⟨a,ha,rfl,rfl⟩:=hC;exact B9.of (B8c a s ⟨b1,0,none⟩ _ rfl) rfl A0.refl) A0.refl) ?_)))))
 subst hR
 refine B0 ?_
 exact zer hr hD (O3 rfl (B8 rfl)) (.func (.func 68) #[] #[pa ⟨b1,0,none⟩]:Value) (mk [] rfl) (A0.con1 (A1 0 rfl) fn0)
def A1u (s:List UInt8) (n:Int):List UInt8 :=
 ((s.drop ((n).toNat)).take (((n).toNat+1) - ((n).toNat)))
theorem A5b (s:List UInt8) (n:Int) (hn:0≤n):(A1u s n).length≤1:=by
 unfold A1u;simp only [List.length_take,List.length_drop];omega
theorem A8c (s:List UInt8) (n:Int) (hn:0≤n∧n<(s.length:Int)) (hs:s.length≤1000) (R:List UInt8) (hR:A1u s n=R):K5 Tryz.prog 71 [sv s,iv n] [] (sv R):=by
 refine zco Tryz.func71 [(0,sv s),(1,iv n)] fun X hX hr hD=>?_
 replace hR:=(A1u.eq_1 ..).symm.trans hR
 refine sr 1 rfl (ip' 1 0 [] (ie (sr 6 rfl (ip' 3 3 [(5,sv s),(6,iv n),(7,iv n)] (ix rfl (B6 rfl rfl rfl rfl (by omega)) (ix rfl (C5a (T:=9) Tryz.underlying9 rfl rfl rfl rfl ((n).toNat) (by omega) ((n).toNat+1) (by omega) (by omega) (by omega)) ?_))))))
 have:=@List.length_drop _ ((n).toNat) s
 have:=@List.length_take _ (((n).toNat+1) - ((n).toNat)) (s.drop ((n).toNat))
 refine ip' 1 0 [(4,sv ((s.drop ((n).toNat)).take (((n).toNat+1) - ((n).toNat))))] ?_
 subst hR
 refine ie (B0 ?_)
 exact F8 hr hD
def U7 (a:Act) (p1:List UInt8) (p2:List UInt8) (p3:Int):List UInt8 :=
 (B5 (A1u p2 (a.n - p3)) fun (y2:List UInt8)=>(p1++y2))
theorem B8d (a:Act) (p1:List UInt8) (p2:List UInt8) (p3:Int) (p1p:Addr) (p2p:Addr) (p3p:Addr) (ha:p3≤a.n∧a.n - p3<(p2.length:Int)) (hq:p1.length≤1000∧p2.length≤1000∧0≤p3∧p3≤1000) (R:List UInt8) (hR:U7 a p1 p2 p3=R):K5 Tryz.prog 70 [ag (A5 a),pa p1p,pa p2p,pa p3p] [at_ p1p [sv p1],at_ p2p [sv p2],at_ p3p [iv p3]] (sv R):=by
 refine zco Tryz.func70 [(0,ag (A5 a)),(1,pa p1p),(2,pa p2p),(3,pa p3p)] fun X hX hr hD=>?_
 replace hR:=(U7.eq_1 ..).symm.trans hR
 refine sr 2 rfl (P1 2 0 [] (fun b1=>[(4,pt b1 0)]) (fun b1=>[bx b1 (A5 a) 26]) (fun b1=>(ie (sd 9 rfl (by kernel_rfl) rfl (dd rfl (C4 (v:=sv p1) (us:=[sv p1]) ty9 rfl rfl (A1 0 rfl) rfl) (dd rfl (C4 (v:=sv p2) (us:=[sv p2]) ty9 rfl rfl (A1 1 rfl) rfl) ?_))))))
 refine zdg 2 5 [0] [(9,iv a.n)] ?_
 refine dd rfl (C4 (v:=iv p3) (us:=[iv p3]) ty3 rfl rfl (A1 2 rfl) rfl) (dd rfl (M6 rfl rfl rfl rfl (by omega)) ?_)
 have hQ:=C9 hR;clear hR;obtain ⟨y2,hy2,hR⟩:=hQ
 refine zcd (A8c p2 (a.n - p3) (by first|omega|(simp<;>omega)) (by first|omega|(simp<;>omega)) y2 hy2) fn0 ?_
 have:=A5b p2 (a.n - p3) (by omega);try rw [hy2] at this
 refine dd rfl (zst rfl rfl rfl) ?_
 have:=@List.length_append _ p1 y2
 refine dp' 1 0 [(5,sv (p1++y2))] ?_
 subst hR
 refine de (B0 ?_)
 exact F8 hr hD
def B4s (front:List UInt8) (signs:List UInt8) (first:Int):Unit :=
 ()
theorem A7k (front:List UInt8) (signs:List UInt8) (first:Int) (hq:front.length≤1000∧signs.length≤1000∧0≤first∧first≤1000) (R:Unit) (hR:B4s front signs first=R):Con Tryz.prog 69 [sv front,sv signs,iv first] [] [] (Value) (fun x=>x) (fun x=>[]) (fun x=>[M1 Tryz.prog (x) (C2t (fun a=>first≤a.n∧a.n - first<(signs.length:Int)) (fun a=>(U7 a front signs first)))]):=by
 refine zco Tryz.func69 [(0,sv front),(1,sv signs),(2,iv first)] fun X hX hr hD=>?_
 replace hR:=(B4s.eq_1 ..).symm.trans hR
 refine sr 4 rfl (it rfl (Z5 (cs:=[sv front]) rfl rfl rfl) fun b1=>?_)
 refine A2u 0 rfl ?_
 refine it rfl (Z5 (cs:=[sv signs]) rfl rfl rfl) fun b2=>?_
 refine A2u 0 rfl ?_
 refine it rfl (Z5 (cs:=[iv first]) rfl rfl rfl) fun b3=>?_
 refine A2u 0 rfl ?_
 refine ip' 1 0 [] (ie (sr 2 rfl (ip' 2 0 [(6,.func (.func 70) #[] #[pa ⟨b1,0,none⟩,pa ⟨b2,0,none⟩,pa ⟨b3,0,none⟩])] (ie (B3w (q:=M1 Tryz.prog (.func (.func 70) #[] #[pa ⟨b1,0,none⟩,pa ⟨b2,0,none⟩,pa ⟨b3,0,none⟩]) (C2t (fun a=>first≤a.n∧a.n - first<(signs.length:Int)) (fun a=>(U7 a front signs first)))) (P6 (fun args r hC=>by obtain ⟨a,ha,rfl,rfl⟩:=hC;exact B9.of (B8d a front signs first ⟨b1,0,none⟩ ⟨b2,0,none⟩ ⟨b3,0,none⟩ (by exact ha) (by exact hq) _ rfl) rfl (A0.pick [2,1,0] rfl)) A0.refl) ?_)))))
 subst hR
 refine B0 ?_
 exact zer hr hD (O3 rfl (B8 rfl)) (.func (.func 70) #[] #[pa ⟨b1,0,none⟩,pa ⟨b2,0,none⟩,pa ⟨b3,0,none⟩]:Value) (mk [] rfl) (A0.con1 (A1 0 rfl) fn0)
def A3o (a:Act):List UInt8 :=
 (B5 (A1u ([40,41,42,43]:List UInt8) a.n) fun (y2:List UInt8)=>(B5 (A1u ([66,48]:List UInt8) a.m) fun (y15:List UInt8)=>((([27]:List UInt8)++y2)++y15)))
theorem C0v (a:Act) (ha:(0≤a.n∧a.n≤3)∧0≤a.m∧a.m≤1) (R:List UInt8) (hR:A3o a=R):K5 Tryz.prog 82 [ag (A5 a)] [] (sv R):=by
 refine zco Tryz.func82 [(0,ag (A5 a))] fun X hX hr hD=>?_
 replace hR:=(A3o.eq_1 ..).symm.trans hR
 refine sr 2 rfl (P1 2 0 [] (fun b1=>[(1,pt b1 0)]) (fun b1=>[bx b1 (A5 a) 26]) (fun b1=>(ie (sd 9 rfl (by kernel_rfl) rfl ?_))))
 refine zdg 2 7 [0] [(4,iv a.n)] ?_
 have hQ:=C9 hR;clear hR;obtain ⟨y2,hy2,hR⟩:=hQ
 refine zcd (A8c ([40,41,42,43]:List UInt8) a.n (by first|omega|(simp<;>omega)) (by first|omega|(simp<;>omega)) y2 hy2) fn0 ?_
 have:=A5b ([40,41,42,43]:List UInt8) a.n (by omega);try rw [hy2] at this
 refine dd rfl (zst rfl rfl rfl) ?_
 refine zdg 2 3 [0] [(8,iv a.m)] ?_
 have hQ:=C9 hR;clear hR;obtain ⟨y15,hy15,hR⟩:=hQ
 refine zcd (A8c ([66,48]:List UInt8) a.m (by first|omega|(simp<;>omega)) (by first|omega|(simp<;>omega)) y15 hy15) fn0 ?_
 have:=A5b ([66,48]:List UInt8) a.m (by omega);try rw [hy15] at this
 refine dd rfl (zst rfl rfl rfl) (dp' 1 0 [(2,sv ((([27]:List UInt8)++y2)++y15))] ?_)
 subst hR
 refine de (B0 ?_)
 exact F8 hr hD
def U4 (l:List Int) (t12:Nat) (ag_emit_row_l3:List (List Int)→Nat→List UInt8):Nat→List (List Int)→List UInt8
 | 0,_=>[]
 | fu1+1,out1=>(bif (decide ((out1.length:Int)<(t12:Int))) then U4 l t12 ag_emit_row_l3 fu1 (out1++([([(-1)]:List Int)]:List (List Int))) else ag_emit_row_l3 (out1++([([(l.getD t12 0)]:List Int)]:List (List Int))) (t12+1))
def J4 (none_:Int) (l:List Int):List Int→List (List Int)→Nat→List UInt8
 | [],out,t12=>(B5 (N8 out) fun (y8:List UInt8×Int)=>y8.1)
 | hd_l3::tl_l3,out,t12=>(bif (decide (hd_l3=none_)) then J4 none_ l tl_l3 out (t12+1) else U4 l t12 (J4 none_ l tl_l3) ((t12 - out.length)+1) out)
def O8 (none_:Int) (l:List Int):List UInt8 :=
 J4 none_ l l ([]:List (List Int)) 0
theorem B4f (l:List Int) (t12:Nat) (ag:List (List Int)→Nat→List UInt8) (hag:∀ o t,(ag o t).length≤2112):∀ (fu:Nat) (o:List (List Int)),(U4 l t12 ag fu o).length≤2112
 | 0,o=>by simp [U4]
 | fu+1,o=>by
  rw [U4]
  cases decide ((o.length:Int)<(t12:Int)) with
  | true=>exact B4f l t12 ag hag fu _
  | false=>exact hag _ _
theorem A8s (none_:Int) (l:List Int):∀ (r:List Int) (o:List (List Int)) (t:Nat),(J4 none_ l r o t).length≤2112
 | [],o,t=>A5j o
 | x::r,o,t=>by
  rw [J4]
  cases decide (x=none_) with
  | true=>exact A8s none_ l r o (t+1)
  | false=>exact B4f l t _ (A8s none_ l r) _ _
theorem A2o (none_:Int) (l:List Int):(O8 none_ l).length≤2112:=A8s none_ l l [] 0
theorem A7o (none_:Int) (l:List Int) (lq:Option Addr) (lk:Nat) (hll:l.length≤9223372036854775807) (hcl:l.length≤lk) (hl4:l.length≤4) (R:List UInt8) (hR:O8 none_ l=R):K5 Tryz.prog 74 [iv none_,.slice lq l.length lk] [sl I8 lq l,M3] (sv R):=by
 refine zco Tryz.func74 [(0,iv none_),(1,.slice lq l.length lk)] fun X hX hr hD=>?_
 replace hR:=(O8.eq_1 ..).symm.trans hR
 refine sr 1 rfl (ip' 1 0 [] (ie (sr 1 rfl (ip' 1 0 [(5,.slice none 0 0)] (ie (A7 (sr 3 rfl (ip' 3 0 [(10,.slice lq l.length lk),(11,iv (l.length:Int)),(12,iv 0)] (ie (B2 ?_))))))))))
 refine B7z (fun (out:List (List Int)) (outr:VR) (outrs:List Slc) (t12:Nat)=>(t12≤l.length∧J4 none_ l (l.drop t12) out t12=R∧VOk 1 out.length outr∧B7 outrs out∧out.length≤t12,[(0,iv none_),(5,.slice (va outr.q) out.length outr.k),(10,.slice lq l.length lk),(11,iv (l.length:Int)),(12,iv (t12:Int))],((vo D0 208 outr outrs)++([])),[sl I8 lq l,M3,F3 I8 outrs out],l.length - t12)) ([]:List (List Int)) VR.nil ([]:List Slc) 0 ⟨(by omega),hR,VOk.nil,B7.none,(by simp)⟩ (mc [vo D0 208 VR.nil ([]:List Slc)] [true] rfl (by first|rfl|(simp only [List.length_set]<;>rfl))) (A0.con1 (A1 0 rfl) (A0.con1 (A1 1 rfl) (A0.con1 H9 fn0))) ?_
 rintro out outr outrs t12 ⟨hm1,hR,hokoutr,hrowsoutrs,ho⟩
 have:=VOk.le hokoutr
 have:=hrowsoutrs.1
 refine sr 1 rfl (ip' 1 0 [(13,bv (decide ((t12:Int)<(l.length:Int))))] ?_)
 refine ie (A7 (I9 rfl (fun h2=>?_) (fun h2=>?_)))
 ·have h2p:(t12:Int)<(l.length:Int):=by simpa using h2
  rw [A4r 0 (show t12<l.length by omega)] at hR;replace hR:=(J4.eq_2 ..).symm.trans hR
  refine A9 (nx (A7 (B2 (sr 5 rfl (ip' 1 4 [(14,iv (t12:Int))] (P3 0 rfl (by omega) fun a3 hq4=>(ix rfl (N0 L8 rfl rfl hq4 rfl t12 rfl (by omega)) (ix rfl (C4 (v:=iv (l.getD t12 0)) (us:=[iv (l.getD t12 0)]) ty3 rfl rfl (O4 (c:=I8) (sz:=1) hq4 (fun _=>rfl) 0 rfl (gd 0 (by omega))) rfl) (ip' 2 0 [(6,iv (t12:Int)),(7,iv (l.getD t12 0))] (ie (A7 (sr 3 rfl (ip' 3 0 [(19,bv (decide ((l.getD t12 0)=none_)))] (ie ?_))))))))))))))
  refine zjd rfl hR ?_ ?_<;>clear hR<;>intro hR h5 h5p
  ·refine J1 (nx (A3 2 rfl (ix rfl (B6 rfl rfl rfl rfl (by omega)) ?_)))
   refine ip' 1 0 [(12,iv ((t12:Int)+1))] (A6 ?_)
   exact B3p (z1:=out) (z2:=outr) (z3:=outrs) (z4:=t12) out outr outrs (t12+1) ⟨(by omega),hR,hokoutr,hrowsoutrs,(by first|omega|(simp<;>omega))⟩ (by (try dsimp only);omega) (mc [vo D0 208 outr outrs] [true] rfl (by first|rfl|(simp only [List.length_set]<;>rfl))) A0.refl
  refine A9 (nx (A7 (B2 ?_)))
  refine B7z (fun (fu:Nat) (out1:List (List Int)) (outr1:VR) (outrs1:List Slc)=>((t12 - out1.length)<fu∧U4 l t12 (J4 none_ l (l.drop (t12+1))) fu out1=R∧VOk 1 out1.length outr1∧B7 outrs1 out1∧out1.length≤t12,[(0,iv none_),(5,.slice (va outr1.q) out1.length outr1.k),(6,iv (t12:Int)),(7,iv (l.getD t12 0)),(10,.slice lq l.length lk),(11,iv (l.length:Int)),(12,iv (t12:Int))],((vo D0 208 outr1 outrs1)++([])),[sl I8 lq l,M3,F3 I8 outrs out,F3 I8 outrs1 out1],fu)) ((t12 - out.length)+1) out outr outrs ⟨(Nat.lt_succ_self _),hR,hokoutr,hrowsoutrs,(by omega)⟩ (mc [vo D0 208 outr outrs] [true] rfl (by first|rfl|(simp only [List.length_set]<;>rfl))) (A0.pick [0,1,2,2] rfl) ?_
  rintro fu out1 outr1 outrs1 ⟨hm6,hR,hokoutr1,hrowsoutrs1,ho1⟩
  have:=VOk.le hokoutr1
  have:=hrowsoutrs1.1
  obtain ⟨fu1,rfl⟩:∃ m,fu=m+1:=⟨fu - 1,by omega⟩
  replace hR:=(U4.eq_2 ..).symm.trans hR
  refine A7 (sr 4 rfl (ip' 4 0 [(23,bv (decide ((out1.length:Int)<(t12:Int))))] ?_))
  refine ie ?_
  refine zjd rfl hR ?_ ?_<;>clear hR<;>intro hR h7 h7p
  ·refine A9 (nx (B2 (A3 6 rfl (ip' 1 5 [(24,.slice (va outr1.q) out1.length outr1.k)] (it rfl (B3 (c:=I8) (xs:=([(-1)]:List Int)) L8 rfl rfl rfl (by kernel_rfl)) fun b8=>?_)))))
   have:([(-1)]:List Int).length=1:=rfl
   refine zrl 1 3 [] [(26,ag [.slice (some ⟨b8,0,none⟩) 1 1])] (it rfl (B3 (c:=D0) (xs:=([⟨some ⟨b8,0,none⟩,1,1⟩]:List Slc)) B7w rfl rfl rfl (by kernel_rfl)) fun b9=>?_)
   have hrows10:B7 ([⟨some ⟨b8,0,none⟩,1,1⟩]:List Slc) ([([(-1)]:List Int)]:List (List Int)):=(B7.cons ⟨rfl,(by first|omega|(simp<;>omega)|(dsimp only;omega)|decide),(by first|omega|(simp<;>omega)|(dsimp only;omega)|decide)⟩ B7.none)
   refine C3 (q:=F3 I8 ([⟨some ⟨b8,0,none⟩,1,1⟩]:List Slc) ([([(-1)]:List Int)]:List (List Int))) (N3 (A1 1 rfl) H9) ?_
   have:([⟨some ⟨b8,0,none⟩,1,1⟩]:List Slc).length=1:=rfl
   have hw13:B7 (outrs1++([⟨some ⟨b8,0,none⟩,1,1⟩]:List Slc)) (out1++([([(-1)]:List Int)]:List (List Int))):=B7.append hrowsoutrs1 hrows10
   refine it rfl (J9 (r:=outr1) (rs:=outrs1) (xss:=out1) (pre:=[]) (post:=[]) D4h rfl rfl rfl rfl rfl rfl rfl rfl rfl (A1 1 rfl) (A1 6 rfl) (A1 0 rfl) hrowsoutrs1 hrows10 hokoutr1 (by first|omega|(simp<;>omega)) (by first|omega|(simp<;>omega))) fun ⟨r11,hr12⟩=>?_
   have:=VOk.le hr12
   have:=VOk.cap hr12
   have:([([(-1)]:List Int)]:List (List Int)).length=1:=rfl
   have:(out1++([([(-1)]:List Int)]:List (List Int))).length=out1.length+1:=List.length_append
   refine ip' 1 0 [(5,.slice (va r11.q) ((out1++([([(-1)]:List Int)]:List (List Int))).length) r11.k)] (A6 ?_)
   exact B3p (z1:=(fu1+1)) (z2:=out1) (z3:=outr1) (z4:=outrs1) fu1 (out1++([([(-1)]:List Int)]:List (List Int))) r11 (outrs1++([⟨some ⟨b8,0,none⟩,1,1⟩]:List Slc)) ⟨(by omega),hR,hr12,hw13,(by first|omega|(simp<;>omega))⟩ (Nat.lt_succ_self _) (mc [vo D0 208 r11 (outrs1++([⟨some ⟨b8,0,none⟩,1,1⟩]:List Slc))] [true] rfl (by first|rfl|(simp only [List.length_set]<;>rfl))) (A0.pick [4,5,6,0] rfl)
  refine J1 (nx (A3 7 rfl (ip' 2 5 [(29,.slice (va outr1.q) out1.length outr1.k),(30,iv (l.getD t12 0))] ?_)))
  refine it rfl (B3 (c:=I8) (xs:=([(l.getD t12 0)]:List Int)) L8 rfl rfl rfl (by kernel_rfl)) fun b14=>?_
  have:([(l.getD t12 0)]:List Int).length=1:=rfl
  refine zrl 1 3 [] [(32,ag [.slice (some ⟨b14,0,none⟩) 1 1])] (it rfl (B3 (c:=D0) (xs:=([⟨some ⟨b14,0,none⟩,1,1⟩]:List Slc)) B7w rfl rfl rfl (by kernel_rfl)) fun b15=>?_)
  have hrows16:B7 ([⟨some ⟨b14,0,none⟩,1,1⟩]:List Slc) ([([(l.getD t12 0)]:List Int)]:List (List Int)):=(B7.cons ⟨rfl,(by first|omega|(simp<;>omega)|(dsimp only;omega)|decide),(by first|omega|(simp<;>omega)|(dsimp only;omega)|decide)⟩ B7.none)
  refine C3 (q:=F3 I8 ([⟨some ⟨b14,0,none⟩,1,1⟩]:List Slc) ([([(l.getD t12 0)]:List Int)]:List (List Int))) (N3 (A1 1 rfl) H9) ?_
  have:([⟨some ⟨b14,0,none⟩,1,1⟩]:List Slc).length=1:=rfl
  have hw19:B7 (outrs1++([⟨some ⟨b14,0,none⟩,1,1⟩]:List Slc)) (out1++([([(l.getD t12 0)]:List Int)]:List (List Int))):=B7.append hrowsoutrs1 hrows16
  refine it rfl (J9 (r:=outr1) (rs:=outrs1) (xss:=out1) (pre:=[]) (post:=[]) D4h rfl rfl rfl rfl rfl rfl rfl rfl rfl (A1 1 rfl) (A1 6 rfl) (A1 0 rfl) hrowsoutrs1 hrows16 hokoutr1 (by first|omega|(simp<;>omega)) (by first|omega|(simp<;>omega))) fun ⟨r17,hr18⟩=>?_
  have:=VOk.le hr18
  have:=VOk.cap hr18
  have:([([(l.getD t12 0)]:List Int)]:List (List Int)).length=1:=rfl
  have:(out1++([([(l.getD t12 0)]:List Int)]:List (List Int))).length=out1.length+1:=List.length_append
  refine ip' 1 0 [(5,.slice (va r17.q) ((out1++([([(l.getD t12 0)]:List Int)]:List (List Int))).length) r17.k)] (A6 (nx (A3 2 rfl (ix rfl (B6 rfl rfl rfl rfl (by omega)) (ip' 1 0 [(12,iv ((t12:Int)+1))] (A6 ?_))))))
  exact B3p (z1:=out) (z2:=outr) (z3:=outrs) (z4:=t12) (out1++([([(l.getD t12 0)]:List Int)]:List (List Int))) r17 (outrs1++([⟨some ⟨b14,0,none⟩,1,1⟩]:List Slc)) (t12+1) ⟨(by omega),hR,hr18,hw19,(by first|omega|(simp<;>omega))⟩ (by (try dsimp only);omega) (mc [vo D0 208 r17 (outrs1++([⟨some ⟨b14,0,none⟩,1,1⟩]:List Slc))] [true] rfl (by first|rfl|(simp only [List.length_set]<;>rfl))) (A0.pick [4,5,0] rfl)
 have h2p:¬ ((t12:Int)<(l.length:Int)):=by simpa using h2
 rw [A4s h2p] at hR;replace hR:=(J4.eq_1 ..).symm.trans hR
 refine J1 (nx (sr 7 rfl (ip' 1 6 [(37,.slice (va outr.q) out.length outr.k)] ?_)))
 have:=VOk.cap hokoutr
 have:=VOk.le hokoutr
 refine A4o [] [] (T:=208) (c:=D0) (r:=outr) (xs:=outrs) (VOk.cast hokoutr (by rw [hrowsoutrs.1])) (by first|rfl|simp) ?_
 have hQ:=C9 hR;clear hR;obtain ⟨y8,hy8,hR⟩:=hQ
 refine zca (B7e out (va outr.q) outrs outr.k hrowsoutrs (by first|omega|(simp<;>omega)|(dsimp only;omega)|decide) (by first|omega|(simp<;>omega)|(dsimp only;omega)|decide) y8 hy8) (A0.pick [0,3,2] rfl) ?_
 have:=A5j out;try rw [hy8] at this
 refine ip' 5 0 [(8,sv y8.1)] (ie (sr 2 rfl (ip' 2 0 [(4,sv y8.1)] ?_)))
 subst hR
 refine ie (B0 ?_)
 exact F8 hr hD
def U6 (a:Act) (p1:List UInt8):List UInt8 :=
 (B5 (O8 1 ([a.m]:List Int)) fun (y1:List UInt8)=>(B5 (A1u p1 a.n) fun (y2:List UInt8)=>((([27,91]:List UInt8)++y1)++y2)))
theorem B8f (a:Act) (p1:List UInt8) (p1p:Addr) (ha:0≤a.n∧a.n<(p1.length:Int)) (hq:p1.length≤1000) (R:List UInt8) (hR:U6 a p1=R):K5 Tryz.prog 76 [ag (A5 a),pa p1p] [at_ p1p [sv p1],M3] (sv R):=by
 refine zco Tryz.func76 [(0,ag (A5 a)),(1,pa p1p)] fun X hX hr hD=>?_
 replace hR:=(U6.eq_1 ..).symm.trans hR
 refine sr 2 rfl (P1 2 0 [] (fun b1=>[(2,pt b1 0)]) (fun b1=>[bx b1 (A5 a) 26]) (fun b1=>(ie (sh 11 [(11,[bx b1 (A5 a) 26])] [at_ p1p [sv p1],M3] [bx b1 (A5 a) 26] (zml 11 0) (by kernel_rfl) rfl (by kernel_rfl) (by kernel_rfl) (by kernel_rfl) (mk [true] rfl) A0.refl ?_))))
 refine zhp [0,6] 9 (zml 11 65) [(4,pt b1 2),(10,pt b1 1)] ?_
 refine zhl 1 [bx b1 (A5 a) 26] (zml 11 67) rfl (B4 (v:=iv a.m) ty3 rfl rfl 0 rfl rfl) ?_
 refine zhk 5 (zml 11 99) rfl (C4 (v:=sv p1) (us:=[sv p1]) ty9 rfl rfl (A1 0 rfl) rfl) (zhl 7 [bx b1 (A5 a) 26] (zml 11 227) rfl (B4 (v:=iv a.n) ty3 rfl rfl 0 rfl rfl) ?_)
 refine zho 2 [bx b1 (A5 a) 26] (zml 11 231) rfl (B3 (c:=I8) (xs:=([a.m]:List Int)) L8 rfl rfl rfl (by kernel_rfl)) (fun b2=>(mk [true] rfl)) (fun b2=>(A0.pick [1,2] rfl)) fun b2=>?_
 have:([a.m]:List Int).length=1:=rfl
 have hQ:=C9 hR;clear hR;obtain ⟨y1,hy1,hR⟩:=hQ
 refine zho 3 [bx b1 (A5 a) 26] (zml 11 239) rfl (Det.tri (A5a (A7o 1 ([a.m]:List Int) (some ⟨b2,0,none⟩) 1 (by first|omega|(simp<;>omega)|(dsimp only;omega)|decide) (by first|omega|(simp<;>omega)|(dsimp only;omega)|decide) (by first|omega|(simp<;>omega)) y1 hy1) rfl rfl rfl rfl rfl (A0.pick [0,2] rfl))) (fun _=>(mk [true] rfl)) (fun _=>(A0.pick [1,2] rfl)) fun _=>?_
 have:=A2o 1 ([a.m]:List Int);try rw [hy1] at this
 refine zhk 4 (zml 11 255) rfl (zst rfl rfl rfl) ?_
 have hQ:=C9 hR;clear hR;obtain ⟨y2,hy2,hR⟩:=hQ
 refine zho 8 [bx b1 (A5 a) 26] (zml 11 511) rfl (Det.tri (A5a (A8c p1 a.n (by first|omega|(simp<;>omega)) (by first|omega|(simp<;>omega)) y2 hy2) rfl rfl rfl rfl rfl fn0)) (fun _=>(mk [true] rfl)) (fun _=>(A0.pick [1,2] rfl)) fun _=>?_
 have:=A5b p1 a.n (by omega);try rw [hy2] at this
 refine zhk 9 (zml 11 1023) rfl (zst rfl rfl rfl) ?_
 refine zhp [10] 0 (zml 11 2047) [(3,sv ((([27,91]:List UInt8)++y1)++y2))] ?_
 refine A8j (by kernel_rfl) ?_
 subst hR
 refine B0 ?_
 exact F8 hr hD
def B5u (signs:List UInt8):Unit :=
 ()
theorem A7q (signs:List UInt8) (hq:signs.length≤1000) (R:Unit) (hR:B5u signs=R):Con Tryz.prog 75 [sv signs] [] [M3] (Value) (fun x=>x) (fun x=>[]) (fun x=>[M1 Tryz.prog (x) (C2t (fun a=>0≤a.n∧a.n<(signs.length:Int)) (fun a=>(U6 a signs)))]):=by
 refine zco Tryz.func75 [(0,sv signs)] fun X hX hr hD=>?_
 replace hR:=(B5u.eq_1 ..).symm.trans hR
 refine sr 2 rfl (it rfl (Z5 (cs:=[sv signs]) rfl rfl rfl) fun b1=>?_)
 refine A2u 0 rfl ?_
 refine ip' 1 0 [] (ie (sr 2 rfl (ip' 2 0 [(2,.func (.func 76) #[] #[pa ⟨b1,0,none⟩])] (ie (B3w (q:=M1 Tryz.prog (.func (.func 76) #[] #[pa ⟨b1,0,none⟩]) (C2t (fun a=>0≤a.n∧a.n<(signs.length:Int)) (fun a=>(U6 a signs)))) (P6 (fun args r hC=>by obtain ⟨a,ha,rfl,rfl⟩:=hC;exact B9.of (B8f a signs ⟨b1,0,none⟩ (by exact ha) (by exact hq) _ rfl) rfl A0.refl) A0.refl) ?_)))))
 subst hR
 refine B0 ?_
 exact zer hr hD (O3 rfl (B8 rfl)) (.func (.func 76) #[] #[pa ⟨b1,0,none⟩]:Value) (mk [] rfl) (A0.con1 (A1 0 rfl) fn0)
def A3z (a:Act):List UInt8 :=
 (B5 (O8 1 ([a.n,a.m]:List Int)) fun (y1:List UInt8)=>((([27,91]:List UInt8)++y1)++([72]:List UInt8)))
theorem C0j (a:Act) (R:List UInt8) (hR:A3z a=R):K5 Tryz.prog 83 [ag (A5 a)] [M3] (sv R):=by
 refine zco Tryz.func83 [(0,ag (A5 a))] fun X hX hr hD=>?_
 replace hR:=(A3z.eq_1 ..).symm.trans hR
 refine sr 2 rfl (P1 2 0 [] (fun b1=>[(1,pt b1 0)]) (fun b1=>[bx b1 (A5 a) 26]) (fun b1=>(ie (sr 9 rfl (zrl 4 5 [0,0] [(4,iv a.n),(6,iv a.m)] (it rfl (B3 (c:=I8) (xs:=([a.n,a.m]:List Int)) L8 rfl rfl rfl (by kernel_rfl)) fun b2=>?_))))))
 have:([a.n,a.m]:List Int).length=2:=rfl
 have hQ:=C9 hR;clear hR;obtain ⟨y1,hy1,hR⟩:=hQ
 refine zca (A7o 1 ([a.n,a.m]:List Int) (some ⟨b2,0,none⟩) 2 (by first|omega|(simp<;>omega)|(dsimp only;omega)|decide) (by first|omega|(simp<;>omega)|(dsimp only;omega)|decide) (by first|omega|(simp<;>omega)) y1 hy1) A0.refl ?_
 have:=A2o 1 ([a.n,a.m]:List Int);try rw [hy1] at this
 refine ix rfl (zst rfl rfl rfl) (ix rfl (zst rfl rfl rfl) (ip' 1 0 [(2,sv ((([27,91]:List UInt8)++y1)++([72]:List UInt8)))] ?_))
 subst hR
 refine ie (B0 ?_)
 exact F8 hr hD
def G2 (a:Act) (p1:Int) (p2:List UInt8):List UInt8 :=
 (B5 (O8 p1 ([a.n]:List Int)) fun (y1:List UInt8)=>((([27,91]:List UInt8)++y1)++p2))
theorem B7k (a:Act) (p1:Int) (p2:List UInt8) (p1p:Addr) (p2p:Addr) (hq:p2.length≤1000) (R:List UInt8) (hR:G2 a p1 p2=R):K5 Tryz.prog 73 [ag (A5 a),pa p1p,pa p2p] [at_ p1p [iv p1],at_ p2p [sv p2],M3] (sv R):=by
 refine zco Tryz.func73 [(0,ag (A5 a)),(1,pa p1p),(2,pa p2p)] fun X hX hr hD=>?_
 replace hR:=(G2.eq_1 ..).symm.trans hR
 refine sr 2 rfl (P1 2 0 [] (fun b1=>[(3,pt b1 0)]) (fun b1=>[bx b1 (A5 a) 26]) (fun b1=>(ie (sh 9 [(9,[bx b1 (A5 a) 26])] [at_ p1p [iv p1],at_ p2p [sv p2],M3] [bx b1 (A5 a) 26] (zml 9 0) (by kernel_rfl) rfl (by kernel_rfl) (by kernel_rfl) (by kernel_rfl) (mk [true] rfl) A0.refl ?_))))
 refine zhp [1] 8 (zml 9 2) [(6,pt b1 1)] ?_
 refine zhk 0 (zml 9 3) rfl (C4 (v:=iv p1) (us:=[iv p1]) ty3 rfl rfl (A1 0 rfl) rfl) (zhl 2 [bx b1 (A5 a) 26] (zml 9 7) rfl (B4 (v:=iv a.n) ty3 rfl rfl 0 rfl rfl) ?_)
 refine zhk 6 (zml 9 71) rfl (C4 (v:=sv p2) (us:=[sv p2]) ty9 rfl rfl (A1 1 rfl) rfl) ?_
 refine zho 3 [bx b1 (A5 a) 26] (zml 9 79) rfl (B3 (c:=I8) (xs:=([a.n]:List Int)) L8 rfl rfl rfl (by kernel_rfl)) (fun b2=>(mk [true] rfl)) (fun b2=>(A0.pick [1,2,3] rfl)) fun b2=>?_
 have:([a.n]:List Int).length=1:=rfl
 have hQ:=C9 hR;clear hR;obtain ⟨y1,hy1,hR⟩:=hQ
 refine zho 4 [bx b1 (A5 a) 26] (zml 9 95) rfl (Det.tri (A5a (A7o p1 ([a.n]:List Int) (some ⟨b2,0,none⟩) 1 (by first|omega|(simp<;>omega)|(dsimp only;omega)|decide) (by first|omega|(simp<;>omega)|(dsimp only;omega)|decide) (by first|omega|(simp<;>omega)) y1 hy1) rfl rfl rfl rfl rfl (A0.pick [0,3] rfl))) (fun _=>(mk [true] rfl)) (fun _=>(A0.pick [1,2,3] rfl)) fun _=>?_
 have:=A2o p1 ([a.n]:List Int);try rw [hy1] at this
 refine zhk 5 (zml 9 127) rfl (zst rfl rfl rfl) (zhk 7 (zml 9 255) rfl (zst rfl rfl rfl) ?_)
 refine zhp [8] 0 (zml 9 511) [(4,sv ((([27,91]:List UInt8)++y1)++p2))] ?_
 refine A8j (by kernel_rfl) ?_
 subst hR
 refine B0 ?_
 exact F8 hr hD
def B4w (none_:Int) (last:List UInt8):Unit :=
 ()
theorem J6 (none_:Int) (last:List UInt8) (hq:last.length≤1000) (R:Unit) (hR:B4w none_ last=R):Con Tryz.prog 72 [iv none_,sv last] [] [M3] (Value) (fun x=>x) (fun x=>[]) (fun x=>[M1 Tryz.prog (x) (C2t (fun _=>True) (fun a=>(G2 a none_ last)))]):=by
 refine zco Tryz.func72 [(0,iv none_),(1,sv last)] fun X hX hr hD=>?_
 replace hR:=(B4w.eq_1 ..).symm.trans hR
 refine sr 3 rfl (it rfl (Z5 (cs:=[iv none_]) rfl rfl rfl) fun b1=>?_)
 refine A2u 0 rfl ?_
 refine it rfl (Z5 (cs:=[sv last]) rfl rfl rfl) fun b2=>?_
 refine A2u 0 rfl ?_
 refine ip' 1 0 [] (ie (sr 2 rfl (ip' 2 0 [(4,.func (.func 73) #[] #[pa ⟨b1,0,none⟩,pa ⟨b2,0,none⟩])] (ie (B3w (q:=M1 Tryz.prog (.func (.func 73) #[] #[pa ⟨b1,0,none⟩,pa ⟨b2,0,none⟩]) (C2t (fun _=>True) (fun a=>(G2 a none_ last)))) (P6 (fun args r hC=>by obtain ⟨a,ha,rfl,rfl⟩:=hC;exact B9.of (B7k a none_ last ⟨b1,0,none⟩ ⟨b2,0,none⟩ (by exact hq) _ rfl) rfl (A0.pick [1,0,2] rfl)) A0.refl) ?_)))))
 subst hR
 refine B0 ?_
 exact zer hr hD (O3 rfl (B8 rfl)) (.func (.func 73) #[] #[pa ⟨b1,0,none⟩,pa ⟨b2,0,none⟩]:Value) (mk [] rfl) (A0.con1 (A1 0 rfl) fn0)
def W9 (a:Act) (p1:List UInt8):List UInt8 :=
 (B5 (O8 (-2) ([a.n]:List Int)) fun (y1:List UInt8)=>(B5 (A1u ([108,104]:List UInt8) a.m) fun (y2:List UInt8)=>(((([27,91]:List UInt8)++p1)++y1)++y2)))
theorem B8n (a:Act) (p1:List UInt8) (p1p:Addr) (ha:0≤a.m∧a.m≤1) (hq:p1.length≤1000) (R:List UInt8) (hR:W9 a p1=R):K5 Tryz.prog 79 [ag (A5 a),pa p1p] [at_ p1p [sv p1],M3] (sv R):=by
 refine zco Tryz.func79 [(0,ag (A5 a)),(1,pa p1p)] fun X hX hr hD=>?_
 replace hR:=(W9.eq_1 ..).symm.trans hR
 refine sr 2 rfl (P1 2 0 [] (fun b1=>[(2,pt b1 0)]) (fun b1=>[bx b1 (A5 a) 26]) (fun b1=>(ie (sh 12 [(12,[bx b1 (A5 a) 26])] [at_ p1p [sv p1],M3] [bx b1 (A5 a) 26] (zml 12 0) (by kernel_rfl) rfl (by kernel_rfl) (by kernel_rfl) (by kernel_rfl) (mk [true] rfl) A0.refl ?_))))
 refine zhp [2,7] 10 (zml 12 132) [(6,pt b1 1),(11,pt b1 2)] ?_
 refine zhk 0 (zml 12 133) rfl (C4 (v:=sv p1) (us:=[sv p1]) ty9 rfl rfl (A1 0 rfl) rfl) (zhk 1 (zml 12 135) rfl (zst rfl rfl rfl) (zhl 3 [bx b1 (A5 a) 26] (zml 12 143) rfl (B4 (v:=iv a.n) ty3 rfl rfl 0 rfl rfl) ?_))
 refine zhl 8 [bx b1 (A5 a) 26] (zml 12 399) rfl (B4 (v:=iv a.m) ty3 rfl rfl 0 rfl rfl) ?_
 refine zho 4 [bx b1 (A5 a) 26] (zml 12 415) rfl (B3 (c:=I8) (xs:=([a.n]:List Int)) L8 rfl rfl rfl (by kernel_rfl)) (fun b2=>(mk [true] rfl)) (fun b2=>(A0.pick [1,2] rfl)) fun b2=>?_
 have:([a.n]:List Int).length=1:=rfl
 have hQ:=C9 hR;clear hR;obtain ⟨y1,hy1,hR⟩:=hQ
 refine zho 5 [bx b1 (A5 a) 26] (zml 12 447) rfl (Det.tri (A5a (A7o (-2) ([a.n]:List Int) (some ⟨b2,0,none⟩) 1 (by first|omega|(simp<;>omega)|(dsimp only;omega)|decide) (by first|omega|(simp<;>omega)|(dsimp only;omega)|decide) (by first|omega|(simp<;>omega)) y1 hy1) rfl rfl rfl rfl rfl (A0.pick [0,2] rfl))) (fun _=>(mk [true] rfl)) (fun _=>(A0.pick [1,2] rfl)) fun _=>?_
 have:=A2o (-2) ([a.n]:List Int);try rw [hy1] at this
 refine zhk 6 (zml 12 511) rfl (zst rfl rfl rfl) ?_
 have hQ:=C9 hR;clear hR;obtain ⟨y2,hy2,hR⟩:=hQ
 refine zho 9 [bx b1 (A5 a) 26] (zml 12 1023) rfl (Det.tri (A5a (A8c ([108,104]:List UInt8) a.m (by first|omega|(simp<;>omega)) (by first|omega|(simp<;>omega)) y2 hy2) rfl rfl rfl rfl rfl fn0)) (fun _=>(mk [true] rfl)) (fun _=>(A0.pick [1,2] rfl)) fun _=>?_
 have:=A5b ([108,104]:List UInt8) a.m (by omega);try rw [hy2] at this
 refine zhk 10 (zml 12 2047) rfl (zst rfl rfl rfl) ?_
 refine zhp [11] 0 (zml 12 4095) [(3,sv (((([27,91]:List UInt8)++p1)++y1)++y2))] ?_
 refine A8j (by kernel_rfl) ?_
 subst hR
 refine B0 ?_
 exact F8 hr hD
def B4o (front:List UInt8):Unit :=
 ()
theorem B2h (front:List UInt8) (hq:front.length≤1000) (R:Unit) (hR:B4o front=R):Con Tryz.prog 78 [sv front] [] [M3] (Value) (fun x=>x) (fun x=>[]) (fun x=>[M1 Tryz.prog (x) (C2t (fun a=>0≤a.m∧a.m≤1) (fun a=>(W9 a front)))]):=by
 refine zco Tryz.func78 [(0,sv front)] fun X hX hr hD=>?_
 replace hR:=(B4o.eq_1 ..).symm.trans hR
 refine sr 2 rfl (it rfl (Z5 (cs:=[sv front]) rfl rfl rfl) fun b1=>?_)
 refine A2u 0 rfl ?_
 refine ip' 1 0 [] (ie (sr 2 rfl (ip' 2 0 [(2,.func (.func 79) #[] #[pa ⟨b1,0,none⟩])] (ie (B3w (q:=M1 Tryz.prog (.func (.func 79) #[] #[pa ⟨b1,0,none⟩]) (C2t (fun a=>0≤a.m∧a.m≤1) (fun a=>(W9 a front)))) (P6 (fun args r hC=>by obtain ⟨a,ha,rfl,rfl⟩:=hC;exact B9.of (B8n a front ⟨b1,0,none⟩ (by exact ha) (by exact hq) _ rfl) rfl A0.refl) A0.refl) ?_)))))
 subst hR
 refine B0 ?_
 exact zer hr hD (O3 rfl (B8 rfl)) (.func (.func 79) #[] #[pa ⟨b1,0,none⟩]:Value) (mk [] rfl) (A0.con1 (A1 0 rfl) fn0)
def A3c (a:Act):List UInt8 :=
 (B5 (O8 0 ([a.n,a.m]:List Int)) fun (y1:List UInt8)=>((([27,91]:List UInt8)++y1)++([114]:List UInt8)))
theorem B9p (a:Act) (R:List UInt8) (hR:A3c a=R):K5 Tryz.prog 84 [ag (A5 a)] [M3] (sv R):=by
 refine zco Tryz.func84 [(0,ag (A5 a))] fun X hX hr hD=>?_
 replace hR:=(A3c.eq_1 ..).symm.trans hR
 refine sr 2 rfl (P1 2 0 [] (fun b1=>[(1,pt b1 0)]) (fun b1=>[bx b1 (A5 a) 26]) (fun b1=>(ie (sr 9 rfl (zrl 4 5 [0,0] [(4,iv a.n),(6,iv a.m)] (it rfl (B3 (c:=I8) (xs:=([a.n,a.m]:List Int)) L8 rfl rfl rfl (by kernel_rfl)) fun b2=>?_))))))
 have:([a.n,a.m]:List Int).length=2:=rfl
 have hQ:=C9 hR;clear hR;obtain ⟨y1,hy1,hR⟩:=hQ
 refine zca (A7o 0 ([a.n,a.m]:List Int) (some ⟨b2,0,none⟩) 2 (by first|omega|(simp<;>omega)|(dsimp only;omega)|decide) (by first|omega|(simp<;>omega)|(dsimp only;omega)|decide) (by first|omega|(simp<;>omega)) y1 hy1) A0.refl ?_
 have:=A2o 0 ([a.n,a.m]:List Int);try rw [hy1] at this
 refine ix rfl (zst rfl rfl rfl) (ix rfl (zst rfl rfl rfl) (ip' 1 0 [(2,sv ((([27,91]:List UInt8)++y1)++([114]:List UInt8)))] ?_))
 subst hR
 refine ie (B0 ?_)
 exact F8 hr hD
def A2z (a:Act):List UInt8 :=
 ((([27,91]:List UInt8)++(([62]:List UInt8).take ((a.n).toNat)))++([99]:List UInt8))
theorem B9u (a:Act) (ha:0≤a.n∧a.n≤1) (R:List UInt8) (hR:A2z a=R):K5 Tryz.prog 85 [ag (A5 a)] [] (sv R):=by
 refine zco Tryz.func85 [(0,ag (A5 a))] fun X hX hr hD=>?_
 replace hR:=(A2z.eq_1 ..).symm.trans hR
 refine sr 2 rfl (P1 2 0 [] (fun b1=>[(1,pt b1 0)]) (fun b1=>[bx b1 (A5 a) 26]) (fun b1=>(ie (sr 6 rfl (zrl 2 4 [0] [(4,iv a.n)] (ix rfl (B5e (T:=9) Tryz.underlying9 rfl rfl rfl ((a.n).toNat) (by omega) (by first|omega|(simp<;>omega))) (ix rfl (zst rfl rfl rfl) (ix rfl (zst rfl rfl rfl) (ip' 1 0 [(2,sv ((([27,91]:List UInt8)++(([62]:List UInt8).take ((a.n).toNat)))++([99]:List UInt8)))] ?_)))))))))
 subst hR
 refine ie (B0 ?_)
 exact F8 hr hD
def A3b (a:Act):List UInt8 :=
 (B5 (O8 (-2) ([a.n]:List Int)) fun (y1:List UInt8)=>(((([27,91]:List UInt8)++(([63]:List UInt8).take ((a.m).toNat)))++y1)++([36,112]:List UInt8)))
theorem B9a (a:Act) (ha:0≤a.m∧a.m≤1) (R:List UInt8) (hR:A3b a=R):K5 Tryz.prog 86 [ag (A5 a)] [M3] (sv R):=by
 refine zco Tryz.func86 [(0,ag (A5 a))] fun X hX hr hD=>?_
 replace hR:=(A3b.eq_1 ..).symm.trans hR
 refine sr 2 rfl (P1 2 0 [] (fun b1=>[(1,pt b1 0)]) (fun b1=>[bx b1 (A5 a) 26]) (fun b1=>(ie (sh 11 [(11,[bx b1 (A5 a) 26])] [M3] [bx b1 (A5 a) 26] (zml 11 0) (by kernel_rfl) rfl (by kernel_rfl) (by kernel_rfl) (by kernel_rfl) (mk [true] rfl) A0.refl ?_))))
 refine zhp [0,4] 9 (zml 11 17) [(3,pt b1 2),(7,pt b1 1)] ?_
 refine zhl 1 [bx b1 (A5 a) 26] (zml 11 19) rfl (B4 (v:=iv a.m) ty3 rfl rfl 0 rfl rfl) ?_
 refine zhk 2 (zml 11 23) rfl (B5e (T:=9) Tryz.underlying9 rfl rfl rfl ((a.m).toNat) (by omega) (by first|omega|(simp<;>omega))) (zhk 3 (zml 11 31) rfl (zst rfl rfl rfl) (zhl 5 [bx b1 (A5 a) 26] (zml 11 63) rfl (B4 (v:=iv a.n) ty3 rfl rfl 0 rfl rfl) ?_))
 refine zho 6 [bx b1 (A5 a) 26] (zml 11 127) rfl (B3 (c:=I8) (xs:=([a.n]:List Int)) L8 rfl rfl rfl (by kernel_rfl)) (fun b2=>(mk [true] rfl)) (fun b2=>(A0.pick [1] rfl)) fun b2=>?_
 have:([a.n]:List Int).length=1:=rfl
 have hQ:=C9 hR;clear hR;obtain ⟨y1,hy1,hR⟩:=hQ
 refine zho 7 [bx b1 (A5 a) 26] (zml 11 255) rfl (Det.tri (A5a (A7o (-2) ([a.n]:List Int) (some ⟨b2,0,none⟩) 1 (by first|omega|(simp<;>omega)|(dsimp only;omega)|decide) (by first|omega|(simp<;>omega)|(dsimp only;omega)|decide) (by first|omega|(simp<;>omega)) y1 hy1) rfl rfl rfl rfl rfl A0.refl)) (fun _=>(mk [true] rfl)) (fun _=>(A0.pick [1] rfl)) fun _=>?_
 have:=A2o (-2) ([a.n]:List Int);try rw [hy1] at this
 refine zhk 8 (zml 11 511) rfl (zst rfl rfl rfl) (zhk 9 (zml 11 1023) rfl (zst rfl rfl rfl) ?_)
 refine zhp [10] 0 (zml 11 2047) [(2,sv (((([27,91]:List UInt8)++(([63]:List UInt8).take ((a.m).toNat)))++y1)++([36,112]:List UInt8)))] ?_
 refine A8j (by kernel_rfl) ?_
 subst hR
 refine B0 ?_
 exact F8 hr hD
def A3f (l:List Act):List UInt8 :=
 (B5 (B0h l) fun (y13:List (List Int)×Int)=>(B5 (N8 y13.1) fun (y8:List UInt8×Int)=>((([27,91]:List UInt8)++y8.1)++([109]:List UInt8))))
theorem A7x (l:List Act):(A3f l).length≤2115:=by
 have:=A5j (B0h l).1
 unfold A3f;simp only [B5,List.length_append,List.length_cons,List.length_nil];omega
theorem C1t (l:List Act) (lq:Option Addr) (lk:Nat) (hll:l.length≤9223372036854775807) (hcl:l.length≤lk) (R:List UInt8) (hR:A3f l=R):K5 Tryz.prog 40 [.slice lq l.length lk] [sl A5 lq l,S7,M3] (sv R):=by
 refine zco Tryz.func40 [(0,.slice lq l.length lk)] fun X hX hr hD=>?_
 replace hR:=(A3f.eq_1 ..).symm.trans hR
 refine sr 1 rfl (ip' 1 0 [] (ie (sr 7 rfl (ip' 1 6 [(8,.slice lq l.length lk)] ?_))))
 have hQ:=C9 hR;clear hR;obtain ⟨y13,hy13,hR⟩:=hQ
 refine it rfl (C2 (L2:=[]) (C8f l lq lk (by first|omega|(simp<;>omega)|(dsimp only;omega)|decide) (by first|omega|(simp<;>omega)|(dsimp only;omega)|decide) y13 hy13) rfl rfl rfl rfl rfl (A0.pick [0,1] rfl) (List.Perm.refl _) (fun ⟨⟨r1,rs2⟩,hp5⟩=>((vo D0 208 r1 rs2)++([]))) (fun _=>by first|rfl|simp)) fun ⟨⟨r1,rs2⟩,hp5⟩=>?_
 try dsimp only at hp5
 obtain ⟨hk3,hw4⟩:=hp5
 have:=VOk.le hk3
 have:=VOk.cap hk3
 have:=hw4.1
 refine ip' 5 0 [(3,.slice (va r1.q) y13.1.length r1.k)] (ie (sr 7 rfl (ip' 1 6 [(13,.slice (va r1.q) y13.1.length r1.k)] ?_)))
 have:=VOk.cap hk3
 have:=VOk.le hk3
 refine A4o [] [] (T:=208) (c:=D0) (r:=r1) (xs:=rs2) (VOk.cast hk3 (by rw [hw4.1])) (by first|rfl|simp) ?_
 have hQ:=C9 hR;clear hR;obtain ⟨y8,hy8,hR⟩:=hQ
 refine zca (B7e y13.1 (va r1.q) rs2 r1.k hw4 (by first|omega|(simp<;>omega)|(dsimp only;omega)|decide) (by first|omega|(simp<;>omega)|(dsimp only;omega)|decide) y8 hy8) (A0.pick [0,1,4] rfl) ?_
 have:=A5j y13.1;try rw [hy8] at this
 refine ip' 5 0 [(5,sv y8.1)] (ie (sr 4 rfl (ip' 1 3 [(17,sv y8.1)] (ix rfl (zst rfl rfl rfl) (ix rfl (zst rfl rfl rfl) (ip' 1 0 [(2,sv ((([27,91]:List UInt8)++y8.1)++([109]:List UInt8)))] ?_))))))
 subst hR
 refine ie (B0 ?_)
 exact F8 hr hD
def A3d (a:Act):List UInt8 :=
 (B5 (A3f ([a]:List Act)) fun (y16:List UInt8)=>y16)
theorem B8t (a:Act) (R:List UInt8) (hR:A3d a=R):K5 Tryz.prog 87 [ag (A5 a)] [S7,M3] (sv R):=by
 refine zco Tryz.func87 [(0,ag (A5 a))] fun X hX hr hD=>?_
 replace hR:=(A3d.eq_1 ..).symm.trans hR
 refine sr 2 rfl (P1 2 0 [] (fun b1=>[(1,pt b1 0)]) (fun b1=>[bx b1 (A5 a) 26]) (fun b1=>(ie (sr 4 rfl (zrl 1 3 [0] [(3,ag (A5 a))] (it rfl (B3 (c:=A5) (xs:=([a]:List Act)) A0v rfl rfl rfl (by kernel_rfl)) fun b2=>?_))))))
 have:([a]:List Act).length=1:=rfl
 have hQ:=C9 hR;clear hR;obtain ⟨y16,hy16,hR⟩:=hQ
 refine zca (C1t ([a]:List Act) (some ⟨b2,0,none⟩) 1 (by first|omega|(simp<;>omega)|(dsimp only;omega)|decide) (by first|omega|(simp<;>omega)|(dsimp only;omega)|decide) y16 hy16) A0.refl ?_
 have:=A7x ([a]:List Act);try rw [hy16] at this
 refine ip' 1 0 [(2,sv y16)] ?_
 subst hR
 refine ie (B0 ?_)
 exact F8 hr hD
def C3f:Unit :=
 ()
theorem B3v (R:Unit) (hR:C3f=R):Con Tryz.prog 120 [] [] [] (Nat) (fun x=>.map (some x)) (fun x=>[(x,.map #[⟨iv 44,.func (.func 173) #[] #[],0⟩,⟨iv 45,.func (.func 176) #[] #[],1⟩,⟨iv 46,.func (.func 179) #[] #[],2⟩] 3)]) (fun x=>[]):=by
 refine zco Tryz.func120 [] fun X hX hr hD=>?_
 replace hR:=(C3f.eq_1 ..).symm.trans hR
 refine sr 1 rfl (ip' 1 0 [] (ie (sr 6 rfl (it rfl (B1o rfl) fun b1=>(it rfl (D6 C0t (.inl rfl) rfl rfl rfl 0 rfl (by kernel_rfl) rfl) fun _=>?_)))))
 refine it rfl (D6 C0t (.inl rfl) rfl rfl rfl 0 rfl (by kernel_rfl) rfl) fun _=>?_
 refine it rfl (D6 C0t (.inl rfl) rfl rfl rfl 0 rfl (by kernel_rfl) rfl) fun _=>?_
 refine ip' 2 0 [(0,.map (some b1))] ?_
 subst hR
 refine ie (B0 ?_)
 exact zer hr hD (O3 rfl (B8 rfl)) b1 (mk [true] rfl) fn0
def W4 (p0n:Int) (p0m:Int) (p0color:Col) (p0text:List UInt8):Option (List UInt8) :=
 (Option.bind (Y0 true) fun (r:Unit)=>(Option.bind (A6v (⟨44,p0n,p0m,p0color,p0text⟩:Act)) fun (r1:List UInt8)=>(some r1)))
theorem C6j (p0n:Int) (p0m:Int) (p0color:Col) (p0text:List UInt8) (p0p:Addr) (hs:p0text.length≤100000000) (R:Option (List UInt8)) (hR:W4 p0n p0m p0color p0text=R):B8s Tryz.prog 119 [pa p0p] [] [at_ p0p (A5 (⟨44,p0n,p0m,p0color,p0text⟩:Act))] A0i R (fun r=>sv r):=by
 refine A4n (n:=16) Tryz.func119 rfl (by kernel_rfl) rfl rfl [(0,pa p0p)] ⟨rfl,trivial⟩ fun X hX hr hD=>?_
 replace hR:=(W4.eq_1 ..).symm.trans hR
 refine sr 1 rfl (ip' 1 0 [] (ie (sh 9 [] [at_ p0p (A5 (⟨44,p0n,p0m,p0color,p0text⟩:Act))] [] (zml 9 0) (by kernel_rfl) rfl (by kernel_rfl) (by kernel_rfl) (by kernel_rfl) (mk [] rfl) A0.refl ?_)))
 refine zhp [1] 8 (zml 9 2) [(6,pa p0p)] ?_
 refine zhk 2 (zml 9 6) rfl (C4 (v:=iv 44) (us:=[iv 44]) ty3 rfl rfl (U3 (A1 0 rfl) (ws:=[iv 44]) 1 rfl) rfl) ?_
 refine zho 0 [] (zml 9 7) rfl (C2 (L2:=[]) (B3v _ rfl) rfl rfl rfl rfl rfl fn0 (List.Perm.refl _) (fun b1=>[(b1,.map #[⟨iv 44,.func (.func 173) #[] #[],0⟩,⟨iv 45,.func (.func 176) #[] #[],1⟩,⟨iv 46,.func (.func 179) #[] #[],2⟩] 3)]) (fun _=>rfl)) (fun b1=>(mk [false] rfl)) (fun b1=>A0.refl) fun b1=>?_
 refine zho 3 [] (zml 9 15) rfl (Det.tri (J0.det (B7o (v:=.func (.func 173) #[] #[]) (j:=0) C0t rfl rfl rfl 0 rfl (by kernel_rfl)))) (fun _=>(mk [false] rfl)) (fun _=>A0.refl) fun _=>?_
 refine zhp [4,5,6,7,8] 0 (zml 9 511) [(2,.func (.func 173) #[] #[]),(3,bv true)] ?_
 refine A8j (by kernel_rfl) ?_
 refine sr 2 rfl (ip' 1 1 [(11,bv true)] ?_)
 refine Y9 (L2:=[(b1,.map #[⟨iv 44,.func (.func 173) #[] #[],0⟩,⟨iv 45,.func (.func 176) #[] #[],1⟩,⟨iv 46,.func (.func 179) #[] #[],2⟩] 3)]) (A2t true _ rfl) rfl rfl rfl rfl rfl rfl fn0 (List.Perm.refl _) (fun r hs2=>?_) (fun hn3=>?_)
 ·replace hR:=A9b hR hs2
  have hmu:=S5 hs2;try simp only [Bool.and_eq_true,decide_eq_true_eq] at hmu
  refine ie (sr 4 rfl (ip' 1 3 [(13,.func (.func 173) #[] #[])] (ix rfl (P5 (us:=A5 (⟨44,p0n,p0m,p0color,p0text⟩:Act)) B4z rfl rfl (A1 0 rfl) rfl) ?_)))
  refine Y9 (L2:=[(b1,.map #[⟨iv 44,.func (.func 173) #[] #[],0⟩,⟨iv 45,.func (.func 176) #[] #[],1⟩,⟨iv 46,.func (.func 179) #[] #[],2⟩] 3)]) (C4c (⟨44,p0n,p0m,p0color,p0text⟩:Act) (by first|omega|(dsimp only;omega)) _ rfl) rfl rfl rfl rfl rfl rfl fn0 (List.Perm.refl _) (fun r1 hs4=>?_) (fun hn5=>?_)
  ·replace hR:=A9b hR hs4
   refine ip' 1 0 [(1,sv r1)] (ie (B0 ?_))
   exact A9p rfl ⟨hr,hD⟩ (by simp [hD]) (O3 rfl (B8 rfl)) hR.symm rfl
  ·replace hR:=A9a hR hn5
   exact N9 ⟨hr,hD⟩ hR.symm
 ·replace hR:=A9a hR hn3
  exact N9 ⟨hr,hD⟩ hR.symm
def A0x (an:Int) (am:Int) (acolor:Col) (atext:List UInt8):List UInt8×Int :=
 (bif (!((A1t (W4 an am acolor atext)).2)) then (([]:List UInt8),2) else ((A1t (W4 an am acolor atext)).1,0))
theorem B1x (an am:Int) (c:Col) (t:List UInt8):(A0x an am c t).1.length≤t.length+6000:=by
 have key:∀ s,W4 an am c t=some s→s.length≤t.length+6000:=by
  intro s h
  unfold W4 A6v at h
  simp only [Option.bind_eq_some_iff,Option.some.injEq] at h
  obtain ⟨_,_,r1,⟨_,_,_,_,h2⟩,h3⟩:=h
  rw [← h3,← h2];simp
 unfold A0x
 cases hR:W4 an am c t with
 | none=>simp [A1t]
 | some s=>have:=key s hR;simp [A1t];omega
theorem C2d (an:Int) (am:Int) (acolor:Col) (atext:List UInt8) (hs:atext.length≤100000000) (R:List UInt8×Int) (hR:A0x an am acolor atext=R):K5 Tryz.prog 65 [ag (A5 (⟨44,an,am,acolor,atext⟩:Act))] [] (.tuple #[sv R.1,iv R.2]):=by
 refine zco Tryz.func65 [(0,ag (A5 (⟨44,an,am,acolor,atext⟩:Act)))] fun X hX hr hD=>?_
 replace hR:=(A0x.eq_1 ..).symm.trans hR
 refine sr 3 rfl (it rfl (Z5 (cs:=A5 (⟨44,an,am,acolor,atext⟩:Act)) rfl rfl rfl) fun b1=>?_)
 refine A2u 0 rfl ?_
 refine ip' 2 0 [] (ie (sr 7 rfl (ip' 1 6 [(7,.func (.func 119) #[] #[pa ⟨b1,0,none⟩])] (zca (D3w (cap:=[pa ⟨b1,0,none⟩]) _ (C6j an am acolor atext ⟨b1,0,none⟩ (by omega) _ rfl)) A0.refl (ip' 5 0 [(4,sv ((A1t (W4 an am acolor atext)).1)),(5,bv ((A1t (W4 an am acolor atext)).2))] (ie (A7 (sr 2 rfl (ip' 2 0 [(12,bv (!((A1t (W4 an am acolor atext)).2)))] (ie ?_))))))))))
 refine zjb rfl hR ?_ ?_<;>clear hR<;>intro hR h2
 ·refine sr 2 rfl (ip' 2 0 [(2,sv ([]:List UInt8)),(3,iv 2)] ?_)
  subst hR
  refine ie (B0 ?_)
  exact A9j hr hD
 refine A9 (nx (sr 3 rfl (ip' 3 0 [(2,sv ((A1t (W4 an am acolor atext)).1)),(3,iv 0)] ?_)))
 subst hR
 refine ie (B0 ?_)
 exact A9j hr hD
def A3m (an:Int) (am:Int) (acolor:Col) (atext:List UInt8):List UInt8 :=
 (B5 (A0x an am acolor atext) fun (y5:List UInt8×Int)=>((([27,93]:List UInt8)++y5.1)++([27,92]:List UInt8)))
theorem C0o (an:Int) (am:Int) (acolor:Col) (atext:List UInt8) (hs:atext.length≤100000000) (R:List UInt8) (hR:A3m an am acolor atext=R):K5 Tryz.prog 77 [ag (A5 (⟨44,an,am,acolor,atext⟩:Act))] [] (sv R):=by
 refine zco Tryz.func77 [(0,ag (A5 (⟨44,an,am,acolor,atext⟩:Act)))] fun X hX hr hD=>?_
 replace hR:=(A3m.eq_1 ..).symm.trans hR
 refine sr 2 rfl (P1 2 0 [] (fun b1=>[(1,pt b1 0)]) (fun b1=>[bx b1 (A5 (⟨44,an,am,acolor,atext⟩:Act)) 26]) (fun b1=>(ie (sr 7 rfl (zrl 1 6 [0] [(6,ag (A5 (⟨44,an,am,acolor,atext⟩:Act)))] ?_)))))
 have hQ:=C9 hR;clear hR;obtain ⟨y5,hy5,hR⟩:=hQ
 refine zca (C2d an am acolor atext (by first|omega|(simp<;>omega)) y5 hy5) fn0 ?_
 have:=B1x an am acolor atext;try rw [hy5] at this
 refine ip' 5 0 [(3,sv y5.1)] (ie (sr 4 rfl (ip' 1 3 [(10,sv y5.1)] (ix rfl (zst rfl rfl rfl) (ix rfl (zst rfl rfl rfl) (ip' 1 0 [(2,sv ((([27,93]:List UInt8)++y5.1)++([27,92]:List UInt8)))] ?_))))))
 subst hR
 refine ie (B0 ?_)
 exact F8 hr hD
def W3 (n:Int):Int :=
 (bif (decide (n=0)) then 0 else (IntKind.i64.wrap ((55:Int)+(IntKind.i64.wrap ((40:Int) * n)))))
theorem B1u (n:Int) (R:Int) (hR:W3 n=R):K5 Tryz.prog 234 [iv n] [] (iv R):=by
 refine zco Tryz.func234 [(0,iv n)] fun X hX hr hD=>?_
 replace hR:=(W3.eq_1 ..).symm.trans hR
 refine sr 1 rfl (ip' 1 0 [] (ie (A7 (sr 2 rfl (ip' 2 0 [(4,bv (decide (n=0)))] (ie ?_))))))
 refine zjd rfl hR ?_ ?_<;>clear hR<;>intro hR h1 h1p
 ·refine sr 1 rfl (ip' 1 0 [(2,iv 0)] ?_)
  subst hR
  refine ie (B0 ?_)
  exact F8 hr hD
 refine A9 (nx (sr 4 rfl (ip' 1 3 [(5,iv n)] (ix rfl (J0.pure rfl) (ix rfl (J0.pure rfl) (ip' 1 0 [(2,iv (IntKind.i64.wrap ((55:Int)+(IntKind.i64.wrap ((40:Int) * n)))))] ?_))))))
 subst hR
 refine ie (B0 ?_)
 exact F8 hr hD
def A8p (n:Int):Int :=
 (bif (decide (n<16)) then (D7v.getD ((n).toNat) 0) else (bif (decide ((232:Int)≤n)) then (IntKind.i64.wrap ((IntKind.i64.wrap ((8:Int)+(IntKind.i64.wrap ((10:Int) * (IntKind.i64.wrap (n - (232:Int))))))) * (65793:Int))) else (bOp .or .i64 (bOp .or .i64 (IntKind.i64.wrap ((W3 (IntKind.i64.wrap (Int.tdiv (IntKind.i64.wrap (n - (16:Int))) 36))) * 65536)) (IntKind.i64.wrap ((W3 (Int.tmod (IntKind.i64.wrap (Int.tdiv (IntKind.i64.wrap (n - (16:Int))) 6)) 6)) * 256))) (W3 (Int.tmod (IntKind.i64.wrap (n - (16:Int))) 6)))))
theorem D2r (n:Int) (hn:0≤n∧n≤255) (R:Int) (hR:A8p n=R):K5 Tryz.prog 222 [iv n] [Q3] (iv R):=by
 refine zco Tryz.func222 [(0,iv n)] fun X hX hr hD=>?_
 replace hR:=(A8p.eq_1 ..).symm.trans hR
 refine sr 1 rfl (ip' 1 0 [] (ie (A7 (B2 (sr 3 rfl (ip' 3 0 [(3,bv (decide (n<16)))] (ie ?_)))))))
 refine zjd rfl hR ?_ ?_<;>clear hR<;>intro hR h1 h1p
 ·refine sr 4 rfl (ip' 1 3 [(6,iv n)] (ix rfl (B8l Tryz.underlying288 ty3 rfl rfl rfl ((n).toNat) (by omega) (by first|omega|(show _<16;omega))) (ix rfl (C4 (v:=iv (D7v.getD ((n).toNat) 0)) (us:=[iv (D7v.getD ((n).toNat) 0)]) ty3 rfl rfl (O4 (c:=I8) (sz:=1) rfl (fun _=>rfl) 0 rfl (gd 0 (by first|omega|(show _<16;omega)))) rfl) (ip' 1 0 [(2,iv (D7v.getD ((n).toNat) 0))] ?_))))
  subst hR
  refine ie (B0 ?_)
  exact F8 hr hD
 refine sr 3 rfl (ip' 3 0 [(9,bv (decide ((232:Int)≤n)))] (ie ?_))
 refine zjd rfl hR ?_ ?_<;>clear hR<;>intro hR h2 h2p
 ·refine sr 6 rfl (ip' 1 5 [(12,iv n)] (ix rfl (J0.pure rfl) (ix rfl (J0.pure rfl) (ix rfl (J0.pure rfl) (ix rfl (J0.pure rfl) (ip' 1 0 [(2,iv (IntKind.i64.wrap ((IntKind.i64.wrap ((8:Int)+(IntKind.i64.wrap ((10:Int) * (IntKind.i64.wrap (n - (232:Int))))))) * (65793:Int))))] ?_))))))
  subst hR
  refine ie (B0 ?_)
  exact F8 hr hD
 refine A9 (nx (sr 3 rfl (ip' 1 2 [(17,iv n)] (ix rfl (J0.pure rfl) (ip' 1 0 [(0,iv (IntKind.i64.wrap (n - (16:Int))))] (ie (sr 15 rfl (ip' 1 14 [(19,iv (IntKind.i64.wrap (n - (16:Int))))] (ix rfl (C3x rfl rfl rfl (by decide)) (zca (B1u (IntKind.i64.wrap (Int.tdiv (IntKind.i64.wrap (n - (16:Int))) 36)) _ rfl) fn0 ?_))))))))))
 refine ix rfl (B6a (c:=(IntKind.i64.wrap ((W3 (IntKind.i64.wrap (Int.tdiv (IntKind.i64.wrap (n - (16:Int))) 36))) * 65536))) rfl rfl rfl (by decide) (by simp [IntKind.bits])) (ip' 1 10 [(23,iv (IntKind.i64.wrap (n - (16:Int))))] (ix rfl (C3x rfl rfl rfl (by decide)) (ix rfl (C8v rfl rfl rfl (by decide) rfl) (zca (B1u (Int.tmod (IntKind.i64.wrap (Int.tdiv (IntKind.i64.wrap (n - (16:Int))) 6)) 6) _ rfl) fn0 ?_))))
 refine ix rfl (B6a (c:=(IntKind.i64.wrap ((W3 (Int.tmod (IntKind.i64.wrap (Int.tdiv (IntKind.i64.wrap (n - (16:Int))) 6)) 6)) * 256))) rfl rfl rfl (by decide) (by simp [IntKind.bits])) (ip' 2 4 [(28,iv (bOp .or .i64 (IntKind.i64.wrap ((W3 (IntKind.i64.wrap (Int.tdiv (IntKind.i64.wrap (n - (16:Int))) 36))) * 65536)) (IntKind.i64.wrap ((W3 (Int.tmod (IntKind.i64.wrap (Int.tdiv (IntKind.i64.wrap (n - (16:Int))) 6)) 6)) * 256)))),(29,iv (IntKind.i64.wrap (n - (16:Int))))] (ix rfl (C8v rfl rfl rfl (by decide) rfl) (zca (B1u (Int.tmod (IntKind.i64.wrap (n - (16:Int))) 6) _ rfl) fn0 (ip' 2 0 [(2,iv (bOp .or .i64 (bOp .or .i64 (IntKind.i64.wrap ((W3 (IntKind.i64.wrap (Int.tdiv (IntKind.i64.wrap (n - (16:Int))) 36))) * 65536)) (IntKind.i64.wrap ((W3 (Int.tmod (IntKind.i64.wrap (Int.tdiv (IntKind.i64.wrap (n - (16:Int))) 6)) 6)) * 256))) (W3 (Int.tmod (IntKind.i64.wrap (n - (16:Int))) 6))))] ?_))))
 subst hR
 refine ie (B0 ?_)
 exact F8 hr hD
def A4m (c:Col):Int×Bool :=
 (bif (!decide ((D8 c)=0)) then (0,false) else (bif (decide (c.kind=1)) then ((A8p c.n),true) else (bif (decide (c.kind=2)) then (c.n,true) else (0,false))))
theorem D2f:∀ n<256,0≤A8p ((n:Nat):Int)∧A8p ((n:Nat):Int)≤16777215:=by decide +kernel
theorem B0q {c:Col} (h:D8 c=0):0≤c.n∧c.n≤16777215∧(c.kind=1→c.n≤255):=by
 unfold D8 at h
 generalize hc:((((decide (c.kind<0))||(decide ((3:Int)≤c.kind)))||(decide (c.n<0)))||(decide ((([G4.a,G4.b,G4.c]:List Int).getD ((c.kind).toNat) 0)<c.n)))=b at h
 cases b with
 | true=>simp at h
 | false =>
  simp only [Bool.or_eq_false_iff,decide_eq_false_iff_not] at hc
  obtain ⟨⟨⟨h1,h2⟩,h3⟩,h4⟩:=hc
  have hk:c.kind=0∨c.kind=1∨c.kind=2:=by omega
  rcases hk with e | e | e
  ·rw [e] at h4;have h4:¬ ((0:Int)<c.n):=h4;omega
  ·rw [e] at h4;have h4:¬ ((255:Int)<c.n):=h4;omega
  ·rw [e] at h4;have h4:¬ ((16777215:Int)<c.n):=h4;omega
theorem C8m (c:Col):0≤(A4m c).1∧(A4m c).1≤16777215:=by
 unfold A4m
 by_cases h:D8 c=0
 ·have hi:=B0q h
  rw [decide_eq_true h]
  by_cases h1:c.kind=1
  ·rw [decide_eq_true h1]
   obtain ⟨n,e⟩:∃ n:Nat,c.n=n:=⟨c.n.toNat,by omega⟩
   show 0≤A8p c.n∧A8p c.n≤16777215
   rw [e];exact D2f n (by omega)
  ·rw [decide_eq_false h1]
   by_cases h2:c.kind=2
   ·rw [decide_eq_true h2];exact ⟨hi.1,hi.2.1⟩
   ·rw [decide_eq_false h2];exact ⟨Int.le_refl _,by show (0:Int)≤_;omega⟩
 ·rw [decide_eq_false h];exact ⟨Int.le_refl _,by show (0:Int)≤_;omega⟩
theorem D1q (c:Col) (R:Int×Bool) (hR:A4m c=R):K5 Tryz.prog 203 [ag (R8 c)] [Q3] (.tuple #[iv R.1,bv R.2]):=by
 refine zco Tryz.func203 [(0,ag (R8 c))] fun X hX hr hD=>?_
 replace hR:=(A4m.eq_1 ..).symm.trans hR
 refine sr 3 rfl (P1 3 0 [] (fun b1=>[(1,pt b1 0)]) (fun b1=>[bx b1 (R8 c) 24]) (fun b1=>(ie (A7 (sr 3 rfl (zrl 1 2 [0] [(4,ag (R8 c))] (zca (Z8 c _ rfl) fn0 (ip' 1 0 [(6,bv (!decide ((D8 c)=0)))] (ie ?_)))))))))
 refine zjn rfl hR ?_ ?_<;>clear hR<;>intro hR h2 h2p
 ·refine sr 2 rfl (ip' 2 0 [(2,iv 0),(3,bv false)] ?_)
  subst hR
  refine ie (B0 ?_)
  exact A9j hr hD
 refine A9 (nx (A7 (sr 2 rfl (zrl 2 0 [0] [(8,iv c.kind)] (ie (B2 (sr 2 rfl (ip' 2 0 [(9,bv (decide (c.kind=1)))] (ie ?_)))))))))
 refine zjd rfl hR ?_ ?_<;>clear hR<;>intro hR h3 h3p
 ·refine sr 5 rfl (zrl 2 3 [0] [(12,iv c.n)] (zca (D2r c.n (by first|omega|(have hci:=B0q (Decidable.of_not_not (by assumption));omega)) _ rfl) A0.refl (ip' 2 0 [(2,iv (A8p c.n)),(3,bv true)] ?_)))
  subst hR
  refine ie (B0 ?_)
  exact A9j hr hD
 refine sr 2 rfl (ip' 2 0 [(14,bv (decide (c.kind=2)))] (ie ?_))
 refine zjd rfl hR ?_ ?_<;>clear hR<;>intro hR h4 h4p
 ·refine sr 4 rfl (zrl 4 0 [0] [(2,iv c.n),(3,bv true)] ?_)
  subst hR
  refine ie (B0 ?_)
  exact A9j hr hD
 refine A9 (nx (sr 2 rfl (ip' 2 0 [(2,iv 0),(3,bv false)] ?_)))
 subst hR
 refine ie (B0 ?_)
 exact A9j hr hD
def A2m:Bool :=
 (decide ((bOp .and .i64 16 15)=0))
theorem A7a (R:Bool) (hR:A2m=R):K5 Tryz.prog 247 [iv 16] [] (bv R):=by
 refine zco Tryz.func247 [(0,iv 16)] fun X hX hr hD=>?_
 replace hR:=(A2m.eq_1 ..).symm.trans hR
 refine sr 1 rfl (ip' 1 0 [] (ie (sr 6 rfl (ip' 2 4 [(3,iv 16),(4,iv 16)] (ix rfl (M6 (c:=15) rfl rfl rfl rfl (by decide)) (ip' 3 0 [(2,bv (decide ((bOp .and .i64 16 15)=0)))] ?_))))))
 subst hR
 refine ie (B0 ?_)
 exact F8 hr hD
def W7:Int :=
 ((C9c.getD 15 0).toNat:Int)
theorem A9l (R:Int) (hR:W7=R):K5 Tryz.prog 252 [.int .u64 16] [P0] (iv R):=by
 refine zco Tryz.func252 [(0,.int .u64 16)] fun X hX hr hD=>?_
 replace hR:=(W7.eq_1 ..).symm.trans hR
 refine sr 1 rfl (ip' 1 0 [] (ie (A7 (sr 2 rfl (ip' 2 0 [(4,bv false)] (ie (A7y rfl (A9 (nx (sr 10 rfl (ip' 5 5 [(9,.int .u64 4573923408821661840)] (ix rfl (Q5 (c:=15) rfl rfl rfl (by decide) (by decide +kernel)) (ix rfl (D1e Tryz.underlying315 ty5 rfl rfl rfl 15 rfl (by first|decide|omega)) (ix rfl (C4 (v:=.int .u8 ((C9c.getD 15 0).toNat:Int)) (us:=[.int .u8 ((C9c.getD 15 0).toNat:Int)]) ty5 rfl rfl (O4 (c:=cU8) (sz:=1) rfl (fun _=>rfl) 0 rfl (gd 0 (by first|decide|(simp only [C9c,List.length_cons,List.length_nil];omega)))) rfl) (ix rfl (B2i (c:=((C9c.getD 15 0).toNat:Int)) Tryz.underlying3 (by kernel_rfl) rfl rfl (B1b (C9c.getD 15 0))) ?_)))))))))))))))
 refine ip' 1 0 [(2,iv ((C9c.getD 15 0).toNat:Int))] ?_
 subst hR
 refine ie (B0 ?_)
 exact F8 hr hD
def A6c:Int :=
 W7
theorem B0v (R:Int) (hR:A6c=R):K5 Tryz.prog 248 [.int .u64 16] [P0] (iv R):=by
 refine zco Tryz.func248 [(0,.int .u64 16)] fun X hX hr hD=>?_
 replace hR:=(A6c.eq_1 ..).symm.trans hR
 refine sr 1 rfl (ip' 1 0 [] (ie (A7 (A7y rfl (A9 (nx (sr 3 rfl (ip' 1 2 [(6,.int .u64 16)] (zca (A9l _ rfl) A0.refl (ip' 1 0 [(2,iv W7)] ?_))))))))))
 subst hR
 refine ie (B0 ?_)
 exact F8 hr hD
def Z7 (u:Int) (neg:Bool) (append:Bool):List UInt8 :=
 ([(J8.getD (((((((u / 16) / 16) / 16) / 16) / 16) / 16).toNat) 0),(J8.getD ((bOp .and .u64 (((((u / 16) / 16) / 16) / 16) / 16) 15).toNat) 0),(J8.getD ((bOp .and .u64 ((((u / 16) / 16) / 16) / 16) 15).toNat) 0),(J8.getD ((bOp .and .u64 (((u / 16) / 16) / 16) 15).toNat) 0),(J8.getD ((bOp .and .u64 ((u / 16) / 16) 15).toNat) 0),(J8.getD ((bOp .and .u64 (u / 16) 15).toNat) 0),(J8.getD ((bOp .and .u64 u 15).toNat) 0)]:List UInt8)
theorem A8b (u:Int) (neg:Bool) (append:Bool) (happ:append=false) (hneg:neg=false) (hu7:16777216≤u∧u≤33554431) (R:List UInt8) (hR:Z7 u neg append=R):K5 Tryz.prog 238 [.slice none 0 0,.int .u64 u,iv 16,bv neg,bv append] [P0] (.tuple #[.slice none 0 0,sv R]):=by
 refine zco Tryz.func238 [(0,.slice none 0 0),(1,.int .u64 u),(2,iv 16),(3,bv neg),(4,bv append)] fun X hX hr hD=>?_
 replace hR:=(Z7.eq_1 ..).symm.trans hR
 have hq0:=B0m u
 have hq1:=B0m (u / 16)
 have hq2:=B0m ((u / 16) / 16)
 have hq3:=B0m (((u / 16) / 16) / 16)
 have hq4:=B0m ((((u / 16) / 16) / 16) / 16)
 have hq5:=B0m (((((u / 16) / 16) / 16) / 16) / 16)
 have hq6:=B0m ((((((u / 16) / 16) / 16) / 16) / 16) / 16)
 refine sr 2 rfl (ip' 2 0 [(10,.slice none 0 0),(11,sv ([]:List UInt8))] (ie (A7 (sr 10 rfl (ip' 10 0 [(28,bv false)] (ie (A7y rfl (A9 (nx (sr 1 rfl (P1 1 0 [] (fun b1=>[(12,pt b1 0)]) (fun b1=>[bx b1 (List.replicate 65 (.int .u8 0)) 310]) (fun b1=>(ie (sr 1 rfl (ip' 1 0 [(13,iv 65)] (ie (A7 (sr 1 rfl (ip' 1 0 [(30,bv neg)] ?_)))))))))))))))))))
 refine ie (I9 rfl (fun h2=>?_) (fun h2=>?_))
 ·exfalso;rw [hneg] at h2;cases h2
 refine A9 (nx (A7 (sr 2 rfl (ip' 1 1 [(33,iv 16)] (zca (A7a true (by decide +kernel)) fn0 (ie (N5 rfl (sr 5 rfl (ip' 2 3 [(36,.int .u64 16)] (zca (B0v 4 (by decide +kernel)) A0.refl (ip' 2 0 [(14,.int .u64 4)] (ie (sr 3 rfl (ip' 3 0 [(15,.int .u64 16)] (ie (sr 4 rfl (ip' 4 0 [(16,.int .u64 15)] ?_)))))))))))))))))
 refine ie (A7 (B2 (A4z 7 ?_)))
 refine G0 (A7 (sr 3 rfl (ip' 3 0 [(46,bv (decide ((16:Int)≤u)))] ?_)))
 refine ie (I9 rfl (fun h3=>?_) (fun h3=>?_))
 ·have h3p:(16:Int)≤u:=by simpa using h3
  refine A9 (nx (B2 (sr 3 rfl (ip' 1 2 [(47,iv 65)] (ix rfl (M6 (c:=64) rfl rfl rfl rfl (by decide)) (ip' 1 0 [(13,iv 64)] (ie (sr 7 rfl (ip' 4 3 [(49,iv 64),(52,.int .u64 (bOp .and .u64 u 15))] (ix rfl (A7r (T:=9) Tryz.underlying9 rfl rfl rfl ((bOp .and .u64 u 15).toNat) (by omega) (by first|omega|(simp<;>omega)|(show _<36;omega))) (ix rfl (A5u Tryz.underlying310 ty5 rfl rfl rfl 64 rfl rfl) (zrg 1 0 [0] [] [bx b1 [.int .u8 0,.int .u8 0,.int .u8 0,.int .u8 0,.int .u8 0,.int .u8 0,.int .u8 0,.int .u8 0,.int .u8 0,.int .u8 0,.int .u8 0,.int .u8 0,.int .u8 0,.int .u8 0,.int .u8 0,.int .u8 0,.int .u8 0,.int .u8 0,.int .u8 0,.int .u8 0,.int .u8 0,.int .u8 0,.int .u8 0,.int .u8 0,.int .u8 0,.int .u8 0,.int .u8 0,.int .u8 0,.int .u8 0,.int .u8 0,.int .u8 0,.int .u8 0,.int .u8 0,.int .u8 0,.int .u8 0,.int .u8 0,.int .u8 0,.int .u8 0,.int .u8 0,.int .u8 0,.int .u8 0,.int .u8 0,.int .u8 0,.int .u8 0,.int .u8 0,.int .u8 0,.int .u8 0,.int .u8 0,.int .u8 0,.int .u8 0,.int .u8 0,.int .u8 0,.int .u8 0,.int .u8 0,.int .u8 0,.int .u8 0,.int .u8 0,.int .u8 0,.int .u8 0,.int .u8 0,.int .u8 0,.int .u8 0,.int .u8 0,.int .u8 0,.int .u8 ((J8.getD ((bOp .and .u64 u 15).toNat) 0).toNat:Int)] 310] ?_))))))))))))
  refine ie (A3 4 rfl (ip' 2 2 [(55,.int .u64 u),(56,.int .u64 4)] ?_))
  refine ix rfl (Q5 (c:=u / 16) rfl rfl rfl (by decide) (by simp [Int.fdiv_eq_ediv_of_nonneg,IntKind.bits])) (ip' 1 0 [(1,.int .u64 (u / 16))] (A6 (G0 (A7 (sr 3 rfl (ip' 3 0 [(46,bv (decide ((16:Int)≤(u / 16))))] ?_))))))
  refine ie (I9 rfl (fun h4=>?_) (fun h4=>?_))
  ·have h4p:(16:Int)≤(u / 16):=by simpa using h4
   refine A9 (nx (B2 (sr 3 rfl (ip' 1 2 [(47,iv 64)] (ix rfl (M6 (c:=63) rfl rfl rfl rfl (by decide)) (ip' 1 0 [(13,iv 63)] (ie (sr 7 rfl (ip' 4 3 [(49,iv 63),(52,.int .u64 (bOp .and .u64 (u / 16) 15))] (ix rfl (A7r (T:=9) Tryz.underlying9 rfl rfl rfl ((bOp .and .u64 (u / 16) 15).toNat) (by omega) (by first|omega|(simp<;>omega)|(show _<36;omega))) (ix rfl (A5u Tryz.underlying310 ty5 rfl rfl rfl 63 rfl rfl) (zrg 1 0 [0] [] [bx b1 [.int .u8 0,.int .u8 0,.int .u8 0,.int .u8 0,.int .u8 0,.int .u8 0,.int .u8 0,.int .u8 0,.int .u8 0,.int .u8 0,.int .u8 0,.int .u8 0,.int .u8 0,.int .u8 0,.int .u8 0,.int .u8 0,.int .u8 0,.int .u8 0,.int .u8 0,.int .u8 0,.int .u8 0,.int .u8 0,.int .u8 0,.int .u8 0,.int .u8 0,.int .u8 0,.int .u8 0,.int .u8 0,.int .u8 0,.int .u8 0,.int .u8 0,.int .u8 0,.int .u8 0,.int .u8 0,.int .u8 0,.int .u8 0,.int .u8 0,.int .u8 0,.int .u8 0,.int .u8 0,.int .u8 0,.int .u8 0,.int .u8 0,.int .u8 0,.int .u8 0,.int .u8 0,.int .u8 0,.int .u8 0,.int .u8 0,.int .u8 0,.int .u8 0,.int .u8 0,.int .u8 0,.int .u8 0,.int .u8 0,.int .u8 0,.int .u8 0,.int .u8 0,.int .u8 0,.int .u8 0,.int .u8 0,.int .u8 0,.int .u8 0,.int .u8 ((J8.getD ((bOp .and .u64 (u / 16) 15).toNat) 0).toNat:Int),.int .u8 ((J8.getD ((bOp .and .u64 u 15).toNat) 0).toNat:Int)] 310] ?_))))))))))))
   refine ie (A3 4 rfl (ip' 2 2 [(55,.int .u64 (u / 16)),(56,.int .u64 4)] ?_))
   refine ix rfl (Q5 (c:=(u / 16) / 16) rfl rfl rfl (by decide) (by simp [Int.fdiv_eq_ediv_of_nonneg,IntKind.bits])) (ip' 1 0 [(1,.int .u64 ((u / 16) / 16))] (A6 (G0 (A7 (sr 3 rfl (ip' 3 0 [(46,bv (decide ((16:Int)≤((u / 16) / 16))))] ?_))))))
   refine ie (I9 rfl (fun h5=>?_) (fun h5=>?_))
   ·have h5p:(16:Int)≤((u / 16) / 16):=by simpa using h5
    refine A9 (nx (B2 (sr 3 rfl (ip' 1 2 [(47,iv 63)] (ix rfl (M6 (c:=62) rfl rfl rfl rfl (by decide)) (ip' 1 0 [(13,iv 62)] (ie (sr 7 rfl (ip' 4 3 [(49,iv 62),(52,.int .u64 (bOp .and .u64 ((u / 16) / 16) 15))] (ix rfl (A7r (T:=9) Tryz.underlying9 rfl rfl rfl ((bOp .and .u64 ((u / 16) / 16) 15).toNat) (by omega) (by first|omega|(simp<;>omega)|(show _<36;omega))) (ix rfl (A5u Tryz.underlying310 ty5 rfl rfl rfl 62 rfl rfl) (zrg 1 0 [0] [] [bx b1 [.int .u8 0,.int .u8 0,.int .u8 0,.int .u8 0,.int .u8 0,.int .u8 0,.int .u8 0,.int .u8 0,.int .u8 0,.int .u8 0,.int .u8 0,.int .u8 0,.int .u8 0,.int .u8 0,.int .u8 0,.int .u8 0,.int .u8 0,.int .u8 0,.int .u8 0,.int .u8 0,.int .u8 0,.int .u8 0,.int .u8 0,.int .u8 0,.int .u8 0,.int .u8 0,.int .u8 0,.int .u8 0,.int .u8 0,.int .u8 0,.int .u8 0,.int .u8 0,.int .u8 0,.int .u8 0,.int .u8 0,.int .u8 0,.int .u8 0,.int .u8 0,.int .u8 0,.int .u8 0,.int .u8 0,.int .u8 0,.int .u8 0,.int .u8 0,.int .u8 0,.int .u8 0,.int .u8 0,.int .u8 0,.int .u8 0,.int .u8 0,.int .u8 0,.int .u8 0,.int .u8 0,.int .u8 0,.int .u8 0,.int .u8 0,.int .u8 0,.int .u8 0,.int .u8 0,.int .u8 0,.int .u8 0,.int .u8 0,.int .u8 ((J8.getD ((bOp .and .u64 ((u / 16) / 16) 15).toNat) 0).toNat:Int),.int .u8 ((J8.getD ((bOp .and .u64 (u / 16) 15).toNat) 0).toNat:Int),.int .u8 ((J8.getD ((bOp .and .u64 u 15).toNat) 0).toNat:Int)] 310] ?_))))))))))))
    refine ie (A3 4 rfl (ip' 2 2 [(55,.int .u64 ((u / 16) / 16)),(56,.int .u64 4)] ?_))
    refine ix rfl (Q5 (c:=((u / 16) / 16) / 16) rfl rfl rfl (by decide) (by simp [Int.fdiv_eq_ediv_of_nonneg,IntKind.bits])) (ip' 1 0 [(1,.int .u64 (((u / 16) / 16) / 16))] (A6 (G0 (A7 (sr 3 rfl (ip' 3 0 [(46,bv (decide ((16:Int)≤(((u / 16) / 16) / 16))))] ?_))))))
    refine ie (I9 rfl (fun h6=>?_) (fun h6=>?_))
    ·have h6p:(16:Int)≤(((u / 16) / 16) / 16):=by simpa using h6
     refine A9 (nx (B2 (sr 3 rfl (ip' 1 2 [(47,iv 62)] (ix rfl (M6 (c:=61) rfl rfl rfl rfl (by decide)) (ip' 1 0 [(13,iv 61)] (ie (sr 7 rfl (ip' 4 3 [(49,iv 61),(52,.int .u64 (bOp .and .u64 (((u / 16) / 16) / 16) 15))] (ix rfl (A7r (T:=9) Tryz.underlying9 rfl rfl rfl ((bOp .and .u64 (((u / 16) / 16) / 16) 15).toNat) (by omega) (by first|omega|(simp<;>omega)|(show _<36;omega))) (ix rfl (A5u Tryz.underlying310 ty5 rfl rfl rfl 61 rfl rfl) (zrg 1 0 [0] [] [bx b1 [.int .u8 0,.int .u8 0,.int .u8 0,.int .u8 0,.int .u8 0,.int .u8 0,.int .u8 0,.int .u8 0,.int .u8 0,.int .u8 0,.int .u8 0,.int .u8 0,.int .u8 0,.int .u8 0,.int .u8 0,.int .u8 0,.int .u8 0,.int .u8 0,.int .u8 0,.int .u8 0,.int .u8 0,.int .u8 0,.int .u8 0,.int .u8 0,.int .u8 0,.int .u8 0,.int .u8 0,.int .u8 0,.int .u8 0,.int .u8 0,.int .u8 0,.int .u8 0,.int .u8 0,.int .u8 0,.int .u8 0,.int .u8 0,.int .u8 0,.int .u8 0,.int .u8 0,.int .u8 0,.int .u8 0,.int .u8 0,.int .u8 0,.int .u8 0,.int .u8 0,.int .u8 0,.int .u8 0,.int .u8 0,.int .u8 0,.int .u8 0,.int .u8 0,.int .u8 0,.int .u8 0,.int .u8 0,.int .u8 0,.int .u8 0,.int .u8 0,.int .u8 0,.int .u8 0,.int .u8 0,.int .u8 0,.int .u8 ((J8.getD ((bOp .and .u64 (((u / 16) / 16) / 16) 15).toNat) 0).toNat:Int),.int .u8 ((J8.getD ((bOp .and .u64 ((u / 16) / 16) 15).toNat) 0).toNat:Int),.int .u8 ((J8.getD ((bOp .and .u64 (u / 16) 15).toNat) 0).toNat:Int),.int .u8 ((J8.getD ((bOp .and .u64 u 15).toNat) 0).toNat:Int)] 310] ?_))))))))))))
     refine ie (A3 4 rfl (ip' 2 2 [(55,.int .u64 (((u / 16) / 16) / 16)),(56,.int .u64 4)] ?_))
     refine ix rfl (Q5 (c:=(((u / 16) / 16) / 16) / 16) rfl rfl rfl (by decide) (by simp [Int.fdiv_eq_ediv_of_nonneg,IntKind.bits])) (ip' 1 0 [(1,.int .u64 ((((u / 16) / 16) / 16) / 16))] (A6 (G0 (A7 (sr 3 rfl (ip' 3 0 [(46,bv (decide ((16:Int)≤((((u / 16) / 16) / 16) / 16))))] ?_))))))
     refine ie (I9 rfl (fun h7=>?_) (fun h7=>?_))
     ·have h7p:(16:Int)≤((((u / 16) / 16) / 16) / 16):=by simpa using h7
      refine A9 (nx (B2 (sr 3 rfl (ip' 1 2 [(47,iv 61)] (ix rfl (M6 (c:=60) rfl rfl rfl rfl (by decide)) (ip' 1 0 [(13,iv 60)] (ie (sr 7 rfl (ip' 4 3 [(49,iv 60),(52,.int .u64 (bOp .and .u64 ((((u / 16) / 16) / 16) / 16) 15))] (ix rfl (A7r (T:=9) Tryz.underlying9 rfl rfl rfl ((bOp .and .u64 ((((u / 16) / 16) / 16) / 16) 15).toNat) (by omega) (by first|omega|(simp<;>omega)|(show _<36;omega))) (ix rfl (A5u Tryz.underlying310 ty5 rfl rfl rfl 60 rfl rfl) (zrg 1 0 [0] [] [bx b1 [.int .u8 0,.int .u8 0,.int .u8 0,.int .u8 0,.int .u8 0,.int .u8 0,.int .u8 0,.int .u8 0,.int .u8 0,.int .u8 0,.int .u8 0,.int .u8 0,.int .u8 0,.int .u8 0,.int .u8 0,.int .u8 0,.int .u8 0,.int .u8 0,.int .u8 0,.int .u8 0,.int .u8 0,.int .u8 0,.int .u8 0,.int .u8 0,.int .u8 0,.int .u8 0,.int .u8 0,.int .u8 0,.int .u8 0,.int .u8 0,.int .u8 0,.int .u8 0,.int .u8 0,.int .u8 0,.int .u8 0,.int .u8 0,.int .u8 0,.int .u8 0,.int .u8 0,.int .u8 0,.int .u8 0,.int .u8 0,.int .u8 0,.int .u8 0,.int .u8 0,.int .u8 0,.int .u8 0,.int .u8 0,.int .u8 0,.int .u8 0,.int .u8 0,.int .u8 0,.int .u8 0,.int .u8 0,.int .u8 0,.int .u8 0,.int .u8 0,.int .u8 0,.int .u8 0,.int .u8 0,.int .u8 ((J8.getD ((bOp .and .u64 ((((u / 16) / 16) / 16) / 16) 15).toNat) 0).toNat:Int),.int .u8 ((J8.getD ((bOp .and .u64 (((u / 16) / 16) / 16) 15).toNat) 0).toNat:Int),.int .u8 ((J8.getD ((bOp .and .u64 ((u / 16) / 16) 15).toNat) 0).toNat:Int),.int .u8 ((J8.getD ((bOp .and .u64 (u / 16) 15).toNat) 0).toNat:Int),.int .u8 ((J8.getD ((bOp .and .u64 u 15).toNat) 0).toNat:Int)] 310] ?_))))))))))))
      refine ie (A3 4 rfl (ip' 2 2 [(55,.int .u64 ((((u / 16) / 16) / 16) / 16)),(56,.int .u64 4)] ?_))
      refine ix rfl (Q5 (c:=((((u / 16) / 16) / 16) / 16) / 16) rfl rfl rfl (by decide) (by simp [Int.fdiv_eq_ediv_of_nonneg,IntKind.bits])) (ip' 1 0 [(1,.int .u64 (((((u / 16) / 16) / 16) / 16) / 16))] (A6 (G0 (A7 (sr 3 rfl (ip' 3 0 [(46,bv (decide ((16:Int)≤(((((u / 16) / 16) / 16) / 16) / 16))))] ?_))))))
      refine ie (I9 rfl (fun h8=>?_) (fun h8=>?_))
      ·have h8p:(16:Int)≤(((((u / 16) / 16) / 16) / 16) / 16):=by simpa using h8
       refine A9 (nx (B2 (sr 3 rfl (ip' 1 2 [(47,iv 60)] (ix rfl (M6 (c:=59) rfl rfl rfl rfl (by decide)) (ip' 1 0 [(13,iv 59)] (ie (sr 7 rfl (ip' 4 3 [(49,iv 59),(52,.int .u64 (bOp .and .u64 (((((u / 16) / 16) / 16) / 16) / 16) 15))] (ix rfl (A7r (T:=9) Tryz.underlying9 rfl rfl rfl ((bOp .and .u64 (((((u / 16) / 16) / 16) / 16) / 16) 15).toNat) (by omega) (by first|omega|(simp<;>omega)|(show _<36;omega))) (ix rfl (A5u Tryz.underlying310 ty5 rfl rfl rfl 59 rfl rfl) (zrg 1 0 [0] [] [bx b1 [.int .u8 0,.int .u8 0,.int .u8 0,.int .u8 0,.int .u8 0,.int .u8 0,.int .u8 0,.int .u8 0,.int .u8 0,.int .u8 0,.int .u8 0,.int .u8 0,.int .u8 0,.int .u8 0,.int .u8 0,.int .u8 0,.int .u8 0,.int .u8 0,.int .u8 0,.int .u8 0,.int .u8 0,.int .u8 0,.int .u8 0,.int .u8 0,.int .u8 0,.int .u8 0,.int .u8 0,.int .u8 0,.int .u8 0,.int .u8 0,.int .u8 0,.int .u8 0,.int .u8 0,.int .u8 0,.int .u8 0,.int .u8 0,.int .u8 0,.int .u8 0,.int .u8 0,.int .u8 0,.int .u8 0,.int .u8 0,.int .u8 0,.int .u8 0,.int .u8 0,.int .u8 0,.int .u8 0,.int .u8 0,.int .u8 0,.int .u8 0,.int .u8 0,.int .u8 0,.int .u8 0,.int .u8 0,.int .u8 0,.int .u8 0,.int .u8 0,.int .u8 0,.int .u8 0,.int .u8 ((J8.getD ((bOp .and .u64 (((((u / 16) / 16) / 16) / 16) / 16) 15).toNat) 0).toNat:Int),.int .u8 ((J8.getD ((bOp .and .u64 ((((u / 16) / 16) / 16) / 16) 15).toNat) 0).toNat:Int),.int .u8 ((J8.getD ((bOp .and .u64 (((u / 16) / 16) / 16) 15).toNat) 0).toNat:Int),.int .u8 ((J8.getD ((bOp .and .u64 ((u / 16) / 16) 15).toNat) 0).toNat:Int),.int .u8 ((J8.getD ((bOp .and .u64 (u / 16) 15).toNat) 0).toNat:Int),.int .u8 ((J8.getD ((bOp .and .u64 u 15).toNat) 0).toNat:Int)] 310] ?_))))))))))))
       refine ie (A3 4 rfl (ip' 2 2 [(55,.int .u64 (((((u / 16) / 16) / 16) / 16) / 16)),(56,.int .u64 4)] ?_))
       refine ix rfl (Q5 (c:=(((((u / 16) / 16) / 16) / 16) / 16) / 16) rfl rfl rfl (by decide) (by simp [Int.fdiv_eq_ediv_of_nonneg,IntKind.bits])) (ip' 1 0 [(1,.int .u64 ((((((u / 16) / 16) / 16) / 16) / 16) / 16))] (A6 (G0 (A7 (sr 3 rfl (ip' 3 0 [(46,bv (decide ((16:Int)≤((((((u / 16) / 16) / 16) / 16) / 16) / 16))))] ?_))))))
       refine ie (I9 rfl (fun h9=>?_) (fun h9=>?_))
       ·have h9p:(16:Int)≤((((((u / 16) / 16) / 16) / 16) / 16) / 16):=by simpa using h9
        exfalso;omega
       have h9p:¬ ((16:Int)≤((((((u / 16) / 16) / 16) / 16) / 16) / 16)):=by simpa using h9
       refine J1 (nx (sr 3 rfl (ip' 1 2 [(58,iv 59)] ?_)))
       refine ix rfl (M6 (c:=58) rfl rfl rfl rfl (by decide)) (ip' 1 0 [(13,iv 58)] (ie (A3 5 rfl (ip' 2 3 [(60,iv 58),(61,.int .u64 ((((((u / 16) / 16) / 16) / 16) / 16) / 16))] (ix rfl (A7r (T:=9) Tryz.underlying9 rfl rfl rfl (((((((u / 16) / 16) / 16) / 16) / 16) / 16).toNat) (by omega) (by first|omega|(simp<;>omega)|(show _<36;omega))) (ix rfl (A5u Tryz.underlying310 ty5 rfl rfl rfl 58 rfl rfl) (zrg 1 0 [0] [] [bx b1 [.int .u8 0,.int .u8 0,.int .u8 0,.int .u8 0,.int .u8 0,.int .u8 0,.int .u8 0,.int .u8 0,.int .u8 0,.int .u8 0,.int .u8 0,.int .u8 0,.int .u8 0,.int .u8 0,.int .u8 0,.int .u8 0,.int .u8 0,.int .u8 0,.int .u8 0,.int .u8 0,.int .u8 0,.int .u8 0,.int .u8 0,.int .u8 0,.int .u8 0,.int .u8 0,.int .u8 0,.int .u8 0,.int .u8 0,.int .u8 0,.int .u8 0,.int .u8 0,.int .u8 0,.int .u8 0,.int .u8 0,.int .u8 0,.int .u8 0,.int .u8 0,.int .u8 0,.int .u8 0,.int .u8 0,.int .u8 0,.int .u8 0,.int .u8 0,.int .u8 0,.int .u8 0,.int .u8 0,.int .u8 0,.int .u8 0,.int .u8 0,.int .u8 0,.int .u8 0,.int .u8 0,.int .u8 0,.int .u8 0,.int .u8 0,.int .u8 0,.int .u8 0,.int .u8 ((J8.getD (((((((u / 16) / 16) / 16) / 16) / 16) / 16).toNat) 0).toNat:Int),.int .u8 ((J8.getD ((bOp .and .u64 (((((u / 16) / 16) / 16) / 16) / 16) 15).toNat) 0).toNat:Int),.int .u8 ((J8.getD ((bOp .and .u64 ((((u / 16) / 16) / 16) / 16) 15).toNat) 0).toNat:Int),.int .u8 ((J8.getD ((bOp .and .u64 (((u / 16) / 16) / 16) 15).toNat) 0).toNat:Int),.int .u8 ((J8.getD ((bOp .and .u64 ((u / 16) / 16) 15).toNat) 0).toNat:Int),.int .u8 ((J8.getD ((bOp .and .u64 (u / 16) 15).toNat) 0).toNat:Int),.int .u8 ((J8.getD ((bOp .and .u64 u 15).toNat) 0).toNat:Int)] 310] (A6 (nx (A7 (sr 1 rfl (ip' 1 0 [(89,bv neg)] ?_))))))))))))
       refine ie (I9 rfl (fun h10=>?_) (fun h10=>?_))
       ·exfalso;rw [hneg] at h10;cases h10
       refine A9 (nx (A7 (sr 1 rfl (ip' 1 0 [(94,bv append)] ?_))))
       refine ie (I9 rfl (fun h11=>?_) (fun h11=>?_))
       ·exfalso;rw [happ] at h11;cases h11
       refine A9 (nx (sr 4 rfl (ip' 1 3 [(99,iv 58)] ?_)))
       refine A2u 0 rfl ?_
       refine C3 (q:=sl cU8 (some (Addr.add ⟨b1,0,none⟩ (58 * 1))) ([(J8.getD (((((((u / 16) / 16) / 16) / 16) / 16) / 16).toNat) 0),(J8.getD ((bOp .and .u64 (((((u / 16) / 16) / 16) / 16) / 16) 15).toNat) 0),(J8.getD ((bOp .and .u64 ((((u / 16) / 16) / 16) / 16) 15).toNat) 0),(J8.getD ((bOp .and .u64 (((u / 16) / 16) / 16) 15).toNat) 0),(J8.getD ((bOp .and .u64 ((u / 16) / 16) 15).toNat) 0),(J8.getD ((bOp .and .u64 (u / 16) 15).toNat) 0),(J8.getD ((bOp .and .u64 u 15).toNat) 0)]:List UInt8)) (A4e (A1 0 rfl) 58 7 rfl) ?_
       refine ix rfl (D1n Tryz.underlying310 ty5 rfl rfl rfl 58 rfl (by decide)) ?_
       have:([(J8.getD (((((((u / 16) / 16) / 16) / 16) / 16) / 16).toNat) 0),(J8.getD ((bOp .and .u64 (((((u / 16) / 16) / 16) / 16) / 16) 15).toNat) 0),(J8.getD ((bOp .and .u64 ((((u / 16) / 16) / 16) / 16) 15).toNat) 0),(J8.getD ((bOp .and .u64 (((u / 16) / 16) / 16) 15).toNat) 0),(J8.getD ((bOp .and .u64 ((u / 16) / 16) 15).toNat) 0),(J8.getD ((bOp .and .u64 (u / 16) 15).toNat) 0),(J8.getD ((bOp .and .u64 u 15).toNat) 0)]:List UInt8).length=7:=rfl
       refine ix rfl (B6b Tryz.underlying9 Tryz.underlying30 rfl rfl (A1 0 rfl) rfl (by kernel_rfl)) ?_
       have:([(J8.getD (((((((u / 16) / 16) / 16) / 16) / 16) / 16).toNat) 0),(J8.getD ((bOp .and .u64 (((((u / 16) / 16) / 16) / 16) / 16) 15).toNat) 0),(J8.getD ((bOp .and .u64 ((((u / 16) / 16) / 16) / 16) 15).toNat) 0),(J8.getD ((bOp .and .u64 (((u / 16) / 16) / 16) 15).toNat) 0),(J8.getD ((bOp .and .u64 ((u / 16) / 16) 15).toNat) 0),(J8.getD ((bOp .and .u64 (u / 16) 15).toNat) 0),(J8.getD ((bOp .and .u64 u 15).toNat) 0)]:List UInt8).length=7:=rfl
       refine ip' 1 0 [(11,sv ([(J8.getD (((((((u / 16) / 16) / 16) / 16) / 16) / 16).toNat) 0),(J8.getD ((bOp .and .u64 (((((u / 16) / 16) / 16) / 16) / 16) 15).toNat) 0),(J8.getD ((bOp .and .u64 ((((u / 16) / 16) / 16) / 16) 15).toNat) 0),(J8.getD ((bOp .and .u64 (((u / 16) / 16) / 16) 15).toNat) 0),(J8.getD ((bOp .and .u64 ((u / 16) / 16) 15).toNat) 0),(J8.getD ((bOp .and .u64 (u / 16) 15).toNat) 0),(J8.getD ((bOp .and .u64 u 15).toNat) 0)]:List UInt8))] ?_
       subst hR
       refine ie (B0 ?_)
       exact A9j hr hD
      have h8p:¬ ((16:Int)≤(((((u / 16) / 16) / 16) / 16) / 16)):=by simpa using h8
      exfalso;omega
     have h7p:¬ ((16:Int)≤((((u / 16) / 16) / 16) / 16)):=by simpa using h7
     exfalso;omega
    have h6p:¬ ((16:Int)≤(((u / 16) / 16) / 16)):=by simpa using h6
    exfalso;omega
   have h5p:¬ ((16:Int)≤((u / 16) / 16)):=by simpa using h5
   exfalso;omega
  have h4p:¬ ((16:Int)≤(u / 16)):=by simpa using h4
  exfalso;omega
 have h3p:¬ ((16:Int)≤u):=by simpa using h3
 exfalso;omega
def A0q (i:Int):List UInt8 :=
 (B5 (Z7 i (decide (i<0)) false) fun (y14:List UInt8)=>y14)
theorem A8t (i:Int) (hi7:16777216≤i∧i≤33554431) (R:List UInt8) (hR:A0q i=R):K5 Tryz.prog 223 [iv i,iv 16] [P0] (sv R):=by
 refine zco Tryz.func223 [(0,iv i),(1,iv 16)] fun X hX hr hD=>?_
 replace hR:=(A0q.eq_1 ..).symm.trans hR
 refine sr 1 rfl (ip' 1 0 [] (ie (A7 (sr 2 rfl (ip' 2 0 [(11,bv false)] (ie (A7y rfl (A9 (nx (sr 11 rfl (ip' 1 10 [(45,iv i)] (ix rfl (B2i (c:=i) Tryz.underlying150 (by kernel_rfl) rfl rfl (W6 (by first|(simp [IntKind.min,IntKind.signed,IntKind.bits];omega)|(simp [IntKind.max,IntKind.signed,IntKind.bits];omega)) (by first|(simp [IntKind.min,IntKind.signed,IntKind.bits];omega)|(simp [IntKind.max,IntKind.signed,IntKind.bits];omega)))) (ip' 3 6 [(47,iv 16),(49,bv (decide (i<0)))] ?_)))))))))))))
 have hQ:=C9 hR;clear hR;obtain ⟨y14,hy14,hR⟩:=hQ
 refine zca (A8b i (decide (i<0)) false (by rfl) (by simp;omega) (by omega) y14 hy14) A0.refl (ip' 5 0 [(9,sv y14)] (ie (sr 2 rfl (ip' 2 0 [(4,sv y14)] ?_))))
 subst hR
 refine ie (B0 ?_)
 exact F8 hr hD
def R4 (i:Int):List UInt8 :=
 (B5 (A0q i) fun (y18:List UInt8)=>y18)
theorem A7e (i:Int):(R4 i).length=7:=rfl
theorem B6t (i:Int) (hi7:16777216≤i∧i≤33554431) (R:List UInt8) (hR:R4 i=R):K5 Tryz.prog 204 [iv i,iv 16] [P0] (sv R):=by
 refine zco Tryz.func204 [(0,iv i),(1,iv 16)] fun X hX hr hD=>?_
 replace hR:=(R4.eq_1 ..).symm.trans hR
 refine sr 1 rfl (ip' 1 0 [] (ie (sr 4 rfl (ip' 2 2 [(5,iv i),(6,iv 16)] ?_))))
 have hQ:=C9 hR;clear hR;obtain ⟨y18,hy18,hR⟩:=hQ
 refine zca (A8t i (by omega) y18 hy18) A0.refl (ip' 1 0 [(4,sv y18)] ?_)
 subst hR
 refine ie (B0 ?_)
 exact F8 hr hD
theorem E8g {n:Int} (h:0≤n∧n≤16777215):bOp .or .i64 n 16777216=n+16777216:=by
 obtain ⟨m,rfl⟩:∃ m:Nat,n=m:=⟨n.toNat,by omega⟩
 have hm:m<16777216:=by omega
 have e:((BitVec.ofInt 64 (m:Int)) ||| (BitVec.ofInt 64 16777216)).toNat=m+16777216:=by
  rw [BitVec.toNat_or,BitVec.ofInt_natCast,BitVec.toNat_ofNat,Nat.mod_eq_of_lt (by omega)]
  show m ||| 16777216=_
  have:=Nat.two_pow_add_eq_or_of_lt (i:=24) (b:=m) (by omega) 1
  rw [show 2 ^ 24 * 1=16777216 by decide] at this
  rw [Nat.or_comm];omega
 show IntKind.i64.wrap (((BitVec.ofInt 64 (m:Int)) ||| (BitVec.ofInt 64 16777216)).toNat:Int)=_
 rw [e]
 exact (W6 (by show (-9223372036854775808:Int)≤_;omega) (by show _≤(9223372036854775807:Int);omega)).trans (by omega)
def A0r (c:Col):List UInt8×Int :=
 (bif (!decide ((D8 c)=0)) then (([]:List UInt8),(D8 c)) else (B5 (A4m c) fun (y10:Int×Bool)=>(bif (!y10.2) then (([]:List UInt8),2) else (B5 (R4 (bOp .or .i64 y10.1 16777216)) fun (y7:List UInt8)=>((((((([114,103,98,58]:List UInt8)++((y7.drop 1).take 2))++([47]:List UInt8))++(((y7.drop 1).drop 2).take (4 - 2)))++([47]:List UInt8))++((y7.drop 1).drop 4)),0)))))
theorem B5s (c:Col):(A0r c).1.length≤40:=by
 unfold A0r B5
 simp only [Bool.cond_eq_ite]
 repeat' split
 ·exact Nat.zero_le _
 ·exact Nat.zero_le _
 ·have:=A7e (bOp .or .i64 (A4m c).1 16777216)
  simp only [List.length_append,List.length_cons,List.length_nil,List.length_take,List.length_drop]
  omega
theorem C8a (c:Col) (R:List UInt8×Int) (hR:A0r c=R):K5 Tryz.prog 177 [ag (R8 c)] [Q3,P0] (.tuple #[sv R.1,iv R.2]):=by
 refine zco Tryz.func177 [(0,ag (R8 c))] fun X hX hr hD=>?_
 replace hR:=(A0r.eq_1 ..).symm.trans hR
 refine sr 3 rfl (P1 3 0 [] (fun b1=>[(1,pt b1 0)]) (fun b1=>[bx b1 (R8 c) 24]) (fun b1=>(ie (A7 (sr 3 rfl (zrl 1 2 [0] [(8,ag (R8 c))] (zca (Z8 c _ rfl) fn0 (ip' 1 0 [(4,iv (D8 c))] (ie (sr 2 rfl (ip' 2 0 [(11,bv (!decide ((D8 c)=0)))] (ie ?_))))))))))))
 refine zjn rfl hR ?_ ?_<;>clear hR<;>intro hR h2 h2p
 ·refine sr 3 rfl (ip' 3 0 [(2,sv ([]:List UInt8)),(3,iv (D8 c))] ?_)
  subst hR
  refine ie (B0 ?_)
  exact A9j hr hD
 refine A9 (nx (sr 7 rfl (zrl 1 6 [0] [(14,ag (R8 c))] ?_)))
 have hQ:=C9 hR;clear hR;obtain ⟨y10,hy10,hR⟩:=hQ
 refine zca (D1q c y10 hy10) (A0.pick [0] rfl) ?_
 have:=C8m c;try rw [hy10] at this
 refine ip' 5 0 [(5,iv y10.1),(6,bv y10.2)] (ie (A7 (sr 2 rfl (ip' 2 0 [(19,bv (!y10.2))] (ie ?_)))))
 refine zjb rfl hR ?_ ?_<;>clear hR<;>intro hR h3
 ·refine sr 2 rfl (ip' 2 0 [(2,sv ([]:List UInt8)),(3,iv 2)] ?_)
  subst hR
  refine ie (B0 ?_)
  exact A9j hr hD
 refine A9 (nx (sr 5 rfl (ip' 2 3 [(21,iv (bOp .or .i64 y10.1 16777216))] ?_)))
 have hQ:=C9 hR;clear hR;obtain ⟨y7,hy7,hR⟩:=hQ
 refine zca (B6t (bOp .or .i64 y10.1 16777216) (by first|omega|(rw [E8g (by omega)];omega)) y7 hy7) (A0.pick [1] rfl) ?_
 have:=A7e (bOp .or .i64 y10.1 16777216);try rw [hy7] at this
 refine ix rfl (B7g (T:=9) Tryz.underlying9 rfl rfl rfl 1 rfl (by omega)) ?_
 have:=@List.length_drop _ 1 y7
 refine ip' 1 0 [(7,sv (y7.drop 1))] (ie (sd 13 rfl (by kernel_rfl) rfl (dp' 1 12 [(24,sv (y7.drop 1))] (dd rfl (B5e (T:=9) Tryz.underlying9 rfl rfl rfl 2 rfl (by omega)) ?_))))
 have:=@List.length_drop _ 1 y7
 have:=@List.length_take _ 2 (y7.drop 1)
 refine dd rfl (zst rfl rfl rfl) (dd rfl (zst rfl rfl rfl) (dp' 1 8 [(28,sv (y7.drop 1))] (dd rfl (C5a (T:=9) Tryz.underlying9 rfl rfl rfl rfl 2 rfl 4 rfl (by omega) (by omega)) ?_)))
 have:=@List.length_drop _ 1 y7
 have:=@List.length_drop _ 2 (y7.drop 1)
 have:=@List.length_take _ (4 - 2) ((y7.drop 1).drop 2)
 refine dd rfl (zst rfl rfl rfl) (dd rfl (zst rfl rfl rfl) (dp' 1 4 [(32,sv (y7.drop 1))] (dd rfl (B7g (T:=9) Tryz.underlying9 rfl rfl rfl 4 rfl (by omega)) ?_)))
 have:=@List.length_drop _ 1 y7
 have:=@List.length_drop _ 4 (y7.drop 1)
 refine dd rfl (zst rfl rfl rfl) (dp' 2 0 [(2,sv (((((([114,103,98,58]:List UInt8)++((y7.drop 1).take 2))++([47]:List UInt8))++(((y7.drop 1).drop 2).take (4 - 2)))++([47]:List UInt8))++((y7.drop 1).drop 4))),(3,iv 0)] ?_)
 subst hR
 refine de (B0 ?_)
 exact A9j hr hD
def A6p (a:Act):Option (List UInt8) :=
 (Option.bind (A7j a ({Act.zero with kind:=a.kind,n:=a.n,color:=a.color})) fun (r:Unit)=>(B5 (A0r a.color) fun (y9:List UInt8×Int)=>(Option.bind (Y0 ((((decide (y9.2=0))&&(decide (a.color.kind=2)))&&(decide ((0:Int)≤a.n)))&&(decide (a.n≤255)))) fun (r1:Unit)=>(some (((([52,59]:List UInt8)++(Lib.itoa a.n))++([59]:List UInt8))++y9.1)))))
theorem C5r (a:Act) (R:Option (List UInt8)) (hR:A6p a=R):B8s Tryz.prog 176 [ag (A5 a)] [] [Q3,P0,M3] A0i R (fun r=>sv r):=by
 refine A4n (n:=46) Tryz.func176 rfl (by kernel_rfl) rfl rfl [(0,ag (A5 a))] ⟨rfl,trivial⟩ fun X hX hr hD=>?_
 replace hR:=(A6p.eq_1 ..).symm.trans hR
 refine sr 2 rfl (P1 2 0 [] (fun b1=>[(1,pt b1 0)]) (fun b1=>[bx b1 (A5 a) 26]) (fun b1=>(ie (sr 9 rfl (zrl 8 1 [0,0,0,0] [(5,ag (A5 a)),(12,ag (A5 ({Act.zero with kind:=a.kind,n:=a.n,color:=a.color})))] ?_)))))
 refine Y9 (L2:=[bx b1 (A5 a) 26]) (B5t a ({Act.zero with kind:=a.kind,n:=a.n,color:=a.color}) _ rfl) rfl rfl rfl rfl rfl rfl fn0 (List.Perm.refl _) (fun r hs2=>?_) (fun hn3=>?_)
 ·replace hR:=A9b hR hs2
  refine ie (sr 8 rfl (zrl 2 6 [0] [(16,ag (R8 a.color))] ?_))
  have hQ:=C9 hR;clear hR;obtain ⟨y9,hy9,hR⟩:=hQ
  refine zca (C8a a.color y9 hy9) (A0.pick [0,1] rfl) ?_
  have:=B5s a.color;try rw [hy9] at this
  refine ip' 5 0 [(3,sv y9.1),(4,iv y9.2)] (ie (sr 19 rfl (ip' 3 16 [(22,bv (decide (y9.2=0)))] ?_)))
  refine zid 5 11 22 27 (decide (a.color.kind=2)) (fun g4 g4p=>?_) ?_
  ·refine zrl 5 0 [0] [(27,bv (decide (a.color.kind=2)))] ?_
   exact zai 2 22 27 g4
  refine ip' 1 10 [(28,bv ((decide (y9.2=0))&&(decide (a.color.kind=2))))] ?_
  refine zia 4 6 28 32 (decide ((0:Int)≤a.n)) (fun g5=>?_) ?_
  ·have g5p:(y9.2=0)∧(a.color.kind=2):=by simpa using g5
   refine zrl 4 0 [0] [(32,bv (decide ((0:Int)≤a.n)))] ?_
   exact zai 2 28 32 g5
  refine ip' 1 5 [(33,bv (((decide (y9.2=0))&&(decide (a.color.kind=2)))&&(decide ((0:Int)≤a.n))))] ?_
  refine zia 4 1 33 37 (decide (a.n≤255)) (fun g6=>?_) ?_
  ·have g6p:((y9.2=0)∧(a.color.kind=2))∧((0:Int)≤a.n):=by simpa using g6
   refine zrl 4 0 [0] [(37,bv (decide (a.n≤255)))] ?_
   exact zai 2 33 37 g6
  refine Y9 (L2:=[bx b1 (A5 a) 26]) (A2t ((((decide (y9.2=0))&&(decide (a.color.kind=2)))&&(decide ((0:Int)≤a.n)))&&(decide (a.n≤255))) _ rfl) rfl rfl rfl rfl rfl rfl fn0 (List.Perm.refl _) (fun r1 hs7=>?_) (fun hn8=>?_)
  ·replace hR:=A9b hR hs7
   have hmu:=S5 hs7;try simp only [Bool.and_eq_true,decide_eq_true_eq] at hmu
   refine ie (sr 8 rfl (zrl 2 6 [0] [(40,iv a.n)] (zca (D9k a.n (by first|omega|(exact ⟨by omega,by omega⟩))) (A0.pick [2] rfl) ?_)))
   have:=B8w a.n (by omega) (by omega)
   refine ix rfl (zst rfl rfl rfl) (ix rfl (zst rfl rfl rfl) (ip' 1 2 [(44,sv y9.1)] (ix rfl (zst rfl rfl rfl) (ip' 1 0 [(2,sv (((([52,59]:List UInt8)++(Lib.itoa a.n))++([59]:List UInt8))++y9.1))] (ie (B0 ?_))))))
   exact A9p rfl ⟨hr,hD⟩ (by simp [hD]) (O3 rfl (B8 rfl)) hR.symm rfl
  ·replace hR:=A9a hR hn8
   exact N9 ⟨hr,hD⟩ hR.symm
 ·replace hR:=A9a hR hn3
  exact N9 ⟨hr,hD⟩ hR.symm
def U1 (p0n:Int) (p0m:Int) (p0color:Col) (p0text:List UInt8):Option (List UInt8) :=
 (Option.bind (Y0 true) fun (r:Unit)=>(Option.bind (A6p (⟨45,p0n,p0m,p0color,p0text⟩:Act)) fun (r1:List UInt8)=>(some r1)))
theorem C3t (p0n:Int) (p0m:Int) (p0color:Col) (p0text:List UInt8) (p0p:Addr) (hs:p0text.length≤100000000) (R:Option (List UInt8)) (hR:U1 p0n p0m p0color p0text=R):B8s Tryz.prog 119 [pa p0p] [] [at_ p0p (A5 (⟨45,p0n,p0m,p0color,p0text⟩:Act)),Q3,P0,M3] A0i R (fun r=>sv r):=by
 refine A4n (n:=16) Tryz.func119 rfl (by kernel_rfl) rfl rfl [(0,pa p0p)] ⟨rfl,trivial⟩ fun X hX hr hD=>?_
 replace hR:=(U1.eq_1 ..).symm.trans hR
 refine sr 1 rfl (ip' 1 0 [] (ie (sh 9 [] [at_ p0p (A5 (⟨45,p0n,p0m,p0color,p0text⟩:Act)),Q3,P0,M3] [] (zml 9 0) (by kernel_rfl) rfl (by kernel_rfl) (by kernel_rfl) (by kernel_rfl) (mk [] rfl) A0.refl ?_)))
 refine zhp [1] 8 (zml 9 2) [(6,pa p0p)] ?_
 refine zhk 2 (zml 9 6) rfl (C4 (v:=iv 45) (us:=[iv 45]) ty3 rfl rfl (U3 (A1 0 rfl) (ws:=[iv 45]) 1 rfl) rfl) ?_
 refine zho 0 [] (zml 9 7) rfl (C2 (L2:=[]) (B3v _ rfl) rfl rfl rfl rfl rfl fn0 (List.Perm.refl _) (fun b1=>[(b1,.map #[⟨iv 44,.func (.func 173) #[] #[],0⟩,⟨iv 45,.func (.func 176) #[] #[],1⟩,⟨iv 46,.func (.func 179) #[] #[],2⟩] 3)]) (fun _=>rfl)) (fun b1=>(mk [false] rfl)) (fun b1=>A0.refl) fun b1=>?_
 refine zho 3 [] (zml 9 15) rfl (Det.tri (J0.det (B7o (v:=.func (.func 176) #[] #[]) (j:=1) C0t rfl rfl rfl 0 rfl (by kernel_rfl)))) (fun _=>(mk [false] rfl)) (fun _=>A0.refl) fun _=>?_
 refine zhp [4,5,6,7,8] 0 (zml 9 511) [(2,.func (.func 176) #[] #[]),(3,bv true)] ?_
 refine A8j (by kernel_rfl) ?_
 refine sr 2 rfl (ip' 1 1 [(11,bv true)] ?_)
 refine Y9 (L2:=[(b1,.map #[⟨iv 44,.func (.func 173) #[] #[],0⟩,⟨iv 45,.func (.func 176) #[] #[],1⟩,⟨iv 46,.func (.func 179) #[] #[],2⟩] 3)]) (A2t true _ rfl) rfl rfl rfl rfl rfl rfl fn0 (List.Perm.refl _) (fun r hs2=>?_) (fun hn3=>?_)
 ·replace hR:=A9b hR hs2
  have hmu:=S5 hs2;try simp only [Bool.and_eq_true,decide_eq_true_eq] at hmu
  refine ie (sr 4 rfl (ip' 1 3 [(13,.func (.func 176) #[] #[])] (ix rfl (P5 (us:=A5 (⟨45,p0n,p0m,p0color,p0text⟩:Act)) B4z rfl rfl (A1 0 rfl) rfl) ?_)))
  refine Y9 (L2:=[(b1,.map #[⟨iv 44,.func (.func 173) #[] #[],0⟩,⟨iv 45,.func (.func 176) #[] #[],1⟩,⟨iv 46,.func (.func 179) #[] #[],2⟩] 3)]) (C5r (⟨45,p0n,p0m,p0color,p0text⟩:Act) _ rfl) rfl rfl rfl rfl rfl rfl (A0.pick [1,2,3] rfl) (List.Perm.refl _) (fun r1 hs4=>?_) (fun hn5=>?_)
  ·replace hR:=A9b hR hs4
   refine ip' 1 0 [(1,sv r1)] (ie (B0 ?_))
   exact A9p rfl ⟨hr,hD⟩ (by simp [hD]) (O3 rfl (B8 rfl)) hR.symm rfl
  ·replace hR:=A9a hR hn5
   exact N9 ⟨hr,hD⟩ hR.symm
 ·replace hR:=A9a hR hn3
  exact N9 ⟨hr,hD⟩ hR.symm
def Y5 (an:Int) (am:Int) (acolor:Col) (atext:List UInt8):List UInt8×Int :=
 (bif (!((A1t (U1 an am acolor atext)).2)) then (([]:List UInt8),2) else ((A1t (U1 an am acolor atext)).1,0))
theorem A9u (an am:Int) (c:Col) (t:List UInt8):(Y5 an am c t).1.length≤t.length+6000:=by
 have key:∀ s,U1 an am c t=some s→s.length≤t.length+6000:=by
  intro s h
  unfold U1 A6p at h
  simp only [Option.bind_eq_some_iff,Option.some.injEq] at h
  obtain ⟨_,_,r1,⟨_,_,h2⟩,h3⟩:=h
  unfold B5 at h2
  simp only [Option.bind_eq_some_iff,Option.some.injEq] at h2
  obtain ⟨_,hm,h2⟩:=h2
  have hm:=S5 hm
  simp only [Bool.and_eq_true,decide_eq_true_eq] at hm
  have:=B5s c
  have:=B8w an (by omega) (by omega)
  rw [← h3,← h2]
  simp only [List.length_append,List.length_cons,List.length_nil]
  omega
 unfold Y5
 cases hR:U1 an am c t with
 | none=>simp [A1t]
 | some s=>have:=key s hR;simp [A1t];omega
theorem B9i (an:Int) (am:Int) (acolor:Col) (atext:List UInt8) (hs:atext.length≤100000000) (R:List UInt8×Int) (hR:Y5 an am acolor atext=R):K5 Tryz.prog 65 [ag (A5 (⟨45,an,am,acolor,atext⟩:Act))] [Q3,P0,M3] (.tuple #[sv R.1,iv R.2]):=by
 refine zco Tryz.func65 [(0,ag (A5 (⟨45,an,am,acolor,atext⟩:Act)))] fun X hX hr hD=>?_
 replace hR:=(Y5.eq_1 ..).symm.trans hR
 refine sr 3 rfl (it rfl (Z5 (cs:=A5 (⟨45,an,am,acolor,atext⟩:Act)) rfl rfl rfl) fun b1=>?_)
 refine A2u 0 rfl ?_
 refine ip' 2 0 [] (ie (sr 7 rfl (ip' 1 6 [(7,.func (.func 119) #[] #[pa ⟨b1,0,none⟩])] (zca (D3w (cap:=[pa ⟨b1,0,none⟩]) _ (C3t an am acolor atext ⟨b1,0,none⟩ (by omega) _ rfl)) A0.refl (ip' 5 0 [(4,sv ((A1t (U1 an am acolor atext)).1)),(5,bv ((A1t (U1 an am acolor atext)).2))] (ie (A7 (sr 2 rfl (ip' 2 0 [(12,bv (!((A1t (U1 an am acolor atext)).2)))] (ie ?_))))))))))
 refine zjb rfl hR ?_ ?_<;>clear hR<;>intro hR h2
 ·refine sr 2 rfl (ip' 2 0 [(2,sv ([]:List UInt8)),(3,iv 2)] ?_)
  subst hR
  refine ie (B0 ?_)
  exact A9j hr hD
 refine A9 (nx (sr 3 rfl (ip' 3 0 [(2,sv ((A1t (U1 an am acolor atext)).1)),(3,iv 0)] ?_)))
 subst hR
 refine ie (B0 ?_)
 exact A9j hr hD
def A2x (an:Int) (am:Int) (acolor:Col) (atext:List UInt8):List UInt8 :=
 (B5 (Y5 an am acolor atext) fun (y12:List UInt8×Int)=>((([27,93]:List UInt8)++y12.1)++([27,92]:List UInt8)))
theorem B9c (an:Int) (am:Int) (acolor:Col) (atext:List UInt8) (hs:atext.length≤100000000) (R:List UInt8) (hR:A2x an am acolor atext=R):K5 Tryz.prog 77 [ag (A5 (⟨45,an,am,acolor,atext⟩:Act))] [Q3,P0,M3] (sv R):=by
 refine zco Tryz.func77 [(0,ag (A5 (⟨45,an,am,acolor,atext⟩:Act)))] fun X hX hr hD=>?_
 replace hR:=(A2x.eq_1 ..).symm.trans hR
 refine sr 2 rfl (P1 2 0 [] (fun b1=>[(1,pt b1 0)]) (fun b1=>[bx b1 (A5 (⟨45,an,am,acolor,atext⟩:Act)) 26]) (fun b1=>(ie (sr 7 rfl (zrl 1 6 [0] [(6,ag (A5 (⟨45,an,am,acolor,atext⟩:Act)))] ?_)))))
 have hQ:=C9 hR;clear hR;obtain ⟨y12,hy12,hR⟩:=hQ
 refine zca (B9i an am acolor atext (by first|omega|(simp<;>omega)) y12 hy12) A0.refl ?_
 have:=A9u an am acolor atext;try rw [hy12] at this
 refine ip' 5 0 [(3,sv y12.1)] (ie (sr 4 rfl (ip' 1 3 [(10,sv y12.1)] (ix rfl (zst rfl rfl rfl) (ix rfl (zst rfl rfl rfl) (ip' 1 0 [(2,sv ((([27,93]:List UInt8)++y12.1)++([27,92]:List UInt8)))] ?_))))))
 subst hR
 refine ie (B0 ?_)
 exact F8 hr hD
def A4i (w r:Int):Prop:=(w=0∧r=0)∨(w=2∧0≤r∧r<4)∨(w=4∧0≤r∧r<16)∨(w=6∧0≤r∧r<64)∨(w=8∧0≤r∧r<256)∨(w=10∧0≤r∧r<1024)∨(w=12∧0≤r∧r<4096)
theorem or8:∀ a<16,∀ n<256,bOp .or .i64 (((a:Nat):Int) * 256) ((n:Nat):Int)=((a:Nat):Int) * 256+((n:Nat):Int):=by decide +kernel
theorem E7k:∀ a<64,∀ b<64,bOp .and .i64 ((a * 64+b:Nat):Int) 63=((b:Nat):Int):=by decide +kernel
theorem E8j (a:Nat) (h:a<4096):bOp .and .i64 ((a:Nat):Int) 63=((a:Nat):Int) % 64:=by
 have:=E7k (a / 64) (by omega) (a % 64) (by omega)
 rw [show a / 64 * 64+a % 64=a by omega] at this
 rw [this];omega
theorem E7x:∀ a<1024,bOp .and .i64 ((a:Nat):Int) 15=((a:Nat):Int) % 16:=by decide +kernel
theorem E7b:∀ a<256,bOp .and .i64 ((a:Nat):Int) 3=((a:Nat):Int) % 4:=by decide +kernel
theorem E8k:∀ a<64,bOp .and .i64 ((a:Nat):Int) 0=0:=by decide +kernel
theorem D9o {p1 p3 n:Int} (h:A4i p3 p1) (h4:p3≤4) (hn:0≤n∧n≤255):A4i (p3+8) (bOp .or .i64 (p1 * 256) n):=by
 obtain ⟨m,rfl⟩:∃ m:Nat,n=m:=⟨n.toNat,by omega⟩
 unfold A4i at h
 obtain ⟨a,rfl⟩:∃ a:Nat,p1=a:=⟨p1.toNat,by omega⟩
 rw [or8 a (by omega) m (by omega)]
 unfold A4i;omega
theorem E5b {t1 t3:Int} (h:A4i t3 t1) (h6:6≤t3):0≤Int.fdiv t1 (2 ^ (min ((t3 - 6)).toNat 64))∧Int.fdiv t1 (2 ^ (min ((t3 - 6)).toNat 64))<64:=by
 unfold A4i at h
 rw [Int.fdiv_eq_ediv_of_nonneg _ (Int.pow_nonneg (by decide))]
 rcases h with h | h | h | h | h | h | h
 ·omega
 ·omega
 ·omega
 ·rw [h.1];show 0≤t1 / 1∧t1 / 1<64;omega
 ·rw [h.1];show 0≤t1 / 4∧t1 / 4<64;omega
 ·rw [h.1];show 0≤t1 / 16∧t1 / 16<64;omega
 ·rw [h.1];show 0≤t1 / 64∧t1 / 64<64;omega
theorem E5f {t1 t3:Int} (h:A4i t3 t1):1≤IntKind.i64.wrap ((1:Int) * 2 ^ (min ((t3 - 6)).toNat 64))∧IntKind.i64.wrap ((1:Int) * 2 ^ (min ((t3 - 6)).toNat 64))≤64:=by
 unfold A4i at h
 rcases h with h | h | h | h | h | h | h<;>rw [h.1]<;>decide
theorem D0o {t1 t3:Int} (h:A4i t3 t1) (h6:6≤t3):A4i (t3 - 6) (bOp .and .i64 t1 ((IntKind.i64.wrap ((1:Int) * 2 ^ (min ((t3 - 6)).toNat 64))) - 1)):=by
 unfold A4i at h
 obtain ⟨a,rfl⟩:∃ a:Nat,t1=a:=⟨t1.toNat,by omega⟩
 rcases h with h | h | h | h | h | h | h
 ·omega
 ·omega
 ·omega
 ·rw [h.1];show A4i 0 (bOp .and .i64 (a:Int) 0);rw [E8k a (by omega)];unfold A4i;omega
 ·rw [h.1];show A4i 2 (bOp .and .i64 (a:Int) 3);rw [E7b a (by omega)];unfold A4i;omega
 ·rw [h.1];show A4i 4 (bOp .and .i64 (a:Int) 15);rw [E7x a (by omega)];unfold A4i;omega
 ·rw [h.1];show A4i 6 (bOp .and .i64 (a:Int) 63);rw [E8j a (by omega)];unfold A4i;omega
theorem D9y {w r:Int} (h:A4i w r) (hw:0<w) (h4:w≤4):0≤IntKind.i64.wrap (r * 2 ^ (min ((6:Int) - w).toNat 64))∧IntKind.i64.wrap (r * 2 ^ (min ((6:Int) - w).toNat 64))<64:=by
 unfold A4i at h
 have key:∀ x:Int,0≤x→x<64→0≤IntKind.i64.wrap x∧IntKind.i64.wrap x<64:=fun x h0 h1=>by
  rw [W6 (by show (-9223372036854775808:Int)≤x;omega) (by show x≤(9223372036854775807:Int);omega)];exact ⟨h0,h1⟩
 rcases h with h | h | h | h | h | h | h
 ·omega
 ·rw [h.1];exact key (r * 16) (by omega) (by omega)
 ·rw [h.1];exact key (r * 4) (by omega) (by omega)
 all_goals omega
def B4m:Unit :=
 ()
theorem C0e (handcb:Nat) (R:Unit) (hR:B4m=R):Con Tryz.prog 206 [iv 8,iv 6,.func (.func 207) #[] #[pt handcb 0]] [bx handcb [.pointer none,.slice none 0 0] 91] [] (Nat×Nat×Nat×Nat×Nat) (fun x=>.func (.func 224) #[] #[pt x.1 0,pt x.2.1 0,pt x.2.2.1 0,pt x.2.2.2.1 0,pt x.2.2.2.2 0]) (fun x=>[bx handcb [.pointer none,.slice none 0 0] 91,bx x.1 [iv 0] 3,bx x.2.1 [iv 8] 3,bx x.2.2.1 [iv 0] 3,bx x.2.2.2.1 [iv 6] 3,bx x.2.2.2.2 [.func (.func 207) #[] #[pt handcb 0]] 92]) (fun x=>[]):=by
 refine zco Tryz.func206 [(0,iv 8),(1,iv 6),(2,.func (.func 207) #[] #[pt handcb 0])] fun X hX hr hD=>?_
 replace hR:=(B4m.eq_1 ..).symm.trans hR
 refine sr 4 rfl (E9f 4 0 [] (fun b1 b2 b3=>[(3,pt b1 0),(4,pt b2 0),(5,pt b3 0)]) (fun b1 b2 b3=>[bx b3 [.func (.func 207) #[] #[pt handcb 0]] 92,bx b2 [iv 6] 3,bx b1 [iv 8] 3,bx handcb [.pointer none,.slice none 0 0] 91]) (fun b1 b2 b3=>(ie (sr 4 rfl (B9z 4 0 [1,0] (fun b4 b5=>[(7,pt b4 0),(8,pt b5 0)]) (fun b4 b5=>[bx b5 [iv 0] 3,bx b4 [iv 0] 3,bx b3 [.func (.func 207) #[] #[pt handcb 0]] 92,bx b2 [iv 6] 3,bx b1 [iv 8] 3,bx handcb [.pointer none,.slice none 0 0] 91]) (fun b4 b5=>(ie (sr 2 rfl (ip' 2 0 [(6,.func (.func 224) #[] #[pt b5 0,pt b1 0,pt b4 0,pt b2 0,pt b3 0])] ?_)))))))))
 subst hR
 refine ie (B0 (A2r (L9 [[bx b5 [iv 0] 3],[bx b4 [iv 0] 3],[bx b3 [.func (.func 207) #[] #[pt handcb 0]] 92],[bx b2 [iv 6] 3],[bx b1 [iv 8] 3],[bx handcb [.pointer none,.slice none 0 0] 91]] [5,0,4,1,3,2] 6 rfl (by decide) rfl [[bx handcb [.pointer none,.slice none 0 0] 91],[bx b5 [iv 0] 3],[bx b1 [iv 8] 3],[bx b4 [iv 0] 3],[bx b2 [iv 6] 3],[bx b3 [.func (.func 207) #[] #[pt handcb 0]] 92]] rfl (by first|rfl|simp)) ?_))
 exact zer hr hD (O3 rfl (B8 rfl)) (b5,b1,b4,b2,b3) (mk [true,true,true,true,true,true] rfl) fn0
def M2 (bbuf:List UInt8) (c:UInt8):List UInt8 :=
 (bbuf++([c]:List UInt8))
theorem X0 (bbuf:List UInt8) (c:UInt8):(M2 bbuf c).length=bbuf.length+1:=by simp [M2]
theorem A2y (bbuf:List UInt8) (c:UInt8) (bb:Nat) (baddrz:Option Addr) (bbufr:VR) (hzbaddrz:baddrz=none∨baddrz=some ⟨bb,0,none⟩) (hokbbufr:VOk 1 bbuf.length bbufr) (hb:bbuf.length≤100000) (R:List UInt8) (hR:M2 bbuf c=R):Con Tryz.prog 208 [pt bb 0,.int .u8 (c.toNat:Int)] (bx bb [.pointer baddrz,.slice (va bbufr.q) bbuf.length bbufr.k] 91::(vo cU8 5 bbufr bbuf)++([])) [] ({r:VR // VOk 1 R.length r}) (fun x=>.nilIface) (fun x=>(bx bb [pt bb 0,.slice (va x.1.q) R.length x.1.k] 91::(vo cU8 5 x.1 R)++([]))) (fun x=>[]):=by
 refine zco Tryz.func208 [(0,pt bb 0),(1,.int .u8 (c.toNat:Int))] fun X hX hr hD=>?_
 replace hR:=(M2.eq_1 ..).symm.trans hR
 have:=VOk.le hokbbufr
 refine sr 1 rfl (ip' 1 0 [] (ie (sr 2 rfl (ip' 1 1 [(5,pt bb 0)] (it rfl (C2 (L2:=((vo cU8 5 bbufr bbuf)++([]))) (C1n bb (.slice (va bbufr.q) bbuf.length bbufr.k) baddrz hzbaddrz) rfl rfl rfl rfl rfl fn0 (L9 [[bx bb [.pointer baddrz,.slice (va bbufr.q) bbuf.length bbufr.k] 91],vo cU8 5 bbufr bbuf] [0,1] 2 rfl (by decide) rfl [[bx bb [.pointer baddrz,.slice (va bbufr.q) bbuf.length bbufr.k] 91],vo cU8 5 bbufr bbuf] rfl (by first|rfl|simp)) (fun _=>(bx bb [pt bb 0,.slice (va bbufr.q) bbuf.length bbufr.k] 91::(vo cU8 5 bbufr bbuf)++([]))) (fun _=>by first|rfl|simp)) fun _=>?_)))))
 refine ie (sr 11 rfl (zrl 6 5 [0] [(7,pt bb 0),(11,.slice (va bbufr.q) bbuf.length bbufr.k),(12,.int .u8 (c.toNat:Int))] (it rfl (B3 (c:=cU8) (xs:=([c]:List UInt8)) A8f rfl rfl rfl (by kernel_rfl)) fun b1=>?_)))
 have:([c]:List UInt8).length=1:=rfl
 refine it rfl (B2g (f:=cU8) (r:=bbufr) (xs:=bbuf) (ys:=([c]:List UInt8)) (pre:=[bx bb [pt bb 0,.slice (va bbufr.q) bbuf.length bbufr.k] 91]) (post:=[]) C5z (fun _=>rfl) (fun _=>rfl) rfl rfl rfl rfl rfl rfl rfl rfl rfl (A1 0 rfl) hokbbufr (by first|omega|(simp<;>omega)) (by first|omega|(simp<;>omega))) fun ⟨r2,hr3⟩=>?_
 have:=VOk.le hr3
 have:=VOk.cap hr3
 refine zrg 3 0 [0] [] (bx bb [pt bb 0,.slice (va r2.q) ((bbuf++([c]:List UInt8)).length) r2.k] 91::(vo cU8 5 r2 (bbuf++([c]:List UInt8)))++([])) (ie (sr 1 rfl (ip' 1 0 [(4,.nilIface)] ?_)))
 subst hR
 refine ie (B0 ?_)
 exact zer hr hD (O3 rfl (B8 rfl)) ⟨r2,hr3⟩ (mc [[bx bb [pt bb 0,.slice (va r2.q) ((bbuf++([c]:List UInt8)).length) r2.k] 91],vo cU8 5 r2 (bbuf++([c]:List UInt8))] [true,true] rfl (by first|rfl|(simp only [List.length_set]<;>rfl))) fn0
def A0k (n:Int) (p1buf:List UInt8):List UInt8 :=
 (B5 (M2 p1buf (C1q.getD ((n).toNat) 0)) fun (y6:List UInt8)=>y6)
theorem A7z (n:Int) (b:List UInt8):(A0k n b).length=b.length+1:=by simp [A0k,B5,M2]
theorem B8i (n:Int) (p1buf:List UInt8) (p1b:Nat) (p1addrz:Option Addr) (p1bufr:VR) (hzp1addrz:p1addrz=none∨p1addrz=some ⟨p1b,0,none⟩) (hokp1bufr:VOk 1 p1buf.length p1bufr) (hn:0≤n∧n<64) (hb:p1buf.length≤10100) (R:List UInt8) (hR:A0k n p1buf=R):Con Tryz.prog 207 [iv n,pt p1b 0] (bx p1b [.pointer p1addrz,.slice (va p1bufr.q) p1buf.length p1bufr.k] 91::(vo cU8 5 p1bufr p1buf)++([])) [] ({r:VR // VOk 1 R.length r}) (fun x=>.tuple #[]) (fun x=>(bx p1b [pt p1b 0,.slice (va x.1.q) R.length x.1.k] 91::(vo cU8 5 x.1 R)++([]))) (fun x=>[]):=by
 refine zco Tryz.func207 [(0,iv n),(1,pt p1b 0)] fun X hX hr hD=>?_
 replace hR:=(A0k.eq_1 ..).symm.trans hR
 have:=VOk.le hokp1bufr
 refine A3 3 rfl (ip' 1 2 [(3,iv n)] (ix rfl (B9f (T:=9) Tryz.underlying9 rfl rfl rfl ((n).toNat) (by omega) (by first|omega|(refine Nat.lt_of_lt_of_le (m:=64) (by omega) (by decide)))) ?_))
 have hQ:=C9 hR;clear hR;obtain ⟨y6,hy6,hR⟩:=hQ
 refine it rfl (C2 (L2:=[]) (A2y p1buf (C1q.getD ((n).toNat) 0) p1b p1addrz p1bufr hzp1addrz hokp1bufr (by first|omega|(simp<;>omega)) y6 hy6) rfl rfl rfl rfl rfl fn0 (L9 [[bx p1b [.pointer p1addrz,.slice (va p1bufr.q) p1buf.length p1bufr.k] 91],vo cU8 5 p1bufr p1buf] [0,1] 2 rfl (by decide) rfl [[bx p1b [.pointer p1addrz,.slice (va p1bufr.q) p1buf.length p1bufr.k] 91],vo cU8 5 p1bufr p1buf] rfl (by first|rfl|simp)) (fun ⟨r1,hk2⟩=>(bx p1b [pt p1b 0,.slice (va r1.q) y6.length r1.k] 91::(vo cU8 5 r1 y6)++([]))) (fun _=>by first|rfl|simp)) fun ⟨r1,hk2⟩=>?_
 have:=VOk.le hk2
 have:=VOk.cap hk2
 have:=X0 p1buf (C1q.getD ((n).toNat) 0);try rw [hy6] at this
 subst hR
 refine A6 ?_
 exact zen hr hD (B6p rfl) ⟨r1,hk2⟩ (mc [[bx p1b [pt p1b 0,.slice (va r1.q) y6.length r1.k] 91],vo cU8 5 r1 y6] [true,true] rfl (by first|rfl|(simp only [List.length_set]<;>rfl))) fn0
def D5:Nat→Int→Int→List UInt8→(Int×Int×List UInt8×Int×Int)
 | 0,_,_,_=>(0,0,[],0,0)
 | fu1+1,t1,t3,bbuf=>(bif (decide ((6:Int)≤t3)) then (B5 (A0k (Int.fdiv t1 (2 ^ (min ((t3 - 6)).toNat 64))) bbuf) fun (y3:List UInt8)=>D5 fu1 (bOp .and .i64 t1 ((IntKind.i64.wrap ((1:Int) * 2 ^ (min ((t3 - 6)).toNat 64))) - 1)) (t3 - 6) y3) else (t1,t3,bbuf,t3,t1))
def G1 (n:Int) (p1:Int) (p3:Int) (p5cbuf:List UInt8):Int×Int×List UInt8×Int×Int :=
 D5 ((p3+8).toNat+1) (bOp .or .i64 (p1 * 256) n) (p3+8) p5cbuf
theorem A4q:∀ (fu:Nat) (t1 t3:Int) (b:List UInt8),t3.toNat<fu→A4i t3 t1→A4i (D5 fu t1 t3 b).2.1 (D5 fu t1 t3 b).1∧(D5 fu t1 t3 b).2.1≤5∧(D5 fu t1 t3 b).2.2.2.1=(D5 fu t1 t3 b).2.1∧(D5 fu t1 t3 b).2.2.2.2=(D5 fu t1 t3 b).1∧(((D5 fu t1 t3 b).2.2.1.length:Nat):Int) * 6+(D5 fu t1 t3 b).2.1=(b.length:Int) * 6+t3
 | 0,t1,t3,b,h,_=>by omega
 | fu+1,t1,t3,b,h,hI=>by
  rw [D5]
  by_cases h6:6≤t3
  ·rw [decide_eq_true h6,cond_true]
   have ih:=A4q fu _ _ (A0k (Int.fdiv t1 (2 ^ (min ((t3 - 6)).toNat 64))) b) (by omega) (D0o hI h6)
   have hl:=A7z (Int.fdiv t1 (2 ^ (min ((t3 - 6)).toNat 64))) b
   unfold B5
   refine ⟨ih.1,ih.2.1,ih.2.2.1,ih.2.2.2.1,?_⟩
   rw [ih.2.2.2.2,hl];omega
  ·rw [decide_eq_false h6,cond_false]
   exact ⟨hI,by show t3≤5;omega,rfl,rfl,rfl⟩
theorem A6x (n p1 p3:Int) (p5cbuf:List UInt8) (hI:A4i p3 p1) (h4:p3≤4) (hn:0≤n∧n≤255):A4i (G1 n p1 p3 p5cbuf).2.1 (G1 n p1 p3 p5cbuf).1∧(G1 n p1 p3 p5cbuf).2.1≤5∧(G1 n p1 p3 p5cbuf).2.2.2.1=(G1 n p1 p3 p5cbuf).2.1∧(G1 n p1 p3 p5cbuf).2.2.2.2=(G1 n p1 p3 p5cbuf).1∧(((G1 n p1 p3 p5cbuf).2.2.1.length:Nat):Int) * 6+(G1 n p1 p3 p5cbuf).2.1=((p5cbuf).length:Int) * 6+p3+8:=by
 have h:=A4q ((p3+8).toNat+1) _ _ p5cbuf (Nat.lt_succ_self _) (D9o hI h4 hn)
 exact ⟨h.1,h.2.1,h.2.2.1,h.2.2.2.1,h.2.2.2.2.trans (by omega)⟩
theorem B6u (n:Int) (p1:Int) (p3:Int) (p5cbuf:List UInt8) (p1b:Nat) (p2b:Nat) (p3b:Nat) (p4b:Nat) (p5b:Nat) (p5cb:Nat) (p5caddrz:Option Addr) (p5cbufr:VR) (hzp5caddrz:p5caddrz=none∨p5caddrz=some ⟨p5cb,0,none⟩) (hokp5cbufr:VOk 1 p5cbuf.length p5cbufr) (hq:(0≤p1∧p1<16)∧0≤p3∧p3≤4) (hI0:A4i p3 p1∧p3≤4) (hn:0≤n∧n≤255) (hb:p5cbuf.length≤10000) (R:Int×Int×List UInt8×Int×Int) (hR:G1 n p1 p3 p5cbuf=R):Con Tryz.prog 224 [iv n,pt p1b 0,pt p2b 0,pt p3b 0,pt p4b 0,pt p5b 0] (bx p1b [iv p1] 3::bx p2b [iv 8] 3::bx p3b [iv p3] 3::bx p4b [iv 6] 3::bx p5cb [.pointer p5caddrz,.slice (va p5cbufr.q) p5cbuf.length p5cbufr.k] 91::bx p5b [.func (.func 207) #[] #[pt p5cb 0]] 92::(vo cU8 5 p5cbufr p5cbuf)++([])) [] ({r:VR // VOk 1 R.2.2.1.length r}×{z:Option Addr // z=none∨z=some ⟨p5cb,0,none⟩}) (fun x=>.tuple #[iv R.2.2.2.1,iv R.2.2.2.2]) (fun x=>(bx p1b [iv R.1] 3::bx p2b [iv 8] 3::bx p3b [iv R.2.1] 3::bx p4b [iv 6] 3::bx p5cb [.pointer x.2.1,.slice (va x.1.1.q) R.2.2.1.length x.1.1.k] 91::bx p5b [.func (.func 207) #[] #[pt p5cb 0]] 92::(vo cU8 5 x.1.1 R.2.2.1)++([]))) (fun x=>[]):=by
 refine zco Tryz.func224 [(0,iv n),(1,pt p1b 0),(2,pt p2b 0),(3,pt p3b 0),(4,pt p4b 0),(5,pt p5b 0)] fun X hX hr hD=>?_
 replace hR:=(G1.eq_1 ..).symm.trans hR
 have:=VOk.le hokp5cbufr
 refine sr 2 rfl (ip' 2 0 [] (ie (sr 6 rfl (zrl 2 4 [0,1] [(9,iv p1),(10,iv 8)] ?_))))
 refine ix rfl (B6a (c:=(p1 * 256)) rfl rfl rfl (by decide) (by show IntKind.i64.wrap (p1 * 256)=_;exact W6 (by simp [IntKind.min,IntKind.signed,IntKind.bits];omega) (by simp [IntKind.max,IntKind.signed,IntKind.bits];omega))) (zrg 3 0 [0] [] (bx p1b [iv (bOp .or .i64 (p1 * 256) n)] 3::bx p2b [iv 8] 3::bx p3b [iv p3] 3::bx p4b [iv 6] 3::bx p5cb [.pointer p5caddrz,.slice (va p5cbufr.q) p5cbuf.length p5cbufr.k] 91::bx p5b [.func (.func 207) #[] #[pt p5cb 0]] 92::(vo cU8 5 p5cbufr p5cbuf)++([])) (ie (sr 4 rfl (zrl 2 2 [2,1] [(14,iv p3),(15,iv 8)] (ix rfl (B6 rfl rfl rfl rfl (by omega)) (zrg 1 0 [2] [] (bx p1b [iv (bOp .or .i64 (p1 * 256) n)] 3::bx p2b [iv 8] 3::bx p3b [iv (p3+8)] 3::bx p4b [iv 6] 3::bx p5cb [.pointer p5caddrz,.slice (va p5cbufr.q) p5cbuf.length p5cbufr.k] 91::bx p5b [.func (.func 207) #[] #[pt p5cb 0]] 92::(vo cU8 5 p5cbufr p5cbuf)++([])) (ie (A7 (B2 ?_)))))))))
 refine E7o (fun (fu:Nat) (t1:Int) (t3:Int) (baddrz:Option Addr) (bbuf:List UInt8) (bbufr:VR)=>(t3.toNat<fu∧D5 fu t1 t3 bbuf=R∧(baddrz=none∨baddrz=some ⟨p5cb,0,none⟩)∧VOk 1 bbuf.length bbufr∧(0≤t3∧t3≤12)∧A4i t3 t1∧(bbuf.length:Int) * 6+t3≤60100,[(1,pt p1b 0),(3,pt p3b 0),(4,pt p4b 0),(5,pt p5b 0)],(bx p1b [iv t1] 3::bx p2b [iv 8] 3::bx p3b [iv t3] 3::bx p4b [iv 6] 3::bx p5cb [.pointer baddrz,.slice (va bbufr.q) bbuf.length bbufr.k] 91::bx p5b [.func (.func 207) #[] #[pt p5cb 0]] 92::(vo cU8 5 bbufr bbuf)++([])),[],fu)) ((p3+8).toNat+1) (bOp .or .i64 (p1 * 256) n) (p3+8) p5caddrz p5cbuf p5cbufr ⟨(Nat.lt_succ_self _),hR,hzp5caddrz,hokp5cbufr,(by omega),(by exact D9o hI0.1 hI0.2 hn),(by first|omega|(simp<;>omega))⟩ (mc [[bx p1b [iv (bOp .or .i64 (p1 * 256) n)] 3],[bx p2b [iv 8] 3],[bx p3b [iv (p3+8)] 3],[bx p4b [iv 6] 3],[bx p5cb [.pointer p5caddrz,.slice (va p5cbufr.q) p5cbuf.length p5cbufr.k] 91],[bx p5b [.func (.func 207) #[] #[pt p5cb 0]] 92],vo cU8 5 p5cbufr p5cbuf] [true,true,true,true,true,true,true] rfl (by first|rfl|(simp only [List.length_set]<;>rfl))) fn0 ?_
 rintro fu t1 t3 baddrz bbuf bbufr ⟨hm1,hR,hzbaddrz,hokbbufr,hw,hI,hb1⟩
 have:=VOk.le hokbbufr
 obtain ⟨fu1,rfl⟩:∃ m,fu=m+1:=⟨fu - 1,by omega⟩
 replace hR:=(D5.eq_2 ..).symm.trans hR
 have hpw:=E5f hI
 have hpw2:1≤IntKind.i64.wrap ((1:Int) * 2 ^ (min ((t3 - 6)).toNat IntKind.i64.bits))∧IntKind.i64.wrap ((1:Int) * 2 ^ (min ((t3 - 6)).toNat IntKind.i64.bits))≤64:=hpw
 refine A7 (sr 3 rfl (zrl 3 0 [2,3] [(19,bv (decide ((6:Int)≤t3)))] ?_))
 refine ie ?_
 refine zjd rfl hR ?_ ?_<;>clear hR<;>intro hR h2 h2p
 ·refine A9 (nx (B2 (sr 4 rfl (zrl 2 2 [2,3] [(20,iv t3),(21,iv 6)] (ix rfl (M6 rfl rfl rfl rfl (by omega)) (zrg 1 0 [2] [] (bx p1b [iv t1] 3::bx p2b [iv 8] 3::bx p3b [iv (t3 - 6)] 3::bx p4b [iv 6] 3::bx p5cb [.pointer baddrz,.slice (va bbufr.q) bbuf.length bbufr.k] 91::bx p5b [.func (.func 207) #[] #[pt p5cb 0]] 92::(vo cU8 5 bbufr bbuf)++([])) (ie ?_)))))))
  refine sh 5 [(5,[bx p1b [iv t1] 3]),(5,[bx p2b [iv 8] 3]),(5,[bx p3b [iv (t3 - 6)] 3]),(5,[bx p4b [iv 6] 3]),(4,[bx p5cb [.pointer baddrz,.slice (va bbufr.q) bbuf.length bbufr.k] 91]),(5,[bx p5b [.func (.func 207) #[] #[pt p5cb 0]] 92]),(4,vo cU8 5 bbufr bbuf)] [] (bx p1b [iv t1] 3::bx p2b [iv 8] 3::bx p3b [iv (t3 - 6)] 3::bx p4b [iv 6] 3::bx p5cb [.pointer baddrz,.slice (va bbufr.q) bbuf.length bbufr.k] 91::bx p5b [.func (.func 207) #[] #[pt p5cb 0]] 92::(vo cU8 5 bbufr bbuf)++([])) (zml 5 0) (by kernel_rfl) rfl (by kernel_rfl) (by kernel_rfl) (by kernel_rfl) (mc [[bx p1b [iv t1] 3],[bx p2b [iv 8] 3],[bx p3b [iv (t3 - 6)] 3],[bx p4b [iv 6] 3],[bx p5cb [.pointer baddrz,.slice (va bbufr.q) bbuf.length bbufr.k] 91],[bx p5b [.func (.func 207) #[] #[pt p5cb 0]] 92],vo cU8 5 bbufr bbuf] [true,true,true,true,true,true,true] rfl (by first|rfl|(simp only [List.length_set]<;>rfl))) A0.refl ?_
  refine zhl 0 (bx p1b [iv t1] 3::bx p2b [iv 8] 3::bx p3b [iv (t3 - 6)] 3::bx p4b [iv 6] 3::bx p5cb [.pointer baddrz,.slice (va bbufr.q) bbuf.length bbufr.k] 91::bx p5b [.func (.func 207) #[] #[pt p5cb 0]] 92::(vo cU8 5 bbufr bbuf)++([])) (zml 5 1) rfl (B4 (v:=.func (.func 207) #[] #[pt p5cb 0]) E9h rfl rfl 5 rfl rfl) ?_
  refine zhl 1 [bx p1b [iv t1] 3,bx p2b [iv 8] 3,bx p3b [iv (t3 - 6)] 3,bx p4b [iv 6] 3,bx p5b [.func (.func 207) #[] #[pt p5cb 0]] 92] (zml 5 3) rfl (B4 (v:=iv t1) ty3 rfl rfl 0 rfl rfl) ?_
  refine zhl 2 [bx p1b [iv t1] 3,bx p2b [iv 8] 3,bx p3b [iv (t3 - 6)] 3,bx p4b [iv 6] 3,bx p5b [.func (.func 207) #[] #[pt p5cb 0]] 92] (zml 5 7) rfl (B4 (v:=iv (t3 - 6)) ty3 rfl rfl 2 rfl rfl) ?_
  refine zhk 3 (zml 5 15) rfl (Q5 rfl rfl rfl (by omega) rfl) ?_
  have hQ:=C9 hR;clear hR;obtain ⟨y3,hy3,hR⟩:=hQ
  refine zho 4 [bx p1b [iv t1] 3,bx p2b [iv 8] 3,bx p3b [iv (t3 - 6)] 3,bx p4b [iv 6] 3,bx p5b [.func (.func 207) #[] #[pt p5cb 0]] 92] (zml 5 31) rfl (Q6 (L2:=[bx p1b [iv t1] 3,bx p2b [iv 8] 3,bx p3b [iv (t3 - 6)] 3,bx p4b [iv 6] 3,bx p5b [.func (.func 207) #[] #[pt p5cb 0]] 92]) (B8i (Int.fdiv t1 (2 ^ (min ((t3 - 6)).toNat 64))) bbuf p5cb baddrz bbufr hzbaddrz hokbbufr (by first|exact E5b hI (by omega)|omega) (by first|omega|(simp<;>omega)) y3 hy3) rfl rfl rfl rfl rfl fn0 (L9 [[bx p1b [iv t1] 3],[bx p2b [iv 8] 3],[bx p3b [iv (t3 - 6)] 3],[bx p4b [iv 6] 3],[bx p5cb [.pointer baddrz,.slice (va bbufr.q) bbuf.length bbufr.k] 91],[bx p5b [.func (.func 207) #[] #[pt p5cb 0]] 92],vo cU8 5 bbufr bbuf] [4,6,0,1,2,3,5] 7 rfl (by decide) rfl [[bx p5cb [.pointer baddrz,.slice (va bbufr.q) bbuf.length bbufr.k] 91],vo cU8 5 bbufr bbuf,[bx p1b [iv t1] 3],[bx p2b [iv 8] 3],[bx p3b [iv (t3 - 6)] 3],[bx p4b [iv 6] 3],[bx p5b [.func (.func 207) #[] #[pt p5cb 0]] 92]] rfl (by first|rfl|simp)) (fun ⟨r3,hk4⟩=>(bx p5cb [pt p5cb 0,.slice (va r3.q) y3.length r3.k] 91::bx p1b [iv t1] 3::bx p2b [iv 8] 3::bx p3b [iv (t3 - 6)] 3::bx p4b [iv 6] 3::bx p5b [.func (.func 207) #[] #[pt p5cb 0]] 92::(vo cU8 5 r3 y3)++([]))) (fun ⟨r3,hk4⟩=>L9 [[bx p5cb [pt p5cb 0,.slice (va r3.q) y3.length r3.k] 91],vo cU8 5 r3 y3,[bx p1b [iv t1] 3],[bx p2b [iv 8] 3],[bx p3b [iv (t3 - 6)] 3],[bx p4b [iv 6] 3],[bx p5b [.func (.func 207) #[] #[pt p5cb 0]] 92]] [0,2,3,4,5,6,1] 7 rfl (by decide) (by first|rfl|simp) [[bx p5cb [pt p5cb 0,.slice (va r3.q) y3.length r3.k] 91],[bx p1b [iv t1] 3],[bx p2b [iv 8] 3],[bx p3b [iv (t3 - 6)] 3],[bx p4b [iv 6] 3],[bx p5b [.func (.func 207) #[] #[pt p5cb 0]] 92],vo cU8 5 r3 y3] rfl (by first|rfl|simp))) (fun ⟨r3,hk4⟩=>(mc [[bx p5cb [pt p5cb 0,.slice (va r3.q) y3.length r3.k] 91],[bx p1b [iv t1] 3],[bx p2b [iv 8] 3],[bx p3b [iv (t3 - 6)] 3],[bx p4b [iv 6] 3],[bx p5b [.func (.func 207) #[] #[pt p5cb 0]] 92],vo cU8 5 r3 y3] [false,true,true,true,true,true,false] rfl (by first|rfl|(simp only [List.length_set]<;>rfl)))) (fun ⟨r3,hk4⟩=>fn0) fun ⟨r3,hk4⟩=>?_
  have:=VOk.le hk4
  have:=VOk.cap hk4
  have:=A7z (Int.fdiv t1 (2 ^ (min ((t3 - 6)).toNat 64))) bbuf;try rw [hy3] at this
  refine A8j (by kernel_rfl) ?_
  refine sh' 6 [(6,[bx p5cb [pt p5cb 0,.slice (va r3.q) y3.length r3.k] 91]),(5,[bx p1b [iv t1] 3]),(6,[bx p2b [iv 8] 3]),(6,[bx p3b [iv (t3 - 6)] 3]),(6,[bx p4b [iv 6] 3]),(6,[bx p5b [.func (.func 207) #[] #[pt p5cb 0]] 92]),(6,vo cU8 5 r3 y3)] [] (bx p5cb [pt p5cb 0,.slice (va r3.q) y3.length r3.k] 91::bx p1b [iv t1] 3::bx p2b [iv 8] 3::bx p3b [iv (t3 - 6)] 3::bx p4b [iv 6] 3::bx p5b [.func (.func 207) #[] #[pt p5cb 0]] 92::(vo cU8 5 r3 y3)++([])) (zml 6 0) (by kernel_rfl) rfl (by kernel_rfl) (by kernel_rfl) (by kernel_rfl) (mc [[bx p5cb [pt p5cb 0,.slice (va r3.q) y3.length r3.k] 91],[bx p1b [iv t1] 3],[bx p2b [iv 8] 3],[bx p3b [iv (t3 - 6)] 3],[bx p4b [iv 6] 3],[bx p5b [.func (.func 207) #[] #[pt p5cb 0]] 92],vo cU8 5 r3 y3] [true,true,true,true,true,true,true] rfl (by first|rfl|(simp only [List.length_set]<;>rfl))) A0.refl ?_
  refine zhl 0 (bx p5cb [pt p5cb 0,.slice (va r3.q) y3.length r3.k] 91::bx p1b [iv t1] 3::bx p2b [iv 8] 3::bx p3b [iv (t3 - 6)] 3::bx p4b [iv 6] 3::bx p5b [.func (.func 207) #[] #[pt p5cb 0]] 92::(vo cU8 5 r3 y3)++([])) (zml 6 1) rfl (B4 (v:=iv t1) ty3 rfl rfl 1 rfl rfl) ?_
  refine zhl 1 (bx p5cb [pt p5cb 0,.slice (va r3.q) y3.length r3.k] 91::bx p1b [iv t1] 3::bx p2b [iv 8] 3::bx p3b [iv (t3 - 6)] 3::bx p4b [iv 6] 3::bx p5b [.func (.func 207) #[] #[pt p5cb 0]] 92::(vo cU8 5 r3 y3)++([])) (zml 6 3) rfl (B4 (v:=iv (t3 - 6)) ty3 rfl rfl 3 rfl rfl) ?_
  refine zhk 2 (zml 6 7) rfl (B6a rfl rfl rfl (by omega) rfl) (zhk 3 (zml 6 15) rfl (M6 rfl rfl rfl rfl (by omega)) ?_)
  refine zhp [4] 1 (zml 6 31) [(32,iv (bOp .and .i64 t1 ((IntKind.i64.wrap ((1:Int) * 2 ^ (min ((t3 - 6)).toNat 64))) - 1)))] ?_
  refine zho 5 (bx p5cb [pt p5cb 0,.slice (va r3.q) y3.length r3.k] 91::bx p2b [iv 8] 3::bx p3b [iv (t3 - 6)] 3::bx p4b [iv 6] 3::bx p5b [.func (.func 207) #[] #[pt p5cb 0]] 92::(vo cU8 5 r3 y3)++([])) (zml 6 63) rfl (W0 (us:=[iv (bOp .and .i64 t1 ((IntKind.i64.wrap ((1:Int) * 2 ^ (min ((t3 - 6)).toNat 64))) - 1))]) (cs':=[iv (bOp .and .i64 t1 ((IntKind.i64.wrap ((1:Int) * 2 ^ (min ((t3 - 6)).toNat 64))) - 1))]) ty3 rfl rfl rfl 1 rfl rfl rfl rfl rfl rfl) (fun _=>(mc [[bx p5cb [pt p5cb 0,.slice (va r3.q) y3.length r3.k] 91],[bx p1b [iv (bOp .and .i64 t1 ((IntKind.i64.wrap ((1:Int) * 2 ^ (min ((t3 - 6)).toNat 64))) - 1))] 3],[bx p2b [iv 8] 3],[bx p3b [iv (t3 - 6)] 3],[bx p4b [iv 6] 3],[bx p5b [.func (.func 207) #[] #[pt p5cb 0]] 92],vo cU8 5 r3 y3] [true,false,true,true,true,true,true] rfl (by first|rfl|(simp only [List.length_set]<;>rfl)))) (fun _=>fn0) fun _=>?_
  refine C2y (by kernel_rfl) ?_
  refine A2r (L9 [[bx p5cb [pt p5cb 0,.slice (va r3.q) y3.length r3.k] 91],[bx p1b [iv (bOp .and .i64 t1 ((IntKind.i64.wrap ((1:Int) * 2 ^ (min ((t3 - 6)).toNat 64))) - 1))] 3],[bx p2b [iv 8] 3],[bx p3b [iv (t3 - 6)] 3],[bx p4b [iv 6] 3],[bx p5b [.func (.func 207) #[] #[pt p5cb 0]] 92],vo cU8 5 r3 y3] [1,2,3,4,0,5,6] 7 rfl (by decide) rfl [[bx p1b [iv (bOp .and .i64 t1 ((IntKind.i64.wrap ((1:Int) * 2 ^ (min ((t3 - 6)).toNat 64))) - 1))] 3],[bx p2b [iv 8] 3],[bx p3b [iv (t3 - 6)] 3],[bx p4b [iv 6] 3],[bx p5cb [pt p5cb 0,.slice (va r3.q) y3.length r3.k] 91],[bx p5b [.func (.func 207) #[] #[pt p5cb 0]] 92],vo cU8 5 r3 y3] rfl (by first|rfl|simp)) ?_
  exact E6u (z1:=(fu1+1)) (z2:=t1) (z3:=t3) (z4:=baddrz) (z5:=bbuf) (z6:=bbufr) fu1 (bOp .and .i64 t1 ((IntKind.i64.wrap ((1:Int) * 2 ^ (min ((t3 - 6)).toNat 64))) - 1)) (t3 - 6) (some ⟨p5cb,0,none⟩) y3 r3 ⟨(by omega),hR,(.inr rfl),hk4,(by omega),(by exact D0o hI (by omega)),(by omega)⟩ (Nat.lt_succ_self _) (mc [[bx p1b [iv (bOp .and .i64 t1 ((IntKind.i64.wrap ((1:Int) * 2 ^ (min ((t3 - 6)).toNat 64))) - 1))] 3],[bx p2b [iv 8] 3],[bx p3b [iv (t3 - 6)] 3],[bx p4b [iv 6] 3],[bx p5cb [pt p5cb 0,.slice (va r3.q) y3.length r3.k] 91],[bx p5b [.func (.func 207) #[] #[pt p5cb 0]] 92],vo cU8 5 r3 y3] [true,true,true,true,true,true,true] rfl (by first|rfl|(simp only [List.length_set]<;>rfl))) fn0
 refine J1 (nx (sd 4 rfl (by kernel_rfl) rfl ?_))
 refine zdg 4 0 [2,0] [(7,iv t3),(8,iv t1)] ?_
 subst hR
 refine de (B0 ?_)
 exact zer hr hD (A4c rfl (B8 rfl) (B8 rfl)) (⟨bbufr,hokbbufr⟩,⟨baddrz,hzbaddrz⟩) (mc [[bx p1b [iv t1] 3],[bx p2b [iv 8] 3],[bx p3b [iv t3] 3],[bx p4b [iv 6] 3],[bx p5cb [.pointer baddrz,.slice (va bbufr.q) bbuf.length bbufr.k] 91],[bx p5b [.func (.func 207) #[] #[pt p5cb 0]] 92],vo cU8 5 bbufr bbuf] [true,true,true,true,true,true,true] rfl (by first|rfl|(simp only [List.length_set]<;>rfl))) fn0
def A2i (n:Int):Int :=
 (IntKind.i64.wrap ((IntKind.i64.wrap (Int.tdiv (IntKind.i64.wrap ((if (if (1099511627776:Int)<n then (1099511627776:Int) else n) > (0:Int) then (if (1099511627776:Int)<n then (1099511627776:Int) else n) else (0:Int))+(2:Int))) 3)) * (4:Int)))
theorem B0a (n:Int) (h:0≤n∧n≤4096):A2i n=(n+2) / 3 * 4:=by
 unfold A2i
 rw [if_neg (show ¬ ((1099511627776:Int)<n) by omega)]
 have h2:(if n > (0:Int) then n else (0:Int))=n:=by split<;>omega
 rw [h2,W6 (m:=n+2) (by show (-9223372036854775808:Int)≤_;omega) (by show _≤(9223372036854775807:Int);omega),Int.tdiv_eq_ediv_of_nonneg (by omega),W6 (m:=(n+2) / 3) (by show (-9223372036854775808:Int)≤_;omega) (by show _≤(9223372036854775807:Int);omega),W6 (m:=(n+2) / 3 * 4) (by show (-9223372036854775808:Int)≤_;omega) (by show _≤(9223372036854775807:Int);omega)]
theorem C6e (n:Int) (hn:0≤n∧n≤4096) (R:Int) (hR:A2i n=R):K5 Tryz.prog 209 [iv n] [] (iv R):=by
 refine zco Tryz.func209 [(0,iv n)] fun X hX hr hD=>?_
 replace hR:=(A2i.eq_1 ..).symm.trans hR
 refine sr 1 rfl (ip' 1 0 [] (ie (sr 7 rfl (ip' 3 4 [(5,iv (if (if (1099511627776:Int)<n then (1099511627776:Int) else n) > (0:Int) then (if (1099511627776:Int)<n then (1099511627776:Int) else n) else (0:Int)))] (ix rfl (J0.pure rfl) (ix rfl (C3x rfl rfl rfl (by decide)) (ix rfl (J0.pure rfl) (ip' 1 0 [(2,iv (IntKind.i64.wrap ((IntKind.i64.wrap (Int.tdiv (IntKind.i64.wrap ((if (if (1099511627776:Int)<n then (1099511627776:Int) else n) > (0:Int) then (if (1099511627776:Int)<n then (1099511627776:Int) else n) else (0:Int))+(2:Int))) 3)) * (4:Int))))] ?_))))))))
 subst hR
 refine ie (B0 ?_)
 exact F8 hr hD
def Q4 (s:List UInt8) (bbuf1:List UInt8):List UInt8×Int :=
 ((bbuf1++(B1h ([61]:List UInt8) ((A2i (s.length:Int)) - (bbuf1.length:Int)))),0)
def J5 (s:List UInt8):List UInt8→Int→Int→Nat→List UInt8→Int→Int→(List UInt8×Int)
 | [],wait,rest,t16,bbuf,b,b1=>(bif (decide ((0:Int)<wait)) then (B5 (M2 bbuf (C1q.getD ((IntKind.i64.wrap (rest * 2 ^ (min ((6 - wait)).toNat 64))).toNat) 0)) fun (y6:List UInt8)=>Q4 s y6) else Q4 s bbuf)
 | hd_l0::tl_l0,wait,rest,t16,bbuf,b,b1=>(B5 (G1 (hd_l0.toNat:Int) b b1 bbuf) fun (y4:Int×Int×List UInt8×Int×Int)=>J5 s tl_l0 y4.2.2.2.1 y4.2.2.2.2 (t16+1) y4.2.2.1 y4.1 y4.2.1)
def X1 (s:List UInt8):List UInt8×Int :=
 (bif (decide ((4096:Int)<(s.length:Int))) then (([]:List UInt8),3) else J5 s s 0 0 0 ([]:List UInt8) 0 0)
theorem A8k (s:List UInt8) (hs:s.length≤4096):∀ (l:List UInt8) (wait rest:Int) (t:Nat) (buf:List UInt8) (b b1:Int),A4i b1 b→b1≤4→wait=b1→rest=b→(buf.length:Int) * 6+b1=8 * (t:Int)→t+l.length=s.length→(J5 s l wait rest t buf b b1).1.length≤5500
 | [],wait,rest,t,buf,b,b1,hI,h4,hw,hr,hb,ht=>by
  have hsz:=B0a (s.length:Int) (by omega)
  have hj:∀ x:List UInt8,(x.length:Int) * 6≤8 * s.length+5→(Q4 s x).1.length≤5500:=by
   intro x hx
   unfold Q4
   show (x++B1h [61] _).length≤5500
   rw [List.length_append,C1s,hsz,List.length_singleton]
   omega
  have h0:0≤b1:=by unfold A4i at hI;omega
  rw [J5]
  have:t=s.length:=by simpa using ht
  by_cases hp:0<wait
  ·rw [decide_eq_true hp,cond_true]
   refine hj _ ?_
   rw [X0];omega
  ·rw [decide_eq_false hp,cond_false]
   exact hj _ (by omega)
 | x::l,wait,rest,t,buf,b,b1,hI,h4,hw,hr,hb,ht=>by
  rw [J5]
  have hx:0≤((x.toNat:Nat):Int)∧((x.toNat:Nat):Int)≤255:=⟨Int.natCast_nonneg _,Int.ofNat_le.2 (Nat.le_of_lt_succ (UInt8.toNat_lt _))⟩
  have hp:=A6x (x.toNat:Int) b b1 buf hI h4 hx
  exact A8k s hs l _ _ _ _ _ _ hp.1 (by have q:=hp.1;unfold A4i at q;omega) hp.2.2.1 hp.2.2.2.1 (by rw [hp.2.2.2.2];omega) (by simp only [List.length_cons] at ht;omega)
theorem B1m (s:List UInt8):(X1 s).1.length≤5500:=by
 unfold X1
 by_cases h:(4096:Int)<(s.length:Int)
 ·rw [decide_eq_true h];exact Nat.zero_le _
 ·rw [decide_eq_false h]
  exact A8k s (by omega) s 0 0 0 [] 0 0 (.inl ⟨rfl,rfl⟩) (by omega) rfl rfl (by simp) (by simp)
theorem C2p (s:List UInt8) (R:List UInt8×Int) (hR:X1 s=R):K5 Tryz.prog 180 [sv s] [] (.tuple #[sv R.1,iv R.2]):=by
 refine zco Tryz.func180 [(0,sv s)] fun X hX hr hD=>?_
 replace hR:=(X1.eq_1 ..).symm.trans hR
 refine sr 2 rfl (ip' 2 0 [] (ie (A7 (sr 3 rfl (ip' 3 0 [(11,bv (decide ((4096:Int)<(s.length:Int))))] (ie ?_))))))
 refine zjd rfl hR ?_ ?_<;>clear hR<;>intro hR h1 h1p
 ·refine sr 2 rfl (ip' 2 0 [(2,sv ([]:List UInt8)),(3,iv 3)] ?_)
  subst hR
  refine ie (B0 ?_)
  exact A9j hr hD
 refine A9 (nx (sr 1 rfl (P1 1 0 [] (fun b2=>[(4,pt b2 0)]) (fun b2=>[bx b2 [.pointer none,.slice none 0 0] 91]) (fun b2=>(ie (sr 3 rfl (ip' 1 2 [(12,.func (.func 207) #[] #[pt b2 0])] (it rfl (C2 (L2:=[]) (C0e b2 _ rfl) rfl rfl rfl rfl rfl fn0 (L9 [[bx b2 [.pointer none,.slice none 0 0] 91]] [0] 1 rfl (by decide) rfl [[bx b2 [.pointer none,.slice none 0 0] 91]] rfl (by first|rfl|simp)) (fun ⟨b3,b4,b5,b6,b7⟩=>[bx b2 [.pointer none,.slice none 0 0] 91,bx b3 [iv 0] 3,bx b4 [iv 8] 3,bx b5 [iv 0] 3,bx b6 [iv 6] 3,bx b7 [.func (.func 207) #[] #[pt b2 0]] 92]) (fun _=>rfl)) fun ⟨b3,b4,b5,b6,b7⟩=>?_))))))))
 refine ip' 1 0 [(5,.func (.func 224) #[] #[pt b3 0,pt b4 0,pt b5 0,pt b6 0,pt b7 0])] (ie (sr 2 rfl (ip' 2 0 [(6,iv 0),(7,iv 0)] (ie (A7 (sr 3 rfl (ip' 3 0 [(15,iv (s.length:Int)),(16,iv 0)] (ie (B2 (A2r (L9 [vo cU8 5 VR.nil ([]:List UInt8),[bx b2 [.pointer none,.slice none 0 0] 91],[bx b3 [iv 0] 3],[bx b4 [iv 8] 3],[bx b5 [iv 0] 3],[bx b6 [iv 6] 3],[bx b7 [.func (.func 207) #[] #[pt b2 0]] 92]] [1,2,3,4,5,6,0] 7 rfl (by decide) rfl [[bx b2 [.pointer none,.slice none 0 0] 91],[bx b3 [iv 0] 3],[bx b4 [iv 8] 3],[bx b5 [iv 0] 3],[bx b6 [iv 6] 3],[bx b7 [.func (.func 207) #[] #[pt b2 0]] 92],vo cU8 5 VR.nil ([]:List UInt8)] rfl (by first|rfl|simp)) ?_))))))))))
 refine E9l (fun (wait:Int) (rest:Int) (t16:Nat) (baddrz:Option Addr) (bbuf:List UInt8) (bbufr:VR) (b:Int) (b1:Int)=>(t16≤s.length∧J5 s (s.drop t16) wait rest t16 bbuf b b1=R∧(baddrz=none∨baddrz=some ⟨b2,0,none⟩)∧VOk 1 bbuf.length bbufr∧(A4i b1 b∧b1≤4)∧(wait=b1∧rest=b)∧(bbuf.length:Int) * 6+b1=8 * (t16:Int)∧s.length≤4096∧0≤b1,[(0,sv s),(4,pt b2 0),(5,.func (.func 224) #[] #[pt b3 0,pt b4 0,pt b5 0,pt b6 0,pt b7 0]),(6,iv wait),(7,iv rest),(15,iv (s.length:Int)),(16,iv (t16:Int))],(bx b2 [.pointer baddrz,.slice (va bbufr.q) bbuf.length bbufr.k] 91::bx b3 [iv b] 3::bx b4 [iv 8] 3::bx b5 [iv b1] 3::bx b6 [iv 6] 3::bx b7 [.func (.func 207) #[] #[pt b2 0]] 92::(vo cU8 5 bbufr bbuf)++([])),[],s.length - t16)) 0 0 0 none ([]:List UInt8) VR.nil 0 0 ⟨(by omega),hR,(.inl rfl),VOk.nil,(by exact ⟨.inl ⟨rfl,rfl⟩,by omega⟩),(by exact ⟨rfl,rfl⟩),(by simp),(by omega)⟩ (mc [[bx b2 [.pointer none,.slice none 0 0] 91],[bx b3 [iv 0] 3],[bx b4 [iv 8] 3],[bx b5 [iv 0] 3],[bx b6 [iv 6] 3],[bx b7 [.func (.func 207) #[] #[pt b2 0]] 92],vo cU8 5 VR.nil ([]:List UInt8)] [true,true,true,true,true,true,true] rfl (by first|rfl|(simp only [List.length_set]<;>rfl))) fn0 ?_
 rintro wait rest t16 baddrz bbuf bbufr b b1 ⟨hm8,hR,hzbaddrz,hokbbufr,hIE,hwb,hbl,hs4⟩
 have:=VOk.le hokbbufr
 refine sr 1 rfl (ip' 1 0 [(17,bv (decide ((t16:Int)<(s.length:Int))))] ?_)
 refine ie (A7 (I9 rfl (fun h9=>?_) (fun h9=>?_)))
 ·have h9p:(t16:Int)<(s.length:Int):=by simpa using h9
  rw [A4r 0 (show t16<s.length by omega)] at hR;replace hR:=(J5.eq_2 ..).symm.trans hR
  refine A9 (nx (A7 (B2 (sr 2 rfl (ip' 2 0 [(8,iv (t16:Int))] (ie (A3 11 rfl (ip' 3 8 [(20,.func (.func 224) #[] #[pt b3 0,pt b4 0,pt b5 0,pt b6 0,pt b7 0]),(21,sv s),(22,iv (t16:Int))] (ix rfl (B9f (T:=9) Tryz.underlying9 rfl rfl rfl t16 rfl (by first|omega|(refine Nat.lt_of_lt_of_le (m:=64) (by omega) (by decide)))) (ix rfl (B2i (c:=((s.getD t16 0).toNat:Int)) Tryz.underlying3 (by kernel_rfl) rfl rfl (B1b (s.getD t16 0))) ?_))))))))))
  have hQ:=C9 hR;clear hR;obtain ⟨y4,hy4,hR⟩:=hQ
  refine it rfl (C2 (L2:=[]) (B6u ((s.getD t16 0).toNat:Int) b b1 bbuf b3 b4 b5 b6 b7 b2 baddrz bbufr hzbaddrz hokbbufr (by first|omega|(have q:=hIE.1;unfold A4i at q;omega)) (by first|exact hIE|exact ⟨.inl ⟨rfl,rfl⟩,by omega⟩) (by first|omega|exact ⟨Int.natCast_nonneg _,Int.ofNat_le.2 (Nat.le_of_lt_succ (UInt8.toNat_lt _))⟩) (by first|omega|(simp<;>omega)) y4 hy4) rfl rfl rfl rfl rfl fn0 (L9 [[bx b2 [.pointer baddrz,.slice (va bbufr.q) bbuf.length bbufr.k] 91],[bx b3 [iv b] 3],[bx b4 [iv 8] 3],[bx b5 [iv b1] 3],[bx b6 [iv 6] 3],[bx b7 [.func (.func 207) #[] #[pt b2 0]] 92],vo cU8 5 bbufr bbuf] [1,2,3,4,0,5,6] 7 rfl (by decide) rfl [[bx b3 [iv b] 3],[bx b4 [iv 8] 3],[bx b5 [iv b1] 3],[bx b6 [iv 6] 3],[bx b2 [.pointer baddrz,.slice (va bbufr.q) bbuf.length bbufr.k] 91],[bx b7 [.func (.func 207) #[] #[pt b2 0]] 92],vo cU8 5 bbufr bbuf] rfl (by first|rfl|simp)) (fun ⟨⟨r10,hk11⟩,⟨z12,hz13⟩⟩=>(bx b3 [iv y4.1] 3::bx b4 [iv 8] 3::bx b5 [iv y4.2.1] 3::bx b6 [iv 6] 3::bx b2 [.pointer z12,.slice (va r10.q) y4.2.2.1.length r10.k] 91::bx b7 [.func (.func 207) #[] #[pt b2 0]] 92::(vo cU8 5 r10 y4.2.2.1)++([]))) (fun _=>by first|rfl|simp)) fun ⟨⟨r10,hk11⟩,⟨z12,hz13⟩⟩=>?_
  have:=VOk.le hk11
  have:=VOk.cap hk11
  have hp:=A6x ((s.getD t16 0).toNat:Int) b b1 bbuf hIE.1 hIE.2 ⟨Int.natCast_nonneg _,Int.ofNat_le.2 (Nat.le_of_lt_succ (UInt8.toNat_lt _))⟩;rw [hy4] at hp
  refine ip' 5 0 [(6,iv y4.2.2.2.1),(7,iv y4.2.2.2.2)] (A6 (nx (A3 2 rfl (ix rfl (B6 rfl rfl rfl rfl (by omega)) (ip' 1 0 [(16,iv ((t16:Int)+1))] (A6 (A2r (L9 [[bx b3 [iv y4.1] 3],[bx b4 [iv 8] 3],[bx b5 [iv y4.2.1] 3],[bx b6 [iv 6] 3],[bx b2 [.pointer z12,.slice (va r10.q) y4.2.2.1.length r10.k] 91],[bx b7 [.func (.func 207) #[] #[pt b2 0]] 92],vo cU8 5 r10 y4.2.2.1] [4,0,1,2,3,5,6] 7 rfl (by decide) rfl [[bx b2 [.pointer z12,.slice (va r10.q) y4.2.2.1.length r10.k] 91],[bx b3 [iv y4.1] 3],[bx b4 [iv 8] 3],[bx b5 [iv y4.2.1] 3],[bx b6 [iv 6] 3],[bx b7 [.func (.func 207) #[] #[pt b2 0]] 92],vo cU8 5 r10 y4.2.2.1] rfl (by first|rfl|simp)) ?_)))))))
  exact E9o (z1:=wait) (z2:=rest) (z3:=t16) (z4:=baddrz) (z5:=bbuf) (z6:=bbufr) (z7:=b) (z8:=b1) y4.2.2.2.1 y4.2.2.2.2 (t16+1) z12 y4.2.2.1 r10 y4.1 y4.2.1 ⟨(by omega),hR,hz13,hk11,(by exact ⟨hp.1,by have q:=hp.1;unfold A4i at q;omega⟩),(by exact ⟨hp.2.2.1,hp.2.2.2.1⟩),(by omega),(by (have q:=hp.1;unfold A4i at q;omega))⟩ (by (try dsimp only);omega) (mc [[bx b2 [.pointer z12,.slice (va r10.q) y4.2.2.1.length r10.k] 91],[bx b3 [iv y4.1] 3],[bx b4 [iv 8] 3],[bx b5 [iv y4.2.1] 3],[bx b6 [iv 6] 3],[bx b7 [.func (.func 207) #[] #[pt b2 0]] 92],vo cU8 5 r10 y4.2.2.1] [true,true,true,true,true,true,true] rfl (by first|rfl|(simp only [List.length_set]<;>rfl))) fn0
 have h9p:¬ ((t16:Int)<(s.length:Int)):=by simpa using h9
 rw [A4s h9p] at hR;replace hR:=(J5.eq_1 ..).symm.trans hR
 refine J1 (nx (C8g (fun (baddrz1:Option Addr) (bbuf1:List UInt8) (bbufr1:VR)=>(Q4 s bbuf1=R∧(baddrz1=none∨baddrz1=some ⟨b2,0,none⟩)∧VOk 1 bbuf1.length bbufr1∧bbuf1.length * 6≤8 * s.length+5∧8 * s.length≤bbuf1.length * 6,[(0,sv s),(4,pt b2 0)],(bx b2 [.pointer baddrz1,.slice (va bbufr1.q) bbuf1.length bbufr1.k] 91::bx b3 [iv b] 3::bx b4 [iv 8] 3::bx b5 [iv b1] 3::bx b6 [iv 6] 3::bx b7 [.func (.func 207) #[] #[pt b2 0]] 92::(vo cU8 5 bbufr1 bbuf1)++([])),[])) ?_ ?_))
 ·refine sr 2 rfl (ip' 2 0 [(30,bv (decide ((0:Int)<wait)))] (ie ?_))
  refine zjd rfl hR ?_ ?_<;>clear hR<;>intro hR h14 h14p
  ·have hla:=D9y hIE.1 (by omega) hIE.2;rw [← hwb.1,← hwb.2] at hla
   have hlb:0≤IntKind.i64.wrap (rest * 2 ^ (min ((6:Int) - wait).toNat IntKind.i64.bits))∧IntKind.i64.wrap (rest * 2 ^ (min ((6:Int) - wait).toNat IntKind.i64.bits))<64:=hla
   have hlc:IntKind.i64.wrap (rest * 2 ^ (min ((6:Int) - wait).toNat IntKind.i64.bits))=IntKind.i64.wrap (rest * 2 ^ (min ((6:Int) - wait).toNat 64)):=rfl
   refine A3 6 rfl (ip' 2 4 [(31,iv rest),(32,iv wait)] (ix rfl (M6 rfl rfl rfl rfl (by omega)) (ix rfl (B6a rfl rfl rfl (by omega) rfl) (ix rfl (B9f (T:=9) Tryz.underlying9 rfl rfl rfl ((IntKind.i64.wrap (rest * 2 ^ (min ((6 - wait)).toNat 64))).toNat) (by omega) (by first|omega|(refine Nat.lt_of_lt_of_le (m:=64) (by omega) (by decide)))) ?_))))
   have hQ:=C9 hR;clear hR;obtain ⟨y6,hy6,hR⟩:=hQ
   refine it rfl (Q6 (L2:=[bx b3 [iv b] 3,bx b4 [iv 8] 3,bx b5 [iv b1] 3,bx b6 [iv 6] 3,bx b7 [.func (.func 207) #[] #[pt b2 0]] 92]) (A2y bbuf (C1q.getD ((IntKind.i64.wrap (rest * 2 ^ (min ((6 - wait)).toNat 64))).toNat) 0) b2 baddrz bbufr hzbaddrz hokbbufr (by first|omega|(simp<;>omega)) y6 hy6) rfl rfl rfl rfl rfl fn0 (L9 [[bx b2 [.pointer baddrz,.slice (va bbufr.q) bbuf.length bbufr.k] 91],[bx b3 [iv b] 3],[bx b4 [iv 8] 3],[bx b5 [iv b1] 3],[bx b6 [iv 6] 3],[bx b7 [.func (.func 207) #[] #[pt b2 0]] 92],vo cU8 5 bbufr bbuf] [0,6,1,2,3,4,5] 7 rfl (by decide) rfl [[bx b2 [.pointer baddrz,.slice (va bbufr.q) bbuf.length bbufr.k] 91],vo cU8 5 bbufr bbuf,[bx b3 [iv b] 3],[bx b4 [iv 8] 3],[bx b5 [iv b1] 3],[bx b6 [iv 6] 3],[bx b7 [.func (.func 207) #[] #[pt b2 0]] 92]] rfl (by first|rfl|simp)) (fun ⟨r15,hk16⟩=>(bx b2 [pt b2 0,.slice (va r15.q) y6.length r15.k] 91::bx b3 [iv b] 3::bx b4 [iv 8] 3::bx b5 [iv b1] 3::bx b6 [iv 6] 3::bx b7 [.func (.func 207) #[] #[pt b2 0]] 92::(vo cU8 5 r15 y6)++([]))) (fun ⟨r15,hk16⟩=>L9 [[bx b2 [pt b2 0,.slice (va r15.q) y6.length r15.k] 91],vo cU8 5 r15 y6,[bx b3 [iv b] 3],[bx b4 [iv 8] 3],[bx b5 [iv b1] 3],[bx b6 [iv 6] 3],[bx b7 [.func (.func 207) #[] #[pt b2 0]] 92]] [0,2,3,4,5,6,1] 7 rfl (by decide) (by first|rfl|simp) [[bx b2 [pt b2 0,.slice (va r15.q) y6.length r15.k] 91],[bx b3 [iv b] 3],[bx b4 [iv 8] 3],[bx b5 [iv b1] 3],[bx b6 [iv 6] 3],[bx b7 [.func (.func 207) #[] #[pt b2 0]] 92],vo cU8 5 r15 y6] rfl (by first|rfl|simp))) fun ⟨r15,hk16⟩=>?_
   have:=VOk.le hk16
   have:=VOk.cap hk16
   have:=X0 bbuf (C1q.getD ((IntKind.i64.wrap (rest * 2 ^ (min ((6 - wait)).toNat 64))).toNat) 0);try rw [hy6] at this
   refine A6 ?_
   exact B3a (some ⟨b2,0,none⟩) y6 r15 ⟨hR,(.inr rfl),hk16,(by omega)⟩ (mc [[bx b2 [pt b2 0,.slice (va r15.q) y6.length r15.k] 91],[bx b3 [iv b] 3],[bx b4 [iv 8] 3],[bx b5 [iv b1] 3],[bx b6 [iv 6] 3],[bx b7 [.func (.func 207) #[] #[pt b2 0]] 92],vo cU8 5 r15 y6] [true,true,true,true,true,true,true] rfl (by first|rfl|(simp only [List.length_set]<;>rfl))) fn0
  refine A9 ?_
  exact B3a baddrz bbuf bbufr ⟨hR,hzbaddrz,hokbbufr,(by omega)⟩ (mc [[bx b2 [.pointer baddrz,.slice (va bbufr.q) bbuf.length bbufr.k] 91],[bx b3 [iv b] 3],[bx b4 [iv 8] 3],[bx b5 [iv b1] 3],[bx b6 [iv 6] 3],[bx b7 [.func (.func 207) #[] #[pt b2 0]] 92],vo cU8 5 bbufr bbuf] [true,true,true,true,true,true,true] rfl (by first|rfl|(simp only [List.length_set]<;>rfl))) fn0
 intro baddrz1 bbuf1 bbufr1
 rintro ⟨hR,hzbaddrz1,hokbbufr1,hj⟩
 replace hR:=(Q4.eq_1 ..).symm.trans hR
 refine sr 10 rfl (it rfl (C2 (L2:=[bx b3 [iv b] 3,bx b4 [iv 8] 3,bx b5 [iv b1] 3,bx b6 [iv 6] 3,bx b7 [.func (.func 207) #[] #[pt b2 0]] 92]) (D7a b2 (.pointer baddrz1) bbuf1 bbufr1 hokbbufr1) rfl rfl rfl rfl rfl fn0 (L9 [[bx b2 [.pointer baddrz1,.slice (va bbufr1.q) bbuf1.length bbufr1.k] 91],[bx b3 [iv b] 3],[bx b4 [iv 8] 3],[bx b5 [iv b1] 3],[bx b6 [iv 6] 3],[bx b7 [.func (.func 207) #[] #[pt b2 0]] 92],vo cU8 5 bbufr1 bbuf1] [0,6,1,2,3,4,5] 7 rfl (by decide) rfl [[bx b2 [.pointer baddrz1,.slice (va bbufr1.q) bbuf1.length bbufr1.k] 91],vo cU8 5 bbufr1 bbuf1,[bx b3 [iv b] 3],[bx b4 [iv 8] 3],[bx b5 [iv b1] 3],[bx b6 [iv 6] 3],[bx b7 [.func (.func 207) #[] #[pt b2 0]] 92]] rfl (by first|rfl|simp)) (fun _=>[bx b2 [.pointer baddrz1,.slice (va bbufr1.q) bbuf1.length bbufr1.k] 91,bx b3 [iv b] 3,bx b4 [iv 8] 3,bx b5 [iv b1] 3,bx b6 [iv 6] 3,bx b7 [.func (.func 207) #[] #[pt b2 0]] 92]) (fun _=>rfl)) fun _=>(ip' 2 7 [(39,iv (s.length:Int))] (zca (C6e (s.length:Int) (by omega) _ rfl) fn0 ?_)))
 have:=B0a (s.length:Int) (by omega)
 refine it rfl (C2 (L2:=[bx b3 [iv b] 3,bx b4 [iv 8] 3,bx b5 [iv b1] 3,bx b6 [iv 6] 3,bx b7 [.func (.func 207) #[] #[pt b2 0]] 92]) (E5h b2 (.pointer baddrz1) (va bbufr1.q) bbuf1.length bbufr1.k) rfl rfl rfl rfl rfl fn0 (L9 [[bx b2 [.pointer baddrz1,.slice (va bbufr1.q) bbuf1.length bbufr1.k] 91],[bx b3 [iv b] 3],[bx b4 [iv 8] 3],[bx b5 [iv b1] 3],[bx b6 [iv 6] 3],[bx b7 [.func (.func 207) #[] #[pt b2 0]] 92]] [0,1,2,3,4,5] 6 rfl (by decide) rfl [[bx b2 [.pointer baddrz1,.slice (va bbufr1.q) bbuf1.length bbufr1.k] 91],[bx b3 [iv b] 3],[bx b4 [iv 8] 3],[bx b5 [iv b1] 3],[bx b6 [iv 6] 3],[bx b7 [.func (.func 207) #[] #[pt b2 0]] 92]] rfl (by first|rfl|simp)) (fun _=>[bx b2 [.pointer baddrz1,.slice (va bbufr1.q) bbuf1.length bbufr1.k] 91,bx b3 [iv b] 3,bx b4 [iv 8] 3,bx b5 [iv b1] 3,bx b6 [iv 6] 3,bx b7 [.func (.func 207) #[] #[pt b2 0]] 92]) (fun _=>rfl)) fun _=>?_
 refine ix rfl (M6 rfl rfl rfl rfl (by omega)) (zca (D9f ([61]:List UInt8) ((A2i (s.length:Int)) - (bbuf1.length:Int)) (by first|omega|(simp<;>omega)) (by first|omega|(simp<;>omega)) (by first|omega|(simp<;>omega))) fn0 ?_)
 have:=C1s ([61]:List UInt8) ((A2i (s.length:Int)) - (bbuf1.length:Int));try simp only [List.length_cons,List.length_nil] at this
 refine ix rfl (zst rfl rfl rfl) (ip' 2 0 [(2,sv (bbuf1++(B1h ([61]:List UInt8) ((A2i (s.length:Int)) - (bbuf1.length:Int))))),(3,iv 0)] ?_)
 subst hR
 refine ie (B0 ?_)
 exact A9j hr hD
def A6u (a:Act):Option (List UInt8) :=
 (Option.bind (A7j a ({Act.zero with kind:=a.kind,text:=a.text})) fun (r:Unit)=>(Option.bind (Y0 (decide ((a.text.length:Int)≤378))) fun (r1:Unit)=>(B5 (X1 a.text) fun (y0:List UInt8×Int)=>(Option.bind (Y0 (decide (y0.2=0))) fun (r2:Unit)=>(some (([53,50,59,99,59]:List UInt8)++y0.1))))))
theorem C3v (a:Act) (R:Option (List UInt8)) (hR:A6u a=R):B8s Tryz.prog 179 [ag (A5 a)] [] [] A0i R (fun r=>sv r):=by
 refine A4n (n:=28) Tryz.func179 rfl (by kernel_rfl) rfl rfl [(0,ag (A5 a))] ⟨rfl,trivial⟩ fun X hX hr hD=>?_
 replace hR:=(A6u.eq_1 ..).symm.trans hR
 refine sr 2 rfl (P1 2 0 [] (fun b1=>[(1,pt b1 0)]) (fun b1=>[bx b1 (A5 a) 26]) (fun b1=>(ie (sr 7 rfl (zrl 6 1 [0,0,0] [(5,ag (A5 a)),(10,ag (A5 ({Act.zero with kind:=a.kind,text:=a.text})))] ?_)))))
 refine Y9 (L2:=[bx b1 (A5 a) 26]) (B5t a ({Act.zero with kind:=a.kind,text:=a.text}) _ rfl) rfl rfl rfl rfl rfl rfl fn0 (List.Perm.refl _) (fun r hs2=>?_) (fun hn3=>?_)
 ·replace hR:=A9b hR hs2
  refine ie (sr 5 rfl (zrl 4 1 [0] [(15,bv (decide ((a.text.length:Int)≤378)))] ?_))
  refine Y9 (L2:=[bx b1 (A5 a) 26]) (A2t (decide ((a.text.length:Int)≤378)) _ rfl) rfl rfl rfl rfl rfl rfl fn0 (List.Perm.refl _) (fun r1 hs4=>?_) (fun hn5=>?_)
  ·replace hR:=A9b hR hs4
   have hmu:=S5 hs4;try simp only [Bool.and_eq_true,decide_eq_true_eq] at hmu
   refine ie (sr 8 rfl (zrl 2 6 [0] [(19,sv a.text)] ?_))
   have hQ:=C9 hR;clear hR;obtain ⟨y0,hy0,hR⟩:=hQ
   refine zca (C2p a.text y0 hy0) fn0 ?_
   have:=B1m a.text;try rw [hy0] at this
   refine ip' 5 0 [(3,sv y0.1),(4,iv y0.2)] (ie (sr 3 rfl (ip' 2 1 [(24,bv (decide (y0.2=0)))] ?_)))
   refine Y9 (L2:=[bx b1 (A5 a) 26]) (A2t (decide (y0.2=0)) _ rfl) rfl rfl rfl rfl rfl rfl fn0 (List.Perm.refl _) (fun r2 hs6=>?_) (fun hn7=>?_)
   ·replace hR:=A9b hR hs6
    have hmu:=S5 hs6;try simp only [Bool.and_eq_true,decide_eq_true_eq] at hmu
    refine ie (sr 3 rfl (ip' 1 2 [(26,sv y0.1)] (ix rfl (zst rfl rfl rfl) (ip' 1 0 [(2,sv (([53,50,59,99,59]:List UInt8)++y0.1))] (ie (B0 ?_))))))
    exact A9p rfl ⟨hr,hD⟩ (by simp [hD]) (O3 rfl (B8 rfl)) hR.symm rfl
   ·replace hR:=A9a hR hn7
    exact N9 ⟨hr,hD⟩ hR.symm
  ·replace hR:=A9a hR hn5
   exact N9 ⟨hr,hD⟩ hR.symm
 ·replace hR:=A9a hR hn3
  exact N9 ⟨hr,hD⟩ hR.symm
def S6 (p0n:Int) (p0m:Int) (p0color:Col) (p0text:List UInt8):Option (List UInt8) :=
 (Option.bind (Y0 true) fun (r:Unit)=>(Option.bind (A6u (⟨46,p0n,p0m,p0color,p0text⟩:Act)) fun (r1:List UInt8)=>(some r1)))
theorem C6a (p0n:Int) (p0m:Int) (p0color:Col) (p0text:List UInt8) (p0p:Addr) (hs:p0text.length≤100000000) (R:Option (List UInt8)) (hR:S6 p0n p0m p0color p0text=R):B8s Tryz.prog 119 [pa p0p] [] [at_ p0p (A5 (⟨46,p0n,p0m,p0color,p0text⟩:Act))] A0i R (fun r=>sv r):=by
 refine A4n (n:=16) Tryz.func119 rfl (by kernel_rfl) rfl rfl [(0,pa p0p)] ⟨rfl,trivial⟩ fun X hX hr hD=>?_
 replace hR:=(S6.eq_1 ..).symm.trans hR
 refine sr 1 rfl (ip' 1 0 [] (ie (sh 9 [] [at_ p0p (A5 (⟨46,p0n,p0m,p0color,p0text⟩:Act))] [] (zml 9 0) (by kernel_rfl) rfl (by kernel_rfl) (by kernel_rfl) (by kernel_rfl) (mk [] rfl) A0.refl ?_)))
 refine zhp [1] 8 (zml 9 2) [(6,pa p0p)] ?_
 refine zhk 2 (zml 9 6) rfl (C4 (v:=iv 46) (us:=[iv 46]) ty3 rfl rfl (U3 (A1 0 rfl) (ws:=[iv 46]) 1 rfl) rfl) ?_
 refine zho 0 [] (zml 9 7) rfl (C2 (L2:=[]) (B3v _ rfl) rfl rfl rfl rfl rfl fn0 (List.Perm.refl _) (fun b1=>[(b1,.map #[⟨iv 44,.func (.func 173) #[] #[],0⟩,⟨iv 45,.func (.func 176) #[] #[],1⟩,⟨iv 46,.func (.func 179) #[] #[],2⟩] 3)]) (fun _=>rfl)) (fun b1=>(mk [false] rfl)) (fun b1=>A0.refl) fun b1=>?_
 refine zho 3 [] (zml 9 15) rfl (Det.tri (J0.det (B7o (v:=.func (.func 179) #[] #[]) (j:=2) C0t rfl rfl rfl 0 rfl (by kernel_rfl)))) (fun _=>(mk [false] rfl)) (fun _=>A0.refl) fun _=>?_
 refine zhp [4,5,6,7,8] 0 (zml 9 511) [(2,.func (.func 179) #[] #[]),(3,bv true)] ?_
 refine A8j (by kernel_rfl) ?_
 refine sr 2 rfl (ip' 1 1 [(11,bv true)] ?_)
 refine Y9 (L2:=[(b1,.map #[⟨iv 44,.func (.func 173) #[] #[],0⟩,⟨iv 45,.func (.func 176) #[] #[],1⟩,⟨iv 46,.func (.func 179) #[] #[],2⟩] 3)]) (A2t true _ rfl) rfl rfl rfl rfl rfl rfl fn0 (List.Perm.refl _) (fun r hs2=>?_) (fun hn3=>?_)
 ·replace hR:=A9b hR hs2
  have hmu:=S5 hs2;try simp only [Bool.and_eq_true,decide_eq_true_eq] at hmu
  refine ie (sr 4 rfl (ip' 1 3 [(13,.func (.func 179) #[] #[])] (ix rfl (P5 (us:=A5 (⟨46,p0n,p0m,p0color,p0text⟩:Act)) B4z rfl rfl (A1 0 rfl) rfl) ?_)))
  refine Y9 (L2:=[(b1,.map #[⟨iv 44,.func (.func 173) #[] #[],0⟩,⟨iv 45,.func (.func 176) #[] #[],1⟩,⟨iv 46,.func (.func 179) #[] #[],2⟩] 3)]) (C3v (⟨46,p0n,p0m,p0color,p0text⟩:Act) _ rfl) rfl rfl rfl rfl rfl rfl fn0 (List.Perm.refl _) (fun r1 hs4=>?_) (fun hn5=>?_)
  ·replace hR:=A9b hR hs4
   refine ip' 1 0 [(1,sv r1)] (ie (B0 ?_))
   exact A9p rfl ⟨hr,hD⟩ (by simp [hD]) (O3 rfl (B8 rfl)) hR.symm rfl
  ·replace hR:=A9a hR hn5
   exact N9 ⟨hr,hD⟩ hR.symm
 ·replace hR:=A9a hR hn3
  exact N9 ⟨hr,hD⟩ hR.symm
def Y7 (an:Int) (am:Int) (acolor:Col) (atext:List UInt8):List UInt8×Int :=
 (bif (!((A1t (S6 an am acolor atext)).2)) then (([]:List UInt8),2) else ((A1t (S6 an am acolor atext)).1,0))
theorem B0g (an am:Int) (c:Col) (t:List UInt8):(Y7 an am c t).1.length≤t.length+6000:=by
 have key:∀ s,S6 an am c t=some s→s.length≤t.length+6000:=by
  intro s h
  unfold S6 A6u at h
  simp only [Option.bind_eq_some_iff,Option.some.injEq] at h
  obtain ⟨_,_,r1,⟨_,_,_,hm,h2⟩,h3⟩:=h
  have hm:=S5 hm
  simp only [decide_eq_true_eq] at hm
  unfold B5 at h2
  simp only [Option.bind_eq_some_iff,Option.some.injEq] at h2
  obtain ⟨_,_,h2⟩:=h2
  have:=B1m t
  rw [← h3,← h2]
  simp only [List.length_append,List.length_cons,List.length_nil]
  omega
 unfold Y7
 cases hR:S6 an am c t with
 | none=>simp [A1t]
 | some s=>have:=key s hR;simp [A1t];omega
theorem B9k (an:Int) (am:Int) (acolor:Col) (atext:List UInt8) (hs:atext.length≤100000000) (R:List UInt8×Int) (hR:Y7 an am acolor atext=R):K5 Tryz.prog 65 [ag (A5 (⟨46,an,am,acolor,atext⟩:Act))] [] (.tuple #[sv R.1,iv R.2]):=by
 refine zco Tryz.func65 [(0,ag (A5 (⟨46,an,am,acolor,atext⟩:Act)))] fun X hX hr hD=>?_
 replace hR:=(Y7.eq_1 ..).symm.trans hR
 refine sr 3 rfl (it rfl (Z5 (cs:=A5 (⟨46,an,am,acolor,atext⟩:Act)) rfl rfl rfl) fun b1=>?_)
 refine A2u 0 rfl ?_
 refine ip' 2 0 [] (ie (sr 7 rfl (ip' 1 6 [(7,.func (.func 119) #[] #[pa ⟨b1,0,none⟩])] (zca (D3w (cap:=[pa ⟨b1,0,none⟩]) _ (C6a an am acolor atext ⟨b1,0,none⟩ (by omega) _ rfl)) A0.refl (ip' 5 0 [(4,sv ((A1t (S6 an am acolor atext)).1)),(5,bv ((A1t (S6 an am acolor atext)).2))] (ie (A7 (sr 2 rfl (ip' 2 0 [(12,bv (!((A1t (S6 an am acolor atext)).2)))] (ie ?_))))))))))
 refine zjb rfl hR ?_ ?_<;>clear hR<;>intro hR h2
 ·refine sr 2 rfl (ip' 2 0 [(2,sv ([]:List UInt8)),(3,iv 2)] ?_)
  subst hR
  refine ie (B0 ?_)
  exact A9j hr hD
 refine A9 (nx (sr 3 rfl (ip' 3 0 [(2,sv ((A1t (S6 an am acolor atext)).1)),(3,iv 0)] ?_)))
 subst hR
 refine ie (B0 ?_)
 exact A9j hr hD
def A2w (an:Int) (am:Int) (acolor:Col) (atext:List UInt8):List UInt8 :=
 (B5 (Y7 an am acolor atext) fun (y11:List UInt8×Int)=>((([27,93]:List UInt8)++y11.1)++([27,92]:List UInt8)))
theorem B8r (an:Int) (am:Int) (acolor:Col) (atext:List UInt8) (hs:atext.length≤100000000) (R:List UInt8) (hR:A2w an am acolor atext=R):K5 Tryz.prog 77 [ag (A5 (⟨46,an,am,acolor,atext⟩:Act))] [] (sv R):=by
 refine zco Tryz.func77 [(0,ag (A5 (⟨46,an,am,acolor,atext⟩:Act)))] fun X hX hr hD=>?_
 replace hR:=(A2w.eq_1 ..).symm.trans hR
 refine sr 2 rfl (P1 2 0 [] (fun b1=>[(1,pt b1 0)]) (fun b1=>[bx b1 (A5 (⟨46,an,am,acolor,atext⟩:Act)) 26]) (fun b1=>(ie (sr 7 rfl (zrl 1 6 [0] [(6,ag (A5 (⟨46,an,am,acolor,atext⟩:Act)))] ?_)))))
 have hQ:=C9 hR;clear hR;obtain ⟨y11,hy11,hR⟩:=hQ
 refine zca (B9k an am acolor atext (by first|omega|(simp<;>omega)) y11 hy11) fn0 ?_
 have:=B0g an am acolor atext;try rw [hy11] at this
 refine ip' 5 0 [(3,sv y11.1)] (ie (sr 4 rfl (ip' 1 3 [(10,sv y11.1)] (ix rfl (zst rfl rfl rfl) (ix rfl (zst rfl rfl rfl) (ip' 1 0 [(2,sv ((([27,93]:List UInt8)++y11.1)++([27,92]:List UInt8)))] ?_))))))
 subst hR
 refine ie (B0 ?_)
 exact F8 hr hD
def B2o (a:Act):Prop:=a.text.length≤100000000∧1≤a.kind∧a.kind≤46∧(a.kind=7∨a.kind=14∨a.kind=21∨a.kind=33∨a.kind=42→0≤a.n∧a.n≤1)∧(a.kind=17∨a.kind=20→0≤a.n∧a.n≤3)∧(a.kind=18→2≤a.n∧a.n≤3)∧(a.kind=17∨a.kind=36∨a.kind=37∨a.kind=43→0≤a.m∧a.m≤1)
def A2v (a:Act):List UInt8 :=
 (bif (decide (a.kind=1)) then (A3t (⟨1,a.n,a.m,a.color,a.text⟩:Act)) else (bif (decide (a.kind=2)) then (G9 a ([7]:List UInt8)) else (bif (decide (a.kind=3)) then (G9 a ([8]:List UInt8)) else (bif (decide (a.kind=4)) then (G9 a ([9]:List UInt8)) else (bif (decide (a.kind=5)) then (G9 a ([10]:List UInt8)) else (bif (decide (a.kind=6)) then (G9 a ([13]:List UInt8)) else (bif (decide (a.kind=7)) then (U7 a ([]:List UInt8) ([15,14]:List UInt8) 0) else (bif (decide (a.kind=8)) then (G9 a ([27,68]:List UInt8)) else (bif (decide (a.kind=9)) then (G9 a ([27,69]:List UInt8)) else (bif (decide (a.kind=10)) then (G9 a ([27,72]:List UInt8)) else (bif (decide (a.kind=11)) then (G9 a ([27,77]:List UInt8)) else (bif (decide (a.kind=12)) then (G9 a ([27,55]:List UInt8)) else (bif (decide (a.kind=13)) then (G9 a ([27,56]:List UInt8)) else (bif (decide (a.kind=14)) then (U7 a ([27]:List UInt8) ([62,61]:List UInt8) 0) else (bif (decide (a.kind=15)) then (G9 a ([27,99]:List UInt8)) else (bif (decide (a.kind=16)) then (G9 a ([27,35,56]:List UInt8)) else (bif (decide (a.kind=17)) then (A3o (⟨17,a.n,a.m,a.color,a.text⟩:Act)) else (bif (decide (a.kind=18)) then (U7 a ([27]:List UInt8) ([78,79]:List UInt8) 2) else (bif (decide (a.kind=19)) then (A3z (⟨19,a.n,a.m,a.color,a.text⟩:Act)) else (bif (decide (a.kind=20)) then (U6 a ([65,66,67,68]:List UInt8)) else (bif (decide (a.kind=21)) then (U6 a ([69,70]:List UInt8)) else (bif (decide (a.kind=22)) then (G2 a 1 ([71]:List UInt8)) else (bif (decide (a.kind=23)) then (G2 a 1 ([100]:List UInt8)) else (bif (decide (a.kind=24)) then (G2 a 1 ([73]:List UInt8)) else (bif (decide (a.kind=25)) then (G2 a 1 ([90]:List UInt8)) else (bif (decide (a.kind=26)) then (G2 a 0 ([74]:List UInt8)) else (bif (decide (a.kind=27)) then (G2 a 0 ([75]:List UInt8)) else (bif (decide (a.kind=28)) then (G2 a 1 ([64]:List UInt8)) else (bif (decide (a.kind=29)) then (G2 a 1 ([80]:List UInt8)) else (bif (decide (a.kind=30)) then (G2 a 1 ([88]:List UInt8)) else (bif (decide (a.kind=31)) then (G2 a 1 ([76]:List UInt8)) else (bif (decide (a.kind=32)) then (G2 a 1 ([77]:List UInt8)) else (bif (decide (a.kind=33)) then (U6 a ([83,84]:List UInt8)) else (bif (decide (a.kind=34)) then (G2 a 1 ([98]:List UInt8)) else (bif (decide (a.kind=35)) then (G2 a 0 ([103]:List UInt8)) else (bif (decide (a.kind=36)) then (W9 a ([]:List UInt8)) else (bif (decide (a.kind=37)) then (W9 a ([63]:List UInt8)) else (bif (decide (a.kind=38)) then (A3c (⟨38,a.n,a.m,a.color,a.text⟩:Act)) else (bif (decide (a.kind=39)) then (A3d (⟨39,a.n,a.m,a.color,a.text⟩:Act)) else (bif (decide (a.kind=40)) then (G2 a 0 ([32,113]:List UInt8)) else (bif (decide (a.kind=41)) then (G2 a (-2) ([110]:List UInt8)) else (bif (decide (a.kind=42)) then (A2z (⟨42,a.n,a.m,a.color,a.text⟩:Act)) else (bif (decide (a.kind=43)) then (A3b (⟨43,a.n,a.m,a.color,a.text⟩:Act)) else (bif (decide (a.kind=44)) then (A3m a.n a.m a.color a.text) else (bif (decide (a.kind=45)) then (A2x a.n a.m a.color a.text) else (bif (decide (a.kind=46)) then (A2w a.n a.m a.color a.text) else ([]:List UInt8)))))))))))))))))))))))))))))))))))))))))))))))
def tC (k:Int):List Value→Value→Prop:=C2t (fun a=>a.kind=k∧B2o a) A2v
theorem tcv {Φ:List Pers} {v:Value} {pre:Act→Prop} {f:Act→List UInt8} {k:Int} (h:X5 Φ (M1 Tryz.prog v (C2t pre f))) (hp:∀ a:Act,a.kind=k→B2o a→pre a:=by intro a hk ha;unfold B2o at ha;first|trivial|omega|(simp<;>omega)) (hf:∀ a:Act,a.kind=k→f a=A2v a:=by intro a hk;unfold A2v;simp only [hk];rfl):X5 Φ (M1 Tryz.prog v (tC k)) :=
 D3e h (fun args r hC=>by obtain ⟨a,⟨hk,ha⟩,rfl,rfl⟩:=hC;exact ⟨a,hp a hk ha,rfl,congrArg sv (hf a hk).symm⟩)
def B9y:Unit :=
 ()
theorem C5y (R:Unit) (hR:B9y=R):Con Tryz.prog 39 [] [] [M3,S7,Q3,P0] ({t:Nat×List (Int×Value) // t.2.map Prod.fst=[1,2,3,4,5,6,7,8,9,10,11,12,13,15,16,14,17,18,20,21,33,19,22,23,24,25,28,29,30,31,32,34,26,27,35,40,36,37,38,41,42,43,39,44,45,46]}) (fun x=>.map (some x.1.1)) (fun x=>[(x.1.1,.map (A8 x.1.2 0).toArray x.1.2.length)]) (fun x=>[C0g Tryz.prog x.1.2 tC]):=by
 refine zco Tryz.func39 [] fun X hX hr hD=>?_
 replace hR:=(B9y.eq_1 ..).symm.trans hR
 refine sr 1 rfl (ip' 1 0 [] (ie (sr 1 rfl (ip' 1 0 [(1,.func (.func 67) #[] #[])] (ie (sr 1 rfl (ip' 1 0 [(2,.func (.func 69) #[] #[])] (ie (sr 1 rfl (ip' 1 0 [(3,.func (.func 72) #[] #[])] (ie (sr 1 rfl (ip' 1 0 [(4,.func (.func 75) #[] #[])] (ie (sr 1 rfl (ip' 1 0 [(5,.func (.func 77) #[] #[])] (ie (sr 1 rfl (ip' 1 0 [(6,.func (.func 78) #[] #[])] ?_)))))))))))))))))))
 refine ie (sr 124 rfl (it rfl (B1o rfl) fun b1=>(C3 (q:=M1 Tryz.prog (.func (.func 80) #[] #[]) (tC 1)) (P6 (C:=tC 1) (fun args r hC=>by obtain ⟨a,⟨hk,ha⟩,rfl,rfl⟩:=hC;obtain ⟨k_,n_,m_,c_,t_⟩:=a;dsimp only at hk;subst hk;unfold B2o at ha;dsimp only at ha;rw [show A2v (⟨1,n_,m_,c_,t_⟩:Act)=(A3t (⟨1,n_,m_,c_,t_⟩:Act)) from rfl];exact B9.of (C1d (⟨1,n_,m_,c_,t_⟩:Act) _ rfl) rfl fn0) A0.refl) ?_)))
 refine it rfl (D7 (C:=tC) (l:=([]:List (Int×Value))) (ks:=[]) (k:=1) (Φ':=[M3,S7,Q3,P0]) P4 (.inl rfl) rfl rfl rfl 0 rfl rfl (by decide) E0z (A1 0 rfl) (A0.pick [1,2,3,4] rfl)) fun ⟨ml2,hk3⟩=>?_
 refine ip' 1 121 [(8,.func (.func 67) #[] #[])] (it rfl (C2 (L2:=[(b1,.map (A8 ml2 0).toArray ml2.length)]) (L7 ([7]:List UInt8) _ rfl) rfl rfl rfl rfl rfl fn0 (List.Perm.refl _) (fun u4=>[(b1,.map (A8 ml2 0).toArray ml2.length)]) (fun _=>rfl)) fun u4=>?_)
 refine C3 (q:=M1 Tryz.prog (u4) (tC 2)) (tcv (A1 0 rfl)) ?_
 refine it rfl (D7 (C:=tC) (k:=2) (Φ':=[M3,S7,Q3,P0]) P4 (.inl rfl) rfl rfl rfl 0 rfl hk3 (by decide) (A1 2 rfl) (A1 0 rfl) (A0.pick [3,4,5,6] rfl)) fun ⟨ml5,hk6⟩=>?_
 refine ip' 1 118 [(10,.func (.func 67) #[] #[])] (it rfl (C2 (L2:=[(b1,.map (A8 ml5 0).toArray ml5.length)]) (L7 ([8]:List UInt8) _ rfl) rfl rfl rfl rfl rfl fn0 (List.Perm.refl _) (fun u7=>[(b1,.map (A8 ml5 0).toArray ml5.length)]) (fun _=>rfl)) fun u7=>?_)
 refine C3 (q:=M1 Tryz.prog (u7) (tC 3)) (tcv (A1 0 rfl)) ?_
 refine it rfl (D7 (C:=tC) (k:=3) (Φ':=[M3,S7,Q3,P0]) P4 (.inl rfl) rfl rfl rfl 0 rfl hk6 (by decide) (A1 2 rfl) (A1 0 rfl) (A0.pick [3,4,5,6] rfl)) fun ⟨ml8,hk9⟩=>?_
 refine ip' 1 115 [(12,.func (.func 67) #[] #[])] (it rfl (C2 (L2:=[(b1,.map (A8 ml8 0).toArray ml8.length)]) (L7 ([9]:List UInt8) _ rfl) rfl rfl rfl rfl rfl fn0 (List.Perm.refl _) (fun u10=>[(b1,.map (A8 ml8 0).toArray ml8.length)]) (fun _=>rfl)) fun u10=>?_)
 refine C3 (q:=M1 Tryz.prog (u10) (tC 4)) (tcv (A1 0 rfl)) ?_
 refine it rfl (D7 (C:=tC) (k:=4) (Φ':=[M3,S7,Q3,P0]) P4 (.inl rfl) rfl rfl rfl 0 rfl hk9 (by decide) (A1 2 rfl) (A1 0 rfl) (A0.pick [3,4,5,6] rfl)) fun ⟨ml11,hk12⟩=>?_
 refine ip' 1 112 [(14,.func (.func 67) #[] #[])] (it rfl (C2 (L2:=[(b1,.map (A8 ml11 0).toArray ml11.length)]) (L7 ([10]:List UInt8) _ rfl) rfl rfl rfl rfl rfl fn0 (List.Perm.refl _) (fun u13=>[(b1,.map (A8 ml11 0).toArray ml11.length)]) (fun _=>rfl)) fun u13=>?_)
 refine C3 (q:=M1 Tryz.prog (u13) (tC 5)) (tcv (A1 0 rfl)) ?_
 refine it rfl (D7 (C:=tC) (k:=5) (Φ':=[M3,S7,Q3,P0]) P4 (.inl rfl) rfl rfl rfl 0 rfl hk12 (by decide) (A1 2 rfl) (A1 0 rfl) (A0.pick [3,4,5,6] rfl)) fun ⟨ml14,hk15⟩=>?_
 refine ip' 1 109 [(16,.func (.func 67) #[] #[])] (it rfl (C2 (L2:=[(b1,.map (A8 ml14 0).toArray ml14.length)]) (L7 ([13]:List UInt8) _ rfl) rfl rfl rfl rfl rfl fn0 (List.Perm.refl _) (fun u16=>[(b1,.map (A8 ml14 0).toArray ml14.length)]) (fun _=>rfl)) fun u16=>?_)
 refine C3 (q:=M1 Tryz.prog (u16) (tC 6)) (tcv (A1 0 rfl)) ?_
 refine it rfl (D7 (C:=tC) (k:=6) (Φ':=[M3,S7,Q3,P0]) P4 (.inl rfl) rfl rfl rfl 0 rfl hk15 (by decide) (A1 2 rfl) (A1 0 rfl) (A0.pick [3,4,5,6] rfl)) fun ⟨ml17,hk18⟩=>?_
 refine ip' 1 106 [(18,.func (.func 69) #[] #[])] (it rfl (C2 (L2:=[(b1,.map (A8 ml17 0).toArray ml17.length)]) (A7k ([]:List UInt8) ([15,14]:List UInt8) 0 (by first|omega|(simp<;>omega)) _ rfl) rfl rfl rfl rfl rfl fn0 (List.Perm.refl _) (fun u19=>[(b1,.map (A8 ml17 0).toArray ml17.length)]) (fun _=>rfl)) fun u19=>?_)
 refine C3 (q:=M1 Tryz.prog (u19) (tC 7)) (tcv (A1 0 rfl)) ?_
 refine it rfl (D7 (C:=tC) (k:=7) (Φ':=[M3,S7,Q3,P0]) P4 (.inl rfl) rfl rfl rfl 0 rfl hk18 (by decide) (A1 2 rfl) (A1 0 rfl) (A0.pick [3,4,5,6] rfl)) fun ⟨ml20,hk21⟩=>?_
 refine ip' 1 103 [(20,.func (.func 67) #[] #[])] (it rfl (C2 (L2:=[(b1,.map (A8 ml20 0).toArray ml20.length)]) (L7 ([27,68]:List UInt8) _ rfl) rfl rfl rfl rfl rfl fn0 (List.Perm.refl _) (fun u22=>[(b1,.map (A8 ml20 0).toArray ml20.length)]) (fun _=>rfl)) fun u22=>?_)
 refine C3 (q:=M1 Tryz.prog (u22) (tC 8)) (tcv (A1 0 rfl)) ?_
 refine it rfl (D7 (C:=tC) (k:=8) (Φ':=[M3,S7,Q3,P0]) P4 (.inl rfl) rfl rfl rfl 0 rfl hk21 (by decide) (A1 2 rfl) (A1 0 rfl) (A0.pick [3,4,5,6] rfl)) fun ⟨ml23,hk24⟩=>?_
 refine ip' 1 100 [(22,.func (.func 67) #[] #[])] (it rfl (C2 (L2:=[(b1,.map (A8 ml23 0).toArray ml23.length)]) (L7 ([27,69]:List UInt8) _ rfl) rfl rfl rfl rfl rfl fn0 (List.Perm.refl _) (fun u25=>[(b1,.map (A8 ml23 0).toArray ml23.length)]) (fun _=>rfl)) fun u25=>?_)
 refine C3 (q:=M1 Tryz.prog (u25) (tC 9)) (tcv (A1 0 rfl)) ?_
 refine it rfl (D7 (C:=tC) (k:=9) (Φ':=[M3,S7,Q3,P0]) P4 (.inl rfl) rfl rfl rfl 0 rfl hk24 (by decide) (A1 2 rfl) (A1 0 rfl) (A0.pick [3,4,5,6] rfl)) fun ⟨ml26,hk27⟩=>?_
 refine ip' 1 97 [(24,.func (.func 67) #[] #[])] (it rfl (C2 (L2:=[(b1,.map (A8 ml26 0).toArray ml26.length)]) (L7 ([27,72]:List UInt8) _ rfl) rfl rfl rfl rfl rfl fn0 (List.Perm.refl _) (fun u28=>[(b1,.map (A8 ml26 0).toArray ml26.length)]) (fun _=>rfl)) fun u28=>?_)
 refine C3 (q:=M1 Tryz.prog (u28) (tC 10)) (tcv (A1 0 rfl)) ?_
 refine it rfl (D7 (C:=tC) (k:=10) (Φ':=[M3,S7,Q3,P0]) P4 (.inl rfl) rfl rfl rfl 0 rfl hk27 (by decide) (A1 2 rfl) (A1 0 rfl) (A0.pick [3,4,5,6] rfl)) fun ⟨ml29,hk30⟩=>?_
 refine ip' 1 94 [(26,.func (.func 67) #[] #[])] (it rfl (C2 (L2:=[(b1,.map (A8 ml29 0).toArray ml29.length)]) (L7 ([27,77]:List UInt8) _ rfl) rfl rfl rfl rfl rfl fn0 (List.Perm.refl _) (fun u31=>[(b1,.map (A8 ml29 0).toArray ml29.length)]) (fun _=>rfl)) fun u31=>?_)
 refine C3 (q:=M1 Tryz.prog (u31) (tC 11)) (tcv (A1 0 rfl)) ?_
 refine it rfl (D7 (C:=tC) (k:=11) (Φ':=[M3,S7,Q3,P0]) P4 (.inl rfl) rfl rfl rfl 0 rfl hk30 (by decide) (A1 2 rfl) (A1 0 rfl) (A0.pick [3,4,5,6] rfl)) fun ⟨ml32,hk33⟩=>?_
 refine ip' 1 91 [(28,.func (.func 67) #[] #[])] (it rfl (C2 (L2:=[(b1,.map (A8 ml32 0).toArray ml32.length)]) (L7 ([27,55]:List UInt8) _ rfl) rfl rfl rfl rfl rfl fn0 (List.Perm.refl _) (fun u34=>[(b1,.map (A8 ml32 0).toArray ml32.length)]) (fun _=>rfl)) fun u34=>?_)
 refine C3 (q:=M1 Tryz.prog (u34) (tC 12)) (tcv (A1 0 rfl)) ?_
 refine it rfl (D7 (C:=tC) (k:=12) (Φ':=[M3,S7,Q3,P0]) P4 (.inl rfl) rfl rfl rfl 0 rfl hk33 (by decide) (A1 2 rfl) (A1 0 rfl) (A0.pick [3,4,5,6] rfl)) fun ⟨ml35,hk36⟩=>?_
 refine ip' 1 88 [(30,.func (.func 67) #[] #[])] (it rfl (C2 (L2:=[(b1,.map (A8 ml35 0).toArray ml35.length)]) (L7 ([27,56]:List UInt8) _ rfl) rfl rfl rfl rfl rfl fn0 (List.Perm.refl _) (fun u37=>[(b1,.map (A8 ml35 0).toArray ml35.length)]) (fun _=>rfl)) fun u37=>?_)
 refine C3 (q:=M1 Tryz.prog (u37) (tC 13)) (tcv (A1 0 rfl)) ?_
 refine it rfl (D7 (C:=tC) (k:=13) (Φ':=[M3,S7,Q3,P0]) P4 (.inl rfl) rfl rfl rfl 0 rfl hk36 (by decide) (A1 2 rfl) (A1 0 rfl) (A0.pick [3,4,5,6] rfl)) fun ⟨ml38,hk39⟩=>?_
 refine ip' 1 85 [(32,.func (.func 67) #[] #[])] (it rfl (C2 (L2:=[(b1,.map (A8 ml38 0).toArray ml38.length)]) (L7 ([27,99]:List UInt8) _ rfl) rfl rfl rfl rfl rfl fn0 (List.Perm.refl _) (fun u40=>[(b1,.map (A8 ml38 0).toArray ml38.length)]) (fun _=>rfl)) fun u40=>?_)
 refine C3 (q:=M1 Tryz.prog (u40) (tC 15)) (tcv (A1 0 rfl)) ?_
 refine it rfl (D7 (C:=tC) (k:=15) (Φ':=[M3,S7,Q3,P0]) P4 (.inl rfl) rfl rfl rfl 0 rfl hk39 (by decide) (A1 2 rfl) (A1 0 rfl) (A0.pick [3,4,5,6] rfl)) fun ⟨ml41,hk42⟩=>?_
 refine ip' 1 82 [(34,.func (.func 67) #[] #[])] (it rfl (C2 (L2:=[(b1,.map (A8 ml41 0).toArray ml41.length)]) (L7 ([27,35,56]:List UInt8) _ rfl) rfl rfl rfl rfl rfl fn0 (List.Perm.refl _) (fun u43=>[(b1,.map (A8 ml41 0).toArray ml41.length)]) (fun _=>rfl)) fun u43=>?_)
 refine C3 (q:=M1 Tryz.prog (u43) (tC 16)) (tcv (A1 0 rfl)) ?_
 refine it rfl (D7 (C:=tC) (k:=16) (Φ':=[M3,S7,Q3,P0]) P4 (.inl rfl) rfl rfl rfl 0 rfl hk42 (by decide) (A1 2 rfl) (A1 0 rfl) (A0.pick [3,4,5,6] rfl)) fun ⟨ml44,hk45⟩=>?_
 refine ip' 1 79 [(36,.func (.func 69) #[] #[])] (it rfl (C2 (L2:=[(b1,.map (A8 ml44 0).toArray ml44.length)]) (A7k ([27]:List UInt8) ([62,61]:List UInt8) 0 (by first|omega|(simp<;>omega)) _ rfl) rfl rfl rfl rfl rfl fn0 (List.Perm.refl _) (fun u46=>[(b1,.map (A8 ml44 0).toArray ml44.length)]) (fun _=>rfl)) fun u46=>?_)
 refine C3 (q:=M1 Tryz.prog (u46) (tC 14)) (tcv (A1 0 rfl)) ?_
 refine it rfl (D7 (C:=tC) (k:=14) (Φ':=[M3,S7,Q3,P0]) P4 (.inl rfl) rfl rfl rfl 0 rfl hk45 (by decide) (A1 2 rfl) (A1 0 rfl) (A0.pick [3,4,5,6] rfl)) fun ⟨ml47,hk48⟩=>?_
 refine C3 (q:=M1 Tryz.prog (.func (.func 82) #[] #[]) (tC 17)) (P6 (C:=tC 17) (fun args r hC=>by obtain ⟨a,⟨hk,ha⟩,rfl,rfl⟩:=hC;obtain ⟨k_,n_,m_,c_,t_⟩:=a;dsimp only at hk;subst hk;unfold B2o at ha;dsimp only at ha;rw [show A2v (⟨17,n_,m_,c_,t_⟩:Act)=(A3o (⟨17,n_,m_,c_,t_⟩:Act)) from rfl];exact B9.of (C0v (⟨17,n_,m_,c_,t_⟩:Act) (by dsimp only;omega) _ rfl) rfl fn0) A0.refl) ?_
 refine it rfl (D7 (C:=tC) (k:=17) (Φ':=[M3,S7,Q3,P0]) P4 (.inl rfl) rfl rfl rfl 0 rfl hk48 (by decide) (A1 1 rfl) (A1 0 rfl) (A0.pick [2,3,4,5] rfl)) fun ⟨ml49,hk50⟩=>?_
 refine ip' 1 75 [(38,.func (.func 69) #[] #[])] (it rfl (C2 (L2:=[(b1,.map (A8 ml49 0).toArray ml49.length)]) (A7k ([27]:List UInt8) ([78,79]:List UInt8) 2 (by first|omega|(simp<;>omega)) _ rfl) rfl rfl rfl rfl rfl fn0 (List.Perm.refl _) (fun u51=>[(b1,.map (A8 ml49 0).toArray ml49.length)]) (fun _=>rfl)) fun u51=>?_)
 refine C3 (q:=M1 Tryz.prog (u51) (tC 18)) (tcv (A1 0 rfl)) ?_
 refine it rfl (D7 (C:=tC) (k:=18) (Φ':=[M3,S7,Q3,P0]) P4 (.inl rfl) rfl rfl rfl 0 rfl hk50 (by decide) (A1 2 rfl) (A1 0 rfl) (A0.pick [3,4,5,6] rfl)) fun ⟨ml52,hk53⟩=>?_
 refine ip' 1 72 [(40,.func (.func 75) #[] #[])] (it rfl (C2 (L2:=[(b1,.map (A8 ml52 0).toArray ml52.length)]) (A7q ([65,66,67,68]:List UInt8) (by first|omega|(simp<;>omega)) _ rfl) rfl rfl rfl rfl rfl (A0.pick [1] rfl) (List.Perm.refl _) (fun u54=>[(b1,.map (A8 ml52 0).toArray ml52.length)]) (fun _=>rfl)) fun u54=>?_)
 refine C3 (q:=M1 Tryz.prog (u54) (tC 20)) (tcv (A1 0 rfl)) ?_
 refine it rfl (D7 (C:=tC) (k:=20) (Φ':=[M3,S7,Q3,P0]) P4 (.inl rfl) rfl rfl rfl 0 rfl hk53 (by decide) (A1 2 rfl) (A1 0 rfl) (A0.pick [3,4,5,6] rfl)) fun ⟨ml55,hk56⟩=>?_
 refine ip' 1 69 [(42,.func (.func 75) #[] #[])] (it rfl (C2 (L2:=[(b1,.map (A8 ml55 0).toArray ml55.length)]) (A7q ([69,70]:List UInt8) (by first|omega|(simp<;>omega)) _ rfl) rfl rfl rfl rfl rfl (A0.pick [1] rfl) (List.Perm.refl _) (fun u57=>[(b1,.map (A8 ml55 0).toArray ml55.length)]) (fun _=>rfl)) fun u57=>?_)
 refine C3 (q:=M1 Tryz.prog (u57) (tC 21)) (tcv (A1 0 rfl)) ?_
 refine it rfl (D7 (C:=tC) (k:=21) (Φ':=[M3,S7,Q3,P0]) P4 (.inl rfl) rfl rfl rfl 0 rfl hk56 (by decide) (A1 2 rfl) (A1 0 rfl) (A0.pick [3,4,5,6] rfl)) fun ⟨ml58,hk59⟩=>?_
 refine ip' 1 66 [(44,.func (.func 75) #[] #[])] (it rfl (C2 (L2:=[(b1,.map (A8 ml58 0).toArray ml58.length)]) (A7q ([83,84]:List UInt8) (by first|omega|(simp<;>omega)) _ rfl) rfl rfl rfl rfl rfl (A0.pick [1] rfl) (List.Perm.refl _) (fun u60=>[(b1,.map (A8 ml58 0).toArray ml58.length)]) (fun _=>rfl)) fun u60=>?_)
 refine C3 (q:=M1 Tryz.prog (u60) (tC 33)) (tcv (A1 0 rfl)) ?_
 refine it rfl (D7 (C:=tC) (k:=33) (Φ':=[M3,S7,Q3,P0]) P4 (.inl rfl) rfl rfl rfl 0 rfl hk59 (by decide) (A1 2 rfl) (A1 0 rfl) (A0.pick [3,4,5,6] rfl)) fun ⟨ml61,hk62⟩=>?_
 refine C3 (q:=M1 Tryz.prog (.func (.func 83) #[] #[]) (tC 19)) (P6 (C:=tC 19) (fun args r hC=>by obtain ⟨a,⟨hk,ha⟩,rfl,rfl⟩:=hC;obtain ⟨k_,n_,m_,c_,t_⟩:=a;dsimp only at hk;subst hk;unfold B2o at ha;dsimp only at ha;rw [show A2v (⟨19,n_,m_,c_,t_⟩:Act)=(A3z (⟨19,n_,m_,c_,t_⟩:Act)) from rfl];exact B9.of (C0j (⟨19,n_,m_,c_,t_⟩:Act) _ rfl) rfl (A0.pick [1] rfl)) A0.refl) ?_
 refine it rfl (D7 (C:=tC) (k:=19) (Φ':=[M3,S7,Q3,P0]) P4 (.inl rfl) rfl rfl rfl 0 rfl hk62 (by decide) (A1 1 rfl) (A1 0 rfl) (A0.pick [2,3,4,5] rfl)) fun ⟨ml63,hk64⟩=>?_
 refine ip' 1 62 [(46,.func (.func 72) #[] #[])] (it rfl (C2 (L2:=[(b1,.map (A8 ml63 0).toArray ml63.length)]) (J6 1 ([71]:List UInt8) (by first|omega|(simp<;>omega)) _ rfl) rfl rfl rfl rfl rfl (A0.pick [1] rfl) (List.Perm.refl _) (fun u65=>[(b1,.map (A8 ml63 0).toArray ml63.length)]) (fun _=>rfl)) fun u65=>?_)
 refine C3 (q:=M1 Tryz.prog (u65) (tC 22)) (tcv (A1 0 rfl)) ?_
 refine it rfl (D7 (C:=tC) (k:=22) (Φ':=[M3,S7,Q3,P0]) P4 (.inl rfl) rfl rfl rfl 0 rfl hk64 (by decide) (A1 2 rfl) (A1 0 rfl) (A0.pick [3,4,5,6] rfl)) fun ⟨ml66,hk67⟩=>?_
 refine ip' 1 59 [(48,.func (.func 72) #[] #[])] (it rfl (C2 (L2:=[(b1,.map (A8 ml66 0).toArray ml66.length)]) (J6 1 ([100]:List UInt8) (by first|omega|(simp<;>omega)) _ rfl) rfl rfl rfl rfl rfl (A0.pick [1] rfl) (List.Perm.refl _) (fun u68=>[(b1,.map (A8 ml66 0).toArray ml66.length)]) (fun _=>rfl)) fun u68=>?_)
 refine C3 (q:=M1 Tryz.prog (u68) (tC 23)) (tcv (A1 0 rfl)) ?_
 refine it rfl (D7 (C:=tC) (k:=23) (Φ':=[M3,S7,Q3,P0]) P4 (.inl rfl) rfl rfl rfl 0 rfl hk67 (by decide) (A1 2 rfl) (A1 0 rfl) (A0.pick [3,4,5,6] rfl)) fun ⟨ml69,hk70⟩=>?_
 refine ip' 1 56 [(50,.func (.func 72) #[] #[])] (it rfl (C2 (L2:=[(b1,.map (A8 ml69 0).toArray ml69.length)]) (J6 1 ([73]:List UInt8) (by first|omega|(simp<;>omega)) _ rfl) rfl rfl rfl rfl rfl (A0.pick [1] rfl) (List.Perm.refl _) (fun u71=>[(b1,.map (A8 ml69 0).toArray ml69.length)]) (fun _=>rfl)) fun u71=>?_)
 refine C3 (q:=M1 Tryz.prog (u71) (tC 24)) (tcv (A1 0 rfl)) ?_
 refine it rfl (D7 (C:=tC) (k:=24) (Φ':=[M3,S7,Q3,P0]) P4 (.inl rfl) rfl rfl rfl 0 rfl hk70 (by decide) (A1 2 rfl) (A1 0 rfl) (A0.pick [3,4,5,6] rfl)) fun ⟨ml72,hk73⟩=>?_
 refine ip' 1 53 [(52,.func (.func 72) #[] #[])] (it rfl (C2 (L2:=[(b1,.map (A8 ml72 0).toArray ml72.length)]) (J6 1 ([90]:List UInt8) (by first|omega|(simp<;>omega)) _ rfl) rfl rfl rfl rfl rfl (A0.pick [1] rfl) (List.Perm.refl _) (fun u74=>[(b1,.map (A8 ml72 0).toArray ml72.length)]) (fun _=>rfl)) fun u74=>?_)
 refine C3 (q:=M1 Tryz.prog (u74) (tC 25)) (tcv (A1 0 rfl)) ?_
 refine it rfl (D7 (C:=tC) (k:=25) (Φ':=[M3,S7,Q3,P0]) P4 (.inl rfl) rfl rfl rfl 0 rfl hk73 (by decide) (A1 2 rfl) (A1 0 rfl) (A0.pick [3,4,5,6] rfl)) fun ⟨ml75,hk76⟩=>?_
 refine ip' 1 50 [(54,.func (.func 72) #[] #[])] (it rfl (C2 (L2:=[(b1,.map (A8 ml75 0).toArray ml75.length)]) (J6 1 ([64]:List UInt8) (by first|omega|(simp<;>omega)) _ rfl) rfl rfl rfl rfl rfl (A0.pick [1] rfl) (List.Perm.refl _) (fun u77=>[(b1,.map (A8 ml75 0).toArray ml75.length)]) (fun _=>rfl)) fun u77=>?_)
 refine C3 (q:=M1 Tryz.prog (u77) (tC 28)) (tcv (A1 0 rfl)) ?_
 refine it rfl (D7 (C:=tC) (k:=28) (Φ':=[M3,S7,Q3,P0]) P4 (.inl rfl) rfl rfl rfl 0 rfl hk76 (by decide) (A1 2 rfl) (A1 0 rfl) (A0.pick [3,4,5,6] rfl)) fun ⟨ml78,hk79⟩=>?_
 refine ip' 1 47 [(56,.func (.func 72) #[] #[])] (it rfl (C2 (L2:=[(b1,.map (A8 ml78 0).toArray ml78.length)]) (J6 1 ([80]:List UInt8) (by first|omega|(simp<;>omega)) _ rfl) rfl rfl rfl rfl rfl (A0.pick [1] rfl) (List.Perm.refl _) (fun u80=>[(b1,.map (A8 ml78 0).toArray ml78.length)]) (fun _=>rfl)) fun u80=>?_)
 refine C3 (q:=M1 Tryz.prog (u80) (tC 29)) (tcv (A1 0 rfl)) ?_
 refine it rfl (D7 (C:=tC) (k:=29) (Φ':=[M3,S7,Q3,P0]) P4 (.inl rfl) rfl rfl rfl 0 rfl hk79 (by decide) (A1 2 rfl) (A1 0 rfl) (A0.pick [3,4,5,6] rfl)) fun ⟨ml81,hk82⟩=>?_
 refine ip' 1 44 [(58,.func (.func 72) #[] #[])] (it rfl (C2 (L2:=[(b1,.map (A8 ml81 0).toArray ml81.length)]) (J6 1 ([88]:List UInt8) (by first|omega|(simp<;>omega)) _ rfl) rfl rfl rfl rfl rfl (A0.pick [1] rfl) (List.Perm.refl _) (fun u83=>[(b1,.map (A8 ml81 0).toArray ml81.length)]) (fun _=>rfl)) fun u83=>?_)
 refine C3 (q:=M1 Tryz.prog (u83) (tC 30)) (tcv (A1 0 rfl)) ?_
 refine it rfl (D7 (C:=tC) (k:=30) (Φ':=[M3,S7,Q3,P0]) P4 (.inl rfl) rfl rfl rfl 0 rfl hk82 (by decide) (A1 2 rfl) (A1 0 rfl) (A0.pick [3,4,5,6] rfl)) fun ⟨ml84,hk85⟩=>?_
 refine ip' 1 41 [(60,.func (.func 72) #[] #[])] (it rfl (C2 (L2:=[(b1,.map (A8 ml84 0).toArray ml84.length)]) (J6 1 ([76]:List UInt8) (by first|omega|(simp<;>omega)) _ rfl) rfl rfl rfl rfl rfl (A0.pick [1] rfl) (List.Perm.refl _) (fun u86=>[(b1,.map (A8 ml84 0).toArray ml84.length)]) (fun _=>rfl)) fun u86=>?_)
 refine C3 (q:=M1 Tryz.prog (u86) (tC 31)) (tcv (A1 0 rfl)) ?_
 refine it rfl (D7 (C:=tC) (k:=31) (Φ':=[M3,S7,Q3,P0]) P4 (.inl rfl) rfl rfl rfl 0 rfl hk85 (by decide) (A1 2 rfl) (A1 0 rfl) (A0.pick [3,4,5,6] rfl)) fun ⟨ml87,hk88⟩=>?_
 refine ip' 1 38 [(62,.func (.func 72) #[] #[])] (it rfl (C2 (L2:=[(b1,.map (A8 ml87 0).toArray ml87.length)]) (J6 1 ([77]:List UInt8) (by first|omega|(simp<;>omega)) _ rfl) rfl rfl rfl rfl rfl (A0.pick [1] rfl) (List.Perm.refl _) (fun u89=>[(b1,.map (A8 ml87 0).toArray ml87.length)]) (fun _=>rfl)) fun u89=>?_)
 refine C3 (q:=M1 Tryz.prog (u89) (tC 32)) (tcv (A1 0 rfl)) ?_
 refine it rfl (D7 (C:=tC) (k:=32) (Φ':=[M3,S7,Q3,P0]) P4 (.inl rfl) rfl rfl rfl 0 rfl hk88 (by decide) (A1 2 rfl) (A1 0 rfl) (A0.pick [3,4,5,6] rfl)) fun ⟨ml90,hk91⟩=>?_
 refine ip' 1 35 [(64,.func (.func 72) #[] #[])] (it rfl (C2 (L2:=[(b1,.map (A8 ml90 0).toArray ml90.length)]) (J6 1 ([98]:List UInt8) (by first|omega|(simp<;>omega)) _ rfl) rfl rfl rfl rfl rfl (A0.pick [1] rfl) (List.Perm.refl _) (fun u92=>[(b1,.map (A8 ml90 0).toArray ml90.length)]) (fun _=>rfl)) fun u92=>?_)
 refine C3 (q:=M1 Tryz.prog (u92) (tC 34)) (tcv (A1 0 rfl)) ?_
 refine it rfl (D7 (C:=tC) (k:=34) (Φ':=[M3,S7,Q3,P0]) P4 (.inl rfl) rfl rfl rfl 0 rfl hk91 (by decide) (A1 2 rfl) (A1 0 rfl) (A0.pick [3,4,5,6] rfl)) fun ⟨ml93,hk94⟩=>?_
 refine ip' 1 32 [(66,.func (.func 72) #[] #[])] (it rfl (C2 (L2:=[(b1,.map (A8 ml93 0).toArray ml93.length)]) (J6 0 ([74]:List UInt8) (by first|omega|(simp<;>omega)) _ rfl) rfl rfl rfl rfl rfl (A0.pick [1] rfl) (List.Perm.refl _) (fun u95=>[(b1,.map (A8 ml93 0).toArray ml93.length)]) (fun _=>rfl)) fun u95=>?_)
 refine C3 (q:=M1 Tryz.prog (u95) (tC 26)) (tcv (A1 0 rfl)) ?_
 refine it rfl (D7 (C:=tC) (k:=26) (Φ':=[M3,S7,Q3,P0]) P4 (.inl rfl) rfl rfl rfl 0 rfl hk94 (by decide) (A1 2 rfl) (A1 0 rfl) (A0.pick [3,4,5,6] rfl)) fun ⟨ml96,hk97⟩=>?_
 refine ip' 1 29 [(68,.func (.func 72) #[] #[])] (it rfl (C2 (L2:=[(b1,.map (A8 ml96 0).toArray ml96.length)]) (J6 0 ([75]:List UInt8) (by first|omega|(simp<;>omega)) _ rfl) rfl rfl rfl rfl rfl (A0.pick [1] rfl) (List.Perm.refl _) (fun u98=>[(b1,.map (A8 ml96 0).toArray ml96.length)]) (fun _=>rfl)) fun u98=>?_)
 refine C3 (q:=M1 Tryz.prog (u98) (tC 27)) (tcv (A1 0 rfl)) ?_
 refine it rfl (D7 (C:=tC) (k:=27) (Φ':=[M3,S7,Q3,P0]) P4 (.inl rfl) rfl rfl rfl 0 rfl hk97 (by decide) (A1 2 rfl) (A1 0 rfl) (A0.pick [3,4,5,6] rfl)) fun ⟨ml99,hk100⟩=>?_
 refine ip' 1 26 [(70,.func (.func 72) #[] #[])] (it rfl (C2 (L2:=[(b1,.map (A8 ml99 0).toArray ml99.length)]) (J6 0 ([103]:List UInt8) (by first|omega|(simp<;>omega)) _ rfl) rfl rfl rfl rfl rfl (A0.pick [1] rfl) (List.Perm.refl _) (fun u101=>[(b1,.map (A8 ml99 0).toArray ml99.length)]) (fun _=>rfl)) fun u101=>?_)
 refine C3 (q:=M1 Tryz.prog (u101) (tC 35)) (tcv (A1 0 rfl)) ?_
 refine it rfl (D7 (C:=tC) (k:=35) (Φ':=[M3,S7,Q3,P0]) P4 (.inl rfl) rfl rfl rfl 0 rfl hk100 (by decide) (A1 2 rfl) (A1 0 rfl) (A0.pick [3,4,5,6] rfl)) fun ⟨ml102,hk103⟩=>?_
 refine ip' 1 23 [(72,.func (.func 72) #[] #[])] (it rfl (C2 (L2:=[(b1,.map (A8 ml102 0).toArray ml102.length)]) (J6 0 ([32,113]:List UInt8) (by first|omega|(simp<;>omega)) _ rfl) rfl rfl rfl rfl rfl (A0.pick [1] rfl) (List.Perm.refl _) (fun u104=>[(b1,.map (A8 ml102 0).toArray ml102.length)]) (fun _=>rfl)) fun u104=>?_)
 refine C3 (q:=M1 Tryz.prog (u104) (tC 40)) (tcv (A1 0 rfl)) ?_
 refine it rfl (D7 (C:=tC) (k:=40) (Φ':=[M3,S7,Q3,P0]) P4 (.inl rfl) rfl rfl rfl 0 rfl hk103 (by decide) (A1 2 rfl) (A1 0 rfl) (A0.pick [3,4,5,6] rfl)) fun ⟨ml105,hk106⟩=>?_
 refine ip' 1 20 [(74,.func (.func 78) #[] #[])] (it rfl (C2 (L2:=[(b1,.map (A8 ml105 0).toArray ml105.length)]) (B2h ([]:List UInt8) (by first|omega|(simp<;>omega)) _ rfl) rfl rfl rfl rfl rfl (A0.pick [1] rfl) (List.Perm.refl _) (fun u107=>[(b1,.map (A8 ml105 0).toArray ml105.length)]) (fun _=>rfl)) fun u107=>?_)
 refine C3 (q:=M1 Tryz.prog (u107) (tC 36)) (tcv (A1 0 rfl)) ?_
 refine it rfl (D7 (C:=tC) (k:=36) (Φ':=[M3,S7,Q3,P0]) P4 (.inl rfl) rfl rfl rfl 0 rfl hk106 (by decide) (A1 2 rfl) (A1 0 rfl) (A0.pick [3,4,5,6] rfl)) fun ⟨ml108,hk109⟩=>?_
 refine ip' 1 17 [(76,.func (.func 78) #[] #[])] (it rfl (C2 (L2:=[(b1,.map (A8 ml108 0).toArray ml108.length)]) (B2h ([63]:List UInt8) (by first|omega|(simp<;>omega)) _ rfl) rfl rfl rfl rfl rfl (A0.pick [1] rfl) (List.Perm.refl _) (fun u110=>[(b1,.map (A8 ml108 0).toArray ml108.length)]) (fun _=>rfl)) fun u110=>?_)
 refine C3 (q:=M1 Tryz.prog (u110) (tC 37)) (tcv (A1 0 rfl)) ?_
 refine it rfl (D7 (C:=tC) (k:=37) (Φ':=[M3,S7,Q3,P0]) P4 (.inl rfl) rfl rfl rfl 0 rfl hk109 (by decide) (A1 2 rfl) (A1 0 rfl) (A0.pick [3,4,5,6] rfl)) fun ⟨ml111,hk112⟩=>?_
 refine C3 (q:=M1 Tryz.prog (.func (.func 84) #[] #[]) (tC 38)) (P6 (C:=tC 38) (fun args r hC=>by obtain ⟨a,⟨hk,ha⟩,rfl,rfl⟩:=hC;obtain ⟨k_,n_,m_,c_,t_⟩:=a;dsimp only at hk;subst hk;unfold B2o at ha;dsimp only at ha;rw [show A2v (⟨38,n_,m_,c_,t_⟩:Act)=(A3c (⟨38,n_,m_,c_,t_⟩:Act)) from rfl];exact B9.of (B9p (⟨38,n_,m_,c_,t_⟩:Act) _ rfl) rfl (A0.pick [1] rfl)) A0.refl) ?_
 refine it rfl (D7 (C:=tC) (k:=38) (Φ':=[M3,S7,Q3,P0]) P4 (.inl rfl) rfl rfl rfl 0 rfl hk112 (by decide) (A1 1 rfl) (A1 0 rfl) (A0.pick [2,3,4,5] rfl)) fun ⟨ml113,hk114⟩=>?_
 refine ip' 1 13 [(78,.func (.func 72) #[] #[])] (it rfl (C2 (L2:=[(b1,.map (A8 ml113 0).toArray ml113.length)]) (J6 (-2) ([110]:List UInt8) (by first|omega|(simp<;>omega)) _ rfl) rfl rfl rfl rfl rfl (A0.pick [1] rfl) (List.Perm.refl _) (fun u115=>[(b1,.map (A8 ml113 0).toArray ml113.length)]) (fun _=>rfl)) fun u115=>?_)
 refine C3 (q:=M1 Tryz.prog (u115) (tC 41)) (tcv (A1 0 rfl)) ?_
 refine it rfl (D7 (C:=tC) (k:=41) (Φ':=[M3,S7,Q3,P0]) P4 (.inl rfl) rfl rfl rfl 0 rfl hk114 (by decide) (A1 2 rfl) (A1 0 rfl) (A0.pick [3,4,5,6] rfl)) fun ⟨ml116,hk117⟩=>?_
 refine C3 (q:=M1 Tryz.prog (.func (.func 85) #[] #[]) (tC 42)) (P6 (C:=tC 42) (fun args r hC=>by obtain ⟨a,⟨hk,ha⟩,rfl,rfl⟩:=hC;obtain ⟨k_,n_,m_,c_,t_⟩:=a;dsimp only at hk;subst hk;unfold B2o at ha;dsimp only at ha;rw [show A2v (⟨42,n_,m_,c_,t_⟩:Act)=(A2z (⟨42,n_,m_,c_,t_⟩:Act)) from rfl];exact B9.of (B9u (⟨42,n_,m_,c_,t_⟩:Act) (by dsimp only;omega) _ rfl) rfl fn0) A0.refl) ?_
 refine it rfl (D7 (C:=tC) (k:=42) (Φ':=[M3,S7,Q3,P0]) P4 (.inl rfl) rfl rfl rfl 0 rfl hk117 (by decide) (A1 1 rfl) (A1 0 rfl) (A0.pick [2,3,4,5] rfl)) fun ⟨ml118,hk119⟩=>?_
 refine C3 (q:=M1 Tryz.prog (.func (.func 86) #[] #[]) (tC 43)) (P6 (C:=tC 43) (fun args r hC=>by obtain ⟨a,⟨hk,ha⟩,rfl,rfl⟩:=hC;obtain ⟨k_,n_,m_,c_,t_⟩:=a;dsimp only at hk;subst hk;unfold B2o at ha;dsimp only at ha;rw [show A2v (⟨43,n_,m_,c_,t_⟩:Act)=(A3b (⟨43,n_,m_,c_,t_⟩:Act)) from rfl];exact B9.of (B9a (⟨43,n_,m_,c_,t_⟩:Act) (by dsimp only;omega) _ rfl) rfl (A0.pick [1] rfl)) A0.refl) ?_
 refine it rfl (D7 (C:=tC) (k:=43) (Φ':=[M3,S7,Q3,P0]) P4 (.inl rfl) rfl rfl rfl 0 rfl hk119 (by decide) (A1 1 rfl) (A1 0 rfl) (A0.pick [2,3,4,5] rfl)) fun ⟨ml120,hk121⟩=>?_
 refine C3 (q:=M1 Tryz.prog (.func (.func 87) #[] #[]) (tC 39)) (P6 (C:=tC 39) (fun args r hC=>by obtain ⟨a,⟨hk,ha⟩,rfl,rfl⟩:=hC;obtain ⟨k_,n_,m_,c_,t_⟩:=a;dsimp only at hk;subst hk;unfold B2o at ha;dsimp only at ha;rw [show A2v (⟨39,n_,m_,c_,t_⟩:Act)=(A3d (⟨39,n_,m_,c_,t_⟩:Act)) from rfl];exact B9.of (B8t (⟨39,n_,m_,c_,t_⟩:Act) _ rfl) rfl (A0.pick [2,1] rfl)) A0.refl) ?_
 refine it rfl (D7 (C:=tC) (k:=39) (Φ':=[M3,S7,Q3,P0]) P4 (.inl rfl) rfl rfl rfl 0 rfl hk121 (by decide) (A1 1 rfl) (A1 0 rfl) (A0.pick [2,3,4,5] rfl)) fun ⟨ml122,hk123⟩=>?_
 refine ip' 1 7 [(80,.func (.func 77) #[] #[])] (C3 (q:=M1 Tryz.prog (.func (.func 77) #[] #[]) (tC 44)) (P6 (C:=tC 44) (fun args r hC=>by obtain ⟨a,⟨hk,ha⟩,rfl,rfl⟩:=hC;obtain ⟨k_,n_,m_,c_,t_⟩:=a;dsimp only at hk;subst hk;unfold B2o at ha;dsimp only at ha;rw [show A2v (⟨44,n_,m_,c_,t_⟩:Act)=(A3m n_ m_ c_ t_) from rfl];exact B9.of (C0o n_ m_ c_ t_ (by omega) _ rfl) rfl fn0) A0.refl) ?_)
 refine it rfl (D7 (C:=tC) (k:=44) (Φ':=[M3,S7,Q3,P0]) P4 (.inl rfl) rfl rfl rfl 0 rfl hk123 (by decide) (A1 1 rfl) (A1 0 rfl) (A0.pick [2,3,4,5] rfl)) fun ⟨ml124,hk125⟩=>?_
 refine ip' 1 5 [(81,.func (.func 77) #[] #[])] (C3 (q:=M1 Tryz.prog (.func (.func 77) #[] #[]) (tC 45)) (P6 (C:=tC 45) (fun args r hC=>by obtain ⟨a,⟨hk,ha⟩,rfl,rfl⟩:=hC;obtain ⟨k_,n_,m_,c_,t_⟩:=a;dsimp only at hk;subst hk;unfold B2o at ha;dsimp only at ha;rw [show A2v (⟨45,n_,m_,c_,t_⟩:Act)=(A2x n_ m_ c_ t_) from rfl];exact B9.of (B9c n_ m_ c_ t_ (by omega) _ rfl) rfl (A0.pick [3,4,1] rfl)) A0.refl) ?_)
 refine it rfl (D7 (C:=tC) (k:=45) (Φ':=[M3,S7,Q3,P0]) P4 (.inl rfl) rfl rfl rfl 0 rfl hk125 (by decide) (A1 1 rfl) (A1 0 rfl) (A0.pick [2,3,4,5] rfl)) fun ⟨ml126,hk127⟩=>?_
 refine ip' 1 3 [(82,.func (.func 77) #[] #[])] (C3 (q:=M1 Tryz.prog (.func (.func 77) #[] #[]) (tC 46)) (P6 (C:=tC 46) (fun args r hC=>by obtain ⟨a,⟨hk,ha⟩,rfl,rfl⟩:=hC;obtain ⟨k_,n_,m_,c_,t_⟩:=a;dsimp only at hk;subst hk;unfold B2o at ha;dsimp only at ha;rw [show A2v (⟨46,n_,m_,c_,t_⟩:Act)=(A2w n_ m_ c_ t_) from rfl];exact B9.of (B8r n_ m_ c_ t_ (by omega) _ rfl) rfl fn0) A0.refl) ?_)
 refine it rfl (D7 (C:=tC) (k:=46) (Φ':=[M3,S7,Q3,P0]) P4 (.inl rfl) rfl rfl rfl 0 rfl hk127 (by decide) (A1 1 rfl) (A1 0 rfl) (A0.pick [2,3,4,5] rfl)) fun ⟨ml128,hk129⟩=>?_
 refine ip' 2 0 [(0,.map (some b1))] ?_
 subst hR
 refine ie (B0 ?_)
 exact zer hr hD (O3 rfl (B8 rfl)) ⟨(b1,ml128),hk129⟩ (mk [true] rfl) (A0.con1 (A1 0 rfl) fn0)
end Go.Proofs.YtanighkpfmgnbaaGreatDoor
