import Derived.Test.YtkdgfkfbljdgmaaGreatDoorProg
import Derived.Test.YtkdgfkfbljdgmaaGreatDoorMA2
import Derived.Test.YtkdgfkfbljdgmaaGreatDoorMB1
import Derived.Test.YtkdgfkfbljdgmaaGreatDoorMB2
import Derived.Test.YtkdgfkfbljdgmaaGreatDoorMB3
set_option linter.unusedVariables false
set_option linter.unusedSimpArgs false
set_option linter.unnecessarySimpa false
namespace Go.Proofs.YtkdgfkfbljdgmaaGreatDoor
open Go Go.Fen
theorem B9d:SlTy Tryz.prog 331 36 1:=⟨by kernel_rfl,by kernel_rfl⟩
theorem A9d:Zero Tryz.prog 36 [.slice none 0 0]:=⟨by kernel_rfl⟩
def I6 (n:Nat):List Rwq :=
 (bif (decide ((0:Int)<(n:Int))) then ([]:List Rwq) else ([]:List Rwq))
theorem W1 (n:Nat):I6 n=[]:=by
 unfold I6;cases decide ((0:Int)<(n:Int))<;>rfl
set_option maxRecDepth 100000 in
theorem A3t {n:Nat} {R:List Rwq} (hR:I6 n=R) (j:n≤1000000:=by exact om_):Con Tryz.prog 265 [.slice none 0 0,iv (n:Int)] [] [] ({r:VR // VOk 2 R.length r}) (fun x=>.slice (va x.1.q) R.length x.1.k) (fun x=>((vo B5 72 x.1 R)++([]))) (fun x=>[]):=by
 refine zce Tryz.func265 fun X hX hr hD=>?_
 replace hR:=(I6.eq_1 ..).symm.trans hR
 refine sR_ rfl (pp0 1 rfl ?_)
 refine ie (A2 (sR_ rfl (pp1 2 6 rfl ?_)))
 refine ie (W2 rfl (fun b=>?_) (fun b=>?_))
 ·have d:=bq_ b
  exfalso;omega
 have d:=bq_ b
 refine A3 (nx (A2 (sR_ rfl (pp2 2 8 9 rfl ?_))))
 refine ix rfl (C4n A1s rfl rfl rfl rfl rfl) ?_
 refine pp1 2 12 rfl ?_
 refine ix rfl (R9 (c:=0) rfl rfl rfl rfl ozw) ?_
 refine ix rfl (R9 (c:=(n:Int)) rfl rfl rfl opx opx) ?_
 refine pp1 1 1 rfl ?_
 refine ie (sR_ rfl (pp1 2 16 rfl ?_))
 refine ie ?_
 refine zjd rfl hR ?_ ?_<;>clear hR<;>intro hR i g
 ·refine A0 10 rfl (pp2 2 17 18 rfl ?_)
  refine ix rfl (C4n A1s rfl rfl rfl rfl rfl) ?_
  refine ix rfl (A2g A1s rfl rfl 0 0 0 Q9 (P2 rfl rfl) Q9 ozw ozw ozw (n':=0) rfl rfl) ?_
  refine pp1 1 21 rfl ?_
  refine it rfl (B9k (f:=B5) (m:=n) C1k Tryz.underlying3 rfl rfl rfl rfl rfl (rfl) opx ofv ofv) fun ⟨e,a,h⟩=>?_
  have:([]:List Rwq).length=0:=rfl
  refine pp1 2 24 rfl ?_
  refine ix rfl (A9a (n':=0) A1s rfl rfl 0 e.k (P2 rfl rfl) Q9 opx opx rfl rfl) ?_
  have:([]:List Rwq).length=0:=rfl
  refine pp1 1 0 rfl ?_
  refine A1 (nx (sR_ rfl (pp1 2 4 rfl ?_)))
  subst hR
  refine ie (A6 ?_)
  exact zer hr hD (U4 rfl (A4 rfl)) ⟨e,a⟩ sb_ A5.nil
 refine A3 (nx (sR_ rfl (pp1 2 4 rfl ?_)))
 subst hR
 refine ie (A6 ?_)
 exact zer hr hD (U4 rfl (A4 rfl)) ⟨VR.nil,VOk.nil⟩ sb_ A5.nil
def F1:List (List Rwq)→List Rwq→Nat→List Rwq
 | [],newslice,t27=>newslice
 | hd_l1::tl_l1,newslice,t27=>F1 tl_l1 (newslice++hd_l1) (t27+1)
def F2 (a:List (List Rwq)):List (List Rwq)→Nat→Nat→List Rwq
 | [],size,t11=>F1 a (I6 size) 0
 | hd_l0::tl_l0,size,t11=>F2 a tl_l0 (size+hd_l0.length) (t11+1)
def J9 (a:List (List Rwq)):List Rwq :=
 F2 a a 0 0
theorem B0a:∀ (b:List (List Rwq)) (a:List Rwq) (t:Nat),F1 b a t=a++b.flatten
 | [],a,t=>by simp [F1]
 | x::b,a,t=>by simp [F1,B0a b]
theorem B0i (s:List (List Rwq)):∀ (a:List (List Rwq)) (z t:Nat),F2 s a z t=s.flatten
 | [],z,t=>by simp [F2,B0a,W1]
 | x::a,z,t=>by simp [F2,B0i s a]
theorem L4 (s:List (List Rwq)):J9 s=s.flatten:=B0i s s 0 0
set_option maxRecDepth 100000 in
theorem W0 {slices:List (List Rwq)} {h:Option Addr} {b:List Slc} {slicesk:Nat} {R:List Rwq} (hR:J9 slices=R) (a:E3 b slices:=by exact om_) (u:slices.length≤9223372036854775807:=by exact om_) (t:slices.length≤slicesk:=by exact om_) (hs:slices.length≤1000:=by exact om_) (hb:∀ i,i<slices.length→(slices.getD i []).length≤1000:=by exact om_):Con Tryz.prog 240 [.slice h slices.length slicesk] [] [sl E4 h b,D3 B5 b slices] ({r:VR // VOk 2 R.length r}) (fun x=>.slice (va x.1.q) R.length x.1.k) (fun x=>((vo B5 72 x.1 R)++([]))) (fun x=>[]):=by
 refine zce Tryz.func240 fun X hX hr hD=>?_
 replace hR:=(J9.eq_1 ..).symm.trans hR
 have:=a.1
 refine sR_ rfl (pp0 1 rfl ?_)
 refine ie (sR_ rfl (pp1 1 3 rfl ?_))
 refine ie (A2 (sR_ rfl (pp3 3 9 10 11 rfl ?_)))
 refine ie (A8 (A3q (un fun (size:Nat) (l:Nat)=>(l≤slices.length∧F2 slices (slices.drop l) size l=R∧size≤1000 * l,[(0,.slice h slices.length slicesk),(3,iv (size:Int)),(9,.slice h slices.length slicesk),(10,iv (slices.length:Int)),(11,iv (l:Int))],[],[sl E4 h b,D3 B5 b slices],slices.length - l)) (0,0) ⟨opx,hR,opx⟩ sb_ A5.refl ?_))
 rintro ⟨size,l⟩ ⟨a7,hR,hz⟩
 refine sR_ rfl (pp1 1 12 rfl ?_)
 refine ie (A2 (W2 rfl (fun h2=>?_) (fun h2=>?_)))
 ·have z:=bq_ h2
  rw [Y3 [] (show l<slices.length by omega)] at hR;replace hR:=(F2.eq_2 ..).symm.trans hR
  have:=hb l opx
  refine A3 (nx (A2 (A8 (sR_ rfl (N2 0 rfl (by have:=a.1;omega) fun a3 y=>?_)))))
  refine M8 (V2 (k:=l) (d:=(⟨none,0,0⟩:Slc)) a 1 rfl (by have:=a.1;omega)) ?_
  have:=U7 a (k:=l) (d:=(⟨none,0,0⟩:Slc)) (by have:=a.1;omega)
  refine ix rfl (F7 B9d rfl rfl y rfl l rfl opx) ?_
  refine ix rfl (H2 (D8 (v:=.slice ((b.getD l (⟨none,0,0⟩:Slc)).q) ((b.getD l (⟨none,0,0⟩:Slc)).n) ((b.getD l (⟨none,0,0⟩:Slc)).k)) (us:=[.slice ((b.getD l (⟨none,0,0⟩:Slc)).q) ((b.getD l (⟨none,0,0⟩:Slc)).n) ((b.getD l (⟨none,0,0⟩:Slc)).k)]) B1c rfl rfl (H5 (c:=E4) (sz:=1) y (fun _=>rfl) 1 rfl (gd (⟨none,0,0⟩:Slc) (by have:=a.1;omega))) rfl) (Y2 a (by have:=a.1;omega))) ?_
  refine pp1 1 5 rfl ?_
  refine ie (sR_ rfl (pp2 3 15 17 rfl ?_))
  refine ix rfl (A9 rfl rfl rfl rfl opx) ?_
  refine pp1 1 3 rfl ?_
  refine ie (sR_ rfl (pp1 2 20 rfl ?_))
  refine ie (W2 rfl (fun h5=>?_) (fun h5=>?_))
  ·have a4:=bq_ h5
   exfalso;omega
  have a4:=bq_ h5
  refine A3 (nx (A0 2 rfl (ix rfl (A9 rfl rfl rfl rfl opx) ?_)))
  refine pp1 1 11 rfl ?_
  refine A1 ?_
  exact A0y (z1:=(size,l)) (size+(slices.getD l []).length,l+1) ⟨opx,hR,opx⟩ olr sb_ fo_
 have z:=bq_ h2
 rw [Y4 z] at hR;replace hR:=(F2.eq_1 ..).symm.trans hR
 refine F6 (nx (sR_ rfl (pp1 1 23 rfl ?_)))
 refine zc rfl (A3t rfl) fun ⟨r6,s⟩=>?_
 have:=VOk.le s
 have:=VOk.cap s
 refine pp1 1 6 rfl ?_
 refine ie (A2 (sR_ rfl (pp3 3 25 26 27 rfl ?_)))
 refine ie (A8 ?_)
 refine A3q (un fun (e:List Rwq)=>un fun (g:VR) (j:Nat)=>(j≤slices.length∧F1 (slices.drop j) e j=R∧VOk 2 e.length g∧e.length≤1000 * j,[(6,.slice (va g.q) e.length g.k),(25,.slice h slices.length slicesk),(26,iv (slices.length:Int)),(27,iv (j:Int))],((vo B5 72 g e)++([])),[sl E4 h b,D3 B5 b slices],slices.length - j)) (I6 size,r6,0) ⟨opx,hR,s,(by rw [W1];simp)⟩ sb_ A5.refl ?_
 rintro ⟨e,g,j⟩ ⟨ab,hR,m,a9⟩
 have:=VOk.le m
 refine sR_ rfl (pp1 1 28 rfl ?_)
 refine ie (A2 (W2 rfl (fun h9=>?_) (fun h9=>?_)))
 ·have w:=bq_ h9
  rw [Y3 [] (show j<slices.length by omega)] at hR;replace hR:=(F1.eq_2 ..).symm.trans hR
  have:=hb j opx
  refine A3 (nx (A2 (A8 (sR_ rfl (N2 0 rfl (by have:=a.1;omega) fun aa p=>?_)))))
  refine M8 (V2 (k:=j) (d:=(⟨none,0,0⟩:Slc)) a 1 rfl (by have:=a.1;omega)) ?_
  have:=U7 a (k:=j) (d:=(⟨none,0,0⟩:Slc)) (by have:=a.1;omega)
  refine ix rfl (F7 B9d rfl rfl p rfl j rfl opx) ?_
  refine ix rfl (H2 (D8 (v:=.slice ((b.getD j (⟨none,0,0⟩:Slc)).q) ((b.getD j (⟨none,0,0⟩:Slc)).n) ((b.getD j (⟨none,0,0⟩:Slc)).k)) (us:=[.slice ((b.getD j (⟨none,0,0⟩:Slc)).q) ((b.getD j (⟨none,0,0⟩:Slc)).n) ((b.getD j (⟨none,0,0⟩:Slc)).k)]) B1c rfl rfl (H5 (c:=E4) (sz:=1) p (fun _=>rfl) 1 rfl (gd (⟨none,0,0⟩:Slc) (by have:=a.1;omega))) rfl) (Y2 a (by have:=a.1;omega))) ?_
  refine pp1 1 8 rfl ?_
  refine ie (A0 4 rfl (pp2 2 31 32 rfl ?_))
  refine it rfl (B1p (f:=B5) (r:=g) (xs:=e) (ys:=(slices.getD j [])) (pre:=[]) (post:=[]) C1k (fun _=>rfl) (fun _=>rfl) rfl rfl rfl rfl rfl rfl rfl rfl (D4 0 rfl) m ofv ofv) fun ⟨a2,o⟩=>?_
  have:=@List.length_append _ e (slices.getD j [])
  have:=VOk.le o
  have:=VOk.cap o
  refine pp1 1 6 rfl ?_
  refine A1 (nx (A0 2 rfl (ix rfl (A9 rfl rfl rfl rfl opx) ?_)))
  refine pp1 1 27 rfl ?_
  refine A1 ?_
  exact A0y (z1:=(e,g,j)) (e++(slices.getD j []),a2,j+1) ⟨opx,hR,o,opx⟩ olr sb_ fo_
 have w:=bq_ h9
 rw [Y4 w] at hR;replace hR:=(F1.eq_1 ..).symm.trans hR
 refine F6 (nx (sR_ rfl (pp1 2 2 rfl ?_)))
 subst hR
 refine ie (A6 ?_)
 exact zer hr hD (U4 rfl (A4 rfl)) ⟨g,m⟩ sb_ A5.nil
def A1o (l:List (Rwc Cel)) (n:Int) (a:List (Rwc Cel)):List (Rwc Cel)×List (Rwc Cel) :=
 ((l.drop (l.length - (n).toNat)),(a++(l.take (l.length - (n).toNat))))
theorem oir {p:Prop} (h:p:=by rw [L4];simp only [List.flatten_cons,List.flatten_nil,List.append_nil]):p:=h
set_option maxRecDepth 100000 in
theorem A3a {l:List (Rwc Cel)} {n:Int} {blank:List (Rwc Cel)} {lq:Option Addr} {lrs:List Rwq} {lk:Nat} {b:Option Addr} {a:List Rwq} {blankk:Nat} {R:List (Rwc Cel)×List (Rwc Cel)} (hR:A1o l n blank=R) (e:B4 lrs l:=by exact om_) (w:l.length≤9223372036854775807:=by exact om_) (a0:l.length≤lk:=by exact om_) (d:B4 a blank:=by exact om_) (r:blank.length≤9223372036854775807:=by exact om_) (p:blank.length≤blankk:=by exact om_) (y:(0≤n∧n≤(l.length:Int))∧l.length≤100∧blank.length≤100:=by exact om_):Con Tryz.prog 239 [.slice lq l.length lk,iv n,.slice b blank.length blankk] [] [sl B5 lq lrs,B7 B1 lrs l,sl B5 b a,B7 B1 a blank] ({t:Option Addr×List Rwq×Nat // B4 t.2.1 R.1∧R.1.length≤t.2.2∧R.1.length≤9223372036854775807}×{t:VR×List Rwq // VOk 2 R.2.length t.1∧B4 t.2 R.2}) (fun x=>.tuple #[.slice x.1.1.1 R.1.length x.1.1.2.2,.slice (va x.2.1.1.q) R.2.length x.2.1.1.k]) (fun x=>((vo B5 72 x.2.1.1 x.2.1.2)++([]))) (fun x=>[sl B5 x.1.1.1 x.1.1.2.1,B7 B1 x.1.1.2.1 R.1,B7 B1 x.2.1.2 R.2]):=by
 refine zce Tryz.func239 fun X hX hr hD=>?_
 replace hR:=(A1o.eq_1 ..).symm.trans hR
 have:=e.1
 have:=d.1
 refine sR_ rfl (pp0 2 rfl ?_)
 refine ie (sR_ rfl (pp2 3 10 11 rfl ?_))
 refine ix rfl (R9 rfl rfl rfl rfl opx) ?_
 refine pp1 1 8 rfl ?_
 refine ie (A0p (B5m (c:=B5) (sz:=2) (xs:=lrs) (D4 0 rfl) (l.length - (n).toNat) lk (fun _=>rfl) opx opx) ?_)
 refine A0p (B6u (D4 2 rfl) (l.length - (n).toNat)) ?_
 have h:B4 (lrs.drop (l.length - (n).toNat)) (l.drop (l.length - (n).toNat)):=(B4.drop e (l.length - (n).toNat))
 have:=h.1
 refine A0p (C5o (D4 2 rfl) (l.length - (n).toNat)) ?_
 refine A0p (B3m (D4 4 rfl) (l.length - (n).toNat)) ?_
 have j:B4 (lrs.take (l.length - (n).toNat)) (l.take (l.length - (n).toNat)):=(B4.take e (l.length - (n).toNat))
 have:=j.1
 refine sh 11 [] [B7 B1 (lrs.take (l.length - (n).toNat)) (l.take (l.length - (n).toNat)),sl B5 lq (lrs.take (l.length - (n).toNat)),B7 B1 (lrs.drop (l.length - (n).toNat)) (l.drop (l.length - (n).toNat)),sl B5 (A1i lq (l.length - (n).toNat) 2 lk) (lrs.drop (l.length - (n).toNat)),sl B5 lq lrs,B7 B1 lrs l,sl B5 b a,B7 B1 a blank] [] (zml 11 0) oki rfl oki oki oki sb_ A5.refl ?_
 refine zhp [0,1,3,4,5] 6 (zml 11 59) [(13,.slice lq l.length lk),(14,iv ((l.length:Int) - n)),(16,.slice b blank.length blankk),(17,.slice lq l.length lk),(18,iv ((l.length:Int) - n))] ?_
 refine zhk 2 (zml 11 63) rfl (A2g (n':=(l.drop (l.length - (n).toNat)).length) A1s rfl rfl (l.length - (n).toNat) l.length lk (P2 rfl opx) Q9 Q9 opx opx opx ofx rfl) ?_
 have:=@List.length_drop _ (l.length - (n).toNat) lrs
 refine zhk 6 (zml 11 127) rfl (A9a (n':=(l.take (l.length - (n).toNat)).length) A1s rfl rfl (l.length - (n).toNat) lk (P2 rfl opx) Q9 opx opx ofx rfl) ?_
 have:=@List.length_take _ (l.length - (n).toNat) lrs
 refine zho 7 [] (zml 11 255) rfl (G2 (c:=E4) (xs:=([⟨b,blank.length,blankk⟩,⟨lq,(l.take (l.length - (n).toNat)).length,lk⟩]:List Slc)) B9d rfl rfl rfl oki) (fun v=>sb_) (fun v=>fo_) fun v=>?_
 have g:E3 ([⟨b,blank.length,blankk⟩,⟨lq,(l.take (l.length - (n).toNat)).length,lk⟩]:List Slc) ([a,(lrs.take (l.length - (n).toNat))]:List (List Rwq)):=(E3.cons ⟨ooy,okl,okl⟩ (E3.cons ⟨ooy,okl,okl⟩ E3.none))
 refine A8u (q:=D3 B5 ([⟨b,blank.length,blankk⟩,⟨lq,(l.take (l.length - (n).toNat)).length,lk⟩]:List Slc) ([a,(lrs.take (l.length - (n).toNat))]:List (List Rwq))) (A4p (D4 7 rfl) (A4p (D4 2 rfl) U2)) ?_
 have:([⟨b,blank.length,blankk⟩,⟨lq,(l.take (l.length - (n).toNat)).length,lk⟩]:List Slc).length=2:=rfl
 have m:B4 (a++(lrs.take (l.length - (n).toNat))) (blank++(l.take (l.length - (n).toNat))):=(B4.append d j)
 refine zho 8 [] (zml 11 511) rfl (I0 (L2:=[]) (Con.vcast (Con.addf (W0 (R:=(a++(lrs.take (l.length - (n).toNat)))) oir g om_ om_ om_ (by intro i u;simp only [List.length_cons,List.length_nil] at u;match i,u with|0,_=>(simp only [List.getD_cons_zero,List.length_take,List.length_drop];omega)|1,_=>(simp only [List.getD_cons_zero,List.getD_cons_succ,List.length_take,List.length_drop];omega)|2,_=>(simp only [List.getD_cons_zero,List.getD_cons_succ,List.length_take,List.length_drop];omega))) [B7 B1 a blank,B7 B1 (lrs.take (l.length - (n).toNat)) (l.take (l.length - (n).toNat))] (B7 B1 (a++(lrs.take (l.length - (n).toNat))) (blank++(l.take (l.length - (n).toNat)))) (A8y d.1 (D4 0 rfl) (D4 1 rfl))) (fun x=>congrArg (fun z:Nat=>Value.slice (va x.1.q) z x.1.k) m.1)) rfl rfl rfl rfl rfl fo_ (List.Perm.refl _) (fun ⟨o,f⟩=>((vo B5 72 o (a++(lrs.take (l.length - (n).toNat))))++([]))) (fun _=>by first|rfl|simp only [List.append_nil,List.cons_append,List.nil_append,List.append_assoc])) (fun ⟨o,f⟩=>(List.nil_sublist _)) (fun ⟨o,f⟩=>fo_) fun ⟨o,f⟩=>?_
 have:=VOk.le f
 have:=VOk.cap f
 have s:=L4 ([a,(lrs.take (l.length - (n).toNat))]:List (List Rwq));rw [(rfl:(J9 ([a,(lrs.take (l.length - (n).toNat))]:List (List Rwq)))=_)] at s
 have:=@List.length_take _ (l.length - (n).toNat) lrs
 have:=@List.length_append _ a (lrs.take (l.length - (n).toNat))
 refine zhp [9,10] 0 (zml 11 2047) [(6,.slice (A1i lq (l.length - (n).toNat) 2 lk) ((l.drop (l.length - (n).toNat)).length) (lk - (l.length - (n).toNat))),(7,.slice (va o.q) ((blank++(l.take (l.length - (n).toNat))).length) o.k)] ?_
 refine P4 oki ?_
 subst hR
 refine A6 ?_
 exact zer hr hD (V1 rfl (A4 rfl) (A4 rfl)) (⟨((A1i lq (l.length - (n).toNat) 2 lk),(lrs.drop (l.length - (n).toNat)),(lk - (l.length - (n).toNat))),⟨h,okl,okl⟩⟩,⟨(o,(a++(lrs.take (l.length - (n).toNat)))),⟨(VOk.cast f m.1),m⟩⟩) sb_ fo_
def A1n (l:List (Rwc Cel)) (p1:Int) (p2:List (Rwc Cel)):List (Rwc Cel) :=
 (l.take ((p1).toNat)++(p2.take (l.length - ((p1).toNat))++l.drop (((p1).toNat)+min p2.length (l.length - ((p1).toNat)))))
theorem A7l {l:List (Rwc Cel)} {p1:Int} {p2:List (Rwc Cel)} (h:0≤p1∧p1≤(l.length:Int)):(A1n l p1 p2).length=l.length:=C3h _ _ _ opx
set_option maxRecDepth 100000 in
theorem B7w {l:List (Rwc Cel)} {p1:Int} {p2:List (Rwc Cel)} {lr:VR} {lrs:List Rwq} {p1b p2b:Nat} {p2q:Option Addr} {p2rs:List Rwq} {p2k:Nat} {R:List (Rwc Cel)} (hR:A1n l p1 p2=R) (c:VOk 2 l.length lr:=by exact om_) (b:B4 lrs l:=by exact om_) (a:B4 p2rs p2:=by exact om_) (h:p2.length≤9223372036854775807:=by exact om_) (g:p2.length≤p2k:=by exact om_) (i:(0≤p1∧p1≤(l.length:Int))∧l.length≤100∧p2.length≤100:=by exact om_):Con Tryz.prog 264 [.slice (va lr.q) l.length lr.k,pt p1b 0,pt p2b 0] (bx p1b [iv p1] 3::bx p2b [.slice p2q p2.length p2k] 36::((vo B5 72 lr lrs)++([]))) [B7 B1 lrs l,sl B5 p2q p2rs,B7 B1 p2rs p2] ({t:List Rwq // VOk 2 R.length lr∧B4 t R}) (fun x=>.tuple #[]) (fun x=>(bx p1b [iv p1] 3::bx p2b [.slice p2q p2.length p2k] 36::((vo B5 72 lr x.1)++([])))) (fun x=>[B7 B1 x.1 R]):=by
 refine zce Tryz.func264 fun X hX hr hD=>?_
 replace hR:=(A1n.eq_1 ..).symm.trans hR
 have:=VOk.le c
 have:=b.1
 have:=a.1
 refine sh' 5 [(5,[bx p1b [iv p1] 3]),(5,[bx p2b [.slice p2q p2.length p2k] 36]),(4,vo B5 72 lr lrs)] [B7 B1 lrs l,sl B5 p2q p2rs,B7 B1 p2rs p2] (bx p1b [iv p1] 3::bx p2b [.slice p2q p2.length p2k] 36::((vo B5 72 lr lrs)++([]))) (zml 5 0) oki rfl oki oki oki sb_ A5.refl ?_
 refine zhp [0] 4 (zml 5 1) [(4,.slice (va lr.q) l.length lr.k)] ?_
 refine zhl 1 [bx p1b [iv p1] 3,bx p2b [.slice p2q p2.length p2k] 36] (zml 5 3) rfl (A7 (v:=iv p1) ty3 rfl rfl 0 rfl rfl) ?_
 have:=VOk.cap c
 refine zhk 2 (zml 5 7) rfl (A2g (n':=(l.length - (p1).toNat)) A1s rfl rfl ((p1).toNat) l.length lr.k (P2 rfl opx) Q9 Q9 opx opx (Nat.le_refl _) rfl rfl) ?_
 refine zhl 3 (bx p1b [iv p1] 3::bx p2b [.slice p2q p2.length p2k] 36::((vo B5 72 lr lrs)++([]))) (zml 5 15) rfl (A7 (v:=.slice p2q p2.length p2k) B1c rfl rfl 1 rfl rfl) ?_
 have d:VOk 2 (l.take ((p1).toNat)++(p2.take (l.length - ((p1).toNat))++l.drop (((p1).toNat)+min p2.length (l.length - ((p1).toNat))))).length lr:=by rw [C3h l p2 ((p1).toNat) opx];exact c
 have e:B4 (lrs.take ((p1).toNat)++(p2rs.take (l.length - ((p1).toNat))++lrs.drop (((p1).toNat)+min p2rs.length (l.length - ((p1).toNat))))) (l.take ((p1).toNat)++(p2.take (l.length - ((p1).toNat))++l.drop (((p1).toNat)+min p2.length (l.length - ((p1).toNat))))):=B4.copyd b a ((p1).toNat) _
 refine zho 4 [bx p1b [iv p1] 3,bx p2b [.slice p2q p2.length p2k] 36] (zml 5 31) rfl (Tri.addf (C5y (f:=B5) (r:=lr) (xs:=lrs) (ys:=p2rs) (l:=(p1).toNat) (pre:=[bx p1b [iv p1] 3,bx p2b [.slice p2q p2.length p2k] 36]) (post:=[]) A1s (fun _=>rfl) (fun _=>rfl) rfl rfl rfl rfl rfl rfl (by first|rfl|(rw [a.1])) rfl (D4 1 rfl) (VOk.cast c (by rw [b.1])) opx) _ (C8w b a ((p1).toNat) (l.length - ((p1).toNat)) (D4 0 rfl) (D4 2 rfl))) (fun _=>sb_) (fun _=>fo_) fun _=>?_
 refine A0s oki ?_
 subst hR
 exact zen hr hD (A3f rfl) ⟨(lrs.take ((p1).toNat)++(p2rs.take (l.length - ((p1).toNat))++lrs.drop (((p1).toNat)+min p2rs.length (l.length - ((p1).toNat))))),⟨d,e⟩⟩ sb_ fo_
theorem A3b {g:List (Rwc Cel)} (h:K9 g=0):(0<g.length∧g.length≤40)∧2≤M5 g∧M5 g≤80:=by
 have f:=A8r h
 unfold K9 at h
 cases hb:((decide ((g.length:Int)<1))||(decide ((40:Int)<(g.length:Int)))) with
 | true=>rw [hb] at h;cases h
 | false =>
  rw [hb,cond_false] at h
  simp only [Bool.or_eq_false_iff,decide_eq_false_iff_not] at hb
  refine ⟨by omega,?_⟩
  cases g with
  | nil=>exact absurd f (Nat.lt_irrefl _)
  | cons a l =>
   simp only [P6] at h
   generalize hc:((!decide (K8 a.l a.b=0))||(!decide ((a.l.length:Int)=M5 (a::l))))=c at h
   cases c with
   | true=>cases h
   | false =>
    simp only [Bool.or_eq_false_iff,Bool.not_eq_false',decide_eq_true_eq] at hc
    obtain ⟨e,i⟩:=hc
    unfold K8 at e
    generalize hd:((decide ((a.l.length:Int)<2))||(decide ((80:Int)<(a.l.length:Int))))=d at e
    cases d with
    | true=>cases e
    | false=>simp only [Bool.or_eq_false_iff,decide_eq_false_iff_not] at hd;omega
theorem B0n (w:Int) (s:Sty):∀ (a l:List (Rwc Cel)) (t:Nat),(K6 w s a l t).length=l.length
 | [],l,t=>rfl
 | _::a,l,t=>by simp only [K6,E8];rw [B0n w s a,List.length_set]
theorem B0s (w m:Int) (s:Sty):(L7 w m s).length=m.toNat:=by unfold L7;rw [B0n,List.length_replicate]
theorem A3j {g:List (Rwc Cel)} {top bottom n:Int} {s:Sty} (b:g.length≤40) (h:(0≤top∧top≤bottom)∧bottom<(g.length:Int)∧1≤n) :
  (0≤(if (((g.drop top.toNat).take (bottom.toNat+1 - top.toNat)).length:Int)<n then (((g.drop top.toNat).take (bottom.toNat+1 - top.toNat)).length:Int) else n)∧(if (((g.drop top.toNat).take (bottom.toNat+1 - top.toNat)).length:Int)<n then (((g.drop top.toNat).take (bottom.toNat+1 - top.toNat)).length:Int) else n)≤(((g.drop top.toNat).take (bottom.toNat+1 - top.toNat)).length:Int)) ∧
  ((g.drop top.toNat).take (bottom.toNat+1 - top.toNat)).length≤100∧(L7 (M5 g) (if (((g.drop top.toNat).take (bottom.toNat+1 - top.toNat)).length:Int)<n then (((g.drop top.toNat).take (bottom.toNat+1 - top.toNat)).length:Int) else n) s).length≤100:=by
 have a:((g.drop top.toNat).take (bottom.toNat+1 - top.toNat)).length=bottom.toNat+1 - top.toNat:=by simp only [List.length_take,List.length_drop];omega
 rw [B0s,a]
 split<;>omega
theorem C4f {g:List (Rwc Cel)} {top bottom n:Int} (h:(0≤top∧top≤bottom)∧bottom<(g.length:Int)∧1≤n) (b:g.length≤40) :
  1≤(if (((g.drop top.toNat).take (bottom.toNat+1 - top.toNat)).length:Int)<n then (((g.drop top.toNat).take (bottom.toNat+1 - top.toNat)).length:Int) else n)∧(if (((g.drop top.toNat).take (bottom.toNat+1 - top.toNat)).length:Int)<n then (((g.drop top.toNat).take (bottom.toNat+1 - top.toNat)).length:Int) else n)≤40:=by
 have a:((g.drop top.toNat).take (bottom.toNat+1 - top.toNat)).length=bottom.toNat+1 - top.toNat:=by simp only [List.length_take,List.length_drop];omega
 rw [a]
 split<;>omega
theorem A5p {g:List (Rwc Cel)} {top bottom n:Int} {s:Sty} (a:g.length≤40) (h:(0≤top∧top≤bottom)∧bottom<(g.length:Int)∧1≤n) :
  (0≤top∧top≤(g.length:Int))∧g.length≤100∧(A1o ((g.drop top.toNat).take (bottom.toNat+1 - top.toNat)) (if (((g.drop top.toNat).take (bottom.toNat+1 - top.toNat)).length:Int)<n then (((g.drop top.toNat).take (bottom.toNat+1 - top.toNat)).length:Int) else n) (L7 (M5 g) (if (((g.drop top.toNat).take (bottom.toNat+1 - top.toNat)).length:Int)<n then (((g.drop top.toNat).take (bottom.toNat+1 - top.toNat)).length:Int) else n) s)).2.length≤100:=by
 refine ⟨by omega,by omega,?_⟩
 unfold A1o
 simp only [List.length_append,List.length_take,List.length_drop,B0s]
 split<;>omega
def A0r (g:List (Rwc Cel)) (changec:Int) (changec1:List (Rwc Cel)):List (Rwc Cel) :=
 (E8 (A1n g changec changec1) fun (a:List (Rwc Cel))=>a)
set_option maxRecDepth 100000 in
theorem P8 {g:List (Rwc Cel)} {changec:Int} {changec1:List (Rwc Cel)} {gq:Option Addr} {grs:List Rwq} {gk changecb changecb1:Nat} {changecq:Option Addr} {changecrs:List Rwq} {changeck:Nat} {R:List (Rwc Cel)} (hR:A0r g changec changec1=R) (c:B4 grs g:=by exact om_) (y:g.length≤9223372036854775807:=by exact om_) (u:g.length≤gk:=by exact om_) (d:B4 changecrs changec1:=by exact om_) (i:changec1.length≤9223372036854775807:=by exact om_) (h:changec1.length≤changeck:=by exact om_) (w:(0≤changec∧changec≤(g.length:Int))∧g.length≤100∧changec1.length≤100:=by exact om_):Con Tryz.prog 246 [.slice gq g.length gk,.func (.func 264) #[] #[pt changecb 0,pt changecb1 0]] [bx changecb [iv changec] 3,bx changecb1 [.slice changecq changec1.length changeck] 36] [sl B5 gq grs,B7 B1 grs g,sl B5 changecq changecrs,B7 B1 changecrs changec1] ({t:VR×List Rwq // VOk 2 R.length t.1∧B4 t.2 R}) (fun x=>.slice (va x.1.1.q) R.length x.1.1.k) (fun x=>(bx changecb [iv changec] 3::bx changecb1 [.slice changecq changec1.length changeck] 36::((vo B5 72 x.1.1 x.1.2)++([])))) (fun x=>[B7 B1 x.1.2 R]):=by
 refine zce Tryz.func246 fun X hX hr hD=>?_
 replace hR:=(A0r.eq_1 ..).symm.trans hR
 have:=c.1
 have:=d.1
 refine sR_ rfl (pp0 1 rfl ?_)
 refine ie (sR_ rfl (pp1 2 7 rfl ?_))
 refine M8 (q:=B7 B1 (List.replicate g.length zwq) (List.replicate g.length (zwc:Rwc Cel))) C9w ?_
 refine it rfl (B8m (α:=Cel) (l:=g.length) (cc:=g.length) C1k C7q.ok rfl rfl rfl opx ofv opx) fun ⟨r1,e⟩=>?_
 have:(List.replicate g.length zwq).length=g.length:=List.length_replicate
 have:=VOk.le e
 have:=VOk.cap e
 have:(List.replicate g.length (zwc:Rwc Cel)).length=g.length:=List.length_replicate
 refine pp1 1 5 rfl ?_
 refine ie (sR_ rfl (pp2 2 9 10 rfl ?_))
 have m:VOk 2 g.length r1:=VOk.cast e (by first|(rw [List.length_replicate];done)|(simp only [List.length_replicate];omega))
 refine it rfl (C1g (f:=B5) (r:=r1) (n2:=g.length) (z:=zwq) (zs:=grs) (pre:=[bx changecb [iv changec] 3,bx changecb1 [.slice changecq changec1.length changeck] 36]) (post:=[]) A1s (fun _=>rfl) (fun _=>rfl) rfl rfl rfl rfl (by first|rfl|(rw [List.length_replicate];rfl)|(simp only [List.length_replicate];rfl)) rfl (by first|rfl|(rw [c.1])) rfl (D4 1 rfl) (VOk.cast e (by simp only [List.length_replicate])) (by first|exact c.1|(rw [c.1];omega))) fun _=>?_
 refine A2y (L':=(bx changecb [iv changec] 3::bx changecb1 [.slice changecq changec1.length changeck] 36::((vo B5 72 r1 grs)++([])))) rfl ?_
 refine B0u (v:=.slice (va r1.q) g.length r1.k) 8 (congrArg (fun z=>some (Value.slice (va r1.q) z r1.k)) (List.length_replicate)) ?_
 refine B0u (v:=.slice (va r1.q) g.length r1.k) 5 (congrArg (fun z=>some (Value.slice (va r1.q) z r1.k)) (List.length_replicate)) ?_
 refine B0u (v:=.slice (va r1.q) g.length r1.k) 9 (congrArg (fun z=>some (Value.slice (va r1.q) z r1.k)) (List.length_replicate)) ?_
 refine ie (sR_ rfl (ip' 2 1 [(12,.func (.func 264) #[] #[pt changecb 0,pt changecb1 0]),(13,.slice (va r1.q) g.length r1.k)] ?_))
 have s:=E9 hR;clear hR;obtain ⟨b,a,hR⟩:=s
 refine zc rfl (B7w (l:=g) (p1:=changec) (p2:=changec1) (lr:=r1) (lrs:=grs) (p1b:=changecb) (p2b:=changecb1) (p2q:=changecq) (p2rs:=changecrs) (p2k:=changeck) a m c d) fun ⟨p,n⟩=>?_
 try dsimp only at n
 obtain ⟨j,o⟩:=n
 have:=VOk.le j
 have:=VOk.cap j
 have:=o.1
 refine B0u (v:=.slice (va r1.q) b.length r1.k) 8 (congrArg (fun z=>some (Value.slice (va r1.q) z r1.k)) (by rw [← a];exact (A7l opx).symm)) ?_
 refine B0u (v:=.slice (va r1.q) b.length r1.k) 5 (congrArg (fun z=>some (Value.slice (va r1.q) z r1.k)) (by rw [← a];exact (A7l opx).symm)) ?_
 refine B0u (v:=.slice (va r1.q) b.length r1.k) 9 (congrArg (fun z=>some (Value.slice (va r1.q) z r1.k)) (by rw [← a];exact (A7l opx).symm)) ?_
 refine B0u (v:=.slice (va r1.q) b.length r1.k) 13 (congrArg (fun z=>some (Value.slice (va r1.q) z r1.k)) (by rw [← a];exact (A7l opx).symm)) ?_
 refine ie (sR_ rfl (pp1 2 4 rfl ?_))
 subst hR
 refine ie (A6 ?_)
 exact zer hr hD (U4 rfl (A4 rfl)) ⟨(r1,p),⟨j,o⟩⟩ sb_ fo_
def A9p (g:List (Rwc Cel)) (top:Int) (bottom:Int) (n:Int) (s:Sty):List (Rwc Cel)×List (Rwc Cel)×Int :=
 (bif (!decide ((K9 g)=0)) then (([]:List (Rwc Cel)),([]:List (Rwc Cel)),(K9 g)) else (bif ((((decide (top<0))||(decide (bottom<top)))||(decide ((g.length:Int)≤bottom)))||(decide (n<0))) then (([]:List (Rwc Cel)),([]:List (Rwc Cel)),2) else (bif (!decide ((H0 s)=0)) then (([]:List (Rwc Cel)),([]:List (Rwc Cel)),(H0 s)) else (E8 (L7 (M5 g) (if (((g.drop ((top).toNat)).take (((bottom).toNat+1) - ((top).toNat))).length:Int)<n then (((g.drop ((top).toNat)).take (((bottom).toNat+1) - ((top).toNat))).length:Int) else n) s) fun (c:List (Rwc Cel))=>(E8 (A1o ((g.drop ((top).toNat)).take (((bottom).toNat+1) - ((top).toNat))) (if (((g.drop ((top).toNat)).take (((bottom).toNat+1) - ((top).toNat))).length:Int)<n then (((g.drop ((top).toNat)).take (((bottom).toNat+1) - ((top).toNat))).length:Int) else n) c) fun (b:List (Rwc Cel)×List (Rwc Cel))=>(E8 (A0r g top b.2) fun (a:List (Rwc Cel))=>(a,b.1,0)))))))
set_option maxHeartbeats 1000000 in
set_option maxRecDepth 100000 in
theorem C1h {g:List (Rwc Cel)} {top bottom n:Int} {s:Sty} {gq:Option Addr} {grs:List Rwq} {gk:Nat} {R:List (Rwc Cel)×List (Rwc Cel)×Int} (hR:A9p g top bottom n s=R) (e:B4 grs g:=by exact om_) (d6:g.length≤9223372036854775807:=by exact om_) (d5:g.length≤gk:=by exact om_) (d7:1≤n:=by exact om_):Con Tryz.prog 238 [.slice gq g.length gk,iv top,iv bottom,iv n,ag (C7 s),.func (.func 239) #[] #[]] [] [sl B5 gq grs,B7 B1 grs g,O9,P0] ({t:VR×List Rwq // VOk 2 R.1.length t.1∧B4 t.2 R.1}×{t:Option Addr×List Rwq×Nat // B4 t.2.1 R.2.1∧R.2.1.length≤t.2.2∧R.2.1.length≤9223372036854775807}) (fun x=>.tuple #[.slice (va x.1.1.1.q) R.1.length x.1.1.1.k,.slice x.2.1.1 R.2.1.length x.2.1.2.2,iv R.2.2]) (fun x=>((vo B5 72 x.1.1.1 x.1.1.2)++([]))) (fun x=>[B7 B1 x.1.1.2 R.1,sl B5 x.2.1.1 x.2.1.2.1,B7 B1 x.2.1.2.1 R.2.1]):=by
 refine zce Tryz.func238 fun X hX hr hD=>?_
 replace hR:=(A9p.eq_1 ..).symm.trans hR
 have:=e.1
 refine sR_ rfl (A4z 5 0 [] (fun d f=>[(7,pt d 0),(10,pt f 0)]) (fun d f=>[bx f (C7 s) 42,bx d [iv top] 3]) (fun d f=>?_))
 refine ie (A2 (sR_ rfl (pp1 1 19 rfl ?_)))
 refine zv rfl (A7i rfl e) ?_
 refine pp1 1 15 rfl ?_
 refine ie (sR_ rfl (pp1 2 22 rfl ?_))
 refine ie ?_
 refine zjn rfl hR ?_ ?_<;>clear hR<;>intro hR h3 ce
 ·refine sR_ rfl (pp3 4 12 13 14 rfl ?_)
  subst hR
  refine ie (A6 ?_)
  exact zer hr hD (A4s rfl (A4 rfl) (A4 rfl) (A4 rfl)) (⟨(VR.nil,([]:List Rwq)),⟨VOk.nil,B4.none⟩⟩,⟨(none,[],0),⟨B4.none,okl,okl⟩⟩) sb_ fo_
 have d4:=A3b (by first|assumption|exact ce|simpa using h3)
 refine A3 (nx (A2 (sR_ rfl (pl1 3 [1] 26 rfl ?_))))
 refine zir 4 10 26 30 (decide (bottom<top)) (fun g4 d3=>?_) ?_
 ·refine pl1 4 [1] 30 rfl ?_
  exact zai 2 26 30 g4
 refine pp1 1 31 rfl ?_
 refine zio 5 4 31 36 (decide ((g.length:Int)≤bottom)) (fun g5=>?_) ?_
 ·have cy:=bq_ g5
  refine pp1 5 36 rfl ?_
  exact zai 2 31 36 g5
 refine pp1 1 37 rfl ?_
 refine zio 3 0 37 40 (decide (n<0)) (fun g6=>?_) ?_
 ·have d2:=bq_ g6
  refine pp1 3 40 rfl ?_
  exact zai 2 37 40 g6
 refine ie ?_
 refine zjb rfl hR ?_ ?_<;>clear hR<;>intro hR h7
 ·have cg:=bq_ h7
  refine sR_ rfl (pp3 3 12 13 14 rfl ?_)
  subst hR
  refine ie (A6 ?_)
  exact zer hr hD (A4s rfl (A4 rfl) (A4 rfl) (A4 rfl)) (⟨(VR.nil,([]:List Rwq)),⟨VOk.nil,B4.none⟩⟩,⟨(none,[],0),⟨B4.none,okl,okl⟩⟩) sb_ fo_
 have cg:=bq_ h7
 have cz:=C4f (g:=g) (top:=top) (bottom:=bottom) (n:=n) opx opx
 refine A3 (nx (A2 (sR_ rfl (zrl 1 2 [0] [(41,ag (C7 s))] ?_))))
 refine zv rfl (V9 rfl) ?_
 refine pp1 1 16 rfl ?_
 refine ie (sR_ rfl (pp1 2 44 rfl ?_))
 refine ie ?_
 refine zjn rfl hR ?_ ?_<;>clear hR<;>intro hR h8 d0
 ·refine sR_ rfl (pp3 4 12 13 14 rfl ?_)
  subst hR
  refine ie (A6 ?_)
  exact zer hr hD (A4s rfl (A4 rfl) (A4 rfl) (A4 rfl)) (⟨(VR.nil,([]:List Rwq)),⟨VOk.nil,B4.none⟩⟩,⟨(none,[],0),⟨B4.none,okl,okl⟩⟩) sb_ fo_
 refine A3 (nx (sR_ rfl (pl3 3 [1] 46 47 48 rfl ?_)))
 refine ix rfl (A9 rfl rfl rfl rfl opx) ?_
 refine pp1 1 50 rfl ?_
 refine ix rfl (A9 rfl rfl rfl rfl opx) ?_
 refine M8 (C3q (c:=B5) (sz:=2) (xs:=grs) (D4 0 rfl) ((top).toNat) ((bottom).toNat+1) ((bottom).toNat+1) (fun _=>rfl) rfl opx opx) ?_
 refine M8 (B3m (B6u (D4 2 rfl) ((top).toNat)) (((bottom).toNat+1) - ((top).toNat))) ?_
 have ao:B4 ((grs.drop ((top).toNat)).take (((bottom).toNat+1) - ((top).toNat))) ((g.drop ((top).toNat)).take (((bottom).toNat+1) - ((top).toNat))):=(B4.take (B4.drop e ((top).toNat)) (((bottom).toNat+1) - ((top).toNat)))
 have:=ao.1
 refine ix rfl (A2g (n':=((g.drop ((top).toNat)).take (((bottom).toNat+1) - ((top).toNat))).length) A1s rfl rfl ((top).toNat) ((bottom).toNat+1) ((bottom).toNat+1) (P2 rfl opx) (P2 rfl opx) (P2 rfl opx) opx opx opx ofx rfl) ?_
 have:=@List.length_drop _ ((top).toNat) grs
 have:=@List.length_take _ (((bottom).toNat+1) - ((top).toNat)) (grs.drop ((top).toNat))
 refine pp1 1 17 rfl ?_
 refine ie (sR_ rfl (pp1 5 3 rfl ?_))
 have:=C8a n (((g.drop ((top).toNat)).take (((bottom).toNat+1) - ((top).toNat))).length:Int)
 refine ie ?_
 have hQ:=E9 hR;clear hR;obtain ⟨cc,b,hR⟩:=hQ
 have hQ:=E9 hR;clear hR;obtain ⟨a,h,hR⟩:=hQ
 refine sh 15 [(15,[bx f (C7 s) 42]),(15,[bx d [iv top] 3])] [B7 B1 ((grs.drop ((top).toNat)).take (((bottom).toNat+1) - ((top).toNat))) ((g.drop ((top).toNat)).take (((bottom).toNat+1) - ((top).toNat))),sl B5 (A1i gq ((top).toNat) 2 ((bottom).toNat+1)) ((grs.drop ((top).toNat)).take (((bottom).toNat+1) - ((top).toNat))),sl B5 gq grs,B7 B1 grs g,O9,P0] [bx f (C7 s) 42,bx d [iv top] 3] (zml 15 0) oki rfl oki oki oki sb_ A5.refl ?_
 refine zhp [0,1,2,3,5] 10 (zml 15 47) [(58,.func (.func 239) #[] #[]),(59,.slice (A1i gq ((top).toNat) 2 ((bottom).toNat+1)) (((g.drop ((top).toNat)).take (((bottom).toNat+1) - ((top).toNat))).length) (((bottom).toNat+1) - ((top).toNat))),(60,iv (if (((g.drop ((top).toNat)).take (((bottom).toNat+1) - ((top).toNat))).length:Int)<n then (((g.drop ((top).toNat)).take (((bottom).toNat+1) - ((top).toNat))).length:Int) else n)),(61,.slice gq g.length gk),(63,iv (if (((g.drop ((top).toNat)).take (((bottom).toNat+1) - ((top).toNat))).length:Int)<n then (((g.drop ((top).toNat)).take (((bottom).toNat+1) - ((top).toNat))).length:Int) else n))] ?_
 refine zhl 6 [bx f (C7 s) 42,bx d [iv top] 3] (zml 15 111) rfl (E5 (us:=C7 s) C6j rfl rfl 0 rfl rfl rfl) ?_
 refine Z1 4 12 oki ?_ ?_
 ·refine A2l 4 [bx f (C7 s) 42,bx d [iv top] 3] (zml 15 127) rfl rfl rfl oki oki oki (Det.tri (P3 (A3i rfl e) rfl rfl rfl rfl rfl fo_)) (fun _=>sb_) (fun _=>A5.refl) fun _=>?_
  refine Z1 7 12 oki ?_ ?_
  ·refine A2l 7 [bx f (C7 s) 42,bx d [iv top] 3] (zml 15 255) rfl rfl rfl oki oki oki (I4 (L2:=[bx f (C7 s) 42,bx d [iv top] 3]) (V6 b) rfl rfl rfl rfl rfl A5.nil (List.Perm.refl _) (fun ⟨⟨r9,a1⟩,ad⟩=>(bx f (C7 s) 42::bx d [iv top] 3::((vo B5 72 r9 a1)++([])))) (fun ⟨⟨r9,a1⟩,ad⟩=>J5 [vo B5 72 r9 a1,[bx f (C7 s) 42],[bx d [iv top] 3]] [1,2,0] 3 rfl ozw opl [[bx f (C7 s) 42],[bx d [iv top] 3],vo B5 72 r9 a1] rfl opl)) (fun ⟨⟨r9,a1⟩,ad⟩=>sb_) (fun ⟨⟨r9,a1⟩,ad⟩=>fo_) fun ⟨⟨r9,a1⟩,ad⟩=>?_
   try dsimp only at ad
   obtain ⟨ah,b3⟩:=ad
   have:=VOk.le ah
   have:=VOk.cap ah
   have:=b3.1
   have:=VOk.cap ah
   have:=VOk.le ah
   refine A7u [bx f (C7 s) 42,bx d [iv top] 3] [] (T:=72) (c:=B5) (r:=r9) (xs:=a1) (VOk.cast ah (by rw [b3.1])) oll [bx f (C7 s) 42,bx d [iv top] 3] rfl sb_ ?_
   refine Z1 8 12 oki ?_ ?_
   ·refine A2l 8 [bx f (C7 s) 42,bx d [iv top] 3] (zml 15 511) rfl rfl rfl oki oki oki (I4 (L2:=[bx f (C7 s) 42,bx d [iv top] 3]) (A3a h ao om_ om_ b3 om_ om_ (by (rw [← b];exact A3j (g:=g) (top:=top) (bottom:=bottom) (n:=n) opx opx))) rfl rfl rfl rfl rfl fo_ (List.Perm.refl _) (fun ⟨⟨⟨az,au,b0⟩,ay⟩,⟨⟨j,w⟩,a9⟩⟩=>(bx f (C7 s) 42::bx d [iv top] 3::((vo B5 72 j w)++([])))) (fun ⟨⟨⟨az,au,b0⟩,ay⟩,⟨⟨j,w⟩,a9⟩⟩=>J5 [vo B5 72 j w,[bx f (C7 s) 42],[bx d [iv top] 3]] [1,2,0] 3 rfl ozw opl [[bx f (C7 s) 42],[bx d [iv top] 3],vo B5 72 j w] rfl opl)) (fun ⟨⟨⟨az,au,b0⟩,ay⟩,⟨⟨j,w⟩,a9⟩⟩=>sb_) (fun ⟨⟨⟨az,au,b0⟩,ay⟩,⟨⟨j,w⟩,a9⟩⟩=>fo_) fun ⟨⟨⟨az,au,b0⟩,ay⟩,⟨⟨j,w⟩,a9⟩⟩=>?_
    obtain ⟨bz,cu,cn⟩:=ay
    try dsimp only at a9
    obtain ⟨aw,bi⟩:=a9
    have:=VOk.le aw
    have:=VOk.cap aw
    have:=bz.1
    have:=bi.1
    refine zhp [9,10,11] 3 (zml 15 4095) [(67,.slice az a.1.length b0),(68,.slice (va j.q) a.2.length j.k)] ?_
    refine zho 12 [bx f (C7 s) 42,bx d [iv top] 3] (zml 15 8191) rfl (I7 (cs:=[.slice none 0 0]) A9d rfl) (fun b8=>sb_) (fun b8=>fo_) fun b8=>?_
    refine zhp [13] 1 (zml 15 16383) [(13,.slice az a.1.length b0)] ?_
    refine zho 14 [bx f (C7 s) 42,bx d [iv top] 3] (zml 15 32767) rfl (D0 (us:=[.slice (va j.q) a.2.length j.k]) (cs':=[.slice (va j.q) a.2.length j.k]) B1c rfl rfl rfl 0 rfl rfl rfl rfl rfl rfl) (fun _=>sb_) (fun _=>fo_) fun _=>?_
    refine P4 oki ?_
    refine sR_ rfl (ip' 2 5 [(69,.slice gq g.length gk),(70,.func (.func 264) #[] #[pt d 0,pt b8 0])] ?_)
    have:=VOk.cap aw
    have:=VOk.le aw
    refine U6 [bx b8 [.slice (va j.q) a.2.length j.k] 36,bx f (C7 s) 42,bx d [iv top] 3] [] (T:=72) (c:=B5) (r:=j) (xs:=w) (VOk.cast aw (by rw [bi.1])) oll ?_
    refine A2y (L':=[bx b8 [.slice (va j.q) a.2.length j.k] 36,bx f (C7 s) 42,bx d [iv top] 3]) omm ?_
    have hQ:=E9 hR;clear hR;obtain ⟨bq,a5,hR⟩:=hQ
    refine zc rfl (P8 (g:=g) (changec:=top) (changec1:=a.2) (gq:=gq) (grs:=grs) (gk:=gk) (changecb:=d) (changecb1:=b8) (changecq:=(va j.q)) (changecrs:=w) (changeck:=j.k) a5 e om_ om_ bi om_ om_ (by (rw [← h,← b];first|exact A5p (g:=g) (top:=top) (bottom:=bottom) (n:=n) opx opx|exact A5o (g:=g) (top:=top) (bottom:=bottom) (n:=n) opx opx))) fun ⟨⟨ci,ca⟩,c4⟩=>?_
    try dsimp only at c4
    obtain ⟨bj,c7⟩:=c4
    have:=VOk.le bj
    have:=VOk.cap bj
    have:=c7.1
    refine pp3 4 12 13 14 rfl ?_
    subst hR
    refine ie (A6 ?_)
    exact zer hr hD (A4s rfl (A4 rfl) (A4 rfl) (A4 rfl)) (⟨(ci,ca),⟨bj,c7⟩⟩,⟨(az,au,b0),⟨bz,okl,okl⟩⟩) sb_ fo_
   ·refine A2l 12 [bx f (C7 s) 42,bx d [iv top] 3] (zml 15 4351) rfl rfl rfl oki oki oki (I7 (cs:=[.slice none 0 0]) A9d rfl) (fun a6=>sb_) (fun a6=>fo_) fun a6=>?_
    refine zho 8 [bx f (C7 s) 42,bx d [iv top] 3] (zml 15 4607) rfl (I4 (L2:=[bx a6 [.slice none 0 0] 36,bx f (C7 s) 42,bx d [iv top] 3]) (A3a h ao om_ om_ b3 om_ om_ (by (rw [← b];exact A3j (g:=g) (top:=top) (bottom:=bottom) (n:=n) opx opx))) rfl rfl rfl rfl rfl fo_ (List.Perm.refl _) (fun ⟨⟨⟨ba,ae,b5⟩,ax⟩,⟨⟨m,y⟩,ab⟩⟩=>(bx a6 [.slice none 0 0] 36::bx f (C7 s) 42::bx d [iv top] 3::((vo B5 72 m y)++([])))) (fun ⟨⟨⟨ba,ae,b5⟩,ax⟩,⟨⟨m,y⟩,ab⟩⟩=>J5 [vo B5 72 m y,[bx a6 [.slice none 0 0] 36],[bx f (C7 s) 42],[bx d [iv top] 3]] [1,2,3,0] 4 rfl ozw opl [[bx a6 [.slice none 0 0] 36],[bx f (C7 s) 42],[bx d [iv top] 3],vo B5 72 m y] rfl opl)) (fun ⟨⟨⟨ba,ae,b5⟩,ax⟩,⟨⟨m,y⟩,ab⟩⟩=>sb_) (fun ⟨⟨⟨ba,ae,b5⟩,ax⟩,⟨⟨m,y⟩,ab⟩⟩=>fo_) fun ⟨⟨⟨ba,ae,b5⟩,ax⟩,⟨⟨m,y⟩,ab⟩⟩=>?_
    obtain ⟨bu,cr,ck⟩:=ax
    try dsimp only at ab
    obtain ⟨aj,be⟩:=ab
    have:=VOk.le aj
    have:=VOk.cap aj
    have:=bu.1
    have:=be.1
    refine zhp [9,10,11,13] 1 (zml 15 16383) [(68,.slice (va m.q) a.2.length m.k),(13,.slice ba a.1.length b5)] ?_
    refine zho 14 [bx f (C7 s) 42,bx d [iv top] 3] (zml 15 32767) rfl (D0 (us:=[.slice (va m.q) a.2.length m.k]) (cs':=[.slice (va m.q) a.2.length m.k]) B1c rfl rfl rfl 0 rfl rfl rfl rfl rfl rfl) (fun _=>sb_) (fun _=>fo_) fun _=>?_
    refine P4 oki ?_
    refine sR_ rfl (ip' 2 5 [(69,.slice gq g.length gk),(70,.func (.func 264) #[] #[pt d 0,pt a6 0])] ?_)
    have:=VOk.cap aj
    have:=VOk.le aj
    refine U6 [bx a6 [.slice (va m.q) a.2.length m.k] 36,bx f (C7 s) 42,bx d [iv top] 3] [] (T:=72) (c:=B5) (r:=m) (xs:=y) (VOk.cast aj (by rw [be.1])) oll ?_
    refine A2y (L':=[bx a6 [.slice (va m.q) a.2.length m.k] 36,bx f (C7 s) 42,bx d [iv top] 3]) omm ?_
    have hQ:=E9 hR;clear hR;obtain ⟨bn,a2,hR⟩:=hQ
    refine zc rfl (P8 (g:=g) (changec:=top) (changec1:=a.2) (gq:=gq) (grs:=grs) (gk:=gk) (changecb:=d) (changecb1:=a6) (changecq:=(va m.q)) (changecrs:=y) (changeck:=m.k) a2 e om_ om_ be om_ om_ (by (rw [← h,← b];first|exact A5p (g:=g) (top:=top) (bottom:=bottom) (n:=n) opx opx|exact A5o (g:=g) (top:=top) (bottom:=bottom) (n:=n) opx opx))) fun ⟨⟨cf,cd⟩,c5⟩=>?_
    try dsimp only at c5
    obtain ⟨bg,c8⟩:=c5
    have:=VOk.le bg
    have:=VOk.cap bg
    have:=c8.1
    refine pp3 4 12 13 14 rfl ?_
    subst hR
    refine ie (A6 ?_)
    exact zer hr hD (A4s rfl (A4 rfl) (A4 rfl) (A4 rfl)) (⟨(cf,cd),⟨bg,c8⟩⟩,⟨(ba,ae,b5),⟨bu,okl,okl⟩⟩) sb_ fo_
  ·refine A2l 12 [bx f (C7 s) 42,bx d [iv top] 3] (zml 15 4223) rfl rfl rfl oki oki oki (I7 (cs:=[.slice none 0 0]) A9d rfl) (fun o=>sb_) (fun o=>A5.refl) fun o=>?_
   refine zho 7 [bx f (C7 s) 42,bx d [iv top] 3] (zml 15 4351) rfl (I4 (L2:=[bx o [.slice none 0 0] 36,bx f (C7 s) 42,bx d [iv top] 3]) (V6 b) rfl rfl rfl rfl rfl A5.nil (List.Perm.refl _) (fun ⟨⟨ak,z⟩,aa⟩=>(bx o [.slice none 0 0] 36::bx f (C7 s) 42::bx d [iv top] 3::((vo B5 72 ak z)++([])))) (fun ⟨⟨ak,z⟩,aa⟩=>J5 [vo B5 72 ak z,[bx o [.slice none 0 0] 36],[bx f (C7 s) 42],[bx d [iv top] 3]] [1,2,3,0] 4 rfl ozw opl [[bx o [.slice none 0 0] 36],[bx f (C7 s) 42],[bx d [iv top] 3],vo B5 72 ak z] rfl opl)) (fun ⟨⟨ak,z⟩,aa⟩=>sb_) (fun ⟨⟨ak,z⟩,aa⟩=>fo_) fun ⟨⟨ak,z⟩,aa⟩=>?_
   try dsimp only at aa
   obtain ⟨av,bk⟩:=aa
   have:=VOk.le av
   have:=VOk.cap av
   have:=bk.1
   have:=VOk.cap av
   have:=VOk.le av
   refine A7u [bx o [.slice none 0 0] 36,bx f (C7 s) 42,bx d [iv top] 3] [] (T:=72) (c:=B5) (r:=ak) (xs:=z) (VOk.cast av (by rw [bk.1])) oll [bx f (C7 s) 42,bx d [iv top] 3] rfl sb_ ?_
   refine zho 8 [bx f (C7 s) 42,bx d [iv top] 3] (zml 15 4607) rfl (I4 (L2:=[bx o [.slice none 0 0] 36,bx f (C7 s) 42,bx d [iv top] 3]) (A3a h ao om_ om_ bk om_ om_ (by (rw [← b];exact A3j (g:=g) (top:=top) (bottom:=bottom) (n:=n) opx opx))) rfl rfl rfl rfl rfl fo_ (List.Perm.refl _) (fun ⟨⟨⟨b9,af,b7⟩,al⟩,⟨⟨l,v⟩,ac⟩⟩=>(bx o [.slice none 0 0] 36::bx f (C7 s) 42::bx d [iv top] 3::((vo B5 72 l v)++([])))) (fun ⟨⟨⟨b9,af,b7⟩,al⟩,⟨⟨l,v⟩,ac⟩⟩=>J5 [vo B5 72 l v,[bx o [.slice none 0 0] 36],[bx f (C7 s) 42],[bx d [iv top] 3]] [1,2,3,0] 4 rfl ozw opl [[bx o [.slice none 0 0] 36],[bx f (C7 s) 42],[bx d [iv top] 3],vo B5 72 l v] rfl opl)) (fun ⟨⟨⟨b9,af,b7⟩,al⟩,⟨⟨l,v⟩,ac⟩⟩=>sb_) (fun ⟨⟨⟨b9,af,b7⟩,al⟩,⟨⟨l,v⟩,ac⟩⟩=>fo_) fun ⟨⟨⟨b9,af,b7⟩,al⟩,⟨⟨l,v⟩,ac⟩⟩=>?_
   obtain ⟨c3,cm,co⟩:=al
   try dsimp only at ac
   obtain ⟨ar,bh⟩:=ac
   have:=VOk.le ar
   have:=VOk.cap ar
   have:=c3.1
   have:=bh.1
   refine zhp [9,10,11,13] 1 (zml 15 16383) [(68,.slice (va l.q) a.2.length l.k),(13,.slice b9 a.1.length b7)] ?_
   refine zho 14 [bx f (C7 s) 42,bx d [iv top] 3] (zml 15 32767) rfl (D0 (us:=[.slice (va l.q) a.2.length l.k]) (cs':=[.slice (va l.q) a.2.length l.k]) B1c rfl rfl rfl 0 rfl rfl rfl rfl rfl rfl) (fun _=>sb_) (fun _=>fo_) fun _=>?_
   refine P4 oki ?_
   refine sR_ rfl (ip' 2 5 [(69,.slice gq g.length gk),(70,.func (.func 264) #[] #[pt d 0,pt o 0])] ?_)
   have:=VOk.cap ar
   have:=VOk.le ar
   refine U6 [bx o [.slice (va l.q) a.2.length l.k] 36,bx f (C7 s) 42,bx d [iv top] 3] [] (T:=72) (c:=B5) (r:=l) (xs:=v) (VOk.cast ar (by rw [bh.1])) oll ?_
   refine A2y (L':=[bx o [.slice (va l.q) a.2.length l.k] 36,bx f (C7 s) 42,bx d [iv top] 3]) omm ?_
   have hQ:=E9 hR;clear hR;obtain ⟨bm,a3,hR⟩:=hQ
   refine zc rfl (P8 (g:=g) (changec:=top) (changec1:=a.2) (gq:=gq) (grs:=grs) (gk:=gk) (changecb:=d) (changecb1:=o) (changecq:=(va l.q)) (changecrs:=v) (changeck:=l.k) a3 e om_ om_ bh om_ om_ (by (rw [← h,← b];first|exact A5p (g:=g) (top:=top) (bottom:=bottom) (n:=n) opx opx|exact A5o (g:=g) (top:=top) (bottom:=bottom) (n:=n) opx opx))) fun ⟨⟨cj,c9⟩,c2⟩=>?_
   try dsimp only at c2
   obtain ⟨bo,br⟩:=c2
   have:=VOk.le bo
   have:=VOk.cap bo
   have:=br.1
   refine pp3 4 12 13 14 rfl ?_
   subst hR
   refine ie (A6 ?_)
   exact zer hr hD (A4s rfl (A4 rfl) (A4 rfl) (A4 rfl)) (⟨(cj,c9),⟨bo,br⟩⟩,⟨(b9,af,b7),⟨c3,okl,okl⟩⟩) sb_ fo_
 ·refine A2l 12 [bx f (C7 s) 42,bx d [iv top] 3] (zml 15 4207) rfl rfl rfl oki oki oki (I7 (cs:=[.slice none 0 0]) A9d rfl) (fun p=>sb_) (fun p=>A5.refl) fun p=>?_
  refine zho 4 [bx f (C7 s) 42,bx d [iv top] 3] (zml 15 4223) rfl (Det.tri (P3 (A3i rfl e) rfl rfl rfl rfl rfl fo_)) (fun _=>sb_) (fun _=>A5.refl) fun _=>?_
  refine zho 7 [bx f (C7 s) 42,bx d [iv top] 3] (zml 15 4351) rfl (I4 (L2:=[bx p [.slice none 0 0] 36,bx f (C7 s) 42,bx d [iv top] 3]) (V6 b) rfl rfl rfl rfl rfl A5.nil (List.Perm.refl _) (fun ⟨⟨an,a0⟩,a8⟩=>(bx p [.slice none 0 0] 36::bx f (C7 s) 42::bx d [iv top] 3::((vo B5 72 an a0)++([])))) (fun ⟨⟨an,a0⟩,a8⟩=>J5 [vo B5 72 an a0,[bx p [.slice none 0 0] 36],[bx f (C7 s) 42],[bx d [iv top] 3]] [1,2,3,0] 4 rfl ozw opl [[bx p [.slice none 0 0] 36],[bx f (C7 s) 42],[bx d [iv top] 3],vo B5 72 an a0] rfl opl)) (fun ⟨⟨an,a0⟩,a8⟩=>sb_) (fun ⟨⟨an,a0⟩,a8⟩=>fo_) fun ⟨⟨an,a0⟩,a8⟩=>?_
  try dsimp only at a8
  obtain ⟨aq,bl⟩:=a8
  have:=VOk.le aq
  have:=VOk.cap aq
  have:=bl.1
  have:=VOk.cap aq
  have:=VOk.le aq
  refine A7u [bx p [.slice none 0 0] 36,bx f (C7 s) 42,bx d [iv top] 3] [] (T:=72) (c:=B5) (r:=an) (xs:=a0) (VOk.cast aq (by rw [bl.1])) oll [bx f (C7 s) 42,bx d [iv top] 3] rfl sb_ ?_
  refine zho 8 [bx f (C7 s) 42,bx d [iv top] 3] (zml 15 4607) rfl (I4 (L2:=[bx p [.slice none 0 0] 36,bx f (C7 s) 42,bx d [iv top] 3]) (A3a h ao om_ om_ bl om_ om_ (by (rw [← b];exact A3j (g:=g) (top:=top) (bottom:=bottom) (n:=n) opx opx))) rfl rfl rfl rfl rfl fo_ (List.Perm.refl _) (fun ⟨⟨⟨b4,ap,b6⟩,ai⟩,⟨⟨i,u⟩,a7⟩⟩=>(bx p [.slice none 0 0] 36::bx f (C7 s) 42::bx d [iv top] 3::((vo B5 72 i u)++([])))) (fun ⟨⟨⟨b4,ap,b6⟩,ai⟩,⟨⟨i,u⟩,a7⟩⟩=>J5 [vo B5 72 i u,[bx p [.slice none 0 0] 36],[bx f (C7 s) 42],[bx d [iv top] 3]] [1,2,3,0] 4 rfl ozw opl [[bx p [.slice none 0 0] 36],[bx f (C7 s) 42],[bx d [iv top] 3],vo B5 72 i u] rfl opl)) (fun ⟨⟨⟨b4,ap,b6⟩,ai⟩,⟨⟨i,u⟩,a7⟩⟩=>sb_) (fun ⟨⟨⟨b4,ap,b6⟩,ai⟩,⟨⟨i,u⟩,a7⟩⟩=>fo_) fun ⟨⟨⟨b4,ap,b6⟩,ai⟩,⟨⟨i,u⟩,a7⟩⟩=>?_
  obtain ⟨c0,cl,ct⟩:=ai
  try dsimp only at a7
  obtain ⟨am,bc⟩:=a7
  have:=VOk.le am
  have:=VOk.cap am
  have:=c0.1
  have:=bc.1
  refine zhp [9,10,11,13] 1 (zml 15 16383) [(68,.slice (va i.q) a.2.length i.k),(13,.slice b4 a.1.length b6)] ?_
  refine zho 14 [bx f (C7 s) 42,bx d [iv top] 3] (zml 15 32767) rfl (D0 (us:=[.slice (va i.q) a.2.length i.k]) (cs':=[.slice (va i.q) a.2.length i.k]) B1c rfl rfl rfl 0 rfl rfl rfl rfl rfl rfl) (fun _=>sb_) (fun _=>fo_) fun _=>?_
  refine P4 oki ?_
  refine sR_ rfl (ip' 2 5 [(69,.slice gq g.length gk),(70,.func (.func 264) #[] #[pt d 0,pt p 0])] ?_)
  have:=VOk.cap am
  have:=VOk.le am
  refine U6 [bx p [.slice (va i.q) a.2.length i.k] 36,bx f (C7 s) 42,bx d [iv top] 3] [] (T:=72) (c:=B5) (r:=i) (xs:=u) (VOk.cast am (by rw [bc.1])) oll ?_
  refine A2y (L':=[bx p [.slice (va i.q) a.2.length i.k] 36,bx f (C7 s) 42,bx d [iv top] 3]) omm ?_
  have hQ:=E9 hR;clear hR;obtain ⟨bp,a4,hR⟩:=hQ
  refine zc rfl (P8 (g:=g) (changec:=top) (changec1:=a.2) (gq:=gq) (grs:=grs) (gk:=gk) (changecb:=d) (changecb1:=p) (changecq:=(va i.q)) (changecrs:=u) (changeck:=i.k) a4 e om_ om_ bc om_ om_ (by (rw [← h,← b];first|exact A5p (g:=g) (top:=top) (bottom:=bottom) (n:=n) opx opx|exact A5o (g:=g) (top:=top) (bottom:=bottom) (n:=n) opx opx))) fun ⟨⟨ch,cb⟩,bw⟩=>?_
  try dsimp only at bw
  obtain ⟨bb,c6⟩:=bw
  have:=VOk.le bb
  have:=VOk.cap bb
  have:=c6.1
  refine pp3 4 12 13 14 rfl ?_
  subst hR
  refine ie (A6 ?_)
  exact zer hr hD (A4s rfl (A4 rfl) (A4 rfl) (A4 rfl)) (⟨(ch,cb),⟨bb,c6⟩⟩,⟨(b4,ap,b6),⟨c0,okl,okl⟩⟩) sb_ fo_
def A1v (g:List (Rwc Cel)) (top:Int) (bottom:Int) (n:Int) (s:Sty):List (Rwc Cel)×List (Rwc Cel)×Int :=
 (E8 (A9p g top bottom n s) fun (a:List (Rwc Cel)×List (Rwc Cel)×Int)=>(a.1,a.2.1,a.2.2))
set_option maxRecDepth 100000 in
theorem C2i {g:List (Rwc Cel)} {top bottom n:Int} {s:Sty} {gq:Option Addr} {grs:List Rwq} {gk:Nat} {R:List (Rwc Cel)×List (Rwc Cel)×Int} (hR:A1v g top bottom n s=R) (a:B4 grs g:=by exact om_) (r:g.length≤9223372036854775807:=by exact om_) (a0:g.length≤gk:=by exact om_) (w:1≤n:=by exact om_):Con Tryz.prog 189 [.slice gq g.length gk,iv top,iv bottom,iv n,ag (C7 s)] [] [sl B5 gq grs,B7 B1 grs g,O9,P0] ({t:VR×List Rwq // VOk 2 R.1.length t.1∧B4 t.2 R.1}×{t:Option Addr×List Rwq×Nat // B4 t.2.1 R.2.1∧R.2.1.length≤t.2.2∧R.2.1.length≤9223372036854775807}) (fun x=>.tuple #[.slice (va x.1.1.1.q) R.1.length x.1.1.1.k,.slice x.2.1.1 R.2.1.length x.2.1.2.2,iv R.2.2]) (fun x=>((vo B5 72 x.1.1.1 x.1.1.2)++([]))) (fun x=>[B7 B1 x.1.1.2 R.1,sl B5 x.2.1.1 x.2.1.2.1,B7 B1 x.2.1.2.1 R.2.1]):=by
 refine zce Tryz.func189 fun X hX hr hD=>?_
 replace hR:=(A1v.eq_1 ..).symm.trans hR
 have:=a.1
 refine sR_ rfl (J3 4 0 [] (fun j=>[(9,pt j 0)]) (fun j=>[bx j (C7 s) 42]) (fun j=>?_))
 refine ie (sR_ rfl (zrl 5 7 [0] [(13,.slice gq g.length gk),(14,iv top),(15,iv bottom),(16,iv n),(17,ag (C7 s))] ?_))
 have y:=E9 hR;clear hR;obtain ⟨d,b,hR⟩:=y
 refine zc rfl (C1h b a) fun ⟨⟨⟨z,l⟩,i⟩,⟨⟨v,m,u⟩,f⟩⟩=>?_
 try dsimp only at i
 obtain ⟨e,h⟩:=i
 obtain ⟨c,o,p⟩:=f
 have:=VOk.le e
 have:=VOk.cap e
 have:=h.1
 have:=c.1
 refine pp3 6 10 11 12 rfl ?_
 subst hR
 refine ie (A6 ?_)
 exact zer hr hD (A4s rfl (A4 rfl) (A4 rfl) (A4 rfl)) (⟨(z,l),⟨e,h⟩⟩,⟨(v,m,u),⟨c,okl,okl⟩⟩) sb_ fo_
def A4n (l:List (Rwc Cel)) (n:Int) (a:List (Rwc Cel)):List (Rwc Cel)×List (Rwc Cel) :=
 ((l.take ((n).toNat)),((l.drop ((n).toNat))++a))
theorem A5o {g:List (Rwc Cel)} {top bottom n:Int} {s:Sty} (a:g.length≤40) (h:(0≤top∧top≤bottom)∧bottom<(g.length:Int)∧1≤n) :
  (0≤top∧top≤(g.length:Int))∧g.length≤100∧(A4n ((g.drop top.toNat).take (bottom.toNat+1 - top.toNat)) (if (((g.drop top.toNat).take (bottom.toNat+1 - top.toNat)).length:Int)<n then (((g.drop top.toNat).take (bottom.toNat+1 - top.toNat)).length:Int) else n) (L7 (M5 g) (if (((g.drop top.toNat).take (bottom.toNat+1 - top.toNat)).length:Int)<n then (((g.drop top.toNat).take (bottom.toNat+1 - top.toNat)).length:Int) else n) s)).2.length≤100:=by
 refine ⟨by omega,by omega,?_⟩
 unfold A4n
 simp only [List.length_append,List.length_take,List.length_drop,B0s]
 split<;>omega
set_option maxRecDepth 100000 in
theorem A6c {l:List (Rwc Cel)} {n:Int} {blank:List (Rwc Cel)} {lq:Option Addr} {lrs:List Rwq} {lk:Nat} {b:Option Addr} {a:List Rwq} {blankk:Nat} {R:List (Rwc Cel)×List (Rwc Cel)} (hR:A4n l n blank=R) (e:B4 lrs l:=by exact om_) (w:l.length≤9223372036854775807:=by exact om_) (a0:l.length≤lk:=by exact om_) (d:B4 a blank:=by exact om_) (r:blank.length≤9223372036854775807:=by exact om_) (p:blank.length≤blankk:=by exact om_) (y:(0≤n∧n≤(l.length:Int))∧l.length≤100∧blank.length≤100:=by exact om_):Con Tryz.prog 241 [.slice lq l.length lk,iv n,.slice b blank.length blankk] [] [sl B5 lq lrs,B7 B1 lrs l,sl B5 b a,B7 B1 a blank] ({t:Option Addr×List Rwq×Nat // B4 t.2.1 R.1∧R.1.length≤t.2.2∧R.1.length≤9223372036854775807}×{t:VR×List Rwq // VOk 2 R.2.length t.1∧B4 t.2 R.2}) (fun x=>.tuple #[.slice x.1.1.1 R.1.length x.1.1.2.2,.slice (va x.2.1.1.q) R.2.length x.2.1.1.k]) (fun x=>((vo B5 72 x.2.1.1 x.2.1.2)++([]))) (fun x=>[sl B5 x.1.1.1 x.1.1.2.1,B7 B1 x.1.1.2.1 R.1,B7 B1 x.2.1.2 R.2]):=by
 refine zce Tryz.func241 fun X hX hr hD=>?_
 replace hR:=(A4n.eq_1 ..).symm.trans hR
 have:=e.1
 have:=d.1
 refine sR_ rfl (pp0 2 rfl ?_)
 refine ie (A0p (C5o (D4 0 rfl) ((n).toNat)) ?_)
 refine A0p (B3m (D4 2 rfl) ((n).toNat)) ?_
 have j:B4 (lrs.take ((n).toNat)) (l.take ((n).toNat)):=(B4.take e ((n).toNat))
 have:=j.1
 refine A0p (B5m (c:=B5) (sz:=2) (xs:=lrs) (D4 2 rfl) ((n).toNat) lk (fun _=>rfl) opx opx) ?_
 refine A0p (B6u (D4 4 rfl) ((n).toNat)) ?_
 have g:B4 (lrs.drop ((n).toNat)) (l.drop ((n).toNat)):=(B4.drop e ((n).toNat))
 have:=g.1
 refine sh 12 [] [B7 B1 (lrs.drop ((n).toNat)) (l.drop ((n).toNat)),sl B5 (A1i lq ((n).toNat) 2 lk) (lrs.drop ((n).toNat)),B7 B1 (lrs.take ((n).toNat)) (l.take ((n).toNat)),sl B5 lq (lrs.take ((n).toNat)),sl B5 lq lrs,B7 B1 lrs l,sl B5 b a,B7 B1 a blank] [] (zml 12 0) oki rfl oki oki oki sb_ A5.refl ?_
 refine zhp [0,1,2,4,5,7] 6 (zml 12 183) [(8,.slice lq l.length lk),(9,iv n),(10,iv n),(12,.slice lq l.length lk),(13,iv n),(15,.slice b blank.length blankk)] ?_
 refine zhk 3 (zml 12 191) rfl (A9a (n':=(l.take ((n).toNat)).length) A1s rfl rfl ((n).toNat) ((n).toNat) (P2 rfl opx) (P2 rfl opx) opx opx ofx rfl) ?_
 have:=@List.length_take _ ((n).toNat) lrs
 refine zhk 6 (zml 12 255) rfl (A2g (n':=(l.drop ((n).toNat)).length) A1s rfl rfl ((n).toNat) l.length lk (P2 rfl opx) Q9 Q9 opx opx opx ofx rfl) ?_
 have:=@List.length_drop _ ((n).toNat) lrs
 refine zho 8 [] (zml 12 511) rfl (G2 (c:=E4) (xs:=([⟨(A1i lq ((n).toNat) 2 lk),(l.drop ((n).toNat)).length,(lk - ((n).toNat))⟩,⟨b,blank.length,blankk⟩]:List Slc)) B9d rfl rfl rfl oki) (fun v=>sb_) (fun v=>fo_) fun v=>?_
 have h:E3 ([⟨(A1i lq ((n).toNat) 2 lk),(l.drop ((n).toNat)).length,(lk - ((n).toNat))⟩,⟨b,blank.length,blankk⟩]:List Slc) ([(lrs.drop ((n).toNat)),a]:List (List Rwq)):=(E3.cons ⟨ooy,okl,okl⟩ (E3.cons ⟨ooy,okl,okl⟩ E3.none))
 refine A8u (q:=D3 B5 ([⟨(A1i lq ((n).toNat) 2 lk),(l.drop ((n).toNat)).length,(lk - ((n).toNat))⟩,⟨b,blank.length,blankk⟩]:List Slc) ([(lrs.drop ((n).toNat)),a]:List (List Rwq))) (A4p (D4 2 rfl) (A4p (D4 7 rfl) U2)) ?_
 have:([⟨(A1i lq ((n).toNat) 2 lk),(l.drop ((n).toNat)).length,(lk - ((n).toNat))⟩,⟨b,blank.length,blankk⟩]:List Slc).length=2:=rfl
 have m:B4 ((lrs.drop ((n).toNat))++a) ((l.drop ((n).toNat))++blank):=(B4.append g d)
 refine zho 9 [] (zml 12 1023) rfl (I0 (L2:=[]) (Con.vcast (Con.addf (W0 (R:=((lrs.drop ((n).toNat))++a)) oir h om_ om_ om_ (by intro i u;simp only [List.length_cons,List.length_nil] at u;match i,u with|0,_=>(simp only [List.getD_cons_zero,List.length_take,List.length_drop];omega)|1,_=>(simp only [List.getD_cons_zero,List.getD_cons_succ,List.length_take,List.length_drop];omega)|2,_=>(simp only [List.getD_cons_zero,List.getD_cons_succ,List.length_take,List.length_drop];omega))) [B7 B1 (lrs.drop ((n).toNat)) (l.drop ((n).toNat)),B7 B1 a blank] (B7 B1 ((lrs.drop ((n).toNat))++a) ((l.drop ((n).toNat))++blank)) (A8y g.1 (D4 0 rfl) (D4 1 rfl))) (fun x=>congrArg (fun z:Nat=>Value.slice (va x.1.q) z x.1.k) m.1)) rfl rfl rfl rfl rfl fo_ (List.Perm.refl _) (fun ⟨o,f⟩=>((vo B5 72 o ((lrs.drop ((n).toNat))++a))++([]))) (fun _=>by first|rfl|simp only [List.append_nil,List.cons_append,List.nil_append,List.append_assoc])) (fun ⟨o,f⟩=>(List.nil_sublist _)) (fun ⟨o,f⟩=>fo_) fun ⟨o,f⟩=>?_
 have:=VOk.le f
 have:=VOk.cap f
 have s:=L4 ([(lrs.drop ((n).toNat)),a]:List (List Rwq));rw [(rfl:(J9 ([(lrs.drop ((n).toNat)),a]:List (List Rwq)))=_)] at s
 have:=@List.length_drop _ ((n).toNat) lrs
 have:=@List.length_append _ (lrs.drop ((n).toNat)) a
 refine zhp [10,11] 0 (zml 12 4095) [(6,.slice lq ((l.take ((n).toNat)).length) ((n).toNat)),(7,.slice (va o.q) (((l.drop ((n).toNat))++blank).length) o.k)] ?_
 refine P4 oki ?_
 subst hR
 refine A6 ?_
 exact zer hr hD (V1 rfl (A4 rfl) (A4 rfl)) (⟨(lq,(lrs.take ((n).toNat)),(n).toNat),⟨j,okl,okl⟩⟩,⟨(o,((lrs.drop ((n).toNat))++a)),⟨(VOk.cast f m.1),m⟩⟩) sb_ fo_
def A7j (g:List (Rwc Cel)) (top:Int) (bottom:Int) (n:Int) (s:Sty):List (Rwc Cel)×List (Rwc Cel)×Int :=
 (bif (!decide ((K9 g)=0)) then (([]:List (Rwc Cel)),([]:List (Rwc Cel)),(K9 g)) else (bif ((((decide (top<0))||(decide (bottom<top)))||(decide ((g.length:Int)≤bottom)))||(decide (n<0))) then (([]:List (Rwc Cel)),([]:List (Rwc Cel)),2) else (bif (!decide ((H0 s)=0)) then (([]:List (Rwc Cel)),([]:List (Rwc Cel)),(H0 s)) else (E8 (L7 (M5 g) (if (((g.drop ((top).toNat)).take (((bottom).toNat+1) - ((top).toNat))).length:Int)<n then (((g.drop ((top).toNat)).take (((bottom).toNat+1) - ((top).toNat))).length:Int) else n) s) fun (c:List (Rwc Cel))=>(E8 (A4n ((g.drop ((top).toNat)).take (((bottom).toNat+1) - ((top).toNat))) (if (((g.drop ((top).toNat)).take (((bottom).toNat+1) - ((top).toNat))).length:Int)<n then (((g.drop ((top).toNat)).take (((bottom).toNat+1) - ((top).toNat))).length:Int) else n) c) fun (b:List (Rwc Cel)×List (Rwc Cel))=>(E8 (A0r g top b.2) fun (a:List (Rwc Cel))=>(a,b.1,0)))))))
set_option maxHeartbeats 1000000 in
set_option maxRecDepth 100000 in
theorem B9l {g:List (Rwc Cel)} {top bottom n:Int} {s:Sty} {gq:Option Addr} {grs:List Rwq} {gk:Nat} {R:List (Rwc Cel)×List (Rwc Cel)×Int} (hR:A7j g top bottom n s=R) (e:B4 grs g:=by exact om_) (d6:g.length≤9223372036854775807:=by exact om_) (d5:g.length≤gk:=by exact om_) (d7:1≤n:=by exact om_):Con Tryz.prog 238 [.slice gq g.length gk,iv top,iv bottom,iv n,ag (C7 s),.func (.func 241) #[] #[]] [] [sl B5 gq grs,B7 B1 grs g,O9,P0] ({t:VR×List Rwq // VOk 2 R.1.length t.1∧B4 t.2 R.1}×{t:Option Addr×List Rwq×Nat // B4 t.2.1 R.2.1∧R.2.1.length≤t.2.2∧R.2.1.length≤9223372036854775807}) (fun x=>.tuple #[.slice (va x.1.1.1.q) R.1.length x.1.1.1.k,.slice x.2.1.1 R.2.1.length x.2.1.2.2,iv R.2.2]) (fun x=>((vo B5 72 x.1.1.1 x.1.1.2)++([]))) (fun x=>[B7 B1 x.1.1.2 R.1,sl B5 x.2.1.1 x.2.1.2.1,B7 B1 x.2.1.2.1 R.2.1]):=by
 refine zce Tryz.func238 fun X hX hr hD=>?_
 replace hR:=(A7j.eq_1 ..).symm.trans hR
 have:=e.1
 refine sR_ rfl (A4z 5 0 [] (fun d f=>[(7,pt d 0),(10,pt f 0)]) (fun d f=>[bx f (C7 s) 42,bx d [iv top] 3]) (fun d f=>?_))
 refine ie (A2 (sR_ rfl (pp1 1 19 rfl ?_)))
 refine zv rfl (A7i rfl e) ?_
 refine pp1 1 15 rfl ?_
 refine ie (sR_ rfl (pp1 2 22 rfl ?_))
 refine ie ?_
 refine zjn rfl hR ?_ ?_<;>clear hR<;>intro hR h3 ce
 ·refine sR_ rfl (pp3 4 12 13 14 rfl ?_)
  subst hR
  refine ie (A6 ?_)
  exact zer hr hD (A4s rfl (A4 rfl) (A4 rfl) (A4 rfl)) (⟨(VR.nil,([]:List Rwq)),⟨VOk.nil,B4.none⟩⟩,⟨(none,[],0),⟨B4.none,okl,okl⟩⟩) sb_ fo_
 have d4:=A3b (by first|assumption|exact ce|simpa using h3)
 refine A3 (nx (A2 (sR_ rfl (pl1 3 [1] 26 rfl ?_))))
 refine zir 4 10 26 30 (decide (bottom<top)) (fun g4 d3=>?_) ?_
 ·refine pl1 4 [1] 30 rfl ?_
  exact zai 2 26 30 g4
 refine pp1 1 31 rfl ?_
 refine zio 5 4 31 36 (decide ((g.length:Int)≤bottom)) (fun g5=>?_) ?_
 ·have cy:=bq_ g5
  refine pp1 5 36 rfl ?_
  exact zai 2 31 36 g5
 refine pp1 1 37 rfl ?_
 refine zio 3 0 37 40 (decide (n<0)) (fun g6=>?_) ?_
 ·have d2:=bq_ g6
  refine pp1 3 40 rfl ?_
  exact zai 2 37 40 g6
 refine ie ?_
 refine zjb rfl hR ?_ ?_<;>clear hR<;>intro hR h7
 ·have cg:=bq_ h7
  refine sR_ rfl (pp3 3 12 13 14 rfl ?_)
  subst hR
  refine ie (A6 ?_)
  exact zer hr hD (A4s rfl (A4 rfl) (A4 rfl) (A4 rfl)) (⟨(VR.nil,([]:List Rwq)),⟨VOk.nil,B4.none⟩⟩,⟨(none,[],0),⟨B4.none,okl,okl⟩⟩) sb_ fo_
 have cg:=bq_ h7
 have cz:=C4f (g:=g) (top:=top) (bottom:=bottom) (n:=n) opx opx
 refine A3 (nx (A2 (sR_ rfl (zrl 1 2 [0] [(41,ag (C7 s))] ?_))))
 refine zv rfl (V9 rfl) ?_
 refine pp1 1 16 rfl ?_
 refine ie (sR_ rfl (pp1 2 44 rfl ?_))
 refine ie ?_
 refine zjn rfl hR ?_ ?_<;>clear hR<;>intro hR h8 d0
 ·refine sR_ rfl (pp3 4 12 13 14 rfl ?_)
  subst hR
  refine ie (A6 ?_)
  exact zer hr hD (A4s rfl (A4 rfl) (A4 rfl) (A4 rfl)) (⟨(VR.nil,([]:List Rwq)),⟨VOk.nil,B4.none⟩⟩,⟨(none,[],0),⟨B4.none,okl,okl⟩⟩) sb_ fo_
 refine A3 (nx (sR_ rfl (pl3 3 [1] 46 47 48 rfl ?_)))
 refine ix rfl (A9 rfl rfl rfl rfl opx) ?_
 refine pp1 1 50 rfl ?_
 refine ix rfl (A9 rfl rfl rfl rfl opx) ?_
 refine M8 (C3q (c:=B5) (sz:=2) (xs:=grs) (D4 0 rfl) ((top).toNat) ((bottom).toNat+1) ((bottom).toNat+1) (fun _=>rfl) rfl opx opx) ?_
 refine M8 (B3m (B6u (D4 2 rfl) ((top).toNat)) (((bottom).toNat+1) - ((top).toNat))) ?_
 have ao:B4 ((grs.drop ((top).toNat)).take (((bottom).toNat+1) - ((top).toNat))) ((g.drop ((top).toNat)).take (((bottom).toNat+1) - ((top).toNat))):=(B4.take (B4.drop e ((top).toNat)) (((bottom).toNat+1) - ((top).toNat)))
 have:=ao.1
 refine ix rfl (A2g (n':=((g.drop ((top).toNat)).take (((bottom).toNat+1) - ((top).toNat))).length) A1s rfl rfl ((top).toNat) ((bottom).toNat+1) ((bottom).toNat+1) (P2 rfl opx) (P2 rfl opx) (P2 rfl opx) opx opx opx ofx rfl) ?_
 have:=@List.length_drop _ ((top).toNat) grs
 have:=@List.length_take _ (((bottom).toNat+1) - ((top).toNat)) (grs.drop ((top).toNat))
 refine pp1 1 17 rfl ?_
 refine ie (sR_ rfl (pp1 5 3 rfl ?_))
 have:=C8a n (((g.drop ((top).toNat)).take (((bottom).toNat+1) - ((top).toNat))).length:Int)
 refine ie ?_
 have hQ:=E9 hR;clear hR;obtain ⟨cc,b,hR⟩:=hQ
 have hQ:=E9 hR;clear hR;obtain ⟨a,h,hR⟩:=hQ
 refine sh 15 [(15,[bx f (C7 s) 42]),(15,[bx d [iv top] 3])] [B7 B1 ((grs.drop ((top).toNat)).take (((bottom).toNat+1) - ((top).toNat))) ((g.drop ((top).toNat)).take (((bottom).toNat+1) - ((top).toNat))),sl B5 (A1i gq ((top).toNat) 2 ((bottom).toNat+1)) ((grs.drop ((top).toNat)).take (((bottom).toNat+1) - ((top).toNat))),sl B5 gq grs,B7 B1 grs g,O9,P0] [bx f (C7 s) 42,bx d [iv top] 3] (zml 15 0) oki rfl oki oki oki sb_ A5.refl ?_
 refine zhp [0,1,2,3,5] 10 (zml 15 47) [(58,.func (.func 241) #[] #[]),(59,.slice (A1i gq ((top).toNat) 2 ((bottom).toNat+1)) (((g.drop ((top).toNat)).take (((bottom).toNat+1) - ((top).toNat))).length) (((bottom).toNat+1) - ((top).toNat))),(60,iv (if (((g.drop ((top).toNat)).take (((bottom).toNat+1) - ((top).toNat))).length:Int)<n then (((g.drop ((top).toNat)).take (((bottom).toNat+1) - ((top).toNat))).length:Int) else n)),(61,.slice gq g.length gk),(63,iv (if (((g.drop ((top).toNat)).take (((bottom).toNat+1) - ((top).toNat))).length:Int)<n then (((g.drop ((top).toNat)).take (((bottom).toNat+1) - ((top).toNat))).length:Int) else n))] ?_
 refine zhl 6 [bx f (C7 s) 42,bx d [iv top] 3] (zml 15 111) rfl (E5 (us:=C7 s) C6j rfl rfl 0 rfl rfl rfl) ?_
 refine Z1 4 12 oki ?_ ?_
 ·refine A2l 4 [bx f (C7 s) 42,bx d [iv top] 3] (zml 15 127) rfl rfl rfl oki oki oki (Det.tri (P3 (A3i rfl e) rfl rfl rfl rfl rfl fo_)) (fun _=>sb_) (fun _=>A5.refl) fun _=>?_
  refine Z1 7 12 oki ?_ ?_
  ·refine A2l 7 [bx f (C7 s) 42,bx d [iv top] 3] (zml 15 255) rfl rfl rfl oki oki oki (I4 (L2:=[bx f (C7 s) 42,bx d [iv top] 3]) (V6 b) rfl rfl rfl rfl rfl A5.nil (List.Perm.refl _) (fun ⟨⟨r9,a1⟩,ad⟩=>(bx f (C7 s) 42::bx d [iv top] 3::((vo B5 72 r9 a1)++([])))) (fun ⟨⟨r9,a1⟩,ad⟩=>J5 [vo B5 72 r9 a1,[bx f (C7 s) 42],[bx d [iv top] 3]] [1,2,0] 3 rfl ozw opl [[bx f (C7 s) 42],[bx d [iv top] 3],vo B5 72 r9 a1] rfl opl)) (fun ⟨⟨r9,a1⟩,ad⟩=>sb_) (fun ⟨⟨r9,a1⟩,ad⟩=>fo_) fun ⟨⟨r9,a1⟩,ad⟩=>?_
   try dsimp only at ad
   obtain ⟨ah,b3⟩:=ad
   have:=VOk.le ah
   have:=VOk.cap ah
   have:=b3.1
   have:=VOk.cap ah
   have:=VOk.le ah
   refine A7u [bx f (C7 s) 42,bx d [iv top] 3] [] (T:=72) (c:=B5) (r:=r9) (xs:=a1) (VOk.cast ah (by rw [b3.1])) oll [bx f (C7 s) 42,bx d [iv top] 3] rfl sb_ ?_
   refine Z1 8 12 oki ?_ ?_
   ·refine A2l 8 [bx f (C7 s) 42,bx d [iv top] 3] (zml 15 511) rfl rfl rfl oki oki oki (I4 (L2:=[bx f (C7 s) 42,bx d [iv top] 3]) (A6c h ao om_ om_ b3 om_ om_ (by (rw [← b];exact A3j (g:=g) (top:=top) (bottom:=bottom) (n:=n) opx opx))) rfl rfl rfl rfl rfl fo_ (List.Perm.refl _) (fun ⟨⟨⟨az,au,b0⟩,ay⟩,⟨⟨j,w⟩,a9⟩⟩=>(bx f (C7 s) 42::bx d [iv top] 3::((vo B5 72 j w)++([])))) (fun ⟨⟨⟨az,au,b0⟩,ay⟩,⟨⟨j,w⟩,a9⟩⟩=>J5 [vo B5 72 j w,[bx f (C7 s) 42],[bx d [iv top] 3]] [1,2,0] 3 rfl ozw opl [[bx f (C7 s) 42],[bx d [iv top] 3],vo B5 72 j w] rfl opl)) (fun ⟨⟨⟨az,au,b0⟩,ay⟩,⟨⟨j,w⟩,a9⟩⟩=>sb_) (fun ⟨⟨⟨az,au,b0⟩,ay⟩,⟨⟨j,w⟩,a9⟩⟩=>fo_) fun ⟨⟨⟨az,au,b0⟩,ay⟩,⟨⟨j,w⟩,a9⟩⟩=>?_
    obtain ⟨bz,cu,cn⟩:=ay
    try dsimp only at a9
    obtain ⟨aw,bi⟩:=a9
    have:=VOk.le aw
    have:=VOk.cap aw
    have:=bz.1
    have:=bi.1
    refine zhp [9,10,11] 3 (zml 15 4095) [(67,.slice az a.1.length b0),(68,.slice (va j.q) a.2.length j.k)] ?_
    refine zho 12 [bx f (C7 s) 42,bx d [iv top] 3] (zml 15 8191) rfl (I7 (cs:=[.slice none 0 0]) A9d rfl) (fun b8=>sb_) (fun b8=>fo_) fun b8=>?_
    refine zhp [13] 1 (zml 15 16383) [(13,.slice az a.1.length b0)] ?_
    refine zho 14 [bx f (C7 s) 42,bx d [iv top] 3] (zml 15 32767) rfl (D0 (us:=[.slice (va j.q) a.2.length j.k]) (cs':=[.slice (va j.q) a.2.length j.k]) B1c rfl rfl rfl 0 rfl rfl rfl rfl rfl rfl) (fun _=>sb_) (fun _=>fo_) fun _=>?_
    refine P4 oki ?_
    refine sR_ rfl (ip' 2 5 [(69,.slice gq g.length gk),(70,.func (.func 264) #[] #[pt d 0,pt b8 0])] ?_)
    have:=VOk.cap aw
    have:=VOk.le aw
    refine U6 [bx b8 [.slice (va j.q) a.2.length j.k] 36,bx f (C7 s) 42,bx d [iv top] 3] [] (T:=72) (c:=B5) (r:=j) (xs:=w) (VOk.cast aw (by rw [bi.1])) oll ?_
    refine A2y (L':=[bx b8 [.slice (va j.q) a.2.length j.k] 36,bx f (C7 s) 42,bx d [iv top] 3]) omm ?_
    have hQ:=E9 hR;clear hR;obtain ⟨bq,a5,hR⟩:=hQ
    refine zc rfl (P8 (g:=g) (changec:=top) (changec1:=a.2) (gq:=gq) (grs:=grs) (gk:=gk) (changecb:=d) (changecb1:=b8) (changecq:=(va j.q)) (changecrs:=w) (changeck:=j.k) a5 e om_ om_ bi om_ om_ (by (rw [← h,← b];first|exact A5p (g:=g) (top:=top) (bottom:=bottom) (n:=n) opx opx|exact A5o (g:=g) (top:=top) (bottom:=bottom) (n:=n) opx opx))) fun ⟨⟨ci,ca⟩,c4⟩=>?_
    try dsimp only at c4
    obtain ⟨bj,c7⟩:=c4
    have:=VOk.le bj
    have:=VOk.cap bj
    have:=c7.1
    refine pp3 4 12 13 14 rfl ?_
    subst hR
    refine ie (A6 ?_)
    exact zer hr hD (A4s rfl (A4 rfl) (A4 rfl) (A4 rfl)) (⟨(ci,ca),⟨bj,c7⟩⟩,⟨(az,au,b0),⟨bz,okl,okl⟩⟩) sb_ fo_
   ·refine A2l 12 [bx f (C7 s) 42,bx d [iv top] 3] (zml 15 4351) rfl rfl rfl oki oki oki (I7 (cs:=[.slice none 0 0]) A9d rfl) (fun a6=>sb_) (fun a6=>fo_) fun a6=>?_
    refine zho 8 [bx f (C7 s) 42,bx d [iv top] 3] (zml 15 4607) rfl (I4 (L2:=[bx a6 [.slice none 0 0] 36,bx f (C7 s) 42,bx d [iv top] 3]) (A6c h ao om_ om_ b3 om_ om_ (by (rw [← b];exact A3j (g:=g) (top:=top) (bottom:=bottom) (n:=n) opx opx))) rfl rfl rfl rfl rfl fo_ (List.Perm.refl _) (fun ⟨⟨⟨ba,ae,b5⟩,ax⟩,⟨⟨m,y⟩,ab⟩⟩=>(bx a6 [.slice none 0 0] 36::bx f (C7 s) 42::bx d [iv top] 3::((vo B5 72 m y)++([])))) (fun ⟨⟨⟨ba,ae,b5⟩,ax⟩,⟨⟨m,y⟩,ab⟩⟩=>J5 [vo B5 72 m y,[bx a6 [.slice none 0 0] 36],[bx f (C7 s) 42],[bx d [iv top] 3]] [1,2,3,0] 4 rfl ozw opl [[bx a6 [.slice none 0 0] 36],[bx f (C7 s) 42],[bx d [iv top] 3],vo B5 72 m y] rfl opl)) (fun ⟨⟨⟨ba,ae,b5⟩,ax⟩,⟨⟨m,y⟩,ab⟩⟩=>sb_) (fun ⟨⟨⟨ba,ae,b5⟩,ax⟩,⟨⟨m,y⟩,ab⟩⟩=>fo_) fun ⟨⟨⟨ba,ae,b5⟩,ax⟩,⟨⟨m,y⟩,ab⟩⟩=>?_
    obtain ⟨bu,cr,ck⟩:=ax
    try dsimp only at ab
    obtain ⟨aj,be⟩:=ab
    have:=VOk.le aj
    have:=VOk.cap aj
    have:=bu.1
    have:=be.1
    refine zhp [9,10,11,13] 1 (zml 15 16383) [(68,.slice (va m.q) a.2.length m.k),(13,.slice ba a.1.length b5)] ?_
    refine zho 14 [bx f (C7 s) 42,bx d [iv top] 3] (zml 15 32767) rfl (D0 (us:=[.slice (va m.q) a.2.length m.k]) (cs':=[.slice (va m.q) a.2.length m.k]) B1c rfl rfl rfl 0 rfl rfl rfl rfl rfl rfl) (fun _=>sb_) (fun _=>fo_) fun _=>?_
    refine P4 oki ?_
    refine sR_ rfl (ip' 2 5 [(69,.slice gq g.length gk),(70,.func (.func 264) #[] #[pt d 0,pt a6 0])] ?_)
    have:=VOk.cap aj
    have:=VOk.le aj
    refine U6 [bx a6 [.slice (va m.q) a.2.length m.k] 36,bx f (C7 s) 42,bx d [iv top] 3] [] (T:=72) (c:=B5) (r:=m) (xs:=y) (VOk.cast aj (by rw [be.1])) oll ?_
    refine A2y (L':=[bx a6 [.slice (va m.q) a.2.length m.k] 36,bx f (C7 s) 42,bx d [iv top] 3]) omm ?_
    have hQ:=E9 hR;clear hR;obtain ⟨bn,a2,hR⟩:=hQ
    refine zc rfl (P8 (g:=g) (changec:=top) (changec1:=a.2) (gq:=gq) (grs:=grs) (gk:=gk) (changecb:=d) (changecb1:=a6) (changecq:=(va m.q)) (changecrs:=y) (changeck:=m.k) a2 e om_ om_ be om_ om_ (by (rw [← h,← b];first|exact A5p (g:=g) (top:=top) (bottom:=bottom) (n:=n) opx opx|exact A5o (g:=g) (top:=top) (bottom:=bottom) (n:=n) opx opx))) fun ⟨⟨cf,cd⟩,c5⟩=>?_
    try dsimp only at c5
    obtain ⟨bg,c8⟩:=c5
    have:=VOk.le bg
    have:=VOk.cap bg
    have:=c8.1
    refine pp3 4 12 13 14 rfl ?_
    subst hR
    refine ie (A6 ?_)
    exact zer hr hD (A4s rfl (A4 rfl) (A4 rfl) (A4 rfl)) (⟨(cf,cd),⟨bg,c8⟩⟩,⟨(ba,ae,b5),⟨bu,okl,okl⟩⟩) sb_ fo_
  ·refine A2l 12 [bx f (C7 s) 42,bx d [iv top] 3] (zml 15 4223) rfl rfl rfl oki oki oki (I7 (cs:=[.slice none 0 0]) A9d rfl) (fun o=>sb_) (fun o=>A5.refl) fun o=>?_
   refine zho 7 [bx f (C7 s) 42,bx d [iv top] 3] (zml 15 4351) rfl (I4 (L2:=[bx o [.slice none 0 0] 36,bx f (C7 s) 42,bx d [iv top] 3]) (V6 b) rfl rfl rfl rfl rfl A5.nil (List.Perm.refl _) (fun ⟨⟨ak,z⟩,aa⟩=>(bx o [.slice none 0 0] 36::bx f (C7 s) 42::bx d [iv top] 3::((vo B5 72 ak z)++([])))) (fun ⟨⟨ak,z⟩,aa⟩=>J5 [vo B5 72 ak z,[bx o [.slice none 0 0] 36],[bx f (C7 s) 42],[bx d [iv top] 3]] [1,2,3,0] 4 rfl ozw opl [[bx o [.slice none 0 0] 36],[bx f (C7 s) 42],[bx d [iv top] 3],vo B5 72 ak z] rfl opl)) (fun ⟨⟨ak,z⟩,aa⟩=>sb_) (fun ⟨⟨ak,z⟩,aa⟩=>fo_) fun ⟨⟨ak,z⟩,aa⟩=>?_
   try dsimp only at aa
   obtain ⟨av,bk⟩:=aa
   have:=VOk.le av
   have:=VOk.cap av
   have:=bk.1
   have:=VOk.cap av
   have:=VOk.le av
   refine A7u [bx o [.slice none 0 0] 36,bx f (C7 s) 42,bx d [iv top] 3] [] (T:=72) (c:=B5) (r:=ak) (xs:=z) (VOk.cast av (by rw [bk.1])) oll [bx f (C7 s) 42,bx d [iv top] 3] rfl sb_ ?_
   refine zho 8 [bx f (C7 s) 42,bx d [iv top] 3] (zml 15 4607) rfl (I4 (L2:=[bx o [.slice none 0 0] 36,bx f (C7 s) 42,bx d [iv top] 3]) (A6c h ao om_ om_ bk om_ om_ (by (rw [← b];exact A3j (g:=g) (top:=top) (bottom:=bottom) (n:=n) opx opx))) rfl rfl rfl rfl rfl fo_ (List.Perm.refl _) (fun ⟨⟨⟨b9,af,b7⟩,al⟩,⟨⟨l,v⟩,ac⟩⟩=>(bx o [.slice none 0 0] 36::bx f (C7 s) 42::bx d [iv top] 3::((vo B5 72 l v)++([])))) (fun ⟨⟨⟨b9,af,b7⟩,al⟩,⟨⟨l,v⟩,ac⟩⟩=>J5 [vo B5 72 l v,[bx o [.slice none 0 0] 36],[bx f (C7 s) 42],[bx d [iv top] 3]] [1,2,3,0] 4 rfl ozw opl [[bx o [.slice none 0 0] 36],[bx f (C7 s) 42],[bx d [iv top] 3],vo B5 72 l v] rfl opl)) (fun ⟨⟨⟨b9,af,b7⟩,al⟩,⟨⟨l,v⟩,ac⟩⟩=>sb_) (fun ⟨⟨⟨b9,af,b7⟩,al⟩,⟨⟨l,v⟩,ac⟩⟩=>fo_) fun ⟨⟨⟨b9,af,b7⟩,al⟩,⟨⟨l,v⟩,ac⟩⟩=>?_
   obtain ⟨c3,cm,co⟩:=al
   try dsimp only at ac
   obtain ⟨ar,bh⟩:=ac
   have:=VOk.le ar
   have:=VOk.cap ar
   have:=c3.1
   have:=bh.1
   refine zhp [9,10,11,13] 1 (zml 15 16383) [(68,.slice (va l.q) a.2.length l.k),(13,.slice b9 a.1.length b7)] ?_
   refine zho 14 [bx f (C7 s) 42,bx d [iv top] 3] (zml 15 32767) rfl (D0 (us:=[.slice (va l.q) a.2.length l.k]) (cs':=[.slice (va l.q) a.2.length l.k]) B1c rfl rfl rfl 0 rfl rfl rfl rfl rfl rfl) (fun _=>sb_) (fun _=>fo_) fun _=>?_
   refine P4 oki ?_
   refine sR_ rfl (ip' 2 5 [(69,.slice gq g.length gk),(70,.func (.func 264) #[] #[pt d 0,pt o 0])] ?_)
   have:=VOk.cap ar
   have:=VOk.le ar
   refine U6 [bx o [.slice (va l.q) a.2.length l.k] 36,bx f (C7 s) 42,bx d [iv top] 3] [] (T:=72) (c:=B5) (r:=l) (xs:=v) (VOk.cast ar (by rw [bh.1])) oll ?_
   refine A2y (L':=[bx o [.slice (va l.q) a.2.length l.k] 36,bx f (C7 s) 42,bx d [iv top] 3]) omm ?_
   have hQ:=E9 hR;clear hR;obtain ⟨bm,a3,hR⟩:=hQ
   refine zc rfl (P8 (g:=g) (changec:=top) (changec1:=a.2) (gq:=gq) (grs:=grs) (gk:=gk) (changecb:=d) (changecb1:=o) (changecq:=(va l.q)) (changecrs:=v) (changeck:=l.k) a3 e om_ om_ bh om_ om_ (by (rw [← h,← b];first|exact A5p (g:=g) (top:=top) (bottom:=bottom) (n:=n) opx opx|exact A5o (g:=g) (top:=top) (bottom:=bottom) (n:=n) opx opx))) fun ⟨⟨cj,c9⟩,c2⟩=>?_
   try dsimp only at c2
   obtain ⟨bo,br⟩:=c2
   have:=VOk.le bo
   have:=VOk.cap bo
   have:=br.1
   refine pp3 4 12 13 14 rfl ?_
   subst hR
   refine ie (A6 ?_)
   exact zer hr hD (A4s rfl (A4 rfl) (A4 rfl) (A4 rfl)) (⟨(cj,c9),⟨bo,br⟩⟩,⟨(b9,af,b7),⟨c3,okl,okl⟩⟩) sb_ fo_
 ·refine A2l 12 [bx f (C7 s) 42,bx d [iv top] 3] (zml 15 4207) rfl rfl rfl oki oki oki (I7 (cs:=[.slice none 0 0]) A9d rfl) (fun p=>sb_) (fun p=>A5.refl) fun p=>?_
  refine zho 4 [bx f (C7 s) 42,bx d [iv top] 3] (zml 15 4223) rfl (Det.tri (P3 (A3i rfl e) rfl rfl rfl rfl rfl fo_)) (fun _=>sb_) (fun _=>A5.refl) fun _=>?_
  refine zho 7 [bx f (C7 s) 42,bx d [iv top] 3] (zml 15 4351) rfl (I4 (L2:=[bx p [.slice none 0 0] 36,bx f (C7 s) 42,bx d [iv top] 3]) (V6 b) rfl rfl rfl rfl rfl A5.nil (List.Perm.refl _) (fun ⟨⟨an,a0⟩,a8⟩=>(bx p [.slice none 0 0] 36::bx f (C7 s) 42::bx d [iv top] 3::((vo B5 72 an a0)++([])))) (fun ⟨⟨an,a0⟩,a8⟩=>J5 [vo B5 72 an a0,[bx p [.slice none 0 0] 36],[bx f (C7 s) 42],[bx d [iv top] 3]] [1,2,3,0] 4 rfl ozw opl [[bx p [.slice none 0 0] 36],[bx f (C7 s) 42],[bx d [iv top] 3],vo B5 72 an a0] rfl opl)) (fun ⟨⟨an,a0⟩,a8⟩=>sb_) (fun ⟨⟨an,a0⟩,a8⟩=>fo_) fun ⟨⟨an,a0⟩,a8⟩=>?_
  try dsimp only at a8
  obtain ⟨aq,bl⟩:=a8
  have:=VOk.le aq
  have:=VOk.cap aq
  have:=bl.1
  have:=VOk.cap aq
  have:=VOk.le aq
  refine A7u [bx p [.slice none 0 0] 36,bx f (C7 s) 42,bx d [iv top] 3] [] (T:=72) (c:=B5) (r:=an) (xs:=a0) (VOk.cast aq (by rw [bl.1])) oll [bx f (C7 s) 42,bx d [iv top] 3] rfl sb_ ?_
  refine zho 8 [bx f (C7 s) 42,bx d [iv top] 3] (zml 15 4607) rfl (I4 (L2:=[bx p [.slice none 0 0] 36,bx f (C7 s) 42,bx d [iv top] 3]) (A6c h ao om_ om_ bl om_ om_ (by (rw [← b];exact A3j (g:=g) (top:=top) (bottom:=bottom) (n:=n) opx opx))) rfl rfl rfl rfl rfl fo_ (List.Perm.refl _) (fun ⟨⟨⟨b4,ap,b6⟩,ai⟩,⟨⟨i,u⟩,a7⟩⟩=>(bx p [.slice none 0 0] 36::bx f (C7 s) 42::bx d [iv top] 3::((vo B5 72 i u)++([])))) (fun ⟨⟨⟨b4,ap,b6⟩,ai⟩,⟨⟨i,u⟩,a7⟩⟩=>J5 [vo B5 72 i u,[bx p [.slice none 0 0] 36],[bx f (C7 s) 42],[bx d [iv top] 3]] [1,2,3,0] 4 rfl ozw opl [[bx p [.slice none 0 0] 36],[bx f (C7 s) 42],[bx d [iv top] 3],vo B5 72 i u] rfl opl)) (fun ⟨⟨⟨b4,ap,b6⟩,ai⟩,⟨⟨i,u⟩,a7⟩⟩=>sb_) (fun ⟨⟨⟨b4,ap,b6⟩,ai⟩,⟨⟨i,u⟩,a7⟩⟩=>fo_) fun ⟨⟨⟨b4,ap,b6⟩,ai⟩,⟨⟨i,u⟩,a7⟩⟩=>?_
  obtain ⟨c0,cl,ct⟩:=ai
  try dsimp only at a7
  obtain ⟨am,bc⟩:=a7
  have:=VOk.le am
  have:=VOk.cap am
  have:=c0.1
  have:=bc.1
  refine zhp [9,10,11,13] 1 (zml 15 16383) [(68,.slice (va i.q) a.2.length i.k),(13,.slice b4 a.1.length b6)] ?_
  refine zho 14 [bx f (C7 s) 42,bx d [iv top] 3] (zml 15 32767) rfl (D0 (us:=[.slice (va i.q) a.2.length i.k]) (cs':=[.slice (va i.q) a.2.length i.k]) B1c rfl rfl rfl 0 rfl rfl rfl rfl rfl rfl) (fun _=>sb_) (fun _=>fo_) fun _=>?_
  refine P4 oki ?_
  refine sR_ rfl (ip' 2 5 [(69,.slice gq g.length gk),(70,.func (.func 264) #[] #[pt d 0,pt p 0])] ?_)
  have:=VOk.cap am
  have:=VOk.le am
  refine U6 [bx p [.slice (va i.q) a.2.length i.k] 36,bx f (C7 s) 42,bx d [iv top] 3] [] (T:=72) (c:=B5) (r:=i) (xs:=u) (VOk.cast am (by rw [bc.1])) oll ?_
  refine A2y (L':=[bx p [.slice (va i.q) a.2.length i.k] 36,bx f (C7 s) 42,bx d [iv top] 3]) omm ?_
  have hQ:=E9 hR;clear hR;obtain ⟨bp,a4,hR⟩:=hQ
  refine zc rfl (P8 (g:=g) (changec:=top) (changec1:=a.2) (gq:=gq) (grs:=grs) (gk:=gk) (changecb:=d) (changecb1:=p) (changecq:=(va i.q)) (changecrs:=u) (changeck:=i.k) a4 e om_ om_ bc om_ om_ (by (rw [← h,← b];first|exact A5p (g:=g) (top:=top) (bottom:=bottom) (n:=n) opx opx|exact A5o (g:=g) (top:=top) (bottom:=bottom) (n:=n) opx opx))) fun ⟨⟨ch,cb⟩,bw⟩=>?_
  try dsimp only at bw
  obtain ⟨bb,c6⟩:=bw
  have:=VOk.le bb
  have:=VOk.cap bb
  have:=c6.1
  refine pp3 4 12 13 14 rfl ?_
  subst hR
  refine ie (A6 ?_)
  exact zer hr hD (A4s rfl (A4 rfl) (A4 rfl) (A4 rfl)) (⟨(ch,cb),⟨bb,c6⟩⟩,⟨(b4,ap,b6),⟨c0,okl,okl⟩⟩) sb_ fo_
def A5z (g:List (Rwc Cel)) (top:Int) (bottom:Int) (n:Int) (s:Sty):List (Rwc Cel)×List (Rwc Cel)×Int :=
 (E8 (A7j g top bottom n s) fun (a:List (Rwc Cel)×List (Rwc Cel)×Int)=>(a.1,a.2.1,a.2.2))
set_option maxRecDepth 100000 in
theorem C6m {g:List (Rwc Cel)} {top bottom n:Int} {s:Sty} {gq:Option Addr} {grs:List Rwq} {gk:Nat} {R:List (Rwc Cel)×List (Rwc Cel)×Int} (hR:A5z g top bottom n s=R) (a:B4 grs g:=by exact om_) (r:g.length≤9223372036854775807:=by exact om_) (a0:g.length≤gk:=by exact om_) (w:1≤n:=by exact om_):Con Tryz.prog 190 [.slice gq g.length gk,iv top,iv bottom,iv n,ag (C7 s)] [] [sl B5 gq grs,B7 B1 grs g,O9,P0] ({t:VR×List Rwq // VOk 2 R.1.length t.1∧B4 t.2 R.1}×{t:Option Addr×List Rwq×Nat // B4 t.2.1 R.2.1∧R.2.1.length≤t.2.2∧R.2.1.length≤9223372036854775807}) (fun x=>.tuple #[.slice (va x.1.1.1.q) R.1.length x.1.1.1.k,.slice x.2.1.1 R.2.1.length x.2.1.2.2,iv R.2.2]) (fun x=>((vo B5 72 x.1.1.1 x.1.1.2)++([]))) (fun x=>[B7 B1 x.1.1.2 R.1,sl B5 x.2.1.1 x.2.1.2.1,B7 B1 x.2.1.2.1 R.2.1]):=by
 refine zce Tryz.func190 fun X hX hr hD=>?_
 replace hR:=(A5z.eq_1 ..).symm.trans hR
 have:=a.1
 refine sR_ rfl (J3 4 0 [] (fun j=>[(9,pt j 0)]) (fun j=>[bx j (C7 s) 42]) (fun j=>?_))
 refine ie (sR_ rfl (zrl 5 7 [0] [(13,.slice gq g.length gk),(14,iv top),(15,iv bottom),(16,iv n),(17,ag (C7 s))] ?_))
 have y:=E9 hR;clear hR;obtain ⟨c,b,hR⟩:=y
 refine zc rfl (B9l b a) fun ⟨⟨⟨z,l⟩,i⟩,⟨⟨v,m,u⟩,f⟩⟩=>?_
 try dsimp only at i
 obtain ⟨e,h⟩:=i
 obtain ⟨d,o,p⟩:=f
 have:=VOk.le e
 have:=VOk.cap e
 have:=h.1
 have:=d.1
 refine pp3 6 10 11 12 rfl ?_
 subst hR
 refine ie (A6 ?_)
 exact zer hr hD (A4s rfl (A4 rfl) (A4 rfl) (A4 rfl)) (⟨(z,l),⟨e,h⟩⟩,⟨(v,m,u),⟨d,okl,okl⟩⟩) sb_ fo_
end Go.Proofs.YtkdgfkfbljdgmaaGreatDoor
set_option linter.unusedVariables false
set_option linter.unusedSimpArgs false
set_option linter.unnecessarySimpa false
namespace Go.Proofs.YtkdgfkfbljdgmaaGreatDoor
open Go Go.Fen
theorem C0q:MapTy Tryz.prog 124 3 4 (.int .i64):=⟨by kernel_rfl,by kernel_rfl,rfl⟩
def J4 (d:Int) (c:Int) (a:Col) (b:List UInt8):Int :=
 (bif ((((!(E7 (⟨0,9999⟩:Spn) d))||(!(E7 (⟨0,9999⟩:Spn) c)))||(!(decide (a=Col.zero))))||(!(decide (b=([]:List UInt8))))) then 200 else 0)
set_option maxRecDepth 100000 in
theorem A8b {g e:Int} {c:Col} {d:List UInt8} {R:Int} (hR:J4 g e c d=R) (hs:d.length≤100000000:=by exact om_):J6 Tryz.prog 20 [ag (B8 (⟨38,g,e,c,d⟩:Act))] [] (iv R):=by
 refine zce Tryz.func20 fun X hX hr hD=>?_
 replace hR:=(J4.eq_1 ..).symm.trans hR
 refine sR_ rfl (J3 2 0 [] (fun f=>[(1,pt f 0)]) (fun f=>[bx f (B8 (⟨38,g,e,c,d⟩:Act)) 68]) (fun f=>?_))
 refine ie (sR_ rfl (pp1 1 3 rfl ?_))
 refine ie (A2 (sR_ rfl (pl1 2 [0] 7 rfl ?_)))
 refine ie (A8 (sR_ rfl (pp1 2 44 rfl ?_)))
 refine ie (P1 rfl (sR_ rfl (pp1 2 59 rfl ?_)))
 refine ie (P1 rfl (A2 (sR_ rfl (pp1 2 63 rfl ?_))))
 refine ie (P1 rfl (sR_ rfl (pp1 2 63 rfl ?_)))
 refine ie (P1 rfl (A0 2 rfl (pp1 2 63 rfl ?_)))
 refine A1 (nx (P1 rfl (sh 10 [(10,[bx f (B8 (⟨38,g,e,c,d⟩:Act)) 68])] [] [bx f (B8 (⟨38,g,e,c,d⟩:Act)) 68] (zml 10 0) oki rfl oki oki oki sb_ A5.refl ?_)))
 refine zhp [1] 9 (zml 10 2) [(10,pt f 0)] ?_
 refine zhl 2 [bx f (B8 (⟨38,g,e,c,d⟩:Act)) 68] (zml 10 6) rfl (A7 (v:=iv 38) ty3 rfl rfl 0 rfl rfl) ?_
 refine Z1 0 7 oki ?_ ?_
 ·refine A2l 0 [bx f (B8 (⟨38,g,e,c,d⟩:Act)) 68] (zml 10 7) rfl rfl rfl oki oki oki (I0 (L2:=[bx f (B8 (⟨38,g,e,c,d⟩:Act)) 68]) (R8 rfl) rfl rfl rfl rfl rfl A5.nil (List.Perm.refl _) (fun s=>[(s,.map (B9 C0h 0).toArray 41),bx f (B8 (⟨38,g,e,c,d⟩:Act)) 68]) (fun _=>rfl)) (fun s=>sb_) (fun s=>A5.nil) fun s=>?_
  refine Z1 3 7 oki ?_ ?_
  ·refine A2l 3 [bx f (B8 (⟨38,g,e,c,d⟩:Act)) 68] (zml 10 15) rfl rfl rfl oki oki oki (Det.tri (H9.det (O7 (v:=ag [.func (.func 107) #[ag (B6 (⟨0,9999⟩:Spn))] #[],.func (.func 107) #[ag (B6 (⟨0,9999⟩:Spn))] #[]]) (j:=7) H1 rfl rfl rfl 0 rfl oki))) (fun _=>sb_) (fun _=>A5.nil) fun _=>?_
   refine zhp [4,5,6] 3 (zml 10 127) [(13,ag [.func (.func 107) #[ag (B6 (⟨0,9999⟩:Spn))] #[],.func (.func 107) #[ag (B6 (⟨0,9999⟩:Spn))] #[]]),(14,bv true)] ?_
   refine zho 7 [bx f (B8 (⟨38,g,e,c,d⟩:Act)) 68] (zml 10 255) rfl (I7 (cs:=[.nilFunc,.nilFunc]) A4j rfl) (fun b3=>sb_) (fun b3=>A5.nil) fun b3=>?_
   refine zho 8 [bx f (B8 (⟨38,g,e,c,d⟩:Act)) 68] (zml 10 511) rfl (D0 (us:=[.func (.func 107) #[ag (B6 (⟨0,9999⟩:Spn))] #[],.func (.func 107) #[ag (B6 (⟨0,9999⟩:Spn))] #[]]) (cs':=[.func (.func 107) #[ag (B6 (⟨0,9999⟩:Spn))] #[],.func (.func 107) #[ag (B6 (⟨0,9999⟩:Spn))] #[]]) B2n rfl rfl rfl 0 rfl rfl rfl rfl rfl rfl) (fun _=>sb_) (fun _=>A5.nil) fun _=>?_
   refine zhp [9] 0 (zml 10 1023) [(5,bv true)] ?_
   refine P4 oki ?_
   refine sR_ rfl (zrl 6 23 [0] [(17,bv false),(19,.func (.func 107) #[ag (B6 (⟨0,9999⟩:Spn))] #[]),(20,pt f 1)] ?_)
   refine ix rfl (A7 (v:=iv g) ty3 rfl rfl 2 rfl rfl) ?_
   refine zv rfl (F0 rfl) ?_
   refine pp1 3 25 rfl ?_
   refine zio 7 11 25 32 (!(E7 (⟨0,9999⟩:Spn) e)) (fun g4=>?_) ?_
   ·refine zrl 3 4 [0] [(27,.func (.func 107) #[ag (B6 (⟨0,9999⟩:Spn))] #[]),(28,pt f 2)] ?_
    refine ix rfl (A7 (v:=iv e) ty3 rfl rfl 2 rfl rfl) ?_
    refine zv rfl (F0 rfl) ?_
    refine pp1 2 32 rfl ?_
    exact A1 (J0 6 25 32 g4 A5.nil sb_ rfl rfl rfl rfl rfl)
   refine pp1 1 33 rfl ?_
   refine zio 5 5 33 38 (!(decide (c=Col.zero))) (fun g5=>?_) ?_
   ·have a6:=bq_ g5
    refine pp1 1 34 rfl ?_
    refine ix rfl (E5 (us:=S2 c) B4t rfl rfl 2 rfl rfl rfl) ?_
    refine zrl 1 2 [] [(36,ag (S2 Col.zero))] ?_
    refine ix rfl (W4 (a:=c) (b:=Col.zero) B2c rfl rfl rfl) ?_
    refine pp1 1 38 rfl ?_
    exact A1 (J0 6 33 38 g5 A5.nil sb_ rfl rfl rfl rfl rfl)
   refine pp1 1 39 rfl ?_
   refine zio 4 0 39 43 (!(decide (d=([]:List UInt8)))) (fun g6=>?_) ?_
   ·have a7:=bq_ g6
    refine pp1 1 40 rfl ?_
    refine ix rfl (A7 (v:=sv d) ty9 rfl rfl 2 rfl rfl) ?_
    refine ix rfl (A1e rfl rfl rfl) ?_
    refine pp1 1 43 rfl ?_
    exact A1 (J0 5 39 43 g6 A5.nil sb_ rfl rfl rfl rfl rfl)
   refine ie ?_
   refine zjb rfl hR ?_ ?_<;>clear hR<;>intro hR h7
   ·have u:=bq_ h7
    refine A0 1 rfl (pp1 1 3 rfl ?_)
    refine A1 (nx (A2 (sR_ rfl (pp1 2 73 rfl ?_))))
    refine ie (G1 rfl (sR_ rfl (pp1 1 2 rfl ?_)))
    subst hR
    refine ie (A6 ?_)
    exact E2 hr hD
   have u:=bq_ h7
   refine A3 (nx (A2 (sR_ rfl (pp1 2 73 rfl ?_))))
   refine ie (P1 rfl (A3 (nx (sR_ rfl (pp1 1 2 rfl ?_)))))
   subst hR
   refine ie (A6 ?_)
   exact E2 hr hD
  ·refine A2l 7 [bx f (B8 (⟨38,g,e,c,d⟩:Act)) 68] (zml 10 135) rfl rfl rfl oki oki oki (I7 (cs:=[.nilFunc,.nilFunc]) A4j rfl) (fun w=>sb_) (fun w=>A5.nil) fun w=>?_
   refine zho 3 [bx f (B8 (⟨38,g,e,c,d⟩:Act)) 68] (zml 10 143) rfl (Det.tri (H9.det (O7 (v:=ag [.func (.func 107) #[ag (B6 (⟨0,9999⟩:Spn))] #[],.func (.func 107) #[ag (B6 (⟨0,9999⟩:Spn))] #[]]) (j:=7) H1 rfl rfl rfl 1 rfl oki))) (fun _=>sb_) (fun _=>A5.nil) fun _=>?_
   refine zhp [4,5,6] 2 (zml 10 255) [(13,ag [.func (.func 107) #[ag (B6 (⟨0,9999⟩:Spn))] #[],.func (.func 107) #[ag (B6 (⟨0,9999⟩:Spn))] #[]]),(14,bv true)] ?_
   refine zho 8 [bx f (B8 (⟨38,g,e,c,d⟩:Act)) 68] (zml 10 511) rfl (D0 (us:=[.func (.func 107) #[ag (B6 (⟨0,9999⟩:Spn))] #[],.func (.func 107) #[ag (B6 (⟨0,9999⟩:Spn))] #[]]) (cs':=[.func (.func 107) #[ag (B6 (⟨0,9999⟩:Spn))] #[],.func (.func 107) #[ag (B6 (⟨0,9999⟩:Spn))] #[]]) B2n rfl rfl rfl 0 rfl rfl rfl rfl rfl rfl) (fun _=>sb_) (fun _=>A5.nil) fun _=>?_
   refine zhp [9] 0 (zml 10 1023) [(5,bv true)] ?_
   refine P4 oki ?_
   refine sR_ rfl (zrl 6 23 [0] [(17,bv false),(19,.func (.func 107) #[ag (B6 (⟨0,9999⟩:Spn))] #[]),(20,pt f 1)] ?_)
   refine ix rfl (A7 (v:=iv g) ty3 rfl rfl 2 rfl rfl) ?_
   refine zv rfl (F0 rfl) ?_
   refine pp1 3 25 rfl ?_
   refine zio 7 11 25 32 (!(E7 (⟨0,9999⟩:Spn) e)) (fun g9=>?_) ?_
   ·refine zrl 3 4 [0] [(27,.func (.func 107) #[ag (B6 (⟨0,9999⟩:Spn))] #[]),(28,pt f 2)] ?_
    refine ix rfl (A7 (v:=iv e) ty3 rfl rfl 2 rfl rfl) ?_
    refine zv rfl (F0 rfl) ?_
    refine pp1 2 32 rfl ?_
    exact A1 (J0 6 25 32 g9 A5.nil sb_ rfl rfl rfl rfl rfl)
   refine pp1 1 33 rfl ?_
   refine zio 5 5 33 38 (!(decide (c=Col.zero))) (fun n=>?_) ?_
   ·have y:=bq_ n
    refine pp1 1 34 rfl ?_
    refine ix rfl (E5 (us:=S2 c) B4t rfl rfl 2 rfl rfl rfl) ?_
    refine zrl 1 2 [] [(36,ag (S2 Col.zero))] ?_
    refine ix rfl (W4 (a:=c) (b:=Col.zero) B2c rfl rfl rfl) ?_
    refine pp1 1 38 rfl ?_
    exact A1 (J0 6 33 38 n A5.nil sb_ rfl rfl rfl rfl rfl)
   refine pp1 1 39 rfl ?_
   refine zio 4 0 39 43 (!(decide (d=([]:List UInt8)))) (fun o=>?_) ?_
   ·have a4:=bq_ o
    refine pp1 1 40 rfl ?_
    refine ix rfl (A7 (v:=sv d) ty9 rfl rfl 2 rfl rfl) ?_
    refine ix rfl (A1e rfl rfl rfl) ?_
    refine pp1 1 43 rfl ?_
    exact A1 (J0 5 39 43 o A5.nil sb_ rfl rfl rfl rfl rfl)
   refine ie ?_
   refine zjb rfl hR ?_ ?_<;>clear hR<;>intro hR l
   ·have k:=bq_ l
    refine A0 1 rfl (pp1 1 3 rfl ?_)
    refine A1 (nx (A2 (sR_ rfl (pp1 2 73 rfl ?_))))
    refine ie (G1 rfl (sR_ rfl (pp1 1 2 rfl ?_)))
    subst hR
    refine ie (A6 ?_)
    exact E2 hr hD
   have k:=bq_ l
   refine A3 (nx (A2 (sR_ rfl (pp1 2 73 rfl ?_))))
   refine ie (P1 rfl (A3 (nx (sR_ rfl (pp1 1 2 rfl ?_)))))
   subst hR
   refine ie (A6 ?_)
   exact E2 hr hD
 ·refine A2l 7 [bx f (B8 (⟨38,g,e,c,d⟩:Act)) 68] (zml 10 134) rfl rfl rfl oki oki oki (I7 (cs:=[.nilFunc,.nilFunc]) A4j rfl) (fun i=>sb_) (fun i=>A5.nil) fun i=>?_
  refine zho 0 [bx f (B8 (⟨38,g,e,c,d⟩:Act)) 68] (zml 10 135) rfl (I0 (L2:=[bx i [.nilFunc,.nilFunc] 119,bx f (B8 (⟨38,g,e,c,d⟩:Act)) 68]) (R8 rfl) rfl rfl rfl rfl rfl A5.nil (List.Perm.refl _) (fun h=>[(h,.map (B9 C0h 0).toArray 41),bx i [.nilFunc,.nilFunc] 119,bx f (B8 (⟨38,g,e,c,d⟩:Act)) 68]) (fun _=>rfl)) (fun h=>sb_) (fun h=>A5.nil) fun h=>?_
  refine zho 3 [bx f (B8 (⟨38,g,e,c,d⟩:Act)) 68] (zml 10 143) rfl (Det.tri (H9.det (O7 (v:=ag [.func (.func 107) #[ag (B6 (⟨0,9999⟩:Spn))] #[],.func (.func 107) #[ag (B6 (⟨0,9999⟩:Spn))] #[]]) (j:=7) H1 rfl rfl rfl 0 rfl oki))) (fun _=>sb_) (fun _=>A5.nil) fun _=>?_
  refine zhp [4,5,6] 2 (zml 10 255) [(13,ag [.func (.func 107) #[ag (B6 (⟨0,9999⟩:Spn))] #[],.func (.func 107) #[ag (B6 (⟨0,9999⟩:Spn))] #[]]),(14,bv true)] ?_
  refine zho 8 [bx f (B8 (⟨38,g,e,c,d⟩:Act)) 68] (zml 10 511) rfl (D0 (us:=[.func (.func 107) #[ag (B6 (⟨0,9999⟩:Spn))] #[],.func (.func 107) #[ag (B6 (⟨0,9999⟩:Spn))] #[]]) (cs':=[.func (.func 107) #[ag (B6 (⟨0,9999⟩:Spn))] #[],.func (.func 107) #[ag (B6 (⟨0,9999⟩:Spn))] #[]]) B2n rfl rfl rfl 1 rfl rfl rfl rfl rfl rfl) (fun _=>sb_) (fun _=>A5.nil) fun _=>?_
  refine zhp [9] 0 (zml 10 1023) [(5,bv true)] ?_
  refine P4 oki ?_
  refine sR_ rfl (pp2 4 17 18 rfl ?_)
  refine ix rfl (A7 (v:=.func (.func 107) #[ag (B6 (⟨0,9999⟩:Spn))] #[]) C6e rfl rfl 1 rfl rfl) ?_
  refine pp1 1 20 rfl ?_
  refine ix rfl (A7 (v:=iv g) ty3 rfl rfl 2 rfl rfl) ?_
  refine zv rfl (F0 rfl) ?_
  refine pp1 3 25 rfl ?_
  refine zio 7 11 25 32 (!(E7 (⟨0,9999⟩:Spn) e)) (fun t=>?_) ?_
  ·refine pp1 1 26 rfl ?_
   refine ix rfl (A7 (v:=.func (.func 107) #[ag (B6 (⟨0,9999⟩:Spn))] #[]) C6e rfl rfl 1 rfl rfl) ?_
   refine pp1 1 28 rfl ?_
   refine ix rfl (A7 (v:=iv e) ty3 rfl rfl 2 rfl rfl) ?_
   refine zv rfl (F0 rfl) ?_
   refine pp1 2 32 rfl ?_
   exact A1 (J0 7 25 32 t A5.nil sb_ rfl rfl rfl rfl rfl)
  refine pp1 1 33 rfl ?_
  refine zio 5 5 33 38 (!(decide (c=Col.zero))) (fun q=>?_) ?_
  ·have x:=bq_ q
   refine pp1 1 34 rfl ?_
   refine ix rfl (E5 (us:=S2 c) B4t rfl rfl 2 rfl rfl rfl) ?_
   refine zrl 1 2 [] [(36,ag (S2 Col.zero))] ?_
   refine ix rfl (W4 (a:=c) (b:=Col.zero) B2c rfl rfl rfl) ?_
   refine pp1 1 38 rfl ?_
   exact A1 (J0 6 33 38 q A5.nil sb_ rfl rfl rfl rfl rfl)
  refine pp1 1 39 rfl ?_
  refine zio 4 0 39 43 (!(decide (d=([]:List UInt8)))) (fun p=>?_) ?_
  ·have z:=bq_ p
   refine pp1 1 40 rfl ?_
   refine ix rfl (A7 (v:=sv d) ty9 rfl rfl 2 rfl rfl) ?_
   refine ix rfl (A1e rfl rfl rfl) ?_
   refine pp1 1 43 rfl ?_
   exact A1 (J0 5 39 43 p A5.nil sb_ rfl rfl rfl rfl rfl)
  refine ie ?_
  refine zjb rfl hR ?_ ?_<;>clear hR<;>intro hR m
  ·have r:=bq_ m
   refine A0 1 rfl (pp1 1 3 rfl ?_)
   refine A1 (nx (A2 (sR_ rfl (pp1 2 73 rfl ?_))))
   refine ie (G1 rfl (sR_ rfl (pp1 1 2 rfl ?_)))
   subst hR
   refine ie (A6 ?_)
   exact E2 hr hD
  have r:=bq_ m
  refine A3 (nx (A2 (sR_ rfl (pp1 2 73 rfl ?_))))
  refine ie (P1 rfl (A3 (nx (sR_ rfl (pp1 1 2 rfl ?_)))))
  subst hR
  refine ie (A6 ?_)
  exact E2 hr hD
def O0 (d:Int) (c:Int) (a:Col) (b:List UInt8):Int :=
 (bif ((((!(E7 (⟨0,1⟩:Spn) d))||(!(E7 (⟨1,9999⟩:Spn) c)))||(!(decide (a=Col.zero))))||(!(decide (b=([]:List UInt8))))) then 200 else 0)
set_option maxRecDepth 100000 in
theorem B5j {g e:Int} {c:Col} {d:List UInt8} {R:Int} (hR:O0 g e c d=R) (hs:d.length≤100000000:=by exact om_):J6 Tryz.prog 20 [ag (B8 (⟨33,g,e,c,d⟩:Act))] [] (iv R):=by
 refine zce Tryz.func20 fun X hX hr hD=>?_
 replace hR:=(O0.eq_1 ..).symm.trans hR
 refine sR_ rfl (J3 2 0 [] (fun f=>[(1,pt f 0)]) (fun f=>[bx f (B8 (⟨33,g,e,c,d⟩:Act)) 68]) (fun f=>?_))
 refine ie (sR_ rfl (pp1 1 3 rfl ?_))
 refine ie (A2 (sR_ rfl (pl1 2 [0] 7 rfl ?_)))
 refine ie (A8 (sR_ rfl (pp1 2 44 rfl ?_)))
 refine ie (P1 rfl (sR_ rfl (pp1 2 59 rfl ?_)))
 refine ie (P1 rfl (A2 (sR_ rfl (pp1 2 63 rfl ?_))))
 refine ie (P1 rfl (sR_ rfl (pp1 2 63 rfl ?_)))
 refine ie (P1 rfl (A0 2 rfl (pp1 2 63 rfl ?_)))
 refine A1 (nx (P1 rfl (sh 10 [(10,[bx f (B8 (⟨33,g,e,c,d⟩:Act)) 68])] [] [bx f (B8 (⟨33,g,e,c,d⟩:Act)) 68] (zml 10 0) oki rfl oki oki oki sb_ A5.refl ?_)))
 refine zhp [1] 9 (zml 10 2) [(10,pt f 0)] ?_
 refine zhl 2 [bx f (B8 (⟨33,g,e,c,d⟩:Act)) 68] (zml 10 6) rfl (A7 (v:=iv 33) ty3 rfl rfl 0 rfl rfl) ?_
 refine Z1 0 7 oki ?_ ?_
 ·refine A2l 0 [bx f (B8 (⟨33,g,e,c,d⟩:Act)) 68] (zml 10 7) rfl rfl rfl oki oki oki (I0 (L2:=[bx f (B8 (⟨33,g,e,c,d⟩:Act)) 68]) (R8 rfl) rfl rfl rfl rfl rfl A5.nil (List.Perm.refl _) (fun s=>[(s,.map (B9 C0h 0).toArray 41),bx f (B8 (⟨33,g,e,c,d⟩:Act)) 68]) (fun _=>rfl)) (fun s=>sb_) (fun s=>A5.nil) fun s=>?_
  refine Z1 3 7 oki ?_ ?_
  ·refine A2l 3 [bx f (B8 (⟨33,g,e,c,d⟩:Act)) 68] (zml 10 15) rfl rfl rfl oki oki oki (Det.tri (H9.det (O7 (v:=ag [.func (.func 107) #[ag (B6 (⟨0,1⟩:Spn))] #[],.func (.func 107) #[ag (B6 (⟨1,9999⟩:Spn))] #[]]) (j:=27) H1 rfl rfl rfl 0 rfl oki))) (fun _=>sb_) (fun _=>A5.nil) fun _=>?_
   refine zhp [4,5,6] 3 (zml 10 127) [(13,ag [.func (.func 107) #[ag (B6 (⟨0,1⟩:Spn))] #[],.func (.func 107) #[ag (B6 (⟨1,9999⟩:Spn))] #[]]),(14,bv true)] ?_
   refine zho 7 [bx f (B8 (⟨33,g,e,c,d⟩:Act)) 68] (zml 10 255) rfl (I7 (cs:=[.nilFunc,.nilFunc]) A4j rfl) (fun b3=>sb_) (fun b3=>A5.nil) fun b3=>?_
   refine zho 8 [bx f (B8 (⟨33,g,e,c,d⟩:Act)) 68] (zml 10 511) rfl (D0 (us:=[.func (.func 107) #[ag (B6 (⟨0,1⟩:Spn))] #[],.func (.func 107) #[ag (B6 (⟨1,9999⟩:Spn))] #[]]) (cs':=[.func (.func 107) #[ag (B6 (⟨0,1⟩:Spn))] #[],.func (.func 107) #[ag (B6 (⟨1,9999⟩:Spn))] #[]]) B2n rfl rfl rfl 0 rfl rfl rfl rfl rfl rfl) (fun _=>sb_) (fun _=>A5.nil) fun _=>?_
   refine zhp [9] 0 (zml 10 1023) [(5,bv true)] ?_
   refine P4 oki ?_
   refine sR_ rfl (zrl 6 23 [0] [(17,bv false),(19,.func (.func 107) #[ag (B6 (⟨0,1⟩:Spn))] #[]),(20,pt f 1)] ?_)
   refine ix rfl (A7 (v:=iv g) ty3 rfl rfl 2 rfl rfl) ?_
   refine zv rfl (F0 rfl) ?_
   refine pp1 3 25 rfl ?_
   refine zio 7 11 25 32 (!(E7 (⟨1,9999⟩:Spn) e)) (fun g4=>?_) ?_
   ·refine zrl 3 4 [0] [(27,.func (.func 107) #[ag (B6 (⟨1,9999⟩:Spn))] #[]),(28,pt f 2)] ?_
    refine ix rfl (A7 (v:=iv e) ty3 rfl rfl 2 rfl rfl) ?_
    refine zv rfl (F0 rfl) ?_
    refine pp1 2 32 rfl ?_
    exact A1 (J0 6 25 32 g4 A5.nil sb_ rfl rfl rfl rfl rfl)
   refine pp1 1 33 rfl ?_
   refine zio 5 5 33 38 (!(decide (c=Col.zero))) (fun g5=>?_) ?_
   ·have a6:=bq_ g5
    refine pp1 1 34 rfl ?_
    refine ix rfl (E5 (us:=S2 c) B4t rfl rfl 2 rfl rfl rfl) ?_
    refine zrl 1 2 [] [(36,ag (S2 Col.zero))] ?_
    refine ix rfl (W4 (a:=c) (b:=Col.zero) B2c rfl rfl rfl) ?_
    refine pp1 1 38 rfl ?_
    exact A1 (J0 6 33 38 g5 A5.nil sb_ rfl rfl rfl rfl rfl)
   refine pp1 1 39 rfl ?_
   refine zio 4 0 39 43 (!(decide (d=([]:List UInt8)))) (fun g6=>?_) ?_
   ·have a7:=bq_ g6
    refine pp1 1 40 rfl ?_
    refine ix rfl (A7 (v:=sv d) ty9 rfl rfl 2 rfl rfl) ?_
    refine ix rfl (A1e rfl rfl rfl) ?_
    refine pp1 1 43 rfl ?_
    exact A1 (J0 5 39 43 g6 A5.nil sb_ rfl rfl rfl rfl rfl)
   refine ie ?_
   refine zjb rfl hR ?_ ?_<;>clear hR<;>intro hR h7
   ·have u:=bq_ h7
    refine A0 1 rfl (pp1 1 3 rfl ?_)
    refine A1 (nx (A2 (sR_ rfl (pp1 2 73 rfl ?_))))
    refine ie (G1 rfl (sR_ rfl (pp1 1 2 rfl ?_)))
    subst hR
    refine ie (A6 ?_)
    exact E2 hr hD
   have u:=bq_ h7
   refine A3 (nx (A2 (sR_ rfl (pp1 2 73 rfl ?_))))
   refine ie (P1 rfl (A3 (nx (sR_ rfl (pp1 1 2 rfl ?_)))))
   subst hR
   refine ie (A6 ?_)
   exact E2 hr hD
  ·refine A2l 7 [bx f (B8 (⟨33,g,e,c,d⟩:Act)) 68] (zml 10 135) rfl rfl rfl oki oki oki (I7 (cs:=[.nilFunc,.nilFunc]) A4j rfl) (fun w=>sb_) (fun w=>A5.nil) fun w=>?_
   refine zho 3 [bx f (B8 (⟨33,g,e,c,d⟩:Act)) 68] (zml 10 143) rfl (Det.tri (H9.det (O7 (v:=ag [.func (.func 107) #[ag (B6 (⟨0,1⟩:Spn))] #[],.func (.func 107) #[ag (B6 (⟨1,9999⟩:Spn))] #[]]) (j:=27) H1 rfl rfl rfl 1 rfl oki))) (fun _=>sb_) (fun _=>A5.nil) fun _=>?_
   refine zhp [4,5,6] 2 (zml 10 255) [(13,ag [.func (.func 107) #[ag (B6 (⟨0,1⟩:Spn))] #[],.func (.func 107) #[ag (B6 (⟨1,9999⟩:Spn))] #[]]),(14,bv true)] ?_
   refine zho 8 [bx f (B8 (⟨33,g,e,c,d⟩:Act)) 68] (zml 10 511) rfl (D0 (us:=[.func (.func 107) #[ag (B6 (⟨0,1⟩:Spn))] #[],.func (.func 107) #[ag (B6 (⟨1,9999⟩:Spn))] #[]]) (cs':=[.func (.func 107) #[ag (B6 (⟨0,1⟩:Spn))] #[],.func (.func 107) #[ag (B6 (⟨1,9999⟩:Spn))] #[]]) B2n rfl rfl rfl 0 rfl rfl rfl rfl rfl rfl) (fun _=>sb_) (fun _=>A5.nil) fun _=>?_
   refine zhp [9] 0 (zml 10 1023) [(5,bv true)] ?_
   refine P4 oki ?_
   refine sR_ rfl (zrl 6 23 [0] [(17,bv false),(19,.func (.func 107) #[ag (B6 (⟨0,1⟩:Spn))] #[]),(20,pt f 1)] ?_)
   refine ix rfl (A7 (v:=iv g) ty3 rfl rfl 2 rfl rfl) ?_
   refine zv rfl (F0 rfl) ?_
   refine pp1 3 25 rfl ?_
   refine zio 7 11 25 32 (!(E7 (⟨1,9999⟩:Spn) e)) (fun g9=>?_) ?_
   ·refine zrl 3 4 [0] [(27,.func (.func 107) #[ag (B6 (⟨1,9999⟩:Spn))] #[]),(28,pt f 2)] ?_
    refine ix rfl (A7 (v:=iv e) ty3 rfl rfl 2 rfl rfl) ?_
    refine zv rfl (F0 rfl) ?_
    refine pp1 2 32 rfl ?_
    exact A1 (J0 6 25 32 g9 A5.nil sb_ rfl rfl rfl rfl rfl)
   refine pp1 1 33 rfl ?_
   refine zio 5 5 33 38 (!(decide (c=Col.zero))) (fun n=>?_) ?_
   ·have y:=bq_ n
    refine pp1 1 34 rfl ?_
    refine ix rfl (E5 (us:=S2 c) B4t rfl rfl 2 rfl rfl rfl) ?_
    refine zrl 1 2 [] [(36,ag (S2 Col.zero))] ?_
    refine ix rfl (W4 (a:=c) (b:=Col.zero) B2c rfl rfl rfl) ?_
    refine pp1 1 38 rfl ?_
    exact A1 (J0 6 33 38 n A5.nil sb_ rfl rfl rfl rfl rfl)
   refine pp1 1 39 rfl ?_
   refine zio 4 0 39 43 (!(decide (d=([]:List UInt8)))) (fun o=>?_) ?_
   ·have a4:=bq_ o
    refine pp1 1 40 rfl ?_
    refine ix rfl (A7 (v:=sv d) ty9 rfl rfl 2 rfl rfl) ?_
    refine ix rfl (A1e rfl rfl rfl) ?_
    refine pp1 1 43 rfl ?_
    exact A1 (J0 5 39 43 o A5.nil sb_ rfl rfl rfl rfl rfl)
   refine ie ?_
   refine zjb rfl hR ?_ ?_<;>clear hR<;>intro hR l
   ·have k:=bq_ l
    refine A0 1 rfl (pp1 1 3 rfl ?_)
    refine A1 (nx (A2 (sR_ rfl (pp1 2 73 rfl ?_))))
    refine ie (G1 rfl (sR_ rfl (pp1 1 2 rfl ?_)))
    subst hR
    refine ie (A6 ?_)
    exact E2 hr hD
   have k:=bq_ l
   refine A3 (nx (A2 (sR_ rfl (pp1 2 73 rfl ?_))))
   refine ie (P1 rfl (A3 (nx (sR_ rfl (pp1 1 2 rfl ?_)))))
   subst hR
   refine ie (A6 ?_)
   exact E2 hr hD
 ·refine A2l 7 [bx f (B8 (⟨33,g,e,c,d⟩:Act)) 68] (zml 10 134) rfl rfl rfl oki oki oki (I7 (cs:=[.nilFunc,.nilFunc]) A4j rfl) (fun i=>sb_) (fun i=>A5.nil) fun i=>?_
  refine zho 0 [bx f (B8 (⟨33,g,e,c,d⟩:Act)) 68] (zml 10 135) rfl (I0 (L2:=[bx i [.nilFunc,.nilFunc] 119,bx f (B8 (⟨33,g,e,c,d⟩:Act)) 68]) (R8 rfl) rfl rfl rfl rfl rfl A5.nil (List.Perm.refl _) (fun h=>[(h,.map (B9 C0h 0).toArray 41),bx i [.nilFunc,.nilFunc] 119,bx f (B8 (⟨33,g,e,c,d⟩:Act)) 68]) (fun _=>rfl)) (fun h=>sb_) (fun h=>A5.nil) fun h=>?_
  refine zho 3 [bx f (B8 (⟨33,g,e,c,d⟩:Act)) 68] (zml 10 143) rfl (Det.tri (H9.det (O7 (v:=ag [.func (.func 107) #[ag (B6 (⟨0,1⟩:Spn))] #[],.func (.func 107) #[ag (B6 (⟨1,9999⟩:Spn))] #[]]) (j:=27) H1 rfl rfl rfl 0 rfl oki))) (fun _=>sb_) (fun _=>A5.nil) fun _=>?_
  refine zhp [4,5,6] 2 (zml 10 255) [(13,ag [.func (.func 107) #[ag (B6 (⟨0,1⟩:Spn))] #[],.func (.func 107) #[ag (B6 (⟨1,9999⟩:Spn))] #[]]),(14,bv true)] ?_
  refine zho 8 [bx f (B8 (⟨33,g,e,c,d⟩:Act)) 68] (zml 10 511) rfl (D0 (us:=[.func (.func 107) #[ag (B6 (⟨0,1⟩:Spn))] #[],.func (.func 107) #[ag (B6 (⟨1,9999⟩:Spn))] #[]]) (cs':=[.func (.func 107) #[ag (B6 (⟨0,1⟩:Spn))] #[],.func (.func 107) #[ag (B6 (⟨1,9999⟩:Spn))] #[]]) B2n rfl rfl rfl 1 rfl rfl rfl rfl rfl rfl) (fun _=>sb_) (fun _=>A5.nil) fun _=>?_
  refine zhp [9] 0 (zml 10 1023) [(5,bv true)] ?_
  refine P4 oki ?_
  refine sR_ rfl (pp2 4 17 18 rfl ?_)
  refine ix rfl (A7 (v:=.func (.func 107) #[ag (B6 (⟨0,1⟩:Spn))] #[]) C6e rfl rfl 1 rfl rfl) ?_
  refine pp1 1 20 rfl ?_
  refine ix rfl (A7 (v:=iv g) ty3 rfl rfl 2 rfl rfl) ?_
  refine zv rfl (F0 rfl) ?_
  refine pp1 3 25 rfl ?_
  refine zio 7 11 25 32 (!(E7 (⟨1,9999⟩:Spn) e)) (fun t=>?_) ?_
  ·refine pp1 1 26 rfl ?_
   refine ix rfl (A7 (v:=.func (.func 107) #[ag (B6 (⟨1,9999⟩:Spn))] #[]) C6e rfl rfl 1 rfl rfl) ?_
   refine pp1 1 28 rfl ?_
   refine ix rfl (A7 (v:=iv e) ty3 rfl rfl 2 rfl rfl) ?_
   refine zv rfl (F0 rfl) ?_
   refine pp1 2 32 rfl ?_
   exact A1 (J0 7 25 32 t A5.nil sb_ rfl rfl rfl rfl rfl)
  refine pp1 1 33 rfl ?_
  refine zio 5 5 33 38 (!(decide (c=Col.zero))) (fun q=>?_) ?_
  ·have x:=bq_ q
   refine pp1 1 34 rfl ?_
   refine ix rfl (E5 (us:=S2 c) B4t rfl rfl 2 rfl rfl rfl) ?_
   refine zrl 1 2 [] [(36,ag (S2 Col.zero))] ?_
   refine ix rfl (W4 (a:=c) (b:=Col.zero) B2c rfl rfl rfl) ?_
   refine pp1 1 38 rfl ?_
   exact A1 (J0 6 33 38 q A5.nil sb_ rfl rfl rfl rfl rfl)
  refine pp1 1 39 rfl ?_
  refine zio 4 0 39 43 (!(decide (d=([]:List UInt8)))) (fun p=>?_) ?_
  ·have z:=bq_ p
   refine pp1 1 40 rfl ?_
   refine ix rfl (A7 (v:=sv d) ty9 rfl rfl 2 rfl rfl) ?_
   refine ix rfl (A1e rfl rfl rfl) ?_
   refine pp1 1 43 rfl ?_
   exact A1 (J0 5 39 43 p A5.nil sb_ rfl rfl rfl rfl rfl)
  refine ie ?_
  refine zjb rfl hR ?_ ?_<;>clear hR<;>intro hR m
  ·have r:=bq_ m
   refine A0 1 rfl (pp1 1 3 rfl ?_)
   refine A1 (nx (A2 (sR_ rfl (pp1 2 73 rfl ?_))))
   refine ie (G1 rfl (sR_ rfl (pp1 1 2 rfl ?_)))
   subst hR
   refine ie (A6 ?_)
   exact E2 hr hD
  have r:=bq_ m
  refine A3 (nx (A2 (sR_ rfl (pp1 2 73 rfl ?_))))
  refine ie (P1 rfl (A3 (nx (sR_ rfl (pp1 1 2 rfl ?_)))))
  subst hR
  refine ie (A6 ?_)
  exact E2 hr hD
def A8e:Bool :=
 false
set_option maxRecDepth 100000 in
theorem A5m {R:Bool} (hR:A8e=R):J6 Tryz.prog 22 [iv 38] [] (bv R):=by
 refine zce Tryz.func22 fun X hX hr hD=>?_
 replace hR:=(A8e.eq_1 ..).symm.trans hR
 refine sR_ rfl (pp0 1 rfl ?_)
 refine ie (sR_ rfl (pp1 7 2 rfl ?_))
 subst hR
 refine ie (A6 ?_)
 exact E2 hr hD
def O2 (d:Int) (c:Int) (a:Col) (b:List UInt8):Bool :=
 false
set_option maxRecDepth 100000 in
theorem A4a {e d:Int} {a:Col} {b:List UInt8} {R:Bool} (hR:O2 e d a b=R):J6 Tryz.prog 23 [ag (B8 (⟨38,e,d,a,b⟩:Act))] [] (bv R):=by
 refine zce Tryz.func23 fun X hX hr hD=>?_
 replace hR:=(O2.eq_1 ..).symm.trans hR
 refine sR_ rfl (J3 2 0 [] (fun c=>[(1,pt c 0)]) (fun c=>[bx c (B8 (⟨38,e,d,a,b⟩:Act)) 68]) (fun c=>?_))
 refine ie (A2 (sR_ rfl (pl1 2 [0] 5 rfl ?_)))
 refine ie (A8 (sR_ rfl (pp1 2 6 rfl ?_)))
 refine ie (P1 rfl (sR_ rfl (pp1 2 11 rfl ?_)))
 refine ie (P1 rfl (A3 (nx (sR_ rfl (it rfl (A3h rfl) fun f=>?_)))))
 refine B6n (m:=2) (mo:=26) (es':=[⟨iv 1,bv true,0⟩,⟨iv 34,bv true,1⟩,⟨iv 2,bv true,2⟩,⟨iv 39,bv true,3⟩,⟨iv 36,bv true,4⟩,⟨iv 17,bv true,5⟩,⟨iv 7,bv true,6⟩,⟨iv 18,bv true,7⟩,⟨iv 10,bv true,8⟩,⟨iv 35,bv true,9⟩,⟨iv 40,bv true,10⟩,⟨iv 44,bv true,11⟩,⟨iv 45,bv true,12⟩,⟨iv 46,bv true,13⟩,⟨iv 12,bv true,14⟩,⟨iv 14,bv true,15⟩,⟨iv 41,bv true,16⟩,⟨iv 42,bv true,17⟩,⟨iv 43,bv true,18⟩]) C0q rfl 0 19 1 0 [] _ rfl oki ?_
 refine A2y (L':=[(f,.map #[⟨iv 1,bv true,0⟩,⟨iv 34,bv true,1⟩,⟨iv 2,bv true,2⟩,⟨iv 39,bv true,3⟩,⟨iv 36,bv true,4⟩,⟨iv 17,bv true,5⟩,⟨iv 7,bv true,6⟩,⟨iv 18,bv true,7⟩,⟨iv 10,bv true,8⟩,⟨iv 35,bv true,9⟩,⟨iv 40,bv true,10⟩,⟨iv 44,bv true,11⟩,⟨iv 45,bv true,12⟩,⟨iv 46,bv true,13⟩,⟨iv 12,bv true,14⟩,⟨iv 14,bv true,15⟩,⟨iv 41,bv true,16⟩,⟨iv 42,bv true,17⟩,⟨iv 43,bv true,18⟩] 19),bx c (B8 (⟨38,e,d,a,b⟩:Act)) 68]) rfl ?_
 refine pp1 2 3 rfl ?_
 refine ie (sR_ rfl (pp2 2 28 29 rfl ?_))
 refine ix rfl (A7 (v:=iv 38) ty3 rfl rfl 1 rfl rfl) ?_
 refine ix rfl (B2b (z:=bv false) C0q rfl rfl rfl 0 rfl oki oki) ?_
 refine pp1 1 2 rfl ?_
 subst hR
 refine ie (A6 ?_)
 exact E2 hr hD
def Q0 (a:Int) (m:Int) (b:Int):Int×Int×Bool :=
 (bif ((decide (m=0))||(decide (a<m))) then (bif ((decide (b<1))||(decide (a≤b))) then (0,0,false) else ((IntKind.i64.wrap (b - (1:Int))),(IntKind.i64.wrap (a - (1:Int))),true)) else (bif ((decide (b<1))||(decide (m≤b))) then (0,0,false) else ((IntKind.i64.wrap (b - (1:Int))),(IntKind.i64.wrap (m - (1:Int))),true)))
def M2 (a:Int) (n:Int) (m:Int):Int×Int×Bool :=
 (bif (decide (n=0)) then Q0 a m 1 else Q0 a m n)
set_option maxRecDepth 100000 in
theorem A6z {a n m:Int} {R:Int×Int×Bool} (hR:M2 a n m=R):J6 Tryz.prog 120 [iv a,iv n,iv m] [] (.tuple #[iv R.1,iv R.2.1,bv R.2.2]):=by
 refine zce Tryz.func120 fun X hX hr hD=>?_
 replace hR:=(M2.eq_1 ..).symm.trans hR
 refine sR_ rfl (pp0 3 rfl ?_)
 refine ie (B2l (fun (b:Int)=>(Q0 a m b=R,[(0,iv a),(1,iv b),(2,iv m)],[],[])) ?_ ?_)
 ·refine sR_ rfl (pp1 2 10 rfl ?_)
  refine ie ?_
  refine zjd rfl hR ?_ ?_<;>clear hR<;>intro hR q f
  ·refine A0 1 rfl (pp1 1 1 rfl ?_)
   refine A1 ?_
   exact A1d 1 hR sb_ A5.nil
  refine A3 ?_
  exact A1d n hR sb_ A5.nil
 intro b
 rintro hR
 replace hR:=(Q0.eq_1 ..).symm.trans hR
 refine A2 (sR_ rfl (pp1 3 13 rfl ?_))
 refine zir 4 0 13 17 (decide (a<m)) (fun k h=>?_) ?_
 ·refine pp1 4 17 rfl ?_
  exact A1 (J0 2 13 17 k A5.nil sb_ rfl rfl rfl rfl rfl)
 refine ie ?_
 refine zjo rfl hR ?_ ?_<;>clear hR<;>intro hR p d
 ·refine A0 2 rfl (pp1 2 2 rfl ?_)
  refine A1 (nx (A2 (sR_ rfl (pp1 3 21 rfl ?_))))
  refine zir 4 0 21 25 (decide (a≤b)) (fun e i=>?_) ?_
  ·refine pp1 4 25 rfl ?_
   exact A1 (J0 2 21 25 e A5.nil sb_ rfl rfl rfl rfl rfl)
  refine ie ?_
  refine zjo rfl hR ?_ ?_<;>clear hR<;>intro hR o g
  ·refine sR_ rfl (pp3 3 6 7 8 rfl ?_)
   subst hR
   refine ie (A6 ?_)
   exact zer hr hD (A4s rfl (A4 rfl) (A4 rfl) (A4 rfl)) () sb_ A5.nil
  refine A3 (nx (sR_ rfl (pp1 1 26 rfl ?_)))
  refine ix rfl (H9.pure rfl) ?_
  refine pp1 1 28 rfl ?_
  refine ix rfl (H9.pure rfl) ?_
  refine pp3 3 6 7 8 rfl ?_
  subst hR
  refine ie (A6 ?_)
  exact zer hr hD (A4s rfl (A4 rfl) (A4 rfl) (A4 rfl)) () sb_ A5.nil
 refine A3 (nx (A2 (sR_ rfl (pp1 3 21 rfl ?_))))
 refine zir 4 0 21 25 (decide (m≤b)) (fun l c=>?_) ?_
 ·refine pp1 4 25 rfl ?_
  exact A1 (J0 2 21 25 l A5.nil sb_ rfl rfl rfl rfl rfl)
 refine ie ?_
 refine zjo rfl hR ?_ ?_<;>clear hR<;>intro hR r j
 ·refine sR_ rfl (pp3 3 6 7 8 rfl ?_)
  subst hR
  refine ie (A6 ?_)
  exact zer hr hD (A4s rfl (A4 rfl) (A4 rfl) (A4 rfl)) () sb_ A5.nil
 refine A3 (nx (sR_ rfl (pp1 1 26 rfl ?_)))
 refine ix rfl (H9.pure rfl) ?_
 refine pp1 1 28 rfl ?_
 refine ix rfl (H9.pure rfl) ?_
 refine pp3 3 6 7 8 rfl ?_
 subst hR
 refine ie (A6 ?_)
 exact zer hr hD (A4s rfl (A4 rfl) (A4 rfl) (A4 rfl)) () sb_ A5.nil
def A0e (b:Int) (a:Int) (n:Int) (m:Int) (top:Int) (bottom:Int):Cur×Int :=
 ({Cur.zero with row:=(G6 (IntKind.i64.wrap ((IntKind.i64.wrap ((G6 n 1 b) - (1:Int)))+top)) top bottom),col:=(IntKind.i64.wrap ((G6 m 1 a) - (1:Int)))},0)
def A6d (c:Int) (d:Int) (e:Int) (a:Int) (b:Bool) (n:Int) (m:Int):Cur×Int :=
 (bif (!decide ((M7 c d e a b)=0)) then (Cur.zero,(M7 c d e a b)) else (bif b then A0e c d n m e a else A0e c d n m 0 (IntKind.i64.wrap (c - (1:Int)))))
set_option maxRecDepth 100000 in
theorem B7z {c d e a:Int} {b:Bool} {n m:Int} {R:Cur×Int} (hR:A6d c d e a b n m=R):J6 Tryz.prog 117 [ag [iv c,iv d,iv e,iv a,bv b],iv n,iv m] [] (.tuple #[ag (Y1 R.1),iv R.2]):=by
 refine zce Tryz.func117 fun X hX hr hD=>?_
 replace hR:=(A6d.eq_1 ..).symm.trans hR
 refine sR_ rfl (A4z 3 0 [] (fun f g=>[(3,pt f 0),(6,pt g 0)]) (fun f g=>[bx g (Y1 Cur.zero) 38,bx f [iv c,iv d,iv e,iv a,bv b] 136]) (fun f g=>?_))
 refine ie (A2 (sR_ rfl (zrl 1 2 [1] [(11,ag [iv c,iv d,iv e,iv a,bv b])] ?_)))
 refine zv rfl (A4r rfl) ?_
 refine pp1 1 8 rfl ?_
 refine ie (sR_ rfl (pp1 2 14 rfl ?_))
 refine ie ?_
 refine zjn rfl hR ?_ ?_<;>clear hR<;>intro hR i h
 ·refine sR_ rfl (zrg 4 0 [0] [(7,iv (M7 c d e a b))] [bx g (Y1 Cur.zero) 38,bx f [iv c,iv d,iv e,iv a,bv b] 136] ?_)
  subst hR
  refine ie (A6 ?_)
  exact zer hr hD (V1 rfl (L6 (us:=Y1 Cur.zero) C4b rfl 0 rfl rfl rfl) (A4 rfl)) () sb_ A5.nil
 refine A3 (nx (sd 5 rfl oki rfl ?_))
 refine pg1 2 [1] 18 rfl ?_
 refine dd rfl (H9.pure rfl) ?_
 refine pd2 2 9 10 rfl ?_
 refine de (B2l (un fun (top:Int) (bottom:Int)=>(A0e c d n m top bottom=R,[(1,iv n),(2,iv m),(3,pt f 0),(6,pt g 0),(9,iv top),(10,iv bottom)],[bx g (Y1 Cur.zero) 38,bx f [iv c,iv d,iv e,iv a,bv b] 136],[])) ?_ ?_)
 ·refine sR_ rfl (pl1 2 [1] 21 rfl ?_)
  refine ie ?_
  refine zjb rfl hR ?_ ?_<;>clear hR<;>intro hR j
  ·refine C0o 6 rfl oki rfl ?_
   refine pg2 6 [1,1] 9 10 rfl ?_
   refine B0t ?_
   exact A1d (e,a) hR sb_ A5.nil
  refine A3 ?_
  exact A1d (0,(IntKind.i64.wrap (c - (1:Int)))) hR sb_ A5.nil
 rintro ⟨top,bottom⟩
 rintro hR
 replace hR:=(A0e.eq_1 ..).symm.trans hR
 refine sh 18 [(16,[bx g (Y1 Cur.zero) 38]),(18,[bx f [iv c,iv d,iv e,iv a,bv b] 136])] [] [bx g (Y1 Cur.zero) 38,bx f [iv c,iv d,iv e,iv a,bv b] 136] (zml 18 0) oki rfl oki oki oki sb_ A5.refl ?_
 refine zhp [0,1,5,7,8,10,11] 11 (zml 18 3491) [(26,iv n),(27,pt f 0),(31,iv top),(33,iv top),(34,iv bottom),(36,iv m),(37,pt f 1)] ?_
 refine zhl 2 [bx g (Y1 Cur.zero) 38,bx f [iv c,iv d,iv e,iv a,bv b] 136] (zml 18 3495) rfl (A7 (v:=iv c) ty3 rfl rfl 1 rfl rfl) ?_
 refine zhl 12 [bx g (Y1 Cur.zero) 38,bx f [iv c,iv d,iv e,iv a,bv b] 136] (zml 18 7591) rfl (A7 (v:=iv d) ty3 rfl rfl 1 rfl rfl) ?_
 refine zho 3 [bx g (Y1 Cur.zero) 38,bx f [iv c,iv d,iv e,iv a,bv b] 136] (zml 18 7599) rfl (Det.tri (P3 (A0i rfl) rfl rfl rfl rfl rfl A5.nil)) (fun _=>sb_) (fun _=>A5.nil) fun _=>?_
 refine zhk 4 (zml 18 7615) rfl (H9.pure rfl) ?_
 refine zhk 6 (zml 18 7679) rfl (H9.pure rfl) ?_
 refine zho 9 [bx g (Y1 Cur.zero) 38,bx f [iv c,iv d,iv e,iv a,bv b] 136] (zml 18 8191) rfl (Det.tri (P3 (A0i rfl) rfl rfl rfl rfl rfl A5.nil)) (fun _=>sb_) (fun _=>A5.nil) fun _=>?_
 refine zho 13 [bx g (Y1 Cur.zero) 38,bx f [iv c,iv d,iv e,iv a,bv b] 136] (zml 18 16383) rfl (Det.tri (P3 (A0i rfl) rfl rfl rfl rfl rfl A5.nil)) (fun _=>sb_) (fun _=>A5.nil) fun _=>?_
 refine zhk 14 (zml 18 32767) rfl (H9.pure rfl) ?_
 refine zhk 15 (zml 18 65535) rfl (N8 (cs:=Y1 ({Cur.zero with row:=(G6 (IntKind.i64.wrap ((IntKind.i64.wrap ((G6 n 1 c) - (1:Int)))+top)) top bottom),col:=(IntKind.i64.wrap ((G6 m 1 d) - (1:Int)))})) rfl rfl oki) ?_
 refine zho 16 [bx f [iv c,iv d,iv e,iv a,bv b] 136] (zml 18 131071) rfl (D0 (us:=Y1 ({Cur.zero with row:=(G6 (IntKind.i64.wrap ((IntKind.i64.wrap ((G6 n 1 c) - (1:Int)))+top)) top bottom),col:=(IntKind.i64.wrap ((G6 m 1 d) - (1:Int)))})) (cs':=Y1 ({Cur.zero with row:=(G6 (IntKind.i64.wrap ((IntKind.i64.wrap ((G6 n 1 c) - (1:Int)))+top)) top bottom),col:=(IntKind.i64.wrap ((G6 m 1 d) - (1:Int)))})) C4b rfl rfl rfl 0 rfl rfl rfl rfl rfl rfl) (fun _=>sb_) (fun _=>A5.nil) fun _=>?_
 refine zhp [17] 0 (zml 18 262143) [(7,iv 0)] ?_
 refine P4 oki ?_
 subst hR
 refine A6 ?_
 exact zer hr hD (V1 rfl (L6 (us:=Y1 ({Cur.zero with row:=(G6 (IntKind.i64.wrap ((IntKind.i64.wrap ((G6 n 1 c) - (1:Int)))+top)) top bottom),col:=(IntKind.i64.wrap ((G6 m 1 d) - (1:Int)))})) C4b rfl 0 rfl rfl rfl) (A4 rfl)) () sb_ A5.nil
def X9 (e:Int) (d:Int) (f:Int) (b:Int) (c:Bool):Cur×Int :=
 (E8 (A6d e d f b c 1 1) fun (a:Cur×Int)=>(a.1,a.2))
set_option maxRecDepth 100000 in
theorem B0e {d e g b:Int} {c:Bool} {R:Cur×Int} (hR:X9 d e g b c=R):J6 Tryz.prog 121 [ag [iv d,iv e,iv g,iv b,bv c]] [] (.tuple #[ag (Y1 R.1),iv R.2]):=by
 refine zce Tryz.func121 fun X hX hr hD=>?_
 replace hR:=(X9.eq_1 ..).symm.trans hR
 refine sR_ rfl (A4z 3 0 [] (fun i h=>[(1,pt i 0),(2,pt h 0)]) (fun i h=>[bx h (Y1 Cur.zero) 38,bx i [iv d,iv e,iv g,iv b,bv c] 136]) (fun i h=>?_))
 refine ie (sR_ rfl (zrl 1 5 [1] [(4,ag [iv d,iv e,iv g,iv b,bv c])] ?_))
 have j:=E9 hR;clear hR;obtain ⟨a,f,hR⟩:=j
 refine zv rfl (B7z f) ?_
 refine zrg 4 0 [0] [(3,iv a.2)] [bx h (Y1 a.1) 38,bx i [iv d,iv e,iv g,iv b,bv c] 136] ?_
 subst hR
 refine ie (A6 ?_)
 exact zer hr hD (V1 rfl (L6 (us:=Y1 a.1) C4b rfl 0 rfl rfl rfl) (A4 rfl)) () sb_ A5.nil
def D9 (s:ScrC) (sMain:List (Rwc Cel)) (sAlt:List (Rwc Cel)) (sTabs:List Bool) (a:Act):ScrC :=
 (E8 (M2 s.rows a.n a.m) fun (c:Int×Int×Bool)=>(bif c.2.2 then (E8 (Q6 ({s with top:=c.1,bottom:=c.2.1}) sMain sAlt sTabs) fun (b:Int×Int×Int×Int×Bool)=>(E8 (X9 b.1 b.2.1 b.2.2.1 b.2.2.2.1 b.2.2.2.2) fun (d:Cur×Int)=>{s with top:=c.1,bottom:=c.2.1,cursor:=d.1})) else s))
set_option maxRecDepth 100000 in
theorem A7h {s:ScrC} {sMain sAlt:List (Rwc Cel)} {sTabs:List Bool} {a:Act} {sb:Nat} {sMainq:Option Addr} {sMainrs:List Rwq} {sMaink:Nat} {sAltq:Option Addr} {sAltrs:List Rwq} {sAltk:Nat} {sTabsq:Option Addr} {sTabsk:Nat} {R:ScrC} (hR:D9 s sMain sAlt sTabs a=R) (d:B4 sMainrs sMain:=by exact om_) (n:sMain.length≤9223372036854775807:=by exact om_) (m:sMain.length≤sMaink:=by exact om_) (e:B4 sAltrs sAlt:=by exact om_) (q:sAlt.length≤9223372036854775807:=by exact om_) (p:sAlt.length≤sAltk:=by exact om_) (o:sTabs.length≤9223372036854775807:=by exact om_) (k:sTabs.length≤sTabsk:=by exact om_):Con Tryz.prog 57 [pt sb 0,ag (B8 a)] [bx sb (B3 s ⟨sMainq,sMain.length,sMaink⟩ ⟨sAltq,sAlt.length,sAltk⟩ ⟨none,0,0⟩ ⟨sTabsq,sTabs.length,sTabsk⟩) 77] [sl B5 sMainq sMainrs,B7 B1 sMainrs sMain,sl B5 sAltq sAltrs,B7 B1 sAltrs sAlt,sl H4 sTabsq sTabs] (Unit) (fun x=>.tuple #[]) (fun x=>[bx sb (B3 R ⟨sMainq,sMain.length,sMaink⟩ ⟨sAltq,sAlt.length,sAltk⟩ ⟨none,0,0⟩ ⟨sTabsq,sTabs.length,sTabsk⟩) 77]) (fun x=>[]):=by
 refine zce Tryz.func57 fun X hX hr hD=>?_
 replace hR:=(D9.eq_1 ..).symm.trans hR
 have:=d.1
 have:=e.1
 refine sR_ rfl (J3 1 0 [] (fun j=>[(3,pt j 0)]) (fun j=>[bx j (B8 a) 68,bx sb (B3 s ⟨sMainq,sMain.length,sMaink⟩ ⟨sAltq,sAlt.length,sAltk⟩ ⟨none,0,0⟩ ⟨sTabsq,sTabs.length,sTabsk⟩) 77]) (fun j=>?_))
 refine ie (sd 17 rfl oki rfl ?_)
 refine pg3 9 [1,0,0] 12 14 16 rfl ?_
 have l:=E9 hR;clear hR;obtain ⟨b,f,hR⟩:=l
 refine zvd rfl (A6z f) ?_
 refine pd3 7 4 5 6 rfl ?_
 refine de (sR_ rfl (pp1 1 21 rfl ?_))
 refine ie ?_
 refine zjb rfl hR ?_ ?_<;>clear hR<;>intro hR r
 ·refine sR_ rfl (zrg 12 0 [1,1] [] [bx j (B8 a) 68,bx sb (B3 ({s with top:=b.1,bottom:=b.2.1}) ⟨sMainq,sMain.length,sMaink⟩ ⟨sAltq,sAlt.length,sAltk⟩ ⟨none,0,0⟩ ⟨sTabsq,sTabs.length,sTabsk⟩) 77] ?_)
  refine ie (A0 11 rfl (pp2 2 33 34 rfl ?_))
  have l:=E9 hR;clear hR;obtain ⟨i,c,hR⟩:=l
  refine zc rfl (A2q c d om_ om_ e) fun _=>?_
  have l:=E9 hR;clear hR;obtain ⟨h,g,hR⟩:=l
  refine zv rfl (B0e g) ?_
  refine zrg 7 0 [0] [] [bx sb (B3 ({s with top:=b.1,bottom:=b.2.1,cursor:=h.1}) ⟨sMainq,sMain.length,sMaink⟩ ⟨sAltq,sAlt.length,sAltk⟩ ⟨none,0,0⟩ ⟨sTabsq,sTabs.length,sTabsk⟩) 77,bx j (B8 a) 68] ?_
  subst hR
  refine A1 ?_
  exact zen hr hD (A3f rfl) () sb_ A5.nil
 subst hR
 refine A3 ?_
 exact zen hr hD (A3f rfl) () sb_ A5.nil
def A8d:Bool :=
 false
set_option maxRecDepth 100000 in
theorem B1n {R:Bool} (hR:A8d=R):J6 Tryz.prog 22 [iv 33] [] (bv R):=by
 refine zce Tryz.func22 fun X hX hr hD=>?_
 replace hR:=(A8d.eq_1 ..).symm.trans hR
 refine sR_ rfl (pp0 1 rfl ?_)
 refine ie (sR_ rfl (pp1 7 2 rfl ?_))
 subst hR
 refine ie (A6 ?_)
 exact E2 hr hD
def Z6 (d:Int) (c:Int) (a:Col) (b:List UInt8):Bool :=
 false
set_option maxRecDepth 100000 in
theorem A9x {e d:Int} {a:Col} {b:List UInt8} {R:Bool} (hR:Z6 e d a b=R):J6 Tryz.prog 23 [ag (B8 (⟨33,e,d,a,b⟩:Act))] [] (bv R):=by
 refine zce Tryz.func23 fun X hX hr hD=>?_
 replace hR:=(Z6.eq_1 ..).symm.trans hR
 refine sR_ rfl (J3 2 0 [] (fun c=>[(1,pt c 0)]) (fun c=>[bx c (B8 (⟨33,e,d,a,b⟩:Act)) 68]) (fun c=>?_))
 refine ie (A2 (sR_ rfl (pl1 2 [0] 5 rfl ?_)))
 refine ie (A8 (sR_ rfl (pp1 2 6 rfl ?_)))
 refine ie (P1 rfl (sR_ rfl (pp1 2 11 rfl ?_)))
 refine ie (P1 rfl (A3 (nx (sR_ rfl (it rfl (A3h rfl) fun f=>?_)))))
 refine B6n (m:=2) (mo:=26) (es':=[⟨iv 1,bv true,0⟩,⟨iv 34,bv true,1⟩,⟨iv 2,bv true,2⟩,⟨iv 39,bv true,3⟩,⟨iv 36,bv true,4⟩,⟨iv 17,bv true,5⟩,⟨iv 7,bv true,6⟩,⟨iv 18,bv true,7⟩,⟨iv 10,bv true,8⟩,⟨iv 35,bv true,9⟩,⟨iv 40,bv true,10⟩,⟨iv 44,bv true,11⟩,⟨iv 45,bv true,12⟩,⟨iv 46,bv true,13⟩,⟨iv 12,bv true,14⟩,⟨iv 14,bv true,15⟩,⟨iv 41,bv true,16⟩,⟨iv 42,bv true,17⟩,⟨iv 43,bv true,18⟩]) C0q rfl 0 19 1 0 [] _ rfl oki ?_
 refine A2y (L':=[(f,.map #[⟨iv 1,bv true,0⟩,⟨iv 34,bv true,1⟩,⟨iv 2,bv true,2⟩,⟨iv 39,bv true,3⟩,⟨iv 36,bv true,4⟩,⟨iv 17,bv true,5⟩,⟨iv 7,bv true,6⟩,⟨iv 18,bv true,7⟩,⟨iv 10,bv true,8⟩,⟨iv 35,bv true,9⟩,⟨iv 40,bv true,10⟩,⟨iv 44,bv true,11⟩,⟨iv 45,bv true,12⟩,⟨iv 46,bv true,13⟩,⟨iv 12,bv true,14⟩,⟨iv 14,bv true,15⟩,⟨iv 41,bv true,16⟩,⟨iv 42,bv true,17⟩,⟨iv 43,bv true,18⟩] 19),bx c (B8 (⟨33,e,d,a,b⟩:Act)) 68]) rfl ?_
 refine pp1 2 3 rfl ?_
 refine ie (sR_ rfl (pp2 2 28 29 rfl ?_))
 refine ix rfl (A7 (v:=iv 33) ty3 rfl rfl 1 rfl rfl) ?_
 refine ix rfl (B2b (z:=bv false) C0q rfl rfl rfl 0 rfl oki oki) ?_
 refine pp1 1 2 rfl ?_
 subst hR
 refine ie (A6 ?_)
 exact E2 hr hD
def H6 (s:ScrC) (sMain:List (Rwc Cel)) (sAlt:List (Rwc Cel)) (sTabs:List Bool):Unit :=
 ()
set_option maxRecDepth 100000 in
theorem A9w {s:ScrC} {sMain sAlt:List (Rwc Cel)} {sTabs:List Bool} {sb:Nat} {sMainq:Option Addr} {sMainrs:List Rwq} {sMaink:Nat} {sAltq:Option Addr} {sAltrs:List Rwq} {sAltk:Nat} {sTabsq:Option Addr} {sTabsk:Nat} {R:Unit} (hR:H6 s sMain sAlt sTabs=R) (a:B4 sMainrs sMain:=by exact om_) (f:sMain.length≤9223372036854775807:=by exact om_) (e:sMain.length≤sMaink:=by exact om_) (b:B4 sAltrs sAlt:=by exact om_) (h:sAlt.length≤9223372036854775807:=by exact om_) (g:sAlt.length≤sAltk:=by exact om_) (d:sTabs.length≤9223372036854775807:=by exact om_) (c:sTabs.length≤sTabsk:=by exact om_) (i:s.onAlt=true:=by exact om_):Con Tryz.prog 130 [pt sb 0] [bx sb (B3 s ⟨sMainq,sMain.length,sMaink⟩ ⟨sAltq,sAlt.length,sAltk⟩ ⟨none,0,0⟩ ⟨sTabsq,sTabs.length,sTabsk⟩) 77] [sl B5 sMainq sMainrs,B7 B1 sMainrs sMain,sl B5 sAltq sAltrs,B7 B1 sAltrs sAlt,sl H4 sTabsq sTabs] (Unit) (fun x=>pt sb 3) (fun x=>[bx sb (B3 s ⟨sMainq,sMain.length,sMaink⟩ ⟨sAltq,sAlt.length,sAltk⟩ ⟨none,0,0⟩ ⟨sTabsq,sTabs.length,sTabsk⟩) 77]) (fun x=>[]):=by
 refine zce Tryz.func130 fun X hX hr hD=>?_
 replace hR:=(H6.eq_1 ..).symm.trans hR
 have:=a.1
 have:=b.1
 refine sR_ rfl (pp0 1 rfl ?_)
 refine ie (A2 (sR_ rfl (pl1 5 [0] 7 rfl ?_)))
 refine ie (W2 rfl (fun j=>?_) (fun j=>?_))
 ·refine sR_ rfl (pp1 5 2 rfl ?_)
  subst hR
  refine ie (A6 ?_)
  exact zer hr hD (U4 rfl (A4 rfl)) () sb_ A5.nil
 exfalso;simp [i] at j
def Z5 (s:ScrC) (sMain:List (Rwc Cel)) (sAlt:List (Rwc Cel)) (sTabs:List Bool):Sty :=
 {Sty.zero with back:=s.style.back}
set_option maxRecDepth 100000 in
theorem A4d {s:ScrC} {sMain sAlt:List (Rwc Cel)} {sTabs:List Bool} {sb:Nat} {sMainq:Option Addr} {sMainrs:List Rwq} {sMaink:Nat} {sAltq:Option Addr} {sAltrs:List Rwq} {sAltk:Nat} {sTabsq:Option Addr} {sTabsk:Nat} {R:Sty} (hR:Z5 s sMain sAlt sTabs=R) (a:B4 sMainrs sMain:=by exact om_) (g:sMain.length≤9223372036854775807:=by exact om_) (f:sMain.length≤sMaink:=by exact om_) (b:B4 sAltrs sAlt:=by exact om_) (i:sAlt.length≤9223372036854775807:=by exact om_) (h:sAlt.length≤sAltk:=by exact om_) (e:sTabs.length≤9223372036854775807:=by exact om_) (c:sTabs.length≤sTabsk:=by exact om_):Con Tryz.prog 126 [pt sb 0] [bx sb (B3 s ⟨sMainq,sMain.length,sMaink⟩ ⟨sAltq,sAlt.length,sAltk⟩ ⟨none,0,0⟩ ⟨sTabsq,sTabs.length,sTabsk⟩) 77] [sl B5 sMainq sMainrs,B7 B1 sMainrs sMain,sl B5 sAltq sAltrs,B7 B1 sAltrs sAlt,sl H4 sTabsq sTabs] (Unit) (fun x=>ag (C7 R)) (fun x=>[bx sb (B3 s ⟨sMainq,sMain.length,sMaink⟩ ⟨sAltq,sAlt.length,sAltk⟩ ⟨none,0,0⟩ ⟨sTabsq,sTabs.length,sTabsk⟩) 77]) (fun x=>[]):=by
 refine zce Tryz.func126 fun X hX hr hD=>?_
 replace hR:=(Z5.eq_1 ..).symm.trans hR
 have:=a.1
 have:=b.1
 refine sR_ rfl (J3 1 0 [] (fun d=>[(2,pt d 0)]) (fun d=>[bx d (C7 Sty.zero) 42,bx sb (B3 s ⟨sMainq,sMain.length,sMaink⟩ ⟨sAltq,sAlt.length,sAltk⟩ ⟨none,0,0⟩ ⟨sTabsq,sTabs.length,sTabsk⟩) 77]) (fun d=>?_))
 refine ie (sR_ rfl (zrg 8 0 [1,0] [] [bx d (C7 ({Sty.zero with back:=s.style.back})) 42,bx sb (B3 s ⟨sMainq,sMain.length,sMaink⟩ ⟨sAltq,sAlt.length,sAltk⟩ ⟨none,0,0⟩ ⟨sTabsq,sTabs.length,sTabsk⟩) 77] ?_))
 subst hR
 refine ie (A6 ?_)
 exact zer hr hD (U4 rfl (L6 (us:=C7 ({Sty.zero with back:=s.style.back})) C6j rfl 0 rfl rfl rfl)) () sb_ A5.nil
def Z2 (s:ScrC) (sMain:List (Rwc Cel)) (sAlt:List (Rwc Cel)) (sTabs:List Bool) (top:Int) (n:Int) (keep:Bool):List (Rwc Cel) :=
 (bif (decide (n<0)) then (E8 (A1v sAlt top s.bottom (-n) (Z5 s sMain sAlt sTabs)) fun (a:List (Rwc Cel)×List (Rwc Cel)×Int)=>a.1) else (E8 (A5z sAlt top s.bottom n (Z5 s sMain sAlt sTabs)) fun (b:List (Rwc Cel)×List (Rwc Cel)×Int)=>b.1))
theorem obk {p:Prop} (h:p:=by first|assumption|rfl|(simp only [*];done)|simp_all):p:=h
set_option maxRecDepth 100000 in
theorem A9s {s:ScrC} {sMain sAlt:List (Rwc Cel)} {sTabs:List Bool} {top n:Int} {keep:Bool} {sb:Nat} {sMainq:Option Addr} {sMainrs:List Rwq} {sMaink:Nat} {sAltq:Option Addr} {sAltrs:List Rwq} {sAltk:Nat} {sTabsq:Option Addr} {sTabsk:Nat} {R:List (Rwc Cel)} (hR:Z2 s sMain sAlt sTabs top n keep=R) (b:B4 sMainrs sMain:=by exact om_) (ab:sMain.length≤9223372036854775807:=by exact om_) (a5:sMain.length≤sMaink:=by exact om_) (a:B4 sAltrs sAlt:=by exact om_) (af:sAlt.length≤9223372036854775807:=by exact om_) (ad:sAlt.length≤sAltk:=by exact om_) (a9:sTabs.length≤9223372036854775807:=by exact om_) (a3:sTabs.length≤sTabsk:=by exact om_) (aj:s.onAlt=true:=by exact om_) (aq:(n≤-1∨1≤n)∧-9999≤n∧n≤9999:=by exact om_):Con Tryz.prog 115 [pt sb 0,iv top,iv n,bv keep] [bx sb (B3 s ⟨sMainq,sMain.length,sMaink⟩ ⟨sAltq,sAlt.length,sAltk⟩ ⟨none,0,0⟩ ⟨sTabsq,sTabs.length,sTabsk⟩) 77] [sl B5 sMainq sMainrs,B7 B1 sMainrs sMain,sl B5 sAltq sAltrs,B7 B1 sAltrs sAlt,sl H4 sTabsq sTabs,O9,P0] ({t:VR×List Rwq // VOk 2 R.length t.1∧B4 t.2 R}) (fun x=>.tuple #[]) (fun x=>(bx sb (B3 s ⟨sMainq,sMain.length,sMaink⟩ ⟨va x.1.1.q,R.length,x.1.1.k⟩ ⟨none,0,0⟩ ⟨sTabsq,sTabs.length,sTabsk⟩) 77::((vo B5 72 x.1.1 x.1.2)++([])))) (fun x=>[B7 B1 x.1.2 R]):=by
 refine zce Tryz.func115 fun X hX hr hD=>?_
 replace hR:=(Z2.eq_1 ..).symm.trans hR
 have:=b.1
 have:=a.1
 refine sR_ rfl (pp1 1 12 rfl ?_)
 refine zc rfl (A9w rfl b om_ om_ a om_ om_ om_ om_ obk) fun _=>?_
 refine pp1 1 8 rfl ?_
 refine ie (A2 (sR_ rfl (pp1 2 15 rfl ?_)))
 refine ie ?_
 refine zjd rfl hR ?_ ?_<;>clear hR<;>intro hR h1 ap
 ·refine sh 21 [(20,[bx sb (B3 s ⟨sMainq,sMain.length,sMaink⟩ ⟨sAltq,sAlt.length,sAltk⟩ ⟨none,0,0⟩ ⟨sTabsq,sTabs.length,sTabsk⟩) 77])] [sl B5 sMainq sMainrs,B7 B1 sMainrs sMain,sl B5 sAltq sAltrs,B7 B1 sAltrs sAlt,sl H4 sTabsq sTabs,O9,P0] [bx sb (B3 s ⟨sMainq,sMain.length,sMaink⟩ ⟨sAltq,sAlt.length,sAltk⟩ ⟨none,0,0⟩ ⟨sTabsq,sTabs.length,sTabsk⟩) 77] (zml 21 0) oki rfl oki oki oki sb_ A5.refl ?_
  refine zhp [0,1,2,4,5,6,7,8,10,12] 11 (zml 21 5623) [(17,pt sb 3),(19,pt sb 3),(21,iv top),(25,pt sb 37),(27,iv n),(29,pt sb 0)] ?_
  refine zhl 3 [bx sb (B3 s ⟨sMainq,sMain.length,sMaink⟩ ⟨sAltq,sAlt.length,sAltk⟩ ⟨none,0,0⟩ ⟨sTabsq,sTabs.length,sTabsk⟩) 77] (zml 21 5631) rfl (A7 (v:=.slice sAltq sAlt.length sAltk) B1c rfl rfl 0 rfl rfl) ?_
  refine zhl 9 [bx sb (B3 s ⟨sMainq,sMain.length,sMaink⟩ ⟨sAltq,sAlt.length,sAltk⟩ ⟨none,0,0⟩ ⟨sTabsq,sTabs.length,sTabsk⟩) 77] (zml 21 6143) rfl (A7 (v:=iv s.bottom) ty3 rfl rfl 0 rfl rfl) ?_
  refine zhk 11 (zml 21 8191) rfl (B2x rfl rfl rfl opx) ?_
  refine zho 13 [bx sb (B3 s ⟨sMainq,sMain.length,sMaink⟩ ⟨sAltq,sAlt.length,sAltk⟩ ⟨none,0,0⟩ ⟨sTabsq,sTabs.length,sTabsk⟩) 77] (zml 21 16383) rfl (I0 (L2:=[]) (A4d rfl b om_ om_ a) rfl rfl rfl rfl rfl fo_ (J5 [[bx sb (B3 s ⟨sMainq,sMain.length,sMaink⟩ ⟨sAltq,sAlt.length,sAltk⟩ ⟨none,0,0⟩ ⟨sTabsq,sTabs.length,sTabsk⟩) 77]] [0] 1 rfl ozw rfl [[bx sb (B3 s ⟨sMainq,sMain.length,sMaink⟩ ⟨sAltq,sAlt.length,sAltk⟩ ⟨none,0,0⟩ ⟨sTabsq,sTabs.length,sTabsk⟩) 77]] rfl opl) (fun _=>[bx sb (B3 s ⟨sMainq,sMain.length,sMaink⟩ ⟨sAltq,sAlt.length,sAltk⟩ ⟨none,0,0⟩ ⟨sTabsq,sTabs.length,sTabsk⟩) 77]) (fun _=>rfl)) (fun _=>sb_) (fun _=>A5.refl) fun _=>?_
  have hQ:=E9 hR;clear hR;obtain ⟨c,h,hR⟩:=hQ
  refine zho 14 [bx sb (B3 s ⟨sMainq,sMain.length,sMaink⟩ ⟨sAltq,sAlt.length,sAltk⟩ ⟨none,0,0⟩ ⟨sTabsq,sTabs.length,sTabsk⟩) 77] (zml 21 32767) rfl (I4 (L2:=[bx sb (B3 s ⟨sMainq,sMain.length,sMaink⟩ ⟨sAltq,sAlt.length,sAltk⟩ ⟨none,0,0⟩ ⟨sTabsq,sTabs.length,sTabsk⟩) 77]) (C2i h a) rfl rfl rfl rfl rfl fo_ (List.Perm.refl _) (fun ⟨⟨⟨m,j⟩,r⟩,⟨⟨q7,z,k9⟩,l⟩⟩=>(bx sb (B3 s ⟨sMainq,sMain.length,sMaink⟩ ⟨sAltq,sAlt.length,sAltk⟩ ⟨none,0,0⟩ ⟨sTabsq,sTabs.length,sTabsk⟩) 77::((vo B5 72 m j)++([])))) (fun ⟨⟨⟨m,j⟩,r⟩,⟨⟨q7,z,k9⟩,l⟩⟩=>J5 [vo B5 72 m j,[bx sb (B3 s ⟨sMainq,sMain.length,sMaink⟩ ⟨sAltq,sAlt.length,sAltk⟩ ⟨none,0,0⟩ ⟨sTabsq,sTabs.length,sTabsk⟩) 77]] [1,0] 2 rfl ozw opl [[bx sb (B3 s ⟨sMainq,sMain.length,sMaink⟩ ⟨sAltq,sAlt.length,sAltk⟩ ⟨none,0,0⟩ ⟨sTabsq,sTabs.length,sTabsk⟩) 77],vo B5 72 m j] rfl opl)) (fun ⟨⟨⟨m,j⟩,r⟩,⟨⟨q7,z,k9⟩,l⟩⟩=>sb_) (fun ⟨⟨⟨m,j⟩,r⟩,⟨⟨q7,z,k9⟩,l⟩⟩=>fo_) fun ⟨⟨⟨m,j⟩,r⟩,⟨⟨q7,z,k9⟩,l⟩⟩=>?_
  try dsimp only at r
  obtain ⟨a2,a8⟩:=r
  obtain ⟨aa,am,an⟩:=l
  have:=VOk.le a2
  have:=VOk.cap a2
  have:=a8.1
  have:=aa.1
  refine zhp [15,16,17,18,19] 1 (zml 21 1048575) [(32,.slice (va m.q) c.1.length m.k),(35,pt sb 3)] ?_
  refine zho 20 [] (zml 21 2097151) rfl (D0 (us:=[.slice (va m.q) c.1.length m.k]) (cs':=B3 s ⟨sMainq,sMain.length,sMaink⟩ ⟨va m.q,c.1.length,m.k⟩ ⟨none,0,0⟩ ⟨sTabsq,sTabs.length,sTabsk⟩) B1c rfl rfl rfl 0 rfl rfl rfl rfl rfl rfl) (fun _=>(List.nil_sublist _)) (fun _=>fo_) fun _=>?_
  refine P4 oki ?_
  subst hR
  refine A6 ?_
  exact zer hr hD (A3f rfl) ⟨(m,j),⟨a2,a8⟩⟩ sb_ fo_
 refine A3 (nx (sh 20 [(20,[bx sb (B3 s ⟨sMainq,sMain.length,sMaink⟩ ⟨sAltq,sAlt.length,sAltk⟩ ⟨none,0,0⟩ ⟨sTabsq,sTabs.length,sTabsk⟩) 77])] [sl B5 sMainq sMainrs,B7 B1 sMainrs sMain,sl B5 sAltq sAltrs,B7 B1 sAltrs sAlt,sl H4 sTabsq sTabs,O9,P0] [bx sb (B3 s ⟨sMainq,sMain.length,sMaink⟩ ⟨sAltq,sAlt.length,sAltk⟩ ⟨none,0,0⟩ ⟨sTabsq,sTabs.length,sTabsk⟩) 77] (zml 20 0) oki rfl oki oki oki sb_ A5.refl ?_))
 refine zhp [0,1,3,4,5,6,7,9,10] 11 (zml 20 1787) [(38,pt sb 3),(40,iv top),(44,pt sb 37),(46,iv n),(47,pt sb 0)] ?_
 refine zhl 2 [bx sb (B3 s ⟨sMainq,sMain.length,sMaink⟩ ⟨sAltq,sAlt.length,sAltk⟩ ⟨none,0,0⟩ ⟨sTabsq,sTabs.length,sTabsk⟩) 77] (zml 20 1791) rfl (A7 (v:=.slice sAltq sAlt.length sAltk) B1c rfl rfl 0 rfl rfl) ?_
 refine zhl 8 [bx sb (B3 s ⟨sMainq,sMain.length,sMaink⟩ ⟨sAltq,sAlt.length,sAltk⟩ ⟨none,0,0⟩ ⟨sTabsq,sTabs.length,sTabsk⟩) 77] (zml 20 2047) rfl (A7 (v:=iv s.bottom) ty3 rfl rfl 0 rfl rfl) ?_
 refine zho 11 [bx sb (B3 s ⟨sMainq,sMain.length,sMaink⟩ ⟨sAltq,sAlt.length,sAltk⟩ ⟨none,0,0⟩ ⟨sTabsq,sTabs.length,sTabsk⟩) 77] (zml 20 4095) rfl (I0 (L2:=[]) (A4d rfl b om_ om_ a) rfl rfl rfl rfl rfl fo_ (J5 [[bx sb (B3 s ⟨sMainq,sMain.length,sMaink⟩ ⟨sAltq,sAlt.length,sAltk⟩ ⟨none,0,0⟩ ⟨sTabsq,sTabs.length,sTabsk⟩) 77]] [0] 1 rfl ozw rfl [[bx sb (B3 s ⟨sMainq,sMain.length,sMaink⟩ ⟨sAltq,sAlt.length,sAltk⟩ ⟨none,0,0⟩ ⟨sTabsq,sTabs.length,sTabsk⟩) 77]] rfl opl) (fun _=>[bx sb (B3 s ⟨sMainq,sMain.length,sMaink⟩ ⟨sAltq,sAlt.length,sAltk⟩ ⟨none,0,0⟩ ⟨sTabsq,sTabs.length,sTabsk⟩) 77]) (fun _=>rfl)) (fun _=>sb_) (fun _=>A5.refl) fun _=>?_
 have hQ:=E9 hR;clear hR;obtain ⟨f,p,hR⟩:=hQ
 refine zho 12 [bx sb (B3 s ⟨sMainq,sMain.length,sMaink⟩ ⟨sAltq,sAlt.length,sAltk⟩ ⟨none,0,0⟩ ⟨sTabsq,sTabs.length,sTabsk⟩) 77] (zml 20 8191) rfl (I4 (L2:=[bx sb (B3 s ⟨sMainq,sMain.length,sMaink⟩ ⟨sAltq,sAlt.length,sAltk⟩ ⟨none,0,0⟩ ⟨sTabsq,sTabs.length,sTabsk⟩) 77]) (C6m p a) rfl rfl rfl rfl rfl fo_ (List.Perm.refl _) (fun ⟨⟨⟨e,d⟩,g⟩,⟨⟨y,o,u⟩,i⟩⟩=>(bx sb (B3 s ⟨sMainq,sMain.length,sMaink⟩ ⟨sAltq,sAlt.length,sAltk⟩ ⟨none,0,0⟩ ⟨sTabsq,sTabs.length,sTabsk⟩) 77::((vo B5 72 e d)++([])))) (fun ⟨⟨⟨e,d⟩,g⟩,⟨⟨y,o,u⟩,i⟩⟩=>J5 [vo B5 72 e d,[bx sb (B3 s ⟨sMainq,sMain.length,sMaink⟩ ⟨sAltq,sAlt.length,sAltk⟩ ⟨none,0,0⟩ ⟨sTabsq,sTabs.length,sTabsk⟩) 77]] [1,0] 2 rfl ozw opl [[bx sb (B3 s ⟨sMainq,sMain.length,sMaink⟩ ⟨sAltq,sAlt.length,sAltk⟩ ⟨none,0,0⟩ ⟨sTabsq,sTabs.length,sTabsk⟩) 77],vo B5 72 e d] rfl opl)) (fun ⟨⟨⟨e,d⟩,g⟩,⟨⟨y,o,u⟩,i⟩⟩=>sb_) (fun ⟨⟨⟨e,d⟩,g⟩,⟨⟨y,o,u⟩,i⟩⟩=>fo_) fun ⟨⟨⟨e,d⟩,g⟩,⟨⟨y,o,u⟩,i⟩⟩=>?_
 try dsimp only at g
 obtain ⟨w,a1⟩:=g
 obtain ⟨a7,ak,ao⟩:=i
 have:=VOk.le w
 have:=VOk.cap w
 have:=a1.1
 have:=a7.1
 refine zhp [13,14,15,16,17,18,19] 0 (zml 20 1048575) [(9,.slice (va e.q) f.1.length e.k),(10,.slice y f.2.1.length u)] ?_
 refine P4 oki ?_
 refine sR_ rfl (zrg 4 0 [0] [] (bx sb (B3 s ⟨sMainq,sMain.length,sMaink⟩ ⟨va e.q,f.1.length,e.k⟩ ⟨none,0,0⟩ ⟨sTabsq,sTabs.length,sTabsk⟩) 77::((vo B5 72 e d)++([]))) ?_)
 refine ie (sR_ rfl (pp1 2 57 rfl ?_))
 refine zia 7 8 57 64 (!s.onAlt) (fun ah=>?_) ?_
 ·refine pl1 7 [0] 64 rfl ?_
  exact A1 (J0 2 57 64 ah A5.refl sb_ rfl rfl rfl rfl rfl)
 refine pp1 1 65 rfl ?_
 refine zia 7 0 65 72 (decide (s.top=0)) (fun a4=>?_) ?_
 ·have al:=bq_ a4
  refine pl1 7 [0] 72 rfl ?_
  exact A1 (J0 2 65 72 a4 A5.refl sb_ rfl rfl rfl rfl rfl)
 refine ie (W2 rfl (fun a0=>?_) (fun a0=>?_))
 ·have a6:=bq_ a0
  exfalso;simp [aj] at a0
 have a6:=bq_ a0
 subst hR
 refine A3 ?_
 exact zen hr hD (A3f rfl) ⟨(e,d),⟨w,a1⟩⟩ sb_ fo_
theorem B5u {s:ScrC} {m c:List (Rwc Cel)} {t:List Bool} {a:Act}:(D9 s m c t a).onAlt=s.onAlt:=by
 unfold D9 E8
 generalize M2 s.rows a.n a.m=r
 obtain ⟨x,y,b⟩:=r
 cases b<;>rfl
theorem C3y {n m:Int} (h:(n=0∨n=1)∧1≤m∧m≤9999):(m * (1 - 2 * n)≤-1∨1≤m * (1 - 2 * n))∧-9999≤m * (1 - 2 * n)∧m * (1 - 2 * n)≤9999:=by
 rcases h.1 with rfl | rfl<;>omega
theorem B1d {n m:Int} {c:Col} {t:List UInt8} (h:O0 n m c t=0):(n=0∨n=1)∧1≤m∧m≤9999:=by
 unfold O0 at h
 generalize hb:((((!(E7 (⟨0,1⟩:Spn) n))||(!(E7 (⟨1,9999⟩:Spn) m)))||(!(decide (c=Col.zero))))||(!(decide (t=([]:List UInt8)))))=b at h
 cases b with
 | true=>cases h
 | false =>
  simp only [Bool.or_eq_false_iff,Bool.not_eq_false',E7,Bool.and_eq_true,decide_eq_true_eq] at hb
  omega
def O8 (s:ScrC) (sMain:List (Rwc Cel)) (sAlt:List (Rwc Cel)) (sTabs:List Bool) (a:Act):List (Rwc Cel) :=
 (E8 (Z2 s sMain sAlt sTabs s.top (a.m * (1 - (2 * a.n))) true) fun (b:List (Rwc Cel))=>b)
set_option maxRecDepth 100000 in
theorem A8m {s:ScrC} {sMain sAlt:List (Rwc Cel)} {sTabs:List Bool} {a:Act} {sb:Nat} {sMainq:Option Addr} {sMainrs:List Rwq} {sMaink:Nat} {sAltq:Option Addr} {sAltrs:List Rwq} {sAltk:Nat} {sTabsq:Option Addr} {sTabsk:Nat} {R:List (Rwc Cel)} (hR:O8 s sMain sAlt sTabs a=R) (c:B4 sMainrs sMain:=by exact om_) (u:sMain.length≤9223372036854775807:=by exact om_) (r:sMain.length≤sMaink:=by exact om_) (e:B4 sAltrs sAlt:=by exact om_) (a0:sAlt.length≤9223372036854775807:=by exact om_) (z:sAlt.length≤sAltk:=by exact om_) (y:sTabs.length≤9223372036854775807:=by exact om_) (p:sTabs.length≤sTabsk:=by exact om_) (a2:s.onAlt=true:=by exact om_) (o:(a.n=0∨a.n=1)∧1≤a.m∧a.m≤9999:=by exact om_):Con Tryz.prog 65 [pt sb 0,ag (B8 a)] [bx sb (B3 s ⟨sMainq,sMain.length,sMaink⟩ ⟨sAltq,sAlt.length,sAltk⟩ ⟨none,0,0⟩ ⟨sTabsq,sTabs.length,sTabsk⟩) 77] [sl B5 sMainq sMainrs,B7 B1 sMainrs sMain,sl B5 sAltq sAltrs,B7 B1 sAltrs sAlt,sl H4 sTabsq sTabs,O9,P0] ({t:VR×List Rwq // VOk 2 R.length t.1∧B4 t.2 R}) (fun x=>.tuple #[]) (fun x=>(bx sb (B3 s ⟨sMainq,sMain.length,sMaink⟩ ⟨va x.1.1.q,R.length,x.1.1.k⟩ ⟨none,0,0⟩ ⟨sTabsq,sTabs.length,sTabsk⟩) 77::((vo B5 72 x.1.1 x.1.2)++([])))) (fun x=>[B7 B1 x.1.2 R]):=by
 refine zce Tryz.func65 fun X hX hr hD=>?_
 replace hR:=(O8.eq_1 ..).symm.trans hR
 have:=c.1
 have:=e.1
 refine sR_ rfl (J3 1 0 [] (fun f=>[(3,pt f 0)]) (fun f=>[bx f (B8 a) 68,bx sb (B3 s ⟨sMainq,sMain.length,sMaink⟩ ⟨sAltq,sAlt.length,sAltk⟩ ⟨none,0,0⟩ ⟨sTabsq,sTabs.length,sTabsk⟩) 77]) (fun f=>?_))
 refine ie (sh' 14 [(14,[bx f (B8 a) 68]),(13,[bx sb (B3 s ⟨sMainq,sMain.length,sMaink⟩ ⟨sAltq,sAlt.length,sAltk⟩ ⟨none,0,0⟩ ⟨sTabsq,sTabs.length,sTabsk⟩) 77])] [sl B5 sMainq sMainrs,B7 B1 sMainrs sMain,sl B5 sAltq sAltrs,B7 B1 sAltrs sAlt,sl H4 sTabsq sTabs,O9,P0] [bx f (B8 a) 68,bx sb (B3 s ⟨sMainq,sMain.length,sMaink⟩ ⟨sAltq,sAlt.length,sAltk⟩ ⟨none,0,0⟩ ⟨sTabsq,sTabs.length,sTabsk⟩) 77] (zml 14 0) oki rfl oki oki oki sb_ A5.refl ?_)
 refine zhp [0,1,2,3,4,6,8] 7 (zml 14 351) [(4,pt sb 0),(8,pt sb 36),(10,pt f 2),(12,pt f 1)] ?_
 refine zhl 5 [bx f (B8 a) 68,bx sb (B3 s ⟨sMainq,sMain.length,sMaink⟩ ⟨sAltq,sAlt.length,sAltk⟩ ⟨none,0,0⟩ ⟨sTabsq,sTabs.length,sTabsk⟩) 77] (zml 14 383) rfl (A7 (v:=iv s.top) ty3 rfl rfl 1 rfl rfl) ?_
 refine zhl 7 [bx f (B8 a) 68] (zml 14 511) rfl (A7 (v:=iv a.m) ty3 rfl rfl 0 rfl rfl) ?_
 refine zhl 9 [bx f (B8 a) 68] (zml 14 1023) rfl (A7 (v:=iv a.n) ty3 rfl rfl 0 rfl rfl) ?_
 refine zhk 10 (zml 14 2047) rfl (B8q rfl rfl rfl rfl (by first|omega|(rcases o.1 with h|h<;>rw [h]<;>omega))) ?_
 refine zhk 11 (zml 14 4095) rfl (R9 rfl rfl rfl rfl (by first|omega|(rcases o.1 with h|h<;>rw [h]<;>omega))) ?_
 refine zhk 12 (zml 14 8191) rfl (B8q rfl rfl rfl rfl (by first|omega|(rcases o.1 with h|h<;>rw [h]<;>omega))) ?_
 have hQ:=E9 hR;clear hR;obtain ⟨b,d,hR⟩:=hQ
 refine zho 13 [bx f (B8 a) 68] (zml 14 16383) rfl (I4 (L2:=[bx f (B8 a) 68]) (A9s d c om_ om_ e om_ om_ om_ om_ obk (by first|omega|exact C3y (by assumption))) rfl rfl rfl rfl rfl A5.refl (J5 [[bx f (B8 a) 68],[bx sb (B3 s ⟨sMainq,sMain.length,sMaink⟩ ⟨sAltq,sAlt.length,sAltk⟩ ⟨none,0,0⟩ ⟨sTabsq,sTabs.length,sTabsk⟩) 77]] [1,0] 2 rfl ozw rfl [[bx sb (B3 s ⟨sMainq,sMain.length,sMaink⟩ ⟨sAltq,sAlt.length,sAltk⟩ ⟨none,0,0⟩ ⟨sTabsq,sTabs.length,sTabsk⟩) 77],[bx f (B8 a) 68]] rfl opl) (fun ⟨⟨i,g⟩,j⟩=>(bx sb (B3 s ⟨sMainq,sMain.length,sMaink⟩ ⟨va i.q,b.length,i.k⟩ ⟨none,0,0⟩ ⟨sTabsq,sTabs.length,sTabsk⟩) 77::bx f (B8 a) 68::((vo B5 72 i g)++([])))) (fun ⟨⟨i,g⟩,j⟩=>J5 [[bx sb (B3 s ⟨sMainq,sMain.length,sMaink⟩ ⟨va i.q,b.length,i.k⟩ ⟨none,0,0⟩ ⟨sTabsq,sTabs.length,sTabsk⟩) 77],vo B5 72 i g,[bx f (B8 a) 68]] [0,2,1] 3 rfl ozw opl [[bx sb (B3 s ⟨sMainq,sMain.length,sMaink⟩ ⟨va i.q,b.length,i.k⟩ ⟨none,0,0⟩ ⟨sTabsq,sTabs.length,sTabsk⟩) 77],[bx f (B8 a) 68],vo B5 72 i g] rfl opl)) (fun ⟨⟨i,g⟩,j⟩=>sb_) (fun ⟨⟨i,g⟩,j⟩=>fo_) fun ⟨⟨i,g⟩,j⟩=>?_
 try dsimp only at j
 obtain ⟨l,w⟩:=j
 have:=VOk.le l
 have:=VOk.cap l
 have:=w.1
 refine A0s oki ?_
 subst hR
 exact zen hr hD (A3f rfl) ⟨(i,g),⟨l,w⟩⟩ sb_ fo_
def A0w (s:ScrC) (sMain:List (Rwc Cel)) (sAlt:List (Rwc Cel)) (sTabs:List Bool):Int×Int×Int×Int×Bool :=
 (s.rows,s.cols,s.top,s.bottom,s.modes.origin)
set_option maxRecDepth 100000 in
theorem A8j {s:ScrC} {sMain sAlt:List (Rwc Cel)} {sTabs:List Bool} {sb:Nat} {sMainq:Option Addr} {sMainrs:List Rwq} {sMaink:Nat} {sAltr:VR} {sAltrs:List Rwq} {sTabsq:Option Addr} {sTabsk:Nat} {R:Int×Int×Int×Int×Bool} (hR:A0w s sMain sAlt sTabs=R) (a:B4 sMainrs sMain:=by exact om_) (h:sMain.length≤9223372036854775807:=by exact om_) (g:sMain.length≤sMaink:=by exact om_) (c:VOk 2 sAlt.length sAltr:=by exact om_) (b:B4 sAltrs sAlt:=by exact om_) (f:sTabs.length≤9223372036854775807:=by exact om_) (e:sTabs.length≤sTabsk:=by exact om_):Con Tryz.prog 91 [pt sb 0] (bx sb (B3 s ⟨sMainq,sMain.length,sMaink⟩ ⟨va sAltr.q,sAlt.length,sAltr.k⟩ ⟨none,0,0⟩ ⟨sTabsq,sTabs.length,sTabsk⟩) 77::((vo B5 72 sAltr sAltrs)++([]))) [sl B5 sMainq sMainrs,B7 B1 sMainrs sMain,B7 B1 sAltrs sAlt,sl H4 sTabsq sTabs] (Unit) (fun x=>ag [iv R.1,iv R.2.1,iv R.2.2.1,iv R.2.2.2.1,bv R.2.2.2.2]) (fun x=>(bx sb (B3 s ⟨sMainq,sMain.length,sMaink⟩ ⟨va sAltr.q,sAlt.length,sAltr.k⟩ ⟨none,0,0⟩ ⟨sTabsq,sTabs.length,sTabsk⟩) 77::((vo B5 72 sAltr sAltrs)++([])))) (fun x=>[]):=by
 refine zce Tryz.func91 fun X hX hr hD=>?_
 replace hR:=(A0w.eq_1 ..).symm.trans hR
 have:=a.1
 have:=VOk.le c
 have:=b.1
 refine sR_ rfl (J3 1 0 [] (fun d=>[(2,pt d 0)]) (fun d=>(bx d [iv 0,iv 0,iv 0,iv 0,bv false] 136::bx sb (B3 s ⟨sMainq,sMain.length,sMaink⟩ ⟨va sAltr.q,sAlt.length,sAltr.k⟩ ⟨none,0,0⟩ ⟨sTabsq,sTabs.length,sTabsk⟩) 77::((vo B5 72 sAltr sAltrs)++([])))) (fun d=>?_))
 refine ie ?_
 refine sh 28 [(27,[bx d [iv 0,iv 0,iv 0,iv 0,bv false] 136]),(28,[bx sb (B3 s ⟨sMainq,sMain.length,sMaink⟩ ⟨va sAltr.q,sAlt.length,sAltr.k⟩ ⟨none,0,0⟩ ⟨sTabsq,sTabs.length,sTabsk⟩) 77]),(28,vo B5 72 sAltr sAltrs)] [sl B5 sMainq sMainrs,B7 B1 sMainrs sMain,B7 B1 sAltrs sAlt,sl H4 sTabsq sTabs] (bx d [iv 0,iv 0,iv 0,iv 0,bv false] 136::bx sb (B3 s ⟨sMainq,sMain.length,sMaink⟩ ⟨va sAltr.q,sAlt.length,sAltr.k⟩ ⟨none,0,0⟩ ⟨sTabsq,sTabs.length,sTabsk⟩) 77::((vo B5 72 sAltr sAltrs)++([]))) (zml 28 0) oki rfl oki oki oki sb_ A5.refl ?_
 refine zhp [0,1,2,3,5,6,7,8,10,11,12,13,15,16,17,18,20,21,22,23,24] 7 (zml 28 33013231) [(6,pt sb 1),(11,pt sb 0),(16,pt sb 36),(21,pt sb 37),(27,pt sb 27)] ?_
 refine zhl 4 (bx d [iv 0,iv 0,iv 0,iv 0,bv false] 136::bx sb (B3 s ⟨sMainq,sMain.length,sMaink⟩ ⟨va sAltr.q,sAlt.length,sAltr.k⟩ ⟨none,0,0⟩ ⟨sTabsq,sTabs.length,sTabsk⟩) 77::((vo B5 72 sAltr sAltrs)++([]))) (zml 28 33013247) rfl (A7 (v:=iv s.rows) ty3 rfl rfl 1 rfl rfl) ?_
 refine zhl 9 (bx d [iv 0,iv 0,iv 0,iv 0,bv false] 136::bx sb (B3 s ⟨sMainq,sMain.length,sMaink⟩ ⟨va sAltr.q,sAlt.length,sAltr.k⟩ ⟨none,0,0⟩ ⟨sTabsq,sTabs.length,sTabsk⟩) 77::((vo B5 72 sAltr sAltrs)++([]))) (zml 28 33013759) rfl (A7 (v:=iv s.cols) ty3 rfl rfl 1 rfl rfl) ?_
 refine zhl 14 (bx d [iv 0,iv 0,iv 0,iv 0,bv false] 136::bx sb (B3 s ⟨sMainq,sMain.length,sMaink⟩ ⟨va sAltr.q,sAlt.length,sAltr.k⟩ ⟨none,0,0⟩ ⟨sTabsq,sTabs.length,sTabsk⟩) 77::((vo B5 72 sAltr sAltrs)++([]))) (zml 28 33030143) rfl (A7 (v:=iv s.top) ty3 rfl rfl 1 rfl rfl) ?_
 refine zhl 19 (bx d [iv 0,iv 0,iv 0,iv 0,bv false] 136::bx sb (B3 s ⟨sMainq,sMain.length,sMaink⟩ ⟨va sAltr.q,sAlt.length,sAltr.k⟩ ⟨none,0,0⟩ ⟨sTabsq,sTabs.length,sTabsk⟩) 77::((vo B5 72 sAltr sAltrs)++([]))) (zml 28 33554431) rfl (A7 (v:=iv s.bottom) ty3 rfl rfl 1 rfl rfl) ?_
 refine zhl 25 (bx d [iv 0,iv 0,iv 0,iv 0,bv false] 136::bx sb (B3 s ⟨sMainq,sMain.length,sMaink⟩ ⟨va sAltr.q,sAlt.length,sAltr.k⟩ ⟨none,0,0⟩ ⟨sTabsq,sTabs.length,sTabsk⟩) 77::((vo B5 72 sAltr sAltrs)++([]))) (zml 28 67108863) rfl (A7 (v:=bv s.modes.origin) ty4 rfl rfl 1 rfl rfl) ?_
 refine zhk 26 (zml 28 134217727) rfl (N8 (cs:=[iv s.rows,iv s.cols,iv s.top,iv s.bottom,bv s.modes.origin]) rfl rfl oki) ?_
 refine zho 27 (bx sb (B3 s ⟨sMainq,sMain.length,sMaink⟩ ⟨va sAltr.q,sAlt.length,sAltr.k⟩ ⟨none,0,0⟩ ⟨sTabsq,sTabs.length,sTabsk⟩) 77::((vo B5 72 sAltr sAltrs)++([]))) (zml 28 268435455) rfl (D0 (us:=[iv s.rows,iv s.cols,iv s.top,iv s.bottom,bv s.modes.origin]) (cs':=[iv s.rows,iv s.cols,iv s.top,iv s.bottom,bv s.modes.origin]) C4k rfl rfl rfl 0 rfl rfl rfl rfl rfl rfl) (fun _=>sb_) (fun _=>A5.refl) fun _=>?_
 refine P4 oki ?_
 subst hR
 refine A6 ?_
 exact zer hr hD (U4 rfl (L6 (us:=[iv s.rows,iv s.cols,iv s.top,iv s.bottom,bv s.modes.origin]) C4k rfl 0 rfl rfl rfl)) () sb_ A5.nil
def H8 (s:ScrC) (sMain:List (Rwc Cel)) (sAlt:List (Rwc Cel)) (sTabs:List Bool) (a:Act):ScrC :=
 (E8 (M2 s.rows a.n a.m) fun (c:Int×Int×Bool)=>(bif c.2.2 then (E8 (A0w ({s with top:=c.1,bottom:=c.2.1}) sMain sAlt sTabs) fun (b:Int×Int×Int×Int×Bool)=>(E8 (X9 b.1 b.2.1 b.2.2.1 b.2.2.2.1 b.2.2.2.2) fun (d:Cur×Int)=>{s with top:=c.1,bottom:=c.2.1,cursor:=d.1})) else s))
set_option maxRecDepth 100000 in
theorem A6w {s:ScrC} {sMain sAlt:List (Rwc Cel)} {sTabs:List Bool} {a:Act} {sb:Nat} {sMainq:Option Addr} {sMainrs:List Rwq} {sMaink:Nat} {sAltr:VR} {sAltrs:List Rwq} {sTabsq:Option Addr} {sTabsk:Nat} {R:ScrC} (hR:H8 s sMain sAlt sTabs a=R) (d:B4 sMainrs sMain:=by exact om_) (p:sMain.length≤9223372036854775807:=by exact om_) (o:sMain.length≤sMaink:=by exact om_) (h:VOk 2 sAlt.length sAltr:=by exact om_) (e:B4 sAltrs sAlt:=by exact om_) (r:sTabs.length≤9223372036854775807:=by exact om_) (m:sTabs.length≤sTabsk:=by exact om_):Con Tryz.prog 57 [pt sb 0,ag (B8 a)] (bx sb (B3 s ⟨sMainq,sMain.length,sMaink⟩ ⟨va sAltr.q,sAlt.length,sAltr.k⟩ ⟨none,0,0⟩ ⟨sTabsq,sTabs.length,sTabsk⟩) 77::((vo B5 72 sAltr sAltrs)++([]))) [sl B5 sMainq sMainrs,B7 B1 sMainrs sMain,B7 B1 sAltrs sAlt,sl H4 sTabsq sTabs] (Unit) (fun x=>.tuple #[]) (fun x=>(bx sb (B3 R ⟨sMainq,sMain.length,sMaink⟩ ⟨va sAltr.q,sAlt.length,sAltr.k⟩ ⟨none,0,0⟩ ⟨sTabsq,sTabs.length,sTabsk⟩) 77::((vo B5 72 sAltr sAltrs)++([])))) (fun x=>[]):=by
 refine zce Tryz.func57 fun X hX hr hD=>?_
 replace hR:=(H8.eq_1 ..).symm.trans hR
 have:=d.1
 have:=VOk.le h
 have:=e.1
 refine sR_ rfl (J3 1 0 [] (fun l=>[(3,pt l 0)]) (fun l=>(bx l (B8 a) 68::bx sb (B3 s ⟨sMainq,sMain.length,sMaink⟩ ⟨va sAltr.q,sAlt.length,sAltr.k⟩ ⟨none,0,0⟩ ⟨sTabsq,sTabs.length,sTabsk⟩) 77::((vo B5 72 sAltr sAltrs)++([])))) (fun l=>?_))
 refine ie (sd 17 rfl oki rfl ?_)
 refine pg3 9 [1,0,0] 12 14 16 rfl ?_
 have n:=E9 hR;clear hR;obtain ⟨b,f,hR⟩:=n
 refine zvd rfl (A6z f) ?_
 refine pd3 7 4 5 6 rfl ?_
 refine de (sR_ rfl (pp1 1 21 rfl ?_))
 refine ie ?_
 refine zjb rfl hR ?_ ?_<;>clear hR<;>intro hR t
 ·refine sR_ rfl (zrg 12 0 [1,1] [] (bx l (B8 a) 68::bx sb (B3 ({s with top:=b.1,bottom:=b.2.1}) ⟨sMainq,sMain.length,sMaink⟩ ⟨va sAltr.q,sAlt.length,sAltr.k⟩ ⟨none,0,0⟩ ⟨sTabsq,sTabs.length,sTabsk⟩) 77::((vo B5 72 sAltr sAltrs)++([]))) ?_)
  refine ie (A0 11 rfl (pp2 2 33 34 rfl ?_))
  have n:=E9 hR;clear hR;obtain ⟨j,c,hR⟩:=n
  refine zc rfl (A8j c d om_ om_ h e) fun _=>?_
  have n:=E9 hR;clear hR;obtain ⟨i,g,hR⟩:=n
  refine zv rfl (B0e g) ?_
  refine zrg 7 0 [0] [] (bx sb (B3 ({s with top:=b.1,bottom:=b.2.1,cursor:=i.1}) ⟨sMainq,sMain.length,sMaink⟩ ⟨va sAltr.q,sAlt.length,sAltr.k⟩ ⟨none,0,0⟩ ⟨sTabsq,sTabs.length,sTabsk⟩) 77::bx l (B8 a) 68::((vo B5 72 sAltr sAltrs)++([]))) ?_
  subst hR
  refine A1 ?_
  exact zen hr hD (A3f rfl) () sb_ A5.nil
 subst hR
 refine A3 ?_
 exact zen hr hD (A3f rfl) () sb_ A5.nil
def W5 (sMain:List (Rwc Cel)) (sTabs:List Bool) (a:List (Rwc Cel)) (b:ScrC):ScrC×List (Rwc Cel)×List (Rwc Cel)×List Bool×Int :=
 ((H8 b sMain a sTabs (⟨38,0,0,Col.zero,([]:List UInt8)⟩:Act)),sMain,a,sTabs,0)
def S7 (sMain:List (Rwc Cel)) (sAlt:List (Rwc Cel)) (sTabs:List Bool) (l:List Act) (b:ScrC):ScrC×List (Rwc Cel)×List (Rwc Cel)×List Bool×Int :=
 (E8 (O8 b sMain sAlt sTabs (⟨33,(l.getD 1 Act.zero).n,(l.getD 1 Act.zero).m,Col.zero,([]:List UInt8)⟩:Act)) fun (a:List (Rwc Cel))=>(bif (!(O2 0 0 Col.zero ([]:List UInt8))) then W5 sMain sTabs a ({b with last:=0,cursor:={b.cursor with wrap:=false}}) else W5 sMain sTabs a ({b with last:=0})))
def W6 (sMain:List (Rwc Cel)) (sAlt:List (Rwc Cel)) (sTabs:List Bool) (l:List Act) (x:ScrC):ScrC×List (Rwc Cel)×List (Rwc Cel)×List Bool×Int :=
 (bif (!(Z6 ((l.getD 1 Act.zero).n) ((l.getD 1 Act.zero).m) Col.zero ([]:List UInt8))) then S7 sMain sAlt sTabs l ({(D9 x sMain sAlt sTabs (⟨38,(l.getD 0 Act.zero).n,(l.getD 0 Act.zero).m,Col.zero,([]:List UInt8)⟩:Act)) with last:=0,cursor:={(D9 x sMain sAlt sTabs (⟨38,(l.getD 0 Act.zero).n,(l.getD 0 Act.zero).m,Col.zero,([]:List UInt8)⟩:Act)).cursor with wrap:=false}}) else S7 sMain sAlt sTabs l ({(D9 x sMain sAlt sTabs (⟨38,(l.getD 0 Act.zero).n,(l.getD 0 Act.zero).m,Col.zero,([]:List UInt8)⟩:Act)) with last:=0}))
def A3p (s:ScrC) (sMain:List (Rwc Cel)) (sAlt:List (Rwc Cel)) (sTabs:List Bool) (l:List Act):ScrC×List (Rwc Cel)×List (Rwc Cel)×List Bool×Int :=
 (bif (!decide ((M3 s sMain sAlt sTabs)=0)) then (ScrC.zero,([]:List (Rwc Cel)),([]:List (Rwc Cel)),([]:List Bool),(M3 s sMain sAlt sTabs)) else (bif (!decide ((J4 ((l.getD 0 Act.zero).n) ((l.getD 0 Act.zero).m) Col.zero ([]:List UInt8))=0)) then (ScrC.zero,([]:List (Rwc Cel)),([]:List (Rwc Cel)),([]:List Bool),(J4 ((l.getD 0 Act.zero).n) ((l.getD 0 Act.zero).m) Col.zero ([]:List UInt8))) else (bif (!decide ((O0 ((l.getD 1 Act.zero).n) ((l.getD 1 Act.zero).m) Col.zero ([]:List UInt8))=0)) then (ScrC.zero,([]:List (Rwc Cel)),([]:List (Rwc Cel)),([]:List Bool),(O0 ((l.getD 1 Act.zero).n) ((l.getD 1 Act.zero).m) Col.zero ([]:List UInt8))) else (bif (!decide ((J4 0 0 Col.zero ([]:List UInt8))=0)) then (ScrC.zero,([]:List (Rwc Cel)),([]:List (Rwc Cel)),([]:List Bool),(J4 0 0 Col.zero ([]:List UInt8))) else (bif (!(O2 ((l.getD 0 Act.zero).n) ((l.getD 0 Act.zero).m) Col.zero ([]:List UInt8))) then W6 sMain sAlt sTabs l ({s with last:=0,cursor:={s.cursor with wrap:=false}}) else W6 sMain sAlt sTabs l ({s with last:=0}))))))
theorem otl {p:Prop} (h:p:=by first|omega|(simp only [List.length_take,List.length_drop,List.length_append,List.length_cons,List.length_nil,List.length_set,List.length_map,H6];omega)|decide):p:=h
set_option maxRecDepth 100000 in
theorem B7t {s:ScrC} {sMain sAlt:List (Rwc Cel)} {sTabs:List Bool} {l:List Act} {sMainq:Option Addr} {sMainrs:List Rwq} {sMaink:Nat} {sAltq:Option Addr} {sAltrs:List Rwq} {sAltk:Nat} {sTabsq:Option Addr} {sTabsk:Nat} {lq:Option Addr} {lk:Nat} {R:ScrC×List (Rwc Cel)×List (Rwc Cel)×List Bool×Int} (hR:A3p s sMain sAlt sTabs l=R) (b:B4 sMainrs sMain:=by exact om_) (ai:sMain.length≤9223372036854775807:=by exact om_) (ac:sMain.length≤sMaink:=by exact om_) (d:B4 sAltrs sAlt:=by exact om_) (ak:sAlt.length≤9223372036854775807:=by exact om_) (aj:sAlt.length≤sAltk:=by exact om_) (ad:sTabs.length≤9223372036854775807:=by exact om_) (ab:sTabs.length≤sTabsk:=by exact om_) (au:l.length≤9223372036854775807:=by exact om_) (ay:l.length≤lk:=by exact om_) (u:l.length=3:=by exact om_) (b3:s.title.length≤100000000:=by exact om_) (a6:B4b l:=by exact om_) (ah:s.onAlt=true:=by exact om_):Con Tryz.prog 8 [ag (B3 s ⟨sMainq,sMain.length,sMaink⟩ ⟨sAltq,sAlt.length,sAltk⟩ ⟨none,0,0⟩ ⟨sTabsq,sTabs.length,sTabsk⟩),.slice lq 3 lk] [] [sl B5 sMainq sMainrs,B7 B1 sMainrs sMain,sl B5 sAltq sAltrs,B7 B1 sAltrs sAlt,sl H4 sTabsq sTabs,sl B8 lq l,O9,P0] ({t:Option Addr×List Rwq×Nat // B4 t.2.1 R.2.1∧R.2.1.length≤t.2.2∧R.2.1.length≤9223372036854775807}×{t:VR×List Rwq // VOk 2 R.2.2.1.length t.1∧B4 t.2 R.2.2.1}×{t:Option Addr×Nat // R.2.2.2.1.length≤t.2∧R.2.2.2.1.length≤9223372036854775807}) (fun x=>.tuple #[ag (B3 R.1 ⟨x.1.1.1,R.2.1.length,x.1.1.2.2⟩ ⟨va x.2.1.1.1.q,R.2.2.1.length,x.2.1.1.1.k⟩ ⟨none,0,0⟩ ⟨x.2.2.1.1,R.2.2.2.1.length,x.2.2.1.2⟩),iv R.2.2.2.2]) (fun x=>((vo B5 72 x.2.1.1.1 x.2.1.1.2)++([]))) (fun x=>[sl B5 x.1.1.1 x.1.1.2.1,B7 B1 x.1.1.2.1 R.2.1,B7 B1 x.2.1.1.2 R.2.2.1,sl H4 x.2.2.1.1 R.2.2.2.1]):=by
 refine zce Tryz.func8 fun X hX hr hD=>?_
 replace hR:=(A3p.eq_1 ..).symm.trans hR
 have:=b.1
 have:=d.1
 refine sR_ rfl (A4z 3 0 [] (fun y r=>[(2,pt y 0),(4,pt r 0)]) (fun y r=>[bx r (B3 ScrC.zero ⟨none,0,0⟩ ⟨none,0,0⟩ ⟨none,0,0⟩ ⟨none,0,0⟩) 52,bx y (B3 s ⟨sMainq,sMain.length,sMaink⟩ ⟨sAltq,sAlt.length,sAltk⟩ ⟨none,0,0⟩ ⟨sTabsq,sTabs.length,sTabsk⟩) 52]) (fun y r=>?_))
 refine ie (A2 (sR_ rfl (zrl 1 2 [1] [(16,ag (B3 s ⟨sMainq,sMain.length,sMaink⟩ ⟨sAltq,sAlt.length,sAltk⟩ ⟨none,0,0⟩ ⟨sTabsq,sTabs.length,sTabsk⟩))] ?_)))
 refine zv rfl (A8i rfl b om_ om_ d) ?_
 refine pp1 1 6 rfl ?_
 refine ie (sR_ rfl (pp1 2 19 rfl ?_))
 refine ie ?_
 refine zjn rfl hR ?_ ?_<;>clear hR<;>intro hR h3 aq
 ·refine sR_ rfl (zrg 4 0 [0] [(5,iv (M3 s sMain sAlt sTabs))] [bx r (B3 ScrC.zero ⟨none,0,0⟩ ⟨none,0,0⟩ ⟨none,0,0⟩ ⟨none,0,0⟩) 52,bx y (B3 s ⟨sMainq,sMain.length,sMaink⟩ ⟨sAltq,sAlt.length,sAltk⟩ ⟨none,0,0⟩ ⟨sTabsq,sTabs.length,sTabsk⟩) 52] ?_)
  subst hR
  refine ie (A6 ?_)
  exact zer hr hD (V1 rfl (P7 (us:=B3 ScrC.zero ⟨none,0,0⟩ ⟨none,0,0⟩ ⟨none,0,0⟩ ⟨none,0,0⟩) A9j rfl 0 rfl rfl) (A4 rfl)) (⟨(none,[],0),⟨B4.none,otl,otl⟩⟩,⟨(VR.nil,([]:List Rwq)),⟨VOk.nil,B4.none⟩⟩,(zq none 0)) sb_ fo_
 refine A3 (nx (A2 (sR_ rfl (pp1 3 24 rfl ?_))))
 refine ie (P1 rfl (A3 (nx (A2 (sR_ rfl (pp3 3 26 27 28 rfl ?_))))))
 refine ie (A8 (P9 5 ?_))
 refine D6 (sR_ rfl (pp1 1 29 rfl ?_))
 refine ie (A2 (G1 rfl (A3 (nx (A2 (A8 (sR_ rfl (N2 5 rfl opx fun a4 w=>?_))))))))
 refine ix rfl (F7 B0d rfl rfl w rfl 0 rfl (by first|omega|(rw [u];decide))) ?_
 refine ix rfl (H2 (I3 (us:=B8 (l.getD 0 Act.zero)) C0s rfl rfl (H5 (c:=B8) (sz:=6) w (fun _=>rfl) 5 rfl (gd Act.zero (by first|omega|(rw [u];decide)))) rfl) (congrArg (fun z=>ag (B8 z)) (a6.at0))) ?_
 refine J3 2 0 [0] (fun b6=>[(8,pt b6 0)]) (fun b6=>[bx b6 (B8 (⟨38,(l.getD 0 Act.zero).n,(l.getD 0 Act.zero).m,Col.zero,([]:List UInt8)⟩:Act)) 68,bx r (B3 ScrC.zero ⟨none,0,0⟩ ⟨none,0,0⟩ ⟨none,0,0⟩ ⟨none,0,0⟩) 52,bx y (B3 s ⟨sMainq,sMain.length,sMaink⟩ ⟨sAltq,sAlt.length,sAltk⟩ ⟨none,0,0⟩ ⟨sTabsq,sTabs.length,sTabsk⟩) 52]) (fun b6=>?_)
 refine ie (sR_ rfl (zrl 1 2 [0] [(32,ag (B8 (⟨38,(l.getD 0 Act.zero).n,(l.getD 0 Act.zero).m,Col.zero,([]:List UInt8)⟩:Act)))] ?_))
 refine zv rfl (A8b rfl) ?_
 refine pp1 1 9 rfl ?_
 refine ie (sR_ rfl (pp1 2 35 rfl ?_))
 refine ie ?_
 refine zjn rfl hR ?_ ?_<;>clear hR<;>intro hR h7 an
 ·refine sR_ rfl (zrg 4 0 [1] [(5,iv (J4 ((l.getD 0 Act.zero).n) ((l.getD 0 Act.zero).m) Col.zero ([]:List UInt8)))] [bx b6 (B8 (⟨38,(l.getD 0 Act.zero).n,(l.getD 0 Act.zero).m,Col.zero,([]:List UInt8)⟩:Act)) 68,bx r (B3 ScrC.zero ⟨none,0,0⟩ ⟨none,0,0⟩ ⟨none,0,0⟩ ⟨none,0,0⟩) 52,bx y (B3 s ⟨sMainq,sMain.length,sMaink⟩ ⟨sAltq,sAlt.length,sAltk⟩ ⟨none,0,0⟩ ⟨sTabsq,sTabs.length,sTabsk⟩) 52] ?_)
  subst hR
  refine ie (A6 ?_)
  exact zer hr hD (V1 rfl (P7 (us:=B3 ScrC.zero ⟨none,0,0⟩ ⟨none,0,0⟩ ⟨none,0,0⟩ ⟨none,0,0⟩) A9j rfl 1 rfl rfl) (A4 rfl)) (⟨(none,[],0),⟨B4.none,otl,otl⟩⟩,⟨(VR.nil,([]:List Rwq)),⟨VOk.nil,B4.none⟩⟩,(zq none 0)) sb_ fo_
 try have ap:=B1d (by first|assumption|exact Decidable.of_not_not an)
 refine A3 (nx (A0 2 rfl (ix rfl (A9 (c:=1) rfl rfl rfl rfl ozw) ?_)))
 refine pp1 1 28 rfl ?_
 refine A1 (D6 (sR_ rfl (pp1 1 29 rfl ?_)))
 refine ie (A2 (G1 rfl (A3 (nx (A2 (A8 (sR_ rfl (ix rfl (F7 B0d rfl rfl w rfl 1 rfl (by first|omega|(rw [u];decide))) ?_))))))))
 refine ix rfl (H2 (I3 (us:=B8 (l.getD 1 Act.zero)) C0s rfl rfl (H5 (c:=B8) (sz:=6) w (fun _=>rfl) 5 rfl (gd Act.zero (by first|omega|(rw [u];decide)))) rfl) (congrArg (fun z=>ag (B8 z)) (a6.at1))) ?_
 refine J3 2 0 [0] (fun b8=>[(8,pt b8 0)]) (fun b8=>[bx b8 (B8 (⟨33,(l.getD 1 Act.zero).n,(l.getD 1 Act.zero).m,Col.zero,([]:List UInt8)⟩:Act)) 68,bx b6 (B8 (⟨38,(l.getD 0 Act.zero).n,(l.getD 0 Act.zero).m,Col.zero,([]:List UInt8)⟩:Act)) 68,bx r (B3 ScrC.zero ⟨none,0,0⟩ ⟨none,0,0⟩ ⟨none,0,0⟩ ⟨none,0,0⟩) 52,bx y (B3 s ⟨sMainq,sMain.length,sMaink⟩ ⟨sAltq,sAlt.length,sAltk⟩ ⟨none,0,0⟩ ⟨sTabsq,sTabs.length,sTabsk⟩) 52]) (fun b8=>?_)
 refine ie (sR_ rfl (zrl 1 2 [0] [(32,ag (B8 (⟨33,(l.getD 1 Act.zero).n,(l.getD 1 Act.zero).m,Col.zero,([]:List UInt8)⟩:Act)))] ?_))
 refine zv rfl (B5j rfl) ?_
 refine pp1 1 9 rfl ?_
 refine ie (sR_ rfl (pp1 2 35 rfl ?_))
 refine ie ?_
 refine zjn rfl hR ?_ ?_<;>clear hR<;>intro hR h9 am
 ·refine sR_ rfl (zrg 4 0 [2] [(5,iv (O0 ((l.getD 1 Act.zero).n) ((l.getD 1 Act.zero).m) Col.zero ([]:List UInt8)))] [bx b8 (B8 (⟨33,(l.getD 1 Act.zero).n,(l.getD 1 Act.zero).m,Col.zero,([]:List UInt8)⟩:Act)) 68,bx b6 (B8 (⟨38,(l.getD 0 Act.zero).n,(l.getD 0 Act.zero).m,Col.zero,([]:List UInt8)⟩:Act)) 68,bx r (B3 ScrC.zero ⟨none,0,0⟩ ⟨none,0,0⟩ ⟨none,0,0⟩ ⟨none,0,0⟩) 52,bx y (B3 s ⟨sMainq,sMain.length,sMaink⟩ ⟨sAltq,sAlt.length,sAltk⟩ ⟨none,0,0⟩ ⟨sTabsq,sTabs.length,sTabsk⟩) 52] ?_)
  subst hR
  refine ie (A6 ?_)
  exact zer hr hD (V1 rfl (P7 (us:=B3 ScrC.zero ⟨none,0,0⟩ ⟨none,0,0⟩ ⟨none,0,0⟩ ⟨none,0,0⟩) A9j rfl 2 rfl rfl) (A4 rfl)) (⟨(none,[],0),⟨B4.none,otl,otl⟩⟩,⟨(VR.nil,([]:List Rwq)),⟨VOk.nil,B4.none⟩⟩,(zq none 0)) sb_ fo_
 try have ao:=B1d (by first|assumption|exact Decidable.of_not_not am)
 refine A3 (nx (A0 2 rfl (ix rfl (A9 (c:=2) rfl rfl rfl rfl ozw) ?_)))
 refine pp1 1 28 rfl ?_
 refine A1 (D6 (sR_ rfl (pp1 1 29 rfl ?_)))
 refine ie (A2 (G1 rfl (A3 (nx (A2 (A8 (sR_ rfl (ix rfl (F7 B0d rfl rfl w rfl 2 rfl (by first|omega|(rw [u];decide))) ?_))))))))
 refine ix rfl (H2 (I3 (us:=B8 (l.getD 2 Act.zero)) C0s rfl rfl (H5 (c:=B8) (sz:=6) w (fun _=>rfl) 5 rfl (gd Act.zero (by first|omega|(rw [u];decide)))) rfl) (congrArg (fun z=>ag (B8 z)) (a6.at2))) ?_
 refine J3 2 0 [0] (fun h=>[(8,pt h 0)]) (fun h=>[bx h (B8 (⟨38,0,0,Col.zero,([]:List UInt8)⟩:Act)) 68,bx b8 (B8 (⟨33,(l.getD 1 Act.zero).n,(l.getD 1 Act.zero).m,Col.zero,([]:List UInt8)⟩:Act)) 68,bx b6 (B8 (⟨38,(l.getD 0 Act.zero).n,(l.getD 0 Act.zero).m,Col.zero,([]:List UInt8)⟩:Act)) 68,bx r (B3 ScrC.zero ⟨none,0,0⟩ ⟨none,0,0⟩ ⟨none,0,0⟩ ⟨none,0,0⟩) 52,bx y (B3 s ⟨sMainq,sMain.length,sMaink⟩ ⟨sAltq,sAlt.length,sAltk⟩ ⟨none,0,0⟩ ⟨sTabsq,sTabs.length,sTabsk⟩) 52]) (fun h=>?_)
 refine ie (sR_ rfl (zrl 1 2 [0] [(32,ag (B8 (⟨38,0,0,Col.zero,([]:List UInt8)⟩:Act)))] ?_))
 refine zv rfl (A8b rfl) ?_
 refine pp1 1 9 rfl ?_
 refine ie (sR_ rfl (pp1 2 35 rfl ?_))
 refine ie ?_
 refine zjn rfl hR ?_ ?_<;>clear hR<;>intro hR az ae
 ·refine sR_ rfl (zrg 4 0 [3] [(5,iv (J4 0 0 Col.zero ([]:List UInt8)))] [bx h (B8 (⟨38,0,0,Col.zero,([]:List UInt8)⟩:Act)) 68,bx b8 (B8 (⟨33,(l.getD 1 Act.zero).n,(l.getD 1 Act.zero).m,Col.zero,([]:List UInt8)⟩:Act)) 68,bx b6 (B8 (⟨38,(l.getD 0 Act.zero).n,(l.getD 0 Act.zero).m,Col.zero,([]:List UInt8)⟩:Act)) 68,bx r (B3 ScrC.zero ⟨none,0,0⟩ ⟨none,0,0⟩ ⟨none,0,0⟩ ⟨none,0,0⟩) 52,bx y (B3 s ⟨sMainq,sMain.length,sMaink⟩ ⟨sAltq,sAlt.length,sAltk⟩ ⟨none,0,0⟩ ⟨sTabsq,sTabs.length,sTabsk⟩) 52] ?_)
  subst hR
  refine ie (A6 ?_)
  exact zer hr hD (V1 rfl (P7 (us:=B3 ScrC.zero ⟨none,0,0⟩ ⟨none,0,0⟩ ⟨none,0,0⟩ ⟨none,0,0⟩) A9j rfl 3 rfl rfl) (A4 rfl)) (⟨(none,[],0),⟨B4.none,otl,otl⟩⟩,⟨(VR.nil,([]:List Rwq)),⟨VOk.nil,B4.none⟩⟩,(zq none 0)) sb_ fo_
 try have al:=B1d (by first|assumption|exact Decidable.of_not_not ae)
 refine A3 (nx (A0 2 rfl (ix rfl (A9 (c:=3) rfl rfl rfl rfl ozw) ?_)))
 refine pp1 1 28 rfl ?_
 refine A1 (D6 (sR_ rfl (pp1 1 29 rfl ?_)))
 refine ie (A2 (P1 rfl (F6 (nx (sR_ rfl (J3 4 0 [4] (fun f=>[(10,pt f 0)]) (fun f=>[bx f (B3 s ⟨sMainq,sMain.length,sMaink⟩ ⟨sAltq,sAlt.length,sAltk⟩ ⟨none,0,0⟩ ⟨sTabsq,sTabs.length,sTabsk⟩) 77,bx h (B8 (⟨38,0,0,Col.zero,([]:List UInt8)⟩:Act)) 68,bx b8 (B8 (⟨33,(l.getD 1 Act.zero).n,(l.getD 1 Act.zero).m,Col.zero,([]:List UInt8)⟩:Act)) 68,bx b6 (B8 (⟨38,(l.getD 0 Act.zero).n,(l.getD 0 Act.zero).m,Col.zero,([]:List UInt8)⟩:Act)) 68,bx r (B3 ScrC.zero ⟨none,0,0⟩ ⟨none,0,0⟩ ⟨none,0,0⟩ ⟨none,0,0⟩) 52,bx y (B3 s ⟨sMainq,sMain.length,sMaink⟩ ⟨sAltq,sAlt.length,sAltk⟩ ⟨none,0,0⟩ ⟨sTabsq,sTabs.length,sTabsk⟩) 52]) (fun f=>?_)))))))
 refine ie (sR_ rfl (zc rfl (A7a rfl) fun o=>?_))
 refine pp1 1 11 rfl ?_
 refine ie (A2 (sR_ rfl (pp3 3 43 44 45 rfl ?_)))
 refine ie (A8 (P9 5 ?_))
 refine D6 (sR_ rfl (pp1 1 46 rfl ?_))
 refine ie (A2 (G1 rfl (A3 (nx (A2 (A8 (sR_ rfl (ix rfl (F7 B0d rfl rfl w rfl 0 rfl (by first|omega|(rw [u];decide))) ?_))))))))
 refine ix rfl (H2 (I3 (us:=B8 (l.getD 0 Act.zero)) C0s rfl rfl (H5 (c:=B8) (sz:=6) w (fun _=>rfl) 5 rfl (gd Act.zero (by first|omega|(rw [u];decide)))) rfl) (congrArg (fun z=>ag (B8 z)) (a6.at0))) ?_
 refine J3 2 0 [0] (fun i=>[(13,pt i 0)]) (fun i=>[bx i (B8 (⟨38,(l.getD 0 Act.zero).n,(l.getD 0 Act.zero).m,Col.zero,([]:List UInt8)⟩:Act)) 68,(o,.map #[⟨iv 1,.func (.func 42) #[] #[],0⟩,⟨iv 34,.func (.func 43) #[] #[],1⟩,⟨iv 3,.func (.func 44) #[] #[],2⟩,⟨iv 4,.func (.func 45) #[] #[],3⟩,⟨iv 24,.func (.func 45) #[] #[],4⟩,⟨iv 25,.func (.func 46) #[] #[],5⟩,⟨iv 6,.func (.func 47) #[] #[],6⟩,⟨iv 5,.func (.func 48) #[] #[],7⟩,⟨iv 8,.func (.func 49) #[] #[],8⟩,⟨iv 9,.func (.func 50) #[] #[],9⟩,⟨iv 11,.func (.func 51) #[] #[],10⟩,⟨iv 19,.func (.func 52) #[] #[],11⟩,⟨iv 23,.func (.func 53) #[] #[],12⟩,⟨iv 22,.func (.func 54) #[] #[],13⟩,⟨iv 20,.func (.func 55) #[] #[],14⟩,⟨iv 21,.func (.func 56) #[] #[],15⟩,⟨iv 38,.func (.func 57) #[] #[],16⟩,⟨iv 26,.func (.func 58) #[] #[],17⟩,⟨iv 27,.func (.func 59) #[] #[],18⟩,⟨iv 30,.func (.func 60) #[] #[],19⟩,⟨iv 28,.func (.func 61) #[] #[],20⟩,⟨iv 29,.func (.func 62) #[] #[],21⟩,⟨iv 31,.func (.func 63) #[] #[],22⟩,⟨iv 32,.func (.func 64) #[] #[],23⟩,⟨iv 33,.func (.func 65) #[] #[],24⟩,⟨iv 16,.func (.func 66) #[] #[],25⟩,⟨iv 15,.func (.func 67) #[] #[],26⟩,⟨iv 10,.func (.func 68) #[] #[],27⟩,⟨iv 35,.func (.func 69) #[] #[],28⟩,⟨iv 17,.func (.func 70) #[] #[],29⟩,⟨iv 7,.func (.func 71) #[] #[],30⟩,⟨iv 18,.func (.func 72) #[] #[],31⟩,⟨iv 39,.func (.func 73) #[] #[],32⟩,⟨iv 40,.func (.func 74) #[] #[],33⟩,⟨iv 44,.func (.func 75) #[] #[],34⟩,⟨iv 14,.func (.func 76) #[] #[],35⟩,⟨iv 36,.func (.func 77) #[] #[],36⟩,⟨iv 37,.func (.func 78) #[] #[],37⟩,⟨iv 12,.func (.func 79) #[] #[],38⟩,⟨iv 13,.func (.func 80) #[] #[],39⟩] 40),bx f (B3 s ⟨sMainq,sMain.length,sMaink⟩ ⟨sAltq,sAlt.length,sAltk⟩ ⟨none,0,0⟩ ⟨sTabsq,sTabs.length,sTabsk⟩) 77,bx h (B8 (⟨38,0,0,Col.zero,([]:List UInt8)⟩:Act)) 68,bx b8 (B8 (⟨33,(l.getD 1 Act.zero).n,(l.getD 1 Act.zero).m,Col.zero,([]:List UInt8)⟩:Act)) 68,bx b6 (B8 (⟨38,(l.getD 0 Act.zero).n,(l.getD 0 Act.zero).m,Col.zero,([]:List UInt8)⟩:Act)) 68,bx r (B3 ScrC.zero ⟨none,0,0⟩ ⟨none,0,0⟩ ⟨none,0,0⟩ ⟨none,0,0⟩) 52,bx y (B3 s ⟨sMainq,sMain.length,sMaink⟩ ⟨sAltq,sAlt.length,sAltk⟩ ⟨none,0,0⟩ ⟨sTabsq,sTabs.length,sTabsk⟩) 52]) (fun i=>?_)
 refine ie (A2 (sR_ rfl (pl1 2 [0] 50 rfl ?_)))
 refine zv rfl (A5m (R:=false) (by decide +kernel)) ?_
 refine pp1 1 52 rfl ?_
 refine ie (G1 rfl (A0 5 rfl (pp1 4 56 rfl ?_)))
 refine it rfl (D0 (us:=[iv 0]) (cs':=B3 ({s with last:=0}) ⟨sMainq,sMain.length,sMaink⟩ ⟨sAltq,sAlt.length,sAltk⟩ ⟨none,0,0⟩ ⟨sTabsq,sTabs.length,sTabsk⟩) ty3 rfl rfl rfl 2 rfl rfl rfl rfl rfl rfl) fun _=>?_
 refine A1 (nx (B2l (fun (x:ScrC)=>(W6 sMain sAlt sTabs l x=R∧x.onAlt=true,[(4,pt r 0),(10,pt f 0),(11,.map (some o)),(13,pt i 0),(43,.slice lq 3 lk),(44,iv 3),(45,iv 0)],[bx i (B8 (⟨38,(l.getD 0 Act.zero).n,(l.getD 0 Act.zero).m,Col.zero,([]:List UInt8)⟩:Act)) 68,(o,.map #[⟨iv 1,.func (.func 42) #[] #[],0⟩,⟨iv 34,.func (.func 43) #[] #[],1⟩,⟨iv 3,.func (.func 44) #[] #[],2⟩,⟨iv 4,.func (.func 45) #[] #[],3⟩,⟨iv 24,.func (.func 45) #[] #[],4⟩,⟨iv 25,.func (.func 46) #[] #[],5⟩,⟨iv 6,.func (.func 47) #[] #[],6⟩,⟨iv 5,.func (.func 48) #[] #[],7⟩,⟨iv 8,.func (.func 49) #[] #[],8⟩,⟨iv 9,.func (.func 50) #[] #[],9⟩,⟨iv 11,.func (.func 51) #[] #[],10⟩,⟨iv 19,.func (.func 52) #[] #[],11⟩,⟨iv 23,.func (.func 53) #[] #[],12⟩,⟨iv 22,.func (.func 54) #[] #[],13⟩,⟨iv 20,.func (.func 55) #[] #[],14⟩,⟨iv 21,.func (.func 56) #[] #[],15⟩,⟨iv 38,.func (.func 57) #[] #[],16⟩,⟨iv 26,.func (.func 58) #[] #[],17⟩,⟨iv 27,.func (.func 59) #[] #[],18⟩,⟨iv 30,.func (.func 60) #[] #[],19⟩,⟨iv 28,.func (.func 61) #[] #[],20⟩,⟨iv 29,.func (.func 62) #[] #[],21⟩,⟨iv 31,.func (.func 63) #[] #[],22⟩,⟨iv 32,.func (.func 64) #[] #[],23⟩,⟨iv 33,.func (.func 65) #[] #[],24⟩,⟨iv 16,.func (.func 66) #[] #[],25⟩,⟨iv 15,.func (.func 67) #[] #[],26⟩,⟨iv 10,.func (.func 68) #[] #[],27⟩,⟨iv 35,.func (.func 69) #[] #[],28⟩,⟨iv 17,.func (.func 70) #[] #[],29⟩,⟨iv 7,.func (.func 71) #[] #[],30⟩,⟨iv 18,.func (.func 72) #[] #[],31⟩,⟨iv 39,.func (.func 73) #[] #[],32⟩,⟨iv 40,.func (.func 74) #[] #[],33⟩,⟨iv 44,.func (.func 75) #[] #[],34⟩,⟨iv 14,.func (.func 76) #[] #[],35⟩,⟨iv 36,.func (.func 77) #[] #[],36⟩,⟨iv 37,.func (.func 78) #[] #[],37⟩,⟨iv 12,.func (.func 79) #[] #[],38⟩,⟨iv 13,.func (.func 80) #[] #[],39⟩] 40),bx f (B3 x ⟨sMainq,sMain.length,sMaink⟩ ⟨sAltq,sAlt.length,sAltk⟩ ⟨none,0,0⟩ ⟨sTabsq,sTabs.length,sTabsk⟩) 77,bx h (B8 (⟨38,0,0,Col.zero,([]:List UInt8)⟩:Act)) 68,bx b8 (B8 (⟨33,(l.getD 1 Act.zero).n,(l.getD 1 Act.zero).m,Col.zero,([]:List UInt8)⟩:Act)) 68,bx b6 (B8 (⟨38,(l.getD 0 Act.zero).n,(l.getD 0 Act.zero).m,Col.zero,([]:List UInt8)⟩:Act)) 68,bx r (B3 ScrC.zero ⟨none,0,0⟩ ⟨none,0,0⟩ ⟨none,0,0⟩ ⟨none,0,0⟩) 52,bx y (B3 s ⟨sMainq,sMain.length,sMaink⟩ ⟨sAltq,sAlt.length,sAltk⟩ ⟨none,0,0⟩ ⟨sTabsq,sTabs.length,sTabsk⟩) 52],[sl B5 sMainq sMainrs,B7 B1 sMainrs sMain,sl B5 sAltq sAltrs,B7 B1 sAltrs sAlt,sl H4 sTabsq sTabs,sl B8 lq l,O9,P0])) ?_ ?_))
 ·refine sR_ rfl (zrl 1 2 [0] [(57,ag (B8 (⟨38,(l.getD 0 Act.zero).n,(l.getD 0 Act.zero).m,Col.zero,([]:List UInt8)⟩:Act)))] ?_)
  refine zv rfl (A4a rfl) ?_
  refine pp1 1 59 rfl ?_
  refine ie ?_
  refine zjb rfl hR ?_ ?_<;>clear hR<;>intro hR b0
  ·refine A0 6 rfl (pp1 5 64 rfl ?_)
   refine it rfl (D0 (us:=[bv false]) (cs':=B3 ({s with last:=0,cursor:={s.cursor with wrap:=false}}) ⟨sMainq,sMain.length,sMaink⟩ ⟨sAltq,sAlt.length,sAltk⟩ ⟨none,0,0⟩ ⟨sTabsq,sTabs.length,sTabsk⟩) ty4 rfl rfl rfl 2 rfl rfl rfl rfl rfl rfl) fun _=>?_
   refine A1 ?_
   exact A1d ({s with last:=0,cursor:={s.cursor with wrap:=false}}) ⟨hR,(by first|exact ah|assumption|rfl)⟩ sb_ A5.refl
  refine A3 ?_
  exact A1d ({s with last:=0}) ⟨hR,(by first|exact ah|assumption|rfl)⟩ sb_ A5.refl
 intro x
 rintro ⟨hR,af⟩
 replace hR:=(W6.eq_1 ..).symm.trans hR
 refine sR_ rfl (pl2 3 [0] 66 68 rfl ?_)
 refine ix rfl (O7 (v:=.func (.func 57) #[] #[]) (j:=16) C1x rfl rfl rfl 1 rfl oki) ?_
 refine ip' 5 0 [(14,.func (.func 57) #[] #[]),(15,bv true)] ?_
 refine ie (sR_ rfl (pp1 1 72 rfl ?_))
 refine ie (G1 rfl (A0 4 rfl (zrl 3 1 [0] [(73,.func (.func 57) #[] #[]),(74,pt f 0),(75,ag (B8 (⟨38,(l.getD 0 Act.zero).n,(l.getD 0 Act.zero).m,Col.zero,([]:List UInt8)⟩:Act)))] ?_)))
 refine zc rfl (A7h rfl b om_ om_ d) fun _=>?_
 refine A1 (nx (A0 2 rfl (ix rfl (A9 (c:=1) rfl rfl rfl rfl ozw) ?_)))
 refine pp1 1 45 rfl ?_
 refine A1 (D6 (sR_ rfl (pp1 1 46 rfl ?_)))
 refine ie (A2 (G1 rfl (A3 (nx (A2 (A8 (sR_ rfl (ix rfl (F7 B0d rfl rfl w rfl 1 rfl (by first|omega|(rw [u];decide))) ?_))))))))
 refine ix rfl (H2 (I3 (us:=B8 (l.getD 1 Act.zero)) C0s rfl rfl (H5 (c:=B8) (sz:=6) w (fun _=>rfl) 5 rfl (gd Act.zero (by first|omega|(rw [u];decide)))) rfl) (congrArg (fun z=>ag (B8 z)) (a6.at1))) ?_
 refine J3 2 0 [0] (fun p=>[(13,pt p 0)]) (fun p=>[bx p (B8 (⟨33,(l.getD 1 Act.zero).n,(l.getD 1 Act.zero).m,Col.zero,([]:List UInt8)⟩:Act)) 68,bx f (B3 (D9 x sMain sAlt sTabs (⟨38,(l.getD 0 Act.zero).n,(l.getD 0 Act.zero).m,Col.zero,([]:List UInt8)⟩:Act)) ⟨sMainq,sMain.length,sMaink⟩ ⟨sAltq,sAlt.length,sAltk⟩ ⟨none,0,0⟩ ⟨sTabsq,sTabs.length,sTabsk⟩) 77,bx i (B8 (⟨38,(l.getD 0 Act.zero).n,(l.getD 0 Act.zero).m,Col.zero,([]:List UInt8)⟩:Act)) 68,(o,.map #[⟨iv 1,.func (.func 42) #[] #[],0⟩,⟨iv 34,.func (.func 43) #[] #[],1⟩,⟨iv 3,.func (.func 44) #[] #[],2⟩,⟨iv 4,.func (.func 45) #[] #[],3⟩,⟨iv 24,.func (.func 45) #[] #[],4⟩,⟨iv 25,.func (.func 46) #[] #[],5⟩,⟨iv 6,.func (.func 47) #[] #[],6⟩,⟨iv 5,.func (.func 48) #[] #[],7⟩,⟨iv 8,.func (.func 49) #[] #[],8⟩,⟨iv 9,.func (.func 50) #[] #[],9⟩,⟨iv 11,.func (.func 51) #[] #[],10⟩,⟨iv 19,.func (.func 52) #[] #[],11⟩,⟨iv 23,.func (.func 53) #[] #[],12⟩,⟨iv 22,.func (.func 54) #[] #[],13⟩,⟨iv 20,.func (.func 55) #[] #[],14⟩,⟨iv 21,.func (.func 56) #[] #[],15⟩,⟨iv 38,.func (.func 57) #[] #[],16⟩,⟨iv 26,.func (.func 58) #[] #[],17⟩,⟨iv 27,.func (.func 59) #[] #[],18⟩,⟨iv 30,.func (.func 60) #[] #[],19⟩,⟨iv 28,.func (.func 61) #[] #[],20⟩,⟨iv 29,.func (.func 62) #[] #[],21⟩,⟨iv 31,.func (.func 63) #[] #[],22⟩,⟨iv 32,.func (.func 64) #[] #[],23⟩,⟨iv 33,.func (.func 65) #[] #[],24⟩,⟨iv 16,.func (.func 66) #[] #[],25⟩,⟨iv 15,.func (.func 67) #[] #[],26⟩,⟨iv 10,.func (.func 68) #[] #[],27⟩,⟨iv 35,.func (.func 69) #[] #[],28⟩,⟨iv 17,.func (.func 70) #[] #[],29⟩,⟨iv 7,.func (.func 71) #[] #[],30⟩,⟨iv 18,.func (.func 72) #[] #[],31⟩,⟨iv 39,.func (.func 73) #[] #[],32⟩,⟨iv 40,.func (.func 74) #[] #[],33⟩,⟨iv 44,.func (.func 75) #[] #[],34⟩,⟨iv 14,.func (.func 76) #[] #[],35⟩,⟨iv 36,.func (.func 77) #[] #[],36⟩,⟨iv 37,.func (.func 78) #[] #[],37⟩,⟨iv 12,.func (.func 79) #[] #[],38⟩,⟨iv 13,.func (.func 80) #[] #[],39⟩] 40),bx h (B8 (⟨38,0,0,Col.zero,([]:List UInt8)⟩:Act)) 68,bx b8 (B8 (⟨33,(l.getD 1 Act.zero).n,(l.getD 1 Act.zero).m,Col.zero,([]:List UInt8)⟩:Act)) 68,bx b6 (B8 (⟨38,(l.getD 0 Act.zero).n,(l.getD 0 Act.zero).m,Col.zero,([]:List UInt8)⟩:Act)) 68,bx r (B3 ScrC.zero ⟨none,0,0⟩ ⟨none,0,0⟩ ⟨none,0,0⟩ ⟨none,0,0⟩) 52,bx y (B3 s ⟨sMainq,sMain.length,sMaink⟩ ⟨sAltq,sAlt.length,sAltk⟩ ⟨none,0,0⟩ ⟨sTabsq,sTabs.length,sTabsk⟩) 52]) (fun p=>?_)
 refine ie (A2 (sR_ rfl (pl1 2 [0] 50 rfl ?_)))
 refine zv rfl (B1n (R:=false) (by decide +kernel)) ?_
 refine pp1 1 52 rfl ?_
 refine ie (G1 rfl (A0 5 rfl (zrg 5 0 [1] [] [bx p (B8 (⟨33,(l.getD 1 Act.zero).n,(l.getD 1 Act.zero).m,Col.zero,([]:List UInt8)⟩:Act)) 68,bx f (B3 ({(D9 x sMain sAlt sTabs (⟨38,(l.getD 0 Act.zero).n,(l.getD 0 Act.zero).m,Col.zero,([]:List UInt8)⟩:Act)) with last:=0}) ⟨sMainq,sMain.length,sMaink⟩ ⟨sAltq,sAlt.length,sAltk⟩ ⟨none,0,0⟩ ⟨sTabsq,sTabs.length,sTabsk⟩) 77,bx i (B8 (⟨38,(l.getD 0 Act.zero).n,(l.getD 0 Act.zero).m,Col.zero,([]:List UInt8)⟩:Act)) 68,(o,.map #[⟨iv 1,.func (.func 42) #[] #[],0⟩,⟨iv 34,.func (.func 43) #[] #[],1⟩,⟨iv 3,.func (.func 44) #[] #[],2⟩,⟨iv 4,.func (.func 45) #[] #[],3⟩,⟨iv 24,.func (.func 45) #[] #[],4⟩,⟨iv 25,.func (.func 46) #[] #[],5⟩,⟨iv 6,.func (.func 47) #[] #[],6⟩,⟨iv 5,.func (.func 48) #[] #[],7⟩,⟨iv 8,.func (.func 49) #[] #[],8⟩,⟨iv 9,.func (.func 50) #[] #[],9⟩,⟨iv 11,.func (.func 51) #[] #[],10⟩,⟨iv 19,.func (.func 52) #[] #[],11⟩,⟨iv 23,.func (.func 53) #[] #[],12⟩,⟨iv 22,.func (.func 54) #[] #[],13⟩,⟨iv 20,.func (.func 55) #[] #[],14⟩,⟨iv 21,.func (.func 56) #[] #[],15⟩,⟨iv 38,.func (.func 57) #[] #[],16⟩,⟨iv 26,.func (.func 58) #[] #[],17⟩,⟨iv 27,.func (.func 59) #[] #[],18⟩,⟨iv 30,.func (.func 60) #[] #[],19⟩,⟨iv 28,.func (.func 61) #[] #[],20⟩,⟨iv 29,.func (.func 62) #[] #[],21⟩,⟨iv 31,.func (.func 63) #[] #[],22⟩,⟨iv 32,.func (.func 64) #[] #[],23⟩,⟨iv 33,.func (.func 65) #[] #[],24⟩,⟨iv 16,.func (.func 66) #[] #[],25⟩,⟨iv 15,.func (.func 67) #[] #[],26⟩,⟨iv 10,.func (.func 68) #[] #[],27⟩,⟨iv 35,.func (.func 69) #[] #[],28⟩,⟨iv 17,.func (.func 70) #[] #[],29⟩,⟨iv 7,.func (.func 71) #[] #[],30⟩,⟨iv 18,.func (.func 72) #[] #[],31⟩,⟨iv 39,.func (.func 73) #[] #[],32⟩,⟨iv 40,.func (.func 74) #[] #[],33⟩,⟨iv 44,.func (.func 75) #[] #[],34⟩,⟨iv 14,.func (.func 76) #[] #[],35⟩,⟨iv 36,.func (.func 77) #[] #[],36⟩,⟨iv 37,.func (.func 78) #[] #[],37⟩,⟨iv 12,.func (.func 79) #[] #[],38⟩,⟨iv 13,.func (.func 80) #[] #[],39⟩] 40),bx h (B8 (⟨38,0,0,Col.zero,([]:List UInt8)⟩:Act)) 68,bx b8 (B8 (⟨33,(l.getD 1 Act.zero).n,(l.getD 1 Act.zero).m,Col.zero,([]:List UInt8)⟩:Act)) 68,bx b6 (B8 (⟨38,(l.getD 0 Act.zero).n,(l.getD 0 Act.zero).m,Col.zero,([]:List UInt8)⟩:Act)) 68,bx r (B3 ScrC.zero ⟨none,0,0⟩ ⟨none,0,0⟩ ⟨none,0,0⟩ ⟨none,0,0⟩) 52,bx y (B3 s ⟨sMainq,sMain.length,sMaink⟩ ⟨sAltq,sAlt.length,sAltk⟩ ⟨none,0,0⟩ ⟨sTabsq,sTabs.length,sTabsk⟩) 52] ?_)))
 refine A1 (nx (B2l (fun (x1:ScrC)=>(S7 sMain sAlt sTabs l x1=R∧x1.onAlt=true,[(4,pt r 0),(10,pt f 0),(11,.map (some o)),(13,pt p 0),(43,.slice lq 3 lk),(44,iv 3),(45,iv 1)],[bx p (B8 (⟨33,(l.getD 1 Act.zero).n,(l.getD 1 Act.zero).m,Col.zero,([]:List UInt8)⟩:Act)) 68,bx f (B3 x1 ⟨sMainq,sMain.length,sMaink⟩ ⟨sAltq,sAlt.length,sAltk⟩ ⟨none,0,0⟩ ⟨sTabsq,sTabs.length,sTabsk⟩) 77,bx i (B8 (⟨38,(l.getD 0 Act.zero).n,(l.getD 0 Act.zero).m,Col.zero,([]:List UInt8)⟩:Act)) 68,(o,.map #[⟨iv 1,.func (.func 42) #[] #[],0⟩,⟨iv 34,.func (.func 43) #[] #[],1⟩,⟨iv 3,.func (.func 44) #[] #[],2⟩,⟨iv 4,.func (.func 45) #[] #[],3⟩,⟨iv 24,.func (.func 45) #[] #[],4⟩,⟨iv 25,.func (.func 46) #[] #[],5⟩,⟨iv 6,.func (.func 47) #[] #[],6⟩,⟨iv 5,.func (.func 48) #[] #[],7⟩,⟨iv 8,.func (.func 49) #[] #[],8⟩,⟨iv 9,.func (.func 50) #[] #[],9⟩,⟨iv 11,.func (.func 51) #[] #[],10⟩,⟨iv 19,.func (.func 52) #[] #[],11⟩,⟨iv 23,.func (.func 53) #[] #[],12⟩,⟨iv 22,.func (.func 54) #[] #[],13⟩,⟨iv 20,.func (.func 55) #[] #[],14⟩,⟨iv 21,.func (.func 56) #[] #[],15⟩,⟨iv 38,.func (.func 57) #[] #[],16⟩,⟨iv 26,.func (.func 58) #[] #[],17⟩,⟨iv 27,.func (.func 59) #[] #[],18⟩,⟨iv 30,.func (.func 60) #[] #[],19⟩,⟨iv 28,.func (.func 61) #[] #[],20⟩,⟨iv 29,.func (.func 62) #[] #[],21⟩,⟨iv 31,.func (.func 63) #[] #[],22⟩,⟨iv 32,.func (.func 64) #[] #[],23⟩,⟨iv 33,.func (.func 65) #[] #[],24⟩,⟨iv 16,.func (.func 66) #[] #[],25⟩,⟨iv 15,.func (.func 67) #[] #[],26⟩,⟨iv 10,.func (.func 68) #[] #[],27⟩,⟨iv 35,.func (.func 69) #[] #[],28⟩,⟨iv 17,.func (.func 70) #[] #[],29⟩,⟨iv 7,.func (.func 71) #[] #[],30⟩,⟨iv 18,.func (.func 72) #[] #[],31⟩,⟨iv 39,.func (.func 73) #[] #[],32⟩,⟨iv 40,.func (.func 74) #[] #[],33⟩,⟨iv 44,.func (.func 75) #[] #[],34⟩,⟨iv 14,.func (.func 76) #[] #[],35⟩,⟨iv 36,.func (.func 77) #[] #[],36⟩,⟨iv 37,.func (.func 78) #[] #[],37⟩,⟨iv 12,.func (.func 79) #[] #[],38⟩,⟨iv 13,.func (.func 80) #[] #[],39⟩] 40),bx h (B8 (⟨38,0,0,Col.zero,([]:List UInt8)⟩:Act)) 68,bx b8 (B8 (⟨33,(l.getD 1 Act.zero).n,(l.getD 1 Act.zero).m,Col.zero,([]:List UInt8)⟩:Act)) 68,bx b6 (B8 (⟨38,(l.getD 0 Act.zero).n,(l.getD 0 Act.zero).m,Col.zero,([]:List UInt8)⟩:Act)) 68,bx r (B3 ScrC.zero ⟨none,0,0⟩ ⟨none,0,0⟩ ⟨none,0,0⟩ ⟨none,0,0⟩) 52,bx y (B3 s ⟨sMainq,sMain.length,sMaink⟩ ⟨sAltq,sAlt.length,sAltk⟩ ⟨none,0,0⟩ ⟨sTabsq,sTabs.length,sTabsk⟩) 52],[sl B5 sMainq sMainrs,B7 B1 sMainrs sMain,sl B5 sAltq sAltrs,B7 B1 sAltrs sAlt,sl H4 sTabsq sTabs,sl B8 lq l,O9,P0])) ?_ ?_))
 ·refine sR_ rfl (zrl 1 2 [0] [(57,ag (B8 (⟨33,(l.getD 1 Act.zero).n,(l.getD 1 Act.zero).m,Col.zero,([]:List UInt8)⟩:Act)))] ?_)
  refine zv rfl (A9x rfl) ?_
  refine pp1 1 59 rfl ?_
  refine ie ?_
  refine zjb rfl hR ?_ ?_<;>clear hR<;>intro hR ax
  ·refine A0 6 rfl (zrg 6 0 [1] [] [bx p (B8 (⟨33,(l.getD 1 Act.zero).n,(l.getD 1 Act.zero).m,Col.zero,([]:List UInt8)⟩:Act)) 68,bx f (B3 ({(D9 x sMain sAlt sTabs (⟨38,(l.getD 0 Act.zero).n,(l.getD 0 Act.zero).m,Col.zero,([]:List UInt8)⟩:Act)) with last:=0,cursor:={(D9 x sMain sAlt sTabs (⟨38,(l.getD 0 Act.zero).n,(l.getD 0 Act.zero).m,Col.zero,([]:List UInt8)⟩:Act)).cursor with wrap:=false}}) ⟨sMainq,sMain.length,sMaink⟩ ⟨sAltq,sAlt.length,sAltk⟩ ⟨none,0,0⟩ ⟨sTabsq,sTabs.length,sTabsk⟩) 77,bx i (B8 (⟨38,(l.getD 0 Act.zero).n,(l.getD 0 Act.zero).m,Col.zero,([]:List UInt8)⟩:Act)) 68,(o,.map #[⟨iv 1,.func (.func 42) #[] #[],0⟩,⟨iv 34,.func (.func 43) #[] #[],1⟩,⟨iv 3,.func (.func 44) #[] #[],2⟩,⟨iv 4,.func (.func 45) #[] #[],3⟩,⟨iv 24,.func (.func 45) #[] #[],4⟩,⟨iv 25,.func (.func 46) #[] #[],5⟩,⟨iv 6,.func (.func 47) #[] #[],6⟩,⟨iv 5,.func (.func 48) #[] #[],7⟩,⟨iv 8,.func (.func 49) #[] #[],8⟩,⟨iv 9,.func (.func 50) #[] #[],9⟩,⟨iv 11,.func (.func 51) #[] #[],10⟩,⟨iv 19,.func (.func 52) #[] #[],11⟩,⟨iv 23,.func (.func 53) #[] #[],12⟩,⟨iv 22,.func (.func 54) #[] #[],13⟩,⟨iv 20,.func (.func 55) #[] #[],14⟩,⟨iv 21,.func (.func 56) #[] #[],15⟩,⟨iv 38,.func (.func 57) #[] #[],16⟩,⟨iv 26,.func (.func 58) #[] #[],17⟩,⟨iv 27,.func (.func 59) #[] #[],18⟩,⟨iv 30,.func (.func 60) #[] #[],19⟩,⟨iv 28,.func (.func 61) #[] #[],20⟩,⟨iv 29,.func (.func 62) #[] #[],21⟩,⟨iv 31,.func (.func 63) #[] #[],22⟩,⟨iv 32,.func (.func 64) #[] #[],23⟩,⟨iv 33,.func (.func 65) #[] #[],24⟩,⟨iv 16,.func (.func 66) #[] #[],25⟩,⟨iv 15,.func (.func 67) #[] #[],26⟩,⟨iv 10,.func (.func 68) #[] #[],27⟩,⟨iv 35,.func (.func 69) #[] #[],28⟩,⟨iv 17,.func (.func 70) #[] #[],29⟩,⟨iv 7,.func (.func 71) #[] #[],30⟩,⟨iv 18,.func (.func 72) #[] #[],31⟩,⟨iv 39,.func (.func 73) #[] #[],32⟩,⟨iv 40,.func (.func 74) #[] #[],33⟩,⟨iv 44,.func (.func 75) #[] #[],34⟩,⟨iv 14,.func (.func 76) #[] #[],35⟩,⟨iv 36,.func (.func 77) #[] #[],36⟩,⟨iv 37,.func (.func 78) #[] #[],37⟩,⟨iv 12,.func (.func 79) #[] #[],38⟩,⟨iv 13,.func (.func 80) #[] #[],39⟩] 40),bx h (B8 (⟨38,0,0,Col.zero,([]:List UInt8)⟩:Act)) 68,bx b8 (B8 (⟨33,(l.getD 1 Act.zero).n,(l.getD 1 Act.zero).m,Col.zero,([]:List UInt8)⟩:Act)) 68,bx b6 (B8 (⟨38,(l.getD 0 Act.zero).n,(l.getD 0 Act.zero).m,Col.zero,([]:List UInt8)⟩:Act)) 68,bx r (B3 ScrC.zero ⟨none,0,0⟩ ⟨none,0,0⟩ ⟨none,0,0⟩ ⟨none,0,0⟩) 52,bx y (B3 s ⟨sMainq,sMain.length,sMaink⟩ ⟨sAltq,sAlt.length,sAltk⟩ ⟨none,0,0⟩ ⟨sTabsq,sTabs.length,sTabsk⟩) 52] ?_)
   refine A1 ?_
   exact A1d ({(D9 x sMain sAlt sTabs (⟨38,(l.getD 0 Act.zero).n,(l.getD 0 Act.zero).m,Col.zero,([]:List UInt8)⟩:Act)) with last:=0,cursor:={(D9 x sMain sAlt sTabs (⟨38,(l.getD 0 Act.zero).n,(l.getD 0 Act.zero).m,Col.zero,([]:List UInt8)⟩:Act)).cursor with wrap:=false}}) ⟨hR,(by first|assumption|exact (B5u ..).trans af)⟩ sb_ A5.refl
  refine A3 ?_
  exact A1d ({(D9 x sMain sAlt sTabs (⟨38,(l.getD 0 Act.zero).n,(l.getD 0 Act.zero).m,Col.zero,([]:List UInt8)⟩:Act)) with last:=0}) ⟨hR,(by first|assumption|exact (B5u ..).trans af)⟩ sb_ A5.refl
 intro x1
 rintro ⟨hR,ar⟩
 replace hR:=(S7.eq_1 ..).symm.trans hR
 refine sR_ rfl (pl2 3 [0] 66 68 rfl ?_)
 refine ix rfl (O7 (v:=.func (.func 65) #[] #[]) (j:=24) C1x rfl rfl rfl 3 rfl oki) ?_
 refine ip' 5 0 [(14,.func (.func 65) #[] #[]),(15,bv true)] ?_
 refine ie (sR_ rfl (pp1 1 72 rfl ?_))
 refine ie (G1 rfl (A0 4 rfl (zrl 3 1 [0] [(73,.func (.func 65) #[] #[]),(74,pt f 0),(75,ag (B8 (⟨33,(l.getD 1 Act.zero).n,(l.getD 1 Act.zero).m,Col.zero,([]:List UInt8)⟩:Act)))] ?_)))
 have hQ:=E9 hR;clear hR;obtain ⟨a,g,hR⟩:=hQ
 refine zc rfl (A8m g b om_ om_ d om_ om_ om_ om_ obk (by first|assumption|(dsimp only;assumption))) fun ⟨⟨e,a1⟩,a9⟩=>?_
 try dsimp only at a9
 obtain ⟨a5,a7⟩:=a9
 have:=VOk.le a5
 have:=VOk.cap a5
 have:=a7.1
 refine A1 (nx (A0 2 rfl (ix rfl (A9 (c:=2) rfl rfl rfl rfl ozw) ?_)))
 refine pp1 1 45 rfl ?_
 refine A1 (D6 (sR_ rfl (pp1 1 46 rfl ?_)))
 refine ie (A2 (G1 rfl (A3 (nx (A2 (A8 (sR_ rfl (ix rfl (F7 B0d rfl rfl w rfl 2 rfl (by first|omega|(rw [u];decide))) ?_))))))))
 refine ix rfl (H2 (I3 (us:=B8 (l.getD 2 Act.zero)) C0s rfl rfl (H5 (c:=B8) (sz:=6) w (fun _=>rfl) 6 rfl (gd Act.zero (by first|omega|(rw [u];decide)))) rfl) (congrArg (fun z=>ag (B8 z)) (a6.at2))) ?_
 refine J3 2 0 [0] (fun a3=>[(13,pt a3 0)]) (fun a3=>(bx a3 (B8 (⟨38,0,0,Col.zero,([]:List UInt8)⟩:Act)) 68::bx f (B3 x1 ⟨sMainq,sMain.length,sMaink⟩ ⟨va e.q,a.length,e.k⟩ ⟨none,0,0⟩ ⟨sTabsq,sTabs.length,sTabsk⟩) 77::bx p (B8 (⟨33,(l.getD 1 Act.zero).n,(l.getD 1 Act.zero).m,Col.zero,([]:List UInt8)⟩:Act)) 68::bx i (B8 (⟨38,(l.getD 0 Act.zero).n,(l.getD 0 Act.zero).m,Col.zero,([]:List UInt8)⟩:Act)) 68::((o,.map #[⟨iv 1,.func (.func 42) #[] #[],0⟩,⟨iv 34,.func (.func 43) #[] #[],1⟩,⟨iv 3,.func (.func 44) #[] #[],2⟩,⟨iv 4,.func (.func 45) #[] #[],3⟩,⟨iv 24,.func (.func 45) #[] #[],4⟩,⟨iv 25,.func (.func 46) #[] #[],5⟩,⟨iv 6,.func (.func 47) #[] #[],6⟩,⟨iv 5,.func (.func 48) #[] #[],7⟩,⟨iv 8,.func (.func 49) #[] #[],8⟩,⟨iv 9,.func (.func 50) #[] #[],9⟩,⟨iv 11,.func (.func 51) #[] #[],10⟩,⟨iv 19,.func (.func 52) #[] #[],11⟩,⟨iv 23,.func (.func 53) #[] #[],12⟩,⟨iv 22,.func (.func 54) #[] #[],13⟩,⟨iv 20,.func (.func 55) #[] #[],14⟩,⟨iv 21,.func (.func 56) #[] #[],15⟩,⟨iv 38,.func (.func 57) #[] #[],16⟩,⟨iv 26,.func (.func 58) #[] #[],17⟩,⟨iv 27,.func (.func 59) #[] #[],18⟩,⟨iv 30,.func (.func 60) #[] #[],19⟩,⟨iv 28,.func (.func 61) #[] #[],20⟩,⟨iv 29,.func (.func 62) #[] #[],21⟩,⟨iv 31,.func (.func 63) #[] #[],22⟩,⟨iv 32,.func (.func 64) #[] #[],23⟩,⟨iv 33,.func (.func 65) #[] #[],24⟩,⟨iv 16,.func (.func 66) #[] #[],25⟩,⟨iv 15,.func (.func 67) #[] #[],26⟩,⟨iv 10,.func (.func 68) #[] #[],27⟩,⟨iv 35,.func (.func 69) #[] #[],28⟩,⟨iv 17,.func (.func 70) #[] #[],29⟩,⟨iv 7,.func (.func 71) #[] #[],30⟩,⟨iv 18,.func (.func 72) #[] #[],31⟩,⟨iv 39,.func (.func 73) #[] #[],32⟩,⟨iv 40,.func (.func 74) #[] #[],33⟩,⟨iv 44,.func (.func 75) #[] #[],34⟩,⟨iv 14,.func (.func 76) #[] #[],35⟩,⟨iv 36,.func (.func 77) #[] #[],36⟩,⟨iv 37,.func (.func 78) #[] #[],37⟩,⟨iv 12,.func (.func 79) #[] #[],38⟩,⟨iv 13,.func (.func 80) #[] #[],39⟩] 40)::bx h (B8 (⟨38,0,0,Col.zero,([]:List UInt8)⟩:Act)) 68::bx b8 (B8 (⟨33,(l.getD 1 Act.zero).n,(l.getD 1 Act.zero).m,Col.zero,([]:List UInt8)⟩:Act)) 68::bx b6 (B8 (⟨38,(l.getD 0 Act.zero).n,(l.getD 0 Act.zero).m,Col.zero,([]:List UInt8)⟩:Act)) 68::bx r (B3 ScrC.zero ⟨none,0,0⟩ ⟨none,0,0⟩ ⟨none,0,0⟩ ⟨none,0,0⟩) 52::bx y (B3 s ⟨sMainq,sMain.length,sMaink⟩ ⟨sAltq,sAlt.length,sAltk⟩ ⟨none,0,0⟩ ⟨sTabsq,sTabs.length,sTabsk⟩) 52::((vo B5 72 e a1)++([]))))) (fun a3=>?_)
 refine ie (A2 (sR_ rfl (pl1 2 [0] 50 rfl ?_)))
 refine zv rfl (A5m (R:=false) (by decide +kernel)) ?_
 refine pp1 1 52 rfl ?_
 refine ie (G1 rfl (A0 5 rfl (zrg 5 0 [1] [] (bx a3 (B8 (⟨38,0,0,Col.zero,([]:List UInt8)⟩:Act)) 68::bx f (B3 ({x1 with last:=0}) ⟨sMainq,sMain.length,sMaink⟩ ⟨va e.q,a.length,e.k⟩ ⟨none,0,0⟩ ⟨sTabsq,sTabs.length,sTabsk⟩) 77::bx p (B8 (⟨33,(l.getD 1 Act.zero).n,(l.getD 1 Act.zero).m,Col.zero,([]:List UInt8)⟩:Act)) 68::bx i (B8 (⟨38,(l.getD 0 Act.zero).n,(l.getD 0 Act.zero).m,Col.zero,([]:List UInt8)⟩:Act)) 68::((o,.map #[⟨iv 1,.func (.func 42) #[] #[],0⟩,⟨iv 34,.func (.func 43) #[] #[],1⟩,⟨iv 3,.func (.func 44) #[] #[],2⟩,⟨iv 4,.func (.func 45) #[] #[],3⟩,⟨iv 24,.func (.func 45) #[] #[],4⟩,⟨iv 25,.func (.func 46) #[] #[],5⟩,⟨iv 6,.func (.func 47) #[] #[],6⟩,⟨iv 5,.func (.func 48) #[] #[],7⟩,⟨iv 8,.func (.func 49) #[] #[],8⟩,⟨iv 9,.func (.func 50) #[] #[],9⟩,⟨iv 11,.func (.func 51) #[] #[],10⟩,⟨iv 19,.func (.func 52) #[] #[],11⟩,⟨iv 23,.func (.func 53) #[] #[],12⟩,⟨iv 22,.func (.func 54) #[] #[],13⟩,⟨iv 20,.func (.func 55) #[] #[],14⟩,⟨iv 21,.func (.func 56) #[] #[],15⟩,⟨iv 38,.func (.func 57) #[] #[],16⟩,⟨iv 26,.func (.func 58) #[] #[],17⟩,⟨iv 27,.func (.func 59) #[] #[],18⟩,⟨iv 30,.func (.func 60) #[] #[],19⟩,⟨iv 28,.func (.func 61) #[] #[],20⟩,⟨iv 29,.func (.func 62) #[] #[],21⟩,⟨iv 31,.func (.func 63) #[] #[],22⟩,⟨iv 32,.func (.func 64) #[] #[],23⟩,⟨iv 33,.func (.func 65) #[] #[],24⟩,⟨iv 16,.func (.func 66) #[] #[],25⟩,⟨iv 15,.func (.func 67) #[] #[],26⟩,⟨iv 10,.func (.func 68) #[] #[],27⟩,⟨iv 35,.func (.func 69) #[] #[],28⟩,⟨iv 17,.func (.func 70) #[] #[],29⟩,⟨iv 7,.func (.func 71) #[] #[],30⟩,⟨iv 18,.func (.func 72) #[] #[],31⟩,⟨iv 39,.func (.func 73) #[] #[],32⟩,⟨iv 40,.func (.func 74) #[] #[],33⟩,⟨iv 44,.func (.func 75) #[] #[],34⟩,⟨iv 14,.func (.func 76) #[] #[],35⟩,⟨iv 36,.func (.func 77) #[] #[],36⟩,⟨iv 37,.func (.func 78) #[] #[],37⟩,⟨iv 12,.func (.func 79) #[] #[],38⟩,⟨iv 13,.func (.func 80) #[] #[],39⟩] 40)::bx h (B8 (⟨38,0,0,Col.zero,([]:List UInt8)⟩:Act)) 68::bx b8 (B8 (⟨33,(l.getD 1 Act.zero).n,(l.getD 1 Act.zero).m,Col.zero,([]:List UInt8)⟩:Act)) 68::bx b6 (B8 (⟨38,(l.getD 0 Act.zero).n,(l.getD 0 Act.zero).m,Col.zero,([]:List UInt8)⟩:Act)) 68::bx r (B3 ScrC.zero ⟨none,0,0⟩ ⟨none,0,0⟩ ⟨none,0,0⟩ ⟨none,0,0⟩) 52::bx y (B3 s ⟨sMainq,sMain.length,sMaink⟩ ⟨sAltq,sAlt.length,sAltk⟩ ⟨none,0,0⟩ ⟨sTabsq,sTabs.length,sTabsk⟩) 52::((vo B5 72 e a1)++([])))) ?_)))
 refine A1 (nx (B2l (fun (x2:ScrC)=>(W5 sMain sTabs a x2=R,[(4,pt r 0),(10,pt f 0),(11,.map (some o)),(13,pt a3 0),(43,.slice lq 3 lk),(44,iv 3),(45,iv 2)],(bx a3 (B8 (⟨38,0,0,Col.zero,([]:List UInt8)⟩:Act)) 68::bx f (B3 x2 ⟨sMainq,sMain.length,sMaink⟩ ⟨va e.q,a.length,e.k⟩ ⟨none,0,0⟩ ⟨sTabsq,sTabs.length,sTabsk⟩) 77::bx p (B8 (⟨33,(l.getD 1 Act.zero).n,(l.getD 1 Act.zero).m,Col.zero,([]:List UInt8)⟩:Act)) 68::bx i (B8 (⟨38,(l.getD 0 Act.zero).n,(l.getD 0 Act.zero).m,Col.zero,([]:List UInt8)⟩:Act)) 68::((o,.map #[⟨iv 1,.func (.func 42) #[] #[],0⟩,⟨iv 34,.func (.func 43) #[] #[],1⟩,⟨iv 3,.func (.func 44) #[] #[],2⟩,⟨iv 4,.func (.func 45) #[] #[],3⟩,⟨iv 24,.func (.func 45) #[] #[],4⟩,⟨iv 25,.func (.func 46) #[] #[],5⟩,⟨iv 6,.func (.func 47) #[] #[],6⟩,⟨iv 5,.func (.func 48) #[] #[],7⟩,⟨iv 8,.func (.func 49) #[] #[],8⟩,⟨iv 9,.func (.func 50) #[] #[],9⟩,⟨iv 11,.func (.func 51) #[] #[],10⟩,⟨iv 19,.func (.func 52) #[] #[],11⟩,⟨iv 23,.func (.func 53) #[] #[],12⟩,⟨iv 22,.func (.func 54) #[] #[],13⟩,⟨iv 20,.func (.func 55) #[] #[],14⟩,⟨iv 21,.func (.func 56) #[] #[],15⟩,⟨iv 38,.func (.func 57) #[] #[],16⟩,⟨iv 26,.func (.func 58) #[] #[],17⟩,⟨iv 27,.func (.func 59) #[] #[],18⟩,⟨iv 30,.func (.func 60) #[] #[],19⟩,⟨iv 28,.func (.func 61) #[] #[],20⟩,⟨iv 29,.func (.func 62) #[] #[],21⟩,⟨iv 31,.func (.func 63) #[] #[],22⟩,⟨iv 32,.func (.func 64) #[] #[],23⟩,⟨iv 33,.func (.func 65) #[] #[],24⟩,⟨iv 16,.func (.func 66) #[] #[],25⟩,⟨iv 15,.func (.func 67) #[] #[],26⟩,⟨iv 10,.func (.func 68) #[] #[],27⟩,⟨iv 35,.func (.func 69) #[] #[],28⟩,⟨iv 17,.func (.func 70) #[] #[],29⟩,⟨iv 7,.func (.func 71) #[] #[],30⟩,⟨iv 18,.func (.func 72) #[] #[],31⟩,⟨iv 39,.func (.func 73) #[] #[],32⟩,⟨iv 40,.func (.func 74) #[] #[],33⟩,⟨iv 44,.func (.func 75) #[] #[],34⟩,⟨iv 14,.func (.func 76) #[] #[],35⟩,⟨iv 36,.func (.func 77) #[] #[],36⟩,⟨iv 37,.func (.func 78) #[] #[],37⟩,⟨iv 12,.func (.func 79) #[] #[],38⟩,⟨iv 13,.func (.func 80) #[] #[],39⟩] 40)::bx h (B8 (⟨38,0,0,Col.zero,([]:List UInt8)⟩:Act)) 68::bx b8 (B8 (⟨33,(l.getD 1 Act.zero).n,(l.getD 1 Act.zero).m,Col.zero,([]:List UInt8)⟩:Act)) 68::bx b6 (B8 (⟨38,(l.getD 0 Act.zero).n,(l.getD 0 Act.zero).m,Col.zero,([]:List UInt8)⟩:Act)) 68::bx r (B3 ScrC.zero ⟨none,0,0⟩ ⟨none,0,0⟩ ⟨none,0,0⟩ ⟨none,0,0⟩) 52::bx y (B3 s ⟨sMainq,sMain.length,sMaink⟩ ⟨sAltq,sAlt.length,sAltk⟩ ⟨none,0,0⟩ ⟨sTabsq,sTabs.length,sTabsk⟩) 52::((vo B5 72 e a1)++([])))),[B7 B1 a1 a,sl B5 sMainq sMainrs,B7 B1 sMainrs sMain,sl B5 sAltq sAltrs,B7 B1 sAltrs sAlt,sl H4 sTabsq sTabs,sl B8 lq l,O9,P0])) ?_ ?_))
 ·refine sR_ rfl (zrl 1 2 [0] [(57,ag (B8 (⟨38,0,0,Col.zero,([]:List UInt8)⟩:Act)))] ?_)
  refine zv rfl (A4a rfl) ?_
  refine pp1 1 59 rfl ?_
  refine ie ?_
  refine zjb rfl hR ?_ ?_<;>clear hR<;>intro hR aw
  ·refine A0 6 rfl (zrg 6 0 [1] [] (bx a3 (B8 (⟨38,0,0,Col.zero,([]:List UInt8)⟩:Act)) 68::bx f (B3 ({x1 with last:=0,cursor:={x1.cursor with wrap:=false}}) ⟨sMainq,sMain.length,sMaink⟩ ⟨va e.q,a.length,e.k⟩ ⟨none,0,0⟩ ⟨sTabsq,sTabs.length,sTabsk⟩) 77::bx p (B8 (⟨33,(l.getD 1 Act.zero).n,(l.getD 1 Act.zero).m,Col.zero,([]:List UInt8)⟩:Act)) 68::bx i (B8 (⟨38,(l.getD 0 Act.zero).n,(l.getD 0 Act.zero).m,Col.zero,([]:List UInt8)⟩:Act)) 68::((o,.map #[⟨iv 1,.func (.func 42) #[] #[],0⟩,⟨iv 34,.func (.func 43) #[] #[],1⟩,⟨iv 3,.func (.func 44) #[] #[],2⟩,⟨iv 4,.func (.func 45) #[] #[],3⟩,⟨iv 24,.func (.func 45) #[] #[],4⟩,⟨iv 25,.func (.func 46) #[] #[],5⟩,⟨iv 6,.func (.func 47) #[] #[],6⟩,⟨iv 5,.func (.func 48) #[] #[],7⟩,⟨iv 8,.func (.func 49) #[] #[],8⟩,⟨iv 9,.func (.func 50) #[] #[],9⟩,⟨iv 11,.func (.func 51) #[] #[],10⟩,⟨iv 19,.func (.func 52) #[] #[],11⟩,⟨iv 23,.func (.func 53) #[] #[],12⟩,⟨iv 22,.func (.func 54) #[] #[],13⟩,⟨iv 20,.func (.func 55) #[] #[],14⟩,⟨iv 21,.func (.func 56) #[] #[],15⟩,⟨iv 38,.func (.func 57) #[] #[],16⟩,⟨iv 26,.func (.func 58) #[] #[],17⟩,⟨iv 27,.func (.func 59) #[] #[],18⟩,⟨iv 30,.func (.func 60) #[] #[],19⟩,⟨iv 28,.func (.func 61) #[] #[],20⟩,⟨iv 29,.func (.func 62) #[] #[],21⟩,⟨iv 31,.func (.func 63) #[] #[],22⟩,⟨iv 32,.func (.func 64) #[] #[],23⟩,⟨iv 33,.func (.func 65) #[] #[],24⟩,⟨iv 16,.func (.func 66) #[] #[],25⟩,⟨iv 15,.func (.func 67) #[] #[],26⟩,⟨iv 10,.func (.func 68) #[] #[],27⟩,⟨iv 35,.func (.func 69) #[] #[],28⟩,⟨iv 17,.func (.func 70) #[] #[],29⟩,⟨iv 7,.func (.func 71) #[] #[],30⟩,⟨iv 18,.func (.func 72) #[] #[],31⟩,⟨iv 39,.func (.func 73) #[] #[],32⟩,⟨iv 40,.func (.func 74) #[] #[],33⟩,⟨iv 44,.func (.func 75) #[] #[],34⟩,⟨iv 14,.func (.func 76) #[] #[],35⟩,⟨iv 36,.func (.func 77) #[] #[],36⟩,⟨iv 37,.func (.func 78) #[] #[],37⟩,⟨iv 12,.func (.func 79) #[] #[],38⟩,⟨iv 13,.func (.func 80) #[] #[],39⟩] 40)::bx h (B8 (⟨38,0,0,Col.zero,([]:List UInt8)⟩:Act)) 68::bx b8 (B8 (⟨33,(l.getD 1 Act.zero).n,(l.getD 1 Act.zero).m,Col.zero,([]:List UInt8)⟩:Act)) 68::bx b6 (B8 (⟨38,(l.getD 0 Act.zero).n,(l.getD 0 Act.zero).m,Col.zero,([]:List UInt8)⟩:Act)) 68::bx r (B3 ScrC.zero ⟨none,0,0⟩ ⟨none,0,0⟩ ⟨none,0,0⟩ ⟨none,0,0⟩) 52::bx y (B3 s ⟨sMainq,sMain.length,sMaink⟩ ⟨sAltq,sAlt.length,sAltk⟩ ⟨none,0,0⟩ ⟨sTabsq,sTabs.length,sTabsk⟩) 52::((vo B5 72 e a1)++([])))) ?_)
   refine A1 ?_
   exact A1d ({x1 with last:=0,cursor:={x1.cursor with wrap:=false}}) hR sb_ A5.refl
  refine A3 ?_
  exact A1d ({x1 with last:=0}) hR sb_ A5.refl
 intro x2
 rintro hR
 replace hR:=(W5.eq_1 ..).symm.trans hR
 refine sR_ rfl (pl2 3 [0] 66 68 rfl ?_)
 refine ix rfl (O7 (v:=.func (.func 57) #[] #[]) (j:=16) C1x rfl rfl rfl 4 rfl oki) ?_
 refine ip' 5 0 [(14,.func (.func 57) #[] #[]),(15,bv true)] ?_
 refine ie (sR_ rfl (pp1 1 72 rfl ?_))
 refine ie (G1 rfl (A0 4 rfl (zrl 3 1 [0] [(73,.func (.func 57) #[] #[]),(74,pt f 0),(75,ag (B8 (⟨38,0,0,Col.zero,([]:List UInt8)⟩:Act)))] ?_)))
 refine zc rfl (A6w rfl b om_ om_ a5 a7) fun _=>?_
 refine A1 (nx (A0 2 rfl (ix rfl (A9 (c:=3) rfl rfl rfl rfl ozw) ?_)))
 refine pp1 1 45 rfl ?_
 refine A1 (D6 (sR_ rfl (pp1 1 46 rfl ?_)))
 refine ie (A2 (P1 rfl (F6 (nx (sR_ rfl (zrl 4 2 [0] [(81,ag (B3 (H8 x2 sMain a sTabs (⟨38,0,0,Col.zero,([]:List UInt8)⟩:Act)) ⟨sMainq,sMain.length,sMaink⟩ ⟨va e.q,a.length,e.k⟩ ⟨none,0,0⟩ ⟨sTabsq,sTabs.length,sTabsk⟩))] ?_))))))
 refine it rfl (D0 (us:=B3 (H8 x2 sMain a sTabs (⟨38,0,0,Col.zero,([]:List UInt8)⟩:Act)) ⟨sMainq,sMain.length,sMaink⟩ ⟨va e.q,a.length,e.k⟩ ⟨none,0,0⟩ ⟨sTabsq,sTabs.length,sTabsk⟩) (cs':=B3 (H8 x2 sMain a sTabs (⟨38,0,0,Col.zero,([]:List UInt8)⟩:Act)) ⟨sMainq,sMain.length,sMaink⟩ ⟨va e.q,a.length,e.k⟩ ⟨none,0,0⟩ ⟨sTabsq,sTabs.length,sTabsk⟩) A9j rfl rfl rfl 8 rfl rfl rfl rfl rfl rfl) fun _=>?_
 refine pp1 1 5 rfl ?_
 subst hR
 refine ie (A6 ?_)
 exact zer hr hD (V1 rfl (P7 (us:=B3 (H8 x2 sMain a sTabs (⟨38,0,0,Col.zero,([]:List UInt8)⟩:Act)) ⟨sMainq,sMain.length,sMaink⟩ ⟨va e.q,a.length,e.k⟩ ⟨none,0,0⟩ ⟨sTabsq,sTabs.length,sTabsk⟩) A9j rfl 8 rfl rfl) (A4 rfl)) (⟨(sMainq,sMainrs,sMaink),⟨b,otl,otl⟩⟩,⟨(e,a1),⟨a5,a7⟩⟩,(zq sTabsq sTabsk)) sb_ fo_
def X0 (s:ScrC) (sMain:List (Rwc Cel)) (sAlt:List (Rwc Cel)) (sTabs:List Bool):Pln :=
 (⟨s.cols,s.rows,s.top,s.bottom,s.shape,s.last,s.onAlt,s.cursor,s.style,s.sets,s.modes,s.kept,s.keptAlt,s.title⟩:Pln)
set_option maxRecDepth 100000 in
theorem A6y {s:ScrC} {sMain sAlt:List (Rwc Cel)} {sTabs:List Bool} {sMainq:Option Addr} {sMainrs:List Rwq} {sMaink:Nat} {sAltq:Option Addr} {sAltrs:List Rwq} {sAltk:Nat} {sTabsq:Option Addr} {sTabsk:Nat} {R:Pln} (hR:X0 s sMain sAlt sTabs=R) (a:B4 sMainrs sMain:=by exact om_) (h:sMain.length≤9223372036854775807:=by exact om_) (g:sMain.length≤sMaink:=by exact om_) (b:B4 sAltrs sAlt:=by exact om_) (j:sAlt.length≤9223372036854775807:=by exact om_) (i:sAlt.length≤sAltk:=by exact om_) (f:sTabs.length≤9223372036854775807:=by exact om_) (d:sTabs.length≤sTabsk:=by exact om_):J6 Tryz.prog 24 [ag (B3 s ⟨sMainq,sMain.length,sMaink⟩ ⟨sAltq,sAlt.length,sAltk⟩ ⟨none,0,0⟩ ⟨sTabsq,sTabs.length,sTabsk⟩)] [sl B5 sMainq sMainrs,B7 B1 sMainrs sMain,sl B5 sAltq sAltrs,B7 B1 sAltrs sAlt,sl H4 sTabsq sTabs] (ag (B8f R)):=by
 refine zce Tryz.func24 fun X hX hr hD=>?_
 replace hR:=(X0.eq_1 ..).symm.trans hR
 have:=a.1
 have:=b.1
 refine sR_ rfl (A4z 2 0 [] (fun e c=>[(1,pt e 0),(2,pt c 0)]) (fun e c=>[bx c (B8f Pln.zero) 86,bx e (B3 s ⟨sMainq,sMain.length,sMaink⟩ ⟨sAltq,sAlt.length,sAltk⟩ ⟨none,0,0⟩ ⟨sTabsq,sTabs.length,sTabsk⟩) 52]) (fun e c=>?_))
 refine ie (sR_ rfl (zrg 30 0 [1,1,1,1,1,1,1,1,1,1,1,1,1,1,0] [] [bx c (B8f (⟨s.cols,s.rows,s.top,s.bottom,s.shape,s.last,s.onAlt,s.cursor,s.style,s.sets,s.modes,s.kept,s.keptAlt,s.title⟩:Pln)) 86,bx e (B3 s ⟨sMainq,sMain.length,sMaink⟩ ⟨sAltq,sAlt.length,sAltk⟩ ⟨none,0,0⟩ ⟨sTabsq,sTabs.length,sTabsk⟩) 52] ?_))
 subst hR
 refine ie (A6 ?_)
 exact zer hr hD (U4 rfl (P7 (us:=B8f (⟨s.cols,s.rows,s.top,s.bottom,s.shape,s.last,s.onAlt,s.cursor,s.style,s.sets,s.modes,s.kept,s.keptAlt,s.title⟩:Pln)) D3r rfl 0 rfl rfl)) () sb_ A5.nil
def I1:Bool :=
 true
set_option maxRecDepth 100000 in
theorem S0 {R:Bool} (hR:I1=R):J6 Tryz.prog 82 [.slice none 0 0,.slice none 0 0,.func (.func 83) #[] #[]] [] (bv R):=by
 refine zce Tryz.func82 fun X hX hr hD=>?_
 replace hR:=(I1.eq_1 ..).symm.trans hR
 refine sR_ rfl (pp0 1 rfl ?_)
 refine ie (A2 (sR_ rfl (pp1 5 14 rfl ?_)))
 refine ie (P1 rfl (A3 (nx (A2 (sR_ rfl (pp3 3 15 16 17 rfl ?_))))))
 refine ie (A8 (P9 2 ?_))
 refine D6 (sR_ rfl (pp1 1 18 rfl ?_))
 refine ie (A2 (P1 rfl (F6 (nx (sR_ rfl (pp1 1 6 rfl ?_))))))
 subst hR
 refine ie (A6 ?_)
 exact E2 hr hD
def A5d:Bool :=
 I1
set_option maxRecDepth 100000 in
theorem C0y {R:Bool} (hR:A5d=R):J6 Tryz.prog 26 [.slice none 0 0,.slice none 0 0] [] (bv R):=by
 refine zce Tryz.func26 fun X hX hr hD=>?_
 replace hR:=(A5d.eq_1 ..).symm.trans hR
 refine sR_ rfl (pp0 1 rfl ?_)
 refine ie (sR_ rfl (pp2 2 5 6 rfl ?_))
 refine zv rfl (S0 rfl) ?_
 refine pp1 1 4 rfl ?_
 subst hR
 refine ie (A6 ?_)
 exact E2 hr hD
def A0o (a:ScrC) (e:List (Rwc Cel)) (g:List (Rwc Cel)) (c:List Bool) (b:ScrC) (f:List (Rwc Cel)) (h:List (Rwc Cel)) (d:List Bool):Bool :=
 (((((decide ((X0 a e g c)=(X0 b f h d)))&&(A6u c d))&&(A1t e f))&&(A1t g h))&&A5d)
set_option maxRecDepth 100000 in
theorem B6s {a:ScrC} {aMain aAlt:List (Rwc Cel)} {f:List Bool} {b:ScrC} {bMain bAlt:List (Rwc Cel)} {g:List Bool} {l:Option Addr} {n:List Rwq} {aMaink:Nat} {q:Option Addr} {p:List Rwq} {aAltk:Nat} {i:Option Addr} {aTabsk:Nat} {k:Option Addr} {m:List Rwq} {bMaink:Nat} {r:Option Addr} {o:List Rwq} {bAltk:Nat} {j:Option Addr} {bTabsk:Nat} {R:Bool} (hR:A0o a aMain aAlt f b bMain bAlt g=R) (d:B4 n aMain:=by exact om_) (t:aMain.length≤9223372036854775807:=by exact om_) (z:aMain.length≤aMaink:=by exact om_) (h:B4 p aAlt:=by exact om_) (a4:aAlt.length≤9223372036854775807:=by exact om_) (a3:aAlt.length≤aAltk:=by exact om_) (u:f.length≤9223372036854775807:=by exact om_) (s:f.length≤aTabsk:=by exact om_) (c:B4 m bMain:=by exact om_) (w:bMain.length≤9223372036854775807:=by exact om_) (y:bMain.length≤bMaink:=by exact om_) (e:B4 o bAlt:=by exact om_) (a5:bAlt.length≤9223372036854775807:=by exact om_) (a1:bAlt.length≤bAltk:=by exact om_) (v:g.length≤9223372036854775807:=by exact om_) (x:g.length≤bTabsk:=by exact om_):J6 Tryz.prog 9 [ag (B3 a ⟨l,aMain.length,aMaink⟩ ⟨q,aAlt.length,aAltk⟩ ⟨none,0,0⟩ ⟨i,f.length,aTabsk⟩),ag (B3 b ⟨k,bMain.length,bMaink⟩ ⟨r,bAlt.length,bAltk⟩ ⟨none,0,0⟩ ⟨j,g.length,bTabsk⟩)] [sl B5 l n,B7 B1 n aMain,sl B5 q p,B7 B1 p aAlt,sl H4 i f,sl B5 k m,B7 B1 m bMain,sl B5 r o,B7 B1 o bAlt,sl H4 j g] (bv R):=by
 refine zce Tryz.func9 fun X hX hr hD=>?_
 replace hR:=(A0o.eq_1 ..).symm.trans hR
 have:=d.1
 have:=h.1
 have:=c.1
 have:=e.1
 refine sR_ rfl (A4z 3 0 [] (fun b1 b2=>[(2,pt b1 0),(3,pt b2 0)]) (fun b1 b2=>[bx b2 (B3 b ⟨k,bMain.length,bMaink⟩ ⟨r,bAlt.length,bAltk⟩ ⟨none,0,0⟩ ⟨j,g.length,bTabsk⟩) 52,bx b1 (B3 a ⟨l,aMain.length,aMaink⟩ ⟨q,aAlt.length,aAltk⟩ ⟨none,0,0⟩ ⟨i,f.length,aTabsk⟩) 52]) (fun b1 b2=>?_))
 refine ie (sd 34 rfl oki rfl ?_)
 refine zdg 1 33 [1] [(5,ag (B3 a ⟨l,aMain.length,aMaink⟩ ⟨q,aAlt.length,aAltk⟩ ⟨none,0,0⟩ ⟨i,f.length,aTabsk⟩))] ?_
 refine zvd rfl (A6y rfl d om_ om_ h) ?_
 refine zdg 1 31 [0] [(7,ag (B3 b ⟨k,bMain.length,bMaink⟩ ⟨r,bAlt.length,bAltk⟩ ⟨none,0,0⟩ ⟨j,g.length,bTabsk⟩))] ?_
 refine zvd rfl (A6y rfl c om_ om_ e) ?_
 refine dd rfl (A3c (a:=(X0 a aMain aAlt f)) (b:=(X0 b bMain bAlt g)) D3e rfl rfl rfl) ?_
 refine pd1 1 10 rfl ?_
 refine zdd 6 22 10 16 (A6u f g) (fun g3 ac=>?_) ?_
 ·refine pg2 4 [1,0] 12 14 rfl ?_
  refine zvd rfl (C2r rfl) ?_
  refine pd1 1 16 rfl ?_
  exact zad 5 10 16 g3
 refine pd1 1 17 rfl ?_
 refine zda 6 15 17 23 (A1t aMain bMain) (fun g4=>?_) ?_
 ·have ad:=bq_ g4
  refine pg2 4 [1,0] 19 21 rfl ?_
  refine zvd rfl (B4p rfl d om_ om_ c) ?_
  refine pd1 1 23 rfl ?_
  exact zad 5 17 23 g4
 refine pd1 1 24 rfl ?_
 refine zda 6 8 24 30 (A1t aAlt bAlt) (fun g5=>?_) ?_
 ·have a9:=bq_ g5
  refine pg2 4 [1,0] 26 28 rfl ?_
  refine zvd rfl (B4p rfl h om_ om_ e) ?_
  refine pd1 1 30 rfl ?_
  exact zad 5 24 30 g5
 refine pd1 1 31 rfl ?_
 refine zda 6 1 31 37 A5d (fun g6=>?_) ?_
 ·have ab:=bq_ g6
  refine pg2 4 [1,0] 33 35 rfl ?_
  refine zvd rfl (C0y rfl) ?_
  refine pd1 1 37 rfl ?_
  exact zad 5 31 37 g6
 refine pd1 1 4 rfl ?_
 subst hR
 refine de (A6 ?_)
 exact E2 hr hD
theorem B4k (f:FrmC) (d:ScrC×List (Rwc Cel)×List (Rwc Cel)×List Bool×Int):∀ (l:List (List Cel)) (t:Nat) (a:List (Rwc Cel)),(K3 f d l t a).1.onAlt=d.1.onAlt
 | [],t,a=>rfl
 | _::l,t,a=>by simp only [K3];exact B4k f d l _ _
theorem D0o (s:ScrC) (m a:List (Rwc Cel)) (t:List Bool):(R6 s m a t).1.onAlt=true:=by
 unfold R6 H7 E8
 cases h:(true == s.onAlt) with
 | true=>rw [cond_true];simpa using h
 | false=>rfl
theorem D2g {s:ScrC} {m a:List (Rwc Cel)} {t:List Bool} (h:(A1l s m a t).2.2.2.2=0):(A1l s m a t).1.onAlt=true:=by
 unfold A1l Y5 E8 at *
 cases h1:decide (M3 s m a t=0) with
 | false=>rw [h1] at h;exact absurd h (of_decide_eq_false h1)
 | true =>
  cases h2:decide (V8 1049 1 Col.zero []=0) with
  | false=>rw [h1,h2] at h;exact absurd h (of_decide_eq_false h2)
  | true=>cases (X1 1049 1 Col.zero [])<;>exact D0o _ _ _ _
theorem B7e {f:FrmC} {a:List (List Cel)} {R:ScrC×List (Rwc Cel)×List (Rwc Cel)×List Bool×Int} (hR:R3 f a=R) (h:R.2.2.2.2=0):R.1.onAlt=true:=by
 subst hR
 unfold R3 E8 at *
 cases h1:decide (F3 f a=0) with
 | false=>rw [h1] at h;exact absurd h (of_decide_eq_false h1)
 | true =>
  rw [h1] at h
  simp only [Bool.not_true,cond_false] at h ⊢
  cases h2:decide ((N5 f.cols a.length).2.2.2.2=0) with
  | false=>rw [h2] at h;exact absurd h (of_decide_eq_false h2)
  | true =>
   rw [h2] at h
   simp only [cond_true] at h ⊢
   generalize hD:A4q (N5 f.cols a.length).1 (N5 f.cols a.length).2.1 (N5 f.cols a.length).2.2.1 (N5 f.cols a.length).2.2.2.1=D at h ⊢
   cases h3:decide (D.2.2.2.2=0) with
   | false=>rw [h3] at h;exact absurd h (of_decide_eq_false h3)
   | true =>
    simp only [Bool.not_true,cond_false]
    rw [B4k,← hD]
    refine D2g ?_
    rw [← hD] at h3
    exact of_decide_eq_true h3
def A0n (f:FrmC) (g:List (List Cel)) (s:Shf):Bool :=
 (bif (!A5n) then false else (E8 (K2 f g s) fun (d:FrmC×List (List Cel)×Int)=>(bif (!decide (d.2.2=0)) then ((decide (d.2.2=330))||(decide (d.2.2=2))) else (E8 (R2 s (g.length:Int)) fun (e:List Act×Int)=>(E8 (R3 f g) fun (b:ScrC×List (Rwc Cel)×List (Rwc Cel)×List Bool×Int)=>(bif ((!decide (e.2=0))||(!decide (b.2.2.2.2=0))) then false else (E8 (R3 ({d.1 with cursor:=Plc.zero}) d.2.1) fun (a:ScrC×List (Rwc Cel)×List (Rwc Cel)×List Bool×Int)=>(E8 (A3p b.1 b.2.1 b.2.2.1 b.2.2.2.1 e.1) fun (c:ScrC×List (Rwc Cel)×List (Rwc Cel)×List Bool×Int)=>(((decide (c.2.2.2.2=0))&&(decide (a.2.2.2.2=0)))&&(A0o c.1 c.2.1 c.2.2.1 c.2.2.2.1 a.1 a.2.1 a.2.2.1 a.2.2.2.1))))))))))
set_option maxRecDepth 100000 in
theorem B0y (f:FrmC) (g:List (List Cel)) (s:Shf) (i:Option Addr) (w:List Slc) (h:Nat) (j:E3 w g) (b5:g.length≤9223372036854775807) (b8:g.length≤h) (hT:f.title.length≤100000000) (R:Bool) (hR:A0n f g s=R):J6 Tryz.prog 3 [ag (B0 f ⟨i,g.length,h⟩),ag (B2 s)] [sl E4 i w,D3 B1 w g,O9,P0] (bv R):=by
 refine zce Tryz.func3 fun X hX hr hD=>?_
 replace hR:=(A0n.eq_1 ..).symm.trans hR
 have:=j.1
 refine sR_ rfl (A4z 3 0 [] (fun b1 b2=>[(2,pt b1 0),(3,pt b2 0)]) (fun b1 b2=>[bx b2 (B2 s) 28,bx b1 (B0 f ⟨i,g.length,h⟩) 26]) (fun b1 b2=>?_))
 refine ie (A2 (sR_ rfl (zv rfl (B8e _ rfl) ?_)))
 refine pp1 1 12 rfl ?_
 refine ie ?_
 refine zjb rfl hR ?_ ?_<;>clear hR<;>intro hR h3
 ·refine sR_ rfl (pp1 1 4 rfl ?_)
  subst hR
  refine ie (A6 ?_)
  exact E2 hr hD
 refine A3 (nx (sR_ rfl (zrl 2 7 [1,0] [(14,ag (B0 f ⟨i,g.length,h⟩)),(15,ag (B2 s))] ?_)))
 have hQ:=E9 hR;clear hR;obtain ⟨d,o,hR⟩:=hQ
 refine zc rfl (A4h o j) fun ⟨⟨r4,bw⟩,bc⟩=>?_
 try dsimp only at bc
 obtain ⟨ay,ax⟩:=bc
 have:=VOk.le ay
 have:=VOk.cap ay
 have:=ax.1
 have:=A0l f g s;try rw [o] at this
 refine U6 [bx b2 (B2 s) 28,bx b1 (B0 f ⟨i,g.length,h⟩) 26] [] (T:=65) (c:=E4) (r:=r4) (xs:=bw) (VOk.cast ay (by rw [ax.1])) omm ?_
 refine J3 6 0 [0] (fun b9=>[(5,pt b9 0),(6,iv d.2.2)]) (fun b9=>[bx b9 (B0 d.1 ⟨va r4.q,d.2.1.length,r4.k⟩) 26,bx b2 (B2 s) 28,bx b1 (B0 f ⟨i,g.length,h⟩) 26]) (fun b9=>?_)
 refine ie (A2 (sR_ rfl (pp1 2 20 rfl ?_)))
 refine ie ?_
 refine zjn rfl hR ?_ ?_<;>clear hR<;>intro hR cn c6
 ·refine sR_ rfl (pp1 3 23 rfl ?_)
  refine zir 3 1 23 26 (decide (d.2.2=2)) (fun bq ce=>?_) ?_
  ·refine pp1 3 26 rfl ?_
   exact zai 2 23 26 bq
  refine pp1 1 4 rfl ?_
  subst hR
  refine ie (A6 ?_)
  exact E2 hr hD
 refine A3 (nx (sR_ rfl (zrl 4 6 [1,2] [(28,ag (B2 s)),(31,iv (g.length:Int))] ?_)))
 have hQ:=E9 hR;clear hR;obtain ⟨x,m,hR⟩:=hQ
 refine zc rfl (A8g m) fun ⟨⟨az,b0⟩,bo⟩=>?_
 obtain ⟨cg,ck⟩:=bo
 refine pp2 5 7 6 rfl ?_
 refine ie (sR_ rfl (zrl 1 7 [2] [(36,ag (B0 f ⟨i,g.length,h⟩))] ?_))
 have hQ:=E9 hR;clear hR;obtain ⟨a,l,hR⟩:=hQ
 refine zc rfl (B0o l j) fun ⟨⟨⟨a9,c1,a6⟩,bl⟩,⟨⟨t,b3⟩,av⟩,⟨⟨a7,a8⟩,be⟩⟩=>?_
 obtain ⟨au,c7,cb⟩:=bl
 try dsimp only at av
 obtain ⟨ad,ai⟩:=av
 obtain ⟨c5,ca⟩:=be
 have:=VOk.le ad
 have:=VOk.cap ad
 have:=au.1
 have:=ai.1
 have u:=A5l f g;rw [l] at u
 refine U6 [bx b9 (B0 d.1 ⟨va r4.q,d.2.1.length,r4.k⟩) 26,bx b2 (B2 s) 28,bx b1 (B0 f ⟨i,g.length,h⟩) 26] [] (T:=72) (c:=B5) (r:=t) (xs:=b3) (VOk.cast ad (by rw [ai.1])) omm ?_
 refine J3 6 0 [0] (fun a1=>[(8,pt a1 0),(9,iv a.2.2.2.2)]) (fun a1=>[bx a1 (B3 a.1 ⟨a9,a.2.1.length,a6⟩ ⟨va t.q,a.2.2.1.length,t.k⟩ ⟨none,0,0⟩ ⟨a7,a.2.2.2.1.length,a8⟩) 52,bx b9 (B0 d.1 ⟨va r4.q,d.2.1.length,r4.k⟩) 26,bx b2 (B2 s) 28,bx b1 (B0 f ⟨i,g.length,h⟩) 26]) (fun a1=>?_)
 refine ie (A2 (sR_ rfl (pp1 3 42 rfl ?_)))
 refine zio 3 0 42 45 (!decide (a.2.2.2.2=0)) (fun b6=>?_) ?_
 ·have c9:=bq_ b6
  refine pp1 3 45 rfl ?_
  exact zai 2 42 45 b6
 refine ie ?_
 refine zjb rfl hR ?_ ?_<;>clear hR<;>intro hR bn
 ·have ac:=bq_ bn
  refine sR_ rfl (pp1 1 4 rfl ?_)
  subst hR
  refine ie (A6 ?_)
  exact E2 hr hD
 have ac:=bq_ bn
 have cm:=B7e l (by have:=ac;omega)
 have br:x.2=0:=by have:=ac;omega
 have bu:=C9p m br
 have bz:=bu.1
 refine D2j (v:=.slice az 3 b0) 7 (congrArg (fun z=>some (Value.slice az z b0)) bz) ?_
 refine A3 (nx (sR_ rfl (zrg 3 0 [1] [] [bx a1 (B3 a.1 ⟨a9,a.2.1.length,a6⟩ ⟨va t.q,a.2.2.1.length,t.k⟩ ⟨none,0,0⟩ ⟨a7,a.2.2.2.1.length,a8⟩) 52,bx b9 (B0 ({d.1 with cursor:=Plc.zero}) ⟨va r4.q,d.2.1.length,r4.k⟩) 26,bx b2 (B2 s) 28,bx b1 (B0 f ⟨i,g.length,h⟩) 26] ?_)))
 refine ie (sR_ rfl (zrl 1 7 [1] [(49,ag (B0 ({d.1 with cursor:=Plc.zero}) ⟨va r4.q,d.2.1.length,r4.k⟩))] ?_))
 have hQ:=E9 hR;clear hR;obtain ⟨b,n,hR⟩:=hQ
 refine zc rfl (B0o n ax) fun ⟨⟨⟨an,cf,ao⟩,bg⟩,⟨⟨a2,ba⟩,aw⟩,⟨⟨al,am⟩,bj⟩⟩=>?_
 obtain ⟨aq,ci,ch⟩:=bg
 try dsimp only at aw
 obtain ⟨af,ah⟩:=aw
 obtain ⟨c4,c2⟩:=bj
 have:=VOk.le af
 have:=VOk.cap af
 have:=aq.1
 have:=ah.1
 have p:=A5l ({d.1 with cursor:=Plc.zero}) d.2.1;rw [n] at p
 refine U6 [bx a1 (B3 a.1 ⟨a9,a.2.1.length,a6⟩ ⟨va t.q,a.2.2.1.length,t.k⟩ ⟨none,0,0⟩ ⟨a7,a.2.2.2.1.length,a8⟩) 52,bx b9 (B0 ({d.1 with cursor:=Plc.zero}) ⟨va r4.q,d.2.1.length,r4.k⟩) 26,bx b2 (B2 s) 28,bx b1 (B0 f ⟨i,g.length,h⟩) 26] [] (T:=72) (c:=B5) (r:=a2) (xs:=ba) (VOk.cast af (by rw [ah.1])) omm ?_
 refine J3 6 0 [0] (fun a4=>[(10,pt a4 0),(9,iv b.2.2.2.2)]) (fun a4=>[bx a4 (B3 b.1 ⟨an,b.2.1.length,ao⟩ ⟨va a2.q,b.2.2.1.length,a2.k⟩ ⟨none,0,0⟩ ⟨al,b.2.2.2.1.length,am⟩) 52,bx a1 (B3 a.1 ⟨a9,a.2.1.length,a6⟩ ⟨va t.q,a.2.2.1.length,t.k⟩ ⟨none,0,0⟩ ⟨a7,a.2.2.2.1.length,a8⟩) 52,bx b9 (B0 ({d.1 with cursor:=Plc.zero}) ⟨va r4.q,d.2.1.length,r4.k⟩) 26,bx b2 (B2 s) 28,bx b1 (B0 f ⟨i,g.length,h⟩) 26]) (fun a4=>?_)
 refine ie (sR_ rfl (zrl 2 6 [1] [(54,ag (B3 a.1 ⟨a9,a.2.1.length,a6⟩ ⟨va t.q,a.2.2.1.length,t.k⟩ ⟨none,0,0⟩ ⟨a7,a.2.2.2.1.length,a8⟩)),(55,.slice az 3 b0)] ?_))
 have hQ:=E9 hR;clear hR;obtain ⟨e,y,hR⟩:=hQ
 refine zc rfl (B7t y au om_ om_ ai) fun ⟨⟨⟨bd,cc,bi⟩,bk⟩,⟨⟨ab,bh⟩,ar⟩,⟨⟨b4,bb⟩,bm⟩⟩=>?_
 obtain ⟨ap,cj,c3⟩:=bk
 try dsimp only at ar
 obtain ⟨aj,ae⟩:=ar
 obtain ⟨cl,cd⟩:=bm
 have:=VOk.le aj
 have:=VOk.cap aj
 have:=ap.1
 have:=ae.1
 refine U6 [bx a4 (B3 b.1 ⟨an,b.2.1.length,ao⟩ ⟨va a2.q,b.2.2.1.length,a2.k⟩ ⟨none,0,0⟩ ⟨al,b.2.2.2.1.length,am⟩) 52,bx a1 (B3 a.1 ⟨a9,a.2.1.length,a6⟩ ⟨va t.q,a.2.2.1.length,t.k⟩ ⟨none,0,0⟩ ⟨a7,a.2.2.2.1.length,a8⟩) 52,bx b9 (B0 ({d.1 with cursor:=Plc.zero}) ⟨va r4.q,d.2.1.length,r4.k⟩) 26,bx b2 (B2 s) 28,bx b1 (B0 f ⟨i,g.length,h⟩) 26] [] (T:=72) (c:=B5) (r:=ab) (xs:=bh) (VOk.cast aj (by rw [ae.1])) omm ?_
 refine zrg 5 0 [1] [(6,iv e.2.2.2.2)] [bx a4 (B3 b.1 ⟨an,b.2.1.length,ao⟩ ⟨va a2.q,b.2.2.1.length,a2.k⟩ ⟨none,0,0⟩ ⟨al,b.2.2.2.1.length,am⟩) 52,bx a1 (B3 e.1 ⟨bd,e.2.1.length,bi⟩ ⟨va ab.q,e.2.2.1.length,ab.k⟩ ⟨none,0,0⟩ ⟨b4,e.2.2.2.1.length,bb⟩) 52,bx b9 (B0 ({d.1 with cursor:=Plc.zero}) ⟨va r4.q,d.2.1.length,r4.k⟩) 26,bx b2 (B2 s) 28,bx b1 (B0 f ⟨i,g.length,h⟩) 26] ?_
 refine ie (sR_ rfl (pp1 3 61 rfl ?_))
 refine zid 3 6 61 64 (decide (b.2.2.2.2=0)) (fun bp c0=>?_) ?_
 ·refine pp1 3 64 rfl ?_
  exact zai 2 61 64 bp
 refine pp1 1 65 rfl ?_
 refine zia 4 1 65 69 (A0o e.1 e.2.1 e.2.2.1 e.2.2.2.1 b.1 b.2.1 b.2.2.1 b.2.2.2.1) (fun b7=>?_) ?_
 ·have c8:=bq_ b7
  refine zrl 2 2 [1,0] [(66,ag (B3 e.1 ⟨bd,e.2.1.length,bi⟩ ⟨va ab.q,e.2.2.1.length,ab.k⟩ ⟨none,0,0⟩ ⟨b4,e.2.2.2.1.length,bb⟩)),(67,ag (B3 b.1 ⟨an,b.2.1.length,ao⟩ ⟨va a2.q,b.2.2.1.length,a2.k⟩ ⟨none,0,0⟩ ⟨al,b.2.2.2.1.length,am⟩))] ?_
  refine zv rfl (B6s rfl ap om_ om_ ae om_ om_ om_ om_ aq om_ om_ ah) ?_
  refine pp1 1 69 rfl ?_
  exact zai 5 65 69 b7
 refine pp1 1 4 rfl ?_
 subst hR
 refine ie (A6 ?_)
 exact E2 hr hD
end Go.Proofs.YtkdgfkfbljdgmaaGreatDoor
