import Derived.Test.YtkdgfkfbljdgmaaGreatDoorProg
import Derived.Test.YtkdgfkfbljdgmaaGreatDoorMA2
import Derived.Test.YtkdgfkfbljdgmaaGreatDoorMB1
import Derived.Test.YtkdgfkfbljdgmaaGreatDoorMB2
set_option linter.unusedVariables false
set_option linter.unusedSimpArgs false
set_option linter.unnecessarySimpa false
namespace Go.Proofs.YtkdgfkfbljdgmaaGreatDoor
open Go Go.Fen
theorem D1d:ApTy Tryz.prog 127 216 3 24:=⟨by kernel_rfl,by kernel_rfl,rfl⟩
theorem D3h:EqT Tryz.prog 24 B3e:=EqT.of 20 rfl oki oki (fun _ _=>by kernel_rfl) B3e.inj
theorem B6o:EqT Tryz.prog 28 B2:=EqT.of 20 rfl oki oki (fun _ _=>by kernel_rfl) B2.inj
theorem C0g:SlTy Tryz.prog 127 216 3:=⟨by kernel_rfl,by kernel_rfl⟩
theorem B3q:Ty Tryz.prog 28 3 true:=⟨by kernel_rfl⟩
theorem B4s:Ty Tryz.prog 91 1 false:=⟨by kernel_rfl⟩
theorem C9d:Ty Tryz.prog 93 41 true:=⟨by kernel_rfl⟩
theorem C5d:Ty Tryz.prog 127 1 false:=⟨by kernel_rfl⟩
theorem C9v:Ty Tryz.prog 216 3 true:=⟨by kernel_rfl⟩
theorem C3k:Zero Tryz.prog 26 (B0 FrmC.zero ⟨none,0,0⟩):=⟨by kernel_rfl⟩
theorem C3z:Zero Tryz.prog 93 (I9 Lks.zero):=⟨by kernel_rfl⟩
def A0h:List UInt8→Nat→List (List Cel)→(FrmC×List (List Cel))
 | [],t8,fRows=>({FrmC.zero with cols:=2},fRows)
 | hd_l0::tl_l0,t8,fRows=>A0h tl_l0 (t8+1) (fRows++([([{Cel.zero with base:=(hd_l0.toNat:Int)},{Cel.zero with base:=32}]:List Cel)]:List (List Cel)))
def A0c (s:List UInt8):FrmC×List (List Cel) :=
 A0h s 0 ([]:List (List Cel))
theorem A5t:∀ (cs:List UInt8) (t:Nat) (l:List (List Cel)),(A0h cs t l).1.title.length=0
 | [],t,l=>rfl
 | c::cs,t,l=>by simp only [A0h];exact A5t cs _ _
theorem M1 (s:List UInt8):(A0c s).1.title.length=0:=A5t _ _ _
set_option maxRecDepth 100000 in
theorem S8 (s:List UInt8) (hs:s.length≤1000) (R:FrmC×List (List Cel)) (hR:A0c s=R):Con Tryz.prog 11 [sv s] [] [] ({t:Option Addr×List Slc×Nat // E3 t.2.1 R.2∧R.2.length≤t.2.2∧R.2.length≤9223372036854775807}) (fun x=>ag (B0 R.1 ⟨x.1.1,R.2.length,x.1.2.2⟩)) (fun x=>[]) (fun x=>[sl E4 x.1.1 x.1.2.1,D3 B1 x.1.2.1 R.2]):=by
 refine zce Tryz.func11 fun X hX hr hD=>?_
 replace hR:=(A0c.eq_1 ..).symm.trans hR
 refine sR_ rfl (J3 1 0 [] (fun i=>[(2,pt i 0)]) (fun i=>[bx i (B0 FrmC.zero ⟨none,0,0⟩) 26]) (fun i=>?_))
 refine ie (sR_ rfl (J3 3 0 [0] (fun h=>[(3,pt h 0)]) (fun h=>[bx h (B0 ({FrmC.zero with cols:=2}) ⟨none,0,0⟩) 26,bx i (B0 FrmC.zero ⟨none,0,0⟩) 26]) (fun h=>?_)))
 refine ie (A2 (sR_ rfl (pp2 3 7 8 rfl ?_)))
 refine ie (A8 (A0t (J5 [vo E4 65 VR.nil ([]:List Slc),[bx h (B0 ({FrmC.zero with cols:=2}) ⟨none,0,0⟩) 26],[bx i (B0 FrmC.zero ⟨none,0,0⟩) 26]] [1,2,0] 3 rfl ozw rfl [[bx h (B0 ({FrmC.zero with cols:=2}) ⟨none,0,0⟩) 26],[bx i (B0 FrmC.zero ⟨none,0,0⟩) 26],vo E4 65 VR.nil ([]:List Slc)] rfl opv) ?_))
 refine A3q (un fun (g:Nat)=>un fun (b:List (List Cel))=>un fun (a:VR) (d:List Slc)=>(g≤s.length∧A0h (s.drop g) g b=R∧VOk 1 b.length a∧E3 d b∧b.length=g,[(0,sv s),(2,pt i 0),(3,pt h 0),(7,iv (s.length:Int)),(8,iv (g:Int))],(bx h (B0 ({FrmC.zero with cols:=2}) ⟨va a.q,b.length,a.k⟩) 26::bx i (B0 FrmC.zero ⟨none,0,0⟩) 26::((vo E4 65 a d)++([]))),[D3 B1 d b],s.length - g)) (0,([]:List (List Cel)),VR.nil,([]:List Slc)) ⟨opx,hR,VOk.nil,E3.none,(by rfl)⟩ sb_ fo_ ?_
 rintro ⟨g,b,a,d⟩ ⟨y,hR,f,e,z⟩
 have:=VOk.le f
 have:=e.1
 refine sR_ rfl (pp1 1 9 rfl ?_)
 refine ie (A2 (W2 rfl (fun u=>?_) (fun u=>?_)))
 ·have o:=bq_ u
  rw [Y3 0 (show g<s.length by omega)] at hR;replace hR:=(A0h.eq_2 ..).symm.trans hR
  refine A3 (nx (A2 (A8 (sR_ rfl (pp1 2 4 rfl ?_)))))
  refine ie ?_
  refine sh' 13 [(12,[bx h (B0 ({FrmC.zero with cols:=2}) ⟨va a.q,b.length,a.k⟩) 26]),(13,[bx i (B0 FrmC.zero ⟨none,0,0⟩) 26]),(10,vo E4 65 a d)] [D3 B1 d b] (bx h (B0 ({FrmC.zero with cols:=2}) ⟨va a.q,b.length,a.k⟩) 26::bx i (B0 FrmC.zero ⟨none,0,0⟩) 26::((vo E4 65 a d)++([]))) (zml 13 0) oki rfl oki oki oki sb_ A5.refl ?_
  refine zhp [0,2,3] 10 (zml 13 13) [(11,pt h 1),(13,sv s),(14,iv (g:Int))] ?_
  refine zhl 1 (bx h (B0 ({FrmC.zero with cols:=2}) ⟨va a.q,b.length,a.k⟩) 26::bx i (B0 FrmC.zero ⟨none,0,0⟩) 26::((vo E4 65 a d)++([]))) (zml 13 15) rfl (A7 (v:=.slice (va a.q) b.length a.k) C3m rfl rfl 0 rfl rfl) ?_
  refine zhk 4 (zml 13 31) rfl (C2g (T:=9) Tryz.underlying9 rfl rfl rfl g rfl opx) ?_
  refine zhk 5 (zml 13 63) rfl (B3s (c:=((s.getD g 0).toNat:Int)) Tryz.underlying3 oki rfl rfl (A8q (s.getD g 0))) ?_
  refine zhk 6 (zml 13 127) rfl (N8 (cs:=B1 ({Cel.zero with base:=((s.getD g 0).toNat:Int)})) rfl rfl oki) ?_
  refine zhk 7 (zml 13 255) rfl (N8 (cs:=B1 ({Cel.zero with base:=32})) rfl rfl oki) ?_
  refine zho 8 (bx h (B0 ({FrmC.zero with cols:=2}) ⟨va a.q,b.length,a.k⟩) 26::bx i (B0 FrmC.zero ⟨none,0,0⟩) 26::((vo E4 65 a d)++([]))) (zml 13 511) rfl (G2 (c:=B1) (xs:=([{Cel.zero with base:=((s.getD g 0).toNat:Int)},{Cel.zero with base:=32}]:List Cel)) A2p rfl rfl rfl oki) (fun m=>sb_) (fun m=>fo_) fun m=>?_
  have:([{Cel.zero with base:=((s.getD g 0).toNat:Int)},{Cel.zero with base:=32}]:List Cel).length=2:=rfl
  refine zho 9 (bx h (B0 ({FrmC.zero with cols:=2}) ⟨va a.q,b.length,a.k⟩) 26::bx i (B0 FrmC.zero ⟨none,0,0⟩) 26::((vo E4 65 a d)++([]))) (zml 13 1023) rfl (G2 (c:=E4) (xs:=([⟨some ⟨m,0,none⟩,2,2⟩]:List Slc)) A8c rfl rfl rfl oki) (fun w=>sb_) (fun w=>fo_) fun w=>?_
  have j:E3 ([⟨some ⟨m,0,none⟩,2,2⟩]:List Slc) ([([{Cel.zero with base:=((s.getD g 0).toNat:Int)},{Cel.zero with base:=32}]:List Cel)]:List (List Cel)):=(E3.cons ⟨ooy,okl,okl⟩ E3.none)
  refine A8u (q:=D3 B1 ([⟨some ⟨m,0,none⟩,2,2⟩]:List Slc) ([([{Cel.zero with base:=((s.getD g 0).toNat:Int)},{Cel.zero with base:=32}]:List Cel)]:List (List Cel))) (A4p (D4 1 rfl) U2) ?_
  have:([⟨some ⟨m,0,none⟩,2,2⟩]:List Slc).length=1:=rfl
  have p:E3 (d++([⟨some ⟨m,0,none⟩,2,2⟩]:List Slc)) (b++([([{Cel.zero with base:=((s.getD g 0).toNat:Int)},{Cel.zero with base:=32}]:List Cel)]:List (List Cel))):=E3.append e j
  refine zho 10 [bx h (B0 ({FrmC.zero with cols:=2}) ⟨va a.q,b.length,a.k⟩) 26,bx i (B0 FrmC.zero ⟨none,0,0⟩) 26] (zml 13 2047) rfl (B9u (r:=a) (rs:=d) (xss:=b) (pre:=[bx h (B0 ({FrmC.zero with cols:=2}) ⟨va a.q,b.length,a.k⟩) 26,bx i (B0 FrmC.zero ⟨none,0,0⟩) 26]) (post:=[]) C9u rfl rfl rfl rfl rfl rfl rfl rfl rfl (D4 1 rfl) (D4 3 rfl) (D4 0 rfl) e j f ofv ofv) (fun ⟨n,l⟩=>sb_) (fun ⟨n,l⟩=>fo_) fun ⟨n,l⟩=>?_
  have:=VOk.le l
  have:=VOk.cap l
  have:([([{Cel.zero with base:=((s.getD g 0).toNat:Int)},{Cel.zero with base:=32}]:List Cel)]:List (List Cel)).length=1:=rfl
  have:(b++([([{Cel.zero with base:=((s.getD g 0).toNat:Int)},{Cel.zero with base:=32}]:List Cel)]:List (List Cel))).length=b.length+1:=List.length_append
  refine zhp [11] 1 (zml 13 4095) [(22,pt h 1)] ?_
  refine zho 12 [bx i (B0 FrmC.zero ⟨none,0,0⟩) 26] (zml 13 8191) rfl (D0 (us:=[.slice (va n.q) ((b++([([{Cel.zero with base:=((s.getD g 0).toNat:Int)},{Cel.zero with base:=32}]:List Cel)]:List (List Cel))).length) n.k]) (cs':=B0 ({FrmC.zero with cols:=2}) ⟨va n.q,(b++([([{Cel.zero with base:=((s.getD g 0).toNat:Int)},{Cel.zero with base:=32}]:List Cel)]:List (List Cel))).length,n.k⟩) C3m rfl rfl rfl 0 rfl rfl rfl rfl rfl rfl) (fun _=>sb_) (fun _=>fo_) fun _=>?_
  refine A0s oki ?_
  refine nx (A0 2 rfl (ix rfl (A9 rfl rfl rfl rfl opx) ?_))
  refine pp1 1 8 rfl ?_
  refine A1 ?_
  exact A0y (z1:=(g,b,a,d)) (g+1,(b++([([{Cel.zero with base:=((s.getD g 0).toNat:Int)},{Cel.zero with base:=32}]:List Cel)]:List (List Cel))),n,(d++([⟨some ⟨m,0,none⟩,2,2⟩]:List Slc))) ⟨opx,hR,l,p,(by simp only [List.length_append,List.length_cons,List.length_nil];omega)⟩ olr sb_ fo_
 have o:=bq_ u
 rw [Y4 o] at hR;replace hR:=(A0h.eq_1 ..).symm.trans hR
 refine F6 (nx (sR_ rfl (zrg 2 0 [0,1] [] (bx h (B0 ({FrmC.zero with cols:=2}) ⟨va a.q,b.length,a.k⟩) 26::bx i (B0 ({FrmC.zero with cols:=2}) ⟨va a.q,b.length,a.k⟩) 26::((vo E4 65 a d)++([]))) ?_)))
 refine ie (A6 ?_)
 have:=VOk.le f
 have:=VOk.cap f
 have:=e.1
 refine B9f [bx h (B0 ({FrmC.zero with cols:=2}) ⟨va a.q,b.length,a.k⟩) 26,bx i (B0 ({FrmC.zero with cols:=2}) ⟨va a.q,b.length,a.k⟩) 26] [] (T:=65) (c:=E4) (r:=a) (xs:=d) (VOk.cast f (by rw [e.1])) omm ?_
 subst hR
 exact zer hr hD (U4 rfl (L6 (us:=B0 ({FrmC.zero with cols:=2}) ⟨va a.q,b.length,a.k⟩) B5b rfl 1 rfl rfl rfl)) ⟨(va a.q,d,a.k),⟨e,okl,okl⟩⟩ sb_ fo_
def O4 (a:FrmC) (c:List (List Cel)) (b:FrmC) (d:List (List Cel)):Int :=
 (bif (!decide ((F3 a c)=0)) then (F3 a c) else (bif (!decide ((F3 b d)=0)) then (F3 b d) else (bif ((!decide (a.cols=b.cols))||(!decide ((c.length:Int)=(d.length:Int)))) then 2 else 0)))
theorem A2h {a:FrmC} {d:List (List Cel)} {b:FrmC} {c:List (List Cel)}
  (h:O4 a d b c=0) :
  (2≤a.cols∧a.cols≤80∧1≤d.length∧d.length≤40∧∀ i,i<d.length→((d.getD i []).length:Int)=a.cols) ∧
  (2≤b.cols∧b.cols≤80∧1≤c.length∧c.length≤40∧∀ i,i<c.length→((c.getD i []).length:Int)=b.cols)∧a.cols=b.cols∧d.length=c.length:=by
 unfold O4 at h
 cases h1:decide (F3 a d=0) with
 | false=>rw [h1] at h;simp at h h1;exact absurd h h1
 | true =>
  rw [h1] at h
  cases h2:decide (F3 b c=0) with
  | false=>rw [h2] at h;simp at h h2;exact absurd h h2
  | true =>
   rw [h2] at h
   simp only [decide_eq_true_eq] at h1 h2
   refine ⟨A2d h1,A2d h2,?_⟩
   simp only [Bool.not_true,cond_false] at h
   cases h3:decide (a.cols=b.cols)<;>cases h4:decide ((d.length:Int)=(c.length:Int))<;>rw [h3,h4] at h<;>simp at h h3 h4
   exact ⟨by omega,by omega⟩
set_option maxRecDepth 100000 in
theorem B3d {a:FrmC} {aRows:List (List Cel)} {b:FrmC} {bRows:List (List Cel)} {d:Option Addr} {h:List Slc} {aRowsk:Nat} {e:Option Addr} {i:List Slc} {bRowsk:Nat} {R:Int} (hR:O4 a aRows b bRows=R) (g:E3 h aRows:=by exact om_) (l:aRows.length≤9223372036854775807:=by exact om_) (m:aRows.length≤aRowsk:=by exact om_) (f:E3 i bRows:=by exact om_) (p:bRows.length≤9223372036854775807:=by exact om_) (o:bRows.length≤bRowsk:=by exact om_) (hT:a.title.length≤100000000:=by exact om_) (u:b.title.length≤100000000:=by exact om_):J6 Tryz.prog 141 [ag (B0 a ⟨d,aRows.length,aRowsk⟩),ag (B0 b ⟨e,bRows.length,bRowsk⟩)] [sl E4 d h,D3 B1 h aRows,sl E4 e i,D3 B1 i bRows,O9,P0] (iv R):=by
 refine zce Tryz.func141 fun X hX hr hD=>?_
 replace hR:=(O4.eq_1 ..).symm.trans hR
 have:=g.1
 have:=f.1
 refine sR_ rfl (A4z 3 0 [] (fun k j=>[(2,pt k 0),(3,pt j 0)]) (fun k j=>[bx j (B0 b ⟨e,bRows.length,bRowsk⟩) 26,bx k (B0 a ⟨d,aRows.length,aRowsk⟩) 26]) (fun k j=>?_))
 refine ie (A2 (sR_ rfl (zrl 4 0 [1,0] [(10,ag [iv a.cols,.slice d aRows.length aRowsk,iv a.cursor.row,iv a.cursor.col,bv a.visible,iv a.shape,sv a.title,iv b.cols,.slice e bRows.length bRowsk,iv b.cursor.row,iv b.cursor.col,bv b.visible,iv b.shape,sv b.title]),(11,iv 0)] ?_)))
 refine ie (A8 (P9 4 ?_))
 refine D6 (sR_ rfl (pp1 1 12 rfl ?_))
 refine ie (A2 (G1 rfl (A3 (nx (A2 (A8 (sR_ rfl (ix rfl (E6 (v:=ag [iv a.cols,.slice d aRows.length aRowsk,iv a.cursor.row,iv a.cursor.col,bv a.visible,iv a.shape,sv a.title]) (us:=[iv a.cols,.slice d aRows.length aRowsk,iv a.cursor.row,iv a.cursor.col,bv a.visible,iv a.shape,sv a.title]) Tryz.underlying274 B5b rfl rfl rfl 0 rfl ozw rfl rfl rfl) ?_))))))))
 refine J3 2 0 [0] (fun n=>[(6,pt n 0)]) (fun n=>[bx n (B0 a ⟨d,aRows.length,aRowsk⟩) 26,bx j (B0 b ⟨e,bRows.length,bRowsk⟩) 26,bx k (B0 a ⟨d,aRows.length,aRowsk⟩) 26]) (fun n=>?_)
 refine ie (sR_ rfl (zrl 1 2 [0] [(14,ag (B0 a ⟨d,aRows.length,aRowsk⟩))] ?_))
 refine zv rfl (A3e rfl g) ?_
 refine pp1 1 7 rfl ?_
 refine ie (sR_ rfl (pp1 2 17 rfl ?_))
 refine ie ?_
 refine zjn rfl hR ?_ ?_<;>clear hR<;>intro hR z y
 ·refine sR_ rfl (pp1 2 4 rfl ?_)
  subst hR
  refine ie (A6 ?_)
  exact E2 hr hD
 refine A3 (nx (A0 2 rfl (ix rfl (A9 (c:=1) rfl rfl rfl rfl ozw) ?_)))
 refine pp1 1 11 rfl ?_
 refine A1 (D6 (sR_ rfl (pp1 1 12 rfl ?_)))
 refine ie (A2 (G1 rfl (A3 (nx (A2 (A8 (sR_ rfl (ix rfl (E6 (v:=ag [iv b.cols,.slice e bRows.length bRowsk,iv b.cursor.row,iv b.cursor.col,bv b.visible,iv b.shape,sv b.title]) (us:=[iv b.cols,.slice e bRows.length bRowsk,iv b.cursor.row,iv b.cursor.col,bv b.visible,iv b.shape,sv b.title]) Tryz.underlying274 B5b rfl rfl rfl 1 rfl ozw rfl rfl rfl) ?_))))))))
 refine J3 2 0 [0] (fun q=>[(6,pt q 0)]) (fun q=>[bx q (B0 b ⟨e,bRows.length,bRowsk⟩) 26,bx n (B0 a ⟨d,aRows.length,aRowsk⟩) 26,bx j (B0 b ⟨e,bRows.length,bRowsk⟩) 26,bx k (B0 a ⟨d,aRows.length,aRowsk⟩) 26]) (fun q=>?_)
 refine ie (sR_ rfl (zrl 1 2 [0] [(14,ag (B0 b ⟨e,bRows.length,bRowsk⟩))] ?_))
 refine zv rfl (A3e rfl f) ?_
 refine pp1 1 7 rfl ?_
 refine ie (sR_ rfl (pp1 2 17 rfl ?_))
 refine ie ?_
 refine zjn rfl hR ?_ ?_<;>clear hR<;>intro hR h6 x
 ·refine sR_ rfl (pp1 2 4 rfl ?_)
  subst hR
  refine ie (A6 ?_)
  exact E2 hr hD
 refine A3 (nx (A0 2 rfl (ix rfl (A9 (c:=2) rfl rfl rfl rfl ozw) ?_)))
 refine pp1 1 11 rfl ?_
 refine A1 (D6 (sR_ rfl (pp1 1 12 rfl ?_)))
 refine ie (A2 (P1 rfl (F6 (nx (A2 (sR_ rfl (pl1 6 [3,2] 25 rfl ?_)))))))
 refine zio 8 0 25 33 (!decide ((aRows.length:Int)=(bRows.length:Int))) (fun s=>?_) ?_
 ·have w:=bq_ s
  refine pl1 8 [3,2] 33 rfl ?_
  exact zai 2 25 33 s
 refine ie ?_
 refine zjb rfl hR ?_ ?_<;>clear hR<;>intro hR t
 ·have r:=bq_ t
  refine sR_ rfl (pp1 1 4 rfl ?_)
  subst hR
  refine ie (A6 ?_)
  exact E2 hr hD
 have r:=bq_ t
 refine A3 (nx (sR_ rfl (pp1 1 4 rfl ?_)))
 subst hR
 refine ie (A6 ?_)
 exact E2 hr hD
def D5 (row:Int) (a:List Cel) (b:List Cel):List Cel×List Cel×Int :=
 (a,b,row)
set_option maxRecDepth 100000 in
theorem B5r {row:Int} {a b:List Cel} {aq:Option Addr} {ak:Nat} {bq:Option Addr} {bk:Nat} {R:List Cel×List Cel×Int} (hR:D5 row a b=R) (f:a.length≤9223372036854775807:=by exact om_) (g:a.length≤ak:=by exact om_) (i:b.length≤9223372036854775807:=by exact om_) (h:b.length≤bk:=by exact om_):Con Tryz.prog 142 [iv row,.slice aq a.length ak,.slice bq b.length bk] [] [sl B1 aq a,sl B1 bq b] (Addr×{t:Option Addr×Nat // R.1.length≤t.2∧R.1.length≤9223372036854775807}×Addr×{t:Option Addr×Nat // R.2.1.length≤t.2∧R.2.1.length≤9223372036854775807}×Addr) (fun x=>.func (.func 211) #[] #[pa x.1,pa x.2.2.1,pa x.2.2.2.2]) (fun x=>[]) (fun x=>[at_ x.1 [.slice x.2.1.1.1 R.1.length x.2.1.1.2],sl B1 x.2.1.1.1 R.1,at_ x.2.2.1 [.slice x.2.2.2.1.1.1 R.2.1.length x.2.2.2.1.1.2],sl B1 x.2.2.2.1.1.1 R.2.1,at_ x.2.2.2.2 [iv R.2.2]]):=by
 refine zce Tryz.func142 fun X hX hr hD=>?_
 replace hR:=(D5.eq_1 ..).symm.trans hR
 refine sR_ rfl (it rfl (A7v (cs:=[iv row]) rfl rfl rfl) fun d=>?_)
 refine B3c 0 rfl ?_
 refine it rfl (A7v (cs:=[.slice aq a.length ak]) rfl rfl rfl) fun c=>?_
 refine B3c 0 rfl ?_
 refine it rfl (A7v (cs:=[.slice bq b.length bk]) rfl rfl rfl) fun e=>?_
 refine B3c 0 rfl ?_
 refine pp0 1 rfl ?_
 refine ie (sR_ rfl (ip' 2 0 [(6,.func (.func 211) #[] #[pa ⟨c,0,none⟩,pa ⟨e,0,none⟩,pa ⟨d,0,none⟩])] ?_))
 subst hR
 refine ie (A6 ?_)
 exact zer hr hD (U4 rfl (A4 rfl)) (⟨c,0,none⟩,(zq aq ak),⟨e,0,none⟩,(zq bq bk),⟨d,0,none⟩) sb_ fo_
def Z0 (a:List Cel) (b:List Cel) (i:Int):Bool :=
 ((decide ((a.getD ((i).toNat) Cel.zero).wide=1))||(decide ((b.getD ((i).toNat) Cel.zero).wide=1)))
set_option maxRecDepth 100000 in
theorem B4r {a b:List Cel} {i:Int} {aq:Option Addr} {ak:Nat} {bq:Option Addr} {bk:Nat} {R:Bool} (hR:Z0 a b i=R) (g:a.length≤9223372036854775807:=by exact om_) (h:a.length≤ak:=by exact om_) (k:b.length≤9223372036854775807:=by exact om_) (j:b.length≤bk:=by exact om_) (q:0≤i:=by exact om_) (p:i<a.length:=by exact om_) (m:i<b.length:=by exact om_):J6 Tryz.prog 212 [.slice aq a.length ak,.slice bq b.length bk,iv i] [sl B1 aq a,sl B1 bq b] (bv R):=by
 refine zce Tryz.func212 fun X hX hr hD=>?_
 replace hR:=(Z0.eq_1 ..).symm.trans hR
 refine sR_ rfl (pp0 1 rfl ?_)
 refine ie (sR_ rfl (pp2 2 7 8 rfl ?_))
 refine N2 0 rfl opx fun o d=>?_
 refine ix rfl (F7 A2p rfl rfl d rfl ((i).toNat) opx opx) ?_
 refine pp1 1 10 rfl ?_
 refine ix rfl (D8 ty3 rfl rfl (C0v (H5 (c:=B1) (sz:=12) d (fun _=>rfl) 0 rfl (gd Cel.zero opx)) (ws:=[iv ((a.getD ((i).toNat) Cel.zero).wide)]) 3 1 rfl) rfl) ?_
 refine pp1 2 13 rfl ?_
 refine zir 7 1 13 20 (decide ((b.getD ((i).toNat) Cel.zero).wide=1)) (fun l f=>?_) ?_
 ·refine pp2 2 14 15 rfl ?_
  refine N2 1 rfl opx fun n e=>?_
  refine ix rfl (F7 A2p rfl rfl e rfl ((i).toNat) opx opx) ?_
  refine pp1 1 17 rfl ?_
  refine ix rfl (D8 ty3 rfl rfl (C0v (H5 (c:=B1) (sz:=12) e (fun _=>rfl) 1 rfl (gd Cel.zero opx)) (ws:=[iv ((b.getD ((i).toNat) Cel.zero).wide)]) 3 1 rfl) rfl) ?_
  refine pp1 2 20 rfl ?_
  exact zai 7 13 20 l
 refine pp1 1 6 rfl ?_
 subst hR
 refine ie (A6 ?_)
 exact E2 hr hD
def O5 (d:List Cel) (e:List Cel) (f:Int) (c:Nat) (a:Nat→List Sp3):Nat→Nat→Bool→List Sp3
 | 0,_,_=>[]
 | fu3+1,b,differs=>(bif ((decide ((b:Int)<(d.length:Int)))&&(Z0 d e ((b:Int) - 1))) then O5 d e f c a fu3 (b+1) (differs||(!(decide ((d.getD b Cel.zero)=(e.getD b Cel.zero))))) else (bif differs then ((⟨f,(c:Int),(b:Int)⟩:Sp3)::a b) else a b))
def N0 (b:List Cel) (c:List Cel) (d:Int):Nat→Nat→List Sp3
 | 0,_=>[]
 | fu1+1,a=>(bif (decide ((a:Int)<(b.length:Int))) then O5 b c d a (N0 b c d fu1) ((b.length - (a+1))+1) (a+1) (!(decide ((b.getD a Cel.zero)=(c.getD a Cel.zero)))) else [])
def S9 (a:List Cel) (c:List Cel) (b:Int):List Sp3 :=
 N0 a c b ((a.length - 0)+1) 0
theorem A2o (a e:List Cel) (g:Int) (f:Nat) (ag:Nat→List Sp3) (b:∀ t,t≤a.length→(ag t).length≤a.length - t) :
  ∀ (c to:Nat) (d:Bool),to≤a.length→(O5 a e g f ag c to d).length≤1+(a.length - to)
 | 0,to,d,h=>by simp [O5]
 | c+1,to,d,h=>by
  simp only [O5]
  cases hc:(decide ((to:Int)<(a.length:Int))&&Z0 a e ((to:Int) - 1)) with
  | false=>have:=b to h;cases d<;>simp<;>omega
  | true =>
   simp only [Bool.and_eq_true,decide_eq_true_eq] at hc
   have i:=fun j=>A2o a e g f ag b c (to+1) j opx
   simp only [cond_true]
   exact Nat.le_trans (i _) opx
theorem A2m (a d:List Cel) (b:Int):∀ (c f:Nat),f≤a.length→(N0 a d b c f).length≤a.length - f
 | 0,f,h=>by simp [N0]
 | c+1,f,h=>by
  simp only [N0]
  cases hc:decide ((f:Int)<(a.length:Int)) with
  | false=>simp
  | true =>
   simp only [decide_eq_true_eq] at hc
   simp only [cond_true]
   exact Nat.le_trans (A2o a d b f _ (fun t e=>A2m a d b c t e) _ _ _ opx) opx
theorem A4y (a c:List Cel) (b:Int):(S9 a c b).length≤a.length:=by
 have:=A2m a c b (a.length - 0+1) 0 (Nat.zero_le _);simpa [S9] using this
set_option maxRecDepth 100000 in
theorem B3f (g:List Cel) (j:List Cel) (c2:Int) (u:Addr) (h:Option Addr) (k:Nat) (t:Addr) (o:Option Addr) (p:Nat) (s:Addr) (ad:g.length≤9223372036854775807) (af:g.length≤k) (ae:j.length≤9223372036854775807) (ah:j.length≤p) (hl:g.length=j.length) (h6:g.length≤1000000) (R:List Sp3) (hR:S9 g j c2=R):B1o Tryz.prog 211 [pa u,pa t,pa s] [sl B1 h g,at_ u [.slice h g.length k],sl B1 o j,at_ t [.slice o j.length p],at_ s [iv c2]] (fun x=>ag (J7 x)) R:=by
 refine B3g (n:=59) Tryz.func211 rfl oki rfl rfl (fun l=>[(0,.func (.yield l) #[] #[]),(1,pa u),(2,pa t),(3,pa s)]) (fun l=>⟨rfl,rfl,rfl,rfl,trivial⟩) fun X l I Ix L Φ hX hr hD hI0 hY=>?_
 replace hR:=(S9.eq_1 ..).symm.trans hR
 refine sr 1 rfl (ip' 1 0 [(5,iv 0)] ?_)
 refine ie (A8 ?_)
 refine C8v (fun (fu:Nat) (d:Nat) (R_:List Sp3) (Lt:Fen.Own) (Ft:List Pers)=>((g.length - d)<fu∧N0 g j c2 fu d=R_∧I R_ Lt Ft∧d≤g.length,[(0,.func (.yield l) #[] #[]),(1,pa u),(2,pa t),(3,pa s),(5,iv (d:Int))],(Lt++([])),(sl B1 h g::at_ u [.slice h g.length k]::sl B1 o j::at_ t [.slice o j.length p]::at_ s [iv c2]::Ft),fu)) ((g.length - 0)+1) 0 R L Φ ⟨(Nat.lt_succ_self _),hR,hI0,opx⟩ (mc [L] [true] rfl oxs) (A5.con1 (D4 0 rfl) (A5.con1 (D4 1 rfl) (A5.con1 (D4 2 rfl) (A5.con1 (D4 3 rfl) (A5.con1 (D4 4 rfl) (A5.dropT 5 rfl)))))) ?_
 rintro fu d R_ Lt Ft ⟨ai,hR,a6,hf⟩
 obtain ⟨fu1,rfl⟩:∃ m,fu=m+1:=⟨fu - 1,by omega⟩
 replace hR:=(N0.eq_2 ..).symm.trans hR
 refine A2 (sr 4 rfl (ip' 1 3 [(8,iv (d:Int))] ?_))
 refine ix rfl (D8 (v:=.slice h g.length k) (us:=[.slice h g.length k]) A6h rfl rfl (D4 1 rfl) rfl) ?_
 refine ip' 2 0 [(11,bv (decide ((d:Int)<(g.length:Int))))] ?_
 refine ie ?_
 refine zjd rfl hR ?_ ?_<;>clear hR<;>intro hR h2 an
 ·refine A3 (nx (A8 (sr 3 rfl (ip' 1 2 [(12,iv (d:Int))] ?_))))
  refine ix rfl (A9 rfl rfl rfl rfl opx) ?_
  refine ip' 1 0 [(6,iv ((d:Int)+1))] ?_
  refine ie (sd 10 rfl oki rfl ?_)
  refine dd rfl (D8 (v:=.slice h g.length k) (us:=[.slice h g.length k]) A6h rfl rfl (D4 1 rfl) rfl) ?_
  refine dp' 1 8 [(15,iv (d:Int))] ?_
  refine A2b 0 rfl opx fun a3 a2=>?_
  refine dd rfl (F7 A2p rfl rfl a2 rfl d rfl opx) ?_
  refine dd rfl (I3 (us:=B1 (g.getD d Cel.zero)) B0g rfl rfl (H5 (c:=B1) (sz:=12) a2 (fun _=>rfl) 0 rfl (gd Cel.zero opx)) rfl) ?_
  refine dd rfl (D8 (v:=.slice o j.length p) (us:=[.slice o j.length p]) A6h rfl rfl (D4 3 rfl) rfl) ?_
  refine dp' 1 4 [(19,iv (d:Int))] ?_
  refine A2b 2 rfl opx fun a5 a4=>?_
  refine dd rfl (F7 A2p rfl rfl a4 rfl d rfl opx) ?_
  refine dd rfl (I3 (us:=B1 (j.getD d Cel.zero)) B0g rfl rfl (H5 (c:=B1) (sz:=12) a4 (fun _=>rfl) 2 rfl (gd Cel.zero opx)) rfl) ?_
  refine dd rfl (W4 (a:=(g.getD d Cel.zero)) (b:=(j.getD d Cel.zero)) B7a rfl rfl rfl) ?_
  refine dp' 1 0 [(7,bv (!(decide ((g.getD d Cel.zero)=(j.getD d Cel.zero)))))] ?_
  refine de (A2 (A8 ?_))
  refine D3u (fun (w:Nat) (e:Nat) (f:Bool) (R_1:List Sp3) (Lt1:Fen.Own) (Ft1:List Pers)=>((g.length - e)<w∧O5 g j c2 d (N0 g j c2 fu1) w e f=R_1∧I R_1 Lt1 Ft1∧e≤g.length∧d<e,[(0,.func (.yield l) #[] #[]),(1,pa u),(2,pa t),(3,pa s),(5,iv (d:Int)),(6,iv (e:Int)),(7,bv f)],(Lt1++([])),(sl B1 h g::at_ u [.slice h g.length k]::sl B1 o j::at_ t [.slice o j.length p]::at_ s [iv c2]::Ft1),w)) ((g.length - (d+1))+1) (d+1) (!(decide ((g.getD d Cel.zero)=(j.getD d Cel.zero)))) R_ Lt Ft ⟨(Nat.lt_succ_self _),hR,a6,opx,opx⟩ (mc [Lt] [true] rfl oxs) (A5.con1 (D4 0 rfl) (A5.con1 (D4 1 rfl) (A5.con1 (D4 2 rfl) (A5.con1 (D4 3 rfl) (A5.con1 (D4 4 rfl) (A5.dropT 5 rfl)))))) ?_
  rintro w e f R_1 Lt1 Ft1 ⟨ao,hR,r,al,aj⟩
  obtain ⟨fu3,rfl⟩:∃ m,w=m+1:=⟨w - 1,by omega⟩
  replace hR:=(O5.eq_2 ..).symm.trans hR
  refine A2 (sr 11 rfl (ip' 1 10 [(23,iv (e:Int))] ?_))
  refine ix rfl (D8 (v:=.slice h g.length k) (us:=[.slice h g.length k]) A6h rfl rfl (D4 1 rfl) rfl) ?_
  refine ip' 3 6 [(27,bv (decide ((e:Int)<(g.length:Int))))] ?_
  refine zid 6 0 27 33 (Z0 g j ((e:Int) - 1)) (fun g8 am=>?_) ?_
  ·refine ix rfl (D8 (v:=.slice h g.length k) (us:=[.slice h g.length k]) A6h rfl rfl (D4 1 rfl) rfl) ?_
   refine ix rfl (D8 (v:=.slice o j.length p) (us:=[.slice o j.length p]) A6h rfl rfl (D4 3 rfl) rfl) ?_
   refine ip' 1 3 [(30,iv (e:Int))] ?_
   refine ix rfl (R9 rfl rfl rfl rfl opx) ?_
   refine zca (B4r (a:=g) (b:=j) (i:=((e:Int) - 1)) (aq:=h) (ak:=k) (bq:=o) (bk:=p) rfl) (A5.cons (D4 0 rfl) (A5.cons (D4 2 rfl) A5.nil)) ?_
   refine ip' 1 0 [(33,bv (Z0 g j ((e:Int) - 1)))] ?_
   exact A1 (J0 7 27 33 g8 A5.refl (mc [Lt1] [true] rfl oxs) rfl rfl rfl rfl rfl)
  refine ie ?_
  refine zjb rfl hR ?_ ?_<;>clear hR<;>intro hR h9
  ·have a7:=h9;try simp only [Bool.and_eq_true,Bool.or_eq_true,Bool.and_eq_false_iff,Bool.or_eq_false_iff,Bool.not_eq_true',Bool.not_eq_false',decide_eq_true_eq,decide_eq_false_iff_not] at a7
   refine A3 (nx (A8 (sd 13 rfl oki rfl ?_)))
   refine dp' 2 11 [(35,bv f)] ?_
   refine zdO 10 1 35 45 (!(decide ((g.getD e Cel.zero)=(j.getD e Cel.zero)))) (fun ab=>?_) ?_
   ·refine dd rfl (D8 (v:=.slice h g.length k) (us:=[.slice h g.length k]) A6h rfl rfl (D4 1 rfl) rfl) ?_
    refine dp' 1 8 [(37,iv (e:Int))] ?_
    refine dd rfl (F7 A2p rfl rfl a2 rfl e rfl opx) ?_
    refine dd rfl (I3 (us:=B1 (g.getD e Cel.zero)) B0g rfl rfl (H5 (c:=B1) (sz:=12) a2 (fun _=>rfl) 0 rfl (gd Cel.zero opx)) rfl) ?_
    refine dd rfl (D8 (v:=.slice o j.length p) (us:=[.slice o j.length p]) A6h rfl rfl (D4 3 rfl) rfl) ?_
    refine dp' 1 4 [(41,iv (e:Int))] ?_
    refine dd rfl (F7 A2p rfl rfl a4 rfl e rfl opx) ?_
    refine dd rfl (I3 (us:=B1 (j.getD e Cel.zero)) B0g rfl rfl (H5 (c:=B1) (sz:=12) a4 (fun _=>rfl) 2 rfl (gd Cel.zero opx)) rfl) ?_
    refine dd rfl (W4 (a:=(g.getD e Cel.zero)) (b:=(j.getD e Cel.zero)) B7a rfl rfl rfl) ?_
    refine dp' 1 0 [(45,bv (!(decide ((g.getD e Cel.zero)=(j.getD e Cel.zero)))))] ?_
    exact zad 11 35 45 ab
   refine dp' 1 0 [(7,bv (f||(!(decide ((g.getD e Cel.zero)=(j.getD e Cel.zero))))))] ?_
   refine de (A0 3 rfl (ip' 1 2 [(46,iv (e:Int))] ?_))
   refine ix rfl (A9 rfl rfl rfl rfl opx) ?_
   refine ip' 1 0 [(6,iv ((e:Int)+1))] ?_
   refine A1 ?_
   exact D3x (z1:=(fu3+1)) (z2:=e) (z3:=f) (z4:=R_1) (z5:=Lt1) (z6:=Ft1) fu3 (e+1) (f||(!(decide ((g.getD e Cel.zero)=(j.getD e Cel.zero))))) R_1 Lt1 Ft1 ⟨opx,hR,r,opx,opx⟩ (Nat.lt_succ_self _) (mc [Lt1] [true] rfl oxs) (A5.con1 (D4 0 rfl) (A5.con1 (D4 1 rfl) (A5.con1 (D4 2 rfl) (A5.con1 (D4 3 rfl) (A5.con1 (D4 4 rfl) (A5.dropT 5 rfl))))))
  have a7:=h9;try simp only [Bool.and_eq_true,Bool.or_eq_true,Bool.and_eq_false_iff,Bool.or_eq_false_iff,Bool.not_eq_true',Bool.not_eq_false',decide_eq_true_eq,decide_eq_false_iff_not] at a7
  refine F6 (nx (A2 (sr 10 rfl (ip' 2 8 [(49,bv f)] ?_))))
  rcases Bool.eq_false_or_eq_true f with z | z
  ·refine C0a 49 rfl z ?_
   replace hR:=bt hR z
   refine ip' 1 7 [(50,.func (.yield l) #[] #[])] ?_
   refine ix rfl (D8 (v:=iv c2) (us:=[iv c2]) ty3 rfl rfl (D4 4 rfl) rfl) ?_
   refine zrl 3 3 [] [(54,ag (J7 (⟨c2,(d:Int),(e:Int)⟩:Sp3)))] ?_
   have a1:=C1f hR;clear hR;obtain ⟨R12,hR,a1⟩:=a1;rw [a1] at r
   refine it rfl (A6x (L2:=[]) (hY _ R12 _ _ r) rfl rfl rfl rfl (A5.dropT 5 rfl) (J5 [Lt1] [0] 1 rfl ozw rfl [Lt1] rfl ooa)) fun ⟨⟨a9,L14,Φ15⟩,q⟩=>?_
   refine B1u (A5.yield [sl B1 h g,at_ u [.slice h g.length k],sl B1 o j,at_ t [.slice o j.length p],at_ s [iv c2]]) ?_
   refine ip' 2 0 [(57,bv (!a9))] ?_
   refine ie (W2 rfl (fun a8=>?_) (fun a8=>?_))
   ·have y:a9=false:=by simpa using a8
    rw [y] at q;try simp only [if_true,if_false,Bool.false_eq_true] at q
    refine A6 ?_
    exact A9m rfl ⟨hr,hD⟩ (by simp [hD]) (A3f rfl) (L':=L14) (Φ':=Φ15) (by exact .inr q) (mcT [L14] 0 rfl rfl) (A5.dropT 5 rfl)
   ·have y:a9=true:=by simpa using a8
    rw [y] at q;try simp only [if_true,if_false,Bool.false_eq_true] at q
    refine A3 (nx (A0 2 rfl (ip' 2 0 [(5,iv (e:Int))] ?_)))
    refine A1 ?_
    exact C8d (z1:=(fu1+1)) (z2:=d) (z3:=R_) (z4:=Lt) (z5:=Ft) fu1 e R12 L14 Φ15 ⟨opx,hR,q,opx⟩ (Nat.lt_succ_self _) (mc [L14] [true] rfl oxs) (A5.con1 (D4 0 rfl) (A5.con1 (D4 1 rfl) (A5.con1 (D4 2 rfl) (A5.con1 (D4 3 rfl) (A5.con1 (D4 4 rfl) (A5.dropT 5 rfl))))))
  ·refine C0a 49 rfl z ?_
   replace hR:=bf hR z
   refine ip' 8 0 [(57,bv false)] ?_
   refine ie (P1 rfl (A3 (nx (A0 2 rfl (ip' 2 0 [(5,iv (e:Int))] ?_)))))
   refine A1 ?_
   exact C8d (z1:=(fu1+1)) (z2:=d) (z3:=R_) (z4:=Lt) (z5:=Ft) fu1 e R_1 Lt1 Ft1 ⟨opx,hR,r,opx⟩ (Nat.lt_succ_self _) (mc [Lt1] [true] rfl oxs) (A5.con1 (D4 0 rfl) (A5.con1 (D4 1 rfl) (A5.con1 (D4 2 rfl) (A5.con1 (D4 3 rfl) (A5.con1 (D4 4 rfl) (A5.dropT 5 rfl))))))
 subst hR
 refine F6 ?_
 exact A4e rfl ⟨hr,hD⟩ (by simp [hD]) (A3f rfl) (L':=Lt) (Φ':=Ft) (by exact .inl a6) (mcT [Lt] 0 rfl rfl) (A5.dropT 5 rfl)
def A5v (a:Sp3) (b:Sp3):Bool :=
 ((decide (a.row=b.row))&&(decide (a.to=b.frm)))
set_option maxRecDepth 100000 in
theorem B7s {a b:Sp3} {R:Bool} (hR:A5v a b=R):J6 Tryz.prog 144 [ag (J7 a),ag (J7 b)] [] (bv R):=by
 refine zce Tryz.func144 fun X hX hr hD=>?_
 replace hR:=(A5v.eq_1 ..).symm.trans hR
 refine sR_ rfl (A4z 3 0 [] (fun d c=>[(2,pt d 0),(3,pt c 0)]) (fun d c=>[bx c (J7 b) 216,bx d (J7 a) 216]) (fun d c=>?_))
 refine ie (sR_ rfl (pl1 6 [1,0] 10 rfl ?_))
 refine zid 6 1 10 16 (decide (a.to=b.frm)) (fun f e=>?_) ?_
 ·refine pl1 6 [1,0] 16 rfl ?_
  exact A1 (J0 2 10 16 f A5.nil sb_ rfl rfl rfl rfl rfl)
 refine pp1 1 4 rfl ?_
 subst hR
 refine ie (A6 ?_)
 exact E2 hr hD
def N6 (g:List Sp3) (s:Sp3):List Sp3 :=
 (bif ((decide ((0:Int)<(g.length:Int)))&&(A5v (g.getD (g.length - 1) Sp3.zero) s)) then (g.set (g.length - 1) ({(g.getD (g.length - 1) Sp3.zero) with to:=(if s.to > (g.getD (g.length - 1) Sp3.zero).to then s.to else (g.getD (g.length - 1) Sp3.zero).to)})) else (g++([s]:List Sp3)))
theorem A1a (g:List Sp3) (s:Sp3):(N6 g s).length≤g.length+1:=by
 unfold N6;try simp only [Bool.cond_eq_ite]
 repeat' split
 all_goals simp
theorem ozr {p:Prop} (h:p:=by first|omega|(simp only [List.length_cons,List.length_nil,List.length_append,List.length_take,List.length_drop,D5];omega)):p:=h
set_option maxRecDepth 100000 in
theorem A7m {g:List Sp3} {s:Sp3} {d:Nat} {gr:VR} {R:List Sp3} (hR:N6 g s=R) (e:VOk 3 g.length gr:=by exact om_) (hg:g.length≤1000000:=by exact om_):Con Tryz.prog 143 [pt d 0,ag (J7 s),.func (.func 144) #[] #[]] (bx d [.slice (va gr.q) g.length gr.k] 211::((vo J7 216 gr g)++([]))) [] ({r:VR // VOk 3 R.length r}) (fun x=>.tuple #[]) (fun x=>(bx d [.slice (va x.1.q) R.length x.1.k] 211::((vo J7 216 x.1 R)++([])))) (fun x=>[]):=by
 refine zce Tryz.func143 fun X hX hr hD=>?_
 replace hR:=(N6.eq_1 ..).symm.trans hR
 have:=VOk.le e
 refine sR_ rfl (J3 1 0 [] (fun h=>[(4,pt h 0)]) (fun h=>(bx h (J7 s) 216::bx d [.slice (va gr.q) g.length gr.k] 211::((vo J7 216 gr g)++([])))) (fun h=>?_))
 refine ie (A2 (sR_ rfl (pl1 7 [1] 6 rfl ?_)))
 refine ie (sd 16 rfl oki rfl ?_)
 refine pd1 3 15 rfl ?_
 refine zdd 13 0 15 28 (A5v (g.getD (g.length - 1) Sp3.zero) s) (fun y w=>?_) ?_
 ·refine zdg 7 6 [1] [(16,.func (.func 144) #[] #[]),(21,.slice (va gr.q) g.length gr.k),(22,iv (g.length:Int))] ?_
  refine dd rfl (R9 rfl rfl rfl rfl opx) ?_
  obtain ⟨b3,o⟩:=VOk.some e opx
  obtain ⟨z,k6,j7⟩:=gr
  obtain rfl:z=some b3:=o
  refine dd rfl (A0b C0g rfl rfl rfl (g.length - 1) opx opx) ?_
  refine dd rfl (C2q (us:=J7 (g.getD (g.length - 1) Sp3.zero)) (c:=J7) (sz:=3) C9v (fun _=>rfl) rfl rfl 2 rfl (g.length - 1) 0 rfl (gd Sp3.zero opx) rfl rfl) ?_
  refine zdg 1 2 [0] [(26,ag (J7 s))] ?_
  refine zvd rfl (B7s rfl) ?_
  refine pd1 1 28 rfl ?_
  exact zad 10 15 28 y
 refine de ?_
 refine zjb rfl hR ?_ ?_<;>clear hR<;>intro hR t
 ·have n:=bq_ t
  refine sh 23 [(23,[bx h (J7 s) 216]),(23,[bx d [.slice (va gr.q) g.length gr.k] 211]),(22,vo J7 216 gr g)] [] (bx h (J7 s) 216::bx d [.slice (va gr.q) g.length gr.k] 211::((vo J7 216 gr g)++([]))) (zml 23 0) oki rfl oki oki oki sb_ A5.refl ?_
  refine zhp [0,1,2,3,5,7,8,9,10,12,17] 12 (zml 23 137135) [(32,pt d 0),(34,iv (g.length:Int)),(39,pt d 0),(41,iv (g.length:Int)),(46,pt h 2)] ?_
  refine zhl 4 (bx h (J7 s) 216::bx d [.slice (va gr.q) g.length gr.k] 211::((vo J7 216 gr g)++([]))) (zml 23 137151) rfl (A7 (v:=.slice (va gr.q) g.length gr.k) C5d rfl rfl 1 rfl rfl) ?_
  refine zhk 6 (zml 23 137215) rfl (R9 rfl rfl rfl rfl opx) ?_
  refine zhl 11 (bx h (J7 s) 216::bx d [.slice (va gr.q) g.length gr.k] 211::((vo J7 216 gr g)++([]))) (zml 23 139263) rfl (A7 (v:=.slice (va gr.q) g.length gr.k) C5d rfl rfl 1 rfl rfl) ?_
  refine zhk 13 (zml 23 147455) rfl (R9 rfl rfl rfl rfl opx) ?_
  obtain ⟨b9,l⟩:=VOk.some e opx
  obtain ⟨p,a,b⟩:=gr
  obtain rfl:p=some b9:=l
  refine zhl 14 (bx h (J7 s) 216::bx d [.slice (va (⟨some b9,a,b⟩:VR).q) g.length ((⟨some b9,a,b⟩:VR).k)] 211::((vo J7 216 (⟨some b9,a,b⟩:VR) g)++([]))) (zml 23 163839) rfl (A0b C0g rfl rfl rfl (g.length - 1) opx opx) ?_
  refine zhp [15] 6 (zml 23 196607) [(44,.pointer (some ⟨b9,(g.length - 1) * 3+2,none⟩))] ?_
  refine zhl 16 (bx h (J7 s) 216::bx d [.slice (va (⟨some b9,a,b⟩:VR).q) g.length ((⟨some b9,a,b⟩:VR).k)] 211::((vo J7 216 (⟨some b9,a,b⟩:VR) g)++([]))) (zml 23 262143) rfl (B4l (u:=iv ((g.getD (g.length - 1) Sp3.zero).to)) (c:=J7) (sz:=3) ty3 (fun _=>rfl) rfl rfl 2 rfl (g.length - 1) 2 rfl (gd Sp3.zero opx) rfl) ?_
  refine zhl 18 (bx h (J7 s) 216::bx d [.slice (va (⟨some b9,a,b⟩:VR).q) g.length ((⟨some b9,a,b⟩:VR).k)] 211::((vo J7 216 (⟨some b9,a,b⟩:VR) g)++([]))) (zml 23 524287) rfl (A7 (v:=iv s.to) ty3 rfl rfl 0 rfl rfl) ?_
  refine zhp [19] 3 (zml 23 1048575) [(48,iv (if s.to > (g.getD (g.length - 1) Sp3.zero).to then s.to else (g.getD (g.length - 1) Sp3.zero).to))] ?_
  refine zhl 20 [bx h (J7 s) 216,bx d [.slice (va (⟨some b9,a,b⟩:VR).q) g.length ((⟨some b9,a,b⟩:VR).k)] 211] (zml 23 2097151) rfl (A0b C0g rfl rfl rfl (g.length - 1) opx opx) ?_
  refine zhp [21] 1 (zml 23 4194303) [(50,.pointer (some ⟨b9,(g.length - 1) * 3+2,none⟩))] ?_
  refine zho 22 [bx h (J7 s) 216,bx d [.slice (va (⟨some b9,a,b⟩:VR).q) g.length ((⟨some b9,a,b⟩:VR).k)] 211] (zml 23 8388607) rfl (Y6 (us:=[iv (if s.to > (g.getD (g.length - 1) Sp3.zero).to then s.to else (g.getD (g.length - 1) Sp3.zero).to)]) (u':={(g.getD (g.length - 1) Sp3.zero) with to:=(if s.to > (g.getD (g.length - 1) Sp3.zero).to then s.to else (g.getD (g.length - 1) Sp3.zero).to)}) (c:=J7) (sz:=3) ty3 (fun _=>rfl) rfl rfl rfl 2 rfl rfl rfl rfl (g.length - 1) 2 rfl (gd Sp3.zero opx) rfl rfl) (fun _=>sb_) (fun _=>A5.nil) fun _=>?_
  refine P4 oki ?_
  subst hR
  refine A6 ?_
  exact zer hr hD (A3f rfl) ⟨(⟨some b9,a,b⟩:VR),(VOk.cast e oom)⟩ sb_ A5.nil
 have n:=bq_ t
 refine A3 (nx ?_)
 refine sh' 13 [(13,[bx h (J7 s) 216]),(12,[bx d [.slice (va gr.q) g.length gr.k] 211]),(8,vo J7 216 gr g)] [] (bx h (J7 s) 216::bx d [.slice (va gr.q) g.length gr.k] 211::((vo J7 216 gr g)++([]))) (zml 13 0) oki rfl oki oki oki sb_ A5.refl ?_
 refine zhp [0,1,2,3,4] 8 (zml 13 31) [(51,pt d 0),(55,pt d 0)] ?_
 refine zhl 5 (bx h (J7 s) 216::bx d [.slice (va gr.q) g.length gr.k] 211::((vo J7 216 gr g)++([]))) (zml 13 63) rfl (A7 (v:=.slice (va gr.q) g.length gr.k) C5d rfl rfl 1 rfl rfl) ?_
 refine zhl 6 [bx h (J7 s) 216,bx d [.slice (va gr.q) g.length gr.k] 211] (zml 13 127) rfl (E5 (us:=J7 s) C9v rfl rfl 0 rfl rfl rfl) ?_
 refine zho 7 (bx h (J7 s) 216::bx d [.slice (va gr.q) g.length gr.k] 211::((vo J7 216 gr g)++([]))) (zml 13 255) rfl (G2 (c:=J7) (xs:=([s]:List Sp3)) C0g rfl rfl rfl oki) (fun m=>sb_) (fun m=>A5.nil) fun m=>?_
 have:([s]:List Sp3).length=1:=rfl
 refine zho 8 [bx h (J7 s) 216,bx d [.slice (va gr.q) g.length gr.k] 211] (zml 13 511) rfl (B1y (f:=J7) (r:=gr) (xs:=g) (ys:=([s]:List Sp3)) (pre:=[bx h (J7 s) 216,bx d [.slice (va gr.q) g.length gr.k] 211]) (post:=[]) D1d (fun _=>rfl) (fun _=>rfl) rfl rfl rfl rfl rfl rfl rfl rfl rfl (D4 0 rfl) e ozr ozr) (fun ⟨j,i⟩=>sb_) (fun ⟨j,i⟩=>A5.nil) fun ⟨j,i⟩=>?_
 have:=VOk.le i
 have:=VOk.cap i
 refine zhp [9,10,11] 1 (zml 13 4095) [(62,pt d 0)] ?_
 refine zho 12 [bx h (J7 s) 216] (zml 13 8191) rfl (D0 (us:=[.slice (va j.q) ((g++([s]:List Sp3)).length) j.k]) (cs':=[.slice (va j.q) ((g++([s]:List Sp3)).length) j.k]) C5d rfl rfl rfl 1 rfl rfl rfl rfl rfl rfl) (fun _=>sb_) (fun _=>A5.nil) fun _=>?_
 refine A0s oki ?_
 subst hR
 exact zen hr hD (A3f rfl) ⟨j,i⟩ sb_ A5.nil
def N3 (c:Nat) (a:Nat→List Sp3→(List Sp3×Int)):List Sp3→List Sp3→(List Sp3×Int)
 | [],blist1=>a (c+1) blist1
 | el::rest,blist1=>(E8 (N6 blist1 el) fun (b:List Sp3)=>N3 c a rest b)
def K4 (a:List (List Cel)):List (List Cel)→Nat→List Sp3→(List Sp3×Int)
 | [],b,blist=>(blist,0)
 | hd_l0::tl_l0,b,blist=>N3 b (K4 a tl_l0) (S9 ((D5 (b:Int) hd_l0 (a.getD b [])).1) ((D5 (b:Int) hd_l0 (a.getD b [])).2.1) ((D5 (b:Int) hd_l0 (a.getD b [])).2.2)) blist
def U8 (a:FrmC) (c:List (List Cel)) (b:FrmC) (d:List (List Cel)):List Sp3×Int :=
 (bif (!decide ((O4 a c b d)=0)) then (([]:List Sp3),(O4 a c b d)) else K4 d c 0 ([]:List Sp3))
theorem A4b (b:Nat) (ag:Nat→List Sp3→List Sp3×Int) (B:Nat) (c:∀ l,(ag (b+1) l).1.length≤l.length+B):∀ (es a:List Sp3),(N3 b ag es a).1.length≤a.length+es.length+B
 | [],a=>by have:=c a;simp only [N3,List.length_nil];omega
 | e::es,a=>by
  have f:=A1a a e;have d:=A4b b ag B c es (N6 a e)
  simp only [N3,E8,List.length_cons];omega
theorem A3z (a:List (List Cel)):∀ (b:List (List Cel)) (t:Nat) (l:List Sp3),(∀ r ∈ b,r.length≤80)→(K4 a b t l).1.length≤l.length+80 * b.length
 | [],t,l,_=>by simp [K4]
 | r::b,t,l,h=>by
  have f:=h r (List.mem_cons_self ..)
  have e:=A4y r (a.getD t []) (t:Int)
  have d:=A4b t (K4 a b) (80 * b.length) (fun l=>A3z a b (t+1) l (fun x c=>h x (List.mem_cons_of_mem _ c))) (S9 r (a.getD t []) (t:Int)) l
  simp only [K4,D5,List.length_cons];omega
theorem B3j (a:FrmC) (c:List (List Cel)) (b:FrmC) (d:List (List Cel)):(U8 a c b d).1.length≤3200:=by
 unfold U8
 cases h:decide (O4 a c b d=0) with
 | false=>simp
 | true =>
  have g:=A2h (of_decide_eq_true h)
  have f:=A3z d c 0 [] (fun r hr=>by
   obtain ⟨i,e,rfl⟩:=List.mem_iff_getElem.1 hr
   have:=g.1.2.2.2.2 i e
   rw [List.getD_eq_getElem?_getD,List.getElem?_eq_getElem e,Option.getD_some] at this
   omega)
  simp only [List.length_nil] at f
  simp only [Bool.not_true,cond_false]
  omega
theorem B4v {a:FrmC} {d:List (List Cel)} {b:FrmC} {c:List (List Cel)} {r:List Sp3×Int}
  (h:U8 a d b c=r) (e:r.2=0):O4 a d b c=0:=by
 subst h
 unfold U8 at e
 cases hc:decide (O4 a d b c=0) with
 | true=>exact of_decide_eq_true hc
 | false=>rw [hc] at e;exact e
theorem odu {p:Prop} (h:p:=by first|rfl|(simp only [List.length_set,List.length_append,List.length_cons,List.length_nil];rfl)|simp|(simp;omega)):p:=h
theorem owj {p:Prop} (h:p:=by first|omega|(simp only [List.length_take,List.length_drop,List.length_append,List.length_cons,List.length_nil,List.length_set,List.length_map,D5];omega)|decide):p:=h
set_option maxRecDepth 100000 in
theorem B6p {a:FrmC} {aRows:List (List Cel)} {b:FrmC} {bRows:List (List Cel)} {g:Option Addr} {m:List Slc} {aRowsk:Nat} {i:Option Addr} {o:List Slc} {bRowsk:Nat} {R:List Sp3×Int} (hR:U8 a aRows b bRows=R) (s:E3 m aRows:=by exact om_) (ar:aRows.length≤9223372036854775807:=by exact om_) (aw:aRows.length≤aRowsk:=by exact om_) (p:E3 o bRows:=by exact om_) (aq:bRows.length≤9223372036854775807:=by exact om_) (ao:bRows.length≤bRowsk:=by exact om_) (hT:a.title.length≤100000000:=by exact om_) (bi:b.title.length≤100000000:=by exact om_):Con Tryz.prog 84 [ag (B0 a ⟨g,aRows.length,aRowsk⟩),ag (B0 b ⟨i,bRows.length,bRowsk⟩)] [] [sl E4 g m,D3 B1 m aRows,sl E4 i o,D3 B1 o bRows,O9,P0] ({r:VR // VOk 3 R.1.length r}) (fun x=>.tuple #[.slice (va x.1.q) R.1.length x.1.k,iv R.2]) (fun x=>((vo J7 216 x.1 R.1)++([]))) (fun x=>[]):=by
 refine zce Tryz.func84 fun X hX hr hD=>?_
 replace hR:=(U8.eq_1 ..).symm.trans hR
 have:=s.1
 have:=p.1
 refine sR_ rfl (A4z 4 0 [] (fun b1 b2=>[(2,pt b1 0),(3,pt b2 0)]) (fun b1 b2=>[bx b2 (B0 b ⟨i,bRows.length,bRowsk⟩) 26,bx b1 (B0 a ⟨g,aRows.length,aRowsk⟩) 26]) (fun b1 b2=>?_))
 refine ie (A2 (sR_ rfl (zrl 2 2 [1,0] [(10,ag (B0 a ⟨g,aRows.length,aRowsk⟩)),(11,ag (B0 b ⟨i,bRows.length,bRowsk⟩))] ?_)))
 refine zv rfl (B3d rfl s om_ om_ p) ?_
 refine pp1 1 6 rfl ?_
 refine ie (sR_ rfl (pp1 2 14 rfl ?_))
 refine ie ?_
 refine zjn rfl hR ?_ ?_<;>clear hR<;>intro hR h3 b9
 ·refine sR_ rfl (pp2 3 4 5 rfl ?_)
  subst hR
  refine ie (A6 ?_)
  exact zer hr hD (V1 rfl (A4 rfl) (A4 rfl)) ⟨VR.nil,VOk.nil⟩ (mc [[bx b2 (B0 b ⟨i,bRows.length,bRowsk⟩) 26],[bx b1 (B0 a ⟨g,aRows.length,aRowsk⟩) 26],vo J7 216 VR.nil ([]:List Sp3)] [false,false,true] rfl oxs) A5.nil
 have ah:=A2h (by simpa using h3)
 have al:=ah.1.2.2.2.2
 have az:=ah.2.1.2.2.2.2
 have bj:=ah.2.2
 refine A3 (nx (sR_ rfl (A4z 4 0 [0] (fun y b5=>[(7,pt b5 0)]) (fun y b5=>[bx b5 [pt y 0] 207,bx y [.slice none 0 0] 211,bx b2 (B0 b ⟨i,bRows.length,bRowsk⟩) 26,bx b1 (B0 a ⟨g,aRows.length,aRowsk⟩) 26]) (fun y b5=>?_))))
 refine ie (A2 (sR_ rfl (pl2 4 [3] 20 21 rfl ?_)))
 refine ie (A8 (A0t (J5 [vo J7 216 VR.nil ([]:List Sp3),[bx b5 [pt y 0] 207],[bx y [.slice none 0 0] 211],[bx b2 (B0 b ⟨i,bRows.length,bRowsk⟩) 26],[bx b1 (B0 a ⟨g,aRows.length,aRowsk⟩) 26]] [1,2,3,4,0] 5 rfl ozw rfl [[bx b5 [pt y 0] 207],[bx y [.slice none 0 0] 211],[bx b2 (B0 b ⟨i,bRows.length,bRowsk⟩) 26],[bx b1 (B0 a ⟨g,aRows.length,aRowsk⟩) 26],vo J7 216 VR.nil ([]:List Sp3)] rfl opv) ?_))
 refine D4g (fun (e:Nat) (l:List Sp3) (f:VR)=>e≤aRows.length∧K4 bRows (aRows.drop e) e l=R∧VOk 3 l.length f∧l.length≤80 * e) (fun (e:Nat) (l:List Sp3) (f:VR)=>[(2,pt b1 0),(3,pt b2 0),(7,pt b5 0),(20,iv (aRows.length:Int)),(21,iv (e:Int))]) (fun (e:Nat) (l:List Sp3) (f:VR)=>(bx b5 [pt y 0] 207::bx y [.slice (va f.q) l.length f.k] 211::bx b2 (B0 b ⟨i,bRows.length,bRowsk⟩) 26::bx b1 (B0 a ⟨g,aRows.length,aRowsk⟩) 26::((vo J7 216 f l)++([])))) (fun (e:Nat) (l:List Sp3) (f:VR)=>[sl E4 g m,D3 B1 m aRows,sl E4 i o,D3 B1 o bRows,O9,P0]) (fun (e:Nat) (l:List Sp3) (f:VR)=>aRows.length - e) 0 ([]:List Sp3) VR.nil (show M9 X.D by rw [hD];exact M9.nil) ⟨opx,hR,VOk.nil,oom⟩ ⟨rfl,rfl,rfl,rfl,odu,trivial⟩ (mc [[bx b5 [pt y 0] 207],[bx y [.slice none 0 0] 211],[bx b2 (B0 b ⟨i,bRows.length,bRowsk⟩) 26],[bx b1 (B0 a ⟨g,aRows.length,aRowsk⟩) 26],vo J7 216 VR.nil ([]:List Sp3)] [true,true,true,true,true] rfl oxs) A5.refl ?_
 rintro e l f ds av ⟨bc,hR,a1,hb⟩
 have:=VOk.le a1
 refine sR_ rfl (pp1 1 22 rfl ?_)
 refine ie (A2 (W2 rfl (fun h7=>?_) (fun h7=>?_)))
 ·have ap:=bq_ h7
  rw [Y3 [] (show e<aRows.length by omega)] at hR;replace hR:=(K4.eq_2 ..).symm.trans hR
  refine A3 (nx (A2 (A8 (sR_ rfl (pp1 2 8 rfl ?_)))))
  refine ie (A0p (V2 (k:=e) (d:=(⟨none,0,0⟩:Slc)) s 1 rfl (by have:=s.1;omega)) ?_)
  have:=U7 s (k:=e) (d:=(⟨none,0,0⟩:Slc)) (by have:=s.1;omega)
  refine A0p (V2 (k:=e) (d:=(⟨none,0,0⟩:Slc)) p 4 rfl (by have:=p.1;omega)) ?_
  have:=U7 p (k:=e) (d:=(⟨none,0,0⟩:Slc)) (by have:=p.1;omega)
  refine sh 12 [(12,[bx b5 [pt y 0] 207]),(12,[bx y [.slice (va f.q) l.length f.k] 211]),(12,[bx b2 (B0 b ⟨i,bRows.length,bRowsk⟩) 26]),(12,[bx b1 (B0 a ⟨g,aRows.length,aRowsk⟩) 26]),(12,vo J7 216 f l)] [sl B1 ((o.getD e (⟨none,0,0⟩:Slc)).q) (bRows.getD e []),sl B1 ((m.getD e (⟨none,0,0⟩:Slc)).q) (aRows.getD e []),sl E4 g m,D3 B1 m aRows,sl E4 i o,D3 B1 o bRows,O9,P0] (bx b5 [pt y 0] 207::bx y [.slice (va f.q) l.length f.k] 211::bx b2 (B0 b ⟨i,bRows.length,bRowsk⟩) 26::bx b1 (B0 a ⟨g,aRows.length,aRowsk⟩) 26::((vo J7 216 f l)++([]))) (zml 12 0) oki rfl oki oki oki (mc [[bx b5 [pt y 0] 207],[bx y [.slice (va f.q) l.length f.k] 211],[bx b2 (B0 b ⟨i,bRows.length,bRowsk⟩) 26],[bx b1 (B0 a ⟨g,aRows.length,aRowsk⟩) 26],vo J7 216 f l] [true,true,true,true,true] rfl oxs) A5.refl ?_
  refine zhp [0,1,3,6,8] 7 (zml 12 331) [(24,iv (e:Int)),(25,pt b1 1),(27,iv (e:Int)),(30,pt b2 1),(32,iv (e:Int))] ?_
  refine zhl 2 (bx b5 [pt y 0] 207::bx y [.slice (va f.q) l.length f.k] 211::bx b2 (B0 b ⟨i,bRows.length,bRowsk⟩) 26::bx b1 (B0 a ⟨g,aRows.length,aRowsk⟩) 26::((vo J7 216 f l)++([]))) (zml 12 335) rfl (A7 (v:=.slice g aRows.length aRowsk) C3m rfl rfl 3 rfl rfl) ?_
  refine B9w 2 rfl (by have:=s.1;omega) fun a8 au=>?_
  refine zhk 4 (zml 12 351) rfl (F7 A8c rfl rfl au rfl e rfl opx) ?_
  refine zhk 5 (zml 12 383) rfl (H2 (D8 (v:=.slice ((m.getD e (⟨none,0,0⟩:Slc)).q) ((m.getD e (⟨none,0,0⟩:Slc)).n) ((m.getD e (⟨none,0,0⟩:Slc)).k)) (us:=[.slice ((m.getD e (⟨none,0,0⟩:Slc)).q) ((m.getD e (⟨none,0,0⟩:Slc)).n) ((m.getD e (⟨none,0,0⟩:Slc)).k)]) A6h rfl rfl (H5 (c:=E4) (sz:=1) au (fun _=>rfl) 2 rfl (gd (⟨none,0,0⟩:Slc) (by have:=s.1;omega))) rfl) (Y2 s (by have:=s.1;omega))) ?_
  refine zhl 7 (bx b5 [pt y 0] 207::bx y [.slice (va f.q) l.length f.k] 211::bx b2 (B0 b ⟨i,bRows.length,bRowsk⟩) 26::bx b1 (B0 a ⟨g,aRows.length,aRowsk⟩) 26::((vo J7 216 f l)++([]))) (zml 12 511) rfl (A7 (v:=.slice i bRows.length bRowsk) C3m rfl rfl 2 rfl rfl) ?_
  refine B9w 4 rfl (by have:=p.1;omega) fun bb ak=>?_
  refine zhk 9 (zml 12 1023) rfl (F7 A8c rfl rfl ak rfl e rfl opx) ?_
  refine zhk 10 (zml 12 2047) rfl (H2 (D8 (v:=.slice ((o.getD e (⟨none,0,0⟩:Slc)).q) ((o.getD e (⟨none,0,0⟩:Slc)).n) ((o.getD e (⟨none,0,0⟩:Slc)).k)) (us:=[.slice ((o.getD e (⟨none,0,0⟩:Slc)).q) ((o.getD e (⟨none,0,0⟩:Slc)).n) ((o.getD e (⟨none,0,0⟩:Slc)).k)]) A6h rfl rfl (H5 (c:=E4) (sz:=1) ak (fun _=>rfl) 4 rfl (gd (⟨none,0,0⟩:Slc) (by have:=p.1;omega))) rfl) (Y2 p (by have:=p.1;omega))) ?_
  refine zho 11 (bx b5 [pt y 0] 207::bx y [.slice (va f.q) l.length f.k] 211::bx b2 (B0 b ⟨i,bRows.length,bRowsk⟩) 26::bx b1 (B0 a ⟨g,aRows.length,aRowsk⟩) 26::((vo J7 216 f l)++([]))) (zml 12 4095) rfl (I0 (L2:=(bx b5 [pt y 0] 207::bx y [.slice (va f.q) l.length f.k] 211::bx b2 (B0 b ⟨i,bRows.length,bRowsk⟩) 26::bx b1 (B0 a ⟨g,aRows.length,aRowsk⟩) 26::((vo J7 216 f l)++([])))) (B5r rfl) rfl rfl rfl rfl rfl fo_ (List.Perm.refl _) (fun ⟨a7,⟨⟨a5,ae⟩,ad⟩,aa,⟨⟨a6,af⟩,ac⟩,a9⟩=>(bx b5 [pt y 0] 207::bx y [.slice (va f.q) l.length f.k] 211::bx b2 (B0 b ⟨i,bRows.length,bRowsk⟩) 26::bx b1 (B0 a ⟨g,aRows.length,aRowsk⟩) 26::((vo J7 216 f l)++([])))) (fun _=>by first|rfl|simp only [List.append_nil,List.cons_append,List.nil_append,List.append_assoc])) (fun ⟨a7,⟨⟨a5,ae⟩,ad⟩,aa,⟨⟨a6,af⟩,ac⟩,a9⟩=>(mc [[bx b5 [pt y 0] 207],[bx y [.slice (va f.q) l.length f.k] 211],[bx b2 (B0 b ⟨i,bRows.length,bRowsk⟩) 26],[bx b1 (B0 a ⟨g,aRows.length,aRowsk⟩) 26],vo J7 216 f l] [true,true,true,true,true] rfl oxs)) (fun ⟨a7,⟨⟨a5,ae⟩,ad⟩,aa,⟨⟨a6,af⟩,ac⟩,a9⟩=>fo_) fun ⟨a7,⟨⟨a5,ae⟩,ad⟩,aa,⟨⟨a6,af⟩,ac⟩,a9⟩=>?_
  obtain ⟨b7,b6⟩:=ad
  obtain ⟨b8,b3⟩:=ac
  refine P4 oki ?_
  refine A8 (C7n [(2,pt b1 0),(3,pt b2 0),(7,pt b5 0),(20,iv (aRows.length:Int)),(21,iv (e:Int)),(35,.func (.func 211) #[] #[pa a7,pa aa,pa a9])] ⟨rfl,rfl,rfl,rfl,rfl,rfl,trivial⟩ ?_)
  refine C0j (β:=Sp3) (enc:=(fun x=>ag (J7 x))) (xs:=(S9 ((D5 (e:Int) (aRows.getD e []) (bRows.getD e [])).1) ((D5 (e:Int) (aRows.getD e []) (bRows.getD e [])).2.1) ((D5 (e:Int) (aRows.getD e []) (bRows.getD e [])).2.2))) (σ:=List Sp3×VR) hr rfl (B3f ((D5 (e:Int) (aRows.getD e []) (bRows.getD e [])).1) ((D5 (e:Int) (aRows.getD e []) (bRows.getD e [])).2.1) ((D5 (e:Int) (aRows.getD e []) (bRows.getD e [])).2.2) a7 a5 ae aa a6 af a9 owj owj owj owj (by first|omega|(simp only [D5];have:=al e opx;have:=az e opx;omega)) (by first|omega|(simp only [D5];have:=al e opx;omega)) _ rfl) fo_ rfl rfl (fun ai x=>N3 e (K4 bRows (aRows.drop (e+1))) ai x.1=R∧VOk 3 x.1.length x.2∧x.1.length+ai.length≤80 * (e+1)) (fun _ _=>False) (fun x=>(bx b5 [pt y 0] 207::bx y [.slice (va x.2.q) x.1.length x.2.k] 211::bx b2 (B0 b ⟨i,bRows.length,bRowsk⟩) 26::bx b1 (B0 a ⟨g,aRows.length,aRowsk⟩) 26::((vo J7 216 x.2 x.1)++([])))) (fun x=>[at_ a7 [.slice a5 (((D5 (e:Int) (aRows.getD e []) (bRows.getD e [])).1).length) ae],sl B1 a5 ((D5 (e:Int) (aRows.getD e []) (bRows.getD e [])).1),at_ aa [.slice a6 (((D5 (e:Int) (aRows.getD e []) (bRows.getD e [])).2.1).length) af],sl B1 a6 ((D5 (e:Int) (aRows.getD e []) (bRows.getD e [])).2.1),at_ a9 [iv ((D5 (e:Int) (aRows.getD e []) (bRows.getD e [])).2.2)],sl B1 ((o.getD e (⟨none,0,0⟩:Slc)).q) (bRows.getD e []),sl B1 ((m.getD e (⟨none,0,0⟩:Slc)).q) (aRows.getD e []),sl E4 g m,D3 B1 m aRows,sl E4 i o,D3 B1 o bRows,O9,P0]) (l,f) (by exact ⟨hR,a1,(by have h1:=A4y ((D5 (e:Int) (aRows.getD e []) (bRows.getD e [])).1) ((D5 (e:Int) (aRows.getD e []) (bRows.getD e [])).2.1) ((D5 (e:Int) (aRows.getD e []) (bRows.getD e [])).2.2);have h2:(D5 (e:Int) (aRows.getD e []) (bRows.getD e [])).1.length=(aRows.getD e []).length:=rfl;have:=al e opx;dsimp only;omega)⟩) (mc [[bx b5 [pt y 0] 207],[bx y [.slice (va f.q) l.length f.k] 211],[bx b2 (B0 b ⟨i,bRows.length,bRowsk⟩) 26],[bx b1 (B0 a ⟨g,aRows.length,aRowsk⟩) 26],vo J7 216 f l] [true,true,true,true,true] rfl oxs) A5.refl ?_ ?_ (fun _ _ _ _ h=>h.elim)
  ·rintro el rest ⟨z,w⟩ hI Y Y' K' be hK
   try dsimp only at hI
   obtain ⟨hR,u,ay⟩:=hI
   replace hR:=(N3.eq_2 ..).symm.trans hR
   have:=VOk.le u
   refine A0 2 rfl (J3 2 0 [0] (fun ab=>[(9,pt ab 0)]) (fun ab=>(bx ab (J7 el) 216::bx b5 [pt y 0] 207::bx y [.slice (va w.q) z.length w.k] 211::bx b2 (B0 b ⟨i,bRows.length,bRowsk⟩) 26::bx b1 (B0 a ⟨g,aRows.length,aRowsk⟩) 26::((vo J7 216 w z)++([])))) (fun ab=>?_))
   refine A1 (hK _ _ _ ?_)
   refine A8 (A0 3 rfl (zrl 2 1 [1,0] [(37,pt y 0),(38,ag (J7 el))] ?_))
   have hQ:=E9 hR;clear hR;obtain ⟨j,t,hR⟩:=hQ
   refine zc rfl (A7m t u) fun ⟨a4,aj⟩=>?_
   have:=VOk.le aj
   have:=VOk.cap aj
   have:=A1a z el;try rw [t] at this
   refine A1 (A0t (J5 [[bx y [.slice (va a4.q) j.length a4.k] 211],[bx ab (J7 el) 216],[bx b5 [pt y 0] 207],[bx b2 (B0 b ⟨i,bRows.length,bRowsk⟩) 26],[bx b1 (B0 a ⟨g,aRows.length,aRowsk⟩) 26],vo J7 216 a4 j] [2,0,3,4,5,1] 6 rfl ozw rfl [[bx b5 [pt y 0] 207],[bx y [.slice (va a4.q) j.length a4.k] 211],[bx b2 (B0 b ⟨i,bRows.length,bRowsk⟩) 26],[bx b1 (B0 a ⟨g,aRows.length,aRowsk⟩) 26],vo J7 216 a4 j,[bx ab (J7 el) 216]] rfl opv) ?_)
   exact A9q (I:=fun ai x=>N3 e (K4 bRows (aRows.drop (e+1))) ai x.1=R∧VOk 3 x.1.length x.2∧x.1.length+ai.length≤80 * (e+1)) (Jx:=fun _ _=>False) (Lk:=fun x=>(bx b5 [pt y 0] 207::bx y [.slice (va x.2.q) x.1.length x.2.k] 211::bx b2 (B0 b ⟨i,bRows.length,bRowsk⟩) 26::bx b1 (B0 a ⟨g,aRows.length,aRowsk⟩) 26::((vo J7 216 x.2 x.1)++([])))) (Φk:=fun x=>[at_ a7 [.slice a5 (((D5 (e:Int) (aRows.getD e []) (bRows.getD e [])).1).length) ae],sl B1 a5 ((D5 (e:Int) (aRows.getD e []) (bRows.getD e [])).1),at_ aa [.slice a6 (((D5 (e:Int) (aRows.getD e []) (bRows.getD e [])).2.1).length) af],sl B1 a6 ((D5 (e:Int) (aRows.getD e []) (bRows.getD e [])).2.1),at_ a9 [iv ((D5 (e:Int) (aRows.getD e []) (bRows.getD e [])).2.2)],sl B1 ((o.getD e (⟨none,0,0⟩:Slc)).q) (bRows.getD e []),sl B1 ((m.getD e (⟨none,0,0⟩:Slc)).q) (aRows.getD e []),sl E4 g m,D3 B1 m aRows,sl E4 i o,D3 B1 o bRows,O9,P0]) (rest:=rest) (j,a4) (by exact ⟨hR,aj,(by simp only [List.length_cons] at *;omega)⟩) (mc [[bx b5 [pt y 0] 207],[bx y [.slice (va a4.q) j.length a4.k] 211],[bx b2 (B0 b ⟨i,bRows.length,bRowsk⟩) 26],[bx b1 (B0 a ⟨g,aRows.length,aRowsk⟩) 26],vo J7 216 a4 j,[bx ab (J7 el) 216]] [true,true,true,true,true,false] rfl oxs) A5.refl
  ·rintro bg ⟨z,w⟩ ax hI
   try dsimp only at hI
   obtain ⟨hR,u,ay⟩:=hI
   replace hR:=(N3.eq_1 ..).symm.trans hR
   have:=VOk.le u
   refine nx (A0 2 rfl (ix rfl (A9 rfl rfl rfl rfl opx) ?_))
   refine pp1 1 21 rfl ?_
   refine A1 ?_
   exact C7o (z1:=e) (z2:=l) (z3:=f) rfl (M9.cons av ax) (e+1) z w ⟨opx,hR,u,opx⟩ olr ⟨rfl,rfl,rfl,rfl,odu,trivial⟩ (mc [[bx b5 [pt y 0] 207],[bx y [.slice (va w.q) z.length w.k] 211],[bx b2 (B0 b ⟨i,bRows.length,bRowsk⟩) 26],[bx b1 (B0 a ⟨g,aRows.length,aRowsk⟩) 26],vo J7 216 w z] [true,true,true,true,true] rfl oxs) fo_
 have ap:=bq_ h7
 rw [Y4 ap] at hR;replace hR:=(K4.eq_1 ..).symm.trans hR
 refine F6 (nx (sR_ rfl (pl2 7 [0,1] 4 5 rfl ?_)))
 subst hR
 refine ie (A6 ?_)
 exact A9f rfl ⟨hr,hD⟩ (by exact av) (V1 rfl (A4 rfl) (A4 rfl)) ⟨f,a1⟩ (by rfl) (mc [[bx b5 [pt y 0] 207],[bx y [.slice (va f.q) l.length f.k] 211],[bx b2 (B0 b ⟨i,bRows.length,bRowsk⟩) 26],[bx b1 (B0 a ⟨g,aRows.length,aRowsk⟩) 26],vo J7 216 f l] [false,false,false,false,true] rfl oxs) A5.nil
def A3l (a:FrmC) (e:List (List Cel)) (b:FrmC) (d:List (List Cel)):Int :=
 (E8 (U8 a e b d) fun (c:List Sp3×Int)=>c.2)
set_option maxRecDepth 100000 in
theorem B7v {a:FrmC} {aRows:List (List Cel)} {b:FrmC} {bRows:List (List Cel)} {f:Option Addr} {h:List Slc} {aRowsk:Nat} {g:Option Addr} {i:List Slc} {bRowsk:Nat} {R:Int} (hR:A3l a aRows b bRows=R) (e:E3 h aRows:=by exact om_) (k:aRows.length≤9223372036854775807:=by exact om_) (l:aRows.length≤aRowsk:=by exact om_) (d:E3 i bRows:=by exact om_) (o:bRows.length≤9223372036854775807:=by exact om_) (m:bRows.length≤bRowsk:=by exact om_) (u:a.title.length≤100000000:=by exact om_) (r:b.title.length≤100000000:=by exact om_):J6 Tryz.prog 27 [ag (B0 a ⟨f,aRows.length,aRowsk⟩),ag (B0 b ⟨g,bRows.length,bRowsk⟩)] [sl E4 f h,D3 B1 h aRows,sl E4 g i,D3 B1 i bRows,O9,P0] (iv R):=by
 refine zce Tryz.func27 fun X hX hr hD=>?_
 replace hR:=(A3l.eq_1 ..).symm.trans hR
 have:=e.1
 have:=d.1
 refine sR_ rfl (A4z 3 0 [] (fun q p=>[(2,pt q 0),(3,pt p 0)]) (fun q p=>[bx p (B0 b ⟨g,bRows.length,bRowsk⟩) 26,bx q (B0 a ⟨f,aRows.length,aRowsk⟩) 26]) (fun q p=>?_))
 refine ie (sR_ rfl (zrl 2 6 [1,0] [(8,ag (B0 a ⟨f,aRows.length,aRowsk⟩)),(9,ag (B0 b ⟨g,bRows.length,bRowsk⟩))] ?_))
 have s:=E9 hR;clear hR;obtain ⟨j,c,hR⟩:=s
 refine zc rfl (B6p c e om_ om_ d) fun ⟨t,n⟩=>?_
 have:=VOk.le n
 have:=VOk.cap n
 have:=B3j a aRows b bRows;try rw [c] at this
 refine pp1 5 6 rfl ?_
 refine ie (sR_ rfl (pp1 2 4 rfl ?_))
 subst hR
 refine ie (A6 ?_)
 exact E2 hr hD
def Y7 (c:List (List Cel)) (b:List Cel) (d:Nat) (a:Nat→Lks→Lks):List (List Cel)→Nat→Lks→Lks
 | [],t25,out1=>(bif (G3 b (c.getD d [])) then a (d+1) (out1.put 40 (bOp .or .u64 (out1.f 40) (IntKind.u64.wrap ((1:Int) * 2 ^ (min ((d:Int)).toNat 64))))) else a (d+1) out1)
 | hd_l4::tl_l4,t25,out1=>(bif (G3 hd_l4 (c.getD d [])) then Y7 c b d a tl_l4 (t25+1) (out1.put t25 (bOp .or .u64 (out1.f t25) (IntKind.u64.wrap ((1:Int) * 2 ^ (min ((d:Int)).toNat 64))))) else Y7 c b d a tl_l4 (t25+1) out1)
def Y9 (b:List (List Cel)) (c:List (List Cel)) (a:List Cel):List (List Cel)→Nat→Lks→Lks
 | [],t17,out=>out
 | hd_l3::tl_l3,t17,out=>Y7 c a t17 (Y9 b c a tl_l3) b 0 out
def G8 (a:FrmC) (e:List (List Cel)) (b:FrmC) (d:List (List Cel)):Lks :=
 (E8 (X4 a.cols) fun (c:List Cel)=>Y9 e d c d 0 Lks.zero)
set_option maxRecDepth 100000 in
theorem C1a {a:FrmC} {aRows:List (List Cel)} {b:FrmC} {bRows:List (List Cel)} {h:Option Addr} {i:List Slc} {aRowsk:Nat} {g:Option Addr} {e:List Slc} {bRowsk:Nat} {R:Lks} (hR:G8 a aRows b bRows=R) (m:E3 i aRows:=by exact om_) (a6:aRows.length≤9223372036854775807:=by exact om_) (aa:aRows.length≤aRowsk:=by exact om_) (j:E3 e bRows:=by exact om_) (ab:bRows.length≤9223372036854775807:=by exact om_) (a7:bRows.length≤bRowsk:=by exact om_) (ha:aRows.length≤40∧0≤a.cols∧a.cols≤80:=by exact om_) (hb:bRows.length≤40:=by exact om_):J6 Tryz.prog 28 [ag (B0 a ⟨h,aRows.length,aRowsk⟩),ag (B0 b ⟨g,bRows.length,bRowsk⟩)] [sl E4 h i,D3 B1 i aRows,sl E4 g e,D3 B1 e bRows] (ag (I9 R)):=by
 refine zce Tryz.func28 fun X hX hr hD=>?_
 replace hR:=(G8.eq_1 ..).symm.trans hR
 have:=m.1
 have:=j.1
 refine sR_ rfl (A4z 2 1 [] (fun t x=>[(2,pt t 0),(3,pt x 0)]) (fun t x=>[bx x (B0 b ⟨g,bRows.length,bRowsk⟩) 26,bx t (B0 a ⟨h,aRows.length,aRowsk⟩) 26]) (fun t x=>?_))
 refine it rfl (I7 (cs:=I9 Lks.zero) C3z rfl) fun y=>?_
 refine ie (sR_ rfl (it rfl (I7 (cs:=I9 Lks.zero) C3z rfl) fun z=>?_))
 refine ie (sR_ rfl (pl1 2 [3] 12 rfl ?_))
 have hQ:=E9 hR;clear hR;obtain ⟨l,u,hR⟩:=hQ
 refine zc rfl (B0j u) fun ⟨r5,a0⟩=>?_
 have:=VOk.le a0
 have:=VOk.cap a0
 refine pp1 1 6 rfl ?_
 refine ie (A2 (sR_ rfl (pl3 4 [2] 15 16 17 rfl ?_)))
 refine ie (A8 ?_)
 have:=VOk.cap a0
 have:=VOk.le a0
 refine C0d [bx z (I9 Lks.zero) 93,bx y (I9 Lks.zero) 93,bx x (B0 b ⟨g,bRows.length,bRowsk⟩) 26,bx t (B0 a ⟨h,aRows.length,aRowsk⟩) 26] [] (T:=106) (c:=B1) (r:=r5) (xs:=l) a0 omm ?_
 refine A3q (un fun (p:Nat) (w:Lks)=>(p≤bRows.length∧Y9 aRows bRows l (bRows.drop p) p w=R,[(2,pt t 0),(4,pt y 0),(5,pt z 0),(6,.slice (va r5.q) l.length r5.k),(15,.slice g bRows.length bRowsk),(16,iv (bRows.length:Int)),(17,iv (p:Int))],[bx z (I9 w) 93,bx y (I9 Lks.zero) 93,bx x (B0 b ⟨g,bRows.length,bRowsk⟩) 26,bx t (B0 a ⟨h,aRows.length,aRowsk⟩) 26],[sl B1 (va r5.q) l,sl E4 h i,D3 B1 i aRows,sl E4 g e,D3 B1 e bRows],bRows.length - p)) (0,Lks.zero) ⟨opx,hR⟩ sb_ A5.refl ?_
 rintro ⟨p,w⟩ ⟨ai,hR⟩
 refine sR_ rfl (pp1 1 18 rfl ?_)
 refine ie (A2 (W2 rfl (fun h8=>?_) (fun h8=>?_)))
 ·have a8:=bq_ h8
  rw [Y3 [] (show p<bRows.length by omega)] at hR;replace hR:=(Y9.eq_2 ..).symm.trans hR
  refine A3 (nx (A2 (A8 (sR_ rfl (pp1 1 19 rfl ?_)))))
  refine N2 3 rfl (by have:=j.1;omega) fun a9 a3=>?_
  refine M8 (V2 (k:=p) (d:=(⟨none,0,0⟩:Slc)) j 4 rfl (by have:=j.1;omega)) ?_
  have:=U7 j (k:=p) (d:=(⟨none,0,0⟩:Slc)) (by have:=j.1;omega)
  refine ix rfl (F7 A8c rfl rfl a3 rfl p rfl opx) ?_
  refine ix rfl (H2 (D8 (v:=.slice ((e.getD p (⟨none,0,0⟩:Slc)).q) ((e.getD p (⟨none,0,0⟩:Slc)).n) ((e.getD p (⟨none,0,0⟩:Slc)).k)) (us:=[.slice ((e.getD p (⟨none,0,0⟩:Slc)).q) ((e.getD p (⟨none,0,0⟩:Slc)).n) ((e.getD p (⟨none,0,0⟩:Slc)).k)]) A6h rfl rfl (H5 (c:=E4) (sz:=1) a3 (fun _=>rfl) 4 rfl (gd (⟨none,0,0⟩:Slc) (by have:=j.1;omega))) rfl) (Y2 j (by have:=j.1;omega))) ?_
  refine pp2 2 7 8 rfl ?_
  refine ie (A2 (sR_ rfl (pl3 4 [3] 23 24 25 rfl ?_)))
  refine ie (A8 (A3q (un fun (s:Nat) (o:Lks)=>(s≤aRows.length∧Y7 bRows l p (Y9 aRows bRows l (bRows.drop (p+1))) (aRows.drop s) s o=R,[(2,pt t 0),(4,pt y 0),(5,pt z 0),(6,.slice (va r5.q) l.length r5.k),(7,iv (p:Int)),(8,.slice ((e.getD p (⟨none,0,0⟩:Slc)).q) ((bRows.getD p []).length) ((e.getD p (⟨none,0,0⟩:Slc)).k)),(15,.slice g bRows.length bRowsk),(16,iv (bRows.length:Int)),(17,iv (p:Int)),(23,.slice h aRows.length aRowsk),(24,iv (aRows.length:Int)),(25,iv (s:Int))],[bx z (I9 o) 93,bx y (I9 Lks.zero) 93,bx x (B0 b ⟨g,bRows.length,bRowsk⟩) 26,bx t (B0 a ⟨h,aRows.length,aRowsk⟩) 26],[sl B1 ((e.getD p (⟨none,0,0⟩:Slc)).q) (bRows.getD p []),sl B1 (va r5.q) l,sl E4 h i,D3 B1 i aRows,sl E4 g e,D3 B1 e bRows],aRows.length - s)) (0,w) ⟨opx,hR⟩ sb_ A5.refl ?_))
  rintro ⟨s,o⟩ ⟨ad,hR⟩
  refine sR_ rfl (pp1 1 26 rfl ?_)
  refine ie (A2 (W2 rfl (fun a5=>?_) (fun a5=>?_)))
  ·have a2:=bq_ a5
   rw [Y3 [] (show s<aRows.length by omega)] at hR;replace hR:=(Y7.eq_2 ..).symm.trans hR
   refine A3 (nx (A2 (A8 (sR_ rfl (pp1 1 27 rfl ?_)))))
   refine N2 2 rfl (by have:=m.1;omega) fun ae a4=>?_
   refine M8 (V2 (k:=s) (d:=(⟨none,0,0⟩:Slc)) m 3 rfl (by have:=m.1;omega)) ?_
   have:=U7 m (k:=s) (d:=(⟨none,0,0⟩:Slc)) (by have:=m.1;omega)
   refine ix rfl (F7 A8c rfl rfl a4 rfl s rfl opx) ?_
   refine ix rfl (H2 (D8 (v:=.slice ((i.getD s (⟨none,0,0⟩:Slc)).q) ((i.getD s (⟨none,0,0⟩:Slc)).n) ((i.getD s (⟨none,0,0⟩:Slc)).k)) (us:=[.slice ((i.getD s (⟨none,0,0⟩:Slc)).q) ((i.getD s (⟨none,0,0⟩:Slc)).n) ((i.getD s (⟨none,0,0⟩:Slc)).k)]) A6h rfl rfl (H5 (c:=E4) (sz:=1) a4 (fun _=>rfl) 3 rfl (gd (⟨none,0,0⟩:Slc) (by have:=m.1;omega))) rfl) (Y2 m (by have:=m.1;omega))) ?_
   refine pp2 2 9 10 rfl ?_
   refine ie (sR_ rfl (pp2 2 30 31 rfl ?_))
   refine zv rfl (O3 rfl) ?_
   refine ie ?_
   refine zjb rfl hR ?_ ?_<;>clear hR<;>intro hR aj
   ·refine sh' 8 [(7,[bx z (I9 o) 93]),(8,[bx y (I9 Lks.zero) 93]),(8,[bx x (B0 b ⟨g,bRows.length,bRowsk⟩) 26]),(8,[bx t (B0 a ⟨h,aRows.length,aRowsk⟩) 26])] [sl B1 ((i.getD s (⟨none,0,0⟩:Slc)).q) (aRows.getD s []),sl B1 ((e.getD p (⟨none,0,0⟩:Slc)).q) (bRows.getD p []),sl B1 (va r5.q) l,sl E4 h i,D3 B1 i aRows,sl E4 g e,D3 B1 e bRows] [bx z (I9 o) 93,bx y (I9 Lks.zero) 93,bx x (B0 b ⟨g,bRows.length,bRowsk⟩) 26,bx t (B0 a ⟨h,aRows.length,aRowsk⟩) 26] (zml 8 0) oki rfl oki oki oki sb_ A5.refl ?_
    refine zhp [0,3] 6 (zml 8 9) [(33,iv (s:Int)),(36,iv (p:Int))] ?_
    refine zhl 1 [bx z (I9 o) 93,bx y (I9 Lks.zero) 93,bx x (B0 b ⟨g,bRows.length,bRowsk⟩) 26,bx t (B0 a ⟨h,aRows.length,aRowsk⟩) 26] (zml 8 11) rfl (A0f Tryz.underlying93 B4s rfl rfl rfl s rfl opx) ?_
    refine zhl 2 [bx z (I9 o) 93,bx y (I9 Lks.zero) 93,bx x (B0 b ⟨g,bRows.length,bRowsk⟩) 26,bx t (B0 a ⟨h,aRows.length,aRowsk⟩) 26] (zml 8 15) rfl (A7 (v:=.int .u64 (o.f s)) B4s rfl rfl 0 rfl (by rw [Nat.mul_one];exact B1t _ opx)) ?_
    refine zhk 4 (zml 8 31) rfl (B9y rfl rfl rfl opx rfl) ?_
    refine zhp [5] 2 (zml 8 63) [(38,.int .u64 (bOp .or .u64 (o.f s) (IntKind.u64.wrap ((1:Int) * 2 ^ (min ((p:Int)).toNat 64)))))] ?_
    refine zhl 6 [bx z (I9 o) 93,bx y (I9 Lks.zero) 93,bx x (B0 b ⟨g,bRows.length,bRowsk⟩) 26,bx t (B0 a ⟨h,aRows.length,aRowsk⟩) 26] (zml 8 127) rfl (A0f Tryz.underlying93 B4s rfl rfl rfl s rfl opx) ?_
    refine zho 7 [bx y (I9 Lks.zero) 93,bx x (B0 b ⟨g,bRows.length,bRowsk⟩) 26,bx t (B0 a ⟨h,aRows.length,aRowsk⟩) 26] (zml 8 255) rfl (D0 (us:=[.int .u64 (bOp .or .u64 (o.f s) (IntKind.u64.wrap ((1:Int) * 2 ^ (min ((p:Int)).toNat 64))))]) (cs':=I9 (o.put s (bOp .or .u64 (o.f s) (IntKind.u64.wrap ((1:Int) * 2 ^ (min ((p:Int)).toNat 64)))))) B4s rfl rfl rfl 0 rfl rfl rfl rfl (C1s _ opx _) (Nat.ble_eq_true_of_le (by show _≤41;omega))) (fun _=>sb_) (fun _=>A5.refl) fun _=>?_
    refine A0s oki ?_
    refine nx (A0 2 rfl (ix rfl (A9 rfl rfl rfl rfl opx) ?_))
    refine pp1 1 25 rfl ?_
    refine A1 ?_
    exact A0y (z1:=(s,o)) (s+1,(o.put s (bOp .or .u64 (o.f s) (IntKind.u64.wrap ((1:Int) * 2 ^ (min ((p:Int)).toNat 64)))))) ⟨opx,hR⟩ olr sb_ fo_
   refine A3 (nx (A0 2 rfl (ix rfl (A9 rfl rfl rfl rfl opx) ?_)))
   refine pp1 1 25 rfl ?_
   refine A1 ?_
   exact A0y (z1:=(s,o)) (s+1,o) ⟨opx,hR⟩ olr sb_ fo_
  have a2:=bq_ a5
  rw [Y4 a2] at hR;replace hR:=(Y7.eq_1 ..).symm.trans hR
  refine F6 (nx (sR_ rfl (pp2 2 41 42 rfl ?_)))
  refine zv rfl (O3 rfl) ?_
  refine ie ?_
  refine zjb rfl hR ?_ ?_<;>clear hR<;>intro hR af
  ·refine sh' 7 [(6,[bx z (I9 o) 93]),(7,[bx y (I9 Lks.zero) 93]),(7,[bx x (B0 b ⟨g,bRows.length,bRowsk⟩) 26]),(7,[bx t (B0 a ⟨h,aRows.length,aRowsk⟩) 26])] [sl B1 ((e.getD p (⟨none,0,0⟩:Slc)).q) (bRows.getD p []),sl B1 (va r5.q) l,sl E4 h i,D3 B1 i aRows,sl E4 g e,D3 B1 e bRows] [bx z (I9 o) 93,bx y (I9 Lks.zero) 93,bx x (B0 b ⟨g,bRows.length,bRowsk⟩) 26,bx t (B0 a ⟨h,aRows.length,aRowsk⟩) 26] (zml 7 0) oki rfl oki oki oki sb_ A5.refl ?_
   refine zhp [2] 6 (zml 7 4) [(46,iv (p:Int))] ?_
   refine zhl 0 [bx z (I9 o) 93,bx y (I9 Lks.zero) 93,bx x (B0 b ⟨g,bRows.length,bRowsk⟩) 26,bx t (B0 a ⟨h,aRows.length,aRowsk⟩) 26] (zml 7 5) rfl (A0f Tryz.underlying93 B4s rfl rfl rfl 40 rfl opx) ?_
   refine zhl 1 [bx z (I9 o) 93,bx y (I9 Lks.zero) 93,bx x (B0 b ⟨g,bRows.length,bRowsk⟩) 26,bx t (B0 a ⟨h,aRows.length,aRowsk⟩) 26] (zml 7 7) rfl (A7 (v:=.int .u64 (o.f 40)) B4s rfl rfl 0 rfl (by rw [Nat.mul_one];exact B1t _ opx)) ?_
   refine zhk 3 (zml 7 15) rfl (B9y rfl rfl rfl opx rfl) ?_
   refine zhp [4] 2 (zml 7 31) [(48,.int .u64 (bOp .or .u64 (o.f 40) (IntKind.u64.wrap ((1:Int) * 2 ^ (min ((p:Int)).toNat 64)))))] ?_
   refine zhl 5 [bx z (I9 o) 93,bx y (I9 Lks.zero) 93,bx x (B0 b ⟨g,bRows.length,bRowsk⟩) 26,bx t (B0 a ⟨h,aRows.length,aRowsk⟩) 26] (zml 7 63) rfl (A0f Tryz.underlying93 B4s rfl rfl rfl 40 rfl opx) ?_
   refine zho 6 [bx y (I9 Lks.zero) 93,bx x (B0 b ⟨g,bRows.length,bRowsk⟩) 26,bx t (B0 a ⟨h,aRows.length,aRowsk⟩) 26] (zml 7 127) rfl (D0 (us:=[.int .u64 (bOp .or .u64 (o.f 40) (IntKind.u64.wrap ((1:Int) * 2 ^ (min ((p:Int)).toNat 64))))]) (cs':=I9 (o.put 40 (bOp .or .u64 (o.f 40) (IntKind.u64.wrap ((1:Int) * 2 ^ (min ((p:Int)).toNat 64)))))) B4s rfl rfl rfl 0 rfl rfl rfl rfl (C1s _ opx _) (Nat.ble_eq_true_of_le (by show _≤41;omega))) (fun _=>sb_) (fun _=>A5.refl) fun _=>?_
   refine A0s oki ?_
   refine nx (A0 2 rfl (ix rfl (A9 rfl rfl rfl rfl opx) ?_))
   refine pp1 1 17 rfl ?_
   refine A1 ?_
   exact A0y (z1:=(p,w)) (p+1,(o.put 40 (bOp .or .u64 (o.f 40) (IntKind.u64.wrap ((1:Int) * 2 ^ (min ((p:Int)).toNat 64)))))) ⟨opx,hR⟩ olr sb_ fo_
  refine A3 (nx (A0 2 rfl (ix rfl (A9 rfl rfl rfl rfl opx) ?_)))
  refine pp1 1 17 rfl ?_
  refine A1 ?_
  exact A0y (z1:=(p,w)) (p+1,o) ⟨opx,hR⟩ olr sb_ fo_
 have a8:=bq_ h8
 rw [Y4 a8] at hR;replace hR:=(Y9.eq_1 ..).symm.trans hR
 refine F6 (nx (sR_ rfl (ix rfl (E5 (us:=I9 w) C9d rfl rfl 0 rfl rfl rfl) ?_)))
 refine it rfl (D0 (us:=I9 w) (cs':=I9 w) C9d rfl rfl rfl 1 rfl rfl rfl rfl rfl rfl) fun _=>?_
 subst hR
 refine ie (A6 ?_)
 exact zer hr hD (U4 rfl (P7 (us:=I9 w) C9d rfl 1 rfl rfl)) () sb_ A5.nil
def B4x (s:Shf):Prop:=0≤s.top∧s.top≤s.bottom∧s.bottom≤39∧-39≤s.amt∧s.amt≤39
def O6 (a:Int):Int :=
 a
set_option maxRecDepth 100000 in
theorem B5q {a R:Int} (hR:O6 a=R):Con Tryz.prog 29 [iv a] [] [] (Addr) (fun x=>.func (.func 86) #[] #[pa x]) (fun x=>[]) (fun x=>[at_ x [iv R]]):=by
 refine zce Tryz.func29 fun X hX hr hD=>?_
 replace hR:=(O6.eq_1 ..).symm.trans hR
 refine sR_ rfl (it rfl (A7v (cs:=[iv a]) rfl rfl rfl) fun b=>?_)
 refine B3c 0 rfl ?_
 refine pp0 1 rfl ?_
 refine ie (sR_ rfl (ip' 2 0 [(2,.func (.func 86) #[] #[pa ⟨b,0,none⟩])] ?_))
 subst hR
 refine ie (A6 ?_)
 exact zer hr hD (U4 rfl (A4 rfl)) ⟨b,0,none⟩ sb_ fo_
def N4 (c:Nat) (bottom:Nat) (a:Nat→List Shf):Nat→Nat→List Shf
 | 0,_=>[]
 | fu5+1,b=>(bif (decide (((bottom:Int) - (c:Int))<(b:Int))) then a (bottom+1) else ((⟨(c:Int),(bottom:Int),(b:Int)⟩:Shf)::((⟨(c:Int),(bottom:Int),(-(b:Int))⟩:Shf)::N4 c bottom a fu5 (b+1))))
def L8 (c:Int) (b:Nat) (a:Nat→List Shf):Nat→Nat→List Shf
 | 0,_=>[]
 | fu3+1,bottom=>(bif (decide ((bottom:Int)<c)) then N4 b bottom (L8 c b a fu3) ((bottom+1 - (b+1))+1) 1 else a (b+1))
def L5 (a:Int):Nat→Nat→List Shf
 | 0,_=>[]
 | fu1+1,b=>(bif (decide ((b:Int)<a)) then L8 a b (L5 a fu1) ((a - ((b+1):Int)).toNat+1) (b+1) else [])
def A0a (a:Int):List Shf :=
 L5 a ((a - (0:Int)).toNat+1) 0
theorem B0c (f:Int) (h:f≤40) (t b:Nat) (e:t≤b) (g:(b:Int)<f) (ag:Nat→List Shf) (a:∀ x ∈ ag (b+1),B4x x):∀ (d k:Nat),1≤k→∀ x ∈ N4 t b ag d k,B4x x
 | 0,k,_,x,hx=>by simp [N4] at hx
 | d+1,k,hk,x,hx=>by
  simp only [N4] at hx
  by_cases c:(b:Int) - (t:Int)<(k:Int)
  ·rw [decide_eq_true c] at hx;exact a x hx
  ·rw [decide_eq_false c,cond_false] at hx
   rcases List.mem_cons.1 hx with rfl | hx
   ·unfold B4x;dsimp only;omega
   ·rcases List.mem_cons.1 hx with rfl | hx
    ·unfold B4x;dsimp only;omega
    ·exact B0c f h t b e g ag a d (k+1) opx x hx
theorem B0b (e:Int) (g:e≤40) (t:Nat) (ag:Nat→List Shf) (d:∀ x ∈ ag (t+1),B4x x):∀ (f b:Nat),t≤b→∀ x ∈ L8 e t ag f b,B4x x
 | 0,b,_,x,a=>by simp [L8] at a
 | f+1,b,hb,x,a=>by
  simp only [L8] at a
  by_cases c:(b:Int)<e
  ·rw [decide_eq_true c,cond_true] at a
   exact B0c e g t b hb c _ (fun x a=>B0b e g t ag d f (b+1) opx x a) _ 1 (Nat.le_refl _) x a
  ·rw [decide_eq_false c,cond_false] at a;exact d x a
theorem B2g (b:Int) (e:b≤40):∀ (d t:Nat),∀ x ∈ L5 b d t,B4x x
 | 0,t,x,a=>by simp [L5] at a
 | d+1,t,x,a=>by
  simp only [L5] at a
  by_cases c:(t:Int)<b
  ·rw [decide_eq_true c,cond_true] at a
   exact B0b b e t _ (fun x a=>B2g b e d (t+1) x a) _ (t+1) opx x a
  ·rw [decide_eq_false c] at a;simp at a
theorem C6u (a:Int) (b:a≤40):∀ x ∈ A0a (O6 a),B4x x:=B2g a b _ _
set_option maxRecDepth 100000 in
theorem B2v (d:Int) (f:Addr) (hc:d≤40) (R:List Shf) (hR:A0a d=R):B1o Tryz.prog 86 [pa f] [at_ f [iv d]] (fun x=>ag (B2 x)) R:=by
 refine B3g (n:=42) Tryz.func86 rfl oki rfl rfl (fun l=>[(0,.func (.yield l) #[] #[]),(1,pa f)]) (fun l=>⟨rfl,rfl,trivial⟩) fun X l I Ix L Φ hX hr hD hI0 hY=>?_
 replace hR:=(A0a.eq_1 ..).symm.trans hR
 refine sr 2 rfl (ix rfl (D8 (v:=iv d) (us:=[iv d]) ty3 rfl rfl (D4 0 rfl) rfl) ?_)
 refine ip' 1 0 [(7,iv 0)] ?_
 refine ie (A8 ?_)
 refine C8v (fun (w:Nat) (c:Nat) (R_:List Shf) (Lt:Fen.Own) (Ft:List Pers)=>((d - (c:Int)).toNat<w∧L5 d w c=R_∧I R_ Lt Ft∧c≤40,[(0,.func (.yield l) #[] #[]),(1,pa f),(6,iv d),(7,iv (c:Int))],(Lt++([])),(at_ f [iv d]::Ft),w)) ((d - (0:Int)).toNat+1) 0 R L Φ ⟨(Nat.lt_succ_self _),hR,hI0,opx⟩ (mc [L] [true] rfl oxs) (A5.con1 (D4 0 rfl) (A5.dropT 1 rfl)) ?_
 rintro w c R_ Lt Ft ⟨z,hR,s,ht⟩
 obtain ⟨fu1,rfl⟩:∃ m,w=m+1:=⟨w - 1,by omega⟩
 replace hR:=(L5.eq_2 ..).symm.trans hR
 refine sr 1 rfl (ip' 1 0 [(8,bv (decide ((c:Int)<d)))] ?_)
 refine ie (A2 ?_)
 refine zjd rfl hR ?_ ?_<;>clear hR<;>intro hR h2 a2
 ·refine A3 (nx (A2 (A8 (sr 2 rfl (ip' 2 0 [(3,iv (c:Int))] ?_)))))
  refine ie (C5h (A2 (C5m (nx (sr 3 rfl (ip' 1 2 [(10,iv (c:Int))] ?_))))))
  refine ix rfl (A9 rfl rfl rfl rfl opx) ?_
  refine ip' 1 0 [(4,iv ((c:Int)+1))] ?_
  refine ie (A8 ?_)
  refine C8v (fun (i:Nat) (bottom:Nat) (R_1:List Shf) (Lt1:Fen.Own) (Ft1:List Pers)=>((d - (bottom:Int)).toNat<i∧L8 d c (L5 d fu1) i bottom=R_1∧I R_1 Lt1 Ft1∧bottom≤41∧c<bottom,[(0,.func (.yield l) #[] #[]),(1,pa f),(3,iv (c:Int)),(4,iv (bottom:Int)),(6,iv d),(7,iv (c:Int))],(Lt1++([])),(at_ f [iv d]::Ft1),i)) ((d - ((c+1):Int)).toNat+1) (c+1) R_ Lt Ft ⟨(Nat.lt_succ_self _),hR,s,opx⟩ (mc [Lt] [true] rfl oxs) (A5.con1 (D4 0 rfl) (A5.dropT 1 rfl)) ?_
  rintro i bottom R_1 Lt1 Ft1 ⟨a1,hR,r,hb⟩
  obtain ⟨fu3,rfl⟩:∃ m,i=m+1:=⟨i - 1,by omega⟩
  replace hR:=(L8.eq_2 ..).symm.trans hR
  refine A2 (sr 3 rfl (ip' 1 2 [(12,iv (bottom:Int))] ?_))
  refine ix rfl (D8 (v:=iv d) (us:=[iv d]) ty3 rfl rfl (D4 0 rfl) rfl) ?_
  refine ip' 1 0 [(14,bv (decide ((bottom:Int)<d)))] ?_
  refine ie ?_
  refine zjd rfl hR ?_ ?_<;>clear hR<;>intro hR h4 a4
  ·refine A3 (nx (A2 (A8 (sr 1 rfl (ip' 1 0 [(5,iv 1)] ?_)))))
   refine ie (A8 ?_)
   refine C8v (fun (j:Nat) (a:Nat) (R_2:List Shf) (Lt2:Fen.Own) (Ft2:List Pers)=>((bottom+1 - (c+a))<j∧N4 c bottom (L8 d c (L5 d fu1) fu3) j a=R_2∧I R_2 Lt2 Ft2∧1≤a∧a≤41,[(0,.func (.yield l) #[] #[]),(1,pa f),(3,iv (c:Int)),(4,iv (bottom:Int)),(5,iv (a:Int)),(6,iv d),(7,iv (c:Int))],(Lt2++([])),(at_ f [iv d]::Ft2),j)) ((bottom+1 - (c+1))+1) 1 R_1 Lt1 Ft1 ⟨(Nat.lt_succ_self _),hR,r,opx⟩ (mc [Lt1] [true] rfl oxs) (A5.con1 (D4 0 rfl) (A5.dropT 1 rfl)) ?_
   rintro j a R_2 Lt2 Ft2 ⟨a3,hR,h,hy⟩
   obtain ⟨fu5,rfl⟩:∃ m,j=m+1:=⟨j - 1,by omega⟩
   replace hR:=(N4.eq_2 ..).symm.trans hR
   refine A2 (A8 (A2 (sr 5 rfl (ip' 3 2 [(19,iv (a:Int)),(20,iv (bottom:Int)),(21,iv (c:Int))] ?_))))
   refine ix rfl (R9 rfl rfl rfl rfl opx) ?_
   refine ip' 1 0 [(23,bv (decide (((bottom:Int) - (c:Int))<(a:Int))))] ?_
   refine ie ?_
   refine zjd rfl hR ?_ ?_<;>clear hR<;>intro hR h6 a0
   ·refine F6 (nx (A0 3 rfl (ip' 1 2 [(15,iv (bottom:Int))] ?_)))
    refine ix rfl (A9 rfl rfl rfl rfl opx) ?_
    refine ip' 1 0 [(4,iv ((bottom:Int)+1))] ?_
    refine A1 ?_
    exact C8d (z1:=(fu3+1)) (z2:=bottom) (z3:=R_1) (z4:=Lt1) (z5:=Ft1) fu3 (bottom+1) R_2 Lt2 Ft2 ⟨opx,hR,h,opx⟩ (Nat.lt_succ_self _) (mc [Lt2] [true] rfl oxs) (A5.con1 (D4 0 rfl) (A5.dropT 1 rfl))
   refine A3 (nx (sr 17 rfl (zrl 5 12 [] [(24,.func (.yield l) #[] #[]),(28,ag (B2 (⟨(c:Int),(bottom:Int),(a:Int)⟩:Shf)))] ?_)))
   have k:=C1f hR;clear hR;obtain ⟨R7,hR,k⟩:=k;rw [k] at h
   refine it rfl (A6x (L2:=[]) (hY _ R7 _ _ h) rfl rfl rfl rfl (A5.dropT 1 rfl) (J5 [Lt2] [0] 1 rfl ozw rfl [Lt2] rfl ooa)) fun ⟨⟨y,L9,Φ10⟩,e⟩=>?_
   refine B1u (A5.yield [at_ f [iv d]]) ?_
   refine ip' 2 9 [(31,bv (!y))] ?_
   rcases Bool.eq_false_or_eq_true y with q | q
   ·refine C0a (b:=false) 31 rfl (by rw [q];rfl) ?_
    rw [q] at e;try simp only [if_true,if_false,Bool.false_eq_true] at e
    refine ip' 4 5 [(32,.func (.yield l) #[] #[]),(33,iv (c:Int)),(34,iv (bottom:Int)),(35,iv (a:Int))] ?_
    refine ix rfl (B2x rfl rfl rfl opx) ?_
    refine zrl 1 3 [] [(37,ag (B2 (⟨(c:Int),(bottom:Int),(-(a:Int))⟩:Shf)))] ?_
    have o:=C1f hR;clear hR;obtain ⟨R14,hR,o⟩:=o;rw [o] at e
    refine it rfl (A6x (L2:=[]) (hY _ R14 _ _ e) rfl rfl rfl rfl (A5.dropT 1 rfl) (J5 [L9] [0] 1 rfl ozw rfl [L9] rfl ooa)) fun ⟨⟨t,L16,Φ17⟩,g⟩=>?_
    refine B1u (A5.yield [at_ f [iv d]]) ?_
    refine ip' 2 0 [(40,bv (!t))] ?_
    refine ie (W2 rfl (fun u=>?_) (fun u=>?_))
    ·have p:t=false:=by simpa using u
     rw [p] at g;try simp only [if_true,if_false,Bool.false_eq_true] at g
     refine A6 ?_
     exact A9m rfl ⟨hr,hD⟩ (by simp [hD]) (A3f rfl) (L':=L16) (Φ':=Φ17) (by exact .inr g) (mcT [L16] 0 rfl rfl) (A5.dropT 1 rfl)
    ·have p:t=true:=by simpa using u
     rw [p] at g;try simp only [if_true,if_false,Bool.false_eq_true] at g
     refine A3 (nx (A0 3 rfl (ip' 1 2 [(17,iv (a:Int))] ?_)))
     refine ix rfl (A9 rfl rfl rfl rfl opx) ?_
     refine ip' 1 0 [(5,iv ((a:Int)+1))] ?_
     refine A1 ?_
     exact C8d (z1:=(fu5+1)) (z2:=a) (z3:=R_2) (z4:=Lt2) (z5:=Ft2) fu5 (a+1) R14 L16 Φ17 ⟨opx,hR,g,opx⟩ (Nat.lt_succ_self _) (mc [L16] [true] rfl oxs) (A5.con1 (D4 0 rfl) (A5.dropT 1 rfl))
   ·refine C0a (b:=true) 31 rfl (by rw [q];rfl) ?_
    rw [q] at e;try simp only [if_true,if_false,Bool.false_eq_true] at e
    refine ip' 9 0 [(40,bv true)] ?_
    refine ie (G1 rfl (A6 ?_))
    exact A9m rfl ⟨hr,hD⟩ (by simp [hD]) (A3f rfl) (L':=L9) (Φ':=Φ10) (by exact .inr e) (mcT [L9] 0 rfl rfl) (A5.dropT 1 rfl)
  refine F6 (nx (A0 2 rfl (ix rfl (A9 rfl rfl rfl rfl opx) ?_)))
  refine ip' 1 0 [(7,iv ((c:Int)+1))] ?_
  refine A1 ?_
  exact C8d (z1:=(fu1+1)) (z2:=c) (z3:=R_) (z4:=Lt) (z5:=Ft) fu1 (c+1) R_1 Lt1 Ft1 ⟨opx,hR,r,opx⟩ (Nat.lt_succ_self _) (mc [Lt1] [true] rfl oxs) (A5.con1 (D4 0 rfl) (A5.dropT 1 rfl))
 subst hR
 refine F6 ?_
 exact A4e rfl ⟨hr,hD⟩ (by simp [hD]) (A3f rfl) (L':=Lt) (Φ':=Ft) (by exact .inl s) (mcT [Lt] 0 rfl rfl) (A5.dropT 1 rfl)
def J2 (l:Lks) (row:Int) (a:Int):Bool :=
 (bif (decide (row<0)) then (decide ((bOp .and .u64 (Int.fdiv (l.f 40) (2 ^ (min (a).toNat 64))) 1)=1)) else (decide ((bOp .and .u64 (Int.fdiv (l.f ((row).toNat)) (2 ^ (min (a).toNat 64))) 1)=1)))
set_option maxRecDepth 100000 in
theorem A6v {l:Lks} {row a:Int} {b:Nat} {R:Bool} (hR:J2 l row a=R) (e:0≤a∧a≤40:=by exact om_) (hr:row≤40:=by exact om_):Con Tryz.prog 87 [pt b 0,iv row,iv a] [bx b (I9 l) 93] [] (Unit) (fun x=>bv R) (fun x=>[bx b (I9 l) 93]) (fun x=>[]):=by
 refine zce Tryz.func87 fun X hX hr hD=>?_
 replace hR:=(J2.eq_1 ..).symm.trans hR
 refine sR_ rfl (pp0 1 rfl ?_)
 refine ie (A2 (sR_ rfl (pp1 2 8 rfl ?_)))
 refine ie ?_
 refine zjd rfl hR ?_ ?_<;>clear hR<;>intro hR d c
 ·refine A0 1 rfl (pp1 1 1 rfl ?_)
  refine A1 (nx (sR_ rfl (pp2 3 10 11 rfl ?_)))
  refine ix rfl (A0f Tryz.underlying93 B4s rfl rfl rfl 40 rfl opx) ?_
  refine ix rfl (A7 (v:=.int .u64 (l.f 40)) B4s rfl rfl 0 rfl (by rw [Nat.mul_one];exact B1t _ opx)) ?_
  refine pp1 1 14 rfl ?_
  refine ix rfl (A0v rfl rfl rfl opx rfl) ?_
  refine pp1 3 6 rfl ?_
  subst hR
  refine ie (A6 ?_)
  exact zer hr hD (U4 rfl (A4 rfl)) () sb_ A5.nil
 refine A3 (nx (sR_ rfl (pp2 3 10 11 rfl ?_)))
 refine ix rfl (A0f Tryz.underlying93 B4s rfl rfl rfl ((row).toNat) opx opx) ?_
 refine ix rfl (A7 (v:=.int .u64 (l.f ((row).toNat))) B4s rfl rfl 0 rfl (by rw [Nat.mul_one];exact B1t _ opx)) ?_
 refine pp1 1 14 rfl ?_
 refine ix rfl (A0v rfl rfl rfl opx rfl) ?_
 refine pp1 3 6 rfl ?_
 subst hR
 refine ie (A6 ?_)
 exact zer hr hD (U4 rfl (A4 rfl)) () sb_ A5.nil
def V5 (l:Lks) (s:Shf):Nat→Int→Int→Int
 | 0,_,_=>0
 | fu1+1,n,r=>(bif (decide (r≤s.bottom)) then (bif ((J2 l (C0 s r) r)&&(!(J2 l r r))) then (bif ((J2 l r r)&&(!(J2 l (C0 s r) r))) then V5 l s fu1 ((n+1) - 1) (r+1) else V5 l s fu1 (n+1) (r+1)) else (bif ((J2 l r r)&&(!(J2 l (C0 s r) r))) then V5 l s fu1 (n - 1) (r+1) else V5 l s fu1 n (r+1))) else n)
def Z8 (l:Lks) (s:Shf):Int :=
 V5 l s ((s.bottom+1 - s.top).toNat+1) 0 s.top
set_option maxRecDepth 100000 in
theorem B9i {l:Lks} {s:Shf} {a:Nat} {R:Int} (hR:Z8 l s=R) (y:0≤s.top∧s.top≤s.bottom∧s.bottom≤39∧-39≤s.amt∧s.amt≤39:=by exact om_):Con Tryz.prog 30 [pt a 0,ag (B2 s)] [bx a (I9 l) 93] [] (Unit) (fun x=>iv R) (fun x=>[bx a (I9 l) 93]) (fun x=>[]):=by
 refine zce Tryz.func30 fun X hX hr hD=>?_
 replace hR:=(Z8.eq_1 ..).symm.trans hR
 refine sR_ rfl (J3 2 0 [] (fun b=>[(3,pt b 0)]) (fun b=>[bx b (B2 s) 28,bx a (I9 l) 93]) (fun b=>?_))
 refine ie (sR_ rfl (ip' 4 0 [(5,.func (.func 87) #[pt a 0] #[]),(6,iv 0)] ?_))
 refine ie (A2 (sR_ rfl (pl1 3 [0] 7 rfl ?_)))
 refine ie (A8 (A3q (un fun (c:Nat)=>un fun (n:Int) (r:Int)=>((s.bottom+1 - r).toNat<c∧V5 l s c n r=R∧s.top≤r∧r≤s.bottom+1∧-(r - s.top)≤n∧n≤r - s.top,[(3,pt b 0),(5,.func (.func 87) #[pt a 0] #[]),(6,iv n),(7,iv r)],[bx b (B2 s) 28,bx a (I9 l) 93],[],c)) ((s.bottom+1 - s.top).toNat+1,0,s.top) ⟨(Nat.lt_succ_self _),hR,opx,opx⟩ sb_ A5.nil ?_))
 rintro ⟨c,n,r⟩ ⟨t,hR,q,w⟩
 obtain ⟨fu1,rfl⟩:∃ m,c=m+1:=⟨c - 1,by omega⟩
 replace hR:=(V5.eq_2 ..).symm.trans hR
 refine A2 (sR_ rfl (pl1 4 [0] 17 rfl ?_))
 refine ie ?_
 refine zjd rfl hR ?_ ?_<;>clear hR<;>intro hR v k
 ·refine A3 (nx (A2 (A8 (sh 12 [(12,[bx b (B2 s) 28]),(12,[bx a (I9 l) 93])] [] [bx b (B2 s) 28,bx a (I9 l) 93] (zml 12 0) oki rfl oki oki oki sb_ A5.refl ?_))))
  refine zhp [0,1,2,4,6,8] 6 (zml 12 343) [(20,.func (.func 87) #[pt a 0] #[]),(21,iv r),(22,iv r),(24,.func (.func 87) #[pt a 0] #[]),(26,iv r),(28,iv r)] ?_
  refine zhl 5 [bx b (B2 s) 28,bx a (I9 l) 93] (zml 12 375) rfl (E5 (us:=B2 s) B3q rfl rfl 0 rfl rfl rfl) ?_
  refine zho 3 [bx b (B2 s) 28,bx a (I9 l) 93] (zml 12 383) rfl (I4 (L2:=[bx b (B2 s) 28]) (A6v rfl om_ (by first|omega|(have:=(U1 s r).2 41 opx opx opx;omega))) rfl rfl rfl rfl rfl A5.nil (J5 [[bx b (B2 s) 28],[bx a (I9 l) 93]] [1,0] 2 rfl ozw rfl [[bx a (I9 l) 93],[bx b (B2 s) 28]] rfl opl) (fun _=>[bx b (B2 s) 28,bx a (I9 l) 93]) (fun _=>J5 [[bx a (I9 l) 93],[bx b (B2 s) 28]] [1,0] 2 rfl ozw opl [[bx b (B2 s) 28],[bx a (I9 l) 93]] rfl opl)) (fun _=>sb_) (fun _=>A5.nil) fun _=>?_
  refine zho 7 [bx b (B2 s) 28,bx a (I9 l) 93] (zml 12 511) rfl (Det.tri (P3 (A9g rfl) rfl rfl rfl rfl rfl A5.nil)) (fun _=>sb_) (fun _=>A5.nil) fun _=>?_
  have i:=U1 s r
  refine zho 9 [bx b (B2 s) 28,bx a (I9 l) 93] (zml 12 1023) rfl (I4 (L2:=[bx b (B2 s) 28]) (A6v rfl om_ (by first|omega|(have:=(U1 s r).2 41 opx opx opx;omega))) rfl rfl rfl rfl rfl A5.nil (J5 [[bx b (B2 s) 28],[bx a (I9 l) 93]] [1,0] 2 rfl ozw rfl [[bx a (I9 l) 93],[bx b (B2 s) 28]] rfl opl) (fun _=>[bx b (B2 s) 28,bx a (I9 l) 93]) (fun _=>J5 [[bx a (I9 l) 93],[bx b (B2 s) 28]] [1,0] 2 rfl ozw opl [[bx b (B2 s) 28],[bx a (I9 l) 93]] rfl opl)) (fun _=>sb_) (fun _=>A5.nil) fun _=>?_
  refine zhp [10,11] 0 (zml 12 4095) [(8,bv (J2 l r r)),(9,bv (J2 l (C0 s r) r))] ?_
  refine P4 oki ?_
  refine A2 (sR_ rfl (pp1 2 31 rfl ?_))
  refine zia 3 0 31 34 (!(J2 l r r)) (fun o=>?_) ?_
  ·refine pp1 3 34 rfl ?_
   exact A1 (J0 2 31 34 o A5.nil sb_ rfl rfl rfl rfl rfl)
  refine ie ?_
  refine zjb rfl hR ?_ ?_<;>clear hR<;>intro hR g
  ·have e:=bq_ g
   refine A0 3 rfl (pp1 1 35 rfl ?_)
   refine ix rfl (A9 rfl rfl rfl rfl opx) ?_
   refine pp1 1 6 rfl ?_
   refine A1 (nx (sR_ rfl (pp1 2 38 rfl ?_)))
   refine zia 3 0 38 41 (!(J2 l (C0 s r) r)) (fun u=>?_) ?_
   ·refine pp1 3 41 rfl ?_
    exact A1 (J0 2 38 41 u A5.nil sb_ rfl rfl rfl rfl rfl)
   refine ie ?_
   refine zjb rfl hR ?_ ?_<;>clear hR<;>intro hR j
   ·have f:=bq_ j
    refine A0 3 rfl (pp1 1 42 rfl ?_)
    refine ix rfl (R9 rfl rfl rfl rfl opx) ?_
    refine pp1 1 6 rfl ?_
    refine A1 (nx (A0 3 rfl (pp1 1 18 rfl ?_)))
    refine ix rfl (A9 rfl rfl rfl rfl opx) ?_
    refine pp1 1 7 rfl ?_
    refine A1 ?_
    exact A0y (z1:=(fu1+1,n,r)) (fu1,(n+1) - 1,r+1) ⟨opx,hR,opx,opx⟩ (Nat.lt_succ_self _) sb_ A5.nil
   have f:=bq_ j
   refine A3 (nx (A0 3 rfl (pp1 1 18 rfl ?_)))
   refine ix rfl (A9 rfl rfl rfl rfl opx) ?_
   refine pp1 1 7 rfl ?_
   refine A1 ?_
   exact A0y (z1:=(fu1+1,n,r)) (fu1,n+1,r+1) ⟨opx,hR,opx,opx⟩ (Nat.lt_succ_self _) sb_ A5.nil
  have e:=bq_ g
  refine A3 (nx (sR_ rfl (pp1 2 38 rfl ?_)))
  refine zia 3 0 38 41 (!(J2 l (C0 s r) r)) (fun p=>?_) ?_
  ·refine pp1 3 41 rfl ?_
   exact A1 (J0 2 38 41 p A5.nil sb_ rfl rfl rfl rfl rfl)
  refine ie ?_
  refine zjb rfl hR ?_ ?_<;>clear hR<;>intro hR h
  ·have d:=bq_ h
   refine A0 3 rfl (pp1 1 42 rfl ?_)
   refine ix rfl (R9 rfl rfl rfl rfl opx) ?_
   refine pp1 1 6 rfl ?_
   refine A1 (nx (A0 3 rfl (pp1 1 18 rfl ?_)))
   refine ix rfl (A9 rfl rfl rfl rfl opx) ?_
   refine pp1 1 7 rfl ?_
   refine A1 ?_
   exact A0y (z1:=(fu1+1,n,r)) (fu1,n - 1,r+1) ⟨opx,hR,opx,opx⟩ (Nat.lt_succ_self _) sb_ A5.nil
  have d:=bq_ h
  refine A3 (nx (A0 3 rfl (pp1 1 18 rfl ?_)))
  refine ix rfl (A9 rfl rfl rfl rfl opx) ?_
  refine pp1 1 7 rfl ?_
  refine A1 ?_
  exact A0y (z1:=(fu1+1,n,r)) (fu1,n,r+1) ⟨opx,hR,opx,opx⟩ (Nat.lt_succ_self _) sb_ A5.nil
 refine F6 (nx (sR_ rfl (pp1 2 4 rfl ?_)))
 subst hR
 refine ie (A6 ?_)
 exact zer hr hD (U4 rfl (A4 rfl)) () sb_ A5.nil
def R1 (a:FrmC) (c:List (List Cel)) (b:FrmC) (d:List (List Cel)):List Shf→Hld→(Shf×Int×Int)
 | [],f=>(bif (decide (f.shift=Shf.zero)) then (Shf.zero,0,4) else (f.shift,f.gain,0))
 | el::rest,f=>(bif (decide (f.gain<(Z8 (G8 a c b d) el))) then R1 a c b d rest (⟨el,(Z8 (G8 a c b d) el)⟩:Hld) else R1 a c b d rest f)
def A4v (a:FrmC) (c:List (List Cel)) (b:FrmC) (d:List (List Cel)):Shf×Int×Int :=
 (bif (!decide ((A3l a c b d)=0)) then (Shf.zero,0,(A3l a c b d)) else R1 a c b d (A0a (O6 (c.length:Int))) Hld.zero)
set_option maxRecDepth 100000 in
theorem A7w {a:FrmC} {aRows:List (List Cel)} {b:FrmC} {bRows:List (List Cel)} {d:Option Addr} {e:List Slc} {aRowsk:Nat} {c:Option Addr} {g:List Slc} {bRowsk:Nat} {R:Shf×Int×Int} (hR:A4v a aRows b bRows=R) (j:E3 e aRows:=by exact om_) (y:aRows.length≤9223372036854775807:=by exact om_) (a1:aRows.length≤aRowsk:=by exact om_) (i:E3 g bRows:=by exact om_) (a2:bRows.length≤9223372036854775807:=by exact om_) (a0:bRows.length≤bRowsk:=by exact om_) (hT:a.title.length≤100000000:=by exact om_) (af:b.title.length≤100000000:=by exact om_):J6 Tryz.prog 10 [ag (B0 a ⟨d,aRows.length,aRowsk⟩),ag (B0 b ⟨c,bRows.length,bRowsk⟩)] [sl E4 d e,D3 B1 e aRows,sl E4 c g,D3 B1 g bRows,O9,P0] (.tuple #[ag (B2 R.1),iv R.2.1,iv R.2.2]):=by
 refine zce Tryz.func10 fun X hX hr hD=>?_
 replace hR:=(A4v.eq_1 ..).symm.trans hR
 have:=j.1
 have:=i.1
 refine sR_ rfl (D1k 5 0 [] (fun l m n=>[(2,pt l 0),(3,pt m 0),(4,pt n 0)]) (fun l m n=>[bx n (B2 Shf.zero) 28,bx m (B0 b ⟨c,bRows.length,bRowsk⟩) 26,bx l (B0 a ⟨d,aRows.length,aRowsk⟩) 26]) (fun l m n=>?_))
 refine ie (A2 (sR_ rfl (zrl 2 2 [2,1] [(12,ag (B0 a ⟨d,aRows.length,aRowsk⟩)),(13,ag (B0 b ⟨c,bRows.length,bRowsk⟩))] ?_)))
 refine zv rfl (B7v rfl j om_ om_ i) ?_
 refine pp1 1 7 rfl ?_
 refine ie (sR_ rfl (pp1 2 16 rfl ?_))
 refine ie ?_
 refine zjn rfl hR ?_ ?_<;>clear hR<;>intro hR h4 a4
 ·refine sR_ rfl (zrg 5 0 [0] [(5,iv 0),(6,iv (A3l a aRows b bRows))] [bx n (B2 Shf.zero) 28,bx m (B0 b ⟨c,bRows.length,bRowsk⟩) 26,bx l (B0 a ⟨d,aRows.length,aRowsk⟩) 26] ?_)
  subst hR
  refine ie (A6 ?_)
  exact zer hr hD (A4s rfl (L6 (us:=B2 Shf.zero) B3q rfl 0 rfl rfl rfl) (A4 rfl) (A4 rfl)) () sb_ A5.nil
 have hz:(U8 a aRows b bRows).2=0:=Classical.not_not.1 a4
 have t:=A2h (B4v rfl hz)
 have ad:=t.1.2.2.2.2
 have a9:=t.2.1.2.2.2.2
 refine A3 (nx (sR_ rfl (zrl 2 6 [2,1] [(19,ag (B0 a ⟨d,aRows.length,aRowsk⟩)),(20,ag (B0 b ⟨c,bRows.length,bRowsk⟩))] ?_)))
 refine zv rfl (C1a rfl j om_ om_ i) ?_
 refine zrl 1 4 [] [(22,ag (A5g Hld.zero))] ?_
 refine it rfl (I7 (cs:=I9 Lks.zero) C3z rfl) fun o=>?_
 refine J3 1 2 [] (fun k=>[(9,pt k 0)]) (fun k=>[bx k (A5g Hld.zero) 98,bx o (I9 Lks.zero) 93,bx n (B2 Shf.zero) 28,bx m (B0 b ⟨c,bRows.length,bRowsk⟩) 26,bx l (B0 a ⟨d,aRows.length,aRowsk⟩) 26]) (fun k=>?_)
 refine it rfl (D0 (us:=I9 (G8 a aRows b bRows)) (cs':=I9 (G8 a aRows b bRows)) C9d rfl rfl rfl 1 rfl rfl rfl rfl rfl rfl) fun _=>?_
 refine zrg 1 0 [0] [] [bx k (A5g Hld.zero) 98,bx o (I9 (G8 a aRows b bRows)) 93,bx n (B2 Shf.zero) 28,bx m (B0 b ⟨c,bRows.length,bRowsk⟩) 26,bx l (B0 a ⟨d,aRows.length,aRowsk⟩) 26] ?_
 refine ie (A2 (sR_ rfl (pl1 3 [4] 25 rfl ?_)))
 refine zc rfl (B5q rfl) fun w=>?_
 refine ie (A8 (C7n [(4,pt n 0),(8,pt o 0),(9,pt k 0),(26,.func (.func 86) #[] #[pa w])] ⟨rfl,rfl,rfl,rfl,trivial⟩ ?_))
 refine C0j (β:=Shf) (enc:=(fun x=>ag (B2 x))) (xs:=(A0a (O6 (aRows.length:Int)))) (σ:=Hld) hr rfl (B2v (O6 (aRows.length:Int)) w (by simp only [O6];omega) _ rfl) fo_ rfl rfl (fun p x=>R1 a aRows b bRows p x=R∧∀ x ∈ p,B4x x) (fun _ _=>False) (fun x=>[bx k (A5g x) 98,bx o (I9 (G8 a aRows b bRows)) 93,bx n (B2 Shf.zero) 28,bx m (B0 b ⟨c,bRows.length,bRowsk⟩) 26,bx l (B0 a ⟨d,aRows.length,aRowsk⟩) 26]) (fun x=>[at_ w [iv (O6 (aRows.length:Int))],sl E4 d e,D3 B1 e aRows,sl E4 c g,D3 B1 g bRows,O9,P0]) Hld.zero (by exact ⟨hR,(by exact C6u _ opx)⟩) sb_ A5.refl ?_ ?_ (fun _ _ _ _ h=>h.elim)
 ·rintro q rest f z Y Y' K' ab hK
  try dsimp only at z
  obtain ⟨hR,s⟩:=z
  replace hR:=(R1.eq_2 ..).symm.trans hR
  refine A0 2 rfl (J3 2 0 [0] (fun r=>[(10,pt r 0)]) (fun r=>[bx r (B2 q) 28,bx k (A5g f) 98,bx o (I9 (G8 a aRows b bRows)) 93,bx n (B2 Shf.zero) 28,bx m (B0 b ⟨c,bRows.length,bRowsk⟩) 26,bx l (B0 a ⟨d,aRows.length,aRowsk⟩) 26]) (fun r=>?_))
  refine A1 (hK _ _ _ ?_)
  refine A8 (sR_ rfl (zrl 1 2 [0] [(28,ag (B2 q))] ?_))
  refine zc rfl (B9i rfl (by first|omega|(have:=s _ (List.mem_cons_self ..);unfold B4x at this;omega))) fun _=>?_
  refine pp1 1 11 rfl ?_
  refine ie (sR_ rfl (pl1 5 [2] 34 rfl ?_))
  refine ie ?_
  refine zjd rfl hR ?_ ?_<;>clear hR<;>intro hR ac a6
  ·refine A0 8 rfl (zrg 8 0 [1,2,2] [] [bx o (I9 (G8 a aRows b bRows)) 93,bx r (B2 q) 28,bx k (A5g (⟨q,(Z8 (G8 a aRows b bRows) q)⟩:Hld)) 98,bx n (B2 Shf.zero) 28,bx m (B0 b ⟨c,bRows.length,bRowsk⟩) 26,bx l (B0 a ⟨d,aRows.length,aRowsk⟩) 26] ?_)
   refine A1 (A0t (J5 [[bx o (I9 (G8 a aRows b bRows)) 93],[bx r (B2 q) 28],[bx k (A5g (⟨q,(Z8 (G8 a aRows b bRows) q)⟩:Hld)) 98],[bx n (B2 Shf.zero) 28],[bx m (B0 b ⟨c,bRows.length,bRowsk⟩) 26],[bx l (B0 a ⟨d,aRows.length,aRowsk⟩) 26]] [2,0,3,4,5,1] 6 rfl ozw rfl [[bx k (A5g (⟨q,(Z8 (G8 a aRows b bRows) q)⟩:Hld)) 98],[bx o (I9 (G8 a aRows b bRows)) 93],[bx n (B2 Shf.zero) 28],[bx m (B0 b ⟨c,bRows.length,bRowsk⟩) 26],[bx l (B0 a ⟨d,aRows.length,aRowsk⟩) 26],[bx r (B2 q) 28]] rfl opv) ?_)
   exact A9q (I:=fun p x=>R1 a aRows b bRows p x=R∧∀ x ∈ p,B4x x) (Jx:=fun _ _=>False) (Lk:=fun x=>[bx k (A5g x) 98,bx o (I9 (G8 a aRows b bRows)) 93,bx n (B2 Shf.zero) 28,bx m (B0 b ⟨c,bRows.length,bRowsk⟩) 26,bx l (B0 a ⟨d,aRows.length,aRowsk⟩) 26]) (Φk:=fun x=>[at_ w [iv (O6 (aRows.length:Int))],sl E4 d e,D3 B1 e aRows,sl E4 c g,D3 B1 g bRows,O9,P0]) (rest:=rest) (⟨q,(Z8 (G8 a aRows b bRows) q)⟩:Hld) (by exact ⟨hR,(by exact fun x hx=>s x (List.mem_cons_of_mem _ hx))⟩) sb_ A5.refl
  refine A3 (A0t (J5 [[bx o (I9 (G8 a aRows b bRows)) 93],[bx r (B2 q) 28],[bx k (A5g f) 98],[bx n (B2 Shf.zero) 28],[bx m (B0 b ⟨c,bRows.length,bRowsk⟩) 26],[bx l (B0 a ⟨d,aRows.length,aRowsk⟩) 26]] [2,0,3,4,5,1] 6 rfl ozw rfl [[bx k (A5g f) 98],[bx o (I9 (G8 a aRows b bRows)) 93],[bx n (B2 Shf.zero) 28],[bx m (B0 b ⟨c,bRows.length,bRowsk⟩) 26],[bx l (B0 a ⟨d,aRows.length,aRowsk⟩) 26],[bx r (B2 q) 28]] rfl opv) ?_)
  exact A9q (I:=fun p x=>R1 a aRows b bRows p x=R∧∀ x ∈ p,B4x x) (Jx:=fun _ _=>False) (Lk:=fun x=>[bx k (A5g x) 98,bx o (I9 (G8 a aRows b bRows)) 93,bx n (B2 Shf.zero) 28,bx m (B0 b ⟨c,bRows.length,bRowsk⟩) 26,bx l (B0 a ⟨d,aRows.length,aRowsk⟩) 26]) (Φk:=fun x=>[at_ w [iv (O6 (aRows.length:Int))],sl E4 d e,D3 B1 e aRows,sl E4 c g,D3 B1 g bRows,O9,P0]) (rest:=rest) f (by exact ⟨hR,(by exact fun x hx=>s x (List.mem_cons_of_mem _ hx))⟩) sb_ A5.refl
 ·rintro ae f u z
  try dsimp only at z
  obtain ⟨hR,s⟩:=z
  replace hR:=(R1.eq_1 ..).symm.trans hR
  refine nx (A2 (sR_ rfl (zrl 4 1 [0] [(43,ag (B2 f.shift)),(44,ag (B2 Shf.zero))] ?_)))
  refine ix rfl (A3c (a:=f.shift) (b:=Shf.zero) B6o rfl rfl rfl) ?_
  refine ie ?_
  refine zjd rfl hR ?_ ?_<;>clear hR<;>intro hR a7 a5
  ·refine sR_ rfl (zrg 4 0 [2] [(5,iv 0),(6,iv 4)] [bx k (A5g f) 98,bx o (I9 (G8 a aRows b bRows)) 93,bx n (B2 Shf.zero) 28,bx m (B0 b ⟨c,bRows.length,bRowsk⟩) 26,bx l (B0 a ⟨d,aRows.length,aRowsk⟩) 26] ?_)
   subst hR
   refine ie (A6 ?_)
   exact A9f rfl ⟨hr,hD⟩ (by exact (M9.cons (show M9 X.D by rw [hD];exact M9.nil) u)) (A4s rfl (L6 (us:=B2 Shf.zero) B3q rfl 2 rfl rfl rfl) (A4 rfl) (A4 rfl)) () (by rfl) sb_ A5.nil
  refine A3 (nx (sh 9 [(9,[bx k (A5g f) 98]),(9,[bx o (I9 (G8 a aRows b bRows)) 93]),(6,[bx n (B2 Shf.zero) 28]),(9,[bx m (B0 b ⟨c,bRows.length,bRowsk⟩) 26]),(9,[bx l (B0 a ⟨d,aRows.length,aRowsk⟩) 26])] [at_ w [iv (O6 (aRows.length:Int))],sl E4 d e,D3 B1 e aRows,sl E4 c g,D3 B1 g bRows,O9,P0] [bx k (A5g f) 98,bx o (I9 (G8 a aRows b bRows)) 93,bx n (B2 Shf.zero) 28,bx m (B0 b ⟨c,bRows.length,bRowsk⟩) 26,bx l (B0 a ⟨d,aRows.length,aRowsk⟩) 26] (zml 9 0) oki rfl oki oki oki sb_ A5.refl ?_))
  refine zhp [0,1,3,4] 5 (zml 9 27) [(48,pt k 0),(51,pt k 3)] ?_
  refine zhl 2 [bx k (A5g f) 98,bx o (I9 (G8 a aRows b bRows)) 93,bx n (B2 Shf.zero) 28,bx m (B0 b ⟨c,bRows.length,bRowsk⟩) 26,bx l (B0 a ⟨d,aRows.length,aRowsk⟩) 26] (zml 9 31) rfl (E5 (us:=B2 f.shift) B3q rfl rfl 0 rfl rfl rfl) ?_
  refine zhl 5 [bx k (A5g f) 98,bx o (I9 (G8 a aRows b bRows)) 93,bx m (B0 b ⟨c,bRows.length,bRowsk⟩) 26,bx l (B0 a ⟨d,aRows.length,aRowsk⟩) 26] (zml 9 63) rfl (A7 (v:=iv f.gain) ty3 rfl rfl 0 rfl rfl) ?_
  refine zho 6 [bx k (A5g f) 98,bx o (I9 (G8 a aRows b bRows)) 93,bx m (B0 b ⟨c,bRows.length,bRowsk⟩) 26,bx l (B0 a ⟨d,aRows.length,aRowsk⟩) 26] (zml 9 127) rfl (D0 (us:=B2 f.shift) (cs':=B2 f.shift) B3q rfl rfl rfl 2 rfl rfl rfl rfl rfl rfl) (fun _=>sb_) (fun _=>A5.refl) fun _=>?_
  refine zhp [7,8] 0 (zml 9 511) [(5,iv f.gain),(6,iv 0)] ?_
  refine P4 oki ?_
  subst hR
  refine A6 ?_
  exact A9f rfl ⟨hr,hD⟩ (by exact (M9.cons (show M9 X.D by rw [hD];exact M9.nil) u)) (A4s rfl (L6 (us:=B2 f.shift) B3q rfl 2 rfl rfl rfl) (A4 rfl) (A4 rfl)) () (by rfl) sb_ A5.nil
def S1 (b:List Cel):List Cel→Nat→Bool
 | [],i=>true
 | hd_l0::tl_l0,i=>(bif (!(decide (hd_l0=(b.getD i Cel.zero)))) then false else S1 b tl_l0 (i+1))
def A3y (a:List Cel) (b:List Cel):Bool :=
 (bif (!decide ((a.length:Int)=(b.length:Int))) then false else S1 b a 0)
set_option maxRecDepth 100000 in
theorem B1w {a b:List Cel} {aq:Option Addr} {ak:Nat} {bq:Option Addr} {bk:Nat} {R:Bool} (hR:A3y a b=R) (k:a.length≤9223372036854775807:=by exact om_) (l:a.length≤ak:=by exact om_) (n:b.length≤9223372036854775807:=by exact om_) (m:b.length≤bk:=by exact om_):J6 Tryz.prog 31 [.slice aq a.length ak,.slice bq b.length bk] [sl B1 aq a,sl B1 bq b] (bv R):=by
 refine zce Tryz.func31 fun X hX hr hD=>?_
 replace hR:=(A3y.eq_1 ..).symm.trans hR
 refine sR_ rfl (pp0 1 rfl ?_)
 refine ie (A2 (sR_ rfl (pp1 5 10 rfl ?_)))
 refine ie ?_
 refine zjn rfl hR ?_ ?_<;>clear hR<;>intro hR s j
 ·refine sR_ rfl (pp1 1 4 rfl ?_)
  subst hR
  refine ie (A6 ?_)
  exact E2 hr hD
 refine A3 (nx (A2 (sR_ rfl (pp1 1 5 rfl ?_))))
 refine ie (A8 (A3q (fun (i:Nat)=>(i≤a.length∧S1 b (a.drop i) i=R,[(0,.slice aq a.length ak),(1,.slice bq b.length bk),(5,iv (i:Int))],[],[sl B1 aq a,sl B1 bq b],a.length - i)) 0 ⟨opx,hR⟩ sb_ A5.refl ?_))
 rintro i ⟨o,hR⟩
 refine A2 (sR_ rfl (pp1 4 14 rfl ?_))
 refine ie (W2 rfl (fun g=>?_) (fun g=>?_))
 ·have d:=bq_ g
  rw [Y3 Cel.zero (show i<a.length by omega)] at hR;replace hR:=(S1.eq_2 ..).symm.trans hR
  refine A3 (nx (A2 (A8 (sd 9 rfl oki rfl ?_))))
  refine pd2 2 17 18 rfl ?_
  refine A2b 0 rfl opx fun p e=>?_
  refine dd rfl (F7 A2p rfl rfl e rfl i rfl opx) ?_
  refine dd rfl (I3 (us:=B1 (a.getD i Cel.zero)) B0g rfl rfl (H5 (c:=B1) (sz:=12) e (fun _=>rfl) 0 rfl (gd Cel.zero opx)) rfl) ?_
  refine pd2 2 21 22 rfl ?_
  refine A2b 1 rfl opx fun r f=>?_
  refine dd rfl (F7 A2p rfl rfl f rfl i rfl opx) ?_
  refine dd rfl (I3 (us:=B1 (b.getD i Cel.zero)) B0g rfl rfl (H5 (c:=B1) (sz:=12) f (fun _=>rfl) 1 rfl (gd Cel.zero opx)) rfl) ?_
  refine dd rfl (W4 (a:=(a.getD i Cel.zero)) (b:=(b.getD i Cel.zero)) B7a rfl rfl rfl) ?_
  refine de ?_
  refine zjn rfl hR ?_ ?_<;>clear hR<;>intro hR q h
  ·refine sR_ rfl (pp1 1 4 rfl ?_)
   subst hR
   refine ie (A6 ?_)
   exact E2 hr hD
  refine A3 (nx (A0 3 rfl (pp1 1 15 rfl ?_)))
  refine ix rfl (A9 rfl rfl rfl rfl opx) ?_
  refine pp1 1 5 rfl ?_
  refine A1 ?_
  exact A0y (z1:=i) (i+1) ⟨opx,hR⟩ olr sb_ A5.refl
 have d:=bq_ g
 rw [Y4 d] at hR;replace hR:=(S1.eq_1 ..).symm.trans hR
 refine F6 (nx (sR_ rfl (pp1 1 4 rfl ?_)))
 subst hR
 refine ie (A6 ?_)
 exact E2 hr hD
def A1c (a:List (List Cel)):List (List Cel)→Nat→Bool
 | [],i=>true
 | hd_l0::tl_l0,i=>(bif (!(A3y hd_l0 (a.getD i []))) then false else A1c a tl_l0 (i+1))
def A2t (a:FrmC) (c:List (List Cel)) (b:FrmC) (d:List (List Cel)):Bool :=
 (bif ((((((!decide (a.cols=b.cols))||(!decide ((c.length:Int)=(d.length:Int))))||(!(decide (a.cursor=b.cursor))))||(!(a.visible == b.visible)))||(!decide (a.shape=b.shape)))||(!(decide (a.title=b.title)))) then false else A1c d c 0)
set_option maxRecDepth 100000 in
theorem A7q {a:FrmC} {aRows:List (List Cel)} {b:FrmC} {bRows:List (List Cel)} {l:Option Addr} {g:List Slc} {aRowsk:Nat} {j:Option Addr} {h:List Slc} {bRowsk:Nat} {R:Bool} (hR:A2t a aRows b bRows=R) (f:E3 g aRows:=by exact om_) (u:aRows.length≤9223372036854775807:=by exact om_) (x:aRows.length≤aRowsk:=by exact om_) (e:E3 h bRows:=by exact om_) (y:bRows.length≤9223372036854775807:=by exact om_) (w:bRows.length≤bRowsk:=by exact om_):J6 Tryz.prog 12 [ag (B0 a ⟨l,aRows.length,aRowsk⟩),ag (B0 b ⟨j,bRows.length,bRowsk⟩)] [sl E4 l g,D3 B1 g aRows,sl E4 j h,D3 B1 h bRows] (bv R):=by
 refine zce Tryz.func12 fun X hX hr hD=>?_
 replace hR:=(A2t.eq_1 ..).symm.trans hR
 have:=f.1
 have:=e.1
 refine sR_ rfl (A4z 3 0 [] (fun s t=>[(2,pt s 0),(3,pt t 0)]) (fun s t=>[bx t (B0 b ⟨j,bRows.length,bRowsk⟩) 26,bx s (B0 a ⟨l,aRows.length,aRowsk⟩) 26]) (fun s t=>?_))
 refine ie (A2 (sR_ rfl (pl1 6 [1,0] 11 rfl ?_)))
 refine zio 8 28 11 19 (!decide ((aRows.length:Int)=(bRows.length:Int))) (fun g3=>?_) ?_
 ·have ab:=bq_ g3
  refine pl1 8 [1,0] 19 rfl ?_
  exact zai 2 11 19 g3
 refine pp1 1 20 rfl ?_
 refine zio 6 21 20 26 (!(decide (a.cursor=b.cursor))) (fun g4=>?_) ?_
 ·have ac:=bq_ g4
  refine zrl 4 2 [1,0] [(22,ag (B3e a.cursor)),(24,ag (B3e b.cursor))] ?_
  refine ix rfl (W4 (a:=a.cursor) (b:=b.cursor) D3h rfl rfl rfl) ?_
  refine pp1 1 26 rfl ?_
  exact zai 5 20 26 g4
 refine pp1 1 27 rfl ?_
 refine zio 6 14 27 33 (!(a.visible == b.visible)) (fun g5=>?_) ?_
 ·have a9:=bq_ g5
  refine pl2 4 [1,0] 29 31 rfl ?_
  refine ix rfl (C0c Tryz.underlying4 rfl rfl rfl) ?_
  refine pp1 1 33 rfl ?_
  exact zai 5 27 33 g5
 refine pp1 1 34 rfl ?_
 refine zio 6 7 34 40 (!decide (a.shape=b.shape)) (fun g6=>?_) ?_
 ·have aa:=bq_ g6
  refine pl1 6 [1,0] 40 rfl ?_
  exact zai 2 34 40 g6
 refine pp1 1 41 rfl ?_
 refine zio 6 0 41 47 (!(decide (a.title=b.title))) (fun g7=>?_) ?_
 ·have a7:=bq_ g7
  refine pl2 4 [1,0] 43 45 rfl ?_
  refine ix rfl (A1e rfl rfl rfl) ?_
  refine pp1 1 47 rfl ?_
  exact zai 5 41 47 g7
 refine ie ?_
 refine zjb rfl hR ?_ ?_<;>clear hR<;>intro hR h8
 ·have z:=bq_ h8
  refine sR_ rfl (pp1 1 4 rfl ?_)
  subst hR
  refine ie (A6 ?_)
  exact E2 hr hD
 have z:=bq_ h8
 refine A3 (nx (A2 (sR_ rfl (pp1 1 5 rfl ?_))))
 refine ie (A8 (A3q (fun (i:Nat)=>(i≤aRows.length∧A1c bRows (aRows.drop i) i=R,[(2,pt s 0),(3,pt t 0),(5,iv (i:Int))],[bx t (B0 b ⟨j,bRows.length,bRowsk⟩) 26,bx s (B0 a ⟨l,aRows.length,aRowsk⟩) 26],[sl E4 l g,D3 B1 g aRows,sl E4 j h,D3 B1 h bRows],aRows.length - i)) 0 ⟨opx,hR⟩ sb_ A5.refl ?_))
 rintro i ⟨a8,hR⟩
 refine A2 (sR_ rfl (zrl 5 0 [1] [(52,bv (decide ((i:Int)<(aRows.length:Int))))] ?_))
 refine ie (W2 rfl (fun r=>?_) (fun r=>?_))
 ·have p:=bq_ r
  rw [Y3 [] (show i<aRows.length by omega)] at hR;replace hR:=(A1c.eq_2 ..).symm.trans hR
  refine A3 (nx (A2 (A8 (sd 12 rfl oki rfl ?_))))
  refine zdg 3 9 [1] [(56,.slice l aRows.length aRowsk),(57,iv (i:Int))] ?_
  refine A2b 0 rfl (by have:=f.1;omega) fun ae m=>?_
  refine B6l (V2 (k:=i) (d:=(⟨none,0,0⟩:Slc)) f 1 rfl (by have:=f.1;omega)) ?_
  have:=U7 f (k:=i) (d:=(⟨none,0,0⟩:Slc)) (by have:=f.1;omega)
  refine dd rfl (F7 A8c rfl rfl m rfl i rfl opx) ?_
  refine dd rfl (H2 (D8 (v:=.slice ((g.getD i (⟨none,0,0⟩:Slc)).q) ((g.getD i (⟨none,0,0⟩:Slc)).n) ((g.getD i (⟨none,0,0⟩:Slc)).k)) (us:=[.slice ((g.getD i (⟨none,0,0⟩:Slc)).q) ((g.getD i (⟨none,0,0⟩:Slc)).n) ((g.getD i (⟨none,0,0⟩:Slc)).k)]) A6h rfl rfl (H5 (c:=E4) (sz:=1) m (fun _=>rfl) 1 rfl (gd (⟨none,0,0⟩:Slc) (by have:=f.1;omega))) rfl) (Y2 f (by have:=f.1;omega))) ?_
  refine zdg 3 4 [0] [(61,.slice j bRows.length bRowsk),(62,iv (i:Int))] ?_
  refine A2b 3 rfl (by have:=e.1;omega) fun a6 o=>?_
  refine B6l (V2 (k:=i) (d:=(⟨none,0,0⟩:Slc)) e 4 rfl (by have:=e.1;omega)) ?_
  have:=U7 e (k:=i) (d:=(⟨none,0,0⟩:Slc)) (by have:=e.1;omega)
  refine dd rfl (F7 A8c rfl rfl o rfl i rfl opx) ?_
  refine dd rfl (H2 (D8 (v:=.slice ((h.getD i (⟨none,0,0⟩:Slc)).q) ((h.getD i (⟨none,0,0⟩:Slc)).n) ((h.getD i (⟨none,0,0⟩:Slc)).k)) (us:=[.slice ((h.getD i (⟨none,0,0⟩:Slc)).q) ((h.getD i (⟨none,0,0⟩:Slc)).n) ((h.getD i (⟨none,0,0⟩:Slc)).k)]) A6h rfl rfl (H5 (c:=E4) (sz:=1) o (fun _=>rfl) 4 rfl (gd (⟨none,0,0⟩:Slc) (by have:=e.1;omega))) rfl) (Y2 e (by have:=e.1;omega))) ?_
  refine zvd rfl (B1w rfl) ?_
  refine pd1 1 66 rfl ?_
  refine de ?_
  refine zjb rfl hR ?_ ?_<;>clear hR<;>intro hR ad
  ·refine sR_ rfl (pp1 1 4 rfl ?_)
   subst hR
   refine ie (A6 ?_)
   exact E2 hr hD
  refine A3 (nx (A0 3 rfl (pp1 1 53 rfl ?_)))
  refine ix rfl (A9 rfl rfl rfl rfl opx) ?_
  refine pp1 1 5 rfl ?_
  refine A1 ?_
  exact A0y (z1:=i) (i+1) ⟨opx,hR⟩ olr sb_ fo_
 have p:=bq_ r
 rw [Y4 p] at hR;replace hR:=(A1c.eq_1 ..).symm.trans hR
 refine F6 (nx (sR_ rfl (pp1 1 4 rfl ?_)))
 subst hR
 refine ie (A6 ?_)
 exact E2 hr hD
def A5n:Bool :=
 (E8 (A0c ([97,98,99,100]:List UInt8)) fun (j:FrmC×List (List Cel))=>(E8 (A0c ([98,99,100,120]:List UInt8)) fun (g:FrmC×List (List Cel))=>(E8 (A4v j.1 j.2 g.1 g.2) fun (a:Shf×Int×Int)=>(E8 (A0c ([97,98,99,100]:List UInt8)) fun (e:FrmC×List (List Cel))=>(E8 (A0c ([97,120,98,99]:List UInt8)) fun (h:FrmC×List (List Cel))=>(E8 (A4v e.1 e.2 h.1 h.2) fun (b:Shf×Int×Int)=>(E8 (A0c ([97,98,99,100]:List UInt8)) fun (d:FrmC×List (List Cel))=>(E8 (A0c ([97,98,99,100]:List UInt8)) fun (i:FrmC×List (List Cel))=>(E8 (A4v d.1 d.2 i.1 i.2) fun (k:Shf×Int×Int)=>(E8 (R2 a.1 4) fun (c:List Act×Int)=>(E8 (A0c ([97,98,99,100]:List UInt8)) fun (m:FrmC×List (List Cel))=>(E8 (K2 m.1 m.2 a.1) fun (l:FrmC×List (List Cel)×Int)=>(bif (decide (a.2.2=0)) then (bif (((decide (a.1={Shf.zero with bottom:=3,amt:=1}))&&(decide (a.2.1=3)))&&(decide (b.2.2=0))) then (bif ((((((decide (b.1=(⟨1,3,(-1)⟩:Shf)))&&(decide (b.2.1=2)))&&(decide (k.2.2=4)))&&(decide (c.2=0)))&&(decide ((c.1.length:Int)=3)))&&(decide (l.2.2=0))) then (E8 (A0c ([98,99,100,32]:List UInt8)) fun (f:FrmC×List (List Cel))=>(bif (A2t l.1 l.2.1 f.1 f.2) then (decide ((F8 (⟨1,2,2⟩:Shf) 4)=2)) else false)) else false) else false) else false)))))))))))))
theorem ova {p:Prop} (h:p:=by first|omega|decide):p:=h
set_option maxHeartbeats 4000000 in
set_option maxRecDepth 100000 in
theorem B8e (R:Bool) (hR:A5n=R):J6 Tryz.prog 4 [] [O9,P0] (bv R):=by
 refine zce Tryz.func4 fun X hX hr hD=>?_
 replace hR:=(A5n.eq_1 ..).symm.trans hR
 refine sR_ rfl (pp0 1 rfl ?_)
 refine ie (sR_ rfl ?_)
 have hQ:=E9 hR;clear hR;obtain ⟨x,aq,hR⟩:=hQ
 refine zc rfl (S8 ([97,98,99,100]:List UInt8) ova x aq) fun ⟨⟨q1,b0,k3⟩,d8⟩=>?_
 obtain ⟨cp,dz,e1⟩:=d8
 have:=cp.1
 have:=M1 ([97,98,99,100]:List UInt8);try rw [aq] at this
 have hQ:=E9 hR;clear hR;obtain ⟨s,ah,hR⟩:=hQ
 refine zc rfl (S8 ([98,99,100,120]:List UInt8) ova s ah) fun ⟨⟨q8,b5,e0⟩,cw⟩=>?_
 obtain ⟨c9,d9,dq⟩:=cw
 have:=c9.1
 have:=M1 ([98,99,100,120]:List UInt8);try rw [ah] at this
 have hQ:=E9 hR;clear hR;obtain ⟨e,ax,hR⟩:=hQ
 refine zv rfl (A7w ax cp om_ om_ c9) ?_
 refine J3 8 0 [0] (fun i=>[(1,pt i 0),(2,iv e.2.1),(3,iv e.2.2)]) (fun i=>[bx i (B2 e.1) 28]) (fun i=>?_)
 refine ie (sR_ rfl ?_)
 have hQ:=E9 hR;clear hR;obtain ⟨t,ac,hR⟩:=hQ
 refine zc rfl (S8 ([97,98,99,100]:List UInt8) ova t ac) fun ⟨⟨c2,ai,dy⟩,cr⟩=>?_
 obtain ⟨cb,db,dh⟩:=cr
 have:=cb.1
 have:=M1 ([97,98,99,100]:List UInt8);try rw [ac] at this
 have hQ:=E9 hR;clear hR;obtain ⟨v,am,hR⟩:=hQ
 refine zc rfl (S8 ([97,120,98,99]:List UInt8) ova v am) fun ⟨⟨c0,al,e4⟩,cu⟩=>?_
 obtain ⟨cc,dt,dj⟩:=cu
 have:=cc.1
 have:=M1 ([97,120,98,99]:List UInt8);try rw [am] at this
 have hQ:=E9 hR;clear hR;obtain ⟨d,ar,hR⟩:=hQ
 refine zv rfl (A7w ar cb om_ om_ cc) ?_
 refine J3 8 0 [0] (fun j=>[(4,pt j 0),(5,iv d.2.1),(6,iv d.2.2)]) (fun j=>[bx j (B2 d.1) 28,bx i (B2 e.1) 28]) (fun j=>?_)
 refine ie (sR_ rfl ?_)
 have hQ:=E9 hR;clear hR;obtain ⟨p,ae,hR⟩:=hQ
 refine zc rfl (S8 ([97,98,99,100]:List UInt8) ova p ae) fun ⟨⟨c1,aj,e2⟩,d1⟩=>?_
 obtain ⟨ca,ds,di⟩:=d1
 have:=ca.1
 have:=M1 ([97,98,99,100]:List UInt8);try rw [ae] at this
 have hQ:=E9 hR;clear hR;obtain ⟨u,af,hR⟩:=hQ
 refine zc rfl (S8 ([97,98,99,100]:List UInt8) ova u af) fun ⟨⟨c5,ak,e3⟩,d3⟩=>?_
 obtain ⟨c8,dg,dk⟩:=d3
 have:=c8.1
 have:=M1 ([97,98,99,100]:List UInt8);try rw [af] at this
 have hQ:=E9 hR;clear hR;obtain ⟨f,au,hR⟩:=hQ
 refine zv rfl (A7w au ca om_ om_ c8) ?_
 refine J3 8 0 [0] (fun l=>[(9,iv f.2.2)]) (fun l=>[bx l (B2 f.1) 28,bx j (B2 d.1) 28,bx i (B2 e.1) 28]) (fun l=>?_)
 refine ie (sR_ rfl (zrl 1 6 [2] [(36,ag (B2 e.1))] ?_))
 have hQ:=E9 hR;clear hR;obtain ⟨h,an,hR⟩:=hQ
 refine zc rfl (A8g an) fun ⟨⟨c4,dx⟩,cv⟩=>?_
 obtain ⟨dl,dn⟩:=cv
 refine pp2 5 10 11 rfl ?_
 refine ie ?_
 have hQ:=E9 hR;clear hR;obtain ⟨a1,ay,hR⟩:=hQ
 have hQ:=E9 hR;clear hR;obtain ⟨g,y,hR⟩:=hQ
 refine sh 9 [(9,[bx l (B2 f.1) 28]),(9,[bx j (B2 d.1) 28]),(9,[bx i (B2 e.1) 28])] [sl B8 c4 h.1,sl E4 c5 ak,D3 B1 ak u.2,sl E4 c1 aj,D3 B1 aj p.2,sl E4 c0 al,D3 B1 al v.2,sl E4 c2 ai,D3 B1 ai t.2,sl E4 q8 b5,D3 B1 b5 s.2,sl E4 q1 b0,D3 B1 b0 x.2,O9,P0] [bx l (B2 f.1) 28,bx j (B2 d.1) 28,bx i (B2 e.1) 28] (zml 9 0) oki rfl oki oki oki sb_ A5.refl ?_
 refine zhl 1 [bx l (B2 f.1) 28,bx j (B2 d.1) 28,bx i (B2 e.1) 28] (zml 9 2) rfl (E5 (us:=B2 e.1) B3q rfl rfl 2 rfl rfl rfl) ?_
 refine Z1 0 6 oki ?_ ?_
 ·refine A2l 0 [bx l (B2 f.1) 28,bx j (B2 d.1) 28,bx i (B2 e.1) 28] (zml 9 3) rfl rfl rfl oki oki oki (I0 (L2:=[bx l (B2 f.1) 28,bx j (B2 d.1) 28,bx i (B2 e.1) 28]) (S8 ([97,98,99,100]:List UInt8) ova a1 ay) rfl rfl rfl rfl rfl A5.nil (List.Perm.refl _) (fun ⟨⟨bi,ap,cg⟩,ba⟩=>[bx l (B2 f.1) 28,bx j (B2 d.1) 28,bx i (B2 e.1) 28]) (fun _=>rfl)) (fun ⟨⟨bi,ap,cg⟩,ba⟩=>sb_) (fun ⟨⟨bi,ap,cg⟩,ba⟩=>fo_) fun ⟨⟨bi,ap,cg⟩,ba⟩=>?_
  obtain ⟨bh,dm,df⟩:=ba
  have:=bh.1
  have:=M1 ([97,98,99,100]:List UInt8);try rw [ay] at this
  refine Z1 2 6 oki ?_ ?_
  ·refine A2l 2 [bx l (B2 f.1) 28,bx j (B2 d.1) 28,bx i (B2 e.1) 28] (zml 9 7) rfl rfl rfl oki oki oki (I4 (L2:=[bx l (B2 f.1) 28,bx j (B2 d.1) 28,bx i (B2 e.1) 28]) (A4h y bh) rfl rfl rfl rfl rfl fo_ (List.Perm.refl _) (fun ⟨⟨n,a3⟩,av⟩=>(bx l (B2 f.1) 28::bx j (B2 d.1) 28::bx i (B2 e.1) 28::((vo E4 65 n a3)++([])))) (fun ⟨⟨n,a3⟩,av⟩=>J5 [vo E4 65 n a3,[bx l (B2 f.1) 28],[bx j (B2 d.1) 28],[bx i (B2 e.1) 28]] [1,2,3,0] 4 rfl ozw opl [[bx l (B2 f.1) 28],[bx j (B2 d.1) 28],[bx i (B2 e.1) 28],vo E4 65 n a3] rfl opl)) (fun ⟨⟨n,a3⟩,av⟩=>sb_) (fun ⟨⟨n,a3⟩,av⟩=>fo_) fun ⟨⟨n,a3⟩,av⟩=>?_
   try dsimp only at av
   obtain ⟨b3,bq⟩:=av
   have:=VOk.le b3
   have:=VOk.cap b3
   have:=bq.1
   have:=A0l a1.1 a1.2 e.1;try rw [y] at this
   refine zhp [3,4,5] 3 (zml 9 63) [(44,ag (B0 g.1 ⟨va n.q,g.2.1.length,n.k⟩)),(45,iv g.2.2)] ?_
   refine zho 6 [bx l (B2 f.1) 28,bx j (B2 d.1) 28,bx i (B2 e.1) 28] (zml 9 127) rfl (I7 (cs:=B0 FrmC.zero ⟨none,0,0⟩) C3k rfl) (fun a9=>sb_) (fun a9=>fo_) fun a9=>?_
   refine zho 7 [bx l (B2 f.1) 28,bx j (B2 d.1) 28,bx i (B2 e.1) 28] (zml 9 255) rfl (D0 (us:=B0 g.1 ⟨va n.q,g.2.1.length,n.k⟩) (cs':=B0 g.1 ⟨va n.q,g.2.1.length,n.k⟩) B5b rfl rfl rfl 0 rfl rfl rfl rfl rfl rfl) (fun _=>sb_) (fun _=>fo_) fun _=>?_
   refine zhp [8] 0 (zml 9 511) [(13,iv g.2.2)] ?_
   refine P4 oki ?_
   have:=VOk.cap b3
   have:=VOk.le b3
   refine C0d [bx a9 (B0 g.1 ⟨va n.q,g.2.1.length,n.k⟩) 26,bx l (B2 f.1) 28,bx j (B2 d.1) 28,bx i (B2 e.1) 28] [] (T:=65) (c:=E4) (r:=n) (xs:=a3) (VOk.cast b3 (by rw [bq.1])) omm ?_
   refine sh 52 [(52,[bx a9 (B0 g.1 ⟨va n.q,g.2.1.length,n.k⟩) 26]),(52,[bx l (B2 f.1) 28]),(52,[bx j (B2 d.1) 28]),(52,[bx i (B2 e.1) 28])] [sl E4 (va n.q) a3,D3 B1 a3 g.2.1,sl E4 bi ap,D3 B1 ap a1.2,sl B8 c4 h.1,sl E4 c5 ak,D3 B1 ak u.2,sl E4 c1 aj,D3 B1 aj p.2,sl E4 c0 al,D3 B1 al v.2,sl E4 c2 ai,D3 B1 ai t.2,sl E4 q8 b5,D3 B1 b5 s.2,sl E4 q1 b0,D3 B1 b0 x.2,O9,P0] [bx a9 (B0 g.1 ⟨va n.q,g.2.1.length,n.k⟩) 26,bx l (B2 f.1) 28,bx j (B2 d.1) 28,bx i (B2 e.1) 28] (zml 52 0) oki rfl oki oki oki sb_ A5.refl ?_
   refine zhp [0,1,2] 49 (zml 52 7) [(48,bv (decide (e.2.2=0)))] ?_
   refine V0 48 _ rfl (fun bu=>?_) (fun bu=>?_)
   ·have d0:=bq_ bu
    replace hR:=bt hR bu
    refine zhl 3 [bx a9 (B0 g.1 ⟨va n.q,g.2.1.length,n.k⟩) 26,bx l (B2 f.1) 28,bx j (B2 d.1) 28,bx i (B2 e.1) 28] (zml 52 15) rfl (E5 (us:=B2 e.1) B3q rfl rfl 3 rfl rfl rfl) ?_
    refine zhk 4 (zml 52 31) rfl (N8 (cs:=B2 ({Shf.zero with bottom:=3,amt:=1})) rfl rfl oki) ?_
    refine zhk 5 (zml 52 63) rfl (A3c (a:=e.1) (b:={Shf.zero with bottom:=3,amt:=1}) B6o rfl rfl rfl) ?_
    refine zhp [6,7] 44 (zml 52 255) [(53,bv (decide (e.1={Shf.zero with bottom:=3,amt:=1})))] ?_
    refine V7 [8,9,10] 41 (zml 52 2047) 53 56 (decide (e.2.1=3)) rfl oki oki ?_
    refine zhp [11] 40 (zml 52 4095) [(57,bv ((decide (e.1={Shf.zero with bottom:=3,amt:=1}))&&(decide (e.2.1=3))))] ?_
    refine V7 [12,13,14] 37 (zml 52 32767) 57 60 (decide (d.2.2=0)) rfl oki oki ?_
    refine zhp [15] 36 (zml 52 65535) [(61,bv (((decide (e.1={Shf.zero with bottom:=3,amt:=1}))&&(decide (e.2.1=3)))&&(decide (d.2.2=0))))] ?_
    refine V0 61 _ rfl (fun bm=>?_) (fun bm=>?_)
    ·have d2:=bq_ bm
     replace hR:=bt hR bm
     refine zhl 16 [bx a9 (B0 g.1 ⟨va n.q,g.2.1.length,n.k⟩) 26,bx l (B2 f.1) 28,bx j (B2 d.1) 28,bx i (B2 e.1) 28] (zml 52 131071) rfl (E5 (us:=B2 d.1) B3q rfl rfl 2 rfl rfl rfl) ?_
     refine zhk 17 (zml 52 262143) rfl (N8 (cs:=B2 (⟨1,3,(-1)⟩:Shf)) rfl rfl oki) ?_
     refine zhk 18 (zml 52 524287) rfl (A3c (a:=d.1) (b:=(⟨1,3,(-1)⟩:Shf)) B6o rfl rfl rfl) ?_
     refine zhp [19,20] 31 (zml 52 2097151) [(66,bv (decide (d.1=(⟨1,3,(-1)⟩:Shf))))] ?_
     refine V7 [21,22,23] 28 (zml 52 16777215) 66 69 (decide (d.2.1=2)) rfl oki oki ?_
     refine zhp [24] 27 (zml 52 33554431) [(70,bv ((decide (d.1=(⟨1,3,(-1)⟩:Shf)))&&(decide (d.2.1=2))))] ?_
     refine V7 [25,26,27] 24 (zml 52 268435455) 70 73 (decide (f.2.2=4)) rfl oki oki ?_
     refine zhp [28] 23 (zml 52 536870911) [(74,bv (((decide (d.1=(⟨1,3,(-1)⟩:Shf)))&&(decide (d.2.1=2)))&&(decide (f.2.2=4))))] ?_
     refine V7 [29,30,31] 20 (zml 52 4294967295) 74 77 (decide (h.2=0)) rfl oki oki ?_
     refine zhp [32] 19 (zml 52 8589934591) [(78,bv ((((decide (d.1=(⟨1,3,(-1)⟩:Shf)))&&(decide (d.2.1=2)))&&(decide (f.2.2=4)))&&(decide (h.2=0))))] ?_
     refine V7 [33,34,35,36] 15 (zml 52 137438953471) 78 82 (decide ((h.1.length:Int)=3)) rfl oki oki ?_
     refine zhp [37] 14 (zml 52 274877906943) [(83,bv (((((decide (d.1=(⟨1,3,(-1)⟩:Shf)))&&(decide (d.2.1=2)))&&(decide (f.2.2=4)))&&(decide (h.2=0)))&&(decide ((h.1.length:Int)=3))))] ?_
     refine V7 [38,39,40] 11 (zml 52 2199023255551) 83 86 (decide (g.2.2=0)) rfl oki oki ?_
     refine zhp [41] 10 (zml 52 4398046511103) [(87,bv ((((((decide (d.1=(⟨1,3,(-1)⟩:Shf)))&&(decide (d.2.1=2)))&&(decide (f.2.2=4)))&&(decide (h.2=0)))&&(decide ((h.1.length:Int)=3)))&&(decide (g.2.2=0))))] ?_
     refine V0 87 _ rfl (fun be=>?_) (fun be=>?_)
     ·have cy:=bq_ be
      replace hR:=bt hR be
      refine zhl 42 [bx a9 (B0 g.1 ⟨va n.q,g.2.1.length,n.k⟩) 26,bx l (B2 f.1) 28,bx j (B2 d.1) 28,bx i (B2 e.1) 28] (zml 52 8796093022207) rfl (E5 (us:=B0 g.1 ⟨va n.q,g.2.1.length,n.k⟩) B5b rfl rfl 0 rfl rfl rfl) ?_
      have hQ:=E9 hR;clear hR;obtain ⟨a6,aa,hR⟩:=hQ
      refine zho 43 [bx a9 (B0 g.1 ⟨va n.q,g.2.1.length,n.k⟩) 26,bx l (B2 f.1) 28,bx j (B2 d.1) 28,bx i (B2 e.1) 28] (zml 52 17592186044415) rfl (I0 (L2:=[bx a9 (B0 g.1 ⟨va n.q,g.2.1.length,n.k⟩) 26,bx l (B2 f.1) 28,bx j (B2 d.1) 28,bx i (B2 e.1) 28]) (S8 ([98,99,100,32]:List UInt8) ova a6 aa) rfl rfl rfl rfl rfl A5.nil (List.Perm.refl _) (fun ⟨⟨cf,bw,cn⟩,bc⟩=>[bx a9 (B0 g.1 ⟨va n.q,g.2.1.length,n.k⟩) 26,bx l (B2 f.1) 28,bx j (B2 d.1) 28,bx i (B2 e.1) 28]) (fun _=>rfl)) (fun ⟨⟨cf,bw,cn⟩,bc⟩=>sb_) (fun ⟨⟨cf,bw,cn⟩,bc⟩=>fo_) fun ⟨⟨cf,bw,cn⟩,bc⟩=>?_
      obtain ⟨c7,dc,da⟩:=bc
      have:=c7.1
      have:=M1 ([98,99,100,32]:List UInt8);try rw [aa] at this
      refine zho 44 [bx a9 (B0 g.1 ⟨va n.q,g.2.1.length,n.k⟩) 26,bx l (B2 f.1) 28,bx j (B2 d.1) 28,bx i (B2 e.1) 28] (zml 52 35184372088831) rfl (Det.tri (P3 (A7q rfl bq om_ om_ c7) rfl rfl rfl rfl rfl fo_)) (fun _=>sb_) (fun _=>fo_) fun _=>?_
      refine zhp [45,46] 5 (zml 52 140737488355327) [(92,bv (A2t g.1 g.2.1 a6.1 a6.2))] ?_
      refine V0 92 _ rfl (fun ch=>?_) (fun ch=>?_)
      ·replace hR:=bt hR ch
       refine zhk 47 (zml 52 281474976710655) rfl (N8 (cs:=B2 (⟨1,2,2⟩:Shf)) rfl rfl oki) ?_
       refine zho 48 [bx a9 (B0 g.1 ⟨va n.q,g.2.1.length,n.k⟩) 26,bx l (B2 f.1) 28,bx j (B2 d.1) 28,bx i (B2 e.1) 28] (zml 52 562949953421311) rfl (Det.tri (P3 (A1b rfl) rfl rfl rfl rfl rfl A5.nil)) (fun _=>sb_) (fun _=>fo_) fun _=>?_
       refine zhp [49,50,51] 0 (zml 52 4503599627370495) [(0,bv (decide ((F8 (⟨1,2,2⟩:Shf) 4)=2)))] ?_
       refine P4 oki ?_
       subst hR
       refine A6 ?_
       exact E2 hr hD
      ·replace hR:=bf hR ch
       refine zhp [47,48,49,50,51] 0 (zml 52 4503599627370495) [(0,bv false)] ?_
       refine P4 oki ?_
       subst hR
       refine A6 ?_
       exact E2 hr hD
     ·have cy:=bq_ be
      replace hR:=bf hR be
      refine zhp [42,43,44,45,46,47,48,49,50,51] 0 (zml 52 4503599627370495) [(0,bv false)] ?_
      refine P4 oki ?_
      subst hR
      refine A6 ?_
      exact E2 hr hD
    ·have d2:=bq_ bm
     replace hR:=bf hR bm
     refine zhp [16,17,18,19,20,21,22,23,24,25,26,27,28,29,30,31,32,33,34,35,36,37,38,39,40,41,42,43,44,45,46,47,48,49,50,51] 0 (zml 52 4503599627370495) [(0,bv false)] ?_
     refine P4 oki ?_
     subst hR
     refine A6 ?_
     exact E2 hr hD
   ·have d0:=bq_ bu
    replace hR:=bf hR bu
    refine zhp [3,4,5,6,7,8,9,10,11,12,13,14,15,16,17,18,19,20,21,22,23,24,25,26,27,28,29,30,31,32,33,34,35,36,37,38,39,40,41,42,43,44,45,46,47,48,49,50,51] 0 (zml 52 4503599627370495) [(0,bv false)] ?_
    refine P4 oki ?_
    subst hR
    refine A6 ?_
    exact E2 hr hD
  ·refine A2l 6 [bx l (B2 f.1) 28,bx j (B2 d.1) 28,bx i (B2 e.1) 28] (zml 9 67) rfl rfl rfl oki oki oki (I7 (cs:=B0 FrmC.zero ⟨none,0,0⟩) C3k rfl) (fun a0=>sb_) (fun a0=>fo_) fun a0=>?_
   refine zho 2 [bx l (B2 f.1) 28,bx j (B2 d.1) 28,bx i (B2 e.1) 28] (zml 9 71) rfl (I4 (L2:=[bx a0 (B0 FrmC.zero ⟨none,0,0⟩) 26,bx l (B2 f.1) 28,bx j (B2 d.1) 28,bx i (B2 e.1) 28]) (A4h y bh) rfl rfl rfl rfl rfl fo_ (List.Perm.refl _) (fun ⟨⟨o,a2⟩,aw⟩=>(bx a0 (B0 FrmC.zero ⟨none,0,0⟩) 26::bx l (B2 f.1) 28::bx j (B2 d.1) 28::bx i (B2 e.1) 28::((vo E4 65 o a2)++([])))) (fun ⟨⟨o,a2⟩,aw⟩=>J5 [vo E4 65 o a2,[bx a0 (B0 FrmC.zero ⟨none,0,0⟩) 26],[bx l (B2 f.1) 28],[bx j (B2 d.1) 28],[bx i (B2 e.1) 28]] [1,2,3,4,0] 5 rfl ozw opl [[bx a0 (B0 FrmC.zero ⟨none,0,0⟩) 26],[bx l (B2 f.1) 28],[bx j (B2 d.1) 28],[bx i (B2 e.1) 28],vo E4 65 o a2] rfl opl)) (fun ⟨⟨o,a2⟩,aw⟩=>sb_) (fun ⟨⟨o,a2⟩,aw⟩=>fo_) fun ⟨⟨o,a2⟩,aw⟩=>?_
   try dsimp only at aw
   obtain ⟨b7,bk⟩:=aw
   have:=VOk.le b7
   have:=VOk.cap b7
   have:=bk.1
   have:=A0l a1.1 a1.2 e.1;try rw [y] at this
   refine zhp [3,4,5] 2 (zml 9 127) [(44,ag (B0 g.1 ⟨va o.q,g.2.1.length,o.k⟩)),(45,iv g.2.2)] ?_
   refine zho 7 [bx l (B2 f.1) 28,bx j (B2 d.1) 28,bx i (B2 e.1) 28] (zml 9 255) rfl (D0 (us:=B0 g.1 ⟨va o.q,g.2.1.length,o.k⟩) (cs':=B0 g.1 ⟨va o.q,g.2.1.length,o.k⟩) B5b rfl rfl rfl 0 rfl rfl rfl rfl rfl rfl) (fun _=>sb_) (fun _=>fo_) fun _=>?_
   refine zhp [8] 0 (zml 9 511) [(13,iv g.2.2)] ?_
   refine P4 oki ?_
   have:=VOk.cap b7
   have:=VOk.le b7
   refine C0d [bx a0 (B0 g.1 ⟨va o.q,g.2.1.length,o.k⟩) 26,bx l (B2 f.1) 28,bx j (B2 d.1) 28,bx i (B2 e.1) 28] [] (T:=65) (c:=E4) (r:=o) (xs:=a2) (VOk.cast b7 (by rw [bk.1])) omm ?_
   refine sh 52 [(52,[bx a0 (B0 g.1 ⟨va o.q,g.2.1.length,o.k⟩) 26]),(52,[bx l (B2 f.1) 28]),(52,[bx j (B2 d.1) 28]),(52,[bx i (B2 e.1) 28])] [sl E4 (va o.q) a2,D3 B1 a2 g.2.1,sl E4 bi ap,D3 B1 ap a1.2,sl B8 c4 h.1,sl E4 c5 ak,D3 B1 ak u.2,sl E4 c1 aj,D3 B1 aj p.2,sl E4 c0 al,D3 B1 al v.2,sl E4 c2 ai,D3 B1 ai t.2,sl E4 q8 b5,D3 B1 b5 s.2,sl E4 q1 b0,D3 B1 b0 x.2,O9,P0] [bx a0 (B0 g.1 ⟨va o.q,g.2.1.length,o.k⟩) 26,bx l (B2 f.1) 28,bx j (B2 d.1) 28,bx i (B2 e.1) 28] (zml 52 0) oki rfl oki oki oki sb_ A5.refl ?_
   refine zhp [0,1,2] 49 (zml 52 7) [(48,bv (decide (e.2.2=0)))] ?_
   refine V0 48 _ rfl (fun bj=>?_) (fun bj=>?_)
   ·have ct:=bq_ bj
    replace hR:=bt hR bj
    refine zhl 3 [bx a0 (B0 g.1 ⟨va o.q,g.2.1.length,o.k⟩) 26,bx l (B2 f.1) 28,bx j (B2 d.1) 28,bx i (B2 e.1) 28] (zml 52 15) rfl (E5 (us:=B2 e.1) B3q rfl rfl 3 rfl rfl rfl) ?_
    refine zhk 4 (zml 52 31) rfl (N8 (cs:=B2 ({Shf.zero with bottom:=3,amt:=1})) rfl rfl oki) ?_
    refine zhk 5 (zml 52 63) rfl (A3c (a:=e.1) (b:={Shf.zero with bottom:=3,amt:=1}) B6o rfl rfl rfl) ?_
    refine zhp [6,7] 44 (zml 52 255) [(53,bv (decide (e.1={Shf.zero with bottom:=3,amt:=1})))] ?_
    refine V7 [8,9,10] 41 (zml 52 2047) 53 56 (decide (e.2.1=3)) rfl oki oki ?_
    refine zhp [11] 40 (zml 52 4095) [(57,bv ((decide (e.1={Shf.zero with bottom:=3,amt:=1}))&&(decide (e.2.1=3))))] ?_
    refine V7 [12,13,14] 37 (zml 52 32767) 57 60 (decide (d.2.2=0)) rfl oki oki ?_
    refine zhp [15] 36 (zml 52 65535) [(61,bv (((decide (e.1={Shf.zero with bottom:=3,amt:=1}))&&(decide (e.2.1=3)))&&(decide (d.2.2=0))))] ?_
    refine V0 61 _ rfl (fun bp=>?_) (fun bp=>?_)
    ·have cz:=bq_ bp
     replace hR:=bt hR bp
     refine zhl 16 [bx a0 (B0 g.1 ⟨va o.q,g.2.1.length,o.k⟩) 26,bx l (B2 f.1) 28,bx j (B2 d.1) 28,bx i (B2 e.1) 28] (zml 52 131071) rfl (E5 (us:=B2 d.1) B3q rfl rfl 2 rfl rfl rfl) ?_
     refine zhk 17 (zml 52 262143) rfl (N8 (cs:=B2 (⟨1,3,(-1)⟩:Shf)) rfl rfl oki) ?_
     refine zhk 18 (zml 52 524287) rfl (A3c (a:=d.1) (b:=(⟨1,3,(-1)⟩:Shf)) B6o rfl rfl rfl) ?_
     refine zhp [19,20] 31 (zml 52 2097151) [(66,bv (decide (d.1=(⟨1,3,(-1)⟩:Shf))))] ?_
     refine V7 [21,22,23] 28 (zml 52 16777215) 66 69 (decide (d.2.1=2)) rfl oki oki ?_
     refine zhp [24] 27 (zml 52 33554431) [(70,bv ((decide (d.1=(⟨1,3,(-1)⟩:Shf)))&&(decide (d.2.1=2))))] ?_
     refine V7 [25,26,27] 24 (zml 52 268435455) 70 73 (decide (f.2.2=4)) rfl oki oki ?_
     refine zhp [28] 23 (zml 52 536870911) [(74,bv (((decide (d.1=(⟨1,3,(-1)⟩:Shf)))&&(decide (d.2.1=2)))&&(decide (f.2.2=4))))] ?_
     refine V7 [29,30,31] 20 (zml 52 4294967295) 74 77 (decide (h.2=0)) rfl oki oki ?_
     refine zhp [32] 19 (zml 52 8589934591) [(78,bv ((((decide (d.1=(⟨1,3,(-1)⟩:Shf)))&&(decide (d.2.1=2)))&&(decide (f.2.2=4)))&&(decide (h.2=0))))] ?_
     refine V7 [33,34,35,36] 15 (zml 52 137438953471) 78 82 (decide ((h.1.length:Int)=3)) rfl oki oki ?_
     refine zhp [37] 14 (zml 52 274877906943) [(83,bv (((((decide (d.1=(⟨1,3,(-1)⟩:Shf)))&&(decide (d.2.1=2)))&&(decide (f.2.2=4)))&&(decide (h.2=0)))&&(decide ((h.1.length:Int)=3))))] ?_
     refine V7 [38,39,40] 11 (zml 52 2199023255551) 83 86 (decide (g.2.2=0)) rfl oki oki ?_
     refine zhp [41] 10 (zml 52 4398046511103) [(87,bv ((((((decide (d.1=(⟨1,3,(-1)⟩:Shf)))&&(decide (d.2.1=2)))&&(decide (f.2.2=4)))&&(decide (h.2=0)))&&(decide ((h.1.length:Int)=3)))&&(decide (g.2.2=0))))] ?_
     refine V0 87 _ rfl (fun bn=>?_) (fun bn=>?_)
     ·have cq:=bq_ bn
      replace hR:=bt hR bn
      refine zhl 42 [bx a0 (B0 g.1 ⟨va o.q,g.2.1.length,o.k⟩) 26,bx l (B2 f.1) 28,bx j (B2 d.1) 28,bx i (B2 e.1) 28] (zml 52 8796093022207) rfl (E5 (us:=B0 g.1 ⟨va o.q,g.2.1.length,o.k⟩) B5b rfl rfl 0 rfl rfl rfl) ?_
      have hQ:=E9 hR;clear hR;obtain ⟨a5,ab,hR⟩:=hQ
      refine zho 43 [bx a0 (B0 g.1 ⟨va o.q,g.2.1.length,o.k⟩) 26,bx l (B2 f.1) 28,bx j (B2 d.1) 28,bx i (B2 e.1) 28] (zml 52 17592186044415) rfl (I0 (L2:=[bx a0 (B0 g.1 ⟨va o.q,g.2.1.length,o.k⟩) 26,bx l (B2 f.1) 28,bx j (B2 d.1) 28,bx i (B2 e.1) 28]) (S8 ([98,99,100,32]:List UInt8) ova a5 ab) rfl rfl rfl rfl rfl A5.nil (List.Perm.refl _) (fun ⟨⟨ck,bz,ce⟩,bd⟩=>[bx a0 (B0 g.1 ⟨va o.q,g.2.1.length,o.k⟩) 26,bx l (B2 f.1) 28,bx j (B2 d.1) 28,bx i (B2 e.1) 28]) (fun _=>rfl)) (fun ⟨⟨ck,bz,ce⟩,bd⟩=>sb_) (fun ⟨⟨ck,bz,ce⟩,bd⟩=>fo_) fun ⟨⟨ck,bz,ce⟩,bd⟩=>?_
      obtain ⟨cd,dv,dw⟩:=bd
      have:=cd.1
      have:=M1 ([98,99,100,32]:List UInt8);try rw [ab] at this
      refine zho 44 [bx a0 (B0 g.1 ⟨va o.q,g.2.1.length,o.k⟩) 26,bx l (B2 f.1) 28,bx j (B2 d.1) 28,bx i (B2 e.1) 28] (zml 52 35184372088831) rfl (Det.tri (P3 (A7q rfl bk om_ om_ cd) rfl rfl rfl rfl rfl fo_)) (fun _=>sb_) (fun _=>fo_) fun _=>?_
      refine zhp [45,46] 5 (zml 52 140737488355327) [(92,bv (A2t g.1 g.2.1 a5.1 a5.2))] ?_
      refine V0 92 _ rfl (fun cl=>?_) (fun cl=>?_)
      ·replace hR:=bt hR cl
       refine zhk 47 (zml 52 281474976710655) rfl (N8 (cs:=B2 (⟨1,2,2⟩:Shf)) rfl rfl oki) ?_
       refine zho 48 [bx a0 (B0 g.1 ⟨va o.q,g.2.1.length,o.k⟩) 26,bx l (B2 f.1) 28,bx j (B2 d.1) 28,bx i (B2 e.1) 28] (zml 52 562949953421311) rfl (Det.tri (P3 (A1b rfl) rfl rfl rfl rfl rfl A5.nil)) (fun _=>sb_) (fun _=>fo_) fun _=>?_
       refine zhp [49,50,51] 0 (zml 52 4503599627370495) [(0,bv (decide ((F8 (⟨1,2,2⟩:Shf) 4)=2)))] ?_
       refine P4 oki ?_
       subst hR
       refine A6 ?_
       exact E2 hr hD
      ·replace hR:=bf hR cl
       refine zhp [47,48,49,50,51] 0 (zml 52 4503599627370495) [(0,bv false)] ?_
       refine P4 oki ?_
       subst hR
       refine A6 ?_
       exact E2 hr hD
     ·have cq:=bq_ bn
      replace hR:=bf hR bn
      refine zhp [42,43,44,45,46,47,48,49,50,51] 0 (zml 52 4503599627370495) [(0,bv false)] ?_
      refine P4 oki ?_
      subst hR
      refine A6 ?_
      exact E2 hr hD
    ·have cz:=bq_ bp
     replace hR:=bf hR bp
     refine zhp [16,17,18,19,20,21,22,23,24,25,26,27,28,29,30,31,32,33,34,35,36,37,38,39,40,41,42,43,44,45,46,47,48,49,50,51] 0 (zml 52 4503599627370495) [(0,bv false)] ?_
     refine P4 oki ?_
     subst hR
     refine A6 ?_
     exact E2 hr hD
   ·have ct:=bq_ bj
    replace hR:=bf hR bj
    refine zhp [3,4,5,6,7,8,9,10,11,12,13,14,15,16,17,18,19,20,21,22,23,24,25,26,27,28,29,30,31,32,33,34,35,36,37,38,39,40,41,42,43,44,45,46,47,48,49,50,51] 0 (zml 52 4503599627370495) [(0,bv false)] ?_
    refine P4 oki ?_
    subst hR
    refine A6 ?_
    exact E2 hr hD
 ·refine A2l 6 [bx l (B2 f.1) 28,bx j (B2 d.1) 28,bx i (B2 e.1) 28] (zml 9 66) rfl rfl rfl oki oki oki (I7 (cs:=B0 FrmC.zero ⟨none,0,0⟩) C3k rfl) (fun z=>sb_) (fun z=>A5.refl) fun z=>?_
  refine zho 0 [bx l (B2 f.1) 28,bx j (B2 d.1) 28,bx i (B2 e.1) 28] (zml 9 67) rfl (I0 (L2:=[bx z (B0 FrmC.zero ⟨none,0,0⟩) 26,bx l (B2 f.1) 28,bx j (B2 d.1) 28,bx i (B2 e.1) 28]) (S8 ([97,98,99,100]:List UInt8) ova a1 ay) rfl rfl rfl rfl rfl A5.nil (List.Perm.refl _) (fun ⟨⟨c3,b4,cj⟩,bb⟩=>[bx z (B0 FrmC.zero ⟨none,0,0⟩) 26,bx l (B2 f.1) 28,bx j (B2 d.1) 28,bx i (B2 e.1) 28]) (fun _=>rfl)) (fun ⟨⟨c3,b4,cj⟩,bb⟩=>sb_) (fun ⟨⟨c3,b4,cj⟩,bb⟩=>fo_) fun ⟨⟨c3,b4,cj⟩,bb⟩=>?_
  obtain ⟨c6,dr,du⟩:=bb
  have:=c6.1
  have:=M1 ([97,98,99,100]:List UInt8);try rw [ay] at this
  refine zho 2 [bx l (B2 f.1) 28,bx j (B2 d.1) 28,bx i (B2 e.1) 28] (zml 9 71) rfl (I4 (L2:=[bx z (B0 FrmC.zero ⟨none,0,0⟩) 26,bx l (B2 f.1) 28,bx j (B2 d.1) 28,bx i (B2 e.1) 28]) (A4h y c6) rfl rfl rfl rfl rfl fo_ (List.Perm.refl _) (fun ⟨⟨m,w⟩,a8⟩=>(bx z (B0 FrmC.zero ⟨none,0,0⟩) 26::bx l (B2 f.1) 28::bx j (B2 d.1) 28::bx i (B2 e.1) 28::((vo E4 65 m w)++([])))) (fun ⟨⟨m,w⟩,a8⟩=>J5 [vo E4 65 m w,[bx z (B0 FrmC.zero ⟨none,0,0⟩) 26],[bx l (B2 f.1) 28],[bx j (B2 d.1) 28],[bx i (B2 e.1) 28]] [1,2,3,4,0] 5 rfl ozw opl [[bx z (B0 FrmC.zero ⟨none,0,0⟩) 26],[bx l (B2 f.1) 28],[bx j (B2 d.1) 28],[bx i (B2 e.1) 28],vo E4 65 m w] rfl opl)) (fun ⟨⟨m,w⟩,a8⟩=>sb_) (fun ⟨⟨m,w⟩,a8⟩=>fo_) fun ⟨⟨m,w⟩,a8⟩=>?_
  try dsimp only at a8
  obtain ⟨ao,b8⟩:=a8
  have:=VOk.le ao
  have:=VOk.cap ao
  have:=b8.1
  have:=A0l a1.1 a1.2 e.1;try rw [y] at this
  refine zhp [3,4,5] 2 (zml 9 127) [(44,ag (B0 g.1 ⟨va m.q,g.2.1.length,m.k⟩)),(45,iv g.2.2)] ?_
  refine zho 7 [bx l (B2 f.1) 28,bx j (B2 d.1) 28,bx i (B2 e.1) 28] (zml 9 255) rfl (D0 (us:=B0 g.1 ⟨va m.q,g.2.1.length,m.k⟩) (cs':=B0 g.1 ⟨va m.q,g.2.1.length,m.k⟩) B5b rfl rfl rfl 0 rfl rfl rfl rfl rfl rfl) (fun _=>sb_) (fun _=>fo_) fun _=>?_
  refine zhp [8] 0 (zml 9 511) [(13,iv g.2.2)] ?_
  refine P4 oki ?_
  have:=VOk.cap ao
  have:=VOk.le ao
  refine C0d [bx z (B0 g.1 ⟨va m.q,g.2.1.length,m.k⟩) 26,bx l (B2 f.1) 28,bx j (B2 d.1) 28,bx i (B2 e.1) 28] [] (T:=65) (c:=E4) (r:=m) (xs:=w) (VOk.cast ao (by rw [b8.1])) omm ?_
  refine sh 52 [(52,[bx z (B0 g.1 ⟨va m.q,g.2.1.length,m.k⟩) 26]),(52,[bx l (B2 f.1) 28]),(52,[bx j (B2 d.1) 28]),(52,[bx i (B2 e.1) 28])] [sl E4 (va m.q) w,D3 B1 w g.2.1,sl E4 c3 b4,D3 B1 b4 a1.2,sl B8 c4 h.1,sl E4 c5 ak,D3 B1 ak u.2,sl E4 c1 aj,D3 B1 aj p.2,sl E4 c0 al,D3 B1 al v.2,sl E4 c2 ai,D3 B1 ai t.2,sl E4 q8 b5,D3 B1 b5 s.2,sl E4 q1 b0,D3 B1 b0 x.2,O9,P0] [bx z (B0 g.1 ⟨va m.q,g.2.1.length,m.k⟩) 26,bx l (B2 f.1) 28,bx j (B2 d.1) 28,bx i (B2 e.1) 28] (zml 52 0) oki rfl oki oki oki sb_ A5.refl ?_
  refine zhp [0,1,2] 49 (zml 52 7) [(48,bv (decide (e.2.2=0)))] ?_
  refine V0 48 _ rfl (fun b1=>?_) (fun b1=>?_)
  ·have co:=bq_ b1
   replace hR:=bt hR b1
   refine zhl 3 [bx z (B0 g.1 ⟨va m.q,g.2.1.length,m.k⟩) 26,bx l (B2 f.1) 28,bx j (B2 d.1) 28,bx i (B2 e.1) 28] (zml 52 15) rfl (E5 (us:=B2 e.1) B3q rfl rfl 3 rfl rfl rfl) ?_
   refine zhk 4 (zml 52 31) rfl (N8 (cs:=B2 ({Shf.zero with bottom:=3,amt:=1})) rfl rfl oki) ?_
   refine zhk 5 (zml 52 63) rfl (A3c (a:=e.1) (b:={Shf.zero with bottom:=3,amt:=1}) B6o rfl rfl rfl) ?_
   refine zhp [6,7] 44 (zml 52 255) [(53,bv (decide (e.1={Shf.zero with bottom:=3,amt:=1})))] ?_
   refine V7 [8,9,10] 41 (zml 52 2047) 53 56 (decide (e.2.1=3)) rfl oki oki ?_
   refine zhp [11] 40 (zml 52 4095) [(57,bv ((decide (e.1={Shf.zero with bottom:=3,amt:=1}))&&(decide (e.2.1=3))))] ?_
   refine V7 [12,13,14] 37 (zml 52 32767) 57 60 (decide (d.2.2=0)) rfl oki oki ?_
   refine zhp [15] 36 (zml 52 65535) [(61,bv (((decide (e.1={Shf.zero with bottom:=3,amt:=1}))&&(decide (e.2.1=3)))&&(decide (d.2.2=0))))] ?_
   refine V0 61 _ rfl (fun b2=>?_) (fun b2=>?_)
   ·have cm:=bq_ b2
    replace hR:=bt hR b2
    refine zhl 16 [bx z (B0 g.1 ⟨va m.q,g.2.1.length,m.k⟩) 26,bx l (B2 f.1) 28,bx j (B2 d.1) 28,bx i (B2 e.1) 28] (zml 52 131071) rfl (E5 (us:=B2 d.1) B3q rfl rfl 2 rfl rfl rfl) ?_
    refine zhk 17 (zml 52 262143) rfl (N8 (cs:=B2 (⟨1,3,(-1)⟩:Shf)) rfl rfl oki) ?_
    refine zhk 18 (zml 52 524287) rfl (A3c (a:=d.1) (b:=(⟨1,3,(-1)⟩:Shf)) B6o rfl rfl rfl) ?_
    refine zhp [19,20] 31 (zml 52 2097151) [(66,bv (decide (d.1=(⟨1,3,(-1)⟩:Shf))))] ?_
    refine V7 [21,22,23] 28 (zml 52 16777215) 66 69 (decide (d.2.1=2)) rfl oki oki ?_
    refine zhp [24] 27 (zml 52 33554431) [(70,bv ((decide (d.1=(⟨1,3,(-1)⟩:Shf)))&&(decide (d.2.1=2))))] ?_
    refine V7 [25,26,27] 24 (zml 52 268435455) 70 73 (decide (f.2.2=4)) rfl oki oki ?_
    refine zhp [28] 23 (zml 52 536870911) [(74,bv (((decide (d.1=(⟨1,3,(-1)⟩:Shf)))&&(decide (d.2.1=2)))&&(decide (f.2.2=4))))] ?_
    refine V7 [29,30,31] 20 (zml 52 4294967295) 74 77 (decide (h.2=0)) rfl oki oki ?_
    refine zhp [32] 19 (zml 52 8589934591) [(78,bv ((((decide (d.1=(⟨1,3,(-1)⟩:Shf)))&&(decide (d.2.1=2)))&&(decide (f.2.2=4)))&&(decide (h.2=0))))] ?_
    refine V7 [33,34,35,36] 15 (zml 52 137438953471) 78 82 (decide ((h.1.length:Int)=3)) rfl oki oki ?_
    refine zhp [37] 14 (zml 52 274877906943) [(83,bv (((((decide (d.1=(⟨1,3,(-1)⟩:Shf)))&&(decide (d.2.1=2)))&&(decide (f.2.2=4)))&&(decide (h.2=0)))&&(decide ((h.1.length:Int)=3))))] ?_
    refine V7 [38,39,40] 11 (zml 52 2199023255551) 83 86 (decide (g.2.2=0)) rfl oki oki ?_
    refine zhp [41] 10 (zml 52 4398046511103) [(87,bv ((((((decide (d.1=(⟨1,3,(-1)⟩:Shf)))&&(decide (d.2.1=2)))&&(decide (f.2.2=4)))&&(decide (h.2=0)))&&(decide ((h.1.length:Int)=3)))&&(decide (g.2.2=0))))] ?_
    refine V0 87 _ rfl (fun b6=>?_) (fun b6=>?_)
    ·have ci:=bq_ b6
     replace hR:=bt hR b6
     refine zhl 42 [bx z (B0 g.1 ⟨va m.q,g.2.1.length,m.k⟩) 26,bx l (B2 f.1) 28,bx j (B2 d.1) 28,bx i (B2 e.1) 28] (zml 52 8796093022207) rfl (E5 (us:=B0 g.1 ⟨va m.q,g.2.1.length,m.k⟩) B5b rfl rfl 0 rfl rfl rfl) ?_
     have hQ:=E9 hR;clear hR;obtain ⟨a4,ad,hR⟩:=hQ
     refine zho 43 [bx z (B0 g.1 ⟨va m.q,g.2.1.length,m.k⟩) 26,bx l (B2 f.1) 28,bx j (B2 d.1) 28,bx i (B2 e.1) 28] (zml 52 17592186044415) rfl (I0 (L2:=[bx z (B0 g.1 ⟨va m.q,g.2.1.length,m.k⟩) 26,bx l (B2 f.1) 28,bx j (B2 d.1) 28,bx i (B2 e.1) 28]) (S8 ([98,99,100,32]:List UInt8) ova a4 ad) rfl rfl rfl rfl rfl A5.nil (List.Perm.refl _) (fun ⟨⟨br,b9,bo⟩,az⟩=>[bx z (B0 g.1 ⟨va m.q,g.2.1.length,m.k⟩) 26,bx l (B2 f.1) 28,bx j (B2 d.1) 28,bx i (B2 e.1) 28]) (fun _=>rfl)) (fun ⟨⟨br,b9,bo⟩,az⟩=>sb_) (fun ⟨⟨br,b9,bo⟩,az⟩=>fo_) fun ⟨⟨br,b9,bo⟩,az⟩=>?_
     obtain ⟨bl,d6,d7⟩:=az
     have:=bl.1
     have:=M1 ([98,99,100,32]:List UInt8);try rw [ad] at this
     refine zho 44 [bx z (B0 g.1 ⟨va m.q,g.2.1.length,m.k⟩) 26,bx l (B2 f.1) 28,bx j (B2 d.1) 28,bx i (B2 e.1) 28] (zml 52 35184372088831) rfl (Det.tri (P3 (A7q rfl b8 om_ om_ bl) rfl rfl rfl rfl rfl fo_)) (fun _=>sb_) (fun _=>fo_) fun _=>?_
     refine zhp [45,46] 5 (zml 52 140737488355327) [(92,bv (A2t g.1 g.2.1 a4.1 a4.2))] ?_
     refine V0 92 _ rfl (fun bg=>?_) (fun bg=>?_)
     ·replace hR:=bt hR bg
      refine zhk 47 (zml 52 281474976710655) rfl (N8 (cs:=B2 (⟨1,2,2⟩:Shf)) rfl rfl oki) ?_
      refine zho 48 [bx z (B0 g.1 ⟨va m.q,g.2.1.length,m.k⟩) 26,bx l (B2 f.1) 28,bx j (B2 d.1) 28,bx i (B2 e.1) 28] (zml 52 562949953421311) rfl (Det.tri (P3 (A1b rfl) rfl rfl rfl rfl rfl A5.nil)) (fun _=>sb_) (fun _=>fo_) fun _=>?_
      refine zhp [49,50,51] 0 (zml 52 4503599627370495) [(0,bv (decide ((F8 (⟨1,2,2⟩:Shf) 4)=2)))] ?_
      refine P4 oki ?_
      subst hR
      refine A6 ?_
      exact E2 hr hD
     ·replace hR:=bf hR bg
      refine zhp [47,48,49,50,51] 0 (zml 52 4503599627370495) [(0,bv false)] ?_
      refine P4 oki ?_
      subst hR
      refine A6 ?_
      exact E2 hr hD
    ·have ci:=bq_ b6
     replace hR:=bf hR b6
     refine zhp [42,43,44,45,46,47,48,49,50,51] 0 (zml 52 4503599627370495) [(0,bv false)] ?_
     refine P4 oki ?_
     subst hR
     refine A6 ?_
     exact E2 hr hD
   ·have cm:=bq_ b2
    replace hR:=bf hR b2
    refine zhp [16,17,18,19,20,21,22,23,24,25,26,27,28,29,30,31,32,33,34,35,36,37,38,39,40,41,42,43,44,45,46,47,48,49,50,51] 0 (zml 52 4503599627370495) [(0,bv false)] ?_
    refine P4 oki ?_
    subst hR
    refine A6 ?_
    exact E2 hr hD
  ·have co:=bq_ b1
   replace hR:=bf hR b1
   refine zhp [3,4,5,6,7,8,9,10,11,12,13,14,15,16,17,18,19,20,21,22,23,24,25,26,27,28,29,30,31,32,33,34,35,36,37,38,39,40,41,42,43,44,45,46,47,48,49,50,51] 0 (zml 52 4503599627370495) [(0,bv false)] ?_
   refine P4 oki ?_
   subst hR
   refine A6 ?_
   exact E2 hr hD
end Go.Proofs.YtkdgfkfbljdgmaaGreatDoor
