import Derived.Test.YtioaekgoceinkaaGreatDoorProg
import Derived.Test.YtioaekgoceinkaaGreatDoorMA2
import Derived.Test.YtioaekgoceinkaaGreatDoorMB1
import Derived.Test.YtioaekgoceinkaaGreatDoorMA3
import Derived.Test.YtioaekgoceinkaaGreatDoorMB2
import Derived.Test.YtioaekgoceinkaaGreatDoorMB3
import Derived.Test.YtioaekgoceinkaaGreatDoorMQ1
set_option linter.unusedVariables false
set_option linter.unusedSimpArgs false
set_option linter.unnecessarySimpa false
set_option maxRecDepth 100000
namespace Go.Proofs.YtioaekgoceinkaaGreatDoor
open Go Go.Fen
def V5:List (List Act)→List (List Act)→(List (List Act)×Int)
 | [],out=>(out,0)
 | el::rest,out=>V5 rest (out++([el]:List (List Act)))
def A4x (b:Int) (c:Int) (a:Cur) (d:Plc):List (List Act)×Int :=
 (bif (!decide ((G1 b c (⟨a,d⟩:Pth))=0)) then (([]:List (List Act)),(G1 b c (⟨a,d⟩:Pth))) else V5 (H1 (B2 (⟨a,d⟩:Pth))) ([]:List (List Act)))
theorem C5x:∀ (l a:List (List Act)),V5 l a=(a++l,0)
 | [],a=>by rw [V5,List.append_nil]
 | el::l,a=>by rw [V5,C5x l,List.append_assoc];rfl
theorem D9n (c r:Int) (f:Cur) (t:Plc):A4x c r f t=bif !decide (G1 c r ⟨f,t⟩=0) then ([],G1 c r ⟨f,t⟩) else (H1 ⟨f,t⟩,0):=by
 unfold A4x;rw [C5x];rfl
theorem E0e {c r:Int} {f:Cur} {t:Plc} {R:List (List Act)×Int} (h:A4x c r f t=R):(∀ e ∈ R.1,B2l e)∧R.1.length≤20:=by
 subst h;rw [D9n]
 cases hc:(!decide (G1 c r ⟨f,t⟩=0)) with
 | true=>exact ⟨fun e a=>(by cases a),Nat.zero_le _⟩
 | false=>exact ⟨(B3q (B0f hc)).1,Nat.le_trans (B3q (B0f hc)).2 opx⟩
theorem C6l {a0 w:Int} {a:Cur} {b:Plc} {R:List (List Act)×Int} (hR:A4x a0 w a b=R):Con Tryz.prog 9 [iv a0,iv w,ag (B8 a),ag (X5 b)] [] [] ({t:VR×List Slc // VOk 1 R.1.length t.1∧D5 t.2 R.1}) (fun x=>.tuple #[.slice (va x.1.1.q) R.1.length x.1.1.k,iv R.2]) (fun x=>((vo N1 27 x.1.1 x.1.2)++([]))) (fun x=>[I1 A2 x.1.2 R.1]):=by
 refine zce Tryz.func9 fun X hX hr hD=>?_
 replace hR:=(A4x.eq_1 ..).symm.trans hR
 refine sR_ rfl (A8j 4 0 [] (fun s u=>[(6,pt s 0),(7,pt u 0)]) (fun s u=>[bx u (X5 b) 25,bx s (B8 a) 23]) (fun s u=>(ie (sR_ rfl (H9 5 0 [1,0,0] (fun z=>[(10,pt z 0)]) (fun z=>[bx z (H5 (⟨a,b⟩:Pth)) 58,bx u (X5 b) 25,bx s (B8 a) 23]) (fun z=>(ie (A5 (sR_ rfl (zrl 3 2 [0] [(17,iv a0),(18,iv w),(19,ag (H5 (⟨a,b⟩:Pth)))] (zv rfl (B1p rfl) (pp1 1 11 rfl (ie (sR_ rfl (pp1 2 22 rfl (ie ?_))))))))))))))))
 refine zjn rfl hR ?_ ?_<;>clear hR<;>intro hR h4 ah
 ·refine sR_ rfl (pp2 3 8 9 rfl ?_)
  subst hR
  refine ie (A8 ?_)
  exact zer hr hD (U6 rfl (B9 rfl) (B9 rfl)) ⟨(VR.nil,([]:List Slc)),⟨VOk.nil,D5.none⟩⟩ sb_ fo_
 have a3:=B0f h4
 refine A6 (nx (sR_ rfl (H9 1 0 [] (fun y=>[(12,pt y 0)]) (fun y=>[bx y [.slice none 0 0] 51,bx z (H5 (⟨a,b⟩:Pth)) 58,bx u (X5 b) 25,bx s (B8 a) 23]) (fun y=>(ie (A5 (sR_ rfl (zrl 1 1 [1] [(24,ag (H5 (⟨a,b⟩:Pth)))] ?_))))))))
 refine zc rfl (A9q rfl) fun b6=>?_
 refine ie (B4 (P9 (G9 [vo N1 27 VR.nil ([]:List Slc),[bx y [.slice none 0 0] 51],[bx z (H5 (⟨a,b⟩:Pth)) 58],[bx u (X5 b) 25],[bx s (B8 a) 23]] [1,2,3,4,0] 5 rfl ozw rfl [[bx y [.slice none 0 0] 51],[bx z (H5 (⟨a,b⟩:Pth)) 58],[bx u (X5 b) 25],[bx s (B8 a) 23],vo N1 27 VR.nil ([]:List Slc)] rfl opv) ?_))
 refine D0d [(12,pt y 0),(25,.func (.func 26) #[] #[pa b6])] ⟨rfl,rfl,trivial⟩ ?_
 refine C0r (cc:=A2) (xs:=(H1 (B2 (⟨a,b⟩:Pth)))) (σ:=List (List Act)×VR×List Slc) hr rfl (A7l (B2 (⟨a,b⟩:Pth)) b6 (by first|exact a3|assumption) _ rfl) B0.refl rfl rfl (fun o x=>V5 o x.1=R∧VOk 1 x.1.length x.2.1∧D5 x.2.2 x.1∧(∀ e ∈ o,B2l e)∧x.1.length+o.length≤20) (fun _ _=>False) (fun x=>(bx y [.slice (va x.2.1.q) x.1.length x.2.1.k] 51::bx z (H5 (⟨a,b⟩:Pth)) 58::bx u (X5 b) 25::bx s (B8 a) 23::((vo N1 27 x.2.1 x.2.2)++([])))) (fun x=>[at_ b6 (H5 (B2 (⟨a,b⟩:Pth))),I1 A2 x.2.2 x.1]) (([]:List (List Act)),VR.nil,([]:List Slc)) (by exact ⟨hR,VOk.nil,D5.none,(by exact (B3q a3).1),(by exact Nat.le_trans (Nat.le_of_eq (Nat.zero_add _)) (Nat.le_trans (B3q a3).2 opx))⟩) sb_ fo_ ?_ ?_ (fun _ _ _ _ h=>h.elim)
 ·rintro p rest ⟨i,l,g⟩ m n af ab hI Y Y' K' ad hK
  try dsimp only at hI
  obtain ⟨hR,f,d,a4,a2⟩:=hI
  replace hR:=(V5.eq_2 ..).symm.trans hR
  have:=VOk.le f
  refine A1 1 rfl (pp1 1 13 rfl (A3 (hK _ _ _ ?_)))
  refine B4 (A1 5 rfl (pl2 2 [0] 27 28 rfl ?_))
  refine it rfl (C3 (c:=N1) (xs:=([⟨m,p.length,n⟩]:List Slc)) C0k rfl rfl rfl okl) fun a9=>?_
  have j:D5 ([⟨m,p.length,n⟩]:List Slc) ([p]:List (List Act)):=(D5.cons ⟨ooy,ofp,ofp⟩ D5.none)
  refine D7 (q:=I1 A2 ([⟨m,p.length,n⟩]:List Slc) ([p]:List (List Act))) (A1h (B1 1 rfl) P5) ?_
  have:([⟨m,p.length,n⟩]:List Slc).length=1:=rfl
  have a5:D5 (g++([⟨m,p.length,n⟩]:List Slc)) (i++([p]:List (List Act))):=D5.append d j
  refine it rfl (V3 (r:=l) (rs:=g) (xss:=i) (pre:=[bx y [.slice (va l.q) i.length l.k] 51,bx z (H5 (⟨a,b⟩:Pth)) 58,bx u (X5 b) 25,bx s (B8 a) 23]) (post:=[]) C2g rfl rfl rfl rfl rfl rfl rfl rfl rfl (B1 1 rfl) (B1 4 rfl) (B1 0 rfl) d j f ofv ofv) fun ⟨a1,v⟩=>?_
  have:=VOk.le v
  have:=VOk.cap v
  have:([p]:List (List Act)).length=1:=rfl
  have:(i++([p]:List (List Act))).length=i.length+1:=List.length_append
  refine zrg 1 0 [0] [] (bx y [.slice (va a1.q) ((i++([p]:List (List Act))).length) a1.k] 51::bx z (H5 (⟨a,b⟩:Pth)) 58::bx u (X5 b) 25::bx s (B8 a) 23::((vo N1 27 a1 (g++([⟨m,p.length,n⟩]:List Slc)))++([]))) (A3 ?_)
  refine A9e (I:=fun o x=>V5 o x.1=R∧VOk 1 x.1.length x.2.1∧D5 x.2.2 x.1∧(∀ e ∈ o,B2l e)∧x.1.length+o.length≤20) (Jx:=fun _ _=>False) (Lk:=fun x=>(bx y [.slice (va x.2.1.q) x.1.length x.2.1.k] 51::bx z (H5 (⟨a,b⟩:Pth)) 58::bx u (X5 b) 25::bx s (B8 a) 23::((vo N1 27 x.2.1 x.2.2)++([])))) (Φk:=fun x=>[at_ b6 (H5 (B2 (⟨a,b⟩:Pth))),I1 A2 x.2.2 x.1]) (rest:=rest) ((i++([p]:List (List Act))),a1,(g++([⟨m,p.length,n⟩]:List Slc))) (by exact ⟨hR,v,a5,(by exact fun e he=>a4 e (List.mem_cons_of_mem _ he)),(by simp only [List.length_cons,List.length_nil,List.length_append] at a2 ⊢;omega)⟩) sb_ ?_
  exact fo_
 ·rintro ae ⟨i,l,g⟩ a6 hI
  try dsimp only at hI
  obtain ⟨hR,f,d,a4,a2⟩:=hI
  replace hR:=(V5.eq_1 ..).symm.trans hR
  have:=VOk.le f
  refine nx (sR_ rfl (pl2 3 [0] 8 9 rfl ?_))
  subst hR
  refine ie (A8 ?_)
  exact B5b rfl ⟨hr,hD⟩ (by exact (V4.cons (show V4 X.D by rw [hD];exact V4.nil) a6)) (U6 rfl (B9 rfl) (B9 rfl)) ⟨(l,g),⟨f,d⟩⟩ odv sb_ fo_
def A4c (b:List Act):List Act→Nat→Bool
 | [],i=>true
 | hd_l0::tl_l0,i=>(bif (!(decide (hd_l0=(b.getD i Act.zero)))) then false else A4c b tl_l0 (i+1))
def A6q (a:List Act) (b:List Act):Bool :=
 (bif (!decide ((a.length:Int)=(b.length:Int))) then false else A4c b a 0)
theorem B9a {a b:List Act} {aq:Option Addr} {ak:Nat} {bq:Option Addr} {bk:Nat} {R:Bool} (hR:A6q a b=R) (n:a.length≤9223372036854775807:=by exact om_) (o:a.length≤ak:=by exact om_) (j:b.length≤9223372036854775807:=by exact om_) (m:b.length≤bk:=by exact om_):G3 Tryz.prog 10 [.slice aq a.length ak,.slice bq b.length bk] [sl A2 aq a,sl A2 bq b] (bv R):=by
 refine zce Tryz.func10 fun X hX hr hD=>?_
 replace hR:=(A6q.eq_1 ..).symm.trans hR
 refine sR_ rfl (pp0 1 rfl (ie (A5 (sR_ rfl (pp1 5 10 rfl (ie ?_))))))
 refine zjn rfl hR ?_ ?_<;>clear hR<;>intro hR q h
 ·refine sR_ rfl (pp1 1 4 rfl ?_)
  subst hR
  refine ie (A8 ?_)
  exact E9 hr hD
 refine A6 (nx (A5 (sR_ rfl (pp1 1 5 rfl (ie (B4 (A5o (fun (i:Nat)=>(i≤a.length∧A4c b (a.drop i) i=R,[(0,.slice aq a.length ak),(1,.slice bq b.length bk),(5,iv (i:Int))],[],[sl A2 aq a,sl A2 bq b],a.length - i)) 0 ⟨opx,hR⟩ sb_ B0.refl ?_)))))))
 rintro i ⟨k,hR⟩
 refine A5 (sR_ rfl (pp1 4 14 rfl ?_))
 refine ie (W8 rfl (fun g=>?_) (fun g=>?_))
 ·have e:=bq_ g
  rw [A0r Act.zero (show i<a.length by omega)] at hR;replace hR:=(A4c.eq_2 ..).symm.trans hR
  refine A6 (nx (A5 (B4 (sd 9 rfl okl rfl (pd2 2 17 18 rfl ?_)))))
  refine B3c 0 rfl opx fun p d=>?_
  refine dd rfl (K2 A5y rfl rfl d rfl i rfl opx) (dd rfl (L8 (us:=A2 (a.getD i Act.zero)) B5a rfl rfl (N0 (c:=A2) (sz:=6) d (fun _=>rfl) 0 rfl (gd Act.zero opx)) rfl) (pd2 2 21 22 rfl ?_))
  refine B3c 1 rfl opx fun s f=>?_
  refine dd rfl (K2 A5y rfl rfl f rfl i rfl opx) (dd rfl (L8 (us:=A2 (b.getD i Act.zero)) B5a rfl rfl (N0 (c:=A2) (sz:=6) f (fun _=>rfl) 1 rfl (gd Act.zero opx)) rfl) (dd rfl (A0t (a:=(a.getD i Act.zero)) (b:=(b.getD i Act.zero)) D8s rfl rfl rfl) (de ?_)))
  refine zjn rfl hR ?_ ?_<;>clear hR<;>intro hR r l
  ·refine sR_ rfl (pp1 1 4 rfl ?_)
   subst hR
   refine ie (A8 ?_)
   exact E9 hr hD
  refine A6 (nx (A1 3 rfl (pp1 1 15 rfl (ix rfl (C0 rfl rfl rfl rfl opx) (pp1 1 5 rfl (A3 ?_))))))
  exact A1r (z1:=i) (i+1) ⟨opx,hR⟩ olr sb_ B0.refl
 have e:=bq_ g
 rw [A1i e] at hR;replace hR:=(A4c.eq_1 ..).symm.trans hR
 refine H3 (nx (sR_ rfl (pp1 1 4 rfl ?_)))
 subst hR
 refine ie (A8 ?_)
 exact E9 hr hD
def B0q:Bool :=
 (C9 (J4 20 9 ({Cur.zero with row:=3,col:=4}) ({Plc.zero with row:=3})) fun (b:List Act×Int)=>(C9 (J4 20 9 ({Cur.zero with row:=8,col:=19}) Plc.zero) fun (c:List Act×Int)=>(C9 (J4 20 9 ({Cur.zero with row:=9}) Plc.zero) fun (d:List Act×Int)=>(C9 (A4x 20 9 Cur.zero Plc.zero) fun (a:List (List Act)×Int)=>(((((((decide (b.2=0))&&(A6q b.1 ([{Act.zero with kind:=6}]:List Act)))&&(decide (c.2=0)))&&(A6q c.1 ([{Act.zero with kind:=19,n:=1,m:=1}]:List Act)))&&(decide (d.2=2)))&&(decide (a.2=0)))&&(decide ((a.1.length:Int)=4)))))))
theorem C6v (R:Bool) (hR:B0q=R):G3 Tryz.prog 4 [] [A4n,A4q,P0,O4,K0,S7] (bv R):=by
 refine zce Tryz.func4 fun X hX hr hD=>?_
 replace hR:=(B0q.eq_1 ..).symm.trans hR
 refine sR_ rfl (pp0 1 rfl (ie (sR_ rfl (zrl 2 6 [] [(10,ag (B8 ({Cur.zero with row:=3,col:=4}))),(11,ag (X5 ({Plc.zero with row:=3})))] ?_))))
 have l:=D0 hR;clear hR;obtain ⟨z,k,hR⟩:=l
 refine zc rfl (A6y k) fun ⟨⟨q1,k2⟩,a4⟩=>?_
 obtain ⟨ar,am⟩:=a4
 have d:=C3i k
 have:=d.1;try rw [k] at this
 refine pp2 5 1 2 rfl (ie (sR_ rfl (zrl 2 6 [] [(16,ag (B8 ({Cur.zero with row:=8,col:=19}))),(17,ag (X5 Plc.zero))] ?_)))
 have l:=D0 hR;clear hR;obtain ⟨w,i,hR⟩:=l
 refine zc rfl (A6y i) fun ⟨⟨q6,k7⟩,a2⟩=>?_
 obtain ⟨an,ab⟩:=a2
 have d:=C3i i
 have:=d.1;try rw [i] at this
 refine pp2 5 3 4 rfl (ie (sR_ rfl (zrl 2 6 [] [(22,ag (B8 ({Cur.zero with row:=9}))),(23,ag (X5 Plc.zero))] ?_)))
 have l:=D0 hR;clear hR;obtain ⟨y3,h,hR⟩:=l
 refine zc rfl (A6y h) fun ⟨⟨ao,al⟩,p⟩=>?_
 obtain ⟨af,ah⟩:=p
 have d:=C3i h
 have:=d.1;try rw [h] at this
 refine pp1 5 6 rfl (ie (sR_ rfl (zrl 2 6 [] [(28,ag (B8 Cur.zero)),(29,ag (X5 Plc.zero))] ?_)))
 have l:=D0 hR;clear hR;obtain ⟨y2,j,hR⟩:=l
 refine zc rfl (C6l j) fun ⟨⟨y,s⟩,g⟩=>?_
 try dsimp only at g
 obtain ⟨e,f⟩:=g
 have:=VOk.le e
 have:=VOk.cap e
 have:=f.1
 have a0:=E0e j
 have:=a0.2;try rw [j] at this
 refine A4k [] [] (T:=27) (c:=N1) (r:=y) (xs:=s) (VOk.cast e (by rw [f.1])) oll ?_
 refine pp2 5 7 8 rfl (ie (sR_ rfl (pp1 3 35 rfl ?_)))
 refine zid 5 24 35 40 (A6q z.1 ([{Act.zero with kind:=6}]:List Act)) (fun a3 a8=>?_) ?_
 ·refine zrl 2 3 [] [(36,.slice q1 z.1.length k2),(37,ag (A2 ({Act.zero with kind:=6})))] (it rfl (C3 (c:=A2) (xs:=([{Act.zero with kind:=6}]:List Act)) A5y rfl rfl rfl okl) fun x=>?_)
  have:([{Act.zero with kind:=6}]:List Act).length=1:=rfl
  refine zv rfl (B9a (a:=z.1) (b:=([{Act.zero with kind:=6}]:List Act)) (aq:=q1) (ak:=k2) (bq:=(some ⟨x,0,none⟩)) (bk:=1) rfl) (pp1 1 40 rfl ?_)
  exact A3 (P7 6 35 40 a3 fo_ sb_ rfl rfl rfl rfl rfl)
 refine pp1 1 41 rfl ?_
 refine zia 3 20 41 44 (decide (w.2=0)) (fun u=>?_) ?_
 ·have ae:=bq_ u
  refine pp1 3 44 rfl ?_
  exact zai 2 41 44 u
 refine pp1 1 45 rfl ?_
 refine zia 5 14 45 50 (A6q w.1 ([{Act.zero with kind:=19,n:=1,m:=1}]:List Act)) (fun t=>?_) ?_
 ·have aa:=bq_ t
  refine zrl 2 3 [] [(46,.slice q6 w.1.length k7),(47,ag (A2 ({Act.zero with kind:=19,n:=1,m:=1})))] (it rfl (C3 (c:=A2) (xs:=([{Act.zero with kind:=19,n:=1,m:=1}]:List Act)) A5y rfl rfl rfl okl) fun a1=>?_)
  have:([{Act.zero with kind:=19,n:=1,m:=1}]:List Act).length=1:=rfl
  refine zv rfl (B9a (a:=w.1) (b:=([{Act.zero with kind:=19,n:=1,m:=1}]:List Act)) (aq:=q6) (ak:=k7) (bq:=(some ⟨a1,0,none⟩)) (bk:=1) rfl) (pp1 1 50 rfl ?_)
  exact A3 (P7 6 45 50 t fo_ sb_ rfl rfl rfl rfl rfl)
 refine pp1 1 51 rfl ?_
 refine zia 3 10 51 54 (decide (y3.2=2)) (fun q=>?_) ?_
 ·have a7:=bq_ q
  refine pp1 3 54 rfl ?_
  exact zai 2 51 54 q
 refine pp1 1 55 rfl ?_
 refine zia 3 6 55 58 (decide (y2.2=0)) (fun v=>?_) ?_
 ·have ad:=bq_ v
  refine pp1 3 58 rfl ?_
  exact zai 2 55 58 v
 refine pp1 1 59 rfl ?_
 refine zia 4 1 59 63 (decide ((y2.1.length:Int)=4)) (fun o=>?_) ?_
 ·have a5:=bq_ o
  refine pp1 4 63 rfl ?_
  exact zai 2 59 63 o
 refine pp1 1 0 rfl ?_
 subst hR
 refine ie (A8 ?_)
 exact E9 hr hD
end Go.Proofs.YtioaekgoceinkaaGreatDoor
set_option linter.unusedVariables false
set_option linter.unusedSimpArgs false
set_option linter.unnecessarySimpa false
set_option maxRecDepth 100000
namespace Go.Proofs.YtioaekgoceinkaaGreatDoor
open Go Go.Fen
theorem E3o:EqT Tryz.prog 35 A0c:=EqT.of 20 rfl okl okl (fun _ _=>by kernel_rfl) A0c.inj
theorem D7g:EqT Tryz.prog 190 G4:=EqT.of 20 rfl okl okl (fun _ _=>by kernel_rfl) G4.inj
def C4m (c:Cel):Bool :=
 (decide (c={Cel.zero with wide:=2,sty:=c.sty}))
theorem D2c {c:Cel} {R:Bool} (hR:C4m c=R):G3 Tryz.prog 260 [ag (G4 c)] [] (bv R):=by
 refine zce Tryz.func260 fun X hX hr hD=>?_
 replace hR:=(C4m.eq_1 ..).symm.trans hR
 refine sR_ rfl (H9 2 0 [] (fun d=>[(1,pt d 0)]) (fun d=>[bx d (G4 c) 190]) (fun d=>(ie (sR_ rfl (zrl 4 2 [0,0] [(3,ag (G4 c)),(6,ag (G4 ({Cel.zero with wide:=2,sty:=c.sty})))] (ix rfl (C8v (a:=c) (b:={Cel.zero with wide:=2,sty:=c.sty}) D7g rfl rfl rfl) (pp1 1 2 rfl ?_)))))))
 subst hR
 refine ie (A8 ?_)
 exact E9 hr hD
def B0b (l:Ar2):Bool :=
 (bif ((!decide (l.a=0))&&(!decide ((W5 l.a)=0))) then false else (bif ((!decide (l.b=0))&&((decide (l.a=0))||(!decide ((W5 l.b)=0)))) then false else true))
theorem C8f {l:Ar2} {R:Bool} (hR:B0b l=R):G3 Tryz.prog 282 [ag (C5u l)] [A4n,A4q] (bv R):=by
 refine zce Tryz.func282 fun X hX hr hD=>?_
 replace hR:=(B0b.eq_1 ..).symm.trans hR
 refine sR_ rfl (H9 2 0 [] (fun d=>[(1,pt d 0)]) (fun d=>[bx d (C5u l) 167]) (fun d=>(ie (sR_ rfl (pp1 1 3 rfl (ie (A5 (sR_ rfl (zrl 2 0 [0] [(6,ag (C5u l)),(7,iv 0)] (ie (B4 (A0s 4 ?_))))))))))))
 refine F3 (sR_ rfl (pp1 1 8 rfl ?_))
 refine ie (A5 (G8 rfl (A6 (nx (A5 (B4 (sR_ rfl (ix rfl (F4 Tryz.underlying167 ty3 rfl rfl rfl 0 rfl ozw rfl rfl rfl) (pp1 1 5 rfl (ie (A5 (sR_ rfl (pp1 3 12 rfl ?_)))))))))))))
 refine zia 7 0 12 19 (!decide ((W5 l.a)=0)) (fun g=>?_) ?_
 ·have k:=bq_ g
  refine pp2 3 14 15 rfl (zv rfl (A4o rfl) (pp1 3 19 rfl ?_))
  exact zai 5 12 19 g
 refine ie ?_
 refine zjb rfl hR ?_ ?_<;>clear hR<;>intro hR j
 ·have e:=bq_ j
  refine sR_ rfl (pp1 1 2 rfl ?_)
  subst hR
  refine ie (A8 ?_)
  exact E9 hr hD
 have e:=bq_ j
 refine A6 (nx (A1 6 rfl (pp1 6 3 rfl (A3 (nx (A1 2 rfl (ix rfl (C0 (c:=1) rfl rfl rfl rfl ozw) (pp1 1 7 rfl (A3 (F3 (sR_ rfl (pp1 1 8 rfl (ie (A5 (G8 rfl (A6 (nx (A5 (B4 (sR_ rfl (ix rfl (F4 Tryz.underlying167 ty3 rfl rfl rfl 1 rfl ozw rfl rfl rfl) (pp1 1 5 rfl (ie (A5 (sR_ rfl (pp1 3 12 rfl ?_))))))))))))))))))))))))))
 refine zia 7 0 12 19 ((decide (l.a=0))||(!decide ((W5 l.b)=0))) (fun i=>?_) ?_
 ·have o:=bq_ i
  refine pp1 2 14 rfl ?_
  refine zir 4 1 14 18 (!decide ((W5 l.b)=0)) (fun q p=>?_) ?_
  ·refine pp1 1 15 rfl (zv rfl (A4o rfl) (pp1 2 18 rfl ?_))
   exact zai 4 14 18 q
  refine pp1 1 19 rfl ?_
  exact zai 4 12 19 i
 refine ie ?_
 refine zjb rfl hR ?_ ?_<;>clear hR<;>intro hR h
 ·have f:=bq_ h
  refine sR_ rfl (pp1 1 2 rfl ?_)
  subst hR
  refine ie (A8 ?_)
  exact E9 hr hD
 have f:=bq_ h
 refine A6 (nx (A1 6 rfl (pp1 2 21 rfl ?_)))
 refine zir 3 1 21 24 (decide (l.b=0)) (fun n m=>?_) ?_
 ·refine pp1 3 24 rfl ?_
  exact zai 2 21 24 n
 refine pp1 1 3 rfl (A3 (nx (A1 2 rfl (ix rfl (C0 (c:=2) rfl rfl rfl rfl ozw) (pp1 1 7 rfl (A3 (F3 (sR_ rfl (pp1 1 8 rfl (ie (A5 (A0f rfl (H3 (nx (sR_ rfl (pp1 1 2 rfl ?_))))))))))))))))
 subst hR
 refine ie (A8 ?_)
 exact E9 hr hD
def A6s (c:Cel):Int :=
 (bif ((!((C4m c)||((((decide ((0:Int)≤c.wide))&&(decide (c.wide≤1)))&&(decide ((W5 c.base)=(IntKind.i64.wrap (c.wide+(1:Int))))))&&(B0b c.marks))))||(!decide ((N4 c.sty)=0))) then 221 else 0)
theorem C2s {c:Cel} {R:Int} (hR:A6s c=R):G3 Tryz.prog 242 [ag (G4 c)] [A4n,A4q] (iv R):=by
 refine zce Tryz.func242 fun X hX hr hD=>?_
 replace hR:=(A6s.eq_1 ..).symm.trans hR
 refine sR_ rfl (H9 2 0 [] (fun a=>[(1,pt a 0)]) (fun a=>[bx a (G4 c) 190]) (fun a=>(ie (sd 27 rfl okl rfl ?_))))
 refine zdg 1 26 [0] [(4,ag (G4 c))] ?_
 refine zvd rfl (D2c rfl) (pd1 1 6 rfl ?_)
 refine zdO 23 1 6 29 ((((decide ((0:Int)≤c.wide))&&(decide (c.wide≤1)))&&(decide ((W5 c.base)=(IntKind.i64.wrap (c.wide+(1:Int))))))&&(B0b c.marks)) (fun i=>?_) ?_
 ·refine pg1 4 [0] 10 rfl ?_
  refine zdd 4 15 10 14 (decide (c.wide≤1)) (fun j m=>?_) ?_
  ·refine pg1 4 [0] 14 rfl ?_
   exact zad 2 10 14 j
  refine pd1 1 15 rfl ?_
  refine zda 8 6 15 23 (decide ((W5 c.base)=(IntKind.i64.wrap (c.wide+(1:Int))))) (fun f=>?_) ?_
  ·have k:=bq_ f
   refine pg1 2 [0] 17 rfl (zvd rfl (A4o rfl) (pg1 2 [0] 20 rfl (dd rfl (G7.pure rfl) (pd1 2 23 rfl ?_))))
   exact zad 6 15 23 f
  refine pd1 1 24 rfl ?_
  refine zda 4 1 24 28 (B0b c.marks) (fun g=>?_) ?_
  ·have l:=bq_ g
   refine zdg 2 2 [0] [(26,ag (C5u c.marks))] ?_
   refine zvd rfl (C8f rfl) (pd1 1 28 rfl ?_)
   exact zad 4 24 28 g
  refine pd1 1 29 rfl ?_
  exact zad 8 6 29 i
 refine pd1 1 3 rfl (de (A5 (sR_ rfl (pp1 3 32 rfl ?_))))
 refine zio 5 0 32 37 (!decide ((N4 c.sty)=0)) (fun d=>?_) ?_
 ·have h:=bq_ d
  refine zrl 2 3 [0] [(34,ag (A0c c.sty))] (zv rfl (A4e rfl) (pp1 2 37 rfl ?_))
  exact zai 4 32 37 d
 refine ie ?_
 refine zjb rfl hR ?_ ?_<;>clear hR<;>intro hR e
 ·have b:=bq_ e
  refine sR_ rfl (pp1 1 2 rfl ?_)
  subst hR
  refine ie (A8 ?_)
  exact E9 hr hD
 have b:=bq_ e
 refine A6 (nx (sR_ rfl (pp1 1 2 rfl ?_)))
 subst hR
 refine ie (A8 ?_)
 exact E9 hr hD
def A0m:List Cel→Nat→Cel→Int
 | [],t19,last=>(bif (decide (last.wide=1)) then 220 else 0)
 | hd_l0::tl_l0,t19,last=>(bif (((!decide ((A6s hd_l0)=0))||(!((decide (last.wide=1)) == (decide (hd_l0.wide=2)))))||((decide (hd_l0.wide=2))&&(!(decide (hd_l0.sty=last.sty))))) then 220 else A0m tl_l0 (t19+1) hd_l0)
def A4t (a:List Cel) (b:Bool):Int :=
 (bif ((decide ((a.length:Int)<2))||(decide ((80:Int)<(a.length:Int)))) then 220 else A0m a 0 Cel.zero)
theorem D0k {d:List Cel} {f:Bool} {e:Option Addr} {rCellsk:Nat} {R:Int} (hR:A4t d f=R) (k:d.length≤9223372036854775807:=by exact om_) (j:d.length≤rCellsk:=by exact om_):G3 Tryz.prog 172 [ag [.slice e d.length rCellsk,bv f]] [sl G4 e d,A4n,A4q] (iv R):=by
 refine zce Tryz.func172 fun X hX hr hD=>?_
 replace hR:=(A4t.eq_1 ..).symm.trans hR
 refine sR_ rfl (H9 2 0 [] (fun h=>[(1,pt h 0)]) (fun h=>[bx h [.slice e d.length rCellsk,bv f] 116]) (fun h=>(ie (A5 (sR_ rfl (pl1 4 [0] 3 rfl (ie (sR_ rfl (pp1 3 12 rfl ?_)))))))))
 refine zir 3 0 12 15 (decide ((80:Int)<(d.length:Int))) (fun g2 y=>?_) ?_
 ·refine pp1 3 15 rfl ?_
  exact zai 2 12 15 g2
 refine ie ?_
 refine zjo rfl hR ?_ ?_<;>clear hR<;>intro hR h3 a2
 ·refine sR_ rfl (pp1 1 2 rfl ?_)
  subst hR
  refine ie (A8 ?_)
  exact E9 hr hD
 refine A6 (nx (sR_ rfl (H9 1 0 [] (fun i=>[(4,pt i 0)]) (fun i=>[bx i (G4 Cel.zero) 190,bx h [.slice e d.length rCellsk,bv f] 116]) (fun i=>(ie (A5 (sR_ rfl (pl3 4 [1] 17 18 19 rfl (ie (B4 (A5o (un fun (g:Nat) (last:Cel)=>(g≤d.length∧A0m (d.drop g) g last=R,[(4,pt i 0),(17,.slice e d.length rCellsk),(18,iv (d.length:Int)),(19,iv (g:Int))],[bx i (G4 last) 190,bx h [.slice e d.length rCellsk,bv f] 116],[sl G4 e d,A4n,A4q],d.length - g)) (0,Cel.zero) ⟨opx,hR⟩ sb_ B0.refl ?_)))))))))))
 rintro ⟨g,last⟩ ⟨a0,hR⟩
 refine sR_ rfl (pp1 1 20 rfl ?_)
 refine ie (A5 (W8 rfl (fun s=>?_) (fun s=>?_)))
 ·have p:=bq_ s
  rw [A0r Cel.zero (show g<d.length by omega)] at hR;replace hR:=(A0m.eq_2 ..).symm.trans hR
  refine A6 (nx (A5 (B4 (sR_ rfl (P3 0 rfl opx fun a7 n=>(ix rfl (K2 B4k rfl rfl n rfl g rfl opx) (ix rfl (L8 (us:=G4 (d.getD g Cel.zero)) D3v rfl rfl (N0 (c:=G4) (sz:=12) n (fun _=>rfl) 0 rfl (gd Cel.zero opx)) rfl) ?_)))))))
  refine H9 2 0 [0] (fun o=>[(6,pt o 0)]) (fun o=>[bx o (G4 (d.getD g Cel.zero)) 190,bx i (G4 last) 190,bx h [.slice e d.length rCellsk,bv f] 116]) (fun o=>?_)
  refine ie (A5 (sR_ rfl (zrl 1 23 [0] [(23,ag (G4 (d.getD g Cel.zero)))] (zv rfl (C2s rfl) (pp1 2 26 rfl ?_)))))
  refine zio 8 12 26 34 (!((decide (last.wide=1)) == (decide ((d.getD g Cel.zero).wide=2)))) (fun q=>?_) ?_
  ·have w:=bq_ q
   refine pl2 6 [1,0] 29 32 rfl (ix rfl (D4o Tryz.underlying4 rfl rfl rfl) (pp1 1 34 rfl ?_))
   exact zai 5 26 34 q
  refine pp1 1 35 rfl ?_
  refine zio 11 0 35 46 ((decide ((d.getD g Cel.zero).wide=2))&&(!(decide ((d.getD g Cel.zero).sty=last.sty)))) (fun r=>?_) ?_
  ·have u:=bq_ r
   refine pl1 4 [0] 39 rfl ?_
   refine zid 6 1 39 45 (!(decide ((d.getD g Cel.zero).sty=last.sty))) (fun t v=>?_) ?_
   ·refine zrl 4 2 [0,1] [(41,ag (A0c ((d.getD g Cel.zero).sty))),(43,ag (A0c last.sty))] (ix rfl (A0t (a:=(d.getD g Cel.zero).sty) (b:=last.sty) E3o rfl rfl rfl) (pp1 1 45 rfl ?_))
    exact zai 5 39 45 t
   refine pp1 1 46 rfl ?_
   exact zai 4 35 46 r
  refine ie ?_
  refine zjb rfl hR ?_ ?_<;>clear hR<;>intro hR l
  ·have m:=bq_ l
   refine sR_ rfl (pp1 1 2 rfl ?_)
   subst hR
   refine ie (A8 ?_)
   exact E9 hr hD
  have m:=bq_ l
  refine A6 (nx (A1 2 rfl (zrg 2 0 [0,1] [] [bx o (G4 (d.getD g Cel.zero)) 190,bx i (G4 (d.getD g Cel.zero)) 190,bx h [.slice e d.length rCellsk,bv f] 116] (A3 (nx (A1 2 rfl (ix rfl (C0 rfl rfl rfl rfl opx) (pp1 1 19 rfl (A3 ?_)))))))))
  exact A1r (z1:=(g,last)) (g+1,d.getD g Cel.zero) ⟨opx,hR⟩ olr sb_ B0.refl
 have p:=bq_ s
 rw [A1i p] at hR;replace hR:=(A0m.eq_1 ..).symm.trans hR
 refine H3 (nx (A5 (sR_ rfl (pl1 3 [0] 51 rfl ?_))))
 refine ie ?_
 refine zjd rfl hR ?_ ?_<;>clear hR<;>intro hR z x
 ·refine sR_ rfl (pp1 1 2 rfl ?_)
  subst hR
  refine ie (A8 ?_)
  exact E9 hr hD
 refine A6 (nx (sR_ rfl (pp1 1 2 rfl ?_)))
 subst hR
 refine ie (A8 ?_)
 exact E9 hr hD
end Go.Proofs.YtioaekgoceinkaaGreatDoor
set_option linter.unusedVariables false
set_option linter.unusedSimpArgs false
set_option linter.unnecessarySimpa false
set_option maxRecDepth 100000
namespace Go.Proofs.YtioaekgoceinkaaGreatDoor
open Go Go.Fen
theorem E3i:EqT Tryz.prog 43 B1u:=EqT.of 20 rfl okl okl (fun _ _=>by kernel_rfl) B1u.inj
theorem E0l:Ty Tryz.prog 114 1 false:=⟨by kernel_rfl⟩
theorem D0e:Ty Tryz.prog 134 5 true:=⟨by kernel_rfl⟩
def V2 (fR:Int) (fC:Int) (fTop:Int) (fBottom:Int) (fOrigin:Bool):Int :=
 (bif (((!((((decide ((1:Int)≤fR))&&(decide (fR≤40)))&&(decide ((2:Int)≤fC)))&&(decide (fC≤80))))||(!(((decide ((0:Int)≤fTop))&&(decide (fBottom<fR)))&&((decide (fTop<fBottom))||((decide (fTop=0))&&(decide (fR=1)))))))||(decide (fBottom<fTop))) then 270 else 0)
theorem B0a {fR fC fTop fBottom:Int} {fOrigin:Bool} {R:Int} (hR:V2 fR fC fTop fBottom fOrigin=R):G3 Tryz.prog 168 [ag [iv fR,iv fC,iv fTop,iv fBottom,bv fOrigin]] [] (iv R):=by
 refine zce Tryz.func168 fun X hX hr hD=>?_
 replace hR:=(V2.eq_1 ..).symm.trans hR
 refine sR_ rfl (H9 2 0 [] (fun d=>[(1,pt d 0)]) (fun d=>[bx d [iv fR,iv fC,iv fTop,iv fBottom,bv fOrigin] 134]) (fun d=>(ie (sR_ rfl (pl1 4 [0] 8 rfl ?_)))))
 refine zid 4 11 8 12 (decide (fR≤40)) (fun j l=>?_) ?_
 ·refine pl1 4 [0] 12 rfl ?_
  exact A3 (P7 2 8 12 j fn0 sb_ rfl rfl rfl rfl rfl)
 refine pp1 1 13 rfl ?_
 refine zia 4 6 13 17 (decide ((2:Int)≤fC)) (fun g=>?_) ?_
 ·have s:=bq_ g
  refine pl1 4 [0] 17 rfl ?_
  exact A3 (P7 2 13 17 g fn0 sb_ rfl rfl rfl rfl rfl)
 refine pp1 1 18 rfl ?_
 refine zia 4 1 18 22 (decide (fC≤80)) (fun i=>?_) ?_
 ·have q:=bq_ i
  refine pl1 4 [0] 22 rfl ?_
  exact A3 (P7 2 18 22 i fn0 sb_ rfl rfl rfl rfl rfl)
 refine pp1 1 3 rfl (ie (sR_ rfl (pl1 4 [0] 26 rfl ?_)))
 refine zid 6 18 26 32 (decide (fBottom<fR)) (fun t r=>?_) ?_
 ·refine pl1 6 [0,0] 32 rfl ?_
  exact A3 (P7 2 26 32 t fn0 sb_ rfl rfl rfl rfl rfl)
 refine pp1 1 33 rfl ?_
 refine zia 16 1 33 49 ((decide (fTop<fBottom))||((decide (fTop=0))&&(decide (fR=1)))) (fun f=>?_) ?_
 ·have k:=bq_ f
  refine pl1 6 [0,0] 39 rfl ?_
  refine zir 9 1 39 48 ((decide (fTop=0))&&(decide (fR=1))) (fun o n=>?_) ?_
  ·refine pl1 4 [0] 43 rfl ?_
   refine zid 4 1 43 47 (decide (fR=1)) (fun u p=>?_) ?_
   ·refine pl1 4 [0] 47 rfl ?_
    exact A3 (P7 2 43 47 u fn0 sb_ rfl rfl rfl rfl rfl)
   refine pp1 1 48 rfl ?_
   exact A3 (P7 4 39 48 o fn0 sb_ rfl rfl rfl rfl rfl)
  refine pp1 1 49 rfl ?_
  exact A3 (P7 4 33 49 f fn0 sb_ rfl rfl rfl rfl rfl)
 refine pp1 1 4 rfl (ie (A5 (sR_ rfl (pp1 3 52 rfl ?_))))
 refine zio 3 7 52 55 (!(((decide ((0:Int)≤fTop))&&(decide (fBottom<fR)))&&((decide (fTop<fBottom))||((decide (fTop=0))&&(decide (fR=1)))))) (fun e=>?_) ?_
 ·have m:=bq_ e
  refine pp1 3 55 rfl ?_
  exact A3 (P7 2 52 55 e fn0 sb_ rfl rfl rfl rfl rfl)
 refine pp1 1 56 rfl ?_
 refine zio 6 0 56 62 (decide (fBottom<fTop)) (fun a=>?_) ?_
 ·have h:=bq_ a
  refine pl1 6 [0,0] 62 rfl ?_
  exact A3 (P7 2 56 62 a fn0 sb_ rfl rfl rfl rfl rfl)
 refine ie ?_
 refine zjb rfl hR ?_ ?_<;>clear hR<;>intro hR c
 ·have b:=bq_ c
  refine sR_ rfl (pp1 1 2 rfl ?_)
  subst hR
  refine ie (A8 ?_)
  exact E9 hr hD
 have b:=bq_ c
 refine A6 (nx (sR_ rfl (pp1 1 2 rfl ?_)))
 subst hR
 refine ie (A8 ?_)
 exact E9 hr hD
def J2 (n:Int) (a:Int) (b:Int):Int :=
 (if (if b<n then b else n) > a then (if b<n then b else n) else a)
theorem A2v {n a b R:Int} (hR:J2 n a b=R):G3 Tryz.prog 212 [iv n,iv a,iv b] [] (iv R):=by
 refine zce Tryz.func212 fun X hX hr hD=>?_
 replace hR:=(J2.eq_1 ..).symm.trans hR
 refine sR_ rfl (pp0 1 rfl (ie (sR_ rfl (pp1 6 6 rfl ?_))))
 subst hR
 refine ie (A8 ?_)
 exact E9 hr hD
def P6 (fR:Int) (fC:Int) (fTop:Int) (fBottom:Int) (fOrigin:Bool) (n:Int):Int :=
 (J2 n 0 (IntKind.i64.wrap (fR - (1:Int))))
theorem A9u {fR fC fTop fBottom:Int} {fOrigin:Bool} {n R:Int} (hR:P6 fR fC fTop fBottom fOrigin n=R):G3 Tryz.prog 169 [ag [iv fR,iv fC,iv fTop,iv fBottom,bv fOrigin],iv n] [] (iv R):=by
 refine zce Tryz.func169 fun X hX hr hD=>?_
 replace hR:=(P6.eq_1 ..).symm.trans hR
 refine sR_ rfl (H9 2 0 [] (fun a=>[(2,pt a 0)]) (fun a=>[bx a [iv fR,iv fC,iv fTop,iv fBottom,bv fOrigin] 134]) (fun a=>(ie (sR_ rfl (pl2 3 [0] 5 7 rfl (ix rfl (G7.pure rfl) (zv rfl (A2v rfl) (pp1 1 4 rfl ?_))))))))
 subst hR
 refine ie (A8 ?_)
 exact E9 hr hD
def H4 (fR:Int) (fC:Int) (fTop:Int) (fBottom:Int) (fOrigin:Bool) (n:Int):Int :=
 (J2 n 0 (IntKind.i64.wrap (fC - (1:Int))))
theorem A4s {fR fC fTop fBottom:Int} {fOrigin:Bool} {n R:Int} (hR:H4 fR fC fTop fBottom fOrigin n=R):G3 Tryz.prog 170 [ag [iv fR,iv fC,iv fTop,iv fBottom,bv fOrigin],iv n] [] (iv R):=by
 refine zce Tryz.func170 fun X hX hr hD=>?_
 replace hR:=(H4.eq_1 ..).symm.trans hR
 refine sR_ rfl (H9 2 0 [] (fun a=>[(2,pt a 0)]) (fun a=>[bx a [iv fR,iv fC,iv fTop,iv fBottom,bv fOrigin] 134]) (fun a=>(ie (sR_ rfl (pl2 3 [0] 5 7 rfl (ix rfl (G7.pure rfl) (zv rfl (A2v rfl) (pp1 1 4 rfl ?_))))))))
 subst hR
 refine ie (A8 ?_)
 exact E9 hr hD
def C2 (fR:Int) (fC:Int) (fTop:Int) (fBottom:Int) (fOrigin:Bool) (c:Cur):Int :=
 (bif (!decide ((V2 fR fC fTop fBottom fOrigin)=0)) then (V2 fR fC fTop fBottom fOrigin) else (bif (((!decide (c.row=(P6 fR fC fTop fBottom fOrigin c.row)))||(!decide (c.col=(H4 fR fC fTop fBottom fOrigin c.col))))||(c.wrap&&(decide (c.col<(IntKind.i64.wrap (fC - (1:Int))))))) then 271 else 0))
theorem M7 {fR fC fTop fBottom:Int} {fOrigin:Bool} {c:Cur} {R:Int} (hR:C2 fR fC fTop fBottom fOrigin c=R):G3 Tryz.prog 110 [ag [iv fR,iv fC,iv fTop,iv fBottom,bv fOrigin],ag (B8 c)] [] (iv R):=by
 refine zce Tryz.func110 fun X hX hr hD=>?_
 replace hR:=(C2.eq_1 ..).symm.trans hR
 refine sR_ rfl (A8j 3 0 [] (fun a b=>[(2,pt a 0),(3,pt b 0)]) (fun a b=>[bx b (B8 c) 23,bx a [iv fR,iv fC,iv fTop,iv fBottom,bv fOrigin] 134]) (fun a b=>(ie (A5 (sR_ rfl (zrl 1 2 [1] [(6,ag [iv fR,iv fC,iv fTop,iv fBottom,bv fOrigin])] (zv rfl (B0a rfl) (pp1 1 5 rfl (ie (sR_ rfl (pp1 2 9 rfl (ie ?_))))))))))))
 refine zjn rfl hR ?_ ?_<;>clear hR<;>intro hR l i
 ·refine sR_ rfl (pp1 2 4 rfl ?_)
  subst hR
  refine ie (A8 ?_)
  exact E9 hr hD
 refine A6 (nx (A5 (sd 28 rfl okl rfl ?_)))
 refine zdg 5 23 [0,1,0] [(12,iv c.row),(13,ag [iv fR,iv fC,iv fTop,iv fBottom,bv fOrigin]),(15,iv c.row)] ?_
 refine zvd rfl (A9u rfl) (pd1 2 18 rfl ?_)
 refine zdO 8 12 18 26 (!decide (c.col=(H4 fR fC fTop fBottom fOrigin c.col))) (fun f=>?_) ?_
 ·have j:=bq_ f
  refine zdg 5 3 [0,1,0] [(20,iv c.col),(21,ag [iv fR,iv fC,iv fTop,iv fBottom,bv fOrigin]),(23,iv c.col)] ?_
  refine zvd rfl (A4s rfl) (pd1 2 26 rfl ?_)
  exact zad 6 18 26 f
 refine pd1 1 27 rfl ?_
 refine zdO 11 0 27 38 (c.wrap&&(decide (c.col<(IntKind.i64.wrap (fC - (1:Int)))))) (fun g=>?_) ?_
 ·have k:=bq_ g
  refine pg1 3 [0] 30 rfl ?_
  refine zda 7 1 30 37 (decide (c.col<(IntKind.i64.wrap (fC - (1:Int))))) (fun h=>?_) ?_
  ·refine pg2 4 [0,1] 32 34 rfl (dd rfl (G7.pure rfl) (pd1 2 37 rfl ?_))
   exact zad 5 30 37 h
  refine pd1 1 38 rfl ?_
  exact zad 4 27 38 g
 refine de ?_
 refine zjb rfl hR ?_ ?_<;>clear hR<;>intro hR e
 ·have d:=bq_ e
  refine sR_ rfl (pp1 1 4 rfl ?_)
  subst hR
  refine ie (A8 ?_)
  exact E9 hr hD
 have d:=bq_ e
 refine A6 (nx (sR_ rfl (pp1 1 4 rfl ?_)))
 subst hR
 refine ie (A8 ?_)
 exact E9 hr hD
def A0x (s:Sts):Int :=
 (bif ((!decide (s.g.a=0))&&(!decide (s.g.a=1))) then 250 else (bif ((!decide (s.g.b=0))&&(!decide (s.g.b=1))) then 250 else (bif ((!decide (s.g.c=0))&&(!decide (s.g.c=1))) then 250 else (bif ((!decide (s.g.d=0))&&(!decide (s.g.d=1))) then 250 else (bif ((!decide ((bOp .andNot .i64 s.used 1)=0))||(((!decide (s.once=0))&&(!decide (s.once=2)))&&(!decide (s.once=3)))) then 250 else 0)))))
theorem B8m {s:Sts} {R:Int} (hR:A0x s=R):G3 Tryz.prog 114 [ag (B7j s)] [] (iv R):=by
 refine zce Tryz.func114 fun X hX hr hD=>?_
 replace hR:=(A0x.eq_1 ..).symm.trans hR
 refine sR_ rfl (H9 2 0 [] (fun k=>[(1,pt k 0)]) (fun k=>[bx k (B7j s) 38]) (fun k=>(ie (A5 (sR_ rfl (zrl 3 0 [0] [(6,ag (C6k s.g)),(7,iv 0)] (ie (B4 (A0s 6 ?_)))))))))
 refine F3 (sR_ rfl (pp1 1 8 rfl ?_))
 refine ie (A5 (G8 rfl (A6 (nx (A5 (B4 (sR_ rfl (ix rfl (F4 Tryz.underlying36 ty3 rfl rfl rfl 0 rfl ozw rfl rfl rfl) (pp1 1 4 rfl (ie (sR_ rfl (pp1 3 12 rfl ?_))))))))))))
 refine zia 3 0 12 15 (!decide (s.g.a=1)) (fun p=>?_) ?_
 ·have a2:=bq_ p
  refine pp1 3 15 rfl ?_
  exact A3 (P7 2 12 15 p fn0 sb_ rfl rfl rfl rfl rfl)
 refine ie ?_
 refine zjb rfl hR ?_ ?_<;>clear hR<;>intro hR z
 ·have m:=bq_ z
  refine sR_ rfl (pp1 1 2 rfl ?_)
  subst hR
  refine ie (A8 ?_)
  exact E9 hr hD
 have m:=bq_ z
 refine A6 (nx (A1 2 rfl (ix rfl (C0 (c:=1) rfl rfl rfl rfl ozw) (pp1 1 7 rfl (A3 (F3 (sR_ rfl (pp1 1 8 rfl (ie (A5 (G8 rfl (A6 (nx (A5 (B4 (sR_ rfl (ix rfl (F4 Tryz.underlying36 ty3 rfl rfl rfl 1 rfl ozw rfl rfl rfl) (pp1 1 4 rfl (ie (sR_ rfl (pp1 3 12 rfl ?_)))))))))))))))))))))
 refine zia 3 0 12 15 (!decide (s.g.b=1)) (fun x=>?_) ?_
 ·have a4:=bq_ x
  refine pp1 3 15 rfl ?_
  exact A3 (P7 2 12 15 x fn0 sb_ rfl rfl rfl rfl rfl)
 refine ie ?_
 refine zjb rfl hR ?_ ?_<;>clear hR<;>intro hR y
 ·have l:=bq_ y
  refine sR_ rfl (pp1 1 2 rfl ?_)
  subst hR
  refine ie (A8 ?_)
  exact E9 hr hD
 have l:=bq_ y
 refine A6 (nx (A1 2 rfl (ix rfl (C0 (c:=2) rfl rfl rfl rfl ozw) (pp1 1 7 rfl (A3 (F3 (sR_ rfl (pp1 1 8 rfl (ie (A5 (G8 rfl (A6 (nx (A5 (B4 (sR_ rfl (ix rfl (F4 Tryz.underlying36 ty3 rfl rfl rfl 2 rfl ozw rfl rfl rfl) (pp1 1 4 rfl (ie (sR_ rfl (pp1 3 12 rfl ?_)))))))))))))))))))))
 refine zia 3 0 12 15 (!decide (s.g.c=1)) (fun q=>?_) ?_
 ·have a1:=bq_ q
  refine pp1 3 15 rfl ?_
  exact A3 (P7 2 12 15 q fn0 sb_ rfl rfl rfl rfl rfl)
 refine ie ?_
 refine zjb rfl hR ?_ ?_<;>clear hR<;>intro hR u
 ·have o:=bq_ u
  refine sR_ rfl (pp1 1 2 rfl ?_)
  subst hR
  refine ie (A8 ?_)
  exact E9 hr hD
 have o:=bq_ u
 refine A6 (nx (A1 2 rfl (ix rfl (C0 (c:=3) rfl rfl rfl rfl ozw) (pp1 1 7 rfl (A3 (F3 (sR_ rfl (pp1 1 8 rfl (ie (A5 (G8 rfl (A6 (nx (A5 (B4 (sR_ rfl (ix rfl (F4 Tryz.underlying36 ty3 rfl rfl rfl 3 rfl ozw rfl rfl rfl) (pp1 1 4 rfl (ie (sR_ rfl (pp1 3 12 rfl ?_)))))))))))))))))))))
 refine zia 3 0 12 15 (!decide (s.g.d=1)) (fun g8=>?_) ?_
 ·have a3:=bq_ g8
  refine pp1 3 15 rfl ?_
  exact A3 (P7 2 12 15 g8 fn0 sb_ rfl rfl rfl rfl rfl)
 refine ie ?_
 refine zjb rfl hR ?_ ?_<;>clear hR<;>intro hR r
 ·have n:=bq_ r
  refine sR_ rfl (pp1 1 2 rfl ?_)
  subst hR
  refine ie (A8 ?_)
  exact E9 hr hD
 have n:=bq_ r
 refine A6 (nx (A1 2 rfl (ix rfl (C0 (c:=4) rfl rfl rfl rfl ozw) (pp1 1 7 rfl (A3 (F3 (sR_ rfl (pp1 1 8 rfl (ie (A5 (A0f rfl (H3 (nx (A5 (sR_ rfl (pl1 5 [0] 21 rfl ?_))))))))))))))))
 refine zio 14 0 21 35 (((!decide (s.once=0))&&(!decide (s.once=2)))&&(!decide (s.once=3))) (fun f=>?_) ?_
 ·have w:=bq_ f
  refine pl1 4 [0] 25 rfl ?_
  refine zia 4 6 25 29 (!decide (s.once=2)) (fun i=>?_) ?_
  ·have t:=bq_ i
   refine pl1 4 [0] 29 rfl ?_
   exact A3 (P7 2 25 29 i fn0 sb_ rfl rfl rfl rfl rfl)
  refine pp1 1 30 rfl ?_
  refine zia 4 1 30 34 (!decide (s.once=3)) (fun j=>?_) ?_
  ·have v:=bq_ j
   refine pl1 4 [0] 34 rfl ?_
   exact A3 (P7 2 30 34 j fn0 sb_ rfl rfl rfl rfl rfl)
  refine pp1 1 35 rfl ?_
  exact A3 (P7 6 21 35 f fn0 sb_ rfl rfl rfl rfl rfl)
 refine ie ?_
 refine zjb rfl hR ?_ ?_<;>clear hR<;>intro hR e
 ·have h:=bq_ e
  refine sR_ rfl (pp1 1 2 rfl ?_)
  subst hR
  refine ie (A8 ?_)
  exact E9 hr hD
 have h:=bq_ e
 refine A6 (nx (sR_ rfl (pp1 1 2 rfl ?_)))
 subst hR
 refine ie (A8 ?_)
 exact E9 hr hD
def M9 (fR:Int) (fC:Int) (fTop:Int) (fBottom:Int) (fOrigin:Bool) (s:Sav):Int :=
 (bif (!decide ((V2 fR fC fTop fBottom fOrigin)=0)) then (V2 fR fC fTop fBottom fOrigin) else (bif ((s.is_&&(!(((decide ((C2 fR fC fTop fBottom fOrigin s.cursor)=0))&&(decide ((N4 s.style)=0)))&&(decide ((A0x s.sets)=0)))))||((!s.is_)&&(!(decide (s=Sav.zero))))) then 272 else 0))
theorem A8h {fR fC fTop fBottom:Int} {fOrigin:Bool} {s:Sav} {R:Int} (hR:M9 fR fC fTop fBottom fOrigin s=R):G3 Tryz.prog 111 [ag [iv fR,iv fC,iv fTop,iv fBottom,bv fOrigin],ag (B1u s)] [] (iv R):=by
 refine zce Tryz.func111 fun X hX hr hD=>?_
 replace hR:=(M9.eq_1 ..).symm.trans hR
 refine sR_ rfl (A8j 3 0 [] (fun c d=>[(2,pt c 0),(3,pt d 0)]) (fun c d=>[bx d (B1u s) 43,bx c [iv fR,iv fC,iv fTop,iv fBottom,bv fOrigin] 134]) (fun c d=>(ie (A5 (sR_ rfl (zrl 1 2 [1] [(7,ag [iv fR,iv fC,iv fTop,iv fBottom,bv fOrigin])] (zv rfl (B0a rfl) (pp1 1 5 rfl (ie (sR_ rfl (pp1 2 10 rfl (ie ?_))))))))))))
 refine zjn rfl hR ?_ ?_<;>clear hR<;>intro hR p j
 ·refine sR_ rfl (pp1 2 4 rfl ?_)
  subst hR
  refine ie (A8 ?_)
  exact E9 hr hD
 refine A6 (nx (sR_ rfl (zrl 3 15 [1,0] [(12,ag [iv fR,iv fC,iv fTop,iv fBottom,bv fOrigin]),(14,ag (B8 s.cursor))] (zv rfl (M7 rfl) (pp1 2 17 rfl ?_)))))
 refine zid 5 7 17 22 (decide ((N4 s.style)=0)) (fun n l=>?_) ?_
 ·refine zrl 2 3 [0] [(19,ag (A0c s.style))] (zv rfl (A4e rfl) (pp1 2 22 rfl ?_))
  exact A3 (P7 4 17 22 n fn0 sb_ rfl rfl rfl rfl rfl)
 refine pp1 1 23 rfl ?_
 refine zia 5 1 23 28 (decide ((A0x s.sets)=0)) (fun h=>?_) ?_
 ·have m:=bq_ h
  refine zrl 2 3 [0] [(25,ag (B7j s.sets))] (zv rfl (B8m rfl) (pp1 2 28 rfl ?_))
  exact A3 (P7 4 23 28 h fn0 sb_ rfl rfl rfl rfl rfl)
 refine pp1 1 6 rfl (ie (A5 (sR_ rfl (pl1 3 [0] 31 rfl ?_))))
 refine zia 3 10 31 34 (!(((decide ((C2 fR fC fTop fBottom fOrigin s.cursor)=0))&&(decide ((N4 s.style)=0)))&&(decide ((A0x s.sets)=0)))) (fun i=>?_) ?_
 ·refine pp1 3 34 rfl ?_
  exact A3 (P7 2 31 34 i fn0 sb_ rfl rfl rfl rfl rfl)
 refine pp1 1 35 rfl ?_
 refine zio 9 0 35 44 ((!s.is_)&&(!(decide (s=Sav.zero)))) (fun f=>?_) ?_
 ·have k:=bq_ f
  refine pl1 4 [0] 39 rfl ?_
  refine zia 4 1 39 43 (!(decide (s=Sav.zero))) (fun o=>?_) ?_
  ·refine zrl 2 2 [0] [(40,ag (B1u s)),(41,ag (B1u Sav.zero))] (ix rfl (A0t (a:=s) (b:=Sav.zero) E3i rfl rfl rfl) (pp1 1 43 rfl ?_))
   exact A3 (P7 5 39 43 o fn0 sb_ rfl rfl rfl rfl rfl)
  refine pp1 1 44 rfl ?_
  exact A3 (P7 4 35 44 f fn0 sb_ rfl rfl rfl rfl rfl)
 refine ie ?_
 refine zjb rfl hR ?_ ?_<;>clear hR<;>intro hR g
 ·have e:=bq_ g
  refine sR_ rfl (pp1 1 4 rfl ?_)
  subst hR
  refine ie (A8 ?_)
  exact E9 hr hD
 have e:=bq_ g
 refine A6 (nx (sR_ rfl (pp1 1 4 rfl ?_)))
 subst hR
 refine ie (A8 ?_)
 exact E9 hr hD
def A9c (g:List (Rwc Cel)):Int :=
 ((g.getD 0 zwc).l.length:Int)
theorem D0i {g:List (Rwc Cel)} {e:Option Addr} {b:List Rwq} {gk:Nat} {R:Int} (hR:A9c g=R) (a:F8 b g:=by exact om_) (i:g.length≤9223372036854775807:=by exact om_) (h:g.length≤gk:=by exact om_) (f:0<g.length:=by exact om_):G3 Tryz.prog 241 [.slice e g.length gk] [sl K1 e b,G5 G4 b g] (iv R):=by
 refine zce Tryz.func241 fun X hX hr hD=>?_
 replace hR:=(A9c.eq_1 ..).symm.trans hR
 have:=a.1
 refine sR_ rfl (pp0 1 rfl (ie (sR_ rfl (ip' 1 5 [(3,.slice e g.length gk)] (P3 0 rfl (by have:=a.1;omega) fun j d=>(D7 (D5e (k:=0) a 1 rfl (by have:=a.1;omega)) ?_))))))
 have:=C7l a (k:=0) (by have:=a.1;omega)
 refine ix rfl (K2 C7k rfl rfl d rfl 0 rfl opx) (ip' 1 3 [(5,pa (Addr.add j (0 * 2)))] (ix rfl (I2 (D6 (v:=.slice ((b.getD 0 zwq).s.q) ((b.getD 0 zwq).s.n) ((b.getD 0 zwq).s.k)) (us:=[.slice ((b.getD 0 zwq).s.q) ((b.getD 0 zwq).s.n) ((b.getD 0 zwq).s.k)]) E0l rfl rfl (S3 (N0 (c:=K1) (sz:=2) d (fun _=>rfl) 1 rfl (gd zwq (by have:=a.1;omega))) (ws:=[.slice ((b.getD 0 zwq).s.q) ((b.getD 0 zwq).s.n) ((b.getD 0 zwq).s.k)]) 1 rfl) rfl) (E3f a (by have:=a.1;omega))) (pp1 2 2 rfl ?_)))
 subst hR
 refine ie (A8 ?_)
 exact E9 hr hD
def Y5 (g:List (Rwc Cel)):List (Rwc Cel)→Nat→Int
 | [],t15=>0
 | hd_l0::tl_l0,t15=>(bif ((!decide ((A4t (hd_l0.l) (hd_l0.b))=0))||(!decide ((hd_l0.l.length:Int)=(A9c g)))) then 230 else Y5 g tl_l0 (t15+1))
def A4r (g:List (Rwc Cel)):Int :=
 (bif ((decide ((g.length:Int)<1))||(decide ((40:Int)<(g.length:Int)))) then 230 else Y5 g g 0)
theorem C3r {g:List (Rwc Cel)} (h:A4r g=0):0<g.length:=by
 unfold A4r at h
 cases hb:((decide ((g.length:Int)<1))||(decide ((40:Int)<(g.length:Int)))) with
 | true=>rw [hb] at h;cases h
 | false=>simp only [Bool.or_eq_false_iff,decide_eq_false_iff_not] at hb;omega
theorem C8y {g:List (Rwc Cel)} {i:Option Addr} {e:List Rwq} {gk:Nat} {R:Int} (hR:A4r g=R) (a:F8 e g:=by exact om_) (x:g.length≤9223372036854775807:=by exact om_) (u:g.length≤gk:=by exact om_):G3 Tryz.prog 171 [.slice i g.length gk] [sl K1 i e,G5 G4 e g,A4n,A4q] (iv R):=by
 refine zce Tryz.func171 fun X hX hr hD=>?_
 replace hR:=(A4r.eq_1 ..).symm.trans hR
 have:=a.1
 refine sR_ rfl (pp0 1 rfl (ie (A5 (sR_ rfl (pp1 4 8 rfl ?_)))))
 refine zir 4 0 8 12 (decide ((40:Int)<(g.length:Int))) (fun z w=>?_) ?_
 ·refine pp1 4 12 rfl ?_
  exact zai 2 8 12 z
 refine ie ?_
 refine zjo rfl hR ?_ ?_<;>clear hR<;>intro hR h2 t
 ·refine sR_ rfl (pp1 1 2 rfl ?_)
  subst hR
  refine ie (A8 ?_)
  exact E9 hr hD
 refine A6 (nx (A5 (sR_ rfl (pp3 3 13 14 15 rfl (ie (B4 (A5o (fun (d:Nat)=>(d≤g.length∧Y5 g (g.drop d) d=R,[(0,.slice i g.length gk),(13,.slice i g.length gk),(14,iv (g.length:Int)),(15,iv (d:Int))],[],[sl K1 i e,G5 G4 e g,A4n,A4q],g.length - d)) 0 ⟨opx,hR⟩ sb_ B0.refl ?_)))))))
 rintro d ⟨y,hR⟩
 refine sR_ rfl (pp1 1 16 rfl ?_)
 refine ie (A5 (W8 rfl (fun o=>?_) (fun o=>?_)))
 ·have h:=bq_ o
  rw [A0r zwc (show d<g.length by omega)] at hR;replace hR:=(Y5.eq_2 ..).symm.trans hR
  refine A6 (nx (A5 (B4 (sR_ rfl (P3 0 rfl (by have:=a.1;omega) fun a5 f=>(D7 (D5e (k:=d) a 1 rfl (by have:=a.1;omega)) ?_))))))
  have:=C7l a (k:=d) (by have:=a.1;omega)
  refine ix rfl (K2 C7k rfl rfl f rfl d rfl opx) (ix rfl (I2 (L8 (us:=[.slice ((e.getD d zwq).s.q) ((e.getD d zwq).s.n) ((e.getD d zwq).s.k),bv ((e.getD d zwq).b)]) C6i rfl rfl (N0 (c:=K1) (sz:=2) f (fun _=>rfl) 1 rfl (gd zwq (by have:=a.1;omega))) rfl) (D6w a (by have:=a.1;omega))) ?_)
  refine H9 2 0 [0] (fun j=>[(4,pt j 0)]) (fun j=>[bx j [.slice ((e.getD d zwq).s.q) ((g.getD d zwc).l.length) ((e.getD d zwq).s.k),bv ((g.getD d zwc).b)] 116]) (fun j=>?_)
  refine ie (sd 11 rfl okl rfl ?_)
  refine zdg 1 10 [0] [(19,ag [.slice ((e.getD d zwq).s.q) ((g.getD d zwc).l.length) ((e.getD d zwq).s.k),bv ((g.getD d zwc).b)])] ?_
  refine zvd rfl (D0k rfl) (pd1 2 22 rfl ?_)
  refine zdO 7 0 22 29 (!decide (((g.getD d zwc).l.length:Int)=(A9c g))) (fun r=>?_) ?_
  ·have v:=bq_ r
   refine pg2 4 [0] 25 26 rfl (zvd rfl (D0i rfl a) (pd1 2 29 rfl ?_))
   exact zad 5 22 29 r
  refine de ?_
  refine zjb rfl hR ?_ ?_<;>clear hR<;>intro hR p
  ·have m:=bq_ p
   refine sR_ rfl (pp1 1 2 rfl ?_)
   subst hR
   refine ie (A8 ?_)
   exact E9 hr hD
  have m:=bq_ p
  refine A6 (nx (A1 2 rfl (ix rfl (C0 rfl rfl rfl rfl opx) (pp1 1 15 rfl (A3 ?_)))))
  exact A1r (z1:=d) (d+1) ⟨opx,hR⟩ olr sb_ fo_
 have h:=bq_ o
 rw [A1i h] at hR;replace hR:=(Y5.eq_1 ..).symm.trans hR
 refine H3 (nx (sR_ rfl (pp1 1 2 rfl ?_)))
 subst hR
 refine ie (A8 ?_)
 exact E9 hr hD
def C0v:List Int :=
 ([9,1000,1002,1003]:List Int)
theorem D1v {R:List Int} (hR:C0v=R):Con Tryz.prog 174 [] [] [] ({t:Option Addr×Nat // R.length≤t.2∧R.length≤9223372036854775807}) (fun x=>.slice x.1.1 R.length x.1.2) (fun x=>[]) (fun x=>[sl H8 x.1.1 R]):=by
 refine zce Tryz.func174 fun X hX hr hD=>?_
 replace hR:=(C0v.eq_1 ..).symm.trans hR
 refine sR_ rfl (pp0 1 rfl (ie (sR_ rfl (it rfl (C3 (c:=H8) (xs:=([9,1000,1002,1003]:List Int)) K5 rfl rfl rfl okl) fun a=>?_))))
 have:([9,1000,1002,1003]:List Int).length=4:=rfl
 refine pp1 1 0 rfl ?_
 subst hR
 refine ie (A8 ?_)
 exact zer hr hD (O3 rfl (B9 rfl)) (zq (some ⟨a,0,none⟩) 4) sb_ fo_
def U5 (v:Int):List Int→Nat→Int
 | [],a=>(-1)
 | hd_l0::tl_l0,a=>(bif (decide (v=hd_l0)) then (a:Int) else U5 v tl_l0 (a+1))
def A3g (s:List Int) (v:Int):Int :=
 U5 v s 0
theorem B3j {s:List Int} {v:Int} {e:Option Addr} {sk:Nat} {R:Int} (hR:A3g s v=R) (h:s.length≤9223372036854775807:=by exact om_) (j:s.length≤sk:=by exact om_):G3 Tryz.prog 243 [.slice e s.length sk,iv v] [sl H8 e s] (iv R):=by
 refine zce Tryz.func243 fun X hX hr hD=>?_
 replace hR:=(A3g.eq_1 ..).symm.trans hR
 refine sR_ rfl (pp0 1 rfl (ie (A5 (sR_ rfl (pp2 3 7 8 rfl (ie (B4 (A5o (fun (a:Nat)=>(a≤s.length∧U5 v (s.drop a) a=R,[(0,.slice e s.length sk),(1,iv v),(7,iv (s.length:Int)),(8,iv (a:Int))],[],[sl H8 e s],s.length - a)) 0 ⟨opx,hR⟩ sb_ B0.refl ?_))))))))
 rintro a ⟨i,hR⟩
 refine sR_ rfl (pp1 1 9 rfl ?_)
 refine ie (A5 (W8 rfl (fun f=>?_) (fun f=>?_)))
 ·have b:=bq_ f
  rw [A0r 0 (show a<s.length by omega)] at hR;replace hR:=(U5.eq_2 ..).symm.trans hR
  refine A6 (nx (A5 (B4 (sR_ rfl (pp1 2 5 rfl (ie (sR_ rfl (pp3 3 11 12 13 rfl (P3 0 rfl opx fun k d=>(ix rfl (K2 K5 rfl rfl d rfl a rfl opx) (ix rfl (D6 ty3 rfl rfl (N0 (c:=H8) (sz:=1) d (fun _=>rfl) 0 rfl (gd 0 opx)) rfl) (pp1 1 16 rfl (ie ?_)))))))))))))
  refine zjd rfl hR ?_ ?_<;>clear hR<;>intro hR l g
  ·refine sR_ rfl (pp1 2 4 rfl ?_)
   subst hR
   refine ie (A8 ?_)
   exact E9 hr hD
  refine A6 (nx (A1 2 rfl (ix rfl (C0 rfl rfl rfl rfl opx) (pp1 1 8 rfl (A3 ?_)))))
  exact A1r (z1:=a) (a+1) ⟨opx,hR⟩ olr sb_ B0.refl
 have b:=bq_ f
 rw [A1i b] at hR;replace hR:=(U5.eq_1 ..).symm.trans hR
 refine H3 (nx (sR_ rfl (pp1 1 4 rfl ?_)))
 subst hR
 refine ie (A8 ?_)
 exact E9 hr hD
def X2 (s:List Int) (v:Int):Bool :=
 (decide ((0:Int)≤(A3g s v)))
theorem B0k {s:List Int} {v:Int} {a:Option Addr} {sk:Nat} {R:Bool} (hR:X2 s v=R) (c:s.length≤9223372036854775807:=by exact om_) (b:s.length≤sk:=by exact om_):G3 Tryz.prog 173 [.slice a s.length sk,iv v] [sl H8 a s] (bv R):=by
 refine zce Tryz.func173 fun X hX hr hD=>?_
 replace hR:=(X2.eq_1 ..).symm.trans hR
 refine sR_ rfl (pp0 1 rfl (ie (sR_ rfl (pp2 2 5 6 rfl (zv rfl (B3j rfl) (pp1 2 4 rfl ?_))))))
 subst hR
 refine ie (A8 ?_)
 exact E9 hr hD
def A6k (m:Mod):Int :=
 (bif (!decide (m.mouse=0)) then (C9 C0v fun (a:List Int)=>(bif (!(X2 a m.mouse)) then 260 else 0)) else 0)
theorem C9k {m:Mod} {R:Int} (hR:A6k m=R):G3 Tryz.prog 115 [ag (A8z m)] [] (iv R):=by
 refine zce Tryz.func115 fun X hX hr hD=>?_
 replace hR:=(A6k.eq_1 ..).symm.trans hR
 refine sR_ rfl (H9 2 0 [] (fun a=>[(1,pt a 0)]) (fun a=>[bx a (A8z m) 40]) (fun a=>(ie (A5 (sh 10 [(10,[bx a (A8z m) 40])] [] [bx a (A8z m) 40] (zml 10 0) okl rfl okl okl okl sb_ B0.refl ?_)))))
 refine zhp [0] 9 (zml 10 1) [(3,pt a 11)] ?_
 refine zhl 1 [bx a (A8z m) 40] (zml 10 3) rfl (A7 (v:=iv m.mouse) ty3 rfl rfl 0 rfl rfl) ?_
 refine zhp [2,3] 6 (zml 10 15) [(6,bv (!decide (m.mouse=0)))] ?_
 refine D6i 6 _ rfl (fun c=>?_) (fun c=>?_)
 ·have d:=bq_ c
  replace hR:=bt hR c
  refine zhp [5] 5 (zml 10 47) [(8,pt a 11)] ?_
  refine zhl 6 [bx a (A8z m) 40] (zml 10 111) rfl (A7 (v:=iv m.mouse) ty3 rfl rfl 0 rfl rfl) ?_
  have k:=D0 hR;clear hR;obtain ⟨j,f,hR⟩:=k
  refine zho 4 [bx a (A8z m) 40] (zml 10 127) rfl (C8 (L2:=[bx a (A8z m) 40]) (D1v f) rfl rfl rfl rfl rfl fn0 (List.Perm.refl _) (fun ⟨⟨e,g⟩,b⟩=>[bx a (A8z m) 40]) (fun _=>rfl)) (fun ⟨⟨e,g⟩,b⟩=>sb_) (fun ⟨⟨e,g⟩,b⟩=>fn0) fun ⟨⟨e,g⟩,b⟩=>?_
  obtain ⟨h,i⟩:=b
  refine zho 7 [bx a (A8z m) 40] (zml 10 255) rfl (Det.tri (N3 (B0k rfl) rfl rfl rfl rfl rfl B0.refl)) (fun _=>sb_) (fun _=>fn0) fun _=>?_
  refine zhp [8,9] 0 (zml 10 1023) [(12,bv (!(X2 j m.mouse)))] ?_
  refine A3w okl ?_
  refine zjb rfl hR ?_ ?_<;>clear hR<;>intro hR l
  ·refine sR_ rfl (pp1 1 2 rfl ?_)
   subst hR
   refine ie (A8 ?_)
   exact E9 hr hD
  refine A6 (nx (sR_ rfl (pp1 1 2 rfl ?_)))
  subst hR
  refine ie (A8 ?_)
  exact E9 hr hD
 ·have d:=bq_ c
  replace hR:=bf hR c
  refine zhp [4,5,6,7,8,9] 0 (zml 10 1023) [(12,bv false)] ?_
  refine A3w okl ?_
  refine A0f rfl (A6 (nx (sR_ rfl (pp1 1 2 rfl ?_))))
  subst hR
  refine ie (A8 ?_)
  exact E9 hr hD
end Go.Proofs.YtioaekgoceinkaaGreatDoor
set_option linter.unusedVariables false
set_option linter.unusedSimpArgs false
set_option linter.unnecessarySimpa false
set_option maxRecDepth 100000
namespace Go.Proofs.YtioaekgoceinkaaGreatDoor
open Go Go.Fen
theorem E3t:EqT Tryz.prog 88 C6x:=EqT.of 20 rfl okl okl (fun _ _=>by kernel_rfl) C6x.inj
theorem E4n:Ty Tryz.prog 88 76 true:=⟨by kernel_rfl⟩
def M5 (a:List Bool):List Bool→Nat→Bool
 | [],t13=>true
 | hd_l0::tl_l0,t13=>(bif (!(hd_l0 == (a.getD t13 false))) then false else M5 a tl_l0 (t13+1))
def Y1 (b:List Bool) (a:List Bool):Bool :=
 (bif (!decide ((b.length:Int)=(a.length:Int))) then false else M5 a b 0)
theorem B1n {b f:List Bool} {e:Option Addr} {s1k:Nat} {d:Option Addr} {s2k:Nat} {R:Bool} (hR:Y1 b f=R) (n:b.length≤9223372036854775807:=by exact om_) (l:b.length≤s1k:=by exact om_) (m:f.length≤9223372036854775807:=by exact om_) (k:f.length≤s2k:=by exact om_):G3 Tryz.prog 78 [.slice e b.length s1k,.slice d f.length s2k] [sl N8 e b,sl N8 d f] (bv R):=by
 refine zce Tryz.func78 fun X hX hr hD=>?_
 replace hR:=(Y1.eq_1 ..).symm.trans hR
 refine sR_ rfl (pp0 1 rfl (ie (A5 (sR_ rfl (pp1 5 10 rfl (ie ?_))))))
 refine zjn rfl hR ?_ ?_<;>clear hR<;>intro hR r o
 ·refine sR_ rfl (pp1 1 4 rfl ?_)
  subst hR
  refine ie (A8 ?_)
  exact E9 hr hD
 refine A6 (nx (A5 (sR_ rfl (pp2 3 12 13 rfl (ie (B4 (A5o (fun (a:Nat)=>(a≤b.length∧M5 f (b.drop a) a=R,[(0,.slice e b.length s1k),(1,.slice d f.length s2k),(12,iv (b.length:Int)),(13,iv (a:Int))],[],[sl N8 e b,sl N8 d f],b.length - a)) 0 ⟨opx,hR⟩ sb_ B0.refl ?_)))))))
 rintro a ⟨p,hR⟩
 refine sR_ rfl (pp1 1 14 rfl ?_)
 refine ie (A5 (W8 rfl (fun j=>?_) (fun j=>?_)))
 ·have h:=bq_ j
  rw [A0r false (show a<b.length by omega)] at hR;replace hR:=(M5.eq_2 ..).symm.trans hR
  refine A6 (nx (A5 (B4 (sR_ rfl (pp1 2 5 rfl (ie (sd 9 rfl okl rfl (pd2 2 16 17 rfl ?_))))))))
  refine B3c 0 rfl opx fun q g=>?_
  refine dd rfl (K2 D7v rfl rfl g rfl a rfl opx) (dd rfl (D6 ty4 rfl rfl (N0 (c:=N8) (sz:=1) g (fun _=>rfl) 0 rfl (gd false opx)) rfl) (pd2 2 20 21 rfl ?_))
  refine B3c 1 rfl opx fun t i=>?_
  refine dd rfl (K2 D7v rfl rfl i rfl a rfl opx) (dd rfl (D6 ty4 rfl rfl (N0 (c:=N8) (sz:=1) i (fun _=>rfl) 1 rfl (gd false opx)) rfl) (dd rfl (D4o Tryz.underlying4 rfl rfl rfl) (de ?_)))
  refine zjb rfl hR ?_ ?_<;>clear hR<;>intro hR s
  ·refine sR_ rfl (pp1 1 4 rfl ?_)
   subst hR
   refine ie (A8 ?_)
   exact E9 hr hD
  refine A6 (nx (A1 2 rfl (ix rfl (C0 rfl rfl rfl rfl opx) (pp1 1 13 rfl (A3 ?_)))))
  exact A1r (z1:=a) (a+1) ⟨opx,hR⟩ olr sb_ B0.refl
 have h:=bq_ j
 rw [A1i h] at hR;replace hR:=(M5.eq_1 ..).symm.trans hR
 refine H3 (nx (sR_ rfl (pp1 1 4 rfl ?_)))
 subst hR
 refine ie (A8 ?_)
 exact E9 hr hD
def B1w (a:List Bool) (b:List Bool):Bool :=
 (Y1 a b)
theorem D0q {a b:List Bool} {aq:Option Addr} {ak:Nat} {bq:Option Addr} {bk:Nat} {R:Bool} (hR:B1w a b=R) (e:a.length≤9223372036854775807:=by exact om_) (f:a.length≤ak:=by exact om_) (d:b.length≤9223372036854775807:=by exact om_) (c:b.length≤bk:=by exact om_):G3 Tryz.prog 23 [.slice aq a.length ak,.slice bq b.length bk] [sl N8 aq a,sl N8 bq b] (bv R):=by
 refine zce Tryz.func23 fun X hX hr hD=>?_
 replace hR:=(B1w.eq_1 ..).symm.trans hR
 refine sR_ rfl (pp0 1 rfl (ie (sR_ rfl (pp2 2 5 6 rfl (zv rfl (B1n rfl) (pp1 1 4 rfl ?_))))))
 subst hR
 refine ie (A8 ?_)
 exact E9 hr hD
def H6 (a:List Cel):List Cel→Nat→Bool
 | [],t13=>true
 | hd_l0::tl_l0,t13=>(bif (!(decide (hd_l0=(a.getD t13 Cel.zero)))) then false else H6 a tl_l0 (t13+1))
def O0 (b:List Cel) (a:List Cel):Bool :=
 (bif (!decide ((b.length:Int)=(a.length:Int))) then false else H6 a b 0)
theorem A5x {e f:List Cel} {h:Option Addr} {s1k:Nat} {g:Option Addr} {s2k:Nat} {R:Bool} (hR:O0 e f=R) (p:e.length≤9223372036854775807:=by exact om_) (n:e.length≤s1k:=by exact om_) (o:f.length≤9223372036854775807:=by exact om_) (m:f.length≤s2k:=by exact om_):G3 Tryz.prog 158 [.slice h e.length s1k,.slice g f.length s2k] [sl G4 h e,sl G4 g f] (bv R):=by
 refine zce Tryz.func158 fun X hX hr hD=>?_
 replace hR:=(O0.eq_1 ..).symm.trans hR
 refine sR_ rfl (pp0 1 rfl (ie (A5 (sR_ rfl (pp1 5 10 rfl (ie ?_))))))
 refine zjn rfl hR ?_ ?_<;>clear hR<;>intro hR u q
 ·refine sR_ rfl (pp1 1 4 rfl ?_)
  subst hR
  refine ie (A8 ?_)
  exact E9 hr hD
 refine A6 (nx (A5 (sR_ rfl (pp2 3 12 13 rfl (ie (B4 (A5o (fun (d:Nat)=>(d≤e.length∧H6 f (e.drop d) d=R,[(0,.slice h e.length s1k),(1,.slice g f.length s2k),(12,iv (e.length:Int)),(13,iv (d:Int))],[],[sl G4 h e,sl G4 g f],e.length - d)) 0 ⟨opx,hR⟩ sb_ B0.refl ?_)))))))
 rintro d ⟨r,hR⟩
 refine sR_ rfl (pp1 1 14 rfl ?_)
 refine ie (A5 (W8 rfl (fun l=>?_) (fun l=>?_)))
 ·have j:=bq_ l
  rw [A0r Cel.zero (show d<e.length by omega)] at hR;replace hR:=(H6.eq_2 ..).symm.trans hR
  refine A6 (nx (A5 (B4 (sR_ rfl (pp1 2 5 rfl (ie (sd 9 rfl okl rfl (pd2 2 16 17 rfl ?_))))))))
  refine B3c 0 rfl opx fun t i=>?_
  refine dd rfl (K2 B4k rfl rfl i rfl d rfl opx) (dd rfl (L8 (us:=G4 (e.getD d Cel.zero)) D3v rfl rfl (N0 (c:=G4) (sz:=12) i (fun _=>rfl) 0 rfl (gd Cel.zero opx)) rfl) (pd2 2 20 21 rfl ?_))
  refine B3c 1 rfl opx fun w k=>?_
  refine dd rfl (K2 B4k rfl rfl k rfl d rfl opx) (dd rfl (L8 (us:=G4 (f.getD d Cel.zero)) D3v rfl rfl (N0 (c:=G4) (sz:=12) k (fun _=>rfl) 1 rfl (gd Cel.zero opx)) rfl) (dd rfl (A0t (a:=(e.getD d Cel.zero)) (b:=(f.getD d Cel.zero)) D7g rfl rfl rfl) (de ?_)))
  refine zjn rfl hR ?_ ?_<;>clear hR<;>intro hR v s
  ·refine sR_ rfl (pp1 1 4 rfl ?_)
   subst hR
   refine ie (A8 ?_)
   exact E9 hr hD
  refine A6 (nx (A1 2 rfl (ix rfl (C0 rfl rfl rfl rfl opx) (pp1 1 13 rfl (A3 ?_)))))
  exact A1r (z1:=d) (d+1) ⟨opx,hR⟩ olr sb_ B0.refl
 have j:=bq_ l
 rw [A1i j] at hR;replace hR:=(H6.eq_1 ..).symm.trans hR
 refine H3 (nx (sR_ rfl (pp1 1 4 rfl ?_)))
 subst hR
 refine ie (A8 ?_)
 exact E9 hr hD
def B9y (d:List Cel) (b:Bool) (c:List Cel) (a:Bool):Bool :=
 ((b == a)&&(O0 d c))
theorem D2y {b:List Cel} {c:Bool} {a:List Cel} {d:Bool} {f:Option Addr} {aCellsk:Nat} {e:Option Addr} {bCellsk:Nat} {R:Bool} (hR:B9y b c a d=R) (h:b.length≤9223372036854775807:=by exact om_) (i:b.length≤aCellsk:=by exact om_) (g:a.length≤9223372036854775807:=by exact om_) (j:a.length≤bCellsk:=by exact om_):G3 Tryz.prog 80 [ag [.slice f b.length aCellsk,bv c],ag [.slice e a.length bCellsk,bv d]] [sl G4 f b,sl G4 e a] (bv R):=by
 refine zce Tryz.func80 fun X hX hr hD=>?_
 replace hR:=(B9y.eq_1 ..).symm.trans hR
 refine sR_ rfl (A8j 3 0 [] (fun k l=>[(2,pt k 0),(3,pt l 0)]) (fun k l=>[bx l [.slice e a.length bCellsk,bv d] 116,bx k [.slice f b.length aCellsk,bv c] 116]) (fun k l=>(ie (sR_ rfl (pl2 4 [1,0] 6 8 rfl (ix rfl (D9q Tryz.underlying4 rfl rfl rfl) (pp1 1 10 rfl ?_)))))))
 refine zia 6 1 10 16 (O0 b a) (fun m=>?_) ?_
 ·refine pl2 4 [1,0] 12 14 rfl (zv rfl (A5x rfl) (pp1 1 16 rfl ?_))
  exact zai 5 10 16 m
 refine pp1 1 4 rfl ?_
 subst hR
 refine ie (A8 ?_)
 exact E9 hr hD
def F0 (a:List (Rwc Cel)):List (Rwc Cel)→Nat→Bool
 | [],t17=>true
 | hd_l0::tl_l0,t17=>(bif (!(B9y (hd_l0.l) (hd_l0.b) ((a.getD t17 zwc).l) ((a.getD t17 zwc).b))) then false else F0 a tl_l0 (t17+1))
def I4 (b:List (Rwc Cel)) (a:List (Rwc Cel)):Bool :=
 (bif (!decide ((b.length:Int)=(a.length:Int))) then false else F0 a b 0)
theorem A0a {s1 s2:List (Rwc Cel)} {i:Option Addr} {f:List Rwq} {s1k:Nat} {h:Option Addr} {g:List Rwq} {s2k:Nat} {R:Bool} (hR:I4 s1 s2=R) (e:F8 f s1:=by exact om_) (x:s1.length≤9223372036854775807:=by exact om_) (v:s1.length≤s1k:=by exact om_) (d:F8 g s2:=by exact om_) (w:s2.length≤9223372036854775807:=by exact om_) (u:s2.length≤s2k:=by exact om_):G3 Tryz.prog 79 [.slice i s1.length s1k,.slice h s2.length s2k,.func (.func 80) #[] #[]] [sl K1 i f,G5 G4 f s1,sl K1 h g,G5 G4 g s2] (bv R):=by
 refine zce Tryz.func79 fun X hX hr hD=>?_
 replace hR:=(I4.eq_1 ..).symm.trans hR
 have:=e.1
 have:=d.1
 refine sR_ rfl (pp0 1 rfl (ie (A5 (sR_ rfl (pp1 5 14 rfl (ie ?_))))))
 refine zjn rfl hR ?_ ?_<;>clear hR<;>intro hR h1 y
 ·refine sR_ rfl (pp1 1 6 rfl ?_)
  subst hR
  refine ie (A8 ?_)
  exact E9 hr hD
 refine A6 (nx (A5 (sR_ rfl (pp3 3 15 16 17 rfl (ie (B4 (A5o (fun (a:Nat)=>(a≤s1.length∧F0 s2 (s1.drop a) a=R,[(1,.slice h s2.length s2k),(2,.func (.func 80) #[] #[]),(15,.slice i s1.length s1k),(16,iv (s1.length:Int)),(17,iv (a:Int))],[],[sl K1 i f,G5 G4 f s1,sl K1 h g,G5 G4 g s2],s1.length - a)) 0 ⟨opx,hR⟩ sb_ B0.refl ?_)))))))
 rintro a ⟨z,hR⟩
 refine sR_ rfl (pp1 1 18 rfl ?_)
 refine ie (A5 (W8 rfl (fun t=>?_) (fun t=>?_)))
 ·have m:=bq_ t
  rw [A0r zwc (show a<s1.length by omega)] at hR;replace hR:=(F0.eq_2 ..).symm.trans hR
  refine A6 (nx (A5 (B4 (sR_ rfl (pp1 1 19 rfl (P3 0 rfl (by have:=e.1;omega) fun a4 j=>(D7 (D5e (k:=a) e 1 rfl (by have:=e.1;omega)) ?_)))))))
  have:=C7l e (k:=a) (by have:=e.1;omega)
  refine ix rfl (K2 C7k rfl rfl j rfl a rfl opx) (ix rfl (I2 (L8 (us:=[.slice ((f.getD a zwq).s.q) ((f.getD a zwq).s.n) ((f.getD a zwq).s.k),bv ((f.getD a zwq).b)]) C6i rfl rfl (N0 (c:=K1) (sz:=2) j (fun _=>rfl) 1 rfl (gd zwq (by have:=e.1;omega))) rfl) (D6w e (by have:=e.1;omega))) ?_)
  refine H9 3 0 [0] (fun p=>[(8,pt p 0),(7,iv (a:Int))]) (fun p=>[bx p [.slice ((f.getD a zwq).s.q) ((s1.getD a zwc).l.length) ((f.getD a zwq).s.k),bv ((s1.getD a zwc).b)] 116]) (fun p=>?_)
  refine ie (sR_ rfl (pp2 2 22 23 rfl (P3 3 rfl (by have:=d.1;omega) fun a7 o=>(D7 (D5e (k:=a) d 4 rfl (by have:=d.1;omega)) ?_))))
  have:=C7l d (k:=a) (by have:=d.1;omega)
  refine ix rfl (K2 C7k rfl rfl o rfl a rfl opx) (ix rfl (I2 (L8 (us:=[.slice ((g.getD a zwq).s.q) ((g.getD a zwq).s.n) ((g.getD a zwq).s.k),bv ((g.getD a zwq).b)]) C6i rfl rfl (N0 (c:=K1) (sz:=2) o (fun _=>rfl) 4 rfl (gd zwq (by have:=d.1;omega))) rfl) (D6w d (by have:=d.1;omega))) ?_)
  refine H9 2 0 [0] (fun r=>[(9,pt r 0)]) (fun r=>[bx r [.slice ((g.getD a zwq).s.q) ((s2.getD a zwc).l.length) ((g.getD a zwq).s.k),bv ((s2.getD a zwc).b)] 116,bx p [.slice ((f.getD a zwq).s.q) ((s1.getD a zwc).l.length) ((f.getD a zwq).s.k),bv ((s1.getD a zwc).b)] 116]) (fun r=>?_)
  refine ie (sR_ rfl (zrl 3 2 [1,0] [(26,.func (.func 80) #[] #[]),(27,ag [.slice ((f.getD a zwq).s.q) ((s1.getD a zwc).l.length) ((f.getD a zwq).s.k),bv ((s1.getD a zwc).b)]),(28,ag [.slice ((g.getD a zwq).s.q) ((s2.getD a zwc).l.length) ((g.getD a zwq).s.k),bv ((s2.getD a zwc).b)])] (zv rfl (D2y rfl) (pp1 1 30 rfl (ie ?_)))))
  refine zjb rfl hR ?_ ?_<;>clear hR<;>intro hR a0
  ·refine sR_ rfl (pp1 1 6 rfl ?_)
   subst hR
   refine ie (A8 ?_)
   exact E9 hr hD
  refine A6 (nx (A1 2 rfl (ix rfl (C0 rfl rfl rfl rfl opx) (pp1 1 17 rfl (A3 ?_)))))
  exact A1r (z1:=a) (a+1) ⟨opx,hR⟩ olr sb_ fo_
 have m:=bq_ t
 rw [A1i m] at hR;replace hR:=(F0.eq_1 ..).symm.trans hR
 refine H3 (nx (sR_ rfl (pp1 1 6 rfl ?_)))
 subst hR
 refine ie (A8 ?_)
 exact E9 hr hD
def A5b (a:List (Rwc Cel)) (b:List (Rwc Cel)):Bool :=
 (I4 a b)
theorem C1p {a b:List (Rwc Cel)} {aq:Option Addr} {f:List Rwq} {ak:Nat} {bq:Option Addr} {e:List Rwq} {bk:Nat} {R:Bool} (hR:A5b a b=R) (c:F8 f a:=by exact om_) (i:a.length≤9223372036854775807:=by exact om_) (j:a.length≤ak:=by exact om_) (d:F8 e b:=by exact om_) (g:b.length≤9223372036854775807:=by exact om_) (h:b.length≤bk:=by exact om_):G3 Tryz.prog 24 [.slice aq a.length ak,.slice bq b.length bk] [sl K1 aq f,G5 G4 f a,sl K1 bq e,G5 G4 e b] (bv R):=by
 refine zce Tryz.func24 fun X hX hr hD=>?_
 replace hR:=(A5b.eq_1 ..).symm.trans hR
 have:=c.1
 have:=d.1
 refine sR_ rfl (pp0 1 rfl (ie (sR_ rfl (pp2 2 5 6 rfl (zv rfl (A0a rfl c om_ om_ d) (pp1 1 4 rfl ?_))))))
 subst hR
 refine ie (A8 ?_)
 exact E9 hr hD
end Go.Proofs.YtioaekgoceinkaaGreatDoor
