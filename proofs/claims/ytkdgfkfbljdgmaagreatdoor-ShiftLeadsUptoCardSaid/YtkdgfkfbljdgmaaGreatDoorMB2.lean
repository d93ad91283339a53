import Derived.Test.YtkdgfkfbljdgmaaGreatDoorProg
import Derived.Test.YtkdgfkfbljdgmaaGreatDoorMA2
import Derived.Test.YtkdgfkfbljdgmaaGreatDoorMB1
set_option linter.unusedVariables false
set_option linter.unusedSimpArgs false
set_option linter.unnecessarySimpa false
set_option maxRecDepth 100000
namespace Go.Proofs.YtkdgfkfbljdgmaaGreatDoor
open Go Go.Fen
theorem D2k:EqT Tryz.prog 50 A5i:=EqT.of 20 rfl oki oki (fun _ _=>by kernel_rfl) A5i.inj
theorem C4k:Ty Tryz.prog 136 5 true:=⟨by kernel_rfl⟩
def M7 (d:Int) (e:Int) (b:Int) (a:Int) (c:Bool):Int :=
 (bif (((!((((decide ((1:Int)≤d))&&(decide (d≤40)))&&(decide ((2:Int)≤e)))&&(decide (e≤80))))||(!(((decide ((0:Int)≤b))&&(decide (a<d)))&&((decide (b<a))||((decide (b=0))&&(decide (d=1)))))))||(decide (a<b))) then 270 else 0)
theorem A4r {d g b a:Int} {c:Bool} {R:Int} (hR:M7 d g b a c=R):J6 Tryz.prog 148 [ag [iv d,iv g,iv b,iv a,bv c]] [] (iv R):=by
 refine zce Tryz.func148 fun X hX hr hD=>?_
 replace hR:=(M7.eq_1 ..).symm.trans hR
 refine sR_ rfl (J3 2 0 [] (fun i=>[(1,pt i 0)]) (fun i=>[bx i [iv d,iv g,iv b,iv a,bv c] 136]) (fun i=>(ie (sR_ rfl (pl1 4 [0] 8 rfl ?_)))))
 refine zid 4 11 8 12 (decide (d≤40)) (fun w t=>?_) ?_
 ·refine pl1 4 [0] 12 rfl ?_
  exact A1 (J0 2 8 12 w fn0 sb_ rfl rfl rfl rfl rfl)
 refine pp1 1 13 rfl ?_
 refine zia 4 6 13 17 (decide ((2:Int)≤g)) (fun n=>?_) ?_
 ·have q:=bq_ n
  refine pl1 4 [0] 17 rfl ?_
  exact A1 (J0 2 13 17 n fn0 sb_ rfl rfl rfl rfl rfl)
 refine pp1 1 18 rfl ?_
 refine zia 4 1 18 22 (decide (g≤80)) (fun j=>?_) ?_
 ·have v:=bq_ j
  refine pl1 4 [0] 22 rfl ?_
  exact A1 (J0 2 18 22 j fn0 sb_ rfl rfl rfl rfl rfl)
 refine pp1 1 3 rfl (ie (sR_ rfl (pl1 4 [0] 26 rfl ?_)))
 refine zid 6 18 26 32 (decide (a<d)) (fun x s=>?_) ?_
 ·refine pl1 6 [0,0] 32 rfl ?_
  exact A1 (J0 2 26 32 x fn0 sb_ rfl rfl rfl rfl rfl)
 refine pp1 1 33 rfl ?_
 refine zia 16 1 33 49 ((decide (b<a))||((decide (b=0))&&(decide (d=1)))) (fun m=>?_) ?_
 ·have p:=bq_ m
  refine pl1 6 [0,0] 39 rfl ?_
  refine zir 9 1 39 48 ((decide (b=0))&&(decide (d=1))) (fun r o=>?_) ?_
  ·refine pl1 4 [0] 43 rfl ?_
   refine zid 4 1 43 47 (decide (d=1)) (fun y z=>?_) ?_
   ·refine pl1 4 [0] 47 rfl ?_
    exact A1 (J0 2 43 47 y fn0 sb_ rfl rfl rfl rfl rfl)
   refine pp1 1 48 rfl ?_
   exact A1 (J0 4 39 48 r fn0 sb_ rfl rfl rfl rfl rfl)
  refine pp1 1 49 rfl ?_
  exact A1 (J0 4 33 49 m fn0 sb_ rfl rfl rfl rfl rfl)
 refine pp1 1 4 rfl (ie (A2 (sR_ rfl (pp1 3 52 rfl ?_))))
 refine zio 3 7 52 55 (!(((decide ((0:Int)≤b))&&(decide (a<d)))&&((decide (b<a))||((decide (b=0))&&(decide (d=1)))))) (fun k=>?_) ?_
 ·have u:=bq_ k
  refine pp1 3 55 rfl ?_
  exact A1 (J0 2 52 55 k fn0 sb_ rfl rfl rfl rfl rfl)
 refine pp1 1 56 rfl ?_
 refine zio 6 0 56 62 (decide (a<b)) (fun h=>?_) ?_
 ·have l:=bq_ h
  refine pl1 6 [0,0] 62 rfl ?_
  exact A1 (J0 2 56 62 h fn0 sb_ rfl rfl rfl rfl rfl)
 refine ie ?_
 refine zjb rfl hR ?_ ?_<;>clear hR<;>intro hR e
 ·have f:=bq_ e
  refine sR_ rfl (pp1 1 2 rfl ?_)
  subst hR
  refine ie (A6 ?_)
  exact E2 hr hD
 have f:=bq_ e
 refine A3 (nx (sR_ rfl (pp1 1 2 rfl ?_)))
 subst hR
 refine ie (A6 ?_)
 exact E2 hr hD
def G6 (n:Int) (a:Int) (b:Int):Int :=
 (if (if b<n then b else n) > a then (if b<n then b else n) else a)
theorem A0i {n a b R:Int} (hR:G6 n a b=R):J6 Tryz.prog 192 [iv n,iv a,iv b] [] (iv R):=by
 refine zce Tryz.func192 fun X hX hr hD=>?_
 replace hR:=(G6.eq_1 ..).symm.trans hR
 refine sR_ rfl (pp0 1 rfl (ie (sR_ rfl (pp1 6 6 rfl ?_))))
 subst hR
 refine ie (A6 ?_)
 exact E2 hr hD
def A0q (d:Int) (e:Int) (c:Int) (a:Int) (b:Bool) (n:Int):Int :=
 (G6 n 0 (IntKind.i64.wrap (d - (1:Int))))
theorem B1j {e f c a:Int} {b:Bool} {n R:Int} (hR:A0q e f c a b n=R):J6 Tryz.prog 149 [ag [iv e,iv f,iv c,iv a,bv b],iv n] [] (iv R):=by
 refine zce Tryz.func149 fun X hX hr hD=>?_
 replace hR:=(A0q.eq_1 ..).symm.trans hR
 refine sR_ rfl (J3 2 0 [] (fun d=>[(2,pt d 0)]) (fun d=>[bx d [iv e,iv f,iv c,iv a,bv b] 136]) (fun d=>(ie (sR_ rfl (pl2 3 [0] 5 7 rfl (ix rfl (H9.pure rfl) (zv rfl (A0i rfl) (pp1 1 4 rfl ?_))))))))
 subst hR
 refine ie (A6 ?_)
 exact E2 hr hD
def W8 (e:Int) (d:Int) (c:Int) (a:Int) (b:Bool) (n:Int):Int :=
 (G6 n 0 (IntKind.i64.wrap (d - (1:Int))))
theorem B1h {e f c a:Int} {b:Bool} {n R:Int} (hR:W8 e f c a b n=R):J6 Tryz.prog 150 [ag [iv e,iv f,iv c,iv a,bv b],iv n] [] (iv R):=by
 refine zce Tryz.func150 fun X hX hr hD=>?_
 replace hR:=(W8.eq_1 ..).symm.trans hR
 refine sR_ rfl (J3 2 0 [] (fun d=>[(2,pt d 0)]) (fun d=>[bx d [iv e,iv f,iv c,iv a,bv b] 136]) (fun d=>(ie (sR_ rfl (pl2 3 [0] 5 7 rfl (ix rfl (H9.pure rfl) (zv rfl (A0i rfl) (pp1 1 4 rfl ?_))))))))
 subst hR
 refine ie (A6 ?_)
 exact E2 hr hD
def N1 (f:Int) (e:Int) (d:Int) (a:Int) (b:Bool) (c:Cur):Int :=
 (bif (!decide ((M7 f e d a b)=0)) then (M7 f e d a b) else (bif (((!decide (c.row=(A0q f e d a b c.row)))||(!decide (c.col=(W8 f e d a b c.col))))||(c.wrap&&(decide (c.col<(IntKind.i64.wrap (e - (1:Int))))))) then 271 else 0))
theorem A6o {f e d b:Int} {a:Bool} {c:Cur} {R:Int} (hR:N1 f e d b a c=R):J6 Tryz.prog 92 [ag [iv f,iv e,iv d,iv b,bv a],ag (Y1 c)] [] (iv R):=by
 refine zce Tryz.func92 fun X hX hr hD=>?_
 replace hR:=(N1.eq_1 ..).symm.trans hR
 refine sR_ rfl (A4z 3 0 [] (fun h g=>[(2,pt h 0),(3,pt g 0)]) (fun h g=>[bx g (Y1 c) 38,bx h [iv f,iv e,iv d,iv b,bv a] 136]) (fun h g=>(ie (A2 (sR_ rfl (zrl 1 2 [1] [(6,ag [iv f,iv e,iv d,iv b,bv a])] (zv rfl (A4r rfl) (pp1 1 5 rfl (ie (sR_ rfl (pp1 2 9 rfl (ie ?_))))))))))))
 refine zjn rfl hR ?_ ?_<;>clear hR<;>intro hR q m
 ·refine sR_ rfl (pp1 2 4 rfl ?_)
  subst hR
  refine ie (A6 ?_)
  exact E2 hr hD
 refine A3 (nx (A2 (sd 28 rfl oki rfl ?_)))
 refine zdg 5 23 [0,1,0] [(12,iv c.row),(13,ag [iv f,iv e,iv d,iv b,bv a]),(15,iv c.row)] ?_
 refine zvd rfl (B1j rfl) (pd1 2 18 rfl ?_)
 refine zdO 8 12 18 26 (!decide (c.col=(W8 f e d b a c.col))) (fun j=>?_) ?_
 ·have o:=bq_ j
  refine zdg 5 3 [0,1,0] [(20,iv c.col),(21,ag [iv f,iv e,iv d,iv b,bv a]),(23,iv c.col)] ?_
  refine zvd rfl (B1h rfl) (pd1 2 26 rfl ?_)
  exact zad 6 18 26 j
 refine pd1 1 27 rfl ?_
 refine zdO 11 0 27 38 (c.wrap&&(decide (c.col<(IntKind.i64.wrap (e - (1:Int)))))) (fun k=>?_) ?_
 ·have n:=bq_ k
  refine pg1 3 [0] 30 rfl ?_
  refine zda 7 1 30 37 (decide (c.col<(IntKind.i64.wrap (e - (1:Int))))) (fun p=>?_) ?_
  ·refine pg2 4 [0,1] 32 34 rfl (dd rfl (H9.pure rfl) (pd1 2 37 rfl ?_))
   exact zad 5 30 37 p
  refine pd1 1 38 rfl ?_
  exact zad 4 27 38 k
 refine de ?_
 refine zjb rfl hR ?_ ?_<;>clear hR<;>intro hR l
 ·have i:=bq_ l
  refine sR_ rfl (pp1 1 4 rfl ?_)
  subst hR
  refine ie (A6 ?_)
  exact E2 hr hD
 have i:=bq_ l
 refine A3 (nx (sR_ rfl (pp1 1 4 rfl ?_)))
 subst hR
 refine ie (A6 ?_)
 exact E2 hr hD
def Q2 (s:Sts):Int :=
 (bif ((!decide (s.g.a=0))&&(!decide (s.g.a=1))) then 250 else (bif ((!decide (s.g.b=0))&&(!decide (s.g.b=1))) then 250 else (bif ((!decide (s.g.c=0))&&(!decide (s.g.c=1))) then 250 else (bif ((!decide (s.g.d=0))&&(!decide (s.g.d=1))) then 250 else (bif ((!decide ((bOp .andNot .i64 s.used 1)=0))||(((!decide (s.once=0))&&(!decide (s.once=2)))&&(!decide (s.once=3)))) then 250 else 0)))))
theorem B1k {s:Sts} {R:Int} (hR:Q2 s=R):J6 Tryz.prog 96 [ag (A8k s)] [] (iv R):=by
 refine zce Tryz.func96 fun X hX hr hD=>?_
 replace hR:=(Q2.eq_1 ..).symm.trans hR
 refine sR_ rfl (J3 2 0 [] (fun k=>[(1,pt k 0)]) (fun k=>[bx k (A8k s) 45]) (fun k=>(ie (A2 (sR_ rfl (zrl 3 0 [0] [(6,ag (B8g s.g)),(7,iv 0)] (ie (A8 (P9 6 ?_)))))))))
 refine D6 (sR_ rfl (pp1 1 8 rfl ?_))
 refine ie (A2 (G1 rfl (A3 (nx (A2 (A8 (sR_ rfl (ix rfl (E6 Tryz.underlying43 ty3 rfl rfl rfl 0 rfl ozw rfl rfl rfl) (pp1 1 4 rfl (ie (sR_ rfl (pp1 3 12 rfl ?_))))))))))))
 refine zia 3 0 12 15 (!decide (s.g.a=1)) (fun u=>?_) ?_
 ·have a2:=bq_ u
  refine pp1 3 15 rfl ?_
  exact A1 (J0 2 12 15 u fn0 sb_ rfl rfl rfl rfl rfl)
 refine ie ?_
 refine zjb rfl hR ?_ ?_<;>clear hR<;>intro hR r
 ·have l:=bq_ r
  refine sR_ rfl (pp1 1 2 rfl ?_)
  subst hR
  refine ie (A6 ?_)
  exact E2 hr hD
 have l:=bq_ r
 refine A3 (nx (A0 2 rfl (ix rfl (A9 (c:=1) rfl rfl rfl rfl ozw) (pp1 1 7 rfl (A1 (D6 (sR_ rfl (pp1 1 8 rfl (ie (A2 (G1 rfl (A3 (nx (A2 (A8 (sR_ rfl (ix rfl (E6 Tryz.underlying43 ty3 rfl rfl rfl 1 rfl ozw rfl rfl rfl) (pp1 1 4 rfl (ie (sR_ rfl (pp1 3 12 rfl ?_)))))))))))))))))))))
 refine zia 3 0 12 15 (!decide (s.g.b=1)) (fun t=>?_) ?_
 ·have a3:=bq_ t
  refine pp1 3 15 rfl ?_
  exact A1 (J0 2 12 15 t fn0 sb_ rfl rfl rfl rfl rfl)
 refine ie ?_
 refine zjb rfl hR ?_ ?_<;>clear hR<;>intro hR q
 ·have n:=bq_ q
  refine sR_ rfl (pp1 1 2 rfl ?_)
  subst hR
  refine ie (A6 ?_)
  exact E2 hr hD
 have n:=bq_ q
 refine A3 (nx (A0 2 rfl (ix rfl (A9 (c:=2) rfl rfl rfl rfl ozw) (pp1 1 7 rfl (A1 (D6 (sR_ rfl (pp1 1 8 rfl (ie (A2 (G1 rfl (A3 (nx (A2 (A8 (sR_ rfl (ix rfl (E6 Tryz.underlying43 ty3 rfl rfl rfl 2 rfl ozw rfl rfl rfl) (pp1 1 4 rfl (ie (sR_ rfl (pp1 3 12 rfl ?_)))))))))))))))))))))
 refine zia 3 0 12 15 (!decide (s.g.c=1)) (fun z=>?_) ?_
 ·have a1:=bq_ z
  refine pp1 3 15 rfl ?_
  exact A1 (J0 2 12 15 z fn0 sb_ rfl rfl rfl rfl rfl)
 refine ie ?_
 refine zjb rfl hR ?_ ?_<;>clear hR<;>intro hR h7
 ·have o:=bq_ h7
  refine sR_ rfl (pp1 1 2 rfl ?_)
  subst hR
  refine ie (A6 ?_)
  exact E2 hr hD
 have o:=bq_ h7
 refine A3 (nx (A0 2 rfl (ix rfl (A9 (c:=3) rfl rfl rfl rfl ozw) (pp1 1 7 rfl (A1 (D6 (sR_ rfl (pp1 1 8 rfl (ie (A2 (G1 rfl (A3 (nx (A2 (A8 (sR_ rfl (ix rfl (E6 Tryz.underlying43 ty3 rfl rfl rfl 3 rfl ozw rfl rfl rfl) (pp1 1 4 rfl (ie (sR_ rfl (pp1 3 12 rfl ?_)))))))))))))))))))))
 refine zia 3 0 12 15 (!decide (s.g.d=1)) (fun v=>?_) ?_
 ·have a4:=bq_ v
  refine pp1 3 15 rfl ?_
  exact A1 (J0 2 12 15 v fn0 sb_ rfl rfl rfl rfl rfl)
 refine ie ?_
 refine zjb rfl hR ?_ ?_<;>clear hR<;>intro hR p
 ·have m:=bq_ p
  refine sR_ rfl (pp1 1 2 rfl ?_)
  subst hR
  refine ie (A6 ?_)
  exact E2 hr hD
 have m:=bq_ p
 refine A3 (nx (A0 2 rfl (ix rfl (A9 (c:=4) rfl rfl rfl rfl ozw) (pp1 1 7 rfl (A1 (D6 (sR_ rfl (pp1 1 8 rfl (ie (A2 (P1 rfl (F6 (nx (A2 (sR_ rfl (pl1 5 [0] 21 rfl ?_))))))))))))))))
 refine zio 14 0 21 35 (((!decide (s.once=0))&&(!decide (s.once=2)))&&(!decide (s.once=3))) (fun j=>?_) ?_
 ·have w:=bq_ j
  refine pl1 4 [0] 25 rfl ?_
  refine zia 4 6 25 29 (!decide (s.once=2)) (fun e=>?_) ?_
  ·have x:=bq_ e
   refine pl1 4 [0] 29 rfl ?_
   exact A1 (J0 2 25 29 e fn0 sb_ rfl rfl rfl rfl rfl)
  refine pp1 1 30 rfl ?_
  refine zia 4 1 30 34 (!decide (s.once=3)) (fun h=>?_) ?_
  ·have y:=bq_ h
   refine pl1 4 [0] 34 rfl ?_
   exact A1 (J0 2 30 34 h fn0 sb_ rfl rfl rfl rfl rfl)
  refine pp1 1 35 rfl ?_
  exact A1 (J0 6 21 35 j fn0 sb_ rfl rfl rfl rfl rfl)
 refine ie ?_
 refine zjb rfl hR ?_ ?_<;>clear hR<;>intro hR i
 ·have f:=bq_ i
  refine sR_ rfl (pp1 1 2 rfl ?_)
  subst hR
  refine ie (A6 ?_)
  exact E2 hr hD
 have f:=bq_ i
 refine A3 (nx (sR_ rfl (pp1 1 2 rfl ?_)))
 subst hR
 refine ie (A6 ?_)
 exact E2 hr hD
def G9 (e:Int) (d:Int) (c:Int) (a:Int) (b:Bool) (s:Sav):Int :=
 (bif (!decide ((M7 e d c a b)=0)) then (M7 e d c a b) else (bif ((s.is_&&(!(((decide ((N1 e d c a b s.cursor)=0))&&(decide ((H0 s.style)=0)))&&(decide ((Q2 s.sets)=0)))))||((!s.is_)&&(!(decide (s=Sav.zero))))) then 272 else 0))
theorem A4c {f g e d:Int} {c:Bool} {s:Sav} {R:Int} (hR:G9 f g e d c s=R):J6 Tryz.prog 93 [ag [iv f,iv g,iv e,iv d,bv c],ag (A5i s)] [] (iv R):=by
 refine zce Tryz.func93 fun X hX hr hD=>?_
 replace hR:=(G9.eq_1 ..).symm.trans hR
 refine sR_ rfl (A4z 3 0 [] (fun i h=>[(2,pt i 0),(3,pt h 0)]) (fun i h=>[bx h (A5i s) 50,bx i [iv f,iv g,iv e,iv d,bv c] 136]) (fun i h=>(ie (A2 (sR_ rfl (zrl 1 2 [1] [(7,ag [iv f,iv g,iv e,iv d,bv c])] (zv rfl (A4r rfl) (pp1 1 5 rfl (ie (sR_ rfl (pp1 2 10 rfl (ie ?_))))))))))))
 refine zjn rfl hR ?_ ?_<;>clear hR<;>intro hR v p
 ·refine sR_ rfl (pp1 2 4 rfl ?_)
  subst hR
  refine ie (A6 ?_)
  exact E2 hr hD
 refine A3 (nx (sR_ rfl (zrl 3 15 [1,0] [(12,ag [iv f,iv g,iv e,iv d,bv c]),(14,ag (Y1 s.cursor))] (zv rfl (A6o rfl) (pp1 2 17 rfl ?_)))))
 refine zid 5 7 17 22 (decide ((H0 s.style)=0)) (fun o r=>?_) ?_
 ·refine zrl 2 3 [0] [(19,ag (C7 s.style))] (zv rfl (V9 rfl) (pp1 2 22 rfl ?_))
  exact A1 (J0 4 17 22 o fn0 sb_ rfl rfl rfl rfl rfl)
 refine pp1 1 23 rfl ?_
 refine zia 5 1 23 28 (decide ((Q2 s.sets)=0)) (fun m=>?_) ?_
 ·have q:=bq_ m
  refine zrl 2 3 [0] [(25,ag (A8k s.sets))] (zv rfl (B1k rfl) (pp1 2 28 rfl ?_))
  exact A1 (J0 4 23 28 m fn0 sb_ rfl rfl rfl rfl rfl)
 refine pp1 1 6 rfl (ie (A2 (sR_ rfl (pl1 3 [0] 31 rfl ?_))))
 refine zia 3 10 31 34 (!(((decide ((N1 f g e d c s.cursor)=0))&&(decide ((H0 s.style)=0)))&&(decide ((Q2 s.sets)=0)))) (fun u=>?_) ?_
 ·refine pp1 3 34 rfl ?_
  exact A1 (J0 2 31 34 u fn0 sb_ rfl rfl rfl rfl rfl)
 refine pp1 1 35 rfl ?_
 refine zio 9 0 35 44 ((!s.is_)&&(!(decide (s=Sav.zero)))) (fun l=>?_) ?_
 ·have n:=bq_ l
  refine pl1 4 [0] 39 rfl ?_
  refine zia 4 1 39 43 (!(decide (s=Sav.zero))) (fun t=>?_) ?_
  ·refine zrl 2 2 [0] [(40,ag (A5i s)),(41,ag (A5i Sav.zero))] (ix rfl (W4 (a:=s) (b:=Sav.zero) D2k rfl rfl rfl) (pp1 1 43 rfl ?_))
   exact A1 (J0 5 39 43 t fn0 sb_ rfl rfl rfl rfl rfl)
  refine pp1 1 44 rfl ?_
  exact A1 (J0 4 35 44 l fn0 sb_ rfl rfl rfl rfl rfl)
 refine ie ?_
 refine zjb rfl hR ?_ ?_<;>clear hR<;>intro hR k
 ·have j:=bq_ k
  refine sR_ rfl (pp1 1 4 rfl ?_)
  subst hR
  refine ie (A6 ?_)
  exact E2 hr hD
 have j:=bq_ k
 refine A3 (nx (sR_ rfl (pp1 1 4 rfl ?_)))
 subst hR
 refine ie (A6 ?_)
 exact E2 hr hD
def M5 (g:List (Rwc Cel)):Int :=
 ((g.getD 0 zwc).l.length:Int)
theorem A3i {g:List (Rwc Cel)} {gq:Option Addr} {grs:List Rwq} {gk:Nat} {R:Int} (hR:M5 g=R) (a:B4 grs g:=by exact om_) (d:g.length≤9223372036854775807:=by exact om_) (h:g.length≤gk:=by exact om_) (e:0<g.length:=by exact om_):J6 Tryz.prog 215 [.slice gq g.length gk] [sl B5 gq grs,B7 B1 grs g] (iv R):=by
 refine zce Tryz.func215 fun X hX hr hD=>?_
 replace hR:=(M5.eq_1 ..).symm.trans hR
 have:=a.1
 refine sR_ rfl (pp0 1 rfl (ie (sR_ rfl (ip' 1 5 [(3,.slice gq g.length gk)] (N2 0 rfl (by have:=a.1;omega) fun f b=>(M8 (C6d (k:=0) a 1 rfl (by have:=a.1;omega)) ?_))))))
 have:=B8k a (k:=0) (by have:=a.1;omega)
 refine ix rfl (F7 A1s rfl rfl b rfl 0 rfl opx) (ip' 1 3 [(5,pa (Addr.add f (0 * 2)))] (ix rfl (H2 (D8 (v:=.slice ((grs.getD 0 zwq).s.q) ((grs.getD 0 zwq).s.n) ((grs.getD 0 zwq).s.k)) (us:=[.slice ((grs.getD 0 zwq).s.q) ((grs.getD 0 zwq).s.n) ((grs.getD 0 zwq).s.k)]) A6h rfl rfl (B2m (H5 (c:=B5) (sz:=2) b (fun _=>rfl) 1 rfl (gd zwq (by have:=a.1;omega))) (ws:=[.slice ((grs.getD 0 zwq).s.q) ((grs.getD 0 zwq).s.n) ((grs.getD 0 zwq).s.k)]) 1 rfl) rfl) (D3m a (by have:=a.1;omega))) (pp1 2 2 rfl ?_)))
 subst hR
 refine ie (A6 ?_)
 exact E2 hr hD
def P6 (g:List (Rwc Cel)):List (Rwc Cel)→Nat→Int
 | [],t15=>0
 | hd_l0::tl_l0,t15=>(bif ((!decide ((K8 (hd_l0.l) (hd_l0.b))=0))||(!decide ((hd_l0.l.length:Int)=(M5 g)))) then 230 else P6 g tl_l0 (t15+1))
def K9 (g:List (Rwc Cel)):Int :=
 (bif ((decide ((g.length:Int)<1))||(decide ((40:Int)<(g.length:Int)))) then 230 else P6 g g 0)
theorem A8r {g:List (Rwc Cel)} (h:K9 g=0):0<g.length:=by
 unfold K9 at h
 cases hb:((decide ((g.length:Int)<1))||(decide ((40:Int)<(g.length:Int)))) with
 | true=>rw [hb] at h;cases h
 | false=>simp only [Bool.or_eq_false_iff,decide_eq_false_iff_not] at hb;omega
theorem A7i {g:List (Rwc Cel)} {gq:Option Addr} {grs:List Rwq} {gk:Nat} {R:Int} (hR:K9 g=R) (a:B4 grs g:=by exact om_) (t:g.length≤9223372036854775807:=by exact om_) (u:g.length≤gk:=by exact om_):J6 Tryz.prog 151 [.slice gq g.length gk] [sl B5 gq grs,B7 B1 grs g,O9,P0] (iv R):=by
 refine zce Tryz.func151 fun X hX hr hD=>?_
 replace hR:=(K9.eq_1 ..).symm.trans hR
 have:=a.1
 refine sR_ rfl (pp0 1 rfl (ie (A2 (sR_ rfl (pp1 4 8 rfl ?_)))))
 refine zir 4 0 8 12 (decide ((40:Int)<(g.length:Int))) (fun x r=>?_) ?_
 ·refine pp1 4 12 rfl ?_
  exact zai 2 8 12 x
 refine ie ?_
 refine zjo rfl hR ?_ ?_<;>clear hR<;>intro hR z p
 ·refine sR_ rfl (pp1 1 2 rfl ?_)
  subst hR
  refine ie (A6 ?_)
  exact E2 hr hD
 refine A3 (nx (A2 (sR_ rfl (pp3 3 13 14 15 rfl (ie (A8 (A3q (fun (d:Nat)=>(d≤g.length∧P6 g (g.drop d) d=R,[(0,.slice gq g.length gk),(13,.slice gq g.length gk),(14,iv (g.length:Int)),(15,iv (d:Int))],[],[sl B5 gq grs,B7 B1 grs g,O9,P0],g.length - d)) 0 ⟨opx,hR⟩ sb_ A5.refl ?_)))))))
 rintro d ⟨v,hR⟩
 refine sR_ rfl (pp1 1 16 rfl ?_)
 refine ie (A2 (W2 rfl (fun j=>?_) (fun j=>?_)))
 ·have f:=bq_ j
  rw [Y3 zwc (show d<g.length by omega)] at hR;replace hR:=(P6.eq_2 ..).symm.trans hR
  refine A3 (nx (A2 (A8 (sR_ rfl (N2 0 rfl (by have:=a.1;omega) fun y e=>(M8 (C6d (k:=d) a 1 rfl (by have:=a.1;omega)) ?_))))))
  have:=B8k a (k:=d) (by have:=a.1;omega)
  refine ix rfl (F7 A1s rfl rfl e rfl d rfl opx) (ix rfl (H2 (I3 (us:=[.slice ((grs.getD d zwq).s.q) ((grs.getD d zwq).s.n) ((grs.getD d zwq).s.k),bv ((grs.getD d zwq).b)]) C3i rfl rfl (H5 (c:=B5) (sz:=2) e (fun _=>rfl) 1 rfl (gd zwq (by have:=a.1;omega))) rfl) (C6y a (by have:=a.1;omega))) ?_)
  refine J3 2 0 [0] (fun h=>[(4,pt h 0)]) (fun h=>[bx h [.slice ((grs.getD d zwq).s.q) ((g.getD d zwc).l.length) ((grs.getD d zwq).s.k),bv ((g.getD d zwc).b)] 72]) (fun h=>?_)
  refine ie (sd 11 rfl oki rfl ?_)
  refine zdg 1 10 [0] [(19,ag [.slice ((grs.getD d zwq).s.q) ((g.getD d zwc).l.length) ((grs.getD d zwq).s.k),bv ((g.getD d zwc).b)])] ?_
  refine zvd rfl (B4j rfl) (pd1 2 22 rfl ?_)
  refine zdO 7 0 22 29 (!decide (((g.getD d zwc).l.length:Int)=(M5 g))) (fun o=>?_) ?_
  ·have w:=bq_ o
   refine pg2 4 [0] 25 26 rfl (zvd rfl (A3i rfl a) (pd1 2 29 rfl ?_))
   exact zad 5 22 29 o
  refine de ?_
  refine zjb rfl hR ?_ ?_<;>clear hR<;>intro hR m
  ·have i:=bq_ m
   refine sR_ rfl (pp1 1 2 rfl ?_)
   subst hR
   refine ie (A6 ?_)
   exact E2 hr hD
  have i:=bq_ m
  refine A3 (nx (A0 2 rfl (ix rfl (A9 rfl rfl rfl rfl opx) (pp1 1 15 rfl (A1 ?_)))))
  exact A0y (z1:=d) (d+1) ⟨opx,hR⟩ olr sb_ fo_
 have f:=bq_ j
 rw [Y4 f] at hR;replace hR:=(P6.eq_1 ..).symm.trans hR
 refine F6 (nx (sR_ rfl (pp1 1 2 rfl ?_)))
 subst hR
 refine ie (A6 ?_)
 exact E2 hr hD
def B2u:List Int :=
 ([9,1000,1002,1003]:List Int)
theorem C2l {R:List Int} (hR:B2u=R):Con Tryz.prog 153 [] [] [] ({t:Option Addr×Nat // R.length≤t.2∧R.length≤9223372036854775807}) (fun x=>.slice x.1.1 R.length x.1.2) (fun x=>[]) (fun x=>[sl X3 x.1.1 R]):=by
 refine zce Tryz.func153 fun X hX hr hD=>?_
 replace hR:=(B2u.eq_1 ..).symm.trans hR
 refine sR_ rfl (pp0 1 rfl (ie (sR_ rfl (it rfl (G2 (c:=X3) (xs:=([9,1000,1002,1003]:List Int)) A2s rfl rfl rfl oki) fun a=>?_))))
 have:([9,1000,1002,1003]:List Int).length=4:=rfl
 refine pp1 1 0 rfl ?_
 subst hR
 refine ie (A6 ?_)
 exact zer hr hD (U4 rfl (A4 rfl)) (zq (some ⟨a,0,none⟩) 4) sb_ fo_
def N7 (v:Int):List Int→Nat→Int
 | [],a=>(-1)
 | hd_l0::tl_l0,a=>(bif (decide (v=hd_l0)) then (a:Int) else N7 v tl_l0 (a+1))
def A0d (s:List Int) (v:Int):Int :=
 N7 v s 0
theorem A7b {s:List Int} {v:Int} {e:Option Addr} {sk:Nat} {R:Int} (hR:A0d s v=R) (i:s.length≤9223372036854775807:=by exact om_) (j:s.length≤sk:=by exact om_):J6 Tryz.prog 216 [.slice e s.length sk,iv v] [sl X3 e s] (iv R):=by
 refine zce Tryz.func216 fun X hX hr hD=>?_
 replace hR:=(A0d.eq_1 ..).symm.trans hR
 refine sR_ rfl (pp0 1 rfl (ie (A2 (sR_ rfl (pp2 3 7 8 rfl (ie (A8 (A3q (fun (a:Nat)=>(a≤s.length∧N7 v (s.drop a) a=R,[(0,.slice e s.length sk),(1,iv v),(7,iv (s.length:Int)),(8,iv (a:Int))],[],[sl X3 e s],s.length - a)) 0 ⟨opx,hR⟩ sb_ A5.refl ?_))))))))
 rintro a ⟨g,hR⟩
 refine sR_ rfl (pp1 1 9 rfl ?_)
 refine ie (A2 (W2 rfl (fun f=>?_) (fun f=>?_)))
 ·have b:=bq_ f
  rw [Y3 0 (show a<s.length by omega)] at hR;replace hR:=(N7.eq_2 ..).symm.trans hR
  refine A3 (nx (A2 (A8 (sR_ rfl (pp1 2 5 rfl (ie (sR_ rfl (pp3 3 11 12 13 rfl (N2 0 rfl opx fun l d=>(ix rfl (F7 A2s rfl rfl d rfl a rfl opx) (ix rfl (D8 ty3 rfl rfl (H5 (c:=X3) (sz:=1) d (fun _=>rfl) 0 rfl (gd 0 opx)) rfl) (pp1 1 16 rfl (ie ?_)))))))))))))
  refine zjd rfl hR ?_ ?_<;>clear hR<;>intro hR k h
  ·refine sR_ rfl (pp1 2 4 rfl ?_)
   subst hR
   refine ie (A6 ?_)
   exact E2 hr hD
  refine A3 (nx (A0 2 rfl (ix rfl (A9 rfl rfl rfl rfl opx) (pp1 1 8 rfl (A1 ?_)))))
  exact A0y (z1:=a) (a+1) ⟨opx,hR⟩ olr sb_ A5.refl
 have b:=bq_ f
 rw [Y4 b] at hR;replace hR:=(N7.eq_1 ..).symm.trans hR
 refine F6 (nx (sR_ rfl (pp1 1 4 rfl ?_)))
 subst hR
 refine ie (A6 ?_)
 exact E2 hr hD
def Q1 (s:List Int) (v:Int):Bool :=
 (decide ((0:Int)≤(A0d s v)))
theorem A5j {s:List Int} {v:Int} {a:Option Addr} {sk:Nat} {R:Bool} (hR:Q1 s v=R) (b:s.length≤9223372036854775807:=by exact om_) (c:s.length≤sk:=by exact om_):J6 Tryz.prog 152 [.slice a s.length sk,iv v] [sl X3 a s] (bv R):=by
 refine zce Tryz.func152 fun X hX hr hD=>?_
 replace hR:=(Q1.eq_1 ..).symm.trans hR
 refine sR_ rfl (pp0 1 rfl (ie (sR_ rfl (pp2 2 5 6 rfl (zv rfl (A7b rfl) (pp1 2 4 rfl ?_))))))
 subst hR
 refine ie (A6 ?_)
 exact E2 hr hD
def A2w (m:Mod):Int :=
 (bif (!decide (m.mouse=0)) then (E8 B2u fun (a:List Int)=>(bif (!(Q1 a m.mouse)) then 260 else 0)) else 0)
theorem C0u {m:Mod} {R:Int} (hR:A2w m=R):J6 Tryz.prog 97 [ag (A4k m)] [] (iv R):=by
 refine zce Tryz.func97 fun X hX hr hD=>?_
 replace hR:=(A2w.eq_1 ..).symm.trans hR
 refine sR_ rfl (J3 2 0 [] (fun a=>[(1,pt a 0)]) (fun a=>[bx a (A4k m) 47]) (fun a=>(ie (A2 (sh 10 [(10,[bx a (A4k m) 47])] [] [bx a (A4k m) 47] (zml 10 0) oki rfl oki oki oki sb_ A5.refl ?_)))))
 refine zhp [0] 9 (zml 10 1) [(3,pt a 11)] ?_
 refine zhl 1 [bx a (A4k m) 47] (zml 10 3) rfl (A7 (v:=iv m.mouse) ty3 rfl rfl 0 rfl rfl) ?_
 refine zhp [2,3] 6 (zml 10 15) [(6,bv (!decide (m.mouse=0)))] ?_
 refine V0 6 _ rfl (fun c=>?_) (fun c=>?_)
 ·have f:=bq_ c
  replace hR:=bt hR c
  refine zhp [5] 5 (zml 10 47) [(8,pt a 11)] ?_
  refine zhl 6 [bx a (A4k m) 47] (zml 10 111) rfl (A7 (v:=iv m.mouse) ty3 rfl rfl 0 rfl rfl) ?_
  have j:=E9 hR;clear hR;obtain ⟨k,g,hR⟩:=j
  refine zho 4 [bx a (A4k m) 47] (zml 10 127) rfl (I0 (L2:=[bx a (A4k m) 47]) (C2l g) rfl rfl rfl rfl rfl fn0 (List.Perm.refl _) (fun ⟨⟨d,e⟩,b⟩=>[bx a (A4k m) 47]) (fun _=>rfl)) (fun ⟨⟨d,e⟩,b⟩=>sb_) (fun ⟨⟨d,e⟩,b⟩=>fn0) fun ⟨⟨d,e⟩,b⟩=>?_
  obtain ⟨i,h⟩:=b
  refine zho 7 [bx a (A4k m) 47] (zml 10 255) rfl (Det.tri (P3 (A5j rfl) rfl rfl rfl rfl rfl A5.refl)) (fun _=>sb_) (fun _=>fn0) fun _=>?_
  refine zhp [8,9] 0 (zml 10 1023) [(12,bv (!(Q1 k m.mouse)))] ?_
  refine P4 oki ?_
  refine zjb rfl hR ?_ ?_<;>clear hR<;>intro hR l
  ·refine sR_ rfl (pp1 1 2 rfl ?_)
   subst hR
   refine ie (A6 ?_)
   exact E2 hr hD
  refine A3 (nx (sR_ rfl (pp1 1 2 rfl ?_)))
  subst hR
  refine ie (A6 ?_)
  exact E2 hr hD
 ·have f:=bq_ c
  replace hR:=bf hR c
  refine zhp [4,5,6,7,8,9] 0 (zml 10 1023) [(12,bv false)] ?_
  refine P4 oki ?_
  refine P1 rfl (A3 (nx (sR_ rfl (pp1 1 2 rfl ?_))))
  subst hR
  refine ie (A6 ?_)
  exact E2 hr hD
end Go.Proofs.YtkdgfkfbljdgmaaGreatDoor
set_option linter.unusedVariables false
set_option linter.unusedSimpArgs false
set_option linter.unnecessarySimpa false
namespace Go.Proofs.YtkdgfkfbljdgmaaGreatDoor
open Go Go.Fen
theorem D3e:EqT Tryz.prog 86 B8f:=EqT.of 20 rfl oki oki (fun _ _=>by kernel_rfl) B8f.inj
theorem D3r:Ty Tryz.prog 86 76 true:=⟨by kernel_rfl⟩
def I2 (a:List Bool):List Bool→Nat→Bool
 | [],t13=>true
 | hd_l0::tl_l0,t13=>(bif (!(hd_l0 == (a.getD t13 false))) then false else I2 a tl_l0 (t13+1))
def Q7 (b:List Bool) (a:List Bool):Bool :=
 (bif (!decide ((b.length:Int)=(a.length:Int))) then false else I2 a b 0)
set_option maxRecDepth 100000 in
theorem A6e {b f:List Bool} {d:Option Addr} {s1k:Nat} {e:Option Addr} {s2k:Nat} {R:Bool} (hR:Q7 b f=R) (m:b.length≤9223372036854775807:=by exact om_) (n:b.length≤s1k:=by exact om_) (l:f.length≤9223372036854775807:=by exact om_) (k:f.length≤s2k:=by exact om_):J6 Tryz.prog 81 [.slice d b.length s1k,.slice e f.length s2k] [sl H4 d b,sl H4 e f] (bv R):=by
 refine zce Tryz.func81 fun X hX hr hD=>?_
 replace hR:=(Q7.eq_1 ..).symm.trans hR
 refine sR_ rfl (pp0 1 rfl ?_)
 refine ie (A2 (sR_ rfl (pp1 5 10 rfl ?_)))
 refine ie ?_
 refine zjn rfl hR ?_ ?_<;>clear hR<;>intro hR t o
 ·refine sR_ rfl (pp1 1 4 rfl ?_)
  subst hR
  refine ie (A6 ?_)
  exact E2 hr hD
 refine A3 (nx (A2 (sR_ rfl (pp2 3 12 13 rfl ?_))))
 refine ie (A8 (A3q (fun (a:Nat)=>(a≤b.length∧I2 f (b.drop a) a=R,[(0,.slice d b.length s1k),(1,.slice e f.length s2k),(12,iv (b.length:Int)),(13,iv (a:Int))],[],[sl H4 d b,sl H4 e f],b.length - a)) 0 ⟨opx,hR⟩ sb_ A5.refl ?_))
 rintro a ⟨p,hR⟩
 refine sR_ rfl (pp1 1 14 rfl ?_)
 refine ie (A2 (W2 rfl (fun j=>?_) (fun j=>?_)))
 ·have g:=bq_ j
  rw [Y3 false (show a<b.length by omega)] at hR;replace hR:=(I2.eq_2 ..).symm.trans hR
  refine A3 (nx (A2 (A8 (sR_ rfl (pp1 2 5 rfl ?_)))))
  refine ie (sd 9 rfl oki rfl ?_)
  refine pd2 2 16 17 rfl ?_
  refine A2b 0 rfl opx fun q h=>?_
  refine dd rfl (F7 C7a rfl rfl h rfl a rfl opx) ?_
  refine dd rfl (D8 ty4 rfl rfl (H5 (c:=H4) (sz:=1) h (fun _=>rfl) 0 rfl (gd false opx)) rfl) ?_
  refine pd2 2 20 21 rfl ?_
  refine A2b 1 rfl opx fun s i=>?_
  refine dd rfl (F7 C7a rfl rfl i rfl a rfl opx) ?_
  refine dd rfl (D8 ty4 rfl rfl (H5 (c:=H4) (sz:=1) i (fun _=>rfl) 1 rfl (gd false opx)) rfl) ?_
  refine dd rfl (C0c Tryz.underlying4 rfl rfl rfl) ?_
  refine de ?_
  refine zjb rfl hR ?_ ?_<;>clear hR<;>intro hR r
  ·refine sR_ rfl (pp1 1 4 rfl ?_)
   subst hR
   refine ie (A6 ?_)
   exact E2 hr hD
  refine A3 (nx (A0 2 rfl (ix rfl (A9 rfl rfl rfl rfl opx) ?_)))
  refine pp1 1 13 rfl ?_
  refine A1 ?_
  exact A0y (z1:=a) (a+1) ⟨opx,hR⟩ olr sb_ A5.refl
 have g:=bq_ j
 rw [Y4 g] at hR;replace hR:=(I2.eq_1 ..).symm.trans hR
 refine F6 (nx (sR_ rfl (pp1 1 4 rfl ?_)))
 subst hR
 refine ie (A6 ?_)
 exact E2 hr hD
def A6u (a:List Bool) (b:List Bool):Bool :=
 (Q7 a b)
set_option maxRecDepth 100000 in
theorem C2r {a b:List Bool} {aq:Option Addr} {ak:Nat} {bq:Option Addr} {bk:Nat} {R:Bool} (hR:A6u a b=R) (e:a.length≤9223372036854775807:=by exact om_) (f:a.length≤ak:=by exact om_) (d:b.length≤9223372036854775807:=by exact om_) (c:b.length≤bk:=by exact om_):J6 Tryz.prog 25 [.slice aq a.length ak,.slice bq b.length bk] [sl H4 aq a,sl H4 bq b] (bv R):=by
 refine zce Tryz.func25 fun X hX hr hD=>?_
 replace hR:=(A6u.eq_1 ..).symm.trans hR
 refine sR_ rfl (pp0 1 rfl ?_)
 refine ie (sR_ rfl (pp2 2 5 6 rfl ?_))
 refine zv rfl (A6e rfl) ?_
 refine pp1 1 4 rfl ?_
 subst hR
 refine ie (A6 ?_)
 exact E2 hr hD
def F5 (a:List Cel):List Cel→Nat→Bool
 | [],t13=>true
 | hd_l0::tl_l0,t13=>(bif (!(decide (hd_l0=(a.getD t13 Cel.zero)))) then false else F5 a tl_l0 (t13+1))
def G3 (b:List Cel) (a:List Cel):Bool :=
 (bif (!decide ((b.length:Int)=(a.length:Int))) then false else F5 a b 0)
set_option maxRecDepth 100000 in
theorem O3 {e f:List Cel} {g:Option Addr} {s1k:Nat} {h:Option Addr} {s2k:Nat} {R:Bool} (hR:G3 e f=R) (o:e.length≤9223372036854775807:=by exact om_) (p:e.length≤s1k:=by exact om_) (n:f.length≤9223372036854775807:=by exact om_) (m:f.length≤s2k:=by exact om_):J6 Tryz.prog 85 [.slice g e.length s1k,.slice h f.length s2k] [sl B1 g e,sl B1 h f] (bv R):=by
 refine zce Tryz.func85 fun X hX hr hD=>?_
 replace hR:=(G3.eq_1 ..).symm.trans hR
 refine sR_ rfl (pp0 1 rfl ?_)
 refine ie (A2 (sR_ rfl (pp1 5 10 rfl ?_)))
 refine ie ?_
 refine zjn rfl hR ?_ ?_<;>clear hR<;>intro hR w r
 ·refine sR_ rfl (pp1 1 4 rfl ?_)
  subst hR
  refine ie (A6 ?_)
  exact E2 hr hD
 refine A3 (nx (A2 (sR_ rfl (pp2 3 12 13 rfl ?_))))
 refine ie (A8 (A3q (fun (d:Nat)=>(d≤e.length∧F5 f (e.drop d) d=R,[(0,.slice g e.length s1k),(1,.slice h f.length s2k),(12,iv (e.length:Int)),(13,iv (d:Int))],[],[sl B1 g e,sl B1 h f],e.length - d)) 0 ⟨opx,hR⟩ sb_ A5.refl ?_))
 rintro d ⟨s,hR⟩
 refine sR_ rfl (pp1 1 14 rfl ?_)
 refine ie (A2 (W2 rfl (fun l=>?_) (fun l=>?_)))
 ·have i:=bq_ l
  rw [Y3 Cel.zero (show d<e.length by omega)] at hR;replace hR:=(F5.eq_2 ..).symm.trans hR
  refine A3 (nx (A2 (A8 (sR_ rfl (pp1 2 5 rfl ?_)))))
  refine ie (sd 9 rfl oki rfl ?_)
  refine pd2 2 16 17 rfl ?_
  refine A2b 0 rfl opx fun t j=>?_
  refine dd rfl (F7 A2p rfl rfl j rfl d rfl opx) ?_
  refine dd rfl (I3 (us:=B1 (e.getD d Cel.zero)) B0g rfl rfl (H5 (c:=B1) (sz:=12) j (fun _=>rfl) 0 rfl (gd Cel.zero opx)) rfl) ?_
  refine pd2 2 20 21 rfl ?_
  refine A2b 1 rfl opx fun v k=>?_
  refine dd rfl (F7 A2p rfl rfl k rfl d rfl opx) ?_
  refine dd rfl (I3 (us:=B1 (f.getD d Cel.zero)) B0g rfl rfl (H5 (c:=B1) (sz:=12) k (fun _=>rfl) 1 rfl (gd Cel.zero opx)) rfl) ?_
  refine dd rfl (W4 (a:=(e.getD d Cel.zero)) (b:=(f.getD d Cel.zero)) B7a rfl rfl rfl) ?_
  refine de ?_
  refine zjn rfl hR ?_ ?_<;>clear hR<;>intro hR u q
  ·refine sR_ rfl (pp1 1 4 rfl ?_)
   subst hR
   refine ie (A6 ?_)
   exact E2 hr hD
  refine A3 (nx (A0 2 rfl (ix rfl (A9 rfl rfl rfl rfl opx) ?_)))
  refine pp1 1 13 rfl ?_
  refine A1 ?_
  exact A0y (z1:=d) (d+1) ⟨opx,hR⟩ olr sb_ A5.refl
 have i:=bq_ l
 rw [Y4 i] at hR;replace hR:=(F5.eq_1 ..).symm.trans hR
 refine F6 (nx (sR_ rfl (pp1 1 4 rfl ?_)))
 subst hR
 refine ie (A6 ?_)
 exact E2 hr hD
def B2p (d:List Cel) (b:Bool) (c:List Cel) (a:Bool):Bool :=
 ((b == a)&&(G3 d c))
set_option maxRecDepth 100000 in
theorem C3j {a:List Cel} {c:Bool} {b:List Cel} {d:Bool} {f:Option Addr} {aCellsk:Nat} {e:Option Addr} {bCellsk:Nat} {R:Bool} (hR:B2p a c b d=R) (h:a.length≤9223372036854775807:=by exact om_) (j:a.length≤aCellsk:=by exact om_) (i:b.length≤9223372036854775807:=by exact om_) (g:b.length≤bCellsk:=by exact om_):J6 Tryz.prog 83 [ag [.slice f a.length aCellsk,bv c],ag [.slice e b.length bCellsk,bv d]] [sl B1 f a,sl B1 e b] (bv R):=by
 refine zce Tryz.func83 fun X hX hr hD=>?_
 replace hR:=(B2p.eq_1 ..).symm.trans hR
 refine sR_ rfl (A4z 3 0 [] (fun l k=>[(2,pt l 0),(3,pt k 0)]) (fun l k=>[bx k [.slice e b.length bCellsk,bv d] 72,bx l [.slice f a.length aCellsk,bv c] 72]) (fun l k=>?_))
 refine ie (sR_ rfl (pl2 4 [1,0] 6 8 rfl ?_))
 refine ix rfl (C5l Tryz.underlying4 rfl rfl rfl) ?_
 refine pp1 1 10 rfl ?_
 refine zia 6 1 10 16 (G3 a b) (fun m=>?_) ?_
 ·refine pl2 4 [1,0] 12 14 rfl ?_
  refine zv rfl (O3 rfl) ?_
  refine pp1 1 16 rfl ?_
  exact zai 5 10 16 m
 refine pp1 1 4 rfl ?_
 subst hR
 refine ie (A6 ?_)
 exact E2 hr hD
def C6 (a:List (Rwc Cel)):List (Rwc Cel)→Nat→Bool
 | [],t17=>true
 | hd_l0::tl_l0,t17=>(bif (!(B2p (hd_l0.l) (hd_l0.b) ((a.getD t17 zwc).l) ((a.getD t17 zwc).b))) then false else C6 a tl_l0 (t17+1))
def G0 (b:List (Rwc Cel)) (a:List (Rwc Cel)):Bool :=
 (bif (!decide ((b.length:Int)=(a.length:Int))) then false else C6 a b 0)
set_option maxRecDepth 100000 in
theorem S4 {s1 s2:List (Rwc Cel)} {h:Option Addr} {f:List Rwq} {s1k:Nat} {i:Option Addr} {g:List Rwq} {s2k:Nat} {R:Bool} (hR:G0 s1 s2=R) (d:B4 f s1:=by exact om_) (w:s1.length≤9223372036854775807:=by exact om_) (x:s1.length≤s1k:=by exact om_) (e:B4 g s2:=by exact om_) (v:s2.length≤9223372036854775807:=by exact om_) (u:s2.length≤s2k:=by exact om_):J6 Tryz.prog 82 [.slice h s1.length s1k,.slice i s2.length s2k,.func (.func 83) #[] #[]] [sl B5 h f,B7 B1 f s1,sl B5 i g,B7 B1 g s2] (bv R):=by
 refine zce Tryz.func82 fun X hX hr hD=>?_
 replace hR:=(G0.eq_1 ..).symm.trans hR
 have:=d.1
 have:=e.1
 refine sR_ rfl (pp0 1 rfl ?_)
 refine ie (A2 (sR_ rfl (pp1 5 14 rfl ?_)))
 refine ie ?_
 refine zjn rfl hR ?_ ?_<;>clear hR<;>intro hR h1 z
 ·refine sR_ rfl (pp1 1 6 rfl ?_)
  subst hR
  refine ie (A6 ?_)
  exact E2 hr hD
 refine A3 (nx (A2 (sR_ rfl (pp3 3 15 16 17 rfl ?_))))
 refine ie (A8 (A3q (fun (a:Nat)=>(a≤s1.length∧C6 s2 (s1.drop a) a=R,[(1,.slice i s2.length s2k),(2,.func (.func 83) #[] #[]),(15,.slice h s1.length s1k),(16,iv (s1.length:Int)),(17,iv (a:Int))],[],[sl B5 h f,B7 B1 f s1,sl B5 i g,B7 B1 g s2],s1.length - a)) 0 ⟨opx,hR⟩ sb_ A5.refl ?_))
 rintro a ⟨a0,hR⟩
 refine sR_ rfl (pp1 1 18 rfl ?_)
 refine ie (A2 (W2 rfl (fun t=>?_) (fun t=>?_)))
 ·have j:=bq_ t
  rw [Y3 zwc (show a<s1.length by omega)] at hR;replace hR:=(C6.eq_2 ..).symm.trans hR
  refine A3 (nx (A2 (A8 (sR_ rfl (pp1 1 19 rfl ?_)))))
  refine N2 0 rfl (by have:=d.1;omega) fun a4 o=>?_
  refine M8 (C6d (k:=a) d 1 rfl (by have:=d.1;omega)) ?_
  have:=B8k d (k:=a) (by have:=d.1;omega)
  refine ix rfl (F7 A1s rfl rfl o rfl a rfl opx) ?_
  refine ix rfl (H2 (I3 (us:=[.slice ((f.getD a zwq).s.q) ((f.getD a zwq).s.n) ((f.getD a zwq).s.k),bv ((f.getD a zwq).b)]) C3i rfl rfl (H5 (c:=B5) (sz:=2) o (fun _=>rfl) 1 rfl (gd zwq (by have:=d.1;omega))) rfl) (C6y d (by have:=d.1;omega))) ?_
  refine J3 3 0 [0] (fun m=>[(8,pt m 0),(7,iv (a:Int))]) (fun m=>[bx m [.slice ((f.getD a zwq).s.q) ((s1.getD a zwc).l.length) ((f.getD a zwq).s.k),bv ((s1.getD a zwc).b)] 72]) (fun m=>?_)
  refine ie (sR_ rfl (pp2 2 22 23 rfl ?_))
  refine N2 3 rfl (by have:=e.1;omega) fun a7 p=>?_
  refine M8 (C6d (k:=a) e 4 rfl (by have:=e.1;omega)) ?_
  have:=B8k e (k:=a) (by have:=e.1;omega)
  refine ix rfl (F7 A1s rfl rfl p rfl a rfl opx) ?_
  refine ix rfl (H2 (I3 (us:=[.slice ((g.getD a zwq).s.q) ((g.getD a zwq).s.n) ((g.getD a zwq).s.k),bv ((g.getD a zwq).b)]) C3i rfl rfl (H5 (c:=B5) (sz:=2) p (fun _=>rfl) 4 rfl (gd zwq (by have:=e.1;omega))) rfl) (C6y e (by have:=e.1;omega))) ?_
  refine J3 2 0 [0] (fun r=>[(9,pt r 0)]) (fun r=>[bx r [.slice ((g.getD a zwq).s.q) ((s2.getD a zwc).l.length) ((g.getD a zwq).s.k),bv ((s2.getD a zwc).b)] 72,bx m [.slice ((f.getD a zwq).s.q) ((s1.getD a zwc).l.length) ((f.getD a zwq).s.k),bv ((s1.getD a zwc).b)] 72]) (fun r=>?_)
  refine ie (sR_ rfl (zrl 3 2 [1,0] [(26,.func (.func 83) #[] #[]),(27,ag [.slice ((f.getD a zwq).s.q) ((s1.getD a zwc).l.length) ((f.getD a zwq).s.k),bv ((s1.getD a zwc).b)]),(28,ag [.slice ((g.getD a zwq).s.q) ((s2.getD a zwc).l.length) ((g.getD a zwq).s.k),bv ((s2.getD a zwc).b)])] ?_))
  refine zv rfl (C3j rfl) ?_
  refine pp1 1 30 rfl ?_
  refine ie ?_
  refine zjb rfl hR ?_ ?_<;>clear hR<;>intro hR y
  ·refine sR_ rfl (pp1 1 6 rfl ?_)
   subst hR
   refine ie (A6 ?_)
   exact E2 hr hD
  refine A3 (nx (A0 2 rfl (ix rfl (A9 rfl rfl rfl rfl opx) ?_)))
  refine pp1 1 17 rfl ?_
  refine A1 ?_
  exact A0y (z1:=a) (a+1) ⟨opx,hR⟩ olr sb_ fo_
 have j:=bq_ t
 rw [Y4 j] at hR;replace hR:=(C6.eq_1 ..).symm.trans hR
 refine F6 (nx (sR_ rfl (pp1 1 6 rfl ?_)))
 subst hR
 refine ie (A6 ?_)
 exact E2 hr hD
def A1t (a:List (Rwc Cel)) (b:List (Rwc Cel)):Bool :=
 (G0 a b)
set_option maxRecDepth 100000 in
theorem B4p {a b:List (Rwc Cel)} {aq:Option Addr} {f:List Rwq} {ak:Nat} {bq:Option Addr} {e:List Rwq} {bk:Nat} {R:Bool} (hR:A1t a b=R) (d:B4 f a:=by exact om_) (g:a.length≤9223372036854775807:=by exact om_) (h:a.length≤ak:=by exact om_) (c:B4 e b:=by exact om_) (j:b.length≤9223372036854775807:=by exact om_) (i:b.length≤bk:=by exact om_):J6 Tryz.prog 26 [.slice aq a.length ak,.slice bq b.length bk] [sl B5 aq f,B7 B1 f a,sl B5 bq e,B7 B1 e b] (bv R):=by
 refine zce Tryz.func26 fun X hX hr hD=>?_
 replace hR:=(A1t.eq_1 ..).symm.trans hR
 have:=d.1
 have:=c.1
 refine sR_ rfl (pp0 1 rfl ?_)
 refine ie (sR_ rfl (pp2 2 5 6 rfl ?_))
 refine zv rfl (S4 rfl d om_ om_ c) ?_
 refine pp1 1 4 rfl ?_
 subst hR
 refine ie (A6 ?_)
 exact E2 hr hD
end Go.Proofs.YtkdgfkfbljdgmaaGreatDoor
set_option linter.unusedVariables false
set_option linter.unusedSimpArgs false
set_option linter.unnecessarySimpa false
namespace Go.Proofs.YtkdgfkfbljdgmaaGreatDoor
open Go Go.Fen
theorem C9u:ApTy Tryz.prog 22 65 1 24:=⟨by kernel_rfl,by kernel_rfl,rfl⟩
theorem B0d:SlTy Tryz.prog 33 68 6:=⟨by kernel_rfl,by kernel_rfl⟩
theorem C3m:Ty Tryz.prog 22 1 false:=⟨by kernel_rfl⟩
theorem B5b:Ty Tryz.prog 26 7 true:=⟨by kernel_rfl⟩
theorem D1v:Zero Tryz.prog 65 [.slice none 0 0]:=⟨by kernel_rfl⟩
def F8 (s:Shf) (a:Int):Int :=
 (bif ((((((((decide (a<1))||(decide ((40:Int)<a)))||(decide (s.top<0)))||(decide (s.bottom<s.top)))||(decide (a≤s.bottom)))||(decide (s.amt=0)))||(decide (s.amt<(s.top - s.bottom))))||(decide ((s.bottom - s.top)<s.amt))) then 2 else 0)
theorem X2 {s:Shf} {a:Int} (h:F8 s a=0):(1≤a∧a≤40)∧(0≤s.top∧s.top≤s.bottom∧s.bottom<a)∧s.amt≠0∧s.top - s.bottom≤s.amt∧s.amt≤s.bottom - s.top:=by
 unfold F8 at h
 generalize hc:((((((((decide (a<1))||(decide ((40:Int)<a)))||(decide (s.top<0)))||(decide (s.bottom<s.top)))||(decide (a≤s.bottom)))||(decide (s.amt=0)))||(decide (s.amt<(s.top - s.bottom))))||(decide ((s.bottom - s.top)<s.amt)))=c at h
 cases c with
 | true=>simp at h
 | false =>
  simp only [Bool.or_eq_false_iff,decide_eq_false_iff_not] at hc
  omega
set_option maxRecDepth 100000 in
theorem A1b {s:Shf} {a R:Int} (hR:F8 s a=R):J6 Tryz.prog 13 [ag (B2 s),iv a] [] (iv R):=by
 refine zce Tryz.func13 fun X hX hr hD=>?_
 replace hR:=(F8.eq_1 ..).symm.trans hR
 refine sR_ rfl (J3 2 0 [] (fun b=>[(2,pt b 0)]) (fun b=>[bx b (B2 s) 28]) (fun b=>?_))
 refine ie (A2 (sR_ rfl (pp1 3 7 rfl ?_)))
 refine zir 3 43 7 10 (decide ((40:Int)<a)) (fun q o=>?_) ?_
 ·refine pp1 3 10 rfl ?_
  exact A1 (J0 2 7 10 q A5.nil sb_ rfl rfl rfl rfl rfl)
 refine pp1 1 11 rfl ?_
 refine zio 4 38 11 15 (decide (s.top<0)) (fun j=>?_) ?_
 ·have m:=bq_ j
  refine pl1 4 [0] 15 rfl ?_
  exact A1 (J0 2 11 15 j A5.nil sb_ rfl rfl rfl rfl rfl)
 refine pp1 1 16 rfl ?_
 refine zio 6 31 16 22 (decide (s.bottom<s.top)) (fun e=>?_) ?_
 ·have p:=bq_ e
  refine pl1 6 [0,0] 22 rfl ?_
  exact A1 (J0 2 16 22 e A5.nil sb_ rfl rfl rfl rfl rfl)
 refine pp1 1 23 rfl ?_
 refine zio 5 25 23 28 (decide (a≤s.bottom)) (fun g=>?_) ?_
 ·have n:=bq_ g
  refine pl1 5 [0] 28 rfl ?_
  exact A1 (J0 2 23 28 g A5.nil sb_ rfl rfl rfl rfl rfl)
 refine pp1 1 29 rfl ?_
 refine zio 4 20 29 33 (decide (s.amt=0)) (fun i=>?_) ?_
 ·have k:=bq_ i
  refine pl1 4 [0] 33 rfl ?_
  exact A1 (J0 2 29 33 i A5.nil sb_ rfl rfl rfl rfl rfl)
 refine pp1 1 34 rfl ?_
 refine zio 9 10 34 43 (decide (s.amt<(s.top - s.bottom))) (fun f=>?_) ?_
 ·have l:=bq_ f
  refine pl3 6 [0,0,0] 36 38 40 rfl ?_
  refine ix rfl (R9 rfl rfl rfl rfl opx) ?_
  refine pp1 2 43 rfl ?_
  exact A1 (J0 6 34 43 f A5.nil sb_ rfl rfl rfl rfl rfl)
 refine pp1 1 44 rfl ?_
 refine zio 9 0 44 53 (decide ((s.bottom - s.top)<s.amt)) (fun h=>?_) ?_
 ·have r:=bq_ h
  refine pl3 6 [0,0,0] 46 48 50 rfl ?_
  refine ix rfl (R9 rfl rfl rfl rfl opx) ?_
  refine pp1 2 53 rfl ?_
  exact A1 (J0 6 44 53 h A5.nil sb_ rfl rfl rfl rfl rfl)
 refine ie ?_
 refine zjb rfl hR ?_ ?_<;>clear hR<;>intro hR d
 ·have c:=bq_ d
  refine sR_ rfl (pp1 1 4 rfl ?_)
  subst hR
  refine ie (A6 ?_)
  exact E2 hr hD
 have c:=bq_ d
 refine A3 (nx (sR_ rfl (pp1 1 4 rfl ?_)))
 subst hR
 refine ie (A6 ?_)
 exact E2 hr hD
def C0 (s:Shf) (r:Int):Int :=
 (bif ((decide (r<s.top))||(decide (s.bottom<r))) then r else (bif ((decide (s.top≤(r+s.amt)))&&(decide ((r+s.amt)≤s.bottom))) then (r+s.amt) else (-1)))
theorem U1 (s:Shf) (r:Int):(-1≤r→0≤s.top→-1≤C0 s r)∧∀ n:Int,0≤n→r<n→s.bottom<n→C0 s r<n:=by
 unfold C0
 simp only [Bool.cond_eq_ite,Bool.or_eq_true,Bool.and_eq_true,decide_eq_true_eq]
 refine ⟨fun b a=>?_,fun n c b a=>?_⟩<;>repeat' split
 all_goals omega
set_option maxRecDepth 100000 in
theorem A9g {s:Shf} {r R:Int} (hR:C0 s r=R) (h:-40≤s.amt∧s.amt≤40:=by exact om_) (hr:-1≤r∧r≤80:=by exact om_):J6 Tryz.prog 15 [ag (B2 s),iv r] [] (iv R):=by
 refine zce Tryz.func15 fun X hX hr hD=>?_
 replace hR:=(C0.eq_1 ..).symm.trans hR
 refine sR_ rfl (J3 2 0 [] (fun a=>[(2,pt a 0)]) (fun a=>[bx a (B2 s) 28]) (fun a=>?_))
 refine ie (A2 (sR_ rfl (pl2 3 [0] 6 8 rfl ?_)))
 refine ix rfl (A9 rfl rfl rfl rfl opx) ?_
 refine pp1 1 5 rfl ?_
 refine ie (A8 (sR_ rfl (pl1 5 [0] 15 rfl ?_)))
 refine zir 5 1 15 20 (decide (s.bottom<r)) (fun g e=>?_) ?_
 ·refine pl1 5 [0] 20 rfl ?_
  exact A1 (J0 2 15 20 g A5.nil sb_ rfl rfl rfl rfl rfl)
 refine pp1 1 10 rfl ?_
 refine ie ?_
 refine zjo rfl hR ?_ ?_<;>clear hR<;>intro hR j b
 ·refine sR_ rfl (pp1 2 4 rfl ?_)
  subst hR
  refine ie (A6 ?_)
  exact E2 hr hD
 refine sR_ rfl (pl1 5 [0] 27 rfl ?_)
 refine zid 5 1 27 32 (decide ((r+s.amt)≤s.bottom)) (fun c f=>?_) ?_
 ·refine pl1 5 [0] 32 rfl ?_
  exact A1 (J0 2 27 32 c A5.nil sb_ rfl rfl rfl rfl rfl)
 refine pp1 1 22 rfl ?_
 refine ie ?_
 refine zja rfl hR ?_ ?_<;>clear hR<;>intro hR i d
 ·refine sR_ rfl (pp1 2 4 rfl ?_)
  subst hR
  refine ie (A6 ?_)
  exact E2 hr hD
 refine A3 (nx (sR_ rfl (pp1 1 4 rfl ?_)))
 subst hR
 refine ie (A6 ?_)
 exact E2 hr hD
def S6 (a:Int):Nat→List Cel→Nat→List Cel
 | 0,_,_=>[]
 | fu1+1,out,b=>(bif (decide ((b:Int)<((List.replicate ((a).toNat) Cel.zero).length:Int))) then S6 a fu1 (out.set b ({(out.getD b Cel.zero) with base:=32})) (b+1) else out)
def X4 (a:Int):List Cel :=
 S6 a (((List.replicate ((a).toNat) Cel.zero).length - 0)+1) (List.replicate ((a).toNat) Cel.zero) 0
theorem D2p {α:Type} {l:List α} {d x:α} {i j:Nat} (a:i<l.length):(l.set i x).getD j d=if j=i then x else l.getD j d:=by
 by_cases e:j=i
 ·subst e;rw [if_pos rfl,List.getD_eq_getElem?_getD,List.getElem?_set_self a];rfl
 ·rw [if_neg e,List.getD_eq_getElem?_getD,List.getElem?_set_ne opx,List.getD_eq_getElem?_getD]
theorem A1k (b:Int) (n:Nat) (k:(List.replicate b.toNat Cel.zero).length=n):∀ (d:Nat) (a:List Cel) (t:Nat),n - t<d→a.length=n→(S6 b d a t).length=n∧∀ i,i<n→(S6 b d a t).getD i Cel.zero=if t≤i then {a.getD i Cel.zero with base:=32} else a.getD i Cel.zero
 | 0,a,t,h,_=>by omega
 | d+1,a,t,h,ho=>by
  simp only [S6]
  by_cases c:(t:Int)<((List.replicate b.toNat Cel.zero).length:Int)
  ·rw [decide_eq_true c,cond_true]
   obtain ⟨j,g⟩:=A1k b n k d (a.set t {(a.getD t Cel.zero) with base:=32}) (t+1) opx (by rw [List.length_set];exact ho)
   refine ⟨j,fun i f=>?_⟩
   rw [g i f,D2p opx]
   by_cases e:i=t
   ·subst e;rw [if_neg opx,if_pos rfl,if_pos (Nat.le_refl _)]
   ·rw [if_neg e]
    by_cases e2:t≤i
    ·rw [if_pos opx,if_pos e2]
    ·rw [if_neg opx,if_neg e2]
  ·rw [decide_eq_false c,cond_false]
   exact ⟨ho,fun i f=>by rw [if_neg opx]⟩
theorem A8f (a:Int):(X4 a).length=a.toNat:=by
 have:=(A1k a a.toNat oom ((List.replicate a.toNat Cel.zero).length - 0+1) (List.replicate a.toNat Cel.zero) 0 oom oom).1
 exact this
theorem B5d (a:Int) (i:Nat) (b:i<a.toNat):(X4 a).getD i Cel.zero={Cel.zero with base:=32}:=by
 have:=(A1k a a.toNat oom ((List.replicate a.toNat Cel.zero).length - 0+1) (List.replicate a.toNat Cel.zero) 0 oom oom).2 i b
 rw [if_pos (Nat.zero_le _)] at this
 refine Eq.trans this ?_
 rw [List.getD_eq_getElem?_getD,List.getElem?_replicate,if_pos b];rfl
theorem owe {p:Prop} (h:p:=by first|omega|(simp only [List.length_set];omega)):p:=h
set_option maxRecDepth 100000 in
theorem B0j {a:Int} {R:List Cel} (hR:X4 a=R) (w:0≤a∧a≤80:=by exact om_):Con Tryz.prog 16 [iv a] [] [] ({r:VR // VOk 12 R.length r}) (fun x=>.slice (va x.1.q) R.length x.1.k) (fun x=>((vo B1 106 x.1 R)++([]))) (fun x=>[]):=by
 refine zce Tryz.func16 fun X hX hr hD=>?_
 replace hR:=(X4.eq_1 ..).symm.trans hR
 refine sR_ rfl (pp0 1 rfl ?_)
 refine ie (sR_ rfl (pp1 1 5 rfl ?_))
 refine it rfl (A8s (f:=B1) (l:=(a).toNat) (c:=(a).toNat) Cel.zero C9x C4s.ok (fun _=>rfl) rfl (by exact congrArg (fun z=>some (Value.int .i64 z)) (show a=(((a).toNat:Nat):Int) by omega)) (by exact congrArg (fun z=>some (Value.int .i64 z)) (show a=(((a).toNat:Nat):Int) by omega)) opx ofv opx) fun ⟨p,h⟩=>?_
 have:(List.replicate ((a).toNat) Cel.zero).length=((a).toNat):=List.length_replicate
 have:=VOk.le h
 have:=VOk.cap h
 have:(List.replicate ((a).toNat) Cel.zero).length=((a).toNat):=List.length_replicate
 refine pp1 1 3 rfl ?_
 refine ie (A2 (sR_ rfl (pp2 3 8 9 rfl ?_)))
 refine ie (A8 ?_)
 refine A3q (un fun (i:Nat)=>un fun (e:List Cel)=>un fun (d:VR) (g:Nat)=>(((List.replicate ((a).toNat) Cel.zero).length - g)<i∧S6 a i e g=R∧VOk 12 e.length d∧e.length=a.toNat,[(3,.slice (va d.q) e.length d.k),(8,iv ((List.replicate ((a).toNat) Cel.zero).length:Int)),(9,iv (g:Int))],((vo B1 106 d e)++([])),[],i)) (((List.replicate ((a).toNat) Cel.zero).length - 0)+1,List.replicate ((a).toNat) Cel.zero,p,0) ⟨(Nat.lt_succ_self _),hR,h,oom⟩ sb_ A5.nil ?_
 rintro ⟨i,e,d,g⟩ ⟨t,hR,b,u⟩
 have:=VOk.le b
 obtain ⟨fu1,rfl⟩:∃ m,i=m+1:=⟨i - 1,by omega⟩
 replace hR:=(S6.eq_2 ..).symm.trans hR
 refine sR_ rfl (pp1 1 10 rfl ?_)
 refine ie (A2 ?_)
 refine zjd rfl hR ?_ ?_<;>clear hR<;>intro hR y v
 ·refine A3 (nx (A2 (A8 (sR_ rfl (pp1 2 4 rfl ?_)))))
  refine ie (A0 5 rfl (pp2 2 12 13 rfl ?_))
  obtain ⟨b5,j⟩:=VOk.some b opx
  obtain ⟨s,o,n⟩:=d
  obtain rfl:s=some b5:=j
  refine ix rfl (A0b A2p rfl rfl rfl g rfl opx) ?_
  refine pp1 1 15 rfl ?_
  refine it rfl (Y6 (us:=[iv 32]) (u':={(e.getD g Cel.zero) with base:=32}) (c:=B1) (sz:=12) ty3 (fun _=>rfl) rfl rfl rfl 0 rfl rfl rfl rfl g 0 rfl (gd Cel.zero opx) rfl rfl) fun _=>?_
  refine A1 (nx (A0 2 rfl (ix rfl (A9 rfl rfl rfl rfl opx) ?_)))
  refine pp1 1 9 rfl ?_
  refine A1 ?_
  exact A0y (z1:=(fu1+1,e,(⟨some b5,o,n⟩:VR),g)) (fu1,e.set g ({(e.getD g Cel.zero) with base:=32}),(⟨some b5,o,n⟩:VR),g+1) ⟨opx,hR,(VOk.cast b oom),owe⟩ (Nat.lt_succ_self _) sb_ A5.nil
 refine F6 (nx (sR_ rfl (pp1 2 2 rfl ?_)))
 subst hR
 refine ie (A6 ?_)
 exact zer hr hD (U4 rfl (A4 rfl)) ⟨d,b⟩ sb_ A5.nil
def O1 (f:FrmC) (c:List (List Cel)) (s:Shf):List (List Cel)→Nat→List (List Cel)→(FrmC×List (List Cel)×Int)
 | [],b,outRows=>(f,outRows,0)
 | hd_l0::tl_l0,b,outRows=>(bif (decide ((0:Int)≤(C0 s (b:Int)))) then O1 f c s tl_l0 (b+1) (outRows.set b (c.getD ((C0 s (b:Int)).toNat) [])) else (E8 (X4 f.cols) fun (a:List Cel)=>O1 f c s tl_l0 (b+1) (outRows.set b a)))
def K2 (f:FrmC) (a:List (List Cel)) (s:Shf):FrmC×List (List Cel)×Int :=
 (bif (!decide ((F3 f a)=0)) then (FrmC.zero,([]:List (List Cel)),(F3 f a)) else (bif (!decide ((F8 s (a.length:Int))=0)) then (FrmC.zero,([]:List (List Cel)),(F8 s (a.length:Int))) else O1 f a s a 0 (List.replicate a.length ([]:List Cel))))
def B0m (a:Int) (b:List (List Cel)) (s:Shf) (r:Nat):List Cel:=if 0≤C0 s (r:Int) then b.getD (C0 s (r:Int)).toNat [] else X4 a
theorem Z3 (f:FrmC) (a:List (List Cel)) (s:Shf):∀ (d:List (List Cel)) (t:Nat) (b:List (List Cel)),t+d.length=b.length →
  ∃ o,O1 f a s d t b=(f,o,0)∧o.length=b.length∧∀ r,r<b.length→o.getD r []=if t≤r then B0m f.cols a s r else b.getD r []
 | [],t,b,h=>⟨b,rfl,rfl,fun r hr=>by rw [if_neg (by simp only [List.length_nil] at h;omega)]⟩
 | x::d,t,b,h=>by
  simp only [List.length_cons] at h
  have g:O1 f a s (x::d) t b=O1 f a s d (t+1) (b.set t (B0m f.cols a s t)):=by
   simp only [O1,B0m,E8]
   by_cases c:0≤C0 s (t:Int)
   ·rw [decide_eq_true c,cond_true,if_pos c]
   ·rw [decide_eq_false c,cond_false,if_neg c]
  obtain ⟨o,k,i,j⟩:=Z3 f a s d (t+1) (b.set t (B0m f.cols a s t)) (by rw [List.length_set];omega)
  refine ⟨o,g.trans k,by rw [i,List.length_set],fun r hr=>?_⟩
  rw [j r (by rw [List.length_set];exact hr),D2p opx]
  by_cases e:r=t
  ·subst e;rw [if_neg opx,if_pos rfl,if_pos (Nat.le_refl _)]
  ·rw [if_neg e]
   by_cases e2:t≤r
   ·rw [if_pos opx,if_pos e2]
   ·rw [if_neg opx,if_neg e2]
theorem B7u {f:FrmC} {fRows:List (List Cel)} {s:Shf} {R:FrmC×List (List Cel)×Int} (h:K2 f fRows s=R) (a:R.2.2=0) :
  F3 f fRows=0∧F8 s (fRows.length:Int)=0∧∃ o,R=(f,o,0)∧o.length=fRows.length∧(∀ r,r<fRows.length→o.getD r []=B0m f.cols fRows s r):=by
 cases h1:decide (F3 f fRows=0) with
 | false =>
  have e:(K2 f fRows s).2.2=F3 f fRows:=by unfold K2;rw [h1];rfl
  rw [← h,e] at a;exact absurd a (of_decide_eq_false h1)
 | true =>
  cases h2:decide (F8 s (fRows.length:Int)=0) with
  | false =>
   have e:(K2 f fRows s).2.2=F8 s (fRows.length:Int):=by unfold K2;rw [h1,h2];rfl
   rw [← h,e] at a;exact absurd a (of_decide_eq_false h2)
  | true =>
   obtain ⟨o,d,b,c⟩:=Z3 f fRows s fRows 0 (List.replicate fRows.length ([]:List Cel)) oom
   have e:K2 f fRows s=(f,o,0):=by unfold K2;rw [h1,h2];exact d
   refine ⟨of_decide_eq_true h1,of_decide_eq_true h2,o,h.symm.trans e,by simpa using b,fun r hr=>?_⟩
   rw [c r (by simpa using hr),if_pos (Nat.zero_le _)]
theorem A0l (f:FrmC) (a:List (List Cel)) (s:Shf):(K2 f a s).1.title.length≤f.title.length:=by
 unfold K2
 cases decide (F3 f a=0) with
 | false=>exact Nat.zero_le _
 | true =>
  cases decide (F8 s (a.length:Int)=0) with
  | false=>exact Nat.zero_le _
  | true =>
   obtain ⟨o,b,_⟩:=Z3 f a s a 0 (List.replicate a.length ([]:List Cel)) oom
   simp only [Bool.not_true,cond_false,b];exact Nat.le_refl _
theorem opl {p:Prop} (h:p:=by first|rfl|simp only [List.flatten_cons,List.flatten_nil,List.append_nil,List.cons_append,List.nil_append,List.append_assoc]):p:=h
theorem omm {p:Prop} (h:p:=by first|rfl|simp only [List.cons_append,List.append_assoc,List.nil_append,List.append_nil]):p:=h
set_option maxRecDepth 100000 in
theorem A4h {f:FrmC} {fRows:List (List Cel)} {s:Shf} {h:Option Addr} {i:List Slc} {fRowsk:Nat} {R:FrmC×List (List Cel)×Int} (hR:K2 f fRows s=R) (o:E3 i fRows:=by exact om_) (ac:fRows.length≤9223372036854775807:=by exact om_) (ae:fRows.length≤fRowsk:=by exact om_) (hT:f.title.length≤100000000:=by exact om_):Con Tryz.prog 5 [ag (B0 f ⟨h,fRows.length,fRowsk⟩),ag (B2 s)] [] [sl E4 h i,D3 B1 i fRows,O9,P0] ({t:VR×List Slc // VOk 1 R.2.1.length t.1∧E3 t.2 R.2.1}) (fun x=>.tuple #[ag (B0 R.1 ⟨va x.1.1.q,R.2.1.length,x.1.1.k⟩),iv R.2.2]) (fun x=>((vo E4 65 x.1.1 x.1.2)++([]))) (fun x=>[D3 B1 x.1.2 R.2.1]):=by
 refine zce Tryz.func5 fun X hX hr hD=>?_
 replace hR:=(K2.eq_1 ..).symm.trans hR
 have:=o.1
 refine sR_ rfl (D1k 4 0 [] (fun w y z=>[(2,pt w 0),(3,pt y 0),(4,pt z 0)]) (fun w y z=>[bx z (B0 FrmC.zero ⟨none,0,0⟩) 26,bx y (B2 s) 28,bx w (B0 f ⟨h,fRows.length,fRowsk⟩) 26]) (fun w y z=>?_))
 refine ie (A2 (sR_ rfl (zrl 1 2 [2] [(11,ag (B0 f ⟨h,fRows.length,fRowsk⟩))] ?_)))
 refine zv rfl (A3e rfl o) ?_
 refine pp1 1 6 rfl ?_
 refine ie (sR_ rfl (pp1 2 14 rfl ?_))
 refine ie ?_
 refine zjn rfl hR ?_ ?_<;>clear hR<;>intro hR h4 b0
 ·refine sR_ rfl (zrg 4 0 [0] [(5,iv (F3 f fRows))] [bx z (B0 FrmC.zero ⟨none,0,0⟩) 26,bx y (B2 s) 28,bx w (B0 f ⟨h,fRows.length,fRowsk⟩) 26] ?_)
  subst hR
  refine ie (A6 ?_)
  exact zer hr hD (V1 rfl (L6 (us:=B0 FrmC.zero ⟨none,0,0⟩) B5b rfl 0 rfl rfl rfl) (A4 rfl)) ⟨(VR.nil,([]:List Slc)),⟨VOk.nil,E3.none⟩⟩ sb_ fo_
 have aj:=A2d (by simpa using h4)
 have av:=aj.2.2.2.2
 refine A3 (nx (A2 (sR_ rfl (zrl 4 2 [1,2] [(17,ag (B2 s)),(20,iv (fRows.length:Int))] ?_))))
 refine zv rfl (A1b rfl) ?_
 refine pp1 1 7 rfl ?_
 refine ie (sR_ rfl (pp1 2 23 rfl ?_))
 refine ie ?_
 refine zjn rfl hR ?_ ?_<;>clear hR<;>intro hR h5 az
 ·refine sR_ rfl (zrg 4 0 [0] [(5,iv (F8 s (fRows.length:Int)))] [bx z (B0 FrmC.zero ⟨none,0,0⟩) 26,bx y (B2 s) 28,bx w (B0 f ⟨h,fRows.length,fRowsk⟩) 26] ?_)
  subst hR
  refine ie (A6 ?_)
  exact zer hr hD (V1 rfl (L6 (us:=B0 FrmC.zero ⟨none,0,0⟩) B5b rfl 0 rfl rfl rfl) (A4 rfl)) ⟨(VR.nil,([]:List Slc)),⟨VOk.nil,E3.none⟩⟩ sb_ fo_
 have aw:=X2 (by simpa using h5)
 refine A3 (nx (sR_ rfl (J3 3 0 [2,0] (fun b6=>[(8,pt b6 0)]) (fun b6=>[bx b6 (B0 f ⟨h,fRows.length,fRowsk⟩) 26,bx z (B0 FrmC.zero ⟨none,0,0⟩) 26,bx y (B2 s) 28,bx w (B0 f ⟨h,fRows.length,fRowsk⟩) 26]) (fun b6=>?_))))
 refine ie (sR_ rfl (pl1 3 [3] 29 rfl ?_))
 refine M8 (q:=D3 B1 (List.replicate fRows.length (⟨none,0,0⟩:Slc)) (List.replicate fRows.length ([]:List Cel))) C2f ?_
 refine it rfl (C5r (β:=Cel) (l:=fRows.length) (c:=fRows.length) C9u D1v.ok rfl rfl rfl opx ofv opx) fun ⟨r7,aa⟩=>?_
 have:=VOk.le aa
 have:=VOk.cap aa
 have:(List.replicate fRows.length ([]:List Cel)).length=fRows.length:=List.length_replicate
 refine zrg 2 0 [0] [] (bx b6 (B0 f ⟨va r7.q,(List.replicate fRows.length ([]:List Cel)).length,r7.k⟩) 26::bx z (B0 FrmC.zero ⟨none,0,0⟩) 26::bx y (B2 s) 28::bx w (B0 f ⟨h,fRows.length,fRowsk⟩) 26::((vo E4 65 r7 (List.replicate fRows.length (⟨none,0,0⟩:Slc)))++([]))) ?_
 refine ie (A2 (sR_ rfl (pl2 4 [3] 34 35 rfl ?_)))
 refine ie (A8 ?_)
 refine A3q (un fun (j:Nat)=>un fun (e:List (List Cel))=>un fun (a:VR) (b:List Slc)=>(j≤fRows.length∧O1 f fRows s (fRows.drop j) j e=R∧VOk 1 e.length a∧E3 b e∧e.length=fRows.length,[(2,pt w 0),(3,pt y 0),(4,pt z 0),(8,pt b6 0),(34,iv (fRows.length:Int)),(35,iv (j:Int))],(bx b6 (B0 f ⟨va a.q,e.length,a.k⟩) 26::bx z (B0 FrmC.zero ⟨none,0,0⟩) 26::bx y (B2 s) 28::bx w (B0 f ⟨h,fRows.length,fRowsk⟩) 26::((vo E4 65 a b)++([]))),[D3 B1 (List.replicate fRows.length (⟨none,0,0⟩:Slc)) (List.replicate fRows.length ([]:List Cel)),sl E4 h i,D3 B1 i fRows,O9,P0,D3 B1 b e],fRows.length - j)) (0,(List.replicate fRows.length ([]:List Cel)),r7,(List.replicate fRows.length (⟨none,0,0⟩:Slc))) ⟨opx,hR,aa,(E3.rep fRows.length),(by first|omega|simp)⟩ sb_ fo_ ?_
 rintro ⟨j,e,a,b⟩ ⟨ar,hR,p,g,ay⟩
 have:=VOk.le p
 have:=g.1
 refine sR_ rfl (pp1 1 36 rfl ?_)
 refine ie (A2 (W2 rfl (fun a9=>?_) (fun a9=>?_)))
 ·have a7:=bq_ a9
  rw [Y3 [] (show j<fRows.length by omega)] at hR;replace hR:=(O1.eq_2 ..).symm.trans hR
  refine A3 (nx (A2 (A8 (sR_ rfl (pp1 2 9 rfl ?_)))))
  refine ie (sR_ rfl (zrl 2 2 [2] [(38,ag (B2 s)),(39,iv (j:Int))] ?_))
  refine zv rfl (A9g rfl) ?_
  have an:=U1 s (j:Int)
  refine pp1 1 10 rfl ?_
  refine ie (sR_ rfl (pp1 2 42 rfl ?_))
  refine ie ?_
  refine zjd rfl hR ?_ ?_<;>clear hR<;>intro hR aq am
  ·have ao:=(U1 s (j:Int)).2 fRows.length opx opx opx
   refine A0p (V2 (k:=(C0 s (j:Int)).toNat) (d:=(⟨none,0,0⟩:Slc)) o 2 rfl (by have:=o.1;omega)) ?_
   have:=U7 o (k:=(C0 s (j:Int)).toNat) (d:=(⟨none,0,0⟩:Slc)) (by have:=o.1;omega)
   refine A0p (V2 (k:=j) (d:=(⟨none,0,0⟩:Slc)) g 6 rfl (by have:=g.1;omega)) ?_
   have:=U7 g (k:=j) (d:=(⟨none,0,0⟩:Slc)) (by have:=g.1;omega)
   refine sh' 10 [(10,[bx b6 (B0 f ⟨va a.q,e.length,a.k⟩) 26]),(10,[bx z (B0 FrmC.zero ⟨none,0,0⟩) 26]),(10,[bx y (B2 s) 28]),(10,[bx w (B0 f ⟨h,fRows.length,fRowsk⟩) 26]),(9,vo E4 65 a b)] [sl B1 ((b.getD j (⟨none,0,0⟩:Slc)).q) (e.getD j []),sl B1 ((i.getD ((C0 s (j:Int)).toNat) (⟨none,0,0⟩:Slc)).q) (fRows.getD ((C0 s (j:Int)).toNat) []),D3 B1 (List.replicate fRows.length (⟨none,0,0⟩:Slc)) (List.replicate fRows.length ([]:List Cel)),sl E4 h i,D3 B1 i fRows,O9,P0,D3 B1 b e] (bx b6 (B0 f ⟨va a.q,e.length,a.k⟩) 26::bx z (B0 FrmC.zero ⟨none,0,0⟩) 26::bx y (B2 s) 28::bx w (B0 f ⟨h,fRows.length,fRowsk⟩) 26::((vo E4 65 a b)++([]))) (zml 10 0) oki rfl oki oki oki sb_ A5.refl ?_
   refine zhp [0,2,3,5] 6 (zml 10 45) [(43,pt b6 1),(45,iv (j:Int)),(46,pt w 1),(48,iv (C0 s (j:Int)))] ?_
   refine zhl 1 (bx b6 (B0 f ⟨va a.q,e.length,a.k⟩) 26::bx z (B0 FrmC.zero ⟨none,0,0⟩) 26::bx y (B2 s) 28::bx w (B0 f ⟨h,fRows.length,fRowsk⟩) 26::((vo E4 65 a b)++([]))) (zml 10 47) rfl (A7 (v:=.slice (va a.q) e.length a.k) C3m rfl rfl 0 rfl rfl) ?_
   refine zhl 4 (bx b6 (B0 f ⟨va a.q,e.length,a.k⟩) 26::bx z (B0 FrmC.zero ⟨none,0,0⟩) 26::bx y (B2 s) 28::bx w (B0 f ⟨h,fRows.length,fRowsk⟩) 26::((vo E4 65 a b)++([]))) (zml 10 63) rfl (A7 (v:=.slice h fRows.length fRowsk) C3m rfl rfl 3 rfl rfl) ?_
   refine B9w 3 rfl (by have:=o.1;omega) fun au a8=>?_
   refine zhk 6 (zml 10 127) rfl (F7 A8c rfl rfl a8 rfl ((C0 s (j:Int)).toNat) opx opx) ?_
   refine zhk 7 (zml 10 255) rfl (H2 (D8 (v:=.slice ((i.getD ((C0 s (j:Int)).toNat) (⟨none,0,0⟩:Slc)).q) ((i.getD ((C0 s (j:Int)).toNat) (⟨none,0,0⟩:Slc)).n) ((i.getD ((C0 s (j:Int)).toNat) (⟨none,0,0⟩:Slc)).k)) (us:=[.slice ((i.getD ((C0 s (j:Int)).toNat) (⟨none,0,0⟩:Slc)).q) ((i.getD ((C0 s (j:Int)).toNat) (⟨none,0,0⟩:Slc)).n) ((i.getD ((C0 s (j:Int)).toNat) (⟨none,0,0⟩:Slc)).k)]) A6h rfl rfl (H5 (c:=E4) (sz:=1) a8 (fun _=>rfl) 3 rfl (gd (⟨none,0,0⟩:Slc) (by have:=o.1;omega))) rfl) (Y2 o (by have:=o.1;omega))) ?_
   obtain ⟨b14,ah⟩:=VOk.some p opx
   obtain ⟨al,a6,a5⟩:=a
   obtain rfl:al=some b14:=ah
   refine zhl 8 (bx b6 (B0 f ⟨va (⟨some b14,a6,a5⟩:VR).q,e.length,(⟨some b14,a6,a5⟩:VR).k⟩) 26::bx z (B0 FrmC.zero ⟨none,0,0⟩) 26::bx y (B2 s) 28::bx w (B0 f ⟨h,fRows.length,fRowsk⟩) 26::((vo E4 65 (⟨some b14,a6,a5⟩:VR) b)++([]))) (zml 10 511) rfl (A0b A8c rfl rfl rfl j rfl (by have:=g.1;omega)) ?_
   have af:E3 (b.set j (⟨(i.getD ((C0 s (j:Int)).toNat) (⟨none,0,0⟩:Slc)).q,(fRows.getD ((C0 s (j:Int)).toNat) []).length,(i.getD ((C0 s (j:Int)).toNat) (⟨none,0,0⟩:Slc)).k⟩:Slc)) (e.set j (fRows.getD ((C0 s (j:Int)).toNat) [])):=E3.set g j ⟨rfl,okl,okl⟩
   refine A8u (B7p j (r:=(⟨(i.getD ((C0 s (j:Int)).toNat) (⟨none,0,0⟩:Slc)).q,(fRows.getD ((C0 s (j:Int)).toNat) []).length,(i.getD ((C0 s (j:Int)).toNat) (⟨none,0,0⟩:Slc)).k⟩:Slc)) (xs:=(fRows.getD ((C0 s (j:Int)).toNat) [])) (D4 7 rfl) (D4 1 rfl)) ?_
   refine zho 9 [bx b6 (B0 f ⟨va (⟨some b14,a6,a5⟩:VR).q,e.length,(⟨some b14,a6,a5⟩:VR).k⟩) 26,bx z (B0 FrmC.zero ⟨none,0,0⟩) 26,bx y (B2 s) 28,bx w (B0 f ⟨h,fRows.length,fRowsk⟩) 26] (zml 10 1023) rfl (Y6 (us:=[.slice ((i.getD ((C0 s (j:Int)).toNat) (⟨none,0,0⟩:Slc)).q) ((fRows.getD ((C0 s (j:Int)).toNat) []).length) ((i.getD ((C0 s (j:Int)).toNat) (⟨none,0,0⟩:Slc)).k)]) (u':=(⟨(i.getD ((C0 s (j:Int)).toNat) (⟨none,0,0⟩:Slc)).q,(fRows.getD ((C0 s (j:Int)).toNat) []).length,(i.getD ((C0 s (j:Int)).toNat) (⟨none,0,0⟩:Slc)).k⟩:Slc)) (c:=E4) (sz:=1) A6h (fun _=>rfl) rfl rfl rfl 4 rfl rfl rfl rfl j 0 rfl (gd (⟨none,0,0⟩:Slc) (by have:=g.1;omega)) rfl rfl) (fun _=>sb_) (fun _=>fo_) fun _=>?_
   refine A0s oki ?_
   refine nx (A0 2 rfl (ix rfl (A9 rfl rfl rfl rfl opx) ?_))
   refine pp1 1 35 rfl ?_
   refine A1 ?_
   exact A0y (z1:=(j,e,(⟨some b14,a6,a5⟩:VR),b)) (j+1,(e.set j (fRows.getD ((C0 s (j:Int)).toNat) [])),(⟨some b14,a6,a5⟩:VR),(b.set j (⟨(i.getD ((C0 s (j:Int)).toNat) (⟨none,0,0⟩:Slc)).q,(fRows.getD ((C0 s (j:Int)).toNat) []).length,(i.getD ((C0 s (j:Int)).toNat) (⟨none,0,0⟩:Slc)).k⟩:Slc))) ⟨opx,hR,(VOk.cast p oom),af,owe⟩ olr sb_ fo_
  refine A0p (V2 (k:=j) (d:=(⟨none,0,0⟩:Slc)) g 5 rfl (by have:=g.1;omega)) ?_
  have:=U7 g (k:=j) (d:=(⟨none,0,0⟩:Slc)) (by have:=g.1;omega)
  refine sh' 8 [(8,[bx b6 (B0 f ⟨va a.q,e.length,a.k⟩) 26]),(8,[bx z (B0 FrmC.zero ⟨none,0,0⟩) 26]),(8,[bx y (B2 s) 28]),(8,[bx w (B0 f ⟨h,fRows.length,fRowsk⟩) 26]),(7,vo E4 65 a b)] [sl B1 ((b.getD j (⟨none,0,0⟩:Slc)).q) (e.getD j []),D3 B1 (List.replicate fRows.length (⟨none,0,0⟩:Slc)) (List.replicate fRows.length ([]:List Cel)),sl E4 h i,D3 B1 i fRows,O9,P0,D3 B1 b e] (bx b6 (B0 f ⟨va a.q,e.length,a.k⟩) 26::bx z (B0 FrmC.zero ⟨none,0,0⟩) 26::bx y (B2 s) 28::bx w (B0 f ⟨h,fRows.length,fRowsk⟩) 26::((vo E4 65 a b)++([]))) (zml 8 0) oki rfl oki oki oki sb_ A5.refl ?_
  refine zhp [0,2,3] 5 (zml 8 13) [(52,pt b6 1),(54,iv (j:Int)),(55,pt w 0)] ?_
  refine zhl 1 (bx b6 (B0 f ⟨va a.q,e.length,a.k⟩) 26::bx z (B0 FrmC.zero ⟨none,0,0⟩) 26::bx y (B2 s) 28::bx w (B0 f ⟨h,fRows.length,fRowsk⟩) 26::((vo E4 65 a b)++([]))) (zml 8 15) rfl (A7 (v:=.slice (va a.q) e.length a.k) C3m rfl rfl 0 rfl rfl) ?_
  refine zhl 4 (bx b6 (B0 f ⟨va a.q,e.length,a.k⟩) 26::bx z (B0 FrmC.zero ⟨none,0,0⟩) 26::bx y (B2 s) 28::bx w (B0 f ⟨h,fRows.length,fRowsk⟩) 26::((vo E4 65 a b)++([]))) (zml 8 31) rfl (A7 (v:=iv f.cols) ty3 rfl rfl 3 rfl rfl) ?_
  have hQ:=E9 hR;clear hR;obtain ⟨m,a4,hR⟩:=hQ
  refine zho 5 (bx b6 (B0 f ⟨va a.q,e.length,a.k⟩) 26::bx z (B0 FrmC.zero ⟨none,0,0⟩) 26::bx y (B2 s) 28::bx w (B0 f ⟨h,fRows.length,fRowsk⟩) 26::((vo E4 65 a b)++([]))) (zml 8 63) rfl (I4 (L2:=(bx b6 (B0 f ⟨va a.q,e.length,a.k⟩) 26::bx z (B0 FrmC.zero ⟨none,0,0⟩) 26::bx y (B2 s) 28::bx w (B0 f ⟨h,fRows.length,fRowsk⟩) 26::((vo E4 65 a b)++([])))) (B0j a4) rfl rfl rfl rfl rfl A5.nil (List.Perm.refl _) (fun ⟨u,a1⟩=>(bx b6 (B0 f ⟨va a.q,e.length,a.k⟩) 26::bx z (B0 FrmC.zero ⟨none,0,0⟩) 26::bx y (B2 s) 28::bx w (B0 f ⟨h,fRows.length,fRowsk⟩) 26::((vo B1 106 u m)++((vo E4 65 a b)++([]))))) (fun ⟨u,a1⟩=>J5 [vo B1 106 u m,[bx b6 (B0 f ⟨va a.q,e.length,a.k⟩) 26],[bx z (B0 FrmC.zero ⟨none,0,0⟩) 26],[bx y (B2 s) 28],[bx w (B0 f ⟨h,fRows.length,fRowsk⟩) 26],vo E4 65 a b] [1,2,3,4,0,5] 6 rfl ozw opl [[bx b6 (B0 f ⟨va a.q,e.length,a.k⟩) 26],[bx z (B0 FrmC.zero ⟨none,0,0⟩) 26],[bx y (B2 s) 28],[bx w (B0 f ⟨h,fRows.length,fRowsk⟩) 26],vo B1 106 u m,vo E4 65 a b] rfl opl)) (fun ⟨u,a1⟩=>sb_) (fun ⟨u,a1⟩=>A5.refl) fun ⟨u,a1⟩=>?_
  have:=VOk.le a1
  have:=VOk.cap a1
  obtain ⟨b22,ab⟩:=VOk.some p opx
  obtain ⟨ak,a2,a3⟩:=a
  obtain rfl:ak=some b22:=ab
  refine zhl 6 (bx b6 (B0 f ⟨va (⟨some b22,a2,a3⟩:VR).q,e.length,(⟨some b22,a2,a3⟩:VR).k⟩) 26::bx z (B0 FrmC.zero ⟨none,0,0⟩) 26::bx y (B2 s) 28::bx w (B0 f ⟨h,fRows.length,fRowsk⟩) 26::((vo E4 65 (⟨some b22,a2,a3⟩:VR) b)++([]))) (zml 8 127) rfl (A0b A8c rfl rfl rfl j rfl (by have:=g.1;omega)) ?_
  have:=VOk.cap a1
  have:=VOk.le a1
  refine A7u [bx b6 (B0 f ⟨va (⟨some b22,a2,a3⟩:VR).q,e.length,(⟨some b22,a2,a3⟩:VR).k⟩) 26,bx z (B0 FrmC.zero ⟨none,0,0⟩) 26,bx y (B2 s) 28,bx w (B0 f ⟨h,fRows.length,fRowsk⟩) 26] ((vo E4 65 (⟨some b22,a2,a3⟩:VR) b)++([])) (T:=106) (c:=B1) (r:=u) (xs:=m) a1 omm (bx b6 (B0 f ⟨va (⟨some b22,a2,a3⟩:VR).q,e.length,(⟨some b22,a2,a3⟩:VR).k⟩) 26::bx z (B0 FrmC.zero ⟨none,0,0⟩) 26::bx y (B2 s) 28::bx w (B0 f ⟨h,fRows.length,fRowsk⟩) 26::((vo E4 65 (⟨some b22,a2,a3⟩:VR) b)++([]))) rfl sb_ ?_
  have ad:E3 (b.set j (⟨va u.q,m.length,u.k⟩:Slc)) (e.set j m):=E3.set g j ⟨rfl,okl,okl⟩
  refine A8u (B7p j (r:=(⟨va u.q,m.length,u.k⟩:Slc)) (xs:=m) (D4 7 rfl) (D4 0 rfl)) ?_
  refine zho 7 [bx b6 (B0 f ⟨va (⟨some b22,a2,a3⟩:VR).q,e.length,(⟨some b22,a2,a3⟩:VR).k⟩) 26,bx z (B0 FrmC.zero ⟨none,0,0⟩) 26,bx y (B2 s) 28,bx w (B0 f ⟨h,fRows.length,fRowsk⟩) 26] (zml 8 255) rfl (Y6 (us:=[.slice (va u.q) m.length u.k]) (u':=(⟨va u.q,m.length,u.k⟩:Slc)) (c:=E4) (sz:=1) A6h (fun _=>rfl) rfl rfl rfl 4 rfl rfl rfl rfl j 0 rfl (gd (⟨none,0,0⟩:Slc) (by have:=g.1;omega)) rfl rfl) (fun _=>sb_) (fun _=>fo_) fun _=>?_
  refine A0s oki ?_
  refine nx (A0 2 rfl (ix rfl (A9 rfl rfl rfl rfl opx) ?_))
  refine pp1 1 35 rfl ?_
  refine A1 ?_
  exact A0y (z1:=(j,e,(⟨some b22,a2,a3⟩:VR),b)) (j+1,e.set j m,(⟨some b22,a2,a3⟩:VR),(b.set j (⟨va u.q,m.length,u.k⟩:Slc))) ⟨opx,hR,(VOk.cast p oom),ad,owe⟩ olr sb_ fo_
 have a7:=bq_ a9
 rw [Y4 a7] at hR;replace hR:=(O1.eq_1 ..).symm.trans hR
 refine F6 (nx (sR_ rfl (zrg 3 0 [0,1] [(5,iv 0)] (bx b6 (B0 f ⟨va a.q,e.length,a.k⟩) 26::bx z (B0 f ⟨va a.q,e.length,a.k⟩) 26::bx y (B2 s) 28::bx w (B0 f ⟨h,fRows.length,fRowsk⟩) 26::((vo E4 65 a b)++([]))) ?_)))
 subst hR
 refine ie (A6 ?_)
 exact zer hr hD (V1 rfl (L6 (us:=B0 f ⟨va a.q,e.length,a.k⟩) B5b rfl 1 rfl rfl rfl) (A4 rfl)) ⟨(a,b),⟨p,g⟩⟩ sb_ fo_
def R5 (s:Shf) (a:Act):List Act×Int :=
 (([{Act.zero with kind:=38,n:=(s.top+1),m:=(s.bottom+1)},a,{Act.zero with kind:=38}]:List Act),0)
def R2 (s:Shf) (a:Int):List Act×Int :=
 (bif (!decide ((F8 s a)=0)) then (([]:List Act),(F8 s a)) else (bif (decide (s.amt<0)) then R5 s ({Act.zero with kind:=33,m:=(-s.amt),n:=1}) else R5 s ({Act.zero with kind:=33,m:=s.amt})))
def B4b (l:List Act):Prop:=l.length=3∧l.getD 0 Act.zero=⟨38,(l.getD 0 Act.zero).n,(l.getD 0 Act.zero).m,Col.zero,[]⟩∧l.getD 1 Act.zero=⟨33,(l.getD 1 Act.zero).n,(l.getD 1 Act.zero).m,Col.zero,[]⟩∧l.getD 2 Act.zero=⟨38,0,0,Col.zero,[]⟩
theorem B4b.at0 {l:List Act} (h:B4b l):l.getD 0 Act.zero=⟨38,(l.getD 0 Act.zero).n,(l.getD 0 Act.zero).m,Col.zero,[]⟩:=h.2.1
theorem B4b.at1 {l:List Act} (h:B4b l):l.getD 1 Act.zero=⟨33,(l.getD 1 Act.zero).n,(l.getD 1 Act.zero).m,Col.zero,[]⟩:=h.2.2.1
theorem B4b.at2 {l:List Act} (h:B4b l):l.getD 2 Act.zero=⟨38,0,0,Col.zero,[]⟩:=h.2.2.2
theorem C9p {s:Shf} {n:Int} {R:List Act×Int} (h:R2 s n=R) (a:R.2=0):B4b R.1:=by
 subst h
 unfold R2 R5 at *
 cases h1:(!decide ((F8 s n)=0)) with
 | true=>rw [h1,cond_true] at a;exact absurd a (by simpa using h1)
 | false=>rw [cond_false];cases decide (s.amt<0)<;>exact ⟨rfl,rfl,rfl,rfl⟩
set_option maxRecDepth 100000 in
theorem A8g {s:Shf} {d:Int} {R:List Act×Int} (hR:R2 s d=R):Con Tryz.prog 6 [ag (B2 s),iv d] [] [] ({t:Option Addr×Nat // R.1.length≤t.2∧R.1.length≤9223372036854775807}) (fun x=>.tuple #[.slice x.1.1 R.1.length x.1.2,iv R.2]) (fun x=>[]) (fun x=>[sl B8 x.1.1 R.1]):=by
 refine zce Tryz.func6 fun X hX hr hD=>?_
 replace hR:=(R2.eq_1 ..).symm.trans hR
 refine sR_ rfl (J3 3 0 [] (fun b=>[(2,pt b 0)]) (fun b=>[bx b (B2 s) 28]) (fun b=>?_))
 refine ie (A2 (sR_ rfl (zrl 2 2 [0] [(8,ag (B2 s)),(9,iv d)] ?_)))
 refine zv rfl (A1b rfl) ?_
 refine pp1 1 6 rfl ?_
 refine ie (sR_ rfl (pp1 2 12 rfl ?_))
 refine ie ?_
 refine zjn rfl hR ?_ ?_<;>clear hR<;>intro hR h f
 ·refine sR_ rfl (pp2 3 4 5 rfl ?_)
  subst hR
  refine ie (A6 ?_)
  exact zer hr hD (V1 rfl (A4 rfl) (A4 rfl)) (zq none 0) sb_ fo_
 have i:=X2 (by simpa using h)
 refine A3 (nx (sR_ rfl (J3 5 0 [0,0] (fun e=>[(7,pt e 0)]) (fun e=>[bx e (B8 ({Act.zero with kind:=33,m:=s.amt})) 68,bx b (B2 s) 28]) (fun e=>?_))))
 refine ie (B2l (fun (a:Act)=>(R5 s a=R,[(2,pt b 0),(7,pt e 0)],[bx e (B8 a) 68,bx b (B2 s) 28],[])) ?_ ?_)
 ·refine sR_ rfl (pl1 3 [1] 19 rfl ?_)
  refine ie ?_
  refine zjd rfl hR ?_ ?_<;>clear hR<;>intro hR k j
  ·refine sh' 7 [(4,[bx e (B8 ({Act.zero with kind:=33,m:=s.amt})) 68]),(7,[bx b (B2 s) 28])] [] [bx e (B8 ({Act.zero with kind:=33,m:=s.amt})) 68,bx b (B2 s) 28] (zml 7 0) oki rfl oki oki oki sb_ A5.refl ?_
   refine zhp [0,3] 5 (zml 7 9) [(20,pt b 2),(23,pt e 1)] ?_
   refine zhl 1 [bx b (B2 s) 28] (zml 7 11) rfl (A7 (v:=iv s.amt) ty3 rfl rfl 0 rfl rfl) ?_
   refine zhk 2 (zml 7 15) rfl (B2x rfl rfl rfl opx) ?_
   refine zho 4 [bx b (B2 s) 28] (zml 7 31) rfl (D0 (us:=[iv 1]) (cs':=B8 ({Act.zero with kind:=33,m:=s.amt,n:=1})) ty3 rfl rfl rfl 0 rfl rfl rfl rfl rfl rfl) (fun _=>sb_) (fun _=>A5.nil) fun _=>?_
   refine zhp [5] 1 (zml 7 63) [(24,pt e 2)] ?_
   refine zho 6 [bx b (B2 s) 28] (zml 7 127) rfl (D0 (us:=[iv (-s.amt)]) (cs':=B8 ({Act.zero with kind:=33,m:=(-s.amt),n:=1})) ty3 rfl rfl rfl 0 rfl rfl rfl rfl rfl rfl) (fun _=>sb_) (fun _=>A5.nil) fun _=>?_
   refine A0s oki ?_
   exact A1d ({Act.zero with kind:=33,m:=(-s.amt),n:=1}) hR sb_ A5.nil
  refine A3 ?_
  exact A1d ({Act.zero with kind:=33,m:=s.amt}) hR sb_ A5.nil
 intro a
 rintro hR
 replace hR:=(R5.eq_1 ..).symm.trans hR
 refine sR_ rfl (pl1 2 [1] 26 rfl ?_)
 refine ix rfl (A9 rfl rfl rfl rfl opx) ?_
 refine pl1 2 [1] 29 rfl ?_
 refine ix rfl (A9 rfl rfl rfl rfl opx) ?_
 refine zrl 3 3 [0] [(31,ag (B8 ({Act.zero with kind:=38,n:=(s.top+1),m:=(s.bottom+1)}))),(32,ag (B8 a)),(33,ag (B8 ({Act.zero with kind:=38})))] ?_
 refine it rfl (G2 (c:=B8) (xs:=([{Act.zero with kind:=38,n:=(s.top+1),m:=(s.bottom+1)},a,{Act.zero with kind:=38}]:List Act)) B0d rfl rfl rfl oki) fun g=>?_
 have:([{Act.zero with kind:=38,n:=(s.top+1),m:=(s.bottom+1)},a,{Act.zero with kind:=38}]:List Act).length=3:=rfl
 refine pp2 2 4 5 rfl ?_
 subst hR
 refine ie (A6 ?_)
 exact zer hr hD (V1 rfl (A4 rfl) (A4 rfl)) (zq (some ⟨g,0,none⟩) 3) sb_ fo_
end Go.Proofs.YtkdgfkfbljdgmaaGreatDoor
set_option linter.unusedVariables false
set_option linter.unusedSimpArgs false
set_option linter.unnecessarySimpa false
set_option maxRecDepth 100000
namespace Go.Proofs.YtkdgfkfbljdgmaaGreatDoor
open Go Go.Fen
theorem C1x:MapTy Tryz.prog 78 3 83 (.int .i64):=⟨by kernel_rfl,by kernel_rfl,rfl⟩
theorem H1:MapTy Tryz.prog 121 3 119 (.int .i64):=⟨by kernel_rfl,by kernel_rfl,rfl⟩
theorem B1c:Ty Tryz.prog 36 1 false:=⟨by kernel_rfl⟩
theorem C4b:Ty Tryz.prog 38 3 true:=⟨by kernel_rfl⟩
theorem C6j:Ty Tryz.prog 42 8 true:=⟨by kernel_rfl⟩
theorem D0t:Ty Tryz.prog 45 6 true:=⟨by kernel_rfl⟩
theorem D3s:Ty Tryz.prog 50 19 true:=⟨by kernel_rfl⟩
theorem B2n:Ty Tryz.prog 119 2 true:=⟨by kernel_rfl⟩
theorem A4j:Zero Tryz.prog 119 [.nilFunc,.nilFunc]:=⟨by kernel_rfl⟩
def Q6 (s:ScrC) (sMain:List (Rwc Cel)) (sAlt:List (Rwc Cel)) (sTabs:List Bool):Int×Int×Int×Int×Bool :=
 (s.rows,s.cols,s.top,s.bottom,s.modes.origin)
theorem A2q {s:ScrC} {sMain sAlt:List (Rwc Cel)} {sTabs:List Bool} {sb:Nat} {sMainq:Option Addr} {sMainrs:List Rwq} {sMaink:Nat} {sAltq:Option Addr} {sAltrs:List Rwq} {sAltk:Nat} {sTabsq:Option Addr} {sTabsk:Nat} {R:Int×Int×Int×Int×Bool} (hR:Q6 s sMain sAlt sTabs=R) (a:B4 sMainrs sMain:=by exact om_) (g:sMain.length≤9223372036854775807:=by exact om_) (f:sMain.length≤sMaink:=by exact om_) (b:B4 sAltrs sAlt:=by exact om_) (i:sAlt.length≤9223372036854775807:=by exact om_) (h:sAlt.length≤sAltk:=by exact om_) (e:sTabs.length≤9223372036854775807:=by exact om_) (d:sTabs.length≤sTabsk:=by exact om_):Con Tryz.prog 91 [pt sb 0] [bx sb (B3 s ⟨sMainq,sMain.length,sMaink⟩ ⟨sAltq,sAlt.length,sAltk⟩ ⟨none,0,0⟩ ⟨sTabsq,sTabs.length,sTabsk⟩) 77] [sl B5 sMainq sMainrs,B7 B1 sMainrs sMain,sl B5 sAltq sAltrs,B7 B1 sAltrs sAlt,sl H4 sTabsq sTabs] (Unit) (fun x=>ag [iv R.1,iv R.2.1,iv R.2.2.1,iv R.2.2.2.1,bv R.2.2.2.2]) (fun x=>[bx sb (B3 s ⟨sMainq,sMain.length,sMaink⟩ ⟨sAltq,sAlt.length,sAltk⟩ ⟨none,0,0⟩ ⟨sTabsq,sTabs.length,sTabsk⟩) 77]) (fun x=>[]):=by
 refine zce Tryz.func91 fun X hX hr hD=>?_
 replace hR:=(Q6.eq_1 ..).symm.trans hR
 have:=a.1
 have:=b.1
 refine sR_ rfl (J3 1 0 [] (fun c=>[(2,pt c 0)]) (fun c=>[bx c [iv 0,iv 0,iv 0,iv 0,bv false] 136,bx sb (B3 s ⟨sMainq,sMain.length,sMaink⟩ ⟨sAltq,sAlt.length,sAltk⟩ ⟨none,0,0⟩ ⟨sTabsq,sTabs.length,sTabsk⟩) 77]) (fun c=>(ie (sh 28 [(27,[bx c [iv 0,iv 0,iv 0,iv 0,bv false] 136]),(28,[bx sb (B3 s ⟨sMainq,sMain.length,sMaink⟩ ⟨sAltq,sAlt.length,sAltk⟩ ⟨none,0,0⟩ ⟨sTabsq,sTabs.length,sTabsk⟩) 77])] [sl B5 sMainq sMainrs,B7 B1 sMainrs sMain,sl B5 sAltq sAltrs,B7 B1 sAltrs sAlt,sl H4 sTabsq sTabs] [bx c [iv 0,iv 0,iv 0,iv 0,bv false] 136,bx sb (B3 s ⟨sMainq,sMain.length,sMaink⟩ ⟨sAltq,sAlt.length,sAltk⟩ ⟨none,0,0⟩ ⟨sTabsq,sTabs.length,sTabsk⟩) 77] (zml 28 0) oki rfl oki oki oki sb_ A5.refl ?_))))
 refine zhp [0,1,2,3,5,6,7,8,10,11,12,13,15,16,17,18,20,21,22,23,24] 7 (zml 28 33013231) [(6,pt sb 1),(11,pt sb 0),(16,pt sb 36),(21,pt sb 37),(27,pt sb 27)] ?_
 refine zhl 4 [bx c [iv 0,iv 0,iv 0,iv 0,bv false] 136,bx sb (B3 s ⟨sMainq,sMain.length,sMaink⟩ ⟨sAltq,sAlt.length,sAltk⟩ ⟨none,0,0⟩ ⟨sTabsq,sTabs.length,sTabsk⟩) 77] (zml 28 33013247) rfl (A7 (v:=iv s.rows) ty3 rfl rfl 1 rfl rfl) ?_
 refine zhl 9 [bx c [iv 0,iv 0,iv 0,iv 0,bv false] 136,bx sb (B3 s ⟨sMainq,sMain.length,sMaink⟩ ⟨sAltq,sAlt.length,sAltk⟩ ⟨none,0,0⟩ ⟨sTabsq,sTabs.length,sTabsk⟩) 77] (zml 28 33013759) rfl (A7 (v:=iv s.cols) ty3 rfl rfl 1 rfl rfl) ?_
 refine zhl 14 [bx c [iv 0,iv 0,iv 0,iv 0,bv false] 136,bx sb (B3 s ⟨sMainq,sMain.length,sMaink⟩ ⟨sAltq,sAlt.length,sAltk⟩ ⟨none,0,0⟩ ⟨sTabsq,sTabs.length,sTabsk⟩) 77] (zml 28 33030143) rfl (A7 (v:=iv s.top) ty3 rfl rfl 1 rfl rfl) ?_
 refine zhl 19 [bx c [iv 0,iv 0,iv 0,iv 0,bv false] 136,bx sb (B3 s ⟨sMainq,sMain.length,sMaink⟩ ⟨sAltq,sAlt.length,sAltk⟩ ⟨none,0,0⟩ ⟨sTabsq,sTabs.length,sTabsk⟩) 77] (zml 28 33554431) rfl (A7 (v:=iv s.bottom) ty3 rfl rfl 1 rfl rfl) ?_
 refine zhl 25 [bx c [iv 0,iv 0,iv 0,iv 0,bv false] 136,bx sb (B3 s ⟨sMainq,sMain.length,sMaink⟩ ⟨sAltq,sAlt.length,sAltk⟩ ⟨none,0,0⟩ ⟨sTabsq,sTabs.length,sTabsk⟩) 77] (zml 28 67108863) rfl (A7 (v:=bv s.modes.origin) ty4 rfl rfl 1 rfl rfl) ?_
 refine zhk 26 (zml 28 134217727) rfl (N8 (cs:=[iv s.rows,iv s.cols,iv s.top,iv s.bottom,bv s.modes.origin]) rfl rfl oki) ?_
 refine zho 27 [bx sb (B3 s ⟨sMainq,sMain.length,sMaink⟩ ⟨sAltq,sAlt.length,sAltk⟩ ⟨none,0,0⟩ ⟨sTabsq,sTabs.length,sTabsk⟩) 77] (zml 28 268435455) rfl (D0 (us:=[iv s.rows,iv s.cols,iv s.top,iv s.bottom,bv s.modes.origin]) (cs':=[iv s.rows,iv s.cols,iv s.top,iv s.bottom,bv s.modes.origin]) C4k rfl rfl rfl 0 rfl rfl rfl rfl rfl rfl) (fun _=>sb_) (fun _=>A5.refl) fun _=>?_
 refine P4 oki ?_
 subst hR
 refine A6 ?_
 exact zer hr hD (U4 rfl (L6 (us:=[iv s.rows,iv s.cols,iv s.top,iv s.bottom,bv s.modes.origin]) C4k rfl 0 rfl rfl rfl)) () sb_ fn0
def G5 (s:ScrC) (sMain:List (Rwc Cel)) (sAlt:List (Rwc Cel)) (sTabs:List Bool) (g:List (Rwc Cel)):Bool :=
 (((decide ((K9 g)=0))&&(decide ((g.length:Int)=s.rows)))&&(decide (((g.getD 0 zwc).l.length:Int)=s.cols)))
theorem A2r {s:ScrC} {sMain sAlt:List (Rwc Cel)} {sTabs:List Bool} {g:List (Rwc Cel)} {sb:Nat} {sMainq:Option Addr} {sMainrs:List Rwq} {sMaink:Nat} {sAltq:Option Addr} {sAltrs:List Rwq} {sAltk:Nat} {sTabsq:Option Addr} {sTabsk:Nat} {gq:Option Addr} {grs:List Rwq} {gk:Nat} {R:Bool} (hR:G5 s sMain sAlt sTabs g=R) (b:B4 sMainrs sMain:=by exact om_) (j:sMain.length≤9223372036854775807:=by exact om_) (h:sMain.length≤sMaink:=by exact om_) (d:B4 sAltrs sAlt:=by exact om_) (o:sAlt.length≤9223372036854775807:=by exact om_) (m:sAlt.length≤sAltk:=by exact om_) (i:sTabs.length≤9223372036854775807:=by exact om_) (f:sTabs.length≤sTabsk:=by exact om_) (a:B4 grs g:=by exact om_) (w:g.length≤9223372036854775807:=by exact om_) (u:g.length≤gk:=by exact om_):Con Tryz.prog 94 [pt sb 0,.slice gq g.length gk] [bx sb (B3 s ⟨sMainq,sMain.length,sMaink⟩ ⟨sAltq,sAlt.length,sAltk⟩ ⟨none,0,0⟩ ⟨sTabsq,sTabs.length,sTabsk⟩) 77] [sl B5 sMainq sMainrs,B7 B1 sMainrs sMain,sl B5 sAltq sAltrs,B7 B1 sAltrs sAlt,sl H4 sTabsq sTabs,sl B5 gq grs,B7 B1 grs g,O9,P0] (Unit) (fun x=>bv R) (fun x=>[bx sb (B3 s ⟨sMainq,sMain.length,sMaink⟩ ⟨sAltq,sAlt.length,sAltk⟩ ⟨none,0,0⟩ ⟨sTabsq,sTabs.length,sTabsk⟩) 77]) (fun x=>[]):=by
 refine zce Tryz.func94 fun X hX hr hD=>?_
 replace hR:=(G5.eq_1 ..).symm.trans hR
 have:=b.1
 have:=d.1
 have:=a.1
 have y:K9 g=0→0<g.length:=A8r
 refine sR_ rfl (pp0 1 rfl (ie (sd 27 rfl oki rfl (pd1 1 5 rfl (zvd rfl (A7i rfl a) (pd1 2 8 rfl ?_))))))
 refine zdd 9 14 8 17 (decide ((g.length:Int)=s.rows)) (fun g1 r=>?_) ?_
 ·refine pg1 9 [0] 17 rfl ?_
  exact zad 2 8 17 g1
 refine pd1 1 18 rfl ?_
 refine zda 12 1 18 30 (decide (((g.getD 0 zwc).l.length:Int)=s.cols)) (fun p=>?_) ?_
 ·have z:=bq_ p
  refine dp' 1 11 [(19,.slice gq g.length gk)] ?_
  refine A2b 5 rfl (by have:=a.1;omega) fun t e=>?_
  refine B6l (C6d (k:=0) a 6 rfl (by have:=a.1;omega)) ?_
  have:=B8k a (k:=0) (by have:=a.1;omega)
  refine dd rfl (F7 A1s rfl rfl e rfl 0 rfl opx) (dp' 1 9 [(21,pa (Addr.add t (0 * 2)))] (dd rfl (H2 (D8 (v:=.slice ((grs.getD 0 zwq).s.q) ((grs.getD 0 zwq).s.n) ((grs.getD 0 zwq).s.k)) (us:=[.slice ((grs.getD 0 zwq).s.q) ((grs.getD 0 zwq).s.n) ((grs.getD 0 zwq).s.k)]) A6h rfl rfl (B2m (H5 (c:=B5) (sz:=2) e (fun _=>rfl) 6 rfl (gd zwq (by have:=a.1;omega))) (ws:=[.slice ((grs.getD 0 zwq).s.q) ((grs.getD 0 zwq).s.n) ((grs.getD 0 zwq).s.k)]) 1 rfl) rfl) (D3m a (by have:=a.1;omega))) (pg1 8 [0] 30 rfl ?_)))
  exact zad 6 18 30 p
 refine pd1 1 4 rfl ?_
 subst hR
 refine de (A6 ?_)
 exact zer hr hD (U4 rfl (A4 rfl)) () sb_ fn0
def A0j (a:Int):Int :=
 (bif ((decide (a<2))||(decide ((80:Int)<a))) then 2 else 0)
theorem B8d {a R:Int} (hR:A0j a=R):J6 Tryz.prog 95 [iv a,.slice none 0 0] [] (iv R):=by
 refine zce Tryz.func95 fun X hX hr hD=>?_
 replace hR:=(A0j.eq_1 ..).symm.trans hR
 refine sR_ rfl (pp0 1 rfl (ie (A2 (sR_ rfl (pp1 3 9 rfl ?_)))))
 refine zir 3 0 9 12 (decide ((80:Int)<a)) (fun d b=>?_) ?_
 ·refine pp1 3 12 rfl ?_
  exact A1 (J0 2 9 12 d fn0 sb_ rfl rfl rfl rfl rfl)
 refine ie ?_
 refine zjo rfl hR ?_ ?_<;>clear hR<;>intro hR e c
 ·refine sR_ rfl (pp1 1 4 rfl ?_)
  subst hR
  refine ie (A6 ?_)
  exact E2 hr hD
 refine A3 (nx (A2 (sR_ rfl (pp1 3 15 rfl (ie (P1 rfl (A3 (nx (A2 (sR_ rfl (pp3 3 16 17 18 rfl (ie (A8 (P9 2 ?_))))))))))))))
 refine D6 (sR_ rfl (pp1 1 19 rfl ?_))
 refine ie (A2 (P1 rfl (F6 (nx (sR_ rfl (pp1 1 4 rfl ?_))))))
 subst hR
 refine ie (A6 ?_)
 exact E2 hr hD
def M6 (s:ScrC) (a:Bool):Bool :=
 (bif a then false else (bif (decide (s.shape<0)) then (bif (decide (s.shape<0)) then false else ((decide (s.last=0))||(decide ((0:Int)<(Q4 s.last))))) else (bif (decide ((6:Int)<s.shape)) then (bif (decide ((6:Int)<s.shape)) then false else ((decide (s.last=0))||(decide ((0:Int)<(Q4 s.last))))) else (bif (!decide ((R0 0 0 Col.zero s.title)=0)) then false else ((decide (s.last=0))||(decide ((0:Int)<(Q4 s.last))))))))
def K1 (s:ScrC) (a:Bool):Bool :=
 (bif a then false else (bif (!decide ((H0 s.style)=0)) then M6 s (!decide ((H0 s.style)=0)) else (bif (!decide ((Q2 s.sets)=0)) then M6 s (!decide ((Q2 s.sets)=0)) else M6 s (!decide ((A2w s.modes)=0)))))
def M4 (s:ScrC) (sMain:List (Rwc Cel)) (sAlt:List (Rwc Cel)) (sTabs:List Bool) (a:Bool):Bool :=
 (bif a then false else (bif (!(G5 s sMain sAlt sTabs sMain)) then K1 s (!(G5 s sMain sAlt sTabs sMain)) else (bif (!(G5 s sMain sAlt sTabs sAlt)) then K1 s (!(G5 s sMain sAlt sTabs sAlt)) else (bif (!decide ((A0j s.cols)=0)) then K1 s (!decide ((A0j s.cols)=0)) else K1 s (!decide ((sTabs.length:Int)=s.cols))))))
def W3 (s:ScrC) (sMain:List (Rwc Cel)) (sAlt:List (Rwc Cel)) (sTabs:List Bool):Bool :=
 (E8 (Q6 s sMain sAlt sTabs) fun (a:Int×Int×Int×Int×Bool)=>(bif (!decide ((N1 a.1 a.2.1 a.2.2.1 a.2.2.2.1 a.2.2.2.2 s.cursor)=0)) then M4 s sMain sAlt sTabs (!decide ((N1 a.1 a.2.1 a.2.2.1 a.2.2.2.1 a.2.2.2.2 s.cursor)=0)) else (bif (!decide ((G9 a.1 a.2.1 a.2.2.1 a.2.2.2.1 a.2.2.2.2 s.kept)=0)) then M4 s sMain sAlt sTabs (!decide ((G9 a.1 a.2.1 a.2.2.1 a.2.2.2.1 a.2.2.2.2 s.kept)=0)) else M4 s sMain sAlt sTabs (!decide ((G9 a.1 a.2.1 a.2.2.1 a.2.2.2.1 a.2.2.2.2 s.keptAlt)=0)))))
theorem A8n {s:ScrC} {sMain sAlt:List (Rwc Cel)} {sTabs:List Bool} {sb:Nat} {sMainq:Option Addr} {sMainrs:List Rwq} {sMaink:Nat} {sAltq:Option Addr} {sAltrs:List Rwq} {sAltk:Nat} {sTabsq:Option Addr} {sTabsk:Nat} {R:Bool} (hR:W3 s sMain sAlt sTabs=R) (b:B4 sMainrs sMain:=by exact om_) (i:sMain.length≤9223372036854775807:=by exact om_) (h:sMain.length≤sMaink:=by exact om_) (c:B4 sAltrs sAlt:=by exact om_) (l:sAlt.length≤9223372036854775807:=by exact om_) (k:sAlt.length≤sAltk:=by exact om_) (j:sTabs.length≤9223372036854775807:=by exact om_) (g:sTabs.length≤sTabsk:=by exact om_) (ad:s.title.length≤100000000:=by exact om_):Con Tryz.prog 36 [pt sb 0] [bx sb (B3 s ⟨sMainq,sMain.length,sMaink⟩ ⟨sAltq,sAlt.length,sAltk⟩ ⟨none,0,0⟩ ⟨sTabsq,sTabs.length,sTabsk⟩) 77] [sl B5 sMainq sMainrs,B7 B1 sMainrs sMain,sl B5 sAltq sAltrs,B7 B1 sAltrs sAlt,sl H4 sTabsq sTabs,O9,P0] (Unit) (fun x=>bv R) (fun x=>[bx sb (B3 s ⟨sMainq,sMain.length,sMaink⟩ ⟨sAltq,sAlt.length,sAltk⟩ ⟨none,0,0⟩ ⟨sTabsq,sTabs.length,sTabsk⟩) 77]) (fun x=>[]):=by
 refine zce Tryz.func36 fun X hX hr hD=>?_
 replace hR:=(W3.eq_1 ..).symm.trans hR
 have:=b.1
 have:=c.1
 refine sR_ rfl (pp0 1 rfl (ie (sR_ rfl (pp1 1 4 rfl ?_))))
 have hQ:=E9 hR;clear hR;obtain ⟨a,n,hR⟩:=hQ
 refine zc rfl (A2q n b om_ om_ c) fun _=>?_
 refine J3 2 0 [0] (fun d=>[(3,pt d 0)]) (fun d=>[bx d [iv a.1,iv a.2.1,iv a.2.2.1,iv a.2.2.2.1,bv a.2.2.2.2] 136,bx sb (B3 s ⟨sMainq,sMain.length,sMaink⟩ ⟨sAltq,sAlt.length,sAltk⟩ ⟨none,0,0⟩ ⟨sTabsq,sTabs.length,sTabsk⟩) 77]) (fun d=>?_)
 refine ie (A2 (A8 (B2l (fun (o:Bool)=>(M4 s sMain sAlt sTabs o=R,[(0,pt sb 0),(6,bv o)],[bx d [iv a.1,iv a.2.1,iv a.2.2.1,iv a.2.2.2.1,bv a.2.2.2.2] 136,bx sb (B3 s ⟨sMainq,sMain.length,sMaink⟩ ⟨sAltq,sAlt.length,sAltk⟩ ⟨none,0,0⟩ ⟨sTabsq,sTabs.length,sTabsk⟩) 77],[sl B5 sMainq sMainrs,B7 B1 sMainrs sMain,sl B5 sAltq sAltrs,B7 B1 sAltrs sAlt,sl H4 sTabsq sTabs,O9,P0])) ?_ ?_)))
 ·refine sd 9 rfl oki rfl ?_
  refine zdg 6 3 [0,1] [(7,ag [iv a.1,iv a.2.1,iv a.2.2.1,iv a.2.2.2.1,bv a.2.2.2.2]),(12,ag (Y1 s.cursor))] ?_
  refine zvd rfl (A6o rfl) (pd1 2 6 rfl (de ?_))
  refine zjn rfl hR ?_ ?_<;>clear hR<;>intro hR h2 aa
  ·refine A3 ?_
   exact A1d (!decide ((N1 a.1 a.2.1 a.2.2.1 a.2.2.2.1 a.2.2.2.2 s.cursor)=0)) hR sb_ A5.refl
  refine sd 9 rfl oki rfl ?_
  refine zdg 6 3 [0,1] [(15,ag [iv a.1,iv a.2.1,iv a.2.2.1,iv a.2.2.2.1,bv a.2.2.2.2]),(20,ag (A5i s.kept))] ?_
  refine zvd rfl (A4c rfl) (pd1 2 6 rfl (de ?_))
  refine zjn rfl hR ?_ ?_<;>clear hR<;>intro hR h3 a3
  ·refine A3 ?_
   exact A1d (!decide ((G9 a.1 a.2.1 a.2.2.1 a.2.2.2.1 a.2.2.2.2 s.kept)=0)) hR sb_ A5.refl
  refine C0o 9 rfl oki rfl ?_
  refine zdg 6 3 [0,1] [(23,ag [iv a.1,iv a.2.1,iv a.2.2.1,iv a.2.2.2.1,bv a.2.2.2.2]),(28,ag (A5i s.keptAlt))] ?_
  refine zvd rfl (A4c rfl) (pd1 2 6 rfl ?_)
  refine B0t ?_
  exact A1d (!decide ((G9 a.1 a.2.1 a.2.2.1 a.2.2.2.1 a.2.2.2.2 s.keptAlt)=0)) hR sb_ A5.refl
 intro o
 rintro hR
 replace hR:=(M4.eq_1 ..).symm.trans hR
 refine zjb rfl hR ?_ ?_<;>clear hR<;>intro hR h4
 ·refine sR_ rfl (pp1 1 2 rfl ?_)
  subst hR
  refine ie (A6 ?_)
  exact zer hr hD (U4 rfl (A4 rfl)) () sb_ fn0
 refine B2l (fun (f:Bool)=>(K1 s f=R,[(0,pt sb 0),(31,bv f)],[bx d [iv a.1,iv a.2.1,iv a.2.2.1,iv a.2.2.2.1,bv a.2.2.2.2] 136,bx sb (B3 s ⟨sMainq,sMain.length,sMaink⟩ ⟨sAltq,sAlt.length,sAltk⟩ ⟨none,0,0⟩ ⟨sTabsq,sTabs.length,sTabsk⟩) 77],[sl B5 sMainq sMainrs,B7 B1 sMainrs sMain,sl B5 sAltq sAltrs,B7 B1 sAltrs sAlt,sl H4 sTabsq sTabs,O9,P0])) ?_ ?_
 ·refine sR_ rfl (pl2 6 [1] 32 37 rfl ?_)
  refine zc rfl (A2r rfl b om_ om_ c om_ om_ om_ om_ b) fun _=>?_
  refine pp1 2 31 rfl (ie ?_)
  refine zjb rfl hR ?_ ?_<;>clear hR<;>intro hR h5
  ·refine A3 (A0t (J5 [[bx sb (B3 s ⟨sMainq,sMain.length,sMaink⟩ ⟨sAltq,sAlt.length,sAltk⟩ ⟨none,0,0⟩ ⟨sTabsq,sTabs.length,sTabsk⟩) 77],[bx d [iv a.1,iv a.2.1,iv a.2.2.1,iv a.2.2.2.1,bv a.2.2.2.2] 136]] [1,0] 2 rfl ozw rfl [[bx d [iv a.1,iv a.2.1,iv a.2.2.1,iv a.2.2.2.1,bv a.2.2.2.2] 136],[bx sb (B3 s ⟨sMainq,sMain.length,sMaink⟩ ⟨sAltq,sAlt.length,sAltk⟩ ⟨none,0,0⟩ ⟨sTabsq,sTabs.length,sTabsk⟩) 77]] rfl opv) ?_)
   exact A1d (!(G5 s sMain sAlt sTabs sMain)) hR sb_ A5.refl
  refine sR_ rfl (pl2 6 [0] 40 45 rfl ?_)
  refine zc rfl (A2r rfl b om_ om_ c om_ om_ om_ om_ c) fun _=>?_
  refine pp1 2 31 rfl (ie ?_)
  refine zjb rfl hR ?_ ?_<;>clear hR<;>intro hR h6
  ·refine A3 (A0t (J5 [[bx sb (B3 s ⟨sMainq,sMain.length,sMaink⟩ ⟨sAltq,sAlt.length,sAltk⟩ ⟨none,0,0⟩ ⟨sTabsq,sTabs.length,sTabsk⟩) 77],[bx d [iv a.1,iv a.2.1,iv a.2.2.1,iv a.2.2.2.1,bv a.2.2.2.2] 136]] [1,0] 2 rfl ozw rfl [[bx d [iv a.1,iv a.2.1,iv a.2.2.1,iv a.2.2.2.1,bv a.2.2.2.2] 136],[bx sb (B3 s ⟨sMainq,sMain.length,sMaink⟩ ⟨sAltq,sAlt.length,sAltk⟩ ⟨none,0,0⟩ ⟨sTabsq,sTabs.length,sTabsk⟩) 77]] rfl opv) ?_)
   exact A1d (!(G5 s sMain sAlt sTabs sAlt)) hR sb_ A5.refl
  refine sd 13 rfl oki rfl (pg2 10 [0,0] 52 57 rfl (zvd rfl (B8d rfl) (pd1 2 31 rfl (de ?_))))
  refine zjn rfl hR ?_ ?_<;>clear hR<;>intro hR h7 ac
  ·refine A3 (A0t (J5 [[bx sb (B3 s ⟨sMainq,sMain.length,sMaink⟩ ⟨sAltq,sAlt.length,sAltk⟩ ⟨none,0,0⟩ ⟨sTabsq,sTabs.length,sTabsk⟩) 77],[bx d [iv a.1,iv a.2.1,iv a.2.2.1,iv a.2.2.2.1,bv a.2.2.2.2] 136]] [1,0] 2 rfl ozw rfl [[bx d [iv a.1,iv a.2.1,iv a.2.2.1,iv a.2.2.2.1,bv a.2.2.2.2] 136],[bx sb (B3 s ⟨sMainq,sMain.length,sMaink⟩ ⟨sAltq,sAlt.length,sAltk⟩ ⟨none,0,0⟩ ⟨sTabsq,sTabs.length,sTabsk⟩) 77]] rfl opv) ?_)
   exact A1d (!decide ((A0j s.cols)=0)) hR sb_ A5.refl
  refine C0o 13 rfl oki rfl ?_
  refine pg1 13 [0,0] 31 rfl ?_
  refine B0t (A0t (J5 [[bx sb (B3 s ⟨sMainq,sMain.length,sMaink⟩ ⟨sAltq,sAlt.length,sAltk⟩ ⟨none,0,0⟩ ⟨sTabsq,sTabs.length,sTabsk⟩) 77],[bx d [iv a.1,iv a.2.1,iv a.2.2.1,iv a.2.2.2.1,bv a.2.2.2.2] 136]] [1,0] 2 rfl ozw rfl [[bx d [iv a.1,iv a.2.1,iv a.2.2.1,iv a.2.2.2.1,bv a.2.2.2.2] 136],[bx sb (B3 s ⟨sMainq,sMain.length,sMaink⟩ ⟨sAltq,sAlt.length,sAltk⟩ ⟨none,0,0⟩ ⟨sTabsq,sTabs.length,sTabsk⟩) 77]] rfl opv) ?_)
  exact A1d (!decide ((sTabs.length:Int)=s.cols)) hR sb_ A5.refl
 intro f
 rintro hR
 replace hR:=(K1.eq_1 ..).symm.trans hR
 refine zjb rfl hR ?_ ?_<;>clear hR<;>intro hR h8
 ·refine sR_ rfl (pp1 1 2 rfl ?_)
  subst hR
  refine ie (A6 ?_)
  exact zer hr hD (U4 rfl (A4 rfl)) () sb_ fn0
 refine B2l (fun (e:Bool)=>(M6 s e=R,[(0,pt sb 0),(72,bv e)],[bx d [iv a.1,iv a.2.1,iv a.2.2.1,iv a.2.2.2.1,bv a.2.2.2.2] 136,bx sb (B3 s ⟨sMainq,sMain.length,sMaink⟩ ⟨sAltq,sAlt.length,sAltk⟩ ⟨none,0,0⟩ ⟨sTabsq,sTabs.length,sTabsk⟩) 77],[sl B5 sMainq sMainrs,B7 B1 sMainrs sMain,sl B5 sAltq sAltrs,B7 B1 sAltrs sAlt,sl H4 sTabsq sTabs,O9,P0])) ?_ ?_
 ·refine sR_ rfl (zrl 5 3 [1] [(77,ag (C7 s.style))] (zv rfl (V9 rfl) (pp1 2 72 rfl (ie ?_))))
  refine zjn rfl hR ?_ ?_<;>clear hR<;>intro hR h9 a2
  ·refine A3 ?_
   exact A1d (!decide ((H0 s.style)=0)) hR sb_ A5.refl
  refine sR_ rfl (zrl 5 3 [1] [(84,ag (A8k s.sets))] (zv rfl (B1k rfl) (pp1 2 72 rfl (ie ?_))))
  refine zjn rfl hR ?_ ?_<;>clear hR<;>intro hR ab v
  ·refine A3 ?_
   exact A1d (!decide ((Q2 s.sets)=0)) hR sb_ A5.refl
  refine A0 8 rfl (zrl 5 3 [1] [(91,ag (A4k s.modes))] (zv rfl (C0u rfl) (pp1 2 72 rfl (A1 ?_))))
  exact A1d (!decide ((A2w s.modes)=0)) hR sb_ A5.refl
 intro e
 rintro hR
 replace hR:=(M6.eq_1 ..).symm.trans hR
 refine zjb rfl hR ?_ ?_<;>clear hR<;>intro hR a4
 ·refine sR_ rfl (pp1 1 2 rfl ?_)
  subst hR
  refine ie (A6 ?_)
  exact zer hr hD (U4 rfl (A4 rfl)) () sb_ fn0
 refine A2 (sR_ rfl (pl1 7 [1] 94 rfl ?_))
 refine ie ?_
 refine zjd rfl hR ?_ ?_<;>clear hR<;>intro hR a5 r
 ·refine A3 (nx ?_)
  refine zjd rfl hR ?_ ?_<;>clear hR<;>intro hR a6 t
  ·refine sR_ rfl (pp1 1 2 rfl ?_)
   subst hR
   refine ie (A6 ?_)
   exact zer hr hD (U4 rfl (A4 rfl)) () sb_ fn0
  refine A3 (nx (sR_ rfl (pl1 7 [1] 121 rfl ?_)))
  refine zir 8 1 121 129 (decide ((0:Int)<(Q4 s.last))) (fun m w=>?_) ?_
  ·refine pl1 5 [1] 126 rfl (zv rfl (A2u rfl) (pp1 2 129 rfl ?_))
   exact zai 4 121 129 m
  refine pp1 1 2 rfl ?_
  subst hR
  refine ie (A6 ?_)
  exact zer hr hD (U4 rfl (A4 rfl)) () sb_ fn0
 refine sR_ rfl (pl1 7 [1] 94 rfl (ie ?_))
 refine zjd rfl hR ?_ ?_<;>clear hR<;>intro hR ae u
 ·refine A3 (nx ?_)
  refine zjd rfl hR ?_ ?_<;>clear hR<;>intro hR a7 a0
  ·refine sR_ rfl (pp1 1 2 rfl ?_)
   subst hR
   refine ie (A6 ?_)
   exact zer hr hD (U4 rfl (A4 rfl)) () sb_ fn0
  refine A3 (nx (sR_ rfl (pl1 7 [1] 121 rfl ?_)))
  refine zir 8 1 121 129 (decide ((0:Int)<(Q4 s.last))) (fun p y=>?_) ?_
  ·refine pl1 5 [1] 126 rfl (zv rfl (A2u rfl) (pp1 2 129 rfl ?_))
   exact zai 4 121 129 p
  refine pp1 1 2 rfl ?_
  subst hR
  refine ie (A6 ?_)
  exact zer hr hD (U4 rfl (A4 rfl)) () sb_ fn0
 refine A0 9 rfl (zrl 6 3 [1] [(112,ag (B8 ({Act.zero with kind:=44,text:=s.title})))] (zv rfl (A9e rfl) (pp1 2 94 rfl (A1 (nx ?_)))))
 refine zjn rfl hR ?_ ?_<;>clear hR<;>intro hR a9 a1
 ·refine sR_ rfl (pp1 1 2 rfl ?_)
  subst hR
  refine ie (A6 ?_)
  exact zer hr hD (U4 rfl (A4 rfl)) () sb_ fn0
 refine A3 (nx (sR_ rfl (pl1 7 [1] 121 rfl ?_)))
 refine zir 8 1 121 129 (decide ((0:Int)<(Q4 s.last))) (fun q z=>?_) ?_
 ·refine pl1 5 [1] 126 rfl (zv rfl (A2u rfl) (pp1 2 129 rfl ?_))
  exact zai 4 121 129 q
 refine pp1 1 2 rfl ?_
 subst hR
 refine ie (A6 ?_)
 exact zer hr hD (U4 rfl (A4 rfl)) () sb_ fn0
def M3 (s:ScrC) (sMain:List (Rwc Cel)) (sAlt:List (Rwc Cel)) (sTabs:List Bool):Int :=
 (bif (!(W3 s sMain sAlt sTabs)) then 300 else 0)
theorem A8i {s:ScrC} {sMain sAlt:List (Rwc Cel)} {sTabs:List Bool} {sMainq:Option Addr} {sMainrs:List Rwq} {sMaink:Nat} {sAltq:Option Addr} {sAltrs:List Rwq} {sAltk:Nat} {sTabsq:Option Addr} {sTabsk:Nat} {R:Int} (hR:M3 s sMain sAlt sTabs=R) (a:B4 sMainrs sMain:=by exact om_) (g:sMain.length≤9223372036854775807:=by exact om_) (f:sMain.length≤sMaink:=by exact om_) (b:B4 sAltrs sAlt:=by exact om_) (j:sAlt.length≤9223372036854775807:=by exact om_) (i:sAlt.length≤sAltk:=by exact om_) (e:sTabs.length≤9223372036854775807:=by exact om_) (c:sTabs.length≤sTabsk:=by exact om_) (k:s.title.length≤100000000:=by exact om_):J6 Tryz.prog 19 [ag (B3 s ⟨sMainq,sMain.length,sMaink⟩ ⟨sAltq,sAlt.length,sAltk⟩ ⟨none,0,0⟩ ⟨sTabsq,sTabs.length,sTabsk⟩)] [sl B5 sMainq sMainrs,B7 B1 sMainrs sMain,sl B5 sAltq sAltrs,B7 B1 sAltrs sAlt,sl H4 sTabsq sTabs,O9,P0] (iv R):=by
 refine zce Tryz.func19 fun X hX hr hD=>?_
 replace hR:=(M3.eq_1 ..).symm.trans hR
 have:=a.1
 have:=b.1
 refine sR_ rfl (J3 2 0 [] (fun d=>[(1,pt d 0)]) (fun d=>[bx d (B3 s ⟨sMainq,sMain.length,sMaink⟩ ⟨sAltq,sAlt.length,sAltk⟩ ⟨none,0,0⟩ ⟨sTabsq,sTabs.length,sTabsk⟩) 52]) (fun d=>(ie (A2 (sR_ rfl (J3 4 0 [0] (fun h=>[(3,pt h 0)]) (fun h=>[bx h (B3 s ⟨sMainq,sMain.length,sMaink⟩ ⟨sAltq,sAlt.length,sAltk⟩ ⟨none,0,0⟩ ⟨sTabsq,sTabs.length,sTabsk⟩) 77,bx d (B3 s ⟨sMainq,sMain.length,sMaink⟩ ⟨sAltq,sAlt.length,sAltk⟩ ⟨none,0,0⟩ ⟨sTabsq,sTabs.length,sTabsk⟩) 52]) (fun h=>(ie (sR_ rfl (pp1 1 7 rfl ?_))))))))))
 refine zc rfl (A8n rfl a om_ om_ b) fun _=>?_
 refine pp1 1 9 rfl (ie ?_)
 refine zjb rfl hR ?_ ?_<;>clear hR<;>intro hR l
 ·refine sR_ rfl (pp1 1 2 rfl ?_)
  subst hR
  refine ie (A6 ?_)
  exact E2 hr hD
 refine A3 (nx (sR_ rfl (pp1 1 2 rfl ?_)))
 subst hR
 refine ie (A6 ?_)
 exact E2 hr hD
def C8:Unit :=
 ()
theorem B4y {R:Unit} (hR:C8=R):J6 Tryz.prog 106 [] [] (.tuple #[.func (.func 107) #[ag (B6 (⟨0,0⟩:Spn))] #[],.func (.func 107) #[ag (B6 (⟨0,1⟩:Spn))] #[],.func (.func 107) #[ag (B6 (⟨1,9999⟩:Spn))] #[],.func (.func 107) #[ag (B6 (⟨0,9999⟩:Spn))] #[]]):=by
 refine zce Tryz.func106 fun X hX hr hD=>?_
 replace hR:=(C8.eq_1 ..).symm.trans hR
 refine sR_ rfl (pp0 4 rfl (ie (sR_ rfl (zrl 12 0 [] [(0,.func (.func 107) #[ag (B6 (⟨0,0⟩:Spn))] #[]),(1,.func (.func 107) #[ag (B6 (⟨0,1⟩:Spn))] #[]),(2,.func (.func 107) #[ag (B6 (⟨1,9999⟩:Spn))] #[]),(3,.func (.func 107) #[ag (B6 (⟨0,9999⟩:Spn))] #[])] ?_))))
 subst hR
 refine ie (A6 ?_)
 exact zer hr hD (D4b rfl (A4 rfl) (A4 rfl) (A4 rfl) (A4 rfl)) () sb_ fn0
def me0:Value:=ag [.func (.func 107) #[ag (B6 (⟨0,3⟩:Spn))] #[],.func (.func 107) #[ag (B6 (⟨0,1⟩:Spn))] #[]]
def mt0:List (Int×Value):=[(17,me0)]
def me1:Value:=ag [.func (.func 107) #[ag (B6 (⟨2,3⟩:Spn))] #[],.func (.func 107) #[ag (B6 (⟨0,0⟩:Spn))] #[]]
def mt1:List (Int×Value):=[(17,me0),(18,me1)]
def me2:Value:=ag [.func (.func 107) #[ag (B6 (⟨1,9999⟩:Spn))] #[],.func (.func 107) #[ag (B6 (⟨1,9999⟩:Spn))] #[]]
def mt2:List (Int×Value):=[(17,me0),(18,me1),(19,me2)]
def me3:Value:=ag [.func (.func 107) #[ag (B6 (⟨0,3⟩:Spn))] #[],.func (.func 107) #[ag (B6 (⟨1,9999⟩:Spn))] #[]]
def mt3:List (Int×Value):=[(17,me0),(18,me1),(19,me2),(20,me3)]
def me4:Value:=ag [.func (.func 107) #[ag (B6 (⟨0,3⟩:Spn))] #[],.func (.func 107) #[ag (B6 (⟨0,0⟩:Spn))] #[]]
def mt4:List (Int×Value):=[(17,me0),(18,me1),(19,me2),(20,me3),(26,me4)]
def me5:Value:=ag [.func (.func 107) #[ag (B6 (⟨0,2⟩:Spn))] #[],.func (.func 107) #[ag (B6 (⟨0,0⟩:Spn))] #[]]
def mt5:List (Int×Value):=[(17,me0),(18,me1),(19,me2),(20,me3),(26,me4),(27,me5)]
def me6:Value:=ag [.func (.func 108) #[] #[],.func (.func 107) #[ag (B6 (⟨0,0⟩:Spn))] #[]]
def mt6:List (Int×Value):=[(17,me0),(18,me1),(19,me2),(20,me3),(26,me4),(27,me5),(35,me6)]
def me7:Value:=ag [.func (.func 107) #[ag (B6 (⟨0,9999⟩:Spn))] #[],.func (.func 107) #[ag (B6 (⟨0,9999⟩:Spn))] #[]]
def mt7:List (Int×Value):=[(17,me0),(18,me1),(19,me2),(20,me3),(26,me4),(27,me5),(35,me6),(38,me7)]
def me8:Value:=ag [.func (.func 107) #[ag (B6 (⟨0,6⟩:Spn))] #[],.func (.func 107) #[ag (B6 (⟨0,0⟩:Spn))] #[]]
def mt8:List (Int×Value):=[(17,me0),(18,me1),(19,me2),(20,me3),(26,me4),(27,me5),(35,me6),(38,me7),(40,me8)]
def me9:Value:=ag [.func (.func 107) #[ag (B6 (⟨5,6⟩:Spn))] #[],.func (.func 107) #[ag (B6 (⟨0,0⟩:Spn))] #[]]
def mt9:List (Int×Value):=[(17,me0),(18,me1),(19,me2),(20,me3),(26,me4),(27,me5),(35,me6),(38,me7),(40,me8),(41,me9)]
def A1h:Value:=ag [.func (.func 107) #[ag (B6 (⟨0,0⟩:Spn))] #[],.func (.func 107) #[ag (B6 (⟨0,0⟩:Spn))] #[]]
def D1c:List (Int×Value):=[(17,me0),(18,me1),(19,me2),(20,me3),(26,me4),(27,me5),(35,me6),(38,me7),(40,me8),(41,me9),(2,A1h)]
def A1x:Value:=ag [.func (.func 107) #[ag (B6 (⟨0,0⟩:Spn))] #[],.func (.func 107) #[ag (B6 (⟨0,0⟩:Spn))] #[]]
def D0u:List (Int×Value):=[(17,me0),(18,me1),(19,me2),(20,me3),(26,me4),(27,me5),(35,me6),(38,me7),(40,me8),(41,me9),(2,A1h),(3,A1x)]
def A2i:Value:=ag [.func (.func 107) #[ag (B6 (⟨0,0⟩:Spn))] #[],.func (.func 107) #[ag (B6 (⟨0,0⟩:Spn))] #[]]
def D1l:List (Int×Value):=[(17,me0),(18,me1),(19,me2),(20,me3),(26,me4),(27,me5),(35,me6),(38,me7),(40,me8),(41,me9),(2,A1h),(3,A1x),(4,A2i)]
def A2k:Value:=ag [.func (.func 107) #[ag (B6 (⟨0,0⟩:Spn))] #[],.func (.func 107) #[ag (B6 (⟨0,0⟩:Spn))] #[]]
def D0j:List (Int×Value):=[(17,me0),(18,me1),(19,me2),(20,me3),(26,me4),(27,me5),(35,me6),(38,me7),(40,me8),(41,me9),(2,A1h),(3,A1x),(4,A2i),(5,A2k)]
def A2v:Value:=ag [.func (.func 107) #[ag (B6 (⟨0,0⟩:Spn))] #[],.func (.func 107) #[ag (B6 (⟨0,0⟩:Spn))] #[]]
def D0l:List (Int×Value):=[(17,me0),(18,me1),(19,me2),(20,me3),(26,me4),(27,me5),(35,me6),(38,me7),(40,me8),(41,me9),(2,A1h),(3,A1x),(4,A2i),(5,A2k),(6,A2v)]
def A3n:Value:=ag [.func (.func 107) #[ag (B6 (⟨0,0⟩:Spn))] #[],.func (.func 107) #[ag (B6 (⟨0,0⟩:Spn))] #[]]
def D0n:List (Int×Value):=[(17,me0),(18,me1),(19,me2),(20,me3),(26,me4),(27,me5),(35,me6),(38,me7),(40,me8),(41,me9),(2,A1h),(3,A1x),(4,A2i),(5,A2k),(6,A2v),(8,A3n)]
def A3w:Value:=ag [.func (.func 107) #[ag (B6 (⟨0,0⟩:Spn))] #[],.func (.func 107) #[ag (B6 (⟨0,0⟩:Spn))] #[]]
def D0i:List (Int×Value):=[(17,me0),(18,me1),(19,me2),(20,me3),(26,me4),(27,me5),(35,me6),(38,me7),(40,me8),(41,me9),(2,A1h),(3,A1x),(4,A2i),(5,A2k),(6,A2v),(8,A3n),(9,A3w)]
def A4m:Value:=ag [.func (.func 107) #[ag (B6 (⟨0,0⟩:Spn))] #[],.func (.func 107) #[ag (B6 (⟨0,0⟩:Spn))] #[]]
def D2c:List (Int×Value):=[(17,me0),(18,me1),(19,me2),(20,me3),(26,me4),(27,me5),(35,me6),(38,me7),(40,me8),(41,me9),(2,A1h),(3,A1x),(4,A2i),(5,A2k),(6,A2v),(8,A3n),(9,A3w),(10,A4m)]
def A5b:Value:=ag [.func (.func 107) #[ag (B6 (⟨0,0⟩:Spn))] #[],.func (.func 107) #[ag (B6 (⟨0,0⟩:Spn))] #[]]
def D0m:List (Int×Value):=[(17,me0),(18,me1),(19,me2),(20,me3),(26,me4),(27,me5),(35,me6),(38,me7),(40,me8),(41,me9),(2,A1h),(3,A1x),(4,A2i),(5,A2k),(6,A2v),(8,A3n),(9,A3w),(10,A4m),(11,A5b)]
def A5h:Value:=ag [.func (.func 107) #[ag (B6 (⟨0,0⟩:Spn))] #[],.func (.func 107) #[ag (B6 (⟨0,0⟩:Spn))] #[]]
def D2e:List (Int×Value):=[(17,me0),(18,me1),(19,me2),(20,me3),(26,me4),(27,me5),(35,me6),(38,me7),(40,me8),(41,me9),(2,A1h),(3,A1x),(4,A2i),(5,A2k),(6,A2v),(8,A3n),(9,A3w),(10,A4m),(11,A5b),(12,A5h)]
def A6g:Value:=ag [.func (.func 107) #[ag (B6 (⟨0,0⟩:Spn))] #[],.func (.func 107) #[ag (B6 (⟨0,0⟩:Spn))] #[]]
def D0y:List (Int×Value):=[(17,me0),(18,me1),(19,me2),(20,me3),(26,me4),(27,me5),(35,me6),(38,me7),(40,me8),(41,me9),(2,A1h),(3,A1x),(4,A2i),(5,A2k),(6,A2v),(8,A3n),(9,A3w),(10,A4m),(11,A5b),(12,A5h),(13,A6g)]
def A6r:Value:=ag [.func (.func 107) #[ag (B6 (⟨0,0⟩:Spn))] #[],.func (.func 107) #[ag (B6 (⟨0,0⟩:Spn))] #[]]
def D0v:List (Int×Value):=[(17,me0),(18,me1),(19,me2),(20,me3),(26,me4),(27,me5),(35,me6),(38,me7),(40,me8),(41,me9),(2,A1h),(3,A1x),(4,A2i),(5,A2k),(6,A2v),(8,A3n),(9,A3w),(10,A4m),(11,A5b),(12,A5h),(13,A6g),(15,A6r)]
def A8a:Value:=ag [.func (.func 107) #[ag (B6 (⟨0,0⟩:Spn))] #[],.func (.func 107) #[ag (B6 (⟨0,0⟩:Spn))] #[]]
def D1s:List (Int×Value):=[(17,me0),(18,me1),(19,me2),(20,me3),(26,me4),(27,me5),(35,me6),(38,me7),(40,me8),(41,me9),(2,A1h),(3,A1x),(4,A2i),(5,A2k),(6,A2v),(8,A3n),(9,A3w),(10,A4m),(11,A5b),(12,A5h),(13,A6g),(15,A6r),(16,A8a)]
def A8l:Value:=ag [.func (.func 107) #[ag (B6 (⟨0,1⟩:Spn))] #[],.func (.func 107) #[ag (B6 (⟨0,0⟩:Spn))] #[]]
def D1a:List (Int×Value):=[(17,me0),(18,me1),(19,me2),(20,me3),(26,me4),(27,me5),(35,me6),(38,me7),(40,me8),(41,me9),(2,A1h),(3,A1x),(4,A2i),(5,A2k),(6,A2v),(8,A3n),(9,A3w),(10,A4m),(11,A5b),(12,A5h),(13,A6g),(15,A6r),(16,A8a),(7,A8l)]
def A9h:Value:=ag [.func (.func 107) #[ag (B6 (⟨0,1⟩:Spn))] #[],.func (.func 107) #[ag (B6 (⟨0,0⟩:Spn))] #[]]
def D1n:List (Int×Value):=[(17,me0),(18,me1),(19,me2),(20,me3),(26,me4),(27,me5),(35,me6),(38,me7),(40,me8),(41,me9),(2,A1h),(3,A1x),(4,A2i),(5,A2k),(6,A2v),(8,A3n),(9,A3w),(10,A4m),(11,A5b),(12,A5h),(13,A6g),(15,A6r),(16,A8a),(7,A8l),(14,A9h)]
def A9t:Value:=ag [.func (.func 107) #[ag (B6 (⟨0,1⟩:Spn))] #[],.func (.func 107) #[ag (B6 (⟨0,0⟩:Spn))] #[]]
def D1b:List (Int×Value):=[(17,me0),(18,me1),(19,me2),(20,me3),(26,me4),(27,me5),(35,me6),(38,me7),(40,me8),(41,me9),(2,A1h),(3,A1x),(4,A2i),(5,A2k),(6,A2v),(8,A3n),(9,A3w),(10,A4m),(11,A5b),(12,A5h),(13,A6g),(15,A6r),(16,A8a),(7,A8l),(14,A9h),(42,A9t)]
def B0q:Value:=ag [.func (.func 107) #[ag (B6 (⟨0,1⟩:Spn))] #[],.func (.func 107) #[ag (B6 (⟨1,9999⟩:Spn))] #[]]
def D0k:List (Int×Value):=[(17,me0),(18,me1),(19,me2),(20,me3),(26,me4),(27,me5),(35,me6),(38,me7),(40,me8),(41,me9),(2,A1h),(3,A1x),(4,A2i),(5,A2k),(6,A2v),(8,A3n),(9,A3w),(10,A4m),(11,A5b),(12,A5h),(13,A6g),(15,A6r),(16,A8a),(7,A8l),(14,A9h),(42,A9t),(21,B0q)]
def B2o:Value:=ag [.func (.func 107) #[ag (B6 (⟨0,1⟩:Spn))] #[],.func (.func 107) #[ag (B6 (⟨1,9999⟩:Spn))] #[]]
def D1e:List (Int×Value):=[(17,me0),(18,me1),(19,me2),(20,me3),(26,me4),(27,me5),(35,me6),(38,me7),(40,me8),(41,me9),(2,A1h),(3,A1x),(4,A2i),(5,A2k),(6,A2v),(8,A3n),(9,A3w),(10,A4m),(11,A5b),(12,A5h),(13,A6g),(15,A6r),(16,A8a),(7,A8l),(14,A9h),(42,A9t),(21,B0q),(33,B2o)]
def B3b:Value:=ag [.func (.func 107) #[ag (B6 (⟨1,9999⟩:Spn))] #[],.func (.func 107) #[ag (B6 (⟨0,0⟩:Spn))] #[]]
def D0c:List (Int×Value):=[(17,me0),(18,me1),(19,me2),(20,me3),(26,me4),(27,me5),(35,me6),(38,me7),(40,me8),(41,me9),(2,A1h),(3,A1x),(4,A2i),(5,A2k),(6,A2v),(8,A3n),(9,A3w),(10,A4m),(11,A5b),(12,A5h),(13,A6g),(15,A6r),(16,A8a),(7,A8l),(14,A9h),(42,A9t),(21,B0q),(33,B2o),(22,B3b)]
def B5e:Value:=ag [.func (.func 107) #[ag (B6 (⟨1,9999⟩:Spn))] #[],.func (.func 107) #[ag (B6 (⟨0,0⟩:Spn))] #[]]
def D0g:List (Int×Value):=[(17,me0),(18,me1),(19,me2),(20,me3),(26,me4),(27,me5),(35,me6),(38,me7),(40,me8),(41,me9),(2,A1h),(3,A1x),(4,A2i),(5,A2k),(6,A2v),(8,A3n),(9,A3w),(10,A4m),(11,A5b),(12,A5h),(13,A6g),(15,A6r),(16,A8a),(7,A8l),(14,A9h),(42,A9t),(21,B0q),(33,B2o),(22,B3b),(23,B5e)]
def B7b:Value:=ag [.func (.func 107) #[ag (B6 (⟨1,9999⟩:Spn))] #[],.func (.func 107) #[ag (B6 (⟨0,0⟩:Spn))] #[]]
def D1q:List (Int×Value):=[(17,me0),(18,me1),(19,me2),(20,me3),(26,me4),(27,me5),(35,me6),(38,me7),(40,me8),(41,me9),(2,A1h),(3,A1x),(4,A2i),(5,A2k),(6,A2v),(8,A3n),(9,A3w),(10,A4m),(11,A5b),(12,A5h),(13,A6g),(15,A6r),(16,A8a),(7,A8l),(14,A9h),(42,A9t),(21,B0q),(33,B2o),(22,B3b),(23,B5e),(24,B7b)]
def B8a:Value:=ag [.func (.func 107) #[ag (B6 (⟨1,9999⟩:Spn))] #[],.func (.func 107) #[ag (B6 (⟨0,0⟩:Spn))] #[]]
def D0e:List (Int×Value):=[(17,me0),(18,me1),(19,me2),(20,me3),(26,me4),(27,me5),(35,me6),(38,me7),(40,me8),(41,me9),(2,A1h),(3,A1x),(4,A2i),(5,A2k),(6,A2v),(8,A3n),(9,A3w),(10,A4m),(11,A5b),(12,A5h),(13,A6g),(15,A6r),(16,A8a),(7,A8l),(14,A9h),(42,A9t),(21,B0q),(33,B2o),(22,B3b),(23,B5e),(24,B7b),(25,B8a)]
def B9r:Value:=ag [.func (.func 107) #[ag (B6 (⟨1,9999⟩:Spn))] #[],.func (.func 107) #[ag (B6 (⟨0,0⟩:Spn))] #[]]
def D0s:List (Int×Value):=[(17,me0),(18,me1),(19,me2),(20,me3),(26,me4),(27,me5),(35,me6),(38,me7),(40,me8),(41,me9),(2,A1h),(3,A1x),(4,A2i),(5,A2k),(6,A2v),(8,A3n),(9,A3w),(10,A4m),(11,A5b),(12,A5h),(13,A6g),(15,A6r),(16,A8a),(7,A8l),(14,A9h),(42,A9t),(21,B0q),(33,B2o),(22,B3b),(23,B5e),(24,B7b),(25,B8a),(28,B9r)]
def C1p:Value:=ag [.func (.func 107) #[ag (B6 (⟨1,9999⟩:Spn))] #[],.func (.func 107) #[ag (B6 (⟨0,0⟩:Spn))] #[]]
def D1i:List (Int×Value):=[(17,me0),(18,me1),(19,me2),(20,me3),(26,me4),(27,me5),(35,me6),(38,me7),(40,me8),(41,me9),(2,A1h),(3,A1x),(4,A2i),(5,A2k),(6,A2v),(8,A3n),(9,A3w),(10,A4m),(11,A5b),(12,A5h),(13,A6g),(15,A6r),(16,A8a),(7,A8l),(14,A9h),(42,A9t),(21,B0q),(33,B2o),(22,B3b),(23,B5e),(24,B7b),(25,B8a),(28,B9r),(29,C1p)]
def C3g:Value:=ag [.func (.func 107) #[ag (B6 (⟨1,9999⟩:Spn))] #[],.func (.func 107) #[ag (B6 (⟨0,0⟩:Spn))] #[]]
def C9z:List (Int×Value):=[(17,me0),(18,me1),(19,me2),(20,me3),(26,me4),(27,me5),(35,me6),(38,me7),(40,me8),(41,me9),(2,A1h),(3,A1x),(4,A2i),(5,A2k),(6,A2v),(8,A3n),(9,A3w),(10,A4m),(11,A5b),(12,A5h),(13,A6g),(15,A6r),(16,A8a),(7,A8l),(14,A9h),(42,A9t),(21,B0q),(33,B2o),(22,B3b),(23,B5e),(24,B7b),(25,B8a),(28,B9r),(29,C1p),(30,C3g)]
def C6h:Value:=ag [.func (.func 107) #[ag (B6 (⟨1,9999⟩:Spn))] #[],.func (.func 107) #[ag (B6 (⟨0,0⟩:Spn))] #[]]
def D1f:List (Int×Value):=[(17,me0),(18,me1),(19,me2),(20,me3),(26,me4),(27,me5),(35,me6),(38,me7),(40,me8),(41,me9),(2,A1h),(3,A1x),(4,A2i),(5,A2k),(6,A2v),(8,A3n),(9,A3w),(10,A4m),(11,A5b),(12,A5h),(13,A6g),(15,A6r),(16,A8a),(7,A8l),(14,A9h),(42,A9t),(21,B0q),(33,B2o),(22,B3b),(23,B5e),(24,B7b),(25,B8a),(28,B9r),(29,C1p),(30,C3g),(31,C6h)]
def C8b:Value:=ag [.func (.func 107) #[ag (B6 (⟨1,9999⟩:Spn))] #[],.func (.func 107) #[ag (B6 (⟨0,0⟩:Spn))] #[]]
def D0f:List (Int×Value):=[(17,me0),(18,me1),(19,me2),(20,me3),(26,me4),(27,me5),(35,me6),(38,me7),(40,me8),(41,me9),(2,A1h),(3,A1x),(4,A2i),(5,A2k),(6,A2v),(8,A3n),(9,A3w),(10,A4m),(11,A5b),(12,A5h),(13,A6g),(15,A6r),(16,A8a),(7,A8l),(14,A9h),(42,A9t),(21,B0q),(33,B2o),(22,B3b),(23,B5e),(24,B7b),(25,B8a),(28,B9r),(29,C1p),(30,C3g),(31,C6h),(32,C8b)]
def C8x:Value:=ag [.func (.func 107) #[ag (B6 (⟨1,9999⟩:Spn))] #[],.func (.func 107) #[ag (B6 (⟨0,0⟩:Spn))] #[]]
def D1z:List (Int×Value):=[(17,me0),(18,me1),(19,me2),(20,me3),(26,me4),(27,me5),(35,me6),(38,me7),(40,me8),(41,me9),(2,A1h),(3,A1x),(4,A2i),(5,A2k),(6,A2v),(8,A3n),(9,A3w),(10,A4m),(11,A5b),(12,A5h),(13,A6g),(15,A6r),(16,A8a),(7,A8l),(14,A9h),(42,A9t),(21,B0q),(33,B2o),(22,B3b),(23,B5e),(24,B7b),(25,B8a),(28,B9r),(29,C1p),(30,C3g),(31,C6h),(32,C8b),(34,C8x)]
def D2f:Value:=ag [.func (.func 107) #[ag (B6 (⟨0,9999⟩:Spn))] #[],.func (.func 107) #[ag (B6 (⟨0,1⟩:Spn))] #[]]
def D0a:List (Int×Value):=[(17,me0),(18,me1),(19,me2),(20,me3),(26,me4),(27,me5),(35,me6),(38,me7),(40,me8),(41,me9),(2,A1h),(3,A1x),(4,A2i),(5,A2k),(6,A2v),(8,A3n),(9,A3w),(10,A4m),(11,A5b),(12,A5h),(13,A6g),(15,A6r),(16,A8a),(7,A8l),(14,A9h),(42,A9t),(21,B0q),(33,B2o),(22,B3b),(23,B5e),(24,B7b),(25,B8a),(28,B9r),(29,C1p),(30,C3g),(31,C6h),(32,C8b),(34,C8x),(36,D2f)]
def D2l:Value:=ag [.func (.func 107) #[ag (B6 (⟨0,9999⟩:Spn))] #[],.func (.func 107) #[ag (B6 (⟨0,1⟩:Spn))] #[]]
def D1h:List (Int×Value):=[(17,me0),(18,me1),(19,me2),(20,me3),(26,me4),(27,me5),(35,me6),(38,me7),(40,me8),(41,me9),(2,A1h),(3,A1x),(4,A2i),(5,A2k),(6,A2v),(8,A3n),(9,A3w),(10,A4m),(11,A5b),(12,A5h),(13,A6g),(15,A6r),(16,A8a),(7,A8l),(14,A9h),(42,A9t),(21,B0q),(33,B2o),(22,B3b),(23,B5e),(24,B7b),(25,B8a),(28,B9r),(29,C1p),(30,C3g),(31,C6h),(32,C8b),(34,C8x),(36,D2f),(37,D2l)]
def D4d:Value:=ag [.func (.func 107) #[ag (B6 (⟨0,9999⟩:Spn))] #[],.func (.func 107) #[ag (B6 (⟨0,1⟩:Spn))] #[]]
def C0h:List (Int×Value):=[(17,me0),(18,me1),(19,me2),(20,me3),(26,me4),(27,me5),(35,me6),(38,me7),(40,me8),(41,me9),(2,A1h),(3,A1x),(4,A2i),(5,A2k),(6,A2v),(8,A3n),(9,A3w),(10,A4m),(11,A5b),(12,A5h),(13,A6g),(15,A6r),(16,A8a),(7,A8l),(14,A9h),(42,A9t),(21,B0q),(33,B2o),(22,B3b),(23,B5e),(24,B7b),(25,B8a),(28,B9r),(29,C1p),(30,C3g),(31,C6h),(32,C8b),(34,C8x),(36,D2f),(37,D2l),(43,D4d)]
def C4:Unit :=
 ()
set_option maxHeartbeats 2000000 in
theorem R8 {R:Unit} (hR:C4=R):Con Tryz.prog 41 [] [] [] (Nat) (fun x=>.map (some x)) (fun x=>[(x,.map (B9 C0h 0).toArray 41)]) (fun x=>[]):=by
 refine zce Tryz.func41 fun X hX hr hD=>?_
 replace hR:=(C4.eq_1 ..).symm.trans hR
 refine sR_ rfl (pp0 1 rfl (ie (sR_ rfl (zv rfl (B4y rfl) (ip' 9 0 [(1,.func (.func 107) #[ag (B6 (⟨0,0⟩:Spn))] #[]),(2,.func (.func 107) #[ag (B6 (⟨0,1⟩:Spn))] #[]),(3,.func (.func 107) #[ag (B6 (⟨1,9999⟩:Spn))] #[]),(4,.func (.func 107) #[ag (B6 (⟨0,9999⟩:Spn))] #[])] (ie (sR_ rfl (it rfl (A3h rfl) fun a=>(zrl 4 44 [] [(26,ag [.func (.func 107) #[ag (B6 (⟨0,3⟩:Spn))] #[],.func (.func 107) #[ag (B6 (⟨0,1⟩:Spn))] #[]])] (it rfl (D7 (es:=#[]) (es':=(B9 mt0 0).toArray) H1 (.inl rfl) rfl rfl rfl 0 rfl oki oki) fun _=>?_))))))))))
 refine znl [(a,.map (B9 mt0 0).toArray 1)] (zrl 4 39 [] [(30,ag [.func (.func 107) #[ag (B6 (⟨2,3⟩:Spn))] #[],.func (.func 107) #[ag (B6 (⟨0,0⟩:Spn))] #[]])] (it rfl (D7 (es:=(B9 mt0 0).toArray) (es':=(B9 mt1 0).toArray) H1 (.inl rfl) rfl rfl rfl 0 rfl oki oki) fun _=>?_))
 refine znl [(a,.map (B9 mt1 0).toArray 2)] (zrl 3 35 [] [(33,ag [.func (.func 107) #[ag (B6 (⟨1,9999⟩:Spn))] #[],.func (.func 107) #[ag (B6 (⟨1,9999⟩:Spn))] #[]])] (it rfl (D7 (es:=(B9 mt1 0).toArray) (es':=(B9 mt2 0).toArray) H1 (.inl rfl) rfl rfl rfl 0 rfl oki oki) fun _=>?_))
 refine znl [(a,.map (B9 mt2 0).toArray 3)] (zrl 4 30 [] [(37,ag [.func (.func 107) #[ag (B6 (⟨0,3⟩:Spn))] #[],.func (.func 107) #[ag (B6 (⟨1,9999⟩:Spn))] #[]])] (it rfl (D7 (es:=(B9 mt2 0).toArray) (es':=(B9 mt3 0).toArray) H1 (.inl rfl) rfl rfl rfl 0 rfl oki oki) fun _=>?_))
 refine znl [(a,.map (B9 mt3 0).toArray 4)] (zrl 4 25 [] [(41,ag [.func (.func 107) #[ag (B6 (⟨0,3⟩:Spn))] #[],.func (.func 107) #[ag (B6 (⟨0,0⟩:Spn))] #[]])] (it rfl (D7 (es:=(B9 mt3 0).toArray) (es':=(B9 mt4 0).toArray) H1 (.inl rfl) rfl rfl rfl 0 rfl oki oki) fun _=>?_))
 refine znl [(a,.map (B9 mt4 0).toArray 5)] (zrl 4 20 [] [(45,ag [.func (.func 107) #[ag (B6 (⟨0,2⟩:Spn))] #[],.func (.func 107) #[ag (B6 (⟨0,0⟩:Spn))] #[]])] (it rfl (D7 (es:=(B9 mt4 0).toArray) (es':=(B9 mt5 0).toArray) H1 (.inl rfl) rfl rfl rfl 0 rfl oki oki) fun _=>?_))
 refine znl [(a,.map (B9 mt5 0).toArray 6)] (zrl 2 17 [] [(47,ag [.func (.func 108) #[] #[],.func (.func 107) #[ag (B6 (⟨0,0⟩:Spn))] #[]])] (it rfl (D7 (es:=(B9 mt5 0).toArray) (es':=(B9 mt6 0).toArray) H1 (.inl rfl) rfl rfl rfl 0 rfl oki oki) fun _=>?_))
 refine znl [(a,.map (B9 mt6 0).toArray 7)] (zrl 3 13 [] [(50,ag [.func (.func 107) #[ag (B6 (⟨0,9999⟩:Spn))] #[],.func (.func 107) #[ag (B6 (⟨0,9999⟩:Spn))] #[]])] (it rfl (D7 (es:=(B9 mt6 0).toArray) (es':=(B9 mt7 0).toArray) H1 (.inl rfl) rfl rfl rfl 0 rfl oki oki) fun _=>?_))
 refine znl [(a,.map (B9 mt7 0).toArray 8)] (zrl 4 8 [] [(54,ag [.func (.func 107) #[ag (B6 (⟨0,6⟩:Spn))] #[],.func (.func 107) #[ag (B6 (⟨0,0⟩:Spn))] #[]])] (it rfl (D7 (es:=(B9 mt7 0).toArray) (es':=(B9 mt8 0).toArray) H1 (.inl rfl) rfl rfl rfl 0 rfl oki oki) fun _=>?_))
 refine znl [(a,.map (B9 mt8 0).toArray 9)] (zrl 4 3 [] [(58,ag [.func (.func 107) #[ag (B6 (⟨5,6⟩:Spn))] #[],.func (.func 107) #[ag (B6 (⟨0,0⟩:Spn))] #[]])] (it rfl (D7 (es:=(B9 mt8 0).toArray) (es':=(B9 mt9 0).toArray) H1 (.inl rfl) rfl rfl rfl 0 rfl oki oki) fun _=>?_))
 refine znl [(a,.map (B9 mt9 0).toArray 10)] (pp1 2 5 rfl (ie (A2 (sR_ rfl (zrl 2 0 [] [(60,ag [iv 2,iv 3,iv 4,iv 5,iv 6,iv 8,iv 9,iv 10,iv 11,iv 12,iv 13,iv 15,iv 16]),(61,iv 0)] (ie (A8 (P9 15 ?_))))))))
 refine D6 (sR_ rfl (pp1 1 62 rfl ?_))
 refine ie (A2 (G1 rfl (A3 (nx (A2 (A8 (sR_ rfl (ix rfl (E6 Tryz.underlying169 ty3 rfl rfl rfl 0 rfl ozw rfl rfl rfl) (pp1 1 7 rfl (ie (A0 6 rfl (zrl 5 1 [] [(64,.map (some a)),(65,iv 2),(68,ag [.func (.func 107) #[ag (B6 (⟨0,0⟩:Spn))] #[],.func (.func 107) #[ag (B6 (⟨0,0⟩:Spn))] #[]])] (it rfl (D7 (es:=(B9 mt9 0).toArray) (es':=(B9 D1c 0).toArray) H1 (.inr rfl) rfl rfl rfl 0 rfl oki oki) fun _=>?_)))))))))))))
 refine znl [(a,.map (B9 D1c 0).toArray 11)] (A1 (nx (A0 2 rfl (ix rfl (A9 (c:=1) rfl rfl rfl rfl ozw) (pp1 1 61 rfl (A1 (D6 (sR_ rfl (pp1 1 62 rfl (ie (A2 (G1 rfl (A3 (nx (A2 (A8 (sR_ rfl (ix rfl (E6 Tryz.underlying169 ty3 rfl rfl rfl 1 rfl ozw rfl rfl rfl) (pp1 1 7 rfl (ie (A0 6 rfl (zrl 5 1 [] [(64,.map (some a)),(65,iv 3),(68,ag [.func (.func 107) #[ag (B6 (⟨0,0⟩:Spn))] #[],.func (.func 107) #[ag (B6 (⟨0,0⟩:Spn))] #[]])] ?_))))))))))))))))))))))
 refine it rfl (D7 (es:=(B9 D1c 0).toArray) (es':=(B9 D0u 0).toArray) H1 (.inr rfl) rfl rfl rfl 0 rfl oki oki) fun _=>?_
 refine znl [(a,.map (B9 D0u 0).toArray 12)] (A1 (nx (A0 2 rfl (ix rfl (A9 (c:=2) rfl rfl rfl rfl ozw) (pp1 1 61 rfl (A1 (D6 (sR_ rfl (pp1 1 62 rfl (ie (A2 (G1 rfl (A3 (nx (A2 (A8 (sR_ rfl (ix rfl (E6 Tryz.underlying169 ty3 rfl rfl rfl 2 rfl ozw rfl rfl rfl) (pp1 1 7 rfl (ie (A0 6 rfl (zrl 5 1 [] [(64,.map (some a)),(65,iv 4),(68,ag [.func (.func 107) #[ag (B6 (⟨0,0⟩:Spn))] #[],.func (.func 107) #[ag (B6 (⟨0,0⟩:Spn))] #[]])] ?_))))))))))))))))))))))
 refine it rfl (D7 (es:=(B9 D0u 0).toArray) (es':=(B9 D1l 0).toArray) H1 (.inr rfl) rfl rfl rfl 0 rfl oki oki) fun _=>?_
 refine znl [(a,.map (B9 D1l 0).toArray 13)] (A1 (nx (A0 2 rfl (ix rfl (A9 (c:=3) rfl rfl rfl rfl ozw) (pp1 1 61 rfl (A1 (D6 (sR_ rfl (pp1 1 62 rfl (ie (A2 (G1 rfl (A3 (nx (A2 (A8 (sR_ rfl (ix rfl (E6 Tryz.underlying169 ty3 rfl rfl rfl 3 rfl ozw rfl rfl rfl) (pp1 1 7 rfl (ie (A0 6 rfl (zrl 5 1 [] [(64,.map (some a)),(65,iv 5),(68,ag [.func (.func 107) #[ag (B6 (⟨0,0⟩:Spn))] #[],.func (.func 107) #[ag (B6 (⟨0,0⟩:Spn))] #[]])] ?_))))))))))))))))))))))
 refine it rfl (D7 (es:=(B9 D1l 0).toArray) (es':=(B9 D0j 0).toArray) H1 (.inr rfl) rfl rfl rfl 0 rfl oki oki) fun _=>?_
 refine znl [(a,.map (B9 D0j 0).toArray 14)] (A1 (nx (A0 2 rfl (ix rfl (A9 (c:=4) rfl rfl rfl rfl ozw) (pp1 1 61 rfl (A1 (D6 (sR_ rfl (pp1 1 62 rfl (ie (A2 (G1 rfl (A3 (nx (A2 (A8 (sR_ rfl (ix rfl (E6 Tryz.underlying169 ty3 rfl rfl rfl 4 rfl ozw rfl rfl rfl) (pp1 1 7 rfl (ie (A0 6 rfl (zrl 5 1 [] [(64,.map (some a)),(65,iv 6),(68,ag [.func (.func 107) #[ag (B6 (⟨0,0⟩:Spn))] #[],.func (.func 107) #[ag (B6 (⟨0,0⟩:Spn))] #[]])] ?_))))))))))))))))))))))
 refine it rfl (D7 (es:=(B9 D0j 0).toArray) (es':=(B9 D0l 0).toArray) H1 (.inr rfl) rfl rfl rfl 0 rfl oki oki) fun _=>?_
 refine znl [(a,.map (B9 D0l 0).toArray 15)] (A1 (nx (A0 2 rfl (ix rfl (A9 (c:=5) rfl rfl rfl rfl ozw) (pp1 1 61 rfl (A1 (D6 (sR_ rfl (pp1 1 62 rfl (ie (A2 (G1 rfl (A3 (nx (A2 (A8 (sR_ rfl (ix rfl (E6 Tryz.underlying169 ty3 rfl rfl rfl 5 rfl ozw rfl rfl rfl) (pp1 1 7 rfl (ie (A0 6 rfl (zrl 5 1 [] [(64,.map (some a)),(65,iv 8),(68,ag [.func (.func 107) #[ag (B6 (⟨0,0⟩:Spn))] #[],.func (.func 107) #[ag (B6 (⟨0,0⟩:Spn))] #[]])] ?_))))))))))))))))))))))
 refine it rfl (D7 (es:=(B9 D0l 0).toArray) (es':=(B9 D0n 0).toArray) H1 (.inr rfl) rfl rfl rfl 0 rfl oki oki) fun _=>?_
 refine znl [(a,.map (B9 D0n 0).toArray 16)] (A1 (nx (A0 2 rfl (ix rfl (A9 (c:=6) rfl rfl rfl rfl ozw) (pp1 1 61 rfl (A1 (D6 (sR_ rfl (pp1 1 62 rfl (ie (A2 (G1 rfl (A3 (nx (A2 (A8 (sR_ rfl (ix rfl (E6 Tryz.underlying169 ty3 rfl rfl rfl 6 rfl ozw rfl rfl rfl) (pp1 1 7 rfl (ie (A0 6 rfl (zrl 5 1 [] [(64,.map (some a)),(65,iv 9),(68,ag [.func (.func 107) #[ag (B6 (⟨0,0⟩:Spn))] #[],.func (.func 107) #[ag (B6 (⟨0,0⟩:Spn))] #[]])] ?_))))))))))))))))))))))
 refine it rfl (D7 (es:=(B9 D0n 0).toArray) (es':=(B9 D0i 0).toArray) H1 (.inr rfl) rfl rfl rfl 0 rfl oki oki) fun _=>?_
 refine znl [(a,.map (B9 D0i 0).toArray 17)] (A1 (nx (A0 2 rfl (ix rfl (A9 (c:=7) rfl rfl rfl rfl ozw) (pp1 1 61 rfl (A1 (D6 (sR_ rfl (pp1 1 62 rfl (ie (A2 (G1 rfl (A3 (nx (A2 (A8 (sR_ rfl (ix rfl (E6 Tryz.underlying169 ty3 rfl rfl rfl 7 rfl ozw rfl rfl rfl) (pp1 1 7 rfl (ie (A0 6 rfl (zrl 5 1 [] [(64,.map (some a)),(65,iv 10),(68,ag [.func (.func 107) #[ag (B6 (⟨0,0⟩:Spn))] #[],.func (.func 107) #[ag (B6 (⟨0,0⟩:Spn))] #[]])] ?_))))))))))))))))))))))
 refine it rfl (D7 (es:=(B9 D0i 0).toArray) (es':=(B9 D2c 0).toArray) H1 (.inr rfl) rfl rfl rfl 0 rfl oki oki) fun _=>?_
 refine znl [(a,.map (B9 D2c 0).toArray 18)] (A1 (nx (A0 2 rfl (ix rfl (A9 (c:=8) rfl rfl rfl rfl ozw) (pp1 1 61 rfl (A1 (D6 (sR_ rfl (pp1 1 62 rfl (ie (A2 (G1 rfl (A3 (nx (A2 (A8 (sR_ rfl (ix rfl (E6 Tryz.underlying169 ty3 rfl rfl rfl 8 rfl ozw rfl rfl rfl) (pp1 1 7 rfl (ie (A0 6 rfl (zrl 5 1 [] [(64,.map (some a)),(65,iv 11),(68,ag [.func (.func 107) #[ag (B6 (⟨0,0⟩:Spn))] #[],.func (.func 107) #[ag (B6 (⟨0,0⟩:Spn))] #[]])] ?_))))))))))))))))))))))
 refine it rfl (D7 (es:=(B9 D2c 0).toArray) (es':=(B9 D0m 0).toArray) H1 (.inr rfl) rfl rfl rfl 0 rfl oki oki) fun _=>?_
 refine znl [(a,.map (B9 D0m 0).toArray 19)] (A1 (nx (A0 2 rfl (ix rfl (A9 (c:=9) rfl rfl rfl rfl ozw) (pp1 1 61 rfl (A1 (D6 (sR_ rfl (pp1 1 62 rfl (ie (A2 (G1 rfl (A3 (nx (A2 (A8 (sR_ rfl (ix rfl (E6 Tryz.underlying169 ty3 rfl rfl rfl 9 rfl ozw rfl rfl rfl) (pp1 1 7 rfl (ie (A0 6 rfl (zrl 5 1 [] [(64,.map (some a)),(65,iv 12),(68,ag [.func (.func 107) #[ag (B6 (⟨0,0⟩:Spn))] #[],.func (.func 107) #[ag (B6 (⟨0,0⟩:Spn))] #[]])] ?_))))))))))))))))))))))
 refine it rfl (D7 (es:=(B9 D0m 0).toArray) (es':=(B9 D2e 0).toArray) H1 (.inr rfl) rfl rfl rfl 0 rfl oki oki) fun _=>?_
 refine znl [(a,.map (B9 D2e 0).toArray 20)] (A1 (nx (A0 2 rfl (ix rfl (A9 (c:=10) rfl rfl rfl rfl ozw) (pp1 1 61 rfl (A1 (D6 (sR_ rfl (pp1 1 62 rfl (ie (A2 (G1 rfl (A3 (nx (A2 (A8 (sR_ rfl (ix rfl (E6 Tryz.underlying169 ty3 rfl rfl rfl 10 rfl ozw rfl rfl rfl) (pp1 1 7 rfl (ie (A0 6 rfl (zrl 5 1 [] [(64,.map (some a)),(65,iv 13),(68,ag [.func (.func 107) #[ag (B6 (⟨0,0⟩:Spn))] #[],.func (.func 107) #[ag (B6 (⟨0,0⟩:Spn))] #[]])] ?_))))))))))))))))))))))
 refine it rfl (D7 (es:=(B9 D2e 0).toArray) (es':=(B9 D0y 0).toArray) H1 (.inr rfl) rfl rfl rfl 0 rfl oki oki) fun _=>?_
 refine znl [(a,.map (B9 D0y 0).toArray 21)] (A1 (nx (A0 2 rfl (ix rfl (A9 (c:=11) rfl rfl rfl rfl ozw) (pp1 1 61 rfl (A1 (D6 (sR_ rfl (pp1 1 62 rfl (ie (A2 (G1 rfl (A3 (nx (A2 (A8 (sR_ rfl (ix rfl (E6 Tryz.underlying169 ty3 rfl rfl rfl 11 rfl ozw rfl rfl rfl) (pp1 1 7 rfl (ie (A0 6 rfl (zrl 5 1 [] [(64,.map (some a)),(65,iv 15),(68,ag [.func (.func 107) #[ag (B6 (⟨0,0⟩:Spn))] #[],.func (.func 107) #[ag (B6 (⟨0,0⟩:Spn))] #[]])] ?_))))))))))))))))))))))
 refine it rfl (D7 (es:=(B9 D0y 0).toArray) (es':=(B9 D0v 0).toArray) H1 (.inr rfl) rfl rfl rfl 0 rfl oki oki) fun _=>?_
 refine znl [(a,.map (B9 D0v 0).toArray 22)] (A1 (nx (A0 2 rfl (ix rfl (A9 (c:=12) rfl rfl rfl rfl ozw) (pp1 1 61 rfl (A1 (D6 (sR_ rfl (pp1 1 62 rfl (ie (A2 (G1 rfl (A3 (nx (A2 (A8 (sR_ rfl (ix rfl (E6 Tryz.underlying169 ty3 rfl rfl rfl 12 rfl ozw rfl rfl rfl) (pp1 1 7 rfl (ie (A0 6 rfl (zrl 5 1 [] [(64,.map (some a)),(65,iv 16),(68,ag [.func (.func 107) #[ag (B6 (⟨0,0⟩:Spn))] #[],.func (.func 107) #[ag (B6 (⟨0,0⟩:Spn))] #[]])] ?_))))))))))))))))))))))
 refine it rfl (D7 (es:=(B9 D0v 0).toArray) (es':=(B9 D1s 0).toArray) H1 (.inr rfl) rfl rfl rfl 0 rfl oki oki) fun _=>?_
 refine znl [(a,.map (B9 D1s 0).toArray 23)] (A1 (nx (A0 2 rfl (ix rfl (A9 (c:=13) rfl rfl rfl rfl ozw) (pp1 1 61 rfl (A1 (D6 (sR_ rfl (pp1 1 62 rfl (ie (A2 (P1 rfl (F6 (nx (A2 (sR_ rfl (zrl 2 0 [] [(70,ag (B6d (⟨7,14,42⟩:Ar3))),(71,iv 0)] (ie (A8 (P9 5 ?_))))))))))))))))))))
 refine D6 (sR_ rfl (pp1 1 72 rfl ?_))
 refine ie (A2 (G1 rfl (A3 (nx (A2 (A8 (sR_ rfl (ix rfl (E6 Tryz.underlying170 ty3 rfl rfl rfl 0 rfl ozw rfl rfl rfl) (pp1 1 9 rfl (ie (A0 6 rfl (zrl 5 1 [] [(74,.map (some a)),(75,iv 7),(78,ag [.func (.func 107) #[ag (B6 (⟨0,1⟩:Spn))] #[],.func (.func 107) #[ag (B6 (⟨0,0⟩:Spn))] #[]])] (it rfl (D7 (es:=(B9 D1s 0).toArray) (es':=(B9 D1a 0).toArray) H1 (.inr rfl) rfl rfl rfl 0 rfl oki oki) fun _=>?_)))))))))))))
 refine znl [(a,.map (B9 D1a 0).toArray 24)] (A1 (nx (A0 2 rfl (ix rfl (A9 (c:=1) rfl rfl rfl rfl ozw) (pp1 1 71 rfl (A1 (D6 (sR_ rfl (pp1 1 72 rfl (ie (A2 (G1 rfl (A3 (nx (A2 (A8 (sR_ rfl (ix rfl (E6 Tryz.underlying170 ty3 rfl rfl rfl 1 rfl ozw rfl rfl rfl) (pp1 1 9 rfl (ie (A0 6 rfl (zrl 5 1 [] [(74,.map (some a)),(75,iv 14),(78,ag [.func (.func 107) #[ag (B6 (⟨0,1⟩:Spn))] #[],.func (.func 107) #[ag (B6 (⟨0,0⟩:Spn))] #[]])] ?_))))))))))))))))))))))
 refine it rfl (D7 (es:=(B9 D1a 0).toArray) (es':=(B9 D1n 0).toArray) H1 (.inr rfl) rfl rfl rfl 0 rfl oki oki) fun _=>?_
 refine znl [(a,.map (B9 D1n 0).toArray 25)] (A1 (nx (A0 2 rfl (ix rfl (A9 (c:=2) rfl rfl rfl rfl ozw) (pp1 1 71 rfl (A1 (D6 (sR_ rfl (pp1 1 72 rfl (ie (A2 (G1 rfl (A3 (nx (A2 (A8 (sR_ rfl (ix rfl (E6 Tryz.underlying170 ty3 rfl rfl rfl 2 rfl ozw rfl rfl rfl) (pp1 1 9 rfl (ie (A0 6 rfl (zrl 5 1 [] [(74,.map (some a)),(75,iv 42),(78,ag [.func (.func 107) #[ag (B6 (⟨0,1⟩:Spn))] #[],.func (.func 107) #[ag (B6 (⟨0,0⟩:Spn))] #[]])] ?_))))))))))))))))))))))
 refine it rfl (D7 (es:=(B9 D1n 0).toArray) (es':=(B9 D1b 0).toArray) H1 (.inr rfl) rfl rfl rfl 0 rfl oki oki) fun _=>?_
 refine znl [(a,.map (B9 D1b 0).toArray 26)] (A1 (nx (A0 2 rfl (ix rfl (A9 (c:=3) rfl rfl rfl rfl ozw) (pp1 1 71 rfl (A1 (D6 (sR_ rfl (pp1 1 72 rfl (ie (A2 (P1 rfl (F6 (nx (A2 (sR_ rfl (zrl 2 0 [] [(80,ag (B5c (⟨21,33⟩:Ar2))),(81,iv 0)] (ie (A8 (P9 4 ?_))))))))))))))))))))
 refine D6 (sR_ rfl (pp1 1 82 rfl ?_))
 refine ie (A2 (G1 rfl (A3 (nx (A2 (A8 (sR_ rfl (ix rfl (E6 Tryz.underlying104 ty3 rfl rfl rfl 0 rfl ozw rfl rfl rfl) (pp1 1 11 rfl (ie (A0 6 rfl (zrl 5 1 [] [(84,.map (some a)),(85,iv 21),(88,ag [.func (.func 107) #[ag (B6 (⟨0,1⟩:Spn))] #[],.func (.func 107) #[ag (B6 (⟨1,9999⟩:Spn))] #[]])] (it rfl (D7 (es:=(B9 D1b 0).toArray) (es':=(B9 D0k 0).toArray) H1 (.inr rfl) rfl rfl rfl 0 rfl oki oki) fun _=>?_)))))))))))))
 refine znl [(a,.map (B9 D0k 0).toArray 27)] (A1 (nx (A0 2 rfl (ix rfl (A9 (c:=1) rfl rfl rfl rfl ozw) (pp1 1 81 rfl (A1 (D6 (sR_ rfl (pp1 1 82 rfl (ie (A2 (G1 rfl (A3 (nx (A2 (A8 (sR_ rfl (ix rfl (E6 Tryz.underlying104 ty3 rfl rfl rfl 1 rfl ozw rfl rfl rfl) (pp1 1 11 rfl (ie (A0 6 rfl (zrl 5 1 [] [(84,.map (some a)),(85,iv 33),(88,ag [.func (.func 107) #[ag (B6 (⟨0,1⟩:Spn))] #[],.func (.func 107) #[ag (B6 (⟨1,9999⟩:Spn))] #[]])] ?_))))))))))))))))))))))
 refine it rfl (D7 (es:=(B9 D0k 0).toArray) (es':=(B9 D1e 0).toArray) H1 (.inr rfl) rfl rfl rfl 0 rfl oki oki) fun _=>?_
 refine znl [(a,.map (B9 D1e 0).toArray 28)] (A1 (nx (A0 2 rfl (ix rfl (A9 (c:=2) rfl rfl rfl rfl ozw) (pp1 1 81 rfl (A1 (D6 (sR_ rfl (pp1 1 82 rfl (ie (A2 (P1 rfl (F6 (nx (A2 (sR_ rfl (zrl 2 0 [] [(90,ag [iv 22,iv 23,iv 24,iv 25,iv 28,iv 29,iv 30,iv 31,iv 32,iv 34]),(91,iv 0)] (ie (A8 (P9 12 ?_))))))))))))))))))))
 refine D6 (sR_ rfl (pp1 1 92 rfl ?_))
 refine ie (A2 (G1 rfl (A3 (nx (A2 (A8 (sR_ rfl (ix rfl (E6 Tryz.underlying171 ty3 rfl rfl rfl 0 rfl ozw rfl rfl rfl) (pp1 1 13 rfl (ie (A0 6 rfl (zrl 5 1 [] [(94,.map (some a)),(95,iv 22),(98,ag [.func (.func 107) #[ag (B6 (⟨1,9999⟩:Spn))] #[],.func (.func 107) #[ag (B6 (⟨0,0⟩:Spn))] #[]])] (it rfl (D7 (es:=(B9 D1e 0).toArray) (es':=(B9 D0c 0).toArray) H1 (.inr rfl) rfl rfl rfl 0 rfl oki oki) fun _=>?_)))))))))))))
 refine znl [(a,.map (B9 D0c 0).toArray 29)] (A1 (nx (A0 2 rfl (ix rfl (A9 (c:=1) rfl rfl rfl rfl ozw) (pp1 1 91 rfl (A1 (D6 (sR_ rfl (pp1 1 92 rfl (ie (A2 (G1 rfl (A3 (nx (A2 (A8 (sR_ rfl (ix rfl (E6 Tryz.underlying171 ty3 rfl rfl rfl 1 rfl ozw rfl rfl rfl) (pp1 1 13 rfl (ie (A0 6 rfl (zrl 5 1 [] [(94,.map (some a)),(95,iv 23),(98,ag [.func (.func 107) #[ag (B6 (⟨1,9999⟩:Spn))] #[],.func (.func 107) #[ag (B6 (⟨0,0⟩:Spn))] #[]])] ?_))))))))))))))))))))))
 refine it rfl (D7 (es:=(B9 D0c 0).toArray) (es':=(B9 D0g 0).toArray) H1 (.inr rfl) rfl rfl rfl 0 rfl oki oki) fun _=>?_
 refine znl [(a,.map (B9 D0g 0).toArray 30)] (A1 (nx (A0 2 rfl (ix rfl (A9 (c:=2) rfl rfl rfl rfl ozw) (pp1 1 91 rfl (A1 (D6 (sR_ rfl (pp1 1 92 rfl (ie (A2 (G1 rfl (A3 (nx (A2 (A8 (sR_ rfl (ix rfl (E6 Tryz.underlying171 ty3 rfl rfl rfl 2 rfl ozw rfl rfl rfl) (pp1 1 13 rfl (ie (A0 6 rfl (zrl 5 1 [] [(94,.map (some a)),(95,iv 24),(98,ag [.func (.func 107) #[ag (B6 (⟨1,9999⟩:Spn))] #[],.func (.func 107) #[ag (B6 (⟨0,0⟩:Spn))] #[]])] ?_))))))))))))))))))))))
 refine it rfl (D7 (es:=(B9 D0g 0).toArray) (es':=(B9 D1q 0).toArray) H1 (.inr rfl) rfl rfl rfl 0 rfl oki oki) fun _=>?_
 refine znl [(a,.map (B9 D1q 0).toArray 31)] (A1 (nx (A0 2 rfl (ix rfl (A9 (c:=3) rfl rfl rfl rfl ozw) (pp1 1 91 rfl (A1 (D6 (sR_ rfl (pp1 1 92 rfl (ie (A2 (G1 rfl (A3 (nx (A2 (A8 (sR_ rfl (ix rfl (E6 Tryz.underlying171 ty3 rfl rfl rfl 3 rfl ozw rfl rfl rfl) (pp1 1 13 rfl (ie (A0 6 rfl (zrl 5 1 [] [(94,.map (some a)),(95,iv 25),(98,ag [.func (.func 107) #[ag (B6 (⟨1,9999⟩:Spn))] #[],.func (.func 107) #[ag (B6 (⟨0,0⟩:Spn))] #[]])] ?_))))))))))))))))))))))
 refine it rfl (D7 (es:=(B9 D1q 0).toArray) (es':=(B9 D0e 0).toArray) H1 (.inr rfl) rfl rfl rfl 0 rfl oki oki) fun _=>?_
 refine znl [(a,.map (B9 D0e 0).toArray 32)] (A1 (nx (A0 2 rfl (ix rfl (A9 (c:=4) rfl rfl rfl rfl ozw) (pp1 1 91 rfl (A1 (D6 (sR_ rfl (pp1 1 92 rfl (ie (A2 (G1 rfl (A3 (nx (A2 (A8 (sR_ rfl (ix rfl (E6 Tryz.underlying171 ty3 rfl rfl rfl 4 rfl ozw rfl rfl rfl) (pp1 1 13 rfl (ie (A0 6 rfl (zrl 5 1 [] [(94,.map (some a)),(95,iv 28),(98,ag [.func (.func 107) #[ag (B6 (⟨1,9999⟩:Spn))] #[],.func (.func 107) #[ag (B6 (⟨0,0⟩:Spn))] #[]])] ?_))))))))))))))))))))))
 refine it rfl (D7 (es:=(B9 D0e 0).toArray) (es':=(B9 D0s 0).toArray) H1 (.inr rfl) rfl rfl rfl 0 rfl oki oki) fun _=>?_
 refine znl [(a,.map (B9 D0s 0).toArray 33)] (A1 (nx (A0 2 rfl (ix rfl (A9 (c:=5) rfl rfl rfl rfl ozw) (pp1 1 91 rfl (A1 (D6 (sR_ rfl (pp1 1 92 rfl (ie (A2 (G1 rfl (A3 (nx (A2 (A8 (sR_ rfl (ix rfl (E6 Tryz.underlying171 ty3 rfl rfl rfl 5 rfl ozw rfl rfl rfl) (pp1 1 13 rfl (ie (A0 6 rfl (zrl 5 1 [] [(94,.map (some a)),(95,iv 29),(98,ag [.func (.func 107) #[ag (B6 (⟨1,9999⟩:Spn))] #[],.func (.func 107) #[ag (B6 (⟨0,0⟩:Spn))] #[]])] ?_))))))))))))))))))))))
 refine it rfl (D7 (es:=(B9 D0s 0).toArray) (es':=(B9 D1i 0).toArray) H1 (.inr rfl) rfl rfl rfl 0 rfl oki oki) fun _=>?_
 refine znl [(a,.map (B9 D1i 0).toArray 34)] (A1 (nx (A0 2 rfl (ix rfl (A9 (c:=6) rfl rfl rfl rfl ozw) (pp1 1 91 rfl (A1 (D6 (sR_ rfl (pp1 1 92 rfl (ie (A2 (G1 rfl (A3 (nx (A2 (A8 (sR_ rfl (ix rfl (E6 Tryz.underlying171 ty3 rfl rfl rfl 6 rfl ozw rfl rfl rfl) (pp1 1 13 rfl (ie (A0 6 rfl (zrl 5 1 [] [(94,.map (some a)),(95,iv 30),(98,ag [.func (.func 107) #[ag (B6 (⟨1,9999⟩:Spn))] #[],.func (.func 107) #[ag (B6 (⟨0,0⟩:Spn))] #[]])] ?_))))))))))))))))))))))
 refine it rfl (D7 (es:=(B9 D1i 0).toArray) (es':=(B9 C9z 0).toArray) H1 (.inr rfl) rfl rfl rfl 0 rfl oki oki) fun _=>?_
 refine znl [(a,.map (B9 C9z 0).toArray 35)] (A1 (nx (A0 2 rfl (ix rfl (A9 (c:=7) rfl rfl rfl rfl ozw) (pp1 1 91 rfl (A1 (D6 (sR_ rfl (pp1 1 92 rfl (ie (A2 (G1 rfl (A3 (nx (A2 (A8 (sR_ rfl (ix rfl (E6 Tryz.underlying171 ty3 rfl rfl rfl 7 rfl ozw rfl rfl rfl) (pp1 1 13 rfl (ie (A0 6 rfl (zrl 5 1 [] [(94,.map (some a)),(95,iv 31),(98,ag [.func (.func 107) #[ag (B6 (⟨1,9999⟩:Spn))] #[],.func (.func 107) #[ag (B6 (⟨0,0⟩:Spn))] #[]])] ?_))))))))))))))))))))))
 refine it rfl (D7 (es:=(B9 C9z 0).toArray) (es':=(B9 D1f 0).toArray) H1 (.inr rfl) rfl rfl rfl 0 rfl oki oki) fun _=>?_
 refine znl [(a,.map (B9 D1f 0).toArray 36)] (A1 (nx (A0 2 rfl (ix rfl (A9 (c:=8) rfl rfl rfl rfl ozw) (pp1 1 91 rfl (A1 (D6 (sR_ rfl (pp1 1 92 rfl (ie (A2 (G1 rfl (A3 (nx (A2 (A8 (sR_ rfl (ix rfl (E6 Tryz.underlying171 ty3 rfl rfl rfl 8 rfl ozw rfl rfl rfl) (pp1 1 13 rfl (ie (A0 6 rfl (zrl 5 1 [] [(94,.map (some a)),(95,iv 32),(98,ag [.func (.func 107) #[ag (B6 (⟨1,9999⟩:Spn))] #[],.func (.func 107) #[ag (B6 (⟨0,0⟩:Spn))] #[]])] ?_))))))))))))))))))))))
 refine it rfl (D7 (es:=(B9 D1f 0).toArray) (es':=(B9 D0f 0).toArray) H1 (.inr rfl) rfl rfl rfl 0 rfl oki oki) fun _=>?_
 refine znl [(a,.map (B9 D0f 0).toArray 37)] (A1 (nx (A0 2 rfl (ix rfl (A9 (c:=9) rfl rfl rfl rfl ozw) (pp1 1 91 rfl (A1 (D6 (sR_ rfl (pp1 1 92 rfl (ie (A2 (G1 rfl (A3 (nx (A2 (A8 (sR_ rfl (ix rfl (E6 Tryz.underlying171 ty3 rfl rfl rfl 9 rfl ozw rfl rfl rfl) (pp1 1 13 rfl (ie (A0 6 rfl (zrl 5 1 [] [(94,.map (some a)),(95,iv 34),(98,ag [.func (.func 107) #[ag (B6 (⟨1,9999⟩:Spn))] #[],.func (.func 107) #[ag (B6 (⟨0,0⟩:Spn))] #[]])] ?_))))))))))))))))))))))
 refine it rfl (D7 (es:=(B9 D0f 0).toArray) (es':=(B9 D1z 0).toArray) H1 (.inr rfl) rfl rfl rfl 0 rfl oki oki) fun _=>?_
 refine znl [(a,.map (B9 D1z 0).toArray 38)] (A1 (nx (A0 2 rfl (ix rfl (A9 (c:=10) rfl rfl rfl rfl ozw) (pp1 1 91 rfl (A1 (D6 (sR_ rfl (pp1 1 92 rfl (ie (A2 (P1 rfl (F6 (nx (A2 (sR_ rfl (zrl 2 0 [] [(100,ag (B6d (⟨36,37,43⟩:Ar3))),(101,iv 0)] (ie (A8 (P9 5 ?_))))))))))))))))))))
 refine D6 (sR_ rfl (pp1 1 102 rfl ?_))
 refine ie (A2 (G1 rfl (A3 (nx (A2 (A8 (sR_ rfl (ix rfl (E6 Tryz.underlying170 ty3 rfl rfl rfl 0 rfl ozw rfl rfl rfl) (pp1 1 15 rfl (ie (A0 6 rfl (zrl 5 1 [] [(104,.map (some a)),(105,iv 36),(108,ag [.func (.func 107) #[ag (B6 (⟨0,9999⟩:Spn))] #[],.func (.func 107) #[ag (B6 (⟨0,1⟩:Spn))] #[]])] (it rfl (D7 (es:=(B9 D1z 0).toArray) (es':=(B9 D0a 0).toArray) H1 (.inr rfl) rfl rfl rfl 0 rfl oki oki) fun _=>?_)))))))))))))
 refine znl [(a,.map (B9 D0a 0).toArray 39)] (A1 (nx (A0 2 rfl (ix rfl (A9 (c:=1) rfl rfl rfl rfl ozw) (pp1 1 101 rfl (A1 (D6 (sR_ rfl (pp1 1 102 rfl (ie (A2 (G1 rfl (A3 (nx (A2 (A8 (sR_ rfl (ix rfl (E6 Tryz.underlying170 ty3 rfl rfl rfl 1 rfl ozw rfl rfl rfl) (pp1 1 15 rfl (ie (A0 6 rfl (zrl 5 1 [] [(104,.map (some a)),(105,iv 37),(108,ag [.func (.func 107) #[ag (B6 (⟨0,9999⟩:Spn))] #[],.func (.func 107) #[ag (B6 (⟨0,1⟩:Spn))] #[]])] ?_))))))))))))))))))))))
 refine it rfl (D7 (es:=(B9 D0a 0).toArray) (es':=(B9 D1h 0).toArray) H1 (.inr rfl) rfl rfl rfl 0 rfl oki oki) fun _=>?_
 refine znl [(a,.map (B9 D1h 0).toArray 40)] (A1 (nx (A0 2 rfl (ix rfl (A9 (c:=2) rfl rfl rfl rfl ozw) (pp1 1 101 rfl (A1 (D6 (sR_ rfl (pp1 1 102 rfl (ie (A2 (G1 rfl (A3 (nx (A2 (A8 (sR_ rfl (ix rfl (E6 Tryz.underlying170 ty3 rfl rfl rfl 2 rfl ozw rfl rfl rfl) (pp1 1 15 rfl (ie (A0 6 rfl (zrl 5 1 [] [(104,.map (some a)),(105,iv 43),(108,ag [.func (.func 107) #[ag (B6 (⟨0,9999⟩:Spn))] #[],.func (.func 107) #[ag (B6 (⟨0,1⟩:Spn))] #[]])] ?_))))))))))))))))))))))
 refine it rfl (D7 (es:=(B9 D1h 0).toArray) (es':=(B9 C0h 0).toArray) H1 (.inr rfl) rfl rfl rfl 0 rfl oki oki) fun _=>?_
 refine znl [(a,.map (B9 C0h 0).toArray 41)] (A1 (nx (A0 2 rfl (ix rfl (A9 (c:=3) rfl rfl rfl rfl ozw) (pp1 1 101 rfl (A1 (D6 (sR_ rfl (pp1 1 102 rfl (ie (A2 (P1 rfl (F6 (nx (sR_ rfl (pp1 2 0 rfl ?_))))))))))))))))
 subst hR
 refine ie (A6 ?_)
 exact zer hr hD (U4 rfl (A4 rfl)) a sb_ fn0
def E7 (s:Spn) (n:Int):Bool :=
 ((decide (s.lo≤n))&&(decide (n≤s.hi)))
theorem F0 {s:Spn} {n:Int} {R:Bool} (hR:E7 s n=R):J6 Tryz.prog 107 [ag (B6 s),iv n] [] (bv R):=by
 refine zce Tryz.func107 fun X hX hr hD=>?_
 replace hR:=(E7.eq_1 ..).symm.trans hR
 refine sR_ rfl (J3 2 0 [] (fun a=>[(2,pt a 0)]) (fun a=>[bx a (B6 s) 168]) (fun a=>(ie (sR_ rfl (pl1 5 [0] 9 rfl ?_)))))
 refine zid 5 1 9 14 (decide (n≤s.hi)) (fun b c=>?_) ?_
 ·refine pl1 5 [0] 14 rfl ?_
  exact A1 (J0 2 9 14 b fn0 sb_ rfl rfl rfl rfl rfl)
 refine pp1 1 4 rfl ?_
 subst hR
 refine ie (A6 ?_)
 exact E2 hr hD
def V8 (d:Int) (c:Int) (a:Col) (b:List UInt8):Int :=
 (bif ((((!(E7 (⟨0,9999⟩:Spn) d))||(!(E7 (⟨0,1⟩:Spn) c)))||(!(decide (a=Col.zero))))||(!(decide (b=([]:List UInt8))))) then 200 else 0)
theorem B5f {g e:Int} {c:Col} {d:List UInt8} {R:Int} (hR:V8 g e c d=R) (hs:d.length≤100000000:=by exact om_):J6 Tryz.prog 20 [ag (B8 (⟨37,g,e,c,d⟩:Act))] [] (iv R):=by
 refine zce Tryz.func20 fun X hX hr hD=>?_
 replace hR:=(V8.eq_1 ..).symm.trans hR
 refine sR_ rfl (J3 2 0 [] (fun f=>[(1,pt f 0)]) (fun f=>[bx f (B8 (⟨37,g,e,c,d⟩:Act)) 68]) (fun f=>(ie (sR_ rfl (pp1 1 3 rfl (ie (A2 (sR_ rfl (pl1 2 [0] 7 rfl (ie (A8 (sR_ rfl (pp1 2 44 rfl (ie (P1 rfl (sR_ rfl (pp1 2 59 rfl (ie (P1 rfl (A2 (sR_ rfl (pp1 2 63 rfl (ie (P1 rfl (sR_ rfl (pp1 2 63 rfl ?_))))))))))))))))))))))))))
 refine ie (P1 rfl (A0 2 rfl (pp1 2 63 rfl (A1 (nx (P1 rfl (sh 10 [(10,[bx f (B8 (⟨37,g,e,c,d⟩:Act)) 68])] [] [bx f (B8 (⟨37,g,e,c,d⟩:Act)) 68] (zml 10 0) oki rfl oki oki oki sb_ A5.refl ?_)))))))
 refine zhp [1] 9 (zml 10 2) [(10,pt f 0)] ?_
 refine zhl 2 [bx f (B8 (⟨37,g,e,c,d⟩:Act)) 68] (zml 10 6) rfl (A7 (v:=iv 37) ty3 rfl rfl 0 rfl rfl) ?_
 refine Z1 0 7 oki ?_ ?_
 ·refine A2l 0 [bx f (B8 (⟨37,g,e,c,d⟩:Act)) 68] (zml 10 7) rfl rfl rfl oki oki oki (I0 (L2:=[bx f (B8 (⟨37,g,e,c,d⟩:Act)) 68]) (R8 rfl) rfl rfl rfl rfl rfl fn0 (List.Perm.refl _) (fun s=>[(s,.map (B9 C0h 0).toArray 41),bx f (B8 (⟨37,g,e,c,d⟩:Act)) 68]) (fun _=>rfl)) (fun s=>sb_) (fun s=>fn0) fun s=>?_
  refine Z1 3 7 oki ?_ ?_
  ·refine A2l 3 [bx f (B8 (⟨37,g,e,c,d⟩:Act)) 68] (zml 10 15) rfl rfl rfl oki oki oki (Det.tri (H9.det (O7 (v:=ag [.func (.func 107) #[ag (B6 (⟨0,9999⟩:Spn))] #[],.func (.func 107) #[ag (B6 (⟨0,1⟩:Spn))] #[]]) (j:=39) H1 rfl rfl rfl 0 rfl oki))) (fun _=>sb_) (fun _=>fn0) fun _=>?_
   refine zhp [4,5,6] 3 (zml 10 127) [(13,ag [.func (.func 107) #[ag (B6 (⟨0,9999⟩:Spn))] #[],.func (.func 107) #[ag (B6 (⟨0,1⟩:Spn))] #[]]),(14,bv true)] ?_
   refine zho 7 [bx f (B8 (⟨37,g,e,c,d⟩:Act)) 68] (zml 10 255) rfl (I7 (cs:=[.nilFunc,.nilFunc]) A4j rfl) (fun b3=>sb_) (fun b3=>fn0) fun b3=>?_
   refine zho 8 [bx f (B8 (⟨37,g,e,c,d⟩:Act)) 68] (zml 10 511) rfl (D0 (us:=[.func (.func 107) #[ag (B6 (⟨0,9999⟩:Spn))] #[],.func (.func 107) #[ag (B6 (⟨0,1⟩:Spn))] #[]]) (cs':=[.func (.func 107) #[ag (B6 (⟨0,9999⟩:Spn))] #[],.func (.func 107) #[ag (B6 (⟨0,1⟩:Spn))] #[]]) B2n rfl rfl rfl 0 rfl rfl rfl rfl rfl rfl) (fun _=>sb_) (fun _=>fn0) fun _=>?_
   refine zhp [9] 0 (zml 10 1023) [(5,bv true)] ?_
   refine P4 oki ?_
   refine sR_ rfl (zrl 6 23 [0] [(17,bv false),(19,.func (.func 107) #[ag (B6 (⟨0,9999⟩:Spn))] #[]),(20,pt f 1)] (ix rfl (A7 (v:=iv g) ty3 rfl rfl 2 rfl rfl) (zv rfl (F0 rfl) (pp1 3 25 rfl ?_))))
   refine zio 7 11 25 32 (!(E7 (⟨0,1⟩:Spn) e)) (fun g4=>?_) ?_
   ·refine zrl 3 4 [0] [(27,.func (.func 107) #[ag (B6 (⟨0,1⟩:Spn))] #[]),(28,pt f 2)] (ix rfl (A7 (v:=iv e) ty3 rfl rfl 2 rfl rfl) (zv rfl (F0 rfl) (pp1 2 32 rfl ?_)))
    exact A1 (J0 6 25 32 g4 fn0 sb_ rfl rfl rfl rfl rfl)
   refine pp1 1 33 rfl ?_
   refine zio 5 5 33 38 (!(decide (c=Col.zero))) (fun g5=>?_) ?_
   ·have a6:=bq_ g5
    refine pp1 1 34 rfl (ix rfl (E5 (us:=S2 c) B4t rfl rfl 2 rfl rfl rfl) (zrl 1 2 [] [(36,ag (S2 Col.zero))] (ix rfl (W4 (a:=c) (b:=Col.zero) B2c rfl rfl rfl) (pp1 1 38 rfl ?_))))
    exact A1 (J0 6 33 38 g5 fn0 sb_ rfl rfl rfl rfl rfl)
   refine pp1 1 39 rfl ?_
   refine zio 4 0 39 43 (!(decide (d=([]:List UInt8)))) (fun g6=>?_) ?_
   ·have a7:=bq_ g6
    refine pp1 1 40 rfl (ix rfl (A7 (v:=sv d) ty9 rfl rfl 2 rfl rfl) (ix rfl (A1e rfl rfl rfl) (pp1 1 43 rfl ?_)))
    exact A1 (J0 5 39 43 g6 fn0 sb_ rfl rfl rfl rfl rfl)
   refine ie ?_
   refine zjb rfl hR ?_ ?_<;>clear hR<;>intro hR h7
   ·have u:=bq_ h7
    refine A0 1 rfl (pp1 1 3 rfl (A1 (nx (A2 (sR_ rfl (pp1 2 73 rfl (ie (G1 rfl (sR_ rfl (pp1 1 2 rfl ?_))))))))))
    subst hR
    refine ie (A6 ?_)
    exact E2 hr hD
   have u:=bq_ h7
   refine A3 (nx (A2 (sR_ rfl (pp1 2 73 rfl (ie (P1 rfl (A3 (nx (sR_ rfl (pp1 1 2 rfl ?_))))))))))
   subst hR
   refine ie (A6 ?_)
   exact E2 hr hD
  ·refine A2l 7 [bx f (B8 (⟨37,g,e,c,d⟩:Act)) 68] (zml 10 135) rfl rfl rfl oki oki oki (I7 (cs:=[.nilFunc,.nilFunc]) A4j rfl) (fun w=>sb_) (fun w=>fn0) fun w=>?_
   refine zho 3 [bx f (B8 (⟨37,g,e,c,d⟩:Act)) 68] (zml 10 143) rfl (Det.tri (H9.det (O7 (v:=ag [.func (.func 107) #[ag (B6 (⟨0,9999⟩:Spn))] #[],.func (.func 107) #[ag (B6 (⟨0,1⟩:Spn))] #[]]) (j:=39) H1 rfl rfl rfl 1 rfl oki))) (fun _=>sb_) (fun _=>fn0) fun _=>?_
   refine zhp [4,5,6] 2 (zml 10 255) [(13,ag [.func (.func 107) #[ag (B6 (⟨0,9999⟩:Spn))] #[],.func (.func 107) #[ag (B6 (⟨0,1⟩:Spn))] #[]]),(14,bv true)] ?_
   refine zho 8 [bx f (B8 (⟨37,g,e,c,d⟩:Act)) 68] (zml 10 511) rfl (D0 (us:=[.func (.func 107) #[ag (B6 (⟨0,9999⟩:Spn))] #[],.func (.func 107) #[ag (B6 (⟨0,1⟩:Spn))] #[]]) (cs':=[.func (.func 107) #[ag (B6 (⟨0,9999⟩:Spn))] #[],.func (.func 107) #[ag (B6 (⟨0,1⟩:Spn))] #[]]) B2n rfl rfl rfl 0 rfl rfl rfl rfl rfl rfl) (fun _=>sb_) (fun _=>fn0) fun _=>?_
   refine zhp [9] 0 (zml 10 1023) [(5,bv true)] ?_
   refine P4 oki ?_
   refine sR_ rfl (zrl 6 23 [0] [(17,bv false),(19,.func (.func 107) #[ag (B6 (⟨0,9999⟩:Spn))] #[]),(20,pt f 1)] (ix rfl (A7 (v:=iv g) ty3 rfl rfl 2 rfl rfl) (zv rfl (F0 rfl) (pp1 3 25 rfl ?_))))
   refine zio 7 11 25 32 (!(E7 (⟨0,1⟩:Spn) e)) (fun g9=>?_) ?_
   ·refine zrl 3 4 [0] [(27,.func (.func 107) #[ag (B6 (⟨0,1⟩:Spn))] #[]),(28,pt f 2)] (ix rfl (A7 (v:=iv e) ty3 rfl rfl 2 rfl rfl) (zv rfl (F0 rfl) (pp1 2 32 rfl ?_)))
    exact A1 (J0 6 25 32 g9 fn0 sb_ rfl rfl rfl rfl rfl)
   refine pp1 1 33 rfl ?_
   refine zio 5 5 33 38 (!(decide (c=Col.zero))) (fun n=>?_) ?_
   ·have y:=bq_ n
    refine pp1 1 34 rfl (ix rfl (E5 (us:=S2 c) B4t rfl rfl 2 rfl rfl rfl) (zrl 1 2 [] [(36,ag (S2 Col.zero))] (ix rfl (W4 (a:=c) (b:=Col.zero) B2c rfl rfl rfl) (pp1 1 38 rfl ?_))))
    exact A1 (J0 6 33 38 n fn0 sb_ rfl rfl rfl rfl rfl)
   refine pp1 1 39 rfl ?_
   refine zio 4 0 39 43 (!(decide (d=([]:List UInt8)))) (fun o=>?_) ?_
   ·have a4:=bq_ o
    refine pp1 1 40 rfl (ix rfl (A7 (v:=sv d) ty9 rfl rfl 2 rfl rfl) (ix rfl (A1e rfl rfl rfl) (pp1 1 43 rfl ?_)))
    exact A1 (J0 5 39 43 o fn0 sb_ rfl rfl rfl rfl rfl)
   refine ie ?_
   refine zjb rfl hR ?_ ?_<;>clear hR<;>intro hR l
   ·have k:=bq_ l
    refine A0 1 rfl (pp1 1 3 rfl (A1 (nx (A2 (sR_ rfl (pp1 2 73 rfl (ie (G1 rfl (sR_ rfl (pp1 1 2 rfl ?_))))))))))
    subst hR
    refine ie (A6 ?_)
    exact E2 hr hD
   have k:=bq_ l
   refine A3 (nx (A2 (sR_ rfl (pp1 2 73 rfl (ie (P1 rfl (A3 (nx (sR_ rfl (pp1 1 2 rfl ?_))))))))))
   subst hR
   refine ie (A6 ?_)
   exact E2 hr hD
 ·refine A2l 7 [bx f (B8 (⟨37,g,e,c,d⟩:Act)) 68] (zml 10 134) rfl rfl rfl oki oki oki (I7 (cs:=[.nilFunc,.nilFunc]) A4j rfl) (fun i=>sb_) (fun i=>fn0) fun i=>?_
  refine zho 0 [bx f (B8 (⟨37,g,e,c,d⟩:Act)) 68] (zml 10 135) rfl (I0 (L2:=[bx i [.nilFunc,.nilFunc] 119,bx f (B8 (⟨37,g,e,c,d⟩:Act)) 68]) (R8 rfl) rfl rfl rfl rfl rfl fn0 (List.Perm.refl _) (fun h=>[(h,.map (B9 C0h 0).toArray 41),bx i [.nilFunc,.nilFunc] 119,bx f (B8 (⟨37,g,e,c,d⟩:Act)) 68]) (fun _=>rfl)) (fun h=>sb_) (fun h=>fn0) fun h=>?_
  refine zho 3 [bx f (B8 (⟨37,g,e,c,d⟩:Act)) 68] (zml 10 143) rfl (Det.tri (H9.det (O7 (v:=ag [.func (.func 107) #[ag (B6 (⟨0,9999⟩:Spn))] #[],.func (.func 107) #[ag (B6 (⟨0,1⟩:Spn))] #[]]) (j:=39) H1 rfl rfl rfl 0 rfl oki))) (fun _=>sb_) (fun _=>fn0) fun _=>?_
  refine zhp [4,5,6] 2 (zml 10 255) [(13,ag [.func (.func 107) #[ag (B6 (⟨0,9999⟩:Spn))] #[],.func (.func 107) #[ag (B6 (⟨0,1⟩:Spn))] #[]]),(14,bv true)] ?_
  refine zho 8 [bx f (B8 (⟨37,g,e,c,d⟩:Act)) 68] (zml 10 511) rfl (D0 (us:=[.func (.func 107) #[ag (B6 (⟨0,9999⟩:Spn))] #[],.func (.func 107) #[ag (B6 (⟨0,1⟩:Spn))] #[]]) (cs':=[.func (.func 107) #[ag (B6 (⟨0,9999⟩:Spn))] #[],.func (.func 107) #[ag (B6 (⟨0,1⟩:Spn))] #[]]) B2n rfl rfl rfl 1 rfl rfl rfl rfl rfl rfl) (fun _=>sb_) (fun _=>fn0) fun _=>?_
  refine zhp [9] 0 (zml 10 1023) [(5,bv true)] ?_
  refine P4 oki ?_
  refine sR_ rfl (pp2 4 17 18 rfl (ix rfl (A7 (v:=.func (.func 107) #[ag (B6 (⟨0,9999⟩:Spn))] #[]) C6e rfl rfl 1 rfl rfl) (pp1 1 20 rfl (ix rfl (A7 (v:=iv g) ty3 rfl rfl 2 rfl rfl) (zv rfl (F0 rfl) (pp1 3 25 rfl ?_))))))
  refine zio 7 11 25 32 (!(E7 (⟨0,1⟩:Spn) e)) (fun t=>?_) ?_
  ·refine pp1 1 26 rfl (ix rfl (A7 (v:=.func (.func 107) #[ag (B6 (⟨0,1⟩:Spn))] #[]) C6e rfl rfl 1 rfl rfl) (pp1 1 28 rfl (ix rfl (A7 (v:=iv e) ty3 rfl rfl 2 rfl rfl) (zv rfl (F0 rfl) (pp1 2 32 rfl ?_)))))
   exact A1 (J0 7 25 32 t fn0 sb_ rfl rfl rfl rfl rfl)
  refine pp1 1 33 rfl ?_
  refine zio 5 5 33 38 (!(decide (c=Col.zero))) (fun q=>?_) ?_
  ·have x:=bq_ q
   refine pp1 1 34 rfl (ix rfl (E5 (us:=S2 c) B4t rfl rfl 2 rfl rfl rfl) (zrl 1 2 [] [(36,ag (S2 Col.zero))] (ix rfl (W4 (a:=c) (b:=Col.zero) B2c rfl rfl rfl) (pp1 1 38 rfl ?_))))
   exact A1 (J0 6 33 38 q fn0 sb_ rfl rfl rfl rfl rfl)
  refine pp1 1 39 rfl ?_
  refine zio 4 0 39 43 (!(decide (d=([]:List UInt8)))) (fun p=>?_) ?_
  ·have z:=bq_ p
   refine pp1 1 40 rfl (ix rfl (A7 (v:=sv d) ty9 rfl rfl 2 rfl rfl) (ix rfl (A1e rfl rfl rfl) (pp1 1 43 rfl ?_)))
   exact A1 (J0 5 39 43 p fn0 sb_ rfl rfl rfl rfl rfl)
  refine ie ?_
  refine zjb rfl hR ?_ ?_<;>clear hR<;>intro hR m
  ·have r:=bq_ m
   refine A0 1 rfl (pp1 1 3 rfl (A1 (nx (A2 (sR_ rfl (pp1 2 73 rfl (ie (G1 rfl (sR_ rfl (pp1 1 2 rfl ?_))))))))))
   subst hR
   refine ie (A6 ?_)
   exact E2 hr hD
  have r:=bq_ m
  refine A3 (nx (A2 (sR_ rfl (pp1 2 73 rfl (ie (P1 rfl (A3 (nx (sR_ rfl (pp1 1 2 rfl ?_))))))))))
  subst hR
  refine ie (A6 ?_)
  exact E2 hr hD
def C5:Unit :=
 ()
set_option maxHeartbeats 1000000 in
theorem A7a {R:Unit} (hR:C5=R):Con Tryz.prog 21 [] [] [] (Nat) (fun x=>.map (some x)) (fun x=>[(x,.map #[⟨iv 1,.func (.func 42) #[] #[],0⟩,⟨iv 34,.func (.func 43) #[] #[],1⟩,⟨iv 3,.func (.func 44) #[] #[],2⟩,⟨iv 4,.func (.func 45) #[] #[],3⟩,⟨iv 24,.func (.func 45) #[] #[],4⟩,⟨iv 25,.func (.func 46) #[] #[],5⟩,⟨iv 6,.func (.func 47) #[] #[],6⟩,⟨iv 5,.func (.func 48) #[] #[],7⟩,⟨iv 8,.func (.func 49) #[] #[],8⟩,⟨iv 9,.func (.func 50) #[] #[],9⟩,⟨iv 11,.func (.func 51) #[] #[],10⟩,⟨iv 19,.func (.func 52) #[] #[],11⟩,⟨iv 23,.func (.func 53) #[] #[],12⟩,⟨iv 22,.func (.func 54) #[] #[],13⟩,⟨iv 20,.func (.func 55) #[] #[],14⟩,⟨iv 21,.func (.func 56) #[] #[],15⟩,⟨iv 38,.func (.func 57) #[] #[],16⟩,⟨iv 26,.func (.func 58) #[] #[],17⟩,⟨iv 27,.func (.func 59) #[] #[],18⟩,⟨iv 30,.func (.func 60) #[] #[],19⟩,⟨iv 28,.func (.func 61) #[] #[],20⟩,⟨iv 29,.func (.func 62) #[] #[],21⟩,⟨iv 31,.func (.func 63) #[] #[],22⟩,⟨iv 32,.func (.func 64) #[] #[],23⟩,⟨iv 33,.func (.func 65) #[] #[],24⟩,⟨iv 16,.func (.func 66) #[] #[],25⟩,⟨iv 15,.func (.func 67) #[] #[],26⟩,⟨iv 10,.func (.func 68) #[] #[],27⟩,⟨iv 35,.func (.func 69) #[] #[],28⟩,⟨iv 17,.func (.func 70) #[] #[],29⟩,⟨iv 7,.func (.func 71) #[] #[],30⟩,⟨iv 18,.func (.func 72) #[] #[],31⟩,⟨iv 39,.func (.func 73) #[] #[],32⟩,⟨iv 40,.func (.func 74) #[] #[],33⟩,⟨iv 44,.func (.func 75) #[] #[],34⟩,⟨iv 14,.func (.func 76) #[] #[],35⟩,⟨iv 36,.func (.func 77) #[] #[],36⟩,⟨iv 37,.func (.func 78) #[] #[],37⟩,⟨iv 12,.func (.func 79) #[] #[],38⟩,⟨iv 13,.func (.func 80) #[] #[],39⟩] 40)]) (fun x=>[]):=by
 refine zce Tryz.func21 fun X hX hr hD=>?_
 replace hR:=(C5.eq_1 ..).symm.trans hR
 refine sR_ rfl (pp0 1 rfl (ie (sR_ rfl (it rfl (A3h rfl) fun a=>?_))))
 refine B6n (m:=2) (mo:=1) (es':=[⟨iv 1,.func (.func 42) #[] #[],0⟩,⟨iv 34,.func (.func 43) #[] #[],1⟩,⟨iv 3,.func (.func 44) #[] #[],2⟩,⟨iv 4,.func (.func 45) #[] #[],3⟩,⟨iv 24,.func (.func 45) #[] #[],4⟩,⟨iv 25,.func (.func 46) #[] #[],5⟩,⟨iv 6,.func (.func 47) #[] #[],6⟩,⟨iv 5,.func (.func 48) #[] #[],7⟩,⟨iv 8,.func (.func 49) #[] #[],8⟩,⟨iv 9,.func (.func 50) #[] #[],9⟩,⟨iv 11,.func (.func 51) #[] #[],10⟩,⟨iv 19,.func (.func 52) #[] #[],11⟩,⟨iv 23,.func (.func 53) #[] #[],12⟩,⟨iv 22,.func (.func 54) #[] #[],13⟩,⟨iv 20,.func (.func 55) #[] #[],14⟩,⟨iv 21,.func (.func 56) #[] #[],15⟩,⟨iv 38,.func (.func 57) #[] #[],16⟩,⟨iv 26,.func (.func 58) #[] #[],17⟩,⟨iv 27,.func (.func 59) #[] #[],18⟩,⟨iv 30,.func (.func 60) #[] #[],19⟩,⟨iv 28,.func (.func 61) #[] #[],20⟩,⟨iv 29,.func (.func 62) #[] #[],21⟩,⟨iv 31,.func (.func 63) #[] #[],22⟩,⟨iv 32,.func (.func 64) #[] #[],23⟩,⟨iv 33,.func (.func 65) #[] #[],24⟩,⟨iv 16,.func (.func 66) #[] #[],25⟩,⟨iv 15,.func (.func 67) #[] #[],26⟩,⟨iv 10,.func (.func 68) #[] #[],27⟩,⟨iv 35,.func (.func 69) #[] #[],28⟩,⟨iv 17,.func (.func 70) #[] #[],29⟩,⟨iv 7,.func (.func 71) #[] #[],30⟩,⟨iv 18,.func (.func 72) #[] #[],31⟩,⟨iv 39,.func (.func 73) #[] #[],32⟩,⟨iv 40,.func (.func 74) #[] #[],33⟩,⟨iv 44,.func (.func 75) #[] #[],34⟩,⟨iv 14,.func (.func 76) #[] #[],35⟩,⟨iv 36,.func (.func 77) #[] #[],36⟩,⟨iv 37,.func (.func 78) #[] #[],37⟩,⟨iv 12,.func (.func 79) #[] #[],38⟩,⟨iv 13,.func (.func 80) #[] #[],39⟩]) C1x rfl 0 40 1 0 [] _ rfl oki ?_
 refine A2y (L':=[(a,.map #[⟨iv 1,.func (.func 42) #[] #[],0⟩,⟨iv 34,.func (.func 43) #[] #[],1⟩,⟨iv 3,.func (.func 44) #[] #[],2⟩,⟨iv 4,.func (.func 45) #[] #[],3⟩,⟨iv 24,.func (.func 45) #[] #[],4⟩,⟨iv 25,.func (.func 46) #[] #[],5⟩,⟨iv 6,.func (.func 47) #[] #[],6⟩,⟨iv 5,.func (.func 48) #[] #[],7⟩,⟨iv 8,.func (.func 49) #[] #[],8⟩,⟨iv 9,.func (.func 50) #[] #[],9⟩,⟨iv 11,.func (.func 51) #[] #[],10⟩,⟨iv 19,.func (.func 52) #[] #[],11⟩,⟨iv 23,.func (.func 53) #[] #[],12⟩,⟨iv 22,.func (.func 54) #[] #[],13⟩,⟨iv 20,.func (.func 55) #[] #[],14⟩,⟨iv 21,.func (.func 56) #[] #[],15⟩,⟨iv 38,.func (.func 57) #[] #[],16⟩,⟨iv 26,.func (.func 58) #[] #[],17⟩,⟨iv 27,.func (.func 59) #[] #[],18⟩,⟨iv 30,.func (.func 60) #[] #[],19⟩,⟨iv 28,.func (.func 61) #[] #[],20⟩,⟨iv 29,.func (.func 62) #[] #[],21⟩,⟨iv 31,.func (.func 63) #[] #[],22⟩,⟨iv 32,.func (.func 64) #[] #[],23⟩,⟨iv 33,.func (.func 65) #[] #[],24⟩,⟨iv 16,.func (.func 66) #[] #[],25⟩,⟨iv 15,.func (.func 67) #[] #[],26⟩,⟨iv 10,.func (.func 68) #[] #[],27⟩,⟨iv 35,.func (.func 69) #[] #[],28⟩,⟨iv 17,.func (.func 70) #[] #[],29⟩,⟨iv 7,.func (.func 71) #[] #[],30⟩,⟨iv 18,.func (.func 72) #[] #[],31⟩,⟨iv 39,.func (.func 73) #[] #[],32⟩,⟨iv 40,.func (.func 74) #[] #[],33⟩,⟨iv 44,.func (.func 75) #[] #[],34⟩,⟨iv 14,.func (.func 76) #[] #[],35⟩,⟨iv 36,.func (.func 77) #[] #[],36⟩,⟨iv 37,.func (.func 78) #[] #[],37⟩,⟨iv 12,.func (.func 79) #[] #[],38⟩,⟨iv 13,.func (.func 80) #[] #[],39⟩] 40)]) rfl ?_
 refine pp1 2 0 rfl ?_
 subst hR
 refine ie (A6 ?_)
 exact zer hr hD (U4 rfl (A4 rfl)) a sb_ fn0
def A8p:Bool :=
 false
theorem B3i {R:Bool} (hR:A8p=R):J6 Tryz.prog 22 [iv 37] [] (bv R):=by
 refine zce Tryz.func22 fun X hX hr hD=>?_
 replace hR:=(A8p.eq_1 ..).symm.trans hR
 refine sR_ rfl (pp0 1 rfl (ie (sR_ rfl (pp1 7 2 rfl ?_))))
 subst hR
 refine ie (A6 ?_)
 exact E2 hr hD
def X1 (c:Int) (d:Int) (a:Col) (b:List UInt8):Bool :=
 (((!decide (c=6))&&(!decide (c=47)))&&(!decide (c=1047)))
theorem B1i {c e:Int} {a:Col} {b:List UInt8} {R:Bool} (hR:X1 c e a b=R):J6 Tryz.prog 23 [ag (B8 (⟨37,c,e,a,b⟩:Act))] [] (bv R):=by
 refine zce Tryz.func23 fun X hX hr hD=>?_
 replace hR:=(X1.eq_1 ..).symm.trans hR
 refine sR_ rfl (J3 2 0 [] (fun d=>[(1,pt d 0)]) (fun d=>[bx d (B8 (⟨37,c,e,a,b⟩:Act)) 68]) (fun d=>(ie (A2 (sR_ rfl (pl1 2 [0] 5 rfl (ie (A8 (sR_ rfl (pp1 2 6 rfl (ie (P1 rfl (sR_ rfl (pp1 2 11 rfl (ie (G1 rfl (sR_ rfl (pl1 4 [0] 16 rfl ?_))))))))))))))))))
 refine zia 4 6 16 20 (!decide (c=47)) (fun f=>?_) ?_
 ·have i:=bq_ f
  refine pl1 4 [0] 20 rfl ?_
  exact A1 (J0 2 16 20 f fn0 sb_ rfl rfl rfl rfl rfl)
 refine pp1 1 21 rfl ?_
 refine zia 4 1 21 25 (!decide (c=1047)) (fun g=>?_) ?_
 ·have h:=bq_ g
  refine pl1 4 [0] 25 rfl ?_
  exact A1 (J0 2 21 25 g fn0 sb_ rfl rfl rfl rfl rfl)
 refine pp1 1 2 rfl ?_
 subst hR
 refine ie (A6 ?_)
 exact E2 hr hD
def H7 (s:ScrC) (sMain:List (Rwc Cel)) (sAlt:List (Rwc Cel)) (sTabs:List Bool) (a:Bool):ScrC :=
 (bif a then {s with kept:=(⟨true,s.cursor,s.style,s.sets,s.modes.origin⟩:Sav)} else {s with cursor:=s.kept.cursor,style:=s.kept.style,sets:=s.kept.sets,modes:={s.modes with origin:=s.kept.origin}})
theorem A9z {s:ScrC} {sMain sAlt:List (Rwc Cel)} {sTabs:List Bool} {c:Bool} {sb:Nat} {sMainq:Option Addr} {sMainrs:List Rwq} {sMaink:Nat} {sAltq:Option Addr} {sAltrs:List Rwq} {sAltk:Nat} {sTabsq:Option Addr} {sTabsk:Nat} {R:ScrC} (hR:H7 s sMain sAlt sTabs c=R) (a:B4 sMainrs sMain:=by exact om_) (g:sMain.length≤9223372036854775807:=by exact om_) (f:sMain.length≤sMaink:=by exact om_) (b:B4 sAltrs sAlt:=by exact om_) (i:sAlt.length≤9223372036854775807:=by exact om_) (h:sAlt.length≤sAltk:=by exact om_) (e:sTabs.length≤9223372036854775807:=by exact om_) (d:sTabs.length≤sTabsk:=by exact om_):Con Tryz.prog 139 [pt sb 0,pt sb 39,bv c] [bx sb (B3 s ⟨sMainq,sMain.length,sMaink⟩ ⟨sAltq,sAlt.length,sAltk⟩ ⟨none,0,0⟩ ⟨sTabsq,sTabs.length,sTabsk⟩) 77] [sl B5 sMainq sMainrs,B7 B1 sMainrs sMain,sl B5 sAltq sAltrs,B7 B1 sAltrs sAlt,sl H4 sTabsq sTabs] (Unit) (fun x=>.tuple #[]) (fun x=>[bx sb (B3 R ⟨sMainq,sMain.length,sMaink⟩ ⟨sAltq,sAlt.length,sAltk⟩ ⟨none,0,0⟩ ⟨sTabsq,sTabs.length,sTabsk⟩) 77]) (fun x=>[]):=by
 refine zce Tryz.func139 fun X hX hr hD=>?_
 replace hR:=(H7.eq_1 ..).symm.trans hR
 have:=a.1
 have:=b.1
 refine A2 (sR_ rfl (pp1 1 6 rfl ?_))
 refine ie ?_
 refine zjb rfl hR ?_ ?_<;>clear hR<;>intro hR j
 ·refine sh 25 [(24,[bx sb (B3 s ⟨sMainq,sMain.length,sMaink⟩ ⟨sAltq,sAlt.length,sAltk⟩ ⟨none,0,0⟩ ⟨sTabsq,sTabs.length,sTabsk⟩) 77])] [sl B5 sMainq sMainrs,B7 B1 sMainrs sMain,sl B5 sAltq sAltrs,B7 B1 sAltrs sAlt,sl H4 sTabsq sTabs] [bx sb (B3 s ⟨sMainq,sMain.length,sMaink⟩ ⟨sAltq,sAlt.length,sAltk⟩ ⟨none,0,0⟩ ⟨sTabsq,sTabs.length,sTabsk⟩) 77] (zml 25 0) oki rfl oki oki oki sb_ A5.refl ?_
  refine zhp [0,1,2,3,4,6,7,8,9,11,12,13,14,16,17,18,19,20] 7 (zml 25 2063327) [(7,pt sb 39),(11,pt sb 6),(16,pt sb 9),(21,pt sb 17),(27,pt sb 27)] ?_
  refine zhl 5 [bx sb (B3 s ⟨sMainq,sMain.length,sMaink⟩ ⟨sAltq,sAlt.length,sAltk⟩ ⟨none,0,0⟩ ⟨sTabsq,sTabs.length,sTabsk⟩) 77] (zml 25 2063359) rfl (E5 (us:=Y1 s.cursor) C4b rfl rfl 0 rfl rfl rfl) ?_
  refine zhl 10 [bx sb (B3 s ⟨sMainq,sMain.length,sMaink⟩ ⟨sAltq,sAlt.length,sAltk⟩ ⟨none,0,0⟩ ⟨sTabsq,sTabs.length,sTabsk⟩) 77] (zml 25 2064383) rfl (E5 (us:=C7 s.style) C6j rfl rfl 0 rfl rfl rfl) ?_
  refine zhl 15 [bx sb (B3 s ⟨sMainq,sMain.length,sMaink⟩ ⟨sAltq,sAlt.length,sAltk⟩ ⟨none,0,0⟩ ⟨sTabsq,sTabs.length,sTabsk⟩) 77] (zml 25 2097151) rfl (E5 (us:=A8k s.sets) D0t rfl rfl 0 rfl rfl rfl) ?_
  refine zhl 21 [bx sb (B3 s ⟨sMainq,sMain.length,sMaink⟩ ⟨sAltq,sAlt.length,sAltk⟩ ⟨none,0,0⟩ ⟨sTabsq,sTabs.length,sTabsk⟩) 77] (zml 25 4194303) rfl (A7 (v:=bv s.modes.origin) ty4 rfl rfl 0 rfl rfl) ?_
  refine zhk 22 (zml 25 8388607) rfl (N8 (cs:=A5i (⟨true,s.cursor,s.style,s.sets,s.modes.origin⟩:Sav)) rfl rfl oki) ?_
  refine zhp [23] 1 (zml 25 16777215) [(30,pt sb 39)] ?_
  refine zho 24 [] (zml 25 33554431) rfl (D0 (us:=A5i (⟨true,s.cursor,s.style,s.sets,s.modes.origin⟩:Sav)) (cs':=B3 ({s with kept:=(⟨true,s.cursor,s.style,s.sets,s.modes.origin⟩:Sav)}) ⟨sMainq,sMain.length,sMaink⟩ ⟨sAltq,sAlt.length,sAltk⟩ ⟨none,0,0⟩ ⟨sTabsq,sTabs.length,sTabsk⟩) D3s rfl rfl rfl 0 rfl rfl rfl rfl rfl rfl) (fun _=>sb_) (fun _=>A5.refl) fun _=>?_
  refine P4 oki ?_
  subst hR
  refine A6 ?_
  exact zer hr hD (A3f rfl) () sb_ fn0
 refine A3 (nx (sh' 37 [(23,[bx sb (B3 s ⟨sMainq,sMain.length,sMaink⟩ ⟨sAltq,sAlt.length,sAltk⟩ ⟨none,0,0⟩ ⟨sTabsq,sTabs.length,sTabsk⟩) 77])] [sl B5 sMainq sMainrs,B7 B1 sMainrs sMain,sl B5 sAltq sAltrs,B7 B1 sAltrs sAlt,sl H4 sTabsq sTabs] [bx sb (B3 s ⟨sMainq,sMain.length,sMaink⟩ ⟨sAltq,sAlt.length,sAltk⟩ ⟨none,0,0⟩ ⟨sTabsq,sTabs.length,sTabsk⟩) 77] (zml 37 0) oki rfl oki oki oki sb_ A5.refl ?_))
 refine zhp [0,1,2,3,4,5,6,8,9,10,12,13,14,16,17,18] 21 (zml 37 489343) [(31,pt sb 0),(32,pt sb 0),(33,pt sb 0),(34,pt sb 0),(37,pt sb 40),(41,pt sb 43),(45,pt sb 51),(49,pt sb 57)] ?_
 refine zhl 7 [bx sb (B3 s ⟨sMainq,sMain.length,sMaink⟩ ⟨sAltq,sAlt.length,sAltk⟩ ⟨none,0,0⟩ ⟨sTabsq,sTabs.length,sTabsk⟩) 77] (zml 37 489471) rfl (E5 (us:=Y1 s.kept.cursor) C4b rfl rfl 0 rfl rfl rfl) ?_
 refine zhl 11 [bx sb (B3 s ⟨sMainq,sMain.length,sMaink⟩ ⟨sAltq,sAlt.length,sAltk⟩ ⟨none,0,0⟩ ⟨sTabsq,sTabs.length,sTabsk⟩) 77] (zml 37 491519) rfl (E5 (us:=C7 s.kept.style) C6j rfl rfl 0 rfl rfl rfl) ?_
 refine zhl 15 [bx sb (B3 s ⟨sMainq,sMain.length,sMaink⟩ ⟨sAltq,sAlt.length,sAltk⟩ ⟨none,0,0⟩ ⟨sTabsq,sTabs.length,sTabsk⟩) 77] (zml 37 524287) rfl (E5 (us:=A8k s.kept.sets) D0t rfl rfl 0 rfl rfl rfl) ?_
 refine zhl 19 [bx sb (B3 s ⟨sMainq,sMain.length,sMaink⟩ ⟨sAltq,sAlt.length,sAltk⟩ ⟨none,0,0⟩ ⟨sTabsq,sTabs.length,sTabsk⟩) 77] (zml 37 1048575) rfl (A7 (v:=bv s.kept.origin) ty4 rfl rfl 0 rfl rfl) ?_
 refine zhp [20,21,22] 14 (zml 37 8388607) [(53,pt sb 6)] ?_
 refine zho 23 [] (zml 37 16777215) rfl (D0 (us:=Y1 s.kept.cursor) (cs':=B3 ({s with cursor:=s.kept.cursor}) ⟨sMainq,sMain.length,sMaink⟩ ⟨sAltq,sAlt.length,sAltk⟩ ⟨none,0,0⟩ ⟨sTabsq,sTabs.length,sTabsk⟩) C4b rfl rfl rfl 0 rfl rfl rfl rfl rfl rfl) (fun _=>sb_) (fun _=>A5.refl) fun _=>?_
 refine zhp [24,25,26] 10 (zml 37 134217727) [(56,pt sb 9)] ?_
 refine zho 27 [] (zml 37 268435455) rfl (D0 (us:=C7 s.kept.style) (cs':=B3 ({s with cursor:=s.kept.cursor,style:=s.kept.style}) ⟨sMainq,sMain.length,sMaink⟩ ⟨sAltq,sAlt.length,sAltk⟩ ⟨none,0,0⟩ ⟨sTabsq,sTabs.length,sTabsk⟩) C6j rfl rfl rfl 0 rfl rfl rfl rfl rfl rfl) (fun _=>sb_) (fun _=>A5.refl) fun _=>?_
 refine zhp [28,29,30] 6 (zml 37 2147483647) [(59,pt sb 17)] ?_
 refine zho 31 [] (zml 37 4294967295) rfl (D0 (us:=A8k s.kept.sets) (cs':=B3 ({s with cursor:=s.kept.cursor,style:=s.kept.style,sets:=s.kept.sets}) ⟨sMainq,sMain.length,sMaink⟩ ⟨sAltq,sAlt.length,sAltk⟩ ⟨none,0,0⟩ ⟨sTabsq,sTabs.length,sTabsk⟩) D0t rfl rfl rfl 0 rfl rfl rfl rfl rfl rfl) (fun _=>sb_) (fun _=>A5.refl) fun _=>?_
 refine zhp [32,33,34,35] 1 (zml 37 68719476735) [(63,pt sb 27)] ?_
 refine zho 36 [] (zml 37 137438953471) rfl (D0 (us:=[bv s.kept.origin]) (cs':=B3 ({s with cursor:=s.kept.cursor,style:=s.kept.style,sets:=s.kept.sets,modes:={s.modes with origin:=s.kept.origin}}) ⟨sMainq,sMain.length,sMaink⟩ ⟨sAltq,sAlt.length,sAltk⟩ ⟨none,0,0⟩ ⟨sTabsq,sTabs.length,sTabsk⟩) ty4 rfl rfl rfl 0 rfl rfl rfl rfl rfl rfl) (fun _=>sb_) (fun _=>A5.refl) fun _=>?_
 refine A0s oki ?_
 subst hR
 exact zen hr hD (A3f rfl) () sb_ fn0
def U0 (s:ScrC) (sMain:List (Rwc Cel)) (sAlt:List (Rwc Cel)) (sTabs:List Bool):List (Rwc Cel) :=
 (E8 (A1y s.cols s.rows Sty.zero) fun (a:List (Rwc Cel)×Int)=>a.1)
theorem A6p {s:ScrC} {sMain sAlt:List (Rwc Cel)} {sTabs:List Bool} {sb:Nat} {sMainq:Option Addr} {sMainrs:List Rwq} {sMaink:Nat} {sAltq:Option Addr} {sAltrs:List Rwq} {sAltk:Nat} {sTabsq:Option Addr} {sTabsk:Nat} {R:List (Rwc Cel)} (hR:U0 s sMain sAlt sTabs=R) (a:B4 sMainrs sMain:=by exact om_) (j:sMain.length≤9223372036854775807:=by exact om_) (i:sMain.length≤sMaink:=by exact om_) (b:B4 sAltrs sAlt:=by exact om_) (n:sAlt.length≤9223372036854775807:=by exact om_) (m:sAlt.length≤sAltk:=by exact om_) (l:sTabs.length≤9223372036854775807:=by exact om_) (g:sTabs.length≤sTabsk:=by exact om_):Con Tryz.prog 138 [pt sb 0] [bx sb (B3 s ⟨sMainq,sMain.length,sMaink⟩ ⟨sAltq,sAlt.length,sAltk⟩ ⟨none,0,0⟩ ⟨sTabsq,sTabs.length,sTabsk⟩) 77] [sl B5 sMainq sMainrs,B7 B1 sMainrs sMain,sl B5 sAltq sAltrs,B7 B1 sAltrs sAlt,sl H4 sTabsq sTabs] ({t:VR×List Rwq // VOk 2 R.length t.1∧B4 t.2 R}) (fun x=>.tuple #[]) (fun x=>(bx sb (B3 s ⟨sMainq,sMain.length,sMaink⟩ ⟨va x.1.1.q,R.length,x.1.1.k⟩ ⟨none,0,0⟩ ⟨sTabsq,sTabs.length,sTabsk⟩) 77::((vo B5 72 x.1.1 x.1.2)++([])))) (fun x=>[B7 B1 x.1.2 R]):=by
 refine zce Tryz.func138 fun X hX hr hD=>?_
 replace hR:=(U0.eq_1 ..).symm.trans hR
 have:=a.1
 have:=b.1
 refine sh' 20 [(19,[bx sb (B3 s ⟨sMainq,sMain.length,sMaink⟩ ⟨sAltq,sAlt.length,sAltk⟩ ⟨none,0,0⟩ ⟨sTabsq,sTabs.length,sTabsk⟩) 77])] [sl B5 sMainq sMainrs,B7 B1 sMainrs sMain,sl B5 sAltq sAltrs,B7 B1 sAltrs sAlt,sl H4 sTabsq sTabs] [bx sb (B3 s ⟨sMainq,sMain.length,sMaink⟩ ⟨sAltq,sAlt.length,sAltk⟩ ⟨none,0,0⟩ ⟨sTabsq,sTabs.length,sTabsk⟩) 77] (zml 20 0) oki rfl oki oki oki sb_ A5.refl ?_
 refine zhp [0,1,2,3,4,6,7,8,9] 11 (zml 20 991) [(3,pt sb 0),(7,pt sb 0),(12,pt sb 1)] ?_
 refine zhl 5 [bx sb (B3 s ⟨sMainq,sMain.length,sMaink⟩ ⟨sAltq,sAlt.length,sAltk⟩ ⟨none,0,0⟩ ⟨sTabsq,sTabs.length,sTabsk⟩) 77] (zml 20 1023) rfl (A7 (v:=iv s.cols) ty3 rfl rfl 0 rfl rfl) ?_
 refine zhl 10 [bx sb (B3 s ⟨sMainq,sMain.length,sMaink⟩ ⟨sAltq,sAlt.length,sAltk⟩ ⟨none,0,0⟩ ⟨sTabsq,sTabs.length,sTabsk⟩) 77] (zml 20 2047) rfl (A7 (v:=iv s.rows) ty3 rfl rfl 0 rfl rfl) ?_
 refine zhk 11 (zml 20 4095) rfl (N8 (cs:=C7 Sty.zero) rfl rfl oki) ?_
 have r:=E9 hR;clear hR;obtain ⟨p,o,hR⟩:=r
 refine zho 12 [bx sb (B3 s ⟨sMainq,sMain.length,sMaink⟩ ⟨sAltq,sAlt.length,sAltk⟩ ⟨none,0,0⟩ ⟨sTabsq,sTabs.length,sTabsk⟩) 77] (zml 20 8191) rfl (I4 (L2:=[bx sb (B3 s ⟨sMainq,sMain.length,sMaink⟩ ⟨sAltq,sAlt.length,sAltk⟩ ⟨none,0,0⟩ ⟨sTabsq,sTabs.length,sTabsk⟩) 77]) (B0v o) rfl rfl rfl rfl rfl fn0 (List.Perm.refl _) (fun ⟨⟨d,c⟩,e⟩=>(bx sb (B3 s ⟨sMainq,sMain.length,sMaink⟩ ⟨sAltq,sAlt.length,sAltk⟩ ⟨none,0,0⟩ ⟨sTabsq,sTabs.length,sTabsk⟩) 77::((vo B5 72 d c)++([])))) (fun ⟨⟨d,c⟩,e⟩=>J5 [vo B5 72 d c,[bx sb (B3 s ⟨sMainq,sMain.length,sMaink⟩ ⟨sAltq,sAlt.length,sAltk⟩ ⟨none,0,0⟩ ⟨sTabsq,sTabs.length,sTabsk⟩) 77]] [1,0] 2 rfl ozw opv [[bx sb (B3 s ⟨sMainq,sMain.length,sMaink⟩ ⟨sAltq,sAlt.length,sAltk⟩ ⟨none,0,0⟩ ⟨sTabsq,sTabs.length,sTabsk⟩) 77],vo B5 72 d c] rfl opv)) (fun ⟨⟨d,c⟩,e⟩=>sb_) (fun ⟨⟨d,c⟩,e⟩=>fo_) fun ⟨⟨d,c⟩,e⟩=>?_
 try dsimp only at e
 obtain ⟨f,h⟩:=e
 have:=VOk.le f
 have:=VOk.cap f
 have:=h.1
 refine zhp [13,14,15,16,17,18] 1 (zml 20 524287) [(16,.slice (va d.q) p.1.length d.k),(20,pt sb 3)] ?_
 refine zho 19 [] (zml 20 1048575) rfl (D0 (us:=[.slice (va d.q) p.1.length d.k]) (cs':=B3 s ⟨sMainq,sMain.length,sMaink⟩ ⟨va d.q,p.1.length,d.k⟩ ⟨none,0,0⟩ ⟨sTabsq,sTabs.length,sTabsk⟩) B1c rfl rfl rfl 0 rfl rfl rfl rfl rfl rfl) (fun _=>(List.nil_sublist _)) (fun _=>fo_) fun _=>?_
 refine A0s oki ?_
 subst hR
 exact zen hr hD (A3f rfl) ⟨(d,c),⟨f,h⟩⟩ sb_ fo_
def R6 (s:ScrC) (sMain:List (Rwc Cel)) (sAlt:List (Rwc Cel)) (sTabs:List Bool):ScrC×List (Rwc Cel) :=
 (bif (true == s.onAlt) then (s,sAlt) else (E8 (U0 ({(H7 ({s with onAlt:=true}) sMain sAlt sTabs true) with cursor:={(H7 ({s with onAlt:=true}) sMain sAlt sTabs true).cursor with wrap:=false}}) sMain sAlt sTabs) fun (a:List (Rwc Cel))=>({(H7 ({s with onAlt:=true}) sMain sAlt sTabs true) with cursor:={(H7 ({s with onAlt:=true}) sMain sAlt sTabs true).cursor with wrap:=false}},a)))
theorem oml {p:Prop} (h:p:=by first|omega|(simp only [List.length_take,List.length_drop,List.length_append,List.length_cons,List.length_nil,List.length_set,List.length_map,C8,C4,C5];omega)|decide):p:=h
theorem B1f {s:ScrC} {sMain sAlt:List (Rwc Cel)} {sTabs:List Bool} {sb:Nat} {sMainq:Option Addr} {sMainrs:List Rwq} {sMaink:Nat} {sAltq:Option Addr} {sAltrs:List Rwq} {sAltk:Nat} {sTabsq:Option Addr} {sTabsk:Nat} {R:ScrC×List (Rwc Cel)} (hR:R6 s sMain sAlt sTabs=R) (b:B4 sMainrs sMain:=by exact om_) (l:sMain.length≤9223372036854775807:=by exact om_) (i:sMain.length≤sMaink:=by exact om_) (a:B4 sAltrs sAlt:=by exact om_) (p:sAlt.length≤9223372036854775807:=by exact om_) (o:sAlt.length≤sAltk:=by exact om_) (n:sTabs.length≤9223372036854775807:=by exact om_) (h:sTabs.length≤sTabsk:=by exact om_):Con Tryz.prog 78 [pt sb 0,ag (B8 (⟨37,1049,1,Col.zero,[]⟩:Act))] [bx sb (B3 s ⟨sMainq,sMain.length,sMaink⟩ ⟨sAltq,sAlt.length,sAltk⟩ ⟨none,0,0⟩ ⟨sTabsq,sTabs.length,sTabsk⟩) 77] [sl B5 sMainq sMainrs,B7 B1 sMainrs sMain,sl B5 sAltq sAltrs,B7 B1 sAltrs sAlt,sl H4 sTabsq sTabs] ({t:Option Addr×List Rwq×Nat // B4 t.2.1 R.2∧R.2.length≤t.2.2∧R.2.length≤9223372036854775807}) (fun x=>.tuple #[]) (fun x=>[bx sb (B3 R.1 ⟨sMainq,sMain.length,sMaink⟩ ⟨x.1.1,R.2.length,x.1.2.2⟩ ⟨none,0,0⟩ ⟨sTabsq,sTabs.length,sTabsk⟩) 77]) (fun x=>[sl B5 x.1.1 x.1.2.1,B7 B1 x.1.2.1 R.2]):=by
 refine zce Tryz.func78 fun X hX hr hD=>?_
 replace hR:=(R6.eq_1 ..).symm.trans hR
 have:=b.1
 have:=a.1
 refine sR_ rfl (J3 1 0 [] (fun f=>[(3,pt f 0)]) (fun f=>[bx f (B8 (⟨37,1049,1,Col.zero,[]⟩:Act)) 68,bx sb (B3 s ⟨sMainq,sMain.length,sMaink⟩ ⟨sAltq,sAlt.length,sAltk⟩ ⟨none,0,0⟩ ⟨sTabsq,sTabs.length,sTabsk⟩) 77]) (fun f=>(ie (sR_ rfl (pl1 4 [0] 4 rfl (ie (sR_ rfl (pl1 2 [0] 9 rfl (ie (A8 (sR_ rfl (pp1 2 40 rfl (ie (P1 rfl (sR_ rfl (pp1 2 58 rfl (ie (P1 rfl (sR_ rfl (pp1 2 65 rfl (ie (P1 rfl (sR_ rfl (pp1 2 74 rfl ?_))))))))))))))))))))))))
 refine ie (G1 rfl (A2 (sR_ rfl (pl2 6 [1] 76 81 rfl (ix rfl (C5l Tryz.underlying4 rfl rfl rfl) (ie ?_))))))
 refine zjb rfl hR ?_ ?_<;>clear hR<;>intro hR y
 ·subst hR
  refine A6 ?_
  exact zer hr hD (A3f rfl) ⟨(sAltq,sAltrs,sAltk),⟨a,oml,oml⟩⟩ sb_ fo_
 refine A3 (nx (sR_ rfl (zrg 6 0 [1] [] [bx f (B8 (⟨37,1049,1,Col.zero,[]⟩:Act)) 68,bx sb (B3 ({s with onAlt:=true}) ⟨sMainq,sMain.length,sMaink⟩ ⟨sAltq,sAlt.length,sAltk⟩ ⟨none,0,0⟩ ⟨sTabsq,sTabs.length,sTabsk⟩) 77] (ie (sR_ rfl (pp3 6 88 92 93 rfl ?_))))))
 refine zc rfl (A9z rfl b om_ om_ a) fun _=>?_
 refine ie (sR_ rfl (pp1 1 95 rfl (ie (G1 rfl (sR_ rfl (zrg 6 0 [0] [] [bx sb (B3 ({(H7 ({s with onAlt:=true}) sMain sAlt sTabs true) with cursor:={(H7 ({s with onAlt:=true}) sMain sAlt sTabs true).cursor with wrap:=false}}) ⟨sMainq,sMain.length,sMaink⟩ ⟨sAltq,sAlt.length,sAltk⟩ ⟨none,0,0⟩ ⟨sTabsq,sTabs.length,sTabsk⟩) 77,bx f (B8 (⟨37,1049,1,Col.zero,[]⟩:Act)) 68] (ie (A0 2 rfl (pp1 1 101 rfl ?_)))))))))
 have v:=E9 hR;clear hR;obtain ⟨w,u,hR⟩:=v
 refine zc rfl (A6p u b om_ om_ a) fun ⟨⟨m,g⟩,j⟩=>?_
 try dsimp only at j
 obtain ⟨d,e⟩:=j
 have:=VOk.le d
 have:=VOk.cap d
 have:=e.1
 refine A1 ?_
 have:=VOk.le d
 have:=VOk.cap d
 have:=e.1
 refine B9f [bx sb (B3 ({(H7 ({s with onAlt:=true}) sMain sAlt sTabs true) with cursor:={(H7 ({s with onAlt:=true}) sMain sAlt sTabs true).cursor with wrap:=false}}) ⟨sMainq,sMain.length,sMaink⟩ ⟨va m.q,w.length,m.k⟩ ⟨none,0,0⟩ ⟨sTabsq,sTabs.length,sTabsk⟩) 77,bx f (B8 (⟨37,1049,1,Col.zero,[]⟩:Act)) 68] [] (T:=72) (c:=B5) (r:=m) (xs:=g) (VOk.cast d (by rw [e.1])) opv ?_
 subst hR
 exact zen hr hD (A3f rfl) ⟨(va m.q,g,m.k),⟨e,oml,oml⟩⟩ sb_ fo_
def Y5 (sMain:List (Rwc Cel)) (sAlt:List (Rwc Cel)) (sTabs:List Bool) (x:ScrC):ScrC×List (Rwc Cel)×List (Rwc Cel)×List Bool×Int :=
 (E8 (R6 x sMain sAlt sTabs) fun (a:ScrC×List (Rwc Cel))=>(a.1,sMain,a.2,sTabs,0))
def A1l (s:ScrC) (sMain:List (Rwc Cel)) (sAlt:List (Rwc Cel)) (sTabs:List Bool):ScrC×List (Rwc Cel)×List (Rwc Cel)×List Bool×Int :=
 (bif (!decide ((M3 s sMain sAlt sTabs)=0)) then (ScrC.zero,([]:List (Rwc Cel)),([]:List (Rwc Cel)),([]:List Bool),(M3 s sMain sAlt sTabs)) else (bif (!decide ((V8 1049 1 Col.zero [])=0)) then (ScrC.zero,([]:List (Rwc Cel)),([]:List (Rwc Cel)),([]:List Bool),(V8 1049 1 Col.zero [])) else (bif (!(X1 1049 1 Col.zero [])) then Y5 sMain sAlt sTabs ({s with last:=0,cursor:={s.cursor with wrap:=false}}) else Y5 sMain sAlt sTabs ({s with last:=0}))))
theorem orj {p:Prop} (h:p:=by first|omega|exact Nat.zero_lt_one):p:=h
theorem C0p {s:ScrC} {sMain sAlt:List (Rwc Cel)} {sTabs:List Bool} {sMainq:Option Addr} {sMainrs:List Rwq} {sMaink:Nat} {sAltq:Option Addr} {sAltrs:List Rwq} {sAltk:Nat} {sTabsq:Option Addr} {sTabsk:Nat} {lq:Option Addr} {R:ScrC×List (Rwc Cel)×List (Rwc Cel)×List Bool×Int} (hR:A1l s sMain sAlt sTabs=R) (a:B4 sMainrs sMain:=by exact om_) (w:sMain.length≤9223372036854775807:=by exact om_) (u:sMain.length≤sMaink:=by exact om_) (b:B4 sAltrs sAlt:=by exact om_) (a0:sAlt.length≤9223372036854775807:=by exact om_) (z:sAlt.length≤sAltk:=by exact om_) (y:sTabs.length≤9223372036854775807:=by exact om_) (r:sTabs.length≤sTabsk:=by exact om_) (a9:s.title.length≤100000000:=by exact om_):Con Tryz.prog 8 [ag (B3 s ⟨sMainq,sMain.length,sMaink⟩ ⟨sAltq,sAlt.length,sAltk⟩ ⟨none,0,0⟩ ⟨sTabsq,sTabs.length,sTabsk⟩),.slice lq 1 1] [] [sl B5 sMainq sMainrs,B7 B1 sMainrs sMain,sl B5 sAltq sAltrs,B7 B1 sAltrs sAlt,sl H4 sTabsq sTabs,sl B8 lq ([(⟨37,1049,1,Col.zero,[]⟩:Act)]:List Act),O9,P0] ({t:Option Addr×List Rwq×Nat // B4 t.2.1 R.2.1∧R.2.1.length≤t.2.2∧R.2.1.length≤9223372036854775807}×{t:Option Addr×List Rwq×Nat // B4 t.2.1 R.2.2.1∧R.2.2.1.length≤t.2.2∧R.2.2.1.length≤9223372036854775807}×{t:Option Addr×Nat // R.2.2.2.1.length≤t.2∧R.2.2.2.1.length≤9223372036854775807}) (fun x=>.tuple #[ag (B3 R.1 ⟨x.1.1.1,R.2.1.length,x.1.1.2.2⟩ ⟨x.2.1.1.1,R.2.2.1.length,x.2.1.1.2.2⟩ ⟨none,0,0⟩ ⟨x.2.2.1.1,R.2.2.2.1.length,x.2.2.1.2⟩),iv R.2.2.2.2]) (fun x=>[]) (fun x=>[sl B5 x.1.1.1 x.1.1.2.1,B7 B1 x.1.1.2.1 R.2.1,sl B5 x.2.1.1.1 x.2.1.1.2.1,B7 B1 x.2.1.1.2.1 R.2.2.1,sl H4 x.2.2.1.1 R.2.2.2.1]):=by
 refine zce Tryz.func8 fun X hX hr hD=>?_
 replace hR:=(A1l.eq_1 ..).symm.trans hR
 have:=a.1
 have:=b.1
 refine sR_ rfl (A4z 3 0 [] (fun h f=>[(2,pt h 0),(4,pt f 0)]) (fun h f=>[bx f (B3 ScrC.zero ⟨none,0,0⟩ ⟨none,0,0⟩ ⟨none,0,0⟩ ⟨none,0,0⟩) 52,bx h (B3 s ⟨sMainq,sMain.length,sMaink⟩ ⟨sAltq,sAlt.length,sAltk⟩ ⟨none,0,0⟩ ⟨sTabsq,sTabs.length,sTabsk⟩) 52]) (fun h f=>(ie (A2 (sR_ rfl (zrl 1 2 [1] [(16,ag (B3 s ⟨sMainq,sMain.length,sMaink⟩ ⟨sAltq,sAlt.length,sAltk⟩ ⟨none,0,0⟩ ⟨sTabsq,sTabs.length,sTabsk⟩))] (zv rfl (A8i rfl a om_ om_ b) (pp1 1 6 rfl (ie (sR_ rfl (pp1 2 19 rfl (ie ?_))))))))))))
 refine zjn rfl hR ?_ ?_<;>clear hR<;>intro hR h3 a5
 ·refine sR_ rfl (zrg 4 0 [0] [(5,iv (M3 s sMain sAlt sTabs))] [bx f (B3 ScrC.zero ⟨none,0,0⟩ ⟨none,0,0⟩ ⟨none,0,0⟩ ⟨none,0,0⟩) 52,bx h (B3 s ⟨sMainq,sMain.length,sMaink⟩ ⟨sAltq,sAlt.length,sAltk⟩ ⟨none,0,0⟩ ⟨sTabsq,sTabs.length,sTabsk⟩) 52] ?_)
  subst hR
  refine ie (A6 ?_)
  exact zer hr hD (V1 rfl (P7 (us:=B3 ScrC.zero ⟨none,0,0⟩ ⟨none,0,0⟩ ⟨none,0,0⟩ ⟨none,0,0⟩) A9j rfl 0 rfl rfl) (A4 rfl)) (⟨(none,[],0),⟨B4.none,oml,oml⟩⟩,⟨(none,[],0),⟨B4.none,oml,oml⟩⟩,(zq none 0)) sb_ fo_
 refine A3 (nx (A2 (sR_ rfl (pp1 3 24 rfl (ie (P1 rfl (A3 (nx (A2 (sR_ rfl (pp3 3 26 27 28 rfl (ie (A8 (P9 3 ?_))))))))))))))
 refine D6 (sR_ rfl (pp1 1 29 rfl ?_))
 refine ie (A2 (G1 rfl (A3 (nx (A2 (A8 (sR_ rfl (N2 5 rfl orj fun a4 m=>(ix rfl (F7 B0d rfl rfl m rfl 0 rfl orj) (ix rfl (I3 (us:=B8 (⟨37,1049,1,Col.zero,[]⟩:Act)) C0s rfl rfl (H5 (c:=B8) (sz:=6) m (fun _=>rfl) 5 rfl (gd Act.zero orj)) rfl) ?_))))))))))
 refine J3 2 0 [0] (fun k=>[(8,pt k 0)]) (fun k=>[bx k (B8 (⟨37,1049,1,Col.zero,[]⟩:Act)) 68,bx f (B3 ScrC.zero ⟨none,0,0⟩ ⟨none,0,0⟩ ⟨none,0,0⟩ ⟨none,0,0⟩) 52,bx h (B3 s ⟨sMainq,sMain.length,sMaink⟩ ⟨sAltq,sAlt.length,sAltk⟩ ⟨none,0,0⟩ ⟨sTabsq,sTabs.length,sTabsk⟩) 52]) (fun k=>?_)
 refine ie (sR_ rfl (zrl 1 2 [0] [(32,ag (B8 (⟨37,1049,1,Col.zero,[]⟩:Act)))] (zv rfl (B5f rfl) (pp1 1 9 rfl (ie (sR_ rfl (pp1 2 35 rfl (ie ?_))))))))
 refine zjn rfl hR ?_ ?_<;>clear hR<;>intro hR h7 a8
 ·refine sR_ rfl (zrg 4 0 [1] [(5,iv (V8 1049 1 Col.zero []))] [bx k (B8 (⟨37,1049,1,Col.zero,[]⟩:Act)) 68,bx f (B3 ScrC.zero ⟨none,0,0⟩ ⟨none,0,0⟩ ⟨none,0,0⟩ ⟨none,0,0⟩) 52,bx h (B3 s ⟨sMainq,sMain.length,sMaink⟩ ⟨sAltq,sAlt.length,sAltk⟩ ⟨none,0,0⟩ ⟨sTabsq,sTabs.length,sTabsk⟩) 52] ?_)
  subst hR
  refine ie (A6 ?_)
  exact zer hr hD (V1 rfl (P7 (us:=B3 ScrC.zero ⟨none,0,0⟩ ⟨none,0,0⟩ ⟨none,0,0⟩ ⟨none,0,0⟩) A9j rfl 1 rfl rfl) (A4 rfl)) (⟨(none,[],0),⟨B4.none,oml,oml⟩⟩,⟨(none,[],0),⟨B4.none,oml,oml⟩⟩,(zq none 0)) sb_ fo_
 refine A3 (nx (A0 2 rfl (ix rfl (A9 (c:=1) rfl rfl rfl rfl ozw) (pp1 1 28 rfl (A1 (D6 (sR_ rfl (pp1 1 29 rfl (ie (A2 (P1 rfl (F6 (nx (sR_ rfl (J3 4 0 [2] (fun i=>[(10,pt i 0)]) (fun i=>[bx i (B3 s ⟨sMainq,sMain.length,sMaink⟩ ⟨sAltq,sAlt.length,sAltk⟩ ⟨none,0,0⟩ ⟨sTabsq,sTabs.length,sTabsk⟩) 77,bx k (B8 (⟨37,1049,1,Col.zero,[]⟩:Act)) 68,bx f (B3 ScrC.zero ⟨none,0,0⟩ ⟨none,0,0⟩ ⟨none,0,0⟩ ⟨none,0,0⟩) 52,bx h (B3 s ⟨sMainq,sMain.length,sMaink⟩ ⟨sAltq,sAlt.length,sAltk⟩ ⟨none,0,0⟩ ⟨sTabsq,sTabs.length,sTabsk⟩) 52]) (fun i=>(ie (sR_ rfl (zc rfl (A7a rfl) fun q=>(pp1 1 11 rfl (ie (A2 (sR_ rfl (pp3 3 43 44 45 rfl ?_))))))))))))))))))))))))
 refine ie (A8 (P9 3 ?_))
 refine D6 (sR_ rfl (pp1 1 46 rfl ?_))
 refine ie (A2 (G1 rfl (A3 (nx (A2 (A8 (sR_ rfl (ix rfl (F7 B0d rfl rfl m rfl 0 rfl orj) (ix rfl (I3 (us:=B8 (⟨37,1049,1,Col.zero,[]⟩:Act)) C0s rfl rfl (H5 (c:=B8) (sz:=6) m (fun _=>rfl) 5 rfl (gd Act.zero orj)) rfl) ?_)))))))))
 refine J3 2 0 [0] (fun d=>[(13,pt d 0)]) (fun d=>[bx d (B8 (⟨37,1049,1,Col.zero,[]⟩:Act)) 68,(q,.map #[⟨iv 1,.func (.func 42) #[] #[],0⟩,⟨iv 34,.func (.func 43) #[] #[],1⟩,⟨iv 3,.func (.func 44) #[] #[],2⟩,⟨iv 4,.func (.func 45) #[] #[],3⟩,⟨iv 24,.func (.func 45) #[] #[],4⟩,⟨iv 25,.func (.func 46) #[] #[],5⟩,⟨iv 6,.func (.func 47) #[] #[],6⟩,⟨iv 5,.func (.func 48) #[] #[],7⟩,⟨iv 8,.func (.func 49) #[] #[],8⟩,⟨iv 9,.func (.func 50) #[] #[],9⟩,⟨iv 11,.func (.func 51) #[] #[],10⟩,⟨iv 19,.func (.func 52) #[] #[],11⟩,⟨iv 23,.func (.func 53) #[] #[],12⟩,⟨iv 22,.func (.func 54) #[] #[],13⟩,⟨iv 20,.func (.func 55) #[] #[],14⟩,⟨iv 21,.func (.func 56) #[] #[],15⟩,⟨iv 38,.func (.func 57) #[] #[],16⟩,⟨iv 26,.func (.func 58) #[] #[],17⟩,⟨iv 27,.func (.func 59) #[] #[],18⟩,⟨iv 30,.func (.func 60) #[] #[],19⟩,⟨iv 28,.func (.func 61) #[] #[],20⟩,⟨iv 29,.func (.func 62) #[] #[],21⟩,⟨iv 31,.func (.func 63) #[] #[],22⟩,⟨iv 32,.func (.func 64) #[] #[],23⟩,⟨iv 33,.func (.func 65) #[] #[],24⟩,⟨iv 16,.func (.func 66) #[] #[],25⟩,⟨iv 15,.func (.func 67) #[] #[],26⟩,⟨iv 10,.func (.func 68) #[] #[],27⟩,⟨iv 35,.func (.func 69) #[] #[],28⟩,⟨iv 17,.func (.func 70) #[] #[],29⟩,⟨iv 7,.func (.func 71) #[] #[],30⟩,⟨iv 18,.func (.func 72) #[] #[],31⟩,⟨iv 39,.func (.func 73) #[] #[],32⟩,⟨iv 40,.func (.func 74) #[] #[],33⟩,⟨iv 44,.func (.func 75) #[] #[],34⟩,⟨iv 14,.func (.func 76) #[] #[],35⟩,⟨iv 36,.func (.func 77) #[] #[],36⟩,⟨iv 37,.func (.func 78) #[] #[],37⟩,⟨iv 12,.func (.func 79) #[] #[],38⟩,⟨iv 13,.func (.func 80) #[] #[],39⟩] 40),bx i (B3 s ⟨sMainq,sMain.length,sMaink⟩ ⟨sAltq,sAlt.length,sAltk⟩ ⟨none,0,0⟩ ⟨sTabsq,sTabs.length,sTabsk⟩) 77,bx k (B8 (⟨37,1049,1,Col.zero,[]⟩:Act)) 68,bx f (B3 ScrC.zero ⟨none,0,0⟩ ⟨none,0,0⟩ ⟨none,0,0⟩ ⟨none,0,0⟩) 52,bx h (B3 s ⟨sMainq,sMain.length,sMaink⟩ ⟨sAltq,sAlt.length,sAltk⟩ ⟨none,0,0⟩ ⟨sTabsq,sTabs.length,sTabsk⟩) 52]) (fun d=>?_)
 refine ie (A2 (sR_ rfl (pl1 2 [0] 50 rfl (zv rfl (B3i (R:=false) (by decide +kernel)) (pp1 1 52 rfl (ie (G1 rfl (A0 5 rfl (pp1 4 56 rfl (it rfl (D0 (us:=[iv 0]) (cs':=B3 ({s with last:=0}) ⟨sMainq,sMain.length,sMaink⟩ ⟨sAltq,sAlt.length,sAltk⟩ ⟨none,0,0⟩ ⟨sTabsq,sTabs.length,sTabsk⟩) ty3 rfl rfl rfl 2 rfl rfl rfl rfl rfl rfl) fun _=>?_))))))))))
 refine A1 (nx (B2l (fun (x:ScrC)=>(Y5 sMain sAlt sTabs x=R,[(4,pt f 0),(10,pt i 0),(11,.map (some q)),(13,pt d 0),(43,.slice lq 1 1),(44,iv 1),(45,iv 0)],[bx d (B8 (⟨37,1049,1,Col.zero,[]⟩:Act)) 68,(q,.map #[⟨iv 1,.func (.func 42) #[] #[],0⟩,⟨iv 34,.func (.func 43) #[] #[],1⟩,⟨iv 3,.func (.func 44) #[] #[],2⟩,⟨iv 4,.func (.func 45) #[] #[],3⟩,⟨iv 24,.func (.func 45) #[] #[],4⟩,⟨iv 25,.func (.func 46) #[] #[],5⟩,⟨iv 6,.func (.func 47) #[] #[],6⟩,⟨iv 5,.func (.func 48) #[] #[],7⟩,⟨iv 8,.func (.func 49) #[] #[],8⟩,⟨iv 9,.func (.func 50) #[] #[],9⟩,⟨iv 11,.func (.func 51) #[] #[],10⟩,⟨iv 19,.func (.func 52) #[] #[],11⟩,⟨iv 23,.func (.func 53) #[] #[],12⟩,⟨iv 22,.func (.func 54) #[] #[],13⟩,⟨iv 20,.func (.func 55) #[] #[],14⟩,⟨iv 21,.func (.func 56) #[] #[],15⟩,⟨iv 38,.func (.func 57) #[] #[],16⟩,⟨iv 26,.func (.func 58) #[] #[],17⟩,⟨iv 27,.func (.func 59) #[] #[],18⟩,⟨iv 30,.func (.func 60) #[] #[],19⟩,⟨iv 28,.func (.func 61) #[] #[],20⟩,⟨iv 29,.func (.func 62) #[] #[],21⟩,⟨iv 31,.func (.func 63) #[] #[],22⟩,⟨iv 32,.func (.func 64) #[] #[],23⟩,⟨iv 33,.func (.func 65) #[] #[],24⟩,⟨iv 16,.func (.func 66) #[] #[],25⟩,⟨iv 15,.func (.func 67) #[] #[],26⟩,⟨iv 10,.func (.func 68) #[] #[],27⟩,⟨iv 35,.func (.func 69) #[] #[],28⟩,⟨iv 17,.func (.func 70) #[] #[],29⟩,⟨iv 7,.func (.func 71) #[] #[],30⟩,⟨iv 18,.func (.func 72) #[] #[],31⟩,⟨iv 39,.func (.func 73) #[] #[],32⟩,⟨iv 40,.func (.func 74) #[] #[],33⟩,⟨iv 44,.func (.func 75) #[] #[],34⟩,⟨iv 14,.func (.func 76) #[] #[],35⟩,⟨iv 36,.func (.func 77) #[] #[],36⟩,⟨iv 37,.func (.func 78) #[] #[],37⟩,⟨iv 12,.func (.func 79) #[] #[],38⟩,⟨iv 13,.func (.func 80) #[] #[],39⟩] 40),bx i (B3 x ⟨sMainq,sMain.length,sMaink⟩ ⟨sAltq,sAlt.length,sAltk⟩ ⟨none,0,0⟩ ⟨sTabsq,sTabs.length,sTabsk⟩) 77,bx k (B8 (⟨37,1049,1,Col.zero,[]⟩:Act)) 68,bx f (B3 ScrC.zero ⟨none,0,0⟩ ⟨none,0,0⟩ ⟨none,0,0⟩ ⟨none,0,0⟩) 52,bx h (B3 s ⟨sMainq,sMain.length,sMaink⟩ ⟨sAltq,sAlt.length,sAltk⟩ ⟨none,0,0⟩ ⟨sTabsq,sTabs.length,sTabsk⟩) 52],[sl B5 sMainq sMainrs,B7 B1 sMainrs sMain,sl B5 sAltq sAltrs,B7 B1 sAltrs sAlt,sl H4 sTabsq sTabs,sl B8 lq ([(⟨37,1049,1,Col.zero,[]⟩:Act)]:List Act),O9,P0])) ?_ ?_))
 ·refine sR_ rfl (zrl 1 2 [0] [(57,ag (B8 (⟨37,1049,1,Col.zero,[]⟩:Act)))] (zv rfl (B1i rfl) (pp1 1 59 rfl (ie ?_))))
  refine zjb rfl hR ?_ ?_<;>clear hR<;>intro hR a6
  ·refine A0 6 rfl (pp1 5 64 rfl (it rfl (D0 (us:=[bv false]) (cs':=B3 ({s with last:=0,cursor:={s.cursor with wrap:=false}}) ⟨sMainq,sMain.length,sMaink⟩ ⟨sAltq,sAlt.length,sAltk⟩ ⟨none,0,0⟩ ⟨sTabsq,sTabs.length,sTabsk⟩) ty4 rfl rfl rfl 2 rfl rfl rfl rfl rfl rfl) fun _=>?_))
   refine A1 ?_
   exact A1d ({s with last:=0,cursor:={s.cursor with wrap:=false}}) hR sb_ A5.refl
  refine A3 ?_
  exact A1d ({s with last:=0}) hR sb_ A5.refl
 intro x
 rintro hR
 replace hR:=(Y5.eq_1 ..).symm.trans hR
 refine sR_ rfl (pl2 3 [0] 66 68 rfl (ix rfl (O7 (v:=.func (.func 78) #[] #[]) (j:=37) C1x rfl rfl rfl 1 rfl oki) (ip' 5 0 [(14,.func (.func 78) #[] #[]),(15,bv true)] (ie (sR_ rfl (ip' 1 0 [(72,bv true)] (ie (G1 rfl (A0 4 rfl (zrl 3 1 [0] [(73,.func (.func 78) #[] #[]),(74,pt i 0),(75,ag (B8 (⟨37,1049,1,Col.zero,[]⟩:Act)))] ?_))))))))))
 have hQ:=E9 hR;clear hR;obtain ⟨l,a1,hR⟩:=hQ
 refine it rfl (I0 (L2:=[bx d (B8 (⟨37,1049,1,Col.zero,[]⟩:Act)) 68,(q,.map #[⟨iv 1,.func (.func 42) #[] #[],0⟩,⟨iv 34,.func (.func 43) #[] #[],1⟩,⟨iv 3,.func (.func 44) #[] #[],2⟩,⟨iv 4,.func (.func 45) #[] #[],3⟩,⟨iv 24,.func (.func 45) #[] #[],4⟩,⟨iv 25,.func (.func 46) #[] #[],5⟩,⟨iv 6,.func (.func 47) #[] #[],6⟩,⟨iv 5,.func (.func 48) #[] #[],7⟩,⟨iv 8,.func (.func 49) #[] #[],8⟩,⟨iv 9,.func (.func 50) #[] #[],9⟩,⟨iv 11,.func (.func 51) #[] #[],10⟩,⟨iv 19,.func (.func 52) #[] #[],11⟩,⟨iv 23,.func (.func 53) #[] #[],12⟩,⟨iv 22,.func (.func 54) #[] #[],13⟩,⟨iv 20,.func (.func 55) #[] #[],14⟩,⟨iv 21,.func (.func 56) #[] #[],15⟩,⟨iv 38,.func (.func 57) #[] #[],16⟩,⟨iv 26,.func (.func 58) #[] #[],17⟩,⟨iv 27,.func (.func 59) #[] #[],18⟩,⟨iv 30,.func (.func 60) #[] #[],19⟩,⟨iv 28,.func (.func 61) #[] #[],20⟩,⟨iv 29,.func (.func 62) #[] #[],21⟩,⟨iv 31,.func (.func 63) #[] #[],22⟩,⟨iv 32,.func (.func 64) #[] #[],23⟩,⟨iv 33,.func (.func 65) #[] #[],24⟩,⟨iv 16,.func (.func 66) #[] #[],25⟩,⟨iv 15,.func (.func 67) #[] #[],26⟩,⟨iv 10,.func (.func 68) #[] #[],27⟩,⟨iv 35,.func (.func 69) #[] #[],28⟩,⟨iv 17,.func (.func 70) #[] #[],29⟩,⟨iv 7,.func (.func 71) #[] #[],30⟩,⟨iv 18,.func (.func 72) #[] #[],31⟩,⟨iv 39,.func (.func 73) #[] #[],32⟩,⟨iv 40,.func (.func 74) #[] #[],33⟩,⟨iv 44,.func (.func 75) #[] #[],34⟩,⟨iv 14,.func (.func 76) #[] #[],35⟩,⟨iv 36,.func (.func 77) #[] #[],36⟩,⟨iv 37,.func (.func 78) #[] #[],37⟩,⟨iv 12,.func (.func 79) #[] #[],38⟩,⟨iv 13,.func (.func 80) #[] #[],39⟩] 40),bx k (B8 (⟨37,1049,1,Col.zero,[]⟩:Act)) 68,bx f (B3 ScrC.zero ⟨none,0,0⟩ ⟨none,0,0⟩ ⟨none,0,0⟩ ⟨none,0,0⟩) 52,bx h (B3 s ⟨sMainq,sMain.length,sMaink⟩ ⟨sAltq,sAlt.length,sAltk⟩ ⟨none,0,0⟩ ⟨sTabsq,sTabs.length,sTabsk⟩) 52]) (B1f (s:=x) (sMain:=sMain) (sAlt:=sAlt) (sTabs:=sTabs) (sb:=i) (sMainq:=sMainq) (sMainrs:=sMainrs) (sMaink:=sMaink) (sAltq:=sAltq) (sAltrs:=sAltrs) (sAltk:=sAltk) (sTabsq:=sTabsq) (sTabsk:=sTabsk) a1 a om_ om_ b) rfl rfl rfl rfl rfl fo_ (J5 [[bx d (B8 (⟨37,1049,1,Col.zero,[]⟩:Act)) 68],[(q,.map #[⟨iv 1,.func (.func 42) #[] #[],0⟩,⟨iv 34,.func (.func 43) #[] #[],1⟩,⟨iv 3,.func (.func 44) #[] #[],2⟩,⟨iv 4,.func (.func 45) #[] #[],3⟩,⟨iv 24,.func (.func 45) #[] #[],4⟩,⟨iv 25,.func (.func 46) #[] #[],5⟩,⟨iv 6,.func (.func 47) #[] #[],6⟩,⟨iv 5,.func (.func 48) #[] #[],7⟩,⟨iv 8,.func (.func 49) #[] #[],8⟩,⟨iv 9,.func (.func 50) #[] #[],9⟩,⟨iv 11,.func (.func 51) #[] #[],10⟩,⟨iv 19,.func (.func 52) #[] #[],11⟩,⟨iv 23,.func (.func 53) #[] #[],12⟩,⟨iv 22,.func (.func 54) #[] #[],13⟩,⟨iv 20,.func (.func 55) #[] #[],14⟩,⟨iv 21,.func (.func 56) #[] #[],15⟩,⟨iv 38,.func (.func 57) #[] #[],16⟩,⟨iv 26,.func (.func 58) #[] #[],17⟩,⟨iv 27,.func (.func 59) #[] #[],18⟩,⟨iv 30,.func (.func 60) #[] #[],19⟩,⟨iv 28,.func (.func 61) #[] #[],20⟩,⟨iv 29,.func (.func 62) #[] #[],21⟩,⟨iv 31,.func (.func 63) #[] #[],22⟩,⟨iv 32,.func (.func 64) #[] #[],23⟩,⟨iv 33,.func (.func 65) #[] #[],24⟩,⟨iv 16,.func (.func 66) #[] #[],25⟩,⟨iv 15,.func (.func 67) #[] #[],26⟩,⟨iv 10,.func (.func 68) #[] #[],27⟩,⟨iv 35,.func (.func 69) #[] #[],28⟩,⟨iv 17,.func (.func 70) #[] #[],29⟩,⟨iv 7,.func (.func 71) #[] #[],30⟩,⟨iv 18,.func (.func 72) #[] #[],31⟩,⟨iv 39,.func (.func 73) #[] #[],32⟩,⟨iv 40,.func (.func 74) #[] #[],33⟩,⟨iv 44,.func (.func 75) #[] #[],34⟩,⟨iv 14,.func (.func 76) #[] #[],35⟩,⟨iv 36,.func (.func 77) #[] #[],36⟩,⟨iv 37,.func (.func 78) #[] #[],37⟩,⟨iv 12,.func (.func 79) #[] #[],38⟩,⟨iv 13,.func (.func 80) #[] #[],39⟩] 40)],[bx i (B3 x ⟨sMainq,sMain.length,sMaink⟩ ⟨sAltq,sAlt.length,sAltk⟩ ⟨none,0,0⟩ ⟨sTabsq,sTabs.length,sTabsk⟩) 77],[bx k (B8 (⟨37,1049,1,Col.zero,[]⟩:Act)) 68],[bx f (B3 ScrC.zero ⟨none,0,0⟩ ⟨none,0,0⟩ ⟨none,0,0⟩ ⟨none,0,0⟩) 52],[bx h (B3 s ⟨sMainq,sMain.length,sMaink⟩ ⟨sAltq,sAlt.length,sAltk⟩ ⟨none,0,0⟩ ⟨sTabsq,sTabs.length,sTabsk⟩) 52]] [2,0,1,3,4,5] 6 rfl ozw rfl [[bx i (B3 x ⟨sMainq,sMain.length,sMaink⟩ ⟨sAltq,sAlt.length,sAltk⟩ ⟨none,0,0⟩ ⟨sTabsq,sTabs.length,sTabsk⟩) 77],[bx d (B8 (⟨37,1049,1,Col.zero,[]⟩:Act)) 68],[(q,.map #[⟨iv 1,.func (.func 42) #[] #[],0⟩,⟨iv 34,.func (.func 43) #[] #[],1⟩,⟨iv 3,.func (.func 44) #[] #[],2⟩,⟨iv 4,.func (.func 45) #[] #[],3⟩,⟨iv 24,.func (.func 45) #[] #[],4⟩,⟨iv 25,.func (.func 46) #[] #[],5⟩,⟨iv 6,.func (.func 47) #[] #[],6⟩,⟨iv 5,.func (.func 48) #[] #[],7⟩,⟨iv 8,.func (.func 49) #[] #[],8⟩,⟨iv 9,.func (.func 50) #[] #[],9⟩,⟨iv 11,.func (.func 51) #[] #[],10⟩,⟨iv 19,.func (.func 52) #[] #[],11⟩,⟨iv 23,.func (.func 53) #[] #[],12⟩,⟨iv 22,.func (.func 54) #[] #[],13⟩,⟨iv 20,.func (.func 55) #[] #[],14⟩,⟨iv 21,.func (.func 56) #[] #[],15⟩,⟨iv 38,.func (.func 57) #[] #[],16⟩,⟨iv 26,.func (.func 58) #[] #[],17⟩,⟨iv 27,.func (.func 59) #[] #[],18⟩,⟨iv 30,.func (.func 60) #[] #[],19⟩,⟨iv 28,.func (.func 61) #[] #[],20⟩,⟨iv 29,.func (.func 62) #[] #[],21⟩,⟨iv 31,.func (.func 63) #[] #[],22⟩,⟨iv 32,.func (.func 64) #[] #[],23⟩,⟨iv 33,.func (.func 65) #[] #[],24⟩,⟨iv 16,.func (.func 66) #[] #[],25⟩,⟨iv 15,.func (.func 67) #[] #[],26⟩,⟨iv 10,.func (.func 68) #[] #[],27⟩,⟨iv 35,.func (.func 69) #[] #[],28⟩,⟨iv 17,.func (.func 70) #[] #[],29⟩,⟨iv 7,.func (.func 71) #[] #[],30⟩,⟨iv 18,.func (.func 72) #[] #[],31⟩,⟨iv 39,.func (.func 73) #[] #[],32⟩,⟨iv 40,.func (.func 74) #[] #[],33⟩,⟨iv 44,.func (.func 75) #[] #[],34⟩,⟨iv 14,.func (.func 76) #[] #[],35⟩,⟨iv 36,.func (.func 77) #[] #[],36⟩,⟨iv 37,.func (.func 78) #[] #[],37⟩,⟨iv 12,.func (.func 79) #[] #[],38⟩,⟨iv 13,.func (.func 80) #[] #[],39⟩] 40)],[bx k (B8 (⟨37,1049,1,Col.zero,[]⟩:Act)) 68],[bx f (B3 ScrC.zero ⟨none,0,0⟩ ⟨none,0,0⟩ ⟨none,0,0⟩ ⟨none,0,0⟩) 52],[bx h (B3 s ⟨sMainq,sMain.length,sMaink⟩ ⟨sAltq,sAlt.length,sAltk⟩ ⟨none,0,0⟩ ⟨sTabsq,sTabs.length,sTabsk⟩) 52]] rfl opv) (fun ⟨⟨g,p,e⟩,n⟩=>[bx i (B3 l.1 ⟨sMainq,sMain.length,sMaink⟩ ⟨g,l.2.length,e⟩ ⟨none,0,0⟩ ⟨sTabsq,sTabs.length,sTabsk⟩) 77,bx d (B8 (⟨37,1049,1,Col.zero,[]⟩:Act)) 68,(q,.map #[⟨iv 1,.func (.func 42) #[] #[],0⟩,⟨iv 34,.func (.func 43) #[] #[],1⟩,⟨iv 3,.func (.func 44) #[] #[],2⟩,⟨iv 4,.func (.func 45) #[] #[],3⟩,⟨iv 24,.func (.func 45) #[] #[],4⟩,⟨iv 25,.func (.func 46) #[] #[],5⟩,⟨iv 6,.func (.func 47) #[] #[],6⟩,⟨iv 5,.func (.func 48) #[] #[],7⟩,⟨iv 8,.func (.func 49) #[] #[],8⟩,⟨iv 9,.func (.func 50) #[] #[],9⟩,⟨iv 11,.func (.func 51) #[] #[],10⟩,⟨iv 19,.func (.func 52) #[] #[],11⟩,⟨iv 23,.func (.func 53) #[] #[],12⟩,⟨iv 22,.func (.func 54) #[] #[],13⟩,⟨iv 20,.func (.func 55) #[] #[],14⟩,⟨iv 21,.func (.func 56) #[] #[],15⟩,⟨iv 38,.func (.func 57) #[] #[],16⟩,⟨iv 26,.func (.func 58) #[] #[],17⟩,⟨iv 27,.func (.func 59) #[] #[],18⟩,⟨iv 30,.func (.func 60) #[] #[],19⟩,⟨iv 28,.func (.func 61) #[] #[],20⟩,⟨iv 29,.func (.func 62) #[] #[],21⟩,⟨iv 31,.func (.func 63) #[] #[],22⟩,⟨iv 32,.func (.func 64) #[] #[],23⟩,⟨iv 33,.func (.func 65) #[] #[],24⟩,⟨iv 16,.func (.func 66) #[] #[],25⟩,⟨iv 15,.func (.func 67) #[] #[],26⟩,⟨iv 10,.func (.func 68) #[] #[],27⟩,⟨iv 35,.func (.func 69) #[] #[],28⟩,⟨iv 17,.func (.func 70) #[] #[],29⟩,⟨iv 7,.func (.func 71) #[] #[],30⟩,⟨iv 18,.func (.func 72) #[] #[],31⟩,⟨iv 39,.func (.func 73) #[] #[],32⟩,⟨iv 40,.func (.func 74) #[] #[],33⟩,⟨iv 44,.func (.func 75) #[] #[],34⟩,⟨iv 14,.func (.func 76) #[] #[],35⟩,⟨iv 36,.func (.func 77) #[] #[],36⟩,⟨iv 37,.func (.func 78) #[] #[],37⟩,⟨iv 12,.func (.func 79) #[] #[],38⟩,⟨iv 13,.func (.func 80) #[] #[],39⟩] 40),bx k (B8 (⟨37,1049,1,Col.zero,[]⟩:Act)) 68,bx f (B3 ScrC.zero ⟨none,0,0⟩ ⟨none,0,0⟩ ⟨none,0,0⟩ ⟨none,0,0⟩) 52,bx h (B3 s ⟨sMainq,sMain.length,sMaink⟩ ⟨sAltq,sAlt.length,sAltk⟩ ⟨none,0,0⟩ ⟨sTabsq,sTabs.length,sTabsk⟩) 52]) (fun _=>rfl)) fun ⟨⟨g,p,e⟩,n⟩=>?_
 obtain ⟨o,a3,a2⟩:=n
 have:=o.1
 refine A1 (nx (A0 2 rfl (ix rfl (A9 (c:=1) rfl rfl rfl rfl ozw) (ip' 1 0 [(45,iv 1)] (A1 (D6 (sR_ rfl (ip' 1 0 [(46,bv false)] (ie (A2 (P1 rfl (F6 (nx (sR_ rfl (zrl 4 2 [0] [(81,ag (B3 l.1 ⟨sMainq,sMain.length,sMaink⟩ ⟨g,l.2.length,e⟩ ⟨none,0,0⟩ ⟨sTabsq,sTabs.length,sTabsk⟩))] (it rfl (D0 (us:=B3 l.1 ⟨sMainq,sMain.length,sMaink⟩ ⟨g,l.2.length,e⟩ ⟨none,0,0⟩ ⟨sTabsq,sTabs.length,sTabsk⟩) (cs':=B3 l.1 ⟨sMainq,sMain.length,sMaink⟩ ⟨g,l.2.length,e⟩ ⟨none,0,0⟩ ⟨sTabsq,sTabs.length,sTabsk⟩) A9j rfl rfl rfl 4 rfl rfl rfl rfl rfl rfl) fun _=>?_))))))))))))))))
 refine pp1 1 5 rfl ?_
 subst hR
 refine ie (A6 ?_)
 exact zer hr hD (V1 rfl (P7 (us:=B3 l.1 ⟨sMainq,sMain.length,sMaink⟩ ⟨g,l.2.length,e⟩ ⟨none,0,0⟩ ⟨sTabsq,sTabs.length,sTabsk⟩) A9j rfl 4 rfl rfl) (A4 rfl)) (⟨(sMainq,sMainrs,sMaink),⟨a,oml,oml⟩⟩,⟨(g,p,e),⟨o,oml,oml⟩⟩,(zq sTabsq sTabsk)) sb_ fo_
def A4q (s:ScrC) (sMain:List (Rwc Cel)) (sAlt:List (Rwc Cel)) (sTabs:List Bool):ScrC×List (Rwc Cel)×List (Rwc Cel)×List Bool×Int :=
 (E8 (A1l s sMain sAlt sTabs) fun (a:ScrC×List (Rwc Cel)×List (Rwc Cel)×List Bool×Int)=>(a.1,a.2.1,a.2.2.1,a.2.2.2.1,a.2.2.2.2))
theorem C2h {s:ScrC} {sMain sAlt:List (Rwc Cel)} {sTabs:List Bool} {sMainq:Option Addr} {sMainrs:List Rwq} {sMaink:Nat} {sAltq:Option Addr} {sAltrs:List Rwq} {sAltk:Nat} {sTabsq:Option Addr} {sTabsk:Nat} {R:ScrC×List (Rwc Cel)×List (Rwc Cel)×List Bool×Int} (hR:A4q s sMain sAlt sTabs=R) (a:B4 sMainrs sMain:=by exact om_) (p:sMain.length≤9223372036854775807:=by exact om_) (n:sMain.length≤sMaink:=by exact om_) (b:B4 sAltrs sAlt:=by exact om_) (z:sAlt.length≤9223372036854775807:=by exact om_) (y:sAlt.length≤sAltk:=by exact om_) (u:sTabs.length≤9223372036854775807:=by exact om_) (k:sTabs.length≤sTabsk:=by exact om_) (aa:s.title.length≤100000000:=by exact om_):Con Tryz.prog 18 [ag (B3 s ⟨sMainq,sMain.length,sMaink⟩ ⟨sAltq,sAlt.length,sAltk⟩ ⟨none,0,0⟩ ⟨sTabsq,sTabs.length,sTabsk⟩),ag (B8 (⟨37,1049,1,Col.zero,[]⟩:Act))] [] [sl B5 sMainq sMainrs,B7 B1 sMainrs sMain,sl B5 sAltq sAltrs,B7 B1 sAltrs sAlt,sl H4 sTabsq sTabs,O9,P0] ({t:Option Addr×List Rwq×Nat // B4 t.2.1 R.2.1∧R.2.1.length≤t.2.2∧R.2.1.length≤9223372036854775807}×{t:Option Addr×List Rwq×Nat // B4 t.2.1 R.2.2.1∧R.2.2.1.length≤t.2.2∧R.2.2.1.length≤9223372036854775807}×{t:Option Addr×Nat // R.2.2.2.1.length≤t.2∧R.2.2.2.1.length≤9223372036854775807}) (fun x=>.tuple #[ag (B3 R.1 ⟨x.1.1.1,R.2.1.length,x.1.1.2.2⟩ ⟨x.2.1.1.1,R.2.2.1.length,x.2.1.1.2.2⟩ ⟨none,0,0⟩ ⟨x.2.2.1.1,R.2.2.2.1.length,x.2.2.1.2⟩),iv R.2.2.2.2]) (fun x=>[]) (fun x=>[sl B5 x.1.1.1 x.1.1.2.1,B7 B1 x.1.1.2.1 R.2.1,sl B5 x.2.1.1.1 x.2.1.1.2.1,B7 B1 x.2.1.1.2.1 R.2.2.1,sl H4 x.2.2.1.1 R.2.2.2.1]):=by
 refine zce Tryz.func18 fun X hX hr hD=>?_
 replace hR:=(A4q.eq_1 ..).symm.trans hR
 have:=a.1
 have:=b.1
 refine sR_ rfl (D1k 4 0 [] (fun l o m=>[(2,pt l 0),(3,pt o 0),(4,pt m 0)]) (fun l o m=>[bx m (B3 ScrC.zero ⟨none,0,0⟩ ⟨none,0,0⟩ ⟨none,0,0⟩ ⟨none,0,0⟩) 52,bx o (B8 (⟨37,1049,1,Col.zero,[]⟩:Act)) 68,bx l (B3 s ⟨sMainq,sMain.length,sMaink⟩ ⟨sAltq,sAlt.length,sAltk⟩ ⟨none,0,0⟩ ⟨sTabsq,sTabs.length,sTabsk⟩) 52]) (fun l o m=>(ie (sR_ rfl (zrl 2 6 [2,1] [(6,ag (B3 s ⟨sMainq,sMain.length,sMaink⟩ ⟨sAltq,sAlt.length,sAltk⟩ ⟨none,0,0⟩ ⟨sTabsq,sTabs.length,sTabsk⟩)),(7,ag (B8 (⟨37,1049,1,Col.zero,[]⟩:Act)))] (it rfl (G2 (c:=B8) (xs:=([(⟨37,1049,1,Col.zero,[]⟩:Act)]:List Act)) B0d rfl rfl rfl oki) fun b4=>?_))))))
 have:([(⟨37,1049,1,Col.zero,[]⟩:Act)]:List Act).length=1:=rfl
 have hQ:=E9 hR;clear hR;obtain ⟨d,a1,hR⟩:=hQ
 refine zc rfl (C0p a1 a om_ om_ b) fun ⟨⟨⟨q5,a0,k7⟩,w⟩,⟨⟨i,r,f⟩,j⟩,⟨⟨g,h⟩,q⟩⟩=>?_
 obtain ⟨v,ab,a7⟩:=w
 obtain ⟨e,a6,a5⟩:=j
 obtain ⟨a8,a4⟩:=q
 have:=v.1
 have:=e.1
 refine zrg 4 0 [0] [(5,iv d.2.2.2.2)] [bx m (B3 d.1 ⟨q5,d.2.1.length,k7⟩ ⟨i,d.2.2.1.length,f⟩ ⟨none,0,0⟩ ⟨g,d.2.2.2.1.length,h⟩) 52,bx o (B8 (⟨37,1049,1,Col.zero,[]⟩:Act)) 68,bx l (B3 s ⟨sMainq,sMain.length,sMaink⟩ ⟨sAltq,sAlt.length,sAltk⟩ ⟨none,0,0⟩ ⟨sTabsq,sTabs.length,sTabsk⟩) 52] ?_
 subst hR
 refine ie (A6 ?_)
 exact zer hr hD (V1 rfl (P7 (us:=B3 d.1 ⟨q5,d.2.1.length,k7⟩ ⟨i,d.2.2.1.length,f⟩ ⟨none,0,0⟩ ⟨g,d.2.2.2.1.length,h⟩) A9j rfl 0 rfl rfl) (A4 rfl)) (⟨(q5,a0,k7),⟨v,oml,oml⟩⟩,⟨(i,r,f),⟨e,oml,oml⟩⟩,(zq g h)) sb_ fo_
def K3 (f:FrmC) (a:ScrC×List (Rwc Cel)×List (Rwc Cel)×List Bool×Int):List (List Cel)→Nat→List (Rwc Cel)→(ScrC×List (Rwc Cel)×List (Rwc Cel)×List Bool×Int)
 | [],t40,sAlt=>({a.1 with cursor:={Cur.zero with row:=f.cursor.row,col:=f.cursor.col},modes:={a.1.modes with visible:=f.visible},shape:=f.shape,title:=f.title},a.2.1,sAlt,a.2.2.2.1,0)
 | hd_l0::tl_l0,t40,sAlt=>K3 f a tl_l0 (t40+1) (sAlt++([⟨hd_l0,false⟩]:List (Rwc Cel)))
def R3 (f:FrmC) (b:List (List Cel)):ScrC×List (Rwc Cel)×List (Rwc Cel)×List Bool×Int :=
 (bif (!decide ((F3 f b)=0)) then (ScrC.zero,([]:List (Rwc Cel)),([]:List (Rwc Cel)),([]:List Bool),(F3 f b)) else (E8 (N5 f.cols (b.length:Int)) fun (a:ScrC×List (Rwc Cel)×List (Rwc Cel)×List Bool×Int)=>(bif (decide (a.2.2.2.2=0)) then (E8 (A4q a.1 a.2.1 a.2.2.1 a.2.2.2.1) fun (c:ScrC×List (Rwc Cel)×List (Rwc Cel)×List Bool×Int)=>(bif (!decide (c.2.2.2.2=0)) then (ScrC.zero,([]:List (Rwc Cel)),([]:List (Rwc Cel)),([]:List Bool),c.2.2.2.2) else K3 f c b 0 ([]:List (Rwc Cel)))) else (ScrC.zero,([]:List (Rwc Cel)),([]:List (Rwc Cel)),([]:List Bool),a.2.2.2.2))))
theorem B6h (f:FrmC) (d:ScrC×List (Rwc Cel)×List (Rwc Cel)×List Bool×Int):∀ (l:List (List Cel)) (t:Nat) (a:List (Rwc Cel)),(K3 f d l t a).1.title=f.title
 | [],t,a=>rfl
 | x::l,t,a=>by simp only [K3];exact B6h f d l _ _
theorem A5l (f:FrmC) (a:List (List Cel)):(R3 f a).1.title.length≤f.title.length:=by
 unfold R3 E8
 simp only [Bool.cond_eq_ite]
 repeat' split
 all_goals first|exact Nat.zero_le _|(rw [B6h];exact Nat.le_refl _)
theorem ooy {p:Prop} (h:p:=by first|rfl|(simp only [List.length_take,List.length_drop];omega)):p:=h
theorem ojq {p:Prop} (h:p:=by first|omega|(simp only [List.length_cons,List.length_nil,List.length_append,List.length_take,List.length_drop,C8,C4,C5];omega)):p:=h
theorem B0o {f:FrmC} {fR:List (List Cel)} {y:Option Addr} {fZ:List Slc} {fK:Nat} {R:ScrC×List (Rwc Cel)×List (Rwc Cel)×List Bool×Int} (hR:R3 f fR=R) (b:E3 fZ fR:=by exact om_) (au:fR.length≤9223372036854775807:=by exact om_) (av:fR.length≤fK:=by exact om_) (hT:f.title.length≤100000000:=by exact om_):Con Tryz.prog 7 [ag (B0 f ⟨y,fR.length,fK⟩)] [] [sl E4 y fZ,D3 B1 fZ fR,O9,P0] ({t:Option Addr×List Rwq×Nat // B4 t.2.1 R.2.1∧R.2.1.length≤t.2.2∧R.2.1.length≤9223372036854775807}×{t:VR×List Rwq // VOk 2 R.2.2.1.length t.1∧B4 t.2 R.2.2.1}×{t:Option Addr×Nat // R.2.2.2.1.length≤t.2∧R.2.2.2.1.length≤9223372036854775807}) (fun x=>.tuple #[ag (B3 R.1 ⟨x.1.1.1,R.2.1.length,x.1.1.2.2⟩ ⟨va x.2.1.1.1.q,R.2.2.1.length,x.2.1.1.1.k⟩ ⟨none,0,0⟩ ⟨x.2.2.1.1,R.2.2.2.1.length,x.2.2.1.2⟩),iv R.2.2.2.2]) (fun x=>((vo B5 72 x.2.1.1.1 x.2.1.1.2)++([]))) (fun x=>[sl B5 x.1.1.1 x.1.1.2.1,B7 B1 x.1.1.2.1 R.2.1,B7 B1 x.2.1.1.2 R.2.2.1,sl H4 x.2.2.1.1 R.2.2.2.1]):=by
 refine zce Tryz.func7 fun X hX hr hD=>?_
 replace hR:=(R3.eq_1 ..).symm.trans hR
 have:=b.1
 refine sR_ rfl (A4z 3 0 [] (fun w z=>[(1,pt w 0),(2,pt z 0)]) (fun w z=>[bx z (B3 ScrC.zero ⟨none,0,0⟩ ⟨none,0,0⟩ ⟨none,0,0⟩ ⟨none,0,0⟩) 52,bx w (B0 f ⟨y,fR.length,fK⟩) 26]) (fun w z=>(ie (A2 (sR_ rfl (zrl 1 2 [1] [(9,ag (B0 f ⟨y,fR.length,fK⟩))] (zv rfl (A3e rfl b) (pp1 1 4 rfl (ie (sR_ rfl (pp1 2 12 rfl (ie ?_))))))))))))
 refine zjn rfl hR ?_ ?_<;>clear hR<;>intro hR h3 b5
 ·refine sR_ rfl (zrg 4 0 [0] [(3,iv (F3 f fR))] [bx z (B3 ScrC.zero ⟨none,0,0⟩ ⟨none,0,0⟩ ⟨none,0,0⟩ ⟨none,0,0⟩) 52,bx w (B0 f ⟨y,fR.length,fK⟩) 26] ?_)
  subst hR
  refine ie (A6 ?_)
  exact zer hr hD (V1 rfl (P7 (us:=B3 ScrC.zero ⟨none,0,0⟩ ⟨none,0,0⟩ ⟨none,0,0⟩ ⟨none,0,0⟩) A9j rfl 0 rfl rfl) (A4 rfl)) (⟨(none,[],0),⟨B4.none,oml,oml⟩⟩,⟨(VR.nil,([]:List Rwq)),⟨VOk.nil,B4.none⟩⟩,(zq none 0)) sb_ fo_
 have bi:=A2d (by first|exact b5|simpa using h3)
 refine A3 (nx (sR_ rfl (pl2 5 [1,1] 17 20 rfl ?_)))
 have hQ:=E9 hR;clear hR;obtain ⟨u,an,hR⟩:=hQ
 refine zc rfl (B9t an) fun ⟨⟨⟨r4,ab⟩,az⟩,⟨⟨r9,a2⟩,am⟩,⟨s,a8⟩⟩=>?_
 try dsimp only at az
 obtain ⟨af,ao⟩:=az
 try dsimp only at am
 obtain ⟨a7,ad⟩:=am
 have:=VOk.le af
 have:=VOk.le a7
 have:=VOk.le a8
 have:=VOk.cap af
 have:=VOk.cap a7
 have:=VOk.cap a8
 have:=ao.1
 have:=ad.1
 have a3:=B3l f.cols (fR.length:Int);rw [an] at a3;have a4:=B6y f.cols (fR.length:Int);rw [an] at a4
 refine J3 6 0 [0] (fun h=>[(5,pt h 0),(6,iv u.2.2.2.2)]) (fun h=>(bx h (B3 u.1 ⟨va r4.q,u.2.1.length,r4.k⟩ ⟨va r9.q,u.2.2.1.length,r9.k⟩ ⟨none,0,0⟩ ⟨va s.q,u.2.2.2.1.length,s.k⟩) 52::bx z (B3 ScrC.zero ⟨none,0,0⟩ ⟨none,0,0⟩ ⟨none,0,0⟩ ⟨none,0,0⟩) 52::bx w (B0 f ⟨y,fR.length,fK⟩) 26::((vo B5 72 r4 ab)++((vo B5 72 r9 a2)++((vo H4 4 s u.2.2.2.1)++([])))))) (fun h=>?_)
 refine ie (A2 (sR_ rfl (pp1 2 25 rfl (ie ?_))))
 refine zjd rfl hR ?_ ?_<;>clear hR<;>intro hR bl be
 ·refine A0 8 rfl (zrl 2 6 [0] [(27,ag (B3 u.1 ⟨va r4.q,u.2.1.length,r4.k⟩ ⟨va r9.q,u.2.2.1.length,r9.k⟩ ⟨none,0,0⟩ ⟨va s.q,u.2.2.2.1.length,s.k⟩)),(28,ag (B8 ({Act.zero with kind:=37,n:=1049,m:=1})))] ?_)
  have:=VOk.cap af
  have:=VOk.le af
  refine U6 [bx h (B3 u.1 ⟨va r4.q,u.2.1.length,r4.k⟩ ⟨va r9.q,u.2.2.1.length,r9.k⟩ ⟨none,0,0⟩ ⟨va s.q,u.2.2.2.1.length,s.k⟩) 52,bx z (B3 ScrC.zero ⟨none,0,0⟩ ⟨none,0,0⟩ ⟨none,0,0⟩ ⟨none,0,0⟩) 52,bx w (B0 f ⟨y,fR.length,fK⟩) 26] ((vo B5 72 r9 a2)++((vo H4 4 s u.2.2.2.1)++([]))) (T:=72) (c:=B5) (r:=r4) (xs:=ab) (VOk.cast af (by rw [ao.1])) opv ?_
  have:=VOk.cap a7
  have:=VOk.le a7
  refine U6 [bx h (B3 u.1 ⟨va r4.q,u.2.1.length,r4.k⟩ ⟨va r9.q,u.2.2.1.length,r9.k⟩ ⟨none,0,0⟩ ⟨va s.q,u.2.2.2.1.length,s.k⟩) 52,bx z (B3 ScrC.zero ⟨none,0,0⟩ ⟨none,0,0⟩ ⟨none,0,0⟩ ⟨none,0,0⟩) 52,bx w (B0 f ⟨y,fR.length,fK⟩) 26] ((vo H4 4 s u.2.2.2.1)++([])) (T:=72) (c:=B5) (r:=r9) (xs:=a2) (VOk.cast a7 (by rw [ad.1])) opv ?_
  have:=VOk.cap a8
  have:=VOk.le a8
  refine U6 [bx h (B3 u.1 ⟨va r4.q,u.2.1.length,r4.k⟩ ⟨va r9.q,u.2.2.1.length,r9.k⟩ ⟨none,0,0⟩ ⟨va s.q,u.2.2.2.1.length,s.k⟩) 52,bx z (B3 ScrC.zero ⟨none,0,0⟩ ⟨none,0,0⟩ ⟨none,0,0⟩ ⟨none,0,0⟩) 52,bx w (B0 f ⟨y,fR.length,fK⟩) 26] [] (T:=4) (c:=H4) (r:=s) (xs:=u.2.2.2.1) a8 opv ?_
  have hQ:=E9 hR;clear hR;obtain ⟨g,b7,hR⟩:=hQ
  refine zc rfl (C2h b7 ao om_ om_ ad) fun ⟨⟨⟨j,aa,p⟩,aw⟩,⟨⟨ai,ac,b4⟩,ar⟩,⟨⟨l,o⟩,ax⟩⟩=>?_
  obtain ⟨ak,b9,ba⟩:=aw
  obtain ⟨b0,bb,bg⟩:=ar
  obtain ⟨bd,b8⟩:=ax
  have:=ak.1
  have:=b0.1
  refine zrg 5 0 [0] [(6,iv g.2.2.2.2)] [bx h (B3 g.1 ⟨j,g.2.1.length,p⟩ ⟨ai,g.2.2.1.length,b4⟩ ⟨none,0,0⟩ ⟨l,g.2.2.2.1.length,o⟩) 52,bx z (B3 ScrC.zero ⟨none,0,0⟩ ⟨none,0,0⟩ ⟨none,0,0⟩ ⟨none,0,0⟩) 52,bx w (B0 f ⟨y,fR.length,fK⟩) 26] (A1 (nx (A2 (sR_ rfl (pp1 2 33 rfl (ie ?_))))))
  refine zjn rfl hR ?_ ?_<;>clear hR<;>intro hR bn bc
  ·refine sR_ rfl (zrg 4 0 [1] [(3,iv g.2.2.2.2)] [bx h (B3 g.1 ⟨j,g.2.1.length,p⟩ ⟨ai,g.2.2.1.length,b4⟩ ⟨none,0,0⟩ ⟨l,g.2.2.2.1.length,o⟩) 52,bx z (B3 ScrC.zero ⟨none,0,0⟩ ⟨none,0,0⟩ ⟨none,0,0⟩ ⟨none,0,0⟩) 52,bx w (B0 f ⟨y,fR.length,fK⟩) 26] ?_)
   subst hR
   refine ie (A6 ?_)
   exact zer hr hD (V1 rfl (P7 (us:=B3 ScrC.zero ⟨none,0,0⟩ ⟨none,0,0⟩ ⟨none,0,0⟩ ⟨none,0,0⟩) A9j rfl 1 rfl rfl) (A4 rfl)) (⟨(none,[],0),⟨B4.none,oml,oml⟩⟩,⟨(VR.nil,([]:List Rwq)),⟨VOk.nil,B4.none⟩⟩,(zq none 0)) sb_ fo_
  refine A3 (nx (sR_ rfl (zrg 2 0 [0] [] [bx h (B3 g.1 ⟨j,g.2.1.length,p⟩ ⟨none,0,0⟩ ⟨none,0,0⟩ ⟨l,g.2.2.2.1.length,o⟩) 52,bx z (B3 ScrC.zero ⟨none,0,0⟩ ⟨none,0,0⟩ ⟨none,0,0⟩ ⟨none,0,0⟩) 52,bx w (B0 f ⟨y,fR.length,fK⟩) 26] (ie (A2 (sR_ rfl (pl3 4 [2] 38 39 40 rfl (ie (A8 (A0t (J5 [vo B5 72 VR.nil ([]:List Rwq),[bx h (B3 g.1 ⟨j,g.2.1.length,p⟩ ⟨none,0,0⟩ ⟨none,0,0⟩ ⟨l,g.2.2.2.1.length,o⟩) 52],[bx z (B3 ScrC.zero ⟨none,0,0⟩ ⟨none,0,0⟩ ⟨none,0,0⟩ ⟨none,0,0⟩) 52],[bx w (B0 f ⟨y,fR.length,fK⟩) 26]] [1,2,3,0] 4 rfl ozw rfl [[bx h (B3 g.1 ⟨j,g.2.1.length,p⟩ ⟨none,0,0⟩ ⟨none,0,0⟩ ⟨l,g.2.2.2.1.length,o⟩) 52],[bx z (B3 ScrC.zero ⟨none,0,0⟩ ⟨none,0,0⟩ ⟨none,0,0⟩ ⟨none,0,0⟩) 52],[bx w (B0 f ⟨y,fR.length,fK⟩) 26],vo B5 72 VR.nil ([]:List Rwq)] rfl opv) ?_))))))))))
  refine A3q (un fun (e:Nat)=>un fun (sAlt:List (Rwc Cel))=>un fun (a:VR) (sAltrs:List Rwq)=>(e≤fR.length∧K3 f g (fR.drop e) e sAlt=R∧VOk 2 sAlt.length a∧B4 sAltrs sAlt∧sAlt.length=e,[(1,pt w 0),(2,pt z 0),(5,pt h 0),(38,.slice y fR.length fK),(39,iv (fR.length:Int)),(40,iv (e:Int))],(bx h (B3 g.1 ⟨j,g.2.1.length,p⟩ ⟨va a.q,sAlt.length,a.k⟩ ⟨none,0,0⟩ ⟨l,g.2.2.2.1.length,o⟩) 52::bx z (B3 ScrC.zero ⟨none,0,0⟩ ⟨none,0,0⟩ ⟨none,0,0⟩ ⟨none,0,0⟩) 52::bx w (B0 f ⟨y,fR.length,fK⟩) 26::((vo B5 72 a sAltrs)++([]))),[sl B5 j aa,B7 B1 aa g.2.1,sl B5 ai ac,B7 B1 ac g.2.2.1,sl H4 l g.2.2.2.1,sl H4 (va s.q) u.2.2.2.1,sl B5 (va r9.q) a2,sl B5 (va r4.q) ab,B7 B1 ab u.2.1,B7 B1 a2 u.2.2.1,sl E4 y fZ,D3 B1 fZ fR,O9,P0,B7 B1 sAltrs sAlt],fR.length - e)) (0,([]:List (Rwc Cel)),VR.nil,([]:List Rwq)) ⟨opx,hR,VOk.nil,B4.none,(by rfl)⟩ sb_ fo_ ?_
  rintro ⟨e,sAlt,a,sAltrs⟩ ⟨bh,hR,a1,i,bk⟩
  have:=VOk.le a1
  have:=i.1
  refine sR_ rfl (pp1 1 41 rfl ?_)
  refine ie (A2 (W2 rfl (fun aq=>?_) (fun aq=>?_)))
  ·have aj:=bq_ aq
   rw [Y3 [] (show e<fR.length by omega)] at hR;replace hR:=(K3.eq_2 ..).symm.trans hR
   refine A3 (nx (A2 (A8 (sR_ rfl (N2 10 rfl (by have:=b.1;omega) fun bo al=>(M8 (V2 (k:=e) (d:=(⟨none,0,0⟩:Slc)) b 11 rfl (by have:=b.1;omega)) ?_))))))
   have:=U7 b (k:=e) (d:=(⟨none,0,0⟩:Slc)) (by have:=b.1;omega)
   refine ix rfl (F7 A8c rfl rfl al rfl e rfl opx) (ix rfl (H2 (D8 (v:=.slice ((fZ.getD e (⟨none,0,0⟩:Slc)).q) ((fZ.getD e (⟨none,0,0⟩:Slc)).n) ((fZ.getD e (⟨none,0,0⟩:Slc)).k)) (us:=[.slice ((fZ.getD e (⟨none,0,0⟩:Slc)).q) ((fZ.getD e (⟨none,0,0⟩:Slc)).n) ((fZ.getD e (⟨none,0,0⟩:Slc)).k)]) A6h rfl rfl (H5 (c:=E4) (sz:=1) al (fun _=>rfl) 11 rfl (gd (⟨none,0,0⟩:Slc) (by have:=b.1;omega))) rfl) (Y2 b (by have:=b.1;omega))) (pp1 1 8 rfl (ie (A0 8 rfl (zrl 4 4 [0] [(45,.slice (va a.q) sAlt.length a.k),(47,ag [.slice ((fZ.getD e (⟨none,0,0⟩:Slc)).q) ((fR.getD e []).length) ((fZ.getD e (⟨none,0,0⟩:Slc)).k),bv false])] (it rfl (G2 (c:=B5) (xs:=([⟨⟨(fZ.getD e (⟨none,0,0⟩:Slc)).q,(fR.getD e []).length,(fZ.getD e (⟨none,0,0⟩:Slc)).k⟩,false⟩]:List Rwq)) A1s rfl rfl rfl oki) fun bm=>?_))))))
   have a9:B4 ([⟨⟨(fZ.getD e (⟨none,0,0⟩:Slc)).q,(fR.getD e []).length,(fZ.getD e (⟨none,0,0⟩:Slc)).k⟩,false⟩]:List Rwq) ([⟨(fR.getD e []),false⟩]:List (Rwc Cel)):=(B4.cons ⟨ooy,oml,oml⟩ rfl B4.none)
   refine M8 (q:=B7 B1 ([⟨⟨(fZ.getD e (⟨none,0,0⟩:Slc)).q,(fR.getD e []).length,(fZ.getD e (⟨none,0,0⟩:Slc)).k⟩,false⟩]:List Rwq) ([⟨(fR.getD e []),false⟩]:List (Rwc Cel))) (D1y (D4 1 rfl) A7g) ?_
   have:([⟨⟨(fZ.getD e (⟨none,0,0⟩:Slc)).q,(fR.getD e []).length,(fZ.getD e (⟨none,0,0⟩:Slc)).k⟩,false⟩]:List Rwq).length=1:=rfl
   have ay:B4 (sAltrs++([⟨⟨(fZ.getD e (⟨none,0,0⟩:Slc)).q,(fR.getD e []).length,(fZ.getD e (⟨none,0,0⟩:Slc)).k⟩,false⟩]:List Rwq)) (sAlt++([⟨(fR.getD e []),false⟩]:List (Rwc Cel))):=B4.append i a9
   refine it rfl (C5z (r:=a) (rs:=sAltrs) (xss:=sAlt) (pre:=[bx h (B3 g.1 ⟨j,g.2.1.length,p⟩ ⟨va a.q,sAlt.length,a.k⟩ ⟨none,0,0⟩ ⟨l,g.2.2.2.1.length,o⟩) 52,bx z (B3 ScrC.zero ⟨none,0,0⟩ ⟨none,0,0⟩ ⟨none,0,0⟩ ⟨none,0,0⟩) 52,bx w (B0 f ⟨y,fR.length,fK⟩) 26]) (post:=[]) C1k rfl rfl rfl rfl rfl rfl rfl rfl rfl (D4 1 rfl) (D4 17 rfl) (D4 0 rfl) i a9 a1 ojq ojq) fun ⟨ah,ae⟩=>?_
   have:=VOk.le ae
   have:=VOk.cap ae
   have:([⟨(fR.getD e []),false⟩]:List (Rwc Cel)).length=1:=rfl
   have:(sAlt++([⟨(fR.getD e []),false⟩]:List (Rwc Cel))).length=sAlt.length+1:=List.length_append
   refine zrg 2 0 [0] [] (bx h (B3 g.1 ⟨j,g.2.1.length,p⟩ ⟨va ah.q,(sAlt++([⟨(fR.getD e []),false⟩]:List (Rwc Cel))).length,ah.k⟩ ⟨none,0,0⟩ ⟨l,g.2.2.2.1.length,o⟩) 52::bx z (B3 ScrC.zero ⟨none,0,0⟩ ⟨none,0,0⟩ ⟨none,0,0⟩ ⟨none,0,0⟩) 52::bx w (B0 f ⟨y,fR.length,fK⟩) 26::((vo B5 72 ah (sAltrs++([⟨⟨(fZ.getD e (⟨none,0,0⟩:Slc)).q,(fR.getD e []).length,(fZ.getD e (⟨none,0,0⟩:Slc)).k⟩,false⟩]:List Rwq)))++([]))) (A1 (nx (A0 2 rfl (ix rfl (A9 rfl rfl rfl rfl opx) (pp1 1 40 rfl (A1 ?_))))))
   exact A0y (z1:=(e,sAlt,a,sAltrs)) (e+1,(sAlt++([⟨(fR.getD e []),false⟩]:List (Rwc Cel))),ah,(sAltrs++([⟨⟨(fZ.getD e (⟨none,0,0⟩:Slc)).q,(fR.getD e []).length,(fZ.getD e (⟨none,0,0⟩:Slc)).k⟩,false⟩]:List Rwq))) ⟨opx,hR,ae,ay,(by (simp only [List.length_append,List.length_cons,List.length_nil];omega))⟩ olr sb_ fo_
  have aj:=bq_ aq
  rw [Y4 aj] at hR;replace hR:=(K3.eq_1 ..).symm.trans hR
  refine F6 (nx (sR_ rfl (zrg 9 0 [2,2,0] [] (bx h (B3 ({g.1 with cursor:={Cur.zero with row:=f.cursor.row,col:=f.cursor.col}}) ⟨j,g.2.1.length,p⟩ ⟨va a.q,sAlt.length,a.k⟩ ⟨none,0,0⟩ ⟨l,g.2.2.2.1.length,o⟩) 52::bx z (B3 ScrC.zero ⟨none,0,0⟩ ⟨none,0,0⟩ ⟨none,0,0⟩ ⟨none,0,0⟩) 52::bx w (B0 f ⟨y,fR.length,fK⟩) 26::((vo B5 72 a sAltrs)++([]))) ?_)))
  refine ie ?_
  refine sh 13 [(8,[bx h (B3 ({g.1 with cursor:={Cur.zero with row:=f.cursor.row,col:=f.cursor.col}}) ⟨j,g.2.1.length,p⟩ ⟨va a.q,sAlt.length,a.k⟩ ⟨none,0,0⟩ ⟨l,g.2.2.2.1.length,o⟩) 52]),(13,[bx z (B3 ScrC.zero ⟨none,0,0⟩ ⟨none,0,0⟩ ⟨none,0,0⟩ ⟨none,0,0⟩) 52]),(13,[bx w (B0 f ⟨y,fR.length,fK⟩) 26]),(13,vo B5 72 a sAltrs)] [sl B5 j aa,B7 B1 aa g.2.1,sl B5 ai ac,B7 B1 ac g.2.2.1,sl H4 l g.2.2.2.1,sl H4 (va s.q) u.2.2.2.1,sl B5 (va r9.q) a2,sl B5 (va r4.q) ab,B7 B1 ab u.2.1,B7 B1 a2 u.2.2.1,sl E4 y fZ,D3 B1 fZ fR,O9,P0,B7 B1 sAltrs sAlt] (bx h (B3 ({g.1 with cursor:={Cur.zero with row:=f.cursor.row,col:=f.cursor.col}}) ⟨j,g.2.1.length,p⟩ ⟨va a.q,sAlt.length,a.k⟩ ⟨none,0,0⟩ ⟨l,g.2.2.2.1.length,o⟩) 52::bx z (B3 ScrC.zero ⟨none,0,0⟩ ⟨none,0,0⟩ ⟨none,0,0⟩ ⟨none,0,0⟩) 52::bx w (B0 f ⟨y,fR.length,fK⟩) 26::((vo B5 72 a sAltrs)++([]))) (zml 13 0) oki rfl oki oki oki sb_ A5.refl ?_
  refine zhp [0,2,4] 10 (zml 13 21) [(60,pt w 4),(62,pt w 5),(64,pt w 6)] ?_
  refine zhl 1 (bx h (B3 ({g.1 with cursor:={Cur.zero with row:=f.cursor.row,col:=f.cursor.col}}) ⟨j,g.2.1.length,p⟩ ⟨va a.q,sAlt.length,a.k⟩ ⟨none,0,0⟩ ⟨l,g.2.2.2.1.length,o⟩) 52::bx z (B3 ScrC.zero ⟨none,0,0⟩ ⟨none,0,0⟩ ⟨none,0,0⟩ ⟨none,0,0⟩) 52::bx w (B0 f ⟨y,fR.length,fK⟩) 26::((vo B5 72 a sAltrs)++([]))) (zml 13 23) rfl (A7 (v:=bv f.visible) ty4 rfl rfl 2 rfl rfl) ?_
  refine zhp [6,7] 7 (zml 13 215) [(67,pt h 29)] ?_
  refine zhl 3 (bx z (B3 ScrC.zero ⟨none,0,0⟩ ⟨none,0,0⟩ ⟨none,0,0⟩ ⟨none,0,0⟩) 52::bx w (B0 f ⟨y,fR.length,fK⟩) 26::((vo B5 72 a sAltrs)++([]))) (zml 13 223) rfl (A7 (v:=iv f.shape) ty3 rfl rfl 1 rfl rfl) ?_
  refine zhl 5 (bx z (B3 ScrC.zero ⟨none,0,0⟩ ⟨none,0,0⟩ ⟨none,0,0⟩ ⟨none,0,0⟩) 52::bx w (B0 f ⟨y,fR.length,fK⟩) 26::((vo B5 72 a sAltrs)++([]))) (zml 13 255) rfl (A7 (v:=sv f.title) ty9 rfl rfl 1 rfl rfl) ?_
  refine zho 8 (bx z (B3 ScrC.zero ⟨none,0,0⟩ ⟨none,0,0⟩ ⟨none,0,0⟩ ⟨none,0,0⟩) 52::bx w (B0 f ⟨y,fR.length,fK⟩) 26::((vo B5 72 a sAltrs)++([]))) (zml 13 511) rfl (D0 (us:=[bv f.visible]) (cs':=B3 ({g.1 with cursor:={Cur.zero with row:=f.cursor.row,col:=f.cursor.col},modes:={g.1.modes with visible:=f.visible}}) ⟨j,g.2.1.length,p⟩ ⟨va a.q,sAlt.length,a.k⟩ ⟨none,0,0⟩ ⟨l,g.2.2.2.1.length,o⟩) ty4 rfl rfl rfl 0 rfl rfl rfl rfl rfl rfl) (fun _=>sb_) (fun _=>A5.refl) fun _=>?_
  refine zhp [9] 3 (zml 13 1023) [(68,pt h 77)] ?_
  refine zho 10 (bx z (B3 ScrC.zero ⟨none,0,0⟩ ⟨none,0,0⟩ ⟨none,0,0⟩ ⟨none,0,0⟩) 52::bx w (B0 f ⟨y,fR.length,fK⟩) 26::((vo B5 72 a sAltrs)++([]))) (zml 13 2047) rfl (D0 (us:=[iv f.shape]) (cs':=B3 ({g.1 with cursor:={Cur.zero with row:=f.cursor.row,col:=f.cursor.col},modes:={g.1.modes with visible:=f.visible},shape:=f.shape}) ⟨j,g.2.1.length,p⟩ ⟨va a.q,sAlt.length,a.k⟩ ⟨none,0,0⟩ ⟨l,g.2.2.2.1.length,o⟩) ty3 rfl rfl rfl 0 rfl rfl rfl rfl rfl rfl) (fun _=>sb_) (fun _=>A5.refl) fun _=>?_
  refine zhp [11] 1 (zml 13 4095) [(69,pt h 78)] ?_
  refine zho 12 (bx z (B3 ScrC.zero ⟨none,0,0⟩ ⟨none,0,0⟩ ⟨none,0,0⟩ ⟨none,0,0⟩) 52::bx w (B0 f ⟨y,fR.length,fK⟩) 26::((vo B5 72 a sAltrs)++([]))) (zml 13 8191) rfl (D0 (us:=[sv f.title]) (cs':=B3 ({g.1 with cursor:={Cur.zero with row:=f.cursor.row,col:=f.cursor.col},modes:={g.1.modes with visible:=f.visible},shape:=f.shape,title:=f.title}) ⟨j,g.2.1.length,p⟩ ⟨va a.q,sAlt.length,a.k⟩ ⟨none,0,0⟩ ⟨l,g.2.2.2.1.length,o⟩) ty9 rfl rfl rfl 0 rfl rfl rfl rfl rfl rfl) (fun _=>sb_) (fun _=>A5.refl) fun _=>?_
  refine P4 oki ?_
  refine sR_ rfl (zrg 3 0 [0,1] [(3,iv 0)] (bx h (B3 ({g.1 with cursor:={Cur.zero with row:=f.cursor.row,col:=f.cursor.col},modes:={g.1.modes with visible:=f.visible},shape:=f.shape,title:=f.title}) ⟨j,g.2.1.length,p⟩ ⟨va a.q,sAlt.length,a.k⟩ ⟨none,0,0⟩ ⟨l,g.2.2.2.1.length,o⟩) 52::bx z (B3 ({g.1 with cursor:={Cur.zero with row:=f.cursor.row,col:=f.cursor.col},modes:={g.1.modes with visible:=f.visible},shape:=f.shape,title:=f.title}) ⟨j,g.2.1.length,p⟩ ⟨va a.q,sAlt.length,a.k⟩ ⟨none,0,0⟩ ⟨l,g.2.2.2.1.length,o⟩) 52::bx w (B0 f ⟨y,fR.length,fK⟩) 26::((vo B5 72 a sAltrs)++([]))) ?_)
  subst hR
  refine ie (A6 ?_)
  exact zer hr hD (V1 rfl (P7 (us:=B3 ({g.1 with cursor:={Cur.zero with row:=f.cursor.row,col:=f.cursor.col},modes:={g.1.modes with visible:=f.visible},shape:=f.shape,title:=f.title}) ⟨j,g.2.1.length,p⟩ ⟨va a.q,sAlt.length,a.k⟩ ⟨none,0,0⟩ ⟨l,g.2.2.2.1.length,o⟩) A9j rfl 1 rfl rfl) (A4 rfl)) (⟨(j,aa,p),⟨ak,oml,oml⟩⟩,⟨(a,sAltrs),⟨a1,i⟩⟩,(zq l o)) sb_ fo_
 refine A3 (nx (A2 (sR_ rfl (pp1 2 33 rfl ?_))))
 refine ie (W2 rfl (fun ap=>?_) (fun ap=>?_))
 ·have b3:=bq_ ap
  refine sR_ rfl (zrg 4 0 [1] [(3,iv u.2.2.2.2)] (bx h (B3 u.1 ⟨va r4.q,u.2.1.length,r4.k⟩ ⟨va r9.q,u.2.2.1.length,r9.k⟩ ⟨none,0,0⟩ ⟨va s.q,u.2.2.2.1.length,s.k⟩) 52::bx z (B3 ScrC.zero ⟨none,0,0⟩ ⟨none,0,0⟩ ⟨none,0,0⟩ ⟨none,0,0⟩) 52::bx w (B0 f ⟨y,fR.length,fK⟩) 26::((vo B5 72 r4 ab)++((vo B5 72 r9 a2)++((vo H4 4 s u.2.2.2.1)++([]))))) ?_)
  subst hR
  refine ie (A6 ?_)
  exact zer hr hD (V1 rfl (P7 (us:=B3 ScrC.zero ⟨none,0,0⟩ ⟨none,0,0⟩ ⟨none,0,0⟩ ⟨none,0,0⟩) A9j rfl 1 rfl rfl) (A4 rfl)) (⟨(none,[],0),⟨B4.none,oml,oml⟩⟩,⟨(VR.nil,([]:List Rwq)),⟨VOk.nil,B4.none⟩⟩,(zq none 0)) sb_ fo_
 have b3:=bq_ ap
 exfalso;omega
end Go.Proofs.YtkdgfkfbljdgmaaGreatDoor
