import Derived.Test.YthcjfkljekdioaaGreatDoorProg
import Derived.Test.YthcjfkljekdioaaGreatDoorMA2
import Derived.Test.YthcjfkljekdioaaGreatDoorMB1
import Derived.Test.YthcjfkljekdioaaGreatDoorMB2
set_option linter.unusedVariables false
set_option linter.unusedSimpArgs false
set_option linter.unnecessarySimpa false
set_option maxRecDepth 100000
namespace Go.Proofs.YthcjfkljekdioaaGreatDoor
open Go Go.Fen
theorem C8d:EqT Tryz.prog 50 A3i:=EqT.of 20 rfl (by kernel_rfl) (by kernel_rfl) (fun _ _=>by kernel_rfl) A3i.inj
theorem C4n:Ty Tryz.prog 150 5 true:=⟨by kernel_rfl⟩
def A1w (s:ScrC) (sMain:List (Rwc Cel)) (sAlt:List (Rwc Cel)) (sPast:List (Rwc Cel)) (sTabs:List Bool):Int×Int×Int×Int×Bool :=
 (s.rows,s.cols,s.top,s.bottom,s.modes.origin)
def K9 (fR:Int) (fC:Int) (fTop:Int) (fBottom:Int) (fOrigin:Bool):Int :=
 (bif (((!((((decide ((1:Int)≤fR))&&(decide (fR≤40)))&&(decide ((2:Int)≤fC)))&&(decide (fC≤80))))||(!(((decide ((0:Int)≤fTop))&&(decide (fBottom<fR)))&&((decide (fTop<fBottom))||((decide (fTop=0))&&(decide (fR=1)))))))||(decide (fBottom<fTop))) then 270 else 0)
theorem A5e (fR:Int) (fC:Int) (fTop:Int) (fBottom:Int) (fOrigin:Bool) (R:Int) (hR:K9 fR fC fTop fBottom fOrigin=R):M9 Tryz.prog 166 [ag [iv fR,iv fC,iv fTop,iv fBottom,bv fOrigin]] [] (iv R):=by
 refine zco Tryz.func166 [(0,ag [iv fR,iv fC,iv fTop,iv fBottom,bv fOrigin])] fun X hX hr hD=>?_
 replace hR:=(K9.eq_1 ..).symm.trans hR
 refine sr 2 rfl (K6 2 0 [] (fun b1=>[(1,pt b1 0)]) (fun b1=>[bx b1 [iv fR,iv fC,iv fTop,iv fBottom,bv fOrigin] 150]) (fun b1=>?_))
 refine ie (sr 19 rfl (zrl 4 15 [0] [(8,bv (decide ((1:Int)≤fR)))] ?_))
 refine zid 4 11 8 12 (decide (fR≤40)) (fun g2 g2p=>?_) ?_
 ·refine zrl 4 0 [0] [(12,bv (decide (fR≤40)))] ?_
  exact A6 (M7 2 8 12 g2 fn0 (mk [true] rfl) rfl rfl rfl rfl rfl)
 refine ip' 1 10 [(13,bv ((decide ((1:Int)≤fR))&&(decide (fR≤40))))] ?_
 refine zia 4 6 13 17 (decide ((2:Int)≤fC)) (fun g3=>?_) ?_
 ·have g3p:((1:Int)≤fR)∧(fR≤40):=by simpa using g3
  refine zrl 4 0 [0] [(17,bv (decide ((2:Int)≤fC)))] ?_
  exact A6 (M7 2 13 17 g3 fn0 (mk [true] rfl) rfl rfl rfl rfl rfl)
 refine ip' 1 5 [(18,bv (((decide ((1:Int)≤fR))&&(decide (fR≤40)))&&(decide ((2:Int)≤fC))))] ?_
 refine zia 4 1 18 22 (decide (fC≤80)) (fun g4=>?_) ?_
 ·have g4p:(((1:Int)≤fR)∧(fR≤40))∧((2:Int)≤fC):=by simpa using g4
  refine zrl 4 0 [0] [(22,bv (decide (fC≤80)))] ?_
  exact A6 (M7 2 18 22 g4 fn0 (mk [true] rfl) rfl rfl rfl rfl rfl)
 refine ip' 1 0 [(3,bv ((((decide ((1:Int)≤fR))&&(decide (fR≤40)))&&(decide ((2:Int)≤fC)))&&(decide (fC≤80))))] ?_
 refine ie (sr 28 rfl (zrl 4 24 [0] [(26,bv (decide ((0:Int)≤fTop)))] ?_))
 refine zid 6 18 26 32 (decide (fBottom<fR)) (fun g5 g5p=>?_) ?_
 ·refine zrl 6 0 [0,0] [(32,bv (decide (fBottom<fR)))] ?_
  exact A6 (M7 2 26 32 g5 fn0 (mk [true] rfl) rfl rfl rfl rfl rfl)
 refine ip' 1 17 [(33,bv ((decide ((0:Int)≤fTop))&&(decide (fBottom<fR))))] ?_
 refine zia 16 1 33 49 ((decide (fTop<fBottom))||((decide (fTop=0))&&(decide (fR=1)))) (fun g6=>?_) ?_
 ·have g6p:((0:Int)≤fTop)∧(fBottom<fR):=by simpa using g6
  refine zrl 6 10 [0,0] [(39,bv (decide (fTop<fBottom)))] ?_
  refine zir 9 1 39 48 ((decide (fTop=0))&&(decide (fR=1))) (fun g7 g7p=>?_) ?_
  ·refine zrl 4 5 [0] [(43,bv (decide (fTop=0)))] ?_
   refine zid 4 1 43 47 (decide (fR=1)) (fun g8 g8p=>?_) ?_
   ·refine zrl 4 0 [0] [(47,bv (decide (fR=1)))] ?_
    exact A6 (M7 2 43 47 g8 fn0 (mk [true] rfl) rfl rfl rfl rfl rfl)
   refine ip' 1 0 [(48,bv ((decide (fTop=0))&&(decide (fR=1))))] ?_
   exact A6 (M7 4 39 48 g7 fn0 (mk [true] rfl) rfl rfl rfl rfl rfl)
  refine ip' 1 0 [(49,bv ((decide (fTop<fBottom))||((decide (fTop=0))&&(decide (fR=1)))))] ?_
  exact A6 (M7 4 33 49 g6 fn0 (mk [true] rfl) rfl rfl rfl rfl rfl)
 refine ip' 1 0 [(4,bv (((decide ((0:Int)≤fTop))&&(decide (fBottom<fR)))&&((decide (fTop<fBottom))||((decide (fTop=0))&&(decide (fR=1))))))] ?_
 refine ie (A4 (sr 13 rfl (ip' 3 10 [(52,bv (!((((decide ((1:Int)≤fR))&&(decide (fR≤40)))&&(decide ((2:Int)≤fC)))&&(decide (fC≤80)))))] ?_)))
 refine zio 3 7 52 55 (!(((decide ((0:Int)≤fTop))&&(decide (fBottom<fR)))&&((decide (fTop<fBottom))||((decide (fTop=0))&&(decide (fR=1)))))) (fun g9=>?_) ?_
 ·have g9p:¬ (¬ (((((1:Int)≤fR)∧(fR≤40))∧((2:Int)≤fC))∧(fC≤80))):=by first|simpa using g9|(simp at g9 ⊢;omega)
  refine ip' 3 0 [(55,bv (!(((decide ((0:Int)≤fTop))&&(decide (fBottom<fR)))&&((decide (fTop<fBottom))||((decide (fTop=0))&&(decide (fR=1)))))))] ?_
  exact A6 (M7 2 52 55 g9 fn0 (mk [true] rfl) rfl rfl rfl rfl rfl)
 refine ip' 1 6 [(56,bv ((!((((decide ((1:Int)≤fR))&&(decide (fR≤40)))&&(decide ((2:Int)≤fC)))&&(decide (fC≤80))))||(!(((decide ((0:Int)≤fTop))&&(decide (fBottom<fR)))&&((decide (fTop<fBottom))||((decide (fTop=0))&&(decide (fR=1))))))))] ?_
 refine zio 6 0 56 62 (decide (fBottom<fTop)) (fun g10=>?_) ?_
 ·have g10p:¬ ((¬ (((((1:Int)≤fR)∧(fR≤40))∧((2:Int)≤fC))∧(fC≤80)))∨(¬ ((((0:Int)≤fTop)∧(fBottom<fR))∧((fTop<fBottom)∨((fTop=0)∧(fR=1)))))):=by first|simpa using g10|(simp at g10 ⊢;omega)
  refine zrl 6 0 [0,0] [(62,bv (decide (fBottom<fTop)))] ?_
  exact A6 (M7 2 56 62 g10 fn0 (mk [true] rfl) rfl rfl rfl rfl rfl)
 refine ie ?_
 refine zjb rfl hR ?_ ?_<;>clear hR<;>intro hR h11
 ·have h11p:((¬ (((((1:Int)≤fR)∧(fR≤40))∧((2:Int)≤fC))∧(fC≤80)))∨(¬ ((((0:Int)≤fTop)∧(fBottom<fR))∧((fTop<fBottom)∨((fTop=0)∧(fR=1))))))∨(fBottom<fTop):=by first|simpa using h11|(simp at h11 ⊢;omega)
  refine sr 1 rfl (ip' 1 0 [(2,iv 270)] ?_)
  subst hR
  refine ie (B4 ?_)
  exact F8 hr hD
 have h11p:¬ (((¬ (((((1:Int)≤fR)∧(fR≤40))∧((2:Int)≤fC))∧(fC≤80)))∨(¬ ((((0:Int)≤fTop)∧(fBottom<fR))∧((fTop<fBottom)∨((fTop=0)∧(fR=1))))))∨(fBottom<fTop)):=by first|simpa using h11|(simp at h11 ⊢;omega)
 refine A8 (nx (sr 1 rfl (ip' 1 0 [(2,iv 0)] ?_)))
 subst hR
 refine ie (B4 ?_)
 exact F8 hr hD
def V0 (n:Int) (from_:Int) (to_:Int):Int :=
 (if (if to_<n then to_ else n) > from_ then (if to_<n then to_ else n) else from_)
theorem A5d (n:Int) (from_:Int) (to_:Int) (R:Int) (hR:V0 n from_ to_=R):M9 Tryz.prog 250 [iv n,iv from_,iv to_] [] (iv R):=by
 refine zco Tryz.func250 [(0,iv n),(1,iv from_),(2,iv to_)] fun X hX hr hD=>?_
 replace hR:=(V0.eq_1 ..).symm.trans hR
 refine sr 1 rfl (ip' 1 0 [] ?_)
 refine ie (sr 6 rfl (ip' 6 0 [(6,iv (if (if to_<n then to_ else n) > from_ then (if to_<n then to_ else n) else from_))] ?_))
 subst hR
 refine ie (B4 ?_)
 exact F8 hr hD
def N2 (fR:Int) (fC:Int) (fTop:Int) (fBottom:Int) (fOrigin:Bool) (n:Int):Int :=
 (V0 n 0 (IntKind.i64.wrap (fR - (1:Int))))
theorem A6p (fR:Int) (fC:Int) (fTop:Int) (fBottom:Int) (fOrigin:Bool) (n:Int) (R:Int) (hR:N2 fR fC fTop fBottom fOrigin n=R):M9 Tryz.prog 167 [ag [iv fR,iv fC,iv fTop,iv fBottom,bv fOrigin],iv n] [] (iv R):=by
 refine zco Tryz.func167 [(0,ag [iv fR,iv fC,iv fTop,iv fBottom,bv fOrigin]),(1,iv n)] fun X hX hr hD=>?_
 replace hR:=(N2.eq_1 ..).symm.trans hR
 refine sr 2 rfl (K6 2 0 [] (fun b1=>[(2,pt b1 0)]) (fun b1=>[bx b1 [iv fR,iv fC,iv fTop,iv fBottom,bv fOrigin] 150]) (fun b1=>?_))
 refine ie (sr 6 rfl (zrl 3 3 [0] [(5,iv n),(7,iv fR)] ?_))
 refine ix rfl (I9.pure rfl) ?_
 refine zca (A5d n 0 (IntKind.i64.wrap (fR - (1:Int))) _ rfl) fn0 ?_
 refine ip' 1 0 [(4,iv (V0 n 0 (IntKind.i64.wrap (fR - (1:Int)))))] ?_
 subst hR
 refine ie (B4 ?_)
 exact F8 hr hD
def N3 (fR:Int) (fC:Int) (fTop:Int) (fBottom:Int) (fOrigin:Bool) (n:Int):Int :=
 (V0 n 0 (IntKind.i64.wrap (fC - (1:Int))))
theorem A6s (fR:Int) (fC:Int) (fTop:Int) (fBottom:Int) (fOrigin:Bool) (n:Int) (R:Int) (hR:N3 fR fC fTop fBottom fOrigin n=R):M9 Tryz.prog 168 [ag [iv fR,iv fC,iv fTop,iv fBottom,bv fOrigin],iv n] [] (iv R):=by
 refine zco Tryz.func168 [(0,ag [iv fR,iv fC,iv fTop,iv fBottom,bv fOrigin]),(1,iv n)] fun X hX hr hD=>?_
 replace hR:=(N3.eq_1 ..).symm.trans hR
 refine sr 2 rfl (K6 2 0 [] (fun b1=>[(2,pt b1 0)]) (fun b1=>[bx b1 [iv fR,iv fC,iv fTop,iv fBottom,bv fOrigin] 150]) (fun b1=>?_))
 refine ie (sr 6 rfl (zrl 3 3 [0] [(5,iv n),(7,iv fC)] ?_))
 refine ix rfl (I9.pure rfl) ?_
 refine zca (A5d n 0 (IntKind.i64.wrap (fC - (1:Int))) _ rfl) fn0 ?_
 refine ip' 1 0 [(4,iv (V0 n 0 (IntKind.i64.wrap (fC - (1:Int)))))] ?_
 subst hR
 refine ie (B4 ?_)
 exact F8 hr hD
def G2 (fR:Int) (fC:Int) (fTop:Int) (fBottom:Int) (fOrigin:Bool) (c:Cur):Int :=
 (bif (!decide ((K9 fR fC fTop fBottom fOrigin)=0)) then (K9 fR fC fTop fBottom fOrigin) else (bif (((!decide (c.row=(N2 fR fC fTop fBottom fOrigin c.row)))||(!decide (c.col=(N3 fR fC fTop fBottom fOrigin c.col))))||(c.wrap&&(decide (c.col<(IntKind.i64.wrap (fC - (1:Int))))))) then 271 else 0))
theorem A3e (fR:Int) (fC:Int) (fTop:Int) (fBottom:Int) (fOrigin:Bool) (c:Cur) (R:Int) (hR:G2 fR fC fTop fBottom fOrigin c=R):M9 Tryz.prog 103 [ag [iv fR,iv fC,iv fTop,iv fBottom,bv fOrigin],ag (A5i c)] [] (iv R):=by
 refine zco Tryz.func103 [(0,ag [iv fR,iv fC,iv fTop,iv fBottom,bv fOrigin]),(1,ag (A5i c))] fun X hX hr hD=>?_
 replace hR:=(G2.eq_1 ..).symm.trans hR
 refine sr 3 rfl (B1l 3 0 [] (fun b1 b2=>[(2,pt b1 0),(3,pt b2 0)]) (fun b1 b2=>[bx b2 (A5i c) 38,bx b1 [iv fR,iv fC,iv fTop,iv fBottom,bv fOrigin] 150]) (fun b1 b2=>?_))
 refine ie (A4 (sr 3 rfl (zrl 1 2 [1] [(6,ag [iv fR,iv fC,iv fTop,iv fBottom,bv fOrigin])] ?_)))
 refine zca (A5e fR fC fTop fBottom fOrigin _ rfl) fn0 ?_
 refine ip' 1 0 [(5,iv (K9 fR fC fTop fBottom fOrigin))] ?_
 refine ie (sr 2 rfl (ip' 2 0 [(9,bv (!decide ((K9 fR fC fTop fBottom fOrigin)=0)))] ?_))
 refine ie ?_
 refine zjn rfl hR ?_ ?_<;>clear hR<;>intro hR h3 h3p
 ·refine sr 2 rfl (ip' 2 0 [(4,iv (K9 fR fC fTop fBottom fOrigin))] ?_)
  subst hR
  refine ie (B4 ?_)
  exact F8 hr hD
 refine A8 (nx (A4 (sd 28 rfl (by kernel_rfl) rfl ?_)))
 refine zdg 5 23 [0,1,0] [(12,iv c.row),(13,ag [iv fR,iv fC,iv fTop,iv fBottom,bv fOrigin]),(15,iv c.row)] ?_
 refine zcd (A6p fR fC fTop fBottom fOrigin c.row _ rfl) fn0 ?_
 refine dp' 2 20 [(18,bv (!decide (c.row=(N2 fR fC fTop fBottom fOrigin c.row))))] ?_
 refine zdO 8 12 18 26 (!decide (c.col=(N3 fR fC fTop fBottom fOrigin c.col))) (fun g4=>?_) ?_
 ·have g4p:¬ (¬ c.row=(N2 fR fC fTop fBottom fOrigin c.row)):=by simpa using g4
  refine zdg 5 3 [0,1,0] [(20,iv c.col),(21,ag [iv fR,iv fC,iv fTop,iv fBottom,bv fOrigin]),(23,iv c.col)] ?_
  refine zcd (A6s fR fC fTop fBottom fOrigin c.col _ rfl) fn0 ?_
  refine dp' 2 0 [(26,bv (!decide (c.col=(N3 fR fC fTop fBottom fOrigin c.col))))] ?_
  exact zad 6 18 26 g4
 refine dp' 1 11 [(27,bv ((!decide (c.row=(N2 fR fC fTop fBottom fOrigin c.row)))||(!decide (c.col=(N3 fR fC fTop fBottom fOrigin c.col)))))] ?_
 refine zdO 11 0 27 38 (c.wrap&&(decide (c.col<(IntKind.i64.wrap (fC - (1:Int)))))) (fun g5=>?_) ?_
 ·have g5p:¬ ((¬ c.row=(N2 fR fC fTop fBottom fOrigin c.row))∨(¬ c.col=(N3 fR fC fTop fBottom fOrigin c.col))):=by simpa using g5
  refine zdg 3 8 [0] [(30,bv c.wrap)] ?_
  refine zda 7 1 30 37 (decide (c.col<(IntKind.i64.wrap (fC - (1:Int))))) (fun g6=>?_) ?_
  ·refine zdg 4 3 [0,1] [(32,iv c.col),(34,iv fC)] ?_
   refine dd rfl (I9.pure rfl) ?_
   refine dp' 2 0 [(37,bv (decide (c.col<(IntKind.i64.wrap (fC - (1:Int))))))] ?_
   exact zad 5 30 37 g6
  refine dp' 1 0 [(38,bv (c.wrap&&(decide (c.col<(IntKind.i64.wrap (fC - (1:Int)))))))] ?_
  exact zad 4 27 38 g5
 refine de ?_
 refine zjb rfl hR ?_ ?_<;>clear hR<;>intro hR h7
 ·have h7p:=h7;try simp only [Bool.and_eq_true,Bool.or_eq_true,Bool.and_eq_false_iff,Bool.or_eq_false_iff,Bool.not_eq_true',Bool.not_eq_false',decide_eq_true_eq,decide_eq_false_iff_not] at h7p
  refine sr 1 rfl (ip' 1 0 [(4,iv 271)] ?_)
  subst hR
  refine ie (B4 ?_)
  exact F8 hr hD
 have h7p:=h7;try simp only [Bool.and_eq_true,Bool.or_eq_true,Bool.and_eq_false_iff,Bool.or_eq_false_iff,Bool.not_eq_true',Bool.not_eq_false',decide_eq_true_eq,decide_eq_false_iff_not] at h7p
 refine A8 (nx (sr 1 rfl (ip' 1 0 [(4,iv 0)] ?_)))
 subst hR
 refine ie (B4 ?_)
 exact F8 hr hD
def L4 (s:Sts):Int :=
 (bif ((!decide (s.g.a=0))&&(!decide (s.g.a=1))) then 250 else (bif ((!decide (s.g.b=0))&&(!decide (s.g.b=1))) then 250 else (bif ((!decide (s.g.c=0))&&(!decide (s.g.c=1))) then 250 else (bif ((!decide (s.g.d=0))&&(!decide (s.g.d=1))) then 250 else (bif ((!decide ((bOp .andNot .i64 s.used 1)=0))||(((!decide (s.once=0))&&(!decide (s.once=2)))&&(!decide (s.once=3)))) then 250 else 0)))))
theorem A7y (s:Sts) (R:Int) (hR:L4 s=R):M9 Tryz.prog 108 [ag (A4q s)] [] (iv R):=by
 refine zco Tryz.func108 [(0,ag (A4q s))] fun X hX hr hD=>?_
 replace hR:=(L4.eq_1 ..).symm.trans hR
 refine sr 2 rfl (K6 2 0 [] (fun b1=>[(1,pt b1 0)]) (fun b1=>[bx b1 (A4q s) 45]) (fun b1=>?_))
 refine ie (A4 (sr 3 rfl (zrl 3 0 [0] [(6,ag (B5q s.g)),(7,iv 0)] ?_)))
 refine ie (A9 (P8 6 ?_))
 refine D8 (sr 1 rfl (ip' 1 0 [(8,bv true)] ?_))
 refine ie (A4 (I0 rfl (A8 (nx (A4 (A9 (sr 2 rfl (ix rfl (D7 (v:=iv s.g.a) (us:=[iv s.g.a]) Tryz.underlying43 ty3 rfl rfl rfl 0 rfl (by decide) rfl rfl rfl) ?_))))))))
 refine ip' 1 0 [(4,iv s.g.a)] ?_
 refine ie (sr 6 rfl (ip' 3 3 [(12,bv (!decide (s.g.a=0)))] ?_))
 refine zia 3 0 12 15 (!decide (s.g.a=1)) (fun g2=>?_) ?_
 ·have g2p:¬ s.g.a=0:=by simpa using g2
  refine ip' 3 0 [(15,bv (!decide (s.g.a=1)))] ?_
  exact A6 (M7 2 12 15 g2 fn0 (mk [true] rfl) rfl rfl rfl rfl rfl)
 refine ie ?_
 refine zjb rfl hR ?_ ?_<;>clear hR<;>intro hR h3
 ·have h3p:(¬ s.g.a=0)∧(¬ s.g.a=1):=by simpa using h3
  refine sr 1 rfl (ip' 1 0 [(2,iv 250)] ?_)
  subst hR
  refine ie (B4 ?_)
  exact F8 hr hD
 have h3p:¬ ((¬ s.g.a=0)∧(¬ s.g.a=1)):=by simpa using h3
 refine A8 (nx (A1 2 rfl (ix rfl (B0 (c:=1) rfl rfl rfl rfl (by decide)) ?_)))
 refine ip' 1 0 [(7,iv 1)] ?_
 refine A6 (D8 (sr 1 rfl (ip' 1 0 [(8,bv true)] ?_)))
 refine ie (A4 (I0 rfl (A8 (nx (A4 (A9 (sr 2 rfl (ix rfl (D7 (v:=iv s.g.b) (us:=[iv s.g.b]) Tryz.underlying43 ty3 rfl rfl rfl 1 rfl (by decide) rfl rfl rfl) ?_))))))))
 refine ip' 1 0 [(4,iv s.g.b)] ?_
 refine ie (sr 6 rfl (ip' 3 3 [(12,bv (!decide (s.g.b=0)))] ?_))
 refine zia 3 0 12 15 (!decide (s.g.b=1)) (fun g4=>?_) ?_
 ·have g4p:¬ s.g.b=0:=by simpa using g4
  refine ip' 3 0 [(15,bv (!decide (s.g.b=1)))] ?_
  exact A6 (M7 2 12 15 g4 fn0 (mk [true] rfl) rfl rfl rfl rfl rfl)
 refine ie ?_
 refine zjb rfl hR ?_ ?_<;>clear hR<;>intro hR h5
 ·have h5p:(¬ s.g.b=0)∧(¬ s.g.b=1):=by simpa using h5
  refine sr 1 rfl (ip' 1 0 [(2,iv 250)] ?_)
  subst hR
  refine ie (B4 ?_)
  exact F8 hr hD
 have h5p:¬ ((¬ s.g.b=0)∧(¬ s.g.b=1)):=by simpa using h5
 refine A8 (nx (A1 2 rfl (ix rfl (B0 (c:=2) rfl rfl rfl rfl (by decide)) ?_)))
 refine ip' 1 0 [(7,iv 2)] ?_
 refine A6 (D8 (sr 1 rfl (ip' 1 0 [(8,bv true)] ?_)))
 refine ie (A4 (I0 rfl (A8 (nx (A4 (A9 (sr 2 rfl (ix rfl (D7 (v:=iv s.g.c) (us:=[iv s.g.c]) Tryz.underlying43 ty3 rfl rfl rfl 2 rfl (by decide) rfl rfl rfl) ?_))))))))
 refine ip' 1 0 [(4,iv s.g.c)] ?_
 refine ie (sr 6 rfl (ip' 3 3 [(12,bv (!decide (s.g.c=0)))] ?_))
 refine zia 3 0 12 15 (!decide (s.g.c=1)) (fun g6=>?_) ?_
 ·have g6p:¬ s.g.c=0:=by simpa using g6
  refine ip' 3 0 [(15,bv (!decide (s.g.c=1)))] ?_
  exact A6 (M7 2 12 15 g6 fn0 (mk [true] rfl) rfl rfl rfl rfl rfl)
 refine ie ?_
 refine zjb rfl hR ?_ ?_<;>clear hR<;>intro hR h7
 ·have h7p:(¬ s.g.c=0)∧(¬ s.g.c=1):=by simpa using h7
  refine sr 1 rfl (ip' 1 0 [(2,iv 250)] ?_)
  subst hR
  refine ie (B4 ?_)
  exact F8 hr hD
 have h7p:¬ ((¬ s.g.c=0)∧(¬ s.g.c=1)):=by simpa using h7
 refine A8 (nx (A1 2 rfl (ix rfl (B0 (c:=3) rfl rfl rfl rfl (by decide)) ?_)))
 refine ip' 1 0 [(7,iv 3)] ?_
 refine A6 (D8 (sr 1 rfl (ip' 1 0 [(8,bv true)] ?_)))
 refine ie (A4 (I0 rfl (A8 (nx (A4 (A9 (sr 2 rfl (ix rfl (D7 (v:=iv s.g.d) (us:=[iv s.g.d]) Tryz.underlying43 ty3 rfl rfl rfl 3 rfl (by decide) rfl rfl rfl) ?_))))))))
 refine ip' 1 0 [(4,iv s.g.d)] ?_
 refine ie (sr 6 rfl (ip' 3 3 [(12,bv (!decide (s.g.d=0)))] ?_))
 refine zia 3 0 12 15 (!decide (s.g.d=1)) (fun g8=>?_) ?_
 ·have g8p:¬ s.g.d=0:=by simpa using g8
  refine ip' 3 0 [(15,bv (!decide (s.g.d=1)))] ?_
  exact A6 (M7 2 12 15 g8 fn0 (mk [true] rfl) rfl rfl rfl rfl rfl)
 refine ie ?_
 refine zjb rfl hR ?_ ?_<;>clear hR<;>intro hR h9
 ·have h9p:(¬ s.g.d=0)∧(¬ s.g.d=1):=by simpa using h9
  refine sr 1 rfl (ip' 1 0 [(2,iv 250)] ?_)
  subst hR
  refine ie (B4 ?_)
  exact F8 hr hD
 have h9p:¬ ((¬ s.g.d=0)∧(¬ s.g.d=1)):=by simpa using h9
 refine A8 (nx (A1 2 rfl (ix rfl (B0 (c:=4) rfl rfl rfl rfl (by decide)) ?_)))
 refine ip' 1 0 [(7,iv 4)] ?_
 refine A6 (D8 (sr 1 rfl (ip' 1 0 [(8,bv false)] ?_)))
 refine ie (A4 (V5 rfl (F3 (nx (A4 (sr 19 rfl (zrl 5 14 [0] [(21,bv (!decide ((bOp .andNot .i64 s.used 1)=0)))] ?_)))))))
 refine zio 14 0 21 35 (((!decide (s.once=0))&&(!decide (s.once=2)))&&(!decide (s.once=3))) (fun g10=>?_) ?_
 ·have g10p:¬ (¬ (bOp .andNot .i64 s.used 1)=0):=by simpa using g10
  refine zrl 4 10 [0] [(25,bv (!decide (s.once=0)))] ?_
  refine zia 4 6 25 29 (!decide (s.once=2)) (fun g11=>?_) ?_
  ·have g11p:¬ s.once=0:=by simpa using g11
   refine zrl 4 0 [0] [(29,bv (!decide (s.once=2)))] ?_
   exact A6 (M7 2 25 29 g11 fn0 (mk [true] rfl) rfl rfl rfl rfl rfl)
  refine ip' 1 5 [(30,bv ((!decide (s.once=0))&&(!decide (s.once=2))))] ?_
  refine zia 4 1 30 34 (!decide (s.once=3)) (fun g12=>?_) ?_
  ·have g12p:(¬ s.once=0)∧(¬ s.once=2):=by simpa using g12
   refine zrl 4 0 [0] [(34,bv (!decide (s.once=3)))] ?_
   exact A6 (M7 2 30 34 g12 fn0 (mk [true] rfl) rfl rfl rfl rfl rfl)
  refine ip' 1 0 [(35,bv (((!decide (s.once=0))&&(!decide (s.once=2)))&&(!decide (s.once=3))))] ?_
  exact A6 (M7 6 21 35 g10 fn0 (mk [true] rfl) rfl rfl rfl rfl rfl)
 refine ie ?_
 refine zjb rfl hR ?_ ?_<;>clear hR<;>intro hR h13
 ·have h13p:(¬ (bOp .andNot .i64 s.used 1)=0)∨(((¬ s.once=0)∧(¬ s.once=2))∧(¬ s.once=3)):=by first|simpa using h13|(simp at h13 ⊢;omega)
  refine sr 1 rfl (ip' 1 0 [(2,iv 250)] ?_)
  subst hR
  refine ie (B4 ?_)
  exact F8 hr hD
 have h13p:¬ ((¬ (bOp .andNot .i64 s.used 1)=0)∨(((¬ s.once=0)∧(¬ s.once=2))∧(¬ s.once=3))):=by first|simpa using h13|(simp at h13 ⊢;omega)
 refine A8 (nx (sr 1 rfl (ip' 1 0 [(2,iv 0)] ?_)))
 subst hR
 refine ie (B4 ?_)
 exact F8 hr hD
def G7 (fR:Int) (fC:Int) (fTop:Int) (fBottom:Int) (fOrigin:Bool) (s:Sav):Int :=
 (bif (!decide ((K9 fR fC fTop fBottom fOrigin)=0)) then (K9 fR fC fTop fBottom fOrigin) else (bif ((s.is_&&(!(((decide ((G2 fR fC fTop fBottom fOrigin s.cursor)=0))&&(decide ((D4 s.style)=0)))&&(decide ((L4 s.sets)=0)))))||((!s.is_)&&(!(decide (s=Sav.zero))))) then 272 else 0))
theorem A1g (fR:Int) (fC:Int) (fTop:Int) (fBottom:Int) (fOrigin:Bool) (s:Sav) (R:Int) (hR:G7 fR fC fTop fBottom fOrigin s=R):M9 Tryz.prog 104 [ag [iv fR,iv fC,iv fTop,iv fBottom,bv fOrigin],ag (A3i s)] [] (iv R):=by
 refine zco Tryz.func104 [(0,ag [iv fR,iv fC,iv fTop,iv fBottom,bv fOrigin]),(1,ag (A3i s))] fun X hX hr hD=>?_
 replace hR:=(G7.eq_1 ..).symm.trans hR
 refine sr 3 rfl (B1l 3 0 [] (fun b1 b2=>[(2,pt b1 0),(3,pt b2 0)]) (fun b1 b2=>[bx b2 (A3i s) 50,bx b1 [iv fR,iv fC,iv fTop,iv fBottom,bv fOrigin] 150]) (fun b1 b2=>?_))
 refine ie (A4 (sr 3 rfl (zrl 1 2 [1] [(7,ag [iv fR,iv fC,iv fTop,iv fBottom,bv fOrigin])] ?_)))
 refine zca (A5e fR fC fTop fBottom fOrigin _ rfl) fn0 ?_
 refine ip' 1 0 [(5,iv (K9 fR fC fTop fBottom fOrigin))] ?_
 refine ie (sr 2 rfl (ip' 2 0 [(10,bv (!decide ((K9 fR fC fTop fBottom fOrigin)=0)))] ?_))
 refine ie ?_
 refine zjn rfl hR ?_ ?_<;>clear hR<;>intro hR h3 h3p
 ·refine sr 2 rfl (ip' 2 0 [(4,iv (K9 fR fC fTop fBottom fOrigin))] ?_)
  subst hR
  refine ie (B4 ?_)
  exact F8 hr hD
 refine A8 (nx (sr 18 rfl (zrl 3 15 [1,0] [(12,ag [iv fR,iv fC,iv fTop,iv fBottom,bv fOrigin]),(14,ag (A5i s.cursor))] ?_)))
 refine zca (A3e fR fC fTop fBottom fOrigin s.cursor _ rfl) fn0 ?_
 refine ip' 2 12 [(17,bv (decide ((G2 fR fC fTop fBottom fOrigin s.cursor)=0)))] ?_
 refine zid 5 7 17 22 (decide ((D4 s.style)=0)) (fun g4 g4p=>?_) ?_
 ·refine zrl 2 3 [0] [(19,ag (J8 s.style))] ?_
  refine zca (V8 s.style _ rfl) fn0 ?_
  refine ip' 2 0 [(22,bv (decide ((D4 s.style)=0)))] ?_
  exact A6 (M7 4 17 22 g4 fn0 (mk [true,true] rfl) rfl rfl rfl rfl rfl)
 refine ip' 1 6 [(23,bv ((decide ((G2 fR fC fTop fBottom fOrigin s.cursor)=0))&&(decide ((D4 s.style)=0))))] ?_
 refine zia 5 1 23 28 (decide ((L4 s.sets)=0)) (fun g5=>?_) ?_
 ·have g5p:((G2 fR fC fTop fBottom fOrigin s.cursor)=0)∧((D4 s.style)=0):=by simpa using g5
  refine zrl 2 3 [0] [(25,ag (A4q s.sets))] ?_
  refine zca (A7y s.sets _ rfl) fn0 ?_
  refine ip' 2 0 [(28,bv (decide ((L4 s.sets)=0)))] ?_
  exact A6 (M7 4 23 28 g5 fn0 (mk [true,true] rfl) rfl rfl rfl rfl rfl)
 refine ip' 1 0 [(6,bv (((decide ((G2 fR fC fTop fBottom fOrigin s.cursor)=0))&&(decide ((D4 s.style)=0)))&&(decide ((L4 s.sets)=0))))] ?_
 refine ie (A4 (sr 16 rfl (zrl 3 13 [0] [(31,bv s.is_)] ?_)))
 refine zia 3 10 31 34 (!(((decide ((G2 fR fC fTop fBottom fOrigin s.cursor)=0))&&(decide ((D4 s.style)=0)))&&(decide ((L4 s.sets)=0)))) (fun g6=>?_) ?_
 ·refine ip' 3 0 [(34,bv (!(((decide ((G2 fR fC fTop fBottom fOrigin s.cursor)=0))&&(decide ((D4 s.style)=0)))&&(decide ((L4 s.sets)=0)))))] ?_
  exact A6 (M7 2 31 34 g6 fn0 (mk [true,true] rfl) rfl rfl rfl rfl rfl)
 refine ip' 1 9 [(35,bv (s.is_&&(!(((decide ((G2 fR fC fTop fBottom fOrigin s.cursor)=0))&&(decide ((D4 s.style)=0)))&&(decide ((L4 s.sets)=0))))))] ?_
 refine zio 9 0 35 44 ((!s.is_)&&(!(decide (s=Sav.zero)))) (fun g7=>?_) ?_
 ·have g7p:=g7;try simp only [Bool.and_eq_true,Bool.or_eq_true,Bool.and_eq_false_iff,Bool.or_eq_false_iff,Bool.not_eq_true',Bool.not_eq_false',decide_eq_true_eq,decide_eq_false_iff_not] at g7p
  refine zrl 4 5 [0] [(39,bv (!s.is_))] ?_
  refine zia 4 1 39 43 (!(decide (s=Sav.zero))) (fun g8=>?_) ?_
  ·refine zrl 2 2 [0] [(40,ag (A3i s)),(41,ag (A3i Sav.zero))] ?_
   refine ix rfl (A1l (a:=s) (b:=Sav.zero) C8d rfl rfl rfl) ?_
   refine ip' 1 0 [(43,bv (!(decide (s=Sav.zero))))] ?_
   exact A6 (M7 5 39 43 g8 fn0 (mk [true,true] rfl) rfl rfl rfl rfl rfl)
  refine ip' 1 0 [(44,bv ((!s.is_)&&(!(decide (s=Sav.zero)))))] ?_
  exact A6 (M7 4 35 44 g7 fn0 (mk [true,true] rfl) rfl rfl rfl rfl rfl)
 refine ie ?_
 refine zjb rfl hR ?_ ?_<;>clear hR<;>intro hR h9
 ·have h9p:=h9;try simp only [Bool.and_eq_true,Bool.or_eq_true,Bool.and_eq_false_iff,Bool.or_eq_false_iff,Bool.not_eq_true',Bool.not_eq_false',decide_eq_true_eq,decide_eq_false_iff_not] at h9p
  refine sr 1 rfl (ip' 1 0 [(4,iv 272)] ?_)
  subst hR
  refine ie (B4 ?_)
  exact F8 hr hD
 have h9p:=h9;try simp only [Bool.and_eq_true,Bool.or_eq_true,Bool.and_eq_false_iff,Bool.or_eq_false_iff,Bool.not_eq_true',Bool.not_eq_false',decide_eq_true_eq,decide_eq_false_iff_not] at h9p
 refine A8 (nx (sr 1 rfl (ip' 1 0 [(4,iv 0)] ?_)))
 subst hR
 refine ie (B4 ?_)
 exact F8 hr hD
def A0c (g:List (Rwc Cel)):Int :=
 ((g.getD 0 zwc).l.length:Int)
theorem B6r (g:List (Rwc Cel)) (gq:Option Addr) (grs:List Rwq) (gk:Nat) (hrowsgrs:E6 grs g) (hlg:g.length≤9223372036854775807) (hcg:g.length≤gk) (hg0:0<g.length) (R:Int) (hR:A0c g=R):M9 Tryz.prog 251 [.slice gq g.length gk] [sl C4 gq grs,D9 B3 grs g] (iv R):=by
 refine zco Tryz.func251 [(0,.slice gq g.length gk)] fun X hX hr hD=>?_
 replace hR:=(A0c.eq_1 ..).symm.trans hR
 have:=hrowsgrs.1
 refine sr 1 rfl (ip' 1 0 [] ?_)
 refine ie (sr 6 rfl (ip' 1 5 [(3,.slice gq g.length gk)] ?_))
 refine I4 0 rfl (by have:=hrowsgrs.1;omega) fun a1 hq2=>?_
 refine G5 (C0y (k:=0) hrowsgrs 1 rfl (by have:=hrowsgrs.1;omega)) ?_
 have:=B6t hrowsgrs (k:=0) (by have:=hrowsgrs.1;omega)
 refine ix rfl (F1 B3i rfl rfl hq2 rfl 0 rfl (by omega)) ?_
 refine ip' 1 3 [(5,pa (Addr.add a1 (0 * 2)))] ?_
 refine ix rfl (F5 (D6 (v:=.slice ((grs.getD 0 zwq).s.q) ((grs.getD 0 zwq).s.n) ((grs.getD 0 zwq).s.k)) (us:=[.slice ((grs.getD 0 zwq).s.q) ((grs.getD 0 zwq).s.n) ((grs.getD 0 zwq).s.k)]) A1k rfl rfl (A3f (G6 (c:=C4) (sz:=2) hq2 (fun _=>rfl) 1 rfl (gd zwq (by have:=hrowsgrs.1;omega))) (ws:=[.slice ((grs.getD 0 zwq).s.q) ((grs.getD 0 zwq).s.n) ((grs.getD 0 zwq).s.k)]) 1 rfl) rfl) (C7t hrowsgrs (by have:=hrowsgrs.1;omega))) ?_
 refine ip' 2 0 [(2,iv ((g.getD 0 zwc).l.length:Int))] ?_
 subst hR
 refine ie (B4 ?_)
 exact F8 hr hD
def W1 (g:List (Rwc Cel)):List (Rwc Cel)→Nat→Int
 | [],t15=>0
 | hd_l0::tl_l0,t15=>(bif ((!decide ((F7 (hd_l0.l) (hd_l0.b))=0))||(!decide ((hd_l0.l.length:Int)=(A0c g)))) then 230 else W1 g tl_l0 (t15+1))
def N1 (g:List (Rwc Cel)):Int :=
 (bif ((decide ((g.length:Int)<1))||(decide ((40:Int)<(g.length:Int)))) then 230 else W1 g g 0)
theorem B1k {g:List (Rwc Cel)} (h:N1 g=0):0<g.length:=by
 unfold N1 at h
 cases hb:((decide ((g.length:Int)<1))||(decide ((40:Int)<(g.length:Int)))) with
 | true=>rw [hb] at h;cases h
 | false=>simp only [Bool.or_eq_false_iff,decide_eq_false_iff_not] at hb;omega
theorem B4l (g:List (Rwc Cel)) (gq:Option Addr) (grs:List Rwq) (gk:Nat) (hrowsgrs:E6 grs g) (hlg:g.length≤9223372036854775807) (hcg:g.length≤gk) (R:Int) (hR:N1 g=R):M9 Tryz.prog 169 [.slice gq g.length gk] [sl C4 gq grs,D9 B3 grs g,X9,Z3] (iv R):=by
 refine zco Tryz.func169 [(0,.slice gq g.length gk)] fun X hX hr hD=>?_
 replace hR:=(N1.eq_1 ..).symm.trans hR
 have:=hrowsgrs.1
 refine sr 1 rfl (ip' 1 0 [] ?_)
 refine ie (A4 (sr 8 rfl (ip' 4 4 [(8,bv (decide ((g.length:Int)<1)))] ?_)))
 refine zir 4 0 8 12 (decide ((40:Int)<(g.length:Int))) (fun g1 g1p=>?_) ?_
 ·refine ip' 4 0 [(12,bv (decide ((40:Int)<(g.length:Int))))] ?_
  exact zai 2 8 12 g1
 refine ie ?_
 refine zjo rfl hR ?_ ?_<;>clear hR<;>intro hR h2 h2p
 ·refine sr 1 rfl (ip' 1 0 [(2,iv 230)] ?_)
  subst hR
  refine ie (B4 ?_)
  exact F8 hr hD
 refine A8 (nx (A4 (sr 3 rfl (ip' 3 0 [(13,.slice gq g.length gk),(14,iv (g.length:Int)),(15,iv 0)] ?_))))
 refine ie (A9 (B2o (fun (t15:Nat)=>(t15≤g.length∧W1 g (g.drop t15) t15=R,[(0,.slice gq g.length gk),(13,.slice gq g.length gk),(14,iv (g.length:Int)),(15,iv (t15:Int))],[],[sl C4 gq grs,D9 B3 grs g,X9,Z3],g.length - t15)) 0 ⟨(by omega),hR⟩ (mk [] rfl) A5.refl ?_))
 rintro t15 ⟨hm3,hR⟩
 refine sr 1 rfl (ip' 1 0 [(16,bv (decide ((t15:Int)<(g.length:Int))))] ?_)
 refine ie (A4 (R3 rfl (fun h4=>?_) (fun h4=>?_)))
 ·have h4p:(t15:Int)<(g.length:Int):=by simpa using h4
  rw [R9 zwc (show t15<g.length by omega)] at hR;replace hR:=(W1.eq_2 ..).symm.trans hR
  refine A8 (nx (A4 (A9 (sr 4 rfl (I4 0 rfl (by have:=hrowsgrs.1;omega) fun a5 hq6=>?_)))))
  refine G5 (C0y (k:=t15) hrowsgrs 1 rfl (by have:=hrowsgrs.1;omega)) ?_
  have:=B6t hrowsgrs (k:=t15) (by have:=hrowsgrs.1;omega)
  refine ix rfl (F1 B3i rfl rfl hq6 rfl t15 rfl (by omega)) ?_
  refine ix rfl (F5 (M5 (us:=[.slice ((grs.getD t15 zwq).s.q) ((grs.getD t15 zwq).s.n) ((grs.getD t15 zwq).s.k),bv ((grs.getD t15 zwq).b)]) C0j rfl rfl (G6 (c:=C4) (sz:=2) hq6 (fun _=>rfl) 1 rfl (gd zwq (by have:=hrowsgrs.1;omega))) rfl) (C4s hrowsgrs (by have:=hrowsgrs.1;omega))) ?_
  refine K6 2 0 [0] (fun b7=>[(4,pt b7 0)]) (fun b7=>[bx b7 [.slice ((grs.getD t15 zwq).s.q) ((g.getD t15 zwc).l.length) ((grs.getD t15 zwq).s.k),bv ((g.getD t15 zwc).b)] 78]) (fun b7=>?_)
  refine ie (sd 11 rfl (by kernel_rfl) rfl ?_)
  refine zdg 1 10 [0] [(19,ag [.slice ((grs.getD t15 zwq).s.q) ((g.getD t15 zwc).l.length) ((grs.getD t15 zwq).s.k),bv ((g.getD t15 zwc).b)])] ?_
  refine zcd (A9n ((g.getD t15 zwc).l) ((g.getD t15 zwc).b) ((grs.getD t15 zwq).s.q) ((grs.getD t15 zwq).s.k) (by first|omega|(simp only [List.length_take,List.length_drop,List.length_append,List.length_cons,List.length_nil,List.length_set,List.length_map];omega)|decide) (by first|omega|(simp only [List.length_take,List.length_drop,List.length_append,List.length_cons,List.length_nil,List.length_set,List.length_map];omega)|decide) _ rfl) (A5.pick [0,3,4] rfl) ?_
  refine dp' 2 7 [(22,bv (!decide ((F7 ((g.getD t15 zwc).l) ((g.getD t15 zwc).b))=0)))] ?_
  refine zdO 7 0 22 29 (!decide (((g.getD t15 zwc).l.length:Int)=(A0c g))) (fun g8=>?_) ?_
  ·have g8p:¬ (¬ (F7 ((g.getD t15 zwc).l) ((g.getD t15 zwc).b))=0):=by simpa using g8
   refine zdg 4 3 [0] [(25,iv ((g.getD t15 zwc).l.length:Int)),(26,.slice gq g.length gk)] ?_
   refine zcd (B6r g gq grs gk hrowsgrs (by first|omega|(simp only [List.length_take,List.length_drop,List.length_append,List.length_cons,List.length_nil,List.length_set,List.length_map];omega)|decide) (by first|omega|(simp only [List.length_take,List.length_drop,List.length_append,List.length_cons,List.length_nil,List.length_set,List.length_map];omega)|decide) (by omega) _ rfl) (A5.pick [1,2] rfl) ?_
   refine dp' 2 0 [(29,bv (!decide (((g.getD t15 zwc).l.length:Int)=(A0c g))))] ?_
   exact zad 5 22 29 g8
  refine de ?_
  refine zjb rfl hR ?_ ?_<;>clear hR<;>intro hR h9
  ·have h9p:(¬ (F7 ((g.getD t15 zwc).l) ((g.getD t15 zwc).b))=0)∨(¬ ((g.getD t15 zwc).l.length:Int)=(A0c g)):=by simpa using h9
   refine sr 1 rfl (ip' 1 0 [(2,iv 230)] ?_)
   subst hR
   refine ie (B4 ?_)
   exact F8 hr hD
  have h9p:¬ ((¬ (F7 ((g.getD t15 zwc).l) ((g.getD t15 zwc).b))=0)∨(¬ ((g.getD t15 zwc).l.length:Int)=(A0c g))):=by simpa using h9
  refine A8 (nx (A1 2 rfl (ix rfl (B0 rfl rfl rfl rfl (by omega)) ?_)))
  refine ip' 1 0 [(15,iv ((t15:Int)+1))] ?_
  refine A6 ?_
  exact B2u (z1:=t15) (t15+1) ⟨(by omega),hR⟩ (by (try dsimp only);omega) (mk [false] rfl) (A5.pick [1,2,3,4] rfl)
 have h4p:¬ ((t15:Int)<(g.length:Int)):=by simpa using h4
 rw [R8 h4p] at hR;replace hR:=(W1.eq_1 ..).symm.trans hR
 refine F3 (nx (sr 1 rfl (ip' 1 0 [(2,iv 0)] ?_)))
 subst hR
 refine ie (B4 ?_)
 exact F8 hr hD
def H9 (s:ScrC) (sMain:List (Rwc Cel)) (sAlt:List (Rwc Cel)) (sPast:List (Rwc Cel)) (sTabs:List Bool) (g:List (Rwc Cel)):Bool :=
 (((decide ((N1 g)=0))&&(decide ((g.length:Int)=s.rows)))&&(decide (((g.getD 0 zwc).l.length:Int)=s.cols)))
def A6d (cols:Int):List (Rwc Cel)→Nat→Int
 | [],t18=>0
 | hd_l0::tl_l0,t18=>(bif ((!decide ((hd_l0.l.length:Int)=cols))||(!decide ((F7 (hd_l0.l) (hd_l0.b))=0))) then 280 else A6d cols tl_l0 (t18+1))
def B2f (cols:Int) (p:List (Rwc Cel)):Int :=
 (bif ((decide (cols<2))||(decide ((80:Int)<cols))) then 2 else (bif (decide ((100:Int)<(p.length:Int))) then 280 else A6d cols p 0))
def A8l:List Int :=
 ([9,1000,1002,1003]:List Int)
theorem B7d (R:List Int) (hR:A8l=R):Con Tryz.prog 171 [] [] [] ({t:Option Addr×Nat // R.length≤t.2∧R.length≤9223372036854775807}) (fun x=>.slice x.1.1 R.length x.1.2) (fun x=>[]) (fun x=>[sl Q9 x.1.1 R]):=by
 refine zco Tryz.func171 [] fun X hX hr hD=>?_
 replace hR:=(A8l.eq_1 ..).symm.trans hR
 refine sr 1 rfl (ip' 1 0 [] ?_)
 refine ie (sr 2 rfl (it rfl (F9 (c:=Q9) (xs:=([9,1000,1002,1003]:List Int)) A0k rfl rfl rfl (by kernel_rfl)) fun b1=>?_))
 have:([9,1000,1002,1003]:List Int).length=4:=rfl
 refine ip' 1 0 [(0,.slice (some ⟨b1,0,none⟩) 4 4)] ?_
 subst hR
 refine ie (B4 ?_)
 exact zer hr hD (R1 rfl (B5 rfl)) (zq (some ⟨b1,0,none⟩) 4) (mk [] rfl) (A5.con1 (B9 0 rfl) fn0)
def M2 (v:Int):List Int→Nat→Int
 | [],t8=>(-1)
 | hd_l0::tl_l0,t8=>(bif (decide (v=hd_l0)) then (t8:Int) else M2 v tl_l0 (t8+1))
def P9 (s:List Int) (v:Int):Int :=
 M2 v s 0
theorem A3u (s:List Int) (v:Int) (sq:Option Addr) (sk:Nat) (hls:s.length≤9223372036854775807) (hcs:s.length≤sk) (R:Int) (hR:P9 s v=R):M9 Tryz.prog 252 [.slice sq s.length sk,iv v] [sl Q9 sq s] (iv R):=by
 refine zco Tryz.func252 [(0,.slice sq s.length sk),(1,iv v)] fun X hX hr hD=>?_
 replace hR:=(P9.eq_1 ..).symm.trans hR
 refine sr 1 rfl (ip' 1 0 [] ?_)
 refine ie (A4 (sr 3 rfl (ip' 3 0 [(7,iv (s.length:Int)),(8,iv 0)] ?_)))
 refine ie (A9 (B2o (fun (t8:Nat)=>(t8≤s.length∧M2 v (s.drop t8) t8=R,[(0,.slice sq s.length sk),(1,iv v),(7,iv (s.length:Int)),(8,iv (t8:Int))],[],[sl Q9 sq s],s.length - t8)) 0 ⟨(by omega),hR⟩ (mk [] rfl) A5.refl ?_))
 rintro t8 ⟨hm1,hR⟩
 refine sr 1 rfl (ip' 1 0 [(9,bv (decide ((t8:Int)<(s.length:Int))))] ?_)
 refine ie (A4 (R3 rfl (fun h2=>?_) (fun h2=>?_)))
 ·have h2p:(t8:Int)<(s.length:Int):=by simpa using h2
  rw [R9 0 (show t8<s.length by omega)] at hR;replace hR:=(M2.eq_2 ..).symm.trans hR
  refine A8 (nx (A4 (A9 (sr 2 rfl (ip' 2 0 [(5,iv (t8:Int))] ?_)))))
  refine ie (sr 6 rfl (ip' 3 3 [(11,iv v),(12,.slice sq s.length sk),(13,iv (t8:Int))] ?_))
  refine I4 0 rfl (by omega) fun a3 hq4=>?_
  refine ix rfl (F1 A0k rfl rfl hq4 rfl t8 rfl (by omega)) ?_
  refine ix rfl (D6 (v:=iv (s.getD t8 0)) (us:=[iv (s.getD t8 0)]) ty3 rfl rfl (G6 (c:=Q9) (sz:=1) hq4 (fun _=>rfl) 0 rfl (gd 0 (by omega))) rfl) ?_
  refine ip' 1 0 [(16,bv (decide (v=(s.getD t8 0))))] ?_
  refine ie ?_
  refine zjd rfl hR ?_ ?_<;>clear hR<;>intro hR h5 h5p
  ·refine sr 2 rfl (ip' 2 0 [(4,iv (t8:Int))] ?_)
   subst hR
   refine ie (B4 ?_)
   exact F8 hr hD
  refine A8 (nx (A1 2 rfl (ix rfl (B0 rfl rfl rfl rfl (by omega)) ?_)))
  refine ip' 1 0 [(8,iv ((t8:Int)+1))] ?_
  refine A6 ?_
  exact B2u (z1:=t8) (t8+1) ⟨(by omega),hR⟩ (by (try dsimp only);omega) (mk [] rfl) A5.refl
 have h2p:¬ ((t8:Int)<(s.length:Int)):=by simpa using h2
 rw [R8 h2p] at hR;replace hR:=(M2.eq_1 ..).symm.trans hR
 refine F3 (nx (sr 1 rfl (ip' 1 0 [(4,iv (-1))] ?_)))
 subst hR
 refine ie (B4 ?_)
 exact F8 hr hD
def N7 (s:List Int) (v:Int):Bool :=
 (decide ((0:Int)≤(P9 s v)))
theorem A2g (s:List Int) (v:Int) (sq:Option Addr) (sk:Nat) (hls:s.length≤9223372036854775807) (hcs:s.length≤sk) (R:Bool) (hR:N7 s v=R):M9 Tryz.prog 170 [.slice sq s.length sk,iv v] [sl Q9 sq s] (bv R):=by
 refine zco Tryz.func170 [(0,.slice sq s.length sk),(1,iv v)] fun X hX hr hD=>?_
 replace hR:=(N7.eq_1 ..).symm.trans hR
 refine sr 1 rfl (ip' 1 0 [] ?_)
 refine ie (sr 5 rfl (ip' 2 3 [(5,.slice sq s.length sk),(6,iv v)] ?_))
 refine zca (A3u s v sq sk (by first|omega|(simp only [List.length_take,List.length_drop,List.length_append,List.length_cons,List.length_nil,List.length_set,List.length_map];omega)|decide) (by first|omega|(simp only [List.length_take,List.length_drop,List.length_append,List.length_cons,List.length_nil,List.length_set,List.length_map];omega)|decide) _ rfl) A5.refl ?_
 refine ip' 2 0 [(4,bv (decide ((0:Int)≤(P9 s v))))] ?_
 subst hR
 refine ie (B4 ?_)
 exact F8 hr hD
def A0i (m:Mod):Int :=
 (bif (!decide (m.mouse=0)) then (H3 A8l fun (y1:List Int)=>(bif (!(N7 y1 m.mouse)) then 260 else 0)) else 0)
theorem B4x (m:Mod) (R:Int) (hR:A0i m=R):M9 Tryz.prog 109 [ag (A2c m)] [] (iv R):=by
 refine zco Tryz.func109 [(0,ag (A2c m))] fun X hX hr hD=>?_
 replace hR:=(A0i.eq_1 ..).symm.trans hR
 refine sr 2 rfl (K6 2 0 [] (fun b1=>[(1,pt b1 0)]) (fun b1=>[bx b1 (A2c m) 47]) (fun b1=>?_))
 refine ie (A4 (sh 10 [(10,[bx b1 (A2c m) 47])] [] [bx b1 (A2c m) 47] (zml 10 0) (by kernel_rfl) rfl (by kernel_rfl) (by kernel_rfl) (by kernel_rfl) (mk [true] rfl) A5.refl ?_))
 refine zhp [0] 9 (zml 10 1) [(3,pt b1 11)] ?_
 refine zhl 1 [bx b1 (A2c m) 47] (zml 10 3) rfl (C9 (v:=iv m.mouse) ty3 rfl rfl 0 rfl rfl) ?_
 refine zhp [2,3] 6 (zml 10 15) [(6,bv (!decide (m.mouse=0)))] ?_
 refine C2v 6 _ rfl (fun g2=>?_) (fun g2=>?_)
 ·have g2p:¬ m.mouse=0:=by simpa using g2
  replace hR:=bt hR g2
  refine zhp [5] 5 (zml 10 47) [(8,pt b1 11)] ?_
  refine zhl 6 [bx b1 (A2c m) 47] (zml 10 111) rfl (C9 (v:=iv m.mouse) ty3 rfl rfl 0 rfl rfl) ?_
  have hQ:=I2 hR;clear hR;obtain ⟨y1,hy1,hR⟩:=hQ
  refine zho 4 [bx b1 (A2c m) 47] (zml 10 127) rfl (G9 (L2:=[bx b1 (A2c m) 47]) (B7d y1 hy1) rfl rfl rfl rfl rfl fn0 (List.Perm.refl _) (fun ⟨⟨q3,k4⟩,hp5⟩=>[bx b1 (A2c m) 47]) (fun _=>rfl)) (fun ⟨⟨q3,k4⟩,hp5⟩=>(mk [true] rfl)) (fun ⟨⟨q3,k4⟩,hp5⟩=>fn0) fun ⟨⟨q3,k4⟩,hp5⟩=>?_
  obtain ⟨hc6,hl7⟩:=hp5
  refine zho 7 [bx b1 (A2c m) 47] (zml 10 255) rfl (Det.tri (B0u (A2g y1 m.mouse q3 k4 (by first|omega|(simp only [List.length_take,List.length_drop,List.length_append,List.length_cons,List.length_nil,List.length_set,List.length_map];omega)|decide) (by first|omega|(simp only [List.length_take,List.length_drop,List.length_append,List.length_cons,List.length_nil,List.length_set,List.length_map];omega)|decide) _ rfl) rfl rfl rfl rfl rfl A5.refl)) (fun _=>(mk [true] rfl)) (fun _=>fn0) fun _=>?_
  refine zhp [8,9] 0 (zml 10 1023) [(12,bv (!(N7 y1 m.mouse)))] ?_
  refine A8u (by kernel_rfl) ?_
  refine zjb rfl hR ?_ ?_<;>clear hR<;>intro hR h8
  ·refine sr 1 rfl (ip' 1 0 [(2,iv 260)] ?_)
   subst hR
   refine ie (B4 ?_)
   exact F8 hr hD
  refine A8 (nx (sr 1 rfl (ip' 1 0 [(2,iv 0)] ?_)))
  subst hR
  refine ie (B4 ?_)
  exact F8 hr hD
 ·have g2p:¬ (¬ m.mouse=0):=by simpa using g2
  replace hR:=bf hR g2
  refine zhp [4,5,6,7,8,9] 0 (zml 10 1023) [(12,bv false)] ?_
  refine A8u (by kernel_rfl) ?_
  refine V5 rfl (A8 (nx (sr 1 rfl (ip' 1 0 [(2,iv 0)] ?_))))
  subst hR
  refine ie (B4 ?_)
  exact F8 hr hD
def U1 (s:ScrC) (t72:Bool):Bool :=
 (bif t72 then false else (bif (decide (s.shape<0)) then (bif (decide (s.shape<0)) then false else ((decide (s.last=0))||(decide ((0:Int)<(F0 s.last))))) else (bif (decide ((6:Int)<s.shape)) then (bif (decide ((6:Int)<s.shape)) then false else ((decide (s.last=0))||(decide ((0:Int)<(F0 s.last))))) else (bif (!decide ((M6 0 0 Col.zero s.title)=0)) then false else ((decide (s.last=0))||(decide ((0:Int)<(F0 s.last))))))))
def N0 (s:ScrC) (t31:Bool):Bool :=
 (bif t31 then false else (bif (!decide ((D4 s.style)=0)) then U1 s (!decide ((D4 s.style)=0)) else (bif (!decide ((L4 s.sets)=0)) then U1 s (!decide ((L4 s.sets)=0)) else U1 s (!decide ((A0i s.modes)=0)))))
def P0 (s:ScrC) (sMain:List (Rwc Cel)) (sAlt:List (Rwc Cel)) (sPast:List (Rwc Cel)) (sTabs:List Bool) (t6:Bool):Bool :=
 (bif t6 then false else (bif (!(H9 s sMain sAlt sPast sTabs sMain)) then N0 s (!(H9 s sMain sAlt sPast sTabs sMain)) else (bif (!(H9 s sMain sAlt sPast sTabs sAlt)) then N0 s (!(H9 s sMain sAlt sPast sTabs sAlt)) else (bif (!decide ((B2f s.cols sPast)=0)) then N0 s (!decide ((B2f s.cols sPast)=0)) else N0 s (!decide ((sTabs.length:Int)=s.cols))))))
def S3 (s:ScrC) (sMain:List (Rwc Cel)) (sAlt:List (Rwc Cel)) (sPast:List (Rwc Cel)) (sTabs:List Bool):Bool :=
 (H3 (A1w s sMain sAlt sPast sTabs) fun (y0:Int×Int×Int×Int×Bool)=>(bif (!decide ((G2 y0.1 y0.2.1 y0.2.2.1 y0.2.2.2.1 y0.2.2.2.2 s.cursor)=0)) then P0 s sMain sAlt sPast sTabs (!decide ((G2 y0.1 y0.2.1 y0.2.2.1 y0.2.2.2.1 y0.2.2.2.2 s.cursor)=0)) else (bif (!decide ((G7 y0.1 y0.2.1 y0.2.2.1 y0.2.2.2.1 y0.2.2.2.2 s.kept)=0)) then P0 s sMain sAlt sPast sTabs (!decide ((G7 y0.1 y0.2.1 y0.2.2.1 y0.2.2.2.1 y0.2.2.2.2 s.kept)=0)) else P0 s sMain sAlt sPast sTabs (!decide ((G7 y0.1 y0.2.1 y0.2.2.1 y0.2.2.2.1 y0.2.2.2.2 s.keptAlt)=0)))))
def A7s (s:ScrC) (sMain:List (Rwc Cel)) (sAlt:List (Rwc Cel)) (sPast:List (Rwc Cel)) (sTabs:List Bool):Int :=
 (bif (!(S3 s sMain sAlt sPast sTabs)) then 300 else 0)
theorem B0b {s:ScrC} {m a p:List (Rwc Cel)} {t:List Bool} (h:A7s s m a p t=0):m.length≤100∧a.length≤100:=by
 have hv:S3 s m a p t=true:=by
  unfold A7s at h
  cases hx:S3 s m a p t with
  | true=>rfl
  | false=>rw [hx] at h;cases h
 have hs:H9 s m a p t m=true∧H9 s m a p t a=true:=by
  unfold S3 P0 A1w H3 at hv
  revert hv
  cases H9 s m a p t m<;>cases H9 s m a p t a<;>simp [N0]
 have hg:∀ g:List (Rwc Cel),H9 s m a p t g=true→g.length≤100:=fun g hg=>by
  unfold H9 N1 at hg
  simp only [Bool.and_eq_true,decide_eq_true_eq] at hg
  have hg:=hg.1.1
  cases hb:((decide ((g.length:Int)<1))||(decide ((40:Int)<(g.length:Int)))) with
  | true=>rw [hb] at hg;cases hg
  | false=>simp only [Bool.or_eq_false_iff,decide_eq_false_iff_not] at hb;omega
 exact ⟨hg m hs.1,hg a hs.2⟩
end Go.Proofs.YthcjfkljekdioaaGreatDoor
set_option linter.unusedVariables false
set_option linter.unusedSimpArgs false
set_option linter.unnecessarySimpa false
set_option maxRecDepth 100000
namespace Go.Proofs.YthcjfkljekdioaaGreatDoor
open Go Go.Fen
def V1:List (Rwc Cel)→Nat→List (List Cel)
 | [],t14=>[]
 | hd_l0::tl_l0,t14=>(((hd_l0.l).take (hd_l0.l.length))::V1 tl_l0 (t14+1))
def A0a (l1:List (Rwc Cel)):List (List Cel) :=
 V1 l1 0
def B2w (c0:ScrC) (c0Main:List (Rwc Cel)) (c0Alt:List (Rwc Cel)) (c0Past:List (Rwc Cel)) (c0Tabs:List Bool):List (List Cel) :=
 (bif c0.onAlt then A0a c0Alt else A0a c0Main)
theorem A0x:∀ (l:List (Rwc Cel)) (t:Nat),(V1 l t).length=l.length
 | [],t=>rfl
 | a::l,t=>by simp only [V1,List.length_cons,A0x l (t+1)]
theorem A5c (l:List (Rwc Cel)):(A0a l).length=l.length:=A0x l 0
end Go.Proofs.YthcjfkljekdioaaGreatDoor
set_option linter.unusedVariables false
set_option linter.unusedSimpArgs false
set_option linter.unnecessarySimpa false
set_option maxRecDepth 100000
namespace Go.Proofs.YthcjfkljekdioaaGreatDoor
open Go Go.Fen
theorem H7:MapTy Tryz.prog 122 3 120 (.int .i64):=⟨by kernel_rfl,by kernel_rfl,rfl⟩
theorem C2m:MapTy Tryz.prog 193 3 196 (.int .i64):=⟨by kernel_rfl,by kernel_rfl,rfl⟩
theorem B7r:SlTy Tryz.prog 139 81 6:=⟨by kernel_rfl,by kernel_rfl⟩
theorem C8h:Ty Tryz.prog 36 1 false:=⟨by kernel_rfl⟩
theorem C5f:Ty Tryz.prog 38 3 true:=⟨by kernel_rfl⟩
theorem C4y:Ty Tryz.prog 42 8 true:=⟨by kernel_rfl⟩
theorem C5e:Ty Tryz.prog 45 6 true:=⟨by kernel_rfl⟩
theorem C8o:Ty Tryz.prog 50 19 true:=⟨by kernel_rfl⟩
theorem C2x:Ty Tryz.prog 120 2 true:=⟨by kernel_rfl⟩
theorem B4s:Zero Tryz.prog 120 [.nilFunc,.nilFunc]:=⟨by kernel_rfl⟩
def R0 (s:ScrC) (sMain:List (Rwc Cel)) (sAlt:List (Rwc Cel)) (sTabs:List Bool):Int×Int×Int×Int×Bool :=
 (s.rows,s.cols,s.top,s.bottom,s.modes.origin)
theorem A4m (s:ScrC) (sMain:List (Rwc Cel)) (sAlt:List (Rwc Cel)) (sTabs:List Bool) (sb:Nat) (sMainq:Option Addr) (sMainrs:List Rwq) (sMaink:Nat) (sAltq:Option Addr) (sAltrs:List Rwq) (sAltk:Nat) (sTabsq:Option Addr) (sTabsk:Nat) (hrowssMainrs:E6 sMainrs sMain) (hlsMain:sMain.length≤9223372036854775807) (hcsMain:sMain.length≤sMaink) (hrowssAltrs:E6 sAltrs sAlt) (hlsAlt:sAlt.length≤9223372036854775807) (hcsAlt:sAlt.length≤sAltk) (hlsTabs:sTabs.length≤9223372036854775807) (hcsTabs:sTabs.length≤sTabsk) (R:Int×Int×Int×Int×Bool) (hR:R0 s sMain sAlt sTabs=R):Con Tryz.prog 102 [pt sb 0] [bx sb (B1 s ⟨sMainq,sMain.length,sMaink⟩ ⟨sAltq,sAlt.length,sAltk⟩ ⟨none,0,0⟩ ⟨sTabsq,sTabs.length,sTabsk⟩) 114] [sl C4 sMainq sMainrs,D9 B3 sMainrs sMain,sl C4 sAltq sAltrs,D9 B3 sAltrs sAlt,sl F6 sTabsq sTabs] (Unit) (fun x=>ag [iv R.1,iv R.2.1,iv R.2.2.1,iv R.2.2.2.1,bv R.2.2.2.2]) (fun x=>[bx sb (B1 s ⟨sMainq,sMain.length,sMaink⟩ ⟨sAltq,sAlt.length,sAltk⟩ ⟨none,0,0⟩ ⟨sTabsq,sTabs.length,sTabsk⟩) 114]) (fun x=>[]):=by
 refine zco Tryz.func102 [(0,pt sb 0)] fun X hX hr hD=>?_
 replace hR:=(R0.eq_1 ..).symm.trans hR
 have:=hrowssMainrs.1
 have:=hrowssAltrs.1
 refine sr 1 rfl (K6 1 0 [] (fun b1=>[(2,pt b1 0)]) (fun b1=>[bx b1 [iv 0,iv 0,iv 0,iv 0,bv false] 150,bx sb (B1 s ⟨sMainq,sMain.length,sMaink⟩ ⟨sAltq,sAlt.length,sAltk⟩ ⟨none,0,0⟩ ⟨sTabsq,sTabs.length,sTabsk⟩) 114]) (fun b1=>?_))
 refine ie (sh 28 [(27,[bx b1 [iv 0,iv 0,iv 0,iv 0,bv false] 150]),(28,[bx sb (B1 s ⟨sMainq,sMain.length,sMaink⟩ ⟨sAltq,sAlt.length,sAltk⟩ ⟨none,0,0⟩ ⟨sTabsq,sTabs.length,sTabsk⟩) 114])] [sl C4 sMainq sMainrs,D9 B3 sMainrs sMain,sl C4 sAltq sAltrs,D9 B3 sAltrs sAlt,sl F6 sTabsq sTabs] [bx b1 [iv 0,iv 0,iv 0,iv 0,bv false] 150,bx sb (B1 s ⟨sMainq,sMain.length,sMaink⟩ ⟨sAltq,sAlt.length,sAltk⟩ ⟨none,0,0⟩ ⟨sTabsq,sTabs.length,sTabsk⟩) 114] (zml 28 0) (by kernel_rfl) rfl (by kernel_rfl) (by kernel_rfl) (by kernel_rfl) (mk [true,true] rfl) A5.refl ?_)
 refine zhp [0,1,2,3,5,6,7,8,10,11,12,13,15,16,17,18,20,21,22,23,24] 7 (zml 28 33013231) [(6,pt sb 1),(11,pt sb 0),(16,pt sb 36),(21,pt sb 37),(27,pt sb 27)] ?_
 refine zhl 4 [bx b1 [iv 0,iv 0,iv 0,iv 0,bv false] 150,bx sb (B1 s ⟨sMainq,sMain.length,sMaink⟩ ⟨sAltq,sAlt.length,sAltk⟩ ⟨none,0,0⟩ ⟨sTabsq,sTabs.length,sTabsk⟩) 114] (zml 28 33013247) rfl (C9 (v:=iv s.rows) ty3 rfl rfl 1 rfl rfl) ?_
 refine zhl 9 [bx b1 [iv 0,iv 0,iv 0,iv 0,bv false] 150,bx sb (B1 s ⟨sMainq,sMain.length,sMaink⟩ ⟨sAltq,sAlt.length,sAltk⟩ ⟨none,0,0⟩ ⟨sTabsq,sTabs.length,sTabsk⟩) 114] (zml 28 33013759) rfl (C9 (v:=iv s.cols) ty3 rfl rfl 1 rfl rfl) ?_
 refine zhl 14 [bx b1 [iv 0,iv 0,iv 0,iv 0,bv false] 150,bx sb (B1 s ⟨sMainq,sMain.length,sMaink⟩ ⟨sAltq,sAlt.length,sAltk⟩ ⟨none,0,0⟩ ⟨sTabsq,sTabs.length,sTabsk⟩) 114] (zml 28 33030143) rfl (C9 (v:=iv s.top) ty3 rfl rfl 1 rfl rfl) ?_
 refine zhl 19 [bx b1 [iv 0,iv 0,iv 0,iv 0,bv false] 150,bx sb (B1 s ⟨sMainq,sMain.length,sMaink⟩ ⟨sAltq,sAlt.length,sAltk⟩ ⟨none,0,0⟩ ⟨sTabsq,sTabs.length,sTabsk⟩) 114] (zml 28 33554431) rfl (C9 (v:=iv s.bottom) ty3 rfl rfl 1 rfl rfl) ?_
 refine zhl 25 [bx b1 [iv 0,iv 0,iv 0,iv 0,bv false] 150,bx sb (B1 s ⟨sMainq,sMain.length,sMaink⟩ ⟨sAltq,sAlt.length,sAltk⟩ ⟨none,0,0⟩ ⟨sTabsq,sTabs.length,sTabsk⟩) 114] (zml 28 67108863) rfl (C9 (v:=bv s.modes.origin) ty4 rfl rfl 1 rfl rfl) ?_
 refine zhk 26 (zml 28 134217727) rfl (A5r (cs:=[iv s.rows,iv s.cols,iv s.top,iv s.bottom,bv s.modes.origin]) rfl rfl (by kernel_rfl)) ?_
 refine zho 27 [bx sb (B1 s ⟨sMainq,sMain.length,sMaink⟩ ⟨sAltq,sAlt.length,sAltk⟩ ⟨none,0,0⟩ ⟨sTabsq,sTabs.length,sTabsk⟩) 114] (zml 28 268435455) rfl (L8 (us:=[iv s.rows,iv s.cols,iv s.top,iv s.bottom,bv s.modes.origin]) (cs':=[iv s.rows,iv s.cols,iv s.top,iv s.bottom,bv s.modes.origin]) C4n rfl rfl rfl 0 rfl rfl rfl rfl rfl rfl) (fun _=>(mk [false,true] rfl)) (fun _=>A5.refl) fun _=>?_
 refine A8u (by kernel_rfl) ?_
 subst hR
 refine B4 ?_
 exact zer hr hD (R1 rfl (J1 (us:=[iv s.rows,iv s.cols,iv s.top,iv s.bottom,bv s.modes.origin]) C4n rfl 0 rfl rfl rfl)) () (mk [false,true] rfl) fn0
def E2 (s:ScrC) (sMain:List (Rwc Cel)) (sAlt:List (Rwc Cel)) (sTabs:List Bool) (g:List (Rwc Cel)):Bool :=
 (((decide ((N1 g)=0))&&(decide ((g.length:Int)=s.rows)))&&(decide (((g.getD 0 zwc).l.length:Int)=s.cols)))
theorem Z7 (s:ScrC) (sMain:List (Rwc Cel)) (sAlt:List (Rwc Cel)) (sTabs:List Bool) (g:List (Rwc Cel)) (sb:Nat) (sMainq:Option Addr) (sMainrs:List Rwq) (sMaink:Nat) (sAltq:Option Addr) (sAltrs:List Rwq) (sAltk:Nat) (sTabsq:Option Addr) (sTabsk:Nat) (gq:Option Addr) (grs:List Rwq) (gk:Nat) (hrowssMainrs:E6 sMainrs sMain) (hlsMain:sMain.length≤9223372036854775807) (hcsMain:sMain.length≤sMaink) (hrowssAltrs:E6 sAltrs sAlt) (hlsAlt:sAlt.length≤9223372036854775807) (hcsAlt:sAlt.length≤sAltk) (hlsTabs:sTabs.length≤9223372036854775807) (hcsTabs:sTabs.length≤sTabsk) (hrowsgrs:E6 grs g) (hlg:g.length≤9223372036854775807) (hcg:g.length≤gk) (R:Bool) (hR:E2 s sMain sAlt sTabs g=R):Con Tryz.prog 105 [pt sb 0,.slice gq g.length gk] [bx sb (B1 s ⟨sMainq,sMain.length,sMaink⟩ ⟨sAltq,sAlt.length,sAltk⟩ ⟨none,0,0⟩ ⟨sTabsq,sTabs.length,sTabsk⟩) 114] [sl C4 sMainq sMainrs,D9 B3 sMainrs sMain,sl C4 sAltq sAltrs,D9 B3 sAltrs sAlt,sl F6 sTabsq sTabs,sl C4 gq grs,D9 B3 grs g,X9,Z3] (Unit) (fun x=>bv R) (fun x=>[bx sb (B1 s ⟨sMainq,sMain.length,sMaink⟩ ⟨sAltq,sAlt.length,sAltk⟩ ⟨none,0,0⟩ ⟨sTabsq,sTabs.length,sTabsk⟩) 114]) (fun x=>[]):=by
 refine zco Tryz.func105 [(0,pt sb 0),(1,.slice gq g.length gk)] fun X hX hr hD=>?_
 replace hR:=(E2.eq_1 ..).symm.trans hR
 have:=hrowssMainrs.1
 have:=hrowssAltrs.1
 have:=hrowsgrs.1
 have hgp:N1 g=0→0<g.length:=B1k
 refine sr 1 rfl (ip' 1 0 [] ?_)
 refine ie (sd 27 rfl (by kernel_rfl) rfl ?_)
 refine dp' 1 26 [(5,.slice gq g.length gk)] ?_
 refine zcd (B4l g gq grs gk hrowsgrs (by first|omega|(simp only [List.length_take,List.length_drop,List.length_append,List.length_cons,List.length_nil,List.length_set,List.length_map];omega)|decide) (by first|omega|(simp only [List.length_take,List.length_drop,List.length_append,List.length_cons,List.length_nil,List.length_set,List.length_map];omega)|decide) _ rfl) (A5.pick [5,6,7,8] rfl) ?_
 refine dp' 2 23 [(8,bv (decide ((N1 g)=0)))] ?_
 refine zdd 9 14 8 17 (decide ((g.length:Int)=s.rows)) (fun g1 g1p=>?_) ?_
 ·refine zdg 9 0 [0] [(17,bv (decide ((g.length:Int)=s.rows)))] ?_
  exact zad 2 8 17 g1
 refine dp' 1 13 [(18,bv ((decide ((N1 g)=0))&&(decide ((g.length:Int)=s.rows))))] ?_
 refine zda 12 1 18 30 (decide (((g.getD 0 zwc).l.length:Int)=s.cols)) (fun g2=>?_) ?_
 ·have g2p:((N1 g)=0)∧((g.length:Int)=s.rows):=by simpa using g2
  refine dp' 1 11 [(19,.slice gq g.length gk)] ?_
  refine A2r 5 rfl (by have:=hrowsgrs.1;omega) fun a3 hq4=>?_
  refine A4o (C0y (k:=0) hrowsgrs 6 rfl (by have:=hrowsgrs.1;omega)) ?_
  have:=B6t hrowsgrs (k:=0) (by have:=hrowsgrs.1;omega)
  refine dd rfl (F1 B3i rfl rfl hq4 rfl 0 rfl (by omega)) ?_
  refine dp' 1 9 [(21,pa (Addr.add a3 (0 * 2)))] ?_
  refine dd rfl (F5 (D6 (v:=.slice ((grs.getD 0 zwq).s.q) ((grs.getD 0 zwq).s.n) ((grs.getD 0 zwq).s.k)) (us:=[.slice ((grs.getD 0 zwq).s.q) ((grs.getD 0 zwq).s.n) ((grs.getD 0 zwq).s.k)]) A1k rfl rfl (A3f (G6 (c:=C4) (sz:=2) hq4 (fun _=>rfl) 6 rfl (gd zwq (by have:=hrowsgrs.1;omega))) (ws:=[.slice ((grs.getD 0 zwq).s.q) ((grs.getD 0 zwq).s.n) ((grs.getD 0 zwq).s.k)]) 1 rfl) rfl) (C7t hrowsgrs (by have:=hrowsgrs.1;omega))) ?_
  refine zdg 8 0 [0] [(30,bv (decide (((g.getD 0 zwc).l.length:Int)=s.cols)))] ?_
  exact zad 6 18 30 g2
 refine dp' 1 0 [(4,bv (((decide ((N1 g)=0))&&(decide ((g.length:Int)=s.rows)))&&(decide (((g.getD 0 zwc).l.length:Int)=s.cols))))] ?_
 subst hR
 refine de (B4 ?_)
 exact zer hr hD (R1 rfl (B5 rfl)) () (mk [true] rfl) fn0
def X4 (cols:Int):Int :=
 (bif ((decide (cols<2))||(decide ((80:Int)<cols))) then 2 else 0)
theorem B2k (cols:Int) (R:Int) (hR:X4 cols=R):M9 Tryz.prog 106 [iv cols,.slice none 0 0] [] (iv R):=by
 refine zco Tryz.func106 [(0,iv cols),(1,.slice none 0 0)] fun X hX hr hD=>?_
 replace hR:=(X4.eq_1 ..).symm.trans hR
 refine sr 1 rfl (ip' 1 0 [] ?_)
 refine ie (A4 (sr 6 rfl (ip' 3 3 [(9,bv (decide (cols<2)))] ?_)))
 refine zir 3 0 9 12 (decide ((80:Int)<cols)) (fun g1 g1p=>?_) ?_
 ·refine ip' 3 0 [(12,bv (decide ((80:Int)<cols)))] ?_
  exact A6 (M7 2 9 12 g1 fn0 (mk [] rfl) rfl rfl rfl rfl rfl)
 refine ie ?_
 refine zjo rfl hR ?_ ?_<;>clear hR<;>intro hR h2 h2p
 ·refine sr 1 rfl (ip' 1 0 [(4,iv 2)] ?_)
  subst hR
  refine ie (B4 ?_)
  exact F8 hr hD
 refine A8 (nx (A4 (sr 3 rfl (ip' 3 0 [(15,bv false)] ?_))))
 refine ie (V5 rfl (A8 (nx (A4 (sr 3 rfl (ip' 3 0 [(16,.slice none 0 0),(17,iv 0),(18,iv 0)] ?_))))))
 refine ie (A9 (P8 2 ?_))
 refine D8 (sr 1 rfl (ip' 1 0 [(19,bv false)] ?_))
 refine ie (A4 (V5 rfl (F3 (nx (sr 1 rfl (ip' 1 0 [(4,iv 0)] ?_))))))
 subst hR
 refine ie (B4 ?_)
 exact F8 hr hD
def M4 (s:ScrC) (t72:Bool):Bool :=
 (bif t72 then false else (bif (decide (s.shape<0)) then (bif (decide (s.shape<0)) then false else ((decide (s.last=0))||(decide ((0:Int)<(F0 s.last))))) else (bif (decide ((6:Int)<s.shape)) then (bif (decide ((6:Int)<s.shape)) then false else ((decide (s.last=0))||(decide ((0:Int)<(F0 s.last))))) else (bif (!decide ((M6 0 0 Col.zero s.title)=0)) then false else ((decide (s.last=0))||(decide ((0:Int)<(F0 s.last))))))))
def J3 (s:ScrC) (t31:Bool):Bool :=
 (bif t31 then false else (bif (!decide ((D4 s.style)=0)) then M4 s (!decide ((D4 s.style)=0)) else (bif (!decide ((L4 s.sets)=0)) then M4 s (!decide ((L4 s.sets)=0)) else M4 s (!decide ((A0i s.modes)=0)))))
def K3 (s:ScrC) (sMain:List (Rwc Cel)) (sAlt:List (Rwc Cel)) (sTabs:List Bool) (t6:Bool):Bool :=
 (bif t6 then false else (bif (!(E2 s sMain sAlt sTabs sMain)) then J3 s (!(E2 s sMain sAlt sTabs sMain)) else (bif (!(E2 s sMain sAlt sTabs sAlt)) then J3 s (!(E2 s sMain sAlt sTabs sAlt)) else (bif (!decide ((X4 s.cols)=0)) then J3 s (!decide ((X4 s.cols)=0)) else J3 s (!decide ((sTabs.length:Int)=s.cols))))))
def K5 (s:ScrC) (sMain:List (Rwc Cel)) (sAlt:List (Rwc Cel)) (sTabs:List Bool):Bool :=
 (H3 (R0 s sMain sAlt sTabs) fun (y0:Int×Int×Int×Int×Bool)=>(bif (!decide ((G2 y0.1 y0.2.1 y0.2.2.1 y0.2.2.2.1 y0.2.2.2.2 s.cursor)=0)) then K3 s sMain sAlt sTabs (!decide ((G2 y0.1 y0.2.1 y0.2.2.1 y0.2.2.2.1 y0.2.2.2.2 s.cursor)=0)) else (bif (!decide ((G7 y0.1 y0.2.1 y0.2.2.1 y0.2.2.2.1 y0.2.2.2.2 s.kept)=0)) then K3 s sMain sAlt sTabs (!decide ((G7 y0.1 y0.2.1 y0.2.2.1 y0.2.2.2.1 y0.2.2.2.2 s.kept)=0)) else K3 s sMain sAlt sTabs (!decide ((G7 y0.1 y0.2.1 y0.2.2.1 y0.2.2.2.1 y0.2.2.2.2 s.keptAlt)=0)))))
theorem A4j (s:ScrC) (sMain:List (Rwc Cel)) (sAlt:List (Rwc Cel)) (sTabs:List Bool) (sb:Nat) (sMainq:Option Addr) (sMainrs:List Rwq) (sMaink:Nat) (sAltq:Option Addr) (sAltrs:List Rwq) (sAltk:Nat) (sTabsq:Option Addr) (sTabsk:Nat) (hrowssMainrs:E6 sMainrs sMain) (hlsMain:sMain.length≤9223372036854775807) (hcsMain:sMain.length≤sMaink) (hrowssAltrs:E6 sAltrs sAlt) (hlsAlt:sAlt.length≤9223372036854775807) (hcsAlt:sAlt.length≤sAltk) (hlsTabs:sTabs.length≤9223372036854775807) (hcsTabs:sTabs.length≤sTabsk) (hTs:s.title.length≤100000000) (R:Bool) (hR:K5 s sMain sAlt sTabs=R):Con Tryz.prog 64 [pt sb 0] [bx sb (B1 s ⟨sMainq,sMain.length,sMaink⟩ ⟨sAltq,sAlt.length,sAltk⟩ ⟨none,0,0⟩ ⟨sTabsq,sTabs.length,sTabsk⟩) 114] [sl C4 sMainq sMainrs,D9 B3 sMainrs sMain,sl C4 sAltq sAltrs,D9 B3 sAltrs sAlt,sl F6 sTabsq sTabs,X9,Z3] (Unit) (fun x=>bv R) (fun x=>[bx sb (B1 s ⟨sMainq,sMain.length,sMaink⟩ ⟨sAltq,sAlt.length,sAltk⟩ ⟨none,0,0⟩ ⟨sTabsq,sTabs.length,sTabsk⟩) 114]) (fun x=>[]):=by
 refine zco Tryz.func64 [(0,pt sb 0)] fun X hX hr hD=>?_
 replace hR:=(K5.eq_1 ..).symm.trans hR
 have:=hrowssMainrs.1
 have:=hrowssAltrs.1
 refine sr 1 rfl (ip' 1 0 [] ?_)
 refine ie (sr 4 rfl (ip' 1 3 [(4,pt sb 0)] ?_))
 have hQ:=I2 hR;clear hR;obtain ⟨y0,hy0,hR⟩:=hQ
 refine it rfl (G9 (L2:=[]) (A4m s sMain sAlt sTabs sb sMainq sMainrs sMaink sAltq sAltrs sAltk sTabsq sTabsk hrowssMainrs (by first|omega|(simp only [List.length_take,List.length_drop,List.length_append,List.length_cons,List.length_nil,List.length_set,List.length_map];omega)|decide) (by first|omega|(simp only [List.length_take,List.length_drop,List.length_append,List.length_cons,List.length_nil,List.length_set,List.length_map];omega)|decide) hrowssAltrs (by first|omega|(simp only [List.length_take,List.length_drop,List.length_append,List.length_cons,List.length_nil,List.length_set,List.length_map];omega)|decide) (by first|omega|(simp only [List.length_take,List.length_drop,List.length_append,List.length_cons,List.length_nil,List.length_set,List.length_map];omega)|decide) (by first|omega|(simp only [List.length_take,List.length_drop,List.length_append,List.length_cons,List.length_nil,List.length_set,List.length_map];omega)|decide) (by first|omega|(simp only [List.length_take,List.length_drop,List.length_append,List.length_cons,List.length_nil,List.length_set,List.length_map];omega)|decide) y0 hy0) rfl rfl rfl rfl rfl (A5.pick [0,1,2,3,4] rfl) (H0 [[bx sb (B1 s ⟨sMainq,sMain.length,sMaink⟩ ⟨sAltq,sAlt.length,sAltk⟩ ⟨none,0,0⟩ ⟨sTabsq,sTabs.length,sTabsk⟩) 114]] [0] 1 rfl (by decide) rfl [[bx sb (B1 s ⟨sMainq,sMain.length,sMaink⟩ ⟨sAltq,sAlt.length,sAltk⟩ ⟨none,0,0⟩ ⟨sTabsq,sTabs.length,sTabsk⟩) 114]] rfl (by first|rfl|simp only [List.flatten_cons,List.flatten_nil,List.append_nil,List.cons_append,List.nil_append,List.append_assoc])) (fun _=>[bx sb (B1 s ⟨sMainq,sMain.length,sMaink⟩ ⟨sAltq,sAlt.length,sAltk⟩ ⟨none,0,0⟩ ⟨sTabsq,sTabs.length,sTabsk⟩) 114]) (fun _=>rfl)) fun _=>?_
 refine K6 2 0 [0] (fun b1=>[(3,pt b1 0)]) (fun b1=>[bx b1 [iv y0.1,iv y0.2.1,iv y0.2.2.1,iv y0.2.2.2.1,bv y0.2.2.2.2] 150,bx sb (B1 s ⟨sMainq,sMain.length,sMaink⟩ ⟨sAltq,sAlt.length,sAltk⟩ ⟨none,0,0⟩ ⟨sTabsq,sTabs.length,sTabsk⟩) 114]) (fun b1=>?_)
 refine ie (A4 (A9 (C0i (fun (t6:Bool)=>(K3 s sMain sAlt sTabs t6=R,[(0,pt sb 0),(6,bv t6)],[bx b1 [iv y0.1,iv y0.2.1,iv y0.2.2.1,iv y0.2.2.2.1,bv y0.2.2.2.2] 150,bx sb (B1 s ⟨sMainq,sMain.length,sMaink⟩ ⟨sAltq,sAlt.length,sAltk⟩ ⟨none,0,0⟩ ⟨sTabsq,sTabs.length,sTabsk⟩) 114],[sl C4 sMainq sMainrs,D9 B3 sMainrs sMain,sl C4 sAltq sAltrs,D9 B3 sAltrs sAlt,sl F6 sTabsq sTabs,X9,Z3])) ?_ ?_)))
 ·refine sd 9 rfl (by kernel_rfl) rfl ?_
  refine zdg 6 3 [0,1] [(7,ag [iv y0.1,iv y0.2.1,iv y0.2.2.1,iv y0.2.2.2.1,bv y0.2.2.2.2]),(12,ag (A5i s.cursor))] ?_
  refine zcd (A3e y0.1 y0.2.1 y0.2.2.1 y0.2.2.2.1 y0.2.2.2.2 s.cursor _ rfl) fn0 ?_
  refine dp' 2 0 [(6,bv (!decide ((G2 y0.1 y0.2.1 y0.2.2.1 y0.2.2.2.1 y0.2.2.2.2 s.cursor)=0)))] ?_
  refine de ?_
  refine zjn rfl hR ?_ ?_<;>clear hR<;>intro hR h2 h2p
  ·refine A8 ?_
   exact A5w (!decide ((G2 y0.1 y0.2.1 y0.2.2.1 y0.2.2.2.1 y0.2.2.2.2 s.cursor)=0)) hR (mk [true,true] rfl) A5.refl
  refine sd 9 rfl (by kernel_rfl) rfl ?_
  refine zdg 6 3 [0,1] [(15,ag [iv y0.1,iv y0.2.1,iv y0.2.2.1,iv y0.2.2.2.1,bv y0.2.2.2.2]),(20,ag (A3i s.kept))] ?_
  refine zcd (A1g y0.1 y0.2.1 y0.2.2.1 y0.2.2.2.1 y0.2.2.2.2 s.kept _ rfl) fn0 ?_
  refine dp' 2 0 [(6,bv (!decide ((G7 y0.1 y0.2.1 y0.2.2.1 y0.2.2.2.1 y0.2.2.2.2 s.kept)=0)))] ?_
  refine de ?_
  refine zjn rfl hR ?_ ?_<;>clear hR<;>intro hR h3 h3p
  ·refine A8 ?_
   exact A5w (!decide ((G7 y0.1 y0.2.1 y0.2.2.1 y0.2.2.2.1 y0.2.2.2.2 s.kept)=0)) hR (mk [true,true] rfl) A5.refl
  refine B7n 9 rfl (by kernel_rfl) rfl ?_
  refine zdg 6 3 [0,1] [(23,ag [iv y0.1,iv y0.2.1,iv y0.2.2.1,iv y0.2.2.2.1,bv y0.2.2.2.2]),(28,ag (A3i s.keptAlt))] ?_
  refine zcd (A1g y0.1 y0.2.1 y0.2.2.1 y0.2.2.2.1 y0.2.2.2.2 s.keptAlt _ rfl) fn0 ?_
  refine dp' 2 0 [(6,bv (!decide ((G7 y0.1 y0.2.1 y0.2.2.1 y0.2.2.2.1 y0.2.2.2.2 s.keptAlt)=0)))] ?_
  refine A8i ?_
  exact A5w (!decide ((G7 y0.1 y0.2.1 y0.2.2.1 y0.2.2.2.1 y0.2.2.2.2 s.keptAlt)=0)) hR (mk [true,true] rfl) A5.refl
 intro t6
 rintro hR
 replace hR:=(K3.eq_1 ..).symm.trans hR
 refine zjb rfl hR ?_ ?_<;>clear hR<;>intro hR h4
 ·refine sr 1 rfl (ip' 1 0 [(2,bv false)] ?_)
  subst hR
  refine ie (B4 ?_)
  exact zer hr hD (R1 rfl (B5 rfl)) () (mk [false,true] rfl) fn0
 refine C0i (fun (t31:Bool)=>(J3 s t31=R,[(0,pt sb 0),(31,bv t31)],[bx b1 [iv y0.1,iv y0.2.1,iv y0.2.2.1,iv y0.2.2.2.1,bv y0.2.2.2.2] 150,bx sb (B1 s ⟨sMainq,sMain.length,sMaink⟩ ⟨sAltq,sAlt.length,sAltk⟩ ⟨none,0,0⟩ ⟨sTabsq,sTabs.length,sTabsk⟩) 114],[sl C4 sMainq sMainrs,D9 B3 sMainrs sMain,sl C4 sAltq sAltrs,D9 B3 sAltrs sAlt,sl F6 sTabsq sTabs,X9,Z3])) ?_ ?_
 ·refine sr 9 rfl (zrl 6 3 [1] [(32,pt sb 0),(37,.slice sMainq sMain.length sMaink)] ?_)
  refine it rfl (G9 (L2:=[bx b1 [iv y0.1,iv y0.2.1,iv y0.2.2.1,iv y0.2.2.2.1,bv y0.2.2.2.2] 150]) (Z7 s sMain sAlt sTabs sMain sb sMainq sMainrs sMaink sAltq sAltrs sAltk sTabsq sTabsk sMainq sMainrs sMaink hrowssMainrs (by first|omega|(simp only [List.length_take,List.length_drop,List.length_append,List.length_cons,List.length_nil,List.length_set,List.length_map];omega)|decide) (by first|omega|(simp only [List.length_take,List.length_drop,List.length_append,List.length_cons,List.length_nil,List.length_set,List.length_map];omega)|decide) hrowssAltrs (by first|omega|(simp only [List.length_take,List.length_drop,List.length_append,List.length_cons,List.length_nil,List.length_set,List.length_map];omega)|decide) (by first|omega|(simp only [List.length_take,List.length_drop,List.length_append,List.length_cons,List.length_nil,List.length_set,List.length_map];omega)|decide) (by first|omega|(simp only [List.length_take,List.length_drop,List.length_append,List.length_cons,List.length_nil,List.length_set,List.length_map];omega)|decide) (by first|omega|(simp only [List.length_take,List.length_drop,List.length_append,List.length_cons,List.length_nil,List.length_set,List.length_map];omega)|decide) hrowssMainrs (by first|omega|(simp only [List.length_take,List.length_drop,List.length_append,List.length_cons,List.length_nil,List.length_set,List.length_map];omega)|decide) (by first|omega|(simp only [List.length_take,List.length_drop,List.length_append,List.length_cons,List.length_nil,List.length_set,List.length_map];omega)|decide) _ rfl) rfl rfl rfl rfl rfl (A5.pick [0,1,2,3,4,0,1,5,6] rfl) (H0 [[bx b1 [iv y0.1,iv y0.2.1,iv y0.2.2.1,iv y0.2.2.2.1,bv y0.2.2.2.2] 150],[bx sb (B1 s ⟨sMainq,sMain.length,sMaink⟩ ⟨sAltq,sAlt.length,sAltk⟩ ⟨none,0,0⟩ ⟨sTabsq,sTabs.length,sTabsk⟩) 114]] [1,0] 2 rfl (by decide) rfl [[bx sb (B1 s ⟨sMainq,sMain.length,sMaink⟩ ⟨sAltq,sAlt.length,sAltk⟩ ⟨none,0,0⟩ ⟨sTabsq,sTabs.length,sTabsk⟩) 114],[bx b1 [iv y0.1,iv y0.2.1,iv y0.2.2.1,iv y0.2.2.2.1,bv y0.2.2.2.2] 150]] rfl (by first|rfl|simp only [List.flatten_cons,List.flatten_nil,List.append_nil,List.cons_append,List.nil_append,List.append_assoc])) (fun _=>[bx sb (B1 s ⟨sMainq,sMain.length,sMaink⟩ ⟨sAltq,sAlt.length,sAltk⟩ ⟨none,0,0⟩ ⟨sTabsq,sTabs.length,sTabsk⟩) 114,bx b1 [iv y0.1,iv y0.2.1,iv y0.2.2.1,iv y0.2.2.2.1,bv y0.2.2.2.2] 150]) (fun _=>rfl)) fun _=>?_
  refine ip' 2 0 [(31,bv (!(E2 s sMain sAlt sTabs sMain)))] ?_
  refine ie ?_
  refine zjb rfl hR ?_ ?_<;>clear hR<;>intro hR h5
  ·refine A8 (Z1 (H0 [[bx sb (B1 s ⟨sMainq,sMain.length,sMaink⟩ ⟨sAltq,sAlt.length,sAltk⟩ ⟨none,0,0⟩ ⟨sTabsq,sTabs.length,sTabsk⟩) 114],[bx b1 [iv y0.1,iv y0.2.1,iv y0.2.2.1,iv y0.2.2.2.1,bv y0.2.2.2.2] 150]] [1,0] 2 rfl (by decide) rfl [[bx b1 [iv y0.1,iv y0.2.1,iv y0.2.2.1,iv y0.2.2.2.1,bv y0.2.2.2.2] 150],[bx sb (B1 s ⟨sMainq,sMain.length,sMaink⟩ ⟨sAltq,sAlt.length,sAltk⟩ ⟨none,0,0⟩ ⟨sTabsq,sTabs.length,sTabsk⟩) 114]] rfl (by first|rfl|simp)) ?_)
   exact A5w (!(E2 s sMain sAlt sTabs sMain)) hR (mk [true,true] rfl) A5.refl
  refine sr 9 rfl (zrl 6 3 [0] [(40,pt sb 0),(45,.slice sAltq sAlt.length sAltk)] ?_)
  refine it rfl (G9 (L2:=[bx b1 [iv y0.1,iv y0.2.1,iv y0.2.2.1,iv y0.2.2.2.1,bv y0.2.2.2.2] 150]) (Z7 s sMain sAlt sTabs sAlt sb sMainq sMainrs sMaink sAltq sAltrs sAltk sTabsq sTabsk sAltq sAltrs sAltk hrowssMainrs (by first|omega|(simp only [List.length_take,List.length_drop,List.length_append,List.length_cons,List.length_nil,List.length_set,List.length_map];omega)|decide) (by first|omega|(simp only [List.length_take,List.length_drop,List.length_append,List.length_cons,List.length_nil,List.length_set,List.length_map];omega)|decide) hrowssAltrs (by first|omega|(simp only [List.length_take,List.length_drop,List.length_append,List.length_cons,List.length_nil,List.length_set,List.length_map];omega)|decide) (by first|omega|(simp only [List.length_take,List.length_drop,List.length_append,List.length_cons,List.length_nil,List.length_set,List.length_map];omega)|decide) (by first|omega|(simp only [List.length_take,List.length_drop,List.length_append,List.length_cons,List.length_nil,List.length_set,List.length_map];omega)|decide) (by first|omega|(simp only [List.length_take,List.length_drop,List.length_append,List.length_cons,List.length_nil,List.length_set,List.length_map];omega)|decide) hrowssAltrs (by first|omega|(simp only [List.length_take,List.length_drop,List.length_append,List.length_cons,List.length_nil,List.length_set,List.length_map];omega)|decide) (by first|omega|(simp only [List.length_take,List.length_drop,List.length_append,List.length_cons,List.length_nil,List.length_set,List.length_map];omega)|decide) _ rfl) rfl rfl rfl rfl rfl (A5.pick [0,1,2,3,4,2,3,5,6] rfl) (H0 [[bx sb (B1 s ⟨sMainq,sMain.length,sMaink⟩ ⟨sAltq,sAlt.length,sAltk⟩ ⟨none,0,0⟩ ⟨sTabsq,sTabs.length,sTabsk⟩) 114],[bx b1 [iv y0.1,iv y0.2.1,iv y0.2.2.1,iv y0.2.2.2.1,bv y0.2.2.2.2] 150]] [0,1] 2 rfl (by decide) rfl [[bx sb (B1 s ⟨sMainq,sMain.length,sMaink⟩ ⟨sAltq,sAlt.length,sAltk⟩ ⟨none,0,0⟩ ⟨sTabsq,sTabs.length,sTabsk⟩) 114],[bx b1 [iv y0.1,iv y0.2.1,iv y0.2.2.1,iv y0.2.2.2.1,bv y0.2.2.2.2] 150]] rfl (by first|rfl|simp only [List.flatten_cons,List.flatten_nil,List.append_nil,List.cons_append,List.nil_append,List.append_assoc])) (fun _=>[bx sb (B1 s ⟨sMainq,sMain.length,sMaink⟩ ⟨sAltq,sAlt.length,sAltk⟩ ⟨none,0,0⟩ ⟨sTabsq,sTabs.length,sTabsk⟩) 114,bx b1 [iv y0.1,iv y0.2.1,iv y0.2.2.1,iv y0.2.2.2.1,bv y0.2.2.2.2] 150]) (fun _=>rfl)) fun _=>?_
  refine ip' 2 0 [(31,bv (!(E2 s sMain sAlt sTabs sAlt)))] ?_
  refine ie ?_
  refine zjb rfl hR ?_ ?_<;>clear hR<;>intro hR h6
  ·refine A8 (Z1 (H0 [[bx sb (B1 s ⟨sMainq,sMain.length,sMaink⟩ ⟨sAltq,sAlt.length,sAltk⟩ ⟨none,0,0⟩ ⟨sTabsq,sTabs.length,sTabsk⟩) 114],[bx b1 [iv y0.1,iv y0.2.1,iv y0.2.2.1,iv y0.2.2.2.1,bv y0.2.2.2.2] 150]] [1,0] 2 rfl (by decide) rfl [[bx b1 [iv y0.1,iv y0.2.1,iv y0.2.2.1,iv y0.2.2.2.1,bv y0.2.2.2.2] 150],[bx sb (B1 s ⟨sMainq,sMain.length,sMaink⟩ ⟨sAltq,sAlt.length,sAltk⟩ ⟨none,0,0⟩ ⟨sTabsq,sTabs.length,sTabsk⟩) 114]] rfl (by first|rfl|simp)) ?_)
   exact A5w (!(E2 s sMain sAlt sTabs sAlt)) hR (mk [true,true] rfl) A5.refl
  refine sd 13 rfl (by kernel_rfl) rfl ?_
  refine zdg 10 3 [0,0] [(52,iv s.cols),(57,.slice none 0 0)] ?_
  refine zcd (B2k s.cols _ rfl) fn0 ?_
  refine dp' 2 0 [(31,bv (!decide ((X4 s.cols)=0)))] ?_
  refine de ?_
  refine zjn rfl hR ?_ ?_<;>clear hR<;>intro hR h7 h7p
  ·refine A8 (Z1 (H0 [[bx sb (B1 s ⟨sMainq,sMain.length,sMaink⟩ ⟨sAltq,sAlt.length,sAltk⟩ ⟨none,0,0⟩ ⟨sTabsq,sTabs.length,sTabsk⟩) 114],[bx b1 [iv y0.1,iv y0.2.1,iv y0.2.2.1,iv y0.2.2.2.1,bv y0.2.2.2.2] 150]] [1,0] 2 rfl (by decide) rfl [[bx b1 [iv y0.1,iv y0.2.1,iv y0.2.2.1,iv y0.2.2.2.1,bv y0.2.2.2.2] 150],[bx sb (B1 s ⟨sMainq,sMain.length,sMaink⟩ ⟨sAltq,sAlt.length,sAltk⟩ ⟨none,0,0⟩ ⟨sTabsq,sTabs.length,sTabsk⟩) 114]] rfl (by first|rfl|simp)) ?_)
   exact A5w (!decide ((X4 s.cols)=0)) hR (mk [true,true] rfl) A5.refl
  refine B7n 13 rfl (by kernel_rfl) rfl ?_
  refine zdg 13 0 [0,0] [(31,bv (!decide ((sTabs.length:Int)=s.cols)))] ?_
  refine A8i (Z1 (H0 [[bx sb (B1 s ⟨sMainq,sMain.length,sMaink⟩ ⟨sAltq,sAlt.length,sAltk⟩ ⟨none,0,0⟩ ⟨sTabsq,sTabs.length,sTabsk⟩) 114],[bx b1 [iv y0.1,iv y0.2.1,iv y0.2.2.1,iv y0.2.2.2.1,bv y0.2.2.2.2] 150]] [1,0] 2 rfl (by decide) rfl [[bx b1 [iv y0.1,iv y0.2.1,iv y0.2.2.1,iv y0.2.2.2.1,bv y0.2.2.2.2] 150],[bx sb (B1 s ⟨sMainq,sMain.length,sMaink⟩ ⟨sAltq,sAlt.length,sAltk⟩ ⟨none,0,0⟩ ⟨sTabsq,sTabs.length,sTabsk⟩) 114]] rfl (by first|rfl|simp)) ?_)
  exact A5w (!decide ((sTabs.length:Int)=s.cols)) hR (mk [true,true] rfl) A5.refl
 intro t31
 rintro hR
 replace hR:=(J3.eq_1 ..).symm.trans hR
 refine zjb rfl hR ?_ ?_<;>clear hR<;>intro hR h8
 ·refine sr 1 rfl (ip' 1 0 [(2,bv false)] ?_)
  subst hR
  refine ie (B4 ?_)
  exact zer hr hD (R1 rfl (B5 rfl)) () (mk [false,true] rfl) fn0
 refine C0i (fun (t72:Bool)=>(M4 s t72=R,[(0,pt sb 0),(72,bv t72)],[bx b1 [iv y0.1,iv y0.2.1,iv y0.2.2.1,iv y0.2.2.2.1,bv y0.2.2.2.2] 150,bx sb (B1 s ⟨sMainq,sMain.length,sMaink⟩ ⟨sAltq,sAlt.length,sAltk⟩ ⟨none,0,0⟩ ⟨sTabsq,sTabs.length,sTabsk⟩) 114],[sl C4 sMainq sMainrs,D9 B3 sMainrs sMain,sl C4 sAltq sAltrs,D9 B3 sAltrs sAlt,sl F6 sTabsq sTabs,X9,Z3])) ?_ ?_
 ·refine sr 8 rfl (zrl 5 3 [1] [(77,ag (J8 s.style))] ?_)
  refine zca (V8 s.style _ rfl) fn0 ?_
  refine ip' 2 0 [(72,bv (!decide ((D4 s.style)=0)))] ?_
  refine ie ?_
  refine zjn rfl hR ?_ ?_<;>clear hR<;>intro hR h9 h9p
  ·refine A8 ?_
   exact A5w (!decide ((D4 s.style)=0)) hR (mk [true,true] rfl) A5.refl
  refine sr 8 rfl (zrl 5 3 [1] [(84,ag (A4q s.sets))] ?_)
  refine zca (A7y s.sets _ rfl) fn0 ?_
  refine ip' 2 0 [(72,bv (!decide ((L4 s.sets)=0)))] ?_
  refine ie ?_
  refine zjn rfl hR ?_ ?_<;>clear hR<;>intro hR h10 h10p
  ·refine A8 ?_
   exact A5w (!decide ((L4 s.sets)=0)) hR (mk [true,true] rfl) A5.refl
  refine A1 8 rfl (zrl 5 3 [1] [(91,ag (A2c s.modes))] ?_)
  refine zca (B4x s.modes _ rfl) fn0 ?_
  refine ip' 2 0 [(72,bv (!decide ((A0i s.modes)=0)))] ?_
  refine A6 ?_
  exact A5w (!decide ((A0i s.modes)=0)) hR (mk [true,true] rfl) A5.refl
 intro t72
 rintro hR
 replace hR:=(M4.eq_1 ..).symm.trans hR
 refine zjb rfl hR ?_ ?_<;>clear hR<;>intro hR h11
 ·refine sr 1 rfl (ip' 1 0 [(2,bv false)] ?_)
  subst hR
  refine ie (B4 ?_)
  exact zer hr hD (R1 rfl (B5 rfl)) () (mk [false,true] rfl) fn0
 refine A4 (sr 7 rfl (zrl 7 0 [1] [(94,bv (decide (s.shape<0)))] ?_))
 refine ie ?_
 refine zjd rfl hR ?_ ?_<;>clear hR<;>intro hR h12 h12p
 ·refine A8 (nx ?_)
  refine zjd rfl hR ?_ ?_<;>clear hR<;>intro hR h13 h13p
  ·refine sr 1 rfl (ip' 1 0 [(2,bv false)] ?_)
   subst hR
   refine ie (B4 ?_)
   exact zer hr hD (R1 rfl (B5 rfl)) () (mk [false,true] rfl) fn0
  refine A8 (nx (sr 16 rfl (zrl 7 9 [1] [(121,bv (decide (s.last=0)))] ?_)))
  refine zir 8 1 121 129 (decide ((0:Int)<(F0 s.last))) (fun g14 g14p=>?_) ?_
  ·refine zrl 5 3 [1] [(126,iv s.last)] ?_
   refine zca (A0e s.last _ rfl) (A5.pick [5,6] rfl) ?_
   refine ip' 2 0 [(129,bv (decide ((0:Int)<(F0 s.last))))] ?_
   exact zai 4 121 129 g14
  refine ip' 1 0 [(2,bv ((decide (s.last=0))||(decide ((0:Int)<(F0 s.last)))))] ?_
  subst hR
  refine ie (B4 ?_)
  exact zer hr hD (R1 rfl (B5 rfl)) () (mk [false,true] rfl) fn0
 refine sr 7 rfl (zrl 7 0 [1] [(94,bv (decide ((6:Int)<s.shape)))] ?_)
 refine ie ?_
 refine zjd rfl hR ?_ ?_<;>clear hR<;>intro hR h15 h15p
 ·refine A8 (nx ?_)
  refine zjd rfl hR ?_ ?_<;>clear hR<;>intro hR h16 h16p
  ·refine sr 1 rfl (ip' 1 0 [(2,bv false)] ?_)
   subst hR
   refine ie (B4 ?_)
   exact zer hr hD (R1 rfl (B5 rfl)) () (mk [false,true] rfl) fn0
  refine A8 (nx (sr 16 rfl (zrl 7 9 [1] [(121,bv (decide (s.last=0)))] ?_)))
  refine zir 8 1 121 129 (decide ((0:Int)<(F0 s.last))) (fun g17 g17p=>?_) ?_
  ·refine zrl 5 3 [1] [(126,iv s.last)] ?_
   refine zca (A0e s.last _ rfl) (A5.pick [5,6] rfl) ?_
   refine ip' 2 0 [(129,bv (decide ((0:Int)<(F0 s.last))))] ?_
   exact zai 4 121 129 g17
  refine ip' 1 0 [(2,bv ((decide (s.last=0))||(decide ((0:Int)<(F0 s.last)))))] ?_
  subst hR
  refine ie (B4 ?_)
  exact zer hr hD (R1 rfl (B5 rfl)) () (mk [false,true] rfl) fn0
 refine A1 9 rfl (zrl 6 3 [1] [(112,ag (F4 ({Act.zero with kind:=44,text:=s.title})))] ?_)
 refine zca (A5h 0 0 Col.zero s.title (by first|omega|(simp only [List.length_nil];omega)) _ rfl) fn0 ?_
 refine ip' 2 0 [(94,bv (!decide ((M6 0 0 Col.zero s.title)=0)))] ?_
 refine A6 (nx ?_)
 refine zjn rfl hR ?_ ?_<;>clear hR<;>intro hR h18 h18p
 ·refine sr 1 rfl (ip' 1 0 [(2,bv false)] ?_)
  subst hR
  refine ie (B4 ?_)
  exact zer hr hD (R1 rfl (B5 rfl)) () (mk [false,true] rfl) fn0
 refine A8 (nx (sr 16 rfl (zrl 7 9 [1] [(121,bv (decide (s.last=0)))] ?_)))
 refine zir 8 1 121 129 (decide ((0:Int)<(F0 s.last))) (fun g19 g19p=>?_) ?_
 ·refine zrl 5 3 [1] [(126,iv s.last)] ?_
  refine zca (A0e s.last _ rfl) (A5.pick [5,6] rfl) ?_
  refine ip' 2 0 [(129,bv (decide ((0:Int)<(F0 s.last))))] ?_
  exact zai 4 121 129 g19
 refine ip' 1 0 [(2,bv ((decide (s.last=0))||(decide ((0:Int)<(F0 s.last)))))] ?_
 subst hR
 refine ie (B4 ?_)
 exact zer hr hD (R1 rfl (B5 rfl)) () (mk [false,true] rfl) fn0
def I5 (s:ScrC) (sMain:List (Rwc Cel)) (sAlt:List (Rwc Cel)) (sTabs:List Bool):Int :=
 (bif (!(K5 s sMain sAlt sTabs)) then 300 else 0)
theorem A8t {s:ScrC} {m a:List (Rwc Cel)} {t:List Bool} (h:I5 s m a t=0):m.length≤100∧a.length≤100:=by
 have hv:K5 s m a t=true:=by
  unfold I5 at h
  cases hx:K5 s m a t with
  | true=>rfl
  | false=>rw [hx] at h;cases h
 have hs:E2 s m a t m=true∧E2 s m a t a=true:=by
  unfold K5 K3 R0 H3 at hv
  revert hv
  cases E2 s m a t m<;>cases E2 s m a t a<;>simp [J3]
 have hg:∀ g:List (Rwc Cel),E2 s m a t g=true→g.length≤100:=fun g hg=>by
  unfold E2 N1 at hg
  simp only [Bool.and_eq_true,decide_eq_true_eq] at hg
  have hg:=hg.1.1
  cases hb:((decide ((g.length:Int)<1))||(decide ((40:Int)<(g.length:Int)))) with
  | true=>rw [hb] at hg;cases hg
  | false=>simp only [Bool.or_eq_false_iff,decide_eq_false_iff_not] at hb;omega
 exact ⟨hg m hs.1,hg a hs.2⟩
theorem A4h (s:ScrC) (sMain:List (Rwc Cel)) (sAlt:List (Rwc Cel)) (sTabs:List Bool) (sMainq:Option Addr) (sMainrs:List Rwq) (sMaink:Nat) (sAltq:Option Addr) (sAltrs:List Rwq) (sAltk:Nat) (sTabsq:Option Addr) (sTabsk:Nat) (hrowssMainrs:E6 sMainrs sMain) (hlsMain:sMain.length≤9223372036854775807) (hcsMain:sMain.length≤sMaink) (hrowssAltrs:E6 sAltrs sAlt) (hlsAlt:sAlt.length≤9223372036854775807) (hcsAlt:sAlt.length≤sAltk) (hlsTabs:sTabs.length≤9223372036854775807) (hcsTabs:sTabs.length≤sTabsk) (hTs:s.title.length≤100000000) (R:Int) (hR:I5 s sMain sAlt sTabs=R):M9 Tryz.prog 30 [ag (B1 s ⟨sMainq,sMain.length,sMaink⟩ ⟨sAltq,sAlt.length,sAltk⟩ ⟨none,0,0⟩ ⟨sTabsq,sTabs.length,sTabsk⟩)] [sl C4 sMainq sMainrs,D9 B3 sMainrs sMain,sl C4 sAltq sAltrs,D9 B3 sAltrs sAlt,sl F6 sTabsq sTabs,X9,Z3] (iv R):=by
 refine zco Tryz.func30 [(0,ag (B1 s ⟨sMainq,sMain.length,sMaink⟩ ⟨sAltq,sAlt.length,sAltk⟩ ⟨none,0,0⟩ ⟨sTabsq,sTabs.length,sTabsk⟩))] fun X hX hr hD=>?_
 replace hR:=(I5.eq_1 ..).symm.trans hR
 have:=hrowssMainrs.1
 have:=hrowssAltrs.1
 refine sr 2 rfl (K6 2 0 [] (fun b1=>[(1,pt b1 0)]) (fun b1=>[bx b1 (B1 s ⟨sMainq,sMain.length,sMaink⟩ ⟨sAltq,sAlt.length,sAltk⟩ ⟨none,0,0⟩ ⟨sTabsq,sTabs.length,sTabsk⟩) 52]) (fun b1=>?_))
 refine ie (A4 (sr 4 rfl (K6 4 0 [0] (fun b2=>[(3,pt b2 0)]) (fun b2=>[bx b2 (B1 s ⟨sMainq,sMain.length,sMaink⟩ ⟨sAltq,sAlt.length,sAltk⟩ ⟨none,0,0⟩ ⟨sTabsq,sTabs.length,sTabsk⟩) 114,bx b1 (B1 s ⟨sMainq,sMain.length,sMaink⟩ ⟨sAltq,sAlt.length,sAltk⟩ ⟨none,0,0⟩ ⟨sTabsq,sTabs.length,sTabsk⟩) 52]) (fun b2=>?_))))
 refine ie (sr 3 rfl (ip' 1 2 [(7,pt b2 0)] ?_))
 refine it rfl (G9 (L2:=[bx b1 (B1 s ⟨sMainq,sMain.length,sMaink⟩ ⟨sAltq,sAlt.length,sAltk⟩ ⟨none,0,0⟩ ⟨sTabsq,sTabs.length,sTabsk⟩) 52]) (A4j s sMain sAlt sTabs b2 sMainq sMainrs sMaink sAltq sAltrs sAltk sTabsq sTabsk hrowssMainrs (by first|omega|(simp only [List.length_take,List.length_drop,List.length_append,List.length_cons,List.length_nil,List.length_set,List.length_map];omega)|decide) (by first|omega|(simp only [List.length_take,List.length_drop,List.length_append,List.length_cons,List.length_nil,List.length_set,List.length_map];omega)|decide) hrowssAltrs (by first|omega|(simp only [List.length_take,List.length_drop,List.length_append,List.length_cons,List.length_nil,List.length_set,List.length_map];omega)|decide) (by first|omega|(simp only [List.length_take,List.length_drop,List.length_append,List.length_cons,List.length_nil,List.length_set,List.length_map];omega)|decide) (by first|omega|(simp only [List.length_take,List.length_drop,List.length_append,List.length_cons,List.length_nil,List.length_set,List.length_map];omega)|decide) (by first|omega|(simp only [List.length_take,List.length_drop,List.length_append,List.length_cons,List.length_nil,List.length_set,List.length_map];omega)|decide) (by first|omega|(simp only [List.length_nil];omega)|(dsimp only;omega)) _ rfl) rfl rfl rfl rfl rfl A5.refl (H0 [[bx b2 (B1 s ⟨sMainq,sMain.length,sMaink⟩ ⟨sAltq,sAlt.length,sAltk⟩ ⟨none,0,0⟩ ⟨sTabsq,sTabs.length,sTabsk⟩) 114],[bx b1 (B1 s ⟨sMainq,sMain.length,sMaink⟩ ⟨sAltq,sAlt.length,sAltk⟩ ⟨none,0,0⟩ ⟨sTabsq,sTabs.length,sTabsk⟩) 52]] [0,1] 2 rfl (by decide) rfl [[bx b2 (B1 s ⟨sMainq,sMain.length,sMaink⟩ ⟨sAltq,sAlt.length,sAltk⟩ ⟨none,0,0⟩ ⟨sTabsq,sTabs.length,sTabsk⟩) 114],[bx b1 (B1 s ⟨sMainq,sMain.length,sMaink⟩ ⟨sAltq,sAlt.length,sAltk⟩ ⟨none,0,0⟩ ⟨sTabsq,sTabs.length,sTabsk⟩) 52]] rfl (by first|rfl|simp only [List.flatten_cons,List.flatten_nil,List.append_nil,List.cons_append,List.nil_append,List.append_assoc])) (fun _=>[bx b2 (B1 s ⟨sMainq,sMain.length,sMaink⟩ ⟨sAltq,sAlt.length,sAltk⟩ ⟨none,0,0⟩ ⟨sTabsq,sTabs.length,sTabsk⟩) 114,bx b1 (B1 s ⟨sMainq,sMain.length,sMaink⟩ ⟨sAltq,sAlt.length,sAltk⟩ ⟨none,0,0⟩ ⟨sTabsq,sTabs.length,sTabsk⟩) 52]) (fun _=>rfl)) fun _=>?_
 refine ip' 1 0 [(9,bv (!(K5 s sMain sAlt sTabs)))] ?_
 refine ie ?_
 refine zjb rfl hR ?_ ?_<;>clear hR<;>intro hR h3
 ·refine sr 1 rfl (ip' 1 0 [(2,iv 300)] ?_)
  subst hR
  refine ie (B4 ?_)
  exact F8 hr hD
 refine A8 (nx (sr 1 rfl (ip' 1 0 [(2,iv 0)] ?_)))
 subst hR
 refine ie (B4 ?_)
 exact F8 hr hD
def A7:Unit :=
 ()
theorem B0c (R:Unit) (hR:A7=R):M9 Tryz.prog 127 [] [] (.tuple #[.func (.func 128) #[ag (C0 (⟨0,0⟩:Spn))] #[],.func (.func 128) #[ag (C0 (⟨0,1⟩:Spn))] #[],.func (.func 128) #[ag (C0 (⟨1,9999⟩:Spn))] #[],.func (.func 128) #[ag (C0 (⟨0,9999⟩:Spn))] #[]]):=by
 refine zco Tryz.func127 [] fun X hX hr hD=>?_
 replace hR:=(A7.eq_1 ..).symm.trans hR
 refine sr 4 rfl (ip' 4 0 [] ?_)
 refine ie (sr 12 rfl (zrl 12 0 [] [(0,.func (.func 128) #[ag (C0 (⟨0,0⟩:Spn))] #[]),(1,.func (.func 128) #[ag (C0 (⟨0,1⟩:Spn))] #[]),(2,.func (.func 128) #[ag (C0 (⟨1,9999⟩:Spn))] #[]),(3,.func (.func 128) #[ag (C0 (⟨0,9999⟩:Spn))] #[])] ?_))
 subst hR
 refine ie (B4 ?_)
 exact zer hr hD (C8t rfl (B5 rfl) (B5 rfl) (B5 rfl) (B5 rfl)) () (mk [] rfl) fn0
def me0:Value:=ag [.func (.func 128) #[ag (C0 (⟨0,3⟩:Spn))] #[],.func (.func 128) #[ag (C0 (⟨0,1⟩:Spn))] #[]]
def mt0:List (Int×Value):=[(17,me0)]
def me1:Value:=ag [.func (.func 128) #[ag (C0 (⟨2,3⟩:Spn))] #[],.func (.func 128) #[ag (C0 (⟨0,0⟩:Spn))] #[]]
def mt1:List (Int×Value):=[(17,me0),(18,me1)]
def me2:Value:=ag [.func (.func 128) #[ag (C0 (⟨1,9999⟩:Spn))] #[],.func (.func 128) #[ag (C0 (⟨1,9999⟩:Spn))] #[]]
def mt2:List (Int×Value):=[(17,me0),(18,me1),(19,me2)]
def me3:Value:=ag [.func (.func 128) #[ag (C0 (⟨0,3⟩:Spn))] #[],.func (.func 128) #[ag (C0 (⟨1,9999⟩:Spn))] #[]]
def mt3:List (Int×Value):=[(17,me0),(18,me1),(19,me2),(20,me3)]
def me4:Value:=ag [.func (.func 128) #[ag (C0 (⟨0,3⟩:Spn))] #[],.func (.func 128) #[ag (C0 (⟨0,0⟩:Spn))] #[]]
def mt4:List (Int×Value):=[(17,me0),(18,me1),(19,me2),(20,me3),(26,me4)]
def me5:Value:=ag [.func (.func 128) #[ag (C0 (⟨0,2⟩:Spn))] #[],.func (.func 128) #[ag (C0 (⟨0,0⟩:Spn))] #[]]
def mt5:List (Int×Value):=[(17,me0),(18,me1),(19,me2),(20,me3),(26,me4),(27,me5)]
def me6:Value:=ag [.func (.func 129) #[] #[],.func (.func 128) #[ag (C0 (⟨0,0⟩:Spn))] #[]]
def mt6:List (Int×Value):=[(17,me0),(18,me1),(19,me2),(20,me3),(26,me4),(27,me5),(35,me6)]
def me7:Value:=ag [.func (.func 128) #[ag (C0 (⟨0,9999⟩:Spn))] #[],.func (.func 128) #[ag (C0 (⟨0,9999⟩:Spn))] #[]]
def mt7:List (Int×Value):=[(17,me0),(18,me1),(19,me2),(20,me3),(26,me4),(27,me5),(35,me6),(38,me7)]
def me8:Value:=ag [.func (.func 128) #[ag (C0 (⟨0,6⟩:Spn))] #[],.func (.func 128) #[ag (C0 (⟨0,0⟩:Spn))] #[]]
def mt8:List (Int×Value):=[(17,me0),(18,me1),(19,me2),(20,me3),(26,me4),(27,me5),(35,me6),(38,me7),(40,me8)]
def me9:Value:=ag [.func (.func 128) #[ag (C0 (⟨5,6⟩:Spn))] #[],.func (.func 128) #[ag (C0 (⟨0,0⟩:Spn))] #[]]
def mt9:List (Int×Value):=[(17,me0),(18,me1),(19,me2),(20,me3),(26,me4),(27,me5),(35,me6),(38,me7),(40,me8),(41,me9)]
def W6:Value:=ag [.func (.func 128) #[ag (C0 (⟨0,0⟩:Spn))] #[],.func (.func 128) #[ag (C0 (⟨0,0⟩:Spn))] #[]]
def C5p:List (Int×Value):=[(17,me0),(18,me1),(19,me2),(20,me3),(26,me4),(27,me5),(35,me6),(38,me7),(40,me8),(41,me9),(2,W6)]
def X6:Value:=ag [.func (.func 128) #[ag (C0 (⟨0,0⟩:Spn))] #[],.func (.func 128) #[ag (C0 (⟨0,0⟩:Spn))] #[]]
def C5q:List (Int×Value):=[(17,me0),(18,me1),(19,me2),(20,me3),(26,me4),(27,me5),(35,me6),(38,me7),(40,me8),(41,me9),(2,W6),(3,X6)]
def Y7:Value:=ag [.func (.func 128) #[ag (C0 (⟨0,0⟩:Spn))] #[],.func (.func 128) #[ag (C0 (⟨0,0⟩:Spn))] #[]]
def C6r:List (Int×Value):=[(17,me0),(18,me1),(19,me2),(20,me3),(26,me4),(27,me5),(35,me6),(38,me7),(40,me8),(41,me9),(2,W6),(3,X6),(4,Y7)]
def Z6:Value:=ag [.func (.func 128) #[ag (C0 (⟨0,0⟩:Spn))] #[],.func (.func 128) #[ag (C0 (⟨0,0⟩:Spn))] #[]]
def C6l:List (Int×Value):=[(17,me0),(18,me1),(19,me2),(20,me3),(26,me4),(27,me5),(35,me6),(38,me7),(40,me8),(41,me9),(2,W6),(3,X6),(4,Y7),(5,Z6)]
def A0b:Value:=ag [.func (.func 128) #[ag (C0 (⟨0,0⟩:Spn))] #[],.func (.func 128) #[ag (C0 (⟨0,0⟩:Spn))] #[]]
def C5s:List (Int×Value):=[(17,me0),(18,me1),(19,me2),(20,me3),(26,me4),(27,me5),(35,me6),(38,me7),(40,me8),(41,me9),(2,W6),(3,X6),(4,Y7),(5,Z6),(6,A0b)]
def A0s:Value:=ag [.func (.func 128) #[ag (C0 (⟨0,0⟩:Spn))] #[],.func (.func 128) #[ag (C0 (⟨0,0⟩:Spn))] #[]]
def C6k:List (Int×Value):=[(17,me0),(18,me1),(19,me2),(20,me3),(26,me4),(27,me5),(35,me6),(38,me7),(40,me8),(41,me9),(2,W6),(3,X6),(4,Y7),(5,Z6),(6,A0b),(8,A0s)]
def A1d:Value:=ag [.func (.func 128) #[ag (C0 (⟨0,0⟩:Spn))] #[],.func (.func 128) #[ag (C0 (⟨0,0⟩:Spn))] #[]]
def C6v:List (Int×Value):=[(17,me0),(18,me1),(19,me2),(20,me3),(26,me4),(27,me5),(35,me6),(38,me7),(40,me8),(41,me9),(2,W6),(3,X6),(4,Y7),(5,Z6),(6,A0b),(8,A0s),(9,A1d)]
def A1h:Value:=ag [.func (.func 128) #[ag (C0 (⟨0,0⟩:Spn))] #[],.func (.func 128) #[ag (C0 (⟨0,0⟩:Spn))] #[]]
def C6h:List (Int×Value):=[(17,me0),(18,me1),(19,me2),(20,me3),(26,me4),(27,me5),(35,me6),(38,me7),(40,me8),(41,me9),(2,W6),(3,X6),(4,Y7),(5,Z6),(6,A0b),(8,A0s),(9,A1d),(10,A1h)]
def A1z:Value:=ag [.func (.func 128) #[ag (C0 (⟨0,0⟩:Spn))] #[],.func (.func 128) #[ag (C0 (⟨0,0⟩:Spn))] #[]]
def C6o:List (Int×Value):=[(17,me0),(18,me1),(19,me2),(20,me3),(26,me4),(27,me5),(35,me6),(38,me7),(40,me8),(41,me9),(2,W6),(3,X6),(4,Y7),(5,Z6),(6,A0b),(8,A0s),(9,A1d),(10,A1h),(11,A1z)]
def A2i:Value:=ag [.func (.func 128) #[ag (C0 (⟨0,0⟩:Spn))] #[],.func (.func 128) #[ag (C0 (⟨0,0⟩:Spn))] #[]]
def C5c:List (Int×Value):=[(17,me0),(18,me1),(19,me2),(20,me3),(26,me4),(27,me5),(35,me6),(38,me7),(40,me8),(41,me9),(2,W6),(3,X6),(4,Y7),(5,Z6),(6,A0b),(8,A0s),(9,A1d),(10,A1h),(11,A1z),(12,A2i)]
def A2u:Value:=ag [.func (.func 128) #[ag (C0 (⟨0,0⟩:Spn))] #[],.func (.func 128) #[ag (C0 (⟨0,0⟩:Spn))] #[]]
def C6c:List (Int×Value):=[(17,me0),(18,me1),(19,me2),(20,me3),(26,me4),(27,me5),(35,me6),(38,me7),(40,me8),(41,me9),(2,W6),(3,X6),(4,Y7),(5,Z6),(6,A0b),(8,A0s),(9,A1d),(10,A1h),(11,A1z),(12,A2i),(13,A2u)]
def A3c:Value:=ag [.func (.func 128) #[ag (C0 (⟨0,0⟩:Spn))] #[],.func (.func 128) #[ag (C0 (⟨0,0⟩:Spn))] #[]]
def C6t:List (Int×Value):=[(17,me0),(18,me1),(19,me2),(20,me3),(26,me4),(27,me5),(35,me6),(38,me7),(40,me8),(41,me9),(2,W6),(3,X6),(4,Y7),(5,Z6),(6,A0b),(8,A0s),(9,A1d),(10,A1h),(11,A1z),(12,A2i),(13,A2u),(15,A3c)]
def A4e:Value:=ag [.func (.func 128) #[ag (C0 (⟨0,0⟩:Spn))] #[],.func (.func 128) #[ag (C0 (⟨0,0⟩:Spn))] #[]]
def C5w:List (Int×Value):=[(17,me0),(18,me1),(19,me2),(20,me3),(26,me4),(27,me5),(35,me6),(38,me7),(40,me8),(41,me9),(2,W6),(3,X6),(4,Y7),(5,Z6),(6,A0b),(8,A0s),(9,A1d),(10,A1h),(11,A1z),(12,A2i),(13,A2u),(15,A3c),(16,A4e)]
def A4n:Value:=ag [.func (.func 128) #[ag (C0 (⟨0,1⟩:Spn))] #[],.func (.func 128) #[ag (C0 (⟨0,0⟩:Spn))] #[]]
def C5h:List (Int×Value):=[(17,me0),(18,me1),(19,me2),(20,me3),(26,me4),(27,me5),(35,me6),(38,me7),(40,me8),(41,me9),(2,W6),(3,X6),(4,Y7),(5,Z6),(6,A0b),(8,A0s),(9,A1d),(10,A1h),(11,A1z),(12,A2i),(13,A2u),(15,A3c),(16,A4e),(7,A4n)]
def A4u:Value:=ag [.func (.func 128) #[ag (C0 (⟨0,1⟩:Spn))] #[],.func (.func 128) #[ag (C0 (⟨0,0⟩:Spn))] #[]]
def C5o:List (Int×Value):=[(17,me0),(18,me1),(19,me2),(20,me3),(26,me4),(27,me5),(35,me6),(38,me7),(40,me8),(41,me9),(2,W6),(3,X6),(4,Y7),(5,Z6),(6,A0b),(8,A0s),(9,A1d),(10,A1h),(11,A1z),(12,A2i),(13,A2u),(15,A3c),(16,A4e),(7,A4n),(14,A4u)]
def A6b:Value:=ag [.func (.func 128) #[ag (C0 (⟨0,1⟩:Spn))] #[],.func (.func 128) #[ag (C0 (⟨0,0⟩:Spn))] #[]]
def C6q:List (Int×Value):=[(17,me0),(18,me1),(19,me2),(20,me3),(26,me4),(27,me5),(35,me6),(38,me7),(40,me8),(41,me9),(2,W6),(3,X6),(4,Y7),(5,Z6),(6,A0b),(8,A0s),(9,A1d),(10,A1h),(11,A1z),(12,A2i),(13,A2u),(15,A3c),(16,A4e),(7,A4n),(14,A4u),(42,A6b)]
def A6l:Value:=ag [.func (.func 128) #[ag (C0 (⟨0,1⟩:Spn))] #[],.func (.func 128) #[ag (C0 (⟨1,9999⟩:Spn))] #[]]
def C5j:List (Int×Value):=[(17,me0),(18,me1),(19,me2),(20,me3),(26,me4),(27,me5),(35,me6),(38,me7),(40,me8),(41,me9),(2,W6),(3,X6),(4,Y7),(5,Z6),(6,A0b),(8,A0s),(9,A1d),(10,A1h),(11,A1z),(12,A2i),(13,A2u),(15,A3c),(16,A4e),(7,A4n),(14,A4u),(42,A6b),(21,A6l)]
def A8a:Value:=ag [.func (.func 128) #[ag (C0 (⟨0,1⟩:Spn))] #[],.func (.func 128) #[ag (C0 (⟨1,9999⟩:Spn))] #[]]
def C6n:List (Int×Value):=[(17,me0),(18,me1),(19,me2),(20,me3),(26,me4),(27,me5),(35,me6),(38,me7),(40,me8),(41,me9),(2,W6),(3,X6),(4,Y7),(5,Z6),(6,A0b),(8,A0s),(9,A1d),(10,A1h),(11,A1z),(12,A2i),(13,A2u),(15,A3c),(16,A4e),(7,A4n),(14,A4u),(42,A6b),(21,A6l),(33,A8a)]
def A8v:Value:=ag [.func (.func 128) #[ag (C0 (⟨1,9999⟩:Spn))] #[],.func (.func 128) #[ag (C0 (⟨0,0⟩:Spn))] #[]]
def C5t:List (Int×Value):=[(17,me0),(18,me1),(19,me2),(20,me3),(26,me4),(27,me5),(35,me6),(38,me7),(40,me8),(41,me9),(2,W6),(3,X6),(4,Y7),(5,Z6),(6,A0b),(8,A0s),(9,A1d),(10,A1h),(11,A1z),(12,A2i),(13,A2u),(15,A3c),(16,A4e),(7,A4n),(14,A4u),(42,A6b),(21,A6l),(33,A8a),(22,A8v)]
def A9z:Value:=ag [.func (.func 128) #[ag (C0 (⟨1,9999⟩:Spn))] #[],.func (.func 128) #[ag (C0 (⟨0,0⟩:Spn))] #[]]
def C6f:List (Int×Value):=[(17,me0),(18,me1),(19,me2),(20,me3),(26,me4),(27,me5),(35,me6),(38,me7),(40,me8),(41,me9),(2,W6),(3,X6),(4,Y7),(5,Z6),(6,A0b),(8,A0s),(9,A1d),(10,A1h),(11,A1z),(12,A2i),(13,A2u),(15,A3c),(16,A4e),(7,A4n),(14,A4u),(42,A6b),(21,A6l),(33,A8a),(22,A8v),(23,A9z)]
def B2g:Value:=ag [.func (.func 128) #[ag (C0 (⟨1,9999⟩:Spn))] #[],.func (.func 128) #[ag (C0 (⟨0,0⟩:Spn))] #[]]
def C6d:List (Int×Value):=[(17,me0),(18,me1),(19,me2),(20,me3),(26,me4),(27,me5),(35,me6),(38,me7),(40,me8),(41,me9),(2,W6),(3,X6),(4,Y7),(5,Z6),(6,A0b),(8,A0s),(9,A1d),(10,A1h),(11,A1z),(12,A2i),(13,A2u),(15,A3c),(16,A4e),(7,A4n),(14,A4u),(42,A6b),(21,A6l),(33,A8a),(22,A8v),(23,A9z),(24,B2g)]
def B2t:Value:=ag [.func (.func 128) #[ag (C0 (⟨1,9999⟩:Spn))] #[],.func (.func 128) #[ag (C0 (⟨0,0⟩:Spn))] #[]]
def C6e:List (Int×Value):=[(17,me0),(18,me1),(19,me2),(20,me3),(26,me4),(27,me5),(35,me6),(38,me7),(40,me8),(41,me9),(2,W6),(3,X6),(4,Y7),(5,Z6),(6,A0b),(8,A0s),(9,A1d),(10,A1h),(11,A1z),(12,A2i),(13,A2u),(15,A3c),(16,A4e),(7,A4n),(14,A4u),(42,A6b),(21,A6l),(33,A8a),(22,A8v),(23,A9z),(24,B2g),(25,B2t)]
def B4k:Value:=ag [.func (.func 128) #[ag (C0 (⟨1,9999⟩:Spn))] #[],.func (.func 128) #[ag (C0 (⟨0,0⟩:Spn))] #[]]
def C4v:List (Int×Value):=[(17,me0),(18,me1),(19,me2),(20,me3),(26,me4),(27,me5),(35,me6),(38,me7),(40,me8),(41,me9),(2,W6),(3,X6),(4,Y7),(5,Z6),(6,A0b),(8,A0s),(9,A1d),(10,A1h),(11,A1z),(12,A2i),(13,A2u),(15,A3c),(16,A4e),(7,A4n),(14,A4u),(42,A6b),(21,A6l),(33,A8a),(22,A8v),(23,A9z),(24,B2g),(25,B2t),(28,B4k)]
def B7j:Value:=ag [.func (.func 128) #[ag (C0 (⟨1,9999⟩:Spn))] #[],.func (.func 128) #[ag (C0 (⟨0,0⟩:Spn))] #[]]
def C6i:List (Int×Value):=[(17,me0),(18,me1),(19,me2),(20,me3),(26,me4),(27,me5),(35,me6),(38,me7),(40,me8),(41,me9),(2,W6),(3,X6),(4,Y7),(5,Z6),(6,A0b),(8,A0s),(9,A1d),(10,A1h),(11,A1z),(12,A2i),(13,A2u),(15,A3c),(16,A4e),(7,A4n),(14,A4u),(42,A6b),(21,A6l),(33,A8a),(22,A8v),(23,A9z),(24,B2g),(25,B2t),(28,B4k),(29,B7j)]
def B8l:Value:=ag [.func (.func 128) #[ag (C0 (⟨1,9999⟩:Spn))] #[],.func (.func 128) #[ag (C0 (⟨0,0⟩:Spn))] #[]]
def C5y:List (Int×Value):=[(17,me0),(18,me1),(19,me2),(20,me3),(26,me4),(27,me5),(35,me6),(38,me7),(40,me8),(41,me9),(2,W6),(3,X6),(4,Y7),(5,Z6),(6,A0b),(8,A0s),(9,A1d),(10,A1h),(11,A1z),(12,A2i),(13,A2u),(15,A3c),(16,A4e),(7,A4n),(14,A4u),(42,A6b),(21,A6l),(33,A8a),(22,A8v),(23,A9z),(24,B2g),(25,B2t),(28,B4k),(29,B7j),(30,B8l)]
def C0p:Value:=ag [.func (.func 128) #[ag (C0 (⟨1,9999⟩:Spn))] #[],.func (.func 128) #[ag (C0 (⟨0,0⟩:Spn))] #[]]
def C6s:List (Int×Value):=[(17,me0),(18,me1),(19,me2),(20,me3),(26,me4),(27,me5),(35,me6),(38,me7),(40,me8),(41,me9),(2,W6),(3,X6),(4,Y7),(5,Z6),(6,A0b),(8,A0s),(9,A1d),(10,A1h),(11,A1z),(12,A2i),(13,A2u),(15,A3c),(16,A4e),(7,A4n),(14,A4u),(42,A6b),(21,A6l),(33,A8a),(22,A8v),(23,A9z),(24,B2g),(25,B2t),(28,B4k),(29,B7j),(30,B8l),(31,C0p)]
def C2s:Value:=ag [.func (.func 128) #[ag (C0 (⟨1,9999⟩:Spn))] #[],.func (.func 128) #[ag (C0 (⟨0,0⟩:Spn))] #[]]
def C5z:List (Int×Value):=[(17,me0),(18,me1),(19,me2),(20,me3),(26,me4),(27,me5),(35,me6),(38,me7),(40,me8),(41,me9),(2,W6),(3,X6),(4,Y7),(5,Z6),(6,A0b),(8,A0s),(9,A1d),(10,A1h),(11,A1z),(12,A2i),(13,A2u),(15,A3c),(16,A4e),(7,A4n),(14,A4u),(42,A6b),(21,A6l),(33,A8a),(22,A8v),(23,A9z),(24,B2g),(25,B2t),(28,B4k),(29,B7j),(30,B8l),(31,C0p),(32,C2s)]
def C3l:Value:=ag [.func (.func 128) #[ag (C0 (⟨1,9999⟩:Spn))] #[],.func (.func 128) #[ag (C0 (⟨0,0⟩:Spn))] #[]]
def C4x:List (Int×Value):=[(17,me0),(18,me1),(19,me2),(20,me3),(26,me4),(27,me5),(35,me6),(38,me7),(40,me8),(41,me9),(2,W6),(3,X6),(4,Y7),(5,Z6),(6,A0b),(8,A0s),(9,A1d),(10,A1h),(11,A1z),(12,A2i),(13,A2u),(15,A3c),(16,A4e),(7,A4n),(14,A4u),(42,A6b),(21,A6l),(33,A8a),(22,A8v),(23,A9z),(24,B2g),(25,B2t),(28,B4k),(29,B7j),(30,B8l),(31,C0p),(32,C2s),(34,C3l)]
def C5a:Value:=ag [.func (.func 128) #[ag (C0 (⟨0,9999⟩:Spn))] #[],.func (.func 128) #[ag (C0 (⟨0,1⟩:Spn))] #[]]
def C6m:List (Int×Value):=[(17,me0),(18,me1),(19,me2),(20,me3),(26,me4),(27,me5),(35,me6),(38,me7),(40,me8),(41,me9),(2,W6),(3,X6),(4,Y7),(5,Z6),(6,A0b),(8,A0s),(9,A1d),(10,A1h),(11,A1z),(12,A2i),(13,A2u),(15,A3c),(16,A4e),(7,A4n),(14,A4u),(42,A6b),(21,A6l),(33,A8a),(22,A8v),(23,A9z),(24,B2g),(25,B2t),(28,B4k),(29,B7j),(30,B8l),(31,C0p),(32,C2s),(34,C3l),(36,C5a)]
def C6x:Value:=ag [.func (.func 128) #[ag (C0 (⟨0,9999⟩:Spn))] #[],.func (.func 128) #[ag (C0 (⟨0,1⟩:Spn))] #[]]
def C5r:List (Int×Value):=[(17,me0),(18,me1),(19,me2),(20,me3),(26,me4),(27,me5),(35,me6),(38,me7),(40,me8),(41,me9),(2,W6),(3,X6),(4,Y7),(5,Z6),(6,A0b),(8,A0s),(9,A1d),(10,A1h),(11,A1z),(12,A2i),(13,A2u),(15,A3c),(16,A4e),(7,A4n),(14,A4u),(42,A6b),(21,A6l),(33,A8a),(22,A8v),(23,A9z),(24,B2g),(25,B2t),(28,B4k),(29,B7j),(30,B8l),(31,C0p),(32,C2s),(34,C3l),(36,C5a),(37,C6x)]
def C8n:Value:=ag [.func (.func 128) #[ag (C0 (⟨0,9999⟩:Spn))] #[],.func (.func 128) #[ag (C0 (⟨0,1⟩:Spn))] #[]]
def C2q:List (Int×Value):=[(17,me0),(18,me1),(19,me2),(20,me3),(26,me4),(27,me5),(35,me6),(38,me7),(40,me8),(41,me9),(2,W6),(3,X6),(4,Y7),(5,Z6),(6,A0b),(8,A0s),(9,A1d),(10,A1h),(11,A1z),(12,A2i),(13,A2u),(15,A3c),(16,A4e),(7,A4n),(14,A4u),(42,A6b),(21,A6l),(33,A8a),(22,A8v),(23,A9z),(24,B2g),(25,B2t),(28,B4k),(29,B7j),(30,B8l),(31,C0p),(32,C2s),(34,C3l),(36,C5a),(37,C6x),(43,C8n)]
def A2:Unit :=
 ()
set_option maxHeartbeats 2000000 in
theorem A3a (R:Unit) (hR:A2=R):Con Tryz.prog 73 [] [] [] (Nat) (fun x=>.map (some x)) (fun x=>[(x,.map (B7 C2q 0).toArray 41)]) (fun x=>[]):=by
 refine zco Tryz.func73 [] fun X hX hr hD=>?_
 replace hR:=(A2.eq_1 ..).symm.trans hR
 refine sr 1 rfl (ip' 1 0 [] ?_)
 refine ie (sr 10 rfl (zca (B0c _ rfl) fn0 ?_))
 refine ip' 9 0 [(1,.func (.func 128) #[ag (C0 (⟨0,0⟩:Spn))] #[]),(2,.func (.func 128) #[ag (C0 (⟨0,1⟩:Spn))] #[]),(3,.func (.func 128) #[ag (C0 (⟨1,9999⟩:Spn))] #[]),(4,.func (.func 128) #[ag (C0 (⟨0,9999⟩:Spn))] #[])] ?_
 refine ie (sr 49 rfl (it rfl (A4t rfl) fun b1=>?_))
 refine zrl 4 44 [] [(26,ag [.func (.func 128) #[ag (C0 (⟨0,3⟩:Spn))] #[],.func (.func 128) #[ag (C0 (⟨0,1⟩:Spn))] #[]])] ?_
 refine it rfl (C8 (es:=#[]) (es':=(B7 mt0 0).toArray) H7 (.inl rfl) rfl rfl rfl 0 rfl (by kernel_rfl) (by kernel_rfl)) fun _=>?_
 refine znl [(b1,.map (B7 mt0 0).toArray 1)] ?_
 refine zrl 4 39 [] [(30,ag [.func (.func 128) #[ag (C0 (⟨2,3⟩:Spn))] #[],.func (.func 128) #[ag (C0 (⟨0,0⟩:Spn))] #[]])] ?_
 refine it rfl (C8 (es:=(B7 mt0 0).toArray) (es':=(B7 mt1 0).toArray) H7 (.inl rfl) rfl rfl rfl 0 rfl (by kernel_rfl) (by kernel_rfl)) fun _=>?_
 refine znl [(b1,.map (B7 mt1 0).toArray 2)] ?_
 refine zrl 3 35 [] [(33,ag [.func (.func 128) #[ag (C0 (⟨1,9999⟩:Spn))] #[],.func (.func 128) #[ag (C0 (⟨1,9999⟩:Spn))] #[]])] ?_
 refine it rfl (C8 (es:=(B7 mt1 0).toArray) (es':=(B7 mt2 0).toArray) H7 (.inl rfl) rfl rfl rfl 0 rfl (by kernel_rfl) (by kernel_rfl)) fun _=>?_
 refine znl [(b1,.map (B7 mt2 0).toArray 3)] ?_
 refine zrl 4 30 [] [(37,ag [.func (.func 128) #[ag (C0 (⟨0,3⟩:Spn))] #[],.func (.func 128) #[ag (C0 (⟨1,9999⟩:Spn))] #[]])] ?_
 refine it rfl (C8 (es:=(B7 mt2 0).toArray) (es':=(B7 mt3 0).toArray) H7 (.inl rfl) rfl rfl rfl 0 rfl (by kernel_rfl) (by kernel_rfl)) fun _=>?_
 refine znl [(b1,.map (B7 mt3 0).toArray 4)] ?_
 refine zrl 4 25 [] [(41,ag [.func (.func 128) #[ag (C0 (⟨0,3⟩:Spn))] #[],.func (.func 128) #[ag (C0 (⟨0,0⟩:Spn))] #[]])] ?_
 refine it rfl (C8 (es:=(B7 mt3 0).toArray) (es':=(B7 mt4 0).toArray) H7 (.inl rfl) rfl rfl rfl 0 rfl (by kernel_rfl) (by kernel_rfl)) fun _=>?_
 refine znl [(b1,.map (B7 mt4 0).toArray 5)] ?_
 refine zrl 4 20 [] [(45,ag [.func (.func 128) #[ag (C0 (⟨0,2⟩:Spn))] #[],.func (.func 128) #[ag (C0 (⟨0,0⟩:Spn))] #[]])] ?_
 refine it rfl (C8 (es:=(B7 mt4 0).toArray) (es':=(B7 mt5 0).toArray) H7 (.inl rfl) rfl rfl rfl 0 rfl (by kernel_rfl) (by kernel_rfl)) fun _=>?_
 refine znl [(b1,.map (B7 mt5 0).toArray 6)] ?_
 refine zrl 2 17 [] [(47,ag [.func (.func 129) #[] #[],.func (.func 128) #[ag (C0 (⟨0,0⟩:Spn))] #[]])] ?_
 refine it rfl (C8 (es:=(B7 mt5 0).toArray) (es':=(B7 mt6 0).toArray) H7 (.inl rfl) rfl rfl rfl 0 rfl (by kernel_rfl) (by kernel_rfl)) fun _=>?_
 refine znl [(b1,.map (B7 mt6 0).toArray 7)] ?_
 refine zrl 3 13 [] [(50,ag [.func (.func 128) #[ag (C0 (⟨0,9999⟩:Spn))] #[],.func (.func 128) #[ag (C0 (⟨0,9999⟩:Spn))] #[]])] ?_
 refine it rfl (C8 (es:=(B7 mt6 0).toArray) (es':=(B7 mt7 0).toArray) H7 (.inl rfl) rfl rfl rfl 0 rfl (by kernel_rfl) (by kernel_rfl)) fun _=>?_
 refine znl [(b1,.map (B7 mt7 0).toArray 8)] ?_
 refine zrl 4 8 [] [(54,ag [.func (.func 128) #[ag (C0 (⟨0,6⟩:Spn))] #[],.func (.func 128) #[ag (C0 (⟨0,0⟩:Spn))] #[]])] ?_
 refine it rfl (C8 (es:=(B7 mt7 0).toArray) (es':=(B7 mt8 0).toArray) H7 (.inl rfl) rfl rfl rfl 0 rfl (by kernel_rfl) (by kernel_rfl)) fun _=>?_
 refine znl [(b1,.map (B7 mt8 0).toArray 9)] ?_
 refine zrl 4 3 [] [(58,ag [.func (.func 128) #[ag (C0 (⟨5,6⟩:Spn))] #[],.func (.func 128) #[ag (C0 (⟨0,0⟩:Spn))] #[]])] ?_
 refine it rfl (C8 (es:=(B7 mt8 0).toArray) (es':=(B7 mt9 0).toArray) H7 (.inl rfl) rfl rfl rfl 0 rfl (by kernel_rfl) (by kernel_rfl)) fun _=>?_
 refine znl [(b1,.map (B7 mt9 0).toArray 10)] ?_
 refine ip' 2 0 [(5,.map (some b1))] ?_
 refine ie (A4 (sr 2 rfl (zrl 2 0 [] [(60,ag [iv 2,iv 3,iv 4,iv 5,iv 6,iv 8,iv 9,iv 10,iv 11,iv 12,iv 13,iv 15,iv 16]),(61,iv 0)] ?_)))
 refine ie (A9 (P8 15 ?_))
 refine D8 (sr 1 rfl (ip' 1 0 [(62,bv true)] ?_))
 refine ie (A4 (I0 rfl (A8 (nx (A4 (A9 (sr 2 rfl (ix rfl (D7 (v:=iv 2) (us:=[iv 2]) Tryz.underlying186 ty3 rfl rfl rfl 0 rfl (by decide) rfl rfl rfl) ?_))))))))
 refine ip' 1 0 [(7,iv 2)] ?_
 refine ie (A1 6 rfl (zrl 5 1 [] [(64,.map (some b1)),(65,iv 2),(68,ag [.func (.func 128) #[ag (C0 (⟨0,0⟩:Spn))] #[],.func (.func 128) #[ag (C0 (⟨0,0⟩:Spn))] #[]])] ?_))
 refine it rfl (C8 (es:=(B7 mt9 0).toArray) (es':=(B7 C5p 0).toArray) H7 (.inr rfl) rfl rfl rfl 0 rfl (by kernel_rfl) (by kernel_rfl)) fun _=>?_
 refine znl [(b1,.map (B7 C5p 0).toArray 11)] ?_
 refine A6 (nx (A1 2 rfl (ix rfl (B0 (c:=1) rfl rfl rfl rfl (by decide)) ?_)))
 refine ip' 1 0 [(61,iv 1)] ?_
 refine A6 (D8 (sr 1 rfl (ip' 1 0 [(62,bv true)] ?_)))
 refine ie (A4 (I0 rfl (A8 (nx (A4 (A9 (sr 2 rfl (ix rfl (D7 (v:=iv 3) (us:=[iv 3]) Tryz.underlying186 ty3 rfl rfl rfl 1 rfl (by decide) rfl rfl rfl) ?_))))))))
 refine ip' 1 0 [(7,iv 3)] ?_
 refine ie (A1 6 rfl (zrl 5 1 [] [(64,.map (some b1)),(65,iv 3),(68,ag [.func (.func 128) #[ag (C0 (⟨0,0⟩:Spn))] #[],.func (.func 128) #[ag (C0 (⟨0,0⟩:Spn))] #[]])] ?_))
 refine it rfl (C8 (es:=(B7 C5p 0).toArray) (es':=(B7 C5q 0).toArray) H7 (.inr rfl) rfl rfl rfl 0 rfl (by kernel_rfl) (by kernel_rfl)) fun _=>?_
 refine znl [(b1,.map (B7 C5q 0).toArray 12)] ?_
 refine A6 (nx (A1 2 rfl (ix rfl (B0 (c:=2) rfl rfl rfl rfl (by decide)) ?_)))
 refine ip' 1 0 [(61,iv 2)] ?_
 refine A6 (D8 (sr 1 rfl (ip' 1 0 [(62,bv true)] ?_)))
 refine ie (A4 (I0 rfl (A8 (nx (A4 (A9 (sr 2 rfl (ix rfl (D7 (v:=iv 4) (us:=[iv 4]) Tryz.underlying186 ty3 rfl rfl rfl 2 rfl (by decide) rfl rfl rfl) ?_))))))))
 refine ip' 1 0 [(7,iv 4)] ?_
 refine ie (A1 6 rfl (zrl 5 1 [] [(64,.map (some b1)),(65,iv 4),(68,ag [.func (.func 128) #[ag (C0 (⟨0,0⟩:Spn))] #[],.func (.func 128) #[ag (C0 (⟨0,0⟩:Spn))] #[]])] ?_))
 refine it rfl (C8 (es:=(B7 C5q 0).toArray) (es':=(B7 C6r 0).toArray) H7 (.inr rfl) rfl rfl rfl 0 rfl (by kernel_rfl) (by kernel_rfl)) fun _=>?_
 refine znl [(b1,.map (B7 C6r 0).toArray 13)] ?_
 refine A6 (nx (A1 2 rfl (ix rfl (B0 (c:=3) rfl rfl rfl rfl (by decide)) ?_)))
 refine ip' 1 0 [(61,iv 3)] ?_
 refine A6 (D8 (sr 1 rfl (ip' 1 0 [(62,bv true)] ?_)))
 refine ie (A4 (I0 rfl (A8 (nx (A4 (A9 (sr 2 rfl (ix rfl (D7 (v:=iv 5) (us:=[iv 5]) Tryz.underlying186 ty3 rfl rfl rfl 3 rfl (by decide) rfl rfl rfl) ?_))))))))
 refine ip' 1 0 [(7,iv 5)] ?_
 refine ie (A1 6 rfl (zrl 5 1 [] [(64,.map (some b1)),(65,iv 5),(68,ag [.func (.func 128) #[ag (C0 (⟨0,0⟩:Spn))] #[],.func (.func 128) #[ag (C0 (⟨0,0⟩:Spn))] #[]])] ?_))
 refine it rfl (C8 (es:=(B7 C6r 0).toArray) (es':=(B7 C6l 0).toArray) H7 (.inr rfl) rfl rfl rfl 0 rfl (by kernel_rfl) (by kernel_rfl)) fun _=>?_
 refine znl [(b1,.map (B7 C6l 0).toArray 14)] ?_
 refine A6 (nx (A1 2 rfl (ix rfl (B0 (c:=4) rfl rfl rfl rfl (by decide)) ?_)))
 refine ip' 1 0 [(61,iv 4)] ?_
 refine A6 (D8 (sr 1 rfl (ip' 1 0 [(62,bv true)] ?_)))
 refine ie (A4 (I0 rfl (A8 (nx (A4 (A9 (sr 2 rfl (ix rfl (D7 (v:=iv 6) (us:=[iv 6]) Tryz.underlying186 ty3 rfl rfl rfl 4 rfl (by decide) rfl rfl rfl) ?_))))))))
 refine ip' 1 0 [(7,iv 6)] ?_
 refine ie (A1 6 rfl (zrl 5 1 [] [(64,.map (some b1)),(65,iv 6),(68,ag [.func (.func 128) #[ag (C0 (⟨0,0⟩:Spn))] #[],.func (.func 128) #[ag (C0 (⟨0,0⟩:Spn))] #[]])] ?_))
 refine it rfl (C8 (es:=(B7 C6l 0).toArray) (es':=(B7 C5s 0).toArray) H7 (.inr rfl) rfl rfl rfl 0 rfl (by kernel_rfl) (by kernel_rfl)) fun _=>?_
 refine znl [(b1,.map (B7 C5s 0).toArray 15)] ?_
 refine A6 (nx (A1 2 rfl (ix rfl (B0 (c:=5) rfl rfl rfl rfl (by decide)) ?_)))
 refine ip' 1 0 [(61,iv 5)] ?_
 refine A6 (D8 (sr 1 rfl (ip' 1 0 [(62,bv true)] ?_)))
 refine ie (A4 (I0 rfl (A8 (nx (A4 (A9 (sr 2 rfl (ix rfl (D7 (v:=iv 8) (us:=[iv 8]) Tryz.underlying186 ty3 rfl rfl rfl 5 rfl (by decide) rfl rfl rfl) ?_))))))))
 refine ip' 1 0 [(7,iv 8)] ?_
 refine ie (A1 6 rfl (zrl 5 1 [] [(64,.map (some b1)),(65,iv 8),(68,ag [.func (.func 128) #[ag (C0 (⟨0,0⟩:Spn))] #[],.func (.func 128) #[ag (C0 (⟨0,0⟩:Spn))] #[]])] ?_))
 refine it rfl (C8 (es:=(B7 C5s 0).toArray) (es':=(B7 C6k 0).toArray) H7 (.inr rfl) rfl rfl rfl 0 rfl (by kernel_rfl) (by kernel_rfl)) fun _=>?_
 refine znl [(b1,.map (B7 C6k 0).toArray 16)] ?_
 refine A6 (nx (A1 2 rfl (ix rfl (B0 (c:=6) rfl rfl rfl rfl (by decide)) ?_)))
 refine ip' 1 0 [(61,iv 6)] ?_
 refine A6 (D8 (sr 1 rfl (ip' 1 0 [(62,bv true)] ?_)))
 refine ie (A4 (I0 rfl (A8 (nx (A4 (A9 (sr 2 rfl (ix rfl (D7 (v:=iv 9) (us:=[iv 9]) Tryz.underlying186 ty3 rfl rfl rfl 6 rfl (by decide) rfl rfl rfl) ?_))))))))
 refine ip' 1 0 [(7,iv 9)] ?_
 refine ie (A1 6 rfl (zrl 5 1 [] [(64,.map (some b1)),(65,iv 9),(68,ag [.func (.func 128) #[ag (C0 (⟨0,0⟩:Spn))] #[],.func (.func 128) #[ag (C0 (⟨0,0⟩:Spn))] #[]])] ?_))
 refine it rfl (C8 (es:=(B7 C6k 0).toArray) (es':=(B7 C6v 0).toArray) H7 (.inr rfl) rfl rfl rfl 0 rfl (by kernel_rfl) (by kernel_rfl)) fun _=>?_
 refine znl [(b1,.map (B7 C6v 0).toArray 17)] ?_
 refine A6 (nx (A1 2 rfl (ix rfl (B0 (c:=7) rfl rfl rfl rfl (by decide)) ?_)))
 refine ip' 1 0 [(61,iv 7)] ?_
 refine A6 (D8 (sr 1 rfl (ip' 1 0 [(62,bv true)] ?_)))
 refine ie (A4 (I0 rfl (A8 (nx (A4 (A9 (sr 2 rfl (ix rfl (D7 (v:=iv 10) (us:=[iv 10]) Tryz.underlying186 ty3 rfl rfl rfl 7 rfl (by decide) rfl rfl rfl) ?_))))))))
 refine ip' 1 0 [(7,iv 10)] ?_
 refine ie (A1 6 rfl (zrl 5 1 [] [(64,.map (some b1)),(65,iv 10),(68,ag [.func (.func 128) #[ag (C0 (⟨0,0⟩:Spn))] #[],.func (.func 128) #[ag (C0 (⟨0,0⟩:Spn))] #[]])] ?_))
 refine it rfl (C8 (es:=(B7 C6v 0).toArray) (es':=(B7 C6h 0).toArray) H7 (.inr rfl) rfl rfl rfl 0 rfl (by kernel_rfl) (by kernel_rfl)) fun _=>?_
 refine znl [(b1,.map (B7 C6h 0).toArray 18)] ?_
 refine A6 (nx (A1 2 rfl (ix rfl (B0 (c:=8) rfl rfl rfl rfl (by decide)) ?_)))
 refine ip' 1 0 [(61,iv 8)] ?_
 refine A6 (D8 (sr 1 rfl (ip' 1 0 [(62,bv true)] ?_)))
 refine ie (A4 (I0 rfl (A8 (nx (A4 (A9 (sr 2 rfl (ix rfl (D7 (v:=iv 11) (us:=[iv 11]) Tryz.underlying186 ty3 rfl rfl rfl 8 rfl (by decide) rfl rfl rfl) ?_))))))))
 refine ip' 1 0 [(7,iv 11)] ?_
 refine ie (A1 6 rfl (zrl 5 1 [] [(64,.map (some b1)),(65,iv 11),(68,ag [.func (.func 128) #[ag (C0 (⟨0,0⟩:Spn))] #[],.func (.func 128) #[ag (C0 (⟨0,0⟩:Spn))] #[]])] ?_))
 refine it rfl (C8 (es:=(B7 C6h 0).toArray) (es':=(B7 C6o 0).toArray) H7 (.inr rfl) rfl rfl rfl 0 rfl (by kernel_rfl) (by kernel_rfl)) fun _=>?_
 refine znl [(b1,.map (B7 C6o 0).toArray 19)] ?_
 refine A6 (nx (A1 2 rfl (ix rfl (B0 (c:=9) rfl rfl rfl rfl (by decide)) ?_)))
 refine ip' 1 0 [(61,iv 9)] ?_
 refine A6 (D8 (sr 1 rfl (ip' 1 0 [(62,bv true)] ?_)))
 refine ie (A4 (I0 rfl (A8 (nx (A4 (A9 (sr 2 rfl (ix rfl (D7 (v:=iv 12) (us:=[iv 12]) Tryz.underlying186 ty3 rfl rfl rfl 9 rfl (by decide) rfl rfl rfl) ?_))))))))
 refine ip' 1 0 [(7,iv 12)] ?_
 refine ie (A1 6 rfl (zrl 5 1 [] [(64,.map (some b1)),(65,iv 12),(68,ag [.func (.func 128) #[ag (C0 (⟨0,0⟩:Spn))] #[],.func (.func 128) #[ag (C0 (⟨0,0⟩:Spn))] #[]])] ?_))
 refine it rfl (C8 (es:=(B7 C6o 0).toArray) (es':=(B7 C5c 0).toArray) H7 (.inr rfl) rfl rfl rfl 0 rfl (by kernel_rfl) (by kernel_rfl)) fun _=>?_
 refine znl [(b1,.map (B7 C5c 0).toArray 20)] ?_
 refine A6 (nx (A1 2 rfl (ix rfl (B0 (c:=10) rfl rfl rfl rfl (by decide)) ?_)))
 refine ip' 1 0 [(61,iv 10)] ?_
 refine A6 (D8 (sr 1 rfl (ip' 1 0 [(62,bv true)] ?_)))
 refine ie (A4 (I0 rfl (A8 (nx (A4 (A9 (sr 2 rfl (ix rfl (D7 (v:=iv 13) (us:=[iv 13]) Tryz.underlying186 ty3 rfl rfl rfl 10 rfl (by decide) rfl rfl rfl) ?_))))))))
 refine ip' 1 0 [(7,iv 13)] ?_
 refine ie (A1 6 rfl (zrl 5 1 [] [(64,.map (some b1)),(65,iv 13),(68,ag [.func (.func 128) #[ag (C0 (⟨0,0⟩:Spn))] #[],.func (.func 128) #[ag (C0 (⟨0,0⟩:Spn))] #[]])] ?_))
 refine it rfl (C8 (es:=(B7 C5c 0).toArray) (es':=(B7 C6c 0).toArray) H7 (.inr rfl) rfl rfl rfl 0 rfl (by kernel_rfl) (by kernel_rfl)) fun _=>?_
 refine znl [(b1,.map (B7 C6c 0).toArray 21)] ?_
 refine A6 (nx (A1 2 rfl (ix rfl (B0 (c:=11) rfl rfl rfl rfl (by decide)) ?_)))
 refine ip' 1 0 [(61,iv 11)] ?_
 refine A6 (D8 (sr 1 rfl (ip' 1 0 [(62,bv true)] ?_)))
 refine ie (A4 (I0 rfl (A8 (nx (A4 (A9 (sr 2 rfl (ix rfl (D7 (v:=iv 15) (us:=[iv 15]) Tryz.underlying186 ty3 rfl rfl rfl 11 rfl (by decide) rfl rfl rfl) ?_))))))))
 refine ip' 1 0 [(7,iv 15)] ?_
 refine ie (A1 6 rfl (zrl 5 1 [] [(64,.map (some b1)),(65,iv 15),(68,ag [.func (.func 128) #[ag (C0 (⟨0,0⟩:Spn))] #[],.func (.func 128) #[ag (C0 (⟨0,0⟩:Spn))] #[]])] ?_))
 refine it rfl (C8 (es:=(B7 C6c 0).toArray) (es':=(B7 C6t 0).toArray) H7 (.inr rfl) rfl rfl rfl 0 rfl (by kernel_rfl) (by kernel_rfl)) fun _=>?_
 refine znl [(b1,.map (B7 C6t 0).toArray 22)] ?_
 refine A6 (nx (A1 2 rfl (ix rfl (B0 (c:=12) rfl rfl rfl rfl (by decide)) ?_)))
 refine ip' 1 0 [(61,iv 12)] ?_
 refine A6 (D8 (sr 1 rfl (ip' 1 0 [(62,bv true)] ?_)))
 refine ie (A4 (I0 rfl (A8 (nx (A4 (A9 (sr 2 rfl (ix rfl (D7 (v:=iv 16) (us:=[iv 16]) Tryz.underlying186 ty3 rfl rfl rfl 12 rfl (by decide) rfl rfl rfl) ?_))))))))
 refine ip' 1 0 [(7,iv 16)] ?_
 refine ie (A1 6 rfl (zrl 5 1 [] [(64,.map (some b1)),(65,iv 16),(68,ag [.func (.func 128) #[ag (C0 (⟨0,0⟩:Spn))] #[],.func (.func 128) #[ag (C0 (⟨0,0⟩:Spn))] #[]])] ?_))
 refine it rfl (C8 (es:=(B7 C6t 0).toArray) (es':=(B7 C5w 0).toArray) H7 (.inr rfl) rfl rfl rfl 0 rfl (by kernel_rfl) (by kernel_rfl)) fun _=>?_
 refine znl [(b1,.map (B7 C5w 0).toArray 23)] ?_
 refine A6 (nx (A1 2 rfl (ix rfl (B0 (c:=13) rfl rfl rfl rfl (by decide)) ?_)))
 refine ip' 1 0 [(61,iv 13)] ?_
 refine A6 (D8 (sr 1 rfl (ip' 1 0 [(62,bv false)] ?_)))
 refine ie (A4 (V5 rfl (F3 (nx (A4 (sr 2 rfl (zrl 2 0 [] [(70,ag (B1y (⟨7,14,42⟩:Ar3))),(71,iv 0)] ?_)))))))
 refine ie (A9 (P8 5 ?_))
 refine D8 (sr 1 rfl (ip' 1 0 [(72,bv true)] ?_))
 refine ie (A4 (I0 rfl (A8 (nx (A4 (A9 (sr 2 rfl (ix rfl (D7 (v:=iv 7) (us:=[iv 7]) Tryz.underlying187 ty3 rfl rfl rfl 0 rfl (by decide) rfl rfl rfl) ?_))))))))
 refine ip' 1 0 [(9,iv 7)] ?_
 refine ie (A1 6 rfl (zrl 5 1 [] [(74,.map (some b1)),(75,iv 7),(78,ag [.func (.func 128) #[ag (C0 (⟨0,1⟩:Spn))] #[],.func (.func 128) #[ag (C0 (⟨0,0⟩:Spn))] #[]])] ?_))
 refine it rfl (C8 (es:=(B7 C5w 0).toArray) (es':=(B7 C5h 0).toArray) H7 (.inr rfl) rfl rfl rfl 0 rfl (by kernel_rfl) (by kernel_rfl)) fun _=>?_
 refine znl [(b1,.map (B7 C5h 0).toArray 24)] ?_
 refine A6 (nx (A1 2 rfl (ix rfl (B0 (c:=1) rfl rfl rfl rfl (by decide)) ?_)))
 refine ip' 1 0 [(71,iv 1)] ?_
 refine A6 (D8 (sr 1 rfl (ip' 1 0 [(72,bv true)] ?_)))
 refine ie (A4 (I0 rfl (A8 (nx (A4 (A9 (sr 2 rfl (ix rfl (D7 (v:=iv 14) (us:=[iv 14]) Tryz.underlying187 ty3 rfl rfl rfl 1 rfl (by decide) rfl rfl rfl) ?_))))))))
 refine ip' 1 0 [(9,iv 14)] ?_
 refine ie (A1 6 rfl (zrl 5 1 [] [(74,.map (some b1)),(75,iv 14),(78,ag [.func (.func 128) #[ag (C0 (⟨0,1⟩:Spn))] #[],.func (.func 128) #[ag (C0 (⟨0,0⟩:Spn))] #[]])] ?_))
 refine it rfl (C8 (es:=(B7 C5h 0).toArray) (es':=(B7 C5o 0).toArray) H7 (.inr rfl) rfl rfl rfl 0 rfl (by kernel_rfl) (by kernel_rfl)) fun _=>?_
 refine znl [(b1,.map (B7 C5o 0).toArray 25)] ?_
 refine A6 (nx (A1 2 rfl (ix rfl (B0 (c:=2) rfl rfl rfl rfl (by decide)) ?_)))
 refine ip' 1 0 [(71,iv 2)] ?_
 refine A6 (D8 (sr 1 rfl (ip' 1 0 [(72,bv true)] ?_)))
 refine ie (A4 (I0 rfl (A8 (nx (A4 (A9 (sr 2 rfl (ix rfl (D7 (v:=iv 42) (us:=[iv 42]) Tryz.underlying187 ty3 rfl rfl rfl 2 rfl (by decide) rfl rfl rfl) ?_))))))))
 refine ip' 1 0 [(9,iv 42)] ?_
 refine ie (A1 6 rfl (zrl 5 1 [] [(74,.map (some b1)),(75,iv 42),(78,ag [.func (.func 128) #[ag (C0 (⟨0,1⟩:Spn))] #[],.func (.func 128) #[ag (C0 (⟨0,0⟩:Spn))] #[]])] ?_))
 refine it rfl (C8 (es:=(B7 C5o 0).toArray) (es':=(B7 C6q 0).toArray) H7 (.inr rfl) rfl rfl rfl 0 rfl (by kernel_rfl) (by kernel_rfl)) fun _=>?_
 refine znl [(b1,.map (B7 C6q 0).toArray 26)] ?_
 refine A6 (nx (A1 2 rfl (ix rfl (B0 (c:=3) rfl rfl rfl rfl (by decide)) ?_)))
 refine ip' 1 0 [(71,iv 3)] ?_
 refine A6 (D8 (sr 1 rfl (ip' 1 0 [(72,bv false)] ?_)))
 refine ie (A4 (V5 rfl (F3 (nx (A4 (sr 2 rfl (zrl 2 0 [] [(80,ag (A8p (⟨21,33⟩:Ar2))),(81,iv 0)] ?_)))))))
 refine ie (A9 (P8 4 ?_))
 refine D8 (sr 1 rfl (ip' 1 0 [(82,bv true)] ?_))
 refine ie (A4 (I0 rfl (A8 (nx (A4 (A9 (sr 2 rfl (ix rfl (D7 (v:=iv 21) (us:=[iv 21]) Tryz.underlying70 ty3 rfl rfl rfl 0 rfl (by decide) rfl rfl rfl) ?_))))))))
 refine ip' 1 0 [(11,iv 21)] ?_
 refine ie (A1 6 rfl (zrl 5 1 [] [(84,.map (some b1)),(85,iv 21),(88,ag [.func (.func 128) #[ag (C0 (⟨0,1⟩:Spn))] #[],.func (.func 128) #[ag (C0 (⟨1,9999⟩:Spn))] #[]])] ?_))
 refine it rfl (C8 (es:=(B7 C6q 0).toArray) (es':=(B7 C5j 0).toArray) H7 (.inr rfl) rfl rfl rfl 0 rfl (by kernel_rfl) (by kernel_rfl)) fun _=>?_
 refine znl [(b1,.map (B7 C5j 0).toArray 27)] ?_
 refine A6 (nx (A1 2 rfl (ix rfl (B0 (c:=1) rfl rfl rfl rfl (by decide)) ?_)))
 refine ip' 1 0 [(81,iv 1)] ?_
 refine A6 (D8 (sr 1 rfl (ip' 1 0 [(82,bv true)] ?_)))
 refine ie (A4 (I0 rfl (A8 (nx (A4 (A9 (sr 2 rfl (ix rfl (D7 (v:=iv 33) (us:=[iv 33]) Tryz.underlying70 ty3 rfl rfl rfl 1 rfl (by decide) rfl rfl rfl) ?_))))))))
 refine ip' 1 0 [(11,iv 33)] ?_
 refine ie (A1 6 rfl (zrl 5 1 [] [(84,.map (some b1)),(85,iv 33),(88,ag [.func (.func 128) #[ag (C0 (⟨0,1⟩:Spn))] #[],.func (.func 128) #[ag (C0 (⟨1,9999⟩:Spn))] #[]])] ?_))
 refine it rfl (C8 (es:=(B7 C5j 0).toArray) (es':=(B7 C6n 0).toArray) H7 (.inr rfl) rfl rfl rfl 0 rfl (by kernel_rfl) (by kernel_rfl)) fun _=>?_
 refine znl [(b1,.map (B7 C6n 0).toArray 28)] ?_
 refine A6 (nx (A1 2 rfl (ix rfl (B0 (c:=2) rfl rfl rfl rfl (by decide)) ?_)))
 refine ip' 1 0 [(81,iv 2)] ?_
 refine A6 (D8 (sr 1 rfl (ip' 1 0 [(82,bv false)] ?_)))
 refine ie (A4 (V5 rfl (F3 (nx (A4 (sr 2 rfl (zrl 2 0 [] [(90,ag [iv 22,iv 23,iv 24,iv 25,iv 28,iv 29,iv 30,iv 31,iv 32,iv 34]),(91,iv 0)] ?_)))))))
 refine ie (A9 (P8 12 ?_))
 refine D8 (sr 1 rfl (ip' 1 0 [(92,bv true)] ?_))
 refine ie (A4 (I0 rfl (A8 (nx (A4 (A9 (sr 2 rfl (ix rfl (D7 (v:=iv 22) (us:=[iv 22]) Tryz.underlying188 ty3 rfl rfl rfl 0 rfl (by decide) rfl rfl rfl) ?_))))))))
 refine ip' 1 0 [(13,iv 22)] ?_
 refine ie (A1 6 rfl (zrl 5 1 [] [(94,.map (some b1)),(95,iv 22),(98,ag [.func (.func 128) #[ag (C0 (⟨1,9999⟩:Spn))] #[],.func (.func 128) #[ag (C0 (⟨0,0⟩:Spn))] #[]])] ?_))
 refine it rfl (C8 (es:=(B7 C6n 0).toArray) (es':=(B7 C5t 0).toArray) H7 (.inr rfl) rfl rfl rfl 0 rfl (by kernel_rfl) (by kernel_rfl)) fun _=>?_
 refine znl [(b1,.map (B7 C5t 0).toArray 29)] ?_
 refine A6 (nx (A1 2 rfl (ix rfl (B0 (c:=1) rfl rfl rfl rfl (by decide)) ?_)))
 refine ip' 1 0 [(91,iv 1)] ?_
 refine A6 (D8 (sr 1 rfl (ip' 1 0 [(92,bv true)] ?_)))
 refine ie (A4 (I0 rfl (A8 (nx (A4 (A9 (sr 2 rfl (ix rfl (D7 (v:=iv 23) (us:=[iv 23]) Tryz.underlying188 ty3 rfl rfl rfl 1 rfl (by decide) rfl rfl rfl) ?_))))))))
 refine ip' 1 0 [(13,iv 23)] ?_
 refine ie (A1 6 rfl (zrl 5 1 [] [(94,.map (some b1)),(95,iv 23),(98,ag [.func (.func 128) #[ag (C0 (⟨1,9999⟩:Spn))] #[],.func (.func 128) #[ag (C0 (⟨0,0⟩:Spn))] #[]])] ?_))
 refine it rfl (C8 (es:=(B7 C5t 0).toArray) (es':=(B7 C6f 0).toArray) H7 (.inr rfl) rfl rfl rfl 0 rfl (by kernel_rfl) (by kernel_rfl)) fun _=>?_
 refine znl [(b1,.map (B7 C6f 0).toArray 30)] ?_
 refine A6 (nx (A1 2 rfl (ix rfl (B0 (c:=2) rfl rfl rfl rfl (by decide)) ?_)))
 refine ip' 1 0 [(91,iv 2)] ?_
 refine A6 (D8 (sr 1 rfl (ip' 1 0 [(92,bv true)] ?_)))
 refine ie (A4 (I0 rfl (A8 (nx (A4 (A9 (sr 2 rfl (ix rfl (D7 (v:=iv 24) (us:=[iv 24]) Tryz.underlying188 ty3 rfl rfl rfl 2 rfl (by decide) rfl rfl rfl) ?_))))))))
 refine ip' 1 0 [(13,iv 24)] ?_
 refine ie (A1 6 rfl (zrl 5 1 [] [(94,.map (some b1)),(95,iv 24),(98,ag [.func (.func 128) #[ag (C0 (⟨1,9999⟩:Spn))] #[],.func (.func 128) #[ag (C0 (⟨0,0⟩:Spn))] #[]])] ?_))
 refine it rfl (C8 (es:=(B7 C6f 0).toArray) (es':=(B7 C6d 0).toArray) H7 (.inr rfl) rfl rfl rfl 0 rfl (by kernel_rfl) (by kernel_rfl)) fun _=>?_
 refine znl [(b1,.map (B7 C6d 0).toArray 31)] ?_
 refine A6 (nx (A1 2 rfl (ix rfl (B0 (c:=3) rfl rfl rfl rfl (by decide)) ?_)))
 refine ip' 1 0 [(91,iv 3)] ?_
 refine A6 (D8 (sr 1 rfl (ip' 1 0 [(92,bv true)] ?_)))
 refine ie (A4 (I0 rfl (A8 (nx (A4 (A9 (sr 2 rfl (ix rfl (D7 (v:=iv 25) (us:=[iv 25]) Tryz.underlying188 ty3 rfl rfl rfl 3 rfl (by decide) rfl rfl rfl) ?_))))))))
 refine ip' 1 0 [(13,iv 25)] ?_
 refine ie (A1 6 rfl (zrl 5 1 [] [(94,.map (some b1)),(95,iv 25),(98,ag [.func (.func 128) #[ag (C0 (⟨1,9999⟩:Spn))] #[],.func (.func 128) #[ag (C0 (⟨0,0⟩:Spn))] #[]])] ?_))
 refine it rfl (C8 (es:=(B7 C6d 0).toArray) (es':=(B7 C6e 0).toArray) H7 (.inr rfl) rfl rfl rfl 0 rfl (by kernel_rfl) (by kernel_rfl)) fun _=>?_
 refine znl [(b1,.map (B7 C6e 0).toArray 32)] ?_
 refine A6 (nx (A1 2 rfl (ix rfl (B0 (c:=4) rfl rfl rfl rfl (by decide)) ?_)))
 refine ip' 1 0 [(91,iv 4)] ?_
 refine A6 (D8 (sr 1 rfl (ip' 1 0 [(92,bv true)] ?_)))
 refine ie (A4 (I0 rfl (A8 (nx (A4 (A9 (sr 2 rfl (ix rfl (D7 (v:=iv 28) (us:=[iv 28]) Tryz.underlying188 ty3 rfl rfl rfl 4 rfl (by decide) rfl rfl rfl) ?_))))))))
 refine ip' 1 0 [(13,iv 28)] ?_
 refine ie (A1 6 rfl (zrl 5 1 [] [(94,.map (some b1)),(95,iv 28),(98,ag [.func (.func 128) #[ag (C0 (⟨1,9999⟩:Spn))] #[],.func (.func 128) #[ag (C0 (⟨0,0⟩:Spn))] #[]])] ?_))
 refine it rfl (C8 (es:=(B7 C6e 0).toArray) (es':=(B7 C4v 0).toArray) H7 (.inr rfl) rfl rfl rfl 0 rfl (by kernel_rfl) (by kernel_rfl)) fun _=>?_
 refine znl [(b1,.map (B7 C4v 0).toArray 33)] ?_
 refine A6 (nx (A1 2 rfl (ix rfl (B0 (c:=5) rfl rfl rfl rfl (by decide)) ?_)))
 refine ip' 1 0 [(91,iv 5)] ?_
 refine A6 (D8 (sr 1 rfl (ip' 1 0 [(92,bv true)] ?_)))
 refine ie (A4 (I0 rfl (A8 (nx (A4 (A9 (sr 2 rfl (ix rfl (D7 (v:=iv 29) (us:=[iv 29]) Tryz.underlying188 ty3 rfl rfl rfl 5 rfl (by decide) rfl rfl rfl) ?_))))))))
 refine ip' 1 0 [(13,iv 29)] ?_
 refine ie (A1 6 rfl (zrl 5 1 [] [(94,.map (some b1)),(95,iv 29),(98,ag [.func (.func 128) #[ag (C0 (⟨1,9999⟩:Spn))] #[],.func (.func 128) #[ag (C0 (⟨0,0⟩:Spn))] #[]])] ?_))
 refine it rfl (C8 (es:=(B7 C4v 0).toArray) (es':=(B7 C6i 0).toArray) H7 (.inr rfl) rfl rfl rfl 0 rfl (by kernel_rfl) (by kernel_rfl)) fun _=>?_
 refine znl [(b1,.map (B7 C6i 0).toArray 34)] ?_
 refine A6 (nx (A1 2 rfl (ix rfl (B0 (c:=6) rfl rfl rfl rfl (by decide)) ?_)))
 refine ip' 1 0 [(91,iv 6)] ?_
 refine A6 (D8 (sr 1 rfl (ip' 1 0 [(92,bv true)] ?_)))
 refine ie (A4 (I0 rfl (A8 (nx (A4 (A9 (sr 2 rfl (ix rfl (D7 (v:=iv 30) (us:=[iv 30]) Tryz.underlying188 ty3 rfl rfl rfl 6 rfl (by decide) rfl rfl rfl) ?_))))))))
 refine ip' 1 0 [(13,iv 30)] ?_
 refine ie (A1 6 rfl (zrl 5 1 [] [(94,.map (some b1)),(95,iv 30),(98,ag [.func (.func 128) #[ag (C0 (⟨1,9999⟩:Spn))] #[],.func (.func 128) #[ag (C0 (⟨0,0⟩:Spn))] #[]])] ?_))
 refine it rfl (C8 (es:=(B7 C6i 0).toArray) (es':=(B7 C5y 0).toArray) H7 (.inr rfl) rfl rfl rfl 0 rfl (by kernel_rfl) (by kernel_rfl)) fun _=>?_
 refine znl [(b1,.map (B7 C5y 0).toArray 35)] ?_
 refine A6 (nx (A1 2 rfl (ix rfl (B0 (c:=7) rfl rfl rfl rfl (by decide)) ?_)))
 refine ip' 1 0 [(91,iv 7)] ?_
 refine A6 (D8 (sr 1 rfl (ip' 1 0 [(92,bv true)] ?_)))
 refine ie (A4 (I0 rfl (A8 (nx (A4 (A9 (sr 2 rfl (ix rfl (D7 (v:=iv 31) (us:=[iv 31]) Tryz.underlying188 ty3 rfl rfl rfl 7 rfl (by decide) rfl rfl rfl) ?_))))))))
 refine ip' 1 0 [(13,iv 31)] ?_
 refine ie (A1 6 rfl (zrl 5 1 [] [(94,.map (some b1)),(95,iv 31),(98,ag [.func (.func 128) #[ag (C0 (⟨1,9999⟩:Spn))] #[],.func (.func 128) #[ag (C0 (⟨0,0⟩:Spn))] #[]])] ?_))
 refine it rfl (C8 (es:=(B7 C5y 0).toArray) (es':=(B7 C6s 0).toArray) H7 (.inr rfl) rfl rfl rfl 0 rfl (by kernel_rfl) (by kernel_rfl)) fun _=>?_
 refine znl [(b1,.map (B7 C6s 0).toArray 36)] ?_
 refine A6 (nx (A1 2 rfl (ix rfl (B0 (c:=8) rfl rfl rfl rfl (by decide)) ?_)))
 refine ip' 1 0 [(91,iv 8)] ?_
 refine A6 (D8 (sr 1 rfl (ip' 1 0 [(92,bv true)] ?_)))
 refine ie (A4 (I0 rfl (A8 (nx (A4 (A9 (sr 2 rfl (ix rfl (D7 (v:=iv 32) (us:=[iv 32]) Tryz.underlying188 ty3 rfl rfl rfl 8 rfl (by decide) rfl rfl rfl) ?_))))))))
 refine ip' 1 0 [(13,iv 32)] ?_
 refine ie (A1 6 rfl (zrl 5 1 [] [(94,.map (some b1)),(95,iv 32),(98,ag [.func (.func 128) #[ag (C0 (⟨1,9999⟩:Spn))] #[],.func (.func 128) #[ag (C0 (⟨0,0⟩:Spn))] #[]])] ?_))
 refine it rfl (C8 (es:=(B7 C6s 0).toArray) (es':=(B7 C5z 0).toArray) H7 (.inr rfl) rfl rfl rfl 0 rfl (by kernel_rfl) (by kernel_rfl)) fun _=>?_
 refine znl [(b1,.map (B7 C5z 0).toArray 37)] ?_
 refine A6 (nx (A1 2 rfl (ix rfl (B0 (c:=9) rfl rfl rfl rfl (by decide)) ?_)))
 refine ip' 1 0 [(91,iv 9)] ?_
 refine A6 (D8 (sr 1 rfl (ip' 1 0 [(92,bv true)] ?_)))
 refine ie (A4 (I0 rfl (A8 (nx (A4 (A9 (sr 2 rfl (ix rfl (D7 (v:=iv 34) (us:=[iv 34]) Tryz.underlying188 ty3 rfl rfl rfl 9 rfl (by decide) rfl rfl rfl) ?_))))))))
 refine ip' 1 0 [(13,iv 34)] ?_
 refine ie (A1 6 rfl (zrl 5 1 [] [(94,.map (some b1)),(95,iv 34),(98,ag [.func (.func 128) #[ag (C0 (⟨1,9999⟩:Spn))] #[],.func (.func 128) #[ag (C0 (⟨0,0⟩:Spn))] #[]])] ?_))
 refine it rfl (C8 (es:=(B7 C5z 0).toArray) (es':=(B7 C4x 0).toArray) H7 (.inr rfl) rfl rfl rfl 0 rfl (by kernel_rfl) (by kernel_rfl)) fun _=>?_
 refine znl [(b1,.map (B7 C4x 0).toArray 38)] ?_
 refine A6 (nx (A1 2 rfl (ix rfl (B0 (c:=10) rfl rfl rfl rfl (by decide)) ?_)))
 refine ip' 1 0 [(91,iv 10)] ?_
 refine A6 (D8 (sr 1 rfl (ip' 1 0 [(92,bv false)] ?_)))
 refine ie (A4 (V5 rfl (F3 (nx (A4 (sr 2 rfl (zrl 2 0 [] [(100,ag (B1y (⟨36,37,43⟩:Ar3))),(101,iv 0)] ?_)))))))
 refine ie (A9 (P8 5 ?_))
 refine D8 (sr 1 rfl (ip' 1 0 [(102,bv true)] ?_))
 refine ie (A4 (I0 rfl (A8 (nx (A4 (A9 (sr 2 rfl (ix rfl (D7 (v:=iv 36) (us:=[iv 36]) Tryz.underlying187 ty3 rfl rfl rfl 0 rfl (by decide) rfl rfl rfl) ?_))))))))
 refine ip' 1 0 [(15,iv 36)] ?_
 refine ie (A1 6 rfl (zrl 5 1 [] [(104,.map (some b1)),(105,iv 36),(108,ag [.func (.func 128) #[ag (C0 (⟨0,9999⟩:Spn))] #[],.func (.func 128) #[ag (C0 (⟨0,1⟩:Spn))] #[]])] ?_))
 refine it rfl (C8 (es:=(B7 C4x 0).toArray) (es':=(B7 C6m 0).toArray) H7 (.inr rfl) rfl rfl rfl 0 rfl (by kernel_rfl) (by kernel_rfl)) fun _=>?_
 refine znl [(b1,.map (B7 C6m 0).toArray 39)] ?_
 refine A6 (nx (A1 2 rfl (ix rfl (B0 (c:=1) rfl rfl rfl rfl (by decide)) ?_)))
 refine ip' 1 0 [(101,iv 1)] ?_
 refine A6 (D8 (sr 1 rfl (ip' 1 0 [(102,bv true)] ?_)))
 refine ie (A4 (I0 rfl (A8 (nx (A4 (A9 (sr 2 rfl (ix rfl (D7 (v:=iv 37) (us:=[iv 37]) Tryz.underlying187 ty3 rfl rfl rfl 1 rfl (by decide) rfl rfl rfl) ?_))))))))
 refine ip' 1 0 [(15,iv 37)] ?_
 refine ie (A1 6 rfl (zrl 5 1 [] [(104,.map (some b1)),(105,iv 37),(108,ag [.func (.func 128) #[ag (C0 (⟨0,9999⟩:Spn))] #[],.func (.func 128) #[ag (C0 (⟨0,1⟩:Spn))] #[]])] ?_))
 refine it rfl (C8 (es:=(B7 C6m 0).toArray) (es':=(B7 C5r 0).toArray) H7 (.inr rfl) rfl rfl rfl 0 rfl (by kernel_rfl) (by kernel_rfl)) fun _=>?_
 refine znl [(b1,.map (B7 C5r 0).toArray 40)] ?_
 refine A6 (nx (A1 2 rfl (ix rfl (B0 (c:=2) rfl rfl rfl rfl (by decide)) ?_)))
 refine ip' 1 0 [(101,iv 2)] ?_
 refine A6 (D8 (sr 1 rfl (ip' 1 0 [(102,bv true)] ?_)))
 refine ie (A4 (I0 rfl (A8 (nx (A4 (A9 (sr 2 rfl (ix rfl (D7 (v:=iv 43) (us:=[iv 43]) Tryz.underlying187 ty3 rfl rfl rfl 2 rfl (by decide) rfl rfl rfl) ?_))))))))
 refine ip' 1 0 [(15,iv 43)] ?_
 refine ie (A1 6 rfl (zrl 5 1 [] [(104,.map (some b1)),(105,iv 43),(108,ag [.func (.func 128) #[ag (C0 (⟨0,9999⟩:Spn))] #[],.func (.func 128) #[ag (C0 (⟨0,1⟩:Spn))] #[]])] ?_))
 refine it rfl (C8 (es:=(B7 C5r 0).toArray) (es':=(B7 C2q 0).toArray) H7 (.inr rfl) rfl rfl rfl 0 rfl (by kernel_rfl) (by kernel_rfl)) fun _=>?_
 refine znl [(b1,.map (B7 C2q 0).toArray 41)] ?_
 refine A6 (nx (A1 2 rfl (ix rfl (B0 (c:=3) rfl rfl rfl rfl (by decide)) ?_)))
 refine ip' 1 0 [(101,iv 3)] ?_
 refine A6 (D8 (sr 1 rfl (ip' 1 0 [(102,bv false)] ?_)))
 refine ie (A4 (V5 rfl (F3 (nx (sr 2 rfl (ip' 2 0 [(0,.map (some b1))] ?_))))))
 subst hR
 refine ie (B4 ?_)
 exact zer hr hD (R1 rfl (B5 rfl)) b1 (mk [true] rfl) fn0
def D0 (s:Spn) (n:Int):Bool :=
 ((decide (s.lo≤n))&&(decide (n≤s.hi)))
theorem N5 (s:Spn) (n:Int) (R:Bool) (hR:D0 s n=R):M9 Tryz.prog 128 [ag (C0 s),iv n] [] (bv R):=by
 refine zco Tryz.func128 [(0,ag (C0 s)),(1,iv n)] fun X hX hr hD=>?_
 replace hR:=(D0.eq_1 ..).symm.trans hR
 refine sr 2 rfl (K6 2 0 [] (fun b1=>[(2,pt b1 0)]) (fun b1=>[bx b1 (C0 s) 185]) (fun b1=>?_))
 refine ie (sr 11 rfl (zrl 5 6 [0] [(9,bv (decide (s.lo≤n)))] ?_))
 refine zid 5 1 9 14 (decide (n≤s.hi)) (fun g2 g2p=>?_) ?_
 ·refine zrl 5 0 [0] [(14,bv (decide (n≤s.hi)))] ?_
  exact A6 (M7 2 9 14 g2 fn0 (mk [true] rfl) rfl rfl rfl rfl rfl)
 refine ip' 1 0 [(4,bv ((decide (s.lo≤n))&&(decide (n≤s.hi))))] ?_
 subst hR
 refine ie (B4 ?_)
 exact F8 hr hD
def Q7 (an:Int) (am:Int) (acolor:Col) (atext:List UInt8):Int :=
 (bif ((((!(D0 (⟨0,9999⟩:Spn) an))||(!(D0 (⟨0,1⟩:Spn) am)))||(!(decide (acolor=Col.zero))))||(!(decide (atext=([]:List UInt8))))) then 200 else 0)
theorem B0e (an:Int) (am:Int) (acolor:Col) (atext:List UInt8) (hs:atext.length≤100000000) (R:Int) (hR:Q7 an am acolor atext=R):M9 Tryz.prog 34 [ag (F4 (⟨37,an,am,acolor,atext⟩:Act))] [] (iv R):=by
 refine zco Tryz.func34 [(0,ag (F4 (⟨37,an,am,acolor,atext⟩:Act)))] fun X hX hr hD=>?_
 replace hR:=(Q7.eq_1 ..).symm.trans hR
 refine sr 2 rfl (K6 2 0 [] (fun b1=>[(1,pt b1 0)]) (fun b1=>[bx b1 (F4 (⟨37,an,am,acolor,atext⟩:Act)) 81]) (fun b1=>?_))
 refine ie (sr 1 rfl (ip' 1 0 [(3,iv 0)] ?_))
 refine ie (A4 (sr 2 rfl (zrl 2 0 [0] [(7,iv 37)] ?_)))
 refine ie (A9 (sr 2 rfl (ip' 2 0 [(44,bv false)] ?_)))
 refine ie (V5 rfl (sr 2 rfl (ip' 2 0 [(59,bv false)] ?_)))
 refine ie (V5 rfl (A4 (sr 2 rfl (ip' 2 0 [(63,bv false)] ?_))))
 refine ie (V5 rfl (sr 2 rfl (ip' 2 0 [(63,bv false)] ?_)))
 refine ie (V5 rfl (A1 2 rfl (ip' 2 0 [(63,bv false)] ?_)))
 refine A6 (nx (V5 rfl (sh 10 [(10,[bx b1 (F4 (⟨37,an,am,acolor,atext⟩:Act)) 81])] [] [bx b1 (F4 (⟨37,an,am,acolor,atext⟩:Act)) 81] (zml 10 0) (by kernel_rfl) rfl (by kernel_rfl) (by kernel_rfl) (by kernel_rfl) (mk [true] rfl) A5.refl ?_)))
 refine zhp [1] 9 (zml 10 2) [(10,pt b1 0)] ?_
 refine zhl 2 [bx b1 (F4 (⟨37,an,am,acolor,atext⟩:Act)) 81] (zml 10 6) rfl (C9 (v:=iv 37) ty3 rfl rfl 0 rfl rfl) ?_
 refine B9b 0 7 (by kernel_rfl) ?_ ?_
 ·refine C3b 0 [bx b1 (F4 (⟨37,an,am,acolor,atext⟩:Act)) 81] (zml 10 7) rfl rfl rfl (by kernel_rfl) (by kernel_rfl) (by kernel_rfl) (G9 (L2:=[bx b1 (F4 (⟨37,an,am,acolor,atext⟩:Act)) 81]) (A3a _ rfl) rfl rfl rfl rfl rfl fn0 (List.Perm.refl _) (fun b2=>[(b2,.map (B7 C2q 0).toArray 41),bx b1 (F4 (⟨37,an,am,acolor,atext⟩:Act)) 81]) (fun _=>rfl)) (fun b2=>(mk [false,true] rfl)) (fun b2=>fn0) fun b2=>?_
  refine B9b 3 7 (by kernel_rfl) ?_ ?_
  ·refine C3b 3 [bx b1 (F4 (⟨37,an,am,acolor,atext⟩:Act)) 81] (zml 10 15) rfl rfl rfl (by kernel_rfl) (by kernel_rfl) (by kernel_rfl) (Det.tri (I9.det (A1u (v:=ag [.func (.func 128) #[ag (C0 (⟨0,9999⟩:Spn))] #[],.func (.func 128) #[ag (C0 (⟨0,1⟩:Spn))] #[]]) (j:=39) H7 rfl rfl rfl 0 rfl (by kernel_rfl)))) (fun _=>(mk [false,true] rfl)) (fun _=>fn0) fun _=>?_
   refine zhp [4,5,6] 3 (zml 10 127) [(13,ag [.func (.func 128) #[ag (C0 (⟨0,9999⟩:Spn))] #[],.func (.func 128) #[ag (C0 (⟨0,1⟩:Spn))] #[]]),(14,bv true)] ?_
   refine zho 7 [bx b1 (F4 (⟨37,an,am,acolor,atext⟩:Act)) 81] (zml 10 255) rfl (A5s (cs:=[.nilFunc,.nilFunc]) B4s rfl) (fun b3=>(mk [false,false,true] rfl)) (fun b3=>fn0) fun b3=>?_
   refine zho 8 [bx b1 (F4 (⟨37,an,am,acolor,atext⟩:Act)) 81] (zml 10 511) rfl (L8 (us:=[.func (.func 128) #[ag (C0 (⟨0,9999⟩:Spn))] #[],.func (.func 128) #[ag (C0 (⟨0,1⟩:Spn))] #[]]) (cs':=[.func (.func 128) #[ag (C0 (⟨0,9999⟩:Spn))] #[],.func (.func 128) #[ag (C0 (⟨0,1⟩:Spn))] #[]]) C2x rfl rfl rfl 0 rfl rfl rfl rfl rfl rfl) (fun _=>(mk [false,false,true] rfl)) (fun _=>fn0) fun _=>?_
   refine zhp [9] 0 (zml 10 1023) [(5,bv true)] ?_
   refine A8u (by kernel_rfl) ?_
   refine sr 29 rfl (zrl 6 23 [0] [(17,bv false),(19,.func (.func 128) #[ag (C0 (⟨0,9999⟩:Spn))] #[]),(20,pt b1 1)] ?_)
   refine ix rfl (C9 (v:=iv an) ty3 rfl rfl 2 rfl rfl) ?_
   refine zca (N5 (⟨0,9999⟩:Spn) an _ rfl) fn0 ?_
   refine ip' 3 18 [(25,bv (!(D0 (⟨0,9999⟩:Spn) an)))] ?_
   refine zio 7 11 25 32 (!(D0 (⟨0,1⟩:Spn) am)) (fun g4=>?_) ?_
   ·refine zrl 3 4 [0] [(27,.func (.func 128) #[ag (C0 (⟨0,1⟩:Spn))] #[]),(28,pt b1 2)] ?_
    refine ix rfl (C9 (v:=iv am) ty3 rfl rfl 2 rfl rfl) ?_
    refine zca (N5 (⟨0,1⟩:Spn) am _ rfl) fn0 ?_
    refine ip' 2 0 [(32,bv (!(D0 (⟨0,1⟩:Spn) am)))] ?_
    exact A6 (M7 6 25 32 g4 fn0 (mk [true,true,true] rfl) rfl rfl rfl rfl rfl)
   refine ip' 1 10 [(33,bv ((!(D0 (⟨0,9999⟩:Spn) an))||(!(D0 (⟨0,1⟩:Spn) am))))] ?_
   refine zio 5 5 33 38 (!(decide (acolor=Col.zero))) (fun g5=>?_) ?_
   ·have g5p:=g5;try simp only [Bool.and_eq_true,Bool.or_eq_true,Bool.and_eq_false_iff,Bool.or_eq_false_iff,Bool.not_eq_true',Bool.not_eq_false',decide_eq_true_eq,decide_eq_false_iff_not] at g5p
    refine ip' 1 4 [(34,pt b1 3)] ?_
    refine ix rfl (O2 (us:=U7 acolor) C0n rfl rfl 2 rfl rfl rfl) ?_
    refine zrl 1 2 [] [(36,ag (U7 Col.zero))] ?_
    refine ix rfl (A1l (a:=acolor) (b:=Col.zero) C1z rfl rfl rfl) ?_
    refine ip' 1 0 [(38,bv (!(decide (acolor=Col.zero))))] ?_
    exact A6 (M7 6 33 38 g5 fn0 (mk [true,true,true] rfl) rfl rfl rfl rfl rfl)
   refine ip' 1 4 [(39,bv (((!(D0 (⟨0,9999⟩:Spn) an))||(!(D0 (⟨0,1⟩:Spn) am)))||(!(decide (acolor=Col.zero)))))] ?_
   refine zio 4 0 39 43 (!(decide (atext=([]:List UInt8)))) (fun g6=>?_) ?_
   ·have g6p:=g6;try simp only [Bool.and_eq_true,Bool.or_eq_true,Bool.and_eq_false_iff,Bool.or_eq_false_iff,Bool.not_eq_true',Bool.not_eq_false',decide_eq_true_eq,decide_eq_false_iff_not] at g6p
    refine ip' 1 3 [(40,pt b1 5)] ?_
    refine ix rfl (C9 (v:=sv atext) ty9 rfl rfl 2 rfl rfl) ?_
    refine ix rfl (A7g rfl rfl rfl) ?_
    refine ip' 1 0 [(43,bv (!(decide (atext=([]:List UInt8)))))] ?_
    exact A6 (M7 5 39 43 g6 fn0 (mk [true,true,true] rfl) rfl rfl rfl rfl rfl)
   refine ie ?_
   refine zjb rfl hR ?_ ?_<;>clear hR<;>intro hR h7
   ·have h7p:=h7;try simp only [Bool.and_eq_true,Bool.or_eq_true,Bool.and_eq_false_iff,Bool.or_eq_false_iff,Bool.not_eq_true',Bool.not_eq_false',decide_eq_true_eq,decide_eq_false_iff_not] at h7p
    refine A1 1 rfl (ip' 1 0 [(3,iv 200)] ?_)
    refine A6 (nx (A4 (sr 2 rfl (ip' 2 0 [(73,bv true)] ?_))))
    refine ie (I0 rfl (sr 1 rfl (ip' 1 0 [(2,iv 200)] ?_)))
    subst hR
    refine ie (B4 ?_)
    exact F8 hr hD
   have h7p:=h7;try simp only [Bool.and_eq_true,Bool.or_eq_true,Bool.and_eq_false_iff,Bool.or_eq_false_iff,Bool.not_eq_true',Bool.not_eq_false',decide_eq_true_eq,decide_eq_false_iff_not] at h7p
   refine A8 (nx (A4 (sr 2 rfl (ip' 2 0 [(73,bv false)] ?_))))
   refine ie (V5 rfl (A8 (nx (sr 1 rfl (ip' 1 0 [(2,iv 0)] ?_)))))
   subst hR
   refine ie (B4 ?_)
   exact F8 hr hD
  ·refine C3b 7 [bx b1 (F4 (⟨37,an,am,acolor,atext⟩:Act)) 81] (zml 10 135) rfl rfl rfl (by kernel_rfl) (by kernel_rfl) (by kernel_rfl) (A5s (cs:=[.nilFunc,.nilFunc]) B4s rfl) (fun b8=>(mk [false,false,true] rfl)) (fun b8=>fn0) fun b8=>?_
   refine zho 3 [bx b1 (F4 (⟨37,an,am,acolor,atext⟩:Act)) 81] (zml 10 143) rfl (Det.tri (I9.det (A1u (v:=ag [.func (.func 128) #[ag (C0 (⟨0,9999⟩:Spn))] #[],.func (.func 128) #[ag (C0 (⟨0,1⟩:Spn))] #[]]) (j:=39) H7 rfl rfl rfl 1 rfl (by kernel_rfl)))) (fun _=>(mk [false,false,true] rfl)) (fun _=>fn0) fun _=>?_
   refine zhp [4,5,6] 2 (zml 10 255) [(13,ag [.func (.func 128) #[ag (C0 (⟨0,9999⟩:Spn))] #[],.func (.func 128) #[ag (C0 (⟨0,1⟩:Spn))] #[]]),(14,bv true)] ?_
   refine zho 8 [bx b1 (F4 (⟨37,an,am,acolor,atext⟩:Act)) 81] (zml 10 511) rfl (L8 (us:=[.func (.func 128) #[ag (C0 (⟨0,9999⟩:Spn))] #[],.func (.func 128) #[ag (C0 (⟨0,1⟩:Spn))] #[]]) (cs':=[.func (.func 128) #[ag (C0 (⟨0,9999⟩:Spn))] #[],.func (.func 128) #[ag (C0 (⟨0,1⟩:Spn))] #[]]) C2x rfl rfl rfl 0 rfl rfl rfl rfl rfl rfl) (fun _=>(mk [false,false,true] rfl)) (fun _=>fn0) fun _=>?_
   refine zhp [9] 0 (zml 10 1023) [(5,bv true)] ?_
   refine A8u (by kernel_rfl) ?_
   refine sr 29 rfl (zrl 6 23 [0] [(17,bv false),(19,.func (.func 128) #[ag (C0 (⟨0,9999⟩:Spn))] #[]),(20,pt b1 1)] ?_)
   refine ix rfl (C9 (v:=iv an) ty3 rfl rfl 2 rfl rfl) ?_
   refine zca (N5 (⟨0,9999⟩:Spn) an _ rfl) fn0 ?_
   refine ip' 3 18 [(25,bv (!(D0 (⟨0,9999⟩:Spn) an)))] ?_
   refine zio 7 11 25 32 (!(D0 (⟨0,1⟩:Spn) am)) (fun g9=>?_) ?_
   ·refine zrl 3 4 [0] [(27,.func (.func 128) #[ag (C0 (⟨0,1⟩:Spn))] #[]),(28,pt b1 2)] ?_
    refine ix rfl (C9 (v:=iv am) ty3 rfl rfl 2 rfl rfl) ?_
    refine zca (N5 (⟨0,1⟩:Spn) am _ rfl) fn0 ?_
    refine ip' 2 0 [(32,bv (!(D0 (⟨0,1⟩:Spn) am)))] ?_
    exact A6 (M7 6 25 32 g9 fn0 (mk [true,true,true] rfl) rfl rfl rfl rfl rfl)
   refine ip' 1 10 [(33,bv ((!(D0 (⟨0,9999⟩:Spn) an))||(!(D0 (⟨0,1⟩:Spn) am))))] ?_
   refine zio 5 5 33 38 (!(decide (acolor=Col.zero))) (fun g10=>?_) ?_
   ·have g10p:=g10;try simp only [Bool.and_eq_true,Bool.or_eq_true,Bool.and_eq_false_iff,Bool.or_eq_false_iff,Bool.not_eq_true',Bool.not_eq_false',decide_eq_true_eq,decide_eq_false_iff_not] at g10p
    refine ip' 1 4 [(34,pt b1 3)] ?_
    refine ix rfl (O2 (us:=U7 acolor) C0n rfl rfl 2 rfl rfl rfl) ?_
    refine zrl 1 2 [] [(36,ag (U7 Col.zero))] ?_
    refine ix rfl (A1l (a:=acolor) (b:=Col.zero) C1z rfl rfl rfl) ?_
    refine ip' 1 0 [(38,bv (!(decide (acolor=Col.zero))))] ?_
    exact A6 (M7 6 33 38 g10 fn0 (mk [true,true,true] rfl) rfl rfl rfl rfl rfl)
   refine ip' 1 4 [(39,bv (((!(D0 (⟨0,9999⟩:Spn) an))||(!(D0 (⟨0,1⟩:Spn) am)))||(!(decide (acolor=Col.zero)))))] ?_
   refine zio 4 0 39 43 (!(decide (atext=([]:List UInt8)))) (fun g11=>?_) ?_
   ·have g11p:=g11;try simp only [Bool.and_eq_true,Bool.or_eq_true,Bool.and_eq_false_iff,Bool.or_eq_false_iff,Bool.not_eq_true',Bool.not_eq_false',decide_eq_true_eq,decide_eq_false_iff_not] at g11p
    refine ip' 1 3 [(40,pt b1 5)] ?_
    refine ix rfl (C9 (v:=sv atext) ty9 rfl rfl 2 rfl rfl) ?_
    refine ix rfl (A7g rfl rfl rfl) ?_
    refine ip' 1 0 [(43,bv (!(decide (atext=([]:List UInt8)))))] ?_
    exact A6 (M7 5 39 43 g11 fn0 (mk [true,true,true] rfl) rfl rfl rfl rfl rfl)
   refine ie ?_
   refine zjb rfl hR ?_ ?_<;>clear hR<;>intro hR h12
   ·have h12p:=h12;try simp only [Bool.and_eq_true,Bool.or_eq_true,Bool.and_eq_false_iff,Bool.or_eq_false_iff,Bool.not_eq_true',Bool.not_eq_false',decide_eq_true_eq,decide_eq_false_iff_not] at h12p
    refine A1 1 rfl (ip' 1 0 [(3,iv 200)] ?_)
    refine A6 (nx (A4 (sr 2 rfl (ip' 2 0 [(73,bv true)] ?_))))
    refine ie (I0 rfl (sr 1 rfl (ip' 1 0 [(2,iv 200)] ?_)))
    subst hR
    refine ie (B4 ?_)
    exact F8 hr hD
   have h12p:=h12;try simp only [Bool.and_eq_true,Bool.or_eq_true,Bool.and_eq_false_iff,Bool.or_eq_false_iff,Bool.not_eq_true',Bool.not_eq_false',decide_eq_true_eq,decide_eq_false_iff_not] at h12p
   refine A8 (nx (A4 (sr 2 rfl (ip' 2 0 [(73,bv false)] ?_))))
   refine ie (V5 rfl (A8 (nx (sr 1 rfl (ip' 1 0 [(2,iv 0)] ?_)))))
   subst hR
   refine ie (B4 ?_)
   exact F8 hr hD
 ·refine C3b 7 [bx b1 (F4 (⟨37,an,am,acolor,atext⟩:Act)) 81] (zml 10 134) rfl rfl rfl (by kernel_rfl) (by kernel_rfl) (by kernel_rfl) (A5s (cs:=[.nilFunc,.nilFunc]) B4s rfl) (fun b13=>(mk [false,true] rfl)) (fun b13=>fn0) fun b13=>?_
  refine zho 0 [bx b1 (F4 (⟨37,an,am,acolor,atext⟩:Act)) 81] (zml 10 135) rfl (G9 (L2:=[bx b13 [.nilFunc,.nilFunc] 120,bx b1 (F4 (⟨37,an,am,acolor,atext⟩:Act)) 81]) (A3a _ rfl) rfl rfl rfl rfl rfl fn0 (List.Perm.refl _) (fun b14=>[(b14,.map (B7 C2q 0).toArray 41),bx b13 [.nilFunc,.nilFunc] 120,bx b1 (F4 (⟨37,an,am,acolor,atext⟩:Act)) 81]) (fun _=>rfl)) (fun b14=>(mk [false,false,true] rfl)) (fun b14=>fn0) fun b14=>?_
  refine zho 3 [bx b1 (F4 (⟨37,an,am,acolor,atext⟩:Act)) 81] (zml 10 143) rfl (Det.tri (I9.det (A1u (v:=ag [.func (.func 128) #[ag (C0 (⟨0,9999⟩:Spn))] #[],.func (.func 128) #[ag (C0 (⟨0,1⟩:Spn))] #[]]) (j:=39) H7 rfl rfl rfl 0 rfl (by kernel_rfl)))) (fun _=>(mk [false,false,true] rfl)) (fun _=>fn0) fun _=>?_
  refine zhp [4,5,6] 2 (zml 10 255) [(13,ag [.func (.func 128) #[ag (C0 (⟨0,9999⟩:Spn))] #[],.func (.func 128) #[ag (C0 (⟨0,1⟩:Spn))] #[]]),(14,bv true)] ?_
  refine zho 8 [bx b1 (F4 (⟨37,an,am,acolor,atext⟩:Act)) 81] (zml 10 511) rfl (L8 (us:=[.func (.func 128) #[ag (C0 (⟨0,9999⟩:Spn))] #[],.func (.func 128) #[ag (C0 (⟨0,1⟩:Spn))] #[]]) (cs':=[.func (.func 128) #[ag (C0 (⟨0,9999⟩:Spn))] #[],.func (.func 128) #[ag (C0 (⟨0,1⟩:Spn))] #[]]) C2x rfl rfl rfl 1 rfl rfl rfl rfl rfl rfl) (fun _=>(mk [false,false,true] rfl)) (fun _=>fn0) fun _=>?_
  refine zhp [9] 0 (zml 10 1023) [(5,bv true)] ?_
  refine A8u (by kernel_rfl) ?_
  refine sr 29 rfl (ip' 4 25 [(17,bv false),(18,pt b13 0)] ?_)
  refine ix rfl (C9 (v:=.func (.func 128) #[ag (C0 (⟨0,9999⟩:Spn))] #[]) C4p rfl rfl 1 rfl rfl) ?_
  refine ip' 1 23 [(20,pt b1 1)] ?_
  refine ix rfl (C9 (v:=iv an) ty3 rfl rfl 2 rfl rfl) ?_
  refine zca (N5 (⟨0,9999⟩:Spn) an _ rfl) fn0 ?_
  refine ip' 3 18 [(25,bv (!(D0 (⟨0,9999⟩:Spn) an)))] ?_
  refine zio 7 11 25 32 (!(D0 (⟨0,1⟩:Spn) am)) (fun g15=>?_) ?_
  ·refine ip' 1 6 [(26,pt b13 1)] ?_
   refine ix rfl (C9 (v:=.func (.func 128) #[ag (C0 (⟨0,1⟩:Spn))] #[]) C4p rfl rfl 1 rfl rfl) ?_
   refine ip' 1 4 [(28,pt b1 2)] ?_
   refine ix rfl (C9 (v:=iv am) ty3 rfl rfl 2 rfl rfl) ?_
   refine zca (N5 (⟨0,1⟩:Spn) am _ rfl) fn0 ?_
   refine ip' 2 0 [(32,bv (!(D0 (⟨0,1⟩:Spn) am)))] ?_
   exact A6 (M7 7 25 32 g15 fn0 (mk [true,true,true] rfl) rfl rfl rfl rfl rfl)
  refine ip' 1 10 [(33,bv ((!(D0 (⟨0,9999⟩:Spn) an))||(!(D0 (⟨0,1⟩:Spn) am))))] ?_
  refine zio 5 5 33 38 (!(decide (acolor=Col.zero))) (fun g16=>?_) ?_
  ·have g16p:=g16;try simp only [Bool.and_eq_true,Bool.or_eq_true,Bool.and_eq_false_iff,Bool.or_eq_false_iff,Bool.not_eq_true',Bool.not_eq_false',decide_eq_true_eq,decide_eq_false_iff_not] at g16p
   refine ip' 1 4 [(34,pt b1 3)] ?_
   refine ix rfl (O2 (us:=U7 acolor) C0n rfl rfl 2 rfl rfl rfl) ?_
   refine zrl 1 2 [] [(36,ag (U7 Col.zero))] ?_
   refine ix rfl (A1l (a:=acolor) (b:=Col.zero) C1z rfl rfl rfl) ?_
   refine ip' 1 0 [(38,bv (!(decide (acolor=Col.zero))))] ?_
   exact A6 (M7 6 33 38 g16 fn0 (mk [true,true,true] rfl) rfl rfl rfl rfl rfl)
  refine ip' 1 4 [(39,bv (((!(D0 (⟨0,9999⟩:Spn) an))||(!(D0 (⟨0,1⟩:Spn) am)))||(!(decide (acolor=Col.zero)))))] ?_
  refine zio 4 0 39 43 (!(decide (atext=([]:List UInt8)))) (fun g17=>?_) ?_
  ·have g17p:=g17;try simp only [Bool.and_eq_true,Bool.or_eq_true,Bool.and_eq_false_iff,Bool.or_eq_false_iff,Bool.not_eq_true',Bool.not_eq_false',decide_eq_true_eq,decide_eq_false_iff_not] at g17p
   refine ip' 1 3 [(40,pt b1 5)] ?_
   refine ix rfl (C9 (v:=sv atext) ty9 rfl rfl 2 rfl rfl) ?_
   refine ix rfl (A7g rfl rfl rfl) ?_
   refine ip' 1 0 [(43,bv (!(decide (atext=([]:List UInt8)))))] ?_
   exact A6 (M7 5 39 43 g17 fn0 (mk [true,true,true] rfl) rfl rfl rfl rfl rfl)
  refine ie ?_
  refine zjb rfl hR ?_ ?_<;>clear hR<;>intro hR h18
  ·have h18p:=h18;try simp only [Bool.and_eq_true,Bool.or_eq_true,Bool.and_eq_false_iff,Bool.or_eq_false_iff,Bool.not_eq_true',Bool.not_eq_false',decide_eq_true_eq,decide_eq_false_iff_not] at h18p
   refine A1 1 rfl (ip' 1 0 [(3,iv 200)] ?_)
   refine A6 (nx (A4 (sr 2 rfl (ip' 2 0 [(73,bv true)] ?_))))
   refine ie (I0 rfl (sr 1 rfl (ip' 1 0 [(2,iv 200)] ?_)))
   subst hR
   refine ie (B4 ?_)
   exact F8 hr hD
  have h18p:=h18;try simp only [Bool.and_eq_true,Bool.or_eq_true,Bool.and_eq_false_iff,Bool.or_eq_false_iff,Bool.not_eq_true',Bool.not_eq_false',decide_eq_true_eq,decide_eq_false_iff_not] at h18p
  refine A8 (nx (A4 (sr 2 rfl (ip' 2 0 [(73,bv false)] ?_))))
  refine ie (V5 rfl (A8 (nx (sr 1 rfl (ip' 1 0 [(2,iv 0)] ?_)))))
  subst hR
  refine ie (B4 ?_)
  exact F8 hr hD
def A3:Unit :=
 ()
set_option maxHeartbeats 1000000 in
theorem A8w (R:Unit) (hR:A3=R):Con Tryz.prog 134 [] [] [] (Nat) (fun x=>.map (some x)) (fun x=>[(x,.map #[⟨iv 1,.func (.func 201) #[] #[],0⟩,⟨iv 34,.func (.func 202) #[] #[],1⟩,⟨iv 3,.func (.func 203) #[] #[],2⟩,⟨iv 4,.func (.func 204) #[] #[],3⟩,⟨iv 24,.func (.func 204) #[] #[],4⟩,⟨iv 25,.func (.func 205) #[] #[],5⟩,⟨iv 6,.func (.func 206) #[] #[],6⟩,⟨iv 5,.func (.func 207) #[] #[],7⟩,⟨iv 8,.func (.func 208) #[] #[],8⟩,⟨iv 9,.func (.func 209) #[] #[],9⟩,⟨iv 11,.func (.func 210) #[] #[],10⟩,⟨iv 19,.func (.func 211) #[] #[],11⟩,⟨iv 23,.func (.func 212) #[] #[],12⟩,⟨iv 22,.func (.func 213) #[] #[],13⟩,⟨iv 20,.func (.func 214) #[] #[],14⟩,⟨iv 21,.func (.func 215) #[] #[],15⟩,⟨iv 38,.func (.func 216) #[] #[],16⟩,⟨iv 26,.func (.func 217) #[] #[],17⟩,⟨iv 27,.func (.func 218) #[] #[],18⟩,⟨iv 30,.func (.func 219) #[] #[],19⟩,⟨iv 28,.func (.func 220) #[] #[],20⟩,⟨iv 29,.func (.func 221) #[] #[],21⟩,⟨iv 31,.func (.func 222) #[] #[],22⟩,⟨iv 32,.func (.func 223) #[] #[],23⟩,⟨iv 33,.func (.func 224) #[] #[],24⟩,⟨iv 16,.func (.func 225) #[] #[],25⟩,⟨iv 15,.func (.func 226) #[] #[],26⟩,⟨iv 10,.func (.func 227) #[] #[],27⟩,⟨iv 35,.func (.func 228) #[] #[],28⟩,⟨iv 17,.func (.func 229) #[] #[],29⟩,⟨iv 7,.func (.func 230) #[] #[],30⟩,⟨iv 18,.func (.func 231) #[] #[],31⟩,⟨iv 39,.func (.func 232) #[] #[],32⟩,⟨iv 40,.func (.func 233) #[] #[],33⟩,⟨iv 44,.func (.func 234) #[] #[],34⟩,⟨iv 14,.func (.func 235) #[] #[],35⟩,⟨iv 36,.func (.func 236) #[] #[],36⟩,⟨iv 37,.func (.func 237) #[] #[],37⟩,⟨iv 12,.func (.func 238) #[] #[],38⟩,⟨iv 13,.func (.func 239) #[] #[],39⟩] 40)]) (fun x=>[]):=by
 refine zco Tryz.func134 [] fun X hX hr hD=>?_
 replace hR:=(A3.eq_1 ..).symm.trans hR
 refine sr 1 rfl (ip' 1 0 [] ?_)
 refine ie (sr 43 rfl (it rfl (A4t rfl) fun b1=>?_))
 refine B7p (m:=2) (mo:=1) (es':=[⟨iv 1,.func (.func 201) #[] #[],0⟩,⟨iv 34,.func (.func 202) #[] #[],1⟩,⟨iv 3,.func (.func 203) #[] #[],2⟩,⟨iv 4,.func (.func 204) #[] #[],3⟩,⟨iv 24,.func (.func 204) #[] #[],4⟩,⟨iv 25,.func (.func 205) #[] #[],5⟩,⟨iv 6,.func (.func 206) #[] #[],6⟩,⟨iv 5,.func (.func 207) #[] #[],7⟩,⟨iv 8,.func (.func 208) #[] #[],8⟩,⟨iv 9,.func (.func 209) #[] #[],9⟩,⟨iv 11,.func (.func 210) #[] #[],10⟩,⟨iv 19,.func (.func 211) #[] #[],11⟩,⟨iv 23,.func (.func 212) #[] #[],12⟩,⟨iv 22,.func (.func 213) #[] #[],13⟩,⟨iv 20,.func (.func 214) #[] #[],14⟩,⟨iv 21,.func (.func 215) #[] #[],15⟩,⟨iv 38,.func (.func 216) #[] #[],16⟩,⟨iv 26,.func (.func 217) #[] #[],17⟩,⟨iv 27,.func (.func 218) #[] #[],18⟩,⟨iv 30,.func (.func 219) #[] #[],19⟩,⟨iv 28,.func (.func 220) #[] #[],20⟩,⟨iv 29,.func (.func 221) #[] #[],21⟩,⟨iv 31,.func (.func 222) #[] #[],22⟩,⟨iv 32,.func (.func 223) #[] #[],23⟩,⟨iv 33,.func (.func 224) #[] #[],24⟩,⟨iv 16,.func (.func 225) #[] #[],25⟩,⟨iv 15,.func (.func 226) #[] #[],26⟩,⟨iv 10,.func (.func 227) #[] #[],27⟩,⟨iv 35,.func (.func 228) #[] #[],28⟩,⟨iv 17,.func (.func 229) #[] #[],29⟩,⟨iv 7,.func (.func 230) #[] #[],30⟩,⟨iv 18,.func (.func 231) #[] #[],31⟩,⟨iv 39,.func (.func 232) #[] #[],32⟩,⟨iv 40,.func (.func 233) #[] #[],33⟩,⟨iv 44,.func (.func 234) #[] #[],34⟩,⟨iv 14,.func (.func 235) #[] #[],35⟩,⟨iv 36,.func (.func 236) #[] #[],36⟩,⟨iv 37,.func (.func 237) #[] #[],37⟩,⟨iv 12,.func (.func 238) #[] #[],38⟩,⟨iv 13,.func (.func 239) #[] #[],39⟩]) C2m rfl 0 40 1 0 [] _ rfl (by kernel_rfl) ?_
 refine B8f (L':=[(b1,.map #[⟨iv 1,.func (.func 201) #[] #[],0⟩,⟨iv 34,.func (.func 202) #[] #[],1⟩,⟨iv 3,.func (.func 203) #[] #[],2⟩,⟨iv 4,.func (.func 204) #[] #[],3⟩,⟨iv 24,.func (.func 204) #[] #[],4⟩,⟨iv 25,.func (.func 205) #[] #[],5⟩,⟨iv 6,.func (.func 206) #[] #[],6⟩,⟨iv 5,.func (.func 207) #[] #[],7⟩,⟨iv 8,.func (.func 208) #[] #[],8⟩,⟨iv 9,.func (.func 209) #[] #[],9⟩,⟨iv 11,.func (.func 210) #[] #[],10⟩,⟨iv 19,.func (.func 211) #[] #[],11⟩,⟨iv 23,.func (.func 212) #[] #[],12⟩,⟨iv 22,.func (.func 213) #[] #[],13⟩,⟨iv 20,.func (.func 214) #[] #[],14⟩,⟨iv 21,.func (.func 215) #[] #[],15⟩,⟨iv 38,.func (.func 216) #[] #[],16⟩,⟨iv 26,.func (.func 217) #[] #[],17⟩,⟨iv 27,.func (.func 218) #[] #[],18⟩,⟨iv 30,.func (.func 219) #[] #[],19⟩,⟨iv 28,.func (.func 220) #[] #[],20⟩,⟨iv 29,.func (.func 221) #[] #[],21⟩,⟨iv 31,.func (.func 222) #[] #[],22⟩,⟨iv 32,.func (.func 223) #[] #[],23⟩,⟨iv 33,.func (.func 224) #[] #[],24⟩,⟨iv 16,.func (.func 225) #[] #[],25⟩,⟨iv 15,.func (.func 226) #[] #[],26⟩,⟨iv 10,.func (.func 227) #[] #[],27⟩,⟨iv 35,.func (.func 228) #[] #[],28⟩,⟨iv 17,.func (.func 229) #[] #[],29⟩,⟨iv 7,.func (.func 230) #[] #[],30⟩,⟨iv 18,.func (.func 231) #[] #[],31⟩,⟨iv 39,.func (.func 232) #[] #[],32⟩,⟨iv 40,.func (.func 233) #[] #[],33⟩,⟨iv 44,.func (.func 234) #[] #[],34⟩,⟨iv 14,.func (.func 235) #[] #[],35⟩,⟨iv 36,.func (.func 236) #[] #[],36⟩,⟨iv 37,.func (.func 237) #[] #[],37⟩,⟨iv 12,.func (.func 238) #[] #[],38⟩,⟨iv 13,.func (.func 239) #[] #[],39⟩] 40)]) rfl ?_
 refine ip' 2 0 [(0,.map (some b1))] ?_
 subst hR
 refine ie (B4 ?_)
 exact zer hr hD (R1 rfl (B5 rfl)) b1 (mk [true] rfl) fn0
def A4w:Bool :=
 false
theorem A9c (R:Bool) (hR:A4w=R):M9 Tryz.prog 135 [iv 37] [] (bv R):=by
 refine zco Tryz.func135 [(0,iv 37)] fun X hX hr hD=>?_
 replace hR:=(A4w.eq_1 ..).symm.trans hR
 refine sr 1 rfl (ip' 1 0 [] ?_)
 refine ie (sr 7 rfl (ip' 7 0 [(2,bv false)] ?_))
 subst hR
 refine ie (B4 ?_)
 exact F8 hr hD
def A3j:Bool :=
 true
theorem A6w (R:Bool) (hR:A3j=R):M9 Tryz.prog 136 [ag (F4 (⟨37,1049,1,Col.zero,[]⟩:Act))] [] (bv R):=by
 refine zco Tryz.func136 [(0,ag (F4 (⟨37,1049,1,Col.zero,[]⟩:Act)))] fun X hX hr hD=>?_
 replace hR:=(A3j.eq_1 ..).symm.trans hR
 refine sr 2 rfl (K6 2 0 [] (fun b1=>[(1,pt b1 0)]) (fun b1=>[bx b1 (F4 (⟨37,1049,1,Col.zero,[]⟩:Act)) 81]) (fun b1=>?_))
 refine ie (A4 (sr 2 rfl (zrl 2 0 [0] [(5,iv 37)] ?_)))
 refine ie (A9 (sr 2 rfl (ip' 2 0 [(6,bv false)] ?_)))
 refine ie (V5 rfl (sr 2 rfl (ip' 2 0 [(11,bv true)] ?_)))
 refine ie (I0 rfl (sr 14 rfl (zrl 14 0 [0,0,0] [(2,bv true)] ?_)))
 subst hR
 refine ie (B4 ?_)
 exact F8 hr hD
def C6 (s:ScrC) (sMain:List (Rwc Cel)) (sAlt:List (Rwc Cel)) (sTabs:List Bool) (save:Bool):ScrC :=
 (bif save then {s with kept:=(⟨true,s.cursor,s.style,s.sets,s.modes.origin⟩:Sav)} else {s with cursor:=s.kept.cursor,style:=s.kept.style,sets:=s.kept.sets,modes:={s.modes with origin:=s.kept.origin}})
theorem A5z (s:ScrC) (sMain:List (Rwc Cel)) (sAlt:List (Rwc Cel)) (sTabs:List Bool) (save:Bool) (sb:Nat) (sMainq:Option Addr) (sMainrs:List Rwq) (sMaink:Nat) (sAltq:Option Addr) (sAltrs:List Rwq) (sAltk:Nat) (sTabsq:Option Addr) (sTabsk:Nat) (hrowssMainrs:E6 sMainrs sMain) (hlsMain:sMain.length≤9223372036854775807) (hcsMain:sMain.length≤sMaink) (hrowssAltrs:E6 sAltrs sAlt) (hlsAlt:sAlt.length≤9223372036854775807) (hcsAlt:sAlt.length≤sAltk) (hlsTabs:sTabs.length≤9223372036854775807) (hcsTabs:sTabs.length≤sTabsk) (R:ScrC) (hR:C6 s sMain sAlt sTabs save=R):Con Tryz.prog 302 [pt sb 0,pt sb 39,bv save] [bx sb (B1 s ⟨sMainq,sMain.length,sMaink⟩ ⟨sAltq,sAlt.length,sAltk⟩ ⟨none,0,0⟩ ⟨sTabsq,sTabs.length,sTabsk⟩) 114] [sl C4 sMainq sMainrs,D9 B3 sMainrs sMain,sl C4 sAltq sAltrs,D9 B3 sAltrs sAlt,sl F6 sTabsq sTabs] (Unit) (fun x=>.tuple #[]) (fun x=>[bx sb (B1 R ⟨sMainq,sMain.length,sMaink⟩ ⟨sAltq,sAlt.length,sAltk⟩ ⟨none,0,0⟩ ⟨sTabsq,sTabs.length,sTabsk⟩) 114]) (fun x=>[]):=by
 refine zco Tryz.func302 [(0,pt sb 0),(1,pt sb 39),(2,bv save)] fun X hX hr hD=>?_
 replace hR:=(C6.eq_1 ..).symm.trans hR
 have:=hrowssMainrs.1
 have:=hrowssAltrs.1
 refine A4 (sr 1 rfl (ip' 1 0 [(6,bv save)] ?_))
 refine ie ?_
 refine zjb rfl hR ?_ ?_<;>clear hR<;>intro hR h1
 ·refine sh 25 [(24,[bx sb (B1 s ⟨sMainq,sMain.length,sMaink⟩ ⟨sAltq,sAlt.length,sAltk⟩ ⟨none,0,0⟩ ⟨sTabsq,sTabs.length,sTabsk⟩) 114])] [sl C4 sMainq sMainrs,D9 B3 sMainrs sMain,sl C4 sAltq sAltrs,D9 B3 sAltrs sAlt,sl F6 sTabsq sTabs] [bx sb (B1 s ⟨sMainq,sMain.length,sMaink⟩ ⟨sAltq,sAlt.length,sAltk⟩ ⟨none,0,0⟩ ⟨sTabsq,sTabs.length,sTabsk⟩) 114] (zml 25 0) (by kernel_rfl) rfl (by kernel_rfl) (by kernel_rfl) (by kernel_rfl) (mk [true] rfl) A5.refl ?_
  refine zhp [0,1,2,3,4,6,7,8,9,11,12,13,14,16,17,18,19,20] 7 (zml 25 2063327) [(7,pt sb 39),(11,pt sb 6),(16,pt sb 9),(21,pt sb 17),(27,pt sb 27)] ?_
  refine zhl 5 [bx sb (B1 s ⟨sMainq,sMain.length,sMaink⟩ ⟨sAltq,sAlt.length,sAltk⟩ ⟨none,0,0⟩ ⟨sTabsq,sTabs.length,sTabsk⟩) 114] (zml 25 2063359) rfl (O2 (us:=A5i s.cursor) C5f rfl rfl 0 rfl rfl rfl) ?_
  refine zhl 10 [bx sb (B1 s ⟨sMainq,sMain.length,sMaink⟩ ⟨sAltq,sAlt.length,sAltk⟩ ⟨none,0,0⟩ ⟨sTabsq,sTabs.length,sTabsk⟩) 114] (zml 25 2064383) rfl (O2 (us:=J8 s.style) C4y rfl rfl 0 rfl rfl rfl) ?_
  refine zhl 15 [bx sb (B1 s ⟨sMainq,sMain.length,sMaink⟩ ⟨sAltq,sAlt.length,sAltk⟩ ⟨none,0,0⟩ ⟨sTabsq,sTabs.length,sTabsk⟩) 114] (zml 25 2097151) rfl (O2 (us:=A4q s.sets) C5e rfl rfl 0 rfl rfl rfl) ?_
  refine zhl 21 [bx sb (B1 s ⟨sMainq,sMain.length,sMaink⟩ ⟨sAltq,sAlt.length,sAltk⟩ ⟨none,0,0⟩ ⟨sTabsq,sTabs.length,sTabsk⟩) 114] (zml 25 4194303) rfl (C9 (v:=bv s.modes.origin) ty4 rfl rfl 0 rfl rfl) ?_
  refine zhk 22 (zml 25 8388607) rfl (A5r (cs:=A3i (⟨true,s.cursor,s.style,s.sets,s.modes.origin⟩:Sav)) rfl rfl (by kernel_rfl)) ?_
  refine zhp [23] 1 (zml 25 16777215) [(30,pt sb 39)] ?_
  refine zho 24 [] (zml 25 33554431) rfl (L8 (us:=A3i (⟨true,s.cursor,s.style,s.sets,s.modes.origin⟩:Sav)) (cs':=B1 ({s with kept:=(⟨true,s.cursor,s.style,s.sets,s.modes.origin⟩:Sav)}) ⟨sMainq,sMain.length,sMaink⟩ ⟨sAltq,sAlt.length,sAltk⟩ ⟨none,0,0⟩ ⟨sTabsq,sTabs.length,sTabsk⟩) C8o rfl rfl rfl 0 rfl rfl rfl rfl rfl rfl) (fun _=>(mk [false] rfl)) (fun _=>A5.refl) fun _=>?_
  refine A8u (by kernel_rfl) ?_
  subst hR
  refine B4 ?_
  exact zer hr hD (A8e rfl) () (mk [true] rfl) fn0
 refine A8 (nx (sh' 37 [(23,[bx sb (B1 s ⟨sMainq,sMain.length,sMaink⟩ ⟨sAltq,sAlt.length,sAltk⟩ ⟨none,0,0⟩ ⟨sTabsq,sTabs.length,sTabsk⟩) 114])] [sl C4 sMainq sMainrs,D9 B3 sMainrs sMain,sl C4 sAltq sAltrs,D9 B3 sAltrs sAlt,sl F6 sTabsq sTabs] [bx sb (B1 s ⟨sMainq,sMain.length,sMaink⟩ ⟨sAltq,sAlt.length,sAltk⟩ ⟨none,0,0⟩ ⟨sTabsq,sTabs.length,sTabsk⟩) 114] (zml 37 0) (by kernel_rfl) rfl (by kernel_rfl) (by kernel_rfl) (by kernel_rfl) (mk [true] rfl) A5.refl ?_))
 refine zhp [0,1,2,3,4,5,6,8,9,10,12,13,14,16,17,18] 21 (zml 37 489343) [(31,pt sb 0),(32,pt sb 0),(33,pt sb 0),(34,pt sb 0),(37,pt sb 40),(41,pt sb 43),(45,pt sb 51),(49,pt sb 57)] ?_
 refine zhl 7 [bx sb (B1 s ⟨sMainq,sMain.length,sMaink⟩ ⟨sAltq,sAlt.length,sAltk⟩ ⟨none,0,0⟩ ⟨sTabsq,sTabs.length,sTabsk⟩) 114] (zml 37 489471) rfl (O2 (us:=A5i s.kept.cursor) C5f rfl rfl 0 rfl rfl rfl) ?_
 refine zhl 11 [bx sb (B1 s ⟨sMainq,sMain.length,sMaink⟩ ⟨sAltq,sAlt.length,sAltk⟩ ⟨none,0,0⟩ ⟨sTabsq,sTabs.length,sTabsk⟩) 114] (zml 37 491519) rfl (O2 (us:=J8 s.kept.style) C4y rfl rfl 0 rfl rfl rfl) ?_
 refine zhl 15 [bx sb (B1 s ⟨sMainq,sMain.length,sMaink⟩ ⟨sAltq,sAlt.length,sAltk⟩ ⟨none,0,0⟩ ⟨sTabsq,sTabs.length,sTabsk⟩) 114] (zml 37 524287) rfl (O2 (us:=A4q s.kept.sets) C5e rfl rfl 0 rfl rfl rfl) ?_
 refine zhl 19 [bx sb (B1 s ⟨sMainq,sMain.length,sMaink⟩ ⟨sAltq,sAlt.length,sAltk⟩ ⟨none,0,0⟩ ⟨sTabsq,sTabs.length,sTabsk⟩) 114] (zml 37 1048575) rfl (C9 (v:=bv s.kept.origin) ty4 rfl rfl 0 rfl rfl) ?_
 refine zhp [20,21,22] 14 (zml 37 8388607) [(53,pt sb 6)] ?_
 refine zho 23 [] (zml 37 16777215) rfl (L8 (us:=A5i s.kept.cursor) (cs':=B1 ({s with cursor:=s.kept.cursor}) ⟨sMainq,sMain.length,sMaink⟩ ⟨sAltq,sAlt.length,sAltk⟩ ⟨none,0,0⟩ ⟨sTabsq,sTabs.length,sTabsk⟩) C5f rfl rfl rfl 0 rfl rfl rfl rfl rfl rfl) (fun _=>(mk [false] rfl)) (fun _=>A5.refl) fun _=>?_
 refine zhp [24,25,26] 10 (zml 37 134217727) [(56,pt sb 9)] ?_
 refine zho 27 [] (zml 37 268435455) rfl (L8 (us:=J8 s.kept.style) (cs':=B1 ({s with cursor:=s.kept.cursor,style:=s.kept.style}) ⟨sMainq,sMain.length,sMaink⟩ ⟨sAltq,sAlt.length,sAltk⟩ ⟨none,0,0⟩ ⟨sTabsq,sTabs.length,sTabsk⟩) C4y rfl rfl rfl 0 rfl rfl rfl rfl rfl rfl) (fun _=>(mk [false] rfl)) (fun _=>A5.refl) fun _=>?_
 refine zhp [28,29,30] 6 (zml 37 2147483647) [(59,pt sb 17)] ?_
 refine zho 31 [] (zml 37 4294967295) rfl (L8 (us:=A4q s.kept.sets) (cs':=B1 ({s with cursor:=s.kept.cursor,style:=s.kept.style,sets:=s.kept.sets}) ⟨sMainq,sMain.length,sMaink⟩ ⟨sAltq,sAlt.length,sAltk⟩ ⟨none,0,0⟩ ⟨sTabsq,sTabs.length,sTabsk⟩) C5e rfl rfl rfl 0 rfl rfl rfl rfl rfl rfl) (fun _=>(mk [false] rfl)) (fun _=>A5.refl) fun _=>?_
 refine zhp [32,33,34,35] 1 (zml 37 68719476735) [(63,pt sb 27)] ?_
 refine zho 36 [] (zml 37 137438953471) rfl (L8 (us:=[bv s.kept.origin]) (cs':=B1 ({s with cursor:=s.kept.cursor,style:=s.kept.style,sets:=s.kept.sets,modes:={s.modes with origin:=s.kept.origin}}) ⟨sMainq,sMain.length,sMaink⟩ ⟨sAltq,sAlt.length,sAltk⟩ ⟨none,0,0⟩ ⟨sTabsq,sTabs.length,sTabsk⟩) ty4 rfl rfl rfl 0 rfl rfl rfl rfl rfl rfl) (fun _=>(mk [false] rfl)) (fun _=>A5.refl) fun _=>?_
 refine B0n (by kernel_rfl) ?_
 subst hR
 exact zen hr hD (A8e rfl) () (mk [true] rfl) fn0
def U0 (s:ScrC) (sMain:List (Rwc Cel)) (sAlt:List (Rwc Cel)) (sTabs:List Bool):List (Rwc Cel) :=
 (H3 (A1s s.cols s.rows Sty.zero) fun (y5:List (Rwc Cel)×Int)=>y5.1)
theorem A3d (s:ScrC) (sMain:List (Rwc Cel)) (sAlt:List (Rwc Cel)) (sTabs:List Bool) (sb:Nat) (sMainq:Option Addr) (sMainrs:List Rwq) (sMaink:Nat) (sAltq:Option Addr) (sAltrs:List Rwq) (sAltk:Nat) (sTabsq:Option Addr) (sTabsk:Nat) (hrowssMainrs:E6 sMainrs sMain) (hlsMain:sMain.length≤9223372036854775807) (hcsMain:sMain.length≤sMaink) (hrowssAltrs:E6 sAltrs sAlt) (hlsAlt:sAlt.length≤9223372036854775807) (hcsAlt:sAlt.length≤sAltk) (hlsTabs:sTabs.length≤9223372036854775807) (hcsTabs:sTabs.length≤sTabsk) (R:List (Rwc Cel)) (hR:U0 s sMain sAlt sTabs=R):Con Tryz.prog 301 [pt sb 0] [bx sb (B1 s ⟨sMainq,sMain.length,sMaink⟩ ⟨sAltq,sAlt.length,sAltk⟩ ⟨none,0,0⟩ ⟨sTabsq,sTabs.length,sTabsk⟩) 114] [sl C4 sMainq sMainrs,D9 B3 sMainrs sMain,sl C4 sAltq sAltrs,D9 B3 sAltrs sAlt,sl F6 sTabsq sTabs] ({t:VR×List Rwq // VOk 2 R.length t.1∧E6 t.2 R}) (fun x=>.tuple #[]) (fun x=>(bx sb (B1 s ⟨sMainq,sMain.length,sMaink⟩ ⟨va x.1.1.q,R.length,x.1.1.k⟩ ⟨none,0,0⟩ ⟨sTabsq,sTabs.length,sTabsk⟩) 114::(vo C4 78 x.1.1 x.1.2)++([]))) (fun x=>[D9 B3 x.1.2 R]):=by
 refine zco Tryz.func301 [(0,pt sb 0)] fun X hX hr hD=>?_
 replace hR:=(U0.eq_1 ..).symm.trans hR
 have:=hrowssMainrs.1
 have:=hrowssAltrs.1
 refine sh' 20 [(19,[bx sb (B1 s ⟨sMainq,sMain.length,sMaink⟩ ⟨sAltq,sAlt.length,sAltk⟩ ⟨none,0,0⟩ ⟨sTabsq,sTabs.length,sTabsk⟩) 114])] [sl C4 sMainq sMainrs,D9 B3 sMainrs sMain,sl C4 sAltq sAltrs,D9 B3 sAltrs sAlt,sl F6 sTabsq sTabs] [bx sb (B1 s ⟨sMainq,sMain.length,sMaink⟩ ⟨sAltq,sAlt.length,sAltk⟩ ⟨none,0,0⟩ ⟨sTabsq,sTabs.length,sTabsk⟩) 114] (zml 20 0) (by kernel_rfl) rfl (by kernel_rfl) (by kernel_rfl) (by kernel_rfl) (mk [true] rfl) A5.refl ?_
 refine zhp [0,1,2,3,4,6,7,8,9] 11 (zml 20 991) [(3,pt sb 0),(7,pt sb 0),(12,pt sb 1)] ?_
 refine zhl 5 [bx sb (B1 s ⟨sMainq,sMain.length,sMaink⟩ ⟨sAltq,sAlt.length,sAltk⟩ ⟨none,0,0⟩ ⟨sTabsq,sTabs.length,sTabsk⟩) 114] (zml 20 1023) rfl (C9 (v:=iv s.cols) ty3 rfl rfl 0 rfl rfl) ?_
 refine zhl 10 [bx sb (B1 s ⟨sMainq,sMain.length,sMaink⟩ ⟨sAltq,sAlt.length,sAltk⟩ ⟨none,0,0⟩ ⟨sTabsq,sTabs.length,sTabsk⟩) 114] (zml 20 2047) rfl (C9 (v:=iv s.rows) ty3 rfl rfl 0 rfl rfl) ?_
 refine zhk 11 (zml 20 4095) rfl (A5r (cs:=J8 Sty.zero) rfl rfl (by kernel_rfl)) ?_
 have hQ:=I2 hR;clear hR;obtain ⟨y5,hy5,hR⟩:=hQ
 refine zho 12 [bx sb (B1 s ⟨sMainq,sMain.length,sMaink⟩ ⟨sAltq,sAlt.length,sAltk⟩ ⟨none,0,0⟩ ⟨sTabsq,sTabs.length,sTabsk⟩) 114] (zml 20 8191) rfl (H2 (L2:=[bx sb (B1 s ⟨sMainq,sMain.length,sMaink⟩ ⟨sAltq,sAlt.length,sAltk⟩ ⟨none,0,0⟩ ⟨sTabsq,sTabs.length,sTabsk⟩) 114]) (A6v s.cols s.rows Sty.zero y5 hy5) rfl rfl rfl rfl rfl fn0 (List.Perm.refl _) (fun ⟨⟨r1,rs2⟩,hp5⟩=>(bx sb (B1 s ⟨sMainq,sMain.length,sMaink⟩ ⟨sAltq,sAlt.length,sAltk⟩ ⟨none,0,0⟩ ⟨sTabsq,sTabs.length,sTabsk⟩) 114::(vo C4 78 r1 rs2)++([]))) (fun ⟨⟨r1,rs2⟩,hp5⟩=>H0 [vo C4 78 r1 rs2,[bx sb (B1 s ⟨sMainq,sMain.length,sMaink⟩ ⟨sAltq,sAlt.length,sAltk⟩ ⟨none,0,0⟩ ⟨sTabsq,sTabs.length,sTabsk⟩) 114]] [1,0] 2 rfl (by decide) (by first|rfl|simp only [List.flatten_cons,List.flatten_nil,List.append_nil,List.cons_append,List.nil_append,List.append_assoc]) [[bx sb (B1 s ⟨sMainq,sMain.length,sMaink⟩ ⟨sAltq,sAlt.length,sAltk⟩ ⟨none,0,0⟩ ⟨sTabsq,sTabs.length,sTabsk⟩) 114],vo C4 78 r1 rs2] rfl (by first|rfl|simp only [List.flatten_cons,List.flatten_nil,List.append_nil,List.cons_append,List.nil_append,List.append_assoc]))) (fun ⟨⟨r1,rs2⟩,hp5⟩=>(mc [[bx sb (B1 s ⟨sMainq,sMain.length,sMaink⟩ ⟨sAltq,sAlt.length,sAltk⟩ ⟨none,0,0⟩ ⟨sTabsq,sTabs.length,sTabsk⟩) 114],vo C4 78 r1 rs2] [true,false] rfl (by first|rfl|(simp only [List.length_set]<;>rfl)))) (fun ⟨⟨r1,rs2⟩,hp5⟩=>(A5.pick [1,2,3,4,5] rfl)) fun ⟨⟨r1,rs2⟩,hp5⟩=>?_
 try dsimp only at hp5
 obtain ⟨hk3,hw4⟩:=hp5
 have:=VOk.le hk3
 have:=VOk.cap hk3
 have:=hw4.1
 refine zhp [13,14,15,16,17,18] 1 (zml 20 524287) [(16,.slice (va r1.q) y5.1.length r1.k),(20,pt sb 3)] ?_
 refine zho 19 [] (zml 20 1048575) rfl (L8 (us:=[.slice (va r1.q) y5.1.length r1.k]) (cs':=B1 s ⟨sMainq,sMain.length,sMaink⟩ ⟨va r1.q,y5.1.length,r1.k⟩ ⟨none,0,0⟩ ⟨sTabsq,sTabs.length,sTabsk⟩) C8h rfl rfl rfl 0 rfl rfl rfl rfl rfl rfl) (fun _=>(List.nil_sublist _)) (fun _=>(A5.pick [1,2,3,4,5] rfl)) fun _=>?_
 refine B0n (by kernel_rfl) ?_
 subst hR
 exact zen hr hD (A8e rfl) ⟨(r1,rs2),⟨hk3,hw4⟩⟩ (mc [[bx sb (B1 s ⟨sMainq,sMain.length,sMaink⟩ ⟨va r1.q,y5.1.length,r1.k⟩ ⟨none,0,0⟩ ⟨sTabsq,sTabs.length,sTabsk⟩) 114],vo C4 78 r1 rs2] [true,true] rfl (by first|rfl|(simp only [List.length_set]<;>rfl))) (A5.con1 (B9 0 rfl) fn0)
def A0j (s:ScrC) (sMain:List (Rwc Cel)) (sAlt:List (Rwc Cel)) (sTabs:List Bool):ScrC×List (Rwc Cel) :=
 (bif (true == s.onAlt) then (s,sAlt) else (H3 (U0 ({(C6 ({s with onAlt:=true}) sMain sAlt sTabs true) with cursor:={(C6 ({s with onAlt:=true}) sMain sAlt sTabs true).cursor with wrap:=false}}) sMain sAlt sTabs) fun (y6:List (Rwc Cel))=>({(C6 ({s with onAlt:=true}) sMain sAlt sTabs true) with cursor:={(C6 ({s with onAlt:=true}) sMain sAlt sTabs true).cursor with wrap:=false}},y6)))
theorem A6q (s:ScrC) (sMain:List (Rwc Cel)) (sAlt:List (Rwc Cel)) (sTabs:List Bool) (sb:Nat) (sMainq:Option Addr) (sMainrs:List Rwq) (sMaink:Nat) (sAltq:Option Addr) (sAltrs:List Rwq) (sAltk:Nat) (sTabsq:Option Addr) (sTabsk:Nat) (hrowssMainrs:E6 sMainrs sMain) (hlsMain:sMain.length≤9223372036854775807) (hcsMain:sMain.length≤sMaink) (hrowssAltrs:E6 sAltrs sAlt) (hlsAlt:sAlt.length≤9223372036854775807) (hcsAlt:sAlt.length≤sAltk) (hlsTabs:sTabs.length≤9223372036854775807) (hcsTabs:sTabs.length≤sTabsk) (R:ScrC×List (Rwc Cel)) (hR:A0j s sMain sAlt sTabs=R):Con Tryz.prog 237 [pt sb 0,ag (F4 (⟨37,1049,1,Col.zero,[]⟩:Act))] [bx sb (B1 s ⟨sMainq,sMain.length,sMaink⟩ ⟨sAltq,sAlt.length,sAltk⟩ ⟨none,0,0⟩ ⟨sTabsq,sTabs.length,sTabsk⟩) 114] [sl C4 sMainq sMainrs,D9 B3 sMainrs sMain,sl C4 sAltq sAltrs,D9 B3 sAltrs sAlt,sl F6 sTabsq sTabs] ({t:Option Addr×List Rwq×Nat // E6 t.2.1 R.2∧R.2.length≤t.2.2∧R.2.length≤9223372036854775807}) (fun x=>.tuple #[]) (fun x=>[bx sb (B1 R.1 ⟨sMainq,sMain.length,sMaink⟩ ⟨x.1.1,R.2.length,x.1.2.2⟩ ⟨none,0,0⟩ ⟨sTabsq,sTabs.length,sTabsk⟩) 114]) (fun x=>[sl C4 x.1.1 x.1.2.1,D9 B3 x.1.2.1 R.2]):=by
 refine zco Tryz.func237 [(0,pt sb 0),(1,ag (F4 (⟨37,1049,1,Col.zero,[]⟩:Act)))] fun X hX hr hD=>?_
 replace hR:=(A0j.eq_1 ..).symm.trans hR
 have:=hrowssMainrs.1
 have:=hrowssAltrs.1
 refine sr 1 rfl (K6 1 0 [] (fun b1=>[(3,pt b1 0)]) (fun b1=>[bx b1 (F4 (⟨37,1049,1,Col.zero,[]⟩:Act)) 81,bx sb (B1 s ⟨sMainq,sMain.length,sMaink⟩ ⟨sAltq,sAlt.length,sAltk⟩ ⟨none,0,0⟩ ⟨sTabsq,sTabs.length,sTabsk⟩) 114]) (fun b1=>?_))
 refine ie (sr 4 rfl (zrl 4 0 [0] [(4,bv true)] ?_))
 refine ie (sr 2 rfl (zrl 2 0 [0] [(9,iv 1049)] ?_))
 refine ie (A9 (sr 2 rfl (ip' 2 0 [(40,bv false)] ?_)))
 refine ie (V5 rfl (sr 2 rfl (ip' 2 0 [(58,bv false)] ?_)))
 refine ie (V5 rfl (sr 2 rfl (ip' 2 0 [(65,bv false)] ?_)))
 refine ie (V5 rfl (sr 2 rfl (ip' 2 0 [(74,bv true)] ?_)))
 refine ie (I0 rfl (A4 (sr 7 rfl (zrl 6 1 [1] [(76,bv true),(81,bv s.onAlt)] ?_))))
 refine ix rfl (B9m Tryz.underlying4 rfl rfl rfl) ?_
 refine ie ?_
 refine zjb rfl hR ?_ ?_<;>clear hR<;>intro hR h2
 ·subst hR
  refine B4 ?_
  exact zer hr hD (A8e rfl) ⟨(sAltq,sAltrs,sAltk),⟨hrowssAltrs,(by first|omega|(simp only [List.length_take,List.length_drop,List.length_append,List.length_cons,List.length_nil,List.length_set,List.length_map,A7,A2,A3];omega)|decide),(by first|omega|(simp only [List.length_take,List.length_drop,List.length_append,List.length_cons,List.length_nil,List.length_set,List.length_map,A7,A2,A3];omega)|decide)⟩⟩ (mk [false,true] rfl) (A5.con1 (B9 2 rfl) (A5.con1 (B9 3 rfl) fn0))
 refine A8 (nx (sr 6 rfl (zrg 6 0 [1] [] [bx b1 (F4 (⟨37,1049,1,Col.zero,[]⟩:Act)) 81,bx sb (B1 ({s with onAlt:=true}) ⟨sMainq,sMain.length,sMaink⟩ ⟨sAltq,sAlt.length,sAltk⟩ ⟨none,0,0⟩ ⟨sTabsq,sTabs.length,sTabsk⟩) 114] ?_)))
 refine ie (sr 7 rfl (ip' 6 1 [(88,pt sb 0),(92,pt sb 39),(93,bv true)] ?_))
 refine it rfl (G9 (L2:=[bx b1 (F4 (⟨37,1049,1,Col.zero,[]⟩:Act)) 81]) (A5z ({s with onAlt:=true}) sMain sAlt sTabs true sb sMainq sMainrs sMaink sAltq sAltrs sAltk sTabsq sTabsk hrowssMainrs (by first|omega|(simp only [List.length_take,List.length_drop,List.length_append,List.length_cons,List.length_nil,List.length_set,List.length_map,A7,A2,A3];omega)|decide) (by first|omega|(simp only [List.length_take,List.length_drop,List.length_append,List.length_cons,List.length_nil,List.length_set,List.length_map,A7,A2,A3];omega)|decide) hrowssAltrs (by first|omega|(simp only [List.length_take,List.length_drop,List.length_append,List.length_cons,List.length_nil,List.length_set,List.length_map,A7,A2,A3];omega)|decide) (by first|omega|(simp only [List.length_take,List.length_drop,List.length_append,List.length_cons,List.length_nil,List.length_set,List.length_map,A7,A2,A3];omega)|decide) (by first|omega|(simp only [List.length_take,List.length_drop,List.length_append,List.length_cons,List.length_nil,List.length_set,List.length_map,A7,A2,A3];omega)|decide) (by first|omega|(simp only [List.length_take,List.length_drop,List.length_append,List.length_cons,List.length_nil,List.length_set,List.length_map,A7,A2,A3];omega)|decide) _ rfl) rfl rfl rfl rfl rfl A5.refl (H0 [[bx b1 (F4 (⟨37,1049,1,Col.zero,[]⟩:Act)) 81],[bx sb (B1 ({s with onAlt:=true}) ⟨sMainq,sMain.length,sMaink⟩ ⟨sAltq,sAlt.length,sAltk⟩ ⟨none,0,0⟩ ⟨sTabsq,sTabs.length,sTabsk⟩) 114]] [1,0] 2 rfl (by decide) rfl [[bx sb (B1 ({s with onAlt:=true}) ⟨sMainq,sMain.length,sMaink⟩ ⟨sAltq,sAlt.length,sAltk⟩ ⟨none,0,0⟩ ⟨sTabsq,sTabs.length,sTabsk⟩) 114],[bx b1 (F4 (⟨37,1049,1,Col.zero,[]⟩:Act)) 81]] rfl (by first|rfl|simp only [List.flatten_cons,List.flatten_nil,List.append_nil,List.cons_append,List.nil_append,List.append_assoc])) (fun _=>[bx sb (B1 (C6 ({s with onAlt:=true}) sMain sAlt sTabs true) ⟨sMainq,sMain.length,sMaink⟩ ⟨sAltq,sAlt.length,sAltk⟩ ⟨none,0,0⟩ ⟨sTabsq,sTabs.length,sTabsk⟩) 114,bx b1 (F4 (⟨37,1049,1,Col.zero,[]⟩:Act)) 81]) (fun _=>rfl)) fun _=>?_
 refine ie (sr 1 rfl (ip' 1 0 [(95,bv true)] ?_))
 refine ie (I0 rfl (sr 6 rfl (zrg 6 0 [0] [] [bx sb (B1 ({(C6 ({s with onAlt:=true}) sMain sAlt sTabs true) with cursor:={(C6 ({s with onAlt:=true}) sMain sAlt sTabs true).cursor with wrap:=false}}) ⟨sMainq,sMain.length,sMaink⟩ ⟨sAltq,sAlt.length,sAltk⟩ ⟨none,0,0⟩ ⟨sTabsq,sTabs.length,sTabsk⟩) 114,bx b1 (F4 (⟨37,1049,1,Col.zero,[]⟩:Act)) 81] ?_)))
 refine ie (A1 2 rfl (ip' 1 1 [(101,pt sb 0)] ?_))
 have hQ:=I2 hR;clear hR;obtain ⟨y6,hy6,hR⟩:=hQ
 refine it rfl (H2 (L2:=[bx b1 (F4 (⟨37,1049,1,Col.zero,[]⟩:Act)) 81]) (A3d ({(C6 ({s with onAlt:=true}) sMain sAlt sTabs true) with cursor:={(C6 ({s with onAlt:=true}) sMain sAlt sTabs true).cursor with wrap:=false}}) sMain sAlt sTabs sb sMainq sMainrs sMaink sAltq sAltrs sAltk sTabsq sTabsk hrowssMainrs (by first|omega|(simp only [List.length_take,List.length_drop,List.length_append,List.length_cons,List.length_nil,List.length_set,List.length_map,A7,A2,A3];omega)|decide) (by first|omega|(simp only [List.length_take,List.length_drop,List.length_append,List.length_cons,List.length_nil,List.length_set,List.length_map,A7,A2,A3];omega)|decide) hrowssAltrs (by first|omega|(simp only [List.length_take,List.length_drop,List.length_append,List.length_cons,List.length_nil,List.length_set,List.length_map,A7,A2,A3];omega)|decide) (by first|omega|(simp only [List.length_take,List.length_drop,List.length_append,List.length_cons,List.length_nil,List.length_set,List.length_map,A7,A2,A3];omega)|decide) (by first|omega|(simp only [List.length_take,List.length_drop,List.length_append,List.length_cons,List.length_nil,List.length_set,List.length_map,A7,A2,A3];omega)|decide) (by first|omega|(simp only [List.length_take,List.length_drop,List.length_append,List.length_cons,List.length_nil,List.length_set,List.length_map,A7,A2,A3];omega)|decide) y6 hy6) rfl rfl rfl rfl rfl A5.refl (H0 [[bx sb (B1 ({(C6 ({s with onAlt:=true}) sMain sAlt sTabs true) with cursor:={(C6 ({s with onAlt:=true}) sMain sAlt sTabs true).cursor with wrap:=false}}) ⟨sMainq,sMain.length,sMaink⟩ ⟨sAltq,sAlt.length,sAltk⟩ ⟨none,0,0⟩ ⟨sTabsq,sTabs.length,sTabsk⟩) 114],[bx b1 (F4 (⟨37,1049,1,Col.zero,[]⟩:Act)) 81]] [0,1] 2 rfl (by decide) rfl [[bx sb (B1 ({(C6 ({s with onAlt:=true}) sMain sAlt sTabs true) with cursor:={(C6 ({s with onAlt:=true}) sMain sAlt sTabs true).cursor with wrap:=false}}) ⟨sMainq,sMain.length,sMaink⟩ ⟨sAltq,sAlt.length,sAltk⟩ ⟨none,0,0⟩ ⟨sTabsq,sTabs.length,sTabsk⟩) 114],[bx b1 (F4 (⟨37,1049,1,Col.zero,[]⟩:Act)) 81]] rfl (by first|rfl|simp only [List.flatten_cons,List.flatten_nil,List.append_nil,List.cons_append,List.nil_append,List.append_assoc])) (fun ⟨⟨r3,rs4⟩,hp7⟩=>(bx sb (B1 ({(C6 ({s with onAlt:=true}) sMain sAlt sTabs true) with cursor:={(C6 ({s with onAlt:=true}) sMain sAlt sTabs true).cursor with wrap:=false}}) ⟨sMainq,sMain.length,sMaink⟩ ⟨va r3.q,y6.length,r3.k⟩ ⟨none,0,0⟩ ⟨sTabsq,sTabs.length,sTabsk⟩) 114::bx b1 (F4 (⟨37,1049,1,Col.zero,[]⟩:Act)) 81::(vo C4 78 r3 rs4)++([]))) (fun ⟨⟨r3,rs4⟩,hp7⟩=>H0 [[bx sb (B1 ({(C6 ({s with onAlt:=true}) sMain sAlt sTabs true) with cursor:={(C6 ({s with onAlt:=true}) sMain sAlt sTabs true).cursor with wrap:=false}}) ⟨sMainq,sMain.length,sMaink⟩ ⟨va r3.q,y6.length,r3.k⟩ ⟨none,0,0⟩ ⟨sTabsq,sTabs.length,sTabsk⟩) 114],vo C4 78 r3 rs4,[bx b1 (F4 (⟨37,1049,1,Col.zero,[]⟩:Act)) 81]] [0,2,1] 3 rfl (by decide) (by first|rfl|simp only [List.flatten_cons,List.flatten_nil,List.append_nil,List.cons_append,List.nil_append,List.append_assoc]) [[bx sb (B1 ({(C6 ({s with onAlt:=true}) sMain sAlt sTabs true) with cursor:={(C6 ({s with onAlt:=true}) sMain sAlt sTabs true).cursor with wrap:=false}}) ⟨sMainq,sMain.length,sMaink⟩ ⟨va r3.q,y6.length,r3.k⟩ ⟨none,0,0⟩ ⟨sTabsq,sTabs.length,sTabsk⟩) 114],[bx b1 (F4 (⟨37,1049,1,Col.zero,[]⟩:Act)) 81],vo C4 78 r3 rs4] rfl (by first|rfl|simp only [List.flatten_cons,List.flatten_nil,List.append_nil,List.cons_append,List.nil_append,List.append_assoc]))) fun ⟨⟨r3,rs4⟩,hp7⟩=>?_
 try dsimp only at hp7
 obtain ⟨hk5,hw6⟩:=hp7
 have:=VOk.le hk5
 have:=VOk.cap hk5
 have:=hw6.1
 refine A6 ?_
 have:=VOk.le hk5
 have:=VOk.cap hk5
 have:=hw6.1
 refine B4f [bx sb (B1 ({(C6 ({s with onAlt:=true}) sMain sAlt sTabs true) with cursor:={(C6 ({s with onAlt:=true}) sMain sAlt sTabs true).cursor with wrap:=false}}) ⟨sMainq,sMain.length,sMaink⟩ ⟨va r3.q,y6.length,r3.k⟩ ⟨none,0,0⟩ ⟨sTabsq,sTabs.length,sTabsk⟩) 114,bx b1 (F4 (⟨37,1049,1,Col.zero,[]⟩:Act)) 81] [] (T:=78) (c:=C4) (r:=r3) (xs:=rs4) (VOk.cast hk5 (by rw [hw6.1])) (by first|rfl|simp only [List.cons_append,List.append_assoc,List.nil_append,List.append_nil]) ?_
 subst hR
 exact zen hr hD (A8e rfl) ⟨(va r3.q,rs4,r3.k),⟨hw6,(by first|omega|(simp only [List.length_take,List.length_drop,List.length_append,List.length_cons,List.length_nil,List.length_set,List.length_map,A7,A2,A3];omega)|decide),(by first|omega|(simp only [List.length_take,List.length_drop,List.length_append,List.length_cons,List.length_nil,List.length_set,List.length_map,A7,A2,A3];omega)|decide)⟩⟩ (mk [true,false] rfl) (A5.con1 (B9 0 rfl) (A5.con1 (B9 1 rfl) fn0))
def A6k (s:ScrC) (sMain:List (Rwc Cel)) (sAlt:List (Rwc Cel)) (sTabs:List Bool):ScrC×List (Rwc Cel)×List (Rwc Cel)×List Bool×Int :=
 (bif (!decide ((I5 s sMain sAlt sTabs)=0)) then (ScrC.zero,([]:List (Rwc Cel)),([]:List (Rwc Cel)),([]:List Bool),(I5 s sMain sAlt sTabs)) else (bif (!decide ((Q7 1049 1 Col.zero [])=0)) then (ScrC.zero,([]:List (Rwc Cel)),([]:List (Rwc Cel)),([]:List Bool),(Q7 1049 1 Col.zero [])) else (H3 (A0j ({s with last:=0}) sMain sAlt sTabs) fun (y4:ScrC×List (Rwc Cel))=>(y4.1,sMain,y4.2,sTabs,0))))
theorem B4r (s:ScrC) (sMain:List (Rwc Cel)) (sAlt:List (Rwc Cel)) (sTabs:List Bool) (sMainq:Option Addr) (sMainrs:List Rwq) (sMaink:Nat) (sAltq:Option Addr) (sAltrs:List Rwq) (sAltk:Nat) (sTabsq:Option Addr) (sTabsk:Nat) (lq:Option Addr) (hrowssMainrs:E6 sMainrs sMain) (hlsMain:sMain.length≤9223372036854775807) (hcsMain:sMain.length≤sMaink) (hrowssAltrs:E6 sAltrs sAlt) (hlsAlt:sAlt.length≤9223372036854775807) (hcsAlt:sAlt.length≤sAltk) (hlsTabs:sTabs.length≤9223372036854775807) (hcsTabs:sTabs.length≤sTabsk) (hTs:s.title.length≤100000000) (R:ScrC×List (Rwc Cel)×List (Rwc Cel)×List Bool×Int) (hR:A6k s sMain sAlt sTabs=R):Con Tryz.prog 86 [ag (B1 s ⟨sMainq,sMain.length,sMaink⟩ ⟨sAltq,sAlt.length,sAltk⟩ ⟨none,0,0⟩ ⟨sTabsq,sTabs.length,sTabsk⟩),.slice lq 1 1] [] [sl C4 sMainq sMainrs,D9 B3 sMainrs sMain,sl C4 sAltq sAltrs,D9 B3 sAltrs sAlt,sl F6 sTabsq sTabs,sl F4 lq ([(⟨37,1049,1,Col.zero,[]⟩:Act)]:List Act),X9,Z3] ({t:Option Addr×List Rwq×Nat // E6 t.2.1 R.2.1∧R.2.1.length≤t.2.2∧R.2.1.length≤9223372036854775807}×{t:Option Addr×List Rwq×Nat // E6 t.2.1 R.2.2.1∧R.2.2.1.length≤t.2.2∧R.2.2.1.length≤9223372036854775807}×{t:Option Addr×Nat // R.2.2.2.1.length≤t.2∧R.2.2.2.1.length≤9223372036854775807}) (fun x=>.tuple #[ag (B1 R.1 ⟨x.1.1.1,R.2.1.length,x.1.1.2.2⟩ ⟨x.2.1.1.1,R.2.2.1.length,x.2.1.1.2.2⟩ ⟨none,0,0⟩ ⟨x.2.2.1.1,R.2.2.2.1.length,x.2.2.1.2⟩),iv R.2.2.2.2]) (fun x=>[]) (fun x=>[sl C4 x.1.1.1 x.1.1.2.1,D9 B3 x.1.1.2.1 R.2.1,sl C4 x.2.1.1.1 x.2.1.1.2.1,D9 B3 x.2.1.1.2.1 R.2.2.1,sl F6 x.2.2.1.1 R.2.2.2.1]):=by
 refine zco Tryz.func86 [(0,ag (B1 s ⟨sMainq,sMain.length,sMaink⟩ ⟨sAltq,sAlt.length,sAltk⟩ ⟨none,0,0⟩ ⟨sTabsq,sTabs.length,sTabsk⟩)),(1,.slice lq 1 1)] fun X hX hr hD=>?_
 replace hR:=(A6k.eq_1 ..).symm.trans hR
 have:=hrowssMainrs.1
 have:=hrowssAltrs.1
 refine sr 3 rfl (B1l 3 0 [] (fun b1 b2=>[(2,pt b1 0),(4,pt b2 0)]) (fun b1 b2=>[bx b2 (B1 ScrC.zero ⟨none,0,0⟩ ⟨none,0,0⟩ ⟨none,0,0⟩ ⟨none,0,0⟩) 52,bx b1 (B1 s ⟨sMainq,sMain.length,sMaink⟩ ⟨sAltq,sAlt.length,sAltk⟩ ⟨none,0,0⟩ ⟨sTabsq,sTabs.length,sTabsk⟩) 52]) (fun b1 b2=>?_))
 refine ie (A4 (sr 3 rfl (zrl 1 2 [1] [(16,ag (B1 s ⟨sMainq,sMain.length,sMaink⟩ ⟨sAltq,sAlt.length,sAltk⟩ ⟨none,0,0⟩ ⟨sTabsq,sTabs.length,sTabsk⟩))] ?_)))
 refine zca (A4h s sMain sAlt sTabs sMainq sMainrs sMaink sAltq sAltrs sAltk sTabsq sTabsk hrowssMainrs (by first|omega|(simp only [List.length_take,List.length_drop,List.length_append,List.length_cons,List.length_nil,List.length_set,List.length_map,A7,A2,A3];omega)|decide) (by first|omega|(simp only [List.length_take,List.length_drop,List.length_append,List.length_cons,List.length_nil,List.length_set,List.length_map,A7,A2,A3];omega)|decide) hrowssAltrs (by first|omega|(simp only [List.length_take,List.length_drop,List.length_append,List.length_cons,List.length_nil,List.length_set,List.length_map,A7,A2,A3];omega)|decide) (by first|omega|(simp only [List.length_take,List.length_drop,List.length_append,List.length_cons,List.length_nil,List.length_set,List.length_map,A7,A2,A3];omega)|decide) (by first|omega|(simp only [List.length_take,List.length_drop,List.length_append,List.length_cons,List.length_nil,List.length_set,List.length_map,A7,A2,A3];omega)|decide) (by first|omega|(simp only [List.length_take,List.length_drop,List.length_append,List.length_cons,List.length_nil,List.length_set,List.length_map,A7,A2,A3];omega)|decide) (by first|omega|(simp only [List.length_nil];omega)|(dsimp only;omega)) _ rfl) (A5.pick [0,1,2,3,4,6,7] rfl) ?_
 refine ip' 1 0 [(6,iv (I5 s sMain sAlt sTabs))] ?_
 refine ie (sr 2 rfl (ip' 2 0 [(19,bv (!decide ((I5 s sMain sAlt sTabs)=0)))] ?_))
 refine ie ?_
 refine zjn rfl hR ?_ ?_<;>clear hR<;>intro hR h3 h3p
 ·refine sr 4 rfl (zrg 4 0 [0] [(5,iv (I5 s sMain sAlt sTabs))] [bx b2 (B1 ScrC.zero ⟨none,0,0⟩ ⟨none,0,0⟩ ⟨none,0,0⟩ ⟨none,0,0⟩) 52,bx b1 (B1 s ⟨sMainq,sMain.length,sMaink⟩ ⟨sAltq,sAlt.length,sAltk⟩ ⟨none,0,0⟩ ⟨sTabsq,sTabs.length,sTabsk⟩) 52] ?_)
  subst hR
  refine ie (B4 ?_)
  exact zer hr hD (S0 rfl (V7 (us:=B1 ScrC.zero ⟨none,0,0⟩ ⟨none,0,0⟩ ⟨none,0,0⟩ ⟨none,0,0⟩) B1o rfl 0 rfl rfl) (B5 rfl)) (⟨(none,[],0),⟨E6.none,(by first|omega|(simp only [List.length_take,List.length_drop,List.length_append,List.length_cons,List.length_nil,List.length_set,List.length_map,A7,A2,A3];omega)|decide),(by first|omega|(simp only [List.length_take,List.length_drop,List.length_append,List.length_cons,List.length_nil,List.length_set,List.length_map,A7,A2,A3];omega)|decide)⟩⟩,⟨(none,[],0),⟨E6.none,(by first|omega|(simp only [List.length_take,List.length_drop,List.length_append,List.length_cons,List.length_nil,List.length_set,List.length_map,A7,A2,A3];omega)|decide),(by first|omega|(simp only [List.length_take,List.length_drop,List.length_append,List.length_cons,List.length_nil,List.length_set,List.length_map,A7,A2,A3];omega)|decide)⟩⟩,(zq none 0)) (mk [false,false] rfl) (A5.con1 Q6 (A5.con1 V4 (A5.con1 Q6 (A5.con1 V4 (A5.con1 Q6 fn0)))))
 refine A8 (nx (A4 (sr 3 rfl (ip' 3 0 [(24,bv false)] ?_))))
 refine ie (V5 rfl (A8 (nx (A4 (sr 3 rfl (ip' 3 0 [(26,.slice lq 1 1),(27,iv 1),(28,iv 0)] ?_))))))
 refine ie (A9 (P8 3 ?_))
 refine D8 (sr 1 rfl (ip' 1 0 [(29,bv true)] ?_))
 refine ie (A4 (I0 rfl (A8 (nx (A4 (A9 (sr 4 rfl (I4 5 rfl (by first|omega|exact Nat.zero_lt_one) fun a4 hq5=>?_))))))))
 refine ix rfl (F1 B7r rfl rfl hq5 rfl 0 rfl (by first|omega|exact Nat.zero_lt_one)) ?_
 refine ix rfl (M5 (us:=F4 (⟨37,1049,1,Col.zero,[]⟩:Act)) C6p rfl rfl (G6 (c:=F4) (sz:=6) hq5 (fun _=>rfl) 5 rfl (gd Act.zero (by first|omega|exact Nat.zero_lt_one))) rfl) ?_
 refine K6 2 0 [0] (fun b6=>[(8,pt b6 0)]) (fun b6=>[bx b6 (F4 (⟨37,1049,1,Col.zero,[]⟩:Act)) 81,bx b2 (B1 ScrC.zero ⟨none,0,0⟩ ⟨none,0,0⟩ ⟨none,0,0⟩ ⟨none,0,0⟩) 52,bx b1 (B1 s ⟨sMainq,sMain.length,sMaink⟩ ⟨sAltq,sAlt.length,sAltk⟩ ⟨none,0,0⟩ ⟨sTabsq,sTabs.length,sTabsk⟩) 52]) (fun b6=>?_)
 refine ie (sr 3 rfl (zrl 1 2 [0] [(32,ag (F4 (⟨37,1049,1,Col.zero,[]⟩:Act)))] ?_))
 refine zca (B0e 1049 1 Col.zero [] (by first|omega|(simp only [List.length_nil];omega)) _ rfl) fn0 ?_
 refine ip' 1 0 [(9,iv (Q7 1049 1 Col.zero []))] ?_
 refine ie (sr 2 rfl (ip' 2 0 [(35,bv (!decide ((Q7 1049 1 Col.zero [])=0)))] ?_))
 refine ie ?_
 refine zjn rfl hR ?_ ?_<;>clear hR<;>intro hR h7 h7p
 ·refine sr 4 rfl (zrg 4 0 [1] [(5,iv (Q7 1049 1 Col.zero []))] [bx b6 (F4 (⟨37,1049,1,Col.zero,[]⟩:Act)) 81,bx b2 (B1 ScrC.zero ⟨none,0,0⟩ ⟨none,0,0⟩ ⟨none,0,0⟩ ⟨none,0,0⟩) 52,bx b1 (B1 s ⟨sMainq,sMain.length,sMaink⟩ ⟨sAltq,sAlt.length,sAltk⟩ ⟨none,0,0⟩ ⟨sTabsq,sTabs.length,sTabsk⟩) 52] ?_)
  subst hR
  refine ie (B4 ?_)
  exact zer hr hD (S0 rfl (V7 (us:=B1 ScrC.zero ⟨none,0,0⟩ ⟨none,0,0⟩ ⟨none,0,0⟩ ⟨none,0,0⟩) B1o rfl 1 rfl rfl) (B5 rfl)) (⟨(none,[],0),⟨E6.none,(by first|omega|(simp only [List.length_take,List.length_drop,List.length_append,List.length_cons,List.length_nil,List.length_set,List.length_map,A7,A2,A3];omega)|decide),(by first|omega|(simp only [List.length_take,List.length_drop,List.length_append,List.length_cons,List.length_nil,List.length_set,List.length_map,A7,A2,A3];omega)|decide)⟩⟩,⟨(none,[],0),⟨E6.none,(by first|omega|(simp only [List.length_take,List.length_drop,List.length_append,List.length_cons,List.length_nil,List.length_set,List.length_map,A7,A2,A3];omega)|decide),(by first|omega|(simp only [List.length_take,List.length_drop,List.length_append,List.length_cons,List.length_nil,List.length_set,List.length_map,A7,A2,A3];omega)|decide)⟩⟩,(zq none 0)) (mk [false,false,false] rfl) (A5.con1 Q6 (A5.con1 V4 (A5.con1 Q6 (A5.con1 V4 (A5.con1 Q6 fn0)))))
 refine A8 (nx (A1 2 rfl (ix rfl (B0 (c:=1) rfl rfl rfl rfl (by decide)) ?_)))
 refine ip' 1 0 [(28,iv 1)] ?_
 refine A6 (D8 (sr 1 rfl (ip' 1 0 [(29,bv false)] ?_)))
 refine ie (A4 (V5 rfl (F3 (nx (sr 4 rfl (K6 4 0 [2] (fun b8=>[(10,pt b8 0)]) (fun b8=>[bx b8 (B1 s ⟨sMainq,sMain.length,sMaink⟩ ⟨sAltq,sAlt.length,sAltk⟩ ⟨none,0,0⟩ ⟨sTabsq,sTabs.length,sTabsk⟩) 114,bx b6 (F4 (⟨37,1049,1,Col.zero,[]⟩:Act)) 81,bx b2 (B1 ScrC.zero ⟨none,0,0⟩ ⟨none,0,0⟩ ⟨none,0,0⟩ ⟨none,0,0⟩) 52,bx b1 (B1 s ⟨sMainq,sMain.length,sMaink⟩ ⟨sAltq,sAlt.length,sAltk⟩ ⟨none,0,0⟩ ⟨sTabsq,sTabs.length,sTabsk⟩) 52]) (fun b8=>?_)))))))
 refine ie (sr 2 rfl (it rfl (G9 (L2:=[bx b8 (B1 s ⟨sMainq,sMain.length,sMaink⟩ ⟨sAltq,sAlt.length,sAltk⟩ ⟨none,0,0⟩ ⟨sTabsq,sTabs.length,sTabsk⟩) 114,bx b6 (F4 (⟨37,1049,1,Col.zero,[]⟩:Act)) 81,bx b2 (B1 ScrC.zero ⟨none,0,0⟩ ⟨none,0,0⟩ ⟨none,0,0⟩ ⟨none,0,0⟩) 52,bx b1 (B1 s ⟨sMainq,sMain.length,sMaink⟩ ⟨sAltq,sAlt.length,sAltk⟩ ⟨none,0,0⟩ ⟨sTabsq,sTabs.length,sTabsk⟩) 52]) (A8w _ rfl) rfl rfl rfl rfl rfl fn0 (List.Perm.refl _) (fun b9=>[(b9,.map #[⟨iv 1,.func (.func 201) #[] #[],0⟩,⟨iv 34,.func (.func 202) #[] #[],1⟩,⟨iv 3,.func (.func 203) #[] #[],2⟩,⟨iv 4,.func (.func 204) #[] #[],3⟩,⟨iv 24,.func (.func 204) #[] #[],4⟩,⟨iv 25,.func (.func 205) #[] #[],5⟩,⟨iv 6,.func (.func 206) #[] #[],6⟩,⟨iv 5,.func (.func 207) #[] #[],7⟩,⟨iv 8,.func (.func 208) #[] #[],8⟩,⟨iv 9,.func (.func 209) #[] #[],9⟩,⟨iv 11,.func (.func 210) #[] #[],10⟩,⟨iv 19,.func (.func 211) #[] #[],11⟩,⟨iv 23,.func (.func 212) #[] #[],12⟩,⟨iv 22,.func (.func 213) #[] #[],13⟩,⟨iv 20,.func (.func 214) #[] #[],14⟩,⟨iv 21,.func (.func 215) #[] #[],15⟩,⟨iv 38,.func (.func 216) #[] #[],16⟩,⟨iv 26,.func (.func 217) #[] #[],17⟩,⟨iv 27,.func (.func 218) #[] #[],18⟩,⟨iv 30,.func (.func 219) #[] #[],19⟩,⟨iv 28,.func (.func 220) #[] #[],20⟩,⟨iv 29,.func (.func 221) #[] #[],21⟩,⟨iv 31,.func (.func 222) #[] #[],22⟩,⟨iv 32,.func (.func 223) #[] #[],23⟩,⟨iv 33,.func (.func 224) #[] #[],24⟩,⟨iv 16,.func (.func 225) #[] #[],25⟩,⟨iv 15,.func (.func 226) #[] #[],26⟩,⟨iv 10,.func (.func 227) #[] #[],27⟩,⟨iv 35,.func (.func 228) #[] #[],28⟩,⟨iv 17,.func (.func 229) #[] #[],29⟩,⟨iv 7,.func (.func 230) #[] #[],30⟩,⟨iv 18,.func (.func 231) #[] #[],31⟩,⟨iv 39,.func (.func 232) #[] #[],32⟩,⟨iv 40,.func (.func 233) #[] #[],33⟩,⟨iv 44,.func (.func 234) #[] #[],34⟩,⟨iv 14,.func (.func 235) #[] #[],35⟩,⟨iv 36,.func (.func 236) #[] #[],36⟩,⟨iv 37,.func (.func 237) #[] #[],37⟩,⟨iv 12,.func (.func 238) #[] #[],38⟩,⟨iv 13,.func (.func 239) #[] #[],39⟩] 40),bx b8 (B1 s ⟨sMainq,sMain.length,sMaink⟩ ⟨sAltq,sAlt.length,sAltk⟩ ⟨none,0,0⟩ ⟨sTabsq,sTabs.length,sTabsk⟩) 114,bx b6 (F4 (⟨37,1049,1,Col.zero,[]⟩:Act)) 81,bx b2 (B1 ScrC.zero ⟨none,0,0⟩ ⟨none,0,0⟩ ⟨none,0,0⟩ ⟨none,0,0⟩) 52,bx b1 (B1 s ⟨sMainq,sMain.length,sMaink⟩ ⟨sAltq,sAlt.length,sAltk⟩ ⟨none,0,0⟩ ⟨sTabsq,sTabs.length,sTabsk⟩) 52]) (fun _=>rfl)) fun b9=>?_))
 refine ip' 1 0 [(11,.map (some b9))] ?_
 refine ie (A4 (sr 3 rfl (ip' 3 0 [(43,.slice lq 1 1),(44,iv 1),(45,iv 0)] ?_)))
 refine ie (A9 (P8 3 ?_))
 refine D8 (sr 1 rfl (ip' 1 0 [(46,bv true)] ?_))
 refine ie (A4 (I0 rfl (A8 (nx (A4 (A9 (sr 4 rfl (ix rfl (F1 B7r rfl rfl hq5 rfl 0 rfl (by first|omega|exact Nat.zero_lt_one)) ?_))))))))
 refine ix rfl (M5 (us:=F4 (⟨37,1049,1,Col.zero,[]⟩:Act)) C6p rfl rfl (G6 (c:=F4) (sz:=6) hq5 (fun _=>rfl) 5 rfl (gd Act.zero (by first|omega|exact Nat.zero_lt_one))) rfl) ?_
 refine K6 2 0 [0] (fun b10=>[(13,pt b10 0)]) (fun b10=>[bx b10 (F4 (⟨37,1049,1,Col.zero,[]⟩:Act)) 81,(b9,.map #[⟨iv 1,.func (.func 201) #[] #[],0⟩,⟨iv 34,.func (.func 202) #[] #[],1⟩,⟨iv 3,.func (.func 203) #[] #[],2⟩,⟨iv 4,.func (.func 204) #[] #[],3⟩,⟨iv 24,.func (.func 204) #[] #[],4⟩,⟨iv 25,.func (.func 205) #[] #[],5⟩,⟨iv 6,.func (.func 206) #[] #[],6⟩,⟨iv 5,.func (.func 207) #[] #[],7⟩,⟨iv 8,.func (.func 208) #[] #[],8⟩,⟨iv 9,.func (.func 209) #[] #[],9⟩,⟨iv 11,.func (.func 210) #[] #[],10⟩,⟨iv 19,.func (.func 211) #[] #[],11⟩,⟨iv 23,.func (.func 212) #[] #[],12⟩,⟨iv 22,.func (.func 213) #[] #[],13⟩,⟨iv 20,.func (.func 214) #[] #[],14⟩,⟨iv 21,.func (.func 215) #[] #[],15⟩,⟨iv 38,.func (.func 216) #[] #[],16⟩,⟨iv 26,.func (.func 217) #[] #[],17⟩,⟨iv 27,.func (.func 218) #[] #[],18⟩,⟨iv 30,.func (.func 219) #[] #[],19⟩,⟨iv 28,.func (.func 220) #[] #[],20⟩,⟨iv 29,.func (.func 221) #[] #[],21⟩,⟨iv 31,.func (.func 222) #[] #[],22⟩,⟨iv 32,.func (.func 223) #[] #[],23⟩,⟨iv 33,.func (.func 224) #[] #[],24⟩,⟨iv 16,.func (.func 225) #[] #[],25⟩,⟨iv 15,.func (.func 226) #[] #[],26⟩,⟨iv 10,.func (.func 227) #[] #[],27⟩,⟨iv 35,.func (.func 228) #[] #[],28⟩,⟨iv 17,.func (.func 229) #[] #[],29⟩,⟨iv 7,.func (.func 230) #[] #[],30⟩,⟨iv 18,.func (.func 231) #[] #[],31⟩,⟨iv 39,.func (.func 232) #[] #[],32⟩,⟨iv 40,.func (.func 233) #[] #[],33⟩,⟨iv 44,.func (.func 234) #[] #[],34⟩,⟨iv 14,.func (.func 235) #[] #[],35⟩,⟨iv 36,.func (.func 236) #[] #[],36⟩,⟨iv 37,.func (.func 237) #[] #[],37⟩,⟨iv 12,.func (.func 238) #[] #[],38⟩,⟨iv 13,.func (.func 239) #[] #[],39⟩] 40),bx b8 (B1 s ⟨sMainq,sMain.length,sMaink⟩ ⟨sAltq,sAlt.length,sAltk⟩ ⟨none,0,0⟩ ⟨sTabsq,sTabs.length,sTabsk⟩) 114,bx b6 (F4 (⟨37,1049,1,Col.zero,[]⟩:Act)) 81,bx b2 (B1 ScrC.zero ⟨none,0,0⟩ ⟨none,0,0⟩ ⟨none,0,0⟩ ⟨none,0,0⟩) 52,bx b1 (B1 s ⟨sMainq,sMain.length,sMaink⟩ ⟨sAltq,sAlt.length,sAltk⟩ ⟨none,0,0⟩ ⟨sTabsq,sTabs.length,sTabsk⟩) 52]) (fun b10=>?_)
 refine ie (A4 (sr 4 rfl (zrl 2 2 [0] [(50,iv 37)] ?_)))
 refine zca (A9c false (by decide +kernel)) fn0 ?_
 refine ip' 1 0 [(52,bv true)] ?_
 refine ie (I0 rfl (A1 5 rfl (ip' 4 1 [(56,pt b8 79)] ?_)))
 refine it rfl (L8 (us:=[iv 0]) (cs':=B1 ({s with last:=0}) ⟨sMainq,sMain.length,sMaink⟩ ⟨sAltq,sAlt.length,sAltk⟩ ⟨none,0,0⟩ ⟨sTabsq,sTabs.length,sTabsk⟩) ty3 rfl rfl rfl 2 rfl rfl rfl rfl rfl rfl) fun _=>?_
 refine A6 (nx (A4 (sr 3 rfl (zrl 1 2 [0] [(57,ag (F4 (⟨37,1049,1,Col.zero,[]⟩:Act)))] ?_))))
 refine zca (A6w true (by decide +kernel)) fn0 ?_
 refine ip' 1 0 [(59,bv false)] ?_
 refine ie (V5 rfl (A8 (nx (sr 9 rfl (zrl 3 6 [0] [(66,.map (some b9)),(68,iv 37)] ?_)))))
 refine ix rfl (A1u (v:=.func (.func 237) #[] #[]) (j:=37) C2m rfl rfl rfl 1 rfl (by kernel_rfl)) ?_
 refine ip' 5 0 [(14,.func (.func 237) #[] #[]),(15,bv true)] ?_
 refine ie (sr 1 rfl (ip' 1 0 [(72,bv true)] ?_))
 refine ie (I0 rfl (A1 4 rfl (zrl 3 1 [0] [(73,.func (.func 237) #[] #[]),(74,pt b8 0),(75,ag (F4 (⟨37,1049,1,Col.zero,[]⟩:Act)))] ?_)))
 have hQ:=I2 hR;clear hR;obtain ⟨y4,hy4,hR⟩:=hQ
 refine it rfl (G9 (L2:=[bx b10 (F4 (⟨37,1049,1,Col.zero,[]⟩:Act)) 81,(b9,.map #[⟨iv 1,.func (.func 201) #[] #[],0⟩,⟨iv 34,.func (.func 202) #[] #[],1⟩,⟨iv 3,.func (.func 203) #[] #[],2⟩,⟨iv 4,.func (.func 204) #[] #[],3⟩,⟨iv 24,.func (.func 204) #[] #[],4⟩,⟨iv 25,.func (.func 205) #[] #[],5⟩,⟨iv 6,.func (.func 206) #[] #[],6⟩,⟨iv 5,.func (.func 207) #[] #[],7⟩,⟨iv 8,.func (.func 208) #[] #[],8⟩,⟨iv 9,.func (.func 209) #[] #[],9⟩,⟨iv 11,.func (.func 210) #[] #[],10⟩,⟨iv 19,.func (.func 211) #[] #[],11⟩,⟨iv 23,.func (.func 212) #[] #[],12⟩,⟨iv 22,.func (.func 213) #[] #[],13⟩,⟨iv 20,.func (.func 214) #[] #[],14⟩,⟨iv 21,.func (.func 215) #[] #[],15⟩,⟨iv 38,.func (.func 216) #[] #[],16⟩,⟨iv 26,.func (.func 217) #[] #[],17⟩,⟨iv 27,.func (.func 218) #[] #[],18⟩,⟨iv 30,.func (.func 219) #[] #[],19⟩,⟨iv 28,.func (.func 220) #[] #[],20⟩,⟨iv 29,.func (.func 221) #[] #[],21⟩,⟨iv 31,.func (.func 222) #[] #[],22⟩,⟨iv 32,.func (.func 223) #[] #[],23⟩,⟨iv 33,.func (.func 224) #[] #[],24⟩,⟨iv 16,.func (.func 225) #[] #[],25⟩,⟨iv 15,.func (.func 226) #[] #[],26⟩,⟨iv 10,.func (.func 227) #[] #[],27⟩,⟨iv 35,.func (.func 228) #[] #[],28⟩,⟨iv 17,.func (.func 229) #[] #[],29⟩,⟨iv 7,.func (.func 230) #[] #[],30⟩,⟨iv 18,.func (.func 231) #[] #[],31⟩,⟨iv 39,.func (.func 232) #[] #[],32⟩,⟨iv 40,.func (.func 233) #[] #[],33⟩,⟨iv 44,.func (.func 234) #[] #[],34⟩,⟨iv 14,.func (.func 235) #[] #[],35⟩,⟨iv 36,.func (.func 236) #[] #[],36⟩,⟨iv 37,.func (.func 237) #[] #[],37⟩,⟨iv 12,.func (.func 238) #[] #[],38⟩,⟨iv 13,.func (.func 239) #[] #[],39⟩] 40),bx b6 (F4 (⟨37,1049,1,Col.zero,[]⟩:Act)) 81,bx b2 (B1 ScrC.zero ⟨none,0,0⟩ ⟨none,0,0⟩ ⟨none,0,0⟩ ⟨none,0,0⟩) 52,bx b1 (B1 s ⟨sMainq,sMain.length,sMaink⟩ ⟨sAltq,sAlt.length,sAltk⟩ ⟨none,0,0⟩ ⟨sTabsq,sTabs.length,sTabsk⟩) 52]) (A6q ({s with last:=0}) sMain sAlt sTabs b8 sMainq sMainrs sMaink sAltq sAltrs sAltk sTabsq sTabsk hrowssMainrs (by first|omega|(simp only [List.length_take,List.length_drop,List.length_append,List.length_cons,List.length_nil,List.length_set,List.length_map,A7,A2,A3];omega)|decide) (by first|omega|(simp only [List.length_take,List.length_drop,List.length_append,List.length_cons,List.length_nil,List.length_set,List.length_map,A7,A2,A3];omega)|decide) hrowssAltrs (by first|omega|(simp only [List.length_take,List.length_drop,List.length_append,List.length_cons,List.length_nil,List.length_set,List.length_map,A7,A2,A3];omega)|decide) (by first|omega|(simp only [List.length_take,List.length_drop,List.length_append,List.length_cons,List.length_nil,List.length_set,List.length_map,A7,A2,A3];omega)|decide) (by first|omega|(simp only [List.length_take,List.length_drop,List.length_append,List.length_cons,List.length_nil,List.length_set,List.length_map,A7,A2,A3];omega)|decide) (by first|omega|(simp only [List.length_take,List.length_drop,List.length_append,List.length_cons,List.length_nil,List.length_set,List.length_map,A7,A2,A3];omega)|decide) y4 hy4) rfl rfl rfl rfl rfl (A5.pick [0,1,2,3,4] rfl) (H0 [[bx b10 (F4 (⟨37,1049,1,Col.zero,[]⟩:Act)) 81],[(b9,.map #[⟨iv 1,.func (.func 201) #[] #[],0⟩,⟨iv 34,.func (.func 202) #[] #[],1⟩,⟨iv 3,.func (.func 203) #[] #[],2⟩,⟨iv 4,.func (.func 204) #[] #[],3⟩,⟨iv 24,.func (.func 204) #[] #[],4⟩,⟨iv 25,.func (.func 205) #[] #[],5⟩,⟨iv 6,.func (.func 206) #[] #[],6⟩,⟨iv 5,.func (.func 207) #[] #[],7⟩,⟨iv 8,.func (.func 208) #[] #[],8⟩,⟨iv 9,.func (.func 209) #[] #[],9⟩,⟨iv 11,.func (.func 210) #[] #[],10⟩,⟨iv 19,.func (.func 211) #[] #[],11⟩,⟨iv 23,.func (.func 212) #[] #[],12⟩,⟨iv 22,.func (.func 213) #[] #[],13⟩,⟨iv 20,.func (.func 214) #[] #[],14⟩,⟨iv 21,.func (.func 215) #[] #[],15⟩,⟨iv 38,.func (.func 216) #[] #[],16⟩,⟨iv 26,.func (.func 217) #[] #[],17⟩,⟨iv 27,.func (.func 218) #[] #[],18⟩,⟨iv 30,.func (.func 219) #[] #[],19⟩,⟨iv 28,.func (.func 220) #[] #[],20⟩,⟨iv 29,.func (.func 221) #[] #[],21⟩,⟨iv 31,.func (.func 222) #[] #[],22⟩,⟨iv 32,.func (.func 223) #[] #[],23⟩,⟨iv 33,.func (.func 224) #[] #[],24⟩,⟨iv 16,.func (.func 225) #[] #[],25⟩,⟨iv 15,.func (.func 226) #[] #[],26⟩,⟨iv 10,.func (.func 227) #[] #[],27⟩,⟨iv 35,.func (.func 228) #[] #[],28⟩,⟨iv 17,.func (.func 229) #[] #[],29⟩,⟨iv 7,.func (.func 230) #[] #[],30⟩,⟨iv 18,.func (.func 231) #[] #[],31⟩,⟨iv 39,.func (.func 232) #[] #[],32⟩,⟨iv 40,.func (.func 233) #[] #[],33⟩,⟨iv 44,.func (.func 234) #[] #[],34⟩,⟨iv 14,.func (.func 235) #[] #[],35⟩,⟨iv 36,.func (.func 236) #[] #[],36⟩,⟨iv 37,.func (.func 237) #[] #[],37⟩,⟨iv 12,.func (.func 238) #[] #[],38⟩,⟨iv 13,.func (.func 239) #[] #[],39⟩] 40)],[bx b8 (B1 ({s with last:=0}) ⟨sMainq,sMain.length,sMaink⟩ ⟨sAltq,sAlt.length,sAltk⟩ ⟨none,0,0⟩ ⟨sTabsq,sTabs.length,sTabsk⟩) 114],[bx b6 (F4 (⟨37,1049,1,Col.zero,[]⟩:Act)) 81],[bx b2 (B1 ScrC.zero ⟨none,0,0⟩ ⟨none,0,0⟩ ⟨none,0,0⟩ ⟨none,0,0⟩) 52],[bx b1 (B1 s ⟨sMainq,sMain.length,sMaink⟩ ⟨sAltq,sAlt.length,sAltk⟩ ⟨none,0,0⟩ ⟨sTabsq,sTabs.length,sTabsk⟩) 52]] [2,0,1,3,4,5] 6 rfl (by decide) rfl [[bx b8 (B1 ({s with last:=0}) ⟨sMainq,sMain.length,sMaink⟩ ⟨sAltq,sAlt.length,sAltk⟩ ⟨none,0,0⟩ ⟨sTabsq,sTabs.length,sTabsk⟩) 114],[bx b10 (F4 (⟨37,1049,1,Col.zero,[]⟩:Act)) 81],[(b9,.map #[⟨iv 1,.func (.func 201) #[] #[],0⟩,⟨iv 34,.func (.func 202) #[] #[],1⟩,⟨iv 3,.func (.func 203) #[] #[],2⟩,⟨iv 4,.func (.func 204) #[] #[],3⟩,⟨iv 24,.func (.func 204) #[] #[],4⟩,⟨iv 25,.func (.func 205) #[] #[],5⟩,⟨iv 6,.func (.func 206) #[] #[],6⟩,⟨iv 5,.func (.func 207) #[] #[],7⟩,⟨iv 8,.func (.func 208) #[] #[],8⟩,⟨iv 9,.func (.func 209) #[] #[],9⟩,⟨iv 11,.func (.func 210) #[] #[],10⟩,⟨iv 19,.func (.func 211) #[] #[],11⟩,⟨iv 23,.func (.func 212) #[] #[],12⟩,⟨iv 22,.func (.func 213) #[] #[],13⟩,⟨iv 20,.func (.func 214) #[] #[],14⟩,⟨iv 21,.func (.func 215) #[] #[],15⟩,⟨iv 38,.func (.func 216) #[] #[],16⟩,⟨iv 26,.func (.func 217) #[] #[],17⟩,⟨iv 27,.func (.func 218) #[] #[],18⟩,⟨iv 30,.func (.func 219) #[] #[],19⟩,⟨iv 28,.func (.func 220) #[] #[],20⟩,⟨iv 29,.func (.func 221) #[] #[],21⟩,⟨iv 31,.func (.func 222) #[] #[],22⟩,⟨iv 32,.func (.func 223) #[] #[],23⟩,⟨iv 33,.func (.func 224) #[] #[],24⟩,⟨iv 16,.func (.func 225) #[] #[],25⟩,⟨iv 15,.func (.func 226) #[] #[],26⟩,⟨iv 10,.func (.func 227) #[] #[],27⟩,⟨iv 35,.func (.func 228) #[] #[],28⟩,⟨iv 17,.func (.func 229) #[] #[],29⟩,⟨iv 7,.func (.func 230) #[] #[],30⟩,⟨iv 18,.func (.func 231) #[] #[],31⟩,⟨iv 39,.func (.func 232) #[] #[],32⟩,⟨iv 40,.func (.func 233) #[] #[],33⟩,⟨iv 44,.func (.func 234) #[] #[],34⟩,⟨iv 14,.func (.func 235) #[] #[],35⟩,⟨iv 36,.func (.func 236) #[] #[],36⟩,⟨iv 37,.func (.func 237) #[] #[],37⟩,⟨iv 12,.func (.func 238) #[] #[],38⟩,⟨iv 13,.func (.func 239) #[] #[],39⟩] 40)],[bx b6 (F4 (⟨37,1049,1,Col.zero,[]⟩:Act)) 81],[bx b2 (B1 ScrC.zero ⟨none,0,0⟩ ⟨none,0,0⟩ ⟨none,0,0⟩ ⟨none,0,0⟩) 52],[bx b1 (B1 s ⟨sMainq,sMain.length,sMaink⟩ ⟨sAltq,sAlt.length,sAltk⟩ ⟨none,0,0⟩ ⟨sTabsq,sTabs.length,sTabsk⟩) 52]] rfl (by first|rfl|simp only [List.flatten_cons,List.flatten_nil,List.append_nil,List.cons_append,List.nil_append,List.append_assoc])) (fun ⟨⟨q11,rs12,k13⟩,hp16⟩=>[bx b8 (B1 y4.1 ⟨sMainq,sMain.length,sMaink⟩ ⟨q11,y4.2.length,k13⟩ ⟨none,0,0⟩ ⟨sTabsq,sTabs.length,sTabsk⟩) 114,bx b10 (F4 (⟨37,1049,1,Col.zero,[]⟩:Act)) 81,(b9,.map #[⟨iv 1,.func (.func 201) #[] #[],0⟩,⟨iv 34,.func (.func 202) #[] #[],1⟩,⟨iv 3,.func (.func 203) #[] #[],2⟩,⟨iv 4,.func (.func 204) #[] #[],3⟩,⟨iv 24,.func (.func 204) #[] #[],4⟩,⟨iv 25,.func (.func 205) #[] #[],5⟩,⟨iv 6,.func (.func 206) #[] #[],6⟩,⟨iv 5,.func (.func 207) #[] #[],7⟩,⟨iv 8,.func (.func 208) #[] #[],8⟩,⟨iv 9,.func (.func 209) #[] #[],9⟩,⟨iv 11,.func (.func 210) #[] #[],10⟩,⟨iv 19,.func (.func 211) #[] #[],11⟩,⟨iv 23,.func (.func 212) #[] #[],12⟩,⟨iv 22,.func (.func 213) #[] #[],13⟩,⟨iv 20,.func (.func 214) #[] #[],14⟩,⟨iv 21,.func (.func 215) #[] #[],15⟩,⟨iv 38,.func (.func 216) #[] #[],16⟩,⟨iv 26,.func (.func 217) #[] #[],17⟩,⟨iv 27,.func (.func 218) #[] #[],18⟩,⟨iv 30,.func (.func 219) #[] #[],19⟩,⟨iv 28,.func (.func 220) #[] #[],20⟩,⟨iv 29,.func (.func 221) #[] #[],21⟩,⟨iv 31,.func (.func 222) #[] #[],22⟩,⟨iv 32,.func (.func 223) #[] #[],23⟩,⟨iv 33,.func (.func 224) #[] #[],24⟩,⟨iv 16,.func (.func 225) #[] #[],25⟩,⟨iv 15,.func (.func 226) #[] #[],26⟩,⟨iv 10,.func (.func 227) #[] #[],27⟩,⟨iv 35,.func (.func 228) #[] #[],28⟩,⟨iv 17,.func (.func 229) #[] #[],29⟩,⟨iv 7,.func (.func 230) #[] #[],30⟩,⟨iv 18,.func (.func 231) #[] #[],31⟩,⟨iv 39,.func (.func 232) #[] #[],32⟩,⟨iv 40,.func (.func 233) #[] #[],33⟩,⟨iv 44,.func (.func 234) #[] #[],34⟩,⟨iv 14,.func (.func 235) #[] #[],35⟩,⟨iv 36,.func (.func 236) #[] #[],36⟩,⟨iv 37,.func (.func 237) #[] #[],37⟩,⟨iv 12,.func (.func 238) #[] #[],38⟩,⟨iv 13,.func (.func 239) #[] #[],39⟩] 40),bx b6 (F4 (⟨37,1049,1,Col.zero,[]⟩:Act)) 81,bx b2 (B1 ScrC.zero ⟨none,0,0⟩ ⟨none,0,0⟩ ⟨none,0,0⟩ ⟨none,0,0⟩) 52,bx b1 (B1 s ⟨sMainq,sMain.length,sMaink⟩ ⟨sAltq,sAlt.length,sAltk⟩ ⟨none,0,0⟩ ⟨sTabsq,sTabs.length,sTabsk⟩) 52]) (fun _=>rfl)) fun ⟨⟨q11,rs12,k13⟩,hp16⟩=>?_
 obtain ⟨hr14,hc15,hl17⟩:=hp16
 have:=hr14.1
 refine A6 (nx (A1 2 rfl (ix rfl (B0 (c:=1) rfl rfl rfl rfl (by decide)) ?_)))
 refine ip' 1 0 [(45,iv 1)] ?_
 refine A6 (D8 (sr 1 rfl (ip' 1 0 [(46,bv false)] ?_)))
 refine ie (A4 (V5 rfl (F3 (nx (sr 6 rfl (zrl 4 2 [0] [(81,ag (B1 y4.1 ⟨sMainq,sMain.length,sMaink⟩ ⟨q11,y4.2.length,k13⟩ ⟨none,0,0⟩ ⟨sTabsq,sTabs.length,sTabsk⟩))] ?_))))))
 refine it rfl (L8 (us:=B1 y4.1 ⟨sMainq,sMain.length,sMaink⟩ ⟨q11,y4.2.length,k13⟩ ⟨none,0,0⟩ ⟨sTabsq,sTabs.length,sTabsk⟩) (cs':=B1 y4.1 ⟨sMainq,sMain.length,sMaink⟩ ⟨q11,y4.2.length,k13⟩ ⟨none,0,0⟩ ⟨sTabsq,sTabs.length,sTabsk⟩) B1o rfl rfl rfl 4 rfl rfl rfl rfl rfl rfl) fun _=>?_
 refine ip' 1 0 [(5,iv 0)] ?_
 subst hR
 refine ie (B4 ?_)
 exact zer hr hD (S0 rfl (V7 (us:=B1 y4.1 ⟨sMainq,sMain.length,sMaink⟩ ⟨q11,y4.2.length,k13⟩ ⟨none,0,0⟩ ⟨sTabsq,sTabs.length,sTabsk⟩) B1o rfl 4 rfl rfl) (B5 rfl)) (⟨(sMainq,sMainrs,sMaink),⟨hrowssMainrs,(by first|omega|(simp only [List.length_take,List.length_drop,List.length_append,List.length_cons,List.length_nil,List.length_set,List.length_map,A7,A2,A3];omega)|decide),(by first|omega|(simp only [List.length_take,List.length_drop,List.length_append,List.length_cons,List.length_nil,List.length_set,List.length_map,A7,A2,A3];omega)|decide)⟩⟩,⟨(q11,rs12,k13),⟨hr14,(by first|omega|(simp only [List.length_take,List.length_drop,List.length_append,List.length_cons,List.length_nil,List.length_set,List.length_map,A7,A2,A3];omega)|decide),(by first|omega|(simp only [List.length_take,List.length_drop,List.length_append,List.length_cons,List.length_nil,List.length_set,List.length_map,A7,A2,A3];omega)|decide)⟩⟩,(zq sTabsq sTabsk)) (mk [false,false,false,false,false,false] rfl) (A5.con1 (B9 2 rfl) (A5.con1 (B9 3 rfl) (A5.con1 (B9 0 rfl) (A5.con1 (B9 1 rfl) (A5.con1 (B9 6 rfl) fn0)))))
def A8j (s:ScrC) (sMain:List (Rwc Cel)) (sAlt:List (Rwc Cel)) (sTabs:List Bool):ScrC×List (Rwc Cel)×List (Rwc Cel)×List Bool×Int :=
 (H3 (A6k s sMain sAlt sTabs) fun (y3:ScrC×List (Rwc Cel)×List (Rwc Cel)×List Bool×Int)=>(y3.1,y3.2.1,y3.2.2.1,y3.2.2.2.1,y3.2.2.2.2))
theorem B6g (s:ScrC) (sMain:List (Rwc Cel)) (sAlt:List (Rwc Cel)) (sTabs:List Bool) (sMainq:Option Addr) (sMainrs:List Rwq) (sMaink:Nat) (sAltq:Option Addr) (sAltrs:List Rwq) (sAltk:Nat) (sTabsq:Option Addr) (sTabsk:Nat) (hrowssMainrs:E6 sMainrs sMain) (hlsMain:sMain.length≤9223372036854775807) (hcsMain:sMain.length≤sMaink) (hrowssAltrs:E6 sAltrs sAlt) (hlsAlt:sAlt.length≤9223372036854775807) (hcsAlt:sAlt.length≤sAltk) (hlsTabs:sTabs.length≤9223372036854775807) (hcsTabs:sTabs.length≤sTabsk) (hTs:s.title.length≤100000000) (R:ScrC×List (Rwc Cel)×List (Rwc Cel)×List Bool×Int) (hR:A8j s sMain sAlt sTabs=R):Con Tryz.prog 52 [ag (B1 s ⟨sMainq,sMain.length,sMaink⟩ ⟨sAltq,sAlt.length,sAltk⟩ ⟨none,0,0⟩ ⟨sTabsq,sTabs.length,sTabsk⟩),ag (F4 (⟨37,1049,1,Col.zero,[]⟩:Act))] [] [sl C4 sMainq sMainrs,D9 B3 sMainrs sMain,sl C4 sAltq sAltrs,D9 B3 sAltrs sAlt,sl F6 sTabsq sTabs,X9,Z3] ({t:Option Addr×List Rwq×Nat // E6 t.2.1 R.2.1∧R.2.1.length≤t.2.2∧R.2.1.length≤9223372036854775807}×{t:Option Addr×List Rwq×Nat // E6 t.2.1 R.2.2.1∧R.2.2.1.length≤t.2.2∧R.2.2.1.length≤9223372036854775807}×{t:Option Addr×Nat // R.2.2.2.1.length≤t.2∧R.2.2.2.1.length≤9223372036854775807}) (fun x=>.tuple #[ag (B1 R.1 ⟨x.1.1.1,R.2.1.length,x.1.1.2.2⟩ ⟨x.2.1.1.1,R.2.2.1.length,x.2.1.1.2.2⟩ ⟨none,0,0⟩ ⟨x.2.2.1.1,R.2.2.2.1.length,x.2.2.1.2⟩),iv R.2.2.2.2]) (fun x=>[]) (fun x=>[sl C4 x.1.1.1 x.1.1.2.1,D9 B3 x.1.1.2.1 R.2.1,sl C4 x.2.1.1.1 x.2.1.1.2.1,D9 B3 x.2.1.1.2.1 R.2.2.1,sl F6 x.2.2.1.1 R.2.2.2.1]):=by
 refine zco Tryz.func52 [(0,ag (B1 s ⟨sMainq,sMain.length,sMaink⟩ ⟨sAltq,sAlt.length,sAltk⟩ ⟨none,0,0⟩ ⟨sTabsq,sTabs.length,sTabsk⟩)),(1,ag (F4 (⟨37,1049,1,Col.zero,[]⟩:Act)))] fun X hX hr hD=>?_
 replace hR:=(A8j.eq_1 ..).symm.trans hR
 have:=hrowssMainrs.1
 have:=hrowssAltrs.1
 refine sr 4 rfl (C3p 4 0 [] (fun b1 b2 b3=>[(2,pt b1 0),(3,pt b2 0),(4,pt b3 0)]) (fun b1 b2 b3=>[bx b3 (B1 ScrC.zero ⟨none,0,0⟩ ⟨none,0,0⟩ ⟨none,0,0⟩ ⟨none,0,0⟩) 52,bx b2 (F4 (⟨37,1049,1,Col.zero,[]⟩:Act)) 81,bx b1 (B1 s ⟨sMainq,sMain.length,sMaink⟩ ⟨sAltq,sAlt.length,sAltk⟩ ⟨none,0,0⟩ ⟨sTabsq,sTabs.length,sTabsk⟩) 52]) (fun b1 b2 b3=>?_))
 refine ie (sr 8 rfl (zrl 2 6 [2,1] [(6,ag (B1 s ⟨sMainq,sMain.length,sMaink⟩ ⟨sAltq,sAlt.length,sAltk⟩ ⟨none,0,0⟩ ⟨sTabsq,sTabs.length,sTabsk⟩)),(7,ag (F4 (⟨37,1049,1,Col.zero,[]⟩:Act)))] ?_))
 refine it rfl (F9 (c:=F4) (xs:=([(⟨37,1049,1,Col.zero,[]⟩:Act)]:List Act)) B7r rfl rfl rfl (by kernel_rfl)) fun b4=>?_
 have:([(⟨37,1049,1,Col.zero,[]⟩:Act)]:List Act).length=1:=rfl
 have hQ:=I2 hR;clear hR;obtain ⟨y3,hy3,hR⟩:=hQ
 refine zcm (B4r s sMain sAlt sTabs sMainq sMainrs sMaink sAltq sAltrs sAltk sTabsq sTabsk (some ⟨b4,0,none⟩) hrowssMainrs (by first|omega|(simp only [List.length_take,List.length_drop,List.length_append,List.length_cons,List.length_nil,List.length_set,List.length_map,A7,A2,A3];omega)|decide) (by first|omega|(simp only [List.length_take,List.length_drop,List.length_append,List.length_cons,List.length_nil,List.length_set,List.length_map,A7,A2,A3];omega)|decide) hrowssAltrs (by first|omega|(simp only [List.length_take,List.length_drop,List.length_append,List.length_cons,List.length_nil,List.length_set,List.length_map,A7,A2,A3];omega)|decide) (by first|omega|(simp only [List.length_take,List.length_drop,List.length_append,List.length_cons,List.length_nil,List.length_set,List.length_map,A7,A2,A3];omega)|decide) (by first|omega|(simp only [List.length_take,List.length_drop,List.length_append,List.length_cons,List.length_nil,List.length_set,List.length_map,A7,A2,A3];omega)|decide) (by first|omega|(simp only [List.length_take,List.length_drop,List.length_append,List.length_cons,List.length_nil,List.length_set,List.length_map,A7,A2,A3];omega)|decide) (by first|omega|(simp only [List.length_nil];omega)|(dsimp only;omega)) y3 hy3) (A5.pick [1,2,3,4,5,0,6,7] rfl) fun ⟨⟨⟨q5,rs6,k7⟩,hp10⟩,⟨⟨q12,rs13,k14⟩,hp17⟩,⟨⟨q19,k20⟩,hp21⟩⟩=>?_
 obtain ⟨hr8,hc9,hl11⟩:=hp10
 obtain ⟨hr15,hc16,hl18⟩:=hp17
 obtain ⟨hc22,hl23⟩:=hp21
 have:=hr8.1
 have:=hr15.1
 refine zrg 4 0 [0] [(5,iv y3.2.2.2.2)] [bx b3 (B1 y3.1 ⟨q5,y3.2.1.length,k7⟩ ⟨q12,y3.2.2.1.length,k14⟩ ⟨none,0,0⟩ ⟨q19,y3.2.2.2.1.length,k20⟩) 52,bx b2 (F4 (⟨37,1049,1,Col.zero,[]⟩:Act)) 81,bx b1 (B1 s ⟨sMainq,sMain.length,sMaink⟩ ⟨sAltq,sAlt.length,sAltk⟩ ⟨none,0,0⟩ ⟨sTabsq,sTabs.length,sTabsk⟩) 52] ?_
 subst hR
 refine ie (B4 ?_)
 exact zer hr hD (S0 rfl (V7 (us:=B1 y3.1 ⟨q5,y3.2.1.length,k7⟩ ⟨q12,y3.2.2.1.length,k14⟩ ⟨none,0,0⟩ ⟨q19,y3.2.2.2.1.length,k20⟩) B1o rfl 0 rfl rfl) (B5 rfl)) (⟨(q5,rs6,k7),⟨hr8,(by first|omega|(simp only [List.length_take,List.length_drop,List.length_append,List.length_cons,List.length_nil,List.length_set,List.length_map,A7,A2,A3];omega)|decide),(by first|omega|(simp only [List.length_take,List.length_drop,List.length_append,List.length_cons,List.length_nil,List.length_set,List.length_map,A7,A2,A3];omega)|decide)⟩⟩,⟨(q12,rs13,k14),⟨hr15,(by first|omega|(simp only [List.length_take,List.length_drop,List.length_append,List.length_cons,List.length_nil,List.length_set,List.length_map,A7,A2,A3];omega)|decide),(by first|omega|(simp only [List.length_take,List.length_drop,List.length_append,List.length_cons,List.length_nil,List.length_set,List.length_map,A7,A2,A3];omega)|decide)⟩⟩,(zq q19 k20)) (mk [false,false,false] rfl) (A5.con1 (B9 0 rfl) (A5.con1 (B9 1 rfl) (A5.con1 (B9 2 rfl) (A5.con1 (B9 3 rfl) (A5.con1 (B9 4 rfl) fn0)))))
def O7 (f:FrmC) (y1:ScrC×List (Rwc Cel)×List (Rwc Cel)×List Bool×Int):List (List Cel)→Nat→List (Rwc Cel)→(ScrC×List (Rwc Cel)×List (Rwc Cel)×List Bool×Int)
 | [],t40,sAlt=>({y1.1 with cursor:={Cur.zero with row:=f.cursor.row,col:=f.cursor.col},modes:={y1.1.modes with visible:=f.visible},shape:=f.shape,title:=f.title},y1.2.1,sAlt,y1.2.2.2.1,0)
 | hd_l0::tl_l0,t40,sAlt=>O7 f y1 tl_l0 (t40+1) (sAlt++([⟨hd_l0,false⟩]:List (Rwc Cel)))
def A1a (f:FrmC) (fR:List (List Cel)):ScrC×List (Rwc Cel)×List (Rwc Cel)×List Bool×Int :=
 (bif (!decide ((B6 f fR)=0)) then (ScrC.zero,([]:List (Rwc Cel)),([]:List (Rwc Cel)),([]:List Bool),(B6 f fR)) else (H3 (S1 f.cols (fR.length:Int)) fun (y2:ScrC×List (Rwc Cel)×List (Rwc Cel)×List Bool×Int)=>(bif (decide (y2.2.2.2.2=0)) then (H3 (A8j y2.1 y2.2.1 y2.2.2.1 y2.2.2.2.1) fun (y1:ScrC×List (Rwc Cel)×List (Rwc Cel)×List Bool×Int)=>(bif (!decide (y1.2.2.2.2=0)) then (ScrC.zero,([]:List (Rwc Cel)),([]:List (Rwc Cel)),([]:List Bool),y1.2.2.2.2) else O7 f y1 fR 0 ([]:List (Rwc Cel)))) else (ScrC.zero,([]:List (Rwc Cel)),([]:List (Rwc Cel)),([]:List Bool),y2.2.2.2.2))))
theorem B2i (f:FrmC) (d:ScrC×List (Rwc Cel)×List (Rwc Cel)×List Bool×Int):∀ (l:List (List Cel)) (t:Nat) (a:List (Rwc Cel)),(O7 f d l t a).1.title=f.title
 | [],t,a=>rfl
 | x::l,t,a=>by simp only [O7];exact B2i f d l _ _
theorem A8g (f:FrmC) (fr:List (List Cel)):(A1a f fr).1.title.length≤f.title.length:=by
 unfold A1a H3
 simp only [Bool.cond_eq_ite]
 repeat' split
 all_goals first|exact Nat.zero_le _|(rw [B2i];exact Nat.le_refl _)
theorem B2x (f:FrmC) (fR:List (List Cel)) (fQ:Option Addr) (fZ:List Slc) (fK:Nat) (hrowsfRowsrs:C5 fZ fR) (hlfRows:fR.length≤9223372036854775807) (hcfRows:fR.length≤fK) (hT:f.title.length≤100000000) (R:ScrC×List (Rwc Cel)×List (Rwc Cel)×List Bool×Int) (hR:A1a f fR=R):Con Tryz.prog 22 [ag (A0 f ⟨fQ,fR.length,fK⟩)] [] [sl C3 fQ fZ,E7 B3 fZ fR,X9,Z3] ({t:Option Addr×List Rwq×Nat // E6 t.2.1 R.2.1∧R.2.1.length≤t.2.2∧R.2.1.length≤9223372036854775807}×{t:VR×List Rwq // VOk 2 R.2.2.1.length t.1∧E6 t.2 R.2.2.1}×{t:Option Addr×Nat // R.2.2.2.1.length≤t.2∧R.2.2.2.1.length≤9223372036854775807}) (fun x=>.tuple #[ag (B1 R.1 ⟨x.1.1.1,R.2.1.length,x.1.1.2.2⟩ ⟨va x.2.1.1.1.q,R.2.2.1.length,x.2.1.1.1.k⟩ ⟨none,0,0⟩ ⟨x.2.2.1.1,R.2.2.2.1.length,x.2.2.1.2⟩),iv R.2.2.2.2]) (fun x=>((vo C4 78 x.2.1.1.1 x.2.1.1.2)++([]))) (fun x=>[sl C4 x.1.1.1 x.1.1.2.1,D9 B3 x.1.1.2.1 R.2.1,D9 B3 x.2.1.1.2 R.2.2.1,sl F6 x.2.2.1.1 R.2.2.2.1]):=by
 refine zco Tryz.func22 [(0,ag (A0 f ⟨fQ,fR.length,fK⟩))] fun X hX hr hD=>?_
 replace hR:=(A1a.eq_1 ..).symm.trans hR
 have:=hrowsfRowsrs.1
 refine sr 3 rfl (B1l 3 0 [] (fun b1 b2=>[(1,pt b1 0),(2,pt b2 0)]) (fun b1 b2=>[bx b2 (B1 ScrC.zero ⟨none,0,0⟩ ⟨none,0,0⟩ ⟨none,0,0⟩ ⟨none,0,0⟩) 52,bx b1 (A0 f ⟨fQ,fR.length,fK⟩) 26]) (fun b1 b2=>?_))
 refine ie (A4 (sr 3 rfl (zrl 1 2 [1] [(9,ag (A0 f ⟨fQ,fR.length,fK⟩))] ?_)))
 refine zca (S9 f fR fQ fZ fK hrowsfRowsrs (by first|omega|(simp only [List.length_take,List.length_drop,List.length_append,List.length_cons,List.length_nil,List.length_set,List.length_map,A7,A2,A3];omega)|decide) (by first|omega|(simp only [List.length_take,List.length_drop,List.length_append,List.length_cons,List.length_nil,List.length_set,List.length_map,A7,A2,A3];omega)|decide) (by first|omega|(simp only [List.length_nil];omega)|(dsimp only;omega)) _ rfl) A5.refl ?_
 refine ip' 1 0 [(4,iv (B6 f fR))] ?_
 refine ie (sr 2 rfl (ip' 2 0 [(12,bv (!decide ((B6 f fR)=0)))] ?_))
 refine ie ?_
 refine zjn rfl hR ?_ ?_<;>clear hR<;>intro hR h3 h3p
 ·refine sr 4 rfl (zrg 4 0 [0] [(3,iv (B6 f fR))] [bx b2 (B1 ScrC.zero ⟨none,0,0⟩ ⟨none,0,0⟩ ⟨none,0,0⟩ ⟨none,0,0⟩) 52,bx b1 (A0 f ⟨fQ,fR.length,fK⟩) 26] ?_)
  subst hR
  refine ie (B4 ?_)
  exact zer hr hD (S0 rfl (V7 (us:=B1 ScrC.zero ⟨none,0,0⟩ ⟨none,0,0⟩ ⟨none,0,0⟩ ⟨none,0,0⟩) B1o rfl 0 rfl rfl) (B5 rfl)) (⟨(none,[],0),⟨E6.none,(by first|omega|(simp only [List.length_take,List.length_drop,List.length_append,List.length_cons,List.length_nil,List.length_set,List.length_map,A7,A2,A3];omega)|decide),(by first|omega|(simp only [List.length_take,List.length_drop,List.length_append,List.length_cons,List.length_nil,List.length_set,List.length_map,A7,A2,A3];omega)|decide)⟩⟩,⟨(VR.nil,([]:List Rwq)),⟨VOk.nil,E6.none⟩⟩,(zq none 0)) (mc [[bx b2 (B1 ScrC.zero ⟨none,0,0⟩ ⟨none,0,0⟩ ⟨none,0,0⟩ ⟨none,0,0⟩) 52],[bx b1 (A0 f ⟨fQ,fR.length,fK⟩) 26],vo C4 78 VR.nil ([]:List Rwq)] [false,false,true] rfl (by first|rfl|(simp only [List.length_set]<;>rfl))) (A5.con1 Q6 (A5.con1 V4 (A5.con1 V4 (A5.con1 Q6 fn0))))
 have hfc:=Y1 (by first|exact h3p|simpa using h3)
 refine A8 (nx (sr 12 rfl (zrl 5 7 [1,1] [(17,iv f.cols),(20,iv (fR.length:Int))] ?_)))
 have hQ:=I2 hR;clear hR;obtain ⟨y2,hy2,hR⟩:=hQ
 refine it rfl (H2 (L2:=[bx b2 (B1 ScrC.zero ⟨none,0,0⟩ ⟨none,0,0⟩ ⟨none,0,0⟩ ⟨none,0,0⟩) 52,bx b1 (A0 f ⟨fQ,fR.length,fK⟩) 26]) (A7p f.cols (fR.length:Int) y2 hy2) rfl rfl rfl rfl rfl fn0 (List.Perm.refl _) (fun ⟨⟨⟨r4,rs5⟩,hp8⟩,⟨⟨r9,rs10⟩,hp13⟩,⟨r14,hk15⟩⟩=>(bx b2 (B1 ScrC.zero ⟨none,0,0⟩ ⟨none,0,0⟩ ⟨none,0,0⟩ ⟨none,0,0⟩) 52::bx b1 (A0 f ⟨fQ,fR.length,fK⟩) 26::(vo C4 78 r4 rs5)++((vo C4 78 r9 rs10)++((vo F6 4 r14 y2.2.2.2.1)++([]))))) (fun ⟨⟨⟨r4,rs5⟩,hp8⟩,⟨⟨r9,rs10⟩,hp13⟩,⟨r14,hk15⟩⟩=>H0 [vo C4 78 r4 rs5,vo C4 78 r9 rs10,vo F6 4 r14 y2.2.2.2.1,[bx b2 (B1 ScrC.zero ⟨none,0,0⟩ ⟨none,0,0⟩ ⟨none,0,0⟩ ⟨none,0,0⟩) 52],[bx b1 (A0 f ⟨fQ,fR.length,fK⟩) 26]] [3,4,0,1,2] 5 rfl (by decide) (by first|rfl|simp only [List.flatten_cons,List.flatten_nil,List.append_nil,List.cons_append,List.nil_append,List.append_assoc]) [[bx b2 (B1 ScrC.zero ⟨none,0,0⟩ ⟨none,0,0⟩ ⟨none,0,0⟩ ⟨none,0,0⟩) 52],[bx b1 (A0 f ⟨fQ,fR.length,fK⟩) 26],vo C4 78 r4 rs5,vo C4 78 r9 rs10,vo F6 4 r14 y2.2.2.2.1] rfl (by first|rfl|simp only [List.flatten_cons,List.flatten_nil,List.append_nil,List.cons_append,List.nil_append,List.append_assoc]))) fun ⟨⟨⟨r4,rs5⟩,hp8⟩,⟨⟨r9,rs10⟩,hp13⟩,⟨r14,hk15⟩⟩=>?_
 try dsimp only at hp8
 obtain ⟨hk6,hw7⟩:=hp8
 try dsimp only at hp13
 obtain ⟨hk11,hw12⟩:=hp13
 have:=VOk.le hk6
 have:=VOk.le hk11
 have:=VOk.le hk15
 have:=VOk.cap hk6
 have:=VOk.cap hk11
 have:=VOk.cap hk15
 have:=hw7.1
 have:=hw12.1
 have ht_rscreenNew:=A0m f.cols (fR.length:Int);rw [hy2] at ht_rscreenNew;have hl_rscreenNew:=A5m f.cols (fR.length:Int);rw [hy2] at hl_rscreenNew
 refine K6 6 0 [0] (fun b16=>[(5,pt b16 0),(6,iv y2.2.2.2.2)]) (fun b16=>(bx b16 (B1 y2.1 ⟨va r4.q,y2.2.1.length,r4.k⟩ ⟨va r9.q,y2.2.2.1.length,r9.k⟩ ⟨none,0,0⟩ ⟨va r14.q,y2.2.2.2.1.length,r14.k⟩) 52::bx b2 (B1 ScrC.zero ⟨none,0,0⟩ ⟨none,0,0⟩ ⟨none,0,0⟩ ⟨none,0,0⟩) 52::bx b1 (A0 f ⟨fQ,fR.length,fK⟩) 26::(vo C4 78 r4 rs5)++((vo C4 78 r9 rs10)++((vo F6 4 r14 y2.2.2.2.1)++([]))))) (fun b16=>?_)
 refine ie (A4 (sr 2 rfl (ip' 2 0 [(25,bv (decide (y2.2.2.2.2=0)))] ?_)))
 refine ie ?_
 refine zjd rfl hR ?_ ?_<;>clear hR<;>intro hR h17 h17p
 ·refine A1 8 rfl (zrl 2 6 [0] [(27,ag (B1 y2.1 ⟨va r4.q,y2.2.1.length,r4.k⟩ ⟨va r9.q,y2.2.2.1.length,r9.k⟩ ⟨none,0,0⟩ ⟨va r14.q,y2.2.2.2.1.length,r14.k⟩)),(28,ag (F4 ({Act.zero with kind:=37,n:=1049,m:=1})))] ?_)
  have:=VOk.cap hk6
  have:=VOk.le hk6
  refine P1 [bx b16 (B1 y2.1 ⟨va r4.q,y2.2.1.length,r4.k⟩ ⟨va r9.q,y2.2.2.1.length,r9.k⟩ ⟨none,0,0⟩ ⟨va r14.q,y2.2.2.2.1.length,r14.k⟩) 52,bx b2 (B1 ScrC.zero ⟨none,0,0⟩ ⟨none,0,0⟩ ⟨none,0,0⟩ ⟨none,0,0⟩) 52,bx b1 (A0 f ⟨fQ,fR.length,fK⟩) 26] ((vo C4 78 r9 rs10)++((vo F6 4 r14 y2.2.2.2.1)++([]))) (T:=78) (c:=C4) (r:=r4) (xs:=rs5) (VOk.cast hk6 (by rw [hw7.1])) (by first|rfl|simp only [List.cons_append,List.append_assoc,List.nil_append,List.append_nil]) ?_
  have:=VOk.cap hk11
  have:=VOk.le hk11
  refine P1 [bx b16 (B1 y2.1 ⟨va r4.q,y2.2.1.length,r4.k⟩ ⟨va r9.q,y2.2.2.1.length,r9.k⟩ ⟨none,0,0⟩ ⟨va r14.q,y2.2.2.2.1.length,r14.k⟩) 52,bx b2 (B1 ScrC.zero ⟨none,0,0⟩ ⟨none,0,0⟩ ⟨none,0,0⟩ ⟨none,0,0⟩) 52,bx b1 (A0 f ⟨fQ,fR.length,fK⟩) 26] ((vo F6 4 r14 y2.2.2.2.1)++([])) (T:=78) (c:=C4) (r:=r9) (xs:=rs10) (VOk.cast hk11 (by rw [hw12.1])) (by first|rfl|simp only [List.cons_append,List.append_assoc,List.nil_append,List.append_nil]) ?_
  have:=VOk.cap hk15
  have:=VOk.le hk15
  refine P1 [bx b16 (B1 y2.1 ⟨va r4.q,y2.2.1.length,r4.k⟩ ⟨va r9.q,y2.2.2.1.length,r9.k⟩ ⟨none,0,0⟩ ⟨va r14.q,y2.2.2.2.1.length,r14.k⟩) 52,bx b2 (B1 ScrC.zero ⟨none,0,0⟩ ⟨none,0,0⟩ ⟨none,0,0⟩ ⟨none,0,0⟩) 52,bx b1 (A0 f ⟨fQ,fR.length,fK⟩) 26] [] (T:=4) (c:=F6) (r:=r14) (xs:=y2.2.2.2.1) hk15 (by first|rfl|simp only [List.cons_append,List.append_assoc,List.nil_append,List.append_nil]) ?_
  have hQ:=I2 hR;clear hR;obtain ⟨y1,hy1,hR⟩:=hQ
  refine zcm (B6g y2.1 y2.2.1 y2.2.2.1 y2.2.2.2.1 (va r4.q) rs5 r4.k (va r9.q) rs10 r9.k (va r14.q) r14.k hw7 (by first|omega|(simp only [List.length_take,List.length_drop,List.length_append,List.length_cons,List.length_nil,List.length_set,List.length_map,A7,A2,A3];omega)|decide) (by first|omega|(simp only [List.length_take,List.length_drop,List.length_append,List.length_cons,List.length_nil,List.length_set,List.length_map,A7,A2,A3];omega)|decide) hw12 (by first|omega|(simp only [List.length_take,List.length_drop,List.length_append,List.length_cons,List.length_nil,List.length_set,List.length_map,A7,A2,A3];omega)|decide) (by first|omega|(simp only [List.length_take,List.length_drop,List.length_append,List.length_cons,List.length_nil,List.length_set,List.length_map,A7,A2,A3];omega)|decide) (by first|omega|(simp only [List.length_take,List.length_drop,List.length_append,List.length_cons,List.length_nil,List.length_set,List.length_map,A7,A2,A3];omega)|decide) (by first|omega|(simp only [List.length_take,List.length_drop,List.length_append,List.length_cons,List.length_nil,List.length_set,List.length_map,A7,A2,A3];omega)|decide) (by first|omega|(simp only [List.length_nil];omega)|(dsimp only;omega)) y1 hy1) (A5.pick [2,3,1,4,0,7,8] rfl) fun ⟨⟨⟨q18,rs19,k20⟩,hp23⟩,⟨⟨q25,rs26,k27⟩,hp30⟩,⟨⟨q32,k33⟩,hp34⟩⟩=>?_
  obtain ⟨hr21,hc22,hl24⟩:=hp23
  obtain ⟨hr28,hc29,hl31⟩:=hp30
  obtain ⟨hc35,hl36⟩:=hp34
  have:=hr21.1
  have:=hr28.1
  refine zrg 5 0 [0] [(6,iv y1.2.2.2.2)] [bx b16 (B1 y1.1 ⟨q18,y1.2.1.length,k20⟩ ⟨q25,y1.2.2.1.length,k27⟩ ⟨none,0,0⟩ ⟨q32,y1.2.2.2.1.length,k33⟩) 52,bx b2 (B1 ScrC.zero ⟨none,0,0⟩ ⟨none,0,0⟩ ⟨none,0,0⟩ ⟨none,0,0⟩) 52,bx b1 (A0 f ⟨fQ,fR.length,fK⟩) 26] ?_
  refine A6 (nx (A4 (sr 2 rfl (ip' 2 0 [(33,bv (!decide (y1.2.2.2.2=0)))] ?_))))
  refine ie ?_
  refine zjn rfl hR ?_ ?_<;>clear hR<;>intro hR h37 h37p
  ·refine sr 4 rfl (zrg 4 0 [1] [(3,iv y1.2.2.2.2)] [bx b16 (B1 y1.1 ⟨q18,y1.2.1.length,k20⟩ ⟨q25,y1.2.2.1.length,k27⟩ ⟨none,0,0⟩ ⟨q32,y1.2.2.2.1.length,k33⟩) 52,bx b2 (B1 ScrC.zero ⟨none,0,0⟩ ⟨none,0,0⟩ ⟨none,0,0⟩ ⟨none,0,0⟩) 52,bx b1 (A0 f ⟨fQ,fR.length,fK⟩) 26] ?_)
   subst hR
   refine ie (B4 ?_)
   exact zer hr hD (S0 rfl (V7 (us:=B1 ScrC.zero ⟨none,0,0⟩ ⟨none,0,0⟩ ⟨none,0,0⟩ ⟨none,0,0⟩) B1o rfl 1 rfl rfl) (B5 rfl)) (⟨(none,[],0),⟨E6.none,(by first|omega|(simp only [List.length_take,List.length_drop,List.length_append,List.length_cons,List.length_nil,List.length_set,List.length_map,A7,A2,A3];omega)|decide),(by first|omega|(simp only [List.length_take,List.length_drop,List.length_append,List.length_cons,List.length_nil,List.length_set,List.length_map,A7,A2,A3];omega)|decide)⟩⟩,⟨(VR.nil,([]:List Rwq)),⟨VOk.nil,E6.none⟩⟩,(zq none 0)) (mc [[bx b16 (B1 y1.1 ⟨q18,y1.2.1.length,k20⟩ ⟨q25,y1.2.2.1.length,k27⟩ ⟨none,0,0⟩ ⟨q32,y1.2.2.2.1.length,k33⟩) 52],[bx b2 (B1 ScrC.zero ⟨none,0,0⟩ ⟨none,0,0⟩ ⟨none,0,0⟩ ⟨none,0,0⟩) 52],[bx b1 (A0 f ⟨fQ,fR.length,fK⟩) 26],vo C4 78 VR.nil ([]:List Rwq)] [false,false,false,true] rfl (by first|rfl|(simp only [List.length_set]<;>rfl))) (A5.con1 Q6 (A5.con1 V4 (A5.con1 V4 (A5.con1 Q6 fn0))))
  refine A8 (nx (sr 2 rfl (zrg 2 0 [0] [] [bx b16 (B1 y1.1 ⟨q18,y1.2.1.length,k20⟩ ⟨none,0,0⟩ ⟨none,0,0⟩ ⟨q32,y1.2.2.2.1.length,k33⟩) 52,bx b2 (B1 ScrC.zero ⟨none,0,0⟩ ⟨none,0,0⟩ ⟨none,0,0⟩ ⟨none,0,0⟩) 52,bx b1 (A0 f ⟨fQ,fR.length,fK⟩) 26] ?_)))
  refine ie (A4 (sr 4 rfl (zrl 4 0 [2] [(38,.slice fQ fR.length fK),(39,iv (fR.length:Int)),(40,iv 0)] ?_)))
  refine ie (A9 (Z1 (H0 [vo C4 78 VR.nil ([]:List Rwq),[bx b16 (B1 y1.1 ⟨q18,y1.2.1.length,k20⟩ ⟨none,0,0⟩ ⟨none,0,0⟩ ⟨q32,y1.2.2.2.1.length,k33⟩) 52],[bx b2 (B1 ScrC.zero ⟨none,0,0⟩ ⟨none,0,0⟩ ⟨none,0,0⟩ ⟨none,0,0⟩) 52],[bx b1 (A0 f ⟨fQ,fR.length,fK⟩) 26]] [1,2,3,0] 4 rfl (by decide) rfl [[bx b16 (B1 y1.1 ⟨q18,y1.2.1.length,k20⟩ ⟨none,0,0⟩ ⟨none,0,0⟩ ⟨q32,y1.2.2.2.1.length,k33⟩) 52],[bx b2 (B1 ScrC.zero ⟨none,0,0⟩ ⟨none,0,0⟩ ⟨none,0,0⟩ ⟨none,0,0⟩) 52],[bx b1 (A0 f ⟨fQ,fR.length,fK⟩) 26],vo C4 78 VR.nil ([]:List Rwq)] rfl (by first|rfl|simp)) ?_))
  refine B3d (fun (t40:Nat) (sAlt:List (Rwc Cel)) (sAltr:VR) (sAltrs:List Rwq)=>(t40≤fR.length∧O7 f y1 (fR.drop t40) t40 sAlt=R∧VOk 2 sAlt.length sAltr∧E6 sAltrs sAlt∧sAlt.length=t40,[(1,pt b1 0),(2,pt b2 0),(5,pt b16 0),(38,.slice fQ fR.length fK),(39,iv (fR.length:Int)),(40,iv (t40:Int))],(bx b16 (B1 y1.1 ⟨q18,y1.2.1.length,k20⟩ ⟨va sAltr.q,sAlt.length,sAltr.k⟩ ⟨none,0,0⟩ ⟨q32,y1.2.2.2.1.length,k33⟩) 52::bx b2 (B1 ScrC.zero ⟨none,0,0⟩ ⟨none,0,0⟩ ⟨none,0,0⟩ ⟨none,0,0⟩) 52::bx b1 (A0 f ⟨fQ,fR.length,fK⟩) 26::(vo C4 78 sAltr sAltrs)++([])),[sl C4 q18 rs19,D9 B3 rs19 y1.2.1,sl C4 q25 rs26,D9 B3 rs26 y1.2.2.1,sl F6 q32 y1.2.2.2.1,sl F6 (va r14.q) y2.2.2.2.1,sl C4 (va r9.q) rs10,sl C4 (va r4.q) rs5,D9 B3 rs5 y2.2.1,D9 B3 rs10 y2.2.2.1,sl C3 fQ fZ,E7 B3 fZ fR,X9,Z3,D9 B3 sAltrs sAlt],fR.length - t40)) 0 ([]:List (Rwc Cel)) VR.nil ([]:List Rwq) ⟨(by omega),hR,VOk.nil,E6.none,(by rfl)⟩ (mc [[bx b16 (B1 y1.1 ⟨q18,y1.2.1.length,k20⟩ ⟨none,0,0⟩ ⟨none,0,0⟩ ⟨q32,y1.2.2.2.1.length,k33⟩) 52],[bx b2 (B1 ScrC.zero ⟨none,0,0⟩ ⟨none,0,0⟩ ⟨none,0,0⟩ ⟨none,0,0⟩) 52],[bx b1 (A0 f ⟨fQ,fR.length,fK⟩) 26],vo C4 78 VR.nil ([]:List Rwq)] [true,true,true,true] rfl (by first|rfl|(simp only [List.length_set]<;>rfl))) (A5.con1 (B9 0 rfl) (A5.con1 (B9 1 rfl) (A5.con1 (B9 2 rfl) (A5.con1 (B9 3 rfl) (A5.con1 (B9 4 rfl) (A5.con1 (B9 5 rfl) (A5.con1 (B9 6 rfl) (A5.con1 (B9 7 rfl) (A5.con1 (B9 8 rfl) (A5.con1 (B9 9 rfl) (A5.con1 (B9 10 rfl) (A5.con1 (B9 11 rfl) (A5.con1 (B9 12 rfl) (A5.con1 (B9 13 rfl) (A5.con1 V4 fn0))))))))))))))) ?_
  rintro t40 sAlt sAltr sAltrs ⟨hm38,hR,hoksAltr,hrowssAltrs,hal⟩
  have:=VOk.le hoksAltr
  have:=hrowssAltrs.1
  refine sr 1 rfl (ip' 1 0 [(41,bv (decide ((t40:Int)<(fR.length:Int))))] ?_)
  refine ie (A4 (R3 rfl (fun h39=>?_) (fun h39=>?_)))
  ·have h39p:(t40:Int)<(fR.length:Int):=by simpa using h39
   rw [R9 [] (show t40<fR.length by omega)] at hR;replace hR:=(O7.eq_2 ..).symm.trans hR
   refine A8 (nx (A4 (A9 (sr 3 rfl (I4 10 rfl (by have:=hrowsfRowsrs.1;omega) fun a40 hq41=>?_)))))
   refine G5 (K7 (k:=t40) (d:=(⟨none,0,0⟩:Slc)) hrowsfRowsrs 11 rfl (by have:=hrowsfRowsrs.1;omega)) ?_
   have:=K8 hrowsfRowsrs (k:=t40) (d:=(⟨none,0,0⟩:Slc)) (by have:=hrowsfRowsrs.1;omega)
   refine ix rfl (F1 S6 rfl rfl hq41 rfl t40 rfl (by omega)) ?_
   refine ix rfl (F5 (D6 (v:=.slice ((fZ.getD t40 (⟨none,0,0⟩:Slc)).q) ((fZ.getD t40 (⟨none,0,0⟩:Slc)).n) ((fZ.getD t40 (⟨none,0,0⟩:Slc)).k)) (us:=[.slice ((fZ.getD t40 (⟨none,0,0⟩:Slc)).q) ((fZ.getD t40 (⟨none,0,0⟩:Slc)).n) ((fZ.getD t40 (⟨none,0,0⟩:Slc)).k)]) A1k rfl rfl (G6 (c:=C3) (sz:=1) hq41 (fun _=>rfl) 11 rfl (gd (⟨none,0,0⟩:Slc) (by have:=hrowsfRowsrs.1;omega))) rfl) (M3 hrowsfRowsrs (by have:=hrowsfRowsrs.1;omega))) ?_
   refine ip' 1 0 [(8,.slice ((fZ.getD t40 (⟨none,0,0⟩:Slc)).q) ((fR.getD t40 []).length) ((fZ.getD t40 (⟨none,0,0⟩:Slc)).k))] ?_
   refine ie (A1 8 rfl (zrl 4 4 [0] [(45,.slice (va sAltr.q) sAlt.length sAltr.k),(47,ag [.slice ((fZ.getD t40 (⟨none,0,0⟩:Slc)).q) ((fR.getD t40 []).length) ((fZ.getD t40 (⟨none,0,0⟩:Slc)).k),bv false])] ?_))
   refine it rfl (F9 (c:=C4) (xs:=([⟨⟨(fZ.getD t40 (⟨none,0,0⟩:Slc)).q,(fR.getD t40 []).length,(fZ.getD t40 (⟨none,0,0⟩:Slc)).k⟩,false⟩]:List Rwq)) B3i rfl rfl rfl (by kernel_rfl)) fun b42=>?_
   have hrows43:E6 ([⟨⟨(fZ.getD t40 (⟨none,0,0⟩:Slc)).q,(fR.getD t40 []).length,(fZ.getD t40 (⟨none,0,0⟩:Slc)).k⟩,false⟩]:List Rwq) ([⟨(fR.getD t40 []),false⟩]:List (Rwc Cel)):=(E6.cons ⟨rfl,(by first|omega|(simp only [List.length_take,List.length_drop,List.length_append,List.length_cons,List.length_nil,List.length_set,List.length_map,A7,A2,A3];omega)|decide),(by first|omega|(simp only [List.length_take,List.length_drop,List.length_append,List.length_cons,List.length_nil,List.length_set,List.length_map,A7,A2,A3];omega)|decide)⟩ rfl E6.none)
   refine G5 (q:=D9 B3 ([⟨⟨(fZ.getD t40 (⟨none,0,0⟩:Slc)).q,(fR.getD t40 []).length,(fZ.getD t40 (⟨none,0,0⟩:Slc)).k⟩,false⟩]:List Rwq) ([⟨(fR.getD t40 []),false⟩]:List (Rwc Cel))) (C6u (B9 1 rfl) V4) ?_
   have:([⟨⟨(fZ.getD t40 (⟨none,0,0⟩:Slc)).q,(fR.getD t40 []).length,(fZ.getD t40 (⟨none,0,0⟩:Slc)).k⟩,false⟩]:List Rwq).length=1:=rfl
   have hw46:E6 (sAltrs++([⟨⟨(fZ.getD t40 (⟨none,0,0⟩:Slc)).q,(fR.getD t40 []).length,(fZ.getD t40 (⟨none,0,0⟩:Slc)).k⟩,false⟩]:List Rwq)) (sAlt++([⟨(fR.getD t40 []),false⟩]:List (Rwc Cel))):=E6.append hrowssAltrs hrows43
   refine it rfl (C0r (r:=sAltr) (rs:=sAltrs) (xss:=sAlt) (pre:=[bx b16 (B1 y1.1 ⟨q18,y1.2.1.length,k20⟩ ⟨va sAltr.q,sAlt.length,sAltr.k⟩ ⟨none,0,0⟩ ⟨q32,y1.2.2.2.1.length,k33⟩) 52,bx b2 (B1 ScrC.zero ⟨none,0,0⟩ ⟨none,0,0⟩ ⟨none,0,0⟩ ⟨none,0,0⟩) 52,bx b1 (A0 f ⟨fQ,fR.length,fK⟩) 26]) (post:=[]) C4o rfl rfl rfl rfl rfl rfl rfl rfl rfl (B9 1 rfl) (B9 17 rfl) (B9 0 rfl) hrowssAltrs hrows43 hoksAltr (by first|omega|(simp only [List.length_cons,List.length_nil,List.length_append,List.length_take,List.length_drop,A7,A2,A3];omega)) (by first|omega|(simp only [List.length_cons,List.length_nil,List.length_append,List.length_take,List.length_drop,A7,A2,A3];omega))) fun ⟨r44,hr45⟩=>?_
   have:=VOk.le hr45
   have:=VOk.cap hr45
   have:([⟨(fR.getD t40 []),false⟩]:List (Rwc Cel)).length=1:=rfl
   have:(sAlt++([⟨(fR.getD t40 []),false⟩]:List (Rwc Cel))).length=sAlt.length+1:=List.length_append
   refine zrg 2 0 [0] [] (bx b16 (B1 y1.1 ⟨q18,y1.2.1.length,k20⟩ ⟨va r44.q,(sAlt++([⟨(fR.getD t40 []),false⟩]:List (Rwc Cel))).length,r44.k⟩ ⟨none,0,0⟩ ⟨q32,y1.2.2.2.1.length,k33⟩) 52::bx b2 (B1 ScrC.zero ⟨none,0,0⟩ ⟨none,0,0⟩ ⟨none,0,0⟩ ⟨none,0,0⟩) 52::bx b1 (A0 f ⟨fQ,fR.length,fK⟩) 26::(vo C4 78 r44 (sAltrs++([⟨⟨(fZ.getD t40 (⟨none,0,0⟩:Slc)).q,(fR.getD t40 []).length,(fZ.getD t40 (⟨none,0,0⟩:Slc)).k⟩,false⟩]:List Rwq)))++([])) ?_
   refine A6 (nx (A1 2 rfl (ix rfl (B0 rfl rfl rfl rfl (by omega)) ?_)))
   refine ip' 1 0 [(40,iv ((t40:Int)+1))] ?_
   refine A6 ?_
   exact B3a (z1:=t40) (z2:=sAlt) (z3:=sAltr) (z4:=sAltrs) (t40+1) (sAlt++([⟨(fR.getD t40 []),false⟩]:List (Rwc Cel))) r44 (sAltrs++([⟨⟨(fZ.getD t40 (⟨none,0,0⟩:Slc)).q,(fR.getD t40 []).length,(fZ.getD t40 (⟨none,0,0⟩:Slc)).k⟩,false⟩]:List Rwq)) ⟨(by omega),hR,hr45,hw46,(by (simp only [List.length_append,List.length_cons,List.length_nil];omega))⟩ (by (try dsimp only);omega) (mc [[bx b16 (B1 y1.1 ⟨q18,y1.2.1.length,k20⟩ ⟨va r44.q,(sAlt++([⟨(fR.getD t40 []),false⟩]:List (Rwc Cel))).length,r44.k⟩ ⟨none,0,0⟩ ⟨q32,y1.2.2.2.1.length,k33⟩) 52],[bx b2 (B1 ScrC.zero ⟨none,0,0⟩ ⟨none,0,0⟩ ⟨none,0,0⟩ ⟨none,0,0⟩) 52],[bx b1 (A0 f ⟨fQ,fR.length,fK⟩) 26],vo C4 78 r44 (sAltrs++([⟨⟨(fZ.getD t40 (⟨none,0,0⟩:Slc)).q,(fR.getD t40 []).length,(fZ.getD t40 (⟨none,0,0⟩:Slc)).k⟩,false⟩]:List Rwq))] [true,true,true,true] rfl (by first|rfl|(simp only [List.length_set]<;>rfl))) (A5.pick [4,5,6,7,8,9,10,11,12,13,14,15,16,17,0] rfl)
  have h39p:¬ ((t40:Int)<(fR.length:Int)):=by simpa using h39
  rw [R8 h39p] at hR;replace hR:=(O7.eq_1 ..).symm.trans hR
  refine F3 (nx (sr 9 rfl (zrg 9 0 [2,2,0] [] (bx b16 (B1 ({y1.1 with cursor:={Cur.zero with row:=f.cursor.row,col:=f.cursor.col}}) ⟨q18,y1.2.1.length,k20⟩ ⟨va sAltr.q,sAlt.length,sAltr.k⟩ ⟨none,0,0⟩ ⟨q32,y1.2.2.2.1.length,k33⟩) 52::bx b2 (B1 ScrC.zero ⟨none,0,0⟩ ⟨none,0,0⟩ ⟨none,0,0⟩ ⟨none,0,0⟩) 52::bx b1 (A0 f ⟨fQ,fR.length,fK⟩) 26::(vo C4 78 sAltr sAltrs)++([])) ?_)))
  refine ie ?_
  refine sh 13 [(8,[bx b16 (B1 ({y1.1 with cursor:={Cur.zero with row:=f.cursor.row,col:=f.cursor.col}}) ⟨q18,y1.2.1.length,k20⟩ ⟨va sAltr.q,sAlt.length,sAltr.k⟩ ⟨none,0,0⟩ ⟨q32,y1.2.2.2.1.length,k33⟩) 52]),(13,[bx b2 (B1 ScrC.zero ⟨none,0,0⟩ ⟨none,0,0⟩ ⟨none,0,0⟩ ⟨none,0,0⟩) 52]),(13,[bx b1 (A0 f ⟨fQ,fR.length,fK⟩) 26]),(13,vo C4 78 sAltr sAltrs)] [sl C4 q18 rs19,D9 B3 rs19 y1.2.1,sl C4 q25 rs26,D9 B3 rs26 y1.2.2.1,sl F6 q32 y1.2.2.2.1,sl F6 (va r14.q) y2.2.2.2.1,sl C4 (va r9.q) rs10,sl C4 (va r4.q) rs5,D9 B3 rs5 y2.2.1,D9 B3 rs10 y2.2.2.1,sl C3 fQ fZ,E7 B3 fZ fR,X9,Z3,D9 B3 sAltrs sAlt] (bx b16 (B1 ({y1.1 with cursor:={Cur.zero with row:=f.cursor.row,col:=f.cursor.col}}) ⟨q18,y1.2.1.length,k20⟩ ⟨va sAltr.q,sAlt.length,sAltr.k⟩ ⟨none,0,0⟩ ⟨q32,y1.2.2.2.1.length,k33⟩) 52::bx b2 (B1 ScrC.zero ⟨none,0,0⟩ ⟨none,0,0⟩ ⟨none,0,0⟩ ⟨none,0,0⟩) 52::bx b1 (A0 f ⟨fQ,fR.length,fK⟩) 26::(vo C4 78 sAltr sAltrs)++([])) (zml 13 0) (by kernel_rfl) rfl (by kernel_rfl) (by kernel_rfl) (by kernel_rfl) (mc [[bx b16 (B1 ({y1.1 with cursor:={Cur.zero with row:=f.cursor.row,col:=f.cursor.col}}) ⟨q18,y1.2.1.length,k20⟩ ⟨va sAltr.q,sAlt.length,sAltr.k⟩ ⟨none,0,0⟩ ⟨q32,y1.2.2.2.1.length,k33⟩) 52],[bx b2 (B1 ScrC.zero ⟨none,0,0⟩ ⟨none,0,0⟩ ⟨none,0,0⟩ ⟨none,0,0⟩) 52],[bx b1 (A0 f ⟨fQ,fR.length,fK⟩) 26],vo C4 78 sAltr sAltrs] [true,true,true,true] rfl (by first|rfl|(simp only [List.length_set]<;>rfl))) A5.refl ?_
  refine zhp [0,2,4] 10 (zml 13 21) [(60,pt b1 4),(62,pt b1 5),(64,pt b1 6)] ?_
  refine zhl 1 (bx b16 (B1 ({y1.1 with cursor:={Cur.zero with row:=f.cursor.row,col:=f.cursor.col}}) ⟨q18,y1.2.1.length,k20⟩ ⟨va sAltr.q,sAlt.length,sAltr.k⟩ ⟨none,0,0⟩ ⟨q32,y1.2.2.2.1.length,k33⟩) 52::bx b2 (B1 ScrC.zero ⟨none,0,0⟩ ⟨none,0,0⟩ ⟨none,0,0⟩ ⟨none,0,0⟩) 52::bx b1 (A0 f ⟨fQ,fR.length,fK⟩) 26::(vo C4 78 sAltr sAltrs)++([])) (zml 13 23) rfl (C9 (v:=bv f.visible) ty4 rfl rfl 2 rfl rfl) ?_
  refine zhp [6,7] 7 (zml 13 215) [(67,pt b16 29)] ?_
  refine zhl 3 (bx b2 (B1 ScrC.zero ⟨none,0,0⟩ ⟨none,0,0⟩ ⟨none,0,0⟩ ⟨none,0,0⟩) 52::bx b1 (A0 f ⟨fQ,fR.length,fK⟩) 26::(vo C4 78 sAltr sAltrs)++([])) (zml 13 223) rfl (C9 (v:=iv f.shape) ty3 rfl rfl 1 rfl rfl) ?_
  refine zhl 5 (bx b2 (B1 ScrC.zero ⟨none,0,0⟩ ⟨none,0,0⟩ ⟨none,0,0⟩ ⟨none,0,0⟩) 52::bx b1 (A0 f ⟨fQ,fR.length,fK⟩) 26::(vo C4 78 sAltr sAltrs)++([])) (zml 13 255) rfl (C9 (v:=sv f.title) ty9 rfl rfl 1 rfl rfl) ?_
  refine zho 8 (bx b2 (B1 ScrC.zero ⟨none,0,0⟩ ⟨none,0,0⟩ ⟨none,0,0⟩ ⟨none,0,0⟩) 52::bx b1 (A0 f ⟨fQ,fR.length,fK⟩) 26::(vo C4 78 sAltr sAltrs)++([])) (zml 13 511) rfl (L8 (us:=[bv f.visible]) (cs':=B1 ({y1.1 with cursor:={Cur.zero with row:=f.cursor.row,col:=f.cursor.col},modes:={y1.1.modes with visible:=f.visible}}) ⟨q18,y1.2.1.length,k20⟩ ⟨va sAltr.q,sAlt.length,sAltr.k⟩ ⟨none,0,0⟩ ⟨q32,y1.2.2.2.1.length,k33⟩) ty4 rfl rfl rfl 0 rfl rfl rfl rfl rfl rfl) (fun _=>(mc [[bx b16 (B1 ({y1.1 with cursor:={Cur.zero with row:=f.cursor.row,col:=f.cursor.col},modes:={y1.1.modes with visible:=f.visible}}) ⟨q18,y1.2.1.length,k20⟩ ⟨va sAltr.q,sAlt.length,sAltr.k⟩ ⟨none,0,0⟩ ⟨q32,y1.2.2.2.1.length,k33⟩) 52],[bx b2 (B1 ScrC.zero ⟨none,0,0⟩ ⟨none,0,0⟩ ⟨none,0,0⟩ ⟨none,0,0⟩) 52],[bx b1 (A0 f ⟨fQ,fR.length,fK⟩) 26],vo C4 78 sAltr sAltrs] [false,true,true,true] rfl (by first|rfl|(simp only [List.length_set]<;>rfl)))) (fun _=>A5.refl) fun _=>?_
  refine zhp [9] 3 (zml 13 1023) [(68,pt b16 77)] ?_
  refine zho 10 (bx b2 (B1 ScrC.zero ⟨none,0,0⟩ ⟨none,0,0⟩ ⟨none,0,0⟩ ⟨none,0,0⟩) 52::bx b1 (A0 f ⟨fQ,fR.length,fK⟩) 26::(vo C4 78 sAltr sAltrs)++([])) (zml 13 2047) rfl (L8 (us:=[iv f.shape]) (cs':=B1 ({y1.1 with cursor:={Cur.zero with row:=f.cursor.row,col:=f.cursor.col},modes:={y1.1.modes with visible:=f.visible},shape:=f.shape}) ⟨q18,y1.2.1.length,k20⟩ ⟨va sAltr.q,sAlt.length,sAltr.k⟩ ⟨none,0,0⟩ ⟨q32,y1.2.2.2.1.length,k33⟩) ty3 rfl rfl rfl 0 rfl rfl rfl rfl rfl rfl) (fun _=>(mc [[bx b16 (B1 ({y1.1 with cursor:={Cur.zero with row:=f.cursor.row,col:=f.cursor.col},modes:={y1.1.modes with visible:=f.visible},shape:=f.shape}) ⟨q18,y1.2.1.length,k20⟩ ⟨va sAltr.q,sAlt.length,sAltr.k⟩ ⟨none,0,0⟩ ⟨q32,y1.2.2.2.1.length,k33⟩) 52],[bx b2 (B1 ScrC.zero ⟨none,0,0⟩ ⟨none,0,0⟩ ⟨none,0,0⟩ ⟨none,0,0⟩) 52],[bx b1 (A0 f ⟨fQ,fR.length,fK⟩) 26],vo C4 78 sAltr sAltrs] [false,true,true,true] rfl (by first|rfl|(simp only [List.length_set]<;>rfl)))) (fun _=>A5.refl) fun _=>?_
  refine zhp [11] 1 (zml 13 4095) [(69,pt b16 78)] ?_
  refine zho 12 (bx b2 (B1 ScrC.zero ⟨none,0,0⟩ ⟨none,0,0⟩ ⟨none,0,0⟩ ⟨none,0,0⟩) 52::bx b1 (A0 f ⟨fQ,fR.length,fK⟩) 26::(vo C4 78 sAltr sAltrs)++([])) (zml 13 8191) rfl (L8 (us:=[sv f.title]) (cs':=B1 ({y1.1 with cursor:={Cur.zero with row:=f.cursor.row,col:=f.cursor.col},modes:={y1.1.modes with visible:=f.visible},shape:=f.shape,title:=f.title}) ⟨q18,y1.2.1.length,k20⟩ ⟨va sAltr.q,sAlt.length,sAltr.k⟩ ⟨none,0,0⟩ ⟨q32,y1.2.2.2.1.length,k33⟩) ty9 rfl rfl rfl 0 rfl rfl rfl rfl rfl rfl) (fun _=>(mc [[bx b16 (B1 ({y1.1 with cursor:={Cur.zero with row:=f.cursor.row,col:=f.cursor.col},modes:={y1.1.modes with visible:=f.visible},shape:=f.shape,title:=f.title}) ⟨q18,y1.2.1.length,k20⟩ ⟨va sAltr.q,sAlt.length,sAltr.k⟩ ⟨none,0,0⟩ ⟨q32,y1.2.2.2.1.length,k33⟩) 52],[bx b2 (B1 ScrC.zero ⟨none,0,0⟩ ⟨none,0,0⟩ ⟨none,0,0⟩ ⟨none,0,0⟩) 52],[bx b1 (A0 f ⟨fQ,fR.length,fK⟩) 26],vo C4 78 sAltr sAltrs] [false,true,true,true] rfl (by first|rfl|(simp only [List.length_set]<;>rfl)))) (fun _=>A5.refl) fun _=>?_
  refine A8u (by kernel_rfl) ?_
  refine sr 3 rfl (zrg 3 0 [0,1] [(3,iv 0)] (bx b16 (B1 ({y1.1 with cursor:={Cur.zero with row:=f.cursor.row,col:=f.cursor.col},modes:={y1.1.modes with visible:=f.visible},shape:=f.shape,title:=f.title}) ⟨q18,y1.2.1.length,k20⟩ ⟨va sAltr.q,sAlt.length,sAltr.k⟩ ⟨none,0,0⟩ ⟨q32,y1.2.2.2.1.length,k33⟩) 52::bx b2 (B1 ({y1.1 with cursor:={Cur.zero with row:=f.cursor.row,col:=f.cursor.col},modes:={y1.1.modes with visible:=f.visible},shape:=f.shape,title:=f.title}) ⟨q18,y1.2.1.length,k20⟩ ⟨va sAltr.q,sAlt.length,sAltr.k⟩ ⟨none,0,0⟩ ⟨q32,y1.2.2.2.1.length,k33⟩) 52::bx b1 (A0 f ⟨fQ,fR.length,fK⟩) 26::(vo C4 78 sAltr sAltrs)++([])) ?_)
  subst hR
  refine ie (B4 ?_)
  exact zer hr hD (S0 rfl (V7 (us:=B1 ({y1.1 with cursor:={Cur.zero with row:=f.cursor.row,col:=f.cursor.col},modes:={y1.1.modes with visible:=f.visible},shape:=f.shape,title:=f.title}) ⟨q18,y1.2.1.length,k20⟩ ⟨va sAltr.q,sAlt.length,sAltr.k⟩ ⟨none,0,0⟩ ⟨q32,y1.2.2.2.1.length,k33⟩) B1o rfl 1 rfl rfl) (B5 rfl)) (⟨(q18,rs19,k20),⟨hr21,(by first|omega|(simp only [List.length_take,List.length_drop,List.length_append,List.length_cons,List.length_nil,List.length_set,List.length_map,A7,A2,A3];omega)|decide),(by first|omega|(simp only [List.length_take,List.length_drop,List.length_append,List.length_cons,List.length_nil,List.length_set,List.length_map,A7,A2,A3];omega)|decide)⟩⟩,⟨(sAltr,sAltrs),⟨hoksAltr,hrowssAltrs⟩⟩,(zq q32 k33)) (mc [[bx b16 (B1 ({y1.1 with cursor:={Cur.zero with row:=f.cursor.row,col:=f.cursor.col},modes:={y1.1.modes with visible:=f.visible},shape:=f.shape,title:=f.title}) ⟨q18,y1.2.1.length,k20⟩ ⟨va sAltr.q,sAlt.length,sAltr.k⟩ ⟨none,0,0⟩ ⟨q32,y1.2.2.2.1.length,k33⟩) 52],[bx b2 (B1 ({y1.1 with cursor:={Cur.zero with row:=f.cursor.row,col:=f.cursor.col},modes:={y1.1.modes with visible:=f.visible},shape:=f.shape,title:=f.title}) ⟨q18,y1.2.1.length,k20⟩ ⟨va sAltr.q,sAlt.length,sAltr.k⟩ ⟨none,0,0⟩ ⟨q32,y1.2.2.2.1.length,k33⟩) 52],[bx b1 (A0 f ⟨fQ,fR.length,fK⟩) 26],vo C4 78 sAltr sAltrs] [false,false,false,true] rfl (by first|rfl|(simp only [List.length_set]<;>rfl))) (A5.con1 (B9 0 rfl) (A5.con1 (B9 1 rfl) (A5.con1 (B9 14 rfl) (A5.con1 (B9 4 rfl) fn0))))
 refine A8 (nx (A4 (sr 2 rfl (ip' 2 0 [(33,bv (!decide (y2.2.2.2.2=0)))] ?_))))
 refine ie (R3 rfl (fun h47=>?_) (fun h47=>?_))
 ·have h47p:¬ y2.2.2.2.2=0:=by simpa using h47
  refine sr 4 rfl (zrg 4 0 [1] [(3,iv y2.2.2.2.2)] (bx b16 (B1 y2.1 ⟨va r4.q,y2.2.1.length,r4.k⟩ ⟨va r9.q,y2.2.2.1.length,r9.k⟩ ⟨none,0,0⟩ ⟨va r14.q,y2.2.2.2.1.length,r14.k⟩) 52::bx b2 (B1 ScrC.zero ⟨none,0,0⟩ ⟨none,0,0⟩ ⟨none,0,0⟩ ⟨none,0,0⟩) 52::bx b1 (A0 f ⟨fQ,fR.length,fK⟩) 26::(vo C4 78 r4 rs5)++((vo C4 78 r9 rs10)++((vo F6 4 r14 y2.2.2.2.1)++([])))) ?_)
  subst hR
  refine ie (B4 ?_)
  exact zer hr hD (S0 rfl (V7 (us:=B1 ScrC.zero ⟨none,0,0⟩ ⟨none,0,0⟩ ⟨none,0,0⟩ ⟨none,0,0⟩) B1o rfl 1 rfl rfl) (B5 rfl)) (⟨(none,[],0),⟨E6.none,(by first|omega|(simp only [List.length_take,List.length_drop,List.length_append,List.length_cons,List.length_nil,List.length_set,List.length_map,A7,A2,A3];omega)|decide),(by first|omega|(simp only [List.length_take,List.length_drop,List.length_append,List.length_cons,List.length_nil,List.length_set,List.length_map,A7,A2,A3];omega)|decide)⟩⟩,⟨(VR.nil,([]:List Rwq)),⟨VOk.nil,E6.none⟩⟩,(zq none 0)) (mc [[bx b16 (B1 y2.1 ⟨va r4.q,y2.2.1.length,r4.k⟩ ⟨va r9.q,y2.2.2.1.length,r9.k⟩ ⟨none,0,0⟩ ⟨va r14.q,y2.2.2.2.1.length,r14.k⟩) 52],[bx b2 (B1 ScrC.zero ⟨none,0,0⟩ ⟨none,0,0⟩ ⟨none,0,0⟩ ⟨none,0,0⟩) 52],[bx b1 (A0 f ⟨fQ,fR.length,fK⟩) 26],vo C4 78 r4 rs5,vo C4 78 r9 rs10,vo F6 4 r14 y2.2.2.2.1,vo C4 78 VR.nil ([]:List Rwq)] [false,false,false,false,false,false,true] rfl (by first|rfl|(simp only [List.length_set]<;>rfl))) (A5.con1 Q6 (A5.con1 V4 (A5.con1 V4 (A5.con1 Q6 fn0))))
 have h47p:¬ (¬ y2.2.2.2.2=0):=by simpa using h47
 exfalso;omega
end Go.Proofs.YthcjfkljekdioaaGreatDoor
