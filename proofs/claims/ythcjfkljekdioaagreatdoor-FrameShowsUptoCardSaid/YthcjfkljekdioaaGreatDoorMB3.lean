import Derived.Test.YthcjfkljekdioaaGreatDoorProg
import Derived.Test.YthcjfkljekdioaaGreatDoorMA2
import Derived.Test.YthcjfkljekdioaaGreatDoorMB1
import Derived.Test.YthcjfkljekdioaaGreatDoorMB2
set_option linter.unusedVariables false
set_option linter.unusedSimpArgs false
set_option linter.unnecessarySimpa false
set_option maxRecDepth 100000
namespace Go.Proofs.YthcjfkljekdioaaGreatDoor
open Go Go.Fen
theorem C9p:EqT Tryz.prog 50 X7:=EqT.of 20 rfl (by kernel_rfl) (by kernel_rfl) (fun _ _=>by kernel_rfl) X7.inj
theorem D2d:Ty Tryz.prog 150 5 true:=⟨by kernel_rfl⟩
def A5c (s:ScrC) (sMain:List (Rwc Cel)) (sAlt:List (Rwc Cel)) (sPast:List (Rwc Cel)) (sTabs:List Bool):Int×Int×Int×Int×Bool :=
 (s.rows,s.cols,s.top,s.bottom,s.modes.origin)
def L7 (fR:Int) (fC:Int) (fTop:Int) (fBottom:Int) (fOrigin:Bool):Int :=
 (bif (((!((((decide ((1:Int)≤fR))&&(decide (fR≤40)))&&(decide ((2:Int)≤fC)))&&(decide (fC≤80))))||(!(((decide ((0:Int)≤fTop))&&(decide (fBottom<fR)))&&((decide (fTop<fBottom))||((decide (fTop=0))&&(decide (fR=1)))))))||(decide (fBottom<fTop))) then 270 else 0)
theorem A9h (fR:Int) (fC:Int) (fTop:Int) (fBottom:Int) (fOrigin:Bool) (R:Int) (hR:L7 fR fC fTop fBottom fOrigin=R):J8 Tryz.prog 166 [ag [iv fR,iv fC,iv fTop,iv fBottom,bv fOrigin]] [] (iv R):=by
 refine zco Tryz.func166 [(0,ag [iv fR,iv fC,iv fTop,iv fBottom,bv fOrigin])] fun X hX hr hD=>?_
 replace hR:=(L7.eq_1 ..).symm.trans hR
 refine sr 2 rfl (K0 2 0 [] (fun b1=>[(1,pt b1 0)]) (fun b1=>[bx b1 [iv fR,iv fC,iv fTop,iv fBottom,bv fOrigin] 150]) (fun b1=>?_))
 refine ie (sr 19 rfl (zrl 4 15 [0] [(8,bv (decide ((1:Int)≤fR)))] ?_))
 refine zid 4 11 8 12 (decide (fR≤40)) (fun g2 g2p=>?_) ?_
 ·refine zrl 4 0 [0] [(12,bv (decide (fR≤40)))] ?_
  exact A2 (I5 2 8 12 g2 fn0 (mk [true] rfl) rfl rfl rfl rfl rfl)
 refine ip' 1 10 [(13,bv ((decide ((1:Int)≤fR))&&(decide (fR≤40))))] ?_
 refine zia 4 6 13 17 (decide ((2:Int)≤fC)) (fun g3=>?_) ?_
 ·have g3p:((1:Int)≤fR)∧(fR≤40):=by simpa using g3
  refine zrl 4 0 [0] [(17,bv (decide ((2:Int)≤fC)))] ?_
  exact A2 (I5 2 13 17 g3 fn0 (mk [true] rfl) rfl rfl rfl rfl rfl)
 refine ip' 1 5 [(18,bv (((decide ((1:Int)≤fR))&&(decide (fR≤40)))&&(decide ((2:Int)≤fC))))] ?_
 refine zia 4 1 18 22 (decide (fC≤80)) (fun g4=>?_) ?_
 ·have g4p:(((1:Int)≤fR)∧(fR≤40))∧((2:Int)≤fC):=by simpa using g4
  refine zrl 4 0 [0] [(22,bv (decide (fC≤80)))] ?_
  exact A2 (I5 2 18 22 g4 fn0 (mk [true] rfl) rfl rfl rfl rfl rfl)
 refine ip' 1 0 [(3,bv ((((decide ((1:Int)≤fR))&&(decide (fR≤40)))&&(decide ((2:Int)≤fC)))&&(decide (fC≤80))))] ?_
 refine ie (sr 28 rfl (zrl 4 24 [0] [(26,bv (decide ((0:Int)≤fTop)))] ?_))
 refine zid 6 18 26 32 (decide (fBottom<fR)) (fun g5 g5p=>?_) ?_
 ·refine zrl 6 0 [0,0] [(32,bv (decide (fBottom<fR)))] ?_
  exact A2 (I5 2 26 32 g5 fn0 (mk [true] rfl) rfl rfl rfl rfl rfl)
 refine ip' 1 17 [(33,bv ((decide ((0:Int)≤fTop))&&(decide (fBottom<fR))))] ?_
 refine zia 16 1 33 49 ((decide (fTop<fBottom))||((decide (fTop=0))&&(decide (fR=1)))) (fun g6=>?_) ?_
 ·have g6p:((0:Int)≤fTop)∧(fBottom<fR):=by simpa using g6
  refine zrl 6 10 [0,0] [(39,bv (decide (fTop<fBottom)))] ?_
  refine zir 9 1 39 48 ((decide (fTop=0))&&(decide (fR=1))) (fun g7 g7p=>?_) ?_
  ·refine zrl 4 5 [0] [(43,bv (decide (fTop=0)))] ?_
   refine zid 4 1 43 47 (decide (fR=1)) (fun g8 g8p=>?_) ?_
   ·refine zrl 4 0 [0] [(47,bv (decide (fR=1)))] ?_
    exact A2 (I5 2 43 47 g8 fn0 (mk [true] rfl) rfl rfl rfl rfl rfl)
   refine ip' 1 0 [(48,bv ((decide (fTop=0))&&(decide (fR=1))))] ?_
   exact A2 (I5 4 39 48 g7 fn0 (mk [true] rfl) rfl rfl rfl rfl rfl)
  refine ip' 1 0 [(49,bv ((decide (fTop<fBottom))||((decide (fTop=0))&&(decide (fR=1)))))] ?_
  exact A2 (I5 4 33 49 g6 fn0 (mk [true] rfl) rfl rfl rfl rfl rfl)
 refine ip' 1 0 [(4,bv (((decide ((0:Int)≤fTop))&&(decide (fBottom<fR)))&&((decide (fTop<fBottom))||((decide (fTop=0))&&(decide (fR=1))))))] ?_
 refine ie (A1 (sr 13 rfl (ip' 3 10 [(52,bv (!((((decide ((1:Int)≤fR))&&(decide (fR≤40)))&&(decide ((2:Int)≤fC)))&&(decide (fC≤80)))))] ?_)))
 refine zio 3 7 52 55 (!(((decide ((0:Int)≤fTop))&&(decide (fBottom<fR)))&&((decide (fTop<fBottom))||((decide (fTop=0))&&(decide (fR=1)))))) (fun g9=>?_) ?_
 ·have g9p:¬ (¬ (((((1:Int)≤fR)∧(fR≤40))∧((2:Int)≤fC))∧(fC≤80))):=by first|simpa using g9|(simp at g9 ⊢;omega)
  refine ip' 3 0 [(55,bv (!(((decide ((0:Int)≤fTop))&&(decide (fBottom<fR)))&&((decide (fTop<fBottom))||((decide (fTop=0))&&(decide (fR=1)))))))] ?_
  exact A2 (I5 2 52 55 g9 fn0 (mk [true] rfl) rfl rfl rfl rfl rfl)
 refine ip' 1 6 [(56,bv ((!((((decide ((1:Int)≤fR))&&(decide (fR≤40)))&&(decide ((2:Int)≤fC)))&&(decide (fC≤80))))||(!(((decide ((0:Int)≤fTop))&&(decide (fBottom<fR)))&&((decide (fTop<fBottom))||((decide (fTop=0))&&(decide (fR=1))))))))] ?_
 refine zio 6 0 56 62 (decide (fBottom<fTop)) (fun g10=>?_) ?_
 ·have g10p:¬ ((¬ (((((1:Int)≤fR)∧(fR≤40))∧((2:Int)≤fC))∧(fC≤80)))∨(¬ ((((0:Int)≤fTop)∧(fBottom<fR))∧((fTop<fBottom)∨((fTop=0)∧(fR=1)))))):=by first|simpa using g10|(simp at g10 ⊢;omega)
  refine zrl 6 0 [0,0] [(62,bv (decide (fBottom<fTop)))] ?_
  exact A2 (I5 2 56 62 g10 fn0 (mk [true] rfl) rfl rfl rfl rfl rfl)
 refine ie ?_
 refine zjb rfl hR ?_ ?_<;>clear hR<;>intro hR h11
 ·have h11p:((¬ (((((1:Int)≤fR)∧(fR≤40))∧((2:Int)≤fC))∧(fC≤80)))∨(¬ ((((0:Int)≤fTop)∧(fBottom<fR))∧((fTop<fBottom)∨((fTop=0)∧(fR=1))))))∨(fBottom<fTop):=by first|simpa using h11|(simp at h11 ⊢;omega)
  refine sr 1 rfl (ip' 1 0 [(2,iv 270)] ?_)
  subst hR
  refine ie (A7 ?_)
  exact E6 hr hD
 have h11p:¬ (((¬ (((((1:Int)≤fR)∧(fR≤40))∧((2:Int)≤fC))∧(fC≤80)))∨(¬ ((((0:Int)≤fTop)∧(fBottom<fR))∧((fTop<fBottom)∨((fTop=0)∧(fR=1))))))∨(fBottom<fTop)):=by first|simpa using h11|(simp at h11 ⊢;omega)
 refine A5 (nx (sr 1 rfl (ip' 1 0 [(2,iv 0)] ?_)))
 subst hR
 refine ie (A7 ?_)
 exact E6 hr hD
def W5 (n:Int) (from_:Int) (to_:Int):Int :=
 (if (if to_<n then to_ else n) > from_ then (if to_<n then to_ else n) else from_)
theorem A8q (n:Int) (from_:Int) (to_:Int) (R:Int) (hR:W5 n from_ to_=R):J8 Tryz.prog 250 [iv n,iv from_,iv to_] [] (iv R):=by
 refine zco Tryz.func250 [(0,iv n),(1,iv from_),(2,iv to_)] fun X hX hr hD=>?_
 replace hR:=(W5.eq_1 ..).symm.trans hR
 refine sr 1 rfl (ip' 1 0 [] ?_)
 refine ie (sr 6 rfl (ip' 6 0 [(6,iv (if (if to_<n then to_ else n) > from_ then (if to_<n then to_ else n) else from_))] ?_))
 subst hR
 refine ie (A7 ?_)
 exact E6 hr hD
def O4 (fR:Int) (fC:Int) (fTop:Int) (fBottom:Int) (fOrigin:Bool) (n:Int):Int :=
 (W5 n 0 (IntKind.i64.wrap (fR - (1:Int))))
theorem B0y (fR:Int) (fC:Int) (fTop:Int) (fBottom:Int) (fOrigin:Bool) (n:Int) (R:Int) (hR:O4 fR fC fTop fBottom fOrigin n=R):J8 Tryz.prog 167 [ag [iv fR,iv fC,iv fTop,iv fBottom,bv fOrigin],iv n] [] (iv R):=by
 refine zco Tryz.func167 [(0,ag [iv fR,iv fC,iv fTop,iv fBottom,bv fOrigin]),(1,iv n)] fun X hX hr hD=>?_
 replace hR:=(O4.eq_1 ..).symm.trans hR
 refine sr 2 rfl (K0 2 0 [] (fun b1=>[(2,pt b1 0)]) (fun b1=>[bx b1 [iv fR,iv fC,iv fTop,iv fBottom,bv fOrigin] 150]) (fun b1=>?_))
 refine ie (sr 6 rfl (zrl 3 3 [0] [(5,iv n),(7,iv fR)] ?_))
 refine ix rfl (I3.pure rfl) ?_
 refine zca (A8q n 0 (IntKind.i64.wrap (fR - (1:Int))) _ rfl) fn0 ?_
 refine ip' 1 0 [(4,iv (W5 n 0 (IntKind.i64.wrap (fR - (1:Int)))))] ?_
 subst hR
 refine ie (A7 ?_)
 exact E6 hr hD
def O6 (fR:Int) (fC:Int) (fTop:Int) (fBottom:Int) (fOrigin:Bool) (n:Int):Int :=
 (W5 n 0 (IntKind.i64.wrap (fC - (1:Int))))
theorem B0r (fR:Int) (fC:Int) (fTop:Int) (fBottom:Int) (fOrigin:Bool) (n:Int) (R:Int) (hR:O6 fR fC fTop fBottom fOrigin n=R):J8 Tryz.prog 168 [ag [iv fR,iv fC,iv fTop,iv fBottom,bv fOrigin],iv n] [] (iv R):=by
 refine zco Tryz.func168 [(0,ag [iv fR,iv fC,iv fTop,iv fBottom,bv fOrigin]),(1,iv n)] fun X hX hr hD=>?_
 replace hR:=(O6.eq_1 ..).symm.trans hR
 refine sr 2 rfl (K0 2 0 [] (fun b1=>[(2,pt b1 0)]) (fun b1=>[bx b1 [iv fR,iv fC,iv fTop,iv fBottom,bv fOrigin] 150]) (fun b1=>?_))
 refine ie (sr 6 rfl (zrl 3 3 [0] [(5,iv n),(7,iv fC)] ?_))
 refine ix rfl (I3.pure rfl) ?_
 refine zca (A8q n 0 (IntKind.i64.wrap (fC - (1:Int))) _ rfl) fn0 ?_
 refine ip' 1 0 [(4,iv (W5 n 0 (IntKind.i64.wrap (fC - (1:Int)))))] ?_
 subst hR
 refine ie (A7 ?_)
 exact E6 hr hD
def G9 (fR:Int) (fC:Int) (fTop:Int) (fBottom:Int) (fOrigin:Bool) (c:Cur):Int :=
 (bif (!decide ((L7 fR fC fTop fBottom fOrigin)=0)) then (L7 fR fC fTop fBottom fOrigin) else (bif (((!decide (c.row=(O4 fR fC fTop fBottom fOrigin c.row)))||(!decide (c.col=(O6 fR fC fTop fBottom fOrigin c.col))))||(c.wrap&&(decide (c.col<(IntKind.i64.wrap (fC - (1:Int))))))) then 271 else 0))
theorem A6x (fR:Int) (fC:Int) (fTop:Int) (fBottom:Int) (fOrigin:Bool) (c:Cur) (R:Int) (hR:G9 fR fC fTop fBottom fOrigin c=R):J8 Tryz.prog 103 [ag [iv fR,iv fC,iv fTop,iv fBottom,bv fOrigin],ag (A5l c)] [] (iv R):=by
 refine zco Tryz.func103 [(0,ag [iv fR,iv fC,iv fTop,iv fBottom,bv fOrigin]),(1,ag (A5l c))] fun X hX hr hD=>?_
 replace hR:=(G9.eq_1 ..).symm.trans hR
 refine sr 3 rfl (A9f 3 0 [] (fun b1 b2=>[(2,pt b1 0),(3,pt b2 0)]) (fun b1 b2=>[bx b2 (A5l c) 38,bx b1 [iv fR,iv fC,iv fTop,iv fBottom,bv fOrigin] 150]) (fun b1 b2=>?_))
 refine ie (A1 (sr 3 rfl (zrl 1 2 [1] [(6,ag [iv fR,iv fC,iv fTop,iv fBottom,bv fOrigin])] ?_)))
 refine zca (A9h fR fC fTop fBottom fOrigin _ rfl) fn0 ?_
 refine ip' 1 0 [(5,iv (L7 fR fC fTop fBottom fOrigin))] ?_
 refine ie (sr 2 rfl (ip' 2 0 [(9,bv (!decide ((L7 fR fC fTop fBottom fOrigin)=0)))] ?_))
 refine ie ?_
 refine zjn rfl hR ?_ ?_<;>clear hR<;>intro hR h3 h3p
 ·refine sr 2 rfl (ip' 2 0 [(4,iv (L7 fR fC fTop fBottom fOrigin))] ?_)
  subst hR
  refine ie (A7 ?_)
  exact E6 hr hD
 refine A5 (nx (A1 (sd 28 rfl (by kernel_rfl) rfl ?_)))
 refine zdg 5 23 [0,1,0] [(12,iv c.row),(13,ag [iv fR,iv fC,iv fTop,iv fBottom,bv fOrigin]),(15,iv c.row)] ?_
 refine zcd (B0y fR fC fTop fBottom fOrigin c.row _ rfl) fn0 ?_
 refine dp' 2 20 [(18,bv (!decide (c.row=(O4 fR fC fTop fBottom fOrigin c.row))))] ?_
 refine zdO 8 12 18 26 (!decide (c.col=(O6 fR fC fTop fBottom fOrigin c.col))) (fun g4=>?_) ?_
 ·have g4p:¬ (¬ c.row=(O4 fR fC fTop fBottom fOrigin c.row)):=by simpa using g4
  refine zdg 5 3 [0,1,0] [(20,iv c.col),(21,ag [iv fR,iv fC,iv fTop,iv fBottom,bv fOrigin]),(23,iv c.col)] ?_
  refine zcd (B0r fR fC fTop fBottom fOrigin c.col _ rfl) fn0 ?_
  refine dp' 2 0 [(26,bv (!decide (c.col=(O6 fR fC fTop fBottom fOrigin c.col))))] ?_
  exact zad 6 18 26 g4
 refine dp' 1 11 [(27,bv ((!decide (c.row=(O4 fR fC fTop fBottom fOrigin c.row)))||(!decide (c.col=(O6 fR fC fTop fBottom fOrigin c.col)))))] ?_
 refine zdO 11 0 27 38 (c.wrap&&(decide (c.col<(IntKind.i64.wrap (fC - (1:Int)))))) (fun g5=>?_) ?_
 ·have g5p:¬ ((¬ c.row=(O4 fR fC fTop fBottom fOrigin c.row))∨(¬ c.col=(O6 fR fC fTop fBottom fOrigin c.col))):=by simpa using g5
  refine zdg 3 8 [0] [(30,bv c.wrap)] ?_
  refine zda 7 1 30 37 (decide (c.col<(IntKind.i64.wrap (fC - (1:Int))))) (fun g6=>?_) ?_
  ·refine zdg 4 3 [0,1] [(32,iv c.col),(34,iv fC)] ?_
   refine dd rfl (I3.pure rfl) ?_
   refine dp' 2 0 [(37,bv (decide (c.col<(IntKind.i64.wrap (fC - (1:Int))))))] ?_
   exact zad 5 30 37 g6
  refine dp' 1 0 [(38,bv (c.wrap&&(decide (c.col<(IntKind.i64.wrap (fC - (1:Int)))))))] ?_
  exact zad 4 27 38 g5
 refine de ?_
 refine zjb rfl hR ?_ ?_<;>clear hR<;>intro hR h7
 ·have h7p:=h7;try simp only [Bool.and_eq_true,Bool.or_eq_true,Bool.and_eq_false_iff,Bool.or_eq_false_iff,Bool.not_eq_true',Bool.not_eq_false',decide_eq_true_eq,decide_eq_false_iff_not] at h7p
  refine sr 1 rfl (ip' 1 0 [(4,iv 271)] ?_)
  subst hR
  refine ie (A7 ?_)
  exact E6 hr hD
 have h7p:=h7;try simp only [Bool.and_eq_true,Bool.or_eq_true,Bool.and_eq_false_iff,Bool.or_eq_false_iff,Bool.not_eq_true',Bool.not_eq_false',decide_eq_true_eq,decide_eq_false_iff_not] at h7p
 refine A5 (nx (sr 1 rfl (ip' 1 0 [(4,iv 0)] ?_)))
 subst hR
 refine ie (A7 ?_)
 exact E6 hr hD
def M1 (s:Sts):Int :=
 (bif ((!decide (s.g.a=0))&&(!decide (s.g.a=1))) then 250 else (bif ((!decide (s.g.b=0))&&(!decide (s.g.b=1))) then 250 else (bif ((!decide (s.g.c=0))&&(!decide (s.g.c=1))) then 250 else (bif ((!decide (s.g.d=0))&&(!decide (s.g.d=1))) then 250 else (bif ((!decide ((bOp .andNot .i64 s.used 1)=0))||(((!decide (s.once=0))&&(!decide (s.once=2)))&&(!decide (s.once=3)))) then 250 else 0)))))
theorem B1r (s:Sts) (R:Int) (hR:M1 s=R):J8 Tryz.prog 108 [ag (A5p s)] [] (iv R):=by
 refine zco Tryz.func108 [(0,ag (A5p s))] fun X hX hr hD=>?_
 replace hR:=(M1.eq_1 ..).symm.trans hR
 refine sr 2 rfl (K0 2 0 [] (fun b1=>[(1,pt b1 0)]) (fun b1=>[bx b1 (A5p s) 45]) (fun b1=>?_))
 refine ie (A1 (sr 3 rfl (zrl 3 0 [0] [(6,ag (B9k s.g)),(7,iv 0)] ?_)))
 refine ie (B0 (R8 6 ?_))
 refine E5 (sr 1 rfl (ip' 1 0 [(8,bv true)] ?_))
 refine ie (A1 (H7 rfl (A5 (nx (A1 (B0 (sr 2 rfl (ix rfl (E8 (v:=iv s.g.a) (us:=[iv s.g.a]) Tryz.underlying43 ty3 rfl rfl rfl 0 rfl (by decide) rfl rfl rfl) ?_))))))))
 refine ip' 1 0 [(4,iv s.g.a)] ?_
 refine ie (sr 6 rfl (ip' 3 3 [(12,bv (!decide (s.g.a=0)))] ?_))
 refine zia 3 0 12 15 (!decide (s.g.a=1)) (fun g2=>?_) ?_
 ·have g2p:¬ s.g.a=0:=by simpa using g2
  refine ip' 3 0 [(15,bv (!decide (s.g.a=1)))] ?_
  exact A2 (I5 2 12 15 g2 fn0 (mk [true] rfl) rfl rfl rfl rfl rfl)
 refine ie ?_
 refine zjb rfl hR ?_ ?_<;>clear hR<;>intro hR h3
 ·have h3p:(¬ s.g.a=0)∧(¬ s.g.a=1):=by simpa using h3
  refine sr 1 rfl (ip' 1 0 [(2,iv 250)] ?_)
  subst hR
  refine ie (A7 ?_)
  exact E6 hr hD
 have h3p:¬ ((¬ s.g.a=0)∧(¬ s.g.a=1)):=by simpa using h3
 refine A5 (nx (A3 2 rfl (ix rfl (B3 (c:=1) rfl rfl rfl rfl (by decide)) ?_)))
 refine ip' 1 0 [(7,iv 1)] ?_
 refine A2 (E5 (sr 1 rfl (ip' 1 0 [(8,bv true)] ?_)))
 refine ie (A1 (H7 rfl (A5 (nx (A1 (B0 (sr 2 rfl (ix rfl (E8 (v:=iv s.g.b) (us:=[iv s.g.b]) Tryz.underlying43 ty3 rfl rfl rfl 1 rfl (by decide) rfl rfl rfl) ?_))))))))
 refine ip' 1 0 [(4,iv s.g.b)] ?_
 refine ie (sr 6 rfl (ip' 3 3 [(12,bv (!decide (s.g.b=0)))] ?_))
 refine zia 3 0 12 15 (!decide (s.g.b=1)) (fun g4=>?_) ?_
 ·have g4p:¬ s.g.b=0:=by simpa using g4
  refine ip' 3 0 [(15,bv (!decide (s.g.b=1)))] ?_
  exact A2 (I5 2 12 15 g4 fn0 (mk [true] rfl) rfl rfl rfl rfl rfl)
 refine ie ?_
 refine zjb rfl hR ?_ ?_<;>clear hR<;>intro hR h5
 ·have h5p:(¬ s.g.b=0)∧(¬ s.g.b=1):=by simpa using h5
  refine sr 1 rfl (ip' 1 0 [(2,iv 250)] ?_)
  subst hR
  refine ie (A7 ?_)
  exact E6 hr hD
 have h5p:¬ ((¬ s.g.b=0)∧(¬ s.g.b=1)):=by simpa using h5
 refine A5 (nx (A3 2 rfl (ix rfl (B3 (c:=2) rfl rfl rfl rfl (by decide)) ?_)))
 refine ip' 1 0 [(7,iv 2)] ?_
 refine A2 (E5 (sr 1 rfl (ip' 1 0 [(8,bv true)] ?_)))
 refine ie (A1 (H7 rfl (A5 (nx (A1 (B0 (sr 2 rfl (ix rfl (E8 (v:=iv s.g.c) (us:=[iv s.g.c]) Tryz.underlying43 ty3 rfl rfl rfl 2 rfl (by decide) rfl rfl rfl) ?_))))))))
 refine ip' 1 0 [(4,iv s.g.c)] ?_
 refine ie (sr 6 rfl (ip' 3 3 [(12,bv (!decide (s.g.c=0)))] ?_))
 refine zia 3 0 12 15 (!decide (s.g.c=1)) (fun g6=>?_) ?_
 ·have g6p:¬ s.g.c=0:=by simpa using g6
  refine ip' 3 0 [(15,bv (!decide (s.g.c=1)))] ?_
  exact A2 (I5 2 12 15 g6 fn0 (mk [true] rfl) rfl rfl rfl rfl rfl)
 refine ie ?_
 refine zjb rfl hR ?_ ?_<;>clear hR<;>intro hR h7
 ·have h7p:(¬ s.g.c=0)∧(¬ s.g.c=1):=by simpa using h7
  refine sr 1 rfl (ip' 1 0 [(2,iv 250)] ?_)
  subst hR
  refine ie (A7 ?_)
  exact E6 hr hD
 have h7p:¬ ((¬ s.g.c=0)∧(¬ s.g.c=1)):=by simpa using h7
 refine A5 (nx (A3 2 rfl (ix rfl (B3 (c:=3) rfl rfl rfl rfl (by decide)) ?_)))
 refine ip' 1 0 [(7,iv 3)] ?_
 refine A2 (E5 (sr 1 rfl (ip' 1 0 [(8,bv true)] ?_)))
 refine ie (A1 (H7 rfl (A5 (nx (A1 (B0 (sr 2 rfl (ix rfl (E8 (v:=iv s.g.d) (us:=[iv s.g.d]) Tryz.underlying43 ty3 rfl rfl rfl 3 rfl (by decide) rfl rfl rfl) ?_))))))))
 refine ip' 1 0 [(4,iv s.g.d)] ?_
 refine ie (sr 6 rfl (ip' 3 3 [(12,bv (!decide (s.g.d=0)))] ?_))
 refine zia 3 0 12 15 (!decide (s.g.d=1)) (fun g8=>?_) ?_
 ·have g8p:¬ s.g.d=0:=by simpa using g8
  refine ip' 3 0 [(15,bv (!decide (s.g.d=1)))] ?_
  exact A2 (I5 2 12 15 g8 fn0 (mk [true] rfl) rfl rfl rfl rfl rfl)
 refine ie ?_
 refine zjb rfl hR ?_ ?_<;>clear hR<;>intro hR h9
 ·have h9p:(¬ s.g.d=0)∧(¬ s.g.d=1):=by simpa using h9
  refine sr 1 rfl (ip' 1 0 [(2,iv 250)] ?_)
  subst hR
  refine ie (A7 ?_)
  exact E6 hr hD
 have h9p:¬ ((¬ s.g.d=0)∧(¬ s.g.d=1)):=by simpa using h9
 refine A5 (nx (A3 2 rfl (ix rfl (B3 (c:=4) rfl rfl rfl rfl (by decide)) ?_)))
 refine ip' 1 0 [(7,iv 4)] ?_
 refine A2 (E5 (sr 1 rfl (ip' 1 0 [(8,bv false)] ?_)))
 refine ie (A1 (K6 rfl (F7 (nx (A1 (sr 19 rfl (zrl 5 14 [0] [(21,bv (!decide ((bOp .andNot .i64 s.used 1)=0)))] ?_)))))))
 refine zio 14 0 21 35 (((!decide (s.once=0))&&(!decide (s.once=2)))&&(!decide (s.once=3))) (fun g10=>?_) ?_
 ·have g10p:¬ (¬ (bOp .andNot .i64 s.used 1)=0):=by simpa using g10
  refine zrl 4 10 [0] [(25,bv (!decide (s.once=0)))] ?_
  refine zia 4 6 25 29 (!decide (s.once=2)) (fun g11=>?_) ?_
  ·have g11p:¬ s.once=0:=by simpa using g11
   refine zrl 4 0 [0] [(29,bv (!decide (s.once=2)))] ?_
   exact A2 (I5 2 25 29 g11 fn0 (mk [true] rfl) rfl rfl rfl rfl rfl)
  refine ip' 1 5 [(30,bv ((!decide (s.once=0))&&(!decide (s.once=2))))] ?_
  refine zia 4 1 30 34 (!decide (s.once=3)) (fun g12=>?_) ?_
  ·have g12p:(¬ s.once=0)∧(¬ s.once=2):=by simpa using g12
   refine zrl 4 0 [0] [(34,bv (!decide (s.once=3)))] ?_
   exact A2 (I5 2 30 34 g12 fn0 (mk [true] rfl) rfl rfl rfl rfl rfl)
  refine ip' 1 0 [(35,bv (((!decide (s.once=0))&&(!decide (s.once=2)))&&(!decide (s.once=3))))] ?_
  exact A2 (I5 6 21 35 g10 fn0 (mk [true] rfl) rfl rfl rfl rfl rfl)
 refine ie ?_
 refine zjb rfl hR ?_ ?_<;>clear hR<;>intro hR h13
 ·have h13p:(¬ (bOp .andNot .i64 s.used 1)=0)∨(((¬ s.once=0)∧(¬ s.once=2))∧(¬ s.once=3)):=by first|simpa using h13|(simp at h13 ⊢;omega)
  refine sr 1 rfl (ip' 1 0 [(2,iv 250)] ?_)
  subst hR
  refine ie (A7 ?_)
  exact E6 hr hD
 have h13p:¬ ((¬ (bOp .andNot .i64 s.used 1)=0)∨(((¬ s.once=0)∧(¬ s.once=2))∧(¬ s.once=3))):=by first|simpa using h13|(simp at h13 ⊢;omega)
 refine A5 (nx (sr 1 rfl (ip' 1 0 [(2,iv 0)] ?_)))
 subst hR
 refine ie (A7 ?_)
 exact E6 hr hD
def G1 (fR:Int) (fC:Int) (fTop:Int) (fBottom:Int) (fOrigin:Bool) (s:Sav):Int :=
 (bif (!decide ((L7 fR fC fTop fBottom fOrigin)=0)) then (L7 fR fC fTop fBottom fOrigin) else (bif ((s.is_&&(!(((decide ((G9 fR fC fTop fBottom fOrigin s.cursor)=0))&&(decide ((E7 s.style)=0)))&&(decide ((M1 s.sets)=0)))))||((!s.is_)&&(!(decide (s=Sav.zero))))) then 272 else 0))
theorem A4j (fR:Int) (fC:Int) (fTop:Int) (fBottom:Int) (fOrigin:Bool) (s:Sav) (R:Int) (hR:G1 fR fC fTop fBottom fOrigin s=R):J8 Tryz.prog 104 [ag [iv fR,iv fC,iv fTop,iv fBottom,bv fOrigin],ag (X7 s)] [] (iv R):=by
 refine zco Tryz.func104 [(0,ag [iv fR,iv fC,iv fTop,iv fBottom,bv fOrigin]),(1,ag (X7 s))] fun X hX hr hD=>?_
 replace hR:=(G1.eq_1 ..).symm.trans hR
 refine sr 3 rfl (A9f 3 0 [] (fun b1 b2=>[(2,pt b1 0),(3,pt b2 0)]) (fun b1 b2=>[bx b2 (X7 s) 50,bx b1 [iv fR,iv fC,iv fTop,iv fBottom,bv fOrigin] 150]) (fun b1 b2=>?_))
 refine ie (A1 (sr 3 rfl (zrl 1 2 [1] [(7,ag [iv fR,iv fC,iv fTop,iv fBottom,bv fOrigin])] ?_)))
 refine zca (A9h fR fC fTop fBottom fOrigin _ rfl) fn0 ?_
 refine ip' 1 0 [(5,iv (L7 fR fC fTop fBottom fOrigin))] ?_
 refine ie (sr 2 rfl (ip' 2 0 [(10,bv (!decide ((L7 fR fC fTop fBottom fOrigin)=0)))] ?_))
 refine ie ?_
 refine zjn rfl hR ?_ ?_<;>clear hR<;>intro hR h3 h3p
 ·refine sr 2 rfl (ip' 2 0 [(4,iv (L7 fR fC fTop fBottom fOrigin))] ?_)
  subst hR
  refine ie (A7 ?_)
  exact E6 hr hD
 refine A5 (nx (sr 18 rfl (zrl 3 15 [1,0] [(12,ag [iv fR,iv fC,iv fTop,iv fBottom,bv fOrigin]),(14,ag (A5l s.cursor))] ?_)))
 refine zca (A6x fR fC fTop fBottom fOrigin s.cursor _ rfl) fn0 ?_
 refine ip' 2 12 [(17,bv (decide ((G9 fR fC fTop fBottom fOrigin s.cursor)=0)))] ?_
 refine zid 5 7 17 22 (decide ((E7 s.style)=0)) (fun g4 g4p=>?_) ?_
 ·refine zrl 2 3 [0] [(19,ag (G4 s.style))] ?_
  refine zca (A1g s.style _ rfl) fn0 ?_
  refine ip' 2 0 [(22,bv (decide ((E7 s.style)=0)))] ?_
  exact A2 (I5 4 17 22 g4 fn0 (mk [true,true] rfl) rfl rfl rfl rfl rfl)
 refine ip' 1 6 [(23,bv ((decide ((G9 fR fC fTop fBottom fOrigin s.cursor)=0))&&(decide ((E7 s.style)=0))))] ?_
 refine zia 5 1 23 28 (decide ((M1 s.sets)=0)) (fun g5=>?_) ?_
 ·have g5p:((G9 fR fC fTop fBottom fOrigin s.cursor)=0)∧((E7 s.style)=0):=by simpa using g5
  refine zrl 2 3 [0] [(25,ag (A5p s.sets))] ?_
  refine zca (B1r s.sets _ rfl) fn0 ?_
  refine ip' 2 0 [(28,bv (decide ((M1 s.sets)=0)))] ?_
  exact A2 (I5 4 23 28 g5 fn0 (mk [true,true] rfl) rfl rfl rfl rfl rfl)
 refine ip' 1 0 [(6,bv (((decide ((G9 fR fC fTop fBottom fOrigin s.cursor)=0))&&(decide ((E7 s.style)=0)))&&(decide ((M1 s.sets)=0))))] ?_
 refine ie (A1 (sr 16 rfl (zrl 3 13 [0] [(31,bv s.is_)] ?_)))
 refine zia 3 10 31 34 (!(((decide ((G9 fR fC fTop fBottom fOrigin s.cursor)=0))&&(decide ((E7 s.style)=0)))&&(decide ((M1 s.sets)=0)))) (fun g6=>?_) ?_
 ·refine ip' 3 0 [(34,bv (!(((decide ((G9 fR fC fTop fBottom fOrigin s.cursor)=0))&&(decide ((E7 s.style)=0)))&&(decide ((M1 s.sets)=0)))))] ?_
  exact A2 (I5 2 31 34 g6 fn0 (mk [true,true] rfl) rfl rfl rfl rfl rfl)
 refine ip' 1 9 [(35,bv (s.is_&&(!(((decide ((G9 fR fC fTop fBottom fOrigin s.cursor)=0))&&(decide ((E7 s.style)=0)))&&(decide ((M1 s.sets)=0))))))] ?_
 refine zio 9 0 35 44 ((!s.is_)&&(!(decide (s=Sav.zero)))) (fun g7=>?_) ?_
 ·have g7p:=g7;try simp only [Bool.and_eq_true,Bool.or_eq_true,Bool.and_eq_false_iff,Bool.or_eq_false_iff,Bool.not_eq_true',Bool.not_eq_false',decide_eq_true_eq,decide_eq_false_iff_not] at g7p
  refine zrl 4 5 [0] [(39,bv (!s.is_))] ?_
  refine zia 4 1 39 43 (!(decide (s=Sav.zero))) (fun g8=>?_) ?_
  ·refine zrl 2 2 [0] [(40,ag (X7 s)),(41,ag (X7 Sav.zero))] ?_
   refine ix rfl (A0c (a:=s) (b:=Sav.zero) C9p rfl rfl rfl) ?_
   refine ip' 1 0 [(43,bv (!(decide (s=Sav.zero))))] ?_
   exact A2 (I5 5 39 43 g8 fn0 (mk [true,true] rfl) rfl rfl rfl rfl rfl)
  refine ip' 1 0 [(44,bv ((!s.is_)&&(!(decide (s=Sav.zero)))))] ?_
  exact A2 (I5 4 35 44 g7 fn0 (mk [true,true] rfl) rfl rfl rfl rfl rfl)
 refine ie ?_
 refine zjb rfl hR ?_ ?_<;>clear hR<;>intro hR h9
 ·have h9p:=h9;try simp only [Bool.and_eq_true,Bool.or_eq_true,Bool.and_eq_false_iff,Bool.or_eq_false_iff,Bool.not_eq_true',Bool.not_eq_false',decide_eq_true_eq,decide_eq_false_iff_not] at h9p
  refine sr 1 rfl (ip' 1 0 [(4,iv 272)] ?_)
  subst hR
  refine ie (A7 ?_)
  exact E6 hr hD
 have h9p:=h9;try simp only [Bool.and_eq_true,Bool.or_eq_true,Bool.and_eq_false_iff,Bool.or_eq_false_iff,Bool.not_eq_true',Bool.not_eq_false',decide_eq_true_eq,decide_eq_false_iff_not] at h9p
 refine A5 (nx (sr 1 rfl (ip' 1 0 [(4,iv 0)] ?_)))
 subst hR
 refine ie (A7 ?_)
 exact E6 hr hD
def A1b (g:List (Rwc Cel)):Int :=
 ((g.getD 0 zwc).l.length:Int)
theorem C2b (g:List (Rwc Cel)) (gq:Option Addr) (grs:List Rwq) (gk:Nat) (hrowsgrs:C8 grs g) (hlg:g.length≤9223372036854775807) (hcg:g.length≤gk) (hg0:0<g.length) (R:Int) (hR:A1b g=R):J8 Tryz.prog 251 [.slice gq g.length gk] [sl B7 gq grs,C3 B4 grs g] (iv R):=by
 refine zco Tryz.func251 [(0,.slice gq g.length gk)] fun X hX hr hD=>?_
 replace hR:=(A1b.eq_1 ..).symm.trans hR
 have:=hrowsgrs.1
 refine sr 1 rfl (ip' 1 0 [] ?_)
 refine ie (sr 6 rfl (ip' 1 5 [(3,.slice gq g.length gk)] ?_))
 refine K3 0 rfl (by have:=hrowsgrs.1;omega) fun a1 hq2=>?_
 refine H8 (C4s (k:=0) hrowsgrs 1 rfl (by have:=hrowsgrs.1;omega)) ?_
 have:=B6n hrowsgrs (k:=0) (by have:=hrowsgrs.1;omega)
 refine ix rfl (F0 B0h rfl rfl hq2 rfl 0 rfl (by omega)) ?_
 refine ip' 1 3 [(5,pa (Addr.add a1 (0 * 2)))] ?_
 refine ix rfl (H1 (C6 (v:=.slice ((grs.getD 0 zwq).s.q) ((grs.getD 0 zwq).s.n) ((grs.getD 0 zwq).s.k)) (us:=[.slice ((grs.getD 0 zwq).s.q) ((grs.getD 0 zwq).s.n) ((grs.getD 0 zwq).s.k)]) A5e rfl rfl (A7a (G2 (c:=B7) (sz:=2) hq2 (fun _=>rfl) 1 rfl (gd zwq (by have:=hrowsgrs.1;omega))) (ws:=[.slice ((grs.getD 0 zwq).s.q) ((grs.getD 0 zwq).s.n) ((grs.getD 0 zwq).s.k)]) 1 rfl) rfl) (D5p hrowsgrs (by have:=hrowsgrs.1;omega))) ?_
 refine ip' 2 0 [(2,iv ((g.getD 0 zwc).l.length:Int))] ?_
 subst hR
 refine ie (A7 ?_)
 exact E6 hr hD
def U1 (g:List (Rwc Cel)):List (Rwc Cel)→Nat→Int
 | [],t15=>0
 | hd_l0::tl_l0,t15=>(bif ((!decide ((H6 (hd_l0.l) (hd_l0.b))=0))||(!decide ((hd_l0.l.length:Int)=(A1b g)))) then 230 else U1 g tl_l0 (t15+1))
def P4 (g:List (Rwc Cel)):Int :=
 (bif ((decide ((g.length:Int)<1))||(decide ((40:Int)<(g.length:Int)))) then 230 else U1 g g 0)
theorem B7e {g:List (Rwc Cel)} (h:P4 g=0):0<g.length:=by
 unfold P4 at h
 cases hb:((decide ((g.length:Int)<1))||(decide ((40:Int)<(g.length:Int)))) with
 | true=>rw [hb] at h;cases h
 | false=>simp only [Bool.or_eq_false_iff,decide_eq_false_iff_not] at hb;omega
theorem C0u (g:List (Rwc Cel)) (gq:Option Addr) (grs:List Rwq) (gk:Nat) (hrowsgrs:C8 grs g) (hlg:g.length≤9223372036854775807) (hcg:g.length≤gk) (R:Int) (hR:P4 g=R):J8 Tryz.prog 169 [.slice gq g.length gk] [sl B7 gq grs,C3 B4 grs g,A3z,A3w] (iv R):=by
 refine zco Tryz.func169 [(0,.slice gq g.length gk)] fun X hX hr hD=>?_
 replace hR:=(P4.eq_1 ..).symm.trans hR
 have:=hrowsgrs.1
 refine sr 1 rfl (ip' 1 0 [] ?_)
 refine ie (A1 (sr 8 rfl (ip' 4 4 [(8,bv (decide ((g.length:Int)<1)))] ?_)))
 refine zir 4 0 8 12 (decide ((40:Int)<(g.length:Int))) (fun g1 g1p=>?_) ?_
 ·refine ip' 4 0 [(12,bv (decide ((40:Int)<(g.length:Int))))] ?_
  exact zai 2 8 12 g1
 refine ie ?_
 refine zjo rfl hR ?_ ?_<;>clear hR<;>intro hR h2 h2p
 ·refine sr 1 rfl (ip' 1 0 [(2,iv 230)] ?_)
  subst hR
  refine ie (A7 ?_)
  exact E6 hr hD
 refine A5 (nx (A1 (sr 3 rfl (ip' 3 0 [(13,.slice gq g.length gk),(14,iv (g.length:Int)),(15,iv 0)] ?_))))
 refine ie (B0 (B4r (fun (t15:Nat)=>(t15≤g.length∧U1 g (g.drop t15) t15=R,[(0,.slice gq g.length gk),(13,.slice gq g.length gk),(14,iv (g.length:Int)),(15,iv (t15:Int))],[],[sl B7 gq grs,C3 B4 grs g,A3z,A3w],g.length - t15)) 0 ⟨(by omega),hR⟩ (mk [] rfl) A4.refl ?_))
 rintro t15 ⟨hm3,hR⟩
 refine sr 1 rfl (ip' 1 0 [(16,bv (decide ((t15:Int)<(g.length:Int))))] ?_)
 refine ie (A1 (S5 rfl (fun h4=>?_) (fun h4=>?_)))
 ·have h4p:(t15:Int)<(g.length:Int):=by simpa using h4
  rw [V2 zwc (show t15<g.length by omega)] at hR;replace hR:=(U1.eq_2 ..).symm.trans hR
  refine A5 (nx (A1 (B0 (sr 4 rfl (K3 0 rfl (by have:=hrowsgrs.1;omega) fun a5 hq6=>?_)))))
  refine H8 (C4s (k:=t15) hrowsgrs 1 rfl (by have:=hrowsgrs.1;omega)) ?_
  have:=B6n hrowsgrs (k:=t15) (by have:=hrowsgrs.1;omega)
  refine ix rfl (F0 B0h rfl rfl hq6 rfl t15 rfl (by omega)) ?_
  refine ix rfl (H1 (M7 (us:=[.slice ((grs.getD t15 zwq).s.q) ((grs.getD t15 zwq).s.n) ((grs.getD t15 zwq).s.k),bv ((grs.getD t15 zwq).b)]) C3e rfl rfl (G2 (c:=B7) (sz:=2) hq6 (fun _=>rfl) 1 rfl (gd zwq (by have:=hrowsgrs.1;omega))) rfl) (C5h hrowsgrs (by have:=hrowsgrs.1;omega))) ?_
  refine K0 2 0 [0] (fun b7=>[(4,pt b7 0)]) (fun b7=>[bx b7 [.slice ((grs.getD t15 zwq).s.q) ((g.getD t15 zwc).l.length) ((grs.getD t15 zwq).s.k),bv ((g.getD t15 zwc).b)] 78]) (fun b7=>?_)
  refine ie (sd 11 rfl (by kernel_rfl) rfl ?_)
  refine zdg 1 10 [0] [(19,ag [.slice ((grs.getD t15 zwq).s.q) ((g.getD t15 zwc).l.length) ((grs.getD t15 zwq).s.k),bv ((g.getD t15 zwc).b)])] ?_
  refine zcd (B4d ((g.getD t15 zwc).l) ((g.getD t15 zwc).b) ((grs.getD t15 zwq).s.q) ((grs.getD t15 zwq).s.k) (by first|omega|(simp only [List.length_take,List.length_drop,List.length_append,List.length_cons,List.length_nil,List.length_set,List.length_map];omega)|decide) (by first|omega|(simp only [List.length_take,List.length_drop,List.length_append,List.length_cons,List.length_nil,List.length_set,List.length_map];omega)|decide) _ rfl) (A4.pick [0,3,4] rfl) ?_
  refine dp' 2 7 [(22,bv (!decide ((H6 ((g.getD t15 zwc).l) ((g.getD t15 zwc).b))=0)))] ?_
  refine zdO 7 0 22 29 (!decide (((g.getD t15 zwc).l.length:Int)=(A1b g))) (fun g8=>?_) ?_
  ·have g8p:¬ (¬ (H6 ((g.getD t15 zwc).l) ((g.getD t15 zwc).b))=0):=by simpa using g8
   refine zdg 4 3 [0] [(25,iv ((g.getD t15 zwc).l.length:Int)),(26,.slice gq g.length gk)] ?_
   refine zcd (C2b g gq grs gk hrowsgrs (by first|omega|(simp only [List.length_take,List.length_drop,List.length_append,List.length_cons,List.length_nil,List.length_set,List.length_map];omega)|decide) (by first|omega|(simp only [List.length_take,List.length_drop,List.length_append,List.length_cons,List.length_nil,List.length_set,List.length_map];omega)|decide) (by omega) _ rfl) (A4.pick [1,2] rfl) ?_
   refine dp' 2 0 [(29,bv (!decide (((g.getD t15 zwc).l.length:Int)=(A1b g))))] ?_
   exact zad 5 22 29 g8
  refine de ?_
  refine zjb rfl hR ?_ ?_<;>clear hR<;>intro hR h9
  ·have h9p:(¬ (H6 ((g.getD t15 zwc).l) ((g.getD t15 zwc).b))=0)∨(¬ ((g.getD t15 zwc).l.length:Int)=(A1b g)):=by simpa using h9
   refine sr 1 rfl (ip' 1 0 [(2,iv 230)] ?_)
   subst hR
   refine ie (A7 ?_)
   exact E6 hr hD
  have h9p:¬ ((¬ (H6 ((g.getD t15 zwc).l) ((g.getD t15 zwc).b))=0)∨(¬ ((g.getD t15 zwc).l.length:Int)=(A1b g))):=by simpa using h9
  refine A5 (nx (A3 2 rfl (ix rfl (B3 rfl rfl rfl rfl (by omega)) ?_)))
  refine ip' 1 0 [(15,iv ((t15:Int)+1))] ?_
  refine A2 ?_
  exact B4z (z1:=t15) (t15+1) ⟨(by omega),hR⟩ (by (try dsimp only);omega) (mk [false] rfl) (A4.pick [1,2,3,4] rfl)
 have h4p:¬ ((t15:Int)<(g.length:Int)):=by simpa using h4
 rw [U7 h4p] at hR;replace hR:=(U1.eq_1 ..).symm.trans hR
 refine F7 (nx (sr 1 rfl (ip' 1 0 [(2,iv 0)] ?_)))
 subst hR
 refine ie (A7 ?_)
 exact E6 hr hD
def J9 (s:ScrC) (sMain:List (Rwc Cel)) (sAlt:List (Rwc Cel)) (sPast:List (Rwc Cel)) (sTabs:List Bool) (g:List (Rwc Cel)):Bool :=
 (((decide ((P4 g)=0))&&(decide ((g.length:Int)=s.rows)))&&(decide (((g.getD 0 zwc).l.length:Int)=s.cols)))
def B0j (cols:Int):List (Rwc Cel)→Nat→Int
 | [],t18=>0
 | hd_l0::tl_l0,t18=>(bif ((!decide ((hd_l0.l.length:Int)=cols))||(!decide ((H6 (hd_l0.l) (hd_l0.b))=0))) then 280 else B0j cols tl_l0 (t18+1))
def B7i (cols:Int) (p:List (Rwc Cel)):Int :=
 (bif ((decide (cols<2))||(decide ((80:Int)<cols))) then 2 else (bif (decide ((100:Int)<(p.length:Int))) then 280 else B0j cols p 0))
def B3r:List Int :=
 ([9,1000,1002,1003]:List Int)
theorem C2t (R:List Int) (hR:B3r=R):Con Tryz.prog 171 [] [] [] ({t:Option Addr×Nat // R.length≤t.2∧R.length≤9223372036854775807}) (fun x=>.slice x.1.1 R.length x.1.2) (fun x=>[]) (fun x=>[sl L4 x.1.1 R]):=by
 refine zco Tryz.func171 [] fun X hX hr hD=>?_
 replace hR:=(B3r.eq_1 ..).symm.trans hR
 refine sr 1 rfl (ip' 1 0 [] ?_)
 refine ie (sr 2 rfl (it rfl (E3 (c:=L4) (xs:=([9,1000,1002,1003]:List Int)) U9 rfl rfl rfl (by kernel_rfl)) fun b1=>?_))
 have:([9,1000,1002,1003]:List Int).length=4:=rfl
 refine ip' 1 0 [(0,.slice (some ⟨b1,0,none⟩) 4 4)] ?_
 subst hR
 refine ie (A7 ?_)
 exact zer hr hD (P8 rfl (B2 rfl)) (zq (some ⟨b1,0,none⟩) 4) (mk [] rfl) (A4.con1 (B5 0 rfl) fn0)
def O2 (v:Int):List Int→Nat→Int
 | [],t8=>(-1)
 | hd_l0::tl_l0,t8=>(bif (decide (v=hd_l0)) then (t8:Int) else O2 v tl_l0 (t8+1))
def W6 (s:List Int) (v:Int):Int :=
 O2 v s 0
theorem A7t (s:List Int) (v:Int) (sq:Option Addr) (sk:Nat) (hls:s.length≤9223372036854775807) (hcs:s.length≤sk) (R:Int) (hR:W6 s v=R):J8 Tryz.prog 252 [.slice sq s.length sk,iv v] [sl L4 sq s] (iv R):=by
 refine zco Tryz.func252 [(0,.slice sq s.length sk),(1,iv v)] fun X hX hr hD=>?_
 replace hR:=(W6.eq_1 ..).symm.trans hR
 refine sr 1 rfl (ip' 1 0 [] ?_)
 refine ie (A1 (sr 3 rfl (ip' 3 0 [(7,iv (s.length:Int)),(8,iv 0)] ?_)))
 refine ie (B0 (B4r (fun (t8:Nat)=>(t8≤s.length∧O2 v (s.drop t8) t8=R,[(0,.slice sq s.length sk),(1,iv v),(7,iv (s.length:Int)),(8,iv (t8:Int))],[],[sl L4 sq s],s.length - t8)) 0 ⟨(by omega),hR⟩ (mk [] rfl) A4.refl ?_))
 rintro t8 ⟨hm1,hR⟩
 refine sr 1 rfl (ip' 1 0 [(9,bv (decide ((t8:Int)<(s.length:Int))))] ?_)
 refine ie (A1 (S5 rfl (fun h2=>?_) (fun h2=>?_)))
 ·have h2p:(t8:Int)<(s.length:Int):=by simpa using h2
  rw [V2 0 (show t8<s.length by omega)] at hR;replace hR:=(O2.eq_2 ..).symm.trans hR
  refine A5 (nx (A1 (B0 (sr 2 rfl (ip' 2 0 [(5,iv (t8:Int))] ?_)))))
  refine ie (sr 6 rfl (ip' 3 3 [(11,iv v),(12,.slice sq s.length sk),(13,iv (t8:Int))] ?_))
  refine K3 0 rfl (by omega) fun a3 hq4=>?_
  refine ix rfl (F0 U9 rfl rfl hq4 rfl t8 rfl (by omega)) ?_
  refine ix rfl (C6 (v:=iv (s.getD t8 0)) (us:=[iv (s.getD t8 0)]) ty3 rfl rfl (G2 (c:=L4) (sz:=1) hq4 (fun _=>rfl) 0 rfl (gd 0 (by omega))) rfl) ?_
  refine ip' 1 0 [(16,bv (decide (v=(s.getD t8 0))))] ?_
  refine ie ?_
  refine zjd rfl hR ?_ ?_<;>clear hR<;>intro hR h5 h5p
  ·refine sr 2 rfl (ip' 2 0 [(4,iv (t8:Int))] ?_)
   subst hR
   refine ie (A7 ?_)
   exact E6 hr hD
  refine A5 (nx (A3 2 rfl (ix rfl (B3 rfl rfl rfl rfl (by omega)) ?_)))
  refine ip' 1 0 [(8,iv ((t8:Int)+1))] ?_
  refine A2 ?_
  exact B4z (z1:=t8) (t8+1) ⟨(by omega),hR⟩ (by (try dsimp only);omega) (mk [] rfl) A4.refl
 have h2p:¬ ((t8:Int)<(s.length:Int)):=by simpa using h2
 rw [U7 h2p] at hR;replace hR:=(O2.eq_1 ..).symm.trans hR
 refine F7 (nx (sr 1 rfl (ip' 1 0 [(4,iv (-1))] ?_)))
 subst hR
 refine ie (A7 ?_)
 exact E6 hr hD
def Q9 (s:List Int) (v:Int):Bool :=
 (decide ((0:Int)≤(W6 s v)))
theorem A5s (s:List Int) (v:Int) (sq:Option Addr) (sk:Nat) (hls:s.length≤9223372036854775807) (hcs:s.length≤sk) (R:Bool) (hR:Q9 s v=R):J8 Tryz.prog 170 [.slice sq s.length sk,iv v] [sl L4 sq s] (bv R):=by
 refine zco Tryz.func170 [(0,.slice sq s.length sk),(1,iv v)] fun X hX hr hD=>?_
 replace hR:=(Q9.eq_1 ..).symm.trans hR
 refine sr 1 rfl (ip' 1 0 [] ?_)
 refine ie (sr 5 rfl (ip' 2 3 [(5,.slice sq s.length sk),(6,iv v)] ?_))
 refine zca (A7t s v sq sk (by first|omega|(simp only [List.length_take,List.length_drop,List.length_append,List.length_cons,List.length_nil,List.length_set,List.length_map];omega)|decide) (by first|omega|(simp only [List.length_take,List.length_drop,List.length_append,List.length_cons,List.length_nil,List.length_set,List.length_map];omega)|decide) _ rfl) A4.refl ?_
 refine ip' 2 0 [(4,bv (decide ((0:Int)≤(W6 s v))))] ?_
 subst hR
 refine ie (A7 ?_)
 exact E6 hr hD
def A0o (m:Mod):Int :=
 (bif (!decide (m.mouse=0)) then (D5 B3r fun (y1:List Int)=>(bif (!(Q9 y1 m.mouse)) then 260 else 0)) else 0)
theorem C1n (m:Mod) (R:Int) (hR:A0o m=R):J8 Tryz.prog 109 [ag (A1n m)] [] (iv R):=by
 refine zco Tryz.func109 [(0,ag (A1n m))] fun X hX hr hD=>?_
 replace hR:=(A0o.eq_1 ..).symm.trans hR
 refine sr 2 rfl (K0 2 0 [] (fun b1=>[(1,pt b1 0)]) (fun b1=>[bx b1 (A1n m) 47]) (fun b1=>?_))
 refine ie (A1 (sh 10 [(10,[bx b1 (A1n m) 47])] [] [bx b1 (A1n m) 47] (zml 10 0) (by kernel_rfl) rfl (by kernel_rfl) (by kernel_rfl) (by kernel_rfl) (mk [true] rfl) A4.refl ?_))
 refine zhp [0] 9 (zml 10 1) [(3,pt b1 11)] ?_
 refine zhl 1 [bx b1 (A1n m) 47] (zml 10 3) rfl (D6 (v:=iv m.mouse) ty3 rfl rfl 0 rfl rfl) ?_
 refine zhp [2,3] 6 (zml 10 15) [(6,bv (!decide (m.mouse=0)))] ?_
 refine C2h 6 _ rfl (fun g2=>?_) (fun g2=>?_)
 ·have g2p:¬ m.mouse=0:=by simpa using g2
  replace hR:=bt hR g2
  refine zhp [5] 5 (zml 10 47) [(8,pt b1 11)] ?_
  refine zhl 6 [bx b1 (A1n m) 47] (zml 10 111) rfl (D6 (v:=iv m.mouse) ty3 rfl rfl 0 rfl rfl) ?_
  have hQ:=F5 hR;clear hR;obtain ⟨y1,hy1,hR⟩:=hQ
  refine zho 4 [bx b1 (A1n m) 47] (zml 10 127) rfl (I1 (L2:=[bx b1 (A1n m) 47]) (C2t y1 hy1) rfl rfl rfl rfl rfl fn0 (List.Perm.refl _) (fun ⟨⟨q3,k4⟩,hp5⟩=>[bx b1 (A1n m) 47]) (fun _=>rfl)) (fun ⟨⟨q3,k4⟩,hp5⟩=>(mk [true] rfl)) (fun ⟨⟨q3,k4⟩,hp5⟩=>fn0) fun ⟨⟨q3,k4⟩,hp5⟩=>?_
  obtain ⟨hc6,hl7⟩:=hp5
  refine zho 7 [bx b1 (A1n m) 47] (zml 10 255) rfl (Det.tri (B1y (A5s y1 m.mouse q3 k4 (by first|omega|(simp only [List.length_take,List.length_drop,List.length_append,List.length_cons,List.length_nil,List.length_set,List.length_map];omega)|decide) (by first|omega|(simp only [List.length_take,List.length_drop,List.length_append,List.length_cons,List.length_nil,List.length_set,List.length_map];omega)|decide) _ rfl) rfl rfl rfl rfl rfl A4.refl)) (fun _=>(mk [true] rfl)) (fun _=>fn0) fun _=>?_
  refine zhp [8,9] 0 (zml 10 1023) [(12,bv (!(Q9 y1 m.mouse)))] ?_
  refine A9z (by kernel_rfl) ?_
  refine zjb rfl hR ?_ ?_<;>clear hR<;>intro hR h8
  ·refine sr 1 rfl (ip' 1 0 [(2,iv 260)] ?_)
   subst hR
   refine ie (A7 ?_)
   exact E6 hr hD
  refine A5 (nx (sr 1 rfl (ip' 1 0 [(2,iv 0)] ?_)))
  subst hR
  refine ie (A7 ?_)
  exact E6 hr hD
 ·have g2p:¬ (¬ m.mouse=0):=by simpa using g2
  replace hR:=bf hR g2
  refine zhp [4,5,6,7,8,9] 0 (zml 10 1023) [(12,bv false)] ?_
  refine A9z (by kernel_rfl) ?_
  refine K6 rfl (A5 (nx (sr 1 rfl (ip' 1 0 [(2,iv 0)] ?_))))
  subst hR
  refine ie (A7 ?_)
  exact E6 hr hD
def Z9 (s:ScrC) (t72:Bool):Bool :=
 (bif t72 then false else (bif (decide (s.shape<0)) then (bif (decide (s.shape<0)) then false else ((decide (s.last=0))||(decide ((0:Int)<(G6 s.last))))) else (bif (decide ((6:Int)<s.shape)) then (bif (decide ((6:Int)<s.shape)) then false else ((decide (s.last=0))||(decide ((0:Int)<(G6 s.last))))) else (bif (!decide ((K4 0 0 Col.zero s.title)=0)) then false else ((decide (s.last=0))||(decide ((0:Int)<(G6 s.last))))))))
def Q0 (s:ScrC) (t31:Bool):Bool :=
 (bif t31 then false else (bif (!decide ((E7 s.style)=0)) then Z9 s (!decide ((E7 s.style)=0)) else (bif (!decide ((M1 s.sets)=0)) then Z9 s (!decide ((M1 s.sets)=0)) else Z9 s (!decide ((A0o s.modes)=0)))))
def V3 (s:ScrC) (sMain:List (Rwc Cel)) (sAlt:List (Rwc Cel)) (sPast:List (Rwc Cel)) (sTabs:List Bool) (t6:Bool):Bool :=
 (bif t6 then false else (bif (!(J9 s sMain sAlt sPast sTabs sMain)) then Q0 s (!(J9 s sMain sAlt sPast sTabs sMain)) else (bif (!(J9 s sMain sAlt sPast sTabs sAlt)) then Q0 s (!(J9 s sMain sAlt sPast sTabs sAlt)) else (bif (!decide ((B7i s.cols sPast)=0)) then Q0 s (!decide ((B7i s.cols sPast)=0)) else Q0 s (!decide ((sTabs.length:Int)=s.cols))))))
def Z2 (s:ScrC) (sMain:List (Rwc Cel)) (sAlt:List (Rwc Cel)) (sPast:List (Rwc Cel)) (sTabs:List Bool):Bool :=
 (D5 (A5c s sMain sAlt sPast sTabs) fun (y0:Int×Int×Int×Int×Bool)=>(bif (!decide ((G9 y0.1 y0.2.1 y0.2.2.1 y0.2.2.2.1 y0.2.2.2.2 s.cursor)=0)) then V3 s sMain sAlt sPast sTabs (!decide ((G9 y0.1 y0.2.1 y0.2.2.1 y0.2.2.2.1 y0.2.2.2.2 s.cursor)=0)) else (bif (!decide ((G1 y0.1 y0.2.1 y0.2.2.1 y0.2.2.2.1 y0.2.2.2.2 s.kept)=0)) then V3 s sMain sAlt sPast sTabs (!decide ((G1 y0.1 y0.2.1 y0.2.2.1 y0.2.2.2.1 y0.2.2.2.2 s.kept)=0)) else V3 s sMain sAlt sPast sTabs (!decide ((G1 y0.1 y0.2.1 y0.2.2.1 y0.2.2.2.1 y0.2.2.2.2 s.keptAlt)=0)))))
def B1o (s:ScrC) (sMain:List (Rwc Cel)) (sAlt:List (Rwc Cel)) (sPast:List (Rwc Cel)) (sTabs:List Bool):Int :=
 (bif (!(Z2 s sMain sAlt sPast sTabs)) then 300 else 0)
theorem B4q {s:ScrC} {m a p:List (Rwc Cel)} {t:List Bool} (h:B1o s m a p t=0):m.length≤100∧a.length≤100:=by
 have hv:Z2 s m a p t=true:=by
  unfold B1o at h
  cases hx:Z2 s m a p t with
  | true=>rfl
  | false=>rw [hx] at h;cases h
 have hs:J9 s m a p t m=true∧J9 s m a p t a=true:=by
  unfold Z2 V3 A5c D5 at hv
  revert hv
  cases J9 s m a p t m<;>cases J9 s m a p t a<;>simp [Q0]
 have hg:∀ g:List (Rwc Cel),J9 s m a p t g=true→g.length≤100:=fun g hg=>by
  unfold J9 P4 at hg
  simp only [Bool.and_eq_true,decide_eq_true_eq] at hg
  have hg:=hg.1.1
  cases hb:((decide ((g.length:Int)<1))||(decide ((40:Int)<(g.length:Int)))) with
  | true=>rw [hb] at hg;cases hg
  | false=>simp only [Bool.or_eq_false_iff,decide_eq_false_iff_not] at hb;omega
 exact ⟨hg m hs.1,hg a hs.2⟩
end Go.Proofs.YthcjfkljekdioaaGreatDoor
set_option linter.unusedVariables false
set_option linter.unusedSimpArgs false
set_option linter.unnecessarySimpa false
set_option maxRecDepth 100000
namespace Go.Proofs.YthcjfkljekdioaaGreatDoor
open Go Go.Fen
def A0z:List (Rwc Cel)→Nat→List (List Cel)
 | [],t14=>[]
 | hd_l0::tl_l0,t14=>(((hd_l0.l).take (hd_l0.l.length))::A0z tl_l0 (t14+1))
def A3e (l1:List (Rwc Cel)):List (List Cel) :=
 A0z l1 0
def B7u (c0:ScrC) (c0Main:List (Rwc Cel)) (c0Alt:List (Rwc Cel)) (c0Past:List (Rwc Cel)) (c0Tabs:List Bool):List (List Cel) :=
 (bif c0.onAlt then A3e c0Alt else A3e c0Main)
theorem A3v:∀ (l:List (Rwc Cel)) (t:Nat),(A0z l t).length=l.length
 | [],t=>rfl
 | a::l,t=>by simp only [A0z,List.length_cons,A3v l (t+1)]
theorem A9m (l:List (Rwc Cel)):(A3e l).length=l.length:=A3v l 0
end Go.Proofs.YthcjfkljekdioaaGreatDoor
set_option linter.unusedVariables false
set_option linter.unusedSimpArgs false
set_option linter.unnecessarySimpa false
set_option maxRecDepth 100000
namespace Go.Proofs.YthcjfkljekdioaaGreatDoor
open Go Go.Fen
theorem J3:MapTy Tryz.prog 122 3 120 (.int .i64):=⟨by kernel_rfl,by kernel_rfl,rfl⟩
theorem C8f:MapTy Tryz.prog 193 3 196 (.int .i64):=⟨by kernel_rfl,by kernel_rfl,rfl⟩
theorem C3w:SlTy Tryz.prog 139 81 6:=⟨by kernel_rfl,by kernel_rfl⟩
theorem D7a:Ty Tryz.prog 36 1 false:=⟨by kernel_rfl⟩
theorem D0f:Ty Tryz.prog 38 3 true:=⟨by kernel_rfl⟩
theorem C4t:Ty Tryz.prog 42 8 true:=⟨by kernel_rfl⟩
theorem C7y:Ty Tryz.prog 45 6 true:=⟨by kernel_rfl⟩
theorem D4s:Ty Tryz.prog 50 19 true:=⟨by kernel_rfl⟩
theorem C8l:Ty Tryz.prog 120 2 true:=⟨by kernel_rfl⟩
theorem C0o:Zero Tryz.prog 120 [.nilFunc,.nilFunc]:=⟨by kernel_rfl⟩
def R9 (s:ScrC) (sMain:List (Rwc Cel)) (sAlt:List (Rwc Cel)) (sTabs:List Bool):Int×Int×Int×Int×Bool :=
 (s.rows,s.cols,s.top,s.bottom,s.modes.origin)
theorem A8n (s:ScrC) (sMain:List (Rwc Cel)) (sAlt:List (Rwc Cel)) (sTabs:List Bool) (sb:Nat) (sMainq:Option Addr) (sMainrs:List Rwq) (sMaink:Nat) (sAltq:Option Addr) (sAltrs:List Rwq) (sAltk:Nat) (sTabsq:Option Addr) (sTabsk:Nat) (hrowssMainrs:C8 sMainrs sMain) (hlsMain:sMain.length≤9223372036854775807) (hcsMain:sMain.length≤sMaink) (hrowssAltrs:C8 sAltrs sAlt) (hlsAlt:sAlt.length≤9223372036854775807) (hcsAlt:sAlt.length≤sAltk) (hlsTabs:sTabs.length≤9223372036854775807) (hcsTabs:sTabs.length≤sTabsk) (R:Int×Int×Int×Int×Bool) (hR:R9 s sMain sAlt sTabs=R):Con Tryz.prog 102 [pt sb 0] [bx sb (A6 s ⟨sMainq,sMain.length,sMaink⟩ ⟨sAltq,sAlt.length,sAltk⟩ ⟨none,0,0⟩ ⟨sTabsq,sTabs.length,sTabsk⟩) 114] [sl B7 sMainq sMainrs,C3 B4 sMainrs sMain,sl B7 sAltq sAltrs,C3 B4 sAltrs sAlt,sl D3 sTabsq sTabs] (Unit) (fun x=>ag [iv R.1,iv R.2.1,iv R.2.2.1,iv R.2.2.2.1,bv R.2.2.2.2]) (fun x=>[bx sb (A6 s ⟨sMainq,sMain.length,sMaink⟩ ⟨sAltq,sAlt.length,sAltk⟩ ⟨none,0,0⟩ ⟨sTabsq,sTabs.length,sTabsk⟩) 114]) (fun x=>[]):=by
 refine zco Tryz.func102 [(0,pt sb 0)] fun X hX hr hD=>?_
 replace hR:=(R9.eq_1 ..).symm.trans hR
 have:=hrowssMainrs.1
 have:=hrowssAltrs.1
 refine sr 1 rfl (K0 1 0 [] (fun b1=>[(2,pt b1 0)]) (fun b1=>[bx b1 [iv 0,iv 0,iv 0,iv 0,bv false] 150,bx sb (A6 s ⟨sMainq,sMain.length,sMaink⟩ ⟨sAltq,sAlt.length,sAltk⟩ ⟨none,0,0⟩ ⟨sTabsq,sTabs.length,sTabsk⟩) 114]) (fun b1=>?_))
 refine ie (sh 28 [(27,[bx b1 [iv 0,iv 0,iv 0,iv 0,bv false] 150]),(28,[bx sb (A6 s ⟨sMainq,sMain.length,sMaink⟩ ⟨sAltq,sAlt.length,sAltk⟩ ⟨none,0,0⟩ ⟨sTabsq,sTabs.length,sTabsk⟩) 114])] [sl B7 sMainq sMainrs,C3 B4 sMainrs sMain,sl B7 sAltq sAltrs,C3 B4 sAltrs sAlt,sl D3 sTabsq sTabs] [bx b1 [iv 0,iv 0,iv 0,iv 0,bv false] 150,bx sb (A6 s ⟨sMainq,sMain.length,sMaink⟩ ⟨sAltq,sAlt.length,sAltk⟩ ⟨none,0,0⟩ ⟨sTabsq,sTabs.length,sTabsk⟩) 114] (zml 28 0) (by kernel_rfl) rfl (by kernel_rfl) (by kernel_rfl) (by kernel_rfl) (mk [true,true] rfl) A4.refl ?_)
 refine zhp [0,1,2,3,5,6,7,8,10,11,12,13,15,16,17,18,20,21,22,23,24] 7 (zml 28 33013231) [(6,pt sb 1),(11,pt sb 0),(16,pt sb 36),(21,pt sb 37),(27,pt sb 27)] ?_
 refine zhl 4 [bx b1 [iv 0,iv 0,iv 0,iv 0,bv false] 150,bx sb (A6 s ⟨sMainq,sMain.length,sMaink⟩ ⟨sAltq,sAlt.length,sAltk⟩ ⟨none,0,0⟩ ⟨sTabsq,sTabs.length,sTabsk⟩) 114] (zml 28 33013247) rfl (D6 (v:=iv s.rows) ty3 rfl rfl 1 rfl rfl) ?_
 refine zhl 9 [bx b1 [iv 0,iv 0,iv 0,iv 0,bv false] 150,bx sb (A6 s ⟨sMainq,sMain.length,sMaink⟩ ⟨sAltq,sAlt.length,sAltk⟩ ⟨none,0,0⟩ ⟨sTabsq,sTabs.length,sTabsk⟩) 114] (zml 28 33013759) rfl (D6 (v:=iv s.cols) ty3 rfl rfl 1 rfl rfl) ?_
 refine zhl 14 [bx b1 [iv 0,iv 0,iv 0,iv 0,bv false] 150,bx sb (A6 s ⟨sMainq,sMain.length,sMaink⟩ ⟨sAltq,sAlt.length,sAltk⟩ ⟨none,0,0⟩ ⟨sTabsq,sTabs.length,sTabsk⟩) 114] (zml 28 33030143) rfl (D6 (v:=iv s.top) ty3 rfl rfl 1 rfl rfl) ?_
 refine zhl 19 [bx b1 [iv 0,iv 0,iv 0,iv 0,bv false] 150,bx sb (A6 s ⟨sMainq,sMain.length,sMaink⟩ ⟨sAltq,sAlt.length,sAltk⟩ ⟨none,0,0⟩ ⟨sTabsq,sTabs.length,sTabsk⟩) 114] (zml 28 33554431) rfl (D6 (v:=iv s.bottom) ty3 rfl rfl 1 rfl rfl) ?_
 refine zhl 25 [bx b1 [iv 0,iv 0,iv 0,iv 0,bv false] 150,bx sb (A6 s ⟨sMainq,sMain.length,sMaink⟩ ⟨sAltq,sAlt.length,sAltk⟩ ⟨none,0,0⟩ ⟨sTabsq,sTabs.length,sTabsk⟩) 114] (zml 28 67108863) rfl (D6 (v:=bv s.modes.origin) ty4 rfl rfl 1 rfl rfl) ?_
 refine zhk 26 (zml 28 134217727) rfl (A9t (cs:=[iv s.rows,iv s.cols,iv s.top,iv s.bottom,bv s.modes.origin]) rfl rfl (by kernel_rfl)) ?_
 refine zho 27 [bx sb (A6 s ⟨sMainq,sMain.length,sMaink⟩ ⟨sAltq,sAlt.length,sAltk⟩ ⟨none,0,0⟩ ⟨sTabsq,sTabs.length,sTabsk⟩) 114] (zml 28 268435455) rfl (L5 (us:=[iv s.rows,iv s.cols,iv s.top,iv s.bottom,bv s.modes.origin]) (cs':=[iv s.rows,iv s.cols,iv s.top,iv s.bottom,bv s.modes.origin]) D2d rfl rfl rfl 0 rfl rfl rfl rfl rfl rfl) (fun _=>(mk [false,true] rfl)) (fun _=>A4.refl) fun _=>?_
 refine A9z (by kernel_rfl) ?_
 subst hR
 refine A7 ?_
 exact zer hr hD (P8 rfl (J0 (us:=[iv s.rows,iv s.cols,iv s.top,iv s.bottom,bv s.modes.origin]) D2d rfl 0 rfl rfl rfl)) () (mk [false,true] rfl) fn0
def D4 (s:ScrC) (sMain:List (Rwc Cel)) (sAlt:List (Rwc Cel)) (sTabs:List Bool) (g:List (Rwc Cel)):Bool :=
 (((decide ((P4 g)=0))&&(decide ((g.length:Int)=s.rows)))&&(decide (((g.getD 0 zwc).l.length:Int)=s.cols)))
theorem A2z (s:ScrC) (sMain:List (Rwc Cel)) (sAlt:List (Rwc Cel)) (sTabs:List Bool) (g:List (Rwc Cel)) (sb:Nat) (sMainq:Option Addr) (sMainrs:List Rwq) (sMaink:Nat) (sAltq:Option Addr) (sAltrs:List Rwq) (sAltk:Nat) (sTabsq:Option Addr) (sTabsk:Nat) (gq:Option Addr) (grs:List Rwq) (gk:Nat) (hrowssMainrs:C8 sMainrs sMain) (hlsMain:sMain.length≤9223372036854775807) (hcsMain:sMain.length≤sMaink) (hrowssAltrs:C8 sAltrs sAlt) (hlsAlt:sAlt.length≤9223372036854775807) (hcsAlt:sAlt.length≤sAltk) (hlsTabs:sTabs.length≤9223372036854775807) (hcsTabs:sTabs.length≤sTabsk) (hrowsgrs:C8 grs g) (hlg:g.length≤9223372036854775807) (hcg:g.length≤gk) (R:Bool) (hR:D4 s sMain sAlt sTabs g=R):Con Tryz.prog 105 [pt sb 0,.slice gq g.length gk] [bx sb (A6 s ⟨sMainq,sMain.length,sMaink⟩ ⟨sAltq,sAlt.length,sAltk⟩ ⟨none,0,0⟩ ⟨sTabsq,sTabs.length,sTabsk⟩) 114] [sl B7 sMainq sMainrs,C3 B4 sMainrs sMain,sl B7 sAltq sAltrs,C3 B4 sAltrs sAlt,sl D3 sTabsq sTabs,sl B7 gq grs,C3 B4 grs g,A3z,A3w] (Unit) (fun x=>bv R) (fun x=>[bx sb (A6 s ⟨sMainq,sMain.length,sMaink⟩ ⟨sAltq,sAlt.length,sAltk⟩ ⟨none,0,0⟩ ⟨sTabsq,sTabs.length,sTabsk⟩) 114]) (fun x=>[]):=by
 refine zco Tryz.func105 [(0,pt sb 0),(1,.slice gq g.length gk)] fun X hX hr hD=>?_
 replace hR:=(D4.eq_1 ..).symm.trans hR
 have:=hrowssMainrs.1
 have:=hrowssAltrs.1
 have:=hrowsgrs.1
 have hgp:P4 g=0→0<g.length:=B7e
 refine sr 1 rfl (ip' 1 0 [] ?_)
 refine ie (sd 27 rfl (by kernel_rfl) rfl ?_)
 refine dp' 1 26 [(5,.slice gq g.length gk)] ?_
 refine zcd (C0u g gq grs gk hrowsgrs (by first|omega|(simp only [List.length_take,List.length_drop,List.length_append,List.length_cons,List.length_nil,List.length_set,List.length_map];omega)|decide) (by first|omega|(simp only [List.length_take,List.length_drop,List.length_append,List.length_cons,List.length_nil,List.length_set,List.length_map];omega)|decide) _ rfl) (A4.pick [5,6,7,8] rfl) ?_
 refine dp' 2 23 [(8,bv (decide ((P4 g)=0)))] ?_
 refine zdd 9 14 8 17 (decide ((g.length:Int)=s.rows)) (fun g1 g1p=>?_) ?_
 ·refine zdg 9 0 [0] [(17,bv (decide ((g.length:Int)=s.rows)))] ?_
  exact zad 2 8 17 g1
 refine dp' 1 13 [(18,bv ((decide ((P4 g)=0))&&(decide ((g.length:Int)=s.rows))))] ?_
 refine zda 12 1 18 30 (decide (((g.getD 0 zwc).l.length:Int)=s.cols)) (fun g2=>?_) ?_
 ·have g2p:((P4 g)=0)∧((g.length:Int)=s.rows):=by simpa using g2
  refine dp' 1 11 [(19,.slice gq g.length gk)] ?_
  refine A2j 5 rfl (by have:=hrowsgrs.1;omega) fun a3 hq4=>?_
  refine A7f (C4s (k:=0) hrowsgrs 6 rfl (by have:=hrowsgrs.1;omega)) ?_
  have:=B6n hrowsgrs (k:=0) (by have:=hrowsgrs.1;omega)
  refine dd rfl (F0 B0h rfl rfl hq4 rfl 0 rfl (by omega)) ?_
  refine dp' 1 9 [(21,pa (Addr.add a3 (0 * 2)))] ?_
  refine dd rfl (H1 (C6 (v:=.slice ((grs.getD 0 zwq).s.q) ((grs.getD 0 zwq).s.n) ((grs.getD 0 zwq).s.k)) (us:=[.slice ((grs.getD 0 zwq).s.q) ((grs.getD 0 zwq).s.n) ((grs.getD 0 zwq).s.k)]) A5e rfl rfl (A7a (G2 (c:=B7) (sz:=2) hq4 (fun _=>rfl) 6 rfl (gd zwq (by have:=hrowsgrs.1;omega))) (ws:=[.slice ((grs.getD 0 zwq).s.q) ((grs.getD 0 zwq).s.n) ((grs.getD 0 zwq).s.k)]) 1 rfl) rfl) (D5p hrowsgrs (by have:=hrowsgrs.1;omega))) ?_
  refine zdg 8 0 [0] [(30,bv (decide (((g.getD 0 zwc).l.length:Int)=s.cols)))] ?_
  exact zad 6 18 30 g2
 refine dp' 1 0 [(4,bv (((decide ((P4 g)=0))&&(decide ((g.length:Int)=s.rows)))&&(decide (((g.getD 0 zwc).l.length:Int)=s.cols))))] ?_
 subst hR
 refine de (A7 ?_)
 exact zer hr hD (P8 rfl (B2 rfl)) () (mk [true] rfl) fn0
def Y9 (cols:Int):Int :=
 (bif ((decide (cols<2))||(decide ((80:Int)<cols))) then 2 else 0)
theorem B8c (cols:Int) (R:Int) (hR:Y9 cols=R):J8 Tryz.prog 106 [iv cols,.slice none 0 0] [] (iv R):=by
 refine zco Tryz.func106 [(0,iv cols),(1,.slice none 0 0)] fun X hX hr hD=>?_
 replace hR:=(Y9.eq_1 ..).symm.trans hR
 refine sr 1 rfl (ip' 1 0 [] ?_)
 refine ie (A1 (sr 6 rfl (ip' 3 3 [(9,bv (decide (cols<2)))] ?_)))
 refine zir 3 0 9 12 (decide ((80:Int)<cols)) (fun g1 g1p=>?_) ?_
 ·refine ip' 3 0 [(12,bv (decide ((80:Int)<cols)))] ?_
  exact A2 (I5 2 9 12 g1 fn0 (mk [] rfl) rfl rfl rfl rfl rfl)
 refine ie ?_
 refine zjo rfl hR ?_ ?_<;>clear hR<;>intro hR h2 h2p
 ·refine sr 1 rfl (ip' 1 0 [(4,iv 2)] ?_)
  subst hR
  refine ie (A7 ?_)
  exact E6 hr hD
 refine A5 (nx (A1 (sr 3 rfl (ip' 3 0 [(15,bv false)] ?_))))
 refine ie (K6 rfl (A5 (nx (A1 (sr 3 rfl (ip' 3 0 [(16,.slice none 0 0),(17,iv 0),(18,iv 0)] ?_))))))
 refine ie (B0 (R8 2 ?_))
 refine E5 (sr 1 rfl (ip' 1 0 [(19,bv false)] ?_))
 refine ie (A1 (K6 rfl (F7 (nx (sr 1 rfl (ip' 1 0 [(4,iv 0)] ?_))))))
 subst hR
 refine ie (A7 ?_)
 exact E6 hr hD
def M9 (s:ScrC) (t72:Bool):Bool :=
 (bif t72 then false else (bif (decide (s.shape<0)) then (bif (decide (s.shape<0)) then false else ((decide (s.last=0))||(decide ((0:Int)<(G6 s.last))))) else (bif (decide ((6:Int)<s.shape)) then (bif (decide ((6:Int)<s.shape)) then false else ((decide (s.last=0))||(decide ((0:Int)<(G6 s.last))))) else (bif (!decide ((K4 0 0 Col.zero s.title)=0)) then false else ((decide (s.last=0))||(decide ((0:Int)<(G6 s.last))))))))
def J4 (s:ScrC) (t31:Bool):Bool :=
 (bif t31 then false else (bif (!decide ((E7 s.style)=0)) then M9 s (!decide ((E7 s.style)=0)) else (bif (!decide ((M1 s.sets)=0)) then M9 s (!decide ((M1 s.sets)=0)) else M9 s (!decide ((A0o s.modes)=0)))))
def K7 (s:ScrC) (sMain:List (Rwc Cel)) (sAlt:List (Rwc Cel)) (sTabs:List Bool) (t6:Bool):Bool :=
 (bif t6 then false else (bif (!(D4 s sMain sAlt sTabs sMain)) then J4 s (!(D4 s sMain sAlt sTabs sMain)) else (bif (!(D4 s sMain sAlt sTabs sAlt)) then J4 s (!(D4 s sMain sAlt sTabs sAlt)) else (bif (!decide ((Y9 s.cols)=0)) then J4 s (!decide ((Y9 s.cols)=0)) else J4 s (!decide ((sTabs.length:Int)=s.cols))))))
def L6 (s:ScrC) (sMain:List (Rwc Cel)) (sAlt:List (Rwc Cel)) (sTabs:List Bool):Bool :=
 (D5 (R9 s sMain sAlt sTabs) fun (y0:Int×Int×Int×Int×Bool)=>(bif (!decide ((G9 y0.1 y0.2.1 y0.2.2.1 y0.2.2.2.1 y0.2.2.2.2 s.cursor)=0)) then K7 s sMain sAlt sTabs (!decide ((G9 y0.1 y0.2.1 y0.2.2.1 y0.2.2.2.1 y0.2.2.2.2 s.cursor)=0)) else (bif (!decide ((G1 y0.1 y0.2.1 y0.2.2.1 y0.2.2.2.1 y0.2.2.2.2 s.kept)=0)) then K7 s sMain sAlt sTabs (!decide ((G1 y0.1 y0.2.1 y0.2.2.1 y0.2.2.2.1 y0.2.2.2.2 s.kept)=0)) else K7 s sMain sAlt sTabs (!decide ((G1 y0.1 y0.2.1 y0.2.2.1 y0.2.2.2.1 y0.2.2.2.2 s.keptAlt)=0)))))
theorem A8m (s:ScrC) (sMain:List (Rwc Cel)) (sAlt:List (Rwc Cel)) (sTabs:List Bool) (sb:Nat) (sMainq:Option Addr) (sMainrs:List Rwq) (sMaink:Nat) (sAltq:Option Addr) (sAltrs:List Rwq) (sAltk:Nat) (sTabsq:Option Addr) (sTabsk:Nat) (hrowssMainrs:C8 sMainrs sMain) (hlsMain:sMain.length≤9223372036854775807) (hcsMain:sMain.length≤sMaink) (hrowssAltrs:C8 sAltrs sAlt) (hlsAlt:sAlt.length≤9223372036854775807) (hcsAlt:sAlt.length≤sAltk) (hlsTabs:sTabs.length≤9223372036854775807) (hcsTabs:sTabs.length≤sTabsk) (hTs:s.title.length≤100000000) (R:Bool) (hR:L6 s sMain sAlt sTabs=R):Con Tryz.prog 64 [pt sb 0] [bx sb (A6 s ⟨sMainq,sMain.length,sMaink⟩ ⟨sAltq,sAlt.length,sAltk⟩ ⟨none,0,0⟩ ⟨sTabsq,sTabs.length,sTabsk⟩) 114] [sl B7 sMainq sMainrs,C3 B4 sMainrs sMain,sl B7 sAltq sAltrs,C3 B4 sAltrs sAlt,sl D3 sTabsq sTabs,A3z,A3w] (Unit) (fun x=>bv R) (fun x=>[bx sb (A6 s ⟨sMainq,sMain.length,sMaink⟩ ⟨sAltq,sAlt.length,sAltk⟩ ⟨none,0,0⟩ ⟨sTabsq,sTabs.length,sTabsk⟩) 114]) (fun x=>[]):=by
 refine zco Tryz.func64 [(0,pt sb 0)] fun X hX hr hD=>?_
 replace hR:=(L6.eq_1 ..).symm.trans hR
 have:=hrowssMainrs.1
 have:=hrowssAltrs.1
 refine sr 1 rfl (ip' 1 0 [] ?_)
 refine ie (sr 4 rfl (ip' 1 3 [(4,pt sb 0)] ?_))
 have hQ:=F5 hR;clear hR;obtain ⟨y0,hy0,hR⟩:=hQ
 refine it rfl (I1 (L2:=[]) (A8n s sMain sAlt sTabs sb sMainq sMainrs sMaink sAltq sAltrs sAltk sTabsq sTabsk hrowssMainrs (by first|omega|(simp only [List.length_take,List.length_drop,List.length_append,List.length_cons,List.length_nil,List.length_set,List.length_map];omega)|decide) (by first|omega|(simp only [List.length_take,List.length_drop,List.length_append,List.length_cons,List.length_nil,List.length_set,List.length_map];omega)|decide) hrowssAltrs (by first|omega|(simp only [List.length_take,List.length_drop,List.length_append,List.length_cons,List.length_nil,List.length_set,List.length_map];omega)|decide) (by first|omega|(simp only [List.length_take,List.length_drop,List.length_append,List.length_cons,List.length_nil,List.length_set,List.length_map];omega)|decide) (by first|omega|(simp only [List.length_take,List.length_drop,List.length_append,List.length_cons,List.length_nil,List.length_set,List.length_map];omega)|decide) (by first|omega|(simp only [List.length_take,List.length_drop,List.length_append,List.length_cons,List.length_nil,List.length_set,List.length_map];omega)|decide) y0 hy0) rfl rfl rfl rfl rfl (A4.pick [0,1,2,3,4] rfl) (H5 [[bx sb (A6 s ⟨sMainq,sMain.length,sMaink⟩ ⟨sAltq,sAlt.length,sAltk⟩ ⟨none,0,0⟩ ⟨sTabsq,sTabs.length,sTabsk⟩) 114]] [0] 1 rfl (by decide) rfl [[bx sb (A6 s ⟨sMainq,sMain.length,sMaink⟩ ⟨sAltq,sAlt.length,sAltk⟩ ⟨none,0,0⟩ ⟨sTabsq,sTabs.length,sTabsk⟩) 114]] rfl (by first|rfl|simp only [List.flatten_cons,List.flatten_nil,List.append_nil,List.cons_append,List.nil_append,List.append_assoc])) (fun _=>[bx sb (A6 s ⟨sMainq,sMain.length,sMaink⟩ ⟨sAltq,sAlt.length,sAltk⟩ ⟨none,0,0⟩ ⟨sTabsq,sTabs.length,sTabsk⟩) 114]) (fun _=>rfl)) fun _=>?_
 refine K0 2 0 [0] (fun b1=>[(3,pt b1 0)]) (fun b1=>[bx b1 [iv y0.1,iv y0.2.1,iv y0.2.2.1,iv y0.2.2.2.1,bv y0.2.2.2.2] 150,bx sb (A6 s ⟨sMainq,sMain.length,sMaink⟩ ⟨sAltq,sAlt.length,sAltk⟩ ⟨none,0,0⟩ ⟨sTabsq,sTabs.length,sTabsk⟩) 114]) (fun b1=>?_)
 refine ie (A1 (B0 (C3q (fun (t6:Bool)=>(K7 s sMain sAlt sTabs t6=R,[(0,pt sb 0),(6,bv t6)],[bx b1 [iv y0.1,iv y0.2.1,iv y0.2.2.1,iv y0.2.2.2.1,bv y0.2.2.2.2] 150,bx sb (A6 s ⟨sMainq,sMain.length,sMaink⟩ ⟨sAltq,sAlt.length,sAltk⟩ ⟨none,0,0⟩ ⟨sTabsq,sTabs.length,sTabsk⟩) 114],[sl B7 sMainq sMainrs,C3 B4 sMainrs sMain,sl B7 sAltq sAltrs,C3 B4 sAltrs sAlt,sl D3 sTabsq sTabs,A3z,A3w])) ?_ ?_)))
 ·refine sd 9 rfl (by kernel_rfl) rfl ?_
  refine zdg 6 3 [0,1] [(7,ag [iv y0.1,iv y0.2.1,iv y0.2.2.1,iv y0.2.2.2.1,bv y0.2.2.2.2]),(12,ag (A5l s.cursor))] ?_
  refine zcd (A6x y0.1 y0.2.1 y0.2.2.1 y0.2.2.2.1 y0.2.2.2.2 s.cursor _ rfl) fn0 ?_
  refine dp' 2 0 [(6,bv (!decide ((G9 y0.1 y0.2.1 y0.2.2.1 y0.2.2.2.1 y0.2.2.2.2 s.cursor)=0)))] ?_
  refine de ?_
  refine zjn rfl hR ?_ ?_<;>clear hR<;>intro hR h2 h2p
  ·refine A5 ?_
   exact A6w (!decide ((G9 y0.1 y0.2.1 y0.2.2.1 y0.2.2.2.1 y0.2.2.2.2 s.cursor)=0)) hR (mk [true,true] rfl) A4.refl
  refine sd 9 rfl (by kernel_rfl) rfl ?_
  refine zdg 6 3 [0,1] [(15,ag [iv y0.1,iv y0.2.1,iv y0.2.2.1,iv y0.2.2.2.1,bv y0.2.2.2.2]),(20,ag (X7 s.kept))] ?_
  refine zcd (A4j y0.1 y0.2.1 y0.2.2.1 y0.2.2.2.1 y0.2.2.2.2 s.kept _ rfl) fn0 ?_
  refine dp' 2 0 [(6,bv (!decide ((G1 y0.1 y0.2.1 y0.2.2.1 y0.2.2.2.1 y0.2.2.2.2 s.kept)=0)))] ?_
  refine de ?_
  refine zjn rfl hR ?_ ?_<;>clear hR<;>intro hR h3 h3p
  ·refine A5 ?_
   exact A6w (!decide ((G1 y0.1 y0.2.1 y0.2.2.1 y0.2.2.2.1 y0.2.2.2.2 s.kept)=0)) hR (mk [true,true] rfl) A4.refl
  refine C4y 9 rfl (by kernel_rfl) rfl ?_
  refine zdg 6 3 [0,1] [(23,ag [iv y0.1,iv y0.2.1,iv y0.2.2.1,iv y0.2.2.2.1,bv y0.2.2.2.2]),(28,ag (X7 s.keptAlt))] ?_
  refine zcd (A4j y0.1 y0.2.1 y0.2.2.1 y0.2.2.2.1 y0.2.2.2.2 s.keptAlt _ rfl) fn0 ?_
  refine dp' 2 0 [(6,bv (!decide ((G1 y0.1 y0.2.1 y0.2.2.1 y0.2.2.2.1 y0.2.2.2.2 s.keptAlt)=0)))] ?_
  refine B3o ?_
  exact A6w (!decide ((G1 y0.1 y0.2.1 y0.2.2.1 y0.2.2.2.1 y0.2.2.2.2 s.keptAlt)=0)) hR (mk [true,true] rfl) A4.refl
 intro t6
 rintro hR
 replace hR:=(K7.eq_1 ..).symm.trans hR
 refine zjb rfl hR ?_ ?_<;>clear hR<;>intro hR h4
 ·refine sr 1 rfl (ip' 1 0 [(2,bv false)] ?_)
  subst hR
  refine ie (A7 ?_)
  exact zer hr hD (P8 rfl (B2 rfl)) () (mk [false,true] rfl) fn0
 refine C3q (fun (t31:Bool)=>(J4 s t31=R,[(0,pt sb 0),(31,bv t31)],[bx b1 [iv y0.1,iv y0.2.1,iv y0.2.2.1,iv y0.2.2.2.1,bv y0.2.2.2.2] 150,bx sb (A6 s ⟨sMainq,sMain.length,sMaink⟩ ⟨sAltq,sAlt.length,sAltk⟩ ⟨none,0,0⟩ ⟨sTabsq,sTabs.length,sTabsk⟩) 114],[sl B7 sMainq sMainrs,C3 B4 sMainrs sMain,sl B7 sAltq sAltrs,C3 B4 sAltrs sAlt,sl D3 sTabsq sTabs,A3z,A3w])) ?_ ?_
 ·refine sr 9 rfl (zrl 6 3 [1] [(32,pt sb 0),(37,.slice sMainq sMain.length sMaink)] ?_)
  refine it rfl (I1 (L2:=[bx b1 [iv y0.1,iv y0.2.1,iv y0.2.2.1,iv y0.2.2.2.1,bv y0.2.2.2.2] 150]) (A2z s sMain sAlt sTabs sMain sb sMainq sMainrs sMaink sAltq sAltrs sAltk sTabsq sTabsk sMainq sMainrs sMaink hrowssMainrs (by first|omega|(simp only [List.length_take,List.length_drop,List.length_append,List.length_cons,List.length_nil,List.length_set,List.length_map];omega)|decide) (by first|omega|(simp only [List.length_take,List.length_drop,List.length_append,List.length_cons,List.length_nil,List.length_set,List.length_map];omega)|decide) hrowssAltrs (by first|omega|(simp only [List.length_take,List.length_drop,List.length_append,List.length_cons,List.length_nil,List.length_set,List.length_map];omega)|decide) (by first|omega|(simp only [List.length_take,List.length_drop,List.length_append,List.length_cons,List.length_nil,List.length_set,List.length_map];omega)|decide) (by first|omega|(simp only [List.length_take,List.length_drop,List.length_append,List.length_cons,List.length_nil,List.length_set,List.length_map];omega)|decide) (by first|omega|(simp only [List.length_take,List.length_drop,List.length_append,List.length_cons,List.length_nil,List.length_set,List.length_map];omega)|decide) hrowssMainrs (by first|omega|(simp only [List.length_take,List.length_drop,List.length_append,List.length_cons,List.length_nil,List.length_set,List.length_map];omega)|decide) (by first|omega|(simp only [List.length_take,List.length_drop,List.length_append,List.length_cons,List.length_nil,List.length_set,List.length_map];omega)|decide) _ rfl) rfl rfl rfl rfl rfl (A4.pick [0,1,2,3,4,0,1,5,6] rfl) (H5 [[bx b1 [iv y0.1,iv y0.2.1,iv y0.2.2.1,iv y0.2.2.2.1,bv y0.2.2.2.2] 150],[bx sb (A6 s ⟨sMainq,sMain.length,sMaink⟩ ⟨sAltq,sAlt.length,sAltk⟩ ⟨none,0,0⟩ ⟨sTabsq,sTabs.length,sTabsk⟩) 114]] [1,0] 2 rfl (by decide) rfl [[bx sb (A6 s ⟨sMainq,sMain.length,sMaink⟩ ⟨sAltq,sAlt.length,sAltk⟩ ⟨none,0,0⟩ ⟨sTabsq,sTabs.length,sTabsk⟩) 114],[bx b1 [iv y0.1,iv y0.2.1,iv y0.2.2.1,iv y0.2.2.2.1,bv y0.2.2.2.2] 150]] rfl (by first|rfl|simp only [List.flatten_cons,List.flatten_nil,List.append_nil,List.cons_append,List.nil_append,List.append_assoc])) (fun _=>[bx sb (A6 s ⟨sMainq,sMain.length,sMaink⟩ ⟨sAltq,sAlt.length,sAltk⟩ ⟨none,0,0⟩ ⟨sTabsq,sTabs.length,sTabsk⟩) 114,bx b1 [iv y0.1,iv y0.2.1,iv y0.2.2.1,iv y0.2.2.2.1,bv y0.2.2.2.2] 150]) (fun _=>rfl)) fun _=>?_
  refine ip' 2 0 [(31,bv (!(D4 s sMain sAlt sTabs sMain)))] ?_
  refine ie ?_
  refine zjb rfl hR ?_ ?_<;>clear hR<;>intro hR h5
  ·refine A5 (Z3 (H5 [[bx sb (A6 s ⟨sMainq,sMain.length,sMaink⟩ ⟨sAltq,sAlt.length,sAltk⟩ ⟨none,0,0⟩ ⟨sTabsq,sTabs.length,sTabsk⟩) 114],[bx b1 [iv y0.1,iv y0.2.1,iv y0.2.2.1,iv y0.2.2.2.1,bv y0.2.2.2.2] 150]] [1,0] 2 rfl (by decide) rfl [[bx b1 [iv y0.1,iv y0.2.1,iv y0.2.2.1,iv y0.2.2.2.1,bv y0.2.2.2.2] 150],[bx sb (A6 s ⟨sMainq,sMain.length,sMaink⟩ ⟨sAltq,sAlt.length,sAltk⟩ ⟨none,0,0⟩ ⟨sTabsq,sTabs.length,sTabsk⟩) 114]] rfl (by first|rfl|simp)) ?_)
   exact A6w (!(D4 s sMain sAlt sTabs sMain)) hR (mk [true,true] rfl) A4.refl
  refine sr 9 rfl (zrl 6 3 [0] [(40,pt sb 0),(45,.slice sAltq sAlt.length sAltk)] ?_)
  refine it rfl (I1 (L2:=[bx b1 [iv y0.1,iv y0.2.1,iv y0.2.2.1,iv y0.2.2.2.1,bv y0.2.2.2.2] 150]) (A2z s sMain sAlt sTabs sAlt sb sMainq sMainrs sMaink sAltq sAltrs sAltk sTabsq sTabsk sAltq sAltrs sAltk hrowssMainrs (by first|omega|(simp only [List.length_take,List.length_drop,List.length_append,List.length_cons,List.length_nil,List.length_set,List.length_map];omega)|decide) (by first|omega|(simp only [List.length_take,List.length_drop,List.length_append,List.length_cons,List.length_nil,List.length_set,List.length_map];omega)|decide) hrowssAltrs (by first|omega|(simp only [List.length_take,List.length_drop,List.length_append,List.length_cons,List.length_nil,List.length_set,List.length_map];omega)|decide) (by first|omega|(simp only [List.length_take,List.length_drop,List.length_append,List.length_cons,List.length_nil,List.length_set,List.length_map];omega)|decide) (by first|omega|(simp only [List.length_take,List.length_drop,List.length_append,List.length_cons,List.length_nil,List.length_set,List.length_map];omega)|decide) (by first|omega|(simp only [List.length_take,List.length_drop,List.length_append,List.length_cons,List.length_nil,List.length_set,List.length_map];omega)|decide) hrowssAltrs (by first|omega|(simp only [List.length_take,List.length_drop,List.length_append,List.length_cons,List.length_nil,List.length_set,List.length_map];omega)|decide) (by first|omega|(simp only [List.length_take,List.length_drop,List.length_append,List.length_cons,List.length_nil,List.length_set,List.length_map];omega)|decide) _ rfl) rfl rfl rfl rfl rfl (A4.pick [0,1,2,3,4,2,3,5,6] rfl) (H5 [[bx sb (A6 s ⟨sMainq,sMain.length,sMaink⟩ ⟨sAltq,sAlt.length,sAltk⟩ ⟨none,0,0⟩ ⟨sTabsq,sTabs.length,sTabsk⟩) 114],[bx b1 [iv y0.1,iv y0.2.1,iv y0.2.2.1,iv y0.2.2.2.1,bv y0.2.2.2.2] 150]] [0,1] 2 rfl (by decide) rfl [[bx sb (A6 s ⟨sMainq,sMain.length,sMaink⟩ ⟨sAltq,sAlt.length,sAltk⟩ ⟨none,0,0⟩ ⟨sTabsq,sTabs.length,sTabsk⟩) 114],[bx b1 [iv y0.1,iv y0.2.1,iv y0.2.2.1,iv y0.2.2.2.1,bv y0.2.2.2.2] 150]] rfl (by first|rfl|simp only [List.flatten_cons,List.flatten_nil,List.append_nil,List.cons_append,List.nil_append,List.append_assoc])) (fun _=>[bx sb (A6 s ⟨sMainq,sMain.length,sMaink⟩ ⟨sAltq,sAlt.length,sAltk⟩ ⟨none,0,0⟩ ⟨sTabsq,sTabs.length,sTabsk⟩) 114,bx b1 [iv y0.1,iv y0.2.1,iv y0.2.2.1,iv y0.2.2.2.1,bv y0.2.2.2.2] 150]) (fun _=>rfl)) fun _=>?_
  refine ip' 2 0 [(31,bv (!(D4 s sMain sAlt sTabs sAlt)))] ?_
  refine ie ?_
  refine zjb rfl hR ?_ ?_<;>clear hR<;>intro hR h6
  ·refine A5 (Z3 (H5 [[bx sb (A6 s ⟨sMainq,sMain.length,sMaink⟩ ⟨sAltq,sAlt.length,sAltk⟩ ⟨none,0,0⟩ ⟨sTabsq,sTabs.length,sTabsk⟩) 114],[bx b1 [iv y0.1,iv y0.2.1,iv y0.2.2.1,iv y0.2.2.2.1,bv y0.2.2.2.2] 150]] [1,0] 2 rfl (by decide) rfl [[bx b1 [iv y0.1,iv y0.2.1,iv y0.2.2.1,iv y0.2.2.2.1,bv y0.2.2.2.2] 150],[bx sb (A6 s ⟨sMainq,sMain.length,sMaink⟩ ⟨sAltq,sAlt.length,sAltk⟩ ⟨none,0,0⟩ ⟨sTabsq,sTabs.length,sTabsk⟩) 114]] rfl (by first|rfl|simp)) ?_)
   exact A6w (!(D4 s sMain sAlt sTabs sAlt)) hR (mk [true,true] rfl) A4.refl
  refine sd 13 rfl (by kernel_rfl) rfl ?_
  refine zdg 10 3 [0,0] [(52,iv s.cols),(57,.slice none 0 0)] ?_
  refine zcd (B8c s.cols _ rfl) fn0 ?_
  refine dp' 2 0 [(31,bv (!decide ((Y9 s.cols)=0)))] ?_
  refine de ?_
  refine zjn rfl hR ?_ ?_<;>clear hR<;>intro hR h7 h7p
  ·refine A5 (Z3 (H5 [[bx sb (A6 s ⟨sMainq,sMain.length,sMaink⟩ ⟨sAltq,sAlt.length,sAltk⟩ ⟨none,0,0⟩ ⟨sTabsq,sTabs.length,sTabsk⟩) 114],[bx b1 [iv y0.1,iv y0.2.1,iv y0.2.2.1,iv y0.2.2.2.1,bv y0.2.2.2.2] 150]] [1,0] 2 rfl (by decide) rfl [[bx b1 [iv y0.1,iv y0.2.1,iv y0.2.2.1,iv y0.2.2.2.1,bv y0.2.2.2.2] 150],[bx sb (A6 s ⟨sMainq,sMain.length,sMaink⟩ ⟨sAltq,sAlt.length,sAltk⟩ ⟨none,0,0⟩ ⟨sTabsq,sTabs.length,sTabsk⟩) 114]] rfl (by first|rfl|simp)) ?_)
   exact A6w (!decide ((Y9 s.cols)=0)) hR (mk [true,true] rfl) A4.refl
  refine C4y 13 rfl (by kernel_rfl) rfl ?_
  refine zdg 13 0 [0,0] [(31,bv (!decide ((sTabs.length:Int)=s.cols)))] ?_
  refine B3o (Z3 (H5 [[bx sb (A6 s ⟨sMainq,sMain.length,sMaink⟩ ⟨sAltq,sAlt.length,sAltk⟩ ⟨none,0,0⟩ ⟨sTabsq,sTabs.length,sTabsk⟩) 114],[bx b1 [iv y0.1,iv y0.2.1,iv y0.2.2.1,iv y0.2.2.2.1,bv y0.2.2.2.2] 150]] [1,0] 2 rfl (by decide) rfl [[bx b1 [iv y0.1,iv y0.2.1,iv y0.2.2.1,iv y0.2.2.2.1,bv y0.2.2.2.2] 150],[bx sb (A6 s ⟨sMainq,sMain.length,sMaink⟩ ⟨sAltq,sAlt.length,sAltk⟩ ⟨none,0,0⟩ ⟨sTabsq,sTabs.length,sTabsk⟩) 114]] rfl (by first|rfl|simp)) ?_)
  exact A6w (!decide ((sTabs.length:Int)=s.cols)) hR (mk [true,true] rfl) A4.refl
 intro t31
 rintro hR
 replace hR:=(J4.eq_1 ..).symm.trans hR
 refine zjb rfl hR ?_ ?_<;>clear hR<;>intro hR h8
 ·refine sr 1 rfl (ip' 1 0 [(2,bv false)] ?_)
  subst hR
  refine ie (A7 ?_)
  exact zer hr hD (P8 rfl (B2 rfl)) () (mk [false,true] rfl) fn0
 refine C3q (fun (t72:Bool)=>(M9 s t72=R,[(0,pt sb 0),(72,bv t72)],[bx b1 [iv y0.1,iv y0.2.1,iv y0.2.2.1,iv y0.2.2.2.1,bv y0.2.2.2.2] 150,bx sb (A6 s ⟨sMainq,sMain.length,sMaink⟩ ⟨sAltq,sAlt.length,sAltk⟩ ⟨none,0,0⟩ ⟨sTabsq,sTabs.length,sTabsk⟩) 114],[sl B7 sMainq sMainrs,C3 B4 sMainrs sMain,sl B7 sAltq sAltrs,C3 B4 sAltrs sAlt,sl D3 sTabsq sTabs,A3z,A3w])) ?_ ?_
 ·refine sr 8 rfl (zrl 5 3 [1] [(77,ag (G4 s.style))] ?_)
  refine zca (A1g s.style _ rfl) fn0 ?_
  refine ip' 2 0 [(72,bv (!decide ((E7 s.style)=0)))] ?_
  refine ie ?_
  refine zjn rfl hR ?_ ?_<;>clear hR<;>intro hR h9 h9p
  ·refine A5 ?_
   exact A6w (!decide ((E7 s.style)=0)) hR (mk [true,true] rfl) A4.refl
  refine sr 8 rfl (zrl 5 3 [1] [(84,ag (A5p s.sets))] ?_)
  refine zca (B1r s.sets _ rfl) fn0 ?_
  refine ip' 2 0 [(72,bv (!decide ((M1 s.sets)=0)))] ?_
  refine ie ?_
  refine zjn rfl hR ?_ ?_<;>clear hR<;>intro hR h10 h10p
  ·refine A5 ?_
   exact A6w (!decide ((M1 s.sets)=0)) hR (mk [true,true] rfl) A4.refl
  refine A3 8 rfl (zrl 5 3 [1] [(91,ag (A1n s.modes))] ?_)
  refine zca (C1n s.modes _ rfl) fn0 ?_
  refine ip' 2 0 [(72,bv (!decide ((A0o s.modes)=0)))] ?_
  refine A2 ?_
  exact A6w (!decide ((A0o s.modes)=0)) hR (mk [true,true] rfl) A4.refl
 intro t72
 rintro hR
 replace hR:=(M9.eq_1 ..).symm.trans hR
 refine zjb rfl hR ?_ ?_<;>clear hR<;>intro hR h11
 ·refine sr 1 rfl (ip' 1 0 [(2,bv false)] ?_)
  subst hR
  refine ie (A7 ?_)
  exact zer hr hD (P8 rfl (B2 rfl)) () (mk [false,true] rfl) fn0
 refine A1 (sr 7 rfl (zrl 7 0 [1] [(94,bv (decide (s.shape<0)))] ?_))
 refine ie ?_
 refine zjd rfl hR ?_ ?_<;>clear hR<;>intro hR h12 h12p
 ·refine A5 (nx ?_)
  refine zjd rfl hR ?_ ?_<;>clear hR<;>intro hR h13 h13p
  ·refine sr 1 rfl (ip' 1 0 [(2,bv false)] ?_)
   subst hR
   refine ie (A7 ?_)
   exact zer hr hD (P8 rfl (B2 rfl)) () (mk [false,true] rfl) fn0
  refine A5 (nx (sr 16 rfl (zrl 7 9 [1] [(121,bv (decide (s.last=0)))] ?_)))
  refine zir 8 1 121 129 (decide ((0:Int)<(G6 s.last))) (fun g14 g14p=>?_) ?_
  ·refine zrl 5 3 [1] [(126,iv s.last)] ?_
   refine zca (A3h s.last _ rfl) (A4.pick [5,6] rfl) ?_
   refine ip' 2 0 [(129,bv (decide ((0:Int)<(G6 s.last))))] ?_
   exact zai 4 121 129 g14
  refine ip' 1 0 [(2,bv ((decide (s.last=0))||(decide ((0:Int)<(G6 s.last)))))] ?_
  subst hR
  refine ie (A7 ?_)
  exact zer hr hD (P8 rfl (B2 rfl)) () (mk [false,true] rfl) fn0
 refine sr 7 rfl (zrl 7 0 [1] [(94,bv (decide ((6:Int)<s.shape)))] ?_)
 refine ie ?_
 refine zjd rfl hR ?_ ?_<;>clear hR<;>intro hR h15 h15p
 ·refine A5 (nx ?_)
  refine zjd rfl hR ?_ ?_<;>clear hR<;>intro hR h16 h16p
  ·refine sr 1 rfl (ip' 1 0 [(2,bv false)] ?_)
   subst hR
   refine ie (A7 ?_)
   exact zer hr hD (P8 rfl (B2 rfl)) () (mk [false,true] rfl) fn0
  refine A5 (nx (sr 16 rfl (zrl 7 9 [1] [(121,bv (decide (s.last=0)))] ?_)))
  refine zir 8 1 121 129 (decide ((0:Int)<(G6 s.last))) (fun g17 g17p=>?_) ?_
  ·refine zrl 5 3 [1] [(126,iv s.last)] ?_
   refine zca (A3h s.last _ rfl) (A4.pick [5,6] rfl) ?_
   refine ip' 2 0 [(129,bv (decide ((0:Int)<(G6 s.last))))] ?_
   exact zai 4 121 129 g17
  refine ip' 1 0 [(2,bv ((decide (s.last=0))||(decide ((0:Int)<(G6 s.last)))))] ?_
  subst hR
  refine ie (A7 ?_)
  exact zer hr hD (P8 rfl (B2 rfl)) () (mk [false,true] rfl) fn0
 refine A3 9 rfl (zrl 6 3 [1] [(112,ag (F8 ({Act.zero with kind:=44,text:=s.title})))] ?_)
 refine zca (A8x 0 0 Col.zero s.title (by first|omega|(simp only [List.length_nil];omega)) _ rfl) fn0 ?_
 refine ip' 2 0 [(94,bv (!decide ((K4 0 0 Col.zero s.title)=0)))] ?_
 refine A2 (nx ?_)
 refine zjn rfl hR ?_ ?_<;>clear hR<;>intro hR h18 h18p
 ·refine sr 1 rfl (ip' 1 0 [(2,bv false)] ?_)
  subst hR
  refine ie (A7 ?_)
  exact zer hr hD (P8 rfl (B2 rfl)) () (mk [false,true] rfl) fn0
 refine A5 (nx (sr 16 rfl (zrl 7 9 [1] [(121,bv (decide (s.last=0)))] ?_)))
 refine zir 8 1 121 129 (decide ((0:Int)<(G6 s.last))) (fun g19 g19p=>?_) ?_
 ·refine zrl 5 3 [1] [(126,iv s.last)] ?_
  refine zca (A3h s.last _ rfl) (A4.pick [5,6] rfl) ?_
  refine ip' 2 0 [(129,bv (decide ((0:Int)<(G6 s.last))))] ?_
  exact zai 4 121 129 g19
 refine ip' 1 0 [(2,bv ((decide (s.last=0))||(decide ((0:Int)<(G6 s.last)))))] ?_
 subst hR
 refine ie (A7 ?_)
 exact zer hr hD (P8 rfl (B2 rfl)) () (mk [false,true] rfl) fn0
def I7 (s:ScrC) (sMain:List (Rwc Cel)) (sAlt:List (Rwc Cel)) (sTabs:List Bool):Int :=
 (bif (!(L6 s sMain sAlt sTabs)) then 300 else 0)
theorem B3j {s:ScrC} {m a:List (Rwc Cel)} {t:List Bool} (h:I7 s m a t=0):m.length≤100∧a.length≤100:=by
 have hv:L6 s m a t=true:=by
  unfold I7 at h
  cases hx:L6 s m a t with
  | true=>rfl
  | false=>rw [hx] at h;cases h
 have hs:D4 s m a t m=true∧D4 s m a t a=true:=by
  unfold L6 K7 R9 D5 at hv
  revert hv
  cases D4 s m a t m<;>cases D4 s m a t a<;>simp [J4]
 have hg:∀ g:List (Rwc Cel),D4 s m a t g=true→g.length≤100:=fun g hg=>by
  unfold D4 P4 at hg
  simp only [Bool.and_eq_true,decide_eq_true_eq] at hg
  have hg:=hg.1.1
  cases hb:((decide ((g.length:Int)<1))||(decide ((40:Int)<(g.length:Int)))) with
  | true=>rw [hb] at hg;cases hg
  | false=>simp only [Bool.or_eq_false_iff,decide_eq_false_iff_not] at hb;omega
 exact ⟨hg m hs.1,hg a hs.2⟩
theorem A8f (s:ScrC) (sMain:List (Rwc Cel)) (sAlt:List (Rwc Cel)) (sTabs:List Bool) (sMainq:Option Addr) (sMainrs:List Rwq) (sMaink:Nat) (sAltq:Option Addr) (sAltrs:List Rwq) (sAltk:Nat) (sTabsq:Option Addr) (sTabsk:Nat) (hrowssMainrs:C8 sMainrs sMain) (hlsMain:sMain.length≤9223372036854775807) (hcsMain:sMain.length≤sMaink) (hrowssAltrs:C8 sAltrs sAlt) (hlsAlt:sAlt.length≤9223372036854775807) (hcsAlt:sAlt.length≤sAltk) (hlsTabs:sTabs.length≤9223372036854775807) (hcsTabs:sTabs.length≤sTabsk) (hTs:s.title.length≤100000000) (R:Int) (hR:I7 s sMain sAlt sTabs=R):J8 Tryz.prog 30 [ag (A6 s ⟨sMainq,sMain.length,sMaink⟩ ⟨sAltq,sAlt.length,sAltk⟩ ⟨none,0,0⟩ ⟨sTabsq,sTabs.length,sTabsk⟩)] [sl B7 sMainq sMainrs,C3 B4 sMainrs sMain,sl B7 sAltq sAltrs,C3 B4 sAltrs sAlt,sl D3 sTabsq sTabs,A3z,A3w] (iv R):=by
 refine zco Tryz.func30 [(0,ag (A6 s ⟨sMainq,sMain.length,sMaink⟩ ⟨sAltq,sAlt.length,sAltk⟩ ⟨none,0,0⟩ ⟨sTabsq,sTabs.length,sTabsk⟩))] fun X hX hr hD=>?_
 replace hR:=(I7.eq_1 ..).symm.trans hR
 have:=hrowssMainrs.1
 have:=hrowssAltrs.1
 refine sr 2 rfl (K0 2 0 [] (fun b1=>[(1,pt b1 0)]) (fun b1=>[bx b1 (A6 s ⟨sMainq,sMain.length,sMaink⟩ ⟨sAltq,sAlt.length,sAltk⟩ ⟨none,0,0⟩ ⟨sTabsq,sTabs.length,sTabsk⟩) 52]) (fun b1=>?_))
 refine ie (A1 (sr 4 rfl (K0 4 0 [0] (fun b2=>[(3,pt b2 0)]) (fun b2=>[bx b2 (A6 s ⟨sMainq,sMain.length,sMaink⟩ ⟨sAltq,sAlt.length,sAltk⟩ ⟨none,0,0⟩ ⟨sTabsq,sTabs.length,sTabsk⟩) 114,bx b1 (A6 s ⟨sMainq,sMain.length,sMaink⟩ ⟨sAltq,sAlt.length,sAltk⟩ ⟨none,0,0⟩ ⟨sTabsq,sTabs.length,sTabsk⟩) 52]) (fun b2=>?_))))
 refine ie (sr 3 rfl (ip' 1 2 [(7,pt b2 0)] ?_))
 refine it rfl (I1 (L2:=[bx b1 (A6 s ⟨sMainq,sMain.length,sMaink⟩ ⟨sAltq,sAlt.length,sAltk⟩ ⟨none,0,0⟩ ⟨sTabsq,sTabs.length,sTabsk⟩) 52]) (A8m s sMain sAlt sTabs b2 sMainq sMainrs sMaink sAltq sAltrs sAltk sTabsq sTabsk hrowssMainrs (by first|omega|(simp only [List.length_take,List.length_drop,List.length_append,List.length_cons,List.length_nil,List.length_set,List.length_map];omega)|decide) (by first|omega|(simp only [List.length_take,List.length_drop,List.length_append,List.length_cons,List.length_nil,List.length_set,List.length_map];omega)|decide) hrowssAltrs (by first|omega|(simp only [List.length_take,List.length_drop,List.length_append,List.length_cons,List.length_nil,List.length_set,List.length_map];omega)|decide) (by first|omega|(simp only [List.length_take,List.length_drop,List.length_append,List.length_cons,List.length_nil,List.length_set,List.length_map];omega)|decide) (by first|omega|(simp only [List.length_take,List.length_drop,List.length_append,List.length_cons,List.length_nil,List.length_set,List.length_map];omega)|decide) (by first|omega|(simp only [List.length_take,List.length_drop,List.length_append,List.length_cons,List.length_nil,List.length_set,List.length_map];omega)|decide) (by first|omega|(simp only [List.length_nil];omega)|(dsimp only;omega)) _ rfl) rfl rfl rfl rfl rfl A4.refl (H5 [[bx b2 (A6 s ⟨sMainq,sMain.length,sMaink⟩ ⟨sAltq,sAlt.length,sAltk⟩ ⟨none,0,0⟩ ⟨sTabsq,sTabs.length,sTabsk⟩) 114],[bx b1 (A6 s ⟨sMainq,sMain.length,sMaink⟩ ⟨sAltq,sAlt.length,sAltk⟩ ⟨none,0,0⟩ ⟨sTabsq,sTabs.length,sTabsk⟩) 52]] [0,1] 2 rfl (by decide) rfl [[bx b2 (A6 s ⟨sMainq,sMain.length,sMaink⟩ ⟨sAltq,sAlt.length,sAltk⟩ ⟨none,0,0⟩ ⟨sTabsq,sTabs.length,sTabsk⟩) 114],[bx b1 (A6 s ⟨sMainq,sMain.length,sMaink⟩ ⟨sAltq,sAlt.length,sAltk⟩ ⟨none,0,0⟩ ⟨sTabsq,sTabs.length,sTabsk⟩) 52]] rfl (by first|rfl|simp only [List.flatten_cons,List.flatten_nil,List.append_nil,List.cons_append,List.nil_append,List.append_assoc])) (fun _=>[bx b2 (A6 s ⟨sMainq,sMain.length,sMaink⟩ ⟨sAltq,sAlt.length,sAltk⟩ ⟨none,0,0⟩ ⟨sTabsq,sTabs.length,sTabsk⟩) 114,bx b1 (A6 s ⟨sMainq,sMain.length,sMaink⟩ ⟨sAltq,sAlt.length,sAltk⟩ ⟨none,0,0⟩ ⟨sTabsq,sTabs.length,sTabsk⟩) 52]) (fun _=>rfl)) fun _=>?_
 refine ip' 1 0 [(9,bv (!(L6 s sMain sAlt sTabs)))] ?_
 refine ie ?_
 refine zjb rfl hR ?_ ?_<;>clear hR<;>intro hR h3
 ·refine sr 1 rfl (ip' 1 0 [(2,iv 300)] ?_)
  subst hR
  refine ie (A7 ?_)
  exact E6 hr hD
 refine A5 (nx (sr 1 rfl (ip' 1 0 [(2,iv 0)] ?_)))
 subst hR
 refine ie (A7 ?_)
 exact E6 hr hD
def B1:Unit :=
 ()
theorem B5g (R:Unit) (hR:B1=R):J8 Tryz.prog 127 [] [] (.tuple #[.func (.func 128) #[ag (C0 (⟨0,0⟩:Spn))] #[],.func (.func 128) #[ag (C0 (⟨0,1⟩:Spn))] #[],.func (.func 128) #[ag (C0 (⟨1,9999⟩:Spn))] #[],.func (.func 128) #[ag (C0 (⟨0,9999⟩:Spn))] #[]]):=by
 refine zco Tryz.func127 [] fun X hX hr hD=>?_
 replace hR:=(B1.eq_1 ..).symm.trans hR
 refine sr 4 rfl (ip' 4 0 [] ?_)
 refine ie (sr 12 rfl (zrl 12 0 [] [(0,.func (.func 128) #[ag (C0 (⟨0,0⟩:Spn))] #[]),(1,.func (.func 128) #[ag (C0 (⟨0,1⟩:Spn))] #[]),(2,.func (.func 128) #[ag (C0 (⟨1,9999⟩:Spn))] #[]),(3,.func (.func 128) #[ag (C0 (⟨0,9999⟩:Spn))] #[])] ?_))
 subst hR
 refine ie (A7 ?_)
 exact zer hr hD (D6o rfl (B2 rfl) (B2 rfl) (B2 rfl) (B2 rfl)) () (mk [] rfl) fn0
def me0:Value:=ag [.func (.func 128) #[ag (C0 (⟨0,3⟩:Spn))] #[],.func (.func 128) #[ag (C0 (⟨0,1⟩:Spn))] #[]]
def mt0:List (Int×Value):=[(17,me0)]
def me1:Value:=ag [.func (.func 128) #[ag (C0 (⟨2,3⟩:Spn))] #[],.func (.func 128) #[ag (C0 (⟨0,0⟩:Spn))] #[]]
def mt1:List (Int×Value):=[(17,me0),(18,me1)]
def me2:Value:=ag [.func (.func 128) #[ag (C0 (⟨1,9999⟩:Spn))] #[],.func (.func 128) #[ag (C0 (⟨1,9999⟩:Spn))] #[]]
def mt2:List (Int×Value):=[(17,me0),(18,me1),(19,me2)]
def me3:Value:=ag [.func (.func 128) #[ag (C0 (⟨0,3⟩:Spn))] #[],.func (.func 128) #[ag (C0 (⟨1,9999⟩:Spn))] #[]]
def mt3:List (Int×Value):=[(17,me0),(18,me1),(19,me2),(20,me3)]
def me4:Value:=ag [.func (.func 128) #[ag (C0 (⟨0,3⟩:Spn))] #[],.func (.func 128) #[ag (C0 (⟨0,0⟩:Spn))] #[]]
def mt4:List (Int×Value):=[(17,me0),(18,me1),(19,me2),(20,me3),(26,me4)]
def me5:Value:=ag [.func (.func 128) #[ag (C0 (⟨0,2⟩:Spn))] #[],.func (.func 128) #[ag (C0 (⟨0,0⟩:Spn))] #[]]
def mt5:List (Int×Value):=[(17,me0),(18,me1),(19,me2),(20,me3),(26,me4),(27,me5)]
def me6:Value:=ag [.func (.func 129) #[] #[],.func (.func 128) #[ag (C0 (⟨0,0⟩:Spn))] #[]]
def mt6:List (Int×Value):=[(17,me0),(18,me1),(19,me2),(20,me3),(26,me4),(27,me5),(35,me6)]
def me7:Value:=ag [.func (.func 128) #[ag (C0 (⟨0,9999⟩:Spn))] #[],.func (.func 128) #[ag (C0 (⟨0,9999⟩:Spn))] #[]]
def mt7:List (Int×Value):=[(17,me0),(18,me1),(19,me2),(20,me3),(26,me4),(27,me5),(35,me6),(38,me7)]
def me8:Value:=ag [.func (.func 128) #[ag (C0 (⟨0,6⟩:Spn))] #[],.func (.func 128) #[ag (C0 (⟨0,0⟩:Spn))] #[]]
def mt8:List (Int×Value):=[(17,me0),(18,me1),(19,me2),(20,me3),(26,me4),(27,me5),(35,me6),(38,me7),(40,me8)]
def me9:Value:=ag [.func (.func 128) #[ag (C0 (⟨5,6⟩:Spn))] #[],.func (.func 128) #[ag (C0 (⟨0,0⟩:Spn))] #[]]
def mt9:List (Int×Value):=[(17,me0),(18,me1),(19,me2),(20,me3),(26,me4),(27,me5),(35,me6),(38,me7),(40,me8),(41,me9)]
def A1k:Value:=ag [.func (.func 128) #[ag (C0 (⟨0,0⟩:Spn))] #[],.func (.func 128) #[ag (C0 (⟨0,0⟩:Spn))] #[]]
def D3g:List (Int×Value):=[(17,me0),(18,me1),(19,me2),(20,me3),(26,me4),(27,me5),(35,me6),(38,me7),(40,me8),(41,me9),(2,A1k)]
def A2e:Value:=ag [.func (.func 128) #[ag (C0 (⟨0,0⟩:Spn))] #[],.func (.func 128) #[ag (C0 (⟨0,0⟩:Spn))] #[]]
def D3o:List (Int×Value):=[(17,me0),(18,me1),(19,me2),(20,me3),(26,me4),(27,me5),(35,me6),(38,me7),(40,me8),(41,me9),(2,A1k),(3,A2e)]
def A2u:Value:=ag [.func (.func 128) #[ag (C0 (⟨0,0⟩:Spn))] #[],.func (.func 128) #[ag (C0 (⟨0,0⟩:Spn))] #[]]
def D3x:List (Int×Value):=[(17,me0),(18,me1),(19,me2),(20,me3),(26,me4),(27,me5),(35,me6),(38,me7),(40,me8),(41,me9),(2,A1k),(3,A2e),(4,A2u)]
def A2x:Value:=ag [.func (.func 128) #[ag (C0 (⟨0,0⟩:Spn))] #[],.func (.func 128) #[ag (C0 (⟨0,0⟩:Spn))] #[]]
def D3y:List (Int×Value):=[(17,me0),(18,me1),(19,me2),(20,me3),(26,me4),(27,me5),(35,me6),(38,me7),(40,me8),(41,me9),(2,A1k),(3,A2e),(4,A2u),(5,A2x)]
def A3p:Value:=ag [.func (.func 128) #[ag (C0 (⟨0,0⟩:Spn))] #[],.func (.func 128) #[ag (C0 (⟨0,0⟩:Spn))] #[]]
def D3k:List (Int×Value):=[(17,me0),(18,me1),(19,me2),(20,me3),(26,me4),(27,me5),(35,me6),(38,me7),(40,me8),(41,me9),(2,A1k),(3,A2e),(4,A2u),(5,A2x),(6,A3p)]
def A4d:Value:=ag [.func (.func 128) #[ag (C0 (⟨0,0⟩:Spn))] #[],.func (.func 128) #[ag (C0 (⟨0,0⟩:Spn))] #[]]
def D3b:List (Int×Value):=[(17,me0),(18,me1),(19,me2),(20,me3),(26,me4),(27,me5),(35,me6),(38,me7),(40,me8),(41,me9),(2,A1k),(3,A2e),(4,A2u),(5,A2x),(6,A3p),(8,A4d)]
def A4h:Value:=ag [.func (.func 128) #[ag (C0 (⟨0,0⟩:Spn))] #[],.func (.func 128) #[ag (C0 (⟨0,0⟩:Spn))] #[]]
def D4a:List (Int×Value):=[(17,me0),(18,me1),(19,me2),(20,me3),(26,me4),(27,me5),(35,me6),(38,me7),(40,me8),(41,me9),(2,A1k),(3,A2e),(4,A2u),(5,A2x),(6,A3p),(8,A4d),(9,A4h)]
def A4q:Value:=ag [.func (.func 128) #[ag (C0 (⟨0,0⟩:Spn))] #[],.func (.func 128) #[ag (C0 (⟨0,0⟩:Spn))] #[]]
def D3z:List (Int×Value):=[(17,me0),(18,me1),(19,me2),(20,me3),(26,me4),(27,me5),(35,me6),(38,me7),(40,me8),(41,me9),(2,A1k),(3,A2e),(4,A2u),(5,A2x),(6,A3p),(8,A4d),(9,A4h),(10,A4q)]
def A5j:Value:=ag [.func (.func 128) #[ag (C0 (⟨0,0⟩:Spn))] #[],.func (.func 128) #[ag (C0 (⟨0,0⟩:Spn))] #[]]
def D2u:List (Int×Value):=[(17,me0),(18,me1),(19,me2),(20,me3),(26,me4),(27,me5),(35,me6),(38,me7),(40,me8),(41,me9),(2,A1k),(3,A2e),(4,A2u),(5,A2x),(6,A3p),(8,A4d),(9,A4h),(10,A4q),(11,A5j)]
def A5t:Value:=ag [.func (.func 128) #[ag (C0 (⟨0,0⟩:Spn))] #[],.func (.func 128) #[ag (C0 (⟨0,0⟩:Spn))] #[]]
def D4b:List (Int×Value):=[(17,me0),(18,me1),(19,me2),(20,me3),(26,me4),(27,me5),(35,me6),(38,me7),(40,me8),(41,me9),(2,A1k),(3,A2e),(4,A2u),(5,A2x),(6,A3p),(8,A4d),(9,A4h),(10,A4q),(11,A5j),(12,A5t)]
def A6g:Value:=ag [.func (.func 128) #[ag (C0 (⟨0,0⟩:Spn))] #[],.func (.func 128) #[ag (C0 (⟨0,0⟩:Spn))] #[]]
def D3m:List (Int×Value):=[(17,me0),(18,me1),(19,me2),(20,me3),(26,me4),(27,me5),(35,me6),(38,me7),(40,me8),(41,me9),(2,A1k),(3,A2e),(4,A2u),(5,A2x),(6,A3p),(8,A4d),(9,A4h),(10,A4q),(11,A5j),(12,A5t),(13,A6g)]
def A6u:Value:=ag [.func (.func 128) #[ag (C0 (⟨0,0⟩:Spn))] #[],.func (.func 128) #[ag (C0 (⟨0,0⟩:Spn))] #[]]
def D2p:List (Int×Value):=[(17,me0),(18,me1),(19,me2),(20,me3),(26,me4),(27,me5),(35,me6),(38,me7),(40,me8),(41,me9),(2,A1k),(3,A2e),(4,A2u),(5,A2x),(6,A3p),(8,A4d),(9,A4h),(10,A4q),(11,A5j),(12,A5t),(13,A6g),(15,A6u)]
def A8d:Value:=ag [.func (.func 128) #[ag (C0 (⟨0,0⟩:Spn))] #[],.func (.func 128) #[ag (C0 (⟨0,0⟩:Spn))] #[]]
def D2n:List (Int×Value):=[(17,me0),(18,me1),(19,me2),(20,me3),(26,me4),(27,me5),(35,me6),(38,me7),(40,me8),(41,me9),(2,A1k),(3,A2e),(4,A2u),(5,A2x),(6,A3p),(8,A4d),(9,A4h),(10,A4q),(11,A5j),(12,A5t),(13,A6g),(15,A6u),(16,A8d)]
def A8j:Value:=ag [.func (.func 128) #[ag (C0 (⟨0,1⟩:Spn))] #[],.func (.func 128) #[ag (C0 (⟨0,0⟩:Spn))] #[]]
def D4i:List (Int×Value):=[(17,me0),(18,me1),(19,me2),(20,me3),(26,me4),(27,me5),(35,me6),(38,me7),(40,me8),(41,me9),(2,A1k),(3,A2e),(4,A2u),(5,A2x),(6,A3p),(8,A4d),(9,A4h),(10,A4q),(11,A5j),(12,A5t),(13,A6g),(15,A6u),(16,A8d),(7,A8j)]
def A9e:Value:=ag [.func (.func 128) #[ag (C0 (⟨0,1⟩:Spn))] #[],.func (.func 128) #[ag (C0 (⟨0,0⟩:Spn))] #[]]
def D4h:List (Int×Value):=[(17,me0),(18,me1),(19,me2),(20,me3),(26,me4),(27,me5),(35,me6),(38,me7),(40,me8),(41,me9),(2,A1k),(3,A2e),(4,A2u),(5,A2x),(6,A3p),(8,A4d),(9,A4h),(10,A4q),(11,A5j),(12,A5t),(13,A6g),(15,A6u),(16,A8d),(7,A8j),(14,A9e)]
def B0e:Value:=ag [.func (.func 128) #[ag (C0 (⟨0,1⟩:Spn))] #[],.func (.func 128) #[ag (C0 (⟨0,0⟩:Spn))] #[]]
def D2k:List (Int×Value):=[(17,me0),(18,me1),(19,me2),(20,me3),(26,me4),(27,me5),(35,me6),(38,me7),(40,me8),(41,me9),(2,A1k),(3,A2e),(4,A2u),(5,A2x),(6,A3p),(8,A4d),(9,A4h),(10,A4q),(11,A5j),(12,A5t),(13,A6g),(15,A6u),(16,A8d),(7,A8j),(14,A9e),(42,B0e)]
def B1f:Value:=ag [.func (.func 128) #[ag (C0 (⟨0,1⟩:Spn))] #[],.func (.func 128) #[ag (C0 (⟨1,9999⟩:Spn))] #[]]
def D2o:List (Int×Value):=[(17,me0),(18,me1),(19,me2),(20,me3),(26,me4),(27,me5),(35,me6),(38,me7),(40,me8),(41,me9),(2,A1k),(3,A2e),(4,A2u),(5,A2x),(6,A3p),(8,A4d),(9,A4h),(10,A4q),(11,A5j),(12,A5t),(13,A6g),(15,A6u),(16,A8d),(7,A8j),(14,A9e),(42,B0e),(21,B1f)]
def B2v:Value:=ag [.func (.func 128) #[ag (C0 (⟨0,1⟩:Spn))] #[],.func (.func 128) #[ag (C0 (⟨1,9999⟩:Spn))] #[]]
def D3w:List (Int×Value):=[(17,me0),(18,me1),(19,me2),(20,me3),(26,me4),(27,me5),(35,me6),(38,me7),(40,me8),(41,me9),(2,A1k),(3,A2e),(4,A2u),(5,A2x),(6,A3p),(8,A4d),(9,A4h),(10,A4q),(11,A5j),(12,A5t),(13,A6g),(15,A6u),(16,A8d),(7,A8j),(14,A9e),(42,B0e),(21,B1f),(33,B2v)]
def B3m:Value:=ag [.func (.func 128) #[ag (C0 (⟨1,9999⟩:Spn))] #[],.func (.func 128) #[ag (C0 (⟨0,0⟩:Spn))] #[]]
def D3h:List (Int×Value):=[(17,me0),(18,me1),(19,me2),(20,me3),(26,me4),(27,me5),(35,me6),(38,me7),(40,me8),(41,me9),(2,A1k),(3,A2e),(4,A2u),(5,A2x),(6,A3p),(8,A4d),(9,A4h),(10,A4q),(11,A5j),(12,A5t),(13,A6g),(15,A6u),(16,A8d),(7,A8j),(14,A9e),(42,B0e),(21,B1f),(33,B2v),(22,B3m)]
def B4t:Value:=ag [.func (.func 128) #[ag (C0 (⟨1,9999⟩:Spn))] #[],.func (.func 128) #[ag (C0 (⟨0,0⟩:Spn))] #[]]
def D4k:List (Int×Value):=[(17,me0),(18,me1),(19,me2),(20,me3),(26,me4),(27,me5),(35,me6),(38,me7),(40,me8),(41,me9),(2,A1k),(3,A2e),(4,A2u),(5,A2x),(6,A3p),(8,A4d),(9,A4h),(10,A4q),(11,A5j),(12,A5t),(13,A6g),(15,A6u),(16,A8d),(7,A8j),(14,A9e),(42,B0e),(21,B1f),(33,B2v),(22,B3m),(23,B4t)]
def B6e:Value:=ag [.func (.func 128) #[ag (C0 (⟨1,9999⟩:Spn))] #[],.func (.func 128) #[ag (C0 (⟨0,0⟩:Spn))] #[]]
def D2q:List (Int×Value):=[(17,me0),(18,me1),(19,me2),(20,me3),(26,me4),(27,me5),(35,me6),(38,me7),(40,me8),(41,me9),(2,A1k),(3,A2e),(4,A2u),(5,A2x),(6,A3p),(8,A4d),(9,A4h),(10,A4q),(11,A5j),(12,A5t),(13,A6g),(15,A6u),(16,A8d),(7,A8j),(14,A9e),(42,B0e),(21,B1f),(33,B2v),(22,B3m),(23,B4t),(24,B6e)]
def B8q:Value:=ag [.func (.func 128) #[ag (C0 (⟨1,9999⟩:Spn))] #[],.func (.func 128) #[ag (C0 (⟨0,0⟩:Spn))] #[]]
def D2v:List (Int×Value):=[(17,me0),(18,me1),(19,me2),(20,me3),(26,me4),(27,me5),(35,me6),(38,me7),(40,me8),(41,me9),(2,A1k),(3,A2e),(4,A2u),(5,A2x),(6,A3p),(8,A4d),(9,A4h),(10,A4q),(11,A5j),(12,A5t),(13,A6g),(15,A6u),(16,A8d),(7,A8j),(14,A9e),(42,B0e),(21,B1f),(33,B2v),(22,B3m),(23,B4t),(24,B6e),(25,B8q)]
def B9z:Value:=ag [.func (.func 128) #[ag (C0 (⟨1,9999⟩:Spn))] #[],.func (.func 128) #[ag (C0 (⟨0,0⟩:Spn))] #[]]
def D4g:List (Int×Value):=[(17,me0),(18,me1),(19,me2),(20,me3),(26,me4),(27,me5),(35,me6),(38,me7),(40,me8),(41,me9),(2,A1k),(3,A2e),(4,A2u),(5,A2x),(6,A3p),(8,A4d),(9,A4h),(10,A4q),(11,A5j),(12,A5t),(13,A6g),(15,A6u),(16,A8d),(7,A8j),(14,A9e),(42,B0e),(21,B1f),(33,B2v),(22,B3m),(23,B4t),(24,B6e),(25,B8q),(28,B9z)]
def C2l:Value:=ag [.func (.func 128) #[ag (C0 (⟨1,9999⟩:Spn))] #[],.func (.func 128) #[ag (C0 (⟨0,0⟩:Spn))] #[]]
def D3t:List (Int×Value):=[(17,me0),(18,me1),(19,me2),(20,me3),(26,me4),(27,me5),(35,me6),(38,me7),(40,me8),(41,me9),(2,A1k),(3,A2e),(4,A2u),(5,A2x),(6,A3p),(8,A4d),(9,A4h),(10,A4q),(11,A5j),(12,A5t),(13,A6g),(15,A6u),(16,A8d),(7,A8j),(14,A9e),(42,B0e),(21,B1f),(33,B2v),(22,B3m),(23,B4t),(24,B6e),(25,B8q),(28,B9z),(29,C2l)]
def C4r:Value:=ag [.func (.func 128) #[ag (C0 (⟨1,9999⟩:Spn))] #[],.func (.func 128) #[ag (C0 (⟨0,0⟩:Spn))] #[]]
def D2j:List (Int×Value):=[(17,me0),(18,me1),(19,me2),(20,me3),(26,me4),(27,me5),(35,me6),(38,me7),(40,me8),(41,me9),(2,A1k),(3,A2e),(4,A2u),(5,A2x),(6,A3p),(8,A4d),(9,A4h),(10,A4q),(11,A5j),(12,A5t),(13,A6g),(15,A6u),(16,A8d),(7,A8j),(14,A9e),(42,B0e),(21,B1f),(33,B2v),(22,B3m),(23,B4t),(24,B6e),(25,B8q),(28,B9z),(29,C2l),(30,C4r)]
def C6w:Value:=ag [.func (.func 128) #[ag (C0 (⟨1,9999⟩:Spn))] #[],.func (.func 128) #[ag (C0 (⟨0,0⟩:Spn))] #[]]
def D2h:List (Int×Value):=[(17,me0),(18,me1),(19,me2),(20,me3),(26,me4),(27,me5),(35,me6),(38,me7),(40,me8),(41,me9),(2,A1k),(3,A2e),(4,A2u),(5,A2x),(6,A3p),(8,A4d),(9,A4h),(10,A4q),(11,A5j),(12,A5t),(13,A6g),(15,A6u),(16,A8d),(7,A8j),(14,A9e),(42,B0e),(21,B1f),(33,B2v),(22,B3m),(23,B4t),(24,B6e),(25,B8q),(28,B9z),(29,C2l),(30,C4r),(31,C6w)]
def C9y:Value:=ag [.func (.func 128) #[ag (C0 (⟨1,9999⟩:Spn))] #[],.func (.func 128) #[ag (C0 (⟨0,0⟩:Spn))] #[]]
def D3d:List (Int×Value):=[(17,me0),(18,me1),(19,me2),(20,me3),(26,me4),(27,me5),(35,me6),(38,me7),(40,me8),(41,me9),(2,A1k),(3,A2e),(4,A2u),(5,A2x),(6,A3p),(8,A4d),(9,A4h),(10,A4q),(11,A5j),(12,A5t),(13,A6g),(15,A6u),(16,A8d),(7,A8j),(14,A9e),(42,B0e),(21,B1f),(33,B2v),(22,B3m),(23,B4t),(24,B6e),(25,B8q),(28,B9z),(29,C2l),(30,C4r),(31,C6w),(32,C9y)]
def D1j:Value:=ag [.func (.func 128) #[ag (C0 (⟨1,9999⟩:Spn))] #[],.func (.func 128) #[ag (C0 (⟨0,0⟩:Spn))] #[]]
def D2l:List (Int×Value):=[(17,me0),(18,me1),(19,me2),(20,me3),(26,me4),(27,me5),(35,me6),(38,me7),(40,me8),(41,me9),(2,A1k),(3,A2e),(4,A2u),(5,A2x),(6,A3p),(8,A4d),(9,A4h),(10,A4q),(11,A5j),(12,A5t),(13,A6g),(15,A6u),(16,A8d),(7,A8j),(14,A9e),(42,B0e),(21,B1f),(33,B2v),(22,B3m),(23,B4t),(24,B6e),(25,B8q),(28,B9z),(29,C2l),(30,C4r),(31,C6w),(32,C9y),(34,D1j)]
def D2i:Value:=ag [.func (.func 128) #[ag (C0 (⟨0,9999⟩:Spn))] #[],.func (.func 128) #[ag (C0 (⟨0,1⟩:Spn))] #[]]
def D2t:List (Int×Value):=[(17,me0),(18,me1),(19,me2),(20,me3),(26,me4),(27,me5),(35,me6),(38,me7),(40,me8),(41,me9),(2,A1k),(3,A2e),(4,A2u),(5,A2x),(6,A3p),(8,A4d),(9,A4h),(10,A4q),(11,A5j),(12,A5t),(13,A6g),(15,A6u),(16,A8d),(7,A8j),(14,A9e),(42,B0e),(21,B1f),(33,B2v),(22,B3m),(23,B4t),(24,B6e),(25,B8q),(28,B9z),(29,C2l),(30,C4r),(31,C6w),(32,C9y),(34,D1j),(36,D2i)]
def D5l:Value:=ag [.func (.func 128) #[ag (C0 (⟨0,9999⟩:Spn))] #[],.func (.func 128) #[ag (C0 (⟨0,1⟩:Spn))] #[]]
def D2r:List (Int×Value):=[(17,me0),(18,me1),(19,me2),(20,me3),(26,me4),(27,me5),(35,me6),(38,me7),(40,me8),(41,me9),(2,A1k),(3,A2e),(4,A2u),(5,A2x),(6,A3p),(8,A4d),(9,A4h),(10,A4q),(11,A5j),(12,A5t),(13,A6g),(15,A6u),(16,A8d),(7,A8j),(14,A9e),(42,B0e),(21,B1f),(33,B2v),(22,B3m),(23,B4t),(24,B6e),(25,B8q),(28,B9z),(29,C2l),(30,C4r),(31,C6w),(32,C9y),(34,D1j),(36,D2i),(37,D5l)]
def D6n:Value:=ag [.func (.func 128) #[ag (C0 (⟨0,9999⟩:Spn))] #[],.func (.func 128) #[ag (C0 (⟨0,1⟩:Spn))] #[]]
def C9k:List (Int×Value):=[(17,me0),(18,me1),(19,me2),(20,me3),(26,me4),(27,me5),(35,me6),(38,me7),(40,me8),(41,me9),(2,A1k),(3,A2e),(4,A2u),(5,A2x),(6,A3p),(8,A4d),(9,A4h),(10,A4q),(11,A5j),(12,A5t),(13,A6g),(15,A6u),(16,A8d),(7,A8j),(14,A9e),(42,B0e),(21,B1f),(33,B2v),(22,B3m),(23,B4t),(24,B6e),(25,B8q),(28,B9z),(29,C2l),(30,C4r),(31,C6w),(32,C9y),(34,D1j),(36,D2i),(37,D5l),(43,D6n)]
def A8:Unit :=
 ()
set_option maxHeartbeats 2000000 in
theorem A6v (R:Unit) (hR:A8=R):Con Tryz.prog 73 [] [] [] (Nat) (fun x=>.map (some x)) (fun x=>[(x,.map (B9 C9k 0).toArray 41)]) (fun x=>[]):=by
 refine zco Tryz.func73 [] fun X hX hr hD=>?_
 replace hR:=(A8.eq_1 ..).symm.trans hR
 refine sr 1 rfl (ip' 1 0 [] ?_)
 refine ie (sr 10 rfl (zca (B5g _ rfl) fn0 ?_))
 refine ip' 9 0 [(1,.func (.func 128) #[ag (C0 (⟨0,0⟩:Spn))] #[]),(2,.func (.func 128) #[ag (C0 (⟨0,1⟩:Spn))] #[]),(3,.func (.func 128) #[ag (C0 (⟨1,9999⟩:Spn))] #[]),(4,.func (.func 128) #[ag (C0 (⟨0,9999⟩:Spn))] #[])] ?_
 refine ie (sr 49 rfl (it rfl (A9c rfl) fun b1=>?_))
 refine zrl 4 44 [] [(26,ag [.func (.func 128) #[ag (C0 (⟨0,3⟩:Spn))] #[],.func (.func 128) #[ag (C0 (⟨0,1⟩:Spn))] #[]])] ?_
 refine it rfl (E2 (es:=#[]) (es':=(B9 mt0 0).toArray) J3 (.inl rfl) rfl rfl rfl 0 rfl (by kernel_rfl) (by kernel_rfl)) fun _=>?_
 refine znl [(b1,.map (B9 mt0 0).toArray 1)] ?_
 refine zrl 4 39 [] [(30,ag [.func (.func 128) #[ag (C0 (⟨2,3⟩:Spn))] #[],.func (.func 128) #[ag (C0 (⟨0,0⟩:Spn))] #[]])] ?_
 refine it rfl (E2 (es:=(B9 mt0 0).toArray) (es':=(B9 mt1 0).toArray) J3 (.inl rfl) rfl rfl rfl 0 rfl (by kernel_rfl) (by kernel_rfl)) fun _=>?_
 refine znl [(b1,.map (B9 mt1 0).toArray 2)] ?_
 refine zrl 3 35 [] [(33,ag [.func (.func 128) #[ag (C0 (⟨1,9999⟩:Spn))] #[],.func (.func 128) #[ag (C0 (⟨1,9999⟩:Spn))] #[]])] ?_
 refine it rfl (E2 (es:=(B9 mt1 0).toArray) (es':=(B9 mt2 0).toArray) J3 (.inl rfl) rfl rfl rfl 0 rfl (by kernel_rfl) (by kernel_rfl)) fun _=>?_
 refine znl [(b1,.map (B9 mt2 0).toArray 3)] ?_
 refine zrl 4 30 [] [(37,ag [.func (.func 128) #[ag (C0 (⟨0,3⟩:Spn))] #[],.func (.func 128) #[ag (C0 (⟨1,9999⟩:Spn))] #[]])] ?_
 refine it rfl (E2 (es:=(B9 mt2 0).toArray) (es':=(B9 mt3 0).toArray) J3 (.inl rfl) rfl rfl rfl 0 rfl (by kernel_rfl) (by kernel_rfl)) fun _=>?_
 refine znl [(b1,.map (B9 mt3 0).toArray 4)] ?_
 refine zrl 4 25 [] [(41,ag [.func (.func 128) #[ag (C0 (⟨0,3⟩:Spn))] #[],.func (.func 128) #[ag (C0 (⟨0,0⟩:Spn))] #[]])] ?_
 refine it rfl (E2 (es:=(B9 mt3 0).toArray) (es':=(B9 mt4 0).toArray) J3 (.inl rfl) rfl rfl rfl 0 rfl (by kernel_rfl) (by kernel_rfl)) fun _=>?_
 refine znl [(b1,.map (B9 mt4 0).toArray 5)] ?_
 refine zrl 4 20 [] [(45,ag [.func (.func 128) #[ag (C0 (⟨0,2⟩:Spn))] #[],.func (.func 128) #[ag (C0 (⟨0,0⟩:Spn))] #[]])] ?_
 refine it rfl (E2 (es:=(B9 mt4 0).toArray) (es':=(B9 mt5 0).toArray) J3 (.inl rfl) rfl rfl rfl 0 rfl (by kernel_rfl) (by kernel_rfl)) fun _=>?_
 refine znl [(b1,.map (B9 mt5 0).toArray 6)] ?_
 refine zrl 2 17 [] [(47,ag [.func (.func 129) #[] #[],.func (.func 128) #[ag (C0 (⟨0,0⟩:Spn))] #[]])] ?_
 refine it rfl (E2 (es:=(B9 mt5 0).toArray) (es':=(B9 mt6 0).toArray) J3 (.inl rfl) rfl rfl rfl 0 rfl (by kernel_rfl) (by kernel_rfl)) fun _=>?_
 refine znl [(b1,.map (B9 mt6 0).toArray 7)] ?_
 refine zrl 3 13 [] [(50,ag [.func (.func 128) #[ag (C0 (⟨0,9999⟩:Spn))] #[],.func (.func 128) #[ag (C0 (⟨0,9999⟩:Spn))] #[]])] ?_
 refine it rfl (E2 (es:=(B9 mt6 0).toArray) (es':=(B9 mt7 0).toArray) J3 (.inl rfl) rfl rfl rfl 0 rfl (by kernel_rfl) (by kernel_rfl)) fun _=>?_
 refine znl [(b1,.map (B9 mt7 0).toArray 8)] ?_
 refine zrl 4 8 [] [(54,ag [.func (.func 128) #[ag (C0 (⟨0,6⟩:Spn))] #[],.func (.func 128) #[ag (C0 (⟨0,0⟩:Spn))] #[]])] ?_
 refine it rfl (E2 (es:=(B9 mt7 0).toArray) (es':=(B9 mt8 0).toArray) J3 (.inl rfl) rfl rfl rfl 0 rfl (by kernel_rfl) (by kernel_rfl)) fun _=>?_
 refine znl [(b1,.map (B9 mt8 0).toArray 9)] ?_
 refine zrl 4 3 [] [(58,ag [.func (.func 128) #[ag (C0 (⟨5,6⟩:Spn))] #[],.func (.func 128) #[ag (C0 (⟨0,0⟩:Spn))] #[]])] ?_
 refine it rfl (E2 (es:=(B9 mt8 0).toArray) (es':=(B9 mt9 0).toArray) J3 (.inl rfl) rfl rfl rfl 0 rfl (by kernel_rfl) (by kernel_rfl)) fun _=>?_
 refine znl [(b1,.map (B9 mt9 0).toArray 10)] ?_
 refine ip' 2 0 [(5,.map (some b1))] ?_
 refine ie (A1 (sr 2 rfl (zrl 2 0 [] [(60,ag [iv 2,iv 3,iv 4,iv 5,iv 6,iv 8,iv 9,iv 10,iv 11,iv 12,iv 13,iv 15,iv 16]),(61,iv 0)] ?_)))
 refine ie (B0 (R8 15 ?_))
 refine E5 (sr 1 rfl (ip' 1 0 [(62,bv true)] ?_))
 refine ie (A1 (H7 rfl (A5 (nx (A1 (B0 (sr 2 rfl (ix rfl (E8 (v:=iv 2) (us:=[iv 2]) Tryz.underlying186 ty3 rfl rfl rfl 0 rfl (by decide) rfl rfl rfl) ?_))))))))
 refine ip' 1 0 [(7,iv 2)] ?_
 refine ie (A3 6 rfl (zrl 5 1 [] [(64,.map (some b1)),(65,iv 2),(68,ag [.func (.func 128) #[ag (C0 (⟨0,0⟩:Spn))] #[],.func (.func 128) #[ag (C0 (⟨0,0⟩:Spn))] #[]])] ?_))
 refine it rfl (E2 (es:=(B9 mt9 0).toArray) (es':=(B9 D3g 0).toArray) J3 (.inr rfl) rfl rfl rfl 0 rfl (by kernel_rfl) (by kernel_rfl)) fun _=>?_
 refine znl [(b1,.map (B9 D3g 0).toArray 11)] ?_
 refine A2 (nx (A3 2 rfl (ix rfl (B3 (c:=1) rfl rfl rfl rfl (by decide)) ?_)))
 refine ip' 1 0 [(61,iv 1)] ?_
 refine A2 (E5 (sr 1 rfl (ip' 1 0 [(62,bv true)] ?_)))
 refine ie (A1 (H7 rfl (A5 (nx (A1 (B0 (sr 2 rfl (ix rfl (E8 (v:=iv 3) (us:=[iv 3]) Tryz.underlying186 ty3 rfl rfl rfl 1 rfl (by decide) rfl rfl rfl) ?_))))))))
 refine ip' 1 0 [(7,iv 3)] ?_
 refine ie (A3 6 rfl (zrl 5 1 [] [(64,.map (some b1)),(65,iv 3),(68,ag [.func (.func 128) #[ag (C0 (⟨0,0⟩:Spn))] #[],.func (.func 128) #[ag (C0 (⟨0,0⟩:Spn))] #[]])] ?_))
 refine it rfl (E2 (es:=(B9 D3g 0).toArray) (es':=(B9 D3o 0).toArray) J3 (.inr rfl) rfl rfl rfl 0 rfl (by kernel_rfl) (by kernel_rfl)) fun _=>?_
 refine znl [(b1,.map (B9 D3o 0).toArray 12)] ?_
 refine A2 (nx (A3 2 rfl (ix rfl (B3 (c:=2) rfl rfl rfl rfl (by decide)) ?_)))
 refine ip' 1 0 [(61,iv 2)] ?_
 refine A2 (E5 (sr 1 rfl (ip' 1 0 [(62,bv true)] ?_)))
 refine ie (A1 (H7 rfl (A5 (nx (A1 (B0 (sr 2 rfl (ix rfl (E8 (v:=iv 4) (us:=[iv 4]) Tryz.underlying186 ty3 rfl rfl rfl 2 rfl (by decide) rfl rfl rfl) ?_))))))))
 refine ip' 1 0 [(7,iv 4)] ?_
 refine ie (A3 6 rfl (zrl 5 1 [] [(64,.map (some b1)),(65,iv 4),(68,ag [.func (.func 128) #[ag (C0 (⟨0,0⟩:Spn))] #[],.func (.func 128) #[ag (C0 (⟨0,0⟩:Spn))] #[]])] ?_))
 refine it rfl (E2 (es:=(B9 D3o 0).toArray) (es':=(B9 D3x 0).toArray) J3 (.inr rfl) rfl rfl rfl 0 rfl (by kernel_rfl) (by kernel_rfl)) fun _=>?_
 refine znl [(b1,.map (B9 D3x 0).toArray 13)] ?_
 refine A2 (nx (A3 2 rfl (ix rfl (B3 (c:=3) rfl rfl rfl rfl (by decide)) ?_)))
 refine ip' 1 0 [(61,iv 3)] ?_
 refine A2 (E5 (sr 1 rfl (ip' 1 0 [(62,bv true)] ?_)))
 refine ie (A1 (H7 rfl (A5 (nx (A1 (B0 (sr 2 rfl (ix rfl (E8 (v:=iv 5) (us:=[iv 5]) Tryz.underlying186 ty3 rfl rfl rfl 3 rfl (by decide) rfl rfl rfl) ?_))))))))
 refine ip' 1 0 [(7,iv 5)] ?_
 refine ie (A3 6 rfl (zrl 5 1 [] [(64,.map (some b1)),(65,iv 5),(68,ag [.func (.func 128) #[ag (C0 (⟨0,0⟩:Spn))] #[],.func (.func 128) #[ag (C0 (⟨0,0⟩:Spn))] #[]])] ?_))
 refine it rfl (E2 (es:=(B9 D3x 0).toArray) (es':=(B9 D3y 0).toArray) J3 (.inr rfl) rfl rfl rfl 0 rfl (by kernel_rfl) (by kernel_rfl)) fun _=>?_
 refine znl [(b1,.map (B9 D3y 0).toArray 14)] ?_
 refine A2 (nx (A3 2 rfl (ix rfl (B3 (c:=4) rfl rfl rfl rfl (by decide)) ?_)))
 refine ip' 1 0 [(61,iv 4)] ?_
 refine A2 (E5 (sr 1 rfl (ip' 1 0 [(62,bv true)] ?_)))
 refine ie (A1 (H7 rfl (A5 (nx (A1 (B0 (sr 2 rfl (ix rfl (E8 (v:=iv 6) (us:=[iv 6]) Tryz.underlying186 ty3 rfl rfl rfl 4 rfl (by decide) rfl rfl rfl) ?_))))))))
 refine ip' 1 0 [(7,iv 6)] ?_
 refine ie (A3 6 rfl (zrl 5 1 [] [(64,.map (some b1)),(65,iv 6),(68,ag [.func (.func 128) #[ag (C0 (⟨0,0⟩:Spn))] #[],.func (.func 128) #[ag (C0 (⟨0,0⟩:Spn))] #[]])] ?_))
 refine it rfl (E2 (es:=(B9 D3y 0).toArray) (es':=(B9 D3k 0).toArray) J3 (.inr rfl) rfl rfl rfl 0 rfl (by kernel_rfl) (by kernel_rfl)) fun _=>?_
 refine znl [(b1,.map (B9 D3k 0).toArray 15)] ?_
 refine A2 (nx (A3 2 rfl (ix rfl (B3 (c:=5) rfl rfl rfl rfl (by decide)) ?_)))
 refine ip' 1 0 [(61,iv 5)] ?_
 refine A2 (E5 (sr 1 rfl (ip' 1 0 [(62,bv true)] ?_)))
 refine ie (A1 (H7 rfl (A5 (nx (A1 (B0 (sr 2 rfl (ix rfl (E8 (v:=iv 8) (us:=[iv 8]) Tryz.underlying186 ty3 rfl rfl rfl 5 rfl (by decide) rfl rfl rfl) ?_))))))))
 refine ip' 1 0 [(7,iv 8)] ?_
 refine ie (A3 6 rfl (zrl 5 1 [] [(64,.map (some b1)),(65,iv 8),(68,ag [.func (.func 128) #[ag (C0 (⟨0,0⟩:Spn))] #[],.func (.func 128) #[ag (C0 (⟨0,0⟩:Spn))] #[]])] ?_))
 refine it rfl (E2 (es:=(B9 D3k 0).toArray) (es':=(B9 D3b 0).toArray) J3 (.inr rfl) rfl rfl rfl 0 rfl (by kernel_rfl) (by kernel_rfl)) fun _=>?_
 refine znl [(b1,.map (B9 D3b 0).toArray 16)] ?_
 refine A2 (nx (A3 2 rfl (ix rfl (B3 (c:=6) rfl rfl rfl rfl (by decide)) ?_)))
 refine ip' 1 0 [(61,iv 6)] ?_
 refine A2 (E5 (sr 1 rfl (ip' 1 0 [(62,bv true)] ?_)))
 refine ie (A1 (H7 rfl (A5 (nx (A1 (B0 (sr 2 rfl (ix rfl (E8 (v:=iv 9) (us:=[iv 9]) Tryz.underlying186 ty3 rfl rfl rfl 6 rfl (by decide) rfl rfl rfl) ?_))))))))
 refine ip' 1 0 [(7,iv 9)] ?_
 refine ie (A3 6 rfl (zrl 5 1 [] [(64,.map (some b1)),(65,iv 9),(68,ag [.func (.func 128) #[ag (C0 (⟨0,0⟩:Spn))] #[],.func (.func 128) #[ag (C0 (⟨0,0⟩:Spn))] #[]])] ?_))
 refine it rfl (E2 (es:=(B9 D3b 0).toArray) (es':=(B9 D4a 0).toArray) J3 (.inr rfl) rfl rfl rfl 0 rfl (by kernel_rfl) (by kernel_rfl)) fun _=>?_
 refine znl [(b1,.map (B9 D4a 0).toArray 17)] ?_
 refine A2 (nx (A3 2 rfl (ix rfl (B3 (c:=7) rfl rfl rfl rfl (by decide)) ?_)))
 refine ip' 1 0 [(61,iv 7)] ?_
 refine A2 (E5 (sr 1 rfl (ip' 1 0 [(62,bv true)] ?_)))
 refine ie (A1 (H7 rfl (A5 (nx (A1 (B0 (sr 2 rfl (ix rfl (E8 (v:=iv 10) (us:=[iv 10]) Tryz.underlying186 ty3 rfl rfl rfl 7 rfl (by decide) rfl rfl rfl) ?_))))))))
 refine ip' 1 0 [(7,iv 10)] ?_
 refine ie (A3 6 rfl (zrl 5 1 [] [(64,.map (some b1)),(65,iv 10),(68,ag [.func (.func 128) #[ag (C0 (⟨0,0⟩:Spn))] #[],.func (.func 128) #[ag (C0 (⟨0,0⟩:Spn))] #[]])] ?_))
 refine it rfl (E2 (es:=(B9 D4a 0).toArray) (es':=(B9 D3z 0).toArray) J3 (.inr rfl) rfl rfl rfl 0 rfl (by kernel_rfl) (by kernel_rfl)) fun _=>?_
 refine znl [(b1,.map (B9 D3z 0).toArray 18)] ?_
 refine A2 (nx (A3 2 rfl (ix rfl (B3 (c:=8) rfl rfl rfl rfl (by decide)) ?_)))
 refine ip' 1 0 [(61,iv 8)] ?_
 refine A2 (E5 (sr 1 rfl (ip' 1 0 [(62,bv true)] ?_)))
 refine ie (A1 (H7 rfl (A5 (nx (A1 (B0 (sr 2 rfl (ix rfl (E8 (v:=iv 11) (us:=[iv 11]) Tryz.underlying186 ty3 rfl rfl rfl 8 rfl (by decide) rfl rfl rfl) ?_))))))))
 refine ip' 1 0 [(7,iv 11)] ?_
 refine ie (A3 6 rfl (zrl 5 1 [] [(64,.map (some b1)),(65,iv 11),(68,ag [.func (.func 128) #[ag (C0 (⟨0,0⟩:Spn))] #[],.func (.func 128) #[ag (C0 (⟨0,0⟩:Spn))] #[]])] ?_))
 refine it rfl (E2 (es:=(B9 D3z 0).toArray) (es':=(B9 D2u 0).toArray) J3 (.inr rfl) rfl rfl rfl 0 rfl (by kernel_rfl) (by kernel_rfl)) fun _=>?_
 refine znl [(b1,.map (B9 D2u 0).toArray 19)] ?_
 refine A2 (nx (A3 2 rfl (ix rfl (B3 (c:=9) rfl rfl rfl rfl (by decide)) ?_)))
 refine ip' 1 0 [(61,iv 9)] ?_
 refine A2 (E5 (sr 1 rfl (ip' 1 0 [(62,bv true)] ?_)))
 refine ie (A1 (H7 rfl (A5 (nx (A1 (B0 (sr 2 rfl (ix rfl (E8 (v:=iv 12) (us:=[iv 12]) Tryz.underlying186 ty3 rfl rfl rfl 9 rfl (by decide) rfl rfl rfl) ?_))))))))
 refine ip' 1 0 [(7,iv 12)] ?_
 refine ie (A3 6 rfl (zrl 5 1 [] [(64,.map (some b1)),(65,iv 12),(68,ag [.func (.func 128) #[ag (C0 (⟨0,0⟩:Spn))] #[],.func (.func 128) #[ag (C0 (⟨0,0⟩:Spn))] #[]])] ?_))
 refine it rfl (E2 (es:=(B9 D2u 0).toArray) (es':=(B9 D4b 0).toArray) J3 (.inr rfl) rfl rfl rfl 0 rfl (by kernel_rfl) (by kernel_rfl)) fun _=>?_
 refine znl [(b1,.map (B9 D4b 0).toArray 20)] ?_
 refine A2 (nx (A3 2 rfl (ix rfl (B3 (c:=10) rfl rfl rfl rfl (by decide)) ?_)))
 refine ip' 1 0 [(61,iv 10)] ?_
 refine A2 (E5 (sr 1 rfl (ip' 1 0 [(62,bv true)] ?_)))
 refine ie (A1 (H7 rfl (A5 (nx (A1 (B0 (sr 2 rfl (ix rfl (E8 (v:=iv 13) (us:=[iv 13]) Tryz.underlying186 ty3 rfl rfl rfl 10 rfl (by decide) rfl rfl rfl) ?_))))))))
 refine ip' 1 0 [(7,iv 13)] ?_
 refine ie (A3 6 rfl (zrl 5 1 [] [(64,.map (some b1)),(65,iv 13),(68,ag [.func (.func 128) #[ag (C0 (⟨0,0⟩:Spn))] #[],.func (.func 128) #[ag (C0 (⟨0,0⟩:Spn))] #[]])] ?_))
 refine it rfl (E2 (es:=(B9 D4b 0).toArray) (es':=(B9 D3m 0).toArray) J3 (.inr rfl) rfl rfl rfl 0 rfl (by kernel_rfl) (by kernel_rfl)) fun _=>?_
 refine znl [(b1,.map (B9 D3m 0).toArray 21)] ?_
 refine A2 (nx (A3 2 rfl (ix rfl (B3 (c:=11) rfl rfl rfl rfl (by decide)) ?_)))
 refine ip' 1 0 [(61,iv 11)] ?_
 refine A2 (E5 (sr 1 rfl (ip' 1 0 [(62,bv true)] ?_)))
 refine ie (A1 (H7 rfl (A5 (nx (A1 (B0 (sr 2 rfl (ix rfl (E8 (v:=iv 15) (us:=[iv 15]) Tryz.underlying186 ty3 rfl rfl rfl 11 rfl (by decide) rfl rfl rfl) ?_))))))))
 refine ip' 1 0 [(7,iv 15)] ?_
 refine ie (A3 6 rfl (zrl 5 1 [] [(64,.map (some b1)),(65,iv 15),(68,ag [.func (.func 128) #[ag (C0 (⟨0,0⟩:Spn))] #[],.func (.func 128) #[ag (C0 (⟨0,0⟩:Spn))] #[]])] ?_))
 refine it rfl (E2 (es:=(B9 D3m 0).toArray) (es':=(B9 D2p 0).toArray) J3 (.inr rfl) rfl rfl rfl 0 rfl (by kernel_rfl) (by kernel_rfl)) fun _=>?_
 refine znl [(b1,.map (B9 D2p 0).toArray 22)] ?_
 refine A2 (nx (A3 2 rfl (ix rfl (B3 (c:=12) rfl rfl rfl rfl (by decide)) ?_)))
 refine ip' 1 0 [(61,iv 12)] ?_
 refine A2 (E5 (sr 1 rfl (ip' 1 0 [(62,bv true)] ?_)))
 refine ie (A1 (H7 rfl (A5 (nx (A1 (B0 (sr 2 rfl (ix rfl (E8 (v:=iv 16) (us:=[iv 16]) Tryz.underlying186 ty3 rfl rfl rfl 12 rfl (by decide) rfl rfl rfl) ?_))))))))
 refine ip' 1 0 [(7,iv 16)] ?_
 refine ie (A3 6 rfl (zrl 5 1 [] [(64,.map (some b1)),(65,iv 16),(68,ag [.func (.func 128) #[ag (C0 (⟨0,0⟩:Spn))] #[],.func (.func 128) #[ag (C0 (⟨0,0⟩:Spn))] #[]])] ?_))
 refine it rfl (E2 (es:=(B9 D2p 0).toArray) (es':=(B9 D2n 0).toArray) J3 (.inr rfl) rfl rfl rfl 0 rfl (by kernel_rfl) (by kernel_rfl)) fun _=>?_
 refine znl [(b1,.map (B9 D2n 0).toArray 23)] ?_
 refine A2 (nx (A3 2 rfl (ix rfl (B3 (c:=13) rfl rfl rfl rfl (by decide)) ?_)))
 refine ip' 1 0 [(61,iv 13)] ?_
 refine A2 (E5 (sr 1 rfl (ip' 1 0 [(62,bv false)] ?_)))
 refine ie (A1 (K6 rfl (F7 (nx (A1 (sr 2 rfl (zrl 2 0 [] [(70,ag (B5s (⟨7,14,42⟩:Ar3))),(71,iv 0)] ?_)))))))
 refine ie (B0 (R8 5 ?_))
 refine E5 (sr 1 rfl (ip' 1 0 [(72,bv true)] ?_))
 refine ie (A1 (H7 rfl (A5 (nx (A1 (B0 (sr 2 rfl (ix rfl (E8 (v:=iv 7) (us:=[iv 7]) Tryz.underlying187 ty3 rfl rfl rfl 0 rfl (by decide) rfl rfl rfl) ?_))))))))
 refine ip' 1 0 [(9,iv 7)] ?_
 refine ie (A3 6 rfl (zrl 5 1 [] [(74,.map (some b1)),(75,iv 7),(78,ag [.func (.func 128) #[ag (C0 (⟨0,1⟩:Spn))] #[],.func (.func 128) #[ag (C0 (⟨0,0⟩:Spn))] #[]])] ?_))
 refine it rfl (E2 (es:=(B9 D2n 0).toArray) (es':=(B9 D4i 0).toArray) J3 (.inr rfl) rfl rfl rfl 0 rfl (by kernel_rfl) (by kernel_rfl)) fun _=>?_
 refine znl [(b1,.map (B9 D4i 0).toArray 24)] ?_
 refine A2 (nx (A3 2 rfl (ix rfl (B3 (c:=1) rfl rfl rfl rfl (by decide)) ?_)))
 refine ip' 1 0 [(71,iv 1)] ?_
 refine A2 (E5 (sr 1 rfl (ip' 1 0 [(72,bv true)] ?_)))
 refine ie (A1 (H7 rfl (A5 (nx (A1 (B0 (sr 2 rfl (ix rfl (E8 (v:=iv 14) (us:=[iv 14]) Tryz.underlying187 ty3 rfl rfl rfl 1 rfl (by decide) rfl rfl rfl) ?_))))))))
 refine ip' 1 0 [(9,iv 14)] ?_
 refine ie (A3 6 rfl (zrl 5 1 [] [(74,.map (some b1)),(75,iv 14),(78,ag [.func (.func 128) #[ag (C0 (⟨0,1⟩:Spn))] #[],.func (.func 128) #[ag (C0 (⟨0,0⟩:Spn))] #[]])] ?_))
 refine it rfl (E2 (es:=(B9 D4i 0).toArray) (es':=(B9 D4h 0).toArray) J3 (.inr rfl) rfl rfl rfl 0 rfl (by kernel_rfl) (by kernel_rfl)) fun _=>?_
 refine znl [(b1,.map (B9 D4h 0).toArray 25)] ?_
 refine A2 (nx (A3 2 rfl (ix rfl (B3 (c:=2) rfl rfl rfl rfl (by decide)) ?_)))
 refine ip' 1 0 [(71,iv 2)] ?_
 refine A2 (E5 (sr 1 rfl (ip' 1 0 [(72,bv true)] ?_)))
 refine ie (A1 (H7 rfl (A5 (nx (A1 (B0 (sr 2 rfl (ix rfl (E8 (v:=iv 42) (us:=[iv 42]) Tryz.underlying187 ty3 rfl rfl rfl 2 rfl (by decide) rfl rfl rfl) ?_))))))))
 refine ip' 1 0 [(9,iv 42)] ?_
 refine ie (A3 6 rfl (zrl 5 1 [] [(74,.map (some b1)),(75,iv 42),(78,ag [.func (.func 128) #[ag (C0 (⟨0,1⟩:Spn))] #[],.func (.func 128) #[ag (C0 (⟨0,0⟩:Spn))] #[]])] ?_))
 refine it rfl (E2 (es:=(B9 D4h 0).toArray) (es':=(B9 D2k 0).toArray) J3 (.inr rfl) rfl rfl rfl 0 rfl (by kernel_rfl) (by kernel_rfl)) fun _=>?_
 refine znl [(b1,.map (B9 D2k 0).toArray 26)] ?_
 refine A2 (nx (A3 2 rfl (ix rfl (B3 (c:=3) rfl rfl rfl rfl (by decide)) ?_)))
 refine ip' 1 0 [(71,iv 3)] ?_
 refine A2 (E5 (sr 1 rfl (ip' 1 0 [(72,bv false)] ?_)))
 refine ie (A1 (K6 rfl (F7 (nx (A1 (sr 2 rfl (zrl 2 0 [] [(80,ag (R2 (⟨21,33⟩:Ar2))),(81,iv 0)] ?_)))))))
 refine ie (B0 (R8 4 ?_))
 refine E5 (sr 1 rfl (ip' 1 0 [(82,bv true)] ?_))
 refine ie (A1 (H7 rfl (A5 (nx (A1 (B0 (sr 2 rfl (ix rfl (E8 (v:=iv 21) (us:=[iv 21]) Tryz.underlying70 ty3 rfl rfl rfl 0 rfl (by decide) rfl rfl rfl) ?_))))))))
 refine ip' 1 0 [(11,iv 21)] ?_
 refine ie (A3 6 rfl (zrl 5 1 [] [(84,.map (some b1)),(85,iv 21),(88,ag [.func (.func 128) #[ag (C0 (⟨0,1⟩:Spn))] #[],.func (.func 128) #[ag (C0 (⟨1,9999⟩:Spn))] #[]])] ?_))
 refine it rfl (E2 (es:=(B9 D2k 0).toArray) (es':=(B9 D2o 0).toArray) J3 (.inr rfl) rfl rfl rfl 0 rfl (by kernel_rfl) (by kernel_rfl)) fun _=>?_
 refine znl [(b1,.map (B9 D2o 0).toArray 27)] ?_
 refine A2 (nx (A3 2 rfl (ix rfl (B3 (c:=1) rfl rfl rfl rfl (by decide)) ?_)))
 refine ip' 1 0 [(81,iv 1)] ?_
 refine A2 (E5 (sr 1 rfl (ip' 1 0 [(82,bv true)] ?_)))
 refine ie (A1 (H7 rfl (A5 (nx (A1 (B0 (sr 2 rfl (ix rfl (E8 (v:=iv 33) (us:=[iv 33]) Tryz.underlying70 ty3 rfl rfl rfl 1 rfl (by decide) rfl rfl rfl) ?_))))))))
 refine ip' 1 0 [(11,iv 33)] ?_
 refine ie (A3 6 rfl (zrl 5 1 [] [(84,.map (some b1)),(85,iv 33),(88,ag [.func (.func 128) #[ag (C0 (⟨0,1⟩:Spn))] #[],.func (.func 128) #[ag (C0 (⟨1,9999⟩:Spn))] #[]])] ?_))
 refine it rfl (E2 (es:=(B9 D2o 0).toArray) (es':=(B9 D3w 0).toArray) J3 (.inr rfl) rfl rfl rfl 0 rfl (by kernel_rfl) (by kernel_rfl)) fun _=>?_
 refine znl [(b1,.map (B9 D3w 0).toArray 28)] ?_
 refine A2 (nx (A3 2 rfl (ix rfl (B3 (c:=2) rfl rfl rfl rfl (by decide)) ?_)))
 refine ip' 1 0 [(81,iv 2)] ?_
 refine A2 (E5 (sr 1 rfl (ip' 1 0 [(82,bv false)] ?_)))
 refine ie (A1 (K6 rfl (F7 (nx (A1 (sr 2 rfl (zrl 2 0 [] [(90,ag [iv 22,iv 23,iv 24,iv 25,iv 28,iv 29,iv 30,iv 31,iv 32,iv 34]),(91,iv 0)] ?_)))))))
 refine ie (B0 (R8 12 ?_))
 refine E5 (sr 1 rfl (ip' 1 0 [(92,bv true)] ?_))
 refine ie (A1 (H7 rfl (A5 (nx (A1 (B0 (sr 2 rfl (ix rfl (E8 (v:=iv 22) (us:=[iv 22]) Tryz.underlying188 ty3 rfl rfl rfl 0 rfl (by decide) rfl rfl rfl) ?_))))))))
 refine ip' 1 0 [(13,iv 22)] ?_
 refine ie (A3 6 rfl (zrl 5 1 [] [(94,.map (some b1)),(95,iv 22),(98,ag [.func (.func 128) #[ag (C0 (⟨1,9999⟩:Spn))] #[],.func (.func 128) #[ag (C0 (⟨0,0⟩:Spn))] #[]])] ?_))
 refine it rfl (E2 (es:=(B9 D3w 0).toArray) (es':=(B9 D3h 0).toArray) J3 (.inr rfl) rfl rfl rfl 0 rfl (by kernel_rfl) (by kernel_rfl)) fun _=>?_
 refine znl [(b1,.map (B9 D3h 0).toArray 29)] ?_
 refine A2 (nx (A3 2 rfl (ix rfl (B3 (c:=1) rfl rfl rfl rfl (by decide)) ?_)))
 refine ip' 1 0 [(91,iv 1)] ?_
 refine A2 (E5 (sr 1 rfl (ip' 1 0 [(92,bv true)] ?_)))
 refine ie (A1 (H7 rfl (A5 (nx (A1 (B0 (sr 2 rfl (ix rfl (E8 (v:=iv 23) (us:=[iv 23]) Tryz.underlying188 ty3 rfl rfl rfl 1 rfl (by decide) rfl rfl rfl) ?_))))))))
 refine ip' 1 0 [(13,iv 23)] ?_
 refine ie (A3 6 rfl (zrl 5 1 [] [(94,.map (some b1)),(95,iv 23),(98,ag [.func (.func 128) #[ag (C0 (⟨1,9999⟩:Spn))] #[],.func (.func 128) #[ag (C0 (⟨0,0⟩:Spn))] #[]])] ?_))
 refine it rfl (E2 (es:=(B9 D3h 0).toArray) (es':=(B9 D4k 0).toArray) J3 (.inr rfl) rfl rfl rfl 0 rfl (by kernel_rfl) (by kernel_rfl)) fun _=>?_
 refine znl [(b1,.map (B9 D4k 0).toArray 30)] ?_
 refine A2 (nx (A3 2 rfl (ix rfl (B3 (c:=2) rfl rfl rfl rfl (by decide)) ?_)))
 refine ip' 1 0 [(91,iv 2)] ?_
 refine A2 (E5 (sr 1 rfl (ip' 1 0 [(92,bv true)] ?_)))
 refine ie (A1 (H7 rfl (A5 (nx (A1 (B0 (sr 2 rfl (ix rfl (E8 (v:=iv 24) (us:=[iv 24]) Tryz.underlying188 ty3 rfl rfl rfl 2 rfl (by decide) rfl rfl rfl) ?_))))))))
 refine ip' 1 0 [(13,iv 24)] ?_
 refine ie (A3 6 rfl (zrl 5 1 [] [(94,.map (some b1)),(95,iv 24),(98,ag [.func (.func 128) #[ag (C0 (⟨1,9999⟩:Spn))] #[],.func (.func 128) #[ag (C0 (⟨0,0⟩:Spn))] #[]])] ?_))
 refine it rfl (E2 (es:=(B9 D4k 0).toArray) (es':=(B9 D2q 0).toArray) J3 (.inr rfl) rfl rfl rfl 0 rfl (by kernel_rfl) (by kernel_rfl)) fun _=>?_
 refine znl [(b1,.map (B9 D2q 0).toArray 31)] ?_
 refine A2 (nx (A3 2 rfl (ix rfl (B3 (c:=3) rfl rfl rfl rfl (by decide)) ?_)))
 refine ip' 1 0 [(91,iv 3)] ?_
 refine A2 (E5 (sr 1 rfl (ip' 1 0 [(92,bv true)] ?_)))
 refine ie (A1 (H7 rfl (A5 (nx (A1 (B0 (sr 2 rfl (ix rfl (E8 (v:=iv 25) (us:=[iv 25]) Tryz.underlying188 ty3 rfl rfl rfl 3 rfl (by decide) rfl rfl rfl) ?_))))))))
 refine ip' 1 0 [(13,iv 25)] ?_
 refine ie (A3 6 rfl (zrl 5 1 [] [(94,.map (some b1)),(95,iv 25),(98,ag [.func (.func 128) #[ag (C0 (⟨1,9999⟩:Spn))] #[],.func (.func 128) #[ag (C0 (⟨0,0⟩:Spn))] #[]])] ?_))
 refine it rfl (E2 (es:=(B9 D2q 0).toArray) (es':=(B9 D2v 0).toArray) J3 (.inr rfl) rfl rfl rfl 0 rfl (by kernel_rfl) (by kernel_rfl)) fun _=>?_
 refine znl [(b1,.map (B9 D2v 0).toArray 32)] ?_
 refine A2 (nx (A3 2 rfl (ix rfl (B3 (c:=4) rfl rfl rfl rfl (by decide)) ?_)))
 refine ip' 1 0 [(91,iv 4)] ?_
 refine A2 (E5 (sr 1 rfl (ip' 1 0 [(92,bv true)] ?_)))
 refine ie (A1 (H7 rfl (A5 (nx (A1 (B0 (sr 2 rfl (ix rfl (E8 (v:=iv 28) (us:=[iv 28]) Tryz.underlying188 ty3 rfl rfl rfl 4 rfl (by decide) rfl rfl rfl) ?_))))))))
 refine ip' 1 0 [(13,iv 28)] ?_
 refine ie (A3 6 rfl (zrl 5 1 [] [(94,.map (some b1)),(95,iv 28),(98,ag [.func (.func 128) #[ag (C0 (⟨1,9999⟩:Spn))] #[],.func (.func 128) #[ag (C0 (⟨0,0⟩:Spn))] #[]])] ?_))
 refine it rfl (E2 (es:=(B9 D2v 0).toArray) (es':=(B9 D4g 0).toArray) J3 (.inr rfl) rfl rfl rfl 0 rfl (by kernel_rfl) (by kernel_rfl)) fun _=>?_
 refine znl [(b1,.map (B9 D4g 0).toArray 33)] ?_
 refine A2 (nx (A3 2 rfl (ix rfl (B3 (c:=5) rfl rfl rfl rfl (by decide)) ?_)))
 refine ip' 1 0 [(91,iv 5)] ?_
 refine A2 (E5 (sr 1 rfl (ip' 1 0 [(92,bv true)] ?_)))
 refine ie (A1 (H7 rfl (A5 (nx (A1 (B0 (sr 2 rfl (ix rfl (E8 (v:=iv 29) (us:=[iv 29]) Tryz.underlying188 ty3 rfl rfl rfl 5 rfl (by decide) rfl rfl rfl) ?_))))))))
 refine ip' 1 0 [(13,iv 29)] ?_
 refine ie (A3 6 rfl (zrl 5 1 [] [(94,.map (some b1)),(95,iv 29),(98,ag [.func (.func 128) #[ag (C0 (⟨1,9999⟩:Spn))] #[],.func (.func 128) #[ag (C0 (⟨0,0⟩:Spn))] #[]])] ?_))
 refine it rfl (E2 (es:=(B9 D4g 0).toArray) (es':=(B9 D3t 0).toArray) J3 (.inr rfl) rfl rfl rfl 0 rfl (by kernel_rfl) (by kernel_rfl)) fun _=>?_
 refine znl [(b1,.map (B9 D3t 0).toArray 34)] ?_
 refine A2 (nx (A3 2 rfl (ix rfl (B3 (c:=6) rfl rfl rfl rfl (by decide)) ?_)))
 refine ip' 1 0 [(91,iv 6)] ?_
 refine A2 (E5 (sr 1 rfl (ip' 1 0 [(92,bv true)] ?_)))
 refine ie (A1 (H7 rfl (A5 (nx (A1 (B0 (sr 2 rfl (ix rfl (E8 (v:=iv 30) (us:=[iv 30]) Tryz.underlying188 ty3 rfl rfl rfl 6 rfl (by decide) rfl rfl rfl) ?_))))))))
 refine ip' 1 0 [(13,iv 30)] ?_
 refine ie (A3 6 rfl (zrl 5 1 [] [(94,.map (some b1)),(95,iv 30),(98,ag [.func (.func 128) #[ag (C0 (⟨1,9999⟩:Spn))] #[],.func (.func 128) #[ag (C0 (⟨0,0⟩:Spn))] #[]])] ?_))
 refine it rfl (E2 (es:=(B9 D3t 0).toArray) (es':=(B9 D2j 0).toArray) J3 (.inr rfl) rfl rfl rfl 0 rfl (by kernel_rfl) (by kernel_rfl)) fun _=>?_
 refine znl [(b1,.map (B9 D2j 0).toArray 35)] ?_
 refine A2 (nx (A3 2 rfl (ix rfl (B3 (c:=7) rfl rfl rfl rfl (by decide)) ?_)))
 refine ip' 1 0 [(91,iv 7)] ?_
 refine A2 (E5 (sr 1 rfl (ip' 1 0 [(92,bv true)] ?_)))
 refine ie (A1 (H7 rfl (A5 (nx (A1 (B0 (sr 2 rfl (ix rfl (E8 (v:=iv 31) (us:=[iv 31]) Tryz.underlying188 ty3 rfl rfl rfl 7 rfl (by decide) rfl rfl rfl) ?_))))))))
 refine ip' 1 0 [(13,iv 31)] ?_
 refine ie (A3 6 rfl (zrl 5 1 [] [(94,.map (some b1)),(95,iv 31),(98,ag [.func (.func 128) #[ag (C0 (⟨1,9999⟩:Spn))] #[],.func (.func 128) #[ag (C0 (⟨0,0⟩:Spn))] #[]])] ?_))
 refine it rfl (E2 (es:=(B9 D2j 0).toArray) (es':=(B9 D2h 0).toArray) J3 (.inr rfl) rfl rfl rfl 0 rfl (by kernel_rfl) (by kernel_rfl)) fun _=>?_
 refine znl [(b1,.map (B9 D2h 0).toArray 36)] ?_
 refine A2 (nx (A3 2 rfl (ix rfl (B3 (c:=8) rfl rfl rfl rfl (by decide)) ?_)))
 refine ip' 1 0 [(91,iv 8)] ?_
 refine A2 (E5 (sr 1 rfl (ip' 1 0 [(92,bv true)] ?_)))
 refine ie (A1 (H7 rfl (A5 (nx (A1 (B0 (sr 2 rfl (ix rfl (E8 (v:=iv 32) (us:=[iv 32]) Tryz.underlying188 ty3 rfl rfl rfl 8 rfl (by decide) rfl rfl rfl) ?_))))))))
 refine ip' 1 0 [(13,iv 32)] ?_
 refine ie (A3 6 rfl (zrl 5 1 [] [(94,.map (some b1)),(95,iv 32),(98,ag [.func (.func 128) #[ag (C0 (⟨1,9999⟩:Spn))] #[],.func (.func 128) #[ag (C0 (⟨0,0⟩:Spn))] #[]])] ?_))
 refine it rfl (E2 (es:=(B9 D2h 0).toArray) (es':=(B9 D3d 0).toArray) J3 (.inr rfl) rfl rfl rfl 0 rfl (by kernel_rfl) (by kernel_rfl)) fun _=>?_
 refine znl [(b1,.map (B9 D3d 0).toArray 37)] ?_
 refine A2 (nx (A3 2 rfl (ix rfl (B3 (c:=9) rfl rfl rfl rfl (by decide)) ?_)))
 refine ip' 1 0 [(91,iv 9)] ?_
 refine A2 (E5 (sr 1 rfl (ip' 1 0 [(92,bv true)] ?_)))
 refine ie (A1 (H7 rfl (A5 (nx (A1 (B0 (sr 2 rfl (ix rfl (E8 (v:=iv 34) (us:=[iv 34]) Tryz.underlying188 ty3 rfl rfl rfl 9 rfl (by decide) rfl rfl rfl) ?_))))))))
 refine ip' 1 0 [(13,iv 34)] ?_
 refine ie (A3 6 rfl (zrl 5 1 [] [(94,.map (some b1)),(95,iv 34),(98,ag [.func (.func 128) #[ag (C0 (⟨1,9999⟩:Spn))] #[],.func (.func 128) #[ag (C0 (⟨0,0⟩:Spn))] #[]])] ?_))
 refine it rfl (E2 (es:=(B9 D3d 0).toArray) (es':=(B9 D2l 0).toArray) J3 (.inr rfl) rfl rfl rfl 0 rfl (by kernel_rfl) (by kernel_rfl)) fun _=>?_
 refine znl [(b1,.map (B9 D2l 0).toArray 38)] ?_
 refine A2 (nx (A3 2 rfl (ix rfl (B3 (c:=10) rfl rfl rfl rfl (by decide)) ?_)))
 refine ip' 1 0 [(91,iv 10)] ?_
 refine A2 (E5 (sr 1 rfl (ip' 1 0 [(92,bv false)] ?_)))
 refine ie (A1 (K6 rfl (F7 (nx (A1 (sr 2 rfl (zrl 2 0 [] [(100,ag (B5s (⟨36,37,43⟩:Ar3))),(101,iv 0)] ?_)))))))
 refine ie (B0 (R8 5 ?_))
 refine E5 (sr 1 rfl (ip' 1 0 [(102,bv true)] ?_))
 refine ie (A1 (H7 rfl (A5 (nx (A1 (B0 (sr 2 rfl (ix rfl (E8 (v:=iv 36) (us:=[iv 36]) Tryz.underlying187 ty3 rfl rfl rfl 0 rfl (by decide) rfl rfl rfl) ?_))))))))
 refine ip' 1 0 [(15,iv 36)] ?_
 refine ie (A3 6 rfl (zrl 5 1 [] [(104,.map (some b1)),(105,iv 36),(108,ag [.func (.func 128) #[ag (C0 (⟨0,9999⟩:Spn))] #[],.func (.func 128) #[ag (C0 (⟨0,1⟩:Spn))] #[]])] ?_))
 refine it rfl (E2 (es:=(B9 D2l 0).toArray) (es':=(B9 D2t 0).toArray) J3 (.inr rfl) rfl rfl rfl 0 rfl (by kernel_rfl) (by kernel_rfl)) fun _=>?_
 refine znl [(b1,.map (B9 D2t 0).toArray 39)] ?_
 refine A2 (nx (A3 2 rfl (ix rfl (B3 (c:=1) rfl rfl rfl rfl (by decide)) ?_)))
 refine ip' 1 0 [(101,iv 1)] ?_
 refine A2 (E5 (sr 1 rfl (ip' 1 0 [(102,bv true)] ?_)))
 refine ie (A1 (H7 rfl (A5 (nx (A1 (B0 (sr 2 rfl (ix rfl (E8 (v:=iv 37) (us:=[iv 37]) Tryz.underlying187 ty3 rfl rfl rfl 1 rfl (by decide) rfl rfl rfl) ?_))))))))
 refine ip' 1 0 [(15,iv 37)] ?_
 refine ie (A3 6 rfl (zrl 5 1 [] [(104,.map (some b1)),(105,iv 37),(108,ag [.func (.func 128) #[ag (C0 (⟨0,9999⟩:Spn))] #[],.func (.func 128) #[ag (C0 (⟨0,1⟩:Spn))] #[]])] ?_))
 refine it rfl (E2 (es:=(B9 D2t 0).toArray) (es':=(B9 D2r 0).toArray) J3 (.inr rfl) rfl rfl rfl 0 rfl (by kernel_rfl) (by kernel_rfl)) fun _=>?_
 refine znl [(b1,.map (B9 D2r 0).toArray 40)] ?_
 refine A2 (nx (A3 2 rfl (ix rfl (B3 (c:=2) rfl rfl rfl rfl (by decide)) ?_)))
 refine ip' 1 0 [(101,iv 2)] ?_
 refine A2 (E5 (sr 1 rfl (ip' 1 0 [(102,bv true)] ?_)))
 refine ie (A1 (H7 rfl (A5 (nx (A1 (B0 (sr 2 rfl (ix rfl (E8 (v:=iv 43) (us:=[iv 43]) Tryz.underlying187 ty3 rfl rfl rfl 2 rfl (by decide) rfl rfl rfl) ?_))))))))
 refine ip' 1 0 [(15,iv 43)] ?_
 refine ie (A3 6 rfl (zrl 5 1 [] [(104,.map (some b1)),(105,iv 43),(108,ag [.func (.func 128) #[ag (C0 (⟨0,9999⟩:Spn))] #[],.func (.func 128) #[ag (C0 (⟨0,1⟩:Spn))] #[]])] ?_))
 refine it rfl (E2 (es:=(B9 D2r 0).toArray) (es':=(B9 C9k 0).toArray) J3 (.inr rfl) rfl rfl rfl 0 rfl (by kernel_rfl) (by kernel_rfl)) fun _=>?_
 refine znl [(b1,.map (B9 C9k 0).toArray 41)] ?_
 refine A2 (nx (A3 2 rfl (ix rfl (B3 (c:=3) rfl rfl rfl rfl (by decide)) ?_)))
 refine ip' 1 0 [(101,iv 3)] ?_
 refine A2 (E5 (sr 1 rfl (ip' 1 0 [(102,bv false)] ?_)))
 refine ie (A1 (K6 rfl (F7 (nx (sr 2 rfl (ip' 2 0 [(0,.map (some b1))] ?_))))))
 subst hR
 refine ie (A7 ?_)
 exact zer hr hD (P8 rfl (B2 rfl)) b1 (mk [true] rfl) fn0
def E4 (s:Spn) (n:Int):Bool :=
 ((decide (s.lo≤n))&&(decide (n≤s.hi)))
theorem R0 (s:Spn) (n:Int) (R:Bool) (hR:E4 s n=R):J8 Tryz.prog 128 [ag (C0 s),iv n] [] (bv R):=by
 refine zco Tryz.func128 [(0,ag (C0 s)),(1,iv n)] fun X hX hr hD=>?_
 replace hR:=(E4.eq_1 ..).symm.trans hR
 refine sr 2 rfl (K0 2 0 [] (fun b1=>[(2,pt b1 0)]) (fun b1=>[bx b1 (C0 s) 185]) (fun b1=>?_))
 refine ie (sr 11 rfl (zrl 5 6 [0] [(9,bv (decide (s.lo≤n)))] ?_))
 refine zid 5 1 9 14 (decide (n≤s.hi)) (fun g2 g2p=>?_) ?_
 ·refine zrl 5 0 [0] [(14,bv (decide (n≤s.hi)))] ?_
  exact A2 (I5 2 9 14 g2 fn0 (mk [true] rfl) rfl rfl rfl rfl rfl)
 refine ip' 1 0 [(4,bv ((decide (s.lo≤n))&&(decide (n≤s.hi))))] ?_
 subst hR
 refine ie (A7 ?_)
 exact E6 hr hD
def S9 (an:Int) (am:Int) (acolor:Col) (atext:List UInt8):Int :=
 (bif ((((!(E4 (⟨0,9999⟩:Spn) an))||(!(E4 (⟨0,1⟩:Spn) am)))||(!(decide (acolor=Col.zero))))||(!(decide (atext=([]:List UInt8))))) then 200 else 0)
theorem B5e (an:Int) (am:Int) (acolor:Col) (atext:List UInt8) (hs:atext.length≤100000000) (R:Int) (hR:S9 an am acolor atext=R):J8 Tryz.prog 34 [ag (F8 (⟨37,an,am,acolor,atext⟩:Act))] [] (iv R):=by
 refine zco Tryz.func34 [(0,ag (F8 (⟨37,an,am,acolor,atext⟩:Act)))] fun X hX hr hD=>?_
 replace hR:=(S9.eq_1 ..).symm.trans hR
 refine sr 2 rfl (K0 2 0 [] (fun b1=>[(1,pt b1 0)]) (fun b1=>[bx b1 (F8 (⟨37,an,am,acolor,atext⟩:Act)) 81]) (fun b1=>?_))
 refine ie (sr 1 rfl (ip' 1 0 [(3,iv 0)] ?_))
 refine ie (A1 (sr 2 rfl (zrl 2 0 [0] [(7,iv 37)] ?_)))
 refine ie (B0 (sr 2 rfl (ip' 2 0 [(44,bv false)] ?_)))
 refine ie (K6 rfl (sr 2 rfl (ip' 2 0 [(59,bv false)] ?_)))
 refine ie (K6 rfl (A1 (sr 2 rfl (ip' 2 0 [(63,bv false)] ?_))))
 refine ie (K6 rfl (sr 2 rfl (ip' 2 0 [(63,bv false)] ?_)))
 refine ie (K6 rfl (A3 2 rfl (ip' 2 0 [(63,bv false)] ?_)))
 refine A2 (nx (K6 rfl (sh 10 [(10,[bx b1 (F8 (⟨37,an,am,acolor,atext⟩:Act)) 81])] [] [bx b1 (F8 (⟨37,an,am,acolor,atext⟩:Act)) 81] (zml 10 0) (by kernel_rfl) rfl (by kernel_rfl) (by kernel_rfl) (by kernel_rfl) (mk [true] rfl) A4.refl ?_)))
 refine zhp [1] 9 (zml 10 2) [(10,pt b1 0)] ?_
 refine zhl 2 [bx b1 (F8 (⟨37,an,am,acolor,atext⟩:Act)) 81] (zml 10 6) rfl (D6 (v:=iv 37) ty3 rfl rfl 0 rfl rfl) ?_
 refine C6j 0 7 (by kernel_rfl) ?_ ?_
 ·refine D0m 0 [bx b1 (F8 (⟨37,an,am,acolor,atext⟩:Act)) 81] (zml 10 7) rfl rfl rfl (by kernel_rfl) (by kernel_rfl) (by kernel_rfl) (I1 (L2:=[bx b1 (F8 (⟨37,an,am,acolor,atext⟩:Act)) 81]) (A6v _ rfl) rfl rfl rfl rfl rfl fn0 (List.Perm.refl _) (fun b2=>[(b2,.map (B9 C9k 0).toArray 41),bx b1 (F8 (⟨37,an,am,acolor,atext⟩:Act)) 81]) (fun _=>rfl)) (fun b2=>(mk [false,true] rfl)) (fun b2=>fn0) fun b2=>?_
  refine C6j 3 7 (by kernel_rfl) ?_ ?_
  ·refine D0m 3 [bx b1 (F8 (⟨37,an,am,acolor,atext⟩:Act)) 81] (zml 10 15) rfl rfl rfl (by kernel_rfl) (by kernel_rfl) (by kernel_rfl) (Det.tri (I3.det (A5a (v:=ag [.func (.func 128) #[ag (C0 (⟨0,9999⟩:Spn))] #[],.func (.func 128) #[ag (C0 (⟨0,1⟩:Spn))] #[]]) (j:=39) J3 rfl rfl rfl 0 rfl (by kernel_rfl)))) (fun _=>(mk [false,true] rfl)) (fun _=>fn0) fun _=>?_
   refine zhp [4,5,6] 3 (zml 10 127) [(13,ag [.func (.func 128) #[ag (C0 (⟨0,9999⟩:Spn))] #[],.func (.func 128) #[ag (C0 (⟨0,1⟩:Spn))] #[]]),(14,bv true)] ?_
   refine zho 7 [bx b1 (F8 (⟨37,an,am,acolor,atext⟩:Act)) 81] (zml 10 255) rfl (A9s (cs:=[.nilFunc,.nilFunc]) C0o rfl) (fun b3=>(mk [false,false,true] rfl)) (fun b3=>fn0) fun b3=>?_
   refine zho 8 [bx b1 (F8 (⟨37,an,am,acolor,atext⟩:Act)) 81] (zml 10 511) rfl (L5 (us:=[.func (.func 128) #[ag (C0 (⟨0,9999⟩:Spn))] #[],.func (.func 128) #[ag (C0 (⟨0,1⟩:Spn))] #[]]) (cs':=[.func (.func 128) #[ag (C0 (⟨0,9999⟩:Spn))] #[],.func (.func 128) #[ag (C0 (⟨0,1⟩:Spn))] #[]]) C8l rfl rfl rfl 0 rfl rfl rfl rfl rfl rfl) (fun _=>(mk [false,false,true] rfl)) (fun _=>fn0) fun _=>?_
   refine zhp [9] 0 (zml 10 1023) [(5,bv true)] ?_
   refine A9z (by kernel_rfl) ?_
   refine sr 29 rfl (zrl 6 23 [0] [(17,bv false),(19,.func (.func 128) #[ag (C0 (⟨0,9999⟩:Spn))] #[]),(20,pt b1 1)] ?_)
   refine ix rfl (D6 (v:=iv an) ty3 rfl rfl 2 rfl rfl) ?_
   refine zca (R0 (⟨0,9999⟩:Spn) an _ rfl) fn0 ?_
   refine ip' 3 18 [(25,bv (!(E4 (⟨0,9999⟩:Spn) an)))] ?_
   refine zio 7 11 25 32 (!(E4 (⟨0,1⟩:Spn) am)) (fun g4=>?_) ?_
   ·refine zrl 3 4 [0] [(27,.func (.func 128) #[ag (C0 (⟨0,1⟩:Spn))] #[]),(28,pt b1 2)] ?_
    refine ix rfl (D6 (v:=iv am) ty3 rfl rfl 2 rfl rfl) ?_
    refine zca (R0 (⟨0,1⟩:Spn) am _ rfl) fn0 ?_
    refine ip' 2 0 [(32,bv (!(E4 (⟨0,1⟩:Spn) am)))] ?_
    exact A2 (I5 6 25 32 g4 fn0 (mk [true,true,true] rfl) rfl rfl rfl rfl rfl)
   refine ip' 1 10 [(33,bv ((!(E4 (⟨0,9999⟩:Spn) an))||(!(E4 (⟨0,1⟩:Spn) am))))] ?_
   refine zio 5 5 33 38 (!(decide (acolor=Col.zero))) (fun g5=>?_) ?_
   ·have g5p:=g5;try simp only [Bool.and_eq_true,Bool.or_eq_true,Bool.and_eq_false_iff,Bool.or_eq_false_iff,Bool.not_eq_true',Bool.not_eq_false',decide_eq_true_eq,decide_eq_false_iff_not] at g5p
    refine ip' 1 4 [(34,pt b1 3)] ?_
    refine ix rfl (M3 (us:=U8 acolor) C1e rfl rfl 2 rfl rfl rfl) ?_
    refine zrl 1 2 [] [(36,ag (U8 Col.zero))] ?_
    refine ix rfl (A0c (a:=acolor) (b:=Col.zero) C9r rfl rfl rfl) ?_
    refine ip' 1 0 [(38,bv (!(decide (acolor=Col.zero))))] ?_
    exact A2 (I5 6 33 38 g5 fn0 (mk [true,true,true] rfl) rfl rfl rfl rfl rfl)
   refine ip' 1 4 [(39,bv (((!(E4 (⟨0,9999⟩:Spn) an))||(!(E4 (⟨0,1⟩:Spn) am)))||(!(decide (acolor=Col.zero)))))] ?_
   refine zio 4 0 39 43 (!(decide (atext=([]:List UInt8)))) (fun g6=>?_) ?_
   ·have g6p:=g6;try simp only [Bool.and_eq_true,Bool.or_eq_true,Bool.and_eq_false_iff,Bool.or_eq_false_iff,Bool.not_eq_true',Bool.not_eq_false',decide_eq_true_eq,decide_eq_false_iff_not] at g6p
    refine ip' 1 3 [(40,pt b1 5)] ?_
    refine ix rfl (D6 (v:=sv atext) ty9 rfl rfl 2 rfl rfl) ?_
    refine ix rfl (B2q rfl rfl rfl) ?_
    refine ip' 1 0 [(43,bv (!(decide (atext=([]:List UInt8)))))] ?_
    exact A2 (I5 5 39 43 g6 fn0 (mk [true,true,true] rfl) rfl rfl rfl rfl rfl)
   refine ie ?_
   refine zjb rfl hR ?_ ?_<;>clear hR<;>intro hR h7
   ·have h7p:=h7;try simp only [Bool.and_eq_true,Bool.or_eq_true,Bool.and_eq_false_iff,Bool.or_eq_false_iff,Bool.not_eq_true',Bool.not_eq_false',decide_eq_true_eq,decide_eq_false_iff_not] at h7p
    refine A3 1 rfl (ip' 1 0 [(3,iv 200)] ?_)
    refine A2 (nx (A1 (sr 2 rfl (ip' 2 0 [(73,bv true)] ?_))))
    refine ie (H7 rfl (sr 1 rfl (ip' 1 0 [(2,iv 200)] ?_)))
    subst hR
    refine ie (A7 ?_)
    exact E6 hr hD
   have h7p:=h7;try simp only [Bool.and_eq_true,Bool.or_eq_true,Bool.and_eq_false_iff,Bool.or_eq_false_iff,Bool.not_eq_true',Bool.not_eq_false',decide_eq_true_eq,decide_eq_false_iff_not] at h7p
   refine A5 (nx (A1 (sr 2 rfl (ip' 2 0 [(73,bv false)] ?_))))
   refine ie (K6 rfl (A5 (nx (sr 1 rfl (ip' 1 0 [(2,iv 0)] ?_)))))
   subst hR
   refine ie (A7 ?_)
   exact E6 hr hD
  ·refine D0m 7 [bx b1 (F8 (⟨37,an,am,acolor,atext⟩:Act)) 81] (zml 10 135) rfl rfl rfl (by kernel_rfl) (by kernel_rfl) (by kernel_rfl) (A9s (cs:=[.nilFunc,.nilFunc]) C0o rfl) (fun b8=>(mk [false,false,true] rfl)) (fun b8=>fn0) fun b8=>?_
   refine zho 3 [bx b1 (F8 (⟨37,an,am,acolor,atext⟩:Act)) 81] (zml 10 143) rfl (Det.tri (I3.det (A5a (v:=ag [.func (.func 128) #[ag (C0 (⟨0,9999⟩:Spn))] #[],.func (.func 128) #[ag (C0 (⟨0,1⟩:Spn))] #[]]) (j:=39) J3 rfl rfl rfl 1 rfl (by kernel_rfl)))) (fun _=>(mk [false,false,true] rfl)) (fun _=>fn0) fun _=>?_
   refine zhp [4,5,6] 2 (zml 10 255) [(13,ag [.func (.func 128) #[ag (C0 (⟨0,9999⟩:Spn))] #[],.func (.func 128) #[ag (C0 (⟨0,1⟩:Spn))] #[]]),(14,bv true)] ?_
   refine zho 8 [bx b1 (F8 (⟨37,an,am,acolor,atext⟩:Act)) 81] (zml 10 511) rfl (L5 (us:=[.func (.func 128) #[ag (C0 (⟨0,9999⟩:Spn))] #[],.func (.func 128) #[ag (C0 (⟨0,1⟩:Spn))] #[]]) (cs':=[.func (.func 128) #[ag (C0 (⟨0,9999⟩:Spn))] #[],.func (.func 128) #[ag (C0 (⟨0,1⟩:Spn))] #[]]) C8l rfl rfl rfl 0 rfl rfl rfl rfl rfl rfl) (fun _=>(mk [false,false,true] rfl)) (fun _=>fn0) fun _=>?_
   refine zhp [9] 0 (zml 10 1023) [(5,bv true)] ?_
   refine A9z (by kernel_rfl) ?_
   refine sr 29 rfl (zrl 6 23 [0] [(17,bv false),(19,.func (.func 128) #[ag (C0 (⟨0,9999⟩:Spn))] #[]),(20,pt b1 1)] ?_)
   refine ix rfl (D6 (v:=iv an) ty3 rfl rfl 2 rfl rfl) ?_
   refine zca (R0 (⟨0,9999⟩:Spn) an _ rfl) fn0 ?_
   refine ip' 3 18 [(25,bv (!(E4 (⟨0,9999⟩:Spn) an)))] ?_
   refine zio 7 11 25 32 (!(E4 (⟨0,1⟩:Spn) am)) (fun g9=>?_) ?_
   ·refine zrl 3 4 [0] [(27,.func (.func 128) #[ag (C0 (⟨0,1⟩:Spn))] #[]),(28,pt b1 2)] ?_
    refine ix rfl (D6 (v:=iv am) ty3 rfl rfl 2 rfl rfl) ?_
    refine zca (R0 (⟨0,1⟩:Spn) am _ rfl) fn0 ?_
    refine ip' 2 0 [(32,bv (!(E4 (⟨0,1⟩:Spn) am)))] ?_
    exact A2 (I5 6 25 32 g9 fn0 (mk [true,true,true] rfl) rfl rfl rfl rfl rfl)
   refine ip' 1 10 [(33,bv ((!(E4 (⟨0,9999⟩:Spn) an))||(!(E4 (⟨0,1⟩:Spn) am))))] ?_
   refine zio 5 5 33 38 (!(decide (acolor=Col.zero))) (fun g10=>?_) ?_
   ·have g10p:=g10;try simp only [Bool.and_eq_true,Bool.or_eq_true,Bool.and_eq_false_iff,Bool.or_eq_false_iff,Bool.not_eq_true',Bool.not_eq_false',decide_eq_true_eq,decide_eq_false_iff_not] at g10p
    refine ip' 1 4 [(34,pt b1 3)] ?_
    refine ix rfl (M3 (us:=U8 acolor) C1e rfl rfl 2 rfl rfl rfl) ?_
    refine zrl 1 2 [] [(36,ag (U8 Col.zero))] ?_
    refine ix rfl (A0c (a:=acolor) (b:=Col.zero) C9r rfl rfl rfl) ?_
    refine ip' 1 0 [(38,bv (!(decide (acolor=Col.zero))))] ?_
    exact A2 (I5 6 33 38 g10 fn0 (mk [true,true,true] rfl) rfl rfl rfl rfl rfl)
   refine ip' 1 4 [(39,bv (((!(E4 (⟨0,9999⟩:Spn) an))||(!(E4 (⟨0,1⟩:Spn) am)))||(!(decide (acolor=Col.zero)))))] ?_
   refine zio 4 0 39 43 (!(decide (atext=([]:List UInt8)))) (fun g11=>?_) ?_
   ·have g11p:=g11;try simp only [Bool.and_eq_true,Bool.or_eq_true,Bool.and_eq_false_iff,Bool.or_eq_false_iff,Bool.not_eq_true',Bool.not_eq_false',decide_eq_true_eq,decide_eq_false_iff_not] at g11p
    refine ip' 1 3 [(40,pt b1 5)] ?_
    refine ix rfl (D6 (v:=sv atext) ty9 rfl rfl 2 rfl rfl) ?_
    refine ix rfl (B2q rfl rfl rfl) ?_
    refine ip' 1 0 [(43,bv (!(decide (atext=([]:List UInt8)))))] ?_
    exact A2 (I5 5 39 43 g11 fn0 (mk [true,true,true] rfl) rfl rfl rfl rfl rfl)
   refine ie ?_
   refine zjb rfl hR ?_ ?_<;>clear hR<;>intro hR h12
   ·have h12p:=h12;try simp only [Bool.and_eq_true,Bool.or_eq_true,Bool.and_eq_false_iff,Bool.or_eq_false_iff,Bool.not_eq_true',Bool.not_eq_false',decide_eq_true_eq,decide_eq_false_iff_not] at h12p
    refine A3 1 rfl (ip' 1 0 [(3,iv 200)] ?_)
    refine A2 (nx (A1 (sr 2 rfl (ip' 2 0 [(73,bv true)] ?_))))
    refine ie (H7 rfl (sr 1 rfl (ip' 1 0 [(2,iv 200)] ?_)))
    subst hR
    refine ie (A7 ?_)
    exact E6 hr hD
   have h12p:=h12;try simp only [Bool.and_eq_true,Bool.or_eq_true,Bool.and_eq_false_iff,Bool.or_eq_false_iff,Bool.not_eq_true',Bool.not_eq_false',decide_eq_true_eq,decide_eq_false_iff_not] at h12p
   refine A5 (nx (A1 (sr 2 rfl (ip' 2 0 [(73,bv false)] ?_))))
   refine ie (K6 rfl (A5 (nx (sr 1 rfl (ip' 1 0 [(2,iv 0)] ?_)))))
   subst hR
   refine ie (A7 ?_)
   exact E6 hr hD
 ·refine D0m 7 [bx b1 (F8 (⟨37,an,am,acolor,atext⟩:Act)) 81] (zml 10 134) rfl rfl rfl (by kernel_rfl) (by kernel_rfl) (by kernel_rfl) (A9s (cs:=[.nilFunc,.nilFunc]) C0o rfl) (fun b13=>(mk [false,true] rfl)) (fun b13=>fn0) fun b13=>?_
  refine zho 0 [bx b1 (F8 (⟨37,an,am,acolor,atext⟩:Act)) 81] (zml 10 135) rfl (I1 (L2:=[bx b13 [.nilFunc,.nilFunc] 120,bx b1 (F8 (⟨37,an,am,acolor,atext⟩:Act)) 81]) (A6v _ rfl) rfl rfl rfl rfl rfl fn0 (List.Perm.refl _) (fun b14=>[(b14,.map (B9 C9k 0).toArray 41),bx b13 [.nilFunc,.nilFunc] 120,bx b1 (F8 (⟨37,an,am,acolor,atext⟩:Act)) 81]) (fun _=>rfl)) (fun b14=>(mk [false,false,true] rfl)) (fun b14=>fn0) fun b14=>?_
  refine zho 3 [bx b1 (F8 (⟨37,an,am,acolor,atext⟩:Act)) 81] (zml 10 143) rfl (Det.tri (I3.det (A5a (v:=ag [.func (.func 128) #[ag (C0 (⟨0,9999⟩:Spn))] #[],.func (.func 128) #[ag (C0 (⟨0,1⟩:Spn))] #[]]) (j:=39) J3 rfl rfl rfl 0 rfl (by kernel_rfl)))) (fun _=>(mk [false,false,true] rfl)) (fun _=>fn0) fun _=>?_
  refine zhp [4,5,6] 2 (zml 10 255) [(13,ag [.func (.func 128) #[ag (C0 (⟨0,9999⟩:Spn))] #[],.func (.func 128) #[ag (C0 (⟨0,1⟩:Spn))] #[]]),(14,bv true)] ?_
  refine zho 8 [bx b1 (F8 (⟨37,an,am,acolor,atext⟩:Act)) 81] (zml 10 511) rfl (L5 (us:=[.func (.func 128) #[ag (C0 (⟨0,9999⟩:Spn))] #[],.func (.func 128) #[ag (C0 (⟨0,1⟩:Spn))] #[]]) (cs':=[.func (.func 128) #[ag (C0 (⟨0,9999⟩:Spn))] #[],.func (.func 128) #[ag (C0 (⟨0,1⟩:Spn))] #[]]) C8l rfl rfl rfl 1 rfl rfl rfl rfl rfl rfl) (fun _=>(mk [false,false,true] rfl)) (fun _=>fn0) fun _=>?_
  refine zhp [9] 0 (zml 10 1023) [(5,bv true)] ?_
  refine A9z (by kernel_rfl) ?_
  refine sr 29 rfl (ip' 4 25 [(17,bv false),(18,pt b13 0)] ?_)
  refine ix rfl (D6 (v:=.func (.func 128) #[ag (C0 (⟨0,9999⟩:Spn))] #[]) D2f rfl rfl 1 rfl rfl) ?_
  refine ip' 1 23 [(20,pt b1 1)] ?_
  refine ix rfl (D6 (v:=iv an) ty3 rfl rfl 2 rfl rfl) ?_
  refine zca (R0 (⟨0,9999⟩:Spn) an _ rfl) fn0 ?_
  refine ip' 3 18 [(25,bv (!(E4 (⟨0,9999⟩:Spn) an)))] ?_
  refine zio 7 11 25 32 (!(E4 (⟨0,1⟩:Spn) am)) (fun g15=>?_) ?_
  ·refine ip' 1 6 [(26,pt b13 1)] ?_
   refine ix rfl (D6 (v:=.func (.func 128) #[ag (C0 (⟨0,1⟩:Spn))] #[]) D2f rfl rfl 1 rfl rfl) ?_
   refine ip' 1 4 [(28,pt b1 2)] ?_
   refine ix rfl (D6 (v:=iv am) ty3 rfl rfl 2 rfl rfl) ?_
   refine zca (R0 (⟨0,1⟩:Spn) am _ rfl) fn0 ?_
   refine ip' 2 0 [(32,bv (!(E4 (⟨0,1⟩:Spn) am)))] ?_
   exact A2 (I5 7 25 32 g15 fn0 (mk [true,true,true] rfl) rfl rfl rfl rfl rfl)
  refine ip' 1 10 [(33,bv ((!(E4 (⟨0,9999⟩:Spn) an))||(!(E4 (⟨0,1⟩:Spn) am))))] ?_
  refine zio 5 5 33 38 (!(decide (acolor=Col.zero))) (fun g16=>?_) ?_
  ·have g16p:=g16;try simp only [Bool.and_eq_true,Bool.or_eq_true,Bool.and_eq_false_iff,Bool.or_eq_false_iff,Bool.not_eq_true',Bool.not_eq_false',decide_eq_true_eq,decide_eq_false_iff_not] at g16p
   refine ip' 1 4 [(34,pt b1 3)] ?_
   refine ix rfl (M3 (us:=U8 acolor) C1e rfl rfl 2 rfl rfl rfl) ?_
   refine zrl 1 2 [] [(36,ag (U8 Col.zero))] ?_
   refine ix rfl (A0c (a:=acolor) (b:=Col.zero) C9r rfl rfl rfl) ?_
   refine ip' 1 0 [(38,bv (!(decide (acolor=Col.zero))))] ?_
   exact A2 (I5 6 33 38 g16 fn0 (mk [true,true,true] rfl) rfl rfl rfl rfl rfl)
  refine ip' 1 4 [(39,bv (((!(E4 (⟨0,9999⟩:Spn) an))||(!(E4 (⟨0,1⟩:Spn) am)))||(!(decide (acolor=Col.zero)))))] ?_
  refine zio 4 0 39 43 (!(decide (atext=([]:List UInt8)))) (fun g17=>?_) ?_
  ·have g17p:=g17;try simp only [Bool.and_eq_true,Bool.or_eq_true,Bool.and_eq_false_iff,Bool.or_eq_false_iff,Bool.not_eq_true',Bool.not_eq_false',decide_eq_true_eq,decide_eq_false_iff_not] at g17p
   refine ip' 1 3 [(40,pt b1 5)] ?_
   refine ix rfl (D6 (v:=sv atext) ty9 rfl rfl 2 rfl rfl) ?_
   refine ix rfl (B2q rfl rfl rfl) ?_
   refine ip' 1 0 [(43,bv (!(decide (atext=([]:List UInt8)))))] ?_
   exact A2 (I5 5 39 43 g17 fn0 (mk [true,true,true] rfl) rfl rfl rfl rfl rfl)
  refine ie ?_
  refine zjb rfl hR ?_ ?_<;>clear hR<;>intro hR h18
  ·have h18p:=h18;try simp only [Bool.and_eq_true,Bool.or_eq_true,Bool.and_eq_false_iff,Bool.or_eq_false_iff,Bool.not_eq_true',Bool.not_eq_false',decide_eq_true_eq,decide_eq_false_iff_not] at h18p
   refine A3 1 rfl (ip' 1 0 [(3,iv 200)] ?_)
   refine A2 (nx (A1 (sr 2 rfl (ip' 2 0 [(73,bv true)] ?_))))
   refine ie (H7 rfl (sr 1 rfl (ip' 1 0 [(2,iv 200)] ?_)))
   subst hR
   refine ie (A7 ?_)
   exact E6 hr hD
  have h18p:=h18;try simp only [Bool.and_eq_true,Bool.or_eq_true,Bool.and_eq_false_iff,Bool.or_eq_false_iff,Bool.not_eq_true',Bool.not_eq_false',decide_eq_true_eq,decide_eq_false_iff_not] at h18p
  refine A5 (nx (A1 (sr 2 rfl (ip' 2 0 [(73,bv false)] ?_))))
  refine ie (K6 rfl (A5 (nx (sr 1 rfl (ip' 1 0 [(2,iv 0)] ?_)))))
  subst hR
  refine ie (A7 ?_)
  exact E6 hr hD
def A9:Unit :=
 ()
set_option maxHeartbeats 1000000 in
theorem B2y (R:Unit) (hR:A9=R):Con Tryz.prog 134 [] [] [] (Nat) (fun x=>.map (some x)) (fun x=>[(x,.map #[⟨iv 1,.func (.func 201) #[] #[],0⟩,⟨iv 34,.func (.func 202) #[] #[],1⟩,⟨iv 3,.func (.func 203) #[] #[],2⟩,⟨iv 4,.func (.func 204) #[] #[],3⟩,⟨iv 24,.func (.func 204) #[] #[],4⟩,⟨iv 25,.func (.func 205) #[] #[],5⟩,⟨iv 6,.func (.func 206) #[] #[],6⟩,⟨iv 5,.func (.func 207) #[] #[],7⟩,⟨iv 8,.func (.func 208) #[] #[],8⟩,⟨iv 9,.func (.func 209) #[] #[],9⟩,⟨iv 11,.func (.func 210) #[] #[],10⟩,⟨iv 19,.func (.func 211) #[] #[],11⟩,⟨iv 23,.func (.func 212) #[] #[],12⟩,⟨iv 22,.func (.func 213) #[] #[],13⟩,⟨iv 20,.func (.func 214) #[] #[],14⟩,⟨iv 21,.func (.func 215) #[] #[],15⟩,⟨iv 38,.func (.func 216) #[] #[],16⟩,⟨iv 26,.func (.func 217) #[] #[],17⟩,⟨iv 27,.func (.func 218) #[] #[],18⟩,⟨iv 30,.func (.func 219) #[] #[],19⟩,⟨iv 28,.func (.func 220) #[] #[],20⟩,⟨iv 29,.func (.func 221) #[] #[],21⟩,⟨iv 31,.func (.func 222) #[] #[],22⟩,⟨iv 32,.func (.func 223) #[] #[],23⟩,⟨iv 33,.func (.func 224) #[] #[],24⟩,⟨iv 16,.func (.func 225) #[] #[],25⟩,⟨iv 15,.func (.func 226) #[] #[],26⟩,⟨iv 10,.func (.func 227) #[] #[],27⟩,⟨iv 35,.func (.func 228) #[] #[],28⟩,⟨iv 17,.func (.func 229) #[] #[],29⟩,⟨iv 7,.func (.func 230) #[] #[],30⟩,⟨iv 18,.func (.func 231) #[] #[],31⟩,⟨iv 39,.func (.func 232) #[] #[],32⟩,⟨iv 40,.func (.func 233) #[] #[],33⟩,⟨iv 44,.func (.func 234) #[] #[],34⟩,⟨iv 14,.func (.func 235) #[] #[],35⟩,⟨iv 36,.func (.func 236) #[] #[],36⟩,⟨iv 37,.func (.func 237) #[] #[],37⟩,⟨iv 12,.func (.func 238) #[] #[],38⟩,⟨iv 13,.func (.func 239) #[] #[],39⟩] 40)]) (fun x=>[]):=by
 refine zco Tryz.func134 [] fun X hX hr hD=>?_
 replace hR:=(A9.eq_1 ..).symm.trans hR
 refine sr 1 rfl (ip' 1 0 [] ?_)
 refine ie (sr 43 rfl (it rfl (A9c rfl) fun b1=>?_))
 refine C4v (m:=2) (mo:=1) (es':=[⟨iv 1,.func (.func 201) #[] #[],0⟩,⟨iv 34,.func (.func 202) #[] #[],1⟩,⟨iv 3,.func (.func 203) #[] #[],2⟩,⟨iv 4,.func (.func 204) #[] #[],3⟩,⟨iv 24,.func (.func 204) #[] #[],4⟩,⟨iv 25,.func (.func 205) #[] #[],5⟩,⟨iv 6,.func (.func 206) #[] #[],6⟩,⟨iv 5,.func (.func 207) #[] #[],7⟩,⟨iv 8,.func (.func 208) #[] #[],8⟩,⟨iv 9,.func (.func 209) #[] #[],9⟩,⟨iv 11,.func (.func 210) #[] #[],10⟩,⟨iv 19,.func (.func 211) #[] #[],11⟩,⟨iv 23,.func (.func 212) #[] #[],12⟩,⟨iv 22,.func (.func 213) #[] #[],13⟩,⟨iv 20,.func (.func 214) #[] #[],14⟩,⟨iv 21,.func (.func 215) #[] #[],15⟩,⟨iv 38,.func (.func 216) #[] #[],16⟩,⟨iv 26,.func (.func 217) #[] #[],17⟩,⟨iv 27,.func (.func 218) #[] #[],18⟩,⟨iv 30,.func (.func 219) #[] #[],19⟩,⟨iv 28,.func (.func 220) #[] #[],20⟩,⟨iv 29,.func (.func 221) #[] #[],21⟩,⟨iv 31,.func (.func 222) #[] #[],22⟩,⟨iv 32,.func (.func 223) #[] #[],23⟩,⟨iv 33,.func (.func 224) #[] #[],24⟩,⟨iv 16,.func (.func 225) #[] #[],25⟩,⟨iv 15,.func (.func 226) #[] #[],26⟩,⟨iv 10,.func (.func 227) #[] #[],27⟩,⟨iv 35,.func (.func 228) #[] #[],28⟩,⟨iv 17,.func (.func 229) #[] #[],29⟩,⟨iv 7,.func (.func 230) #[] #[],30⟩,⟨iv 18,.func (.func 231) #[] #[],31⟩,⟨iv 39,.func (.func 232) #[] #[],32⟩,⟨iv 40,.func (.func 233) #[] #[],33⟩,⟨iv 44,.func (.func 234) #[] #[],34⟩,⟨iv 14,.func (.func 235) #[] #[],35⟩,⟨iv 36,.func (.func 236) #[] #[],36⟩,⟨iv 37,.func (.func 237) #[] #[],37⟩,⟨iv 12,.func (.func 238) #[] #[],38⟩,⟨iv 13,.func (.func 239) #[] #[],39⟩]) C8f rfl 0 40 1 0 [] _ rfl (by kernel_rfl) ?_
 refine C4b (L':=[(b1,.map #[⟨iv 1,.func (.func 201) #[] #[],0⟩,⟨iv 34,.func (.func 202) #[] #[],1⟩,⟨iv 3,.func (.func 203) #[] #[],2⟩,⟨iv 4,.func (.func 204) #[] #[],3⟩,⟨iv 24,.func (.func 204) #[] #[],4⟩,⟨iv 25,.func (.func 205) #[] #[],5⟩,⟨iv 6,.func (.func 206) #[] #[],6⟩,⟨iv 5,.func (.func 207) #[] #[],7⟩,⟨iv 8,.func (.func 208) #[] #[],8⟩,⟨iv 9,.func (.func 209) #[] #[],9⟩,⟨iv 11,.func (.func 210) #[] #[],10⟩,⟨iv 19,.func (.func 211) #[] #[],11⟩,⟨iv 23,.func (.func 212) #[] #[],12⟩,⟨iv 22,.func (.func 213) #[] #[],13⟩,⟨iv 20,.func (.func 214) #[] #[],14⟩,⟨iv 21,.func (.func 215) #[] #[],15⟩,⟨iv 38,.func (.func 216) #[] #[],16⟩,⟨iv 26,.func (.func 217) #[] #[],17⟩,⟨iv 27,.func (.func 218) #[] #[],18⟩,⟨iv 30,.func (.func 219) #[] #[],19⟩,⟨iv 28,.func (.func 220) #[] #[],20⟩,⟨iv 29,.func (.func 221) #[] #[],21⟩,⟨iv 31,.func (.func 222) #[] #[],22⟩,⟨iv 32,.func (.func 223) #[] #[],23⟩,⟨iv 33,.func (.func 224) #[] #[],24⟩,⟨iv 16,.func (.func 225) #[] #[],25⟩,⟨iv 15,.func (.func 226) #[] #[],26⟩,⟨iv 10,.func (.func 227) #[] #[],27⟩,⟨iv 35,.func (.func 228) #[] #[],28⟩,⟨iv 17,.func (.func 229) #[] #[],29⟩,⟨iv 7,.func (.func 230) #[] #[],30⟩,⟨iv 18,.func (.func 231) #[] #[],31⟩,⟨iv 39,.func (.func 232) #[] #[],32⟩,⟨iv 40,.func (.func 233) #[] #[],33⟩,⟨iv 44,.func (.func 234) #[] #[],34⟩,⟨iv 14,.func (.func 235) #[] #[],35⟩,⟨iv 36,.func (.func 236) #[] #[],36⟩,⟨iv 37,.func (.func 237) #[] #[],37⟩,⟨iv 12,.func (.func 238) #[] #[],38⟩,⟨iv 13,.func (.func 239) #[] #[],39⟩] 40)]) rfl ?_
 refine ip' 2 0 [(0,.map (some b1))] ?_
 subst hR
 refine ie (A7 ?_)
 exact zer hr hD (P8 rfl (B2 rfl)) b1 (mk [true] rfl) fn0
def A8r:Bool :=
 false
theorem B2x (R:Bool) (hR:A8r=R):J8 Tryz.prog 135 [iv 37] [] (bv R):=by
 refine zco Tryz.func135 [(0,iv 37)] fun X hX hr hD=>?_
 replace hR:=(A8r.eq_1 ..).symm.trans hR
 refine sr 1 rfl (ip' 1 0 [] ?_)
 refine ie (sr 7 rfl (ip' 7 0 [(2,bv false)] ?_))
 subst hR
 refine ie (A7 ?_)
 exact E6 hr hD
def A7g:Bool :=
 true
theorem B0p (R:Bool) (hR:A7g=R):J8 Tryz.prog 136 [ag (F8 (⟨37,1049,1,Col.zero,[]⟩:Act))] [] (bv R):=by
 refine zco Tryz.func136 [(0,ag (F8 (⟨37,1049,1,Col.zero,[]⟩:Act)))] fun X hX hr hD=>?_
 replace hR:=(A7g.eq_1 ..).symm.trans hR
 refine sr 2 rfl (K0 2 0 [] (fun b1=>[(1,pt b1 0)]) (fun b1=>[bx b1 (F8 (⟨37,1049,1,Col.zero,[]⟩:Act)) 81]) (fun b1=>?_))
 refine ie (A1 (sr 2 rfl (zrl 2 0 [0] [(5,iv 37)] ?_)))
 refine ie (B0 (sr 2 rfl (ip' 2 0 [(6,bv false)] ?_)))
 refine ie (K6 rfl (sr 2 rfl (ip' 2 0 [(11,bv true)] ?_)))
 refine ie (H7 rfl (sr 14 rfl (zrl 14 0 [0,0,0] [(2,bv true)] ?_)))
 subst hR
 refine ie (A7 ?_)
 exact E6 hr hD
def C9 (s:ScrC) (sMain:List (Rwc Cel)) (sAlt:List (Rwc Cel)) (sTabs:List Bool) (save:Bool):ScrC :=
 (bif save then {s with kept:=(⟨true,s.cursor,s.style,s.sets,s.modes.origin⟩:Sav)} else {s with cursor:=s.kept.cursor,style:=s.kept.style,sets:=s.kept.sets,modes:={s.modes with origin:=s.kept.origin}})
theorem A9y (s:ScrC) (sMain:List (Rwc Cel)) (sAlt:List (Rwc Cel)) (sTabs:List Bool) (save:Bool) (sb:Nat) (sMainq:Option Addr) (sMainrs:List Rwq) (sMaink:Nat) (sAltq:Option Addr) (sAltrs:List Rwq) (sAltk:Nat) (sTabsq:Option Addr) (sTabsk:Nat) (hrowssMainrs:C8 sMainrs sMain) (hlsMain:sMain.length≤9223372036854775807) (hcsMain:sMain.length≤sMaink) (hrowssAltrs:C8 sAltrs sAlt) (hlsAlt:sAlt.length≤9223372036854775807) (hcsAlt:sAlt.length≤sAltk) (hlsTabs:sTabs.length≤9223372036854775807) (hcsTabs:sTabs.length≤sTabsk) (R:ScrC) (hR:C9 s sMain sAlt sTabs save=R):Con Tryz.prog 302 [pt sb 0,pt sb 39,bv save] [bx sb (A6 s ⟨sMainq,sMain.length,sMaink⟩ ⟨sAltq,sAlt.length,sAltk⟩ ⟨none,0,0⟩ ⟨sTabsq,sTabs.length,sTabsk⟩) 114] [sl B7 sMainq sMainrs,C3 B4 sMainrs sMain,sl B7 sAltq sAltrs,C3 B4 sAltrs sAlt,sl D3 sTabsq sTabs] (Unit) (fun x=>.tuple #[]) (fun x=>[bx sb (A6 R ⟨sMainq,sMain.length,sMaink⟩ ⟨sAltq,sAlt.length,sAltk⟩ ⟨none,0,0⟩ ⟨sTabsq,sTabs.length,sTabsk⟩) 114]) (fun x=>[]):=by
 refine zco Tryz.func302 [(0,pt sb 0),(1,pt sb 39),(2,bv save)] fun X hX hr hD=>?_
 replace hR:=(C9.eq_1 ..).symm.trans hR
 have:=hrowssMainrs.1
 have:=hrowssAltrs.1
 refine A1 (sr 1 rfl (ip' 1 0 [(6,bv save)] ?_))
 refine ie ?_
 refine zjb rfl hR ?_ ?_<;>clear hR<;>intro hR h1
 ·refine sh 25 [(24,[bx sb (A6 s ⟨sMainq,sMain.length,sMaink⟩ ⟨sAltq,sAlt.length,sAltk⟩ ⟨none,0,0⟩ ⟨sTabsq,sTabs.length,sTabsk⟩) 114])] [sl B7 sMainq sMainrs,C3 B4 sMainrs sMain,sl B7 sAltq sAltrs,C3 B4 sAltrs sAlt,sl D3 sTabsq sTabs] [bx sb (A6 s ⟨sMainq,sMain.length,sMaink⟩ ⟨sAltq,sAlt.length,sAltk⟩ ⟨none,0,0⟩ ⟨sTabsq,sTabs.length,sTabsk⟩) 114] (zml 25 0) (by kernel_rfl) rfl (by kernel_rfl) (by kernel_rfl) (by kernel_rfl) (mk [true] rfl) A4.refl ?_
  refine zhp [0,1,2,3,4,6,7,8,9,11,12,13,14,16,17,18,19,20] 7 (zml 25 2063327) [(7,pt sb 39),(11,pt sb 6),(16,pt sb 9),(21,pt sb 17),(27,pt sb 27)] ?_
  refine zhl 5 [bx sb (A6 s ⟨sMainq,sMain.length,sMaink⟩ ⟨sAltq,sAlt.length,sAltk⟩ ⟨none,0,0⟩ ⟨sTabsq,sTabs.length,sTabsk⟩) 114] (zml 25 2063359) rfl (M3 (us:=A5l s.cursor) D0f rfl rfl 0 rfl rfl rfl) ?_
  refine zhl 10 [bx sb (A6 s ⟨sMainq,sMain.length,sMaink⟩ ⟨sAltq,sAlt.length,sAltk⟩ ⟨none,0,0⟩ ⟨sTabsq,sTabs.length,sTabsk⟩) 114] (zml 25 2064383) rfl (M3 (us:=G4 s.style) C4t rfl rfl 0 rfl rfl rfl) ?_
  refine zhl 15 [bx sb (A6 s ⟨sMainq,sMain.length,sMaink⟩ ⟨sAltq,sAlt.length,sAltk⟩ ⟨none,0,0⟩ ⟨sTabsq,sTabs.length,sTabsk⟩) 114] (zml 25 2097151) rfl (M3 (us:=A5p s.sets) C7y rfl rfl 0 rfl rfl rfl) ?_
  refine zhl 21 [bx sb (A6 s ⟨sMainq,sMain.length,sMaink⟩ ⟨sAltq,sAlt.length,sAltk⟩ ⟨none,0,0⟩ ⟨sTabsq,sTabs.length,sTabsk⟩) 114] (zml 25 4194303) rfl (D6 (v:=bv s.modes.origin) ty4 rfl rfl 0 rfl rfl) ?_
  refine zhk 22 (zml 25 8388607) rfl (A9t (cs:=X7 (⟨true,s.cursor,s.style,s.sets,s.modes.origin⟩:Sav)) rfl rfl (by kernel_rfl)) ?_
  refine zhp [23] 1 (zml 25 16777215) [(30,pt sb 39)] ?_
  refine zho 24 [] (zml 25 33554431) rfl (L5 (us:=X7 (⟨true,s.cursor,s.style,s.sets,s.modes.origin⟩:Sav)) (cs':=A6 ({s with kept:=(⟨true,s.cursor,s.style,s.sets,s.modes.origin⟩:Sav)}) ⟨sMainq,sMain.length,sMaink⟩ ⟨sAltq,sAlt.length,sAltk⟩ ⟨none,0,0⟩ ⟨sTabsq,sTabs.length,sTabsk⟩) D4s rfl rfl rfl 0 rfl rfl rfl rfl rfl rfl) (fun _=>(mk [false] rfl)) (fun _=>A4.refl) fun _=>?_
  refine A9z (by kernel_rfl) ?_
  subst hR
  refine A7 ?_
  exact zer hr hD (B1v rfl) () (mk [true] rfl) fn0
 refine A5 (nx (sh' 37 [(23,[bx sb (A6 s ⟨sMainq,sMain.length,sMaink⟩ ⟨sAltq,sAlt.length,sAltk⟩ ⟨none,0,0⟩ ⟨sTabsq,sTabs.length,sTabsk⟩) 114])] [sl B7 sMainq sMainrs,C3 B4 sMainrs sMain,sl B7 sAltq sAltrs,C3 B4 sAltrs sAlt,sl D3 sTabsq sTabs] [bx sb (A6 s ⟨sMainq,sMain.length,sMaink⟩ ⟨sAltq,sAlt.length,sAltk⟩ ⟨none,0,0⟩ ⟨sTabsq,sTabs.length,sTabsk⟩) 114] (zml 37 0) (by kernel_rfl) rfl (by kernel_rfl) (by kernel_rfl) (by kernel_rfl) (mk [true] rfl) A4.refl ?_))
 refine zhp [0,1,2,3,4,5,6,8,9,10,12,13,14,16,17,18] 21 (zml 37 489343) [(31,pt sb 0),(32,pt sb 0),(33,pt sb 0),(34,pt sb 0),(37,pt sb 40),(41,pt sb 43),(45,pt sb 51),(49,pt sb 57)] ?_
 refine zhl 7 [bx sb (A6 s ⟨sMainq,sMain.length,sMaink⟩ ⟨sAltq,sAlt.length,sAltk⟩ ⟨none,0,0⟩ ⟨sTabsq,sTabs.length,sTabsk⟩) 114] (zml 37 489471) rfl (M3 (us:=A5l s.kept.cursor) D0f rfl rfl 0 rfl rfl rfl) ?_
 refine zhl 11 [bx sb (A6 s ⟨sMainq,sMain.length,sMaink⟩ ⟨sAltq,sAlt.length,sAltk⟩ ⟨none,0,0⟩ ⟨sTabsq,sTabs.length,sTabsk⟩) 114] (zml 37 491519) rfl (M3 (us:=G4 s.kept.style) C4t rfl rfl 0 rfl rfl rfl) ?_
 refine zhl 15 [bx sb (A6 s ⟨sMainq,sMain.length,sMaink⟩ ⟨sAltq,sAlt.length,sAltk⟩ ⟨none,0,0⟩ ⟨sTabsq,sTabs.length,sTabsk⟩) 114] (zml 37 524287) rfl (M3 (us:=A5p s.kept.sets) C7y rfl rfl 0 rfl rfl rfl) ?_
 refine zhl 19 [bx sb (A6 s ⟨sMainq,sMain.length,sMaink⟩ ⟨sAltq,sAlt.length,sAltk⟩ ⟨none,0,0⟩ ⟨sTabsq,sTabs.length,sTabsk⟩) 114] (zml 37 1048575) rfl (D6 (v:=bv s.kept.origin) ty4 rfl rfl 0 rfl rfl) ?_
 refine zhp [20,21,22] 14 (zml 37 8388607) [(53,pt sb 6)] ?_
 refine zho 23 [] (zml 37 16777215) rfl (L5 (us:=A5l s.kept.cursor) (cs':=A6 ({s with cursor:=s.kept.cursor}) ⟨sMainq,sMain.length,sMaink⟩ ⟨sAltq,sAlt.length,sAltk⟩ ⟨none,0,0⟩ ⟨sTabsq,sTabs.length,sTabsk⟩) D0f rfl rfl rfl 0 rfl rfl rfl rfl rfl rfl) (fun _=>(mk [false] rfl)) (fun _=>A4.refl) fun _=>?_
 refine zhp [24,25,26] 10 (zml 37 134217727) [(56,pt sb 9)] ?_
 refine zho 27 [] (zml 37 268435455) rfl (L5 (us:=G4 s.kept.style) (cs':=A6 ({s with cursor:=s.kept.cursor,style:=s.kept.style}) ⟨sMainq,sMain.length,sMaink⟩ ⟨sAltq,sAlt.length,sAltk⟩ ⟨none,0,0⟩ ⟨sTabsq,sTabs.length,sTabsk⟩) C4t rfl rfl rfl 0 rfl rfl rfl rfl rfl rfl) (fun _=>(mk [false] rfl)) (fun _=>A4.refl) fun _=>?_
 refine zhp [28,29,30] 6 (zml 37 2147483647) [(59,pt sb 17)] ?_
 refine zho 31 [] (zml 37 4294967295) rfl (L5 (us:=A5p s.kept.sets) (cs':=A6 ({s with cursor:=s.kept.cursor,style:=s.kept.style,sets:=s.kept.sets}) ⟨sMainq,sMain.length,sMaink⟩ ⟨sAltq,sAlt.length,sAltk⟩ ⟨none,0,0⟩ ⟨sTabsq,sTabs.length,sTabsk⟩) C7y rfl rfl rfl 0 rfl rfl rfl rfl rfl rfl) (fun _=>(mk [false] rfl)) (fun _=>A4.refl) fun _=>?_
 refine zhp [32,33,34,35] 1 (zml 37 68719476735) [(63,pt sb 27)] ?_
 refine zho 36 [] (zml 37 137438953471) rfl (L5 (us:=[bv s.kept.origin]) (cs':=A6 ({s with cursor:=s.kept.cursor,style:=s.kept.style,sets:=s.kept.sets,modes:={s.modes with origin:=s.kept.origin}}) ⟨sMainq,sMain.length,sMaink⟩ ⟨sAltq,sAlt.length,sAltk⟩ ⟨none,0,0⟩ ⟨sTabsq,sTabs.length,sTabsk⟩) ty4 rfl rfl rfl 0 rfl rfl rfl rfl rfl rfl) (fun _=>(mk [false] rfl)) (fun _=>A4.refl) fun _=>?_
 refine B5l (by kernel_rfl) ?_
 subst hR
 exact zen hr hD (B1v rfl) () (mk [true] rfl) fn0
def V4 (s:ScrC) (sMain:List (Rwc Cel)) (sAlt:List (Rwc Cel)) (sTabs:List Bool):List (Rwc Cel) :=
 (D5 (A2p s.cols s.rows Sty.zero) fun (y6:List (Rwc Cel)×Int)=>y6.1)
theorem A7e (s:ScrC) (sMain:List (Rwc Cel)) (sAlt:List (Rwc Cel)) (sTabs:List Bool) (sb:Nat) (sMainq:Option Addr) (sMainrs:List Rwq) (sMaink:Nat) (sAltq:Option Addr) (sAltrs:List Rwq) (sAltk:Nat) (sTabsq:Option Addr) (sTabsk:Nat) (hrowssMainrs:C8 sMainrs sMain) (hlsMain:sMain.length≤9223372036854775807) (hcsMain:sMain.length≤sMaink) (hrowssAltrs:C8 sAltrs sAlt) (hlsAlt:sAlt.length≤9223372036854775807) (hcsAlt:sAlt.length≤sAltk) (hlsTabs:sTabs.length≤9223372036854775807) (hcsTabs:sTabs.length≤sTabsk) (R:List (Rwc Cel)) (hR:V4 s sMain sAlt sTabs=R):Con Tryz.prog 301 [pt sb 0] [bx sb (A6 s ⟨sMainq,sMain.length,sMaink⟩ ⟨sAltq,sAlt.length,sAltk⟩ ⟨none,0,0⟩ ⟨sTabsq,sTabs.length,sTabsk⟩) 114] [sl B7 sMainq sMainrs,C3 B4 sMainrs sMain,sl B7 sAltq sAltrs,C3 B4 sAltrs sAlt,sl D3 sTabsq sTabs] ({t:VR×List Rwq // VOk 2 R.length t.1∧C8 t.2 R}) (fun x=>.tuple #[]) (fun x=>(bx sb (A6 s ⟨sMainq,sMain.length,sMaink⟩ ⟨va x.1.1.q,R.length,x.1.1.k⟩ ⟨none,0,0⟩ ⟨sTabsq,sTabs.length,sTabsk⟩) 114::(vo B7 78 x.1.1 x.1.2)++([]))) (fun x=>[C3 B4 x.1.2 R]):=by
 refine zco Tryz.func301 [(0,pt sb 0)] fun X hX hr hD=>?_
 replace hR:=(V4.eq_1 ..).symm.trans hR
 have:=hrowssMainrs.1
 have:=hrowssAltrs.1
 refine sh' 20 [(19,[bx sb (A6 s ⟨sMainq,sMain.length,sMaink⟩ ⟨sAltq,sAlt.length,sAltk⟩ ⟨none,0,0⟩ ⟨sTabsq,sTabs.length,sTabsk⟩) 114])] [sl B7 sMainq sMainrs,C3 B4 sMainrs sMain,sl B7 sAltq sAltrs,C3 B4 sAltrs sAlt,sl D3 sTabsq sTabs] [bx sb (A6 s ⟨sMainq,sMain.length,sMaink⟩ ⟨sAltq,sAlt.length,sAltk⟩ ⟨none,0,0⟩ ⟨sTabsq,sTabs.length,sTabsk⟩) 114] (zml 20 0) (by kernel_rfl) rfl (by kernel_rfl) (by kernel_rfl) (by kernel_rfl) (mk [true] rfl) A4.refl ?_
 refine zhp [0,1,2,3,4,6,7,8,9] 11 (zml 20 991) [(3,pt sb 0),(7,pt sb 0),(12,pt sb 1)] ?_
 refine zhl 5 [bx sb (A6 s ⟨sMainq,sMain.length,sMaink⟩ ⟨sAltq,sAlt.length,sAltk⟩ ⟨none,0,0⟩ ⟨sTabsq,sTabs.length,sTabsk⟩) 114] (zml 20 1023) rfl (D6 (v:=iv s.cols) ty3 rfl rfl 0 rfl rfl) ?_
 refine zhl 10 [bx sb (A6 s ⟨sMainq,sMain.length,sMaink⟩ ⟨sAltq,sAlt.length,sAltk⟩ ⟨none,0,0⟩ ⟨sTabsq,sTabs.length,sTabsk⟩) 114] (zml 20 2047) rfl (D6 (v:=iv s.rows) ty3 rfl rfl 0 rfl rfl) ?_
 refine zhk 11 (zml 20 4095) rfl (A9t (cs:=G4 Sty.zero) rfl rfl (by kernel_rfl)) ?_
 have hQ:=F5 hR;clear hR;obtain ⟨y6,hy6,hR⟩:=hQ
 refine zho 12 [bx sb (A6 s ⟨sMainq,sMain.length,sMaink⟩ ⟨sAltq,sAlt.length,sAltk⟩ ⟨none,0,0⟩ ⟨sTabsq,sTabs.length,sTabsk⟩) 114] (zml 20 8191) rfl (H2 (L2:=[bx sb (A6 s ⟨sMainq,sMain.length,sMaink⟩ ⟨sAltq,sAlt.length,sAltk⟩ ⟨none,0,0⟩ ⟨sTabsq,sTabs.length,sTabsk⟩) 114]) (B1a s.cols s.rows Sty.zero y6 hy6) rfl rfl rfl rfl rfl fn0 (List.Perm.refl _) (fun ⟨⟨r1,rs2⟩,hp5⟩=>(bx sb (A6 s ⟨sMainq,sMain.length,sMaink⟩ ⟨sAltq,sAlt.length,sAltk⟩ ⟨none,0,0⟩ ⟨sTabsq,sTabs.length,sTabsk⟩) 114::(vo B7 78 r1 rs2)++([]))) (fun ⟨⟨r1,rs2⟩,hp5⟩=>H5 [vo B7 78 r1 rs2,[bx sb (A6 s ⟨sMainq,sMain.length,sMaink⟩ ⟨sAltq,sAlt.length,sAltk⟩ ⟨none,0,0⟩ ⟨sTabsq,sTabs.length,sTabsk⟩) 114]] [1,0] 2 rfl (by decide) (by first|rfl|simp only [List.flatten_cons,List.flatten_nil,List.append_nil,List.cons_append,List.nil_append,List.append_assoc]) [[bx sb (A6 s ⟨sMainq,sMain.length,sMaink⟩ ⟨sAltq,sAlt.length,sAltk⟩ ⟨none,0,0⟩ ⟨sTabsq,sTabs.length,sTabsk⟩) 114],vo B7 78 r1 rs2] rfl (by first|rfl|simp only [List.flatten_cons,List.flatten_nil,List.append_nil,List.cons_append,List.nil_append,List.append_assoc]))) (fun ⟨⟨r1,rs2⟩,hp5⟩=>(mc [[bx sb (A6 s ⟨sMainq,sMain.length,sMaink⟩ ⟨sAltq,sAlt.length,sAltk⟩ ⟨none,0,0⟩ ⟨sTabsq,sTabs.length,sTabsk⟩) 114],vo B7 78 r1 rs2] [true,false] rfl (by first|rfl|(simp only [List.length_set]<;>rfl)))) (fun ⟨⟨r1,rs2⟩,hp5⟩=>(A4.pick [1,2,3,4,5] rfl)) fun ⟨⟨r1,rs2⟩,hp5⟩=>?_
 try dsimp only at hp5
 obtain ⟨hk3,hw4⟩:=hp5
 have:=VOk.le hk3
 have:=VOk.cap hk3
 have:=hw4.1
 refine zhp [13,14,15,16,17,18] 1 (zml 20 524287) [(16,.slice (va r1.q) y6.1.length r1.k),(20,pt sb 3)] ?_
 refine zho 19 [] (zml 20 1048575) rfl (L5 (us:=[.slice (va r1.q) y6.1.length r1.k]) (cs':=A6 s ⟨sMainq,sMain.length,sMaink⟩ ⟨va r1.q,y6.1.length,r1.k⟩ ⟨none,0,0⟩ ⟨sTabsq,sTabs.length,sTabsk⟩) D7a rfl rfl rfl 0 rfl rfl rfl rfl rfl rfl) (fun _=>(List.nil_sublist _)) (fun _=>(A4.pick [1,2,3,4,5] rfl)) fun _=>?_
 refine B5l (by kernel_rfl) ?_
 subst hR
 exact zen hr hD (B1v rfl) ⟨(r1,rs2),⟨hk3,hw4⟩⟩ (mc [[bx sb (A6 s ⟨sMainq,sMain.length,sMaink⟩ ⟨va r1.q,y6.1.length,r1.k⟩ ⟨none,0,0⟩ ⟨sTabsq,sTabs.length,sTabsk⟩) 114],vo B7 78 r1 rs2] [true,true] rfl (by first|rfl|(simp only [List.length_set]<;>rfl))) (A4.con1 (B5 0 rfl) fn0)
def A0v (s:ScrC) (sMain:List (Rwc Cel)) (sAlt:List (Rwc Cel)) (sTabs:List Bool):ScrC×List (Rwc Cel) :=
 (bif (true == s.onAlt) then (s,sAlt) else (D5 (V4 ({(C9 ({s with onAlt:=true}) sMain sAlt sTabs true) with cursor:={(C9 ({s with onAlt:=true}) sMain sAlt sTabs true).cursor with wrap:=false}}) sMain sAlt sTabs) fun (y5:List (Rwc Cel))=>({(C9 ({s with onAlt:=true}) sMain sAlt sTabs true) with cursor:={(C9 ({s with onAlt:=true}) sMain sAlt sTabs true).cursor with wrap:=false}},y5)))
theorem B1d (s:ScrC) (sMain:List (Rwc Cel)) (sAlt:List (Rwc Cel)) (sTabs:List Bool) (sb:Nat) (sMainq:Option Addr) (sMainrs:List Rwq) (sMaink:Nat) (sAltq:Option Addr) (sAltrs:List Rwq) (sAltk:Nat) (sTabsq:Option Addr) (sTabsk:Nat) (hrowssMainrs:C8 sMainrs sMain) (hlsMain:sMain.length≤9223372036854775807) (hcsMain:sMain.length≤sMaink) (hrowssAltrs:C8 sAltrs sAlt) (hlsAlt:sAlt.length≤9223372036854775807) (hcsAlt:sAlt.length≤sAltk) (hlsTabs:sTabs.length≤9223372036854775807) (hcsTabs:sTabs.length≤sTabsk) (R:ScrC×List (Rwc Cel)) (hR:A0v s sMain sAlt sTabs=R):Con Tryz.prog 237 [pt sb 0,ag (F8 (⟨37,1049,1,Col.zero,[]⟩:Act))] [bx sb (A6 s ⟨sMainq,sMain.length,sMaink⟩ ⟨sAltq,sAlt.length,sAltk⟩ ⟨none,0,0⟩ ⟨sTabsq,sTabs.length,sTabsk⟩) 114] [sl B7 sMainq sMainrs,C3 B4 sMainrs sMain,sl B7 sAltq sAltrs,C3 B4 sAltrs sAlt,sl D3 sTabsq sTabs] ({t:Option Addr×List Rwq×Nat // C8 t.2.1 R.2∧R.2.length≤t.2.2∧R.2.length≤9223372036854775807}) (fun x=>.tuple #[]) (fun x=>[bx sb (A6 R.1 ⟨sMainq,sMain.length,sMaink⟩ ⟨x.1.1,R.2.length,x.1.2.2⟩ ⟨none,0,0⟩ ⟨sTabsq,sTabs.length,sTabsk⟩) 114]) (fun x=>[sl B7 x.1.1 x.1.2.1,C3 B4 x.1.2.1 R.2]):=by
 refine zco Tryz.func237 [(0,pt sb 0),(1,ag (F8 (⟨37,1049,1,Col.zero,[]⟩:Act)))] fun X hX hr hD=>?_
 replace hR:=(A0v.eq_1 ..).symm.trans hR
 have:=hrowssMainrs.1
 have:=hrowssAltrs.1
 refine sr 1 rfl (K0 1 0 [] (fun b1=>[(3,pt b1 0)]) (fun b1=>[bx b1 (F8 (⟨37,1049,1,Col.zero,[]⟩:Act)) 81,bx sb (A6 s ⟨sMainq,sMain.length,sMaink⟩ ⟨sAltq,sAlt.length,sAltk⟩ ⟨none,0,0⟩ ⟨sTabsq,sTabs.length,sTabsk⟩) 114]) (fun b1=>?_))
 refine ie (sr 4 rfl (zrl 4 0 [0] [(4,bv true)] ?_))
 refine ie (sr 2 rfl (zrl 2 0 [0] [(9,iv 1049)] ?_))
 refine ie (B0 (sr 2 rfl (ip' 2 0 [(40,bv false)] ?_)))
 refine ie (K6 rfl (sr 2 rfl (ip' 2 0 [(58,bv false)] ?_)))
 refine ie (K6 rfl (sr 2 rfl (ip' 2 0 [(65,bv false)] ?_)))
 refine ie (K6 rfl (sr 2 rfl (ip' 2 0 [(74,bv true)] ?_)))
 refine ie (H7 rfl (A1 (sr 7 rfl (zrl 6 1 [1] [(76,bv true),(81,bv s.onAlt)] ?_))))
 refine ix rfl (C5y Tryz.underlying4 rfl rfl rfl) ?_
 refine ie ?_
 refine zjb rfl hR ?_ ?_<;>clear hR<;>intro hR h2
 ·subst hR
  refine A7 ?_
  exact zer hr hD (B1v rfl) ⟨(sAltq,sAltrs,sAltk),⟨hrowssAltrs,(by first|omega|(simp only [List.length_take,List.length_drop,List.length_append,List.length_cons,List.length_nil,List.length_set,List.length_map,B1,A8,A9];omega)|decide),(by first|omega|(simp only [List.length_take,List.length_drop,List.length_append,List.length_cons,List.length_nil,List.length_set,List.length_map,B1,A8,A9];omega)|decide)⟩⟩ (mk [false,true] rfl) (A4.con1 (B5 2 rfl) (A4.con1 (B5 3 rfl) fn0))
 refine A5 (nx (sr 6 rfl (zrg 6 0 [1] [] [bx b1 (F8 (⟨37,1049,1,Col.zero,[]⟩:Act)) 81,bx sb (A6 ({s with onAlt:=true}) ⟨sMainq,sMain.length,sMaink⟩ ⟨sAltq,sAlt.length,sAltk⟩ ⟨none,0,0⟩ ⟨sTabsq,sTabs.length,sTabsk⟩) 114] ?_)))
 refine ie (sr 7 rfl (ip' 6 1 [(88,pt sb 0),(92,pt sb 39),(93,bv true)] ?_))
 refine it rfl (I1 (L2:=[bx b1 (F8 (⟨37,1049,1,Col.zero,[]⟩:Act)) 81]) (A9y ({s with onAlt:=true}) sMain sAlt sTabs true sb sMainq sMainrs sMaink sAltq sAltrs sAltk sTabsq sTabsk hrowssMainrs (by first|omega|(simp only [List.length_take,List.length_drop,List.length_append,List.length_cons,List.length_nil,List.length_set,List.length_map,B1,A8,A9];omega)|decide) (by first|omega|(simp only [List.length_take,List.length_drop,List.length_append,List.length_cons,List.length_nil,List.length_set,List.length_map,B1,A8,A9];omega)|decide) hrowssAltrs (by first|omega|(simp only [List.length_take,List.length_drop,List.length_append,List.length_cons,List.length_nil,List.length_set,List.length_map,B1,A8,A9];omega)|decide) (by first|omega|(simp only [List.length_take,List.length_drop,List.length_append,List.length_cons,List.length_nil,List.length_set,List.length_map,B1,A8,A9];omega)|decide) (by first|omega|(simp only [List.length_take,List.length_drop,List.length_append,List.length_cons,List.length_nil,List.length_set,List.length_map,B1,A8,A9];omega)|decide) (by first|omega|(simp only [List.length_take,List.length_drop,List.length_append,List.length_cons,List.length_nil,List.length_set,List.length_map,B1,A8,A9];omega)|decide) _ rfl) rfl rfl rfl rfl rfl A4.refl (H5 [[bx b1 (F8 (⟨37,1049,1,Col.zero,[]⟩:Act)) 81],[bx sb (A6 ({s with onAlt:=true}) ⟨sMainq,sMain.length,sMaink⟩ ⟨sAltq,sAlt.length,sAltk⟩ ⟨none,0,0⟩ ⟨sTabsq,sTabs.length,sTabsk⟩) 114]] [1,0] 2 rfl (by decide) rfl [[bx sb (A6 ({s with onAlt:=true}) ⟨sMainq,sMain.length,sMaink⟩ ⟨sAltq,sAlt.length,sAltk⟩ ⟨none,0,0⟩ ⟨sTabsq,sTabs.length,sTabsk⟩) 114],[bx b1 (F8 (⟨37,1049,1,Col.zero,[]⟩:Act)) 81]] rfl (by first|rfl|simp only [List.flatten_cons,List.flatten_nil,List.append_nil,List.cons_append,List.nil_append,List.append_assoc])) (fun _=>[bx sb (A6 (C9 ({s with onAlt:=true}) sMain sAlt sTabs true) ⟨sMainq,sMain.length,sMaink⟩ ⟨sAltq,sAlt.length,sAltk⟩ ⟨none,0,0⟩ ⟨sTabsq,sTabs.length,sTabsk⟩) 114,bx b1 (F8 (⟨37,1049,1,Col.zero,[]⟩:Act)) 81]) (fun _=>rfl)) fun _=>?_
 refine ie (sr 1 rfl (ip' 1 0 [(95,bv true)] ?_))
 refine ie (H7 rfl (sr 6 rfl (zrg 6 0 [0] [] [bx sb (A6 ({(C9 ({s with onAlt:=true}) sMain sAlt sTabs true) with cursor:={(C9 ({s with onAlt:=true}) sMain sAlt sTabs true).cursor with wrap:=false}}) ⟨sMainq,sMain.length,sMaink⟩ ⟨sAltq,sAlt.length,sAltk⟩ ⟨none,0,0⟩ ⟨sTabsq,sTabs.length,sTabsk⟩) 114,bx b1 (F8 (⟨37,1049,1,Col.zero,[]⟩:Act)) 81] ?_)))
 refine ie (A3 2 rfl (ip' 1 1 [(101,pt sb 0)] ?_))
 have hQ:=F5 hR;clear hR;obtain ⟨y5,hy5,hR⟩:=hQ
 refine it rfl (H2 (L2:=[bx b1 (F8 (⟨37,1049,1,Col.zero,[]⟩:Act)) 81]) (A7e ({(C9 ({s with onAlt:=true}) sMain sAlt sTabs true) with cursor:={(C9 ({s with onAlt:=true}) sMain sAlt sTabs true).cursor with wrap:=false}}) sMain sAlt sTabs sb sMainq sMainrs sMaink sAltq sAltrs sAltk sTabsq sTabsk hrowssMainrs (by first|omega|(simp only [List.length_take,List.length_drop,List.length_append,List.length_cons,List.length_nil,List.length_set,List.length_map,B1,A8,A9];omega)|decide) (by first|omega|(simp only [List.length_take,List.length_drop,List.length_append,List.length_cons,List.length_nil,List.length_set,List.length_map,B1,A8,A9];omega)|decide) hrowssAltrs (by first|omega|(simp only [List.length_take,List.length_drop,List.length_append,List.length_cons,List.length_nil,List.length_set,List.length_map,B1,A8,A9];omega)|decide) (by first|omega|(simp only [List.length_take,List.length_drop,List.length_append,List.length_cons,List.length_nil,List.length_set,List.length_map,B1,A8,A9];omega)|decide) (by first|omega|(simp only [List.length_take,List.length_drop,List.length_append,List.length_cons,List.length_nil,List.length_set,List.length_map,B1,A8,A9];omega)|decide) (by first|omega|(simp only [List.length_take,List.length_drop,List.length_append,List.length_cons,List.length_nil,List.length_set,List.length_map,B1,A8,A9];omega)|decide) y5 hy5) rfl rfl rfl rfl rfl A4.refl (H5 [[bx sb (A6 ({(C9 ({s with onAlt:=true}) sMain sAlt sTabs true) with cursor:={(C9 ({s with onAlt:=true}) sMain sAlt sTabs true).cursor with wrap:=false}}) ⟨sMainq,sMain.length,sMaink⟩ ⟨sAltq,sAlt.length,sAltk⟩ ⟨none,0,0⟩ ⟨sTabsq,sTabs.length,sTabsk⟩) 114],[bx b1 (F8 (⟨37,1049,1,Col.zero,[]⟩:Act)) 81]] [0,1] 2 rfl (by decide) rfl [[bx sb (A6 ({(C9 ({s with onAlt:=true}) sMain sAlt sTabs true) with cursor:={(C9 ({s with onAlt:=true}) sMain sAlt sTabs true).cursor with wrap:=false}}) ⟨sMainq,sMain.length,sMaink⟩ ⟨sAltq,sAlt.length,sAltk⟩ ⟨none,0,0⟩ ⟨sTabsq,sTabs.length,sTabsk⟩) 114],[bx b1 (F8 (⟨37,1049,1,Col.zero,[]⟩:Act)) 81]] rfl (by first|rfl|simp only [List.flatten_cons,List.flatten_nil,List.append_nil,List.cons_append,List.nil_append,List.append_assoc])) (fun ⟨⟨r3,rs4⟩,hp7⟩=>(bx sb (A6 ({(C9 ({s with onAlt:=true}) sMain sAlt sTabs true) with cursor:={(C9 ({s with onAlt:=true}) sMain sAlt sTabs true).cursor with wrap:=false}}) ⟨sMainq,sMain.length,sMaink⟩ ⟨va r3.q,y5.length,r3.k⟩ ⟨none,0,0⟩ ⟨sTabsq,sTabs.length,sTabsk⟩) 114::bx b1 (F8 (⟨37,1049,1,Col.zero,[]⟩:Act)) 81::(vo B7 78 r3 rs4)++([]))) (fun ⟨⟨r3,rs4⟩,hp7⟩=>H5 [[bx sb (A6 ({(C9 ({s with onAlt:=true}) sMain sAlt sTabs true) with cursor:={(C9 ({s with onAlt:=true}) sMain sAlt sTabs true).cursor with wrap:=false}}) ⟨sMainq,sMain.length,sMaink⟩ ⟨va r3.q,y5.length,r3.k⟩ ⟨none,0,0⟩ ⟨sTabsq,sTabs.length,sTabsk⟩) 114],vo B7 78 r3 rs4,[bx b1 (F8 (⟨37,1049,1,Col.zero,[]⟩:Act)) 81]] [0,2,1] 3 rfl (by decide) (by first|rfl|simp only [List.flatten_cons,List.flatten_nil,List.append_nil,List.cons_append,List.nil_append,List.append_assoc]) [[bx sb (A6 ({(C9 ({s with onAlt:=true}) sMain sAlt sTabs true) with cursor:={(C9 ({s with onAlt:=true}) sMain sAlt sTabs true).cursor with wrap:=false}}) ⟨sMainq,sMain.length,sMaink⟩ ⟨va r3.q,y5.length,r3.k⟩ ⟨none,0,0⟩ ⟨sTabsq,sTabs.length,sTabsk⟩) 114],[bx b1 (F8 (⟨37,1049,1,Col.zero,[]⟩:Act)) 81],vo B7 78 r3 rs4] rfl (by first|rfl|simp only [List.flatten_cons,List.flatten_nil,List.append_nil,List.cons_append,List.nil_append,List.append_assoc]))) fun ⟨⟨r3,rs4⟩,hp7⟩=>?_
 try dsimp only at hp7
 obtain ⟨hk5,hw6⟩:=hp7
 have:=VOk.le hk5
 have:=VOk.cap hk5
 have:=hw6.1
 refine A2 ?_
 have:=VOk.le hk5
 have:=VOk.cap hk5
 have:=hw6.1
 refine B5j [bx sb (A6 ({(C9 ({s with onAlt:=true}) sMain sAlt sTabs true) with cursor:={(C9 ({s with onAlt:=true}) sMain sAlt sTabs true).cursor with wrap:=false}}) ⟨sMainq,sMain.length,sMaink⟩ ⟨va r3.q,y5.length,r3.k⟩ ⟨none,0,0⟩ ⟨sTabsq,sTabs.length,sTabsk⟩) 114,bx b1 (F8 (⟨37,1049,1,Col.zero,[]⟩:Act)) 81] [] (T:=78) (c:=B7) (r:=r3) (xs:=rs4) (VOk.cast hk5 (by rw [hw6.1])) (by first|rfl|simp only [List.cons_append,List.append_assoc,List.nil_append,List.append_nil]) ?_
 subst hR
 exact zen hr hD (B1v rfl) ⟨(va r3.q,rs4,r3.k),⟨hw6,(by first|omega|(simp only [List.length_take,List.length_drop,List.length_append,List.length_cons,List.length_nil,List.length_set,List.length_map,B1,A8,A9];omega)|decide),(by first|omega|(simp only [List.length_take,List.length_drop,List.length_append,List.length_cons,List.length_nil,List.length_set,List.length_map,B1,A8,A9];omega)|decide)⟩⟩ (mk [true,false] rfl) (A4.con1 (B5 0 rfl) (A4.con1 (B5 1 rfl) fn0))
def A7l (s:ScrC) (sMain:List (Rwc Cel)) (sAlt:List (Rwc Cel)) (sTabs:List Bool):ScrC×List (Rwc Cel)×List (Rwc Cel)×List Bool×Int :=
 (bif (!decide ((I7 s sMain sAlt sTabs)=0)) then (ScrC.zero,([]:List (Rwc Cel)),([]:List (Rwc Cel)),([]:List Bool),(I7 s sMain sAlt sTabs)) else (bif (!decide ((S9 1049 1 Col.zero [])=0)) then (ScrC.zero,([]:List (Rwc Cel)),([]:List (Rwc Cel)),([]:List Bool),(S9 1049 1 Col.zero [])) else (D5 (A0v ({s with last:=0}) sMain sAlt sTabs) fun (y4:ScrC×List (Rwc Cel))=>(y4.1,sMain,y4.2,sTabs,0))))
theorem C0m (s:ScrC) (sMain:List (Rwc Cel)) (sAlt:List (Rwc Cel)) (sTabs:List Bool) (sMainq:Option Addr) (sMainrs:List Rwq) (sMaink:Nat) (sAltq:Option Addr) (sAltrs:List Rwq) (sAltk:Nat) (sTabsq:Option Addr) (sTabsk:Nat) (lq:Option Addr) (hrowssMainrs:C8 sMainrs sMain) (hlsMain:sMain.length≤9223372036854775807) (hcsMain:sMain.length≤sMaink) (hrowssAltrs:C8 sAltrs sAlt) (hlsAlt:sAlt.length≤9223372036854775807) (hcsAlt:sAlt.length≤sAltk) (hlsTabs:sTabs.length≤9223372036854775807) (hcsTabs:sTabs.length≤sTabsk) (hTs:s.title.length≤100000000) (R:ScrC×List (Rwc Cel)×List (Rwc Cel)×List Bool×Int) (hR:A7l s sMain sAlt sTabs=R):Con Tryz.prog 86 [ag (A6 s ⟨sMainq,sMain.length,sMaink⟩ ⟨sAltq,sAlt.length,sAltk⟩ ⟨none,0,0⟩ ⟨sTabsq,sTabs.length,sTabsk⟩),.slice lq 1 1] [] [sl B7 sMainq sMainrs,C3 B4 sMainrs sMain,sl B7 sAltq sAltrs,C3 B4 sAltrs sAlt,sl D3 sTabsq sTabs,sl F8 lq ([(⟨37,1049,1,Col.zero,[]⟩:Act)]:List Act),A3z,A3w] ({t:Option Addr×List Rwq×Nat // C8 t.2.1 R.2.1∧R.2.1.length≤t.2.2∧R.2.1.length≤9223372036854775807}×{t:Option Addr×List Rwq×Nat // C8 t.2.1 R.2.2.1∧R.2.2.1.length≤t.2.2∧R.2.2.1.length≤9223372036854775807}×{t:Option Addr×Nat // R.2.2.2.1.length≤t.2∧R.2.2.2.1.length≤9223372036854775807}) (fun x=>.tuple #[ag (A6 R.1 ⟨x.1.1.1,R.2.1.length,x.1.1.2.2⟩ ⟨x.2.1.1.1,R.2.2.1.length,x.2.1.1.2.2⟩ ⟨none,0,0⟩ ⟨x.2.2.1.1,R.2.2.2.1.length,x.2.2.1.2⟩),iv R.2.2.2.2]) (fun x=>[]) (fun x=>[sl B7 x.1.1.1 x.1.1.2.1,C3 B4 x.1.1.2.1 R.2.1,sl B7 x.2.1.1.1 x.2.1.1.2.1,C3 B4 x.2.1.1.2.1 R.2.2.1,sl D3 x.2.2.1.1 R.2.2.2.1]):=by
 refine zco Tryz.func86 [(0,ag (A6 s ⟨sMainq,sMain.length,sMaink⟩ ⟨sAltq,sAlt.length,sAltk⟩ ⟨none,0,0⟩ ⟨sTabsq,sTabs.length,sTabsk⟩)),(1,.slice lq 1 1)] fun X hX hr hD=>?_
 replace hR:=(A7l.eq_1 ..).symm.trans hR
 have:=hrowssMainrs.1
 have:=hrowssAltrs.1
 refine sr 3 rfl (A9f 3 0 [] (fun b1 b2=>[(2,pt b1 0),(4,pt b2 0)]) (fun b1 b2=>[bx b2 (A6 ScrC.zero ⟨none,0,0⟩ ⟨none,0,0⟩ ⟨none,0,0⟩ ⟨none,0,0⟩) 52,bx b1 (A6 s ⟨sMainq,sMain.length,sMaink⟩ ⟨sAltq,sAlt.length,sAltk⟩ ⟨none,0,0⟩ ⟨sTabsq,sTabs.length,sTabsk⟩) 52]) (fun b1 b2=>?_))
 refine ie (A1 (sr 3 rfl (zrl 1 2 [1] [(16,ag (A6 s ⟨sMainq,sMain.length,sMaink⟩ ⟨sAltq,sAlt.length,sAltk⟩ ⟨none,0,0⟩ ⟨sTabsq,sTabs.length,sTabsk⟩))] ?_)))
 refine zca (A8f s sMain sAlt sTabs sMainq sMainrs sMaink sAltq sAltrs sAltk sTabsq sTabsk hrowssMainrs (by first|omega|(simp only [List.length_take,List.length_drop,List.length_append,List.length_cons,List.length_nil,List.length_set,List.length_map,B1,A8,A9];omega)|decide) (by first|omega|(simp only [List.length_take,List.length_drop,List.length_append,List.length_cons,List.length_nil,List.length_set,List.length_map,B1,A8,A9];omega)|decide) hrowssAltrs (by first|omega|(simp only [List.length_take,List.length_drop,List.length_append,List.length_cons,List.length_nil,List.length_set,List.length_map,B1,A8,A9];omega)|decide) (by first|omega|(simp only [List.length_take,List.length_drop,List.length_append,List.length_cons,List.length_nil,List.length_set,List.length_map,B1,A8,A9];omega)|decide) (by first|omega|(simp only [List.length_take,List.length_drop,List.length_append,List.length_cons,List.length_nil,List.length_set,List.length_map,B1,A8,A9];omega)|decide) (by first|omega|(simp only [List.length_take,List.length_drop,List.length_append,List.length_cons,List.length_nil,List.length_set,List.length_map,B1,A8,A9];omega)|decide) (by first|omega|(simp only [List.length_nil];omega)|(dsimp only;omega)) _ rfl) (A4.pick [0,1,2,3,4,6,7] rfl) ?_
 refine ip' 1 0 [(6,iv (I7 s sMain sAlt sTabs))] ?_
 refine ie (sr 2 rfl (ip' 2 0 [(19,bv (!decide ((I7 s sMain sAlt sTabs)=0)))] ?_))
 refine ie ?_
 refine zjn rfl hR ?_ ?_<;>clear hR<;>intro hR h3 h3p
 ·refine sr 4 rfl (zrg 4 0 [0] [(5,iv (I7 s sMain sAlt sTabs))] [bx b2 (A6 ScrC.zero ⟨none,0,0⟩ ⟨none,0,0⟩ ⟨none,0,0⟩ ⟨none,0,0⟩) 52,bx b1 (A6 s ⟨sMainq,sMain.length,sMaink⟩ ⟨sAltq,sAlt.length,sAltk⟩ ⟨none,0,0⟩ ⟨sTabsq,sTabs.length,sTabsk⟩) 52] ?_)
  subst hR
  refine ie (A7 ?_)
  exact zer hr hD (U5 rfl (Q5 (us:=A6 ScrC.zero ⟨none,0,0⟩ ⟨none,0,0⟩ ⟨none,0,0⟩ ⟨none,0,0⟩) A7u rfl 0 rfl rfl) (B2 rfl)) (⟨(none,[],0),⟨C8.none,(by first|omega|(simp only [List.length_take,List.length_drop,List.length_append,List.length_cons,List.length_nil,List.length_set,List.length_map,B1,A8,A9];omega)|decide),(by first|omega|(simp only [List.length_take,List.length_drop,List.length_append,List.length_cons,List.length_nil,List.length_set,List.length_map,B1,A8,A9];omega)|decide)⟩⟩,⟨(none,[],0),⟨C8.none,(by first|omega|(simp only [List.length_take,List.length_drop,List.length_append,List.length_cons,List.length_nil,List.length_set,List.length_map,B1,A8,A9];omega)|decide),(by first|omega|(simp only [List.length_take,List.length_drop,List.length_append,List.length_cons,List.length_nil,List.length_set,List.length_map,B1,A8,A9];omega)|decide)⟩⟩,(zq none 0)) (mk [false,false] rfl) (A4.con1 O8 (A4.con1 Y3 (A4.con1 O8 (A4.con1 Y3 (A4.con1 O8 fn0)))))
 refine A5 (nx (A1 (sr 3 rfl (ip' 3 0 [(24,bv false)] ?_))))
 refine ie (K6 rfl (A5 (nx (A1 (sr 3 rfl (ip' 3 0 [(26,.slice lq 1 1),(27,iv 1),(28,iv 0)] ?_))))))
 refine ie (B0 (R8 3 ?_))
 refine E5 (sr 1 rfl (ip' 1 0 [(29,bv true)] ?_))
 refine ie (A1 (H7 rfl (A5 (nx (A1 (B0 (sr 4 rfl (K3 5 rfl (by first|omega|exact Nat.zero_lt_one) fun a4 hq5=>?_))))))))
 refine ix rfl (F0 C3w rfl rfl hq5 rfl 0 rfl (by first|omega|exact Nat.zero_lt_one)) ?_
 refine ix rfl (M7 (us:=F8 (⟨37,1049,1,Col.zero,[]⟩:Act)) D3c rfl rfl (G2 (c:=F8) (sz:=6) hq5 (fun _=>rfl) 5 rfl (gd Act.zero (by first|omega|exact Nat.zero_lt_one))) rfl) ?_
 refine K0 2 0 [0] (fun b6=>[(8,pt b6 0)]) (fun b6=>[bx b6 (F8 (⟨37,1049,1,Col.zero,[]⟩:Act)) 81,bx b2 (A6 ScrC.zero ⟨none,0,0⟩ ⟨none,0,0⟩ ⟨none,0,0⟩ ⟨none,0,0⟩) 52,bx b1 (A6 s ⟨sMainq,sMain.length,sMaink⟩ ⟨sAltq,sAlt.length,sAltk⟩ ⟨none,0,0⟩ ⟨sTabsq,sTabs.length,sTabsk⟩) 52]) (fun b6=>?_)
 refine ie (sr 3 rfl (zrl 1 2 [0] [(32,ag (F8 (⟨37,1049,1,Col.zero,[]⟩:Act)))] ?_))
 refine zca (B5e 1049 1 Col.zero [] (by first|omega|(simp only [List.length_nil];omega)) _ rfl) fn0 ?_
 refine ip' 1 0 [(9,iv (S9 1049 1 Col.zero []))] ?_
 refine ie (sr 2 rfl (ip' 2 0 [(35,bv (!decide ((S9 1049 1 Col.zero [])=0)))] ?_))
 refine ie ?_
 refine zjn rfl hR ?_ ?_<;>clear hR<;>intro hR h7 h7p
 ·refine sr 4 rfl (zrg 4 0 [1] [(5,iv (S9 1049 1 Col.zero []))] [bx b6 (F8 (⟨37,1049,1,Col.zero,[]⟩:Act)) 81,bx b2 (A6 ScrC.zero ⟨none,0,0⟩ ⟨none,0,0⟩ ⟨none,0,0⟩ ⟨none,0,0⟩) 52,bx b1 (A6 s ⟨sMainq,sMain.length,sMaink⟩ ⟨sAltq,sAlt.length,sAltk⟩ ⟨none,0,0⟩ ⟨sTabsq,sTabs.length,sTabsk⟩) 52] ?_)
  subst hR
  refine ie (A7 ?_)
  exact zer hr hD (U5 rfl (Q5 (us:=A6 ScrC.zero ⟨none,0,0⟩ ⟨none,0,0⟩ ⟨none,0,0⟩ ⟨none,0,0⟩) A7u rfl 1 rfl rfl) (B2 rfl)) (⟨(none,[],0),⟨C8.none,(by first|omega|(simp only [List.length_take,List.length_drop,List.length_append,List.length_cons,List.length_nil,List.length_set,List.length_map,B1,A8,A9];omega)|decide),(by first|omega|(simp only [List.length_take,List.length_drop,List.length_append,List.length_cons,List.length_nil,List.length_set,List.length_map,B1,A8,A9];omega)|decide)⟩⟩,⟨(none,[],0),⟨C8.none,(by first|omega|(simp only [List.length_take,List.length_drop,List.length_append,List.length_cons,List.length_nil,List.length_set,List.length_map,B1,A8,A9];omega)|decide),(by first|omega|(simp only [List.length_take,List.length_drop,List.length_append,List.length_cons,List.length_nil,List.length_set,List.length_map,B1,A8,A9];omega)|decide)⟩⟩,(zq none 0)) (mk [false,false,false] rfl) (A4.con1 O8 (A4.con1 Y3 (A4.con1 O8 (A4.con1 Y3 (A4.con1 O8 fn0)))))
 refine A5 (nx (A3 2 rfl (ix rfl (B3 (c:=1) rfl rfl rfl rfl (by decide)) ?_)))
 refine ip' 1 0 [(28,iv 1)] ?_
 refine A2 (E5 (sr 1 rfl (ip' 1 0 [(29,bv false)] ?_)))
 refine ie (A1 (K6 rfl (F7 (nx (sr 4 rfl (K0 4 0 [2] (fun b8=>[(10,pt b8 0)]) (fun b8=>[bx b8 (A6 s ⟨sMainq,sMain.length,sMaink⟩ ⟨sAltq,sAlt.length,sAltk⟩ ⟨none,0,0⟩ ⟨sTabsq,sTabs.length,sTabsk⟩) 114,bx b6 (F8 (⟨37,1049,1,Col.zero,[]⟩:Act)) 81,bx b2 (A6 ScrC.zero ⟨none,0,0⟩ ⟨none,0,0⟩ ⟨none,0,0⟩ ⟨none,0,0⟩) 52,bx b1 (A6 s ⟨sMainq,sMain.length,sMaink⟩ ⟨sAltq,sAlt.length,sAltk⟩ ⟨none,0,0⟩ ⟨sTabsq,sTabs.length,sTabsk⟩) 52]) (fun b8=>?_)))))))
 refine ie (sr 2 rfl (it rfl (I1 (L2:=[bx b8 (A6 s ⟨sMainq,sMain.length,sMaink⟩ ⟨sAltq,sAlt.length,sAltk⟩ ⟨none,0,0⟩ ⟨sTabsq,sTabs.length,sTabsk⟩) 114,bx b6 (F8 (⟨37,1049,1,Col.zero,[]⟩:Act)) 81,bx b2 (A6 ScrC.zero ⟨none,0,0⟩ ⟨none,0,0⟩ ⟨none,0,0⟩ ⟨none,0,0⟩) 52,bx b1 (A6 s ⟨sMainq,sMain.length,sMaink⟩ ⟨sAltq,sAlt.length,sAltk⟩ ⟨none,0,0⟩ ⟨sTabsq,sTabs.length,sTabsk⟩) 52]) (B2y _ rfl) rfl rfl rfl rfl rfl fn0 (List.Perm.refl _) (fun b9=>[(b9,.map #[⟨iv 1,.func (.func 201) #[] #[],0⟩,⟨iv 34,.func (.func 202) #[] #[],1⟩,⟨iv 3,.func (.func 203) #[] #[],2⟩,⟨iv 4,.func (.func 204) #[] #[],3⟩,⟨iv 24,.func (.func 204) #[] #[],4⟩,⟨iv 25,.func (.func 205) #[] #[],5⟩,⟨iv 6,.func (.func 206) #[] #[],6⟩,⟨iv 5,.func (.func 207) #[] #[],7⟩,⟨iv 8,.func (.func 208) #[] #[],8⟩,⟨iv 9,.func (.func 209) #[] #[],9⟩,⟨iv 11,.func (.func 210) #[] #[],10⟩,⟨iv 19,.func (.func 211) #[] #[],11⟩,⟨iv 23,.func (.func 212) #[] #[],12⟩,⟨iv 22,.func (.func 213) #[] #[],13⟩,⟨iv 20,.func (.func 214) #[] #[],14⟩,⟨iv 21,.func (.func 215) #[] #[],15⟩,⟨iv 38,.func (.func 216) #[] #[],16⟩,⟨iv 26,.func (.func 217) #[] #[],17⟩,⟨iv 27,.func (.func 218) #[] #[],18⟩,⟨iv 30,.func (.func 219) #[] #[],19⟩,⟨iv 28,.func (.func 220) #[] #[],20⟩,⟨iv 29,.func (.func 221) #[] #[],21⟩,⟨iv 31,.func (.func 222) #[] #[],22⟩,⟨iv 32,.func (.func 223) #[] #[],23⟩,⟨iv 33,.func (.func 224) #[] #[],24⟩,⟨iv 16,.func (.func 225) #[] #[],25⟩,⟨iv 15,.func (.func 226) #[] #[],26⟩,⟨iv 10,.func (.func 227) #[] #[],27⟩,⟨iv 35,.func (.func 228) #[] #[],28⟩,⟨iv 17,.func (.func 229) #[] #[],29⟩,⟨iv 7,.func (.func 230) #[] #[],30⟩,⟨iv 18,.func (.func 231) #[] #[],31⟩,⟨iv 39,.func (.func 232) #[] #[],32⟩,⟨iv 40,.func (.func 233) #[] #[],33⟩,⟨iv 44,.func (.func 234) #[] #[],34⟩,⟨iv 14,.func (.func 235) #[] #[],35⟩,⟨iv 36,.func (.func 236) #[] #[],36⟩,⟨iv 37,.func (.func 237) #[] #[],37⟩,⟨iv 12,.func (.func 238) #[] #[],38⟩,⟨iv 13,.func (.func 239) #[] #[],39⟩] 40),bx b8 (A6 s ⟨sMainq,sMain.length,sMaink⟩ ⟨sAltq,sAlt.length,sAltk⟩ ⟨none,0,0⟩ ⟨sTabsq,sTabs.length,sTabsk⟩) 114,bx b6 (F8 (⟨37,1049,1,Col.zero,[]⟩:Act)) 81,bx b2 (A6 ScrC.zero ⟨none,0,0⟩ ⟨none,0,0⟩ ⟨none,0,0⟩ ⟨none,0,0⟩) 52,bx b1 (A6 s ⟨sMainq,sMain.length,sMaink⟩ ⟨sAltq,sAlt.length,sAltk⟩ ⟨none,0,0⟩ ⟨sTabsq,sTabs.length,sTabsk⟩) 52]) (fun _=>rfl)) fun b9=>?_))
 refine ip' 1 0 [(11,.map (some b9))] ?_
 refine ie (A1 (sr 3 rfl (ip' 3 0 [(43,.slice lq 1 1),(44,iv 1),(45,iv 0)] ?_)))
 refine ie (B0 (R8 3 ?_))
 refine E5 (sr 1 rfl (ip' 1 0 [(46,bv true)] ?_))
 refine ie (A1 (H7 rfl (A5 (nx (A1 (B0 (sr 4 rfl (ix rfl (F0 C3w rfl rfl hq5 rfl 0 rfl (by first|omega|exact Nat.zero_lt_one)) ?_))))))))
 refine ix rfl (M7 (us:=F8 (⟨37,1049,1,Col.zero,[]⟩:Act)) D3c rfl rfl (G2 (c:=F8) (sz:=6) hq5 (fun _=>rfl) 5 rfl (gd Act.zero (by first|omega|exact Nat.zero_lt_one))) rfl) ?_
 refine K0 2 0 [0] (fun b10=>[(13,pt b10 0)]) (fun b10=>[bx b10 (F8 (⟨37,1049,1,Col.zero,[]⟩:Act)) 81,(b9,.map #[⟨iv 1,.func (.func 201) #[] #[],0⟩,⟨iv 34,.func (.func 202) #[] #[],1⟩,⟨iv 3,.func (.func 203) #[] #[],2⟩,⟨iv 4,.func (.func 204) #[] #[],3⟩,⟨iv 24,.func (.func 204) #[] #[],4⟩,⟨iv 25,.func (.func 205) #[] #[],5⟩,⟨iv 6,.func (.func 206) #[] #[],6⟩,⟨iv 5,.func (.func 207) #[] #[],7⟩,⟨iv 8,.func (.func 208) #[] #[],8⟩,⟨iv 9,.func (.func 209) #[] #[],9⟩,⟨iv 11,.func (.func 210) #[] #[],10⟩,⟨iv 19,.func (.func 211) #[] #[],11⟩,⟨iv 23,.func (.func 212) #[] #[],12⟩,⟨iv 22,.func (.func 213) #[] #[],13⟩,⟨iv 20,.func (.func 214) #[] #[],14⟩,⟨iv 21,.func (.func 215) #[] #[],15⟩,⟨iv 38,.func (.func 216) #[] #[],16⟩,⟨iv 26,.func (.func 217) #[] #[],17⟩,⟨iv 27,.func (.func 218) #[] #[],18⟩,⟨iv 30,.func (.func 219) #[] #[],19⟩,⟨iv 28,.func (.func 220) #[] #[],20⟩,⟨iv 29,.func (.func 221) #[] #[],21⟩,⟨iv 31,.func (.func 222) #[] #[],22⟩,⟨iv 32,.func (.func 223) #[] #[],23⟩,⟨iv 33,.func (.func 224) #[] #[],24⟩,⟨iv 16,.func (.func 225) #[] #[],25⟩,⟨iv 15,.func (.func 226) #[] #[],26⟩,⟨iv 10,.func (.func 227) #[] #[],27⟩,⟨iv 35,.func (.func 228) #[] #[],28⟩,⟨iv 17,.func (.func 229) #[] #[],29⟩,⟨iv 7,.func (.func 230) #[] #[],30⟩,⟨iv 18,.func (.func 231) #[] #[],31⟩,⟨iv 39,.func (.func 232) #[] #[],32⟩,⟨iv 40,.func (.func 233) #[] #[],33⟩,⟨iv 44,.func (.func 234) #[] #[],34⟩,⟨iv 14,.func (.func 235) #[] #[],35⟩,⟨iv 36,.func (.func 236) #[] #[],36⟩,⟨iv 37,.func (.func 237) #[] #[],37⟩,⟨iv 12,.func (.func 238) #[] #[],38⟩,⟨iv 13,.func (.func 239) #[] #[],39⟩] 40),bx b8 (A6 s ⟨sMainq,sMain.length,sMaink⟩ ⟨sAltq,sAlt.length,sAltk⟩ ⟨none,0,0⟩ ⟨sTabsq,sTabs.length,sTabsk⟩) 114,bx b6 (F8 (⟨37,1049,1,Col.zero,[]⟩:Act)) 81,bx b2 (A6 ScrC.zero ⟨none,0,0⟩ ⟨none,0,0⟩ ⟨none,0,0⟩ ⟨none,0,0⟩) 52,bx b1 (A6 s ⟨sMainq,sMain.length,sMaink⟩ ⟨sAltq,sAlt.length,sAltk⟩ ⟨none,0,0⟩ ⟨sTabsq,sTabs.length,sTabsk⟩) 52]) (fun b10=>?_)
 refine ie (A1 (sr 4 rfl (zrl 2 2 [0] [(50,iv 37)] ?_)))
 refine zca (B2x false (by decide +kernel)) fn0 ?_
 refine ip' 1 0 [(52,bv true)] ?_
 refine ie (H7 rfl (A3 5 rfl (ip' 4 1 [(56,pt b8 79)] ?_)))
 refine it rfl (L5 (us:=[iv 0]) (cs':=A6 ({s with last:=0}) ⟨sMainq,sMain.length,sMaink⟩ ⟨sAltq,sAlt.length,sAltk⟩ ⟨none,0,0⟩ ⟨sTabsq,sTabs.length,sTabsk⟩) ty3 rfl rfl rfl 2 rfl rfl rfl rfl rfl rfl) fun _=>?_
 refine A2 (nx (A1 (sr 3 rfl (zrl 1 2 [0] [(57,ag (F8 (⟨37,1049,1,Col.zero,[]⟩:Act)))] ?_))))
 refine zca (B0p true (by decide +kernel)) fn0 ?_
 refine ip' 1 0 [(59,bv false)] ?_
 refine ie (K6 rfl (A5 (nx (sr 9 rfl (zrl 3 6 [0] [(66,.map (some b9)),(68,iv 37)] ?_)))))
 refine ix rfl (A5a (v:=.func (.func 237) #[] #[]) (j:=37) C8f rfl rfl rfl 1 rfl (by kernel_rfl)) ?_
 refine ip' 5 0 [(14,.func (.func 237) #[] #[]),(15,bv true)] ?_
 refine ie (sr 1 rfl (ip' 1 0 [(72,bv true)] ?_))
 refine ie (H7 rfl (A3 4 rfl (zrl 3 1 [0] [(73,.func (.func 237) #[] #[]),(74,pt b8 0),(75,ag (F8 (⟨37,1049,1,Col.zero,[]⟩:Act)))] ?_)))
 have hQ:=F5 hR;clear hR;obtain ⟨y4,hy4,hR⟩:=hQ
 refine it rfl (I1 (L2:=[bx b10 (F8 (⟨37,1049,1,Col.zero,[]⟩:Act)) 81,(b9,.map #[⟨iv 1,.func (.func 201) #[] #[],0⟩,⟨iv 34,.func (.func 202) #[] #[],1⟩,⟨iv 3,.func (.func 203) #[] #[],2⟩,⟨iv 4,.func (.func 204) #[] #[],3⟩,⟨iv 24,.func (.func 204) #[] #[],4⟩,⟨iv 25,.func (.func 205) #[] #[],5⟩,⟨iv 6,.func (.func 206) #[] #[],6⟩,⟨iv 5,.func (.func 207) #[] #[],7⟩,⟨iv 8,.func (.func 208) #[] #[],8⟩,⟨iv 9,.func (.func 209) #[] #[],9⟩,⟨iv 11,.func (.func 210) #[] #[],10⟩,⟨iv 19,.func (.func 211) #[] #[],11⟩,⟨iv 23,.func (.func 212) #[] #[],12⟩,⟨iv 22,.func (.func 213) #[] #[],13⟩,⟨iv 20,.func (.func 214) #[] #[],14⟩,⟨iv 21,.func (.func 215) #[] #[],15⟩,⟨iv 38,.func (.func 216) #[] #[],16⟩,⟨iv 26,.func (.func 217) #[] #[],17⟩,⟨iv 27,.func (.func 218) #[] #[],18⟩,⟨iv 30,.func (.func 219) #[] #[],19⟩,⟨iv 28,.func (.func 220) #[] #[],20⟩,⟨iv 29,.func (.func 221) #[] #[],21⟩,⟨iv 31,.func (.func 222) #[] #[],22⟩,⟨iv 32,.func (.func 223) #[] #[],23⟩,⟨iv 33,.func (.func 224) #[] #[],24⟩,⟨iv 16,.func (.func 225) #[] #[],25⟩,⟨iv 15,.func (.func 226) #[] #[],26⟩,⟨iv 10,.func (.func 227) #[] #[],27⟩,⟨iv 35,.func (.func 228) #[] #[],28⟩,⟨iv 17,.func (.func 229) #[] #[],29⟩,⟨iv 7,.func (.func 230) #[] #[],30⟩,⟨iv 18,.func (.func 231) #[] #[],31⟩,⟨iv 39,.func (.func 232) #[] #[],32⟩,⟨iv 40,.func (.func 233) #[] #[],33⟩,⟨iv 44,.func (.func 234) #[] #[],34⟩,⟨iv 14,.func (.func 235) #[] #[],35⟩,⟨iv 36,.func (.func 236) #[] #[],36⟩,⟨iv 37,.func (.func 237) #[] #[],37⟩,⟨iv 12,.func (.func 238) #[] #[],38⟩,⟨iv 13,.func (.func 239) #[] #[],39⟩] 40),bx b6 (F8 (⟨37,1049,1,Col.zero,[]⟩:Act)) 81,bx b2 (A6 ScrC.zero ⟨none,0,0⟩ ⟨none,0,0⟩ ⟨none,0,0⟩ ⟨none,0,0⟩) 52,bx b1 (A6 s ⟨sMainq,sMain.length,sMaink⟩ ⟨sAltq,sAlt.length,sAltk⟩ ⟨none,0,0⟩ ⟨sTabsq,sTabs.length,sTabsk⟩) 52]) (B1d ({s with last:=0}) sMain sAlt sTabs b8 sMainq sMainrs sMaink sAltq sAltrs sAltk sTabsq sTabsk hrowssMainrs (by first|omega|(simp only [List.length_take,List.length_drop,List.length_append,List.length_cons,List.length_nil,List.length_set,List.length_map,B1,A8,A9];omega)|decide) (by first|omega|(simp only [List.length_take,List.length_drop,List.length_append,List.length_cons,List.length_nil,List.length_set,List.length_map,B1,A8,A9];omega)|decide) hrowssAltrs (by first|omega|(simp only [List.length_take,List.length_drop,List.length_append,List.length_cons,List.length_nil,List.length_set,List.length_map,B1,A8,A9];omega)|decide) (by first|omega|(simp only [List.length_take,List.length_drop,List.length_append,List.length_cons,List.length_nil,List.length_set,List.length_map,B1,A8,A9];omega)|decide) (by first|omega|(simp only [List.length_take,List.length_drop,List.length_append,List.length_cons,List.length_nil,List.length_set,List.length_map,B1,A8,A9];omega)|decide) (by first|omega|(simp only [List.length_take,List.length_drop,List.length_append,List.length_cons,List.length_nil,List.length_set,List.length_map,B1,A8,A9];omega)|decide) y4 hy4) rfl rfl rfl rfl rfl (A4.pick [0,1,2,3,4] rfl) (H5 [[bx b10 (F8 (⟨37,1049,1,Col.zero,[]⟩:Act)) 81],[(b9,.map #[⟨iv 1,.func (.func 201) #[] #[],0⟩,⟨iv 34,.func (.func 202) #[] #[],1⟩,⟨iv 3,.func (.func 203) #[] #[],2⟩,⟨iv 4,.func (.func 204) #[] #[],3⟩,⟨iv 24,.func (.func 204) #[] #[],4⟩,⟨iv 25,.func (.func 205) #[] #[],5⟩,⟨iv 6,.func (.func 206) #[] #[],6⟩,⟨iv 5,.func (.func 207) #[] #[],7⟩,⟨iv 8,.func (.func 208) #[] #[],8⟩,⟨iv 9,.func (.func 209) #[] #[],9⟩,⟨iv 11,.func (.func 210) #[] #[],10⟩,⟨iv 19,.func (.func 211) #[] #[],11⟩,⟨iv 23,.func (.func 212) #[] #[],12⟩,⟨iv 22,.func (.func 213) #[] #[],13⟩,⟨iv 20,.func (.func 214) #[] #[],14⟩,⟨iv 21,.func (.func 215) #[] #[],15⟩,⟨iv 38,.func (.func 216) #[] #[],16⟩,⟨iv 26,.func (.func 217) #[] #[],17⟩,⟨iv 27,.func (.func 218) #[] #[],18⟩,⟨iv 30,.func (.func 219) #[] #[],19⟩,⟨iv 28,.func (.func 220) #[] #[],20⟩,⟨iv 29,.func (.func 221) #[] #[],21⟩,⟨iv 31,.func (.func 222) #[] #[],22⟩,⟨iv 32,.func (.func 223) #[] #[],23⟩,⟨iv 33,.func (.func 224) #[] #[],24⟩,⟨iv 16,.func (.func 225) #[] #[],25⟩,⟨iv 15,.func (.func 226) #[] #[],26⟩,⟨iv 10,.func (.func 227) #[] #[],27⟩,⟨iv 35,.func (.func 228) #[] #[],28⟩,⟨iv 17,.func (.func 229) #[] #[],29⟩,⟨iv 7,.func (.func 230) #[] #[],30⟩,⟨iv 18,.func (.func 231) #[] #[],31⟩,⟨iv 39,.func (.func 232) #[] #[],32⟩,⟨iv 40,.func (.func 233) #[] #[],33⟩,⟨iv 44,.func (.func 234) #[] #[],34⟩,⟨iv 14,.func (.func 235) #[] #[],35⟩,⟨iv 36,.func (.func 236) #[] #[],36⟩,⟨iv 37,.func (.func 237) #[] #[],37⟩,⟨iv 12,.func (.func 238) #[] #[],38⟩,⟨iv 13,.func (.func 239) #[] #[],39⟩] 40)],[bx b8 (A6 ({s with last:=0}) ⟨sMainq,sMain.length,sMaink⟩ ⟨sAltq,sAlt.length,sAltk⟩ ⟨none,0,0⟩ ⟨sTabsq,sTabs.length,sTabsk⟩) 114],[bx b6 (F8 (⟨37,1049,1,Col.zero,[]⟩:Act)) 81],[bx b2 (A6 ScrC.zero ⟨none,0,0⟩ ⟨none,0,0⟩ ⟨none,0,0⟩ ⟨none,0,0⟩) 52],[bx b1 (A6 s ⟨sMainq,sMain.length,sMaink⟩ ⟨sAltq,sAlt.length,sAltk⟩ ⟨none,0,0⟩ ⟨sTabsq,sTabs.length,sTabsk⟩) 52]] [2,0,1,3,4,5] 6 rfl (by decide) rfl [[bx b8 (A6 ({s with last:=0}) ⟨sMainq,sMain.length,sMaink⟩ ⟨sAltq,sAlt.length,sAltk⟩ ⟨none,0,0⟩ ⟨sTabsq,sTabs.length,sTabsk⟩) 114],[bx b10 (F8 (⟨37,1049,1,Col.zero,[]⟩:Act)) 81],[(b9,.map #[⟨iv 1,.func (.func 201) #[] #[],0⟩,⟨iv 34,.func (.func 202) #[] #[],1⟩,⟨iv 3,.func (.func 203) #[] #[],2⟩,⟨iv 4,.func (.func 204) #[] #[],3⟩,⟨iv 24,.func (.func 204) #[] #[],4⟩,⟨iv 25,.func (.func 205) #[] #[],5⟩,⟨iv 6,.func (.func 206) #[] #[],6⟩,⟨iv 5,.func (.func 207) #[] #[],7⟩,⟨iv 8,.func (.func 208) #[] #[],8⟩,⟨iv 9,.func (.func 209) #[] #[],9⟩,⟨iv 11,.func (.func 210) #[] #[],10⟩,⟨iv 19,.func (.func 211) #[] #[],11⟩,⟨iv 23,.func (.func 212) #[] #[],12⟩,⟨iv 22,.func (.func 213) #[] #[],13⟩,⟨iv 20,.func (.func 214) #[] #[],14⟩,⟨iv 21,.func (.func 215) #[] #[],15⟩,⟨iv 38,.func (.func 216) #[] #[],16⟩,⟨iv 26,.func (.func 217) #[] #[],17⟩,⟨iv 27,.func (.func 218) #[] #[],18⟩,⟨iv 30,.func (.func 219) #[] #[],19⟩,⟨iv 28,.func (.func 220) #[] #[],20⟩,⟨iv 29,.func (.func 221) #[] #[],21⟩,⟨iv 31,.func (.func 222) #[] #[],22⟩,⟨iv 32,.func (.func 223) #[] #[],23⟩,⟨iv 33,.func (.func 224) #[] #[],24⟩,⟨iv 16,.func (.func 225) #[] #[],25⟩,⟨iv 15,.func (.func 226) #[] #[],26⟩,⟨iv 10,.func (.func 227) #[] #[],27⟩,⟨iv 35,.func (.func 228) #[] #[],28⟩,⟨iv 17,.func (.func 229) #[] #[],29⟩,⟨iv 7,.func (.func 230) #[] #[],30⟩,⟨iv 18,.func (.func 231) #[] #[],31⟩,⟨iv 39,.func (.func 232) #[] #[],32⟩,⟨iv 40,.func (.func 233) #[] #[],33⟩,⟨iv 44,.func (.func 234) #[] #[],34⟩,⟨iv 14,.func (.func 235) #[] #[],35⟩,⟨iv 36,.func (.func 236) #[] #[],36⟩,⟨iv 37,.func (.func 237) #[] #[],37⟩,⟨iv 12,.func (.func 238) #[] #[],38⟩,⟨iv 13,.func (.func 239) #[] #[],39⟩] 40)],[bx b6 (F8 (⟨37,1049,1,Col.zero,[]⟩:Act)) 81],[bx b2 (A6 ScrC.zero ⟨none,0,0⟩ ⟨none,0,0⟩ ⟨none,0,0⟩ ⟨none,0,0⟩) 52],[bx b1 (A6 s ⟨sMainq,sMain.length,sMaink⟩ ⟨sAltq,sAlt.length,sAltk⟩ ⟨none,0,0⟩ ⟨sTabsq,sTabs.length,sTabsk⟩) 52]] rfl (by first|rfl|simp only [List.flatten_cons,List.flatten_nil,List.append_nil,List.cons_append,List.nil_append,List.append_assoc])) (fun ⟨⟨q11,rs12,k13⟩,hp16⟩=>[bx b8 (A6 y4.1 ⟨sMainq,sMain.length,sMaink⟩ ⟨q11,y4.2.length,k13⟩ ⟨none,0,0⟩ ⟨sTabsq,sTabs.length,sTabsk⟩) 114,bx b10 (F8 (⟨37,1049,1,Col.zero,[]⟩:Act)) 81,(b9,.map #[⟨iv 1,.func (.func 201) #[] #[],0⟩,⟨iv 34,.func (.func 202) #[] #[],1⟩,⟨iv 3,.func (.func 203) #[] #[],2⟩,⟨iv 4,.func (.func 204) #[] #[],3⟩,⟨iv 24,.func (.func 204) #[] #[],4⟩,⟨iv 25,.func (.func 205) #[] #[],5⟩,⟨iv 6,.func (.func 206) #[] #[],6⟩,⟨iv 5,.func (.func 207) #[] #[],7⟩,⟨iv 8,.func (.func 208) #[] #[],8⟩,⟨iv 9,.func (.func 209) #[] #[],9⟩,⟨iv 11,.func (.func 210) #[] #[],10⟩,⟨iv 19,.func (.func 211) #[] #[],11⟩,⟨iv 23,.func (.func 212) #[] #[],12⟩,⟨iv 22,.func (.func 213) #[] #[],13⟩,⟨iv 20,.func (.func 214) #[] #[],14⟩,⟨iv 21,.func (.func 215) #[] #[],15⟩,⟨iv 38,.func (.func 216) #[] #[],16⟩,⟨iv 26,.func (.func 217) #[] #[],17⟩,⟨iv 27,.func (.func 218) #[] #[],18⟩,⟨iv 30,.func (.func 219) #[] #[],19⟩,⟨iv 28,.func (.func 220) #[] #[],20⟩,⟨iv 29,.func (.func 221) #[] #[],21⟩,⟨iv 31,.func (.func 222) #[] #[],22⟩,⟨iv 32,.func (.func 223) #[] #[],23⟩,⟨iv 33,.func (.func 224) #[] #[],24⟩,⟨iv 16,.func (.func 225) #[] #[],25⟩,⟨iv 15,.func (.func 226) #[] #[],26⟩,⟨iv 10,.func (.func 227) #[] #[],27⟩,⟨iv 35,.func (.func 228) #[] #[],28⟩,⟨iv 17,.func (.func 229) #[] #[],29⟩,⟨iv 7,.func (.func 230) #[] #[],30⟩,⟨iv 18,.func (.func 231) #[] #[],31⟩,⟨iv 39,.func (.func 232) #[] #[],32⟩,⟨iv 40,.func (.func 233) #[] #[],33⟩,⟨iv 44,.func (.func 234) #[] #[],34⟩,⟨iv 14,.func (.func 235) #[] #[],35⟩,⟨iv 36,.func (.func 236) #[] #[],36⟩,⟨iv 37,.func (.func 237) #[] #[],37⟩,⟨iv 12,.func (.func 238) #[] #[],38⟩,⟨iv 13,.func (.func 239) #[] #[],39⟩] 40),bx b6 (F8 (⟨37,1049,1,Col.zero,[]⟩:Act)) 81,bx b2 (A6 ScrC.zero ⟨none,0,0⟩ ⟨none,0,0⟩ ⟨none,0,0⟩ ⟨none,0,0⟩) 52,bx b1 (A6 s ⟨sMainq,sMain.length,sMaink⟩ ⟨sAltq,sAlt.length,sAltk⟩ ⟨none,0,0⟩ ⟨sTabsq,sTabs.length,sTabsk⟩) 52]) (fun _=>rfl)) fun ⟨⟨q11,rs12,k13⟩,hp16⟩=>?_
 obtain ⟨hr14,hc15,hl17⟩:=hp16
 have:=hr14.1
 refine A2 (nx (A3 2 rfl (ix rfl (B3 (c:=1) rfl rfl rfl rfl (by decide)) ?_)))
 refine ip' 1 0 [(45,iv 1)] ?_
 refine A2 (E5 (sr 1 rfl (ip' 1 0 [(46,bv false)] ?_)))
 refine ie (A1 (K6 rfl (F7 (nx (sr 6 rfl (zrl 4 2 [0] [(81,ag (A6 y4.1 ⟨sMainq,sMain.length,sMaink⟩ ⟨q11,y4.2.length,k13⟩ ⟨none,0,0⟩ ⟨sTabsq,sTabs.length,sTabsk⟩))] ?_))))))
 refine it rfl (L5 (us:=A6 y4.1 ⟨sMainq,sMain.length,sMaink⟩ ⟨q11,y4.2.length,k13⟩ ⟨none,0,0⟩ ⟨sTabsq,sTabs.length,sTabsk⟩) (cs':=A6 y4.1 ⟨sMainq,sMain.length,sMaink⟩ ⟨q11,y4.2.length,k13⟩ ⟨none,0,0⟩ ⟨sTabsq,sTabs.length,sTabsk⟩) A7u rfl rfl rfl 4 rfl rfl rfl rfl rfl rfl) fun _=>?_
 refine ip' 1 0 [(5,iv 0)] ?_
 subst hR
 refine ie (A7 ?_)
 exact zer hr hD (U5 rfl (Q5 (us:=A6 y4.1 ⟨sMainq,sMain.length,sMaink⟩ ⟨q11,y4.2.length,k13⟩ ⟨none,0,0⟩ ⟨sTabsq,sTabs.length,sTabsk⟩) A7u rfl 4 rfl rfl) (B2 rfl)) (⟨(sMainq,sMainrs,sMaink),⟨hrowssMainrs,(by first|omega|(simp only [List.length_take,List.length_drop,List.length_append,List.length_cons,List.length_nil,List.length_set,List.length_map,B1,A8,A9];omega)|decide),(by first|omega|(simp only [List.length_take,List.length_drop,List.length_append,List.length_cons,List.length_nil,List.length_set,List.length_map,B1,A8,A9];omega)|decide)⟩⟩,⟨(q11,rs12,k13),⟨hr14,(by first|omega|(simp only [List.length_take,List.length_drop,List.length_append,List.length_cons,List.length_nil,List.length_set,List.length_map,B1,A8,A9];omega)|decide),(by first|omega|(simp only [List.length_take,List.length_drop,List.length_append,List.length_cons,List.length_nil,List.length_set,List.length_map,B1,A8,A9];omega)|decide)⟩⟩,(zq sTabsq sTabsk)) (mk [false,false,false,false,false,false] rfl) (A4.con1 (B5 2 rfl) (A4.con1 (B5 3 rfl) (A4.con1 (B5 0 rfl) (A4.con1 (B5 1 rfl) (A4.con1 (B5 6 rfl) fn0)))))
def A6q (s:ScrC) (sMain:List (Rwc Cel)) (sAlt:List (Rwc Cel)) (sTabs:List Bool):ScrC×List (Rwc Cel)×List (Rwc Cel)×List Bool×Int :=
 (D5 (A7l s sMain sAlt sTabs) fun (y3:ScrC×List (Rwc Cel)×List (Rwc Cel)×List Bool×Int)=>(y3.1,y3.2.1,y3.2.2.1,y3.2.2.2.1,y3.2.2.2.2))
theorem C2i (s:ScrC) (sMain:List (Rwc Cel)) (sAlt:List (Rwc Cel)) (sTabs:List Bool) (sMainq:Option Addr) (sMainrs:List Rwq) (sMaink:Nat) (sAltq:Option Addr) (sAltrs:List Rwq) (sAltk:Nat) (sTabsq:Option Addr) (sTabsk:Nat) (hrowssMainrs:C8 sMainrs sMain) (hlsMain:sMain.length≤9223372036854775807) (hcsMain:sMain.length≤sMaink) (hrowssAltrs:C8 sAltrs sAlt) (hlsAlt:sAlt.length≤9223372036854775807) (hcsAlt:sAlt.length≤sAltk) (hlsTabs:sTabs.length≤9223372036854775807) (hcsTabs:sTabs.length≤sTabsk) (hTs:s.title.length≤100000000) (R:ScrC×List (Rwc Cel)×List (Rwc Cel)×List Bool×Int) (hR:A6q s sMain sAlt sTabs=R):Con Tryz.prog 52 [ag (A6 s ⟨sMainq,sMain.length,sMaink⟩ ⟨sAltq,sAlt.length,sAltk⟩ ⟨none,0,0⟩ ⟨sTabsq,sTabs.length,sTabsk⟩),ag (F8 (⟨37,1049,1,Col.zero,[]⟩:Act))] [] [sl B7 sMainq sMainrs,C3 B4 sMainrs sMain,sl B7 sAltq sAltrs,C3 B4 sAltrs sAlt,sl D3 sTabsq sTabs,A3z,A3w] ({t:Option Addr×List Rwq×Nat // C8 t.2.1 R.2.1∧R.2.1.length≤t.2.2∧R.2.1.length≤9223372036854775807}×{t:Option Addr×List Rwq×Nat // C8 t.2.1 R.2.2.1∧R.2.2.1.length≤t.2.2∧R.2.2.1.length≤9223372036854775807}×{t:Option Addr×Nat // R.2.2.2.1.length≤t.2∧R.2.2.2.1.length≤9223372036854775807}) (fun x=>.tuple #[ag (A6 R.1 ⟨x.1.1.1,R.2.1.length,x.1.1.2.2⟩ ⟨x.2.1.1.1,R.2.2.1.length,x.2.1.1.2.2⟩ ⟨none,0,0⟩ ⟨x.2.2.1.1,R.2.2.2.1.length,x.2.2.1.2⟩),iv R.2.2.2.2]) (fun x=>[]) (fun x=>[sl B7 x.1.1.1 x.1.1.2.1,C3 B4 x.1.1.2.1 R.2.1,sl B7 x.2.1.1.1 x.2.1.1.2.1,C3 B4 x.2.1.1.2.1 R.2.2.1,sl D3 x.2.2.1.1 R.2.2.2.1]):=by
 refine zco Tryz.func52 [(0,ag (A6 s ⟨sMainq,sMain.length,sMaink⟩ ⟨sAltq,sAlt.length,sAltk⟩ ⟨none,0,0⟩ ⟨sTabsq,sTabs.length,sTabsk⟩)),(1,ag (F8 (⟨37,1049,1,Col.zero,[]⟩:Act)))] fun X hX hr hD=>?_
 replace hR:=(A6q.eq_1 ..).symm.trans hR
 have:=hrowssMainrs.1
 have:=hrowssAltrs.1
 refine sr 4 rfl (C8s 4 0 [] (fun b1 b2 b3=>[(2,pt b1 0),(3,pt b2 0),(4,pt b3 0)]) (fun b1 b2 b3=>[bx b3 (A6 ScrC.zero ⟨none,0,0⟩ ⟨none,0,0⟩ ⟨none,0,0⟩ ⟨none,0,0⟩) 52,bx b2 (F8 (⟨37,1049,1,Col.zero,[]⟩:Act)) 81,bx b1 (A6 s ⟨sMainq,sMain.length,sMaink⟩ ⟨sAltq,sAlt.length,sAltk⟩ ⟨none,0,0⟩ ⟨sTabsq,sTabs.length,sTabsk⟩) 52]) (fun b1 b2 b3=>?_))
 refine ie (sr 8 rfl (zrl 2 6 [2,1] [(6,ag (A6 s ⟨sMainq,sMain.length,sMaink⟩ ⟨sAltq,sAlt.length,sAltk⟩ ⟨none,0,0⟩ ⟨sTabsq,sTabs.length,sTabsk⟩)),(7,ag (F8 (⟨37,1049,1,Col.zero,[]⟩:Act)))] ?_))
 refine it rfl (E3 (c:=F8) (xs:=([(⟨37,1049,1,Col.zero,[]⟩:Act)]:List Act)) C3w rfl rfl rfl (by kernel_rfl)) fun b4=>?_
 have:([(⟨37,1049,1,Col.zero,[]⟩:Act)]:List Act).length=1:=rfl
 have hQ:=F5 hR;clear hR;obtain ⟨y3,hy3,hR⟩:=hQ
 refine zcm (C0m s sMain sAlt sTabs sMainq sMainrs sMaink sAltq sAltrs sAltk sTabsq sTabsk (some ⟨b4,0,none⟩) hrowssMainrs (by first|omega|(simp only [List.length_take,List.length_drop,List.length_append,List.length_cons,List.length_nil,List.length_set,List.length_map,B1,A8,A9];omega)|decide) (by first|omega|(simp only [List.length_take,List.length_drop,List.length_append,List.length_cons,List.length_nil,List.length_set,List.length_map,B1,A8,A9];omega)|decide) hrowssAltrs (by first|omega|(simp only [List.length_take,List.length_drop,List.length_append,List.length_cons,List.length_nil,List.length_set,List.length_map,B1,A8,A9];omega)|decide) (by first|omega|(simp only [List.length_take,List.length_drop,List.length_append,List.length_cons,List.length_nil,List.length_set,List.length_map,B1,A8,A9];omega)|decide) (by first|omega|(simp only [List.length_take,List.length_drop,List.length_append,List.length_cons,List.length_nil,List.length_set,List.length_map,B1,A8,A9];omega)|decide) (by first|omega|(simp only [List.length_take,List.length_drop,List.length_append,List.length_cons,List.length_nil,List.length_set,List.length_map,B1,A8,A9];omega)|decide) (by first|omega|(simp only [List.length_nil];omega)|(dsimp only;omega)) y3 hy3) (A4.pick [1,2,3,4,5,0,6,7] rfl) fun ⟨⟨⟨q5,rs6,k7⟩,hp10⟩,⟨⟨q12,rs13,k14⟩,hp17⟩,⟨⟨q19,k20⟩,hp21⟩⟩=>?_
 obtain ⟨hr8,hc9,hl11⟩:=hp10
 obtain ⟨hr15,hc16,hl18⟩:=hp17
 obtain ⟨hc22,hl23⟩:=hp21
 have:=hr8.1
 have:=hr15.1
 refine zrg 4 0 [0] [(5,iv y3.2.2.2.2)] [bx b3 (A6 y3.1 ⟨q5,y3.2.1.length,k7⟩ ⟨q12,y3.2.2.1.length,k14⟩ ⟨none,0,0⟩ ⟨q19,y3.2.2.2.1.length,k20⟩) 52,bx b2 (F8 (⟨37,1049,1,Col.zero,[]⟩:Act)) 81,bx b1 (A6 s ⟨sMainq,sMain.length,sMaink⟩ ⟨sAltq,sAlt.length,sAltk⟩ ⟨none,0,0⟩ ⟨sTabsq,sTabs.length,sTabsk⟩) 52] ?_
 subst hR
 refine ie (A7 ?_)
 exact zer hr hD (U5 rfl (Q5 (us:=A6 y3.1 ⟨q5,y3.2.1.length,k7⟩ ⟨q12,y3.2.2.1.length,k14⟩ ⟨none,0,0⟩ ⟨q19,y3.2.2.2.1.length,k20⟩) A7u rfl 0 rfl rfl) (B2 rfl)) (⟨(q5,rs6,k7),⟨hr8,(by first|omega|(simp only [List.length_take,List.length_drop,List.length_append,List.length_cons,List.length_nil,List.length_set,List.length_map,B1,A8,A9];omega)|decide),(by first|omega|(simp only [List.length_take,List.length_drop,List.length_append,List.length_cons,List.length_nil,List.length_set,List.length_map,B1,A8,A9];omega)|decide)⟩⟩,⟨(q12,rs13,k14),⟨hr15,(by first|omega|(simp only [List.length_take,List.length_drop,List.length_append,List.length_cons,List.length_nil,List.length_set,List.length_map,B1,A8,A9];omega)|decide),(by first|omega|(simp only [List.length_take,List.length_drop,List.length_append,List.length_cons,List.length_nil,List.length_set,List.length_map,B1,A8,A9];omega)|decide)⟩⟩,(zq q19 k20)) (mk [false,false,false] rfl) (A4.con1 (B5 0 rfl) (A4.con1 (B5 1 rfl) (A4.con1 (B5 2 rfl) (A4.con1 (B5 3 rfl) (A4.con1 (B5 4 rfl) fn0)))))
def N9 (f:FrmC) (y1:ScrC×List (Rwc Cel)×List (Rwc Cel)×List Bool×Int):List (List Cel)→Nat→List (Rwc Cel)→(ScrC×List (Rwc Cel)×List (Rwc Cel)×List Bool×Int)
 | [],t40,sAlt=>({y1.1 with cursor:={Cur.zero with row:=f.cursor.row,col:=f.cursor.col},modes:={y1.1.modes with visible:=f.visible},shape:=f.shape,title:=f.title},y1.2.1,sAlt,y1.2.2.2.1,0)
 | hd_l0::tl_l0,t40,sAlt=>N9 f y1 tl_l0 (t40+1) (sAlt++([⟨hd_l0,false⟩]:List (Rwc Cel)))
def X2 (f:FrmC) (fR:List (List Cel)):ScrC×List (Rwc Cel)×List (Rwc Cel)×List Bool×Int :=
 (bif (!decide ((F3 f fR)=0)) then (ScrC.zero,([]:List (Rwc Cel)),([]:List (Rwc Cel)),([]:List Bool),(F3 f fR)) else (D5 (U6 f.cols (fR.length:Int)) fun (y2:ScrC×List (Rwc Cel)×List (Rwc Cel)×List Bool×Int)=>(bif (decide (y2.2.2.2.2=0)) then (D5 (A6q y2.1 y2.2.1 y2.2.2.1 y2.2.2.2.1) fun (y1:ScrC×List (Rwc Cel)×List (Rwc Cel)×List Bool×Int)=>(bif (!decide (y1.2.2.2.2=0)) then (ScrC.zero,([]:List (Rwc Cel)),([]:List (Rwc Cel)),([]:List Bool),y1.2.2.2.2) else N9 f y1 fR 0 ([]:List (Rwc Cel)))) else (ScrC.zero,([]:List (Rwc Cel)),([]:List (Rwc Cel)),([]:List Bool),y2.2.2.2.2))))
theorem B6f (f:FrmC) (d:ScrC×List (Rwc Cel)×List (Rwc Cel)×List Bool×Int):∀ (l:List (List Cel)) (t:Nat) (a:List (Rwc Cel)),(N9 f d l t a).1.title=f.title
 | [],t,a=>rfl
 | x::l,t,a=>by simp only [N9];exact B6f f d l _ _
theorem A6d (f:FrmC) (fr:List (List Cel)):(X2 f fr).1.title.length≤f.title.length:=by
 unfold X2 D5
 simp only [Bool.cond_eq_ite]
 repeat' split
 all_goals first|exact Nat.zero_le _|(rw [B6f];exact Nat.le_refl _)
theorem B0g (f:FrmC) (fR:List (List Cel)) (fQ:Option Addr) (fZ:List Slc) (fK:Nat) (hrowsfRowsrs:D0 fZ fR) (hlfRows:fR.length≤9223372036854775807) (hcfRows:fR.length≤fK) (hT:f.title.length≤100000000) (R:ScrC×List (Rwc Cel)×List (Rwc Cel)×List Bool×Int) (hR:X2 f fR=R):Con Tryz.prog 22 [ag (A0 f ⟨fQ,fR.length,fK⟩)] [] [sl C7 fQ fZ,H0 B4 fZ fR,A3z,A3w] ({t:Option Addr×List Rwq×Nat // C8 t.2.1 R.2.1∧R.2.1.length≤t.2.2∧R.2.1.length≤9223372036854775807}×{t:VR×List Rwq // VOk 2 R.2.2.1.length t.1∧C8 t.2 R.2.2.1}×{t:Option Addr×Nat // R.2.2.2.1.length≤t.2∧R.2.2.2.1.length≤9223372036854775807}) (fun x=>.tuple #[ag (A6 R.1 ⟨x.1.1.1,R.2.1.length,x.1.1.2.2⟩ ⟨va x.2.1.1.1.q,R.2.2.1.length,x.2.1.1.1.k⟩ ⟨none,0,0⟩ ⟨x.2.2.1.1,R.2.2.2.1.length,x.2.2.1.2⟩),iv R.2.2.2.2]) (fun x=>((vo B7 78 x.2.1.1.1 x.2.1.1.2)++([]))) (fun x=>[sl B7 x.1.1.1 x.1.1.2.1,C3 B4 x.1.1.2.1 R.2.1,C3 B4 x.2.1.1.2 R.2.2.1,sl D3 x.2.2.1.1 R.2.2.2.1]):=by
 refine zco Tryz.func22 [(0,ag (A0 f ⟨fQ,fR.length,fK⟩))] fun X hX hr hD=>?_
 replace hR:=(X2.eq_1 ..).symm.trans hR
 have:=hrowsfRowsrs.1
 refine sr 3 rfl (A9f 3 0 [] (fun b1 b2=>[(1,pt b1 0),(2,pt b2 0)]) (fun b1 b2=>[bx b2 (A6 ScrC.zero ⟨none,0,0⟩ ⟨none,0,0⟩ ⟨none,0,0⟩ ⟨none,0,0⟩) 52,bx b1 (A0 f ⟨fQ,fR.length,fK⟩) 26]) (fun b1 b2=>?_))
 refine ie (A1 (sr 3 rfl (zrl 1 2 [1] [(9,ag (A0 f ⟨fQ,fR.length,fK⟩))] ?_)))
 refine zca (A3q f fR fQ fZ fK hrowsfRowsrs (by first|omega|(simp only [List.length_take,List.length_drop,List.length_append,List.length_cons,List.length_nil,List.length_set,List.length_map,B1,A8,A9];omega)|decide) (by first|omega|(simp only [List.length_take,List.length_drop,List.length_append,List.length_cons,List.length_nil,List.length_set,List.length_map,B1,A8,A9];omega)|decide) (by first|omega|(simp only [List.length_nil];omega)|(dsimp only;omega)) _ rfl) A4.refl ?_
 refine ip' 1 0 [(4,iv (F3 f fR))] ?_
 refine ie (sr 2 rfl (ip' 2 0 [(12,bv (!decide ((F3 f fR)=0)))] ?_))
 refine ie ?_
 refine zjn rfl hR ?_ ?_<;>clear hR<;>intro hR h3 h3p
 ·refine sr 4 rfl (zrg 4 0 [0] [(3,iv (F3 f fR))] [bx b2 (A6 ScrC.zero ⟨none,0,0⟩ ⟨none,0,0⟩ ⟨none,0,0⟩ ⟨none,0,0⟩) 52,bx b1 (A0 f ⟨fQ,fR.length,fK⟩) 26] ?_)
  subst hR
  refine ie (A7 ?_)
  exact zer hr hD (U5 rfl (Q5 (us:=A6 ScrC.zero ⟨none,0,0⟩ ⟨none,0,0⟩ ⟨none,0,0⟩ ⟨none,0,0⟩) A7u rfl 0 rfl rfl) (B2 rfl)) (⟨(none,[],0),⟨C8.none,(by first|omega|(simp only [List.length_take,List.length_drop,List.length_append,List.length_cons,List.length_nil,List.length_set,List.length_map,B1,A8,A9];omega)|decide),(by first|omega|(simp only [List.length_take,List.length_drop,List.length_append,List.length_cons,List.length_nil,List.length_set,List.length_map,B1,A8,A9];omega)|decide)⟩⟩,⟨(VR.nil,([]:List Rwq)),⟨VOk.nil,C8.none⟩⟩,(zq none 0)) (mc [[bx b2 (A6 ScrC.zero ⟨none,0,0⟩ ⟨none,0,0⟩ ⟨none,0,0⟩ ⟨none,0,0⟩) 52],[bx b1 (A0 f ⟨fQ,fR.length,fK⟩) 26],vo B7 78 VR.nil ([]:List Rwq)] [false,false,true] rfl (by first|rfl|(simp only [List.length_set]<;>rfl))) (A4.con1 O8 (A4.con1 Y3 (A4.con1 Y3 (A4.con1 O8 fn0))))
 have hfc:=A2k (by first|exact h3p|simpa using h3)
 refine A5 (nx (sr 12 rfl (zrl 5 7 [1,1] [(17,iv f.cols),(20,iv (fR.length:Int))] ?_)))
 have hQ:=F5 hR;clear hR;obtain ⟨y2,hy2,hR⟩:=hQ
 refine it rfl (H2 (L2:=[bx b2 (A6 ScrC.zero ⟨none,0,0⟩ ⟨none,0,0⟩ ⟨none,0,0⟩ ⟨none,0,0⟩) 52,bx b1 (A0 f ⟨fQ,fR.length,fK⟩) 26]) (B2u f.cols (fR.length:Int) y2 hy2) rfl rfl rfl rfl rfl fn0 (List.Perm.refl _) (fun ⟨⟨⟨r4,rs5⟩,hp8⟩,⟨⟨r9,rs10⟩,hp13⟩,⟨r14,hk15⟩⟩=>(bx b2 (A6 ScrC.zero ⟨none,0,0⟩ ⟨none,0,0⟩ ⟨none,0,0⟩ ⟨none,0,0⟩) 52::bx b1 (A0 f ⟨fQ,fR.length,fK⟩) 26::(vo B7 78 r4 rs5)++((vo B7 78 r9 rs10)++((vo D3 4 r14 y2.2.2.2.1)++([]))))) (fun ⟨⟨⟨r4,rs5⟩,hp8⟩,⟨⟨r9,rs10⟩,hp13⟩,⟨r14,hk15⟩⟩=>H5 [vo B7 78 r4 rs5,vo B7 78 r9 rs10,vo D3 4 r14 y2.2.2.2.1,[bx b2 (A6 ScrC.zero ⟨none,0,0⟩ ⟨none,0,0⟩ ⟨none,0,0⟩ ⟨none,0,0⟩) 52],[bx b1 (A0 f ⟨fQ,fR.length,fK⟩) 26]] [3,4,0,1,2] 5 rfl (by decide) (by first|rfl|simp only [List.flatten_cons,List.flatten_nil,List.append_nil,List.cons_append,List.nil_append,List.append_assoc]) [[bx b2 (A6 ScrC.zero ⟨none,0,0⟩ ⟨none,0,0⟩ ⟨none,0,0⟩ ⟨none,0,0⟩) 52],[bx b1 (A0 f ⟨fQ,fR.length,fK⟩) 26],vo B7 78 r4 rs5,vo B7 78 r9 rs10,vo D3 4 r14 y2.2.2.2.1] rfl (by first|rfl|simp only [List.flatten_cons,List.flatten_nil,List.append_nil,List.cons_append,List.nil_append,List.append_assoc]))) fun ⟨⟨⟨r4,rs5⟩,hp8⟩,⟨⟨r9,rs10⟩,hp13⟩,⟨r14,hk15⟩⟩=>?_
 try dsimp only at hp8
 obtain ⟨hk6,hw7⟩:=hp8
 try dsimp only at hp13
 obtain ⟨hk11,hw12⟩:=hp13
 have:=VOk.le hk6
 have:=VOk.le hk11
 have:=VOk.le hk15
 have:=VOk.cap hk6
 have:=VOk.cap hk11
 have:=VOk.cap hk15
 have:=hw7.1
 have:=hw12.1
 have ht_rscreenNew:=A3d f.cols (fR.length:Int);rw [hy2] at ht_rscreenNew;have hl_rscreenNew:=A9n f.cols (fR.length:Int);rw [hy2] at hl_rscreenNew
 refine K0 6 0 [0] (fun b16=>[(5,pt b16 0),(6,iv y2.2.2.2.2)]) (fun b16=>(bx b16 (A6 y2.1 ⟨va r4.q,y2.2.1.length,r4.k⟩ ⟨va r9.q,y2.2.2.1.length,r9.k⟩ ⟨none,0,0⟩ ⟨va r14.q,y2.2.2.2.1.length,r14.k⟩) 52::bx b2 (A6 ScrC.zero ⟨none,0,0⟩ ⟨none,0,0⟩ ⟨none,0,0⟩ ⟨none,0,0⟩) 52::bx b1 (A0 f ⟨fQ,fR.length,fK⟩) 26::(vo B7 78 r4 rs5)++((vo B7 78 r9 rs10)++((vo D3 4 r14 y2.2.2.2.1)++([]))))) (fun b16=>?_)
 refine ie (A1 (sr 2 rfl (ip' 2 0 [(25,bv (decide (y2.2.2.2.2=0)))] ?_)))
 refine ie ?_
 refine zjd rfl hR ?_ ?_<;>clear hR<;>intro hR h17 h17p
 ·refine A3 8 rfl (zrl 2 6 [0] [(27,ag (A6 y2.1 ⟨va r4.q,y2.2.1.length,r4.k⟩ ⟨va r9.q,y2.2.2.1.length,r9.k⟩ ⟨none,0,0⟩ ⟨va r14.q,y2.2.2.2.1.length,r14.k⟩)),(28,ag (F8 ({Act.zero with kind:=37,n:=1049,m:=1})))] ?_)
  have:=VOk.cap hk6
  have:=VOk.le hk6
  refine O7 [bx b16 (A6 y2.1 ⟨va r4.q,y2.2.1.length,r4.k⟩ ⟨va r9.q,y2.2.2.1.length,r9.k⟩ ⟨none,0,0⟩ ⟨va r14.q,y2.2.2.2.1.length,r14.k⟩) 52,bx b2 (A6 ScrC.zero ⟨none,0,0⟩ ⟨none,0,0⟩ ⟨none,0,0⟩ ⟨none,0,0⟩) 52,bx b1 (A0 f ⟨fQ,fR.length,fK⟩) 26] ((vo B7 78 r9 rs10)++((vo D3 4 r14 y2.2.2.2.1)++([]))) (T:=78) (c:=B7) (r:=r4) (xs:=rs5) (VOk.cast hk6 (by rw [hw7.1])) (by first|rfl|simp only [List.cons_append,List.append_assoc,List.nil_append,List.append_nil]) ?_
  have:=VOk.cap hk11
  have:=VOk.le hk11
  refine O7 [bx b16 (A6 y2.1 ⟨va r4.q,y2.2.1.length,r4.k⟩ ⟨va r9.q,y2.2.2.1.length,r9.k⟩ ⟨none,0,0⟩ ⟨va r14.q,y2.2.2.2.1.length,r14.k⟩) 52,bx b2 (A6 ScrC.zero ⟨none,0,0⟩ ⟨none,0,0⟩ ⟨none,0,0⟩ ⟨none,0,0⟩) 52,bx b1 (A0 f ⟨fQ,fR.length,fK⟩) 26] ((vo D3 4 r14 y2.2.2.2.1)++([])) (T:=78) (c:=B7) (r:=r9) (xs:=rs10) (VOk.cast hk11 (by rw [hw12.1])) (by first|rfl|simp only [List.cons_append,List.append_assoc,List.nil_append,List.append_nil]) ?_
  have:=VOk.cap hk15
  have:=VOk.le hk15
  refine O7 [bx b16 (A6 y2.1 ⟨va r4.q,y2.2.1.length,r4.k⟩ ⟨va r9.q,y2.2.2.1.length,r9.k⟩ ⟨none,0,0⟩ ⟨va r14.q,y2.2.2.2.1.length,r14.k⟩) 52,bx b2 (A6 ScrC.zero ⟨none,0,0⟩ ⟨none,0,0⟩ ⟨none,0,0⟩ ⟨none,0,0⟩) 52,bx b1 (A0 f ⟨fQ,fR.length,fK⟩) 26] [] (T:=4) (c:=D3) (r:=r14) (xs:=y2.2.2.2.1) hk15 (by first|rfl|simp only [List.cons_append,List.append_assoc,List.nil_append,List.append_nil]) ?_
  have hQ:=F5 hR;clear hR;obtain ⟨y1,hy1,hR⟩:=hQ
  refine zcm (C2i y2.1 y2.2.1 y2.2.2.1 y2.2.2.2.1 (va r4.q) rs5 r4.k (va r9.q) rs10 r9.k (va r14.q) r14.k hw7 (by first|omega|(simp only [List.length_take,List.length_drop,List.length_append,List.length_cons,List.length_nil,List.length_set,List.length_map,B1,A8,A9];omega)|decide) (by first|omega|(simp only [List.length_take,List.length_drop,List.length_append,List.length_cons,List.length_nil,List.length_set,List.length_map,B1,A8,A9];omega)|decide) hw12 (by first|omega|(simp only [List.length_take,List.length_drop,List.length_append,List.length_cons,List.length_nil,List.length_set,List.length_map,B1,A8,A9];omega)|decide) (by first|omega|(simp only [List.length_take,List.length_drop,List.length_append,List.length_cons,List.length_nil,List.length_set,List.length_map,B1,A8,A9];omega)|decide) (by first|omega|(simp only [List.length_take,List.length_drop,List.length_append,List.length_cons,List.length_nil,List.length_set,List.length_map,B1,A8,A9];omega)|decide) (by first|omega|(simp only [List.length_take,List.length_drop,List.length_append,List.length_cons,List.length_nil,List.length_set,List.length_map,B1,A8,A9];omega)|decide) (by first|omega|(simp only [List.length_nil];omega)|(dsimp only;omega)) y1 hy1) (A4.pick [2,3,1,4,0,7,8] rfl) fun ⟨⟨⟨q18,rs19,k20⟩,hp23⟩,⟨⟨q25,rs26,k27⟩,hp30⟩,⟨⟨q32,k33⟩,hp34⟩⟩=>?_
  obtain ⟨hr21,hc22,hl24⟩:=hp23
  obtain ⟨hr28,hc29,hl31⟩:=hp30
  obtain ⟨hc35,hl36⟩:=hp34
  have:=hr21.1
  have:=hr28.1
  refine zrg 5 0 [0] [(6,iv y1.2.2.2.2)] [bx b16 (A6 y1.1 ⟨q18,y1.2.1.length,k20⟩ ⟨q25,y1.2.2.1.length,k27⟩ ⟨none,0,0⟩ ⟨q32,y1.2.2.2.1.length,k33⟩) 52,bx b2 (A6 ScrC.zero ⟨none,0,0⟩ ⟨none,0,0⟩ ⟨none,0,0⟩ ⟨none,0,0⟩) 52,bx b1 (A0 f ⟨fQ,fR.length,fK⟩) 26] ?_
  refine A2 (nx (A1 (sr 2 rfl (ip' 2 0 [(33,bv (!decide (y1.2.2.2.2=0)))] ?_))))
  refine ie ?_
  refine zjn rfl hR ?_ ?_<;>clear hR<;>intro hR h37 h37p
  ·refine sr 4 rfl (zrg 4 0 [1] [(3,iv y1.2.2.2.2)] [bx b16 (A6 y1.1 ⟨q18,y1.2.1.length,k20⟩ ⟨q25,y1.2.2.1.length,k27⟩ ⟨none,0,0⟩ ⟨q32,y1.2.2.2.1.length,k33⟩) 52,bx b2 (A6 ScrC.zero ⟨none,0,0⟩ ⟨none,0,0⟩ ⟨none,0,0⟩ ⟨none,0,0⟩) 52,bx b1 (A0 f ⟨fQ,fR.length,fK⟩) 26] ?_)
   subst hR
   refine ie (A7 ?_)
   exact zer hr hD (U5 rfl (Q5 (us:=A6 ScrC.zero ⟨none,0,0⟩ ⟨none,0,0⟩ ⟨none,0,0⟩ ⟨none,0,0⟩) A7u rfl 1 rfl rfl) (B2 rfl)) (⟨(none,[],0),⟨C8.none,(by first|omega|(simp only [List.length_take,List.length_drop,List.length_append,List.length_cons,List.length_nil,List.length_set,List.length_map,B1,A8,A9];omega)|decide),(by first|omega|(simp only [List.length_take,List.length_drop,List.length_append,List.length_cons,List.length_nil,List.length_set,List.length_map,B1,A8,A9];omega)|decide)⟩⟩,⟨(VR.nil,([]:List Rwq)),⟨VOk.nil,C8.none⟩⟩,(zq none 0)) (mc [[bx b16 (A6 y1.1 ⟨q18,y1.2.1.length,k20⟩ ⟨q25,y1.2.2.1.length,k27⟩ ⟨none,0,0⟩ ⟨q32,y1.2.2.2.1.length,k33⟩) 52],[bx b2 (A6 ScrC.zero ⟨none,0,0⟩ ⟨none,0,0⟩ ⟨none,0,0⟩ ⟨none,0,0⟩) 52],[bx b1 (A0 f ⟨fQ,fR.length,fK⟩) 26],vo B7 78 VR.nil ([]:List Rwq)] [false,false,false,true] rfl (by first|rfl|(simp only [List.length_set]<;>rfl))) (A4.con1 O8 (A4.con1 Y3 (A4.con1 Y3 (A4.con1 O8 fn0))))
  refine A5 (nx (sr 2 rfl (zrg 2 0 [0] [] [bx b16 (A6 y1.1 ⟨q18,y1.2.1.length,k20⟩ ⟨none,0,0⟩ ⟨none,0,0⟩ ⟨q32,y1.2.2.2.1.length,k33⟩) 52,bx b2 (A6 ScrC.zero ⟨none,0,0⟩ ⟨none,0,0⟩ ⟨none,0,0⟩ ⟨none,0,0⟩) 52,bx b1 (A0 f ⟨fQ,fR.length,fK⟩) 26] ?_)))
  refine ie (A1 (sr 4 rfl (zrl 4 0 [2] [(38,.slice fQ fR.length fK),(39,iv (fR.length:Int)),(40,iv 0)] ?_)))
  refine ie (B0 (Z3 (H5 [vo B7 78 VR.nil ([]:List Rwq),[bx b16 (A6 y1.1 ⟨q18,y1.2.1.length,k20⟩ ⟨none,0,0⟩ ⟨none,0,0⟩ ⟨q32,y1.2.2.2.1.length,k33⟩) 52],[bx b2 (A6 ScrC.zero ⟨none,0,0⟩ ⟨none,0,0⟩ ⟨none,0,0⟩ ⟨none,0,0⟩) 52],[bx b1 (A0 f ⟨fQ,fR.length,fK⟩) 26]] [1,2,3,0] 4 rfl (by decide) rfl [[bx b16 (A6 y1.1 ⟨q18,y1.2.1.length,k20⟩ ⟨none,0,0⟩ ⟨none,0,0⟩ ⟨q32,y1.2.2.2.1.length,k33⟩) 52],[bx b2 (A6 ScrC.zero ⟨none,0,0⟩ ⟨none,0,0⟩ ⟨none,0,0⟩ ⟨none,0,0⟩) 52],[bx b1 (A0 f ⟨fQ,fR.length,fK⟩) 26],vo B7 78 VR.nil ([]:List Rwq)] rfl (by first|rfl|simp)) ?_))
  refine B0q (fun (t40:Nat) (sAlt:List (Rwc Cel)) (sAltr:VR) (sAltrs:List Rwq)=>(t40≤fR.length∧N9 f y1 (fR.drop t40) t40 sAlt=R∧VOk 2 sAlt.length sAltr∧C8 sAltrs sAlt∧sAlt.length=t40,[(1,pt b1 0),(2,pt b2 0),(5,pt b16 0),(38,.slice fQ fR.length fK),(39,iv (fR.length:Int)),(40,iv (t40:Int))],(bx b16 (A6 y1.1 ⟨q18,y1.2.1.length,k20⟩ ⟨va sAltr.q,sAlt.length,sAltr.k⟩ ⟨none,0,0⟩ ⟨q32,y1.2.2.2.1.length,k33⟩) 52::bx b2 (A6 ScrC.zero ⟨none,0,0⟩ ⟨none,0,0⟩ ⟨none,0,0⟩ ⟨none,0,0⟩) 52::bx b1 (A0 f ⟨fQ,fR.length,fK⟩) 26::(vo B7 78 sAltr sAltrs)++([])),[sl B7 q18 rs19,C3 B4 rs19 y1.2.1,sl B7 q25 rs26,C3 B4 rs26 y1.2.2.1,sl D3 q32 y1.2.2.2.1,sl D3 (va r14.q) y2.2.2.2.1,sl B7 (va r9.q) rs10,sl B7 (va r4.q) rs5,C3 B4 rs5 y2.2.1,C3 B4 rs10 y2.2.2.1,sl C7 fQ fZ,H0 B4 fZ fR,A3z,A3w,C3 B4 sAltrs sAlt],fR.length - t40)) 0 ([]:List (Rwc Cel)) VR.nil ([]:List Rwq) ⟨(by omega),hR,VOk.nil,C8.none,(by rfl)⟩ (mc [[bx b16 (A6 y1.1 ⟨q18,y1.2.1.length,k20⟩ ⟨none,0,0⟩ ⟨none,0,0⟩ ⟨q32,y1.2.2.2.1.length,k33⟩) 52],[bx b2 (A6 ScrC.zero ⟨none,0,0⟩ ⟨none,0,0⟩ ⟨none,0,0⟩ ⟨none,0,0⟩) 52],[bx b1 (A0 f ⟨fQ,fR.length,fK⟩) 26],vo B7 78 VR.nil ([]:List Rwq)] [true,true,true,true] rfl (by first|rfl|(simp only [List.length_set]<;>rfl))) (A4.con1 (B5 0 rfl) (A4.con1 (B5 1 rfl) (A4.con1 (B5 2 rfl) (A4.con1 (B5 3 rfl) (A4.con1 (B5 4 rfl) (A4.con1 (B5 5 rfl) (A4.con1 (B5 6 rfl) (A4.con1 (B5 7 rfl) (A4.con1 (B5 8 rfl) (A4.con1 (B5 9 rfl) (A4.con1 (B5 10 rfl) (A4.con1 (B5 11 rfl) (A4.con1 (B5 12 rfl) (A4.con1 (B5 13 rfl) (A4.con1 Y3 fn0))))))))))))))) ?_
  rintro t40 sAlt sAltr sAltrs ⟨hm38,hR,hoksAltr,hrowssAltrs,hal⟩
  have:=VOk.le hoksAltr
  have:=hrowssAltrs.1
  refine sr 1 rfl (ip' 1 0 [(41,bv (decide ((t40:Int)<(fR.length:Int))))] ?_)
  refine ie (A1 (S5 rfl (fun h39=>?_) (fun h39=>?_)))
  ·have h39p:(t40:Int)<(fR.length:Int):=by simpa using h39
   rw [V2 [] (show t40<fR.length by omega)] at hR;replace hR:=(N9.eq_2 ..).symm.trans hR
   refine A5 (nx (A1 (B0 (sr 3 rfl (K3 10 rfl (by have:=hrowsfRowsrs.1;omega) fun a40 hq41=>?_)))))
   refine H8 (P3 (k:=t40) (d:=(⟨none,0,0⟩:Slc)) hrowsfRowsrs 11 rfl (by have:=hrowsfRowsrs.1;omega)) ?_
   have:=P1 hrowsfRowsrs (k:=t40) (d:=(⟨none,0,0⟩:Slc)) (by have:=hrowsfRowsrs.1;omega)
   refine ix rfl (F0 A0d rfl rfl hq41 rfl t40 rfl (by omega)) ?_
   refine ix rfl (H1 (C6 (v:=.slice ((fZ.getD t40 (⟨none,0,0⟩:Slc)).q) ((fZ.getD t40 (⟨none,0,0⟩:Slc)).n) ((fZ.getD t40 (⟨none,0,0⟩:Slc)).k)) (us:=[.slice ((fZ.getD t40 (⟨none,0,0⟩:Slc)).q) ((fZ.getD t40 (⟨none,0,0⟩:Slc)).n) ((fZ.getD t40 (⟨none,0,0⟩:Slc)).k)]) A5e rfl rfl (G2 (c:=C7) (sz:=1) hq41 (fun _=>rfl) 11 rfl (gd (⟨none,0,0⟩:Slc) (by have:=hrowsfRowsrs.1;omega))) rfl) (P2 hrowsfRowsrs (by have:=hrowsfRowsrs.1;omega))) ?_
   refine ip' 1 0 [(8,.slice ((fZ.getD t40 (⟨none,0,0⟩:Slc)).q) ((fR.getD t40 []).length) ((fZ.getD t40 (⟨none,0,0⟩:Slc)).k))] ?_
   refine ie (A3 8 rfl (zrl 4 4 [0] [(45,.slice (va sAltr.q) sAlt.length sAltr.k),(47,ag [.slice ((fZ.getD t40 (⟨none,0,0⟩:Slc)).q) ((fR.getD t40 []).length) ((fZ.getD t40 (⟨none,0,0⟩:Slc)).k),bv false])] ?_))
   refine it rfl (E3 (c:=B7) (xs:=([⟨⟨(fZ.getD t40 (⟨none,0,0⟩:Slc)).q,(fR.getD t40 []).length,(fZ.getD t40 (⟨none,0,0⟩:Slc)).k⟩,false⟩]:List Rwq)) B0h rfl rfl rfl (by kernel_rfl)) fun b42=>?_
   have hrows43:C8 ([⟨⟨(fZ.getD t40 (⟨none,0,0⟩:Slc)).q,(fR.getD t40 []).length,(fZ.getD t40 (⟨none,0,0⟩:Slc)).k⟩,false⟩]:List Rwq) ([⟨(fR.getD t40 []),false⟩]:List (Rwc Cel)):=(C8.cons ⟨rfl,(by first|omega|(simp only [List.length_take,List.length_drop,List.length_append,List.length_cons,List.length_nil,List.length_set,List.length_map,B1,A8,A9];omega)|decide),(by first|omega|(simp only [List.length_take,List.length_drop,List.length_append,List.length_cons,List.length_nil,List.length_set,List.length_map,B1,A8,A9];omega)|decide)⟩ rfl C8.none)
   refine H8 (q:=C3 B4 ([⟨⟨(fZ.getD t40 (⟨none,0,0⟩:Slc)).q,(fR.getD t40 []).length,(fZ.getD t40 (⟨none,0,0⟩:Slc)).k⟩,false⟩]:List Rwq) ([⟨(fR.getD t40 []),false⟩]:List (Rwc Cel))) (C4z (B5 1 rfl) Y3) ?_
   have:([⟨⟨(fZ.getD t40 (⟨none,0,0⟩:Slc)).q,(fR.getD t40 []).length,(fZ.getD t40 (⟨none,0,0⟩:Slc)).k⟩,false⟩]:List Rwq).length=1:=rfl
   have hw46:C8 (sAltrs++([⟨⟨(fZ.getD t40 (⟨none,0,0⟩:Slc)).q,(fR.getD t40 []).length,(fZ.getD t40 (⟨none,0,0⟩:Slc)).k⟩,false⟩]:List Rwq)) (sAlt++([⟨(fR.getD t40 []),false⟩]:List (Rwc Cel))):=C8.append hrowssAltrs hrows43
   refine it rfl (B3a (r:=sAltr) (rs:=sAltrs) (xss:=sAlt) (pre:=[bx b16 (A6 y1.1 ⟨q18,y1.2.1.length,k20⟩ ⟨va sAltr.q,sAlt.length,sAltr.k⟩ ⟨none,0,0⟩ ⟨q32,y1.2.2.2.1.length,k33⟩) 52,bx b2 (A6 ScrC.zero ⟨none,0,0⟩ ⟨none,0,0⟩ ⟨none,0,0⟩ ⟨none,0,0⟩) 52,bx b1 (A0 f ⟨fQ,fR.length,fK⟩) 26]) (post:=[]) C5i rfl rfl rfl rfl rfl rfl rfl rfl rfl (B5 1 rfl) (B5 17 rfl) (B5 0 rfl) hrowssAltrs hrows43 hoksAltr (by first|omega|(simp only [List.length_cons,List.length_nil,List.length_append,List.length_take,List.length_drop,B1,A8,A9];omega)) (by first|omega|(simp only [List.length_cons,List.length_nil,List.length_append,List.length_take,List.length_drop,B1,A8,A9];omega))) fun ⟨r44,hr45⟩=>?_
   have:=VOk.le hr45
   have:=VOk.cap hr45
   have:([⟨(fR.getD t40 []),false⟩]:List (Rwc Cel)).length=1:=rfl
   have:(sAlt++([⟨(fR.getD t40 []),false⟩]:List (Rwc Cel))).length=sAlt.length+1:=List.length_append
   refine zrg 2 0 [0] [] (bx b16 (A6 y1.1 ⟨q18,y1.2.1.length,k20⟩ ⟨va r44.q,(sAlt++([⟨(fR.getD t40 []),false⟩]:List (Rwc Cel))).length,r44.k⟩ ⟨none,0,0⟩ ⟨q32,y1.2.2.2.1.length,k33⟩) 52::bx b2 (A6 ScrC.zero ⟨none,0,0⟩ ⟨none,0,0⟩ ⟨none,0,0⟩ ⟨none,0,0⟩) 52::bx b1 (A0 f ⟨fQ,fR.length,fK⟩) 26::(vo B7 78 r44 (sAltrs++([⟨⟨(fZ.getD t40 (⟨none,0,0⟩:Slc)).q,(fR.getD t40 []).length,(fZ.getD t40 (⟨none,0,0⟩:Slc)).k⟩,false⟩]:List Rwq)))++([])) ?_
   refine A2 (nx (A3 2 rfl (ix rfl (B3 rfl rfl rfl rfl (by omega)) ?_)))
   refine ip' 1 0 [(40,iv ((t40:Int)+1))] ?_
   refine A2 ?_
   exact A9x (z1:=t40) (z2:=sAlt) (z3:=sAltr) (z4:=sAltrs) (t40+1) (sAlt++([⟨(fR.getD t40 []),false⟩]:List (Rwc Cel))) r44 (sAltrs++([⟨⟨(fZ.getD t40 (⟨none,0,0⟩:Slc)).q,(fR.getD t40 []).length,(fZ.getD t40 (⟨none,0,0⟩:Slc)).k⟩,false⟩]:List Rwq)) ⟨(by omega),hR,hr45,hw46,(by (simp only [List.length_append,List.length_cons,List.length_nil];omega))⟩ (by (try dsimp only);omega) (mc [[bx b16 (A6 y1.1 ⟨q18,y1.2.1.length,k20⟩ ⟨va r44.q,(sAlt++([⟨(fR.getD t40 []),false⟩]:List (Rwc Cel))).length,r44.k⟩ ⟨none,0,0⟩ ⟨q32,y1.2.2.2.1.length,k33⟩) 52],[bx b2 (A6 ScrC.zero ⟨none,0,0⟩ ⟨none,0,0⟩ ⟨none,0,0⟩ ⟨none,0,0⟩) 52],[bx b1 (A0 f ⟨fQ,fR.length,fK⟩) 26],vo B7 78 r44 (sAltrs++([⟨⟨(fZ.getD t40 (⟨none,0,0⟩:Slc)).q,(fR.getD t40 []).length,(fZ.getD t40 (⟨none,0,0⟩:Slc)).k⟩,false⟩]:List Rwq))] [true,true,true,true] rfl (by first|rfl|(simp only [List.length_set]<;>rfl))) (A4.pick [4,5,6,7,8,9,10,11,12,13,14,15,16,17,0] rfl)
  have h39p:¬ ((t40:Int)<(fR.length:Int)):=by simpa using h39
  rw [U7 h39p] at hR;replace hR:=(N9.eq_1 ..).symm.trans hR
  refine F7 (nx (sr 9 rfl (zrg 9 0 [2,2,0] [] (bx b16 (A6 ({y1.1 with cursor:={Cur.zero with row:=f.cursor.row,col:=f.cursor.col}}) ⟨q18,y1.2.1.length,k20⟩ ⟨va sAltr.q,sAlt.length,sAltr.k⟩ ⟨none,0,0⟩ ⟨q32,y1.2.2.2.1.length,k33⟩) 52::bx b2 (A6 ScrC.zero ⟨none,0,0⟩ ⟨none,0,0⟩ ⟨none,0,0⟩ ⟨none,0,0⟩) 52::bx b1 (A0 f ⟨fQ,fR.length,fK⟩) 26::(vo B7 78 sAltr sAltrs)++([])) ?_)))
  refine ie ?_
  refine sh 13 [(8,[bx b16 (A6 ({y1.1 with cursor:={Cur.zero with row:=f.cursor.row,col:=f.cursor.col}}) ⟨q18,y1.2.1.length,k20⟩ ⟨va sAltr.q,sAlt.length,sAltr.k⟩ ⟨none,0,0⟩ ⟨q32,y1.2.2.2.1.length,k33⟩) 52]),(13,[bx b2 (A6 ScrC.zero ⟨none,0,0⟩ ⟨none,0,0⟩ ⟨none,0,0⟩ ⟨none,0,0⟩) 52]),(13,[bx b1 (A0 f ⟨fQ,fR.length,fK⟩) 26]),(13,vo B7 78 sAltr sAltrs)] [sl B7 q18 rs19,C3 B4 rs19 y1.2.1,sl B7 q25 rs26,C3 B4 rs26 y1.2.2.1,sl D3 q32 y1.2.2.2.1,sl D3 (va r14.q) y2.2.2.2.1,sl B7 (va r9.q) rs10,sl B7 (va r4.q) rs5,C3 B4 rs5 y2.2.1,C3 B4 rs10 y2.2.2.1,sl C7 fQ fZ,H0 B4 fZ fR,A3z,A3w,C3 B4 sAltrs sAlt] (bx b16 (A6 ({y1.1 with cursor:={Cur.zero with row:=f.cursor.row,col:=f.cursor.col}}) ⟨q18,y1.2.1.length,k20⟩ ⟨va sAltr.q,sAlt.length,sAltr.k⟩ ⟨none,0,0⟩ ⟨q32,y1.2.2.2.1.length,k33⟩) 52::bx b2 (A6 ScrC.zero ⟨none,0,0⟩ ⟨none,0,0⟩ ⟨none,0,0⟩ ⟨none,0,0⟩) 52::bx b1 (A0 f ⟨fQ,fR.length,fK⟩) 26::(vo B7 78 sAltr sAltrs)++([])) (zml 13 0) (by kernel_rfl) rfl (by kernel_rfl) (by kernel_rfl) (by kernel_rfl) (mc [[bx b16 (A6 ({y1.1 with cursor:={Cur.zero with row:=f.cursor.row,col:=f.cursor.col}}) ⟨q18,y1.2.1.length,k20⟩ ⟨va sAltr.q,sAlt.length,sAltr.k⟩ ⟨none,0,0⟩ ⟨q32,y1.2.2.2.1.length,k33⟩) 52],[bx b2 (A6 ScrC.zero ⟨none,0,0⟩ ⟨none,0,0⟩ ⟨none,0,0⟩ ⟨none,0,0⟩) 52],[bx b1 (A0 f ⟨fQ,fR.length,fK⟩) 26],vo B7 78 sAltr sAltrs] [true,true,true,true] rfl (by first|rfl|(simp only [List.length_set]<;>rfl))) A4.refl ?_
  refine zhp [0,2,4] 10 (zml 13 21) [(60,pt b1 4),(62,pt b1 5),(64,pt b1 6)] ?_
  refine zhl 1 (bx b16 (A6 ({y1.1 with cursor:={Cur.zero with row:=f.cursor.row,col:=f.cursor.col}}) ⟨q18,y1.2.1.length,k20⟩ ⟨va sAltr.q,sAlt.length,sAltr.k⟩ ⟨none,0,0⟩ ⟨q32,y1.2.2.2.1.length,k33⟩) 52::bx b2 (A6 ScrC.zero ⟨none,0,0⟩ ⟨none,0,0⟩ ⟨none,0,0⟩ ⟨none,0,0⟩) 52::bx b1 (A0 f ⟨fQ,fR.length,fK⟩) 26::(vo B7 78 sAltr sAltrs)++([])) (zml 13 23) rfl (D6 (v:=bv f.visible) ty4 rfl rfl 2 rfl rfl) ?_
  refine zhp [6,7] 7 (zml 13 215) [(67,pt b16 29)] ?_
  refine zhl 3 (bx b2 (A6 ScrC.zero ⟨none,0,0⟩ ⟨none,0,0⟩ ⟨none,0,0⟩ ⟨none,0,0⟩) 52::bx b1 (A0 f ⟨fQ,fR.length,fK⟩) 26::(vo B7 78 sAltr sAltrs)++([])) (zml 13 223) rfl (D6 (v:=iv f.shape) ty3 rfl rfl 1 rfl rfl) ?_
  refine zhl 5 (bx b2 (A6 ScrC.zero ⟨none,0,0⟩ ⟨none,0,0⟩ ⟨none,0,0⟩ ⟨none,0,0⟩) 52::bx b1 (A0 f ⟨fQ,fR.length,fK⟩) 26::(vo B7 78 sAltr sAltrs)++([])) (zml 13 255) rfl (D6 (v:=sv f.title) ty9 rfl rfl 1 rfl rfl) ?_
  refine zho 8 (bx b2 (A6 ScrC.zero ⟨none,0,0⟩ ⟨none,0,0⟩ ⟨none,0,0⟩ ⟨none,0,0⟩) 52::bx b1 (A0 f ⟨fQ,fR.length,fK⟩) 26::(vo B7 78 sAltr sAltrs)++([])) (zml 13 511) rfl (L5 (us:=[bv f.visible]) (cs':=A6 ({y1.1 with cursor:={Cur.zero with row:=f.cursor.row,col:=f.cursor.col},modes:={y1.1.modes with visible:=f.visible}}) ⟨q18,y1.2.1.length,k20⟩ ⟨va sAltr.q,sAlt.length,sAltr.k⟩ ⟨none,0,0⟩ ⟨q32,y1.2.2.2.1.length,k33⟩) ty4 rfl rfl rfl 0 rfl rfl rfl rfl rfl rfl) (fun _=>(mc [[bx b16 (A6 ({y1.1 with cursor:={Cur.zero with row:=f.cursor.row,col:=f.cursor.col},modes:={y1.1.modes with visible:=f.visible}}) ⟨q18,y1.2.1.length,k20⟩ ⟨va sAltr.q,sAlt.length,sAltr.k⟩ ⟨none,0,0⟩ ⟨q32,y1.2.2.2.1.length,k33⟩) 52],[bx b2 (A6 ScrC.zero ⟨none,0,0⟩ ⟨none,0,0⟩ ⟨none,0,0⟩ ⟨none,0,0⟩) 52],[bx b1 (A0 f ⟨fQ,fR.length,fK⟩) 26],vo B7 78 sAltr sAltrs] [false,true,true,true] rfl (by first|rfl|(simp only [List.length_set]<;>rfl)))) (fun _=>A4.refl) fun _=>?_
  refine zhp [9] 3 (zml 13 1023) [(68,pt b16 77)] ?_
  refine zho 10 (bx b2 (A6 ScrC.zero ⟨none,0,0⟩ ⟨none,0,0⟩ ⟨none,0,0⟩ ⟨none,0,0⟩) 52::bx b1 (A0 f ⟨fQ,fR.length,fK⟩) 26::(vo B7 78 sAltr sAltrs)++([])) (zml 13 2047) rfl (L5 (us:=[iv f.shape]) (cs':=A6 ({y1.1 with cursor:={Cur.zero with row:=f.cursor.row,col:=f.cursor.col},modes:={y1.1.modes with visible:=f.visible},shape:=f.shape}) ⟨q18,y1.2.1.length,k20⟩ ⟨va sAltr.q,sAlt.length,sAltr.k⟩ ⟨none,0,0⟩ ⟨q32,y1.2.2.2.1.length,k33⟩) ty3 rfl rfl rfl 0 rfl rfl rfl rfl rfl rfl) (fun _=>(mc [[bx b16 (A6 ({y1.1 with cursor:={Cur.zero with row:=f.cursor.row,col:=f.cursor.col},modes:={y1.1.modes with visible:=f.visible},shape:=f.shape}) ⟨q18,y1.2.1.length,k20⟩ ⟨va sAltr.q,sAlt.length,sAltr.k⟩ ⟨none,0,0⟩ ⟨q32,y1.2.2.2.1.length,k33⟩) 52],[bx b2 (A6 ScrC.zero ⟨none,0,0⟩ ⟨none,0,0⟩ ⟨none,0,0⟩ ⟨none,0,0⟩) 52],[bx b1 (A0 f ⟨fQ,fR.length,fK⟩) 26],vo B7 78 sAltr sAltrs] [false,true,true,true] rfl (by first|rfl|(simp only [List.length_set]<;>rfl)))) (fun _=>A4.refl) fun _=>?_
  refine zhp [11] 1 (zml 13 4095) [(69,pt b16 78)] ?_
  refine zho 12 (bx b2 (A6 ScrC.zero ⟨none,0,0⟩ ⟨none,0,0⟩ ⟨none,0,0⟩ ⟨none,0,0⟩) 52::bx b1 (A0 f ⟨fQ,fR.length,fK⟩) 26::(vo B7 78 sAltr sAltrs)++([])) (zml 13 8191) rfl (L5 (us:=[sv f.title]) (cs':=A6 ({y1.1 with cursor:={Cur.zero with row:=f.cursor.row,col:=f.cursor.col},modes:={y1.1.modes with visible:=f.visible},shape:=f.shape,title:=f.title}) ⟨q18,y1.2.1.length,k20⟩ ⟨va sAltr.q,sAlt.length,sAltr.k⟩ ⟨none,0,0⟩ ⟨q32,y1.2.2.2.1.length,k33⟩) ty9 rfl rfl rfl 0 rfl rfl rfl rfl rfl rfl) (fun _=>(mc [[bx b16 (A6 ({y1.1 with cursor:={Cur.zero with row:=f.cursor.row,col:=f.cursor.col},modes:={y1.1.modes with visible:=f.visible},shape:=f.shape,title:=f.title}) ⟨q18,y1.2.1.length,k20⟩ ⟨va sAltr.q,sAlt.length,sAltr.k⟩ ⟨none,0,0⟩ ⟨q32,y1.2.2.2.1.length,k33⟩) 52],[bx b2 (A6 ScrC.zero ⟨none,0,0⟩ ⟨none,0,0⟩ ⟨none,0,0⟩ ⟨none,0,0⟩) 52],[bx b1 (A0 f ⟨fQ,fR.length,fK⟩) 26],vo B7 78 sAltr sAltrs] [false,true,true,true] rfl (by first|rfl|(simp only [List.length_set]<;>rfl)))) (fun _=>A4.refl) fun _=>?_
  refine A9z (by kernel_rfl) ?_
  refine sr 3 rfl (zrg 3 0 [0,1] [(3,iv 0)] (bx b16 (A6 ({y1.1 with cursor:={Cur.zero with row:=f.cursor.row,col:=f.cursor.col},modes:={y1.1.modes with visible:=f.visible},shape:=f.shape,title:=f.title}) ⟨q18,y1.2.1.length,k20⟩ ⟨va sAltr.q,sAlt.length,sAltr.k⟩ ⟨none,0,0⟩ ⟨q32,y1.2.2.2.1.length,k33⟩) 52::bx b2 (A6 ({y1.1 with cursor:={Cur.zero with row:=f.cursor.row,col:=f.cursor.col},modes:={y1.1.modes with visible:=f.visible},shape:=f.shape,title:=f.title}) ⟨q18,y1.2.1.length,k20⟩ ⟨va sAltr.q,sAlt.length,sAltr.k⟩ ⟨none,0,0⟩ ⟨q32,y1.2.2.2.1.length,k33⟩) 52::bx b1 (A0 f ⟨fQ,fR.length,fK⟩) 26::(vo B7 78 sAltr sAltrs)++([])) ?_)
  subst hR
  refine ie (A7 ?_)
  exact zer hr hD (U5 rfl (Q5 (us:=A6 ({y1.1 with cursor:={Cur.zero with row:=f.cursor.row,col:=f.cursor.col},modes:={y1.1.modes with visible:=f.visible},shape:=f.shape,title:=f.title}) ⟨q18,y1.2.1.length,k20⟩ ⟨va sAltr.q,sAlt.length,sAltr.k⟩ ⟨none,0,0⟩ ⟨q32,y1.2.2.2.1.length,k33⟩) A7u rfl 1 rfl rfl) (B2 rfl)) (⟨(q18,rs19,k20),⟨hr21,(by first|omega|(simp only [List.length_take,List.length_drop,List.length_append,List.length_cons,List.length_nil,List.length_set,List.length_map,B1,A8,A9];omega)|decide),(by first|omega|(simp only [List.length_take,List.length_drop,List.length_append,List.length_cons,List.length_nil,List.length_set,List.length_map,B1,A8,A9];omega)|decide)⟩⟩,⟨(sAltr,sAltrs),⟨hoksAltr,hrowssAltrs⟩⟩,(zq q32 k33)) (mc [[bx b16 (A6 ({y1.1 with cursor:={Cur.zero with row:=f.cursor.row,col:=f.cursor.col},modes:={y1.1.modes with visible:=f.visible},shape:=f.shape,title:=f.title}) ⟨q18,y1.2.1.length,k20⟩ ⟨va sAltr.q,sAlt.length,sAltr.k⟩ ⟨none,0,0⟩ ⟨q32,y1.2.2.2.1.length,k33⟩) 52],[bx b2 (A6 ({y1.1 with cursor:={Cur.zero with row:=f.cursor.row,col:=f.cursor.col},modes:={y1.1.modes with visible:=f.visible},shape:=f.shape,title:=f.title}) ⟨q18,y1.2.1.length,k20⟩ ⟨va sAltr.q,sAlt.length,sAltr.k⟩ ⟨none,0,0⟩ ⟨q32,y1.2.2.2.1.length,k33⟩) 52],[bx b1 (A0 f ⟨fQ,fR.length,fK⟩) 26],vo B7 78 sAltr sAltrs] [false,false,false,true] rfl (by first|rfl|(simp only [List.length_set]<;>rfl))) (A4.con1 (B5 0 rfl) (A4.con1 (B5 1 rfl) (A4.con1 (B5 14 rfl) (A4.con1 (B5 4 rfl) fn0))))
 refine A5 (nx (A1 (sr 2 rfl (ip' 2 0 [(33,bv (!decide (y2.2.2.2.2=0)))] ?_))))
 refine ie (S5 rfl (fun h47=>?_) (fun h47=>?_))
 ·have h47p:¬ y2.2.2.2.2=0:=by simpa using h47
  refine sr 4 rfl (zrg 4 0 [1] [(3,iv y2.2.2.2.2)] (bx b16 (A6 y2.1 ⟨va r4.q,y2.2.1.length,r4.k⟩ ⟨va r9.q,y2.2.2.1.length,r9.k⟩ ⟨none,0,0⟩ ⟨va r14.q,y2.2.2.2.1.length,r14.k⟩) 52::bx b2 (A6 ScrC.zero ⟨none,0,0⟩ ⟨none,0,0⟩ ⟨none,0,0⟩ ⟨none,0,0⟩) 52::bx b1 (A0 f ⟨fQ,fR.length,fK⟩) 26::(vo B7 78 r4 rs5)++((vo B7 78 r9 rs10)++((vo D3 4 r14 y2.2.2.2.1)++([])))) ?_)
  subst hR
  refine ie (A7 ?_)
  exact zer hr hD (U5 rfl (Q5 (us:=A6 ScrC.zero ⟨none,0,0⟩ ⟨none,0,0⟩ ⟨none,0,0⟩ ⟨none,0,0⟩) A7u rfl 1 rfl rfl) (B2 rfl)) (⟨(none,[],0),⟨C8.none,(by first|omega|(simp only [List.length_take,List.length_drop,List.length_append,List.length_cons,List.length_nil,List.length_set,List.length_map,B1,A8,A9];omega)|decide),(by first|omega|(simp only [List.length_take,List.length_drop,List.length_append,List.length_cons,List.length_nil,List.length_set,List.length_map,B1,A8,A9];omega)|decide)⟩⟩,⟨(VR.nil,([]:List Rwq)),⟨VOk.nil,C8.none⟩⟩,(zq none 0)) (mc [[bx b16 (A6 y2.1 ⟨va r4.q,y2.2.1.length,r4.k⟩ ⟨va r9.q,y2.2.2.1.length,r9.k⟩ ⟨none,0,0⟩ ⟨va r14.q,y2.2.2.2.1.length,r14.k⟩) 52],[bx b2 (A6 ScrC.zero ⟨none,0,0⟩ ⟨none,0,0⟩ ⟨none,0,0⟩ ⟨none,0,0⟩) 52],[bx b1 (A0 f ⟨fQ,fR.length,fK⟩) 26],vo B7 78 r4 rs5,vo B7 78 r9 rs10,vo D3 4 r14 y2.2.2.2.1,vo B7 78 VR.nil ([]:List Rwq)] [false,false,false,false,false,false,true] rfl (by first|rfl|(simp only [List.length_set]<;>rfl))) (A4.con1 O8 (A4.con1 Y3 (A4.con1 Y3 (A4.con1 O8 fn0))))
 have h47p:¬ (¬ y2.2.2.2.2=0):=by simpa using h47
 exfalso;omega
end Go.Proofs.YthcjfkljekdioaaGreatDoor
