import Derived.Test.YthcjfkljekdioaaGreatDoorProg
import Derived.Test.YthcjfkljekdioaaGreatDoorMA2
import Derived.Test.YthcjfkljekdioaaGreatDoorMB1
import Derived.Test.YthcjfkljekdioaaGreatDoorMB2
set_option linter.unusedVariables false
set_option linter.unusedSimpArgs false
set_option linter.unnecessarySimpa false
set_option maxRecDepth 100000
namespace Go.Proofs.YthcjfkljekdioaaGreatDoor
open Go Go.Fen
theorem D2f:EqT Tryz.prog 50 A1t:=EqT.of 20 rfl (by kernel_rfl) (by kernel_rfl) (fun _ _=>by kernel_rfl) A1t.inj
theorem C6h:Ty Tryz.prog 150 5 true:=⟨by kernel_rfl⟩
def W1 (s:ScrC) (sMain:List (Rwc Cel)) (sAlt:List (Rwc Cel)) (sPast:List (Rwc Cel)) (sTabs:List Bool):Int×Int×Int×Int×Bool :=
 (s.rows,s.cols,s.top,s.bottom,s.modes.origin)
theorem A9s (s:ScrC) (sMain:List (Rwc Cel)) (sAlt:List (Rwc Cel)) (sPast:List (Rwc Cel)) (sTabs:List Bool) (sb:Nat) (sMainq:Option Addr) (sMainrs:List Rwq) (sMaink:Nat) (sAltq:Option Addr) (sAltrs:List Rwq) (sAltk:Nat) (sPastq:Option Addr) (sPastrs:List Rwq) (sPastk:Nat) (sTabsq:Option Addr) (sTabsk:Nat) (hrowssMainrs:D0 sMainrs sMain) (hlsMain:sMain.length≤9223372036854775807) (hcsMain:sMain.length≤sMaink) (hrowssAltrs:D0 sAltrs sAlt) (hlsAlt:sAlt.length≤9223372036854775807) (hcsAlt:sAlt.length≤sAltk) (hrowssPastrs:D0 sPastrs sPast) (hlsPast:sPast.length≤9223372036854775807) (hcsPast:sPast.length≤sPastk) (hlsTabs:sTabs.length≤9223372036854775807) (hcsTabs:sTabs.length≤sTabsk) (R:Int×Int×Int×Int×Bool) (hR:W1 s sMain sAlt sPast sTabs=R):Con Tryz.prog 102 [pt sb 0] [bx sb (A6 s ⟨sMainq,sMain.length,sMaink⟩ ⟨sAltq,sAlt.length,sAltk⟩ ⟨sPastq,sPast.length,sPastk⟩ ⟨sTabsq,sTabs.length,sTabsk⟩) 114] [sl B7 sMainq sMainrs,B8 B2 sMainrs sMain,sl B7 sAltq sAltrs,B8 B2 sAltrs sAlt,sl B7 sPastq sPastrs,B8 B2 sPastrs sPast,sl F4 sTabsq sTabs] (Unit) (fun x=>ag [iv R.1,iv R.2.1,iv R.2.2.1,iv R.2.2.2.1,bv R.2.2.2.2]) (fun x=>[bx sb (A6 s ⟨sMainq,sMain.length,sMaink⟩ ⟨sAltq,sAlt.length,sAltk⟩ ⟨sPastq,sPast.length,sPastk⟩ ⟨sTabsq,sTabs.length,sTabsk⟩) 114]) (fun x=>[]):=by
 refine zco Tryz.func102 [(0,pt sb 0)] fun X hX hr hD=>?_
 replace hR:=(W1.eq_1 ..).symm.trans hR
 have:=hrowssMainrs.1
 have:=hrowssAltrs.1
 have:=hrowssPastrs.1
 refine sr 1 rfl (I7 1 0 [] (fun b1=>[(2,pt b1 0)]) (fun b1=>[bx b1 [iv 0,iv 0,iv 0,iv 0,bv false] 150,bx sb (A6 s ⟨sMainq,sMain.length,sMaink⟩ ⟨sAltq,sAlt.length,sAltk⟩ ⟨sPastq,sPast.length,sPastk⟩ ⟨sTabsq,sTabs.length,sTabsk⟩) 114]) (fun b1=>?_))
 refine ie (sh 28 [(27,[bx b1 [iv 0,iv 0,iv 0,iv 0,bv false] 150]),(28,[bx sb (A6 s ⟨sMainq,sMain.length,sMaink⟩ ⟨sAltq,sAlt.length,sAltk⟩ ⟨sPastq,sPast.length,sPastk⟩ ⟨sTabsq,sTabs.length,sTabsk⟩) 114])] [sl B7 sMainq sMainrs,B8 B2 sMainrs sMain,sl B7 sAltq sAltrs,B8 B2 sAltrs sAlt,sl B7 sPastq sPastrs,B8 B2 sPastrs sPast,sl F4 sTabsq sTabs] [bx b1 [iv 0,iv 0,iv 0,iv 0,bv false] 150,bx sb (A6 s ⟨sMainq,sMain.length,sMaink⟩ ⟨sAltq,sAlt.length,sAltk⟩ ⟨sPastq,sPast.length,sPastk⟩ ⟨sTabsq,sTabs.length,sTabsk⟩) 114] (zml 28 0) (by kernel_rfl) rfl (by kernel_rfl) (by kernel_rfl) (by kernel_rfl) (mk [true,true] rfl) A2.refl ?_)
 refine zhp [0,1,2,3,5,6,7,8,10,11,12,13,15,16,17,18,20,21,22,23,24] 7 (zml 28 33013231) [(6,pt sb 1),(11,pt sb 0),(16,pt sb 36),(21,pt sb 37),(27,pt sb 27)] ?_
 refine zhl 4 [bx b1 [iv 0,iv 0,iv 0,iv 0,bv false] 150,bx sb (A6 s ⟨sMainq,sMain.length,sMaink⟩ ⟨sAltq,sAlt.length,sAltk⟩ ⟨sPastq,sPast.length,sPastk⟩ ⟨sTabsq,sTabs.length,sTabsk⟩) 114] (zml 28 33013247) rfl (D4 (v:=iv s.rows) ty3 rfl rfl 1 rfl rfl) ?_
 refine zhl 9 [bx b1 [iv 0,iv 0,iv 0,iv 0,bv false] 150,bx sb (A6 s ⟨sMainq,sMain.length,sMaink⟩ ⟨sAltq,sAlt.length,sAltk⟩ ⟨sPastq,sPast.length,sPastk⟩ ⟨sTabsq,sTabs.length,sTabsk⟩) 114] (zml 28 33013759) rfl (D4 (v:=iv s.cols) ty3 rfl rfl 1 rfl rfl) ?_
 refine zhl 14 [bx b1 [iv 0,iv 0,iv 0,iv 0,bv false] 150,bx sb (A6 s ⟨sMainq,sMain.length,sMaink⟩ ⟨sAltq,sAlt.length,sAltk⟩ ⟨sPastq,sPast.length,sPastk⟩ ⟨sTabsq,sTabs.length,sTabsk⟩) 114] (zml 28 33030143) rfl (D4 (v:=iv s.top) ty3 rfl rfl 1 rfl rfl) ?_
 refine zhl 19 [bx b1 [iv 0,iv 0,iv 0,iv 0,bv false] 150,bx sb (A6 s ⟨sMainq,sMain.length,sMaink⟩ ⟨sAltq,sAlt.length,sAltk⟩ ⟨sPastq,sPast.length,sPastk⟩ ⟨sTabsq,sTabs.length,sTabsk⟩) 114] (zml 28 33554431) rfl (D4 (v:=iv s.bottom) ty3 rfl rfl 1 rfl rfl) ?_
 refine zhl 25 [bx b1 [iv 0,iv 0,iv 0,iv 0,bv false] 150,bx sb (A6 s ⟨sMainq,sMain.length,sMaink⟩ ⟨sAltq,sAlt.length,sAltk⟩ ⟨sPastq,sPast.length,sPastk⟩ ⟨sTabsq,sTabs.length,sTabsk⟩) 114] (zml 28 67108863) rfl (D4 (v:=bv s.modes.origin) ty4 rfl rfl 1 rfl rfl) ?_
 refine zhk 26 (zml 28 134217727) rfl (A7n (cs:=[iv s.rows,iv s.cols,iv s.top,iv s.bottom,bv s.modes.origin]) rfl rfl (by kernel_rfl)) ?_
 refine zho 27 [bx sb (A6 s ⟨sMainq,sMain.length,sMaink⟩ ⟨sAltq,sAlt.length,sAltk⟩ ⟨sPastq,sPast.length,sPastk⟩ ⟨sTabsq,sTabs.length,sTabsk⟩) 114] (zml 28 268435455) rfl (N3 (us:=[iv s.rows,iv s.cols,iv s.top,iv s.bottom,bv s.modes.origin]) (cs':=[iv s.rows,iv s.cols,iv s.top,iv s.bottom,bv s.modes.origin]) C6h rfl rfl rfl 0 rfl rfl rfl rfl rfl rfl) (fun _=>(mk [false,true] rfl)) (fun _=>A2.refl) fun _=>?_
 refine B0r (by kernel_rfl) ?_
 subst hR
 refine A7 ?_
 exact zer hr hD (P3 rfl (I1 (us:=[iv s.rows,iv s.cols,iv s.top,iv s.bottom,bv s.modes.origin]) C6h rfl 0 rfl rfl rfl)) () (mk [false,true] rfl) fn0
def J8 (fR:Int) (fC:Int) (fTop:Int) (fBottom:Int) (fOrigin:Bool):Int :=
 (bif (((!((((decide ((1:Int)≤fR))&&(decide (fR≤40)))&&(decide ((2:Int)≤fC)))&&(decide (fC≤80))))||(!(((decide ((0:Int)≤fTop))&&(decide (fBottom<fR)))&&((decide (fTop<fBottom))||((decide (fTop=0))&&(decide (fR=1)))))))||(decide (fBottom<fTop))) then 270 else 0)
theorem A9x (fR:Int) (fC:Int) (fTop:Int) (fBottom:Int) (fOrigin:Bool) (R:Int) (hR:J8 fR fC fTop fBottom fOrigin=R):I6 Tryz.prog 166 [ag [iv fR,iv fC,iv fTop,iv fBottom,bv fOrigin]] [] (iv R):=by
 refine zco Tryz.func166 [(0,ag [iv fR,iv fC,iv fTop,iv fBottom,bv fOrigin])] fun X hX hr hD=>?_
 replace hR:=(J8.eq_1 ..).symm.trans hR
 refine sr 2 rfl (I7 2 0 [] (fun b1=>[(1,pt b1 0)]) (fun b1=>[bx b1 [iv fR,iv fC,iv fTop,iv fBottom,bv fOrigin] 150]) (fun b1=>?_))
 refine ie (sr 19 rfl (zrl 4 15 [0] [(8,bv (decide ((1:Int)≤fR)))] ?_))
 refine zid 4 11 8 12 (decide (fR≤40)) (fun g2 g2p=>?_) ?_
 ·refine zrl 4 0 [0] [(12,bv (decide (fR≤40)))] ?_
  exact A1 (H1 2 8 12 g2 fn0 (mk [true] rfl) rfl rfl rfl rfl rfl)
 refine ip' 1 10 [(13,bv ((decide ((1:Int)≤fR))&&(decide (fR≤40))))] ?_
 refine zia 4 6 13 17 (decide ((2:Int)≤fC)) (fun g3=>?_) ?_
 ·have g3p:((1:Int)≤fR)∧(fR≤40):=by simpa using g3
  refine zrl 4 0 [0] [(17,bv (decide ((2:Int)≤fC)))] ?_
  exact A1 (H1 2 13 17 g3 fn0 (mk [true] rfl) rfl rfl rfl rfl rfl)
 refine ip' 1 5 [(18,bv (((decide ((1:Int)≤fR))&&(decide (fR≤40)))&&(decide ((2:Int)≤fC))))] ?_
 refine zia 4 1 18 22 (decide (fC≤80)) (fun g4=>?_) ?_
 ·have g4p:(((1:Int)≤fR)∧(fR≤40))∧((2:Int)≤fC):=by simpa using g4
  refine zrl 4 0 [0] [(22,bv (decide (fC≤80)))] ?_
  exact A1 (H1 2 18 22 g4 fn0 (mk [true] rfl) rfl rfl rfl rfl rfl)
 refine ip' 1 0 [(3,bv ((((decide ((1:Int)≤fR))&&(decide (fR≤40)))&&(decide ((2:Int)≤fC)))&&(decide (fC≤80))))] ?_
 refine ie (sr 28 rfl (zrl 4 24 [0] [(26,bv (decide ((0:Int)≤fTop)))] ?_))
 refine zid 6 18 26 32 (decide (fBottom<fR)) (fun g5 g5p=>?_) ?_
 ·refine zrl 6 0 [0,0] [(32,bv (decide (fBottom<fR)))] ?_
  exact A1 (H1 2 26 32 g5 fn0 (mk [true] rfl) rfl rfl rfl rfl rfl)
 refine ip' 1 17 [(33,bv ((decide ((0:Int)≤fTop))&&(decide (fBottom<fR))))] ?_
 refine zia 16 1 33 49 ((decide (fTop<fBottom))||((decide (fTop=0))&&(decide (fR=1)))) (fun g6=>?_) ?_
 ·have g6p:((0:Int)≤fTop)∧(fBottom<fR):=by simpa using g6
  refine zrl 6 10 [0,0] [(39,bv (decide (fTop<fBottom)))] ?_
  refine zir 9 1 39 48 ((decide (fTop=0))&&(decide (fR=1))) (fun g7 g7p=>?_) ?_
  ·refine zrl 4 5 [0] [(43,bv (decide (fTop=0)))] ?_
   refine zid 4 1 43 47 (decide (fR=1)) (fun g8 g8p=>?_) ?_
   ·refine zrl 4 0 [0] [(47,bv (decide (fR=1)))] ?_
    exact A1 (H1 2 43 47 g8 fn0 (mk [true] rfl) rfl rfl rfl rfl rfl)
   refine ip' 1 0 [(48,bv ((decide (fTop=0))&&(decide (fR=1))))] ?_
   exact A1 (H1 4 39 48 g7 fn0 (mk [true] rfl) rfl rfl rfl rfl rfl)
  refine ip' 1 0 [(49,bv ((decide (fTop<fBottom))||((decide (fTop=0))&&(decide (fR=1)))))] ?_
  exact A1 (H1 4 33 49 g6 fn0 (mk [true] rfl) rfl rfl rfl rfl rfl)
 refine ip' 1 0 [(4,bv (((decide ((0:Int)≤fTop))&&(decide (fBottom<fR)))&&((decide (fTop<fBottom))||((decide (fTop=0))&&(decide (fR=1))))))] ?_
 refine ie (A3 (sr 13 rfl (ip' 3 10 [(52,bv (!((((decide ((1:Int)≤fR))&&(decide (fR≤40)))&&(decide ((2:Int)≤fC)))&&(decide (fC≤80)))))] ?_)))
 refine zio 3 7 52 55 (!(((decide ((0:Int)≤fTop))&&(decide (fBottom<fR)))&&((decide (fTop<fBottom))||((decide (fTop=0))&&(decide (fR=1)))))) (fun g9=>?_) ?_
 ·have g9p:¬ (¬ (((((1:Int)≤fR)∧(fR≤40))∧((2:Int)≤fC))∧(fC≤80))):=by first|simpa using g9|(simp at g9 ⊢;omega)
  refine ip' 3 0 [(55,bv (!(((decide ((0:Int)≤fTop))&&(decide (fBottom<fR)))&&((decide (fTop<fBottom))||((decide (fTop=0))&&(decide (fR=1)))))))] ?_
  exact A1 (H1 2 52 55 g9 fn0 (mk [true] rfl) rfl rfl rfl rfl rfl)
 refine ip' 1 6 [(56,bv ((!((((decide ((1:Int)≤fR))&&(decide (fR≤40)))&&(decide ((2:Int)≤fC)))&&(decide (fC≤80))))||(!(((decide ((0:Int)≤fTop))&&(decide (fBottom<fR)))&&((decide (fTop<fBottom))||((decide (fTop=0))&&(decide (fR=1))))))))] ?_
 refine zio 6 0 56 62 (decide (fBottom<fTop)) (fun g10=>?_) ?_
 ·have g10p:¬ ((¬ (((((1:Int)≤fR)∧(fR≤40))∧((2:Int)≤fC))∧(fC≤80)))∨(¬ ((((0:Int)≤fTop)∧(fBottom<fR))∧((fTop<fBottom)∨((fTop=0)∧(fR=1)))))):=by first|simpa using g10|(simp at g10 ⊢;omega)
  refine zrl 6 0 [0,0] [(62,bv (decide (fBottom<fTop)))] ?_
  exact A1 (H1 2 56 62 g10 fn0 (mk [true] rfl) rfl rfl rfl rfl rfl)
 refine ie ?_
 refine zjb rfl hR ?_ ?_<;>clear hR<;>intro hR h11
 ·have h11p:((¬ (((((1:Int)≤fR)∧(fR≤40))∧((2:Int)≤fC))∧(fC≤80)))∨(¬ ((((0:Int)≤fTop)∧(fBottom<fR))∧((fTop<fBottom)∨((fTop=0)∧(fR=1))))))∨(fBottom<fTop):=by first|simpa using h11|(simp at h11 ⊢;omega)
  refine sr 1 rfl (ip' 1 0 [(2,iv 270)] ?_)
  subst hR
  refine ie (A7 ?_)
  exact D5 hr hD
 have h11p:¬ (((¬ (((((1:Int)≤fR)∧(fR≤40))∧((2:Int)≤fC))∧(fC≤80)))∨(¬ ((((0:Int)≤fTop)∧(fBottom<fR))∧((fTop<fBottom)∨((fTop=0)∧(fR=1))))))∨(fBottom<fTop)):=by first|simpa using h11|(simp at h11 ⊢;omega)
 refine A4 (nx (sr 1 rfl (ip' 1 0 [(2,iv 0)] ?_)))
 subst hR
 refine ie (A7 ?_)
 exact D5 hr hD
def X4 (n:Int) (from_:Int) (to_:Int):Int :=
 (if (if to_<n then to_ else n) > from_ then (if to_<n then to_ else n) else from_)
theorem A9i (n:Int) (from_:Int) (to_:Int) (R:Int) (hR:X4 n from_ to_=R):I6 Tryz.prog 250 [iv n,iv from_,iv to_] [] (iv R):=by
 refine zco Tryz.func250 [(0,iv n),(1,iv from_),(2,iv to_)] fun X hX hr hD=>?_
 replace hR:=(X4.eq_1 ..).symm.trans hR
 refine sr 1 rfl (ip' 1 0 [] ?_)
 refine ie (sr 6 rfl (ip' 6 0 [(6,iv (if (if to_<n then to_ else n) > from_ then (if to_<n then to_ else n) else from_))] ?_))
 subst hR
 refine ie (A7 ?_)
 exact D5 hr hD
def P1 (fR:Int) (fC:Int) (fTop:Int) (fBottom:Int) (fOrigin:Bool) (n:Int):Int :=
 (X4 n 0 (IntKind.i64.wrap (fR - (1:Int))))
theorem B1l (fR:Int) (fC:Int) (fTop:Int) (fBottom:Int) (fOrigin:Bool) (n:Int) (R:Int) (hR:P1 fR fC fTop fBottom fOrigin n=R):I6 Tryz.prog 167 [ag [iv fR,iv fC,iv fTop,iv fBottom,bv fOrigin],iv n] [] (iv R):=by
 refine zco Tryz.func167 [(0,ag [iv fR,iv fC,iv fTop,iv fBottom,bv fOrigin]),(1,iv n)] fun X hX hr hD=>?_
 replace hR:=(P1.eq_1 ..).symm.trans hR
 refine sr 2 rfl (I7 2 0 [] (fun b1=>[(2,pt b1 0)]) (fun b1=>[bx b1 [iv fR,iv fC,iv fTop,iv fBottom,bv fOrigin] 150]) (fun b1=>?_))
 refine ie (sr 6 rfl (zrl 3 3 [0] [(5,iv n),(7,iv fR)] ?_))
 refine ix rfl (I9.pure rfl) ?_
 refine zca (A9i n 0 (IntKind.i64.wrap (fR - (1:Int))) _ rfl) fn0 ?_
 refine ip' 1 0 [(4,iv (X4 n 0 (IntKind.i64.wrap (fR - (1:Int)))))] ?_
 subst hR
 refine ie (A7 ?_)
 exact D5 hr hD
def O8 (fR:Int) (fC:Int) (fTop:Int) (fBottom:Int) (fOrigin:Bool) (n:Int):Int :=
 (X4 n 0 (IntKind.i64.wrap (fC - (1:Int))))
theorem B1q (fR:Int) (fC:Int) (fTop:Int) (fBottom:Int) (fOrigin:Bool) (n:Int) (R:Int) (hR:O8 fR fC fTop fBottom fOrigin n=R):I6 Tryz.prog 168 [ag [iv fR,iv fC,iv fTop,iv fBottom,bv fOrigin],iv n] [] (iv R):=by
 refine zco Tryz.func168 [(0,ag [iv fR,iv fC,iv fTop,iv fBottom,bv fOrigin]),(1,iv n)] fun X hX hr hD=>?_
 replace hR:=(O8.eq_1 ..).symm.trans hR
 refine sr 2 rfl (I7 2 0 [] (fun b1=>[(2,pt b1 0)]) (fun b1=>[bx b1 [iv fR,iv fC,iv fTop,iv fBottom,bv fOrigin] 150]) (fun b1=>?_))
 refine ie (sr 6 rfl (zrl 3 3 [0] [(5,iv n),(7,iv fC)] ?_))
 refine ix rfl (I9.pure rfl) ?_
 refine zca (A9i n 0 (IntKind.i64.wrap (fC - (1:Int))) _ rfl) fn0 ?_
 refine ip' 1 0 [(4,iv (X4 n 0 (IntKind.i64.wrap (fC - (1:Int)))))] ?_
 subst hR
 refine ie (A7 ?_)
 exact D5 hr hD
def F3 (fR:Int) (fC:Int) (fTop:Int) (fBottom:Int) (fOrigin:Bool) (c:Cur):Int :=
 (bif (!decide ((J8 fR fC fTop fBottom fOrigin)=0)) then (J8 fR fC fTop fBottom fOrigin) else (bif (((!decide (c.row=(P1 fR fC fTop fBottom fOrigin c.row)))||(!decide (c.col=(O8 fR fC fTop fBottom fOrigin c.col))))||(c.wrap&&(decide (c.col<(IntKind.i64.wrap (fC - (1:Int))))))) then 271 else 0))
theorem A3q (fR:Int) (fC:Int) (fTop:Int) (fBottom:Int) (fOrigin:Bool) (c:Cur) (R:Int) (hR:F3 fR fC fTop fBottom fOrigin c=R):I6 Tryz.prog 103 [ag [iv fR,iv fC,iv fTop,iv fBottom,bv fOrigin],ag (A4w c)] [] (iv R):=by
 refine zco Tryz.func103 [(0,ag [iv fR,iv fC,iv fTop,iv fBottom,bv fOrigin]),(1,ag (A4w c))] fun X hX hr hD=>?_
 replace hR:=(F3.eq_1 ..).symm.trans hR
 refine sr 3 rfl (A8y 3 0 [] (fun b1 b2=>[(2,pt b1 0),(3,pt b2 0)]) (fun b1 b2=>[bx b2 (A4w c) 38,bx b1 [iv fR,iv fC,iv fTop,iv fBottom,bv fOrigin] 150]) (fun b1 b2=>?_))
 refine ie (A3 (sr 3 rfl (zrl 1 2 [1] [(6,ag [iv fR,iv fC,iv fTop,iv fBottom,bv fOrigin])] ?_)))
 refine zca (A9x fR fC fTop fBottom fOrigin _ rfl) fn0 ?_
 refine ip' 1 0 [(5,iv (J8 fR fC fTop fBottom fOrigin))] ?_
 refine ie (sr 2 rfl (ip' 2 0 [(9,bv (!decide ((J8 fR fC fTop fBottom fOrigin)=0)))] ?_))
 refine ie ?_
 refine zjn rfl hR ?_ ?_<;>clear hR<;>intro hR h3 h3p
 ·refine sr 2 rfl (ip' 2 0 [(4,iv (J8 fR fC fTop fBottom fOrigin))] ?_)
  subst hR
  refine ie (A7 ?_)
  exact D5 hr hD
 refine A4 (nx (A3 (sd 28 rfl (by kernel_rfl) rfl ?_)))
 refine zdg 5 23 [0,1,0] [(12,iv c.row),(13,ag [iv fR,iv fC,iv fTop,iv fBottom,bv fOrigin]),(15,iv c.row)] ?_
 refine zcd (B1l fR fC fTop fBottom fOrigin c.row _ rfl) fn0 ?_
 refine dp' 2 20 [(18,bv (!decide (c.row=(P1 fR fC fTop fBottom fOrigin c.row))))] ?_
 refine zdO 8 12 18 26 (!decide (c.col=(O8 fR fC fTop fBottom fOrigin c.col))) (fun g4=>?_) ?_
 ·have g4p:¬ (¬ c.row=(P1 fR fC fTop fBottom fOrigin c.row)):=by simpa using g4
  refine zdg 5 3 [0,1,0] [(20,iv c.col),(21,ag [iv fR,iv fC,iv fTop,iv fBottom,bv fOrigin]),(23,iv c.col)] ?_
  refine zcd (B1q fR fC fTop fBottom fOrigin c.col _ rfl) fn0 ?_
  refine dp' 2 0 [(26,bv (!decide (c.col=(O8 fR fC fTop fBottom fOrigin c.col))))] ?_
  exact zad 6 18 26 g4
 refine dp' 1 11 [(27,bv ((!decide (c.row=(P1 fR fC fTop fBottom fOrigin c.row)))||(!decide (c.col=(O8 fR fC fTop fBottom fOrigin c.col)))))] ?_
 refine zdO 11 0 27 38 (c.wrap&&(decide (c.col<(IntKind.i64.wrap (fC - (1:Int)))))) (fun g5=>?_) ?_
 ·have g5p:¬ ((¬ c.row=(P1 fR fC fTop fBottom fOrigin c.row))∨(¬ c.col=(O8 fR fC fTop fBottom fOrigin c.col))):=by simpa using g5
  refine zdg 3 8 [0] [(30,bv c.wrap)] ?_
  refine zda 7 1 30 37 (decide (c.col<(IntKind.i64.wrap (fC - (1:Int))))) (fun g6=>?_) ?_
  ·refine zdg 4 3 [0,1] [(32,iv c.col),(34,iv fC)] ?_
   refine dd rfl (I9.pure rfl) ?_
   refine dp' 2 0 [(37,bv (decide (c.col<(IntKind.i64.wrap (fC - (1:Int))))))] ?_
   exact zad 5 30 37 g6
  refine dp' 1 0 [(38,bv (c.wrap&&(decide (c.col<(IntKind.i64.wrap (fC - (1:Int)))))))] ?_
  exact zad 4 27 38 g5
 refine de ?_
 refine zjb rfl hR ?_ ?_<;>clear hR<;>intro hR h7
 ·have h7p:=h7;try simp only [Bool.and_eq_true,Bool.or_eq_true,Bool.and_eq_false_iff,Bool.or_eq_false_iff,Bool.not_eq_true',Bool.not_eq_false',decide_eq_true_eq,decide_eq_false_iff_not] at h7p
  refine sr 1 rfl (ip' 1 0 [(4,iv 271)] ?_)
  subst hR
  refine ie (A7 ?_)
  exact D5 hr hD
 have h7p:=h7;try simp only [Bool.and_eq_true,Bool.or_eq_true,Bool.and_eq_false_iff,Bool.or_eq_false_iff,Bool.not_eq_true',Bool.not_eq_false',decide_eq_true_eq,decide_eq_false_iff_not] at h7p
 refine A4 (nx (sr 1 rfl (ip' 1 0 [(4,iv 0)] ?_)))
 subst hR
 refine ie (A7 ?_)
 exact D5 hr hD
def K1 (s:Sts):Int :=
 (bif ((!decide (s.g.a=0))&&(!decide (s.g.a=1))) then 250 else (bif ((!decide (s.g.b=0))&&(!decide (s.g.b=1))) then 250 else (bif ((!decide (s.g.c=0))&&(!decide (s.g.c=1))) then 250 else (bif ((!decide (s.g.d=0))&&(!decide (s.g.d=1))) then 250 else (bif ((!decide ((bOp .andNot .i64 s.used 1)=0))||(((!decide (s.once=0))&&(!decide (s.once=2)))&&(!decide (s.once=3)))) then 250 else 0)))))
theorem A8r (s:Sts) (R:Int) (hR:K1 s=R):I6 Tryz.prog 108 [ag (A4x s)] [] (iv R):=by
 refine zco Tryz.func108 [(0,ag (A4x s))] fun X hX hr hD=>?_
 replace hR:=(K1.eq_1 ..).symm.trans hR
 refine sr 2 rfl (I7 2 0 [] (fun b1=>[(1,pt b1 0)]) (fun b1=>[bx b1 (A4x s) 45]) (fun b1=>?_))
 refine ie (A3 (sr 3 rfl (zrl 3 0 [0] [(6,ag (B8l s.g)),(7,iv 0)] ?_)))
 refine ie (B0 (R6 6 ?_))
 refine D7 (sr 1 rfl (ip' 1 0 [(8,bv true)] ?_))
 refine ie (A3 (H8 rfl (A4 (nx (A3 (B0 (sr 2 rfl (ix rfl (F0 (v:=iv s.g.a) (us:=[iv s.g.a]) Tryz.underlying43 ty3 rfl rfl rfl 0 rfl (by decide) rfl rfl rfl) ?_))))))))
 refine ip' 1 0 [(4,iv s.g.a)] ?_
 refine ie (sr 6 rfl (ip' 3 3 [(12,bv (!decide (s.g.a=0)))] ?_))
 refine zia 3 0 12 15 (!decide (s.g.a=1)) (fun g2=>?_) ?_
 ·have g2p:¬ s.g.a=0:=by simpa using g2
  refine ip' 3 0 [(15,bv (!decide (s.g.a=1)))] ?_
  exact A1 (H1 2 12 15 g2 fn0 (mk [true] rfl) rfl rfl rfl rfl rfl)
 refine ie ?_
 refine zjb rfl hR ?_ ?_<;>clear hR<;>intro hR h3
 ·have h3p:(¬ s.g.a=0)∧(¬ s.g.a=1):=by simpa using h3
  refine sr 1 rfl (ip' 1 0 [(2,iv 250)] ?_)
  subst hR
  refine ie (A7 ?_)
  exact D5 hr hD
 have h3p:¬ ((¬ s.g.a=0)∧(¬ s.g.a=1)):=by simpa using h3
 refine A4 (nx (A5 2 rfl (ix rfl (B4 (c:=1) rfl rfl rfl rfl (by decide)) ?_)))
 refine ip' 1 0 [(7,iv 1)] ?_
 refine A1 (D7 (sr 1 rfl (ip' 1 0 [(8,bv true)] ?_)))
 refine ie (A3 (H8 rfl (A4 (nx (A3 (B0 (sr 2 rfl (ix rfl (F0 (v:=iv s.g.b) (us:=[iv s.g.b]) Tryz.underlying43 ty3 rfl rfl rfl 1 rfl (by decide) rfl rfl rfl) ?_))))))))
 refine ip' 1 0 [(4,iv s.g.b)] ?_
 refine ie (sr 6 rfl (ip' 3 3 [(12,bv (!decide (s.g.b=0)))] ?_))
 refine zia 3 0 12 15 (!decide (s.g.b=1)) (fun g4=>?_) ?_
 ·have g4p:¬ s.g.b=0:=by simpa using g4
  refine ip' 3 0 [(15,bv (!decide (s.g.b=1)))] ?_
  exact A1 (H1 2 12 15 g4 fn0 (mk [true] rfl) rfl rfl rfl rfl rfl)
 refine ie ?_
 refine zjb rfl hR ?_ ?_<;>clear hR<;>intro hR h5
 ·have h5p:(¬ s.g.b=0)∧(¬ s.g.b=1):=by simpa using h5
  refine sr 1 rfl (ip' 1 0 [(2,iv 250)] ?_)
  subst hR
  refine ie (A7 ?_)
  exact D5 hr hD
 have h5p:¬ ((¬ s.g.b=0)∧(¬ s.g.b=1)):=by simpa using h5
 refine A4 (nx (A5 2 rfl (ix rfl (B4 (c:=2) rfl rfl rfl rfl (by decide)) ?_)))
 refine ip' 1 0 [(7,iv 2)] ?_
 refine A1 (D7 (sr 1 rfl (ip' 1 0 [(8,bv true)] ?_)))
 refine ie (A3 (H8 rfl (A4 (nx (A3 (B0 (sr 2 rfl (ix rfl (F0 (v:=iv s.g.c) (us:=[iv s.g.c]) Tryz.underlying43 ty3 rfl rfl rfl 2 rfl (by decide) rfl rfl rfl) ?_))))))))
 refine ip' 1 0 [(4,iv s.g.c)] ?_
 refine ie (sr 6 rfl (ip' 3 3 [(12,bv (!decide (s.g.c=0)))] ?_))
 refine zia 3 0 12 15 (!decide (s.g.c=1)) (fun g6=>?_) ?_
 ·have g6p:¬ s.g.c=0:=by simpa using g6
  refine ip' 3 0 [(15,bv (!decide (s.g.c=1)))] ?_
  exact A1 (H1 2 12 15 g6 fn0 (mk [true] rfl) rfl rfl rfl rfl rfl)
 refine ie ?_
 refine zjb rfl hR ?_ ?_<;>clear hR<;>intro hR h7
 ·have h7p:(¬ s.g.c=0)∧(¬ s.g.c=1):=by simpa using h7
  refine sr 1 rfl (ip' 1 0 [(2,iv 250)] ?_)
  subst hR
  refine ie (A7 ?_)
  exact D5 hr hD
 have h7p:¬ ((¬ s.g.c=0)∧(¬ s.g.c=1)):=by simpa using h7
 refine A4 (nx (A5 2 rfl (ix rfl (B4 (c:=3) rfl rfl rfl rfl (by decide)) ?_)))
 refine ip' 1 0 [(7,iv 3)] ?_
 refine A1 (D7 (sr 1 rfl (ip' 1 0 [(8,bv true)] ?_)))
 refine ie (A3 (H8 rfl (A4 (nx (A3 (B0 (sr 2 rfl (ix rfl (F0 (v:=iv s.g.d) (us:=[iv s.g.d]) Tryz.underlying43 ty3 rfl rfl rfl 3 rfl (by decide) rfl rfl rfl) ?_))))))))
 refine ip' 1 0 [(4,iv s.g.d)] ?_
 refine ie (sr 6 rfl (ip' 3 3 [(12,bv (!decide (s.g.d=0)))] ?_))
 refine zia 3 0 12 15 (!decide (s.g.d=1)) (fun g8=>?_) ?_
 ·have g8p:¬ s.g.d=0:=by simpa using g8
  refine ip' 3 0 [(15,bv (!decide (s.g.d=1)))] ?_
  exact A1 (H1 2 12 15 g8 fn0 (mk [true] rfl) rfl rfl rfl rfl rfl)
 refine ie ?_
 refine zjb rfl hR ?_ ?_<;>clear hR<;>intro hR h9
 ·have h9p:(¬ s.g.d=0)∧(¬ s.g.d=1):=by simpa using h9
  refine sr 1 rfl (ip' 1 0 [(2,iv 250)] ?_)
  subst hR
  refine ie (A7 ?_)
  exact D5 hr hD
 have h9p:¬ ((¬ s.g.d=0)∧(¬ s.g.d=1)):=by simpa using h9
 refine A4 (nx (A5 2 rfl (ix rfl (B4 (c:=4) rfl rfl rfl rfl (by decide)) ?_)))
 refine ip' 1 0 [(7,iv 4)] ?_
 refine A1 (D7 (sr 1 rfl (ip' 1 0 [(8,bv false)] ?_)))
 refine ie (A3 (A0m rfl (G2 (nx (A3 (sr 19 rfl (zrl 5 14 [0] [(21,bv (!decide ((bOp .andNot .i64 s.used 1)=0)))] ?_)))))))
 refine zio 14 0 21 35 (((!decide (s.once=0))&&(!decide (s.once=2)))&&(!decide (s.once=3))) (fun g10=>?_) ?_
 ·have g10p:¬ (¬ (bOp .andNot .i64 s.used 1)=0):=by simpa using g10
  refine zrl 4 10 [0] [(25,bv (!decide (s.once=0)))] ?_
  refine zia 4 6 25 29 (!decide (s.once=2)) (fun g11=>?_) ?_
  ·have g11p:¬ s.once=0:=by simpa using g11
   refine zrl 4 0 [0] [(29,bv (!decide (s.once=2)))] ?_
   exact A1 (H1 2 25 29 g11 fn0 (mk [true] rfl) rfl rfl rfl rfl rfl)
  refine ip' 1 5 [(30,bv ((!decide (s.once=0))&&(!decide (s.once=2))))] ?_
  refine zia 4 1 30 34 (!decide (s.once=3)) (fun g12=>?_) ?_
  ·have g12p:(¬ s.once=0)∧(¬ s.once=2):=by simpa using g12
   refine zrl 4 0 [0] [(34,bv (!decide (s.once=3)))] ?_
   exact A1 (H1 2 30 34 g12 fn0 (mk [true] rfl) rfl rfl rfl rfl rfl)
  refine ip' 1 0 [(35,bv (((!decide (s.once=0))&&(!decide (s.once=2)))&&(!decide (s.once=3))))] ?_
  exact A1 (H1 6 21 35 g10 fn0 (mk [true] rfl) rfl rfl rfl rfl rfl)
 refine ie ?_
 refine zjb rfl hR ?_ ?_<;>clear hR<;>intro hR h13
 ·have h13p:(¬ (bOp .andNot .i64 s.used 1)=0)∨(((¬ s.once=0)∧(¬ s.once=2))∧(¬ s.once=3)):=by first|simpa using h13|(simp at h13 ⊢;omega)
  refine sr 1 rfl (ip' 1 0 [(2,iv 250)] ?_)
  subst hR
  refine ie (A7 ?_)
  exact D5 hr hD
 have h13p:¬ ((¬ (bOp .andNot .i64 s.used 1)=0)∨(((¬ s.once=0)∧(¬ s.once=2))∧(¬ s.once=3))):=by first|simpa using h13|(simp at h13 ⊢;omega)
 refine A4 (nx (sr 1 rfl (ip' 1 0 [(2,iv 0)] ?_)))
 subst hR
 refine ie (A7 ?_)
 exact D5 hr hD
def E4 (fR:Int) (fC:Int) (fTop:Int) (fBottom:Int) (fOrigin:Bool) (s:Sav):Int :=
 (bif (!decide ((J8 fR fC fTop fBottom fOrigin)=0)) then (J8 fR fC fTop fBottom fOrigin) else (bif ((s.is_&&(!(((decide ((F3 fR fC fTop fBottom fOrigin s.cursor)=0))&&(decide ((D9 s.style)=0)))&&(decide ((K1 s.sets)=0)))))||((!s.is_)&&(!(decide (s=Sav.zero))))) then 272 else 0))
theorem Z1 (fR:Int) (fC:Int) (fTop:Int) (fBottom:Int) (fOrigin:Bool) (s:Sav) (R:Int) (hR:E4 fR fC fTop fBottom fOrigin s=R):I6 Tryz.prog 104 [ag [iv fR,iv fC,iv fTop,iv fBottom,bv fOrigin],ag (A1t s)] [] (iv R):=by
 refine zco Tryz.func104 [(0,ag [iv fR,iv fC,iv fTop,iv fBottom,bv fOrigin]),(1,ag (A1t s))] fun X hX hr hD=>?_
 replace hR:=(E4.eq_1 ..).symm.trans hR
 refine sr 3 rfl (A8y 3 0 [] (fun b1 b2=>[(2,pt b1 0),(3,pt b2 0)]) (fun b1 b2=>[bx b2 (A1t s) 50,bx b1 [iv fR,iv fC,iv fTop,iv fBottom,bv fOrigin] 150]) (fun b1 b2=>?_))
 refine ie (A3 (sr 3 rfl (zrl 1 2 [1] [(7,ag [iv fR,iv fC,iv fTop,iv fBottom,bv fOrigin])] ?_)))
 refine zca (A9x fR fC fTop fBottom fOrigin _ rfl) fn0 ?_
 refine ip' 1 0 [(5,iv (J8 fR fC fTop fBottom fOrigin))] ?_
 refine ie (sr 2 rfl (ip' 2 0 [(10,bv (!decide ((J8 fR fC fTop fBottom fOrigin)=0)))] ?_))
 refine ie ?_
 refine zjn rfl hR ?_ ?_<;>clear hR<;>intro hR h3 h3p
 ·refine sr 2 rfl (ip' 2 0 [(4,iv (J8 fR fC fTop fBottom fOrigin))] ?_)
  subst hR
  refine ie (A7 ?_)
  exact D5 hr hD
 refine A4 (nx (sr 18 rfl (zrl 3 15 [1,0] [(12,ag [iv fR,iv fC,iv fTop,iv fBottom,bv fOrigin]),(14,ag (A4w s.cursor))] ?_)))
 refine zca (A3q fR fC fTop fBottom fOrigin s.cursor _ rfl) fn0 ?_
 refine ip' 2 12 [(17,bv (decide ((F3 fR fC fTop fBottom fOrigin s.cursor)=0)))] ?_
 refine zid 5 7 17 22 (decide ((D9 s.style)=0)) (fun g4 g4p=>?_) ?_
 ·refine zrl 2 3 [0] [(19,ag (I8 s.style))] ?_
  refine zca (A0l s.style _ rfl) fn0 ?_
  refine ip' 2 0 [(22,bv (decide ((D9 s.style)=0)))] ?_
  exact A1 (H1 4 17 22 g4 fn0 (mk [true,true] rfl) rfl rfl rfl rfl rfl)
 refine ip' 1 6 [(23,bv ((decide ((F3 fR fC fTop fBottom fOrigin s.cursor)=0))&&(decide ((D9 s.style)=0))))] ?_
 refine zia 5 1 23 28 (decide ((K1 s.sets)=0)) (fun g5=>?_) ?_
 ·have g5p:((F3 fR fC fTop fBottom fOrigin s.cursor)=0)∧((D9 s.style)=0):=by simpa using g5
  refine zrl 2 3 [0] [(25,ag (A4x s.sets))] ?_
  refine zca (A8r s.sets _ rfl) fn0 ?_
  refine ip' 2 0 [(28,bv (decide ((K1 s.sets)=0)))] ?_
  exact A1 (H1 4 23 28 g5 fn0 (mk [true,true] rfl) rfl rfl rfl rfl rfl)
 refine ip' 1 0 [(6,bv (((decide ((F3 fR fC fTop fBottom fOrigin s.cursor)=0))&&(decide ((D9 s.style)=0)))&&(decide ((K1 s.sets)=0))))] ?_
 refine ie (A3 (sr 16 rfl (zrl 3 13 [0] [(31,bv s.is_)] ?_)))
 refine zia 3 10 31 34 (!(((decide ((F3 fR fC fTop fBottom fOrigin s.cursor)=0))&&(decide ((D9 s.style)=0)))&&(decide ((K1 s.sets)=0)))) (fun g6=>?_) ?_
 ·refine ip' 3 0 [(34,bv (!(((decide ((F3 fR fC fTop fBottom fOrigin s.cursor)=0))&&(decide ((D9 s.style)=0)))&&(decide ((K1 s.sets)=0)))))] ?_
  exact A1 (H1 2 31 34 g6 fn0 (mk [true,true] rfl) rfl rfl rfl rfl rfl)
 refine ip' 1 9 [(35,bv (s.is_&&(!(((decide ((F3 fR fC fTop fBottom fOrigin s.cursor)=0))&&(decide ((D9 s.style)=0)))&&(decide ((K1 s.sets)=0))))))] ?_
 refine zio 9 0 35 44 ((!s.is_)&&(!(decide (s=Sav.zero)))) (fun g7=>?_) ?_
 ·have g7p:=g7;try simp only [Bool.and_eq_true,Bool.or_eq_true,Bool.and_eq_false_iff,Bool.or_eq_false_iff,Bool.not_eq_true',Bool.not_eq_false',decide_eq_true_eq,decide_eq_false_iff_not] at g7p
  refine zrl 4 5 [0] [(39,bv (!s.is_))] ?_
  refine zia 4 1 39 43 (!(decide (s=Sav.zero))) (fun g8=>?_) ?_
  ·refine zrl 2 2 [0] [(40,ag (A1t s)),(41,ag (A1t Sav.zero))] ?_
   refine ix rfl (A5i (a:=s) (b:=Sav.zero) D2f rfl rfl rfl) ?_
   refine ip' 1 0 [(43,bv (!(decide (s=Sav.zero))))] ?_
   exact A1 (H1 5 39 43 g8 fn0 (mk [true,true] rfl) rfl rfl rfl rfl rfl)
  refine ip' 1 0 [(44,bv ((!s.is_)&&(!(decide (s=Sav.zero)))))] ?_
  exact A1 (H1 4 35 44 g7 fn0 (mk [true,true] rfl) rfl rfl rfl rfl rfl)
 refine ie ?_
 refine zjb rfl hR ?_ ?_<;>clear hR<;>intro hR h9
 ·have h9p:=h9;try simp only [Bool.and_eq_true,Bool.or_eq_true,Bool.and_eq_false_iff,Bool.or_eq_false_iff,Bool.not_eq_true',Bool.not_eq_false',decide_eq_true_eq,decide_eq_false_iff_not] at h9p
  refine sr 1 rfl (ip' 1 0 [(4,iv 272)] ?_)
  subst hR
  refine ie (A7 ?_)
  exact D5 hr hD
 have h9p:=h9;try simp only [Bool.and_eq_true,Bool.or_eq_true,Bool.and_eq_false_iff,Bool.or_eq_false_iff,Bool.not_eq_true',Bool.not_eq_false',decide_eq_true_eq,decide_eq_false_iff_not] at h9p
 refine A4 (nx (sr 1 rfl (ip' 1 0 [(4,iv 0)] ?_)))
 subst hR
 refine ie (A7 ?_)
 exact D5 hr hD
def A2k (g:List (Rwc Cel)):Int :=
 ((g.getD 0 zwc).l.length:Int)
theorem C3x (g:List (Rwc Cel)) (gq:Option Addr) (grs:List Rwq) (gk:Nat) (hrowsgrs:D0 grs g) (hlg:g.length≤9223372036854775807) (hcg:g.length≤gk) (hg0:0<g.length) (R:Int) (hR:A2k g=R):I6 Tryz.prog 251 [.slice gq g.length gk] [sl B7 gq grs,B8 B2 grs g] (iv R):=by
 refine zco Tryz.func251 [(0,.slice gq g.length gk)] fun X hX hr hD=>?_
 replace hR:=(A2k.eq_1 ..).symm.trans hR
 have:=hrowsgrs.1
 refine sr 1 rfl (ip' 1 0 [] ?_)
 refine ie (sr 6 rfl (ip' 1 5 [(3,.slice gq g.length gk)] ?_))
 refine J3 0 rfl (by have:=hrowsgrs.1;omega) fun a1 hq2=>?_
 refine H6 (B3x (k:=0) hrowsgrs 1 rfl (by have:=hrowsgrs.1;omega)) ?_
 have:=A7w hrowsgrs (k:=0) (by have:=hrowsgrs.1;omega)
 refine ix rfl (E8 A5a rfl rfl hq2 rfl 0 rfl (by omega)) ?_
 refine ip' 1 3 [(5,pa (Addr.add a1 (0 * 2)))] ?_
 refine ix rfl (F9 (C8 (v:=.slice ((grs.getD 0 zwq).s.q) ((grs.getD 0 zwq).s.n) ((grs.getD 0 zwq).s.k)) (us:=[.slice ((grs.getD 0 zwq).s.q) ((grs.getD 0 zwq).s.n) ((grs.getD 0 zwq).s.k)]) A3e rfl rfl (A0g (G0 (c:=B7) (sz:=2) hq2 (fun _=>rfl) 1 rfl (gd zwq (by have:=hrowsgrs.1;omega))) (ws:=[.slice ((grs.getD 0 zwq).s.q) ((grs.getD 0 zwq).s.n) ((grs.getD 0 zwq).s.k)]) 1 rfl) rfl) (C3j hrowsgrs (by have:=hrowsgrs.1;omega))) ?_
 refine ip' 2 0 [(2,iv ((g.getD 0 zwc).l.length:Int))] ?_
 subst hR
 refine ie (A7 ?_)
 exact D5 hr hD
def Y2 (g:List (Rwc Cel)):List (Rwc Cel)→Nat→Int
 | [],t15=>0
 | hd_l0::tl_l0,t15=>(bif ((!decide ((H9 (hd_l0.l) (hd_l0.b))=0))||(!decide ((hd_l0.l.length:Int)=(A2k g)))) then 230 else Y2 g tl_l0 (t15+1))
def K6 (g:List (Rwc Cel)):Int :=
 (bif ((decide ((g.length:Int)<1))||(decide ((40:Int)<(g.length:Int)))) then 230 else Y2 g g 0)
theorem A9g {g:List (Rwc Cel)} (h:K6 g=0):0<g.length:=by
 unfold K6 at h
 cases hb:((decide ((g.length:Int)<1))||(decide ((40:Int)<(g.length:Int)))) with
 | true=>rw [hb] at h;cases h
 | false=>simp only [Bool.or_eq_false_iff,decide_eq_false_iff_not] at hb;omega
theorem B3o (g:List (Rwc Cel)) (gq:Option Addr) (grs:List Rwq) (gk:Nat) (hrowsgrs:D0 grs g) (hlg:g.length≤9223372036854775807) (hcg:g.length≤gk) (R:Int) (hR:K6 g=R):I6 Tryz.prog 169 [.slice gq g.length gk] [sl B7 gq grs,B8 B2 grs g,A0z,A1a] (iv R):=by
 refine zco Tryz.func169 [(0,.slice gq g.length gk)] fun X hX hr hD=>?_
 replace hR:=(K6.eq_1 ..).symm.trans hR
 have:=hrowsgrs.1
 refine sr 1 rfl (ip' 1 0 [] ?_)
 refine ie (A3 (sr 8 rfl (ip' 4 4 [(8,bv (decide ((g.length:Int)<1)))] ?_)))
 refine zir 4 0 8 12 (decide ((40:Int)<(g.length:Int))) (fun g1 g1p=>?_) ?_
 ·refine ip' 4 0 [(12,bv (decide ((40:Int)<(g.length:Int))))] ?_
  exact zai 2 8 12 g1
 refine ie ?_
 refine zjo rfl hR ?_ ?_<;>clear hR<;>intro hR h2 h2p
 ·refine sr 1 rfl (ip' 1 0 [(2,iv 230)] ?_)
  subst hR
  refine ie (A7 ?_)
  exact D5 hr hD
 refine A4 (nx (A3 (sr 3 rfl (ip' 3 0 [(13,.slice gq g.length gk),(14,iv (g.length:Int)),(15,iv 0)] ?_))))
 refine ie (B0 (B3w (fun (t15:Nat)=>(t15≤g.length∧Y2 g (g.drop t15) t15=R,[(0,.slice gq g.length gk),(13,.slice gq g.length gk),(14,iv (g.length:Int)),(15,iv (t15:Int))],[],[sl B7 gq grs,B8 B2 grs g,A0z,A1a],g.length - t15)) 0 ⟨(by omega),hR⟩ (mk [] rfl) A2.refl ?_))
 rintro t15 ⟨hm3,hR⟩
 refine sr 1 rfl (ip' 1 0 [(16,bv (decide ((t15:Int)<(g.length:Int))))] ?_)
 refine ie (A3 (S2 rfl (fun h4=>?_) (fun h4=>?_)))
 ·have h4p:(t15:Int)<(g.length:Int):=by simpa using h4
  rw [U1 zwc (show t15<g.length by omega)] at hR;replace hR:=(Y2.eq_2 ..).symm.trans hR
  refine A4 (nx (A3 (B0 (sr 4 rfl (J3 0 rfl (by have:=hrowsgrs.1;omega) fun a5 hq6=>?_)))))
  refine H6 (B3x (k:=t15) hrowsgrs 1 rfl (by have:=hrowsgrs.1;omega)) ?_
  have:=A7w hrowsgrs (k:=t15) (by have:=hrowsgrs.1;omega)
  refine ix rfl (E8 A5a rfl rfl hq6 rfl t15 rfl (by omega)) ?_
  refine ix rfl (F9 (L4 (us:=[.slice ((grs.getD t15 zwq).s.q) ((grs.getD t15 zwq).s.n) ((grs.getD t15 zwq).s.k),bv ((grs.getD t15 zwq).b)]) B8a rfl rfl (G0 (c:=B7) (sz:=2) hq6 (fun _=>rfl) 1 rfl (gd zwq (by have:=hrowsgrs.1;omega))) rfl) (B9h hrowsgrs (by have:=hrowsgrs.1;omega))) ?_
  refine I7 2 0 [0] (fun b7=>[(4,pt b7 0)]) (fun b7=>[bx b7 [.slice ((grs.getD t15 zwq).s.q) ((g.getD t15 zwc).l.length) ((grs.getD t15 zwq).s.k),bv ((g.getD t15 zwc).b)] 78]) (fun b7=>?_)
  refine ie (sd 11 rfl (by kernel_rfl) rfl ?_)
  refine zdg 1 10 [0] [(19,ag [.slice ((grs.getD t15 zwq).s.q) ((g.getD t15 zwc).l.length) ((grs.getD t15 zwq).s.k),bv ((g.getD t15 zwc).b)])] ?_
  refine zcd (A9n ((g.getD t15 zwc).l) ((g.getD t15 zwc).b) ((grs.getD t15 zwq).s.q) ((grs.getD t15 zwq).s.k) (by first|omega|(simp only [List.length_take,List.length_drop,List.length_append,List.length_cons,List.length_nil,List.length_set,List.length_map];omega)|decide) (by first|omega|(simp only [List.length_take,List.length_drop,List.length_append,List.length_cons,List.length_nil,List.length_set,List.length_map];omega)|decide) _ rfl) (A2.pick [0,3,4] rfl) ?_
  refine dp' 2 7 [(22,bv (!decide ((H9 ((g.getD t15 zwc).l) ((g.getD t15 zwc).b))=0)))] ?_
  refine zdO 7 0 22 29 (!decide (((g.getD t15 zwc).l.length:Int)=(A2k g))) (fun g8=>?_) ?_
  ·have g8p:¬ (¬ (H9 ((g.getD t15 zwc).l) ((g.getD t15 zwc).b))=0):=by simpa using g8
   refine zdg 4 3 [0] [(25,iv ((g.getD t15 zwc).l.length:Int)),(26,.slice gq g.length gk)] ?_
   refine zcd (C3x g gq grs gk hrowsgrs (by first|omega|(simp only [List.length_take,List.length_drop,List.length_append,List.length_cons,List.length_nil,List.length_set,List.length_map];omega)|decide) (by first|omega|(simp only [List.length_take,List.length_drop,List.length_append,List.length_cons,List.length_nil,List.length_set,List.length_map];omega)|decide) (by omega) _ rfl) (A2.pick [1,2] rfl) ?_
   refine dp' 2 0 [(29,bv (!decide (((g.getD t15 zwc).l.length:Int)=(A2k g))))] ?_
   exact zad 5 22 29 g8
  refine de ?_
  refine zjb rfl hR ?_ ?_<;>clear hR<;>intro hR h9
  ·have h9p:(¬ (H9 ((g.getD t15 zwc).l) ((g.getD t15 zwc).b))=0)∨(¬ ((g.getD t15 zwc).l.length:Int)=(A2k g)):=by simpa using h9
   refine sr 1 rfl (ip' 1 0 [(2,iv 230)] ?_)
   subst hR
   refine ie (A7 ?_)
   exact D5 hr hD
  have h9p:¬ ((¬ (H9 ((g.getD t15 zwc).l) ((g.getD t15 zwc).b))=0)∨(¬ ((g.getD t15 zwc).l.length:Int)=(A2k g))):=by simpa using h9
  refine A4 (nx (A5 2 rfl (ix rfl (B4 rfl rfl rfl rfl (by omega)) ?_)))
  refine ip' 1 0 [(15,iv ((t15:Int)+1))] ?_
  refine A1 ?_
  exact B4g (z1:=t15) (t15+1) ⟨(by omega),hR⟩ (by (try dsimp only);omega) (mk [false] rfl) (A2.pick [1,2,3,4] rfl)
 have h4p:¬ ((t15:Int)<(g.length:Int)):=by simpa using h4
 rw [U2 h4p] at hR;replace hR:=(Y2.eq_1 ..).symm.trans hR
 refine G2 (nx (sr 1 rfl (ip' 1 0 [(2,iv 0)] ?_)))
 subst hR
 refine ie (A7 ?_)
 exact D5 hr hD
def D6 (s:ScrC) (sMain:List (Rwc Cel)) (sAlt:List (Rwc Cel)) (sPast:List (Rwc Cel)) (sTabs:List Bool) (g:List (Rwc Cel)):Bool :=
 (((decide ((K6 g)=0))&&(decide ((g.length:Int)=s.rows)))&&(decide (((g.getD 0 zwc).l.length:Int)=s.cols)))
theorem A4f (s:ScrC) (sMain:List (Rwc Cel)) (sAlt:List (Rwc Cel)) (sPast:List (Rwc Cel)) (sTabs:List Bool) (g:List (Rwc Cel)) (sb:Nat) (sMainq:Option Addr) (sMainrs:List Rwq) (sMaink:Nat) (sAltq:Option Addr) (sAltrs:List Rwq) (sAltk:Nat) (sPastq:Option Addr) (sPastrs:List Rwq) (sPastk:Nat) (sTabsq:Option Addr) (sTabsk:Nat) (gq:Option Addr) (grs:List Rwq) (gk:Nat) (hrowssMainrs:D0 sMainrs sMain) (hlsMain:sMain.length≤9223372036854775807) (hcsMain:sMain.length≤sMaink) (hrowssAltrs:D0 sAltrs sAlt) (hlsAlt:sAlt.length≤9223372036854775807) (hcsAlt:sAlt.length≤sAltk) (hrowssPastrs:D0 sPastrs sPast) (hlsPast:sPast.length≤9223372036854775807) (hcsPast:sPast.length≤sPastk) (hlsTabs:sTabs.length≤9223372036854775807) (hcsTabs:sTabs.length≤sTabsk) (hrowsgrs:D0 grs g) (hlg:g.length≤9223372036854775807) (hcg:g.length≤gk) (R:Bool) (hR:D6 s sMain sAlt sPast sTabs g=R):Con Tryz.prog 105 [pt sb 0,.slice gq g.length gk] [bx sb (A6 s ⟨sMainq,sMain.length,sMaink⟩ ⟨sAltq,sAlt.length,sAltk⟩ ⟨sPastq,sPast.length,sPastk⟩ ⟨sTabsq,sTabs.length,sTabsk⟩) 114] [sl B7 sMainq sMainrs,B8 B2 sMainrs sMain,sl B7 sAltq sAltrs,B8 B2 sAltrs sAlt,sl B7 sPastq sPastrs,B8 B2 sPastrs sPast,sl F4 sTabsq sTabs,sl B7 gq grs,B8 B2 grs g,A0z,A1a] (Unit) (fun x=>bv R) (fun x=>[bx sb (A6 s ⟨sMainq,sMain.length,sMaink⟩ ⟨sAltq,sAlt.length,sAltk⟩ ⟨sPastq,sPast.length,sPastk⟩ ⟨sTabsq,sTabs.length,sTabsk⟩) 114]) (fun x=>[]):=by
 refine zco Tryz.func105 [(0,pt sb 0),(1,.slice gq g.length gk)] fun X hX hr hD=>?_
 replace hR:=(D6.eq_1 ..).symm.trans hR
 have:=hrowssMainrs.1
 have:=hrowssAltrs.1
 have:=hrowssPastrs.1
 have:=hrowsgrs.1
 have hgp:K6 g=0→0<g.length:=A9g
 refine sr 1 rfl (ip' 1 0 [] ?_)
 refine ie (sd 27 rfl (by kernel_rfl) rfl ?_)
 refine dp' 1 26 [(5,.slice gq g.length gk)] ?_
 refine zcd (B3o g gq grs gk hrowsgrs (by first|omega|(simp only [List.length_take,List.length_drop,List.length_append,List.length_cons,List.length_nil,List.length_set,List.length_map];omega)|decide) (by first|omega|(simp only [List.length_take,List.length_drop,List.length_append,List.length_cons,List.length_nil,List.length_set,List.length_map];omega)|decide) _ rfl) (A2.pick [7,8,9,10] rfl) ?_
 refine dp' 2 23 [(8,bv (decide ((K6 g)=0)))] ?_
 refine zdd 9 14 8 17 (decide ((g.length:Int)=s.rows)) (fun g1 g1p=>?_) ?_
 ·refine zdg 9 0 [0] [(17,bv (decide ((g.length:Int)=s.rows)))] ?_
  exact zad 2 8 17 g1
 refine dp' 1 13 [(18,bv ((decide ((K6 g)=0))&&(decide ((g.length:Int)=s.rows))))] ?_
 refine zda 12 1 18 30 (decide (((g.getD 0 zwc).l.length:Int)=s.cols)) (fun g2=>?_) ?_
 ·have g2p:((K6 g)=0)∧((g.length:Int)=s.rows):=by simpa using g2
  refine dp' 1 11 [(19,.slice gq g.length gk)] ?_
  refine A4a 7 rfl (by have:=hrowsgrs.1;omega) fun a3 hq4=>?_
  refine A4g (B3x (k:=0) hrowsgrs 8 rfl (by have:=hrowsgrs.1;omega)) ?_
  have:=A7w hrowsgrs (k:=0) (by have:=hrowsgrs.1;omega)
  refine dd rfl (E8 A5a rfl rfl hq4 rfl 0 rfl (by omega)) ?_
  refine dp' 1 9 [(21,pa (Addr.add a3 (0 * 2)))] ?_
  refine dd rfl (F9 (C8 (v:=.slice ((grs.getD 0 zwq).s.q) ((grs.getD 0 zwq).s.n) ((grs.getD 0 zwq).s.k)) (us:=[.slice ((grs.getD 0 zwq).s.q) ((grs.getD 0 zwq).s.n) ((grs.getD 0 zwq).s.k)]) A3e rfl rfl (A0g (G0 (c:=B7) (sz:=2) hq4 (fun _=>rfl) 8 rfl (gd zwq (by have:=hrowsgrs.1;omega))) (ws:=[.slice ((grs.getD 0 zwq).s.q) ((grs.getD 0 zwq).s.n) ((grs.getD 0 zwq).s.k)]) 1 rfl) rfl) (C3j hrowsgrs (by have:=hrowsgrs.1;omega))) ?_
  refine zdg 8 0 [0] [(30,bv (decide (((g.getD 0 zwc).l.length:Int)=s.cols)))] ?_
  exact zad 6 18 30 g2
 refine dp' 1 0 [(4,bv (((decide ((K6 g)=0))&&(decide ((g.length:Int)=s.rows)))&&(decide (((g.getD 0 zwc).l.length:Int)=s.cols))))] ?_
 subst hR
 refine de (A7 ?_)
 exact zer hr hD (P3 rfl (B1 rfl)) () (mk [true] rfl) fn0
def Y8 (cols:Int):List (Rwc Cel)→Nat→Int
 | [],t18=>0
 | hd_l0::tl_l0,t18=>(bif ((!decide ((hd_l0.l.length:Int)=cols))||(!decide ((H9 (hd_l0.l) (hd_l0.b))=0))) then 280 else Y8 cols tl_l0 (t18+1))
def Y3 (cols:Int) (p:List (Rwc Cel)):Int :=
 (bif ((decide (cols<2))||(decide ((80:Int)<cols))) then 2 else (bif (decide ((100:Int)<(p.length:Int))) then 280 else Y8 cols p 0))
theorem C0g (cols:Int) (p:List (Rwc Cel)) (pq:Option Addr) (prs:List Rwq) (pk:Nat) (hrowsprs:D0 prs p) (hlp:p.length≤9223372036854775807) (hcp:p.length≤pk) (R:Int) (hR:Y3 cols p=R):I6 Tryz.prog 106 [iv cols,.slice pq p.length pk] [sl B7 pq prs,B8 B2 prs p,A0z,A1a] (iv R):=by
 refine zco Tryz.func106 [(0,iv cols),(1,.slice pq p.length pk)] fun X hX hr hD=>?_
 replace hR:=(Y3.eq_1 ..).symm.trans hR
 have:=hrowsprs.1
 refine sr 1 rfl (ip' 1 0 [] ?_)
 refine ie (A3 (sr 6 rfl (ip' 3 3 [(9,bv (decide (cols<2)))] ?_)))
 refine zir 3 0 9 12 (decide ((80:Int)<cols)) (fun g1 g1p=>?_) ?_
 ·refine ip' 3 0 [(12,bv (decide ((80:Int)<cols)))] ?_
  exact zai 2 9 12 g1
 refine ie ?_
 refine zjo rfl hR ?_ ?_<;>clear hR<;>intro hR h2 h2p
 ·refine sr 1 rfl (ip' 1 0 [(4,iv 2)] ?_)
  subst hR
  refine ie (A7 ?_)
  exact D5 hr hD
 refine A4 (nx (A3 (sr 3 rfl (ip' 3 0 [(15,bv (decide ((100:Int)<(p.length:Int))))] ?_))))
 refine ie ?_
 refine zjd rfl hR ?_ ?_<;>clear hR<;>intro hR h3 h3p
 ·refine sr 1 rfl (ip' 1 0 [(4,iv 280)] ?_)
  subst hR
  refine ie (A7 ?_)
  exact D5 hr hD
 refine A4 (nx (A3 (sr 3 rfl (ip' 3 0 [(16,.slice pq p.length pk),(17,iv (p.length:Int)),(18,iv 0)] ?_))))
 refine ie (B0 (B3w (fun (t18:Nat)=>(t18≤p.length∧Y8 cols (p.drop t18) t18=R,[(0,iv cols),(16,.slice pq p.length pk),(17,iv (p.length:Int)),(18,iv (t18:Int))],[],[sl B7 pq prs,B8 B2 prs p,A0z,A1a],p.length - t18)) 0 ⟨(by omega),hR⟩ (mk [] rfl) A2.refl ?_))
 rintro t18 ⟨hm4,hR⟩
 refine sr 1 rfl (ip' 1 0 [(19,bv (decide ((t18:Int)<(p.length:Int))))] ?_)
 refine ie (A3 (S2 rfl (fun h5=>?_) (fun h5=>?_)))
 ·have h5p:(t18:Int)<(p.length:Int):=by simpa using h5
  rw [U1 zwc (show t18<p.length by omega)] at hR;replace hR:=(Y8.eq_2 ..).symm.trans hR
  refine A4 (nx (A3 (B0 (sr 4 rfl (J3 0 rfl (by have:=hrowsprs.1;omega) fun a6 hq7=>?_)))))
  refine H6 (B3x (k:=t18) hrowsprs 1 rfl (by have:=hrowsprs.1;omega)) ?_
  have:=A7w hrowsprs (k:=t18) (by have:=hrowsprs.1;omega)
  refine ix rfl (E8 A5a rfl rfl hq7 rfl t18 rfl (by omega)) ?_
  refine ix rfl (F9 (L4 (us:=[.slice ((prs.getD t18 zwq).s.q) ((prs.getD t18 zwq).s.n) ((prs.getD t18 zwq).s.k),bv ((prs.getD t18 zwq).b)]) B8a rfl rfl (G0 (c:=B7) (sz:=2) hq7 (fun _=>rfl) 1 rfl (gd zwq (by have:=hrowsprs.1;omega))) rfl) (B9h hrowsprs (by have:=hrowsprs.1;omega))) ?_
  refine I7 2 0 [0] (fun b8=>[(6,pt b8 0)]) (fun b8=>[bx b8 [.slice ((prs.getD t18 zwq).s.q) ((p.getD t18 zwc).l.length) ((prs.getD t18 zwq).s.k),bv ((p.getD t18 zwc).b)] 78]) (fun b8=>?_)
  refine ie (sr 10 rfl (zrl 6 4 [0] [(27,bv (!decide (((p.getD t18 zwc).l.length:Int)=cols)))] ?_))
  refine zio 4 0 27 31 (!decide ((H9 ((p.getD t18 zwc).l) ((p.getD t18 zwc).b))=0)) (fun g9=>?_) ?_
  ·have g9p:¬ (¬ ((p.getD t18 zwc).l.length:Int)=cols):=by simpa using g9
   refine zrl 1 3 [0] [(28,ag [.slice ((prs.getD t18 zwq).s.q) ((p.getD t18 zwc).l.length) ((prs.getD t18 zwq).s.k),bv ((p.getD t18 zwc).b)])] ?_
   refine zca (A9n ((p.getD t18 zwc).l) ((p.getD t18 zwc).b) ((prs.getD t18 zwq).s.q) ((prs.getD t18 zwq).s.k) (by first|omega|(simp only [List.length_take,List.length_drop,List.length_append,List.length_cons,List.length_nil,List.length_set,List.length_map];omega)|decide) (by first|omega|(simp only [List.length_take,List.length_drop,List.length_append,List.length_cons,List.length_nil,List.length_set,List.length_map];omega)|decide) _ rfl) (A2.pick [0,3,4] rfl) ?_
   refine ip' 2 0 [(31,bv (!decide ((H9 ((p.getD t18 zwc).l) ((p.getD t18 zwc).b))=0)))] ?_
   exact zai 4 27 31 g9
  refine ie ?_
  refine zjb rfl hR ?_ ?_<;>clear hR<;>intro hR h10
  ·have h10p:(¬ ((p.getD t18 zwc).l.length:Int)=cols)∨(¬ (H9 ((p.getD t18 zwc).l) ((p.getD t18 zwc).b))=0):=by simpa using h10
   refine sr 1 rfl (ip' 1 0 [(4,iv 280)] ?_)
   subst hR
   refine ie (A7 ?_)
   exact D5 hr hD
  have h10p:¬ ((¬ ((p.getD t18 zwc).l.length:Int)=cols)∨(¬ (H9 ((p.getD t18 zwc).l) ((p.getD t18 zwc).b))=0)):=by simpa using h10
  refine A4 (nx (A5 2 rfl (ix rfl (B4 rfl rfl rfl rfl (by omega)) ?_)))
  refine ip' 1 0 [(18,iv ((t18:Int)+1))] ?_
  refine A1 ?_
  exact B4g (z1:=t18) (t18+1) ⟨(by omega),hR⟩ (by (try dsimp only);omega) (mk [false] rfl) (A2.pick [1,2,3,4] rfl)
 have h5p:¬ ((t18:Int)<(p.length:Int)):=by simpa using h5
 rw [U2 h5p] at hR;replace hR:=(Y8.eq_1 ..).symm.trans hR
 refine G2 (nx (sr 1 rfl (ip' 1 0 [(4,iv 0)] ?_)))
 subst hR
 refine ie (A7 ?_)
 exact D5 hr hD
def B0j:List Int :=
 ([9,1000,1002,1003]:List Int)
theorem C2c (R:List Int) (hR:B0j=R):Con Tryz.prog 171 [] [] [] ({t:Option Addr×Nat // R.length≤t.2∧R.length≤9223372036854775807}) (fun x=>.slice x.1.1 R.length x.1.2) (fun x=>[]) (fun x=>[sl K8 x.1.1 R]):=by
 refine zco Tryz.func171 [] fun X hX hr hD=>?_
 replace hR:=(B0j.eq_1 ..).symm.trans hR
 refine sr 1 rfl (ip' 1 0 [] ?_)
 refine ie (sr 2 rfl (it rfl (E9 (c:=K8) (xs:=([9,1000,1002,1003]:List Int)) V7 rfl rfl rfl (by kernel_rfl)) fun b1=>?_))
 have:([9,1000,1002,1003]:List Int).length=4:=rfl
 refine ip' 1 0 [(0,.slice (some ⟨b1,0,none⟩) 4 4)] ?_
 subst hR
 refine ie (A7 ?_)
 exact zer hr hD (P3 rfl (B1 rfl)) (zq (some ⟨b1,0,none⟩) 4) (mk [] rfl) (A2.con1 (B5 0 rfl) fn0)
def M2 (v:Int):List Int→Nat→Int
 | [],t8=>(-1)
 | hd_l0::tl_l0,t8=>(bif (decide (v=hd_l0)) then (t8:Int) else M2 v tl_l0 (t8+1))
def R8 (s:List Int) (v:Int):Int :=
 M2 v s 0
theorem A8g (s:List Int) (v:Int) (sq:Option Addr) (sk:Nat) (hls:s.length≤9223372036854775807) (hcs:s.length≤sk) (R:Int) (hR:R8 s v=R):I6 Tryz.prog 252 [.slice sq s.length sk,iv v] [sl K8 sq s] (iv R):=by
 refine zco Tryz.func252 [(0,.slice sq s.length sk),(1,iv v)] fun X hX hr hD=>?_
 replace hR:=(R8.eq_1 ..).symm.trans hR
 refine sr 1 rfl (ip' 1 0 [] ?_)
 refine ie (A3 (sr 3 rfl (ip' 3 0 [(7,iv (s.length:Int)),(8,iv 0)] ?_)))
 refine ie (B0 (B3w (fun (t8:Nat)=>(t8≤s.length∧M2 v (s.drop t8) t8=R,[(0,.slice sq s.length sk),(1,iv v),(7,iv (s.length:Int)),(8,iv (t8:Int))],[],[sl K8 sq s],s.length - t8)) 0 ⟨(by omega),hR⟩ (mk [] rfl) A2.refl ?_))
 rintro t8 ⟨hm1,hR⟩
 refine sr 1 rfl (ip' 1 0 [(9,bv (decide ((t8:Int)<(s.length:Int))))] ?_)
 refine ie (A3 (S2 rfl (fun h2=>?_) (fun h2=>?_)))
 ·have h2p:(t8:Int)<(s.length:Int):=by simpa using h2
  rw [U1 0 (show t8<s.length by omega)] at hR;replace hR:=(M2.eq_2 ..).symm.trans hR
  refine A4 (nx (A3 (B0 (sr 2 rfl (ip' 2 0 [(5,iv (t8:Int))] ?_)))))
  refine ie (sr 6 rfl (ip' 3 3 [(11,iv v),(12,.slice sq s.length sk),(13,iv (t8:Int))] ?_))
  refine J3 0 rfl (by omega) fun a3 hq4=>?_
  refine ix rfl (E8 V7 rfl rfl hq4 rfl t8 rfl (by omega)) ?_
  refine ix rfl (C8 (v:=iv (s.getD t8 0)) (us:=[iv (s.getD t8 0)]) ty3 rfl rfl (G0 (c:=K8) (sz:=1) hq4 (fun _=>rfl) 0 rfl (gd 0 (by omega))) rfl) ?_
  refine ip' 1 0 [(16,bv (decide (v=(s.getD t8 0))))] ?_
  refine ie ?_
  refine zjd rfl hR ?_ ?_<;>clear hR<;>intro hR h5 h5p
  ·refine sr 2 rfl (ip' 2 0 [(4,iv (t8:Int))] ?_)
   subst hR
   refine ie (A7 ?_)
   exact D5 hr hD
  refine A4 (nx (A5 2 rfl (ix rfl (B4 rfl rfl rfl rfl (by omega)) ?_)))
  refine ip' 1 0 [(8,iv ((t8:Int)+1))] ?_
  refine A1 ?_
  exact B4g (z1:=t8) (t8+1) ⟨(by omega),hR⟩ (by (try dsimp only);omega) (mk [] rfl) A2.refl
 have h2p:¬ ((t8:Int)<(s.length:Int)):=by simpa using h2
 rw [U2 h2p] at hR;replace hR:=(M2.eq_1 ..).symm.trans hR
 refine G2 (nx (sr 1 rfl (ip' 1 0 [(4,iv (-1))] ?_)))
 subst hR
 refine ie (A7 ?_)
 exact D5 hr hD
def M3 (s:List Int) (v:Int):Bool :=
 (decide ((0:Int)≤(R8 s v)))
theorem A6i (s:List Int) (v:Int) (sq:Option Addr) (sk:Nat) (hls:s.length≤9223372036854775807) (hcs:s.length≤sk) (R:Bool) (hR:M3 s v=R):I6 Tryz.prog 170 [.slice sq s.length sk,iv v] [sl K8 sq s] (bv R):=by
 refine zco Tryz.func170 [(0,.slice sq s.length sk),(1,iv v)] fun X hX hr hD=>?_
 replace hR:=(M3.eq_1 ..).symm.trans hR
 refine sr 1 rfl (ip' 1 0 [] ?_)
 refine ie (sr 5 rfl (ip' 2 3 [(5,.slice sq s.length sk),(6,iv v)] ?_))
 refine zca (A8g s v sq sk (by first|omega|(simp only [List.length_take,List.length_drop,List.length_append,List.length_cons,List.length_nil,List.length_set,List.length_map];omega)|decide) (by first|omega|(simp only [List.length_take,List.length_drop,List.length_append,List.length_cons,List.length_nil,List.length_set,List.length_map];omega)|decide) _ rfl) A2.refl ?_
 refine ip' 2 0 [(4,bv (decide ((0:Int)≤(R8 s v))))] ?_
 subst hR
 refine ie (A7 ?_)
 exact D5 hr hD
def S3 (m:Mod):Int :=
 (bif (!decide (m.mouse=0)) then (F1 B0j fun (y1:List Int)=>(bif (!(M3 y1 m.mouse)) then 260 else 0)) else 0)
theorem B3i (m:Mod) (R:Int) (hR:S3 m=R):I6 Tryz.prog 109 [ag (A2m m)] [] (iv R):=by
 refine zco Tryz.func109 [(0,ag (A2m m))] fun X hX hr hD=>?_
 replace hR:=(S3.eq_1 ..).symm.trans hR
 refine sr 2 rfl (I7 2 0 [] (fun b1=>[(1,pt b1 0)]) (fun b1=>[bx b1 (A2m m) 47]) (fun b1=>?_))
 refine ie (A3 (sh 10 [(10,[bx b1 (A2m m) 47])] [] [bx b1 (A2m m) 47] (zml 10 0) (by kernel_rfl) rfl (by kernel_rfl) (by kernel_rfl) (by kernel_rfl) (mk [true] rfl) A2.refl ?_))
 refine zhp [0] 9 (zml 10 1) [(3,pt b1 11)] ?_
 refine zhl 1 [bx b1 (A2m m) 47] (zml 10 3) rfl (D4 (v:=iv m.mouse) ty3 rfl rfl 0 rfl rfl) ?_
 refine zhp [2,3] 6 (zml 10 15) [(6,bv (!decide (m.mouse=0)))] ?_
 refine C3q 6 _ rfl (fun g2=>?_) (fun g2=>?_)
 ·have g2p:¬ m.mouse=0:=by simpa using g2
  replace hR:=bt hR g2
  refine zhp [5] 5 (zml 10 47) [(8,pt b1 11)] ?_
  refine zhl 6 [bx b1 (A2m m) 47] (zml 10 111) rfl (D4 (v:=iv m.mouse) ty3 rfl rfl 0 rfl rfl) ?_
  have hQ:=G6 hR;clear hR;obtain ⟨y1,hy1,hR⟩:=hQ
  refine zho 4 [bx b1 (A2m m) 47] (zml 10 127) rfl (H2 (L2:=[bx b1 (A2m m) 47]) (C2c y1 hy1) rfl rfl rfl rfl rfl fn0 (List.Perm.refl _) (fun ⟨⟨q3,k4⟩,hp5⟩=>[bx b1 (A2m m) 47]) (fun _=>rfl)) (fun ⟨⟨q3,k4⟩,hp5⟩=>(mk [true] rfl)) (fun ⟨⟨q3,k4⟩,hp5⟩=>fn0) fun ⟨⟨q3,k4⟩,hp5⟩=>?_
  obtain ⟨hc6,hl7⟩:=hp5
  refine zho 7 [bx b1 (A2m m) 47] (zml 10 255) rfl (Det.tri (B3h (A6i y1 m.mouse q3 k4 (by first|omega|(simp only [List.length_take,List.length_drop,List.length_append,List.length_cons,List.length_nil,List.length_set,List.length_map];omega)|decide) (by first|omega|(simp only [List.length_take,List.length_drop,List.length_append,List.length_cons,List.length_nil,List.length_set,List.length_map];omega)|decide) _ rfl) rfl rfl rfl rfl rfl A2.refl)) (fun _=>(mk [true] rfl)) (fun _=>fn0) fun _=>?_
  refine zhp [8,9] 0 (zml 10 1023) [(12,bv (!(M3 y1 m.mouse)))] ?_
  refine B0r (by kernel_rfl) ?_
  refine zjb rfl hR ?_ ?_<;>clear hR<;>intro hR h8
  ·refine sr 1 rfl (ip' 1 0 [(2,iv 260)] ?_)
   subst hR
   refine ie (A7 ?_)
   exact D5 hr hD
  refine A4 (nx (sr 1 rfl (ip' 1 0 [(2,iv 0)] ?_)))
  subst hR
  refine ie (A7 ?_)
  exact D5 hr hD
 ·have g2p:¬ (¬ m.mouse=0):=by simpa using g2
  replace hR:=bf hR g2
  refine zhp [4,5,6,7,8,9] 0 (zml 10 1023) [(12,bv false)] ?_
  refine B0r (by kernel_rfl) ?_
  refine A0m rfl (A4 (nx (sr 1 rfl (ip' 1 0 [(2,iv 0)] ?_))))
  subst hR
  refine ie (A7 ?_)
  exact D5 hr hD
def K3 (s:ScrC) (t72:Bool):Bool :=
 (bif t72 then false else (bif (decide (s.shape<0)) then (bif (decide (s.shape<0)) then false else ((decide (s.last=0))||(decide ((0:Int)<(F2 s.last))))) else (bif (decide ((6:Int)<s.shape)) then (bif (decide ((6:Int)<s.shape)) then false else ((decide (s.last=0))||(decide ((0:Int)<(F2 s.last))))) else (bif (!decide ((J7 0 0 Col.zero s.title)=0)) then false else ((decide (s.last=0))||(decide ((0:Int)<(F2 s.last))))))))
def I0 (s:ScrC) (t31:Bool):Bool :=
 (bif t31 then false else (bif (!decide ((D9 s.style)=0)) then K3 s (!decide ((D9 s.style)=0)) else (bif (!decide ((K1 s.sets)=0)) then K3 s (!decide ((K1 s.sets)=0)) else K3 s (!decide ((S3 s.modes)=0)))))
def J1 (s:ScrC) (sMain:List (Rwc Cel)) (sAlt:List (Rwc Cel)) (sPast:List (Rwc Cel)) (sTabs:List Bool) (t6:Bool):Bool :=
 (bif t6 then false else (bif (!(D6 s sMain sAlt sPast sTabs sMain)) then I0 s (!(D6 s sMain sAlt sPast sTabs sMain)) else (bif (!(D6 s sMain sAlt sPast sTabs sAlt)) then I0 s (!(D6 s sMain sAlt sPast sTabs sAlt)) else (bif (!decide ((Y3 s.cols sPast)=0)) then I0 s (!decide ((Y3 s.cols sPast)=0)) else I0 s (!decide ((sTabs.length:Int)=s.cols))))))
def K2 (s:ScrC) (sMain:List (Rwc Cel)) (sAlt:List (Rwc Cel)) (sPast:List (Rwc Cel)) (sTabs:List Bool):Bool :=
 (F1 (W1 s sMain sAlt sPast sTabs) fun (y0:Int×Int×Int×Int×Bool)=>(bif (!decide ((F3 y0.1 y0.2.1 y0.2.2.1 y0.2.2.2.1 y0.2.2.2.2 s.cursor)=0)) then J1 s sMain sAlt sPast sTabs (!decide ((F3 y0.1 y0.2.1 y0.2.2.1 y0.2.2.2.1 y0.2.2.2.2 s.cursor)=0)) else (bif (!decide ((E4 y0.1 y0.2.1 y0.2.2.1 y0.2.2.2.1 y0.2.2.2.2 s.kept)=0)) then J1 s sMain sAlt sPast sTabs (!decide ((E4 y0.1 y0.2.1 y0.2.2.1 y0.2.2.2.1 y0.2.2.2.2 s.kept)=0)) else J1 s sMain sAlt sPast sTabs (!decide ((E4 y0.1 y0.2.1 y0.2.2.1 y0.2.2.2.1 y0.2.2.2.2 s.keptAlt)=0)))))
theorem A9m (s:ScrC) (sMain:List (Rwc Cel)) (sAlt:List (Rwc Cel)) (sPast:List (Rwc Cel)) (sTabs:List Bool) (sb:Nat) (sMainq:Option Addr) (sMainrs:List Rwq) (sMaink:Nat) (sAltq:Option Addr) (sAltrs:List Rwq) (sAltk:Nat) (sPastq:Option Addr) (sPastrs:List Rwq) (sPastk:Nat) (sTabsq:Option Addr) (sTabsk:Nat) (hrowssMainrs:D0 sMainrs sMain) (hlsMain:sMain.length≤9223372036854775807) (hcsMain:sMain.length≤sMaink) (hrowssAltrs:D0 sAltrs sAlt) (hlsAlt:sAlt.length≤9223372036854775807) (hcsAlt:sAlt.length≤sAltk) (hrowssPastrs:D0 sPastrs sPast) (hlsPast:sPast.length≤9223372036854775807) (hcsPast:sPast.length≤sPastk) (hlsTabs:sTabs.length≤9223372036854775807) (hcsTabs:sTabs.length≤sTabsk) (hTs:s.title.length≤100000000) (R:Bool) (hR:K2 s sMain sAlt sPast sTabs=R):Con Tryz.prog 64 [pt sb 0] [bx sb (A6 s ⟨sMainq,sMain.length,sMaink⟩ ⟨sAltq,sAlt.length,sAltk⟩ ⟨sPastq,sPast.length,sPastk⟩ ⟨sTabsq,sTabs.length,sTabsk⟩) 114] [sl B7 sMainq sMainrs,B8 B2 sMainrs sMain,sl B7 sAltq sAltrs,B8 B2 sAltrs sAlt,sl B7 sPastq sPastrs,B8 B2 sPastrs sPast,sl F4 sTabsq sTabs,A0z,A1a] (Unit) (fun x=>bv R) (fun x=>[bx sb (A6 s ⟨sMainq,sMain.length,sMaink⟩ ⟨sAltq,sAlt.length,sAltk⟩ ⟨sPastq,sPast.length,sPastk⟩ ⟨sTabsq,sTabs.length,sTabsk⟩) 114]) (fun x=>[]):=by
 refine zco Tryz.func64 [(0,pt sb 0)] fun X hX hr hD=>?_
 replace hR:=(K2.eq_1 ..).symm.trans hR
 have:=hrowssMainrs.1
 have:=hrowssAltrs.1
 have:=hrowssPastrs.1
 refine sr 1 rfl (ip' 1 0 [] ?_)
 refine ie (sr 4 rfl (ip' 1 3 [(4,pt sb 0)] ?_))
 have hQ:=G6 hR;clear hR;obtain ⟨y0,hy0,hR⟩:=hQ
 refine it rfl (H2 (L2:=[]) (A9s s sMain sAlt sPast sTabs sb sMainq sMainrs sMaink sAltq sAltrs sAltk sPastq sPastrs sPastk sTabsq sTabsk hrowssMainrs (by first|omega|(simp only [List.length_take,List.length_drop,List.length_append,List.length_cons,List.length_nil,List.length_set,List.length_map];omega)|decide) (by first|omega|(simp only [List.length_take,List.length_drop,List.length_append,List.length_cons,List.length_nil,List.length_set,List.length_map];omega)|decide) hrowssAltrs (by first|omega|(simp only [List.length_take,List.length_drop,List.length_append,List.length_cons,List.length_nil,List.length_set,List.length_map];omega)|decide) (by first|omega|(simp only [List.length_take,List.length_drop,List.length_append,List.length_cons,List.length_nil,List.length_set,List.length_map];omega)|decide) hrowssPastrs (by first|omega|(simp only [List.length_take,List.length_drop,List.length_append,List.length_cons,List.length_nil,List.length_set,List.length_map];omega)|decide) (by first|omega|(simp only [List.length_take,List.length_drop,List.length_append,List.length_cons,List.length_nil,List.length_set,List.length_map];omega)|decide) (by first|omega|(simp only [List.length_take,List.length_drop,List.length_append,List.length_cons,List.length_nil,List.length_set,List.length_map];omega)|decide) (by first|omega|(simp only [List.length_take,List.length_drop,List.length_append,List.length_cons,List.length_nil,List.length_set,List.length_map];omega)|decide) y0 hy0) rfl rfl rfl rfl rfl (A2.pick [0,1,2,3,4,5,6] rfl) (H3 [[bx sb (A6 s ⟨sMainq,sMain.length,sMaink⟩ ⟨sAltq,sAlt.length,sAltk⟩ ⟨sPastq,sPast.length,sPastk⟩ ⟨sTabsq,sTabs.length,sTabsk⟩) 114]] [0] 1 rfl (by decide) rfl [[bx sb (A6 s ⟨sMainq,sMain.length,sMaink⟩ ⟨sAltq,sAlt.length,sAltk⟩ ⟨sPastq,sPast.length,sPastk⟩ ⟨sTabsq,sTabs.length,sTabsk⟩) 114]] rfl (by first|rfl|simp only [List.flatten_cons,List.flatten_nil,List.append_nil,List.cons_append,List.nil_append,List.append_assoc])) (fun _=>[bx sb (A6 s ⟨sMainq,sMain.length,sMaink⟩ ⟨sAltq,sAlt.length,sAltk⟩ ⟨sPastq,sPast.length,sPastk⟩ ⟨sTabsq,sTabs.length,sTabsk⟩) 114]) (fun _=>rfl)) fun _=>?_
 refine I7 2 0 [0] (fun b1=>[(3,pt b1 0)]) (fun b1=>[bx b1 [iv y0.1,iv y0.2.1,iv y0.2.2.1,iv y0.2.2.2.1,bv y0.2.2.2.2] 150,bx sb (A6 s ⟨sMainq,sMain.length,sMaink⟩ ⟨sAltq,sAlt.length,sAltk⟩ ⟨sPastq,sPast.length,sPastk⟩ ⟨sTabsq,sTabs.length,sTabsk⟩) 114]) (fun b1=>?_)
 refine ie (A3 (B0 (B5u (fun (t6:Bool)=>(J1 s sMain sAlt sPast sTabs t6=R,[(0,pt sb 0),(6,bv t6)],[bx b1 [iv y0.1,iv y0.2.1,iv y0.2.2.1,iv y0.2.2.2.1,bv y0.2.2.2.2] 150,bx sb (A6 s ⟨sMainq,sMain.length,sMaink⟩ ⟨sAltq,sAlt.length,sAltk⟩ ⟨sPastq,sPast.length,sPastk⟩ ⟨sTabsq,sTabs.length,sTabsk⟩) 114],[sl B7 sMainq sMainrs,B8 B2 sMainrs sMain,sl B7 sAltq sAltrs,B8 B2 sAltrs sAlt,sl B7 sPastq sPastrs,B8 B2 sPastrs sPast,sl F4 sTabsq sTabs,A0z,A1a])) ?_ ?_)))
 ·refine sd 9 rfl (by kernel_rfl) rfl ?_
  refine zdg 6 3 [0,1] [(7,ag [iv y0.1,iv y0.2.1,iv y0.2.2.1,iv y0.2.2.2.1,bv y0.2.2.2.2]),(12,ag (A4w s.cursor))] ?_
  refine zcd (A3q y0.1 y0.2.1 y0.2.2.1 y0.2.2.2.1 y0.2.2.2.2 s.cursor _ rfl) fn0 ?_
  refine dp' 2 0 [(6,bv (!decide ((F3 y0.1 y0.2.1 y0.2.2.1 y0.2.2.2.1 y0.2.2.2.2 s.cursor)=0)))] ?_
  refine de ?_
  refine zjn rfl hR ?_ ?_<;>clear hR<;>intro hR h2 h2p
  ·refine A4 ?_
   exact A2q (!decide ((F3 y0.1 y0.2.1 y0.2.2.1 y0.2.2.2.1 y0.2.2.2.2 s.cursor)=0)) hR (mk [true,true] rfl) A2.refl
  refine sd 9 rfl (by kernel_rfl) rfl ?_
  refine zdg 6 3 [0,1] [(15,ag [iv y0.1,iv y0.2.1,iv y0.2.2.1,iv y0.2.2.2.1,bv y0.2.2.2.2]),(20,ag (A1t s.kept))] ?_
  refine zcd (Z1 y0.1 y0.2.1 y0.2.2.1 y0.2.2.2.1 y0.2.2.2.2 s.kept _ rfl) fn0 ?_
  refine dp' 2 0 [(6,bv (!decide ((E4 y0.1 y0.2.1 y0.2.2.1 y0.2.2.2.1 y0.2.2.2.2 s.kept)=0)))] ?_
  refine de ?_
  refine zjn rfl hR ?_ ?_<;>clear hR<;>intro hR h3 h3p
  ·refine A4 ?_
   exact A2q (!decide ((E4 y0.1 y0.2.1 y0.2.2.1 y0.2.2.2.1 y0.2.2.2.2 s.kept)=0)) hR (mk [true,true] rfl) A2.refl
  refine B6n 9 rfl (by kernel_rfl) rfl ?_
  refine zdg 6 3 [0,1] [(23,ag [iv y0.1,iv y0.2.1,iv y0.2.2.1,iv y0.2.2.2.1,bv y0.2.2.2.2]),(28,ag (A1t s.keptAlt))] ?_
  refine zcd (Z1 y0.1 y0.2.1 y0.2.2.1 y0.2.2.2.1 y0.2.2.2.2 s.keptAlt _ rfl) fn0 ?_
  refine dp' 2 0 [(6,bv (!decide ((E4 y0.1 y0.2.1 y0.2.2.1 y0.2.2.2.1 y0.2.2.2.2 s.keptAlt)=0)))] ?_
  refine A9r ?_
  exact A2q (!decide ((E4 y0.1 y0.2.1 y0.2.2.1 y0.2.2.2.1 y0.2.2.2.2 s.keptAlt)=0)) hR (mk [true,true] rfl) A2.refl
 intro t6
 rintro hR
 replace hR:=(J1.eq_1 ..).symm.trans hR
 refine zjb rfl hR ?_ ?_<;>clear hR<;>intro hR h4
 ·refine sr 1 rfl (ip' 1 0 [(2,bv false)] ?_)
  subst hR
  refine ie (A7 ?_)
  exact zer hr hD (P3 rfl (B1 rfl)) () (mk [false,true] rfl) fn0
 refine B5u (fun (t31:Bool)=>(I0 s t31=R,[(0,pt sb 0),(31,bv t31)],[bx b1 [iv y0.1,iv y0.2.1,iv y0.2.2.1,iv y0.2.2.2.1,bv y0.2.2.2.2] 150,bx sb (A6 s ⟨sMainq,sMain.length,sMaink⟩ ⟨sAltq,sAlt.length,sAltk⟩ ⟨sPastq,sPast.length,sPastk⟩ ⟨sTabsq,sTabs.length,sTabsk⟩) 114],[sl B7 sMainq sMainrs,B8 B2 sMainrs sMain,sl B7 sAltq sAltrs,B8 B2 sAltrs sAlt,sl B7 sPastq sPastrs,B8 B2 sPastrs sPast,sl F4 sTabsq sTabs,A0z,A1a])) ?_ ?_
 ·refine sr 9 rfl (zrl 6 3 [1] [(32,pt sb 0),(37,.slice sMainq sMain.length sMaink)] ?_)
  refine it rfl (H2 (L2:=[bx b1 [iv y0.1,iv y0.2.1,iv y0.2.2.1,iv y0.2.2.2.1,bv y0.2.2.2.2] 150]) (A4f s sMain sAlt sPast sTabs sMain sb sMainq sMainrs sMaink sAltq sAltrs sAltk sPastq sPastrs sPastk sTabsq sTabsk sMainq sMainrs sMaink hrowssMainrs (by first|omega|(simp only [List.length_take,List.length_drop,List.length_append,List.length_cons,List.length_nil,List.length_set,List.length_map];omega)|decide) (by first|omega|(simp only [List.length_take,List.length_drop,List.length_append,List.length_cons,List.length_nil,List.length_set,List.length_map];omega)|decide) hrowssAltrs (by first|omega|(simp only [List.length_take,List.length_drop,List.length_append,List.length_cons,List.length_nil,List.length_set,List.length_map];omega)|decide) (by first|omega|(simp only [List.length_take,List.length_drop,List.length_append,List.length_cons,List.length_nil,List.length_set,List.length_map];omega)|decide) hrowssPastrs (by first|omega|(simp only [List.length_take,List.length_drop,List.length_append,List.length_cons,List.length_nil,List.length_set,List.length_map];omega)|decide) (by first|omega|(simp only [List.length_take,List.length_drop,List.length_append,List.length_cons,List.length_nil,List.length_set,List.length_map];omega)|decide) (by first|omega|(simp only [List.length_take,List.length_drop,List.length_append,List.length_cons,List.length_nil,List.length_set,List.length_map];omega)|decide) (by first|omega|(simp only [List.length_take,List.length_drop,List.length_append,List.length_cons,List.length_nil,List.length_set,List.length_map];omega)|decide) hrowssMainrs (by first|omega|(simp only [List.length_take,List.length_drop,List.length_append,List.length_cons,List.length_nil,List.length_set,List.length_map];omega)|decide) (by first|omega|(simp only [List.length_take,List.length_drop,List.length_append,List.length_cons,List.length_nil,List.length_set,List.length_map];omega)|decide) _ rfl) rfl rfl rfl rfl rfl (A2.pick [0,1,2,3,4,5,6,0,1,7,8] rfl) (H3 [[bx b1 [iv y0.1,iv y0.2.1,iv y0.2.2.1,iv y0.2.2.2.1,bv y0.2.2.2.2] 150],[bx sb (A6 s ⟨sMainq,sMain.length,sMaink⟩ ⟨sAltq,sAlt.length,sAltk⟩ ⟨sPastq,sPast.length,sPastk⟩ ⟨sTabsq,sTabs.length,sTabsk⟩) 114]] [1,0] 2 rfl (by decide) rfl [[bx sb (A6 s ⟨sMainq,sMain.length,sMaink⟩ ⟨sAltq,sAlt.length,sAltk⟩ ⟨sPastq,sPast.length,sPastk⟩ ⟨sTabsq,sTabs.length,sTabsk⟩) 114],[bx b1 [iv y0.1,iv y0.2.1,iv y0.2.2.1,iv y0.2.2.2.1,bv y0.2.2.2.2] 150]] rfl (by first|rfl|simp only [List.flatten_cons,List.flatten_nil,List.append_nil,List.cons_append,List.nil_append,List.append_assoc])) (fun _=>[bx sb (A6 s ⟨sMainq,sMain.length,sMaink⟩ ⟨sAltq,sAlt.length,sAltk⟩ ⟨sPastq,sPast.length,sPastk⟩ ⟨sTabsq,sTabs.length,sTabsk⟩) 114,bx b1 [iv y0.1,iv y0.2.1,iv y0.2.2.1,iv y0.2.2.2.1,bv y0.2.2.2.2] 150]) (fun _=>rfl)) fun _=>?_
  refine ip' 2 0 [(31,bv (!(D6 s sMain sAlt sPast sTabs sMain)))] ?_
  refine ie ?_
  refine zjb rfl hR ?_ ?_<;>clear hR<;>intro hR h5
  ·refine A4 (W7 (H3 [[bx sb (A6 s ⟨sMainq,sMain.length,sMaink⟩ ⟨sAltq,sAlt.length,sAltk⟩ ⟨sPastq,sPast.length,sPastk⟩ ⟨sTabsq,sTabs.length,sTabsk⟩) 114],[bx b1 [iv y0.1,iv y0.2.1,iv y0.2.2.1,iv y0.2.2.2.1,bv y0.2.2.2.2] 150]] [1,0] 2 rfl (by decide) rfl [[bx b1 [iv y0.1,iv y0.2.1,iv y0.2.2.1,iv y0.2.2.2.1,bv y0.2.2.2.2] 150],[bx sb (A6 s ⟨sMainq,sMain.length,sMaink⟩ ⟨sAltq,sAlt.length,sAltk⟩ ⟨sPastq,sPast.length,sPastk⟩ ⟨sTabsq,sTabs.length,sTabsk⟩) 114]] rfl (by first|rfl|simp)) ?_)
   exact A2q (!(D6 s sMain sAlt sPast sTabs sMain)) hR (mk [true,true] rfl) A2.refl
  refine sr 9 rfl (zrl 6 3 [0] [(40,pt sb 0),(45,.slice sAltq sAlt.length sAltk)] ?_)
  refine it rfl (H2 (L2:=[bx b1 [iv y0.1,iv y0.2.1,iv y0.2.2.1,iv y0.2.2.2.1,bv y0.2.2.2.2] 150]) (A4f s sMain sAlt sPast sTabs sAlt sb sMainq sMainrs sMaink sAltq sAltrs sAltk sPastq sPastrs sPastk sTabsq sTabsk sAltq sAltrs sAltk hrowssMainrs (by first|omega|(simp only [List.length_take,List.length_drop,List.length_append,List.length_cons,List.length_nil,List.length_set,List.length_map];omega)|decide) (by first|omega|(simp only [List.length_take,List.length_drop,List.length_append,List.length_cons,List.length_nil,List.length_set,List.length_map];omega)|decide) hrowssAltrs (by first|omega|(simp only [List.length_take,List.length_drop,List.length_append,List.length_cons,List.length_nil,List.length_set,List.length_map];omega)|decide) (by first|omega|(simp only [List.length_take,List.length_drop,List.length_append,List.length_cons,List.length_nil,List.length_set,List.length_map];omega)|decide) hrowssPastrs (by first|omega|(simp only [List.length_take,List.length_drop,List.length_append,List.length_cons,List.length_nil,List.length_set,List.length_map];omega)|decide) (by first|omega|(simp only [List.length_take,List.length_drop,List.length_append,List.length_cons,List.length_nil,List.length_set,List.length_map];omega)|decide) (by first|omega|(simp only [List.length_take,List.length_drop,List.length_append,List.length_cons,List.length_nil,List.length_set,List.length_map];omega)|decide) (by first|omega|(simp only [List.length_take,List.length_drop,List.length_append,List.length_cons,List.length_nil,List.length_set,List.length_map];omega)|decide) hrowssAltrs (by first|omega|(simp only [List.length_take,List.length_drop,List.length_append,List.length_cons,List.length_nil,List.length_set,List.length_map];omega)|decide) (by first|omega|(simp only [List.length_take,List.length_drop,List.length_append,List.length_cons,List.length_nil,List.length_set,List.length_map];omega)|decide) _ rfl) rfl rfl rfl rfl rfl (A2.pick [0,1,2,3,4,5,6,2,3,7,8] rfl) (H3 [[bx sb (A6 s ⟨sMainq,sMain.length,sMaink⟩ ⟨sAltq,sAlt.length,sAltk⟩ ⟨sPastq,sPast.length,sPastk⟩ ⟨sTabsq,sTabs.length,sTabsk⟩) 114],[bx b1 [iv y0.1,iv y0.2.1,iv y0.2.2.1,iv y0.2.2.2.1,bv y0.2.2.2.2] 150]] [0,1] 2 rfl (by decide) rfl [[bx sb (A6 s ⟨sMainq,sMain.length,sMaink⟩ ⟨sAltq,sAlt.length,sAltk⟩ ⟨sPastq,sPast.length,sPastk⟩ ⟨sTabsq,sTabs.length,sTabsk⟩) 114],[bx b1 [iv y0.1,iv y0.2.1,iv y0.2.2.1,iv y0.2.2.2.1,bv y0.2.2.2.2] 150]] rfl (by first|rfl|simp only [List.flatten_cons,List.flatten_nil,List.append_nil,List.cons_append,List.nil_append,List.append_assoc])) (fun _=>[bx sb (A6 s ⟨sMainq,sMain.length,sMaink⟩ ⟨sAltq,sAlt.length,sAltk⟩ ⟨sPastq,sPast.length,sPastk⟩ ⟨sTabsq,sTabs.length,sTabsk⟩) 114,bx b1 [iv y0.1,iv y0.2.1,iv y0.2.2.1,iv y0.2.2.2.1,bv y0.2.2.2.2] 150]) (fun _=>rfl)) fun _=>?_
  refine ip' 2 0 [(31,bv (!(D6 s sMain sAlt sPast sTabs sAlt)))] ?_
  refine ie ?_
  refine zjb rfl hR ?_ ?_<;>clear hR<;>intro hR h6
  ·refine A4 (W7 (H3 [[bx sb (A6 s ⟨sMainq,sMain.length,sMaink⟩ ⟨sAltq,sAlt.length,sAltk⟩ ⟨sPastq,sPast.length,sPastk⟩ ⟨sTabsq,sTabs.length,sTabsk⟩) 114],[bx b1 [iv y0.1,iv y0.2.1,iv y0.2.2.1,iv y0.2.2.2.1,bv y0.2.2.2.2] 150]] [1,0] 2 rfl (by decide) rfl [[bx b1 [iv y0.1,iv y0.2.1,iv y0.2.2.1,iv y0.2.2.2.1,bv y0.2.2.2.2] 150],[bx sb (A6 s ⟨sMainq,sMain.length,sMaink⟩ ⟨sAltq,sAlt.length,sAltk⟩ ⟨sPastq,sPast.length,sPastk⟩ ⟨sTabsq,sTabs.length,sTabsk⟩) 114]] rfl (by first|rfl|simp)) ?_)
   exact A2q (!(D6 s sMain sAlt sPast sTabs sAlt)) hR (mk [true,true] rfl) A2.refl
  refine sd 13 rfl (by kernel_rfl) rfl ?_
  refine zdg 10 3 [0,0] [(52,iv s.cols),(57,.slice sPastq sPast.length sPastk)] ?_
  refine zcd (C0g s.cols sPast sPastq sPastrs sPastk hrowssPastrs (by first|omega|(simp only [List.length_take,List.length_drop,List.length_append,List.length_cons,List.length_nil,List.length_set,List.length_map];omega)|decide) (by first|omega|(simp only [List.length_take,List.length_drop,List.length_append,List.length_cons,List.length_nil,List.length_set,List.length_map];omega)|decide) _ rfl) (A2.pick [4,5,7,8] rfl) ?_
  refine dp' 2 0 [(31,bv (!decide ((Y3 s.cols sPast)=0)))] ?_
  refine de ?_
  refine zjn rfl hR ?_ ?_<;>clear hR<;>intro hR h7 h7p
  ·refine A4 (W7 (H3 [[bx sb (A6 s ⟨sMainq,sMain.length,sMaink⟩ ⟨sAltq,sAlt.length,sAltk⟩ ⟨sPastq,sPast.length,sPastk⟩ ⟨sTabsq,sTabs.length,sTabsk⟩) 114],[bx b1 [iv y0.1,iv y0.2.1,iv y0.2.2.1,iv y0.2.2.2.1,bv y0.2.2.2.2] 150]] [1,0] 2 rfl (by decide) rfl [[bx b1 [iv y0.1,iv y0.2.1,iv y0.2.2.1,iv y0.2.2.2.1,bv y0.2.2.2.2] 150],[bx sb (A6 s ⟨sMainq,sMain.length,sMaink⟩ ⟨sAltq,sAlt.length,sAltk⟩ ⟨sPastq,sPast.length,sPastk⟩ ⟨sTabsq,sTabs.length,sTabsk⟩) 114]] rfl (by first|rfl|simp)) ?_)
   exact A2q (!decide ((Y3 s.cols sPast)=0)) hR (mk [true,true] rfl) A2.refl
  refine B6n 13 rfl (by kernel_rfl) rfl ?_
  refine zdg 13 0 [0,0] [(31,bv (!decide ((sTabs.length:Int)=s.cols)))] ?_
  refine A9r (W7 (H3 [[bx sb (A6 s ⟨sMainq,sMain.length,sMaink⟩ ⟨sAltq,sAlt.length,sAltk⟩ ⟨sPastq,sPast.length,sPastk⟩ ⟨sTabsq,sTabs.length,sTabsk⟩) 114],[bx b1 [iv y0.1,iv y0.2.1,iv y0.2.2.1,iv y0.2.2.2.1,bv y0.2.2.2.2] 150]] [1,0] 2 rfl (by decide) rfl [[bx b1 [iv y0.1,iv y0.2.1,iv y0.2.2.1,iv y0.2.2.2.1,bv y0.2.2.2.2] 150],[bx sb (A6 s ⟨sMainq,sMain.length,sMaink⟩ ⟨sAltq,sAlt.length,sAltk⟩ ⟨sPastq,sPast.length,sPastk⟩ ⟨sTabsq,sTabs.length,sTabsk⟩) 114]] rfl (by first|rfl|simp)) ?_)
  exact A2q (!decide ((sTabs.length:Int)=s.cols)) hR (mk [true,true] rfl) A2.refl
 intro t31
 rintro hR
 replace hR:=(I0.eq_1 ..).symm.trans hR
 refine zjb rfl hR ?_ ?_<;>clear hR<;>intro hR h8
 ·refine sr 1 rfl (ip' 1 0 [(2,bv false)] ?_)
  subst hR
  refine ie (A7 ?_)
  exact zer hr hD (P3 rfl (B1 rfl)) () (mk [false,true] rfl) fn0
 refine B5u (fun (t72:Bool)=>(K3 s t72=R,[(0,pt sb 0),(72,bv t72)],[bx b1 [iv y0.1,iv y0.2.1,iv y0.2.2.1,iv y0.2.2.2.1,bv y0.2.2.2.2] 150,bx sb (A6 s ⟨sMainq,sMain.length,sMaink⟩ ⟨sAltq,sAlt.length,sAltk⟩ ⟨sPastq,sPast.length,sPastk⟩ ⟨sTabsq,sTabs.length,sTabsk⟩) 114],[sl B7 sMainq sMainrs,B8 B2 sMainrs sMain,sl B7 sAltq sAltrs,B8 B2 sAltrs sAlt,sl B7 sPastq sPastrs,B8 B2 sPastrs sPast,sl F4 sTabsq sTabs,A0z,A1a])) ?_ ?_
 ·refine sr 8 rfl (zrl 5 3 [1] [(77,ag (I8 s.style))] ?_)
  refine zca (A0l s.style _ rfl) fn0 ?_
  refine ip' 2 0 [(72,bv (!decide ((D9 s.style)=0)))] ?_
  refine ie ?_
  refine zjn rfl hR ?_ ?_<;>clear hR<;>intro hR h9 h9p
  ·refine A4 ?_
   exact A2q (!decide ((D9 s.style)=0)) hR (mk [true,true] rfl) A2.refl
  refine sr 8 rfl (zrl 5 3 [1] [(84,ag (A4x s.sets))] ?_)
  refine zca (A8r s.sets _ rfl) fn0 ?_
  refine ip' 2 0 [(72,bv (!decide ((K1 s.sets)=0)))] ?_
  refine ie ?_
  refine zjn rfl hR ?_ ?_<;>clear hR<;>intro hR h10 h10p
  ·refine A4 ?_
   exact A2q (!decide ((K1 s.sets)=0)) hR (mk [true,true] rfl) A2.refl
  refine A5 8 rfl (zrl 5 3 [1] [(91,ag (A2m s.modes))] ?_)
  refine zca (B3i s.modes _ rfl) fn0 ?_
  refine ip' 2 0 [(72,bv (!decide ((S3 s.modes)=0)))] ?_
  refine A1 ?_
  exact A2q (!decide ((S3 s.modes)=0)) hR (mk [true,true] rfl) A2.refl
 intro t72
 rintro hR
 replace hR:=(K3.eq_1 ..).symm.trans hR
 refine zjb rfl hR ?_ ?_<;>clear hR<;>intro hR h11
 ·refine sr 1 rfl (ip' 1 0 [(2,bv false)] ?_)
  subst hR
  refine ie (A7 ?_)
  exact zer hr hD (P3 rfl (B1 rfl)) () (mk [false,true] rfl) fn0
 refine A3 (sr 7 rfl (zrl 7 0 [1] [(94,bv (decide (s.shape<0)))] ?_))
 refine ie ?_
 refine zjd rfl hR ?_ ?_<;>clear hR<;>intro hR h12 h12p
 ·refine A4 (nx ?_)
  refine zjd rfl hR ?_ ?_<;>clear hR<;>intro hR h13 h13p
  ·refine sr 1 rfl (ip' 1 0 [(2,bv false)] ?_)
   subst hR
   refine ie (A7 ?_)
   exact zer hr hD (P3 rfl (B1 rfl)) () (mk [false,true] rfl) fn0
  refine A4 (nx (sr 16 rfl (zrl 7 9 [1] [(121,bv (decide (s.last=0)))] ?_)))
  refine zir 8 1 121 129 (decide ((0:Int)<(F2 s.last))) (fun g14 g14p=>?_) ?_
  ·refine zrl 5 3 [1] [(126,iv s.last)] ?_
   refine zca (A0c s.last _ rfl) (A2.pick [7,8] rfl) ?_
   refine ip' 2 0 [(129,bv (decide ((0:Int)<(F2 s.last))))] ?_
   exact zai 4 121 129 g14
  refine ip' 1 0 [(2,bv ((decide (s.last=0))||(decide ((0:Int)<(F2 s.last)))))] ?_
  subst hR
  refine ie (A7 ?_)
  exact zer hr hD (P3 rfl (B1 rfl)) () (mk [false,true] rfl) fn0
 refine sr 7 rfl (zrl 7 0 [1] [(94,bv (decide ((6:Int)<s.shape)))] ?_)
 refine ie ?_
 refine zjd rfl hR ?_ ?_<;>clear hR<;>intro hR h15 h15p
 ·refine A4 (nx ?_)
  refine zjd rfl hR ?_ ?_<;>clear hR<;>intro hR h16 h16p
  ·refine sr 1 rfl (ip' 1 0 [(2,bv false)] ?_)
   subst hR
   refine ie (A7 ?_)
   exact zer hr hD (P3 rfl (B1 rfl)) () (mk [false,true] rfl) fn0
  refine A4 (nx (sr 16 rfl (zrl 7 9 [1] [(121,bv (decide (s.last=0)))] ?_)))
  refine zir 8 1 121 129 (decide ((0:Int)<(F2 s.last))) (fun g17 g17p=>?_) ?_
  ·refine zrl 5 3 [1] [(126,iv s.last)] ?_
   refine zca (A0c s.last _ rfl) (A2.pick [7,8] rfl) ?_
   refine ip' 2 0 [(129,bv (decide ((0:Int)<(F2 s.last))))] ?_
   exact zai 4 121 129 g17
  refine ip' 1 0 [(2,bv ((decide (s.last=0))||(decide ((0:Int)<(F2 s.last)))))] ?_
  subst hR
  refine ie (A7 ?_)
  exact zer hr hD (P3 rfl (B1 rfl)) () (mk [false,true] rfl) fn0
 refine A5 9 rfl (zrl 6 3 [1] [(112,ag (H0 ({Act.zero with kind:=44,text:=s.title})))] ?_)
 refine zca (A5t 0 0 Col.zero s.title (by first|omega|(simp only [List.length_nil];omega)) _ rfl) fn0 ?_
 refine ip' 2 0 [(94,bv (!decide ((J7 0 0 Col.zero s.title)=0)))] ?_
 refine A1 (nx ?_)
 refine zjn rfl hR ?_ ?_<;>clear hR<;>intro hR h18 h18p
 ·refine sr 1 rfl (ip' 1 0 [(2,bv false)] ?_)
  subst hR
  refine ie (A7 ?_)
  exact zer hr hD (P3 rfl (B1 rfl)) () (mk [false,true] rfl) fn0
 refine A4 (nx (sr 16 rfl (zrl 7 9 [1] [(121,bv (decide (s.last=0)))] ?_)))
 refine zir 8 1 121 129 (decide ((0:Int)<(F2 s.last))) (fun g19 g19p=>?_) ?_
 ·refine zrl 5 3 [1] [(126,iv s.last)] ?_
  refine zca (A0c s.last _ rfl) (A2.pick [7,8] rfl) ?_
  refine ip' 2 0 [(129,bv (decide ((0:Int)<(F2 s.last))))] ?_
  exact zai 4 121 129 g19
 refine ip' 1 0 [(2,bv ((decide (s.last=0))||(decide ((0:Int)<(F2 s.last)))))] ?_
 subst hR
 refine ie (A7 ?_)
 exact zer hr hD (P3 rfl (B1 rfl)) () (mk [false,true] rfl) fn0
def P4 (s:ScrC) (sMain:List (Rwc Cel)) (sAlt:List (Rwc Cel)) (sPast:List (Rwc Cel)) (sTabs:List Bool):Int :=
 (bif (!(K2 s sMain sAlt sPast sTabs)) then 300 else 0)
theorem A4y {s:ScrC} {m a p:List (Rwc Cel)} {t:List Bool} (h:P4 s m a p t=0):m.length≤100∧a.length≤100:=by
 have hv:K2 s m a p t=true:=by
  unfold P4 at h
  cases hx:K2 s m a p t with
  | true=>rfl
  | false=>rw [hx] at h;cases h
 have hs:D6 s m a p t m=true∧D6 s m a p t a=true:=by
  unfold K2 J1 W1 F1 at hv
  revert hv
  cases D6 s m a p t m<;>cases D6 s m a p t a<;>simp [I0]
 have hg:∀ g:List (Rwc Cel),D6 s m a p t g=true→g.length≤100:=fun g hg=>by
  unfold D6 K6 at hg
  simp only [Bool.and_eq_true,decide_eq_true_eq] at hg
  have hg:=hg.1.1
  cases hb:((decide ((g.length:Int)<1))||(decide ((40:Int)<(g.length:Int)))) with
  | true=>rw [hb] at hg;cases hg
  | false=>simp only [Bool.or_eq_false_iff,decide_eq_false_iff_not] at hb;omega
 exact ⟨hg m hs.1,hg a hs.2⟩
theorem B6x (s:ScrC) (sMain:List (Rwc Cel)) (sAlt:List (Rwc Cel)) (sPast:List (Rwc Cel)) (sTabs:List Bool) (sMainq:Option Addr) (sMainrs:List Rwq) (sMaink:Nat) (sAltq:Option Addr) (sAltrs:List Rwq) (sAltk:Nat) (sPastq:Option Addr) (sPastrs:List Rwq) (sPastk:Nat) (sTabsq:Option Addr) (sTabsk:Nat) (hrowssMainrs:D0 sMainrs sMain) (hlsMain:sMain.length≤9223372036854775807) (hcsMain:sMain.length≤sMaink) (hrowssAltrs:D0 sAltrs sAlt) (hlsAlt:sAlt.length≤9223372036854775807) (hcsAlt:sAlt.length≤sAltk) (hrowssPastrs:D0 sPastrs sPast) (hlsPast:sPast.length≤9223372036854775807) (hcsPast:sPast.length≤sPastk) (hlsTabs:sTabs.length≤9223372036854775807) (hcsTabs:sTabs.length≤sTabsk) (hTs:s.title.length≤100000000) (R:Int) (hR:P4 s sMain sAlt sPast sTabs=R):I6 Tryz.prog 30 [ag (A6 s ⟨sMainq,sMain.length,sMaink⟩ ⟨sAltq,sAlt.length,sAltk⟩ ⟨sPastq,sPast.length,sPastk⟩ ⟨sTabsq,sTabs.length,sTabsk⟩)] [sl B7 sMainq sMainrs,B8 B2 sMainrs sMain,sl B7 sAltq sAltrs,B8 B2 sAltrs sAlt,sl B7 sPastq sPastrs,B8 B2 sPastrs sPast,sl F4 sTabsq sTabs,A0z,A1a] (iv R):=by
 refine zco Tryz.func30 [(0,ag (A6 s ⟨sMainq,sMain.length,sMaink⟩ ⟨sAltq,sAlt.length,sAltk⟩ ⟨sPastq,sPast.length,sPastk⟩ ⟨sTabsq,sTabs.length,sTabsk⟩))] fun X hX hr hD=>?_
 replace hR:=(P4.eq_1 ..).symm.trans hR
 have:=hrowssMainrs.1
 have:=hrowssAltrs.1
 have:=hrowssPastrs.1
 refine sr 2 rfl (I7 2 0 [] (fun b1=>[(1,pt b1 0)]) (fun b1=>[bx b1 (A6 s ⟨sMainq,sMain.length,sMaink⟩ ⟨sAltq,sAlt.length,sAltk⟩ ⟨sPastq,sPast.length,sPastk⟩ ⟨sTabsq,sTabs.length,sTabsk⟩) 52]) (fun b1=>?_))
 refine ie (A3 (sr 4 rfl (I7 4 0 [0] (fun b2=>[(3,pt b2 0)]) (fun b2=>[bx b2 (A6 s ⟨sMainq,sMain.length,sMaink⟩ ⟨sAltq,sAlt.length,sAltk⟩ ⟨sPastq,sPast.length,sPastk⟩ ⟨sTabsq,sTabs.length,sTabsk⟩) 114,bx b1 (A6 s ⟨sMainq,sMain.length,sMaink⟩ ⟨sAltq,sAlt.length,sAltk⟩ ⟨sPastq,sPast.length,sPastk⟩ ⟨sTabsq,sTabs.length,sTabsk⟩) 52]) (fun b2=>?_))))
 refine ie (sr 3 rfl (ip' 1 2 [(7,pt b2 0)] ?_))
 refine it rfl (H2 (L2:=[bx b1 (A6 s ⟨sMainq,sMain.length,sMaink⟩ ⟨sAltq,sAlt.length,sAltk⟩ ⟨sPastq,sPast.length,sPastk⟩ ⟨sTabsq,sTabs.length,sTabsk⟩) 52]) (A9m s sMain sAlt sPast sTabs b2 sMainq sMainrs sMaink sAltq sAltrs sAltk sPastq sPastrs sPastk sTabsq sTabsk hrowssMainrs (by first|omega|(simp only [List.length_take,List.length_drop,List.length_append,List.length_cons,List.length_nil,List.length_set,List.length_map];omega)|decide) (by first|omega|(simp only [List.length_take,List.length_drop,List.length_append,List.length_cons,List.length_nil,List.length_set,List.length_map];omega)|decide) hrowssAltrs (by first|omega|(simp only [List.length_take,List.length_drop,List.length_append,List.length_cons,List.length_nil,List.length_set,List.length_map];omega)|decide) (by first|omega|(simp only [List.length_take,List.length_drop,List.length_append,List.length_cons,List.length_nil,List.length_set,List.length_map];omega)|decide) hrowssPastrs (by first|omega|(simp only [List.length_take,List.length_drop,List.length_append,List.length_cons,List.length_nil,List.length_set,List.length_map];omega)|decide) (by first|omega|(simp only [List.length_take,List.length_drop,List.length_append,List.length_cons,List.length_nil,List.length_set,List.length_map];omega)|decide) (by first|omega|(simp only [List.length_take,List.length_drop,List.length_append,List.length_cons,List.length_nil,List.length_set,List.length_map];omega)|decide) (by first|omega|(simp only [List.length_take,List.length_drop,List.length_append,List.length_cons,List.length_nil,List.length_set,List.length_map];omega)|decide) (by first|omega|(simp only [List.length_nil];omega)|(dsimp only;omega)) _ rfl) rfl rfl rfl rfl rfl A2.refl (H3 [[bx b2 (A6 s ⟨sMainq,sMain.length,sMaink⟩ ⟨sAltq,sAlt.length,sAltk⟩ ⟨sPastq,sPast.length,sPastk⟩ ⟨sTabsq,sTabs.length,sTabsk⟩) 114],[bx b1 (A6 s ⟨sMainq,sMain.length,sMaink⟩ ⟨sAltq,sAlt.length,sAltk⟩ ⟨sPastq,sPast.length,sPastk⟩ ⟨sTabsq,sTabs.length,sTabsk⟩) 52]] [0,1] 2 rfl (by decide) rfl [[bx b2 (A6 s ⟨sMainq,sMain.length,sMaink⟩ ⟨sAltq,sAlt.length,sAltk⟩ ⟨sPastq,sPast.length,sPastk⟩ ⟨sTabsq,sTabs.length,sTabsk⟩) 114],[bx b1 (A6 s ⟨sMainq,sMain.length,sMaink⟩ ⟨sAltq,sAlt.length,sAltk⟩ ⟨sPastq,sPast.length,sPastk⟩ ⟨sTabsq,sTabs.length,sTabsk⟩) 52]] rfl (by first|rfl|simp only [List.flatten_cons,List.flatten_nil,List.append_nil,List.cons_append,List.nil_append,List.append_assoc])) (fun _=>[bx b2 (A6 s ⟨sMainq,sMain.length,sMaink⟩ ⟨sAltq,sAlt.length,sAltk⟩ ⟨sPastq,sPast.length,sPastk⟩ ⟨sTabsq,sTabs.length,sTabsk⟩) 114,bx b1 (A6 s ⟨sMainq,sMain.length,sMaink⟩ ⟨sAltq,sAlt.length,sAltk⟩ ⟨sPastq,sPast.length,sPastk⟩ ⟨sTabsq,sTabs.length,sTabsk⟩) 52]) (fun _=>rfl)) fun _=>?_
 refine ip' 1 0 [(9,bv (!(K2 s sMain sAlt sPast sTabs)))] ?_
 refine ie ?_
 refine zjb rfl hR ?_ ?_<;>clear hR<;>intro hR h3
 ·refine sr 1 rfl (ip' 1 0 [(2,iv 300)] ?_)
  subst hR
  refine ie (A7 ?_)
  exact D5 hr hD
 refine A4 (nx (sr 1 rfl (ip' 1 0 [(2,iv 0)] ?_)))
 subst hR
 refine ie (A7 ?_)
 exact D5 hr hD
end Go.Proofs.YthcjfkljekdioaaGreatDoor
set_option linter.unusedVariables false
set_option linter.unusedSimpArgs false
set_option linter.unnecessarySimpa false
set_option maxRecDepth 100000
namespace Go.Proofs.YthcjfkljekdioaaGreatDoor
open Go Go.Fen
def D3 (s:ScrC) (sMain:List (Rwc Cel)) (sAlt:List (Rwc Cel)) (sPast:List (Rwc Cel)) (sTabs:List Bool):Unit :=
 ()
theorem B7q (s:ScrC) (sMain:List (Rwc Cel)) (sAlt:List (Rwc Cel)) (sPast:List (Rwc Cel)) (sTabs:List Bool) (sMainq:Option Addr) (sMainrs:List Rwq) (sMaink:Nat) (sAltq:Option Addr) (sAltrs:List Rwq) (sAltk:Nat) (sPastq:Option Addr) (sPastrs:List Rwq) (sPastk:Nat) (sTabsq:Option Addr) (sTabsk:Nat) (hrowssMainrs:D0 sMainrs sMain) (hlsMain:sMain.length≤9223372036854775807) (hcsMain:sMain.length≤sMaink) (hrowssAltrs:D0 sAltrs sAlt) (hlsAlt:sAlt.length≤9223372036854775807) (hcsAlt:sAlt.length≤sAltk) (hrowssPastrs:D0 sPastrs sPast) (hlsPast:sPast.length≤9223372036854775807) (hcsPast:sPast.length≤sPastk) (hlsTabs:sTabs.length≤9223372036854775807) (hcsTabs:sTabs.length≤sTabsk) (R:Unit) (hR:D3 s sMain sAlt sPast sTabs=R):Con Tryz.prog 78 [ag (A6 s ⟨sMainq,sMain.length,sMaink⟩ ⟨sAltq,sAlt.length,sAltk⟩ ⟨sPastq,sPast.length,sPastk⟩ ⟨sTabsq,sTabs.length,sTabsk⟩)] [] [sl B7 sMainq sMainrs,B8 B2 sMainrs sMain,sl B7 sAltq sAltrs,B8 B2 sAltrs sAlt,sl B7 sPastq sPastrs,B8 B2 sPastrs sPast,sl F4 sTabsq sTabs] (Nat) (fun x=>.func (.func 133) #[] #[pt x 0]) (fun x=>[bx x (A6 s ⟨sMainq,sMain.length,sMaink⟩ ⟨sAltq,sAlt.length,sAltk⟩ ⟨sPastq,sPast.length,sPastk⟩ ⟨sTabsq,sTabs.length,sTabsk⟩) 52]) (fun x=>[]):=by
 refine zco Tryz.func78 [(0,ag (A6 s ⟨sMainq,sMain.length,sMaink⟩ ⟨sAltq,sAlt.length,sAltk⟩ ⟨sPastq,sPast.length,sPastk⟩ ⟨sTabsq,sTabs.length,sTabsk⟩))] fun X hX hr hD=>?_
 replace hR:=(D3.eq_1 ..).symm.trans hR
 have:=hrowssMainrs.1
 have:=hrowssAltrs.1
 have:=hrowssPastrs.1
 refine sr 2 rfl (I7 2 0 [] (fun b1=>[(1,pt b1 0)]) (fun b1=>[bx b1 (A6 s ⟨sMainq,sMain.length,sMaink⟩ ⟨sAltq,sAlt.length,sAltk⟩ ⟨sPastq,sPast.length,sPastk⟩ ⟨sTabsq,sTabs.length,sTabsk⟩) 52]) (fun b1=>?_))
 refine ie (sr 2 rfl (ip' 2 0 [(2,.func (.func 133) #[] #[pt b1 0])] ?_))
 subst hR
 refine ie (A7 ?_)
 exact zer hr hD (P3 rfl (B1 rfl)) b1 (mk [true] rfl) fn0
def N4:List (Rwc Cel)→Nat→List (List Cel)
 | [],t14=>[]
 | hd_l0::tl_l0,t14=>(((hd_l0.l).take (hd_l0.l.length))::N4 tl_l0 (t14+1))
def V6 (l1:List (Rwc Cel)):List (List Cel) :=
 N4 l1 0
def Y5 (c0:ScrC) (c0Main:List (Rwc Cel)) (c0Alt:List (Rwc Cel)) (c0Past:List (Rwc Cel)) (c0Tabs:List Bool):List (List Cel) :=
 (bif c0.onAlt then V6 c0Alt else V6 c0Main)
theorem A4s:∀ (l:List (Rwc Cel)) (t:Nat),(N4 l t).length=l.length
 | [],t=>rfl
 | a::l,t=>by simp only [N4,List.length_cons,A4s l (t+1)]
theorem A4e (l:List (Rwc Cel)):(V6 l).length=l.length:=A4s l 0
theorem B5c (c0:ScrC) (c0Main:List (Rwc Cel)) (c0Alt:List (Rwc Cel)) (c0Past:List (Rwc Cel)) (c0Tabs:List Bool) (c0b:Nat) (c0Mainq:Option Addr) (c0Mainrs:List Rwq) (c0Maink:Nat) (c0Altq:Option Addr) (c0Altrs:List Rwq) (c0Altk:Nat) (c0Pastq:Option Addr) (c0Pastrs:List Rwq) (c0Pastk:Nat) (c0Tabsq:Option Addr) (c0Tabsk:Nat) (hrowsc0Mainrs:D0 c0Mainrs c0Main) (hlc0Main:c0Main.length≤9223372036854775807) (hcc0Main:c0Main.length≤c0Maink) (hrowsc0Altrs:D0 c0Altrs c0Alt) (hlc0Alt:c0Alt.length≤9223372036854775807) (hcc0Alt:c0Alt.length≤c0Altk) (hrowsc0Pastrs:D0 c0Pastrs c0Past) (hlc0Past:c0Past.length≤9223372036854775807) (hcc0Past:c0Past.length≤c0Pastk) (hlc0Tabs:c0Tabs.length≤9223372036854775807) (hcc0Tabs:c0Tabs.length≤c0Tabsk) (R:List (List Cel)) (hR:Y5 c0 c0Main c0Alt c0Past c0Tabs=R):B2i Tryz.prog 133 [pt c0b 0] [bx c0b (A6 c0 ⟨c0Mainq,c0Main.length,c0Maink⟩ ⟨c0Altq,c0Alt.length,c0Altk⟩ ⟨c0Pastq,c0Past.length,c0Pastk⟩ ⟨c0Tabsq,c0Tabs.length,c0Tabsk⟩) 52] [sl B7 c0Mainq c0Mainrs,B8 B2 c0Mainrs c0Main,sl B7 c0Altq c0Altrs,B8 B2 c0Altrs c0Alt,sl B7 c0Pastq c0Pastrs,B8 B2 c0Pastrs c0Past,sl F4 c0Tabsq c0Tabs] B2 R:=by
 refine B6f [bx c0b (A6 c0 ⟨c0Mainq,c0Main.length,c0Maink⟩ ⟨c0Altq,c0Alt.length,c0Altk⟩ ⟨c0Pastq,c0Past.length,c0Pastk⟩ ⟨c0Tabsq,c0Tabs.length,c0Tabsk⟩) 52] (n:=31) Tryz.func133 rfl (by kernel_rfl) rfl rfl (fun l=>[(0,.func (.yield l) #[] #[]),(1,pt c0b 0)]) (fun l=>⟨rfl,rfl,trivial⟩) fun X l I Ix L Φ hX hr hD hI0 hY=>?_
 replace hR:=(Y5.eq_1 ..).symm.trans hR
 have:=hrowsc0Mainrs.1
 have:=hrowsc0Altrs.1
 have:=hrowsc0Pastrs.1
 refine sr 3 rfl (zrl 3 0 [0] [(3,.slice c0Mainq c0Main.length c0Maink)] ?_)
 refine ie (D5t (fun (l1:List (Rwc Cel)) (lq:Option Addr) (lrs:List Rwq) (lk:Nat) (R_:List (List Cel)) (Lt:Fen.Own) (Ft:List Pers)=>(V6 l1=R_∧l1.length≤lk∧l1.length≤9223372036854775807∧D0 lrs l1∧I R_ Lt Ft,[(0,.func (.yield l) #[] #[]),(3,.slice lq l1.length lk)],(bx c0b (A6 c0 ⟨c0Mainq,c0Main.length,c0Maink⟩ ⟨c0Altq,c0Alt.length,c0Altk⟩ ⟨c0Pastq,c0Past.length,c0Pastk⟩ ⟨c0Tabsq,c0Tabs.length,c0Tabsk⟩) 52::Lt++([])),(sl B7 c0Mainq c0Mainrs::B8 B2 c0Mainrs c0Main::sl B7 c0Altq c0Altrs::B8 B2 c0Altrs c0Alt::sl B7 c0Pastq c0Pastrs::B8 B2 c0Pastrs c0Past::sl F4 c0Tabsq c0Tabs::sl B7 lq lrs::B8 B2 lrs l1::Ft))) ?_ ?_)
 ·refine sr 2 rfl (zrl 2 0 [0] [(9,bv c0.onAlt)] ?_)
  refine ie ?_
  refine zjb rfl hR ?_ ?_<;>clear hR<;>intro hR h1
  ·refine A5 3 rfl (zrl 3 0 [0] [(3,.slice c0Altq c0Alt.length c0Altk)] ?_)
   refine A1 ?_
   exact D1h c0Alt c0Altq c0Altrs c0Altk R L Φ ⟨hR,(by first|omega|(simp only [List.length_take,List.length_drop,List.length_append,List.length_cons,List.length_nil,List.length_set,List.length_map,D3];omega)|decide),(by first|omega|(simp only [List.length_take,List.length_drop,List.length_append,List.length_cons,List.length_nil,List.length_set,List.length_map,D3];omega)|decide),hrowsc0Altrs,hI0⟩ (mc [[bx c0b (A6 c0 ⟨c0Mainq,c0Main.length,c0Maink⟩ ⟨c0Altq,c0Alt.length,c0Altk⟩ ⟨c0Pastq,c0Past.length,c0Pastk⟩ ⟨c0Tabsq,c0Tabs.length,c0Tabsk⟩) 52],L] [true,true] rfl (by first|rfl|(simp only [List.length_set]<;>rfl))) (A2.con1 (B5 0 rfl) (A2.con1 (B5 1 rfl) (A2.con1 (B5 2 rfl) (A2.con1 (B5 3 rfl) (A2.con1 (B5 4 rfl) (A2.con1 (B5 5 rfl) (A2.con1 (B5 6 rfl) (A2.con1 (B5 2 rfl) (A2.con1 (B5 3 rfl) (A2.dropT 7 rfl))))))))))
  refine A4 ?_
  exact D1h c0Main c0Mainq c0Mainrs c0Maink R L Φ ⟨hR,(by first|omega|(simp only [List.length_take,List.length_drop,List.length_append,List.length_cons,List.length_nil,List.length_set,List.length_map,D3];omega)|decide),(by first|omega|(simp only [List.length_take,List.length_drop,List.length_append,List.length_cons,List.length_nil,List.length_set,List.length_map,D3];omega)|decide),hrowsc0Mainrs,hI0⟩ (mc [[bx c0b (A6 c0 ⟨c0Mainq,c0Main.length,c0Maink⟩ ⟨c0Altq,c0Alt.length,c0Altk⟩ ⟨c0Pastq,c0Past.length,c0Pastk⟩ ⟨c0Tabsq,c0Tabs.length,c0Tabsk⟩) 52],L] [true,true] rfl (by first|rfl|(simp only [List.length_set]<;>rfl))) (A2.con1 (B5 0 rfl) (A2.con1 (B5 1 rfl) (A2.con1 (B5 2 rfl) (A2.con1 (B5 3 rfl) (A2.con1 (B5 4 rfl) (A2.con1 (B5 5 rfl) (A2.con1 (B5 6 rfl) (A2.con1 (B5 0 rfl) (A2.con1 (B5 1 rfl) (A2.dropT 7 rfl))))))))))
 intro l1 lq lrs lk R_ Lt Ft
 rintro ⟨hR,hcl1,hll1,hrowslrs,hILt⟩
 replace hR:=(V6.eq_1 ..).symm.trans hR
 refine sr 3 rfl (ip' 3 0 [(12,.slice lq l1.length lk),(13,iv (l1.length:Int)),(14,iv 0)] ?_)
 refine ie (B0 ?_)
 refine B2k (fun (t14:Nat) (R_1:List (List Cel)) (Lt1:Fen.Own) (Ft1:List Pers)=>(t14≤l1.length∧N4 (l1.drop t14) t14=R_1∧I R_1 Lt1 Ft1,[(0,.func (.yield l) #[] #[]),(12,.slice lq l1.length lk),(13,iv (l1.length:Int)),(14,iv (t14:Int))],(bx c0b (A6 c0 ⟨c0Mainq,c0Main.length,c0Maink⟩ ⟨c0Altq,c0Alt.length,c0Altk⟩ ⟨c0Pastq,c0Past.length,c0Pastk⟩ ⟨c0Tabsq,c0Tabs.length,c0Tabsk⟩) 52::Lt1++([])),(sl B7 c0Mainq c0Mainrs::B8 B2 c0Mainrs c0Main::sl B7 c0Altq c0Altrs::B8 B2 c0Altrs c0Alt::sl B7 c0Pastq c0Pastrs::B8 B2 c0Pastrs c0Past::sl F4 c0Tabsq c0Tabs::sl B7 lq lrs::B8 B2 lrs l1::Ft1),l1.length - t14)) 0 R_ Lt Ft ⟨(by omega),hR,hILt⟩ (mc [[bx c0b (A6 c0 ⟨c0Mainq,c0Main.length,c0Maink⟩ ⟨c0Altq,c0Alt.length,c0Altk⟩ ⟨c0Pastq,c0Past.length,c0Pastk⟩ ⟨c0Tabsq,c0Tabs.length,c0Tabsk⟩) 52],Lt] [true,true] rfl (by first|rfl|(simp only [List.length_set]<;>rfl))) (A2.con1 (B5 0 rfl) (A2.con1 (B5 1 rfl) (A2.con1 (B5 2 rfl) (A2.con1 (B5 3 rfl) (A2.con1 (B5 4 rfl) (A2.con1 (B5 5 rfl) (A2.con1 (B5 6 rfl) (A2.con1 (B5 7 rfl) (A2.con1 (B5 8 rfl) (A2.dropT 9 rfl)))))))))) ?_
 rintro t14 R_1 Lt1 Ft1 ⟨hm2,hR,hILt1⟩
 refine sr 1 rfl (ip' 1 0 [(15,bv (decide ((t14:Int)<(l1.length:Int))))] ?_)
 refine ie (A3 (S2 rfl (fun h3=>?_) (fun h3=>?_)))
 ·have h3p:(t14:Int)<(l1.length:Int):=by simpa using h3
  rw [U1 zwc (show t14<l1.length by omega)] at hR;replace hR:=(N4.eq_2 ..).symm.trans hR
  refine A4 (nx (A3 (B0 (sr 4 rfl (J3 7 rfl (by have:=hrowslrs.1;omega) fun a4 hq5=>?_)))))
  refine H6 (B3x (k:=t14) hrowslrs 8 rfl (by have:=hrowslrs.1;omega)) ?_
  have:=A7w hrowslrs (k:=t14) (by have:=hrowslrs.1;omega)
  refine ix rfl (E8 A5a rfl rfl hq5 rfl t14 rfl (by omega)) ?_
  refine ix rfl (F9 (L4 (us:=[.slice ((lrs.getD t14 zwq).s.q) ((lrs.getD t14 zwq).s.n) ((lrs.getD t14 zwq).s.k),bv ((lrs.getD t14 zwq).b)]) B8a rfl rfl (G0 (c:=B7) (sz:=2) hq5 (fun _=>rfl) 8 rfl (gd zwq (by have:=hrowslrs.1;omega))) rfl) (B9h hrowslrs (by have:=hrowslrs.1;omega))) ?_
  refine I7 2 0 [0] (fun b6=>[(5,pt b6 0)]) (fun b6=>(bx b6 [.slice ((lrs.getD t14 zwq).s.q) ((l1.getD t14 zwc).l.length) ((lrs.getD t14 zwq).s.k),bv ((l1.getD t14 zwc).b)] 78::bx c0b (A6 c0 ⟨c0Mainq,c0Main.length,c0Maink⟩ ⟨c0Altq,c0Alt.length,c0Altk⟩ ⟨c0Pastq,c0Past.length,c0Pastk⟩ ⟨c0Tabsq,c0Tabs.length,c0Tabsk⟩) 52::Lt1++([]))) (fun b6=>?_)
  refine ie (sr 12 rfl (zrl 9 3 [0,0,0] [(18,.func (.yield l) #[] #[]),(20,.slice ((lrs.getD t14 zwq).s.q) ((l1.getD t14 zwc).l.length) ((lrs.getD t14 zwq).s.k)),(23,iv ((l1.getD t14 zwc).l.length:Int)),(26,iv ((l1.getD t14 zwc).l.length:Int))] ?_))
  refine H6 (C0u (B5 0 rfl) ((l1.getD t14 zwc).l.length)) ?_
  refine ix rfl (A7j (n':=(((l1.getD t14 zwc).l).take ((l1.getD t14 zwc).l.length)).length) S9 rfl rfl ((l1.getD t14 zwc).l.length) ((l1.getD t14 zwc).l.length) (U6 rfl rfl) (U6 rfl rfl) (by omega) (by omega) (by first|rfl|omega|(simp only [List.length_take,List.length_drop];omega)|(simp;done)) rfl) ?_
  have:=@List.length_take _ ((l1.getD t14 zwc).l.length) ((l1.getD t14 zwc).l)
  have hq12:=C6i hR;clear hR;obtain ⟨R7,hR,hq12⟩:=hq12;rw [hq12] at hILt1
  refine it rfl (B0l (L2:=[bx b6 [.slice ((lrs.getD t14 zwq).s.q) ((l1.getD t14 zwc).l.length) ((lrs.getD t14 zwq).s.k),bv ((l1.getD t14 zwc).b)] 78,bx c0b (A6 c0 ⟨c0Mainq,c0Main.length,c0Maink⟩ ⟨c0Altq,c0Alt.length,c0Altk⟩ ⟨c0Pastq,c0Past.length,c0Pastk⟩ ⟨c0Tabsq,c0Tabs.length,c0Tabsk⟩) 52]) (hY (((l1.getD t14 zwc).l).take ((l1.getD t14 zwc).l.length)) R7 _ _ ((lrs.getD t14 zwq).s.q) ((l1.getD t14 zwc).l.length) (by first|omega|(simp only [List.length_take,List.length_drop,List.length_append,List.length_cons,List.length_nil,List.length_set,List.length_map,D3];omega)|decide) (by first|omega|(simp only [List.length_take,List.length_drop,List.length_append,List.length_cons,List.length_nil,List.length_set,List.length_map,D3];omega)|decide) hILt1) rfl rfl rfl rfl (A2.con1 (B5 0 rfl) (A2.dropT 11 rfl)) (H3 [[bx b6 [.slice ((lrs.getD t14 zwq).s.q) ((l1.getD t14 zwc).l.length) ((lrs.getD t14 zwq).s.k),bv ((l1.getD t14 zwc).b)] 78],[bx c0b (A6 c0 ⟨c0Mainq,c0Main.length,c0Maink⟩ ⟨c0Altq,c0Alt.length,c0Altk⟩ ⟨c0Pastq,c0Past.length,c0Pastk⟩ ⟨c0Tabsq,c0Tabs.length,c0Tabsk⟩) 52],Lt1] [2,0,1] 3 rfl (by decide) rfl [Lt1,[bx b6 [.slice ((lrs.getD t14 zwq).s.q) ((l1.getD t14 zwc).l.length) ((lrs.getD t14 zwq).s.k),bv ((l1.getD t14 zwc).b)] 78],[bx c0b (A6 c0 ⟨c0Mainq,c0Main.length,c0Maink⟩ ⟨c0Altq,c0Alt.length,c0Altk⟩ ⟨c0Pastq,c0Past.length,c0Pastk⟩ ⟨c0Tabsq,c0Tabs.length,c0Tabsk⟩) 52]] rfl (by simp only [List.flatten_cons,List.flatten_nil,List.append_nil,List.cons_append,List.nil_append,List.append_assoc]))) fun ⟨⟨y8,L9,Φ10⟩,hy11⟩=>?_
  refine B5s (A2.yield [sl B2 ((lrs.getD t14 zwq).s.q) (((l1.getD t14 zwc).l).take ((l1.getD t14 zwc).l.length)),sl B2 ((lrs.getD t14 zwq).s.q) ((l1.getD t14 zwc).l),sl B7 c0Mainq c0Mainrs,B8 B2 c0Mainrs c0Main,sl B7 c0Altq c0Altrs,B8 B2 c0Altrs c0Alt,sl B7 c0Pastq c0Pastrs,B8 B2 c0Pastrs c0Past,sl F4 c0Tabsq c0Tabs,sl B7 lq lrs,B8 B2 lrs l1]) ?_
  refine ip' 1 0 [(29,bv (!y8))] ?_
  refine ie (S2 rfl (fun h13=>?_) (fun h13=>?_))
  ·have h13b:y8=false:=by simpa using h13
   rw [h13b] at hy11;try simp only [if_true,if_false,Bool.false_eq_true] at hy11
   refine A7 ?_
   exact B4f rfl ⟨hr,hD⟩ (by simp [hD]) (B0s rfl) (L':=L9) (Φ':=Φ10) (by exact .inr hy11) (mcT [L9,[bx b6 [.slice ((lrs.getD t14 zwq).s.q) ((l1.getD t14 zwc).l.length) ((lrs.getD t14 zwq).s.k),bv ((l1.getD t14 zwc).b)] 78],[bx c0b (A6 c0 ⟨c0Mainq,c0Main.length,c0Maink⟩ ⟨c0Altq,c0Alt.length,c0Altk⟩ ⟨c0Pastq,c0Past.length,c0Pastk⟩ ⟨c0Tabsq,c0Tabs.length,c0Tabsk⟩) 52]] 0 rfl rfl) (A2.dropT 11 rfl)
  ·have h13b:y8=true:=by simpa using h13
   rw [h13b] at hy11;try simp only [if_true,if_false,Bool.false_eq_true] at hy11
   refine A4 (nx (A5 2 rfl (ix rfl (B4 rfl rfl rfl rfl (by omega)) ?_)))
   refine ip' 1 0 [(14,iv ((t14:Int)+1))] ?_
   refine A1 (W7 (H3 [L9,[bx b6 [.slice ((lrs.getD t14 zwq).s.q) ((l1.getD t14 zwc).l.length) ((lrs.getD t14 zwq).s.k),bv ((l1.getD t14 zwc).b)] 78],[bx c0b (A6 c0 ⟨c0Mainq,c0Main.length,c0Maink⟩ ⟨c0Altq,c0Alt.length,c0Altk⟩ ⟨c0Pastq,c0Past.length,c0Pastk⟩ ⟨c0Tabsq,c0Tabs.length,c0Tabsk⟩) 52]] [2,0,1] 3 rfl (by decide) rfl [[bx c0b (A6 c0 ⟨c0Mainq,c0Main.length,c0Maink⟩ ⟨c0Altq,c0Alt.length,c0Altk⟩ ⟨c0Pastq,c0Past.length,c0Pastk⟩ ⟨c0Tabsq,c0Tabs.length,c0Tabsk⟩) 52],L9,[bx b6 [.slice ((lrs.getD t14 zwq).s.q) ((l1.getD t14 zwc).l.length) ((lrs.getD t14 zwq).s.k),bv ((l1.getD t14 zwc).b)] 78]] rfl (by first|rfl|simp)) ?_)
   exact B1k (z1:=t14) (z2:=R_1) (z3:=Lt1) (z4:=Ft1) (t14+1) R7 L9 Φ10 ⟨(by omega),hR,hy11⟩ (by (try dsimp only);omega) (mc [[bx c0b (A6 c0 ⟨c0Mainq,c0Main.length,c0Maink⟩ ⟨c0Altq,c0Alt.length,c0Altk⟩ ⟨c0Pastq,c0Past.length,c0Pastk⟩ ⟨c0Tabsq,c0Tabs.length,c0Tabsk⟩) 52],L9,[bx b6 [.slice ((lrs.getD t14 zwq).s.q) ((l1.getD t14 zwc).l.length) ((lrs.getD t14 zwq).s.k),bv ((l1.getD t14 zwc).b)] 78]] [true,true,false] rfl (by first|rfl|(simp only [List.length_set]<;>rfl))) (A2.con1 (B5 2 rfl) (A2.con1 (B5 3 rfl) (A2.con1 (B5 4 rfl) (A2.con1 (B5 5 rfl) (A2.con1 (B5 6 rfl) (A2.con1 (B5 7 rfl) (A2.con1 (B5 8 rfl) (A2.con1 (B5 9 rfl) (A2.con1 (B5 10 rfl) (A2.dropT 11 rfl))))))))))
 have h3p:¬ ((t14:Int)<(l1.length:Int)):=by simpa using h3
 rw [U2 h3p] at hR;replace hR:=(N4.eq_1 ..).symm.trans hR
 subst hR
 refine G2 ?_
 exact A5h rfl ⟨hr,hD⟩ (by simp [hD]) (B0s rfl) (L':=Lt1) (Φ':=Ft1) (by exact .inl hILt1) (mcT [[bx c0b (A6 c0 ⟨c0Mainq,c0Main.length,c0Maink⟩ ⟨c0Altq,c0Alt.length,c0Altk⟩ ⟨c0Pastq,c0Past.length,c0Pastk⟩ ⟨c0Tabsq,c0Tabs.length,c0Tabsk⟩) 52],Lt1] 1 rfl rfl) (A2.dropT 9 rfl)
def P6 (s:ScrC):List (List Cel)→List (List Cel)→(FrmC×List (List Cel))
 | [],fR=>((⟨s.cols,(⟨s.cursor.row,s.cursor.col⟩:Plc),s.modes.visible,s.shape,s.title⟩:FrmC),fR)
 | el::rest,fR=>P6 s rest (fR++([el]:List (List Cel)))
def A4l (s:ScrC) (sMain:List (Rwc Cel)) (sAlt:List (Rwc Cel)) (sPast:List (Rwc Cel)) (sTabs:List Bool):FrmC×List (List Cel) :=
 P6 s (Y5 s sMain sAlt sPast sTabs) ([]:List (List Cel))
theorem B8k (s:ScrC) (sMain:List (Rwc Cel)) (sAlt:List (Rwc Cel)) (sPast:List (Rwc Cel)) (sTabs:List Bool) (sMainq:Option Addr) (sMainrs:List Rwq) (sMaink:Nat) (sAltq:Option Addr) (sAltrs:List Rwq) (sAltk:Nat) (sPastq:Option Addr) (sPastrs:List Rwq) (sPastk:Nat) (sTabsq:Option Addr) (sTabsk:Nat) (hrowssMainrs:D0 sMainrs sMain) (hlsMain:sMain.length≤9223372036854775807) (hcsMain:sMain.length≤sMaink) (hrowssAltrs:D0 sAltrs sAlt) (hlsAlt:sAlt.length≤9223372036854775807) (hcsAlt:sAlt.length≤sAltk) (hrowssPastrs:D0 sPastrs sPast) (hlsPast:sPast.length≤9223372036854775807) (hcsPast:sPast.length≤sPastk) (hlsTabs:sTabs.length≤9223372036854775807) (hcsTabs:sTabs.length≤sTabsk) (hM:sMain.length≤100) (hA:sAlt.length≤100) (R:FrmC×List (List Cel)) (hR:A4l s sMain sAlt sPast sTabs=R):Con Tryz.prog 40 [ag (A6 s ⟨sMainq,sMain.length,sMaink⟩ ⟨sAltq,sAlt.length,sAltk⟩ ⟨sPastq,sPast.length,sPastk⟩ ⟨sTabsq,sTabs.length,sTabsk⟩)] [] [sl B7 sMainq sMainrs,B8 B2 sMainrs sMain,sl B7 sAltq sAltrs,B8 B2 sAltrs sAlt,sl B7 sPastq sPastrs,B8 B2 sPastrs sPast,sl F4 sTabsq sTabs] ({t:VR×List Slc // VOk 1 R.2.length t.1∧C7 t.2 R.2}) (fun x=>ag (A0 R.1 ⟨va x.1.1.q,R.2.length,x.1.1.k⟩)) (fun x=>((vo C4 69 x.1.1 x.1.2)++([]))) (fun x=>[G5 B2 x.1.2 R.2]):=by
 refine zco Tryz.func40 [(0,ag (A6 s ⟨sMainq,sMain.length,sMaink⟩ ⟨sAltq,sAlt.length,sAltk⟩ ⟨sPastq,sPast.length,sPastk⟩ ⟨sTabsq,sTabs.length,sTabsk⟩))] fun X hX hr hD=>?_
 replace hR:=(A4l.eq_1 ..).symm.trans hR
 have:=hrowssMainrs.1
 have:=hrowssAltrs.1
 have:=hrowssPastrs.1
 refine sr 2 rfl (A8y 2 0 [] (fun b1 b2=>[(1,pt b1 0),(2,pt b2 0)]) (fun b1 b2=>[bx b2 (A0 FrmC.zero ⟨none,0,0⟩) 26,bx b1 (A6 s ⟨sMainq,sMain.length,sMaink⟩ ⟨sAltq,sAlt.length,sAltk⟩ ⟨sPastq,sPast.length,sPastk⟩ ⟨sTabsq,sTabs.length,sTabsk⟩) 52]) (fun b1 b2=>?_))
 refine ie (sr 19 rfl (I7 19 0 [1,1,1,1,1,1,0] (fun b3=>[(3,pt b3 0)]) (fun b3=>[bx b3 (A0 (⟨s.cols,(⟨s.cursor.row,s.cursor.col⟩:Plc),s.modes.visible,s.shape,s.title⟩:FrmC) ⟨none,0,0⟩) 26,bx b2 (A0 FrmC.zero ⟨none,0,0⟩) 26,bx b1 (A6 s ⟨sMainq,sMain.length,sMaink⟩ ⟨sAltq,sAlt.length,sAltk⟩ ⟨sPastq,sPast.length,sPastk⟩ ⟨sTabsq,sTabs.length,sTabsk⟩) 52]) (fun b3=>?_)))
 refine ie (A3 (sr 2 rfl (zrl 1 1 [2] [(22,ag (A6 s ⟨sMainq,sMain.length,sMaink⟩ ⟨sAltq,sAlt.length,sAltk⟩ ⟨sPastq,sPast.length,sPastk⟩ ⟨sTabsq,sTabs.length,sTabsk⟩))] ?_)))
 refine it rfl (H2 (L2:=[bx b3 (A0 (⟨s.cols,(⟨s.cursor.row,s.cursor.col⟩:Plc),s.modes.visible,s.shape,s.title⟩:FrmC) ⟨none,0,0⟩) 26,bx b2 (A0 FrmC.zero ⟨none,0,0⟩) 26,bx b1 (A6 s ⟨sMainq,sMain.length,sMaink⟩ ⟨sAltq,sAlt.length,sAltk⟩ ⟨sPastq,sPast.length,sPastk⟩ ⟨sTabsq,sTabs.length,sTabsk⟩) 52]) (B7q s sMain sAlt sPast sTabs sMainq sMainrs sMaink sAltq sAltrs sAltk sPastq sPastrs sPastk sTabsq sTabsk hrowssMainrs (by first|omega|(simp only [List.length_take,List.length_drop,List.length_append,List.length_cons,List.length_nil,List.length_set,List.length_map,D3];omega)|decide) (by first|omega|(simp only [List.length_take,List.length_drop,List.length_append,List.length_cons,List.length_nil,List.length_set,List.length_map,D3];omega)|decide) hrowssAltrs (by first|omega|(simp only [List.length_take,List.length_drop,List.length_append,List.length_cons,List.length_nil,List.length_set,List.length_map,D3];omega)|decide) (by first|omega|(simp only [List.length_take,List.length_drop,List.length_append,List.length_cons,List.length_nil,List.length_set,List.length_map,D3];omega)|decide) hrowssPastrs (by first|omega|(simp only [List.length_take,List.length_drop,List.length_append,List.length_cons,List.length_nil,List.length_set,List.length_map,D3];omega)|decide) (by first|omega|(simp only [List.length_take,List.length_drop,List.length_append,List.length_cons,List.length_nil,List.length_set,List.length_map,D3];omega)|decide) (by first|omega|(simp only [List.length_take,List.length_drop,List.length_append,List.length_cons,List.length_nil,List.length_set,List.length_map,D3];omega)|decide) (by first|omega|(simp only [List.length_take,List.length_drop,List.length_append,List.length_cons,List.length_nil,List.length_set,List.length_map,D3];omega)|decide) _ rfl) rfl rfl rfl rfl rfl A2.refl (List.Perm.refl _) (fun b4=>[bx b4 (A6 s ⟨sMainq,sMain.length,sMaink⟩ ⟨sAltq,sAlt.length,sAltk⟩ ⟨sPastq,sPast.length,sPastk⟩ ⟨sTabsq,sTabs.length,sTabsk⟩) 52,bx b3 (A0 (⟨s.cols,(⟨s.cursor.row,s.cursor.col⟩:Plc),s.modes.visible,s.shape,s.title⟩:FrmC) ⟨none,0,0⟩) 26,bx b2 (A0 FrmC.zero ⟨none,0,0⟩) 26,bx b1 (A6 s ⟨sMainq,sMain.length,sMaink⟩ ⟨sAltq,sAlt.length,sAltk⟩ ⟨sPastq,sPast.length,sPastk⟩ ⟨sTabsq,sTabs.length,sTabsk⟩) 52]) (fun _=>rfl)) fun b4=>?_
 refine ie (B0 (W7 (H3 [vo C4 69 VR.nil ([]:List Slc),[bx b4 (A6 s ⟨sMainq,sMain.length,sMaink⟩ ⟨sAltq,sAlt.length,sAltk⟩ ⟨sPastq,sPast.length,sPastk⟩ ⟨sTabsq,sTabs.length,sTabsk⟩) 52],[bx b3 (A0 (⟨s.cols,(⟨s.cursor.row,s.cursor.col⟩:Plc),s.modes.visible,s.shape,s.title⟩:FrmC) ⟨none,0,0⟩) 26],[bx b2 (A0 FrmC.zero ⟨none,0,0⟩) 26],[bx b1 (A6 s ⟨sMainq,sMain.length,sMaink⟩ ⟨sAltq,sAlt.length,sAltk⟩ ⟨sPastq,sPast.length,sPastk⟩ ⟨sTabsq,sTabs.length,sTabsk⟩) 52]] [2,3,4,0,1] 5 rfl (by decide) rfl [[bx b3 (A0 (⟨s.cols,(⟨s.cursor.row,s.cursor.col⟩:Plc),s.modes.visible,s.shape,s.title⟩:FrmC) ⟨none,0,0⟩) 26],[bx b2 (A0 FrmC.zero ⟨none,0,0⟩) 26],[bx b1 (A6 s ⟨sMainq,sMain.length,sMaink⟩ ⟨sAltq,sAlt.length,sAltk⟩ ⟨sPastq,sPast.length,sPastk⟩ ⟨sTabsq,sTabs.length,sTabsk⟩) 52],vo C4 69 VR.nil ([]:List Slc),[bx b4 (A6 s ⟨sMainq,sMain.length,sMaink⟩ ⟨sAltq,sAlt.length,sAltk⟩ ⟨sPastq,sPast.length,sPastk⟩ ⟨sTabsq,sTabs.length,sTabsk⟩) 52]] rfl (by first|rfl|simp)) ?_))
 refine C9k [(2,pt b2 0),(3,pt b3 0),(23,.func (.func 133) #[] #[pt b4 0])] ⟨rfl,rfl,rfl,trivial⟩ ?_
 refine C3t (cc:=B2) (xs:=(Y5 s sMain sAlt sPast sTabs)) (σ:=List (List Cel)×VR×List Slc) hr rfl (B5c s sMain sAlt sPast sTabs b4 sMainq sMainrs sMaink sAltq sAltrs sAltk sPastq sPastrs sPastk sTabsq sTabsk hrowssMainrs (by first|omega|(simp only [List.length_take,List.length_drop,List.length_append,List.length_cons,List.length_nil,List.length_set,List.length_map,D3];omega)|decide) (by first|omega|(simp only [List.length_take,List.length_drop,List.length_append,List.length_cons,List.length_nil,List.length_set,List.length_map,D3];omega)|decide) hrowssAltrs (by first|omega|(simp only [List.length_take,List.length_drop,List.length_append,List.length_cons,List.length_nil,List.length_set,List.length_map,D3];omega)|decide) (by first|omega|(simp only [List.length_take,List.length_drop,List.length_append,List.length_cons,List.length_nil,List.length_set,List.length_map,D3];omega)|decide) hrowssPastrs (by first|omega|(simp only [List.length_take,List.length_drop,List.length_append,List.length_cons,List.length_nil,List.length_set,List.length_map,D3];omega)|decide) (by first|omega|(simp only [List.length_take,List.length_drop,List.length_append,List.length_cons,List.length_nil,List.length_set,List.length_map,D3];omega)|decide) (by first|omega|(simp only [List.length_take,List.length_drop,List.length_append,List.length_cons,List.length_nil,List.length_set,List.length_map,D3];omega)|decide) (by first|omega|(simp only [List.length_take,List.length_drop,List.length_append,List.length_cons,List.length_nil,List.length_set,List.length_map,D3];omega)|decide) _ rfl) A2.refl rfl rfl (fun rem x=>P6 s rem x.1=R∧VOk 1 x.1.length x.2.1∧C7 x.2.2 x.1∧x.1.length+rem.length≤100) (fun _ _=>False) (fun x=>(bx b3 (A0 (⟨s.cols,(⟨s.cursor.row,s.cursor.col⟩:Plc),s.modes.visible,s.shape,s.title⟩:FrmC) ⟨va x.2.1.q,x.1.length,x.2.1.k⟩) 26::bx b2 (A0 FrmC.zero ⟨none,0,0⟩) 26::bx b1 (A6 s ⟨sMainq,sMain.length,sMaink⟩ ⟨sAltq,sAlt.length,sAltk⟩ ⟨sPastq,sPast.length,sPastk⟩ ⟨sTabsq,sTabs.length,sTabsk⟩) 52::(vo C4 69 x.2.1 x.2.2)++([]))) (fun x=>[sl B7 sMainq sMainrs,B8 B2 sMainrs sMain,sl B7 sAltq sAltrs,B8 B2 sAltrs sAlt,sl B7 sPastq sPastrs,B8 B2 sPastrs sPast,sl F4 sTabsq sTabs,G5 B2 x.2.2 x.1]) (([]:List (List Cel)),VR.nil,([]:List Slc)) (by exact ⟨hR,VOk.nil,C7.none,(by first|(unfold A1j;rw [List.length_nil,Nat.zero_add,Bool.cond_eq_ite];split<;>rw [A5c]<;>omega)|(unfold Y5;rw [List.length_nil,Nat.zero_add,Bool.cond_eq_ite];split<;>rw [A4e]<;>omega))⟩) (mc [[bx b3 (A0 (⟨s.cols,(⟨s.cursor.row,s.cursor.col⟩:Plc),s.modes.visible,s.shape,s.title⟩:FrmC) ⟨none,0,0⟩) 26],[bx b2 (A0 FrmC.zero ⟨none,0,0⟩) 26],[bx b1 (A6 s ⟨sMainq,sMain.length,sMaink⟩ ⟨sAltq,sAlt.length,sAltk⟩ ⟨sPastq,sPast.length,sPastk⟩ ⟨sTabsq,sTabs.length,sTabsk⟩) 52],vo C4 69 VR.nil ([]:List Slc),[bx b4 (A6 s ⟨sMainq,sMain.length,sMaink⟩ ⟨sAltq,sAlt.length,sAltk⟩ ⟨sPastq,sPast.length,sPastk⟩ ⟨sTabsq,sTabs.length,sTabsk⟩) 52]] [true,true,true,true,true] rfl (by first|rfl|(simp only [List.length_set]<;>rfl))) (A2.con1 (B5 0 rfl) (A2.con1 (B5 1 rfl) (A2.con1 (B5 2 rfl) (A2.con1 (B5 3 rfl) (A2.con1 (B5 4 rfl) (A2.con1 (B5 5 rfl) (A2.con1 (B5 6 rfl) (A2.con1 P0 fn0)))))))) ?_ ?_ (fun _ _ _ _ h=>h.elim)
 ·rintro el rest ⟨fR,fRowsr,fZ⟩ qel kel hc6 hl7 hI Y Y' K' hY' hK
  try dsimp only at hI
  obtain ⟨hR,hokfRowsr,hrowsfRowsrs,hbf⟩:=hI
  replace hR:=(P6.eq_2 ..).symm.trans hR
  have:=VOk.le hokfRowsr
  refine A5 1 rfl (ip' 1 0 [(4,.slice qel el.length kel)] ?_)
  refine A1 (hK _ _ _ ?_)
  refine B0 (A5 7 rfl (zrl 3 4 [0] [(26,.slice (va fRowsr.q) fR.length fRowsr.k),(27,.slice qel el.length kel)] ?_))
  refine it rfl (E9 (c:=C4) (xs:=([⟨qel,el.length,kel⟩]:List Slc)) A0k rfl rfl rfl (by kernel_rfl)) fun b8=>?_
  have hrows9:C7 ([⟨qel,el.length,kel⟩]:List Slc) ([el]:List (List Cel)):=(C7.cons ⟨rfl,(by first|omega|(simp only [List.length_take,List.length_drop,List.length_append,List.length_cons,List.length_nil,List.length_set,List.length_map,D3];omega)|decide),(by first|omega|(simp only [List.length_take,List.length_drop,List.length_append,List.length_cons,List.length_nil,List.length_set,List.length_map,D3];omega)|decide)⟩ C7.none)
  refine H6 (q:=G5 B2 ([⟨qel,el.length,kel⟩]:List Slc) ([el]:List (List Cel))) (A2j (B5 1 rfl) P0) ?_
  have:([⟨qel,el.length,kel⟩]:List Slc).length=1:=rfl
  have hw12:C7 (fZ++([⟨qel,el.length,kel⟩]:List Slc)) (fR++([el]:List (List Cel))):=C7.append hrowsfRowsrs hrows9
  refine it rfl (A8q (r:=fRowsr) (rs:=fZ) (xss:=fR) (pre:=[bx b3 (A0 (⟨s.cols,(⟨s.cursor.row,s.cursor.col⟩:Plc),s.modes.visible,s.shape,s.title⟩:FrmC) ⟨va fRowsr.q,fR.length,fRowsr.k⟩) 26,bx b2 (A0 FrmC.zero ⟨none,0,0⟩) 26,bx b1 (A6 s ⟨sMainq,sMain.length,sMaink⟩ ⟨sAltq,sAlt.length,sAltk⟩ ⟨sPastq,sPast.length,sPastk⟩ ⟨sTabsq,sTabs.length,sTabsk⟩) 52]) (post:=[]) C2j rfl rfl rfl rfl rfl rfl rfl rfl rfl (B5 1 rfl) (B5 10 rfl) (B5 0 rfl) hrowsfRowsrs hrows9 hokfRowsr (by first|omega|(simp only [List.length_cons,List.length_nil,List.length_append,List.length_take,List.length_drop,D3];omega)) (by first|omega|(simp only [List.length_cons,List.length_nil,List.length_append,List.length_take,List.length_drop,D3];omega))) fun ⟨r10,hr11⟩=>?_
  have:=VOk.le hr11
  have:=VOk.cap hr11
  have:([el]:List (List Cel)).length=1:=rfl
  have:(fR++([el]:List (List Cel))).length=fR.length+1:=List.length_append
  refine zrg 2 0 [0] [] (bx b3 (A0 (⟨s.cols,(⟨s.cursor.row,s.cursor.col⟩:Plc),s.modes.visible,s.shape,s.title⟩:FrmC) ⟨va r10.q,(fR++([el]:List (List Cel))).length,r10.k⟩) 26::bx b2 (A0 FrmC.zero ⟨none,0,0⟩) 26::bx b1 (A6 s ⟨sMainq,sMain.length,sMaink⟩ ⟨sAltq,sAlt.length,sAltk⟩ ⟨sPastq,sPast.length,sPastk⟩ ⟨sTabsq,sTabs.length,sTabsk⟩) 52::(vo C4 69 r10 (fZ++([⟨qel,el.length,kel⟩]:List Slc)))++([])) ?_
  refine A1 ?_
  refine B3y (I:=fun rem x=>P6 s rem x.1=R∧VOk 1 x.1.length x.2.1∧C7 x.2.2 x.1∧x.1.length+rem.length≤100) (Jx:=fun _ _=>False) (Lk:=fun x=>(bx b3 (A0 (⟨s.cols,(⟨s.cursor.row,s.cursor.col⟩:Plc),s.modes.visible,s.shape,s.title⟩:FrmC) ⟨va x.2.1.q,x.1.length,x.2.1.k⟩) 26::bx b2 (A0 FrmC.zero ⟨none,0,0⟩) 26::bx b1 (A6 s ⟨sMainq,sMain.length,sMaink⟩ ⟨sAltq,sAlt.length,sAltk⟩ ⟨sPastq,sPast.length,sPastk⟩ ⟨sTabsq,sTabs.length,sTabsk⟩) 52::(vo C4 69 x.2.1 x.2.2)++([]))) (Φk:=fun x=>[sl B7 sMainq sMainrs,B8 B2 sMainrs sMain,sl B7 sAltq sAltrs,B8 B2 sAltrs sAlt,sl B7 sPastq sPastrs,B8 B2 sPastrs sPast,sl F4 sTabsq sTabs,G5 B2 x.2.2 x.1]) (rest:=rest) ((fR++([el]:List (List Cel))),r10,(fZ++([⟨qel,el.length,kel⟩]:List Slc))) (by exact ⟨hR,hr11,hw12,(by simp only [List.length_cons,List.length_append,List.length_nil] at *;omega)⟩) (mc [[bx b3 (A0 (⟨s.cols,(⟨s.cursor.row,s.cursor.col⟩:Plc),s.modes.visible,s.shape,s.title⟩:FrmC) ⟨va r10.q,(fR++([el]:List (List Cel))).length,r10.k⟩) 26],[bx b2 (A0 FrmC.zero ⟨none,0,0⟩) 26],[bx b1 (A6 s ⟨sMainq,sMain.length,sMaink⟩ ⟨sAltq,sAlt.length,sAltk⟩ ⟨sPastq,sPast.length,sPastk⟩ ⟨sTabsq,sTabs.length,sTabsk⟩) 52],vo C4 69 r10 (fZ++([⟨qel,el.length,kel⟩]:List Slc))] [true,true,true,true] rfl (by first|rfl|(simp only [List.length_set]<;>rfl))) ?_
  exact (A2.pick [4,5,6,7,8,9,10,0] rfl)
 ·rintro d13 ⟨fR,fRowsr,fZ⟩ hd13 hI
  try dsimp only at hI
  obtain ⟨hR,hokfRowsr,hrowsfRowsrs,hbf⟩:=hI
  replace hR:=(P6.eq_1 ..).symm.trans hR
  have:=VOk.le hokfRowsr
  refine nx (sr 2 rfl (zrg 2 0 [0,1] [] (bx b3 (A0 (⟨s.cols,(⟨s.cursor.row,s.cursor.col⟩:Plc),s.modes.visible,s.shape,s.title⟩:FrmC) ⟨va fRowsr.q,fR.length,fRowsr.k⟩) 26::bx b2 (A0 (⟨s.cols,(⟨s.cursor.row,s.cursor.col⟩:Plc),s.modes.visible,s.shape,s.title⟩:FrmC) ⟨va fRowsr.q,fR.length,fRowsr.k⟩) 26::bx b1 (A6 s ⟨sMainq,sMain.length,sMaink⟩ ⟨sAltq,sAlt.length,sAltk⟩ ⟨sPastq,sPast.length,sPastk⟩ ⟨sTabsq,sTabs.length,sTabsk⟩) 52::(vo C4 69 fRowsr fZ)++([])) ?_))
  subst hR
  refine ie (A7 ?_)
  exact B2u rfl ⟨hr,hD⟩ (by exact (A0o.cons (show A0o X.D by rw [hD];exact A0o.nil) hd13)) (P3 rfl (I1 (us:=A0 (⟨s.cols,(⟨s.cursor.row,s.cursor.col⟩:Plc),s.modes.visible,s.shape,s.title⟩:FrmC) ⟨va fRowsr.q,fR.length,fRowsr.k⟩) A7f rfl 1 rfl rfl rfl)) ⟨(fRowsr,fZ),⟨hokfRowsr,hrowsfRowsrs⟩⟩ (by rfl) (mc [[bx b3 (A0 (⟨s.cols,(⟨s.cursor.row,s.cursor.col⟩:Plc),s.modes.visible,s.shape,s.title⟩:FrmC) ⟨va fRowsr.q,fR.length,fRowsr.k⟩) 26],[bx b2 (A0 (⟨s.cols,(⟨s.cursor.row,s.cursor.col⟩:Plc),s.modes.visible,s.shape,s.title⟩:FrmC) ⟨va fRowsr.q,fR.length,fRowsr.k⟩) 26],[bx b1 (A6 s ⟨sMainq,sMain.length,sMaink⟩ ⟨sAltq,sAlt.length,sAltk⟩ ⟨sPastq,sPast.length,sPastk⟩ ⟨sTabsq,sTabs.length,sTabsk⟩) 52],vo C4 69 fRowsr fZ] [false,false,false,true] rfl (by first|rfl|(simp only [List.length_set]<;>rfl))) (A2.con1 (B5 7 rfl) fn0)
def A7g (s:ScrC) (sMain:List (Rwc Cel)) (sAlt:List (Rwc Cel)) (sPast:List (Rwc Cel)) (sTabs:List Bool):FrmC×List (List Cel)×Int :=
 (bif (!decide ((P4 s sMain sAlt sPast sTabs)=0)) then (FrmC.zero,([]:List (List Cel)),(P4 s sMain sAlt sPast sTabs)) else (F1 (A4l s sMain sAlt sPast sTabs) fun (y0:FrmC×List (List Cel))=>(y0.1,y0.2,0)))
theorem C4p (s:ScrC) (sMain:List (Rwc Cel)) (sAlt:List (Rwc Cel)) (sPast:List (Rwc Cel)) (sTabs:List Bool) (sMainq:Option Addr) (sMainrs:List Rwq) (sMaink:Nat) (sAltq:Option Addr) (sAltrs:List Rwq) (sAltk:Nat) (sPastq:Option Addr) (sPastrs:List Rwq) (sPastk:Nat) (sTabsq:Option Addr) (sTabsk:Nat) (hrowssMainrs:D0 sMainrs sMain) (hlsMain:sMain.length≤9223372036854775807) (hcsMain:sMain.length≤sMaink) (hrowssAltrs:D0 sAltrs sAlt) (hlsAlt:sAlt.length≤9223372036854775807) (hcsAlt:sAlt.length≤sAltk) (hrowssPastrs:D0 sPastrs sPast) (hlsPast:sPast.length≤9223372036854775807) (hcsPast:sPast.length≤sPastk) (hlsTabs:sTabs.length≤9223372036854775807) (hcsTabs:sTabs.length≤sTabsk) (hTs:s.title.length≤100000000) (R:FrmC×List (List Cel)×Int) (hR:A7g s sMain sAlt sPast sTabs=R):Con Tryz.prog 19 [ag (A6 s ⟨sMainq,sMain.length,sMaink⟩ ⟨sAltq,sAlt.length,sAltk⟩ ⟨sPastq,sPast.length,sPastk⟩ ⟨sTabsq,sTabs.length,sTabsk⟩)] [] [sl B7 sMainq sMainrs,B8 B2 sMainrs sMain,sl B7 sAltq sAltrs,B8 B2 sAltrs sAlt,sl B7 sPastq sPastrs,B8 B2 sPastrs sPast,sl F4 sTabsq sTabs,A0z,A1a] ({t:VR×List Slc // VOk 1 R.2.1.length t.1∧C7 t.2 R.2.1}) (fun x=>.tuple #[ag (A0 R.1 ⟨va x.1.1.q,R.2.1.length,x.1.1.k⟩),iv R.2.2]) (fun x=>((vo C4 69 x.1.1 x.1.2)++([]))) (fun x=>[G5 B2 x.1.2 R.2.1]):=by
 refine zco Tryz.func19 [(0,ag (A6 s ⟨sMainq,sMain.length,sMaink⟩ ⟨sAltq,sAlt.length,sAltk⟩ ⟨sPastq,sPast.length,sPastk⟩ ⟨sTabsq,sTabs.length,sTabsk⟩))] fun X hX hr hD=>?_
 replace hR:=(A7g.eq_1 ..).symm.trans hR
 have:=hrowssMainrs.1
 have:=hrowssAltrs.1
 have:=hrowssPastrs.1
 refine sr 3 rfl (A8y 3 0 [] (fun b1 b2=>[(1,pt b1 0),(2,pt b2 0)]) (fun b1 b2=>[bx b2 (A0 FrmC.zero ⟨none,0,0⟩) 26,bx b1 (A6 s ⟨sMainq,sMain.length,sMaink⟩ ⟨sAltq,sAlt.length,sAltk⟩ ⟨sPastq,sPast.length,sPastk⟩ ⟨sTabsq,sTabs.length,sTabsk⟩) 52]) (fun b1 b2=>?_))
 refine ie (A3 (sr 3 rfl (zrl 1 2 [1] [(5,ag (A6 s ⟨sMainq,sMain.length,sMaink⟩ ⟨sAltq,sAlt.length,sAltk⟩ ⟨sPastq,sPast.length,sPastk⟩ ⟨sTabsq,sTabs.length,sTabsk⟩))] ?_)))
 refine zca (B6x s sMain sAlt sPast sTabs sMainq sMainrs sMaink sAltq sAltrs sAltk sPastq sPastrs sPastk sTabsq sTabsk hrowssMainrs (by first|omega|(simp only [List.length_take,List.length_drop,List.length_append,List.length_cons,List.length_nil,List.length_set,List.length_map,D3];omega)|decide) (by first|omega|(simp only [List.length_take,List.length_drop,List.length_append,List.length_cons,List.length_nil,List.length_set,List.length_map,D3];omega)|decide) hrowssAltrs (by first|omega|(simp only [List.length_take,List.length_drop,List.length_append,List.length_cons,List.length_nil,List.length_set,List.length_map,D3];omega)|decide) (by first|omega|(simp only [List.length_take,List.length_drop,List.length_append,List.length_cons,List.length_nil,List.length_set,List.length_map,D3];omega)|decide) hrowssPastrs (by first|omega|(simp only [List.length_take,List.length_drop,List.length_append,List.length_cons,List.length_nil,List.length_set,List.length_map,D3];omega)|decide) (by first|omega|(simp only [List.length_take,List.length_drop,List.length_append,List.length_cons,List.length_nil,List.length_set,List.length_map,D3];omega)|decide) (by first|omega|(simp only [List.length_take,List.length_drop,List.length_append,List.length_cons,List.length_nil,List.length_set,List.length_map,D3];omega)|decide) (by first|omega|(simp only [List.length_take,List.length_drop,List.length_append,List.length_cons,List.length_nil,List.length_set,List.length_map,D3];omega)|decide) (by first|omega|(simp only [List.length_nil];omega)|(dsimp only;omega)) _ rfl) A2.refl ?_
 refine ip' 1 0 [(4,iv (P4 s sMain sAlt sPast sTabs))] ?_
 refine ie (sr 2 rfl (ip' 2 0 [(8,bv (!decide ((P4 s sMain sAlt sPast sTabs)=0)))] ?_))
 refine ie ?_
 refine zjn rfl hR ?_ ?_<;>clear hR<;>intro hR h3 h3p
 ·refine sr 4 rfl (zrg 4 0 [0] [(3,iv (P4 s sMain sAlt sPast sTabs))] [bx b2 (A0 FrmC.zero ⟨none,0,0⟩) 26,bx b1 (A6 s ⟨sMainq,sMain.length,sMaink⟩ ⟨sAltq,sAlt.length,sAltk⟩ ⟨sPastq,sPast.length,sPastk⟩ ⟨sTabsq,sTabs.length,sTabsk⟩) 52] ?_)
  subst hR
  refine ie (A7 ?_)
  exact zer hr hD (V5 rfl (I1 (us:=A0 FrmC.zero ⟨none,0,0⟩) A7f rfl 0 rfl rfl rfl) (B1 rfl)) ⟨(VR.nil,([]:List Slc)),⟨VOk.nil,C7.none⟩⟩ (mc [[bx b2 (A0 FrmC.zero ⟨none,0,0⟩) 26],[bx b1 (A6 s ⟨sMainq,sMain.length,sMaink⟩ ⟨sAltq,sAlt.length,sAltk⟩ ⟨sPastq,sPast.length,sPastk⟩ ⟨sTabsq,sTabs.length,sTabsk⟩) 52],vo C4 69 VR.nil ([]:List Slc)] [false,false,true] rfl (by first|rfl|(simp only [List.length_set]<;>rfl))) (A2.con1 P0 fn0)
 have hsc:sMain.length≤100∧sAlt.length≤100:=by first|exact A4y (p:=sPast) (by first|exact h3p|simpa using h3)|exact A7p (by first|exact h3p|simpa using h3)
 refine A4 (nx (sr 4 rfl (zrl 1 3 [1] [(11,ag (A6 s ⟨sMainq,sMain.length,sMaink⟩ ⟨sAltq,sAlt.length,sAltk⟩ ⟨sPastq,sPast.length,sPastk⟩ ⟨sTabsq,sTabs.length,sTabsk⟩))] ?_)))
 have hQ:=G6 hR;clear hR;obtain ⟨y0,hy0,hR⟩:=hQ
 refine it rfl (I5 (L2:=[bx b2 (A0 FrmC.zero ⟨none,0,0⟩) 26,bx b1 (A6 s ⟨sMainq,sMain.length,sMaink⟩ ⟨sAltq,sAlt.length,sAltk⟩ ⟨sPastq,sPast.length,sPastk⟩ ⟨sTabsq,sTabs.length,sTabsk⟩) 52]) (B8k s sMain sAlt sPast sTabs sMainq sMainrs sMaink sAltq sAltrs sAltk sPastq sPastrs sPastk sTabsq sTabsk hrowssMainrs (by first|omega|(simp only [List.length_take,List.length_drop,List.length_append,List.length_cons,List.length_nil,List.length_set,List.length_map,D3];omega)|decide) (by first|omega|(simp only [List.length_take,List.length_drop,List.length_append,List.length_cons,List.length_nil,List.length_set,List.length_map,D3];omega)|decide) hrowssAltrs (by first|omega|(simp only [List.length_take,List.length_drop,List.length_append,List.length_cons,List.length_nil,List.length_set,List.length_map,D3];omega)|decide) (by first|omega|(simp only [List.length_take,List.length_drop,List.length_append,List.length_cons,List.length_nil,List.length_set,List.length_map,D3];omega)|decide) hrowssPastrs (by first|omega|(simp only [List.length_take,List.length_drop,List.length_append,List.length_cons,List.length_nil,List.length_set,List.length_map,D3];omega)|decide) (by first|omega|(simp only [List.length_take,List.length_drop,List.length_append,List.length_cons,List.length_nil,List.length_set,List.length_map,D3];omega)|decide) (by first|omega|(simp only [List.length_take,List.length_drop,List.length_append,List.length_cons,List.length_nil,List.length_set,List.length_map,D3];omega)|decide) (by first|omega|(simp only [List.length_take,List.length_drop,List.length_append,List.length_cons,List.length_nil,List.length_set,List.length_map,D3];omega)|decide) (by first|omega|(simp only [List.length_nil];omega)) (by first|omega|(simp only [List.length_nil];omega)) y0 hy0) rfl rfl rfl rfl rfl (A2.pick [0,1,2,3,4,5,6] rfl) (List.Perm.refl _) (fun ⟨⟨r4,rs5⟩,hp8⟩=>(bx b2 (A0 FrmC.zero ⟨none,0,0⟩) 26::bx b1 (A6 s ⟨sMainq,sMain.length,sMaink⟩ ⟨sAltq,sAlt.length,sAltk⟩ ⟨sPastq,sPast.length,sPastk⟩ ⟨sTabsq,sTabs.length,sTabsk⟩) 52::(vo C4 69 r4 rs5)++([]))) (fun ⟨⟨r4,rs5⟩,hp8⟩=>H3 [vo C4 69 r4 rs5,[bx b2 (A0 FrmC.zero ⟨none,0,0⟩) 26],[bx b1 (A6 s ⟨sMainq,sMain.length,sMaink⟩ ⟨sAltq,sAlt.length,sAltk⟩ ⟨sPastq,sPast.length,sPastk⟩ ⟨sTabsq,sTabs.length,sTabsk⟩) 52]] [1,2,0] 3 rfl (by decide) (by first|rfl|simp only [List.flatten_cons,List.flatten_nil,List.append_nil,List.cons_append,List.nil_append,List.append_assoc]) [[bx b2 (A0 FrmC.zero ⟨none,0,0⟩) 26],[bx b1 (A6 s ⟨sMainq,sMain.length,sMaink⟩ ⟨sAltq,sAlt.length,sAltk⟩ ⟨sPastq,sPast.length,sPastk⟩ ⟨sTabsq,sTabs.length,sTabsk⟩) 52],vo C4 69 r4 rs5] rfl (by first|rfl|simp only [List.flatten_cons,List.flatten_nil,List.append_nil,List.cons_append,List.nil_append,List.append_assoc]))) fun ⟨⟨r4,rs5⟩,hp8⟩=>?_
 try dsimp only at hp8
 obtain ⟨hk6,hw7⟩:=hp8
 have:=VOk.le hk6
 have:=VOk.cap hk6
 have:=hw7.1
 refine zrg 2 0 [0] [(3,iv 0)] (bx b2 (A0 y0.1 ⟨va r4.q,y0.2.length,r4.k⟩) 26::bx b1 (A6 s ⟨sMainq,sMain.length,sMaink⟩ ⟨sAltq,sAlt.length,sAltk⟩ ⟨sPastq,sPast.length,sPastk⟩ ⟨sTabsq,sTabs.length,sTabsk⟩) 52::(vo C4 69 r4 rs5)++([])) ?_
 subst hR
 refine ie (A7 ?_)
 exact zer hr hD (V5 rfl (I1 (us:=A0 y0.1 ⟨va r4.q,y0.2.length,r4.k⟩) A7f rfl 0 rfl rfl rfl) (B1 rfl)) ⟨(r4,rs5),⟨hk6,hw7⟩⟩ (mc [[bx b2 (A0 y0.1 ⟨va r4.q,y0.2.length,r4.k⟩) 26],[bx b1 (A6 s ⟨sMainq,sMain.length,sMaink⟩ ⟨sAltq,sAlt.length,sAltk⟩ ⟨sPastq,sPast.length,sPastk⟩ ⟨sTabsq,sTabs.length,sTabsk⟩) 52],vo C4 69 r4 rs5] [false,false,true] rfl (by first|rfl|(simp only [List.length_set]<;>rfl))) (A2.con1 (B5 0 rfl) fn0)
end Go.Proofs.YthcjfkljekdioaaGreatDoor
