import Derived.Test.YthcjfkljekdioaaGreatDoorProg
import Derived.Test.YthcjfkljekdioaaGreatDoorMA2
import Derived.Test.YthcjfkljekdioaaGreatDoorMB1
import Derived.Test.YthcjfkljekdioaaGreatDoorMB2
import Derived.Test.YthcjfkljekdioaaGreatDoorMB3
import Derived.Test.YthcjfkljekdioaaGreatDoorMB7
import Derived.Test.YthcjfkljekdioaaGreatDoorMB4
import Derived.Test.YthcjfkljekdioaaGreatDoorMB5
set_option linter.unusedVariables false
set_option linter.unusedSimpArgs false
set_option linter.unnecessarySimpa false
set_option maxRecDepth 100000
namespace Go.Proofs.YthcjfkljekdioaaGreatDoor
open Go Go.Fen
theorem D6z:Ty Tryz.prog 88 5 true:=⟨by kernel_rfl⟩
def A4c (s:ScrC) (sMain:List (Rwc Cel)) (sAlt:List (Rwc Cel)) (sPast:List (Rwc Cel)) (sTabs:List Bool):Int×Int×Int×Int×Bool :=
 (s.rows,s.cols,s.top,s.bottom,s.modes.origin)
theorem B6j (s:ScrC) (m a p:List (Rwc Cel)) (t:List Bool):(A4c s m a p t).1=s.rows:=rfl
theorem B8x (s:ScrC) (sMain:List (Rwc Cel)) (sAlt:List (Rwc Cel)) (sPast:List (Rwc Cel)) (sTabs:List Bool) (sMainq:Option Addr) (sMainrs:List Rwq) (sMaink:Nat) (sAltq:Option Addr) (sAltrs:List Rwq) (sAltk:Nat) (sPastq:Option Addr) (sPastrs:List Rwq) (sPastk:Nat) (sTabsq:Option Addr) (sTabsk:Nat) (hrowssMainrs:D0 sMainrs sMain) (hlsMain:sMain.length≤9223372036854775807) (hcsMain:sMain.length≤sMaink) (hrowssAltrs:D0 sAltrs sAlt) (hlsAlt:sAlt.length≤9223372036854775807) (hcsAlt:sAlt.length≤sAltk) (hrowssPastrs:D0 sPastrs sPast) (hlsPast:sPast.length≤9223372036854775807) (hcsPast:sPast.length≤sPastk) (hlsTabs:sTabs.length≤9223372036854775807) (hcsTabs:sTabs.length≤sTabsk) (R:Int×Int×Int×Int×Bool) (hR:A4c s sMain sAlt sPast sTabs=R):I6 Tryz.prog 41 [ag (A6 s ⟨sMainq,sMain.length,sMaink⟩ ⟨sAltq,sAlt.length,sAltk⟩ ⟨sPastq,sPast.length,sPastk⟩ ⟨sTabsq,sTabs.length,sTabsk⟩)] [sl B7 sMainq sMainrs,B8 B2 sMainrs sMain,sl B7 sAltq sAltrs,B8 B2 sAltrs sAlt,sl B7 sPastq sPastrs,B8 B2 sPastrs sPast,sl F4 sTabsq sTabs] (ag [iv R.1,iv R.2.1,iv R.2.2.1,iv R.2.2.2.1,bv R.2.2.2.2]):=by
 refine zco Tryz.func41 [(0,ag (A6 s ⟨sMainq,sMain.length,sMaink⟩ ⟨sAltq,sAlt.length,sAltk⟩ ⟨sPastq,sPast.length,sPastk⟩ ⟨sTabsq,sTabs.length,sTabsk⟩))] fun X hX hr hD=>?_
 replace hR:=(A4c.eq_1 ..).symm.trans hR
 have:=hrowssMainrs.1
 have:=hrowssAltrs.1
 have:=hrowssPastrs.1
 refine sr 2 rfl (A8y 2 0 [] (fun b1 b2=>[(1,pt b1 0),(2,pt b2 0)]) (fun b1 b2=>[bx b2 [iv 0,iv 0,iv 0,iv 0,bv false] 88,bx b1 (A6 s ⟨sMainq,sMain.length,sMaink⟩ ⟨sAltq,sAlt.length,sAltk⟩ ⟨sPastq,sPast.length,sPastk⟩ ⟨sTabsq,sTabs.length,sTabsk⟩) 52]) (fun b1 b2=>?_))
 refine ie (sr 13 rfl (zrg 13 0 [1,1,1,1,1,0] [] [bx b2 [iv s.rows,iv s.cols,iv s.top,iv s.bottom,bv s.modes.origin] 88,bx b1 (A6 s ⟨sMainq,sMain.length,sMaink⟩ ⟨sAltq,sAlt.length,sAltk⟩ ⟨sPastq,sPast.length,sPastk⟩ ⟨sTabsq,sTabs.length,sTabsk⟩) 52] ?_))
 subst hR
 refine ie (A7 ?_)
 exact zer hr hD (P3 rfl (I1 (us:=[iv s.rows,iv s.cols,iv s.top,iv s.bottom,bv s.modes.origin]) D6z rfl 0 rfl rfl rfl)) () (mk [false,false] rfl) fn0
def M1 (fR:Int) (fC:Int) (fTop:Int) (fBottom:Int) (fOrigin:Bool):Bool :=
 (bif ((((decide (fR<1))||(decide ((40:Int)<fR)))||(decide (fC<2)))||(decide ((80:Int)<fC))) then false else (((decide (fTop=0))&&(decide (fBottom=(IntKind.i64.wrap (fR - (1:Int))))))||(((decide ((0:Int)≤fTop))&&(decide (fTop<fBottom)))&&(decide (fBottom<fR)))))
theorem B0e {r c t b:Int} {o:Bool} (h:M1 r c t b o=true):1≤r∧r≤40∧2≤c∧c≤80:=by
 unfold M1 at h
 cases hx:((((decide (r<1))||(decide ((40:Int)<r)))||(decide (c<2)))||(decide ((80:Int)<c))) with
 | true=>rw [hx] at h;cases h
 | false=>simp only [Bool.or_eq_false_iff,decide_eq_false_iff_not] at hx;omega
theorem B8s (fR:Int) (fC:Int) (fTop:Int) (fBottom:Int) (fOrigin:Bool) (R:Bool) (hR:M1 fR fC fTop fBottom fOrigin=R):I6 Tryz.prog 42 [ag [iv fR,iv fC,iv fTop,iv fBottom,bv fOrigin]] [] (bv R):=by
 refine zco Tryz.func42 [(0,ag [iv fR,iv fC,iv fTop,iv fBottom,bv fOrigin])] fun X hX hr hD=>?_
 replace hR:=(M1.eq_1 ..).symm.trans hR
 refine sr 2 rfl (I7 2 0 [] (fun b1=>[(1,pt b1 0)]) (fun b1=>[bx b1 [iv fR,iv fC,iv fTop,iv fBottom,bv fOrigin] 88]) (fun b1=>?_))
 refine ie (A3 (sr 18 rfl (zrl 4 14 [0] [(7,bv (decide (fR<1)))] ?_)))
 refine zir 4 10 7 11 (decide ((40:Int)<fR)) (fun g2 g2p=>?_) ?_
 ·refine zrl 4 0 [0] [(11,bv (decide ((40:Int)<fR)))] ?_
  exact A1 (H1 2 7 11 g2 fn0 (mk [true] rfl) rfl rfl rfl rfl rfl)
 refine ip' 1 9 [(12,bv ((decide (fR<1))||(decide ((40:Int)<fR))))] ?_
 refine zio 4 5 12 16 (decide (fC<2)) (fun g3=>?_) ?_
 ·have g3p:¬ ((fR<1)∨((40:Int)<fR)):=by simpa using g3
  refine zrl 4 0 [0] [(16,bv (decide (fC<2)))] ?_
  exact A1 (H1 2 12 16 g3 fn0 (mk [true] rfl) rfl rfl rfl rfl rfl)
 refine ip' 1 4 [(17,bv (((decide (fR<1))||(decide ((40:Int)<fR)))||(decide (fC<2))))] ?_
 refine zio 4 0 17 21 (decide ((80:Int)<fC)) (fun g4=>?_) ?_
 ·have g4p:¬ (((fR<1)∨((40:Int)<fR))∨(fC<2)):=by simpa using g4
  refine zrl 4 0 [0] [(21,bv (decide ((80:Int)<fC)))] ?_
  exact A1 (H1 2 17 21 g4 fn0 (mk [true] rfl) rfl rfl rfl rfl rfl)
 refine ie ?_
 refine zjb rfl hR ?_ ?_<;>clear hR<;>intro hR h5
 ·have h5p:(((fR<1)∨((40:Int)<fR))∨(fC<2))∨((80:Int)<fC):=by simpa using h5
  refine sr 1 rfl (ip' 1 0 [(2,bv false)] ?_)
  subst hR
  refine ie (A7 ?_)
  exact D5 hr hD
 have h5p:¬ ((((fR<1)∨((40:Int)<fR))∨(fC<2))∨((80:Int)<fC)):=by simpa using h5
 refine A4 (nx (sr 12 rfl (zrl 4 8 [0] [(25,bv (decide (fTop=0)))] ?_)))
 refine zid 7 1 25 32 (decide (fBottom=(IntKind.i64.wrap (fR - (1:Int))))) (fun g6 g6p=>?_) ?_
 ·refine zrl 4 3 [0,0] [(27,iv fBottom),(29,iv fR)] ?_
  refine ix rfl (I9.pure rfl) ?_
  refine ip' 2 0 [(32,bv (decide (fBottom=(IntKind.i64.wrap (fR - (1:Int))))))] ?_
  exact A1 (H1 5 25 32 g6 fn0 (mk [true] rfl) rfl rfl rfl rfl rfl)
 refine ip' 1 0 [(3,bv ((decide (fTop=0))&&(decide (fBottom=(IntKind.i64.wrap (fR - (1:Int)))))))] ?_
 refine ie (sr 21 rfl (ip' 2 19 [(34,bv ((decide (fTop=0))&&(decide (fBottom=(IntKind.i64.wrap (fR - (1:Int)))))))] ?_))
 refine zio 18 1 34 52 (((decide ((0:Int)≤fTop))&&(decide (fTop<fBottom)))&&(decide (fBottom<fR))) (fun g7=>?_) ?_
 ·have g7p:¬ ((fTop=0)∧(fBottom=(IntKind.i64.wrap (fR - (1:Int))))):=by simpa using g7
  refine zrl 4 14 [0] [(38,bv (decide ((0:Int)≤fTop)))] ?_
  refine zid 6 8 38 44 (decide (fTop<fBottom)) (fun g8 g8p=>?_) ?_
  ·refine zrl 6 0 [0,0] [(44,bv (decide (fTop<fBottom)))] ?_
   exact A1 (H1 2 38 44 g8 fn0 (mk [true] rfl) rfl rfl rfl rfl rfl)
  refine ip' 1 7 [(45,bv ((decide ((0:Int)≤fTop))&&(decide (fTop<fBottom))))] ?_
  refine zia 6 1 45 51 (decide (fBottom<fR)) (fun g9=>?_) ?_
  ·have g9p:((0:Int)≤fTop)∧(fTop<fBottom):=by simpa using g9
   refine zrl 6 0 [0,0] [(51,bv (decide (fBottom<fR)))] ?_
   exact A1 (H1 2 45 51 g9 fn0 (mk [true] rfl) rfl rfl rfl rfl rfl)
  refine ip' 1 0 [(52,bv (((decide ((0:Int)≤fTop))&&(decide (fTop<fBottom)))&&(decide (fBottom<fR))))] ?_
  exact A1 (H1 6 34 52 g7 fn0 (mk [true] rfl) rfl rfl rfl rfl rfl)
 refine ip' 1 0 [(2,bv (((decide (fTop=0))&&(decide (fBottom=(IntKind.i64.wrap (fR - (1:Int))))))||(((decide ((0:Int)≤fTop))&&(decide (fTop<fBottom)))&&(decide (fBottom<fR)))))] ?_
 subst hR
 refine ie (A7 ?_)
 exact D5 hr hD
def W6 (g:List (Rwc Cel)):List (Rwc Cel)→Nat→Bool
 | [],i=>true
 | hd_l0::tl_l0,i=>(bif ((!(O0 (hd_l0.l) (hd_l0.b)))||(!decide ((hd_l0.l.length:Int)=((g.getD 0 zwc).l.length:Int)))) then false else W6 g tl_l0 (i+1))
def V3 (g:List (Rwc Cel)):Bool :=
 (bif ((decide ((g.length:Int)<1))||(decide ((40:Int)<(g.length:Int)))) then false else W6 g g 0)
theorem B7p (g:List (Rwc Cel)) (gq:Option Addr) (grs:List Rwq) (gk:Nat) (hrowsgrs:D0 grs g) (hlg:g.length≤9223372036854775807) (hcg:g.length≤gk) (R:Bool) (hR:V3 g=R):I6 Tryz.prog 79 [.slice gq g.length gk] [sl B7 gq grs,B8 B2 grs g] (bv R):=by
 refine zco Tryz.func79 [(0,.slice gq g.length gk)] fun X hX hr hD=>?_
 replace hR:=(V3.eq_1 ..).symm.trans hR
 have:=hrowsgrs.1
 refine sr 1 rfl (ip' 1 0 [] ?_)
 refine ie (A3 (sr 8 rfl (ip' 4 4 [(7,bv (decide ((g.length:Int)<1)))] ?_)))
 refine zir 4 0 7 11 (decide ((40:Int)<(g.length:Int))) (fun g1 g1p=>?_) ?_
 ·refine ip' 4 0 [(11,bv (decide ((40:Int)<(g.length:Int))))] ?_
  exact zai 2 7 11 g1
 refine ie ?_
 refine zjo rfl hR ?_ ?_<;>clear hR<;>intro hR h2 h2p
 ·refine sr 1 rfl (ip' 1 0 [(2,bv false)] ?_)
  subst hR
  refine ie (A7 ?_)
  exact D5 hr hD
 refine A4 (nx (A3 (sr 1 rfl (ip' 1 0 [(3,iv 0)] ?_))))
 refine ie (B0 (B3w (fun (i:Nat)=>(i≤g.length∧W6 g (g.drop i) i=R,[(0,.slice gq g.length gk),(3,iv (i:Int))],[],[sl B7 gq grs,B8 B2 grs g],g.length - i)) 0 ⟨(by omega),hR⟩ (mk [] rfl) A2.refl ?_))
 rintro i ⟨hm3,hR⟩
 refine A3 (sr 4 rfl (ip' 4 0 [(15,bv (decide ((i:Int)<(g.length:Int))))] ?_))
 refine ie (S2 rfl (fun h4=>?_) (fun h4=>?_))
 ·have h4p:(i:Int)<(g.length:Int):=by simpa using h4
  rw [U1 zwc (show i<g.length by omega)] at hR;replace hR:=(W6.eq_2 ..).symm.trans hR
  refine A4 (nx (A3 (B0 (sd 20 rfl (by kernel_rfl) rfl ?_))))
  refine dp' 2 18 [(18,.slice gq g.length gk),(19,iv (i:Int))] ?_
  refine A4a 0 rfl (by have:=hrowsgrs.1;omega) fun a5 hq6=>?_
  refine A4g (B3x (k:=i) hrowsgrs 1 rfl (by have:=hrowsgrs.1;omega)) ?_
  have:=A7w hrowsgrs (k:=i) (by have:=hrowsgrs.1;omega)
  refine dd rfl (E8 A5a rfl rfl hq6 rfl i rfl (by omega)) ?_
  refine dd rfl (F9 (L4 (us:=[.slice ((grs.getD i zwq).s.q) ((grs.getD i zwq).s.n) ((grs.getD i zwq).s.k),bv ((grs.getD i zwq).b)]) B8a rfl rfl (G0 (c:=B7) (sz:=2) hq6 (fun _=>rfl) 1 rfl (gd zwq (by have:=hrowsgrs.1;omega))) rfl) (B9h hrowsgrs (by have:=hrowsgrs.1;omega))) ?_
  refine zcd (B1c ((g.getD i zwc).l) ((g.getD i zwc).b) ((grs.getD i zwq).s.q) ((grs.getD i zwq).s.k) (by first|omega|(simp only [List.length_take,List.length_drop,List.length_append,List.length_cons,List.length_nil,List.length_set,List.length_map];omega)|decide) (by first|omega|(simp only [List.length_take,List.length_drop,List.length_append,List.length_cons,List.length_nil,List.length_set,List.length_map];omega)|decide) _ rfl) (A2.pick [0] rfl) ?_
  refine dp' 2 13 [(24,bv (!(O0 ((g.getD i zwc).l) ((g.getD i zwc).b))))] ?_
  refine zdO 13 0 24 37 (!decide (((g.getD i zwc).l.length:Int)=((g.getD 0 zwc).l.length:Int))) (fun g7=>?_) ?_
  ·refine dp' 2 11 [(25,.slice gq g.length gk),(26,iv (i:Int))] ?_
   refine dd rfl (E8 A5a rfl rfl hq6 rfl i rfl (by omega)) ?_
   refine dp' 1 9 [(28,pa (Addr.add a5 (i * 2)))] ?_
   refine dd rfl (F9 (C8 (v:=.slice ((grs.getD i zwq).s.q) ((grs.getD i zwq).s.n) ((grs.getD i zwq).s.k)) (us:=[.slice ((grs.getD i zwq).s.q) ((grs.getD i zwq).s.n) ((grs.getD i zwq).s.k)]) A3e rfl rfl (A0g (G0 (c:=B7) (sz:=2) hq6 (fun _=>rfl) 1 rfl (gd zwq (by have:=hrowsgrs.1;omega))) (ws:=[.slice ((grs.getD i zwq).s.q) ((grs.getD i zwq).s.n) ((grs.getD i zwq).s.k)]) 1 rfl) rfl) (C3j hrowsgrs (by have:=hrowsgrs.1;omega))) ?_
   refine dp' 2 6 [(30,iv ((g.getD i zwc).l.length:Int)),(31,.slice gq g.length gk)] ?_
   refine A4g (B3x (k:=0) hrowsgrs 2 rfl (by have:=hrowsgrs.1;omega)) ?_
   have:=A7w hrowsgrs (k:=0) (by have:=hrowsgrs.1;omega)
   refine dd rfl (E8 A5a rfl rfl hq6 rfl 0 rfl (by omega)) ?_
   refine dp' 1 4 [(33,pa (Addr.add a5 (0 * 2)))] ?_
   refine dd rfl (F9 (C8 (v:=.slice ((grs.getD 0 zwq).s.q) ((grs.getD 0 zwq).s.n) ((grs.getD 0 zwq).s.k)) (us:=[.slice ((grs.getD 0 zwq).s.q) ((grs.getD 0 zwq).s.n) ((grs.getD 0 zwq).s.k)]) A3e rfl rfl (A0g (G0 (c:=B7) (sz:=2) hq6 (fun _=>rfl) 2 rfl (gd zwq (by have:=hrowsgrs.1;omega))) (ws:=[.slice ((grs.getD 0 zwq).s.q) ((grs.getD 0 zwq).s.n) ((grs.getD 0 zwq).s.k)]) 1 rfl) rfl) (C3j hrowsgrs (by have:=hrowsgrs.1;omega))) ?_
   refine dp' 3 0 [(37,bv (!decide (((g.getD i zwc).l.length:Int)=((g.getD 0 zwc).l.length:Int))))] ?_
   exact zad 12 24 37 g7
  refine de ?_
  refine zjb rfl hR ?_ ?_<;>clear hR<;>intro hR h8
  ·have h8p:=h8;try simp only [Bool.and_eq_true,Bool.or_eq_true,Bool.and_eq_false_iff,Bool.or_eq_false_iff,Bool.not_eq_true',Bool.not_eq_false',decide_eq_true_eq,decide_eq_false_iff_not] at h8p
   refine sr 1 rfl (ip' 1 0 [(2,bv false)] ?_)
   subst hR
   refine ie (A7 ?_)
   exact D5 hr hD
  have h8p:=h8;try simp only [Bool.and_eq_true,Bool.or_eq_true,Bool.and_eq_false_iff,Bool.or_eq_false_iff,Bool.not_eq_true',Bool.not_eq_false',decide_eq_true_eq,decide_eq_false_iff_not] at h8p
  refine A4 (nx (A5 3 rfl (ip' 1 2 [(16,iv (i:Int))] ?_)))
  refine ix rfl (B4 rfl rfl rfl rfl (by omega)) ?_
  refine ip' 1 0 [(3,iv ((i:Int)+1))] ?_
  refine A1 ?_
  exact B4g (z1:=i) (i+1) ⟨(by omega),hR⟩ (by (try dsimp only);omega) (mk [] rfl) (A2.pick [1,2] rfl)
 have h4p:¬ ((i:Int)<(g.length:Int)):=by simpa using h4
 rw [U2 h4p] at hR;replace hR:=(W6.eq_1 ..).symm.trans hR
 refine G2 (nx (sr 1 rfl (ip' 1 0 [(2,bv true)] ?_)))
 subst hR
 refine ie (A7 ?_)
 exact D5 hr hD
def O9 (g:List (Rwc Cel)) (cols:Int) (rows:Int):Bool :=
 (((decide ((g.length:Int)=rows))&&(V3 g))&&(decide (((g.getD 0 zwc).l.length:Int)=cols)))
theorem B0w (g:List (Rwc Cel)) (cols:Int) (rows:Int) (gq:Option Addr) (grs:List Rwq) (gk:Nat) (hrowsgrs:D0 grs g) (hlg:g.length≤9223372036854775807) (hcg:g.length≤gk) (hrw:1≤rows) (R:Bool) (hR:O9 g cols rows=R):I6 Tryz.prog 43 [.slice gq g.length gk,iv cols,iv rows] [sl B7 gq grs,B8 B2 grs g] (bv R):=by
 refine zco Tryz.func43 [(0,.slice gq g.length gk),(1,iv cols),(2,iv rows)] fun X hX hr hD=>?_
 replace hR:=(O9.eq_1 ..).symm.trans hR
 have:=hrowsgrs.1
 refine sr 1 rfl (ip' 1 0 [] ?_)
 refine ie (sr 18 rfl (ip' 5 13 [(11,bv (decide ((g.length:Int)=rows)))] ?_))
 refine zid 3 10 11 14 (V3 g) (fun g1 g1p=>?_) ?_
 ·refine ip' 1 2 [(12,.slice gq g.length gk)] ?_
  refine zca (B7p g gq grs gk hrowsgrs (by first|omega|(simp only [List.length_take,List.length_drop,List.length_append,List.length_cons,List.length_nil,List.length_set,List.length_map];omega)|decide) (by first|omega|(simp only [List.length_take,List.length_drop,List.length_append,List.length_cons,List.length_nil,List.length_set,List.length_map];omega)|decide) _ rfl) A2.refl ?_
  refine ip' 1 0 [(14,bv (V3 g))] ?_
  exact zai 4 11 14 g1
 refine ip' 1 9 [(15,bv ((decide ((g.length:Int)=rows))&&(V3 g)))] ?_
 refine zia 8 1 15 23 (decide (((g.getD 0 zwc).l.length:Int)=cols)) (fun g2=>?_) ?_
 ·have g2p:=g2;try simp only [Bool.and_eq_true,Bool.or_eq_true,Bool.and_eq_false_iff,Bool.or_eq_false_iff,Bool.not_eq_true',Bool.not_eq_false',decide_eq_true_eq,decide_eq_false_iff_not] at g2p
  refine ip' 1 7 [(16,.slice gq g.length gk)] ?_
  refine J3 0 rfl (by have:=hrowsgrs.1;omega) fun a3 hq4=>?_
  refine H6 (B3x (k:=0) hrowsgrs 1 rfl (by have:=hrowsgrs.1;omega)) ?_
  have:=A7w hrowsgrs (k:=0) (by have:=hrowsgrs.1;omega)
  refine ix rfl (E8 A5a rfl rfl hq4 rfl 0 rfl (by omega)) ?_
  refine ip' 1 5 [(18,pa (Addr.add a3 (0 * 2)))] ?_
  refine ix rfl (F9 (C8 (v:=.slice ((grs.getD 0 zwq).s.q) ((grs.getD 0 zwq).s.n) ((grs.getD 0 zwq).s.k)) (us:=[.slice ((grs.getD 0 zwq).s.q) ((grs.getD 0 zwq).s.n) ((grs.getD 0 zwq).s.k)]) A3e rfl rfl (A0g (G0 (c:=B7) (sz:=2) hq4 (fun _=>rfl) 1 rfl (gd zwq (by have:=hrowsgrs.1;omega))) (ws:=[.slice ((grs.getD 0 zwq).s.q) ((grs.getD 0 zwq).s.n) ((grs.getD 0 zwq).s.k)]) 1 rfl) rfl) (C3j hrowsgrs (by have:=hrowsgrs.1;omega))) ?_
  refine ip' 4 0 [(23,bv (decide (((g.getD 0 zwc).l.length:Int)=cols)))] ?_
  exact A1 (H1 6 15 23 g2 (A2.pick [1,2] rfl) (mk [] rfl) rfl rfl rfl rfl rfl)
 refine ip' 1 0 [(6,bv (((decide ((g.length:Int)=rows))&&(V3 g))&&(decide (((g.getD 0 zwc).l.length:Int)=cols))))] ?_
 subst hR
 refine ie (A7 ?_)
 exact D5 hr hD
def W3 (cols:Int):List (Rwc Cel)→Nat→Bool
 | [],i=>true
 | hd_l0::tl_l0,i=>(bif ((!(O0 (hd_l0.l) (hd_l0.b)))||(!decide ((hd_l0.l.length:Int)=cols))) then false else W3 cols tl_l0 (i+1))
def A0w (cols:Int) (p:List (Rwc Cel)):Bool :=
 (bif (decide ((100:Int)<(p.length:Int))) then false else W3 cols p 0)
theorem B9a (cols:Int) (p:List (Rwc Cel)) (pq:Option Addr) (prs:List Rwq) (pk:Nat) (hrowsprs:D0 prs p) (hlp:p.length≤9223372036854775807) (hcp:p.length≤pk) (R:Bool) (hR:A0w cols p=R):I6 Tryz.prog 44 [iv cols,.slice pq p.length pk] [sl B7 pq prs,B8 B2 prs p] (bv R):=by
 refine zco Tryz.func44 [(0,iv cols),(1,.slice pq p.length pk)] fun X hX hr hD=>?_
 replace hR:=(A0w.eq_1 ..).symm.trans hR
 have:=hrowsprs.1
 refine sr 1 rfl (ip' 1 0 [] ?_)
 refine ie (A3 (sr 3 rfl (ip' 3 0 [(8,bv (decide ((100:Int)<(p.length:Int))))] ?_)))
 refine ie ?_
 refine zjd rfl hR ?_ ?_<;>clear hR<;>intro hR h1 h1p
 ·refine sr 1 rfl (ip' 1 0 [(4,bv false)] ?_)
  subst hR
  refine ie (A7 ?_)
  exact D5 hr hD
 refine A4 (nx (A3 (sr 1 rfl (ip' 1 0 [(5,iv 0)] ?_))))
 refine ie (B0 (B3w (fun (i:Nat)=>(i≤p.length∧W3 cols (p.drop i) i=R,[(0,iv cols),(1,.slice pq p.length pk),(5,iv (i:Int))],[],[sl B7 pq prs,B8 B2 prs p],p.length - i)) 0 ⟨(by omega),hR⟩ (mk [] rfl) A2.refl ?_))
 rintro i ⟨hm2,hR⟩
 refine A3 (sr 4 rfl (ip' 4 0 [(12,bv (decide ((i:Int)<(p.length:Int))))] ?_))
 refine ie (S2 rfl (fun h3=>?_) (fun h3=>?_))
 ·have h3p:(i:Int)<(p.length:Int):=by simpa using h3
  rw [U1 zwc (show i<p.length by omega)] at hR;replace hR:=(W3.eq_2 ..).symm.trans hR
  refine A4 (nx (A3 (B0 (sr 16 rfl (ip' 2 14 [(15,.slice pq p.length pk),(16,iv (i:Int))] ?_)))))
  refine J3 0 rfl (by have:=hrowsprs.1;omega) fun a4 hq5=>?_
  refine H6 (B3x (k:=i) hrowsprs 1 rfl (by have:=hrowsprs.1;omega)) ?_
  have:=A7w hrowsprs (k:=i) (by have:=hrowsprs.1;omega)
  refine ix rfl (E8 A5a rfl rfl hq5 rfl i rfl (by omega)) ?_
  refine ix rfl (F9 (L4 (us:=[.slice ((prs.getD i zwq).s.q) ((prs.getD i zwq).s.n) ((prs.getD i zwq).s.k),bv ((prs.getD i zwq).b)]) B8a rfl rfl (G0 (c:=B7) (sz:=2) hq5 (fun _=>rfl) 1 rfl (gd zwq (by have:=hrowsprs.1;omega))) rfl) (B9h hrowsprs (by have:=hrowsprs.1;omega))) ?_
  refine zca (B1c ((p.getD i zwc).l) ((p.getD i zwc).b) ((prs.getD i zwq).s.q) ((prs.getD i zwq).s.k) (by first|omega|(simp only [List.length_take,List.length_drop,List.length_append,List.length_cons,List.length_nil,List.length_set,List.length_map];omega)|decide) (by first|omega|(simp only [List.length_take,List.length_drop,List.length_append,List.length_cons,List.length_nil,List.length_set,List.length_map];omega)|decide) _ rfl) (A2.pick [0] rfl) ?_
  refine ip' 2 9 [(21,bv (!(O0 ((p.getD i zwc).l) ((p.getD i zwc).b))))] ?_
  refine zio 9 0 21 30 (!decide (((p.getD i zwc).l.length:Int)=cols)) (fun g6=>?_) ?_
  ·refine ip' 2 7 [(22,.slice pq p.length pk),(23,iv (i:Int))] ?_
   refine ix rfl (E8 A5a rfl rfl hq5 rfl i rfl (by omega)) ?_
   refine ip' 1 5 [(25,pa (Addr.add a4 (i * 2)))] ?_
   refine ix rfl (F9 (C8 (v:=.slice ((prs.getD i zwq).s.q) ((prs.getD i zwq).s.n) ((prs.getD i zwq).s.k)) (us:=[.slice ((prs.getD i zwq).s.q) ((prs.getD i zwq).s.n) ((prs.getD i zwq).s.k)]) A3e rfl rfl (A0g (G0 (c:=B7) (sz:=2) hq5 (fun _=>rfl) 1 rfl (gd zwq (by have:=hrowsprs.1;omega))) (ws:=[.slice ((prs.getD i zwq).s.q) ((prs.getD i zwq).s.n) ((prs.getD i zwq).s.k)]) 1 rfl) rfl) (C3j hrowsprs (by have:=hrowsprs.1;omega))) ?_
   refine ip' 4 0 [(30,bv (!decide (((p.getD i zwc).l.length:Int)=cols)))] ?_
   exact zai 7 21 30 g6
  refine ie ?_
  refine zjb rfl hR ?_ ?_<;>clear hR<;>intro hR h7
  ·have h7p:=h7;try simp only [Bool.and_eq_true,Bool.or_eq_true,Bool.and_eq_false_iff,Bool.or_eq_false_iff,Bool.not_eq_true',Bool.not_eq_false',decide_eq_true_eq,decide_eq_false_iff_not] at h7p
   refine sr 1 rfl (ip' 1 0 [(4,bv false)] ?_)
   subst hR
   refine ie (A7 ?_)
   exact D5 hr hD
  have h7p:=h7;try simp only [Bool.and_eq_true,Bool.or_eq_true,Bool.and_eq_false_iff,Bool.or_eq_false_iff,Bool.not_eq_true',Bool.not_eq_false',decide_eq_true_eq,decide_eq_false_iff_not] at h7p
  refine A4 (nx (A5 3 rfl (ip' 1 2 [(13,iv (i:Int))] ?_)))
  refine ix rfl (B4 rfl rfl rfl rfl (by omega)) ?_
  refine ip' 1 0 [(5,iv ((i:Int)+1))] ?_
  refine A1 ?_
  exact B4g (z1:=i) (i+1) ⟨(by omega),hR⟩ (by (try dsimp only);omega) (mk [] rfl) (A2.pick [1,2] rfl)
 have h3p:¬ ((i:Int)<(p.length:Int)):=by simpa using h3
 rw [U2 h3p] at hR;replace hR:=(W3.eq_1 ..).symm.trans hR
 refine G2 (nx (sr 1 rfl (ip' 1 0 [(4,bv true)] ?_)))
 subst hR
 refine ie (A7 ?_)
 exact D5 hr hD
def X9 (fR:Int) (fC:Int) (fTop:Int) (fBottom:Int) (fOrigin:Bool) (c:Cur):Bool :=
 (((((decide ((0:Int)≤c.row))&&(decide (c.row<fR)))&&(decide ((0:Int)≤c.col)))&&(decide (c.col<fC)))&&((!c.wrap)||(decide (c.col=(IntKind.i64.wrap (fC - (1:Int)))))))
theorem B7f (fR:Int) (fC:Int) (fTop:Int) (fBottom:Int) (fOrigin:Bool) (c:Cur) (R:Bool) (hR:X9 fR fC fTop fBottom fOrigin c=R):I6 Tryz.prog 45 [ag [iv fR,iv fC,iv fTop,iv fBottom,bv fOrigin],ag (A4w c)] [] (bv R):=by
 refine zco Tryz.func45 [(0,ag [iv fR,iv fC,iv fTop,iv fBottom,bv fOrigin]),(1,ag (A4w c))] fun X hX hr hD=>?_
 replace hR:=(X9.eq_1 ..).symm.trans hR
 refine sr 3 rfl (A8y 3 0 [] (fun b1 b2=>[(2,pt b1 0),(3,pt b2 0)]) (fun b1 b2=>[bx b2 (A4w c) 38,bx b1 [iv fR,iv fC,iv fTop,iv fBottom,bv fOrigin] 88]) (fun b1 b2=>?_))
 refine ie (sr 36 rfl (zrl 4 32 [0] [(8,bv (decide ((0:Int)≤c.row)))] ?_))
 refine zid 6 26 8 14 (decide (c.row<fR)) (fun g3 g3p=>?_) ?_
 ·refine zrl 6 0 [0,1] [(14,bv (decide (c.row<fR)))] ?_
  exact A1 (H1 2 8 14 g3 fn0 (mk [true,true] rfl) rfl rfl rfl rfl rfl)
 refine ip' 1 25 [(15,bv ((decide ((0:Int)≤c.row))&&(decide (c.row<fR))))] ?_
 refine zia 4 21 15 19 (decide ((0:Int)≤c.col)) (fun g4=>?_) ?_
 ·have g4p:((0:Int)≤c.row)∧(c.row<fR):=by simpa using g4
  refine zrl 4 0 [0] [(19,bv (decide ((0:Int)≤c.col)))] ?_
  exact A1 (H1 2 15 19 g4 fn0 (mk [true,true] rfl) rfl rfl rfl rfl rfl)
 refine ip' 1 20 [(20,bv (((decide ((0:Int)≤c.row))&&(decide (c.row<fR)))&&(decide ((0:Int)≤c.col))))] ?_
 refine zia 6 14 20 26 (decide (c.col<fC)) (fun g5=>?_) ?_
 ·have g5p:(((0:Int)≤c.row)∧(c.row<fR))∧((0:Int)≤c.col):=by simpa using g5
  refine zrl 6 0 [0,1] [(26,bv (decide (c.col<fC)))] ?_
  exact A1 (H1 2 20 26 g5 fn0 (mk [true,true] rfl) rfl rfl rfl rfl rfl)
 refine ip' 1 13 [(27,bv ((((decide ((0:Int)≤c.row))&&(decide (c.row<fR)))&&(decide ((0:Int)≤c.col)))&&(decide (c.col<fC))))] ?_
 refine zia 12 1 27 39 ((!c.wrap)||(decide (c.col=(IntKind.i64.wrap (fC - (1:Int)))))) (fun g6=>?_) ?_
 ·have g6p:((((0:Int)≤c.row)∧(c.row<fR))∧((0:Int)≤c.col))∧(c.col<fC):=by simpa using g6
  refine zrl 4 8 [0] [(31,bv (!c.wrap))] ?_
  refine zio 7 1 31 38 (decide (c.col=(IntKind.i64.wrap (fC - (1:Int))))) (fun g7=>?_) ?_
  ·refine zrl 4 3 [0,1] [(33,iv c.col),(35,iv fC)] ?_
   refine ix rfl (I9.pure rfl) ?_
   refine ip' 2 0 [(38,bv (decide (c.col=(IntKind.i64.wrap (fC - (1:Int))))))] ?_
   exact A1 (H1 5 31 38 g7 fn0 (mk [true,true] rfl) rfl rfl rfl rfl rfl)
  refine ip' 1 0 [(39,bv ((!c.wrap)||(decide (c.col=(IntKind.i64.wrap (fC - (1:Int)))))))] ?_
  exact A1 (H1 4 27 39 g6 fn0 (mk [true,true] rfl) rfl rfl rfl rfl rfl)
 refine ip' 1 0 [(4,bv (((((decide ((0:Int)≤c.row))&&(decide (c.row<fR)))&&(decide ((0:Int)≤c.col)))&&(decide (c.col<fC)))&&((!c.wrap)||(decide (c.col=(IntKind.i64.wrap (fC - (1:Int))))))))] ?_
 subst hR
 refine ie (A7 ?_)
 exact D5 hr hD
def L8 (s:Sty):Bool :=
 (decide ((Y0 s)=0))
theorem B0y (s:Sty) (R:Bool) (hR:L8 s=R):I6 Tryz.prog 46 [ag (I8 s)] [] (bv R):=by
 refine zco Tryz.func46 [(0,ag (I8 s))] fun X hX hr hD=>?_
 replace hR:=(L8.eq_1 ..).symm.trans hR
 refine sr 2 rfl (I7 2 0 [] (fun b1=>[(1,pt b1 0)]) (fun b1=>[bx b1 (I8 s) 42]) (fun b1=>?_))
 refine ie (sr 4 rfl (zrl 1 3 [0] [(3,ag (I8 s))] ?_))
 refine zca (B1a s _ rfl) fn0 ?_
 refine ip' 2 0 [(2,bv (decide ((Y0 s)=0)))] ?_
 subst hR
 refine ie (A7 ?_)
 exact D5 hr hD
def N9 (s:Sts):Bool :=
 (bif ((!decide (s.g.a=0))&&(!decide (s.g.a=1))) then false else (bif ((!decide (s.g.b=0))&&(!decide (s.g.b=1))) then false else (bif ((!decide (s.g.c=0))&&(!decide (s.g.c=1))) then false else (bif ((!decide (s.g.d=0))&&(!decide (s.g.d=1))) then false else (((decide (s.used=0))||(decide (s.used=1)))&&(((decide (s.once=0))||(decide (s.once=2)))||(decide (s.once=3))))))))
theorem B1b (s:Sts) (R:Bool) (hR:N9 s=R):I6 Tryz.prog 47 [ag (A4x s)] [] (bv R):=by
 refine zco Tryz.func47 [(0,ag (A4x s))] fun X hX hr hD=>?_
 replace hR:=(N9.eq_1 ..).symm.trans hR
 refine sr 2 rfl (I7 2 0 [] (fun b1=>[(1,pt b1 0)]) (fun b1=>[bx b1 (A4x s) 45]) (fun b1=>?_))
 refine ie (A3 (sr 1 rfl (ip' 1 0 [(3,iv 0)] ?_)))
 refine ie (B0 (R6 5 ?_))
 refine D7 (A3 (sr 2 rfl (ip' 2 0 [(5,bv true)] ?_)))
 refine ie (H8 rfl (A4 (nx (A3 (B0 (sr 12 rfl (ip' 2 10 [(8,iv 0),(9,pt b1 0)] ?_)))))))
 refine ix rfl (Q9 Tryz.underlying43 ty3 rfl rfl rfl 0 rfl rfl) ?_
 refine zrl 3 6 [0] [(13,bv (!decide (s.g.a=0)))] ?_
 refine zia 6 0 13 19 (!decide (s.g.a=1)) (fun g2=>?_) ?_
 ·have g2p:¬ s.g.a=0:=by simpa using g2
  refine ip' 2 4 [(14,iv 0),(15,pt b1 0)] ?_
  refine ix rfl (Q9 Tryz.underlying43 ty3 rfl rfl rfl 0 rfl rfl) ?_
  refine zrl 3 0 [0] [(19,bv (!decide (s.g.a=1)))] ?_
  exact A1 (H1 5 13 19 g2 fn0 (mk [true] rfl) rfl rfl rfl rfl rfl)
 refine ie ?_
 refine zjb rfl hR ?_ ?_<;>clear hR<;>intro hR h3
 ·have h3p:(¬ s.g.a=0)∧(¬ s.g.a=1):=by simpa using h3
  refine sr 1 rfl (ip' 1 0 [(2,bv false)] ?_)
  subst hR
  refine ie (A7 ?_)
  exact D5 hr hD
 have h3p:¬ ((¬ s.g.a=0)∧(¬ s.g.a=1)):=by simpa using h3
 refine A4 (nx (A5 3 rfl (ip' 1 2 [(6,iv 0)] ?_)))
 refine ix rfl (B4 (c:=1) rfl rfl rfl rfl (by decide)) ?_
 refine ip' 1 0 [(3,iv 1)] ?_
 refine A1 (D7 (A3 (sr 2 rfl (ip' 2 0 [(5,bv true)] ?_))))
 refine ie (H8 rfl (A4 (nx (A3 (B0 (sr 12 rfl (ip' 2 10 [(8,iv 1),(9,pt b1 0)] ?_)))))))
 refine ix rfl (Q9 Tryz.underlying43 ty3 rfl rfl rfl 1 rfl rfl) ?_
 refine zrl 3 6 [0] [(13,bv (!decide (s.g.b=0)))] ?_
 refine zia 6 0 13 19 (!decide (s.g.b=1)) (fun g4=>?_) ?_
 ·have g4p:¬ s.g.b=0:=by simpa using g4
  refine ip' 2 4 [(14,iv 1),(15,pt b1 0)] ?_
  refine ix rfl (Q9 Tryz.underlying43 ty3 rfl rfl rfl 1 rfl rfl) ?_
  refine zrl 3 0 [0] [(19,bv (!decide (s.g.b=1)))] ?_
  exact A1 (H1 5 13 19 g4 fn0 (mk [true] rfl) rfl rfl rfl rfl rfl)
 refine ie ?_
 refine zjb rfl hR ?_ ?_<;>clear hR<;>intro hR h5
 ·have h5p:(¬ s.g.b=0)∧(¬ s.g.b=1):=by simpa using h5
  refine sr 1 rfl (ip' 1 0 [(2,bv false)] ?_)
  subst hR
  refine ie (A7 ?_)
  exact D5 hr hD
 have h5p:¬ ((¬ s.g.b=0)∧(¬ s.g.b=1)):=by simpa using h5
 refine A4 (nx (A5 3 rfl (ip' 1 2 [(6,iv 1)] ?_)))
 refine ix rfl (B4 (c:=2) rfl rfl rfl rfl (by decide)) ?_
 refine ip' 1 0 [(3,iv 2)] ?_
 refine A1 (D7 (A3 (sr 2 rfl (ip' 2 0 [(5,bv true)] ?_))))
 refine ie (H8 rfl (A4 (nx (A3 (B0 (sr 12 rfl (ip' 2 10 [(8,iv 2),(9,pt b1 0)] ?_)))))))
 refine ix rfl (Q9 Tryz.underlying43 ty3 rfl rfl rfl 2 rfl rfl) ?_
 refine zrl 3 6 [0] [(13,bv (!decide (s.g.c=0)))] ?_
 refine zia 6 0 13 19 (!decide (s.g.c=1)) (fun g6=>?_) ?_
 ·have g6p:¬ s.g.c=0:=by simpa using g6
  refine ip' 2 4 [(14,iv 2),(15,pt b1 0)] ?_
  refine ix rfl (Q9 Tryz.underlying43 ty3 rfl rfl rfl 2 rfl rfl) ?_
  refine zrl 3 0 [0] [(19,bv (!decide (s.g.c=1)))] ?_
  exact A1 (H1 5 13 19 g6 fn0 (mk [true] rfl) rfl rfl rfl rfl rfl)
 refine ie ?_
 refine zjb rfl hR ?_ ?_<;>clear hR<;>intro hR h7
 ·have h7p:(¬ s.g.c=0)∧(¬ s.g.c=1):=by simpa using h7
  refine sr 1 rfl (ip' 1 0 [(2,bv false)] ?_)
  subst hR
  refine ie (A7 ?_)
  exact D5 hr hD
 have h7p:¬ ((¬ s.g.c=0)∧(¬ s.g.c=1)):=by simpa using h7
 refine A4 (nx (A5 3 rfl (ip' 1 2 [(6,iv 2)] ?_)))
 refine ix rfl (B4 (c:=3) rfl rfl rfl rfl (by decide)) ?_
 refine ip' 1 0 [(3,iv 3)] ?_
 refine A1 (D7 (A3 (sr 2 rfl (ip' 2 0 [(5,bv true)] ?_))))
 refine ie (H8 rfl (A4 (nx (A3 (B0 (sr 12 rfl (ip' 2 10 [(8,iv 3),(9,pt b1 0)] ?_)))))))
 refine ix rfl (Q9 Tryz.underlying43 ty3 rfl rfl rfl 3 rfl rfl) ?_
 refine zrl 3 6 [0] [(13,bv (!decide (s.g.d=0)))] ?_
 refine zia 6 0 13 19 (!decide (s.g.d=1)) (fun g8=>?_) ?_
 ·have g8p:¬ s.g.d=0:=by simpa using g8
  refine ip' 2 4 [(14,iv 3),(15,pt b1 0)] ?_
  refine ix rfl (Q9 Tryz.underlying43 ty3 rfl rfl rfl 3 rfl rfl) ?_
  refine zrl 3 0 [0] [(19,bv (!decide (s.g.d=1)))] ?_
  exact A1 (H1 5 13 19 g8 fn0 (mk [true] rfl) rfl rfl rfl rfl rfl)
 refine ie ?_
 refine zjb rfl hR ?_ ?_<;>clear hR<;>intro hR h9
 ·have h9p:(¬ s.g.d=0)∧(¬ s.g.d=1):=by simpa using h9
  refine sr 1 rfl (ip' 1 0 [(2,bv false)] ?_)
  subst hR
  refine ie (A7 ?_)
  exact D5 hr hD
 have h9p:¬ ((¬ s.g.d=0)∧(¬ s.g.d=1)):=by simpa using h9
 refine A4 (nx (A5 3 rfl (ip' 1 2 [(6,iv 3)] ?_)))
 refine ix rfl (B4 (c:=4) rfl rfl rfl rfl (by decide)) ?_
 refine ip' 1 0 [(3,iv 4)] ?_
 refine A1 (D7 (A3 (sr 2 rfl (ip' 2 0 [(5,bv false)] ?_))))
 refine ie (A0m rfl (G2 (nx (sr 24 rfl (zrl 4 20 [0] [(23,bv (decide (s.used=0)))] ?_)))))
 refine zir 4 16 23 27 (decide (s.used=1)) (fun g10 g10p=>?_) ?_
 ·refine zrl 4 0 [0] [(27,bv (decide (s.used=1)))] ?_
  exact A1 (H1 2 23 27 g10 fn0 (mk [true] rfl) rfl rfl rfl rfl rfl)
 refine ip' 1 15 [(28,bv ((decide (s.used=0))||(decide (s.used=1))))] ?_
 refine zia 14 1 28 42 (((decide (s.once=0))||(decide (s.once=2)))||(decide (s.once=3))) (fun g11=>?_) ?_
 ·have g11p:(s.used=0)∨(s.used=1):=by simpa using g11
  refine zrl 4 10 [0] [(32,bv (decide (s.once=0)))] ?_
  refine zir 4 6 32 36 (decide (s.once=2)) (fun g12 g12p=>?_) ?_
  ·refine zrl 4 0 [0] [(36,bv (decide (s.once=2)))] ?_
   exact A1 (H1 2 32 36 g12 fn0 (mk [true] rfl) rfl rfl rfl rfl rfl)
  refine ip' 1 5 [(37,bv ((decide (s.once=0))||(decide (s.once=2))))] ?_
  refine zio 4 1 37 41 (decide (s.once=3)) (fun g13=>?_) ?_
  ·have g13p:¬ ((s.once=0)∨(s.once=2)):=by simpa using g13
   refine zrl 4 0 [0] [(41,bv (decide (s.once=3)))] ?_
   exact A1 (H1 2 37 41 g13 fn0 (mk [true] rfl) rfl rfl rfl rfl rfl)
  refine ip' 1 0 [(42,bv (((decide (s.once=0))||(decide (s.once=2)))||(decide (s.once=3))))] ?_
  exact A1 (H1 6 28 42 g11 fn0 (mk [true] rfl) rfl rfl rfl rfl rfl)
 refine ip' 1 0 [(2,bv (((decide (s.used=0))||(decide (s.used=1)))&&(((decide (s.once=0))||(decide (s.once=2)))||(decide (s.once=3)))))] ?_
 subst hR
 refine ie (A7 ?_)
 exact D5 hr hD
def A0s (n:Int):Bool :=
 ((((decide (n=9))||(decide (n=1000)))||(decide (n=1002)))||(decide (n=1003)))
theorem B8t (n:Int) (R:Bool) (hR:A0s n=R):I6 Tryz.prog 81 [iv n] [] (bv R):=by
 refine zco Tryz.func81 [(0,iv n)] fun X hX hr hD=>?_
 replace hR:=(A0s.eq_1 ..).symm.trans hR
 refine sr 1 rfl (ip' 1 0 [] ?_)
 refine ie (sr 15 rfl (ip' 3 12 [(5,bv (decide (n=9)))] ?_))
 refine zir 3 9 5 8 (decide (n=1000)) (fun g1 g1p=>?_) ?_
 ·refine ip' 3 0 [(8,bv (decide (n=1000)))] ?_
  exact A1 (H1 2 5 8 g1 fn0 (mk [] rfl) rfl rfl rfl rfl rfl)
 refine ip' 1 8 [(9,bv ((decide (n=9))||(decide (n=1000))))] ?_
 refine zio 3 5 9 12 (decide (n=1002)) (fun g2=>?_) ?_
 ·have g2p:¬ ((n=9)∨(n=1000)):=by simpa using g2
  refine ip' 3 0 [(12,bv (decide (n=1002)))] ?_
  exact A1 (H1 2 9 12 g2 fn0 (mk [] rfl) rfl rfl rfl rfl rfl)
 refine ip' 1 4 [(13,bv (((decide (n=9))||(decide (n=1000)))||(decide (n=1002))))] ?_
 refine zio 3 1 13 16 (decide (n=1003)) (fun g3=>?_) ?_
 ·have g3p:¬ (((n=9)∨(n=1000))∨(n=1002)):=by simpa using g3
  refine ip' 3 0 [(16,bv (decide (n=1003)))] ?_
  exact A1 (H1 2 13 16 g3 fn0 (mk [] rfl) rfl rfl rfl rfl rfl)
 refine ip' 1 0 [(2,bv ((((decide (n=9))||(decide (n=1000)))||(decide (n=1002)))||(decide (n=1003))))] ?_
 subst hR
 refine ie (A7 ?_)
 exact D5 hr hD
def Z8 (m:Mod):Bool :=
 ((decide (m.mouse=0))||(A0s m.mouse))
theorem B8d (m:Mod) (R:Bool) (hR:Z8 m=R):I6 Tryz.prog 48 [ag (A2m m)] [] (bv R):=by
 refine zco Tryz.func48 [(0,ag (A2m m))] fun X hX hr hD=>?_
 replace hR:=(Z8.eq_1 ..).symm.trans hR
 refine sr 2 rfl (I7 2 0 [] (fun b1=>[(1,pt b1 0)]) (fun b1=>[bx b1 (A2m m) 47]) (fun b1=>?_))
 refine ie (sr 9 rfl (zrl 4 5 [0] [(6,bv (decide (m.mouse=0)))] ?_))
 refine zir 4 1 6 10 (A0s m.mouse) (fun g2 g2p=>?_) ?_
 ·refine zrl 2 2 [0] [(8,iv m.mouse)] ?_
  refine zca (B8t m.mouse _ rfl) fn0 ?_
  refine ip' 1 0 [(10,bv (A0s m.mouse))] ?_
  exact A1 (H1 4 6 10 g2 fn0 (mk [true] rfl) rfl rfl rfl rfl rfl)
 refine ip' 1 0 [(2,bv ((decide (m.mouse=0))||(A0s m.mouse)))] ?_
 subst hR
 refine ie (A7 ?_)
 exact D5 hr hD
def N0 (fR:Int) (fC:Int) (fTop:Int) (fBottom:Int) (fOrigin:Bool) (s:Sav):Bool :=
 (bif (!s.is_) then (decide (s=Sav.zero)) else (((X9 fR fC fTop fBottom fOrigin s.cursor)&&(L8 s.style))&&(N9 s.sets)))
theorem B0u (fR:Int) (fC:Int) (fTop:Int) (fBottom:Int) (fOrigin:Bool) (s:Sav) (R:Bool) (hR:N0 fR fC fTop fBottom fOrigin s=R):I6 Tryz.prog 49 [ag [iv fR,iv fC,iv fTop,iv fBottom,bv fOrigin],ag (A1t s)] [] (bv R):=by
 refine zco Tryz.func49 [(0,ag [iv fR,iv fC,iv fTop,iv fBottom,bv fOrigin]),(1,ag (A1t s))] fun X hX hr hD=>?_
 replace hR:=(N0.eq_1 ..).symm.trans hR
 refine sr 3 rfl (A8y 3 0 [] (fun b1 b2=>[(2,pt b1 0),(3,pt b2 0)]) (fun b1 b2=>[bx b2 (A1t s) 50,bx b1 [iv fR,iv fC,iv fTop,iv fBottom,bv fOrigin] 88]) (fun b1 b2=>?_))
 refine ie (A3 (sr 3 rfl (zrl 3 0 [0] [(7,bv (!s.is_))] ?_)))
 refine ie ?_
 refine zjb rfl hR ?_ ?_<;>clear hR<;>intro hR h3
 ·refine sr 4 rfl (zrl 2 2 [0] [(8,ag (A1t s)),(9,ag (A1t Sav.zero))] ?_)
  refine ix rfl (A6t (a:=s) (b:=Sav.zero) D2f rfl rfl rfl) ?_
  refine ip' 1 0 [(4,bv (decide (s=Sav.zero)))] ?_
  subst hR
  refine ie (A7 ?_)
  exact D5 hr hD
 refine A4 (nx (sr 15 rfl (zrl 3 12 [1,0] [(11,ag [iv fR,iv fC,iv fTop,iv fBottom,bv fOrigin]),(13,ag (A4w s.cursor))] ?_)))
 refine zca (B7f fR fC fTop fBottom fOrigin s.cursor _ rfl) fn0 ?_
 refine ip' 1 10 [(15,bv (X9 fR fC fTop fBottom fOrigin s.cursor))] ?_
 refine zia 4 6 15 19 (L8 s.style) (fun g4=>?_) ?_
 ·refine zrl 2 2 [0] [(17,ag (I8 s.style))] ?_
  refine zca (B0y s.style _ rfl) fn0 ?_
  refine ip' 1 0 [(19,bv (L8 s.style))] ?_
  exact A1 (H1 4 15 19 g4 fn0 (mk [true,true] rfl) rfl rfl rfl rfl rfl)
 refine ip' 1 5 [(20,bv ((X9 fR fC fTop fBottom fOrigin s.cursor)&&(L8 s.style)))] ?_
 refine zia 4 1 20 24 (N9 s.sets) (fun g5=>?_) ?_
 ·have g5p:=g5;try simp only [Bool.and_eq_true,Bool.or_eq_true,Bool.and_eq_false_iff,Bool.or_eq_false_iff,Bool.not_eq_true',Bool.not_eq_false',decide_eq_true_eq,decide_eq_false_iff_not] at g5p
  refine zrl 2 2 [0] [(22,ag (A4x s.sets))] ?_
  refine zca (B1b s.sets _ rfl) fn0 ?_
  refine ip' 1 0 [(24,bv (N9 s.sets))] ?_
  exact A1 (H1 4 20 24 g5 fn0 (mk [true,true] rfl) rfl rfl rfl rfl rfl)
 refine ip' 1 0 [(4,bv (((X9 fR fC fTop fBottom fOrigin s.cursor)&&(L8 s.style))&&(N9 s.sets)))] ?_
 subst hR
 refine ie (A7 ?_)
 exact D5 hr hD
def A1h (s:List UInt8):Bool :=
 (A2c 0 0 Col.zero s)
theorem B8v (s:List UInt8) (R:Bool) (hR:A1h s=R):I6 Tryz.prog 50 [sv s] [] (bv R):=by
 refine zco Tryz.func50 [(0,sv s)] fun X hX hr hD=>?_
 replace hR:=(A1h.eq_1 ..).symm.trans hR
 refine sr 1 rfl (ip' 1 0 [] ?_)
 refine ie (sr 4 rfl (zrl 2 2 [] [(4,ag (H0 ({Act.zero with kind:=44,text:=s})))] ?_))
 refine zca (B8h 0 0 Col.zero s _ rfl) fn0 ?_
 refine ip' 1 0 [(2,bv (A2c 0 0 Col.zero s))] ?_
 subst hR
 refine ie (A7 ?_)
 exact D5 hr hD
def A0r (s:ScrC) (sMain:List (Rwc Cel)) (sAlt:List (Rwc Cel)) (sPast:List (Rwc Cel)) (sTabs:List Bool):Bool :=
 (F1 (A4c s sMain sAlt sPast sTabs) fun (y0:Int×Int×Int×Int×Bool)=>(bif ((((!(M1 y0.1 y0.2.1 y0.2.2.1 y0.2.2.2.1 y0.2.2.2.2))||(!(O9 sMain s.cols s.rows)))||(!(O9 sAlt s.cols s.rows)))||(!(A0w s.cols sPast))) then false else (bif (((((!(X9 y0.1 y0.2.1 y0.2.2.1 y0.2.2.2.1 y0.2.2.2.2 s.cursor))||(!(L8 s.style)))||(!(N9 s.sets)))||(!(Z8 s.modes)))||(!decide ((sTabs.length:Int)=s.cols))) then false else (bif (((((!(N0 y0.1 y0.2.1 y0.2.2.1 y0.2.2.2.1 y0.2.2.2.2 s.kept))||(!(N0 y0.1 y0.2.1 y0.2.2.1 y0.2.2.2.1 y0.2.2.2.2 s.keptAlt)))||(decide (s.shape<0)))||(decide ((6:Int)<s.shape)))||(!(A1h s.title))) then false else ((decide (s.last=0))||(decide ((0:Int)<(G3 s.last))))))))
theorem B7y (s:ScrC) (sMain:List (Rwc Cel)) (sAlt:List (Rwc Cel)) (sPast:List (Rwc Cel)) (sTabs:List Bool) (sMainq:Option Addr) (sMainrs:List Rwq) (sMaink:Nat) (sAltq:Option Addr) (sAltrs:List Rwq) (sAltk:Nat) (sPastq:Option Addr) (sPastrs:List Rwq) (sPastk:Nat) (sTabsq:Option Addr) (sTabsk:Nat) (hrowssMainrs:D0 sMainrs sMain) (hlsMain:sMain.length≤9223372036854775807) (hcsMain:sMain.length≤sMaink) (hrowssAltrs:D0 sAltrs sAlt) (hlsAlt:sAlt.length≤9223372036854775807) (hcsAlt:sAlt.length≤sAltk) (hrowssPastrs:D0 sPastrs sPast) (hlsPast:sPast.length≤9223372036854775807) (hcsPast:sPast.length≤sPastk) (hlsTabs:sTabs.length≤9223372036854775807) (hcsTabs:sTabs.length≤sTabsk) (R:Bool) (hR:A0r s sMain sAlt sPast sTabs=R):I6 Tryz.prog 20 [ag (A6 s ⟨sMainq,sMain.length,sMaink⟩ ⟨sAltq,sAlt.length,sAltk⟩ ⟨sPastq,sPast.length,sPastk⟩ ⟨sTabsq,sTabs.length,sTabsk⟩)] [sl B7 sMainq sMainrs,B8 B2 sMainrs sMain,sl B7 sAltq sAltrs,B8 B2 sAltrs sAlt,sl B7 sPastq sPastrs,B8 B2 sPastrs sPast,sl F4 sTabsq sTabs] (bv R):=by
 refine zco Tryz.func20 [(0,ag (A6 s ⟨sMainq,sMain.length,sMaink⟩ ⟨sAltq,sAlt.length,sAltk⟩ ⟨sPastq,sPast.length,sPastk⟩ ⟨sTabsq,sTabs.length,sTabsk⟩))] fun X hX hr hD=>?_
 replace hR:=(A0r.eq_1 ..).symm.trans hR
 have:=hrowssMainrs.1
 have:=hrowssAltrs.1
 have:=hrowssPastrs.1
 refine sr 2 rfl (I7 2 0 [] (fun b1=>[(1,pt b1 0)]) (fun b1=>[bx b1 (A6 s ⟨sMainq,sMain.length,sMaink⟩ ⟨sAltq,sAlt.length,sAltk⟩ ⟨sPastq,sPast.length,sPastk⟩ ⟨sTabsq,sTabs.length,sTabsk⟩) 52]) (fun b1=>?_))
 refine ie (sr 4 rfl (zrl 1 3 [0] [(4,ag (A6 s ⟨sMainq,sMain.length,sMaink⟩ ⟨sAltq,sAlt.length,sAltk⟩ ⟨sPastq,sPast.length,sPastk⟩ ⟨sTabsq,sTabs.length,sTabsk⟩))] ?_))
 have hQ:=G6 hR;clear hR;obtain ⟨y0,hy0,hR⟩:=hQ
 refine zca (B8x s sMain sAlt sPast sTabs sMainq sMainrs sMaink sAltq sAltrs sAltk sPastq sPastrs sPastk sTabsq sTabsk hrowssMainrs (by first|omega|(simp only [List.length_take,List.length_drop,List.length_append,List.length_cons,List.length_nil,List.length_set,List.length_map];omega)|decide) (by first|omega|(simp only [List.length_take,List.length_drop,List.length_append,List.length_cons,List.length_nil,List.length_set,List.length_map];omega)|decide) hrowssAltrs (by first|omega|(simp only [List.length_take,List.length_drop,List.length_append,List.length_cons,List.length_nil,List.length_set,List.length_map];omega)|decide) (by first|omega|(simp only [List.length_take,List.length_drop,List.length_append,List.length_cons,List.length_nil,List.length_set,List.length_map];omega)|decide) hrowssPastrs (by first|omega|(simp only [List.length_take,List.length_drop,List.length_append,List.length_cons,List.length_nil,List.length_set,List.length_map];omega)|decide) (by first|omega|(simp only [List.length_take,List.length_drop,List.length_append,List.length_cons,List.length_nil,List.length_set,List.length_map];omega)|decide) (by first|omega|(simp only [List.length_take,List.length_drop,List.length_append,List.length_cons,List.length_nil,List.length_set,List.length_map];omega)|decide) (by first|omega|(simp only [List.length_take,List.length_drop,List.length_append,List.length_cons,List.length_nil,List.length_set,List.length_map];omega)|decide) y0 hy0) A2.refl ?_
 have hfz:=B6j s sMain sAlt sPast sTabs;rw [hy0] at hfz
 refine I7 2 0 [0] (fun b2=>[(3,pt b2 0)]) (fun b2=>[bx b2 [iv y0.1,iv y0.2.1,iv y0.2.2.1,iv y0.2.2.2.1,bv y0.2.2.2.2] 88,bx b1 (A6 s ⟨sMainq,sMain.length,sMaink⟩ ⟨sAltq,sAlt.length,sAltk⟩ ⟨sPastq,sPast.length,sPastk⟩ ⟨sTabsq,sTabs.length,sTabsk⟩) 52]) (fun b2=>?_)
 refine ie (A3 (sr 31 rfl (zrl 1 30 [0] [(6,ag [iv y0.1,iv y0.2.1,iv y0.2.2.1,iv y0.2.2.2.1,bv y0.2.2.2.2])] ?_)))
 refine zca (B8s y0.1 y0.2.1 y0.2.2.1 y0.2.2.2.1 y0.2.2.2.2 _ rfl) fn0 ?_
 refine ip' 2 27 [(9,bv (!(M1 y0.1 y0.2.1 y0.2.2.1 y0.2.2.2.1 y0.2.2.2.2)))] ?_
 refine zio 9 18 9 18 (!(O9 sMain s.cols s.rows)) (fun g3=>?_) ?_
 ·refine zrl 6 3 [1,1,1] [(11,.slice sMainq sMain.length sMaink),(13,iv s.cols),(15,iv s.rows)] ?_
  refine zca (B0w sMain s.cols s.rows sMainq sMainrs sMaink hrowssMainrs (by first|omega|(simp only [List.length_take,List.length_drop,List.length_append,List.length_cons,List.length_nil,List.length_set,List.length_map];omega)|decide) (by first|omega|(simp only [List.length_take,List.length_drop,List.length_append,List.length_cons,List.length_nil,List.length_set,List.length_map];omega)|decide) (by first|omega|(have hh:M1 y0.1 y0.2.1 y0.2.2.1 y0.2.2.2.1 y0.2.2.2.2=true:=(by cases hq:M1 y0.1 y0.2.1 y0.2.2.1 y0.2.2.2.1 y0.2.2.2.2 with|true=>rfl|false=>(exfalso;simp only [hq,Bool.not_false,Bool.true_or,Bool.false_eq_true,Bool.true_eq_false,reduceCtorEq] at *));have hh:=B0e hh;omega)) _ rfl) (A2.pick [0,1] rfl) ?_
  refine ip' 2 0 [(18,bv (!(O9 sMain s.cols s.rows)))] ?_
  exact zai 6 9 18 g3
 refine ip' 1 17 [(19,bv ((!(M1 y0.1 y0.2.1 y0.2.2.1 y0.2.2.2.1 y0.2.2.2.2))||(!(O9 sMain s.cols s.rows))))] ?_
 refine zio 9 8 19 28 (!(O9 sAlt s.cols s.rows)) (fun g4=>?_) ?_
 ·have g4p:=g4;try simp only [Bool.and_eq_true,Bool.or_eq_true,Bool.and_eq_false_iff,Bool.or_eq_false_iff,Bool.not_eq_true',Bool.not_eq_false',decide_eq_true_eq,decide_eq_false_iff_not] at g4p
  refine zrl 6 3 [1,1,1] [(21,.slice sAltq sAlt.length sAltk),(23,iv s.cols),(25,iv s.rows)] ?_
  refine zca (B0w sAlt s.cols s.rows sAltq sAltrs sAltk hrowssAltrs (by first|omega|(simp only [List.length_take,List.length_drop,List.length_append,List.length_cons,List.length_nil,List.length_set,List.length_map];omega)|decide) (by first|omega|(simp only [List.length_take,List.length_drop,List.length_append,List.length_cons,List.length_nil,List.length_set,List.length_map];omega)|decide) (by first|omega|(have hh:M1 y0.1 y0.2.1 y0.2.2.1 y0.2.2.2.1 y0.2.2.2.2=true:=(by cases hq:M1 y0.1 y0.2.1 y0.2.2.1 y0.2.2.2.1 y0.2.2.2.2 with|true=>rfl|false=>(exfalso;simp only [hq,Bool.not_false,Bool.true_or,Bool.false_eq_true,Bool.true_eq_false,reduceCtorEq] at *));have hh:=B0e hh;omega)) _ rfl) (A2.pick [2,3] rfl) ?_
  refine ip' 2 0 [(28,bv (!(O9 sAlt s.cols s.rows)))] ?_
  exact zai 6 19 28 g4
 refine ip' 1 7 [(29,bv (((!(M1 y0.1 y0.2.1 y0.2.2.1 y0.2.2.2.1 y0.2.2.2.2))||(!(O9 sMain s.cols s.rows)))||(!(O9 sAlt s.cols s.rows))))] ?_
 refine zio 7 0 29 36 (!(A0w s.cols sPast)) (fun g5=>?_) ?_
 ·have g5p:=g5;try simp only [Bool.and_eq_true,Bool.or_eq_true,Bool.and_eq_false_iff,Bool.or_eq_false_iff,Bool.not_eq_true',Bool.not_eq_false',decide_eq_true_eq,decide_eq_false_iff_not] at g5p
  refine zrl 4 3 [1,1] [(31,iv s.cols),(33,.slice sPastq sPast.length sPastk)] ?_
  refine zca (B9a s.cols sPast sPastq sPastrs sPastk hrowssPastrs (by first|omega|(simp only [List.length_take,List.length_drop,List.length_append,List.length_cons,List.length_nil,List.length_set,List.length_map];omega)|decide) (by first|omega|(simp only [List.length_take,List.length_drop,List.length_append,List.length_cons,List.length_nil,List.length_set,List.length_map];omega)|decide) _ rfl) (A2.pick [4,5] rfl) ?_
  refine ip' 2 0 [(36,bv (!(A0w s.cols sPast)))] ?_
  exact zai 5 29 36 g5
 refine ie ?_
 refine zjb rfl hR ?_ ?_<;>clear hR<;>intro hR h6
 ·have h6p:=h6;try simp only [Bool.and_eq_true,Bool.or_eq_true,Bool.and_eq_false_iff,Bool.or_eq_false_iff,Bool.not_eq_true',Bool.not_eq_false',decide_eq_true_eq,decide_eq_false_iff_not] at h6p
  refine sr 1 rfl (ip' 1 0 [(2,bv false)] ?_)
  subst hR
  refine ie (A7 ?_)
  exact D5 hr hD
 have h6p:=h6;try simp only [Bool.and_eq_true,Bool.or_eq_true,Bool.and_eq_false_iff,Bool.or_eq_false_iff,Bool.not_eq_true',Bool.not_eq_false',decide_eq_true_eq,decide_eq_false_iff_not] at h6p
 refine A4 (nx (A3 (sr 31 rfl (zrl 3 28 [0,1] [(37,ag [iv y0.1,iv y0.2.1,iv y0.2.2.1,iv y0.2.2.2.1,bv y0.2.2.2.2]),(39,ag (A4w s.cursor))] ?_))))
 refine zca (B7f y0.1 y0.2.1 y0.2.2.1 y0.2.2.2.1 y0.2.2.2.2 s.cursor _ rfl) fn0 ?_
 refine ip' 2 25 [(42,bv (!(X9 y0.1 y0.2.1 y0.2.2.1 y0.2.2.2.1 y0.2.2.2.2 s.cursor)))] ?_
 refine zio 5 20 42 47 (!(L8 s.style)) (fun g7=>?_) ?_
 ·refine zrl 2 3 [1] [(44,ag (I8 s.style))] ?_
  refine zca (B0y s.style _ rfl) fn0 ?_
  refine ip' 2 0 [(47,bv (!(L8 s.style)))] ?_
  exact zai 4 42 47 g7
 refine ip' 1 19 [(48,bv ((!(X9 y0.1 y0.2.1 y0.2.2.1 y0.2.2.2.1 y0.2.2.2.2 s.cursor))||(!(L8 s.style))))] ?_
 refine zio 5 14 48 53 (!(N9 s.sets)) (fun g8=>?_) ?_
 ·have g8p:=g8;try simp only [Bool.and_eq_true,Bool.or_eq_true,Bool.and_eq_false_iff,Bool.or_eq_false_iff,Bool.not_eq_true',Bool.not_eq_false',decide_eq_true_eq,decide_eq_false_iff_not] at g8p
  refine zrl 2 3 [1] [(50,ag (A4x s.sets))] ?_
  refine zca (B1b s.sets _ rfl) fn0 ?_
  refine ip' 2 0 [(53,bv (!(N9 s.sets)))] ?_
  exact zai 4 48 53 g8
 refine ip' 1 13 [(54,bv (((!(X9 y0.1 y0.2.1 y0.2.2.1 y0.2.2.2.1 y0.2.2.2.2 s.cursor))||(!(L8 s.style)))||(!(N9 s.sets))))] ?_
 refine zio 5 8 54 59 (!(Z8 s.modes)) (fun g9=>?_) ?_
 ·have g9p:=g9;try simp only [Bool.and_eq_true,Bool.or_eq_true,Bool.and_eq_false_iff,Bool.or_eq_false_iff,Bool.not_eq_true',Bool.not_eq_false',decide_eq_true_eq,decide_eq_false_iff_not] at g9p
  refine zrl 2 3 [1] [(56,ag (A2m s.modes))] ?_
  refine zca (B8d s.modes _ rfl) fn0 ?_
  refine ip' 2 0 [(59,bv (!(Z8 s.modes)))] ?_
  exact zai 4 54 59 g9
 refine ip' 1 7 [(60,bv ((((!(X9 y0.1 y0.2.1 y0.2.2.1 y0.2.2.2.1 y0.2.2.2.2 s.cursor))||(!(L8 s.style)))||(!(N9 s.sets)))||(!(Z8 s.modes))))] ?_
 refine zio 7 0 60 67 (!decide ((sTabs.length:Int)=s.cols)) (fun g10=>?_) ?_
 ·have g10p:=g10;try simp only [Bool.and_eq_true,Bool.or_eq_true,Bool.and_eq_false_iff,Bool.or_eq_false_iff,Bool.not_eq_true',Bool.not_eq_false',decide_eq_true_eq,decide_eq_false_iff_not] at g10p
  refine zrl 7 0 [1,1] [(67,bv (!decide ((sTabs.length:Int)=s.cols)))] ?_
  exact zai 2 60 67 g10
 refine ie ?_
 refine zjb rfl hR ?_ ?_<;>clear hR<;>intro hR h11
 ·have h11p:=h11;try simp only [Bool.and_eq_true,Bool.or_eq_true,Bool.and_eq_false_iff,Bool.or_eq_false_iff,Bool.not_eq_true',Bool.not_eq_false',decide_eq_true_eq,decide_eq_false_iff_not] at h11p
  refine sr 1 rfl (ip' 1 0 [(2,bv false)] ?_)
  subst hR
  refine ie (A7 ?_)
  exact D5 hr hD
 have h11p:=h11;try simp only [Bool.and_eq_true,Bool.or_eq_true,Bool.and_eq_false_iff,Bool.or_eq_false_iff,Bool.not_eq_true',Bool.not_eq_false',decide_eq_true_eq,decide_eq_false_iff_not] at h11p
 refine A4 (nx (A3 (sr 28 rfl (zrl 3 25 [0,1] [(68,ag [iv y0.1,iv y0.2.1,iv y0.2.2.1,iv y0.2.2.2.1,bv y0.2.2.2.2]),(70,ag (A1t s.kept))] ?_))))
 refine zca (B0u y0.1 y0.2.1 y0.2.2.1 y0.2.2.2.1 y0.2.2.2.2 s.kept _ rfl) fn0 ?_
 refine ip' 2 22 [(73,bv (!(N0 y0.1 y0.2.1 y0.2.2.1 y0.2.2.2.1 y0.2.2.2.2 s.kept)))] ?_
 refine zio 6 16 73 79 (!(N0 y0.1 y0.2.1 y0.2.2.1 y0.2.2.2.1 y0.2.2.2.2 s.keptAlt)) (fun g12=>?_) ?_
 ·refine zrl 3 3 [0,1] [(74,ag [iv y0.1,iv y0.2.1,iv y0.2.2.1,iv y0.2.2.2.1,bv y0.2.2.2.2]),(76,ag (A1t s.keptAlt))] ?_
  refine zca (B0u y0.1 y0.2.1 y0.2.2.1 y0.2.2.2.1 y0.2.2.2.2 s.keptAlt _ rfl) fn0 ?_
  refine ip' 2 0 [(79,bv (!(N0 y0.1 y0.2.1 y0.2.2.1 y0.2.2.2.1 y0.2.2.2.2 s.keptAlt)))] ?_
  exact zai 5 73 79 g12
 refine ip' 1 15 [(80,bv ((!(N0 y0.1 y0.2.1 y0.2.2.1 y0.2.2.2.1 y0.2.2.2.2 s.kept))||(!(N0 y0.1 y0.2.1 y0.2.2.1 y0.2.2.2.1 y0.2.2.2.2 s.keptAlt))))] ?_
 refine zio 4 11 80 84 (decide (s.shape<0)) (fun g13=>?_) ?_
 ·have g13p:=g13;try simp only [Bool.and_eq_true,Bool.or_eq_true,Bool.and_eq_false_iff,Bool.or_eq_false_iff,Bool.not_eq_true',Bool.not_eq_false',decide_eq_true_eq,decide_eq_false_iff_not] at g13p
  refine zrl 4 0 [1] [(84,bv (decide (s.shape<0)))] ?_
  exact zai 2 80 84 g13
 refine ip' 1 10 [(85,bv (((!(N0 y0.1 y0.2.1 y0.2.2.1 y0.2.2.2.1 y0.2.2.2.2 s.kept))||(!(N0 y0.1 y0.2.1 y0.2.2.1 y0.2.2.2.1 y0.2.2.2.2 s.keptAlt)))||(decide (s.shape<0))))] ?_
 refine zio 4 6 85 89 (decide ((6:Int)<s.shape)) (fun g14=>?_) ?_
 ·have g14p:=g14;try simp only [Bool.and_eq_true,Bool.or_eq_true,Bool.and_eq_false_iff,Bool.or_eq_false_iff,Bool.not_eq_true',Bool.not_eq_false',decide_eq_true_eq,decide_eq_false_iff_not] at g14p
  refine zrl 4 0 [1] [(89,bv (decide ((6:Int)<s.shape)))] ?_
  exact zai 2 85 89 g14
 refine ip' 1 5 [(90,bv ((((!(N0 y0.1 y0.2.1 y0.2.2.1 y0.2.2.2.1 y0.2.2.2.2 s.kept))||(!(N0 y0.1 y0.2.1 y0.2.2.1 y0.2.2.2.1 y0.2.2.2.2 s.keptAlt)))||(decide (s.shape<0)))||(decide ((6:Int)<s.shape))))] ?_
 refine zio 5 0 90 95 (!(A1h s.title)) (fun g15=>?_) ?_
 ·have g15p:=g15;try simp only [Bool.and_eq_true,Bool.or_eq_true,Bool.and_eq_false_iff,Bool.or_eq_false_iff,Bool.not_eq_true',Bool.not_eq_false',decide_eq_true_eq,decide_eq_false_iff_not] at g15p
  refine zrl 2 3 [1] [(92,sv s.title)] ?_
  refine zca (B8v s.title _ rfl) fn0 ?_
  refine ip' 2 0 [(95,bv (!(A1h s.title)))] ?_
  exact zai 4 90 95 g15
 refine ie ?_
 refine zjb rfl hR ?_ ?_<;>clear hR<;>intro hR h16
 ·have h16p:=h16;try simp only [Bool.and_eq_true,Bool.or_eq_true,Bool.and_eq_false_iff,Bool.or_eq_false_iff,Bool.not_eq_true',Bool.not_eq_false',decide_eq_true_eq,decide_eq_false_iff_not] at h16p
  refine sr 1 rfl (ip' 1 0 [(2,bv false)] ?_)
  subst hR
  refine ie (A7 ?_)
  exact D5 hr hD
 have h16p:=h16;try simp only [Bool.and_eq_true,Bool.or_eq_true,Bool.and_eq_false_iff,Bool.or_eq_false_iff,Bool.not_eq_true',Bool.not_eq_false',decide_eq_true_eq,decide_eq_false_iff_not] at h16p
 refine A4 (nx (sr 10 rfl (zrl 4 6 [1] [(99,bv (decide (s.last=0)))] ?_)))
 refine zir 5 1 99 104 (decide ((0:Int)<(G3 s.last))) (fun g17 g17p=>?_) ?_
 ·refine zrl 2 3 [1] [(101,iv s.last)] ?_
  refine zca (A8a s.last _ rfl) fn0 ?_
  refine ip' 2 0 [(104,bv (decide ((0:Int)<(G3 s.last))))] ?_
  exact zai 4 99 104 g17
 refine ip' 1 0 [(2,bv ((decide (s.last=0))||(decide ((0:Int)<(G3 s.last)))))] ?_
 subst hR
 refine ie (A7 ?_)
 exact D5 hr hD
def A0a (s:ScrC):List (Rwc Cel)→Nat→List (List Cel)→(FrmC×List (List Cel))
 | [],i,fR=>((⟨s.cols,(⟨s.cursor.row,s.cursor.col⟩:Plc),s.modes.visible,s.shape,s.title⟩:FrmC),fR)
 | hd_l0::tl_l0,i,fR=>A0a s tl_l0 (i+1) (fR++([hd_l0.l]:List (List Cel)))
def A4r (s:ScrC) (l:List (Rwc Cel)):FrmC×List (List Cel) :=
 A0a s l 0 ([]:List (List Cel))
def A7r (s:ScrC) (sMain:List (Rwc Cel)) (sAlt:List (Rwc Cel)) (sPast:List (Rwc Cel)) (sTabs:List Bool):FrmC×List (List Cel) :=
 (bif s.onAlt then A4r s sAlt else A4r s sMain)
theorem C4m (s:ScrC) (sMain:List (Rwc Cel)) (sAlt:List (Rwc Cel)) (sPast:List (Rwc Cel)) (sTabs:List Bool) (sMainq:Option Addr) (sMainrs:List Rwq) (sMaink:Nat) (sAltq:Option Addr) (sAltrs:List Rwq) (sAltk:Nat) (sPastq:Option Addr) (sPastrs:List Rwq) (sPastk:Nat) (sTabsq:Option Addr) (sTabsk:Nat) (hrowssMainrs:D0 sMainrs sMain) (hlsMain:sMain.length≤9223372036854775807) (hcsMain:sMain.length≤sMaink) (hrowssAltrs:D0 sAltrs sAlt) (hlsAlt:sAlt.length≤9223372036854775807) (hcsAlt:sAlt.length≤sAltk) (hrowssPastrs:D0 sPastrs sPast) (hlsPast:sPast.length≤9223372036854775807) (hcsPast:sPast.length≤sPastk) (hlsTabs:sTabs.length≤9223372036854775807) (hcsTabs:sTabs.length≤sTabsk) (hsl:sMain.length≤100∧sAlt.length≤100) (R:FrmC×List (List Cel)) (hR:A7r s sMain sAlt sPast sTabs=R):Con Tryz.prog 21 [ag (A6 s ⟨sMainq,sMain.length,sMaink⟩ ⟨sAltq,sAlt.length,sAltk⟩ ⟨sPastq,sPast.length,sPastk⟩ ⟨sTabsq,sTabs.length,sTabsk⟩)] [] [sl B7 sMainq sMainrs,B8 B2 sMainrs sMain,sl B7 sAltq sAltrs,B8 B2 sAltrs sAlt,sl B7 sPastq sPastrs,B8 B2 sPastrs sPast,sl F4 sTabsq sTabs] ({t:VR×List Slc // VOk 1 R.2.length t.1∧C7 t.2 R.2}) (fun x=>ag (A0 R.1 ⟨va x.1.1.q,R.2.length,x.1.1.k⟩)) (fun x=>((vo C4 69 x.1.1 x.1.2)++([]))) (fun x=>[G5 B2 x.1.2 R.2]):=by
 refine zco Tryz.func21 [(0,ag (A6 s ⟨sMainq,sMain.length,sMaink⟩ ⟨sAltq,sAlt.length,sAltk⟩ ⟨sPastq,sPast.length,sPastk⟩ ⟨sTabsq,sTabs.length,sTabsk⟩))] fun X hX hr hD=>?_
 replace hR:=(A7r.eq_1 ..).symm.trans hR
 have:=hrowssMainrs.1
 have:=hrowssAltrs.1
 have:=hrowssPastrs.1
 refine sr 2 rfl (A8y 2 0 [] (fun b1 b2=>[(1,pt b1 0),(2,pt b2 0)]) (fun b1 b2=>[bx b2 (A0 FrmC.zero ⟨none,0,0⟩) 26,bx b1 (A6 s ⟨sMainq,sMain.length,sMaink⟩ ⟨sAltq,sAlt.length,sAltk⟩ ⟨sPastq,sPast.length,sPastk⟩ ⟨sTabsq,sTabs.length,sTabsk⟩) 52]) (fun b1 b2=>?_))
 refine ie (sr 3 rfl (zrl 3 0 [1] [(3,.slice sMainq sMain.length sMaink)] ?_))
 refine ie (D6n (fun (l:List (Rwc Cel)) (lq:Option Addr) (lrs:List Rwq) (lk:Nat)=>(A4r s l=R∧l.length≤lk∧l.length≤9223372036854775807∧D0 lrs l∧l.length≤100,[(1,pt b1 0),(2,pt b2 0),(3,.slice lq l.length lk)],[bx b2 (A0 FrmC.zero ⟨none,0,0⟩) 26,bx b1 (A6 s ⟨sMainq,sMain.length,sMaink⟩ ⟨sAltq,sAlt.length,sAltk⟩ ⟨sPastq,sPast.length,sPastk⟩ ⟨sTabsq,sTabs.length,sTabsk⟩) 52],[sl B7 sMainq sMainrs,B8 B2 sMainrs sMain,sl B7 sAltq sAltrs,B8 B2 sAltrs sAlt,sl B7 sPastq sPastrs,B8 B2 sPastrs sPast,sl F4 sTabsq sTabs,sl B7 lq lrs,B8 B2 lrs l])) ?_ ?_)
 ·refine sr 2 rfl (zrl 2 0 [1] [(9,bv s.onAlt)] ?_)
  refine ie ?_
  refine zjb rfl hR ?_ ?_<;>clear hR<;>intro hR h3
  ·refine A5 3 rfl (zrl 3 0 [1] [(3,.slice sAltq sAlt.length sAltk)] ?_)
   refine A1 ?_
   exact D5m sAlt sAltq sAltrs sAltk ⟨hR,(by first|omega|(simp only [List.length_take,List.length_drop,List.length_append,List.length_cons,List.length_nil,List.length_set,List.length_map];omega)|decide),(by first|omega|(simp only [List.length_take,List.length_drop,List.length_append,List.length_cons,List.length_nil,List.length_set,List.length_map];omega)|decide),hrowssAltrs,(by omega)⟩ (mk [true,true] rfl) (A2.pick [0,1,2,3,4,5,6,2,3] rfl)
  refine A4 ?_
  exact D5m sMain sMainq sMainrs sMaink ⟨hR,(by first|omega|(simp only [List.length_take,List.length_drop,List.length_append,List.length_cons,List.length_nil,List.length_set,List.length_map];omega)|decide),(by first|omega|(simp only [List.length_take,List.length_drop,List.length_append,List.length_cons,List.length_nil,List.length_set,List.length_map];omega)|decide),hrowssMainrs,(by omega)⟩ (mk [true,true] rfl) (A2.pick [0,1,2,3,4,5,6,0,1] rfl)
 intro l lq lrs lk
 rintro ⟨hR,hcl,hll,hrowslrs,hjl⟩
 replace hR:=(A4r.eq_1 ..).symm.trans hR
 refine sr 12 rfl (I7 12 0 [1,1,1,1,0] (fun b4=>[(4,pt b4 0)]) (fun b4=>[bx b4 (A0 ({FrmC.zero with cols:=s.cols,visible:=s.modes.visible,shape:=s.shape,title:=s.title}) ⟨none,0,0⟩) 26,bx b2 (A0 FrmC.zero ⟨none,0,0⟩) 26,bx b1 (A6 s ⟨sMainq,sMain.length,sMaink⟩ ⟨sAltq,sAlt.length,sAltk⟩ ⟨sPastq,sPast.length,sPastk⟩ ⟨sTabsq,sTabs.length,sTabsk⟩) 52]) (fun b4=>?_))
 refine ie (sr 9 rfl (zrg 9 0 [2,2,0] [] [bx b4 (A0 (⟨s.cols,(⟨s.cursor.row,s.cursor.col⟩:Plc),s.modes.visible,s.shape,s.title⟩:FrmC) ⟨none,0,0⟩) 26,bx b2 (A0 FrmC.zero ⟨none,0,0⟩) 26,bx b1 (A6 s ⟨sMainq,sMain.length,sMaink⟩ ⟨sAltq,sAlt.length,sAltk⟩ ⟨sPastq,sPast.length,sPastk⟩ ⟨sTabsq,sTabs.length,sTabsk⟩) 52] ?_))
 refine ie (A3 (sr 1 rfl (ip' 1 0 [(5,iv 0)] ?_)))
 refine ie (B0 (W7 (H3 [vo C4 69 VR.nil ([]:List Slc),[bx b4 (A0 (⟨s.cols,(⟨s.cursor.row,s.cursor.col⟩:Plc),s.modes.visible,s.shape,s.title⟩:FrmC) ⟨none,0,0⟩) 26],[bx b2 (A0 FrmC.zero ⟨none,0,0⟩) 26],[bx b1 (A6 s ⟨sMainq,sMain.length,sMaink⟩ ⟨sAltq,sAlt.length,sAltk⟩ ⟨sPastq,sPast.length,sPastk⟩ ⟨sTabsq,sTabs.length,sTabsk⟩) 52]] [1,2,3,0] 4 rfl (by decide) rfl [[bx b4 (A0 (⟨s.cols,(⟨s.cursor.row,s.cursor.col⟩:Plc),s.modes.visible,s.shape,s.title⟩:FrmC) ⟨none,0,0⟩) 26],[bx b2 (A0 FrmC.zero ⟨none,0,0⟩) 26],[bx b1 (A6 s ⟨sMainq,sMain.length,sMaink⟩ ⟨sAltq,sAlt.length,sAltk⟩ ⟨sPastq,sPast.length,sPastk⟩ ⟨sTabsq,sTabs.length,sTabsk⟩) 52],vo C4 69 VR.nil ([]:List Slc)] rfl (by first|rfl|simp)) ?_))
 refine B2k (fun (i:Nat) (fR:List (List Cel)) (fRowsr:VR) (fZ:List Slc)=>(i≤l.length∧A0a s (l.drop i) i fR=R∧VOk 1 fR.length fRowsr∧C7 fZ fR∧fR.length=i,[(2,pt b2 0),(3,.slice lq l.length lk),(4,pt b4 0),(5,iv (i:Int))],(bx b4 (A0 (⟨s.cols,(⟨s.cursor.row,s.cursor.col⟩:Plc),s.modes.visible,s.shape,s.title⟩:FrmC) ⟨va fRowsr.q,fR.length,fRowsr.k⟩) 26::bx b2 (A0 FrmC.zero ⟨none,0,0⟩) 26::bx b1 (A6 s ⟨sMainq,sMain.length,sMaink⟩ ⟨sAltq,sAlt.length,sAltk⟩ ⟨sPastq,sPast.length,sPastk⟩ ⟨sTabsq,sTabs.length,sTabsk⟩) 52::(vo C4 69 fRowsr fZ)++([])),[sl B7 sMainq sMainrs,B8 B2 sMainrs sMain,sl B7 sAltq sAltrs,B8 B2 sAltrs sAlt,sl B7 sPastq sPastrs,B8 B2 sPastrs sPast,sl F4 sTabsq sTabs,sl B7 lq lrs,B8 B2 lrs l,G5 B2 fZ fR],l.length - i)) 0 ([]:List (List Cel)) VR.nil ([]:List Slc) ⟨(by omega),hR,VOk.nil,C7.none,(by rfl)⟩ (mc [[bx b4 (A0 (⟨s.cols,(⟨s.cursor.row,s.cursor.col⟩:Plc),s.modes.visible,s.shape,s.title⟩:FrmC) ⟨none,0,0⟩) 26],[bx b2 (A0 FrmC.zero ⟨none,0,0⟩) 26],[bx b1 (A6 s ⟨sMainq,sMain.length,sMaink⟩ ⟨sAltq,sAlt.length,sAltk⟩ ⟨sPastq,sPast.length,sPastk⟩ ⟨sTabsq,sTabs.length,sTabsk⟩) 52],vo C4 69 VR.nil ([]:List Slc)] [true,true,true,true] rfl (by first|rfl|(simp only [List.length_set]<;>rfl))) (A2.con1 (B5 0 rfl) (A2.con1 (B5 1 rfl) (A2.con1 (B5 2 rfl) (A2.con1 (B5 3 rfl) (A2.con1 (B5 4 rfl) (A2.con1 (B5 5 rfl) (A2.con1 (B5 6 rfl) (A2.con1 (B5 7 rfl) (A2.con1 (B5 8 rfl) (A2.con1 P0 fn0)))))))))) ?_
 rintro i fR fRowsr fZ ⟨hm5,hR,hokfRowsr,hrowsfRowsrs,hfl⟩
 have:=VOk.le hokfRowsr
 have:=hrowsfRowsrs.1
 refine A3 (sr 4 rfl (ip' 4 0 [(33,bv (decide ((i:Int)<(l.length:Int))))] ?_))
 refine ie (S2 rfl (fun h6=>?_) (fun h6=>?_))
 ·have h6p:(i:Int)<(l.length:Int):=by simpa using h6
  rw [U1 zwc (show i<l.length by omega)] at hR;replace hR:=(A0a.eq_2 ..).symm.trans hR
  refine A4 (nx (A3 (B0 (B2o (B3x (k:=i) hrowslrs 8 rfl (by have:=hrowslrs.1;omega)) ?_))))
  have:=A7w hrowslrs (k:=i) (by have:=hrowslrs.1;omega)
  refine sh' 11 [(10,[bx b4 (A0 (⟨s.cols,(⟨s.cursor.row,s.cursor.col⟩:Plc),s.modes.visible,s.shape,s.title⟩:FrmC) ⟨va fRowsr.q,fR.length,fRowsr.k⟩) 26]),(11,[bx b2 (A0 FrmC.zero ⟨none,0,0⟩) 26]),(11,[bx b1 (A6 s ⟨sMainq,sMain.length,sMaink⟩ ⟨sAltq,sAlt.length,sAltk⟩ ⟨sPastq,sPast.length,sPastk⟩ ⟨sTabsq,sTabs.length,sTabsk⟩) 52]),(8,vo C4 69 fRowsr fZ)] [sl B2 ((lrs.getD i zwq).s.q) ((l.getD i zwc).l),sl B7 sMainq sMainrs,B8 B2 sMainrs sMain,sl B7 sAltq sAltrs,B8 B2 sAltrs sAlt,sl B7 sPastq sPastrs,B8 B2 sPastrs sPast,sl F4 sTabsq sTabs,sl B7 lq lrs,B8 B2 lrs l,G5 B2 fZ fR] (bx b4 (A0 (⟨s.cols,(⟨s.cursor.row,s.cursor.col⟩:Plc),s.modes.visible,s.shape,s.title⟩:FrmC) ⟨va fRowsr.q,fR.length,fRowsr.k⟩) 26::bx b2 (A0 FrmC.zero ⟨none,0,0⟩) 26::bx b1 (A6 s ⟨sMainq,sMain.length,sMaink⟩ ⟨sAltq,sAlt.length,sAltk⟩ ⟨sPastq,sPast.length,sPastk⟩ ⟨sTabsq,sTabs.length,sTabsk⟩) 52::(vo C4 69 fRowsr fZ)++([])) (zml 11 0) (by kernel_rfl) rfl (by kernel_rfl) (by kernel_rfl) (by kernel_rfl) (mc [[bx b4 (A0 (⟨s.cols,(⟨s.cursor.row,s.cursor.col⟩:Plc),s.modes.visible,s.shape,s.title⟩:FrmC) ⟨va fRowsr.q,fR.length,fRowsr.k⟩) 26],[bx b2 (A0 FrmC.zero ⟨none,0,0⟩) 26],[bx b1 (A6 s ⟨sMainq,sMain.length,sMaink⟩ ⟨sAltq,sAlt.length,sAltk⟩ ⟨sPastq,sPast.length,sPastk⟩ ⟨sTabsq,sTabs.length,sTabsk⟩) 52],vo C4 69 fRowsr fZ] [true,true,true,true] rfl (by first|rfl|(simp only [List.length_set]<;>rfl))) A2.refl ?_
  refine zhp [0,2,3] 8 (zml 11 13) [(36,pt b4 1),(38,.slice lq l.length lk),(39,iv (i:Int))] ?_
  refine zhl 1 (bx b4 (A0 (⟨s.cols,(⟨s.cursor.row,s.cursor.col⟩:Plc),s.modes.visible,s.shape,s.title⟩:FrmC) ⟨va fRowsr.q,fR.length,fRowsr.k⟩) 26::bx b2 (A0 FrmC.zero ⟨none,0,0⟩) 26::bx b1 (A6 s ⟨sMainq,sMain.length,sMaink⟩ ⟨sAltq,sAlt.length,sAltk⟩ ⟨sPastq,sPast.length,sPastk⟩ ⟨sTabsq,sTabs.length,sTabsk⟩) 52::(vo C4 69 fRowsr fZ)++([])) (zml 11 15) rfl (D4 (v:=.slice (va fRowsr.q) fR.length fRowsr.k) C7w rfl rfl 0 rfl rfl) ?_
  refine C1h 8 rfl (by have:=hrowslrs.1;omega) fun a7 hq8=>?_
  refine zhk 4 (zml 11 31) rfl (E8 A5a rfl rfl hq8 rfl i rfl (by omega)) ?_
  refine zhp [5] 5 (zml 11 63) [(41,pa (Addr.add a7 (i * 2)))] ?_
  refine zhk 6 (zml 11 127) rfl (F9 (C8 (v:=.slice ((lrs.getD i zwq).s.q) ((lrs.getD i zwq).s.n) ((lrs.getD i zwq).s.k)) (us:=[.slice ((lrs.getD i zwq).s.q) ((lrs.getD i zwq).s.n) ((lrs.getD i zwq).s.k)]) A3e rfl rfl (A0g (G0 (c:=B7) (sz:=2) hq8 (fun _=>rfl) 8 rfl (gd zwq (by have:=hrowslrs.1;omega))) (ws:=[.slice ((lrs.getD i zwq).s.q) ((lrs.getD i zwq).s.n) ((lrs.getD i zwq).s.k)]) 1 rfl) rfl) (C3j hrowslrs (by have:=hrowslrs.1;omega))) ?_
  refine zho 7 (bx b4 (A0 (⟨s.cols,(⟨s.cursor.row,s.cursor.col⟩:Plc),s.modes.visible,s.shape,s.title⟩:FrmC) ⟨va fRowsr.q,fR.length,fRowsr.k⟩) 26::bx b2 (A0 FrmC.zero ⟨none,0,0⟩) 26::bx b1 (A6 s ⟨sMainq,sMain.length,sMaink⟩ ⟨sAltq,sAlt.length,sAltk⟩ ⟨sPastq,sPast.length,sPastk⟩ ⟨sTabsq,sTabs.length,sTabsk⟩) 52::(vo C4 69 fRowsr fZ)++([])) (zml 11 255) rfl (E9 (c:=C4) (xs:=([⟨(lrs.getD i zwq).s.q,(l.getD i zwc).l.length,(lrs.getD i zwq).s.k⟩]:List Slc)) A0k rfl rfl rfl (by kernel_rfl)) (fun b9=>(mc [[bx b4 (A0 (⟨s.cols,(⟨s.cursor.row,s.cursor.col⟩:Plc),s.modes.visible,s.shape,s.title⟩:FrmC) ⟨va fRowsr.q,fR.length,fRowsr.k⟩) 26],[bx b2 (A0 FrmC.zero ⟨none,0,0⟩) 26],[bx b1 (A6 s ⟨sMainq,sMain.length,sMaink⟩ ⟨sAltq,sAlt.length,sAltk⟩ ⟨sPastq,sPast.length,sPastk⟩ ⟨sTabsq,sTabs.length,sTabsk⟩) 52],vo C4 69 fRowsr fZ] [true,true,true,true] rfl (by first|rfl|(simp only [List.length_set]<;>rfl)))) (fun b9=>(A2.pick [1,2,3,4,5,6,7,8,9,10,11] rfl)) fun b9=>?_
  have hrows10:C7 ([⟨(lrs.getD i zwq).s.q,(l.getD i zwc).l.length,(lrs.getD i zwq).s.k⟩]:List Slc) ([(l.getD i zwc).l]:List (List Cel)):=(C7.cons ⟨rfl,(by first|omega|(simp only [List.length_take,List.length_drop,List.length_append,List.length_cons,List.length_nil,List.length_set,List.length_map];omega)|decide),(by first|omega|(simp only [List.length_take,List.length_drop,List.length_append,List.length_cons,List.length_nil,List.length_set,List.length_map];omega)|decide)⟩ C7.none)
  refine C2d (q:=G5 B2 ([⟨(lrs.getD i zwq).s.q,(l.getD i zwc).l.length,(lrs.getD i zwq).s.k⟩]:List Slc) ([(l.getD i zwc).l]:List (List Cel))) (A2j (B5 1 rfl) P0) ?_
  have:([⟨(lrs.getD i zwq).s.q,(l.getD i zwc).l.length,(lrs.getD i zwq).s.k⟩]:List Slc).length=1:=rfl
  have hw13:C7 (fZ++([⟨(lrs.getD i zwq).s.q,(l.getD i zwc).l.length,(lrs.getD i zwq).s.k⟩]:List Slc)) (fR++([(l.getD i zwc).l]:List (List Cel))):=C7.append hrowsfRowsrs hrows10
  refine zho 8 [bx b4 (A0 (⟨s.cols,(⟨s.cursor.row,s.cursor.col⟩:Plc),s.modes.visible,s.shape,s.title⟩:FrmC) ⟨va fRowsr.q,fR.length,fRowsr.k⟩) 26,bx b2 (A0 FrmC.zero ⟨none,0,0⟩) 26,bx b1 (A6 s ⟨sMainq,sMain.length,sMaink⟩ ⟨sAltq,sAlt.length,sAltk⟩ ⟨sPastq,sPast.length,sPastk⟩ ⟨sTabsq,sTabs.length,sTabsk⟩) 52] (zml 11 511) rfl (A8q (r:=fRowsr) (rs:=fZ) (xss:=fR) (pre:=[bx b4 (A0 (⟨s.cols,(⟨s.cursor.row,s.cursor.col⟩:Plc),s.modes.visible,s.shape,s.title⟩:FrmC) ⟨va fRowsr.q,fR.length,fRowsr.k⟩) 26,bx b2 (A0 FrmC.zero ⟨none,0,0⟩) 26,bx b1 (A6 s ⟨sMainq,sMain.length,sMaink⟩ ⟨sAltq,sAlt.length,sAltk⟩ ⟨sPastq,sPast.length,sPastk⟩ ⟨sTabsq,sTabs.length,sTabsk⟩) 52]) (post:=[]) C2j rfl rfl rfl rfl rfl rfl rfl rfl rfl (B5 1 rfl) (B5 12 rfl) (B5 0 rfl) hrowsfRowsrs hrows10 hokfRowsr (by first|omega|(simp only [List.length_cons,List.length_nil,List.length_append,List.length_take,List.length_drop];omega)) (by first|omega|(simp only [List.length_cons,List.length_nil,List.length_append,List.length_take,List.length_drop];omega))) (fun ⟨r11,hr12⟩=>(mc [[bx b4 (A0 (⟨s.cols,(⟨s.cursor.row,s.cursor.col⟩:Plc),s.modes.visible,s.shape,s.title⟩:FrmC) ⟨va fRowsr.q,fR.length,fRowsr.k⟩) 26],[bx b2 (A0 FrmC.zero ⟨none,0,0⟩) 26],[bx b1 (A6 s ⟨sMainq,sMain.length,sMaink⟩ ⟨sAltq,sAlt.length,sAltk⟩ ⟨sPastq,sPast.length,sPastk⟩ ⟨sTabsq,sTabs.length,sTabsk⟩) 52],vo C4 69 r11 (fZ++([⟨(lrs.getD i zwq).s.q,(l.getD i zwc).l.length,(lrs.getD i zwq).s.k⟩]:List Slc))] [true,true,true,false] rfl (by first|rfl|(simp only [List.length_set]<;>rfl)))) (fun ⟨r11,hr12⟩=>(A2.pick [3,4,5,6,7,8,9,10,11,12,13] rfl)) fun ⟨r11,hr12⟩=>?_
  have:=VOk.le hr12
  have:=VOk.cap hr12
  have:([(l.getD i zwc).l]:List (List Cel)).length=1:=rfl
  have:(fR++([(l.getD i zwc).l]:List (List Cel))).length=fR.length+1:=List.length_append
  refine zhp [9] 1 (zml 11 1023) [(45,pt b4 1)] ?_
  refine zho 10 [bx b2 (A0 FrmC.zero ⟨none,0,0⟩) 26,bx b1 (A6 s ⟨sMainq,sMain.length,sMaink⟩ ⟨sAltq,sAlt.length,sAltk⟩ ⟨sPastq,sPast.length,sPastk⟩ ⟨sTabsq,sTabs.length,sTabsk⟩) 52] (zml 11 2047) rfl (N3 (us:=[.slice (va r11.q) ((fR++([(l.getD i zwc).l]:List (List Cel))).length) r11.k]) (cs':=A0 (⟨s.cols,(⟨s.cursor.row,s.cursor.col⟩:Plc),s.modes.visible,s.shape,s.title⟩:FrmC) ⟨va r11.q,(fR++([(l.getD i zwc).l]:List (List Cel))).length,r11.k⟩) C7w rfl rfl rfl 0 rfl rfl rfl rfl rfl rfl) (fun _=>(mc [[bx b4 (A0 (⟨s.cols,(⟨s.cursor.row,s.cursor.col⟩:Plc),s.modes.visible,s.shape,s.title⟩:FrmC) ⟨va r11.q,(fR++([(l.getD i zwc).l]:List (List Cel))).length,r11.k⟩) 26],[bx b2 (A0 FrmC.zero ⟨none,0,0⟩) 26],[bx b1 (A6 s ⟨sMainq,sMain.length,sMaink⟩ ⟨sAltq,sAlt.length,sAltk⟩ ⟨sPastq,sPast.length,sPastk⟩ ⟨sTabsq,sTabs.length,sTabsk⟩) 52],vo C4 69 r11 (fZ++([⟨(lrs.getD i zwq).s.q,(l.getD i zwc).l.length,(lrs.getD i zwq).s.k⟩]:List Slc))] [false,true,true,false] rfl (by first|rfl|(simp only [List.length_set]<;>rfl)))) (fun _=>(A2.pick [3,4,5,6,7,8,9,10,11,12,13] rfl)) fun _=>?_
  refine B3c (by kernel_rfl) ?_
  refine nx (A5 3 rfl (ip' 1 2 [(34,iv (i:Int))] ?_))
  refine ix rfl (B4 rfl rfl rfl rfl (by omega)) ?_
  refine ip' 1 0 [(5,iv ((i:Int)+1))] ?_
  refine A1 ?_
  exact B1k (z1:=i) (z2:=fR) (z3:=fRowsr) (z4:=fZ) (i+1) (fR++([(l.getD i zwc).l]:List (List Cel))) r11 (fZ++([⟨(lrs.getD i zwq).s.q,(l.getD i zwc).l.length,(lrs.getD i zwq).s.k⟩]:List Slc)) ⟨(by omega),hR,hr12,hw13,(by (simp only [List.length_append,List.length_cons,List.length_nil];omega))⟩ (by (try dsimp only);omega) (mc [[bx b4 (A0 (⟨s.cols,(⟨s.cursor.row,s.cursor.col⟩:Plc),s.modes.visible,s.shape,s.title⟩:FrmC) ⟨va r11.q,(fR++([(l.getD i zwc).l]:List (List Cel))).length,r11.k⟩) 26],[bx b2 (A0 FrmC.zero ⟨none,0,0⟩) 26],[bx b1 (A6 s ⟨sMainq,sMain.length,sMaink⟩ ⟨sAltq,sAlt.length,sAltk⟩ ⟨sPastq,sPast.length,sPastk⟩ ⟨sTabsq,sTabs.length,sTabsk⟩) 52],vo C4 69 r11 (fZ++([⟨(lrs.getD i zwq).s.q,(l.getD i zwc).l.length,(lrs.getD i zwq).s.k⟩]:List Slc))] [true,true,true,true] rfl (by first|rfl|(simp only [List.length_set]<;>rfl))) (A2.pick [4,5,6,7,8,9,10,11,12,0] rfl)
 have h6p:¬ ((i:Int)<(l.length:Int)):=by simpa using h6
 rw [U2 h6p] at hR;replace hR:=(A0a.eq_1 ..).symm.trans hR
 refine G2 (nx (sr 2 rfl (zrg 2 0 [0,1] [] (bx b4 (A0 (⟨s.cols,(⟨s.cursor.row,s.cursor.col⟩:Plc),s.modes.visible,s.shape,s.title⟩:FrmC) ⟨va fRowsr.q,fR.length,fRowsr.k⟩) 26::bx b2 (A0 (⟨s.cols,(⟨s.cursor.row,s.cursor.col⟩:Plc),s.modes.visible,s.shape,s.title⟩:FrmC) ⟨va fRowsr.q,fR.length,fRowsr.k⟩) 26::bx b1 (A6 s ⟨sMainq,sMain.length,sMaink⟩ ⟨sAltq,sAlt.length,sAltk⟩ ⟨sPastq,sPast.length,sPastk⟩ ⟨sTabsq,sTabs.length,sTabsk⟩) 52::(vo C4 69 fRowsr fZ)++([])) ?_)))
 subst hR
 refine ie (A7 ?_)
 exact zer hr hD (P3 rfl (I1 (us:=A0 (⟨s.cols,(⟨s.cursor.row,s.cursor.col⟩:Plc),s.modes.visible,s.shape,s.title⟩:FrmC) ⟨va fRowsr.q,fR.length,fRowsr.k⟩) A7f rfl 1 rfl rfl rfl)) ⟨(fRowsr,fZ),⟨hokfRowsr,hrowsfRowsrs⟩⟩ (mc [[bx b4 (A0 (⟨s.cols,(⟨s.cursor.row,s.cursor.col⟩:Plc),s.modes.visible,s.shape,s.title⟩:FrmC) ⟨va fRowsr.q,fR.length,fRowsr.k⟩) 26],[bx b2 (A0 (⟨s.cols,(⟨s.cursor.row,s.cursor.col⟩:Plc),s.modes.visible,s.shape,s.title⟩:FrmC) ⟨va fRowsr.q,fR.length,fRowsr.k⟩) 26],[bx b1 (A6 s ⟨sMainq,sMain.length,sMaink⟩ ⟨sAltq,sAlt.length,sAltk⟩ ⟨sPastq,sPast.length,sPastk⟩ ⟨sTabsq,sTabs.length,sTabsk⟩) 52],vo C4 69 fRowsr fZ] [false,false,false,true] rfl (by first|rfl|(simp only [List.length_set]<;>rfl))) (A2.con1 (B5 9 rfl) fn0)
theorem C8o {s:ScrC} {m a p:List (Rwc Cel)} {t:List Bool} (h:(A7g s m a p t).2.2=0):m.length≤100∧a.length≤100:=by
 apply A4y (s:=s) (p:=p) (t:=t)
 unfold A7g F1 at h
 by_cases q:P4 s m a p t=0
 ·exact q
 ·rw [decide_eq_false q] at h;exact absurd h q
def A1v (s:ScrC) (sMain:List (Rwc Cel)) (sAlt:List (Rwc Cel)) (sPast:List (Rwc Cel)) (sTabs:List Bool):Bool :=
 (bif (!A4n) then false else (F1 (A7g s sMain sAlt sPast sTabs) fun (y1:FrmC×List (List Cel)×Int)=>(bif (!(A0r s sMain sAlt sPast sTabs)) then ((!decide (y1.2.2=0))&&(decide ((y1.2.1.length:Int)=0))) else (bif (decide (y1.2.2=0)) then (F1 (A7r s sMain sAlt sPast sTabs) fun (y2:FrmC×List (List Cel))=>(A1z y1.1 y1.2.1 y2.1 y2.2)) else false))))
theorem B3j (s:ScrC) (sMain:List (Rwc Cel)) (sAlt:List (Rwc Cel)) (sPast:List (Rwc Cel)) (sTabs:List Bool) (sMainq:Option Addr) (sMainrs:List Rwq) (sMaink:Nat) (sAltq:Option Addr) (sAltrs:List Rwq) (sAltk:Nat) (sPastq:Option Addr) (sPastrs:List Rwq) (sPastk:Nat) (sTabsq:Option Addr) (sTabsk:Nat) (hrowssMainrs:D0 sMainrs sMain) (hlsMain:sMain.length≤9223372036854775807) (hcsMain:sMain.length≤sMaink) (hrowssAltrs:D0 sAltrs sAlt) (hlsAlt:sAlt.length≤9223372036854775807) (hcsAlt:sAlt.length≤sAltk) (hrowssPastrs:D0 sPastrs sPast) (hlsPast:sPast.length≤9223372036854775807) (hcsPast:sPast.length≤sPastk) (hlsTabs:sTabs.length≤9223372036854775807) (hcsTabs:sTabs.length≤sTabsk) (hTs:s.title.length≤100000000) (R:Bool) (hR:A1v s sMain sAlt sPast sTabs=R):I6 Tryz.prog 5 [ag (A6 s ⟨sMainq,sMain.length,sMaink⟩ ⟨sAltq,sAlt.length,sAltk⟩ ⟨sPastq,sPast.length,sPastk⟩ ⟨sTabsq,sTabs.length,sTabsk⟩)] [sl B7 sMainq sMainrs,B8 B2 sMainrs sMain,sl B7 sAltq sAltrs,B8 B2 sAltrs sAlt,sl B7 sPastq sPastrs,B8 B2 sPastrs sPast,sl F4 sTabsq sTabs,A0z,A1a] (bv R):=by
 refine zco Tryz.func5 [(0,ag (A6 s ⟨sMainq,sMain.length,sMaink⟩ ⟨sAltq,sAlt.length,sAltk⟩ ⟨sPastq,sPast.length,sPastk⟩ ⟨sTabsq,sTabs.length,sTabsk⟩))] fun X hX hr hD=>?_
 replace hR:=(A1v.eq_1 ..).symm.trans hR
 have:=hrowssMainrs.1
 have:=hrowssAltrs.1
 have:=hrowssPastrs.1
 refine sr 2 rfl (I7 2 0 [] (fun b1=>[(1,pt b1 0)]) (fun b1=>[bx b1 (A6 s ⟨sMainq,sMain.length,sMaink⟩ ⟨sAltq,sAlt.length,sAltk⟩ ⟨sPastq,sPast.length,sPastk⟩ ⟨sTabsq,sTabs.length,sTabsk⟩) 52]) (fun b1=>?_))
 refine ie (A3 (sr 2 rfl (zca (B7w _ rfl) (A2.pick [7,8] rfl) ?_)))
 refine ip' 1 0 [(6,bv (!A4n))] ?_
 refine ie ?_
 refine zjb rfl hR ?_ ?_<;>clear hR<;>intro hR h2
 ·refine sr 1 rfl (ip' 1 0 [(2,bv false)] ?_)
  subst hR
  refine ie (A7 ?_)
  exact D5 hr hD
 refine A4 (nx (sr 8 rfl (zrl 1 7 [0] [(8,ag (A6 s ⟨sMainq,sMain.length,sMaink⟩ ⟨sAltq,sAlt.length,sAltk⟩ ⟨sPastq,sPast.length,sPastk⟩ ⟨sTabsq,sTabs.length,sTabsk⟩))] ?_)))
 have hQ:=G6 hR;clear hR;obtain ⟨y1,hy1,hR⟩:=hQ
 refine it rfl (I5 (L2:=[bx b1 (A6 s ⟨sMainq,sMain.length,sMaink⟩ ⟨sAltq,sAlt.length,sAltk⟩ ⟨sPastq,sPast.length,sPastk⟩ ⟨sTabsq,sTabs.length,sTabsk⟩) 52]) (C4p s sMain sAlt sPast sTabs sMainq sMainrs sMaink sAltq sAltrs sAltk sPastq sPastrs sPastk sTabsq sTabsk hrowssMainrs (by first|omega|(simp only [List.length_take,List.length_drop,List.length_append,List.length_cons,List.length_nil,List.length_set,List.length_map];omega)|decide) (by first|omega|(simp only [List.length_take,List.length_drop,List.length_append,List.length_cons,List.length_nil,List.length_set,List.length_map];omega)|decide) hrowssAltrs (by first|omega|(simp only [List.length_take,List.length_drop,List.length_append,List.length_cons,List.length_nil,List.length_set,List.length_map];omega)|decide) (by first|omega|(simp only [List.length_take,List.length_drop,List.length_append,List.length_cons,List.length_nil,List.length_set,List.length_map];omega)|decide) hrowssPastrs (by first|omega|(simp only [List.length_take,List.length_drop,List.length_append,List.length_cons,List.length_nil,List.length_set,List.length_map];omega)|decide) (by first|omega|(simp only [List.length_take,List.length_drop,List.length_append,List.length_cons,List.length_nil,List.length_set,List.length_map];omega)|decide) (by first|omega|(simp only [List.length_take,List.length_drop,List.length_append,List.length_cons,List.length_nil,List.length_set,List.length_map];omega)|decide) (by first|omega|(simp only [List.length_take,List.length_drop,List.length_append,List.length_cons,List.length_nil,List.length_set,List.length_map];omega)|decide) (by first|omega|(simp only [List.length_nil];omega)|(dsimp only;omega)) y1 hy1) rfl rfl rfl rfl rfl A2.refl (List.Perm.refl _) (fun ⟨⟨r3,rs4⟩,hp7⟩=>(bx b1 (A6 s ⟨sMainq,sMain.length,sMaink⟩ ⟨sAltq,sAlt.length,sAltk⟩ ⟨sPastq,sPast.length,sPastk⟩ ⟨sTabsq,sTabs.length,sTabsk⟩) 52::(vo C4 69 r3 rs4)++([]))) (fun ⟨⟨r3,rs4⟩,hp7⟩=>H3 [vo C4 69 r3 rs4,[bx b1 (A6 s ⟨sMainq,sMain.length,sMaink⟩ ⟨sAltq,sAlt.length,sAltk⟩ ⟨sPastq,sPast.length,sPastk⟩ ⟨sTabsq,sTabs.length,sTabsk⟩) 52]] [1,0] 2 rfl (by decide) (by first|rfl|simp only [List.flatten_cons,List.flatten_nil,List.append_nil,List.cons_append,List.nil_append,List.append_assoc]) [[bx b1 (A6 s ⟨sMainq,sMain.length,sMaink⟩ ⟨sAltq,sAlt.length,sAltk⟩ ⟨sPastq,sPast.length,sPastk⟩ ⟨sTabsq,sTabs.length,sTabsk⟩) 52],vo C4 69 r3 rs4] rfl (by first|rfl|simp only [List.flatten_cons,List.flatten_nil,List.append_nil,List.cons_append,List.nil_append,List.append_assoc]))) fun ⟨⟨r3,rs4⟩,hp7⟩=>?_
 try dsimp only at hp7
 obtain ⟨hk5,hw6⟩:=hp7
 have:=VOk.le hk5
 have:=VOk.cap hk5
 have:=hw6.1
 refine S1 [bx b1 (A6 s ⟨sMainq,sMain.length,sMaink⟩ ⟨sAltq,sAlt.length,sAltk⟩ ⟨sPastq,sPast.length,sPastk⟩ ⟨sTabsq,sTabs.length,sTabsk⟩) 52] [] (T:=69) (c:=C4) (r:=r3) (xs:=rs4) (VOk.cast hk5 (by rw [hw6.1])) (by first|rfl|simp only [List.cons_append,List.append_assoc,List.nil_append,List.append_nil]) ?_
 refine I7 6 0 [0] (fun b8=>[(3,pt b8 0),(4,iv y1.2.2)]) (fun b8=>[bx b8 (A0 y1.1 ⟨va r3.q,y1.2.1.length,r3.k⟩) 26,bx b1 (A6 s ⟨sMainq,sMain.length,sMaink⟩ ⟨sAltq,sAlt.length,sAltk⟩ ⟨sPastq,sPast.length,sPastk⟩ ⟨sTabsq,sTabs.length,sTabsk⟩) 52]) (fun b8=>?_)
 refine ie (A3 (sr 3 rfl (zrl 1 2 [1] [(12,ag (A6 s ⟨sMainq,sMain.length,sMaink⟩ ⟨sAltq,sAlt.length,sAltk⟩ ⟨sPastq,sPast.length,sPastk⟩ ⟨sTabsq,sTabs.length,sTabsk⟩))] ?_)))
 refine zca (B7y s sMain sAlt sPast sTabs sMainq sMainrs sMaink sAltq sAltrs sAltk sPastq sPastrs sPastk sTabsq sTabsk hrowssMainrs (by first|omega|(simp only [List.length_take,List.length_drop,List.length_append,List.length_cons,List.length_nil,List.length_set,List.length_map];omega)|decide) (by first|omega|(simp only [List.length_take,List.length_drop,List.length_append,List.length_cons,List.length_nil,List.length_set,List.length_map];omega)|decide) hrowssAltrs (by first|omega|(simp only [List.length_take,List.length_drop,List.length_append,List.length_cons,List.length_nil,List.length_set,List.length_map];omega)|decide) (by first|omega|(simp only [List.length_take,List.length_drop,List.length_append,List.length_cons,List.length_nil,List.length_set,List.length_map];omega)|decide) hrowssPastrs (by first|omega|(simp only [List.length_take,List.length_drop,List.length_append,List.length_cons,List.length_nil,List.length_set,List.length_map];omega)|decide) (by first|omega|(simp only [List.length_take,List.length_drop,List.length_append,List.length_cons,List.length_nil,List.length_set,List.length_map];omega)|decide) (by first|omega|(simp only [List.length_take,List.length_drop,List.length_append,List.length_cons,List.length_nil,List.length_set,List.length_map];omega)|decide) (by first|omega|(simp only [List.length_take,List.length_drop,List.length_append,List.length_cons,List.length_nil,List.length_set,List.length_map];omega)|decide) _ rfl) (A2.pick [2,3,4,5,6,7,8] rfl) ?_
 refine ip' 1 0 [(14,bv (!(A0r s sMain sAlt sPast sTabs)))] ?_
 refine ie ?_
 refine zjb rfl hR ?_ ?_<;>clear hR<;>intro hR h9
 ·refine sr 9 rfl (ip' 3 6 [(17,bv (!decide (y1.2.2=0)))] ?_)
  refine zia 5 1 17 22 (decide ((y1.2.1.length:Int)=0)) (fun g10=>?_) ?_
  ·have g10p:¬ y1.2.2=0:=by simpa using g10
   refine zrl 5 0 [0] [(22,bv (decide ((y1.2.1.length:Int)=0)))] ?_
   exact zai 2 17 22 g10
  refine ip' 1 0 [(2,bv ((!decide (y1.2.2=0))&&(decide ((y1.2.1.length:Int)=0))))] ?_
  subst hR
  refine ie (A7 ?_)
  exact D5 hr hD
 refine A4 (nx (sh 9 [(9,[bx b8 (A0 y1.1 ⟨va r3.q,y1.2.1.length,r3.k⟩) 26]),(9,[bx b1 (A6 s ⟨sMainq,sMain.length,sMaink⟩ ⟨sAltq,sAlt.length,sAltk⟩ ⟨sPastq,sPast.length,sPastk⟩ ⟨sTabsq,sTabs.length,sTabsk⟩) 52])] [sl C4 (va r3.q) rs4,G5 B2 rs4 y1.2.1,sl B7 sMainq sMainrs,B8 B2 sMainrs sMain,sl B7 sAltq sAltrs,B8 B2 sAltrs sAlt,sl B7 sPastq sPastrs,B8 B2 sPastrs sPast,sl F4 sTabsq sTabs,A0z,A1a] [bx b8 (A0 y1.1 ⟨va r3.q,y1.2.1.length,r3.k⟩) 26,bx b1 (A6 s ⟨sMainq,sMain.length,sMaink⟩ ⟨sAltq,sAlt.length,sAltk⟩ ⟨sPastq,sPast.length,sPastk⟩ ⟨sTabsq,sTabs.length,sTabsk⟩) 52] (zml 9 0) (by kernel_rfl) rfl (by kernel_rfl) (by kernel_rfl) (by kernel_rfl) (mk [true,true] rfl) A2.refl ?_))
 refine zhp [0,1,2] 6 (zml 9 7) [(25,bv (decide (y1.2.2=0)))] ?_
 refine C3q 25 _ rfl (fun g11=>?_) (fun g11=>?_)
 ·have g11p:y1.2.2=0:=by simpa using g11
  have hsl:=C8o (by rw [hy1];assumption)
  replace hR:=bt hR g11
  refine zhl 3 [bx b8 (A0 y1.1 ⟨va r3.q,y1.2.1.length,r3.k⟩) 26,bx b1 (A6 s ⟨sMainq,sMain.length,sMaink⟩ ⟨sAltq,sAlt.length,sAltk⟩ ⟨sPastq,sPast.length,sPastk⟩ ⟨sTabsq,sTabs.length,sTabsk⟩) 52] (zml 9 15) rfl (Q4 (us:=A0 y1.1 ⟨va r3.q,y1.2.1.length,r3.k⟩) A7f rfl rfl 0 rfl rfl rfl) ?_
  refine zhl 4 [bx b8 (A0 y1.1 ⟨va r3.q,y1.2.1.length,r3.k⟩) 26,bx b1 (A6 s ⟨sMainq,sMain.length,sMaink⟩ ⟨sAltq,sAlt.length,sAltk⟩ ⟨sPastq,sPast.length,sPastk⟩ ⟨sTabsq,sTabs.length,sTabsk⟩) 52] (zml 9 31) rfl (Q4 (us:=A6 s ⟨sMainq,sMain.length,sMaink⟩ ⟨sAltq,sAlt.length,sAltk⟩ ⟨sPastq,sPast.length,sPastk⟩ ⟨sTabsq,sTabs.length,sTabsk⟩) B5d rfl rfl 1 rfl rfl rfl) ?_
  have hQ:=G6 hR;clear hR;obtain ⟨y2,hy2,hR⟩:=hQ
  refine zho 5 [bx b8 (A0 y1.1 ⟨va r3.q,y1.2.1.length,r3.k⟩) 26,bx b1 (A6 s ⟨sMainq,sMain.length,sMaink⟩ ⟨sAltq,sAlt.length,sAltk⟩ ⟨sPastq,sPast.length,sPastk⟩ ⟨sTabsq,sTabs.length,sTabsk⟩) 52] (zml 9 63) rfl (I5 (L2:=[bx b8 (A0 y1.1 ⟨va r3.q,y1.2.1.length,r3.k⟩) 26,bx b1 (A6 s ⟨sMainq,sMain.length,sMaink⟩ ⟨sAltq,sAlt.length,sAltk⟩ ⟨sPastq,sPast.length,sPastk⟩ ⟨sTabsq,sTabs.length,sTabsk⟩) 52]) (C4m s sMain sAlt sPast sTabs sMainq sMainrs sMaink sAltq sAltrs sAltk sPastq sPastrs sPastk sTabsq sTabsk hrowssMainrs (by first|omega|(simp only [List.length_take,List.length_drop,List.length_append,List.length_cons,List.length_nil,List.length_set,List.length_map];omega)|decide) (by first|omega|(simp only [List.length_take,List.length_drop,List.length_append,List.length_cons,List.length_nil,List.length_set,List.length_map];omega)|decide) hrowssAltrs (by first|omega|(simp only [List.length_take,List.length_drop,List.length_append,List.length_cons,List.length_nil,List.length_set,List.length_map];omega)|decide) (by first|omega|(simp only [List.length_take,List.length_drop,List.length_append,List.length_cons,List.length_nil,List.length_set,List.length_map];omega)|decide) hrowssPastrs (by first|omega|(simp only [List.length_take,List.length_drop,List.length_append,List.length_cons,List.length_nil,List.length_set,List.length_map];omega)|decide) (by first|omega|(simp only [List.length_take,List.length_drop,List.length_append,List.length_cons,List.length_nil,List.length_set,List.length_map];omega)|decide) (by first|omega|(simp only [List.length_take,List.length_drop,List.length_append,List.length_cons,List.length_nil,List.length_set,List.length_map];omega)|decide) (by first|omega|(simp only [List.length_take,List.length_drop,List.length_append,List.length_cons,List.length_nil,List.length_set,List.length_map];omega)|decide) (by exact hsl) y2 hy2) rfl rfl rfl rfl rfl (A2.pick [2,3,4,5,6,7,8] rfl) (List.Perm.refl _) (fun ⟨⟨r12,rs13⟩,hp16⟩=>(bx b8 (A0 y1.1 ⟨va r3.q,y1.2.1.length,r3.k⟩) 26::bx b1 (A6 s ⟨sMainq,sMain.length,sMaink⟩ ⟨sAltq,sAlt.length,sAltk⟩ ⟨sPastq,sPast.length,sPastk⟩ ⟨sTabsq,sTabs.length,sTabsk⟩) 52::(vo C4 69 r12 rs13)++([]))) (fun ⟨⟨r12,rs13⟩,hp16⟩=>H3 [vo C4 69 r12 rs13,[bx b8 (A0 y1.1 ⟨va r3.q,y1.2.1.length,r3.k⟩) 26],[bx b1 (A6 s ⟨sMainq,sMain.length,sMaink⟩ ⟨sAltq,sAlt.length,sAltk⟩ ⟨sPastq,sPast.length,sPastk⟩ ⟨sTabsq,sTabs.length,sTabsk⟩) 52]] [1,2,0] 3 rfl (by decide) (by first|rfl|simp only [List.flatten_cons,List.flatten_nil,List.append_nil,List.cons_append,List.nil_append,List.append_assoc]) [[bx b8 (A0 y1.1 ⟨va r3.q,y1.2.1.length,r3.k⟩) 26],[bx b1 (A6 s ⟨sMainq,sMain.length,sMaink⟩ ⟨sAltq,sAlt.length,sAltk⟩ ⟨sPastq,sPast.length,sPastk⟩ ⟨sTabsq,sTabs.length,sTabsk⟩) 52],vo C4 69 r12 rs13] rfl (by first|rfl|simp only [List.flatten_cons,List.flatten_nil,List.append_nil,List.cons_append,List.nil_append,List.append_assoc]))) (fun ⟨⟨r12,rs13⟩,hp16⟩=>(mc [[bx b8 (A0 y1.1 ⟨va r3.q,y1.2.1.length,r3.k⟩) 26],[bx b1 (A6 s ⟨sMainq,sMain.length,sMaink⟩ ⟨sAltq,sAlt.length,sAltk⟩ ⟨sPastq,sPast.length,sPastk⟩ ⟨sTabsq,sTabs.length,sTabsk⟩) 52],vo C4 69 r12 rs13] [true,true,false] rfl (by first|rfl|(simp only [List.length_set]<;>rfl)))) (fun ⟨⟨r12,rs13⟩,hp16⟩=>(A2.pick [1,2,3,4,5,6,7,8,9,10,11] rfl)) fun ⟨⟨r12,rs13⟩,hp16⟩=>?_
  try dsimp only at hp16
  obtain ⟨hk14,hw15⟩:=hp16
  have:=VOk.le hk14
  have:=VOk.cap hk14
  have:=hw15.1
  have:=VOk.cap hk14
  have:=VOk.le hk14
  refine D1f [bx b8 (A0 y1.1 ⟨va r3.q,y1.2.1.length,r3.k⟩) 26,bx b1 (A6 s ⟨sMainq,sMain.length,sMaink⟩ ⟨sAltq,sAlt.length,sAltk⟩ ⟨sPastq,sPast.length,sPastk⟩ ⟨sTabsq,sTabs.length,sTabsk⟩) 52] [] (T:=69) (c:=C4) (r:=r12) (xs:=rs13) (VOk.cast hk14 (by rw [hw15.1])) (by first|rfl|simp only [List.cons_append,List.append_assoc,List.nil_append,List.append_nil]) [bx b8 (A0 y1.1 ⟨va r3.q,y1.2.1.length,r3.k⟩) 26,bx b1 (A6 s ⟨sMainq,sMain.length,sMaink⟩ ⟨sAltq,sAlt.length,sAltk⟩ ⟨sPastq,sPast.length,sPastk⟩ ⟨sTabsq,sTabs.length,sTabsk⟩) 52] rfl (mk [true,true] rfl) ?_
  refine zho 6 [bx b8 (A0 y1.1 ⟨va r3.q,y1.2.1.length,r3.k⟩) 26,bx b1 (A6 s ⟨sMainq,sMain.length,sMaink⟩ ⟨sAltq,sAlt.length,sAltk⟩ ⟨sPastq,sPast.length,sPastk⟩ ⟨sTabsq,sTabs.length,sTabsk⟩) 52] (zml 9 127) rfl (Det.tri (B3h (C0z y1.1 y1.2.1 y2.1 y2.2 (va r3.q) rs4 r3.k (va r12.q) rs13 r12.k hw6 (by first|omega|(simp only [List.length_take,List.length_drop,List.length_append,List.length_cons,List.length_nil,List.length_set,List.length_map];omega)|decide) (by first|omega|(simp only [List.length_take,List.length_drop,List.length_append,List.length_cons,List.length_nil,List.length_set,List.length_map];omega)|decide) hw15 (by first|omega|(simp only [List.length_take,List.length_drop,List.length_append,List.length_cons,List.length_nil,List.length_set,List.length_map];omega)|decide) (by first|omega|(simp only [List.length_take,List.length_drop,List.length_append,List.length_cons,List.length_nil,List.length_set,List.length_map];omega)|decide) _ rfl) rfl rfl rfl rfl rfl (A2.pick [2,3,0,1] rfl))) (fun _=>(mk [true,true] rfl)) (fun _=>(A2.pick [2,3,4,5,6,7,8,9,10,11,12] rfl)) fun _=>?_
  refine zhp [7,8] 0 (zml 9 511) [(2,bv (A1z y1.1 y1.2.1 y2.1 y2.2))] ?_
  refine B0r (by kernel_rfl) ?_
  subst hR
  refine A7 ?_
  exact D5 hr hD
 ·have g11p:¬ (y1.2.2=0):=by simpa using g11
  replace hR:=bf hR g11
  refine zhp [3,4,5,6,7,8] 0 (zml 9 511) [(2,bv false)] ?_
  refine B0r (by kernel_rfl) ?_
  subst hR
  refine A7 ?_
  exact D5 hr hD
end Go.Proofs.YthcjfkljekdioaaGreatDoor
