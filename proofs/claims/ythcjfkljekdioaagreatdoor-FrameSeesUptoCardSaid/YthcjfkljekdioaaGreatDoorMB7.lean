import Derived.Test.YthcjfkljekdioaaGreatDoorProg
import Derived.Test.YthcjfkljekdioaaGreatDoorMA2
import Derived.Test.YthcjfkljekdioaaGreatDoorMB1
import Derived.Test.YthcjfkljekdioaaGreatDoorMB2
import Derived.Test.YthcjfkljekdioaaGreatDoorMB3
set_option linter.unusedVariables false
set_option linter.unusedSimpArgs false
set_option linter.unnecessarySimpa false
set_option maxRecDepth 100000
namespace Go.Proofs.YthcjfkljekdioaaGreatDoor
open Go Go.Fen
theorem J9:MapTy Tryz.prog 122 3 120 (.int .i64):=⟨by kernel_rfl,by kernel_rfl,rfl⟩
theorem C8c:MapTy Tryz.prog 193 3 196 (.int .i64):=⟨by kernel_rfl,by kernel_rfl,rfl⟩
theorem C4q:SlTy Tryz.prog 139 81 6:=⟨by kernel_rfl,by kernel_rfl⟩
theorem D6l:Ty Tryz.prog 36 1 false:=⟨by kernel_rfl⟩
theorem D3p:Ty Tryz.prog 38 3 true:=⟨by kernel_rfl⟩
theorem C9j:Ty Tryz.prog 42 8 true:=⟨by kernel_rfl⟩
theorem D2q:Ty Tryz.prog 45 6 true:=⟨by kernel_rfl⟩
theorem D6x:Ty Tryz.prog 50 19 true:=⟨by kernel_rfl⟩
theorem C8l:Ty Tryz.prog 120 2 true:=⟨by kernel_rfl⟩
theorem C1a:Zero Tryz.prog 120 [.nilFunc,.nilFunc]:=⟨by kernel_rfl⟩
def Z2 (s:ScrC) (sMain:List (Rwc Cel)) (sAlt:List (Rwc Cel)) (sTabs:List Bool):Int×Int×Int×Int×Bool :=
 (s.rows,s.cols,s.top,s.bottom,s.modes.origin)
theorem A8z (s:ScrC) (sMain:List (Rwc Cel)) (sAlt:List (Rwc Cel)) (sTabs:List Bool) (sb:Nat) (sMainq:Option Addr) (sMainrs:List Rwq) (sMaink:Nat) (sAltq:Option Addr) (sAltrs:List Rwq) (sAltk:Nat) (sTabsq:Option Addr) (sTabsk:Nat) (hrowssMainrs:D0 sMainrs sMain) (hlsMain:sMain.length≤9223372036854775807) (hcsMain:sMain.length≤sMaink) (hrowssAltrs:D0 sAltrs sAlt) (hlsAlt:sAlt.length≤9223372036854775807) (hcsAlt:sAlt.length≤sAltk) (hlsTabs:sTabs.length≤9223372036854775807) (hcsTabs:sTabs.length≤sTabsk) (R:Int×Int×Int×Int×Bool) (hR:Z2 s sMain sAlt sTabs=R):Con Tryz.prog 102 [pt sb 0] [bx sb (A6 s ⟨sMainq,sMain.length,sMaink⟩ ⟨sAltq,sAlt.length,sAltk⟩ ⟨none,0,0⟩ ⟨sTabsq,sTabs.length,sTabsk⟩) 114] [sl B7 sMainq sMainrs,B8 B2 sMainrs sMain,sl B7 sAltq sAltrs,B8 B2 sAltrs sAlt,sl F4 sTabsq sTabs] (Unit) (fun x=>ag [iv R.1,iv R.2.1,iv R.2.2.1,iv R.2.2.2.1,bv R.2.2.2.2]) (fun x=>[bx sb (A6 s ⟨sMainq,sMain.length,sMaink⟩ ⟨sAltq,sAlt.length,sAltk⟩ ⟨none,0,0⟩ ⟨sTabsq,sTabs.length,sTabsk⟩) 114]) (fun x=>[]):=by
 refine zco Tryz.func102 [(0,pt sb 0)] fun X hX hr hD=>?_
 replace hR:=(Z2.eq_1 ..).symm.trans hR
 have:=hrowssMainrs.1
 have:=hrowssAltrs.1
 refine sr 1 rfl (I7 1 0 [] (fun b1=>[(2,pt b1 0)]) (fun b1=>[bx b1 [iv 0,iv 0,iv 0,iv 0,bv false] 150,bx sb (A6 s ⟨sMainq,sMain.length,sMaink⟩ ⟨sAltq,sAlt.length,sAltk⟩ ⟨none,0,0⟩ ⟨sTabsq,sTabs.length,sTabsk⟩) 114]) (fun b1=>?_))
 refine ie (sh 28 [(27,[bx b1 [iv 0,iv 0,iv 0,iv 0,bv false] 150]),(28,[bx sb (A6 s ⟨sMainq,sMain.length,sMaink⟩ ⟨sAltq,sAlt.length,sAltk⟩ ⟨none,0,0⟩ ⟨sTabsq,sTabs.length,sTabsk⟩) 114])] [sl B7 sMainq sMainrs,B8 B2 sMainrs sMain,sl B7 sAltq sAltrs,B8 B2 sAltrs sAlt,sl F4 sTabsq sTabs] [bx b1 [iv 0,iv 0,iv 0,iv 0,bv false] 150,bx sb (A6 s ⟨sMainq,sMain.length,sMaink⟩ ⟨sAltq,sAlt.length,sAltk⟩ ⟨none,0,0⟩ ⟨sTabsq,sTabs.length,sTabsk⟩) 114] (zml 28 0) (by kernel_rfl) rfl (by kernel_rfl) (by kernel_rfl) (by kernel_rfl) (mk [true,true] rfl) A2.refl ?_)
 refine zhp [0,1,2,3,5,6,7,8,10,11,12,13,15,16,17,18,20,21,22,23,24] 7 (zml 28 33013231) [(6,pt sb 1),(11,pt sb 0),(16,pt sb 36),(21,pt sb 37),(27,pt sb 27)] ?_
 refine zhl 4 [bx b1 [iv 0,iv 0,iv 0,iv 0,bv false] 150,bx sb (A6 s ⟨sMainq,sMain.length,sMaink⟩ ⟨sAltq,sAlt.length,sAltk⟩ ⟨none,0,0⟩ ⟨sTabsq,sTabs.length,sTabsk⟩) 114] (zml 28 33013247) rfl (D4 (v:=iv s.rows) ty3 rfl rfl 1 rfl rfl) ?_
 refine zhl 9 [bx b1 [iv 0,iv 0,iv 0,iv 0,bv false] 150,bx sb (A6 s ⟨sMainq,sMain.length,sMaink⟩ ⟨sAltq,sAlt.length,sAltk⟩ ⟨none,0,0⟩ ⟨sTabsq,sTabs.length,sTabsk⟩) 114] (zml 28 33013759) rfl (D4 (v:=iv s.cols) ty3 rfl rfl 1 rfl rfl) ?_
 refine zhl 14 [bx b1 [iv 0,iv 0,iv 0,iv 0,bv false] 150,bx sb (A6 s ⟨sMainq,sMain.length,sMaink⟩ ⟨sAltq,sAlt.length,sAltk⟩ ⟨none,0,0⟩ ⟨sTabsq,sTabs.length,sTabsk⟩) 114] (zml 28 33030143) rfl (D4 (v:=iv s.top) ty3 rfl rfl 1 rfl rfl) ?_
 refine zhl 19 [bx b1 [iv 0,iv 0,iv 0,iv 0,bv false] 150,bx sb (A6 s ⟨sMainq,sMain.length,sMaink⟩ ⟨sAltq,sAlt.length,sAltk⟩ ⟨none,0,0⟩ ⟨sTabsq,sTabs.length,sTabsk⟩) 114] (zml 28 33554431) rfl (D4 (v:=iv s.bottom) ty3 rfl rfl 1 rfl rfl) ?_
 refine zhl 25 [bx b1 [iv 0,iv 0,iv 0,iv 0,bv false] 150,bx sb (A6 s ⟨sMainq,sMain.length,sMaink⟩ ⟨sAltq,sAlt.length,sAltk⟩ ⟨none,0,0⟩ ⟨sTabsq,sTabs.length,sTabsk⟩) 114] (zml 28 67108863) rfl (D4 (v:=bv s.modes.origin) ty4 rfl rfl 1 rfl rfl) ?_
 refine zhk 26 (zml 28 134217727) rfl (A7n (cs:=[iv s.rows,iv s.cols,iv s.top,iv s.bottom,bv s.modes.origin]) rfl rfl (by kernel_rfl)) ?_
 refine zho 27 [bx sb (A6 s ⟨sMainq,sMain.length,sMaink⟩ ⟨sAltq,sAlt.length,sAltk⟩ ⟨none,0,0⟩ ⟨sTabsq,sTabs.length,sTabsk⟩) 114] (zml 28 268435455) rfl (N3 (us:=[iv s.rows,iv s.cols,iv s.top,iv s.bottom,bv s.modes.origin]) (cs':=[iv s.rows,iv s.cols,iv s.top,iv s.bottom,bv s.modes.origin]) C6h rfl rfl rfl 0 rfl rfl rfl rfl rfl rfl) (fun _=>(mk [false,true] rfl)) (fun _=>A2.refl) fun _=>?_
 refine B0r (by kernel_rfl) ?_
 subst hR
 refine A7 ?_
 exact zer hr hD (P3 rfl (I1 (us:=[iv s.rows,iv s.cols,iv s.top,iv s.bottom,bv s.modes.origin]) C6h rfl 0 rfl rfl rfl)) () (mk [false,true] rfl) fn0
def F5 (s:ScrC) (sMain:List (Rwc Cel)) (sAlt:List (Rwc Cel)) (sTabs:List Bool) (g:List (Rwc Cel)):Bool :=
 (((decide ((K6 g)=0))&&(decide ((g.length:Int)=s.rows)))&&(decide (((g.getD 0 zwc).l.length:Int)=s.cols)))
theorem A3j (s:ScrC) (sMain:List (Rwc Cel)) (sAlt:List (Rwc Cel)) (sTabs:List Bool) (g:List (Rwc Cel)) (sb:Nat) (sMainq:Option Addr) (sMainrs:List Rwq) (sMaink:Nat) (sAltq:Option Addr) (sAltrs:List Rwq) (sAltk:Nat) (sTabsq:Option Addr) (sTabsk:Nat) (gq:Option Addr) (grs:List Rwq) (gk:Nat) (hrowssMainrs:D0 sMainrs sMain) (hlsMain:sMain.length≤9223372036854775807) (hcsMain:sMain.length≤sMaink) (hrowssAltrs:D0 sAltrs sAlt) (hlsAlt:sAlt.length≤9223372036854775807) (hcsAlt:sAlt.length≤sAltk) (hlsTabs:sTabs.length≤9223372036854775807) (hcsTabs:sTabs.length≤sTabsk) (hrowsgrs:D0 grs g) (hlg:g.length≤9223372036854775807) (hcg:g.length≤gk) (R:Bool) (hR:F5 s sMain sAlt sTabs g=R):Con Tryz.prog 105 [pt sb 0,.slice gq g.length gk] [bx sb (A6 s ⟨sMainq,sMain.length,sMaink⟩ ⟨sAltq,sAlt.length,sAltk⟩ ⟨none,0,0⟩ ⟨sTabsq,sTabs.length,sTabsk⟩) 114] [sl B7 sMainq sMainrs,B8 B2 sMainrs sMain,sl B7 sAltq sAltrs,B8 B2 sAltrs sAlt,sl F4 sTabsq sTabs,sl B7 gq grs,B8 B2 grs g,A0z,A1a] (Unit) (fun x=>bv R) (fun x=>[bx sb (A6 s ⟨sMainq,sMain.length,sMaink⟩ ⟨sAltq,sAlt.length,sAltk⟩ ⟨none,0,0⟩ ⟨sTabsq,sTabs.length,sTabsk⟩) 114]) (fun x=>[]):=by
 refine zco Tryz.func105 [(0,pt sb 0),(1,.slice gq g.length gk)] fun X hX hr hD=>?_
 replace hR:=(F5.eq_1 ..).symm.trans hR
 have:=hrowssMainrs.1
 have:=hrowssAltrs.1
 have:=hrowsgrs.1
 have hgp:K6 g=0→0<g.length:=A9g
 refine sr 1 rfl (ip' 1 0 [] ?_)
 refine ie (sd 27 rfl (by kernel_rfl) rfl ?_)
 refine dp' 1 26 [(5,.slice gq g.length gk)] ?_
 refine zcd (B3o g gq grs gk hrowsgrs (by first|omega|(simp only [List.length_take,List.length_drop,List.length_append,List.length_cons,List.length_nil,List.length_set,List.length_map];omega)|decide) (by first|omega|(simp only [List.length_take,List.length_drop,List.length_append,List.length_cons,List.length_nil,List.length_set,List.length_map];omega)|decide) _ rfl) (A2.pick [5,6,7,8] rfl) ?_
 refine dp' 2 23 [(8,bv (decide ((K6 g)=0)))] ?_
 refine zdd 9 14 8 17 (decide ((g.length:Int)=s.rows)) (fun g1 g1p=>?_) ?_
 ·refine zdg 9 0 [0] [(17,bv (decide ((g.length:Int)=s.rows)))] ?_
  exact zad 2 8 17 g1
 refine dp' 1 13 [(18,bv ((decide ((K6 g)=0))&&(decide ((g.length:Int)=s.rows))))] ?_
 refine zda 12 1 18 30 (decide (((g.getD 0 zwc).l.length:Int)=s.cols)) (fun g2=>?_) ?_
 ·have g2p:((K6 g)=0)∧((g.length:Int)=s.rows):=by simpa using g2
  refine dp' 1 11 [(19,.slice gq g.length gk)] ?_
  refine A4a 5 rfl (by have:=hrowsgrs.1;omega) fun a3 hq4=>?_
  refine A4g (B3x (k:=0) hrowsgrs 6 rfl (by have:=hrowsgrs.1;omega)) ?_
  have:=A7w hrowsgrs (k:=0) (by have:=hrowsgrs.1;omega)
  refine dd rfl (E8 A5a rfl rfl hq4 rfl 0 rfl (by omega)) ?_
  refine dp' 1 9 [(21,pa (Addr.add a3 (0 * 2)))] ?_
  refine dd rfl (F9 (C8 (v:=.slice ((grs.getD 0 zwq).s.q) ((grs.getD 0 zwq).s.n) ((grs.getD 0 zwq).s.k)) (us:=[.slice ((grs.getD 0 zwq).s.q) ((grs.getD 0 zwq).s.n) ((grs.getD 0 zwq).s.k)]) A3e rfl rfl (A0g (G0 (c:=B7) (sz:=2) hq4 (fun _=>rfl) 6 rfl (gd zwq (by have:=hrowsgrs.1;omega))) (ws:=[.slice ((grs.getD 0 zwq).s.q) ((grs.getD 0 zwq).s.n) ((grs.getD 0 zwq).s.k)]) 1 rfl) rfl) (C3j hrowsgrs (by have:=hrowsgrs.1;omega))) ?_
  refine zdg 8 0 [0] [(30,bv (decide (((g.getD 0 zwc).l.length:Int)=s.cols)))] ?_
  exact zad 6 18 30 g2
 refine dp' 1 0 [(4,bv (((decide ((K6 g)=0))&&(decide ((g.length:Int)=s.rows)))&&(decide (((g.getD 0 zwc).l.length:Int)=s.cols))))] ?_
 subst hR
 refine de (A7 ?_)
 exact zer hr hD (P3 rfl (B1 rfl)) () (mk [true] rfl) fn0
def A2h (cols:Int):Int :=
 (bif ((decide (cols<2))||(decide ((80:Int)<cols))) then 2 else 0)
theorem B8q (cols:Int) (R:Int) (hR:A2h cols=R):I6 Tryz.prog 106 [iv cols,.slice none 0 0] [] (iv R):=by
 refine zco Tryz.func106 [(0,iv cols),(1,.slice none 0 0)] fun X hX hr hD=>?_
 replace hR:=(A2h.eq_1 ..).symm.trans hR
 refine sr 1 rfl (ip' 1 0 [] ?_)
 refine ie (A3 (sr 6 rfl (ip' 3 3 [(9,bv (decide (cols<2)))] ?_)))
 refine zir 3 0 9 12 (decide ((80:Int)<cols)) (fun g1 g1p=>?_) ?_
 ·refine ip' 3 0 [(12,bv (decide ((80:Int)<cols)))] ?_
  exact A1 (H1 2 9 12 g1 fn0 (mk [] rfl) rfl rfl rfl rfl rfl)
 refine ie ?_
 refine zjo rfl hR ?_ ?_<;>clear hR<;>intro hR h2 h2p
 ·refine sr 1 rfl (ip' 1 0 [(4,iv 2)] ?_)
  subst hR
  refine ie (A7 ?_)
  exact D5 hr hD
 refine A4 (nx (A3 (sr 3 rfl (ip' 3 0 [(15,bv false)] ?_))))
 refine ie (A0m rfl (A4 (nx (A3 (sr 3 rfl (ip' 3 0 [(16,.slice none 0 0),(17,iv 0),(18,iv 0)] ?_))))))
 refine ie (B0 (R6 2 ?_))
 refine D7 (sr 1 rfl (ip' 1 0 [(19,bv false)] ?_))
 refine ie (A3 (A0m rfl (G2 (nx (sr 1 rfl (ip' 1 0 [(4,iv 0)] ?_))))))
 subst hR
 refine ie (A7 ?_)
 exact D5 hr hD
def P5 (s:ScrC) (t72:Bool):Bool :=
 (bif t72 then false else (bif (decide (s.shape<0)) then (bif (decide (s.shape<0)) then false else ((decide (s.last=0))||(decide ((0:Int)<(F2 s.last))))) else (bif (decide ((6:Int)<s.shape)) then (bif (decide ((6:Int)<s.shape)) then false else ((decide (s.last=0))||(decide ((0:Int)<(F2 s.last))))) else (bif (!decide ((J7 0 0 Col.zero s.title)=0)) then false else ((decide (s.last=0))||(decide ((0:Int)<(F2 s.last))))))))
def L5 (s:ScrC) (t31:Bool):Bool :=
 (bif t31 then false else (bif (!decide ((D9 s.style)=0)) then P5 s (!decide ((D9 s.style)=0)) else (bif (!decide ((K1 s.sets)=0)) then P5 s (!decide ((K1 s.sets)=0)) else P5 s (!decide ((S3 s.modes)=0)))))
def N5 (s:ScrC) (sMain:List (Rwc Cel)) (sAlt:List (Rwc Cel)) (sTabs:List Bool) (t6:Bool):Bool :=
 (bif t6 then false else (bif (!(F5 s sMain sAlt sTabs sMain)) then L5 s (!(F5 s sMain sAlt sTabs sMain)) else (bif (!(F5 s sMain sAlt sTabs sAlt)) then L5 s (!(F5 s sMain sAlt sTabs sAlt)) else (bif (!decide ((A2h s.cols)=0)) then L5 s (!decide ((A2h s.cols)=0)) else L5 s (!decide ((sTabs.length:Int)=s.cols))))))
def N7 (s:ScrC) (sMain:List (Rwc Cel)) (sAlt:List (Rwc Cel)) (sTabs:List Bool):Bool :=
 (F1 (Z2 s sMain sAlt sTabs) fun (y0:Int×Int×Int×Int×Bool)=>(bif (!decide ((F3 y0.1 y0.2.1 y0.2.2.1 y0.2.2.2.1 y0.2.2.2.2 s.cursor)=0)) then N5 s sMain sAlt sTabs (!decide ((F3 y0.1 y0.2.1 y0.2.2.1 y0.2.2.2.1 y0.2.2.2.2 s.cursor)=0)) else (bif (!decide ((E4 y0.1 y0.2.1 y0.2.2.1 y0.2.2.2.1 y0.2.2.2.2 s.kept)=0)) then N5 s sMain sAlt sTabs (!decide ((E4 y0.1 y0.2.1 y0.2.2.1 y0.2.2.2.1 y0.2.2.2.2 s.kept)=0)) else N5 s sMain sAlt sTabs (!decide ((E4 y0.1 y0.2.1 y0.2.2.1 y0.2.2.2.1 y0.2.2.2.2 s.keptAlt)=0)))))
theorem A9d (s:ScrC) (sMain:List (Rwc Cel)) (sAlt:List (Rwc Cel)) (sTabs:List Bool) (sb:Nat) (sMainq:Option Addr) (sMainrs:List Rwq) (sMaink:Nat) (sAltq:Option Addr) (sAltrs:List Rwq) (sAltk:Nat) (sTabsq:Option Addr) (sTabsk:Nat) (hrowssMainrs:D0 sMainrs sMain) (hlsMain:sMain.length≤9223372036854775807) (hcsMain:sMain.length≤sMaink) (hrowssAltrs:D0 sAltrs sAlt) (hlsAlt:sAlt.length≤9223372036854775807) (hcsAlt:sAlt.length≤sAltk) (hlsTabs:sTabs.length≤9223372036854775807) (hcsTabs:sTabs.length≤sTabsk) (hTs:s.title.length≤100000000) (R:Bool) (hR:N7 s sMain sAlt sTabs=R):Con Tryz.prog 64 [pt sb 0] [bx sb (A6 s ⟨sMainq,sMain.length,sMaink⟩ ⟨sAltq,sAlt.length,sAltk⟩ ⟨none,0,0⟩ ⟨sTabsq,sTabs.length,sTabsk⟩) 114] [sl B7 sMainq sMainrs,B8 B2 sMainrs sMain,sl B7 sAltq sAltrs,B8 B2 sAltrs sAlt,sl F4 sTabsq sTabs,A0z,A1a] (Unit) (fun x=>bv R) (fun x=>[bx sb (A6 s ⟨sMainq,sMain.length,sMaink⟩ ⟨sAltq,sAlt.length,sAltk⟩ ⟨none,0,0⟩ ⟨sTabsq,sTabs.length,sTabsk⟩) 114]) (fun x=>[]):=by
 refine zco Tryz.func64 [(0,pt sb 0)] fun X hX hr hD=>?_
 replace hR:=(N7.eq_1 ..).symm.trans hR
 have:=hrowssMainrs.1
 have:=hrowssAltrs.1
 refine sr 1 rfl (ip' 1 0 [] ?_)
 refine ie (sr 4 rfl (ip' 1 3 [(4,pt sb 0)] ?_))
 have hQ:=G6 hR;clear hR;obtain ⟨y0,hy0,hR⟩:=hQ
 refine it rfl (H2 (L2:=[]) (A8z s sMain sAlt sTabs sb sMainq sMainrs sMaink sAltq sAltrs sAltk sTabsq sTabsk hrowssMainrs (by first|omega|(simp only [List.length_take,List.length_drop,List.length_append,List.length_cons,List.length_nil,List.length_set,List.length_map];omega)|decide) (by first|omega|(simp only [List.length_take,List.length_drop,List.length_append,List.length_cons,List.length_nil,List.length_set,List.length_map];omega)|decide) hrowssAltrs (by first|omega|(simp only [List.length_take,List.length_drop,List.length_append,List.length_cons,List.length_nil,List.length_set,List.length_map];omega)|decide) (by first|omega|(simp only [List.length_take,List.length_drop,List.length_append,List.length_cons,List.length_nil,List.length_set,List.length_map];omega)|decide) (by first|omega|(simp only [List.length_take,List.length_drop,List.length_append,List.length_cons,List.length_nil,List.length_set,List.length_map];omega)|decide) (by first|omega|(simp only [List.length_take,List.length_drop,List.length_append,List.length_cons,List.length_nil,List.length_set,List.length_map];omega)|decide) y0 hy0) rfl rfl rfl rfl rfl (A2.pick [0,1,2,3,4] rfl) (H3 [[bx sb (A6 s ⟨sMainq,sMain.length,sMaink⟩ ⟨sAltq,sAlt.length,sAltk⟩ ⟨none,0,0⟩ ⟨sTabsq,sTabs.length,sTabsk⟩) 114]] [0] 1 rfl (by decide) rfl [[bx sb (A6 s ⟨sMainq,sMain.length,sMaink⟩ ⟨sAltq,sAlt.length,sAltk⟩ ⟨none,0,0⟩ ⟨sTabsq,sTabs.length,sTabsk⟩) 114]] rfl (by first|rfl|simp only [List.flatten_cons,List.flatten_nil,List.append_nil,List.cons_append,List.nil_append,List.append_assoc])) (fun _=>[bx sb (A6 s ⟨sMainq,sMain.length,sMaink⟩ ⟨sAltq,sAlt.length,sAltk⟩ ⟨none,0,0⟩ ⟨sTabsq,sTabs.length,sTabsk⟩) 114]) (fun _=>rfl)) fun _=>?_
 refine I7 2 0 [0] (fun b1=>[(3,pt b1 0)]) (fun b1=>[bx b1 [iv y0.1,iv y0.2.1,iv y0.2.2.1,iv y0.2.2.2.1,bv y0.2.2.2.2] 150,bx sb (A6 s ⟨sMainq,sMain.length,sMaink⟩ ⟨sAltq,sAlt.length,sAltk⟩ ⟨none,0,0⟩ ⟨sTabsq,sTabs.length,sTabsk⟩) 114]) (fun b1=>?_)
 refine ie (A3 (B0 (B5u (fun (t6:Bool)=>(N5 s sMain sAlt sTabs t6=R,[(0,pt sb 0),(6,bv t6)],[bx b1 [iv y0.1,iv y0.2.1,iv y0.2.2.1,iv y0.2.2.2.1,bv y0.2.2.2.2] 150,bx sb (A6 s ⟨sMainq,sMain.length,sMaink⟩ ⟨sAltq,sAlt.length,sAltk⟩ ⟨none,0,0⟩ ⟨sTabsq,sTabs.length,sTabsk⟩) 114],[sl B7 sMainq sMainrs,B8 B2 sMainrs sMain,sl B7 sAltq sAltrs,B8 B2 sAltrs sAlt,sl F4 sTabsq sTabs,A0z,A1a])) ?_ ?_)))
 ·refine sd 9 rfl (by kernel_rfl) rfl ?_
  refine zdg 6 3 [0,1] [(7,ag [iv y0.1,iv y0.2.1,iv y0.2.2.1,iv y0.2.2.2.1,bv y0.2.2.2.2]),(12,ag (A4w s.cursor))] ?_
  refine zcd (A3q y0.1 y0.2.1 y0.2.2.1 y0.2.2.2.1 y0.2.2.2.2 s.cursor _ rfl) fn0 ?_
  refine dp' 2 0 [(6,bv (!decide ((F3 y0.1 y0.2.1 y0.2.2.1 y0.2.2.2.1 y0.2.2.2.2 s.cursor)=0)))] ?_
  refine de ?_
  refine zjn rfl hR ?_ ?_<;>clear hR<;>intro hR h2 h2p
  ·refine A4 ?_
   exact A2q (!decide ((F3 y0.1 y0.2.1 y0.2.2.1 y0.2.2.2.1 y0.2.2.2.2 s.cursor)=0)) hR (mk [true,true] rfl) A2.refl
  refine sd 9 rfl (by kernel_rfl) rfl ?_
  refine zdg 6 3 [0,1] [(15,ag [iv y0.1,iv y0.2.1,iv y0.2.2.1,iv y0.2.2.2.1,bv y0.2.2.2.2]),(20,ag (A1t s.kept))] ?_
  refine zcd (Z1 y0.1 y0.2.1 y0.2.2.1 y0.2.2.2.1 y0.2.2.2.2 s.kept _ rfl) fn0 ?_
  refine dp' 2 0 [(6,bv (!decide ((E4 y0.1 y0.2.1 y0.2.2.1 y0.2.2.2.1 y0.2.2.2.2 s.kept)=0)))] ?_
  refine de ?_
  refine zjn rfl hR ?_ ?_<;>clear hR<;>intro hR h3 h3p
  ·refine A4 ?_
   exact A2q (!decide ((E4 y0.1 y0.2.1 y0.2.2.1 y0.2.2.2.1 y0.2.2.2.2 s.kept)=0)) hR (mk [true,true] rfl) A2.refl
  refine B6n 9 rfl (by kernel_rfl) rfl ?_
  refine zdg 6 3 [0,1] [(23,ag [iv y0.1,iv y0.2.1,iv y0.2.2.1,iv y0.2.2.2.1,bv y0.2.2.2.2]),(28,ag (A1t s.keptAlt))] ?_
  refine zcd (Z1 y0.1 y0.2.1 y0.2.2.1 y0.2.2.2.1 y0.2.2.2.2 s.keptAlt _ rfl) fn0 ?_
  refine dp' 2 0 [(6,bv (!decide ((E4 y0.1 y0.2.1 y0.2.2.1 y0.2.2.2.1 y0.2.2.2.2 s.keptAlt)=0)))] ?_
  refine A9r ?_
  exact A2q (!decide ((E4 y0.1 y0.2.1 y0.2.2.1 y0.2.2.2.1 y0.2.2.2.2 s.keptAlt)=0)) hR (mk [true,true] rfl) A2.refl
 intro t6
 rintro hR
 replace hR:=(N5.eq_1 ..).symm.trans hR
 refine zjb rfl hR ?_ ?_<;>clear hR<;>intro hR h4
 ·refine sr 1 rfl (ip' 1 0 [(2,bv false)] ?_)
  subst hR
  refine ie (A7 ?_)
  exact zer hr hD (P3 rfl (B1 rfl)) () (mk [false,true] rfl) fn0
 refine B5u (fun (t31:Bool)=>(L5 s t31=R,[(0,pt sb 0),(31,bv t31)],[bx b1 [iv y0.1,iv y0.2.1,iv y0.2.2.1,iv y0.2.2.2.1,bv y0.2.2.2.2] 150,bx sb (A6 s ⟨sMainq,sMain.length,sMaink⟩ ⟨sAltq,sAlt.length,sAltk⟩ ⟨none,0,0⟩ ⟨sTabsq,sTabs.length,sTabsk⟩) 114],[sl B7 sMainq sMainrs,B8 B2 sMainrs sMain,sl B7 sAltq sAltrs,B8 B2 sAltrs sAlt,sl F4 sTabsq sTabs,A0z,A1a])) ?_ ?_
 ·refine sr 9 rfl (zrl 6 3 [1] [(32,pt sb 0),(37,.slice sMainq sMain.length sMaink)] ?_)
  refine it rfl (H2 (L2:=[bx b1 [iv y0.1,iv y0.2.1,iv y0.2.2.1,iv y0.2.2.2.1,bv y0.2.2.2.2] 150]) (A3j s sMain sAlt sTabs sMain sb sMainq sMainrs sMaink sAltq sAltrs sAltk sTabsq sTabsk sMainq sMainrs sMaink hrowssMainrs (by first|omega|(simp only [List.length_take,List.length_drop,List.length_append,List.length_cons,List.length_nil,List.length_set,List.length_map];omega)|decide) (by first|omega|(simp only [List.length_take,List.length_drop,List.length_append,List.length_cons,List.length_nil,List.length_set,List.length_map];omega)|decide) hrowssAltrs (by first|omega|(simp only [List.length_take,List.length_drop,List.length_append,List.length_cons,List.length_nil,List.length_set,List.length_map];omega)|decide) (by first|omega|(simp only [List.length_take,List.length_drop,List.length_append,List.length_cons,List.length_nil,List.length_set,List.length_map];omega)|decide) (by first|omega|(simp only [List.length_take,List.length_drop,List.length_append,List.length_cons,List.length_nil,List.length_set,List.length_map];omega)|decide) (by first|omega|(simp only [List.length_take,List.length_drop,List.length_append,List.length_cons,List.length_nil,List.length_set,List.length_map];omega)|decide) hrowssMainrs (by first|omega|(simp only [List.length_take,List.length_drop,List.length_append,List.length_cons,List.length_nil,List.length_set,List.length_map];omega)|decide) (by first|omega|(simp only [List.length_take,List.length_drop,List.length_append,List.length_cons,List.length_nil,List.length_set,List.length_map];omega)|decide) _ rfl) rfl rfl rfl rfl rfl (A2.pick [0,1,2,3,4,0,1,5,6] rfl) (H3 [[bx b1 [iv y0.1,iv y0.2.1,iv y0.2.2.1,iv y0.2.2.2.1,bv y0.2.2.2.2] 150],[bx sb (A6 s ⟨sMainq,sMain.length,sMaink⟩ ⟨sAltq,sAlt.length,sAltk⟩ ⟨none,0,0⟩ ⟨sTabsq,sTabs.length,sTabsk⟩) 114]] [1,0] 2 rfl (by decide) rfl [[bx sb (A6 s ⟨sMainq,sMain.length,sMaink⟩ ⟨sAltq,sAlt.length,sAltk⟩ ⟨none,0,0⟩ ⟨sTabsq,sTabs.length,sTabsk⟩) 114],[bx b1 [iv y0.1,iv y0.2.1,iv y0.2.2.1,iv y0.2.2.2.1,bv y0.2.2.2.2] 150]] rfl (by first|rfl|simp only [List.flatten_cons,List.flatten_nil,List.append_nil,List.cons_append,List.nil_append,List.append_assoc])) (fun _=>[bx sb (A6 s ⟨sMainq,sMain.length,sMaink⟩ ⟨sAltq,sAlt.length,sAltk⟩ ⟨none,0,0⟩ ⟨sTabsq,sTabs.length,sTabsk⟩) 114,bx b1 [iv y0.1,iv y0.2.1,iv y0.2.2.1,iv y0.2.2.2.1,bv y0.2.2.2.2] 150]) (fun _=>rfl)) fun _=>?_
  refine ip' 2 0 [(31,bv (!(F5 s sMain sAlt sTabs sMain)))] ?_
  refine ie ?_
  refine zjb rfl hR ?_ ?_<;>clear hR<;>intro hR h5
  ·refine A4 (W7 (H3 [[bx sb (A6 s ⟨sMainq,sMain.length,sMaink⟩ ⟨sAltq,sAlt.length,sAltk⟩ ⟨none,0,0⟩ ⟨sTabsq,sTabs.length,sTabsk⟩) 114],[bx b1 [iv y0.1,iv y0.2.1,iv y0.2.2.1,iv y0.2.2.2.1,bv y0.2.2.2.2] 150]] [1,0] 2 rfl (by decide) rfl [[bx b1 [iv y0.1,iv y0.2.1,iv y0.2.2.1,iv y0.2.2.2.1,bv y0.2.2.2.2] 150],[bx sb (A6 s ⟨sMainq,sMain.length,sMaink⟩ ⟨sAltq,sAlt.length,sAltk⟩ ⟨none,0,0⟩ ⟨sTabsq,sTabs.length,sTabsk⟩) 114]] rfl (by first|rfl|simp)) ?_)
   exact A2q (!(F5 s sMain sAlt sTabs sMain)) hR (mk [true,true] rfl) A2.refl
  refine sr 9 rfl (zrl 6 3 [0] [(40,pt sb 0),(45,.slice sAltq sAlt.length sAltk)] ?_)
  refine it rfl (H2 (L2:=[bx b1 [iv y0.1,iv y0.2.1,iv y0.2.2.1,iv y0.2.2.2.1,bv y0.2.2.2.2] 150]) (A3j s sMain sAlt sTabs sAlt sb sMainq sMainrs sMaink sAltq sAltrs sAltk sTabsq sTabsk sAltq sAltrs sAltk hrowssMainrs (by first|omega|(simp only [List.length_take,List.length_drop,List.length_append,List.length_cons,List.length_nil,List.length_set,List.length_map];omega)|decide) (by first|omega|(simp only [List.length_take,List.length_drop,List.length_append,List.length_cons,List.length_nil,List.length_set,List.length_map];omega)|decide) hrowssAltrs (by first|omega|(simp only [List.length_take,List.length_drop,List.length_append,List.length_cons,List.length_nil,List.length_set,List.length_map];omega)|decide) (by first|omega|(simp only [List.length_take,List.length_drop,List.length_append,List.length_cons,List.length_nil,List.length_set,List.length_map];omega)|decide) (by first|omega|(simp only [List.length_take,List.length_drop,List.length_append,List.length_cons,List.length_nil,List.length_set,List.length_map];omega)|decide) (by first|omega|(simp only [List.length_take,List.length_drop,List.length_append,List.length_cons,List.length_nil,List.length_set,List.length_map];omega)|decide) hrowssAltrs (by first|omega|(simp only [List.length_take,List.length_drop,List.length_append,List.length_cons,List.length_nil,List.length_set,List.length_map];omega)|decide) (by first|omega|(simp only [List.length_take,List.length_drop,List.length_append,List.length_cons,List.length_nil,List.length_set,List.length_map];omega)|decide) _ rfl) rfl rfl rfl rfl rfl (A2.pick [0,1,2,3,4,2,3,5,6] rfl) (H3 [[bx sb (A6 s ⟨sMainq,sMain.length,sMaink⟩ ⟨sAltq,sAlt.length,sAltk⟩ ⟨none,0,0⟩ ⟨sTabsq,sTabs.length,sTabsk⟩) 114],[bx b1 [iv y0.1,iv y0.2.1,iv y0.2.2.1,iv y0.2.2.2.1,bv y0.2.2.2.2] 150]] [0,1] 2 rfl (by decide) rfl [[bx sb (A6 s ⟨sMainq,sMain.length,sMaink⟩ ⟨sAltq,sAlt.length,sAltk⟩ ⟨none,0,0⟩ ⟨sTabsq,sTabs.length,sTabsk⟩) 114],[bx b1 [iv y0.1,iv y0.2.1,iv y0.2.2.1,iv y0.2.2.2.1,bv y0.2.2.2.2] 150]] rfl (by first|rfl|simp only [List.flatten_cons,List.flatten_nil,List.append_nil,List.cons_append,List.nil_append,List.append_assoc])) (fun _=>[bx sb (A6 s ⟨sMainq,sMain.length,sMaink⟩ ⟨sAltq,sAlt.length,sAltk⟩ ⟨none,0,0⟩ ⟨sTabsq,sTabs.length,sTabsk⟩) 114,bx b1 [iv y0.1,iv y0.2.1,iv y0.2.2.1,iv y0.2.2.2.1,bv y0.2.2.2.2] 150]) (fun _=>rfl)) fun _=>?_
  refine ip' 2 0 [(31,bv (!(F5 s sMain sAlt sTabs sAlt)))] ?_
  refine ie ?_
  refine zjb rfl hR ?_ ?_<;>clear hR<;>intro hR h6
  ·refine A4 (W7 (H3 [[bx sb (A6 s ⟨sMainq,sMain.length,sMaink⟩ ⟨sAltq,sAlt.length,sAltk⟩ ⟨none,0,0⟩ ⟨sTabsq,sTabs.length,sTabsk⟩) 114],[bx b1 [iv y0.1,iv y0.2.1,iv y0.2.2.1,iv y0.2.2.2.1,bv y0.2.2.2.2] 150]] [1,0] 2 rfl (by decide) rfl [[bx b1 [iv y0.1,iv y0.2.1,iv y0.2.2.1,iv y0.2.2.2.1,bv y0.2.2.2.2] 150],[bx sb (A6 s ⟨sMainq,sMain.length,sMaink⟩ ⟨sAltq,sAlt.length,sAltk⟩ ⟨none,0,0⟩ ⟨sTabsq,sTabs.length,sTabsk⟩) 114]] rfl (by first|rfl|simp)) ?_)
   exact A2q (!(F5 s sMain sAlt sTabs sAlt)) hR (mk [true,true] rfl) A2.refl
  refine sd 13 rfl (by kernel_rfl) rfl ?_
  refine zdg 10 3 [0,0] [(52,iv s.cols),(57,.slice none 0 0)] ?_
  refine zcd (B8q s.cols _ rfl) fn0 ?_
  refine dp' 2 0 [(31,bv (!decide ((A2h s.cols)=0)))] ?_
  refine de ?_
  refine zjn rfl hR ?_ ?_<;>clear hR<;>intro hR h7 h7p
  ·refine A4 (W7 (H3 [[bx sb (A6 s ⟨sMainq,sMain.length,sMaink⟩ ⟨sAltq,sAlt.length,sAltk⟩ ⟨none,0,0⟩ ⟨sTabsq,sTabs.length,sTabsk⟩) 114],[bx b1 [iv y0.1,iv y0.2.1,iv y0.2.2.1,iv y0.2.2.2.1,bv y0.2.2.2.2] 150]] [1,0] 2 rfl (by decide) rfl [[bx b1 [iv y0.1,iv y0.2.1,iv y0.2.2.1,iv y0.2.2.2.1,bv y0.2.2.2.2] 150],[bx sb (A6 s ⟨sMainq,sMain.length,sMaink⟩ ⟨sAltq,sAlt.length,sAltk⟩ ⟨none,0,0⟩ ⟨sTabsq,sTabs.length,sTabsk⟩) 114]] rfl (by first|rfl|simp)) ?_)
   exact A2q (!decide ((A2h s.cols)=0)) hR (mk [true,true] rfl) A2.refl
  refine B6n 13 rfl (by kernel_rfl) rfl ?_
  refine zdg 13 0 [0,0] [(31,bv (!decide ((sTabs.length:Int)=s.cols)))] ?_
  refine A9r (W7 (H3 [[bx sb (A6 s ⟨sMainq,sMain.length,sMaink⟩ ⟨sAltq,sAlt.length,sAltk⟩ ⟨none,0,0⟩ ⟨sTabsq,sTabs.length,sTabsk⟩) 114],[bx b1 [iv y0.1,iv y0.2.1,iv y0.2.2.1,iv y0.2.2.2.1,bv y0.2.2.2.2] 150]] [1,0] 2 rfl (by decide) rfl [[bx b1 [iv y0.1,iv y0.2.1,iv y0.2.2.1,iv y0.2.2.2.1,bv y0.2.2.2.2] 150],[bx sb (A6 s ⟨sMainq,sMain.length,sMaink⟩ ⟨sAltq,sAlt.length,sAltk⟩ ⟨none,0,0⟩ ⟨sTabsq,sTabs.length,sTabsk⟩) 114]] rfl (by first|rfl|simp)) ?_)
  exact A2q (!decide ((sTabs.length:Int)=s.cols)) hR (mk [true,true] rfl) A2.refl
 intro t31
 rintro hR
 replace hR:=(L5.eq_1 ..).symm.trans hR
 refine zjb rfl hR ?_ ?_<;>clear hR<;>intro hR h8
 ·refine sr 1 rfl (ip' 1 0 [(2,bv false)] ?_)
  subst hR
  refine ie (A7 ?_)
  exact zer hr hD (P3 rfl (B1 rfl)) () (mk [false,true] rfl) fn0
 refine B5u (fun (t72:Bool)=>(P5 s t72=R,[(0,pt sb 0),(72,bv t72)],[bx b1 [iv y0.1,iv y0.2.1,iv y0.2.2.1,iv y0.2.2.2.1,bv y0.2.2.2.2] 150,bx sb (A6 s ⟨sMainq,sMain.length,sMaink⟩ ⟨sAltq,sAlt.length,sAltk⟩ ⟨none,0,0⟩ ⟨sTabsq,sTabs.length,sTabsk⟩) 114],[sl B7 sMainq sMainrs,B8 B2 sMainrs sMain,sl B7 sAltq sAltrs,B8 B2 sAltrs sAlt,sl F4 sTabsq sTabs,A0z,A1a])) ?_ ?_
 ·refine sr 8 rfl (zrl 5 3 [1] [(77,ag (I8 s.style))] ?_)
  refine zca (A0l s.style _ rfl) fn0 ?_
  refine ip' 2 0 [(72,bv (!decide ((D9 s.style)=0)))] ?_
  refine ie ?_
  refine zjn rfl hR ?_ ?_<;>clear hR<;>intro hR h9 h9p
  ·refine A4 ?_
   exact A2q (!decide ((D9 s.style)=0)) hR (mk [true,true] rfl) A2.refl
  refine sr 8 rfl (zrl 5 3 [1] [(84,ag (A4x s.sets))] ?_)
  refine zca (A8r s.sets _ rfl) fn0 ?_
  refine ip' 2 0 [(72,bv (!decide ((K1 s.sets)=0)))] ?_
  refine ie ?_
  refine zjn rfl hR ?_ ?_<;>clear hR<;>intro hR h10 h10p
  ·refine A4 ?_
   exact A2q (!decide ((K1 s.sets)=0)) hR (mk [true,true] rfl) A2.refl
  refine A5 8 rfl (zrl 5 3 [1] [(91,ag (A2m s.modes))] ?_)
  refine zca (B3i s.modes _ rfl) fn0 ?_
  refine ip' 2 0 [(72,bv (!decide ((S3 s.modes)=0)))] ?_
  refine A1 ?_
  exact A2q (!decide ((S3 s.modes)=0)) hR (mk [true,true] rfl) A2.refl
 intro t72
 rintro hR
 replace hR:=(P5.eq_1 ..).symm.trans hR
 refine zjb rfl hR ?_ ?_<;>clear hR<;>intro hR h11
 ·refine sr 1 rfl (ip' 1 0 [(2,bv false)] ?_)
  subst hR
  refine ie (A7 ?_)
  exact zer hr hD (P3 rfl (B1 rfl)) () (mk [false,true] rfl) fn0
 refine A3 (sr 7 rfl (zrl 7 0 [1] [(94,bv (decide (s.shape<0)))] ?_))
 refine ie ?_
 refine zjd rfl hR ?_ ?_<;>clear hR<;>intro hR h12 h12p
 ·refine A4 (nx ?_)
  refine zjd rfl hR ?_ ?_<;>clear hR<;>intro hR h13 h13p
  ·refine sr 1 rfl (ip' 1 0 [(2,bv false)] ?_)
   subst hR
   refine ie (A7 ?_)
   exact zer hr hD (P3 rfl (B1 rfl)) () (mk [false,true] rfl) fn0
  refine A4 (nx (sr 16 rfl (zrl 7 9 [1] [(121,bv (decide (s.last=0)))] ?_)))
  refine zir 8 1 121 129 (decide ((0:Int)<(F2 s.last))) (fun g14 g14p=>?_) ?_
  ·refine zrl 5 3 [1] [(126,iv s.last)] ?_
   refine zca (A0c s.last _ rfl) (A2.pick [5,6] rfl) ?_
   refine ip' 2 0 [(129,bv (decide ((0:Int)<(F2 s.last))))] ?_
   exact zai 4 121 129 g14
  refine ip' 1 0 [(2,bv ((decide (s.last=0))||(decide ((0:Int)<(F2 s.last)))))] ?_
  subst hR
  refine ie (A7 ?_)
  exact zer hr hD (P3 rfl (B1 rfl)) () (mk [false,true] rfl) fn0
 refine sr 7 rfl (zrl 7 0 [1] [(94,bv (decide ((6:Int)<s.shape)))] ?_)
 refine ie ?_
 refine zjd rfl hR ?_ ?_<;>clear hR<;>intro hR h15 h15p
 ·refine A4 (nx ?_)
  refine zjd rfl hR ?_ ?_<;>clear hR<;>intro hR h16 h16p
  ·refine sr 1 rfl (ip' 1 0 [(2,bv false)] ?_)
   subst hR
   refine ie (A7 ?_)
   exact zer hr hD (P3 rfl (B1 rfl)) () (mk [false,true] rfl) fn0
  refine A4 (nx (sr 16 rfl (zrl 7 9 [1] [(121,bv (decide (s.last=0)))] ?_)))
  refine zir 8 1 121 129 (decide ((0:Int)<(F2 s.last))) (fun g17 g17p=>?_) ?_
  ·refine zrl 5 3 [1] [(126,iv s.last)] ?_
   refine zca (A0c s.last _ rfl) (A2.pick [5,6] rfl) ?_
   refine ip' 2 0 [(129,bv (decide ((0:Int)<(F2 s.last))))] ?_
   exact zai 4 121 129 g17
  refine ip' 1 0 [(2,bv ((decide (s.last=0))||(decide ((0:Int)<(F2 s.last)))))] ?_
  subst hR
  refine ie (A7 ?_)
  exact zer hr hD (P3 rfl (B1 rfl)) () (mk [false,true] rfl) fn0
 refine A5 9 rfl (zrl 6 3 [1] [(112,ag (H0 ({Act.zero with kind:=44,text:=s.title})))] ?_)
 refine zca (A5t 0 0 Col.zero s.title (by first|omega|(simp only [List.length_nil];omega)) _ rfl) fn0 ?_
 refine ip' 2 0 [(94,bv (!decide ((J7 0 0 Col.zero s.title)=0)))] ?_
 refine A1 (nx ?_)
 refine zjn rfl hR ?_ ?_<;>clear hR<;>intro hR h18 h18p
 ·refine sr 1 rfl (ip' 1 0 [(2,bv false)] ?_)
  subst hR
  refine ie (A7 ?_)
  exact zer hr hD (P3 rfl (B1 rfl)) () (mk [false,true] rfl) fn0
 refine A4 (nx (sr 16 rfl (zrl 7 9 [1] [(121,bv (decide (s.last=0)))] ?_)))
 refine zir 8 1 121 129 (decide ((0:Int)<(F2 s.last))) (fun g19 g19p=>?_) ?_
 ·refine zrl 5 3 [1] [(126,iv s.last)] ?_
  refine zca (A0c s.last _ rfl) (A2.pick [5,6] rfl) ?_
  refine ip' 2 0 [(129,bv (decide ((0:Int)<(F2 s.last))))] ?_
  exact zai 4 121 129 g19
 refine ip' 1 0 [(2,bv ((decide (s.last=0))||(decide ((0:Int)<(F2 s.last)))))] ?_
 subst hR
 refine ie (A7 ?_)
 exact zer hr hD (P3 rfl (B1 rfl)) () (mk [false,true] rfl) fn0
def K7 (s:ScrC) (sMain:List (Rwc Cel)) (sAlt:List (Rwc Cel)) (sTabs:List Bool):Int :=
 (bif (!(N7 s sMain sAlt sTabs)) then 300 else 0)
theorem A7p {s:ScrC} {m a:List (Rwc Cel)} {t:List Bool} (h:K7 s m a t=0):m.length≤100∧a.length≤100:=by
 have hv:N7 s m a t=true:=by
  unfold K7 at h
  cases hx:N7 s m a t with
  | true=>rfl
  | false=>rw [hx] at h;cases h
 have hs:F5 s m a t m=true∧F5 s m a t a=true:=by
  unfold N7 N5 Z2 F1 at hv
  revert hv
  cases F5 s m a t m<;>cases F5 s m a t a<;>simp [L5]
 have hg:∀ g:List (Rwc Cel),F5 s m a t g=true→g.length≤100:=fun g hg=>by
  unfold F5 K6 at hg
  simp only [Bool.and_eq_true,decide_eq_true_eq] at hg
  have hg:=hg.1.1
  cases hb:((decide ((g.length:Int)<1))||(decide ((40:Int)<(g.length:Int)))) with
  | true=>rw [hb] at hg;cases hg
  | false=>simp only [Bool.or_eq_false_iff,decide_eq_false_iff_not] at hb;omega
 exact ⟨hg m hs.1,hg a hs.2⟩
theorem A8w (s:ScrC) (sMain:List (Rwc Cel)) (sAlt:List (Rwc Cel)) (sTabs:List Bool) (sMainq:Option Addr) (sMainrs:List Rwq) (sMaink:Nat) (sAltq:Option Addr) (sAltrs:List Rwq) (sAltk:Nat) (sTabsq:Option Addr) (sTabsk:Nat) (hrowssMainrs:D0 sMainrs sMain) (hlsMain:sMain.length≤9223372036854775807) (hcsMain:sMain.length≤sMaink) (hrowssAltrs:D0 sAltrs sAlt) (hlsAlt:sAlt.length≤9223372036854775807) (hcsAlt:sAlt.length≤sAltk) (hlsTabs:sTabs.length≤9223372036854775807) (hcsTabs:sTabs.length≤sTabsk) (hTs:s.title.length≤100000000) (R:Int) (hR:K7 s sMain sAlt sTabs=R):I6 Tryz.prog 30 [ag (A6 s ⟨sMainq,sMain.length,sMaink⟩ ⟨sAltq,sAlt.length,sAltk⟩ ⟨none,0,0⟩ ⟨sTabsq,sTabs.length,sTabsk⟩)] [sl B7 sMainq sMainrs,B8 B2 sMainrs sMain,sl B7 sAltq sAltrs,B8 B2 sAltrs sAlt,sl F4 sTabsq sTabs,A0z,A1a] (iv R):=by
 refine zco Tryz.func30 [(0,ag (A6 s ⟨sMainq,sMain.length,sMaink⟩ ⟨sAltq,sAlt.length,sAltk⟩ ⟨none,0,0⟩ ⟨sTabsq,sTabs.length,sTabsk⟩))] fun X hX hr hD=>?_
 replace hR:=(K7.eq_1 ..).symm.trans hR
 have:=hrowssMainrs.1
 have:=hrowssAltrs.1
 refine sr 2 rfl (I7 2 0 [] (fun b1=>[(1,pt b1 0)]) (fun b1=>[bx b1 (A6 s ⟨sMainq,sMain.length,sMaink⟩ ⟨sAltq,sAlt.length,sAltk⟩ ⟨none,0,0⟩ ⟨sTabsq,sTabs.length,sTabsk⟩) 52]) (fun b1=>?_))
 refine ie (A3 (sr 4 rfl (I7 4 0 [0] (fun b2=>[(3,pt b2 0)]) (fun b2=>[bx b2 (A6 s ⟨sMainq,sMain.length,sMaink⟩ ⟨sAltq,sAlt.length,sAltk⟩ ⟨none,0,0⟩ ⟨sTabsq,sTabs.length,sTabsk⟩) 114,bx b1 (A6 s ⟨sMainq,sMain.length,sMaink⟩ ⟨sAltq,sAlt.length,sAltk⟩ ⟨none,0,0⟩ ⟨sTabsq,sTabs.length,sTabsk⟩) 52]) (fun b2=>?_))))
 refine ie (sr 3 rfl (ip' 1 2 [(7,pt b2 0)] ?_))
 refine it rfl (H2 (L2:=[bx b1 (A6 s ⟨sMainq,sMain.length,sMaink⟩ ⟨sAltq,sAlt.length,sAltk⟩ ⟨none,0,0⟩ ⟨sTabsq,sTabs.length,sTabsk⟩) 52]) (A9d s sMain sAlt sTabs b2 sMainq sMainrs sMaink sAltq sAltrs sAltk sTabsq sTabsk hrowssMainrs (by first|omega|(simp only [List.length_take,List.length_drop,List.length_append,List.length_cons,List.length_nil,List.length_set,List.length_map];omega)|decide) (by first|omega|(simp only [List.length_take,List.length_drop,List.length_append,List.length_cons,List.length_nil,List.length_set,List.length_map];omega)|decide) hrowssAltrs (by first|omega|(simp only [List.length_take,List.length_drop,List.length_append,List.length_cons,List.length_nil,List.length_set,List.length_map];omega)|decide) (by first|omega|(simp only [List.length_take,List.length_drop,List.length_append,List.length_cons,List.length_nil,List.length_set,List.length_map];omega)|decide) (by first|omega|(simp only [List.length_take,List.length_drop,List.length_append,List.length_cons,List.length_nil,List.length_set,List.length_map];omega)|decide) (by first|omega|(simp only [List.length_take,List.length_drop,List.length_append,List.length_cons,List.length_nil,List.length_set,List.length_map];omega)|decide) (by first|omega|(simp only [List.length_nil];omega)|(dsimp only;omega)) _ rfl) rfl rfl rfl rfl rfl A2.refl (H3 [[bx b2 (A6 s ⟨sMainq,sMain.length,sMaink⟩ ⟨sAltq,sAlt.length,sAltk⟩ ⟨none,0,0⟩ ⟨sTabsq,sTabs.length,sTabsk⟩) 114],[bx b1 (A6 s ⟨sMainq,sMain.length,sMaink⟩ ⟨sAltq,sAlt.length,sAltk⟩ ⟨none,0,0⟩ ⟨sTabsq,sTabs.length,sTabsk⟩) 52]] [0,1] 2 rfl (by decide) rfl [[bx b2 (A6 s ⟨sMainq,sMain.length,sMaink⟩ ⟨sAltq,sAlt.length,sAltk⟩ ⟨none,0,0⟩ ⟨sTabsq,sTabs.length,sTabsk⟩) 114],[bx b1 (A6 s ⟨sMainq,sMain.length,sMaink⟩ ⟨sAltq,sAlt.length,sAltk⟩ ⟨none,0,0⟩ ⟨sTabsq,sTabs.length,sTabsk⟩) 52]] rfl (by first|rfl|simp only [List.flatten_cons,List.flatten_nil,List.append_nil,List.cons_append,List.nil_append,List.append_assoc])) (fun _=>[bx b2 (A6 s ⟨sMainq,sMain.length,sMaink⟩ ⟨sAltq,sAlt.length,sAltk⟩ ⟨none,0,0⟩ ⟨sTabsq,sTabs.length,sTabsk⟩) 114,bx b1 (A6 s ⟨sMainq,sMain.length,sMaink⟩ ⟨sAltq,sAlt.length,sAltk⟩ ⟨none,0,0⟩ ⟨sTabsq,sTabs.length,sTabsk⟩) 52]) (fun _=>rfl)) fun _=>?_
 refine ip' 1 0 [(9,bv (!(N7 s sMain sAlt sTabs)))] ?_
 refine ie ?_
 refine zjb rfl hR ?_ ?_<;>clear hR<;>intro hR h3
 ·refine sr 1 rfl (ip' 1 0 [(2,iv 300)] ?_)
  subst hR
  refine ie (A7 ?_)
  exact D5 hr hD
 refine A4 (nx (sr 1 rfl (ip' 1 0 [(2,iv 0)] ?_)))
 subst hR
 refine ie (A7 ?_)
 exact D5 hr hD
def B3:Unit :=
 ()
theorem B5l (R:Unit) (hR:B3=R):I6 Tryz.prog 127 [] [] (.tuple #[.func (.func 128) #[ag (C5 (⟨0,0⟩:Spn))] #[],.func (.func 128) #[ag (C5 (⟨0,1⟩:Spn))] #[],.func (.func 128) #[ag (C5 (⟨1,9999⟩:Spn))] #[],.func (.func 128) #[ag (C5 (⟨0,9999⟩:Spn))] #[]]):=by
 refine zco Tryz.func127 [] fun X hX hr hD=>?_
 replace hR:=(B3.eq_1 ..).symm.trans hR
 refine sr 4 rfl (ip' 4 0 [] ?_)
 refine ie (sr 12 rfl (zrl 12 0 [] [(0,.func (.func 128) #[ag (C5 (⟨0,0⟩:Spn))] #[]),(1,.func (.func 128) #[ag (C5 (⟨0,1⟩:Spn))] #[]),(2,.func (.func 128) #[ag (C5 (⟨1,9999⟩:Spn))] #[]),(3,.func (.func 128) #[ag (C5 (⟨0,9999⟩:Spn))] #[])] ?_))
 subst hR
 refine ie (A7 ?_)
 exact zer hr hD (D7h rfl (B1 rfl) (B1 rfl) (B1 rfl) (B1 rfl)) () (mk [] rfl) fn0
def me0:Value:=ag [.func (.func 128) #[ag (C5 (⟨0,3⟩:Spn))] #[],.func (.func 128) #[ag (C5 (⟨0,1⟩:Spn))] #[]]
def mt0:List (Int×Value):=[(17,me0)]
def me1:Value:=ag [.func (.func 128) #[ag (C5 (⟨2,3⟩:Spn))] #[],.func (.func 128) #[ag (C5 (⟨0,0⟩:Spn))] #[]]
def mt1:List (Int×Value):=[(17,me0),(18,me1)]
def me2:Value:=ag [.func (.func 128) #[ag (C5 (⟨1,9999⟩:Spn))] #[],.func (.func 128) #[ag (C5 (⟨1,9999⟩:Spn))] #[]]
def mt2:List (Int×Value):=[(17,me0),(18,me1),(19,me2)]
def me3:Value:=ag [.func (.func 128) #[ag (C5 (⟨0,3⟩:Spn))] #[],.func (.func 128) #[ag (C5 (⟨1,9999⟩:Spn))] #[]]
def mt3:List (Int×Value):=[(17,me0),(18,me1),(19,me2),(20,me3)]
def me4:Value:=ag [.func (.func 128) #[ag (C5 (⟨0,3⟩:Spn))] #[],.func (.func 128) #[ag (C5 (⟨0,0⟩:Spn))] #[]]
def mt4:List (Int×Value):=[(17,me0),(18,me1),(19,me2),(20,me3),(26,me4)]
def me5:Value:=ag [.func (.func 128) #[ag (C5 (⟨0,2⟩:Spn))] #[],.func (.func 128) #[ag (C5 (⟨0,0⟩:Spn))] #[]]
def mt5:List (Int×Value):=[(17,me0),(18,me1),(19,me2),(20,me3),(26,me4),(27,me5)]
def me6:Value:=ag [.func (.func 129) #[] #[],.func (.func 128) #[ag (C5 (⟨0,0⟩:Spn))] #[]]
def mt6:List (Int×Value):=[(17,me0),(18,me1),(19,me2),(20,me3),(26,me4),(27,me5),(35,me6)]
def me7:Value:=ag [.func (.func 128) #[ag (C5 (⟨0,9999⟩:Spn))] #[],.func (.func 128) #[ag (C5 (⟨0,9999⟩:Spn))] #[]]
def mt7:List (Int×Value):=[(17,me0),(18,me1),(19,me2),(20,me3),(26,me4),(27,me5),(35,me6),(38,me7)]
def me8:Value:=ag [.func (.func 128) #[ag (C5 (⟨0,6⟩:Spn))] #[],.func (.func 128) #[ag (C5 (⟨0,0⟩:Spn))] #[]]
def mt8:List (Int×Value):=[(17,me0),(18,me1),(19,me2),(20,me3),(26,me4),(27,me5),(35,me6),(38,me7),(40,me8)]
def me9:Value:=ag [.func (.func 128) #[ag (C5 (⟨5,6⟩:Spn))] #[],.func (.func 128) #[ag (C5 (⟨0,0⟩:Spn))] #[]]
def mt9:List (Int×Value):=[(17,me0),(18,me1),(19,me2),(20,me3),(26,me4),(27,me5),(35,me6),(38,me7),(40,me8),(41,me9)]
def A1y:Value:=ag [.func (.func 128) #[ag (C5 (⟨0,0⟩:Spn))] #[],.func (.func 128) #[ag (C5 (⟨0,0⟩:Spn))] #[]]
def D2u:List (Int×Value):=[(17,me0),(18,me1),(19,me2),(20,me3),(26,me4),(27,me5),(35,me6),(38,me7),(40,me8),(41,me9),(2,A1y)]
def A2l:Value:=ag [.func (.func 128) #[ag (C5 (⟨0,0⟩:Spn))] #[],.func (.func 128) #[ag (C5 (⟨0,0⟩:Spn))] #[]]
def D2x:List (Int×Value):=[(17,me0),(18,me1),(19,me2),(20,me3),(26,me4),(27,me5),(35,me6),(38,me7),(40,me8),(41,me9),(2,A1y),(3,A2l)]
def A3c:Value:=ag [.func (.func 128) #[ag (C5 (⟨0,0⟩:Spn))] #[],.func (.func 128) #[ag (C5 (⟨0,0⟩:Spn))] #[]]
def D3i:List (Int×Value):=[(17,me0),(18,me1),(19,me2),(20,me3),(26,me4),(27,me5),(35,me6),(38,me7),(40,me8),(41,me9),(2,A1y),(3,A2l),(4,A3c)]
def A3f:Value:=ag [.func (.func 128) #[ag (C5 (⟨0,0⟩:Spn))] #[],.func (.func 128) #[ag (C5 (⟨0,0⟩:Spn))] #[]]
def D2w:List (Int×Value):=[(17,me0),(18,me1),(19,me2),(20,me3),(26,me4),(27,me5),(35,me6),(38,me7),(40,me8),(41,me9),(2,A1y),(3,A2l),(4,A3c),(5,A3f)]
def A3r:Value:=ag [.func (.func 128) #[ag (C5 (⟨0,0⟩:Spn))] #[],.func (.func 128) #[ag (C5 (⟨0,0⟩:Spn))] #[]]
def D2s:List (Int×Value):=[(17,me0),(18,me1),(19,me2),(20,me3),(26,me4),(27,me5),(35,me6),(38,me7),(40,me8),(41,me9),(2,A1y),(3,A2l),(4,A3c),(5,A3f),(6,A3r)]
def A4p:Value:=ag [.func (.func 128) #[ag (C5 (⟨0,0⟩:Spn))] #[],.func (.func 128) #[ag (C5 (⟨0,0⟩:Spn))] #[]]
def D4f:List (Int×Value):=[(17,me0),(18,me1),(19,me2),(20,me3),(26,me4),(27,me5),(35,me6),(38,me7),(40,me8),(41,me9),(2,A1y),(3,A2l),(4,A3c),(5,A3f),(6,A3r),(8,A4p)]
def A4v:Value:=ag [.func (.func 128) #[ag (C5 (⟨0,0⟩:Spn))] #[],.func (.func 128) #[ag (C5 (⟨0,0⟩:Spn))] #[]]
def D2v:List (Int×Value):=[(17,me0),(18,me1),(19,me2),(20,me3),(26,me4),(27,me5),(35,me6),(38,me7),(40,me8),(41,me9),(2,A1y),(3,A2l),(4,A3c),(5,A3f),(6,A3r),(8,A4p),(9,A4v)]
def A5d:Value:=ag [.func (.func 128) #[ag (C5 (⟨0,0⟩:Spn))] #[],.func (.func 128) #[ag (C5 (⟨0,0⟩:Spn))] #[]]
def D4n:List (Int×Value):=[(17,me0),(18,me1),(19,me2),(20,me3),(26,me4),(27,me5),(35,me6),(38,me7),(40,me8),(41,me9),(2,A1y),(3,A2l),(4,A3c),(5,A3f),(6,A3r),(8,A4p),(9,A4v),(10,A5d)]
def A6e:Value:=ag [.func (.func 128) #[ag (C5 (⟨0,0⟩:Spn))] #[],.func (.func 128) #[ag (C5 (⟨0,0⟩:Spn))] #[]]
def D3m:List (Int×Value):=[(17,me0),(18,me1),(19,me2),(20,me3),(26,me4),(27,me5),(35,me6),(38,me7),(40,me8),(41,me9),(2,A1y),(3,A2l),(4,A3c),(5,A3f),(6,A3r),(8,A4p),(9,A4v),(10,A5d),(11,A6e)]
def A6g:Value:=ag [.func (.func 128) #[ag (C5 (⟨0,0⟩:Spn))] #[],.func (.func 128) #[ag (C5 (⟨0,0⟩:Spn))] #[]]
def D3j:List (Int×Value):=[(17,me0),(18,me1),(19,me2),(20,me3),(26,me4),(27,me5),(35,me6),(38,me7),(40,me8),(41,me9),(2,A1y),(3,A2l),(4,A3c),(5,A3f),(6,A3r),(8,A4p),(9,A4v),(10,A5d),(11,A6e),(12,A6g)]
def A7c:Value:=ag [.func (.func 128) #[ag (C5 (⟨0,0⟩:Spn))] #[],.func (.func 128) #[ag (C5 (⟨0,0⟩:Spn))] #[]]
def D3h:List (Int×Value):=[(17,me0),(18,me1),(19,me2),(20,me3),(26,me4),(27,me5),(35,me6),(38,me7),(40,me8),(41,me9),(2,A1y),(3,A2l),(4,A3c),(5,A3f),(6,A3r),(8,A4p),(9,A4v),(10,A5d),(11,A6e),(12,A6g),(13,A7c)]
def A7u:Value:=ag [.func (.func 128) #[ag (C5 (⟨0,0⟩:Spn))] #[],.func (.func 128) #[ag (C5 (⟨0,0⟩:Spn))] #[]]
def D3z:List (Int×Value):=[(17,me0),(18,me1),(19,me2),(20,me3),(26,me4),(27,me5),(35,me6),(38,me7),(40,me8),(41,me9),(2,A1y),(3,A2l),(4,A3c),(5,A3f),(6,A3r),(8,A4p),(9,A4v),(10,A5d),(11,A6e),(12,A6g),(13,A7c),(15,A7u)]
def A8d:Value:=ag [.func (.func 128) #[ag (C5 (⟨0,0⟩:Spn))] #[],.func (.func 128) #[ag (C5 (⟨0,0⟩:Spn))] #[]]
def D3c:List (Int×Value):=[(17,me0),(18,me1),(19,me2),(20,me3),(26,me4),(27,me5),(35,me6),(38,me7),(40,me8),(41,me9),(2,A1y),(3,A2l),(4,A3c),(5,A3f),(6,A3r),(8,A4p),(9,A4v),(10,A5d),(11,A6e),(12,A6g),(13,A7c),(15,A7u),(16,A8d)]
def A9b:Value:=ag [.func (.func 128) #[ag (C5 (⟨0,1⟩:Spn))] #[],.func (.func 128) #[ag (C5 (⟨0,0⟩:Spn))] #[]]
def D3q:List (Int×Value):=[(17,me0),(18,me1),(19,me2),(20,me3),(26,me4),(27,me5),(35,me6),(38,me7),(40,me8),(41,me9),(2,A1y),(3,A2l),(4,A3c),(5,A3f),(6,A3r),(8,A4p),(9,A4v),(10,A5d),(11,A6e),(12,A6g),(13,A7c),(15,A7u),(16,A8d),(7,A9b)]
def A9k:Value:=ag [.func (.func 128) #[ag (C5 (⟨0,1⟩:Spn))] #[],.func (.func 128) #[ag (C5 (⟨0,0⟩:Spn))] #[]]
def D4h:List (Int×Value):=[(17,me0),(18,me1),(19,me2),(20,me3),(26,me4),(27,me5),(35,me6),(38,me7),(40,me8),(41,me9),(2,A1y),(3,A2l),(4,A3c),(5,A3f),(6,A3r),(8,A4p),(9,A4v),(10,A5d),(11,A6e),(12,A6g),(13,A7c),(15,A7u),(16,A8d),(7,A9b),(14,A9k)]
def B0q:Value:=ag [.func (.func 128) #[ag (C5 (⟨0,1⟩:Spn))] #[],.func (.func 128) #[ag (C5 (⟨0,0⟩:Spn))] #[]]
def D4g:List (Int×Value):=[(17,me0),(18,me1),(19,me2),(20,me3),(26,me4),(27,me5),(35,me6),(38,me7),(40,me8),(41,me9),(2,A1y),(3,A2l),(4,A3c),(5,A3f),(6,A3r),(8,A4p),(9,A4v),(10,A5d),(11,A6e),(12,A6g),(13,A7c),(15,A7u),(16,A8d),(7,A9b),(14,A9k),(42,B0q)]
def B1u:Value:=ag [.func (.func 128) #[ag (C5 (⟨0,1⟩:Spn))] #[],.func (.func 128) #[ag (C5 (⟨1,9999⟩:Spn))] #[]]
def D2z:List (Int×Value):=[(17,me0),(18,me1),(19,me2),(20,me3),(26,me4),(27,me5),(35,me6),(38,me7),(40,me8),(41,me9),(2,A1y),(3,A2l),(4,A3c),(5,A3f),(6,A3r),(8,A4p),(9,A4v),(10,A5d),(11,A6e),(12,A6g),(13,A7c),(15,A7u),(16,A8d),(7,A9b),(14,A9k),(42,B0q),(21,B1u)]
def B3b:Value:=ag [.func (.func 128) #[ag (C5 (⟨0,1⟩:Spn))] #[],.func (.func 128) #[ag (C5 (⟨1,9999⟩:Spn))] #[]]
def D4o:List (Int×Value):=[(17,me0),(18,me1),(19,me2),(20,me3),(26,me4),(27,me5),(35,me6),(38,me7),(40,me8),(41,me9),(2,A1y),(3,A2l),(4,A3c),(5,A3f),(6,A3r),(8,A4p),(9,A4v),(10,A5d),(11,A6e),(12,A6g),(13,A7c),(15,A7u),(16,A8d),(7,A9b),(14,A9k),(42,B0q),(21,B1u),(33,B3b)]
def B3q:Value:=ag [.func (.func 128) #[ag (C5 (⟨1,9999⟩:Spn))] #[],.func (.func 128) #[ag (C5 (⟨0,0⟩:Spn))] #[]]
def D3r:List (Int×Value):=[(17,me0),(18,me1),(19,me2),(20,me3),(26,me4),(27,me5),(35,me6),(38,me7),(40,me8),(41,me9),(2,A1y),(3,A2l),(4,A3c),(5,A3f),(6,A3r),(8,A4p),(9,A4v),(10,A5d),(11,A6e),(12,A6g),(13,A7c),(15,A7u),(16,A8d),(7,A9b),(14,A9k),(42,B0q),(21,B1u),(33,B3b),(22,B3q)]
def B5b:Value:=ag [.func (.func 128) #[ag (C5 (⟨1,9999⟩:Spn))] #[],.func (.func 128) #[ag (C5 (⟨0,0⟩:Spn))] #[]]
def D4l:List (Int×Value):=[(17,me0),(18,me1),(19,me2),(20,me3),(26,me4),(27,me5),(35,me6),(38,me7),(40,me8),(41,me9),(2,A1y),(3,A2l),(4,A3c),(5,A3f),(6,A3r),(8,A4p),(9,A4v),(10,A5d),(11,A6e),(12,A6g),(13,A7c),(15,A7u),(16,A8d),(7,A9b),(14,A9k),(42,B0q),(21,B1u),(33,B3b),(22,B3q),(23,B5b)]
def B7n:Value:=ag [.func (.func 128) #[ag (C5 (⟨1,9999⟩:Spn))] #[],.func (.func 128) #[ag (C5 (⟨0,0⟩:Spn))] #[]]
def D4c:List (Int×Value):=[(17,me0),(18,me1),(19,me2),(20,me3),(26,me4),(27,me5),(35,me6),(38,me7),(40,me8),(41,me9),(2,A1y),(3,A2l),(4,A3c),(5,A3f),(6,A3r),(8,A4p),(9,A4v),(10,A5d),(11,A6e),(12,A6g),(13,A7c),(15,A7u),(16,A8d),(7,A9b),(14,A9k),(42,B0q),(21,B1u),(33,B3b),(22,B3q),(23,B5b),(24,B7n)]
def B8z:Value:=ag [.func (.func 128) #[ag (C5 (⟨1,9999⟩:Spn))] #[],.func (.func 128) #[ag (C5 (⟨0,0⟩:Spn))] #[]]
def D3a:List (Int×Value):=[(17,me0),(18,me1),(19,me2),(20,me3),(26,me4),(27,me5),(35,me6),(38,me7),(40,me8),(41,me9),(2,A1y),(3,A2l),(4,A3c),(5,A3f),(6,A3r),(8,A4p),(9,A4v),(10,A5d),(11,A6e),(12,A6g),(13,A7c),(15,A7u),(16,A8d),(7,A9b),(14,A9k),(42,B0q),(21,B1u),(33,B3b),(22,B3q),(23,B5b),(24,B7n),(25,B8z)]
def C1x:Value:=ag [.func (.func 128) #[ag (C5 (⟨1,9999⟩:Spn))] #[],.func (.func 128) #[ag (C5 (⟨0,0⟩:Spn))] #[]]
def D2i:List (Int×Value):=[(17,me0),(18,me1),(19,me2),(20,me3),(26,me4),(27,me5),(35,me6),(38,me7),(40,me8),(41,me9),(2,A1y),(3,A2l),(4,A3c),(5,A3f),(6,A3r),(8,A4p),(9,A4v),(10,A5d),(11,A6e),(12,A6g),(13,A7c),(15,A7u),(16,A8d),(7,A9b),(14,A9k),(42,B0q),(21,B1u),(33,B3b),(22,B3q),(23,B5b),(24,B7n),(25,B8z),(28,C1x)]
def C3v:Value:=ag [.func (.func 128) #[ag (C5 (⟨1,9999⟩:Spn))] #[],.func (.func 128) #[ag (C5 (⟨0,0⟩:Spn))] #[]]
def D3e:List (Int×Value):=[(17,me0),(18,me1),(19,me2),(20,me3),(26,me4),(27,me5),(35,me6),(38,me7),(40,me8),(41,me9),(2,A1y),(3,A2l),(4,A3c),(5,A3f),(6,A3r),(8,A4p),(9,A4v),(10,A5d),(11,A6e),(12,A6g),(13,A7c),(15,A7u),(16,A8d),(7,A9b),(14,A9k),(42,B0q),(21,B1u),(33,B3b),(22,B3q),(23,B5b),(24,B7n),(25,B8z),(28,C1x),(29,C3v)]
def C5e:Value:=ag [.func (.func 128) #[ag (C5 (⟨1,9999⟩:Spn))] #[],.func (.func 128) #[ag (C5 (⟨0,0⟩:Spn))] #[]]
def D2y:List (Int×Value):=[(17,me0),(18,me1),(19,me2),(20,me3),(26,me4),(27,me5),(35,me6),(38,me7),(40,me8),(41,me9),(2,A1y),(3,A2l),(4,A3c),(5,A3f),(6,A3r),(8,A4p),(9,A4v),(10,A5d),(11,A6e),(12,A6g),(13,A7c),(15,A7u),(16,A8d),(7,A9b),(14,A9k),(42,B0q),(21,B1u),(33,B3b),(22,B3q),(23,B5b),(24,B7n),(25,B8z),(28,C1x),(29,C3v),(30,C5e)]
def C7h:Value:=ag [.func (.func 128) #[ag (C5 (⟨1,9999⟩:Spn))] #[],.func (.func 128) #[ag (C5 (⟨0,0⟩:Spn))] #[]]
def D2l:List (Int×Value):=[(17,me0),(18,me1),(19,me2),(20,me3),(26,me4),(27,me5),(35,me6),(38,me7),(40,me8),(41,me9),(2,A1y),(3,A2l),(4,A3c),(5,A3f),(6,A3r),(8,A4p),(9,A4v),(10,A5d),(11,A6e),(12,A6g),(13,A7c),(15,A7u),(16,A8d),(7,A9b),(14,A9k),(42,B0q),(21,B1u),(33,B3b),(22,B3q),(23,B5b),(24,B7n),(25,B8z),(28,C1x),(29,C3v),(30,C5e),(31,C7h)]
def C8k:Value:=ag [.func (.func 128) #[ag (C5 (⟨1,9999⟩:Spn))] #[],.func (.func 128) #[ag (C5 (⟨0,0⟩:Spn))] #[]]
def D3g:List (Int×Value):=[(17,me0),(18,me1),(19,me2),(20,me3),(26,me4),(27,me5),(35,me6),(38,me7),(40,me8),(41,me9),(2,A1y),(3,A2l),(4,A3c),(5,A3f),(6,A3r),(8,A4p),(9,A4v),(10,A5d),(11,A6e),(12,A6g),(13,A7c),(15,A7u),(16,A8d),(7,A9b),(14,A9k),(42,B0q),(21,B1u),(33,B3b),(22,B3q),(23,B5b),(24,B7n),(25,B8z),(28,C1x),(29,C3v),(30,C5e),(31,C7h),(32,C8k)]
def D0f:Value:=ag [.func (.func 128) #[ag (C5 (⟨1,9999⟩:Spn))] #[],.func (.func 128) #[ag (C5 (⟨0,0⟩:Spn))] #[]]
def D3f:List (Int×Value):=[(17,me0),(18,me1),(19,me2),(20,me3),(26,me4),(27,me5),(35,me6),(38,me7),(40,me8),(41,me9),(2,A1y),(3,A2l),(4,A3c),(5,A3f),(6,A3r),(8,A4p),(9,A4v),(10,A5d),(11,A6e),(12,A6g),(13,A7c),(15,A7u),(16,A8d),(7,A9b),(14,A9k),(42,B0q),(21,B1u),(33,B3b),(22,B3q),(23,B5b),(24,B7n),(25,B8z),(28,C1x),(29,C3v),(30,C5e),(31,C7h),(32,C8k),(34,D0f)]
def D2o:Value:=ag [.func (.func 128) #[ag (C5 (⟨0,9999⟩:Spn))] #[],.func (.func 128) #[ag (C5 (⟨0,1⟩:Spn))] #[]]
def D4j:List (Int×Value):=[(17,me0),(18,me1),(19,me2),(20,me3),(26,me4),(27,me5),(35,me6),(38,me7),(40,me8),(41,me9),(2,A1y),(3,A2l),(4,A3c),(5,A3f),(6,A3r),(8,A4p),(9,A4v),(10,A5d),(11,A6e),(12,A6g),(13,A7c),(15,A7u),(16,A8d),(7,A9b),(14,A9k),(42,B0q),(21,B1u),(33,B3b),(22,B3q),(23,B5b),(24,B7n),(25,B8z),(28,C1x),(29,C3v),(30,C5e),(31,C7h),(32,C8k),(34,D0f),(36,D2o)]
def D6a:Value:=ag [.func (.func 128) #[ag (C5 (⟨0,9999⟩:Spn))] #[],.func (.func 128) #[ag (C5 (⟨0,1⟩:Spn))] #[]]
def D3t:List (Int×Value):=[(17,me0),(18,me1),(19,me2),(20,me3),(26,me4),(27,me5),(35,me6),(38,me7),(40,me8),(41,me9),(2,A1y),(3,A2l),(4,A3c),(5,A3f),(6,A3r),(8,A4p),(9,A4v),(10,A5d),(11,A6e),(12,A6g),(13,A7c),(15,A7u),(16,A8d),(7,A9b),(14,A9k),(42,B0q),(21,B1u),(33,B3b),(22,B3q),(23,B5b),(24,B7n),(25,B8z),(28,C1x),(29,C3v),(30,C5e),(31,C7h),(32,C8k),(34,D0f),(36,D2o),(37,D6a)]
def D6y:Value:=ag [.func (.func 128) #[ag (C5 (⟨0,9999⟩:Spn))] #[],.func (.func 128) #[ag (C5 (⟨0,1⟩:Spn))] #[]]
def C9p:List (Int×Value):=[(17,me0),(18,me1),(19,me2),(20,me3),(26,me4),(27,me5),(35,me6),(38,me7),(40,me8),(41,me9),(2,A1y),(3,A2l),(4,A3c),(5,A3f),(6,A3r),(8,A4p),(9,A4v),(10,A5d),(11,A6e),(12,A6g),(13,A7c),(15,A7u),(16,A8d),(7,A9b),(14,A9k),(42,B0q),(21,B1u),(33,B3b),(22,B3q),(23,B5b),(24,B7n),(25,B8z),(28,C1x),(29,C3v),(30,C5e),(31,C7h),(32,C8k),(34,D0f),(36,D2o),(37,D6a),(43,D6y)]
def A8:Unit :=
 ()
set_option maxHeartbeats 2000000 in
theorem A7o (R:Unit) (hR:A8=R):Con Tryz.prog 73 [] [] [] (Nat) (fun x=>.map (some x)) (fun x=>[(x,.map (C2 C9p 0).toArray 41)]) (fun x=>[]):=by
 refine zco Tryz.func73 [] fun X hX hr hD=>?_
 replace hR:=(A8.eq_1 ..).symm.trans hR
 refine sr 1 rfl (ip' 1 0 [] ?_)
 refine ie (sr 10 rfl (zca (B5l _ rfl) fn0 ?_))
 refine ip' 9 0 [(1,.func (.func 128) #[ag (C5 (⟨0,0⟩:Spn))] #[]),(2,.func (.func 128) #[ag (C5 (⟨0,1⟩:Spn))] #[]),(3,.func (.func 128) #[ag (C5 (⟨1,9999⟩:Spn))] #[]),(4,.func (.func 128) #[ag (C5 (⟨0,9999⟩:Spn))] #[])] ?_
 refine ie (sr 49 rfl (it rfl (A9v rfl) fun b1=>?_))
 refine zrl 4 44 [] [(26,ag [.func (.func 128) #[ag (C5 (⟨0,3⟩:Spn))] #[],.func (.func 128) #[ag (C5 (⟨0,1⟩:Spn))] #[]])] ?_
 refine it rfl (E5 (es:=#[]) (es':=(C2 mt0 0).toArray) J9 (.inl rfl) rfl rfl rfl 0 rfl (by kernel_rfl) (by kernel_rfl)) fun _=>?_
 refine znl [(b1,.map (C2 mt0 0).toArray 1)] ?_
 refine zrl 4 39 [] [(30,ag [.func (.func 128) #[ag (C5 (⟨2,3⟩:Spn))] #[],.func (.func 128) #[ag (C5 (⟨0,0⟩:Spn))] #[]])] ?_
 refine it rfl (E5 (es:=(C2 mt0 0).toArray) (es':=(C2 mt1 0).toArray) J9 (.inl rfl) rfl rfl rfl 0 rfl (by kernel_rfl) (by kernel_rfl)) fun _=>?_
 refine znl [(b1,.map (C2 mt1 0).toArray 2)] ?_
 refine zrl 3 35 [] [(33,ag [.func (.func 128) #[ag (C5 (⟨1,9999⟩:Spn))] #[],.func (.func 128) #[ag (C5 (⟨1,9999⟩:Spn))] #[]])] ?_
 refine it rfl (E5 (es:=(C2 mt1 0).toArray) (es':=(C2 mt2 0).toArray) J9 (.inl rfl) rfl rfl rfl 0 rfl (by kernel_rfl) (by kernel_rfl)) fun _=>?_
 refine znl [(b1,.map (C2 mt2 0).toArray 3)] ?_
 refine zrl 4 30 [] [(37,ag [.func (.func 128) #[ag (C5 (⟨0,3⟩:Spn))] #[],.func (.func 128) #[ag (C5 (⟨1,9999⟩:Spn))] #[]])] ?_
 refine it rfl (E5 (es:=(C2 mt2 0).toArray) (es':=(C2 mt3 0).toArray) J9 (.inl rfl) rfl rfl rfl 0 rfl (by kernel_rfl) (by kernel_rfl)) fun _=>?_
 refine znl [(b1,.map (C2 mt3 0).toArray 4)] ?_
 refine zrl 4 25 [] [(41,ag [.func (.func 128) #[ag (C5 (⟨0,3⟩:Spn))] #[],.func (.func 128) #[ag (C5 (⟨0,0⟩:Spn))] #[]])] ?_
 refine it rfl (E5 (es:=(C2 mt3 0).toArray) (es':=(C2 mt4 0).toArray) J9 (.inl rfl) rfl rfl rfl 0 rfl (by kernel_rfl) (by kernel_rfl)) fun _=>?_
 refine znl [(b1,.map (C2 mt4 0).toArray 5)] ?_
 refine zrl 4 20 [] [(45,ag [.func (.func 128) #[ag (C5 (⟨0,2⟩:Spn))] #[],.func (.func 128) #[ag (C5 (⟨0,0⟩:Spn))] #[]])] ?_
 refine it rfl (E5 (es:=(C2 mt4 0).toArray) (es':=(C2 mt5 0).toArray) J9 (.inl rfl) rfl rfl rfl 0 rfl (by kernel_rfl) (by kernel_rfl)) fun _=>?_
 refine znl [(b1,.map (C2 mt5 0).toArray 6)] ?_
 refine zrl 2 17 [] [(47,ag [.func (.func 129) #[] #[],.func (.func 128) #[ag (C5 (⟨0,0⟩:Spn))] #[]])] ?_
 refine it rfl (E5 (es:=(C2 mt5 0).toArray) (es':=(C2 mt6 0).toArray) J9 (.inl rfl) rfl rfl rfl 0 rfl (by kernel_rfl) (by kernel_rfl)) fun _=>?_
 refine znl [(b1,.map (C2 mt6 0).toArray 7)] ?_
 refine zrl 3 13 [] [(50,ag [.func (.func 128) #[ag (C5 (⟨0,9999⟩:Spn))] #[],.func (.func 128) #[ag (C5 (⟨0,9999⟩:Spn))] #[]])] ?_
 refine it rfl (E5 (es:=(C2 mt6 0).toArray) (es':=(C2 mt7 0).toArray) J9 (.inl rfl) rfl rfl rfl 0 rfl (by kernel_rfl) (by kernel_rfl)) fun _=>?_
 refine znl [(b1,.map (C2 mt7 0).toArray 8)] ?_
 refine zrl 4 8 [] [(54,ag [.func (.func 128) #[ag (C5 (⟨0,6⟩:Spn))] #[],.func (.func 128) #[ag (C5 (⟨0,0⟩:Spn))] #[]])] ?_
 refine it rfl (E5 (es:=(C2 mt7 0).toArray) (es':=(C2 mt8 0).toArray) J9 (.inl rfl) rfl rfl rfl 0 rfl (by kernel_rfl) (by kernel_rfl)) fun _=>?_
 refine znl [(b1,.map (C2 mt8 0).toArray 9)] ?_
 refine zrl 4 3 [] [(58,ag [.func (.func 128) #[ag (C5 (⟨5,6⟩:Spn))] #[],.func (.func 128) #[ag (C5 (⟨0,0⟩:Spn))] #[]])] ?_
 refine it rfl (E5 (es:=(C2 mt8 0).toArray) (es':=(C2 mt9 0).toArray) J9 (.inl rfl) rfl rfl rfl 0 rfl (by kernel_rfl) (by kernel_rfl)) fun _=>?_
 refine znl [(b1,.map (C2 mt9 0).toArray 10)] ?_
 refine ip' 2 0 [(5,.map (some b1))] ?_
 refine ie (A3 (sr 2 rfl (zrl 2 0 [] [(60,ag [iv 2,iv 3,iv 4,iv 5,iv 6,iv 8,iv 9,iv 10,iv 11,iv 12,iv 13,iv 15,iv 16]),(61,iv 0)] ?_)))
 refine ie (B0 (R6 15 ?_))
 refine D7 (sr 1 rfl (ip' 1 0 [(62,bv true)] ?_))
 refine ie (A3 (H8 rfl (A4 (nx (A3 (B0 (sr 2 rfl (ix rfl (F0 (v:=iv 2) (us:=[iv 2]) Tryz.underlying186 ty3 rfl rfl rfl 0 rfl (by decide) rfl rfl rfl) ?_))))))))
 refine ip' 1 0 [(7,iv 2)] ?_
 refine ie (A5 6 rfl (zrl 5 1 [] [(64,.map (some b1)),(65,iv 2),(68,ag [.func (.func 128) #[ag (C5 (⟨0,0⟩:Spn))] #[],.func (.func 128) #[ag (C5 (⟨0,0⟩:Spn))] #[]])] ?_))
 refine it rfl (E5 (es:=(C2 mt9 0).toArray) (es':=(C2 D2u 0).toArray) J9 (.inr rfl) rfl rfl rfl 0 rfl (by kernel_rfl) (by kernel_rfl)) fun _=>?_
 refine znl [(b1,.map (C2 D2u 0).toArray 11)] ?_
 refine A1 (nx (A5 2 rfl (ix rfl (B4 (c:=1) rfl rfl rfl rfl (by decide)) ?_)))
 refine ip' 1 0 [(61,iv 1)] ?_
 refine A1 (D7 (sr 1 rfl (ip' 1 0 [(62,bv true)] ?_)))
 refine ie (A3 (H8 rfl (A4 (nx (A3 (B0 (sr 2 rfl (ix rfl (F0 (v:=iv 3) (us:=[iv 3]) Tryz.underlying186 ty3 rfl rfl rfl 1 rfl (by decide) rfl rfl rfl) ?_))))))))
 refine ip' 1 0 [(7,iv 3)] ?_
 refine ie (A5 6 rfl (zrl 5 1 [] [(64,.map (some b1)),(65,iv 3),(68,ag [.func (.func 128) #[ag (C5 (⟨0,0⟩:Spn))] #[],.func (.func 128) #[ag (C5 (⟨0,0⟩:Spn))] #[]])] ?_))
 refine it rfl (E5 (es:=(C2 D2u 0).toArray) (es':=(C2 D2x 0).toArray) J9 (.inr rfl) rfl rfl rfl 0 rfl (by kernel_rfl) (by kernel_rfl)) fun _=>?_
 refine znl [(b1,.map (C2 D2x 0).toArray 12)] ?_
 refine A1 (nx (A5 2 rfl (ix rfl (B4 (c:=2) rfl rfl rfl rfl (by decide)) ?_)))
 refine ip' 1 0 [(61,iv 2)] ?_
 refine A1 (D7 (sr 1 rfl (ip' 1 0 [(62,bv true)] ?_)))
 refine ie (A3 (H8 rfl (A4 (nx (A3 (B0 (sr 2 rfl (ix rfl (F0 (v:=iv 4) (us:=[iv 4]) Tryz.underlying186 ty3 rfl rfl rfl 2 rfl (by decide) rfl rfl rfl) ?_))))))))
 refine ip' 1 0 [(7,iv 4)] ?_
 refine ie (A5 6 rfl (zrl 5 1 [] [(64,.map (some b1)),(65,iv 4),(68,ag [.func (.func 128) #[ag (C5 (⟨0,0⟩:Spn))] #[],.func (.func 128) #[ag (C5 (⟨0,0⟩:Spn))] #[]])] ?_))
 refine it rfl (E5 (es:=(C2 D2x 0).toArray) (es':=(C2 D3i 0).toArray) J9 (.inr rfl) rfl rfl rfl 0 rfl (by kernel_rfl) (by kernel_rfl)) fun _=>?_
 refine znl [(b1,.map (C2 D3i 0).toArray 13)] ?_
 refine A1 (nx (A5 2 rfl (ix rfl (B4 (c:=3) rfl rfl rfl rfl (by decide)) ?_)))
 refine ip' 1 0 [(61,iv 3)] ?_
 refine A1 (D7 (sr 1 rfl (ip' 1 0 [(62,bv true)] ?_)))
 refine ie (A3 (H8 rfl (A4 (nx (A3 (B0 (sr 2 rfl (ix rfl (F0 (v:=iv 5) (us:=[iv 5]) Tryz.underlying186 ty3 rfl rfl rfl 3 rfl (by decide) rfl rfl rfl) ?_))))))))
 refine ip' 1 0 [(7,iv 5)] ?_
 refine ie (A5 6 rfl (zrl 5 1 [] [(64,.map (some b1)),(65,iv 5),(68,ag [.func (.func 128) #[ag (C5 (⟨0,0⟩:Spn))] #[],.func (.func 128) #[ag (C5 (⟨0,0⟩:Spn))] #[]])] ?_))
 refine it rfl (E5 (es:=(C2 D3i 0).toArray) (es':=(C2 D2w 0).toArray) J9 (.inr rfl) rfl rfl rfl 0 rfl (by kernel_rfl) (by kernel_rfl)) fun _=>?_
 refine znl [(b1,.map (C2 D2w 0).toArray 14)] ?_
 refine A1 (nx (A5 2 rfl (ix rfl (B4 (c:=4) rfl rfl rfl rfl (by decide)) ?_)))
 refine ip' 1 0 [(61,iv 4)] ?_
 refine A1 (D7 (sr 1 rfl (ip' 1 0 [(62,bv true)] ?_)))
 refine ie (A3 (H8 rfl (A4 (nx (A3 (B0 (sr 2 rfl (ix rfl (F0 (v:=iv 6) (us:=[iv 6]) Tryz.underlying186 ty3 rfl rfl rfl 4 rfl (by decide) rfl rfl rfl) ?_))))))))
 refine ip' 1 0 [(7,iv 6)] ?_
 refine ie (A5 6 rfl (zrl 5 1 [] [(64,.map (some b1)),(65,iv 6),(68,ag [.func (.func 128) #[ag (C5 (⟨0,0⟩:Spn))] #[],.func (.func 128) #[ag (C5 (⟨0,0⟩:Spn))] #[]])] ?_))
 refine it rfl (E5 (es:=(C2 D2w 0).toArray) (es':=(C2 D2s 0).toArray) J9 (.inr rfl) rfl rfl rfl 0 rfl (by kernel_rfl) (by kernel_rfl)) fun _=>?_
 refine znl [(b1,.map (C2 D2s 0).toArray 15)] ?_
 refine A1 (nx (A5 2 rfl (ix rfl (B4 (c:=5) rfl rfl rfl rfl (by decide)) ?_)))
 refine ip' 1 0 [(61,iv 5)] ?_
 refine A1 (D7 (sr 1 rfl (ip' 1 0 [(62,bv true)] ?_)))
 refine ie (A3 (H8 rfl (A4 (nx (A3 (B0 (sr 2 rfl (ix rfl (F0 (v:=iv 8) (us:=[iv 8]) Tryz.underlying186 ty3 rfl rfl rfl 5 rfl (by decide) rfl rfl rfl) ?_))))))))
 refine ip' 1 0 [(7,iv 8)] ?_
 refine ie (A5 6 rfl (zrl 5 1 [] [(64,.map (some b1)),(65,iv 8),(68,ag [.func (.func 128) #[ag (C5 (⟨0,0⟩:Spn))] #[],.func (.func 128) #[ag (C5 (⟨0,0⟩:Spn))] #[]])] ?_))
 refine it rfl (E5 (es:=(C2 D2s 0).toArray) (es':=(C2 D4f 0).toArray) J9 (.inr rfl) rfl rfl rfl 0 rfl (by kernel_rfl) (by kernel_rfl)) fun _=>?_
 refine znl [(b1,.map (C2 D4f 0).toArray 16)] ?_
 refine A1 (nx (A5 2 rfl (ix rfl (B4 (c:=6) rfl rfl rfl rfl (by decide)) ?_)))
 refine ip' 1 0 [(61,iv 6)] ?_
 refine A1 (D7 (sr 1 rfl (ip' 1 0 [(62,bv true)] ?_)))
 refine ie (A3 (H8 rfl (A4 (nx (A3 (B0 (sr 2 rfl (ix rfl (F0 (v:=iv 9) (us:=[iv 9]) Tryz.underlying186 ty3 rfl rfl rfl 6 rfl (by decide) rfl rfl rfl) ?_))))))))
 refine ip' 1 0 [(7,iv 9)] ?_
 refine ie (A5 6 rfl (zrl 5 1 [] [(64,.map (some b1)),(65,iv 9),(68,ag [.func (.func 128) #[ag (C5 (⟨0,0⟩:Spn))] #[],.func (.func 128) #[ag (C5 (⟨0,0⟩:Spn))] #[]])] ?_))
 refine it rfl (E5 (es:=(C2 D4f 0).toArray) (es':=(C2 D2v 0).toArray) J9 (.inr rfl) rfl rfl rfl 0 rfl (by kernel_rfl) (by kernel_rfl)) fun _=>?_
 refine znl [(b1,.map (C2 D2v 0).toArray 17)] ?_
 refine A1 (nx (A5 2 rfl (ix rfl (B4 (c:=7) rfl rfl rfl rfl (by decide)) ?_)))
 refine ip' 1 0 [(61,iv 7)] ?_
 refine A1 (D7 (sr 1 rfl (ip' 1 0 [(62,bv true)] ?_)))
 refine ie (A3 (H8 rfl (A4 (nx (A3 (B0 (sr 2 rfl (ix rfl (F0 (v:=iv 10) (us:=[iv 10]) Tryz.underlying186 ty3 rfl rfl rfl 7 rfl (by decide) rfl rfl rfl) ?_))))))))
 refine ip' 1 0 [(7,iv 10)] ?_
 refine ie (A5 6 rfl (zrl 5 1 [] [(64,.map (some b1)),(65,iv 10),(68,ag [.func (.func 128) #[ag (C5 (⟨0,0⟩:Spn))] #[],.func (.func 128) #[ag (C5 (⟨0,0⟩:Spn))] #[]])] ?_))
 refine it rfl (E5 (es:=(C2 D2v 0).toArray) (es':=(C2 D4n 0).toArray) J9 (.inr rfl) rfl rfl rfl 0 rfl (by kernel_rfl) (by kernel_rfl)) fun _=>?_
 refine znl [(b1,.map (C2 D4n 0).toArray 18)] ?_
 refine A1 (nx (A5 2 rfl (ix rfl (B4 (c:=8) rfl rfl rfl rfl (by decide)) ?_)))
 refine ip' 1 0 [(61,iv 8)] ?_
 refine A1 (D7 (sr 1 rfl (ip' 1 0 [(62,bv true)] ?_)))
 refine ie (A3 (H8 rfl (A4 (nx (A3 (B0 (sr 2 rfl (ix rfl (F0 (v:=iv 11) (us:=[iv 11]) Tryz.underlying186 ty3 rfl rfl rfl 8 rfl (by decide) rfl rfl rfl) ?_))))))))
 refine ip' 1 0 [(7,iv 11)] ?_
 refine ie (A5 6 rfl (zrl 5 1 [] [(64,.map (some b1)),(65,iv 11),(68,ag [.func (.func 128) #[ag (C5 (⟨0,0⟩:Spn))] #[],.func (.func 128) #[ag (C5 (⟨0,0⟩:Spn))] #[]])] ?_))
 refine it rfl (E5 (es:=(C2 D4n 0).toArray) (es':=(C2 D3m 0).toArray) J9 (.inr rfl) rfl rfl rfl 0 rfl (by kernel_rfl) (by kernel_rfl)) fun _=>?_
 refine znl [(b1,.map (C2 D3m 0).toArray 19)] ?_
 refine A1 (nx (A5 2 rfl (ix rfl (B4 (c:=9) rfl rfl rfl rfl (by decide)) ?_)))
 refine ip' 1 0 [(61,iv 9)] ?_
 refine A1 (D7 (sr 1 rfl (ip' 1 0 [(62,bv true)] ?_)))
 refine ie (A3 (H8 rfl (A4 (nx (A3 (B0 (sr 2 rfl (ix rfl (F0 (v:=iv 12) (us:=[iv 12]) Tryz.underlying186 ty3 rfl rfl rfl 9 rfl (by decide) rfl rfl rfl) ?_))))))))
 refine ip' 1 0 [(7,iv 12)] ?_
 refine ie (A5 6 rfl (zrl 5 1 [] [(64,.map (some b1)),(65,iv 12),(68,ag [.func (.func 128) #[ag (C5 (⟨0,0⟩:Spn))] #[],.func (.func 128) #[ag (C5 (⟨0,0⟩:Spn))] #[]])] ?_))
 refine it rfl (E5 (es:=(C2 D3m 0).toArray) (es':=(C2 D3j 0).toArray) J9 (.inr rfl) rfl rfl rfl 0 rfl (by kernel_rfl) (by kernel_rfl)) fun _=>?_
 refine znl [(b1,.map (C2 D3j 0).toArray 20)] ?_
 refine A1 (nx (A5 2 rfl (ix rfl (B4 (c:=10) rfl rfl rfl rfl (by decide)) ?_)))
 refine ip' 1 0 [(61,iv 10)] ?_
 refine A1 (D7 (sr 1 rfl (ip' 1 0 [(62,bv true)] ?_)))
 refine ie (A3 (H8 rfl (A4 (nx (A3 (B0 (sr 2 rfl (ix rfl (F0 (v:=iv 13) (us:=[iv 13]) Tryz.underlying186 ty3 rfl rfl rfl 10 rfl (by decide) rfl rfl rfl) ?_))))))))
 refine ip' 1 0 [(7,iv 13)] ?_
 refine ie (A5 6 rfl (zrl 5 1 [] [(64,.map (some b1)),(65,iv 13),(68,ag [.func (.func 128) #[ag (C5 (⟨0,0⟩:Spn))] #[],.func (.func 128) #[ag (C5 (⟨0,0⟩:Spn))] #[]])] ?_))
 refine it rfl (E5 (es:=(C2 D3j 0).toArray) (es':=(C2 D3h 0).toArray) J9 (.inr rfl) rfl rfl rfl 0 rfl (by kernel_rfl) (by kernel_rfl)) fun _=>?_
 refine znl [(b1,.map (C2 D3h 0).toArray 21)] ?_
 refine A1 (nx (A5 2 rfl (ix rfl (B4 (c:=11) rfl rfl rfl rfl (by decide)) ?_)))
 refine ip' 1 0 [(61,iv 11)] ?_
 refine A1 (D7 (sr 1 rfl (ip' 1 0 [(62,bv true)] ?_)))
 refine ie (A3 (H8 rfl (A4 (nx (A3 (B0 (sr 2 rfl (ix rfl (F0 (v:=iv 15) (us:=[iv 15]) Tryz.underlying186 ty3 rfl rfl rfl 11 rfl (by decide) rfl rfl rfl) ?_))))))))
 refine ip' 1 0 [(7,iv 15)] ?_
 refine ie (A5 6 rfl (zrl 5 1 [] [(64,.map (some b1)),(65,iv 15),(68,ag [.func (.func 128) #[ag (C5 (⟨0,0⟩:Spn))] #[],.func (.func 128) #[ag (C5 (⟨0,0⟩:Spn))] #[]])] ?_))
 refine it rfl (E5 (es:=(C2 D3h 0).toArray) (es':=(C2 D3z 0).toArray) J9 (.inr rfl) rfl rfl rfl 0 rfl (by kernel_rfl) (by kernel_rfl)) fun _=>?_
 refine znl [(b1,.map (C2 D3z 0).toArray 22)] ?_
 refine A1 (nx (A5 2 rfl (ix rfl (B4 (c:=12) rfl rfl rfl rfl (by decide)) ?_)))
 refine ip' 1 0 [(61,iv 12)] ?_
 refine A1 (D7 (sr 1 rfl (ip' 1 0 [(62,bv true)] ?_)))
 refine ie (A3 (H8 rfl (A4 (nx (A3 (B0 (sr 2 rfl (ix rfl (F0 (v:=iv 16) (us:=[iv 16]) Tryz.underlying186 ty3 rfl rfl rfl 12 rfl (by decide) rfl rfl rfl) ?_))))))))
 refine ip' 1 0 [(7,iv 16)] ?_
 refine ie (A5 6 rfl (zrl 5 1 [] [(64,.map (some b1)),(65,iv 16),(68,ag [.func (.func 128) #[ag (C5 (⟨0,0⟩:Spn))] #[],.func (.func 128) #[ag (C5 (⟨0,0⟩:Spn))] #[]])] ?_))
 refine it rfl (E5 (es:=(C2 D3z 0).toArray) (es':=(C2 D3c 0).toArray) J9 (.inr rfl) rfl rfl rfl 0 rfl (by kernel_rfl) (by kernel_rfl)) fun _=>?_
 refine znl [(b1,.map (C2 D3c 0).toArray 23)] ?_
 refine A1 (nx (A5 2 rfl (ix rfl (B4 (c:=13) rfl rfl rfl rfl (by decide)) ?_)))
 refine ip' 1 0 [(61,iv 13)] ?_
 refine A1 (D7 (sr 1 rfl (ip' 1 0 [(62,bv false)] ?_)))
 refine ie (A3 (A0m rfl (G2 (nx (A3 (sr 2 rfl (zrl 2 0 [] [(70,ag (B6o (⟨7,14,42⟩:Ar3))),(71,iv 0)] ?_)))))))
 refine ie (B0 (R6 5 ?_))
 refine D7 (sr 1 rfl (ip' 1 0 [(72,bv true)] ?_))
 refine ie (A3 (H8 rfl (A4 (nx (A3 (B0 (sr 2 rfl (ix rfl (F0 (v:=iv 7) (us:=[iv 7]) Tryz.underlying187 ty3 rfl rfl rfl 0 rfl (by decide) rfl rfl rfl) ?_))))))))
 refine ip' 1 0 [(9,iv 7)] ?_
 refine ie (A5 6 rfl (zrl 5 1 [] [(74,.map (some b1)),(75,iv 7),(78,ag [.func (.func 128) #[ag (C5 (⟨0,1⟩:Spn))] #[],.func (.func 128) #[ag (C5 (⟨0,0⟩:Spn))] #[]])] ?_))
 refine it rfl (E5 (es:=(C2 D3c 0).toArray) (es':=(C2 D3q 0).toArray) J9 (.inr rfl) rfl rfl rfl 0 rfl (by kernel_rfl) (by kernel_rfl)) fun _=>?_
 refine znl [(b1,.map (C2 D3q 0).toArray 24)] ?_
 refine A1 (nx (A5 2 rfl (ix rfl (B4 (c:=1) rfl rfl rfl rfl (by decide)) ?_)))
 refine ip' 1 0 [(71,iv 1)] ?_
 refine A1 (D7 (sr 1 rfl (ip' 1 0 [(72,bv true)] ?_)))
 refine ie (A3 (H8 rfl (A4 (nx (A3 (B0 (sr 2 rfl (ix rfl (F0 (v:=iv 14) (us:=[iv 14]) Tryz.underlying187 ty3 rfl rfl rfl 1 rfl (by decide) rfl rfl rfl) ?_))))))))
 refine ip' 1 0 [(9,iv 14)] ?_
 refine ie (A5 6 rfl (zrl 5 1 [] [(74,.map (some b1)),(75,iv 14),(78,ag [.func (.func 128) #[ag (C5 (⟨0,1⟩:Spn))] #[],.func (.func 128) #[ag (C5 (⟨0,0⟩:Spn))] #[]])] ?_))
 refine it rfl (E5 (es:=(C2 D3q 0).toArray) (es':=(C2 D4h 0).toArray) J9 (.inr rfl) rfl rfl rfl 0 rfl (by kernel_rfl) (by kernel_rfl)) fun _=>?_
 refine znl [(b1,.map (C2 D4h 0).toArray 25)] ?_
 refine A1 (nx (A5 2 rfl (ix rfl (B4 (c:=2) rfl rfl rfl rfl (by decide)) ?_)))
 refine ip' 1 0 [(71,iv 2)] ?_
 refine A1 (D7 (sr 1 rfl (ip' 1 0 [(72,bv true)] ?_)))
 refine ie (A3 (H8 rfl (A4 (nx (A3 (B0 (sr 2 rfl (ix rfl (F0 (v:=iv 42) (us:=[iv 42]) Tryz.underlying187 ty3 rfl rfl rfl 2 rfl (by decide) rfl rfl rfl) ?_))))))))
 refine ip' 1 0 [(9,iv 42)] ?_
 refine ie (A5 6 rfl (zrl 5 1 [] [(74,.map (some b1)),(75,iv 42),(78,ag [.func (.func 128) #[ag (C5 (⟨0,1⟩:Spn))] #[],.func (.func 128) #[ag (C5 (⟨0,0⟩:Spn))] #[]])] ?_))
 refine it rfl (E5 (es:=(C2 D4h 0).toArray) (es':=(C2 D4g 0).toArray) J9 (.inr rfl) rfl rfl rfl 0 rfl (by kernel_rfl) (by kernel_rfl)) fun _=>?_
 refine znl [(b1,.map (C2 D4g 0).toArray 26)] ?_
 refine A1 (nx (A5 2 rfl (ix rfl (B4 (c:=3) rfl rfl rfl rfl (by decide)) ?_)))
 refine ip' 1 0 [(71,iv 3)] ?_
 refine A1 (D7 (sr 1 rfl (ip' 1 0 [(72,bv false)] ?_)))
 refine ie (A3 (A0m rfl (G2 (nx (A3 (sr 2 rfl (zrl 2 0 [] [(80,ag (S8 (⟨21,33⟩:Ar2))),(81,iv 0)] ?_)))))))
 refine ie (B0 (R6 4 ?_))
 refine D7 (sr 1 rfl (ip' 1 0 [(82,bv true)] ?_))
 refine ie (A3 (H8 rfl (A4 (nx (A3 (B0 (sr 2 rfl (ix rfl (F0 (v:=iv 21) (us:=[iv 21]) Tryz.underlying70 ty3 rfl rfl rfl 0 rfl (by decide) rfl rfl rfl) ?_))))))))
 refine ip' 1 0 [(11,iv 21)] ?_
 refine ie (A5 6 rfl (zrl 5 1 [] [(84,.map (some b1)),(85,iv 21),(88,ag [.func (.func 128) #[ag (C5 (⟨0,1⟩:Spn))] #[],.func (.func 128) #[ag (C5 (⟨1,9999⟩:Spn))] #[]])] ?_))
 refine it rfl (E5 (es:=(C2 D4g 0).toArray) (es':=(C2 D2z 0).toArray) J9 (.inr rfl) rfl rfl rfl 0 rfl (by kernel_rfl) (by kernel_rfl)) fun _=>?_
 refine znl [(b1,.map (C2 D2z 0).toArray 27)] ?_
 refine A1 (nx (A5 2 rfl (ix rfl (B4 (c:=1) rfl rfl rfl rfl (by decide)) ?_)))
 refine ip' 1 0 [(81,iv 1)] ?_
 refine A1 (D7 (sr 1 rfl (ip' 1 0 [(82,bv true)] ?_)))
 refine ie (A3 (H8 rfl (A4 (nx (A3 (B0 (sr 2 rfl (ix rfl (F0 (v:=iv 33) (us:=[iv 33]) Tryz.underlying70 ty3 rfl rfl rfl 1 rfl (by decide) rfl rfl rfl) ?_))))))))
 refine ip' 1 0 [(11,iv 33)] ?_
 refine ie (A5 6 rfl (zrl 5 1 [] [(84,.map (some b1)),(85,iv 33),(88,ag [.func (.func 128) #[ag (C5 (⟨0,1⟩:Spn))] #[],.func (.func 128) #[ag (C5 (⟨1,9999⟩:Spn))] #[]])] ?_))
 refine it rfl (E5 (es:=(C2 D2z 0).toArray) (es':=(C2 D4o 0).toArray) J9 (.inr rfl) rfl rfl rfl 0 rfl (by kernel_rfl) (by kernel_rfl)) fun _=>?_
 refine znl [(b1,.map (C2 D4o 0).toArray 28)] ?_
 refine A1 (nx (A5 2 rfl (ix rfl (B4 (c:=2) rfl rfl rfl rfl (by decide)) ?_)))
 refine ip' 1 0 [(81,iv 2)] ?_
 refine A1 (D7 (sr 1 rfl (ip' 1 0 [(82,bv false)] ?_)))
 refine ie (A3 (A0m rfl (G2 (nx (A3 (sr 2 rfl (zrl 2 0 [] [(90,ag [iv 22,iv 23,iv 24,iv 25,iv 28,iv 29,iv 30,iv 31,iv 32,iv 34]),(91,iv 0)] ?_)))))))
 refine ie (B0 (R6 12 ?_))
 refine D7 (sr 1 rfl (ip' 1 0 [(92,bv true)] ?_))
 refine ie (A3 (H8 rfl (A4 (nx (A3 (B0 (sr 2 rfl (ix rfl (F0 (v:=iv 22) (us:=[iv 22]) Tryz.underlying188 ty3 rfl rfl rfl 0 rfl (by decide) rfl rfl rfl) ?_))))))))
 refine ip' 1 0 [(13,iv 22)] ?_
 refine ie (A5 6 rfl (zrl 5 1 [] [(94,.map (some b1)),(95,iv 22),(98,ag [.func (.func 128) #[ag (C5 (⟨1,9999⟩:Spn))] #[],.func (.func 128) #[ag (C5 (⟨0,0⟩:Spn))] #[]])] ?_))
 refine it rfl (E5 (es:=(C2 D4o 0).toArray) (es':=(C2 D3r 0).toArray) J9 (.inr rfl) rfl rfl rfl 0 rfl (by kernel_rfl) (by kernel_rfl)) fun _=>?_
 refine znl [(b1,.map (C2 D3r 0).toArray 29)] ?_
 refine A1 (nx (A5 2 rfl (ix rfl (B4 (c:=1) rfl rfl rfl rfl (by decide)) ?_)))
 refine ip' 1 0 [(91,iv 1)] ?_
 refine A1 (D7 (sr 1 rfl (ip' 1 0 [(92,bv true)] ?_)))
 refine ie (A3 (H8 rfl (A4 (nx (A3 (B0 (sr 2 rfl (ix rfl (F0 (v:=iv 23) (us:=[iv 23]) Tryz.underlying188 ty3 rfl rfl rfl 1 rfl (by decide) rfl rfl rfl) ?_))))))))
 refine ip' 1 0 [(13,iv 23)] ?_
 refine ie (A5 6 rfl (zrl 5 1 [] [(94,.map (some b1)),(95,iv 23),(98,ag [.func (.func 128) #[ag (C5 (⟨1,9999⟩:Spn))] #[],.func (.func 128) #[ag (C5 (⟨0,0⟩:Spn))] #[]])] ?_))
 refine it rfl (E5 (es:=(C2 D3r 0).toArray) (es':=(C2 D4l 0).toArray) J9 (.inr rfl) rfl rfl rfl 0 rfl (by kernel_rfl) (by kernel_rfl)) fun _=>?_
 refine znl [(b1,.map (C2 D4l 0).toArray 30)] ?_
 refine A1 (nx (A5 2 rfl (ix rfl (B4 (c:=2) rfl rfl rfl rfl (by decide)) ?_)))
 refine ip' 1 0 [(91,iv 2)] ?_
 refine A1 (D7 (sr 1 rfl (ip' 1 0 [(92,bv true)] ?_)))
 refine ie (A3 (H8 rfl (A4 (nx (A3 (B0 (sr 2 rfl (ix rfl (F0 (v:=iv 24) (us:=[iv 24]) Tryz.underlying188 ty3 rfl rfl rfl 2 rfl (by decide) rfl rfl rfl) ?_))))))))
 refine ip' 1 0 [(13,iv 24)] ?_
 refine ie (A5 6 rfl (zrl 5 1 [] [(94,.map (some b1)),(95,iv 24),(98,ag [.func (.func 128) #[ag (C5 (⟨1,9999⟩:Spn))] #[],.func (.func 128) #[ag (C5 (⟨0,0⟩:Spn))] #[]])] ?_))
 refine it rfl (E5 (es:=(C2 D4l 0).toArray) (es':=(C2 D4c 0).toArray) J9 (.inr rfl) rfl rfl rfl 0 rfl (by kernel_rfl) (by kernel_rfl)) fun _=>?_
 refine znl [(b1,.map (C2 D4c 0).toArray 31)] ?_
 refine A1 (nx (A5 2 rfl (ix rfl (B4 (c:=3) rfl rfl rfl rfl (by decide)) ?_)))
 refine ip' 1 0 [(91,iv 3)] ?_
 refine A1 (D7 (sr 1 rfl (ip' 1 0 [(92,bv true)] ?_)))
 refine ie (A3 (H8 rfl (A4 (nx (A3 (B0 (sr 2 rfl (ix rfl (F0 (v:=iv 25) (us:=[iv 25]) Tryz.underlying188 ty3 rfl rfl rfl 3 rfl (by decide) rfl rfl rfl) ?_))))))))
 refine ip' 1 0 [(13,iv 25)] ?_
 refine ie (A5 6 rfl (zrl 5 1 [] [(94,.map (some b1)),(95,iv 25),(98,ag [.func (.func 128) #[ag (C5 (⟨1,9999⟩:Spn))] #[],.func (.func 128) #[ag (C5 (⟨0,0⟩:Spn))] #[]])] ?_))
 refine it rfl (E5 (es:=(C2 D4c 0).toArray) (es':=(C2 D3a 0).toArray) J9 (.inr rfl) rfl rfl rfl 0 rfl (by kernel_rfl) (by kernel_rfl)) fun _=>?_
 refine znl [(b1,.map (C2 D3a 0).toArray 32)] ?_
 refine A1 (nx (A5 2 rfl (ix rfl (B4 (c:=4) rfl rfl rfl rfl (by decide)) ?_)))
 refine ip' 1 0 [(91,iv 4)] ?_
 refine A1 (D7 (sr 1 rfl (ip' 1 0 [(92,bv true)] ?_)))
 refine ie (A3 (H8 rfl (A4 (nx (A3 (B0 (sr 2 rfl (ix rfl (F0 (v:=iv 28) (us:=[iv 28]) Tryz.underlying188 ty3 rfl rfl rfl 4 rfl (by decide) rfl rfl rfl) ?_))))))))
 refine ip' 1 0 [(13,iv 28)] ?_
 refine ie (A5 6 rfl (zrl 5 1 [] [(94,.map (some b1)),(95,iv 28),(98,ag [.func (.func 128) #[ag (C5 (⟨1,9999⟩:Spn))] #[],.func (.func 128) #[ag (C5 (⟨0,0⟩:Spn))] #[]])] ?_))
 refine it rfl (E5 (es:=(C2 D3a 0).toArray) (es':=(C2 D2i 0).toArray) J9 (.inr rfl) rfl rfl rfl 0 rfl (by kernel_rfl) (by kernel_rfl)) fun _=>?_
 refine znl [(b1,.map (C2 D2i 0).toArray 33)] ?_
 refine A1 (nx (A5 2 rfl (ix rfl (B4 (c:=5) rfl rfl rfl rfl (by decide)) ?_)))
 refine ip' 1 0 [(91,iv 5)] ?_
 refine A1 (D7 (sr 1 rfl (ip' 1 0 [(92,bv true)] ?_)))
 refine ie (A3 (H8 rfl (A4 (nx (A3 (B0 (sr 2 rfl (ix rfl (F0 (v:=iv 29) (us:=[iv 29]) Tryz.underlying188 ty3 rfl rfl rfl 5 rfl (by decide) rfl rfl rfl) ?_))))))))
 refine ip' 1 0 [(13,iv 29)] ?_
 refine ie (A5 6 rfl (zrl 5 1 [] [(94,.map (some b1)),(95,iv 29),(98,ag [.func (.func 128) #[ag (C5 (⟨1,9999⟩:Spn))] #[],.func (.func 128) #[ag (C5 (⟨0,0⟩:Spn))] #[]])] ?_))
 refine it rfl (E5 (es:=(C2 D2i 0).toArray) (es':=(C2 D3e 0).toArray) J9 (.inr rfl) rfl rfl rfl 0 rfl (by kernel_rfl) (by kernel_rfl)) fun _=>?_
 refine znl [(b1,.map (C2 D3e 0).toArray 34)] ?_
 refine A1 (nx (A5 2 rfl (ix rfl (B4 (c:=6) rfl rfl rfl rfl (by decide)) ?_)))
 refine ip' 1 0 [(91,iv 6)] ?_
 refine A1 (D7 (sr 1 rfl (ip' 1 0 [(92,bv true)] ?_)))
 refine ie (A3 (H8 rfl (A4 (nx (A3 (B0 (sr 2 rfl (ix rfl (F0 (v:=iv 30) (us:=[iv 30]) Tryz.underlying188 ty3 rfl rfl rfl 6 rfl (by decide) rfl rfl rfl) ?_))))))))
 refine ip' 1 0 [(13,iv 30)] ?_
 refine ie (A5 6 rfl (zrl 5 1 [] [(94,.map (some b1)),(95,iv 30),(98,ag [.func (.func 128) #[ag (C5 (⟨1,9999⟩:Spn))] #[],.func (.func 128) #[ag (C5 (⟨0,0⟩:Spn))] #[]])] ?_))
 refine it rfl (E5 (es:=(C2 D3e 0).toArray) (es':=(C2 D2y 0).toArray) J9 (.inr rfl) rfl rfl rfl 0 rfl (by kernel_rfl) (by kernel_rfl)) fun _=>?_
 refine znl [(b1,.map (C2 D2y 0).toArray 35)] ?_
 refine A1 (nx (A5 2 rfl (ix rfl (B4 (c:=7) rfl rfl rfl rfl (by decide)) ?_)))
 refine ip' 1 0 [(91,iv 7)] ?_
 refine A1 (D7 (sr 1 rfl (ip' 1 0 [(92,bv true)] ?_)))
 refine ie (A3 (H8 rfl (A4 (nx (A3 (B0 (sr 2 rfl (ix rfl (F0 (v:=iv 31) (us:=[iv 31]) Tryz.underlying188 ty3 rfl rfl rfl 7 rfl (by decide) rfl rfl rfl) ?_))))))))
 refine ip' 1 0 [(13,iv 31)] ?_
 refine ie (A5 6 rfl (zrl 5 1 [] [(94,.map (some b1)),(95,iv 31),(98,ag [.func (.func 128) #[ag (C5 (⟨1,9999⟩:Spn))] #[],.func (.func 128) #[ag (C5 (⟨0,0⟩:Spn))] #[]])] ?_))
 refine it rfl (E5 (es:=(C2 D2y 0).toArray) (es':=(C2 D2l 0).toArray) J9 (.inr rfl) rfl rfl rfl 0 rfl (by kernel_rfl) (by kernel_rfl)) fun _=>?_
 refine znl [(b1,.map (C2 D2l 0).toArray 36)] ?_
 refine A1 (nx (A5 2 rfl (ix rfl (B4 (c:=8) rfl rfl rfl rfl (by decide)) ?_)))
 refine ip' 1 0 [(91,iv 8)] ?_
 refine A1 (D7 (sr 1 rfl (ip' 1 0 [(92,bv true)] ?_)))
 refine ie (A3 (H8 rfl (A4 (nx (A3 (B0 (sr 2 rfl (ix rfl (F0 (v:=iv 32) (us:=[iv 32]) Tryz.underlying188 ty3 rfl rfl rfl 8 rfl (by decide) rfl rfl rfl) ?_))))))))
 refine ip' 1 0 [(13,iv 32)] ?_
 refine ie (A5 6 rfl (zrl 5 1 [] [(94,.map (some b1)),(95,iv 32),(98,ag [.func (.func 128) #[ag (C5 (⟨1,9999⟩:Spn))] #[],.func (.func 128) #[ag (C5 (⟨0,0⟩:Spn))] #[]])] ?_))
 refine it rfl (E5 (es:=(C2 D2l 0).toArray) (es':=(C2 D3g 0).toArray) J9 (.inr rfl) rfl rfl rfl 0 rfl (by kernel_rfl) (by kernel_rfl)) fun _=>?_
 refine znl [(b1,.map (C2 D3g 0).toArray 37)] ?_
 refine A1 (nx (A5 2 rfl (ix rfl (B4 (c:=9) rfl rfl rfl rfl (by decide)) ?_)))
 refine ip' 1 0 [(91,iv 9)] ?_
 refine A1 (D7 (sr 1 rfl (ip' 1 0 [(92,bv true)] ?_)))
 refine ie (A3 (H8 rfl (A4 (nx (A3 (B0 (sr 2 rfl (ix rfl (F0 (v:=iv 34) (us:=[iv 34]) Tryz.underlying188 ty3 rfl rfl rfl 9 rfl (by decide) rfl rfl rfl) ?_))))))))
 refine ip' 1 0 [(13,iv 34)] ?_
 refine ie (A5 6 rfl (zrl 5 1 [] [(94,.map (some b1)),(95,iv 34),(98,ag [.func (.func 128) #[ag (C5 (⟨1,9999⟩:Spn))] #[],.func (.func 128) #[ag (C5 (⟨0,0⟩:Spn))] #[]])] ?_))
 refine it rfl (E5 (es:=(C2 D3g 0).toArray) (es':=(C2 D3f 0).toArray) J9 (.inr rfl) rfl rfl rfl 0 rfl (by kernel_rfl) (by kernel_rfl)) fun _=>?_
 refine znl [(b1,.map (C2 D3f 0).toArray 38)] ?_
 refine A1 (nx (A5 2 rfl (ix rfl (B4 (c:=10) rfl rfl rfl rfl (by decide)) ?_)))
 refine ip' 1 0 [(91,iv 10)] ?_
 refine A1 (D7 (sr 1 rfl (ip' 1 0 [(92,bv false)] ?_)))
 refine ie (A3 (A0m rfl (G2 (nx (A3 (sr 2 rfl (zrl 2 0 [] [(100,ag (B6o (⟨36,37,43⟩:Ar3))),(101,iv 0)] ?_)))))))
 refine ie (B0 (R6 5 ?_))
 refine D7 (sr 1 rfl (ip' 1 0 [(102,bv true)] ?_))
 refine ie (A3 (H8 rfl (A4 (nx (A3 (B0 (sr 2 rfl (ix rfl (F0 (v:=iv 36) (us:=[iv 36]) Tryz.underlying187 ty3 rfl rfl rfl 0 rfl (by decide) rfl rfl rfl) ?_))))))))
 refine ip' 1 0 [(15,iv 36)] ?_
 refine ie (A5 6 rfl (zrl 5 1 [] [(104,.map (some b1)),(105,iv 36),(108,ag [.func (.func 128) #[ag (C5 (⟨0,9999⟩:Spn))] #[],.func (.func 128) #[ag (C5 (⟨0,1⟩:Spn))] #[]])] ?_))
 refine it rfl (E5 (es:=(C2 D3f 0).toArray) (es':=(C2 D4j 0).toArray) J9 (.inr rfl) rfl rfl rfl 0 rfl (by kernel_rfl) (by kernel_rfl)) fun _=>?_
 refine znl [(b1,.map (C2 D4j 0).toArray 39)] ?_
 refine A1 (nx (A5 2 rfl (ix rfl (B4 (c:=1) rfl rfl rfl rfl (by decide)) ?_)))
 refine ip' 1 0 [(101,iv 1)] ?_
 refine A1 (D7 (sr 1 rfl (ip' 1 0 [(102,bv true)] ?_)))
 refine ie (A3 (H8 rfl (A4 (nx (A3 (B0 (sr 2 rfl (ix rfl (F0 (v:=iv 37) (us:=[iv 37]) Tryz.underlying187 ty3 rfl rfl rfl 1 rfl (by decide) rfl rfl rfl) ?_))))))))
 refine ip' 1 0 [(15,iv 37)] ?_
 refine ie (A5 6 rfl (zrl 5 1 [] [(104,.map (some b1)),(105,iv 37),(108,ag [.func (.func 128) #[ag (C5 (⟨0,9999⟩:Spn))] #[],.func (.func 128) #[ag (C5 (⟨0,1⟩:Spn))] #[]])] ?_))
 refine it rfl (E5 (es:=(C2 D4j 0).toArray) (es':=(C2 D3t 0).toArray) J9 (.inr rfl) rfl rfl rfl 0 rfl (by kernel_rfl) (by kernel_rfl)) fun _=>?_
 refine znl [(b1,.map (C2 D3t 0).toArray 40)] ?_
 refine A1 (nx (A5 2 rfl (ix rfl (B4 (c:=2) rfl rfl rfl rfl (by decide)) ?_)))
 refine ip' 1 0 [(101,iv 2)] ?_
 refine A1 (D7 (sr 1 rfl (ip' 1 0 [(102,bv true)] ?_)))
 refine ie (A3 (H8 rfl (A4 (nx (A3 (B0 (sr 2 rfl (ix rfl (F0 (v:=iv 43) (us:=[iv 43]) Tryz.underlying187 ty3 rfl rfl rfl 2 rfl (by decide) rfl rfl rfl) ?_))))))))
 refine ip' 1 0 [(15,iv 43)] ?_
 refine ie (A5 6 rfl (zrl 5 1 [] [(104,.map (some b1)),(105,iv 43),(108,ag [.func (.func 128) #[ag (C5 (⟨0,9999⟩:Spn))] #[],.func (.func 128) #[ag (C5 (⟨0,1⟩:Spn))] #[]])] ?_))
 refine it rfl (E5 (es:=(C2 D3t 0).toArray) (es':=(C2 C9p 0).toArray) J9 (.inr rfl) rfl rfl rfl 0 rfl (by kernel_rfl) (by kernel_rfl)) fun _=>?_
 refine znl [(b1,.map (C2 C9p 0).toArray 41)] ?_
 refine A1 (nx (A5 2 rfl (ix rfl (B4 (c:=3) rfl rfl rfl rfl (by decide)) ?_)))
 refine ip' 1 0 [(101,iv 3)] ?_
 refine A1 (D7 (sr 1 rfl (ip' 1 0 [(102,bv false)] ?_)))
 refine ie (A3 (A0m rfl (G2 (nx (sr 2 rfl (ip' 2 0 [(0,.map (some b1))] ?_))))))
 subst hR
 refine ie (A7 ?_)
 exact zer hr hD (P3 rfl (B1 rfl)) b1 (mk [true] rfl) fn0
def E7 (s:Spn) (n:Int):Bool :=
 ((decide (s.lo≤n))&&(decide (n≤s.hi)))
theorem R9 (s:Spn) (n:Int) (R:Bool) (hR:E7 s n=R):I6 Tryz.prog 128 [ag (C5 s),iv n] [] (bv R):=by
 refine zco Tryz.func128 [(0,ag (C5 s)),(1,iv n)] fun X hX hr hD=>?_
 replace hR:=(E7.eq_1 ..).symm.trans hR
 refine sr 2 rfl (I7 2 0 [] (fun b1=>[(2,pt b1 0)]) (fun b1=>[bx b1 (C5 s) 185]) (fun b1=>?_))
 refine ie (sr 11 rfl (zrl 5 6 [0] [(9,bv (decide (s.lo≤n)))] ?_))
 refine zid 5 1 9 14 (decide (n≤s.hi)) (fun g2 g2p=>?_) ?_
 ·refine zrl 5 0 [0] [(14,bv (decide (n≤s.hi)))] ?_
  exact A1 (H1 2 9 14 g2 fn0 (mk [true] rfl) rfl rfl rfl rfl rfl)
 refine ip' 1 0 [(4,bv ((decide (s.lo≤n))&&(decide (n≤s.hi))))] ?_
 subst hR
 refine ie (A7 ?_)
 exact D5 hr hD
def Y7 (an:Int) (am:Int) (acolor:Col) (atext:List UInt8):Int :=
 (bif ((((!(E7 (⟨0,9999⟩:Spn) an))||(!(E7 (⟨0,1⟩:Spn) am)))||(!(decide (acolor=Col.zero))))||(!(decide (atext=([]:List UInt8))))) then 200 else 0)
theorem B5j (an:Int) (am:Int) (acolor:Col) (atext:List UInt8) (hs:atext.length≤100000000) (R:Int) (hR:Y7 an am acolor atext=R):I6 Tryz.prog 34 [ag (H0 (⟨37,an,am,acolor,atext⟩:Act))] [] (iv R):=by
 refine zco Tryz.func34 [(0,ag (H0 (⟨37,an,am,acolor,atext⟩:Act)))] fun X hX hr hD=>?_
 replace hR:=(Y7.eq_1 ..).symm.trans hR
 refine sr 2 rfl (I7 2 0 [] (fun b1=>[(1,pt b1 0)]) (fun b1=>[bx b1 (H0 (⟨37,an,am,acolor,atext⟩:Act)) 81]) (fun b1=>?_))
 refine ie (sr 1 rfl (ip' 1 0 [(3,iv 0)] ?_))
 refine ie (A3 (sr 2 rfl (zrl 2 0 [0] [(7,iv 37)] ?_)))
 refine ie (B0 (sr 2 rfl (ip' 2 0 [(44,bv false)] ?_)))
 refine ie (A0m rfl (sr 2 rfl (ip' 2 0 [(59,bv false)] ?_)))
 refine ie (A0m rfl (A3 (sr 2 rfl (ip' 2 0 [(63,bv false)] ?_))))
 refine ie (A0m rfl (sr 2 rfl (ip' 2 0 [(63,bv false)] ?_)))
 refine ie (A0m rfl (A5 2 rfl (ip' 2 0 [(63,bv false)] ?_)))
 refine A1 (nx (A0m rfl (sh 10 [(10,[bx b1 (H0 (⟨37,an,am,acolor,atext⟩:Act)) 81])] [] [bx b1 (H0 (⟨37,an,am,acolor,atext⟩:Act)) 81] (zml 10 0) (by kernel_rfl) rfl (by kernel_rfl) (by kernel_rfl) (by kernel_rfl) (mk [true] rfl) A2.refl ?_)))
 refine zhp [1] 9 (zml 10 2) [(10,pt b1 0)] ?_
 refine zhl 2 [bx b1 (H0 (⟨37,an,am,acolor,atext⟩:Act)) 81] (zml 10 6) rfl (D4 (v:=iv 37) ty3 rfl rfl 0 rfl rfl) ?_
 refine C6k 0 7 (by kernel_rfl) ?_ ?_
 ·refine D1q 0 [bx b1 (H0 (⟨37,an,am,acolor,atext⟩:Act)) 81] (zml 10 7) rfl rfl rfl (by kernel_rfl) (by kernel_rfl) (by kernel_rfl) (H2 (L2:=[bx b1 (H0 (⟨37,an,am,acolor,atext⟩:Act)) 81]) (A7o _ rfl) rfl rfl rfl rfl rfl fn0 (List.Perm.refl _) (fun b2=>[(b2,.map (C2 C9p 0).toArray 41),bx b1 (H0 (⟨37,an,am,acolor,atext⟩:Act)) 81]) (fun _=>rfl)) (fun b2=>(mk [false,true] rfl)) (fun b2=>fn0) fun b2=>?_
  refine C6k 3 7 (by kernel_rfl) ?_ ?_
  ·refine D1q 3 [bx b1 (H0 (⟨37,an,am,acolor,atext⟩:Act)) 81] (zml 10 15) rfl rfl rfl (by kernel_rfl) (by kernel_rfl) (by kernel_rfl) (Det.tri (I9.det (A5r (v:=ag [.func (.func 128) #[ag (C5 (⟨0,9999⟩:Spn))] #[],.func (.func 128) #[ag (C5 (⟨0,1⟩:Spn))] #[]]) (j:=39) J9 rfl rfl rfl 0 rfl (by kernel_rfl)))) (fun _=>(mk [false,true] rfl)) (fun _=>fn0) fun _=>?_
   refine zhp [4,5,6] 3 (zml 10 127) [(13,ag [.func (.func 128) #[ag (C5 (⟨0,9999⟩:Spn))] #[],.func (.func 128) #[ag (C5 (⟨0,1⟩:Spn))] #[]]),(14,bv true)] ?_
   refine zho 7 [bx b1 (H0 (⟨37,an,am,acolor,atext⟩:Act)) 81] (zml 10 255) rfl (B0o (cs:=[.nilFunc,.nilFunc]) C1a rfl) (fun b3=>(mk [false,false,true] rfl)) (fun b3=>fn0) fun b3=>?_
   refine zho 8 [bx b1 (H0 (⟨37,an,am,acolor,atext⟩:Act)) 81] (zml 10 511) rfl (N3 (us:=[.func (.func 128) #[ag (C5 (⟨0,9999⟩:Spn))] #[],.func (.func 128) #[ag (C5 (⟨0,1⟩:Spn))] #[]]) (cs':=[.func (.func 128) #[ag (C5 (⟨0,9999⟩:Spn))] #[],.func (.func 128) #[ag (C5 (⟨0,1⟩:Spn))] #[]]) C8l rfl rfl rfl 0 rfl rfl rfl rfl rfl rfl) (fun _=>(mk [false,false,true] rfl)) (fun _=>fn0) fun _=>?_
   refine zhp [9] 0 (zml 10 1023) [(5,bv true)] ?_
   refine B0r (by kernel_rfl) ?_
   refine sr 29 rfl (zrl 6 23 [0] [(17,bv false),(19,.func (.func 128) #[ag (C5 (⟨0,9999⟩:Spn))] #[]),(20,pt b1 1)] ?_)
   refine ix rfl (D4 (v:=iv an) ty3 rfl rfl 2 rfl rfl) ?_
   refine zca (R9 (⟨0,9999⟩:Spn) an _ rfl) fn0 ?_
   refine ip' 3 18 [(25,bv (!(E7 (⟨0,9999⟩:Spn) an)))] ?_
   refine zio 7 11 25 32 (!(E7 (⟨0,1⟩:Spn) am)) (fun g4=>?_) ?_
   ·refine zrl 3 4 [0] [(27,.func (.func 128) #[ag (C5 (⟨0,1⟩:Spn))] #[]),(28,pt b1 2)] ?_
    refine ix rfl (D4 (v:=iv am) ty3 rfl rfl 2 rfl rfl) ?_
    refine zca (R9 (⟨0,1⟩:Spn) am _ rfl) fn0 ?_
    refine ip' 2 0 [(32,bv (!(E7 (⟨0,1⟩:Spn) am)))] ?_
    exact A1 (H1 6 25 32 g4 fn0 (mk [true,true,true] rfl) rfl rfl rfl rfl rfl)
   refine ip' 1 10 [(33,bv ((!(E7 (⟨0,9999⟩:Spn) an))||(!(E7 (⟨0,1⟩:Spn) am))))] ?_
   refine zio 5 5 33 38 (!(decide (acolor=Col.zero))) (fun g5=>?_) ?_
   ·have g5p:=g5;try simp only [Bool.and_eq_true,Bool.or_eq_true,Bool.and_eq_false_iff,Bool.or_eq_false_iff,Bool.not_eq_true',Bool.not_eq_false',decide_eq_true_eq,decide_eq_false_iff_not] at g5p
    refine ip' 1 4 [(34,pt b1 3)] ?_
    refine ix rfl (Q4 (us:=V9 acolor) C1v rfl rfl 2 rfl rfl rfl) ?_
    refine zrl 1 2 [] [(36,ag (V9 Col.zero))] ?_
    refine ix rfl (A5i (a:=acolor) (b:=Col.zero) C8f rfl rfl rfl) ?_
    refine ip' 1 0 [(38,bv (!(decide (acolor=Col.zero))))] ?_
    exact A1 (H1 6 33 38 g5 fn0 (mk [true,true,true] rfl) rfl rfl rfl rfl rfl)
   refine ip' 1 4 [(39,bv (((!(E7 (⟨0,9999⟩:Spn) an))||(!(E7 (⟨0,1⟩:Spn) am)))||(!(decide (acolor=Col.zero)))))] ?_
   refine zio 4 0 39 43 (!(decide (atext=([]:List UInt8)))) (fun g6=>?_) ?_
   ·have g6p:=g6;try simp only [Bool.and_eq_true,Bool.or_eq_true,Bool.and_eq_false_iff,Bool.or_eq_false_iff,Bool.not_eq_true',Bool.not_eq_false',decide_eq_true_eq,decide_eq_false_iff_not] at g6p
    refine ip' 1 3 [(40,pt b1 5)] ?_
    refine ix rfl (D4 (v:=sv atext) ty9 rfl rfl 2 rfl rfl) ?_
    refine ix rfl (B2z rfl rfl rfl) ?_
    refine ip' 1 0 [(43,bv (!(decide (atext=([]:List UInt8)))))] ?_
    exact A1 (H1 5 39 43 g6 fn0 (mk [true,true,true] rfl) rfl rfl rfl rfl rfl)
   refine ie ?_
   refine zjb rfl hR ?_ ?_<;>clear hR<;>intro hR h7
   ·have h7p:=h7;try simp only [Bool.and_eq_true,Bool.or_eq_true,Bool.and_eq_false_iff,Bool.or_eq_false_iff,Bool.not_eq_true',Bool.not_eq_false',decide_eq_true_eq,decide_eq_false_iff_not] at h7p
    refine A5 1 rfl (ip' 1 0 [(3,iv 200)] ?_)
    refine A1 (nx (A3 (sr 2 rfl (ip' 2 0 [(73,bv true)] ?_))))
    refine ie (H8 rfl (sr 1 rfl (ip' 1 0 [(2,iv 200)] ?_)))
    subst hR
    refine ie (A7 ?_)
    exact D5 hr hD
   have h7p:=h7;try simp only [Bool.and_eq_true,Bool.or_eq_true,Bool.and_eq_false_iff,Bool.or_eq_false_iff,Bool.not_eq_true',Bool.not_eq_false',decide_eq_true_eq,decide_eq_false_iff_not] at h7p
   refine A4 (nx (A3 (sr 2 rfl (ip' 2 0 [(73,bv false)] ?_))))
   refine ie (A0m rfl (A4 (nx (sr 1 rfl (ip' 1 0 [(2,iv 0)] ?_)))))
   subst hR
   refine ie (A7 ?_)
   exact D5 hr hD
  ·refine D1q 7 [bx b1 (H0 (⟨37,an,am,acolor,atext⟩:Act)) 81] (zml 10 135) rfl rfl rfl (by kernel_rfl) (by kernel_rfl) (by kernel_rfl) (B0o (cs:=[.nilFunc,.nilFunc]) C1a rfl) (fun b8=>(mk [false,false,true] rfl)) (fun b8=>fn0) fun b8=>?_
   refine zho 3 [bx b1 (H0 (⟨37,an,am,acolor,atext⟩:Act)) 81] (zml 10 143) rfl (Det.tri (I9.det (A5r (v:=ag [.func (.func 128) #[ag (C5 (⟨0,9999⟩:Spn))] #[],.func (.func 128) #[ag (C5 (⟨0,1⟩:Spn))] #[]]) (j:=39) J9 rfl rfl rfl 1 rfl (by kernel_rfl)))) (fun _=>(mk [false,false,true] rfl)) (fun _=>fn0) fun _=>?_
   refine zhp [4,5,6] 2 (zml 10 255) [(13,ag [.func (.func 128) #[ag (C5 (⟨0,9999⟩:Spn))] #[],.func (.func 128) #[ag (C5 (⟨0,1⟩:Spn))] #[]]),(14,bv true)] ?_
   refine zho 8 [bx b1 (H0 (⟨37,an,am,acolor,atext⟩:Act)) 81] (zml 10 511) rfl (N3 (us:=[.func (.func 128) #[ag (C5 (⟨0,9999⟩:Spn))] #[],.func (.func 128) #[ag (C5 (⟨0,1⟩:Spn))] #[]]) (cs':=[.func (.func 128) #[ag (C5 (⟨0,9999⟩:Spn))] #[],.func (.func 128) #[ag (C5 (⟨0,1⟩:Spn))] #[]]) C8l rfl rfl rfl 0 rfl rfl rfl rfl rfl rfl) (fun _=>(mk [false,false,true] rfl)) (fun _=>fn0) fun _=>?_
   refine zhp [9] 0 (zml 10 1023) [(5,bv true)] ?_
   refine B0r (by kernel_rfl) ?_
   refine sr 29 rfl (zrl 6 23 [0] [(17,bv false),(19,.func (.func 128) #[ag (C5 (⟨0,9999⟩:Spn))] #[]),(20,pt b1 1)] ?_)
   refine ix rfl (D4 (v:=iv an) ty3 rfl rfl 2 rfl rfl) ?_
   refine zca (R9 (⟨0,9999⟩:Spn) an _ rfl) fn0 ?_
   refine ip' 3 18 [(25,bv (!(E7 (⟨0,9999⟩:Spn) an)))] ?_
   refine zio 7 11 25 32 (!(E7 (⟨0,1⟩:Spn) am)) (fun g9=>?_) ?_
   ·refine zrl 3 4 [0] [(27,.func (.func 128) #[ag (C5 (⟨0,1⟩:Spn))] #[]),(28,pt b1 2)] ?_
    refine ix rfl (D4 (v:=iv am) ty3 rfl rfl 2 rfl rfl) ?_
    refine zca (R9 (⟨0,1⟩:Spn) am _ rfl) fn0 ?_
    refine ip' 2 0 [(32,bv (!(E7 (⟨0,1⟩:Spn) am)))] ?_
    exact A1 (H1 6 25 32 g9 fn0 (mk [true,true,true] rfl) rfl rfl rfl rfl rfl)
   refine ip' 1 10 [(33,bv ((!(E7 (⟨0,9999⟩:Spn) an))||(!(E7 (⟨0,1⟩:Spn) am))))] ?_
   refine zio 5 5 33 38 (!(decide (acolor=Col.zero))) (fun g10=>?_) ?_
   ·have g10p:=g10;try simp only [Bool.and_eq_true,Bool.or_eq_true,Bool.and_eq_false_iff,Bool.or_eq_false_iff,Bool.not_eq_true',Bool.not_eq_false',decide_eq_true_eq,decide_eq_false_iff_not] at g10p
    refine ip' 1 4 [(34,pt b1 3)] ?_
    refine ix rfl (Q4 (us:=V9 acolor) C1v rfl rfl 2 rfl rfl rfl) ?_
    refine zrl 1 2 [] [(36,ag (V9 Col.zero))] ?_
    refine ix rfl (A5i (a:=acolor) (b:=Col.zero) C8f rfl rfl rfl) ?_
    refine ip' 1 0 [(38,bv (!(decide (acolor=Col.zero))))] ?_
    exact A1 (H1 6 33 38 g10 fn0 (mk [true,true,true] rfl) rfl rfl rfl rfl rfl)
   refine ip' 1 4 [(39,bv (((!(E7 (⟨0,9999⟩:Spn) an))||(!(E7 (⟨0,1⟩:Spn) am)))||(!(decide (acolor=Col.zero)))))] ?_
   refine zio 4 0 39 43 (!(decide (atext=([]:List UInt8)))) (fun g11=>?_) ?_
   ·have g11p:=g11;try simp only [Bool.and_eq_true,Bool.or_eq_true,Bool.and_eq_false_iff,Bool.or_eq_false_iff,Bool.not_eq_true',Bool.not_eq_false',decide_eq_true_eq,decide_eq_false_iff_not] at g11p
    refine ip' 1 3 [(40,pt b1 5)] ?_
    refine ix rfl (D4 (v:=sv atext) ty9 rfl rfl 2 rfl rfl) ?_
    refine ix rfl (B2z rfl rfl rfl) ?_
    refine ip' 1 0 [(43,bv (!(decide (atext=([]:List UInt8)))))] ?_
    exact A1 (H1 5 39 43 g11 fn0 (mk [true,true,true] rfl) rfl rfl rfl rfl rfl)
   refine ie ?_
   refine zjb rfl hR ?_ ?_<;>clear hR<;>intro hR h12
   ·have h12p:=h12;try simp only [Bool.and_eq_true,Bool.or_eq_true,Bool.and_eq_false_iff,Bool.or_eq_false_iff,Bool.not_eq_true',Bool.not_eq_false',decide_eq_true_eq,decide_eq_false_iff_not] at h12p
    refine A5 1 rfl (ip' 1 0 [(3,iv 200)] ?_)
    refine A1 (nx (A3 (sr 2 rfl (ip' 2 0 [(73,bv true)] ?_))))
    refine ie (H8 rfl (sr 1 rfl (ip' 1 0 [(2,iv 200)] ?_)))
    subst hR
    refine ie (A7 ?_)
    exact D5 hr hD
   have h12p:=h12;try simp only [Bool.and_eq_true,Bool.or_eq_true,Bool.and_eq_false_iff,Bool.or_eq_false_iff,Bool.not_eq_true',Bool.not_eq_false',decide_eq_true_eq,decide_eq_false_iff_not] at h12p
   refine A4 (nx (A3 (sr 2 rfl (ip' 2 0 [(73,bv false)] ?_))))
   refine ie (A0m rfl (A4 (nx (sr 1 rfl (ip' 1 0 [(2,iv 0)] ?_)))))
   subst hR
   refine ie (A7 ?_)
   exact D5 hr hD
 ·refine D1q 7 [bx b1 (H0 (⟨37,an,am,acolor,atext⟩:Act)) 81] (zml 10 134) rfl rfl rfl (by kernel_rfl) (by kernel_rfl) (by kernel_rfl) (B0o (cs:=[.nilFunc,.nilFunc]) C1a rfl) (fun b13=>(mk [false,true] rfl)) (fun b13=>fn0) fun b13=>?_
  refine zho 0 [bx b1 (H0 (⟨37,an,am,acolor,atext⟩:Act)) 81] (zml 10 135) rfl (H2 (L2:=[bx b13 [.nilFunc,.nilFunc] 120,bx b1 (H0 (⟨37,an,am,acolor,atext⟩:Act)) 81]) (A7o _ rfl) rfl rfl rfl rfl rfl fn0 (List.Perm.refl _) (fun b14=>[(b14,.map (C2 C9p 0).toArray 41),bx b13 [.nilFunc,.nilFunc] 120,bx b1 (H0 (⟨37,an,am,acolor,atext⟩:Act)) 81]) (fun _=>rfl)) (fun b14=>(mk [false,false,true] rfl)) (fun b14=>fn0) fun b14=>?_
  refine zho 3 [bx b1 (H0 (⟨37,an,am,acolor,atext⟩:Act)) 81] (zml 10 143) rfl (Det.tri (I9.det (A5r (v:=ag [.func (.func 128) #[ag (C5 (⟨0,9999⟩:Spn))] #[],.func (.func 128) #[ag (C5 (⟨0,1⟩:Spn))] #[]]) (j:=39) J9 rfl rfl rfl 0 rfl (by kernel_rfl)))) (fun _=>(mk [false,false,true] rfl)) (fun _=>fn0) fun _=>?_
  refine zhp [4,5,6] 2 (zml 10 255) [(13,ag [.func (.func 128) #[ag (C5 (⟨0,9999⟩:Spn))] #[],.func (.func 128) #[ag (C5 (⟨0,1⟩:Spn))] #[]]),(14,bv true)] ?_
  refine zho 8 [bx b1 (H0 (⟨37,an,am,acolor,atext⟩:Act)) 81] (zml 10 511) rfl (N3 (us:=[.func (.func 128) #[ag (C5 (⟨0,9999⟩:Spn))] #[],.func (.func 128) #[ag (C5 (⟨0,1⟩:Spn))] #[]]) (cs':=[.func (.func 128) #[ag (C5 (⟨0,9999⟩:Spn))] #[],.func (.func 128) #[ag (C5 (⟨0,1⟩:Spn))] #[]]) C8l rfl rfl rfl 1 rfl rfl rfl rfl rfl rfl) (fun _=>(mk [false,false,true] rfl)) (fun _=>fn0) fun _=>?_
  refine zhp [9] 0 (zml 10 1023) [(5,bv true)] ?_
  refine B0r (by kernel_rfl) ?_
  refine sr 29 rfl (ip' 4 25 [(17,bv false),(18,pt b13 0)] ?_)
  refine ix rfl (D4 (v:=.func (.func 128) #[ag (C5 (⟨0,9999⟩:Spn))] #[]) D2g rfl rfl 1 rfl rfl) ?_
  refine ip' 1 23 [(20,pt b1 1)] ?_
  refine ix rfl (D4 (v:=iv an) ty3 rfl rfl 2 rfl rfl) ?_
  refine zca (R9 (⟨0,9999⟩:Spn) an _ rfl) fn0 ?_
  refine ip' 3 18 [(25,bv (!(E7 (⟨0,9999⟩:Spn) an)))] ?_
  refine zio 7 11 25 32 (!(E7 (⟨0,1⟩:Spn) am)) (fun g15=>?_) ?_
  ·refine ip' 1 6 [(26,pt b13 1)] ?_
   refine ix rfl (D4 (v:=.func (.func 128) #[ag (C5 (⟨0,1⟩:Spn))] #[]) D2g rfl rfl 1 rfl rfl) ?_
   refine ip' 1 4 [(28,pt b1 2)] ?_
   refine ix rfl (D4 (v:=iv am) ty3 rfl rfl 2 rfl rfl) ?_
   refine zca (R9 (⟨0,1⟩:Spn) am _ rfl) fn0 ?_
   refine ip' 2 0 [(32,bv (!(E7 (⟨0,1⟩:Spn) am)))] ?_
   exact A1 (H1 7 25 32 g15 fn0 (mk [true,true,true] rfl) rfl rfl rfl rfl rfl)
  refine ip' 1 10 [(33,bv ((!(E7 (⟨0,9999⟩:Spn) an))||(!(E7 (⟨0,1⟩:Spn) am))))] ?_
  refine zio 5 5 33 38 (!(decide (acolor=Col.zero))) (fun g16=>?_) ?_
  ·have g16p:=g16;try simp only [Bool.and_eq_true,Bool.or_eq_true,Bool.and_eq_false_iff,Bool.or_eq_false_iff,Bool.not_eq_true',Bool.not_eq_false',decide_eq_true_eq,decide_eq_false_iff_not] at g16p
   refine ip' 1 4 [(34,pt b1 3)] ?_
   refine ix rfl (Q4 (us:=V9 acolor) C1v rfl rfl 2 rfl rfl rfl) ?_
   refine zrl 1 2 [] [(36,ag (V9 Col.zero))] ?_
   refine ix rfl (A5i (a:=acolor) (b:=Col.zero) C8f rfl rfl rfl) ?_
   refine ip' 1 0 [(38,bv (!(decide (acolor=Col.zero))))] ?_
   exact A1 (H1 6 33 38 g16 fn0 (mk [true,true,true] rfl) rfl rfl rfl rfl rfl)
  refine ip' 1 4 [(39,bv (((!(E7 (⟨0,9999⟩:Spn) an))||(!(E7 (⟨0,1⟩:Spn) am)))||(!(decide (acolor=Col.zero)))))] ?_
  refine zio 4 0 39 43 (!(decide (atext=([]:List UInt8)))) (fun g17=>?_) ?_
  ·have g17p:=g17;try simp only [Bool.and_eq_true,Bool.or_eq_true,Bool.and_eq_false_iff,Bool.or_eq_false_iff,Bool.not_eq_true',Bool.not_eq_false',decide_eq_true_eq,decide_eq_false_iff_not] at g17p
   refine ip' 1 3 [(40,pt b1 5)] ?_
   refine ix rfl (D4 (v:=sv atext) ty9 rfl rfl 2 rfl rfl) ?_
   refine ix rfl (B2z rfl rfl rfl) ?_
   refine ip' 1 0 [(43,bv (!(decide (atext=([]:List UInt8)))))] ?_
   exact A1 (H1 5 39 43 g17 fn0 (mk [true,true,true] rfl) rfl rfl rfl rfl rfl)
  refine ie ?_
  refine zjb rfl hR ?_ ?_<;>clear hR<;>intro hR h18
  ·have h18p:=h18;try simp only [Bool.and_eq_true,Bool.or_eq_true,Bool.and_eq_false_iff,Bool.or_eq_false_iff,Bool.not_eq_true',Bool.not_eq_false',decide_eq_true_eq,decide_eq_false_iff_not] at h18p
   refine A5 1 rfl (ip' 1 0 [(3,iv 200)] ?_)
   refine A1 (nx (A3 (sr 2 rfl (ip' 2 0 [(73,bv true)] ?_))))
   refine ie (H8 rfl (sr 1 rfl (ip' 1 0 [(2,iv 200)] ?_)))
   subst hR
   refine ie (A7 ?_)
   exact D5 hr hD
  have h18p:=h18;try simp only [Bool.and_eq_true,Bool.or_eq_true,Bool.and_eq_false_iff,Bool.or_eq_false_iff,Bool.not_eq_true',Bool.not_eq_false',decide_eq_true_eq,decide_eq_false_iff_not] at h18p
  refine A4 (nx (A3 (sr 2 rfl (ip' 2 0 [(73,bv false)] ?_))))
  refine ie (A0m rfl (A4 (nx (sr 1 rfl (ip' 1 0 [(2,iv 0)] ?_)))))
  subst hR
  refine ie (A7 ?_)
  exact D5 hr hD
def A9:Unit :=
 ()
set_option maxHeartbeats 1000000 in
theorem B4e (R:Unit) (hR:A9=R):Con Tryz.prog 134 [] [] [] (Nat) (fun x=>.map (some x)) (fun x=>[(x,.map #[⟨iv 1,.func (.func 201) #[] #[],0⟩,⟨iv 34,.func (.func 202) #[] #[],1⟩,⟨iv 3,.func (.func 203) #[] #[],2⟩,⟨iv 4,.func (.func 204) #[] #[],3⟩,⟨iv 24,.func (.func 204) #[] #[],4⟩,⟨iv 25,.func (.func 205) #[] #[],5⟩,⟨iv 6,.func (.func 206) #[] #[],6⟩,⟨iv 5,.func (.func 207) #[] #[],7⟩,⟨iv 8,.func (.func 208) #[] #[],8⟩,⟨iv 9,.func (.func 209) #[] #[],9⟩,⟨iv 11,.func (.func 210) #[] #[],10⟩,⟨iv 19,.func (.func 211) #[] #[],11⟩,⟨iv 23,.func (.func 212) #[] #[],12⟩,⟨iv 22,.func (.func 213) #[] #[],13⟩,⟨iv 20,.func (.func 214) #[] #[],14⟩,⟨iv 21,.func (.func 215) #[] #[],15⟩,⟨iv 38,.func (.func 216) #[] #[],16⟩,⟨iv 26,.func (.func 217) #[] #[],17⟩,⟨iv 27,.func (.func 218) #[] #[],18⟩,⟨iv 30,.func (.func 219) #[] #[],19⟩,⟨iv 28,.func (.func 220) #[] #[],20⟩,⟨iv 29,.func (.func 221) #[] #[],21⟩,⟨iv 31,.func (.func 222) #[] #[],22⟩,⟨iv 32,.func (.func 223) #[] #[],23⟩,⟨iv 33,.func (.func 224) #[] #[],24⟩,⟨iv 16,.func (.func 225) #[] #[],25⟩,⟨iv 15,.func (.func 226) #[] #[],26⟩,⟨iv 10,.func (.func 227) #[] #[],27⟩,⟨iv 35,.func (.func 228) #[] #[],28⟩,⟨iv 17,.func (.func 229) #[] #[],29⟩,⟨iv 7,.func (.func 230) #[] #[],30⟩,⟨iv 18,.func (.func 231) #[] #[],31⟩,⟨iv 39,.func (.func 232) #[] #[],32⟩,⟨iv 40,.func (.func 233) #[] #[],33⟩,⟨iv 44,.func (.func 234) #[] #[],34⟩,⟨iv 14,.func (.func 235) #[] #[],35⟩,⟨iv 36,.func (.func 236) #[] #[],36⟩,⟨iv 37,.func (.func 237) #[] #[],37⟩,⟨iv 12,.func (.func 238) #[] #[],38⟩,⟨iv 13,.func (.func 239) #[] #[],39⟩] 40)]) (fun x=>[]):=by
 refine zco Tryz.func134 [] fun X hX hr hD=>?_
 replace hR:=(A9.eq_1 ..).symm.trans hR
 refine sr 1 rfl (ip' 1 0 [] ?_)
 refine ie (sr 43 rfl (it rfl (A9v rfl) fun b1=>?_))
 refine C4l (m:=2) (mo:=1) (es':=[⟨iv 1,.func (.func 201) #[] #[],0⟩,⟨iv 34,.func (.func 202) #[] #[],1⟩,⟨iv 3,.func (.func 203) #[] #[],2⟩,⟨iv 4,.func (.func 204) #[] #[],3⟩,⟨iv 24,.func (.func 204) #[] #[],4⟩,⟨iv 25,.func (.func 205) #[] #[],5⟩,⟨iv 6,.func (.func 206) #[] #[],6⟩,⟨iv 5,.func (.func 207) #[] #[],7⟩,⟨iv 8,.func (.func 208) #[] #[],8⟩,⟨iv 9,.func (.func 209) #[] #[],9⟩,⟨iv 11,.func (.func 210) #[] #[],10⟩,⟨iv 19,.func (.func 211) #[] #[],11⟩,⟨iv 23,.func (.func 212) #[] #[],12⟩,⟨iv 22,.func (.func 213) #[] #[],13⟩,⟨iv 20,.func (.func 214) #[] #[],14⟩,⟨iv 21,.func (.func 215) #[] #[],15⟩,⟨iv 38,.func (.func 216) #[] #[],16⟩,⟨iv 26,.func (.func 217) #[] #[],17⟩,⟨iv 27,.func (.func 218) #[] #[],18⟩,⟨iv 30,.func (.func 219) #[] #[],19⟩,⟨iv 28,.func (.func 220) #[] #[],20⟩,⟨iv 29,.func (.func 221) #[] #[],21⟩,⟨iv 31,.func (.func 222) #[] #[],22⟩,⟨iv 32,.func (.func 223) #[] #[],23⟩,⟨iv 33,.func (.func 224) #[] #[],24⟩,⟨iv 16,.func (.func 225) #[] #[],25⟩,⟨iv 15,.func (.func 226) #[] #[],26⟩,⟨iv 10,.func (.func 227) #[] #[],27⟩,⟨iv 35,.func (.func 228) #[] #[],28⟩,⟨iv 17,.func (.func 229) #[] #[],29⟩,⟨iv 7,.func (.func 230) #[] #[],30⟩,⟨iv 18,.func (.func 231) #[] #[],31⟩,⟨iv 39,.func (.func 232) #[] #[],32⟩,⟨iv 40,.func (.func 233) #[] #[],33⟩,⟨iv 44,.func (.func 234) #[] #[],34⟩,⟨iv 14,.func (.func 235) #[] #[],35⟩,⟨iv 36,.func (.func 236) #[] #[],36⟩,⟨iv 37,.func (.func 237) #[] #[],37⟩,⟨iv 12,.func (.func 238) #[] #[],38⟩,⟨iv 13,.func (.func 239) #[] #[],39⟩]) C8c rfl 0 40 1 0 [] _ rfl (by kernel_rfl) ?_
 refine C4v (L':=[(b1,.map #[⟨iv 1,.func (.func 201) #[] #[],0⟩,⟨iv 34,.func (.func 202) #[] #[],1⟩,⟨iv 3,.func (.func 203) #[] #[],2⟩,⟨iv 4,.func (.func 204) #[] #[],3⟩,⟨iv 24,.func (.func 204) #[] #[],4⟩,⟨iv 25,.func (.func 205) #[] #[],5⟩,⟨iv 6,.func (.func 206) #[] #[],6⟩,⟨iv 5,.func (.func 207) #[] #[],7⟩,⟨iv 8,.func (.func 208) #[] #[],8⟩,⟨iv 9,.func (.func 209) #[] #[],9⟩,⟨iv 11,.func (.func 210) #[] #[],10⟩,⟨iv 19,.func (.func 211) #[] #[],11⟩,⟨iv 23,.func (.func 212) #[] #[],12⟩,⟨iv 22,.func (.func 213) #[] #[],13⟩,⟨iv 20,.func (.func 214) #[] #[],14⟩,⟨iv 21,.func (.func 215) #[] #[],15⟩,⟨iv 38,.func (.func 216) #[] #[],16⟩,⟨iv 26,.func (.func 217) #[] #[],17⟩,⟨iv 27,.func (.func 218) #[] #[],18⟩,⟨iv 30,.func (.func 219) #[] #[],19⟩,⟨iv 28,.func (.func 220) #[] #[],20⟩,⟨iv 29,.func (.func 221) #[] #[],21⟩,⟨iv 31,.func (.func 222) #[] #[],22⟩,⟨iv 32,.func (.func 223) #[] #[],23⟩,⟨iv 33,.func (.func 224) #[] #[],24⟩,⟨iv 16,.func (.func 225) #[] #[],25⟩,⟨iv 15,.func (.func 226) #[] #[],26⟩,⟨iv 10,.func (.func 227) #[] #[],27⟩,⟨iv 35,.func (.func 228) #[] #[],28⟩,⟨iv 17,.func (.func 229) #[] #[],29⟩,⟨iv 7,.func (.func 230) #[] #[],30⟩,⟨iv 18,.func (.func 231) #[] #[],31⟩,⟨iv 39,.func (.func 232) #[] #[],32⟩,⟨iv 40,.func (.func 233) #[] #[],33⟩,⟨iv 44,.func (.func 234) #[] #[],34⟩,⟨iv 14,.func (.func 235) #[] #[],35⟩,⟨iv 36,.func (.func 236) #[] #[],36⟩,⟨iv 37,.func (.func 237) #[] #[],37⟩,⟨iv 12,.func (.func 238) #[] #[],38⟩,⟨iv 13,.func (.func 239) #[] #[],39⟩] 40)]) rfl ?_
 refine ip' 2 0 [(0,.map (some b1))] ?_
 subst hR
 refine ie (A7 ?_)
 exact zer hr hD (P3 rfl (B1 rfl)) b1 (mk [true] rfl) fn0
def A9u:Bool :=
 false
theorem B3v (R:Bool) (hR:A9u=R):I6 Tryz.prog 135 [iv 37] [] (bv R):=by
 refine zco Tryz.func135 [(0,iv 37)] fun X hX hr hD=>?_
 replace hR:=(A9u.eq_1 ..).symm.trans hR
 refine sr 1 rfl (ip' 1 0 [] ?_)
 refine ie (sr 7 rfl (ip' 7 0 [(2,bv false)] ?_))
 subst hR
 refine ie (A7 ?_)
 exact D5 hr hD
def A7q:Bool :=
 true
theorem B1i (R:Bool) (hR:A7q=R):I6 Tryz.prog 136 [ag (H0 (⟨37,1049,1,Col.zero,[]⟩:Act))] [] (bv R):=by
 refine zco Tryz.func136 [(0,ag (H0 (⟨37,1049,1,Col.zero,[]⟩:Act)))] fun X hX hr hD=>?_
 replace hR:=(A7q.eq_1 ..).symm.trans hR
 refine sr 2 rfl (I7 2 0 [] (fun b1=>[(1,pt b1 0)]) (fun b1=>[bx b1 (H0 (⟨37,1049,1,Col.zero,[]⟩:Act)) 81]) (fun b1=>?_))
 refine ie (A3 (sr 2 rfl (zrl 2 0 [0] [(5,iv 37)] ?_)))
 refine ie (B0 (sr 2 rfl (ip' 2 0 [(6,bv false)] ?_)))
 refine ie (A0m rfl (sr 2 rfl (ip' 2 0 [(11,bv true)] ?_)))
 refine ie (H8 rfl (sr 14 rfl (zrl 14 0 [0,0,0] [(2,bv true)] ?_)))
 subst hR
 refine ie (A7 ?_)
 exact D5 hr hD
def D8 (s:ScrC) (sMain:List (Rwc Cel)) (sAlt:List (Rwc Cel)) (sTabs:List Bool) (save:Bool):ScrC :=
 (bif save then {s with kept:=(⟨true,s.cursor,s.style,s.sets,s.modes.origin⟩:Sav)} else {s with cursor:=s.kept.cursor,style:=s.kept.style,sets:=s.kept.sets,modes:={s.modes with origin:=s.kept.origin}})
theorem B0t (s:ScrC) (sMain:List (Rwc Cel)) (sAlt:List (Rwc Cel)) (sTabs:List Bool) (save:Bool) (sb:Nat) (sMainq:Option Addr) (sMainrs:List Rwq) (sMaink:Nat) (sAltq:Option Addr) (sAltrs:List Rwq) (sAltk:Nat) (sTabsq:Option Addr) (sTabsk:Nat) (hrowssMainrs:D0 sMainrs sMain) (hlsMain:sMain.length≤9223372036854775807) (hcsMain:sMain.length≤sMaink) (hrowssAltrs:D0 sAltrs sAlt) (hlsAlt:sAlt.length≤9223372036854775807) (hcsAlt:sAlt.length≤sAltk) (hlsTabs:sTabs.length≤9223372036854775807) (hcsTabs:sTabs.length≤sTabsk) (R:ScrC) (hR:D8 s sMain sAlt sTabs save=R):Con Tryz.prog 302 [pt sb 0,pt sb 39,bv save] [bx sb (A6 s ⟨sMainq,sMain.length,sMaink⟩ ⟨sAltq,sAlt.length,sAltk⟩ ⟨none,0,0⟩ ⟨sTabsq,sTabs.length,sTabsk⟩) 114] [sl B7 sMainq sMainrs,B8 B2 sMainrs sMain,sl B7 sAltq sAltrs,B8 B2 sAltrs sAlt,sl F4 sTabsq sTabs] (Unit) (fun x=>.tuple #[]) (fun x=>[bx sb (A6 R ⟨sMainq,sMain.length,sMaink⟩ ⟨sAltq,sAlt.length,sAltk⟩ ⟨none,0,0⟩ ⟨sTabsq,sTabs.length,sTabsk⟩) 114]) (fun x=>[]):=by
 refine zco Tryz.func302 [(0,pt sb 0),(1,pt sb 39),(2,bv save)] fun X hX hr hD=>?_
 replace hR:=(D8.eq_1 ..).symm.trans hR
 have:=hrowssMainrs.1
 have:=hrowssAltrs.1
 refine A3 (sr 1 rfl (ip' 1 0 [(6,bv save)] ?_))
 refine ie ?_
 refine zjb rfl hR ?_ ?_<;>clear hR<;>intro hR h1
 ·refine sh 25 [(24,[bx sb (A6 s ⟨sMainq,sMain.length,sMaink⟩ ⟨sAltq,sAlt.length,sAltk⟩ ⟨none,0,0⟩ ⟨sTabsq,sTabs.length,sTabsk⟩) 114])] [sl B7 sMainq sMainrs,B8 B2 sMainrs sMain,sl B7 sAltq sAltrs,B8 B2 sAltrs sAlt,sl F4 sTabsq sTabs] [bx sb (A6 s ⟨sMainq,sMain.length,sMaink⟩ ⟨sAltq,sAlt.length,sAltk⟩ ⟨none,0,0⟩ ⟨sTabsq,sTabs.length,sTabsk⟩) 114] (zml 25 0) (by kernel_rfl) rfl (by kernel_rfl) (by kernel_rfl) (by kernel_rfl) (mk [true] rfl) A2.refl ?_
  refine zhp [0,1,2,3,4,6,7,8,9,11,12,13,14,16,17,18,19,20] 7 (zml 25 2063327) [(7,pt sb 39),(11,pt sb 6),(16,pt sb 9),(21,pt sb 17),(27,pt sb 27)] ?_
  refine zhl 5 [bx sb (A6 s ⟨sMainq,sMain.length,sMaink⟩ ⟨sAltq,sAlt.length,sAltk⟩ ⟨none,0,0⟩ ⟨sTabsq,sTabs.length,sTabsk⟩) 114] (zml 25 2063359) rfl (Q4 (us:=A4w s.cursor) D3p rfl rfl 0 rfl rfl rfl) ?_
  refine zhl 10 [bx sb (A6 s ⟨sMainq,sMain.length,sMaink⟩ ⟨sAltq,sAlt.length,sAltk⟩ ⟨none,0,0⟩ ⟨sTabsq,sTabs.length,sTabsk⟩) 114] (zml 25 2064383) rfl (Q4 (us:=I8 s.style) C9j rfl rfl 0 rfl rfl rfl) ?_
  refine zhl 15 [bx sb (A6 s ⟨sMainq,sMain.length,sMaink⟩ ⟨sAltq,sAlt.length,sAltk⟩ ⟨none,0,0⟩ ⟨sTabsq,sTabs.length,sTabsk⟩) 114] (zml 25 2097151) rfl (Q4 (us:=A4x s.sets) D2q rfl rfl 0 rfl rfl rfl) ?_
  refine zhl 21 [bx sb (A6 s ⟨sMainq,sMain.length,sMaink⟩ ⟨sAltq,sAlt.length,sAltk⟩ ⟨none,0,0⟩ ⟨sTabsq,sTabs.length,sTabsk⟩) 114] (zml 25 4194303) rfl (D4 (v:=bv s.modes.origin) ty4 rfl rfl 0 rfl rfl) ?_
  refine zhk 22 (zml 25 8388607) rfl (A7n (cs:=A1t (⟨true,s.cursor,s.style,s.sets,s.modes.origin⟩:Sav)) rfl rfl (by kernel_rfl)) ?_
  refine zhp [23] 1 (zml 25 16777215) [(30,pt sb 39)] ?_
  refine zho 24 [] (zml 25 33554431) rfl (N3 (us:=A1t (⟨true,s.cursor,s.style,s.sets,s.modes.origin⟩:Sav)) (cs':=A6 ({s with kept:=(⟨true,s.cursor,s.style,s.sets,s.modes.origin⟩:Sav)}) ⟨sMainq,sMain.length,sMaink⟩ ⟨sAltq,sAlt.length,sAltk⟩ ⟨none,0,0⟩ ⟨sTabsq,sTabs.length,sTabsk⟩) D6x rfl rfl rfl 0 rfl rfl rfl rfl rfl rfl) (fun _=>(mk [false] rfl)) (fun _=>A2.refl) fun _=>?_
  refine B0r (by kernel_rfl) ?_
  subst hR
  refine A7 ?_
  exact zer hr hD (B0s rfl) () (mk [true] rfl) fn0
 refine A4 (nx (sh' 37 [(23,[bx sb (A6 s ⟨sMainq,sMain.length,sMaink⟩ ⟨sAltq,sAlt.length,sAltk⟩ ⟨none,0,0⟩ ⟨sTabsq,sTabs.length,sTabsk⟩) 114])] [sl B7 sMainq sMainrs,B8 B2 sMainrs sMain,sl B7 sAltq sAltrs,B8 B2 sAltrs sAlt,sl F4 sTabsq sTabs] [bx sb (A6 s ⟨sMainq,sMain.length,sMaink⟩ ⟨sAltq,sAlt.length,sAltk⟩ ⟨none,0,0⟩ ⟨sTabsq,sTabs.length,sTabsk⟩) 114] (zml 37 0) (by kernel_rfl) rfl (by kernel_rfl) (by kernel_rfl) (by kernel_rfl) (mk [true] rfl) A2.refl ?_))
 refine zhp [0,1,2,3,4,5,6,8,9,10,12,13,14,16,17,18] 21 (zml 37 489343) [(31,pt sb 0),(32,pt sb 0),(33,pt sb 0),(34,pt sb 0),(37,pt sb 40),(41,pt sb 43),(45,pt sb 51),(49,pt sb 57)] ?_
 refine zhl 7 [bx sb (A6 s ⟨sMainq,sMain.length,sMaink⟩ ⟨sAltq,sAlt.length,sAltk⟩ ⟨none,0,0⟩ ⟨sTabsq,sTabs.length,sTabsk⟩) 114] (zml 37 489471) rfl (Q4 (us:=A4w s.kept.cursor) D3p rfl rfl 0 rfl rfl rfl) ?_
 refine zhl 11 [bx sb (A6 s ⟨sMainq,sMain.length,sMaink⟩ ⟨sAltq,sAlt.length,sAltk⟩ ⟨none,0,0⟩ ⟨sTabsq,sTabs.length,sTabsk⟩) 114] (zml 37 491519) rfl (Q4 (us:=I8 s.kept.style) C9j rfl rfl 0 rfl rfl rfl) ?_
 refine zhl 15 [bx sb (A6 s ⟨sMainq,sMain.length,sMaink⟩ ⟨sAltq,sAlt.length,sAltk⟩ ⟨none,0,0⟩ ⟨sTabsq,sTabs.length,sTabsk⟩) 114] (zml 37 524287) rfl (Q4 (us:=A4x s.kept.sets) D2q rfl rfl 0 rfl rfl rfl) ?_
 refine zhl 19 [bx sb (A6 s ⟨sMainq,sMain.length,sMaink⟩ ⟨sAltq,sAlt.length,sAltk⟩ ⟨none,0,0⟩ ⟨sTabsq,sTabs.length,sTabsk⟩) 114] (zml 37 1048575) rfl (D4 (v:=bv s.kept.origin) ty4 rfl rfl 0 rfl rfl) ?_
 refine zhp [20,21,22] 14 (zml 37 8388607) [(53,pt sb 6)] ?_
 refine zho 23 [] (zml 37 16777215) rfl (N3 (us:=A4w s.kept.cursor) (cs':=A6 ({s with cursor:=s.kept.cursor}) ⟨sMainq,sMain.length,sMaink⟩ ⟨sAltq,sAlt.length,sAltk⟩ ⟨none,0,0⟩ ⟨sTabsq,sTabs.length,sTabsk⟩) D3p rfl rfl rfl 0 rfl rfl rfl rfl rfl rfl) (fun _=>(mk [false] rfl)) (fun _=>A2.refl) fun _=>?_
 refine zhp [24,25,26] 10 (zml 37 134217727) [(56,pt sb 9)] ?_
 refine zho 27 [] (zml 37 268435455) rfl (N3 (us:=I8 s.kept.style) (cs':=A6 ({s with cursor:=s.kept.cursor,style:=s.kept.style}) ⟨sMainq,sMain.length,sMaink⟩ ⟨sAltq,sAlt.length,sAltk⟩ ⟨none,0,0⟩ ⟨sTabsq,sTabs.length,sTabsk⟩) C9j rfl rfl rfl 0 rfl rfl rfl rfl rfl rfl) (fun _=>(mk [false] rfl)) (fun _=>A2.refl) fun _=>?_
 refine zhp [28,29,30] 6 (zml 37 2147483647) [(59,pt sb 17)] ?_
 refine zho 31 [] (zml 37 4294967295) rfl (N3 (us:=A4x s.kept.sets) (cs':=A6 ({s with cursor:=s.kept.cursor,style:=s.kept.style,sets:=s.kept.sets}) ⟨sMainq,sMain.length,sMaink⟩ ⟨sAltq,sAlt.length,sAltk⟩ ⟨none,0,0⟩ ⟨sTabsq,sTabs.length,sTabsk⟩) D2q rfl rfl rfl 0 rfl rfl rfl rfl rfl rfl) (fun _=>(mk [false] rfl)) (fun _=>A2.refl) fun _=>?_
 refine zhp [32,33,34,35] 1 (zml 37 68719476735) [(63,pt sb 27)] ?_
 refine zho 36 [] (zml 37 137438953471) rfl (N3 (us:=[bv s.kept.origin]) (cs':=A6 ({s with cursor:=s.kept.cursor,style:=s.kept.style,sets:=s.kept.sets,modes:={s.modes with origin:=s.kept.origin}}) ⟨sMainq,sMain.length,sMaink⟩ ⟨sAltq,sAlt.length,sAltk⟩ ⟨none,0,0⟩ ⟨sTabsq,sTabs.length,sTabsk⟩) ty4 rfl rfl rfl 0 rfl rfl rfl rfl rfl rfl) (fun _=>(mk [false] rfl)) (fun _=>A2.refl) fun _=>?_
 refine B3c (by kernel_rfl) ?_
 subst hR
 exact zen hr hD (B0s rfl) () (mk [true] rfl) fn0
def A0n (s:ScrC) (sMain:List (Rwc Cel)) (sAlt:List (Rwc Cel)) (sTabs:List Bool):List (Rwc Cel) :=
 (F1 (A5q s.cols s.rows Sty.zero) fun (y6:List (Rwc Cel)×Int)=>y6.1)
theorem A7k (s:ScrC) (sMain:List (Rwc Cel)) (sAlt:List (Rwc Cel)) (sTabs:List Bool) (sb:Nat) (sMainq:Option Addr) (sMainrs:List Rwq) (sMaink:Nat) (sAltq:Option Addr) (sAltrs:List Rwq) (sAltk:Nat) (sTabsq:Option Addr) (sTabsk:Nat) (hrowssMainrs:D0 sMainrs sMain) (hlsMain:sMain.length≤9223372036854775807) (hcsMain:sMain.length≤sMaink) (hrowssAltrs:D0 sAltrs sAlt) (hlsAlt:sAlt.length≤9223372036854775807) (hcsAlt:sAlt.length≤sAltk) (hlsTabs:sTabs.length≤9223372036854775807) (hcsTabs:sTabs.length≤sTabsk) (R:List (Rwc Cel)) (hR:A0n s sMain sAlt sTabs=R):Con Tryz.prog 301 [pt sb 0] [bx sb (A6 s ⟨sMainq,sMain.length,sMaink⟩ ⟨sAltq,sAlt.length,sAltk⟩ ⟨none,0,0⟩ ⟨sTabsq,sTabs.length,sTabsk⟩) 114] [sl B7 sMainq sMainrs,B8 B2 sMainrs sMain,sl B7 sAltq sAltrs,B8 B2 sAltrs sAlt,sl F4 sTabsq sTabs] ({t:VR×List Rwq // VOk 2 R.length t.1∧D0 t.2 R}) (fun x=>.tuple #[]) (fun x=>(bx sb (A6 s ⟨sMainq,sMain.length,sMaink⟩ ⟨va x.1.1.q,R.length,x.1.1.k⟩ ⟨none,0,0⟩ ⟨sTabsq,sTabs.length,sTabsk⟩) 114::(vo B7 78 x.1.1 x.1.2)++([]))) (fun x=>[B8 B2 x.1.2 R]):=by
 refine zco Tryz.func301 [(0,pt sb 0)] fun X hX hr hD=>?_
 replace hR:=(A0n.eq_1 ..).symm.trans hR
 have:=hrowssMainrs.1
 have:=hrowssAltrs.1
 refine sh' 20 [(19,[bx sb (A6 s ⟨sMainq,sMain.length,sMaink⟩ ⟨sAltq,sAlt.length,sAltk⟩ ⟨none,0,0⟩ ⟨sTabsq,sTabs.length,sTabsk⟩) 114])] [sl B7 sMainq sMainrs,B8 B2 sMainrs sMain,sl B7 sAltq sAltrs,B8 B2 sAltrs sAlt,sl F4 sTabsq sTabs] [bx sb (A6 s ⟨sMainq,sMain.length,sMaink⟩ ⟨sAltq,sAlt.length,sAltk⟩ ⟨none,0,0⟩ ⟨sTabsq,sTabs.length,sTabsk⟩) 114] (zml 20 0) (by kernel_rfl) rfl (by kernel_rfl) (by kernel_rfl) (by kernel_rfl) (mk [true] rfl) A2.refl ?_
 refine zhp [0,1,2,3,4,6,7,8,9] 11 (zml 20 991) [(3,pt sb 0),(7,pt sb 0),(12,pt sb 1)] ?_
 refine zhl 5 [bx sb (A6 s ⟨sMainq,sMain.length,sMaink⟩ ⟨sAltq,sAlt.length,sAltk⟩ ⟨none,0,0⟩ ⟨sTabsq,sTabs.length,sTabsk⟩) 114] (zml 20 1023) rfl (D4 (v:=iv s.cols) ty3 rfl rfl 0 rfl rfl) ?_
 refine zhl 10 [bx sb (A6 s ⟨sMainq,sMain.length,sMaink⟩ ⟨sAltq,sAlt.length,sAltk⟩ ⟨none,0,0⟩ ⟨sTabsq,sTabs.length,sTabsk⟩) 114] (zml 20 2047) rfl (D4 (v:=iv s.rows) ty3 rfl rfl 0 rfl rfl) ?_
 refine zhk 11 (zml 20 4095) rfl (A7n (cs:=I8 Sty.zero) rfl rfl (by kernel_rfl)) ?_
 have hQ:=G6 hR;clear hR;obtain ⟨y6,hy6,hR⟩:=hQ
 refine zho 12 [bx sb (A6 s ⟨sMainq,sMain.length,sMaink⟩ ⟨sAltq,sAlt.length,sAltk⟩ ⟨none,0,0⟩ ⟨sTabsq,sTabs.length,sTabsk⟩) 114] (zml 20 8191) rfl (I5 (L2:=[bx sb (A6 s ⟨sMainq,sMain.length,sMaink⟩ ⟨sAltq,sAlt.length,sAltk⟩ ⟨none,0,0⟩ ⟨sTabsq,sTabs.length,sTabsk⟩) 114]) (B2a s.cols s.rows Sty.zero y6 hy6) rfl rfl rfl rfl rfl fn0 (List.Perm.refl _) (fun ⟨⟨r1,rs2⟩,hp5⟩=>(bx sb (A6 s ⟨sMainq,sMain.length,sMaink⟩ ⟨sAltq,sAlt.length,sAltk⟩ ⟨none,0,0⟩ ⟨sTabsq,sTabs.length,sTabsk⟩) 114::(vo B7 78 r1 rs2)++([]))) (fun ⟨⟨r1,rs2⟩,hp5⟩=>H3 [vo B7 78 r1 rs2,[bx sb (A6 s ⟨sMainq,sMain.length,sMaink⟩ ⟨sAltq,sAlt.length,sAltk⟩ ⟨none,0,0⟩ ⟨sTabsq,sTabs.length,sTabsk⟩) 114]] [1,0] 2 rfl (by decide) (by first|rfl|simp only [List.flatten_cons,List.flatten_nil,List.append_nil,List.cons_append,List.nil_append,List.append_assoc]) [[bx sb (A6 s ⟨sMainq,sMain.length,sMaink⟩ ⟨sAltq,sAlt.length,sAltk⟩ ⟨none,0,0⟩ ⟨sTabsq,sTabs.length,sTabsk⟩) 114],vo B7 78 r1 rs2] rfl (by first|rfl|simp only [List.flatten_cons,List.flatten_nil,List.append_nil,List.cons_append,List.nil_append,List.append_assoc]))) (fun ⟨⟨r1,rs2⟩,hp5⟩=>(mc [[bx sb (A6 s ⟨sMainq,sMain.length,sMaink⟩ ⟨sAltq,sAlt.length,sAltk⟩ ⟨none,0,0⟩ ⟨sTabsq,sTabs.length,sTabsk⟩) 114],vo B7 78 r1 rs2] [true,false] rfl (by first|rfl|(simp only [List.length_set]<;>rfl)))) (fun ⟨⟨r1,rs2⟩,hp5⟩=>(A2.pick [1,2,3,4,5] rfl)) fun ⟨⟨r1,rs2⟩,hp5⟩=>?_
 try dsimp only at hp5
 obtain ⟨hk3,hw4⟩:=hp5
 have:=VOk.le hk3
 have:=VOk.cap hk3
 have:=hw4.1
 refine zhp [13,14,15,16,17,18] 1 (zml 20 524287) [(16,.slice (va r1.q) y6.1.length r1.k),(20,pt sb 3)] ?_
 refine zho 19 [] (zml 20 1048575) rfl (N3 (us:=[.slice (va r1.q) y6.1.length r1.k]) (cs':=A6 s ⟨sMainq,sMain.length,sMaink⟩ ⟨va r1.q,y6.1.length,r1.k⟩ ⟨none,0,0⟩ ⟨sTabsq,sTabs.length,sTabsk⟩) D6l rfl rfl rfl 0 rfl rfl rfl rfl rfl rfl) (fun _=>(List.nil_sublist _)) (fun _=>(A2.pick [1,2,3,4,5] rfl)) fun _=>?_
 refine B3c (by kernel_rfl) ?_
 subst hR
 exact zen hr hD (B0s rfl) ⟨(r1,rs2),⟨hk3,hw4⟩⟩ (mc [[bx sb (A6 s ⟨sMainq,sMain.length,sMaink⟩ ⟨va r1.q,y6.1.length,r1.k⟩ ⟨none,0,0⟩ ⟨sTabsq,sTabs.length,sTabsk⟩) 114],vo B7 78 r1 rs2] [true,true] rfl (by first|rfl|(simp only [List.length_set]<;>rfl))) (A2.con1 (B5 0 rfl) fn0)
def A3u (s:ScrC) (sMain:List (Rwc Cel)) (sAlt:List (Rwc Cel)) (sTabs:List Bool):ScrC×List (Rwc Cel) :=
 (bif (true == s.onAlt) then (s,sAlt) else (F1 (A0n ({(D8 ({s with onAlt:=true}) sMain sAlt sTabs true) with cursor:={(D8 ({s with onAlt:=true}) sMain sAlt sTabs true).cursor with wrap:=false}}) sMain sAlt sTabs) fun (y5:List (Rwc Cel))=>({(D8 ({s with onAlt:=true}) sMain sAlt sTabs true) with cursor:={(D8 ({s with onAlt:=true}) sMain sAlt sTabs true).cursor with wrap:=false}},y5)))
theorem B1w (s:ScrC) (sMain:List (Rwc Cel)) (sAlt:List (Rwc Cel)) (sTabs:List Bool) (sb:Nat) (sMainq:Option Addr) (sMainrs:List Rwq) (sMaink:Nat) (sAltq:Option Addr) (sAltrs:List Rwq) (sAltk:Nat) (sTabsq:Option Addr) (sTabsk:Nat) (hrowssMainrs:D0 sMainrs sMain) (hlsMain:sMain.length≤9223372036854775807) (hcsMain:sMain.length≤sMaink) (hrowssAltrs:D0 sAltrs sAlt) (hlsAlt:sAlt.length≤9223372036854775807) (hcsAlt:sAlt.length≤sAltk) (hlsTabs:sTabs.length≤9223372036854775807) (hcsTabs:sTabs.length≤sTabsk) (R:ScrC×List (Rwc Cel)) (hR:A3u s sMain sAlt sTabs=R):Con Tryz.prog 237 [pt sb 0,ag (H0 (⟨37,1049,1,Col.zero,[]⟩:Act))] [bx sb (A6 s ⟨sMainq,sMain.length,sMaink⟩ ⟨sAltq,sAlt.length,sAltk⟩ ⟨none,0,0⟩ ⟨sTabsq,sTabs.length,sTabsk⟩) 114] [sl B7 sMainq sMainrs,B8 B2 sMainrs sMain,sl B7 sAltq sAltrs,B8 B2 sAltrs sAlt,sl F4 sTabsq sTabs] ({t:Option Addr×List Rwq×Nat // D0 t.2.1 R.2∧R.2.length≤t.2.2∧R.2.length≤9223372036854775807}) (fun x=>.tuple #[]) (fun x=>[bx sb (A6 R.1 ⟨sMainq,sMain.length,sMaink⟩ ⟨x.1.1,R.2.length,x.1.2.2⟩ ⟨none,0,0⟩ ⟨sTabsq,sTabs.length,sTabsk⟩) 114]) (fun x=>[sl B7 x.1.1 x.1.2.1,B8 B2 x.1.2.1 R.2]):=by
 refine zco Tryz.func237 [(0,pt sb 0),(1,ag (H0 (⟨37,1049,1,Col.zero,[]⟩:Act)))] fun X hX hr hD=>?_
 replace hR:=(A3u.eq_1 ..).symm.trans hR
 have:=hrowssMainrs.1
 have:=hrowssAltrs.1
 refine sr 1 rfl (I7 1 0 [] (fun b1=>[(3,pt b1 0)]) (fun b1=>[bx b1 (H0 (⟨37,1049,1,Col.zero,[]⟩:Act)) 81,bx sb (A6 s ⟨sMainq,sMain.length,sMaink⟩ ⟨sAltq,sAlt.length,sAltk⟩ ⟨none,0,0⟩ ⟨sTabsq,sTabs.length,sTabsk⟩) 114]) (fun b1=>?_))
 refine ie (sr 4 rfl (zrl 4 0 [0] [(4,bv true)] ?_))
 refine ie (sr 2 rfl (zrl 2 0 [0] [(9,iv 1049)] ?_))
 refine ie (B0 (sr 2 rfl (ip' 2 0 [(40,bv false)] ?_)))
 refine ie (A0m rfl (sr 2 rfl (ip' 2 0 [(58,bv false)] ?_)))
 refine ie (A0m rfl (sr 2 rfl (ip' 2 0 [(65,bv false)] ?_)))
 refine ie (A0m rfl (sr 2 rfl (ip' 2 0 [(74,bv true)] ?_)))
 refine ie (H8 rfl (A3 (sr 7 rfl (zrl 6 1 [1] [(76,bv true),(81,bv s.onAlt)] ?_))))
 refine ix rfl (C5p Tryz.underlying4 rfl rfl rfl) ?_
 refine ie ?_
 refine zjb rfl hR ?_ ?_<;>clear hR<;>intro hR h2
 ·subst hR
  refine A7 ?_
  exact zer hr hD (B0s rfl) ⟨(sAltq,sAltrs,sAltk),⟨hrowssAltrs,(by first|omega|(simp only [List.length_take,List.length_drop,List.length_append,List.length_cons,List.length_nil,List.length_set,List.length_map,B3,A8,A9];omega)|decide),(by first|omega|(simp only [List.length_take,List.length_drop,List.length_append,List.length_cons,List.length_nil,List.length_set,List.length_map,B3,A8,A9];omega)|decide)⟩⟩ (mk [false,true] rfl) (A2.con1 (B5 2 rfl) (A2.con1 (B5 3 rfl) fn0))
 refine A4 (nx (sr 6 rfl (zrg 6 0 [1] [] [bx b1 (H0 (⟨37,1049,1,Col.zero,[]⟩:Act)) 81,bx sb (A6 ({s with onAlt:=true}) ⟨sMainq,sMain.length,sMaink⟩ ⟨sAltq,sAlt.length,sAltk⟩ ⟨none,0,0⟩ ⟨sTabsq,sTabs.length,sTabsk⟩) 114] ?_)))
 refine ie (sr 7 rfl (ip' 6 1 [(88,pt sb 0),(92,pt sb 39),(93,bv true)] ?_))
 refine it rfl (H2 (L2:=[bx b1 (H0 (⟨37,1049,1,Col.zero,[]⟩:Act)) 81]) (B0t ({s with onAlt:=true}) sMain sAlt sTabs true sb sMainq sMainrs sMaink sAltq sAltrs sAltk sTabsq sTabsk hrowssMainrs (by first|omega|(simp only [List.length_take,List.length_drop,List.length_append,List.length_cons,List.length_nil,List.length_set,List.length_map,B3,A8,A9];omega)|decide) (by first|omega|(simp only [List.length_take,List.length_drop,List.length_append,List.length_cons,List.length_nil,List.length_set,List.length_map,B3,A8,A9];omega)|decide) hrowssAltrs (by first|omega|(simp only [List.length_take,List.length_drop,List.length_append,List.length_cons,List.length_nil,List.length_set,List.length_map,B3,A8,A9];omega)|decide) (by first|omega|(simp only [List.length_take,List.length_drop,List.length_append,List.length_cons,List.length_nil,List.length_set,List.length_map,B3,A8,A9];omega)|decide) (by first|omega|(simp only [List.length_take,List.length_drop,List.length_append,List.length_cons,List.length_nil,List.length_set,List.length_map,B3,A8,A9];omega)|decide) (by first|omega|(simp only [List.length_take,List.length_drop,List.length_append,List.length_cons,List.length_nil,List.length_set,List.length_map,B3,A8,A9];omega)|decide) _ rfl) rfl rfl rfl rfl rfl A2.refl (H3 [[bx b1 (H0 (⟨37,1049,1,Col.zero,[]⟩:Act)) 81],[bx sb (A6 ({s with onAlt:=true}) ⟨sMainq,sMain.length,sMaink⟩ ⟨sAltq,sAlt.length,sAltk⟩ ⟨none,0,0⟩ ⟨sTabsq,sTabs.length,sTabsk⟩) 114]] [1,0] 2 rfl (by decide) rfl [[bx sb (A6 ({s with onAlt:=true}) ⟨sMainq,sMain.length,sMaink⟩ ⟨sAltq,sAlt.length,sAltk⟩ ⟨none,0,0⟩ ⟨sTabsq,sTabs.length,sTabsk⟩) 114],[bx b1 (H0 (⟨37,1049,1,Col.zero,[]⟩:Act)) 81]] rfl (by first|rfl|simp only [List.flatten_cons,List.flatten_nil,List.append_nil,List.cons_append,List.nil_append,List.append_assoc])) (fun _=>[bx sb (A6 (D8 ({s with onAlt:=true}) sMain sAlt sTabs true) ⟨sMainq,sMain.length,sMaink⟩ ⟨sAltq,sAlt.length,sAltk⟩ ⟨none,0,0⟩ ⟨sTabsq,sTabs.length,sTabsk⟩) 114,bx b1 (H0 (⟨37,1049,1,Col.zero,[]⟩:Act)) 81]) (fun _=>rfl)) fun _=>?_
 refine ie (sr 1 rfl (ip' 1 0 [(95,bv true)] ?_))
 refine ie (H8 rfl (sr 6 rfl (zrg 6 0 [0] [] [bx sb (A6 ({(D8 ({s with onAlt:=true}) sMain sAlt sTabs true) with cursor:={(D8 ({s with onAlt:=true}) sMain sAlt sTabs true).cursor with wrap:=false}}) ⟨sMainq,sMain.length,sMaink⟩ ⟨sAltq,sAlt.length,sAltk⟩ ⟨none,0,0⟩ ⟨sTabsq,sTabs.length,sTabsk⟩) 114,bx b1 (H0 (⟨37,1049,1,Col.zero,[]⟩:Act)) 81] ?_)))
 refine ie (A5 2 rfl (ip' 1 1 [(101,pt sb 0)] ?_))
 have hQ:=G6 hR;clear hR;obtain ⟨y5,hy5,hR⟩:=hQ
 refine it rfl (I5 (L2:=[bx b1 (H0 (⟨37,1049,1,Col.zero,[]⟩:Act)) 81]) (A7k ({(D8 ({s with onAlt:=true}) sMain sAlt sTabs true) with cursor:={(D8 ({s with onAlt:=true}) sMain sAlt sTabs true).cursor with wrap:=false}}) sMain sAlt sTabs sb sMainq sMainrs sMaink sAltq sAltrs sAltk sTabsq sTabsk hrowssMainrs (by first|omega|(simp only [List.length_take,List.length_drop,List.length_append,List.length_cons,List.length_nil,List.length_set,List.length_map,B3,A8,A9];omega)|decide) (by first|omega|(simp only [List.length_take,List.length_drop,List.length_append,List.length_cons,List.length_nil,List.length_set,List.length_map,B3,A8,A9];omega)|decide) hrowssAltrs (by first|omega|(simp only [List.length_take,List.length_drop,List.length_append,List.length_cons,List.length_nil,List.length_set,List.length_map,B3,A8,A9];omega)|decide) (by first|omega|(simp only [List.length_take,List.length_drop,List.length_append,List.length_cons,List.length_nil,List.length_set,List.length_map,B3,A8,A9];omega)|decide) (by first|omega|(simp only [List.length_take,List.length_drop,List.length_append,List.length_cons,List.length_nil,List.length_set,List.length_map,B3,A8,A9];omega)|decide) (by first|omega|(simp only [List.length_take,List.length_drop,List.length_append,List.length_cons,List.length_nil,List.length_set,List.length_map,B3,A8,A9];omega)|decide) y5 hy5) rfl rfl rfl rfl rfl A2.refl (H3 [[bx sb (A6 ({(D8 ({s with onAlt:=true}) sMain sAlt sTabs true) with cursor:={(D8 ({s with onAlt:=true}) sMain sAlt sTabs true).cursor with wrap:=false}}) ⟨sMainq,sMain.length,sMaink⟩ ⟨sAltq,sAlt.length,sAltk⟩ ⟨none,0,0⟩ ⟨sTabsq,sTabs.length,sTabsk⟩) 114],[bx b1 (H0 (⟨37,1049,1,Col.zero,[]⟩:Act)) 81]] [0,1] 2 rfl (by decide) rfl [[bx sb (A6 ({(D8 ({s with onAlt:=true}) sMain sAlt sTabs true) with cursor:={(D8 ({s with onAlt:=true}) sMain sAlt sTabs true).cursor with wrap:=false}}) ⟨sMainq,sMain.length,sMaink⟩ ⟨sAltq,sAlt.length,sAltk⟩ ⟨none,0,0⟩ ⟨sTabsq,sTabs.length,sTabsk⟩) 114],[bx b1 (H0 (⟨37,1049,1,Col.zero,[]⟩:Act)) 81]] rfl (by first|rfl|simp only [List.flatten_cons,List.flatten_nil,List.append_nil,List.cons_append,List.nil_append,List.append_assoc])) (fun ⟨⟨r3,rs4⟩,hp7⟩=>(bx sb (A6 ({(D8 ({s with onAlt:=true}) sMain sAlt sTabs true) with cursor:={(D8 ({s with onAlt:=true}) sMain sAlt sTabs true).cursor with wrap:=false}}) ⟨sMainq,sMain.length,sMaink⟩ ⟨va r3.q,y5.length,r3.k⟩ ⟨none,0,0⟩ ⟨sTabsq,sTabs.length,sTabsk⟩) 114::bx b1 (H0 (⟨37,1049,1,Col.zero,[]⟩:Act)) 81::(vo B7 78 r3 rs4)++([]))) (fun ⟨⟨r3,rs4⟩,hp7⟩=>H3 [[bx sb (A6 ({(D8 ({s with onAlt:=true}) sMain sAlt sTabs true) with cursor:={(D8 ({s with onAlt:=true}) sMain sAlt sTabs true).cursor with wrap:=false}}) ⟨sMainq,sMain.length,sMaink⟩ ⟨va r3.q,y5.length,r3.k⟩ ⟨none,0,0⟩ ⟨sTabsq,sTabs.length,sTabsk⟩) 114],vo B7 78 r3 rs4,[bx b1 (H0 (⟨37,1049,1,Col.zero,[]⟩:Act)) 81]] [0,2,1] 3 rfl (by decide) (by first|rfl|simp only [List.flatten_cons,List.flatten_nil,List.append_nil,List.cons_append,List.nil_append,List.append_assoc]) [[bx sb (A6 ({(D8 ({s with onAlt:=true}) sMain sAlt sTabs true) with cursor:={(D8 ({s with onAlt:=true}) sMain sAlt sTabs true).cursor with wrap:=false}}) ⟨sMainq,sMain.length,sMaink⟩ ⟨va r3.q,y5.length,r3.k⟩ ⟨none,0,0⟩ ⟨sTabsq,sTabs.length,sTabsk⟩) 114],[bx b1 (H0 (⟨37,1049,1,Col.zero,[]⟩:Act)) 81],vo B7 78 r3 rs4] rfl (by first|rfl|simp only [List.flatten_cons,List.flatten_nil,List.append_nil,List.cons_append,List.nil_append,List.append_assoc]))) fun ⟨⟨r3,rs4⟩,hp7⟩=>?_
 try dsimp only at hp7
 obtain ⟨hk5,hw6⟩:=hp7
 have:=VOk.le hk5
 have:=VOk.cap hk5
 have:=hw6.1
 refine A1 ?_
 have:=VOk.le hk5
 have:=VOk.cap hk5
 have:=hw6.1
 refine C0c [bx sb (A6 ({(D8 ({s with onAlt:=true}) sMain sAlt sTabs true) with cursor:={(D8 ({s with onAlt:=true}) sMain sAlt sTabs true).cursor with wrap:=false}}) ⟨sMainq,sMain.length,sMaink⟩ ⟨va r3.q,y5.length,r3.k⟩ ⟨none,0,0⟩ ⟨sTabsq,sTabs.length,sTabsk⟩) 114,bx b1 (H0 (⟨37,1049,1,Col.zero,[]⟩:Act)) 81] [] (T:=78) (c:=B7) (r:=r3) (xs:=rs4) (VOk.cast hk5 (by rw [hw6.1])) (by first|rfl|simp only [List.cons_append,List.append_assoc,List.nil_append,List.append_nil]) ?_
 subst hR
 exact zen hr hD (B0s rfl) ⟨(va r3.q,rs4,r3.k),⟨hw6,(by first|omega|(simp only [List.length_take,List.length_drop,List.length_append,List.length_cons,List.length_nil,List.length_set,List.length_map,B3,A8,A9];omega)|decide),(by first|omega|(simp only [List.length_take,List.length_drop,List.length_append,List.length_cons,List.length_nil,List.length_set,List.length_map,B3,A8,A9];omega)|decide)⟩⟩ (mk [true,false] rfl) (A2.con1 (B5 0 rfl) (A2.con1 (B5 1 rfl) fn0))
def B1y (s:ScrC) (sMain:List (Rwc Cel)) (sAlt:List (Rwc Cel)) (sTabs:List Bool):ScrC×List (Rwc Cel)×List (Rwc Cel)×List Bool×Int :=
 (bif (!decide ((K7 s sMain sAlt sTabs)=0)) then (ScrC.zero,([]:List (Rwc Cel)),([]:List (Rwc Cel)),([]:List Bool),(K7 s sMain sAlt sTabs)) else (bif (!decide ((Y7 1049 1 Col.zero [])=0)) then (ScrC.zero,([]:List (Rwc Cel)),([]:List (Rwc Cel)),([]:List Bool),(Y7 1049 1 Col.zero [])) else (F1 (A3u ({s with last:=0}) sMain sAlt sTabs) fun (y4:ScrC×List (Rwc Cel))=>(y4.1,sMain,y4.2,sTabs,0))))
theorem C1s (s:ScrC) (sMain:List (Rwc Cel)) (sAlt:List (Rwc Cel)) (sTabs:List Bool) (sMainq:Option Addr) (sMainrs:List Rwq) (sMaink:Nat) (sAltq:Option Addr) (sAltrs:List Rwq) (sAltk:Nat) (sTabsq:Option Addr) (sTabsk:Nat) (lq:Option Addr) (hrowssMainrs:D0 sMainrs sMain) (hlsMain:sMain.length≤9223372036854775807) (hcsMain:sMain.length≤sMaink) (hrowssAltrs:D0 sAltrs sAlt) (hlsAlt:sAlt.length≤9223372036854775807) (hcsAlt:sAlt.length≤sAltk) (hlsTabs:sTabs.length≤9223372036854775807) (hcsTabs:sTabs.length≤sTabsk) (hTs:s.title.length≤100000000) (R:ScrC×List (Rwc Cel)×List (Rwc Cel)×List Bool×Int) (hR:B1y s sMain sAlt sTabs=R):Con Tryz.prog 86 [ag (A6 s ⟨sMainq,sMain.length,sMaink⟩ ⟨sAltq,sAlt.length,sAltk⟩ ⟨none,0,0⟩ ⟨sTabsq,sTabs.length,sTabsk⟩),.slice lq 1 1] [] [sl B7 sMainq sMainrs,B8 B2 sMainrs sMain,sl B7 sAltq sAltrs,B8 B2 sAltrs sAlt,sl F4 sTabsq sTabs,sl H0 lq ([(⟨37,1049,1,Col.zero,[]⟩:Act)]:List Act),A0z,A1a] ({t:Option Addr×List Rwq×Nat // D0 t.2.1 R.2.1∧R.2.1.length≤t.2.2∧R.2.1.length≤9223372036854775807}×{t:Option Addr×List Rwq×Nat // D0 t.2.1 R.2.2.1∧R.2.2.1.length≤t.2.2∧R.2.2.1.length≤9223372036854775807}×{t:Option Addr×Nat // R.2.2.2.1.length≤t.2∧R.2.2.2.1.length≤9223372036854775807}) (fun x=>.tuple #[ag (A6 R.1 ⟨x.1.1.1,R.2.1.length,x.1.1.2.2⟩ ⟨x.2.1.1.1,R.2.2.1.length,x.2.1.1.2.2⟩ ⟨none,0,0⟩ ⟨x.2.2.1.1,R.2.2.2.1.length,x.2.2.1.2⟩),iv R.2.2.2.2]) (fun x=>[]) (fun x=>[sl B7 x.1.1.1 x.1.1.2.1,B8 B2 x.1.1.2.1 R.2.1,sl B7 x.2.1.1.1 x.2.1.1.2.1,B8 B2 x.2.1.1.2.1 R.2.2.1,sl F4 x.2.2.1.1 R.2.2.2.1]):=by
 refine zco Tryz.func86 [(0,ag (A6 s ⟨sMainq,sMain.length,sMaink⟩ ⟨sAltq,sAlt.length,sAltk⟩ ⟨none,0,0⟩ ⟨sTabsq,sTabs.length,sTabsk⟩)),(1,.slice lq 1 1)] fun X hX hr hD=>?_
 replace hR:=(B1y.eq_1 ..).symm.trans hR
 have:=hrowssMainrs.1
 have:=hrowssAltrs.1
 refine sr 3 rfl (A8y 3 0 [] (fun b1 b2=>[(2,pt b1 0),(4,pt b2 0)]) (fun b1 b2=>[bx b2 (A6 ScrC.zero ⟨none,0,0⟩ ⟨none,0,0⟩ ⟨none,0,0⟩ ⟨none,0,0⟩) 52,bx b1 (A6 s ⟨sMainq,sMain.length,sMaink⟩ ⟨sAltq,sAlt.length,sAltk⟩ ⟨none,0,0⟩ ⟨sTabsq,sTabs.length,sTabsk⟩) 52]) (fun b1 b2=>?_))
 refine ie (A3 (sr 3 rfl (zrl 1 2 [1] [(16,ag (A6 s ⟨sMainq,sMain.length,sMaink⟩ ⟨sAltq,sAlt.length,sAltk⟩ ⟨none,0,0⟩ ⟨sTabsq,sTabs.length,sTabsk⟩))] ?_)))
 refine zca (A8w s sMain sAlt sTabs sMainq sMainrs sMaink sAltq sAltrs sAltk sTabsq sTabsk hrowssMainrs (by first|omega|(simp only [List.length_take,List.length_drop,List.length_append,List.length_cons,List.length_nil,List.length_set,List.length_map,B3,A8,A9];omega)|decide) (by first|omega|(simp only [List.length_take,List.length_drop,List.length_append,List.length_cons,List.length_nil,List.length_set,List.length_map,B3,A8,A9];omega)|decide) hrowssAltrs (by first|omega|(simp only [List.length_take,List.length_drop,List.length_append,List.length_cons,List.length_nil,List.length_set,List.length_map,B3,A8,A9];omega)|decide) (by first|omega|(simp only [List.length_take,List.length_drop,List.length_append,List.length_cons,List.length_nil,List.length_set,List.length_map,B3,A8,A9];omega)|decide) (by first|omega|(simp only [List.length_take,List.length_drop,List.length_append,List.length_cons,List.length_nil,List.length_set,List.length_map,B3,A8,A9];omega)|decide) (by first|omega|(simp only [List.length_take,List.length_drop,List.length_append,List.length_cons,List.length_nil,List.length_set,List.length_map,B3,A8,A9];omega)|decide) (by first|omega|(simp only [List.length_nil];omega)|(dsimp only;omega)) _ rfl) (A2.pick [0,1,2,3,4,6,7] rfl) ?_
 refine ip' 1 0 [(6,iv (K7 s sMain sAlt sTabs))] ?_
 refine ie (sr 2 rfl (ip' 2 0 [(19,bv (!decide ((K7 s sMain sAlt sTabs)=0)))] ?_))
 refine ie ?_
 refine zjn rfl hR ?_ ?_<;>clear hR<;>intro hR h3 h3p
 ·refine sr 4 rfl (zrg 4 0 [0] [(5,iv (K7 s sMain sAlt sTabs))] [bx b2 (A6 ScrC.zero ⟨none,0,0⟩ ⟨none,0,0⟩ ⟨none,0,0⟩ ⟨none,0,0⟩) 52,bx b1 (A6 s ⟨sMainq,sMain.length,sMaink⟩ ⟨sAltq,sAlt.length,sAltk⟩ ⟨none,0,0⟩ ⟨sTabsq,sTabs.length,sTabsk⟩) 52] ?_)
  subst hR
  refine ie (A7 ?_)
  exact zer hr hD (V5 rfl (A1s (us:=A6 ScrC.zero ⟨none,0,0⟩ ⟨none,0,0⟩ ⟨none,0,0⟩ ⟨none,0,0⟩) B5d rfl 0 rfl rfl) (B1 rfl)) (⟨(none,[],0),⟨D0.none,(by first|omega|(simp only [List.length_take,List.length_drop,List.length_append,List.length_cons,List.length_nil,List.length_set,List.length_map,B3,A8,A9];omega)|decide),(by first|omega|(simp only [List.length_take,List.length_drop,List.length_append,List.length_cons,List.length_nil,List.length_set,List.length_map,B3,A8,A9];omega)|decide)⟩⟩,⟨(none,[],0),⟨D0.none,(by first|omega|(simp only [List.length_take,List.length_drop,List.length_append,List.length_cons,List.length_nil,List.length_set,List.length_map,B3,A8,A9];omega)|decide),(by first|omega|(simp only [List.length_take,List.length_drop,List.length_append,List.length_cons,List.length_nil,List.length_set,List.length_map,B3,A8,A9];omega)|decide)⟩⟩,(zq none 0)) (mk [false,false] rfl) (A2.con1 P2 (A2.con1 A1o (A2.con1 P2 (A2.con1 A1o (A2.con1 P2 fn0)))))
 refine A4 (nx (A3 (sr 3 rfl (ip' 3 0 [(24,bv false)] ?_))))
 refine ie (A0m rfl (A4 (nx (A3 (sr 3 rfl (ip' 3 0 [(26,.slice lq 1 1),(27,iv 1),(28,iv 0)] ?_))))))
 refine ie (B0 (R6 3 ?_))
 refine D7 (sr 1 rfl (ip' 1 0 [(29,bv true)] ?_))
 refine ie (A3 (H8 rfl (A4 (nx (A3 (B0 (sr 4 rfl (J3 5 rfl (by first|omega|exact Nat.zero_lt_one) fun a4 hq5=>?_))))))))
 refine ix rfl (E8 C4q rfl rfl hq5 rfl 0 rfl (by first|omega|exact Nat.zero_lt_one)) ?_
 refine ix rfl (L4 (us:=H0 (⟨37,1049,1,Col.zero,[]⟩:Act)) D3o rfl rfl (G0 (c:=H0) (sz:=6) hq5 (fun _=>rfl) 5 rfl (gd Act.zero (by first|omega|exact Nat.zero_lt_one))) rfl) ?_
 refine I7 2 0 [0] (fun b6=>[(8,pt b6 0)]) (fun b6=>[bx b6 (H0 (⟨37,1049,1,Col.zero,[]⟩:Act)) 81,bx b2 (A6 ScrC.zero ⟨none,0,0⟩ ⟨none,0,0⟩ ⟨none,0,0⟩ ⟨none,0,0⟩) 52,bx b1 (A6 s ⟨sMainq,sMain.length,sMaink⟩ ⟨sAltq,sAlt.length,sAltk⟩ ⟨none,0,0⟩ ⟨sTabsq,sTabs.length,sTabsk⟩) 52]) (fun b6=>?_)
 refine ie (sr 3 rfl (zrl 1 2 [0] [(32,ag (H0 (⟨37,1049,1,Col.zero,[]⟩:Act)))] ?_))
 refine zca (B5j 1049 1 Col.zero [] (by first|omega|(simp only [List.length_nil];omega)) _ rfl) fn0 ?_
 refine ip' 1 0 [(9,iv (Y7 1049 1 Col.zero []))] ?_
 refine ie (sr 2 rfl (ip' 2 0 [(35,bv (!decide ((Y7 1049 1 Col.zero [])=0)))] ?_))
 refine ie ?_
 refine zjn rfl hR ?_ ?_<;>clear hR<;>intro hR h7 h7p
 ·refine sr 4 rfl (zrg 4 0 [1] [(5,iv (Y7 1049 1 Col.zero []))] [bx b6 (H0 (⟨37,1049,1,Col.zero,[]⟩:Act)) 81,bx b2 (A6 ScrC.zero ⟨none,0,0⟩ ⟨none,0,0⟩ ⟨none,0,0⟩ ⟨none,0,0⟩) 52,bx b1 (A6 s ⟨sMainq,sMain.length,sMaink⟩ ⟨sAltq,sAlt.length,sAltk⟩ ⟨none,0,0⟩ ⟨sTabsq,sTabs.length,sTabsk⟩) 52] ?_)
  subst hR
  refine ie (A7 ?_)
  exact zer hr hD (V5 rfl (A1s (us:=A6 ScrC.zero ⟨none,0,0⟩ ⟨none,0,0⟩ ⟨none,0,0⟩ ⟨none,0,0⟩) B5d rfl 1 rfl rfl) (B1 rfl)) (⟨(none,[],0),⟨D0.none,(by first|omega|(simp only [List.length_take,List.length_drop,List.length_append,List.length_cons,List.length_nil,List.length_set,List.length_map,B3,A8,A9];omega)|decide),(by first|omega|(simp only [List.length_take,List.length_drop,List.length_append,List.length_cons,List.length_nil,List.length_set,List.length_map,B3,A8,A9];omega)|decide)⟩⟩,⟨(none,[],0),⟨D0.none,(by first|omega|(simp only [List.length_take,List.length_drop,List.length_append,List.length_cons,List.length_nil,List.length_set,List.length_map,B3,A8,A9];omega)|decide),(by first|omega|(simp only [List.length_take,List.length_drop,List.length_append,List.length_cons,List.length_nil,List.length_set,List.length_map,B3,A8,A9];omega)|decide)⟩⟩,(zq none 0)) (mk [false,false,false] rfl) (A2.con1 P2 (A2.con1 A1o (A2.con1 P2 (A2.con1 A1o (A2.con1 P2 fn0)))))
 refine A4 (nx (A5 2 rfl (ix rfl (B4 (c:=1) rfl rfl rfl rfl (by decide)) ?_)))
 refine ip' 1 0 [(28,iv 1)] ?_
 refine A1 (D7 (sr 1 rfl (ip' 1 0 [(29,bv false)] ?_)))
 refine ie (A3 (A0m rfl (G2 (nx (sr 4 rfl (I7 4 0 [2] (fun b8=>[(10,pt b8 0)]) (fun b8=>[bx b8 (A6 s ⟨sMainq,sMain.length,sMaink⟩ ⟨sAltq,sAlt.length,sAltk⟩ ⟨none,0,0⟩ ⟨sTabsq,sTabs.length,sTabsk⟩) 114,bx b6 (H0 (⟨37,1049,1,Col.zero,[]⟩:Act)) 81,bx b2 (A6 ScrC.zero ⟨none,0,0⟩ ⟨none,0,0⟩ ⟨none,0,0⟩ ⟨none,0,0⟩) 52,bx b1 (A6 s ⟨sMainq,sMain.length,sMaink⟩ ⟨sAltq,sAlt.length,sAltk⟩ ⟨none,0,0⟩ ⟨sTabsq,sTabs.length,sTabsk⟩) 52]) (fun b8=>?_)))))))
 refine ie (sr 2 rfl (it rfl (H2 (L2:=[bx b8 (A6 s ⟨sMainq,sMain.length,sMaink⟩ ⟨sAltq,sAlt.length,sAltk⟩ ⟨none,0,0⟩ ⟨sTabsq,sTabs.length,sTabsk⟩) 114,bx b6 (H0 (⟨37,1049,1,Col.zero,[]⟩:Act)) 81,bx b2 (A6 ScrC.zero ⟨none,0,0⟩ ⟨none,0,0⟩ ⟨none,0,0⟩ ⟨none,0,0⟩) 52,bx b1 (A6 s ⟨sMainq,sMain.length,sMaink⟩ ⟨sAltq,sAlt.length,sAltk⟩ ⟨none,0,0⟩ ⟨sTabsq,sTabs.length,sTabsk⟩) 52]) (B4e _ rfl) rfl rfl rfl rfl rfl fn0 (List.Perm.refl _) (fun b9=>[(b9,.map #[⟨iv 1,.func (.func 201) #[] #[],0⟩,⟨iv 34,.func (.func 202) #[] #[],1⟩,⟨iv 3,.func (.func 203) #[] #[],2⟩,⟨iv 4,.func (.func 204) #[] #[],3⟩,⟨iv 24,.func (.func 204) #[] #[],4⟩,⟨iv 25,.func (.func 205) #[] #[],5⟩,⟨iv 6,.func (.func 206) #[] #[],6⟩,⟨iv 5,.func (.func 207) #[] #[],7⟩,⟨iv 8,.func (.func 208) #[] #[],8⟩,⟨iv 9,.func (.func 209) #[] #[],9⟩,⟨iv 11,.func (.func 210) #[] #[],10⟩,⟨iv 19,.func (.func 211) #[] #[],11⟩,⟨iv 23,.func (.func 212) #[] #[],12⟩,⟨iv 22,.func (.func 213) #[] #[],13⟩,⟨iv 20,.func (.func 214) #[] #[],14⟩,⟨iv 21,.func (.func 215) #[] #[],15⟩,⟨iv 38,.func (.func 216) #[] #[],16⟩,⟨iv 26,.func (.func 217) #[] #[],17⟩,⟨iv 27,.func (.func 218) #[] #[],18⟩,⟨iv 30,.func (.func 219) #[] #[],19⟩,⟨iv 28,.func (.func 220) #[] #[],20⟩,⟨iv 29,.func (.func 221) #[] #[],21⟩,⟨iv 31,.func (.func 222) #[] #[],22⟩,⟨iv 32,.func (.func 223) #[] #[],23⟩,⟨iv 33,.func (.func 224) #[] #[],24⟩,⟨iv 16,.func (.func 225) #[] #[],25⟩,⟨iv 15,.func (.func 226) #[] #[],26⟩,⟨iv 10,.func (.func 227) #[] #[],27⟩,⟨iv 35,.func (.func 228) #[] #[],28⟩,⟨iv 17,.func (.func 229) #[] #[],29⟩,⟨iv 7,.func (.func 230) #[] #[],30⟩,⟨iv 18,.func (.func 231) #[] #[],31⟩,⟨iv 39,.func (.func 232) #[] #[],32⟩,⟨iv 40,.func (.func 233) #[] #[],33⟩,⟨iv 44,.func (.func 234) #[] #[],34⟩,⟨iv 14,.func (.func 235) #[] #[],35⟩,⟨iv 36,.func (.func 236) #[] #[],36⟩,⟨iv 37,.func (.func 237) #[] #[],37⟩,⟨iv 12,.func (.func 238) #[] #[],38⟩,⟨iv 13,.func (.func 239) #[] #[],39⟩] 40),bx b8 (A6 s ⟨sMainq,sMain.length,sMaink⟩ ⟨sAltq,sAlt.length,sAltk⟩ ⟨none,0,0⟩ ⟨sTabsq,sTabs.length,sTabsk⟩) 114,bx b6 (H0 (⟨37,1049,1,Col.zero,[]⟩:Act)) 81,bx b2 (A6 ScrC.zero ⟨none,0,0⟩ ⟨none,0,0⟩ ⟨none,0,0⟩ ⟨none,0,0⟩) 52,bx b1 (A6 s ⟨sMainq,sMain.length,sMaink⟩ ⟨sAltq,sAlt.length,sAltk⟩ ⟨none,0,0⟩ ⟨sTabsq,sTabs.length,sTabsk⟩) 52]) (fun _=>rfl)) fun b9=>?_))
 refine ip' 1 0 [(11,.map (some b9))] ?_
 refine ie (A3 (sr 3 rfl (ip' 3 0 [(43,.slice lq 1 1),(44,iv 1),(45,iv 0)] ?_)))
 refine ie (B0 (R6 3 ?_))
 refine D7 (sr 1 rfl (ip' 1 0 [(46,bv true)] ?_))
 refine ie (A3 (H8 rfl (A4 (nx (A3 (B0 (sr 4 rfl (ix rfl (E8 C4q rfl rfl hq5 rfl 0 rfl (by first|omega|exact Nat.zero_lt_one)) ?_))))))))
 refine ix rfl (L4 (us:=H0 (⟨37,1049,1,Col.zero,[]⟩:Act)) D3o rfl rfl (G0 (c:=H0) (sz:=6) hq5 (fun _=>rfl) 5 rfl (gd Act.zero (by first|omega|exact Nat.zero_lt_one))) rfl) ?_
 refine I7 2 0 [0] (fun b10=>[(13,pt b10 0)]) (fun b10=>[bx b10 (H0 (⟨37,1049,1,Col.zero,[]⟩:Act)) 81,(b9,.map #[⟨iv 1,.func (.func 201) #[] #[],0⟩,⟨iv 34,.func (.func 202) #[] #[],1⟩,⟨iv 3,.func (.func 203) #[] #[],2⟩,⟨iv 4,.func (.func 204) #[] #[],3⟩,⟨iv 24,.func (.func 204) #[] #[],4⟩,⟨iv 25,.func (.func 205) #[] #[],5⟩,⟨iv 6,.func (.func 206) #[] #[],6⟩,⟨iv 5,.func (.func 207) #[] #[],7⟩,⟨iv 8,.func (.func 208) #[] #[],8⟩,⟨iv 9,.func (.func 209) #[] #[],9⟩,⟨iv 11,.func (.func 210) #[] #[],10⟩,⟨iv 19,.func (.func 211) #[] #[],11⟩,⟨iv 23,.func (.func 212) #[] #[],12⟩,⟨iv 22,.func (.func 213) #[] #[],13⟩,⟨iv 20,.func (.func 214) #[] #[],14⟩,⟨iv 21,.func (.func 215) #[] #[],15⟩,⟨iv 38,.func (.func 216) #[] #[],16⟩,⟨iv 26,.func (.func 217) #[] #[],17⟩,⟨iv 27,.func (.func 218) #[] #[],18⟩,⟨iv 30,.func (.func 219) #[] #[],19⟩,⟨iv 28,.func (.func 220) #[] #[],20⟩,⟨iv 29,.func (.func 221) #[] #[],21⟩,⟨iv 31,.func (.func 222) #[] #[],22⟩,⟨iv 32,.func (.func 223) #[] #[],23⟩,⟨iv 33,.func (.func 224) #[] #[],24⟩,⟨iv 16,.func (.func 225) #[] #[],25⟩,⟨iv 15,.func (.func 226) #[] #[],26⟩,⟨iv 10,.func (.func 227) #[] #[],27⟩,⟨iv 35,.func (.func 228) #[] #[],28⟩,⟨iv 17,.func (.func 229) #[] #[],29⟩,⟨iv 7,.func (.func 230) #[] #[],30⟩,⟨iv 18,.func (.func 231) #[] #[],31⟩,⟨iv 39,.func (.func 232) #[] #[],32⟩,⟨iv 40,.func (.func 233) #[] #[],33⟩,⟨iv 44,.func (.func 234) #[] #[],34⟩,⟨iv 14,.func (.func 235) #[] #[],35⟩,⟨iv 36,.func (.func 236) #[] #[],36⟩,⟨iv 37,.func (.func 237) #[] #[],37⟩,⟨iv 12,.func (.func 238) #[] #[],38⟩,⟨iv 13,.func (.func 239) #[] #[],39⟩] 40),bx b8 (A6 s ⟨sMainq,sMain.length,sMaink⟩ ⟨sAltq,sAlt.length,sAltk⟩ ⟨none,0,0⟩ ⟨sTabsq,sTabs.length,sTabsk⟩) 114,bx b6 (H0 (⟨37,1049,1,Col.zero,[]⟩:Act)) 81,bx b2 (A6 ScrC.zero ⟨none,0,0⟩ ⟨none,0,0⟩ ⟨none,0,0⟩ ⟨none,0,0⟩) 52,bx b1 (A6 s ⟨sMainq,sMain.length,sMaink⟩ ⟨sAltq,sAlt.length,sAltk⟩ ⟨none,0,0⟩ ⟨sTabsq,sTabs.length,sTabsk⟩) 52]) (fun b10=>?_)
 refine ie (A3 (sr 4 rfl (zrl 2 2 [0] [(50,iv 37)] ?_)))
 refine zca (B3v false (by decide +kernel)) fn0 ?_
 refine ip' 1 0 [(52,bv true)] ?_
 refine ie (H8 rfl (A5 5 rfl (ip' 4 1 [(56,pt b8 79)] ?_)))
 refine it rfl (N3 (us:=[iv 0]) (cs':=A6 ({s with last:=0}) ⟨sMainq,sMain.length,sMaink⟩ ⟨sAltq,sAlt.length,sAltk⟩ ⟨none,0,0⟩ ⟨sTabsq,sTabs.length,sTabsk⟩) ty3 rfl rfl rfl 2 rfl rfl rfl rfl rfl rfl) fun _=>?_
 refine A1 (nx (A3 (sr 3 rfl (zrl 1 2 [0] [(57,ag (H0 (⟨37,1049,1,Col.zero,[]⟩:Act)))] ?_))))
 refine zca (B1i true (by decide +kernel)) fn0 ?_
 refine ip' 1 0 [(59,bv false)] ?_
 refine ie (A0m rfl (A4 (nx (sr 9 rfl (zrl 3 6 [0] [(66,.map (some b9)),(68,iv 37)] ?_)))))
 refine ix rfl (A5r (v:=.func (.func 237) #[] #[]) (j:=37) C8c rfl rfl rfl 1 rfl (by kernel_rfl)) ?_
 refine ip' 5 0 [(14,.func (.func 237) #[] #[]),(15,bv true)] ?_
 refine ie (sr 1 rfl (ip' 1 0 [(72,bv true)] ?_))
 refine ie (H8 rfl (A5 4 rfl (zrl 3 1 [0] [(73,.func (.func 237) #[] #[]),(74,pt b8 0),(75,ag (H0 (⟨37,1049,1,Col.zero,[]⟩:Act)))] ?_)))
 have hQ:=G6 hR;clear hR;obtain ⟨y4,hy4,hR⟩:=hQ
 refine it rfl (H2 (L2:=[bx b10 (H0 (⟨37,1049,1,Col.zero,[]⟩:Act)) 81,(b9,.map #[⟨iv 1,.func (.func 201) #[] #[],0⟩,⟨iv 34,.func (.func 202) #[] #[],1⟩,⟨iv 3,.func (.func 203) #[] #[],2⟩,⟨iv 4,.func (.func 204) #[] #[],3⟩,⟨iv 24,.func (.func 204) #[] #[],4⟩,⟨iv 25,.func (.func 205) #[] #[],5⟩,⟨iv 6,.func (.func 206) #[] #[],6⟩,⟨iv 5,.func (.func 207) #[] #[],7⟩,⟨iv 8,.func (.func 208) #[] #[],8⟩,⟨iv 9,.func (.func 209) #[] #[],9⟩,⟨iv 11,.func (.func 210) #[] #[],10⟩,⟨iv 19,.func (.func 211) #[] #[],11⟩,⟨iv 23,.func (.func 212) #[] #[],12⟩,⟨iv 22,.func (.func 213) #[] #[],13⟩,⟨iv 20,.func (.func 214) #[] #[],14⟩,⟨iv 21,.func (.func 215) #[] #[],15⟩,⟨iv 38,.func (.func 216) #[] #[],16⟩,⟨iv 26,.func (.func 217) #[] #[],17⟩,⟨iv 27,.func (.func 218) #[] #[],18⟩,⟨iv 30,.func (.func 219) #[] #[],19⟩,⟨iv 28,.func (.func 220) #[] #[],20⟩,⟨iv 29,.func (.func 221) #[] #[],21⟩,⟨iv 31,.func (.func 222) #[] #[],22⟩,⟨iv 32,.func (.func 223) #[] #[],23⟩,⟨iv 33,.func (.func 224) #[] #[],24⟩,⟨iv 16,.func (.func 225) #[] #[],25⟩,⟨iv 15,.func (.func 226) #[] #[],26⟩,⟨iv 10,.func (.func 227) #[] #[],27⟩,⟨iv 35,.func (.func 228) #[] #[],28⟩,⟨iv 17,.func (.func 229) #[] #[],29⟩,⟨iv 7,.func (.func 230) #[] #[],30⟩,⟨iv 18,.func (.func 231) #[] #[],31⟩,⟨iv 39,.func (.func 232) #[] #[],32⟩,⟨iv 40,.func (.func 233) #[] #[],33⟩,⟨iv 44,.func (.func 234) #[] #[],34⟩,⟨iv 14,.func (.func 235) #[] #[],35⟩,⟨iv 36,.func (.func 236) #[] #[],36⟩,⟨iv 37,.func (.func 237) #[] #[],37⟩,⟨iv 12,.func (.func 238) #[] #[],38⟩,⟨iv 13,.func (.func 239) #[] #[],39⟩] 40),bx b6 (H0 (⟨37,1049,1,Col.zero,[]⟩:Act)) 81,bx b2 (A6 ScrC.zero ⟨none,0,0⟩ ⟨none,0,0⟩ ⟨none,0,0⟩ ⟨none,0,0⟩) 52,bx b1 (A6 s ⟨sMainq,sMain.length,sMaink⟩ ⟨sAltq,sAlt.length,sAltk⟩ ⟨none,0,0⟩ ⟨sTabsq,sTabs.length,sTabsk⟩) 52]) (B1w ({s with last:=0}) sMain sAlt sTabs b8 sMainq sMainrs sMaink sAltq sAltrs sAltk sTabsq sTabsk hrowssMainrs (by first|omega|(simp only [List.length_take,List.length_drop,List.length_append,List.length_cons,List.length_nil,List.length_set,List.length_map,B3,A8,A9];omega)|decide) (by first|omega|(simp only [List.length_take,List.length_drop,List.length_append,List.length_cons,List.length_nil,List.length_set,List.length_map,B3,A8,A9];omega)|decide) hrowssAltrs (by first|omega|(simp only [List.length_take,List.length_drop,List.length_append,List.length_cons,List.length_nil,List.length_set,List.length_map,B3,A8,A9];omega)|decide) (by first|omega|(simp only [List.length_take,List.length_drop,List.length_append,List.length_cons,List.length_nil,List.length_set,List.length_map,B3,A8,A9];omega)|decide) (by first|omega|(simp only [List.length_take,List.length_drop,List.length_append,List.length_cons,List.length_nil,List.length_set,List.length_map,B3,A8,A9];omega)|decide) (by first|omega|(simp only [List.length_take,List.length_drop,List.length_append,List.length_cons,List.length_nil,List.length_set,List.length_map,B3,A8,A9];omega)|decide) y4 hy4) rfl rfl rfl rfl rfl (A2.pick [0,1,2,3,4] rfl) (H3 [[bx b10 (H0 (⟨37,1049,1,Col.zero,[]⟩:Act)) 81],[(b9,.map #[⟨iv 1,.func (.func 201) #[] #[],0⟩,⟨iv 34,.func (.func 202) #[] #[],1⟩,⟨iv 3,.func (.func 203) #[] #[],2⟩,⟨iv 4,.func (.func 204) #[] #[],3⟩,⟨iv 24,.func (.func 204) #[] #[],4⟩,⟨iv 25,.func (.func 205) #[] #[],5⟩,⟨iv 6,.func (.func 206) #[] #[],6⟩,⟨iv 5,.func (.func 207) #[] #[],7⟩,⟨iv 8,.func (.func 208) #[] #[],8⟩,⟨iv 9,.func (.func 209) #[] #[],9⟩,⟨iv 11,.func (.func 210) #[] #[],10⟩,⟨iv 19,.func (.func 211) #[] #[],11⟩,⟨iv 23,.func (.func 212) #[] #[],12⟩,⟨iv 22,.func (.func 213) #[] #[],13⟩,⟨iv 20,.func (.func 214) #[] #[],14⟩,⟨iv 21,.func (.func 215) #[] #[],15⟩,⟨iv 38,.func (.func 216) #[] #[],16⟩,⟨iv 26,.func (.func 217) #[] #[],17⟩,⟨iv 27,.func (.func 218) #[] #[],18⟩,⟨iv 30,.func (.func 219) #[] #[],19⟩,⟨iv 28,.func (.func 220) #[] #[],20⟩,⟨iv 29,.func (.func 221) #[] #[],21⟩,⟨iv 31,.func (.func 222) #[] #[],22⟩,⟨iv 32,.func (.func 223) #[] #[],23⟩,⟨iv 33,.func (.func 224) #[] #[],24⟩,⟨iv 16,.func (.func 225) #[] #[],25⟩,⟨iv 15,.func (.func 226) #[] #[],26⟩,⟨iv 10,.func (.func 227) #[] #[],27⟩,⟨iv 35,.func (.func 228) #[] #[],28⟩,⟨iv 17,.func (.func 229) #[] #[],29⟩,⟨iv 7,.func (.func 230) #[] #[],30⟩,⟨iv 18,.func (.func 231) #[] #[],31⟩,⟨iv 39,.func (.func 232) #[] #[],32⟩,⟨iv 40,.func (.func 233) #[] #[],33⟩,⟨iv 44,.func (.func 234) #[] #[],34⟩,⟨iv 14,.func (.func 235) #[] #[],35⟩,⟨iv 36,.func (.func 236) #[] #[],36⟩,⟨iv 37,.func (.func 237) #[] #[],37⟩,⟨iv 12,.func (.func 238) #[] #[],38⟩,⟨iv 13,.func (.func 239) #[] #[],39⟩] 40)],[bx b8 (A6 ({s with last:=0}) ⟨sMainq,sMain.length,sMaink⟩ ⟨sAltq,sAlt.length,sAltk⟩ ⟨none,0,0⟩ ⟨sTabsq,sTabs.length,sTabsk⟩) 114],[bx b6 (H0 (⟨37,1049,1,Col.zero,[]⟩:Act)) 81],[bx b2 (A6 ScrC.zero ⟨none,0,0⟩ ⟨none,0,0⟩ ⟨none,0,0⟩ ⟨none,0,0⟩) 52],[bx b1 (A6 s ⟨sMainq,sMain.length,sMaink⟩ ⟨sAltq,sAlt.length,sAltk⟩ ⟨none,0,0⟩ ⟨sTabsq,sTabs.length,sTabsk⟩) 52]] [2,0,1,3,4,5] 6 rfl (by decide) rfl [[bx b8 (A6 ({s with last:=0}) ⟨sMainq,sMain.length,sMaink⟩ ⟨sAltq,sAlt.length,sAltk⟩ ⟨none,0,0⟩ ⟨sTabsq,sTabs.length,sTabsk⟩) 114],[bx b10 (H0 (⟨37,1049,1,Col.zero,[]⟩:Act)) 81],[(b9,.map #[⟨iv 1,.func (.func 201) #[] #[],0⟩,⟨iv 34,.func (.func 202) #[] #[],1⟩,⟨iv 3,.func (.func 203) #[] #[],2⟩,⟨iv 4,.func (.func 204) #[] #[],3⟩,⟨iv 24,.func (.func 204) #[] #[],4⟩,⟨iv 25,.func (.func 205) #[] #[],5⟩,⟨iv 6,.func (.func 206) #[] #[],6⟩,⟨iv 5,.func (.func 207) #[] #[],7⟩,⟨iv 8,.func (.func 208) #[] #[],8⟩,⟨iv 9,.func (.func 209) #[] #[],9⟩,⟨iv 11,.func (.func 210) #[] #[],10⟩,⟨iv 19,.func (.func 211) #[] #[],11⟩,⟨iv 23,.func (.func 212) #[] #[],12⟩,⟨iv 22,.func (.func 213) #[] #[],13⟩,⟨iv 20,.func (.func 214) #[] #[],14⟩,⟨iv 21,.func (.func 215) #[] #[],15⟩,⟨iv 38,.func (.func 216) #[] #[],16⟩,⟨iv 26,.func (.func 217) #[] #[],17⟩,⟨iv 27,.func (.func 218) #[] #[],18⟩,⟨iv 30,.func (.func 219) #[] #[],19⟩,⟨iv 28,.func (.func 220) #[] #[],20⟩,⟨iv 29,.func (.func 221) #[] #[],21⟩,⟨iv 31,.func (.func 222) #[] #[],22⟩,⟨iv 32,.func (.func 223) #[] #[],23⟩,⟨iv 33,.func (.func 224) #[] #[],24⟩,⟨iv 16,.func (.func 225) #[] #[],25⟩,⟨iv 15,.func (.func 226) #[] #[],26⟩,⟨iv 10,.func (.func 227) #[] #[],27⟩,⟨iv 35,.func (.func 228) #[] #[],28⟩,⟨iv 17,.func (.func 229) #[] #[],29⟩,⟨iv 7,.func (.func 230) #[] #[],30⟩,⟨iv 18,.func (.func 231) #[] #[],31⟩,⟨iv 39,.func (.func 232) #[] #[],32⟩,⟨iv 40,.func (.func 233) #[] #[],33⟩,⟨iv 44,.func (.func 234) #[] #[],34⟩,⟨iv 14,.func (.func 235) #[] #[],35⟩,⟨iv 36,.func (.func 236) #[] #[],36⟩,⟨iv 37,.func (.func 237) #[] #[],37⟩,⟨iv 12,.func (.func 238) #[] #[],38⟩,⟨iv 13,.func (.func 239) #[] #[],39⟩] 40)],[bx b6 (H0 (⟨37,1049,1,Col.zero,[]⟩:Act)) 81],[bx b2 (A6 ScrC.zero ⟨none,0,0⟩ ⟨none,0,0⟩ ⟨none,0,0⟩ ⟨none,0,0⟩) 52],[bx b1 (A6 s ⟨sMainq,sMain.length,sMaink⟩ ⟨sAltq,sAlt.length,sAltk⟩ ⟨none,0,0⟩ ⟨sTabsq,sTabs.length,sTabsk⟩) 52]] rfl (by first|rfl|simp only [List.flatten_cons,List.flatten_nil,List.append_nil,List.cons_append,List.nil_append,List.append_assoc])) (fun ⟨⟨q11,rs12,k13⟩,hp16⟩=>[bx b8 (A6 y4.1 ⟨sMainq,sMain.length,sMaink⟩ ⟨q11,y4.2.length,k13⟩ ⟨none,0,0⟩ ⟨sTabsq,sTabs.length,sTabsk⟩) 114,bx b10 (H0 (⟨37,1049,1,Col.zero,[]⟩:Act)) 81,(b9,.map #[⟨iv 1,.func (.func 201) #[] #[],0⟩,⟨iv 34,.func (.func 202) #[] #[],1⟩,⟨iv 3,.func (.func 203) #[] #[],2⟩,⟨iv 4,.func (.func 204) #[] #[],3⟩,⟨iv 24,.func (.func 204) #[] #[],4⟩,⟨iv 25,.func (.func 205) #[] #[],5⟩,⟨iv 6,.func (.func 206) #[] #[],6⟩,⟨iv 5,.func (.func 207) #[] #[],7⟩,⟨iv 8,.func (.func 208) #[] #[],8⟩,⟨iv 9,.func (.func 209) #[] #[],9⟩,⟨iv 11,.func (.func 210) #[] #[],10⟩,⟨iv 19,.func (.func 211) #[] #[],11⟩,⟨iv 23,.func (.func 212) #[] #[],12⟩,⟨iv 22,.func (.func 213) #[] #[],13⟩,⟨iv 20,.func (.func 214) #[] #[],14⟩,⟨iv 21,.func (.func 215) #[] #[],15⟩,⟨iv 38,.func (.func 216) #[] #[],16⟩,⟨iv 26,.func (.func 217) #[] #[],17⟩,⟨iv 27,.func (.func 218) #[] #[],18⟩,⟨iv 30,.func (.func 219) #[] #[],19⟩,⟨iv 28,.func (.func 220) #[] #[],20⟩,⟨iv 29,.func (.func 221) #[] #[],21⟩,⟨iv 31,.func (.func 222) #[] #[],22⟩,⟨iv 32,.func (.func 223) #[] #[],23⟩,⟨iv 33,.func (.func 224) #[] #[],24⟩,⟨iv 16,.func (.func 225) #[] #[],25⟩,⟨iv 15,.func (.func 226) #[] #[],26⟩,⟨iv 10,.func (.func 227) #[] #[],27⟩,⟨iv 35,.func (.func 228) #[] #[],28⟩,⟨iv 17,.func (.func 229) #[] #[],29⟩,⟨iv 7,.func (.func 230) #[] #[],30⟩,⟨iv 18,.func (.func 231) #[] #[],31⟩,⟨iv 39,.func (.func 232) #[] #[],32⟩,⟨iv 40,.func (.func 233) #[] #[],33⟩,⟨iv 44,.func (.func 234) #[] #[],34⟩,⟨iv 14,.func (.func 235) #[] #[],35⟩,⟨iv 36,.func (.func 236) #[] #[],36⟩,⟨iv 37,.func (.func 237) #[] #[],37⟩,⟨iv 12,.func (.func 238) #[] #[],38⟩,⟨iv 13,.func (.func 239) #[] #[],39⟩] 40),bx b6 (H0 (⟨37,1049,1,Col.zero,[]⟩:Act)) 81,bx b2 (A6 ScrC.zero ⟨none,0,0⟩ ⟨none,0,0⟩ ⟨none,0,0⟩ ⟨none,0,0⟩) 52,bx b1 (A6 s ⟨sMainq,sMain.length,sMaink⟩ ⟨sAltq,sAlt.length,sAltk⟩ ⟨none,0,0⟩ ⟨sTabsq,sTabs.length,sTabsk⟩) 52]) (fun _=>rfl)) fun ⟨⟨q11,rs12,k13⟩,hp16⟩=>?_
 obtain ⟨hr14,hc15,hl17⟩:=hp16
 have:=hr14.1
 refine A1 (nx (A5 2 rfl (ix rfl (B4 (c:=1) rfl rfl rfl rfl (by decide)) ?_)))
 refine ip' 1 0 [(45,iv 1)] ?_
 refine A1 (D7 (sr 1 rfl (ip' 1 0 [(46,bv false)] ?_)))
 refine ie (A3 (A0m rfl (G2 (nx (sr 6 rfl (zrl 4 2 [0] [(81,ag (A6 y4.1 ⟨sMainq,sMain.length,sMaink⟩ ⟨q11,y4.2.length,k13⟩ ⟨none,0,0⟩ ⟨sTabsq,sTabs.length,sTabsk⟩))] ?_))))))
 refine it rfl (N3 (us:=A6 y4.1 ⟨sMainq,sMain.length,sMaink⟩ ⟨q11,y4.2.length,k13⟩ ⟨none,0,0⟩ ⟨sTabsq,sTabs.length,sTabsk⟩) (cs':=A6 y4.1 ⟨sMainq,sMain.length,sMaink⟩ ⟨q11,y4.2.length,k13⟩ ⟨none,0,0⟩ ⟨sTabsq,sTabs.length,sTabsk⟩) B5d rfl rfl rfl 4 rfl rfl rfl rfl rfl rfl) fun _=>?_
 refine ip' 1 0 [(5,iv 0)] ?_
 subst hR
 refine ie (A7 ?_)
 exact zer hr hD (V5 rfl (A1s (us:=A6 y4.1 ⟨sMainq,sMain.length,sMaink⟩ ⟨q11,y4.2.length,k13⟩ ⟨none,0,0⟩ ⟨sTabsq,sTabs.length,sTabsk⟩) B5d rfl 4 rfl rfl) (B1 rfl)) (⟨(sMainq,sMainrs,sMaink),⟨hrowssMainrs,(by first|omega|(simp only [List.length_take,List.length_drop,List.length_append,List.length_cons,List.length_nil,List.length_set,List.length_map,B3,A8,A9];omega)|decide),(by first|omega|(simp only [List.length_take,List.length_drop,List.length_append,List.length_cons,List.length_nil,List.length_set,List.length_map,B3,A8,A9];omega)|decide)⟩⟩,⟨(q11,rs12,k13),⟨hr14,(by first|omega|(simp only [List.length_take,List.length_drop,List.length_append,List.length_cons,List.length_nil,List.length_set,List.length_map,B3,A8,A9];omega)|decide),(by first|omega|(simp only [List.length_take,List.length_drop,List.length_append,List.length_cons,List.length_nil,List.length_set,List.length_map,B3,A8,A9];omega)|decide)⟩⟩,(zq sTabsq sTabsk)) (mk [false,false,false,false,false,false] rfl) (A2.con1 (B5 2 rfl) (A2.con1 (B5 3 rfl) (A2.con1 (B5 0 rfl) (A2.con1 (B5 1 rfl) (A2.con1 (B5 6 rfl) fn0)))))
def B3p (s:ScrC) (sMain:List (Rwc Cel)) (sAlt:List (Rwc Cel)) (sTabs:List Bool):ScrC×List (Rwc Cel)×List (Rwc Cel)×List Bool×Int :=
 (F1 (B1y s sMain sAlt sTabs) fun (y3:ScrC×List (Rwc Cel)×List (Rwc Cel)×List Bool×Int)=>(y3.1,y3.2.1,y3.2.2.1,y3.2.2.2.1,y3.2.2.2.2))
theorem C2m (s:ScrC) (sMain:List (Rwc Cel)) (sAlt:List (Rwc Cel)) (sTabs:List Bool) (sMainq:Option Addr) (sMainrs:List Rwq) (sMaink:Nat) (sAltq:Option Addr) (sAltrs:List Rwq) (sAltk:Nat) (sTabsq:Option Addr) (sTabsk:Nat) (hrowssMainrs:D0 sMainrs sMain) (hlsMain:sMain.length≤9223372036854775807) (hcsMain:sMain.length≤sMaink) (hrowssAltrs:D0 sAltrs sAlt) (hlsAlt:sAlt.length≤9223372036854775807) (hcsAlt:sAlt.length≤sAltk) (hlsTabs:sTabs.length≤9223372036854775807) (hcsTabs:sTabs.length≤sTabsk) (hTs:s.title.length≤100000000) (R:ScrC×List (Rwc Cel)×List (Rwc Cel)×List Bool×Int) (hR:B3p s sMain sAlt sTabs=R):Con Tryz.prog 52 [ag (A6 s ⟨sMainq,sMain.length,sMaink⟩ ⟨sAltq,sAlt.length,sAltk⟩ ⟨none,0,0⟩ ⟨sTabsq,sTabs.length,sTabsk⟩),ag (H0 (⟨37,1049,1,Col.zero,[]⟩:Act))] [] [sl B7 sMainq sMainrs,B8 B2 sMainrs sMain,sl B7 sAltq sAltrs,B8 B2 sAltrs sAlt,sl F4 sTabsq sTabs,A0z,A1a] ({t:Option Addr×List Rwq×Nat // D0 t.2.1 R.2.1∧R.2.1.length≤t.2.2∧R.2.1.length≤9223372036854775807}×{t:Option Addr×List Rwq×Nat // D0 t.2.1 R.2.2.1∧R.2.2.1.length≤t.2.2∧R.2.2.1.length≤9223372036854775807}×{t:Option Addr×Nat // R.2.2.2.1.length≤t.2∧R.2.2.2.1.length≤9223372036854775807}) (fun x=>.tuple #[ag (A6 R.1 ⟨x.1.1.1,R.2.1.length,x.1.1.2.2⟩ ⟨x.2.1.1.1,R.2.2.1.length,x.2.1.1.2.2⟩ ⟨none,0,0⟩ ⟨x.2.2.1.1,R.2.2.2.1.length,x.2.2.1.2⟩),iv R.2.2.2.2]) (fun x=>[]) (fun x=>[sl B7 x.1.1.1 x.1.1.2.1,B8 B2 x.1.1.2.1 R.2.1,sl B7 x.2.1.1.1 x.2.1.1.2.1,B8 B2 x.2.1.1.2.1 R.2.2.1,sl F4 x.2.2.1.1 R.2.2.2.1]):=by
 refine zco Tryz.func52 [(0,ag (A6 s ⟨sMainq,sMain.length,sMaink⟩ ⟨sAltq,sAlt.length,sAltk⟩ ⟨none,0,0⟩ ⟨sTabsq,sTabs.length,sTabsk⟩)),(1,ag (H0 (⟨37,1049,1,Col.zero,[]⟩:Act)))] fun X hX hr hD=>?_
 replace hR:=(B3p.eq_1 ..).symm.trans hR
 have:=hrowssMainrs.1
 have:=hrowssAltrs.1
 refine sr 4 rfl (D4d 4 0 [] (fun b1 b2 b3=>[(2,pt b1 0),(3,pt b2 0),(4,pt b3 0)]) (fun b1 b2 b3=>[bx b3 (A6 ScrC.zero ⟨none,0,0⟩ ⟨none,0,0⟩ ⟨none,0,0⟩ ⟨none,0,0⟩) 52,bx b2 (H0 (⟨37,1049,1,Col.zero,[]⟩:Act)) 81,bx b1 (A6 s ⟨sMainq,sMain.length,sMaink⟩ ⟨sAltq,sAlt.length,sAltk⟩ ⟨none,0,0⟩ ⟨sTabsq,sTabs.length,sTabsk⟩) 52]) (fun b1 b2 b3=>?_))
 refine ie (sr 8 rfl (zrl 2 6 [2,1] [(6,ag (A6 s ⟨sMainq,sMain.length,sMaink⟩ ⟨sAltq,sAlt.length,sAltk⟩ ⟨none,0,0⟩ ⟨sTabsq,sTabs.length,sTabsk⟩)),(7,ag (H0 (⟨37,1049,1,Col.zero,[]⟩:Act)))] ?_))
 refine it rfl (E9 (c:=H0) (xs:=([(⟨37,1049,1,Col.zero,[]⟩:Act)]:List Act)) C4q rfl rfl rfl (by kernel_rfl)) fun b4=>?_
 have:([(⟨37,1049,1,Col.zero,[]⟩:Act)]:List Act).length=1:=rfl
 have hQ:=G6 hR;clear hR;obtain ⟨y3,hy3,hR⟩:=hQ
 refine zcm (C1s s sMain sAlt sTabs sMainq sMainrs sMaink sAltq sAltrs sAltk sTabsq sTabsk (some ⟨b4,0,none⟩) hrowssMainrs (by first|omega|(simp only [List.length_take,List.length_drop,List.length_append,List.length_cons,List.length_nil,List.length_set,List.length_map,B3,A8,A9];omega)|decide) (by first|omega|(simp only [List.length_take,List.length_drop,List.length_append,List.length_cons,List.length_nil,List.length_set,List.length_map,B3,A8,A9];omega)|decide) hrowssAltrs (by first|omega|(simp only [List.length_take,List.length_drop,List.length_append,List.length_cons,List.length_nil,List.length_set,List.length_map,B3,A8,A9];omega)|decide) (by first|omega|(simp only [List.length_take,List.length_drop,List.length_append,List.length_cons,List.length_nil,List.length_set,List.length_map,B3,A8,A9];omega)|decide) (by first|omega|(simp only [List.length_take,List.length_drop,List.length_append,List.length_cons,List.length_nil,List.length_set,List.length_map,B3,A8,A9];omega)|decide) (by first|omega|(simp only [List.length_take,List.length_drop,List.length_append,List.length_cons,List.length_nil,List.length_set,List.length_map,B3,A8,A9];omega)|decide) (by first|omega|(simp only [List.length_nil];omega)|(dsimp only;omega)) y3 hy3) (A2.pick [1,2,3,4,5,0,6,7] rfl) fun ⟨⟨⟨q5,rs6,k7⟩,hp10⟩,⟨⟨q12,rs13,k14⟩,hp17⟩,⟨⟨q19,k20⟩,hp21⟩⟩=>?_
 obtain ⟨hr8,hc9,hl11⟩:=hp10
 obtain ⟨hr15,hc16,hl18⟩:=hp17
 obtain ⟨hc22,hl23⟩:=hp21
 have:=hr8.1
 have:=hr15.1
 refine zrg 4 0 [0] [(5,iv y3.2.2.2.2)] [bx b3 (A6 y3.1 ⟨q5,y3.2.1.length,k7⟩ ⟨q12,y3.2.2.1.length,k14⟩ ⟨none,0,0⟩ ⟨q19,y3.2.2.2.1.length,k20⟩) 52,bx b2 (H0 (⟨37,1049,1,Col.zero,[]⟩:Act)) 81,bx b1 (A6 s ⟨sMainq,sMain.length,sMaink⟩ ⟨sAltq,sAlt.length,sAltk⟩ ⟨none,0,0⟩ ⟨sTabsq,sTabs.length,sTabsk⟩) 52] ?_
 subst hR
 refine ie (A7 ?_)
 exact zer hr hD (V5 rfl (A1s (us:=A6 y3.1 ⟨q5,y3.2.1.length,k7⟩ ⟨q12,y3.2.2.1.length,k14⟩ ⟨none,0,0⟩ ⟨q19,y3.2.2.2.1.length,k20⟩) B5d rfl 0 rfl rfl) (B1 rfl)) (⟨(q5,rs6,k7),⟨hr8,(by first|omega|(simp only [List.length_take,List.length_drop,List.length_append,List.length_cons,List.length_nil,List.length_set,List.length_map,B3,A8,A9];omega)|decide),(by first|omega|(simp only [List.length_take,List.length_drop,List.length_append,List.length_cons,List.length_nil,List.length_set,List.length_map,B3,A8,A9];omega)|decide)⟩⟩,⟨(q12,rs13,k14),⟨hr15,(by first|omega|(simp only [List.length_take,List.length_drop,List.length_append,List.length_cons,List.length_nil,List.length_set,List.length_map,B3,A8,A9];omega)|decide),(by first|omega|(simp only [List.length_take,List.length_drop,List.length_append,List.length_cons,List.length_nil,List.length_set,List.length_map,B3,A8,A9];omega)|decide)⟩⟩,(zq q19 k20)) (mk [false,false,false] rfl) (A2.con1 (B5 0 rfl) (A2.con1 (B5 1 rfl) (A2.con1 (B5 2 rfl) (A2.con1 (B5 3 rfl) (A2.con1 (B5 4 rfl) fn0)))))
def V8 (f:FrmC) (y1:ScrC×List (Rwc Cel)×List (Rwc Cel)×List Bool×Int):List (List Cel)→Nat→List (Rwc Cel)→(ScrC×List (Rwc Cel)×List (Rwc Cel)×List Bool×Int)
 | [],t40,sAlt=>({y1.1 with cursor:={Cur.zero with row:=f.cursor.row,col:=f.cursor.col},modes:={y1.1.modes with visible:=f.visible},shape:=f.shape,title:=f.title},y1.2.1,sAlt,y1.2.2.2.1,0)
 | hd_l0::tl_l0,t40,sAlt=>V8 f y1 tl_l0 (t40+1) (sAlt++([⟨hd_l0,false⟩]:List (Rwc Cel)))
def A4k (f:FrmC) (fR:List (List Cel)):ScrC×List (Rwc Cel)×List (Rwc Cel)×List Bool×Int :=
 (bif (!decide ((H4 f fR)=0)) then (ScrC.zero,([]:List (Rwc Cel)),([]:List (Rwc Cel)),([]:List Bool),(H4 f fR)) else (F1 (A0e f.cols (fR.length:Int)) fun (y2:ScrC×List (Rwc Cel)×List (Rwc Cel)×List Bool×Int)=>(bif (decide (y2.2.2.2.2=0)) then (F1 (B3p y2.1 y2.2.1 y2.2.2.1 y2.2.2.2.1) fun (y1:ScrC×List (Rwc Cel)×List (Rwc Cel)×List Bool×Int)=>(bif (!decide (y1.2.2.2.2=0)) then (ScrC.zero,([]:List (Rwc Cel)),([]:List (Rwc Cel)),([]:List Bool),y1.2.2.2.2) else V8 f y1 fR 0 ([]:List (Rwc Cel)))) else (ScrC.zero,([]:List (Rwc Cel)),([]:List (Rwc Cel)),([]:List Bool),y2.2.2.2.2))))
theorem B6v (f:FrmC) (d:ScrC×List (Rwc Cel)×List (Rwc Cel)×List Bool×Int):∀ (l:List (List Cel)) (t:Nat) (a:List (Rwc Cel)),(V8 f d l t a).1.title=f.title
 | [],t,a=>rfl
 | x::l,t,a=>by simp only [V8];exact B6v f d l _ _
theorem B2m (f:FrmC) (fr:List (List Cel)):(A4k f fr).1.title.length≤f.title.length:=by
 unfold A4k F1
 simp only [Bool.cond_eq_ite]
 repeat' split
 all_goals first|exact Nat.zero_le _|(rw [B6v];exact Nat.le_refl _)
theorem B7o (f:FrmC) (fR:List (List Cel)) (fQ:Option Addr) (fZ:List Slc) (fK:Nat) (hrowsfRowsrs:C7 fZ fR) (hlfRows:fR.length≤9223372036854775807) (hcfRows:fR.length≤fK) (hT:f.title.length≤100000000) (R:ScrC×List (Rwc Cel)×List (Rwc Cel)×List Bool×Int) (hR:A4k f fR=R):Con Tryz.prog 22 [ag (A0 f ⟨fQ,fR.length,fK⟩)] [] [sl C4 fQ fZ,G5 B2 fZ fR,A0z,A1a] ({t:Option Addr×List Rwq×Nat // D0 t.2.1 R.2.1∧R.2.1.length≤t.2.2∧R.2.1.length≤9223372036854775807}×{t:VR×List Rwq // VOk 2 R.2.2.1.length t.1∧D0 t.2 R.2.2.1}×{t:Option Addr×Nat // R.2.2.2.1.length≤t.2∧R.2.2.2.1.length≤9223372036854775807}) (fun x=>.tuple #[ag (A6 R.1 ⟨x.1.1.1,R.2.1.length,x.1.1.2.2⟩ ⟨va x.2.1.1.1.q,R.2.2.1.length,x.2.1.1.1.k⟩ ⟨none,0,0⟩ ⟨x.2.2.1.1,R.2.2.2.1.length,x.2.2.1.2⟩),iv R.2.2.2.2]) (fun x=>((vo B7 78 x.2.1.1.1 x.2.1.1.2)++([]))) (fun x=>[sl B7 x.1.1.1 x.1.1.2.1,B8 B2 x.1.1.2.1 R.2.1,B8 B2 x.2.1.1.2 R.2.2.1,sl F4 x.2.2.1.1 R.2.2.2.1]):=by
 refine zco Tryz.func22 [(0,ag (A0 f ⟨fQ,fR.length,fK⟩))] fun X hX hr hD=>?_
 replace hR:=(A4k.eq_1 ..).symm.trans hR
 have:=hrowsfRowsrs.1
 refine sr 3 rfl (A8y 3 0 [] (fun b1 b2=>[(1,pt b1 0),(2,pt b2 0)]) (fun b1 b2=>[bx b2 (A6 ScrC.zero ⟨none,0,0⟩ ⟨none,0,0⟩ ⟨none,0,0⟩ ⟨none,0,0⟩) 52,bx b1 (A0 f ⟨fQ,fR.length,fK⟩) 26]) (fun b1 b2=>?_))
 refine ie (A3 (sr 3 rfl (zrl 1 2 [1] [(9,ag (A0 f ⟨fQ,fR.length,fK⟩))] ?_)))
 refine zca (A3z f fR fQ fZ fK hrowsfRowsrs (by first|omega|(simp only [List.length_take,List.length_drop,List.length_append,List.length_cons,List.length_nil,List.length_set,List.length_map,B3,A8,A9];omega)|decide) (by first|omega|(simp only [List.length_take,List.length_drop,List.length_append,List.length_cons,List.length_nil,List.length_set,List.length_map,B3,A8,A9];omega)|decide) (by first|omega|(simp only [List.length_nil];omega)|(dsimp only;omega)) _ rfl) A2.refl ?_
 refine ip' 1 0 [(4,iv (H4 f fR))] ?_
 refine ie (sr 2 rfl (ip' 2 0 [(12,bv (!decide ((H4 f fR)=0)))] ?_))
 refine ie ?_
 refine zjn rfl hR ?_ ?_<;>clear hR<;>intro hR h3 h3p
 ·refine sr 4 rfl (zrg 4 0 [0] [(3,iv (H4 f fR))] [bx b2 (A6 ScrC.zero ⟨none,0,0⟩ ⟨none,0,0⟩ ⟨none,0,0⟩ ⟨none,0,0⟩) 52,bx b1 (A0 f ⟨fQ,fR.length,fK⟩) 26] ?_)
  subst hR
  refine ie (A7 ?_)
  exact zer hr hD (V5 rfl (A1s (us:=A6 ScrC.zero ⟨none,0,0⟩ ⟨none,0,0⟩ ⟨none,0,0⟩ ⟨none,0,0⟩) B5d rfl 0 rfl rfl) (B1 rfl)) (⟨(none,[],0),⟨D0.none,(by first|omega|(simp only [List.length_take,List.length_drop,List.length_append,List.length_cons,List.length_nil,List.length_set,List.length_map,B3,A8,A9];omega)|decide),(by first|omega|(simp only [List.length_take,List.length_drop,List.length_append,List.length_cons,List.length_nil,List.length_set,List.length_map,B3,A8,A9];omega)|decide)⟩⟩,⟨(VR.nil,([]:List Rwq)),⟨VOk.nil,D0.none⟩⟩,(zq none 0)) (mc [[bx b2 (A6 ScrC.zero ⟨none,0,0⟩ ⟨none,0,0⟩ ⟨none,0,0⟩ ⟨none,0,0⟩) 52],[bx b1 (A0 f ⟨fQ,fR.length,fK⟩) 26],vo B7 78 VR.nil ([]:List Rwq)] [false,false,true] rfl (by first|rfl|(simp only [List.length_set]<;>rfl))) (A2.con1 P2 (A2.con1 A1o (A2.con1 A1o (A2.con1 P2 fn0))))
 have hfc:=A3d (by first|exact h3p|simpa using h3)
 refine A4 (nx (sr 12 rfl (zrl 5 7 [1,1] [(17,iv f.cols),(20,iv (fR.length:Int))] ?_)))
 have hQ:=G6 hR;clear hR;obtain ⟨y2,hy2,hR⟩:=hQ
 refine it rfl (I5 (L2:=[bx b2 (A6 ScrC.zero ⟨none,0,0⟩ ⟨none,0,0⟩ ⟨none,0,0⟩ ⟨none,0,0⟩) 52,bx b1 (A0 f ⟨fQ,fR.length,fK⟩) 26]) (B3g f.cols (fR.length:Int) y2 hy2) rfl rfl rfl rfl rfl fn0 (List.Perm.refl _) (fun ⟨⟨⟨r4,rs5⟩,hp8⟩,⟨⟨r9,rs10⟩,hp13⟩,⟨r14,hk15⟩⟩=>(bx b2 (A6 ScrC.zero ⟨none,0,0⟩ ⟨none,0,0⟩ ⟨none,0,0⟩ ⟨none,0,0⟩) 52::bx b1 (A0 f ⟨fQ,fR.length,fK⟩) 26::(vo B7 78 r4 rs5)++((vo B7 78 r9 rs10)++((vo F4 4 r14 y2.2.2.2.1)++([]))))) (fun ⟨⟨⟨r4,rs5⟩,hp8⟩,⟨⟨r9,rs10⟩,hp13⟩,⟨r14,hk15⟩⟩=>H3 [vo B7 78 r4 rs5,vo B7 78 r9 rs10,vo F4 4 r14 y2.2.2.2.1,[bx b2 (A6 ScrC.zero ⟨none,0,0⟩ ⟨none,0,0⟩ ⟨none,0,0⟩ ⟨none,0,0⟩) 52],[bx b1 (A0 f ⟨fQ,fR.length,fK⟩) 26]] [3,4,0,1,2] 5 rfl (by decide) (by first|rfl|simp only [List.flatten_cons,List.flatten_nil,List.append_nil,List.cons_append,List.nil_append,List.append_assoc]) [[bx b2 (A6 ScrC.zero ⟨none,0,0⟩ ⟨none,0,0⟩ ⟨none,0,0⟩ ⟨none,0,0⟩) 52],[bx b1 (A0 f ⟨fQ,fR.length,fK⟩) 26],vo B7 78 r4 rs5,vo B7 78 r9 rs10,vo F4 4 r14 y2.2.2.2.1] rfl (by first|rfl|simp only [List.flatten_cons,List.flatten_nil,List.append_nil,List.cons_append,List.nil_append,List.append_assoc]))) fun ⟨⟨⟨r4,rs5⟩,hp8⟩,⟨⟨r9,rs10⟩,hp13⟩,⟨r14,hk15⟩⟩=>?_
 try dsimp only at hp8
 obtain ⟨hk6,hw7⟩:=hp8
 try dsimp only at hp13
 obtain ⟨hk11,hw12⟩:=hp13
 have:=VOk.le hk6
 have:=VOk.le hk11
 have:=VOk.le hk15
 have:=VOk.cap hk6
 have:=VOk.cap hk11
 have:=VOk.cap hk15
 have:=hw7.1
 have:=hw12.1
 have ht_rscreenNew:=A3o f.cols (fR.length:Int);rw [hy2] at ht_rscreenNew;have hl_rscreenNew:=A9f f.cols (fR.length:Int);rw [hy2] at hl_rscreenNew
 refine I7 6 0 [0] (fun b16=>[(5,pt b16 0),(6,iv y2.2.2.2.2)]) (fun b16=>(bx b16 (A6 y2.1 ⟨va r4.q,y2.2.1.length,r4.k⟩ ⟨va r9.q,y2.2.2.1.length,r9.k⟩ ⟨none,0,0⟩ ⟨va r14.q,y2.2.2.2.1.length,r14.k⟩) 52::bx b2 (A6 ScrC.zero ⟨none,0,0⟩ ⟨none,0,0⟩ ⟨none,0,0⟩ ⟨none,0,0⟩) 52::bx b1 (A0 f ⟨fQ,fR.length,fK⟩) 26::(vo B7 78 r4 rs5)++((vo B7 78 r9 rs10)++((vo F4 4 r14 y2.2.2.2.1)++([]))))) (fun b16=>?_)
 refine ie (A3 (sr 2 rfl (ip' 2 0 [(25,bv (decide (y2.2.2.2.2=0)))] ?_)))
 refine ie ?_
 refine zjd rfl hR ?_ ?_<;>clear hR<;>intro hR h17 h17p
 ·refine A5 8 rfl (zrl 2 6 [0] [(27,ag (A6 y2.1 ⟨va r4.q,y2.2.1.length,r4.k⟩ ⟨va r9.q,y2.2.2.1.length,r9.k⟩ ⟨none,0,0⟩ ⟨va r14.q,y2.2.2.2.1.length,r14.k⟩)),(28,ag (H0 ({Act.zero with kind:=37,n:=1049,m:=1})))] ?_)
  have:=VOk.cap hk6
  have:=VOk.le hk6
  refine S1 [bx b16 (A6 y2.1 ⟨va r4.q,y2.2.1.length,r4.k⟩ ⟨va r9.q,y2.2.2.1.length,r9.k⟩ ⟨none,0,0⟩ ⟨va r14.q,y2.2.2.2.1.length,r14.k⟩) 52,bx b2 (A6 ScrC.zero ⟨none,0,0⟩ ⟨none,0,0⟩ ⟨none,0,0⟩ ⟨none,0,0⟩) 52,bx b1 (A0 f ⟨fQ,fR.length,fK⟩) 26] ((vo B7 78 r9 rs10)++((vo F4 4 r14 y2.2.2.2.1)++([]))) (T:=78) (c:=B7) (r:=r4) (xs:=rs5) (VOk.cast hk6 (by rw [hw7.1])) (by first|rfl|simp only [List.cons_append,List.append_assoc,List.nil_append,List.append_nil]) ?_
  have:=VOk.cap hk11
  have:=VOk.le hk11
  refine S1 [bx b16 (A6 y2.1 ⟨va r4.q,y2.2.1.length,r4.k⟩ ⟨va r9.q,y2.2.2.1.length,r9.k⟩ ⟨none,0,0⟩ ⟨va r14.q,y2.2.2.2.1.length,r14.k⟩) 52,bx b2 (A6 ScrC.zero ⟨none,0,0⟩ ⟨none,0,0⟩ ⟨none,0,0⟩ ⟨none,0,0⟩) 52,bx b1 (A0 f ⟨fQ,fR.length,fK⟩) 26] ((vo F4 4 r14 y2.2.2.2.1)++([])) (T:=78) (c:=B7) (r:=r9) (xs:=rs10) (VOk.cast hk11 (by rw [hw12.1])) (by first|rfl|simp only [List.cons_append,List.append_assoc,List.nil_append,List.append_nil]) ?_
  have:=VOk.cap hk15
  have:=VOk.le hk15
  refine S1 [bx b16 (A6 y2.1 ⟨va r4.q,y2.2.1.length,r4.k⟩ ⟨va r9.q,y2.2.2.1.length,r9.k⟩ ⟨none,0,0⟩ ⟨va r14.q,y2.2.2.2.1.length,r14.k⟩) 52,bx b2 (A6 ScrC.zero ⟨none,0,0⟩ ⟨none,0,0⟩ ⟨none,0,0⟩ ⟨none,0,0⟩) 52,bx b1 (A0 f ⟨fQ,fR.length,fK⟩) 26] [] (T:=4) (c:=F4) (r:=r14) (xs:=y2.2.2.2.1) hk15 (by first|rfl|simp only [List.cons_append,List.append_assoc,List.nil_append,List.append_nil]) ?_
  have hQ:=G6 hR;clear hR;obtain ⟨y1,hy1,hR⟩:=hQ
  refine zcm (C2m y2.1 y2.2.1 y2.2.2.1 y2.2.2.2.1 (va r4.q) rs5 r4.k (va r9.q) rs10 r9.k (va r14.q) r14.k hw7 (by first|omega|(simp only [List.length_take,List.length_drop,List.length_append,List.length_cons,List.length_nil,List.length_set,List.length_map,B3,A8,A9];omega)|decide) (by first|omega|(simp only [List.length_take,List.length_drop,List.length_append,List.length_cons,List.length_nil,List.length_set,List.length_map,B3,A8,A9];omega)|decide) hw12 (by first|omega|(simp only [List.length_take,List.length_drop,List.length_append,List.length_cons,List.length_nil,List.length_set,List.length_map,B3,A8,A9];omega)|decide) (by first|omega|(simp only [List.length_take,List.length_drop,List.length_append,List.length_cons,List.length_nil,List.length_set,List.length_map,B3,A8,A9];omega)|decide) (by first|omega|(simp only [List.length_take,List.length_drop,List.length_append,List.length_cons,List.length_nil,List.length_set,List.length_map,B3,A8,A9];omega)|decide) (by first|omega|(simp only [List.length_take,List.length_drop,List.length_append,List.length_cons,List.length_nil,List.length_set,List.length_map,B3,A8,A9];omega)|decide) (by first|omega|(simp only [List.length_nil];omega)|(dsimp only;omega)) y1 hy1) (A2.pick [2,3,1,4,0,7,8] rfl) fun ⟨⟨⟨q18,rs19,k20⟩,hp23⟩,⟨⟨q25,rs26,k27⟩,hp30⟩,⟨⟨q32,k33⟩,hp34⟩⟩=>?_
  obtain ⟨hr21,hc22,hl24⟩:=hp23
  obtain ⟨hr28,hc29,hl31⟩:=hp30
  obtain ⟨hc35,hl36⟩:=hp34
  have:=hr21.1
  have:=hr28.1
  refine zrg 5 0 [0] [(6,iv y1.2.2.2.2)] [bx b16 (A6 y1.1 ⟨q18,y1.2.1.length,k20⟩ ⟨q25,y1.2.2.1.length,k27⟩ ⟨none,0,0⟩ ⟨q32,y1.2.2.2.1.length,k33⟩) 52,bx b2 (A6 ScrC.zero ⟨none,0,0⟩ ⟨none,0,0⟩ ⟨none,0,0⟩ ⟨none,0,0⟩) 52,bx b1 (A0 f ⟨fQ,fR.length,fK⟩) 26] ?_
  refine A1 (nx (A3 (sr 2 rfl (ip' 2 0 [(33,bv (!decide (y1.2.2.2.2=0)))] ?_))))
  refine ie ?_
  refine zjn rfl hR ?_ ?_<;>clear hR<;>intro hR h37 h37p
  ·refine sr 4 rfl (zrg 4 0 [1] [(3,iv y1.2.2.2.2)] [bx b16 (A6 y1.1 ⟨q18,y1.2.1.length,k20⟩ ⟨q25,y1.2.2.1.length,k27⟩ ⟨none,0,0⟩ ⟨q32,y1.2.2.2.1.length,k33⟩) 52,bx b2 (A6 ScrC.zero ⟨none,0,0⟩ ⟨none,0,0⟩ ⟨none,0,0⟩ ⟨none,0,0⟩) 52,bx b1 (A0 f ⟨fQ,fR.length,fK⟩) 26] ?_)
   subst hR
   refine ie (A7 ?_)
   exact zer hr hD (V5 rfl (A1s (us:=A6 ScrC.zero ⟨none,0,0⟩ ⟨none,0,0⟩ ⟨none,0,0⟩ ⟨none,0,0⟩) B5d rfl 1 rfl rfl) (B1 rfl)) (⟨(none,[],0),⟨D0.none,(by first|omega|(simp only [List.length_take,List.length_drop,List.length_append,List.length_cons,List.length_nil,List.length_set,List.length_map,B3,A8,A9];omega)|decide),(by first|omega|(simp only [List.length_take,List.length_drop,List.length_append,List.length_cons,List.length_nil,List.length_set,List.length_map,B3,A8,A9];omega)|decide)⟩⟩,⟨(VR.nil,([]:List Rwq)),⟨VOk.nil,D0.none⟩⟩,(zq none 0)) (mc [[bx b16 (A6 y1.1 ⟨q18,y1.2.1.length,k20⟩ ⟨q25,y1.2.2.1.length,k27⟩ ⟨none,0,0⟩ ⟨q32,y1.2.2.2.1.length,k33⟩) 52],[bx b2 (A6 ScrC.zero ⟨none,0,0⟩ ⟨none,0,0⟩ ⟨none,0,0⟩ ⟨none,0,0⟩) 52],[bx b1 (A0 f ⟨fQ,fR.length,fK⟩) 26],vo B7 78 VR.nil ([]:List Rwq)] [false,false,false,true] rfl (by first|rfl|(simp only [List.length_set]<;>rfl))) (A2.con1 P2 (A2.con1 A1o (A2.con1 A1o (A2.con1 P2 fn0))))
  refine A4 (nx (sr 2 rfl (zrg 2 0 [0] [] [bx b16 (A6 y1.1 ⟨q18,y1.2.1.length,k20⟩ ⟨none,0,0⟩ ⟨none,0,0⟩ ⟨q32,y1.2.2.2.1.length,k33⟩) 52,bx b2 (A6 ScrC.zero ⟨none,0,0⟩ ⟨none,0,0⟩ ⟨none,0,0⟩ ⟨none,0,0⟩) 52,bx b1 (A0 f ⟨fQ,fR.length,fK⟩) 26] ?_)))
  refine ie (A3 (sr 4 rfl (zrl 4 0 [2] [(38,.slice fQ fR.length fK),(39,iv (fR.length:Int)),(40,iv 0)] ?_)))
  refine ie (B0 (W7 (H3 [vo B7 78 VR.nil ([]:List Rwq),[bx b16 (A6 y1.1 ⟨q18,y1.2.1.length,k20⟩ ⟨none,0,0⟩ ⟨none,0,0⟩ ⟨q32,y1.2.2.2.1.length,k33⟩) 52],[bx b2 (A6 ScrC.zero ⟨none,0,0⟩ ⟨none,0,0⟩ ⟨none,0,0⟩ ⟨none,0,0⟩) 52],[bx b1 (A0 f ⟨fQ,fR.length,fK⟩) 26]] [1,2,3,0] 4 rfl (by decide) rfl [[bx b16 (A6 y1.1 ⟨q18,y1.2.1.length,k20⟩ ⟨none,0,0⟩ ⟨none,0,0⟩ ⟨q32,y1.2.2.2.1.length,k33⟩) 52],[bx b2 (A6 ScrC.zero ⟨none,0,0⟩ ⟨none,0,0⟩ ⟨none,0,0⟩ ⟨none,0,0⟩) 52],[bx b1 (A0 f ⟨fQ,fR.length,fK⟩) 26],vo B7 78 VR.nil ([]:List Rwq)] rfl (by first|rfl|simp)) ?_))
  refine B2k (fun (t40:Nat) (sAlt:List (Rwc Cel)) (sAltr:VR) (sAltrs:List Rwq)=>(t40≤fR.length∧V8 f y1 (fR.drop t40) t40 sAlt=R∧VOk 2 sAlt.length sAltr∧D0 sAltrs sAlt∧sAlt.length=t40,[(1,pt b1 0),(2,pt b2 0),(5,pt b16 0),(38,.slice fQ fR.length fK),(39,iv (fR.length:Int)),(40,iv (t40:Int))],(bx b16 (A6 y1.1 ⟨q18,y1.2.1.length,k20⟩ ⟨va sAltr.q,sAlt.length,sAltr.k⟩ ⟨none,0,0⟩ ⟨q32,y1.2.2.2.1.length,k33⟩) 52::bx b2 (A6 ScrC.zero ⟨none,0,0⟩ ⟨none,0,0⟩ ⟨none,0,0⟩ ⟨none,0,0⟩) 52::bx b1 (A0 f ⟨fQ,fR.length,fK⟩) 26::(vo B7 78 sAltr sAltrs)++([])),[sl B7 q18 rs19,B8 B2 rs19 y1.2.1,sl B7 q25 rs26,B8 B2 rs26 y1.2.2.1,sl F4 q32 y1.2.2.2.1,sl F4 (va r14.q) y2.2.2.2.1,sl B7 (va r9.q) rs10,sl B7 (va r4.q) rs5,B8 B2 rs5 y2.2.1,B8 B2 rs10 y2.2.2.1,sl C4 fQ fZ,G5 B2 fZ fR,A0z,A1a,B8 B2 sAltrs sAlt],fR.length - t40)) 0 ([]:List (Rwc Cel)) VR.nil ([]:List Rwq) ⟨(by omega),hR,VOk.nil,D0.none,(by rfl)⟩ (mc [[bx b16 (A6 y1.1 ⟨q18,y1.2.1.length,k20⟩ ⟨none,0,0⟩ ⟨none,0,0⟩ ⟨q32,y1.2.2.2.1.length,k33⟩) 52],[bx b2 (A6 ScrC.zero ⟨none,0,0⟩ ⟨none,0,0⟩ ⟨none,0,0⟩ ⟨none,0,0⟩) 52],[bx b1 (A0 f ⟨fQ,fR.length,fK⟩) 26],vo B7 78 VR.nil ([]:List Rwq)] [true,true,true,true] rfl (by first|rfl|(simp only [List.length_set]<;>rfl))) (A2.con1 (B5 0 rfl) (A2.con1 (B5 1 rfl) (A2.con1 (B5 2 rfl) (A2.con1 (B5 3 rfl) (A2.con1 (B5 4 rfl) (A2.con1 (B5 5 rfl) (A2.con1 (B5 6 rfl) (A2.con1 (B5 7 rfl) (A2.con1 (B5 8 rfl) (A2.con1 (B5 9 rfl) (A2.con1 (B5 10 rfl) (A2.con1 (B5 11 rfl) (A2.con1 (B5 12 rfl) (A2.con1 (B5 13 rfl) (A2.con1 A1o fn0))))))))))))))) ?_
  rintro t40 sAlt sAltr sAltrs ⟨hm38,hR,hoksAltr,hrowssAltrs,hal⟩
  have:=VOk.le hoksAltr
  have:=hrowssAltrs.1
  refine sr 1 rfl (ip' 1 0 [(41,bv (decide ((t40:Int)<(fR.length:Int))))] ?_)
  refine ie (A3 (S2 rfl (fun h39=>?_) (fun h39=>?_)))
  ·have h39p:(t40:Int)<(fR.length:Int):=by simpa using h39
   rw [U1 [] (show t40<fR.length by omega)] at hR;replace hR:=(V8.eq_2 ..).symm.trans hR
   refine A4 (nx (A3 (B0 (sr 3 rfl (J3 10 rfl (by have:=hrowsfRowsrs.1;omega) fun a40 hq41=>?_)))))
   refine H6 (P9 (k:=t40) (d:=(⟨none,0,0⟩:Slc)) hrowsfRowsrs 11 rfl (by have:=hrowsfRowsrs.1;omega)) ?_
   have:=P8 hrowsfRowsrs (k:=t40) (d:=(⟨none,0,0⟩:Slc)) (by have:=hrowsfRowsrs.1;omega)
   refine ix rfl (E8 A0k rfl rfl hq41 rfl t40 rfl (by omega)) ?_
   refine ix rfl (F9 (C8 (v:=.slice ((fZ.getD t40 (⟨none,0,0⟩:Slc)).q) ((fZ.getD t40 (⟨none,0,0⟩:Slc)).n) ((fZ.getD t40 (⟨none,0,0⟩:Slc)).k)) (us:=[.slice ((fZ.getD t40 (⟨none,0,0⟩:Slc)).q) ((fZ.getD t40 (⟨none,0,0⟩:Slc)).n) ((fZ.getD t40 (⟨none,0,0⟩:Slc)).k)]) A3e rfl rfl (G0 (c:=C4) (sz:=1) hq41 (fun _=>rfl) 11 rfl (gd (⟨none,0,0⟩:Slc) (by have:=hrowsfRowsrs.1;omega))) rfl) (Q7 hrowsfRowsrs (by have:=hrowsfRowsrs.1;omega))) ?_
   refine ip' 1 0 [(8,.slice ((fZ.getD t40 (⟨none,0,0⟩:Slc)).q) ((fR.getD t40 []).length) ((fZ.getD t40 (⟨none,0,0⟩:Slc)).k))] ?_
   refine ie (A5 8 rfl (zrl 4 4 [0] [(45,.slice (va sAltr.q) sAlt.length sAltr.k),(47,ag [.slice ((fZ.getD t40 (⟨none,0,0⟩:Slc)).q) ((fR.getD t40 []).length) ((fZ.getD t40 (⟨none,0,0⟩:Slc)).k),bv false])] ?_))
   refine it rfl (E9 (c:=B7) (xs:=([⟨⟨(fZ.getD t40 (⟨none,0,0⟩:Slc)).q,(fR.getD t40 []).length,(fZ.getD t40 (⟨none,0,0⟩:Slc)).k⟩,false⟩]:List Rwq)) A5a rfl rfl rfl (by kernel_rfl)) fun b42=>?_
   have hrows43:D0 ([⟨⟨(fZ.getD t40 (⟨none,0,0⟩:Slc)).q,(fR.getD t40 []).length,(fZ.getD t40 (⟨none,0,0⟩:Slc)).k⟩,false⟩]:List Rwq) ([⟨(fR.getD t40 []),false⟩]:List (Rwc Cel)):=(D0.cons ⟨rfl,(by first|omega|(simp only [List.length_take,List.length_drop,List.length_append,List.length_cons,List.length_nil,List.length_set,List.length_map,B3,A8,A9];omega)|decide),(by first|omega|(simp only [List.length_take,List.length_drop,List.length_append,List.length_cons,List.length_nil,List.length_set,List.length_map,B3,A8,A9];omega)|decide)⟩ rfl D0.none)
   refine H6 (q:=B8 B2 ([⟨⟨(fZ.getD t40 (⟨none,0,0⟩:Slc)).q,(fR.getD t40 []).length,(fZ.getD t40 (⟨none,0,0⟩:Slc)).k⟩,false⟩]:List Rwq) ([⟨(fR.getD t40 []),false⟩]:List (Rwc Cel))) (D3k (B5 1 rfl) A1o) ?_
   have:([⟨⟨(fZ.getD t40 (⟨none,0,0⟩:Slc)).q,(fR.getD t40 []).length,(fZ.getD t40 (⟨none,0,0⟩:Slc)).k⟩,false⟩]:List Rwq).length=1:=rfl
   have hw46:D0 (sAltrs++([⟨⟨(fZ.getD t40 (⟨none,0,0⟩:Slc)).q,(fR.getD t40 []).length,(fZ.getD t40 (⟨none,0,0⟩:Slc)).k⟩,false⟩]:List Rwq)) (sAlt++([⟨(fR.getD t40 []),false⟩]:List (Rwc Cel))):=D0.append hrowssAltrs hrows43
   refine it rfl (C6u (r:=sAltr) (rs:=sAltrs) (xss:=sAlt) (pre:=[bx b16 (A6 y1.1 ⟨q18,y1.2.1.length,k20⟩ ⟨va sAltr.q,sAlt.length,sAltr.k⟩ ⟨none,0,0⟩ ⟨q32,y1.2.2.2.1.length,k33⟩) 52,bx b2 (A6 ScrC.zero ⟨none,0,0⟩ ⟨none,0,0⟩ ⟨none,0,0⟩ ⟨none,0,0⟩) 52,bx b1 (A0 f ⟨fQ,fR.length,fK⟩) 26]) (post:=[]) D2c rfl rfl rfl rfl rfl rfl rfl rfl rfl (B5 1 rfl) (B5 17 rfl) (B5 0 rfl) hrowssAltrs hrows43 hoksAltr (by first|omega|(simp only [List.length_cons,List.length_nil,List.length_append,List.length_take,List.length_drop,B3,A8,A9];omega)) (by first|omega|(simp only [List.length_cons,List.length_nil,List.length_append,List.length_take,List.length_drop,B3,A8,A9];omega))) fun ⟨r44,hr45⟩=>?_
   have:=VOk.le hr45
   have:=VOk.cap hr45
   have:([⟨(fR.getD t40 []),false⟩]:List (Rwc Cel)).length=1:=rfl
   have:(sAlt++([⟨(fR.getD t40 []),false⟩]:List (Rwc Cel))).length=sAlt.length+1:=List.length_append
   refine zrg 2 0 [0] [] (bx b16 (A6 y1.1 ⟨q18,y1.2.1.length,k20⟩ ⟨va r44.q,(sAlt++([⟨(fR.getD t40 []),false⟩]:List (Rwc Cel))).length,r44.k⟩ ⟨none,0,0⟩ ⟨q32,y1.2.2.2.1.length,k33⟩) 52::bx b2 (A6 ScrC.zero ⟨none,0,0⟩ ⟨none,0,0⟩ ⟨none,0,0⟩ ⟨none,0,0⟩) 52::bx b1 (A0 f ⟨fQ,fR.length,fK⟩) 26::(vo B7 78 r44 (sAltrs++([⟨⟨(fZ.getD t40 (⟨none,0,0⟩:Slc)).q,(fR.getD t40 []).length,(fZ.getD t40 (⟨none,0,0⟩:Slc)).k⟩,false⟩]:List Rwq)))++([])) ?_
   refine A1 (nx (A5 2 rfl (ix rfl (B4 rfl rfl rfl rfl (by omega)) ?_)))
   refine ip' 1 0 [(40,iv ((t40:Int)+1))] ?_
   refine A1 ?_
   exact B1k (z1:=t40) (z2:=sAlt) (z3:=sAltr) (z4:=sAltrs) (t40+1) (sAlt++([⟨(fR.getD t40 []),false⟩]:List (Rwc Cel))) r44 (sAltrs++([⟨⟨(fZ.getD t40 (⟨none,0,0⟩:Slc)).q,(fR.getD t40 []).length,(fZ.getD t40 (⟨none,0,0⟩:Slc)).k⟩,false⟩]:List Rwq)) ⟨(by omega),hR,hr45,hw46,(by (simp only [List.length_append,List.length_cons,List.length_nil];omega))⟩ (by (try dsimp only);omega) (mc [[bx b16 (A6 y1.1 ⟨q18,y1.2.1.length,k20⟩ ⟨va r44.q,(sAlt++([⟨(fR.getD t40 []),false⟩]:List (Rwc Cel))).length,r44.k⟩ ⟨none,0,0⟩ ⟨q32,y1.2.2.2.1.length,k33⟩) 52],[bx b2 (A6 ScrC.zero ⟨none,0,0⟩ ⟨none,0,0⟩ ⟨none,0,0⟩ ⟨none,0,0⟩) 52],[bx b1 (A0 f ⟨fQ,fR.length,fK⟩) 26],vo B7 78 r44 (sAltrs++([⟨⟨(fZ.getD t40 (⟨none,0,0⟩:Slc)).q,(fR.getD t40 []).length,(fZ.getD t40 (⟨none,0,0⟩:Slc)).k⟩,false⟩]:List Rwq))] [true,true,true,true] rfl (by first|rfl|(simp only [List.length_set]<;>rfl))) (A2.pick [4,5,6,7,8,9,10,11,12,13,14,15,16,17,0] rfl)
  have h39p:¬ ((t40:Int)<(fR.length:Int)):=by simpa using h39
  rw [U2 h39p] at hR;replace hR:=(V8.eq_1 ..).symm.trans hR
  refine G2 (nx (sr 9 rfl (zrg 9 0 [2,2,0] [] (bx b16 (A6 ({y1.1 with cursor:={Cur.zero with row:=f.cursor.row,col:=f.cursor.col}}) ⟨q18,y1.2.1.length,k20⟩ ⟨va sAltr.q,sAlt.length,sAltr.k⟩ ⟨none,0,0⟩ ⟨q32,y1.2.2.2.1.length,k33⟩) 52::bx b2 (A6 ScrC.zero ⟨none,0,0⟩ ⟨none,0,0⟩ ⟨none,0,0⟩ ⟨none,0,0⟩) 52::bx b1 (A0 f ⟨fQ,fR.length,fK⟩) 26::(vo B7 78 sAltr sAltrs)++([])) ?_)))
  refine ie ?_
  refine sh 13 [(8,[bx b16 (A6 ({y1.1 with cursor:={Cur.zero with row:=f.cursor.row,col:=f.cursor.col}}) ⟨q18,y1.2.1.length,k20⟩ ⟨va sAltr.q,sAlt.length,sAltr.k⟩ ⟨none,0,0⟩ ⟨q32,y1.2.2.2.1.length,k33⟩) 52]),(13,[bx b2 (A6 ScrC.zero ⟨none,0,0⟩ ⟨none,0,0⟩ ⟨none,0,0⟩ ⟨none,0,0⟩) 52]),(13,[bx b1 (A0 f ⟨fQ,fR.length,fK⟩) 26]),(13,vo B7 78 sAltr sAltrs)] [sl B7 q18 rs19,B8 B2 rs19 y1.2.1,sl B7 q25 rs26,B8 B2 rs26 y1.2.2.1,sl F4 q32 y1.2.2.2.1,sl F4 (va r14.q) y2.2.2.2.1,sl B7 (va r9.q) rs10,sl B7 (va r4.q) rs5,B8 B2 rs5 y2.2.1,B8 B2 rs10 y2.2.2.1,sl C4 fQ fZ,G5 B2 fZ fR,A0z,A1a,B8 B2 sAltrs sAlt] (bx b16 (A6 ({y1.1 with cursor:={Cur.zero with row:=f.cursor.row,col:=f.cursor.col}}) ⟨q18,y1.2.1.length,k20⟩ ⟨va sAltr.q,sAlt.length,sAltr.k⟩ ⟨none,0,0⟩ ⟨q32,y1.2.2.2.1.length,k33⟩) 52::bx b2 (A6 ScrC.zero ⟨none,0,0⟩ ⟨none,0,0⟩ ⟨none,0,0⟩ ⟨none,0,0⟩) 52::bx b1 (A0 f ⟨fQ,fR.length,fK⟩) 26::(vo B7 78 sAltr sAltrs)++([])) (zml 13 0) (by kernel_rfl) rfl (by kernel_rfl) (by kernel_rfl) (by kernel_rfl) (mc [[bx b16 (A6 ({y1.1 with cursor:={Cur.zero with row:=f.cursor.row,col:=f.cursor.col}}) ⟨q18,y1.2.1.length,k20⟩ ⟨va sAltr.q,sAlt.length,sAltr.k⟩ ⟨none,0,0⟩ ⟨q32,y1.2.2.2.1.length,k33⟩) 52],[bx b2 (A6 ScrC.zero ⟨none,0,0⟩ ⟨none,0,0⟩ ⟨none,0,0⟩ ⟨none,0,0⟩) 52],[bx b1 (A0 f ⟨fQ,fR.length,fK⟩) 26],vo B7 78 sAltr sAltrs] [true,true,true,true] rfl (by first|rfl|(simp only [List.length_set]<;>rfl))) A2.refl ?_
  refine zhp [0,2,4] 10 (zml 13 21) [(60,pt b1 4),(62,pt b1 5),(64,pt b1 6)] ?_
  refine zhl 1 (bx b16 (A6 ({y1.1 with cursor:={Cur.zero with row:=f.cursor.row,col:=f.cursor.col}}) ⟨q18,y1.2.1.length,k20⟩ ⟨va sAltr.q,sAlt.length,sAltr.k⟩ ⟨none,0,0⟩ ⟨q32,y1.2.2.2.1.length,k33⟩) 52::bx b2 (A6 ScrC.zero ⟨none,0,0⟩ ⟨none,0,0⟩ ⟨none,0,0⟩ ⟨none,0,0⟩) 52::bx b1 (A0 f ⟨fQ,fR.length,fK⟩) 26::(vo B7 78 sAltr sAltrs)++([])) (zml 13 23) rfl (D4 (v:=bv f.visible) ty4 rfl rfl 2 rfl rfl) ?_
  refine zhp [6,7] 7 (zml 13 215) [(67,pt b16 29)] ?_
  refine zhl 3 (bx b2 (A6 ScrC.zero ⟨none,0,0⟩ ⟨none,0,0⟩ ⟨none,0,0⟩ ⟨none,0,0⟩) 52::bx b1 (A0 f ⟨fQ,fR.length,fK⟩) 26::(vo B7 78 sAltr sAltrs)++([])) (zml 13 223) rfl (D4 (v:=iv f.shape) ty3 rfl rfl 1 rfl rfl) ?_
  refine zhl 5 (bx b2 (A6 ScrC.zero ⟨none,0,0⟩ ⟨none,0,0⟩ ⟨none,0,0⟩ ⟨none,0,0⟩) 52::bx b1 (A0 f ⟨fQ,fR.length,fK⟩) 26::(vo B7 78 sAltr sAltrs)++([])) (zml 13 255) rfl (D4 (v:=sv f.title) ty9 rfl rfl 1 rfl rfl) ?_
  refine zho 8 (bx b2 (A6 ScrC.zero ⟨none,0,0⟩ ⟨none,0,0⟩ ⟨none,0,0⟩ ⟨none,0,0⟩) 52::bx b1 (A0 f ⟨fQ,fR.length,fK⟩) 26::(vo B7 78 sAltr sAltrs)++([])) (zml 13 511) rfl (N3 (us:=[bv f.visible]) (cs':=A6 ({y1.1 with cursor:={Cur.zero with row:=f.cursor.row,col:=f.cursor.col},modes:={y1.1.modes with visible:=f.visible}}) ⟨q18,y1.2.1.length,k20⟩ ⟨va sAltr.q,sAlt.length,sAltr.k⟩ ⟨none,0,0⟩ ⟨q32,y1.2.2.2.1.length,k33⟩) ty4 rfl rfl rfl 0 rfl rfl rfl rfl rfl rfl) (fun _=>(mc [[bx b16 (A6 ({y1.1 with cursor:={Cur.zero with row:=f.cursor.row,col:=f.cursor.col},modes:={y1.1.modes with visible:=f.visible}}) ⟨q18,y1.2.1.length,k20⟩ ⟨va sAltr.q,sAlt.length,sAltr.k⟩ ⟨none,0,0⟩ ⟨q32,y1.2.2.2.1.length,k33⟩) 52],[bx b2 (A6 ScrC.zero ⟨none,0,0⟩ ⟨none,0,0⟩ ⟨none,0,0⟩ ⟨none,0,0⟩) 52],[bx b1 (A0 f ⟨fQ,fR.length,fK⟩) 26],vo B7 78 sAltr sAltrs] [false,true,true,true] rfl (by first|rfl|(simp only [List.length_set]<;>rfl)))) (fun _=>A2.refl) fun _=>?_
  refine zhp [9] 3 (zml 13 1023) [(68,pt b16 77)] ?_
  refine zho 10 (bx b2 (A6 ScrC.zero ⟨none,0,0⟩ ⟨none,0,0⟩ ⟨none,0,0⟩ ⟨none,0,0⟩) 52::bx b1 (A0 f ⟨fQ,fR.length,fK⟩) 26::(vo B7 78 sAltr sAltrs)++([])) (zml 13 2047) rfl (N3 (us:=[iv f.shape]) (cs':=A6 ({y1.1 with cursor:={Cur.zero with row:=f.cursor.row,col:=f.cursor.col},modes:={y1.1.modes with visible:=f.visible},shape:=f.shape}) ⟨q18,y1.2.1.length,k20⟩ ⟨va sAltr.q,sAlt.length,sAltr.k⟩ ⟨none,0,0⟩ ⟨q32,y1.2.2.2.1.length,k33⟩) ty3 rfl rfl rfl 0 rfl rfl rfl rfl rfl rfl) (fun _=>(mc [[bx b16 (A6 ({y1.1 with cursor:={Cur.zero with row:=f.cursor.row,col:=f.cursor.col},modes:={y1.1.modes with visible:=f.visible},shape:=f.shape}) ⟨q18,y1.2.1.length,k20⟩ ⟨va sAltr.q,sAlt.length,sAltr.k⟩ ⟨none,0,0⟩ ⟨q32,y1.2.2.2.1.length,k33⟩) 52],[bx b2 (A6 ScrC.zero ⟨none,0,0⟩ ⟨none,0,0⟩ ⟨none,0,0⟩ ⟨none,0,0⟩) 52],[bx b1 (A0 f ⟨fQ,fR.length,fK⟩) 26],vo B7 78 sAltr sAltrs] [false,true,true,true] rfl (by first|rfl|(simp only [List.length_set]<;>rfl)))) (fun _=>A2.refl) fun _=>?_
  refine zhp [11] 1 (zml 13 4095) [(69,pt b16 78)] ?_
  refine zho 12 (bx b2 (A6 ScrC.zero ⟨none,0,0⟩ ⟨none,0,0⟩ ⟨none,0,0⟩ ⟨none,0,0⟩) 52::bx b1 (A0 f ⟨fQ,fR.length,fK⟩) 26::(vo B7 78 sAltr sAltrs)++([])) (zml 13 8191) rfl (N3 (us:=[sv f.title]) (cs':=A6 ({y1.1 with cursor:={Cur.zero with row:=f.cursor.row,col:=f.cursor.col},modes:={y1.1.modes with visible:=f.visible},shape:=f.shape,title:=f.title}) ⟨q18,y1.2.1.length,k20⟩ ⟨va sAltr.q,sAlt.length,sAltr.k⟩ ⟨none,0,0⟩ ⟨q32,y1.2.2.2.1.length,k33⟩) ty9 rfl rfl rfl 0 rfl rfl rfl rfl rfl rfl) (fun _=>(mc [[bx b16 (A6 ({y1.1 with cursor:={Cur.zero with row:=f.cursor.row,col:=f.cursor.col},modes:={y1.1.modes with visible:=f.visible},shape:=f.shape,title:=f.title}) ⟨q18,y1.2.1.length,k20⟩ ⟨va sAltr.q,sAlt.length,sAltr.k⟩ ⟨none,0,0⟩ ⟨q32,y1.2.2.2.1.length,k33⟩) 52],[bx b2 (A6 ScrC.zero ⟨none,0,0⟩ ⟨none,0,0⟩ ⟨none,0,0⟩ ⟨none,0,0⟩) 52],[bx b1 (A0 f ⟨fQ,fR.length,fK⟩) 26],vo B7 78 sAltr sAltrs] [false,true,true,true] rfl (by first|rfl|(simp only [List.length_set]<;>rfl)))) (fun _=>A2.refl) fun _=>?_
  refine B0r (by kernel_rfl) ?_
  refine sr 3 rfl (zrg 3 0 [0,1] [(3,iv 0)] (bx b16 (A6 ({y1.1 with cursor:={Cur.zero with row:=f.cursor.row,col:=f.cursor.col},modes:={y1.1.modes with visible:=f.visible},shape:=f.shape,title:=f.title}) ⟨q18,y1.2.1.length,k20⟩ ⟨va sAltr.q,sAlt.length,sAltr.k⟩ ⟨none,0,0⟩ ⟨q32,y1.2.2.2.1.length,k33⟩) 52::bx b2 (A6 ({y1.1 with cursor:={Cur.zero with row:=f.cursor.row,col:=f.cursor.col},modes:={y1.1.modes with visible:=f.visible},shape:=f.shape,title:=f.title}) ⟨q18,y1.2.1.length,k20⟩ ⟨va sAltr.q,sAlt.length,sAltr.k⟩ ⟨none,0,0⟩ ⟨q32,y1.2.2.2.1.length,k33⟩) 52::bx b1 (A0 f ⟨fQ,fR.length,fK⟩) 26::(vo B7 78 sAltr sAltrs)++([])) ?_)
  subst hR
  refine ie (A7 ?_)
  exact zer hr hD (V5 rfl (A1s (us:=A6 ({y1.1 with cursor:={Cur.zero with row:=f.cursor.row,col:=f.cursor.col},modes:={y1.1.modes with visible:=f.visible},shape:=f.shape,title:=f.title}) ⟨q18,y1.2.1.length,k20⟩ ⟨va sAltr.q,sAlt.length,sAltr.k⟩ ⟨none,0,0⟩ ⟨q32,y1.2.2.2.1.length,k33⟩) B5d rfl 1 rfl rfl) (B1 rfl)) (⟨(q18,rs19,k20),⟨hr21,(by first|omega|(simp only [List.length_take,List.length_drop,List.length_append,List.length_cons,List.length_nil,List.length_set,List.length_map,B3,A8,A9];omega)|decide),(by first|omega|(simp only [List.length_take,List.length_drop,List.length_append,List.length_cons,List.length_nil,List.length_set,List.length_map,B3,A8,A9];omega)|decide)⟩⟩,⟨(sAltr,sAltrs),⟨hoksAltr,hrowssAltrs⟩⟩,(zq q32 k33)) (mc [[bx b16 (A6 ({y1.1 with cursor:={Cur.zero with row:=f.cursor.row,col:=f.cursor.col},modes:={y1.1.modes with visible:=f.visible},shape:=f.shape,title:=f.title}) ⟨q18,y1.2.1.length,k20⟩ ⟨va sAltr.q,sAlt.length,sAltr.k⟩ ⟨none,0,0⟩ ⟨q32,y1.2.2.2.1.length,k33⟩) 52],[bx b2 (A6 ({y1.1 with cursor:={Cur.zero with row:=f.cursor.row,col:=f.cursor.col},modes:={y1.1.modes with visible:=f.visible},shape:=f.shape,title:=f.title}) ⟨q18,y1.2.1.length,k20⟩ ⟨va sAltr.q,sAlt.length,sAltr.k⟩ ⟨none,0,0⟩ ⟨q32,y1.2.2.2.1.length,k33⟩) 52],[bx b1 (A0 f ⟨fQ,fR.length,fK⟩) 26],vo B7 78 sAltr sAltrs] [false,false,false,true] rfl (by first|rfl|(simp only [List.length_set]<;>rfl))) (A2.con1 (B5 0 rfl) (A2.con1 (B5 1 rfl) (A2.con1 (B5 14 rfl) (A2.con1 (B5 4 rfl) fn0))))
 refine A4 (nx (A3 (sr 2 rfl (ip' 2 0 [(33,bv (!decide (y2.2.2.2.2=0)))] ?_))))
 refine ie (S2 rfl (fun h47=>?_) (fun h47=>?_))
 ·have h47p:¬ y2.2.2.2.2=0:=by simpa using h47
  refine sr 4 rfl (zrg 4 0 [1] [(3,iv y2.2.2.2.2)] (bx b16 (A6 y2.1 ⟨va r4.q,y2.2.1.length,r4.k⟩ ⟨va r9.q,y2.2.2.1.length,r9.k⟩ ⟨none,0,0⟩ ⟨va r14.q,y2.2.2.2.1.length,r14.k⟩) 52::bx b2 (A6 ScrC.zero ⟨none,0,0⟩ ⟨none,0,0⟩ ⟨none,0,0⟩ ⟨none,0,0⟩) 52::bx b1 (A0 f ⟨fQ,fR.length,fK⟩) 26::(vo B7 78 r4 rs5)++((vo B7 78 r9 rs10)++((vo F4 4 r14 y2.2.2.2.1)++([])))) ?_)
  subst hR
  refine ie (A7 ?_)
  exact zer hr hD (V5 rfl (A1s (us:=A6 ScrC.zero ⟨none,0,0⟩ ⟨none,0,0⟩ ⟨none,0,0⟩ ⟨none,0,0⟩) B5d rfl 1 rfl rfl) (B1 rfl)) (⟨(none,[],0),⟨D0.none,(by first|omega|(simp only [List.length_take,List.length_drop,List.length_append,List.length_cons,List.length_nil,List.length_set,List.length_map,B3,A8,A9];omega)|decide),(by first|omega|(simp only [List.length_take,List.length_drop,List.length_append,List.length_cons,List.length_nil,List.length_set,List.length_map,B3,A8,A9];omega)|decide)⟩⟩,⟨(VR.nil,([]:List Rwq)),⟨VOk.nil,D0.none⟩⟩,(zq none 0)) (mc [[bx b16 (A6 y2.1 ⟨va r4.q,y2.2.1.length,r4.k⟩ ⟨va r9.q,y2.2.2.1.length,r9.k⟩ ⟨none,0,0⟩ ⟨va r14.q,y2.2.2.2.1.length,r14.k⟩) 52],[bx b2 (A6 ScrC.zero ⟨none,0,0⟩ ⟨none,0,0⟩ ⟨none,0,0⟩ ⟨none,0,0⟩) 52],[bx b1 (A0 f ⟨fQ,fR.length,fK⟩) 26],vo B7 78 r4 rs5,vo B7 78 r9 rs10,vo F4 4 r14 y2.2.2.2.1,vo B7 78 VR.nil ([]:List Rwq)] [false,false,false,false,false,false,true] rfl (by first|rfl|(simp only [List.length_set]<;>rfl))) (A2.con1 P2 (A2.con1 A1o (A2.con1 A1o (A2.con1 P2 fn0))))
 have h47p:¬ (¬ y2.2.2.2.2=0):=by simpa using h47
 exfalso;omega
end Go.Proofs.YthcjfkljekdioaaGreatDoor
