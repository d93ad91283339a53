import Derived.Test.YtioaekgoceinkaaGreatDoorProg
import Derived.Test.YtioaekgoceinkaaGreatDoorMA2
import Derived.Test.YtioaekgoceinkaaGreatDoorMB1
import Derived.Test.YtioaekgoceinkaaGreatDoorMA3
import Derived.Test.YtioaekgoceinkaaGreatDoorMB2
import Derived.Test.YtioaekgoceinkaaGreatDoorMB3
import Derived.Test.YtioaekgoceinkaaGreatDoorMQ1
import Derived.Test.YtioaekgoceinkaaGreatDoorMQ2
set_option linter.unusedVariables false
set_option linter.unusedSimpArgs false
set_option linter.unnecessarySimpa false
set_option maxRecDepth 100000
namespace Go.Proofs.YtioaekgoceinkaaGreatDoor
open Go Go.Fen
theorem B7f:MapTy Tryz.prog 80 3 85 (.int .i64):=⟨by kernel_rfl,by kernel_rfl,rfl⟩
theorem A7v:MapTy Tryz.prog 112 3 4 (.int .i64):=⟨by kernel_rfl,by kernel_rfl,rfl⟩
theorem X6:Ty Tryz.prog 23 3 true:=⟨by kernel_rfl⟩
theorem C2l:Ty Tryz.prog 243 1 false:=⟨by kernel_rfl⟩
theorem D2g:Zero Tryz.prog 23 (B8 Cur.zero):=⟨by kernel_rfl⟩
def A0 (s:ScrC) (sMain:List (Rwc Cel)) (sAlt:List (Rwc Cel)) (sTabs:List Bool):Int×Int×Int×Int×Bool :=
 (s.rows,s.cols,s.top,s.bottom,s.modes.origin)
theorem J7 {s:ScrC} {sMain sAlt:List (Rwc Cel)} {sTabs:List Bool} {sb:Nat} {sMainq:Option Addr} {sMainrs:List Rwq} {sMaink:Nat} {sAltq:Option Addr} {sAltrs:List Rwq} {sAltk:Nat} {sTabsq:Option Addr} {sTabsk:Nat} {R:Int×Int×Int×Int×Bool} (hR:A0 s sMain sAlt sTabs=R) (a:F8 sMainrs sMain:=by exact om_) (d:sMain.length≤9223372036854775807:=by exact om_) (g:sMain.length≤sMaink:=by exact om_) (b:F8 sAltrs sAlt:=by exact om_) (h:sAlt.length≤9223372036854775807:=by exact om_) (i:sAlt.length≤sAltk:=by exact om_) (e:sTabs.length≤9223372036854775807:=by exact om_) (f:sTabs.length≤sTabsk:=by exact om_):Con Tryz.prog 109 [pt sb 0] [bx sb (B6 s ⟨sMainq,sMain.length,sMaink⟩ ⟨sAltq,sAlt.length,sAltk⟩ ⟨none,0,0⟩ ⟨sTabsq,sTabs.length,sTabsk⟩) 79] [sl K1 sMainq sMainrs,G5 G4 sMainrs sMain,sl K1 sAltq sAltrs,G5 G4 sAltrs sAlt,sl N8 sTabsq sTabs] (Unit) (fun x=>ag [iv R.1,iv R.2.1,iv R.2.2.1,iv R.2.2.2.1,bv R.2.2.2.2]) (fun x=>[bx sb (B6 s ⟨sMainq,sMain.length,sMaink⟩ ⟨sAltq,sAlt.length,sAltk⟩ ⟨none,0,0⟩ ⟨sTabsq,sTabs.length,sTabsk⟩) 79]) (fun x=>[]):=by
 refine zce Tryz.func109 fun X hX hr hD=>?_
 replace hR:=(A0.eq_1 ..).symm.trans hR
 have:=a.1
 have:=b.1
 refine sR_ rfl (H9 1 0 [] (fun c=>[(2,pt c 0)]) (fun c=>[bx c [iv 0,iv 0,iv 0,iv 0,bv false] 134,bx sb (B6 s ⟨sMainq,sMain.length,sMaink⟩ ⟨sAltq,sAlt.length,sAltk⟩ ⟨none,0,0⟩ ⟨sTabsq,sTabs.length,sTabsk⟩) 79]) (fun c=>(ie (sh 28 [(27,[bx c [iv 0,iv 0,iv 0,iv 0,bv false] 134]),(28,[bx sb (B6 s ⟨sMainq,sMain.length,sMaink⟩ ⟨sAltq,sAlt.length,sAltk⟩ ⟨none,0,0⟩ ⟨sTabsq,sTabs.length,sTabsk⟩) 79])] [sl K1 sMainq sMainrs,G5 G4 sMainrs sMain,sl K1 sAltq sAltrs,G5 G4 sAltrs sAlt,sl N8 sTabsq sTabs] [bx c [iv 0,iv 0,iv 0,iv 0,bv false] 134,bx sb (B6 s ⟨sMainq,sMain.length,sMaink⟩ ⟨sAltq,sAlt.length,sAltk⟩ ⟨none,0,0⟩ ⟨sTabsq,sTabs.length,sTabsk⟩) 79] (zml 28 0) okl rfl okl okl okl sb_ B0.refl ?_))))
 refine zhp [0,1,2,3,5,6,7,8,10,11,12,13,15,16,17,18,20,21,22,23,24] 7 (zml 28 33013231) [(6,pt sb 1),(11,pt sb 0),(16,pt sb 36),(21,pt sb 37),(27,pt sb 27)] ?_
 refine zhl 4 [bx c [iv 0,iv 0,iv 0,iv 0,bv false] 134,bx sb (B6 s ⟨sMainq,sMain.length,sMaink⟩ ⟨sAltq,sAlt.length,sAltk⟩ ⟨none,0,0⟩ ⟨sTabsq,sTabs.length,sTabsk⟩) 79] (zml 28 33013247) rfl (A7 (v:=iv s.rows) ty3 rfl rfl 1 rfl rfl) ?_
 refine zhl 9 [bx c [iv 0,iv 0,iv 0,iv 0,bv false] 134,bx sb (B6 s ⟨sMainq,sMain.length,sMaink⟩ ⟨sAltq,sAlt.length,sAltk⟩ ⟨none,0,0⟩ ⟨sTabsq,sTabs.length,sTabsk⟩) 79] (zml 28 33013759) rfl (A7 (v:=iv s.cols) ty3 rfl rfl 1 rfl rfl) ?_
 refine zhl 14 [bx c [iv 0,iv 0,iv 0,iv 0,bv false] 134,bx sb (B6 s ⟨sMainq,sMain.length,sMaink⟩ ⟨sAltq,sAlt.length,sAltk⟩ ⟨none,0,0⟩ ⟨sTabsq,sTabs.length,sTabsk⟩) 79] (zml 28 33030143) rfl (A7 (v:=iv s.top) ty3 rfl rfl 1 rfl rfl) ?_
 refine zhl 19 [bx c [iv 0,iv 0,iv 0,iv 0,bv false] 134,bx sb (B6 s ⟨sMainq,sMain.length,sMaink⟩ ⟨sAltq,sAlt.length,sAltk⟩ ⟨none,0,0⟩ ⟨sTabsq,sTabs.length,sTabsk⟩) 79] (zml 28 33554431) rfl (A7 (v:=iv s.bottom) ty3 rfl rfl 1 rfl rfl) ?_
 refine zhl 25 [bx c [iv 0,iv 0,iv 0,iv 0,bv false] 134,bx sb (B6 s ⟨sMainq,sMain.length,sMaink⟩ ⟨sAltq,sAlt.length,sAltk⟩ ⟨none,0,0⟩ ⟨sTabsq,sTabs.length,sTabsk⟩) 79] (zml 28 67108863) rfl (A7 (v:=bv s.modes.origin) ty4 rfl rfl 1 rfl rfl) ?_
 refine zhk 26 (zml 28 134217727) rfl (C1h (cs:=[iv s.rows,iv s.cols,iv s.top,iv s.bottom,bv s.modes.origin]) rfl rfl okl) ?_
 refine zho 27 [bx sb (B6 s ⟨sMainq,sMain.length,sMaink⟩ ⟨sAltq,sAlt.length,sAltk⟩ ⟨none,0,0⟩ ⟨sTabsq,sTabs.length,sTabsk⟩) 79] (zml 28 268435455) rfl (F2 (us:=[iv s.rows,iv s.cols,iv s.top,iv s.bottom,bv s.modes.origin]) (cs':=[iv s.rows,iv s.cols,iv s.top,iv s.bottom,bv s.modes.origin]) D0e rfl rfl rfl 0 rfl rfl rfl rfl rfl rfl) (fun _=>sb_) (fun _=>B0.refl) fun _=>?_
 refine A3w okl ?_
 subst hR
 refine A8 ?_
 exact zer hr hD (O3 rfl (D4 (us:=[iv s.rows,iv s.cols,iv s.top,iv s.bottom,bv s.modes.origin]) D0e rfl 0 rfl rfl rfl)) () sb_ fn0
def J1 (s:ScrC) (sMain:List (Rwc Cel)) (sAlt:List (Rwc Cel)) (sTabs:List Bool) (g:List (Rwc Cel)):Bool :=
 (((decide ((A4r g)=0))&&(decide ((g.length:Int)=s.rows)))&&(decide (((g.getD 0 zwc).l.length:Int)=s.cols)))
theorem A6d {s:ScrC} {sMain sAlt:List (Rwc Cel)} {sTabs:List Bool} {g:List (Rwc Cel)} {sb:Nat} {sMainq:Option Addr} {sMainrs:List Rwq} {sMaink:Nat} {sAltq:Option Addr} {sAltrs:List Rwq} {sAltk:Nat} {sTabsq:Option Addr} {sTabsk:Nat} {r:Option Addr} {b:List Rwq} {gk:Nat} {R:Bool} (hR:J1 s sMain sAlt sTabs g=R) (d:F8 sMainrs sMain:=by exact om_) (f:sMain.length≤9223372036854775807:=by exact om_) (h:sMain.length≤sMaink:=by exact om_) (e:F8 sAltrs sAlt:=by exact om_) (o:sAlt.length≤9223372036854775807:=by exact om_) (p:sAlt.length≤sAltk:=by exact om_) (i:sTabs.length≤9223372036854775807:=by exact om_) (j:sTabs.length≤sTabsk:=by exact om_) (a:F8 b g:=by exact om_) (a2:g.length≤9223372036854775807:=by exact om_) (a0:g.length≤gk:=by exact om_):Con Tryz.prog 112 [pt sb 0,.slice r g.length gk] [bx sb (B6 s ⟨sMainq,sMain.length,sMaink⟩ ⟨sAltq,sAlt.length,sAltk⟩ ⟨none,0,0⟩ ⟨sTabsq,sTabs.length,sTabsk⟩) 79] [sl K1 sMainq sMainrs,G5 G4 sMainrs sMain,sl K1 sAltq sAltrs,G5 G4 sAltrs sAlt,sl N8 sTabsq sTabs,sl K1 r b,G5 G4 b g,A4n,A4q] (Unit) (fun x=>bv R) (fun x=>[bx sb (B6 s ⟨sMainq,sMain.length,sMaink⟩ ⟨sAltq,sAlt.length,sAltk⟩ ⟨none,0,0⟩ ⟨sTabsq,sTabs.length,sTabsk⟩) 79]) (fun x=>[]):=by
 refine zce Tryz.func112 fun X hX hr hD=>?_
 replace hR:=(J1.eq_1 ..).symm.trans hR
 have:=d.1
 have:=e.1
 have:=a.1
 have z:A4r g=0→0<g.length:=C3r
 refine sR_ rfl (pp0 1 rfl (ie (sd 27 rfl okl rfl (pd1 1 5 rfl (zvd rfl (C8y rfl a) (pd1 2 8 rfl ?_))))))
 refine zdd 9 14 8 17 (decide ((g.length:Int)=s.rows)) (fun y a1=>?_) ?_
 ·refine pg1 9 [0] 17 rfl ?_
  exact zad 2 8 17 y
 refine pd1 1 18 rfl ?_
 refine zda 12 1 18 30 (decide (((g.getD 0 zwc).l.length:Int)=s.cols)) (fun t=>?_) ?_
 ·have u:=bq_ t
  refine dp' 1 11 [(19,.slice r g.length gk)] ?_
  refine B3c 5 rfl (by have:=a.1;omega) fun w m=>?_
  refine D7r (D5e (k:=0) a 6 rfl (by have:=a.1;omega)) ?_
  have:=C7l a (k:=0) (by have:=a.1;omega)
  refine dd rfl (K2 C7k rfl rfl m rfl 0 rfl opx) (dp' 1 9 [(21,pa (Addr.add w (0 * 2)))] (dd rfl (I2 (D6 (v:=.slice ((b.getD 0 zwq).s.q) ((b.getD 0 zwq).s.n) ((b.getD 0 zwq).s.k)) (us:=[.slice ((b.getD 0 zwq).s.q) ((b.getD 0 zwq).s.n) ((b.getD 0 zwq).s.k)]) E0l rfl rfl (S3 (N0 (c:=K1) (sz:=2) m (fun _=>rfl) 6 rfl (gd zwq (by have:=a.1;omega))) (ws:=[.slice ((b.getD 0 zwq).s.q) ((b.getD 0 zwq).s.n) ((b.getD 0 zwq).s.k)]) 1 rfl) rfl) (E3f a (by have:=a.1;omega))) (pg1 8 [0] 30 rfl ?_)))
  exact zad 6 18 30 t
 refine pd1 1 4 rfl ?_
 subst hR
 refine de (A8 ?_)
 exact zer hr hD (O3 rfl (B9 rfl)) () sb_ fn0
def A3l (a:Int):Int :=
 (bif ((decide (a<2))||(decide ((80:Int)<a))) then 2 else 0)
theorem C7e {a R:Int} (hR:A3l a=R):G3 Tryz.prog 113 [iv a,.slice none 0 0] [] (iv R):=by
 refine zce Tryz.func113 fun X hX hr hD=>?_
 replace hR:=(A3l.eq_1 ..).symm.trans hR
 refine sR_ rfl (pp0 1 rfl (ie (A5 (sR_ rfl (pp1 3 9 rfl ?_)))))
 refine zir 3 0 9 12 (decide ((80:Int)<a)) (fun d b=>?_) ?_
 ·refine pp1 3 12 rfl ?_
  exact A3 (P7 2 9 12 d fn0 sb_ rfl rfl rfl rfl rfl)
 refine ie ?_
 refine zjo rfl hR ?_ ?_<;>clear hR<;>intro hR e c
 ·refine sR_ rfl (pp1 1 4 rfl ?_)
  subst hR
  refine ie (A8 ?_)
  exact E9 hr hD
 refine A6 (nx (A5 (sR_ rfl (pp1 3 15 rfl (ie (A0f rfl (A6 (nx (A5 (sR_ rfl (pp3 3 16 17 18 rfl (ie (B4 (A0s 2 ?_))))))))))))))
 refine F3 (sR_ rfl (pp1 1 19 rfl ?_))
 refine ie (A5 (A0f rfl (H3 (nx (sR_ rfl (pp1 1 4 rfl ?_))))))
 subst hR
 refine ie (A8 ?_)
 exact E9 hr hD
def Q9 (s:ScrC) (a:Bool):Bool :=
 (bif a then false else (bif (decide (s.shape<0)) then (bif (decide (s.shape<0)) then false else ((decide (s.last=0))||(decide ((0:Int)<(W5 s.last))))) else (bif (decide ((6:Int)<s.shape)) then (bif (decide ((6:Int)<s.shape)) then false else ((decide (s.last=0))||(decide ((0:Int)<(W5 s.last))))) else (bif (!decide ((J3 ({Act.zero with kind:=44,text:=s.title}))=0)) then false else ((decide (s.last=0))||(decide ((0:Int)<(W5 s.last))))))))
def O7 (s:ScrC) (a:Bool):Bool :=
 (bif a then false else (bif (!decide ((N4 s.style)=0)) then Q9 s (!decide ((N4 s.style)=0)) else (bif (!decide ((A0x s.sets)=0)) then Q9 s (!decide ((A0x s.sets)=0)) else Q9 s (!decide ((A6k s.modes)=0)))))
def Q6 (s:ScrC) (sMain:List (Rwc Cel)) (sAlt:List (Rwc Cel)) (sTabs:List Bool) (a:Bool):Bool :=
 (bif a then false else (bif (!(J1 s sMain sAlt sTabs sMain)) then O7 s (!(J1 s sMain sAlt sTabs sMain)) else (bif (!(J1 s sMain sAlt sTabs sAlt)) then O7 s (!(J1 s sMain sAlt sTabs sAlt)) else (bif (!decide ((A3l s.cols)=0)) then O7 s (!decide ((A3l s.cols)=0)) else O7 s (!decide ((sTabs.length:Int)=s.cols))))))
def A1e (s:ScrC) (sMain:List (Rwc Cel)) (sAlt:List (Rwc Cel)) (sTabs:List Bool):Bool :=
 (C9 (A0 s sMain sAlt sTabs) fun (a:Int×Int×Int×Int×Bool)=>(bif (!decide ((C2 a.1 a.2.1 a.2.2.1 a.2.2.2.1 a.2.2.2.2 s.cursor)=0)) then Q6 s sMain sAlt sTabs (!decide ((C2 a.1 a.2.1 a.2.2.1 a.2.2.2.1 a.2.2.2.2 s.cursor)=0)) else (bif (!decide ((M9 a.1 a.2.1 a.2.2.1 a.2.2.2.1 a.2.2.2.2 s.kept)=0)) then Q6 s sMain sAlt sTabs (!decide ((M9 a.1 a.2.1 a.2.2.1 a.2.2.2.1 a.2.2.2.2 s.kept)=0)) else Q6 s sMain sAlt sTabs (!decide ((M9 a.1 a.2.1 a.2.2.1 a.2.2.2.1 a.2.2.2.2 s.keptAlt)=0)))))
theorem B4e {s:ScrC} {sMain sAlt:List (Rwc Cel)} {sTabs:List Bool} {sb:Nat} {sMainq:Option Addr} {sMainrs:List Rwq} {sMaink:Nat} {sAltq:Option Addr} {sAltrs:List Rwq} {sAltk:Nat} {sTabsq:Option Addr} {sTabsk:Nat} {R:Bool} (hR:A1e s sMain sAlt sTabs=R) (b:F8 sMainrs sMain:=by exact om_) (g:sMain.length≤9223372036854775807:=by exact om_) (h:sMain.length≤sMaink:=by exact om_) (c:F8 sAltrs sAlt:=by exact om_) (k:sAlt.length≤9223372036854775807:=by exact om_) (l:sAlt.length≤sAltk:=by exact om_) (i:sTabs.length≤9223372036854775807:=by exact om_) (j:sTabs.length≤sTabsk:=by exact om_) (a6:s.title.length≤100000000:=by exact om_):Con Tryz.prog 33 [pt sb 0] [bx sb (B6 s ⟨sMainq,sMain.length,sMaink⟩ ⟨sAltq,sAlt.length,sAltk⟩ ⟨none,0,0⟩ ⟨sTabsq,sTabs.length,sTabsk⟩) 79] [sl K1 sMainq sMainrs,G5 G4 sMainrs sMain,sl K1 sAltq sAltrs,G5 G4 sAltrs sAlt,sl N8 sTabsq sTabs,A4n,A4q,P0,O4,K0] (Unit) (fun x=>bv R) (fun x=>[bx sb (B6 s ⟨sMainq,sMain.length,sMaink⟩ ⟨sAltq,sAlt.length,sAltk⟩ ⟨none,0,0⟩ ⟨sTabsq,sTabs.length,sTabsk⟩) 79]) (fun x=>[]):=by
 refine zce Tryz.func33 fun X hX hr hD=>?_
 replace hR:=(A1e.eq_1 ..).symm.trans hR
 have:=b.1
 have:=c.1
 refine sR_ rfl (pp0 1 rfl (ie (sR_ rfl (pp1 1 4 rfl ?_))))
 have hQ:=D0 hR;clear hR;obtain ⟨a,n,hR⟩:=hQ
 refine zc rfl (J7 n b om_ om_ c) fun _=>?_
 refine H9 2 0 [0] (fun d=>[(3,pt d 0)]) (fun d=>[bx d [iv a.1,iv a.2.1,iv a.2.2.1,iv a.2.2.2.1,bv a.2.2.2.2] 134,bx sb (B6 s ⟨sMainq,sMain.length,sMaink⟩ ⟨sAltq,sAlt.length,sAltk⟩ ⟨none,0,0⟩ ⟨sTabsq,sTabs.length,sTabsk⟩) 79]) (fun d=>?_)
 refine ie (A5 (B4 (C1d (fun (o:Bool)=>(Q6 s sMain sAlt sTabs o=R,[(0,pt sb 0),(6,bv o)],[bx d [iv a.1,iv a.2.1,iv a.2.2.1,iv a.2.2.2.1,bv a.2.2.2.2] 134,bx sb (B6 s ⟨sMainq,sMain.length,sMaink⟩ ⟨sAltq,sAlt.length,sAltk⟩ ⟨none,0,0⟩ ⟨sTabsq,sTabs.length,sTabsk⟩) 79],[sl K1 sMainq sMainrs,G5 G4 sMainrs sMain,sl K1 sAltq sAltrs,G5 G4 sAltrs sAlt,sl N8 sTabsq sTabs,A4n,A4q,P0,O4,K0])) ?_ ?_)))
 ·refine sd 9 rfl okl rfl ?_
  refine zdg 6 3 [0,1] [(7,ag [iv a.1,iv a.2.1,iv a.2.2.1,iv a.2.2.2.1,bv a.2.2.2.2]),(12,ag (B8 s.cursor))] ?_
  refine zvd rfl (M7 rfl) (pd1 2 6 rfl (de ?_))
  refine zjn rfl hR ?_ ?_<;>clear hR<;>intro hR h2 a3
  ·refine A6 ?_
   exact A5f (!decide ((C2 a.1 a.2.1 a.2.2.1 a.2.2.2.1 a.2.2.2.2 s.cursor)=0)) hR sb_ B0.refl
  refine sd 9 rfl okl rfl ?_
  refine zdg 6 3 [0,1] [(15,ag [iv a.1,iv a.2.1,iv a.2.2.1,iv a.2.2.2.1,bv a.2.2.2.2]),(20,ag (B1u s.kept))] ?_
  refine zvd rfl (A8h rfl) (pd1 2 6 rfl (de ?_))
  refine zjn rfl hR ?_ ?_<;>clear hR<;>intro hR h3 a8
  ·refine A6 ?_
   exact A5f (!decide ((M9 a.1 a.2.1 a.2.2.1 a.2.2.2.1 a.2.2.2.2 s.kept)=0)) hR sb_ B0.refl
  refine C8w 9 rfl okl rfl ?_
  refine zdg 6 3 [0,1] [(23,ag [iv a.1,iv a.2.1,iv a.2.2.1,iv a.2.2.2.1,bv a.2.2.2.2]),(28,ag (B1u s.keptAlt))] ?_
  refine zvd rfl (A8h rfl) (pd1 2 6 rfl ?_)
  refine B7i ?_
  exact A5f (!decide ((M9 a.1 a.2.1 a.2.2.1 a.2.2.2.1 a.2.2.2.2 s.keptAlt)=0)) hR sb_ B0.refl
 intro o
 rintro hR
 replace hR:=(Q6.eq_1 ..).symm.trans hR
 refine zjb rfl hR ?_ ?_<;>clear hR<;>intro hR h4
 ·refine sR_ rfl (pp1 1 2 rfl ?_)
  subst hR
  refine ie (A8 ?_)
  exact zer hr hD (O3 rfl (B9 rfl)) () sb_ fn0
 refine C1d (fun (f:Bool)=>(O7 s f=R,[(0,pt sb 0),(31,bv f)],[bx d [iv a.1,iv a.2.1,iv a.2.2.1,iv a.2.2.2.1,bv a.2.2.2.2] 134,bx sb (B6 s ⟨sMainq,sMain.length,sMaink⟩ ⟨sAltq,sAlt.length,sAltk⟩ ⟨none,0,0⟩ ⟨sTabsq,sTabs.length,sTabsk⟩) 79],[sl K1 sMainq sMainrs,G5 G4 sMainrs sMain,sl K1 sAltq sAltrs,G5 G4 sAltrs sAlt,sl N8 sTabsq sTabs,A4n,A4q,P0,O4,K0])) ?_ ?_
 ·refine sR_ rfl (pl2 6 [1] 32 37 rfl ?_)
  refine zc rfl (A6d rfl b om_ om_ c om_ om_ om_ om_ b) fun _=>?_
  refine pp1 2 31 rfl (ie ?_)
  refine zjb rfl hR ?_ ?_<;>clear hR<;>intro hR h5
  ·refine A6 (P9 (G9 [[bx sb (B6 s ⟨sMainq,sMain.length,sMaink⟩ ⟨sAltq,sAlt.length,sAltk⟩ ⟨none,0,0⟩ ⟨sTabsq,sTabs.length,sTabsk⟩) 79],[bx d [iv a.1,iv a.2.1,iv a.2.2.1,iv a.2.2.2.1,bv a.2.2.2.2] 134]] [1,0] 2 rfl ozw rfl [[bx d [iv a.1,iv a.2.1,iv a.2.2.1,iv a.2.2.2.1,bv a.2.2.2.2] 134],[bx sb (B6 s ⟨sMainq,sMain.length,sMaink⟩ ⟨sAltq,sAlt.length,sAltk⟩ ⟨none,0,0⟩ ⟨sTabsq,sTabs.length,sTabsk⟩) 79]] rfl opv) ?_)
   exact A5f (!(J1 s sMain sAlt sTabs sMain)) hR sb_ B0.refl
  refine sR_ rfl (pl2 6 [0] 40 45 rfl ?_)
  refine zc rfl (A6d rfl b om_ om_ c om_ om_ om_ om_ c) fun _=>?_
  refine pp1 2 31 rfl (ie ?_)
  refine zjb rfl hR ?_ ?_<;>clear hR<;>intro hR h6
  ·refine A6 (P9 (G9 [[bx sb (B6 s ⟨sMainq,sMain.length,sMaink⟩ ⟨sAltq,sAlt.length,sAltk⟩ ⟨none,0,0⟩ ⟨sTabsq,sTabs.length,sTabsk⟩) 79],[bx d [iv a.1,iv a.2.1,iv a.2.2.1,iv a.2.2.2.1,bv a.2.2.2.2] 134]] [1,0] 2 rfl ozw rfl [[bx d [iv a.1,iv a.2.1,iv a.2.2.1,iv a.2.2.2.1,bv a.2.2.2.2] 134],[bx sb (B6 s ⟨sMainq,sMain.length,sMaink⟩ ⟨sAltq,sAlt.length,sAltk⟩ ⟨none,0,0⟩ ⟨sTabsq,sTabs.length,sTabsk⟩) 79]] rfl opv) ?_)
   exact A5f (!(J1 s sMain sAlt sTabs sAlt)) hR sb_ B0.refl
  refine sd 13 rfl okl rfl (pg2 10 [0,0] 52 57 rfl (zvd rfl (C7e rfl) (pd1 2 31 rfl (de ?_))))
  refine zjn rfl hR ?_ ?_<;>clear hR<;>intro hR h7 a4
  ·refine A6 (P9 (G9 [[bx sb (B6 s ⟨sMainq,sMain.length,sMaink⟩ ⟨sAltq,sAlt.length,sAltk⟩ ⟨none,0,0⟩ ⟨sTabsq,sTabs.length,sTabsk⟩) 79],[bx d [iv a.1,iv a.2.1,iv a.2.2.1,iv a.2.2.2.1,bv a.2.2.2.2] 134]] [1,0] 2 rfl ozw rfl [[bx d [iv a.1,iv a.2.1,iv a.2.2.1,iv a.2.2.2.1,bv a.2.2.2.2] 134],[bx sb (B6 s ⟨sMainq,sMain.length,sMaink⟩ ⟨sAltq,sAlt.length,sAltk⟩ ⟨none,0,0⟩ ⟨sTabsq,sTabs.length,sTabsk⟩) 79]] rfl opv) ?_)
   exact A5f (!decide ((A3l s.cols)=0)) hR sb_ B0.refl
  refine C8w 13 rfl okl rfl ?_
  refine pg1 13 [0,0] 31 rfl ?_
  refine B7i (P9 (G9 [[bx sb (B6 s ⟨sMainq,sMain.length,sMaink⟩ ⟨sAltq,sAlt.length,sAltk⟩ ⟨none,0,0⟩ ⟨sTabsq,sTabs.length,sTabsk⟩) 79],[bx d [iv a.1,iv a.2.1,iv a.2.2.1,iv a.2.2.2.1,bv a.2.2.2.2] 134]] [1,0] 2 rfl ozw rfl [[bx d [iv a.1,iv a.2.1,iv a.2.2.1,iv a.2.2.2.1,bv a.2.2.2.2] 134],[bx sb (B6 s ⟨sMainq,sMain.length,sMaink⟩ ⟨sAltq,sAlt.length,sAltk⟩ ⟨none,0,0⟩ ⟨sTabsq,sTabs.length,sTabsk⟩) 79]] rfl opv) ?_)
  exact A5f (!decide ((sTabs.length:Int)=s.cols)) hR sb_ B0.refl
 intro f
 rintro hR
 replace hR:=(O7.eq_1 ..).symm.trans hR
 refine zjb rfl hR ?_ ?_<;>clear hR<;>intro hR h8
 ·refine sR_ rfl (pp1 1 2 rfl ?_)
  subst hR
  refine ie (A8 ?_)
  exact zer hr hD (O3 rfl (B9 rfl)) () sb_ fn0
 refine C1d (fun (e:Bool)=>(Q9 s e=R,[(0,pt sb 0),(72,bv e)],[bx d [iv a.1,iv a.2.1,iv a.2.2.1,iv a.2.2.2.1,bv a.2.2.2.2] 134,bx sb (B6 s ⟨sMainq,sMain.length,sMaink⟩ ⟨sAltq,sAlt.length,sAltk⟩ ⟨none,0,0⟩ ⟨sTabsq,sTabs.length,sTabsk⟩) 79],[sl K1 sMainq sMainrs,G5 G4 sMainrs sMain,sl K1 sAltq sAltrs,G5 G4 sAltrs sAlt,sl N8 sTabsq sTabs,A4n,A4q,P0,O4,K0])) ?_ ?_
 ·refine sR_ rfl (zrl 5 3 [1] [(77,ag (A0c s.style))] (zv rfl (A4e rfl) (pp1 2 72 rfl (ie ?_))))
  refine zjn rfl hR ?_ ?_<;>clear hR<;>intro hR h9 a9
  ·refine A6 ?_
   exact A5f (!decide ((N4 s.style)=0)) hR sb_ B0.refl
  refine sR_ rfl (zrl 5 3 [1] [(84,ag (B7j s.sets))] (zv rfl (B8m rfl) (pp1 2 72 rfl (ie ?_))))
  refine zjn rfl hR ?_ ?_<;>clear hR<;>intro hR a5 t
  ·refine A6 ?_
   exact A5f (!decide ((A0x s.sets)=0)) hR sb_ B0.refl
  refine A1 8 rfl (zrl 5 3 [1] [(91,ag (A8z s.modes))] (zv rfl (C9k rfl) (pp1 2 72 rfl (A3 ?_))))
  exact A5f (!decide ((A6k s.modes)=0)) hR sb_ B0.refl
 intro e
 rintro hR
 replace hR:=(Q9.eq_1 ..).symm.trans hR
 refine zjb rfl hR ?_ ?_<;>clear hR<;>intro hR ad
 ·refine sR_ rfl (pp1 1 2 rfl ?_)
  subst hR
  refine ie (A8 ?_)
  exact zer hr hD (O3 rfl (B9 rfl)) () sb_ fn0
 refine A5 (sR_ rfl (pl1 7 [1] 94 rfl ?_))
 refine ie ?_
 refine zjd rfl hR ?_ ?_<;>clear hR<;>intro hR aa a1
 ·refine A6 (nx ?_)
  refine zjd rfl hR ?_ ?_<;>clear hR<;>intro hR a2 u
  ·refine sR_ rfl (pp1 1 2 rfl ?_)
   subst hR
   refine ie (A8 ?_)
   exact zer hr hD (O3 rfl (B9 rfl)) () sb_ fn0
  refine A6 (nx (sR_ rfl (pl1 7 [1] 121 rfl ?_)))
  refine zir 8 1 121 129 (decide ((0:Int)<(W5 s.last))) (fun p r=>?_) ?_
  ·refine pl1 5 [1] 126 rfl (zv rfl (A4o rfl) (pp1 2 129 rfl ?_))
   exact zai 4 121 129 p
  refine pp1 1 2 rfl ?_
  subst hR
  refine ie (A8 ?_)
  exact zer hr hD (O3 rfl (B9 rfl)) () sb_ fn0
 refine sR_ rfl (pl1 7 [1] 94 rfl (ie ?_))
 refine zjd rfl hR ?_ ?_<;>clear hR<;>intro hR ab y
 ·refine A6 (nx ?_)
  refine zjd rfl hR ?_ ?_<;>clear hR<;>intro hR ac z
  ·refine sR_ rfl (pp1 1 2 rfl ?_)
   subst hR
   refine ie (A8 ?_)
   exact zer hr hD (O3 rfl (B9 rfl)) () sb_ fn0
  refine A6 (nx (sR_ rfl (pl1 7 [1] 121 rfl ?_)))
  refine zir 8 1 121 129 (decide ((0:Int)<(W5 s.last))) (fun m w=>?_) ?_
  ·refine pl1 5 [1] 126 rfl (zv rfl (A4o rfl) (pp1 2 129 rfl ?_))
   exact zai 4 121 129 m
  refine pp1 1 2 rfl ?_
  subst hR
  refine ie (A8 ?_)
  exact zer hr hD (O3 rfl (B9 rfl)) () sb_ fn0
 refine A1 9 rfl (zrl 6 3 [1] [(112,ag (A2 ({Act.zero with kind:=44,text:=s.title})))] (zv rfl (A9i rfl (by first|omega|exact hkt|exact hkt0 opx|(dsimp only;omega))) (pp1 2 94 rfl (A3 (nx ?_)))))
 refine zjn rfl hR ?_ ?_<;>clear hR<;>intro hR a7 v
 ·refine sR_ rfl (pp1 1 2 rfl ?_)
  subst hR
  refine ie (A8 ?_)
  exact zer hr hD (O3 rfl (B9 rfl)) () sb_ fn0
 refine A6 (nx (sR_ rfl (pl1 7 [1] 121 rfl ?_)))
 refine zir 8 1 121 129 (decide ((0:Int)<(W5 s.last))) (fun q a0=>?_) ?_
 ·refine pl1 5 [1] 126 rfl (zv rfl (A4o rfl) (pp1 2 129 rfl ?_))
  exact zai 4 121 129 q
 refine pp1 1 2 rfl ?_
 subst hR
 refine ie (A8 ?_)
 exact zer hr hD (O3 rfl (B9 rfl)) () sb_ fn0
def Y4 (s:ScrC) (sMain:List (Rwc Cel)) (sAlt:List (Rwc Cel)) (sTabs:List Bool):Int :=
 (bif (!(A1e s sMain sAlt sTabs)) then 300 else 0)
theorem C2y {s:ScrC} {sMain sAlt:List (Rwc Cel)} {sTabs:List Bool} {sMainq:Option Addr} {sMainrs:List Rwq} {sMaink:Nat} {sAltq:Option Addr} {sAltrs:List Rwq} {sAltk:Nat} {sTabsq:Option Addr} {sTabsk:Nat} {R:Int} (hR:Y4 s sMain sAlt sTabs=R) (a:F8 sMainrs sMain:=by exact om_) (c:sMain.length≤9223372036854775807:=by exact om_) (g:sMain.length≤sMaink:=by exact om_) (b:F8 sAltrs sAlt:=by exact om_) (h:sAlt.length≤9223372036854775807:=by exact om_) (j:sAlt.length≤sAltk:=by exact om_) (e:sTabs.length≤9223372036854775807:=by exact om_) (f:sTabs.length≤sTabsk:=by exact om_) (k:s.title.length≤100000000:=by exact om_):G3 Tryz.prog 17 [ag (B6 s ⟨sMainq,sMain.length,sMaink⟩ ⟨sAltq,sAlt.length,sAltk⟩ ⟨none,0,0⟩ ⟨sTabsq,sTabs.length,sTabsk⟩)] [sl K1 sMainq sMainrs,G5 G4 sMainrs sMain,sl K1 sAltq sAltrs,G5 G4 sAltrs sAlt,sl N8 sTabsq sTabs,A4n,A4q,P0,O4,K0] (iv R):=by
 refine zce Tryz.func17 fun X hX hr hD=>?_
 replace hR:=(Y4.eq_1 ..).symm.trans hR
 have:=a.1
 have:=b.1
 refine sR_ rfl (H9 2 0 [] (fun d=>[(1,pt d 0)]) (fun d=>[bx d (B6 s ⟨sMainq,sMain.length,sMaink⟩ ⟨sAltq,sAlt.length,sAltk⟩ ⟨none,0,0⟩ ⟨sTabsq,sTabs.length,sTabsk⟩) 45]) (fun d=>(ie (A5 (sR_ rfl (H9 4 0 [0] (fun i=>[(3,pt i 0)]) (fun i=>[bx i (B6 s ⟨sMainq,sMain.length,sMaink⟩ ⟨sAltq,sAlt.length,sAltk⟩ ⟨none,0,0⟩ ⟨sTabsq,sTabs.length,sTabsk⟩) 79,bx d (B6 s ⟨sMainq,sMain.length,sMaink⟩ ⟨sAltq,sAlt.length,sAltk⟩ ⟨none,0,0⟩ ⟨sTabsq,sTabs.length,sTabsk⟩) 45]) (fun i=>(ie (sR_ rfl (pp1 1 7 rfl ?_))))))))))
 refine zc rfl (B4e rfl a om_ om_ b) fun _=>?_
 refine pp1 1 9 rfl (ie ?_)
 refine zjb rfl hR ?_ ?_<;>clear hR<;>intro hR l
 ·refine sR_ rfl (pp1 1 2 rfl ?_)
  subst hR
  refine ie (A8 ?_)
  exact E9 hr hD
 refine A6 (nx (sR_ rfl (pp1 1 2 rfl ?_)))
 subst hR
 refine ie (A8 ?_)
 exact E9 hr hD
@[reducible] def E3c:List MapEntry:=[⟨iv 1,.func (.func 39) #[] #[],0⟩,⟨iv 34,.func (.func 40) #[] #[],1⟩,⟨iv 3,.func (.func 41) #[] #[],2⟩,⟨iv 4,.func (.func 42) #[] #[],3⟩,⟨iv 24,.func (.func 42) #[] #[],4⟩,⟨iv 25,.func (.func 43) #[] #[],5⟩,⟨iv 6,.func (.func 44) #[] #[],6⟩,⟨iv 5,.func (.func 45) #[] #[],7⟩,⟨iv 8,.func (.func 46) #[] #[],8⟩,⟨iv 9,.func (.func 47) #[] #[],9⟩,⟨iv 11,.func (.func 48) #[] #[],10⟩,⟨iv 19,.func (.func 49) #[] #[],11⟩,⟨iv 23,.func (.func 50) #[] #[],12⟩,⟨iv 22,.func (.func 51) #[] #[],13⟩,⟨iv 20,.func (.func 52) #[] #[],14⟩,⟨iv 21,.func (.func 53) #[] #[],15⟩,⟨iv 38,.func (.func 54) #[] #[],16⟩,⟨iv 26,.func (.func 55) #[] #[],17⟩,⟨iv 27,.func (.func 56) #[] #[],18⟩,⟨iv 30,.func (.func 57) #[] #[],19⟩,⟨iv 28,.func (.func 58) #[] #[],20⟩,⟨iv 29,.func (.func 59) #[] #[],21⟩,⟨iv 31,.func (.func 60) #[] #[],22⟩,⟨iv 32,.func (.func 61) #[] #[],23⟩,⟨iv 33,.func (.func 62) #[] #[],24⟩,⟨iv 16,.func (.func 63) #[] #[],25⟩,⟨iv 15,.func (.func 64) #[] #[],26⟩,⟨iv 10,.func (.func 65) #[] #[],27⟩,⟨iv 35,.func (.func 66) #[] #[],28⟩,⟨iv 17,.func (.func 67) #[] #[],29⟩,⟨iv 7,.func (.func 68) #[] #[],30⟩,⟨iv 18,.func (.func 69) #[] #[],31⟩,⟨iv 39,.func (.func 70) #[] #[],32⟩,⟨iv 40,.func (.func 71) #[] #[],33⟩,⟨iv 44,.func (.func 72) #[] #[],34⟩,⟨iv 14,.func (.func 73) #[] #[],35⟩,⟨iv 36,.func (.func 74) #[] #[],36⟩,⟨iv 37,.func (.func 75) #[] #[],37⟩,⟨iv 12,.func (.func 76) #[] #[],38⟩,⟨iv 13,.func (.func 77) #[] #[],39⟩]
@[reducible] def R7:Obj:=.map E3c.toArray 40
def I6:Unit :=
 ()
set_option maxHeartbeats 1000000 in
theorem C0w {R:Unit} (hR:I6=R):Con Tryz.prog 19 [] [] [] (Nat) (fun x=>.map (some x)) (fun x=>[(x,R7)]) (fun x=>[]):=by
 refine zce Tryz.func19 fun X hX hr hD=>?_
 replace hR:=(I6.eq_1 ..).symm.trans hR
 refine sR_ rfl (pp0 1 rfl (ie (sR_ rfl (it rfl (W7 rfl) fun a=>?_))))
 refine B2q (m:=2) (mo:=1) (es':=E3c) B7f rfl 0 40 1 0 [] _ rfl okl ?_
 refine B1f (L':=[(a,R7)]) rfl ?_
 refine pp1 2 0 rfl ?_
 subst hR
 refine ie (A8 ?_)
 exact zer hr hD (O3 rfl (B9 rfl)) a sb_ fn0
def B4l:Bool :=
 false
theorem C0u {R:Bool} (hR:B4l=R):G3 Tryz.prog 20 [iv 3] [] (bv R):=by
 refine zce Tryz.func20 fun X hX hr hD=>?_
 replace hR:=(B4l.eq_1 ..).symm.trans hR
 refine sR_ rfl (pp0 1 rfl (ie (sR_ rfl (pp1 7 2 rfl ?_))))
 subst hR
 refine ie (A8 ?_)
 exact E9 hr hD
def B2f (an:Int) (am:Int) (acolor:Col) (atext:List UInt8):Bool :=
 false
theorem B7z {an am:Int} {acolor:Col} {atext:List UInt8} {R:Bool} (hR:B2f an am acolor atext=R):G3 Tryz.prog 21 [ag (A2 (⟨3,an,am,acolor,atext⟩:Act))] [] (bv R):=by
 refine zce Tryz.func21 fun X hX hr hD=>?_
 replace hR:=(B2f.eq_1 ..).symm.trans hR
 refine sR_ rfl (H9 2 0 [] (fun a=>[(1,pt a 0)]) (fun a=>[bx a (A2 (⟨3,an,am,acolor,atext⟩:Act)) 56]) (fun a=>(ie (A5 (sR_ rfl (pl1 2 [0] 5 rfl (ie (B4 (sR_ rfl (pp1 2 6 rfl (ie (A0f rfl (sR_ rfl (pp1 2 11 rfl (ie (A0f rfl (A6 (nx (sR_ rfl (it rfl (W7 rfl) fun b=>?_))))))))))))))))))))
 refine B2q (m:=2) (mo:=26) (es':=[⟨iv 1,bv true,0⟩,⟨iv 34,bv true,1⟩,⟨iv 2,bv true,2⟩,⟨iv 39,bv true,3⟩,⟨iv 36,bv true,4⟩,⟨iv 17,bv true,5⟩,⟨iv 7,bv true,6⟩,⟨iv 18,bv true,7⟩,⟨iv 10,bv true,8⟩,⟨iv 35,bv true,9⟩,⟨iv 40,bv true,10⟩,⟨iv 44,bv true,11⟩,⟨iv 45,bv true,12⟩,⟨iv 46,bv true,13⟩,⟨iv 12,bv true,14⟩,⟨iv 14,bv true,15⟩,⟨iv 41,bv true,16⟩,⟨iv 42,bv true,17⟩,⟨iv 43,bv true,18⟩]) A7v rfl 0 19 1 0 [] _ rfl okl ?_
 refine B1f (L':=[(b,.map #[⟨iv 1,bv true,0⟩,⟨iv 34,bv true,1⟩,⟨iv 2,bv true,2⟩,⟨iv 39,bv true,3⟩,⟨iv 36,bv true,4⟩,⟨iv 17,bv true,5⟩,⟨iv 7,bv true,6⟩,⟨iv 18,bv true,7⟩,⟨iv 10,bv true,8⟩,⟨iv 35,bv true,9⟩,⟨iv 40,bv true,10⟩,⟨iv 44,bv true,11⟩,⟨iv 45,bv true,12⟩,⟨iv 46,bv true,13⟩,⟨iv 12,bv true,14⟩,⟨iv 14,bv true,15⟩,⟨iv 41,bv true,16⟩,⟨iv 42,bv true,17⟩,⟨iv 43,bv true,18⟩] 19),bx a (A2 (⟨3,an,am,acolor,atext⟩:Act)) 56]) rfl ?_
 refine pp1 2 3 rfl (ie (sR_ rfl (pp2 2 28 29 rfl (ix rfl (A7 (v:=iv 3) ty3 rfl rfl 1 rfl rfl) (ix rfl (A3s (z:=bv false) A7v rfl rfl rfl 0 rfl okl okl) (pp1 1 2 rfl ?_))))))
 subst hR
 refine ie (A8 ?_)
 exact E9 hr hD
def A6v (c:Cur) (n:Int) (e:Int) (d:Int) (f:Int) (b:Int) (a:Bool):Cur :=
 {c with col:=(H4 e d f b a (IntKind.i64.wrap (c.col - n)))}
theorem C2t {c:Cur} {n e d f b:Int} {a:Bool} {cb p2b:Nat} {R:Cur} (hR:A6v c n e d f b a=R):Con Tryz.prog 204 [pt cb 0,iv n,pt p2b 0] [bx cb (B8 c) 23,bx p2b [iv e,iv d,iv f,iv b,bv a] 134] [] (Unit) (fun x=>.tuple #[]) (fun x=>[bx cb (B8 R) 23,bx p2b [iv e,iv d,iv f,iv b,bv a] 134]) (fun x=>[]):=by
 refine zce Tryz.func204 fun X hX hr hD=>?_
 replace hR:=(A6v.eq_1 ..).symm.trans hR
 refine sh' 12 [(11,[bx cb (B8 c) 23]),(12,[bx p2b [iv e,iv d,iv f,iv b,bv a] 134])] [] [bx cb (B8 c) 23,bx p2b [iv e,iv d,iv f,iv b,bv a] 134] (zml 12 0) okl rfl okl okl okl sb_ B0.refl ?_
 refine zhp [0,2,3,4,6] 7 (zml 12 93) [(5,pt cb 0),(9,pt cb 1),(11,iv n)] ?_
 refine zhl 1 [bx cb (B8 c) 23,bx p2b [iv e,iv d,iv f,iv b,bv a] 134] (zml 12 95) rfl (F7 (us:=[iv e,iv d,iv f,iv b,bv a]) D0e rfl rfl 1 rfl rfl rfl) ?_
 refine zhl 5 [bx cb (B8 c) 23,bx p2b [iv e,iv d,iv f,iv b,bv a] 134] (zml 12 127) rfl (A7 (v:=iv c.col) ty3 rfl rfl 0 rfl rfl) ?_
 refine zhk 7 (zml 12 255) rfl (G7.pure rfl) ?_
 refine zho 8 [bx cb (B8 c) 23,bx p2b [iv e,iv d,iv f,iv b,bv a] 134] (zml 12 511) rfl (Det.tri (N3 (A4s rfl) rfl rfl rfl rfl rfl fn0)) (fun _=>sb_) (fun _=>fn0) fun _=>?_
 refine zhp [9,10] 1 (zml 12 2047) [(15,pt cb 1)] ?_
 refine zho 11 [bx p2b [iv e,iv d,iv f,iv b,bv a] 134] (zml 12 4095) rfl (F2 (us:=[iv (H4 e d f b a (IntKind.i64.wrap (c.col - n)))]) (cs':=B8 ({c with col:=(H4 e d f b a (IntKind.i64.wrap (c.col - n)))})) ty3 rfl rfl rfl 0 rfl rfl rfl rfl rfl rfl) (fun _=>sb_) (fun _=>fn0) fun _=>?_
 refine A0b okl ?_
 subst hR
 exact zen hr hD (A1a rfl) () sb_ fn0
def A0y (c:Cur) (p10f0:Int) (p10f1:Int) (p10f2:Int) (p10f3:Int) (p10f4:Bool) (p11f0:Int) (p11f1:Int) (p11f2:Int) (p11f3:Int) (p11f4:Bool) (p12cRows:Int) (p12cCols:Int) (p12cTop:Int) (p12cBottom:Int) (p12cOrigin:Bool) (p3:Int):Cur :=
 (A6v c p3 p12cRows p12cCols p12cTop p12cBottom p12cOrigin)
theorem C2r {c:Cur} {p10f0 p10f1 p10f2 p10f3:Int} {p10f4:Bool} {p11f0 p11f1 p11f2 p11f3:Int} {p11f4:Bool} {p12cRows p12cCols p12cTop p12cBottom:Int} {p12cOrigin:Bool} {p3:Int} {cb p1b p12cb p2b p3b:Nat} {R:Cur} (hR:A0y c p10f0 p10f1 p10f2 p10f3 p10f4 p11f0 p11f1 p11f2 p11f3 p11f4 p12cRows p12cCols p12cTop p12cBottom p12cOrigin p3=R):Con Tryz.prog 206 [pt cb 0,pt p1b 0,pt p2b 0,pt p3b 0] [bx cb (B8 c) 23,bx p12cb [iv p12cRows,iv p12cCols,iv p12cTop,iv p12cBottom,bv p12cOrigin] 134,bx p1b [.func (.func 201) #[ag [iv p10f0,iv p10f1,iv p10f2,iv p10f3,bv p10f4]] #[],.func (.func 202) #[ag [iv p11f0,iv p11f1,iv p11f2,iv p11f3,bv p11f4]] #[],.func (.func 203) #[] #[pt p12cb 0],.func (.func 204) #[] #[pt p12cb 0]] 245,bx p2b [iv 3] 3,bx p3b [iv p3] 3] [] (Unit) (fun x=>.tuple #[]) (fun x=>[bx cb (B8 R) 23,bx p12cb [iv p12cRows,iv p12cCols,iv p12cTop,iv p12cBottom,bv p12cOrigin] 134,bx p1b [.func (.func 201) #[ag [iv p10f0,iv p10f1,iv p10f2,iv p10f3,bv p10f4]] #[],.func (.func 202) #[ag [iv p11f0,iv p11f1,iv p11f2,iv p11f3,bv p11f4]] #[],.func (.func 203) #[] #[pt p12cb 0],.func (.func 204) #[] #[pt p12cb 0]] 245,bx p2b [iv 3] 3,bx p3b [iv p3] 3]) (fun x=>[]):=by
 refine zce Tryz.func206 fun X hX hr hD=>?_
 replace hR:=(A0y.eq_1 ..).symm.trans hR
 refine sh' 6 [(5,[bx cb (B8 c) 23]),(6,[bx p12cb [iv p12cRows,iv p12cCols,iv p12cTop,iv p12cBottom,bv p12cOrigin] 134]),(6,[bx p1b [.func (.func 201) #[ag [iv p10f0,iv p10f1,iv p10f2,iv p10f3,bv p10f4]] #[],.func (.func 202) #[ag [iv p11f0,iv p11f1,iv p11f2,iv p11f3,bv p11f4]] #[],.func (.func 203) #[] #[pt p12cb 0],.func (.func 204) #[] #[pt p12cb 0]] 245]),(6,[bx p2b [iv 3] 3]),(6,[bx p3b [iv p3] 3])] [] [bx cb (B8 c) 23,bx p12cb [iv p12cRows,iv p12cCols,iv p12cTop,iv p12cBottom,bv p12cOrigin] 134,bx p1b [.func (.func 201) #[ag [iv p10f0,iv p10f1,iv p10f2,iv p10f3,bv p10f4]] #[],.func (.func 202) #[ag [iv p11f0,iv p11f1,iv p11f2,iv p11f3,bv p11f4]] #[],.func (.func 203) #[] #[pt p12cb 0],.func (.func 204) #[] #[pt p12cb 0]] 245,bx p2b [iv 3] 3,bx p3b [iv p3] 3] (zml 6 0) okl rfl okl okl okl sb_ B0.refl ?_
 refine zhp [3] 5 (zml 6 8) [(8,pt cb 0)] ?_
 refine zhl 0 [bx p12cb [iv p12cRows,iv p12cCols,iv p12cTop,iv p12cBottom,bv p12cOrigin] 134,bx p1b [.func (.func 201) #[ag [iv p10f0,iv p10f1,iv p10f2,iv p10f3,bv p10f4]] #[],.func (.func 202) #[ag [iv p11f0,iv p11f1,iv p11f2,iv p11f3,bv p11f4]] #[],.func (.func 203) #[] #[pt p12cb 0],.func (.func 204) #[] #[pt p12cb 0]] 245,bx p2b [iv 3] 3,bx p3b [iv p3] 3] (zml 6 9) rfl (A7 (v:=iv 3) ty3 rfl rfl 2 rfl rfl) ?_
 refine zhl 1 [bx p12cb [iv p12cRows,iv p12cCols,iv p12cTop,iv p12cBottom,bv p12cOrigin] 134,bx p1b [.func (.func 201) #[ag [iv p10f0,iv p10f1,iv p10f2,iv p10f3,bv p10f4]] #[],.func (.func 202) #[ag [iv p11f0,iv p11f1,iv p11f2,iv p11f3,bv p11f4]] #[],.func (.func 203) #[] #[pt p12cb 0],.func (.func 204) #[] #[pt p12cb 0]] 245,bx p2b [iv 3] 3,bx p3b [iv p3] 3] (zml 6 11) rfl (Z5 Tryz.underlying245 C2l rfl rfl rfl 3 rfl rfl) ?_
 refine zhl 2 [bx cb (B8 c) 23,bx p12cb [iv p12cRows,iv p12cCols,iv p12cTop,iv p12cBottom,bv p12cOrigin] 134,bx p1b [.func (.func 201) #[ag [iv p10f0,iv p10f1,iv p10f2,iv p10f3,bv p10f4]] #[],.func (.func 202) #[ag [iv p11f0,iv p11f1,iv p11f2,iv p11f3,bv p11f4]] #[],.func (.func 203) #[] #[pt p12cb 0],.func (.func 204) #[] #[pt p12cb 0]] 245,bx p2b [iv 3] 3,bx p3b [iv p3] 3] (zml 6 15) rfl (A7 (v:=.func (.func 204) #[] #[pt p12cb 0]) C2l rfl rfl 2 rfl rfl) ?_
 refine zhl 4 [bx cb (B8 c) 23,bx p12cb [iv p12cRows,iv p12cCols,iv p12cTop,iv p12cBottom,bv p12cOrigin] 134,bx p1b [.func (.func 201) #[ag [iv p10f0,iv p10f1,iv p10f2,iv p10f3,bv p10f4]] #[],.func (.func 202) #[ag [iv p11f0,iv p11f1,iv p11f2,iv p11f3,bv p11f4]] #[],.func (.func 203) #[] #[pt p12cb 0],.func (.func 204) #[] #[pt p12cb 0]] 245,bx p2b [iv 3] 3,bx p3b [iv p3] 3] (zml 6 31) rfl (A7 (v:=iv p3) ty3 rfl rfl 4 rfl rfl) ?_
 refine zho 5 [bx p12cb [iv p12cRows,iv p12cCols,iv p12cTop,iv p12cBottom,bv p12cOrigin] 134,bx p1b [.func (.func 201) #[ag [iv p10f0,iv p10f1,iv p10f2,iv p10f3,bv p10f4]] #[],.func (.func 202) #[ag [iv p11f0,iv p11f1,iv p11f2,iv p11f3,bv p11f4]] #[],.func (.func 203) #[] #[pt p12cb 0],.func (.func 204) #[] #[pt p12cb 0]] 245,bx p2b [iv 3] 3,bx p3b [iv p3] 3] (zml 6 63) rfl (C8 (L2:=[bx p1b [.func (.func 201) #[ag [iv p10f0,iv p10f1,iv p10f2,iv p10f3,bv p10f4]] #[],.func (.func 202) #[ag [iv p11f0,iv p11f1,iv p11f2,iv p11f3,bv p11f4]] #[],.func (.func 203) #[] #[pt p12cb 0],.func (.func 204) #[] #[pt p12cb 0]] 245,bx p2b [iv 3] 3,bx p3b [iv p3] 3]) (C2t rfl) rfl rfl rfl rfl rfl fn0 (G9 [[bx cb (B8 c) 23],[bx p12cb [iv p12cRows,iv p12cCols,iv p12cTop,iv p12cBottom,bv p12cOrigin] 134],[bx p1b [.func (.func 201) #[ag [iv p10f0,iv p10f1,iv p10f2,iv p10f3,bv p10f4]] #[],.func (.func 202) #[ag [iv p11f0,iv p11f1,iv p11f2,iv p11f3,bv p11f4]] #[],.func (.func 203) #[] #[pt p12cb 0],.func (.func 204) #[] #[pt p12cb 0]] 245],[bx p2b [iv 3] 3],[bx p3b [iv p3] 3]] [0,1,2,3,4] 5 rfl ozw rfl [[bx cb (B8 c) 23],[bx p12cb [iv p12cRows,iv p12cCols,iv p12cTop,iv p12cBottom,bv p12cOrigin] 134],[bx p1b [.func (.func 201) #[ag [iv p10f0,iv p10f1,iv p10f2,iv p10f3,bv p10f4]] #[],.func (.func 202) #[ag [iv p11f0,iv p11f1,iv p11f2,iv p11f3,bv p11f4]] #[],.func (.func 203) #[] #[pt p12cb 0],.func (.func 204) #[] #[pt p12cb 0]] 245],[bx p2b [iv 3] 3],[bx p3b [iv p3] 3]] rfl opv) (fun _=>[bx cb (B8 (A6v c p3 p12cRows p12cCols p12cTop p12cBottom p12cOrigin)) 23,bx p12cb [iv p12cRows,iv p12cCols,iv p12cTop,iv p12cBottom,bv p12cOrigin] 134,bx p1b [.func (.func 201) #[ag [iv p10f0,iv p10f1,iv p10f2,iv p10f3,bv p10f4]] #[],.func (.func 202) #[ag [iv p11f0,iv p11f1,iv p11f2,iv p11f3,bv p11f4]] #[],.func (.func 203) #[] #[pt p12cb 0],.func (.func 204) #[] #[pt p12cb 0]] 245,bx p2b [iv 3] 3,bx p3b [iv p3] 3]) (fun _=>rfl)) (fun _=>sb_) (fun _=>fn0) fun _=>?_
 refine A0b okl ?_
 subst hR
 exact zen hr hD (A1a rfl) () sb_ fn0
def A7o (fR:Int) (fC:Int) (fTop:Int) (fBottom:Int) (fOrigin:Bool) (c:Cur) (g:Int) (i:Int) (o:Int) (h:Int) (k:Bool) (l:Int) (p:Int) (n:Int) (j:Int) (m:Bool) (e:Int) (d:Int) (f:Int) (a:Int) (b:Bool) (q:Int):Cur×Int :=
 (bif (!decide ((C2 fR fC fTop fBottom fOrigin c)=0)) then (Cur.zero,(C2 fR fC fTop fBottom fOrigin c)) else ((A0y ({c with wrap:=false}) g i o h k l p n j m e d f a b q),0))
theorem C6n (fR:Int) (fC:Int) (fTop:Int) (fBottom:Int) (fOrigin:Bool) (c:Cur) (m:Int) (n:Int) (k:Int) (h:Int) (o:Bool) (j:Int) (l:Int) (q:Int) (i:Int) (p:Bool) (f:Int) (e:Int) (g:Int) (d:Int) (b:Bool) (u:Int) (t:Nat) (a:Nat) (s:Nat) (r:Nat) (R:Cur×Int) (hR:A7o fR fC fTop fBottom fOrigin c m n k h o j l q i p f e g d b u=R):Con Tryz.prog 205 [ag [iv fR,iv fC,iv fTop,iv fBottom,bv fOrigin],ag (B8 c),.func (.func 206) #[] #[pt t 0,pt s 0,pt r 0]] [bx a [iv f,iv e,iv g,iv d,bv b] 134,bx t [.func (.func 201) #[ag [iv m,iv n,iv k,iv h,bv o]] #[],.func (.func 202) #[ag [iv j,iv l,iv q,iv i,bv p]] #[],.func (.func 203) #[] #[pt a 0],.func (.func 204) #[] #[pt a 0]] 245,bx s [iv 3] 3,bx r [iv u] 3] [] (Unit) (fun x=>.tuple #[ag (B8 R.1),iv R.2]) (fun x=>[bx a [iv f,iv e,iv g,iv d,bv b] 134,bx t [.func (.func 201) #[ag [iv m,iv n,iv k,iv h,bv o]] #[],.func (.func 202) #[ag [iv j,iv l,iv q,iv i,bv p]] #[],.func (.func 203) #[] #[pt a 0],.func (.func 204) #[] #[pt a 0]] 245,bx s [iv 3] 3,bx r [iv u] 3]) (fun x=>[]):=by
 refine zco Tryz.func205 [(0,ag [iv fR,iv fC,iv fTop,iv fBottom,bv fOrigin]),(1,ag (B8 c)),(2,.func (.func 206) #[] #[pt t 0,pt s 0,pt r 0])] fun X hX hr hD=>?_
 replace hR:=(A7o.eq_1 ..).symm.trans hR
 refine sr 4 rfl (C0f 4 0 [] (fun v w y=>[(3,pt v 0),(4,pt w 0),(6,pt y 0)]) (fun v w y=>[bx y (B8 Cur.zero) 23,bx w (B8 c) 23,bx v [iv fR,iv fC,iv fTop,iv fBottom,bv fOrigin] 134,bx a [iv f,iv e,iv g,iv d,bv b] 134,bx t [.func (.func 201) #[ag [iv m,iv n,iv k,iv h,bv o]] #[],.func (.func 202) #[ag [iv j,iv l,iv q,iv i,bv p]] #[],.func (.func 203) #[] #[pt a 0],.func (.func 204) #[] #[pt a 0]] 245,bx s [iv 3] 3,bx r [iv u] 3]) (fun v w y=>(ie (A5 (sr 4 rfl (zrl 2 2 [2,1] [(9,ag [iv fR,iv fC,iv fTop,iv fBottom,bv fOrigin]),(10,ag (B8 c))] (zca (M7 (fR:=fR) (fC:=fC) (fTop:=fTop) (fBottom:=fBottom) (fOrigin:=fOrigin) (c:=c) rfl) fn0 (ip' 1 0 [(8,iv (C2 fR fC fTop fBottom fOrigin c))] (ie (sr 2 rfl (ip' 2 0 [(13,bv (!decide ((C2 fR fC fTop fBottom fOrigin c)=0)))] (ie ?_))))))))))))
 refine zjn rfl hR ?_ ?_<;>clear hR<;>intro hR h4 z
 ·refine sr 4 rfl (zrg 4 0 [0] [(7,iv (C2 fR fC fTop fBottom fOrigin c))] [bx y (B8 Cur.zero) 23,bx w (B8 c) 23,bx v [iv fR,iv fC,iv fTop,iv fBottom,bv fOrigin] 134,bx a [iv f,iv e,iv g,iv d,bv b] 134,bx t [.func (.func 201) #[ag [iv m,iv n,iv k,iv h,bv o]] #[],.func (.func 202) #[ag [iv j,iv l,iv q,iv i,bv p]] #[],.func (.func 203) #[] #[pt a 0],.func (.func 204) #[] #[pt a 0]] 245,bx s [iv 3] 3,bx r [iv u] 3] ?_)
  subst hR
  refine ie (A8 ?_)
  exact zer hr hD (U6 rfl (D4 (us:=B8 Cur.zero) X6 rfl 0 rfl rfl rfl) (B9 rfl)) () (mk [false,false,false,true,true,true,true] rfl) fn0
 refine A6 (nx (sr 2 rfl (zrg 2 0 [1] [] [bx y (B8 Cur.zero) 23,bx w (B8 ({c with wrap:=false})) 23,bx v [iv fR,iv fC,iv fTop,iv fBottom,bv fOrigin] 134,bx a [iv f,iv e,iv g,iv d,bv b] 134,bx t [.func (.func 201) #[ag [iv m,iv n,iv k,iv h,bv o]] #[],.func (.func 202) #[ag [iv j,iv l,iv q,iv i,bv p]] #[],.func (.func 203) #[] #[pt a 0],.func (.func 204) #[] #[pt a 0]] 245,bx s [iv 3] 3,bx r [iv u] 3] (ie (sr 2 rfl (ip' 1 1 [(17,.func (.func 206) #[] #[pt t 0,pt s 0,pt r 0])] (it rfl (C8 (L2:=[bx y (B8 Cur.zero) 23,bx v [iv fR,iv fC,iv fTop,iv fBottom,bv fOrigin] 134]) (C2r (c:=({c with wrap:=false})) (p10f0:=m) (p10f1:=n) (p10f2:=k) (p10f3:=h) (p10f4:=o) (p11f0:=j) (p11f1:=l) (p11f2:=q) (p11f3:=i) (p11f4:=p) (p12cRows:=f) (p12cCols:=e) (p12cTop:=g) (p12cBottom:=d) (p12cOrigin:=b) (p3:=u) (cb:=w) (p1b:=t) (p12cb:=a) (p2b:=s) (p3b:=r) rfl) rfl rfl rfl rfl rfl fn0 (G9 [[bx y (B8 Cur.zero) 23],[bx w (B8 ({c with wrap:=false})) 23],[bx v [iv fR,iv fC,iv fTop,iv fBottom,bv fOrigin] 134],[bx a [iv f,iv e,iv g,iv d,bv b] 134],[bx t [.func (.func 201) #[ag [iv m,iv n,iv k,iv h,bv o]] #[],.func (.func 202) #[ag [iv j,iv l,iv q,iv i,bv p]] #[],.func (.func 203) #[] #[pt a 0],.func (.func 204) #[] #[pt a 0]] 245],[bx s [iv 3] 3],[bx r [iv u] 3]] [1,3,4,5,6,0,2] 7 rfl ozw rfl [[bx w (B8 ({c with wrap:=false})) 23],[bx a [iv f,iv e,iv g,iv d,bv b] 134],[bx t [.func (.func 201) #[ag [iv m,iv n,iv k,iv h,bv o]] #[],.func (.func 202) #[ag [iv j,iv l,iv q,iv i,bv p]] #[],.func (.func 203) #[] #[pt a 0],.func (.func 204) #[] #[pt a 0]] 245],[bx s [iv 3] 3],[bx r [iv u] 3],[bx y (B8 Cur.zero) 23],[bx v [iv fR,iv fC,iv fTop,iv fBottom,bv fOrigin] 134]] rfl opv) (fun _=>[bx w (B8 (A0y ({c with wrap:=false}) m n k h o j l q i p f e g d b u)) 23,bx a [iv f,iv e,iv g,iv d,bv b] 134,bx t [.func (.func 201) #[ag [iv m,iv n,iv k,iv h,bv o]] #[],.func (.func 202) #[ag [iv j,iv l,iv q,iv i,bv p]] #[],.func (.func 203) #[] #[pt a 0],.func (.func 204) #[] #[pt a 0]] 245,bx s [iv 3] 3,bx r [iv u] 3,bx y (B8 Cur.zero) 23,bx v [iv fR,iv fC,iv fTop,iv fBottom,bv fOrigin] 134]) (fun _=>rfl)) fun _=>?_)))))))
 refine ie (sr 3 rfl (zrg 3 0 [0,5] [(7,iv 0)] [bx w (B8 (A0y ({c with wrap:=false}) m n k h o j l q i p f e g d b u)) 23,bx a [iv f,iv e,iv g,iv d,bv b] 134,bx t [.func (.func 201) #[ag [iv m,iv n,iv k,iv h,bv o]] #[],.func (.func 202) #[ag [iv j,iv l,iv q,iv i,bv p]] #[],.func (.func 203) #[] #[pt a 0],.func (.func 204) #[] #[pt a 0]] 245,bx s [iv 3] 3,bx r [iv u] 3,bx y (B8 (A0y ({c with wrap:=false}) m n k h o j l q i p f e g d b u)) 23,bx v [iv fR,iv fC,iv fTop,iv fBottom,bv fOrigin] 134] ?_))
 subst hR
 refine ie (A8 ?_)
 exact zer hr hD (U6 rfl (D4 (us:=B8 (A0y ({c with wrap:=false}) m n k h o j l q i p f e g d b u)) X6 rfl 5 rfl rfl rfl) (B9 rfl)) () (mk [false,true,true,true,true,false,false] rfl) fn0
def A1l (fR:Int) (fC:Int) (fTop:Int) (fBottom:Int) (fOrigin:Bool) (c:Cur) (n:Int):Cur×Int :=
 (bif (!decide ((C2 fR fC fTop fBottom fOrigin c)=0)) then (Cur.zero,(C2 fR fC fTop fBottom fOrigin c)) else (bif (decide (n<0)) then (Cur.zero,2) else (C9 (A7o fR fC fTop fBottom fOrigin c fR fC fTop fBottom fOrigin fR fC fTop fBottom fOrigin fR fC fTop fBottom fOrigin (if (IntKind.i64.wrap (fR+fC))<n then (IntKind.i64.wrap (fR+fC)) else n)) fun (a:Cur×Int)=>(a.1,a.2))))
theorem B6z {fR fC fTop fBottom:Int} {fOrigin:Bool} {c:Cur} {n:Int} {R:Cur×Int} (hR:A1l fR fC fTop fBottom fOrigin c n=R):G3 Tryz.prog 128 [ag [iv fR,iv fC,iv fTop,iv fBottom,bv fOrigin],ag (B8 c),iv 3,iv n] [] (.tuple #[ag (B8 R.1),iv R.2]):=by
 refine zce Tryz.func128 fun X hX hr hD=>?_
 replace hR:=(A1l.eq_1 ..).symm.trans hR
 refine sR_ rfl (C0f 3 3 [] (fun a e b=>[(4,pt a 0),(5,pt e 0),(6,pt b 0)]) (fun a e b=>[bx b [iv 3] 3,bx e (B8 c) 23,bx a [iv fR,iv fC,iv fTop,iv fBottom,bv fOrigin] 134]) (fun a e b=>?_))
 refine A8j 3 0 [] (fun d f=>[(7,pt d 0),(8,pt f 0)]) (fun d f=>[bx f (B8 Cur.zero) 23,bx d [iv n] 3,bx b [iv 3] 3,bx e (B8 c) 23,bx a [iv fR,iv fC,iv fTop,iv fBottom,bv fOrigin] 134]) (fun d f=>?_)
 refine ie (A5 (sR_ rfl (zrl 2 2 [4,3] [(12,ag [iv fR,iv fC,iv fTop,iv fBottom,bv fOrigin]),(13,ag (B8 c))] (zv rfl (M7 rfl) (pp1 1 10 rfl (ie (sR_ rfl (pp1 2 16 rfl (ie ?_)))))))))
 refine zjn rfl hR ?_ ?_<;>clear hR<;>intro hR o j
 ·refine sR_ rfl (zrg 4 0 [0] [(9,iv (C2 fR fC fTop fBottom fOrigin c))] [bx f (B8 Cur.zero) 23,bx d [iv n] 3,bx b [iv 3] 3,bx e (B8 c) 23,bx a [iv fR,iv fC,iv fTop,iv fBottom,bv fOrigin] 134] ?_)
  subst hR
  refine ie (A8 ?_)
  exact zer hr hD (U6 rfl (D4 (us:=B8 Cur.zero) X6 rfl 0 rfl rfl rfl) (B9 rfl)) () sb_ fn0
 refine A6 (nx (A5 (sR_ rfl (pl1 10 [2,2,1] 28 rfl (ie ?_)))))
 refine zjd rfl hR ?_ ?_<;>clear hR<;>intro hR m k
 ·refine sR_ rfl (zrg 3 0 [0] [(9,iv 2)] [bx f (B8 Cur.zero) 23,bx d [iv n] 3,bx b [iv 3] 3,bx e (B8 c) 23,bx a [iv fR,iv fC,iv fTop,iv fBottom,bv fOrigin] 134] ?_)
  subst hR
  refine ie (A8 ?_)
  exact zer hr hD (U6 rfl (D4 (us:=B8 Cur.zero) X6 rfl 0 rfl rfl rfl) (B9 rfl)) () sb_ fn0
 refine A6 (nx (sR_ rfl (pl3 5 [1,4,4] 30 32 34 rfl (ix rfl (G7.pure rfl) (zrg 2 0 [1] [] [bx f (B8 Cur.zero) 23,bx d [iv (if (IntKind.i64.wrap (fR+fC))<n then (IntKind.i64.wrap (fR+fC)) else n)] 3,bx b [iv 3] 3,bx e (B8 c) 23,bx a [iv fR,iv fC,iv fTop,iv fBottom,bv fOrigin] 134] (ie (sR_ rfl (H9 9 0 [4,4,0] (fun g=>[(11,pt g 0)]) (fun g=>[bx g [.func (.func 201) #[ag [iv fR,iv fC,iv fTop,iv fBottom,bv fOrigin]] #[],.func (.func 202) #[ag [iv fR,iv fC,iv fTop,iv fBottom,bv fOrigin]] #[],.func (.func 203) #[] #[pt a 0],.func (.func 204) #[] #[pt a 0]] 245,bx f (B8 Cur.zero) 23,bx d [iv (if (IntKind.i64.wrap (fR+fC))<n then (IntKind.i64.wrap (fR+fC)) else n)] 3,bx b [iv 3] 3,bx e (B8 c) 23,bx a [iv fR,iv fC,iv fTop,iv fBottom,bv fOrigin] 134]) (fun g=>(ie (sR_ rfl (zrl 3 5 [5,4] [(44,ag [iv fR,iv fC,iv fTop,iv fBottom,bv fOrigin]),(45,ag (B8 c)),(46,.func (.func 206) #[] #[pt g 0,pt b 0,pt d 0])] ?_))))))))))))
 have l:=D0 hR;clear hR;obtain ⟨h,i,hR⟩:=l
 refine zc rfl (C6n fR fC fTop fBottom fOrigin c fR fC fTop fBottom fOrigin fR fC fTop fBottom fOrigin fR fC fTop fBottom fOrigin (if (IntKind.i64.wrap (fR+fC))<n then (IntKind.i64.wrap (fR+fC)) else n) g a b d h i) fun _=>?_
 refine zrg 4 0 [4] [(9,iv h.2)] [bx a [iv fR,iv fC,iv fTop,iv fBottom,bv fOrigin] 134,bx g [.func (.func 201) #[ag [iv fR,iv fC,iv fTop,iv fBottom,bv fOrigin]] #[],.func (.func 202) #[ag [iv fR,iv fC,iv fTop,iv fBottom,bv fOrigin]] #[],.func (.func 203) #[] #[pt a 0],.func (.func 204) #[] #[pt a 0]] 245,bx b [iv 3] 3,bx d [iv (if (IntKind.i64.wrap (fR+fC))<n then (IntKind.i64.wrap (fR+fC)) else n)] 3,bx f (B8 h.1) 23,bx e (B8 c) 23] ?_
 subst hR
 refine ie (A8 ?_)
 exact zer hr hD (U6 rfl (D4 (us:=B8 h.1) X6 rfl 4 rfl rfl rfl) (B9 rfl)) () sb_ fn0
def R4 (s:ScrC) (sMain:List (Rwc Cel)) (sAlt:List (Rwc Cel)) (sTabs:List Bool) (p1:Act):ScrC :=
 (C9 (A0 s sMain sAlt sTabs) fun (a:Int×Int×Int×Int×Bool)=>(C9 (A1l a.1 a.2.1 a.2.2.1 a.2.2.2.1 a.2.2.2.2 s.cursor 1) fun (b:Cur×Int)=>{s with cursor:=b.1}))
theorem B6o {s:ScrC} {sMain sAlt:List (Rwc Cel)} {sTabs:List Bool} {p1:Act} {sb:Nat} {sMainq:Option Addr} {sMainrs:List Rwq} {sMaink:Nat} {sAltq:Option Addr} {sAltrs:List Rwq} {sAltk:Nat} {sTabsq:Option Addr} {sTabsk:Nat} {R:ScrC} (hR:R4 s sMain sAlt sTabs p1=R) (a:F8 sMainrs sMain:=by exact om_) (d:sMain.length≤9223372036854775807:=by exact om_) (e:sMain.length≤sMaink:=by exact om_) (b:F8 sAltrs sAlt:=by exact om_) (h:sAlt.length≤9223372036854775807:=by exact om_) (i:sAlt.length≤sAltk:=by exact om_) (f:sTabs.length≤9223372036854775807:=by exact om_) (g:sTabs.length≤sTabsk:=by exact om_):Con Tryz.prog 41 [pt sb 0,ag (A2 p1)] [bx sb (B6 s ⟨sMainq,sMain.length,sMaink⟩ ⟨sAltq,sAlt.length,sAltk⟩ ⟨none,0,0⟩ ⟨sTabsq,sTabs.length,sTabsk⟩) 79] [sl K1 sMainq sMainrs,G5 G4 sMainrs sMain,sl K1 sAltq sAltrs,G5 G4 sAltrs sAlt,sl N8 sTabsq sTabs] (Unit) (fun x=>.tuple #[]) (fun x=>[bx sb (B6 R ⟨sMainq,sMain.length,sMaink⟩ ⟨sAltq,sAlt.length,sAltk⟩ ⟨none,0,0⟩ ⟨sTabsq,sTabs.length,sTabsk⟩) 79]) (fun x=>[]):=by
 refine zce Tryz.func41 fun X hX hr hD=>?_
 replace hR:=(R4.eq_1 ..).symm.trans hR
 have:=a.1
 have:=b.1
 refine sR_ rfl (H9 1 0 [] (fun c=>[]) (fun c=>[bx c (A2 p1) 56,bx sb (B6 s ⟨sMainq,sMain.length,sMaink⟩ ⟨sAltq,sAlt.length,sAltk⟩ ⟨none,0,0⟩ ⟨sTabsq,sTabs.length,sTabsk⟩) 79]) (fun c=>(ie (sh' 16 [(16,[bx c (A2 p1) 56]),(15,[bx sb (B6 s ⟨sMainq,sMain.length,sMaink⟩ ⟨sAltq,sAlt.length,sAltk⟩ ⟨none,0,0⟩ ⟨sTabsq,sTabs.length,sTabsk⟩) 79])] [sl K1 sMainq sMainrs,G5 G4 sMainrs sMain,sl K1 sAltq sAltrs,G5 G4 sAltrs sAlt,sl N8 sTabsq sTabs] [bx c (A2 p1) 56,bx sb (B6 s ⟨sMainq,sMain.length,sMaink⟩ ⟨sAltq,sAlt.length,sAltk⟩ ⟨none,0,0⟩ ⟨sTabsq,sTabs.length,sTabsk⟩) 79] (zml 16 0) okl rfl okl okl okl sb_ B0.refl ?_))))
 refine zhp [0,1,3,4,5,6] 10 (zml 16 123) [(5,pt sb 0),(6,pt sb 0),(11,pt sb 6)] ?_
 refine zhl 7 [bx c (A2 p1) 56,bx sb (B6 s ⟨sMainq,sMain.length,sMaink⟩ ⟨sAltq,sAlt.length,sAltk⟩ ⟨none,0,0⟩ ⟨sTabsq,sTabs.length,sTabsk⟩) 79] (zml 16 251) rfl (F7 (us:=B8 s.cursor) X6 rfl rfl 1 rfl rfl rfl) ?_
 have m:=D0 hR;clear hR;obtain ⟨n,l,hR⟩:=m
 refine zho 2 [bx c (A2 p1) 56,bx sb (B6 s ⟨sMainq,sMain.length,sMaink⟩ ⟨sAltq,sAlt.length,sAltk⟩ ⟨none,0,0⟩ ⟨sTabsq,sTabs.length,sTabsk⟩) 79] (zml 16 255) rfl (V8 (L2:=[bx c (A2 p1) 56]) (J7 l a om_ om_ b) rfl rfl rfl rfl rfl B0.refl (G9 [[bx c (A2 p1) 56],[bx sb (B6 s ⟨sMainq,sMain.length,sMaink⟩ ⟨sAltq,sAlt.length,sAltk⟩ ⟨none,0,0⟩ ⟨sTabsq,sTabs.length,sTabsk⟩) 79]] [1,0] 2 rfl ozw rfl [[bx sb (B6 s ⟨sMainq,sMain.length,sMaink⟩ ⟨sAltq,sAlt.length,sAltk⟩ ⟨none,0,0⟩ ⟨sTabsq,sTabs.length,sTabsk⟩) 79],[bx c (A2 p1) 56]] rfl opv) (fun _=>[bx c (A2 p1) 56,bx sb (B6 s ⟨sMainq,sMain.length,sMaink⟩ ⟨sAltq,sAlt.length,sAltk⟩ ⟨none,0,0⟩ ⟨sTabsq,sTabs.length,sTabsk⟩) 79]) (fun _=>G9 [[bx sb (B6 s ⟨sMainq,sMain.length,sMaink⟩ ⟨sAltq,sAlt.length,sAltk⟩ ⟨none,0,0⟩ ⟨sTabsq,sTabs.length,sTabsk⟩) 79],[bx c (A2 p1) 56]] [1,0] 2 rfl ozw opv [[bx c (A2 p1) 56],[bx sb (B6 s ⟨sMainq,sMain.length,sMaink⟩ ⟨sAltq,sAlt.length,sAltk⟩ ⟨none,0,0⟩ ⟨sTabsq,sTabs.length,sTabsk⟩) 79]] rfl opv)) (fun _=>sb_) (fun _=>B0.refl) fun _=>?_
 have m:=D0 hR;clear hR;obtain ⟨j,k,hR⟩:=m
 refine zho 8 [bx c (A2 p1) 56,bx sb (B6 s ⟨sMainq,sMain.length,sMaink⟩ ⟨sAltq,sAlt.length,sAltk⟩ ⟨none,0,0⟩ ⟨sTabsq,sTabs.length,sTabsk⟩) 79] (zml 16 511) rfl (Det.tri (N3 (B6z k) rfl rfl rfl rfl rfl fn0)) (fun _=>sb_) (fun _=>B0.refl) fun _=>?_
 refine zhp [9,10,11,12,13,14] 1 (zml 16 32767) [(14,ag (B8 j.1)),(18,pt sb 6)] ?_
 refine zho 15 [bx c (A2 p1) 56] (zml 16 65535) rfl (F2 (us:=B8 j.1) (cs':=B6 ({s with cursor:=j.1}) ⟨sMainq,sMain.length,sMaink⟩ ⟨sAltq,sAlt.length,sAltk⟩ ⟨none,0,0⟩ ⟨sTabsq,sTabs.length,sTabsk⟩) X6 rfl rfl rfl 1 rfl rfl rfl rfl rfl rfl) (fun _=>sb_) (fun _=>B0.refl) fun _=>?_
 refine A0b okl ?_
 subst hR
 exact zen hr hD (A1a rfl) () sb_ fn0
def B4b:Bool :=
 false
theorem B9g {R:Bool} (hR:B4b=R):G3 Tryz.prog 20 [iv 5] [] (bv R):=by
 refine zce Tryz.func20 fun X hX hr hD=>?_
 replace hR:=(B4b.eq_1 ..).symm.trans hR
 refine sR_ rfl (pp0 1 rfl (ie (sR_ rfl (pp1 7 2 rfl ?_))))
 subst hR
 refine ie (A8 ?_)
 exact E9 hr hD
def B0r (an:Int) (am:Int) (acolor:Col) (atext:List UInt8):Bool :=
 false
theorem B6g {an am:Int} {acolor:Col} {atext:List UInt8} {R:Bool} (hR:B0r an am acolor atext=R):G3 Tryz.prog 21 [ag (A2 (⟨5,an,am,acolor,atext⟩:Act))] [] (bv R):=by
 refine zce Tryz.func21 fun X hX hr hD=>?_
 replace hR:=(B0r.eq_1 ..).symm.trans hR
 refine sR_ rfl (H9 2 0 [] (fun a=>[(1,pt a 0)]) (fun a=>[bx a (A2 (⟨5,an,am,acolor,atext⟩:Act)) 56]) (fun a=>(ie (A5 (sR_ rfl (pl1 2 [0] 5 rfl (ie (B4 (sR_ rfl (pp1 2 6 rfl (ie (A0f rfl (sR_ rfl (pp1 2 11 rfl (ie (A0f rfl (A6 (nx (sR_ rfl (it rfl (W7 rfl) fun b=>?_))))))))))))))))))))
 refine B2q (m:=2) (mo:=26) (es':=[⟨iv 1,bv true,0⟩,⟨iv 34,bv true,1⟩,⟨iv 2,bv true,2⟩,⟨iv 39,bv true,3⟩,⟨iv 36,bv true,4⟩,⟨iv 17,bv true,5⟩,⟨iv 7,bv true,6⟩,⟨iv 18,bv true,7⟩,⟨iv 10,bv true,8⟩,⟨iv 35,bv true,9⟩,⟨iv 40,bv true,10⟩,⟨iv 44,bv true,11⟩,⟨iv 45,bv true,12⟩,⟨iv 46,bv true,13⟩,⟨iv 12,bv true,14⟩,⟨iv 14,bv true,15⟩,⟨iv 41,bv true,16⟩,⟨iv 42,bv true,17⟩,⟨iv 43,bv true,18⟩]) A7v rfl 0 19 1 0 [] _ rfl okl ?_
 refine B1f (L':=[(b,.map #[⟨iv 1,bv true,0⟩,⟨iv 34,bv true,1⟩,⟨iv 2,bv true,2⟩,⟨iv 39,bv true,3⟩,⟨iv 36,bv true,4⟩,⟨iv 17,bv true,5⟩,⟨iv 7,bv true,6⟩,⟨iv 18,bv true,7⟩,⟨iv 10,bv true,8⟩,⟨iv 35,bv true,9⟩,⟨iv 40,bv true,10⟩,⟨iv 44,bv true,11⟩,⟨iv 45,bv true,12⟩,⟨iv 46,bv true,13⟩,⟨iv 12,bv true,14⟩,⟨iv 14,bv true,15⟩,⟨iv 41,bv true,16⟩,⟨iv 42,bv true,17⟩,⟨iv 43,bv true,18⟩] 19),bx a (A2 (⟨5,an,am,acolor,atext⟩:Act)) 56]) rfl ?_
 refine pp1 2 3 rfl (ie (sR_ rfl (pp2 2 28 29 rfl (ix rfl (A7 (v:=iv 5) ty3 rfl rfl 1 rfl rfl) (ix rfl (A3s (z:=bv false) A7v rfl rfl rfl 0 rfl okl okl) (pp1 1 2 rfl ?_))))))
 subst hR
 refine ie (A8 ?_)
 exact E9 hr hD
def A2m (c:Cur) (p1:Int) (h:Bool) (d:Int) (e:Int) (f:Int) (a:Int) (b:Bool) (g:Int):Cur×Bool :=
 (bif (!(decide (c.row=p1))) then ({c with row:=(P6 d e f a b (IntKind.i64.wrap (c.row+g)))},(decide (c.row=p1))) else (c,(decide (c.row=p1))))
theorem C2n {c:Cur} {p1:Int} {i:Bool} {d e f a:Int} {b:Bool} {h:Int} {cb p1b p2b p3b g:Nat} {R:Cur×Bool} (hR:A2m c p1 i d e f a b h=R):Con Tryz.prog 264 [pt cb 0,pt p1b 0,pt p2b 0,pt p3b 0,pt g 0] [bx cb (B8 c) 23,bx p1b [iv p1] 3,bx p2b [bv i] 4,bx p3b [iv d,iv e,iv f,iv a,bv b] 134,bx g [iv h] 3] [] (Unit) (fun x=>.tuple #[]) (fun x=>[bx cb (B8 R.1) 23,bx p1b [iv p1] 3,bx p2b [bv R.2] 4,bx p3b [iv d,iv e,iv f,iv a,bv b] 134,bx g [iv h] 3]) (fun x=>[]):=by
 refine zce Tryz.func264 fun X hX hr hD=>?_
 replace hR:=(A2m.eq_1 ..).symm.trans hR
 refine sh 7 [(7,[bx cb (B8 c) 23]),(7,[bx p1b [iv p1] 3]),(6,[bx p2b [bv i] 4]),(7,[bx p3b [iv d,iv e,iv f,iv a,bv b] 134]),(7,[bx g [iv h] 3])] [] [bx cb (B8 c) 23,bx p1b [iv p1] 3,bx p2b [bv i] 4,bx p3b [iv d,iv e,iv f,iv a,bv b] 134,bx g [iv h] 3] (zml 7 0) okl rfl okl okl okl sb_ B0.refl ?_
 refine zhp [0,1,2] 4 (zml 7 7) [(8,pt cb 0)] ?_
 refine zhl 3 [bx cb (B8 c) 23,bx p1b [iv p1] 3,bx p2b [bv i] 4,bx p3b [iv d,iv e,iv f,iv a,bv b] 134,bx g [iv h] 3] (zml 7 15) rfl (A7 (v:=iv c.row) ty3 rfl rfl 0 rfl rfl) ?_
 refine zhl 4 [bx cb (B8 c) 23,bx p1b [iv p1] 3,bx p2b [bv i] 4,bx p3b [iv d,iv e,iv f,iv a,bv b] 134,bx g [iv h] 3] (zml 7 31) rfl (A7 (v:=iv p1) ty3 rfl rfl 1 rfl rfl) ?_
 refine zhp [5] 1 (zml 7 63) [(11,bv (decide (c.row=p1)))] ?_
 refine zho 6 [bx cb (B8 c) 23,bx p1b [iv p1] 3,bx p3b [iv d,iv e,iv f,iv a,bv b] 134,bx g [iv h] 3] (zml 7 127) rfl (F2 (us:=[bv (decide (c.row=p1))]) (cs':=[bv (decide (c.row=p1))]) ty4 rfl rfl rfl 2 rfl rfl rfl rfl rfl rfl) (fun _=>sb_) (fun _=>fn0) fun _=>?_
 refine A3w okl ?_
 refine sR_ rfl (pl1 2 [2] 13 rfl (ie ?_))
 refine zjn rfl hR ?_ ?_<;>clear hR<;>intro hR k j
 ·refine sh' 12 [(11,[bx cb (B8 c) 23]),(12,[bx p1b [iv p1] 3]),(12,[bx p2b [bv (decide (c.row=p1))] 4]),(12,[bx p3b [iv d,iv e,iv f,iv a,bv b] 134]),(12,[bx g [iv h] 3])] [] [bx cb (B8 c) 23,bx p1b [iv p1] 3,bx p2b [bv (decide (c.row=p1))] 4,bx p3b [iv d,iv e,iv f,iv a,bv b] 134,bx g [iv h] 3] (zml 12 0) okl rfl okl okl okl sb_ B0.refl ?_
  refine zhp [0,2,3,4] 8 (zml 12 29) [(14,pt cb 0),(18,pt cb 0)] ?_
  refine zhl 1 [bx cb (B8 c) 23,bx p1b [iv p1] 3,bx p2b [bv (decide (c.row=p1))] 4,bx p3b [iv d,iv e,iv f,iv a,bv b] 134,bx g [iv h] 3] (zml 12 31) rfl (F7 (us:=[iv d,iv e,iv f,iv a,bv b]) D0e rfl rfl 3 rfl rfl rfl) ?_
  refine zhl 5 [bx cb (B8 c) 23,bx p1b [iv p1] 3,bx p2b [bv (decide (c.row=p1))] 4,bx p3b [iv d,iv e,iv f,iv a,bv b] 134,bx g [iv h] 3] (zml 12 63) rfl (A7 (v:=iv c.row) ty3 rfl rfl 0 rfl rfl) ?_
  refine zhl 6 [bx cb (B8 c) 23,bx p1b [iv p1] 3,bx p2b [bv (decide (c.row=p1))] 4,bx p3b [iv d,iv e,iv f,iv a,bv b] 134,bx g [iv h] 3] (zml 12 127) rfl (A7 (v:=iv h) ty3 rfl rfl 4 rfl rfl) ?_
  refine zhk 7 (zml 12 255) rfl (G7.pure rfl) ?_
  refine zho 8 [bx cb (B8 c) 23,bx p1b [iv p1] 3,bx p2b [bv (decide (c.row=p1))] 4,bx p3b [iv d,iv e,iv f,iv a,bv b] 134,bx g [iv h] 3] (zml 12 511) rfl (Det.tri (N3 (A9u rfl) rfl rfl rfl rfl rfl fn0)) (fun _=>sb_) (fun _=>fn0) fun _=>?_
  refine zhp [9,10] 1 (zml 12 2047) [(24,pt cb 0)] ?_
  refine zho 11 [bx p1b [iv p1] 3,bx p2b [bv (decide (c.row=p1))] 4,bx p3b [iv d,iv e,iv f,iv a,bv b] 134,bx g [iv h] 3] (zml 12 4095) rfl (F2 (us:=[iv (P6 d e f a b (IntKind.i64.wrap (c.row+h)))]) (cs':=B8 ({c with row:=(P6 d e f a b (IntKind.i64.wrap (c.row+h)))})) ty3 rfl rfl rfl 0 rfl rfl rfl rfl rfl rfl) (fun _=>sb_) (fun _=>fn0) fun _=>?_
  refine A0b okl ?_
  subst hR
  exact zen hr hD (A1a rfl) () sb_ fn0
 subst hR
 refine A6 ?_
 exact zen hr hD (A1a rfl) () sb_ fn0
def A5s (fR:Int) (fC:Int) (fTop:Int) (fBottom:Int) (fOrigin:Bool) (c:Cur) (i:Int) (f:Bool) (d:Int) (e:Int) (g:Int) (a:Int) (b:Bool) (h:Int):Bool×Cur×Int :=
 (bif (!decide ((C2 fR fC fTop fBottom fOrigin c)=0)) then (f,Cur.zero,(C2 fR fC fTop fBottom fOrigin c)) else (C9 (A2m ({c with wrap:=false}) i f d e g a b h) fun (j:Cur×Bool)=>(j.2,j.1,0)))
theorem C4s {fR fC fTop fBottom:Int} {fOrigin:Bool} {c:Cur} {l:Int} {m:Bool} {e d f b:Int} {a:Bool} {k:Int} {j g i h:Nat} {R:Bool×Cur×Int} (hR:A5s fR fC fTop fBottom fOrigin c l m e d f b a k=R):Con Tryz.prog 205 [ag [iv fR,iv fC,iv fTop,iv fBottom,bv fOrigin],ag (B8 c),.func (.func 264) #[] #[pt j 0,pt g 0,pt i 0,pt h 0]] [bx j [iv l] 3,bx g [bv m] 4,bx i [iv e,iv d,iv f,iv b,bv a] 134,bx h [iv k] 3] [] (Unit) (fun x=>.tuple #[ag (B8 R.2.1),iv R.2.2]) (fun x=>[bx j [iv l] 3,bx g [bv R.1] 4,bx i [iv e,iv d,iv f,iv b,bv a] 134,bx h [iv k] 3]) (fun x=>[]):=by
 refine zce Tryz.func205 fun X hX hr hD=>?_
 replace hR:=(A5s.eq_1 ..).symm.trans hR
 refine sR_ rfl (C0f 4 0 [] (fun n o p=>[(3,pt n 0),(4,pt o 0),(6,pt p 0)]) (fun n o p=>[bx p (B8 Cur.zero) 23,bx o (B8 c) 23,bx n [iv fR,iv fC,iv fTop,iv fBottom,bv fOrigin] 134,bx j [iv l] 3,bx g [bv m] 4,bx i [iv e,iv d,iv f,iv b,bv a] 134,bx h [iv k] 3]) (fun n o p=>(ie (A5 (sR_ rfl (zrl 2 2 [2,1] [(9,ag [iv fR,iv fC,iv fTop,iv fBottom,bv fOrigin]),(10,ag (B8 c))] (zv rfl (M7 rfl) (pp1 1 8 rfl (ie (sR_ rfl (pp1 2 13 rfl (ie ?_))))))))))))
 refine zjn rfl hR ?_ ?_<;>clear hR<;>intro hR u s
 ·refine sR_ rfl (zrg 4 0 [0] [(7,iv (C2 fR fC fTop fBottom fOrigin c))] [bx p (B8 Cur.zero) 23,bx o (B8 c) 23,bx n [iv fR,iv fC,iv fTop,iv fBottom,bv fOrigin] 134,bx j [iv l] 3,bx g [bv m] 4,bx i [iv e,iv d,iv f,iv b,bv a] 134,bx h [iv k] 3] ?_)
  subst hR
  refine ie (A8 ?_)
  exact zer hr hD (U6 rfl (D4 (us:=B8 Cur.zero) X6 rfl 0 rfl rfl rfl) (B9 rfl)) () sb_ fn0
 refine A6 (nx (sR_ rfl (zrg 2 0 [1] [] [bx p (B8 Cur.zero) 23,bx o (B8 ({c with wrap:=false})) 23,bx n [iv fR,iv fC,iv fTop,iv fBottom,bv fOrigin] 134,bx j [iv l] 3,bx g [bv m] 4,bx i [iv e,iv d,iv f,iv b,bv a] 134,bx h [iv k] 3] (ie (sR_ rfl (ip' 1 1 [(17,.func (.func 264) #[] #[pt j 0,pt g 0,pt i 0,pt h 0])] ?_))))))
 have t:=D0 hR;clear hR;obtain ⟨q,r,hR⟩:=t
 refine zc rfl (C2n r) fun _=>?_
 refine ie (sR_ rfl (zrg 3 0 [0,5] [(7,iv 0)] [bx o (B8 q.1) 23,bx j [iv l] 3,bx g [bv q.2] 4,bx i [iv e,iv d,iv f,iv b,bv a] 134,bx h [iv k] 3,bx p (B8 q.1) 23,bx n [iv fR,iv fC,iv fTop,iv fBottom,bv fOrigin] 134] ?_))
 subst hR
 refine ie (A8 ?_)
 exact zer hr hD (U6 rfl (D4 (us:=B8 q.1) X6 rfl 5 rfl rfl rfl) (B9 rfl)) () sb_ fn0
def A7p (fR:Int) (fC:Int) (fTop:Int) (fBottom:Int) (fOrigin:Bool) (c:Cur) (a:Int) (d:Int):Cur×Bool×Int :=
 (C9 (A5s fR fC fTop fBottom fOrigin c a false fR fC fTop fBottom fOrigin d) fun (b:Bool×Cur×Int)=>(b.2.1,b.1,b.2.2))
theorem C6o {fR fC fTop fBottom:Int} {fOrigin:Bool} {c:Cur} {a d:Int} {R:Cur×Bool×Int} (hR:A7p fR fC fTop fBottom fOrigin c a d=R):G3 Tryz.prog 208 [ag [iv fR,iv fC,iv fTop,iv fBottom,bv fOrigin],ag (B8 c),iv a,iv d] [] (.tuple #[ag (B8 R.1),bv R.2.1,iv R.2.2]):=by
 refine zce Tryz.func208 fun X hX hr hD=>?_
 replace hR:=(A7p.eq_1 ..).symm.trans hR
 refine sR_ rfl (C0f 3 4 [] (fun e g f=>[(4,pt e 0),(5,pt g 0),(6,pt f 0)]) (fun e g f=>[bx f [iv a] 3,bx g (B8 c) 23,bx e [iv fR,iv fC,iv fTop,iv fBottom,bv fOrigin] 134]) (fun e g f=>?_))
 refine A8j 4 0 [] (fun h j=>[(7,pt h 0),(8,pt j 0)]) (fun h j=>[bx j (B8 Cur.zero) 23,bx h [iv d] 3,bx f [iv a] 3,bx g (B8 c) 23,bx e [iv fR,iv fC,iv fTop,iv fBottom,bv fOrigin] 134]) (fun h j=>?_)
 refine ie (sR_ rfl (H9 2 0 [0] (fun i=>[(11,pt i 0)]) (fun i=>[bx i [bv false] 4,bx j (B8 Cur.zero) 23,bx h [iv d] 3,bx f [iv a] 3,bx g (B8 c) 23,bx e [iv fR,iv fC,iv fTop,iv fBottom,bv fOrigin] 134]) (fun i=>(ie (sR_ rfl (zrl 3 7 [5,4] [(15,ag [iv fR,iv fC,iv fTop,iv fBottom,bv fOrigin]),(16,ag (B8 c)),(17,.func (.func 264) #[] #[pt f 0,pt i 0,pt e 0,pt h 0])] ?_))))))
 have m:=D0 hR;clear hR;obtain ⟨b,l,hR⟩:=m
 refine zc rfl (C4s l) fun _=>?_
 refine H9 6 0 [0] (fun k=>[(12,pt k 0),(13,iv b.2.2)]) (fun k=>[bx k (B8 b.2.1) 23,bx f [iv a] 3,bx i [bv b.1] 4,bx e [iv fR,iv fC,iv fTop,iv fBottom,bv fOrigin] 134,bx h [iv d] 3,bx j (B8 Cur.zero) 23,bx g (B8 c) 23]) (fun k=>?_)
 refine ie (sh 6 [(6,[bx k (B8 b.2.1) 23]),(6,[bx f [iv a] 3]),(6,[bx i [bv b.1] 4]),(6,[bx e [iv fR,iv fC,iv fTop,iv fBottom,bv fOrigin] 134]),(6,[bx h [iv d] 3]),(3,[bx j (B8 Cur.zero) 23]),(6,[bx g (B8 c) 23])] [] [bx k (B8 b.2.1) 23,bx f [iv a] 3,bx i [bv b.1] 4,bx e [iv fR,iv fC,iv fTop,iv fBottom,bv fOrigin] 134,bx h [iv d] 3,bx j (B8 Cur.zero) 23,bx g (B8 c) 23] (zml 6 0) okl rfl okl okl okl sb_ B0.refl ?_)
 refine zhp [2] 5 (zml 6 4) [(23,iv b.2.2)] ?_
 refine zhl 0 [bx k (B8 b.2.1) 23,bx f [iv a] 3,bx i [bv b.1] 4,bx e [iv fR,iv fC,iv fTop,iv fBottom,bv fOrigin] 134,bx h [iv d] 3,bx j (B8 Cur.zero) 23,bx g (B8 c) 23] (zml 6 5) rfl (F7 (us:=B8 b.2.1) X6 rfl rfl 0 rfl rfl rfl) ?_
 refine zhl 1 [bx k (B8 b.2.1) 23,bx f [iv a] 3,bx i [bv b.1] 4,bx e [iv fR,iv fC,iv fTop,iv fBottom,bv fOrigin] 134,bx h [iv d] 3,bx g (B8 c) 23] (zml 6 7) rfl (A7 (v:=bv b.1) ty4 rfl rfl 2 rfl rfl) ?_
 refine zho 3 [bx k (B8 b.2.1) 23,bx f [iv a] 3,bx i [bv b.1] 4,bx e [iv fR,iv fC,iv fTop,iv fBottom,bv fOrigin] 134,bx h [iv d] 3,bx g (B8 c) 23] (zml 6 15) rfl (F2 (us:=B8 b.2.1) (cs':=B8 b.2.1) X6 rfl rfl rfl 5 rfl rfl rfl rfl rfl rfl) (fun _=>sb_) (fun _=>fn0) fun _=>?_
 refine zhp [4,5] 0 (zml 6 63) [(9,bv b.1),(10,iv b.2.2)] ?_
 refine A3w okl ?_
 subst hR
 refine A8 ?_
 exact zer hr hD (E2x rfl (D4 (us:=B8 b.2.1) X6 rfl 5 rfl rfl rfl) (B9 rfl) (B9 rfl)) () sb_ fn0
def F6 (fR:Int) (fC:Int) (fTop:Int) (fBottom:Int) (fOrigin:Bool) (c:Cur):Cur×Bool×Int :=
 (C9 (A7p fR fC fTop fBottom fOrigin c fBottom 1) fun (a:Cur×Bool×Int)=>(a.1,a.2.1,a.2.2))
theorem A9s {fR fC fTop fBottom:Int} {fOrigin:Bool} {c:Cur} {R:Cur×Bool×Int} (hR:F6 fR fC fTop fBottom fOrigin c=R):G3 Tryz.prog 131 [ag [iv fR,iv fC,iv fTop,iv fBottom,bv fOrigin],ag (B8 c)] [] (.tuple #[ag (B8 R.1),bv R.2.1,iv R.2.2]):=by
 refine zce Tryz.func131 fun X hX hr hD=>?_
 replace hR:=(F6.eq_1 ..).symm.trans hR
 refine sR_ rfl (C0f 5 0 [] (fun a b d=>[(2,pt a 0),(3,pt b 0),(4,pt d 0)]) (fun a b d=>[bx d (B8 Cur.zero) 23,bx b (B8 c) 23,bx a [iv fR,iv fC,iv fTop,iv fBottom,bv fOrigin] 134]) (fun a b d=>(ie (sR_ rfl (zrl 4 7 [2,1,2] [(7,ag [iv fR,iv fC,iv fTop,iv fBottom,bv fOrigin]),(8,ag (B8 c)),(10,iv fBottom)] ?_)))))
 have g:=D0 hR;clear hR;obtain ⟨e,f,hR⟩:=g
 refine zv rfl (C6o f) (zrg 6 0 [0] [(5,bv e.2.1),(6,iv e.2.2)] [bx d (B8 e.1) 23,bx b (B8 c) 23,bx a [iv fR,iv fC,iv fTop,iv fBottom,bv fOrigin] 134] ?_)
 subst hR
 refine ie (A8 ?_)
 exact zer hr hD (E2x rfl (D4 (us:=B8 e.1) X6 rfl 0 rfl rfl rfl) (B9 rfl) (B9 rfl)) () sb_ fn0
theorem B7h {a b c d:Int} {e:Bool} {u:Cur} (h:(F6 a b c d e u).2.1=true):u.row=d:=by
 unfold F6 A7p A5s A2m C9 at h
 cases h1:(!decide (C2 a b c d e u=0)) with
 | true=>rw [h1] at h;cases h
 | false =>
  rw [h1] at h
  cases h2:decide (u.row=d) with
  | true=>exact of_decide_eq_true h2
  | false=>simp only [cond_false,h2,Bool.not_false,cond_true] at h;cases h
def I0 (s:ScrC) (sMain:List (Rwc Cel)) (sAlt:List (Rwc Cel)) (sTabs:List Bool) (p1:Act):ScrC :=
 {s with cursor:=(F6 ((A0 s sMain sAlt sTabs).1) ((A0 s sMain sAlt sTabs).2.1) ((A0 s sMain sAlt sTabs).2.2.1) ((A0 s sMain sAlt sTabs).2.2.2.1) ((A0 s sMain sAlt sTabs).2.2.2.2) s.cursor).1}
theorem B4r {s:ScrC} {sMain sAlt:List (Rwc Cel)} {sTabs:List Bool} {p1:Act} {sb:Nat} {sMainq:Option Addr} {sMainrs:List Rwq} {sMaink:Nat} {sAltq:Option Addr} {sAltrs:List Rwq} {sAltk:Nat} {sTabsq:Option Addr} {sTabsk:Nat} {R:ScrC} (hR:I0 s sMain sAlt sTabs p1=R) (a:F8 sMainrs sMain:=by exact om_) (f:sMain.length≤9223372036854775807:=by exact om_) (g:sMain.length≤sMaink:=by exact om_) (b:F8 sAltrs sAlt:=by exact om_) (j:sAlt.length≤9223372036854775807:=by exact om_) (k:sAlt.length≤sAltk:=by exact om_) (h:sTabs.length≤9223372036854775807:=by exact om_) (i:sTabs.length≤sTabsk:=by exact om_) (e:¬ s.cursor.row=s.bottom:=by exact om_):Con Tryz.prog 46 [pt sb 0,ag (A2 p1)] [bx sb (B6 s ⟨sMainq,sMain.length,sMaink⟩ ⟨sAltq,sAlt.length,sAltk⟩ ⟨none,0,0⟩ ⟨sTabsq,sTabs.length,sTabsk⟩) 79] [sl K1 sMainq sMainrs,G5 G4 sMainrs sMain,sl K1 sAltq sAltrs,G5 G4 sAltrs sAlt,sl N8 sTabsq sTabs] (Unit) (fun x=>.tuple #[]) (fun x=>[bx sb (B6 R ⟨sMainq,sMain.length,sMaink⟩ ⟨sAltq,sAlt.length,sAltk⟩ ⟨none,0,0⟩ ⟨sTabsq,sTabs.length,sTabsk⟩) 79]) (fun x=>[]):=by
 refine zce Tryz.func46 fun X hX hr hD=>?_
 replace hR:=(I0.eq_1 ..).symm.trans hR
 have:=a.1
 have:=b.1
 refine sR_ rfl (H9 1 0 [] (fun c=>[]) (fun c=>[bx c (A2 p1) 56,bx sb (B6 s ⟨sMainq,sMain.length,sMaink⟩ ⟨sAltq,sAlt.length,sAltk⟩ ⟨none,0,0⟩ ⟨sTabsq,sTabs.length,sTabsk⟩) 79]) (fun c=>(ie (sh 16 [(16,[bx c (A2 p1) 56]),(16,[bx sb (B6 s ⟨sMainq,sMain.length,sMaink⟩ ⟨sAltq,sAlt.length,sAltk⟩ ⟨none,0,0⟩ ⟨sTabsq,sTabs.length,sTabsk⟩) 79])] [sl K1 sMainq sMainrs,G5 G4 sMainrs sMain,sl K1 sAltq sAltrs,G5 G4 sAltrs sAlt,sl N8 sTabsq sTabs] [bx c (A2 p1) 56,bx sb (B6 s ⟨sMainq,sMain.length,sMaink⟩ ⟨sAltq,sAlt.length,sAltk⟩ ⟨none,0,0⟩ ⟨sTabsq,sTabs.length,sTabsk⟩) 79] (zml 16 0) okl rfl okl okl okl sb_ B0.refl ?_))))
 refine zhp [0,2,3,4,5] 11 (zml 16 61) [(8,pt sb 0),(13,pt sb 6)] ?_
 refine zhl 6 [bx c (A2 p1) 56,bx sb (B6 s ⟨sMainq,sMain.length,sMaink⟩ ⟨sAltq,sAlt.length,sAltk⟩ ⟨none,0,0⟩ ⟨sTabsq,sTabs.length,sTabsk⟩) 79] (zml 16 125) rfl (F7 (us:=B8 s.cursor) X6 rfl rfl 1 rfl rfl rfl) ?_
 refine A6t 1 12 okl ?_ ?_
 ·refine B2m 1 [bx c (A2 p1) 56,bx sb (B6 s ⟨sMainq,sMain.length,sMaink⟩ ⟨sAltq,sAlt.length,sAltk⟩ ⟨none,0,0⟩ ⟨sTabsq,sTabs.length,sTabsk⟩) 79] (zml 16 127) rfl rfl rfl okl okl okl (V8 (L2:=[bx c (A2 p1) 56]) (J7 rfl a om_ om_ b) rfl rfl rfl rfl rfl B0.refl (G9 [[bx c (A2 p1) 56],[bx sb (B6 s ⟨sMainq,sMain.length,sMaink⟩ ⟨sAltq,sAlt.length,sAltk⟩ ⟨none,0,0⟩ ⟨sTabsq,sTabs.length,sTabsk⟩) 79]] [1,0] 2 rfl ozw rfl [[bx sb (B6 s ⟨sMainq,sMain.length,sMaink⟩ ⟨sAltq,sAlt.length,sAltk⟩ ⟨none,0,0⟩ ⟨sTabsq,sTabs.length,sTabsk⟩) 79],[bx c (A2 p1) 56]] rfl opv) (fun _=>[bx c (A2 p1) 56,bx sb (B6 s ⟨sMainq,sMain.length,sMaink⟩ ⟨sAltq,sAlt.length,sAltk⟩ ⟨none,0,0⟩ ⟨sTabsq,sTabs.length,sTabsk⟩) 79]) (fun _=>G9 [[bx sb (B6 s ⟨sMainq,sMain.length,sMaink⟩ ⟨sAltq,sAlt.length,sAltk⟩ ⟨none,0,0⟩ ⟨sTabsq,sTabs.length,sTabsk⟩) 79],[bx c (A2 p1) 56]] [1,0] 2 rfl ozw opv [[bx c (A2 p1) 56],[bx sb (B6 s ⟨sMainq,sMain.length,sMaink⟩ ⟨sAltq,sAlt.length,sAltk⟩ ⟨none,0,0⟩ ⟨sTabsq,sTabs.length,sTabsk⟩) 79]] rfl opv)) (fun _=>sb_) (fun _=>B0.refl) fun _=>?_
  refine A6t 7 12 okl ?_ ?_
  ·refine B2m 7 [bx c (A2 p1) 56,bx sb (B6 s ⟨sMainq,sMain.length,sMaink⟩ ⟨sAltq,sAlt.length,sAltk⟩ ⟨none,0,0⟩ ⟨sTabsq,sTabs.length,sTabsk⟩) 79] (zml 16 255) rfl rfl rfl okl okl okl (Det.tri (N3 (A9s rfl) rfl rfl rfl rfl rfl fn0)) (fun _=>sb_) (fun _=>B0.refl) fun _=>?_
   refine zhp [8,9,10,11] 4 (zml 16 4095) [(16,ag (B8 ((F6 ((A0 s sMain sAlt sTabs).1) ((A0 s sMain sAlt sTabs).2.1) ((A0 s sMain sAlt sTabs).2.2.1) ((A0 s sMain sAlt sTabs).2.2.2.1) ((A0 s sMain sAlt sTabs).2.2.2.2) s.cursor).1))),(17,bv ((F6 ((A0 s sMain sAlt sTabs).1) ((A0 s sMain sAlt sTabs).2.1) ((A0 s sMain sAlt sTabs).2.2.1) ((A0 s sMain sAlt sTabs).2.2.2.1) ((A0 s sMain sAlt sTabs).2.2.2.2) s.cursor).2.1)),(18,iv ((F6 ((A0 s sMain sAlt sTabs).1) ((A0 s sMain sAlt sTabs).2.1) ((A0 s sMain sAlt sTabs).2.2.1) ((A0 s sMain sAlt sTabs).2.2.2.1) ((A0 s sMain sAlt sTabs).2.2.2.2) s.cursor).2.2))] ?_
   refine zho 12 [bx c (A2 p1) 56,bx sb (B6 s ⟨sMainq,sMain.length,sMaink⟩ ⟨sAltq,sAlt.length,sAltk⟩ ⟨none,0,0⟩ ⟨sTabsq,sTabs.length,sTabsk⟩) 79] (zml 16 8191) rfl (V7 (cs:=B8 Cur.zero) D2g rfl) (fun l=>sb_) (fun l=>B0.refl) fun l=>?_
   refine zho 13 [bx c (A2 p1) 56,bx sb (B6 s ⟨sMainq,sMain.length,sMaink⟩ ⟨sAltq,sAlt.length,sAltk⟩ ⟨none,0,0⟩ ⟨sTabsq,sTabs.length,sTabsk⟩) 79] (zml 16 16383) rfl (F2 (us:=B8 ((F6 ((A0 s sMain sAlt sTabs).1) ((A0 s sMain sAlt sTabs).2.1) ((A0 s sMain sAlt sTabs).2.2.1) ((A0 s sMain sAlt sTabs).2.2.2.1) ((A0 s sMain sAlt sTabs).2.2.2.2) s.cursor).1)) (cs':=B8 ((F6 ((A0 s sMain sAlt sTabs).1) ((A0 s sMain sAlt sTabs).2.1) ((A0 s sMain sAlt sTabs).2.2.1) ((A0 s sMain sAlt sTabs).2.2.2.1) ((A0 s sMain sAlt sTabs).2.2.2.2) s.cursor).1)) X6 rfl rfl rfl 0 rfl rfl rfl rfl rfl rfl) (fun _=>sb_) (fun _=>B0.refl) fun _=>?_
   refine zhp [14,15] 0 (zml 16 65535) [(5,bv ((F6 ((A0 s sMain sAlt sTabs).1) ((A0 s sMain sAlt sTabs).2.1) ((A0 s sMain sAlt sTabs).2.2.1) ((A0 s sMain sAlt sTabs).2.2.2.1) ((A0 s sMain sAlt sTabs).2.2.2.2) s.cursor).2.1))] ?_
   refine A3w okl ?_
   refine sR_ rfl (zrg 6 0 [0,2] [] [bx l (B8 ((F6 ((A0 s sMain sAlt sTabs).1) ((A0 s sMain sAlt sTabs).2.1) ((A0 s sMain sAlt sTabs).2.2.1) ((A0 s sMain sAlt sTabs).2.2.2.1) ((A0 s sMain sAlt sTabs).2.2.2.2) s.cursor).1)) 23,bx c (A2 p1) 56,bx sb (B6 ({s with cursor:=(F6 ((A0 s sMain sAlt sTabs).1) ((A0 s sMain sAlt sTabs).2.1) ((A0 s sMain sAlt sTabs).2.2.1) ((A0 s sMain sAlt sTabs).2.2.2.1) ((A0 s sMain sAlt sTabs).2.2.2.2) s.cursor).1}) ⟨sMainq,sMain.length,sMaink⟩ ⟨sAltq,sAlt.length,sAltk⟩ ⟨none,0,0⟩ ⟨sTabsq,sTabs.length,sTabsk⟩) 79] (ie (sR_ rfl (pp1 1 24 rfl ?_))))
   refine ie (W8 rfl (fun p=>?_) (fun p=>?_))
   ·exfalso;exact e (B7h p)
   subst hR
   refine A6 ?_
   exact zen hr hD (A1a rfl) () sb_ fn0
  ·refine B2m 12 [bx c (A2 p1) 56,bx sb (B6 s ⟨sMainq,sMain.length,sMaink⟩ ⟨sAltq,sAlt.length,sAltk⟩ ⟨none,0,0⟩ ⟨sTabsq,sTabs.length,sTabsk⟩) 79] (zml 16 4223) rfl rfl rfl okl okl okl (V7 (cs:=B8 Cur.zero) D2g rfl) (fun m=>sb_) (fun m=>B0.refl) fun m=>?_
   refine zho 7 [bx c (A2 p1) 56,bx sb (B6 s ⟨sMainq,sMain.length,sMaink⟩ ⟨sAltq,sAlt.length,sAltk⟩ ⟨none,0,0⟩ ⟨sTabsq,sTabs.length,sTabsk⟩) 79] (zml 16 4351) rfl (Det.tri (N3 (A9s rfl) rfl rfl rfl rfl rfl fn0)) (fun _=>sb_) (fun _=>B0.refl) fun _=>?_
   refine zhp [8,9,10,11] 3 (zml 16 8191) [(16,ag (B8 ((F6 ((A0 s sMain sAlt sTabs).1) ((A0 s sMain sAlt sTabs).2.1) ((A0 s sMain sAlt sTabs).2.2.1) ((A0 s sMain sAlt sTabs).2.2.2.1) ((A0 s sMain sAlt sTabs).2.2.2.2) s.cursor).1))),(17,bv ((F6 ((A0 s sMain sAlt sTabs).1) ((A0 s sMain sAlt sTabs).2.1) ((A0 s sMain sAlt sTabs).2.2.1) ((A0 s sMain sAlt sTabs).2.2.2.1) ((A0 s sMain sAlt sTabs).2.2.2.2) s.cursor).2.1)),(18,iv ((F6 ((A0 s sMain sAlt sTabs).1) ((A0 s sMain sAlt sTabs).2.1) ((A0 s sMain sAlt sTabs).2.2.1) ((A0 s sMain sAlt sTabs).2.2.2.1) ((A0 s sMain sAlt sTabs).2.2.2.2) s.cursor).2.2))] ?_
   refine zho 13 [bx c (A2 p1) 56,bx sb (B6 s ⟨sMainq,sMain.length,sMaink⟩ ⟨sAltq,sAlt.length,sAltk⟩ ⟨none,0,0⟩ ⟨sTabsq,sTabs.length,sTabsk⟩) 79] (zml 16 16383) rfl (F2 (us:=B8 ((F6 ((A0 s sMain sAlt sTabs).1) ((A0 s sMain sAlt sTabs).2.1) ((A0 s sMain sAlt sTabs).2.2.1) ((A0 s sMain sAlt sTabs).2.2.2.1) ((A0 s sMain sAlt sTabs).2.2.2.2) s.cursor).1)) (cs':=B8 ((F6 ((A0 s sMain sAlt sTabs).1) ((A0 s sMain sAlt sTabs).2.1) ((A0 s sMain sAlt sTabs).2.2.1) ((A0 s sMain sAlt sTabs).2.2.2.1) ((A0 s sMain sAlt sTabs).2.2.2.2) s.cursor).1)) X6 rfl rfl rfl 0 rfl rfl rfl rfl rfl rfl) (fun _=>sb_) (fun _=>B0.refl) fun _=>?_
   refine zhp [14,15] 0 (zml 16 65535) [(5,bv ((F6 ((A0 s sMain sAlt sTabs).1) ((A0 s sMain sAlt sTabs).2.1) ((A0 s sMain sAlt sTabs).2.2.1) ((A0 s sMain sAlt sTabs).2.2.2.1) ((A0 s sMain sAlt sTabs).2.2.2.2) s.cursor).2.1))] ?_
   refine A3w okl ?_
   refine sR_ rfl (zrg 6 0 [0,2] [] [bx m (B8 ((F6 ((A0 s sMain sAlt sTabs).1) ((A0 s sMain sAlt sTabs).2.1) ((A0 s sMain sAlt sTabs).2.2.1) ((A0 s sMain sAlt sTabs).2.2.2.1) ((A0 s sMain sAlt sTabs).2.2.2.2) s.cursor).1)) 23,bx c (A2 p1) 56,bx sb (B6 ({s with cursor:=(F6 ((A0 s sMain sAlt sTabs).1) ((A0 s sMain sAlt sTabs).2.1) ((A0 s sMain sAlt sTabs).2.2.1) ((A0 s sMain sAlt sTabs).2.2.2.1) ((A0 s sMain sAlt sTabs).2.2.2.2) s.cursor).1}) ⟨sMainq,sMain.length,sMaink⟩ ⟨sAltq,sAlt.length,sAltk⟩ ⟨none,0,0⟩ ⟨sTabsq,sTabs.length,sTabsk⟩) 79] (ie (sR_ rfl (pp1 1 24 rfl ?_))))
   refine ie (W8 rfl (fun o=>?_) (fun o=>?_))
   ·exfalso;exact e (B7h o)
   subst hR
   refine A6 ?_
   exact zen hr hD (A1a rfl) () sb_ fn0
 ·refine B2m 12 [bx c (A2 p1) 56,bx sb (B6 s ⟨sMainq,sMain.length,sMaink⟩ ⟨sAltq,sAlt.length,sAltk⟩ ⟨none,0,0⟩ ⟨sTabsq,sTabs.length,sTabsk⟩) 79] (zml 16 4221) rfl rfl rfl okl okl okl (V7 (cs:=B8 Cur.zero) D2g rfl) (fun d=>sb_) (fun d=>B0.refl) fun d=>?_
  refine zho 1 [bx c (A2 p1) 56,bx sb (B6 s ⟨sMainq,sMain.length,sMaink⟩ ⟨sAltq,sAlt.length,sAltk⟩ ⟨none,0,0⟩ ⟨sTabsq,sTabs.length,sTabsk⟩) 79] (zml 16 4223) rfl (V8 (L2:=[bx d (B8 Cur.zero) 23,bx c (A2 p1) 56]) (J7 rfl a om_ om_ b) rfl rfl rfl rfl rfl B0.refl (G9 [[bx d (B8 Cur.zero) 23],[bx c (A2 p1) 56],[bx sb (B6 s ⟨sMainq,sMain.length,sMaink⟩ ⟨sAltq,sAlt.length,sAltk⟩ ⟨none,0,0⟩ ⟨sTabsq,sTabs.length,sTabsk⟩) 79]] [2,0,1] 3 rfl ozw rfl [[bx sb (B6 s ⟨sMainq,sMain.length,sMaink⟩ ⟨sAltq,sAlt.length,sAltk⟩ ⟨none,0,0⟩ ⟨sTabsq,sTabs.length,sTabsk⟩) 79],[bx d (B8 Cur.zero) 23],[bx c (A2 p1) 56]] rfl opv) (fun _=>[bx d (B8 Cur.zero) 23,bx c (A2 p1) 56,bx sb (B6 s ⟨sMainq,sMain.length,sMaink⟩ ⟨sAltq,sAlt.length,sAltk⟩ ⟨none,0,0⟩ ⟨sTabsq,sTabs.length,sTabsk⟩) 79]) (fun _=>G9 [[bx sb (B6 s ⟨sMainq,sMain.length,sMaink⟩ ⟨sAltq,sAlt.length,sAltk⟩ ⟨none,0,0⟩ ⟨sTabsq,sTabs.length,sTabsk⟩) 79],[bx d (B8 Cur.zero) 23],[bx c (A2 p1) 56]] [1,2,0] 3 rfl ozw opv [[bx d (B8 Cur.zero) 23],[bx c (A2 p1) 56],[bx sb (B6 s ⟨sMainq,sMain.length,sMaink⟩ ⟨sAltq,sAlt.length,sAltk⟩ ⟨none,0,0⟩ ⟨sTabsq,sTabs.length,sTabsk⟩) 79]] rfl opv)) (fun _=>sb_) (fun _=>B0.refl) fun _=>?_
  refine zho 7 [bx c (A2 p1) 56,bx sb (B6 s ⟨sMainq,sMain.length,sMaink⟩ ⟨sAltq,sAlt.length,sAltk⟩ ⟨none,0,0⟩ ⟨sTabsq,sTabs.length,sTabsk⟩) 79] (zml 16 4351) rfl (Det.tri (N3 (A9s rfl) rfl rfl rfl rfl rfl fn0)) (fun _=>sb_) (fun _=>B0.refl) fun _=>?_
  refine zhp [8,9,10,11] 3 (zml 16 8191) [(16,ag (B8 ((F6 ((A0 s sMain sAlt sTabs).1) ((A0 s sMain sAlt sTabs).2.1) ((A0 s sMain sAlt sTabs).2.2.1) ((A0 s sMain sAlt sTabs).2.2.2.1) ((A0 s sMain sAlt sTabs).2.2.2.2) s.cursor).1))),(17,bv ((F6 ((A0 s sMain sAlt sTabs).1) ((A0 s sMain sAlt sTabs).2.1) ((A0 s sMain sAlt sTabs).2.2.1) ((A0 s sMain sAlt sTabs).2.2.2.1) ((A0 s sMain sAlt sTabs).2.2.2.2) s.cursor).2.1)),(18,iv ((F6 ((A0 s sMain sAlt sTabs).1) ((A0 s sMain sAlt sTabs).2.1) ((A0 s sMain sAlt sTabs).2.2.1) ((A0 s sMain sAlt sTabs).2.2.2.1) ((A0 s sMain sAlt sTabs).2.2.2.2) s.cursor).2.2))] ?_
  refine zho 13 [bx c (A2 p1) 56,bx sb (B6 s ⟨sMainq,sMain.length,sMaink⟩ ⟨sAltq,sAlt.length,sAltk⟩ ⟨none,0,0⟩ ⟨sTabsq,sTabs.length,sTabsk⟩) 79] (zml 16 16383) rfl (F2 (us:=B8 ((F6 ((A0 s sMain sAlt sTabs).1) ((A0 s sMain sAlt sTabs).2.1) ((A0 s sMain sAlt sTabs).2.2.1) ((A0 s sMain sAlt sTabs).2.2.2.1) ((A0 s sMain sAlt sTabs).2.2.2.2) s.cursor).1)) (cs':=B8 ((F6 ((A0 s sMain sAlt sTabs).1) ((A0 s sMain sAlt sTabs).2.1) ((A0 s sMain sAlt sTabs).2.2.1) ((A0 s sMain sAlt sTabs).2.2.2.1) ((A0 s sMain sAlt sTabs).2.2.2.2) s.cursor).1)) X6 rfl rfl rfl 0 rfl rfl rfl rfl rfl rfl) (fun _=>sb_) (fun _=>B0.refl) fun _=>?_
  refine zhp [14,15] 0 (zml 16 65535) [(5,bv ((F6 ((A0 s sMain sAlt sTabs).1) ((A0 s sMain sAlt sTabs).2.1) ((A0 s sMain sAlt sTabs).2.2.1) ((A0 s sMain sAlt sTabs).2.2.2.1) ((A0 s sMain sAlt sTabs).2.2.2.2) s.cursor).2.1))] ?_
  refine A3w okl ?_
  refine sR_ rfl (zrg 6 0 [0,2] [] [bx d (B8 ((F6 ((A0 s sMain sAlt sTabs).1) ((A0 s sMain sAlt sTabs).2.1) ((A0 s sMain sAlt sTabs).2.2.1) ((A0 s sMain sAlt sTabs).2.2.2.1) ((A0 s sMain sAlt sTabs).2.2.2.2) s.cursor).1)) 23,bx c (A2 p1) 56,bx sb (B6 ({s with cursor:=(F6 ((A0 s sMain sAlt sTabs).1) ((A0 s sMain sAlt sTabs).2.1) ((A0 s sMain sAlt sTabs).2.2.1) ((A0 s sMain sAlt sTabs).2.2.2.1) ((A0 s sMain sAlt sTabs).2.2.2.2) s.cursor).1}) ⟨sMainq,sMain.length,sMaink⟩ ⟨sAltq,sAlt.length,sAltk⟩ ⟨none,0,0⟩ ⟨sTabsq,sTabs.length,sTabsk⟩) 79] (ie (sR_ rfl (pp1 1 24 rfl ?_))))
  refine ie (W8 rfl (fun n=>?_) (fun n=>?_))
  ·exfalso;exact e (B7h n)
  subst hR
  refine A6 ?_
  exact zen hr hD (A1a rfl) () sb_ fn0
def L6 (s:ScrC) (sMain:List (Rwc Cel)) (sAlt:List (Rwc Cel)) (sTabs:List Bool) (p1:Act):ScrC :=
 {s with cursor:={s.cursor with col:=0}}
theorem A8f {s:ScrC} {sMain sAlt:List (Rwc Cel)} {sTabs:List Bool} {p1:Act} {sb:Nat} {sMainq:Option Addr} {sMainrs:List Rwq} {sMaink:Nat} {sAltq:Option Addr} {sAltrs:List Rwq} {sAltk:Nat} {sTabsq:Option Addr} {sTabsk:Nat} {R:ScrC} (hR:L6 s sMain sAlt sTabs p1=R) (a:F8 sMainrs sMain:=by exact om_) (c:sMain.length≤9223372036854775807:=by exact om_) (f:sMain.length≤sMaink:=by exact om_) (b:F8 sAltrs sAlt:=by exact om_) (g:sAlt.length≤9223372036854775807:=by exact om_) (i:sAlt.length≤sAltk:=by exact om_) (d:sTabs.length≤9223372036854775807:=by exact om_) (e:sTabs.length≤sTabsk:=by exact om_):Con Tryz.prog 44 [pt sb 0,ag (A2 p1)] [bx sb (B6 s ⟨sMainq,sMain.length,sMaink⟩ ⟨sAltq,sAlt.length,sAltk⟩ ⟨none,0,0⟩ ⟨sTabsq,sTabs.length,sTabsk⟩) 79] [sl K1 sMainq sMainrs,G5 G4 sMainrs sMain,sl K1 sAltq sAltrs,G5 G4 sAltrs sAlt,sl N8 sTabsq sTabs] (Unit) (fun x=>.tuple #[]) (fun x=>[bx sb (B6 R ⟨sMainq,sMain.length,sMaink⟩ ⟨sAltq,sAlt.length,sAltk⟩ ⟨none,0,0⟩ ⟨sTabsq,sTabs.length,sTabsk⟩) 79]) (fun x=>[]):=by
 refine zce Tryz.func44 fun X hX hr hD=>?_
 replace hR:=(L6.eq_1 ..).symm.trans hR
 have:=a.1
 have:=b.1
 refine sR_ rfl (H9 1 0 [] (fun h=>[]) (fun h=>[bx h (A2 p1) 56,bx sb (B6 s ⟨sMainq,sMain.length,sMaink⟩ ⟨sAltq,sAlt.length,sAltk⟩ ⟨none,0,0⟩ ⟨sTabsq,sTabs.length,sTabsk⟩) 79]) (fun h=>(ie (A1 6 rfl (zrg 6 0 [1] [] [bx h (A2 p1) 56,bx sb (B6 ({s with cursor:={s.cursor with col:=0}}) ⟨sMainq,sMain.length,sMaink⟩ ⟨sAltq,sAlt.length,sAltk⟩ ⟨none,0,0⟩ ⟨sTabsq,sTabs.length,sTabsk⟩) 79] ?_)))))
 subst hR
 refine A3 ?_
 exact zen hr hD (A1a rfl) () sb_ fn0
def R6 (s:ScrC) (sMain:List (Rwc Cel)) (sAlt:List (Rwc Cel)) (sTabs:List Bool) (a:Act):ScrC :=
 (bif ((I0 s sMain sAlt sTabs a).modes).newline then (L6 (I0 s sMain sAlt sTabs a) sMain sAlt sTabs a) else (I0 s sMain sAlt sTabs a))
theorem B6s {s:ScrC} {sMain sAlt:List (Rwc Cel)} {sTabs:List Bool} {a:Act} {sb:Nat} {sMainq:Option Addr} {sMainrs:List Rwq} {sMaink:Nat} {sAltq:Option Addr} {sAltrs:List Rwq} {sAltk:Nat} {sTabsq:Option Addr} {sTabsk:Nat} {R:ScrC} (hR:R6 s sMain sAlt sTabs a=R) (b:F8 sMainrs sMain:=by exact om_) (e:sMain.length≤9223372036854775807:=by exact om_) (h:sMain.length≤sMaink:=by exact om_) (c:F8 sAltrs sAlt:=by exact om_) (i:sAlt.length≤9223372036854775807:=by exact om_) (j:sAlt.length≤sAltk:=by exact om_) (f:sTabs.length≤9223372036854775807:=by exact om_) (g:sTabs.length≤sTabsk:=by exact om_) (k:¬ s.cursor.row=s.bottom:=by exact om_):Con Tryz.prog 45 [pt sb 0,ag (A2 a)] [bx sb (B6 s ⟨sMainq,sMain.length,sMaink⟩ ⟨sAltq,sAlt.length,sAltk⟩ ⟨none,0,0⟩ ⟨sTabsq,sTabs.length,sTabsk⟩) 79] [sl K1 sMainq sMainrs,G5 G4 sMainrs sMain,sl K1 sAltq sAltrs,G5 G4 sAltrs sAlt,sl N8 sTabsq sTabs] (Unit) (fun x=>.tuple #[]) (fun x=>[bx sb (B6 R ⟨sMainq,sMain.length,sMaink⟩ ⟨sAltq,sAlt.length,sAltk⟩ ⟨none,0,0⟩ ⟨sTabsq,sTabs.length,sTabsk⟩) 79]) (fun x=>[]):=by
 refine zce Tryz.func45 fun X hX hr hD=>?_
 replace hR:=(R6.eq_1 ..).symm.trans hR
 have:=b.1
 have:=c.1
 refine sR_ rfl (H9 1 0 [] (fun d=>[(3,pt d 0)]) (fun d=>[bx d (A2 a) 56,bx sb (B6 s ⟨sMainq,sMain.length,sMaink⟩ ⟨sAltq,sAlt.length,sAltk⟩ ⟨none,0,0⟩ ⟨sTabsq,sTabs.length,sTabsk⟩) 79]) (fun d=>(ie (sR_ rfl (zrl 2 1 [0] [(4,pt sb 0),(5,ag (A2 a))] (it rfl (V8 (L2:=[bx d (A2 a) 56]) (B4r (s:=s) (sMain:=sMain) (sAlt:=sAlt) (sTabs:=sTabs) (p1:=a) (sb:=sb) (sMainq:=sMainq) (sMainrs:=sMainrs) (sMaink:=sMaink) (sAltq:=sAltq) (sAltrs:=sAltrs) (sAltk:=sAltk) (sTabsq:=sTabsq) (sTabsk:=sTabsk) rfl b om_ om_ c om_ om_ om_ om_ (by first|assumption|exact k|(have q:=D4e hnc opx oiu;exact q))) rfl rfl rfl rfl rfl B0.refl (G9 [[bx d (A2 a) 56],[bx sb (B6 s ⟨sMainq,sMain.length,sMaink⟩ ⟨sAltq,sAlt.length,sAltk⟩ ⟨none,0,0⟩ ⟨sTabsq,sTabs.length,sTabsk⟩) 79]] [1,0] 2 rfl ozw rfl [[bx sb (B6 s ⟨sMainq,sMain.length,sMaink⟩ ⟨sAltq,sAlt.length,sAltk⟩ ⟨none,0,0⟩ ⟨sTabsq,sTabs.length,sTabsk⟩) 79],[bx d (A2 a) 56]] rfl opv) (fun _=>[bx d (A2 a) 56,bx sb (B6 (I0 s sMain sAlt sTabs a) ⟨sMainq,sMain.length,sMaink⟩ ⟨sAltq,sAlt.length,sAltk⟩ ⟨none,0,0⟩ ⟨sTabsq,sTabs.length,sTabsk⟩) 79]) (fun _=>G9 [[bx sb (B6 (I0 s sMain sAlt sTabs a) ⟨sMainq,sMain.length,sMaink⟩ ⟨sAltq,sAlt.length,sAltk⟩ ⟨none,0,0⟩ ⟨sTabsq,sTabs.length,sTabsk⟩) 79],[bx d (A2 a) 56]] [1,0] 2 rfl ozw opv [[bx d (A2 a) 56],[bx sb (B6 (I0 s sMain sAlt sTabs a) ⟨sMainq,sMain.length,sMaink⟩ ⟨sAltq,sAlt.length,sAltk⟩ ⟨none,0,0⟩ ⟨sTabsq,sTabs.length,sTabsk⟩) 79]] rfl opv)) fun _=>?_))))))
 refine ie (sR_ rfl (pl1 6 [1] 12 rfl (ie ?_)))
 refine zjb rfl hR ?_ ?_<;>clear hR<;>intro hR l
 ·refine A1 3 rfl (zrl 2 1 [0] [(13,pt sb 0),(14,ag (A2 a))] (it rfl (V8 (L2:=[bx d (A2 a) 56]) (A8f (s:=(I0 s sMain sAlt sTabs a)) (sMain:=sMain) (sAlt:=sAlt) (sTabs:=sTabs) (p1:=a) (sb:=sb) (sMainq:=sMainq) (sMainrs:=sMainrs) (sMaink:=sMaink) (sAltq:=sAltq) (sAltrs:=sAltrs) (sAltk:=sAltk) (sTabsq:=sTabsq) (sTabsk:=sTabsk) rfl b om_ om_ c) rfl rfl rfl rfl rfl B0.refl (G9 [[bx d (A2 a) 56],[bx sb (B6 (I0 s sMain sAlt sTabs a) ⟨sMainq,sMain.length,sMaink⟩ ⟨sAltq,sAlt.length,sAltk⟩ ⟨none,0,0⟩ ⟨sTabsq,sTabs.length,sTabsk⟩) 79]] [1,0] 2 rfl ozw rfl [[bx sb (B6 (I0 s sMain sAlt sTabs a) ⟨sMainq,sMain.length,sMaink⟩ ⟨sAltq,sAlt.length,sAltk⟩ ⟨none,0,0⟩ ⟨sTabsq,sTabs.length,sTabsk⟩) 79],[bx d (A2 a) 56]] rfl opv) (fun _=>[bx d (A2 a) 56,bx sb (B6 (L6 (I0 s sMain sAlt sTabs a) sMain sAlt sTabs a) ⟨sMainq,sMain.length,sMaink⟩ ⟨sAltq,sAlt.length,sAltk⟩ ⟨none,0,0⟩ ⟨sTabsq,sTabs.length,sTabsk⟩) 79]) (fun _=>G9 [[bx sb (B6 (L6 (I0 s sMain sAlt sTabs a) sMain sAlt sTabs a) ⟨sMainq,sMain.length,sMaink⟩ ⟨sAltq,sAlt.length,sAltk⟩ ⟨none,0,0⟩ ⟨sTabsq,sTabs.length,sTabsk⟩) 79],[bx d (A2 a) 56]] [1,0] 2 rfl ozw opv [[bx d (A2 a) 56],[bx sb (B6 (L6 (I0 s sMain sAlt sTabs a) sMain sAlt sTabs a) ⟨sMainq,sMain.length,sMaink⟩ ⟨sAltq,sAlt.length,sAltk⟩ ⟨none,0,0⟩ ⟨sTabsq,sTabs.length,sTabsk⟩) 79]] rfl opv)) fun _=>?_))
  subst hR
  refine A3 ?_
  exact zen hr hD (A1a rfl) () sb_ fn0
 subst hR
 refine A6 ?_
 exact zen hr hD (A1a rfl) () sb_ fn0
def B4d:Bool :=
 false
theorem B8w {R:Bool} (hR:B4d=R):G3 Tryz.prog 20 [iv 6] [] (bv R):=by
 refine zce Tryz.func20 fun X hX hr hD=>?_
 replace hR:=(B4d.eq_1 ..).symm.trans hR
 refine sR_ rfl (pp0 1 rfl (ie (sR_ rfl (pp1 7 2 rfl ?_))))
 subst hR
 refine ie (A8 ?_)
 exact E9 hr hD
def B1b (an:Int) (am:Int) (acolor:Col) (atext:List UInt8):Bool :=
 false
theorem B6i {an am:Int} {acolor:Col} {atext:List UInt8} {R:Bool} (hR:B1b an am acolor atext=R):G3 Tryz.prog 21 [ag (A2 (⟨6,an,am,acolor,atext⟩:Act))] [] (bv R):=by
 refine zce Tryz.func21 fun X hX hr hD=>?_
 replace hR:=(B1b.eq_1 ..).symm.trans hR
 refine sR_ rfl (H9 2 0 [] (fun a=>[(1,pt a 0)]) (fun a=>[bx a (A2 (⟨6,an,am,acolor,atext⟩:Act)) 56]) (fun a=>(ie (A5 (sR_ rfl (pl1 2 [0] 5 rfl (ie (B4 (sR_ rfl (pp1 2 6 rfl (ie (A0f rfl (sR_ rfl (pp1 2 11 rfl (ie (A0f rfl (A6 (nx (sR_ rfl (it rfl (W7 rfl) fun b=>?_))))))))))))))))))))
 refine B2q (m:=2) (mo:=26) (es':=[⟨iv 1,bv true,0⟩,⟨iv 34,bv true,1⟩,⟨iv 2,bv true,2⟩,⟨iv 39,bv true,3⟩,⟨iv 36,bv true,4⟩,⟨iv 17,bv true,5⟩,⟨iv 7,bv true,6⟩,⟨iv 18,bv true,7⟩,⟨iv 10,bv true,8⟩,⟨iv 35,bv true,9⟩,⟨iv 40,bv true,10⟩,⟨iv 44,bv true,11⟩,⟨iv 45,bv true,12⟩,⟨iv 46,bv true,13⟩,⟨iv 12,bv true,14⟩,⟨iv 14,bv true,15⟩,⟨iv 41,bv true,16⟩,⟨iv 42,bv true,17⟩,⟨iv 43,bv true,18⟩]) A7v rfl 0 19 1 0 [] _ rfl okl ?_
 refine B1f (L':=[(b,.map #[⟨iv 1,bv true,0⟩,⟨iv 34,bv true,1⟩,⟨iv 2,bv true,2⟩,⟨iv 39,bv true,3⟩,⟨iv 36,bv true,4⟩,⟨iv 17,bv true,5⟩,⟨iv 7,bv true,6⟩,⟨iv 18,bv true,7⟩,⟨iv 10,bv true,8⟩,⟨iv 35,bv true,9⟩,⟨iv 40,bv true,10⟩,⟨iv 44,bv true,11⟩,⟨iv 45,bv true,12⟩,⟨iv 46,bv true,13⟩,⟨iv 12,bv true,14⟩,⟨iv 14,bv true,15⟩,⟨iv 41,bv true,16⟩,⟨iv 42,bv true,17⟩,⟨iv 43,bv true,18⟩] 19),bx a (A2 (⟨6,an,am,acolor,atext⟩:Act)) 56]) rfl ?_
 refine pp1 2 3 rfl (ie (sR_ rfl (pp2 2 28 29 rfl (ix rfl (A7 (v:=iv 6) ty3 rfl rfl 1 rfl rfl) (ix rfl (A3s (z:=bv false) A7v rfl rfl rfl 0 rfl okl okl) (pp1 1 2 rfl ?_))))))
 subst hR
 refine ie (A8 ?_)
 exact E9 hr hD
def B3y:Bool :=
 false
theorem B9n {R:Bool} (hR:B3y=R):G3 Tryz.prog 20 [iv 19] [] (bv R):=by
 refine zce Tryz.func20 fun X hX hr hD=>?_
 replace hR:=(B3y.eq_1 ..).symm.trans hR
 refine sR_ rfl (pp0 1 rfl (ie (sR_ rfl (pp1 7 2 rfl ?_))))
 subst hR
 refine ie (A8 ?_)
 exact E9 hr hD
def B0s (an:Int) (am:Int) (acolor:Col) (atext:List UInt8):Bool :=
 false
theorem B6f {an am:Int} {acolor:Col} {atext:List UInt8} {R:Bool} (hR:B0s an am acolor atext=R):G3 Tryz.prog 21 [ag (A2 (⟨19,an,am,acolor,atext⟩:Act))] [] (bv R):=by
 refine zce Tryz.func21 fun X hX hr hD=>?_
 replace hR:=(B0s.eq_1 ..).symm.trans hR
 refine sR_ rfl (H9 2 0 [] (fun a=>[(1,pt a 0)]) (fun a=>[bx a (A2 (⟨19,an,am,acolor,atext⟩:Act)) 56]) (fun a=>(ie (A5 (sR_ rfl (pl1 2 [0] 5 rfl (ie (B4 (sR_ rfl (pp1 2 6 rfl (ie (A0f rfl (sR_ rfl (pp1 2 11 rfl (ie (A0f rfl (A6 (nx (sR_ rfl (it rfl (W7 rfl) fun b=>?_))))))))))))))))))))
 refine B2q (m:=2) (mo:=26) (es':=[⟨iv 1,bv true,0⟩,⟨iv 34,bv true,1⟩,⟨iv 2,bv true,2⟩,⟨iv 39,bv true,3⟩,⟨iv 36,bv true,4⟩,⟨iv 17,bv true,5⟩,⟨iv 7,bv true,6⟩,⟨iv 18,bv true,7⟩,⟨iv 10,bv true,8⟩,⟨iv 35,bv true,9⟩,⟨iv 40,bv true,10⟩,⟨iv 44,bv true,11⟩,⟨iv 45,bv true,12⟩,⟨iv 46,bv true,13⟩,⟨iv 12,bv true,14⟩,⟨iv 14,bv true,15⟩,⟨iv 41,bv true,16⟩,⟨iv 42,bv true,17⟩,⟨iv 43,bv true,18⟩]) A7v rfl 0 19 1 0 [] _ rfl okl ?_
 refine B1f (L':=[(b,.map #[⟨iv 1,bv true,0⟩,⟨iv 34,bv true,1⟩,⟨iv 2,bv true,2⟩,⟨iv 39,bv true,3⟩,⟨iv 36,bv true,4⟩,⟨iv 17,bv true,5⟩,⟨iv 7,bv true,6⟩,⟨iv 18,bv true,7⟩,⟨iv 10,bv true,8⟩,⟨iv 35,bv true,9⟩,⟨iv 40,bv true,10⟩,⟨iv 44,bv true,11⟩,⟨iv 45,bv true,12⟩,⟨iv 46,bv true,13⟩,⟨iv 12,bv true,14⟩,⟨iv 14,bv true,15⟩,⟨iv 41,bv true,16⟩,⟨iv 42,bv true,17⟩,⟨iv 43,bv true,18⟩] 19),bx a (A2 (⟨19,an,am,acolor,atext⟩:Act)) 56]) rfl ?_
 refine pp1 2 3 rfl (ie (sR_ rfl (pp2 2 28 29 rfl (ix rfl (A7 (v:=iv 19) ty3 rfl rfl 1 rfl rfl) (ix rfl (A3s (z:=bv false) A7v rfl rfl rfl 0 rfl okl okl) (pp1 1 2 rfl ?_))))))
 subst hR
 refine ie (A8 ?_)
 exact E9 hr hD
def A3c (fR:Int) (fC:Int) (n:Int) (m:Int) (b:Int) (a:Int):Cur×Int :=
 ({Cur.zero with row:=(J2 (IntKind.i64.wrap ((IntKind.i64.wrap ((J2 n 1 fR) - (1:Int)))+b)) b a),col:=(IntKind.i64.wrap ((J2 m 1 fC) - (1:Int)))},0)
def A1k (fR:Int) (fC:Int) (fTop:Int) (fBottom:Int) (fOrigin:Bool) (n:Int) (m:Int):Cur×Int :=
 (bif (!decide ((V2 fR fC fTop fBottom fOrigin)=0)) then (Cur.zero,(V2 fR fC fTop fBottom fOrigin)) else (bif fOrigin then A3c fR fC n m fTop fBottom else A3c fR fC n m 0 (IntKind.i64.wrap (fR - (1:Int)))))
theorem B7d {fR fC fTop fBottom:Int} {fOrigin:Bool} {n m:Int} {R:Cur×Int} (hR:A1k fR fC fTop fBottom fOrigin n m=R):G3 Tryz.prog 134 [ag [iv fR,iv fC,iv fTop,iv fBottom,bv fOrigin],iv n,iv m] [] (.tuple #[ag (B8 R.1),iv R.2]):=by
 refine zce Tryz.func134 fun X hX hr hD=>?_
 replace hR:=(A1k.eq_1 ..).symm.trans hR
 refine sR_ rfl (A8j 3 0 [] (fun c d=>[(3,pt c 0),(6,pt d 0)]) (fun c d=>[bx d (B8 Cur.zero) 23,bx c [iv fR,iv fC,iv fTop,iv fBottom,bv fOrigin] 134]) (fun c d=>(ie (A5 (sR_ rfl (zrl 1 2 [1] [(11,ag [iv fR,iv fC,iv fTop,iv fBottom,bv fOrigin])] (zv rfl (B0a rfl) (pp1 1 8 rfl (ie (sR_ rfl (pp1 2 14 rfl (ie ?_))))))))))))
 refine zjn rfl hR ?_ ?_<;>clear hR<;>intro hR g e
 ·refine sR_ rfl (zrg 4 0 [0] [(7,iv (V2 fR fC fTop fBottom fOrigin))] [bx d (B8 Cur.zero) 23,bx c [iv fR,iv fC,iv fTop,iv fBottom,bv fOrigin] 134] ?_)
  subst hR
  refine ie (A8 ?_)
  exact zer hr hD (U6 rfl (D4 (us:=B8 Cur.zero) X6 rfl 0 rfl rfl rfl) (B9 rfl)) () sb_ fn0
 refine A6 (nx (sd 5 rfl okl rfl (pg1 2 [1] 18 rfl (dd rfl (G7.pure rfl) (pd2 2 9 10 rfl ?_)))))
 refine de (C1d (un fun (b:Int) (a:Int)=>(A3c fR fC n m b a=R,[(1,iv n),(2,iv m),(3,pt c 0),(6,pt d 0),(9,iv b),(10,iv a)],[bx d (B8 Cur.zero) 23,bx c [iv fR,iv fC,iv fTop,iv fBottom,bv fOrigin] 134],[])) ?_ ?_)
 ·refine sR_ rfl (pl1 2 [1] 21 rfl (ie ?_))
  refine zjb rfl hR ?_ ?_<;>clear hR<;>intro hR f
  ·refine C8w 6 rfl okl rfl ?_
   refine pg2 6 [1,1] 9 10 rfl ?_
   refine B7i ?_
   exact A5f (fTop,fBottom) hR sb_ fn0
  refine A6 ?_
  exact A5f (0,(IntKind.i64.wrap (fR - (1:Int)))) hR sb_ fn0
 rintro ⟨b,a⟩
 rintro hR
 replace hR:=(A3c.eq_1 ..).symm.trans hR
 refine sh 18 [(16,[bx d (B8 Cur.zero) 23]),(18,[bx c [iv fR,iv fC,iv fTop,iv fBottom,bv fOrigin] 134])] [] [bx d (B8 Cur.zero) 23,bx c [iv fR,iv fC,iv fTop,iv fBottom,bv fOrigin] 134] (zml 18 0) okl rfl okl okl okl sb_ B0.refl ?_
 refine zhp [0,1,5,7,8,10,11] 11 (zml 18 3491) [(26,iv n),(27,pt c 0),(31,iv b),(33,iv b),(34,iv a),(36,iv m),(37,pt c 1)] ?_
 refine zhl 2 [bx d (B8 Cur.zero) 23,bx c [iv fR,iv fC,iv fTop,iv fBottom,bv fOrigin] 134] (zml 18 3495) rfl (A7 (v:=iv fR) ty3 rfl rfl 1 rfl rfl) ?_
 refine zhl 12 [bx d (B8 Cur.zero) 23,bx c [iv fR,iv fC,iv fTop,iv fBottom,bv fOrigin] 134] (zml 18 7591) rfl (A7 (v:=iv fC) ty3 rfl rfl 1 rfl rfl) ?_
 refine zho 3 [bx d (B8 Cur.zero) 23,bx c [iv fR,iv fC,iv fTop,iv fBottom,bv fOrigin] 134] (zml 18 7599) rfl (Det.tri (N3 (A2v rfl) rfl rfl rfl rfl rfl fn0)) (fun _=>sb_) (fun _=>fn0) fun _=>?_
 refine zhk 4 (zml 18 7615) rfl (G7.pure rfl) (zhk 6 (zml 18 7679) rfl (G7.pure rfl) ?_)
 refine zho 9 [bx d (B8 Cur.zero) 23,bx c [iv fR,iv fC,iv fTop,iv fBottom,bv fOrigin] 134] (zml 18 8191) rfl (Det.tri (N3 (A2v rfl) rfl rfl rfl rfl rfl fn0)) (fun _=>sb_) (fun _=>fn0) fun _=>?_
 refine zho 13 [bx d (B8 Cur.zero) 23,bx c [iv fR,iv fC,iv fTop,iv fBottom,bv fOrigin] 134] (zml 18 16383) rfl (Det.tri (N3 (A2v rfl) rfl rfl rfl rfl rfl fn0)) (fun _=>sb_) (fun _=>fn0) fun _=>?_
 refine zhk 14 (zml 18 32767) rfl (G7.pure rfl) (zhk 15 (zml 18 65535) rfl (C1h (cs:=B8 ({Cur.zero with row:=(J2 (IntKind.i64.wrap ((IntKind.i64.wrap ((J2 n 1 fR) - (1:Int)))+b)) b a),col:=(IntKind.i64.wrap ((J2 m 1 fC) - (1:Int)))})) rfl rfl okl) ?_)
 refine zho 16 [bx c [iv fR,iv fC,iv fTop,iv fBottom,bv fOrigin] 134] (zml 18 131071) rfl (F2 (us:=B8 ({Cur.zero with row:=(J2 (IntKind.i64.wrap ((IntKind.i64.wrap ((J2 n 1 fR) - (1:Int)))+b)) b a),col:=(IntKind.i64.wrap ((J2 m 1 fC) - (1:Int)))})) (cs':=B8 ({Cur.zero with row:=(J2 (IntKind.i64.wrap ((IntKind.i64.wrap ((J2 n 1 fR) - (1:Int)))+b)) b a),col:=(IntKind.i64.wrap ((J2 m 1 fC) - (1:Int)))})) X6 rfl rfl rfl 0 rfl rfl rfl rfl rfl rfl) (fun _=>sb_) (fun _=>fn0) fun _=>?_
 refine zhp [17] 0 (zml 18 262143) [(7,iv 0)] ?_
 refine A3w okl ?_
 subst hR
 refine A8 ?_
 exact zer hr hD (U6 rfl (D4 (us:=B8 ({Cur.zero with row:=(J2 (IntKind.i64.wrap ((IntKind.i64.wrap ((J2 n 1 fR) - (1:Int)))+b)) b a),col:=(IntKind.i64.wrap ((J2 m 1 fC) - (1:Int)))})) X6 rfl 0 rfl rfl rfl) (B9 rfl)) () sb_ fn0
def R3 (s:ScrC) (sMain:List (Rwc Cel)) (sAlt:List (Rwc Cel)) (sTabs:List Bool) (a:Act):ScrC :=
 (C9 (A0 s sMain sAlt sTabs) fun (b:Int×Int×Int×Int×Bool)=>(C9 (A1k b.1 b.2.1 b.2.2.1 b.2.2.2.1 b.2.2.2.2 a.n a.m) fun (c:Cur×Int)=>{s with cursor:=c.1}))
theorem B6k {s:ScrC} {sMain sAlt:List (Rwc Cel)} {sTabs:List Bool} {a:Act} {sb:Nat} {sMainq:Option Addr} {sMainrs:List Rwq} {sMaink:Nat} {sAltq:Option Addr} {sAltrs:List Rwq} {sAltk:Nat} {sTabsq:Option Addr} {sTabsk:Nat} {R:ScrC} (hR:R3 s sMain sAlt sTabs a=R) (b:F8 sMainrs sMain:=by exact om_) (e:sMain.length≤9223372036854775807:=by exact om_) (f:sMain.length≤sMaink:=by exact om_) (c:F8 sAltrs sAlt:=by exact om_) (i:sAlt.length≤9223372036854775807:=by exact om_) (j:sAlt.length≤sAltk:=by exact om_) (g:sTabs.length≤9223372036854775807:=by exact om_) (h:sTabs.length≤sTabsk:=by exact om_):Con Tryz.prog 49 [pt sb 0,ag (A2 a)] [bx sb (B6 s ⟨sMainq,sMain.length,sMaink⟩ ⟨sAltq,sAlt.length,sAltk⟩ ⟨none,0,0⟩ ⟨sTabsq,sTabs.length,sTabsk⟩) 79] [sl K1 sMainq sMainrs,G5 G4 sMainrs sMain,sl K1 sAltq sAltrs,G5 G4 sAltrs sAlt,sl N8 sTabsq sTabs] (Unit) (fun x=>.tuple #[]) (fun x=>[bx sb (B6 R ⟨sMainq,sMain.length,sMaink⟩ ⟨sAltq,sAlt.length,sAltk⟩ ⟨none,0,0⟩ ⟨sTabsq,sTabs.length,sTabsk⟩) 79]) (fun x=>[]):=by
 refine zce Tryz.func49 fun X hX hr hD=>?_
 replace hR:=(R3.eq_1 ..).symm.trans hR
 have:=b.1
 have:=c.1
 refine sR_ rfl (H9 1 0 [] (fun d=>[(3,pt d 0)]) (fun d=>[bx d (A2 a) 56,bx sb (B6 s ⟨sMainq,sMain.length,sMaink⟩ ⟨sAltq,sAlt.length,sAltk⟩ ⟨none,0,0⟩ ⟨sTabsq,sTabs.length,sTabsk⟩) 79]) (fun d=>(ie (sh' 15 [(15,[bx d (A2 a) 56]),(14,[bx sb (B6 s ⟨sMainq,sMain.length,sMaink⟩ ⟨sAltq,sAlt.length,sAltk⟩ ⟨none,0,0⟩ ⟨sTabsq,sTabs.length,sTabsk⟩) 79])] [sl K1 sMainq sMainrs,G5 G4 sMainrs sMain,sl K1 sAltq sAltrs,G5 G4 sAltrs sAlt,sl N8 sTabsq sTabs] [bx d (A2 a) 56,bx sb (B6 s ⟨sMainq,sMain.length,sMaink⟩ ⟨sAltq,sAlt.length,sAltk⟩ ⟨none,0,0⟩ ⟨sTabsq,sTabs.length,sTabsk⟩) 79] (zml 15 0) okl rfl okl okl okl sb_ B0.refl ?_))))
 refine zhp [0,1,3,5] 11 (zml 15 43) [(5,pt sb 0),(6,pt sb 0),(8,pt d 1),(10,pt d 2)] ?_
 refine zhl 4 [bx d (A2 a) 56,bx sb (B6 s ⟨sMainq,sMain.length,sMaink⟩ ⟨sAltq,sAlt.length,sAltk⟩ ⟨none,0,0⟩ ⟨sTabsq,sTabs.length,sTabsk⟩) 79] (zml 15 59) rfl (A7 (v:=iv a.n) ty3 rfl rfl 0 rfl rfl) ?_
 refine zhl 6 [bx d (A2 a) 56,bx sb (B6 s ⟨sMainq,sMain.length,sMaink⟩ ⟨sAltq,sAlt.length,sAltk⟩ ⟨none,0,0⟩ ⟨sTabsq,sTabs.length,sTabsk⟩) 79] (zml 15 123) rfl (A7 (v:=iv a.m) ty3 rfl rfl 0 rfl rfl) ?_
 have p:=D0 hR;clear hR;obtain ⟨q,o,hR⟩:=p
 refine zho 2 [bx d (A2 a) 56,bx sb (B6 s ⟨sMainq,sMain.length,sMaink⟩ ⟨sAltq,sAlt.length,sAltk⟩ ⟨none,0,0⟩ ⟨sTabsq,sTabs.length,sTabsk⟩) 79] (zml 15 127) rfl (V8 (L2:=[bx d (A2 a) 56]) (J7 o b om_ om_ c) rfl rfl rfl rfl rfl B0.refl (G9 [[bx d (A2 a) 56],[bx sb (B6 s ⟨sMainq,sMain.length,sMaink⟩ ⟨sAltq,sAlt.length,sAltk⟩ ⟨none,0,0⟩ ⟨sTabsq,sTabs.length,sTabsk⟩) 79]] [1,0] 2 rfl ozw rfl [[bx sb (B6 s ⟨sMainq,sMain.length,sMaink⟩ ⟨sAltq,sAlt.length,sAltk⟩ ⟨none,0,0⟩ ⟨sTabsq,sTabs.length,sTabsk⟩) 79],[bx d (A2 a) 56]] rfl opv) (fun _=>[bx d (A2 a) 56,bx sb (B6 s ⟨sMainq,sMain.length,sMaink⟩ ⟨sAltq,sAlt.length,sAltk⟩ ⟨none,0,0⟩ ⟨sTabsq,sTabs.length,sTabsk⟩) 79]) (fun _=>G9 [[bx sb (B6 s ⟨sMainq,sMain.length,sMaink⟩ ⟨sAltq,sAlt.length,sAltk⟩ ⟨none,0,0⟩ ⟨sTabsq,sTabs.length,sTabsk⟩) 79],[bx d (A2 a) 56]] [1,0] 2 rfl ozw opv [[bx d (A2 a) 56],[bx sb (B6 s ⟨sMainq,sMain.length,sMaink⟩ ⟨sAltq,sAlt.length,sAltk⟩ ⟨none,0,0⟩ ⟨sTabsq,sTabs.length,sTabsk⟩) 79]] rfl opv)) (fun _=>sb_) (fun _=>B0.refl) fun _=>?_
 have p:=D0 hR;clear hR;obtain ⟨l,k,hR⟩:=p
 refine zho 7 [bx d (A2 a) 56,bx sb (B6 s ⟨sMainq,sMain.length,sMaink⟩ ⟨sAltq,sAlt.length,sAltk⟩ ⟨none,0,0⟩ ⟨sTabsq,sTabs.length,sTabsk⟩) 79] (zml 15 255) rfl (Det.tri (N3 (B7d k) rfl rfl rfl rfl rfl fn0)) (fun _=>sb_) (fun _=>B0.refl) fun _=>?_
 refine zhp [8,9,10,11,12,13] 1 (zml 15 16383) [(13,ag (B8 l.1)),(17,pt sb 6)] ?_
 refine zho 14 [bx d (A2 a) 56] (zml 15 32767) rfl (F2 (us:=B8 l.1) (cs':=B6 ({s with cursor:=l.1}) ⟨sMainq,sMain.length,sMaink⟩ ⟨sAltq,sAlt.length,sAltk⟩ ⟨none,0,0⟩ ⟨sTabsq,sTabs.length,sTabsk⟩) X6 rfl rfl rfl 1 rfl rfl rfl rfl rfl rfl) (fun _=>sb_) (fun _=>B0.refl) fun _=>?_
 refine A0b okl ?_
 subst hR
 exact zen hr hD (A1a rfl) () sb_ fn0
def B3z:Bool :=
 false
theorem B9r {R:Bool} (hR:B3z=R):G3 Tryz.prog 20 [iv 22] [] (bv R):=by
 refine zce Tryz.func20 fun X hX hr hD=>?_
 replace hR:=(B3z.eq_1 ..).symm.trans hR
 refine sR_ rfl (pp0 1 rfl (ie (sR_ rfl (pp1 7 2 rfl ?_))))
 subst hR
 refine ie (A8 ?_)
 exact E9 hr hD
def B0p (an:Int) (am:Int) (acolor:Col) (atext:List UInt8):Bool :=
 false
theorem B6p {an am:Int} {acolor:Col} {atext:List UInt8} {R:Bool} (hR:B0p an am acolor atext=R):G3 Tryz.prog 21 [ag (A2 (⟨22,an,am,acolor,atext⟩:Act))] [] (bv R):=by
 refine zce Tryz.func21 fun X hX hr hD=>?_
 replace hR:=(B0p.eq_1 ..).symm.trans hR
 refine sR_ rfl (H9 2 0 [] (fun a=>[(1,pt a 0)]) (fun a=>[bx a (A2 (⟨22,an,am,acolor,atext⟩:Act)) 56]) (fun a=>(ie (A5 (sR_ rfl (pl1 2 [0] 5 rfl (ie (B4 (sR_ rfl (pp1 2 6 rfl (ie (A0f rfl (sR_ rfl (pp1 2 11 rfl (ie (A0f rfl (A6 (nx (sR_ rfl (it rfl (W7 rfl) fun b=>?_))))))))))))))))))))
 refine B2q (m:=2) (mo:=26) (es':=[⟨iv 1,bv true,0⟩,⟨iv 34,bv true,1⟩,⟨iv 2,bv true,2⟩,⟨iv 39,bv true,3⟩,⟨iv 36,bv true,4⟩,⟨iv 17,bv true,5⟩,⟨iv 7,bv true,6⟩,⟨iv 18,bv true,7⟩,⟨iv 10,bv true,8⟩,⟨iv 35,bv true,9⟩,⟨iv 40,bv true,10⟩,⟨iv 44,bv true,11⟩,⟨iv 45,bv true,12⟩,⟨iv 46,bv true,13⟩,⟨iv 12,bv true,14⟩,⟨iv 14,bv true,15⟩,⟨iv 41,bv true,16⟩,⟨iv 42,bv true,17⟩,⟨iv 43,bv true,18⟩]) A7v rfl 0 19 1 0 [] _ rfl okl ?_
 refine B1f (L':=[(b,.map #[⟨iv 1,bv true,0⟩,⟨iv 34,bv true,1⟩,⟨iv 2,bv true,2⟩,⟨iv 39,bv true,3⟩,⟨iv 36,bv true,4⟩,⟨iv 17,bv true,5⟩,⟨iv 7,bv true,6⟩,⟨iv 18,bv true,7⟩,⟨iv 10,bv true,8⟩,⟨iv 35,bv true,9⟩,⟨iv 40,bv true,10⟩,⟨iv 44,bv true,11⟩,⟨iv 45,bv true,12⟩,⟨iv 46,bv true,13⟩,⟨iv 12,bv true,14⟩,⟨iv 14,bv true,15⟩,⟨iv 41,bv true,16⟩,⟨iv 42,bv true,17⟩,⟨iv 43,bv true,18⟩] 19),bx a (A2 (⟨22,an,am,acolor,atext⟩:Act)) 56]) rfl ?_
 refine pp1 2 3 rfl (ie (sR_ rfl (pp2 2 28 29 rfl (ix rfl (A7 (v:=iv 22) ty3 rfl rfl 1 rfl rfl) (ix rfl (A3s (z:=bv false) A7v rfl rfl rfl 0 rfl okl okl) (pp1 1 2 rfl ?_))))))
 subst hR
 refine ie (A8 ?_)
 exact E9 hr hD
def A0g (c:Cur) (e:Int) (d:Int) (f:Int) (b:Int) (a:Bool) (g:Int):Cur :=
 (C9 (A1k e d f b a 1 g) fun (h:Cur×Int)=>{c with col:=h.1.col})
theorem B9m {c:Cur} {e d f a:Int} {b:Bool} {g:Int} {cb p1b p2b:Nat} {R:Cur} (hR:A0g c e d f a b g=R):Con Tryz.prog 214 [pt cb 0,pt p1b 0,pt p2b 0] [bx cb (B8 c) 23,bx p1b [iv e,iv d,iv f,iv a,bv b] 134,bx p2b [iv g] 3] [] (Unit) (fun x=>.tuple #[]) (fun x=>[bx cb (B8 R) 23,bx p1b [iv e,iv d,iv f,iv a,bv b] 134,bx p2b [iv g] 3]) (fun x=>[]):=by
 refine zce Tryz.func214 fun X hX hr hD=>?_
 replace hR:=(A0g.eq_1 ..).symm.trans hR
 refine sR_ rfl (zrl 2 7 [1,2] [(7,ag [iv e,iv d,iv f,iv a,bv b]),(8,iv g)] ?_)
 have k:=D0 hR;clear hR;obtain ⟨j,i,hR⟩:=k
 refine zv rfl (B7d i) ?_
 refine H9 6 0 [0] (fun h=>[(4,pt h 0)]) (fun h=>[bx h (B8 j.1) 23,bx cb (B8 c) 23,bx p1b [iv e,iv d,iv f,iv a,bv b] 134,bx p2b [iv g] 3]) (fun h=>?_)
 refine ie (A1 6 rfl (zrg 6 0 [0,1] [] [bx h (B8 j.1) 23,bx cb (B8 ({c with col:=j.1.col})) 23,bx p1b [iv e,iv d,iv f,iv a,bv b] 134,bx p2b [iv g] 3] ?_))
 subst hR
 refine A3 ?_
 exact zen hr hD (A1a rfl) () sb_ fn0
def A8u (fR:Int) (fC:Int) (fTop:Int) (fBottom:Int) (fOrigin:Bool) (c:Cur) (d:Int) (e:Int) (f:Int) (b:Int) (a:Bool) (g:Int):Cur×Int :=
 (bif (!decide ((C2 fR fC fTop fBottom fOrigin c)=0)) then (Cur.zero,(C2 fR fC fTop fBottom fOrigin c)) else ((A0g ({c with wrap:=false}) d e f b a g),0))
theorem C3l {fR fC fTop fBottom:Int} {fOrigin:Bool} {c:Cur} {e d f b:Int} {a:Bool} {i:Int} {h g:Nat} {R:Cur×Int} (hR:A8u fR fC fTop fBottom fOrigin c e d f b a i=R):Con Tryz.prog 205 [ag [iv fR,iv fC,iv fTop,iv fBottom,bv fOrigin],ag (B8 c),.func (.func 214) #[] #[pt h 0,pt g 0]] [bx h [iv e,iv d,iv f,iv b,bv a] 134,bx g [iv i] 3] [] (Unit) (fun x=>.tuple #[ag (B8 R.1),iv R.2]) (fun x=>[bx h [iv e,iv d,iv f,iv b,bv a] 134,bx g [iv i] 3]) (fun x=>[]):=by
 refine zce Tryz.func205 fun X hX hr hD=>?_
 replace hR:=(A8u.eq_1 ..).symm.trans hR
 refine sR_ rfl (C0f 4 0 [] (fun j k l=>[(3,pt j 0),(4,pt k 0),(6,pt l 0)]) (fun j k l=>[bx l (B8 Cur.zero) 23,bx k (B8 c) 23,bx j [iv fR,iv fC,iv fTop,iv fBottom,bv fOrigin] 134,bx h [iv e,iv d,iv f,iv b,bv a] 134,bx g [iv i] 3]) (fun j k l=>(ie (A5 (sR_ rfl (zrl 2 2 [2,1] [(9,ag [iv fR,iv fC,iv fTop,iv fBottom,bv fOrigin]),(10,ag (B8 c))] (zv rfl (M7 rfl) (pp1 1 8 rfl (ie (sR_ rfl (pp1 2 13 rfl (ie ?_))))))))))))
 refine zjn rfl hR ?_ ?_<;>clear hR<;>intro hR n m
 ·refine sR_ rfl (zrg 4 0 [0] [(7,iv (C2 fR fC fTop fBottom fOrigin c))] [bx l (B8 Cur.zero) 23,bx k (B8 c) 23,bx j [iv fR,iv fC,iv fTop,iv fBottom,bv fOrigin] 134,bx h [iv e,iv d,iv f,iv b,bv a] 134,bx g [iv i] 3] ?_)
  subst hR
  refine ie (A8 ?_)
  exact zer hr hD (U6 rfl (D4 (us:=B8 Cur.zero) X6 rfl 0 rfl rfl rfl) (B9 rfl)) () sb_ fn0
 refine A6 (nx (sR_ rfl (zrg 2 0 [1] [] [bx l (B8 Cur.zero) 23,bx k (B8 ({c with wrap:=false})) 23,bx j [iv fR,iv fC,iv fTop,iv fBottom,bv fOrigin] 134,bx h [iv e,iv d,iv f,iv b,bv a] 134,bx g [iv i] 3] (ie (sR_ rfl (ip' 1 1 [(17,.func (.func 214) #[] #[pt h 0,pt g 0])] ?_))))))
 refine zc rfl (B9m rfl) fun _=>?_
 refine ie (sR_ rfl (zrg 3 0 [0,3] [(7,iv 0)] [bx k (B8 (A0g ({c with wrap:=false}) e d f b a i)) 23,bx h [iv e,iv d,iv f,iv b,bv a] 134,bx g [iv i] 3,bx l (B8 (A0g ({c with wrap:=false}) e d f b a i)) 23,bx j [iv fR,iv fC,iv fTop,iv fBottom,bv fOrigin] 134] ?_))
 subst hR
 refine ie (A8 ?_)
 exact zer hr hD (U6 rfl (D4 (us:=B8 (A0g ({c with wrap:=false}) e d f b a i)) X6 rfl 3 rfl rfl rfl) (B9 rfl)) () sb_ fn0
def A3z (fR:Int) (fC:Int) (fTop:Int) (fBottom:Int) (fOrigin:Bool) (c:Cur) (m:Int):Cur×Int :=
 (C9 (A8u fR fC fTop fBottom fOrigin c fR fC fTop fBottom fOrigin m) fun (a:Cur×Int)=>(a.1,a.2))
theorem C2x {fR fC fTop fBottom:Int} {fOrigin:Bool} {c:Cur} {m:Int} {R:Cur×Int} (hR:A3z fR fC fTop fBottom fOrigin c m=R):G3 Tryz.prog 136 [ag [iv fR,iv fC,iv fTop,iv fBottom,bv fOrigin],ag (B8 c),iv m] [] (.tuple #[ag (B8 R.1),iv R.2]):=by
 refine zce Tryz.func136 fun X hX hr hD=>?_
 replace hR:=(A3z.eq_1 ..).symm.trans hR
 refine sR_ rfl (C0f 3 2 [] (fun a e d=>[(3,pt a 0),(4,pt e 0),(5,pt d 0)]) (fun a e d=>[bx d [iv m] 3,bx e (B8 c) 23,bx a [iv fR,iv fC,iv fTop,iv fBottom,bv fOrigin] 134]) (fun a e d=>?_))
 refine H9 2 0 [] (fun g=>[(6,pt g 0)]) (fun g=>[bx g (B8 Cur.zero) 23,bx d [iv m] 3,bx e (B8 c) 23,bx a [iv fR,iv fC,iv fTop,iv fBottom,bv fOrigin] 134]) (fun g=>?_)
 refine ie (sR_ rfl (zrl 3 5 [3,2] [(8,ag [iv fR,iv fC,iv fTop,iv fBottom,bv fOrigin]),(9,ag (B8 c)),(10,.func (.func 214) #[] #[pt a 0,pt d 0])] ?_))
 have h:=D0 hR;clear hR;obtain ⟨b,f,hR⟩:=h
 refine zc rfl (C3l f) fun _=>?_
 refine zrg 4 0 [2] [(7,iv b.2)] [bx a [iv fR,iv fC,iv fTop,iv fBottom,bv fOrigin] 134,bx d [iv m] 3,bx g (B8 b.1) 23,bx e (B8 c) 23] ?_
 subst hR
 refine ie (A8 ?_)
 exact zer hr hD (U6 rfl (D4 (us:=B8 b.1) X6 rfl 2 rfl rfl rfl) (B9 rfl)) () sb_ fn0
def N6 (s:ScrC) (sMain:List (Rwc Cel)) (sAlt:List (Rwc Cel)) (sTabs:List Bool) (a:Act):ScrC :=
 (C9 (A0 s sMain sAlt sTabs) fun (b:Int×Int×Int×Int×Bool)=>(C9 (A3z b.1 b.2.1 b.2.2.1 b.2.2.2.1 b.2.2.2.2 s.cursor a.n) fun (c:Cur×Int)=>{s with cursor:=c.1}))
theorem B2n {s:ScrC} {sMain sAlt:List (Rwc Cel)} {sTabs:List Bool} {a:Act} {sb:Nat} {sMainq:Option Addr} {sMainrs:List Rwq} {sMaink:Nat} {sAltq:Option Addr} {sAltrs:List Rwq} {sAltk:Nat} {sTabsq:Option Addr} {sTabsk:Nat} {R:ScrC} (hR:N6 s sMain sAlt sTabs a=R) (b:F8 sMainrs sMain:=by exact om_) (f:sMain.length≤9223372036854775807:=by exact om_) (g:sMain.length≤sMaink:=by exact om_) (c:F8 sAltrs sAlt:=by exact om_) (k:sAlt.length≤9223372036854775807:=by exact om_) (l:sAlt.length≤sAltk:=by exact om_) (h:sTabs.length≤9223372036854775807:=by exact om_) (i:sTabs.length≤sTabsk:=by exact om_):Con Tryz.prog 51 [pt sb 0,ag (A2 a)] [bx sb (B6 s ⟨sMainq,sMain.length,sMaink⟩ ⟨sAltq,sAlt.length,sAltk⟩ ⟨none,0,0⟩ ⟨sTabsq,sTabs.length,sTabsk⟩) 79] [sl K1 sMainq sMainrs,G5 G4 sMainrs sMain,sl K1 sAltq sAltrs,G5 G4 sAltrs sAlt,sl N8 sTabsq sTabs] (Unit) (fun x=>.tuple #[]) (fun x=>[bx sb (B6 R ⟨sMainq,sMain.length,sMaink⟩ ⟨sAltq,sAlt.length,sAltk⟩ ⟨none,0,0⟩ ⟨sTabsq,sTabs.length,sTabsk⟩) 79]) (fun x=>[]):=by
 refine zce Tryz.func51 fun X hX hr hD=>?_
 replace hR:=(N6.eq_1 ..).symm.trans hR
 have:=b.1
 have:=c.1
 refine sR_ rfl (H9 1 0 [] (fun d=>[(3,pt d 0)]) (fun d=>[bx d (A2 a) 56,bx sb (B6 s ⟨sMainq,sMain.length,sMaink⟩ ⟨sAltq,sAlt.length,sAltk⟩ ⟨none,0,0⟩ ⟨sTabsq,sTabs.length,sTabsk⟩) 79]) (fun d=>(ie (sh' 18 [(18,[bx d (A2 a) 56]),(17,[bx sb (B6 s ⟨sMainq,sMain.length,sMaink⟩ ⟨sAltq,sAlt.length,sAltk⟩ ⟨none,0,0⟩ ⟨sTabsq,sTabs.length,sTabsk⟩) 79])] [sl K1 sMainq sMainrs,G5 G4 sMainrs sMain,sl K1 sAltq sAltrs,G5 G4 sAltrs sAlt,sl N8 sTabsq sTabs] [bx d (A2 a) 56,bx sb (B6 s ⟨sMainq,sMain.length,sMaink⟩ ⟨sAltq,sAlt.length,sAltk⟩ ⟨none,0,0⟩ ⟨sTabsq,sTabs.length,sTabsk⟩) 79] (zml 18 0) okl rfl okl okl okl sb_ B0.refl ?_))))
 refine zhp [0,1,3,4,5,6,8] 11 (zml 18 379) [(5,pt sb 0),(6,pt sb 0),(11,pt sb 6),(13,pt d 1)] ?_
 refine zhl 7 [bx d (A2 a) 56,bx sb (B6 s ⟨sMainq,sMain.length,sMaink⟩ ⟨sAltq,sAlt.length,sAltk⟩ ⟨none,0,0⟩ ⟨sTabsq,sTabs.length,sTabsk⟩) 79] (zml 18 507) rfl (F7 (us:=B8 s.cursor) X6 rfl rfl 1 rfl rfl rfl) ?_
 refine zhl 9 [bx d (A2 a) 56,bx sb (B6 s ⟨sMainq,sMain.length,sMaink⟩ ⟨sAltq,sAlt.length,sAltk⟩ ⟨none,0,0⟩ ⟨sTabsq,sTabs.length,sTabsk⟩) 79] (zml 18 1019) rfl (A7 (v:=iv a.n) ty3 rfl rfl 0 rfl rfl) ?_
 have o:=D0 hR;clear hR;obtain ⟨p,m,hR⟩:=o
 refine zho 2 [bx d (A2 a) 56,bx sb (B6 s ⟨sMainq,sMain.length,sMaink⟩ ⟨sAltq,sAlt.length,sAltk⟩ ⟨none,0,0⟩ ⟨sTabsq,sTabs.length,sTabsk⟩) 79] (zml 18 1023) rfl (V8 (L2:=[bx d (A2 a) 56]) (J7 m b om_ om_ c) rfl rfl rfl rfl rfl B0.refl (G9 [[bx d (A2 a) 56],[bx sb (B6 s ⟨sMainq,sMain.length,sMaink⟩ ⟨sAltq,sAlt.length,sAltk⟩ ⟨none,0,0⟩ ⟨sTabsq,sTabs.length,sTabsk⟩) 79]] [1,0] 2 rfl ozw rfl [[bx sb (B6 s ⟨sMainq,sMain.length,sMaink⟩ ⟨sAltq,sAlt.length,sAltk⟩ ⟨none,0,0⟩ ⟨sTabsq,sTabs.length,sTabsk⟩) 79],[bx d (A2 a) 56]] rfl opv) (fun _=>[bx d (A2 a) 56,bx sb (B6 s ⟨sMainq,sMain.length,sMaink⟩ ⟨sAltq,sAlt.length,sAltk⟩ ⟨none,0,0⟩ ⟨sTabsq,sTabs.length,sTabsk⟩) 79]) (fun _=>G9 [[bx sb (B6 s ⟨sMainq,sMain.length,sMaink⟩ ⟨sAltq,sAlt.length,sAltk⟩ ⟨none,0,0⟩ ⟨sTabsq,sTabs.length,sTabsk⟩) 79],[bx d (A2 a) 56]] [1,0] 2 rfl ozw opv [[bx d (A2 a) 56],[bx sb (B6 s ⟨sMainq,sMain.length,sMaink⟩ ⟨sAltq,sAlt.length,sAltk⟩ ⟨none,0,0⟩ ⟨sTabsq,sTabs.length,sTabsk⟩) 79]] rfl opv)) (fun _=>sb_) (fun _=>B0.refl) fun _=>?_
 have o:=D0 hR;clear hR;obtain ⟨e,j,hR⟩:=o
 refine zho 10 [bx d (A2 a) 56,bx sb (B6 s ⟨sMainq,sMain.length,sMaink⟩ ⟨sAltq,sAlt.length,sAltk⟩ ⟨none,0,0⟩ ⟨sTabsq,sTabs.length,sTabsk⟩) 79] (zml 18 2047) rfl (Det.tri (N3 (C2x j) rfl rfl rfl rfl rfl fn0)) (fun _=>sb_) (fun _=>B0.refl) fun _=>?_
 refine zhp [11,12,13,14,15,16] 1 (zml 18 131071) [(16,ag (B8 e.1)),(20,pt sb 6)] ?_
 refine zho 17 [bx d (A2 a) 56] (zml 18 262143) rfl (F2 (us:=B8 e.1) (cs':=B6 ({s with cursor:=e.1}) ⟨sMainq,sMain.length,sMaink⟩ ⟨sAltq,sAlt.length,sAltk⟩ ⟨none,0,0⟩ ⟨sTabsq,sTabs.length,sTabsk⟩) X6 rfl rfl rfl 1 rfl rfl rfl rfl rfl rfl) (fun _=>sb_) (fun _=>B0.refl) fun _=>?_
 refine A0b okl ?_
 subst hR
 exact zen hr hD (A1a rfl) () sb_ fn0
def B4c:Bool :=
 false
theorem A2u {R:Bool} (hR:B4c=R):G3 Tryz.prog 20 [iv 20] [] (bv R):=by
 refine zce Tryz.func20 fun X hX hr hD=>?_
 replace hR:=(B4c.eq_1 ..).symm.trans hR
 refine sR_ rfl (pp0 1 rfl (ie (sR_ rfl (pp1 7 2 rfl ?_))))
 subst hR
 refine ie (A8 ?_)
 exact E9 hr hD
def B0x (an:Int) (am:Int) (acolor:Col) (atext:List UInt8):Bool :=
 false
theorem A1d {an am:Int} {acolor:Col} {atext:List UInt8} {R:Bool} (hR:B0x an am acolor atext=R):G3 Tryz.prog 21 [ag (A2 (⟨20,an,am,acolor,atext⟩:Act))] [] (bv R):=by
 refine zce Tryz.func21 fun X hX hr hD=>?_
 replace hR:=(B0x.eq_1 ..).symm.trans hR
 refine sR_ rfl (H9 2 0 [] (fun a=>[(1,pt a 0)]) (fun a=>[bx a (A2 (⟨20,an,am,acolor,atext⟩:Act)) 56]) (fun a=>(ie (A5 (sR_ rfl (pl1 2 [0] 5 rfl (ie (B4 (sR_ rfl (pp1 2 6 rfl (ie (A0f rfl (sR_ rfl (pp1 2 11 rfl (ie (A0f rfl (A6 (nx (sR_ rfl (it rfl (W7 rfl) fun b=>?_))))))))))))))))))))
 refine B2q (m:=2) (mo:=26) (es':=[⟨iv 1,bv true,0⟩,⟨iv 34,bv true,1⟩,⟨iv 2,bv true,2⟩,⟨iv 39,bv true,3⟩,⟨iv 36,bv true,4⟩,⟨iv 17,bv true,5⟩,⟨iv 7,bv true,6⟩,⟨iv 18,bv true,7⟩,⟨iv 10,bv true,8⟩,⟨iv 35,bv true,9⟩,⟨iv 40,bv true,10⟩,⟨iv 44,bv true,11⟩,⟨iv 45,bv true,12⟩,⟨iv 46,bv true,13⟩,⟨iv 12,bv true,14⟩,⟨iv 14,bv true,15⟩,⟨iv 41,bv true,16⟩,⟨iv 42,bv true,17⟩,⟨iv 43,bv true,18⟩]) A7v rfl 0 19 1 0 [] _ rfl okl ?_
 refine B1f (L':=[(b,.map #[⟨iv 1,bv true,0⟩,⟨iv 34,bv true,1⟩,⟨iv 2,bv true,2⟩,⟨iv 39,bv true,3⟩,⟨iv 36,bv true,4⟩,⟨iv 17,bv true,5⟩,⟨iv 7,bv true,6⟩,⟨iv 18,bv true,7⟩,⟨iv 10,bv true,8⟩,⟨iv 35,bv true,9⟩,⟨iv 40,bv true,10⟩,⟨iv 44,bv true,11⟩,⟨iv 45,bv true,12⟩,⟨iv 46,bv true,13⟩,⟨iv 12,bv true,14⟩,⟨iv 14,bv true,15⟩,⟨iv 41,bv true,16⟩,⟨iv 42,bv true,17⟩,⟨iv 43,bv true,18⟩] 19),bx a (A2 (⟨20,an,am,acolor,atext⟩:Act)) 56]) rfl ?_
 refine pp1 2 3 rfl (ie (sR_ rfl (pp2 2 28 29 rfl (ix rfl (A7 (v:=iv 20) ty3 rfl rfl 1 rfl rfl) (ix rfl (A3s (z:=bv false) A7v rfl rfl rfl 0 rfl okl okl) (pp1 1 2 rfl ?_))))))
 subst hR
 refine ie (A8 ?_)
 exact E9 hr hD
def A0h (fR:Int) (fC:Int) (fTop:Int) (fBottom:Int) (fOrigin:Bool) (c:Cur) (n:Int):Cur :=
 (bif (decide (fTop≤c.row)) then {c with row:=(if (IntKind.i64.wrap (c.row - n)) > fTop then (IntKind.i64.wrap (c.row - n)) else fTop)} else {c with row:=(if (IntKind.i64.wrap (c.row - n)) > (0:Int) then (IntKind.i64.wrap (c.row - n)) else (0:Int))})
theorem B8u {fR fC fTop fBottom:Int} {fOrigin:Bool} {c:Cur} {n:Int} {cb:Nat} {R:Cur} (hR:A0h fR fC fTop fBottom fOrigin c n=R):Con Tryz.prog 201 [ag [iv fR,iv fC,iv fTop,iv fBottom,bv fOrigin],pt cb 0,iv n] [bx cb (B8 c) 23] [] (Unit) (fun x=>.tuple #[]) (fun x=>[bx cb (B8 R) 23]) (fun x=>[]):=by
 refine zce Tryz.func201 fun X hX hr hD=>?_
 replace hR:=(A0h.eq_1 ..).symm.trans hR
 refine sR_ rfl (H9 1 0 [] (fun a=>[(3,pt a 0)]) (fun a=>[bx a [iv fR,iv fC,iv fTop,iv fBottom,bv fOrigin] 134,bx cb (B8 c) 23]) (fun a=>(ie (sR_ rfl (pp1 1 6 rfl (ie (A5 (sd 7 rfl okl rfl (pg1 7 [1,0] 13 rfl (de ?_))))))))))
 refine zjd rfl hR ?_ ?_<;>clear hR<;>intro hR d b
 ·refine A1 3 rfl (pl1 3 [0] 6 rfl (A3 (nx (A1 12 rfl (pl4 7 [1] 16 17 21 22 rfl (ix rfl (G7.pure rfl) (zrg 4 0 [1] [] [bx a [iv fR,iv fC,iv fTop,iv fBottom,bv fOrigin] 134,bx cb (B8 ({c with row:=(if (IntKind.i64.wrap (c.row - n)) > fTop then (IntKind.i64.wrap (c.row - n)) else fTop)})) 23] ?_)))))))
  subst hR
  refine A3 ?_
  exact zen hr hD (A1a rfl) () sb_ fn0
 refine A6 (nx (A1 12 rfl (pl4 7 [1] 16 17 21 22 rfl (ix rfl (G7.pure rfl) (zrg 4 0 [1] [] [bx a [iv fR,iv fC,iv fTop,iv fBottom,bv fOrigin] 134,bx cb (B8 ({c with row:=(if (IntKind.i64.wrap (c.row - n)) > (0:Int) then (IntKind.i64.wrap (c.row - n)) else (0:Int))})) 23] ?_)))))
 subst hR
 refine A3 ?_
 exact zen hr hD (A1a rfl) () sb_ fn0
def Z9 (c:Cur) (p10f0:Int) (p10f1:Int) (p10f2:Int) (p10f3:Int) (p10f4:Bool) (p11f0:Int) (p11f1:Int) (p11f2:Int) (p11f3:Int) (p11f4:Bool) (p12cRows:Int) (p12cCols:Int) (p12cTop:Int) (p12cBottom:Int) (p12cOrigin:Bool) (p3:Int):Cur :=
 (A0h p10f0 p10f1 p10f2 p10f3 p10f4 c p3)
theorem C1j {c:Cur} {p10f0 p10f1 p10f2 p10f3:Int} {p10f4:Bool} {p11f0 p11f1 p11f2 p11f3:Int} {p11f4:Bool} {p12cRows p12cCols p12cTop p12cBottom:Int} {p12cOrigin:Bool} {p3:Int} {cb p1b p12cb p2b p3b:Nat} {R:Cur} (hR:Z9 c p10f0 p10f1 p10f2 p10f3 p10f4 p11f0 p11f1 p11f2 p11f3 p11f4 p12cRows p12cCols p12cTop p12cBottom p12cOrigin p3=R):Con Tryz.prog 206 [pt cb 0,pt p1b 0,pt p2b 0,pt p3b 0] [bx cb (B8 c) 23,bx p12cb [iv p12cRows,iv p12cCols,iv p12cTop,iv p12cBottom,bv p12cOrigin] 134,bx p1b [.func (.func 201) #[ag [iv p10f0,iv p10f1,iv p10f2,iv p10f3,bv p10f4]] #[],.func (.func 202) #[ag [iv p11f0,iv p11f1,iv p11f2,iv p11f3,bv p11f4]] #[],.func (.func 203) #[] #[pt p12cb 0],.func (.func 204) #[] #[pt p12cb 0]] 245,bx p2b [iv 0] 3,bx p3b [iv p3] 3] [] (Unit) (fun x=>.tuple #[]) (fun x=>[bx cb (B8 R) 23,bx p12cb [iv p12cRows,iv p12cCols,iv p12cTop,iv p12cBottom,bv p12cOrigin] 134,bx p1b [.func (.func 201) #[ag [iv p10f0,iv p10f1,iv p10f2,iv p10f3,bv p10f4]] #[],.func (.func 202) #[ag [iv p11f0,iv p11f1,iv p11f2,iv p11f3,bv p11f4]] #[],.func (.func 203) #[] #[pt p12cb 0],.func (.func 204) #[] #[pt p12cb 0]] 245,bx p2b [iv 0] 3,bx p3b [iv p3] 3]) (fun x=>[]):=by
 refine zce Tryz.func206 fun X hX hr hD=>?_
 replace hR:=(Z9.eq_1 ..).symm.trans hR
 refine sh' 6 [(5,[bx cb (B8 c) 23]),(6,[bx p12cb [iv p12cRows,iv p12cCols,iv p12cTop,iv p12cBottom,bv p12cOrigin] 134]),(6,[bx p1b [.func (.func 201) #[ag [iv p10f0,iv p10f1,iv p10f2,iv p10f3,bv p10f4]] #[],.func (.func 202) #[ag [iv p11f0,iv p11f1,iv p11f2,iv p11f3,bv p11f4]] #[],.func (.func 203) #[] #[pt p12cb 0],.func (.func 204) #[] #[pt p12cb 0]] 245]),(6,[bx p2b [iv 0] 3]),(6,[bx p3b [iv p3] 3])] [] [bx cb (B8 c) 23,bx p12cb [iv p12cRows,iv p12cCols,iv p12cTop,iv p12cBottom,bv p12cOrigin] 134,bx p1b [.func (.func 201) #[ag [iv p10f0,iv p10f1,iv p10f2,iv p10f3,bv p10f4]] #[],.func (.func 202) #[ag [iv p11f0,iv p11f1,iv p11f2,iv p11f3,bv p11f4]] #[],.func (.func 203) #[] #[pt p12cb 0],.func (.func 204) #[] #[pt p12cb 0]] 245,bx p2b [iv 0] 3,bx p3b [iv p3] 3] (zml 6 0) okl rfl okl okl okl sb_ B0.refl ?_
 refine zhp [3] 5 (zml 6 8) [(8,pt cb 0)] ?_
 refine zhl 0 [bx p12cb [iv p12cRows,iv p12cCols,iv p12cTop,iv p12cBottom,bv p12cOrigin] 134,bx p1b [.func (.func 201) #[ag [iv p10f0,iv p10f1,iv p10f2,iv p10f3,bv p10f4]] #[],.func (.func 202) #[ag [iv p11f0,iv p11f1,iv p11f2,iv p11f3,bv p11f4]] #[],.func (.func 203) #[] #[pt p12cb 0],.func (.func 204) #[] #[pt p12cb 0]] 245,bx p2b [iv 0] 3,bx p3b [iv p3] 3] (zml 6 9) rfl (A7 (v:=iv 0) ty3 rfl rfl 2 rfl rfl) ?_
 refine zhl 1 [bx p12cb [iv p12cRows,iv p12cCols,iv p12cTop,iv p12cBottom,bv p12cOrigin] 134,bx p1b [.func (.func 201) #[ag [iv p10f0,iv p10f1,iv p10f2,iv p10f3,bv p10f4]] #[],.func (.func 202) #[ag [iv p11f0,iv p11f1,iv p11f2,iv p11f3,bv p11f4]] #[],.func (.func 203) #[] #[pt p12cb 0],.func (.func 204) #[] #[pt p12cb 0]] 245,bx p2b [iv 0] 3,bx p3b [iv p3] 3] (zml 6 11) rfl (Z5 Tryz.underlying245 C2l rfl rfl rfl 0 rfl rfl) ?_
 refine zhl 2 [bx cb (B8 c) 23,bx p12cb [iv p12cRows,iv p12cCols,iv p12cTop,iv p12cBottom,bv p12cOrigin] 134,bx p1b [.func (.func 201) #[ag [iv p10f0,iv p10f1,iv p10f2,iv p10f3,bv p10f4]] #[],.func (.func 202) #[ag [iv p11f0,iv p11f1,iv p11f2,iv p11f3,bv p11f4]] #[],.func (.func 203) #[] #[pt p12cb 0],.func (.func 204) #[] #[pt p12cb 0]] 245,bx p2b [iv 0] 3,bx p3b [iv p3] 3] (zml 6 15) rfl (A7 (v:=.func (.func 201) #[ag [iv p10f0,iv p10f1,iv p10f2,iv p10f3,bv p10f4]] #[]) C2l rfl rfl 2 rfl rfl) ?_
 refine zhl 4 [bx cb (B8 c) 23,bx p12cb [iv p12cRows,iv p12cCols,iv p12cTop,iv p12cBottom,bv p12cOrigin] 134,bx p1b [.func (.func 201) #[ag [iv p10f0,iv p10f1,iv p10f2,iv p10f3,bv p10f4]] #[],.func (.func 202) #[ag [iv p11f0,iv p11f1,iv p11f2,iv p11f3,bv p11f4]] #[],.func (.func 203) #[] #[pt p12cb 0],.func (.func 204) #[] #[pt p12cb 0]] 245,bx p2b [iv 0] 3,bx p3b [iv p3] 3] (zml 6 31) rfl (A7 (v:=iv p3) ty3 rfl rfl 4 rfl rfl) ?_
 refine zho 5 [bx p12cb [iv p12cRows,iv p12cCols,iv p12cTop,iv p12cBottom,bv p12cOrigin] 134,bx p1b [.func (.func 201) #[ag [iv p10f0,iv p10f1,iv p10f2,iv p10f3,bv p10f4]] #[],.func (.func 202) #[ag [iv p11f0,iv p11f1,iv p11f2,iv p11f3,bv p11f4]] #[],.func (.func 203) #[] #[pt p12cb 0],.func (.func 204) #[] #[pt p12cb 0]] 245,bx p2b [iv 0] 3,bx p3b [iv p3] 3] (zml 6 63) rfl (C8 (L2:=[bx p12cb [iv p12cRows,iv p12cCols,iv p12cTop,iv p12cBottom,bv p12cOrigin] 134,bx p1b [.func (.func 201) #[ag [iv p10f0,iv p10f1,iv p10f2,iv p10f3,bv p10f4]] #[],.func (.func 202) #[ag [iv p11f0,iv p11f1,iv p11f2,iv p11f3,bv p11f4]] #[],.func (.func 203) #[] #[pt p12cb 0],.func (.func 204) #[] #[pt p12cb 0]] 245,bx p2b [iv 0] 3,bx p3b [iv p3] 3]) (B8u rfl) rfl rfl rfl rfl rfl fn0 (G9 [[bx cb (B8 c) 23],[bx p12cb [iv p12cRows,iv p12cCols,iv p12cTop,iv p12cBottom,bv p12cOrigin] 134],[bx p1b [.func (.func 201) #[ag [iv p10f0,iv p10f1,iv p10f2,iv p10f3,bv p10f4]] #[],.func (.func 202) #[ag [iv p11f0,iv p11f1,iv p11f2,iv p11f3,bv p11f4]] #[],.func (.func 203) #[] #[pt p12cb 0],.func (.func 204) #[] #[pt p12cb 0]] 245],[bx p2b [iv 0] 3],[bx p3b [iv p3] 3]] [0,1,2,3,4] 5 rfl ozw rfl [[bx cb (B8 c) 23],[bx p12cb [iv p12cRows,iv p12cCols,iv p12cTop,iv p12cBottom,bv p12cOrigin] 134],[bx p1b [.func (.func 201) #[ag [iv p10f0,iv p10f1,iv p10f2,iv p10f3,bv p10f4]] #[],.func (.func 202) #[ag [iv p11f0,iv p11f1,iv p11f2,iv p11f3,bv p11f4]] #[],.func (.func 203) #[] #[pt p12cb 0],.func (.func 204) #[] #[pt p12cb 0]] 245],[bx p2b [iv 0] 3],[bx p3b [iv p3] 3]] rfl opv) (fun _=>[bx cb (B8 (A0h p10f0 p10f1 p10f2 p10f3 p10f4 c p3)) 23,bx p12cb [iv p12cRows,iv p12cCols,iv p12cTop,iv p12cBottom,bv p12cOrigin] 134,bx p1b [.func (.func 201) #[ag [iv p10f0,iv p10f1,iv p10f2,iv p10f3,bv p10f4]] #[],.func (.func 202) #[ag [iv p11f0,iv p11f1,iv p11f2,iv p11f3,bv p11f4]] #[],.func (.func 203) #[] #[pt p12cb 0],.func (.func 204) #[] #[pt p12cb 0]] 245,bx p2b [iv 0] 3,bx p3b [iv p3] 3]) (fun _=>rfl)) (fun _=>sb_) (fun _=>fn0) fun _=>?_
 refine A0b okl ?_
 subst hR
 exact zen hr hD (A1a rfl) () sb_ fn0
def A8v (fR:Int) (fC:Int) (fTop:Int) (fBottom:Int) (fOrigin:Bool) (c:Cur) (g:Int) (i:Int) (o:Int) (h:Int) (k:Bool) (l:Int) (p:Int) (n:Int) (j:Int) (m:Bool) (e:Int) (d:Int) (f:Int) (a:Int) (b:Bool) (q:Int):Cur×Int :=
 (bif (!decide ((C2 fR fC fTop fBottom fOrigin c)=0)) then (Cur.zero,(C2 fR fC fTop fBottom fOrigin c)) else ((Z9 ({c with wrap:=false}) g i o h k l p n j m e d f a b q),0))
theorem C6e (fR:Int) (fC:Int) (fTop:Int) (fBottom:Int) (fOrigin:Bool) (c:Cur) (m:Int) (n:Int) (k:Int) (h:Int) (o:Bool) (j:Int) (l:Int) (q:Int) (i:Int) (p:Bool) (f:Int) (e:Int) (g:Int) (d:Int) (b:Bool) (u:Int) (t:Nat) (a:Nat) (s:Nat) (r:Nat) (R:Cur×Int) (hR:A8v fR fC fTop fBottom fOrigin c m n k h o j l q i p f e g d b u=R):Con Tryz.prog 205 [ag [iv fR,iv fC,iv fTop,iv fBottom,bv fOrigin],ag (B8 c),.func (.func 206) #[] #[pt t 0,pt s 0,pt r 0]] [bx a [iv f,iv e,iv g,iv d,bv b] 134,bx t [.func (.func 201) #[ag [iv m,iv n,iv k,iv h,bv o]] #[],.func (.func 202) #[ag [iv j,iv l,iv q,iv i,bv p]] #[],.func (.func 203) #[] #[pt a 0],.func (.func 204) #[] #[pt a 0]] 245,bx s [iv 0] 3,bx r [iv u] 3] [] (Unit) (fun x=>.tuple #[ag (B8 R.1),iv R.2]) (fun x=>[bx a [iv f,iv e,iv g,iv d,bv b] 134,bx t [.func (.func 201) #[ag [iv m,iv n,iv k,iv h,bv o]] #[],.func (.func 202) #[ag [iv j,iv l,iv q,iv i,bv p]] #[],.func (.func 203) #[] #[pt a 0],.func (.func 204) #[] #[pt a 0]] 245,bx s [iv 0] 3,bx r [iv u] 3]) (fun x=>[]):=by
 refine zco Tryz.func205 [(0,ag [iv fR,iv fC,iv fTop,iv fBottom,bv fOrigin]),(1,ag (B8 c)),(2,.func (.func 206) #[] #[pt t 0,pt s 0,pt r 0])] fun X hX hr hD=>?_
 replace hR:=(A8v.eq_1 ..).symm.trans hR
 refine sr 4 rfl (C0f 4 0 [] (fun v w y=>[(3,pt v 0),(4,pt w 0),(6,pt y 0)]) (fun v w y=>[bx y (B8 Cur.zero) 23,bx w (B8 c) 23,bx v [iv fR,iv fC,iv fTop,iv fBottom,bv fOrigin] 134,bx a [iv f,iv e,iv g,iv d,bv b] 134,bx t [.func (.func 201) #[ag [iv m,iv n,iv k,iv h,bv o]] #[],.func (.func 202) #[ag [iv j,iv l,iv q,iv i,bv p]] #[],.func (.func 203) #[] #[pt a 0],.func (.func 204) #[] #[pt a 0]] 245,bx s [iv 0] 3,bx r [iv u] 3]) (fun v w y=>(ie (A5 (sr 4 rfl (zrl 2 2 [2,1] [(9,ag [iv fR,iv fC,iv fTop,iv fBottom,bv fOrigin]),(10,ag (B8 c))] (zca (M7 (fR:=fR) (fC:=fC) (fTop:=fTop) (fBottom:=fBottom) (fOrigin:=fOrigin) (c:=c) rfl) fn0 (ip' 1 0 [(8,iv (C2 fR fC fTop fBottom fOrigin c))] (ie (sr 2 rfl (ip' 2 0 [(13,bv (!decide ((C2 fR fC fTop fBottom fOrigin c)=0)))] (ie ?_))))))))))))
 refine zjn rfl hR ?_ ?_<;>clear hR<;>intro hR h4 z
 ·refine sr 4 rfl (zrg 4 0 [0] [(7,iv (C2 fR fC fTop fBottom fOrigin c))] [bx y (B8 Cur.zero) 23,bx w (B8 c) 23,bx v [iv fR,iv fC,iv fTop,iv fBottom,bv fOrigin] 134,bx a [iv f,iv e,iv g,iv d,bv b] 134,bx t [.func (.func 201) #[ag [iv m,iv n,iv k,iv h,bv o]] #[],.func (.func 202) #[ag [iv j,iv l,iv q,iv i,bv p]] #[],.func (.func 203) #[] #[pt a 0],.func (.func 204) #[] #[pt a 0]] 245,bx s [iv 0] 3,bx r [iv u] 3] ?_)
  subst hR
  refine ie (A8 ?_)
  exact zer hr hD (U6 rfl (D4 (us:=B8 Cur.zero) X6 rfl 0 rfl rfl rfl) (B9 rfl)) () (mk [false,false,false,true,true,true,true] rfl) fn0
 refine A6 (nx (sr 2 rfl (zrg 2 0 [1] [] [bx y (B8 Cur.zero) 23,bx w (B8 ({c with wrap:=false})) 23,bx v [iv fR,iv fC,iv fTop,iv fBottom,bv fOrigin] 134,bx a [iv f,iv e,iv g,iv d,bv b] 134,bx t [.func (.func 201) #[ag [iv m,iv n,iv k,iv h,bv o]] #[],.func (.func 202) #[ag [iv j,iv l,iv q,iv i,bv p]] #[],.func (.func 203) #[] #[pt a 0],.func (.func 204) #[] #[pt a 0]] 245,bx s [iv 0] 3,bx r [iv u] 3] (ie (sr 2 rfl (ip' 1 1 [(17,.func (.func 206) #[] #[pt t 0,pt s 0,pt r 0])] (it rfl (C8 (L2:=[bx y (B8 Cur.zero) 23,bx v [iv fR,iv fC,iv fTop,iv fBottom,bv fOrigin] 134]) (C1j (c:=({c with wrap:=false})) (p10f0:=m) (p10f1:=n) (p10f2:=k) (p10f3:=h) (p10f4:=o) (p11f0:=j) (p11f1:=l) (p11f2:=q) (p11f3:=i) (p11f4:=p) (p12cRows:=f) (p12cCols:=e) (p12cTop:=g) (p12cBottom:=d) (p12cOrigin:=b) (p3:=u) (cb:=w) (p1b:=t) (p12cb:=a) (p2b:=s) (p3b:=r) rfl) rfl rfl rfl rfl rfl fn0 (G9 [[bx y (B8 Cur.zero) 23],[bx w (B8 ({c with wrap:=false})) 23],[bx v [iv fR,iv fC,iv fTop,iv fBottom,bv fOrigin] 134],[bx a [iv f,iv e,iv g,iv d,bv b] 134],[bx t [.func (.func 201) #[ag [iv m,iv n,iv k,iv h,bv o]] #[],.func (.func 202) #[ag [iv j,iv l,iv q,iv i,bv p]] #[],.func (.func 203) #[] #[pt a 0],.func (.func 204) #[] #[pt a 0]] 245],[bx s [iv 0] 3],[bx r [iv u] 3]] [1,3,4,5,6,0,2] 7 rfl ozw rfl [[bx w (B8 ({c with wrap:=false})) 23],[bx a [iv f,iv e,iv g,iv d,bv b] 134],[bx t [.func (.func 201) #[ag [iv m,iv n,iv k,iv h,bv o]] #[],.func (.func 202) #[ag [iv j,iv l,iv q,iv i,bv p]] #[],.func (.func 203) #[] #[pt a 0],.func (.func 204) #[] #[pt a 0]] 245],[bx s [iv 0] 3],[bx r [iv u] 3],[bx y (B8 Cur.zero) 23],[bx v [iv fR,iv fC,iv fTop,iv fBottom,bv fOrigin] 134]] rfl opv) (fun _=>[bx w (B8 (Z9 ({c with wrap:=false}) m n k h o j l q i p f e g d b u)) 23,bx a [iv f,iv e,iv g,iv d,bv b] 134,bx t [.func (.func 201) #[ag [iv m,iv n,iv k,iv h,bv o]] #[],.func (.func 202) #[ag [iv j,iv l,iv q,iv i,bv p]] #[],.func (.func 203) #[] #[pt a 0],.func (.func 204) #[] #[pt a 0]] 245,bx s [iv 0] 3,bx r [iv u] 3,bx y (B8 Cur.zero) 23,bx v [iv fR,iv fC,iv fTop,iv fBottom,bv fOrigin] 134]) (fun _=>rfl)) fun _=>?_)))))))
 refine ie (sr 3 rfl (zrg 3 0 [0,5] [(7,iv 0)] [bx w (B8 (Z9 ({c with wrap:=false}) m n k h o j l q i p f e g d b u)) 23,bx a [iv f,iv e,iv g,iv d,bv b] 134,bx t [.func (.func 201) #[ag [iv m,iv n,iv k,iv h,bv o]] #[],.func (.func 202) #[ag [iv j,iv l,iv q,iv i,bv p]] #[],.func (.func 203) #[] #[pt a 0],.func (.func 204) #[] #[pt a 0]] 245,bx s [iv 0] 3,bx r [iv u] 3,bx y (B8 (Z9 ({c with wrap:=false}) m n k h o j l q i p f e g d b u)) 23,bx v [iv fR,iv fC,iv fTop,iv fBottom,bv fOrigin] 134] ?_))
 subst hR
 refine ie (A8 ?_)
 exact zer hr hD (U6 rfl (D4 (us:=B8 (Z9 ({c with wrap:=false}) m n k h o j l q i p f e g d b u)) X6 rfl 5 rfl rfl rfl) (B9 rfl)) () (mk [false,true,true,true,true,false,false] rfl) fn0
def A6a (fR:Int) (fC:Int) (fTop:Int) (fBottom:Int) (fOrigin:Bool) (c:Cur) (n:Int):Cur×Int :=
 (bif (!decide ((C2 fR fC fTop fBottom fOrigin c)=0)) then (Cur.zero,(C2 fR fC fTop fBottom fOrigin c)) else (bif (decide (n<0)) then (Cur.zero,2) else (C9 (A8v fR fC fTop fBottom fOrigin c fR fC fTop fBottom fOrigin fR fC fTop fBottom fOrigin fR fC fTop fBottom fOrigin (if (IntKind.i64.wrap (fR+fC))<n then (IntKind.i64.wrap (fR+fC)) else n)) fun (a:Cur×Int)=>(a.1,a.2))))
theorem C3z {fR fC fTop fBottom:Int} {fOrigin:Bool} {c:Cur} {n:Int} {R:Cur×Int} (hR:A6a fR fC fTop fBottom fOrigin c n=R):G3 Tryz.prog 128 [ag [iv fR,iv fC,iv fTop,iv fBottom,bv fOrigin],ag (B8 c),iv 0,iv n] [] (.tuple #[ag (B8 R.1),iv R.2]):=by
 refine zce Tryz.func128 fun X hX hr hD=>?_
 replace hR:=(A6a.eq_1 ..).symm.trans hR
 refine sR_ rfl (C0f 3 3 [] (fun a e b=>[(4,pt a 0),(5,pt e 0),(6,pt b 0)]) (fun a e b=>[bx b [iv 0] 3,bx e (B8 c) 23,bx a [iv fR,iv fC,iv fTop,iv fBottom,bv fOrigin] 134]) (fun a e b=>?_))
 refine A8j 3 0 [] (fun d f=>[(7,pt d 0),(8,pt f 0)]) (fun d f=>[bx f (B8 Cur.zero) 23,bx d [iv n] 3,bx b [iv 0] 3,bx e (B8 c) 23,bx a [iv fR,iv fC,iv fTop,iv fBottom,bv fOrigin] 134]) (fun d f=>?_)
 refine ie (A5 (sR_ rfl (zrl 2 2 [4,3] [(12,ag [iv fR,iv fC,iv fTop,iv fBottom,bv fOrigin]),(13,ag (B8 c))] (zv rfl (M7 rfl) (pp1 1 10 rfl (ie (sR_ rfl (pp1 2 16 rfl (ie ?_)))))))))
 refine zjn rfl hR ?_ ?_<;>clear hR<;>intro hR o j
 ·refine sR_ rfl (zrg 4 0 [0] [(9,iv (C2 fR fC fTop fBottom fOrigin c))] [bx f (B8 Cur.zero) 23,bx d [iv n] 3,bx b [iv 0] 3,bx e (B8 c) 23,bx a [iv fR,iv fC,iv fTop,iv fBottom,bv fOrigin] 134] ?_)
  subst hR
  refine ie (A8 ?_)
  exact zer hr hD (U6 rfl (D4 (us:=B8 Cur.zero) X6 rfl 0 rfl rfl rfl) (B9 rfl)) () sb_ fn0
 refine A6 (nx (A5 (sR_ rfl (pl1 10 [2,2,1] 28 rfl (ie ?_)))))
 refine zjd rfl hR ?_ ?_<;>clear hR<;>intro hR m k
 ·refine sR_ rfl (zrg 3 0 [0] [(9,iv 2)] [bx f (B8 Cur.zero) 23,bx d [iv n] 3,bx b [iv 0] 3,bx e (B8 c) 23,bx a [iv fR,iv fC,iv fTop,iv fBottom,bv fOrigin] 134] ?_)
  subst hR
  refine ie (A8 ?_)
  exact zer hr hD (U6 rfl (D4 (us:=B8 Cur.zero) X6 rfl 0 rfl rfl rfl) (B9 rfl)) () sb_ fn0
 refine A6 (nx (sR_ rfl (pl3 5 [1,4,4] 30 32 34 rfl (ix rfl (G7.pure rfl) (zrg 2 0 [1] [] [bx f (B8 Cur.zero) 23,bx d [iv (if (IntKind.i64.wrap (fR+fC))<n then (IntKind.i64.wrap (fR+fC)) else n)] 3,bx b [iv 0] 3,bx e (B8 c) 23,bx a [iv fR,iv fC,iv fTop,iv fBottom,bv fOrigin] 134] (ie (sR_ rfl (H9 9 0 [4,4,0] (fun g=>[(11,pt g 0)]) (fun g=>[bx g [.func (.func 201) #[ag [iv fR,iv fC,iv fTop,iv fBottom,bv fOrigin]] #[],.func (.func 202) #[ag [iv fR,iv fC,iv fTop,iv fBottom,bv fOrigin]] #[],.func (.func 203) #[] #[pt a 0],.func (.func 204) #[] #[pt a 0]] 245,bx f (B8 Cur.zero) 23,bx d [iv (if (IntKind.i64.wrap (fR+fC))<n then (IntKind.i64.wrap (fR+fC)) else n)] 3,bx b [iv 0] 3,bx e (B8 c) 23,bx a [iv fR,iv fC,iv fTop,iv fBottom,bv fOrigin] 134]) (fun g=>(ie (sR_ rfl (zrl 3 5 [5,4] [(44,ag [iv fR,iv fC,iv fTop,iv fBottom,bv fOrigin]),(45,ag (B8 c)),(46,.func (.func 206) #[] #[pt g 0,pt b 0,pt d 0])] ?_))))))))))))
 have l:=D0 hR;clear hR;obtain ⟨h,i,hR⟩:=l
 refine zc rfl (C6e fR fC fTop fBottom fOrigin c fR fC fTop fBottom fOrigin fR fC fTop fBottom fOrigin fR fC fTop fBottom fOrigin (if (IntKind.i64.wrap (fR+fC))<n then (IntKind.i64.wrap (fR+fC)) else n) g a b d h i) fun _=>?_
 refine zrg 4 0 [4] [(9,iv h.2)] [bx a [iv fR,iv fC,iv fTop,iv fBottom,bv fOrigin] 134,bx g [.func (.func 201) #[ag [iv fR,iv fC,iv fTop,iv fBottom,bv fOrigin]] #[],.func (.func 202) #[ag [iv fR,iv fC,iv fTop,iv fBottom,bv fOrigin]] #[],.func (.func 203) #[] #[pt a 0],.func (.func 204) #[] #[pt a 0]] 245,bx b [iv 0] 3,bx d [iv (if (IntKind.i64.wrap (fR+fC))<n then (IntKind.i64.wrap (fR+fC)) else n)] 3,bx f (B8 h.1) 23,bx e (B8 c) 23] ?_
 subst hR
 refine ie (A8 ?_)
 exact zer hr hD (U6 rfl (D4 (us:=B8 h.1) X6 rfl 4 rfl rfl rfl) (B9 rfl)) () sb_ fn0
def R5 (s:ScrC) (sMain:List (Rwc Cel)) (sAlt:List (Rwc Cel)) (sTabs:List Bool) (akind:Int) (am:Int) (acolor:Col) (atext:List UInt8):ScrC :=
 (C9 (A0 s sMain sAlt sTabs) fun (a:Int×Int×Int×Int×Bool)=>(C9 (A6a a.1 a.2.1 a.2.2.1 a.2.2.2.1 a.2.2.2.2 s.cursor am) fun (b:Cur×Int)=>{s with cursor:=b.1}))
theorem B6q {s:ScrC} {sMain sAlt:List (Rwc Cel)} {sTabs:List Bool} {akind am:Int} {acolor:Col} {atext:List UInt8} {sb:Nat} {sMainq:Option Addr} {sMainrs:List Rwq} {sMaink:Nat} {sAltq:Option Addr} {sAltrs:List Rwq} {sAltk:Nat} {sTabsq:Option Addr} {sTabsk:Nat} {R:ScrC} (hR:R5 s sMain sAlt sTabs akind am acolor atext=R) (a:F8 sMainrs sMain:=by exact om_) (e:sMain.length≤9223372036854775807:=by exact om_) (g:sMain.length≤sMaink:=by exact om_) (b:F8 sAltrs sAlt:=by exact om_) (j:sAlt.length≤9223372036854775807:=by exact om_) (k:sAlt.length≤sAltk:=by exact om_) (h:sTabs.length≤9223372036854775807:=by exact om_) (i:sTabs.length≤sTabsk:=by exact om_):Con Tryz.prog 52 [pt sb 0,ag (A2 (⟨akind,0,am,acolor,atext⟩:Act))] [bx sb (B6 s ⟨sMainq,sMain.length,sMaink⟩ ⟨sAltq,sAlt.length,sAltk⟩ ⟨none,0,0⟩ ⟨sTabsq,sTabs.length,sTabsk⟩) 79] [sl K1 sMainq sMainrs,G5 G4 sMainrs sMain,sl K1 sAltq sAltrs,G5 G4 sAltrs sAlt,sl N8 sTabsq sTabs] (Unit) (fun x=>.tuple #[]) (fun x=>[bx sb (B6 R ⟨sMainq,sMain.length,sMaink⟩ ⟨sAltq,sAlt.length,sAltk⟩ ⟨none,0,0⟩ ⟨sTabsq,sTabs.length,sTabsk⟩) 79]) (fun x=>[]):=by
 refine zce Tryz.func52 fun X hX hr hD=>?_
 replace hR:=(R5.eq_1 ..).symm.trans hR
 have:=a.1
 have:=b.1
 refine sR_ rfl (H9 1 0 [] (fun c=>[(3,pt c 0)]) (fun c=>[bx c (A2 (⟨akind,0,am,acolor,atext⟩:Act)) 56,bx sb (B6 s ⟨sMainq,sMain.length,sMaink⟩ ⟨sAltq,sAlt.length,sAltk⟩ ⟨none,0,0⟩ ⟨sTabsq,sTabs.length,sTabsk⟩) 79]) (fun c=>(ie (sh' 20 [(20,[bx c (A2 (⟨akind,0,am,acolor,atext⟩:Act)) 56]),(19,[bx sb (B6 s ⟨sMainq,sMain.length,sMaink⟩ ⟨sAltq,sAlt.length,sAltk⟩ ⟨none,0,0⟩ ⟨sTabsq,sTabs.length,sTabsk⟩) 79])] [sl K1 sMainq sMainrs,G5 G4 sMainrs sMain,sl K1 sAltq sAltrs,G5 G4 sAltrs sAlt,sl N8 sTabsq sTabs] [bx c (A2 (⟨akind,0,am,acolor,atext⟩:Act)) 56,bx sb (B6 s ⟨sMainq,sMain.length,sMaink⟩ ⟨sAltq,sAlt.length,sAltk⟩ ⟨none,0,0⟩ ⟨sTabsq,sTabs.length,sTabsk⟩) 79] (zml 20 0) okl rfl okl okl okl sb_ B0.refl ?_))))
 refine zhp [0,1,3,4,5,6,8,10] 12 (zml 20 1403) [(5,pt sb 0),(6,pt sb 0),(11,pt sb 6),(13,pt c 1),(15,pt c 2)] ?_
 refine zhl 7 [bx c (A2 (⟨akind,0,am,acolor,atext⟩:Act)) 56,bx sb (B6 s ⟨sMainq,sMain.length,sMaink⟩ ⟨sAltq,sAlt.length,sAltk⟩ ⟨none,0,0⟩ ⟨sTabsq,sTabs.length,sTabsk⟩) 79] (zml 20 1531) rfl (F7 (us:=B8 s.cursor) X6 rfl rfl 1 rfl rfl rfl) ?_
 refine zhl 9 [bx c (A2 (⟨akind,0,am,acolor,atext⟩:Act)) 56,bx sb (B6 s ⟨sMainq,sMain.length,sMaink⟩ ⟨sAltq,sAlt.length,sAltk⟩ ⟨none,0,0⟩ ⟨sTabsq,sTabs.length,sTabsk⟩) 79] (zml 20 2043) rfl (A7 (v:=iv 0) ty3 rfl rfl 0 rfl rfl) ?_
 refine zhl 11 [bx c (A2 (⟨akind,0,am,acolor,atext⟩:Act)) 56,bx sb (B6 s ⟨sMainq,sMain.length,sMaink⟩ ⟨sAltq,sAlt.length,sAltk⟩ ⟨none,0,0⟩ ⟨sTabsq,sTabs.length,sTabsk⟩) 79] (zml 20 4091) rfl (A7 (v:=iv am) ty3 rfl rfl 0 rfl rfl) ?_
 have m:=D0 hR;clear hR;obtain ⟨n,l,hR⟩:=m
 refine zho 2 [bx c (A2 (⟨akind,0,am,acolor,atext⟩:Act)) 56,bx sb (B6 s ⟨sMainq,sMain.length,sMaink⟩ ⟨sAltq,sAlt.length,sAltk⟩ ⟨none,0,0⟩ ⟨sTabsq,sTabs.length,sTabsk⟩) 79] (zml 20 4095) rfl (V8 (L2:=[bx c (A2 (⟨akind,0,am,acolor,atext⟩:Act)) 56]) (J7 l a om_ om_ b) rfl rfl rfl rfl rfl B0.refl (G9 [[bx c (A2 (⟨akind,0,am,acolor,atext⟩:Act)) 56],[bx sb (B6 s ⟨sMainq,sMain.length,sMaink⟩ ⟨sAltq,sAlt.length,sAltk⟩ ⟨none,0,0⟩ ⟨sTabsq,sTabs.length,sTabsk⟩) 79]] [1,0] 2 rfl ozw rfl [[bx sb (B6 s ⟨sMainq,sMain.length,sMaink⟩ ⟨sAltq,sAlt.length,sAltk⟩ ⟨none,0,0⟩ ⟨sTabsq,sTabs.length,sTabsk⟩) 79],[bx c (A2 (⟨akind,0,am,acolor,atext⟩:Act)) 56]] rfl opv) (fun _=>[bx c (A2 (⟨akind,0,am,acolor,atext⟩:Act)) 56,bx sb (B6 s ⟨sMainq,sMain.length,sMaink⟩ ⟨sAltq,sAlt.length,sAltk⟩ ⟨none,0,0⟩ ⟨sTabsq,sTabs.length,sTabsk⟩) 79]) (fun _=>G9 [[bx sb (B6 s ⟨sMainq,sMain.length,sMaink⟩ ⟨sAltq,sAlt.length,sAltk⟩ ⟨none,0,0⟩ ⟨sTabsq,sTabs.length,sTabsk⟩) 79],[bx c (A2 (⟨akind,0,am,acolor,atext⟩:Act)) 56]] [1,0] 2 rfl ozw opv [[bx c (A2 (⟨akind,0,am,acolor,atext⟩:Act)) 56],[bx sb (B6 s ⟨sMainq,sMain.length,sMaink⟩ ⟨sAltq,sAlt.length,sAltk⟩ ⟨none,0,0⟩ ⟨sTabsq,sTabs.length,sTabsk⟩) 79]] rfl opv)) (fun _=>sb_) (fun _=>B0.refl) fun _=>?_
 have m:=D0 hR;clear hR;obtain ⟨d,f,hR⟩:=m
 refine zho 12 [bx c (A2 (⟨akind,0,am,acolor,atext⟩:Act)) 56,bx sb (B6 s ⟨sMainq,sMain.length,sMaink⟩ ⟨sAltq,sAlt.length,sAltk⟩ ⟨none,0,0⟩ ⟨sTabsq,sTabs.length,sTabsk⟩) 79] (zml 20 8191) rfl (Det.tri (N3 (C3z f) rfl rfl rfl rfl rfl fn0)) (fun _=>sb_) (fun _=>B0.refl) fun _=>?_
 refine zhp [13,14,15,16,17,18] 1 (zml 20 524287) [(18,ag (B8 d.1)),(22,pt sb 6)] ?_
 refine zho 19 [bx c (A2 (⟨akind,0,am,acolor,atext⟩:Act)) 56] (zml 20 1048575) rfl (F2 (us:=B8 d.1) (cs':=B6 ({s with cursor:=d.1}) ⟨sMainq,sMain.length,sMaink⟩ ⟨sAltq,sAlt.length,sAltk⟩ ⟨none,0,0⟩ ⟨sTabsq,sTabs.length,sTabsk⟩) X6 rfl rfl rfl 1 rfl rfl rfl rfl rfl rfl) (fun _=>sb_) (fun _=>B0.refl) fun _=>?_
 refine A0b okl ?_
 subst hR
 exact zen hr hD (A1a rfl) () sb_ fn0
def W9 (fR:Int) (fC:Int) (fTop:Int) (fBottom:Int) (fOrigin:Bool) (c:Cur) (n:Int):Cur :=
 (bif (decide (c.row≤fBottom)) then {c with row:=(if (IntKind.i64.wrap (c.row+n))<fBottom then (IntKind.i64.wrap (c.row+n)) else fBottom)} else {c with row:=(if (IntKind.i64.wrap (c.row+n))<(IntKind.i64.wrap (fR - (1:Int))) then (IntKind.i64.wrap (c.row+n)) else (IntKind.i64.wrap (fR - (1:Int))))})
theorem B6j {fR fC fTop fBottom:Int} {fOrigin:Bool} {c:Cur} {n:Int} {cb:Nat} {R:Cur} (hR:W9 fR fC fTop fBottom fOrigin c n=R):Con Tryz.prog 202 [ag [iv fR,iv fC,iv fTop,iv fBottom,bv fOrigin],pt cb 0,iv n] [bx cb (B8 c) 23] [] (Unit) (fun x=>.tuple #[]) (fun x=>[bx cb (B8 R) 23]) (fun x=>[]):=by
 refine zce Tryz.func202 fun X hX hr hD=>?_
 replace hR:=(W9.eq_1 ..).symm.trans hR
 refine sR_ rfl (H9 1 0 [] (fun a=>[(3,pt a 0)]) (fun a=>[bx a [iv fR,iv fC,iv fTop,iv fBottom,bv fOrigin] 134,bx cb (B8 c) 23]) (fun a=>(ie (sR_ rfl (pl1 2 [0] 8 rfl (ix rfl (G7.pure rfl) (pp1 1 6 rfl (ie (A5 (sd 7 rfl okl rfl (pg1 7 [1,0] 16 rfl (de ?_))))))))))))
 refine zjd rfl hR ?_ ?_<;>clear hR<;>intro hR d b
 ·refine A1 3 rfl (pl1 3 [0] 6 rfl (A3 (nx (A1 12 rfl (pl4 7 [1] 19 20 24 25 rfl (ix rfl (G7.pure rfl) (zrg 4 0 [1] [] [bx a [iv fR,iv fC,iv fTop,iv fBottom,bv fOrigin] 134,bx cb (B8 ({c with row:=(if (IntKind.i64.wrap (c.row+n))<fBottom then (IntKind.i64.wrap (c.row+n)) else fBottom)})) 23] ?_)))))))
  subst hR
  refine A3 ?_
  exact zen hr hD (A1a rfl) () sb_ fn0
 refine A6 (nx (A1 12 rfl (pl4 7 [1] 19 20 24 25 rfl (ix rfl (G7.pure rfl) (zrg 4 0 [1] [] [bx a [iv fR,iv fC,iv fTop,iv fBottom,bv fOrigin] 134,bx cb (B8 ({c with row:=(if (IntKind.i64.wrap (c.row+n))<(IntKind.i64.wrap (fR - (1:Int))) then (IntKind.i64.wrap (c.row+n)) else (IntKind.i64.wrap (fR - (1:Int))))})) 23] ?_)))))
 subst hR
 refine A3 ?_
 exact zen hr hD (A1a rfl) () sb_ fn0
def Z3 (c:Cur) (p10f0:Int) (p10f1:Int) (p10f2:Int) (p10f3:Int) (p10f4:Bool) (p11f0:Int) (p11f1:Int) (p11f2:Int) (p11f3:Int) (p11f4:Bool) (p12cRows:Int) (p12cCols:Int) (p12cTop:Int) (p12cBottom:Int) (p12cOrigin:Bool) (p3:Int):Cur :=
 (W9 p11f0 p11f1 p11f2 p11f3 p11f4 c p3)
theorem C1c {c:Cur} {p10f0 p10f1 p10f2 p10f3:Int} {p10f4:Bool} {p11f0 p11f1 p11f2 p11f3:Int} {p11f4:Bool} {p12cRows p12cCols p12cTop p12cBottom:Int} {p12cOrigin:Bool} {p3:Int} {cb p1b p12cb p2b p3b:Nat} {R:Cur} (hR:Z3 c p10f0 p10f1 p10f2 p10f3 p10f4 p11f0 p11f1 p11f2 p11f3 p11f4 p12cRows p12cCols p12cTop p12cBottom p12cOrigin p3=R):Con Tryz.prog 206 [pt cb 0,pt p1b 0,pt p2b 0,pt p3b 0] [bx cb (B8 c) 23,bx p12cb [iv p12cRows,iv p12cCols,iv p12cTop,iv p12cBottom,bv p12cOrigin] 134,bx p1b [.func (.func 201) #[ag [iv p10f0,iv p10f1,iv p10f2,iv p10f3,bv p10f4]] #[],.func (.func 202) #[ag [iv p11f0,iv p11f1,iv p11f2,iv p11f3,bv p11f4]] #[],.func (.func 203) #[] #[pt p12cb 0],.func (.func 204) #[] #[pt p12cb 0]] 245,bx p2b [iv 1] 3,bx p3b [iv p3] 3] [] (Unit) (fun x=>.tuple #[]) (fun x=>[bx cb (B8 R) 23,bx p12cb [iv p12cRows,iv p12cCols,iv p12cTop,iv p12cBottom,bv p12cOrigin] 134,bx p1b [.func (.func 201) #[ag [iv p10f0,iv p10f1,iv p10f2,iv p10f3,bv p10f4]] #[],.func (.func 202) #[ag [iv p11f0,iv p11f1,iv p11f2,iv p11f3,bv p11f4]] #[],.func (.func 203) #[] #[pt p12cb 0],.func (.func 204) #[] #[pt p12cb 0]] 245,bx p2b [iv 1] 3,bx p3b [iv p3] 3]) (fun x=>[]):=by
 refine zce Tryz.func206 fun X hX hr hD=>?_
 replace hR:=(Z3.eq_1 ..).symm.trans hR
 refine sh' 6 [(5,[bx cb (B8 c) 23]),(6,[bx p12cb [iv p12cRows,iv p12cCols,iv p12cTop,iv p12cBottom,bv p12cOrigin] 134]),(6,[bx p1b [.func (.func 201) #[ag [iv p10f0,iv p10f1,iv p10f2,iv p10f3,bv p10f4]] #[],.func (.func 202) #[ag [iv p11f0,iv p11f1,iv p11f2,iv p11f3,bv p11f4]] #[],.func (.func 203) #[] #[pt p12cb 0],.func (.func 204) #[] #[pt p12cb 0]] 245]),(6,[bx p2b [iv 1] 3]),(6,[bx p3b [iv p3] 3])] [] [bx cb (B8 c) 23,bx p12cb [iv p12cRows,iv p12cCols,iv p12cTop,iv p12cBottom,bv p12cOrigin] 134,bx p1b [.func (.func 201) #[ag [iv p10f0,iv p10f1,iv p10f2,iv p10f3,bv p10f4]] #[],.func (.func 202) #[ag [iv p11f0,iv p11f1,iv p11f2,iv p11f3,bv p11f4]] #[],.func (.func 203) #[] #[pt p12cb 0],.func (.func 204) #[] #[pt p12cb 0]] 245,bx p2b [iv 1] 3,bx p3b [iv p3] 3] (zml 6 0) okl rfl okl okl okl sb_ B0.refl ?_
 refine zhp [3] 5 (zml 6 8) [(8,pt cb 0)] ?_
 refine zhl 0 [bx p12cb [iv p12cRows,iv p12cCols,iv p12cTop,iv p12cBottom,bv p12cOrigin] 134,bx p1b [.func (.func 201) #[ag [iv p10f0,iv p10f1,iv p10f2,iv p10f3,bv p10f4]] #[],.func (.func 202) #[ag [iv p11f0,iv p11f1,iv p11f2,iv p11f3,bv p11f4]] #[],.func (.func 203) #[] #[pt p12cb 0],.func (.func 204) #[] #[pt p12cb 0]] 245,bx p2b [iv 1] 3,bx p3b [iv p3] 3] (zml 6 9) rfl (A7 (v:=iv 1) ty3 rfl rfl 2 rfl rfl) ?_
 refine zhl 1 [bx p12cb [iv p12cRows,iv p12cCols,iv p12cTop,iv p12cBottom,bv p12cOrigin] 134,bx p1b [.func (.func 201) #[ag [iv p10f0,iv p10f1,iv p10f2,iv p10f3,bv p10f4]] #[],.func (.func 202) #[ag [iv p11f0,iv p11f1,iv p11f2,iv p11f3,bv p11f4]] #[],.func (.func 203) #[] #[pt p12cb 0],.func (.func 204) #[] #[pt p12cb 0]] 245,bx p2b [iv 1] 3,bx p3b [iv p3] 3] (zml 6 11) rfl (Z5 Tryz.underlying245 C2l rfl rfl rfl 1 rfl rfl) ?_
 refine zhl 2 [bx cb (B8 c) 23,bx p12cb [iv p12cRows,iv p12cCols,iv p12cTop,iv p12cBottom,bv p12cOrigin] 134,bx p1b [.func (.func 201) #[ag [iv p10f0,iv p10f1,iv p10f2,iv p10f3,bv p10f4]] #[],.func (.func 202) #[ag [iv p11f0,iv p11f1,iv p11f2,iv p11f3,bv p11f4]] #[],.func (.func 203) #[] #[pt p12cb 0],.func (.func 204) #[] #[pt p12cb 0]] 245,bx p2b [iv 1] 3,bx p3b [iv p3] 3] (zml 6 15) rfl (A7 (v:=.func (.func 202) #[ag [iv p11f0,iv p11f1,iv p11f2,iv p11f3,bv p11f4]] #[]) C2l rfl rfl 2 rfl rfl) ?_
 refine zhl 4 [bx cb (B8 c) 23,bx p12cb [iv p12cRows,iv p12cCols,iv p12cTop,iv p12cBottom,bv p12cOrigin] 134,bx p1b [.func (.func 201) #[ag [iv p10f0,iv p10f1,iv p10f2,iv p10f3,bv p10f4]] #[],.func (.func 202) #[ag [iv p11f0,iv p11f1,iv p11f2,iv p11f3,bv p11f4]] #[],.func (.func 203) #[] #[pt p12cb 0],.func (.func 204) #[] #[pt p12cb 0]] 245,bx p2b [iv 1] 3,bx p3b [iv p3] 3] (zml 6 31) rfl (A7 (v:=iv p3) ty3 rfl rfl 4 rfl rfl) ?_
 refine zho 5 [bx p12cb [iv p12cRows,iv p12cCols,iv p12cTop,iv p12cBottom,bv p12cOrigin] 134,bx p1b [.func (.func 201) #[ag [iv p10f0,iv p10f1,iv p10f2,iv p10f3,bv p10f4]] #[],.func (.func 202) #[ag [iv p11f0,iv p11f1,iv p11f2,iv p11f3,bv p11f4]] #[],.func (.func 203) #[] #[pt p12cb 0],.func (.func 204) #[] #[pt p12cb 0]] 245,bx p2b [iv 1] 3,bx p3b [iv p3] 3] (zml 6 63) rfl (C8 (L2:=[bx p12cb [iv p12cRows,iv p12cCols,iv p12cTop,iv p12cBottom,bv p12cOrigin] 134,bx p1b [.func (.func 201) #[ag [iv p10f0,iv p10f1,iv p10f2,iv p10f3,bv p10f4]] #[],.func (.func 202) #[ag [iv p11f0,iv p11f1,iv p11f2,iv p11f3,bv p11f4]] #[],.func (.func 203) #[] #[pt p12cb 0],.func (.func 204) #[] #[pt p12cb 0]] 245,bx p2b [iv 1] 3,bx p3b [iv p3] 3]) (B6j rfl) rfl rfl rfl rfl rfl fn0 (G9 [[bx cb (B8 c) 23],[bx p12cb [iv p12cRows,iv p12cCols,iv p12cTop,iv p12cBottom,bv p12cOrigin] 134],[bx p1b [.func (.func 201) #[ag [iv p10f0,iv p10f1,iv p10f2,iv p10f3,bv p10f4]] #[],.func (.func 202) #[ag [iv p11f0,iv p11f1,iv p11f2,iv p11f3,bv p11f4]] #[],.func (.func 203) #[] #[pt p12cb 0],.func (.func 204) #[] #[pt p12cb 0]] 245],[bx p2b [iv 1] 3],[bx p3b [iv p3] 3]] [0,1,2,3,4] 5 rfl ozw rfl [[bx cb (B8 c) 23],[bx p12cb [iv p12cRows,iv p12cCols,iv p12cTop,iv p12cBottom,bv p12cOrigin] 134],[bx p1b [.func (.func 201) #[ag [iv p10f0,iv p10f1,iv p10f2,iv p10f3,bv p10f4]] #[],.func (.func 202) #[ag [iv p11f0,iv p11f1,iv p11f2,iv p11f3,bv p11f4]] #[],.func (.func 203) #[] #[pt p12cb 0],.func (.func 204) #[] #[pt p12cb 0]] 245],[bx p2b [iv 1] 3],[bx p3b [iv p3] 3]] rfl opv) (fun _=>[bx cb (B8 (W9 p11f0 p11f1 p11f2 p11f3 p11f4 c p3)) 23,bx p12cb [iv p12cRows,iv p12cCols,iv p12cTop,iv p12cBottom,bv p12cOrigin] 134,bx p1b [.func (.func 201) #[ag [iv p10f0,iv p10f1,iv p10f2,iv p10f3,bv p10f4]] #[],.func (.func 202) #[ag [iv p11f0,iv p11f1,iv p11f2,iv p11f3,bv p11f4]] #[],.func (.func 203) #[] #[pt p12cb 0],.func (.func 204) #[] #[pt p12cb 0]] 245,bx p2b [iv 1] 3,bx p3b [iv p3] 3]) (fun _=>rfl)) (fun _=>sb_) (fun _=>fn0) fun _=>?_
 refine A0b okl ?_
 subst hR
 exact zen hr hD (A1a rfl) () sb_ fn0
def A8w (fR:Int) (fC:Int) (fTop:Int) (fBottom:Int) (fOrigin:Bool) (c:Cur) (g:Int) (i:Int) (o:Int) (h:Int) (k:Bool) (l:Int) (p:Int) (n:Int) (j:Int) (m:Bool) (e:Int) (d:Int) (f:Int) (a:Int) (b:Bool) (q:Int):Cur×Int :=
 (bif (!decide ((C2 fR fC fTop fBottom fOrigin c)=0)) then (Cur.zero,(C2 fR fC fTop fBottom fOrigin c)) else ((Z3 ({c with wrap:=false}) g i o h k l p n j m e d f a b q),0))
theorem C5n (fR:Int) (fC:Int) (fTop:Int) (fBottom:Int) (fOrigin:Bool) (c:Cur) (m:Int) (n:Int) (k:Int) (h:Int) (o:Bool) (j:Int) (l:Int) (q:Int) (i:Int) (p:Bool) (f:Int) (e:Int) (g:Int) (d:Int) (b:Bool) (u:Int) (t:Nat) (a:Nat) (s:Nat) (r:Nat) (R:Cur×Int) (hR:A8w fR fC fTop fBottom fOrigin c m n k h o j l q i p f e g d b u=R):Con Tryz.prog 205 [ag [iv fR,iv fC,iv fTop,iv fBottom,bv fOrigin],ag (B8 c),.func (.func 206) #[] #[pt t 0,pt s 0,pt r 0]] [bx a [iv f,iv e,iv g,iv d,bv b] 134,bx t [.func (.func 201) #[ag [iv m,iv n,iv k,iv h,bv o]] #[],.func (.func 202) #[ag [iv j,iv l,iv q,iv i,bv p]] #[],.func (.func 203) #[] #[pt a 0],.func (.func 204) #[] #[pt a 0]] 245,bx s [iv 1] 3,bx r [iv u] 3] [] (Unit) (fun x=>.tuple #[ag (B8 R.1),iv R.2]) (fun x=>[bx a [iv f,iv e,iv g,iv d,bv b] 134,bx t [.func (.func 201) #[ag [iv m,iv n,iv k,iv h,bv o]] #[],.func (.func 202) #[ag [iv j,iv l,iv q,iv i,bv p]] #[],.func (.func 203) #[] #[pt a 0],.func (.func 204) #[] #[pt a 0]] 245,bx s [iv 1] 3,bx r [iv u] 3]) (fun x=>[]):=by
 refine zco Tryz.func205 [(0,ag [iv fR,iv fC,iv fTop,iv fBottom,bv fOrigin]),(1,ag (B8 c)),(2,.func (.func 206) #[] #[pt t 0,pt s 0,pt r 0])] fun X hX hr hD=>?_
 replace hR:=(A8w.eq_1 ..).symm.trans hR
 refine sr 4 rfl (C0f 4 0 [] (fun v w y=>[(3,pt v 0),(4,pt w 0),(6,pt y 0)]) (fun v w y=>[bx y (B8 Cur.zero) 23,bx w (B8 c) 23,bx v [iv fR,iv fC,iv fTop,iv fBottom,bv fOrigin] 134,bx a [iv f,iv e,iv g,iv d,bv b] 134,bx t [.func (.func 201) #[ag [iv m,iv n,iv k,iv h,bv o]] #[],.func (.func 202) #[ag [iv j,iv l,iv q,iv i,bv p]] #[],.func (.func 203) #[] #[pt a 0],.func (.func 204) #[] #[pt a 0]] 245,bx s [iv 1] 3,bx r [iv u] 3]) (fun v w y=>(ie (A5 (sr 4 rfl (zrl 2 2 [2,1] [(9,ag [iv fR,iv fC,iv fTop,iv fBottom,bv fOrigin]),(10,ag (B8 c))] (zca (M7 (fR:=fR) (fC:=fC) (fTop:=fTop) (fBottom:=fBottom) (fOrigin:=fOrigin) (c:=c) rfl) fn0 (ip' 1 0 [(8,iv (C2 fR fC fTop fBottom fOrigin c))] (ie (sr 2 rfl (ip' 2 0 [(13,bv (!decide ((C2 fR fC fTop fBottom fOrigin c)=0)))] (ie ?_))))))))))))
 refine zjn rfl hR ?_ ?_<;>clear hR<;>intro hR h4 z
 ·refine sr 4 rfl (zrg 4 0 [0] [(7,iv (C2 fR fC fTop fBottom fOrigin c))] [bx y (B8 Cur.zero) 23,bx w (B8 c) 23,bx v [iv fR,iv fC,iv fTop,iv fBottom,bv fOrigin] 134,bx a [iv f,iv e,iv g,iv d,bv b] 134,bx t [.func (.func 201) #[ag [iv m,iv n,iv k,iv h,bv o]] #[],.func (.func 202) #[ag [iv j,iv l,iv q,iv i,bv p]] #[],.func (.func 203) #[] #[pt a 0],.func (.func 204) #[] #[pt a 0]] 245,bx s [iv 1] 3,bx r [iv u] 3] ?_)
  subst hR
  refine ie (A8 ?_)
  exact zer hr hD (U6 rfl (D4 (us:=B8 Cur.zero) X6 rfl 0 rfl rfl rfl) (B9 rfl)) () (mk [false,false,false,true,true,true,true] rfl) fn0
 refine A6 (nx (sr 2 rfl (zrg 2 0 [1] [] [bx y (B8 Cur.zero) 23,bx w (B8 ({c with wrap:=false})) 23,bx v [iv fR,iv fC,iv fTop,iv fBottom,bv fOrigin] 134,bx a [iv f,iv e,iv g,iv d,bv b] 134,bx t [.func (.func 201) #[ag [iv m,iv n,iv k,iv h,bv o]] #[],.func (.func 202) #[ag [iv j,iv l,iv q,iv i,bv p]] #[],.func (.func 203) #[] #[pt a 0],.func (.func 204) #[] #[pt a 0]] 245,bx s [iv 1] 3,bx r [iv u] 3] (ie (sr 2 rfl (ip' 1 1 [(17,.func (.func 206) #[] #[pt t 0,pt s 0,pt r 0])] (it rfl (C8 (L2:=[bx y (B8 Cur.zero) 23,bx v [iv fR,iv fC,iv fTop,iv fBottom,bv fOrigin] 134]) (C1c (c:=({c with wrap:=false})) (p10f0:=m) (p10f1:=n) (p10f2:=k) (p10f3:=h) (p10f4:=o) (p11f0:=j) (p11f1:=l) (p11f2:=q) (p11f3:=i) (p11f4:=p) (p12cRows:=f) (p12cCols:=e) (p12cTop:=g) (p12cBottom:=d) (p12cOrigin:=b) (p3:=u) (cb:=w) (p1b:=t) (p12cb:=a) (p2b:=s) (p3b:=r) rfl) rfl rfl rfl rfl rfl fn0 (G9 [[bx y (B8 Cur.zero) 23],[bx w (B8 ({c with wrap:=false})) 23],[bx v [iv fR,iv fC,iv fTop,iv fBottom,bv fOrigin] 134],[bx a [iv f,iv e,iv g,iv d,bv b] 134],[bx t [.func (.func 201) #[ag [iv m,iv n,iv k,iv h,bv o]] #[],.func (.func 202) #[ag [iv j,iv l,iv q,iv i,bv p]] #[],.func (.func 203) #[] #[pt a 0],.func (.func 204) #[] #[pt a 0]] 245],[bx s [iv 1] 3],[bx r [iv u] 3]] [1,3,4,5,6,0,2] 7 rfl ozw rfl [[bx w (B8 ({c with wrap:=false})) 23],[bx a [iv f,iv e,iv g,iv d,bv b] 134],[bx t [.func (.func 201) #[ag [iv m,iv n,iv k,iv h,bv o]] #[],.func (.func 202) #[ag [iv j,iv l,iv q,iv i,bv p]] #[],.func (.func 203) #[] #[pt a 0],.func (.func 204) #[] #[pt a 0]] 245],[bx s [iv 1] 3],[bx r [iv u] 3],[bx y (B8 Cur.zero) 23],[bx v [iv fR,iv fC,iv fTop,iv fBottom,bv fOrigin] 134]] rfl opv) (fun _=>[bx w (B8 (Z3 ({c with wrap:=false}) m n k h o j l q i p f e g d b u)) 23,bx a [iv f,iv e,iv g,iv d,bv b] 134,bx t [.func (.func 201) #[ag [iv m,iv n,iv k,iv h,bv o]] #[],.func (.func 202) #[ag [iv j,iv l,iv q,iv i,bv p]] #[],.func (.func 203) #[] #[pt a 0],.func (.func 204) #[] #[pt a 0]] 245,bx s [iv 1] 3,bx r [iv u] 3,bx y (B8 Cur.zero) 23,bx v [iv fR,iv fC,iv fTop,iv fBottom,bv fOrigin] 134]) (fun _=>rfl)) fun _=>?_)))))))
 refine ie (sr 3 rfl (zrg 3 0 [0,5] [(7,iv 0)] [bx w (B8 (Z3 ({c with wrap:=false}) m n k h o j l q i p f e g d b u)) 23,bx a [iv f,iv e,iv g,iv d,bv b] 134,bx t [.func (.func 201) #[ag [iv m,iv n,iv k,iv h,bv o]] #[],.func (.func 202) #[ag [iv j,iv l,iv q,iv i,bv p]] #[],.func (.func 203) #[] #[pt a 0],.func (.func 204) #[] #[pt a 0]] 245,bx s [iv 1] 3,bx r [iv u] 3,bx y (B8 (Z3 ({c with wrap:=false}) m n k h o j l q i p f e g d b u)) 23,bx v [iv fR,iv fC,iv fTop,iv fBottom,bv fOrigin] 134] ?_))
 subst hR
 refine ie (A8 ?_)
 exact zer hr hD (U6 rfl (D4 (us:=B8 (Z3 ({c with wrap:=false}) m n k h o j l q i p f e g d b u)) X6 rfl 5 rfl rfl rfl) (B9 rfl)) () (mk [false,true,true,true,true,false,false] rfl) fn0
def A5l (fR:Int) (fC:Int) (fTop:Int) (fBottom:Int) (fOrigin:Bool) (c:Cur) (n:Int):Cur×Int :=
 (bif (!decide ((C2 fR fC fTop fBottom fOrigin c)=0)) then (Cur.zero,(C2 fR fC fTop fBottom fOrigin c)) else (bif (decide (n<0)) then (Cur.zero,2) else (C9 (A8w fR fC fTop fBottom fOrigin c fR fC fTop fBottom fOrigin fR fC fTop fBottom fOrigin fR fC fTop fBottom fOrigin (if (IntKind.i64.wrap (fR+fC))<n then (IntKind.i64.wrap (fR+fC)) else n)) fun (a:Cur×Int)=>(a.1,a.2))))
theorem C5l {fR fC fTop fBottom:Int} {fOrigin:Bool} {c:Cur} {n:Int} {R:Cur×Int} (hR:A5l fR fC fTop fBottom fOrigin c n=R):G3 Tryz.prog 128 [ag [iv fR,iv fC,iv fTop,iv fBottom,bv fOrigin],ag (B8 c),iv 1,iv n] [] (.tuple #[ag (B8 R.1),iv R.2]):=by
 refine zce Tryz.func128 fun X hX hr hD=>?_
 replace hR:=(A5l.eq_1 ..).symm.trans hR
 refine sR_ rfl (C0f 3 3 [] (fun a e b=>[(4,pt a 0),(5,pt e 0),(6,pt b 0)]) (fun a e b=>[bx b [iv 1] 3,bx e (B8 c) 23,bx a [iv fR,iv fC,iv fTop,iv fBottom,bv fOrigin] 134]) (fun a e b=>?_))
 refine A8j 3 0 [] (fun d f=>[(7,pt d 0),(8,pt f 0)]) (fun d f=>[bx f (B8 Cur.zero) 23,bx d [iv n] 3,bx b [iv 1] 3,bx e (B8 c) 23,bx a [iv fR,iv fC,iv fTop,iv fBottom,bv fOrigin] 134]) (fun d f=>?_)
 refine ie (A5 (sR_ rfl (zrl 2 2 [4,3] [(12,ag [iv fR,iv fC,iv fTop,iv fBottom,bv fOrigin]),(13,ag (B8 c))] (zv rfl (M7 rfl) (pp1 1 10 rfl (ie (sR_ rfl (pp1 2 16 rfl (ie ?_)))))))))
 refine zjn rfl hR ?_ ?_<;>clear hR<;>intro hR o j
 ·refine sR_ rfl (zrg 4 0 [0] [(9,iv (C2 fR fC fTop fBottom fOrigin c))] [bx f (B8 Cur.zero) 23,bx d [iv n] 3,bx b [iv 1] 3,bx e (B8 c) 23,bx a [iv fR,iv fC,iv fTop,iv fBottom,bv fOrigin] 134] ?_)
  subst hR
  refine ie (A8 ?_)
  exact zer hr hD (U6 rfl (D4 (us:=B8 Cur.zero) X6 rfl 0 rfl rfl rfl) (B9 rfl)) () sb_ fn0
 refine A6 (nx (A5 (sR_ rfl (pl1 10 [2,2,1] 28 rfl (ie ?_)))))
 refine zjd rfl hR ?_ ?_<;>clear hR<;>intro hR m k
 ·refine sR_ rfl (zrg 3 0 [0] [(9,iv 2)] [bx f (B8 Cur.zero) 23,bx d [iv n] 3,bx b [iv 1] 3,bx e (B8 c) 23,bx a [iv fR,iv fC,iv fTop,iv fBottom,bv fOrigin] 134] ?_)
  subst hR
  refine ie (A8 ?_)
  exact zer hr hD (U6 rfl (D4 (us:=B8 Cur.zero) X6 rfl 0 rfl rfl rfl) (B9 rfl)) () sb_ fn0
 refine A6 (nx (sR_ rfl (pl3 5 [1,4,4] 30 32 34 rfl (ix rfl (G7.pure rfl) (zrg 2 0 [1] [] [bx f (B8 Cur.zero) 23,bx d [iv (if (IntKind.i64.wrap (fR+fC))<n then (IntKind.i64.wrap (fR+fC)) else n)] 3,bx b [iv 1] 3,bx e (B8 c) 23,bx a [iv fR,iv fC,iv fTop,iv fBottom,bv fOrigin] 134] (ie (sR_ rfl (H9 9 0 [4,4,0] (fun g=>[(11,pt g 0)]) (fun g=>[bx g [.func (.func 201) #[ag [iv fR,iv fC,iv fTop,iv fBottom,bv fOrigin]] #[],.func (.func 202) #[ag [iv fR,iv fC,iv fTop,iv fBottom,bv fOrigin]] #[],.func (.func 203) #[] #[pt a 0],.func (.func 204) #[] #[pt a 0]] 245,bx f (B8 Cur.zero) 23,bx d [iv (if (IntKind.i64.wrap (fR+fC))<n then (IntKind.i64.wrap (fR+fC)) else n)] 3,bx b [iv 1] 3,bx e (B8 c) 23,bx a [iv fR,iv fC,iv fTop,iv fBottom,bv fOrigin] 134]) (fun g=>(ie (sR_ rfl (zrl 3 5 [5,4] [(44,ag [iv fR,iv fC,iv fTop,iv fBottom,bv fOrigin]),(45,ag (B8 c)),(46,.func (.func 206) #[] #[pt g 0,pt b 0,pt d 0])] ?_))))))))))))
 have l:=D0 hR;clear hR;obtain ⟨h,i,hR⟩:=l
 refine zc rfl (C5n fR fC fTop fBottom fOrigin c fR fC fTop fBottom fOrigin fR fC fTop fBottom fOrigin fR fC fTop fBottom fOrigin (if (IntKind.i64.wrap (fR+fC))<n then (IntKind.i64.wrap (fR+fC)) else n) g a b d h i) fun _=>?_
 refine zrg 4 0 [4] [(9,iv h.2)] [bx a [iv fR,iv fC,iv fTop,iv fBottom,bv fOrigin] 134,bx g [.func (.func 201) #[ag [iv fR,iv fC,iv fTop,iv fBottom,bv fOrigin]] #[],.func (.func 202) #[ag [iv fR,iv fC,iv fTop,iv fBottom,bv fOrigin]] #[],.func (.func 203) #[] #[pt a 0],.func (.func 204) #[] #[pt a 0]] 245,bx b [iv 1] 3,bx d [iv (if (IntKind.i64.wrap (fR+fC))<n then (IntKind.i64.wrap (fR+fC)) else n)] 3,bx f (B8 h.1) 23,bx e (B8 c) 23] ?_
 subst hR
 refine ie (A8 ?_)
 exact zer hr hD (U6 rfl (D4 (us:=B8 h.1) X6 rfl 4 rfl rfl rfl) (B9 rfl)) () sb_ fn0
def Q1 (s:ScrC) (sMain:List (Rwc Cel)) (sAlt:List (Rwc Cel)) (sTabs:List Bool) (akind:Int) (am:Int) (acolor:Col) (atext:List UInt8):ScrC :=
 (C9 (A0 s sMain sAlt sTabs) fun (a:Int×Int×Int×Int×Bool)=>(C9 (A5l a.1 a.2.1 a.2.2.1 a.2.2.2.1 a.2.2.2.2 s.cursor am) fun (b:Cur×Int)=>{s with cursor:=b.1}))
theorem B4y {s:ScrC} {sMain sAlt:List (Rwc Cel)} {sTabs:List Bool} {akind am:Int} {acolor:Col} {atext:List UInt8} {sb:Nat} {sMainq:Option Addr} {sMainrs:List Rwq} {sMaink:Nat} {sAltq:Option Addr} {sAltrs:List Rwq} {sAltk:Nat} {sTabsq:Option Addr} {sTabsk:Nat} {R:ScrC} (hR:Q1 s sMain sAlt sTabs akind am acolor atext=R) (a:F8 sMainrs sMain:=by exact om_) (e:sMain.length≤9223372036854775807:=by exact om_) (g:sMain.length≤sMaink:=by exact om_) (b:F8 sAltrs sAlt:=by exact om_) (j:sAlt.length≤9223372036854775807:=by exact om_) (k:sAlt.length≤sAltk:=by exact om_) (h:sTabs.length≤9223372036854775807:=by exact om_) (i:sTabs.length≤sTabsk:=by exact om_):Con Tryz.prog 52 [pt sb 0,ag (A2 (⟨akind,1,am,acolor,atext⟩:Act))] [bx sb (B6 s ⟨sMainq,sMain.length,sMaink⟩ ⟨sAltq,sAlt.length,sAltk⟩ ⟨none,0,0⟩ ⟨sTabsq,sTabs.length,sTabsk⟩) 79] [sl K1 sMainq sMainrs,G5 G4 sMainrs sMain,sl K1 sAltq sAltrs,G5 G4 sAltrs sAlt,sl N8 sTabsq sTabs] (Unit) (fun x=>.tuple #[]) (fun x=>[bx sb (B6 R ⟨sMainq,sMain.length,sMaink⟩ ⟨sAltq,sAlt.length,sAltk⟩ ⟨none,0,0⟩ ⟨sTabsq,sTabs.length,sTabsk⟩) 79]) (fun x=>[]):=by
 refine zce Tryz.func52 fun X hX hr hD=>?_
 replace hR:=(Q1.eq_1 ..).symm.trans hR
 have:=a.1
 have:=b.1
 refine sR_ rfl (H9 1 0 [] (fun c=>[(3,pt c 0)]) (fun c=>[bx c (A2 (⟨akind,1,am,acolor,atext⟩:Act)) 56,bx sb (B6 s ⟨sMainq,sMain.length,sMaink⟩ ⟨sAltq,sAlt.length,sAltk⟩ ⟨none,0,0⟩ ⟨sTabsq,sTabs.length,sTabsk⟩) 79]) (fun c=>(ie (sh' 20 [(20,[bx c (A2 (⟨akind,1,am,acolor,atext⟩:Act)) 56]),(19,[bx sb (B6 s ⟨sMainq,sMain.length,sMaink⟩ ⟨sAltq,sAlt.length,sAltk⟩ ⟨none,0,0⟩ ⟨sTabsq,sTabs.length,sTabsk⟩) 79])] [sl K1 sMainq sMainrs,G5 G4 sMainrs sMain,sl K1 sAltq sAltrs,G5 G4 sAltrs sAlt,sl N8 sTabsq sTabs] [bx c (A2 (⟨akind,1,am,acolor,atext⟩:Act)) 56,bx sb (B6 s ⟨sMainq,sMain.length,sMaink⟩ ⟨sAltq,sAlt.length,sAltk⟩ ⟨none,0,0⟩ ⟨sTabsq,sTabs.length,sTabsk⟩) 79] (zml 20 0) okl rfl okl okl okl sb_ B0.refl ?_))))
 refine zhp [0,1,3,4,5,6,8,10] 12 (zml 20 1403) [(5,pt sb 0),(6,pt sb 0),(11,pt sb 6),(13,pt c 1),(15,pt c 2)] ?_
 refine zhl 7 [bx c (A2 (⟨akind,1,am,acolor,atext⟩:Act)) 56,bx sb (B6 s ⟨sMainq,sMain.length,sMaink⟩ ⟨sAltq,sAlt.length,sAltk⟩ ⟨none,0,0⟩ ⟨sTabsq,sTabs.length,sTabsk⟩) 79] (zml 20 1531) rfl (F7 (us:=B8 s.cursor) X6 rfl rfl 1 rfl rfl rfl) ?_
 refine zhl 9 [bx c (A2 (⟨akind,1,am,acolor,atext⟩:Act)) 56,bx sb (B6 s ⟨sMainq,sMain.length,sMaink⟩ ⟨sAltq,sAlt.length,sAltk⟩ ⟨none,0,0⟩ ⟨sTabsq,sTabs.length,sTabsk⟩) 79] (zml 20 2043) rfl (A7 (v:=iv 1) ty3 rfl rfl 0 rfl rfl) ?_
 refine zhl 11 [bx c (A2 (⟨akind,1,am,acolor,atext⟩:Act)) 56,bx sb (B6 s ⟨sMainq,sMain.length,sMaink⟩ ⟨sAltq,sAlt.length,sAltk⟩ ⟨none,0,0⟩ ⟨sTabsq,sTabs.length,sTabsk⟩) 79] (zml 20 4091) rfl (A7 (v:=iv am) ty3 rfl rfl 0 rfl rfl) ?_
 have m:=D0 hR;clear hR;obtain ⟨n,l,hR⟩:=m
 refine zho 2 [bx c (A2 (⟨akind,1,am,acolor,atext⟩:Act)) 56,bx sb (B6 s ⟨sMainq,sMain.length,sMaink⟩ ⟨sAltq,sAlt.length,sAltk⟩ ⟨none,0,0⟩ ⟨sTabsq,sTabs.length,sTabsk⟩) 79] (zml 20 4095) rfl (V8 (L2:=[bx c (A2 (⟨akind,1,am,acolor,atext⟩:Act)) 56]) (J7 l a om_ om_ b) rfl rfl rfl rfl rfl B0.refl (G9 [[bx c (A2 (⟨akind,1,am,acolor,atext⟩:Act)) 56],[bx sb (B6 s ⟨sMainq,sMain.length,sMaink⟩ ⟨sAltq,sAlt.length,sAltk⟩ ⟨none,0,0⟩ ⟨sTabsq,sTabs.length,sTabsk⟩) 79]] [1,0] 2 rfl ozw rfl [[bx sb (B6 s ⟨sMainq,sMain.length,sMaink⟩ ⟨sAltq,sAlt.length,sAltk⟩ ⟨none,0,0⟩ ⟨sTabsq,sTabs.length,sTabsk⟩) 79],[bx c (A2 (⟨akind,1,am,acolor,atext⟩:Act)) 56]] rfl opv) (fun _=>[bx c (A2 (⟨akind,1,am,acolor,atext⟩:Act)) 56,bx sb (B6 s ⟨sMainq,sMain.length,sMaink⟩ ⟨sAltq,sAlt.length,sAltk⟩ ⟨none,0,0⟩ ⟨sTabsq,sTabs.length,sTabsk⟩) 79]) (fun _=>G9 [[bx sb (B6 s ⟨sMainq,sMain.length,sMaink⟩ ⟨sAltq,sAlt.length,sAltk⟩ ⟨none,0,0⟩ ⟨sTabsq,sTabs.length,sTabsk⟩) 79],[bx c (A2 (⟨akind,1,am,acolor,atext⟩:Act)) 56]] [1,0] 2 rfl ozw opv [[bx c (A2 (⟨akind,1,am,acolor,atext⟩:Act)) 56],[bx sb (B6 s ⟨sMainq,sMain.length,sMaink⟩ ⟨sAltq,sAlt.length,sAltk⟩ ⟨none,0,0⟩ ⟨sTabsq,sTabs.length,sTabsk⟩) 79]] rfl opv)) (fun _=>sb_) (fun _=>B0.refl) fun _=>?_
 have m:=D0 hR;clear hR;obtain ⟨d,f,hR⟩:=m
 refine zho 12 [bx c (A2 (⟨akind,1,am,acolor,atext⟩:Act)) 56,bx sb (B6 s ⟨sMainq,sMain.length,sMaink⟩ ⟨sAltq,sAlt.length,sAltk⟩ ⟨none,0,0⟩ ⟨sTabsq,sTabs.length,sTabsk⟩) 79] (zml 20 8191) rfl (Det.tri (N3 (C5l f) rfl rfl rfl rfl rfl fn0)) (fun _=>sb_) (fun _=>B0.refl) fun _=>?_
 refine zhp [13,14,15,16,17,18] 1 (zml 20 524287) [(18,ag (B8 d.1)),(22,pt sb 6)] ?_
 refine zho 19 [bx c (A2 (⟨akind,1,am,acolor,atext⟩:Act)) 56] (zml 20 1048575) rfl (F2 (us:=B8 d.1) (cs':=B6 ({s with cursor:=d.1}) ⟨sMainq,sMain.length,sMaink⟩ ⟨sAltq,sAlt.length,sAltk⟩ ⟨none,0,0⟩ ⟨sTabsq,sTabs.length,sTabsk⟩) X6 rfl rfl rfl 1 rfl rfl rfl rfl rfl rfl) (fun _=>sb_) (fun _=>B0.refl) fun _=>?_
 refine A0b okl ?_
 subst hR
 exact zen hr hD (A1a rfl) () sb_ fn0
def A6z (c:Cur) (n:Int) (e:Int) (d:Int) (f:Int) (b:Int) (a:Bool):Cur :=
 {c with col:=(H4 e d f b a (IntKind.i64.wrap (c.col+n)))}
theorem C2o {c:Cur} {n e d f b:Int} {a:Bool} {cb p2b:Nat} {R:Cur} (hR:A6z c n e d f b a=R):Con Tryz.prog 203 [pt cb 0,iv n,pt p2b 0] [bx cb (B8 c) 23,bx p2b [iv e,iv d,iv f,iv b,bv a] 134] [] (Unit) (fun x=>.tuple #[]) (fun x=>[bx cb (B8 R) 23,bx p2b [iv e,iv d,iv f,iv b,bv a] 134]) (fun x=>[]):=by
 refine zce Tryz.func203 fun X hX hr hD=>?_
 replace hR:=(A6z.eq_1 ..).symm.trans hR
 refine sh' 12 [(11,[bx cb (B8 c) 23]),(12,[bx p2b [iv e,iv d,iv f,iv b,bv a] 134])] [] [bx cb (B8 c) 23,bx p2b [iv e,iv d,iv f,iv b,bv a] 134] (zml 12 0) okl rfl okl okl okl sb_ B0.refl ?_
 refine zhp [0,2,3,4,6] 7 (zml 12 93) [(5,pt cb 0),(9,pt cb 1),(11,iv n)] ?_
 refine zhl 1 [bx cb (B8 c) 23,bx p2b [iv e,iv d,iv f,iv b,bv a] 134] (zml 12 95) rfl (F7 (us:=[iv e,iv d,iv f,iv b,bv a]) D0e rfl rfl 1 rfl rfl rfl) ?_
 refine zhl 5 [bx cb (B8 c) 23,bx p2b [iv e,iv d,iv f,iv b,bv a] 134] (zml 12 127) rfl (A7 (v:=iv c.col) ty3 rfl rfl 0 rfl rfl) ?_
 refine zhk 7 (zml 12 255) rfl (G7.pure rfl) ?_
 refine zho 8 [bx cb (B8 c) 23,bx p2b [iv e,iv d,iv f,iv b,bv a] 134] (zml 12 511) rfl (Det.tri (N3 (A4s rfl) rfl rfl rfl rfl rfl fn0)) (fun _=>sb_) (fun _=>fn0) fun _=>?_
 refine zhp [9,10] 1 (zml 12 2047) [(15,pt cb 1)] ?_
 refine zho 11 [bx p2b [iv e,iv d,iv f,iv b,bv a] 134] (zml 12 4095) rfl (F2 (us:=[iv (H4 e d f b a (IntKind.i64.wrap (c.col+n)))]) (cs':=B8 ({c with col:=(H4 e d f b a (IntKind.i64.wrap (c.col+n)))})) ty3 rfl rfl rfl 0 rfl rfl rfl rfl rfl rfl) (fun _=>sb_) (fun _=>fn0) fun _=>?_
 refine A0b okl ?_
 subst hR
 exact zen hr hD (A1a rfl) () sb_ fn0
def Z8 (c:Cur) (p10f0:Int) (p10f1:Int) (p10f2:Int) (p10f3:Int) (p10f4:Bool) (p11f0:Int) (p11f1:Int) (p11f2:Int) (p11f3:Int) (p11f4:Bool) (p12cRows:Int) (p12cCols:Int) (p12cTop:Int) (p12cBottom:Int) (p12cOrigin:Bool) (p3:Int):Cur :=
 (A6z c p3 p12cRows p12cCols p12cTop p12cBottom p12cOrigin)
theorem C1b {c:Cur} {p10f0 p10f1 p10f2 p10f3:Int} {p10f4:Bool} {p11f0 p11f1 p11f2 p11f3:Int} {p11f4:Bool} {p12cRows p12cCols p12cTop p12cBottom:Int} {p12cOrigin:Bool} {p3:Int} {cb p1b p12cb p2b p3b:Nat} {R:Cur} (hR:Z8 c p10f0 p10f1 p10f2 p10f3 p10f4 p11f0 p11f1 p11f2 p11f3 p11f4 p12cRows p12cCols p12cTop p12cBottom p12cOrigin p3=R):Con Tryz.prog 206 [pt cb 0,pt p1b 0,pt p2b 0,pt p3b 0] [bx cb (B8 c) 23,bx p12cb [iv p12cRows,iv p12cCols,iv p12cTop,iv p12cBottom,bv p12cOrigin] 134,bx p1b [.func (.func 201) #[ag [iv p10f0,iv p10f1,iv p10f2,iv p10f3,bv p10f4]] #[],.func (.func 202) #[ag [iv p11f0,iv p11f1,iv p11f2,iv p11f3,bv p11f4]] #[],.func (.func 203) #[] #[pt p12cb 0],.func (.func 204) #[] #[pt p12cb 0]] 245,bx p2b [iv 2] 3,bx p3b [iv p3] 3] [] (Unit) (fun x=>.tuple #[]) (fun x=>[bx cb (B8 R) 23,bx p12cb [iv p12cRows,iv p12cCols,iv p12cTop,iv p12cBottom,bv p12cOrigin] 134,bx p1b [.func (.func 201) #[ag [iv p10f0,iv p10f1,iv p10f2,iv p10f3,bv p10f4]] #[],.func (.func 202) #[ag [iv p11f0,iv p11f1,iv p11f2,iv p11f3,bv p11f4]] #[],.func (.func 203) #[] #[pt p12cb 0],.func (.func 204) #[] #[pt p12cb 0]] 245,bx p2b [iv 2] 3,bx p3b [iv p3] 3]) (fun x=>[]):=by
 refine zce Tryz.func206 fun X hX hr hD=>?_
 replace hR:=(Z8.eq_1 ..).symm.trans hR
 refine sh' 6 [(5,[bx cb (B8 c) 23]),(6,[bx p12cb [iv p12cRows,iv p12cCols,iv p12cTop,iv p12cBottom,bv p12cOrigin] 134]),(6,[bx p1b [.func (.func 201) #[ag [iv p10f0,iv p10f1,iv p10f2,iv p10f3,bv p10f4]] #[],.func (.func 202) #[ag [iv p11f0,iv p11f1,iv p11f2,iv p11f3,bv p11f4]] #[],.func (.func 203) #[] #[pt p12cb 0],.func (.func 204) #[] #[pt p12cb 0]] 245]),(6,[bx p2b [iv 2] 3]),(6,[bx p3b [iv p3] 3])] [] [bx cb (B8 c) 23,bx p12cb [iv p12cRows,iv p12cCols,iv p12cTop,iv p12cBottom,bv p12cOrigin] 134,bx p1b [.func (.func 201) #[ag [iv p10f0,iv p10f1,iv p10f2,iv p10f3,bv p10f4]] #[],.func (.func 202) #[ag [iv p11f0,iv p11f1,iv p11f2,iv p11f3,bv p11f4]] #[],.func (.func 203) #[] #[pt p12cb 0],.func (.func 204) #[] #[pt p12cb 0]] 245,bx p2b [iv 2] 3,bx p3b [iv p3] 3] (zml 6 0) okl rfl okl okl okl sb_ B0.refl ?_
 refine zhp [3] 5 (zml 6 8) [(8,pt cb 0)] ?_
 refine zhl 0 [bx p12cb [iv p12cRows,iv p12cCols,iv p12cTop,iv p12cBottom,bv p12cOrigin] 134,bx p1b [.func (.func 201) #[ag [iv p10f0,iv p10f1,iv p10f2,iv p10f3,bv p10f4]] #[],.func (.func 202) #[ag [iv p11f0,iv p11f1,iv p11f2,iv p11f3,bv p11f4]] #[],.func (.func 203) #[] #[pt p12cb 0],.func (.func 204) #[] #[pt p12cb 0]] 245,bx p2b [iv 2] 3,bx p3b [iv p3] 3] (zml 6 9) rfl (A7 (v:=iv 2) ty3 rfl rfl 2 rfl rfl) ?_
 refine zhl 1 [bx p12cb [iv p12cRows,iv p12cCols,iv p12cTop,iv p12cBottom,bv p12cOrigin] 134,bx p1b [.func (.func 201) #[ag [iv p10f0,iv p10f1,iv p10f2,iv p10f3,bv p10f4]] #[],.func (.func 202) #[ag [iv p11f0,iv p11f1,iv p11f2,iv p11f3,bv p11f4]] #[],.func (.func 203) #[] #[pt p12cb 0],.func (.func 204) #[] #[pt p12cb 0]] 245,bx p2b [iv 2] 3,bx p3b [iv p3] 3] (zml 6 11) rfl (Z5 Tryz.underlying245 C2l rfl rfl rfl 2 rfl rfl) ?_
 refine zhl 2 [bx cb (B8 c) 23,bx p12cb [iv p12cRows,iv p12cCols,iv p12cTop,iv p12cBottom,bv p12cOrigin] 134,bx p1b [.func (.func 201) #[ag [iv p10f0,iv p10f1,iv p10f2,iv p10f3,bv p10f4]] #[],.func (.func 202) #[ag [iv p11f0,iv p11f1,iv p11f2,iv p11f3,bv p11f4]] #[],.func (.func 203) #[] #[pt p12cb 0],.func (.func 204) #[] #[pt p12cb 0]] 245,bx p2b [iv 2] 3,bx p3b [iv p3] 3] (zml 6 15) rfl (A7 (v:=.func (.func 203) #[] #[pt p12cb 0]) C2l rfl rfl 2 rfl rfl) ?_
 refine zhl 4 [bx cb (B8 c) 23,bx p12cb [iv p12cRows,iv p12cCols,iv p12cTop,iv p12cBottom,bv p12cOrigin] 134,bx p1b [.func (.func 201) #[ag [iv p10f0,iv p10f1,iv p10f2,iv p10f3,bv p10f4]] #[],.func (.func 202) #[ag [iv p11f0,iv p11f1,iv p11f2,iv p11f3,bv p11f4]] #[],.func (.func 203) #[] #[pt p12cb 0],.func (.func 204) #[] #[pt p12cb 0]] 245,bx p2b [iv 2] 3,bx p3b [iv p3] 3] (zml 6 31) rfl (A7 (v:=iv p3) ty3 rfl rfl 4 rfl rfl) ?_
 refine zho 5 [bx p12cb [iv p12cRows,iv p12cCols,iv p12cTop,iv p12cBottom,bv p12cOrigin] 134,bx p1b [.func (.func 201) #[ag [iv p10f0,iv p10f1,iv p10f2,iv p10f3,bv p10f4]] #[],.func (.func 202) #[ag [iv p11f0,iv p11f1,iv p11f2,iv p11f3,bv p11f4]] #[],.func (.func 203) #[] #[pt p12cb 0],.func (.func 204) #[] #[pt p12cb 0]] 245,bx p2b [iv 2] 3,bx p3b [iv p3] 3] (zml 6 63) rfl (C8 (L2:=[bx p1b [.func (.func 201) #[ag [iv p10f0,iv p10f1,iv p10f2,iv p10f3,bv p10f4]] #[],.func (.func 202) #[ag [iv p11f0,iv p11f1,iv p11f2,iv p11f3,bv p11f4]] #[],.func (.func 203) #[] #[pt p12cb 0],.func (.func 204) #[] #[pt p12cb 0]] 245,bx p2b [iv 2] 3,bx p3b [iv p3] 3]) (C2o rfl) rfl rfl rfl rfl rfl fn0 (G9 [[bx cb (B8 c) 23],[bx p12cb [iv p12cRows,iv p12cCols,iv p12cTop,iv p12cBottom,bv p12cOrigin] 134],[bx p1b [.func (.func 201) #[ag [iv p10f0,iv p10f1,iv p10f2,iv p10f3,bv p10f4]] #[],.func (.func 202) #[ag [iv p11f0,iv p11f1,iv p11f2,iv p11f3,bv p11f4]] #[],.func (.func 203) #[] #[pt p12cb 0],.func (.func 204) #[] #[pt p12cb 0]] 245],[bx p2b [iv 2] 3],[bx p3b [iv p3] 3]] [0,1,2,3,4] 5 rfl ozw rfl [[bx cb (B8 c) 23],[bx p12cb [iv p12cRows,iv p12cCols,iv p12cTop,iv p12cBottom,bv p12cOrigin] 134],[bx p1b [.func (.func 201) #[ag [iv p10f0,iv p10f1,iv p10f2,iv p10f3,bv p10f4]] #[],.func (.func 202) #[ag [iv p11f0,iv p11f1,iv p11f2,iv p11f3,bv p11f4]] #[],.func (.func 203) #[] #[pt p12cb 0],.func (.func 204) #[] #[pt p12cb 0]] 245],[bx p2b [iv 2] 3],[bx p3b [iv p3] 3]] rfl opv) (fun _=>[bx cb (B8 (A6z c p3 p12cRows p12cCols p12cTop p12cBottom p12cOrigin)) 23,bx p12cb [iv p12cRows,iv p12cCols,iv p12cTop,iv p12cBottom,bv p12cOrigin] 134,bx p1b [.func (.func 201) #[ag [iv p10f0,iv p10f1,iv p10f2,iv p10f3,bv p10f4]] #[],.func (.func 202) #[ag [iv p11f0,iv p11f1,iv p11f2,iv p11f3,bv p11f4]] #[],.func (.func 203) #[] #[pt p12cb 0],.func (.func 204) #[] #[pt p12cb 0]] 245,bx p2b [iv 2] 3,bx p3b [iv p3] 3]) (fun _=>rfl)) (fun _=>sb_) (fun _=>fn0) fun _=>?_
 refine A0b okl ?_
 subst hR
 exact zen hr hD (A1a rfl) () sb_ fn0
def A8q (fR:Int) (fC:Int) (fTop:Int) (fBottom:Int) (fOrigin:Bool) (c:Cur) (g:Int) (i:Int) (o:Int) (h:Int) (k:Bool) (l:Int) (p:Int) (n:Int) (j:Int) (m:Bool) (e:Int) (d:Int) (f:Int) (a:Int) (b:Bool) (q:Int):Cur×Int :=
 (bif (!decide ((C2 fR fC fTop fBottom fOrigin c)=0)) then (Cur.zero,(C2 fR fC fTop fBottom fOrigin c)) else ((Z8 ({c with wrap:=false}) g i o h k l p n j m e d f a b q),0))
theorem C4b (fR:Int) (fC:Int) (fTop:Int) (fBottom:Int) (fOrigin:Bool) (c:Cur) (m:Int) (n:Int) (k:Int) (h:Int) (o:Bool) (j:Int) (l:Int) (q:Int) (i:Int) (p:Bool) (f:Int) (e:Int) (g:Int) (d:Int) (b:Bool) (u:Int) (t:Nat) (a:Nat) (s:Nat) (r:Nat) (R:Cur×Int) (hR:A8q fR fC fTop fBottom fOrigin c m n k h o j l q i p f e g d b u=R):Con Tryz.prog 205 [ag [iv fR,iv fC,iv fTop,iv fBottom,bv fOrigin],ag (B8 c),.func (.func 206) #[] #[pt t 0,pt s 0,pt r 0]] [bx a [iv f,iv e,iv g,iv d,bv b] 134,bx t [.func (.func 201) #[ag [iv m,iv n,iv k,iv h,bv o]] #[],.func (.func 202) #[ag [iv j,iv l,iv q,iv i,bv p]] #[],.func (.func 203) #[] #[pt a 0],.func (.func 204) #[] #[pt a 0]] 245,bx s [iv 2] 3,bx r [iv u] 3] [] (Unit) (fun x=>.tuple #[ag (B8 R.1),iv R.2]) (fun x=>[bx a [iv f,iv e,iv g,iv d,bv b] 134,bx t [.func (.func 201) #[ag [iv m,iv n,iv k,iv h,bv o]] #[],.func (.func 202) #[ag [iv j,iv l,iv q,iv i,bv p]] #[],.func (.func 203) #[] #[pt a 0],.func (.func 204) #[] #[pt a 0]] 245,bx s [iv 2] 3,bx r [iv u] 3]) (fun x=>[]):=by
 refine zco Tryz.func205 [(0,ag [iv fR,iv fC,iv fTop,iv fBottom,bv fOrigin]),(1,ag (B8 c)),(2,.func (.func 206) #[] #[pt t 0,pt s 0,pt r 0])] fun X hX hr hD=>?_
 replace hR:=(A8q.eq_1 ..).symm.trans hR
 refine sr 4 rfl (C0f 4 0 [] (fun v w y=>[(3,pt v 0),(4,pt w 0),(6,pt y 0)]) (fun v w y=>[bx y (B8 Cur.zero) 23,bx w (B8 c) 23,bx v [iv fR,iv fC,iv fTop,iv fBottom,bv fOrigin] 134,bx a [iv f,iv e,iv g,iv d,bv b] 134,bx t [.func (.func 201) #[ag [iv m,iv n,iv k,iv h,bv o]] #[],.func (.func 202) #[ag [iv j,iv l,iv q,iv i,bv p]] #[],.func (.func 203) #[] #[pt a 0],.func (.func 204) #[] #[pt a 0]] 245,bx s [iv 2] 3,bx r [iv u] 3]) (fun v w y=>(ie (A5 (sr 4 rfl (zrl 2 2 [2,1] [(9,ag [iv fR,iv fC,iv fTop,iv fBottom,bv fOrigin]),(10,ag (B8 c))] (zca (M7 (fR:=fR) (fC:=fC) (fTop:=fTop) (fBottom:=fBottom) (fOrigin:=fOrigin) (c:=c) rfl) fn0 (ip' 1 0 [(8,iv (C2 fR fC fTop fBottom fOrigin c))] (ie (sr 2 rfl (ip' 2 0 [(13,bv (!decide ((C2 fR fC fTop fBottom fOrigin c)=0)))] (ie ?_))))))))))))
 refine zjn rfl hR ?_ ?_<;>clear hR<;>intro hR h4 z
 ·refine sr 4 rfl (zrg 4 0 [0] [(7,iv (C2 fR fC fTop fBottom fOrigin c))] [bx y (B8 Cur.zero) 23,bx w (B8 c) 23,bx v [iv fR,iv fC,iv fTop,iv fBottom,bv fOrigin] 134,bx a [iv f,iv e,iv g,iv d,bv b] 134,bx t [.func (.func 201) #[ag [iv m,iv n,iv k,iv h,bv o]] #[],.func (.func 202) #[ag [iv j,iv l,iv q,iv i,bv p]] #[],.func (.func 203) #[] #[pt a 0],.func (.func 204) #[] #[pt a 0]] 245,bx s [iv 2] 3,bx r [iv u] 3] ?_)
  subst hR
  refine ie (A8 ?_)
  exact zer hr hD (U6 rfl (D4 (us:=B8 Cur.zero) X6 rfl 0 rfl rfl rfl) (B9 rfl)) () (mk [false,false,false,true,true,true,true] rfl) fn0
 refine A6 (nx (sr 2 rfl (zrg 2 0 [1] [] [bx y (B8 Cur.zero) 23,bx w (B8 ({c with wrap:=false})) 23,bx v [iv fR,iv fC,iv fTop,iv fBottom,bv fOrigin] 134,bx a [iv f,iv e,iv g,iv d,bv b] 134,bx t [.func (.func 201) #[ag [iv m,iv n,iv k,iv h,bv o]] #[],.func (.func 202) #[ag [iv j,iv l,iv q,iv i,bv p]] #[],.func (.func 203) #[] #[pt a 0],.func (.func 204) #[] #[pt a 0]] 245,bx s [iv 2] 3,bx r [iv u] 3] (ie (sr 2 rfl (ip' 1 1 [(17,.func (.func 206) #[] #[pt t 0,pt s 0,pt r 0])] (it rfl (C8 (L2:=[bx y (B8 Cur.zero) 23,bx v [iv fR,iv fC,iv fTop,iv fBottom,bv fOrigin] 134]) (C1b (c:=({c with wrap:=false})) (p10f0:=m) (p10f1:=n) (p10f2:=k) (p10f3:=h) (p10f4:=o) (p11f0:=j) (p11f1:=l) (p11f2:=q) (p11f3:=i) (p11f4:=p) (p12cRows:=f) (p12cCols:=e) (p12cTop:=g) (p12cBottom:=d) (p12cOrigin:=b) (p3:=u) (cb:=w) (p1b:=t) (p12cb:=a) (p2b:=s) (p3b:=r) rfl) rfl rfl rfl rfl rfl fn0 (G9 [[bx y (B8 Cur.zero) 23],[bx w (B8 ({c with wrap:=false})) 23],[bx v [iv fR,iv fC,iv fTop,iv fBottom,bv fOrigin] 134],[bx a [iv f,iv e,iv g,iv d,bv b] 134],[bx t [.func (.func 201) #[ag [iv m,iv n,iv k,iv h,bv o]] #[],.func (.func 202) #[ag [iv j,iv l,iv q,iv i,bv p]] #[],.func (.func 203) #[] #[pt a 0],.func (.func 204) #[] #[pt a 0]] 245],[bx s [iv 2] 3],[bx r [iv u] 3]] [1,3,4,5,6,0,2] 7 rfl ozw rfl [[bx w (B8 ({c with wrap:=false})) 23],[bx a [iv f,iv e,iv g,iv d,bv b] 134],[bx t [.func (.func 201) #[ag [iv m,iv n,iv k,iv h,bv o]] #[],.func (.func 202) #[ag [iv j,iv l,iv q,iv i,bv p]] #[],.func (.func 203) #[] #[pt a 0],.func (.func 204) #[] #[pt a 0]] 245],[bx s [iv 2] 3],[bx r [iv u] 3],[bx y (B8 Cur.zero) 23],[bx v [iv fR,iv fC,iv fTop,iv fBottom,bv fOrigin] 134]] rfl opv) (fun _=>[bx w (B8 (Z8 ({c with wrap:=false}) m n k h o j l q i p f e g d b u)) 23,bx a [iv f,iv e,iv g,iv d,bv b] 134,bx t [.func (.func 201) #[ag [iv m,iv n,iv k,iv h,bv o]] #[],.func (.func 202) #[ag [iv j,iv l,iv q,iv i,bv p]] #[],.func (.func 203) #[] #[pt a 0],.func (.func 204) #[] #[pt a 0]] 245,bx s [iv 2] 3,bx r [iv u] 3,bx y (B8 Cur.zero) 23,bx v [iv fR,iv fC,iv fTop,iv fBottom,bv fOrigin] 134]) (fun _=>rfl)) fun _=>?_)))))))
 refine ie (sr 3 rfl (zrg 3 0 [0,5] [(7,iv 0)] [bx w (B8 (Z8 ({c with wrap:=false}) m n k h o j l q i p f e g d b u)) 23,bx a [iv f,iv e,iv g,iv d,bv b] 134,bx t [.func (.func 201) #[ag [iv m,iv n,iv k,iv h,bv o]] #[],.func (.func 202) #[ag [iv j,iv l,iv q,iv i,bv p]] #[],.func (.func 203) #[] #[pt a 0],.func (.func 204) #[] #[pt a 0]] 245,bx s [iv 2] 3,bx r [iv u] 3,bx y (B8 (Z8 ({c with wrap:=false}) m n k h o j l q i p f e g d b u)) 23,bx v [iv fR,iv fC,iv fTop,iv fBottom,bv fOrigin] 134] ?_))
 subst hR
 refine ie (A8 ?_)
 exact zer hr hD (U6 rfl (D4 (us:=B8 (Z8 ({c with wrap:=false}) m n k h o j l q i p f e g d b u)) X6 rfl 5 rfl rfl rfl) (B9 rfl)) () (mk [false,true,true,true,true,false,false] rfl) fn0
def A5u (fR:Int) (fC:Int) (fTop:Int) (fBottom:Int) (fOrigin:Bool) (c:Cur) (n:Int):Cur×Int :=
 (bif (!decide ((C2 fR fC fTop fBottom fOrigin c)=0)) then (Cur.zero,(C2 fR fC fTop fBottom fOrigin c)) else (bif (decide (n<0)) then (Cur.zero,2) else (C9 (A8q fR fC fTop fBottom fOrigin c fR fC fTop fBottom fOrigin fR fC fTop fBottom fOrigin fR fC fTop fBottom fOrigin (if (IntKind.i64.wrap (fR+fC))<n then (IntKind.i64.wrap (fR+fC)) else n)) fun (a:Cur×Int)=>(a.1,a.2))))
theorem C5d {fR fC fTop fBottom:Int} {fOrigin:Bool} {c:Cur} {n:Int} {R:Cur×Int} (hR:A5u fR fC fTop fBottom fOrigin c n=R):G3 Tryz.prog 128 [ag [iv fR,iv fC,iv fTop,iv fBottom,bv fOrigin],ag (B8 c),iv 2,iv n] [] (.tuple #[ag (B8 R.1),iv R.2]):=by
 refine zce Tryz.func128 fun X hX hr hD=>?_
 replace hR:=(A5u.eq_1 ..).symm.trans hR
 refine sR_ rfl (C0f 3 3 [] (fun a e b=>[(4,pt a 0),(5,pt e 0),(6,pt b 0)]) (fun a e b=>[bx b [iv 2] 3,bx e (B8 c) 23,bx a [iv fR,iv fC,iv fTop,iv fBottom,bv fOrigin] 134]) (fun a e b=>?_))
 refine A8j 3 0 [] (fun d f=>[(7,pt d 0),(8,pt f 0)]) (fun d f=>[bx f (B8 Cur.zero) 23,bx d [iv n] 3,bx b [iv 2] 3,bx e (B8 c) 23,bx a [iv fR,iv fC,iv fTop,iv fBottom,bv fOrigin] 134]) (fun d f=>?_)
 refine ie (A5 (sR_ rfl (zrl 2 2 [4,3] [(12,ag [iv fR,iv fC,iv fTop,iv fBottom,bv fOrigin]),(13,ag (B8 c))] (zv rfl (M7 rfl) (pp1 1 10 rfl (ie (sR_ rfl (pp1 2 16 rfl (ie ?_)))))))))
 refine zjn rfl hR ?_ ?_<;>clear hR<;>intro hR o j
 ·refine sR_ rfl (zrg 4 0 [0] [(9,iv (C2 fR fC fTop fBottom fOrigin c))] [bx f (B8 Cur.zero) 23,bx d [iv n] 3,bx b [iv 2] 3,bx e (B8 c) 23,bx a [iv fR,iv fC,iv fTop,iv fBottom,bv fOrigin] 134] ?_)
  subst hR
  refine ie (A8 ?_)
  exact zer hr hD (U6 rfl (D4 (us:=B8 Cur.zero) X6 rfl 0 rfl rfl rfl) (B9 rfl)) () sb_ fn0
 refine A6 (nx (A5 (sR_ rfl (pl1 10 [2,2,1] 28 rfl (ie ?_)))))
 refine zjd rfl hR ?_ ?_<;>clear hR<;>intro hR m k
 ·refine sR_ rfl (zrg 3 0 [0] [(9,iv 2)] [bx f (B8 Cur.zero) 23,bx d [iv n] 3,bx b [iv 2] 3,bx e (B8 c) 23,bx a [iv fR,iv fC,iv fTop,iv fBottom,bv fOrigin] 134] ?_)
  subst hR
  refine ie (A8 ?_)
  exact zer hr hD (U6 rfl (D4 (us:=B8 Cur.zero) X6 rfl 0 rfl rfl rfl) (B9 rfl)) () sb_ fn0
 refine A6 (nx (sR_ rfl (pl3 5 [1,4,4] 30 32 34 rfl (ix rfl (G7.pure rfl) (zrg 2 0 [1] [] [bx f (B8 Cur.zero) 23,bx d [iv (if (IntKind.i64.wrap (fR+fC))<n then (IntKind.i64.wrap (fR+fC)) else n)] 3,bx b [iv 2] 3,bx e (B8 c) 23,bx a [iv fR,iv fC,iv fTop,iv fBottom,bv fOrigin] 134] (ie (sR_ rfl (H9 9 0 [4,4,0] (fun g=>[(11,pt g 0)]) (fun g=>[bx g [.func (.func 201) #[ag [iv fR,iv fC,iv fTop,iv fBottom,bv fOrigin]] #[],.func (.func 202) #[ag [iv fR,iv fC,iv fTop,iv fBottom,bv fOrigin]] #[],.func (.func 203) #[] #[pt a 0],.func (.func 204) #[] #[pt a 0]] 245,bx f (B8 Cur.zero) 23,bx d [iv (if (IntKind.i64.wrap (fR+fC))<n then (IntKind.i64.wrap (fR+fC)) else n)] 3,bx b [iv 2] 3,bx e (B8 c) 23,bx a [iv fR,iv fC,iv fTop,iv fBottom,bv fOrigin] 134]) (fun g=>(ie (sR_ rfl (zrl 3 5 [5,4] [(44,ag [iv fR,iv fC,iv fTop,iv fBottom,bv fOrigin]),(45,ag (B8 c)),(46,.func (.func 206) #[] #[pt g 0,pt b 0,pt d 0])] ?_))))))))))))
 have l:=D0 hR;clear hR;obtain ⟨h,i,hR⟩:=l
 refine zc rfl (C4b fR fC fTop fBottom fOrigin c fR fC fTop fBottom fOrigin fR fC fTop fBottom fOrigin fR fC fTop fBottom fOrigin (if (IntKind.i64.wrap (fR+fC))<n then (IntKind.i64.wrap (fR+fC)) else n) g a b d h i) fun _=>?_
 refine zrg 4 0 [4] [(9,iv h.2)] [bx a [iv fR,iv fC,iv fTop,iv fBottom,bv fOrigin] 134,bx g [.func (.func 201) #[ag [iv fR,iv fC,iv fTop,iv fBottom,bv fOrigin]] #[],.func (.func 202) #[ag [iv fR,iv fC,iv fTop,iv fBottom,bv fOrigin]] #[],.func (.func 203) #[] #[pt a 0],.func (.func 204) #[] #[pt a 0]] 245,bx b [iv 2] 3,bx d [iv (if (IntKind.i64.wrap (fR+fC))<n then (IntKind.i64.wrap (fR+fC)) else n)] 3,bx f (B8 h.1) 23,bx e (B8 c) 23] ?_
 subst hR
 refine ie (A8 ?_)
 exact zer hr hD (U6 rfl (D4 (us:=B8 h.1) X6 rfl 4 rfl rfl rfl) (B9 rfl)) () sb_ fn0
def Q0 (s:ScrC) (sMain:List (Rwc Cel)) (sAlt:List (Rwc Cel)) (sTabs:List Bool) (akind:Int) (am:Int) (acolor:Col) (atext:List UInt8):ScrC :=
 (C9 (A0 s sMain sAlt sTabs) fun (a:Int×Int×Int×Int×Bool)=>(C9 (A5u a.1 a.2.1 a.2.2.1 a.2.2.2.1 a.2.2.2.2 s.cursor am) fun (b:Cur×Int)=>{s with cursor:=b.1}))
theorem B5p {s:ScrC} {sMain sAlt:List (Rwc Cel)} {sTabs:List Bool} {akind am:Int} {acolor:Col} {atext:List UInt8} {sb:Nat} {sMainq:Option Addr} {sMainrs:List Rwq} {sMaink:Nat} {sAltq:Option Addr} {sAltrs:List Rwq} {sAltk:Nat} {sTabsq:Option Addr} {sTabsk:Nat} {R:ScrC} (hR:Q0 s sMain sAlt sTabs akind am acolor atext=R) (a:F8 sMainrs sMain:=by exact om_) (e:sMain.length≤9223372036854775807:=by exact om_) (g:sMain.length≤sMaink:=by exact om_) (b:F8 sAltrs sAlt:=by exact om_) (j:sAlt.length≤9223372036854775807:=by exact om_) (k:sAlt.length≤sAltk:=by exact om_) (h:sTabs.length≤9223372036854775807:=by exact om_) (i:sTabs.length≤sTabsk:=by exact om_):Con Tryz.prog 52 [pt sb 0,ag (A2 (⟨akind,2,am,acolor,atext⟩:Act))] [bx sb (B6 s ⟨sMainq,sMain.length,sMaink⟩ ⟨sAltq,sAlt.length,sAltk⟩ ⟨none,0,0⟩ ⟨sTabsq,sTabs.length,sTabsk⟩) 79] [sl K1 sMainq sMainrs,G5 G4 sMainrs sMain,sl K1 sAltq sAltrs,G5 G4 sAltrs sAlt,sl N8 sTabsq sTabs] (Unit) (fun x=>.tuple #[]) (fun x=>[bx sb (B6 R ⟨sMainq,sMain.length,sMaink⟩ ⟨sAltq,sAlt.length,sAltk⟩ ⟨none,0,0⟩ ⟨sTabsq,sTabs.length,sTabsk⟩) 79]) (fun x=>[]):=by
 refine zce Tryz.func52 fun X hX hr hD=>?_
 replace hR:=(Q0.eq_1 ..).symm.trans hR
 have:=a.1
 have:=b.1
 refine sR_ rfl (H9 1 0 [] (fun c=>[(3,pt c 0)]) (fun c=>[bx c (A2 (⟨akind,2,am,acolor,atext⟩:Act)) 56,bx sb (B6 s ⟨sMainq,sMain.length,sMaink⟩ ⟨sAltq,sAlt.length,sAltk⟩ ⟨none,0,0⟩ ⟨sTabsq,sTabs.length,sTabsk⟩) 79]) (fun c=>(ie (sh' 20 [(20,[bx c (A2 (⟨akind,2,am,acolor,atext⟩:Act)) 56]),(19,[bx sb (B6 s ⟨sMainq,sMain.length,sMaink⟩ ⟨sAltq,sAlt.length,sAltk⟩ ⟨none,0,0⟩ ⟨sTabsq,sTabs.length,sTabsk⟩) 79])] [sl K1 sMainq sMainrs,G5 G4 sMainrs sMain,sl K1 sAltq sAltrs,G5 G4 sAltrs sAlt,sl N8 sTabsq sTabs] [bx c (A2 (⟨akind,2,am,acolor,atext⟩:Act)) 56,bx sb (B6 s ⟨sMainq,sMain.length,sMaink⟩ ⟨sAltq,sAlt.length,sAltk⟩ ⟨none,0,0⟩ ⟨sTabsq,sTabs.length,sTabsk⟩) 79] (zml 20 0) okl rfl okl okl okl sb_ B0.refl ?_))))
 refine zhp [0,1,3,4,5,6,8,10] 12 (zml 20 1403) [(5,pt sb 0),(6,pt sb 0),(11,pt sb 6),(13,pt c 1),(15,pt c 2)] ?_
 refine zhl 7 [bx c (A2 (⟨akind,2,am,acolor,atext⟩:Act)) 56,bx sb (B6 s ⟨sMainq,sMain.length,sMaink⟩ ⟨sAltq,sAlt.length,sAltk⟩ ⟨none,0,0⟩ ⟨sTabsq,sTabs.length,sTabsk⟩) 79] (zml 20 1531) rfl (F7 (us:=B8 s.cursor) X6 rfl rfl 1 rfl rfl rfl) ?_
 refine zhl 9 [bx c (A2 (⟨akind,2,am,acolor,atext⟩:Act)) 56,bx sb (B6 s ⟨sMainq,sMain.length,sMaink⟩ ⟨sAltq,sAlt.length,sAltk⟩ ⟨none,0,0⟩ ⟨sTabsq,sTabs.length,sTabsk⟩) 79] (zml 20 2043) rfl (A7 (v:=iv 2) ty3 rfl rfl 0 rfl rfl) ?_
 refine zhl 11 [bx c (A2 (⟨akind,2,am,acolor,atext⟩:Act)) 56,bx sb (B6 s ⟨sMainq,sMain.length,sMaink⟩ ⟨sAltq,sAlt.length,sAltk⟩ ⟨none,0,0⟩ ⟨sTabsq,sTabs.length,sTabsk⟩) 79] (zml 20 4091) rfl (A7 (v:=iv am) ty3 rfl rfl 0 rfl rfl) ?_
 have m:=D0 hR;clear hR;obtain ⟨n,l,hR⟩:=m
 refine zho 2 [bx c (A2 (⟨akind,2,am,acolor,atext⟩:Act)) 56,bx sb (B6 s ⟨sMainq,sMain.length,sMaink⟩ ⟨sAltq,sAlt.length,sAltk⟩ ⟨none,0,0⟩ ⟨sTabsq,sTabs.length,sTabsk⟩) 79] (zml 20 4095) rfl (V8 (L2:=[bx c (A2 (⟨akind,2,am,acolor,atext⟩:Act)) 56]) (J7 l a om_ om_ b) rfl rfl rfl rfl rfl B0.refl (G9 [[bx c (A2 (⟨akind,2,am,acolor,atext⟩:Act)) 56],[bx sb (B6 s ⟨sMainq,sMain.length,sMaink⟩ ⟨sAltq,sAlt.length,sAltk⟩ ⟨none,0,0⟩ ⟨sTabsq,sTabs.length,sTabsk⟩) 79]] [1,0] 2 rfl ozw rfl [[bx sb (B6 s ⟨sMainq,sMain.length,sMaink⟩ ⟨sAltq,sAlt.length,sAltk⟩ ⟨none,0,0⟩ ⟨sTabsq,sTabs.length,sTabsk⟩) 79],[bx c (A2 (⟨akind,2,am,acolor,atext⟩:Act)) 56]] rfl opv) (fun _=>[bx c (A2 (⟨akind,2,am,acolor,atext⟩:Act)) 56,bx sb (B6 s ⟨sMainq,sMain.length,sMaink⟩ ⟨sAltq,sAlt.length,sAltk⟩ ⟨none,0,0⟩ ⟨sTabsq,sTabs.length,sTabsk⟩) 79]) (fun _=>G9 [[bx sb (B6 s ⟨sMainq,sMain.length,sMaink⟩ ⟨sAltq,sAlt.length,sAltk⟩ ⟨none,0,0⟩ ⟨sTabsq,sTabs.length,sTabsk⟩) 79],[bx c (A2 (⟨akind,2,am,acolor,atext⟩:Act)) 56]] [1,0] 2 rfl ozw opv [[bx c (A2 (⟨akind,2,am,acolor,atext⟩:Act)) 56],[bx sb (B6 s ⟨sMainq,sMain.length,sMaink⟩ ⟨sAltq,sAlt.length,sAltk⟩ ⟨none,0,0⟩ ⟨sTabsq,sTabs.length,sTabsk⟩) 79]] rfl opv)) (fun _=>sb_) (fun _=>B0.refl) fun _=>?_
 have m:=D0 hR;clear hR;obtain ⟨d,f,hR⟩:=m
 refine zho 12 [bx c (A2 (⟨akind,2,am,acolor,atext⟩:Act)) 56,bx sb (B6 s ⟨sMainq,sMain.length,sMaink⟩ ⟨sAltq,sAlt.length,sAltk⟩ ⟨none,0,0⟩ ⟨sTabsq,sTabs.length,sTabsk⟩) 79] (zml 20 8191) rfl (Det.tri (N3 (C5d f) rfl rfl rfl rfl rfl fn0)) (fun _=>sb_) (fun _=>B0.refl) fun _=>?_
 refine zhp [13,14,15,16,17,18] 1 (zml 20 524287) [(18,ag (B8 d.1)),(22,pt sb 6)] ?_
 refine zho 19 [bx c (A2 (⟨akind,2,am,acolor,atext⟩:Act)) 56] (zml 20 1048575) rfl (F2 (us:=B8 d.1) (cs':=B6 ({s with cursor:=d.1}) ⟨sMainq,sMain.length,sMaink⟩ ⟨sAltq,sAlt.length,sAltk⟩ ⟨none,0,0⟩ ⟨sTabsq,sTabs.length,sTabsk⟩) X6 rfl rfl rfl 1 rfl rfl rfl rfl rfl rfl) (fun _=>sb_) (fun _=>B0.refl) fun _=>?_
 refine A0b okl ?_
 subst hR
 exact zen hr hD (A1a rfl) () sb_ fn0
def Q3 (s:ScrC) (sMain:List (Rwc Cel)) (sAlt:List (Rwc Cel)) (sTabs:List Bool) (akind:Int) (am:Int) (acolor:Col) (atext:List UInt8):ScrC :=
 (C9 (A0 s sMain sAlt sTabs) fun (a:Int×Int×Int×Int×Bool)=>(C9 (A1l a.1 a.2.1 a.2.2.1 a.2.2.2.1 a.2.2.2.2 s.cursor am) fun (b:Cur×Int)=>{s with cursor:=b.1}))
theorem B4v {s:ScrC} {sMain sAlt:List (Rwc Cel)} {sTabs:List Bool} {akind am:Int} {acolor:Col} {atext:List UInt8} {sb:Nat} {sMainq:Option Addr} {sMainrs:List Rwq} {sMaink:Nat} {sAltq:Option Addr} {sAltrs:List Rwq} {sAltk:Nat} {sTabsq:Option Addr} {sTabsk:Nat} {R:ScrC} (hR:Q3 s sMain sAlt sTabs akind am acolor atext=R) (a:F8 sMainrs sMain:=by exact om_) (d:sMain.length≤9223372036854775807:=by exact om_) (e:sMain.length≤sMaink:=by exact om_) (b:F8 sAltrs sAlt:=by exact om_) (h:sAlt.length≤9223372036854775807:=by exact om_) (i:sAlt.length≤sAltk:=by exact om_) (f:sTabs.length≤9223372036854775807:=by exact om_) (g:sTabs.length≤sTabsk:=by exact om_):Con Tryz.prog 52 [pt sb 0,ag (A2 (⟨akind,3,am,acolor,atext⟩:Act))] [bx sb (B6 s ⟨sMainq,sMain.length,sMaink⟩ ⟨sAltq,sAlt.length,sAltk⟩ ⟨none,0,0⟩ ⟨sTabsq,sTabs.length,sTabsk⟩) 79] [sl K1 sMainq sMainrs,G5 G4 sMainrs sMain,sl K1 sAltq sAltrs,G5 G4 sAltrs sAlt,sl N8 sTabsq sTabs] (Unit) (fun x=>.tuple #[]) (fun x=>[bx sb (B6 R ⟨sMainq,sMain.length,sMaink⟩ ⟨sAltq,sAlt.length,sAltk⟩ ⟨none,0,0⟩ ⟨sTabsq,sTabs.length,sTabsk⟩) 79]) (fun x=>[]):=by
 refine zce Tryz.func52 fun X hX hr hD=>?_
 replace hR:=(Q3.eq_1 ..).symm.trans hR
 have:=a.1
 have:=b.1
 refine sR_ rfl (H9 1 0 [] (fun c=>[(3,pt c 0)]) (fun c=>[bx c (A2 (⟨akind,3,am,acolor,atext⟩:Act)) 56,bx sb (B6 s ⟨sMainq,sMain.length,sMaink⟩ ⟨sAltq,sAlt.length,sAltk⟩ ⟨none,0,0⟩ ⟨sTabsq,sTabs.length,sTabsk⟩) 79]) (fun c=>(ie (sh' 20 [(20,[bx c (A2 (⟨akind,3,am,acolor,atext⟩:Act)) 56]),(19,[bx sb (B6 s ⟨sMainq,sMain.length,sMaink⟩ ⟨sAltq,sAlt.length,sAltk⟩ ⟨none,0,0⟩ ⟨sTabsq,sTabs.length,sTabsk⟩) 79])] [sl K1 sMainq sMainrs,G5 G4 sMainrs sMain,sl K1 sAltq sAltrs,G5 G4 sAltrs sAlt,sl N8 sTabsq sTabs] [bx c (A2 (⟨akind,3,am,acolor,atext⟩:Act)) 56,bx sb (B6 s ⟨sMainq,sMain.length,sMaink⟩ ⟨sAltq,sAlt.length,sAltk⟩ ⟨none,0,0⟩ ⟨sTabsq,sTabs.length,sTabsk⟩) 79] (zml 20 0) okl rfl okl okl okl sb_ B0.refl ?_))))
 refine zhp [0,1,3,4,5,6,8,10] 12 (zml 20 1403) [(5,pt sb 0),(6,pt sb 0),(11,pt sb 6),(13,pt c 1),(15,pt c 2)] ?_
 refine zhl 7 [bx c (A2 (⟨akind,3,am,acolor,atext⟩:Act)) 56,bx sb (B6 s ⟨sMainq,sMain.length,sMaink⟩ ⟨sAltq,sAlt.length,sAltk⟩ ⟨none,0,0⟩ ⟨sTabsq,sTabs.length,sTabsk⟩) 79] (zml 20 1531) rfl (F7 (us:=B8 s.cursor) X6 rfl rfl 1 rfl rfl rfl) ?_
 refine zhl 9 [bx c (A2 (⟨akind,3,am,acolor,atext⟩:Act)) 56,bx sb (B6 s ⟨sMainq,sMain.length,sMaink⟩ ⟨sAltq,sAlt.length,sAltk⟩ ⟨none,0,0⟩ ⟨sTabsq,sTabs.length,sTabsk⟩) 79] (zml 20 2043) rfl (A7 (v:=iv 3) ty3 rfl rfl 0 rfl rfl) ?_
 refine zhl 11 [bx c (A2 (⟨akind,3,am,acolor,atext⟩:Act)) 56,bx sb (B6 s ⟨sMainq,sMain.length,sMaink⟩ ⟨sAltq,sAlt.length,sAltk⟩ ⟨none,0,0⟩ ⟨sTabsq,sTabs.length,sTabsk⟩) 79] (zml 20 4091) rfl (A7 (v:=iv am) ty3 rfl rfl 0 rfl rfl) ?_
 have m:=D0 hR;clear hR;obtain ⟨n,l,hR⟩:=m
 refine zho 2 [bx c (A2 (⟨akind,3,am,acolor,atext⟩:Act)) 56,bx sb (B6 s ⟨sMainq,sMain.length,sMaink⟩ ⟨sAltq,sAlt.length,sAltk⟩ ⟨none,0,0⟩ ⟨sTabsq,sTabs.length,sTabsk⟩) 79] (zml 20 4095) rfl (V8 (L2:=[bx c (A2 (⟨akind,3,am,acolor,atext⟩:Act)) 56]) (J7 l a om_ om_ b) rfl rfl rfl rfl rfl B0.refl (G9 [[bx c (A2 (⟨akind,3,am,acolor,atext⟩:Act)) 56],[bx sb (B6 s ⟨sMainq,sMain.length,sMaink⟩ ⟨sAltq,sAlt.length,sAltk⟩ ⟨none,0,0⟩ ⟨sTabsq,sTabs.length,sTabsk⟩) 79]] [1,0] 2 rfl ozw rfl [[bx sb (B6 s ⟨sMainq,sMain.length,sMaink⟩ ⟨sAltq,sAlt.length,sAltk⟩ ⟨none,0,0⟩ ⟨sTabsq,sTabs.length,sTabsk⟩) 79],[bx c (A2 (⟨akind,3,am,acolor,atext⟩:Act)) 56]] rfl opv) (fun _=>[bx c (A2 (⟨akind,3,am,acolor,atext⟩:Act)) 56,bx sb (B6 s ⟨sMainq,sMain.length,sMaink⟩ ⟨sAltq,sAlt.length,sAltk⟩ ⟨none,0,0⟩ ⟨sTabsq,sTabs.length,sTabsk⟩) 79]) (fun _=>G9 [[bx sb (B6 s ⟨sMainq,sMain.length,sMaink⟩ ⟨sAltq,sAlt.length,sAltk⟩ ⟨none,0,0⟩ ⟨sTabsq,sTabs.length,sTabsk⟩) 79],[bx c (A2 (⟨akind,3,am,acolor,atext⟩:Act)) 56]] [1,0] 2 rfl ozw opv [[bx c (A2 (⟨akind,3,am,acolor,atext⟩:Act)) 56],[bx sb (B6 s ⟨sMainq,sMain.length,sMaink⟩ ⟨sAltq,sAlt.length,sAltk⟩ ⟨none,0,0⟩ ⟨sTabsq,sTabs.length,sTabsk⟩) 79]] rfl opv)) (fun _=>sb_) (fun _=>B0.refl) fun _=>?_
 have m:=D0 hR;clear hR;obtain ⟨j,k,hR⟩:=m
 refine zho 12 [bx c (A2 (⟨akind,3,am,acolor,atext⟩:Act)) 56,bx sb (B6 s ⟨sMainq,sMain.length,sMaink⟩ ⟨sAltq,sAlt.length,sAltk⟩ ⟨none,0,0⟩ ⟨sTabsq,sTabs.length,sTabsk⟩) 79] (zml 20 8191) rfl (Det.tri (N3 (B6z k) rfl rfl rfl rfl rfl fn0)) (fun _=>sb_) (fun _=>B0.refl) fun _=>?_
 refine zhp [13,14,15,16,17,18] 1 (zml 20 524287) [(18,ag (B8 j.1)),(22,pt sb 6)] ?_
 refine zho 19 [bx c (A2 (⟨akind,3,am,acolor,atext⟩:Act)) 56] (zml 20 1048575) rfl (F2 (us:=B8 j.1) (cs':=B6 ({s with cursor:=j.1}) ⟨sMainq,sMain.length,sMaink⟩ ⟨sAltq,sAlt.length,sAltk⟩ ⟨none,0,0⟩ ⟨sTabsq,sTabs.length,sTabsk⟩) X6 rfl rfl rfl 1 rfl rfl rfl rfl rfl rfl) (fun _=>sb_) (fun _=>B0.refl) fun _=>?_
 refine A0b okl ?_
 subst hR
 exact zen hr hD (A1a rfl) () sb_ fn0
theorem B6d {a:Act} {k n:Int} (h:a.kind=k) (b:a.n=n):a=⟨k,n,a.m,a.color,a.text⟩:=by subst h;subst b;rfl
def m6 (a:Act):Prop:=(a.kind=3∨a.kind=5∨a.kind=6∨a.kind=19∨a.kind=20∨a.kind=22)∧(a.kind=20→0≤a.n∧a.n≤3)∧a.text.length≤1
theorem A8t {l:List Act} (h:∀ a ∈ l,m6 a) {i:Nat} (b:i<l.length):m6 (l.getD i Act.zero):=by
 rw [List.getD_eq_getElem?_getD,List.getElem?_eq_getElem b];exact h _ (List.getElem_mem b)
def mlS (m al:List (Rwc Cel)) (t:List Bool) (x:ScrC) (a:Act):ScrC :=
 if a.kind=3 then R4 ({x with last:=0,cursor:={x.cursor with wrap:=false}}) m al t (⟨3,a.n,a.m,a.color,a.text⟩:Act) else if a.kind=5 then R6 ({x with last:=0,cursor:={x.cursor with wrap:=false}}) m al t (⟨5,a.n,a.m,a.color,a.text⟩:Act) else if a.kind=6 then L6 ({x with last:=0,cursor:={x.cursor with wrap:=false}}) m al t (⟨6,a.n,a.m,a.color,a.text⟩:Act)
 else if a.kind=19 then R3 ({x with last:=0,cursor:={x.cursor with wrap:=false}}) m al t (⟨19,a.n,a.m,a.color,a.text⟩:Act) else if a.kind=22 then N6 ({x with last:=0,cursor:={x.cursor with wrap:=false}}) m al t (⟨22,a.n,a.m,a.color,a.text⟩:Act)
 else if a.n=0 then R5 ({x with last:=0,cursor:={x.cursor with wrap:=false}}) m al t 20 a.m a.color a.text else if a.n=1 then Q1 ({x with last:=0,cursor:={x.cursor with wrap:=false}}) m al t 20 a.m a.color a.text
 else if a.n=2 then Q0 ({x with last:=0,cursor:={x.cursor with wrap:=false}}) m al t 20 a.m a.color a.text else Q3 ({x with last:=0,cursor:={x.cursor with wrap:=false}}) m al t 20 a.m a.color a.text
def C1z (m al:List (Rwc Cel)) (t:List Bool):List Act→ScrC→Prop
 | [],_=>True
 | a::l,x=>(a.kind=5→¬ x.cursor.row=x.bottom)∧C1z m al t l (mlS m al t x a)
theorem D4e {m al:List (Rwc Cel)} {t:List Bool} {l:List Act} {i:Nat} {x:ScrC} (h:C1z m al t (l.drop i) x) (a:i<l.length) (b:(l.getD i Act.zero).kind=5):¬ x.cursor.row=x.bottom:=by
 rw [A0r Act.zero a] at h;exact h.1 b
theorem B2y {m al:List (Rwc Cel)} {t:List Bool} {l:List Act} {i:Nat} {x y:ScrC} (h:C1z m al t (l.drop i) x) (a:i<l.length) (e:mlS m al t x (l.getD i Act.zero)=y):C1z m al t (l.drop (i+1)) y:=by
 rw [A0r Act.zero a] at h;exact e▸h.2
def J8 (sMain:List (Rwc Cel)) (sAlt:List (Rwc Cel)) (sTabs:List Bool):List Act→Nat→ScrC→(ScrC×List (Rwc Cel)×List (Rwc Cel)×List Bool×Int)
 | [],t45,x=>(x,sMain,sAlt,sTabs,0)
 | hd_l1::tl_l1,t45,x=>(bif decide (hd_l1.kind=3) then J8 sMain sAlt sTabs tl_l1 (t45+1) (R4 ({x with last:=0,cursor:={x.cursor with wrap:=false}}) sMain sAlt sTabs (⟨3,hd_l1.n,hd_l1.m,hd_l1.color,hd_l1.text⟩:Act)) else (bif decide (hd_l1.kind=5) then J8 sMain sAlt sTabs tl_l1 (t45+1) (R6 ({x with last:=0,cursor:={x.cursor with wrap:=false}}) sMain sAlt sTabs (⟨5,hd_l1.n,hd_l1.m,hd_l1.color,hd_l1.text⟩:Act)) else (bif decide (hd_l1.kind=6) then J8 sMain sAlt sTabs tl_l1 (t45+1) (L6 ({x with last:=0,cursor:={x.cursor with wrap:=false}}) sMain sAlt sTabs (⟨6,hd_l1.n,hd_l1.m,hd_l1.color,hd_l1.text⟩:Act)) else (bif decide (hd_l1.kind=19) then J8 sMain sAlt sTabs tl_l1 (t45+1) (R3 ({x with last:=0,cursor:={x.cursor with wrap:=false}}) sMain sAlt sTabs (⟨19,hd_l1.n,hd_l1.m,hd_l1.color,hd_l1.text⟩:Act)) else (bif decide (hd_l1.kind=22) then J8 sMain sAlt sTabs tl_l1 (t45+1) (N6 ({x with last:=0,cursor:={x.cursor with wrap:=false}}) sMain sAlt sTabs (⟨22,hd_l1.n,hd_l1.m,hd_l1.color,hd_l1.text⟩:Act)) else (bif decide (hd_l1.n=0) then J8 sMain sAlt sTabs tl_l1 (t45+1) (R5 ({x with last:=0,cursor:={x.cursor with wrap:=false}}) sMain sAlt sTabs 20 (hd_l1.m) (hd_l1.color) (hd_l1.text)) else (bif decide (hd_l1.n=1) then J8 sMain sAlt sTabs tl_l1 (t45+1) (Q1 ({x with last:=0,cursor:={x.cursor with wrap:=false}}) sMain sAlt sTabs 20 (hd_l1.m) (hd_l1.color) (hd_l1.text)) else (bif decide (hd_l1.n=2) then J8 sMain sAlt sTabs tl_l1 (t45+1) (Q0 ({x with last:=0,cursor:={x.cursor with wrap:=false}}) sMain sAlt sTabs 20 (hd_l1.m) (hd_l1.color) (hd_l1.text)) else J8 sMain sAlt sTabs tl_l1 (t45+1) (Q3 ({x with last:=0,cursor:={x.cursor with wrap:=false}}) sMain sAlt sTabs 20 (hd_l1.m) (hd_l1.color) (hd_l1.text))))))))))
def Y2 (s:ScrC) (sMain:List (Rwc Cel)) (sAlt:List (Rwc Cel)) (sTabs:List Bool) (l:List Act):List Act→Nat→(ScrC×List (Rwc Cel)×List (Rwc Cel)×List Bool×Int)
 | [],t28=>J8 sMain sAlt sTabs l 0 s
 | hd_l0::tl_l0,t28=>(bif (!decide ((J3 hd_l0)=0)) then (ScrC.zero,([]:List (Rwc Cel)),([]:List (Rwc Cel)),([]:List Bool),(J3 hd_l0)) else Y2 s sMain sAlt sTabs l tl_l0 (t28+1))
def A9k (s:ScrC) (sMain:List (Rwc Cel)) (sAlt:List (Rwc Cel)) (sTabs:List Bool) (l:List Act):ScrC×List (Rwc Cel)×List (Rwc Cel)×List Bool×Int :=
 (bif (!decide ((Y4 s sMain sAlt sTabs)=0)) then (ScrC.zero,([]:List (Rwc Cel)),([]:List (Rwc Cel)),([]:List Bool),(Y4 s sMain sAlt sTabs)) else (bif (decide ((131072:Int)<(l.length:Int))) then (ScrC.zero,([]:List (Rwc Cel)),([]:List (Rwc Cel)),([]:List Bool),3) else Y2 s sMain sAlt sTabs l l 0))
theorem ocu {p:Prop} (h:p:=by first|omega|(simp only [List.length_take,List.length_drop,List.length_append,List.length_cons,List.length_nil,List.length_set,List.length_map,I6];omega)|decide):p:=h
set_option maxHeartbeats 4000000 in
theorem C8p {s:ScrC} {sMain sAlt:List (Rwc Cel)} {sTabs:List Bool} {l:List Act} {sMainq:Option Addr} {sMainrs:List Rwq} {sMaink:Nat} {sAltq:Option Addr} {sAltrs:List Rwq} {sAltk:Nat} {sTabsq:Option Addr} {sTabsk:Nat} {lq:Option Addr} {lk:Nat} {R:ScrC×List (Rwc Cel)×List (Rwc Cel)×List Bool×Int} (hR:A9k s sMain sAlt sTabs l=R) (e:F8 sMainrs sMain:=by exact om_) (ap:sMain.length≤9223372036854775807:=by exact om_) (b3:sMain.length≤sMaink:=by exact om_) (g:F8 sAltrs sAlt:=by exact om_) (bh:sAlt.length≤9223372036854775807:=by exact om_) (bg:sAlt.length≤sAltk:=by exact om_) (b8:sTabs.length≤9223372036854775807:=by exact om_) (aw:sTabs.length≤sTabsk:=by exact om_) (bu:l.length≤9223372036854775807:=by exact om_) (br:l.length≤lk:=by exact om_) (bo:s.title.length≤100000000:=by exact om_) (a5:∀ a ∈ l,m6 a:=by exact om_) (ax:C1z sMain sAlt sTabs l s:=by exact om_):Con Tryz.prog 7 [ag (B6 s ⟨sMainq,sMain.length,sMaink⟩ ⟨sAltq,sAlt.length,sAltk⟩ ⟨none,0,0⟩ ⟨sTabsq,sTabs.length,sTabsk⟩),.slice lq l.length lk] [] [sl K1 sMainq sMainrs,G5 G4 sMainrs sMain,sl K1 sAltq sAltrs,G5 G4 sAltrs sAlt,sl N8 sTabsq sTabs,sl A2 lq l,A4n,A4q,P0,O4,K0] ({t:Option Addr×List Rwq×Nat // F8 t.2.1 R.2.1∧R.2.1.length≤t.2.2∧R.2.1.length≤9223372036854775807}×{t:Option Addr×List Rwq×Nat // F8 t.2.1 R.2.2.1∧R.2.2.1.length≤t.2.2∧R.2.2.1.length≤9223372036854775807}×{t:Option Addr×Nat // R.2.2.2.1.length≤t.2∧R.2.2.2.1.length≤9223372036854775807}) (fun x=>.tuple #[ag (B6 R.1 ⟨x.1.1.1,R.2.1.length,x.1.1.2.2⟩ ⟨x.2.1.1.1,R.2.2.1.length,x.2.1.1.2.2⟩ ⟨none,0,0⟩ ⟨x.2.2.1.1,R.2.2.2.1.length,x.2.2.1.2⟩),iv R.2.2.2.2]) (fun x=>[]) (fun x=>[sl K1 x.1.1.1 x.1.1.2.1,G5 G4 x.1.1.2.1 R.2.1,sl K1 x.2.1.1.1 x.2.1.1.2.1,G5 G4 x.2.1.1.2.1 R.2.2.1,sl N8 x.2.2.1.1 R.2.2.2.1]):=by
 refine zce Tryz.func7 fun X hX hr hD=>?_
 replace hR:=(A9k.eq_1 ..).symm.trans hR
 have:=e.1
 have:=g.1
 have ar:∀ {i:Nat},i<l.length→(l.getD i Act.zero).text.length≤100000000:=fun hi=>Nat.le_trans (A8t a5 hi).2.2 ozw
 refine sR_ rfl (A8j 3 0 [] (fun k h=>[(2,pt k 0),(4,pt h 0)]) (fun k h=>[bx h (B6 ScrC.zero ⟨none,0,0⟩ ⟨none,0,0⟩ ⟨none,0,0⟩ ⟨none,0,0⟩) 45,bx k (B6 s ⟨sMainq,sMain.length,sMaink⟩ ⟨sAltq,sAlt.length,sAltk⟩ ⟨none,0,0⟩ ⟨sTabsq,sTabs.length,sTabsk⟩) 45]) (fun k h=>(ie (A5 (sR_ rfl (zrl 1 2 [1] [(16,ag (B6 s ⟨sMainq,sMain.length,sMaink⟩ ⟨sAltq,sAlt.length,sAltk⟩ ⟨none,0,0⟩ ⟨sTabsq,sTabs.length,sTabsk⟩))] (zv rfl (C2y rfl e om_ om_ g) (pp1 1 6 rfl (ie (sR_ rfl (pp1 2 19 rfl (ie ?_))))))))))))
 refine zjn rfl hR ?_ ?_<;>clear hR<;>intro hR h3 bp
 ·refine sR_ rfl (zrg 4 0 [0] [(5,iv (Y4 s sMain sAlt sTabs))] [bx h (B6 ScrC.zero ⟨none,0,0⟩ ⟨none,0,0⟩ ⟨none,0,0⟩ ⟨none,0,0⟩) 45,bx k (B6 s ⟨sMainq,sMain.length,sMaink⟩ ⟨sAltq,sAlt.length,sAltk⟩ ⟨none,0,0⟩ ⟨sTabsq,sTabs.length,sTabsk⟩) 45] ?_)
  subst hR
  refine ie (A8 ?_)
  exact zer hr hD (U6 rfl (B0h (us:=B6 ScrC.zero ⟨none,0,0⟩ ⟨none,0,0⟩ ⟨none,0,0⟩ ⟨none,0,0⟩) D0r rfl 0 rfl rfl) (B9 rfl)) (⟨(none,[],0),⟨F8.none,ocu,ocu⟩⟩,⟨(none,[],0),⟨F8.none,ocu,ocu⟩⟩,(zq none 0)) sb_ fo_
 refine A6 (nx (A5 (sR_ rfl (pp1 3 24 rfl (ie ?_)))))
 refine zjd rfl hR ?_ ?_<;>clear hR<;>intro hR h4 bn
 ·refine sR_ rfl (zrg 3 0 [0] [(5,iv 3)] [bx h (B6 ScrC.zero ⟨none,0,0⟩ ⟨none,0,0⟩ ⟨none,0,0⟩ ⟨none,0,0⟩) 45,bx k (B6 s ⟨sMainq,sMain.length,sMaink⟩ ⟨sAltq,sAlt.length,sAltk⟩ ⟨none,0,0⟩ ⟨sTabsq,sTabs.length,sTabsk⟩) 45] ?_)
  subst hR
  refine ie (A8 ?_)
  exact zer hr hD (U6 rfl (B0h (us:=B6 ScrC.zero ⟨none,0,0⟩ ⟨none,0,0⟩ ⟨none,0,0⟩ ⟨none,0,0⟩) D0r rfl 0 rfl rfl) (B9 rfl)) (⟨(none,[],0),⟨F8.none,ocu,ocu⟩⟩,⟨(none,[],0),⟨F8.none,ocu,ocu⟩⟩,(zq none 0)) sb_ fo_
 refine A6 (nx (A5 (sR_ rfl (pp3 3 26 27 28 rfl (ie (B4 (A5o (fun (o:Nat)=>(o≤l.length∧Y2 s sMain sAlt sTabs l (l.drop o) o=R,[(1,.slice lq l.length lk),(2,pt k 0),(4,pt h 0),(26,.slice lq l.length lk),(27,iv (l.length:Int)),(28,iv (o:Int))],[bx h (B6 ScrC.zero ⟨none,0,0⟩ ⟨none,0,0⟩ ⟨none,0,0⟩ ⟨none,0,0⟩) 45,bx k (B6 s ⟨sMainq,sMain.length,sMaink⟩ ⟨sAltq,sAlt.length,sAltk⟩ ⟨none,0,0⟩ ⟨sTabsq,sTabs.length,sTabsk⟩) 45],[sl K1 sMainq sMainrs,G5 G4 sMainrs sMain,sl K1 sAltq sAltrs,G5 G4 sAltrs sAlt,sl N8 sTabsq sTabs,sl A2 lq l,A4n,A4q,P0,O4,K0],l.length - o)) 0 ⟨opx,hR⟩ sb_ B0.refl ?_)))))))
 rintro o ⟨bl,hR⟩
 refine sR_ rfl (pp1 1 29 rfl ?_)
 refine ie (A5 (W8 rfl (fun h6=>?_) (fun h6=>?_)))
 ·have b4:=bq_ h6
  rw [A0r Act.zero (show o<l.length by omega)] at hR;replace hR:=(Y2.eq_2 ..).symm.trans hR
  refine A6 (nx (A5 (B4 (sR_ rfl (P3 5 rfl opx fun a7 ay=>(ix rfl (K2 A5y rfl rfl ay rfl o rfl opx) (ix rfl (L8 (us:=A2 (l.getD o Act.zero)) B5a rfl rfl (N0 (c:=A2) (sz:=6) ay (fun _=>rfl) 5 rfl (gd Act.zero opx)) rfl) ?_)))))))
  refine H9 2 0 [0] (fun b9=>[(8,pt b9 0)]) (fun b9=>[bx b9 (A2 (l.getD o Act.zero)) 56,bx h (B6 ScrC.zero ⟨none,0,0⟩ ⟨none,0,0⟩ ⟨none,0,0⟩ ⟨none,0,0⟩) 45,bx k (B6 s ⟨sMainq,sMain.length,sMaink⟩ ⟨sAltq,sAlt.length,sAltk⟩ ⟨none,0,0⟩ ⟨sTabsq,sTabs.length,sTabsk⟩) 45]) (fun b9=>?_)
  refine ie (sR_ rfl (zrl 1 2 [0] [(32,ag (A2 (l.getD o Act.zero)))] (zv rfl (A9i rfl (by first|omega|exact hkt|exact ar opx|(dsimp only;omega))) (pp1 1 9 rfl (ie (sR_ rfl (pp1 2 35 rfl (ie ?_))))))))
  refine zjn rfl hR ?_ ?_<;>clear hR<;>intro hR bq bk
  ·refine sR_ rfl (zrg 4 0 [1] [(5,iv (J3 (l.getD o Act.zero)))] [bx b9 (A2 (l.getD o Act.zero)) 56,bx h (B6 ScrC.zero ⟨none,0,0⟩ ⟨none,0,0⟩ ⟨none,0,0⟩ ⟨none,0,0⟩) 45,bx k (B6 s ⟨sMainq,sMain.length,sMaink⟩ ⟨sAltq,sAlt.length,sAltk⟩ ⟨none,0,0⟩ ⟨sTabsq,sTabs.length,sTabsk⟩) 45] ?_)
   subst hR
   refine ie (A8 ?_)
   exact zer hr hD (U6 rfl (B0h (us:=B6 ScrC.zero ⟨none,0,0⟩ ⟨none,0,0⟩ ⟨none,0,0⟩ ⟨none,0,0⟩) D0r rfl 1 rfl rfl) (B9 rfl)) (⟨(none,[],0),⟨F8.none,ocu,ocu⟩⟩,⟨(none,[],0),⟨F8.none,ocu,ocu⟩⟩,(zq none 0)) sb_ fo_
  refine A6 (nx (A1 2 rfl (ix rfl (C0 rfl rfl rfl rfl opx) (pp1 1 28 rfl (A3 ?_)))))
  exact A1r (z1:=o) (o+1) ⟨opx,hR⟩ olr sb_ B0.refl
 have b4:=bq_ h6
 rw [A1i b4] at hR;replace hR:=(Y2.eq_1 ..).symm.trans hR
 refine H3 (nx (sR_ rfl (H9 4 0 [1] (fun d=>[(10,pt d 0)]) (fun d=>[bx d (B6 s ⟨sMainq,sMain.length,sMaink⟩ ⟨sAltq,sAlt.length,sAltk⟩ ⟨none,0,0⟩ ⟨sTabsq,sTabs.length,sTabsk⟩) 79,bx h (B6 ScrC.zero ⟨none,0,0⟩ ⟨none,0,0⟩ ⟨none,0,0⟩ ⟨none,0,0⟩) 45,bx k (B6 s ⟨sMainq,sMain.length,sMaink⟩ ⟨sAltq,sAlt.length,sAltk⟩ ⟨none,0,0⟩ ⟨sTabsq,sTabs.length,sTabsk⟩) 45]) (fun d=>?_))))
 refine ie (sR_ rfl (zc rfl (C0w rfl) fun f=>(pp1 1 11 rfl (ie (A5 (sR_ rfl (pp3 3 43 44 45 rfl (ie (B4 (A5o (un fun (b:Nat) (x:ScrC)=>(b≤l.length∧J8 sMain sAlt sTabs (l.drop b) b x=R∧C1z sMain sAlt sTabs (l.drop b) x,[(4,pt h 0),(10,pt d 0),(11,.map (some f)),(43,.slice lq l.length lk),(44,iv (l.length:Int)),(45,iv (b:Int))],[(f,R7),bx d (B6 x ⟨sMainq,sMain.length,sMaink⟩ ⟨sAltq,sAlt.length,sAltk⟩ ⟨none,0,0⟩ ⟨sTabsq,sTabs.length,sTabsk⟩) 79,bx h (B6 ScrC.zero ⟨none,0,0⟩ ⟨none,0,0⟩ ⟨none,0,0⟩ ⟨none,0,0⟩) 45,bx k (B6 s ⟨sMainq,sMain.length,sMaink⟩ ⟨sAltq,sAlt.length,sAltk⟩ ⟨none,0,0⟩ ⟨sTabsq,sTabs.length,sTabsk⟩) 45],[sl K1 sMainq sMainrs,G5 G4 sMainrs sMain,sl K1 sAltq sAltrs,G5 G4 sAltrs sAlt,sl N8 sTabsq sTabs,sl A2 lq l,A4n,A4q,P0,O4,K0],l.length - b)) (0,s) ⟨opx,hR,(by exact ax)⟩ sb_ B0.refl ?_))))))))))
 rintro ⟨b,x⟩ ⟨bj,hR,a0⟩
 refine sR_ rfl (pp1 1 46 rfl ?_)
 refine ie (A5 (W8 rfl (fun ao=>?_) (fun ao=>?_)))
 ·have al:=bq_ ao
  rw [A0r Act.zero (show b<l.length by omega)] at hR;replace hR:=(J8.eq_2 ..).symm.trans hR
  refine A6 (nx (A5 (B4 (sR_ rfl (P3 5 rfl opx fun bw ai=>(ix rfl (K2 A5y rfl rfl ai rfl b rfl opx) (ix rfl (L8 (us:=A2 (l.getD b Act.zero)) B5a rfl rfl (N0 (c:=A2) (sz:=6) ai (fun _=>rfl) 5 rfl (gd Act.zero opx)) rfl) ?_)))))))
  rcases Bool.eq_false_or_eq_true (decide ((l.getD b Act.zero).kind=3)) with ad | ad
  ·replace hR:=bt hR ad
   have ah:=of_decide_eq_true ad
   have bd:(l.getD b Act.zero)=(⟨3,(l.getD b Act.zero).n,(l.getD b Act.zero).m,(l.getD b Act.zero).color,(l.getD b Act.zero).text⟩:Act):=A3x ah
   refine B3t (v:=ag (A2 (⟨3,(l.getD b Act.zero).n,(l.getD b Act.zero).m,(l.getD b Act.zero).color,(l.getD b Act.zero).text⟩:Act))) 48 (congrArg (fun z=>some (ag (A2 z))) bd) ?_
   refine H9 2 0 [0] (fun p=>[(13,pt p 0)]) (fun p=>[bx p (A2 (⟨3,(l.getD b Act.zero).n,(l.getD b Act.zero).m,(l.getD b Act.zero).color,(l.getD b Act.zero).text⟩:Act)) 56,(f,R7),bx d (B6 x ⟨sMainq,sMain.length,sMaink⟩ ⟨sAltq,sAlt.length,sAltk⟩ ⟨none,0,0⟩ ⟨sTabsq,sTabs.length,sTabsk⟩) 79,bx h (B6 ScrC.zero ⟨none,0,0⟩ ⟨none,0,0⟩ ⟨none,0,0⟩ ⟨none,0,0⟩) 45,bx k (B6 s ⟨sMainq,sMain.length,sMaink⟩ ⟨sAltq,sAlt.length,sAltk⟩ ⟨none,0,0⟩ ⟨sTabsq,sTabs.length,sTabsk⟩) 45]) (fun p=>?_)
   refine ie (A5 (sR_ rfl (pl1 2 [0] 50 rfl (zv rfl (C0u (R:=false) (by decide +kernel)) (pp1 1 52 rfl (ie (G8 rfl (A1 5 rfl (pp1 4 56 rfl (it rfl (F2 (us:=[iv 0]) (cs':=B6 ({x with last:=0}) ⟨sMainq,sMain.length,sMaink⟩ ⟨sAltq,sAlt.length,sAltk⟩ ⟨none,0,0⟩ ⟨sTabsq,sTabs.length,sTabsk⟩) ty3 rfl rfl rfl 2 rfl rfl rfl rfl rfl rfl) fun _=>?_))))))))))
   refine A3 (nx (A5 (sR_ rfl (zrl 1 2 [0] [(57,ag (A2 (⟨3,(l.getD b Act.zero).n,(l.getD b Act.zero).m,(l.getD b Act.zero).color,(l.getD b Act.zero).text⟩:Act)))] (zv rfl (B7z (R:=false) odv) (pp1 1 59 rfl (ie (G8 rfl (A1 6 rfl (pp1 5 64 rfl (it rfl (F2 (us:=[bv false]) (cs':=B6 ({x with last:=0,cursor:={x.cursor with wrap:=false}}) ⟨sMainq,sMain.length,sMaink⟩ ⟨sAltq,sAlt.length,sAltk⟩ ⟨none,0,0⟩ ⟨sTabsq,sTabs.length,sTabsk⟩) ty4 rfl rfl rfl 2 rfl rfl rfl rfl rfl rfl) fun _=>?_)))))))))))
   refine A3 (nx (sR_ rfl (pl2 3 [0] 66 68 rfl (ix rfl (X3 (v:=.func (.func 41) #[] #[]) (j:=2) B7f rfl rfl rfl 1 rfl okl) (ip' 5 0 [(14,.func (.func 41) #[] #[]),(15,bv true)] (ie (sR_ rfl (pp1 1 72 rfl (ie (G8 rfl (A1 4 rfl (zrl 3 1 [0] [(73,.func (.func 41) #[] #[]),(74,pt d 0),(75,ag (A2 (⟨3,(l.getD b Act.zero).n,(l.getD b Act.zero).m,(l.getD b Act.zero).color,(l.getD b Act.zero).text⟩:Act)))] (it rfl (C8 (L2:=[bx p (A2 (⟨3,(l.getD b Act.zero).n,(l.getD b Act.zero).m,(l.getD b Act.zero).color,(l.getD b Act.zero).text⟩:Act)) 56,(f,R7),bx h (B6 ScrC.zero ⟨none,0,0⟩ ⟨none,0,0⟩ ⟨none,0,0⟩ ⟨none,0,0⟩) 45,bx k (B6 s ⟨sMainq,sMain.length,sMaink⟩ ⟨sAltq,sAlt.length,sAltk⟩ ⟨none,0,0⟩ ⟨sTabsq,sTabs.length,sTabsk⟩) 45]) (B6o (s:=({x with last:=0,cursor:={x.cursor with wrap:=false}})) (sMain:=sMain) (sAlt:=sAlt) (sTabs:=sTabs) (p1:=(⟨3,(l.getD b Act.zero).n,(l.getD b Act.zero).m,(l.getD b Act.zero).color,(l.getD b Act.zero).text⟩:Act)) (sb:=d) (sMainq:=sMainq) (sMainrs:=sMainrs) (sMaink:=sMaink) (sAltq:=sAltq) (sAltrs:=sAltrs) (sAltk:=sAltk) (sTabsq:=sTabsq) (sTabsk:=sTabsk) rfl e om_ om_ g) rfl rfl rfl rfl rfl fo_ (G9 [[bx p (A2 (⟨3,(l.getD b Act.zero).n,(l.getD b Act.zero).m,(l.getD b Act.zero).color,(l.getD b Act.zero).text⟩:Act)) 56],[(f,R7)],[bx d (B6 ({x with last:=0,cursor:={x.cursor with wrap:=false}}) ⟨sMainq,sMain.length,sMaink⟩ ⟨sAltq,sAlt.length,sAltk⟩ ⟨none,0,0⟩ ⟨sTabsq,sTabs.length,sTabsk⟩) 79],[bx h (B6 ScrC.zero ⟨none,0,0⟩ ⟨none,0,0⟩ ⟨none,0,0⟩ ⟨none,0,0⟩) 45],[bx k (B6 s ⟨sMainq,sMain.length,sMaink⟩ ⟨sAltq,sAlt.length,sAltk⟩ ⟨none,0,0⟩ ⟨sTabsq,sTabs.length,sTabsk⟩) 45]] [2,0,1,3,4] 5 rfl ozw rfl [[bx d (B6 ({x with last:=0,cursor:={x.cursor with wrap:=false}}) ⟨sMainq,sMain.length,sMaink⟩ ⟨sAltq,sAlt.length,sAltk⟩ ⟨none,0,0⟩ ⟨sTabsq,sTabs.length,sTabsk⟩) 79],[bx p (A2 (⟨3,(l.getD b Act.zero).n,(l.getD b Act.zero).m,(l.getD b Act.zero).color,(l.getD b Act.zero).text⟩:Act)) 56],[(f,R7)],[bx h (B6 ScrC.zero ⟨none,0,0⟩ ⟨none,0,0⟩ ⟨none,0,0⟩ ⟨none,0,0⟩) 45],[bx k (B6 s ⟨sMainq,sMain.length,sMaink⟩ ⟨sAltq,sAlt.length,sAltk⟩ ⟨none,0,0⟩ ⟨sTabsq,sTabs.length,sTabsk⟩) 45]] rfl opv) (fun _=>[bx d (B6 (R4 ({x with last:=0,cursor:={x.cursor with wrap:=false}}) sMain sAlt sTabs (⟨3,(l.getD b Act.zero).n,(l.getD b Act.zero).m,(l.getD b Act.zero).color,(l.getD b Act.zero).text⟩:Act)) ⟨sMainq,sMain.length,sMaink⟩ ⟨sAltq,sAlt.length,sAltk⟩ ⟨none,0,0⟩ ⟨sTabsq,sTabs.length,sTabsk⟩) 79,bx p (A2 (⟨3,(l.getD b Act.zero).n,(l.getD b Act.zero).m,(l.getD b Act.zero).color,(l.getD b Act.zero).text⟩:Act)) 56,(f,R7),bx h (B6 ScrC.zero ⟨none,0,0⟩ ⟨none,0,0⟩ ⟨none,0,0⟩ ⟨none,0,0⟩) 45,bx k (B6 s ⟨sMainq,sMain.length,sMaink⟩ ⟨sAltq,sAlt.length,sAltk⟩ ⟨none,0,0⟩ ⟨sTabsq,sTabs.length,sTabsk⟩) 45]) (fun _=>rfl)) fun _=>?_)))))))))))))
   refine A3 (nx (A1 2 rfl (ix rfl (C0 rfl rfl rfl rfl opx) (pp1 1 45 rfl (A3 (P9 (G9 [[bx d (B6 (R4 ({x with last:=0,cursor:={x.cursor with wrap:=false}}) sMain sAlt sTabs (⟨3,(l.getD b Act.zero).n,(l.getD b Act.zero).m,(l.getD b Act.zero).color,(l.getD b Act.zero).text⟩:Act)) ⟨sMainq,sMain.length,sMaink⟩ ⟨sAltq,sAlt.length,sAltk⟩ ⟨none,0,0⟩ ⟨sTabsq,sTabs.length,sTabsk⟩) 79],[bx p (A2 (⟨3,(l.getD b Act.zero).n,(l.getD b Act.zero).m,(l.getD b Act.zero).color,(l.getD b Act.zero).text⟩:Act)) 56],[(f,R7)],[bx h (B6 ScrC.zero ⟨none,0,0⟩ ⟨none,0,0⟩ ⟨none,0,0⟩ ⟨none,0,0⟩) 45],[bx k (B6 s ⟨sMainq,sMain.length,sMaink⟩ ⟨sAltq,sAlt.length,sAltk⟩ ⟨none,0,0⟩ ⟨sTabsq,sTabs.length,sTabsk⟩) 45]] [2,0,3,4,1] 5 rfl ozw rfl [[(f,R7)],[bx d (B6 (R4 ({x with last:=0,cursor:={x.cursor with wrap:=false}}) sMain sAlt sTabs (⟨3,(l.getD b Act.zero).n,(l.getD b Act.zero).m,(l.getD b Act.zero).color,(l.getD b Act.zero).text⟩:Act)) ⟨sMainq,sMain.length,sMaink⟩ ⟨sAltq,sAlt.length,sAltk⟩ ⟨none,0,0⟩ ⟨sTabsq,sTabs.length,sTabsk⟩) 79],[bx h (B6 ScrC.zero ⟨none,0,0⟩ ⟨none,0,0⟩ ⟨none,0,0⟩ ⟨none,0,0⟩) 45],[bx k (B6 s ⟨sMainq,sMain.length,sMaink⟩ ⟨sAltq,sAlt.length,sAltk⟩ ⟨none,0,0⟩ ⟨sTabsq,sTabs.length,sTabsk⟩) 45],[bx p (A2 (⟨3,(l.getD b Act.zero).n,(l.getD b Act.zero).m,(l.getD b Act.zero).color,(l.getD b Act.zero).text⟩:Act)) 56]] rfl opv) ?_))))))
   exact A1r (z1:=(b,x)) (b+1,(R4 ({x with last:=0,cursor:={x.cursor with wrap:=false}}) sMain sAlt sTabs (⟨3,(l.getD b Act.zero).n,(l.getD b Act.zero).m,(l.getD b Act.zero).color,(l.getD b Act.zero).text⟩:Act))) ⟨opx,hR,(by exact B2y a0 opx (by unfold mlS;(repeat' split)<;>first|(exfalso;omega)|rfl))⟩ olr sb_ B0.refl
  ·replace hR:=bf hR ad
   have ah:=of_decide_eq_false ad
   rcases Bool.eq_false_or_eq_true (decide ((l.getD b Act.zero).kind=5)) with aa | aa
   ·replace hR:=bt hR aa
    have af:=of_decide_eq_true aa
    have au:(l.getD b Act.zero)=(⟨5,(l.getD b Act.zero).n,(l.getD b Act.zero).m,(l.getD b Act.zero).color,(l.getD b Act.zero).text⟩:Act):=A3x af
    refine B3t (v:=ag (A2 (⟨5,(l.getD b Act.zero).n,(l.getD b Act.zero).m,(l.getD b Act.zero).color,(l.getD b Act.zero).text⟩:Act))) 48 (congrArg (fun z=>some (ag (A2 z))) au) ?_
    refine H9 2 0 [0] (fun u=>[(13,pt u 0)]) (fun u=>[bx u (A2 (⟨5,(l.getD b Act.zero).n,(l.getD b Act.zero).m,(l.getD b Act.zero).color,(l.getD b Act.zero).text⟩:Act)) 56,(f,R7),bx d (B6 x ⟨sMainq,sMain.length,sMaink⟩ ⟨sAltq,sAlt.length,sAltk⟩ ⟨none,0,0⟩ ⟨sTabsq,sTabs.length,sTabsk⟩) 79,bx h (B6 ScrC.zero ⟨none,0,0⟩ ⟨none,0,0⟩ ⟨none,0,0⟩ ⟨none,0,0⟩) 45,bx k (B6 s ⟨sMainq,sMain.length,sMaink⟩ ⟨sAltq,sAlt.length,sAltk⟩ ⟨none,0,0⟩ ⟨sTabsq,sTabs.length,sTabsk⟩) 45]) (fun u=>?_)
    refine ie (A5 (sR_ rfl (pl1 2 [0] 50 rfl (zv rfl (B9g (R:=false) (by decide +kernel)) (pp1 1 52 rfl (ie (G8 rfl (A1 5 rfl (pp1 4 56 rfl (it rfl (F2 (us:=[iv 0]) (cs':=B6 ({x with last:=0}) ⟨sMainq,sMain.length,sMaink⟩ ⟨sAltq,sAlt.length,sAltk⟩ ⟨none,0,0⟩ ⟨sTabsq,sTabs.length,sTabsk⟩) ty3 rfl rfl rfl 2 rfl rfl rfl rfl rfl rfl) fun _=>?_))))))))))
    refine A3 (nx (A5 (sR_ rfl (zrl 1 2 [0] [(57,ag (A2 (⟨5,(l.getD b Act.zero).n,(l.getD b Act.zero).m,(l.getD b Act.zero).color,(l.getD b Act.zero).text⟩:Act)))] (zv rfl (B6g (R:=false) odv) (pp1 1 59 rfl (ie (G8 rfl (A1 6 rfl (pp1 5 64 rfl (it rfl (F2 (us:=[bv false]) (cs':=B6 ({x with last:=0,cursor:={x.cursor with wrap:=false}}) ⟨sMainq,sMain.length,sMaink⟩ ⟨sAltq,sAlt.length,sAltk⟩ ⟨none,0,0⟩ ⟨sTabsq,sTabs.length,sTabsk⟩) ty4 rfl rfl rfl 2 rfl rfl rfl rfl rfl rfl) fun _=>?_)))))))))))
    refine A3 (nx (sR_ rfl (pl2 3 [0] 66 68 rfl (ix rfl (X3 (v:=.func (.func 45) #[] #[]) (j:=7) B7f rfl rfl rfl 1 rfl okl) (ip' 5 0 [(14,.func (.func 45) #[] #[]),(15,bv true)] (ie (sR_ rfl (pp1 1 72 rfl (ie (G8 rfl (A1 4 rfl (zrl 3 1 [0] [(73,.func (.func 45) #[] #[]),(74,pt d 0),(75,ag (A2 (⟨5,(l.getD b Act.zero).n,(l.getD b Act.zero).m,(l.getD b Act.zero).color,(l.getD b Act.zero).text⟩:Act)))] (it rfl (C8 (L2:=[bx u (A2 (⟨5,(l.getD b Act.zero).n,(l.getD b Act.zero).m,(l.getD b Act.zero).color,(l.getD b Act.zero).text⟩:Act)) 56,(f,R7),bx h (B6 ScrC.zero ⟨none,0,0⟩ ⟨none,0,0⟩ ⟨none,0,0⟩ ⟨none,0,0⟩) 45,bx k (B6 s ⟨sMainq,sMain.length,sMaink⟩ ⟨sAltq,sAlt.length,sAltk⟩ ⟨none,0,0⟩ ⟨sTabsq,sTabs.length,sTabsk⟩) 45]) (B6s (s:=({x with last:=0,cursor:={x.cursor with wrap:=false}})) (sMain:=sMain) (sAlt:=sAlt) (sTabs:=sTabs) (a:=(⟨5,(l.getD b Act.zero).n,(l.getD b Act.zero).m,(l.getD b Act.zero).color,(l.getD b Act.zero).text⟩:Act)) (sb:=d) (sMainq:=sMainq) (sMainrs:=sMainrs) (sMaink:=sMaink) (sAltq:=sAltq) (sAltrs:=sAltrs) (sAltk:=sAltk) (sTabsq:=sTabsq) (sTabsk:=sTabsk) rfl e om_ om_ g om_ om_ om_ om_ (by first|assumption|exact hns|(have q:=D4e a0 opx oiu;exact q))) rfl rfl rfl rfl rfl fo_ (G9 [[bx u (A2 (⟨5,(l.getD b Act.zero).n,(l.getD b Act.zero).m,(l.getD b Act.zero).color,(l.getD b Act.zero).text⟩:Act)) 56],[(f,R7)],[bx d (B6 ({x with last:=0,cursor:={x.cursor with wrap:=false}}) ⟨sMainq,sMain.length,sMaink⟩ ⟨sAltq,sAlt.length,sAltk⟩ ⟨none,0,0⟩ ⟨sTabsq,sTabs.length,sTabsk⟩) 79],[bx h (B6 ScrC.zero ⟨none,0,0⟩ ⟨none,0,0⟩ ⟨none,0,0⟩ ⟨none,0,0⟩) 45],[bx k (B6 s ⟨sMainq,sMain.length,sMaink⟩ ⟨sAltq,sAlt.length,sAltk⟩ ⟨none,0,0⟩ ⟨sTabsq,sTabs.length,sTabsk⟩) 45]] [2,0,1,3,4] 5 rfl ozw rfl [[bx d (B6 ({x with last:=0,cursor:={x.cursor with wrap:=false}}) ⟨sMainq,sMain.length,sMaink⟩ ⟨sAltq,sAlt.length,sAltk⟩ ⟨none,0,0⟩ ⟨sTabsq,sTabs.length,sTabsk⟩) 79],[bx u (A2 (⟨5,(l.getD b Act.zero).n,(l.getD b Act.zero).m,(l.getD b Act.zero).color,(l.getD b Act.zero).text⟩:Act)) 56],[(f,R7)],[bx h (B6 ScrC.zero ⟨none,0,0⟩ ⟨none,0,0⟩ ⟨none,0,0⟩ ⟨none,0,0⟩) 45],[bx k (B6 s ⟨sMainq,sMain.length,sMaink⟩ ⟨sAltq,sAlt.length,sAltk⟩ ⟨none,0,0⟩ ⟨sTabsq,sTabs.length,sTabsk⟩) 45]] rfl opv) (fun _=>[bx d (B6 (R6 ({x with last:=0,cursor:={x.cursor with wrap:=false}}) sMain sAlt sTabs (⟨5,(l.getD b Act.zero).n,(l.getD b Act.zero).m,(l.getD b Act.zero).color,(l.getD b Act.zero).text⟩:Act)) ⟨sMainq,sMain.length,sMaink⟩ ⟨sAltq,sAlt.length,sAltk⟩ ⟨none,0,0⟩ ⟨sTabsq,sTabs.length,sTabsk⟩) 79,bx u (A2 (⟨5,(l.getD b Act.zero).n,(l.getD b Act.zero).m,(l.getD b Act.zero).color,(l.getD b Act.zero).text⟩:Act)) 56,(f,R7),bx h (B6 ScrC.zero ⟨none,0,0⟩ ⟨none,0,0⟩ ⟨none,0,0⟩ ⟨none,0,0⟩) 45,bx k (B6 s ⟨sMainq,sMain.length,sMaink⟩ ⟨sAltq,sAlt.length,sAltk⟩ ⟨none,0,0⟩ ⟨sTabsq,sTabs.length,sTabsk⟩) 45]) (fun _=>rfl)) fun _=>?_)))))))))))))
    refine A3 (nx (A1 2 rfl (ix rfl (C0 rfl rfl rfl rfl opx) (pp1 1 45 rfl (A3 (P9 (G9 [[bx d (B6 (R6 ({x with last:=0,cursor:={x.cursor with wrap:=false}}) sMain sAlt sTabs (⟨5,(l.getD b Act.zero).n,(l.getD b Act.zero).m,(l.getD b Act.zero).color,(l.getD b Act.zero).text⟩:Act)) ⟨sMainq,sMain.length,sMaink⟩ ⟨sAltq,sAlt.length,sAltk⟩ ⟨none,0,0⟩ ⟨sTabsq,sTabs.length,sTabsk⟩) 79],[bx u (A2 (⟨5,(l.getD b Act.zero).n,(l.getD b Act.zero).m,(l.getD b Act.zero).color,(l.getD b Act.zero).text⟩:Act)) 56],[(f,R7)],[bx h (B6 ScrC.zero ⟨none,0,0⟩ ⟨none,0,0⟩ ⟨none,0,0⟩ ⟨none,0,0⟩) 45],[bx k (B6 s ⟨sMainq,sMain.length,sMaink⟩ ⟨sAltq,sAlt.length,sAltk⟩ ⟨none,0,0⟩ ⟨sTabsq,sTabs.length,sTabsk⟩) 45]] [2,0,3,4,1] 5 rfl ozw rfl [[(f,R7)],[bx d (B6 (R6 ({x with last:=0,cursor:={x.cursor with wrap:=false}}) sMain sAlt sTabs (⟨5,(l.getD b Act.zero).n,(l.getD b Act.zero).m,(l.getD b Act.zero).color,(l.getD b Act.zero).text⟩:Act)) ⟨sMainq,sMain.length,sMaink⟩ ⟨sAltq,sAlt.length,sAltk⟩ ⟨none,0,0⟩ ⟨sTabsq,sTabs.length,sTabsk⟩) 79],[bx h (B6 ScrC.zero ⟨none,0,0⟩ ⟨none,0,0⟩ ⟨none,0,0⟩ ⟨none,0,0⟩) 45],[bx k (B6 s ⟨sMainq,sMain.length,sMaink⟩ ⟨sAltq,sAlt.length,sAltk⟩ ⟨none,0,0⟩ ⟨sTabsq,sTabs.length,sTabsk⟩) 45],[bx u (A2 (⟨5,(l.getD b Act.zero).n,(l.getD b Act.zero).m,(l.getD b Act.zero).color,(l.getD b Act.zero).text⟩:Act)) 56]] rfl opv) ?_))))))
    exact A1r (z1:=(b,x)) (b+1,(R6 ({x with last:=0,cursor:={x.cursor with wrap:=false}}) sMain sAlt sTabs (⟨5,(l.getD b Act.zero).n,(l.getD b Act.zero).m,(l.getD b Act.zero).color,(l.getD b Act.zero).text⟩:Act))) ⟨opx,hR,(by exact B2y a0 opx (by unfold mlS;(repeat' split)<;>first|(exfalso;omega)|rfl))⟩ olr sb_ B0.refl
   ·replace hR:=bf hR aa
    have af:=of_decide_eq_false aa
    rcases Bool.eq_false_or_eq_true (decide ((l.getD b Act.zero).kind=6)) with ae | ae
    ·replace hR:=bt hR ae
     have aj:=of_decide_eq_true ae
     have be:(l.getD b Act.zero)=(⟨6,(l.getD b Act.zero).n,(l.getD b Act.zero).m,(l.getD b Act.zero).color,(l.getD b Act.zero).text⟩:Act):=A3x aj
     refine B3t (v:=ag (A2 (⟨6,(l.getD b Act.zero).n,(l.getD b Act.zero).m,(l.getD b Act.zero).color,(l.getD b Act.zero).text⟩:Act))) 48 (congrArg (fun z=>some (ag (A2 z))) be) ?_
     refine H9 2 0 [0] (fun a4=>[(13,pt a4 0)]) (fun a4=>[bx a4 (A2 (⟨6,(l.getD b Act.zero).n,(l.getD b Act.zero).m,(l.getD b Act.zero).color,(l.getD b Act.zero).text⟩:Act)) 56,(f,R7),bx d (B6 x ⟨sMainq,sMain.length,sMaink⟩ ⟨sAltq,sAlt.length,sAltk⟩ ⟨none,0,0⟩ ⟨sTabsq,sTabs.length,sTabsk⟩) 79,bx h (B6 ScrC.zero ⟨none,0,0⟩ ⟨none,0,0⟩ ⟨none,0,0⟩ ⟨none,0,0⟩) 45,bx k (B6 s ⟨sMainq,sMain.length,sMaink⟩ ⟨sAltq,sAlt.length,sAltk⟩ ⟨none,0,0⟩ ⟨sTabsq,sTabs.length,sTabsk⟩) 45]) (fun a4=>?_)
     refine ie (A5 (sR_ rfl (pl1 2 [0] 50 rfl (zv rfl (B8w (R:=false) (by decide +kernel)) (pp1 1 52 rfl (ie (G8 rfl (A1 5 rfl (pp1 4 56 rfl (it rfl (F2 (us:=[iv 0]) (cs':=B6 ({x with last:=0}) ⟨sMainq,sMain.length,sMaink⟩ ⟨sAltq,sAlt.length,sAltk⟩ ⟨none,0,0⟩ ⟨sTabsq,sTabs.length,sTabsk⟩) ty3 rfl rfl rfl 2 rfl rfl rfl rfl rfl rfl) fun _=>?_))))))))))
     refine A3 (nx (A5 (sR_ rfl (zrl 1 2 [0] [(57,ag (A2 (⟨6,(l.getD b Act.zero).n,(l.getD b Act.zero).m,(l.getD b Act.zero).color,(l.getD b Act.zero).text⟩:Act)))] (zv rfl (B6i (R:=false) odv) (pp1 1 59 rfl (ie (G8 rfl (A1 6 rfl (pp1 5 64 rfl (it rfl (F2 (us:=[bv false]) (cs':=B6 ({x with last:=0,cursor:={x.cursor with wrap:=false}}) ⟨sMainq,sMain.length,sMaink⟩ ⟨sAltq,sAlt.length,sAltk⟩ ⟨none,0,0⟩ ⟨sTabsq,sTabs.length,sTabsk⟩) ty4 rfl rfl rfl 2 rfl rfl rfl rfl rfl rfl) fun _=>?_)))))))))))
     refine A3 (nx (sR_ rfl (pl2 3 [0] 66 68 rfl (ix rfl (X3 (v:=.func (.func 44) #[] #[]) (j:=6) B7f rfl rfl rfl 1 rfl okl) (ip' 5 0 [(14,.func (.func 44) #[] #[]),(15,bv true)] (ie (sR_ rfl (pp1 1 72 rfl (ie (G8 rfl (A1 4 rfl (zrl 3 1 [0] [(73,.func (.func 44) #[] #[]),(74,pt d 0),(75,ag (A2 (⟨6,(l.getD b Act.zero).n,(l.getD b Act.zero).m,(l.getD b Act.zero).color,(l.getD b Act.zero).text⟩:Act)))] (it rfl (C8 (L2:=[bx a4 (A2 (⟨6,(l.getD b Act.zero).n,(l.getD b Act.zero).m,(l.getD b Act.zero).color,(l.getD b Act.zero).text⟩:Act)) 56,(f,R7),bx h (B6 ScrC.zero ⟨none,0,0⟩ ⟨none,0,0⟩ ⟨none,0,0⟩ ⟨none,0,0⟩) 45,bx k (B6 s ⟨sMainq,sMain.length,sMaink⟩ ⟨sAltq,sAlt.length,sAltk⟩ ⟨none,0,0⟩ ⟨sTabsq,sTabs.length,sTabsk⟩) 45]) (A8f (s:=({x with last:=0,cursor:={x.cursor with wrap:=false}})) (sMain:=sMain) (sAlt:=sAlt) (sTabs:=sTabs) (p1:=(⟨6,(l.getD b Act.zero).n,(l.getD b Act.zero).m,(l.getD b Act.zero).color,(l.getD b Act.zero).text⟩:Act)) (sb:=d) (sMainq:=sMainq) (sMainrs:=sMainrs) (sMaink:=sMaink) (sAltq:=sAltq) (sAltrs:=sAltrs) (sAltk:=sAltk) (sTabsq:=sTabsq) (sTabsk:=sTabsk) rfl e om_ om_ g) rfl rfl rfl rfl rfl fo_ (G9 [[bx a4 (A2 (⟨6,(l.getD b Act.zero).n,(l.getD b Act.zero).m,(l.getD b Act.zero).color,(l.getD b Act.zero).text⟩:Act)) 56],[(f,R7)],[bx d (B6 ({x with last:=0,cursor:={x.cursor with wrap:=false}}) ⟨sMainq,sMain.length,sMaink⟩ ⟨sAltq,sAlt.length,sAltk⟩ ⟨none,0,0⟩ ⟨sTabsq,sTabs.length,sTabsk⟩) 79],[bx h (B6 ScrC.zero ⟨none,0,0⟩ ⟨none,0,0⟩ ⟨none,0,0⟩ ⟨none,0,0⟩) 45],[bx k (B6 s ⟨sMainq,sMain.length,sMaink⟩ ⟨sAltq,sAlt.length,sAltk⟩ ⟨none,0,0⟩ ⟨sTabsq,sTabs.length,sTabsk⟩) 45]] [2,0,1,3,4] 5 rfl ozw rfl [[bx d (B6 ({x with last:=0,cursor:={x.cursor with wrap:=false}}) ⟨sMainq,sMain.length,sMaink⟩ ⟨sAltq,sAlt.length,sAltk⟩ ⟨none,0,0⟩ ⟨sTabsq,sTabs.length,sTabsk⟩) 79],[bx a4 (A2 (⟨6,(l.getD b Act.zero).n,(l.getD b Act.zero).m,(l.getD b Act.zero).color,(l.getD b Act.zero).text⟩:Act)) 56],[(f,R7)],[bx h (B6 ScrC.zero ⟨none,0,0⟩ ⟨none,0,0⟩ ⟨none,0,0⟩ ⟨none,0,0⟩) 45],[bx k (B6 s ⟨sMainq,sMain.length,sMaink⟩ ⟨sAltq,sAlt.length,sAltk⟩ ⟨none,0,0⟩ ⟨sTabsq,sTabs.length,sTabsk⟩) 45]] rfl opv) (fun _=>[bx d (B6 (L6 ({x with last:=0,cursor:={x.cursor with wrap:=false}}) sMain sAlt sTabs (⟨6,(l.getD b Act.zero).n,(l.getD b Act.zero).m,(l.getD b Act.zero).color,(l.getD b Act.zero).text⟩:Act)) ⟨sMainq,sMain.length,sMaink⟩ ⟨sAltq,sAlt.length,sAltk⟩ ⟨none,0,0⟩ ⟨sTabsq,sTabs.length,sTabsk⟩) 79,bx a4 (A2 (⟨6,(l.getD b Act.zero).n,(l.getD b Act.zero).m,(l.getD b Act.zero).color,(l.getD b Act.zero).text⟩:Act)) 56,(f,R7),bx h (B6 ScrC.zero ⟨none,0,0⟩ ⟨none,0,0⟩ ⟨none,0,0⟩ ⟨none,0,0⟩) 45,bx k (B6 s ⟨sMainq,sMain.length,sMaink⟩ ⟨sAltq,sAlt.length,sAltk⟩ ⟨none,0,0⟩ ⟨sTabsq,sTabs.length,sTabsk⟩) 45]) (fun _=>rfl)) fun _=>?_)))))))))))))
     refine A3 (nx (A1 2 rfl (ix rfl (C0 rfl rfl rfl rfl opx) (pp1 1 45 rfl (A3 (P9 (G9 [[bx d (B6 (L6 ({x with last:=0,cursor:={x.cursor with wrap:=false}}) sMain sAlt sTabs (⟨6,(l.getD b Act.zero).n,(l.getD b Act.zero).m,(l.getD b Act.zero).color,(l.getD b Act.zero).text⟩:Act)) ⟨sMainq,sMain.length,sMaink⟩ ⟨sAltq,sAlt.length,sAltk⟩ ⟨none,0,0⟩ ⟨sTabsq,sTabs.length,sTabsk⟩) 79],[bx a4 (A2 (⟨6,(l.getD b Act.zero).n,(l.getD b Act.zero).m,(l.getD b Act.zero).color,(l.getD b Act.zero).text⟩:Act)) 56],[(f,R7)],[bx h (B6 ScrC.zero ⟨none,0,0⟩ ⟨none,0,0⟩ ⟨none,0,0⟩ ⟨none,0,0⟩) 45],[bx k (B6 s ⟨sMainq,sMain.length,sMaink⟩ ⟨sAltq,sAlt.length,sAltk⟩ ⟨none,0,0⟩ ⟨sTabsq,sTabs.length,sTabsk⟩) 45]] [2,0,3,4,1] 5 rfl ozw rfl [[(f,R7)],[bx d (B6 (L6 ({x with last:=0,cursor:={x.cursor with wrap:=false}}) sMain sAlt sTabs (⟨6,(l.getD b Act.zero).n,(l.getD b Act.zero).m,(l.getD b Act.zero).color,(l.getD b Act.zero).text⟩:Act)) ⟨sMainq,sMain.length,sMaink⟩ ⟨sAltq,sAlt.length,sAltk⟩ ⟨none,0,0⟩ ⟨sTabsq,sTabs.length,sTabsk⟩) 79],[bx h (B6 ScrC.zero ⟨none,0,0⟩ ⟨none,0,0⟩ ⟨none,0,0⟩ ⟨none,0,0⟩) 45],[bx k (B6 s ⟨sMainq,sMain.length,sMaink⟩ ⟨sAltq,sAlt.length,sAltk⟩ ⟨none,0,0⟩ ⟨sTabsq,sTabs.length,sTabsk⟩) 45],[bx a4 (A2 (⟨6,(l.getD b Act.zero).n,(l.getD b Act.zero).m,(l.getD b Act.zero).color,(l.getD b Act.zero).text⟩:Act)) 56]] rfl opv) ?_))))))
     exact A1r (z1:=(b,x)) (b+1,(L6 ({x with last:=0,cursor:={x.cursor with wrap:=false}}) sMain sAlt sTabs (⟨6,(l.getD b Act.zero).n,(l.getD b Act.zero).m,(l.getD b Act.zero).color,(l.getD b Act.zero).text⟩:Act))) ⟨opx,hR,(by exact B2y a0 opx (by unfold mlS;(repeat' split)<;>first|(exfalso;omega)|rfl))⟩ olr sb_ B0.refl
    ·replace hR:=bf hR ae
     have aj:=of_decide_eq_false ae
     rcases Bool.eq_false_or_eq_true (decide ((l.getD b Act.zero).kind=19)) with a8 | a8
     ·replace hR:=bt hR a8
      have an:=of_decide_eq_true a8
      have ba:(l.getD b Act.zero)=(⟨19,(l.getD b Act.zero).n,(l.getD b Act.zero).m,(l.getD b Act.zero).color,(l.getD b Act.zero).text⟩:Act):=A3x an
      refine B3t (v:=ag (A2 (⟨19,(l.getD b Act.zero).n,(l.getD b Act.zero).m,(l.getD b Act.zero).color,(l.getD b Act.zero).text⟩:Act))) 48 (congrArg (fun z=>some (ag (A2 z))) ba) ?_
      refine H9 2 0 [0] (fun w=>[(13,pt w 0)]) (fun w=>[bx w (A2 (⟨19,(l.getD b Act.zero).n,(l.getD b Act.zero).m,(l.getD b Act.zero).color,(l.getD b Act.zero).text⟩:Act)) 56,(f,R7),bx d (B6 x ⟨sMainq,sMain.length,sMaink⟩ ⟨sAltq,sAlt.length,sAltk⟩ ⟨none,0,0⟩ ⟨sTabsq,sTabs.length,sTabsk⟩) 79,bx h (B6 ScrC.zero ⟨none,0,0⟩ ⟨none,0,0⟩ ⟨none,0,0⟩ ⟨none,0,0⟩) 45,bx k (B6 s ⟨sMainq,sMain.length,sMaink⟩ ⟨sAltq,sAlt.length,sAltk⟩ ⟨none,0,0⟩ ⟨sTabsq,sTabs.length,sTabsk⟩) 45]) (fun w=>?_)
      refine ie (A5 (sR_ rfl (pl1 2 [0] 50 rfl (zv rfl (B9n (R:=false) (by decide +kernel)) (pp1 1 52 rfl (ie (G8 rfl (A1 5 rfl (pp1 4 56 rfl (it rfl (F2 (us:=[iv 0]) (cs':=B6 ({x with last:=0}) ⟨sMainq,sMain.length,sMaink⟩ ⟨sAltq,sAlt.length,sAltk⟩ ⟨none,0,0⟩ ⟨sTabsq,sTabs.length,sTabsk⟩) ty3 rfl rfl rfl 2 rfl rfl rfl rfl rfl rfl) fun _=>?_))))))))))
      refine A3 (nx (A5 (sR_ rfl (zrl 1 2 [0] [(57,ag (A2 (⟨19,(l.getD b Act.zero).n,(l.getD b Act.zero).m,(l.getD b Act.zero).color,(l.getD b Act.zero).text⟩:Act)))] (zv rfl (B6f (R:=false) odv) (pp1 1 59 rfl (ie (G8 rfl (A1 6 rfl (pp1 5 64 rfl (it rfl (F2 (us:=[bv false]) (cs':=B6 ({x with last:=0,cursor:={x.cursor with wrap:=false}}) ⟨sMainq,sMain.length,sMaink⟩ ⟨sAltq,sAlt.length,sAltk⟩ ⟨none,0,0⟩ ⟨sTabsq,sTabs.length,sTabsk⟩) ty4 rfl rfl rfl 2 rfl rfl rfl rfl rfl rfl) fun _=>?_)))))))))))
      refine A3 (nx (sR_ rfl (pl2 3 [0] 66 68 rfl (ix rfl (X3 (v:=.func (.func 49) #[] #[]) (j:=11) B7f rfl rfl rfl 1 rfl okl) (ip' 5 0 [(14,.func (.func 49) #[] #[]),(15,bv true)] (ie (sR_ rfl (pp1 1 72 rfl (ie (G8 rfl (A1 4 rfl (zrl 3 1 [0] [(73,.func (.func 49) #[] #[]),(74,pt d 0),(75,ag (A2 (⟨19,(l.getD b Act.zero).n,(l.getD b Act.zero).m,(l.getD b Act.zero).color,(l.getD b Act.zero).text⟩:Act)))] (it rfl (C8 (L2:=[bx w (A2 (⟨19,(l.getD b Act.zero).n,(l.getD b Act.zero).m,(l.getD b Act.zero).color,(l.getD b Act.zero).text⟩:Act)) 56,(f,R7),bx h (B6 ScrC.zero ⟨none,0,0⟩ ⟨none,0,0⟩ ⟨none,0,0⟩ ⟨none,0,0⟩) 45,bx k (B6 s ⟨sMainq,sMain.length,sMaink⟩ ⟨sAltq,sAlt.length,sAltk⟩ ⟨none,0,0⟩ ⟨sTabsq,sTabs.length,sTabsk⟩) 45]) (B6k (s:=({x with last:=0,cursor:={x.cursor with wrap:=false}})) (sMain:=sMain) (sAlt:=sAlt) (sTabs:=sTabs) (a:=(⟨19,(l.getD b Act.zero).n,(l.getD b Act.zero).m,(l.getD b Act.zero).color,(l.getD b Act.zero).text⟩:Act)) (sb:=d) (sMainq:=sMainq) (sMainrs:=sMainrs) (sMaink:=sMaink) (sAltq:=sAltq) (sAltrs:=sAltrs) (sAltk:=sAltk) (sTabsq:=sTabsq) (sTabsk:=sTabsk) rfl e om_ om_ g) rfl rfl rfl rfl rfl fo_ (G9 [[bx w (A2 (⟨19,(l.getD b Act.zero).n,(l.getD b Act.zero).m,(l.getD b Act.zero).color,(l.getD b Act.zero).text⟩:Act)) 56],[(f,R7)],[bx d (B6 ({x with last:=0,cursor:={x.cursor with wrap:=false}}) ⟨sMainq,sMain.length,sMaink⟩ ⟨sAltq,sAlt.length,sAltk⟩ ⟨none,0,0⟩ ⟨sTabsq,sTabs.length,sTabsk⟩) 79],[bx h (B6 ScrC.zero ⟨none,0,0⟩ ⟨none,0,0⟩ ⟨none,0,0⟩ ⟨none,0,0⟩) 45],[bx k (B6 s ⟨sMainq,sMain.length,sMaink⟩ ⟨sAltq,sAlt.length,sAltk⟩ ⟨none,0,0⟩ ⟨sTabsq,sTabs.length,sTabsk⟩) 45]] [2,0,1,3,4] 5 rfl ozw rfl [[bx d (B6 ({x with last:=0,cursor:={x.cursor with wrap:=false}}) ⟨sMainq,sMain.length,sMaink⟩ ⟨sAltq,sAlt.length,sAltk⟩ ⟨none,0,0⟩ ⟨sTabsq,sTabs.length,sTabsk⟩) 79],[bx w (A2 (⟨19,(l.getD b Act.zero).n,(l.getD b Act.zero).m,(l.getD b Act.zero).color,(l.getD b Act.zero).text⟩:Act)) 56],[(f,R7)],[bx h (B6 ScrC.zero ⟨none,0,0⟩ ⟨none,0,0⟩ ⟨none,0,0⟩ ⟨none,0,0⟩) 45],[bx k (B6 s ⟨sMainq,sMain.length,sMaink⟩ ⟨sAltq,sAlt.length,sAltk⟩ ⟨none,0,0⟩ ⟨sTabsq,sTabs.length,sTabsk⟩) 45]] rfl opv) (fun _=>[bx d (B6 (R3 ({x with last:=0,cursor:={x.cursor with wrap:=false}}) sMain sAlt sTabs (⟨19,(l.getD b Act.zero).n,(l.getD b Act.zero).m,(l.getD b Act.zero).color,(l.getD b Act.zero).text⟩:Act)) ⟨sMainq,sMain.length,sMaink⟩ ⟨sAltq,sAlt.length,sAltk⟩ ⟨none,0,0⟩ ⟨sTabsq,sTabs.length,sTabsk⟩) 79,bx w (A2 (⟨19,(l.getD b Act.zero).n,(l.getD b Act.zero).m,(l.getD b Act.zero).color,(l.getD b Act.zero).text⟩:Act)) 56,(f,R7),bx h (B6 ScrC.zero ⟨none,0,0⟩ ⟨none,0,0⟩ ⟨none,0,0⟩ ⟨none,0,0⟩) 45,bx k (B6 s ⟨sMainq,sMain.length,sMaink⟩ ⟨sAltq,sAlt.length,sAltk⟩ ⟨none,0,0⟩ ⟨sTabsq,sTabs.length,sTabsk⟩) 45]) (fun _=>rfl)) fun _=>?_)))))))))))))
      refine A3 (nx (A1 2 rfl (ix rfl (C0 rfl rfl rfl rfl opx) (pp1 1 45 rfl (A3 (P9 (G9 [[bx d (B6 (R3 ({x with last:=0,cursor:={x.cursor with wrap:=false}}) sMain sAlt sTabs (⟨19,(l.getD b Act.zero).n,(l.getD b Act.zero).m,(l.getD b Act.zero).color,(l.getD b Act.zero).text⟩:Act)) ⟨sMainq,sMain.length,sMaink⟩ ⟨sAltq,sAlt.length,sAltk⟩ ⟨none,0,0⟩ ⟨sTabsq,sTabs.length,sTabsk⟩) 79],[bx w (A2 (⟨19,(l.getD b Act.zero).n,(l.getD b Act.zero).m,(l.getD b Act.zero).color,(l.getD b Act.zero).text⟩:Act)) 56],[(f,R7)],[bx h (B6 ScrC.zero ⟨none,0,0⟩ ⟨none,0,0⟩ ⟨none,0,0⟩ ⟨none,0,0⟩) 45],[bx k (B6 s ⟨sMainq,sMain.length,sMaink⟩ ⟨sAltq,sAlt.length,sAltk⟩ ⟨none,0,0⟩ ⟨sTabsq,sTabs.length,sTabsk⟩) 45]] [2,0,3,4,1] 5 rfl ozw rfl [[(f,R7)],[bx d (B6 (R3 ({x with last:=0,cursor:={x.cursor with wrap:=false}}) sMain sAlt sTabs (⟨19,(l.getD b Act.zero).n,(l.getD b Act.zero).m,(l.getD b Act.zero).color,(l.getD b Act.zero).text⟩:Act)) ⟨sMainq,sMain.length,sMaink⟩ ⟨sAltq,sAlt.length,sAltk⟩ ⟨none,0,0⟩ ⟨sTabsq,sTabs.length,sTabsk⟩) 79],[bx h (B6 ScrC.zero ⟨none,0,0⟩ ⟨none,0,0⟩ ⟨none,0,0⟩ ⟨none,0,0⟩) 45],[bx k (B6 s ⟨sMainq,sMain.length,sMaink⟩ ⟨sAltq,sAlt.length,sAltk⟩ ⟨none,0,0⟩ ⟨sTabsq,sTabs.length,sTabsk⟩) 45],[bx w (A2 (⟨19,(l.getD b Act.zero).n,(l.getD b Act.zero).m,(l.getD b Act.zero).color,(l.getD b Act.zero).text⟩:Act)) 56]] rfl opv) ?_))))))
      exact A1r (z1:=(b,x)) (b+1,(R3 ({x with last:=0,cursor:={x.cursor with wrap:=false}}) sMain sAlt sTabs (⟨19,(l.getD b Act.zero).n,(l.getD b Act.zero).m,(l.getD b Act.zero).color,(l.getD b Act.zero).text⟩:Act))) ⟨opx,hR,(by exact B2y a0 opx (by unfold mlS;(repeat' split)<;>first|(exfalso;omega)|rfl))⟩ olr sb_ B0.refl
     ·replace hR:=bf hR a8
      have an:=of_decide_eq_false a8
      rcases Bool.eq_false_or_eq_true (decide ((l.getD b Act.zero).kind=22)) with ab | ab
      ·replace hR:=bt hR ab
       have ak:=of_decide_eq_true ab
       have b6:(l.getD b Act.zero)=(⟨22,(l.getD b Act.zero).n,(l.getD b Act.zero).m,(l.getD b Act.zero).color,(l.getD b Act.zero).text⟩:Act):=A3x ak
       refine B3t (v:=ag (A2 (⟨22,(l.getD b Act.zero).n,(l.getD b Act.zero).m,(l.getD b Act.zero).color,(l.getD b Act.zero).text⟩:Act))) 48 (congrArg (fun z=>some (ag (A2 z))) b6) ?_
       refine H9 2 0 [0] (fun y=>[(13,pt y 0)]) (fun y=>[bx y (A2 (⟨22,(l.getD b Act.zero).n,(l.getD b Act.zero).m,(l.getD b Act.zero).color,(l.getD b Act.zero).text⟩:Act)) 56,(f,R7),bx d (B6 x ⟨sMainq,sMain.length,sMaink⟩ ⟨sAltq,sAlt.length,sAltk⟩ ⟨none,0,0⟩ ⟨sTabsq,sTabs.length,sTabsk⟩) 79,bx h (B6 ScrC.zero ⟨none,0,0⟩ ⟨none,0,0⟩ ⟨none,0,0⟩ ⟨none,0,0⟩) 45,bx k (B6 s ⟨sMainq,sMain.length,sMaink⟩ ⟨sAltq,sAlt.length,sAltk⟩ ⟨none,0,0⟩ ⟨sTabsq,sTabs.length,sTabsk⟩) 45]) (fun y=>?_)
       refine ie (A5 (sR_ rfl (pl1 2 [0] 50 rfl (zv rfl (B9r (R:=false) (by decide +kernel)) (pp1 1 52 rfl (ie (G8 rfl (A1 5 rfl (pp1 4 56 rfl (it rfl (F2 (us:=[iv 0]) (cs':=B6 ({x with last:=0}) ⟨sMainq,sMain.length,sMaink⟩ ⟨sAltq,sAlt.length,sAltk⟩ ⟨none,0,0⟩ ⟨sTabsq,sTabs.length,sTabsk⟩) ty3 rfl rfl rfl 2 rfl rfl rfl rfl rfl rfl) fun _=>?_))))))))))
       refine A3 (nx (A5 (sR_ rfl (zrl 1 2 [0] [(57,ag (A2 (⟨22,(l.getD b Act.zero).n,(l.getD b Act.zero).m,(l.getD b Act.zero).color,(l.getD b Act.zero).text⟩:Act)))] (zv rfl (B6p (R:=false) odv) (pp1 1 59 rfl (ie (G8 rfl (A1 6 rfl (pp1 5 64 rfl (it rfl (F2 (us:=[bv false]) (cs':=B6 ({x with last:=0,cursor:={x.cursor with wrap:=false}}) ⟨sMainq,sMain.length,sMaink⟩ ⟨sAltq,sAlt.length,sAltk⟩ ⟨none,0,0⟩ ⟨sTabsq,sTabs.length,sTabsk⟩) ty4 rfl rfl rfl 2 rfl rfl rfl rfl rfl rfl) fun _=>?_)))))))))))
       refine A3 (nx (sR_ rfl (pl2 3 [0] 66 68 rfl (ix rfl (X3 (v:=.func (.func 51) #[] #[]) (j:=13) B7f rfl rfl rfl 1 rfl okl) (ip' 5 0 [(14,.func (.func 51) #[] #[]),(15,bv true)] (ie (sR_ rfl (pp1 1 72 rfl (ie (G8 rfl (A1 4 rfl (zrl 3 1 [0] [(73,.func (.func 51) #[] #[]),(74,pt d 0),(75,ag (A2 (⟨22,(l.getD b Act.zero).n,(l.getD b Act.zero).m,(l.getD b Act.zero).color,(l.getD b Act.zero).text⟩:Act)))] (it rfl (C8 (L2:=[bx y (A2 (⟨22,(l.getD b Act.zero).n,(l.getD b Act.zero).m,(l.getD b Act.zero).color,(l.getD b Act.zero).text⟩:Act)) 56,(f,R7),bx h (B6 ScrC.zero ⟨none,0,0⟩ ⟨none,0,0⟩ ⟨none,0,0⟩ ⟨none,0,0⟩) 45,bx k (B6 s ⟨sMainq,sMain.length,sMaink⟩ ⟨sAltq,sAlt.length,sAltk⟩ ⟨none,0,0⟩ ⟨sTabsq,sTabs.length,sTabsk⟩) 45]) (B2n (s:=({x with last:=0,cursor:={x.cursor with wrap:=false}})) (sMain:=sMain) (sAlt:=sAlt) (sTabs:=sTabs) (a:=(⟨22,(l.getD b Act.zero).n,(l.getD b Act.zero).m,(l.getD b Act.zero).color,(l.getD b Act.zero).text⟩:Act)) (sb:=d) (sMainq:=sMainq) (sMainrs:=sMainrs) (sMaink:=sMaink) (sAltq:=sAltq) (sAltrs:=sAltrs) (sAltk:=sAltk) (sTabsq:=sTabsq) (sTabsk:=sTabsk) rfl e om_ om_ g) rfl rfl rfl rfl rfl fo_ (G9 [[bx y (A2 (⟨22,(l.getD b Act.zero).n,(l.getD b Act.zero).m,(l.getD b Act.zero).color,(l.getD b Act.zero).text⟩:Act)) 56],[(f,R7)],[bx d (B6 ({x with last:=0,cursor:={x.cursor with wrap:=false}}) ⟨sMainq,sMain.length,sMaink⟩ ⟨sAltq,sAlt.length,sAltk⟩ ⟨none,0,0⟩ ⟨sTabsq,sTabs.length,sTabsk⟩) 79],[bx h (B6 ScrC.zero ⟨none,0,0⟩ ⟨none,0,0⟩ ⟨none,0,0⟩ ⟨none,0,0⟩) 45],[bx k (B6 s ⟨sMainq,sMain.length,sMaink⟩ ⟨sAltq,sAlt.length,sAltk⟩ ⟨none,0,0⟩ ⟨sTabsq,sTabs.length,sTabsk⟩) 45]] [2,0,1,3,4] 5 rfl ozw rfl [[bx d (B6 ({x with last:=0,cursor:={x.cursor with wrap:=false}}) ⟨sMainq,sMain.length,sMaink⟩ ⟨sAltq,sAlt.length,sAltk⟩ ⟨none,0,0⟩ ⟨sTabsq,sTabs.length,sTabsk⟩) 79],[bx y (A2 (⟨22,(l.getD b Act.zero).n,(l.getD b Act.zero).m,(l.getD b Act.zero).color,(l.getD b Act.zero).text⟩:Act)) 56],[(f,R7)],[bx h (B6 ScrC.zero ⟨none,0,0⟩ ⟨none,0,0⟩ ⟨none,0,0⟩ ⟨none,0,0⟩) 45],[bx k (B6 s ⟨sMainq,sMain.length,sMaink⟩ ⟨sAltq,sAlt.length,sAltk⟩ ⟨none,0,0⟩ ⟨sTabsq,sTabs.length,sTabsk⟩) 45]] rfl opv) (fun _=>[bx d (B6 (N6 ({x with last:=0,cursor:={x.cursor with wrap:=false}}) sMain sAlt sTabs (⟨22,(l.getD b Act.zero).n,(l.getD b Act.zero).m,(l.getD b Act.zero).color,(l.getD b Act.zero).text⟩:Act)) ⟨sMainq,sMain.length,sMaink⟩ ⟨sAltq,sAlt.length,sAltk⟩ ⟨none,0,0⟩ ⟨sTabsq,sTabs.length,sTabsk⟩) 79,bx y (A2 (⟨22,(l.getD b Act.zero).n,(l.getD b Act.zero).m,(l.getD b Act.zero).color,(l.getD b Act.zero).text⟩:Act)) 56,(f,R7),bx h (B6 ScrC.zero ⟨none,0,0⟩ ⟨none,0,0⟩ ⟨none,0,0⟩ ⟨none,0,0⟩) 45,bx k (B6 s ⟨sMainq,sMain.length,sMaink⟩ ⟨sAltq,sAlt.length,sAltk⟩ ⟨none,0,0⟩ ⟨sTabsq,sTabs.length,sTabsk⟩) 45]) (fun _=>rfl)) fun _=>?_)))))))))))))
       refine A3 (nx (A1 2 rfl (ix rfl (C0 rfl rfl rfl rfl opx) (pp1 1 45 rfl (A3 (P9 (G9 [[bx d (B6 (N6 ({x with last:=0,cursor:={x.cursor with wrap:=false}}) sMain sAlt sTabs (⟨22,(l.getD b Act.zero).n,(l.getD b Act.zero).m,(l.getD b Act.zero).color,(l.getD b Act.zero).text⟩:Act)) ⟨sMainq,sMain.length,sMaink⟩ ⟨sAltq,sAlt.length,sAltk⟩ ⟨none,0,0⟩ ⟨sTabsq,sTabs.length,sTabsk⟩) 79],[bx y (A2 (⟨22,(l.getD b Act.zero).n,(l.getD b Act.zero).m,(l.getD b Act.zero).color,(l.getD b Act.zero).text⟩:Act)) 56],[(f,R7)],[bx h (B6 ScrC.zero ⟨none,0,0⟩ ⟨none,0,0⟩ ⟨none,0,0⟩ ⟨none,0,0⟩) 45],[bx k (B6 s ⟨sMainq,sMain.length,sMaink⟩ ⟨sAltq,sAlt.length,sAltk⟩ ⟨none,0,0⟩ ⟨sTabsq,sTabs.length,sTabsk⟩) 45]] [2,0,3,4,1] 5 rfl ozw rfl [[(f,R7)],[bx d (B6 (N6 ({x with last:=0,cursor:={x.cursor with wrap:=false}}) sMain sAlt sTabs (⟨22,(l.getD b Act.zero).n,(l.getD b Act.zero).m,(l.getD b Act.zero).color,(l.getD b Act.zero).text⟩:Act)) ⟨sMainq,sMain.length,sMaink⟩ ⟨sAltq,sAlt.length,sAltk⟩ ⟨none,0,0⟩ ⟨sTabsq,sTabs.length,sTabsk⟩) 79],[bx h (B6 ScrC.zero ⟨none,0,0⟩ ⟨none,0,0⟩ ⟨none,0,0⟩ ⟨none,0,0⟩) 45],[bx k (B6 s ⟨sMainq,sMain.length,sMaink⟩ ⟨sAltq,sAlt.length,sAltk⟩ ⟨none,0,0⟩ ⟨sTabsq,sTabs.length,sTabsk⟩) 45],[bx y (A2 (⟨22,(l.getD b Act.zero).n,(l.getD b Act.zero).m,(l.getD b Act.zero).color,(l.getD b Act.zero).text⟩:Act)) 56]] rfl opv) ?_))))))
       exact A1r (z1:=(b,x)) (b+1,(N6 ({x with last:=0,cursor:={x.cursor with wrap:=false}}) sMain sAlt sTabs (⟨22,(l.getD b Act.zero).n,(l.getD b Act.zero).m,(l.getD b Act.zero).color,(l.getD b Act.zero).text⟩:Act))) ⟨opx,hR,(by exact B2y a0 opx (by unfold mlS;(repeat' split)<;>first|(exfalso;omega)|rfl))⟩ olr sb_ B0.refl
      ·replace hR:=bf hR ab
       have ak:=of_decide_eq_false ab
       rcases Bool.eq_false_or_eq_true (decide ((l.getD b Act.zero).n=0)) with a9 | a9
       ·replace hR:=bt hR a9
        have b7:=of_decide_eq_true a9
        have b5:(l.getD b Act.zero)=(⟨20,0,(l.getD b Act.zero).m,(l.getD b Act.zero).color,(l.getD b Act.zero).text⟩:Act):=B6d (by have q:m6 (l.getD b Act.zero):=A8t a5 opx;unfold m6 at q;omega) (by have q:m6 (l.getD b Act.zero):=A8t a5 opx;unfold m6 at q;omega)
        refine B3t (v:=ag (A2 (⟨20,0,(l.getD b Act.zero).m,(l.getD b Act.zero).color,(l.getD b Act.zero).text⟩:Act))) 48 (congrArg (fun z=>some (ag (A2 z))) b5) ?_
        refine H9 2 0 [0] (fun a2=>[(13,pt a2 0)]) (fun a2=>[bx a2 (A2 (⟨20,0,(l.getD b Act.zero).m,(l.getD b Act.zero).color,(l.getD b Act.zero).text⟩:Act)) 56,(f,R7),bx d (B6 x ⟨sMainq,sMain.length,sMaink⟩ ⟨sAltq,sAlt.length,sAltk⟩ ⟨none,0,0⟩ ⟨sTabsq,sTabs.length,sTabsk⟩) 79,bx h (B6 ScrC.zero ⟨none,0,0⟩ ⟨none,0,0⟩ ⟨none,0,0⟩ ⟨none,0,0⟩) 45,bx k (B6 s ⟨sMainq,sMain.length,sMaink⟩ ⟨sAltq,sAlt.length,sAltk⟩ ⟨none,0,0⟩ ⟨sTabsq,sTabs.length,sTabsk⟩) 45]) (fun a2=>?_)
        refine ie (A5 (sR_ rfl (pl1 2 [0] 50 rfl (zv rfl (A2u (R:=false) (by decide +kernel)) (pp1 1 52 rfl (ie (G8 rfl (A1 5 rfl (pp1 4 56 rfl (it rfl (F2 (us:=[iv 0]) (cs':=B6 ({x with last:=0}) ⟨sMainq,sMain.length,sMaink⟩ ⟨sAltq,sAlt.length,sAltk⟩ ⟨none,0,0⟩ ⟨sTabsq,sTabs.length,sTabsk⟩) ty3 rfl rfl rfl 2 rfl rfl rfl rfl rfl rfl) fun _=>?_))))))))))
        refine A3 (nx (A5 (sR_ rfl (zrl 1 2 [0] [(57,ag (A2 (⟨20,0,(l.getD b Act.zero).m,(l.getD b Act.zero).color,(l.getD b Act.zero).text⟩:Act)))] (zv rfl (A1d (R:=false) odv) (pp1 1 59 rfl (ie (G8 rfl (A1 6 rfl (pp1 5 64 rfl (it rfl (F2 (us:=[bv false]) (cs':=B6 ({x with last:=0,cursor:={x.cursor with wrap:=false}}) ⟨sMainq,sMain.length,sMaink⟩ ⟨sAltq,sAlt.length,sAltk⟩ ⟨none,0,0⟩ ⟨sTabsq,sTabs.length,sTabsk⟩) ty4 rfl rfl rfl 2 rfl rfl rfl rfl rfl rfl) fun _=>?_)))))))))))
        refine A3 (nx (sR_ rfl (pl2 3 [0] 66 68 rfl (ix rfl (X3 (v:=.func (.func 52) #[] #[]) (j:=14) B7f rfl rfl rfl 1 rfl okl) (ip' 5 0 [(14,.func (.func 52) #[] #[]),(15,bv true)] (ie (sR_ rfl (pp1 1 72 rfl (ie (G8 rfl (A1 4 rfl (zrl 3 1 [0] [(73,.func (.func 52) #[] #[]),(74,pt d 0),(75,ag (A2 (⟨20,0,(l.getD b Act.zero).m,(l.getD b Act.zero).color,(l.getD b Act.zero).text⟩:Act)))] (it rfl (C8 (L2:=[bx a2 (A2 (⟨20,0,(l.getD b Act.zero).m,(l.getD b Act.zero).color,(l.getD b Act.zero).text⟩:Act)) 56,(f,R7),bx h (B6 ScrC.zero ⟨none,0,0⟩ ⟨none,0,0⟩ ⟨none,0,0⟩ ⟨none,0,0⟩) 45,bx k (B6 s ⟨sMainq,sMain.length,sMaink⟩ ⟨sAltq,sAlt.length,sAltk⟩ ⟨none,0,0⟩ ⟨sTabsq,sTabs.length,sTabsk⟩) 45]) (B6q (s:=({x with last:=0,cursor:={x.cursor with wrap:=false}})) (sMain:=sMain) (sAlt:=sAlt) (sTabs:=sTabs) (akind:=20) (am:=((l.getD b Act.zero).m)) (acolor:=((l.getD b Act.zero).color)) (atext:=((l.getD b Act.zero).text)) (sb:=d) (sMainq:=sMainq) (sMainrs:=sMainrs) (sMaink:=sMaink) (sAltq:=sAltq) (sAltrs:=sAltrs) (sAltk:=sAltk) (sTabsq:=sTabsq) (sTabsk:=sTabsk) rfl e om_ om_ g) rfl rfl rfl rfl rfl fo_ (G9 [[bx a2 (A2 (⟨20,0,(l.getD b Act.zero).m,(l.getD b Act.zero).color,(l.getD b Act.zero).text⟩:Act)) 56],[(f,R7)],[bx d (B6 ({x with last:=0,cursor:={x.cursor with wrap:=false}}) ⟨sMainq,sMain.length,sMaink⟩ ⟨sAltq,sAlt.length,sAltk⟩ ⟨none,0,0⟩ ⟨sTabsq,sTabs.length,sTabsk⟩) 79],[bx h (B6 ScrC.zero ⟨none,0,0⟩ ⟨none,0,0⟩ ⟨none,0,0⟩ ⟨none,0,0⟩) 45],[bx k (B6 s ⟨sMainq,sMain.length,sMaink⟩ ⟨sAltq,sAlt.length,sAltk⟩ ⟨none,0,0⟩ ⟨sTabsq,sTabs.length,sTabsk⟩) 45]] [2,0,1,3,4] 5 rfl ozw rfl [[bx d (B6 ({x with last:=0,cursor:={x.cursor with wrap:=false}}) ⟨sMainq,sMain.length,sMaink⟩ ⟨sAltq,sAlt.length,sAltk⟩ ⟨none,0,0⟩ ⟨sTabsq,sTabs.length,sTabsk⟩) 79],[bx a2 (A2 (⟨20,0,(l.getD b Act.zero).m,(l.getD b Act.zero).color,(l.getD b Act.zero).text⟩:Act)) 56],[(f,R7)],[bx h (B6 ScrC.zero ⟨none,0,0⟩ ⟨none,0,0⟩ ⟨none,0,0⟩ ⟨none,0,0⟩) 45],[bx k (B6 s ⟨sMainq,sMain.length,sMaink⟩ ⟨sAltq,sAlt.length,sAltk⟩ ⟨none,0,0⟩ ⟨sTabsq,sTabs.length,sTabsk⟩) 45]] rfl opv) (fun _=>[bx d (B6 (R5 ({x with last:=0,cursor:={x.cursor with wrap:=false}}) sMain sAlt sTabs 20 ((l.getD b Act.zero).m) ((l.getD b Act.zero).color) ((l.getD b Act.zero).text)) ⟨sMainq,sMain.length,sMaink⟩ ⟨sAltq,sAlt.length,sAltk⟩ ⟨none,0,0⟩ ⟨sTabsq,sTabs.length,sTabsk⟩) 79,bx a2 (A2 (⟨20,0,(l.getD b Act.zero).m,(l.getD b Act.zero).color,(l.getD b Act.zero).text⟩:Act)) 56,(f,R7),bx h (B6 ScrC.zero ⟨none,0,0⟩ ⟨none,0,0⟩ ⟨none,0,0⟩ ⟨none,0,0⟩) 45,bx k (B6 s ⟨sMainq,sMain.length,sMaink⟩ ⟨sAltq,sAlt.length,sAltk⟩ ⟨none,0,0⟩ ⟨sTabsq,sTabs.length,sTabsk⟩) 45]) (fun _=>rfl)) fun _=>?_)))))))))))))
        refine A3 (nx (A1 2 rfl (ix rfl (C0 rfl rfl rfl rfl opx) (pp1 1 45 rfl (A3 (P9 (G9 [[bx d (B6 (R5 ({x with last:=0,cursor:={x.cursor with wrap:=false}}) sMain sAlt sTabs 20 ((l.getD b Act.zero).m) ((l.getD b Act.zero).color) ((l.getD b Act.zero).text)) ⟨sMainq,sMain.length,sMaink⟩ ⟨sAltq,sAlt.length,sAltk⟩ ⟨none,0,0⟩ ⟨sTabsq,sTabs.length,sTabsk⟩) 79],[bx a2 (A2 (⟨20,0,(l.getD b Act.zero).m,(l.getD b Act.zero).color,(l.getD b Act.zero).text⟩:Act)) 56],[(f,R7)],[bx h (B6 ScrC.zero ⟨none,0,0⟩ ⟨none,0,0⟩ ⟨none,0,0⟩ ⟨none,0,0⟩) 45],[bx k (B6 s ⟨sMainq,sMain.length,sMaink⟩ ⟨sAltq,sAlt.length,sAltk⟩ ⟨none,0,0⟩ ⟨sTabsq,sTabs.length,sTabsk⟩) 45]] [2,0,3,4,1] 5 rfl ozw rfl [[(f,R7)],[bx d (B6 (R5 ({x with last:=0,cursor:={x.cursor with wrap:=false}}) sMain sAlt sTabs 20 ((l.getD b Act.zero).m) ((l.getD b Act.zero).color) ((l.getD b Act.zero).text)) ⟨sMainq,sMain.length,sMaink⟩ ⟨sAltq,sAlt.length,sAltk⟩ ⟨none,0,0⟩ ⟨sTabsq,sTabs.length,sTabsk⟩) 79],[bx h (B6 ScrC.zero ⟨none,0,0⟩ ⟨none,0,0⟩ ⟨none,0,0⟩ ⟨none,0,0⟩) 45],[bx k (B6 s ⟨sMainq,sMain.length,sMaink⟩ ⟨sAltq,sAlt.length,sAltk⟩ ⟨none,0,0⟩ ⟨sTabsq,sTabs.length,sTabsk⟩) 45],[bx a2 (A2 (⟨20,0,(l.getD b Act.zero).m,(l.getD b Act.zero).color,(l.getD b Act.zero).text⟩:Act)) 56]] rfl opv) ?_))))))
        exact A1r (z1:=(b,x)) (b+1,R5 ({x with last:=0,cursor:={x.cursor with wrap:=false}}) sMain sAlt sTabs 20 ((l.getD b Act.zero).m) ((l.getD b Act.zero).color) ((l.getD b Act.zero).text)) ⟨opx,hR,(by exact B2y a0 opx (by unfold mlS;(repeat' split)<;>first|(exfalso;omega)|rfl))⟩ olr sb_ B0.refl
       ·replace hR:=bf hR a9
        have b7:=of_decide_eq_false a9
        rcases Bool.eq_false_or_eq_true (decide ((l.getD b Act.zero).n=1)) with ac | ac
        ·replace hR:=bt hR ac
         have bb:=of_decide_eq_true ac
         have av:(l.getD b Act.zero)=(⟨20,1,(l.getD b Act.zero).m,(l.getD b Act.zero).color,(l.getD b Act.zero).text⟩:Act):=B6d (by have q:m6 (l.getD b Act.zero):=A8t a5 opx;unfold m6 at q;omega) (by have q:m6 (l.getD b Act.zero):=A8t a5 opx;unfold m6 at q;omega)
         refine B3t (v:=ag (A2 (⟨20,1,(l.getD b Act.zero).m,(l.getD b Act.zero).color,(l.getD b Act.zero).text⟩:Act))) 48 (congrArg (fun z=>some (ag (A2 z))) av) ?_
         refine H9 2 0 [0] (fun r=>[(13,pt r 0)]) (fun r=>[bx r (A2 (⟨20,1,(l.getD b Act.zero).m,(l.getD b Act.zero).color,(l.getD b Act.zero).text⟩:Act)) 56,(f,R7),bx d (B6 x ⟨sMainq,sMain.length,sMaink⟩ ⟨sAltq,sAlt.length,sAltk⟩ ⟨none,0,0⟩ ⟨sTabsq,sTabs.length,sTabsk⟩) 79,bx h (B6 ScrC.zero ⟨none,0,0⟩ ⟨none,0,0⟩ ⟨none,0,0⟩ ⟨none,0,0⟩) 45,bx k (B6 s ⟨sMainq,sMain.length,sMaink⟩ ⟨sAltq,sAlt.length,sAltk⟩ ⟨none,0,0⟩ ⟨sTabsq,sTabs.length,sTabsk⟩) 45]) (fun r=>?_)
         refine ie (A5 (sR_ rfl (pl1 2 [0] 50 rfl (zv rfl (A2u (R:=false) (by decide +kernel)) (pp1 1 52 rfl (ie (G8 rfl (A1 5 rfl (pp1 4 56 rfl (it rfl (F2 (us:=[iv 0]) (cs':=B6 ({x with last:=0}) ⟨sMainq,sMain.length,sMaink⟩ ⟨sAltq,sAlt.length,sAltk⟩ ⟨none,0,0⟩ ⟨sTabsq,sTabs.length,sTabsk⟩) ty3 rfl rfl rfl 2 rfl rfl rfl rfl rfl rfl) fun _=>?_))))))))))
         refine A3 (nx (A5 (sR_ rfl (zrl 1 2 [0] [(57,ag (A2 (⟨20,1,(l.getD b Act.zero).m,(l.getD b Act.zero).color,(l.getD b Act.zero).text⟩:Act)))] (zv rfl (A1d (R:=false) odv) (pp1 1 59 rfl (ie (G8 rfl (A1 6 rfl (pp1 5 64 rfl (it rfl (F2 (us:=[bv false]) (cs':=B6 ({x with last:=0,cursor:={x.cursor with wrap:=false}}) ⟨sMainq,sMain.length,sMaink⟩ ⟨sAltq,sAlt.length,sAltk⟩ ⟨none,0,0⟩ ⟨sTabsq,sTabs.length,sTabsk⟩) ty4 rfl rfl rfl 2 rfl rfl rfl rfl rfl rfl) fun _=>?_)))))))))))
         refine A3 (nx (sR_ rfl (pl2 3 [0] 66 68 rfl (ix rfl (X3 (v:=.func (.func 52) #[] #[]) (j:=14) B7f rfl rfl rfl 1 rfl okl) (ip' 5 0 [(14,.func (.func 52) #[] #[]),(15,bv true)] (ie (sR_ rfl (pp1 1 72 rfl (ie (G8 rfl (A1 4 rfl (zrl 3 1 [0] [(73,.func (.func 52) #[] #[]),(74,pt d 0),(75,ag (A2 (⟨20,1,(l.getD b Act.zero).m,(l.getD b Act.zero).color,(l.getD b Act.zero).text⟩:Act)))] (it rfl (C8 (L2:=[bx r (A2 (⟨20,1,(l.getD b Act.zero).m,(l.getD b Act.zero).color,(l.getD b Act.zero).text⟩:Act)) 56,(f,R7),bx h (B6 ScrC.zero ⟨none,0,0⟩ ⟨none,0,0⟩ ⟨none,0,0⟩ ⟨none,0,0⟩) 45,bx k (B6 s ⟨sMainq,sMain.length,sMaink⟩ ⟨sAltq,sAlt.length,sAltk⟩ ⟨none,0,0⟩ ⟨sTabsq,sTabs.length,sTabsk⟩) 45]) (B4y (s:=({x with last:=0,cursor:={x.cursor with wrap:=false}})) (sMain:=sMain) (sAlt:=sAlt) (sTabs:=sTabs) (akind:=20) (am:=((l.getD b Act.zero).m)) (acolor:=((l.getD b Act.zero).color)) (atext:=((l.getD b Act.zero).text)) (sb:=d) (sMainq:=sMainq) (sMainrs:=sMainrs) (sMaink:=sMaink) (sAltq:=sAltq) (sAltrs:=sAltrs) (sAltk:=sAltk) (sTabsq:=sTabsq) (sTabsk:=sTabsk) rfl e om_ om_ g) rfl rfl rfl rfl rfl fo_ (G9 [[bx r (A2 (⟨20,1,(l.getD b Act.zero).m,(l.getD b Act.zero).color,(l.getD b Act.zero).text⟩:Act)) 56],[(f,R7)],[bx d (B6 ({x with last:=0,cursor:={x.cursor with wrap:=false}}) ⟨sMainq,sMain.length,sMaink⟩ ⟨sAltq,sAlt.length,sAltk⟩ ⟨none,0,0⟩ ⟨sTabsq,sTabs.length,sTabsk⟩) 79],[bx h (B6 ScrC.zero ⟨none,0,0⟩ ⟨none,0,0⟩ ⟨none,0,0⟩ ⟨none,0,0⟩) 45],[bx k (B6 s ⟨sMainq,sMain.length,sMaink⟩ ⟨sAltq,sAlt.length,sAltk⟩ ⟨none,0,0⟩ ⟨sTabsq,sTabs.length,sTabsk⟩) 45]] [2,0,1,3,4] 5 rfl ozw rfl [[bx d (B6 ({x with last:=0,cursor:={x.cursor with wrap:=false}}) ⟨sMainq,sMain.length,sMaink⟩ ⟨sAltq,sAlt.length,sAltk⟩ ⟨none,0,0⟩ ⟨sTabsq,sTabs.length,sTabsk⟩) 79],[bx r (A2 (⟨20,1,(l.getD b Act.zero).m,(l.getD b Act.zero).color,(l.getD b Act.zero).text⟩:Act)) 56],[(f,R7)],[bx h (B6 ScrC.zero ⟨none,0,0⟩ ⟨none,0,0⟩ ⟨none,0,0⟩ ⟨none,0,0⟩) 45],[bx k (B6 s ⟨sMainq,sMain.length,sMaink⟩ ⟨sAltq,sAlt.length,sAltk⟩ ⟨none,0,0⟩ ⟨sTabsq,sTabs.length,sTabsk⟩) 45]] rfl opv) (fun _=>[bx d (B6 (Q1 ({x with last:=0,cursor:={x.cursor with wrap:=false}}) sMain sAlt sTabs 20 ((l.getD b Act.zero).m) ((l.getD b Act.zero).color) ((l.getD b Act.zero).text)) ⟨sMainq,sMain.length,sMaink⟩ ⟨sAltq,sAlt.length,sAltk⟩ ⟨none,0,0⟩ ⟨sTabsq,sTabs.length,sTabsk⟩) 79,bx r (A2 (⟨20,1,(l.getD b Act.zero).m,(l.getD b Act.zero).color,(l.getD b Act.zero).text⟩:Act)) 56,(f,R7),bx h (B6 ScrC.zero ⟨none,0,0⟩ ⟨none,0,0⟩ ⟨none,0,0⟩ ⟨none,0,0⟩) 45,bx k (B6 s ⟨sMainq,sMain.length,sMaink⟩ ⟨sAltq,sAlt.length,sAltk⟩ ⟨none,0,0⟩ ⟨sTabsq,sTabs.length,sTabsk⟩) 45]) (fun _=>rfl)) fun _=>?_)))))))))))))
         refine A3 (nx (A1 2 rfl (ix rfl (C0 rfl rfl rfl rfl opx) (pp1 1 45 rfl (A3 (P9 (G9 [[bx d (B6 (Q1 ({x with last:=0,cursor:={x.cursor with wrap:=false}}) sMain sAlt sTabs 20 ((l.getD b Act.zero).m) ((l.getD b Act.zero).color) ((l.getD b Act.zero).text)) ⟨sMainq,sMain.length,sMaink⟩ ⟨sAltq,sAlt.length,sAltk⟩ ⟨none,0,0⟩ ⟨sTabsq,sTabs.length,sTabsk⟩) 79],[bx r (A2 (⟨20,1,(l.getD b Act.zero).m,(l.getD b Act.zero).color,(l.getD b Act.zero).text⟩:Act)) 56],[(f,R7)],[bx h (B6 ScrC.zero ⟨none,0,0⟩ ⟨none,0,0⟩ ⟨none,0,0⟩ ⟨none,0,0⟩) 45],[bx k (B6 s ⟨sMainq,sMain.length,sMaink⟩ ⟨sAltq,sAlt.length,sAltk⟩ ⟨none,0,0⟩ ⟨sTabsq,sTabs.length,sTabsk⟩) 45]] [2,0,3,4,1] 5 rfl ozw rfl [[(f,R7)],[bx d (B6 (Q1 ({x with last:=0,cursor:={x.cursor with wrap:=false}}) sMain sAlt sTabs 20 ((l.getD b Act.zero).m) ((l.getD b Act.zero).color) ((l.getD b Act.zero).text)) ⟨sMainq,sMain.length,sMaink⟩ ⟨sAltq,sAlt.length,sAltk⟩ ⟨none,0,0⟩ ⟨sTabsq,sTabs.length,sTabsk⟩) 79],[bx h (B6 ScrC.zero ⟨none,0,0⟩ ⟨none,0,0⟩ ⟨none,0,0⟩ ⟨none,0,0⟩) 45],[bx k (B6 s ⟨sMainq,sMain.length,sMaink⟩ ⟨sAltq,sAlt.length,sAltk⟩ ⟨none,0,0⟩ ⟨sTabsq,sTabs.length,sTabsk⟩) 45],[bx r (A2 (⟨20,1,(l.getD b Act.zero).m,(l.getD b Act.zero).color,(l.getD b Act.zero).text⟩:Act)) 56]] rfl opv) ?_))))))
         exact A1r (z1:=(b,x)) (b+1,Q1 ({x with last:=0,cursor:={x.cursor with wrap:=false}}) sMain sAlt sTabs 20 ((l.getD b Act.zero).m) ((l.getD b Act.zero).color) ((l.getD b Act.zero).text)) ⟨opx,hR,(by exact B2y a0 opx (by unfold mlS;(repeat' split)<;>first|(exfalso;omega)|rfl))⟩ olr sb_ B0.refl
        ·replace hR:=bf hR ac
         have bb:=of_decide_eq_false ac
         rcases Bool.eq_false_or_eq_true (decide ((l.getD b Act.zero).n=2)) with a6 | a6
         ·replace hR:=bt hR a6
          have aq:=of_decide_eq_true a6
          have bc:(l.getD b Act.zero)=(⟨20,2,(l.getD b Act.zero).m,(l.getD b Act.zero).color,(l.getD b Act.zero).text⟩:Act):=B6d (by have q:m6 (l.getD b Act.zero):=A8t a5 opx;unfold m6 at q;omega) (by have q:m6 (l.getD b Act.zero):=A8t a5 opx;unfold m6 at q;omega)
          refine B3t (v:=ag (A2 (⟨20,2,(l.getD b Act.zero).m,(l.getD b Act.zero).color,(l.getD b Act.zero).text⟩:Act))) 48 (congrArg (fun z=>some (ag (A2 z))) bc) ?_
          refine H9 2 0 [0] (fun a1=>[(13,pt a1 0)]) (fun a1=>[bx a1 (A2 (⟨20,2,(l.getD b Act.zero).m,(l.getD b Act.zero).color,(l.getD b Act.zero).text⟩:Act)) 56,(f,R7),bx d (B6 x ⟨sMainq,sMain.length,sMaink⟩ ⟨sAltq,sAlt.length,sAltk⟩ ⟨none,0,0⟩ ⟨sTabsq,sTabs.length,sTabsk⟩) 79,bx h (B6 ScrC.zero ⟨none,0,0⟩ ⟨none,0,0⟩ ⟨none,0,0⟩ ⟨none,0,0⟩) 45,bx k (B6 s ⟨sMainq,sMain.length,sMaink⟩ ⟨sAltq,sAlt.length,sAltk⟩ ⟨none,0,0⟩ ⟨sTabsq,sTabs.length,sTabsk⟩) 45]) (fun a1=>?_)
          refine ie (A5 (sR_ rfl (pl1 2 [0] 50 rfl (zv rfl (A2u (R:=false) (by decide +kernel)) (pp1 1 52 rfl (ie (G8 rfl (A1 5 rfl (pp1 4 56 rfl (it rfl (F2 (us:=[iv 0]) (cs':=B6 ({x with last:=0}) ⟨sMainq,sMain.length,sMaink⟩ ⟨sAltq,sAlt.length,sAltk⟩ ⟨none,0,0⟩ ⟨sTabsq,sTabs.length,sTabsk⟩) ty3 rfl rfl rfl 2 rfl rfl rfl rfl rfl rfl) fun _=>?_))))))))))
          refine A3 (nx (A5 (sR_ rfl (zrl 1 2 [0] [(57,ag (A2 (⟨20,2,(l.getD b Act.zero).m,(l.getD b Act.zero).color,(l.getD b Act.zero).text⟩:Act)))] (zv rfl (A1d (R:=false) odv) (pp1 1 59 rfl (ie (G8 rfl (A1 6 rfl (pp1 5 64 rfl (it rfl (F2 (us:=[bv false]) (cs':=B6 ({x with last:=0,cursor:={x.cursor with wrap:=false}}) ⟨sMainq,sMain.length,sMaink⟩ ⟨sAltq,sAlt.length,sAltk⟩ ⟨none,0,0⟩ ⟨sTabsq,sTabs.length,sTabsk⟩) ty4 rfl rfl rfl 2 rfl rfl rfl rfl rfl rfl) fun _=>?_)))))))))))
          refine A3 (nx (sR_ rfl (pl2 3 [0] 66 68 rfl (ix rfl (X3 (v:=.func (.func 52) #[] #[]) (j:=14) B7f rfl rfl rfl 1 rfl okl) (ip' 5 0 [(14,.func (.func 52) #[] #[]),(15,bv true)] (ie (sR_ rfl (pp1 1 72 rfl (ie (G8 rfl (A1 4 rfl (zrl 3 1 [0] [(73,.func (.func 52) #[] #[]),(74,pt d 0),(75,ag (A2 (⟨20,2,(l.getD b Act.zero).m,(l.getD b Act.zero).color,(l.getD b Act.zero).text⟩:Act)))] (it rfl (C8 (L2:=[bx a1 (A2 (⟨20,2,(l.getD b Act.zero).m,(l.getD b Act.zero).color,(l.getD b Act.zero).text⟩:Act)) 56,(f,R7),bx h (B6 ScrC.zero ⟨none,0,0⟩ ⟨none,0,0⟩ ⟨none,0,0⟩ ⟨none,0,0⟩) 45,bx k (B6 s ⟨sMainq,sMain.length,sMaink⟩ ⟨sAltq,sAlt.length,sAltk⟩ ⟨none,0,0⟩ ⟨sTabsq,sTabs.length,sTabsk⟩) 45]) (B5p (s:=({x with last:=0,cursor:={x.cursor with wrap:=false}})) (sMain:=sMain) (sAlt:=sAlt) (sTabs:=sTabs) (akind:=20) (am:=((l.getD b Act.zero).m)) (acolor:=((l.getD b Act.zero).color)) (atext:=((l.getD b Act.zero).text)) (sb:=d) (sMainq:=sMainq) (sMainrs:=sMainrs) (sMaink:=sMaink) (sAltq:=sAltq) (sAltrs:=sAltrs) (sAltk:=sAltk) (sTabsq:=sTabsq) (sTabsk:=sTabsk) rfl e om_ om_ g) rfl rfl rfl rfl rfl fo_ (G9 [[bx a1 (A2 (⟨20,2,(l.getD b Act.zero).m,(l.getD b Act.zero).color,(l.getD b Act.zero).text⟩:Act)) 56],[(f,R7)],[bx d (B6 ({x with last:=0,cursor:={x.cursor with wrap:=false}}) ⟨sMainq,sMain.length,sMaink⟩ ⟨sAltq,sAlt.length,sAltk⟩ ⟨none,0,0⟩ ⟨sTabsq,sTabs.length,sTabsk⟩) 79],[bx h (B6 ScrC.zero ⟨none,0,0⟩ ⟨none,0,0⟩ ⟨none,0,0⟩ ⟨none,0,0⟩) 45],[bx k (B6 s ⟨sMainq,sMain.length,sMaink⟩ ⟨sAltq,sAlt.length,sAltk⟩ ⟨none,0,0⟩ ⟨sTabsq,sTabs.length,sTabsk⟩) 45]] [2,0,1,3,4] 5 rfl ozw rfl [[bx d (B6 ({x with last:=0,cursor:={x.cursor with wrap:=false}}) ⟨sMainq,sMain.length,sMaink⟩ ⟨sAltq,sAlt.length,sAltk⟩ ⟨none,0,0⟩ ⟨sTabsq,sTabs.length,sTabsk⟩) 79],[bx a1 (A2 (⟨20,2,(l.getD b Act.zero).m,(l.getD b Act.zero).color,(l.getD b Act.zero).text⟩:Act)) 56],[(f,R7)],[bx h (B6 ScrC.zero ⟨none,0,0⟩ ⟨none,0,0⟩ ⟨none,0,0⟩ ⟨none,0,0⟩) 45],[bx k (B6 s ⟨sMainq,sMain.length,sMaink⟩ ⟨sAltq,sAlt.length,sAltk⟩ ⟨none,0,0⟩ ⟨sTabsq,sTabs.length,sTabsk⟩) 45]] rfl opv) (fun _=>[bx d (B6 (Q0 ({x with last:=0,cursor:={x.cursor with wrap:=false}}) sMain sAlt sTabs 20 ((l.getD b Act.zero).m) ((l.getD b Act.zero).color) ((l.getD b Act.zero).text)) ⟨sMainq,sMain.length,sMaink⟩ ⟨sAltq,sAlt.length,sAltk⟩ ⟨none,0,0⟩ ⟨sTabsq,sTabs.length,sTabsk⟩) 79,bx a1 (A2 (⟨20,2,(l.getD b Act.zero).m,(l.getD b Act.zero).color,(l.getD b Act.zero).text⟩:Act)) 56,(f,R7),bx h (B6 ScrC.zero ⟨none,0,0⟩ ⟨none,0,0⟩ ⟨none,0,0⟩ ⟨none,0,0⟩) 45,bx k (B6 s ⟨sMainq,sMain.length,sMaink⟩ ⟨sAltq,sAlt.length,sAltk⟩ ⟨none,0,0⟩ ⟨sTabsq,sTabs.length,sTabsk⟩) 45]) (fun _=>rfl)) fun _=>?_)))))))))))))
          refine A3 (nx (A1 2 rfl (ix rfl (C0 rfl rfl rfl rfl opx) (pp1 1 45 rfl (A3 (P9 (G9 [[bx d (B6 (Q0 ({x with last:=0,cursor:={x.cursor with wrap:=false}}) sMain sAlt sTabs 20 ((l.getD b Act.zero).m) ((l.getD b Act.zero).color) ((l.getD b Act.zero).text)) ⟨sMainq,sMain.length,sMaink⟩ ⟨sAltq,sAlt.length,sAltk⟩ ⟨none,0,0⟩ ⟨sTabsq,sTabs.length,sTabsk⟩) 79],[bx a1 (A2 (⟨20,2,(l.getD b Act.zero).m,(l.getD b Act.zero).color,(l.getD b Act.zero).text⟩:Act)) 56],[(f,R7)],[bx h (B6 ScrC.zero ⟨none,0,0⟩ ⟨none,0,0⟩ ⟨none,0,0⟩ ⟨none,0,0⟩) 45],[bx k (B6 s ⟨sMainq,sMain.length,sMaink⟩ ⟨sAltq,sAlt.length,sAltk⟩ ⟨none,0,0⟩ ⟨sTabsq,sTabs.length,sTabsk⟩) 45]] [2,0,3,4,1] 5 rfl ozw rfl [[(f,R7)],[bx d (B6 (Q0 ({x with last:=0,cursor:={x.cursor with wrap:=false}}) sMain sAlt sTabs 20 ((l.getD b Act.zero).m) ((l.getD b Act.zero).color) ((l.getD b Act.zero).text)) ⟨sMainq,sMain.length,sMaink⟩ ⟨sAltq,sAlt.length,sAltk⟩ ⟨none,0,0⟩ ⟨sTabsq,sTabs.length,sTabsk⟩) 79],[bx h (B6 ScrC.zero ⟨none,0,0⟩ ⟨none,0,0⟩ ⟨none,0,0⟩ ⟨none,0,0⟩) 45],[bx k (B6 s ⟨sMainq,sMain.length,sMaink⟩ ⟨sAltq,sAlt.length,sAltk⟩ ⟨none,0,0⟩ ⟨sTabsq,sTabs.length,sTabsk⟩) 45],[bx a1 (A2 (⟨20,2,(l.getD b Act.zero).m,(l.getD b Act.zero).color,(l.getD b Act.zero).text⟩:Act)) 56]] rfl opv) ?_))))))
          exact A1r (z1:=(b,x)) (b+1,Q0 ({x with last:=0,cursor:={x.cursor with wrap:=false}}) sMain sAlt sTabs 20 ((l.getD b Act.zero).m) ((l.getD b Act.zero).color) ((l.getD b Act.zero).text)) ⟨opx,hR,(by exact B2y a0 opx (by unfold mlS;(repeat' split)<;>first|(exfalso;omega)|rfl))⟩ olr sb_ B0.refl
         ·replace hR:=bf hR a6
          have aq:=of_decide_eq_false a6
          have b0:(l.getD b Act.zero)=(⟨20,3,(l.getD b Act.zero).m,(l.getD b Act.zero).color,(l.getD b Act.zero).text⟩:Act):=B6d (by have q:m6 (l.getD b Act.zero):=A8t a5 opx;unfold m6 at q;omega) (by have q:m6 (l.getD b Act.zero):=A8t a5 opx;unfold m6 at q;omega)
          refine B3t (v:=ag (A2 (⟨20,3,(l.getD b Act.zero).m,(l.getD b Act.zero).color,(l.getD b Act.zero).text⟩:Act))) 48 (congrArg (fun z=>some (ag (A2 z))) b0) ?_
          refine H9 2 0 [0] (fun a3=>[(13,pt a3 0)]) (fun a3=>[bx a3 (A2 (⟨20,3,(l.getD b Act.zero).m,(l.getD b Act.zero).color,(l.getD b Act.zero).text⟩:Act)) 56,(f,R7),bx d (B6 x ⟨sMainq,sMain.length,sMaink⟩ ⟨sAltq,sAlt.length,sAltk⟩ ⟨none,0,0⟩ ⟨sTabsq,sTabs.length,sTabsk⟩) 79,bx h (B6 ScrC.zero ⟨none,0,0⟩ ⟨none,0,0⟩ ⟨none,0,0⟩ ⟨none,0,0⟩) 45,bx k (B6 s ⟨sMainq,sMain.length,sMaink⟩ ⟨sAltq,sAlt.length,sAltk⟩ ⟨none,0,0⟩ ⟨sTabsq,sTabs.length,sTabsk⟩) 45]) (fun a3=>?_)
          refine ie (A5 (sR_ rfl (pl1 2 [0] 50 rfl (zv rfl (A2u (R:=false) (by decide +kernel)) (pp1 1 52 rfl (ie (G8 rfl (A1 5 rfl (pp1 4 56 rfl (it rfl (F2 (us:=[iv 0]) (cs':=B6 ({x with last:=0}) ⟨sMainq,sMain.length,sMaink⟩ ⟨sAltq,sAlt.length,sAltk⟩ ⟨none,0,0⟩ ⟨sTabsq,sTabs.length,sTabsk⟩) ty3 rfl rfl rfl 2 rfl rfl rfl rfl rfl rfl) fun _=>?_))))))))))
          refine A3 (nx (A5 (sR_ rfl (zrl 1 2 [0] [(57,ag (A2 (⟨20,3,(l.getD b Act.zero).m,(l.getD b Act.zero).color,(l.getD b Act.zero).text⟩:Act)))] (zv rfl (A1d (R:=false) odv) (pp1 1 59 rfl (ie (G8 rfl (A1 6 rfl (pp1 5 64 rfl (it rfl (F2 (us:=[bv false]) (cs':=B6 ({x with last:=0,cursor:={x.cursor with wrap:=false}}) ⟨sMainq,sMain.length,sMaink⟩ ⟨sAltq,sAlt.length,sAltk⟩ ⟨none,0,0⟩ ⟨sTabsq,sTabs.length,sTabsk⟩) ty4 rfl rfl rfl 2 rfl rfl rfl rfl rfl rfl) fun _=>?_)))))))))))
          refine A3 (nx (sR_ rfl (pl2 3 [0] 66 68 rfl (ix rfl (X3 (v:=.func (.func 52) #[] #[]) (j:=14) B7f rfl rfl rfl 1 rfl okl) (ip' 5 0 [(14,.func (.func 52) #[] #[]),(15,bv true)] (ie (sR_ rfl (pp1 1 72 rfl (ie (G8 rfl (A1 4 rfl (zrl 3 1 [0] [(73,.func (.func 52) #[] #[]),(74,pt d 0),(75,ag (A2 (⟨20,3,(l.getD b Act.zero).m,(l.getD b Act.zero).color,(l.getD b Act.zero).text⟩:Act)))] (it rfl (C8 (L2:=[bx a3 (A2 (⟨20,3,(l.getD b Act.zero).m,(l.getD b Act.zero).color,(l.getD b Act.zero).text⟩:Act)) 56,(f,R7),bx h (B6 ScrC.zero ⟨none,0,0⟩ ⟨none,0,0⟩ ⟨none,0,0⟩ ⟨none,0,0⟩) 45,bx k (B6 s ⟨sMainq,sMain.length,sMaink⟩ ⟨sAltq,sAlt.length,sAltk⟩ ⟨none,0,0⟩ ⟨sTabsq,sTabs.length,sTabsk⟩) 45]) (B4v (s:=({x with last:=0,cursor:={x.cursor with wrap:=false}})) (sMain:=sMain) (sAlt:=sAlt) (sTabs:=sTabs) (akind:=20) (am:=((l.getD b Act.zero).m)) (acolor:=((l.getD b Act.zero).color)) (atext:=((l.getD b Act.zero).text)) (sb:=d) (sMainq:=sMainq) (sMainrs:=sMainrs) (sMaink:=sMaink) (sAltq:=sAltq) (sAltrs:=sAltrs) (sAltk:=sAltk) (sTabsq:=sTabsq) (sTabsk:=sTabsk) rfl e om_ om_ g) rfl rfl rfl rfl rfl fo_ (G9 [[bx a3 (A2 (⟨20,3,(l.getD b Act.zero).m,(l.getD b Act.zero).color,(l.getD b Act.zero).text⟩:Act)) 56],[(f,R7)],[bx d (B6 ({x with last:=0,cursor:={x.cursor with wrap:=false}}) ⟨sMainq,sMain.length,sMaink⟩ ⟨sAltq,sAlt.length,sAltk⟩ ⟨none,0,0⟩ ⟨sTabsq,sTabs.length,sTabsk⟩) 79],[bx h (B6 ScrC.zero ⟨none,0,0⟩ ⟨none,0,0⟩ ⟨none,0,0⟩ ⟨none,0,0⟩) 45],[bx k (B6 s ⟨sMainq,sMain.length,sMaink⟩ ⟨sAltq,sAlt.length,sAltk⟩ ⟨none,0,0⟩ ⟨sTabsq,sTabs.length,sTabsk⟩) 45]] [2,0,1,3,4] 5 rfl ozw rfl [[bx d (B6 ({x with last:=0,cursor:={x.cursor with wrap:=false}}) ⟨sMainq,sMain.length,sMaink⟩ ⟨sAltq,sAlt.length,sAltk⟩ ⟨none,0,0⟩ ⟨sTabsq,sTabs.length,sTabsk⟩) 79],[bx a3 (A2 (⟨20,3,(l.getD b Act.zero).m,(l.getD b Act.zero).color,(l.getD b Act.zero).text⟩:Act)) 56],[(f,R7)],[bx h (B6 ScrC.zero ⟨none,0,0⟩ ⟨none,0,0⟩ ⟨none,0,0⟩ ⟨none,0,0⟩) 45],[bx k (B6 s ⟨sMainq,sMain.length,sMaink⟩ ⟨sAltq,sAlt.length,sAltk⟩ ⟨none,0,0⟩ ⟨sTabsq,sTabs.length,sTabsk⟩) 45]] rfl opv) (fun _=>[bx d (B6 (Q3 ({x with last:=0,cursor:={x.cursor with wrap:=false}}) sMain sAlt sTabs 20 ((l.getD b Act.zero).m) ((l.getD b Act.zero).color) ((l.getD b Act.zero).text)) ⟨sMainq,sMain.length,sMaink⟩ ⟨sAltq,sAlt.length,sAltk⟩ ⟨none,0,0⟩ ⟨sTabsq,sTabs.length,sTabsk⟩) 79,bx a3 (A2 (⟨20,3,(l.getD b Act.zero).m,(l.getD b Act.zero).color,(l.getD b Act.zero).text⟩:Act)) 56,(f,R7),bx h (B6 ScrC.zero ⟨none,0,0⟩ ⟨none,0,0⟩ ⟨none,0,0⟩ ⟨none,0,0⟩) 45,bx k (B6 s ⟨sMainq,sMain.length,sMaink⟩ ⟨sAltq,sAlt.length,sAltk⟩ ⟨none,0,0⟩ ⟨sTabsq,sTabs.length,sTabsk⟩) 45]) (fun _=>rfl)) fun _=>?_)))))))))))))
          refine A3 (nx (A1 2 rfl (ix rfl (C0 rfl rfl rfl rfl opx) (pp1 1 45 rfl (A3 (P9 (G9 [[bx d (B6 (Q3 ({x with last:=0,cursor:={x.cursor with wrap:=false}}) sMain sAlt sTabs 20 ((l.getD b Act.zero).m) ((l.getD b Act.zero).color) ((l.getD b Act.zero).text)) ⟨sMainq,sMain.length,sMaink⟩ ⟨sAltq,sAlt.length,sAltk⟩ ⟨none,0,0⟩ ⟨sTabsq,sTabs.length,sTabsk⟩) 79],[bx a3 (A2 (⟨20,3,(l.getD b Act.zero).m,(l.getD b Act.zero).color,(l.getD b Act.zero).text⟩:Act)) 56],[(f,R7)],[bx h (B6 ScrC.zero ⟨none,0,0⟩ ⟨none,0,0⟩ ⟨none,0,0⟩ ⟨none,0,0⟩) 45],[bx k (B6 s ⟨sMainq,sMain.length,sMaink⟩ ⟨sAltq,sAlt.length,sAltk⟩ ⟨none,0,0⟩ ⟨sTabsq,sTabs.length,sTabsk⟩) 45]] [2,0,3,4,1] 5 rfl ozw rfl [[(f,R7)],[bx d (B6 (Q3 ({x with last:=0,cursor:={x.cursor with wrap:=false}}) sMain sAlt sTabs 20 ((l.getD b Act.zero).m) ((l.getD b Act.zero).color) ((l.getD b Act.zero).text)) ⟨sMainq,sMain.length,sMaink⟩ ⟨sAltq,sAlt.length,sAltk⟩ ⟨none,0,0⟩ ⟨sTabsq,sTabs.length,sTabsk⟩) 79],[bx h (B6 ScrC.zero ⟨none,0,0⟩ ⟨none,0,0⟩ ⟨none,0,0⟩ ⟨none,0,0⟩) 45],[bx k (B6 s ⟨sMainq,sMain.length,sMaink⟩ ⟨sAltq,sAlt.length,sAltk⟩ ⟨none,0,0⟩ ⟨sTabsq,sTabs.length,sTabsk⟩) 45],[bx a3 (A2 (⟨20,3,(l.getD b Act.zero).m,(l.getD b Act.zero).color,(l.getD b Act.zero).text⟩:Act)) 56]] rfl opv) ?_))))))
          exact A1r (z1:=(b,x)) (b+1,Q3 ({x with last:=0,cursor:={x.cursor with wrap:=false}}) sMain sAlt sTabs 20 ((l.getD b Act.zero).m) ((l.getD b Act.zero).color) ((l.getD b Act.zero).text)) ⟨opx,hR,(by exact B2y a0 opx (by unfold mlS;(repeat' split)<;>first|(exfalso;omega)|rfl))⟩ olr sb_ B0.refl
 have al:=bq_ ao
 rw [A1i al] at hR;replace hR:=(J8.eq_1 ..).symm.trans hR
 refine H3 (nx (sR_ rfl (pp1 3 80 rfl ?_)))
 refine ix rfl (F7 (us:=B6 x ⟨sMainq,sMain.length,sMaink⟩ ⟨sAltq,sAlt.length,sAltk⟩ ⟨none,0,0⟩ ⟨sTabsq,sTabs.length,sTabsk⟩) D0r rfl rfl 1 rfl rfl rfl) (it rfl (F2 (us:=B6 x ⟨sMainq,sMain.length,sMaink⟩ ⟨sAltq,sAlt.length,sAltk⟩ ⟨none,0,0⟩ ⟨sTabsq,sTabs.length,sTabsk⟩) (cs':=B6 x ⟨sMainq,sMain.length,sMaink⟩ ⟨sAltq,sAlt.length,sAltk⟩ ⟨none,0,0⟩ ⟨sTabsq,sTabs.length,sTabsk⟩) D0r rfl rfl rfl 2 rfl rfl rfl rfl rfl rfl) fun _=>?_)
 refine pp1 1 5 rfl ?_
 subst hR
 refine ie (A8 ?_)
 exact zer hr hD (U6 rfl (B0h (us:=B6 x ⟨sMainq,sMain.length,sMaink⟩ ⟨sAltq,sAlt.length,sAltk⟩ ⟨none,0,0⟩ ⟨sTabsq,sTabs.length,sTabsk⟩) D0r rfl 2 rfl rfl) (B9 rfl)) (⟨(sMainq,sMainrs,sMaink),⟨e,ocu,ocu⟩⟩,⟨(sAltq,sAltrs,sAltk),⟨g,ocu,ocu⟩⟩,(zq sTabsq sTabsk)) sb_ fo_
def A1g (s:ScrC) (sMain:List (Rwc Cel)) (sAlt:List (Rwc Cel)) (sTabs:List Bool):Pln :=
 (⟨s.cols,s.rows,s.top,s.bottom,s.shape,s.last,s.onAlt,s.cursor,s.style,s.sets,s.modes,s.kept,s.keptAlt,s.title⟩:Pln)
theorem B2e {s:ScrC} {sMain sAlt:List (Rwc Cel)} {sTabs:List Bool} {sMainq:Option Addr} {sMainrs:List Rwq} {sMaink:Nat} {sAltq:Option Addr} {sAltrs:List Rwq} {sAltk:Nat} {sTabsq:Option Addr} {sTabsk:Nat} {R:Pln} (hR:A1g s sMain sAlt sTabs=R) (a:F8 sMainrs sMain:=by exact om_) (c:sMain.length≤9223372036854775807:=by exact om_) (h:sMain.length≤sMaink:=by exact om_) (b:F8 sAltrs sAlt:=by exact om_) (i:sAlt.length≤9223372036854775807:=by exact om_) (j:sAlt.length≤sAltk:=by exact om_) (f:sTabs.length≤9223372036854775807:=by exact om_) (g:sTabs.length≤sTabsk:=by exact om_):G3 Tryz.prog 22 [ag (B6 s ⟨sMainq,sMain.length,sMaink⟩ ⟨sAltq,sAlt.length,sAltk⟩ ⟨none,0,0⟩ ⟨sTabsq,sTabs.length,sTabsk⟩)] [sl K1 sMainq sMainrs,G5 G4 sMainrs sMain,sl K1 sAltq sAltrs,G5 G4 sAltrs sAlt,sl N8 sTabsq sTabs] (ag (C6x R)):=by
 refine zce Tryz.func22 fun X hX hr hD=>?_
 replace hR:=(A1g.eq_1 ..).symm.trans hR
 have:=a.1
 have:=b.1
 refine sR_ rfl (A8j 2 0 [] (fun d e=>[(1,pt d 0),(2,pt e 0)]) (fun d e=>[bx e (C6x Pln.zero) 88,bx d (B6 s ⟨sMainq,sMain.length,sMaink⟩ ⟨sAltq,sAlt.length,sAltk⟩ ⟨none,0,0⟩ ⟨sTabsq,sTabs.length,sTabsk⟩) 45]) (fun d e=>(ie (sR_ rfl (zrg 30 0 [1,1,1,1,1,1,1,1,1,1,1,1,1,1,0] [] [bx e (C6x (⟨s.cols,s.rows,s.top,s.bottom,s.shape,s.last,s.onAlt,s.cursor,s.style,s.sets,s.modes,s.kept,s.keptAlt,s.title⟩:Pln)) 88,bx d (B6 s ⟨sMainq,sMain.length,sMaink⟩ ⟨sAltq,sAlt.length,sAltk⟩ ⟨none,0,0⟩ ⟨sTabsq,sTabs.length,sTabsk⟩) 45] ?_)))))
 subst hR
 refine ie (A8 ?_)
 exact zer hr hD (O3 rfl (B0h (us:=C6x (⟨s.cols,s.rows,s.top,s.bottom,s.shape,s.last,s.onAlt,s.cursor,s.style,s.sets,s.modes,s.kept,s.keptAlt,s.title⟩:Pln)) E4n rfl 0 rfl rfl)) () sb_ fn0
def M4:Bool :=
 true
theorem Z1 {R:Bool} (hR:M4=R):G3 Tryz.prog 79 [.slice none 0 0,.slice none 0 0,.func (.func 80) #[] #[]] [] (bv R):=by
 refine zce Tryz.func79 fun X hX hr hD=>?_
 replace hR:=(M4.eq_1 ..).symm.trans hR
 refine sR_ rfl (pp0 1 rfl (ie (A5 (sR_ rfl (pp1 5 14 rfl (ie (A0f rfl (A6 (nx (A5 (sR_ rfl (pp3 3 15 16 17 rfl (ie (B4 (A0s 2 ?_)))))))))))))))
 refine F3 (sR_ rfl (pp1 1 18 rfl ?_))
 refine ie (A5 (A0f rfl (H3 (nx (sR_ rfl (pp1 1 6 rfl ?_))))))
 subst hR
 refine ie (A8 ?_)
 exact E9 hr hD
def A9m:Bool :=
 M4
theorem C9i {R:Bool} (hR:A9m=R):G3 Tryz.prog 24 [.slice none 0 0,.slice none 0 0] [] (bv R):=by
 refine zce Tryz.func24 fun X hX hr hD=>?_
 replace hR:=(A9m.eq_1 ..).symm.trans hR
 refine sR_ rfl (pp0 1 rfl (ie (sR_ rfl (pp2 2 5 6 rfl (zv rfl (Z1 rfl) (pp1 1 4 rfl ?_))))))
 subst hR
 refine ie (A8 ?_)
 exact E9 hr hD
def A3r (a:ScrC) (f:List (Rwc Cel)) (h:List (Rwc Cel)) (c:List Bool) (b:ScrC) (e:List (Rwc Cel)) (g:List (Rwc Cel)) (d:List Bool):Bool :=
 (((((decide ((A1g a f h c)=(A1g b e g d)))&&(B1w c d))&&(A5b f e))&&(A5b h g))&&A9m)
theorem C5a {a:ScrC} {aMain aAlt:List (Rwc Cel)} {f:List Bool} {b:ScrC} {bMain bAlt:List (Rwc Cel)} {h:List Bool} {j:Option Addr} {m:List Rwq} {aMaink:Nat} {r:Option Addr} {o:List Rwq} {aAltk:Nat} {l:Option Addr} {aTabsk:Nat} {k:Option Addr} {n:List Rwq} {bMaink:Nat} {q:Option Addr} {p:List Rwq} {bAltk:Nat} {i:Option Addr} {bTabsk:Nat} {R:Bool} (hR:A3r a aMain aAlt f b bMain bAlt h=R) (c:F8 m aMain:=by exact om_) (v:aMain.length≤9223372036854775807:=by exact om_) (x:aMain.length≤aMaink:=by exact om_) (g:F8 o aAlt:=by exact om_) (a1:aAlt.length≤9223372036854775807:=by exact om_) (a4:aAlt.length≤aAltk:=by exact om_) (s:f.length≤9223372036854775807:=by exact om_) (w:f.length≤aTabsk:=by exact om_) (d:F8 n bMain:=by exact om_) (z:bMain.length≤9223372036854775807:=by exact om_) (y:bMain.length≤bMaink:=by exact om_) (e:F8 p bAlt:=by exact om_) (a5:bAlt.length≤9223372036854775807:=by exact om_) (a3:bAlt.length≤bAltk:=by exact om_) (t:h.length≤9223372036854775807:=by exact om_) (u:h.length≤bTabsk:=by exact om_):G3 Tryz.prog 8 [ag (B6 a ⟨j,aMain.length,aMaink⟩ ⟨r,aAlt.length,aAltk⟩ ⟨none,0,0⟩ ⟨l,f.length,aTabsk⟩),ag (B6 b ⟨k,bMain.length,bMaink⟩ ⟨q,bAlt.length,bAltk⟩ ⟨none,0,0⟩ ⟨i,h.length,bTabsk⟩)] [sl K1 j m,G5 G4 m aMain,sl K1 r o,G5 G4 o aAlt,sl N8 l f,sl K1 k n,G5 G4 n bMain,sl K1 q p,G5 G4 p bAlt,sl N8 i h] (bv R):=by
 refine zce Tryz.func8 fun X hX hr hD=>?_
 replace hR:=(A3r.eq_1 ..).symm.trans hR
 have:=c.1
 have:=g.1
 have:=d.1
 have:=e.1
 refine sR_ rfl (A8j 3 0 [] (fun b1 b2=>[(2,pt b1 0),(3,pt b2 0)]) (fun b1 b2=>[bx b2 (B6 b ⟨k,bMain.length,bMaink⟩ ⟨q,bAlt.length,bAltk⟩ ⟨none,0,0⟩ ⟨i,h.length,bTabsk⟩) 45,bx b1 (B6 a ⟨j,aMain.length,aMaink⟩ ⟨r,aAlt.length,aAltk⟩ ⟨none,0,0⟩ ⟨l,f.length,aTabsk⟩) 45]) (fun b1 b2=>(ie (sd 34 rfl okl rfl ?_))))
 refine zdg 1 33 [1] [(5,ag (B6 a ⟨j,aMain.length,aMaink⟩ ⟨r,aAlt.length,aAltk⟩ ⟨none,0,0⟩ ⟨l,f.length,aTabsk⟩))] ?_
 refine zvd rfl (B2e rfl c om_ om_ g) ?_
 refine zdg 1 31 [0] [(7,ag (B6 b ⟨k,bMain.length,bMaink⟩ ⟨q,bAlt.length,bAltk⟩ ⟨none,0,0⟩ ⟨i,h.length,bTabsk⟩))] ?_
 refine zvd rfl (B2e rfl d om_ om_ e) (dd rfl (C8v (a:=(A1g a aMain aAlt f)) (b:=(A1g b bMain bAlt h)) E3t rfl rfl rfl) (pd1 1 10 rfl ?_))
 refine zdd 6 22 10 16 (B1w f h) (fun g3 ad=>?_) ?_
 ·refine pg2 4 [1,0] 12 14 rfl (zvd rfl (D0q rfl) (pd1 1 16 rfl ?_))
  exact zad 5 10 16 g3
 refine pd1 1 17 rfl ?_
 refine zda 6 15 17 23 (A5b aMain bMain) (fun g4=>?_) ?_
 ·have ac:=bq_ g4
  refine pg2 4 [1,0] 19 21 rfl (zvd rfl (C1p rfl c om_ om_ d) (pd1 1 23 rfl ?_))
  exact zad 5 17 23 g4
 refine pd1 1 24 rfl ?_
 refine zda 6 8 24 30 (A5b aAlt bAlt) (fun g5=>?_) ?_
 ·have ab:=bq_ g5
  refine pg2 4 [1,0] 26 28 rfl (zvd rfl (C1p rfl g om_ om_ e) (pd1 1 30 rfl ?_))
  exact zad 5 24 30 g5
 refine pd1 1 31 rfl ?_
 refine zda 6 1 31 37 A9m (fun g6=>?_) ?_
 ·have a9:=bq_ g6
  refine pg2 4 [1,0] 33 35 rfl (zvd rfl (C9i rfl) (pd1 1 37 rfl ?_))
  exact zad 5 31 37 g6
 refine pd1 1 4 rfl ?_
 subst hR
 refine de (A8 ?_)
 exact E9 hr hD
end Go.Proofs.YtioaekgoceinkaaGreatDoor
