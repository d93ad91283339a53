import Derived.Test.YthcjfkljekdioaaGreatDoorProg
import Derived.Test.YthcjfkljekdioaaGreatDoorMA2
import Derived.Test.YthcjfkljekdioaaGreatDoorMB1
import Derived.Test.YthcjfkljekdioaaGreatDoorMB2
import Derived.Test.YthcjfkljekdioaaGreatDoorMB3
import Derived.Test.YthcjfkljekdioaaGreatDoorMB7
set_option linter.unusedVariables false
set_option linter.unusedSimpArgs false
set_option linter.unnecessarySimpa false
set_option maxRecDepth 100000
namespace Go.Proofs.YthcjfkljekdioaaGreatDoor
open Go Go.Fen
def B6 (c:Int):Cel :=
 {Cel.zero with base:=c}
theorem B2j (c:Int) (R:Cel) (hR:B6 c=R):I6 Tryz.prog 31 [iv c] [] (ag (B2 R)):=by
 refine zco Tryz.func31 [(0,iv c)] fun X hX hr hD=>?_
 replace hR:=(B6.eq_1 ..).symm.trans hR
 refine sr 1 rfl (I7 1 0 [] (fun b1=>[(2,pt b1 0)]) (fun b1=>[bx b1 (B2 Cel.zero) 72]) (fun b1=>?_))
 refine ie (sr 3 rfl (zrg 3 0 [0] [] [bx b1 (B2 ({Cel.zero with base:=c})) 72] ?_))
 subst hR
 refine ie (A7 ?_)
 exact zer hr hD (P3 rfl (I1 (us:=B2 ({Cel.zero with base:=c})) B8o rfl 0 rfl rfl rfl)) () (mk [false] rfl) fn0
def B3r (s:ScrC) (sMain:List (Rwc Cel)) (sAlt:List (Rwc Cel)) (sTabs:List Bool):FrmC×List (List Cel)×Int :=
 (bif (!decide ((K7 s sMain sAlt sTabs)=0)) then (FrmC.zero,([]:List (List Cel)),(K7 s sMain sAlt sTabs)) else (F1 (A3m s sMain sAlt sTabs) fun (y7:FrmC×List (List Cel))=>(y7.1,y7.2,0)))
theorem C2x (s:ScrC) (sMain:List (Rwc Cel)) (sAlt:List (Rwc Cel)) (sTabs:List Bool) (sMainq:Option Addr) (sMainrs:List Rwq) (sMaink:Nat) (sAltq:Option Addr) (sAltrs:List Rwq) (sAltk:Nat) (sTabsq:Option Addr) (sTabsk:Nat) (hrowssMainrs:D0 sMainrs sMain) (hlsMain:sMain.length≤9223372036854775807) (hcsMain:sMain.length≤sMaink) (hrowssAltrs:D0 sAltrs sAlt) (hlsAlt:sAlt.length≤9223372036854775807) (hcsAlt:sAlt.length≤sAltk) (hlsTabs:sTabs.length≤9223372036854775807) (hcsTabs:sTabs.length≤sTabsk) (hTs:s.title.length≤100000000) (R:FrmC×List (List Cel)×Int) (hR:B3r s sMain sAlt sTabs=R):Con Tryz.prog 19 [ag (A6 s ⟨sMainq,sMain.length,sMaink⟩ ⟨sAltq,sAlt.length,sAltk⟩ ⟨none,0,0⟩ ⟨sTabsq,sTabs.length,sTabsk⟩)] [] [sl B7 sMainq sMainrs,B8 B2 sMainrs sMain,sl B7 sAltq sAltrs,B8 B2 sAltrs sAlt,sl F4 sTabsq sTabs,A0z,A1a] ({t:VR×List Slc // VOk 1 R.2.1.length t.1∧C7 t.2 R.2.1}) (fun x=>.tuple #[ag (A0 R.1 ⟨va x.1.1.q,R.2.1.length,x.1.1.k⟩),iv R.2.2]) (fun x=>((vo C4 69 x.1.1 x.1.2)++([]))) (fun x=>[G5 B2 x.1.2 R.2.1]):=by
 refine zco Tryz.func19 [(0,ag (A6 s ⟨sMainq,sMain.length,sMaink⟩ ⟨sAltq,sAlt.length,sAltk⟩ ⟨none,0,0⟩ ⟨sTabsq,sTabs.length,sTabsk⟩))] fun X hX hr hD=>?_
 replace hR:=(B3r.eq_1 ..).symm.trans hR
 have:=hrowssMainrs.1
 have:=hrowssAltrs.1
 refine sr 3 rfl (A8y 3 0 [] (fun b1 b2=>[(1,pt b1 0),(2,pt b2 0)]) (fun b1 b2=>[bx b2 (A0 FrmC.zero ⟨none,0,0⟩) 26,bx b1 (A6 s ⟨sMainq,sMain.length,sMaink⟩ ⟨sAltq,sAlt.length,sAltk⟩ ⟨none,0,0⟩ ⟨sTabsq,sTabs.length,sTabsk⟩) 52]) (fun b1 b2=>?_))
 refine ie (A3 (sr 3 rfl (zrl 1 2 [1] [(5,ag (A6 s ⟨sMainq,sMain.length,sMaink⟩ ⟨sAltq,sAlt.length,sAltk⟩ ⟨none,0,0⟩ ⟨sTabsq,sTabs.length,sTabsk⟩))] ?_)))
 refine zca (A8w s sMain sAlt sTabs sMainq sMainrs sMaink sAltq sAltrs sAltk sTabsq sTabsk hrowssMainrs (by first|omega|(simp only [List.length_take,List.length_drop,List.length_append,List.length_cons,List.length_nil,List.length_set,List.length_map];omega)|decide) (by first|omega|(simp only [List.length_take,List.length_drop,List.length_append,List.length_cons,List.length_nil,List.length_set,List.length_map];omega)|decide) hrowssAltrs (by first|omega|(simp only [List.length_take,List.length_drop,List.length_append,List.length_cons,List.length_nil,List.length_set,List.length_map];omega)|decide) (by first|omega|(simp only [List.length_take,List.length_drop,List.length_append,List.length_cons,List.length_nil,List.length_set,List.length_map];omega)|decide) (by first|omega|(simp only [List.length_take,List.length_drop,List.length_append,List.length_cons,List.length_nil,List.length_set,List.length_map];omega)|decide) (by first|omega|(simp only [List.length_take,List.length_drop,List.length_append,List.length_cons,List.length_nil,List.length_set,List.length_map];omega)|decide) (by first|omega|(simp only [List.length_nil];omega)|(dsimp only;omega)) _ rfl) A2.refl ?_
 refine ip' 1 0 [(4,iv (K7 s sMain sAlt sTabs))] ?_
 refine ie (sr 2 rfl (ip' 2 0 [(8,bv (!decide ((K7 s sMain sAlt sTabs)=0)))] ?_))
 refine ie ?_
 refine zjn rfl hR ?_ ?_<;>clear hR<;>intro hR h3 h3p
 ·refine sr 4 rfl (zrg 4 0 [0] [(3,iv (K7 s sMain sAlt sTabs))] [bx b2 (A0 FrmC.zero ⟨none,0,0⟩) 26,bx b1 (A6 s ⟨sMainq,sMain.length,sMaink⟩ ⟨sAltq,sAlt.length,sAltk⟩ ⟨none,0,0⟩ ⟨sTabsq,sTabs.length,sTabsk⟩) 52] ?_)
  subst hR
  refine ie (A7 ?_)
  exact zer hr hD (V5 rfl (I1 (us:=A0 FrmC.zero ⟨none,0,0⟩) A7f rfl 0 rfl rfl rfl) (B1 rfl)) ⟨(VR.nil,([]:List Slc)),⟨VOk.nil,C7.none⟩⟩ (mc [[bx b2 (A0 FrmC.zero ⟨none,0,0⟩) 26],[bx b1 (A6 s ⟨sMainq,sMain.length,sMaink⟩ ⟨sAltq,sAlt.length,sAltk⟩ ⟨none,0,0⟩ ⟨sTabsq,sTabs.length,sTabsk⟩) 52],vo C4 69 VR.nil ([]:List Slc)] [false,false,true] rfl (by first|rfl|(simp only [List.length_set]<;>rfl))) (A2.con1 P0 fn0)
 have hsc:sMain.length≤100∧sAlt.length≤100:=by first|exact A4y (p:=sPast) (by first|exact h3p|simpa using h3)|exact A7p (by first|exact h3p|simpa using h3)
 refine A4 (nx (sr 4 rfl (zrl 1 3 [1] [(11,ag (A6 s ⟨sMainq,sMain.length,sMaink⟩ ⟨sAltq,sAlt.length,sAltk⟩ ⟨none,0,0⟩ ⟨sTabsq,sTabs.length,sTabsk⟩))] ?_)))
 have hQ:=G6 hR;clear hR;obtain ⟨y7,hy7,hR⟩:=hQ
 refine it rfl (I5 (L2:=[bx b2 (A0 FrmC.zero ⟨none,0,0⟩) 26,bx b1 (A6 s ⟨sMainq,sMain.length,sMaink⟩ ⟨sAltq,sAlt.length,sAltk⟩ ⟨none,0,0⟩ ⟨sTabsq,sTabs.length,sTabsk⟩) 52]) (B3k s sMain sAlt sTabs sMainq sMainrs sMaink sAltq sAltrs sAltk sTabsq sTabsk hrowssMainrs (by first|omega|(simp only [List.length_take,List.length_drop,List.length_append,List.length_cons,List.length_nil,List.length_set,List.length_map];omega)|decide) (by first|omega|(simp only [List.length_take,List.length_drop,List.length_append,List.length_cons,List.length_nil,List.length_set,List.length_map];omega)|decide) hrowssAltrs (by first|omega|(simp only [List.length_take,List.length_drop,List.length_append,List.length_cons,List.length_nil,List.length_set,List.length_map];omega)|decide) (by first|omega|(simp only [List.length_take,List.length_drop,List.length_append,List.length_cons,List.length_nil,List.length_set,List.length_map];omega)|decide) (by first|omega|(simp only [List.length_take,List.length_drop,List.length_append,List.length_cons,List.length_nil,List.length_set,List.length_map];omega)|decide) (by first|omega|(simp only [List.length_take,List.length_drop,List.length_append,List.length_cons,List.length_nil,List.length_set,List.length_map];omega)|decide) (by first|omega|(simp only [List.length_nil];omega)) (by first|omega|(simp only [List.length_nil];omega)) y7 hy7) rfl rfl rfl rfl rfl (A2.pick [0,1,2,3,4] rfl) (List.Perm.refl _) (fun ⟨⟨r4,rs5⟩,hp8⟩=>(bx b2 (A0 FrmC.zero ⟨none,0,0⟩) 26::bx b1 (A6 s ⟨sMainq,sMain.length,sMaink⟩ ⟨sAltq,sAlt.length,sAltk⟩ ⟨none,0,0⟩ ⟨sTabsq,sTabs.length,sTabsk⟩) 52::(vo C4 69 r4 rs5)++([]))) (fun ⟨⟨r4,rs5⟩,hp8⟩=>H3 [vo C4 69 r4 rs5,[bx b2 (A0 FrmC.zero ⟨none,0,0⟩) 26],[bx b1 (A6 s ⟨sMainq,sMain.length,sMaink⟩ ⟨sAltq,sAlt.length,sAltk⟩ ⟨none,0,0⟩ ⟨sTabsq,sTabs.length,sTabsk⟩) 52]] [1,2,0] 3 rfl (by decide) (by first|rfl|simp only [List.flatten_cons,List.flatten_nil,List.append_nil,List.cons_append,List.nil_append,List.append_assoc]) [[bx b2 (A0 FrmC.zero ⟨none,0,0⟩) 26],[bx b1 (A6 s ⟨sMainq,sMain.length,sMaink⟩ ⟨sAltq,sAlt.length,sAltk⟩ ⟨none,0,0⟩ ⟨sTabsq,sTabs.length,sTabsk⟩) 52],vo C4 69 r4 rs5] rfl (by first|rfl|simp only [List.flatten_cons,List.flatten_nil,List.append_nil,List.cons_append,List.nil_append,List.append_assoc]))) fun ⟨⟨r4,rs5⟩,hp8⟩=>?_
 try dsimp only at hp8
 obtain ⟨hk6,hw7⟩:=hp8
 have:=VOk.le hk6
 have:=VOk.cap hk6
 have:=hw7.1
 refine zrg 2 0 [0] [(3,iv 0)] (bx b2 (A0 y7.1 ⟨va r4.q,y7.2.length,r4.k⟩) 26::bx b1 (A6 s ⟨sMainq,sMain.length,sMaink⟩ ⟨sAltq,sAlt.length,sAltk⟩ ⟨none,0,0⟩ ⟨sTabsq,sTabs.length,sTabsk⟩) 52::(vo C4 69 r4 rs5)++([])) ?_
 subst hR
 refine ie (A7 ?_)
 exact zer hr hD (V5 rfl (I1 (us:=A0 y7.1 ⟨va r4.q,y7.2.length,r4.k⟩) A7f rfl 0 rfl rfl rfl) (B1 rfl)) ⟨(r4,rs5),⟨hk6,hw7⟩⟩ (mc [[bx b2 (A0 y7.1 ⟨va r4.q,y7.2.length,r4.k⟩) 26],[bx b1 (A6 s ⟨sMainq,sMain.length,sMaink⟩ ⟨sAltq,sAlt.length,sAltk⟩ ⟨none,0,0⟩ ⟨sTabsq,sTabs.length,sTabsk⟩) 52],vo C4 69 r4 rs5] [false,false,true] rfl (by first|rfl|(simp only [List.length_set]<;>rfl))) (A2.con1 (B5 0 rfl) fn0)
def A4n:Bool :=
 (F1 (A2f 4 2) fun (y0:FrmC×List (List Cel)×Int)=>(bif ((((!decide (y0.2.2=0))||(!decide ((y0.2.1.length:Int)=2)))||(!decide (((y0.2.1.getD 0 []).length:Int)=4)))||(!y0.1.visible)) then false else (F1 (A2f 2 1) fun (y4:FrmC×List (List Cel)×Int)=>(F1 (A7v y0.1 y0.2.1 y4.1 ([([(B6 120),(B6 121)]:List Cel)]:List (List Cel)) (⟨0,2⟩:Plc)) fun (y1:FrmC×List (List Cel)×Int)=>(F1 (A3p y1.1 y1.2.1 0 2 1 2) fun (y2:FrmC×List (List Cel)×Int)=>(F1 (A4k y1.1 y1.2.1) fun (y3:ScrC×List (Rwc Cel)×List (Rwc Cel)×List Bool×Int)=>(F1 (B3r y3.1 y3.2.1 y3.2.2.1 y3.2.2.2.1) fun (y5:FrmC×List (List Cel)×Int)=>(F1 (A3p y1.1 y1.2.1 0 0 1 1) fun (y6:FrmC×List (List Cel)×Int)=>(((((((((decide (y1.2.2=0))&&(decide (((y1.2.1.getD 0 []).getD 3 Cel.zero).base=121)))&&(decide (y2.2.2=0)))&&(decide (((y2.2.1.getD 0 []).getD 0 Cel.zero).base=120)))&&(decide (y3.2.2.2.2=0)))&&y3.1.onAlt)&&(decide (y5.2.2=0)))&&(W4 y5.1 y5.2.1 y1.1 y1.2.1))&&(decide (y6.2.2=2)))))))))))
theorem B7w (R:Bool) (hR:A4n=R):I6 Tryz.prog 12 [] [A0z,A1a] (bv R):=by
 refine zco Tryz.func12 [] fun X hX hr hD=>?_
 replace hR:=(A4n.eq_1 ..).symm.trans hR
 refine sr 1 rfl (ip' 1 0 [] ?_)
 refine ie (sr 7 rfl ?_)
 have hQ:=G6 hR;clear hR;obtain ⟨y0,hy0,hR⟩:=hQ
 refine it rfl (H2 (L2:=[]) (B1d 4 2 y0 hy0) rfl rfl rfl rfl rfl fn0 (List.Perm.refl _) (fun ⟨⟨r1,rs2⟩,hp5⟩=>((vo C4 69 r1 rs2)++([]))) (fun _=>by first|rfl|simp only [List.append_nil,List.cons_append,List.nil_append,List.append_assoc])) fun ⟨⟨r1,rs2⟩,hp5⟩=>?_
 try dsimp only at hp5
 obtain ⟨hk3,hw4⟩:=hp5
 have:=VOk.le hk3
 have:=VOk.cap hk3
 have:=hw4.1
 have ht_rframeBlank:=A6m 4 2;rw [hy0] at ht_rframeBlank
 refine S1 [] [] (T:=69) (c:=C4) (r:=r1) (xs:=rs2) (VOk.cast hk3 (by rw [hw4.1])) (by first|rfl|simp only [List.cons_append,List.append_assoc,List.nil_append,List.append_nil]) ?_
 refine I7 6 0 [0] (fun b6=>[(1,pt b6 0),(2,iv y0.2.2)]) (fun b6=>[bx b6 (A0 y0.1 ⟨va r1.q,y0.2.1.length,r1.k⟩) 26]) (fun b6=>?_)
 refine ie (A3 (sr 21 rfl (ip' 3 18 [(20,bv (!decide (y0.2.2=0)))] ?_)))
 refine zio 5 13 20 25 (!decide ((y0.2.1.length:Int)=2)) (fun g7=>?_) ?_
 ·have g7p:¬ (¬ y0.2.2=0):=by simpa using g7
  refine zrl 5 0 [0] [(25,bv (!decide ((y0.2.1.length:Int)=2)))] ?_
  exact zai 2 20 25 g7
 refine ip' 1 12 [(26,bv ((!decide (y0.2.2=0))||(!decide ((y0.2.1.length:Int)=2))))] ?_
 refine zio 7 5 26 33 (!decide (((y0.2.1.getD 0 []).length:Int)=4)) (fun g8=>?_) ?_
 ·have g8p:¬ ((¬ y0.2.2=0)∨(¬ (y0.2.1.length:Int)=2)):=by simpa using g8
  refine zrl 2 5 [0] [(28,.slice (va r1.q) y0.2.1.length r1.k)] ?_
  refine J3 0 rfl (by have:=hw4.1;omega) fun a9 hq10=>?_
  refine H6 (P9 (k:=0) (d:=(⟨none,0,0⟩:Slc)) hw4 1 rfl (by have:=hw4.1;omega)) ?_
  have:=P8 hw4 (k:=0) (d:=(⟨none,0,0⟩:Slc)) (by have:=hw4.1;omega)
  refine ix rfl (E8 A0k rfl rfl hq10 rfl 0 rfl (by omega)) ?_
  refine ix rfl (F9 (C8 (v:=.slice ((rs2.getD 0 (⟨none,0,0⟩:Slc)).q) ((rs2.getD 0 (⟨none,0,0⟩:Slc)).n) ((rs2.getD 0 (⟨none,0,0⟩:Slc)).k)) (us:=[.slice ((rs2.getD 0 (⟨none,0,0⟩:Slc)).q) ((rs2.getD 0 (⟨none,0,0⟩:Slc)).n) ((rs2.getD 0 (⟨none,0,0⟩:Slc)).k)]) A3e rfl rfl (G0 (c:=C4) (sz:=1) hq10 (fun _=>rfl) 1 rfl (gd (⟨none,0,0⟩:Slc) (by have:=hw4.1;omega))) rfl) (Q7 hw4 (by have:=hw4.1;omega))) ?_
  refine ip' 3 0 [(33,bv (!decide (((y0.2.1.getD 0 []).length:Int)=4)))] ?_
  exact A1 (H1 5 26 33 g8 (A2.pick [1,2,3,4] rfl) (mk [true] rfl) rfl rfl rfl rfl rfl)
 refine ip' 1 4 [(34,bv (((!decide (y0.2.2=0))||(!decide ((y0.2.1.length:Int)=2)))||(!decide (((y0.2.1.getD 0 []).length:Int)=4))))] ?_
 refine zio 4 0 34 38 (!y0.1.visible) (fun g11=>?_) ?_
 ·have g11p:¬ (((¬ y0.2.2=0)∨(¬ (y0.2.1.length:Int)=2))∨(¬ ((y0.2.1.getD 0 []).length:Int)=4)):=by simpa using g11
  refine zrl 4 0 [0] [(38,bv (!y0.1.visible))] ?_
  exact zai 2 34 38 g11
 refine ie ?_
 refine zjb rfl hR ?_ ?_<;>clear hR<;>intro hR h12
 ·have h12p:=h12;try simp only [Bool.and_eq_true,Bool.or_eq_true,Bool.and_eq_false_iff,Bool.or_eq_false_iff,Bool.not_eq_true',Bool.not_eq_false',decide_eq_true_eq,decide_eq_false_iff_not] at h12p
  refine sr 1 rfl (ip' 1 0 [(0,bv false)] ?_)
  subst hR
  refine ie (A7 ?_)
  exact D5 hr hD
 have h12p:=h12;try simp only [Bool.and_eq_true,Bool.or_eq_true,Bool.and_eq_false_iff,Bool.or_eq_false_iff,Bool.not_eq_true',Bool.not_eq_false',decide_eq_true_eq,decide_eq_false_iff_not] at h12p
 refine A4 (nx (sr 7 rfl ?_))
 have hQ:=G6 hR;clear hR;obtain ⟨y4,hy4,hR⟩:=hQ
 refine it rfl (I5 (L2:=[bx b6 (A0 y0.1 ⟨va r1.q,y0.2.1.length,r1.k⟩) 26]) (B1d 2 1 y4 hy4) rfl rfl rfl rfl rfl fn0 (List.Perm.refl _) (fun ⟨⟨r13,rs14⟩,hp17⟩=>(bx b6 (A0 y0.1 ⟨va r1.q,y0.2.1.length,r1.k⟩) 26::(vo C4 69 r13 rs14)++([]))) (fun ⟨⟨r13,rs14⟩,hp17⟩=>H3 [vo C4 69 r13 rs14,[bx b6 (A0 y0.1 ⟨va r1.q,y0.2.1.length,r1.k⟩) 26]] [1,0] 2 rfl (by decide) (by first|rfl|simp only [List.flatten_cons,List.flatten_nil,List.append_nil,List.cons_append,List.nil_append,List.append_assoc]) [[bx b6 (A0 y0.1 ⟨va r1.q,y0.2.1.length,r1.k⟩) 26],vo C4 69 r13 rs14] rfl (by first|rfl|simp only [List.flatten_cons,List.flatten_nil,List.append_nil,List.cons_append,List.nil_append,List.append_assoc]))) fun ⟨⟨r13,rs14⟩,hp17⟩=>?_
 try dsimp only at hp17
 obtain ⟨hk15,hw16⟩:=hp17
 have:=VOk.le hk15
 have:=VOk.cap hk15
 have:=hw16.1
 have ht_rframeBlank1:=A6m 2 1;rw [hy4] at ht_rframeBlank1
 refine S1 [bx b6 (A0 y0.1 ⟨va r1.q,y0.2.1.length,r1.k⟩) 26] [] (T:=69) (c:=C4) (r:=r13) (xs:=rs14) (VOk.cast hk15 (by rw [hw16.1])) (by first|rfl|simp only [List.cons_append,List.append_assoc,List.nil_append,List.append_nil]) ?_
 refine I7 6 0 [0] (fun b18=>[(3,pt b18 0)]) (fun b18=>[bx b18 (A0 y4.1 ⟨va r13.q,y4.2.1.length,r13.k⟩) 26,bx b6 (A0 y0.1 ⟨va r1.q,y0.2.1.length,r1.k⟩) 26]) (fun b18=>?_)
 refine ie (sr 6 rfl (zca (B2j 120 _ rfl) fn0 ?_))
 refine zca (B2j 121 _ rfl) fn0 ?_
 refine it rfl (E9 (c:=B2) (xs:=([(B6 120),(B6 121)]:List Cel)) S9 rfl rfl rfl (by kernel_rfl)) fun b19=>?_
 have:([(B6 120),(B6 121)]:List Cel).length=2:=rfl
 refine it rfl (E9 (c:=C4) (xs:=([⟨some ⟨b19,0,none⟩,2,2⟩]:List Slc)) A0k rfl rfl rfl (by kernel_rfl)) fun b20=>?_
 have hrows21:C7 ([⟨some ⟨b19,0,none⟩,2,2⟩]:List Slc) ([([(B6 120),(B6 121)]:List Cel)]:List (List Cel)):=(C7.cons ⟨rfl,(by first|omega|(simp only [List.length_take,List.length_drop,List.length_append,List.length_cons,List.length_nil,List.length_set,List.length_map];omega)|decide),(by first|omega|(simp only [List.length_take,List.length_drop,List.length_append,List.length_cons,List.length_nil,List.length_set,List.length_map];omega)|decide)⟩ C7.none)
 refine H6 (q:=G5 B2 ([⟨some ⟨b19,0,none⟩,2,2⟩]:List Slc) ([([(B6 120),(B6 121)]:List Cel)]:List (List Cel))) (A2j (B5 1 rfl) P0) ?_
 have:([⟨some ⟨b19,0,none⟩,2,2⟩]:List Slc).length=1:=rfl
 refine zrg 2 0 [0] [] [bx b18 (A0 y4.1 ⟨some ⟨b20,0,none⟩,([([(B6 120),(B6 121)]:List Cel)]:List (List Cel)).length,1⟩) 26,bx b6 (A0 y0.1 ⟨va r1.q,y0.2.1.length,r1.k⟩) 26] ?_
 refine ie (sr 10 rfl (zrl 3 7 [1,0] [(49,ag (A0 y0.1 ⟨va r1.q,y0.2.1.length,r1.k⟩)),(50,ag (A0 y4.1 ⟨some ⟨b20,0,none⟩,([([(B6 120),(B6 121)]:List Cel)]:List (List Cel)).length,1⟩)),(51,ag (L7 (⟨0,2⟩:Plc)))] ?_))
 have hQ:=G6 hR;clear hR;obtain ⟨y1,hy1,hR⟩:=hQ
 refine it rfl (I5 (L2:=[bx b18 (A0 y4.1 ⟨some ⟨b20,0,none⟩,([([(B6 120),(B6 121)]:List Cel)]:List (List Cel)).length,1⟩) 26,bx b6 (A0 y0.1 ⟨va r1.q,y0.2.1.length,r1.k⟩) 26]) (C2v y0.1 y0.2.1 y4.1 ([([(B6 120),(B6 121)]:List Cel)]:List (List Cel)) (⟨0,2⟩:Plc) (va r1.q) rs2 r1.k (some ⟨b20,0,none⟩) ([⟨some ⟨b19,0,none⟩,2,2⟩]:List Slc) 1 hw4 (by first|omega|(simp only [List.length_take,List.length_drop,List.length_append,List.length_cons,List.length_nil,List.length_set,List.length_map];omega)|decide) (by first|omega|(simp only [List.length_take,List.length_drop,List.length_append,List.length_cons,List.length_nil,List.length_set,List.length_map];omega)|decide) hrows21 (by first|omega|(simp only [List.length_take,List.length_drop,List.length_append,List.length_cons,List.length_nil,List.length_set,List.length_map];omega)|decide) (by first|omega|(simp only [List.length_take,List.length_drop,List.length_append,List.length_cons,List.length_nil,List.length_set,List.length_map];omega)|decide) (by first|omega|(simp only [List.length_nil];omega)|(dsimp only;omega)) (by first|omega|(simp only [List.length_nil];omega)|(dsimp only;omega)) y1 hy1) rfl rfl rfl rfl rfl (A2.pick [5,6,1,0,7,8] rfl) (List.Perm.refl _) (fun ⟨⟨r22,rs23⟩,hp26⟩=>(bx b18 (A0 y4.1 ⟨some ⟨b20,0,none⟩,([([(B6 120),(B6 121)]:List Cel)]:List (List Cel)).length,1⟩) 26::bx b6 (A0 y0.1 ⟨va r1.q,y0.2.1.length,r1.k⟩) 26::(vo C4 69 r22 rs23)++([]))) (fun ⟨⟨r22,rs23⟩,hp26⟩=>H3 [vo C4 69 r22 rs23,[bx b18 (A0 y4.1 ⟨some ⟨b20,0,none⟩,([([(B6 120),(B6 121)]:List Cel)]:List (List Cel)).length,1⟩) 26],[bx b6 (A0 y0.1 ⟨va r1.q,y0.2.1.length,r1.k⟩) 26]] [1,2,0] 3 rfl (by decide) (by first|rfl|simp only [List.flatten_cons,List.flatten_nil,List.append_nil,List.cons_append,List.nil_append,List.append_assoc]) [[bx b18 (A0 y4.1 ⟨some ⟨b20,0,none⟩,([([(B6 120),(B6 121)]:List Cel)]:List (List Cel)).length,1⟩) 26],[bx b6 (A0 y0.1 ⟨va r1.q,y0.2.1.length,r1.k⟩) 26],vo C4 69 r22 rs23] rfl (by first|rfl|simp only [List.flatten_cons,List.flatten_nil,List.append_nil,List.cons_append,List.nil_append,List.append_assoc]))) fun ⟨⟨r22,rs23⟩,hp26⟩=>?_
 try dsimp only at hp26
 obtain ⟨hk24,hw25⟩:=hp26
 have:=VOk.le hk24
 have:=VOk.cap hk24
 have:=hw25.1
 have ht_rframePut:=B5g y0.1 y0.2.1 y4.1 ([([(B6 120),(B6 121)]:List Cel)]:List (List Cel)) (⟨0,2⟩:Plc);rw [hy1] at ht_rframePut
 refine S1 [bx b18 (A0 y4.1 ⟨some ⟨b20,0,none⟩,([([(B6 120),(B6 121)]:List Cel)]:List (List Cel)).length,1⟩) 26,bx b6 (A0 y0.1 ⟨va r1.q,y0.2.1.length,r1.k⟩) 26] [] (T:=69) (c:=C4) (r:=r22) (xs:=rs23) (VOk.cast hk24 (by rw [hw25.1])) (by first|rfl|simp only [List.cons_append,List.append_assoc,List.nil_append,List.append_nil]) ?_
 refine I7 6 0 [0] (fun b27=>[(5,pt b27 0),(2,iv y1.2.2)]) (fun b27=>[bx b27 (A0 y1.1 ⟨va r22.q,y1.2.1.length,r22.k⟩) 26,bx b18 (A0 y4.1 ⟨some ⟨b20,0,none⟩,([([(B6 120),(B6 121)]:List Cel)]:List (List Cel)).length,1⟩) 26,bx b6 (A0 y0.1 ⟨va r1.q,y0.2.1.length,r1.k⟩) 26]) (fun b27=>?_)
 refine ie (sr 9 rfl (zrl 2 7 [0] [(56,ag (A0 y1.1 ⟨va r22.q,y1.2.1.length,r22.k⟩)),(57,ag [iv 0,iv 2,iv 1,iv 2])] ?_))
 have hQ:=G6 hR;clear hR;obtain ⟨y2,hy2,hR⟩:=hQ
 refine it rfl (I5 (L2:=[bx b27 (A0 y1.1 ⟨va r22.q,y1.2.1.length,r22.k⟩) 26,bx b18 (A0 y4.1 ⟨some ⟨b20,0,none⟩,([([(B6 120),(B6 121)]:List Cel)]:List (List Cel)).length,1⟩) 26,bx b6 (A0 y0.1 ⟨va r1.q,y0.2.1.length,r1.k⟩) 26]) (B2e y1.1 y1.2.1 0 2 1 2 (va r22.q) rs23 r22.k hw25 (by first|omega|(simp only [List.length_take,List.length_drop,List.length_append,List.length_cons,List.length_nil,List.length_set,List.length_map];omega)|decide) (by first|omega|(simp only [List.length_take,List.length_drop,List.length_append,List.length_cons,List.length_nil,List.length_set,List.length_map];omega)|decide) (by first|omega|(simp only [List.length_nil];omega)|(dsimp only;omega)) y2 hy2) rfl rfl rfl rfl rfl (A2.pick [0,1,9,10] rfl) (List.Perm.refl _) (fun ⟨⟨r28,rs29⟩,hp32⟩=>(bx b27 (A0 y1.1 ⟨va r22.q,y1.2.1.length,r22.k⟩) 26::bx b18 (A0 y4.1 ⟨some ⟨b20,0,none⟩,([([(B6 120),(B6 121)]:List Cel)]:List (List Cel)).length,1⟩) 26::bx b6 (A0 y0.1 ⟨va r1.q,y0.2.1.length,r1.k⟩) 26::(vo C4 69 r28 rs29)++([]))) (fun ⟨⟨r28,rs29⟩,hp32⟩=>H3 [vo C4 69 r28 rs29,[bx b27 (A0 y1.1 ⟨va r22.q,y1.2.1.length,r22.k⟩) 26],[bx b18 (A0 y4.1 ⟨some ⟨b20,0,none⟩,([([(B6 120),(B6 121)]:List Cel)]:List (List Cel)).length,1⟩) 26],[bx b6 (A0 y0.1 ⟨va r1.q,y0.2.1.length,r1.k⟩) 26]] [1,2,3,0] 4 rfl (by decide) (by first|rfl|simp only [List.flatten_cons,List.flatten_nil,List.append_nil,List.cons_append,List.nil_append,List.append_assoc]) [[bx b27 (A0 y1.1 ⟨va r22.q,y1.2.1.length,r22.k⟩) 26],[bx b18 (A0 y4.1 ⟨some ⟨b20,0,none⟩,([([(B6 120),(B6 121)]:List Cel)]:List (List Cel)).length,1⟩) 26],[bx b6 (A0 y0.1 ⟨va r1.q,y0.2.1.length,r1.k⟩) 26],vo C4 69 r28 rs29] rfl (by first|rfl|simp only [List.flatten_cons,List.flatten_nil,List.append_nil,List.cons_append,List.nil_append,List.append_assoc]))) fun ⟨⟨r28,rs29⟩,hp32⟩=>?_
 try dsimp only at hp32
 obtain ⟨hk30,hw31⟩:=hp32
 have:=VOk.le hk30
 have:=VOk.cap hk30
 have:=hw31.1
 have ht_rframePart:=A7s y1.1 y1.2.1 0 2 1 2;rw [hy2] at ht_rframePart
 refine S1 [bx b27 (A0 y1.1 ⟨va r22.q,y1.2.1.length,r22.k⟩) 26,bx b18 (A0 y4.1 ⟨some ⟨b20,0,none⟩,([([(B6 120),(B6 121)]:List Cel)]:List (List Cel)).length,1⟩) 26,bx b6 (A0 y0.1 ⟨va r1.q,y0.2.1.length,r1.k⟩) 26] [] (T:=69) (c:=C4) (r:=r28) (xs:=rs29) (VOk.cast hk30 (by rw [hw31.1])) (by first|rfl|simp only [List.cons_append,List.append_assoc,List.nil_append,List.append_nil]) ?_
 refine I7 6 0 [0] (fun b33=>[(6,pt b33 0),(7,iv y2.2.2)]) (fun b33=>[bx b33 (A0 y2.1 ⟨va r28.q,y2.2.1.length,r28.k⟩) 26,bx b27 (A0 y1.1 ⟨va r22.q,y1.2.1.length,r22.k⟩) 26,bx b18 (A0 y4.1 ⟨some ⟨b20,0,none⟩,([([(B6 120),(B6 121)]:List Cel)]:List (List Cel)).length,1⟩) 26,bx b6 (A0 y0.1 ⟨va r1.q,y0.2.1.length,r1.k⟩) 26]) (fun b33=>?_)
 refine ie (sr 8 rfl (zrl 1 7 [1] [(62,ag (A0 y1.1 ⟨va r22.q,y1.2.1.length,r22.k⟩))] ?_))
 have hQ:=G6 hR;clear hR;obtain ⟨y3,hy3,hR⟩:=hQ
 refine it rfl (I5 (L2:=[bx b33 (A0 y2.1 ⟨va r28.q,y2.2.1.length,r28.k⟩) 26,bx b27 (A0 y1.1 ⟨va r22.q,y1.2.1.length,r22.k⟩) 26,bx b18 (A0 y4.1 ⟨some ⟨b20,0,none⟩,([([(B6 120),(B6 121)]:List Cel)]:List (List Cel)).length,1⟩) 26,bx b6 (A0 y0.1 ⟨va r1.q,y0.2.1.length,r1.k⟩) 26]) (B7o y1.1 y1.2.1 (va r22.q) rs23 r22.k hw25 (by first|omega|(simp only [List.length_take,List.length_drop,List.length_append,List.length_cons,List.length_nil,List.length_set,List.length_map];omega)|decide) (by first|omega|(simp only [List.length_take,List.length_drop,List.length_append,List.length_cons,List.length_nil,List.length_set,List.length_map];omega)|decide) (by first|omega|(simp only [List.length_nil];omega)|(dsimp only;omega)) y3 hy3) rfl rfl rfl rfl rfl (A2.pick [2,3,11,12] rfl) (List.Perm.refl _) (fun ⟨⟨⟨q34,rs35,k36⟩,hp39⟩,⟨⟨r41,rs42⟩,hp45⟩,⟨⟨q46,k47⟩,hp48⟩⟩=>(bx b33 (A0 y2.1 ⟨va r28.q,y2.2.1.length,r28.k⟩) 26::bx b27 (A0 y1.1 ⟨va r22.q,y1.2.1.length,r22.k⟩) 26::bx b18 (A0 y4.1 ⟨some ⟨b20,0,none⟩,([([(B6 120),(B6 121)]:List Cel)]:List (List Cel)).length,1⟩) 26::bx b6 (A0 y0.1 ⟨va r1.q,y0.2.1.length,r1.k⟩) 26::(vo B7 78 r41 rs42)++([]))) (fun ⟨⟨⟨q34,rs35,k36⟩,hp39⟩,⟨⟨r41,rs42⟩,hp45⟩,⟨⟨q46,k47⟩,hp48⟩⟩=>H3 [vo B7 78 r41 rs42,[bx b33 (A0 y2.1 ⟨va r28.q,y2.2.1.length,r28.k⟩) 26],[bx b27 (A0 y1.1 ⟨va r22.q,y1.2.1.length,r22.k⟩) 26],[bx b18 (A0 y4.1 ⟨some ⟨b20,0,none⟩,([([(B6 120),(B6 121)]:List Cel)]:List (List Cel)).length,1⟩) 26],[bx b6 (A0 y0.1 ⟨va r1.q,y0.2.1.length,r1.k⟩) 26]] [1,2,3,4,0] 5 rfl (by decide) (by first|rfl|simp only [List.flatten_cons,List.flatten_nil,List.append_nil,List.cons_append,List.nil_append,List.append_assoc]) [[bx b33 (A0 y2.1 ⟨va r28.q,y2.2.1.length,r28.k⟩) 26],[bx b27 (A0 y1.1 ⟨va r22.q,y1.2.1.length,r22.k⟩) 26],[bx b18 (A0 y4.1 ⟨some ⟨b20,0,none⟩,([([(B6 120),(B6 121)]:List Cel)]:List (List Cel)).length,1⟩) 26],[bx b6 (A0 y0.1 ⟨va r1.q,y0.2.1.length,r1.k⟩) 26],vo B7 78 r41 rs42] rfl (by first|rfl|simp only [List.flatten_cons,List.flatten_nil,List.append_nil,List.cons_append,List.nil_append,List.append_assoc]))) fun ⟨⟨⟨q34,rs35,k36⟩,hp39⟩,⟨⟨r41,rs42⟩,hp45⟩,⟨⟨q46,k47⟩,hp48⟩⟩=>?_
 obtain ⟨hr37,hc38,hl40⟩:=hp39
 try dsimp only at hp45
 obtain ⟨hk43,hw44⟩:=hp45
 obtain ⟨hc49,hl50⟩:=hp48
 have:=VOk.le hk43
 have:=VOk.cap hk43
 have:=hr37.1
 have:=hw44.1
 have ht_rframeShows:=B2m y1.1 y1.2.1;rw [hy3] at ht_rframeShows
 refine S1 [bx b33 (A0 y2.1 ⟨va r28.q,y2.2.1.length,r28.k⟩) 26,bx b27 (A0 y1.1 ⟨va r22.q,y1.2.1.length,r22.k⟩) 26,bx b18 (A0 y4.1 ⟨some ⟨b20,0,none⟩,([([(B6 120),(B6 121)]:List Cel)]:List (List Cel)).length,1⟩) 26,bx b6 (A0 y0.1 ⟨va r1.q,y0.2.1.length,r1.k⟩) 26] [] (T:=78) (c:=B7) (r:=r41) (xs:=rs42) (VOk.cast hk43 (by rw [hw44.1])) (by first|rfl|simp only [List.cons_append,List.append_assoc,List.nil_append,List.append_nil]) ?_
 refine I7 6 0 [0] (fun b51=>[(8,pt b51 0),(9,iv y3.2.2.2.2)]) (fun b51=>[bx b51 (A6 y3.1 ⟨q34,y3.2.1.length,k36⟩ ⟨va r41.q,y3.2.2.1.length,r41.k⟩ ⟨none,0,0⟩ ⟨q46,y3.2.2.2.1.length,k47⟩) 52,bx b33 (A0 y2.1 ⟨va r28.q,y2.2.1.length,r28.k⟩) 26,bx b27 (A0 y1.1 ⟨va r22.q,y1.2.1.length,r22.k⟩) 26,bx b18 (A0 y4.1 ⟨some ⟨b20,0,none⟩,([([(B6 120),(B6 121)]:List Cel)]:List (List Cel)).length,1⟩) 26,bx b6 (A0 y0.1 ⟨va r1.q,y0.2.1.length,r1.k⟩) 26]) (fun b51=>?_)
 refine ie (sr 8 rfl (zrl 1 7 [0] [(67,ag (A6 y3.1 ⟨q34,y3.2.1.length,k36⟩ ⟨va r41.q,y3.2.2.1.length,r41.k⟩ ⟨none,0,0⟩ ⟨q46,y3.2.2.2.1.length,k47⟩))] ?_))
 have hQ:=G6 hR;clear hR;obtain ⟨y5,hy5,hR⟩:=hQ
 refine it rfl (I5 (L2:=[bx b51 (A6 y3.1 ⟨q34,y3.2.1.length,k36⟩ ⟨va r41.q,y3.2.2.1.length,r41.k⟩ ⟨none,0,0⟩ ⟨q46,y3.2.2.2.1.length,k47⟩) 52,bx b33 (A0 y2.1 ⟨va r28.q,y2.2.1.length,r28.k⟩) 26,bx b27 (A0 y1.1 ⟨va r22.q,y1.2.1.length,r22.k⟩) 26,bx b18 (A0 y4.1 ⟨some ⟨b20,0,none⟩,([([(B6 120),(B6 121)]:List Cel)]:List (List Cel)).length,1⟩) 26,bx b6 (A0 y0.1 ⟨va r1.q,y0.2.1.length,r1.k⟩) 26]) (C2x y3.1 y3.2.1 y3.2.2.1 y3.2.2.2.1 q34 rs35 k36 (va r41.q) rs42 r41.k q46 k47 hr37 (by first|omega|(simp only [List.length_take,List.length_drop,List.length_append,List.length_cons,List.length_nil,List.length_set,List.length_map];omega)|decide) (by first|omega|(simp only [List.length_take,List.length_drop,List.length_append,List.length_cons,List.length_nil,List.length_set,List.length_map];omega)|decide) hw44 (by first|omega|(simp only [List.length_take,List.length_drop,List.length_append,List.length_cons,List.length_nil,List.length_set,List.length_map];omega)|decide) (by first|omega|(simp only [List.length_take,List.length_drop,List.length_append,List.length_cons,List.length_nil,List.length_set,List.length_map];omega)|decide) (by first|omega|(simp only [List.length_take,List.length_drop,List.length_append,List.length_cons,List.length_nil,List.length_set,List.length_map];omega)|decide) (by first|omega|(simp only [List.length_take,List.length_drop,List.length_append,List.length_cons,List.length_nil,List.length_set,List.length_map];omega)|decide) (by first|omega|(simp only [List.length_nil];omega)|(dsimp only;omega)) y5 hy5) rfl rfl rfl rfl rfl (A2.pick [1,2,0,3,4,16,17] rfl) (List.Perm.refl _) (fun ⟨⟨r52,rs53⟩,hp56⟩=>(bx b51 (A6 y3.1 ⟨q34,y3.2.1.length,k36⟩ ⟨va r41.q,y3.2.2.1.length,r41.k⟩ ⟨none,0,0⟩ ⟨q46,y3.2.2.2.1.length,k47⟩) 52::bx b33 (A0 y2.1 ⟨va r28.q,y2.2.1.length,r28.k⟩) 26::bx b27 (A0 y1.1 ⟨va r22.q,y1.2.1.length,r22.k⟩) 26::bx b18 (A0 y4.1 ⟨some ⟨b20,0,none⟩,([([(B6 120),(B6 121)]:List Cel)]:List (List Cel)).length,1⟩) 26::bx b6 (A0 y0.1 ⟨va r1.q,y0.2.1.length,r1.k⟩) 26::(vo C4 69 r52 rs53)++([]))) (fun ⟨⟨r52,rs53⟩,hp56⟩=>H3 [vo C4 69 r52 rs53,[bx b51 (A6 y3.1 ⟨q34,y3.2.1.length,k36⟩ ⟨va r41.q,y3.2.2.1.length,r41.k⟩ ⟨none,0,0⟩ ⟨q46,y3.2.2.2.1.length,k47⟩) 52],[bx b33 (A0 y2.1 ⟨va r28.q,y2.2.1.length,r28.k⟩) 26],[bx b27 (A0 y1.1 ⟨va r22.q,y1.2.1.length,r22.k⟩) 26],[bx b18 (A0 y4.1 ⟨some ⟨b20,0,none⟩,([([(B6 120),(B6 121)]:List Cel)]:List (List Cel)).length,1⟩) 26],[bx b6 (A0 y0.1 ⟨va r1.q,y0.2.1.length,r1.k⟩) 26]] [1,2,3,4,5,0] 6 rfl (by decide) (by first|rfl|simp only [List.flatten_cons,List.flatten_nil,List.append_nil,List.cons_append,List.nil_append,List.append_assoc]) [[bx b51 (A6 y3.1 ⟨q34,y3.2.1.length,k36⟩ ⟨va r41.q,y3.2.2.1.length,r41.k⟩ ⟨none,0,0⟩ ⟨q46,y3.2.2.2.1.length,k47⟩) 52],[bx b33 (A0 y2.1 ⟨va r28.q,y2.2.1.length,r28.k⟩) 26],[bx b27 (A0 y1.1 ⟨va r22.q,y1.2.1.length,r22.k⟩) 26],[bx b18 (A0 y4.1 ⟨some ⟨b20,0,none⟩,([([(B6 120),(B6 121)]:List Cel)]:List (List Cel)).length,1⟩) 26],[bx b6 (A0 y0.1 ⟨va r1.q,y0.2.1.length,r1.k⟩) 26],vo C4 69 r52 rs53] rfl (by first|rfl|simp only [List.flatten_cons,List.flatten_nil,List.append_nil,List.cons_append,List.nil_append,List.append_assoc]))) fun ⟨⟨r52,rs53⟩,hp56⟩=>?_
 try dsimp only at hp56
 obtain ⟨hk54,hw55⟩:=hp56
 have:=VOk.le hk54
 have:=VOk.cap hk54
 have:=hw55.1
 refine S1 [bx b51 (A6 y3.1 ⟨q34,y3.2.1.length,k36⟩ ⟨va r41.q,y3.2.2.1.length,r41.k⟩ ⟨none,0,0⟩ ⟨q46,y3.2.2.2.1.length,k47⟩) 52,bx b33 (A0 y2.1 ⟨va r28.q,y2.2.1.length,r28.k⟩) 26,bx b27 (A0 y1.1 ⟨va r22.q,y1.2.1.length,r22.k⟩) 26,bx b18 (A0 y4.1 ⟨some ⟨b20,0,none⟩,([([(B6 120),(B6 121)]:List Cel)]:List (List Cel)).length,1⟩) 26,bx b6 (A0 y0.1 ⟨va r1.q,y0.2.1.length,r1.k⟩) 26] [] (T:=69) (c:=C4) (r:=r52) (xs:=rs53) (VOk.cast hk54 (by rw [hw55.1])) (by first|rfl|simp only [List.cons_append,List.append_assoc,List.nil_append,List.append_nil]) ?_
 refine I7 6 0 [0] (fun b57=>[(10,pt b57 0),(11,iv y5.2.2)]) (fun b57=>[bx b57 (A0 y5.1 ⟨va r52.q,y5.2.1.length,r52.k⟩) 26,bx b51 (A6 y3.1 ⟨q34,y3.2.1.length,k36⟩ ⟨va r41.q,y3.2.2.1.length,r41.k⟩ ⟨none,0,0⟩ ⟨q46,y3.2.2.2.1.length,k47⟩) 52,bx b33 (A0 y2.1 ⟨va r28.q,y2.2.1.length,r28.k⟩) 26,bx b27 (A0 y1.1 ⟨va r22.q,y1.2.1.length,r22.k⟩) 26,bx b18 (A0 y4.1 ⟨some ⟨b20,0,none⟩,([([(B6 120),(B6 121)]:List Cel)]:List (List Cel)).length,1⟩) 26,bx b6 (A0 y0.1 ⟨va r1.q,y0.2.1.length,r1.k⟩) 26]) (fun b57=>?_)
 refine ie (sr 9 rfl (zrl 2 7 [3] [(72,ag (A0 y1.1 ⟨va r22.q,y1.2.1.length,r22.k⟩)),(73,ag [iv 0,iv 0,iv 1,iv 1])] ?_))
 have hQ:=G6 hR;clear hR;obtain ⟨y6,hy6,hR⟩:=hQ
 refine it rfl (I5 (L2:=[bx b57 (A0 y5.1 ⟨va r52.q,y5.2.1.length,r52.k⟩) 26,bx b51 (A6 y3.1 ⟨q34,y3.2.1.length,k36⟩ ⟨va r41.q,y3.2.2.1.length,r41.k⟩ ⟨none,0,0⟩ ⟨q46,y3.2.2.2.1.length,k47⟩) 52,bx b33 (A0 y2.1 ⟨va r28.q,y2.2.1.length,r28.k⟩) 26,bx b27 (A0 y1.1 ⟨va r22.q,y1.2.1.length,r22.k⟩) 26,bx b18 (A0 y4.1 ⟨some ⟨b20,0,none⟩,([([(B6 120),(B6 121)]:List Cel)]:List (List Cel)).length,1⟩) 26,bx b6 (A0 y0.1 ⟨va r1.q,y0.2.1.length,r1.k⟩) 26]) (B2e y1.1 y1.2.1 0 0 1 1 (va r22.q) rs23 r22.k hw25 (by first|omega|(simp only [List.length_take,List.length_drop,List.length_append,List.length_cons,List.length_nil,List.length_set,List.length_map];omega)|decide) (by first|omega|(simp only [List.length_take,List.length_drop,List.length_append,List.length_cons,List.length_nil,List.length_set,List.length_map];omega)|decide) (by first|omega|(simp only [List.length_nil];omega)|(dsimp only;omega)) y6 hy6) rfl rfl rfl rfl rfl (A2.pick [9,10,18,19] rfl) (List.Perm.refl _) (fun ⟨⟨r58,rs59⟩,hp62⟩=>(bx b57 (A0 y5.1 ⟨va r52.q,y5.2.1.length,r52.k⟩) 26::bx b51 (A6 y3.1 ⟨q34,y3.2.1.length,k36⟩ ⟨va r41.q,y3.2.2.1.length,r41.k⟩ ⟨none,0,0⟩ ⟨q46,y3.2.2.2.1.length,k47⟩) 52::bx b33 (A0 y2.1 ⟨va r28.q,y2.2.1.length,r28.k⟩) 26::bx b27 (A0 y1.1 ⟨va r22.q,y1.2.1.length,r22.k⟩) 26::bx b18 (A0 y4.1 ⟨some ⟨b20,0,none⟩,([([(B6 120),(B6 121)]:List Cel)]:List (List Cel)).length,1⟩) 26::bx b6 (A0 y0.1 ⟨va r1.q,y0.2.1.length,r1.k⟩) 26::(vo C4 69 r58 rs59)++([]))) (fun ⟨⟨r58,rs59⟩,hp62⟩=>H3 [vo C4 69 r58 rs59,[bx b57 (A0 y5.1 ⟨va r52.q,y5.2.1.length,r52.k⟩) 26],[bx b51 (A6 y3.1 ⟨q34,y3.2.1.length,k36⟩ ⟨va r41.q,y3.2.2.1.length,r41.k⟩ ⟨none,0,0⟩ ⟨q46,y3.2.2.2.1.length,k47⟩) 52],[bx b33 (A0 y2.1 ⟨va r28.q,y2.2.1.length,r28.k⟩) 26],[bx b27 (A0 y1.1 ⟨va r22.q,y1.2.1.length,r22.k⟩) 26],[bx b18 (A0 y4.1 ⟨some ⟨b20,0,none⟩,([([(B6 120),(B6 121)]:List Cel)]:List (List Cel)).length,1⟩) 26],[bx b6 (A0 y0.1 ⟨va r1.q,y0.2.1.length,r1.k⟩) 26]] [1,2,3,4,5,6,0] 7 rfl (by decide) (by first|rfl|simp only [List.flatten_cons,List.flatten_nil,List.append_nil,List.cons_append,List.nil_append,List.append_assoc]) [[bx b57 (A0 y5.1 ⟨va r52.q,y5.2.1.length,r52.k⟩) 26],[bx b51 (A6 y3.1 ⟨q34,y3.2.1.length,k36⟩ ⟨va r41.q,y3.2.2.1.length,r41.k⟩ ⟨none,0,0⟩ ⟨q46,y3.2.2.2.1.length,k47⟩) 52],[bx b33 (A0 y2.1 ⟨va r28.q,y2.2.1.length,r28.k⟩) 26],[bx b27 (A0 y1.1 ⟨va r22.q,y1.2.1.length,r22.k⟩) 26],[bx b18 (A0 y4.1 ⟨some ⟨b20,0,none⟩,([([(B6 120),(B6 121)]:List Cel)]:List (List Cel)).length,1⟩) 26],[bx b6 (A0 y0.1 ⟨va r1.q,y0.2.1.length,r1.k⟩) 26],vo C4 69 r58 rs59] rfl (by first|rfl|simp only [List.flatten_cons,List.flatten_nil,List.append_nil,List.cons_append,List.nil_append,List.append_assoc]))) fun ⟨⟨r58,rs59⟩,hp62⟩=>?_
 try dsimp only at hp62
 obtain ⟨hk60,hw61⟩:=hp62
 have:=VOk.le hk60
 have:=VOk.cap hk60
 have:=hw61.1
 have ht_rframePart1:=A7s y1.1 y1.2.1 0 0 1 1;rw [hy6] at ht_rframePart1
 refine S1 [bx b57 (A0 y5.1 ⟨va r52.q,y5.2.1.length,r52.k⟩) 26,bx b51 (A6 y3.1 ⟨q34,y3.2.1.length,k36⟩ ⟨va r41.q,y3.2.2.1.length,r41.k⟩ ⟨none,0,0⟩ ⟨q46,y3.2.2.2.1.length,k47⟩) 52,bx b33 (A0 y2.1 ⟨va r28.q,y2.2.1.length,r28.k⟩) 26,bx b27 (A0 y1.1 ⟨va r22.q,y1.2.1.length,r22.k⟩) 26,bx b18 (A0 y4.1 ⟨some ⟨b20,0,none⟩,([([(B6 120),(B6 121)]:List Cel)]:List (List Cel)).length,1⟩) 26,bx b6 (A0 y0.1 ⟨va r1.q,y0.2.1.length,r1.k⟩) 26] [] (T:=69) (c:=C4) (r:=r58) (xs:=rs59) (VOk.cast hk60 (by rw [hw61.1])) (by first|rfl|simp only [List.cons_append,List.append_assoc,List.nil_append,List.append_nil]) ?_
 refine I7 6 0 [0] (fun b63=>[(13,iv y6.2.2)]) (fun b63=>[bx b63 (A0 y6.1 ⟨va r58.q,y6.2.1.length,r58.k⟩) 26,bx b57 (A0 y5.1 ⟨va r52.q,y5.2.1.length,r52.k⟩) 26,bx b51 (A6 y3.1 ⟨q34,y3.2.1.length,k36⟩ ⟨va r41.q,y3.2.2.1.length,r41.k⟩ ⟨none,0,0⟩ ⟨q46,y3.2.2.2.1.length,k47⟩) 52,bx b33 (A0 y2.1 ⟨va r28.q,y2.2.1.length,r28.k⟩) 26,bx b27 (A0 y1.1 ⟨va r22.q,y1.2.1.length,r22.k⟩) 26,bx b18 (A0 y4.1 ⟨some ⟨b20,0,none⟩,([([(B6 120),(B6 121)]:List Cel)]:List (List Cel)).length,1⟩) 26,bx b6 (A0 y0.1 ⟨va r1.q,y0.2.1.length,r1.k⟩) 26]) (fun b63=>?_)
 refine ie (sr 48 rfl (ip' 3 45 [(79,bv (decide (y1.2.2=0)))] ?_))
 refine zid 9 36 79 88 (decide (((y1.2.1.getD 0 []).getD 3 Cel.zero).base=121)) (fun g64 g64p=>?_) ?_
 ·have hw1:y1.2.1.length=2∧(y1.2.1.getD 0 []).length=4:=by rw [← hy1,← hy0,← hy4];decide +kernel
  refine zrl 2 7 [4] [(81,.slice (va r22.q) y1.2.1.length r22.k)] ?_
  refine J3 11 rfl (by have:=hw25.1;omega) fun a65 hq66=>?_
  refine H6 (P9 (k:=0) (d:=(⟨none,0,0⟩:Slc)) hw25 12 rfl (by have:=hw25.1;omega)) ?_
  have:=P8 hw25 (k:=0) (d:=(⟨none,0,0⟩:Slc)) (by have:=hw25.1;omega)
  refine ix rfl (E8 A0k rfl rfl hq66 rfl 0 rfl (by omega)) ?_
  refine ix rfl (F9 (C8 (v:=.slice ((rs23.getD 0 (⟨none,0,0⟩:Slc)).q) ((rs23.getD 0 (⟨none,0,0⟩:Slc)).n) ((rs23.getD 0 (⟨none,0,0⟩:Slc)).k)) (us:=[.slice ((rs23.getD 0 (⟨none,0,0⟩:Slc)).q) ((rs23.getD 0 (⟨none,0,0⟩:Slc)).n) ((rs23.getD 0 (⟨none,0,0⟩:Slc)).k)]) A3e rfl rfl (G0 (c:=C4) (sz:=1) hq66 (fun _=>rfl) 12 rfl (gd (⟨none,0,0⟩:Slc) (by have:=hw25.1;omega))) rfl) (Q7 hw25 (by have:=hw25.1;omega))) ?_
  refine J3 0 rfl (by omega) fun a67 hq68=>?_
  refine ix rfl (E8 S9 rfl rfl hq68 rfl 3 rfl (by omega)) ?_
  refine ip' 1 3 [(85,pa (Addr.add a67 (3 * 12)))] ?_
  refine ix rfl (C8 (v:=iv (((y1.2.1.getD 0 []).getD 3 Cel.zero).base)) (us:=[iv (((y1.2.1.getD 0 []).getD 3 Cel.zero).base)]) ty3 rfl rfl (A0g (G0 (c:=B2) (sz:=12) hq68 (fun _=>rfl) 0 rfl (gd Cel.zero (by omega))) (ws:=[iv (((y1.2.1.getD 0 []).getD 3 Cel.zero).base)]) 1 rfl) rfl) ?_
  refine ip' 2 0 [(88,bv (decide (((y1.2.1.getD 0 []).getD 3 Cel.zero).base=121)))] ?_
  exact A1 (H1 8 79 88 g64 (A2.pick [1,2,3,4,5,6,7,8,9,10,11,12,13,14,15,16,17,18,19,20,21,22] rfl) (mk [true,true,true,true,true,true,true] rfl) rfl rfl rfl rfl rfl)
 refine ip' 1 35 [(89,bv ((decide (y1.2.2=0))&&(decide (((y1.2.1.getD 0 []).getD 3 Cel.zero).base=121))))] ?_
 refine zia 3 32 89 92 (decide (y2.2.2=0)) (fun g69=>?_) ?_
 ·have g69p:(y1.2.2=0)∧(((y1.2.1.getD 0 []).getD 3 Cel.zero).base=121):=by simpa using g69
  refine ip' 3 0 [(92,bv (decide (y2.2.2=0)))] ?_
  exact zai 2 89 92 g69
 refine ip' 1 31 [(93,bv (((decide (y1.2.2=0))&&(decide (((y1.2.1.getD 0 []).getD 3 Cel.zero).base=121)))&&(decide (y2.2.2=0))))] ?_
 refine zia 9 22 93 102 (decide (((y2.2.1.getD 0 []).getD 0 Cel.zero).base=120)) (fun g70=>?_) ?_
 ·have g70p:((y1.2.2=0)∧(((y1.2.1.getD 0 []).getD 3 Cel.zero).base=121))∧(y2.2.2=0):=by simpa using g70
  have hw2:y2.2.1.length=1∧(y2.2.1.getD 0 []).length=2:=by rw [← hy2,← hy1,← hy0,← hy4];decide +kernel
  refine zrl 2 7 [3] [(95,.slice (va r28.q) y2.2.1.length r28.k)] ?_
  refine J3 9 rfl (by have:=hw31.1;omega) fun a71 hq72=>?_
  refine H6 (P9 (k:=0) (d:=(⟨none,0,0⟩:Slc)) hw31 10 rfl (by have:=hw31.1;omega)) ?_
  have:=P8 hw31 (k:=0) (d:=(⟨none,0,0⟩:Slc)) (by have:=hw31.1;omega)
  refine ix rfl (E8 A0k rfl rfl hq72 rfl 0 rfl (by omega)) ?_
  refine ix rfl (F9 (C8 (v:=.slice ((rs29.getD 0 (⟨none,0,0⟩:Slc)).q) ((rs29.getD 0 (⟨none,0,0⟩:Slc)).n) ((rs29.getD 0 (⟨none,0,0⟩:Slc)).k)) (us:=[.slice ((rs29.getD 0 (⟨none,0,0⟩:Slc)).q) ((rs29.getD 0 (⟨none,0,0⟩:Slc)).n) ((rs29.getD 0 (⟨none,0,0⟩:Slc)).k)]) A3e rfl rfl (G0 (c:=C4) (sz:=1) hq72 (fun _=>rfl) 10 rfl (gd (⟨none,0,0⟩:Slc) (by have:=hw31.1;omega))) rfl) (Q7 hw31 (by have:=hw31.1;omega))) ?_
  refine J3 0 rfl (by omega) fun a73 hq74=>?_
  refine ix rfl (E8 S9 rfl rfl hq74 rfl 0 rfl (by omega)) ?_
  refine ip' 1 3 [(99,pa (Addr.add a73 (0 * 12)))] ?_
  refine ix rfl (C8 (v:=iv (((y2.2.1.getD 0 []).getD 0 Cel.zero).base)) (us:=[iv (((y2.2.1.getD 0 []).getD 0 Cel.zero).base)]) ty3 rfl rfl (A0g (G0 (c:=B2) (sz:=12) hq74 (fun _=>rfl) 0 rfl (gd Cel.zero (by omega))) (ws:=[iv (((y2.2.1.getD 0 []).getD 0 Cel.zero).base)]) 1 rfl) rfl) ?_
  refine ip' 2 0 [(102,bv (decide (((y2.2.1.getD 0 []).getD 0 Cel.zero).base=120)))] ?_
  exact A1 (H1 8 93 102 g70 (A2.pick [1,2,3,4,5,6,7,8,9,10,11,12,13,14,15,16,17,18,19,20,21,22] rfl) (mk [true,true,true,true,true,true,true] rfl) rfl rfl rfl rfl rfl)
 refine ip' 1 21 [(103,bv ((((decide (y1.2.2=0))&&(decide (((y1.2.1.getD 0 []).getD 3 Cel.zero).base=121)))&&(decide (y2.2.2=0)))&&(decide (((y2.2.1.getD 0 []).getD 0 Cel.zero).base=120))))] ?_
 refine zia 3 18 103 106 (decide (y3.2.2.2.2=0)) (fun g75=>?_) ?_
 ·have g75p:(((y1.2.2=0)∧(((y1.2.1.getD 0 []).getD 3 Cel.zero).base=121))∧(y2.2.2=0))∧(((y2.2.1.getD 0 []).getD 0 Cel.zero).base=120):=by simpa using g75
  refine ip' 3 0 [(106,bv (decide (y3.2.2.2.2=0)))] ?_
  exact zai 2 103 106 g75
 refine ip' 1 17 [(107,bv (((((decide (y1.2.2=0))&&(decide (((y1.2.1.getD 0 []).getD 3 Cel.zero).base=121)))&&(decide (y2.2.2=0)))&&(decide (((y2.2.1.getD 0 []).getD 0 Cel.zero).base=120)))&&(decide (y3.2.2.2.2=0))))] ?_
 refine zia 3 14 107 110 y3.1.onAlt (fun g76=>?_) ?_
 ·have g76p:((((y1.2.2=0)∧(((y1.2.1.getD 0 []).getD 3 Cel.zero).base=121))∧(y2.2.2=0))∧(((y2.2.1.getD 0 []).getD 0 Cel.zero).base=120))∧(y3.2.2.2.2=0):=by simpa using g76
  refine zrl 3 0 [2] [(110,bv y3.1.onAlt)] ?_
  exact zai 2 107 110 g76
 refine ip' 1 13 [(111,bv ((((((decide (y1.2.2=0))&&(decide (((y1.2.1.getD 0 []).getD 3 Cel.zero).base=121)))&&(decide (y2.2.2=0)))&&(decide (((y2.2.1.getD 0 []).getD 0 Cel.zero).base=120)))&&(decide (y3.2.2.2.2=0)))&&y3.1.onAlt))] ?_
 refine zia 3 10 111 114 (decide (y5.2.2=0)) (fun g77=>?_) ?_
 ·have g77p:=g77;try simp only [Bool.and_eq_true,Bool.or_eq_true,Bool.and_eq_false_iff,Bool.or_eq_false_iff,Bool.not_eq_true',Bool.not_eq_false',decide_eq_true_eq,decide_eq_false_iff_not] at g77p
  refine ip' 3 0 [(114,bv (decide (y5.2.2=0)))] ?_
  exact zai 2 111 114 g77
 refine ip' 1 9 [(115,bv (((((((decide (y1.2.2=0))&&(decide (((y1.2.1.getD 0 []).getD 3 Cel.zero).base=121)))&&(decide (y2.2.2=0)))&&(decide (((y2.2.1.getD 0 []).getD 0 Cel.zero).base=120)))&&(decide (y3.2.2.2.2=0)))&&y3.1.onAlt)&&(decide (y5.2.2=0))))] ?_
 refine zia 4 5 115 119 (W4 y5.1 y5.2.1 y1.1 y1.2.1) (fun g78=>?_) ?_
 ·have g78p:=g78;try simp only [Bool.and_eq_true,Bool.or_eq_true,Bool.and_eq_false_iff,Bool.or_eq_false_iff,Bool.not_eq_true',Bool.not_eq_false',decide_eq_true_eq,decide_eq_false_iff_not] at g78p
  refine zrl 2 2 [1,4] [(116,ag (A0 y5.1 ⟨va r52.q,y5.2.1.length,r52.k⟩)),(117,ag (A0 y1.1 ⟨va r22.q,y1.2.1.length,r22.k⟩))] ?_
  refine zca (C0l y5.1 y5.2.1 y1.1 y1.2.1 (va r52.q) rs53 r52.k (va r22.q) rs23 r22.k hw55 (by first|omega|(simp only [List.length_take,List.length_drop,List.length_append,List.length_cons,List.length_nil,List.length_set,List.length_map];omega)|decide) (by first|omega|(simp only [List.length_take,List.length_drop,List.length_append,List.length_cons,List.length_nil,List.length_set,List.length_map];omega)|decide) hw25 (by first|omega|(simp only [List.length_take,List.length_drop,List.length_append,List.length_cons,List.length_nil,List.length_set,List.length_map];omega)|decide) (by first|omega|(simp only [List.length_take,List.length_drop,List.length_append,List.length_cons,List.length_nil,List.length_set,List.length_map];omega)|decide) _ rfl) (A2.pick [2,3,11,12] rfl) ?_
  refine ip' 1 0 [(119,bv (W4 y5.1 y5.2.1 y1.1 y1.2.1))] ?_
  exact zai 5 115 119 g78
 refine ip' 1 4 [(120,bv ((((((((decide (y1.2.2=0))&&(decide (((y1.2.1.getD 0 []).getD 3 Cel.zero).base=121)))&&(decide (y2.2.2=0)))&&(decide (((y2.2.1.getD 0 []).getD 0 Cel.zero).base=120)))&&(decide (y3.2.2.2.2=0)))&&y3.1.onAlt)&&(decide (y5.2.2=0)))&&(W4 y5.1 y5.2.1 y1.1 y1.2.1)))] ?_
 refine zia 3 1 120 123 (decide (y6.2.2=2)) (fun g79=>?_) ?_
 ·have g79p:=g79;try simp only [Bool.and_eq_true,Bool.or_eq_true,Bool.and_eq_false_iff,Bool.or_eq_false_iff,Bool.not_eq_true',Bool.not_eq_false',decide_eq_true_eq,decide_eq_false_iff_not] at g79p
  refine ip' 3 0 [(123,bv (decide (y6.2.2=2)))] ?_
  exact zai 2 120 123 g79
 refine ip' 1 0 [(0,bv (((((((((decide (y1.2.2=0))&&(decide (((y1.2.1.getD 0 []).getD 3 Cel.zero).base=121)))&&(decide (y2.2.2=0)))&&(decide (((y2.2.1.getD 0 []).getD 0 Cel.zero).base=120)))&&(decide (y3.2.2.2.2=0)))&&y3.1.onAlt)&&(decide (y5.2.2=0)))&&(W4 y5.1 y5.2.1 y1.1 y1.2.1))&&(decide (y6.2.2=2))))] ?_
 subst hR
 refine ie (A7 ?_)
 exact D5 hr hD
end Go.Proofs.YthcjfkljekdioaaGreatDoor
