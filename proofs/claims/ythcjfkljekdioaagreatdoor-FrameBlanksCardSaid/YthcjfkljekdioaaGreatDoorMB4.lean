import Derived.Test.YthcjfkljekdioaaGreatDoorProg
import Derived.Test.YthcjfkljekdioaaGreatDoorMA2
import Derived.Test.YthcjfkljekdioaaGreatDoorMB1
import Derived.Test.YthcjfkljekdioaaGreatDoorMB2
import Derived.Test.YthcjfkljekdioaaGreatDoorMB3
set_option linter.unusedVariables false
set_option linter.unusedSimpArgs false
set_option linter.unnecessarySimpa false
set_option maxRecDepth 100000
namespace Go.Proofs.YthcjfkljekdioaaGreatDoor
open Go Go.Fen
def B2 (c:Int):Cel :=
 {Cel.zero with base:=c}
theorem A7b (c:Int) (R:Cel) (hR:B2 c=R):L8 Tryz.prog 31 [iv c] [] (ag (B3 R)):=by
 refine zco Tryz.func31 [(0,iv c)] fun X hX hr hD=>?_
 replace hR:=(B2.eq_1 ..).symm.trans hR
 refine sr 1 rfl (J9 1 0 [] (fun b1=>[(2,pt b1 0)]) (fun b1=>[bx b1 (B3 Cel.zero) 72]) (fun b1=>?_))
 refine ie (sr 3 rfl (zrg 3 0 [0] [] [bx b1 (B3 ({Cel.zero with base:=c})) 72] ?_))
 subst hR
 refine ie (B4 ?_)
 exact zer hr hD (Q3 rfl (H9 (us:=B3 ({Cel.zero with base:=c})) B4k rfl 0 rfl rfl rfl)) () (mk [false] rfl) fn0
def A8m (s:ScrC) (sMain:List (Rwc Cel)) (sAlt:List (Rwc Cel)) (sTabs:List Bool):FrmC×List (List Cel)×Int :=
 (bif (!decide ((I1 s sMain sAlt sTabs)=0)) then (FrmC.zero,([]:List (List Cel)),(I1 s sMain sAlt sTabs)) else (G6 (U1 s sMain sAlt sTabs) fun (y7:FrmC×List (List Cel))=>(y7.1,y7.2,0)))
theorem B6n (s:ScrC) (sMain:List (Rwc Cel)) (sAlt:List (Rwc Cel)) (sTabs:List Bool) (sMainq:Option Addr) (sMainrs:List Rwq) (sMaink:Nat) (sAltq:Option Addr) (sAltrs:List Rwq) (sAltk:Nat) (sTabsq:Option Addr) (sTabsk:Nat) (hrowssMainrs:E4 sMainrs sMain) (hlsMain:sMain.length≤9223372036854775807) (hcsMain:sMain.length≤sMaink) (hrowssAltrs:E4 sAltrs sAlt) (hlsAlt:sAlt.length≤9223372036854775807) (hcsAlt:sAlt.length≤sAltk) (hlsTabs:sTabs.length≤9223372036854775807) (hcsTabs:sTabs.length≤sTabsk) (hTs:s.title.length≤100000000) (R:FrmC×List (List Cel)×Int) (hR:A8m s sMain sAlt sTabs=R):Con Tryz.prog 19 [ag (B1 s ⟨sMainq,sMain.length,sMaink⟩ ⟨sAltq,sAlt.length,sAltk⟩ ⟨none,0,0⟩ ⟨sTabsq,sTabs.length,sTabsk⟩)] [] [sl C3 sMainq sMainrs,D5 B3 sMainrs sMain,sl C3 sAltq sAltrs,D5 B3 sAltrs sAlt,sl F8 sTabsq sTabs,A0w,A0v] ({t:VR×List Slc // VOk 1 R.2.1.length t.1∧C4 t.2 R.2.1}) (fun x=>.tuple #[ag (A0 R.1 ⟨va x.1.1.q,R.2.1.length,x.1.1.k⟩),iv R.2.2]) (fun x=>((vo C0 69 x.1.1 x.1.2)++([]))) (fun x=>[F0 B3 x.1.2 R.2.1]):=by
 refine zco Tryz.func19 [(0,ag (B1 s ⟨sMainq,sMain.length,sMaink⟩ ⟨sAltq,sAlt.length,sAltk⟩ ⟨none,0,0⟩ ⟨sTabsq,sTabs.length,sTabsk⟩))] fun X hX hr hD=>?_
 replace hR:=(A8m.eq_1 ..).symm.trans hR
 have:=hrowssMainrs.1
 have:=hrowssAltrs.1
 refine sr 3 rfl (A9u 3 0 [] (fun b1 b2=>[(1,pt b1 0),(2,pt b2 0)]) (fun b1 b2=>[bx b2 (A0 FrmC.zero ⟨none,0,0⟩) 26,bx b1 (B1 s ⟨sMainq,sMain.length,sMaink⟩ ⟨sAltq,sAlt.length,sAltk⟩ ⟨none,0,0⟩ ⟨sTabsq,sTabs.length,sTabsk⟩) 52]) (fun b1 b2=>?_))
 refine ie (A2 (sr 3 rfl (zrl 1 2 [1] [(5,ag (B1 s ⟨sMainq,sMain.length,sMaink⟩ ⟨sAltq,sAlt.length,sAltk⟩ ⟨none,0,0⟩ ⟨sTabsq,sTabs.length,sTabsk⟩))] ?_)))
 refine zca (A4b s sMain sAlt sTabs sMainq sMainrs sMaink sAltq sAltrs sAltk sTabsq sTabsk hrowssMainrs (by first|omega|(simp only [List.length_take,List.length_drop,List.length_append,List.length_cons,List.length_nil,List.length_set,List.length_map];omega)|decide) (by first|omega|(simp only [List.length_take,List.length_drop,List.length_append,List.length_cons,List.length_nil,List.length_set,List.length_map];omega)|decide) hrowssAltrs (by first|omega|(simp only [List.length_take,List.length_drop,List.length_append,List.length_cons,List.length_nil,List.length_set,List.length_map];omega)|decide) (by first|omega|(simp only [List.length_take,List.length_drop,List.length_append,List.length_cons,List.length_nil,List.length_set,List.length_map];omega)|decide) (by first|omega|(simp only [List.length_take,List.length_drop,List.length_append,List.length_cons,List.length_nil,List.length_set,List.length_map];omega)|decide) (by first|omega|(simp only [List.length_take,List.length_drop,List.length_append,List.length_cons,List.length_nil,List.length_set,List.length_map];omega)|decide) (by first|omega|(simp only [List.length_nil];omega)|(dsimp only;omega)) _ rfl) A5.refl ?_
 refine ip' 1 0 [(4,iv (I1 s sMain sAlt sTabs))] ?_
 refine ie (sr 2 rfl (ip' 2 0 [(8,bv (!decide ((I1 s sMain sAlt sTabs)=0)))] ?_))
 refine ie ?_
 refine zjn rfl hR ?_ ?_<;>clear hR<;>intro hR h3 h3p
 ·refine sr 4 rfl (zrg 4 0 [0] [(3,iv (I1 s sMain sAlt sTabs))] [bx b2 (A0 FrmC.zero ⟨none,0,0⟩) 26,bx b1 (B1 s ⟨sMainq,sMain.length,sMaink⟩ ⟨sAltq,sAlt.length,sAltk⟩ ⟨none,0,0⟩ ⟨sTabsq,sTabs.length,sTabsk⟩) 52] ?_)
  subst hR
  refine ie (B4 ?_)
  exact zer hr hD (R5 rfl (H9 (us:=A0 FrmC.zero ⟨none,0,0⟩) A4i rfl 0 rfl rfl rfl) (B5 rfl)) ⟨(VR.nil,([]:List Slc)),⟨VOk.nil,C4.none⟩⟩ (mc [[bx b2 (A0 FrmC.zero ⟨none,0,0⟩) 26],[bx b1 (B1 s ⟨sMainq,sMain.length,sMaink⟩ ⟨sAltq,sAlt.length,sAltk⟩ ⟨none,0,0⟩ ⟨sTabsq,sTabs.length,sTabsk⟩) 52],vo C0 69 VR.nil ([]:List Slc)] [false,false,true] rfl (by first|rfl|(simp only [List.length_set]<;>rfl))) (A5.con1 N5 fn0)
 have hsc:sMain.length≤100∧sAlt.length≤100:=by first|exact A9p (p:=sPast) (by first|exact h3p|simpa using h3)|exact A8t (by first|exact h3p|simpa using h3)
 refine A8 (nx (sr 4 rfl (zrl 1 3 [1] [(11,ag (B1 s ⟨sMainq,sMain.length,sMaink⟩ ⟨sAltq,sAlt.length,sAltk⟩ ⟨none,0,0⟩ ⟨sTabsq,sTabs.length,sTabsk⟩))] ?_)))
 have hQ:=H8 hR;clear hR;obtain ⟨y7,hy7,hR⟩:=hQ
 refine it rfl (G9 (L2:=[bx b2 (A0 FrmC.zero ⟨none,0,0⟩) 26,bx b1 (B1 s ⟨sMainq,sMain.length,sMaink⟩ ⟨sAltq,sAlt.length,sAltk⟩ ⟨none,0,0⟩ ⟨sTabsq,sTabs.length,sTabsk⟩) 52]) (A6z s sMain sAlt sTabs sMainq sMainrs sMaink sAltq sAltrs sAltk sTabsq sTabsk hrowssMainrs (by first|omega|(simp only [List.length_take,List.length_drop,List.length_append,List.length_cons,List.length_nil,List.length_set,List.length_map];omega)|decide) (by first|omega|(simp only [List.length_take,List.length_drop,List.length_append,List.length_cons,List.length_nil,List.length_set,List.length_map];omega)|decide) hrowssAltrs (by first|omega|(simp only [List.length_take,List.length_drop,List.length_append,List.length_cons,List.length_nil,List.length_set,List.length_map];omega)|decide) (by first|omega|(simp only [List.length_take,List.length_drop,List.length_append,List.length_cons,List.length_nil,List.length_set,List.length_map];omega)|decide) (by first|omega|(simp only [List.length_take,List.length_drop,List.length_append,List.length_cons,List.length_nil,List.length_set,List.length_map];omega)|decide) (by first|omega|(simp only [List.length_take,List.length_drop,List.length_append,List.length_cons,List.length_nil,List.length_set,List.length_map];omega)|decide) (by first|omega|(simp only [List.length_nil];omega)) (by first|omega|(simp only [List.length_nil];omega)) y7 hy7) rfl rfl rfl rfl rfl (A5.pick [0,1,2,3,4] rfl) (List.Perm.refl _) (fun ⟨⟨r4,rs5⟩,hp8⟩=>(bx b2 (A0 FrmC.zero ⟨none,0,0⟩) 26::bx b1 (B1 s ⟨sMainq,sMain.length,sMaink⟩ ⟨sAltq,sAlt.length,sAltk⟩ ⟨none,0,0⟩ ⟨sTabsq,sTabs.length,sTabsk⟩) 52::(vo C0 69 r4 rs5)++([]))) (fun ⟨⟨r4,rs5⟩,hp8⟩=>G1 [vo C0 69 r4 rs5,[bx b2 (A0 FrmC.zero ⟨none,0,0⟩) 26],[bx b1 (B1 s ⟨sMainq,sMain.length,sMaink⟩ ⟨sAltq,sAlt.length,sAltk⟩ ⟨none,0,0⟩ ⟨sTabsq,sTabs.length,sTabsk⟩) 52]] [1,2,0] 3 rfl (by decide) (by first|rfl|simp only [List.flatten_cons,List.flatten_nil,List.append_nil,List.cons_append,List.nil_append,List.append_assoc]) [[bx b2 (A0 FrmC.zero ⟨none,0,0⟩) 26],[bx b1 (B1 s ⟨sMainq,sMain.length,sMaink⟩ ⟨sAltq,sAlt.length,sAltk⟩ ⟨none,0,0⟩ ⟨sTabsq,sTabs.length,sTabsk⟩) 52],vo C0 69 r4 rs5] rfl (by first|rfl|simp only [List.flatten_cons,List.flatten_nil,List.append_nil,List.cons_append,List.nil_append,List.append_assoc]))) fun ⟨⟨r4,rs5⟩,hp8⟩=>?_
 try dsimp only at hp8
 obtain ⟨hk6,hw7⟩:=hp8
 have:=VOk.le hk6
 have:=VOk.cap hk6
 have:=hw7.1
 refine zrg 2 0 [0] [(3,iv 0)] (bx b2 (A0 y7.1 ⟨va r4.q,y7.2.length,r4.k⟩) 26::bx b1 (B1 s ⟨sMainq,sMain.length,sMaink⟩ ⟨sAltq,sAlt.length,sAltk⟩ ⟨none,0,0⟩ ⟨sTabsq,sTabs.length,sTabsk⟩) 52::(vo C0 69 r4 rs5)++([])) ?_
 subst hR
 refine ie (B4 ?_)
 exact zer hr hD (R5 rfl (H9 (us:=A0 y7.1 ⟨va r4.q,y7.2.length,r4.k⟩) A4i rfl 0 rfl rfl rfl) (B5 rfl)) ⟨(r4,rs5),⟨hk6,hw7⟩⟩ (mc [[bx b2 (A0 y7.1 ⟨va r4.q,y7.2.length,r4.k⟩) 26],[bx b1 (B1 s ⟨sMainq,sMain.length,sMaink⟩ ⟨sAltq,sAlt.length,sAltk⟩ ⟨none,0,0⟩ ⟨sTabsq,sTabs.length,sTabsk⟩) 52],vo C0 69 r4 rs5] [false,false,true] rfl (by first|rfl|(simp only [List.length_set]<;>rfl))) (A5.con1 (B8 0 rfl) fn0)
def A0z:Bool :=
 (G6 (N1 4 2) fun (y0:FrmC×List (List Cel)×Int)=>(bif ((((!decide (y0.2.2=0))||(!decide ((y0.2.1.length:Int)=2)))||(!decide (((y0.2.1.getD 0 []).length:Int)=4)))||(!y0.1.visible)) then false else (G6 (N1 2 1) fun (y4:FrmC×List (List Cel)×Int)=>(G6 (A2z y0.1 y0.2.1 y4.1 ([([(B2 120),(B2 121)]:List Cel)]:List (List Cel)) (⟨0,2⟩:Plc)) fun (y1:FrmC×List (List Cel)×Int)=>(G6 (A0j y1.1 y1.2.1 0 2 1 2) fun (y2:FrmC×List (List Cel)×Int)=>(G6 (A0x y1.1 y1.2.1) fun (y3:ScrC×List (Rwc Cel)×List (Rwc Cel)×List Bool×Int)=>(G6 (A8m y3.1 y3.2.1 y3.2.2.1 y3.2.2.2.1) fun (y5:FrmC×List (List Cel)×Int)=>(G6 (A0j y1.1 y1.2.1 0 0 1 1) fun (y6:FrmC×List (List Cel)×Int)=>(((((((((decide (y1.2.2=0))&&(decide (((y1.2.1.getD 0 []).getD 3 Cel.zero).base=121)))&&(decide (y2.2.2=0)))&&(decide (((y2.2.1.getD 0 []).getD 0 Cel.zero).base=120)))&&(decide (y3.2.2.2.2=0)))&&y3.1.onAlt)&&(decide (y5.2.2=0)))&&(W6 y5.1 y5.2.1 y1.1 y1.2.1))&&(decide (y6.2.2=2)))))))))))
theorem B2a (R:Bool) (hR:A0z=R):L8 Tryz.prog 12 [] [A0w,A0v] (bv R):=by
 refine zco Tryz.func12 [] fun X hX hr hD=>?_
 replace hR:=(A0z.eq_1 ..).symm.trans hR
 refine sr 1 rfl (ip' 1 0 [] ?_)
 refine ie (sr 7 rfl ?_)
 have hQ:=H8 hR;clear hR;obtain ⟨y0,hy0,hR⟩:=hQ
 refine it rfl (G3 (L2:=[]) (A2q 4 2 y0 hy0) rfl rfl rfl rfl rfl fn0 (List.Perm.refl _) (fun ⟨⟨r1,rs2⟩,hp5⟩=>((vo C0 69 r1 rs2)++([]))) (fun _=>by first|rfl|simp only [List.append_nil,List.cons_append,List.nil_append,List.append_assoc])) fun ⟨⟨r1,rs2⟩,hp5⟩=>?_
 try dsimp only at hp5
 obtain ⟨hk3,hw4⟩:=hp5
 have:=VOk.le hk3
 have:=VOk.cap hk3
 have:=hw4.1
 have ht_rframeBlank:=Y5 4 2;rw [hy0] at ht_rframeBlank
 refine O5 [] [] (T:=69) (c:=C0) (r:=r1) (xs:=rs2) (VOk.cast hk3 (by rw [hw4.1])) (by first|rfl|simp only [List.cons_append,List.append_assoc,List.nil_append,List.append_nil]) ?_
 refine J9 6 0 [0] (fun b6=>[(1,pt b6 0),(2,iv y0.2.2)]) (fun b6=>[bx b6 (A0 y0.1 ⟨va r1.q,y0.2.1.length,r1.k⟩) 26]) (fun b6=>?_)
 refine ie (A2 (sr 21 rfl (ip' 3 18 [(20,bv (!decide (y0.2.2=0)))] ?_)))
 refine zio 5 13 20 25 (!decide ((y0.2.1.length:Int)=2)) (fun g7=>?_) ?_
 ·have g7p:¬ (¬ y0.2.2=0):=by simpa using g7
  refine zrl 5 0 [0] [(25,bv (!decide ((y0.2.1.length:Int)=2)))] ?_
  exact zai 2 20 25 g7
 refine ip' 1 12 [(26,bv ((!decide (y0.2.2=0))||(!decide ((y0.2.1.length:Int)=2))))] ?_
 refine zio 7 5 26 33 (!decide (((y0.2.1.getD 0 []).length:Int)=4)) (fun g8=>?_) ?_
 ·have g8p:¬ ((¬ y0.2.2=0)∨(¬ (y0.2.1.length:Int)=2)):=by simpa using g8
  refine zrl 2 5 [0] [(28,.slice (va r1.q) y0.2.1.length r1.k)] ?_
  refine I9 0 rfl (by have:=hw4.1;omega) fun a9 hq10=>?_
  refine G5 (L5 (k:=0) (d:=(⟨none,0,0⟩:Slc)) hw4 1 rfl (by have:=hw4.1;omega)) ?_
  have:=L7 hw4 (k:=0) (d:=(⟨none,0,0⟩:Slc)) (by have:=hw4.1;omega)
  refine ix rfl (F4 S8 rfl rfl hq10 rfl 0 rfl (by omega)) ?_
  refine ix rfl (G2 (D8 (v:=.slice ((rs2.getD 0 (⟨none,0,0⟩:Slc)).q) ((rs2.getD 0 (⟨none,0,0⟩:Slc)).n) ((rs2.getD 0 (⟨none,0,0⟩:Slc)).k)) (us:=[.slice ((rs2.getD 0 (⟨none,0,0⟩:Slc)).q) ((rs2.getD 0 (⟨none,0,0⟩:Slc)).n) ((rs2.getD 0 (⟨none,0,0⟩:Slc)).k)]) A2a rfl rfl (H2 (c:=C0) (sz:=1) hq10 (fun _=>rfl) 1 rfl (gd (⟨none,0,0⟩:Slc) (by have:=hw4.1;omega))) rfl) (M3 hw4 (by have:=hw4.1;omega))) ?_
  refine ip' 3 0 [(33,bv (!decide (((y0.2.1.getD 0 []).length:Int)=4)))] ?_
  exact A6 (M1 5 26 33 g8 (A5.pick [1,2,3,4] rfl) (mk [true] rfl) rfl rfl rfl rfl rfl)
 refine ip' 1 4 [(34,bv (((!decide (y0.2.2=0))||(!decide ((y0.2.1.length:Int)=2)))||(!decide (((y0.2.1.getD 0 []).length:Int)=4))))] ?_
 refine zio 4 0 34 38 (!y0.1.visible) (fun g11=>?_) ?_
 ·have g11p:¬ (((¬ y0.2.2=0)∨(¬ (y0.2.1.length:Int)=2))∨(¬ ((y0.2.1.getD 0 []).length:Int)=4)):=by simpa using g11
  refine zrl 4 0 [0] [(38,bv (!y0.1.visible))] ?_
  exact zai 2 34 38 g11
 refine ie ?_
 refine zjb rfl hR ?_ ?_<;>clear hR<;>intro hR h12
 ·have h12p:=h12;try simp only [Bool.and_eq_true,Bool.or_eq_true,Bool.and_eq_false_iff,Bool.or_eq_false_iff,Bool.not_eq_true',Bool.not_eq_false',decide_eq_true_eq,decide_eq_false_iff_not] at h12p
  refine sr 1 rfl (ip' 1 0 [(0,bv false)] ?_)
  subst hR
  refine ie (B4 ?_)
  exact F5 hr hD
 have h12p:=h12;try simp only [Bool.and_eq_true,Bool.or_eq_true,Bool.and_eq_false_iff,Bool.or_eq_false_iff,Bool.not_eq_true',Bool.not_eq_false',decide_eq_true_eq,decide_eq_false_iff_not] at h12p
 refine A8 (nx (sr 7 rfl ?_))
 have hQ:=H8 hR;clear hR;obtain ⟨y4,hy4,hR⟩:=hQ
 refine it rfl (G9 (L2:=[bx b6 (A0 y0.1 ⟨va r1.q,y0.2.1.length,r1.k⟩) 26]) (A2q 2 1 y4 hy4) rfl rfl rfl rfl rfl fn0 (List.Perm.refl _) (fun ⟨⟨r13,rs14⟩,hp17⟩=>(bx b6 (A0 y0.1 ⟨va r1.q,y0.2.1.length,r1.k⟩) 26::(vo C0 69 r13 rs14)++([]))) (fun ⟨⟨r13,rs14⟩,hp17⟩=>G1 [vo C0 69 r13 rs14,[bx b6 (A0 y0.1 ⟨va r1.q,y0.2.1.length,r1.k⟩) 26]] [1,0] 2 rfl (by decide) (by first|rfl|simp only [List.flatten_cons,List.flatten_nil,List.append_nil,List.cons_append,List.nil_append,List.append_assoc]) [[bx b6 (A0 y0.1 ⟨va r1.q,y0.2.1.length,r1.k⟩) 26],vo C0 69 r13 rs14] rfl (by first|rfl|simp only [List.flatten_cons,List.flatten_nil,List.append_nil,List.cons_append,List.nil_append,List.append_assoc]))) fun ⟨⟨r13,rs14⟩,hp17⟩=>?_
 try dsimp only at hp17
 obtain ⟨hk15,hw16⟩:=hp17
 have:=VOk.le hk15
 have:=VOk.cap hk15
 have:=hw16.1
 have ht_rframeBlank1:=Y5 2 1;rw [hy4] at ht_rframeBlank1
 refine O5 [bx b6 (A0 y0.1 ⟨va r1.q,y0.2.1.length,r1.k⟩) 26] [] (T:=69) (c:=C0) (r:=r13) (xs:=rs14) (VOk.cast hk15 (by rw [hw16.1])) (by first|rfl|simp only [List.cons_append,List.append_assoc,List.nil_append,List.append_nil]) ?_
 refine J9 6 0 [0] (fun b18=>[(3,pt b18 0)]) (fun b18=>[bx b18 (A0 y4.1 ⟨va r13.q,y4.2.1.length,r13.k⟩) 26,bx b6 (A0 y0.1 ⟨va r1.q,y0.2.1.length,r1.k⟩) 26]) (fun b18=>?_)
 refine ie (sr 6 rfl (zca (A7b 120 _ rfl) fn0 ?_))
 refine zca (A7b 121 _ rfl) fn0 ?_
 refine it rfl (F3 (c:=B3) (xs:=([(B2 120),(B2 121)]:List Cel)) Q7 rfl rfl rfl (by kernel_rfl)) fun b19=>?_
 have:([(B2 120),(B2 121)]:List Cel).length=2:=rfl
 refine it rfl (F3 (c:=C0) (xs:=([⟨some ⟨b19,0,none⟩,2,2⟩]:List Slc)) S8 rfl rfl rfl (by kernel_rfl)) fun b20=>?_
 have hrows21:C4 ([⟨some ⟨b19,0,none⟩,2,2⟩]:List Slc) ([([(B2 120),(B2 121)]:List Cel)]:List (List Cel)):=(C4.cons ⟨rfl,(by first|omega|(simp only [List.length_take,List.length_drop,List.length_append,List.length_cons,List.length_nil,List.length_set,List.length_map];omega)|decide),(by first|omega|(simp only [List.length_take,List.length_drop,List.length_append,List.length_cons,List.length_nil,List.length_set,List.length_map];omega)|decide)⟩ C4.none)
 refine G5 (q:=F0 B3 ([⟨some ⟨b19,0,none⟩,2,2⟩]:List Slc) ([([(B2 120),(B2 121)]:List Cel)]:List (List Cel))) (A0m (B8 1 rfl) N5) ?_
 have:([⟨some ⟨b19,0,none⟩,2,2⟩]:List Slc).length=1:=rfl
 refine zrg 2 0 [0] [] [bx b18 (A0 y4.1 ⟨some ⟨b20,0,none⟩,([([(B2 120),(B2 121)]:List Cel)]:List (List Cel)).length,1⟩) 26,bx b6 (A0 y0.1 ⟨va r1.q,y0.2.1.length,r1.k⟩) 26] ?_
 refine ie (sr 10 rfl (zrl 3 7 [1,0] [(49,ag (A0 y0.1 ⟨va r1.q,y0.2.1.length,r1.k⟩)),(50,ag (A0 y4.1 ⟨some ⟨b20,0,none⟩,([([(B2 120),(B2 121)]:List Cel)]:List (List Cel)).length,1⟩)),(51,ag (I5 (⟨0,2⟩:Plc)))] ?_))
 have hQ:=H8 hR;clear hR;obtain ⟨y1,hy1,hR⟩:=hQ
 refine it rfl (G9 (L2:=[bx b18 (A0 y4.1 ⟨some ⟨b20,0,none⟩,([([(B2 120),(B2 121)]:List Cel)]:List (List Cel)).length,1⟩) 26,bx b6 (A0 y0.1 ⟨va r1.q,y0.2.1.length,r1.k⟩) 26]) (B4z y0.1 y0.2.1 y4.1 ([([(B2 120),(B2 121)]:List Cel)]:List (List Cel)) (⟨0,2⟩:Plc) (va r1.q) rs2 r1.k (some ⟨b20,0,none⟩) ([⟨some ⟨b19,0,none⟩,2,2⟩]:List Slc) 1 hw4 (by first|omega|(simp only [List.length_take,List.length_drop,List.length_append,List.length_cons,List.length_nil,List.length_set,List.length_map];omega)|decide) (by first|omega|(simp only [List.length_take,List.length_drop,List.length_append,List.length_cons,List.length_nil,List.length_set,List.length_map];omega)|decide) hrows21 (by first|omega|(simp only [List.length_take,List.length_drop,List.length_append,List.length_cons,List.length_nil,List.length_set,List.length_map];omega)|decide) (by first|omega|(simp only [List.length_take,List.length_drop,List.length_append,List.length_cons,List.length_nil,List.length_set,List.length_map];omega)|decide) (by first|omega|(simp only [List.length_nil];omega)|(dsimp only;omega)) (by first|omega|(simp only [List.length_nil];omega)|(dsimp only;omega)) y1 hy1) rfl rfl rfl rfl rfl (A5.pick [5,6,1,0,7,8] rfl) (List.Perm.refl _) (fun ⟨⟨r22,rs23⟩,hp26⟩=>(bx b18 (A0 y4.1 ⟨some ⟨b20,0,none⟩,([([(B2 120),(B2 121)]:List Cel)]:List (List Cel)).length,1⟩) 26::bx b6 (A0 y0.1 ⟨va r1.q,y0.2.1.length,r1.k⟩) 26::(vo C0 69 r22 rs23)++([]))) (fun ⟨⟨r22,rs23⟩,hp26⟩=>G1 [vo C0 69 r22 rs23,[bx b18 (A0 y4.1 ⟨some ⟨b20,0,none⟩,([([(B2 120),(B2 121)]:List Cel)]:List (List Cel)).length,1⟩) 26],[bx b6 (A0 y0.1 ⟨va r1.q,y0.2.1.length,r1.k⟩) 26]] [1,2,0] 3 rfl (by decide) (by first|rfl|simp only [List.flatten_cons,List.flatten_nil,List.append_nil,List.cons_append,List.nil_append,List.append_assoc]) [[bx b18 (A0 y4.1 ⟨some ⟨b20,0,none⟩,([([(B2 120),(B2 121)]:List Cel)]:List (List Cel)).length,1⟩) 26],[bx b6 (A0 y0.1 ⟨va r1.q,y0.2.1.length,r1.k⟩) 26],vo C0 69 r22 rs23] rfl (by first|rfl|simp only [List.flatten_cons,List.flatten_nil,List.append_nil,List.cons_append,List.nil_append,List.append_assoc]))) fun ⟨⟨r22,rs23⟩,hp26⟩=>?_
 try dsimp only at hp26
 obtain ⟨hk24,hw25⟩:=hp26
 have:=VOk.le hk24
 have:=VOk.cap hk24
 have:=hw25.1
 have ht_rframePut:=B0d y0.1 y0.2.1 y4.1 ([([(B2 120),(B2 121)]:List Cel)]:List (List Cel)) (⟨0,2⟩:Plc);rw [hy1] at ht_rframePut
 refine O5 [bx b18 (A0 y4.1 ⟨some ⟨b20,0,none⟩,([([(B2 120),(B2 121)]:List Cel)]:List (List Cel)).length,1⟩) 26,bx b6 (A0 y0.1 ⟨va r1.q,y0.2.1.length,r1.k⟩) 26] [] (T:=69) (c:=C0) (r:=r22) (xs:=rs23) (VOk.cast hk24 (by rw [hw25.1])) (by first|rfl|simp only [List.cons_append,List.append_assoc,List.nil_append,List.append_nil]) ?_
 refine J9 6 0 [0] (fun b27=>[(5,pt b27 0),(2,iv y1.2.2)]) (fun b27=>[bx b27 (A0 y1.1 ⟨va r22.q,y1.2.1.length,r22.k⟩) 26,bx b18 (A0 y4.1 ⟨some ⟨b20,0,none⟩,([([(B2 120),(B2 121)]:List Cel)]:List (List Cel)).length,1⟩) 26,bx b6 (A0 y0.1 ⟨va r1.q,y0.2.1.length,r1.k⟩) 26]) (fun b27=>?_)
 refine ie (sr 9 rfl (zrl 2 7 [0] [(56,ag (A0 y1.1 ⟨va r22.q,y1.2.1.length,r22.k⟩)),(57,ag [iv 0,iv 2,iv 1,iv 2])] ?_))
 have hQ:=H8 hR;clear hR;obtain ⟨y2,hy2,hR⟩:=hQ
 refine it rfl (G9 (L2:=[bx b27 (A0 y1.1 ⟨va r22.q,y1.2.1.length,r22.k⟩) 26,bx b18 (A0 y4.1 ⟨some ⟨b20,0,none⟩,([([(B2 120),(B2 121)]:List Cel)]:List (List Cel)).length,1⟩) 26,bx b6 (A0 y0.1 ⟨va r1.q,y0.2.1.length,r1.k⟩) 26]) (A7z y1.1 y1.2.1 0 2 1 2 (va r22.q) rs23 r22.k hw25 (by first|omega|(simp only [List.length_take,List.length_drop,List.length_append,List.length_cons,List.length_nil,List.length_set,List.length_map];omega)|decide) (by first|omega|(simp only [List.length_take,List.length_drop,List.length_append,List.length_cons,List.length_nil,List.length_set,List.length_map];omega)|decide) (by first|omega|(simp only [List.length_nil];omega)|(dsimp only;omega)) y2 hy2) rfl rfl rfl rfl rfl (A5.pick [0,1,9,10] rfl) (List.Perm.refl _) (fun ⟨⟨r28,rs29⟩,hp32⟩=>(bx b27 (A0 y1.1 ⟨va r22.q,y1.2.1.length,r22.k⟩) 26::bx b18 (A0 y4.1 ⟨some ⟨b20,0,none⟩,([([(B2 120),(B2 121)]:List Cel)]:List (List Cel)).length,1⟩) 26::bx b6 (A0 y0.1 ⟨va r1.q,y0.2.1.length,r1.k⟩) 26::(vo C0 69 r28 rs29)++([]))) (fun ⟨⟨r28,rs29⟩,hp32⟩=>G1 [vo C0 69 r28 rs29,[bx b27 (A0 y1.1 ⟨va r22.q,y1.2.1.length,r22.k⟩) 26],[bx b18 (A0 y4.1 ⟨some ⟨b20,0,none⟩,([([(B2 120),(B2 121)]:List Cel)]:List (List Cel)).length,1⟩) 26],[bx b6 (A0 y0.1 ⟨va r1.q,y0.2.1.length,r1.k⟩) 26]] [1,2,3,0] 4 rfl (by decide) (by first|rfl|simp only [List.flatten_cons,List.flatten_nil,List.append_nil,List.cons_append,List.nil_append,List.append_assoc]) [[bx b27 (A0 y1.1 ⟨va r22.q,y1.2.1.length,r22.k⟩) 26],[bx b18 (A0 y4.1 ⟨some ⟨b20,0,none⟩,([([(B2 120),(B2 121)]:List Cel)]:List (List Cel)).length,1⟩) 26],[bx b6 (A0 y0.1 ⟨va r1.q,y0.2.1.length,r1.k⟩) 26],vo C0 69 r28 rs29] rfl (by first|rfl|simp only [List.flatten_cons,List.flatten_nil,List.append_nil,List.cons_append,List.nil_append,List.append_assoc]))) fun ⟨⟨r28,rs29⟩,hp32⟩=>?_
 try dsimp only at hp32
 obtain ⟨hk30,hw31⟩:=hp32
 have:=VOk.le hk30
 have:=VOk.cap hk30
 have:=hw31.1
 have ht_rframePart:=A3c y1.1 y1.2.1 0 2 1 2;rw [hy2] at ht_rframePart
 refine O5 [bx b27 (A0 y1.1 ⟨va r22.q,y1.2.1.length,r22.k⟩) 26,bx b18 (A0 y4.1 ⟨some ⟨b20,0,none⟩,([([(B2 120),(B2 121)]:List Cel)]:List (List Cel)).length,1⟩) 26,bx b6 (A0 y0.1 ⟨va r1.q,y0.2.1.length,r1.k⟩) 26] [] (T:=69) (c:=C0) (r:=r28) (xs:=rs29) (VOk.cast hk30 (by rw [hw31.1])) (by first|rfl|simp only [List.cons_append,List.append_assoc,List.nil_append,List.append_nil]) ?_
 refine J9 6 0 [0] (fun b33=>[(6,pt b33 0),(7,iv y2.2.2)]) (fun b33=>[bx b33 (A0 y2.1 ⟨va r28.q,y2.2.1.length,r28.k⟩) 26,bx b27 (A0 y1.1 ⟨va r22.q,y1.2.1.length,r22.k⟩) 26,bx b18 (A0 y4.1 ⟨some ⟨b20,0,none⟩,([([(B2 120),(B2 121)]:List Cel)]:List (List Cel)).length,1⟩) 26,bx b6 (A0 y0.1 ⟨va r1.q,y0.2.1.length,r1.k⟩) 26]) (fun b33=>?_)
 refine ie (sr 8 rfl (zrl 1 7 [1] [(62,ag (A0 y1.1 ⟨va r22.q,y1.2.1.length,r22.k⟩))] ?_))
 have hQ:=H8 hR;clear hR;obtain ⟨y3,hy3,hR⟩:=hQ
 refine it rfl (G9 (L2:=[bx b33 (A0 y2.1 ⟨va r28.q,y2.2.1.length,r28.k⟩) 26,bx b27 (A0 y1.1 ⟨va r22.q,y1.2.1.length,r22.k⟩) 26,bx b18 (A0 y4.1 ⟨some ⟨b20,0,none⟩,([([(B2 120),(B2 121)]:List Cel)]:List (List Cel)).length,1⟩) 26,bx b6 (A0 y0.1 ⟨va r1.q,y0.2.1.length,r1.k⟩) 26]) (B2c y1.1 y1.2.1 (va r22.q) rs23 r22.k hw25 (by first|omega|(simp only [List.length_take,List.length_drop,List.length_append,List.length_cons,List.length_nil,List.length_set,List.length_map];omega)|decide) (by first|omega|(simp only [List.length_take,List.length_drop,List.length_append,List.length_cons,List.length_nil,List.length_set,List.length_map];omega)|decide) (by first|omega|(simp only [List.length_nil];omega)|(dsimp only;omega)) y3 hy3) rfl rfl rfl rfl rfl (A5.pick [2,3,11,12] rfl) (List.Perm.refl _) (fun ⟨⟨⟨q34,rs35,k36⟩,hp39⟩,⟨⟨r41,rs42⟩,hp45⟩,⟨⟨q46,k47⟩,hp48⟩⟩=>(bx b33 (A0 y2.1 ⟨va r28.q,y2.2.1.length,r28.k⟩) 26::bx b27 (A0 y1.1 ⟨va r22.q,y1.2.1.length,r22.k⟩) 26::bx b18 (A0 y4.1 ⟨some ⟨b20,0,none⟩,([([(B2 120),(B2 121)]:List Cel)]:List (List Cel)).length,1⟩) 26::bx b6 (A0 y0.1 ⟨va r1.q,y0.2.1.length,r1.k⟩) 26::(vo C3 78 r41 rs42)++([]))) (fun ⟨⟨⟨q34,rs35,k36⟩,hp39⟩,⟨⟨r41,rs42⟩,hp45⟩,⟨⟨q46,k47⟩,hp48⟩⟩=>G1 [vo C3 78 r41 rs42,[bx b33 (A0 y2.1 ⟨va r28.q,y2.2.1.length,r28.k⟩) 26],[bx b27 (A0 y1.1 ⟨va r22.q,y1.2.1.length,r22.k⟩) 26],[bx b18 (A0 y4.1 ⟨some ⟨b20,0,none⟩,([([(B2 120),(B2 121)]:List Cel)]:List (List Cel)).length,1⟩) 26],[bx b6 (A0 y0.1 ⟨va r1.q,y0.2.1.length,r1.k⟩) 26]] [1,2,3,4,0] 5 rfl (by decide) (by first|rfl|simp only [List.flatten_cons,List.flatten_nil,List.append_nil,List.cons_append,List.nil_append,List.append_assoc]) [[bx b33 (A0 y2.1 ⟨va r28.q,y2.2.1.length,r28.k⟩) 26],[bx b27 (A0 y1.1 ⟨va r22.q,y1.2.1.length,r22.k⟩) 26],[bx b18 (A0 y4.1 ⟨some ⟨b20,0,none⟩,([([(B2 120),(B2 121)]:List Cel)]:List (List Cel)).length,1⟩) 26],[bx b6 (A0 y0.1 ⟨va r1.q,y0.2.1.length,r1.k⟩) 26],vo C3 78 r41 rs42] rfl (by first|rfl|simp only [List.flatten_cons,List.flatten_nil,List.append_nil,List.cons_append,List.nil_append,List.append_assoc]))) fun ⟨⟨⟨q34,rs35,k36⟩,hp39⟩,⟨⟨r41,rs42⟩,hp45⟩,⟨⟨q46,k47⟩,hp48⟩⟩=>?_
 obtain ⟨hr37,hc38,hl40⟩:=hp39
 try dsimp only at hp45
 obtain ⟨hk43,hw44⟩:=hp45
 obtain ⟨hc49,hl50⟩:=hp48
 have:=VOk.le hk43
 have:=VOk.cap hk43
 have:=hr37.1
 have:=hw44.1
 have ht_rframeShows:=A7n y1.1 y1.2.1;rw [hy3] at ht_rframeShows
 refine O5 [bx b33 (A0 y2.1 ⟨va r28.q,y2.2.1.length,r28.k⟩) 26,bx b27 (A0 y1.1 ⟨va r22.q,y1.2.1.length,r22.k⟩) 26,bx b18 (A0 y4.1 ⟨some ⟨b20,0,none⟩,([([(B2 120),(B2 121)]:List Cel)]:List (List Cel)).length,1⟩) 26,bx b6 (A0 y0.1 ⟨va r1.q,y0.2.1.length,r1.k⟩) 26] [] (T:=78) (c:=C3) (r:=r41) (xs:=rs42) (VOk.cast hk43 (by rw [hw44.1])) (by first|rfl|simp only [List.cons_append,List.append_assoc,List.nil_append,List.append_nil]) ?_
 refine J9 6 0 [0] (fun b51=>[(8,pt b51 0),(9,iv y3.2.2.2.2)]) (fun b51=>[bx b51 (B1 y3.1 ⟨q34,y3.2.1.length,k36⟩ ⟨va r41.q,y3.2.2.1.length,r41.k⟩ ⟨none,0,0⟩ ⟨q46,y3.2.2.2.1.length,k47⟩) 52,bx b33 (A0 y2.1 ⟨va r28.q,y2.2.1.length,r28.k⟩) 26,bx b27 (A0 y1.1 ⟨va r22.q,y1.2.1.length,r22.k⟩) 26,bx b18 (A0 y4.1 ⟨some ⟨b20,0,none⟩,([([(B2 120),(B2 121)]:List Cel)]:List (List Cel)).length,1⟩) 26,bx b6 (A0 y0.1 ⟨va r1.q,y0.2.1.length,r1.k⟩) 26]) (fun b51=>?_)
 refine ie (sr 8 rfl (zrl 1 7 [0] [(67,ag (B1 y3.1 ⟨q34,y3.2.1.length,k36⟩ ⟨va r41.q,y3.2.2.1.length,r41.k⟩ ⟨none,0,0⟩ ⟨q46,y3.2.2.2.1.length,k47⟩))] ?_))
 have hQ:=H8 hR;clear hR;obtain ⟨y5,hy5,hR⟩:=hQ
 refine it rfl (G9 (L2:=[bx b51 (B1 y3.1 ⟨q34,y3.2.1.length,k36⟩ ⟨va r41.q,y3.2.2.1.length,r41.k⟩ ⟨none,0,0⟩ ⟨q46,y3.2.2.2.1.length,k47⟩) 52,bx b33 (A0 y2.1 ⟨va r28.q,y2.2.1.length,r28.k⟩) 26,bx b27 (A0 y1.1 ⟨va r22.q,y1.2.1.length,r22.k⟩) 26,bx b18 (A0 y4.1 ⟨some ⟨b20,0,none⟩,([([(B2 120),(B2 121)]:List Cel)]:List (List Cel)).length,1⟩) 26,bx b6 (A0 y0.1 ⟨va r1.q,y0.2.1.length,r1.k⟩) 26]) (B6n y3.1 y3.2.1 y3.2.2.1 y3.2.2.2.1 q34 rs35 k36 (va r41.q) rs42 r41.k q46 k47 hr37 (by first|omega|(simp only [List.length_take,List.length_drop,List.length_append,List.length_cons,List.length_nil,List.length_set,List.length_map];omega)|decide) (by first|omega|(simp only [List.length_take,List.length_drop,List.length_append,List.length_cons,List.length_nil,List.length_set,List.length_map];omega)|decide) hw44 (by first|omega|(simp only [List.length_take,List.length_drop,List.length_append,List.length_cons,List.length_nil,List.length_set,List.length_map];omega)|decide) (by first|omega|(simp only [List.length_take,List.length_drop,List.length_append,List.length_cons,List.length_nil,List.length_set,List.length_map];omega)|decide) (by first|omega|(simp only [List.length_take,List.length_drop,List.length_append,List.length_cons,List.length_nil,List.length_set,List.length_map];omega)|decide) (by first|omega|(simp only [List.length_take,List.length_drop,List.length_append,List.length_cons,List.length_nil,List.length_set,List.length_map];omega)|decide) (by first|omega|(simp only [List.length_nil];omega)|(dsimp only;omega)) y5 hy5) rfl rfl rfl rfl rfl (A5.pick [1,2,0,3,4,16,17] rfl) (List.Perm.refl _) (fun ⟨⟨r52,rs53⟩,hp56⟩=>(bx b51 (B1 y3.1 ⟨q34,y3.2.1.length,k36⟩ ⟨va r41.q,y3.2.2.1.length,r41.k⟩ ⟨none,0,0⟩ ⟨q46,y3.2.2.2.1.length,k47⟩) 52::bx b33 (A0 y2.1 ⟨va r28.q,y2.2.1.length,r28.k⟩) 26::bx b27 (A0 y1.1 ⟨va r22.q,y1.2.1.length,r22.k⟩) 26::bx b18 (A0 y4.1 ⟨some ⟨b20,0,none⟩,([([(B2 120),(B2 121)]:List Cel)]:List (List Cel)).length,1⟩) 26::bx b6 (A0 y0.1 ⟨va r1.q,y0.2.1.length,r1.k⟩) 26::(vo C0 69 r52 rs53)++([]))) (fun ⟨⟨r52,rs53⟩,hp56⟩=>G1 [vo C0 69 r52 rs53,[bx b51 (B1 y3.1 ⟨q34,y3.2.1.length,k36⟩ ⟨va r41.q,y3.2.2.1.length,r41.k⟩ ⟨none,0,0⟩ ⟨q46,y3.2.2.2.1.length,k47⟩) 52],[bx b33 (A0 y2.1 ⟨va r28.q,y2.2.1.length,r28.k⟩) 26],[bx b27 (A0 y1.1 ⟨va r22.q,y1.2.1.length,r22.k⟩) 26],[bx b18 (A0 y4.1 ⟨some ⟨b20,0,none⟩,([([(B2 120),(B2 121)]:List Cel)]:List (List Cel)).length,1⟩) 26],[bx b6 (A0 y0.1 ⟨va r1.q,y0.2.1.length,r1.k⟩) 26]] [1,2,3,4,5,0] 6 rfl (by decide) (by first|rfl|simp only [List.flatten_cons,List.flatten_nil,List.append_nil,List.cons_append,List.nil_append,List.append_assoc]) [[bx b51 (B1 y3.1 ⟨q34,y3.2.1.length,k36⟩ ⟨va r41.q,y3.2.2.1.length,r41.k⟩ ⟨none,0,0⟩ ⟨q46,y3.2.2.2.1.length,k47⟩) 52],[bx b33 (A0 y2.1 ⟨va r28.q,y2.2.1.length,r28.k⟩) 26],[bx b27 (A0 y1.1 ⟨va r22.q,y1.2.1.length,r22.k⟩) 26],[bx b18 (A0 y4.1 ⟨some ⟨b20,0,none⟩,([([(B2 120),(B2 121)]:List Cel)]:List (List Cel)).length,1⟩) 26],[bx b6 (A0 y0.1 ⟨va r1.q,y0.2.1.length,r1.k⟩) 26],vo C0 69 r52 rs53] rfl (by first|rfl|simp only [List.flatten_cons,List.flatten_nil,List.append_nil,List.cons_append,List.nil_append,List.append_assoc]))) fun ⟨⟨r52,rs53⟩,hp56⟩=>?_
 try dsimp only at hp56
 obtain ⟨hk54,hw55⟩:=hp56
 have:=VOk.le hk54
 have:=VOk.cap hk54
 have:=hw55.1
 refine O5 [bx b51 (B1 y3.1 ⟨q34,y3.2.1.length,k36⟩ ⟨va r41.q,y3.2.2.1.length,r41.k⟩ ⟨none,0,0⟩ ⟨q46,y3.2.2.2.1.length,k47⟩) 52,bx b33 (A0 y2.1 ⟨va r28.q,y2.2.1.length,r28.k⟩) 26,bx b27 (A0 y1.1 ⟨va r22.q,y1.2.1.length,r22.k⟩) 26,bx b18 (A0 y4.1 ⟨some ⟨b20,0,none⟩,([([(B2 120),(B2 121)]:List Cel)]:List (List Cel)).length,1⟩) 26,bx b6 (A0 y0.1 ⟨va r1.q,y0.2.1.length,r1.k⟩) 26] [] (T:=69) (c:=C0) (r:=r52) (xs:=rs53) (VOk.cast hk54 (by rw [hw55.1])) (by first|rfl|simp only [List.cons_append,List.append_assoc,List.nil_append,List.append_nil]) ?_
 refine J9 6 0 [0] (fun b57=>[(10,pt b57 0),(11,iv y5.2.2)]) (fun b57=>[bx b57 (A0 y5.1 ⟨va r52.q,y5.2.1.length,r52.k⟩) 26,bx b51 (B1 y3.1 ⟨q34,y3.2.1.length,k36⟩ ⟨va r41.q,y3.2.2.1.length,r41.k⟩ ⟨none,0,0⟩ ⟨q46,y3.2.2.2.1.length,k47⟩) 52,bx b33 (A0 y2.1 ⟨va r28.q,y2.2.1.length,r28.k⟩) 26,bx b27 (A0 y1.1 ⟨va r22.q,y1.2.1.length,r22.k⟩) 26,bx b18 (A0 y4.1 ⟨some ⟨b20,0,none⟩,([([(B2 120),(B2 121)]:List Cel)]:List (List Cel)).length,1⟩) 26,bx b6 (A0 y0.1 ⟨va r1.q,y0.2.1.length,r1.k⟩) 26]) (fun b57=>?_)
 refine ie (sr 9 rfl (zrl 2 7 [3] [(72,ag (A0 y1.1 ⟨va r22.q,y1.2.1.length,r22.k⟩)),(73,ag [iv 0,iv 0,iv 1,iv 1])] ?_))
 have hQ:=H8 hR;clear hR;obtain ⟨y6,hy6,hR⟩:=hQ
 refine it rfl (G9 (L2:=[bx b57 (A0 y5.1 ⟨va r52.q,y5.2.1.length,r52.k⟩) 26,bx b51 (B1 y3.1 ⟨q34,y3.2.1.length,k36⟩ ⟨va r41.q,y3.2.2.1.length,r41.k⟩ ⟨none,0,0⟩ ⟨q46,y3.2.2.2.1.length,k47⟩) 52,bx b33 (A0 y2.1 ⟨va r28.q,y2.2.1.length,r28.k⟩) 26,bx b27 (A0 y1.1 ⟨va r22.q,y1.2.1.length,r22.k⟩) 26,bx b18 (A0 y4.1 ⟨some ⟨b20,0,none⟩,([([(B2 120),(B2 121)]:List Cel)]:List (List Cel)).length,1⟩) 26,bx b6 (A0 y0.1 ⟨va r1.q,y0.2.1.length,r1.k⟩) 26]) (A7z y1.1 y1.2.1 0 0 1 1 (va r22.q) rs23 r22.k hw25 (by first|omega|(simp only [List.length_take,List.length_drop,List.length_append,List.length_cons,List.length_nil,List.length_set,List.length_map];omega)|decide) (by first|omega|(simp only [List.length_take,List.length_drop,List.length_append,List.length_cons,List.length_nil,List.length_set,List.length_map];omega)|decide) (by first|omega|(simp only [List.length_nil];omega)|(dsimp only;omega)) y6 hy6) rfl rfl rfl rfl rfl (A5.pick [9,10,18,19] rfl) (List.Perm.refl _) (fun ⟨⟨r58,rs59⟩,hp62⟩=>(bx b57 (A0 y5.1 ⟨va r52.q,y5.2.1.length,r52.k⟩) 26::bx b51 (B1 y3.1 ⟨q34,y3.2.1.length,k36⟩ ⟨va r41.q,y3.2.2.1.length,r41.k⟩ ⟨none,0,0⟩ ⟨q46,y3.2.2.2.1.length,k47⟩) 52::bx b33 (A0 y2.1 ⟨va r28.q,y2.2.1.length,r28.k⟩) 26::bx b27 (A0 y1.1 ⟨va r22.q,y1.2.1.length,r22.k⟩) 26::bx b18 (A0 y4.1 ⟨some ⟨b20,0,none⟩,([([(B2 120),(B2 121)]:List Cel)]:List (List Cel)).length,1⟩) 26::bx b6 (A0 y0.1 ⟨va r1.q,y0.2.1.length,r1.k⟩) 26::(vo C0 69 r58 rs59)++([]))) (fun ⟨⟨r58,rs59⟩,hp62⟩=>G1 [vo C0 69 r58 rs59,[bx b57 (A0 y5.1 ⟨va r52.q,y5.2.1.length,r52.k⟩) 26],[bx b51 (B1 y3.1 ⟨q34,y3.2.1.length,k36⟩ ⟨va r41.q,y3.2.2.1.length,r41.k⟩ ⟨none,0,0⟩ ⟨q46,y3.2.2.2.1.length,k47⟩) 52],[bx b33 (A0 y2.1 ⟨va r28.q,y2.2.1.length,r28.k⟩) 26],[bx b27 (A0 y1.1 ⟨va r22.q,y1.2.1.length,r22.k⟩) 26],[bx b18 (A0 y4.1 ⟨some ⟨b20,0,none⟩,([([(B2 120),(B2 121)]:List Cel)]:List (List Cel)).length,1⟩) 26],[bx b6 (A0 y0.1 ⟨va r1.q,y0.2.1.length,r1.k⟩) 26]] [1,2,3,4,5,6,0] 7 rfl (by decide) (by first|rfl|simp only [List.flatten_cons,List.flatten_nil,List.append_nil,List.cons_append,List.nil_append,List.append_assoc]) [[bx b57 (A0 y5.1 ⟨va r52.q,y5.2.1.length,r52.k⟩) 26],[bx b51 (B1 y3.1 ⟨q34,y3.2.1.length,k36⟩ ⟨va r41.q,y3.2.2.1.length,r41.k⟩ ⟨none,0,0⟩ ⟨q46,y3.2.2.2.1.length,k47⟩) 52],[bx b33 (A0 y2.1 ⟨va r28.q,y2.2.1.length,r28.k⟩) 26],[bx b27 (A0 y1.1 ⟨va r22.q,y1.2.1.length,r22.k⟩) 26],[bx b18 (A0 y4.1 ⟨some ⟨b20,0,none⟩,([([(B2 120),(B2 121)]:List Cel)]:List (List Cel)).length,1⟩) 26],[bx b6 (A0 y0.1 ⟨va r1.q,y0.2.1.length,r1.k⟩) 26],vo C0 69 r58 rs59] rfl (by first|rfl|simp only [List.flatten_cons,List.flatten_nil,List.append_nil,List.cons_append,List.nil_append,List.append_assoc]))) fun ⟨⟨r58,rs59⟩,hp62⟩=>?_
 try dsimp only at hp62
 obtain ⟨hk60,hw61⟩:=hp62
 have:=VOk.le hk60
 have:=VOk.cap hk60
 have:=hw61.1
 have ht_rframePart1:=A3c y1.1 y1.2.1 0 0 1 1;rw [hy6] at ht_rframePart1
 refine O5 [bx b57 (A0 y5.1 ⟨va r52.q,y5.2.1.length,r52.k⟩) 26,bx b51 (B1 y3.1 ⟨q34,y3.2.1.length,k36⟩ ⟨va r41.q,y3.2.2.1.length,r41.k⟩ ⟨none,0,0⟩ ⟨q46,y3.2.2.2.1.length,k47⟩) 52,bx b33 (A0 y2.1 ⟨va r28.q,y2.2.1.length,r28.k⟩) 26,bx b27 (A0 y1.1 ⟨va r22.q,y1.2.1.length,r22.k⟩) 26,bx b18 (A0 y4.1 ⟨some ⟨b20,0,none⟩,([([(B2 120),(B2 121)]:List Cel)]:List (List Cel)).length,1⟩) 26,bx b6 (A0 y0.1 ⟨va r1.q,y0.2.1.length,r1.k⟩) 26] [] (T:=69) (c:=C0) (r:=r58) (xs:=rs59) (VOk.cast hk60 (by rw [hw61.1])) (by first|rfl|simp only [List.cons_append,List.append_assoc,List.nil_append,List.append_nil]) ?_
 refine J9 6 0 [0] (fun b63=>[(13,iv y6.2.2)]) (fun b63=>[bx b63 (A0 y6.1 ⟨va r58.q,y6.2.1.length,r58.k⟩) 26,bx b57 (A0 y5.1 ⟨va r52.q,y5.2.1.length,r52.k⟩) 26,bx b51 (B1 y3.1 ⟨q34,y3.2.1.length,k36⟩ ⟨va r41.q,y3.2.2.1.length,r41.k⟩ ⟨none,0,0⟩ ⟨q46,y3.2.2.2.1.length,k47⟩) 52,bx b33 (A0 y2.1 ⟨va r28.q,y2.2.1.length,r28.k⟩) 26,bx b27 (A0 y1.1 ⟨va r22.q,y1.2.1.length,r22.k⟩) 26,bx b18 (A0 y4.1 ⟨some ⟨b20,0,none⟩,([([(B2 120),(B2 121)]:List Cel)]:List (List Cel)).length,1⟩) 26,bx b6 (A0 y0.1 ⟨va r1.q,y0.2.1.length,r1.k⟩) 26]) (fun b63=>?_)
 refine ie (sr 48 rfl (ip' 3 45 [(79,bv (decide (y1.2.2=0)))] ?_))
 refine zid 9 36 79 88 (decide (((y1.2.1.getD 0 []).getD 3 Cel.zero).base=121)) (fun g64 g64p=>?_) ?_
 ·have hw1:y1.2.1.length=2∧(y1.2.1.getD 0 []).length=4:=by rw [← hy1,← hy0,← hy4];decide +kernel
  refine zrl 2 7 [4] [(81,.slice (va r22.q) y1.2.1.length r22.k)] ?_
  refine I9 11 rfl (by have:=hw25.1;omega) fun a65 hq66=>?_
  refine G5 (L5 (k:=0) (d:=(⟨none,0,0⟩:Slc)) hw25 12 rfl (by have:=hw25.1;omega)) ?_
  have:=L7 hw25 (k:=0) (d:=(⟨none,0,0⟩:Slc)) (by have:=hw25.1;omega)
  refine ix rfl (F4 S8 rfl rfl hq66 rfl 0 rfl (by omega)) ?_
  refine ix rfl (G2 (D8 (v:=.slice ((rs23.getD 0 (⟨none,0,0⟩:Slc)).q) ((rs23.getD 0 (⟨none,0,0⟩:Slc)).n) ((rs23.getD 0 (⟨none,0,0⟩:Slc)).k)) (us:=[.slice ((rs23.getD 0 (⟨none,0,0⟩:Slc)).q) ((rs23.getD 0 (⟨none,0,0⟩:Slc)).n) ((rs23.getD 0 (⟨none,0,0⟩:Slc)).k)]) A2a rfl rfl (H2 (c:=C0) (sz:=1) hq66 (fun _=>rfl) 12 rfl (gd (⟨none,0,0⟩:Slc) (by have:=hw25.1;omega))) rfl) (M3 hw25 (by have:=hw25.1;omega))) ?_
  refine I9 0 rfl (by omega) fun a67 hq68=>?_
  refine ix rfl (F4 Q7 rfl rfl hq68 rfl 3 rfl (by omega)) ?_
  refine ip' 1 3 [(85,pa (Addr.add a67 (3 * 12)))] ?_
  refine ix rfl (D8 (v:=iv (((y1.2.1.getD 0 []).getD 3 Cel.zero).base)) (us:=[iv (((y1.2.1.getD 0 []).getD 3 Cel.zero).base)]) ty3 rfl rfl (A2t (H2 (c:=B3) (sz:=12) hq68 (fun _=>rfl) 0 rfl (gd Cel.zero (by omega))) (ws:=[iv (((y1.2.1.getD 0 []).getD 3 Cel.zero).base)]) 1 rfl) rfl) ?_
  refine ip' 2 0 [(88,bv (decide (((y1.2.1.getD 0 []).getD 3 Cel.zero).base=121)))] ?_
  exact A6 (M1 8 79 88 g64 (A5.pick [1,2,3,4,5,6,7,8,9,10,11,12,13,14,15,16,17,18,19,20,21,22] rfl) (mk [true,true,true,true,true,true,true] rfl) rfl rfl rfl rfl rfl)
 refine ip' 1 35 [(89,bv ((decide (y1.2.2=0))&&(decide (((y1.2.1.getD 0 []).getD 3 Cel.zero).base=121))))] ?_
 refine zia 3 32 89 92 (decide (y2.2.2=0)) (fun g69=>?_) ?_
 ·have g69p:(y1.2.2=0)∧(((y1.2.1.getD 0 []).getD 3 Cel.zero).base=121):=by simpa using g69
  refine ip' 3 0 [(92,bv (decide (y2.2.2=0)))] ?_
  exact zai 2 89 92 g69
 refine ip' 1 31 [(93,bv (((decide (y1.2.2=0))&&(decide (((y1.2.1.getD 0 []).getD 3 Cel.zero).base=121)))&&(decide (y2.2.2=0))))] ?_
 refine zia 9 22 93 102 (decide (((y2.2.1.getD 0 []).getD 0 Cel.zero).base=120)) (fun g70=>?_) ?_
 ·have g70p:((y1.2.2=0)∧(((y1.2.1.getD 0 []).getD 3 Cel.zero).base=121))∧(y2.2.2=0):=by simpa using g70
  have hw2:y2.2.1.length=1∧(y2.2.1.getD 0 []).length=2:=by rw [← hy2,← hy1,← hy0,← hy4];decide +kernel
  refine zrl 2 7 [3] [(95,.slice (va r28.q) y2.2.1.length r28.k)] ?_
  refine I9 9 rfl (by have:=hw31.1;omega) fun a71 hq72=>?_
  refine G5 (L5 (k:=0) (d:=(⟨none,0,0⟩:Slc)) hw31 10 rfl (by have:=hw31.1;omega)) ?_
  have:=L7 hw31 (k:=0) (d:=(⟨none,0,0⟩:Slc)) (by have:=hw31.1;omega)
  refine ix rfl (F4 S8 rfl rfl hq72 rfl 0 rfl (by omega)) ?_
  refine ix rfl (G2 (D8 (v:=.slice ((rs29.getD 0 (⟨none,0,0⟩:Slc)).q) ((rs29.getD 0 (⟨none,0,0⟩:Slc)).n) ((rs29.getD 0 (⟨none,0,0⟩:Slc)).k)) (us:=[.slice ((rs29.getD 0 (⟨none,0,0⟩:Slc)).q) ((rs29.getD 0 (⟨none,0,0⟩:Slc)).n) ((rs29.getD 0 (⟨none,0,0⟩:Slc)).k)]) A2a rfl rfl (H2 (c:=C0) (sz:=1) hq72 (fun _=>rfl) 10 rfl (gd (⟨none,0,0⟩:Slc) (by have:=hw31.1;omega))) rfl) (M3 hw31 (by have:=hw31.1;omega))) ?_
  refine I9 0 rfl (by omega) fun a73 hq74=>?_
  refine ix rfl (F4 Q7 rfl rfl hq74 rfl 0 rfl (by omega)) ?_
  refine ip' 1 3 [(99,pa (Addr.add a73 (0 * 12)))] ?_
  refine ix rfl (D8 (v:=iv (((y2.2.1.getD 0 []).getD 0 Cel.zero).base)) (us:=[iv (((y2.2.1.getD 0 []).getD 0 Cel.zero).base)]) ty3 rfl rfl (A2t (H2 (c:=B3) (sz:=12) hq74 (fun _=>rfl) 0 rfl (gd Cel.zero (by omega))) (ws:=[iv (((y2.2.1.getD 0 []).getD 0 Cel.zero).base)]) 1 rfl) rfl) ?_
  refine ip' 2 0 [(102,bv (decide (((y2.2.1.getD 0 []).getD 0 Cel.zero).base=120)))] ?_
  exact A6 (M1 8 93 102 g70 (A5.pick [1,2,3,4,5,6,7,8,9,10,11,12,13,14,15,16,17,18,19,20,21,22] rfl) (mk [true,true,true,true,true,true,true] rfl) rfl rfl rfl rfl rfl)
 refine ip' 1 21 [(103,bv ((((decide (y1.2.2=0))&&(decide (((y1.2.1.getD 0 []).getD 3 Cel.zero).base=121)))&&(decide (y2.2.2=0)))&&(decide (((y2.2.1.getD 0 []).getD 0 Cel.zero).base=120))))] ?_
 refine zia 3 18 103 106 (decide (y3.2.2.2.2=0)) (fun g75=>?_) ?_
 ·have g75p:(((y1.2.2=0)∧(((y1.2.1.getD 0 []).getD 3 Cel.zero).base=121))∧(y2.2.2=0))∧(((y2.2.1.getD 0 []).getD 0 Cel.zero).base=120):=by simpa using g75
  refine ip' 3 0 [(106,bv (decide (y3.2.2.2.2=0)))] ?_
  exact zai 2 103 106 g75
 refine ip' 1 17 [(107,bv (((((decide (y1.2.2=0))&&(decide (((y1.2.1.getD 0 []).getD 3 Cel.zero).base=121)))&&(decide (y2.2.2=0)))&&(decide (((y2.2.1.getD 0 []).getD 0 Cel.zero).base=120)))&&(decide (y3.2.2.2.2=0))))] ?_
 refine zia 3 14 107 110 y3.1.onAlt (fun g76=>?_) ?_
 ·have g76p:((((y1.2.2=0)∧(((y1.2.1.getD 0 []).getD 3 Cel.zero).base=121))∧(y2.2.2=0))∧(((y2.2.1.getD 0 []).getD 0 Cel.zero).base=120))∧(y3.2.2.2.2=0):=by simpa using g76
  refine zrl 3 0 [2] [(110,bv y3.1.onAlt)] ?_
  exact zai 2 107 110 g76
 refine ip' 1 13 [(111,bv ((((((decide (y1.2.2=0))&&(decide (((y1.2.1.getD 0 []).getD 3 Cel.zero).base=121)))&&(decide (y2.2.2=0)))&&(decide (((y2.2.1.getD 0 []).getD 0 Cel.zero).base=120)))&&(decide (y3.2.2.2.2=0)))&&y3.1.onAlt))] ?_
 refine zia 3 10 111 114 (decide (y5.2.2=0)) (fun g77=>?_) ?_
 ·have g77p:=g77;try simp only [Bool.and_eq_true,Bool.or_eq_true,Bool.and_eq_false_iff,Bool.or_eq_false_iff,Bool.not_eq_true',Bool.not_eq_false',decide_eq_true_eq,decide_eq_false_iff_not] at g77p
  refine ip' 3 0 [(114,bv (decide (y5.2.2=0)))] ?_
  exact zai 2 111 114 g77
 refine ip' 1 9 [(115,bv (((((((decide (y1.2.2=0))&&(decide (((y1.2.1.getD 0 []).getD 3 Cel.zero).base=121)))&&(decide (y2.2.2=0)))&&(decide (((y2.2.1.getD 0 []).getD 0 Cel.zero).base=120)))&&(decide (y3.2.2.2.2=0)))&&y3.1.onAlt)&&(decide (y5.2.2=0))))] ?_
 refine zia 4 5 115 119 (W6 y5.1 y5.2.1 y1.1 y1.2.1) (fun g78=>?_) ?_
 ·have g78p:=g78;try simp only [Bool.and_eq_true,Bool.or_eq_true,Bool.and_eq_false_iff,Bool.or_eq_false_iff,Bool.not_eq_true',Bool.not_eq_false',decide_eq_true_eq,decide_eq_false_iff_not] at g78p
  refine zrl 2 2 [1,4] [(116,ag (A0 y5.1 ⟨va r52.q,y5.2.1.length,r52.k⟩)),(117,ag (A0 y1.1 ⟨va r22.q,y1.2.1.length,r22.k⟩))] ?_
  refine zca (B3i y5.1 y5.2.1 y1.1 y1.2.1 (va r52.q) rs53 r52.k (va r22.q) rs23 r22.k hw55 (by first|omega|(simp only [List.length_take,List.length_drop,List.length_append,List.length_cons,List.length_nil,List.length_set,List.length_map];omega)|decide) (by first|omega|(simp only [List.length_take,List.length_drop,List.length_append,List.length_cons,List.length_nil,List.length_set,List.length_map];omega)|decide) hw25 (by first|omega|(simp only [List.length_take,List.length_drop,List.length_append,List.length_cons,List.length_nil,List.length_set,List.length_map];omega)|decide) (by first|omega|(simp only [List.length_take,List.length_drop,List.length_append,List.length_cons,List.length_nil,List.length_set,List.length_map];omega)|decide) _ rfl) (A5.pick [2,3,11,12] rfl) ?_
  refine ip' 1 0 [(119,bv (W6 y5.1 y5.2.1 y1.1 y1.2.1))] ?_
  exact zai 5 115 119 g78
 refine ip' 1 4 [(120,bv ((((((((decide (y1.2.2=0))&&(decide (((y1.2.1.getD 0 []).getD 3 Cel.zero).base=121)))&&(decide (y2.2.2=0)))&&(decide (((y2.2.1.getD 0 []).getD 0 Cel.zero).base=120)))&&(decide (y3.2.2.2.2=0)))&&y3.1.onAlt)&&(decide (y5.2.2=0)))&&(W6 y5.1 y5.2.1 y1.1 y1.2.1)))] ?_
 refine zia 3 1 120 123 (decide (y6.2.2=2)) (fun g79=>?_) ?_
 ·have g79p:=g79;try simp only [Bool.and_eq_true,Bool.or_eq_true,Bool.and_eq_false_iff,Bool.or_eq_false_iff,Bool.not_eq_true',Bool.not_eq_false',decide_eq_true_eq,decide_eq_false_iff_not] at g79p
  refine ip' 3 0 [(123,bv (decide (y6.2.2=2)))] ?_
  exact zai 2 120 123 g79
 refine ip' 1 0 [(0,bv (((((((((decide (y1.2.2=0))&&(decide (((y1.2.1.getD 0 []).getD 3 Cel.zero).base=121)))&&(decide (y2.2.2=0)))&&(decide (((y2.2.1.getD 0 []).getD 0 Cel.zero).base=120)))&&(decide (y3.2.2.2.2=0)))&&y3.1.onAlt)&&(decide (y5.2.2=0)))&&(W6 y5.1 y5.2.1 y1.1 y1.2.1))&&(decide (y6.2.2=2))))] ?_
 subst hR
 refine ie (B4 ?_)
 exact F5 hr hD
end Go.Proofs.YthcjfkljekdioaaGreatDoor
set_option linter.unusedVariables false
set_option linter.unusedSimpArgs false
set_option linter.unnecessarySimpa false
set_option maxRecDepth 100000
namespace Go.Proofs.YthcjfkljekdioaaGreatDoor
open Go Go.Fen
section
variable {P:Program} {n:Nat} {X:Cx} {K:Go.Act→World→Prop} {Q:Exit→Go.Act→World→Prop} {E:Env} {L L':Go.Fen.Own} {Φ:List Pers}
theorem B3u {ops:Array Oper} {i m:Nat} (hp:L.Perm L') (h:JI P n X ops i m K Q E L' Φ):JI P n X ops i m K Q E L Φ:=fun a w hs=>h a w ⟨hs.size,hs.defers,hs.has,hs.world.perm hp⟩
end
def Q8 (cols:Int) (i:Nat) (fR:List (List Cel)) (ag_ref23_Blank_l3:Nat→List (List Cel)→(FrmC×List (List Cel))):Nat→List Cel→Nat→(FrmC×List (List Cel))
 | 0,_,_=>(FrmC.zero,[])
 | fu3+1,l,k=>(bif (decide ((k:Int)<cols)) then Q8 cols i fR ag_ref23_Blank_l3 fu3 (l++([{Cel.zero with base:=32}]:List Cel)) (k+1) else ag_ref23_Blank_l3 (i+1) (fR++([l]:List (List Cel))))
def L6 (cols:Int) (rows:Int):Nat→Nat→List (List Cel)→(FrmC×List (List Cel))
 | 0,_,_=>(FrmC.zero,[])
 | fu1+1,i,fR=>(bif (decide ((i:Int)<rows)) then Q8 cols i fR (L6 cols rows fu1) ((cols - (0:Int)).toNat+1) ([]:List Cel) 0 else ({FrmC.zero with cols:=cols,visible:=true},fR))
def U0 (cols:Int) (rows:Int):FrmC×List (List Cel) :=
 L6 cols rows ((rows - (0:Int)).toNat+1) 0 ([]:List (List Cel))
theorem Z1 (cols:Int) (i:Nat) (fR:List (List Cel)) (ag:Nat→List (List Cel)→(FrmC×List (List Cel))):∀ (fu:Nat) (l:List Cel) (k:Nat),(cols - (k:Int)).toNat<fu→Q8 cols i fR ag fu l k=ag (i+1) (fR++[l++List.replicate (cols - (k:Int)).toNat {Cel.zero with base:=32}])
 | 0,l,k,h=>by omega
 | fu+1,l,k,h=>by
  simp only [Q8]
  by_cases c:(k:Int)<cols
  ·rw [decide_eq_true c,cond_true,Z1 cols i fR ag fu _ (k+1) (by omega),show (cols - (k:Int)).toNat=(cols - ((k+1:Nat):Int)).toNat+1 by omega,List.replicate_succ,List.append_assoc];rfl
  ·rw [decide_eq_false c,cond_false,show (cols - (k:Int)).toNat=0 by omega,List.replicate_zero,List.append_nil]
theorem A1p (cols rows:Int):∀ (fu i:Nat) (fR:List (List Cel)),(rows - (i:Int)).toNat<fu→(L6 cols rows fu i fR).2.length=fR.length+(rows - (i:Int)).toNat
 | 0,i,fR,h=>by omega
 | fu+1,i,fR,h=>by
  simp only [L6]
  by_cases c:(i:Int)<rows
  ·rw [decide_eq_true c,cond_true,Z1 _ _ _ _ _ _ _ (by omega),A1p cols rows fu (i+1) _ (by omega),List.length_append,List.length_cons,List.length_nil];omega
  ·rw [decide_eq_false c,cond_false];show fR.length=_;omega
theorem A9r (cols rows:Int):(U0 cols rows).2.length=rows.toNat:=by
 unfold U0
 rw [A1p _ _ _ _ _ (by omega)]
 show 0+_=_;omega
theorem B2j (cols:Int) (rows:Int) (hbl:cols≤1000∧rows≤1000) (R:FrmC×List (List Cel)) (hR:U0 cols rows=R):Con Tryz.prog 18 [iv cols,iv rows] [] [] ({t:VR×List Slc // VOk 1 R.2.length t.1∧C4 t.2 R.2}) (fun x=>ag (A0 R.1 ⟨va x.1.1.q,R.2.length,x.1.1.k⟩)) (fun x=>((vo C0 69 x.1.1 x.1.2)++([]))) (fun x=>[F0 B3 x.1.2 R.2]):=by
 refine zco Tryz.func18 [(0,iv cols),(1,iv rows)] fun X hX hr hD=>?_
 replace hR:=(U0.eq_1 ..).symm.trans hR
 refine sr 1 rfl (J9 1 0 [] (fun b1=>[(4,pt b1 0)]) (fun b1=>[bx b1 (A0 FrmC.zero ⟨none,0,0⟩) 26]) (fun b1=>?_))
 refine ie (sr 4 rfl (J9 4 0 [0] (fun b2=>[(5,pt b2 0)]) (fun b2=>[bx b2 (A0 ({FrmC.zero with cols:=cols,visible:=true}) ⟨none,0,0⟩) 26,bx b1 (A0 FrmC.zero ⟨none,0,0⟩) 26]) (fun b2=>?_)))
 refine ie (A2 (sr 1 rfl (ip' 1 0 [(6,iv 0)] ?_)))
 refine ie (A9 (U7 (G1 [vo C0 69 VR.nil ([]:List Slc),[bx b2 (A0 ({FrmC.zero with cols:=cols,visible:=true}) ⟨none,0,0⟩) 26],[bx b1 (A0 FrmC.zero ⟨none,0,0⟩) 26]] [1,2,0] 3 rfl (by decide) rfl [[bx b2 (A0 ({FrmC.zero with cols:=cols,visible:=true}) ⟨none,0,0⟩) 26],[bx b1 (A0 FrmC.zero ⟨none,0,0⟩) 26],vo C0 69 VR.nil ([]:List Slc)] rfl (by first|rfl|simp)) ?_))
 refine C6h (fun (fu:Nat) (i:Nat) (fR:List (List Cel)) (fRowsr:VR) (fZ:List Slc)=>((rows - (i:Int)).toNat<fu∧L6 cols rows fu i fR=R∧VOk 1 fR.length fRowsr∧C4 fZ fR∧fR.length≤i,[(0,iv cols),(1,iv rows),(4,pt b1 0),(5,pt b2 0),(6,iv (i:Int))],(bx b2 (A0 ({FrmC.zero with cols:=cols,visible:=true}) ⟨va fRowsr.q,fR.length,fRowsr.k⟩) 26::bx b1 (A0 FrmC.zero ⟨none,0,0⟩) 26::(vo C0 69 fRowsr fZ)++([])),[F0 B3 fZ fR],fu)) ((rows - (0:Int)).toNat+1) 0 ([]:List (List Cel)) VR.nil ([]:List Slc) ⟨(Nat.lt_succ_self _),hR,VOk.nil,C4.none,(by simp)⟩ (mc [[bx b2 (A0 ({FrmC.zero with cols:=cols,visible:=true}) ⟨none,0,0⟩) 26],[bx b1 (A0 FrmC.zero ⟨none,0,0⟩) 26],vo C0 69 VR.nil ([]:List Slc)] [true,true,true] rfl (by first|rfl|(simp only [List.length_set]<;>rfl))) (A5.con1 N5 fn0) ?_
 rintro fu i fR fRowsr fZ ⟨hm3,hR,hokfRowsr,hrowsfRowsrs,hfr⟩
 have:=VOk.le hokfRowsr
 have:=hrowsfRowsrs.1
 obtain ⟨fu1,rfl⟩:∃ m,fu=m+1:=⟨fu - 1,by omega⟩
 replace hR:=(L6.eq_2 ..).symm.trans hR
 refine A2 (sr 3 rfl (ip' 3 0 [(13,bv (decide ((i:Int)<rows)))] ?_))
 refine ie ?_
 refine zjd rfl hR ?_ ?_<;>clear hR<;>intro hR h4 h4p
 ·refine A8 (nx (A2 (A9 (sr 1 rfl (ip' 1 0 [(7,.slice none 0 0)] ?_)))))
  refine ie (A2 (sr 1 rfl (ip' 1 0 [(8,iv 0)] ?_)))
  refine ie (A9 (U7 (G1 [vo B3 72 VR.nil ([]:List Cel),[bx b2 (A0 ({FrmC.zero with cols:=cols,visible:=true}) ⟨va fRowsr.q,fR.length,fRowsr.k⟩) 26],[bx b1 (A0 FrmC.zero ⟨none,0,0⟩) 26],vo C0 69 fRowsr fZ] [1,2,3,0] 4 rfl (by decide) rfl [[bx b2 (A0 ({FrmC.zero with cols:=cols,visible:=true}) ⟨va fRowsr.q,fR.length,fRowsr.k⟩) 26],[bx b1 (A0 FrmC.zero ⟨none,0,0⟩) 26],vo C0 69 fRowsr fZ,vo B3 72 VR.nil ([]:List Cel)] rfl (by first|rfl|simp)) ?_))
  refine B1c (fun (fu2:Nat) (l:List Cel) (lr:VR) (k:Nat)=>((cols - (k:Int)).toNat<fu2∧Q8 cols i fR (L6 cols rows fu1) fu2 l k=R∧VOk 12 l.length lr∧l.length≤k,[(0,iv cols),(1,iv rows),(4,pt b1 0),(5,pt b2 0),(6,iv (i:Int)),(7,.slice (va lr.q) l.length lr.k),(8,iv (k:Int))],(bx b2 (A0 ({FrmC.zero with cols:=cols,visible:=true}) ⟨va fRowsr.q,fR.length,fRowsr.k⟩) 26::bx b1 (A0 FrmC.zero ⟨none,0,0⟩) 26::(vo C0 69 fRowsr fZ)++((vo B3 72 lr l)++([]))),[F0 B3 fZ fR],fu2)) ((cols - (0:Int)).toNat+1) ([]:List Cel) VR.nil 0 ⟨(Nat.lt_succ_self _),hR,VOk.nil,(by simp)⟩ (mc [[bx b2 (A0 ({FrmC.zero with cols:=cols,visible:=true}) ⟨va fRowsr.q,fR.length,fRowsr.k⟩) 26],[bx b1 (A0 FrmC.zero ⟨none,0,0⟩) 26],vo C0 69 fRowsr fZ,vo B3 72 VR.nil ([]:List Cel)] [true,true,true,true] rfl (by first|rfl|(simp only [List.length_set]<;>rfl))) A5.refl ?_
  rintro fu2 l lr k ⟨hm5,hR,hoklr,hll⟩
  have:=VOk.le hoklr
  obtain ⟨fu3,rfl⟩:∃ m,fu2=m+1:=⟨fu2 - 1,by omega⟩
  replace hR:=(Q8.eq_2 ..).symm.trans hR
  refine A2 (sr 3 rfl (ip' 3 0 [(18,bv (decide ((k:Int)<cols)))] ?_))
  refine ie ?_
  refine zjd rfl hR ?_ ?_<;>clear hR<;>intro hR h6 h6p
  ·refine A8 (nx (A2 (A9 (A1 5 rfl (zrl 2 3 [] [(21,.slice (va lr.q) l.length lr.k),(22,ag (B3 ({Cel.zero with base:=32})))] ?_)))))
   refine it rfl (F3 (c:=B3) (xs:=([{Cel.zero with base:=32}]:List Cel)) Q7 rfl rfl rfl (by kernel_rfl)) fun b7=>?_
   have:([{Cel.zero with base:=32}]:List Cel).length=1:=rfl
   refine B3u (G1 [[bx b2 (A0 ({FrmC.zero with cols:=cols,visible:=true}) ⟨va fRowsr.q,fR.length,fRowsr.k⟩) 26],[bx b1 (A0 FrmC.zero ⟨none,0,0⟩) 26],vo C0 69 fRowsr fZ,vo B3 72 lr l] [0,1,3,2] 4 rfl (by decide) rfl [[bx b2 (A0 ({FrmC.zero with cols:=cols,visible:=true}) ⟨va fRowsr.q,fR.length,fRowsr.k⟩) 26],[bx b1 (A0 FrmC.zero ⟨none,0,0⟩) 26],vo B3 72 lr l,vo C0 69 fRowsr fZ] rfl (by first|rfl|simp only [List.flatten_cons,List.flatten_nil,List.append_nil,List.cons_append,List.nil_append,List.append_assoc])) ?_
   refine it rfl (A8c (f:=B3) (r:=lr) (xs:=l) (ys:=([{Cel.zero with base:=32}]:List Cel)) (pre:=[bx b2 (A0 ({FrmC.zero with cols:=cols,visible:=true}) ⟨va fRowsr.q,fR.length,fRowsr.k⟩) 26,bx b1 (A0 FrmC.zero ⟨none,0,0⟩) 26]) (post:=((vo C0 69 fRowsr fZ)++([]))) B6h (fun _=>rfl) (fun _=>rfl) rfl rfl rfl rfl rfl rfl rfl rfl rfl (B8 0 rfl) hoklr (by first|omega|(simp only [List.length_cons,List.length_nil,List.length_append,List.length_take,List.length_drop];omega)) (by first|omega|(simp only [List.length_cons,List.length_nil,List.length_append,List.length_take,List.length_drop];omega))) fun ⟨r8,hr9⟩=>?_
   have:=VOk.le hr9
   have:=VOk.cap hr9
   refine B3u (G1 [[bx b2 (A0 ({FrmC.zero with cols:=cols,visible:=true}) ⟨va fRowsr.q,fR.length,fRowsr.k⟩) 26],[bx b1 (A0 FrmC.zero ⟨none,0,0⟩) 26],vo B3 72 r8 (l++([{Cel.zero with base:=32}]:List Cel)),vo C0 69 fRowsr fZ] [0,1,3,2] 4 rfl (by decide) rfl [[bx b2 (A0 ({FrmC.zero with cols:=cols,visible:=true}) ⟨va fRowsr.q,fR.length,fRowsr.k⟩) 26],[bx b1 (A0 FrmC.zero ⟨none,0,0⟩) 26],vo C0 69 fRowsr fZ,vo B3 72 r8 (l++([{Cel.zero with base:=32}]:List Cel))] rfl (by first|rfl|simp only [List.flatten_cons,List.flatten_nil,List.append_nil,List.cons_append,List.nil_append,List.append_assoc])) ?_
   refine ip' 1 0 [(7,.slice (va r8.q) ((l++([{Cel.zero with base:=32}]:List Cel)).length) r8.k)] ?_
   refine A6 (nx (A1 3 rfl (ip' 1 2 [(19,iv (k:Int))] ?_)))
   refine ix rfl (B0 rfl rfl rfl rfl (by omega)) ?_
   refine ip' 1 0 [(8,iv ((k:Int)+1))] ?_
   refine A6 ?_
   exact B1v (z1:=(fu3+1)) (z2:=l) (z3:=lr) (z4:=k) fu3 (l++([{Cel.zero with base:=32}]:List Cel)) r8 (k+1) ⟨(by omega),hR,hr9,(by first|omega|(simp only [List.length_append,List.length_cons,List.length_nil];omega))⟩ (Nat.lt_succ_self _) (mc [[bx b2 (A0 ({FrmC.zero with cols:=cols,visible:=true}) ⟨va fRowsr.q,fR.length,fRowsr.k⟩) 26],[bx b1 (A0 FrmC.zero ⟨none,0,0⟩) 26],vo C0 69 fRowsr fZ,vo B3 72 r8 (l++([{Cel.zero with base:=32}]:List Cel))] [true,true,true,true] rfl (by first|rfl|(simp only [List.length_set]<;>rfl))) (A5.pick [1] rfl)
  refine F6 (nx (A1 7 rfl (zrl 3 4 [0] [(26,.slice (va fRowsr.q) fR.length fRowsr.k),(27,.slice (va lr.q) l.length lr.k)] ?_)))
  refine O5 (bx b2 (A0 ({FrmC.zero with cols:=cols,visible:=true}) ⟨va fRowsr.q,fR.length,fRowsr.k⟩) 26::bx b1 (A0 FrmC.zero ⟨none,0,0⟩) 26::(vo C0 69 fRowsr fZ)++([])) [] (T:=72) (c:=B3) (r:=lr) (xs:=l) hoklr (by first|rfl|simp only [List.cons_append,List.append_assoc,List.nil_append,List.append_nil]) ?_
  have:=VOk.cap hoklr
  refine it rfl (F3 (c:=C0) (xs:=([⟨va lr.q,l.length,lr.k⟩]:List Slc)) S8 rfl rfl rfl (by kernel_rfl)) fun b10=>?_
  have hrows11:C4 ([⟨va lr.q,l.length,lr.k⟩]:List Slc) ([l]:List (List Cel)):=(C4.cons ⟨rfl,(by first|omega|(simp only [List.length_take,List.length_drop,List.length_append,List.length_cons,List.length_nil,List.length_set,List.length_map];omega)|decide),(by first|omega|(simp only [List.length_take,List.length_drop,List.length_append,List.length_cons,List.length_nil,List.length_set,List.length_map];omega)|decide)⟩ C4.none)
  refine G5 (q:=F0 B3 ([⟨va lr.q,l.length,lr.k⟩]:List Slc) ([l]:List (List Cel))) (A0m (B8 1 rfl) N5) ?_
  have:([⟨va lr.q,l.length,lr.k⟩]:List Slc).length=1:=rfl
  have hw14:C4 (fZ++([⟨va lr.q,l.length,lr.k⟩]:List Slc)) (fR++([l]:List (List Cel))):=C4.append hrowsfRowsrs hrows11
  refine it rfl (A6w (r:=fRowsr) (rs:=fZ) (xss:=fR) (pre:=[bx b2 (A0 ({FrmC.zero with cols:=cols,visible:=true}) ⟨va fRowsr.q,fR.length,fRowsr.k⟩) 26,bx b1 (A0 FrmC.zero ⟨none,0,0⟩) 26]) (post:=[]) B8h rfl rfl rfl rfl rfl rfl rfl rfl (by first|rfl|simp only [List.cons_append,List.append_assoc,List.nil_append,List.append_nil]) (B8 1 rfl) (B8 3 rfl) (B8 0 rfl) hrowsfRowsrs hrows11 hokfRowsr (by first|omega|(simp only [List.length_cons,List.length_nil,List.length_append,List.length_take,List.length_drop];omega)) (by first|omega|(simp only [List.length_cons,List.length_nil,List.length_append,List.length_take,List.length_drop];omega))) fun ⟨r12,hr13⟩=>?_
  have:=VOk.le hr13
  have:=VOk.cap hr13
  have:([l]:List (List Cel)).length=1:=rfl
  have:(fR++([l]:List (List Cel))).length=fR.length+1:=List.length_append
  refine zrg 2 0 [0] [] (bx b2 (A0 ({FrmC.zero with cols:=cols,visible:=true}) ⟨va r12.q,(fR++([l]:List (List Cel))).length,r12.k⟩) 26::bx b1 (A0 FrmC.zero ⟨none,0,0⟩) 26::(vo C0 69 r12 (fZ++([⟨va lr.q,l.length,lr.k⟩]:List Slc)))++([])) ?_
  refine A6 (nx (A1 3 rfl (ip' 1 2 [(14,iv (i:Int))] ?_)))
  refine ix rfl (B0 rfl rfl rfl rfl (by omega)) ?_
  refine ip' 1 0 [(6,iv ((i:Int)+1))] ?_
  refine A6 ?_
  exact C6p (z1:=(fu1+1)) (z2:=i) (z3:=fR) (z4:=fRowsr) (z5:=fZ) fu1 (i+1) (fR++([l]:List (List Cel))) r12 (fZ++([⟨va lr.q,l.length,lr.k⟩]:List Slc)) ⟨(by omega),hR,hr13,hw14,(by first|omega|(simp only [List.length_append,List.length_cons,List.length_nil];omega))⟩ (Nat.lt_succ_self _) (mc [[bx b2 (A0 ({FrmC.zero with cols:=cols,visible:=true}) ⟨va r12.q,(fR++([l]:List (List Cel))).length,r12.k⟩) 26],[bx b1 (A0 FrmC.zero ⟨none,0,0⟩) 26],vo C0 69 r12 (fZ++([⟨va lr.q,l.length,lr.k⟩]:List Slc))] [true,true,true] rfl (by first|rfl|(simp only [List.length_set]<;>rfl))) (A5.pick [0] rfl)
 refine F6 (nx (sr 2 rfl (zrg 2 0 [0,1] [] (bx b2 (A0 ({FrmC.zero with cols:=cols,visible:=true}) ⟨va fRowsr.q,fR.length,fRowsr.k⟩) 26::bx b1 (A0 ({FrmC.zero with cols:=cols,visible:=true}) ⟨va fRowsr.q,fR.length,fRowsr.k⟩) 26::(vo C0 69 fRowsr fZ)++([])) ?_)))
 subst hR
 refine ie (B4 ?_)
 exact zer hr hD (Q3 rfl (H9 (us:=A0 ({FrmC.zero with cols:=cols,visible:=true}) ⟨va fRowsr.q,fR.length,fRowsr.k⟩) A4i rfl 1 rfl rfl rfl)) ⟨(fRowsr,fZ),⟨hokfRowsr,hrowsfRowsrs⟩⟩ (mc [[bx b2 (A0 ({FrmC.zero with cols:=cols,visible:=true}) ⟨va fRowsr.q,fR.length,fRowsr.k⟩) 26],[bx b1 (A0 ({FrmC.zero with cols:=cols,visible:=true}) ⟨va fRowsr.q,fR.length,fRowsr.k⟩) 26],vo C0 69 fRowsr fZ] [false,false,true] rfl (by first|rfl|(simp only [List.length_set]<;>rfl))) (A5.con1 (B8 0 rfl) fn0)
def K4 (b:List Cel):List Cel→Nat→Bool
 | [],i=>true
 | hd_l0::tl_l0,i=>(bif (!(decide (hd_l0=(b.getD i Cel.zero)))) then false else K4 b tl_l0 (i+1))
def O9 (a:List Cel) (b:List Cel):Bool :=
 (bif (!decide ((a.length:Int)=(b.length:Int))) then false else K4 b a 0)
theorem A7q (a:List Cel) (b:List Cel) (aq:Option Addr) (ak:Nat) (bq:Option Addr) (bk:Nat) (hla:a.length≤9223372036854775807) (hca:a.length≤ak) (hlb:b.length≤9223372036854775807) (hcb:b.length≤bk) (R:Bool) (hR:O9 a b=R):L8 Tryz.prog 38 [.slice aq a.length ak,.slice bq b.length bk] [sl B3 aq a,sl B3 bq b] (bv R):=by
 refine zco Tryz.func38 [(0,.slice aq a.length ak),(1,.slice bq b.length bk)] fun X hX hr hD=>?_
 replace hR:=(O9.eq_1 ..).symm.trans hR
 refine sr 1 rfl (ip' 1 0 [] ?_)
 refine ie (A2 (sr 5 rfl (ip' 5 0 [(10,bv (!decide ((a.length:Int)=(b.length:Int))))] ?_)))
 refine ie ?_
 refine zjn rfl hR ?_ ?_<;>clear hR<;>intro hR h1 h1p
 ·refine sr 1 rfl (ip' 1 0 [(4,bv false)] ?_)
  subst hR
  refine ie (B4 ?_)
  exact F5 hr hD
 refine A8 (nx (A2 (sr 1 rfl (ip' 1 0 [(5,iv 0)] ?_))))
 refine ie (A9 (B5m (fun (i:Nat)=>(i≤a.length∧K4 b (a.drop i) i=R,[(0,.slice aq a.length ak),(1,.slice bq b.length bk),(5,iv (i:Int))],[],[sl B3 aq a,sl B3 bq b],a.length - i)) 0 ⟨(by omega),hR⟩ (mk [] rfl) A5.refl ?_))
 rintro i ⟨hm2,hR⟩
 refine A2 (sr 4 rfl (ip' 4 0 [(14,bv (decide ((i:Int)<(a.length:Int))))] ?_))
 refine ie (R3 rfl (fun h3=>?_) (fun h3=>?_))
 ·have h3p:(i:Int)<(a.length:Int):=by simpa using h3
  rw [S6 Cel.zero (show i<a.length by omega)] at hR;replace hR:=(K4.eq_2 ..).symm.trans hR
  refine A8 (nx (A2 (A9 (sd 9 rfl (by kernel_rfl) rfl ?_))))
  refine dp' 2 7 [(17,.slice aq a.length ak),(18,iv (i:Int))] ?_
  refine A2m 0 rfl (by omega) fun a4 hq5=>?_
  refine dd rfl (F4 Q7 rfl rfl hq5 rfl i rfl (by omega)) ?_
  refine dd rfl (N7 (us:=B3 (a.getD i Cel.zero)) B4k rfl rfl (H2 (c:=B3) (sz:=12) hq5 (fun _=>rfl) 0 rfl (gd Cel.zero (by omega))) rfl) ?_
  refine dp' 2 3 [(21,.slice bq b.length bk),(22,iv (i:Int))] ?_
  refine A2m 1 rfl (by omega) fun a6 hq7=>?_
  refine dd rfl (F4 Q7 rfl rfl hq7 rfl i rfl (by omega)) ?_
  refine dd rfl (N7 (us:=B3 (b.getD i Cel.zero)) B4k rfl rfl (H2 (c:=B3) (sz:=12) hq7 (fun _=>rfl) 1 rfl (gd Cel.zero (by omega))) rfl) ?_
  refine dd rfl (A2g (a:=(a.getD i Cel.zero)) (b:=(b.getD i Cel.zero)) C1i rfl rfl rfl) ?_
  refine de ?_
  refine zjn rfl hR ?_ ?_<;>clear hR<;>intro hR h8 h8p
  ·refine sr 1 rfl (ip' 1 0 [(4,bv false)] ?_)
   subst hR
   refine ie (B4 ?_)
   exact F5 hr hD
  refine A8 (nx (A1 3 rfl (ip' 1 2 [(15,iv (i:Int))] ?_)))
  refine ix rfl (B0 rfl rfl rfl rfl (by omega)) ?_
  refine ip' 1 0 [(5,iv ((i:Int)+1))] ?_
  refine A6 ?_
  exact B5e (z1:=i) (i+1) ⟨(by omega),hR⟩ (by (try dsimp only);omega) (mk [] rfl) A5.refl
 have h3p:¬ ((i:Int)<(a.length:Int)):=by simpa using h3
 rw [S4 h3p] at hR;replace hR:=(K4.eq_1 ..).symm.trans hR
 refine F6 (nx (sr 1 rfl (ip' 1 0 [(4,bv true)] ?_)))
 subst hR
 refine ie (B4 ?_)
 exact F5 hr hD
def Q0 (bR:List (List Cel)):List (List Cel)→Nat→Bool
 | [],i=>true
 | hd_l0::tl_l0,i=>(bif (!(O9 hd_l0 (bR.getD i []))) then false else Q0 bR tl_l0 (i+1))
def A0d (a:FrmC) (aR:List (List Cel)) (b:FrmC) (bR:List (List Cel)):Bool :=
 (bif ((((((!decide (a.cols=b.cols))||(!decide ((aR.length:Int)=(bR.length:Int))))||(!(decide (a.cursor=b.cursor))))||(!(a.visible == b.visible)))||(!decide (a.shape=b.shape)))||(!(decide (a.title=b.title)))) then false else Q0 bR aR 0)
theorem B3q (a:FrmC) (aR:List (List Cel)) (b:FrmC) (bR:List (List Cel)) (aQ:Option Addr) (aZ:List Slc) (aK:Nat) (bQ:Option Addr) (bZ:List Slc) (bK:Nat) (hrowsaRowsrs:C4 aZ aR) (hlaRows:aR.length≤9223372036854775807) (hcaRows:aR.length≤aK) (hrowsbRowsrs:C4 bZ bR) (hlbRows:bR.length≤9223372036854775807) (hcbRows:bR.length≤bK) (R:Bool) (hR:A0d a aR b bR=R):L8 Tryz.prog 16 [ag (A0 a ⟨aQ,aR.length,aK⟩),ag (A0 b ⟨bQ,bR.length,bK⟩)] [sl C0 aQ aZ,F0 B3 aZ aR,sl C0 bQ bZ,F0 B3 bZ bR] (bv R):=by
 refine zco Tryz.func16 [(0,ag (A0 a ⟨aQ,aR.length,aK⟩)),(1,ag (A0 b ⟨bQ,bR.length,bK⟩))] fun X hX hr hD=>?_
 replace hR:=(A0d.eq_1 ..).symm.trans hR
 have:=hrowsaRowsrs.1
 have:=hrowsbRowsrs.1
 refine sr 3 rfl (A9u 3 0 [] (fun b1 b2=>[(2,pt b1 0),(3,pt b2 0)]) (fun b1 b2=>[bx b2 (A0 b ⟨bQ,bR.length,bK⟩) 26,bx b1 (A0 a ⟨aQ,aR.length,aK⟩) 26]) (fun b1 b2=>?_))
 refine ie (A2 (sr 42 rfl (zrl 6 36 [1,0] [(11,bv (!decide (a.cols=b.cols)))] ?_)))
 refine zio 8 28 11 19 (!decide ((aR.length:Int)=(bR.length:Int))) (fun g3=>?_) ?_
 ·have g3p:¬ (¬ a.cols=b.cols):=by simpa using g3
  refine zrl 8 0 [1,0] [(19,bv (!decide ((aR.length:Int)=(bR.length:Int))))] ?_
  exact zai 2 11 19 g3
 refine ip' 1 27 [(20,bv ((!decide (a.cols=b.cols))||(!decide ((aR.length:Int)=(bR.length:Int)))))] ?_
 refine zio 6 21 20 26 (!(decide (a.cursor=b.cursor))) (fun g4=>?_) ?_
 ·have g4p:¬ ((¬ a.cols=b.cols)∨(¬ (aR.length:Int)=(bR.length:Int))):=by simpa using g4
  refine zrl 4 2 [1,0] [(22,ag (I5 a.cursor)),(24,ag (I5 b.cursor))] ?_
  refine ix rfl (A2g (a:=a.cursor) (b:=b.cursor) C3c rfl rfl rfl) ?_
  refine ip' 1 0 [(26,bv (!(decide (a.cursor=b.cursor))))] ?_
  exact zai 5 20 26 g4
 refine ip' 1 20 [(27,bv (((!decide (a.cols=b.cols))||(!decide ((aR.length:Int)=(bR.length:Int))))||(!(decide (a.cursor=b.cursor)))))] ?_
 refine zio 6 14 27 33 (!(a.visible == b.visible)) (fun g5=>?_) ?_
 ·have g5p:¬ (((¬ a.cols=b.cols)∨(¬ (aR.length:Int)=(bR.length:Int)))∨(¬ a.cursor=b.cursor)):=by simpa using g5
  refine zrl 4 2 [1,0] [(29,bv a.visible),(31,bv b.visible)] ?_
  refine ix rfl (B8v Tryz.underlying4 rfl rfl rfl) ?_
  refine ip' 1 0 [(33,bv (!(a.visible == b.visible)))] ?_
  exact zai 5 27 33 g5
 refine ip' 1 13 [(34,bv ((((!decide (a.cols=b.cols))||(!decide ((aR.length:Int)=(bR.length:Int))))||(!(decide (a.cursor=b.cursor))))||(!(a.visible == b.visible))))] ?_
 refine zio 6 7 34 40 (!decide (a.shape=b.shape)) (fun g6=>?_) ?_
 ·have g6p:=g6;try simp only [Bool.and_eq_true,Bool.or_eq_true,Bool.and_eq_false_iff,Bool.or_eq_false_iff,Bool.not_eq_true',Bool.not_eq_false',decide_eq_true_eq,decide_eq_false_iff_not] at g6p
  refine zrl 6 0 [1,0] [(40,bv (!decide (a.shape=b.shape)))] ?_
  exact zai 2 34 40 g6
 refine ip' 1 6 [(41,bv (((((!decide (a.cols=b.cols))||(!decide ((aR.length:Int)=(bR.length:Int))))||(!(decide (a.cursor=b.cursor))))||(!(a.visible == b.visible)))||(!decide (a.shape=b.shape))))] ?_
 refine zio 6 0 41 47 (!(decide (a.title=b.title))) (fun g7=>?_) ?_
 ·have g7p:=g7;try simp only [Bool.and_eq_true,Bool.or_eq_true,Bool.and_eq_false_iff,Bool.or_eq_false_iff,Bool.not_eq_true',Bool.not_eq_false',decide_eq_true_eq,decide_eq_false_iff_not] at g7p
  refine zrl 4 2 [1,0] [(43,sv a.title),(45,sv b.title)] ?_
  refine ix rfl (A7o rfl rfl rfl) ?_
  refine ip' 1 0 [(47,bv (!(decide (a.title=b.title))))] ?_
  exact zai 5 41 47 g7
 refine ie ?_
 refine zjb rfl hR ?_ ?_<;>clear hR<;>intro hR h8
 ·have h8p:=h8;try simp only [Bool.and_eq_true,Bool.or_eq_true,Bool.and_eq_false_iff,Bool.or_eq_false_iff,Bool.not_eq_true',Bool.not_eq_false',decide_eq_true_eq,decide_eq_false_iff_not] at h8p
  refine sr 1 rfl (ip' 1 0 [(4,bv false)] ?_)
  subst hR
  refine ie (B4 ?_)
  exact F5 hr hD
 have h8p:=h8;try simp only [Bool.and_eq_true,Bool.or_eq_true,Bool.and_eq_false_iff,Bool.or_eq_false_iff,Bool.not_eq_true',Bool.not_eq_false',decide_eq_true_eq,decide_eq_false_iff_not] at h8p
 refine A8 (nx (A2 (sr 1 rfl (ip' 1 0 [(5,iv 0)] ?_))))
 refine ie (A9 (B5m (fun (i:Nat)=>(i≤aR.length∧Q0 bR (aR.drop i) i=R,[(2,pt b1 0),(3,pt b2 0),(5,iv (i:Int))],[bx b2 (A0 b ⟨bQ,bR.length,bK⟩) 26,bx b1 (A0 a ⟨aQ,aR.length,aK⟩) 26],[sl C0 aQ aZ,F0 B3 aZ aR,sl C0 bQ bZ,F0 B3 bZ bR],aR.length - i)) 0 ⟨(by omega),hR⟩ (mk [true,true] rfl) A5.refl ?_))
 rintro i ⟨hm9,hR⟩
 refine A2 (sr 5 rfl (zrl 5 0 [1] [(52,bv (decide ((i:Int)<(aR.length:Int))))] ?_))
 refine ie (R3 rfl (fun h10=>?_) (fun h10=>?_))
 ·have h10p:(i:Int)<(aR.length:Int):=by simpa using h10
  rw [S6 [] (show i<aR.length by omega)] at hR;replace hR:=(Q0.eq_2 ..).symm.trans hR
  refine A8 (nx (A2 (A9 (sd 12 rfl (by kernel_rfl) rfl ?_))))
  refine zdg 3 9 [1] [(56,.slice aQ aR.length aK),(57,iv (i:Int))] ?_
  refine A2m 0 rfl (by have:=hrowsaRowsrs.1;omega) fun a11 hq12=>?_
  refine A5j (L5 (k:=i) (d:=(⟨none,0,0⟩:Slc)) hrowsaRowsrs 1 rfl (by have:=hrowsaRowsrs.1;omega)) ?_
  have:=L7 hrowsaRowsrs (k:=i) (d:=(⟨none,0,0⟩:Slc)) (by have:=hrowsaRowsrs.1;omega)
  refine dd rfl (F4 S8 rfl rfl hq12 rfl i rfl (by omega)) ?_
  refine dd rfl (G2 (D8 (v:=.slice ((aZ.getD i (⟨none,0,0⟩:Slc)).q) ((aZ.getD i (⟨none,0,0⟩:Slc)).n) ((aZ.getD i (⟨none,0,0⟩:Slc)).k)) (us:=[.slice ((aZ.getD i (⟨none,0,0⟩:Slc)).q) ((aZ.getD i (⟨none,0,0⟩:Slc)).n) ((aZ.getD i (⟨none,0,0⟩:Slc)).k)]) A2a rfl rfl (H2 (c:=C0) (sz:=1) hq12 (fun _=>rfl) 1 rfl (gd (⟨none,0,0⟩:Slc) (by have:=hrowsaRowsrs.1;omega))) rfl) (M3 hrowsaRowsrs (by have:=hrowsaRowsrs.1;omega))) ?_
  refine zdg 3 4 [0] [(61,.slice bQ bR.length bK),(62,iv (i:Int))] ?_
  refine A2m 3 rfl (by have:=hrowsbRowsrs.1;omega) fun a13 hq14=>?_
  refine A5j (L5 (k:=i) (d:=(⟨none,0,0⟩:Slc)) hrowsbRowsrs 4 rfl (by have:=hrowsbRowsrs.1;omega)) ?_
  have:=L7 hrowsbRowsrs (k:=i) (d:=(⟨none,0,0⟩:Slc)) (by have:=hrowsbRowsrs.1;omega)
  refine dd rfl (F4 S8 rfl rfl hq14 rfl i rfl (by omega)) ?_
  refine dd rfl (G2 (D8 (v:=.slice ((bZ.getD i (⟨none,0,0⟩:Slc)).q) ((bZ.getD i (⟨none,0,0⟩:Slc)).n) ((bZ.getD i (⟨none,0,0⟩:Slc)).k)) (us:=[.slice ((bZ.getD i (⟨none,0,0⟩:Slc)).q) ((bZ.getD i (⟨none,0,0⟩:Slc)).n) ((bZ.getD i (⟨none,0,0⟩:Slc)).k)]) A2a rfl rfl (H2 (c:=C0) (sz:=1) hq14 (fun _=>rfl) 4 rfl (gd (⟨none,0,0⟩:Slc) (by have:=hrowsbRowsrs.1;omega))) rfl) (M3 hrowsbRowsrs (by have:=hrowsbRowsrs.1;omega))) ?_
  refine zcd (A7q (aR.getD i []) (bR.getD i []) ((aZ.getD i (⟨none,0,0⟩:Slc)).q) ((aZ.getD i (⟨none,0,0⟩:Slc)).k) ((bZ.getD i (⟨none,0,0⟩:Slc)).q) ((bZ.getD i (⟨none,0,0⟩:Slc)).k) (by first|omega|(simp only [List.length_take,List.length_drop,List.length_append,List.length_cons,List.length_nil,List.length_set,List.length_map];omega)|decide) (by first|omega|(simp only [List.length_take,List.length_drop,List.length_append,List.length_cons,List.length_nil,List.length_set,List.length_map];omega)|decide) (by first|omega|(simp only [List.length_take,List.length_drop,List.length_append,List.length_cons,List.length_nil,List.length_set,List.length_map];omega)|decide) (by first|omega|(simp only [List.length_take,List.length_drop,List.length_append,List.length_cons,List.length_nil,List.length_set,List.length_map];omega)|decide) _ rfl) (A5.pick [1,0] rfl) ?_
  refine dp' 1 0 [(66,bv (!(O9 (aR.getD i []) (bR.getD i []))))] ?_
  refine de ?_
  refine zjb rfl hR ?_ ?_<;>clear hR<;>intro hR h15
  ·refine sr 1 rfl (ip' 1 0 [(4,bv false)] ?_)
   subst hR
   refine ie (B4 ?_)
   exact F5 hr hD
  refine A8 (nx (A1 3 rfl (ip' 1 2 [(53,iv (i:Int))] ?_)))
  refine ix rfl (B0 rfl rfl rfl rfl (by omega)) ?_
  refine ip' 1 0 [(5,iv ((i:Int)+1))] ?_
  refine A6 ?_
  exact B5e (z1:=i) (i+1) ⟨(by omega),hR⟩ (by (try dsimp only);omega) (mk [true,true] rfl) (A5.pick [2,3,4,5] rfl)
 have h10p:¬ ((i:Int)<(aR.length:Int)):=by simpa using h10
 rw [S4 h10p] at hR;replace hR:=(Q0.eq_1 ..).symm.trans hR
 refine F6 (nx (sr 1 rfl (ip' 1 0 [(4,bv true)] ?_)))
 subst hR
 refine ie (B4 ?_)
 exact F5 hr hD
def S7 (cols:Int) (rows:Int):Bool :=
 (bif (!A0z) then false else (G6 (N1 cols rows) fun (y0:FrmC×List (List Cel)×Int)=>(bif ((((decide (cols<2))||(decide ((80:Int)<cols)))||(decide (rows<1)))||(decide ((40:Int)<rows))) then ((decide (y0.2.2=2))&&(decide ((y0.2.1.length:Int)=0))) else (bif (decide (y0.2.2=0)) then (G6 (U0 cols rows) fun (y1:FrmC×List (List Cel))=>(A0d y0.1 y0.2.1 y1.1 y1.2)) else false))))
theorem A5r (cols:Int) (rows:Int) (R:Bool) (hR:S7 cols rows=R):L8 Tryz.prog 4 [iv cols,iv rows] [A0w,A0v] (bv R):=by
 refine zco Tryz.func4 [(0,iv cols),(1,iv rows)] fun X hX hr hD=>?_
 replace hR:=(S7.eq_1 ..).symm.trans hR
 refine sr 1 rfl (ip' 1 0 [] ?_)
 refine ie (A2 (sr 2 rfl (zca (B2a _ rfl) A5.refl ?_)))
 refine ip' 1 0 [(8,bv (!A0z))] ?_
 refine ie ?_
 refine zjb rfl hR ?_ ?_<;>clear hR<;>intro hR h1
 ·refine sr 1 rfl (ip' 1 0 [(4,bv false)] ?_)
  subst hR
  refine ie (B4 ?_)
  exact F5 hr hD
 refine A8 (nx (sr 9 rfl (ip' 2 7 [(10,iv cols),(11,iv rows)] ?_)))
 have hQ:=H8 hR;clear hR;obtain ⟨y0,hy0,hR⟩:=hQ
 refine it rfl (G3 (L2:=[]) (A2q cols rows y0 hy0) rfl rfl rfl rfl rfl fn0 (List.Perm.refl _) (fun ⟨⟨r2,rs3⟩,hp6⟩=>((vo C0 69 r2 rs3)++([]))) (fun _=>by first|rfl|simp only [List.append_nil,List.cons_append,List.nil_append,List.append_assoc])) fun ⟨⟨r2,rs3⟩,hp6⟩=>?_
 try dsimp only at hp6
 obtain ⟨hk4,hw5⟩:=hp6
 have:=VOk.le hk4
 have:=VOk.cap hk4
 have:=hw5.1
 have ht_rframeBlank:=Y5 cols rows;rw [hy0] at ht_rframeBlank
 refine O5 [] [] (T:=69) (c:=C0) (r:=r2) (xs:=rs3) (VOk.cast hk4 (by rw [hw5.1])) (by first|rfl|simp only [List.cons_append,List.append_assoc,List.nil_append,List.append_nil]) ?_
 refine J9 6 0 [0] (fun b7=>[(5,pt b7 0),(6,iv y0.2.2)]) (fun b7=>[bx b7 (A0 y0.1 ⟨va r2.q,y0.2.1.length,r2.k⟩) 26]) (fun b7=>?_)
 refine ie (A2 (sr 14 rfl (ip' 3 11 [(17,bv (decide (cols<2)))] ?_)))
 refine zir 3 8 17 20 (decide ((80:Int)<cols)) (fun g8 g8p=>?_) ?_
 ·refine ip' 3 0 [(20,bv (decide ((80:Int)<cols)))] ?_
  exact zai 2 17 20 g8
 refine ip' 1 7 [(21,bv ((decide (cols<2))||(decide ((80:Int)<cols))))] ?_
 refine zio 3 4 21 24 (decide (rows<1)) (fun g9=>?_) ?_
 ·have g9p:¬ ((cols<2)∨((80:Int)<cols)):=by simpa using g9
  refine ip' 3 0 [(24,bv (decide (rows<1)))] ?_
  exact zai 2 21 24 g9
 refine ip' 1 3 [(25,bv (((decide (cols<2))||(decide ((80:Int)<cols)))||(decide (rows<1))))] ?_
 refine zio 3 0 25 28 (decide ((40:Int)<rows)) (fun g10=>?_) ?_
 ·have g10p:¬ (((cols<2)∨((80:Int)<cols))∨(rows<1)):=by simpa using g10
  refine ip' 3 0 [(28,bv (decide ((40:Int)<rows)))] ?_
  exact zai 2 25 28 g10
 refine ie ?_
 refine zjb rfl hR ?_ ?_<;>clear hR<;>intro hR h11
 ·have h11p:(((cols<2)∨((80:Int)<cols))∨(rows<1))∨((40:Int)<rows):=by simpa using h11
  refine sr 9 rfl (ip' 3 6 [(31,bv (decide (y0.2.2=2)))] ?_)
  refine zid 5 1 31 36 (decide ((y0.2.1.length:Int)=0)) (fun g12 g12p=>?_) ?_
  ·refine zrl 5 0 [0] [(36,bv (decide ((y0.2.1.length:Int)=0)))] ?_
   exact zai 2 31 36 g12
  refine ip' 1 0 [(4,bv ((decide (y0.2.2=2))&&(decide ((y0.2.1.length:Int)=0))))] ?_
  subst hR
  refine ie (B4 ?_)
  exact F5 hr hD
 have h11p:¬ ((((cols<2)∨((80:Int)<cols))∨(rows<1))∨((40:Int)<rows)):=by simpa using h11
 refine A8 (nx (sh 10 [(10,[bx b7 (A0 y0.1 ⟨va r2.q,y0.2.1.length,r2.k⟩) 26])] [sl C0 (va r2.q) rs3,F0 B3 rs3 y0.2.1,A0w,A0v] [bx b7 (A0 y0.1 ⟨va r2.q,y0.2.1.length,r2.k⟩) 26] (zml 10 0) (by kernel_rfl) rfl (by kernel_rfl) (by kernel_rfl) (by kernel_rfl) (mk [true] rfl) A5.refl ?_))
 refine zhp [0,1,2] 7 (zml 10 7) [(39,bv (decide (y0.2.2=0)))] ?_
 refine B6b 39 _ rfl (fun g13=>?_) (fun g13=>?_)
 ·have g13p:y0.2.2=0:=by simpa using g13
  replace hR:=bt hR g13
  refine zhp [4,5] 5 (zml 10 55) [(41,iv cols),(42,iv rows)] ?_
  refine zhl 3 [bx b7 (A0 y0.1 ⟨va r2.q,y0.2.1.length,r2.k⟩) 26] (zml 10 63) rfl (M9 (us:=A0 y0.1 ⟨va r2.q,y0.2.1.length,r2.k⟩) A4i rfl rfl 0 rfl rfl rfl) ?_
  have hQ:=H8 hR;clear hR;obtain ⟨y1,hy1,hR⟩:=hQ
  refine zho 6 [bx b7 (A0 y0.1 ⟨va r2.q,y0.2.1.length,r2.k⟩) 26] (zml 10 127) rfl (G9 (L2:=[bx b7 (A0 y0.1 ⟨va r2.q,y0.2.1.length,r2.k⟩) 26]) (B2j cols rows (by first|omega|(simp only [List.length_append,List.length_cons,List.length_nil,List.length_take,List.length_drop,List.length_set];omega)) y1 hy1) rfl rfl rfl rfl rfl fn0 (List.Perm.refl _) (fun ⟨⟨r14,rs15⟩,hp18⟩=>(bx b7 (A0 y0.1 ⟨va r2.q,y0.2.1.length,r2.k⟩) 26::(vo C0 69 r14 rs15)++([]))) (fun ⟨⟨r14,rs15⟩,hp18⟩=>G1 [vo C0 69 r14 rs15,[bx b7 (A0 y0.1 ⟨va r2.q,y0.2.1.length,r2.k⟩) 26]] [1,0] 2 rfl (by decide) (by first|rfl|simp only [List.flatten_cons,List.flatten_nil,List.append_nil,List.cons_append,List.nil_append,List.append_assoc]) [[bx b7 (A0 y0.1 ⟨va r2.q,y0.2.1.length,r2.k⟩) 26],vo C0 69 r14 rs15] rfl (by first|rfl|simp only [List.flatten_cons,List.flatten_nil,List.append_nil,List.cons_append,List.nil_append,List.append_assoc]))) (fun ⟨⟨r14,rs15⟩,hp18⟩=>(mc [[bx b7 (A0 y0.1 ⟨va r2.q,y0.2.1.length,r2.k⟩) 26],vo C0 69 r14 rs15] [true,false] rfl (by first|rfl|(simp only [List.length_set]<;>rfl)))) (fun ⟨⟨r14,rs15⟩,hp18⟩=>(A5.pick [1,2,3,4] rfl)) fun ⟨⟨r14,rs15⟩,hp18⟩=>?_
  try dsimp only at hp18
  obtain ⟨hk16,hw17⟩:=hp18
  have:=VOk.le hk16
  have:=VOk.cap hk16
  have:=hw17.1
  have:=A9r cols rows;try rw [hy1] at this
  have:=VOk.cap hk16
  have:=VOk.le hk16
  refine C2t [bx b7 (A0 y0.1 ⟨va r2.q,y0.2.1.length,r2.k⟩) 26] [] (T:=69) (c:=C0) (r:=r14) (xs:=rs15) (VOk.cast hk16 (by rw [hw17.1])) (by first|rfl|simp only [List.cons_append,List.append_assoc,List.nil_append,List.append_nil]) [bx b7 (A0 y0.1 ⟨va r2.q,y0.2.1.length,r2.k⟩) 26] rfl (mk [true] rfl) ?_
  refine zho 7 [bx b7 (A0 y0.1 ⟨va r2.q,y0.2.1.length,r2.k⟩) 26] (zml 10 255) rfl (Det.tri (A6u (B3q y0.1 y0.2.1 y1.1 y1.2 (va r2.q) rs3 r2.k (va r14.q) rs15 r14.k hw5 (by first|omega|(simp only [List.length_take,List.length_drop,List.length_append,List.length_cons,List.length_nil,List.length_set,List.length_map];omega)|decide) (by first|omega|(simp only [List.length_take,List.length_drop,List.length_append,List.length_cons,List.length_nil,List.length_set,List.length_map];omega)|decide) hw17 (by first|omega|(simp only [List.length_take,List.length_drop,List.length_append,List.length_cons,List.length_nil,List.length_set,List.length_map];omega)|decide) (by first|omega|(simp only [List.length_take,List.length_drop,List.length_append,List.length_cons,List.length_nil,List.length_set,List.length_map];omega)|decide) _ rfl) rfl rfl rfl rfl rfl (A5.pick [2,3,0,1] rfl))) (fun _=>(mk [true] rfl)) (fun _=>(A5.pick [2,3,4,5] rfl)) fun _=>?_
  refine zhp [8,9] 0 (zml 10 1023) [(4,bv (A0d y0.1 y0.2.1 y1.1 y1.2))] ?_
  refine A6k (by kernel_rfl) ?_
  subst hR
  refine B4 ?_
  exact F5 hr hD
 ·have g13p:¬ (y0.2.2=0):=by simpa using g13
  replace hR:=bf hR g13
  refine zhp [3,4,5,6,7,8,9] 0 (zml 10 1023) [(4,bv false)] ?_
  refine A6k (by kernel_rfl) ?_
  subst hR
  refine B4 ?_
  exact F5 hr hD
end Go.Proofs.YthcjfkljekdioaaGreatDoor
