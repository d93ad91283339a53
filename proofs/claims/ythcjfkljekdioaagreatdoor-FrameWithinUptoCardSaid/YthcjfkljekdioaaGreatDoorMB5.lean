import Derived.Test.YthcjfkljekdioaaGreatDoorProg
import Derived.Test.YthcjfkljekdioaaGreatDoorMA2
import Derived.Test.YthcjfkljekdioaaGreatDoorMB1
import Derived.Test.YthcjfkljekdioaaGreatDoorMB2
import Derived.Test.YthcjfkljekdioaaGreatDoorMB3
import Derived.Test.YthcjfkljekdioaaGreatDoorMB4
import Derived.Test.YthcjfkljekdioaaGreatDoorMX1
set_option linter.unusedVariables false
set_option linter.unusedSimpArgs false
set_option linter.unnecessarySimpa false
set_option maxRecDepth 100000
namespace Go.Proofs.YthcjfkljekdioaaGreatDoor
open Go Go.Fen
def K1 (y1:FrmC×List (List Cel)×Int) (t81:Nat) (ag_law23_FrameWithin_l2:Nat→Bool):List Cel→Nat→Bool
 | [],t88=>ag_law23_FrameWithin_l2 (t81+1)
 | hd_l3::tl_l3,t88=>(bif (!(decide (((y1.2.1.getD t81 []).getD t88 Cel.zero)=hd_l3))) then false else K1 y1 t81 ag_law23_FrameWithin_l2 tl_l3 (t88+1))
def K0 (g:FrmC) (gRows:List (List Cel)) (at_:Plc) (y0:FrmC×List (List Cel)×Int) (t108:Nat) (ag_law23_FrameWithin_l6:Nat→Bool):List Cel→Nat→Bool
 | [],t115=>ag_law23_FrameWithin_l6 (t108+1)
 | hd_l7::tl_l7,t115=>(bif (((!((((decide (at_.row≤(t108:Int)))&&(decide ((t108:Int)<(IntKind.i64.wrap (at_.row+(gRows.length:Int))))))&&(decide (at_.col≤(t115:Int))))&&(decide ((t115:Int)<(IntKind.i64.wrap (at_.col+g.cols))))))&&(decide (hd_l7.wide=0)))&&(!(decide (((y0.2.1.getD t108 []).getD t115 Cel.zero)=hd_l7)))) then false else K0 g gRows at_ y0 t108 ag_law23_FrameWithin_l6 tl_l7 (t115+1))
def H8 (g:FrmC) (gRows:List (List Cel)) (at_:Plc) (y0:FrmC×List (List Cel)×Int):List (List Cel)→Nat→Bool
 | [],t108=>true
 | hd_l6::tl_l6,t108=>K0 g gRows at_ y0 t108 (H8 g gRows at_ y0 tl_l6) hd_l6 0
def I8 (fR:List (List Cel)) (g:FrmC) (gRows:List (List Cel)) (at_:Plc) (y0:FrmC×List (List Cel)×Int) (y1:FrmC×List (List Cel)×Int):List (List Cel)→Nat→Bool
 | [],t81=>H8 g gRows at_ y0 fR 0
 | hd_l2::tl_l2,t81=>K1 y1 t81 (I8 fR g gRows at_ y0 y1 tl_l2) hd_l2 0
def U4 (f:FrmC) (fR:List (List Cel)) (g:FrmC) (gRows:List (List Cel)) (at_:Plc):Bool :=
 (bif (!A0q) then false else (H3 (P4 f fR g gRows at_) fun (y0:FrmC×List (List Cel)×Int)=>(bif (!decide (y0.2.2=0)) then ((decide (y0.2.2=330))||(decide (y0.2.2=2))) else (H3 (O8 y0.1 y0.2.1 at_.row at_.col (gRows.length:Int) g.cols) fun (y1:FrmC×List (List Cel)×Int)=>(bif (((((!decide (y1.2.2=0))||(!decide ((B6 y0.1 y0.2.1)=0)))||(!decide ((B6 y1.1 y1.2.1)=0)))||(!(decide (y0.1.cursor=f.cursor))))||(!(decide (y0.1.title=f.title)))) then false else I8 fR g gRows at_ y0 y1 gRows 0)))))
theorem A5x (f:FrmC) (fR:List (List Cel)) (g:FrmC) (gRows:List (List Cel)) (at_:Plc) (fQ:Option Addr) (fZ:List Slc) (fK:Nat) (gRowsq:Option Addr) (gRowsrs:List Slc) (gRowsk:Nat) (hrowsfRowsrs:C5 fZ fR) (hlfRows:fR.length≤9223372036854775807) (hcfRows:fR.length≤fK) (hrowsgRowsrs:C5 gRowsrs gRows) (hlgRows:gRows.length≤9223372036854775807) (hcgRows:gRows.length≤gRowsk) (hT:f.title.length≤100000000) (hTg:g.title.length≤100000000) (R:Bool) (hR:U4 f fR g gRows at_=R):M9 Tryz.prog 10 [ag (A0 f ⟨fQ,fR.length,fK⟩),ag (A0 g ⟨gRowsq,gRows.length,gRowsk⟩),ag (G0 at_)] [sl C3 fQ fZ,E7 B3 fZ fR,sl C3 gRowsq gRowsrs,E7 B3 gRowsrs gRows,X9,Z3] (bv R):=by
 refine zco Tryz.func10 [(0,ag (A0 f ⟨fQ,fR.length,fK⟩)),(1,ag (A0 g ⟨gRowsq,gRows.length,gRowsk⟩)),(2,ag (G0 at_))] fun X hX hr hD=>?_
 replace hR:=(U4.eq_1 ..).symm.trans hR
 have:=hrowsfRowsrs.1
 have:=hrowsgRowsrs.1
 refine sr 4 rfl (C3p 4 0 [] (fun b1 b2 b3=>[(3,pt b1 0),(4,pt b2 0),(5,pt b3 0)]) (fun b1 b2 b3=>[bx b3 (G0 at_) 24,bx b2 (A0 g ⟨gRowsq,gRows.length,gRowsk⟩) 26,bx b1 (A0 f ⟨fQ,fR.length,fK⟩) 26]) (fun b1 b2 b3=>?_))
 refine ie (A4 (sr 2 rfl (zca (B3c _ rfl) (A5.pick [4,5] rfl) ?_)))
 refine ip' 1 0 [(21,bv (!A0q))] ?_
 refine ie ?_
 refine zjb rfl hR ?_ ?_<;>clear hR<;>intro hR h4
 ·refine sr 1 rfl (ip' 1 0 [(6,bv false)] ?_)
  subst hR
  refine ie (B4 ?_)
  exact F8 hr hD
 refine A8 (nx (sr 10 rfl (zrl 3 7 [2,1,0] [(23,ag (A0 f ⟨fQ,fR.length,fK⟩)),(24,ag (A0 g ⟨gRowsq,gRows.length,gRowsk⟩)),(25,ag (G0 at_))] ?_)))
 have hQ:=I2 hR;clear hR;obtain ⟨y0,hy0,hR⟩:=hQ
 refine it rfl (H2 (L2:=[bx b3 (G0 at_) 24,bx b2 (A0 g ⟨gRowsq,gRows.length,gRowsk⟩) 26,bx b1 (A0 f ⟨fQ,fR.length,fK⟩) 26]) (A9x f fR g gRows at_ fQ fZ fK gRowsq gRowsrs gRowsk hrowsfRowsrs (by first|omega|(simp only [List.length_take,List.length_drop,List.length_append,List.length_cons,List.length_nil,List.length_set,List.length_map];omega)|decide) (by first|omega|(simp only [List.length_take,List.length_drop,List.length_append,List.length_cons,List.length_nil,List.length_set,List.length_map];omega)|decide) hrowsgRowsrs (by first|omega|(simp only [List.length_take,List.length_drop,List.length_append,List.length_cons,List.length_nil,List.length_set,List.length_map];omega)|decide) (by first|omega|(simp only [List.length_take,List.length_drop,List.length_append,List.length_cons,List.length_nil,List.length_set,List.length_map];omega)|decide) (by first|omega|(simp only [List.length_nil];omega)|(dsimp only;omega)) (by first|omega|(simp only [List.length_nil];omega)|(dsimp only;omega)) y0 hy0) rfl rfl rfl rfl rfl A5.refl (List.Perm.refl _) (fun ⟨⟨r5,rs6⟩,hp9⟩=>(bx b3 (G0 at_) 24::bx b2 (A0 g ⟨gRowsq,gRows.length,gRowsk⟩) 26::bx b1 (A0 f ⟨fQ,fR.length,fK⟩) 26::(vo C3 69 r5 rs6)++([]))) (fun ⟨⟨r5,rs6⟩,hp9⟩=>H0 [vo C3 69 r5 rs6,[bx b3 (G0 at_) 24],[bx b2 (A0 g ⟨gRowsq,gRows.length,gRowsk⟩) 26],[bx b1 (A0 f ⟨fQ,fR.length,fK⟩) 26]] [1,2,3,0] 4 rfl (by decide) (by first|rfl|simp only [List.flatten_cons,List.flatten_nil,List.append_nil,List.cons_append,List.nil_append,List.append_assoc]) [[bx b3 (G0 at_) 24],[bx b2 (A0 g ⟨gRowsq,gRows.length,gRowsk⟩) 26],[bx b1 (A0 f ⟨fQ,fR.length,fK⟩) 26],vo C3 69 r5 rs6] rfl (by first|rfl|simp only [List.flatten_cons,List.flatten_nil,List.append_nil,List.cons_append,List.nil_append,List.append_assoc]))) fun ⟨⟨r5,rs6⟩,hp9⟩=>?_
 try dsimp only at hp9
 obtain ⟨hk7,hw8⟩:=hp9
 have:=VOk.le hk7
 have:=VOk.cap hk7
 have:=hw8.1
 have ht_rframePut:=A4g f fR g gRows at_;rw [hy0] at ht_rframePut
 refine P1 [bx b3 (G0 at_) 24,bx b2 (A0 g ⟨gRowsq,gRows.length,gRowsk⟩) 26,bx b1 (A0 f ⟨fQ,fR.length,fK⟩) 26] [] (T:=69) (c:=C3) (r:=r5) (xs:=rs6) (VOk.cast hk7 (by rw [hw8.1])) (by first|rfl|simp only [List.cons_append,List.append_assoc,List.nil_append,List.append_nil]) ?_
 refine K6 6 0 [0] (fun b10=>[(7,pt b10 0),(8,iv y0.2.2)]) (fun b10=>[bx b10 (A0 y0.1 ⟨va r5.q,y0.2.1.length,r5.k⟩) 26,bx b3 (G0 at_) 24,bx b2 (A0 g ⟨gRowsq,gRows.length,gRowsk⟩) 26,bx b1 (A0 f ⟨fQ,fR.length,fK⟩) 26]) (fun b10=>?_)
 refine ie (A4 (sr 2 rfl (ip' 2 0 [(30,bv (!decide (y0.2.2=0)))] ?_)))
 refine ie ?_
 refine zjn rfl hR ?_ ?_<;>clear hR<;>intro hR h11 h11p
 ·refine sr 7 rfl (ip' 3 4 [(33,bv (decide (y0.2.2=330)))] ?_)
  refine zir 3 1 33 36 (decide (y0.2.2=2)) (fun g12 g12p=>?_) ?_
  ·refine ip' 3 0 [(36,bv (decide (y0.2.2=2)))] ?_
   exact zai 2 33 36 g12
  refine ip' 1 0 [(6,bv ((decide (y0.2.2=330))||(decide (y0.2.2=2))))] ?_
  subst hR
  refine ie (B4 ?_)
  exact F8 hr hD
 obtain ⟨⟨hs1,hs2,hs3,hs4,hs5,hs6,hs7,hs8,hs9⟩,hs10,hs11,hs12,hs13,hs14,-⟩:=B8g hy0 (by first|exact h11p|simpa using h11)
 refine A8 (nx (sr 18 rfl (zrl 11 7 [0,1,1,2,2] [(38,ag (A0 y0.1 ⟨va r5.q,y0.2.1.length,r5.k⟩)),(48,ag [iv at_.row,iv at_.col,iv (gRows.length:Int),iv g.cols])] ?_)))
 have hQ:=I2 hR;clear hR;obtain ⟨y1,hy1,hR⟩:=hQ
 refine it rfl (H2 (L2:=[bx b10 (A0 y0.1 ⟨va r5.q,y0.2.1.length,r5.k⟩) 26,bx b3 (G0 at_) 24,bx b2 (A0 g ⟨gRowsq,gRows.length,gRowsk⟩) 26,bx b1 (A0 f ⟨fQ,fR.length,fK⟩) 26]) (A3s y0.1 y0.2.1 at_.row at_.col (gRows.length:Int) g.cols (va r5.q) rs6 r5.k hw8 (by first|omega|(simp only [List.length_take,List.length_drop,List.length_append,List.length_cons,List.length_nil,List.length_set,List.length_map];omega)|decide) (by first|omega|(simp only [List.length_take,List.length_drop,List.length_append,List.length_cons,List.length_nil,List.length_set,List.length_map];omega)|decide) (by first|omega|(simp only [List.length_nil];omega)|(dsimp only;omega)) y1 hy1) rfl rfl rfl rfl rfl (A5.pick [0,1,6,7] rfl) (List.Perm.refl _) (fun ⟨⟨r13,rs14⟩,hp17⟩=>(bx b10 (A0 y0.1 ⟨va r5.q,y0.2.1.length,r5.k⟩) 26::bx b3 (G0 at_) 24::bx b2 (A0 g ⟨gRowsq,gRows.length,gRowsk⟩) 26::bx b1 (A0 f ⟨fQ,fR.length,fK⟩) 26::(vo C3 69 r13 rs14)++([]))) (fun ⟨⟨r13,rs14⟩,hp17⟩=>H0 [vo C3 69 r13 rs14,[bx b10 (A0 y0.1 ⟨va r5.q,y0.2.1.length,r5.k⟩) 26],[bx b3 (G0 at_) 24],[bx b2 (A0 g ⟨gRowsq,gRows.length,gRowsk⟩) 26],[bx b1 (A0 f ⟨fQ,fR.length,fK⟩) 26]] [1,2,3,4,0] 5 rfl (by decide) (by first|rfl|simp only [List.flatten_cons,List.flatten_nil,List.append_nil,List.cons_append,List.nil_append,List.append_assoc]) [[bx b10 (A0 y0.1 ⟨va r5.q,y0.2.1.length,r5.k⟩) 26],[bx b3 (G0 at_) 24],[bx b2 (A0 g ⟨gRowsq,gRows.length,gRowsk⟩) 26],[bx b1 (A0 f ⟨fQ,fR.length,fK⟩) 26],vo C3 69 r13 rs14] rfl (by first|rfl|simp only [List.flatten_cons,List.flatten_nil,List.append_nil,List.cons_append,List.nil_append,List.append_assoc]))) fun ⟨⟨r13,rs14⟩,hp17⟩=>?_
 try dsimp only at hp17
 obtain ⟨hk15,hw16⟩:=hp17
 have:=VOk.le hk15
 have:=VOk.cap hk15
 have:=hw16.1
 have ht_rframePart:=A0f y0.1 y0.2.1 at_.row at_.col (gRows.length:Int) g.cols;rw [hy1] at ht_rframePart
 refine P1 [bx b10 (A0 y0.1 ⟨va r5.q,y0.2.1.length,r5.k⟩) 26,bx b3 (G0 at_) 24,bx b2 (A0 g ⟨gRowsq,gRows.length,gRowsk⟩) 26,bx b1 (A0 f ⟨fQ,fR.length,fK⟩) 26] [] (T:=69) (c:=C3) (r:=r13) (xs:=rs14) (VOk.cast hk15 (by rw [hw16.1])) (by first|rfl|simp only [List.cons_append,List.append_assoc,List.nil_append,List.append_nil]) ?_
 refine K6 6 0 [0] (fun b18=>[(9,pt b18 0),(10,iv y1.2.2)]) (fun b18=>[bx b18 (A0 y1.1 ⟨va r13.q,y1.2.1.length,r13.k⟩) 26,bx b10 (A0 y0.1 ⟨va r5.q,y0.2.1.length,r5.k⟩) 26,bx b3 (G0 at_) 24,bx b2 (A0 g ⟨gRowsq,gRows.length,gRowsk⟩) 26,bx b1 (A0 f ⟨fQ,fR.length,fK⟩) 26]) (fun b18=>?_)
 refine ie (A4 (sr 26 rfl (ip' 3 23 [(54,bv (!decide (y1.2.2=0)))] ?_)))
 refine zio 4 19 54 58 (!decide ((B6 y0.1 y0.2.1)=0)) (fun g19=>?_) ?_
 ·have g19p:¬ (¬ y1.2.2=0):=by simpa using g19
  refine zrl 1 3 [1] [(55,ag (A0 y0.1 ⟨va r5.q,y0.2.1.length,r5.k⟩))] ?_
  refine zca (S9 y0.1 y0.2.1 (va r5.q) rs6 r5.k hw8 (by first|omega|(simp only [List.length_take,List.length_drop,List.length_append,List.length_cons,List.length_nil,List.length_set,List.length_map];omega)|decide) (by first|omega|(simp only [List.length_take,List.length_drop,List.length_append,List.length_cons,List.length_nil,List.length_set,List.length_map];omega)|decide) (by first|omega|(simp only [List.length_nil];omega)|(dsimp only;omega)) _ rfl) (A5.pick [2,3,8,9] rfl) ?_
  refine ip' 2 0 [(58,bv (!decide ((B6 y0.1 y0.2.1)=0)))] ?_
  exact zai 4 54 58 g19
 refine ip' 1 18 [(59,bv ((!decide (y1.2.2=0))||(!decide ((B6 y0.1 y0.2.1)=0))))] ?_
 refine zio 4 14 59 63 (!decide ((B6 y1.1 y1.2.1)=0)) (fun g20=>?_) ?_
 ·have g20p:¬ ((¬ y1.2.2=0)∨(¬ (B6 y0.1 y0.2.1)=0)):=by simpa using g20
  refine zrl 1 3 [0] [(60,ag (A0 y1.1 ⟨va r13.q,y1.2.1.length,r13.k⟩))] ?_
  refine zca (S9 y1.1 y1.2.1 (va r13.q) rs14 r13.k hw16 (by first|omega|(simp only [List.length_take,List.length_drop,List.length_append,List.length_cons,List.length_nil,List.length_set,List.length_map];omega)|decide) (by first|omega|(simp only [List.length_take,List.length_drop,List.length_append,List.length_cons,List.length_nil,List.length_set,List.length_map];omega)|decide) (by first|omega|(simp only [List.length_nil];omega)|(dsimp only;omega)) _ rfl) (A5.pick [0,1,8,9] rfl) ?_
  refine ip' 2 0 [(63,bv (!decide ((B6 y1.1 y1.2.1)=0)))] ?_
  exact zai 4 59 63 g20
 refine ip' 1 13 [(64,bv (((!decide (y1.2.2=0))||(!decide ((B6 y0.1 y0.2.1)=0)))||(!decide ((B6 y1.1 y1.2.1)=0))))] ?_
 refine zio 6 7 64 70 (!(decide (y0.1.cursor=f.cursor))) (fun g21=>?_) ?_
 ·have g21p:¬ (((¬ y1.2.2=0)∨(¬ (B6 y0.1 y0.2.1)=0))∨(¬ (B6 y1.1 y1.2.1)=0)):=by simpa using g21
  refine zrl 4 2 [1,4] [(66,ag (G0 y0.1.cursor)),(68,ag (G0 f.cursor))] ?_
  refine ix rfl (A1l (a:=y0.1.cursor) (b:=f.cursor) C4q rfl rfl rfl) ?_
  refine ip' 1 0 [(70,bv (!(decide (y0.1.cursor=f.cursor))))] ?_
  exact zai 5 64 70 g21
 refine ip' 1 6 [(71,bv ((((!decide (y1.2.2=0))||(!decide ((B6 y0.1 y0.2.1)=0)))||(!decide ((B6 y1.1 y1.2.1)=0)))||(!(decide (y0.1.cursor=f.cursor)))))] ?_
 refine zio 6 0 71 77 (!(decide (y0.1.title=f.title))) (fun g22=>?_) ?_
 ·have g22p:¬ ((((¬ y1.2.2=0)∨(¬ (B6 y0.1 y0.2.1)=0))∨(¬ (B6 y1.1 y1.2.1)=0))∨(¬ y0.1.cursor=f.cursor)):=by simpa using g22
  refine zrl 4 2 [1,4] [(73,sv y0.1.title),(75,sv f.title)] ?_
  refine ix rfl (A7g rfl rfl rfl) ?_
  refine ip' 1 0 [(77,bv (!(decide (y0.1.title=f.title))))] ?_
  exact zai 5 71 77 g22
 refine ie ?_
 refine zjb rfl hR ?_ ?_<;>clear hR<;>intro hR h23
 ·have h23p:((((¬ y1.2.2=0)∨(¬ (B6 y0.1 y0.2.1)=0))∨(¬ (B6 y1.1 y1.2.1)=0))∨(¬ y0.1.cursor=f.cursor))∨(¬ y0.1.title=f.title):=by simpa using h23
  refine sr 1 rfl (ip' 1 0 [(6,bv false)] ?_)
  subst hR
  refine ie (B4 ?_)
  exact F8 hr hD
 have h23p:¬ (((((¬ y1.2.2=0)∨(¬ (B6 y0.1 y0.2.1)=0))∨(¬ (B6 y1.1 y1.2.1)=0))∨(¬ y0.1.cursor=f.cursor))∨(¬ y0.1.title=f.title)):=by simpa using h23
 have hgp:y1.2.1=gRows:=by rw [← hy1];exact hs14
 have hgl:y1.2.1.length=gRows.length:=by rw [hgp]
 refine A8 (nx (A4 (sr 4 rfl (zrl 4 0 [3] [(79,.slice gRowsq gRows.length gRowsk),(80,iv (gRows.length:Int)),(81,iv 0)] ?_))))
 refine ie (A9 (B2o (fun (t81:Nat)=>(t81≤gRows.length∧I8 fR g gRows at_ y0 y1 (gRows.drop t81) t81=R,[(3,pt b1 0),(4,pt b2 0),(5,pt b3 0),(7,pt b10 0),(9,pt b18 0),(79,.slice gRowsq gRows.length gRowsk),(80,iv (gRows.length:Int)),(81,iv (t81:Int))],[bx b18 (A0 y1.1 ⟨va r13.q,y1.2.1.length,r13.k⟩) 26,bx b10 (A0 y0.1 ⟨va r5.q,y0.2.1.length,r5.k⟩) 26,bx b3 (G0 at_) 24,bx b2 (A0 g ⟨gRowsq,gRows.length,gRowsk⟩) 26,bx b1 (A0 f ⟨fQ,fR.length,fK⟩) 26],[sl C3 (va r13.q) rs14,E7 B3 rs14 y1.2.1,sl C3 (va r5.q) rs6,E7 B3 rs6 y0.2.1,sl C3 fQ fZ,E7 B3 fZ fR,sl C3 gRowsq gRowsrs,E7 B3 gRowsrs gRows,X9,Z3],gRows.length - t81)) 0 ⟨(by omega),hR⟩ (mk [true,true,true,true,true] rfl) A5.refl ?_))
 rintro t81 ⟨hm24,hR⟩
 refine sr 1 rfl (ip' 1 0 [(82,bv (decide ((t81:Int)<(gRows.length:Int))))] ?_)
 refine ie (A4 (R3 rfl (fun h25=>?_) (fun h25=>?_)))
 ·have h25p:(t81:Int)<(gRows.length:Int):=by simpa using h25
  rw [R9 [] (show t81<gRows.length by omega)] at hR;replace hR:=(I8.eq_2 ..).symm.trans hR
  refine A8 (nx (A4 (A9 (sr 5 rfl (ip' 1 4 [(83,iv (t81:Int))] ?_)))))
  refine I4 6 rfl (by have:=hrowsgRowsrs.1;omega) fun a26 hq27=>?_
  refine G5 (K7 (k:=t81) (d:=(⟨none,0,0⟩:Slc)) hrowsgRowsrs 7 rfl (by have:=hrowsgRowsrs.1;omega)) ?_
  have:=K8 hrowsgRowsrs (k:=t81) (d:=(⟨none,0,0⟩:Slc)) (by have:=hrowsgRowsrs.1;omega)
  refine ix rfl (F1 S6 rfl rfl hq27 rfl t81 rfl (by omega)) ?_
  refine ix rfl (F5 (D6 (v:=.slice ((gRowsrs.getD t81 (⟨none,0,0⟩:Slc)).q) ((gRowsrs.getD t81 (⟨none,0,0⟩:Slc)).n) ((gRowsrs.getD t81 (⟨none,0,0⟩:Slc)).k)) (us:=[.slice ((gRowsrs.getD t81 (⟨none,0,0⟩:Slc)).q) ((gRowsrs.getD t81 (⟨none,0,0⟩:Slc)).n) ((gRowsrs.getD t81 (⟨none,0,0⟩:Slc)).k)]) A1k rfl rfl (G6 (c:=C3) (sz:=1) hq27 (fun _=>rfl) 7 rfl (gd (⟨none,0,0⟩:Slc) (by have:=hrowsgRowsrs.1;omega))) rfl) (M3 hrowsgRowsrs (by have:=hrowsgRowsrs.1;omega))) ?_
  refine ip' 2 0 [(11,iv (t81:Int)),(12,.slice ((gRowsrs.getD t81 (⟨none,0,0⟩:Slc)).q) ((gRows.getD t81 []).length) ((gRowsrs.getD t81 (⟨none,0,0⟩:Slc)).k))] ?_
  refine ie (sr 3 rfl (ip' 3 0 [(86,.slice ((gRowsrs.getD t81 (⟨none,0,0⟩:Slc)).q) ((gRows.getD t81 []).length) ((gRowsrs.getD t81 (⟨none,0,0⟩:Slc)).k)),(87,iv ((gRows.getD t81 []).length:Int)),(88,iv 0)] ?_))
  refine ie (A9 (B2o (fun (t88:Nat)=>(t88≤(gRows.getD t81 []).length∧K1 y1 t81 (I8 fR g gRows at_ y0 y1 (gRows.drop (t81+1))) ((gRows.getD t81 []).drop t88) t88=R,[(3,pt b1 0),(4,pt b2 0),(5,pt b3 0),(7,pt b10 0),(9,pt b18 0),(11,iv (t81:Int)),(79,.slice gRowsq gRows.length gRowsk),(80,iv (gRows.length:Int)),(81,iv (t81:Int)),(86,.slice ((gRowsrs.getD t81 (⟨none,0,0⟩:Slc)).q) ((gRows.getD t81 []).length) ((gRowsrs.getD t81 (⟨none,0,0⟩:Slc)).k)),(87,iv ((gRows.getD t81 []).length:Int)),(88,iv (t88:Int))],[bx b18 (A0 y1.1 ⟨va r13.q,y1.2.1.length,r13.k⟩) 26,bx b10 (A0 y0.1 ⟨va r5.q,y0.2.1.length,r5.k⟩) 26,bx b3 (G0 at_) 24,bx b2 (A0 g ⟨gRowsq,gRows.length,gRowsk⟩) 26,bx b1 (A0 f ⟨fQ,fR.length,fK⟩) 26],[sl B3 ((gRowsrs.getD t81 (⟨none,0,0⟩:Slc)).q) (gRows.getD t81 []),sl C3 (va r13.q) rs14,E7 B3 rs14 y1.2.1,sl C3 (va r5.q) rs6,E7 B3 rs6 y0.2.1,sl C3 fQ fZ,E7 B3 fZ fR,sl C3 gRowsq gRowsrs,E7 B3 gRowsrs gRows,X9,Z3],(gRows.getD t81 []).length - t88)) 0 ⟨(by omega),hR⟩ (mk [true,true,true,true,true] rfl) A5.refl ?_))
  rintro t88 ⟨hm28,hR⟩
  have hgq:(y1.2.1.getD t81 []).length=(gRows.getD t81 []).length:=by rw [hgp]
  refine sr 1 rfl (ip' 1 0 [(89,bv (decide ((t88:Int)<((gRows.getD t81 []).length:Int))))] ?_)
  refine ie (A4 (R3 rfl (fun h29=>?_) (fun h29=>?_)))
  ·have h29p:(t88:Int)<((gRows.getD t81 []).length:Int):=by simpa using h29
   rw [R9 Cel.zero (show t88<(gRows.getD t81 []).length by omega)] at hR;replace hR:=(K1.eq_2 ..).symm.trans hR
   refine A8 (nx (A4 (A9 (sr 6 rfl (ip' 1 5 [(90,iv (t88:Int))] ?_)))))
   refine I4 0 rfl (by omega) fun a30 hq31=>?_
   refine ix rfl (F1 Q8 rfl rfl hq31 rfl t88 rfl (by omega)) ?_
   refine ix rfl (M5 (us:=B3 ((gRows.getD t81 []).getD t88 Cel.zero)) B1d rfl rfl (G6 (c:=B3) (sz:=12) hq31 (fun _=>rfl) 0 rfl (gd Cel.zero (by omega))) rfl) ?_
   refine K6 3 0 [0] (fun b32=>[(14,pt b32 0),(13,iv (t88:Int))]) (fun b32=>[bx b32 (B3 ((gRows.getD t81 []).getD t88 Cel.zero)) 72,bx b18 (A0 y1.1 ⟨va r13.q,y1.2.1.length,r13.k⟩) 26,bx b10 (A0 y0.1 ⟨va r5.q,y0.2.1.length,r5.k⟩) 26,bx b3 (G0 at_) 24,bx b2 (A0 g ⟨gRowsq,gRows.length,gRowsk⟩) 26,bx b1 (A0 f ⟨fQ,fR.length,fK⟩) 26]) (fun b32=>?_)
   refine ie (sd 10 rfl (by kernel_rfl) rfl ?_)
   refine zdg 3 7 [1] [(94,.slice (va r13.q) y1.2.1.length r13.k),(95,iv (t81:Int))] ?_
   refine A2r 1 rfl (by have:=hw16.1;omega) fun a33 hq34=>?_
   refine A4o (K7 (k:=t81) (d:=(⟨none,0,0⟩:Slc)) hw16 2 rfl (by have:=hw16.1;omega)) ?_
   have:=K8 hw16 (k:=t81) (d:=(⟨none,0,0⟩:Slc)) (by have:=hw16.1;omega)
   refine dd rfl (F1 S6 rfl rfl hq34 rfl t81 rfl (by omega)) ?_
   refine dd rfl (F5 (D6 (v:=.slice ((rs14.getD t81 (⟨none,0,0⟩:Slc)).q) ((rs14.getD t81 (⟨none,0,0⟩:Slc)).n) ((rs14.getD t81 (⟨none,0,0⟩:Slc)).k)) (us:=[.slice ((rs14.getD t81 (⟨none,0,0⟩:Slc)).q) ((rs14.getD t81 (⟨none,0,0⟩:Slc)).n) ((rs14.getD t81 (⟨none,0,0⟩:Slc)).k)]) A1k rfl rfl (G6 (c:=C3) (sz:=1) hq34 (fun _=>rfl) 2 rfl (gd (⟨none,0,0⟩:Slc) (by have:=hw16.1;omega))) rfl) (M3 hw16 (by have:=hw16.1;omega))) ?_
   refine dp' 1 4 [(98,iv (t88:Int))] ?_
   refine A2r 0 rfl (by omega) fun a35 hq36=>?_
   refine dd rfl (F1 Q8 rfl rfl hq36 rfl t88 rfl (by omega)) ?_
   refine dd rfl (M5 (us:=B3 ((y1.2.1.getD t81 []).getD t88 Cel.zero)) B1d rfl rfl (G6 (c:=B3) (sz:=12) hq36 (fun _=>rfl) 0 rfl (gd Cel.zero (by omega))) rfl) ?_
   refine zdg 1 1 [0] [(101,ag (B3 ((gRows.getD t81 []).getD t88 Cel.zero)))] ?_
   refine dd rfl (A1l (a:=((y1.2.1.getD t81 []).getD t88 Cel.zero)) (b:=((gRows.getD t81 []).getD t88 Cel.zero)) B9s rfl rfl rfl) ?_
   refine de ?_
   refine zjn rfl hR ?_ ?_<;>clear hR<;>intro hR h37 h37p
   ·refine sr 1 rfl (ip' 1 0 [(6,bv false)] ?_)
    subst hR
    refine ie (B4 ?_)
    exact F8 hr hD
   refine A8 (nx (A1 2 rfl (ix rfl (B0 rfl rfl rfl rfl (by omega)) ?_)))
   refine ip' 1 0 [(88,iv ((t88:Int)+1))] ?_
   refine A6 ?_
   exact B2u (z1:=t88) (t88+1) ⟨(by omega),hR⟩ (by (try dsimp only);omega) (mk [false,true,true,true,true,true] rfl) (A5.pick [1,2,3,4,5,6,7,8,9,10,11] rfl)
  have h29p:¬ ((t88:Int)<((gRows.getD t81 []).length:Int)):=by simpa using h29
  rw [R8 h29p] at hR;replace hR:=(K1.eq_1 ..).symm.trans hR
  refine F3 (nx (A1 2 rfl (ix rfl (B0 rfl rfl rfl rfl (by omega)) ?_)))
  refine ip' 1 0 [(81,iv ((t81:Int)+1))] ?_
  refine A6 ?_
  exact B2u (z1:=t81) (t81+1) ⟨(by omega),hR⟩ (by (try dsimp only);omega) (mk [true,true,true,true,true] rfl) (A5.pick [1,2,3,4,5,6,7,8,9,10] rfl)
 have h25p:¬ ((t81:Int)<(gRows.length:Int)):=by simpa using h25
 rw [R8 h25p] at hR;replace hR:=(I8.eq_1 ..).symm.trans hR
 refine F3 (nx (A4 (sr 4 rfl (zrl 4 0 [4] [(106,.slice fQ fR.length fK),(107,iv (fR.length:Int)),(108,iv 0)] ?_))))
 refine ie (A9 (B2o (fun (t108:Nat)=>(t108≤fR.length∧H8 g gRows at_ y0 (fR.drop t108) t108=R,[(4,pt b2 0),(5,pt b3 0),(7,pt b10 0),(106,.slice fQ fR.length fK),(107,iv (fR.length:Int)),(108,iv (t108:Int))],[bx b18 (A0 y1.1 ⟨va r13.q,y1.2.1.length,r13.k⟩) 26,bx b10 (A0 y0.1 ⟨va r5.q,y0.2.1.length,r5.k⟩) 26,bx b3 (G0 at_) 24,bx b2 (A0 g ⟨gRowsq,gRows.length,gRowsk⟩) 26,bx b1 (A0 f ⟨fQ,fR.length,fK⟩) 26],[sl C3 (va r13.q) rs14,E7 B3 rs14 y1.2.1,sl C3 (va r5.q) rs6,E7 B3 rs6 y0.2.1,sl C3 fQ fZ,E7 B3 fZ fR,sl C3 gRowsq gRowsrs,E7 B3 gRowsrs gRows,X9,Z3],fR.length - t108)) 0 ⟨(by omega),hR⟩ (mk [true,true,true,true,true] rfl) A5.refl ?_))
 rintro t108 ⟨hm38,hR⟩
 refine sr 1 rfl (ip' 1 0 [(109,bv (decide ((t108:Int)<(fR.length:Int))))] ?_)
 refine ie (A4 (R3 rfl (fun h39=>?_) (fun h39=>?_)))
 ·have h39p:(t108:Int)<(fR.length:Int):=by simpa using h39
  rw [R9 [] (show t108<fR.length by omega)] at hR;replace hR:=(H8.eq_2 ..).symm.trans hR
  refine A8 (nx (A4 (A9 (sr 5 rfl (ip' 1 4 [(110,iv (t108:Int))] ?_)))))
  refine I4 4 rfl (by have:=hrowsfRowsrs.1;omega) fun a40 hq41=>?_
  refine G5 (K7 (k:=t108) (d:=(⟨none,0,0⟩:Slc)) hrowsfRowsrs 5 rfl (by have:=hrowsfRowsrs.1;omega)) ?_
  have:=K8 hrowsfRowsrs (k:=t108) (d:=(⟨none,0,0⟩:Slc)) (by have:=hrowsfRowsrs.1;omega)
  refine ix rfl (F1 S6 rfl rfl hq41 rfl t108 rfl (by omega)) ?_
  refine ix rfl (F5 (D6 (v:=.slice ((fZ.getD t108 (⟨none,0,0⟩:Slc)).q) ((fZ.getD t108 (⟨none,0,0⟩:Slc)).n) ((fZ.getD t108 (⟨none,0,0⟩:Slc)).k)) (us:=[.slice ((fZ.getD t108 (⟨none,0,0⟩:Slc)).q) ((fZ.getD t108 (⟨none,0,0⟩:Slc)).n) ((fZ.getD t108 (⟨none,0,0⟩:Slc)).k)]) A1k rfl rfl (G6 (c:=C3) (sz:=1) hq41 (fun _=>rfl) 5 rfl (gd (⟨none,0,0⟩:Slc) (by have:=hrowsfRowsrs.1;omega))) rfl) (M3 hrowsfRowsrs (by have:=hrowsfRowsrs.1;omega))) ?_
  refine ip' 2 0 [(15,iv (t108:Int)),(16,.slice ((fZ.getD t108 (⟨none,0,0⟩:Slc)).q) ((fR.getD t108 []).length) ((fZ.getD t108 (⟨none,0,0⟩:Slc)).k))] ?_
  refine ie (sr 3 rfl (ip' 3 0 [(113,.slice ((fZ.getD t108 (⟨none,0,0⟩:Slc)).q) ((fR.getD t108 []).length) ((fZ.getD t108 (⟨none,0,0⟩:Slc)).k)),(114,iv ((fR.getD t108 []).length:Int)),(115,iv 0)] ?_))
  refine ie (A9 (B2o (fun (t115:Nat)=>(t115≤(fR.getD t108 []).length∧K0 g gRows at_ y0 t108 (H8 g gRows at_ y0 (fR.drop (t108+1))) ((fR.getD t108 []).drop t115) t115=R,[(4,pt b2 0),(5,pt b3 0),(7,pt b10 0),(15,iv (t108:Int)),(106,.slice fQ fR.length fK),(107,iv (fR.length:Int)),(108,iv (t108:Int)),(113,.slice ((fZ.getD t108 (⟨none,0,0⟩:Slc)).q) ((fR.getD t108 []).length) ((fZ.getD t108 (⟨none,0,0⟩:Slc)).k)),(114,iv ((fR.getD t108 []).length:Int)),(115,iv (t115:Int))],[bx b18 (A0 y1.1 ⟨va r13.q,y1.2.1.length,r13.k⟩) 26,bx b10 (A0 y0.1 ⟨va r5.q,y0.2.1.length,r5.k⟩) 26,bx b3 (G0 at_) 24,bx b2 (A0 g ⟨gRowsq,gRows.length,gRowsk⟩) 26,bx b1 (A0 f ⟨fQ,fR.length,fK⟩) 26],[sl B3 ((fZ.getD t108 (⟨none,0,0⟩:Slc)).q) (fR.getD t108 []),sl C3 (va r13.q) rs14,E7 B3 rs14 y1.2.1,sl C3 (va r5.q) rs6,E7 B3 rs6 y0.2.1,sl C3 fQ fZ,E7 B3 fZ fR,sl C3 gRowsq gRowsrs,E7 B3 gRowsrs gRows,X9,Z3],(fR.getD t108 []).length - t115)) 0 ⟨(by omega),hR⟩ (mk [true,true,true,true,true] rfl) A5.refl ?_))
  rintro t115 ⟨hm42,hR⟩
  have hq1:=hs10 t108 (by omega)
  have hq2:=hs13 t108 (by omega)
  refine sr 1 rfl (ip' 1 0 [(116,bv (decide ((t115:Int)<((fR.getD t108 []).length:Int))))] ?_)
  refine ie (A4 (R3 rfl (fun h43=>?_) (fun h43=>?_)))
  ·have h43p:(t115:Int)<((fR.getD t108 []).length:Int):=by simpa using h43
   rw [R9 Cel.zero (show t115<(fR.getD t108 []).length by omega)] at hR;replace hR:=(K0.eq_2 ..).symm.trans hR
   refine A8 (nx (A4 (A9 (sr 6 rfl (ip' 1 5 [(117,iv (t115:Int))] ?_)))))
   refine I4 0 rfl (by omega) fun a44 hq45=>?_
   refine ix rfl (F1 Q8 rfl rfl hq45 rfl t115 rfl (by omega)) ?_
   refine ix rfl (M5 (us:=B3 ((fR.getD t108 []).getD t115 Cel.zero)) B1d rfl rfl (G6 (c:=B3) (sz:=12) hq45 (fun _=>rfl) 0 rfl (gd Cel.zero (by omega))) rfl) ?_
   refine K6 3 0 [0] (fun b46=>[(18,pt b46 0),(17,iv (t115:Int))]) (fun b46=>[bx b46 (B3 ((fR.getD t108 []).getD t115 Cel.zero)) 72,bx b18 (A0 y1.1 ⟨va r13.q,y1.2.1.length,r13.k⟩) 26,bx b10 (A0 y0.1 ⟨va r5.q,y0.2.1.length,r5.k⟩) 26,bx b3 (G0 at_) 24,bx b2 (A0 g ⟨gRowsq,gRows.length,gRowsk⟩) 26,bx b1 (A0 f ⟨fQ,fR.length,fK⟩) 26]) (fun b46=>?_)
   refine ie (sr 30 rfl (zrl 5 25 [3] [(124,bv (decide (at_.row≤(t108:Int))))] ?_))
   refine zid 9 16 124 133 (decide ((t108:Int)<(IntKind.i64.wrap (at_.row+(gRows.length:Int))))) (fun g47 g47p=>?_) ?_
   ·refine zrl 6 3 [3,4] [(125,iv (t108:Int)),(127,iv at_.row),(130,iv (gRows.length:Int))] ?_
    refine ix rfl (I9.pure rfl) ?_
    refine ip' 2 0 [(133,bv (decide ((t108:Int)<(IntKind.i64.wrap (at_.row+(gRows.length:Int))))))] ?_
    exact zai 6 124 133 g47
   refine ip' 1 15 [(134,bv ((decide (at_.row≤(t108:Int)))&&(decide ((t108:Int)<(IntKind.i64.wrap (at_.row+(gRows.length:Int)))))))] ?_
   refine zia 5 10 134 139 (decide (at_.col≤(t115:Int))) (fun g48=>?_) ?_
   ·have g48p:(at_.row≤(t108:Int))∧((t108:Int)<(IntKind.i64.wrap (at_.row+(gRows.length:Int)))):=by simpa using g48
    refine zrl 5 0 [3] [(139,bv (decide (at_.col≤(t115:Int))))] ?_
    exact zai 2 134 139 g48
   refine ip' 1 9 [(140,bv (((decide (at_.row≤(t108:Int)))&&(decide ((t108:Int)<(IntKind.i64.wrap (at_.row+(gRows.length:Int))))))&&(decide (at_.col≤(t115:Int)))))] ?_
   refine zia 8 1 140 148 (decide ((t115:Int)<(IntKind.i64.wrap (at_.col+g.cols)))) (fun g49=>?_) ?_
   ·have g49p:((at_.row≤(t108:Int))∧((t108:Int)<(IntKind.i64.wrap (at_.row+(gRows.length:Int)))))∧(at_.col≤(t115:Int)):=by simpa using g49
    refine zrl 5 3 [3,4] [(141,iv (t115:Int)),(143,iv at_.col),(145,iv g.cols)] ?_
    refine ix rfl (I9.pure rfl) ?_
    refine ip' 2 0 [(148,bv (decide ((t115:Int)<(IntKind.i64.wrap (at_.col+g.cols)))))] ?_
    exact zai 6 140 148 g49
   refine ip' 1 0 [(19,bv ((((decide (at_.row≤(t108:Int)))&&(decide ((t108:Int)<(IntKind.i64.wrap (at_.row+(gRows.length:Int))))))&&(decide (at_.col≤(t115:Int))))&&(decide ((t115:Int)<(IntKind.i64.wrap (at_.col+g.cols))))))] ?_
   refine ie (sd 19 rfl (by kernel_rfl) rfl ?_)
   refine dp' 3 16 [(151,bv (!((((decide (at_.row≤(t108:Int)))&&(decide ((t108:Int)<(IntKind.i64.wrap (at_.row+(gRows.length:Int))))))&&(decide (at_.col≤(t115:Int))))&&(decide ((t115:Int)<(IntKind.i64.wrap (at_.col+g.cols)))))))] ?_
   refine zda 4 12 151 155 (decide (((fR.getD t108 []).getD t115 Cel.zero).wide=0)) (fun g50=>?_) ?_
   ·have g50p:¬ ((((at_.row≤(t108:Int))∧((t108:Int)<(IntKind.i64.wrap (at_.row+(gRows.length:Int)))))∧(at_.col≤(t115:Int)))∧((t115:Int)<(IntKind.i64.wrap (at_.col+g.cols)))):=by first|simpa using g50|(simp at g50 ⊢;omega)
    refine zdg 4 0 [0] [(155,bv (decide (((fR.getD t108 []).getD t115 Cel.zero).wide=0)))] ?_
    exact zad 2 151 155 g50
   refine dp' 1 11 [(156,bv ((!((((decide (at_.row≤(t108:Int)))&&(decide ((t108:Int)<(IntKind.i64.wrap (at_.row+(gRows.length:Int))))))&&(decide (at_.col≤(t115:Int))))&&(decide ((t115:Int)<(IntKind.i64.wrap (at_.col+g.cols))))))&&(decide (((fR.getD t108 []).getD t115 Cel.zero).wide=0))))] ?_
   refine zda 11 0 156 167 (!(decide (((y0.2.1.getD t108 []).getD t115 Cel.zero)=((fR.getD t108 []).getD t115 Cel.zero)))) (fun g51=>?_) ?_
   ·have g51p:(¬ ((((at_.row≤(t108:Int))∧((t108:Int)<(IntKind.i64.wrap (at_.row+(gRows.length:Int)))))∧(at_.col≤(t115:Int)))∧((t115:Int)<(IntKind.i64.wrap (at_.col+g.cols)))))∧(((fR.getD t108 []).getD t115 Cel.zero).wide=0):=by first|simpa using g51|(simp at g51 ⊢;omega)
    refine zdg 3 8 [2] [(158,.slice (va r5.q) y0.2.1.length r5.k),(159,iv (t108:Int))] ?_
    refine A2r 3 rfl (by have:=hw8.1;omega) fun a52 hq53=>?_
    refine A4o (K7 (k:=t108) (d:=(⟨none,0,0⟩:Slc)) hw8 4 rfl (by have:=hw8.1;omega)) ?_
    have:=K8 hw8 (k:=t108) (d:=(⟨none,0,0⟩:Slc)) (by have:=hw8.1;omega)
    refine dd rfl (F1 S6 rfl rfl hq53 rfl t108 rfl (by omega)) ?_
    refine dd rfl (F5 (D6 (v:=.slice ((rs6.getD t108 (⟨none,0,0⟩:Slc)).q) ((rs6.getD t108 (⟨none,0,0⟩:Slc)).n) ((rs6.getD t108 (⟨none,0,0⟩:Slc)).k)) (us:=[.slice ((rs6.getD t108 (⟨none,0,0⟩:Slc)).q) ((rs6.getD t108 (⟨none,0,0⟩:Slc)).n) ((rs6.getD t108 (⟨none,0,0⟩:Slc)).k)]) A1k rfl rfl (G6 (c:=C3) (sz:=1) hq53 (fun _=>rfl) 4 rfl (gd (⟨none,0,0⟩:Slc) (by have:=hw8.1;omega))) rfl) (M3 hw8 (by have:=hw8.1;omega))) ?_
    refine dp' 1 5 [(162,iv (t115:Int))] ?_
    refine A2r 0 rfl (by omega) fun a54 hq55=>?_
    refine dd rfl (F1 Q8 rfl rfl hq55 rfl t115 rfl (by omega)) ?_
    refine dd rfl (M5 (us:=B3 ((y0.2.1.getD t108 []).getD t115 Cel.zero)) B1d rfl rfl (G6 (c:=B3) (sz:=12) hq55 (fun _=>rfl) 0 rfl (gd Cel.zero (by omega))) rfl) ?_
    refine zdg 1 2 [0] [(165,ag (B3 ((fR.getD t108 []).getD t115 Cel.zero)))] ?_
    refine dd rfl (A1l (a:=((y0.2.1.getD t108 []).getD t115 Cel.zero)) (b:=((fR.getD t108 []).getD t115 Cel.zero)) B9s rfl rfl rfl) ?_
    refine dp' 1 0 [(167,bv (!(decide (((y0.2.1.getD t108 []).getD t115 Cel.zero)=((fR.getD t108 []).getD t115 Cel.zero)))))] ?_
    exact zad 11 156 167 g51
   refine de ?_
   refine zjb rfl hR ?_ ?_<;>clear hR<;>intro hR h56
   ·refine sr 1 rfl (ip' 1 0 [(6,bv false)] ?_)
    subst hR
    refine ie (B4 ?_)
    exact F8 hr hD
   refine A8 (nx (A1 2 rfl (ix rfl (B0 rfl rfl rfl rfl (by omega)) ?_)))
   refine ip' 1 0 [(115,iv ((t115:Int)+1))] ?_
   refine A6 ?_
   exact B2u (z1:=t115) (t115+1) ⟨(by omega),hR⟩ (by (try dsimp only);omega) (mk [false,true,true,true,true,true] rfl) A5.refl
  have h43p:¬ ((t115:Int)<((fR.getD t108 []).length:Int)):=by simpa using h43
  rw [R8 h43p] at hR;replace hR:=(K0.eq_1 ..).symm.trans hR
  refine F3 (nx (A1 2 rfl (ix rfl (B0 rfl rfl rfl rfl (by omega)) ?_)))
  refine ip' 1 0 [(108,iv ((t108:Int)+1))] ?_
  refine A6 ?_
  exact B2u (z1:=t108) (t108+1) ⟨(by omega),hR⟩ (by (try dsimp only);omega) (mk [true,true,true,true,true] rfl) (A5.pick [1,2,3,4,5,6,7,8,9,10] rfl)
 have h39p:¬ ((t108:Int)<(fR.length:Int)):=by simpa using h39
 rw [R8 h39p] at hR;replace hR:=(H8.eq_1 ..).symm.trans hR
 refine F3 (nx (sr 1 rfl (ip' 1 0 [(6,bv true)] ?_)))
 subst hR
 refine ie (B4 ?_)
 exact F8 hr hD
end Go.Proofs.YthcjfkljekdioaaGreatDoor
