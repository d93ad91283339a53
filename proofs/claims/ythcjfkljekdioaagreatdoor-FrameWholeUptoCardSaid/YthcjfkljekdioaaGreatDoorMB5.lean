import Derived.Test.YthcjfkljekdioaaGreatDoorProg
import Derived.Test.YthcjfkljekdioaaGreatDoorMA2
import Derived.Test.YthcjfkljekdioaaGreatDoorMB1
import Derived.Test.YthcjfkljekdioaaGreatDoorMB2
import Derived.Test.YthcjfkljekdioaaGreatDoorMB3
import Derived.Test.YthcjfkljekdioaaGreatDoorMB4
import Derived.Test.YthcjfkljekdioaaGreatDoorMX1
set_option linter.unusedVariables false
set_option linter.unusedSimpArgs false
set_option linter.unnecessarySimpa false
set_option maxRecDepth 100000
namespace Go.Proofs.YthcjfkljekdioaaGreatDoor
open Go Go.Fen
def K5 (f:FrmC) (fR:List (List Cel)) (cut:Int) (y8:FrmC×List (List Cel)×Int) (t116:Nat) (ag_law23_FrameWhole_l2:Nat→Bool):List Cel→Nat→Bool
 | [],t130=>ag_law23_FrameWhole_l2 (t116+1)
 | hd_l3::tl_l3,t130=>(bif (((!(decide (((fR.getD t116 []).getD ((IntKind.i64.wrap ((IntKind.i64.wrap ((2:Int)+(IntKind.i64.wrap (Int.tmod (IntKind.u64.wrap cut) (IntKind.u64.wrap (IntKind.i64.wrap (f.cols - (3:Int)))))))) - (1:Int))).toNat) Cel.zero).wide=1)))||((!decide ((t130:Int)=(IntKind.i64.wrap ((IntKind.i64.wrap ((2:Int)+(IntKind.i64.wrap (Int.tmod (IntKind.u64.wrap cut) (IntKind.u64.wrap (IntKind.i64.wrap (f.cols - (3:Int)))))))) - (1:Int)))))&&(!decide ((t130:Int)=(IntKind.i64.wrap ((2:Int)+(IntKind.i64.wrap (Int.tmod (IntKind.u64.wrap cut) (IntKind.u64.wrap (IntKind.i64.wrap (f.cols - (3:Int))))))))))))&&(!(decide (((y8.2.1.getD t116 []).getD t130 Cel.zero)=hd_l3)))) then false else K5 f fR cut y8 t116 ag_law23_FrameWhole_l2 tl_l3 (t130+1))
def J8 (f:FrmC) (fR:List (List Cel)) (cut:Int) (y4:FrmC×List (List Cel)×Int) (y6:FrmC×List (List Cel)×Int) (y8:FrmC×List (List Cel)×Int):List (List Cel)→Nat→Bool
 | [],t116=>((f.visible == (y4.1.visible||y6.1.visible))&&(!(y4.1.visible&&y6.1.visible)))
 | hd_l2::tl_l2,t116=>K5 f fR cut y8 t116 (J8 f fR cut y4 y6 y8 tl_l2) hd_l2 0
def V8 (f:FrmC) (fR:List (List Cel)) (cut:Int):Bool :=
 (bif (!A0x) then false else (bif (!decide ((C6 f fR)=0)) then true else (F8 (M5 f fR 0 0 (fR.length:Int) f.cols) fun (y0:FrmC×List (List Cel)×Int)=>(bif ((!decide (y0.2.2=0))||(!(O5 y0.1 y0.2.1 f fR))) then false else (bif (decide (f.cols<4)) then true else (F8 (M5 f fR 0 0 (fR.length:Int) (IntKind.i64.wrap ((2:Int)+(IntKind.i64.wrap (Int.tmod (IntKind.u64.wrap cut) (IntKind.u64.wrap (IntKind.i64.wrap (f.cols - (3:Int))))))))) fun (y4:FrmC×List (List Cel)×Int)=>(F8 (M5 f fR 0 (IntKind.i64.wrap ((2:Int)+(IntKind.i64.wrap (Int.tmod (IntKind.u64.wrap cut) (IntKind.u64.wrap (IntKind.i64.wrap (f.cols - (3:Int)))))))) (fR.length:Int) (IntKind.i64.wrap (f.cols - (IntKind.i64.wrap ((2:Int)+(IntKind.i64.wrap (Int.tmod (IntKind.u64.wrap cut) (IntKind.u64.wrap (IntKind.i64.wrap (f.cols - (3:Int))))))))))) fun (y6:FrmC×List (List Cel)×Int)=>(bif ((!decide (y4.2.2=0))||(!decide (y6.2.2=0))) then false else (F8 (Q7 f.cols (fR.length:Int)) fun (y7:FrmC×List (List Cel)×Int)=>(bif (!decide (y7.2.2=0)) then false else (F8 (P0 y7.1 y7.2.1 y4.1 y4.2.1 Plc.zero) fun (y5:FrmC×List (List Cel)×Int)=>(F8 (P0 y5.1 y5.2.1 y6.1 y6.2.1 ({Plc.zero with col:=(IntKind.i64.wrap ((2:Int)+(IntKind.i64.wrap (Int.tmod (IntKind.u64.wrap cut) (IntKind.u64.wrap (IntKind.i64.wrap (f.cols - (3:Int))))))))})) fun (y8:FrmC×List (List Cel)×Int)=>(bif ((!decide (y5.2.2=0))||(!decide (y8.2.2=0))) then false else J8 f fR cut y4 y6 y8 fR 0)))))))))))))
theorem A7a (f:FrmC) (fR:List (List Cel)) (cut:Int) (fQ:Option Addr) (fZ:List Slc) (fK:Nat) (hrowsfRowsrs:C8 fZ fR) (hlfRows:fR.length≤9223372036854775807) (hcfRows:fR.length≤fK) (hT:f.title.length≤100000000) (R:Bool) (hR:V8 f fR cut=R):N2 Tryz.prog 11 [ag (A0 f ⟨fQ,fR.length,fK⟩),iv cut] [sl B9 fQ fZ,E7 B3 fZ fR,A0m,A0p] (bv R):=by
 refine zco Tryz.func11 [(0,ag (A0 f ⟨fQ,fR.length,fK⟩)),(1,iv cut)] fun X hX hr hD=>?_
 replace hR:=(V8.eq_1 ..).symm.trans hR
 have:=hrowsfRowsrs.1
 refine sr 2 rfl (K2 2 0 [] (fun b1=>[(2,pt b1 0)]) (fun b1=>[bx b1 (A0 f ⟨fQ,fR.length,fK⟩) 26]) (fun b1=>?_))
 refine ie (A4 (sr 2 rfl (zca (B3c _ rfl) (A5.pick [2,3] rfl) ?_)))
 refine ip' 1 0 [(21,bv (!A0x))] ?_
 refine ie ?_
 refine zjb rfl hR ?_ ?_<;>clear hR<;>intro hR h2
 ·refine sr 1 rfl (ip' 1 0 [(4,bv false)] ?_)
  subst hR
  refine ie (B4 ?_)
  exact F7 hr hD
 refine A8 (nx (A4 (sr 3 rfl (zrl 1 2 [0] [(22,ag (A0 f ⟨fQ,fR.length,fK⟩))] ?_))))
 refine zca (W5 f fR fQ fZ fK hrowsfRowsrs (by first|omega|(simp only [List.length_take,List.length_drop,List.length_append,List.length_cons,List.length_nil,List.length_set,List.length_map];omega)|decide) (by first|omega|(simp only [List.length_take,List.length_drop,List.length_append,List.length_cons,List.length_nil,List.length_set,List.length_map];omega)|decide) (by first|omega|(simp only [List.length_nil];omega)|(dsimp only;omega)) _ rfl) A5.refl ?_
 refine ip' 1 0 [(24,bv (!decide ((C6 f fR)=0)))] ?_
 refine ie ?_
 refine zjn rfl hR ?_ ?_<;>clear hR<;>intro hR h3 h3p
 ·refine sr 1 rfl (ip' 1 0 [(4,bv true)] ?_)
  subst hR
  refine ie (B4 ?_)
  exact F7 hr hD
 have hok:=A7x (by first|exact h3p|simpa using h3)
 have hk1:=hok.hc
 have hk2:=hok.hr
 refine A8 (nx (sr 4 rfl (zrl 4 0 [0] [(5,iv (fR.length:Int))] ?_)))
 refine ie (sr 12 rfl (zrl 5 7 [0,0] [(29,ag (A0 f ⟨fQ,fR.length,fK⟩)),(33,ag [iv 0,iv 0,iv (fR.length:Int),iv f.cols])] ?_))
 have hQ:=H4 hR;clear hR;obtain ⟨y0,hy0,hR⟩:=hQ
 refine it rfl (F6 (L2:=[bx b1 (A0 f ⟨fQ,fR.length,fK⟩) 26]) (A0c f fR 0 0 (fR.length:Int) f.cols fQ fZ fK hrowsfRowsrs (by first|omega|(simp only [List.length_take,List.length_drop,List.length_append,List.length_cons,List.length_nil,List.length_set,List.length_map];omega)|decide) (by first|omega|(simp only [List.length_take,List.length_drop,List.length_append,List.length_cons,List.length_nil,List.length_set,List.length_map];omega)|decide) (by first|omega|(simp only [List.length_nil];omega)|(dsimp only;omega)) y0 hy0) rfl rfl rfl rfl rfl A5.refl (List.Perm.refl _) (fun ⟨⟨r4,rs5⟩,hp8⟩=>(bx b1 (A0 f ⟨fQ,fR.length,fK⟩) 26::(vo B9 69 r4 rs5)++([]))) (fun ⟨⟨r4,rs5⟩,hp8⟩=>G5 [vo B9 69 r4 rs5,[bx b1 (A0 f ⟨fQ,fR.length,fK⟩) 26]] [1,0] 2 rfl (by decide) (by first|rfl|simp only [List.flatten_cons,List.flatten_nil,List.append_nil,List.cons_append,List.nil_append,List.append_assoc]) [[bx b1 (A0 f ⟨fQ,fR.length,fK⟩) 26],vo B9 69 r4 rs5] rfl (by first|rfl|simp only [List.flatten_cons,List.flatten_nil,List.append_nil,List.cons_append,List.nil_append,List.append_assoc]))) fun ⟨⟨r4,rs5⟩,hp8⟩=>?_
 try dsimp only at hp8
 obtain ⟨hk6,hw7⟩:=hp8
 have:=VOk.le hk6
 have:=VOk.cap hk6
 have:=hw7.1
 have ht_rframePart:=R6 f fR 0 0 (fR.length:Int) f.cols;rw [hy0] at ht_rframePart
 refine N1 [bx b1 (A0 f ⟨fQ,fR.length,fK⟩) 26] [] (T:=69) (c:=B9) (r:=r4) (xs:=rs5) (VOk.cast hk6 (by rw [hw7.1])) (by first|rfl|simp only [List.cons_append,List.append_assoc,List.nil_append,List.append_nil]) ?_
 refine K2 6 0 [0] (fun b9=>[(6,pt b9 0),(7,iv y0.2.2)]) (fun b9=>[bx b9 (A0 y0.1 ⟨va r4.q,y0.2.1.length,r4.k⟩) 26,bx b1 (A0 f ⟨fQ,fR.length,fK⟩) 26]) (fun b9=>?_)
 refine ie (A4 (sr 8 rfl (ip' 3 5 [(39,bv (!decide (y0.2.2=0)))] ?_)))
 refine zio 5 0 39 44 (!(O5 y0.1 y0.2.1 f fR)) (fun g10=>?_) ?_
 ·have g10p:¬ (¬ y0.2.2=0):=by simpa using g10
  refine zrl 2 3 [0,1] [(40,ag (A0 y0.1 ⟨va r4.q,y0.2.1.length,r4.k⟩)),(41,ag (A0 f ⟨fQ,fR.length,fK⟩))] ?_
  refine zca (A7n y0.1 y0.2.1 f fR (va r4.q) rs5 r4.k fQ fZ fK hw7 (by first|omega|(simp only [List.length_take,List.length_drop,List.length_append,List.length_cons,List.length_nil,List.length_set,List.length_map];omega)|decide) (by first|omega|(simp only [List.length_take,List.length_drop,List.length_append,List.length_cons,List.length_nil,List.length_set,List.length_map];omega)|decide) hrowsfRowsrs (by first|omega|(simp only [List.length_take,List.length_drop,List.length_append,List.length_cons,List.length_nil,List.length_set,List.length_map];omega)|decide) (by first|omega|(simp only [List.length_take,List.length_drop,List.length_append,List.length_cons,List.length_nil,List.length_set,List.length_map];omega)|decide) _ rfl) (A5.pick [0,1,2,3] rfl) ?_
  refine ip' 2 0 [(44,bv (!(O5 y0.1 y0.2.1 f fR)))] ?_
  exact zai 5 39 44 g10
 refine ie ?_
 refine zjb rfl hR ?_ ?_<;>clear hR<;>intro hR h11
 ·have h11p:=h11;try simp only [Bool.and_eq_true,Bool.or_eq_true,Bool.and_eq_false_iff,Bool.or_eq_false_iff,Bool.not_eq_true',Bool.not_eq_false',decide_eq_true_eq,decide_eq_false_iff_not] at h11p
  refine sr 1 rfl (ip' 1 0 [(4,bv false)] ?_)
  subst hR
  refine ie (B4 ?_)
  exact F7 hr hD
 have h11p:=h11;try simp only [Bool.and_eq_true,Bool.or_eq_true,Bool.and_eq_false_iff,Bool.or_eq_false_iff,Bool.not_eq_true',Bool.not_eq_false',decide_eq_true_eq,decide_eq_false_iff_not] at h11p
 refine A8 (nx (A4 (sr 3 rfl (zrl 3 0 [1] [(47,bv (decide (f.cols<4)))] ?_))))
 refine ie ?_
 refine zjd rfl hR ?_ ?_<;>clear hR<;>intro hR h12 h12p
 ·refine sr 1 rfl (ip' 1 0 [(4,bv true)] ?_)
  subst hR
  refine ie (B4 ?_)
  exact F7 hr hD
 have hw1:IntKind.u64.wrap (IntKind.i64.wrap (f.cols - (3:Int)))=f.cols - 3:=by rw [wr6 (show -1000000≤f.cols - 3∧f.cols - 3≤1000000 by omega),wru (show 0≤f.cols - 3∧f.cols - 3≤1000000 by omega)]
 have hN:=C1t f.cols cut ⟨by omega,by omega⟩
 have hM:=C9a f.cols cut ⟨by omega,by omega⟩
 refine A8 (nx (sr 10 rfl (zrl 4 6 [1] [(49,.int .u64 (IntKind.u64.wrap cut)),(51,iv f.cols)] ?_)))
 refine ix rfl (I4.pure rfl) ?_
 refine ip' 1 4 [(53,.int .u64 (IntKind.u64.wrap (IntKind.i64.wrap (f.cols - (3:Int)))))] ?_
 refine ix rfl (C5d rfl rfl rfl (by first|omega|exact C5f (by decide) (by first|omega|(simp only [List.length_cons,List.length_nil];omega))|omega) rfl) ?_
 refine ip' 1 2 [(55,iv (IntKind.i64.wrap (Int.tmod (IntKind.u64.wrap cut) (IntKind.u64.wrap (IntKind.i64.wrap (f.cols - (3:Int)))))))] ?_
 refine ix rfl (I4.pure rfl) ?_
 refine ip' 1 0 [(8,iv (IntKind.i64.wrap ((2:Int)+(IntKind.i64.wrap (Int.tmod (IntKind.u64.wrap cut) (IntKind.u64.wrap (IntKind.i64.wrap (f.cols - (3:Int)))))))))] ?_
 refine ie (sr 11 rfl (zrl 4 7 [1] [(58,ag (A0 f ⟨fQ,fR.length,fK⟩)),(61,ag [iv 0,iv 0,iv (fR.length:Int),iv (IntKind.i64.wrap ((2:Int)+(IntKind.i64.wrap (Int.tmod (IntKind.u64.wrap cut) (IntKind.u64.wrap (IntKind.i64.wrap (f.cols - (3:Int))))))))])] ?_))
 have hQ:=H4 hR;clear hR;obtain ⟨y4,hy4,hR⟩:=hQ
 refine it rfl (F6 (L2:=[bx b9 (A0 y0.1 ⟨va r4.q,y0.2.1.length,r4.k⟩) 26,bx b1 (A0 f ⟨fQ,fR.length,fK⟩) 26]) (A0c f fR 0 0 (fR.length:Int) (IntKind.i64.wrap ((2:Int)+(IntKind.i64.wrap (Int.tmod (IntKind.u64.wrap cut) (IntKind.u64.wrap (IntKind.i64.wrap (f.cols - (3:Int)))))))) fQ fZ fK hrowsfRowsrs (by first|omega|(simp only [List.length_take,List.length_drop,List.length_append,List.length_cons,List.length_nil,List.length_set,List.length_map];omega)|decide) (by first|omega|(simp only [List.length_take,List.length_drop,List.length_append,List.length_cons,List.length_nil,List.length_set,List.length_map];omega)|decide) (by first|omega|(simp only [List.length_nil];omega)|(dsimp only;omega)) y4 hy4) rfl rfl rfl rfl rfl (A5.pick [2,3,4,5] rfl) (List.Perm.refl _) (fun ⟨⟨r13,rs14⟩,hp17⟩=>(bx b9 (A0 y0.1 ⟨va r4.q,y0.2.1.length,r4.k⟩) 26::bx b1 (A0 f ⟨fQ,fR.length,fK⟩) 26::(vo B9 69 r13 rs14)++([]))) (fun ⟨⟨r13,rs14⟩,hp17⟩=>G5 [vo B9 69 r13 rs14,[bx b9 (A0 y0.1 ⟨va r4.q,y0.2.1.length,r4.k⟩) 26],[bx b1 (A0 f ⟨fQ,fR.length,fK⟩) 26]] [1,2,0] 3 rfl (by decide) (by first|rfl|simp only [List.flatten_cons,List.flatten_nil,List.append_nil,List.cons_append,List.nil_append,List.append_assoc]) [[bx b9 (A0 y0.1 ⟨va r4.q,y0.2.1.length,r4.k⟩) 26],[bx b1 (A0 f ⟨fQ,fR.length,fK⟩) 26],vo B9 69 r13 rs14] rfl (by first|rfl|simp only [List.flatten_cons,List.flatten_nil,List.append_nil,List.cons_append,List.nil_append,List.append_assoc]))) fun ⟨⟨r13,rs14⟩,hp17⟩=>?_
 try dsimp only at hp17
 obtain ⟨hk15,hw16⟩:=hp17
 have:=VOk.le hk15
 have:=VOk.cap hk15
 have:=hw16.1
 have ht_rframePart1:=R6 f fR 0 0 (fR.length:Int) (IntKind.i64.wrap ((2:Int)+(IntKind.i64.wrap (Int.tmod (IntKind.u64.wrap cut) (IntKind.u64.wrap (IntKind.i64.wrap (f.cols - (3:Int))))))));rw [hy4] at ht_rframePart1
 refine N1 [bx b9 (A0 y0.1 ⟨va r4.q,y0.2.1.length,r4.k⟩) 26,bx b1 (A0 f ⟨fQ,fR.length,fK⟩) 26] [] (T:=69) (c:=B9) (r:=r13) (xs:=rs14) (VOk.cast hk15 (by rw [hw16.1])) (by first|rfl|simp only [List.cons_append,List.append_assoc,List.nil_append,List.append_nil]) ?_
 refine K2 6 0 [0] (fun b18=>[(9,pt b18 0),(7,iv y4.2.2)]) (fun b18=>[bx b18 (A0 y4.1 ⟨va r13.q,y4.2.1.length,r13.k⟩) 26,bx b9 (A0 y0.1 ⟨va r4.q,y0.2.1.length,r4.k⟩) 26,bx b1 (A0 f ⟨fQ,fR.length,fK⟩) 26]) (fun b18=>?_)
 refine ie (sr 15 rfl (zrl 6 9 [2,2] [(66,ag (A0 f ⟨fQ,fR.length,fK⟩)),(67,iv (IntKind.i64.wrap ((2:Int)+(IntKind.i64.wrap (Int.tmod (IntKind.u64.wrap cut) (IntKind.u64.wrap (IntKind.i64.wrap (f.cols - (3:Int))))))))),(68,iv (fR.length:Int)),(70,iv f.cols),(71,iv (IntKind.i64.wrap ((2:Int)+(IntKind.i64.wrap (Int.tmod (IntKind.u64.wrap cut) (IntKind.u64.wrap (IntKind.i64.wrap (f.cols - (3:Int)))))))))] ?_))
 refine ix rfl (I4.pure rfl) ?_
 refine zrl 1 7 [] [(73,ag [iv 0,iv (IntKind.i64.wrap ((2:Int)+(IntKind.i64.wrap (Int.tmod (IntKind.u64.wrap cut) (IntKind.u64.wrap (IntKind.i64.wrap (f.cols - (3:Int)))))))),iv (fR.length:Int),iv (IntKind.i64.wrap (f.cols - (IntKind.i64.wrap ((2:Int)+(IntKind.i64.wrap (Int.tmod (IntKind.u64.wrap cut) (IntKind.u64.wrap (IntKind.i64.wrap (f.cols - (3:Int))))))))))])] ?_
 have hQ:=H4 hR;clear hR;obtain ⟨y6,hy6,hR⟩:=hQ
 refine it rfl (F6 (L2:=[bx b18 (A0 y4.1 ⟨va r13.q,y4.2.1.length,r13.k⟩) 26,bx b9 (A0 y0.1 ⟨va r4.q,y0.2.1.length,r4.k⟩) 26,bx b1 (A0 f ⟨fQ,fR.length,fK⟩) 26]) (A0c f fR 0 (IntKind.i64.wrap ((2:Int)+(IntKind.i64.wrap (Int.tmod (IntKind.u64.wrap cut) (IntKind.u64.wrap (IntKind.i64.wrap (f.cols - (3:Int)))))))) (fR.length:Int) (IntKind.i64.wrap (f.cols - (IntKind.i64.wrap ((2:Int)+(IntKind.i64.wrap (Int.tmod (IntKind.u64.wrap cut) (IntKind.u64.wrap (IntKind.i64.wrap (f.cols - (3:Int)))))))))) fQ fZ fK hrowsfRowsrs (by first|omega|(simp only [List.length_take,List.length_drop,List.length_append,List.length_cons,List.length_nil,List.length_set,List.length_map];omega)|decide) (by first|omega|(simp only [List.length_take,List.length_drop,List.length_append,List.length_cons,List.length_nil,List.length_set,List.length_map];omega)|decide) (by first|omega|(simp only [List.length_nil];omega)|(dsimp only;omega)) y6 hy6) rfl rfl rfl rfl rfl (A5.pick [4,5,6,7] rfl) (List.Perm.refl _) (fun ⟨⟨r19,rs20⟩,hp23⟩=>(bx b18 (A0 y4.1 ⟨va r13.q,y4.2.1.length,r13.k⟩) 26::bx b9 (A0 y0.1 ⟨va r4.q,y0.2.1.length,r4.k⟩) 26::bx b1 (A0 f ⟨fQ,fR.length,fK⟩) 26::(vo B9 69 r19 rs20)++([]))) (fun ⟨⟨r19,rs20⟩,hp23⟩=>G5 [vo B9 69 r19 rs20,[bx b18 (A0 y4.1 ⟨va r13.q,y4.2.1.length,r13.k⟩) 26],[bx b9 (A0 y0.1 ⟨va r4.q,y0.2.1.length,r4.k⟩) 26],[bx b1 (A0 f ⟨fQ,fR.length,fK⟩) 26]] [1,2,3,0] 4 rfl (by decide) (by first|rfl|simp only [List.flatten_cons,List.flatten_nil,List.append_nil,List.cons_append,List.nil_append,List.append_assoc]) [[bx b18 (A0 y4.1 ⟨va r13.q,y4.2.1.length,r13.k⟩) 26],[bx b9 (A0 y0.1 ⟨va r4.q,y0.2.1.length,r4.k⟩) 26],[bx b1 (A0 f ⟨fQ,fR.length,fK⟩) 26],vo B9 69 r19 rs20] rfl (by first|rfl|simp only [List.flatten_cons,List.flatten_nil,List.append_nil,List.cons_append,List.nil_append,List.append_assoc]))) fun ⟨⟨r19,rs20⟩,hp23⟩=>?_
 try dsimp only at hp23
 obtain ⟨hk21,hw22⟩:=hp23
 have:=VOk.le hk21
 have:=VOk.cap hk21
 have:=hw22.1
 have ht_rframePart2:=R6 f fR 0 (IntKind.i64.wrap ((2:Int)+(IntKind.i64.wrap (Int.tmod (IntKind.u64.wrap cut) (IntKind.u64.wrap (IntKind.i64.wrap (f.cols - (3:Int)))))))) (fR.length:Int) (IntKind.i64.wrap (f.cols - (IntKind.i64.wrap ((2:Int)+(IntKind.i64.wrap (Int.tmod (IntKind.u64.wrap cut) (IntKind.u64.wrap (IntKind.i64.wrap (f.cols - (3:Int))))))))));rw [hy6] at ht_rframePart2
 refine N1 [bx b18 (A0 y4.1 ⟨va r13.q,y4.2.1.length,r13.k⟩) 26,bx b9 (A0 y0.1 ⟨va r4.q,y0.2.1.length,r4.k⟩) 26,bx b1 (A0 f ⟨fQ,fR.length,fK⟩) 26] [] (T:=69) (c:=B9) (r:=r19) (xs:=rs20) (VOk.cast hk21 (by rw [hw22.1])) (by first|rfl|simp only [List.cons_append,List.append_assoc,List.nil_append,List.append_nil]) ?_
 refine K2 6 0 [0] (fun b24=>[(10,pt b24 0),(11,iv y6.2.2)]) (fun b24=>[bx b24 (A0 y6.1 ⟨va r19.q,y6.2.1.length,r19.k⟩) 26,bx b18 (A0 y4.1 ⟨va r13.q,y4.2.1.length,r13.k⟩) 26,bx b9 (A0 y0.1 ⟨va r4.q,y0.2.1.length,r4.k⟩) 26,bx b1 (A0 f ⟨fQ,fR.length,fK⟩) 26]) (fun b24=>?_)
 refine ie (A4 (sr 6 rfl (ip' 3 3 [(79,bv (!decide (y4.2.2=0)))] ?_)))
 refine zio 3 0 79 82 (!decide (y6.2.2=0)) (fun g25=>?_) ?_
 ·have g25p:¬ (¬ y4.2.2=0):=by simpa using g25
  refine ip' 3 0 [(82,bv (!decide (y6.2.2=0)))] ?_
  exact zai 2 79 82 g25
 refine ie ?_
 refine zjb rfl hR ?_ ?_<;>clear hR<;>intro hR h26
 ·have h26p:(¬ y4.2.2=0)∨(¬ y6.2.2=0):=by simpa using h26
  refine sr 1 rfl (ip' 1 0 [(4,bv false)] ?_)
  subst hR
  refine ie (B4 ?_)
  exact F7 hr hD
 have h26p:¬ ((¬ y4.2.2=0)∨(¬ y6.2.2=0)):=by simpa using h26
 refine A8 (nx (sr 10 rfl (zrl 3 7 [3] [(85,iv f.cols),(86,iv (fR.length:Int))] ?_)))
 have hQ:=H4 hR;clear hR;obtain ⟨y7,hy7,hR⟩:=hQ
 refine it rfl (F6 (L2:=[bx b24 (A0 y6.1 ⟨va r19.q,y6.2.1.length,r19.k⟩) 26,bx b18 (A0 y4.1 ⟨va r13.q,y4.2.1.length,r13.k⟩) 26,bx b9 (A0 y0.1 ⟨va r4.q,y0.2.1.length,r4.k⟩) 26,bx b1 (A0 f ⟨fQ,fR.length,fK⟩) 26]) (A2z f.cols (fR.length:Int) y7 hy7) rfl rfl rfl rfl rfl fn0 (List.Perm.refl _) (fun ⟨⟨r27,rs28⟩,hp31⟩=>(bx b24 (A0 y6.1 ⟨va r19.q,y6.2.1.length,r19.k⟩) 26::bx b18 (A0 y4.1 ⟨va r13.q,y4.2.1.length,r13.k⟩) 26::bx b9 (A0 y0.1 ⟨va r4.q,y0.2.1.length,r4.k⟩) 26::bx b1 (A0 f ⟨fQ,fR.length,fK⟩) 26::(vo B9 69 r27 rs28)++([]))) (fun ⟨⟨r27,rs28⟩,hp31⟩=>G5 [vo B9 69 r27 rs28,[bx b24 (A0 y6.1 ⟨va r19.q,y6.2.1.length,r19.k⟩) 26],[bx b18 (A0 y4.1 ⟨va r13.q,y4.2.1.length,r13.k⟩) 26],[bx b9 (A0 y0.1 ⟨va r4.q,y0.2.1.length,r4.k⟩) 26],[bx b1 (A0 f ⟨fQ,fR.length,fK⟩) 26]] [1,2,3,4,0] 5 rfl (by decide) (by first|rfl|simp only [List.flatten_cons,List.flatten_nil,List.append_nil,List.cons_append,List.nil_append,List.append_assoc]) [[bx b24 (A0 y6.1 ⟨va r19.q,y6.2.1.length,r19.k⟩) 26],[bx b18 (A0 y4.1 ⟨va r13.q,y4.2.1.length,r13.k⟩) 26],[bx b9 (A0 y0.1 ⟨va r4.q,y0.2.1.length,r4.k⟩) 26],[bx b1 (A0 f ⟨fQ,fR.length,fK⟩) 26],vo B9 69 r27 rs28] rfl (by first|rfl|simp only [List.flatten_cons,List.flatten_nil,List.append_nil,List.cons_append,List.nil_append,List.append_assoc]))) fun ⟨⟨r27,rs28⟩,hp31⟩=>?_
 try dsimp only at hp31
 obtain ⟨hk29,hw30⟩:=hp31
 have:=VOk.le hk29
 have:=VOk.cap hk29
 have:=hw30.1
 have ht_rframeBlank:=Y5 f.cols (fR.length:Int);rw [hy7] at ht_rframeBlank
 refine N1 [bx b24 (A0 y6.1 ⟨va r19.q,y6.2.1.length,r19.k⟩) 26,bx b18 (A0 y4.1 ⟨va r13.q,y4.2.1.length,r13.k⟩) 26,bx b9 (A0 y0.1 ⟨va r4.q,y0.2.1.length,r4.k⟩) 26,bx b1 (A0 f ⟨fQ,fR.length,fK⟩) 26] [] (T:=69) (c:=B9) (r:=r27) (xs:=rs28) (VOk.cast hk29 (by rw [hw30.1])) (by first|rfl|simp only [List.cons_append,List.append_assoc,List.nil_append,List.append_nil]) ?_
 refine K2 6 0 [0] (fun b32=>[(12,pt b32 0),(7,iv y7.2.2)]) (fun b32=>[bx b32 (A0 y7.1 ⟨va r27.q,y7.2.1.length,r27.k⟩) 26,bx b24 (A0 y6.1 ⟨va r19.q,y6.2.1.length,r19.k⟩) 26,bx b18 (A0 y4.1 ⟨va r13.q,y4.2.1.length,r13.k⟩) 26,bx b9 (A0 y0.1 ⟨va r4.q,y0.2.1.length,r4.k⟩) 26,bx b1 (A0 f ⟨fQ,fR.length,fK⟩) 26]) (fun b32=>?_)
 refine ie (A4 (sr 2 rfl (ip' 2 0 [(91,bv (!decide (y7.2.2=0)))] ?_)))
 refine ie ?_
 refine zjn rfl hR ?_ ?_<;>clear hR<;>intro hR h33 h33p
 ·refine sr 1 rfl (ip' 1 0 [(4,bv false)] ?_)
  subst hR
  refine ie (B4 ?_)
  exact F7 hr hD
 refine A8 (nx (sr 10 rfl (zrl 3 7 [0,2] [(93,ag (A0 y7.1 ⟨va r27.q,y7.2.1.length,r27.k⟩)),(94,ag (A0 y4.1 ⟨va r13.q,y4.2.1.length,r13.k⟩)),(95,ag (I9 Plc.zero))] ?_)))
 have hQ:=H4 hR;clear hR;obtain ⟨y5,hy5,hR⟩:=hQ
 refine it rfl (F6 (L2:=[bx b32 (A0 y7.1 ⟨va r27.q,y7.2.1.length,r27.k⟩) 26,bx b24 (A0 y6.1 ⟨va r19.q,y6.2.1.length,r19.k⟩) 26,bx b18 (A0 y4.1 ⟨va r13.q,y4.2.1.length,r13.k⟩) 26,bx b9 (A0 y0.1 ⟨va r4.q,y0.2.1.length,r4.k⟩) 26,bx b1 (A0 f ⟨fQ,fR.length,fK⟩) 26]) (A4z y7.1 y7.2.1 y4.1 y4.2.1 Plc.zero (va r27.q) rs28 r27.k (va r13.q) rs14 r13.k hw30 (by first|omega|(simp only [List.length_take,List.length_drop,List.length_append,List.length_cons,List.length_nil,List.length_set,List.length_map];omega)|decide) (by first|omega|(simp only [List.length_take,List.length_drop,List.length_append,List.length_cons,List.length_nil,List.length_set,List.length_map];omega)|decide) hw16 (by first|omega|(simp only [List.length_take,List.length_drop,List.length_append,List.length_cons,List.length_nil,List.length_set,List.length_map];omega)|decide) (by first|omega|(simp only [List.length_take,List.length_drop,List.length_append,List.length_cons,List.length_nil,List.length_set,List.length_map];omega)|decide) (by first|omega|(simp only [List.length_nil];omega)|(dsimp only;omega)) (by first|omega|(simp only [List.length_nil];omega)|(dsimp only;omega)) y5 hy5) rfl rfl rfl rfl rfl (A5.pick [0,1,4,5,10,11] rfl) (List.Perm.refl _) (fun ⟨⟨r34,rs35⟩,hp38⟩=>(bx b32 (A0 y7.1 ⟨va r27.q,y7.2.1.length,r27.k⟩) 26::bx b24 (A0 y6.1 ⟨va r19.q,y6.2.1.length,r19.k⟩) 26::bx b18 (A0 y4.1 ⟨va r13.q,y4.2.1.length,r13.k⟩) 26::bx b9 (A0 y0.1 ⟨va r4.q,y0.2.1.length,r4.k⟩) 26::bx b1 (A0 f ⟨fQ,fR.length,fK⟩) 26::(vo B9 69 r34 rs35)++([]))) (fun ⟨⟨r34,rs35⟩,hp38⟩=>G5 [vo B9 69 r34 rs35,[bx b32 (A0 y7.1 ⟨va r27.q,y7.2.1.length,r27.k⟩) 26],[bx b24 (A0 y6.1 ⟨va r19.q,y6.2.1.length,r19.k⟩) 26],[bx b18 (A0 y4.1 ⟨va r13.q,y4.2.1.length,r13.k⟩) 26],[bx b9 (A0 y0.1 ⟨va r4.q,y0.2.1.length,r4.k⟩) 26],[bx b1 (A0 f ⟨fQ,fR.length,fK⟩) 26]] [1,2,3,4,5,0] 6 rfl (by decide) (by first|rfl|simp only [List.flatten_cons,List.flatten_nil,List.append_nil,List.cons_append,List.nil_append,List.append_assoc]) [[bx b32 (A0 y7.1 ⟨va r27.q,y7.2.1.length,r27.k⟩) 26],[bx b24 (A0 y6.1 ⟨va r19.q,y6.2.1.length,r19.k⟩) 26],[bx b18 (A0 y4.1 ⟨va r13.q,y4.2.1.length,r13.k⟩) 26],[bx b9 (A0 y0.1 ⟨va r4.q,y0.2.1.length,r4.k⟩) 26],[bx b1 (A0 f ⟨fQ,fR.length,fK⟩) 26],vo B9 69 r34 rs35] rfl (by first|rfl|simp only [List.flatten_cons,List.flatten_nil,List.append_nil,List.cons_append,List.nil_append,List.append_assoc]))) fun ⟨⟨r34,rs35⟩,hp38⟩=>?_
 try dsimp only at hp38
 obtain ⟨hk36,hw37⟩:=hp38
 have:=VOk.le hk36
 have:=VOk.cap hk36
 have:=hw37.1
 have ht_rframePut:=A1m y7.1 y7.2.1 y4.1 y4.2.1 Plc.zero;rw [hy5] at ht_rframePut
 refine N1 [bx b32 (A0 y7.1 ⟨va r27.q,y7.2.1.length,r27.k⟩) 26,bx b24 (A0 y6.1 ⟨va r19.q,y6.2.1.length,r19.k⟩) 26,bx b18 (A0 y4.1 ⟨va r13.q,y4.2.1.length,r13.k⟩) 26,bx b9 (A0 y0.1 ⟨va r4.q,y0.2.1.length,r4.k⟩) 26,bx b1 (A0 f ⟨fQ,fR.length,fK⟩) 26] [] (T:=69) (c:=B9) (r:=r34) (xs:=rs35) (VOk.cast hk36 (by rw [hw37.1])) (by first|rfl|simp only [List.cons_append,List.append_assoc,List.nil_append,List.append_nil]) ?_
 refine K2 6 0 [0] (fun b39=>[(13,pt b39 0),(7,iv y5.2.2)]) (fun b39=>[bx b39 (A0 y5.1 ⟨va r34.q,y5.2.1.length,r34.k⟩) 26,bx b32 (A0 y7.1 ⟨va r27.q,y7.2.1.length,r27.k⟩) 26,bx b24 (A0 y6.1 ⟨va r19.q,y6.2.1.length,r19.k⟩) 26,bx b18 (A0 y4.1 ⟨va r13.q,y4.2.1.length,r13.k⟩) 26,bx b9 (A0 y0.1 ⟨va r4.q,y0.2.1.length,r4.k⟩) 26,bx b1 (A0 f ⟨fQ,fR.length,fK⟩) 26]) (fun b39=>?_)
 refine ie (sr 11 rfl (zrl 4 7 [0,2] [(100,ag (A0 y5.1 ⟨va r34.q,y5.2.1.length,r34.k⟩)),(101,ag (A0 y6.1 ⟨va r19.q,y6.2.1.length,r19.k⟩)),(103,ag (I9 ({Plc.zero with col:=(IntKind.i64.wrap ((2:Int)+(IntKind.i64.wrap (Int.tmod (IntKind.u64.wrap cut) (IntKind.u64.wrap (IntKind.i64.wrap (f.cols - (3:Int))))))))})))] ?_))
 have hQ:=H4 hR;clear hR;obtain ⟨y8,hy8,hR⟩:=hQ
 refine it rfl (F6 (L2:=[bx b39 (A0 y5.1 ⟨va r34.q,y5.2.1.length,r34.k⟩) 26,bx b32 (A0 y7.1 ⟨va r27.q,y7.2.1.length,r27.k⟩) 26,bx b24 (A0 y6.1 ⟨va r19.q,y6.2.1.length,r19.k⟩) 26,bx b18 (A0 y4.1 ⟨va r13.q,y4.2.1.length,r13.k⟩) 26,bx b9 (A0 y0.1 ⟨va r4.q,y0.2.1.length,r4.k⟩) 26,bx b1 (A0 f ⟨fQ,fR.length,fK⟩) 26]) (A4z y5.1 y5.2.1 y6.1 y6.2.1 ({Plc.zero with col:=(IntKind.i64.wrap ((2:Int)+(IntKind.i64.wrap (Int.tmod (IntKind.u64.wrap cut) (IntKind.u64.wrap (IntKind.i64.wrap (f.cols - (3:Int))))))))}) (va r34.q) rs35 r34.k (va r19.q) rs20 r19.k hw37 (by first|omega|(simp only [List.length_take,List.length_drop,List.length_append,List.length_cons,List.length_nil,List.length_set,List.length_map];omega)|decide) (by first|omega|(simp only [List.length_take,List.length_drop,List.length_append,List.length_cons,List.length_nil,List.length_set,List.length_map];omega)|decide) hw22 (by first|omega|(simp only [List.length_take,List.length_drop,List.length_append,List.length_cons,List.length_nil,List.length_set,List.length_map];omega)|decide) (by first|omega|(simp only [List.length_take,List.length_drop,List.length_append,List.length_cons,List.length_nil,List.length_set,List.length_map];omega)|decide) (by first|omega|(simp only [List.length_nil];omega)|(dsimp only;omega)) (by first|omega|(simp only [List.length_nil];omega)|(dsimp only;omega)) y8 hy8) rfl rfl rfl rfl rfl (A5.pick [0,1,4,5,12,13] rfl) (List.Perm.refl _) (fun ⟨⟨r40,rs41⟩,hp44⟩=>(bx b39 (A0 y5.1 ⟨va r34.q,y5.2.1.length,r34.k⟩) 26::bx b32 (A0 y7.1 ⟨va r27.q,y7.2.1.length,r27.k⟩) 26::bx b24 (A0 y6.1 ⟨va r19.q,y6.2.1.length,r19.k⟩) 26::bx b18 (A0 y4.1 ⟨va r13.q,y4.2.1.length,r13.k⟩) 26::bx b9 (A0 y0.1 ⟨va r4.q,y0.2.1.length,r4.k⟩) 26::bx b1 (A0 f ⟨fQ,fR.length,fK⟩) 26::(vo B9 69 r40 rs41)++([]))) (fun ⟨⟨r40,rs41⟩,hp44⟩=>G5 [vo B9 69 r40 rs41,[bx b39 (A0 y5.1 ⟨va r34.q,y5.2.1.length,r34.k⟩) 26],[bx b32 (A0 y7.1 ⟨va r27.q,y7.2.1.length,r27.k⟩) 26],[bx b24 (A0 y6.1 ⟨va r19.q,y6.2.1.length,r19.k⟩) 26],[bx b18 (A0 y4.1 ⟨va r13.q,y4.2.1.length,r13.k⟩) 26],[bx b9 (A0 y0.1 ⟨va r4.q,y0.2.1.length,r4.k⟩) 26],[bx b1 (A0 f ⟨fQ,fR.length,fK⟩) 26]] [1,2,3,4,5,6,0] 7 rfl (by decide) (by first|rfl|simp only [List.flatten_cons,List.flatten_nil,List.append_nil,List.cons_append,List.nil_append,List.append_assoc]) [[bx b39 (A0 y5.1 ⟨va r34.q,y5.2.1.length,r34.k⟩) 26],[bx b32 (A0 y7.1 ⟨va r27.q,y7.2.1.length,r27.k⟩) 26],[bx b24 (A0 y6.1 ⟨va r19.q,y6.2.1.length,r19.k⟩) 26],[bx b18 (A0 y4.1 ⟨va r13.q,y4.2.1.length,r13.k⟩) 26],[bx b9 (A0 y0.1 ⟨va r4.q,y0.2.1.length,r4.k⟩) 26],[bx b1 (A0 f ⟨fQ,fR.length,fK⟩) 26],vo B9 69 r40 rs41] rfl (by first|rfl|simp only [List.flatten_cons,List.flatten_nil,List.append_nil,List.cons_append,List.nil_append,List.append_assoc]))) fun ⟨⟨r40,rs41⟩,hp44⟩=>?_
 try dsimp only at hp44
 obtain ⟨hk42,hw43⟩:=hp44
 have:=VOk.le hk42
 have:=VOk.cap hk42
 have:=hw43.1
 have ht_rframePut1:=A1m y5.1 y5.2.1 y6.1 y6.2.1 ({Plc.zero with col:=(IntKind.i64.wrap ((2:Int)+(IntKind.i64.wrap (Int.tmod (IntKind.u64.wrap cut) (IntKind.u64.wrap (IntKind.i64.wrap (f.cols - (3:Int))))))))});rw [hy8] at ht_rframePut1
 refine N1 [bx b39 (A0 y5.1 ⟨va r34.q,y5.2.1.length,r34.k⟩) 26,bx b32 (A0 y7.1 ⟨va r27.q,y7.2.1.length,r27.k⟩) 26,bx b24 (A0 y6.1 ⟨va r19.q,y6.2.1.length,r19.k⟩) 26,bx b18 (A0 y4.1 ⟨va r13.q,y4.2.1.length,r13.k⟩) 26,bx b9 (A0 y0.1 ⟨va r4.q,y0.2.1.length,r4.k⟩) 26,bx b1 (A0 f ⟨fQ,fR.length,fK⟩) 26] [] (T:=69) (c:=B9) (r:=r40) (xs:=rs41) (VOk.cast hk42 (by rw [hw43.1])) (by first|rfl|simp only [List.cons_append,List.append_assoc,List.nil_append,List.append_nil]) ?_
 refine K2 6 0 [0] (fun b45=>[(14,pt b45 0),(11,iv y8.2.2)]) (fun b45=>[bx b45 (A0 y8.1 ⟨va r40.q,y8.2.1.length,r40.k⟩) 26,bx b39 (A0 y5.1 ⟨va r34.q,y5.2.1.length,r34.k⟩) 26,bx b32 (A0 y7.1 ⟨va r27.q,y7.2.1.length,r27.k⟩) 26,bx b24 (A0 y6.1 ⟨va r19.q,y6.2.1.length,r19.k⟩) 26,bx b18 (A0 y4.1 ⟨va r13.q,y4.2.1.length,r13.k⟩) 26,bx b9 (A0 y0.1 ⟨va r4.q,y0.2.1.length,r4.k⟩) 26,bx b1 (A0 f ⟨fQ,fR.length,fK⟩) 26]) (fun b45=>?_)
 refine ie (A4 (sr 6 rfl (ip' 3 3 [(109,bv (!decide (y5.2.2=0)))] ?_)))
 refine zio 3 0 109 112 (!decide (y8.2.2=0)) (fun g46=>?_) ?_
 ·have g46p:¬ (¬ y5.2.2=0):=by simpa using g46
  refine ip' 3 0 [(112,bv (!decide (y8.2.2=0)))] ?_
  exact zai 2 109 112 g46
 refine ie ?_
 refine zjb rfl hR ?_ ?_<;>clear hR<;>intro hR h47
 ·have h47p:(¬ y5.2.2=0)∨(¬ y8.2.2=0):=by simpa using h47
  refine sr 1 rfl (ip' 1 0 [(4,bv false)] ?_)
  subst hR
  refine ie (B4 ?_)
  exact F7 hr hD
 have h47p:¬ ((¬ y5.2.2=0)∨(¬ y8.2.2=0)):=by simpa using h47
 have hz1:y5.2.2=0:=by have:=h47p;omega
 have hz2:y8.2.2=0:=by have:=h47p;omega
 obtain ⟨-,-,-,hx1,hx2,-,hx3⟩:=B1k hy5 hz1
 obtain ⟨-,-,-,hy1,hy2,-,hy3⟩:=B1k hy8 hz2
 have hb:=hy7.symm.trans (B6d _ _ hok.hc hok.hr)
 have hbl:y7.2.1.length=fR.length:=by rw [hb,List.length_replicate];omega
 have hrl:y8.2.1.length=fR.length:=by rw [hy1,hx1,hbl]
 have hrr:∀ i,i<fR.length→((y8.2.1.getD i []).length:Int)=f.cols:=fun i hi=>by rw [hy2 i (by omega),hx3,hb]
 refine A8 (nx (A4 (sr 4 rfl (zrl 4 0 [6] [(114,.slice fQ fR.length fK),(115,iv (fR.length:Int)),(116,iv 0)] ?_))))
 refine ie (A9 (B7u (fun (t116:Nat)=>(t116≤fR.length∧J8 f fR cut y4 y6 y8 (fR.drop t116) t116=R,[(2,pt b1 0),(8,iv (IntKind.i64.wrap ((2:Int)+(IntKind.i64.wrap (Int.tmod (IntKind.u64.wrap cut) (IntKind.u64.wrap (IntKind.i64.wrap (f.cols - (3:Int))))))))),(9,pt b18 0),(10,pt b24 0),(14,pt b45 0),(114,.slice fQ fR.length fK),(115,iv (fR.length:Int)),(116,iv (t116:Int))],[bx b45 (A0 y8.1 ⟨va r40.q,y8.2.1.length,r40.k⟩) 26,bx b39 (A0 y5.1 ⟨va r34.q,y5.2.1.length,r34.k⟩) 26,bx b32 (A0 y7.1 ⟨va r27.q,y7.2.1.length,r27.k⟩) 26,bx b24 (A0 y6.1 ⟨va r19.q,y6.2.1.length,r19.k⟩) 26,bx b18 (A0 y4.1 ⟨va r13.q,y4.2.1.length,r13.k⟩) 26,bx b9 (A0 y0.1 ⟨va r4.q,y0.2.1.length,r4.k⟩) 26,bx b1 (A0 f ⟨fQ,fR.length,fK⟩) 26],[sl B9 (va r40.q) rs41,E7 B3 rs41 y8.2.1,sl B9 (va r34.q) rs35,E7 B3 rs35 y5.2.1,sl B9 (va r27.q) rs28,E7 B3 rs28 y7.2.1,sl B9 (va r19.q) rs20,E7 B3 rs20 y6.2.1,sl B9 (va r13.q) rs14,E7 B3 rs14 y4.2.1,sl B9 (va r4.q) rs5,E7 B3 rs5 y0.2.1,sl B9 fQ fZ,E7 B3 fZ fR,A0m,A0p],fR.length - t116)) 0 ⟨(by omega),hR⟩ (mk [true,true,true,true,true,true,true] rfl) A5.refl ?_))
 rintro t116 ⟨hm48,hR⟩
 refine sr 1 rfl (ip' 1 0 [(117,bv (decide ((t116:Int)<(fR.length:Int))))] ?_)
 refine ie (A4 (S4 rfl (fun h49=>?_) (fun h49=>?_)))
 ·have h49p:(t116:Int)<(fR.length:Int):=by simpa using h49
  rw [U2 [] (show t116<fR.length by omega)] at hR;replace hR:=(J8.eq_2 ..).symm.trans hR
  have hq1:=(hok.row (i:=t116) (by omega)).1
  have hq2:=hrr t116 (by omega)
  refine A8 (nx (A4 (A9 (sr 5 rfl (ip' 1 4 [(118,iv (t116:Int))] ?_)))))
  refine J5 12 rfl (by have:=hrowsfRowsrs.1;omega) fun a50 hq51=>?_
  refine H0 (M9 (k:=t116) (d:=(⟨none,0,0⟩:Slc)) hrowsfRowsrs 13 rfl (by have:=hrowsfRowsrs.1;omega)) ?_
  have:=M6 hrowsfRowsrs (k:=t116) (d:=(⟨none,0,0⟩:Slc)) (by have:=hrowsfRowsrs.1;omega)
  refine ix rfl (F5 U5 rfl rfl hq51 rfl t116 rfl (by omega)) ?_
  refine ix rfl (G8 (D6 (v:=.slice ((fZ.getD t116 (⟨none,0,0⟩:Slc)).q) ((fZ.getD t116 (⟨none,0,0⟩:Slc)).n) ((fZ.getD t116 (⟨none,0,0⟩:Slc)).k)) (us:=[.slice ((fZ.getD t116 (⟨none,0,0⟩:Slc)).q) ((fZ.getD t116 (⟨none,0,0⟩:Slc)).n) ((fZ.getD t116 (⟨none,0,0⟩:Slc)).k)]) A2l rfl rfl (H5 (c:=B9) (sz:=1) hq51 (fun _=>rfl) 13 rfl (gd (⟨none,0,0⟩:Slc) (by have:=hrowsfRowsrs.1;omega))) rfl) (N4 hrowsfRowsrs (by have:=hrowsfRowsrs.1;omega))) ?_
  refine ip' 2 0 [(15,iv (t116:Int)),(16,.slice ((fZ.getD t116 (⟨none,0,0⟩:Slc)).q) ((fR.getD t116 []).length) ((fZ.getD t116 (⟨none,0,0⟩:Slc)).k))] ?_
  refine ie (sr 8 rfl (ip' 2 6 [(121,.slice ((fZ.getD t116 (⟨none,0,0⟩:Slc)).q) ((fR.getD t116 []).length) ((fZ.getD t116 (⟨none,0,0⟩:Slc)).k)),(122,iv (IntKind.i64.wrap ((2:Int)+(IntKind.i64.wrap (Int.tmod (IntKind.u64.wrap cut) (IntKind.u64.wrap (IntKind.i64.wrap (f.cols - (3:Int)))))))))] ?_))
  refine ix rfl (I4.pure rfl) ?_
  refine J5 0 rfl (by omega) fun a52 hq53=>?_
  refine ix rfl (F5 R4 rfl rfl hq53 rfl ((IntKind.i64.wrap ((IntKind.i64.wrap ((2:Int)+(IntKind.i64.wrap (Int.tmod (IntKind.u64.wrap cut) (IntKind.u64.wrap (IntKind.i64.wrap (f.cols - (3:Int)))))))) - (1:Int))).toNat) (by omega) (by omega)) ?_
  refine ip' 1 3 [(125,pa ((Addr.add a52 (((IntKind.i64.wrap ((IntKind.i64.wrap ((2:Int)+(IntKind.i64.wrap (Int.tmod (IntKind.u64.wrap cut) (IntKind.u64.wrap (IntKind.i64.wrap (f.cols - (3:Int)))))))) - (1:Int))).toNat) * 12)).add 3))] ?_
  refine ix rfl (D6 (v:=iv (((fR.getD t116 []).getD ((IntKind.i64.wrap ((IntKind.i64.wrap ((2:Int)+(IntKind.i64.wrap (Int.tmod (IntKind.u64.wrap cut) (IntKind.u64.wrap (IntKind.i64.wrap (f.cols - (3:Int)))))))) - (1:Int))).toNat) Cel.zero).wide)) (us:=[iv (((fR.getD t116 []).getD ((IntKind.i64.wrap ((IntKind.i64.wrap ((2:Int)+(IntKind.i64.wrap (Int.tmod (IntKind.u64.wrap cut) (IntKind.u64.wrap (IntKind.i64.wrap (f.cols - (3:Int)))))))) - (1:Int))).toNat) Cel.zero).wide)]) ty3 rfl rfl (B0u (H5 (c:=B3) (sz:=12) hq53 (fun _=>rfl) 0 rfl (gd Cel.zero (by omega))) (ws:=[iv (((fR.getD t116 []).getD ((IntKind.i64.wrap ((IntKind.i64.wrap ((2:Int)+(IntKind.i64.wrap (Int.tmod (IntKind.u64.wrap cut) (IntKind.u64.wrap (IntKind.i64.wrap (f.cols - (3:Int)))))))) - (1:Int))).toNat) Cel.zero).wide)]) 3 1 rfl) rfl) ?_
  refine ip' 2 0 [(17,bv (decide (((fR.getD t116 []).getD ((IntKind.i64.wrap ((IntKind.i64.wrap ((2:Int)+(IntKind.i64.wrap (Int.tmod (IntKind.u64.wrap cut) (IntKind.u64.wrap (IntKind.i64.wrap (f.cols - (3:Int)))))))) - (1:Int))).toNat) Cel.zero).wide=1)))] ?_
  refine ie (sr 3 rfl (ip' 3 0 [(128,.slice ((fZ.getD t116 (⟨none,0,0⟩:Slc)).q) ((fR.getD t116 []).length) ((fZ.getD t116 (⟨none,0,0⟩:Slc)).k)),(129,iv ((fR.getD t116 []).length:Int)),(130,iv 0)] ?_))
  refine ie (A9 (B7u (fun (t130:Nat)=>(t130≤(fR.getD t116 []).length∧K5 f fR cut y8 t116 (J8 f fR cut y4 y6 y8 (fR.drop (t116+1))) ((fR.getD t116 []).drop t130) t130=R,[(2,pt b1 0),(8,iv (IntKind.i64.wrap ((2:Int)+(IntKind.i64.wrap (Int.tmod (IntKind.u64.wrap cut) (IntKind.u64.wrap (IntKind.i64.wrap (f.cols - (3:Int))))))))),(9,pt b18 0),(10,pt b24 0),(14,pt b45 0),(15,iv (t116:Int)),(17,bv (decide (((fR.getD t116 []).getD ((IntKind.i64.wrap ((IntKind.i64.wrap ((2:Int)+(IntKind.i64.wrap (Int.tmod (IntKind.u64.wrap cut) (IntKind.u64.wrap (IntKind.i64.wrap (f.cols - (3:Int)))))))) - (1:Int))).toNat) Cel.zero).wide=1))),(114,.slice fQ fR.length fK),(115,iv (fR.length:Int)),(116,iv (t116:Int)),(128,.slice ((fZ.getD t116 (⟨none,0,0⟩:Slc)).q) ((fR.getD t116 []).length) ((fZ.getD t116 (⟨none,0,0⟩:Slc)).k)),(129,iv ((fR.getD t116 []).length:Int)),(130,iv (t130:Int))],[bx b45 (A0 y8.1 ⟨va r40.q,y8.2.1.length,r40.k⟩) 26,bx b39 (A0 y5.1 ⟨va r34.q,y5.2.1.length,r34.k⟩) 26,bx b32 (A0 y7.1 ⟨va r27.q,y7.2.1.length,r27.k⟩) 26,bx b24 (A0 y6.1 ⟨va r19.q,y6.2.1.length,r19.k⟩) 26,bx b18 (A0 y4.1 ⟨va r13.q,y4.2.1.length,r13.k⟩) 26,bx b9 (A0 y0.1 ⟨va r4.q,y0.2.1.length,r4.k⟩) 26,bx b1 (A0 f ⟨fQ,fR.length,fK⟩) 26],[sl B3 ((fZ.getD t116 (⟨none,0,0⟩:Slc)).q) (fR.getD t116 []),sl B9 (va r40.q) rs41,E7 B3 rs41 y8.2.1,sl B9 (va r34.q) rs35,E7 B3 rs35 y5.2.1,sl B9 (va r27.q) rs28,E7 B3 rs28 y7.2.1,sl B9 (va r19.q) rs20,E7 B3 rs20 y6.2.1,sl B9 (va r13.q) rs14,E7 B3 rs14 y4.2.1,sl B9 (va r4.q) rs5,E7 B3 rs5 y0.2.1,sl B9 fQ fZ,E7 B3 fZ fR,A0m,A0p],(fR.getD t116 []).length - t130)) 0 ⟨(by omega),hR⟩ (mk [true,true,true,true,true,true,true] rfl) A5.refl ?_))
  rintro t130 ⟨hm54,hR⟩
  refine sr 1 rfl (ip' 1 0 [(131,bv (decide ((t130:Int)<((fR.getD t116 []).length:Int))))] ?_)
  refine ie (A4 (S4 rfl (fun h55=>?_) (fun h55=>?_)))
  ·have h55p:(t130:Int)<((fR.getD t116 []).length:Int):=by simpa using h55
   rw [U2 Cel.zero (show t130<(fR.getD t116 []).length by omega)] at hR;replace hR:=(K5.eq_2 ..).symm.trans hR
   refine A8 (nx (A4 (A9 (sr 6 rfl (ip' 1 5 [(132,iv (t130:Int))] ?_)))))
   refine ix rfl (F5 R4 rfl rfl hq53 rfl t130 rfl (by omega)) ?_
   refine ix rfl (O4 (us:=B3 ((fR.getD t116 []).getD t130 Cel.zero)) B5u rfl rfl (H5 (c:=B3) (sz:=12) hq53 (fun _=>rfl) 0 rfl (gd Cel.zero (by omega))) rfl) ?_
   refine K2 3 0 [0] (fun b56=>[(19,pt b56 0),(18,iv (t130:Int))]) (fun b56=>[bx b56 (B3 ((fR.getD t116 []).getD t130 Cel.zero)) 72,bx b45 (A0 y8.1 ⟨va r40.q,y8.2.1.length,r40.k⟩) 26,bx b39 (A0 y5.1 ⟨va r34.q,y5.2.1.length,r34.k⟩) 26,bx b32 (A0 y7.1 ⟨va r27.q,y7.2.1.length,r27.k⟩) 26,bx b24 (A0 y6.1 ⟨va r19.q,y6.2.1.length,r19.k⟩) 26,bx b18 (A0 y4.1 ⟨va r13.q,y4.2.1.length,r13.k⟩) 26,bx b9 (A0 y0.1 ⟨va r4.q,y0.2.1.length,r4.k⟩) 26,bx b1 (A0 f ⟨fQ,fR.length,fK⟩) 26]) (fun b56=>?_)
   refine ie (sd 25 rfl (by kernel_rfl) rfl ?_)
   refine dp' 3 22 [(137,bv (!(decide (((fR.getD t116 []).getD ((IntKind.i64.wrap ((IntKind.i64.wrap ((2:Int)+(IntKind.i64.wrap (Int.tmod (IntKind.u64.wrap cut) (IntKind.u64.wrap (IntKind.i64.wrap (f.cols - (3:Int)))))))) - (1:Int))).toNat) Cel.zero).wide=1))))] ?_
   refine zdO 10 12 137 147 ((!decide ((t130:Int)=(IntKind.i64.wrap ((IntKind.i64.wrap ((2:Int)+(IntKind.i64.wrap (Int.tmod (IntKind.u64.wrap cut) (IntKind.u64.wrap (IntKind.i64.wrap (f.cols - (3:Int)))))))) - (1:Int)))))&&(!decide ((t130:Int)=(IntKind.i64.wrap ((2:Int)+(IntKind.i64.wrap (Int.tmod (IntKind.u64.wrap cut) (IntKind.u64.wrap (IntKind.i64.wrap (f.cols - (3:Int))))))))))) (fun g57=>?_) ?_
   ·have g57p:¬ (¬ (((fR.getD t116 []).getD ((IntKind.i64.wrap ((IntKind.i64.wrap ((2:Int)+(IntKind.i64.wrap (Int.tmod (IntKind.u64.wrap cut) (IntKind.u64.wrap (IntKind.i64.wrap (f.cols - (3:Int)))))))) - (1:Int))).toNat) Cel.zero).wide=1)):=by simpa using g57
    refine dp' 2 8 [(138,iv (t130:Int)),(139,iv (IntKind.i64.wrap ((2:Int)+(IntKind.i64.wrap (Int.tmod (IntKind.u64.wrap cut) (IntKind.u64.wrap (IntKind.i64.wrap (f.cols - (3:Int)))))))))] ?_
    refine dd rfl (I4.pure rfl) ?_
    refine dp' 2 5 [(142,bv (!decide ((t130:Int)=(IntKind.i64.wrap ((IntKind.i64.wrap ((2:Int)+(IntKind.i64.wrap (Int.tmod (IntKind.u64.wrap cut) (IntKind.u64.wrap (IntKind.i64.wrap (f.cols - (3:Int)))))))) - (1:Int))))))] ?_
    refine zda 4 1 142 146 (!decide ((t130:Int)=(IntKind.i64.wrap ((2:Int)+(IntKind.i64.wrap (Int.tmod (IntKind.u64.wrap cut) (IntKind.u64.wrap (IntKind.i64.wrap (f.cols - (3:Int)))))))))) (fun g58=>?_) ?_
    ·have g58p:¬ (t130:Int)=(IntKind.i64.wrap ((IntKind.i64.wrap ((2:Int)+(IntKind.i64.wrap (Int.tmod (IntKind.u64.wrap cut) (IntKind.u64.wrap (IntKind.i64.wrap (f.cols - (3:Int)))))))) - (1:Int))):=by simpa using g58
     refine dp' 4 0 [(146,bv (!decide ((t130:Int)=(IntKind.i64.wrap ((2:Int)+(IntKind.i64.wrap (Int.tmod (IntKind.u64.wrap cut) (IntKind.u64.wrap (IntKind.i64.wrap (f.cols - (3:Int)))))))))))] ?_
     exact zad 2 142 146 g58
    refine dp' 1 0 [(147,bv ((!decide ((t130:Int)=(IntKind.i64.wrap ((IntKind.i64.wrap ((2:Int)+(IntKind.i64.wrap (Int.tmod (IntKind.u64.wrap cut) (IntKind.u64.wrap (IntKind.i64.wrap (f.cols - (3:Int)))))))) - (1:Int)))))&&(!decide ((t130:Int)=(IntKind.i64.wrap ((2:Int)+(IntKind.i64.wrap (Int.tmod (IntKind.u64.wrap cut) (IntKind.u64.wrap (IntKind.i64.wrap (f.cols - (3:Int))))))))))))] ?_
    exact zad 7 137 147 g57
   refine dp' 1 11 [(148,bv ((!(decide (((fR.getD t116 []).getD ((IntKind.i64.wrap ((IntKind.i64.wrap ((2:Int)+(IntKind.i64.wrap (Int.tmod (IntKind.u64.wrap cut) (IntKind.u64.wrap (IntKind.i64.wrap (f.cols - (3:Int)))))))) - (1:Int))).toNat) Cel.zero).wide=1)))||((!decide ((t130:Int)=(IntKind.i64.wrap ((IntKind.i64.wrap ((2:Int)+(IntKind.i64.wrap (Int.tmod (IntKind.u64.wrap cut) (IntKind.u64.wrap (IntKind.i64.wrap (f.cols - (3:Int)))))))) - (1:Int)))))&&(!decide ((t130:Int)=(IntKind.i64.wrap ((2:Int)+(IntKind.i64.wrap (Int.tmod (IntKind.u64.wrap cut) (IntKind.u64.wrap (IntKind.i64.wrap (f.cols - (3:Int)))))))))))))] ?_
   refine zda 11 0 148 159 (!(decide (((y8.2.1.getD t116 []).getD t130 Cel.zero)=((fR.getD t116 []).getD t130 Cel.zero)))) (fun g59=>?_) ?_
   ·have g59p:(¬ (((fR.getD t116 []).getD ((IntKind.i64.wrap ((IntKind.i64.wrap ((2:Int)+(IntKind.i64.wrap (Int.tmod (IntKind.u64.wrap cut) (IntKind.u64.wrap (IntKind.i64.wrap (f.cols - (3:Int)))))))) - (1:Int))).toNat) Cel.zero).wide=1))∨((¬ (t130:Int)=(IntKind.i64.wrap ((IntKind.i64.wrap ((2:Int)+(IntKind.i64.wrap (Int.tmod (IntKind.u64.wrap cut) (IntKind.u64.wrap (IntKind.i64.wrap (f.cols - (3:Int)))))))) - (1:Int))))∧(¬ (t130:Int)=(IntKind.i64.wrap ((2:Int)+(IntKind.i64.wrap (Int.tmod (IntKind.u64.wrap cut) (IntKind.u64.wrap (IntKind.i64.wrap (f.cols - (3:Int)))))))))):=by simpa using g59
    refine zdg 3 8 [1] [(150,.slice (va r40.q) y8.2.1.length r40.k),(151,iv (t116:Int))] ?_
    refine A5r 1 rfl (by have:=hw43.1;omega) fun a60 hq61=>?_
    refine A7z (M9 (k:=t116) (d:=(⟨none,0,0⟩:Slc)) hw43 2 rfl (by have:=hw43.1;omega)) ?_
    have:=M6 hw43 (k:=t116) (d:=(⟨none,0,0⟩:Slc)) (by have:=hw43.1;omega)
    refine dd rfl (F5 U5 rfl rfl hq61 rfl t116 rfl (by omega)) ?_
    refine dd rfl (G8 (D6 (v:=.slice ((rs41.getD t116 (⟨none,0,0⟩:Slc)).q) ((rs41.getD t116 (⟨none,0,0⟩:Slc)).n) ((rs41.getD t116 (⟨none,0,0⟩:Slc)).k)) (us:=[.slice ((rs41.getD t116 (⟨none,0,0⟩:Slc)).q) ((rs41.getD t116 (⟨none,0,0⟩:Slc)).n) ((rs41.getD t116 (⟨none,0,0⟩:Slc)).k)]) A2l rfl rfl (H5 (c:=B9) (sz:=1) hq61 (fun _=>rfl) 2 rfl (gd (⟨none,0,0⟩:Slc) (by have:=hw43.1;omega))) rfl) (N4 hw43 (by have:=hw43.1;omega))) ?_
    refine dp' 1 5 [(154,iv (t130:Int))] ?_
    refine A5r 0 rfl (by omega) fun a62 hq63=>?_
    refine dd rfl (F5 R4 rfl rfl hq63 rfl t130 rfl (by omega)) ?_
    refine dd rfl (O4 (us:=B3 ((y8.2.1.getD t116 []).getD t130 Cel.zero)) B5u rfl rfl (H5 (c:=B3) (sz:=12) hq63 (fun _=>rfl) 0 rfl (gd Cel.zero (by omega))) rfl) ?_
    refine zdg 1 2 [0] [(157,ag (B3 ((fR.getD t116 []).getD t130 Cel.zero)))] ?_
    refine dd rfl (A4h (a:=((y8.2.1.getD t116 []).getD t130 Cel.zero)) (b:=((fR.getD t116 []).getD t130 Cel.zero)) C3i rfl rfl rfl) ?_
    refine dp' 1 0 [(159,bv (!(decide (((y8.2.1.getD t116 []).getD t130 Cel.zero)=((fR.getD t116 []).getD t130 Cel.zero)))))] ?_
    exact zad 11 148 159 g59
   refine de ?_
   refine zjb rfl hR ?_ ?_<;>clear hR<;>intro hR h64
   ·have h64p:((¬ (((fR.getD t116 []).getD ((IntKind.i64.wrap ((IntKind.i64.wrap ((2:Int)+(IntKind.i64.wrap (Int.tmod (IntKind.u64.wrap cut) (IntKind.u64.wrap (IntKind.i64.wrap (f.cols - (3:Int)))))))) - (1:Int))).toNat) Cel.zero).wide=1))∨((¬ (t130:Int)=(IntKind.i64.wrap ((IntKind.i64.wrap ((2:Int)+(IntKind.i64.wrap (Int.tmod (IntKind.u64.wrap cut) (IntKind.u64.wrap (IntKind.i64.wrap (f.cols - (3:Int)))))))) - (1:Int))))∧(¬ (t130:Int)=(IntKind.i64.wrap ((2:Int)+(IntKind.i64.wrap (Int.tmod (IntKind.u64.wrap cut) (IntKind.u64.wrap (IntKind.i64.wrap (f.cols - (3:Int)))))))))))∧(¬ ((y8.2.1.getD t116 []).getD t130 Cel.zero)=((fR.getD t116 []).getD t130 Cel.zero)):=by first|simpa using h64|(simp at h64 ⊢;omega)
    refine sr 1 rfl (ip' 1 0 [(4,bv false)] ?_)
    subst hR
    refine ie (B4 ?_)
    exact F7 hr hD
   have h64p:¬ (((¬ (((fR.getD t116 []).getD ((IntKind.i64.wrap ((IntKind.i64.wrap ((2:Int)+(IntKind.i64.wrap (Int.tmod (IntKind.u64.wrap cut) (IntKind.u64.wrap (IntKind.i64.wrap (f.cols - (3:Int)))))))) - (1:Int))).toNat) Cel.zero).wide=1))∨((¬ (t130:Int)=(IntKind.i64.wrap ((IntKind.i64.wrap ((2:Int)+(IntKind.i64.wrap (Int.tmod (IntKind.u64.wrap cut) (IntKind.u64.wrap (IntKind.i64.wrap (f.cols - (3:Int)))))))) - (1:Int))))∧(¬ (t130:Int)=(IntKind.i64.wrap ((2:Int)+(IntKind.i64.wrap (Int.tmod (IntKind.u64.wrap cut) (IntKind.u64.wrap (IntKind.i64.wrap (f.cols - (3:Int)))))))))))∧(¬ ((y8.2.1.getD t116 []).getD t130 Cel.zero)=((fR.getD t116 []).getD t130 Cel.zero))):=by first|simpa using h64|(simp at h64 ⊢;omega)
   refine A8 (nx (A1 2 rfl (ix rfl (B2 rfl rfl rfl rfl (by omega)) ?_)))
   refine ip' 1 0 [(130,iv ((t130:Int)+1))] ?_
   refine A6 ?_
   exact B7f (z1:=t130) (t130+1) ⟨(by omega),hR⟩ (by (try dsimp only);omega) (mk [false,true,true,true,true,true,true,true] rfl) A5.refl
  have h55p:¬ ((t130:Int)<((fR.getD t116 []).length:Int)):=by simpa using h55
  rw [U3 h55p] at hR;replace hR:=(K5.eq_1 ..).symm.trans hR
  refine G3 (nx (A1 2 rfl (ix rfl (B2 rfl rfl rfl rfl (by omega)) ?_)))
  refine ip' 1 0 [(116,iv ((t116:Int)+1))] ?_
  refine A6 ?_
  exact B7f (z1:=t116) (t116+1) ⟨(by omega),hR⟩ (by (try dsimp only);omega) (mk [true,true,true,true,true,true,true] rfl) (A5.pick [1,2,3,4,5,6,7,8,9,10,11,12,13,14,15,16] rfl)
 have h49p:¬ ((t116:Int)<(fR.length:Int)):=by simpa using h49
 rw [U3 h49p] at hR;replace hR:=(J8.eq_1 ..).symm.trans hR
 refine G3 (nx (sr 19 rfl (zrl 5 14 [6,4] [(163,bv f.visible),(166,bv y4.1.visible)] ?_)))
 refine zio 3 11 166 169 y6.1.visible (fun g65=>?_) ?_
 ·refine zrl 3 0 [3] [(169,bv y6.1.visible)] ?_
  exact zai 2 166 169 g65
 refine ix rfl (B5i Tryz.underlying4 rfl rfl rfl) ?_
 refine ip' 1 9 [(171,bv (f.visible == (y4.1.visible||y6.1.visible)))] ?_
 refine zia 8 1 171 179 (!(y4.1.visible&&y6.1.visible)) (fun g66=>?_) ?_
 ·have g66p:=g66;try simp only [Bool.and_eq_true,Bool.or_eq_true,Bool.and_eq_false_iff,Bool.or_eq_false_iff,Bool.not_eq_true',Bool.not_eq_false',decide_eq_true_eq,decide_eq_false_iff_not] at g66p
  refine zrl 3 5 [4] [(174,bv y4.1.visible)] ?_
  refine zia 3 2 174 177 y6.1.visible (fun g67=>?_) ?_
  ·refine zrl 3 0 [3] [(177,bv y6.1.visible)] ?_
   exact zai 2 174 177 g67
  refine ip' 2 0 [(179,bv (!(y4.1.visible&&y6.1.visible)))] ?_
  exact zai 4 171 179 g66
 refine ip' 1 0 [(4,bv ((f.visible == (y4.1.visible||y6.1.visible))&&(!(y4.1.visible&&y6.1.visible))))] ?_
 subst hR
 refine ie (B4 ?_)
 exact F7 hr hD
end Go.Proofs.YthcjfkljekdioaaGreatDoor
