import Derived.Test.YthcjfkljekdioaaGreatDoorProg
import Derived.Test.YthcjfkljekdioaaGreatDoorMA2
import Derived.Test.YthcjfkljekdioaaGreatDoorMB1
import Derived.Test.YthcjfkljekdioaaGreatDoorMB2
import Derived.Test.YthcjfkljekdioaaGreatDoorMB3
import Derived.Test.YthcjfkljekdioaaGreatDoorMB4
import Derived.Test.YthcjfkljekdioaaGreatDoorMB5
set_option linter.unusedVariables false
set_option linter.unusedSimpArgs false
set_option linter.unnecessarySimpa false
set_option maxRecDepth 100000
namespace Go.Proofs.YthcjfkljekdioaaGreatDoor
open Go Go.Fen
theorem D5l:Ty Tryz.prog 61 4 true:=⟨by kernel_rfl⟩
def Z8 (f:FrmC) (fR:List (List Cel)) (rRow:Int) (rCol:Int) (rRows:Int) (rCols:Int):Bool :=
 (bif ((((((((decide (rRow<0))||(decide (rCol<0)))||(decide (rRows<1)))||(decide (rCols<2)))||(decide ((40:Int)<rRows)))||(decide ((80:Int)<rCols)))||(decide ((40:Int)<rRow)))||(decide ((80:Int)<rCol))) then false else ((decide ((IntKind.i64.wrap (rRow+rRows))≤(fR.length:Int)))&&(decide ((IntKind.i64.wrap (rCol+rCols))≤f.cols))))
theorem B6r {f:FrmC} {rows:List (List Cel)} {r c n m:Int} (h:Z8 f rows r c n m=true):0≤r∧1≤n∧r+n≤rows.length∧0≤c∧2≤m∧c+m≤f.cols:=by
 unfold Z8 at h
 cases hd:((((((((decide (r<0))||(decide (c<0)))||(decide (n<1)))||(decide (m<2)))||(decide ((40:Int)<n)))||(decide ((80:Int)<m)))||(decide ((40:Int)<r)))||(decide ((80:Int)<c))) with
 | true=>rw [hd] at h;cases h
 | false =>
  rw [hd,cond_false] at h
  simp only [Bool.or_eq_false_iff,decide_eq_false_iff_not] at hd
  rw [wr6 (by omega),wr6 (by omega)] at h
  simp only [Bool.and_eq_true,decide_eq_true_eq] at h
  omega
theorem B9q (f:FrmC) (fR:List (List Cel)) (rRow:Int) (rCol:Int) (rRows:Int) (rCols:Int) (fQ:Option Addr) (fZ:List Slc) (fK:Nat) (hrowsfRowsrs:C8 fZ fR) (hlfRows:fR.length≤9223372036854775807) (hcfRows:fR.length≤fK) (R:Bool) (hR:Z8 f fR rRow rCol rRows rCols=R):K2 Tryz.prog 26 [ag (A0 f ⟨fQ,fR.length,fK⟩),ag [iv rRow,iv rCol,iv rRows,iv rCols]] [sl C3 fQ fZ,F6 B3 fZ fR] (bv R):=by
 refine zco Tryz.func26 [(0,ag (A0 f ⟨fQ,fR.length,fK⟩)),(1,ag [iv rRow,iv rCol,iv rRows,iv rCols])] fun X hX hr hD=>?_
 replace hR:=(Z8.eq_1 ..).symm.trans hR
 have:=hrowsfRowsrs.1
 refine sr 3 rfl (B1e 3 0 [] (fun b1 b2=>[(2,pt b1 0),(3,pt b2 0)]) (fun b1 b2=>[bx b2 [iv rRow,iv rCol,iv rRows,iv rCols] 61,bx b1 (A0 f ⟨fQ,fR.length,fK⟩) 26]) (fun b1 b2=>?_))
 refine ie (A1 (sr 38 rfl (zrl 4 34 [0] [(8,bv (decide (rRow<0)))] ?_)))
 refine zir 4 30 8 12 (decide (rCol<0)) (fun g3 g3p=>?_) ?_
 ·refine zrl 4 0 [0] [(12,bv (decide (rCol<0)))] ?_
  exact zai 2 8 12 g3
 refine ip' 1 29 [(13,bv ((decide (rRow<0))||(decide (rCol<0))))] ?_
 refine zio 4 25 13 17 (decide (rRows<1)) (fun g4=>?_) ?_
 ·have g4p:¬ ((rRow<0)∨(rCol<0)):=by simpa using g4
  refine zrl 4 0 [0] [(17,bv (decide (rRows<1)))] ?_
  exact zai 2 13 17 g4
 refine ip' 1 24 [(18,bv (((decide (rRow<0))||(decide (rCol<0)))||(decide (rRows<1))))] ?_
 refine zio 4 20 18 22 (decide (rCols<2)) (fun g5=>?_) ?_
 ·have g5p:¬ (((rRow<0)∨(rCol<0))∨(rRows<1)):=by simpa using g5
  refine zrl 4 0 [0] [(22,bv (decide (rCols<2)))] ?_
  exact zai 2 18 22 g5
 refine ip' 1 19 [(23,bv ((((decide (rRow<0))||(decide (rCol<0)))||(decide (rRows<1)))||(decide (rCols<2))))] ?_
 refine zio 4 15 23 27 (decide ((40:Int)<rRows)) (fun g6=>?_) ?_
 ·have g6p:¬ ((((rRow<0)∨(rCol<0))∨(rRows<1))∨(rCols<2)):=by simpa using g6
  refine zrl 4 0 [0] [(27,bv (decide ((40:Int)<rRows)))] ?_
  exact zai 2 23 27 g6
 refine ip' 1 14 [(28,bv (((((decide (rRow<0))||(decide (rCol<0)))||(decide (rRows<1)))||(decide (rCols<2)))||(decide ((40:Int)<rRows))))] ?_
 refine zio 4 10 28 32 (decide ((80:Int)<rCols)) (fun g7=>?_) ?_
 ·have g7p:¬ (((((rRow<0)∨(rCol<0))∨(rRows<1))∨(rCols<2))∨((40:Int)<rRows)):=by simpa using g7
  refine zrl 4 0 [0] [(32,bv (decide ((80:Int)<rCols)))] ?_
  exact zai 2 28 32 g7
 refine ip' 1 9 [(33,bv ((((((decide (rRow<0))||(decide (rCol<0)))||(decide (rRows<1)))||(decide (rCols<2)))||(decide ((40:Int)<rRows)))||(decide ((80:Int)<rCols))))] ?_
 refine zio 4 5 33 37 (decide ((40:Int)<rRow)) (fun g8=>?_) ?_
 ·have g8p:¬ ((((((rRow<0)∨(rCol<0))∨(rRows<1))∨(rCols<2))∨((40:Int)<rRows))∨((80:Int)<rCols)):=by simpa using g8
  refine zrl 4 0 [0] [(37,bv (decide ((40:Int)<rRow)))] ?_
  exact zai 2 33 37 g8
 refine ip' 1 4 [(38,bv (((((((decide (rRow<0))||(decide (rCol<0)))||(decide (rRows<1)))||(decide (rCols<2)))||(decide ((40:Int)<rRows)))||(decide ((80:Int)<rCols)))||(decide ((40:Int)<rRow))))] ?_
 refine zio 4 0 38 42 (decide ((80:Int)<rCol)) (fun g9=>?_) ?_
 ·have g9p:¬ (((((((rRow<0)∨(rCol<0))∨(rRows<1))∨(rCols<2))∨((40:Int)<rRows))∨((80:Int)<rCols))∨((40:Int)<rRow)):=by simpa using g9
  refine zrl 4 0 [0] [(42,bv (decide ((80:Int)<rCol)))] ?_
  exact zai 2 38 42 g9
 refine ie ?_
 refine zjb rfl hR ?_ ?_<;>clear hR<;>intro hR h10
 ·have h10p:(((((((rRow<0)∨(rCol<0))∨(rRows<1))∨(rCols<2))∨((40:Int)<rRows))∨((80:Int)<rCols))∨((40:Int)<rRow))∨((80:Int)<rCol):=by simpa using h10
  refine sr 1 rfl (ip' 1 0 [(4,bv false)] ?_)
  subst hR
  refine ie (A8 ?_)
  exact E5 hr hD
 have h10p:¬ ((((((((rRow<0)∨(rCol<0))∨(rRows<1))∨(rCols<2))∨((40:Int)<rRows))∨((80:Int)<rCols))∨((40:Int)<rRow))∨((80:Int)<rCol)):=by simpa using h10
 refine A4 (nx (sr 20 rfl (zrl 4 16 [0,0] [(44,iv rRow),(46,iv rRows)] ?_)))
 refine ix rfl (H5.pure rfl) ?_
 refine zrl 5 10 [1] [(52,bv (decide ((IntKind.i64.wrap (rRow+rRows))≤(fR.length:Int))))] ?_
 refine zid 9 1 52 61 (decide ((IntKind.i64.wrap (rCol+rCols))≤f.cols)) (fun g11 g11p=>?_) ?_
 ·refine zrl 4 5 [0,0] [(54,iv rCol),(56,iv rCols)] ?_
  refine ix rfl (H5.pure rfl) ?_
  refine zrl 4 0 [1] [(61,bv (decide ((IntKind.i64.wrap (rCol+rCols))≤f.cols)))] ?_
  exact zai 5 52 61 g11
 refine ip' 1 0 [(4,bv ((decide ((IntKind.i64.wrap (rRow+rRows))≤(fR.length:Int)))&&(decide ((IntKind.i64.wrap (rCol+rCols))≤f.cols))))] ?_
 subst hR
 refine ie (A8 ?_)
 exact E5 hr hD
def P0 (l:List Cel):List Cel→List Cel→Nat→List Cel
 | [],out,i=>out
 | hd_l0::tl_l0,out,i=>(bif (((!decide (hd_l0.wide=0))&&(!(((decide (((i:Int)+1)<(l.length:Int)))&&(decide (hd_l0.wide=1)))&&(decide ((l.getD (i+1) Cel.zero).wide=2)))))&&(!(((decide ((0:Int)<(i:Int)))&&(decide (hd_l0.wide=2)))&&(decide ((l.getD (i - 1) Cel.zero).wide=1))))) then P0 l tl_l0 (out++([{Cel.zero with base:=32,sty:=hd_l0.sty}]:List Cel)) (i+1) else P0 l tl_l0 (out++([hd_l0]:List Cel)) (i+1))
def A3j (l:List Cel):List Cel :=
 P0 l l ([]:List Cel) 0
theorem B6v (l:List Cel) (lq:Option Addr) (lk:Nat) (hll:l.length≤9223372036854775807) (hcl:l.length≤lk) (hlw:l.length≤100) (R:List Cel) (hR:A3j l=R):Con Tryz.prog 61 [.slice lq l.length lk] [] [sl B3 lq l] ({r:VR // VOk 12 R.length r}) (fun x=>.slice (va x.1.q) R.length x.1.k) (fun x=>((vo B3 72 x.1 R)++([]))) (fun x=>[]):=by
 refine zco Tryz.func61 [(0,.slice lq l.length lk)] fun X hX hr hD=>?_
 replace hR:=(A3j.eq_1 ..).symm.trans hR
 refine sr 1 rfl (ip' 1 0 [] ?_)
 refine ie (sr 1 rfl (ip' 1 0 [(3,.slice none 0 0)] ?_))
 refine ie (A1 (sr 1 rfl (ip' 1 0 [(4,iv 0)] ?_)))
 refine ie (A9 ?_)
 refine C9t (fun (out:List Cel) (outr:VR) (i:Nat)=>(i≤l.length∧P0 l (l.drop i) out i=R∧VOk 12 out.length outr∧out.length=i,[(0,.slice lq l.length lk),(3,.slice (va outr.q) out.length outr.k),(4,iv (i:Int))],((vo B3 72 outr out)++([])),[sl B3 lq l],l.length - i)) ([]:List Cel) VR.nil 0 ⟨(by omega),hR,VOk.nil,(by rfl)⟩ (mc [vo B3 72 VR.nil ([]:List Cel)] [true] rfl (by first|rfl|(simp only [List.length_set]<;>rfl))) A5.refl ?_
 rintro out outr i ⟨hm1,hR,hokoutr,hol⟩
 have:=VOk.le hokoutr
 refine A1 (sr 4 rfl (ip' 4 0 [(11,bv (decide ((i:Int)<(l.length:Int))))] ?_))
 refine ie (U4 rfl (fun h2=>?_) (fun h2=>?_))
 ·have h2p:(i:Int)<(l.length:Int):=by simpa using h2
  rw [V2 Cel.zero (show i<l.length by omega)] at hR;replace hR:=(P0.eq_2 ..).symm.trans hR
  refine A4 (nx (A1 (A9 (sr 6 rfl (ip' 2 4 [(14,.slice lq l.length lk),(15,iv (i:Int))] ?_)))))
  refine K0 0 rfl (by omega) fun a3 hq4=>?_
  refine ix rfl (E6 P4 rfl rfl hq4 rfl i rfl (by omega)) ?_
  refine ix rfl (M7 (us:=B3 (l.getD i Cel.zero)) B4u rfl rfl (F7 (c:=B3) (sz:=12) hq4 (fun _=>rfl) 0 rfl (gd Cel.zero (by omega))) rfl) ?_
  refine K3 2 0 [0] (fun b5=>[(5,pt b5 0)]) (fun b5=>(bx b5 (B3 (l.getD i Cel.zero)) 72::(vo B3 72 outr out)++([]))) (fun b5=>?_)
  refine ie (sr 20 rfl (ip' 1 19 [(18,iv (i:Int))] ?_))
  refine ix rfl (B1 rfl rfl rfl rfl (by omega)) ?_
  refine ip' 4 14 [(23,bv (decide (((i:Int)+1)<(l.length:Int))))] ?_
  refine zid 4 10 23 27 (decide ((l.getD i Cel.zero).wide=1)) (fun g6 g6p=>?_) ?_
  ·refine zrl 4 0 [0] [(27,bv (decide ((l.getD i Cel.zero).wide=1)))] ?_
   exact A2 (H7 2 23 27 g6 A5.refl (mc [[bx b5 (B3 (l.getD i Cel.zero)) 72],vo B3 72 outr out] [true,true] rfl (by first|rfl|(simp only [List.length_set]<;>rfl))) rfl rfl rfl rfl rfl)
  refine ip' 1 9 [(28,bv ((decide (((i:Int)+1)<(l.length:Int)))&&(decide ((l.getD i Cel.zero).wide=1))))] ?_
  refine zia 8 1 28 36 (decide ((l.getD (i+1) Cel.zero).wide=2)) (fun g7=>?_) ?_
  ·have g7p:(((i:Int)+1)<(l.length:Int))∧((l.getD i Cel.zero).wide=1):=by simpa using g7
   refine ip' 2 6 [(29,.slice lq l.length lk),(30,iv (i:Int))] ?_
   refine ix rfl (B1 rfl rfl rfl rfl (by omega)) ?_
   refine ix rfl (E6 P4 rfl rfl hq4 rfl (i+1) (by omega) (by omega)) ?_
   refine ip' 1 3 [(33,pa ((Addr.add a3 ((i+1) * 12)).add 3))] ?_
   refine ix rfl (C7 (v:=iv ((l.getD (i+1) Cel.zero).wide)) (us:=[iv ((l.getD (i+1) Cel.zero).wide)]) ty3 rfl rfl (A0y (F7 (c:=B3) (sz:=12) hq4 (fun _=>rfl) 0 rfl (gd Cel.zero (by omega))) (ws:=[iv ((l.getD (i+1) Cel.zero).wide)]) 3 1 rfl) rfl) ?_
   refine ip' 2 0 [(36,bv (decide ((l.getD (i+1) Cel.zero).wide=2)))] ?_
   exact A2 (H7 8 28 36 g7 A5.refl (mc [[bx b5 (B3 (l.getD i Cel.zero)) 72],vo B3 72 outr out] [true,true] rfl (by first|rfl|(simp only [List.length_set]<;>rfl))) rfl rfl rfl rfl rfl)
  refine ip' 1 0 [(6,bv (((decide (((i:Int)+1)<(l.length:Int)))&&(decide ((l.getD i Cel.zero).wide=1)))&&(decide ((l.getD (i+1) Cel.zero).wide=2))))] ?_
  refine ie (sr 17 rfl (ip' 3 14 [(39,bv (decide ((0:Int)<(i:Int))))] ?_))
  refine zid 4 10 39 43 (decide ((l.getD i Cel.zero).wide=2)) (fun g8 g8p=>?_) ?_
  ·refine zrl 4 0 [0] [(43,bv (decide ((l.getD i Cel.zero).wide=2)))] ?_
   exact A2 (H7 2 39 43 g8 A5.refl (mc [[bx b5 (B3 (l.getD i Cel.zero)) 72],vo B3 72 outr out] [true,true] rfl (by first|rfl|(simp only [List.length_set]<;>rfl))) rfl rfl rfl rfl rfl)
  refine ip' 1 9 [(44,bv ((decide ((0:Int)<(i:Int)))&&(decide ((l.getD i Cel.zero).wide=2))))] ?_
  refine zia 8 1 44 52 (decide ((l.getD (i - 1) Cel.zero).wide=1)) (fun g9=>?_) ?_
  ·have g9p:((0:Int)<(i:Int))∧((l.getD i Cel.zero).wide=2):=by simpa using g9
   refine ip' 2 6 [(45,.slice lq l.length lk),(46,iv (i:Int))] ?_
   refine ix rfl (O2 rfl rfl rfl rfl (by omega)) ?_
   refine ix rfl (E6 P4 rfl rfl hq4 rfl (i - 1) (by omega) (by omega)) ?_
   refine ip' 1 3 [(49,pa ((Addr.add a3 ((i - 1) * 12)).add 3))] ?_
   refine ix rfl (C7 (v:=iv ((l.getD (i - 1) Cel.zero).wide)) (us:=[iv ((l.getD (i - 1) Cel.zero).wide)]) ty3 rfl rfl (A0y (F7 (c:=B3) (sz:=12) hq4 (fun _=>rfl) 0 rfl (gd Cel.zero (by omega))) (ws:=[iv ((l.getD (i - 1) Cel.zero).wide)]) 3 1 rfl) rfl) ?_
   refine ip' 2 0 [(52,bv (decide ((l.getD (i - 1) Cel.zero).wide=1)))] ?_
   exact A2 (H7 8 44 52 g9 A5.refl (mc [[bx b5 (B3 (l.getD i Cel.zero)) 72],vo B3 72 outr out] [true,true] rfl (by first|rfl|(simp only [List.length_set]<;>rfl))) rfl rfl rfl rfl rfl)
  refine ip' 1 0 [(7,bv (((decide ((0:Int)<(i:Int)))&&(decide ((l.getD i Cel.zero).wide=2)))&&(decide ((l.getD (i - 1) Cel.zero).wide=1))))] ?_
  refine ie (A1 (sr 11 rfl (zrl 4 7 [0] [(56,bv (!decide ((l.getD i Cel.zero).wide=0)))] ?_)))
  refine zia 3 4 56 59 (!(((decide (((i:Int)+1)<(l.length:Int)))&&(decide ((l.getD i Cel.zero).wide=1)))&&(decide ((l.getD (i+1) Cel.zero).wide=2)))) (fun g10=>?_) ?_
  ·have g10p:¬ (l.getD i Cel.zero).wide=0:=by simpa using g10
   refine ip' 3 0 [(59,bv (!(((decide (((i:Int)+1)<(l.length:Int)))&&(decide ((l.getD i Cel.zero).wide=1)))&&(decide ((l.getD (i+1) Cel.zero).wide=2)))))] ?_
   exact A2 (H7 2 56 59 g10 A5.refl (mc [[bx b5 (B3 (l.getD i Cel.zero)) 72],vo B3 72 outr out] [true,true] rfl (by first|rfl|(simp only [List.length_set]<;>rfl))) rfl rfl rfl rfl rfl)
  refine ip' 1 3 [(60,bv ((!decide ((l.getD i Cel.zero).wide=0))&&(!(((decide (((i:Int)+1)<(l.length:Int)))&&(decide ((l.getD i Cel.zero).wide=1)))&&(decide ((l.getD (i+1) Cel.zero).wide=2))))))] ?_
  refine zia 3 0 60 63 (!(((decide ((0:Int)<(i:Int)))&&(decide ((l.getD i Cel.zero).wide=2)))&&(decide ((l.getD (i - 1) Cel.zero).wide=1)))) (fun g11=>?_) ?_
  ·have g11p:(¬ (l.getD i Cel.zero).wide=0)∧(¬ (((((i:Int)+1)<(l.length:Int))∧((l.getD i Cel.zero).wide=1))∧((l.getD (i+1) Cel.zero).wide=2))):=by first|simpa using g11|(simp at g11 ⊢;omega)
   refine ip' 3 0 [(63,bv (!(((decide ((0:Int)<(i:Int)))&&(decide ((l.getD i Cel.zero).wide=2)))&&(decide ((l.getD (i - 1) Cel.zero).wide=1)))))] ?_
   exact A2 (H7 2 60 63 g11 A5.refl (mc [[bx b5 (B3 (l.getD i Cel.zero)) 72],vo B3 72 outr out] [true,true] rfl (by first|rfl|(simp only [List.length_set]<;>rfl))) rfl rfl rfl rfl rfl)
  refine ie ?_
  refine zjb rfl hR ?_ ?_<;>clear hR<;>intro hR h12
  ·have h12p:((¬ (l.getD i Cel.zero).wide=0)∧(¬ (((((i:Int)+1)<(l.length:Int))∧((l.getD i Cel.zero).wide=1))∧((l.getD (i+1) Cel.zero).wide=2))))∧(¬ ((((0:Int)<(i:Int))∧((l.getD i Cel.zero).wide=2))∧((l.getD (i - 1) Cel.zero).wide=1))):=by first|simpa using h12|(simp at h12 ⊢;omega)
   refine A3 4 rfl (zrg 4 0 [0,0] [] (bx b5 (B3 ({Cel.zero with base:=32,sty:=(l.getD i Cel.zero).sty})) 72::(vo B3 72 outr out)++([])) ?_)
   refine A2 (nx (A3 5 rfl (zrl 2 3 [0] [(67,.slice (va outr.q) out.length outr.k),(68,ag (B3 ({Cel.zero with base:=32,sty:=(l.getD i Cel.zero).sty})))] ?_)))
   refine it rfl (E2 (c:=B3) (xs:=([{Cel.zero with base:=32,sty:=(l.getD i Cel.zero).sty}]:List Cel)) P4 rfl rfl rfl (by kernel_rfl)) fun b13=>?_
   have:([{Cel.zero with base:=32,sty:=(l.getD i Cel.zero).sty}]:List Cel).length=1:=rfl
   refine it rfl (A5c (f:=B3) (r:=outr) (xs:=out) (ys:=([{Cel.zero with base:=32,sty:=(l.getD i Cel.zero).sty}]:List Cel)) (pre:=[bx b5 (B3 ({Cel.zero with base:=32,sty:=(l.getD i Cel.zero).sty})) 72]) (post:=[]) B7w (fun _=>rfl) (fun _=>rfl) rfl rfl rfl rfl rfl rfl rfl rfl rfl (B7 0 rfl) hokoutr (by first|omega|(simp only [List.length_cons,List.length_nil,List.length_append,List.length_take,List.length_drop];omega)) (by first|omega|(simp only [List.length_cons,List.length_nil,List.length_append,List.length_take,List.length_drop];omega))) fun ⟨r14,hr15⟩=>?_
   have:=VOk.le hr15
   have:=VOk.cap hr15
   refine ip' 1 0 [(3,.slice (va r14.q) ((out++([{Cel.zero with base:=32,sty:=(l.getD i Cel.zero).sty}]:List Cel)).length) r14.k)] ?_
   refine A2 (nx (A3 3 rfl (ip' 1 2 [(12,iv (i:Int))] ?_)))
   refine ix rfl (B1 rfl rfl rfl rfl (by omega)) ?_
   refine ip' 1 0 [(4,iv ((i:Int)+1))] ?_
   refine A2 ?_
   exact C6i (z1:=out) (z2:=outr) (z3:=i) (out++([{Cel.zero with base:=32,sty:=(l.getD i Cel.zero).sty}]:List Cel)) r14 (i+1) ⟨(by omega),hR,hr15,(by (simp only [List.length_append,List.length_cons,List.length_nil];omega))⟩ (by (try dsimp only);omega) (mc [[bx b5 (B3 ({Cel.zero with base:=32,sty:=(l.getD i Cel.zero).sty})) 72],vo B3 72 r14 (out++([{Cel.zero with base:=32,sty:=(l.getD i Cel.zero).sty}]:List Cel))] [false,true] rfl (by first|rfl|(simp only [List.length_set]<;>rfl))) (A5.pick [1] rfl)
  have h12p:¬ (((¬ (l.getD i Cel.zero).wide=0)∧(¬ (((((i:Int)+1)<(l.length:Int))∧((l.getD i Cel.zero).wide=1))∧((l.getD (i+1) Cel.zero).wide=2))))∧(¬ ((((0:Int)<(i:Int))∧((l.getD i Cel.zero).wide=2))∧((l.getD (i - 1) Cel.zero).wide=1)))):=by first|simpa using h12|(simp at h12 ⊢;omega)
  refine A4 (nx (A3 5 rfl (zrl 2 3 [0] [(67,.slice (va outr.q) out.length outr.k),(68,ag (B3 (l.getD i Cel.zero)))] ?_)))
  refine it rfl (E2 (c:=B3) (xs:=([(l.getD i Cel.zero)]:List Cel)) P4 rfl rfl rfl (by kernel_rfl)) fun b16=>?_
  have:([(l.getD i Cel.zero)]:List Cel).length=1:=rfl
  refine it rfl (A5c (f:=B3) (r:=outr) (xs:=out) (ys:=([(l.getD i Cel.zero)]:List Cel)) (pre:=[bx b5 (B3 (l.getD i Cel.zero)) 72]) (post:=[]) B7w (fun _=>rfl) (fun _=>rfl) rfl rfl rfl rfl rfl rfl rfl rfl rfl (B7 0 rfl) hokoutr (by first|omega|(simp only [List.length_cons,List.length_nil,List.length_append,List.length_take,List.length_drop];omega)) (by first|omega|(simp only [List.length_cons,List.length_nil,List.length_append,List.length_take,List.length_drop];omega))) fun ⟨r17,hr18⟩=>?_
  have:=VOk.le hr18
  have:=VOk.cap hr18
  refine ip' 1 0 [(3,.slice (va r17.q) ((out++([(l.getD i Cel.zero)]:List Cel)).length) r17.k)] ?_
  refine A2 (nx (A3 3 rfl (ip' 1 2 [(12,iv (i:Int))] ?_)))
  refine ix rfl (B1 rfl rfl rfl rfl (by omega)) ?_
  refine ip' 1 0 [(4,iv ((i:Int)+1))] ?_
  refine A2 ?_
  exact C6i (z1:=out) (z2:=outr) (z3:=i) (out++([(l.getD i Cel.zero)]:List Cel)) r17 (i+1) ⟨(by omega),hR,hr18,(by (simp only [List.length_append,List.length_cons,List.length_nil];omega))⟩ (by (try dsimp only);omega) (mc [[bx b5 (B3 (l.getD i Cel.zero)) 72],vo B3 72 r17 (out++([(l.getD i Cel.zero)]:List Cel))] [false,true] rfl (by first|rfl|(simp only [List.length_set]<;>rfl))) (A5.pick [1] rfl)
 have h2p:¬ ((i:Int)<(l.length:Int)):=by simpa using h2
 rw [V4 h2p] at hR;replace hR:=(P0.eq_1 ..).symm.trans hR
 refine F9 (nx (sr 2 rfl (ip' 2 0 [(2,.slice (va outr.q) out.length outr.k)] ?_)))
 subst hR
 refine ie (A8 ?_)
 exact zer hr hD (S3 rfl (B2 rfl)) ⟨outr,hokoutr⟩ (mc [vo B3 72 outr out] [true] rfl (by first|rfl|(simp only [List.length_set]<;>rfl))) fn0
def Y6 (f:FrmC) (fR:List (List Cel)) (rRow:Int) (rCol:Int) (rRows:Int) (rCols:Int):Nat→Int→List (List Cel)→(FrmC×List (List Cel))
 | 0,_,_=>(FrmC.zero,[])
 | fu1+1,i,gRows=>(bif (decide (i<(IntKind.i64.wrap (rRow+rRows)))) then (E7 (A3j (((fR.getD ((i).toNat) []).drop ((rCol).toNat)).take (((IntKind.i64.wrap (rCol+rCols)).toNat) - ((rCol).toNat)))) fun (y1:List Cel)=>Y6 f fR rRow rCol rRows rCols fu1 (IntKind.i64.wrap (i+(1:Int))) (gRows++([y1]:List (List Cel)))) else (bif ((((decide (rRow≤f.cursor.row))&&(decide (f.cursor.row<(IntKind.i64.wrap (rRow+rRows)))))&&(decide (rCol≤f.cursor.col)))&&(decide (f.cursor.col<(IntKind.i64.wrap (rCol+rCols))))) then ((⟨rCols,(⟨(IntKind.i64.wrap (f.cursor.row - rRow)),(IntKind.i64.wrap (f.cursor.col - rCol))⟩:Plc),f.visible,f.shape,f.title⟩:FrmC),gRows) else ({FrmC.zero with cols:=rCols,shape:=f.shape,title:=f.title},gRows)))
def A4w (f:FrmC) (fR:List (List Cel)) (rRow:Int) (rCol:Int) (rRows:Int) (rCols:Int):FrmC×List (List Cel) :=
 Y6 f fR rRow rCol rRows rCols (((IntKind.i64.wrap (rRow+rRows)) - rRow).toNat+1) rRow ([]:List (List Cel))
theorem B9p (f:FrmC) (fR:List (List Cel)) (rRow:Int) (rCol:Int) (rRows:Int) (rCols:Int) (fQ:Option Addr) (fZ:List Slc) (fK:Nat) (hrowsfRowsrs:C8 fZ fR) (hlfRows:fR.length≤9223372036854775807) (hcfRows:fR.length≤fK) (hq:B5y 0 f fR rRow rCol rRows rCols) (R:FrmC×List (List Cel)) (hR:A4w f fR rRow rCol rRows rCols=R):Con Tryz.prog 27 [ag (A0 f ⟨fQ,fR.length,fK⟩),ag [iv rRow,iv rCol,iv rRows,iv rCols]] [] [sl C3 fQ fZ,F6 B3 fZ fR] ({t:VR×List Slc // VOk 1 R.2.length t.1∧C8 t.2 R.2}) (fun x=>ag (A0 R.1 ⟨va x.1.1.q,R.2.length,x.1.1.k⟩)) (fun x=>((vo C3 69 x.1.1 x.1.2)++([]))) (fun x=>[F6 B3 x.1.2 R.2]):=by
 refine zco Tryz.func27 [(0,ag (A0 f ⟨fQ,fR.length,fK⟩)),(1,ag [iv rRow,iv rCol,iv rRows,iv rCols])] fun X hX hr hD=>?_
 replace hR:=(A4w.eq_1 ..).symm.trans hR
 have:=hrowsfRowsrs.1
 obtain ⟨⟨hq1,hq2,hq3⟩,hq4,hq5,hq6,hq7,hq8,hq9,hq10⟩:=hq
 have hw1:IntKind.i64.wrap (rRow+rRows)=rRow+rRows:=wr6 (by omega)
 have hw2:IntKind.i64.wrap (rCol+rCols)=rCol+rCols:=wr6 (by omega)
 refine sr 3 rfl (C9b 3 0 [] (fun b1 b2 b3=>[(2,pt b1 0),(3,pt b2 0),(4,pt b3 0)]) (fun b1 b2 b3=>[bx b3 (A0 FrmC.zero ⟨none,0,0⟩) 26,bx b2 [iv rRow,iv rCol,iv rRows,iv rCols] 61,bx b1 (A0 f ⟨fQ,fR.length,fK⟩) 26]) (fun b1 b2 b3=>?_))
 refine ie (sr 9 rfl (K3 9 0 [1,2,2,0] (fun b4=>[(5,pt b4 0)]) (fun b4=>[bx b4 (A0 ({FrmC.zero with cols:=rCols,shape:=f.shape,title:=f.title}) ⟨none,0,0⟩) 26,bx b3 (A0 FrmC.zero ⟨none,0,0⟩) 26,bx b2 [iv rRow,iv rCol,iv rRows,iv rCols] 61,bx b1 (A0 f ⟨fQ,fR.length,fK⟩) 26]) (fun b4=>?_)))
 refine ie (A1 (sr 3 rfl (zrl 3 0 [2] [(6,iv rRow)] ?_)))
 refine ie (A9 (A0z (I5 [vo C3 69 VR.nil ([]:List Slc),[bx b4 (A0 ({FrmC.zero with cols:=rCols,shape:=f.shape,title:=f.title}) ⟨none,0,0⟩) 26],[bx b3 (A0 FrmC.zero ⟨none,0,0⟩) 26],[bx b2 [iv rRow,iv rCol,iv rRows,iv rCols] 61],[bx b1 (A0 f ⟨fQ,fR.length,fK⟩) 26]] [1,2,3,4,0] 5 rfl (by decide) rfl [[bx b4 (A0 ({FrmC.zero with cols:=rCols,shape:=f.shape,title:=f.title}) ⟨none,0,0⟩) 26],[bx b3 (A0 FrmC.zero ⟨none,0,0⟩) 26],[bx b2 [iv rRow,iv rCol,iv rRows,iv rCols] 61],[bx b1 (A0 f ⟨fQ,fR.length,fK⟩) 26],vo C3 69 VR.nil ([]:List Slc)] rfl (by first|rfl|simp)) ?_))
 refine D4j (fun (fu:Nat) (i:Int) (gRows:List (List Cel)) (gRowsr:VR) (gRowsrs:List Slc)=>(((IntKind.i64.wrap (rRow+rRows)) - i).toNat<fu∧Y6 f fR rRow rCol rRows rCols fu i gRows=R∧VOk 1 gRows.length gRowsr∧C8 gRowsrs gRows∧rRow≤i∧i≤rRow+rRows∧(gRows.length:Int)=i - rRow,[(2,pt b1 0),(3,pt b2 0),(4,pt b3 0),(5,pt b4 0),(6,iv i)],(bx b4 (A0 ({FrmC.zero with cols:=rCols,shape:=f.shape,title:=f.title}) ⟨va gRowsr.q,gRows.length,gRowsr.k⟩) 26::bx b3 (A0 FrmC.zero ⟨none,0,0⟩) 26::bx b2 [iv rRow,iv rCol,iv rRows,iv rCols] 61::bx b1 (A0 f ⟨fQ,fR.length,fK⟩) 26::(vo C3 69 gRowsr gRowsrs)++([])),[sl C3 fQ fZ,F6 B3 fZ fR,F6 B3 gRowsrs gRows],fu)) (((IntKind.i64.wrap (rRow+rRows)) - rRow).toNat+1) rRow ([]:List (List Cel)) VR.nil ([]:List Slc) ⟨(Nat.lt_succ_self _),hR,VOk.nil,C8.none,(by (simp only [List.length_nil];omega))⟩ (mc [[bx b4 (A0 ({FrmC.zero with cols:=rCols,shape:=f.shape,title:=f.title}) ⟨none,0,0⟩) 26],[bx b3 (A0 FrmC.zero ⟨none,0,0⟩) 26],[bx b2 [iv rRow,iv rCol,iv rRows,iv rCols] 61],[bx b1 (A0 f ⟨fQ,fR.length,fK⟩) 26],vo C3 69 VR.nil ([]:List Slc)] [true,true,true,true,true] rfl (by first|rfl|(simp only [List.length_set]<;>rfl))) (A5.con1 (B7 0 rfl) (A5.con1 (B7 1 rfl) (A5.con1 Q7 fn0))) ?_
 rintro fu i gRows gRowsr gRowsrs ⟨hm5,hR,hokgRowsr,hrowsgRowsrs,hir⟩
 have:=VOk.le hokgRowsr
 have:=hrowsgRowsrs.1
 obtain ⟨fu1,rfl⟩:∃ m,fu=m+1:=⟨fu - 1,by omega⟩
 replace hR:=(Y6.eq_2 ..).symm.trans hR
 refine A1 (sr 7 rfl (zrl 5 2 [2,2] [(16,iv i),(18,iv rRow),(20,iv rRows)] ?_))
 refine ix rfl (H5.pure rfl) ?_
 refine ip' 1 0 [(22,bv (decide (i<(IntKind.i64.wrap (rRow+rRows)))))] ?_
 refine ie ?_
 refine zjd rfl hR ?_ ?_<;>clear hR<;>intro hR h6 h6p
 ·have hqr:=hq3 i.toNat (by omega)
  have hw3:IntKind.i64.wrap (i+(1:Int))=i+1:=wr6 (by omega)
  refine A4 (nx (A1 (A9 (A9b (N6 (k:=(i).toNat) (d:=(⟨none,0,0⟩:Slc)) hrowsfRowsrs 1 rfl (by have:=hrowsfRowsrs.1;omega)) ?_))))
  have:=N3 hrowsfRowsrs (k:=(i).toNat) (d:=(⟨none,0,0⟩:Slc)) (by have:=hrowsfRowsrs.1;omega)
  refine A9b (C2w (c:=B3) (sz:=12) (xs:=(fR.getD ((i).toNat) [])) (B7 0 rfl) ((rCol).toNat) ((IntKind.i64.wrap (rCol+rCols)).toNat) ((fZ.getD ((i).toNat) (⟨none,0,0⟩:Slc)).k) (fun _=>rfl) rfl (by omega) (by omega)) ?_
  refine sh' 20 [(19,[bx b4 (A0 ({FrmC.zero with cols:=rCols,shape:=f.shape,title:=f.title}) ⟨va gRowsr.q,gRows.length,gRowsr.k⟩) 26]),(20,[bx b3 (A0 FrmC.zero ⟨none,0,0⟩) 26]),(20,[bx b2 [iv rRow,iv rCol,iv rRows,iv rCols] 61]),(20,[bx b1 (A0 f ⟨fQ,fR.length,fK⟩) 26]),(17,vo C3 69 gRowsr gRowsrs)] [sl B3 (A3w ((fZ.getD ((i).toNat) (⟨none,0,0⟩:Slc)).q) ((rCol).toNat) 12 ((fZ.getD ((i).toNat) (⟨none,0,0⟩:Slc)).k)) (((fR.getD ((i).toNat) []).drop ((rCol).toNat)).take (((IntKind.i64.wrap (rCol+rCols)).toNat) - ((rCol).toNat))),sl B3 ((fZ.getD ((i).toNat) (⟨none,0,0⟩:Slc)).q) (fR.getD ((i).toNat) []),sl C3 fQ fZ,F6 B3 fZ fR,F6 B3 gRowsrs gRows] (bx b4 (A0 ({FrmC.zero with cols:=rCols,shape:=f.shape,title:=f.title}) ⟨va gRowsr.q,gRows.length,gRowsr.k⟩) 26::bx b3 (A0 FrmC.zero ⟨none,0,0⟩) 26::bx b2 [iv rRow,iv rCol,iv rRows,iv rCols] 61::bx b1 (A0 f ⟨fQ,fR.length,fK⟩) 26::(vo C3 69 gRowsr gRowsrs)++([])) (zml 20 0) (by kernel_rfl) rfl (by kernel_rfl) (by kernel_rfl) (by kernel_rfl) (mc [[bx b4 (A0 ({FrmC.zero with cols:=rCols,shape:=f.shape,title:=f.title}) ⟨va gRowsr.q,gRows.length,gRowsr.k⟩) 26],[bx b3 (A0 FrmC.zero ⟨none,0,0⟩) 26],[bx b2 [iv rRow,iv rCol,iv rRows,iv rCols] 61],[bx b1 (A0 f ⟨fQ,fR.length,fK⟩) 26],vo C3 69 gRowsr gRowsrs] [true,true,true,true,true] rfl (by first|rfl|(simp only [List.length_set]<;>rfl))) A5.refl ?_
  refine zhp [0,2,4,7,9,11] 14 (zml 20 2709) [(25,pt b4 1),(27,pt b1 1),(29,iv i),(32,pt b2 1),(34,pt b2 1),(36,pt b2 3)] ?_
  refine zhl 1 (bx b4 (A0 ({FrmC.zero with cols:=rCols,shape:=f.shape,title:=f.title}) ⟨va gRowsr.q,gRows.length,gRowsr.k⟩) 26::bx b3 (A0 FrmC.zero ⟨none,0,0⟩) 26::bx b2 [iv rRow,iv rCol,iv rRows,iv rCols] 61::bx b1 (A0 f ⟨fQ,fR.length,fK⟩) 26::(vo C3 69 gRowsr gRowsrs)++([])) (zml 20 2711) rfl (D0 (v:=.slice (va gRowsr.q) gRows.length gRowsr.k) C6j rfl rfl 0 rfl rfl) ?_
  refine zhl 3 [bx b4 (A0 ({FrmC.zero with cols:=rCols,shape:=f.shape,title:=f.title}) ⟨va gRowsr.q,gRows.length,gRowsr.k⟩) 26,bx b3 (A0 FrmC.zero ⟨none,0,0⟩) 26,bx b2 [iv rRow,iv rCol,iv rRows,iv rCols] 61,bx b1 (A0 f ⟨fQ,fR.length,fK⟩) 26] (zml 20 2719) rfl (D0 (v:=.slice fQ fR.length fK) C6j rfl rfl 3 rfl rfl) ?_
  refine C0n 2 rfl (by have:=hrowsfRowsrs.1;omega) fun a7 hq8=>?_
  refine zhk 5 (zml 20 2751) rfl (E6 X4 rfl rfl hq8 rfl ((i).toNat) (by omega) (by omega)) ?_
  refine zhk 6 (zml 20 2815) rfl (G7 (C7 (v:=.slice ((fZ.getD ((i).toNat) (⟨none,0,0⟩:Slc)).q) ((fZ.getD ((i).toNat) (⟨none,0,0⟩:Slc)).n) ((fZ.getD ((i).toNat) (⟨none,0,0⟩:Slc)).k)) (us:=[.slice ((fZ.getD ((i).toNat) (⟨none,0,0⟩:Slc)).q) ((fZ.getD ((i).toNat) (⟨none,0,0⟩:Slc)).n) ((fZ.getD ((i).toNat) (⟨none,0,0⟩:Slc)).k)]) A3s rfl rfl (F7 (c:=C3) (sz:=1) hq8 (fun _=>rfl) 2 rfl (gd (⟨none,0,0⟩:Slc) (by have:=hrowsfRowsrs.1;omega))) rfl) (N1 hrowsfRowsrs (by have:=hrowsfRowsrs.1;omega))) ?_
  refine zhl 8 [bx b4 (A0 ({FrmC.zero with cols:=rCols,shape:=f.shape,title:=f.title}) ⟨va gRowsr.q,gRows.length,gRowsr.k⟩) 26,bx b3 (A0 FrmC.zero ⟨none,0,0⟩) 26,bx b2 [iv rRow,iv rCol,iv rRows,iv rCols] 61,bx b1 (A0 f ⟨fQ,fR.length,fK⟩) 26] (zml 20 3071) rfl (D0 (v:=iv rCol) ty3 rfl rfl 2 rfl rfl) ?_
  refine zhl 10 [bx b4 (A0 ({FrmC.zero with cols:=rCols,shape:=f.shape,title:=f.title}) ⟨va gRowsr.q,gRows.length,gRowsr.k⟩) 26,bx b3 (A0 FrmC.zero ⟨none,0,0⟩) 26,bx b2 [iv rRow,iv rCol,iv rRows,iv rCols] 61,bx b1 (A0 f ⟨fQ,fR.length,fK⟩) 26] (zml 20 4095) rfl (D0 (v:=iv rCol) ty3 rfl rfl 2 rfl rfl) ?_
  refine zhl 12 [bx b4 (A0 ({FrmC.zero with cols:=rCols,shape:=f.shape,title:=f.title}) ⟨va gRowsr.q,gRows.length,gRowsr.k⟩) 26,bx b3 (A0 FrmC.zero ⟨none,0,0⟩) 26,bx b2 [iv rRow,iv rCol,iv rRows,iv rCols] 61,bx b1 (A0 f ⟨fQ,fR.length,fK⟩) 26] (zml 20 8191) rfl (D0 (v:=iv rCols) ty3 rfl rfl 2 rfl rfl) ?_
  refine zhk 13 (zml 20 16383) rfl (H5.pure rfl) ?_
  refine zhk 14 (zml 20 32767) rfl (A4b (n':=(((fR.getD ((i).toNat) []).drop ((rCol).toNat)).take (((IntKind.i64.wrap (rCol+rCols)).toNat) - ((rCol).toNat))).length) P4 rfl rfl ((rCol).toNat) ((IntKind.i64.wrap (rCol+rCols)).toNat) ((fZ.getD ((i).toNat) (⟨none,0,0⟩:Slc)).k) (S2 rfl (by omega)) (S2 rfl (by omega)) X2 (by omega) (by omega) (by omega) (by first|rfl|omega|(simp only [List.length_take,List.length_drop];omega)|(simp;done)) rfl) ?_
  have:=@List.length_drop _ ((rCol).toNat) (fR.getD ((i).toNat) [])
  have:=@List.length_take _ (((IntKind.i64.wrap (rCol+rCols)).toNat) - ((rCol).toNat)) ((fR.getD ((i).toNat) []).drop ((rCol).toNat))
  have hQ:=G4 hR;clear hR;obtain ⟨y1,hy1,hR⟩:=hQ
  refine zho 15 (bx b4 (A0 ({FrmC.zero with cols:=rCols,shape:=f.shape,title:=f.title}) ⟨va gRowsr.q,gRows.length,gRowsr.k⟩) 26::bx b3 (A0 FrmC.zero ⟨none,0,0⟩) 26::bx b2 [iv rRow,iv rCol,iv rRows,iv rCols] 61::bx b1 (A0 f ⟨fQ,fR.length,fK⟩) 26::(vo C3 69 gRowsr gRowsrs)++([])) (zml 20 65535) rfl (I2 (L2:=(bx b4 (A0 ({FrmC.zero with cols:=rCols,shape:=f.shape,title:=f.title}) ⟨va gRowsr.q,gRows.length,gRowsr.k⟩) 26::bx b3 (A0 FrmC.zero ⟨none,0,0⟩) 26::bx b2 [iv rRow,iv rCol,iv rRows,iv rCols] 61::bx b1 (A0 f ⟨fQ,fR.length,fK⟩) 26::(vo C3 69 gRowsr gRowsrs)++([]))) (B6v (((fR.getD ((i).toNat) []).drop ((rCol).toNat)).take (((IntKind.i64.wrap (rCol+rCols)).toNat) - ((rCol).toNat))) (A3w ((fZ.getD ((i).toNat) (⟨none,0,0⟩:Slc)).q) ((rCol).toNat) 12 ((fZ.getD ((i).toNat) (⟨none,0,0⟩:Slc)).k)) (((fZ.getD ((i).toNat) (⟨none,0,0⟩:Slc)).k) - ((rCol).toNat)) (by first|omega|(simp only [List.length_take,List.length_drop,List.length_append,List.length_cons,List.length_nil,List.length_set,List.length_map];omega)|decide) (by first|omega|(simp only [List.length_take,List.length_drop,List.length_append,List.length_cons,List.length_nil,List.length_set,List.length_map];omega)|decide) (by first|omega|(simp only [List.length_take,List.length_drop];omega)) y1 hy1) rfl rfl rfl rfl rfl (A5.pick [0] rfl) (List.Perm.refl _) (fun ⟨r9,hk10⟩=>(bx b4 (A0 ({FrmC.zero with cols:=rCols,shape:=f.shape,title:=f.title}) ⟨va gRowsr.q,gRows.length,gRowsr.k⟩) 26::bx b3 (A0 FrmC.zero ⟨none,0,0⟩) 26::bx b2 [iv rRow,iv rCol,iv rRows,iv rCols] 61::bx b1 (A0 f ⟨fQ,fR.length,fK⟩) 26::(vo B3 72 r9 y1)++((vo C3 69 gRowsr gRowsrs)++([])))) (fun ⟨r9,hk10⟩=>I5 [vo B3 72 r9 y1,[bx b4 (A0 ({FrmC.zero with cols:=rCols,shape:=f.shape,title:=f.title}) ⟨va gRowsr.q,gRows.length,gRowsr.k⟩) 26],[bx b3 (A0 FrmC.zero ⟨none,0,0⟩) 26],[bx b2 [iv rRow,iv rCol,iv rRows,iv rCols] 61],[bx b1 (A0 f ⟨fQ,fR.length,fK⟩) 26],vo C3 69 gRowsr gRowsrs] [1,2,3,4,0,5] 6 rfl (by decide) (by first|rfl|simp only [List.flatten_cons,List.flatten_nil,List.append_nil,List.cons_append,List.nil_append,List.append_assoc]) [[bx b4 (A0 ({FrmC.zero with cols:=rCols,shape:=f.shape,title:=f.title}) ⟨va gRowsr.q,gRows.length,gRowsr.k⟩) 26],[bx b3 (A0 FrmC.zero ⟨none,0,0⟩) 26],[bx b2 [iv rRow,iv rCol,iv rRows,iv rCols] 61],[bx b1 (A0 f ⟨fQ,fR.length,fK⟩) 26],vo B3 72 r9 y1,vo C3 69 gRowsr gRowsrs] rfl (by first|rfl|simp only [List.flatten_cons,List.flatten_nil,List.append_nil,List.cons_append,List.nil_append,List.append_assoc]))) (fun ⟨r9,hk10⟩=>(mc [[bx b4 (A0 ({FrmC.zero with cols:=rCols,shape:=f.shape,title:=f.title}) ⟨va gRowsr.q,gRows.length,gRowsr.k⟩) 26],[bx b3 (A0 FrmC.zero ⟨none,0,0⟩) 26],[bx b2 [iv rRow,iv rCol,iv rRows,iv rCols] 61],[bx b1 (A0 f ⟨fQ,fR.length,fK⟩) 26],vo B3 72 r9 y1,vo C3 69 gRowsr gRowsrs] [true,true,true,true,false,true] rfl (by first|rfl|(simp only [List.length_set]<;>rfl)))) (fun ⟨r9,hk10⟩=>A5.refl) fun ⟨r9,hk10⟩=>?_
  have:=VOk.le hk10
  have:=VOk.cap hk10
  have:=VOk.cap hk10
  have:=VOk.le hk10
  refine C4e [bx b4 (A0 ({FrmC.zero with cols:=rCols,shape:=f.shape,title:=f.title}) ⟨va gRowsr.q,gRows.length,gRowsr.k⟩) 26,bx b3 (A0 FrmC.zero ⟨none,0,0⟩) 26,bx b2 [iv rRow,iv rCol,iv rRows,iv rCols] 61,bx b1 (A0 f ⟨fQ,fR.length,fK⟩) 26] ((vo C3 69 gRowsr gRowsrs)++([])) (T:=72) (c:=B3) (r:=r9) (xs:=y1) hk10 (by first|rfl|simp only [List.cons_append,List.append_assoc,List.nil_append,List.append_nil]) (bx b4 (A0 ({FrmC.zero with cols:=rCols,shape:=f.shape,title:=f.title}) ⟨va gRowsr.q,gRows.length,gRowsr.k⟩) 26::bx b3 (A0 FrmC.zero ⟨none,0,0⟩) 26::bx b2 [iv rRow,iv rCol,iv rRows,iv rCols] 61::bx b1 (A0 f ⟨fQ,fR.length,fK⟩) 26::(vo C3 69 gRowsr gRowsrs)++([])) rfl (mc [[bx b4 (A0 ({FrmC.zero with cols:=rCols,shape:=f.shape,title:=f.title}) ⟨va gRowsr.q,gRows.length,gRowsr.k⟩) 26],[bx b3 (A0 FrmC.zero ⟨none,0,0⟩) 26],[bx b2 [iv rRow,iv rCol,iv rRows,iv rCols] 61],[bx b1 (A0 f ⟨fQ,fR.length,fK⟩) 26],vo C3 69 gRowsr gRowsrs] [true,true,true,true,true] rfl (by first|rfl|(simp only [List.length_set]<;>rfl))) ?_
  refine zho 16 (bx b4 (A0 ({FrmC.zero with cols:=rCols,shape:=f.shape,title:=f.title}) ⟨va gRowsr.q,gRows.length,gRowsr.k⟩) 26::bx b3 (A0 FrmC.zero ⟨none,0,0⟩) 26::bx b2 [iv rRow,iv rCol,iv rRows,iv rCols] 61::bx b1 (A0 f ⟨fQ,fR.length,fK⟩) 26::(vo C3 69 gRowsr gRowsrs)++([])) (zml 20 131071) rfl (E2 (c:=C3) (xs:=([⟨va r9.q,y1.length,r9.k⟩]:List Slc)) X4 rfl rfl rfl (by kernel_rfl)) (fun b11=>(mc [[bx b4 (A0 ({FrmC.zero with cols:=rCols,shape:=f.shape,title:=f.title}) ⟨va gRowsr.q,gRows.length,gRowsr.k⟩) 26],[bx b3 (A0 FrmC.zero ⟨none,0,0⟩) 26],[bx b2 [iv rRow,iv rCol,iv rRows,iv rCols] 61],[bx b1 (A0 f ⟨fQ,fR.length,fK⟩) 26],vo C3 69 gRowsr gRowsrs] [true,true,true,true,true] rfl (by first|rfl|(simp only [List.length_set]<;>rfl)))) (fun b11=>(A5.pick [2,3,4,5,6] rfl)) fun b11=>?_
  have hrows12:C8 ([⟨va r9.q,y1.length,r9.k⟩]:List Slc) ([y1]:List (List Cel)):=(C8.cons ⟨rfl,(by first|omega|(simp only [List.length_take,List.length_drop,List.length_append,List.length_cons,List.length_nil,List.length_set,List.length_map];omega)|decide),(by first|omega|(simp only [List.length_take,List.length_drop,List.length_append,List.length_cons,List.length_nil,List.length_set,List.length_map];omega)|decide)⟩ C8.none)
  refine C0x (q:=F6 B3 ([⟨va r9.q,y1.length,r9.k⟩]:List Slc) ([y1]:List (List Cel))) (A2o (B7 1 rfl) Q7) ?_
  have:([⟨va r9.q,y1.length,r9.k⟩]:List Slc).length=1:=rfl
  have hw15:C8 (gRowsrs++([⟨va r9.q,y1.length,r9.k⟩]:List Slc)) (gRows++([y1]:List (List Cel))):=C8.append hrowsgRowsrs hrows12
  refine zho 17 [bx b4 (A0 ({FrmC.zero with cols:=rCols,shape:=f.shape,title:=f.title}) ⟨va gRowsr.q,gRows.length,gRowsr.k⟩) 26,bx b3 (A0 FrmC.zero ⟨none,0,0⟩) 26,bx b2 [iv rRow,iv rCol,iv rRows,iv rCols] 61,bx b1 (A0 f ⟨fQ,fR.length,fK⟩) 26] (zml 20 262143) rfl (B1b (r:=gRowsr) (rs:=gRowsrs) (xss:=gRows) (pre:=[bx b4 (A0 ({FrmC.zero with cols:=rCols,shape:=f.shape,title:=f.title}) ⟨va gRowsr.q,gRows.length,gRowsr.k⟩) 26,bx b3 (A0 FrmC.zero ⟨none,0,0⟩) 26,bx b2 [iv rRow,iv rCol,iv rRows,iv rCols] 61,bx b1 (A0 f ⟨fQ,fR.length,fK⟩) 26]) (post:=[]) C4w rfl rfl rfl rfl rfl rfl rfl rfl rfl (B7 1 rfl) (B7 7 rfl) (B7 0 rfl) hrowsgRowsrs hrows12 hokgRowsr (by first|omega|(simp only [List.length_cons,List.length_nil,List.length_append,List.length_take,List.length_drop];omega)) (by first|omega|(simp only [List.length_cons,List.length_nil,List.length_append,List.length_take,List.length_drop];omega))) (fun ⟨r13,hr14⟩=>(mc [[bx b4 (A0 ({FrmC.zero with cols:=rCols,shape:=f.shape,title:=f.title}) ⟨va gRowsr.q,gRows.length,gRowsr.k⟩) 26],[bx b3 (A0 FrmC.zero ⟨none,0,0⟩) 26],[bx b2 [iv rRow,iv rCol,iv rRows,iv rCols] 61],[bx b1 (A0 f ⟨fQ,fR.length,fK⟩) 26],vo C3 69 r13 (gRowsrs++([⟨va r9.q,y1.length,r9.k⟩]:List Slc))] [true,true,true,true,false] rfl (by first|rfl|(simp only [List.length_set]<;>rfl)))) (fun ⟨r13,hr14⟩=>(A5.pick [4,5,6,7,8] rfl)) fun ⟨r13,hr14⟩=>?_
  have:=VOk.le hr14
  have:=VOk.cap hr14
  have:([y1]:List (List Cel)).length=1:=rfl
  have:(gRows++([y1]:List (List Cel))).length=gRows.length+1:=List.length_append
  refine zhp [18] 1 (zml 20 524287) [(43,pt b4 1)] ?_
  refine zho 19 [bx b3 (A0 FrmC.zero ⟨none,0,0⟩) 26,bx b2 [iv rRow,iv rCol,iv rRows,iv rCols] 61,bx b1 (A0 f ⟨fQ,fR.length,fK⟩) 26] (zml 20 1048575) rfl (N0 (us:=[.slice (va r13.q) ((gRows++([y1]:List (List Cel))).length) r13.k]) (cs':=A0 ({FrmC.zero with cols:=rCols,shape:=f.shape,title:=f.title}) ⟨va r13.q,(gRows++([y1]:List (List Cel))).length,r13.k⟩) C6j rfl rfl rfl 0 rfl rfl rfl rfl rfl rfl) (fun _=>(mc [[bx b4 (A0 ({FrmC.zero with cols:=rCols,shape:=f.shape,title:=f.title}) ⟨va r13.q,(gRows++([y1]:List (List Cel))).length,r13.k⟩) 26],[bx b3 (A0 FrmC.zero ⟨none,0,0⟩) 26],[bx b2 [iv rRow,iv rCol,iv rRows,iv rCols] 61],[bx b1 (A0 f ⟨fQ,fR.length,fK⟩) 26],vo C3 69 r13 (gRowsrs++([⟨va r9.q,y1.length,r9.k⟩]:List Slc))] [false,true,true,true,false] rfl (by first|rfl|(simp only [List.length_set]<;>rfl)))) (fun _=>(A5.pick [4,5,6,7,8] rfl)) fun _=>?_
  refine B1h (by kernel_rfl) ?_
  refine nx (A3 3 rfl (ip' 1 2 [(23,iv i)] ?_))
  refine ix rfl (H5.pure rfl) ?_
  refine ip' 1 0 [(6,iv (IntKind.i64.wrap (i+(1:Int))))] ?_
  refine A2 ?_
  exact D3m (z1:=(fu1+1)) (z2:=i) (z3:=gRows) (z4:=gRowsr) (z5:=gRowsrs) fu1 (IntKind.i64.wrap (i+(1:Int))) (gRows++([y1]:List (List Cel))) r13 (gRowsrs++([⟨va r9.q,y1.length,r9.k⟩]:List Slc)) ⟨(by omega),hR,hr14,hw15,(by (simp only [List.length_append,List.length_cons,List.length_nil];omega))⟩ (Nat.lt_succ_self _) (mc [[bx b4 (A0 ({FrmC.zero with cols:=rCols,shape:=f.shape,title:=f.title}) ⟨va r13.q,(gRows++([y1]:List (List Cel))).length,r13.k⟩) 26],[bx b3 (A0 FrmC.zero ⟨none,0,0⟩) 26],[bx b2 [iv rRow,iv rCol,iv rRows,iv rCols] 61],[bx b1 (A0 f ⟨fQ,fR.length,fK⟩) 26],vo C3 69 r13 (gRowsrs++([⟨va r9.q,y1.length,r9.k⟩]:List Slc))] [true,true,true,true,true] rfl (by first|rfl|(simp only [List.length_set]<;>rfl))) (A5.pick [6,7,0] rfl)
 refine F9 (nx (A1 (sr 36 rfl (zrl 7 29 [3,2] [(50,bv (decide (rRow≤f.cursor.row)))] ?_))))
 refine zid 10 19 50 60 (decide (f.cursor.row<(IntKind.i64.wrap (rRow+rRows)))) (fun g16 g16p=>?_) ?_
 ·refine zrl 7 3 [3,2,2] [(53,iv f.cursor.row),(55,iv rRow),(57,iv rRows)] ?_
  refine ix rfl (H5.pure rfl) ?_
  refine ip' 2 0 [(60,bv (decide (f.cursor.row<(IntKind.i64.wrap (rRow+rRows)))))] ?_
  exact A2 (H7 6 50 60 g16 A5.refl (mc [[bx b4 (A0 ({FrmC.zero with cols:=rCols,shape:=f.shape,title:=f.title}) ⟨va gRowsr.q,gRows.length,gRowsr.k⟩) 26],[bx b3 (A0 FrmC.zero ⟨none,0,0⟩) 26],[bx b2 [iv rRow,iv rCol,iv rRows,iv rCols] 61],[bx b1 (A0 f ⟨fQ,fR.length,fK⟩) 26],vo C3 69 gRowsr gRowsrs] [true,true,true,true,true] rfl (by first|rfl|(simp only [List.length_set]<;>rfl))) rfl rfl rfl rfl rfl)
 refine ip' 1 18 [(61,bv ((decide (rRow≤f.cursor.row))&&(decide (f.cursor.row<(IntKind.i64.wrap (rRow+rRows))))))] ?_
 refine zia 7 11 61 68 (decide (rCol≤f.cursor.col)) (fun g17=>?_) ?_
 ·have g17p:(rRow≤f.cursor.row)∧(f.cursor.row<(IntKind.i64.wrap (rRow+rRows))):=by simpa using g17
  refine zrl 7 0 [3,2] [(68,bv (decide (rCol≤f.cursor.col)))] ?_
  exact A2 (H7 2 61 68 g17 A5.refl (mc [[bx b4 (A0 ({FrmC.zero with cols:=rCols,shape:=f.shape,title:=f.title}) ⟨va gRowsr.q,gRows.length,gRowsr.k⟩) 26],[bx b3 (A0 FrmC.zero ⟨none,0,0⟩) 26],[bx b2 [iv rRow,iv rCol,iv rRows,iv rCols] 61],[bx b1 (A0 f ⟨fQ,fR.length,fK⟩) 26],vo C3 69 gRowsr gRowsrs] [true,true,true,true,true] rfl (by first|rfl|(simp only [List.length_set]<;>rfl))) rfl rfl rfl rfl rfl)
 refine ip' 1 10 [(69,bv (((decide (rRow≤f.cursor.row))&&(decide (f.cursor.row<(IntKind.i64.wrap (rRow+rRows)))))&&(decide (rCol≤f.cursor.col))))] ?_
 refine zia 10 0 69 79 (decide (f.cursor.col<(IntKind.i64.wrap (rCol+rCols)))) (fun g18=>?_) ?_
 ·have g18p:((rRow≤f.cursor.row)∧(f.cursor.row<(IntKind.i64.wrap (rRow+rRows))))∧(rCol≤f.cursor.col):=by simpa using g18
  refine zrl 7 3 [3,2,2] [(72,iv f.cursor.col),(74,iv rCol),(76,iv rCols)] ?_
  refine ix rfl (H5.pure rfl) ?_
  refine ip' 2 0 [(79,bv (decide (f.cursor.col<(IntKind.i64.wrap (rCol+rCols)))))] ?_
  exact A2 (H7 6 69 79 g18 A5.refl (mc [[bx b4 (A0 ({FrmC.zero with cols:=rCols,shape:=f.shape,title:=f.title}) ⟨va gRowsr.q,gRows.length,gRowsr.k⟩) 26],[bx b3 (A0 FrmC.zero ⟨none,0,0⟩) 26],[bx b2 [iv rRow,iv rCol,iv rRows,iv rCols] 61],[bx b1 (A0 f ⟨fQ,fR.length,fK⟩) 26],vo C3 69 gRowsr gRowsrs] [true,true,true,true,true] rfl (by first|rfl|(simp only [List.length_set]<;>rfl))) rfl rfl rfl rfl rfl)
 refine ie ?_
 refine zjb rfl hR ?_ ?_<;>clear hR<;>intro hR h19
 ·have h19p:(((rRow≤f.cursor.row)∧(f.cursor.row<(IntKind.i64.wrap (rRow+rRows))))∧(rCol≤f.cursor.col))∧(f.cursor.col<(IntKind.i64.wrap (rCol+rCols))):=by simpa using h19
  refine sr 15 rfl (zrl 5 10 [3,2] [(82,iv f.cursor.row),(84,iv rRow)] ?_)
  refine ix rfl (H5.pure rfl) ?_
  refine zrl 5 4 [3,2] [(88,iv f.cursor.col),(90,iv rCol)] ?_
  refine ix rfl (H5.pure rfl) ?_
  refine zrg 3 0 [0] [] (bx b4 (A0 ({FrmC.zero with cols:=rCols,shape:=f.shape,title:=f.title,cursor:=(⟨(IntKind.i64.wrap (f.cursor.row - rRow)),(IntKind.i64.wrap (f.cursor.col - rCol))⟩:Plc)}) ⟨va gRowsr.q,gRows.length,gRowsr.k⟩) 26::bx b3 (A0 FrmC.zero ⟨none,0,0⟩) 26::bx b2 [iv rRow,iv rCol,iv rRows,iv rCols] 61::bx b1 (A0 f ⟨fQ,fR.length,fK⟩) 26::(vo C3 69 gRowsr gRowsrs)++([])) ?_
  refine ie (A3 4 rfl (zrg 4 0 [3,0] [] (bx b4 (A0 (⟨rCols,(⟨(IntKind.i64.wrap (f.cursor.row - rRow)),(IntKind.i64.wrap (f.cursor.col - rCol))⟩:Plc),f.visible,f.shape,f.title⟩:FrmC) ⟨va gRowsr.q,gRows.length,gRowsr.k⟩) 26::bx b3 (A0 FrmC.zero ⟨none,0,0⟩) 26::bx b2 [iv rRow,iv rCol,iv rRows,iv rCols] 61::bx b1 (A0 f ⟨fQ,fR.length,fK⟩) 26::(vo C3 69 gRowsr gRowsrs)++([])) ?_))
  refine A2 (nx (sr 2 rfl (zrg 2 0 [0,1] [] (bx b4 (A0 (⟨rCols,(⟨(IntKind.i64.wrap (f.cursor.row - rRow)),(IntKind.i64.wrap (f.cursor.col - rCol))⟩:Plc),f.visible,f.shape,f.title⟩:FrmC) ⟨va gRowsr.q,gRows.length,gRowsr.k⟩) 26::bx b3 (A0 (⟨rCols,(⟨(IntKind.i64.wrap (f.cursor.row - rRow)),(IntKind.i64.wrap (f.cursor.col - rCol))⟩:Plc),f.visible,f.shape,f.title⟩:FrmC) ⟨va gRowsr.q,gRows.length,gRowsr.k⟩) 26::bx b2 [iv rRow,iv rCol,iv rRows,iv rCols] 61::bx b1 (A0 f ⟨fQ,fR.length,fK⟩) 26::(vo C3 69 gRowsr gRowsrs)++([])) ?_)))
  subst hR
  refine ie (A8 ?_)
  exact zer hr hD (S3 rfl (J7 (us:=A0 (⟨rCols,(⟨(IntKind.i64.wrap (f.cursor.row - rRow)),(IntKind.i64.wrap (f.cursor.col - rCol))⟩:Plc),f.visible,f.shape,f.title⟩:FrmC) ⟨va gRowsr.q,gRows.length,gRowsr.k⟩) A7a rfl 1 rfl rfl rfl)) ⟨(gRowsr,gRowsrs),⟨hokgRowsr,hrowsgRowsrs⟩⟩ (mc [[bx b4 (A0 (⟨rCols,(⟨(IntKind.i64.wrap (f.cursor.row - rRow)),(IntKind.i64.wrap (f.cursor.col - rCol))⟩:Plc),f.visible,f.shape,f.title⟩:FrmC) ⟨va gRowsr.q,gRows.length,gRowsr.k⟩) 26],[bx b3 (A0 (⟨rCols,(⟨(IntKind.i64.wrap (f.cursor.row - rRow)),(IntKind.i64.wrap (f.cursor.col - rCol))⟩:Plc),f.visible,f.shape,f.title⟩:FrmC) ⟨va gRowsr.q,gRows.length,gRowsr.k⟩) 26],[bx b2 [iv rRow,iv rCol,iv rRows,iv rCols] 61],[bx b1 (A0 f ⟨fQ,fR.length,fK⟩) 26],vo C3 69 gRowsr gRowsrs] [false,false,false,false,true] rfl (by first|rfl|(simp only [List.length_set]<;>rfl))) (A5.con1 (B7 2 rfl) fn0)
 have h19p:¬ ((((rRow≤f.cursor.row)∧(f.cursor.row<(IntKind.i64.wrap (rRow+rRows))))∧(rCol≤f.cursor.col))∧(f.cursor.col<(IntKind.i64.wrap (rCol+rCols)))):=by first|simpa using h19|(simp at h19 ⊢;omega)
 refine A4 (nx (sr 2 rfl (zrg 2 0 [0,1] [] (bx b4 (A0 ({FrmC.zero with cols:=rCols,shape:=f.shape,title:=f.title}) ⟨va gRowsr.q,gRows.length,gRowsr.k⟩) 26::bx b3 (A0 ({FrmC.zero with cols:=rCols,shape:=f.shape,title:=f.title}) ⟨va gRowsr.q,gRows.length,gRowsr.k⟩) 26::bx b2 [iv rRow,iv rCol,iv rRows,iv rCols] 61::bx b1 (A0 f ⟨fQ,fR.length,fK⟩) 26::(vo C3 69 gRowsr gRowsrs)++([])) ?_)))
 subst hR
 refine ie (A8 ?_)
 exact zer hr hD (S3 rfl (J7 (us:=A0 ({FrmC.zero with cols:=rCols,shape:=f.shape,title:=f.title}) ⟨va gRowsr.q,gRows.length,gRowsr.k⟩) A7a rfl 1 rfl rfl rfl)) ⟨(gRowsr,gRowsrs),⟨hokgRowsr,hrowsgRowsrs⟩⟩ (mc [[bx b4 (A0 ({FrmC.zero with cols:=rCols,shape:=f.shape,title:=f.title}) ⟨va gRowsr.q,gRows.length,gRowsr.k⟩) 26],[bx b3 (A0 ({FrmC.zero with cols:=rCols,shape:=f.shape,title:=f.title}) ⟨va gRowsr.q,gRows.length,gRowsr.k⟩) 26],[bx b2 [iv rRow,iv rCol,iv rRows,iv rCols] 61],[bx b1 (A0 f ⟨fQ,fR.length,fK⟩) 26],vo C3 69 gRowsr gRowsrs] [false,false,false,false,true] rfl (by first|rfl|(simp only [List.length_set]<;>rfl))) (A5.con1 (B7 2 rfl) fn0)
def A0k (f:FrmC) (fR:List (List Cel)) (rRow:Int) (rCol:Int) (rRows:Int) (rCols:Int):Bool :=
 (bif (!A3l) then false else (E7 (O7 f fR rRow rCol rRows rCols) fun (y0:FrmC×List (List Cel)×Int)=>(bif (!(W4 f fR)) then ((decide (y0.2.2=330))&&(decide ((y0.2.1.length:Int)=0))) else (bif (!(Z8 f fR rRow rCol rRows rCols)) then ((decide (y0.2.2=2))&&(decide ((y0.2.1.length:Int)=0))) else (bif (decide (y0.2.2=0)) then (E7 (A4w f fR rRow rCol rRows rCols) fun (y2:FrmC×List (List Cel))=>(A1b y0.1 y0.2.1 y2.1 y2.2)) else false)))))
theorem B0d (f:FrmC) (fR:List (List Cel)) (rRow:Int) (rCol:Int) (rRows:Int) (rCols:Int) (fQ:Option Addr) (fZ:List Slc) (fK:Nat) (hrowsfRowsrs:C8 fZ fR) (hlfRows:fR.length≤9223372036854775807) (hcfRows:fR.length≤fK) (hT:f.title.length≤100000000) (R:Bool) (hR:A0k f fR rRow rCol rRows rCols=R):K2 Tryz.prog 7 [ag (A0 f ⟨fQ,fR.length,fK⟩),ag [iv rRow,iv rCol,iv rRows,iv rCols]] [sl C3 fQ fZ,F6 B3 fZ fR,A3r,A3g] (bv R):=by
 refine zco Tryz.func7 [(0,ag (A0 f ⟨fQ,fR.length,fK⟩)),(1,ag [iv rRow,iv rCol,iv rRows,iv rCols])] fun X hX hr hD=>?_
 replace hR:=(A0k.eq_1 ..).symm.trans hR
 have:=hrowsfRowsrs.1
 refine sr 3 rfl (B1e 3 0 [] (fun b1 b2=>[(2,pt b1 0),(3,pt b2 0)]) (fun b1 b2=>[bx b2 [iv rRow,iv rCol,iv rRows,iv rCols] 61,bx b1 (A0 f ⟨fQ,fR.length,fK⟩) 26]) (fun b1 b2=>?_))
 refine ie (A1 (sr 2 rfl (zca (B7a _ rfl) (A5.pick [2,3] rfl) ?_)))
 refine ip' 1 0 [(8,bv (!A3l))] ?_
 refine ie ?_
 refine zjb rfl hR ?_ ?_<;>clear hR<;>intro hR h3
 ·refine sr 1 rfl (ip' 1 0 [(4,bv false)] ?_)
  subst hR
  refine ie (A8 ?_)
  exact E5 hr hD
 refine A4 (nx (sr 9 rfl (zrl 2 7 [1,0] [(10,ag (A0 f ⟨fQ,fR.length,fK⟩)),(11,ag [iv rRow,iv rCol,iv rRows,iv rCols])] ?_)))
 have hQ:=G4 hR;clear hR;obtain ⟨y0,hy0,hR⟩:=hQ
 refine it rfl (I2 (L2:=[bx b2 [iv rRow,iv rCol,iv rRows,iv rCols] 61,bx b1 (A0 f ⟨fQ,fR.length,fK⟩) 26]) (A6t f fR rRow rCol rRows rCols fQ fZ fK hrowsfRowsrs (by first|omega|(simp only [List.length_take,List.length_drop,List.length_append,List.length_cons,List.length_nil,List.length_set,List.length_map];omega)|decide) (by first|omega|(simp only [List.length_take,List.length_drop,List.length_append,List.length_cons,List.length_nil,List.length_set,List.length_map];omega)|decide) (by first|omega|(simp only [List.length_nil];omega)|(dsimp only;omega)) y0 hy0) rfl rfl rfl rfl rfl A5.refl (List.Perm.refl _) (fun ⟨⟨r4,rs5⟩,hp8⟩=>(bx b2 [iv rRow,iv rCol,iv rRows,iv rCols] 61::bx b1 (A0 f ⟨fQ,fR.length,fK⟩) 26::(vo C3 69 r4 rs5)++([]))) (fun ⟨⟨r4,rs5⟩,hp8⟩=>I5 [vo C3 69 r4 rs5,[bx b2 [iv rRow,iv rCol,iv rRows,iv rCols] 61],[bx b1 (A0 f ⟨fQ,fR.length,fK⟩) 26]] [1,2,0] 3 rfl (by decide) (by first|rfl|simp only [List.flatten_cons,List.flatten_nil,List.append_nil,List.cons_append,List.nil_append,List.append_assoc]) [[bx b2 [iv rRow,iv rCol,iv rRows,iv rCols] 61],[bx b1 (A0 f ⟨fQ,fR.length,fK⟩) 26],vo C3 69 r4 rs5] rfl (by first|rfl|simp only [List.flatten_cons,List.flatten_nil,List.append_nil,List.cons_append,List.nil_append,List.append_assoc]))) fun ⟨⟨r4,rs5⟩,hp8⟩=>?_
 try dsimp only at hp8
 obtain ⟨hk6,hw7⟩:=hp8
 have:=VOk.le hk6
 have:=VOk.cap hk6
 have:=hw7.1
 have ht_rframePart:=A2q f fR rRow rCol rRows rCols;rw [hy0] at ht_rframePart
 refine Q8 [bx b2 [iv rRow,iv rCol,iv rRows,iv rCols] 61,bx b1 (A0 f ⟨fQ,fR.length,fK⟩) 26] [] (T:=69) (c:=C3) (r:=r4) (xs:=rs5) (VOk.cast hk6 (by rw [hw7.1])) (by first|rfl|simp only [List.cons_append,List.append_assoc,List.nil_append,List.append_nil]) ?_
 refine K3 6 0 [0] (fun b9=>[(5,pt b9 0),(6,iv y0.2.2)]) (fun b9=>[bx b9 (A0 y0.1 ⟨va r4.q,y0.2.1.length,r4.k⟩) 26,bx b2 [iv rRow,iv rCol,iv rRows,iv rCols] 61,bx b1 (A0 f ⟨fQ,fR.length,fK⟩) 26]) (fun b9=>?_)
 refine ie (A1 (A9 (sr 4 rfl (zrl 1 3 [2] [(16,ag (A0 f ⟨fQ,fR.length,fK⟩))] ?_))))
 refine zca (B7b f fR fQ fZ fK hrowsfRowsrs (by first|omega|(simp only [List.length_take,List.length_drop,List.length_append,List.length_cons,List.length_nil,List.length_set,List.length_map];omega)|decide) (by first|omega|(simp only [List.length_take,List.length_drop,List.length_append,List.length_cons,List.length_nil,List.length_set,List.length_map];omega)|decide) (by first|omega|(simp only [List.length_nil];omega)|(dsimp only;omega)) _ rfl) (A5.pick [2,3] rfl) ?_
 refine ip' 2 0 [(15,bv (!(W4 f fR)))] ?_
 refine ie ?_
 refine zjb rfl hR ?_ ?_<;>clear hR<;>intro hR h10
 ·refine sr 9 rfl (ip' 3 6 [(21,bv (decide (y0.2.2=330)))] ?_)
  refine zid 5 1 21 26 (decide ((y0.2.1.length:Int)=0)) (fun g11 g11p=>?_) ?_
  ·refine zrl 5 0 [0] [(26,bv (decide ((y0.2.1.length:Int)=0)))] ?_
   exact zai 2 21 26 g11
  refine ip' 1 0 [(4,bv ((decide (y0.2.2=330))&&(decide ((y0.2.1.length:Int)=0))))] ?_
  subst hR
  refine ie (A8 ?_)
  exact E5 hr hD
 have hro:=B6e (by simpa using h10)
 refine sr 5 rfl (zrl 2 3 [2,1] [(28,ag (A0 f ⟨fQ,fR.length,fK⟩)),(29,ag [iv rRow,iv rCol,iv rRows,iv rCols])] ?_)
 refine zca (B9q f fR rRow rCol rRows rCols fQ fZ fK hrowsfRowsrs (by first|omega|(simp only [List.length_take,List.length_drop,List.length_append,List.length_cons,List.length_nil,List.length_set,List.length_map];omega)|decide) (by first|omega|(simp only [List.length_take,List.length_drop,List.length_append,List.length_cons,List.length_nil,List.length_set,List.length_map];omega)|decide) _ rfl) (A5.pick [2,3] rfl) ?_
 refine ip' 2 0 [(27,bv (!(Z8 f fR rRow rCol rRows rCols)))] ?_
 refine ie ?_
 refine zjb rfl hR ?_ ?_<;>clear hR<;>intro hR h12
 ·refine sr 9 rfl (ip' 3 6 [(34,bv (decide (y0.2.2=2)))] ?_)
  refine zid 5 1 34 39 (decide ((y0.2.1.length:Int)=0)) (fun g13 g13p=>?_) ?_
  ·refine zrl 5 0 [0] [(39,bv (decide ((y0.2.1.length:Int)=0)))] ?_
   exact zai 2 34 39 g13
  refine ip' 1 0 [(4,bv ((decide (y0.2.2=2))&&(decide ((y0.2.1.length:Int)=0))))] ?_
  subst hR
  refine ie (A8 ?_)
  exact E5 hr hD
 have hls:=B6r (by simpa using h12)
 have hpm:B5y 0 f fR rRow rCol rRows rCols:=⟨B1f.of hro,by omega,by omega,by omega,by omega,by omega,by omega,by omega⟩
 refine A4 (nx (sh 10 [(10,[bx b9 (A0 y0.1 ⟨va r4.q,y0.2.1.length,r4.k⟩) 26]),(10,[bx b2 [iv rRow,iv rCol,iv rRows,iv rCols] 61]),(10,[bx b1 (A0 f ⟨fQ,fR.length,fK⟩) 26])] [sl C3 (va r4.q) rs5,F6 B3 rs5 y0.2.1,sl C3 fQ fZ,F6 B3 fZ fR,A3r,A3g] [bx b9 (A0 y0.1 ⟨va r4.q,y0.2.1.length,r4.k⟩) 26,bx b2 [iv rRow,iv rCol,iv rRows,iv rCols] 61,bx b1 (A0 f ⟨fQ,fR.length,fK⟩) 26] (zml 10 0) (by kernel_rfl) rfl (by kernel_rfl) (by kernel_rfl) (by kernel_rfl) (mk [true,true,true] rfl) A5.refl ?_))
 refine zhp [0,1,2] 7 (zml 10 7) [(42,bv (decide (y0.2.2=0)))] ?_
 refine C1y 42 _ rfl (fun g14=>?_) (fun g14=>?_)
 ·have g14p:y0.2.2=0:=by simpa using g14
  replace hR:=bt hR g14
  refine zhl 3 [bx b9 (A0 y0.1 ⟨va r4.q,y0.2.1.length,r4.k⟩) 26,bx b2 [iv rRow,iv rCol,iv rRows,iv rCols] 61,bx b1 (A0 f ⟨fQ,fR.length,fK⟩) 26] (zml 10 15) rfl (O1 (us:=A0 y0.1 ⟨va r4.q,y0.2.1.length,r4.k⟩) A7a rfl rfl 0 rfl rfl rfl) ?_
  refine zhl 4 [bx b9 (A0 y0.1 ⟨va r4.q,y0.2.1.length,r4.k⟩) 26,bx b2 [iv rRow,iv rCol,iv rRows,iv rCols] 61,bx b1 (A0 f ⟨fQ,fR.length,fK⟩) 26] (zml 10 31) rfl (O1 (us:=A0 f ⟨fQ,fR.length,fK⟩) A7a rfl rfl 2 rfl rfl rfl) ?_
  refine zhl 5 [bx b9 (A0 y0.1 ⟨va r4.q,y0.2.1.length,r4.k⟩) 26,bx b2 [iv rRow,iv rCol,iv rRows,iv rCols] 61,bx b1 (A0 f ⟨fQ,fR.length,fK⟩) 26] (zml 10 63) rfl (O1 (us:=[iv rRow,iv rCol,iv rRows,iv rCols]) D5l rfl rfl 1 rfl rfl rfl) ?_
  have hQ:=G4 hR;clear hR;obtain ⟨y2,hy2,hR⟩:=hQ
  refine zho 6 [bx b9 (A0 y0.1 ⟨va r4.q,y0.2.1.length,r4.k⟩) 26,bx b2 [iv rRow,iv rCol,iv rRows,iv rCols] 61,bx b1 (A0 f ⟨fQ,fR.length,fK⟩) 26] (zml 10 127) rfl (I2 (L2:=[bx b9 (A0 y0.1 ⟨va r4.q,y0.2.1.length,r4.k⟩) 26,bx b2 [iv rRow,iv rCol,iv rRows,iv rCols] 61,bx b1 (A0 f ⟨fQ,fR.length,fK⟩) 26]) (B9p f fR rRow rCol rRows rCols fQ fZ fK hrowsfRowsrs (by first|omega|(simp only [List.length_take,List.length_drop,List.length_append,List.length_cons,List.length_nil,List.length_set,List.length_map];omega)|decide) (by first|omega|(simp only [List.length_take,List.length_drop,List.length_append,List.length_cons,List.length_nil,List.length_set,List.length_map];omega)|decide) (by exact hpm) y2 hy2) rfl rfl rfl rfl rfl (A5.pick [2,3] rfl) (List.Perm.refl _) (fun ⟨⟨r15,rs16⟩,hp19⟩=>(bx b9 (A0 y0.1 ⟨va r4.q,y0.2.1.length,r4.k⟩) 26::bx b2 [iv rRow,iv rCol,iv rRows,iv rCols] 61::bx b1 (A0 f ⟨fQ,fR.length,fK⟩) 26::(vo C3 69 r15 rs16)++([]))) (fun ⟨⟨r15,rs16⟩,hp19⟩=>I5 [vo C3 69 r15 rs16,[bx b9 (A0 y0.1 ⟨va r4.q,y0.2.1.length,r4.k⟩) 26],[bx b2 [iv rRow,iv rCol,iv rRows,iv rCols] 61],[bx b1 (A0 f ⟨fQ,fR.length,fK⟩) 26]] [1,2,3,0] 4 rfl (by decide) (by first|rfl|simp only [List.flatten_cons,List.flatten_nil,List.append_nil,List.cons_append,List.nil_append,List.append_assoc]) [[bx b9 (A0 y0.1 ⟨va r4.q,y0.2.1.length,r4.k⟩) 26],[bx b2 [iv rRow,iv rCol,iv rRows,iv rCols] 61],[bx b1 (A0 f ⟨fQ,fR.length,fK⟩) 26],vo C3 69 r15 rs16] rfl (by first|rfl|simp only [List.flatten_cons,List.flatten_nil,List.append_nil,List.cons_append,List.nil_append,List.append_assoc]))) (fun ⟨⟨r15,rs16⟩,hp19⟩=>(mc [[bx b9 (A0 y0.1 ⟨va r4.q,y0.2.1.length,r4.k⟩) 26],[bx b2 [iv rRow,iv rCol,iv rRows,iv rCols] 61],[bx b1 (A0 f ⟨fQ,fR.length,fK⟩) 26],vo C3 69 r15 rs16] [true,true,true,false] rfl (by first|rfl|(simp only [List.length_set]<;>rfl)))) (fun ⟨⟨r15,rs16⟩,hp19⟩=>(A5.pick [1,2,3,4,5,6] rfl)) fun ⟨⟨r15,rs16⟩,hp19⟩=>?_
  try dsimp only at hp19
  obtain ⟨hk17,hw18⟩:=hp19
  have:=VOk.le hk17
  have:=VOk.cap hk17
  have:=hw18.1
  have:=VOk.cap hk17
  have:=VOk.le hk17
  refine C4e [bx b9 (A0 y0.1 ⟨va r4.q,y0.2.1.length,r4.k⟩) 26,bx b2 [iv rRow,iv rCol,iv rRows,iv rCols] 61,bx b1 (A0 f ⟨fQ,fR.length,fK⟩) 26] [] (T:=69) (c:=C3) (r:=r15) (xs:=rs16) (VOk.cast hk17 (by rw [hw18.1])) (by first|rfl|simp only [List.cons_append,List.append_assoc,List.nil_append,List.append_nil]) [bx b9 (A0 y0.1 ⟨va r4.q,y0.2.1.length,r4.k⟩) 26,bx b2 [iv rRow,iv rCol,iv rRows,iv rCols] 61,bx b1 (A0 f ⟨fQ,fR.length,fK⟩) 26] rfl (mk [true,true,true] rfl) ?_
  refine zho 7 [bx b9 (A0 y0.1 ⟨va r4.q,y0.2.1.length,r4.k⟩) 26,bx b2 [iv rRow,iv rCol,iv rRows,iv rCols] 61,bx b1 (A0 f ⟨fQ,fR.length,fK⟩) 26] (zml 10 255) rfl (Det.tri (B0s (B9o y0.1 y0.2.1 y2.1 y2.2 (va r4.q) rs5 r4.k (va r15.q) rs16 r15.k hw7 (by first|omega|(simp only [List.length_take,List.length_drop,List.length_append,List.length_cons,List.length_nil,List.length_set,List.length_map];omega)|decide) (by first|omega|(simp only [List.length_take,List.length_drop,List.length_append,List.length_cons,List.length_nil,List.length_set,List.length_map];omega)|decide) hw18 (by first|omega|(simp only [List.length_take,List.length_drop,List.length_append,List.length_cons,List.length_nil,List.length_set,List.length_map];omega)|decide) (by first|omega|(simp only [List.length_take,List.length_drop,List.length_append,List.length_cons,List.length_nil,List.length_set,List.length_map];omega)|decide) _ rfl) rfl rfl rfl rfl rfl (A5.pick [2,3,0,1] rfl))) (fun _=>(mk [true,true,true] rfl)) (fun _=>(A5.pick [2,3,4,5,6,7] rfl)) fun _=>?_
  refine zhp [8,9] 0 (zml 10 1023) [(4,bv (A1b y0.1 y0.2.1 y2.1 y2.2))] ?_
  refine B0j (by kernel_rfl) ?_
  subst hR
  refine A8 ?_
  exact E5 hr hD
 ·have g14p:¬ (y0.2.2=0):=by simpa using g14
  replace hR:=bf hR g14
  refine zhp [3,4,5,6,7,8,9] 0 (zml 10 1023) [(4,bv false)] ?_
  refine B0j (by kernel_rfl) ?_
  subst hR
  refine A8 ?_
  exact E5 hr hD
end Go.Proofs.YthcjfkljekdioaaGreatDoor
