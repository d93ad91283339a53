import Derived.Test.YthcjfkljekdioaaGreatDoorProg
import Derived.Test.YthcjfkljekdioaaGreatDoorMA2
import Derived.Test.YthcjfkljekdioaaGreatDoorMB1
import Derived.Test.YthcjfkljekdioaaGreatDoorMB2
import Derived.Test.YthcjfkljekdioaaGreatDoorMB3
import Derived.Test.YthcjfkljekdioaaGreatDoorMB4
import Derived.Test.YthcjfkljekdioaaGreatDoorMB5
set_option linter.unusedVariables false
set_option linter.unusedSimpArgs false
set_option linter.unnecessarySimpa false
set_option maxRecDepth 100000
namespace Go.Proofs.YthcjfkljekdioaaGreatDoor
open Go Go.Fen
def A0b (f:FrmC) (fR:List (List Cel)) (rRow:Int) (rCol:Int) (rRows:Int) (rCols:Int):Bool :=
 (bif ((((((((decide (rRow<0))||(decide (rCol<0)))||(decide (rRows<1)))||(decide (rCols<2)))||(decide ((40:Int)<rRows)))||(decide ((80:Int)<rCols)))||(decide ((40:Int)<rRow)))||(decide ((80:Int)<rCol))) then false else ((decide ((IntKind.i64.wrap (rRow+rRows))≤(fR.length:Int)))&&(decide ((IntKind.i64.wrap (rCol+rCols))≤f.cols))))
theorem B7g {f:FrmC} {rows:List (List Cel)} {r c n m:Int} (h:A0b f rows r c n m=true):0≤r∧1≤n∧r+n≤rows.length∧0≤c∧2≤m∧c+m≤f.cols:=by
 unfold A0b at h
 cases hd:((((((((decide (r<0))||(decide (c<0)))||(decide (n<1)))||(decide (m<2)))||(decide ((40:Int)<n)))||(decide ((80:Int)<m)))||(decide ((40:Int)<r)))||(decide ((80:Int)<c))) with
 | true=>rw [hd] at h;cases h
 | false =>
  rw [hd,cond_false] at h
  simp only [Bool.or_eq_false_iff,decide_eq_false_iff_not] at hd
  rw [wr6 (by omega),wr6 (by omega)] at h
  simp only [Bool.and_eq_true,decide_eq_true_eq] at h
  omega
theorem C0h (f:FrmC) (fR:List (List Cel)) (rRow:Int) (rCol:Int) (rRows:Int) (rCols:Int) (fQ:Option Addr) (fZ:List Slc) (fK:Nat) (hrowsfRowsrs:C7 fZ fR) (hlfRows:fR.length≤9223372036854775807) (hcfRows:fR.length≤fK) (R:Bool) (hR:A0b f fR rRow rCol rRows rCols=R):K4 Tryz.prog 26 [ag (A0 f ⟨fQ,fR.length,fK⟩),ag [iv rRow,iv rCol,iv rRows,iv rCols]] [sl B8 fQ fZ,F0 A6 fZ fR] (bv R):=by
 refine zco Tryz.func26 [(0,ag (A0 f ⟨fQ,fR.length,fK⟩)),(1,ag [iv rRow,iv rCol,iv rRows,iv rCols])] fun X hX hr hD=>?_
 replace hR:=(A0b.eq_1 ..).symm.trans hR
 have:=hrowsfRowsrs.1
 refine sr 3 rfl (B2u 3 0 [] (fun b1 b2=>[(2,pt b1 0),(3,pt b2 0)]) (fun b1 b2=>[bx b2 [iv rRow,iv rCol,iv rRows,iv rCols] 61,bx b1 (A0 f ⟨fQ,fR.length,fK⟩) 26]) (fun b1 b2=>?_))
 refine ie (A2 (sr 38 rfl (zrl 4 34 [0] [(8,bv (decide (rRow<0)))] ?_)))
 refine zir 4 30 8 12 (decide (rCol<0)) (fun g3 g3p=>?_) ?_
 ·refine zrl 4 0 [0] [(12,bv (decide (rCol<0)))] ?_
  exact zai 2 8 12 g3
 refine ip' 1 29 [(13,bv ((decide (rRow<0))||(decide (rCol<0))))] ?_
 refine zio 4 25 13 17 (decide (rRows<1)) (fun g4=>?_) ?_
 ·have g4p:¬ ((rRow<0)∨(rCol<0)):=by simpa using g4
  refine zrl 4 0 [0] [(17,bv (decide (rRows<1)))] ?_
  exact zai 2 13 17 g4
 refine ip' 1 24 [(18,bv (((decide (rRow<0))||(decide (rCol<0)))||(decide (rRows<1))))] ?_
 refine zio 4 20 18 22 (decide (rCols<2)) (fun g5=>?_) ?_
 ·have g5p:¬ (((rRow<0)∨(rCol<0))∨(rRows<1)):=by simpa using g5
  refine zrl 4 0 [0] [(22,bv (decide (rCols<2)))] ?_
  exact zai 2 18 22 g5
 refine ip' 1 19 [(23,bv ((((decide (rRow<0))||(decide (rCol<0)))||(decide (rRows<1)))||(decide (rCols<2))))] ?_
 refine zio 4 15 23 27 (decide ((40:Int)<rRows)) (fun g6=>?_) ?_
 ·have g6p:¬ ((((rRow<0)∨(rCol<0))∨(rRows<1))∨(rCols<2)):=by simpa using g6
  refine zrl 4 0 [0] [(27,bv (decide ((40:Int)<rRows)))] ?_
  exact zai 2 23 27 g6
 refine ip' 1 14 [(28,bv (((((decide (rRow<0))||(decide (rCol<0)))||(decide (rRows<1)))||(decide (rCols<2)))||(decide ((40:Int)<rRows))))] ?_
 refine zio 4 10 28 32 (decide ((80:Int)<rCols)) (fun g7=>?_) ?_
 ·have g7p:¬ (((((rRow<0)∨(rCol<0))∨(rRows<1))∨(rCols<2))∨((40:Int)<rRows)):=by simpa using g7
  refine zrl 4 0 [0] [(32,bv (decide ((80:Int)<rCols)))] ?_
  exact zai 2 28 32 g7
 refine ip' 1 9 [(33,bv ((((((decide (rRow<0))||(decide (rCol<0)))||(decide (rRows<1)))||(decide (rCols<2)))||(decide ((40:Int)<rRows)))||(decide ((80:Int)<rCols))))] ?_
 refine zio 4 5 33 37 (decide ((40:Int)<rRow)) (fun g8=>?_) ?_
 ·have g8p:¬ ((((((rRow<0)∨(rCol<0))∨(rRows<1))∨(rCols<2))∨((40:Int)<rRows))∨((80:Int)<rCols)):=by simpa using g8
  refine zrl 4 0 [0] [(37,bv (decide ((40:Int)<rRow)))] ?_
  exact zai 2 33 37 g8
 refine ip' 1 4 [(38,bv (((((((decide (rRow<0))||(decide (rCol<0)))||(decide (rRows<1)))||(decide (rCols<2)))||(decide ((40:Int)<rRows)))||(decide ((80:Int)<rCols)))||(decide ((40:Int)<rRow))))] ?_
 refine zio 4 0 38 42 (decide ((80:Int)<rCol)) (fun g9=>?_) ?_
 ·have g9p:¬ (((((((rRow<0)∨(rCol<0))∨(rRows<1))∨(rCols<2))∨((40:Int)<rRows))∨((80:Int)<rCols))∨((40:Int)<rRow)):=by simpa using g9
  refine zrl 4 0 [0] [(42,bv (decide ((80:Int)<rCol)))] ?_
  exact zai 2 38 42 g9
 refine ie ?_
 refine zjb rfl hR ?_ ?_<;>clear hR<;>intro hR h10
 ·have h10p:(((((((rRow<0)∨(rCol<0))∨(rRows<1))∨(rCols<2))∨((40:Int)<rRows))∨((80:Int)<rCols))∨((40:Int)<rRow))∨((80:Int)<rCol):=by simpa using h10
  refine sr 1 rfl (ip' 1 0 [(4,bv false)] ?_)
  subst hR
  refine ie (A9 ?_)
  exact E7 hr hD
 have h10p:¬ ((((((((rRow<0)∨(rCol<0))∨(rRows<1))∨(rCols<2))∨((40:Int)<rRows))∨((80:Int)<rCols))∨((40:Int)<rRow))∨((80:Int)<rCol)):=by simpa using h10
 refine A4 (nx (sr 20 rfl (zrl 4 16 [0,0] [(44,iv rRow),(46,iv rRows)] ?_)))
 refine ix rfl (H9.pure rfl) ?_
 refine zrl 5 10 [1] [(52,bv (decide ((IntKind.i64.wrap (rRow+rRows))≤(fR.length:Int))))] ?_
 refine zid 9 1 52 61 (decide ((IntKind.i64.wrap (rCol+rCols))≤f.cols)) (fun g11 g11p=>?_) ?_
 ·refine zrl 4 5 [0,0] [(54,iv rCol),(56,iv rCols)] ?_
  refine ix rfl (H9.pure rfl) ?_
  refine zrl 4 0 [1] [(61,bv (decide ((IntKind.i64.wrap (rCol+rCols))≤f.cols)))] ?_
  exact zai 5 52 61 g11
 refine ip' 1 0 [(4,bv ((decide ((IntKind.i64.wrap (rRow+rRows))≤(fR.length:Int)))&&(decide ((IntKind.i64.wrap (rCol+rCols))≤f.cols))))] ?_
 subst hR
 refine ie (A9 ?_)
 exact E7 hr hD
def P2 (l:List Cel):List Cel→List Cel→Nat→List Cel
 | [],out,i=>out
 | hd_l0::tl_l0,out,i=>(bif (((!decide (hd_l0.wide=0))&&(!(((decide (((i:Int)+1)<(l.length:Int)))&&(decide (hd_l0.wide=1)))&&(decide ((l.getD (i+1) Cel.zero).wide=2)))))&&(!(((decide ((0:Int)<(i:Int)))&&(decide (hd_l0.wide=2)))&&(decide ((l.getD (i - 1) Cel.zero).wide=1))))) then P2 l tl_l0 (out++([{Cel.zero with base:=32,sty:=hd_l0.sty}]:List Cel)) (i+1) else P2 l tl_l0 (out++([hd_l0]:List Cel)) (i+1))
def A3j (l:List Cel):List Cel :=
 P2 l l ([]:List Cel) 0
theorem B7j (l:List Cel) (lq:Option Addr) (lk:Nat) (hll:l.length≤9223372036854775807) (hcl:l.length≤lk) (hlw:l.length≤100) (R:List Cel) (hR:A3j l=R):Con Tryz.prog 61 [.slice lq l.length lk] [] [sl A6 lq l] ({r:VR // VOk 12 R.length r}) (fun x=>.slice (va x.1.q) R.length x.1.k) (fun x=>((vo A6 72 x.1 R)++([]))) (fun x=>[]):=by
 refine zco Tryz.func61 [(0,.slice lq l.length lk)] fun X hX hr hD=>?_
 replace hR:=(A3j.eq_1 ..).symm.trans hR
 refine sr 1 rfl (ip' 1 0 [] ?_)
 refine ie (sr 1 rfl (ip' 1 0 [(3,.slice none 0 0)] ?_))
 refine ie (A2 (sr 1 rfl (ip' 1 0 [(4,iv 0)] ?_)))
 refine ie (B0 ?_)
 refine D0f (fun (out:List Cel) (outr:VR) (i:Nat)=>(i≤l.length∧P2 l (l.drop i) out i=R∧VOk 12 out.length outr∧out.length=i,[(0,.slice lq l.length lk),(3,.slice (va outr.q) out.length outr.k),(4,iv (i:Int))],((vo A6 72 outr out)++([])),[sl A6 lq l],l.length - i)) ([]:List Cel) VR.nil 0 ⟨(by omega),hR,VOk.nil,(by rfl)⟩ (mc [vo A6 72 VR.nil ([]:List Cel)] [true] rfl (by first|rfl|(simp only [List.length_set]<;>rfl))) A5.refl ?_
 rintro out outr i ⟨hm1,hR,hokoutr,hol⟩
 have:=VOk.le hokoutr
 refine A2 (sr 4 rfl (ip' 4 0 [(11,bv (decide ((i:Int)<(l.length:Int))))] ?_))
 refine ie (U1 rfl (fun h2=>?_) (fun h2=>?_))
 ·have h2p:(i:Int)<(l.length:Int):=by simpa using h2
  rw [U5 Cel.zero (show i<l.length by omega)] at hR;replace hR:=(P2.eq_2 ..).symm.trans hR
  refine A4 (nx (A2 (B0 (sr 6 rfl (ip' 2 4 [(14,.slice lq l.length lk),(15,iv (i:Int))] ?_)))))
  refine J3 0 rfl (by omega) fun a3 hq4=>?_
  refine ix rfl (E4 O5 rfl rfl hq4 rfl i rfl (by omega)) ?_
  refine ix rfl (L6 (us:=A6 (l.getD i Cel.zero)) B1g rfl rfl (F8 (c:=A6) (sz:=12) hq4 (fun _=>rfl) 0 rfl (gd Cel.zero (by omega))) rfl) ?_
  refine K1 2 0 [0] (fun b5=>[(5,pt b5 0)]) (fun b5=>(bx b5 (A6 (l.getD i Cel.zero)) 72::(vo A6 72 outr out)++([]))) (fun b5=>?_)
  refine ie (sr 20 rfl (ip' 1 19 [(18,iv (i:Int))] ?_))
  refine ix rfl (B2 rfl rfl rfl rfl (by omega)) ?_
  refine ip' 4 14 [(23,bv (decide (((i:Int)+1)<(l.length:Int))))] ?_
  refine zid 4 10 23 27 (decide ((l.getD i Cel.zero).wide=1)) (fun g6 g6p=>?_) ?_
  ·refine zrl 4 0 [0] [(27,bv (decide ((l.getD i Cel.zero).wide=1)))] ?_
   exact A1 (H7 2 23 27 g6 A5.refl (mc [[bx b5 (A6 (l.getD i Cel.zero)) 72],vo A6 72 outr out] [true,true] rfl (by first|rfl|(simp only [List.length_set]<;>rfl))) rfl rfl rfl rfl rfl)
  refine ip' 1 9 [(28,bv ((decide (((i:Int)+1)<(l.length:Int)))&&(decide ((l.getD i Cel.zero).wide=1))))] ?_
  refine zia 8 1 28 36 (decide ((l.getD (i+1) Cel.zero).wide=2)) (fun g7=>?_) ?_
  ·have g7p:(((i:Int)+1)<(l.length:Int))∧((l.getD i Cel.zero).wide=1):=by simpa using g7
   refine ip' 2 6 [(29,.slice lq l.length lk),(30,iv (i:Int))] ?_
   refine ix rfl (B2 rfl rfl rfl rfl (by omega)) ?_
   refine ix rfl (E4 O5 rfl rfl hq4 rfl (i+1) (by omega) (by omega)) ?_
   refine ip' 1 3 [(33,pa ((Addr.add a3 ((i+1) * 12)).add 3))] ?_
   refine ix rfl (C6 (v:=iv ((l.getD (i+1) Cel.zero).wide)) (us:=[iv ((l.getD (i+1) Cel.zero).wide)]) ty3 rfl rfl (A0y (F8 (c:=A6) (sz:=12) hq4 (fun _=>rfl) 0 rfl (gd Cel.zero (by omega))) (ws:=[iv ((l.getD (i+1) Cel.zero).wide)]) 3 1 rfl) rfl) ?_
   refine ip' 2 0 [(36,bv (decide ((l.getD (i+1) Cel.zero).wide=2)))] ?_
   exact A1 (H7 8 28 36 g7 A5.refl (mc [[bx b5 (A6 (l.getD i Cel.zero)) 72],vo A6 72 outr out] [true,true] rfl (by first|rfl|(simp only [List.length_set]<;>rfl))) rfl rfl rfl rfl rfl)
  refine ip' 1 0 [(6,bv (((decide (((i:Int)+1)<(l.length:Int)))&&(decide ((l.getD i Cel.zero).wide=1)))&&(decide ((l.getD (i+1) Cel.zero).wide=2))))] ?_
  refine ie (sr 17 rfl (ip' 3 14 [(39,bv (decide ((0:Int)<(i:Int))))] ?_))
  refine zid 4 10 39 43 (decide ((l.getD i Cel.zero).wide=2)) (fun g8 g8p=>?_) ?_
  ·refine zrl 4 0 [0] [(43,bv (decide ((l.getD i Cel.zero).wide=2)))] ?_
   exact A1 (H7 2 39 43 g8 A5.refl (mc [[bx b5 (A6 (l.getD i Cel.zero)) 72],vo A6 72 outr out] [true,true] rfl (by first|rfl|(simp only [List.length_set]<;>rfl))) rfl rfl rfl rfl rfl)
  refine ip' 1 9 [(44,bv ((decide ((0:Int)<(i:Int)))&&(decide ((l.getD i Cel.zero).wide=2))))] ?_
  refine zia 8 1 44 52 (decide ((l.getD (i - 1) Cel.zero).wide=1)) (fun g9=>?_) ?_
  ·have g9p:((0:Int)<(i:Int))∧((l.getD i Cel.zero).wide=2):=by simpa using g9
   refine ip' 2 6 [(45,.slice lq l.length lk),(46,iv (i:Int))] ?_
   refine ix rfl (O8 rfl rfl rfl rfl (by omega)) ?_
   refine ix rfl (E4 O5 rfl rfl hq4 rfl (i - 1) (by omega) (by omega)) ?_
   refine ip' 1 3 [(49,pa ((Addr.add a3 ((i - 1) * 12)).add 3))] ?_
   refine ix rfl (C6 (v:=iv ((l.getD (i - 1) Cel.zero).wide)) (us:=[iv ((l.getD (i - 1) Cel.zero).wide)]) ty3 rfl rfl (A0y (F8 (c:=A6) (sz:=12) hq4 (fun _=>rfl) 0 rfl (gd Cel.zero (by omega))) (ws:=[iv ((l.getD (i - 1) Cel.zero).wide)]) 3 1 rfl) rfl) ?_
   refine ip' 2 0 [(52,bv (decide ((l.getD (i - 1) Cel.zero).wide=1)))] ?_
   exact A1 (H7 8 44 52 g9 A5.refl (mc [[bx b5 (A6 (l.getD i Cel.zero)) 72],vo A6 72 outr out] [true,true] rfl (by first|rfl|(simp only [List.length_set]<;>rfl))) rfl rfl rfl rfl rfl)
  refine ip' 1 0 [(7,bv (((decide ((0:Int)<(i:Int)))&&(decide ((l.getD i Cel.zero).wide=2)))&&(decide ((l.getD (i - 1) Cel.zero).wide=1))))] ?_
  refine ie (A2 (sr 11 rfl (zrl 4 7 [0] [(56,bv (!decide ((l.getD i Cel.zero).wide=0)))] ?_)))
  refine zia 3 4 56 59 (!(((decide (((i:Int)+1)<(l.length:Int)))&&(decide ((l.getD i Cel.zero).wide=1)))&&(decide ((l.getD (i+1) Cel.zero).wide=2)))) (fun g10=>?_) ?_
  ·have g10p:¬ (l.getD i Cel.zero).wide=0:=by simpa using g10
   refine ip' 3 0 [(59,bv (!(((decide (((i:Int)+1)<(l.length:Int)))&&(decide ((l.getD i Cel.zero).wide=1)))&&(decide ((l.getD (i+1) Cel.zero).wide=2)))))] ?_
   exact A1 (H7 2 56 59 g10 A5.refl (mc [[bx b5 (A6 (l.getD i Cel.zero)) 72],vo A6 72 outr out] [true,true] rfl (by first|rfl|(simp only [List.length_set]<;>rfl))) rfl rfl rfl rfl rfl)
  refine ip' 1 3 [(60,bv ((!decide ((l.getD i Cel.zero).wide=0))&&(!(((decide (((i:Int)+1)<(l.length:Int)))&&(decide ((l.getD i Cel.zero).wide=1)))&&(decide ((l.getD (i+1) Cel.zero).wide=2))))))] ?_
  refine zia 3 0 60 63 (!(((decide ((0:Int)<(i:Int)))&&(decide ((l.getD i Cel.zero).wide=2)))&&(decide ((l.getD (i - 1) Cel.zero).wide=1)))) (fun g11=>?_) ?_
  ·have g11p:(¬ (l.getD i Cel.zero).wide=0)∧(¬ (((((i:Int)+1)<(l.length:Int))∧((l.getD i Cel.zero).wide=1))∧((l.getD (i+1) Cel.zero).wide=2))):=by first|simpa using g11|(simp at g11 ⊢;omega)
   refine ip' 3 0 [(63,bv (!(((decide ((0:Int)<(i:Int)))&&(decide ((l.getD i Cel.zero).wide=2)))&&(decide ((l.getD (i - 1) Cel.zero).wide=1)))))] ?_
   exact A1 (H7 2 60 63 g11 A5.refl (mc [[bx b5 (A6 (l.getD i Cel.zero)) 72],vo A6 72 outr out] [true,true] rfl (by first|rfl|(simp only [List.length_set]<;>rfl))) rfl rfl rfl rfl rfl)
  refine ie ?_
  refine zjb rfl hR ?_ ?_<;>clear hR<;>intro hR h12
  ·have h12p:((¬ (l.getD i Cel.zero).wide=0)∧(¬ (((((i:Int)+1)<(l.length:Int))∧((l.getD i Cel.zero).wide=1))∧((l.getD (i+1) Cel.zero).wide=2))))∧(¬ ((((0:Int)<(i:Int))∧((l.getD i Cel.zero).wide=2))∧((l.getD (i - 1) Cel.zero).wide=1))):=by first|simpa using h12|(simp at h12 ⊢;omega)
   refine A3 4 rfl (zrg 4 0 [0,0] [] (bx b5 (A6 ({Cel.zero with base:=32,sty:=(l.getD i Cel.zero).sty})) 72::(vo A6 72 outr out)++([])) ?_)
   refine A1 (nx (A3 5 rfl (zrl 2 3 [0] [(67,.slice (va outr.q) out.length outr.k),(68,ag (A6 ({Cel.zero with base:=32,sty:=(l.getD i Cel.zero).sty})))] ?_)))
   refine it rfl (D4 (c:=A6) (xs:=([{Cel.zero with base:=32,sty:=(l.getD i Cel.zero).sty}]:List Cel)) O5 rfl rfl rfl (by kernel_rfl)) fun b13=>?_
   have:([{Cel.zero with base:=32,sty:=(l.getD i Cel.zero).sty}]:List Cel).length=1:=rfl
   refine it rfl (A1v (f:=A6) (r:=outr) (xs:=out) (ys:=([{Cel.zero with base:=32,sty:=(l.getD i Cel.zero).sty}]:List Cel)) (pre:=[bx b5 (A6 ({Cel.zero with base:=32,sty:=(l.getD i Cel.zero).sty})) 72]) (post:=[]) B3n (fun _=>rfl) (fun _=>rfl) rfl rfl rfl rfl rfl rfl rfl rfl rfl (B7 0 rfl) hokoutr (by first|omega|(simp only [List.length_cons,List.length_nil,List.length_append,List.length_take,List.length_drop];omega)) (by first|omega|(simp only [List.length_cons,List.length_nil,List.length_append,List.length_take,List.length_drop];omega))) fun ⟨r14,hr15⟩=>?_
   have:=VOk.le hr15
   have:=VOk.cap hr15
   refine ip' 1 0 [(3,.slice (va r14.q) ((out++([{Cel.zero with base:=32,sty:=(l.getD i Cel.zero).sty}]:List Cel)).length) r14.k)] ?_
   refine A1 (nx (A3 3 rfl (ip' 1 2 [(12,iv (i:Int))] ?_)))
   refine ix rfl (B2 rfl rfl rfl rfl (by omega)) ?_
   refine ip' 1 0 [(4,iv ((i:Int)+1))] ?_
   refine A1 ?_
   exact C6o (z1:=out) (z2:=outr) (z3:=i) (out++([{Cel.zero with base:=32,sty:=(l.getD i Cel.zero).sty}]:List Cel)) r14 (i+1) ⟨(by omega),hR,hr15,(by (simp only [List.length_append,List.length_cons,List.length_nil];omega))⟩ (by (try dsimp only);omega) (mc [[bx b5 (A6 ({Cel.zero with base:=32,sty:=(l.getD i Cel.zero).sty})) 72],vo A6 72 r14 (out++([{Cel.zero with base:=32,sty:=(l.getD i Cel.zero).sty}]:List Cel))] [false,true] rfl (by first|rfl|(simp only [List.length_set]<;>rfl))) (A5.pick [1] rfl)
  have h12p:¬ (((¬ (l.getD i Cel.zero).wide=0)∧(¬ (((((i:Int)+1)<(l.length:Int))∧((l.getD i Cel.zero).wide=1))∧((l.getD (i+1) Cel.zero).wide=2))))∧(¬ ((((0:Int)<(i:Int))∧((l.getD i Cel.zero).wide=2))∧((l.getD (i - 1) Cel.zero).wide=1)))):=by first|simpa using h12|(simp at h12 ⊢;omega)
  refine A4 (nx (A3 5 rfl (zrl 2 3 [0] [(67,.slice (va outr.q) out.length outr.k),(68,ag (A6 (l.getD i Cel.zero)))] ?_)))
  refine it rfl (D4 (c:=A6) (xs:=([(l.getD i Cel.zero)]:List Cel)) O5 rfl rfl rfl (by kernel_rfl)) fun b16=>?_
  have:([(l.getD i Cel.zero)]:List Cel).length=1:=rfl
  refine it rfl (A1v (f:=A6) (r:=outr) (xs:=out) (ys:=([(l.getD i Cel.zero)]:List Cel)) (pre:=[bx b5 (A6 (l.getD i Cel.zero)) 72]) (post:=[]) B3n (fun _=>rfl) (fun _=>rfl) rfl rfl rfl rfl rfl rfl rfl rfl rfl (B7 0 rfl) hokoutr (by first|omega|(simp only [List.length_cons,List.length_nil,List.length_append,List.length_take,List.length_drop];omega)) (by first|omega|(simp only [List.length_cons,List.length_nil,List.length_append,List.length_take,List.length_drop];omega))) fun ⟨r17,hr18⟩=>?_
  have:=VOk.le hr18
  have:=VOk.cap hr18
  refine ip' 1 0 [(3,.slice (va r17.q) ((out++([(l.getD i Cel.zero)]:List Cel)).length) r17.k)] ?_
  refine A1 (nx (A3 3 rfl (ip' 1 2 [(12,iv (i:Int))] ?_)))
  refine ix rfl (B2 rfl rfl rfl rfl (by omega)) ?_
  refine ip' 1 0 [(4,iv ((i:Int)+1))] ?_
  refine A1 ?_
  exact C6o (z1:=out) (z2:=outr) (z3:=i) (out++([(l.getD i Cel.zero)]:List Cel)) r17 (i+1) ⟨(by omega),hR,hr18,(by (simp only [List.length_append,List.length_cons,List.length_nil];omega))⟩ (by (try dsimp only);omega) (mc [[bx b5 (A6 (l.getD i Cel.zero)) 72],vo A6 72 r17 (out++([(l.getD i Cel.zero)]:List Cel))] [false,true] rfl (by first|rfl|(simp only [List.length_set]<;>rfl))) (A5.pick [1] rfl)
 have h2p:¬ ((i:Int)<(l.length:Int)):=by simpa using h2
 rw [U6 h2p] at hR;replace hR:=(P2.eq_1 ..).symm.trans hR
 refine F9 (nx (sr 2 rfl (ip' 2 0 [(2,.slice (va outr.q) out.length outr.k)] ?_)))
 subst hR
 refine ie (A9 ?_)
 exact zer hr hD (U2 rfl (B3 rfl)) ⟨outr,hokoutr⟩ (mc [vo A6 72 outr out] [true] rfl (by first|rfl|(simp only [List.length_set]<;>rfl))) fn0
end Go.Proofs.YthcjfkljekdioaaGreatDoor
set_option linter.unusedVariables false
set_option linter.unusedSimpArgs false
set_option linter.unnecessarySimpa false
set_option maxRecDepth 100000
namespace Go.Proofs.YthcjfkljekdioaaGreatDoor
open Go Go.Fen
theorem D5p:Ty Tryz.prog 24 2 true:=⟨by kernel_rfl⟩
def Y4 (f:FrmC) (fR:List (List Cel)) (g:FrmC) (gRows:List (List Cel)) (at_:Plc) (i:Nat) (hRows:List (List Cel)) (ag_ref23_Put_l3:Nat→List (List Cel)→(FrmC×List (List Cel))):Nat→List Cel→Nat→(FrmC×List (List Cel))
 | 0,_,_=>(FrmC.zero,[])
 | fu1+1,l,k=>(bif (decide ((k:Int)<f.cols)) then (bif ((((decide (at_.row≤(i:Int)))&&(decide ((i:Int)<(IntKind.i64.wrap (at_.row+(gRows.length:Int))))))&&(decide (at_.col≤(k:Int))))&&(decide ((k:Int)<(IntKind.i64.wrap (at_.col+g.cols))))) then Y4 f fR g gRows at_ i hRows ag_ref23_Put_l3 fu1 (l++([((gRows.getD ((IntKind.i64.wrap ((i:Int) - at_.row)).toNat) []).getD ((IntKind.i64.wrap ((k:Int) - at_.col)).toNat) Cel.zero)]:List Cel)) (k+1) else Y4 f fR g gRows at_ i hRows ag_ref23_Put_l3 fu1 (l++([((fR.getD i []).getD k Cel.zero)]:List Cel)) (k+1)) else (E8 (A3j l) fun (y1:List Cel)=>ag_ref23_Put_l3 (i+1) (hRows++([y1]:List (List Cel)))))
def S2 (f:FrmC) (fR:List (List Cel)) (g:FrmC) (gRows:List (List Cel)) (at_:Plc):List (List Cel)→Nat→List (List Cel)→(FrmC×List (List Cel))
 | [],i,hRows=>(f,hRows)
 | hd_l3::tl_l3,i,hRows=>Y4 f fR g gRows at_ i hRows (S2 f fR g gRows at_ tl_l3) ((f.cols - (0:Int)).toNat+1) ([]:List Cel) 0
def A6n (f:FrmC) (fR:List (List Cel)) (g:FrmC) (gRows:List (List Cel)) (at_:Plc):FrmC×List (List Cel) :=
 S2 f fR g gRows at_ fR 0 ([]:List (List Cel))
theorem C1f (f:FrmC) (fR:List (List Cel)) (g:FrmC) (gRows:List (List Cel)) (at_:Plc) (fQ:Option Addr) (fZ:List Slc) (fK:Nat) (gRowsq:Option Addr) (gRowsrs:List Slc) (gRowsk:Nat) (hrowsfRowsrs:C7 fZ fR) (hlfRows:fR.length≤9223372036854775807) (hcfRows:fR.length≤fK) (hrowsgRowsrs:C7 gRowsrs gRows) (hlgRows:gRows.length≤9223372036854775807) (hcgRows:gRows.length≤gRowsk) (hq:C3t 0 at_ g gRows f fR) (R:FrmC×List (List Cel)) (hR:A6n f fR g gRows at_=R):Con Tryz.prog 29 [ag (A0 f ⟨fQ,fR.length,fK⟩),ag (A0 g ⟨gRowsq,gRows.length,gRowsk⟩),ag (D9 at_)] [] [sl B8 fQ fZ,F0 A6 fZ fR,sl B8 gRowsq gRowsrs,F0 A6 gRowsrs gRows] ({t:VR×List Slc // VOk 1 R.2.length t.1∧C7 t.2 R.2}) (fun x=>ag (A0 R.1 ⟨va x.1.1.q,R.2.length,x.1.1.k⟩)) (fun x=>((vo B8 69 x.1.1 x.1.2)++([]))) (fun x=>[F0 A6 x.1.2 R.2]):=by
 refine zco Tryz.func29 [(0,ag (A0 f ⟨fQ,fR.length,fK⟩)),(1,ag (A0 g ⟨gRowsq,gRows.length,gRowsk⟩)),(2,ag (D9 at_))] fun X hX hr hD=>?_
 replace hR:=(A6n.eq_1 ..).symm.trans hR
 have:=hrowsfRowsrs.1
 have:=hrowsgRowsrs.1
 obtain ⟨⟨hq1,hq2,hq3⟩,⟨hg1,hg2,hg3⟩,hq4,hq5,hq6,hq7,hq8,hq9,hq10⟩:=hq
 have hw1:IntKind.i64.wrap (at_.row+(gRows.length:Int))=at_.row+gRows.length:=wr6 (by omega)
 have hw2:IntKind.i64.wrap (at_.col+g.cols)=at_.col+g.cols:=wr6 (by omega)
 refine sr 4 rfl (C7u 3 1 [] (fun b1 b2 b3=>[(3,pt b1 0),(4,pt b2 0),(5,pt b3 0)]) (fun b1 b2 b3=>[bx b3 (D9 at_) 24,bx b2 (A0 g ⟨gRowsq,gRows.length,gRowsk⟩) 26,bx b1 (A0 f ⟨fQ,fR.length,fK⟩) 26]) (fun b1 b2 b3=>?_))
 refine K1 1 0 [] (fun b4=>[(6,pt b4 0)]) (fun b4=>[bx b4 (A0 FrmC.zero ⟨none,0,0⟩) 26,bx b3 (D9 at_) 24,bx b2 (A0 g ⟨gRowsq,gRows.length,gRowsk⟩) 26,bx b1 (A0 f ⟨fQ,fR.length,fK⟩) 26]) (fun b4=>?_)
 refine ie (sr 3 rfl (K1 3 0 [3,0] (fun b5=>[(7,pt b5 0)]) (fun b5=>[bx b5 (A0 f ⟨fQ,fR.length,fK⟩) 26,bx b4 (A0 FrmC.zero ⟨none,0,0⟩) 26,bx b3 (D9 at_) 24,bx b2 (A0 g ⟨gRowsq,gRows.length,gRowsk⟩) 26,bx b1 (A0 f ⟨fQ,fR.length,fK⟩) 26]) (fun b5=>?_)))
 refine ie (sr 2 rfl (zrg 2 0 [0] [] [bx b5 (A0 f ⟨none,0,0⟩) 26,bx b4 (A0 FrmC.zero ⟨none,0,0⟩) 26,bx b3 (D9 at_) 24,bx b2 (A0 g ⟨gRowsq,gRows.length,gRowsk⟩) 26,bx b1 (A0 f ⟨fQ,fR.length,fK⟩) 26] ?_))
 refine ie (A2 (sr 1 rfl (ip' 1 0 [(8,iv 0)] ?_)))
 refine ie (B0 (A0h (H3 [vo B8 69 VR.nil ([]:List Slc),[bx b5 (A0 f ⟨none,0,0⟩) 26],[bx b4 (A0 FrmC.zero ⟨none,0,0⟩) 26],[bx b3 (D9 at_) 24],[bx b2 (A0 g ⟨gRowsq,gRows.length,gRowsk⟩) 26],[bx b1 (A0 f ⟨fQ,fR.length,fK⟩) 26]] [1,2,3,4,5,0] 6 rfl (by decide) rfl [[bx b5 (A0 f ⟨none,0,0⟩) 26],[bx b4 (A0 FrmC.zero ⟨none,0,0⟩) 26],[bx b3 (D9 at_) 24],[bx b2 (A0 g ⟨gRowsq,gRows.length,gRowsk⟩) 26],[bx b1 (A0 f ⟨fQ,fR.length,fK⟩) 26],vo B8 69 VR.nil ([]:List Slc)] rfl (by first|rfl|simp)) ?_))
 refine B2j (fun (i:Nat) (hRows:List (List Cel)) (hRowsr:VR) (hRowsrs:List Slc)=>(i≤fR.length∧S2 f fR g gRows at_ (fR.drop i) i hRows=R∧VOk 1 hRows.length hRowsr∧C7 hRowsrs hRows∧hRows.length=i,[(3,pt b1 0),(4,pt b2 0),(5,pt b3 0),(6,pt b4 0),(7,pt b5 0),(8,iv (i:Int))],(bx b5 (A0 f ⟨va hRowsr.q,hRows.length,hRowsr.k⟩) 26::bx b4 (A0 FrmC.zero ⟨none,0,0⟩) 26::bx b3 (D9 at_) 24::bx b2 (A0 g ⟨gRowsq,gRows.length,gRowsk⟩) 26::bx b1 (A0 f ⟨fQ,fR.length,fK⟩) 26::(vo B8 69 hRowsr hRowsrs)++([])),[sl B8 fQ fZ,F0 A6 fZ fR,sl B8 gRowsq gRowsrs,F0 A6 gRowsrs gRows,F0 A6 hRowsrs hRows],fR.length - i)) 0 ([]:List (List Cel)) VR.nil ([]:List Slc) ⟨(by omega),hR,VOk.nil,C7.none,(by rfl)⟩ (mc [[bx b5 (A0 f ⟨none,0,0⟩) 26],[bx b4 (A0 FrmC.zero ⟨none,0,0⟩) 26],[bx b3 (D9 at_) 24],[bx b2 (A0 g ⟨gRowsq,gRows.length,gRowsk⟩) 26],[bx b1 (A0 f ⟨fQ,fR.length,fK⟩) 26],vo B8 69 VR.nil ([]:List Slc)] [true,true,true,true,true,true] rfl (by first|rfl|(simp only [List.length_set]<;>rfl))) (A5.con1 (B7 0 rfl) (A5.con1 (B7 1 rfl) (A5.con1 (B7 2 rfl) (A5.con1 (B7 3 rfl) (A5.con1 R0 fn0))))) ?_
 rintro i hRows hRowsr hRowsrs ⟨hm6,hR,hokhRowsr,hrowshRowsrs,hhl⟩
 have:=VOk.le hokhRowsr
 have:=hrowshRowsrs.1
 refine A2 (sr 5 rfl (zrl 5 0 [4] [(18,bv (decide ((i:Int)<(fR.length:Int))))] ?_))
 refine ie (U1 rfl (fun h7=>?_) (fun h7=>?_))
 ·have h7p:(i:Int)<(fR.length:Int):=by simpa using h7
  rw [U5 [] (show i<fR.length by omega)] at hR;replace hR:=(S2.eq_2 ..).symm.trans hR
  have hqr:=hq3 i (by omega)
  refine A4 (nx (A2 (B0 (sr 1 rfl (ip' 1 0 [(9,.slice none 0 0)] ?_)))))
  refine ie (A2 (sr 1 rfl (ip' 1 0 [(10,iv 0)] ?_)))
  refine ie (B0 (A0h (H3 [vo A6 72 VR.nil ([]:List Cel),[bx b5 (A0 f ⟨va hRowsr.q,hRows.length,hRowsr.k⟩) 26],[bx b4 (A0 FrmC.zero ⟨none,0,0⟩) 26],[bx b3 (D9 at_) 24],[bx b2 (A0 g ⟨gRowsq,gRows.length,gRowsk⟩) 26],[bx b1 (A0 f ⟨fQ,fR.length,fK⟩) 26],vo B8 69 hRowsr hRowsrs] [1,2,3,4,5,6,0] 7 rfl (by decide) rfl [[bx b5 (A0 f ⟨va hRowsr.q,hRows.length,hRowsr.k⟩) 26],[bx b4 (A0 FrmC.zero ⟨none,0,0⟩) 26],[bx b3 (D9 at_) 24],[bx b2 (A0 g ⟨gRowsq,gRows.length,gRowsk⟩) 26],[bx b1 (A0 f ⟨fQ,fR.length,fK⟩) 26],vo B8 69 hRowsr hRowsrs,vo A6 72 VR.nil ([]:List Cel)] rfl (by first|rfl|simp)) ?_))
  refine B2j (fun (fu:Nat) (l:List Cel) (lr:VR) (k:Nat)=>((f.cols - (k:Int)).toNat<fu∧Y4 f fR g gRows at_ i hRows (S2 f fR g gRows at_ (fR.drop (i+1))) fu l k=R∧VOk 12 l.length lr∧l.length=k∧(k:Int)≤f.cols,[(3,pt b1 0),(4,pt b2 0),(5,pt b3 0),(6,pt b4 0),(7,pt b5 0),(8,iv (i:Int)),(9,.slice (va lr.q) l.length lr.k),(10,iv (k:Int))],(bx b5 (A0 f ⟨va hRowsr.q,hRows.length,hRowsr.k⟩) 26::bx b4 (A0 FrmC.zero ⟨none,0,0⟩) 26::bx b3 (D9 at_) 24::bx b2 (A0 g ⟨gRowsq,gRows.length,gRowsk⟩) 26::bx b1 (A0 f ⟨fQ,fR.length,fK⟩) 26::(vo B8 69 hRowsr hRowsrs)++((vo A6 72 lr l)++([]))),[sl B8 fQ fZ,F0 A6 fZ fR,sl B8 gRowsq gRowsrs,F0 A6 gRowsrs gRows,F0 A6 hRowsrs hRows],fu)) ((f.cols - (0:Int)).toNat+1) ([]:List Cel) VR.nil 0 ⟨(Nat.lt_succ_self _),hR,VOk.nil,(by exact ⟨rfl,by omega⟩)⟩ (mc [[bx b5 (A0 f ⟨va hRowsr.q,hRows.length,hRowsr.k⟩) 26],[bx b4 (A0 FrmC.zero ⟨none,0,0⟩) 26],[bx b3 (D9 at_) 24],[bx b2 (A0 g ⟨gRowsq,gRows.length,gRowsk⟩) 26],[bx b1 (A0 f ⟨fQ,fR.length,fK⟩) 26],vo B8 69 hRowsr hRowsrs,vo A6 72 VR.nil ([]:List Cel)] [true,true,true,true,true,true,true] rfl (by first|rfl|(simp only [List.length_set]<;>rfl))) A5.refl ?_
  rintro fu l lr k ⟨hm8,hR,hoklr,hlk⟩
  have:=VOk.le hoklr
  obtain ⟨fu1,rfl⟩:∃ m,fu=m+1:=⟨fu - 1,by omega⟩
  replace hR:=(Y4.eq_2 ..).symm.trans hR
  refine A2 (sr 4 rfl (zrl 4 0 [4] [(24,bv (decide ((k:Int)<f.cols)))] ?_))
  refine ie ?_
  refine zjd rfl hR ?_ ?_<;>clear hR<;>intro hR h9 h9p
  ·refine A4 (nx (A2 (B0 (sr 10 rfl (zrl 3 7 [4] [(28,.slice fQ fR.length fK),(29,iv (i:Int))] ?_)))))
   refine J3 0 rfl (by have:=hrowsfRowsrs.1;omega) fun a10 hq11=>?_
   refine I6 (M8 (k:=i) (d:=(⟨none,0,0⟩:Slc)) hrowsfRowsrs 1 rfl (by have:=hrowsfRowsrs.1;omega)) ?_
   have:=M9 hrowsfRowsrs (k:=i) (d:=(⟨none,0,0⟩:Slc)) (by have:=hrowsfRowsrs.1;omega)
   refine ix rfl (E4 X0 rfl rfl hq11 rfl i rfl (by omega)) ?_
   refine ix rfl (G8 (C6 (v:=.slice ((fZ.getD i (⟨none,0,0⟩:Slc)).q) ((fZ.getD i (⟨none,0,0⟩:Slc)).n) ((fZ.getD i (⟨none,0,0⟩:Slc)).k)) (us:=[.slice ((fZ.getD i (⟨none,0,0⟩:Slc)).q) ((fZ.getD i (⟨none,0,0⟩:Slc)).n) ((fZ.getD i (⟨none,0,0⟩:Slc)).k)]) A3i rfl rfl (F8 (c:=B8) (sz:=1) hq11 (fun _=>rfl) 1 rfl (gd (⟨none,0,0⟩:Slc) (by have:=hrowsfRowsrs.1;omega))) rfl) (N0 hrowsfRowsrs (by have:=hrowsfRowsrs.1;omega))) ?_
   refine ip' 1 4 [(32,iv (k:Int))] ?_
   refine J3 0 rfl (by omega) fun a12 hq13=>?_
   refine ix rfl (E4 O5 rfl rfl hq13 rfl k rfl (by omega)) ?_
   refine ix rfl (L6 (us:=A6 ((fR.getD i []).getD k Cel.zero)) B1g rfl rfl (F8 (c:=A6) (sz:=12) hq13 (fun _=>rfl) 0 rfl (gd Cel.zero (by omega))) rfl) ?_
   refine K1 2 0 [0] (fun b14=>[(11,pt b14 0)]) (fun b14=>(bx b14 (A6 ((fR.getD i []).getD k Cel.zero)) 72::bx b5 (A0 f ⟨va hRowsr.q,hRows.length,hRowsr.k⟩) 26::bx b4 (A0 FrmC.zero ⟨none,0,0⟩) 26::bx b3 (D9 at_) 24::bx b2 (A0 g ⟨gRowsq,gRows.length,gRowsk⟩) 26::bx b1 (A0 f ⟨fQ,fR.length,fK⟩) 26::(vo B8 69 hRowsr hRowsrs)++((vo A6 72 lr l)++([])))) (fun b14=>?_)
   refine ie (A2 (sr 29 rfl (zrl 5 24 [3] [(39,bv (decide (at_.row≤(i:Int))))] ?_)))
   refine zid 9 15 39 48 (decide ((i:Int)<(IntKind.i64.wrap (at_.row+(gRows.length:Int))))) (fun g15 g15p=>?_) ?_
   ·refine zrl 6 3 [3,4] [(40,iv (i:Int)),(42,iv at_.row),(45,iv (gRows.length:Int))] ?_
    refine ix rfl (H9.pure rfl) ?_
    refine ip' 2 0 [(48,bv (decide ((i:Int)<(IntKind.i64.wrap (at_.row+(gRows.length:Int))))))] ?_
    exact A1 (H7 6 39 48 g15 A5.refl (mc [[bx b14 (A6 ((fR.getD i []).getD k Cel.zero)) 72],[bx b5 (A0 f ⟨va hRowsr.q,hRows.length,hRowsr.k⟩) 26],[bx b4 (A0 FrmC.zero ⟨none,0,0⟩) 26],[bx b3 (D9 at_) 24],[bx b2 (A0 g ⟨gRowsq,gRows.length,gRowsk⟩) 26],[bx b1 (A0 f ⟨fQ,fR.length,fK⟩) 26],vo B8 69 hRowsr hRowsrs,vo A6 72 lr l] [true,true,true,true,true,true,true,true] rfl (by first|rfl|(simp only [List.length_set]<;>rfl))) rfl rfl rfl rfl rfl)
   refine ip' 1 14 [(49,bv ((decide (at_.row≤(i:Int)))&&(decide ((i:Int)<(IntKind.i64.wrap (at_.row+(gRows.length:Int)))))))] ?_
   refine zia 5 9 49 54 (decide (at_.col≤(k:Int))) (fun g16=>?_) ?_
   ·have g16p:(at_.row≤(i:Int))∧((i:Int)<(IntKind.i64.wrap (at_.row+(gRows.length:Int)))):=by simpa using g16
    refine zrl 5 0 [3] [(54,bv (decide (at_.col≤(k:Int))))] ?_
    exact A1 (H7 2 49 54 g16 A5.refl (mc [[bx b14 (A6 ((fR.getD i []).getD k Cel.zero)) 72],[bx b5 (A0 f ⟨va hRowsr.q,hRows.length,hRowsr.k⟩) 26],[bx b4 (A0 FrmC.zero ⟨none,0,0⟩) 26],[bx b3 (D9 at_) 24],[bx b2 (A0 g ⟨gRowsq,gRows.length,gRowsk⟩) 26],[bx b1 (A0 f ⟨fQ,fR.length,fK⟩) 26],vo B8 69 hRowsr hRowsrs,vo A6 72 lr l] [true,true,true,true,true,true,true,true] rfl (by first|rfl|(simp only [List.length_set]<;>rfl))) rfl rfl rfl rfl rfl)
   refine ip' 1 8 [(55,bv (((decide (at_.row≤(i:Int)))&&(decide ((i:Int)<(IntKind.i64.wrap (at_.row+(gRows.length:Int))))))&&(decide (at_.col≤(k:Int)))))] ?_
   refine zia 8 0 55 63 (decide ((k:Int)<(IntKind.i64.wrap (at_.col+g.cols)))) (fun g17=>?_) ?_
   ·have g17p:((at_.row≤(i:Int))∧((i:Int)<(IntKind.i64.wrap (at_.row+(gRows.length:Int)))))∧(at_.col≤(k:Int)):=by simpa using g17
    refine zrl 5 3 [3,4] [(56,iv (k:Int)),(58,iv at_.col),(60,iv g.cols)] ?_
    refine ix rfl (H9.pure rfl) ?_
    refine ip' 2 0 [(63,bv (decide ((k:Int)<(IntKind.i64.wrap (at_.col+g.cols)))))] ?_
    exact A1 (H7 6 55 63 g17 A5.refl (mc [[bx b14 (A6 ((fR.getD i []).getD k Cel.zero)) 72],[bx b5 (A0 f ⟨va hRowsr.q,hRows.length,hRowsr.k⟩) 26],[bx b4 (A0 FrmC.zero ⟨none,0,0⟩) 26],[bx b3 (D9 at_) 24],[bx b2 (A0 g ⟨gRowsq,gRows.length,gRowsk⟩) 26],[bx b1 (A0 f ⟨fQ,fR.length,fK⟩) 26],vo B8 69 hRowsr hRowsrs,vo A6 72 lr l] [true,true,true,true,true,true,true,true] rfl (by first|rfl|(simp only [List.length_set]<;>rfl))) rfl rfl rfl rfl rfl)
   refine ie ?_
   refine zjb rfl hR ?_ ?_<;>clear hR<;>intro hR h18
   ·have h18p:(((at_.row≤(i:Int))∧((i:Int)<(IntKind.i64.wrap (at_.row+(gRows.length:Int)))))∧(at_.col≤(k:Int)))∧((k:Int)<(IntKind.i64.wrap (at_.col+g.cols))):=by simpa using h18
    have hw3:IntKind.i64.wrap ((i:Int) - at_.row)=i - at_.row:=wr6 (by omega)
    have hw4:IntKind.i64.wrap ((k:Int) - at_.col)=k - at_.col:=wr6 (by omega)
    have hgr:=hg3 (IntKind.i64.wrap ((i:Int) - at_.row)).toNat (by omega)
    refine B1b (M8 (k:=(IntKind.i64.wrap ((i:Int) - at_.row)).toNat) (d:=(⟨none,0,0⟩:Slc)) hrowsgRowsrs 4 rfl (by have:=hrowsgRowsrs.1;omega)) ?_
    have:=M9 hrowsgRowsrs (k:=(IntKind.i64.wrap ((i:Int) - at_.row)).toNat) (d:=(⟨none,0,0⟩:Slc)) (by have:=hrowsgRowsrs.1;omega)
    refine sh' 15 [(14,[bx b14 (A6 ((fR.getD i []).getD k Cel.zero)) 72]),(15,[bx b5 (A0 f ⟨va hRowsr.q,hRows.length,hRowsr.k⟩) 26]),(15,[bx b4 (A0 FrmC.zero ⟨none,0,0⟩) 26]),(15,[bx b3 (D9 at_) 24]),(15,[bx b2 (A0 g ⟨gRowsq,gRows.length,gRowsk⟩) 26]),(15,[bx b1 (A0 f ⟨fQ,fR.length,fK⟩) 26]),(15,vo B8 69 hRowsr hRowsrs),(15,vo A6 72 lr l)] [sl A6 ((gRowsrs.getD ((IntKind.i64.wrap ((i:Int) - at_.row)).toNat) (⟨none,0,0⟩:Slc)).q) (gRows.getD ((IntKind.i64.wrap ((i:Int) - at_.row)).toNat) []),sl A6 ((fZ.getD i (⟨none,0,0⟩:Slc)).q) (fR.getD i []),sl B8 fQ fZ,F0 A6 fZ fR,sl B8 gRowsq gRowsrs,F0 A6 gRowsrs gRows,F0 A6 hRowsrs hRows] (bx b14 (A6 ((fR.getD i []).getD k Cel.zero)) 72::bx b5 (A0 f ⟨va hRowsr.q,hRows.length,hRowsr.k⟩) 26::bx b4 (A0 FrmC.zero ⟨none,0,0⟩) 26::bx b3 (D9 at_) 24::bx b2 (A0 g ⟨gRowsq,gRows.length,gRowsk⟩) 26::bx b1 (A0 f ⟨fQ,fR.length,fK⟩) 26::(vo B8 69 hRowsr hRowsrs)++((vo A6 72 lr l)++([]))) (zml 15 0) (by kernel_rfl) rfl (by kernel_rfl) (by kernel_rfl) (by kernel_rfl) (mc [[bx b14 (A6 ((fR.getD i []).getD k Cel.zero)) 72],[bx b5 (A0 f ⟨va hRowsr.q,hRows.length,hRowsr.k⟩) 26],[bx b4 (A0 FrmC.zero ⟨none,0,0⟩) 26],[bx b3 (D9 at_) 24],[bx b2 (A0 g ⟨gRowsq,gRows.length,gRowsk⟩) 26],[bx b1 (A0 f ⟨fQ,fR.length,fK⟩) 26],vo B8 69 hRowsr hRowsrs,vo A6 72 lr l] [true,true,true,true,true,true,true,true] rfl (by first|rfl|(simp only [List.length_set]<;>rfl))) A5.refl ?_
    refine zhp [0,2,3,8,9] 10 (zml 15 781) [(64,pt b2 1),(66,iv (i:Int)),(67,pt b3 0),(72,iv (k:Int)),(73,pt b3 1)] ?_
    refine zhl 1 (bx b14 (A6 ((fR.getD i []).getD k Cel.zero)) 72::bx b5 (A0 f ⟨va hRowsr.q,hRows.length,hRowsr.k⟩) 26::bx b4 (A0 FrmC.zero ⟨none,0,0⟩) 26::bx b3 (D9 at_) 24::bx b2 (A0 g ⟨gRowsq,gRows.length,gRowsk⟩) 26::bx b1 (A0 f ⟨fQ,fR.length,fK⟩) 26::(vo B8 69 hRowsr hRowsrs)++((vo A6 72 lr l)++([]))) (zml 15 783) rfl (D0 (v:=.slice gRowsq gRows.length gRowsk) C6n rfl rfl 4 rfl rfl) ?_
    refine zhl 4 (bx b14 (A6 ((fR.getD i []).getD k Cel.zero)) 72::bx b5 (A0 f ⟨va hRowsr.q,hRows.length,hRowsr.k⟩) 26::bx b4 (A0 FrmC.zero ⟨none,0,0⟩) 26::bx b3 (D9 at_) 24::bx b2 (A0 g ⟨gRowsq,gRows.length,gRowsk⟩) 26::bx b1 (A0 f ⟨fQ,fR.length,fK⟩) 26::(vo B8 69 hRowsr hRowsrs)++((vo A6 72 lr l)++([]))) (zml 15 799) rfl (D0 (v:=iv at_.row) ty3 rfl rfl 3 rfl rfl) ?_
    refine zhk 5 (zml 15 831) rfl (H9.pure rfl) ?_
    refine B4t 4 rfl (by have:=hrowsgRowsrs.1;omega) fun a19 hq20=>?_
    refine zhk 6 (zml 15 895) rfl (E4 X0 rfl rfl hq20 rfl ((IntKind.i64.wrap ((i:Int) - at_.row)).toNat) (by omega) (by omega)) ?_
    refine zhk 7 (zml 15 1023) rfl (G8 (C6 (v:=.slice ((gRowsrs.getD ((IntKind.i64.wrap ((i:Int) - at_.row)).toNat) (⟨none,0,0⟩:Slc)).q) ((gRowsrs.getD ((IntKind.i64.wrap ((i:Int) - at_.row)).toNat) (⟨none,0,0⟩:Slc)).n) ((gRowsrs.getD ((IntKind.i64.wrap ((i:Int) - at_.row)).toNat) (⟨none,0,0⟩:Slc)).k)) (us:=[.slice ((gRowsrs.getD ((IntKind.i64.wrap ((i:Int) - at_.row)).toNat) (⟨none,0,0⟩:Slc)).q) ((gRowsrs.getD ((IntKind.i64.wrap ((i:Int) - at_.row)).toNat) (⟨none,0,0⟩:Slc)).n) ((gRowsrs.getD ((IntKind.i64.wrap ((i:Int) - at_.row)).toNat) (⟨none,0,0⟩:Slc)).k)]) A3i rfl rfl (F8 (c:=B8) (sz:=1) hq20 (fun _=>rfl) 4 rfl (gd (⟨none,0,0⟩:Slc) (by have:=hrowsgRowsrs.1;omega))) rfl) (N0 hrowsgRowsrs (by have:=hrowsgRowsrs.1;omega))) ?_
    refine zhl 10 (bx b14 (A6 ((fR.getD i []).getD k Cel.zero)) 72::bx b5 (A0 f ⟨va hRowsr.q,hRows.length,hRowsr.k⟩) 26::bx b4 (A0 FrmC.zero ⟨none,0,0⟩) 26::bx b3 (D9 at_) 24::bx b2 (A0 g ⟨gRowsq,gRows.length,gRowsk⟩) 26::bx b1 (A0 f ⟨fQ,fR.length,fK⟩) 26::(vo B8 69 hRowsr hRowsrs)++((vo A6 72 lr l)++([]))) (zml 15 2047) rfl (D0 (v:=iv at_.col) ty3 rfl rfl 3 rfl rfl) ?_
    refine zhk 11 (zml 15 4095) rfl (H9.pure rfl) ?_
    refine B4t 0 rfl (by omega) fun a21 hq22=>?_
    refine zhk 12 (zml 15 8191) rfl (E4 O5 rfl rfl hq22 rfl ((IntKind.i64.wrap ((k:Int) - at_.col)).toNat) (by omega) (by omega)) ?_
    refine zhk 13 (zml 15 16383) rfl (L6 (us:=A6 ((gRows.getD ((IntKind.i64.wrap ((i:Int) - at_.row)).toNat) []).getD ((IntKind.i64.wrap ((k:Int) - at_.col)).toNat) Cel.zero)) B1g rfl rfl (F8 (c:=A6) (sz:=12) hq22 (fun _=>rfl) 0 rfl (gd Cel.zero (by omega))) rfl) ?_
    refine zho 14 (bx b5 (A0 f ⟨va hRowsr.q,hRows.length,hRowsr.k⟩) 26::bx b4 (A0 FrmC.zero ⟨none,0,0⟩) 26::bx b3 (D9 at_) 24::bx b2 (A0 g ⟨gRowsq,gRows.length,gRowsk⟩) 26::bx b1 (A0 f ⟨fQ,fR.length,fK⟩) 26::(vo B8 69 hRowsr hRowsrs)++((vo A6 72 lr l)++([]))) (zml 15 32767) rfl (M6 (us:=A6 ((gRows.getD ((IntKind.i64.wrap ((i:Int) - at_.row)).toNat) []).getD ((IntKind.i64.wrap ((k:Int) - at_.col)).toNat) Cel.zero)) (cs':=A6 ((gRows.getD ((IntKind.i64.wrap ((i:Int) - at_.row)).toNat) []).getD ((IntKind.i64.wrap ((k:Int) - at_.col)).toNat) Cel.zero)) B1g rfl rfl rfl 0 rfl rfl rfl rfl rfl rfl) (fun _=>(mc [[bx b14 (A6 ((gRows.getD ((IntKind.i64.wrap ((i:Int) - at_.row)).toNat) []).getD ((IntKind.i64.wrap ((k:Int) - at_.col)).toNat) Cel.zero)) 72],[bx b5 (A0 f ⟨va hRowsr.q,hRows.length,hRowsr.k⟩) 26],[bx b4 (A0 FrmC.zero ⟨none,0,0⟩) 26],[bx b3 (D9 at_) 24],[bx b2 (A0 g ⟨gRowsq,gRows.length,gRowsk⟩) 26],[bx b1 (A0 f ⟨fQ,fR.length,fK⟩) 26],vo B8 69 hRowsr hRowsrs,vo A6 72 lr l] [false,true,true,true,true,true,true,true] rfl (by first|rfl|(simp only [List.length_set]<;>rfl)))) (fun _=>A5.refl) fun _=>?_
    refine A9f (by kernel_rfl) ?_
    refine nx (A3 5 rfl (zrl 2 3 [0] [(78,.slice (va lr.q) l.length lr.k),(79,ag (A6 ((gRows.getD ((IntKind.i64.wrap ((i:Int) - at_.row)).toNat) []).getD ((IntKind.i64.wrap ((k:Int) - at_.col)).toNat) Cel.zero)))] ?_))
    refine it rfl (D4 (c:=A6) (xs:=([((gRows.getD ((IntKind.i64.wrap ((i:Int) - at_.row)).toNat) []).getD ((IntKind.i64.wrap ((k:Int) - at_.col)).toNat) Cel.zero)]:List Cel)) O5 rfl rfl rfl (by kernel_rfl)) fun b23=>?_
    have:([((gRows.getD ((IntKind.i64.wrap ((i:Int) - at_.row)).toNat) []).getD ((IntKind.i64.wrap ((k:Int) - at_.col)).toNat) Cel.zero)]:List Cel).length=1:=rfl
    refine B4r (H3 [[bx b14 (A6 ((gRows.getD ((IntKind.i64.wrap ((i:Int) - at_.row)).toNat) []).getD ((IntKind.i64.wrap ((k:Int) - at_.col)).toNat) Cel.zero)) 72],[bx b5 (A0 f ⟨va hRowsr.q,hRows.length,hRowsr.k⟩) 26],[bx b4 (A0 FrmC.zero ⟨none,0,0⟩) 26],[bx b3 (D9 at_) 24],[bx b2 (A0 g ⟨gRowsq,gRows.length,gRowsk⟩) 26],[bx b1 (A0 f ⟨fQ,fR.length,fK⟩) 26],vo B8 69 hRowsr hRowsrs,vo A6 72 lr l] [0,1,2,3,4,5,7,6] 8 rfl (by decide) rfl [[bx b14 (A6 ((gRows.getD ((IntKind.i64.wrap ((i:Int) - at_.row)).toNat) []).getD ((IntKind.i64.wrap ((k:Int) - at_.col)).toNat) Cel.zero)) 72],[bx b5 (A0 f ⟨va hRowsr.q,hRows.length,hRowsr.k⟩) 26],[bx b4 (A0 FrmC.zero ⟨none,0,0⟩) 26],[bx b3 (D9 at_) 24],[bx b2 (A0 g ⟨gRowsq,gRows.length,gRowsk⟩) 26],[bx b1 (A0 f ⟨fQ,fR.length,fK⟩) 26],vo A6 72 lr l,vo B8 69 hRowsr hRowsrs] rfl (by first|rfl|simp only [List.flatten_cons,List.flatten_nil,List.append_nil,List.cons_append,List.nil_append,List.append_assoc])) ?_
    refine it rfl (A1v (f:=A6) (r:=lr) (xs:=l) (ys:=([((gRows.getD ((IntKind.i64.wrap ((i:Int) - at_.row)).toNat) []).getD ((IntKind.i64.wrap ((k:Int) - at_.col)).toNat) Cel.zero)]:List Cel)) (pre:=[bx b14 (A6 ((gRows.getD ((IntKind.i64.wrap ((i:Int) - at_.row)).toNat) []).getD ((IntKind.i64.wrap ((k:Int) - at_.col)).toNat) Cel.zero)) 72,bx b5 (A0 f ⟨va hRowsr.q,hRows.length,hRowsr.k⟩) 26,bx b4 (A0 FrmC.zero ⟨none,0,0⟩) 26,bx b3 (D9 at_) 24,bx b2 (A0 g ⟨gRowsq,gRows.length,gRowsk⟩) 26,bx b1 (A0 f ⟨fQ,fR.length,fK⟩) 26]) (post:=((vo B8 69 hRowsr hRowsrs)++([]))) B3n (fun _=>rfl) (fun _=>rfl) rfl rfl rfl rfl rfl rfl rfl rfl rfl (B7 0 rfl) hoklr (by first|omega|(simp only [List.length_cons,List.length_nil,List.length_append,List.length_take,List.length_drop];omega)) (by first|omega|(simp only [List.length_cons,List.length_nil,List.length_append,List.length_take,List.length_drop];omega))) fun ⟨r24,hr25⟩=>?_
    have:=VOk.le hr25
    have:=VOk.cap hr25
    refine B4r (H3 [[bx b14 (A6 ((gRows.getD ((IntKind.i64.wrap ((i:Int) - at_.row)).toNat) []).getD ((IntKind.i64.wrap ((k:Int) - at_.col)).toNat) Cel.zero)) 72],[bx b5 (A0 f ⟨va hRowsr.q,hRows.length,hRowsr.k⟩) 26],[bx b4 (A0 FrmC.zero ⟨none,0,0⟩) 26],[bx b3 (D9 at_) 24],[bx b2 (A0 g ⟨gRowsq,gRows.length,gRowsk⟩) 26],[bx b1 (A0 f ⟨fQ,fR.length,fK⟩) 26],vo A6 72 r24 (l++([((gRows.getD ((IntKind.i64.wrap ((i:Int) - at_.row)).toNat) []).getD ((IntKind.i64.wrap ((k:Int) - at_.col)).toNat) Cel.zero)]:List Cel)),vo B8 69 hRowsr hRowsrs] [0,1,2,3,4,5,7,6] 8 rfl (by decide) rfl [[bx b14 (A6 ((gRows.getD ((IntKind.i64.wrap ((i:Int) - at_.row)).toNat) []).getD ((IntKind.i64.wrap ((k:Int) - at_.col)).toNat) Cel.zero)) 72],[bx b5 (A0 f ⟨va hRowsr.q,hRows.length,hRowsr.k⟩) 26],[bx b4 (A0 FrmC.zero ⟨none,0,0⟩) 26],[bx b3 (D9 at_) 24],[bx b2 (A0 g ⟨gRowsq,gRows.length,gRowsk⟩) 26],[bx b1 (A0 f ⟨fQ,fR.length,fK⟩) 26],vo B8 69 hRowsr hRowsrs,vo A6 72 r24 (l++([((gRows.getD ((IntKind.i64.wrap ((i:Int) - at_.row)).toNat) []).getD ((IntKind.i64.wrap ((k:Int) - at_.col)).toNat) Cel.zero)]:List Cel))] rfl (by first|rfl|simp only [List.flatten_cons,List.flatten_nil,List.append_nil,List.cons_append,List.nil_append,List.append_assoc])) ?_
    refine ip' 1 0 [(9,.slice (va r24.q) ((l++([((gRows.getD ((IntKind.i64.wrap ((i:Int) - at_.row)).toNat) []).getD ((IntKind.i64.wrap ((k:Int) - at_.col)).toNat) Cel.zero)]:List Cel)).length) r24.k)] ?_
    refine A1 (nx (A3 3 rfl (ip' 1 2 [(25,iv (k:Int))] ?_)))
    refine ix rfl (B2 rfl rfl rfl rfl (by omega)) ?_
    refine ip' 1 0 [(10,iv ((k:Int)+1))] ?_
    refine A1 ?_
    exact A9k (z1:=(fu1+1)) (z2:=l) (z3:=lr) (z4:=k) fu1 (l++([((gRows.getD ((IntKind.i64.wrap ((i:Int) - at_.row)).toNat) []).getD ((IntKind.i64.wrap ((k:Int) - at_.col)).toNat) Cel.zero)]:List Cel)) r24 (k+1) ⟨(by omega),hR,hr25,(by (simp only [List.length_append,List.length_cons,List.length_nil];omega))⟩ (Nat.lt_succ_self _) (mc [[bx b14 (A6 ((gRows.getD ((IntKind.i64.wrap ((i:Int) - at_.row)).toNat) []).getD ((IntKind.i64.wrap ((k:Int) - at_.col)).toNat) Cel.zero)) 72],[bx b5 (A0 f ⟨va hRowsr.q,hRows.length,hRowsr.k⟩) 26],[bx b4 (A0 FrmC.zero ⟨none,0,0⟩) 26],[bx b3 (D9 at_) 24],[bx b2 (A0 g ⟨gRowsq,gRows.length,gRowsk⟩) 26],[bx b1 (A0 f ⟨fQ,fR.length,fK⟩) 26],vo B8 69 hRowsr hRowsrs,vo A6 72 r24 (l++([((gRows.getD ((IntKind.i64.wrap ((i:Int) - at_.row)).toNat) []).getD ((IntKind.i64.wrap ((k:Int) - at_.col)).toNat) Cel.zero)]:List Cel))] [false,true,true,true,true,true,true,true] rfl (by first|rfl|(simp only [List.length_set]<;>rfl))) (A5.pick [3,4,5,6,7] rfl)
   have h18p:¬ ((((at_.row≤(i:Int))∧((i:Int)<(IntKind.i64.wrap (at_.row+(gRows.length:Int)))))∧(at_.col≤(k:Int)))∧((k:Int)<(IntKind.i64.wrap (at_.col+g.cols)))):=by first|simpa using h18|(simp at h18 ⊢;omega)
   refine A4 (nx (A3 5 rfl (zrl 2 3 [0] [(78,.slice (va lr.q) l.length lr.k),(79,ag (A6 ((fR.getD i []).getD k Cel.zero)))] ?_)))
   refine it rfl (D4 (c:=A6) (xs:=([((fR.getD i []).getD k Cel.zero)]:List Cel)) O5 rfl rfl rfl (by kernel_rfl)) fun b26=>?_
   have:([((fR.getD i []).getD k Cel.zero)]:List Cel).length=1:=rfl
   refine B4r (H3 [[bx b14 (A6 ((fR.getD i []).getD k Cel.zero)) 72],[bx b5 (A0 f ⟨va hRowsr.q,hRows.length,hRowsr.k⟩) 26],[bx b4 (A0 FrmC.zero ⟨none,0,0⟩) 26],[bx b3 (D9 at_) 24],[bx b2 (A0 g ⟨gRowsq,gRows.length,gRowsk⟩) 26],[bx b1 (A0 f ⟨fQ,fR.length,fK⟩) 26],vo B8 69 hRowsr hRowsrs,vo A6 72 lr l] [0,1,2,3,4,5,7,6] 8 rfl (by decide) rfl [[bx b14 (A6 ((fR.getD i []).getD k Cel.zero)) 72],[bx b5 (A0 f ⟨va hRowsr.q,hRows.length,hRowsr.k⟩) 26],[bx b4 (A0 FrmC.zero ⟨none,0,0⟩) 26],[bx b3 (D9 at_) 24],[bx b2 (A0 g ⟨gRowsq,gRows.length,gRowsk⟩) 26],[bx b1 (A0 f ⟨fQ,fR.length,fK⟩) 26],vo A6 72 lr l,vo B8 69 hRowsr hRowsrs] rfl (by first|rfl|simp only [List.flatten_cons,List.flatten_nil,List.append_nil,List.cons_append,List.nil_append,List.append_assoc])) ?_
   refine it rfl (A1v (f:=A6) (r:=lr) (xs:=l) (ys:=([((fR.getD i []).getD k Cel.zero)]:List Cel)) (pre:=[bx b14 (A6 ((fR.getD i []).getD k Cel.zero)) 72,bx b5 (A0 f ⟨va hRowsr.q,hRows.length,hRowsr.k⟩) 26,bx b4 (A0 FrmC.zero ⟨none,0,0⟩) 26,bx b3 (D9 at_) 24,bx b2 (A0 g ⟨gRowsq,gRows.length,gRowsk⟩) 26,bx b1 (A0 f ⟨fQ,fR.length,fK⟩) 26]) (post:=((vo B8 69 hRowsr hRowsrs)++([]))) B3n (fun _=>rfl) (fun _=>rfl) rfl rfl rfl rfl rfl rfl rfl rfl rfl (B7 0 rfl) hoklr (by first|omega|(simp only [List.length_cons,List.length_nil,List.length_append,List.length_take,List.length_drop];omega)) (by first|omega|(simp only [List.length_cons,List.length_nil,List.length_append,List.length_take,List.length_drop];omega))) fun ⟨r27,hr28⟩=>?_
   have:=VOk.le hr28
   have:=VOk.cap hr28
   refine B4r (H3 [[bx b14 (A6 ((fR.getD i []).getD k Cel.zero)) 72],[bx b5 (A0 f ⟨va hRowsr.q,hRows.length,hRowsr.k⟩) 26],[bx b4 (A0 FrmC.zero ⟨none,0,0⟩) 26],[bx b3 (D9 at_) 24],[bx b2 (A0 g ⟨gRowsq,gRows.length,gRowsk⟩) 26],[bx b1 (A0 f ⟨fQ,fR.length,fK⟩) 26],vo A6 72 r27 (l++([((fR.getD i []).getD k Cel.zero)]:List Cel)),vo B8 69 hRowsr hRowsrs] [0,1,2,3,4,5,7,6] 8 rfl (by decide) rfl [[bx b14 (A6 ((fR.getD i []).getD k Cel.zero)) 72],[bx b5 (A0 f ⟨va hRowsr.q,hRows.length,hRowsr.k⟩) 26],[bx b4 (A0 FrmC.zero ⟨none,0,0⟩) 26],[bx b3 (D9 at_) 24],[bx b2 (A0 g ⟨gRowsq,gRows.length,gRowsk⟩) 26],[bx b1 (A0 f ⟨fQ,fR.length,fK⟩) 26],vo B8 69 hRowsr hRowsrs,vo A6 72 r27 (l++([((fR.getD i []).getD k Cel.zero)]:List Cel))] rfl (by first|rfl|simp only [List.flatten_cons,List.flatten_nil,List.append_nil,List.cons_append,List.nil_append,List.append_assoc])) ?_
   refine ip' 1 0 [(9,.slice (va r27.q) ((l++([((fR.getD i []).getD k Cel.zero)]:List Cel)).length) r27.k)] ?_
   refine A1 (nx (A3 3 rfl (ip' 1 2 [(25,iv (k:Int))] ?_)))
   refine ix rfl (B2 rfl rfl rfl rfl (by omega)) ?_
   refine ip' 1 0 [(10,iv ((k:Int)+1))] ?_
   refine A1 ?_
   exact A9k (z1:=(fu1+1)) (z2:=l) (z3:=lr) (z4:=k) fu1 (l++([((fR.getD i []).getD k Cel.zero)]:List Cel)) r27 (k+1) ⟨(by omega),hR,hr28,(by (simp only [List.length_append,List.length_cons,List.length_nil];omega))⟩ (Nat.lt_succ_self _) (mc [[bx b14 (A6 ((fR.getD i []).getD k Cel.zero)) 72],[bx b5 (A0 f ⟨va hRowsr.q,hRows.length,hRowsr.k⟩) 26],[bx b4 (A0 FrmC.zero ⟨none,0,0⟩) 26],[bx b3 (D9 at_) 24],[bx b2 (A0 g ⟨gRowsq,gRows.length,gRowsk⟩) 26],[bx b1 (A0 f ⟨fQ,fR.length,fK⟩) 26],vo B8 69 hRowsr hRowsrs,vo A6 72 r27 (l++([((fR.getD i []).getD k Cel.zero)]:List Cel))] [false,true,true,true,true,true,true,true] rfl (by first|rfl|(simp only [List.length_set]<;>rfl))) (A5.pick [2,3,4,5,6] rfl)
  refine F9 (nx ?_)
  have:=VOk.cap hoklr
  have:=VOk.le hoklr
  refine D1u (bx b5 (A0 f ⟨va hRowsr.q,hRows.length,hRowsr.k⟩) 26::bx b4 (A0 FrmC.zero ⟨none,0,0⟩) 26::bx b3 (D9 at_) 24::bx b2 (A0 g ⟨gRowsq,gRows.length,gRowsk⟩) 26::bx b1 (A0 f ⟨fQ,fR.length,fK⟩) 26::(vo B8 69 hRowsr hRowsrs)++([])) [] (T:=72) (c:=A6) (r:=lr) (xs:=l) hoklr (by first|rfl|simp only [List.cons_append,List.append_assoc,List.nil_append,List.append_nil]) ?_
  refine D5b (L':=(bx b5 (A0 f ⟨va hRowsr.q,hRows.length,hRowsr.k⟩) 26::bx b4 (A0 FrmC.zero ⟨none,0,0⟩) 26::bx b3 (D9 at_) 24::bx b2 (A0 g ⟨gRowsq,gRows.length,gRowsk⟩) 26::bx b1 (A0 f ⟨fQ,fR.length,fK⟩) 26::(vo B8 69 hRowsr hRowsrs)++([]))) (by first|rfl|simp only [List.cons_append,List.append_assoc,List.nil_append,List.append_nil]) ?_
  refine sh' 8 [(7,[bx b5 (A0 f ⟨va hRowsr.q,hRows.length,hRowsr.k⟩) 26]),(8,[bx b4 (A0 FrmC.zero ⟨none,0,0⟩) 26]),(8,[bx b3 (D9 at_) 24]),(8,[bx b2 (A0 g ⟨gRowsq,gRows.length,gRowsk⟩) 26]),(8,[bx b1 (A0 f ⟨fQ,fR.length,fK⟩) 26]),(5,vo B8 69 hRowsr hRowsrs)] [sl A6 (va lr.q) l,sl B8 fQ fZ,F0 A6 fZ fR,sl B8 gRowsq gRowsrs,F0 A6 gRowsrs gRows,F0 A6 hRowsrs hRows] (bx b5 (A0 f ⟨va hRowsr.q,hRows.length,hRowsr.k⟩) 26::bx b4 (A0 FrmC.zero ⟨none,0,0⟩) 26::bx b3 (D9 at_) 24::bx b2 (A0 g ⟨gRowsq,gRows.length,gRowsk⟩) 26::bx b1 (A0 f ⟨fQ,fR.length,fK⟩) 26::(vo B8 69 hRowsr hRowsrs)++([])) (zml 8 0) (by kernel_rfl) rfl (by kernel_rfl) (by kernel_rfl) (by kernel_rfl) (mc [[bx b5 (A0 f ⟨va hRowsr.q,hRows.length,hRowsr.k⟩) 26],[bx b4 (A0 FrmC.zero ⟨none,0,0⟩) 26],[bx b3 (D9 at_) 24],[bx b2 (A0 g ⟨gRowsq,gRows.length,gRowsk⟩) 26],[bx b1 (A0 f ⟨fQ,fR.length,fK⟩) 26],vo B8 69 hRowsr hRowsrs] [true,true,true,true,true,true] rfl (by first|rfl|(simp only [List.length_set]<;>rfl))) A5.refl ?_
  refine zhp [0,2] 6 (zml 8 5) [(82,pt b5 1),(84,.slice (va lr.q) l.length lr.k)] ?_
  refine zhl 1 (bx b5 (A0 f ⟨va hRowsr.q,hRows.length,hRowsr.k⟩) 26::bx b4 (A0 FrmC.zero ⟨none,0,0⟩) 26::bx b3 (D9 at_) 24::bx b2 (A0 g ⟨gRowsq,gRows.length,gRowsk⟩) 26::bx b1 (A0 f ⟨fQ,fR.length,fK⟩) 26::(vo B8 69 hRowsr hRowsrs)++([])) (zml 8 7) rfl (D0 (v:=.slice (va hRowsr.q) hRows.length hRowsr.k) C6n rfl rfl 0 rfl rfl) ?_
  have hQ:=G5 hR;clear hR;obtain ⟨y1,hy1,hR⟩:=hQ
  refine zho 3 (bx b5 (A0 f ⟨va hRowsr.q,hRows.length,hRowsr.k⟩) 26::bx b4 (A0 FrmC.zero ⟨none,0,0⟩) 26::bx b3 (D9 at_) 24::bx b2 (A0 g ⟨gRowsq,gRows.length,gRowsk⟩) 26::bx b1 (A0 f ⟨fQ,fR.length,fK⟩) 26::(vo B8 69 hRowsr hRowsrs)++([])) (zml 8 15) rfl (I4 (L2:=(bx b5 (A0 f ⟨va hRowsr.q,hRows.length,hRowsr.k⟩) 26::bx b4 (A0 FrmC.zero ⟨none,0,0⟩) 26::bx b3 (D9 at_) 24::bx b2 (A0 g ⟨gRowsq,gRows.length,gRowsk⟩) 26::bx b1 (A0 f ⟨fQ,fR.length,fK⟩) 26::(vo B8 69 hRowsr hRowsrs)++([]))) (B7j l (va lr.q) lr.k (by first|omega|(simp only [List.length_take,List.length_drop,List.length_append,List.length_cons,List.length_nil,List.length_set,List.length_map];omega)|decide) (by first|omega|(simp only [List.length_take,List.length_drop,List.length_append,List.length_cons,List.length_nil,List.length_set,List.length_map];omega)|decide) (by first|omega|(simp only [List.length_take,List.length_drop];omega)) y1 hy1) rfl rfl rfl rfl rfl (A5.pick [0] rfl) (List.Perm.refl _) (fun ⟨r29,hk30⟩=>(bx b5 (A0 f ⟨va hRowsr.q,hRows.length,hRowsr.k⟩) 26::bx b4 (A0 FrmC.zero ⟨none,0,0⟩) 26::bx b3 (D9 at_) 24::bx b2 (A0 g ⟨gRowsq,gRows.length,gRowsk⟩) 26::bx b1 (A0 f ⟨fQ,fR.length,fK⟩) 26::(vo A6 72 r29 y1)++((vo B8 69 hRowsr hRowsrs)++([])))) (fun ⟨r29,hk30⟩=>H3 [vo A6 72 r29 y1,[bx b5 (A0 f ⟨va hRowsr.q,hRows.length,hRowsr.k⟩) 26],[bx b4 (A0 FrmC.zero ⟨none,0,0⟩) 26],[bx b3 (D9 at_) 24],[bx b2 (A0 g ⟨gRowsq,gRows.length,gRowsk⟩) 26],[bx b1 (A0 f ⟨fQ,fR.length,fK⟩) 26],vo B8 69 hRowsr hRowsrs] [1,2,3,4,5,0,6] 7 rfl (by decide) (by first|rfl|simp only [List.flatten_cons,List.flatten_nil,List.append_nil,List.cons_append,List.nil_append,List.append_assoc]) [[bx b5 (A0 f ⟨va hRowsr.q,hRows.length,hRowsr.k⟩) 26],[bx b4 (A0 FrmC.zero ⟨none,0,0⟩) 26],[bx b3 (D9 at_) 24],[bx b2 (A0 g ⟨gRowsq,gRows.length,gRowsk⟩) 26],[bx b1 (A0 f ⟨fQ,fR.length,fK⟩) 26],vo A6 72 r29 y1,vo B8 69 hRowsr hRowsrs] rfl (by first|rfl|simp only [List.flatten_cons,List.flatten_nil,List.append_nil,List.cons_append,List.nil_append,List.append_assoc]))) (fun ⟨r29,hk30⟩=>(mc [[bx b5 (A0 f ⟨va hRowsr.q,hRows.length,hRowsr.k⟩) 26],[bx b4 (A0 FrmC.zero ⟨none,0,0⟩) 26],[bx b3 (D9 at_) 24],[bx b2 (A0 g ⟨gRowsq,gRows.length,gRowsk⟩) 26],[bx b1 (A0 f ⟨fQ,fR.length,fK⟩) 26],vo A6 72 r29 y1,vo B8 69 hRowsr hRowsrs] [true,true,true,true,true,false,true] rfl (by first|rfl|(simp only [List.length_set]<;>rfl)))) (fun ⟨r29,hk30⟩=>A5.refl) fun ⟨r29,hk30⟩=>?_
  have:=VOk.le hk30
  have:=VOk.cap hk30
  have:=VOk.cap hk30
  have:=VOk.le hk30
  refine C5e [bx b5 (A0 f ⟨va hRowsr.q,hRows.length,hRowsr.k⟩) 26,bx b4 (A0 FrmC.zero ⟨none,0,0⟩) 26,bx b3 (D9 at_) 24,bx b2 (A0 g ⟨gRowsq,gRows.length,gRowsk⟩) 26,bx b1 (A0 f ⟨fQ,fR.length,fK⟩) 26] ((vo B8 69 hRowsr hRowsrs)++([])) (T:=72) (c:=A6) (r:=r29) (xs:=y1) hk30 (by first|rfl|simp only [List.cons_append,List.append_assoc,List.nil_append,List.append_nil]) (bx b5 (A0 f ⟨va hRowsr.q,hRows.length,hRowsr.k⟩) 26::bx b4 (A0 FrmC.zero ⟨none,0,0⟩) 26::bx b3 (D9 at_) 24::bx b2 (A0 g ⟨gRowsq,gRows.length,gRowsk⟩) 26::bx b1 (A0 f ⟨fQ,fR.length,fK⟩) 26::(vo B8 69 hRowsr hRowsrs)++([])) rfl (mc [[bx b5 (A0 f ⟨va hRowsr.q,hRows.length,hRowsr.k⟩) 26],[bx b4 (A0 FrmC.zero ⟨none,0,0⟩) 26],[bx b3 (D9 at_) 24],[bx b2 (A0 g ⟨gRowsq,gRows.length,gRowsk⟩) 26],[bx b1 (A0 f ⟨fQ,fR.length,fK⟩) 26],vo B8 69 hRowsr hRowsrs] [true,true,true,true,true,true] rfl (by first|rfl|(simp only [List.length_set]<;>rfl))) ?_
  refine zho 4 (bx b5 (A0 f ⟨va hRowsr.q,hRows.length,hRowsr.k⟩) 26::bx b4 (A0 FrmC.zero ⟨none,0,0⟩) 26::bx b3 (D9 at_) 24::bx b2 (A0 g ⟨gRowsq,gRows.length,gRowsk⟩) 26::bx b1 (A0 f ⟨fQ,fR.length,fK⟩) 26::(vo B8 69 hRowsr hRowsrs)++([])) (zml 8 31) rfl (D4 (c:=B8) (xs:=([⟨va r29.q,y1.length,r29.k⟩]:List Slc)) X0 rfl rfl rfl (by kernel_rfl)) (fun b31=>(mc [[bx b5 (A0 f ⟨va hRowsr.q,hRows.length,hRowsr.k⟩) 26],[bx b4 (A0 FrmC.zero ⟨none,0,0⟩) 26],[bx b3 (D9 at_) 24],[bx b2 (A0 g ⟨gRowsq,gRows.length,gRowsk⟩) 26],[bx b1 (A0 f ⟨fQ,fR.length,fK⟩) 26],vo B8 69 hRowsr hRowsrs] [true,true,true,true,true,true] rfl (by first|rfl|(simp only [List.length_set]<;>rfl)))) (fun b31=>(A5.pick [2,3,4,5,6,7] rfl)) fun b31=>?_
  have hrows32:C7 ([⟨va r29.q,y1.length,r29.k⟩]:List Slc) ([y1]:List (List Cel)):=(C7.cons ⟨rfl,(by first|omega|(simp only [List.length_take,List.length_drop,List.length_append,List.length_cons,List.length_nil,List.length_set,List.length_map];omega)|decide),(by first|omega|(simp only [List.length_take,List.length_drop,List.length_append,List.length_cons,List.length_nil,List.length_set,List.length_map];omega)|decide)⟩ C7.none)
  refine C2p (q:=F0 A6 ([⟨va r29.q,y1.length,r29.k⟩]:List Slc) ([y1]:List (List Cel))) (A2w (B7 1 rfl) R0) ?_
  have:([⟨va r29.q,y1.length,r29.k⟩]:List Slc).length=1:=rfl
  have hw35:C7 (hRowsrs++([⟨va r29.q,y1.length,r29.k⟩]:List Slc)) (hRows++([y1]:List (List Cel))):=C7.append hrowshRowsrs hrows32
  refine zho 5 [bx b5 (A0 f ⟨va hRowsr.q,hRows.length,hRowsr.k⟩) 26,bx b4 (A0 FrmC.zero ⟨none,0,0⟩) 26,bx b3 (D9 at_) 24,bx b2 (A0 g ⟨gRowsq,gRows.length,gRowsk⟩) 26,bx b1 (A0 f ⟨fQ,fR.length,fK⟩) 26] (zml 8 63) rfl (B1i (r:=hRowsr) (rs:=hRowsrs) (xss:=hRows) (pre:=[bx b5 (A0 f ⟨va hRowsr.q,hRows.length,hRowsr.k⟩) 26,bx b4 (A0 FrmC.zero ⟨none,0,0⟩) 26,bx b3 (D9 at_) 24,bx b2 (A0 g ⟨gRowsq,gRows.length,gRowsk⟩) 26,bx b1 (A0 f ⟨fQ,fR.length,fK⟩) 26]) (post:=[]) C5o rfl rfl rfl rfl rfl rfl rfl rfl rfl (B7 1 rfl) (B7 8 rfl) (B7 0 rfl) hrowshRowsrs hrows32 hokhRowsr (by first|omega|(simp only [List.length_cons,List.length_nil,List.length_append,List.length_take,List.length_drop];omega)) (by first|omega|(simp only [List.length_cons,List.length_nil,List.length_append,List.length_take,List.length_drop];omega))) (fun ⟨r33,hr34⟩=>(mc [[bx b5 (A0 f ⟨va hRowsr.q,hRows.length,hRowsr.k⟩) 26],[bx b4 (A0 FrmC.zero ⟨none,0,0⟩) 26],[bx b3 (D9 at_) 24],[bx b2 (A0 g ⟨gRowsq,gRows.length,gRowsk⟩) 26],[bx b1 (A0 f ⟨fQ,fR.length,fK⟩) 26],vo B8 69 r33 (hRowsrs++([⟨va r29.q,y1.length,r29.k⟩]:List Slc))] [true,true,true,true,true,false] rfl (by first|rfl|(simp only [List.length_set]<;>rfl)))) (fun ⟨r33,hr34⟩=>(A5.pick [4,5,6,7,8,9] rfl)) fun ⟨r33,hr34⟩=>?_
  have:=VOk.le hr34
  have:=VOk.cap hr34
  have:([y1]:List (List Cel)).length=1:=rfl
  have:(hRows++([y1]:List (List Cel))).length=hRows.length+1:=List.length_append
  refine zhp [6] 1 (zml 8 127) [(88,pt b5 1)] ?_
  refine zho 7 [bx b4 (A0 FrmC.zero ⟨none,0,0⟩) 26,bx b3 (D9 at_) 24,bx b2 (A0 g ⟨gRowsq,gRows.length,gRowsk⟩) 26,bx b1 (A0 f ⟨fQ,fR.length,fK⟩) 26] (zml 8 255) rfl (M6 (us:=[.slice (va r33.q) ((hRows++([y1]:List (List Cel))).length) r33.k]) (cs':=A0 f ⟨va r33.q,(hRows++([y1]:List (List Cel))).length,r33.k⟩) C6n rfl rfl rfl 0 rfl rfl rfl rfl rfl rfl) (fun _=>(mc [[bx b5 (A0 f ⟨va r33.q,(hRows++([y1]:List (List Cel))).length,r33.k⟩) 26],[bx b4 (A0 FrmC.zero ⟨none,0,0⟩) 26],[bx b3 (D9 at_) 24],[bx b2 (A0 g ⟨gRowsq,gRows.length,gRowsk⟩) 26],[bx b1 (A0 f ⟨fQ,fR.length,fK⟩) 26],vo B8 69 r33 (hRowsrs++([⟨va r29.q,y1.length,r29.k⟩]:List Slc))] [false,true,true,true,true,false] rfl (by first|rfl|(simp only [List.length_set]<;>rfl)))) (fun _=>(A5.pick [4,5,6,7,8,9] rfl)) fun _=>?_
  refine A9f (by kernel_rfl) ?_
  refine nx (A3 3 rfl (ip' 1 2 [(19,iv (i:Int))] ?_))
  refine ix rfl (B2 rfl rfl rfl rfl (by omega)) ?_
  refine ip' 1 0 [(8,iv ((i:Int)+1))] ?_
  refine A1 ?_
  exact A9k (z1:=i) (z2:=hRows) (z3:=hRowsr) (z4:=hRowsrs) (i+1) (hRows++([y1]:List (List Cel))) r33 (hRowsrs++([⟨va r29.q,y1.length,r29.k⟩]:List Slc)) ⟨(by omega),hR,hr34,hw35,(by (simp only [List.length_append,List.length_cons,List.length_nil];omega))⟩ (by (try dsimp only);omega) (mc [[bx b5 (A0 f ⟨va r33.q,(hRows++([y1]:List (List Cel))).length,r33.k⟩) 26],[bx b4 (A0 FrmC.zero ⟨none,0,0⟩) 26],[bx b3 (D9 at_) 24],[bx b2 (A0 g ⟨gRowsq,gRows.length,gRowsk⟩) 26],[bx b1 (A0 f ⟨fQ,fR.length,fK⟩) 26],vo B8 69 r33 (hRowsrs++([⟨va r29.q,y1.length,r29.k⟩]:List Slc))] [true,true,true,true,true,true] rfl (by first|rfl|(simp only [List.length_set]<;>rfl))) (A5.pick [5,6,7,8,0] rfl)
 have h7p:¬ ((i:Int)<(fR.length:Int)):=by simpa using h7
 rw [U6 h7p] at hR;replace hR:=(S2.eq_1 ..).symm.trans hR
 refine F9 (nx (sr 2 rfl (zrg 2 0 [0,1] [] (bx b5 (A0 f ⟨va hRowsr.q,hRows.length,hRowsr.k⟩) 26::bx b4 (A0 f ⟨va hRowsr.q,hRows.length,hRowsr.k⟩) 26::bx b3 (D9 at_) 24::bx b2 (A0 g ⟨gRowsq,gRows.length,gRowsk⟩) 26::bx b1 (A0 f ⟨fQ,fR.length,fK⟩) 26::(vo B8 69 hRowsr hRowsrs)++([])) ?_)))
 subst hR
 refine ie (A9 ?_)
 exact zer hr hD (U2 rfl (K2 (us:=A0 f ⟨va hRowsr.q,hRows.length,hRowsr.k⟩) A7i rfl 1 rfl rfl rfl)) ⟨(hRowsr,hRowsrs),⟨hokhRowsr,hrowshRowsrs⟩⟩ (mc [[bx b5 (A0 f ⟨va hRowsr.q,hRows.length,hRowsr.k⟩) 26],[bx b4 (A0 f ⟨va hRowsr.q,hRows.length,hRowsr.k⟩) 26],[bx b3 (D9 at_) 24],[bx b2 (A0 g ⟨gRowsq,gRows.length,gRowsk⟩) 26],[bx b1 (A0 f ⟨fQ,fR.length,fK⟩) 26],vo B8 69 hRowsr hRowsrs] [false,false,false,false,false,true] rfl (by first|rfl|(simp only [List.length_set]<;>rfl))) (A5.con1 (B7 4 rfl) fn0)
def A1a (f:FrmC) (fR:List (List Cel)) (g:FrmC) (gRows:List (List Cel)) (at_:Plc):Bool :=
 (bif (!A3h) then false else (E8 (Q7 f fR g gRows at_) fun (y0:FrmC×List (List Cel)×Int)=>(bif ((!(K6 f fR))||(!(K6 g gRows))) then ((decide (y0.2.2=330))&&(decide ((y0.2.1.length:Int)=0))) else (bif (!(A0b f fR at_.row at_.col (gRows.length:Int) g.cols)) then ((decide (y0.2.2=2))&&(decide ((y0.2.1.length:Int)=0))) else (bif (decide (y0.2.2=0)) then (E8 (A6n f fR g gRows at_) fun (y2:FrmC×List (List Cel))=>(A1b y0.1 y0.2.1 y2.1 y2.2)) else false)))))
theorem B1m (f:FrmC) (fR:List (List Cel)) (g:FrmC) (gRows:List (List Cel)) (at_:Plc) (fQ:Option Addr) (fZ:List Slc) (fK:Nat) (gRowsq:Option Addr) (gRowsrs:List Slc) (gRowsk:Nat) (hrowsfRowsrs:C7 fZ fR) (hlfRows:fR.length≤9223372036854775807) (hcfRows:fR.length≤fK) (hrowsgRowsrs:C7 gRowsrs gRows) (hlgRows:gRows.length≤9223372036854775807) (hcgRows:gRows.length≤gRowsk) (hT:f.title.length≤100000000) (hTg:g.title.length≤100000000) (R:Bool) (hR:A1a f fR g gRows at_=R):K4 Tryz.prog 8 [ag (A0 f ⟨fQ,fR.length,fK⟩),ag (A0 g ⟨gRowsq,gRows.length,gRowsk⟩),ag (D9 at_)] [sl B8 fQ fZ,F0 A6 fZ fR,sl B8 gRowsq gRowsrs,F0 A6 gRowsrs gRows,A3q,A3p] (bv R):=by
 refine zco Tryz.func8 [(0,ag (A0 f ⟨fQ,fR.length,fK⟩)),(1,ag (A0 g ⟨gRowsq,gRows.length,gRowsk⟩)),(2,ag (D9 at_))] fun X hX hr hD=>?_
 replace hR:=(A1a.eq_1 ..).symm.trans hR
 have:=hrowsfRowsrs.1
 have:=hrowsgRowsrs.1
 refine sr 4 rfl (C7u 4 0 [] (fun b1 b2 b3=>[(3,pt b1 0),(4,pt b2 0),(5,pt b3 0)]) (fun b1 b2 b3=>[bx b3 (D9 at_) 24,bx b2 (A0 g ⟨gRowsq,gRows.length,gRowsk⟩) 26,bx b1 (A0 f ⟨fQ,fR.length,fK⟩) 26]) (fun b1 b2 b3=>?_))
 refine ie (A2 (sr 2 rfl (zca (B6u _ rfl) (A5.pick [4,5] rfl) ?_)))
 refine ip' 1 0 [(10,bv (!A3h))] ?_
 refine ie ?_
 refine zjb rfl hR ?_ ?_<;>clear hR<;>intro hR h4
 ·refine sr 1 rfl (ip' 1 0 [(6,bv false)] ?_)
  subst hR
  refine ie (A9 ?_)
  exact E7 hr hD
 refine A4 (nx (sr 10 rfl (zrl 3 7 [2,1,0] [(12,ag (A0 f ⟨fQ,fR.length,fK⟩)),(13,ag (A0 g ⟨gRowsq,gRows.length,gRowsk⟩)),(14,ag (D9 at_))] ?_)))
 have hQ:=G5 hR;clear hR;obtain ⟨y0,hy0,hR⟩:=hQ
 refine it rfl (I4 (L2:=[bx b3 (D9 at_) 24,bx b2 (A0 g ⟨gRowsq,gRows.length,gRowsk⟩) 26,bx b1 (A0 f ⟨fQ,fR.length,fK⟩) 26]) (B3r f fR g gRows at_ fQ fZ fK gRowsq gRowsrs gRowsk hrowsfRowsrs (by first|omega|(simp only [List.length_take,List.length_drop,List.length_append,List.length_cons,List.length_nil,List.length_set,List.length_map];omega)|decide) (by first|omega|(simp only [List.length_take,List.length_drop,List.length_append,List.length_cons,List.length_nil,List.length_set,List.length_map];omega)|decide) hrowsgRowsrs (by first|omega|(simp only [List.length_take,List.length_drop,List.length_append,List.length_cons,List.length_nil,List.length_set,List.length_map];omega)|decide) (by first|omega|(simp only [List.length_take,List.length_drop,List.length_append,List.length_cons,List.length_nil,List.length_set,List.length_map];omega)|decide) (by first|omega|(simp only [List.length_nil];omega)|(dsimp only;omega)) (by first|omega|(simp only [List.length_nil];omega)|(dsimp only;omega)) y0 hy0) rfl rfl rfl rfl rfl A5.refl (List.Perm.refl _) (fun ⟨⟨r5,rs6⟩,hp9⟩=>(bx b3 (D9 at_) 24::bx b2 (A0 g ⟨gRowsq,gRows.length,gRowsk⟩) 26::bx b1 (A0 f ⟨fQ,fR.length,fK⟩) 26::(vo B8 69 r5 rs6)++([]))) (fun ⟨⟨r5,rs6⟩,hp9⟩=>H3 [vo B8 69 r5 rs6,[bx b3 (D9 at_) 24],[bx b2 (A0 g ⟨gRowsq,gRows.length,gRowsk⟩) 26],[bx b1 (A0 f ⟨fQ,fR.length,fK⟩) 26]] [1,2,3,0] 4 rfl (by decide) (by first|rfl|simp only [List.flatten_cons,List.flatten_nil,List.append_nil,List.cons_append,List.nil_append,List.append_assoc]) [[bx b3 (D9 at_) 24],[bx b2 (A0 g ⟨gRowsq,gRows.length,gRowsk⟩) 26],[bx b1 (A0 f ⟨fQ,fR.length,fK⟩) 26],vo B8 69 r5 rs6] rfl (by first|rfl|simp only [List.flatten_cons,List.flatten_nil,List.append_nil,List.cons_append,List.nil_append,List.append_assoc]))) fun ⟨⟨r5,rs6⟩,hp9⟩=>?_
 try dsimp only at hp9
 obtain ⟨hk7,hw8⟩:=hp9
 have:=VOk.le hk7
 have:=VOk.cap hk7
 have:=hw8.1
 have ht_rframePut:=A7p f fR g gRows at_;rw [hy0] at ht_rframePut
 refine Q8 [bx b3 (D9 at_) 24,bx b2 (A0 g ⟨gRowsq,gRows.length,gRowsk⟩) 26,bx b1 (A0 f ⟨fQ,fR.length,fK⟩) 26] [] (T:=69) (c:=B8) (r:=r5) (xs:=rs6) (VOk.cast hk7 (by rw [hw8.1])) (by first|rfl|simp only [List.cons_append,List.append_assoc,List.nil_append,List.append_nil]) ?_
 refine K1 6 0 [0] (fun b10=>[(7,pt b10 0),(8,iv y0.2.2)]) (fun b10=>[bx b10 (A0 y0.1 ⟨va r5.q,y0.2.1.length,r5.k⟩) 26,bx b3 (D9 at_) 24,bx b2 (A0 g ⟨gRowsq,gRows.length,gRowsk⟩) 26,bx b1 (A0 f ⟨fQ,fR.length,fK⟩) 26]) (fun b10=>?_)
 refine ie (A2 (B0 (sr 9 rfl (zrl 1 8 [3] [(19,ag (A0 f ⟨fQ,fR.length,fK⟩))] ?_))))
 refine zca (A9t f fR fQ fZ fK hrowsfRowsrs (by first|omega|(simp only [List.length_take,List.length_drop,List.length_append,List.length_cons,List.length_nil,List.length_set,List.length_map];omega)|decide) (by first|omega|(simp only [List.length_take,List.length_drop,List.length_append,List.length_cons,List.length_nil,List.length_set,List.length_map];omega)|decide) (by first|omega|(simp only [List.length_nil];omega)|(dsimp only;omega)) _ rfl) (A5.pick [2,3] rfl) ?_
 refine ip' 2 5 [(22,bv (!(K6 f fR)))] ?_
 refine zio 4 1 22 26 (!(K6 g gRows)) (fun g11=>?_) ?_
 ·refine zrl 1 3 [2] [(23,ag (A0 g ⟨gRowsq,gRows.length,gRowsk⟩))] ?_
  refine zca (A9t g gRows gRowsq gRowsrs gRowsk hrowsgRowsrs (by first|omega|(simp only [List.length_take,List.length_drop,List.length_append,List.length_cons,List.length_nil,List.length_set,List.length_map];omega)|decide) (by first|omega|(simp only [List.length_take,List.length_drop,List.length_append,List.length_cons,List.length_nil,List.length_set,List.length_map];omega)|decide) (by first|omega|(simp only [List.length_nil];omega)|(dsimp only;omega)) _ rfl) (A5.pick [4,5] rfl) ?_
  refine ip' 2 0 [(26,bv (!(K6 g gRows)))] ?_
  exact zai 4 22 26 g11
 refine ip' 1 0 [(18,bv ((!(K6 f fR))||(!(K6 g gRows))))] ?_
 refine ie ?_
 refine zjb rfl hR ?_ ?_<;>clear hR<;>intro hR h12
 ·have h12p:=h12;try simp only [Bool.and_eq_true,Bool.or_eq_true,Bool.and_eq_false_iff,Bool.or_eq_false_iff,Bool.not_eq_true',Bool.not_eq_false',decide_eq_true_eq,decide_eq_false_iff_not] at h12p
  refine sr 9 rfl (ip' 3 6 [(29,bv (decide (y0.2.2=330)))] ?_)
  refine zid 5 1 29 34 (decide ((y0.2.1.length:Int)=0)) (fun g13 g13p=>?_) ?_
  ·refine zrl 5 0 [0] [(34,bv (decide ((y0.2.1.length:Int)=0)))] ?_
   exact zai 2 29 34 g13
  refine ip' 1 0 [(6,bv ((decide (y0.2.2=330))&&(decide ((y0.2.1.length:Int)=0))))] ?_
  subst hR
  refine ie (A9 ?_)
  exact E7 hr hD
 have h12p:=h12;try simp only [Bool.and_eq_true,Bool.or_eq_true,Bool.and_eq_false_iff,Bool.or_eq_false_iff,Bool.not_eq_true',Bool.not_eq_false',decide_eq_true_eq,decide_eq_false_iff_not] at h12p
 have hrr:K6 f fR=true∧K6 g gRows=true:=by simpa using h12
 have hro:=A8a hrr.1
 have hgo:=A8a hrr.2
 refine sr 14 rfl (zrl 11 3 [3,1,1,2,2] [(36,ag (A0 f ⟨fQ,fR.length,fK⟩)),(46,ag [iv at_.row,iv at_.col,iv (gRows.length:Int),iv g.cols])] ?_)
 refine zca (C0h f fR at_.row at_.col (gRows.length:Int) g.cols fQ fZ fK hrowsfRowsrs (by first|omega|(simp only [List.length_take,List.length_drop,List.length_append,List.length_cons,List.length_nil,List.length_set,List.length_map];omega)|decide) (by first|omega|(simp only [List.length_take,List.length_drop,List.length_append,List.length_cons,List.length_nil,List.length_set,List.length_map];omega)|decide) _ rfl) (A5.pick [2,3] rfl) ?_
 refine ip' 2 0 [(35,bv (!(A0b f fR at_.row at_.col (gRows.length:Int) g.cols)))] ?_
 refine ie ?_
 refine zjb rfl hR ?_ ?_<;>clear hR<;>intro hR h14
 ·refine sr 9 rfl (ip' 3 6 [(51,bv (decide (y0.2.2=2)))] ?_)
  refine zid 5 1 51 56 (decide ((y0.2.1.length:Int)=0)) (fun g15 g15p=>?_) ?_
  ·refine zrl 5 0 [0] [(56,bv (decide ((y0.2.1.length:Int)=0)))] ?_
   exact zai 2 51 56 g15
  refine ip' 1 0 [(6,bv ((decide (y0.2.2=2))&&(decide ((y0.2.1.length:Int)=0))))] ?_
  subst hR
  refine ie (A9 ?_)
  exact E7 hr hD
 have hls:=B7g (by simpa using h14)
 have hpm:C3t 0 at_ g gRows f fR:=⟨A9w.of hro,A9w.of hgo,by omega,by omega,by omega,by omega,by omega,by omega,by omega⟩
 refine A4 (nx (sh 11 [(11,[bx b10 (A0 y0.1 ⟨va r5.q,y0.2.1.length,r5.k⟩) 26]),(11,[bx b3 (D9 at_) 24]),(11,[bx b2 (A0 g ⟨gRowsq,gRows.length,gRowsk⟩) 26]),(11,[bx b1 (A0 f ⟨fQ,fR.length,fK⟩) 26])] [sl B8 (va r5.q) rs6,F0 A6 rs6 y0.2.1,sl B8 fQ fZ,F0 A6 fZ fR,sl B8 gRowsq gRowsrs,F0 A6 gRowsrs gRows,A3q,A3p] [bx b10 (A0 y0.1 ⟨va r5.q,y0.2.1.length,r5.k⟩) 26,bx b3 (D9 at_) 24,bx b2 (A0 g ⟨gRowsq,gRows.length,gRowsk⟩) 26,bx b1 (A0 f ⟨fQ,fR.length,fK⟩) 26] (zml 11 0) (by kernel_rfl) rfl (by kernel_rfl) (by kernel_rfl) (by kernel_rfl) (mk [true,true,true,true] rfl) A5.refl ?_))
 refine zhp [0,1,2] 8 (zml 11 7) [(59,bv (decide (y0.2.2=0)))] ?_
 refine C1i 59 _ rfl (fun g16=>?_) (fun g16=>?_)
 ·have g16p:y0.2.2=0:=by simpa using g16
  replace hR:=bt hR g16
  refine zhl 3 [bx b10 (A0 y0.1 ⟨va r5.q,y0.2.1.length,r5.k⟩) 26,bx b3 (D9 at_) 24,bx b2 (A0 g ⟨gRowsq,gRows.length,gRowsk⟩) 26,bx b1 (A0 f ⟨fQ,fR.length,fK⟩) 26] (zml 11 15) rfl (N4 (us:=A0 y0.1 ⟨va r5.q,y0.2.1.length,r5.k⟩) A7i rfl rfl 0 rfl rfl rfl) ?_
  refine zhl 4 [bx b10 (A0 y0.1 ⟨va r5.q,y0.2.1.length,r5.k⟩) 26,bx b3 (D9 at_) 24,bx b2 (A0 g ⟨gRowsq,gRows.length,gRowsk⟩) 26,bx b1 (A0 f ⟨fQ,fR.length,fK⟩) 26] (zml 11 31) rfl (N4 (us:=A0 f ⟨fQ,fR.length,fK⟩) A7i rfl rfl 3 rfl rfl rfl) ?_
  refine zhl 5 [bx b10 (A0 y0.1 ⟨va r5.q,y0.2.1.length,r5.k⟩) 26,bx b3 (D9 at_) 24,bx b2 (A0 g ⟨gRowsq,gRows.length,gRowsk⟩) 26,bx b1 (A0 f ⟨fQ,fR.length,fK⟩) 26] (zml 11 63) rfl (N4 (us:=A0 g ⟨gRowsq,gRows.length,gRowsk⟩) A7i rfl rfl 2 rfl rfl rfl) ?_
  refine zhl 6 [bx b10 (A0 y0.1 ⟨va r5.q,y0.2.1.length,r5.k⟩) 26,bx b3 (D9 at_) 24,bx b2 (A0 g ⟨gRowsq,gRows.length,gRowsk⟩) 26,bx b1 (A0 f ⟨fQ,fR.length,fK⟩) 26] (zml 11 127) rfl (N4 (us:=D9 at_) D5p rfl rfl 1 rfl rfl rfl) ?_
  have hQ:=G5 hR;clear hR;obtain ⟨y2,hy2,hR⟩:=hQ
  refine zho 7 [bx b10 (A0 y0.1 ⟨va r5.q,y0.2.1.length,r5.k⟩) 26,bx b3 (D9 at_) 24,bx b2 (A0 g ⟨gRowsq,gRows.length,gRowsk⟩) 26,bx b1 (A0 f ⟨fQ,fR.length,fK⟩) 26] (zml 11 255) rfl (I4 (L2:=[bx b10 (A0 y0.1 ⟨va r5.q,y0.2.1.length,r5.k⟩) 26,bx b3 (D9 at_) 24,bx b2 (A0 g ⟨gRowsq,gRows.length,gRowsk⟩) 26,bx b1 (A0 f ⟨fQ,fR.length,fK⟩) 26]) (C1f f fR g gRows at_ fQ fZ fK gRowsq gRowsrs gRowsk hrowsfRowsrs (by first|omega|(simp only [List.length_take,List.length_drop,List.length_append,List.length_cons,List.length_nil,List.length_set,List.length_map];omega)|decide) (by first|omega|(simp only [List.length_take,List.length_drop,List.length_append,List.length_cons,List.length_nil,List.length_set,List.length_map];omega)|decide) hrowsgRowsrs (by first|omega|(simp only [List.length_take,List.length_drop,List.length_append,List.length_cons,List.length_nil,List.length_set,List.length_map];omega)|decide) (by first|omega|(simp only [List.length_take,List.length_drop,List.length_append,List.length_cons,List.length_nil,List.length_set,List.length_map];omega)|decide) (by exact hpm) y2 hy2) rfl rfl rfl rfl rfl (A5.pick [2,3,4,5] rfl) (List.Perm.refl _) (fun ⟨⟨r17,rs18⟩,hp21⟩=>(bx b10 (A0 y0.1 ⟨va r5.q,y0.2.1.length,r5.k⟩) 26::bx b3 (D9 at_) 24::bx b2 (A0 g ⟨gRowsq,gRows.length,gRowsk⟩) 26::bx b1 (A0 f ⟨fQ,fR.length,fK⟩) 26::(vo B8 69 r17 rs18)++([]))) (fun ⟨⟨r17,rs18⟩,hp21⟩=>H3 [vo B8 69 r17 rs18,[bx b10 (A0 y0.1 ⟨va r5.q,y0.2.1.length,r5.k⟩) 26],[bx b3 (D9 at_) 24],[bx b2 (A0 g ⟨gRowsq,gRows.length,gRowsk⟩) 26],[bx b1 (A0 f ⟨fQ,fR.length,fK⟩) 26]] [1,2,3,4,0] 5 rfl (by decide) (by first|rfl|simp only [List.flatten_cons,List.flatten_nil,List.append_nil,List.cons_append,List.nil_append,List.append_assoc]) [[bx b10 (A0 y0.1 ⟨va r5.q,y0.2.1.length,r5.k⟩) 26],[bx b3 (D9 at_) 24],[bx b2 (A0 g ⟨gRowsq,gRows.length,gRowsk⟩) 26],[bx b1 (A0 f ⟨fQ,fR.length,fK⟩) 26],vo B8 69 r17 rs18] rfl (by first|rfl|simp only [List.flatten_cons,List.flatten_nil,List.append_nil,List.cons_append,List.nil_append,List.append_assoc]))) (fun ⟨⟨r17,rs18⟩,hp21⟩=>(mc [[bx b10 (A0 y0.1 ⟨va r5.q,y0.2.1.length,r5.k⟩) 26],[bx b3 (D9 at_) 24],[bx b2 (A0 g ⟨gRowsq,gRows.length,gRowsk⟩) 26],[bx b1 (A0 f ⟨fQ,fR.length,fK⟩) 26],vo B8 69 r17 rs18] [true,true,true,true,false] rfl (by first|rfl|(simp only [List.length_set]<;>rfl)))) (fun ⟨⟨r17,rs18⟩,hp21⟩=>(A5.pick [1,2,3,4,5,6,7,8] rfl)) fun ⟨⟨r17,rs18⟩,hp21⟩=>?_
  try dsimp only at hp21
  obtain ⟨hk19,hw20⟩:=hp21
  have:=VOk.le hk19
  have:=VOk.cap hk19
  have:=hw20.1
  have:=VOk.cap hk19
  have:=VOk.le hk19
  refine C5e [bx b10 (A0 y0.1 ⟨va r5.q,y0.2.1.length,r5.k⟩) 26,bx b3 (D9 at_) 24,bx b2 (A0 g ⟨gRowsq,gRows.length,gRowsk⟩) 26,bx b1 (A0 f ⟨fQ,fR.length,fK⟩) 26] [] (T:=69) (c:=B8) (r:=r17) (xs:=rs18) (VOk.cast hk19 (by rw [hw20.1])) (by first|rfl|simp only [List.cons_append,List.append_assoc,List.nil_append,List.append_nil]) [bx b10 (A0 y0.1 ⟨va r5.q,y0.2.1.length,r5.k⟩) 26,bx b3 (D9 at_) 24,bx b2 (A0 g ⟨gRowsq,gRows.length,gRowsk⟩) 26,bx b1 (A0 f ⟨fQ,fR.length,fK⟩) 26] rfl (mk [true,true,true,true] rfl) ?_
  refine zho 8 [bx b10 (A0 y0.1 ⟨va r5.q,y0.2.1.length,r5.k⟩) 26,bx b3 (D9 at_) 24,bx b2 (A0 g ⟨gRowsq,gRows.length,gRowsk⟩) 26,bx b1 (A0 f ⟨fQ,fR.length,fK⟩) 26] (zml 11 511) rfl (Det.tri (B1j (C0f y0.1 y0.2.1 y2.1 y2.2 (va r5.q) rs6 r5.k (va r17.q) rs18 r17.k hw8 (by first|omega|(simp only [List.length_take,List.length_drop,List.length_append,List.length_cons,List.length_nil,List.length_set,List.length_map];omega)|decide) (by first|omega|(simp only [List.length_take,List.length_drop,List.length_append,List.length_cons,List.length_nil,List.length_set,List.length_map];omega)|decide) hw20 (by first|omega|(simp only [List.length_take,List.length_drop,List.length_append,List.length_cons,List.length_nil,List.length_set,List.length_map];omega)|decide) (by first|omega|(simp only [List.length_take,List.length_drop,List.length_append,List.length_cons,List.length_nil,List.length_set,List.length_map];omega)|decide) _ rfl) rfl rfl rfl rfl rfl (A5.pick [2,3,0,1] rfl))) (fun _=>(mk [true,true,true,true] rfl)) (fun _=>(A5.pick [2,3,4,5,6,7,8,9] rfl)) fun _=>?_
  refine zhp [9,10] 0 (zml 11 2047) [(6,bv (A1b y0.1 y0.2.1 y2.1 y2.2))] ?_
  refine B0g (by kernel_rfl) ?_
  subst hR
  refine A9 ?_
  exact E7 hr hD
 ·have g16p:¬ (y0.2.2=0):=by simpa using g16
  replace hR:=bf hR g16
  refine zhp [3,4,5,6,7,8,9,10] 0 (zml 11 2047) [(6,bv false)] ?_
  refine B0g (by kernel_rfl) ?_
  subst hR
  refine A9 ?_
  exact E7 hr hD
end Go.Proofs.YthcjfkljekdioaaGreatDoor
