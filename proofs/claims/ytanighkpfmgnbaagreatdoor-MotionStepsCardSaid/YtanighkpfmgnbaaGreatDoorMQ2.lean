import Derived.Test.YtanighkpfmgnbaaGreatDoorProg
import Derived.Test.YtanighkpfmgnbaaGreatDoorMA2
import Derived.Test.YtanighkpfmgnbaaGreatDoorMB1
import Derived.Test.YtanighkpfmgnbaaGreatDoorMA3
import Derived.Test.YtanighkpfmgnbaaGreatDoorMB2
import Derived.Test.YtanighkpfmgnbaaGreatDoorMB3
import Derived.Test.YtanighkpfmgnbaaGreatDoorMQ1
set_option linter.unusedVariables false
set_option linter.unusedSimpArgs false
set_option linter.unnecessarySimpa false
set_option maxRecDepth 100000
namespace Go.Proofs.YtanighkpfmgnbaaGreatDoor
open Go Go.Fen
theorem C3p:Ty Tryz.prog 52 3 true:=⟨by kernel_rfl⟩
def A0b (cols:Int) (rows:Int) (c:Cur):Bool :=
 (bif ((((((((decide (cols<2))||(decide ((80:Int)<cols)))||(decide (rows<1)))||(decide ((40:Int)<rows)))||(decide (c.row<0)))||(decide (rows≤c.row)))||(decide (c.col<0)))||(decide (cols≤c.col))) then false else ((!c.wrap)||(decide (c.col=(IntKind.i64.wrap (cols - (1:Int)))))))
theorem C4i (cols:Int) (rows:Int) (c:Cur) (R:Bool) (hR:A0b cols rows c=R):K0 Tryz.prog 27 [iv cols,iv rows,ag (E8 c)] [] (bv R):=by
 refine zco Tryz.func27 [(0,iv cols),(1,iv rows),(2,ag (E8 c))] fun X hX hr hD=>?_
 replace hR:=(A0b.eq_1 ..).symm.trans hR
 refine sr 2 rfl (N3 2 0 [] (fun b1=>[(5,pt b1 0)]) (fun b1=>[bx b1 (E8 c) 52]) (fun b1=>(ie (A8 (sr 36 rfl (ip' 3 33 [(9,bv (decide (cols<2)))] ?_))))))
 refine zir 3 30 9 12 (decide ((80:Int)<cols)) (fun g2 g2p=>?_) ?_
 ·refine ip' 3 0 [(12,bv (decide ((80:Int)<cols)))] ?_
  exact A6 (Q5 2 9 12 g2 fn0 (mk [true] rfl) rfl rfl rfl rfl rfl)
 refine ip' 1 29 [(13,bv ((decide (cols<2))||(decide ((80:Int)<cols))))] ?_
 refine zio 3 26 13 16 (decide (rows<1)) (fun g3=>?_) ?_
 ·have g3p:¬ ((cols<2)∨((80:Int)<cols)):=by simpa using g3
  refine ip' 3 0 [(16,bv (decide (rows<1)))] ?_
  exact A6 (Q5 2 13 16 g3 fn0 (mk [true] rfl) rfl rfl rfl rfl rfl)
 refine ip' 1 25 [(17,bv (((decide (cols<2))||(decide ((80:Int)<cols)))||(decide (rows<1))))] ?_
 refine zio 3 22 17 20 (decide ((40:Int)<rows)) (fun g4=>?_) ?_
 ·have g4p:¬ (((cols<2)∨((80:Int)<cols))∨(rows<1)):=by simpa using g4
  refine ip' 3 0 [(20,bv (decide ((40:Int)<rows)))] ?_
  exact A6 (Q5 2 17 20 g4 fn0 (mk [true] rfl) rfl rfl rfl rfl rfl)
 refine ip' 1 21 [(21,bv ((((decide (cols<2))||(decide ((80:Int)<cols)))||(decide (rows<1)))||(decide ((40:Int)<rows))))] ?_
 refine zio 4 17 21 25 (decide (c.row<0)) (fun g5=>?_) ?_
 ·have g5p:¬ ((((cols<2)∨((80:Int)<cols))∨(rows<1))∨((40:Int)<rows)):=by simpa using g5
  refine zrl 4 0 [0] [(25,bv (decide (c.row<0)))] ?_
  exact A6 (Q5 2 21 25 g5 fn0 (mk [true] rfl) rfl rfl rfl rfl rfl)
 refine ip' 1 16 [(26,bv (((((decide (cols<2))||(decide ((80:Int)<cols)))||(decide (rows<1)))||(decide ((40:Int)<rows)))||(decide (c.row<0))))] ?_
 refine zio 5 11 26 31 (decide (rows≤c.row)) (fun g6=>?_) ?_
 ·have g6p:¬ (((((cols<2)∨((80:Int)<cols))∨(rows<1))∨((40:Int)<rows))∨(c.row<0)):=by simpa using g6
  refine zrl 5 0 [0] [(31,bv (decide (rows≤c.row)))] ?_
  exact A6 (Q5 2 26 31 g6 fn0 (mk [true] rfl) rfl rfl rfl rfl rfl)
 refine ip' 1 10 [(32,bv ((((((decide (cols<2))||(decide ((80:Int)<cols)))||(decide (rows<1)))||(decide ((40:Int)<rows)))||(decide (c.row<0)))||(decide (rows≤c.row))))] ?_
 refine zio 4 6 32 36 (decide (c.col<0)) (fun g7=>?_) ?_
 ·have g7p:¬ ((((((cols<2)∨((80:Int)<cols))∨(rows<1))∨((40:Int)<rows))∨(c.row<0))∨(rows≤c.row)):=by simpa using g7
  refine zrl 4 0 [0] [(36,bv (decide (c.col<0)))] ?_
  exact A6 (Q5 2 32 36 g7 fn0 (mk [true] rfl) rfl rfl rfl rfl rfl)
 refine ip' 1 5 [(37,bv (((((((decide (cols<2))||(decide ((80:Int)<cols)))||(decide (rows<1)))||(decide ((40:Int)<rows)))||(decide (c.row<0)))||(decide (rows≤c.row)))||(decide (c.col<0))))] ?_
 refine zio 5 0 37 42 (decide (cols≤c.col)) (fun g8=>?_) ?_
 ·have g8p:¬ (((((((cols<2)∨((80:Int)<cols))∨(rows<1))∨((40:Int)<rows))∨(c.row<0))∨(rows≤c.row))∨(c.col<0)):=by simpa using g8
  refine zrl 5 0 [0] [(42,bv (decide (cols≤c.col)))] ?_
  exact A6 (Q5 2 37 42 g8 fn0 (mk [true] rfl) rfl rfl rfl rfl rfl)
 refine ie ?_
 refine zjb rfl hR ?_ ?_<;>clear hR<;>intro hR h9
 ·have h9p:(((((((cols<2)∨((80:Int)<cols))∨(rows<1))∨((40:Int)<rows))∨(c.row<0))∨(rows≤c.row))∨(c.col<0))∨(cols≤c.col):=by simpa using h9
  refine sr 1 rfl (ip' 1 0 [(6,bv false)] ?_)
  subst hR
  refine ie (B2 ?_)
  exact G0 hr hD
 have h9p:¬ ((((((((cols<2)∨((80:Int)<cols))∨(rows<1))∨((40:Int)<rows))∨(c.row<0))∨(rows≤c.row))∨(c.col<0))∨(cols≤c.col)):=by simpa using h9
 refine B0 (nx (sr 11 rfl (zrl 4 7 [0] [(46,bv (!c.wrap))] ?_)))
 refine zio 6 1 46 52 (decide (c.col=(IntKind.i64.wrap (cols - (1:Int))))) (fun g10=>?_) ?_
 ·refine zrl 3 3 [0] [(48,iv c.col),(49,iv cols)] (ix rfl (G7.pure rfl) (ip' 2 0 [(52,bv (decide (c.col=(IntKind.i64.wrap (cols - (1:Int))))))] ?_))
  exact A6 (Q5 5 46 52 g10 fn0 (mk [true] rfl) rfl rfl rfl rfl rfl)
 refine ip' 1 0 [(6,bv ((!c.wrap)||(decide (c.col=(IntKind.i64.wrap (cols - (1:Int)))))))] ?_
 subst hR
 refine ie (B2 ?_)
 exact G0 hr hD
theorem D3g {cols rows:Int} {c:Cur} (h:A0b cols rows c=true):(2≤cols∧cols≤80∧1≤rows∧rows≤40)∧(0≤c.row∧c.row<rows∧0≤c.col∧c.col<cols)∧(c.wrap=true→c.col=cols - 1):=by
 unfold A0b at h
 by_cases hb:(2≤cols∧cols≤80∧1≤rows∧rows≤40)∧(0≤c.row∧c.row<rows∧0≤c.col∧c.col<cols)
 ·rw [show ((((((((decide (cols<2))||(decide ((80:Int)<cols)))||(decide (rows<1)))||(decide ((40:Int)<rows)))||(decide (c.row<0)))||(decide (rows≤c.row)))||(decide (c.col<0)))||(decide (cols≤c.col)))=false by simp only [Bool.or_eq_false_iff,decide_eq_false_iff_not];omega] at h
  refine ⟨hb.1,hb.2,fun hw=>?_⟩
  have h:((!c.wrap)||(decide (c.col=(IntKind.i64.wrap (cols - (1:Int))))))=true:=h
  rw [hw,B7o (by show (-9223372036854775808:Int)≤_;omega) (by show _≤(9223372036854775807:Int);omega)] at h
  exact of_decide_eq_true h
 ·rw [show ((((((((decide (cols<2))||(decide ((80:Int)<cols)))||(decide (rows<1)))||(decide ((40:Int)<rows)))||(decide (c.row<0)))||(decide (rows≤c.row)))||(decide (c.col<0)))||(decide (cols≤c.col)))=true by simp only [Bool.or_eq_true,decide_eq_true_eq];omega] at h
  cases h
theorem C8c {n m:Int} (h:0≤n∧n≤3) (hm:-1000≤m∧m≤1000):(-1000≤([(-m),m,0,0]:List Int).getD n.toNat 0∧([(-m),m,0,0]:List Int).getD n.toNat 0≤1000)∧(-1000≤([0,0,m,(-m)]:List Int).getD n.toNat 0∧([0,0,m,(-m)]:List Int).getD n.toNat 0≤1000):=by
 obtain ⟨k,rfl⟩:∃ k:Nat,n=k:=⟨n.toNat,by omega⟩
 rcases (by omega:k=0∨k=1∨k=2∨k=3) with rfl | rfl | rfl | rfl
 ·show (-1000≤-m∧-m≤1000)∧(-1000≤(0:Int)∧(0:Int)≤1000);omega
 ·show (-1000≤m∧m≤1000)∧(-1000≤(0:Int)∧(0:Int)≤1000);omega
 ·show (-1000≤(0:Int)∧(0:Int)≤1000)∧(-1000≤m∧m≤1000);omega
 ·show (-1000≤(0:Int)∧(0:Int)≤1000)∧(-1000≤-m∧-m≤1000);omega
def P5 (cols:Int) (rows:Int) (c:Cur) (a:Act):Cur :=
 (bif (decide (a.kind=5)) then {c with wrap:=false,row:=(c.row+1)} else (bif (decide (a.kind=3)) then {c with wrap:=false,col:=(c.col - 1)} else (bif (decide (a.kind=6)) then {c with wrap:=false,col:=0} else (bif (decide (a.kind=22)) then {c with wrap:=false,col:=(a.n - 1)} else (bif (decide (a.kind=19)) then (⟨(a.n - 1),(a.m - 1),false⟩:Cur) else (bif (decide (a.kind=20)) then (⟨(c.row+(([(-a.m),a.m,0,0]:List Int).getD ((a.n).toNat) 0)),(c.col+(([0,0,a.m,(-a.m)]:List Int).getD ((a.n).toNat) 0)),false⟩:Cur) else {c with wrap:=false}))))))
theorem C0d (cols:Int) (rows:Int) (c:Cur) (a:Act) (hc:0≤c.row∧c.row≤100∧0≤c.col∧c.col≤100) (ha:-1000≤a.n∧a.n≤1000∧-1000≤a.m∧a.m≤1000∧(a.kind=20→0≤a.n∧a.n≤3)) (R:Cur) (hR:P5 cols rows c a=R):K0 Tryz.prog 32 [iv cols,iv rows,ag (E8 c),ag (A7 a)] [] (ag (E8 R)):=by
 refine zco Tryz.func32 [(2,ag (E8 c)),(3,ag (A7 a))] fun X hX hr hD=>?_
 replace hR:=(P5.eq_1 ..).symm.trans hR
 refine sr 3 rfl (D2y 3 0 [] (fun b1 b2 b3=>[(6,pt b1 0),(7,pt b2 0),(8,pt b3 0)]) (fun b1 b2 b3=>[bx b3 (E8 Cur.zero) 52,bx b2 (A7 a) 26,bx b1 (E8 c) 52]) (fun b1 b2 b3=>(ie (sr 2 rfl (zrg 2 0 [2] [] [bx b3 (E8 Cur.zero) 52,bx b2 (A7 a) 26,bx b1 (E8 ({c with wrap:=false})) 52] (ie (A8 (sr 2 rfl (zrl 2 0 [1] [(11,iv a.kind)] (ie (B3 (sr 2 rfl (ip' 2 0 [(12,bv (decide (a.kind=5)))] (ie ?_))))))))))))))
 refine zjd rfl hR ?_ ?_<;>clear hR<;>intro hR h4 h4p
 ·refine A4 5 rfl (zrl 2 3 [2] [(15,iv c.row)] (ix rfl (B4 rfl rfl rfl rfl (by omega)) (zrg 2 0 [2] [] [bx b3 (E8 Cur.zero) 52,bx b2 (A7 a) 26,bx b1 (E8 ({c with wrap:=false,row:=(c.row+1)})) 52] (A6 (nx (sr 2 rfl (zrg 2 0 [2,0] [] [bx b3 (E8 ({c with wrap:=false,row:=(c.row+1)})) 52,bx b2 (A7 a) 26,bx b1 (E8 ({c with wrap:=false,row:=(c.row+1)})) 52] ?_)))))))
  subst hR
  refine ie (B2 ?_)
  exact zer hr hD (M3 rfl (D8 (us:=E8 ({c with wrap:=false,row:=(c.row+1)})) C3p rfl 0 rfl rfl rfl)) () (mk [false,false,false] rfl) fn0
 refine sr 2 rfl (ip' 2 0 [(18,bv (decide (a.kind=3)))] (ie ?_))
 refine zjd rfl hR ?_ ?_<;>clear hR<;>intro hR h5 h5p
 ·refine A4 5 rfl (zrl 2 3 [2] [(21,iv c.col)] (ix rfl (M4 rfl rfl rfl rfl (by omega)) (zrg 2 0 [2] [] [bx b3 (E8 Cur.zero) 52,bx b2 (A7 a) 26,bx b1 (E8 ({c with wrap:=false,col:=(c.col - 1)})) 52] (A6 (nx (sr 2 rfl (zrg 2 0 [2,0] [] [bx b3 (E8 ({c with wrap:=false,col:=(c.col - 1)})) 52,bx b2 (A7 a) 26,bx b1 (E8 ({c with wrap:=false,col:=(c.col - 1)})) 52] ?_)))))))
  subst hR
  refine ie (B2 ?_)
  exact zer hr hD (M3 rfl (D8 (us:=E8 ({c with wrap:=false,col:=(c.col - 1)})) C3p rfl 0 rfl rfl rfl)) () (mk [false,false,false] rfl) fn0
 refine sr 2 rfl (ip' 2 0 [(24,bv (decide (a.kind=6)))] (ie ?_))
 refine zjd rfl hR ?_ ?_<;>clear hR<;>intro hR h6 h6p
 ·refine A4 2 rfl (zrg 2 0 [2] [] [bx b3 (E8 Cur.zero) 52,bx b2 (A7 a) 26,bx b1 (E8 ({c with wrap:=false,col:=0})) 52] (A6 (nx (sr 2 rfl (zrg 2 0 [2,0] [] [bx b3 (E8 ({c with wrap:=false,col:=0})) 52,bx b2 (A7 a) 26,bx b1 (E8 ({c with wrap:=false,col:=0})) 52] ?_)))))
  subst hR
  refine ie (B2 ?_)
  exact zer hr hD (M3 rfl (D8 (us:=E8 ({c with wrap:=false,col:=0})) C3p rfl 0 rfl rfl rfl)) () (mk [false,false,false] rfl) fn0
 refine sr 2 rfl (ip' 2 0 [(27,bv (decide (a.kind=22)))] (ie ?_))
 refine zjd rfl hR ?_ ?_<;>clear hR<;>intro hR h7 h7p
 ·refine A4 5 rfl (zrl 2 3 [1] [(30,iv a.n)] (ix rfl (M4 rfl rfl rfl rfl (by omega)) (zrg 2 0 [2] [] [bx b3 (E8 Cur.zero) 52,bx b2 (A7 a) 26,bx b1 (E8 ({c with wrap:=false,col:=(a.n - 1)})) 52] (A6 (nx (sr 2 rfl (zrg 2 0 [2,0] [] [bx b3 (E8 ({c with wrap:=false,col:=(a.n - 1)})) 52,bx b2 (A7 a) 26,bx b1 (E8 ({c with wrap:=false,col:=(a.n - 1)})) 52] ?_)))))))
  subst hR
  refine ie (B2 ?_)
  exact zer hr hD (M3 rfl (D8 (us:=E8 ({c with wrap:=false,col:=(a.n - 1)})) C3p rfl 0 rfl rfl rfl)) () (mk [false,false,false] rfl) fn0
 refine sr 2 rfl (ip' 2 0 [(33,bv (decide (a.kind=19)))] (ie ?_))
 refine zjd rfl hR ?_ ?_<;>clear hR<;>intro hR h8 h8p
 ·refine sr 5 rfl (zrl 2 3 [1] [(36,iv a.n)] (ix rfl (M4 rfl rfl rfl rfl (by omega)) (zrg 2 0 [2] [] [bx b3 (E8 Cur.zero) 52,bx b2 (A7 a) 26,bx b1 (E8 ({c with wrap:=false,row:=(a.n - 1)})) 52] (ie (A4 5 rfl (zrl 2 3 [1] [(40,iv a.m)] (ix rfl (M4 rfl rfl rfl rfl (by omega)) (zrg 2 0 [2] [] [bx b3 (E8 Cur.zero) 52,bx b2 (A7 a) 26,bx b1 (E8 (⟨(a.n - 1),(a.m - 1),false⟩:Cur)) 52] (A6 (nx (sr 2 rfl (zrg 2 0 [2,0] [] [bx b3 (E8 (⟨(a.n - 1),(a.m - 1),false⟩:Cur)) 52,bx b2 (A7 a) 26,bx b1 (E8 (⟨(a.n - 1),(a.m - 1),false⟩:Cur)) 52] ?_))))))))))))
  subst hR
  refine ie (B2 ?_)
  exact zer hr hD (M3 rfl (D8 (us:=E8 (⟨(a.n - 1),(a.m - 1),false⟩:Cur)) C3p rfl 0 rfl rfl rfl)) () (mk [false,false,false] rfl) fn0
 refine sr 2 rfl (ip' 2 0 [(43,bv (decide (a.kind=20)))] (ie ?_))
 refine zjd rfl hR ?_ ?_<;>clear hR<;>intro hR h9 h9p
 ·have hg:=C8c (n:=a.n) (m:=a.m) (by omega) (by omega)
  refine sh 15 [(15,[bx b3 (E8 Cur.zero) 52]),(15,[bx b2 (A7 a) 26]),(14,[bx b1 (E8 ({c with wrap:=false})) 52])] [] [bx b3 (E8 Cur.zero) 52,bx b2 (A7 a) 26,bx b1 (E8 ({c with wrap:=false})) 52] (zml 15 0) (by kernel_rfl) rfl (by kernel_rfl) (by kernel_rfl) (by kernel_rfl) (mk [true,true,true] rfl) A0.refl ?_
  refine zhp [0,2,5,8] 11 (zml 15 293) [(45,pt b1 0),(47,pt b2 2),(50,pt b2 2),(53,pt b2 1)] ?_
  refine zhl 1 [bx b3 (E8 Cur.zero) 52,bx b2 (A7 a) 26,bx b1 (E8 ({c with wrap:=false})) 52] (zml 15 295) rfl (B1 (v:=iv c.row) ty3 rfl rfl 2 rfl rfl) ?_
  refine zhl 3 [bx b3 (E8 Cur.zero) 52,bx b2 (A7 a) 26,bx b1 (E8 ({c with wrap:=false})) 52] (zml 15 303) rfl (B1 (v:=iv a.m) ty3 rfl rfl 1 rfl rfl) ?_
  refine zhk 4 (zml 15 319) rfl (A4v rfl rfl rfl (by omega)) (zhl 6 [bx b3 (E8 Cur.zero) 52,bx b2 (A7 a) 26,bx b1 (E8 ({c with wrap:=false})) 52] (zml 15 383) rfl (B1 (v:=iv a.m) ty3 rfl rfl 1 rfl rfl) ?_)
  refine zhl 9 [bx b3 (E8 Cur.zero) 52,bx b2 (A7 a) 26,bx b1 (E8 ({c with wrap:=false})) 52] (zml 15 895) rfl (B1 (v:=iv a.n) ty3 rfl rfl 1 rfl rfl) ?_
  refine zho 7 [bx b3 (E8 Cur.zero) 52,bx b2 (A7 a) 26,bx b1 (E8 ({c with wrap:=false})) 52] (zml 15 1023) rfl (B5 (c:=G3) (xs:=([(-a.m),a.m,0,0]:List Int)) H2 rfl rfl rfl (by kernel_rfl)) (fun b10=>(mk [true,true,true] rfl)) (fun b10=>fn0) fun b10=>?_
  have:([(-a.m),a.m,0,0]:List Int).length=4:=rfl
  refine zhk 10 (zml 15 2047) rfl (L6 H2 rfl rfl rfl rfl ((a.n).toNat) (by omega) (by omega)) ?_
  refine zho 11 [bx b3 (E8 Cur.zero) 52,bx b2 (A7 a) 26,bx b1 (E8 ({c with wrap:=false})) 52] (zml 15 4095) rfl (Det.tri (G7.det (C1 (v:=iv (([(-a.m),a.m,0,0]:List Int).getD ((a.n).toNat) 0)) (us:=[iv (([(-a.m),a.m,0,0]:List Int).getD ((a.n).toNat) 0)]) ty3 rfl rfl (N1 (c:=G3) (sz:=1) rfl (fun _=>rfl) 0 rfl (gd 0 (by omega))) rfl))) (fun _=>(mk [true,true,true] rfl)) (fun _=>fn0) fun _=>?_
  refine zhk 12 (zml 15 8191) rfl (B4 rfl rfl rfl rfl (by omega)) ?_
  refine zhp [13] 1 (zml 15 16383) [(58,pt b1 0)] ?_
  refine zho 14 [bx b3 (E8 Cur.zero) 52,bx b2 (A7 a) 26] (zml 15 32767) rfl (N5 (us:=[iv (c.row+(([(-a.m),a.m,0,0]:List Int).getD ((a.n).toNat) 0))]) (cs':=E8 ({c with wrap:=false,row:=(c.row+(([(-a.m),a.m,0,0]:List Int).getD ((a.n).toNat) 0))})) ty3 rfl rfl rfl 2 rfl rfl rfl rfl rfl rfl) (fun _=>(mk [true,true,false] rfl)) (fun _=>fn0) fun _=>?_
  refine A3z (by kernel_rfl) ?_
  refine sh' 15 [(15,[bx b3 (E8 Cur.zero) 52]),(15,[bx b2 (A7 a) 26]),(14,[bx b1 (E8 ({c with wrap:=false,row:=(c.row+(([(-a.m),a.m,0,0]:List Int).getD ((a.n).toNat) 0))})) 52])] [sl G3 (some ⟨b10,0,none⟩) ([(-a.m),a.m,0,0]:List Int)] [bx b3 (E8 Cur.zero) 52,bx b2 (A7 a) 26,bx b1 (E8 ({c with wrap:=false,row:=(c.row+(([(-a.m),a.m,0,0]:List Int).getD ((a.n).toNat) 0))})) 52] (zml 15 0) (by kernel_rfl) rfl (by kernel_rfl) (by kernel_rfl) (by kernel_rfl) (mk [true,true,true] rfl) A0.refl ?_
  refine zhp [0,2,4,8] 11 (zml 15 277) [(59,pt b1 1),(61,pt b2 2),(63,pt b2 2),(67,pt b2 1)] ?_
  refine zhl 1 [bx b3 (E8 Cur.zero) 52,bx b2 (A7 a) 26,bx b1 (E8 ({c with wrap:=false,row:=(c.row+(([(-a.m),a.m,0,0]:List Int).getD ((a.n).toNat) 0))})) 52] (zml 15 279) rfl (B1 (v:=iv c.col) ty3 rfl rfl 2 rfl rfl) ?_
  refine zhl 3 [bx b3 (E8 Cur.zero) 52,bx b2 (A7 a) 26,bx b1 (E8 ({c with wrap:=false,row:=(c.row+(([(-a.m),a.m,0,0]:List Int).getD ((a.n).toNat) 0))})) 52] (zml 15 287) rfl (B1 (v:=iv a.m) ty3 rfl rfl 1 rfl rfl) ?_
  refine zhl 5 [bx b3 (E8 Cur.zero) 52,bx b2 (A7 a) 26,bx b1 (E8 ({c with wrap:=false,row:=(c.row+(([(-a.m),a.m,0,0]:List Int).getD ((a.n).toNat) 0))})) 52] (zml 15 319) rfl (B1 (v:=iv a.m) ty3 rfl rfl 1 rfl rfl) ?_
  refine zhk 6 (zml 15 383) rfl (A4v rfl rfl rfl (by omega)) (zhl 9 [bx b3 (E8 Cur.zero) 52,bx b2 (A7 a) 26,bx b1 (E8 ({c with wrap:=false,row:=(c.row+(([(-a.m),a.m,0,0]:List Int).getD ((a.n).toNat) 0))})) 52] (zml 15 895) rfl (B1 (v:=iv a.n) ty3 rfl rfl 1 rfl rfl) ?_)
  refine zho 7 [bx b3 (E8 Cur.zero) 52,bx b2 (A7 a) 26,bx b1 (E8 ({c with wrap:=false,row:=(c.row+(([(-a.m),a.m,0,0]:List Int).getD ((a.n).toNat) 0))})) 52] (zml 15 1023) rfl (B5 (c:=G3) (xs:=([0,0,a.m,(-a.m)]:List Int)) H2 rfl rfl rfl (by kernel_rfl)) (fun b11=>(mk [true,true,true] rfl)) (fun b11=>(A0.pick [1] rfl)) fun b11=>?_
  have:([0,0,a.m,(-a.m)]:List Int).length=4:=rfl
  refine zhk 10 (zml 15 2047) rfl (L6 H2 rfl rfl rfl rfl ((a.n).toNat) (by omega) (by omega)) ?_
  refine zho 11 [bx b3 (E8 Cur.zero) 52,bx b2 (A7 a) 26,bx b1 (E8 ({c with wrap:=false,row:=(c.row+(([(-a.m),a.m,0,0]:List Int).getD ((a.n).toNat) 0))})) 52] (zml 15 4095) rfl (Det.tri (G7.det (C1 (v:=iv (([0,0,a.m,(-a.m)]:List Int).getD ((a.n).toNat) 0)) (us:=[iv (([0,0,a.m,(-a.m)]:List Int).getD ((a.n).toNat) 0)]) ty3 rfl rfl (N1 (c:=G3) (sz:=1) rfl (fun _=>rfl) 0 rfl (gd 0 (by omega))) rfl))) (fun _=>(mk [true,true,true] rfl)) (fun _=>(A0.pick [1] rfl)) fun _=>?_
  refine zhk 12 (zml 15 8191) rfl (B4 rfl rfl rfl rfl (by omega)) ?_
  refine zhp [13] 1 (zml 15 16383) [(72,pt b1 1)] ?_
  refine zho 14 [bx b3 (E8 Cur.zero) 52,bx b2 (A7 a) 26] (zml 15 32767) rfl (N5 (us:=[iv (c.col+(([0,0,a.m,(-a.m)]:List Int).getD ((a.n).toNat) 0))]) (cs':=E8 (⟨(c.row+(([(-a.m),a.m,0,0]:List Int).getD ((a.n).toNat) 0)),(c.col+(([0,0,a.m,(-a.m)]:List Int).getD ((a.n).toNat) 0)),false⟩:Cur)) ty3 rfl rfl rfl 2 rfl rfl rfl rfl rfl rfl) (fun _=>(mk [true,true,false] rfl)) (fun _=>(A0.pick [1] rfl)) fun _=>?_
  refine B2t (by kernel_rfl) ?_
  refine nx (sr 2 rfl (zrg 2 0 [2,0] [] [bx b3 (E8 (⟨(c.row+(([(-a.m),a.m,0,0]:List Int).getD ((a.n).toNat) 0)),(c.col+(([0,0,a.m,(-a.m)]:List Int).getD ((a.n).toNat) 0)),false⟩:Cur)) 52,bx b2 (A7 a) 26,bx b1 (E8 (⟨(c.row+(([(-a.m),a.m,0,0]:List Int).getD ((a.n).toNat) 0)),(c.col+(([0,0,a.m,(-a.m)]:List Int).getD ((a.n).toNat) 0)),false⟩:Cur)) 52] ?_))
  subst hR
  refine ie (B2 ?_)
  exact zer hr hD (M3 rfl (D8 (us:=E8 (⟨(c.row+(([(-a.m),a.m,0,0]:List Int).getD ((a.n).toNat) 0)),(c.col+(([0,0,a.m,(-a.m)]:List Int).getD ((a.n).toNat) 0)),false⟩:Cur)) C3p rfl 0 rfl rfl rfl)) () (mk [false,false,false] rfl) fn0
 refine B0 (nx (sr 2 rfl (zrg 2 0 [2,0] [] [bx b3 (E8 ({c with wrap:=false})) 52,bx b2 (A7 a) 26,bx b1 (E8 ({c with wrap:=false})) 52] ?_)))
 subst hR
 refine ie (B2 ?_)
 exact zer hr hD (M3 rfl (D8 (us:=E8 ({c with wrap:=false})) C3p rfl 0 rfl rfl rfl)) () (mk [false,false,false] rfl) fn0
end Go.Proofs.YtanighkpfmgnbaaGreatDoor
set_option linter.unusedVariables false
set_option linter.unusedSimpArgs false
set_option linter.unnecessarySimpa false
set_option maxRecDepth 100000
namespace Go.Proofs.YtanighkpfmgnbaaGreatDoor
open Go Go.Fen
def A1c (b:List Act):List Act→Nat→Bool
 | [],i=>true
 | hd_l0::tl_l0,i=>(bif (!(decide (hd_l0=(b.getD i Act.zero)))) then false else A1c b tl_l0 (i+1))
def M1 (a:List Act) (b:List Act):Bool :=
 (bif (!decide ((a.length:Int)=(b.length:Int))) then false else A1c b a 0)
theorem B2n (a:List Act) (b:List Act) (aq:Option Addr) (ak:Nat) (bq:Option Addr) (bk:Nat) (hla:a.length≤9223372036854775807) (hca:a.length≤ak) (hlb:b.length≤9223372036854775807) (hcb:b.length≤bk) (R:Bool) (hR:M1 a b=R):K0 Tryz.prog 29 [.slice aq a.length ak,.slice bq b.length bk] [sl A7 aq a,sl A7 bq b] (bv R):=by
 refine zco Tryz.func29 [(0,.slice aq a.length ak),(1,.slice bq b.length bk)] fun X hX hr hD=>?_
 replace hR:=(M1.eq_1 ..).symm.trans hR
 refine sr 1 rfl (ip' 1 0 [] (ie (A8 (sr 5 rfl (ip' 5 0 [(10,bv (!decide ((a.length:Int)=(b.length:Int))))] (ie ?_))))))
 refine zjn rfl hR ?_ ?_<;>clear hR<;>intro hR h1 h1p
 ·refine sr 1 rfl (ip' 1 0 [(4,bv false)] ?_)
  subst hR
  refine ie (B2 ?_)
  exact G0 hr hD
 refine B0 (nx (A8 (sr 1 rfl (ip' 1 0 [(5,iv 0)] (ie (B3 (C2d (fun (i:Nat)=>(i≤a.length∧A1c b (a.drop i) i=R,[(0,.slice aq a.length ak),(1,.slice bq b.length bk),(5,iv (i:Int))],[],[sl A7 aq a,sl A7 bq b],a.length - i)) 0 ⟨(by omega),hR⟩ (mk [] rfl) A0.refl ?_)))))))
 rintro i ⟨hm2,hR⟩
 refine A8 (sr 4 rfl (ip' 4 0 [(14,bv (decide ((i:Int)<(a.length:Int))))] ?_))
 refine ie (W4 rfl (fun h3=>?_) (fun h3=>?_))
 ·have h3p:(i:Int)<(a.length:Int):=by simpa using h3
  rw [A1s Act.zero (show i<a.length by omega)] at hR;replace hR:=(A1c.eq_2 ..).symm.trans hR
  refine B0 (nx (A8 (B3 (sd 9 rfl (by kernel_rfl) rfl (dp' 2 7 [(17,.slice aq a.length ak),(18,iv (i:Int))] ?_)))))
  refine C5g 0 rfl (by omega) fun a4 hq5=>?_
  refine dd rfl (L6 A2m rfl rfl hq5 rfl i rfl (by omega)) (dd rfl (N2 (us:=A7 (a.getD i Act.zero)) B0l rfl rfl (N1 (c:=A7) (sz:=6) hq5 (fun _=>rfl) 0 rfl (gd Act.zero (by omega))) rfl) (dp' 2 3 [(21,.slice bq b.length bk),(22,iv (i:Int))] ?_))
  refine C5g 1 rfl (by omega) fun a6 hq7=>?_
  refine dd rfl (L6 A2m rfl rfl hq7 rfl i rfl (by omega)) (dd rfl (N2 (us:=A7 (b.getD i Act.zero)) B0l rfl rfl (N1 (c:=A7) (sz:=6) hq7 (fun _=>rfl) 1 rfl (gd Act.zero (by omega))) rfl) (dd rfl (X8 (a:=(a.getD i Act.zero)) (b:=(b.getD i Act.zero)) C7k rfl rfl rfl) (de ?_)))
  refine zjn rfl hR ?_ ?_<;>clear hR<;>intro hR h8 h8p
  ·refine sr 1 rfl (ip' 1 0 [(4,bv false)] ?_)
   subst hR
   refine ie (B2 ?_)
   exact G0 hr hD
  refine B0 (nx (A4 3 rfl (ip' 1 2 [(15,iv (i:Int))] (ix rfl (B4 rfl rfl rfl rfl (by omega)) (ip' 1 0 [(5,iv ((i:Int)+1))] (A6 ?_))))))
  exact C2t (z1:=i) (i+1) ⟨(by omega),hR⟩ (by (try dsimp only);omega) (mk [] rfl) A0.refl
 have h3p:¬ ((i:Int)<(a.length:Int)):=by simpa using h3
 rw [A1p h3p] at hR;replace hR:=(A1c.eq_1 ..).symm.trans hR
 refine H3 (nx (sr 1 rfl (ip' 1 0 [(4,bv true)] ?_)))
 subst hR
 refine ie (B2 ?_)
 exact G0 hr hD
def A3j:Bool :=
 (D5 (A0e 20 9 ({Cur.zero with row:=3,col:=4}) ({Plc.zero with row:=3})) fun (y0:List Act×Int)=>(D5 (A0e 20 9 ({Cur.zero with row:=8,col:=19}) Plc.zero) fun (y1:List Act×Int)=>(D5 (A0e 20 9 ({Cur.zero with row:=9}) Plc.zero) fun (y3:List Act×Int)=>(D5 (X1 20 9 Cur.zero Plc.zero) fun (y2:List (List Act)×Int)=>(((((((decide (y0.2=0))&&(M1 y0.1 ([{Act.zero with kind:=6}]:List Act)))&&(decide (y1.2=0)))&&(M1 y1.1 ([{Act.zero with kind:=19,n:=1,m:=1}]:List Act)))&&(decide (y3.2=2)))&&(decide (y2.2=0)))&&(decide ((y2.1.length:Int)=4)))))))
theorem B8m (R:Bool) (hR:A3j=R):K0 Tryz.prog 25 [] [A8n,A8m,M5,M2,J3,N4] (bv R):=by
 refine zco Tryz.func25 [] fun X hX hr hD=>?_
 replace hR:=(A3j.eq_1 ..).symm.trans hR
 refine sr 1 rfl (ip' 1 0 [] (ie (sr 8 rfl (zrl 2 6 [] [(10,ag (E8 ({Cur.zero with row:=3,col:=4}))),(11,ag (O6 ({Plc.zero with row:=3})))] ?_))))
 have hQ:=D0 hR;clear hR;obtain ⟨y0,hy0,hR⟩:=hQ
 refine zcm (A6n 20 9 ({Cur.zero with row:=3,col:=4}) ({Plc.zero with row:=3}) y0 hy0) A0.refl fun ⟨⟨q1,k2⟩,hp3⟩=>?_
 obtain ⟨hc4,hl5⟩:=hp3
 have hbm:=C0m hy0
 have:=hbm.1;try rw [hy0] at this
 refine ip' 5 0 [(1,.slice q1 y0.1.length k2),(2,iv y0.2)] (ie (sr 8 rfl (zrl 2 6 [] [(16,ag (E8 ({Cur.zero with row:=8,col:=19}))),(17,ag (O6 Plc.zero))] ?_)))
 have hQ:=D0 hR;clear hR;obtain ⟨y1,hy1,hR⟩:=hQ
 refine zcm (A6n 20 9 ({Cur.zero with row:=8,col:=19}) Plc.zero y1 hy1) (A0.pick [1,2,3,4,5,6] rfl) fun ⟨⟨q6,k7⟩,hp8⟩=>?_
 obtain ⟨hc9,hl10⟩:=hp8
 have hbm:=C0m hy1
 have:=hbm.1;try rw [hy1] at this
 refine ip' 5 0 [(3,.slice q6 y1.1.length k7),(4,iv y1.2)] (ie (sr 8 rfl (zrl 2 6 [] [(22,ag (E8 ({Cur.zero with row:=9}))),(23,ag (O6 Plc.zero))] ?_)))
 have hQ:=D0 hR;clear hR;obtain ⟨y3,hy3,hR⟩:=hQ
 refine zcm (A6n 20 9 ({Cur.zero with row:=9}) Plc.zero y3 hy3) (A0.pick [2,3,4,5,6,7] rfl) fun ⟨⟨q11,k12⟩,hp13⟩=>?_
 obtain ⟨hc14,hl15⟩:=hp13
 have hbm:=C0m hy3
 have:=hbm.1;try rw [hy3] at this
 refine ip' 5 0 [(6,iv y3.2)] (ie (sr 8 rfl (zrl 2 6 [] [(28,ag (E8 Cur.zero)),(29,ag (O6 Plc.zero))] ?_)))
 have hQ:=D0 hR;clear hR;obtain ⟨y2,hy2,hR⟩:=hQ
 refine it rfl (C0 (L2:=[]) (B0z 20 9 Cur.zero Plc.zero y2 hy2) rfl rfl rfl rfl rfl fn0 (List.Perm.refl _) (fun ⟨⟨r16,rs17⟩,hp20⟩=>((vo F7 27 r16 rs17)++([]))) (fun _=>by first|rfl|simp)) fun ⟨⟨r16,rs17⟩,hp20⟩=>?_
 try dsimp only at hp20
 obtain ⟨hk18,hw19⟩:=hp20
 have:=VOk.le hk18
 have:=VOk.cap hk18
 have:=hw19.1
 have hwq:=C4x hy2
 have:=hwq.2;try rw [hy2] at this
 refine A3b [] [] (T:=27) (c:=F7) (r:=r16) (xs:=rs17) (VOk.cast hk18 (by rw [hw19.1])) (by first|rfl|simp only [List.flatten_cons,List.flatten_nil,List.cons_append,List.append_assoc,List.nil_append,List.append_nil]) ?_
 refine ip' 5 0 [(7,.slice (va r16.q) y2.1.length r16.k),(8,iv y2.2)] (ie (sr 32 rfl (ip' 3 29 [(35,bv (decide (y0.2=0)))] ?_)))
 refine zid 5 24 35 40 (M1 y0.1 ([{Act.zero with kind:=6}]:List Act)) (fun g21 g21p=>?_) ?_
 ·refine zrl 2 3 [] [(36,.slice q1 y0.1.length k2),(37,ag (A7 ({Act.zero with kind:=6})))] (it rfl (B5 (c:=A7) (xs:=([{Act.zero with kind:=6}]:List Act)) A2m rfl rfl rfl (by kernel_rfl)) fun b22=>?_)
  have:([{Act.zero with kind:=6}]:List Act).length=1:=rfl
  refine zca (B2n y0.1 ([{Act.zero with kind:=6}]:List Act) q1 k2 (some ⟨b22,0,none⟩) 1 (by first|omega|(simp<;>omega)|(dsimp only;omega)|decide) (by first|omega|(simp<;>omega)|(dsimp only;omega)|decide) (by first|omega|(simp<;>omega)|(dsimp only;omega)|decide) (by first|omega|(simp<;>omega)|(dsimp only;omega)|decide) _ rfl) (A0.pick [5,0] rfl) (ip' 1 0 [(40,bv (M1 y0.1 ([{Act.zero with kind:=6}]:List Act)))] ?_)
  exact A6 (Q5 6 35 40 g21 (A0.pick [1,2,3,4,5,6,7,8,9,10,11] rfl) (mk [] rfl) rfl rfl rfl rfl rfl)
 refine ip' 1 23 [(41,bv ((decide (y0.2=0))&&(M1 y0.1 ([{Act.zero with kind:=6}]:List Act))))] ?_
 refine zia 3 20 41 44 (decide (y1.2=0)) (fun g23=>?_) ?_
 ·have g23p:=g23;try simp at g23p
  refine ip' 3 0 [(44,bv (decide (y1.2=0)))] ?_
  exact zai 2 41 44 g23
 refine ip' 1 19 [(45,bv (((decide (y0.2=0))&&(M1 y0.1 ([{Act.zero with kind:=6}]:List Act)))&&(decide (y1.2=0))))] ?_
 refine zia 5 14 45 50 (M1 y1.1 ([{Act.zero with kind:=19,n:=1,m:=1}]:List Act)) (fun g24=>?_) ?_
 ·have g24p:=g24;try simp at g24p
  refine zrl 2 3 [] [(46,.slice q6 y1.1.length k7),(47,ag (A7 ({Act.zero with kind:=19,n:=1,m:=1})))] (it rfl (B5 (c:=A7) (xs:=([{Act.zero with kind:=19,n:=1,m:=1}]:List Act)) A2m rfl rfl rfl (by kernel_rfl)) fun b25=>?_)
  have:([{Act.zero with kind:=19,n:=1,m:=1}]:List Act).length=1:=rfl
  refine zca (B2n y1.1 ([{Act.zero with kind:=19,n:=1,m:=1}]:List Act) q6 k7 (some ⟨b25,0,none⟩) 1 (by first|omega|(simp<;>omega)|(dsimp only;omega)|decide) (by first|omega|(simp<;>omega)|(dsimp only;omega)|decide) (by first|omega|(simp<;>omega)|(dsimp only;omega)|decide) (by first|omega|(simp<;>omega)|(dsimp only;omega)|decide) _ rfl) (A0.pick [4,0] rfl) (ip' 1 0 [(50,bv (M1 y1.1 ([{Act.zero with kind:=19,n:=1,m:=1}]:List Act)))] ?_)
  exact A6 (Q5 6 45 50 g24 (A0.pick [1,2,3,4,5,6,7,8,9,10,11] rfl) (mk [] rfl) rfl rfl rfl rfl rfl)
 refine ip' 1 13 [(51,bv ((((decide (y0.2=0))&&(M1 y0.1 ([{Act.zero with kind:=6}]:List Act)))&&(decide (y1.2=0)))&&(M1 y1.1 ([{Act.zero with kind:=19,n:=1,m:=1}]:List Act))))] ?_
 refine zia 3 10 51 54 (decide (y3.2=2)) (fun g26=>?_) ?_
 ·have g26p:=g26;try simp at g26p
  refine ip' 3 0 [(54,bv (decide (y3.2=2)))] ?_
  exact zai 2 51 54 g26
 refine ip' 1 9 [(55,bv (((((decide (y0.2=0))&&(M1 y0.1 ([{Act.zero with kind:=6}]:List Act)))&&(decide (y1.2=0)))&&(M1 y1.1 ([{Act.zero with kind:=19,n:=1,m:=1}]:List Act)))&&(decide (y3.2=2))))] ?_
 refine zia 3 6 55 58 (decide (y2.2=0)) (fun g27=>?_) ?_
 ·have g27p:=g27;try simp at g27p
  refine ip' 3 0 [(58,bv (decide (y2.2=0)))] ?_
  exact zai 2 55 58 g27
 refine ip' 1 5 [(59,bv ((((((decide (y0.2=0))&&(M1 y0.1 ([{Act.zero with kind:=6}]:List Act)))&&(decide (y1.2=0)))&&(M1 y1.1 ([{Act.zero with kind:=19,n:=1,m:=1}]:List Act)))&&(decide (y3.2=2)))&&(decide (y2.2=0))))] ?_
 refine zia 4 1 59 63 (decide ((y2.1.length:Int)=4)) (fun g28=>?_) ?_
 ·have g28p:=g28;try simp at g28p
  refine ip' 4 0 [(63,bv (decide ((y2.1.length:Int)=4)))] ?_
  exact zai 2 59 63 g28
 refine ip' 1 0 [(0,bv (((((((decide (y0.2=0))&&(M1 y0.1 ([{Act.zero with kind:=6}]:List Act)))&&(decide (y1.2=0)))&&(M1 y1.1 ([{Act.zero with kind:=19,n:=1,m:=1}]:List Act)))&&(decide (y3.2=2)))&&(decide (y2.2=0)))&&(decide ((y2.1.length:Int)=4))))] ?_
 subst hR
 refine ie (B2 ?_)
 exact G0 hr hD
end Go.Proofs.YtanighkpfmgnbaaGreatDoor
set_option linter.unusedVariables false
set_option linter.unusedSimpArgs false
set_option linter.unnecessarySimpa false
set_option maxRecDepth 100000
namespace Go.Proofs.YtanighkpfmgnbaaGreatDoor
open Go Go.Fen
theorem D2p:EqT Tryz.prog 52 E8:=EqT.of 20 rfl (by kernel_rfl) (by kernel_rfl) (fun _ _=>by kernel_rfl) E8.inj
theorem C5r {e:List Act} (h:A7e e) (k:Nat):D0d (e.getD k Act.zero):=by
 rw [List.getD_eq_getElem?_getD]
 cases h3:e[k]? with
 | none=>exact ⟨rfl,show (-1000:Int)≤0 by omega,show (0:Int)≤1000 by omega,show (-1000:Int)≤0 by omega,show (0:Int)≤1000 by omega,fun h=>absurd (show (0:Int)=20 from h) (by decide)⟩
 | some y=>exact h.2 y (List.mem_of_getElem? h3)
def K7 (cols:Int) (rows:Int) (to_:Plc) (t37:Nat) (ag_law25_MotionSteps_l2:Nat→Bool):List Act→Nat→Cur→Bool
 | [],t44,c=>(bif (!(decide (c={Cur.zero with row:=to_.row,col:=to_.col}))) then false else ag_law25_MotionSteps_l2 (t37+1))
 | hd_l3::tl_l3,t44,c=>(bif (!(A0b cols rows (P5 cols rows c hd_l3))) then false else K7 cols rows to_ t37 ag_law25_MotionSteps_l2 tl_l3 (t44+1) (P5 cols rows c hd_l3))
def K1 (cols:Int) (rows:Int) (from_:Cur) (to_:Plc) (y0:List (List Act)×Int):List (List Act)→Nat→Bool
 | [],t37=>(decide ((0:Int)<(y0.1.length:Int)))
 | hd_l2::tl_l2,t37=>K7 cols rows to_ t37 (K1 cols rows from_ to_ y0 tl_l2) hd_l2 0 from_
def Z4 (cols:Int) (rows:Int) (from_:Cur) (to_:Plc):Bool :=
 (bif (!A3j) then false else (D5 (X1 cols rows from_ to_) fun (y0:List (List Act)×Int)=>(bif (!decide (y0.2=0)) then ((decide (y0.2=2))&&(decide ((y0.1.length:Int)=0))) else K1 cols rows from_ to_ y0 y0.1 0)))
theorem B0n (cols:Int) (rows:Int) (from_:Cur) (to_:Plc) (R:Bool) (hR:Z4 cols rows from_ to_=R):K0 Tryz.prog 10 [iv cols,iv rows,ag (E8 from_),ag (O6 to_)] [A8n,A8m,M5,M2,J3,N4] (bv R):=by
 refine zco Tryz.func10 [(0,iv cols),(1,iv rows),(2,ag (E8 from_)),(3,ag (O6 to_))] fun X hX hr hD=>?_
 replace hR:=(Z4.eq_1 ..).symm.trans hR
 refine sr 3 rfl (B5t 3 0 [] (fun b1 b2=>[(6,pt b1 0),(7,pt b2 0)]) (fun b1 b2=>[bx b2 (O6 to_) 54,bx b1 (E8 from_) 52]) (fun b1 b2=>(ie (A8 (sr 2 rfl (zca (B8m _ rfl) A0.refl (ip' 1 0 [(17,bv (!A3j))] (ie ?_))))))))
 refine zjb rfl hR ?_ ?_<;>clear hR<;>intro hR h3
 ·refine sr 1 rfl (ip' 1 0 [(8,bv false)] ?_)
  subst hR
  refine ie (B2 ?_)
  exact G0 hr hD
 refine B0 (nx (sr 10 rfl (zrl 4 6 [1,0] [(19,iv cols),(20,iv rows),(21,ag (E8 from_)),(22,ag (O6 to_))] ?_)))
 have hQ:=D0 hR;clear hR;obtain ⟨y0,hy0,hR⟩:=hQ
 refine it rfl (R1 (L2:=[bx b2 (O6 to_) 54,bx b1 (E8 from_) 52]) (B0z cols rows from_ to_ y0 hy0) rfl rfl rfl rfl rfl fn0 (List.Perm.refl _) (fun ⟨⟨r4,rs5⟩,hp8⟩=>(bx b2 (O6 to_) 54::bx b1 (E8 from_) 52::(vo F7 27 r4 rs5)++([]))) (fun ⟨⟨r4,rs5⟩,hp8⟩=>K4 [vo F7 27 r4 rs5,[bx b2 (O6 to_) 54],[bx b1 (E8 from_) 52]] [1,2,0] 3 rfl (by decide) (by first|rfl|simp) [[bx b2 (O6 to_) 54],[bx b1 (E8 from_) 52],vo F7 27 r4 rs5] rfl (by first|rfl|simp))) fun ⟨⟨r4,rs5⟩,hp8⟩=>?_
 try dsimp only at hp8
 obtain ⟨hk6,hw7⟩:=hp8
 have:=VOk.le hk6
 have:=VOk.cap hk6
 have:=hw7.1
 have hwq:=C4x hy0
 have:=hwq.2;try rw [hy0] at this
 refine A3b [bx b2 (O6 to_) 54,bx b1 (E8 from_) 52] [] (T:=27) (c:=F7) (r:=r4) (xs:=rs5) (VOk.cast hk6 (by rw [hw7.1])) (by first|rfl|simp only [List.flatten_cons,List.flatten_nil,List.cons_append,List.append_assoc,List.nil_append,List.append_nil]) ?_
 refine ip' 5 0 [(9,.slice (va r4.q) y0.1.length r4.k),(10,iv y0.2)] (ie (A8 (sr 2 rfl (ip' 2 0 [(27,bv (!decide (y0.2=0)))] (ie ?_)))))
 refine zjn rfl hR ?_ ?_<;>clear hR<;>intro hR h9 h9p
 ·refine sr 8 rfl (ip' 3 5 [(30,bv (decide (y0.2=2)))] ?_)
  refine zid 4 1 30 34 (decide ((y0.1.length:Int)=0)) (fun g10 g10p=>?_) ?_
  ·refine ip' 4 0 [(34,bv (decide ((y0.1.length:Int)=0)))] ?_
   exact zai 2 30 34 g10
  refine ip' 1 0 [(8,bv ((decide (y0.2=2))&&(decide ((y0.1.length:Int)=0))))] ?_
  subst hR
  refine ie (B2 ?_)
  exact G0 hr hD
 have hbd:=D0c hy0 (by simpa using h9)
 refine B0 (nx (A8 (sr 3 rfl (ip' 3 0 [(35,.slice (va r4.q) y0.1.length r4.k),(36,iv (y0.1.length:Int)),(37,iv 0)] (ie (B3 (C2d (fun (t37:Nat)=>(t37≤y0.1.length∧K1 cols rows from_ to_ y0 (y0.1.drop t37) t37=R,[(0,iv cols),(1,iv rows),(6,pt b1 0),(7,pt b2 0),(9,.slice (va r4.q) y0.1.length r4.k),(35,.slice (va r4.q) y0.1.length r4.k),(36,iv (y0.1.length:Int)),(37,iv (t37:Int))],[bx b2 (O6 to_) 54,bx b1 (E8 from_) 52],[sl F7 (va r4.q) rs5,G5 A7 rs5 y0.1,A8n,A8m,M5,M2,J3,N4],y0.1.length - t37)) 0 ⟨(by omega),hR⟩ (mk [true,true] rfl) A0.refl ?_)))))))
 rintro t37 ⟨hm11,hR⟩
 refine sr 1 rfl (ip' 1 0 [(38,bv (decide ((t37:Int)<(y0.1.length:Int))))] ?_)
 refine ie (A8 (W4 rfl (fun h12=>?_) (fun h12=>?_)))
 ·have h12p:(t37:Int)<(y0.1.length:Int):=by simpa using h12
  rw [A1s [] (show t37<y0.1.length by omega)] at hR;replace hR:=(K1.eq_2 ..).symm.trans hR
  refine B0 (nx (A8 (B3 (sr 3 rfl (O8 0 rfl (by omega) fun a13 hq14=>(C8 (A6r (k:=t37) (d:=(⟨none,0,0⟩:Slc)) hw7 1 rfl (by have:=hw7.1;omega)) ?_))))))
  have:=A7g hw7 (k:=t37) (d:=(⟨none,0,0⟩:Slc)) (by have:=hw7.1;omega)
  refine ix rfl (L6 B1a rfl rfl hq14 rfl t37 rfl (by omega)) (ix rfl (H5 (C1 (v:=.slice ((rs5.getD t37 (⟨none,0,0⟩:Slc)).q) ((rs5.getD t37 (⟨none,0,0⟩:Slc)).n) ((rs5.getD t37 (⟨none,0,0⟩:Slc)).k)) (us:=[.slice ((rs5.getD t37 (⟨none,0,0⟩:Slc)).q) ((rs5.getD t37 (⟨none,0,0⟩:Slc)).n) ((rs5.getD t37 (⟨none,0,0⟩:Slc)).k)]) D2o rfl rfl (N1 (c:=F7) (sz:=1) hq14 (fun _=>rfl) 1 rfl (gd (⟨none,0,0⟩:Slc) (by have:=hw7.1;omega))) rfl) (A7a hw7 (by have:=hw7.1;omega))) (ip' 1 0 [(12,.slice ((rs5.getD t37 (⟨none,0,0⟩:Slc)).q) ((y0.1.getD t37 []).length) ((rs5.getD t37 (⟨none,0,0⟩:Slc)).k))] (ie (sr 3 rfl (N3 3 0 [1,0] (fun b15=>[(13,pt b15 0)]) (fun b15=>[bx b15 (E8 from_) 52,bx b2 (O6 to_) 54,bx b1 (E8 from_) 52]) (fun b15=>(ie (A8 (sr 3 rfl (ip' 3 0 [(42,.slice ((rs5.getD t37 (⟨none,0,0⟩:Slc)).q) ((y0.1.getD t37 []).length) ((rs5.getD t37 (⟨none,0,0⟩:Slc)).k)),(43,iv ((y0.1.getD t37 []).length:Int)),(44,iv 0)] (ie (B3 (D2x (fun (t44:Nat) (c:Cur)=>(t44≤(y0.1.getD t37 []).length∧K7 cols rows to_ t37 (K1 cols rows from_ to_ y0 (y0.1.drop (t37+1))) ((y0.1.getD t37 []).drop t44) t44 c=R∧0≤c.row∧c.row≤100∧0≤c.col∧c.col≤100,[(0,iv cols),(1,iv rows),(6,pt b1 0),(7,pt b2 0),(9,.slice (va r4.q) y0.1.length r4.k),(13,pt b15 0),(35,.slice (va r4.q) y0.1.length r4.k),(36,iv (y0.1.length:Int)),(37,iv (t37:Int)),(42,.slice ((rs5.getD t37 (⟨none,0,0⟩:Slc)).q) ((y0.1.getD t37 []).length) ((rs5.getD t37 (⟨none,0,0⟩:Slc)).k)),(43,iv ((y0.1.getD t37 []).length:Int)),(44,iv (t44:Int))],[bx b15 (E8 c) 52,bx b2 (O6 to_) 54,bx b1 (E8 from_) 52],[sl A7 ((rs5.getD t37 (⟨none,0,0⟩:Slc)).q) (y0.1.getD t37 []),sl F7 (va r4.q) rs5,G5 A7 rs5 y0.1,A8n,A8m,M5,M2,J3,N4],(y0.1.getD t37 []).length - t44)) 0 from_ ⟨(by omega),hR,(by omega)⟩ (mk [true,true,true] rfl) A0.refl ?_)))))))))))))
  rintro t44 c ⟨hm16,hR,hcb⟩
  have hab:=C5r (B9e hwq.1 t37) t44
  refine sr 1 rfl (ip' 1 0 [(45,bv (decide ((t44:Int)<((y0.1.getD t37 []).length:Int))))] ?_)
  refine ie (A8 (W4 rfl (fun h17=>?_) (fun h17=>?_)))
  ·have h17p:(t44:Int)<((y0.1.getD t37 []).length:Int):=by simpa using h17
   rw [A1s Act.zero (show t44<(y0.1.getD t37 []).length by omega)] at hR;replace hR:=(K7.eq_2 ..).symm.trans hR
   refine B0 (nx (A8 (B3 (sr 4 rfl (O8 0 rfl (by omega) fun a18 hq19=>(ix rfl (L6 A2m rfl rfl hq19 rfl t44 rfl (by omega)) (ix rfl (N2 (us:=A7 ((y0.1.getD t37 []).getD t44 Act.zero)) B0l rfl rfl (N1 (c:=A7) (sz:=6) hq19 (fun _=>rfl) 0 rfl (gd Act.zero (by omega))) rfl) ?_)))))))
   refine N3 2 0 [0] (fun b20=>[(15,pt b20 0)]) (fun b20=>[bx b20 (A7 ((y0.1.getD t37 []).getD t44 Act.zero)) 26,bx b15 (E8 c) 52,bx b2 (O6 to_) 54,bx b1 (E8 from_) 52]) (fun b20=>?_)
   refine ie (sr 6 rfl (zrl 4 2 [1,0] [(48,iv cols),(49,iv rows),(50,ag (E8 c)),(51,ag (A7 ((y0.1.getD t37 []).getD t44 Act.zero)))] (zca (C0d cols rows c ((y0.1.getD t37 []).getD t44 Act.zero) (by omega) (by first|exact hab.2|omega) _ rfl) fn0 (zrg 1 0 [1] [] [bx b20 (A7 ((y0.1.getD t37 []).getD t44 Act.zero)) 26,bx b15 (E8 (P5 cols rows c ((y0.1.getD t37 []).getD t44 Act.zero))) 52,bx b2 (O6 to_) 54,bx b1 (E8 from_) 52] (ie (sr 5 rfl (zrl 3 2 [1] [(53,iv cols),(54,iv rows),(55,ag (E8 (P5 cols rows c ((y0.1.getD t37 []).getD t44 Act.zero))))] (zca (C4i cols rows (P5 cols rows c ((y0.1.getD t37 []).getD t44 Act.zero)) _ rfl) fn0 (ip' 1 0 [(57,bv (!(A0b cols rows (P5 cols rows c ((y0.1.getD t37 []).getD t44 Act.zero)))))] (ie ?_))))))))))
   refine zjb rfl hR ?_ ?_<;>clear hR<;>intro hR h21
   ·refine sr 1 rfl (ip' 1 0 [(8,bv false)] ?_)
    subst hR
    refine ie (B2 ?_)
    exact G0 hr hD
   have hib:=D3g (by have q:=h21;rw [Bool.not_eq_false'] at q;exact q)
   refine B0 (nx (A4 2 rfl (ix rfl (B4 rfl rfl rfl rfl (by omega)) (ip' 1 0 [(44,iv ((t44:Int)+1))] (A6 ?_)))))
   exact D2v (z1:=t44) (z2:=c) (t44+1) (P5 cols rows c ((y0.1.getD t37 []).getD t44 Act.zero)) ⟨(by omega),hR,(by omega)⟩ (by (try dsimp only);omega) (mk [false,true,true,true] rfl) A0.refl
  have h17p:¬ ((t44:Int)<((y0.1.getD t37 []).length:Int)):=by simpa using h17
  rw [A1p h17p] at hR;replace hR:=(K7.eq_1 ..).symm.trans hR
  refine H3 (nx (sr 7 rfl (zrl 6 1 [0,1,1] [(59,ag (E8 c)),(64,ag (E8 ({Cur.zero with row:=to_.row,col:=to_.col})))] ?_)))
  refine ix rfl (X8 (a:=c) (b:={Cur.zero with row:=to_.row,col:=to_.col}) D2p rfl rfl rfl) (ie ?_)
  refine zjn rfl hR ?_ ?_<;>clear hR<;>intro hR h22 h22p
  ·refine sr 1 rfl (ip' 1 0 [(8,bv false)] ?_)
   subst hR
   refine ie (B2 ?_)
   exact G0 hr hD
  refine B0 (nx (A4 2 rfl (ix rfl (B4 rfl rfl rfl rfl (by omega)) (ip' 1 0 [(37,iv ((t37:Int)+1))] (A6 ?_)))))
  exact C2t (z1:=t37) (t37+1) ⟨(by omega),hR⟩ (by (try dsimp only);omega) (mk [false,true,true] rfl) (A0.pick [1,2,3,4,5,6,7,8] rfl)
 have h12p:¬ ((t37:Int)<(y0.1.length:Int)):=by simpa using h12
 rw [A1p h12p] at hR;replace hR:=(K1.eq_1 ..).symm.trans hR
 refine H3 (nx (sr 4 rfl (ip' 4 0 [(8,bv (decide ((0:Int)<(y0.1.length:Int))))] ?_)))
 subst hR
 refine ie (B2 ?_)
 exact G0 hr hD
end Go.Proofs.YtanighkpfmgnbaaGreatDoor
